/- Walks: NeedShown. -/
import Derived.Test.YtlidemdbimpkaaaDoorAmJn
import Derived.Test.YtlidemdbimpkaaaDoorAmNl1
import Derived.Test.YtlidemdbimpkaaaDoorAmGL11W
import Derived.Test.YtlidemdbimpkaaaDoorAmAwk
open Nat (reduceAdd reduceMul)
open Int (reduceToNat)
set_option linter.unusedSimpArgs false
set_option linter.unusedVariables false
namespace Am.F
open Go Am
section
variable {β:Type} {t:ETree} {p:List Df}
theorem zjd{p:List Df}(hp:zt p=true){fuel:Nat}(hf:fuel<=400)(h0:(runQ p fuel).1=0):∃x ns,(runQ p fuel).2=x::ns/\x.res.length<=1024/\((95:UInt8) ∉ x.res\/(33:UInt8) ∈ x.res):=by
 have RN:=zhg hp fuel;rcases zje hp hf with⟨h1,h2,_⟩|⟨h1,h2⟩|⟨h1,ho,h2,h3⟩
 ·rw[h1] at h0;cases h0
 ·rw[h1] at h0;cases h0
 ·obtain⟨r,hr,hz⟩:=RN.c0;cases hc:(runS p fuel).calls with
  | nil=>rw[hc] at hr;cases hr
  | cons c cs=>
   rw[hc] at hr h2 h3;obtain rfl:c=r:=by simpa using hr
   obtain⟨_,w,hw,hwl,hwr⟩:=(h3 _ List.mem_cons_self).texts;rw[hz] at hw;refine⟨ndM (runS p fuel) c,cs.map (ndM (runS p fuel)),h2,?_,?_⟩
   ·rw[hwr];exact hwl
   ·rw[hwr];exact zkd hp ho hw
def hasB(b:UInt8)(s:List UInt8)(n:Nat):Bool:=decide (b ∈ s.take n)
theorem zgy(b:UInt8)(s:List UInt8)(n:Nat)(h:n<s.length):hasB b s (n+1)=(hasB b s n||decide (s.getD n 0=b)):=by
 have e:s.getD n 0=s[n]:=by rw[List.getD_eq_getElem?_getD,List.getElem?_eq_getElem h];rfl
 unfold hasB;rw[e,Bool.eq_iff_iff,Bool.or_eq_true,decide_eq_true_iff,decide_eq_true_iff,decide_eq_true_iff,List.take_add_one,List.getElem?_eq_getElem h];refine⟨λhm=>?_,λhm=>?_⟩
 ·rcases List.mem_append.1 hm with x|x
  ·exact .inl x
  ·exact .inr (List.mem_singleton.1 x).symm
 ·rcases hm with x|x
  ·exact List.mem_append_left _ x
  ·exact List.mem_append_right _ (List.mem_singleton.2 x.symm)
theorem zk4(s:List UInt8)(q:Nat)(b:UInt8):decide (s.getD q 0=b)=decide ((bt s q:Int)=(b.toNat:Int)):=by
 rw[decide_eq_decide];unfold bt;constructor
 ·intro h;rw[h]
 ·intro h;exact UInt8.toNat_inj.1 (by omega)
theorem ziD(b:UInt8)(s:List UInt8):hasB b s s.length=decide (b ∈ s):=by
 unfold hasB;rw[List.take_length]
theorem zgx(b:UInt8)(s:List UInt8):hasB b s 0=false:=by
 unfold hasB;rw[List.take_zero];rfl
set_option maxHeartbeats 1000000 in
theorem GL11.w125(TL:GL11 t)(TN:GN11 t)(TM:GNM t)(TC:GC t)(T:GA t)(L:GI t)(hA:t.get 141=some (eAw 141)){h:H}{pv:AV}{p:List Df}(hp:LAt 2 DfC h pv p)(hl:p.length<=9223372036854775807)(hl2:∀d ∈ p,d.body.length<=9223372036854775807)(n:Nat)(hn:6000<=n)(fuel:Int) :
  Sp (β:=β) (zd t stdI n (.fn 125 []) [.agg [pv],.int .i64 fuel] h) λu h'=>u = .bool true:=by
 intro k R hk;obtain⟨m,rfl⟩:∃m,n=m+2:=⟨n-2,by omega⟩
 have haw:=λ(hh:H) (kk:K β)=>awk_q (β:=β) (k:=141) rfl hA m hh kk
 have hbx:∀(hh:H) (kk:K β),qBox 0 (.agg [pv]) hh (.mk kk)=kk (.ptr hh.n 0) (hh.push (.own 0 [pv])):=λhh kk=>zU 0 _ hh kk
 obtain⟨h0,hh0⟩:∃h0,h0=h.push (.own 0 [pv]):=⟨_,rfl⟩
 have e0:Ext h h0:=by rw[hh0];exact (Ext.refl h).push _
 have hb0:h.push (.own 0 [pv])=h0:=hh0.symm;have n0:h.n<h0.n:=by rw[hh0,H.n_push];omega
 have g0:(h0.get h.n) = .own 0 [pv]:=by rw[hh0];exact zf rfl
 have c0:(h0.get h.n).cells=some [pv]:=by rw[g0];rfl
 have W:=TN.w136 (β:=β) TM TC T L (fuel:=fuel) ⟨pv,rfl,hp.ext DfC.stays e0⟩ hl hl2 (m+1) (by omega);rw[TL.c125];unfold f125;simp (disch:=first|omega|simp only[zD]<;>omega|assumption) only[↓zR,↓zRM,zR,zRM,reduceAdd,reduceMul,reduceToNat,↓f125_J1,↓hbx,hb0,haw,c0];refine W _ _ ?_;intro u h2 ⟨g2,e2,u2,q1,q2⟩
 by_cases may:zgZ p fuel
 case neg=>
  have:=q2 may
  subst this;simp (disch:=first|omega|simp only[zD]<;>omega|assumption) only[↓zR,↓zRM,zR,zRM,reduceAdd,reduceMul,reduceToNat,T.w16];exact hk _ _ (by simp)
 obtain⟨v,rfl,hv⟩:=q1 may;obtain⟨hpm,hf0,hf1⟩:=may;have r1:=zjd hpm (fuel:=fuel.toNat) (by omega);have hv2:=hv.un NdC.staysU u2;have lv:=hv2.len (β:=β);generalize runQ p fuel.toNat=rq at r1 hv hv2 lv;obtain⟨err,ns⟩:=rq
 by_cases he:err=0
 case neg=>
  simp (disch:=first|omega|simp only[zD]<;>omega|assumption) only[↓zR,↓zRM,zR,zRM,reduceAdd,reduceMul,reduceToNat,T.w16,eq_false he,lv];exact hk _ _ (by simp)
 obtain⟨x,ns',hns,xl,xs⟩:=r1 he;have hns:ns=x::ns':=hns;subst hns;obtain⟨b,o,cs,a1,a2,w,rfl,a3⟩:=hv2.at (β:=β) (j:=0) (x:=x) rfl;obtain⟨us,b1,b2,b3,b4⟩:=a2.get;have b5:=b4 3 _ rfl;have a1:∀k:VK β,zM 4 v (.int .i64 0) (.mk k)=k (.ptr b o):=a1;have lpos:¬ (((x::ns').length:Nat):Int)=0:=by rw[List.length_cons];omega
 simp (disch:=first|omega|simp only[zD]<;>omega|assumption) only[↓zR,↓zRM,zR,zRM,reduceAdd,reduceMul,reduceToNat,T.w16,eq_true he,lv,↓f125_J6,eq_false lpos];refine zal 12 (m+1) _ _ (λi x0 x1 x2 x3 x4 x5 x6 x7 x8 x9 x10 x11 h'=>x4=v/\h'=h2/\∃q:Nat,x6 = .bool (hasB 95 x.res q)/\x7 = .bool (hasB 33 x.res q)/\x8 = .int .i64 (q:Int)/\q+i=x.res.length) x.res.length (by omega) ?_ _ _ _ _ _ _ _ _ _ _ _ _ _ ⟨rfl,rfl,0,by rw[zgx],by rw[zgx],rfl,by omega⟩;intro l i ih x0 x1 x2 x3 x4 x5 x6 x7 x8 x9 x10 x11 h' ⟨p0,p1,q,p2,p3,p4,hq⟩;rw[p0,p1,p2,p3,p4];clear p0 p1 p2 p3 p4;cases i with
 | zero=>
  have hqe:q=x.res.length:=by omega
  subst hqe;have fin:(!hasB 95 x.res x.res.length||hasB 33 x.res x.res.length)=true:=by
   rw[ziD,ziD];rcases xs with h|h
   ·rw[decide_eq_false h];rfl
   ·rw[decide_eq_true h,Bool.or_true]
  cases h95:hasB 95 x.res x.res.length with
  | false=>
   simp (disch:=first|omega|simp only[zD]<;>omega|assumption) only[↓zR,↓zRM,zR,zRM,reduceAdd,reduceMul,reduceToNat,↓f125_L10,↓f125_J7,a1,b1,b5];exact hk _ _ rfl
  | true=>
   rw[h95] at fin;have h33:hasB 33 x.res x.res.length=true:=by simpa using fin
   rw[h33];simp (disch:=first|omega|simp only[zD]<;>omega|assumption) only[↓zR,↓zRM,zR,zRM,reduceAdd,reduceMul,reduceToNat,↓f125_L10,↓f125_J7,a1,b1,b5];exact hk _ _ rfl
 | succ i=>
  have hql:q<x.res.length:=by omega
  have hql':(q:Int)<(x.res.length:Int):=by omega
  have s1:=zgy 95 x.res q hql;have s2:=zgy 33 x.res q hql;have fin:=ih i (by omega) .any .any .any .any v .any (.bool (hasB 95 x.res (q+1))) (.bool (hasB 33 x.res (q+1))) (.int .i64 ((q:Int)+1)) .any .any .any h2 ⟨rfl,rfl,q+1,rfl,rfl,by rw[Int.natCast_add];rfl,by omega⟩;have d1:decide (x.res.getD q 0=95)=decide ((bt x.res q:Int)=95):=zk4 x.res q 95;have d2:decide (x.res.getD q 0=33)=decide ((bt x.res q:Int)=33):=zk4 x.res q 33;rw[s1,s2,d1,d2] at fin;cases h95:hasB 95 x.res q<;>cases h33:hasB 33 x.res q<;>rw[h95,h33] at fin<;>simp only[Bool.false_or,Bool.true_or] at fin
  ·simp (disch:=first|omega|simp only[zD]<;>omega|assumption) only[↓zR,↓zRM,zR,zRM,reduceAdd,reduceMul,reduceToNat,↓f125_L10,↓f125_J11,↓f125_J12,a1,b1,b5,eq_true hql'];exact fin
  ·simp (disch:=first|omega|simp only[zD]<;>omega|assumption) only[↓zR,↓zRM,zR,zRM,reduceAdd,reduceMul,reduceToNat,↓f125_L10,↓f125_J11,↓f125_J12,a1,b1,b5,eq_true hql'];exact fin
  ·simp (disch:=first|omega|simp only[zD]<;>omega|assumption) only[↓zR,↓zRM,zR,zRM,reduceAdd,reduceMul,reduceToNat,↓f125_L10,↓f125_J11,↓f125_J12,a1,b1,b5,eq_true hql'];exact fin
  ·simp (disch:=first|omega|simp only[zD]<;>omega|assumption) only[↓zR,↓zRM,zR,zRM,reduceAdd,reduceMul,reduceToNat,↓f125_L10,↓f125_J11,↓f125_J12,a1,b1,b5,eq_true hql'];exact fin
end
end Am.F
