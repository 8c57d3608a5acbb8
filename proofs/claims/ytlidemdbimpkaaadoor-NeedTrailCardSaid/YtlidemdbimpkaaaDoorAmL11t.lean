/- Walks: NeedTrail. -/
import Derived.Test.YtlidemdbimpkaaaDoorAmL11t2
import Derived.Test.YtlidemdbimpkaaaDoorAmJn
import Derived.Test.YtlidemdbimpkaaaDoorAmGL11W
import Derived.Test.YtlidemdbimpkaaaDoorAmAwk
open Nat (reduceAdd reduceMul)
open Int (reduceToNat)
set_option linter.unusedSimpArgs false
set_option linter.unusedVariables false
namespace Am.F
open Go Am
section
variable {β:Type} {t:ETree} {p:List Df}
set_option maxHeartbeats 1000000 in
theorem GL11.w123(TL:GL11 t)(TN:GN11 t)(TM:GNM t)(TC:GC t)(T:GA t)(L:GI t)(hA:t.get 141=some (eAw 141)){h:H}{pv:AV}{p:List Df}(hp:LAt 2 DfC h pv p)(hl:p.length<=9223372036854775807)(hl2:∀d ∈ p,d.body.length<=9223372036854775807)(n:Nat)(hn:6000<=n)(fuel:Int) :
  Sp (β:=β) (zd t stdI n (.fn 123 []) [.agg [pv],.int .i64 fuel] h) λu h'=>u = .bool true:=by
 intro k R hk;obtain⟨m,rfl⟩:∃m,n=m+2:=⟨n-2,by omega⟩
 have haw:=λ(hh:H) (kk:K β)=>awk_q (β:=β) (k:=141) rfl hA m hh kk
 have hbx:∀(hh:H) (kk:K β),qBox 0 (.agg [pv]) hh (.mk kk)=kk (.ptr hh.n 0) (hh.push (.own 0 [pv])):=λhh kk=>zV 0 _ hh kk
 obtain⟨h0,hh0⟩:∃h0,h0=h.push (.own 0 [pv]):=⟨_,rfl⟩
 have e0:Ext h h0:=by rw[hh0];exact (Ext.refl h).push _
 have hb0:h.push (.own 0 [pv])=h0:=hh0.symm;have n0:h.n<h0.n:=by rw[hh0,H.n_push];omega
 have g0:(h0.get h.n) = .own 0 [pv]:=by rw[hh0];exact ze rfl
 have c0:(h0.get h.n).cells=some [pv]:=by rw[g0];rfl
 have W:=TN.w136 (β:=β) TM TC T L (fuel:=fuel) ⟨pv,rfl,hp.ext DfC.stays e0⟩ hl hl2 (m+1) (by omega);rw[TL.c123];unfold f123;simp (disch:=first|omega|simp only[zD]<;>omega|assumption) only[↓zR,↓zRM,zR,zRM,reduceAdd,reduceMul,reduceToNat,↓f123_J1,↓hbx,hb0,haw,c0];refine W _ _ ?_;intro u h2 ⟨g2,e2,u2,q1,q2⟩
 by_cases may:zg8 p fuel
 case neg=>
  have:=q2 may
  subst this;simp (disch:=first|omega|simp only[zD]<;>omega|assumption) only[↓zR,↓zRM,zR,zRM,reduceAdd,reduceMul,reduceToNat,T.w16];exact hk _ _ (by simp)
 obtain⟨v,rfl,hv⟩:=q1 may;obtain⟨hpm,hf0,hf1⟩:=may;obtain⟨r1,r2,r3,r4⟩:=zju hpm (fuel:=fuel.toNat) (by omega);have hv2:=hv.un NdC.staysU u2;have lv:=hv2.len (β:=β);generalize runQ p fuel.toNat=rq at r1 r2 r3 r4 hv hv2 lv;obtain⟨err,ns⟩:=rq
 by_cases he:err=0
 case neg=>
  have hz:=r1 he;have hz':ns.length=0:=by
   have:ns=[]:=hz
   rw[this];rfl
  simp (disch:=first|omega|simp only[zD]<;>omega|assumption) only[↓zR,↓zRM,zR,zRM,reduceAdd,reduceMul,reduceToNat,T.w16,eq_false he,lv,hz'];exact hk _ _ (by simp)
 have hpos:0<ns.length:=r2 he;have hle:ns.length<=401:=r3;have c2:(h2.get h.n).cells=some [pv]:=by
  rw[u2.get h.n (Nat.lt_of_lt_of_le n0 e2.n) (by rw[e2.get _ n0,g0];intro hh;cases hh),e2.get _ n0,g0];rfl
 have hp2:=(hp.ext DfC.stays (e0.trans e2)).un DfC.staysU u2;simp (disch:=first|omega|simp only[zD]<;>omega|assumption) only[↓zR,↓zRM,zR,zRM,reduceAdd,reduceMul,reduceToNat,T.w16,eq_true he,lv,↓f123_J6,eq_false (show ¬ (ns.length:Int)=0 by omega),eq_false (show ¬ (ns.length:Int)>401 by omega)];unfold f123_J7;simp (disch:=first|omega|simp only[zD]<;>omega|assumption) only[↓zR,↓zRM,zR,zRM,reduceAdd,reduceMul,reduceToNat];refine zab 14 (m+1) _ _ (λi x0 x1 x2 x3 x4 x5 x6 x7 x8 x9 x10 x11 x12 x13 h'=>x2 = .ptr h.n 0/\x4=v/\Ext h2 h'/\∃q:Nat,x6 = .int .i64 (q:Int)/\q+i=ns.length) ns.length (by omega) ?_ _ _ _ _ _ _ _ _ _ _ _ _ _ _ _ ⟨rfl,rfl,Ext.refl h2,0,rfl,by omega⟩;intro l i ih x0 x1 x2 x3 x4 x5 x6 x7 x8 x9 x10 x11 x12 x13 h' ⟨p0,p1,e,q,p4,hq⟩;rw[p0,p1,p4];clear p0 p1 p4;cases i with
 | zero=>
  simp (disch:=first|omega|simp only[zD]<;>omega|assumption) only[↓zR,↓zRM,zR,zRM,reduceAdd,reduceMul,reduceToNat,↓f123_L9,lv,↓f123_J8,eq_false (show ¬ (q:Int)<(ns.length:Int) by omega)];exact hk _ _ rfl
 | succ i=>
  obtain⟨x,hx⟩:∃x,ns[q]?=some x:=⟨_,List.getElem?_eq_getElem (by omega)⟩
  have nd:=r4 q x hx;have hargs:x.args.length<=1000:=by
   have h1:=nd.args;have h2:=nd.fn1;have h3:=nd.fn0;obtain⟨df,hdf⟩:∃df,p[x.fn.toNat]?=some df:=⟨_,List.getElem?_eq_getElem (by omega)⟩
   rw[zhD hdf] at h1;have:=zkO hpm hdf
   omega
  have J:=λy0 y1 y3 y5 y7 y8 y9 y10 y11 y12 y13=>j123b (β:=β) (p:=p) (m:=m+1) (j:=(q:Int)) (hj:=rfl) T (by omega) (hv2.ext NdC.stays e) hx nd hargs (hp2.ext DfC.stays e) (Nat.lt_of_lt_of_le (Nat.lt_of_lt_of_le n0 e2.n) (Nat.le_trans u2.n e.n)) (by rw[e.get _ (Nat.lt_of_lt_of_le (Nat.lt_of_lt_of_le n0 e2.n) u2.n)];exact c2) k l R (λh3 e3 z0 z1 z3 z5 z7 z8 z9 z10 z11 z12 z13=>ih i (by omega) z0 z1 _ z3 _ z5 _ z7 z8 z9 z10 z11 z12 z13 _ ⟨rfl,rfl,e.trans e3,q+1,by rw[Int.natCast_add];rfl,by omega⟩) (by omega) (x0:=y0) (x1:=y1) (x3:=y3) (x5:=y5) (x7:=y7) (x8:=y8) (x9:=y9) (x10:=y10) (x11:=y11) (x12:=y12) (x13:=y13)
  simp (disch:=first|omega|simp only[zD]<;>omega|assumption) only[↓zR,↓zRM,zR,zRM,reduceAdd,reduceMul,reduceToNat,↓f123_L9,lv,eq_true (show (q:Int)<(ns.length:Int) by omega)];exact J _ _ _ _ _ _ _ _ _ _ _
end
end Am.F
