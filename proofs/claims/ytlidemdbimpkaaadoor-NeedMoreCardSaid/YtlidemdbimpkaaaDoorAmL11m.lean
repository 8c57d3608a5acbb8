/- Walks: NeedMore. -/
import Derived.Test.YtlidemdbimpkaaaDoorAmJn
import Derived.Test.YtlidemdbimpkaaaDoorAmNl2
import Derived.Test.YtlidemdbimpkaaaDoorAmGL11W
import Derived.Test.YtlidemdbimpkaaaDoorAmAwk
import Derived.Test.YtlidemdbimpkaaaDoorAmFu
import Derived.Test.YtlidemdbimpkaaaDoorAmSm
open Nat (reduceAdd reduceMul)
open Int (reduceToNat)
set_option linter.unusedSimpArgs false
set_option linter.unusedVariables false
namespace Am.F
open Go Am
section
variable {β:Type} {t:ETree} {p:List Df}
theorem zkF{p:List Df}(hp:zp p=true){fuel:Nat}(hf:fuel<=400):(runQ p fuel).2.length<=401/\∀x ∈ (runQ p fuel).2,x.args.length<=8:=by
 obtain⟨_,_,r3,r4⟩:=zjC hp hf;refine⟨r3,λx hx=>?_⟩;obtain⟨q,hq⟩:=List.mem_iff_getElem?.1 hx;have nd:=r4 q x hq;have h1:=nd.args;have h2:=nd.fn1;have h3:=nd.fn0;obtain⟨df,hdf⟩:∃df,p[x.fn.toNat]?=some df:=⟨_,List.getElem?_eq_getElem (by omega)⟩
 rw[zhO hdf] at h1;have:=zk1 hp hdf
 omega
set_option maxHeartbeats 1000000 in
theorem GL11.w124(TL:GL11 t)(TN:GN11 t)(TM:GNM t)(TP:GP t)(TB:GB t)(TC:GC t)(T:GA t)(L:GI t)(hA:t.get 141=some (eAw 141)){h:H}{pv:AV}{p:List Df}(hp:LAt 2 DfC h pv p)(hl:p.length<=9223372036854775807)(hl2:∀d ∈ p,d.body.length<=9223372036854775807)(n:Nat)(hn:6000<=n)(a b:Int) :
  Sp (β:=β) (zd t stdI n (.fn 124 []) [.agg [pv],.int .i64 a,.int .i64 b] h) λu h'=>u = .bool true:=by
 intro k R hk;obtain⟨m,rfl⟩:∃m,n=m+2:=⟨n-2,by omega⟩
 have haw:=λ(hh:H) (kk:K β)=>awk_q (β:=β) (k:=141) rfl hA m hh kk
 have hbx:∀(hh:H) (kk:K β),qBox 0 (.agg [pv]) hh (.mk kk)=kk (.ptr hh.n 0) (hh.push (.own 0 [pv])):=λhh kk=>zP 0 _ hh kk
 obtain⟨h0,hh0⟩:∃h0,h0=h.push (.own 0 [pv]):=⟨_,rfl⟩
 have e0:Ext h h0:=by rw[hh0];exact (Ext.refl h).push _
 have hb0:h.push (.own 0 [pv])=h0:=hh0.symm;have n0:h.n<h0.n:=by rw[hh0,H.n_push];omega
 have g0:(h0.get h.n) = .own 0 [pv]:=by rw[hh0];exact zf rfl
 have c0:(h0.get h.n).cells=some [pv]:=by rw[g0];rfl
 have fa:=zgW a;have fb:=zgW b
 have cf:∀(x:Int) (kk:VK β),0<=zcT x/\zcT x<=400->ze2 .i64 (.int .u64 ((IntKind.u64.wrap x).tmod 401)) (.mk kk)=kk (.int .i64 (zcT x)):=λx kk hx=>zgD (by show _<=zcT x;omega) (by show zcT x<_;omega) kk
 have cfa:=λkk:VK β=>cf a kk fa
 have cfb:=λkk:VK β=>cf b kk fb
 generalize hx:zcT a=x at fa cfa;generalize hy:zcT b=y at fb cfb;have W1:=TN.w136 (β:=β) TM TC T L (fuel:=min x y) ⟨pv,rfl,hp.ext DfC.stays e0⟩ hl hl2 (m+1) (by omega);rw[TL.c124];unfold f124;simp (disch:=first|omega|simp only[zD]<;>omega|assumption) only[↓zR,↓zRM,zR,zRM,reduceAdd,reduceMul,reduceToNat,↓f124_J1,↓hbx,hb0,haw,u64c,rem401,cfa,cfb,c0];refine W1 _ _ ?_;intro u1 h1 ⟨g1,e1,un1,p1,p2⟩;have hp1:=(hp.ext DfC.stays (e0.trans e1)).un DfC.staysU un1;have cl1:h1.get h.n = .own 0 [pv]:=by rw[un1.get h.n (Nat.lt_of_lt_of_le n0 e1.n) (by rw[e1.get _ n0,g0];intro hh;cases hh),e1.get _ n0,g0]
 have c1:(h1.get h.n).cells=some [pv]:=by rw[cl1];rfl
 have W2:=TN.w136 (β:=β) TM TC T L (fuel:=max x y) ⟨pv,rfl,hp1⟩ hl hl2 (m+1) (by omega)
 by_cases hpm:zp p=true
 case neg=>
  have:=p2 λhh=>hpm hh.1
  subst this;simp (disch:=first|omega|simp only[zD]<;>omega|assumption) only[↓zR,↓zRM,zR,zRM,reduceAdd,reduceMul,reduceToNat,c1];refine W2 _ _ ?_;intro u2 h2 ⟨g2,e2,un2,q1,q2⟩;have:=q2 λhh=>hpm hh.1
  subst this;simp (disch:=first|omega|simp only[zD]<;>omega|assumption) only[↓zR,↓zRM,zR,zRM,reduceAdd,reduceMul,reduceToNat,T.w16];refine TP.w138 TB T (m+1) (xs:=[]) (.inl ⟨rfl,rfl⟩) (.inl ⟨rfl,rfl⟩) 0 (λx hx=>by cases hx) (by simp;omega) (by simp) (by omega) _ _ ?_;intro u3 h3 ⟨e3,e4⟩;subst e4;exact hk _ _ rfl
 have may1:zfw p (min x y):=⟨hpm,by omega,by omega⟩
 have may2:zfw p (max x y):=⟨hpm,by omega,by omega⟩
 obtain⟨v1,rfl,hv1⟩:=p1 may1;have lv1:=(hv1.un NdC.staysU un1).len (β:=β);have more:=zkD hpm (f:=(min x y).toNat) (g:=(max x y).toNat) (by omega) (by omega);have args:=zkF hpm (fuel:=(min x y).toNat) (by omega);generalize runQ p (min x y).toNat=r1 at more args hv1 lv1;obtain⟨er1,ns1⟩:=r1;simp (disch:=first|omega|simp only[zD]<;>omega|assumption) only[↓zR,↓zRM,zR,zRM,reduceAdd,reduceMul,reduceToNat,c1];refine W2 _ _ ?_;intro u2 h2 ⟨g2,e2,un2,q1,q2⟩;obtain⟨v2,rfl,hv2⟩:=q1 may2;generalize runQ p (max x y).toNat=r2 at more hv2;obtain⟨er2,ns2⟩:=r2;rcases more with⟨m1,m2⟩|⟨m1,m2⟩
 ·have m1:er1=1101:=m1;have m2:ns1=[]:=m2;subst m1 m2;simp (disch:=first|omega|simp only[zD]<;>omega|assumption) only[↓zR,↓zRM,zR,zRM,reduceAdd,reduceMul,reduceToNat,T.w16,lv1];exact hk _ _ (by simp)
 ·have m1:er1≠1101:=m1;cases m2;have hu2:=hv2.un NdC.staysU un2;have hu1:=((hv1.un NdC.staysU un1).ext NdC.stays e2).un NdC.staysU un2;have S:=TP.w138 (β:=β) TB T (m+1) hu1 hu2 8 args.2 (by have:=args.1;simp only at this;omega) (by have:=args.1;simp only at this;omega) (by omega);simp (disch:=first|omega|simp only[zD]<;>omega|assumption) only[↓zR,↓zRM,zR,zRM,reduceAdd,reduceMul,reduceToNat,T.w16,eq_false m1];refine S _ _ ?_;intro u3 h3 ⟨e3,e4⟩;subst e4;exact hk _ _ rfl
end
end Am.F
