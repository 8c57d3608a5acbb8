/- Walks: NeedTrail. -/
import Derived.Test.YtlidemdbimpkaaaDoorAmJn
import Derived.Test.YtlidemdbimpkaaaDoorAmGL11W
import Derived.Test.YtlidemdbimpkaaaDoorAmAwk
open Nat (reduceAdd reduceMul)
open Int (reduceToNat)
set_option linter.unusedSimpArgs false
set_option linter.unusedVariables false
namespace Am.F
open Go Am
section
variable {β:Type} {t:ETree} {p:List Df}
set_option maxHeartbeats 2000000 in
theorem j123b{m:Nat}(T:GA t)(hm:2071<=m){h:H}{v:AV}{ns:List Nd}{bb i:Nat}{pv:AV}{x:Nd}(hv:LAt 4 NdC h v ns)(hx:ns[i]?=some x)(hd:NdT p i x)(h3:x.args.length<=1000)(hp:LAt 2 DfC h pv p)(hbb:bb<h.n)(hbc:(h.get bb).cells=some [pv])
  (k:K β) (l9:Cur β 14) (R:Option β) (hk:∀h',Ext h h'->∀y0 y1 y3 y5 y7 y8 y9 y10 y11 y12 y13,l9 y0 y1 (.ptr bb 0) y3 v y5 (.int .i64 ((i:Int)+1)) y7 y8 y9 y10 y11 y12 y13 h'=R) (hi:i<9223372036854775806) {j:Int} (hj:j=(i:Int)) {x0 x1 x3 x5 x7 x8 x9 x10 x11 x12 x13:AV} :
  f123_J10 m (zd t stdI m) k l9 x0 x1 (.ptr bb 0) x3 v x5 (.int .i64 j) x7 x8 x9 x10 x11 x12 x13 h=R:=by
 obtain⟨b,o,cs,a1,a2,w,rfl,a3⟩:=hv.at (β:=β) hx;obtain⟨us,b1,b2,b3,b4⟩:=a2.get;have hbo:=a2.1;obtain⟨h1,hh1⟩:∃h1,h1=(h.push (.own 0 [.int .i64 0,.int .i64 0,.nils,.str []])).set h.n (.own 0 (zcp x w)):=⟨_,rfl⟩
 have e1:Ext h h1:=by rw[hh1];exact ((Ext.refl h).push _).set (Nat.le_refl _) _
 have n1:h.n<h1.n:=by rw[hh1,H.n_set,H.n_push];omega
 have g1:(h1.get h.n).cells=some (zcp x w):=by rw[hh1,zl rfl];rfl
 have hh1':(h.push (.own 0 [.int .i64 0,.int .i64 0,.nils,.str []])).set h.n (.own 0 (zcp x w))=h1:=hh1.symm;have gb1:(h1.get bb).cells=some [pv]:=by rw[e1.get _ hbb];exact hbc
 have lp:=(hp.ext DfC.stays e1).len (β:=β);have lw:∀kc:VK β,qLenL w (.mk kc)=kc (.int .i64 (x.args.length:Int)):=λkc=>by rw[a3.len,zaK]
 obtain⟨db,dof,dus,d1,d2,d3⟩:=defAt (β:=β) (hp.ext DfC.stays e1) hd.fn0 hd.fn1;have W:=T.w18 (β:=β) m hm x.res (by have:=hd.res.2;omega) h1;rw[zgw,hd.res.1] at W;have par:=hd.par;have f0:=hd.fn0;have f1:=hd.fn1;have ha:=hd.args;have J:=λ(h2:H) (e:Ext h1 h2) (j11:Cur β 14) (hj:∀h',Ext h2 h'->∀y0 y1 y3 y5 y7 y8 y9 y10 y11 y12 y13,j11 y0 y1 (.ptr bb 0) y3 v y5 (.int .i64 (i:Int)) y7 y8 y9 y10 y11 y12 y13 h'=R) (y0 y1 y3 y5 y8 y9 y10 y11 y12 y13:AV)=>j123a (β:=β) T hm (h:=h2) (b:=h.n) (c0:=.int .i64 x.fn) (c1:=.int .i64 x.parent) (c3:=.str x.res) (by rw[e.get _ n1];exact g1) (Nat.lt_of_lt_of_le n1 e.n) ((a3.ext e1).ext e) hd.may h3 k j11 R hj (x0:=y0) (x1:=y1) (x3:=y3) (x5:=y5) (x8:=y8) (x9:=y9) (x10:=y10) (x11:=y11) (x12:=y12) (x13:=y13)
 have fin:∀h',Ext h h'->∀y0 y1 y3 y5 y7 y8 y9 y10 y11 y12 y13,f123_J11 l9 y0 y1 (.ptr bb 0) y3 v y5 (.int .i64 (i:Int)) y7 y8 y9 y10 y11 y12 y13 h'=R:=λh' e y0 y1 y3 y5 y7 y8 y9 y10 y11 y12 y13=>by
  simp (disch:=first|omega|simp only[zD]<;>omega|assumption) only[↓zR,↓zRM,zR,zRM,reduceAdd,reduceMul,reduceToNat,↓f123_J11];exact hk _ e _ _ _ _ _ _ _ _ _ _ _
 have a1':∀k:VK β,zM 4 v (.int .i64 j) (.mk k)=k (.ptr b o):=λk=>by rw[hj];exact a1 k
 have hld:∀kk:VK β,zt 4 (.ptr b o) h (.mk kk)=kk (.agg (zcp x w)):=λkk=>by
  rw[ziy,b1];show (cond (decide (o+4<=us.length)) (kk (.agg ((us.drop o).take 4))) none)=_;rw[decide_eq_true b2,b3];rfl
 have hst:∀kk:H->Option β,zn 4 (.ptr h.n 0) (.agg (zcp x w)) (h.push (.own 0 [.int .i64 0,.int .i64 0,.nils,.str []])) (.mk kk)=kk h1:=λkk=>by
  rw[hh1,ziw,ze rfl];rfl
 have lz:∀kc:VK β,qLenL w (.mk kc)=kc (.int .i64 (zO p x.fn)):=λkc=>by rw[lw,ha]
 have fin':∀h',Ext h h'->∀y0 y1 y3 y5 y7 y8 y9 y10 y11 y12 y13,f123_J11 l9 y0 y1 (.ptr bb 0) y3 v y5 (.int .i64 j) y7 y8 y9 y10 y11 y12 y13 h'=R:=by rw[hj];exact fin
 rw[<- hj] at J;unfold zcp at *;obtain⟨fn,parent,args,res⟩:=x;dsimp only at *
 by_cases hz:i=0
 ·obtain⟨z1,z2⟩:=hd.z hz;have hj0:j=0:=by omega
  have z1:parent = -1:=z1;have z2:fn=0:=z2;clear hd ha par f0 lw fin hj;subst hj0 z1 z2;generalize zO p 0=par at *;unfold f123_J10;simp (disch:=first|omega|simp only[zD]<;>omega|assumption) only[↓zR,↓zRM,zR,zRM,reduceAdd,reduceMul,reduceToNat,↓a1',↓hld,↓hst,g1,gb1,lp,lz,d1,d2,d3];refine W _ _ ?_;intro u h2 ⟨e2,eu⟩;subst eu;simp (disch:=first|omega|simp only[zD]<;>omega|assumption) only[↓zR,↓zRM,zR,zRM,reduceAdd,reduceMul,reduceToNat];exact J _ e2 _ (λh' e=>fin' h' ((e1.trans e2).trans e)) _ _ _ _ _ _ _ _ _ _
 ·have hpos:=hd.pos (by omega);have hpos:0<=parent:=hpos;clear hd ha lw fin;generalize zO p fn=pp at *;unfold f123_J10;simp (disch:=first|omega|simp only[zD]<;>omega|assumption) only[↓zR,↓zRM,zR,zRM,reduceAdd,reduceMul,reduceToNat,↓a1',↓hld,↓hst,g1,gb1,lp,lz,d1,d2,d3];refine W _ _ ?_;intro u h2 ⟨e2,eu⟩;subst eu;simp (disch:=first|omega|simp only[zD]<;>omega|assumption) only[↓zR,↓zRM,zR,zRM,reduceAdd,reduceMul,reduceToNat];exact J _ e2 _ (λh' e=>fin' h' ((e1.trans e2).trans e)) _ _ _ _ _ _ _ _ _ _
end
end Am.F
