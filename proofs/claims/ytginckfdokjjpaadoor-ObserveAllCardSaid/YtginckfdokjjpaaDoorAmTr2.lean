/- Walks: the reference's TrailMay,Fits. -/
import Derived.Test.YtginckfdokjjpaaDoorAmJi
open Nat (reduceAdd reduceMul)
open Int (reduceToNat)
set_option linter.unusedSimpArgs false
set_option linter.unusedVariables false
namespace Am.F
open Go Am
section
variable {β:Type} {t:ETree}
theorem GT12.w301(TS:GT12 t)(TB:GB t)(T:GA t)(n:Nat){h:H}{w:AV}{x:Nd}(hw:SlAt h w (strs x.args))(hf:zgP x)(hn:x.args.length+2200<=n)(h63:x.args.length<=9223372036854775807)(i:Nat) :
  Sp (β:=β) (za t stdI n (.fn 301 []) [.agg (zu x w),.int .i64 (i:Int)] h) λu h'=>Ext h h'/\u = .bool (isB (zdN x i)):=by
 intro k R hk;obtain⟨m,rfl⟩:∃m,n=m+2:=⟨n-2,by omega⟩
 have hx:∀(hh:H) (kk:K β),qBox 0 (.agg (zu x w)) hh (.mk kk)=kk (.ptr hh.n 0) (hh.push (.own 0 (zu x w))):=λhh kk=>zbR 0 _ hh kk
 have e0:Ext h (h.push (.own 0 (zu x w))):=(Ext.refl h).push _;have h297:=λ(x y z:Int) (hh:H) (kk:K β)=>TB.w297 m x y z hh kk
 by_cases c1:(i:Int)<512
 case neg=>
  rw[TS.c301];unfold f301;simp (disch:=first|omega|simp only[zD]<;>omega|assumption) only[↓zR,↓zRM,zR,zRM,reduceAdd,reduceMul,reduceToNat,↓hx,eq_false c1];exact hk _ _ ⟨e0,by rw[zcB λhh=>c1 (by have:=hh.1;omega)]⟩
 have hcell:((h.push (.own 0 (zu x w))).get h.n).cells=some (zu x w):=by rw[zc rfl];rfl
 have hlen:(zu x w).length=4:=rfl;have htk:((zu x w).drop 0).take 4=zu x w:=rfl;rw[TS.c301];unfold f301;simp (disch:=first|omega|simp only[zD]<;>omega|assumption) only[↓zR,↓zRM,zR,zRM,reduceAdd,reduceMul,reduceToNat,↓hx,eq_true c1,hcell,hlen];refine TB.w296 T (m+1) (x:=x) ⟨w,rfl,hw.ext e0⟩ hf.1 hf.2.1 h63 (by omega) _ _ ?_;intro u h1 ⟨e1,e2⟩;subst e2;have hc1:(h1.get h.n).cells=some (zu x w):=by rw[e1.get _ (by rw[H.n_push];omega)];exact hcell
 unfold zu at hc1;cases c2:zah x with
 | false=>
  simp (disch:=first|omega|simp only[zD]<;>omega|assumption) only[↓zR,↓zRM,zR,zRM,reduceAdd,reduceMul,reduceToNat];exact hk _ _ ⟨e0.trans e1,by rw[zcB λhh=>by have:=hh.2.1;rw[c2] at this;cases this]⟩
 | true=>
  by_cases k1:(i:Int)=0
  ·by_cases k2:x.parent = -1
   ·simp (disch:=first|omega|simp only[zD]<;>omega|assumption) only[↓zR,↓zRM,zR,zRM,reduceAdd,reduceMul,reduceToNat,hc1,eq_true k1,eq_true k2];exact hk _ _ ⟨e0.trans e1,by rw[zgv ⟨by omega,c2,.inr ⟨by omega,k2⟩⟩]⟩
   ·simp (disch:=first|omega|simp only[zD]<;>omega|assumption) only[↓zR,↓zRM,zR,zRM,reduceAdd,reduceMul,reduceToNat,hc1,eq_true k1,eq_false k2,eq_false (show ¬ (0:Int)<(i:Int) by omega)];exact hk _ _ ⟨e0.trans e1,by rw[zcB λhh=>by have:=hh.2.2;omega]⟩
  ·simp (disch:=first|omega|simp only[zD]<;>omega|assumption) only[↓zR,↓zRM,zR,zRM,reduceAdd,reduceMul,reduceToNat,hc1,eq_false k1,eq_true (show (0:Int)<(i:Int) by omega),h297];refine hk _ _ ⟨e0.trans e1,congrArg AV.bool (zgw ?_).symm⟩;rw[decide_eq_true_iff];constructor
   ·intro hh;exact⟨by omega,c2,.inl ⟨by omega,by omega⟩⟩
   ·intro hh;have:=hh.2.2;omega
theorem GT12.w299(TS:GT12 t)(TB:GB t)(T:GA t)(n M:Nat){h:H}{v:AV}{ns:List Nd}(hn:ns.length+M+2300<=n)(hv:LAt 4 NdC h v ns)(hf:∀x ∈ ns,zgP x)(hM:∀x ∈ ns,x.args.length<=M)(hM2:M<=9223372036854775807)(hl:ns.length<=9223372036854775807) :
  Sp (β:=β) (za t stdI n (.fn 299 []) [v] h) λu h'=>Ext h h'/\u = .bool (isB (zcx ns)):=by
 intro k R hk;obtain⟨m,rfl⟩:∃m,n=m+1:=⟨n-1,by omega⟩
 have lv:=hv.len (β:=β);rw[TS.c299];unfold f299;simp (disch:=first|omega|simp only[zD]<;>omega|assumption) only[↓zR,↓zRM,zR,zRM,reduceAdd,reduceMul,reduceToNat,↓f299_J0,↓f299_J5,↓f299_J4,↓f299_L3,lv];refine zae 3 m _ _ (λi x0 x1 x2 h'=>∃j:Nat,x0=v/\x2 = .int .i64 (j:Int)/\j+i=ns.length/\Ext h h'/\∀q x,q<j->ns[q]?=some x->zdN x q) ns.length (by omega) ?_ _ _ _ _
  ⟨0,rfl,rfl,by omega,Ext.refl _,λq x hq=>absurd hq (by omega)⟩
 intro l i ih x0 x1 x2 h' ⟨j,q1,q3,q5,q6,q7⟩;subst q1 q3;cases i with
 | zero=>
  have hj:j=ns.length:=by omega
  subst hj;simp (disch:=first|omega|simp only[zD]<;>omega|assumption) only[↓zR,↓zRM,zR,zRM,reduceAdd,reduceMul,reduceToNat,↓f299_J0,↓f299_J5,↓f299_J4,↓f299_L3,lv];refine hk _ _ ⟨q6,congrArg AV.bool ?_⟩;refine (zgw ?_).symm;rw[decide_eq_true_iff];constructor
  ·intro h0;exact⟨λhn=>by rw[hn] at h0;simp at h0,λq x hq=>q7 q x (List.getElem?_eq_some_iff.1 hq).1 hq⟩
  ·intro hp;have:ns.length≠0:=λhn=>hp.1 (List.eq_nil_of_length_eq_zero hn)
   omega
 | succ i=>
  have hj:j<ns.length:=by omega
  obtain⟨x,hx⟩:∃x,ns[j]?=some x:=⟨_,List.getElem?_eq_getElem hj⟩
  have hmem:=List.mem_of_getElem? hx;obtain⟨b,o,cs,a1,a2,w,rfl,a3⟩:=hv.at (β:=β) hx;obtain⟨us,b1,b2,b3,b4⟩:=(a2.ext q6).get;simp (disch:=first|omega|simp only[zD]<;>omega|assumption) only[↓zR,↓zRM,zR,zRM,reduceAdd,reduceMul,reduceToNat,↓f299_J0,↓f299_J5,↓f299_J4,↓f299_L3,lv,a1,b1,b2,b3];refine TS.w301 TB T m (a3.ext q6) (hf x hmem) (by have:=hM x hmem;omega) (by have:=hM x hmem;omega) j _ _ ?_;intro u h2 ⟨e1,e2⟩;subst e2
  by_cases c:zdN x j
  ·rw[zgv c];simp (disch:=first|omega|simp only[zD]<;>omega|assumption) only[↓zR,↓zRM,zR,zRM,reduceAdd,reduceMul,reduceToNat,↓f299_J0,↓f299_J5,↓f299_J4,↓f299_L3];refine ih i (by omega) _ _ _ _ ⟨j+1,rfl,rfl,by omega,q6.trans e1,λq y hq hy=>?_⟩
   by_cases hqj:q=j
   ·subst hqj;rw[hx] at hy;cases hy;exact c
   ·exact q7 q y (by omega) hy
  ·rw[zcB c];simp (disch:=first|omega|simp only[zD]<;>omega|assumption) only[↓zR,↓zRM,zR,zRM,reduceAdd,reduceMul,reduceToNat,↓f299_J0,↓f299_J5,↓f299_J4,↓f299_L3];exact hk _ _ ⟨q6.trans e1,by rw[zcB λhp=>c (hp.2 j x hx)]⟩
end
end Am.F
