/- Walks: what reads the same is told to be the same. -/
import Derived.Test.YtlidemdbimpkaaaDoorAmCp
open Nat (reduceAdd reduceMul)
open Int (reduceToNat)
set_option linter.unusedSimpArgs false
set_option linter.unusedVariables false
namespace Am.F
open Go Am
section
variable {β:Type} {t:ETree}
theorem GP.w138(TP:GP t)(TB:GB t)(T:GA t)(n:Nat){h:H}{v u:AV}{xs:List Nd}(hv:LAt 4 NdC h v xs)(hu:LAt 4 NdC h u xs)(M:Nat)(hM:∀x ∈ xs,x.args.length<=M)(hn:xs.length+M+8<=n)(hl:xs.length<=9223372036854775807)(hl2:M<=9223372036854775807) :
  Sp (β:=β) (ze t stdI n (.fn 138 []) [v,u] h) λr h'=>Ext h h'/\r = .bool true:=by
 intro k R hk;obtain⟨m,rfl⟩:∃m,n=m+1:=⟨n-1,by omega⟩
 have lv:=hv.len (β:=β);have lu:=hu.len (β:=β);rw[TP.c138];unfold f138;simp (disch:=first|omega|simp only[zD]<;>omega|assumption) only[↓zR,↓zRM,zR,zRM,reduceAdd,reduceMul,reduceToNat,↓f138_J1,↓f138_J4,↓f138_J3,↓f138_L2,↓f138_J0,lv,lu];refine zaa 5 m _ _ (λi x0 x1 x2 x3 x4 h'=>∃j:Nat,x0=v/\x1=u/\x3 = .int .i64 (j:Int)/\j+i=xs.length/\Ext h h') xs.length (by omega) ?_ _ _ _ _ _ _ ⟨0,rfl,rfl,rfl,by omega,Ext.refl _⟩;intro l i ih x0 x1 x2 x3 x4 h' ⟨j,q1,q2,q3,q5,q6⟩;subst q1 q2 q3;cases i with
 | zero=>
  have hj:j=xs.length:=by omega
  subst hj;simp (disch:=first|omega|simp only[zD]<;>omega|assumption) only[↓zR,↓zRM,zR,zRM,reduceAdd,reduceMul,reduceToNat,↓f138_J1,↓f138_J4,↓f138_J3,↓f138_L2,↓f138_J0,lv];exact hk _ _ ⟨q6,rfl⟩
 | succ i=>
  have hj:j<xs.length:=by omega
  obtain⟨x,hx⟩:∃e,xs[j]?=some e:=⟨_,List.getElem?_eq_getElem hj⟩
  obtain⟨b,o,cs,a1,a2,w,rfl,a3⟩:=(hv.ext NdC.stays q6).at (β:=β) hx;obtain⟨us,b1,b2,b3,b4⟩:=a2.get;obtain⟨b',o',cs',a1',a2',w',rfl,a3'⟩:=(hu.ext NdC.stays q6).at (β:=β) hx;obtain⟨us',b1',b2',b3',b4'⟩:=a2'.get;have hMx:=hM x (List.mem_of_getElem? hx);simp (disch:=first|omega|simp only[zD]<;>omega|assumption) only[↓zR,↓zRM,zR,zRM,reduceAdd,reduceMul,reduceToNat,↓f138_J1,↓f138_J4,↓f138_J3,↓f138_L2,↓f138_J0,lv,a1,a1',b1,b1',b2,b2',b3,b3'];refine TB.w166 T m (x:=x) (y:=x) ⟨w,rfl,a3⟩ ⟨w',rfl,a3'⟩ (by omega) (by omega) _ _ ?_;intro r h2 ⟨e1,e2⟩;subst e2;have:zdW x x=true:=by unfold zdW;simp
  rw[this];simp (disch:=first|omega|simp only[zD]<;>omega|assumption) only[↓zR,↓zRM,zR,zRM,reduceAdd,reduceMul,reduceToNat,↓f138_J1,↓f138_J4,↓f138_J3,↓f138_L2,↓f138_J0];exact ih i (by omega) _ _ _ _ _ _ ⟨j+1,rfl,rfl,rfl,by omega,q6.trans e1⟩
end
end Am.F
