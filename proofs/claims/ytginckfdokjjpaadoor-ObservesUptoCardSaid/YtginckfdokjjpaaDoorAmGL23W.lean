/- What the functions come to. -/
import Derived.Test.YtginckfdokjjpaaDoorAmGL23T
import Derived.Test.YtginckfdokjjpaaDoorAmJc
set_option maxRecDepth 100000
set_option linter.unusedVariables false
namespace Am.F
open Go Am
noncomputable section
variable {β:Type} (I:FI) (N:Nat) (call:zf β) (a:List AV) (h:H) (k:K β)
def f304_J7{β:Type}(call:zf β)(k:K β)(x0 x1 x2 x3 x4 x5 x6 x7 x8 x9 x10 x11 x12 x13:AV)(h:H):Option β :=
 zg call (.fn 19 []) [x4] h<|.mk λv8 h=>
 zg call (.fn 138 []) [x3,x0] h<|.mk λv9 h=>
 qAnd v9 h (.mk λh k=>
 zg call (.fn 264 []) [] h<|.mk λv10 h=>
 k v10 h)<|.mk λv11 h=>
 k v11 h
def f304{β:Type}(N:Nat)(call:zf β)(a:List AV)(h:H)(k:K β):Option β :=
 zg call (.fn 244 []) [(nth a 0)] h<|.mk λv0 h=>
 zg call (.fn 266 []) [v0,(nth a 1)] h<|.mk λv1 h=>
 qExt 0 v1<|.mk λv2=>
 qExt 1 v1<|.mk λv3=>
 zg call (.fn 307 []) [(nth a 0),(nth a 1)] h<|.mk λv4 h=>
 qExt 0 v4<|.mk λv5=>
 qExt 1 v4<|.mk λv6=>
 zo 14 (.mk (
 f304_J7 call k))<|.mk λj7=>
 zg call (.fn 15 []) [v2,v5] h<|.mk λv12 h=>
 qNot v12<|.mk λv13=>
 qOr v13 h (.mk λh k=>
 zg call (.fn 16 []) [v3] h<|.mk λv14 h=>
 qNeq v14 v6<|.mk λv15=>
 k v15 h)<|.mk λv16 h=>
 qIf v16 (.mk (
 k (.bool false) h))<|.mk (
 j7 (nth a 0) (nth a 1) (.bool false) v0 v2 v3 v5 v6 v1 v2 v3 v4 v5 v6 h)
theorem y304:zJ I 304 T.s304 N call a h k=f304 N call a h k:=by kernel_rfl
def e304:Ent:=⟨304,T.s304,λ_ _=>f304,λ_=>y304⟩
structure GL23 (t:ETree):Prop where
 g304:t.get 304=some e304
section
variable {β:Type} {t:ETree} {I:FI} (n:Nat) (a:List AV) (h:H) (k:K β)
theorem GL23.c304(T:GL23 t):za t I (n+1) (.fn 304 []) a h k=f304 n (za t I n) a h k:=by rw[cRule T.g304];rfl
end
end
end Am.F
