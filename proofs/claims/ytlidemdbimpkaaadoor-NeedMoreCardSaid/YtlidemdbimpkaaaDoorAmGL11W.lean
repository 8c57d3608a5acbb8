/- What the functions come to. -/
import Derived.Test.YtlidemdbimpkaaaDoorAmGL11T
import Derived.Test.YtlidemdbimpkaaaDoorAmJc
import Derived.Test.YtlidemdbimpkaaaDoorAmJi
set_option maxRecDepth 100000
set_option linter.unusedVariables false
namespace Am.F
open Go Am
noncomputable section
variable {β:Type} (I:FI) (N:Nat) (call:zi β) (a:List AV) (h:H) (k:K β)
def f124_J1{β:Type}(call:zi β)(k:K β)(x0 x1 x2 x3 x4 x5 x6 x7 x8 x9 x10 x11 x12 x13 x14 x15 x16 x17 x18:AV)(h:H):Option β :=
 ze2 .u64 x1<|.mk λv2=>
 qBin .rem v2 (.int .u64 401)<|.mk λv3=>
 ze2 .i64 v3<|.mk λv4=>
 ze2 .u64 x2<|.mk λv5=>
 qBin .rem v5 (.int .u64 401)<|.mk λv6=>
 ze2 .i64 v6<|.mk λv7=>
 zDq9 1 x3 h<|.mk λv8=>
 qMin v4 v7<|.mk λv9=>
 qCall call (.fn 136 []) [v8,v9] h<|.mk λv10 h=>
 qExt 0 v10<|.mk λv11=>
 qExt 1 v10<|.mk λv12=>
 zDq9 1 x3 h<|.mk λv13=>
 qMax v4 v7<|.mk λv14=>
 qCall call (.fn 136 []) [v13,v14] h<|.mk λv15 h=>
 qExt 0 v15<|.mk λv16=>
 qExt 1 v15<|.mk λv17=>
 qCall call (.fn 16 []) [v12] h<|.mk λv18 h=>
 qEql v18 (.int .i64 1101)<|.mk λv19=>
 qAnd v19 h (.mk λh k=>
 qLenL v11<|.mk λv20=>
 qEql v20 (.int .i64 0)<|.mk λv21=>
 k v21 h)<|.mk λv22 h=>
 qOr v22 h (.mk λh k=>
 qCall call (.fn 16 []) [v12] h<|.mk λv23 h=>
 qCall call (.fn 16 []) [v17] h<|.mk λv24 h=>
 qEql v23 v24<|.mk λv25=>
 qAnd v25 h (.mk λh k=>
 qCall call (.fn 138 []) [v11,v16] h<|.mk λv26 h=>
 k v26 h)<|.mk λv27 h=>
 k v27 h)<|.mk λv28 h=>
 k v28 h
def f124{β:Type}(N:Nat)(call:zi β)(a:List AV)(h:H)(k:K β):Option β :=
 qBox 0 (nth a 0) h<|.mk λv0 h=>
 zr 19 (.mk (
 f124_J1 call k))<|.mk λj1=>
 qCall call (.fn 141 []) [] h<|.mk λv29 h=>
 qNot v29<|.mk λv30=>
 qIf v30 (.mk (
 k (.bool false) h))<|.mk (
 j1 (nth a 0) (nth a 1) (nth a 2) v0 (.bool false) (nth a 7) (nth a 8) (nth a 9) (nth a 10) (nth a 11) (nth a 12) (nth a 18) (nth a 22) (nth a 23) (nth a 29) (nth a 30) (nth a 31) (nth a 37) (nth a 38) h)
theorem y124:zU I 124 T.s124 N call a h k=f124 N call a h k:=by kernel_rfl
def e124:Ent:=⟨124,T.s124,λ_ _=>f124,λ_=>y124⟩
structure GL11 (t:ETree):Prop where
 g124:t.get 124=some e124
section
variable {β:Type} {t:ETree} {I:FI} (n:Nat) (a:List AV) (h:H) (k:K β)
theorem GL11.c124(T:GL11 t):zd t I (n+1) (.fn 124 []) a h k=f124 n (zd t I n) a h k:=by rw[cRule T.g124];rfl
end
end
end Am.F
