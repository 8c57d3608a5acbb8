/- What the functions come to. -/
import Derived.Test.YtkbjmlcdmbajcaaGreatDoorAmGV10T
import Derived.Test.YtkbjmlcdmbajcaaGreatDoorAmJc
set_option maxRecDepth 100000
set_option linter.unusedVariables false
namespace Am.F
open Go Am
noncomputable section
variable {β:Type} (I:FI) (N:Nat) (call:zf β) (a:List AV) (h:H) (k:K β)
def f236_J19{β:Type}(call:zf β)(k:K β)(x0 x1 x2 x3 x4 x5 x6 x7 x8 x9 x10 x11 x12 x13 x14 x15 x16 x17 x18:AV)(h:H):Option β :=
 zi 1 x3 h<|.mk λv20=>
 zq 0 [(.str [])] 1 [(0,1)] [x0] h<|.mk λv21 h=>
 zm [(.int .i64 0),(.int .i64 0),.nils,(.str [])] [(0,1),(2,1),(3,1)] [(.int .i64 1),v21,x1]<|.mk λv22=>
 qCall call (.fn 142 []) [v20,v22,(.int .i64 5)] h<|.mk λv23 h=>
 qExt 0 v23<|.mk λv24=>
 qExt 1 v23<|.mk λv25=>
 qCall call (.fn 16 []) [x5] h<|.mk λv26 h=>
 qEql v26 (.int .i64 0)<|.mk λv27=>
 qAnd v27 h (.mk λh k=>
 qEql v25 (.int .i64 0)<|.mk λv28=>
 k v28 h)<|.mk λv29 h=>
 qAnd v29 h (.mk λh k=>
 qEqB false x4 x6<|.mk λv30=>
 k v30 h)<|.mk λv31 h=>
 k v31 h
def f236_J0{β:Type}(call:zf β)(k:K β)(x0 x1 x2 x3 x4 x5 x6 x7 x8 x9 x10 x11 x12 x13 x14 x15 x16 x17 x18:AV)(h:H):Option β :=
 zm [(.int .i64 0),(.int .i64 0),(.int .i64 0),.nils] [] []<|.mk λv1=>
 zq 0 [(.int .i64 0),(.int .i64 0),(.int .i64 0),.nils] 1 [(0,4)] [v1] h<|.mk λv2 h=>
 zm [(.int .i64 0),.nils] [(1,1)] [v2]<|.mk λv3=>
 zm [(.int .i64 0),(.int .i64 0),(.int .i64 0),.nils] [(0,1)] [(.int .i64 1)]<|.mk λv4=>
 zq 0 [(.int .i64 0),(.int .i64 0),(.int .i64 0),.nils] 1 [(0,4)] [v4] h<|.mk λv5 h=>
 zm [(.int .i64 0),.nils] [(0,1),(1,1)] [(.int .i64 1),v5]<|.mk λv6=>
 zq 0 [(.int .i64 0),.nils,(.int .i64 0),.nils] 2 [(0,2),(2,2)] [v3,v6] h<|.mk λv7 h=>
 zm [.nils] [(0,1)] [v7]<|.mk λv8=>
 zK 0 [.nils] h<|.mk λv9 h=>
 zk 1 v9 v8 h<|.mk λh=>
 zi 1 v9 h<|.mk λv10=>
 zq 0 [(.str [])] 1 [(0,1)] [x0] h<|.mk λv11 h=>
 zm [(.int .i64 0),(.int .i64 0),.nils,(.str [])] [(0,1),(2,1),(3,1)] [(.int .i64 1),v11,x1]<|.mk λv12=>
 qCall call (.fn 152 []) [v10,v12,(.int .i64 5)] h<|.mk λv13 h=>
 qExt 0 v13<|.mk λv14=>
 qExt 1 v13<|.mk λv15=>
 qCall call (.fn 146 []) [x1,x0] h<|.mk λv16 h=>
 qExt 0 v16<|.mk λv17=>
 qExt 1 v16<|.mk λv18=>
 zj 19 (.mk (
 f236_J19 call k))<|.mk λj19=>
 qNeq v18 (.int .i64 0)<|.mk λv32=>
 qIf v32 (.mk (
 qCall call (.fn 16 []) [v15] h<|.mk λv33 h=>
 qEql v33 (.int .i64 1000)<|.mk λv34=>
 k v34 h))<|.mk (
 j19 x0 x1 x2 v9 v14 v15 v17 v18 x8 v8 v13 v14 v15 v16 v17 v18 x16 x17 x18 h)
def f236{β:Type}(N:Nat)(call:zf β)(a:List AV)(h:H)(k:K β):Option β :=
 zj 19 (.mk (
 f236_J0 call k))<|.mk λj0=>
 qCall call (.fn 150 []) [] h<|.mk λv35 h=>
 qNot v35<|.mk λv36=>
 qIf v36 (.mk (
 k (.bool false) h))<|.mk (
 j0 (nth a 0) (nth a 1) (.bool false) (nth a 5) (nth a 6) (nth a 7) (nth a 8) (nth a 9) (nth a 11) (nth a 21) (nth a 22) (nth a 29) (nth a 30) (nth a 31) (nth a 35) (nth a 36) (nth a 42) (nth a 49) (nth a 50) h)
theorem y236:zx I 236 T.s236 N call a h k=f236 N call a h k:=by kernel_rfl
def e236:Ent:=⟨236,T.s236,λ_ _=>f236,λ_=>y236⟩
structure GV10 (t:ETree):Prop where
 g236:t.get 236=some e236
section
variable {β:Type} {t:ETree} {I:FI} (n:Nat) (a:List AV) (h:H) (k:K β)
theorem GV10.c236(T:GV10 t):zc t I (n+1) (.fn 236 []) a h k=f236 n (zc t I n) a h k:=by rw[cRule T.g236];rfl
end
end
end Am.F
