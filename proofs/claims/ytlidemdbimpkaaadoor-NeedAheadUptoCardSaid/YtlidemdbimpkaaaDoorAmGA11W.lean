/- What the functions come to. -/
import Derived.Test.YtlidemdbimpkaaaDoorAmGA11T
import Derived.Test.YtlidemdbimpkaaaDoorAmJc
set_option maxRecDepth 100000
set_option linter.unusedVariables false
namespace Am.F
open Go Am
noncomputable section
variable {β:Type} (I:FI) (N:Nat) (call:zi β) (a:List AV) (h:H) (k:K β)
def f141{β:Type}(N:Nat)(call:zi β)(a:List AV)(h:H)(k:K β):Option β :=
 qCall call (.fn 143 []) [] h<|.mk λv0 h=>
 qCall call (.fn 136 []) [v0,(.int .i64 50)] h<|.mk λv1 h=>
 qExt 0 v1<|.mk λv2=>
 qExt 1 v1<|.mk λv3=>
 qCall call (.fn 143 []) [] h<|.mk λv4 h=>
 qCall call (.fn 136 []) [v4,(.int .i64 3)] h<|.mk λv5 h=>
 qExt 0 v5<|.mk λv6=>
 qExt 1 v5<|.mk λv7=>
 zy [.nils] [] []<|.mk λv8=>
 qCall call (.fn 136 []) [v8,(.int .i64 50)] h<|.mk λv9 h=>
 qExt 0 v9<|.mk λv10=>
 qExt 1 v9<|.mk λv11=>
 qCall call (.fn 143 []) [] h<|.mk λv12 h=>
 qCall call (.fn 136 []) [v12,(.int .i64 (-1))] h<|.mk λv13 h=>
 qExt 0 v13<|.mk λv14=>
 qExt 1 v13<|.mk λv15=>
 zy [(.int .i64 0),(.int .i64 0),.nils,(.str [])] [(1,1),(3,1)] [(.int .i64 (-1)),(.str [57])]<|.mk λv16=>
 zP 0 [(.str []),(.str [])] 2 [(0,1),(1,1)] [(.str [64,55,40,95,32,52,41]),(.str [53])] h<|.mk λv17 h=>
 zy [(.int .i64 0),(.int .i64 0),.nils,(.str [])] [(0,1),(2,1),(3,1)] [(.int .i64 1),v17,(.str [57])]<|.mk λv18=>
 zP 0 [(.int .i64 0),(.int .i64 0),.nils,(.str []),(.int .i64 0),(.int .i64 0),.nils,(.str [])] 2 [(0,4),(4,4)] [v16,v18] h<|.mk λv19 h=>
 qCall call (.fn 138 []) [v2,v19] h<|.mk λv20 h=>
 qAnd v20 h (.mk λh k=>
 qCall call (.fn 16 []) [v3] h<|.mk λv21 h=>
 qEql v21 (.int .i64 0)<|.mk λv22=>
 k v22 h)<|.mk λv23 h=>
 qAnd v23 h (.mk λh k=>
 qCall call (.fn 16 []) [v7] h<|.mk λv24 h=>
 qEql v24 (.int .i64 1101)<|.mk λv25=>
 k v25 h)<|.mk λv26 h=>
 qAnd v26 h (.mk λh k=>
 qCall call (.fn 16 []) [v11] h<|.mk λv27 h=>
 qEql v27 (.int .i64 1100)<|.mk λv28=>
 k v28 h)<|.mk λv29 h=>
 qAnd v29 h (.mk λh k=>
 qCall call (.fn 16 []) [v15] h<|.mk λv30 h=>
 qEql v30 (.int .i64 1100)<|.mk λv31=>
 k v31 h)<|.mk λv32 h=>
 k v32 h
theorem y141:zah I 141 T.s141 N call a h k=f141 N call a h k:=by kernel_rfl
def e141:Ent:=⟨141,T.s141,λ_ _=>f141,λ_=>y141⟩
section
variable {β:Type} {t:ETree} {I:FI} (n:Nat) (a:List AV) (h:H) (k:K β)
end
end
end Am.F
