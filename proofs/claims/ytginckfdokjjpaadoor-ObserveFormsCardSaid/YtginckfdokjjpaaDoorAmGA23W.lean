/- What the functions come to. -/
import Derived.Test.YtginckfdokjjpaaDoorAmGA23T
import Derived.Test.YtginckfdokjjpaaDoorAmJc
set_option maxRecDepth 100000
set_option linter.unusedVariables false
namespace Am.F
open Go Am
noncomputable section
variable {β:Type} (I:FI) (N:Nat) (call:zc β) (a:List AV) (h:H) (k:K β)
def f264{β:Type}(N:Nat)(call:zc β)(a:List AV)(h:H)(k:K β):Option β :=
 zz call (.fn 265 []) [] h<|.mk λv0 h=>
 zz call (.fn 266 []) [v0,(.int .i64 1)] h<|.mk λv1 h=>
 qExt 0 v1<|.mk λv2=>
 qExt 1 v1<|.mk λv3=>
 zz call (.fn 265 []) [] h<|.mk λv4 h=>
 zz call (.fn 266 []) [v4,(.int .i64 7)] h<|.mk λv5 h=>
 qExt 0 v5<|.mk λv6=>
 qExt 1 v5<|.mk λv7=>
 zz call (.fn 265 []) [] h<|.mk λv8 h=>
 zz call (.fn 266 []) [v8,(.int .i64 8)] h<|.mk λv9 h=>
 qExt 0 v9<|.mk λv10=>
 qExt 1 v9<|.mk λv11=>
 zz call (.fn 266 []) [.nils,(.int .i64 0)] h<|.mk λv12 h=>
 qExt 0 v12<|.mk λv13=>
 qExt 1 v12<|.mk λv14=>
 zaN 0 [(.str []),(.str [])] 2 [(0,1),(1,1)] [(.str [102,49,32,64,55,40,95,32,52,41,32,53,32,61,32,57]),(.str [102,49,32,49,32,95,32,61,32,95])] h<|.mk λv15 h=>
 zz call (.fn 15 []) [v2,v15] h<|.mk λv16 h=>
 qAnd v16 h (.mk λh k=>
 zz call (.fn 16 []) [v3] h<|.mk λv17 h=>
 qEql v17 (.int .i64 0)<|.mk λv18=>
 k v18 h)<|.mk λv19 h=>
 qAnd v19 h (.mk λh k=>
 qLenL v6<|.mk λv20=>
 qEql v20 (.int .i64 0)<|.mk λv21=>
 k v21 h)<|.mk λv22 h=>
 qAnd v22 h (.mk λh k=>
 zz call (.fn 16 []) [v7] h<|.mk λv23 h=>
 qEql v23 (.int .i64 0)<|.mk λv24=>
 k v24 h)<|.mk λv25 h=>
 qAnd v25 h (.mk λh k=>
 zz call (.fn 16 []) [v11] h<|.mk λv26 h=>
 qEql v26 (.int .i64 2300)<|.mk λv27=>
 k v27 h)<|.mk λv28 h=>
 qAnd v28 h (.mk λh k=>
 zz call (.fn 16 []) [v14] h<|.mk λv29 h=>
 qEql v29 (.int .i64 2300)<|.mk λv30=>
 k v30 h)<|.mk λv31 h=>
 k v31 h
theorem y264:zad I 264 T.s264 N call a h k=f264 N call a h k:=by kernel_rfl
def e264:Ent:=⟨264,T.s264,λ_ _=>f264,λ_=>y264⟩
section
variable {β:Type} {t:ETree} {I:FI} (n:Nat) (a:List AV) (h:H) (k:K β)
end
end
end Am.F
