/- What the functions come to. -/
import Derived.Test.YtddiafpckjhadaaGreatDoorAmGA9T
import Derived.Test.YtddiafpckjhadaaGreatDoorAmJc
set_option maxRecDepth 100000
set_option linter.unusedVariables false
namespace Am.F
open Go Am
noncomputable section
variable {β:Type} (I:FI) (N:Nat) (call:zc β) (a:List AV) (h:H) (k:K β)
def f153{β:Type}(N:Nat)(call:zc β)(a:List AV)(h:H)(k:K β):Option β :=
 qCall call (.fn 154 []) [] h<|.mk λv0 h=>
 qCall call (.fn 155 []) [v0,(.int .i64 0),.nils,(.int .i64 50)] h<|.mk λv1 h=>
 qExt 0 v1<|.mk λv2=>
 qExt 1 v1<|.mk λv3=>
 qCall call (.fn 154 []) [] h<|.mk λv4 h=>
 zt 0 [(.str []),(.str [])] 2 [(0,1),(1,1)] [(.str [64,55,40,95,32,52,41]),(.str [53])] h<|.mk λv5 h=>
 qCall call (.fn 155 []) [v4,(.int .i64 1),v5,(.int .i64 50)] h<|.mk λv6 h=>
 qExt 0 v6<|.mk λv7=>
 qExt 1 v6<|.mk λv8=>
 qCall call (.fn 154 []) [] h<|.mk λv9 h=>
 zt 0 [(.str []),(.str [])] 2 [(0,1),(1,1)] [(.str [64,55,40,49,32,33,41]),(.str [53])] h<|.mk λv10 h=>
 qCall call (.fn 155 []) [v9,(.int .i64 1),v10,(.int .i64 50)] h<|.mk λv11 h=>
 qExt 0 v11<|.mk λv12=>
 qExt 1 v11<|.mk λv13=>
 qCall call (.fn 154 []) [] h<|.mk λv14 h=>
 zt 0 [(.str []),(.str [])] 2 [(0,1),(1,1)] [(.str [95]),(.str [53])] h<|.mk λv15 h=>
 qCall call (.fn 155 []) [v14,(.int .i64 1),v15,(.int .i64 50)] h<|.mk λv16 h=>
 qExt 0 v16<|.mk λv17=>
 qExt 1 v16<|.mk λv18=>
 qCall call (.fn 154 []) [] h<|.mk λv19 h=>
 qCall call (.fn 155 []) [v19,(.int .i64 0),.nils,(.int .i64 3)] h<|.mk λv20 h=>
 qExt 0 v20<|.mk λv21=>
 qExt 1 v20<|.mk λv22=>
 qCall call (.fn 154 []) [] h<|.mk λv23 h=>
 zt 0 [(.str [])] 1 [(0,1)] [(.str [53])] h<|.mk λv24 h=>
 qCall call (.fn 155 []) [v23,(.int .i64 1),v24,(.int .i64 50)] h<|.mk λv25 h=>
 qExt 0 v25<|.mk λv26=>
 qExt 1 v25<|.mk λv27=>
 qSEql v2 (.str [57])<|.mk λv28=>
 qAnd v28 h (.mk λh k=>
 qCall call (.fn 16 []) [v3] h<|.mk λv29 h=>
 qEql v29 (.int .i64 0)<|.mk λv30=>
 k v30 h)<|.mk λv31 h=>
 qAnd v31 h (.mk λh k=>
 qSEql v7 (.str [57])<|.mk λv32=>
 k v32 h)<|.mk λv33 h=>
 qAnd v33 h (.mk λh k=>
 qCall call (.fn 16 []) [v8] h<|.mk λv34 h=>
 qEql v34 (.int .i64 0)<|.mk λv35=>
 k v35 h)<|.mk λv36 h=>
 qAnd v36 h (.mk λh k=>
 qSEql v12 (.str [33])<|.mk λv37=>
 k v37 h)<|.mk λv38 h=>
 qAnd v38 h (.mk λh k=>
 qCall call (.fn 16 []) [v13] h<|.mk λv39 h=>
 qEql v39 (.int .i64 0)<|.mk λv40=>
 k v40 h)<|.mk λv41 h=>
 qAnd v41 h (.mk λh k=>
 qCall call (.fn 16 []) [v18] h<|.mk λv42 h=>
 qEql v42 (.int .i64 902)<|.mk λv43=>
 k v43 h)<|.mk λv44 h=>
 qAnd v44 h (.mk λh k=>
 qCall call (.fn 16 []) [v22] h<|.mk λv45 h=>
 qEql v45 (.int .i64 901)<|.mk λv46=>
 k v46 h)<|.mk λv47 h=>
 qAnd v47 h (.mk λh k=>
 qCall call (.fn 16 []) [v27] h<|.mk λv48 h=>
 qEql v48 (.int .i64 900)<|.mk λv49=>
 k v49 h)<|.mk λv50 h=>
 k v50 h
theorem y153:zq I 153 T.s153 N call a h k=f153 N call a h k:=by kernel_rfl
def e153:Ent:=⟨153,T.s153,λ_ _=>f153,λ_=>y153⟩
section
variable {β:Type} {t:ETree} {I:FI} (n:Nat) (a:List AV) (h:H) (k:K β)
end
end
end Am.F
