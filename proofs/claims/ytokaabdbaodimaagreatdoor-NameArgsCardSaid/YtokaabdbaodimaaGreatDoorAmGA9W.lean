/- What the functions come to. -/
import Derived.Test.YtokaabdbaodimaaGreatDoorAmGA9T
import Derived.Test.YtokaabdbaodimaaGreatDoorAmJc
set_option maxRecDepth 100000
set_option linter.unusedVariables false
namespace Am.F
open Go Am
noncomputable section
variable {β:Type} (I:FI) (N:Nat) (call:zf β) (a:List AV) (h:H) (k:K β)
def f153{β:Type}(N:Nat)(call:zf β)(a:List AV)(h:H)(k:K β):Option β :=
 qCall call (.fn 154 []) [] h<|.mk fun v0 h=>
 qCall call (.fn 155 []) [v0,(.int .i64 0),.nils,(.int .i64 50)] h<|.mk fun v1 h=>
 qExt 0 v1<|.mk fun v2=>
 qExt 1 v1<|.mk fun v3=>
 qCall call (.fn 154 []) [] h<|.mk fun v4 h=>
 zr 0 [(.str []),(.str [])] 2 [(0,1),(1,1)] [(.str [64,55,40,95,32,52,41]),(.str [53])] h<|.mk fun v5 h=>
 qCall call (.fn 155 []) [v4,(.int .i64 1),v5,(.int .i64 50)] h<|.mk fun v6 h=>
 qExt 0 v6<|.mk fun v7=>
 qExt 1 v6<|.mk fun v8=>
 qCall call (.fn 154 []) [] h<|.mk fun v9 h=>
 zr 0 [(.str []),(.str [])] 2 [(0,1),(1,1)] [(.str [64,55,40,49,32,33,41]),(.str [53])] h<|.mk fun v10 h=>
 qCall call (.fn 155 []) [v9,(.int .i64 1),v10,(.int .i64 50)] h<|.mk fun v11 h=>
 qExt 0 v11<|.mk fun v12=>
 qExt 1 v11<|.mk fun v13=>
 qCall call (.fn 154 []) [] h<|.mk fun v14 h=>
 zr 0 [(.str []),(.str [])] 2 [(0,1),(1,1)] [(.str [95]),(.str [53])] h<|.mk fun v15 h=>
 qCall call (.fn 155 []) [v14,(.int .i64 1),v15,(.int .i64 50)] h<|.mk fun v16 h=>
 qExt 0 v16<|.mk fun v17=>
 qExt 1 v16<|.mk fun v18=>
 qCall call (.fn 154 []) [] h<|.mk fun v19 h=>
 qCall call (.fn 155 []) [v19,(.int .i64 0),.nils,(.int .i64 3)] h<|.mk fun v20 h=>
 qExt 0 v20<|.mk fun v21=>
 qExt 1 v20<|.mk fun v22=>
 qCall call (.fn 154 []) [] h<|.mk fun v23 h=>
 zr 0 [(.str [])] 1 [(0,1)] [(.str [53])] h<|.mk fun v24 h=>
 qCall call (.fn 155 []) [v23,(.int .i64 1),v24,(.int .i64 50)] h<|.mk fun v25 h=>
 qExt 0 v25<|.mk fun v26=>
 qExt 1 v25<|.mk fun v27=>
 zcm v2 (.str [57])<|.mk fun v28=>
 qAnd v28 h (.mk fun h k=>
 qCall call (.fn 16 []) [v3] h<|.mk fun v29 h=>
 qEql v29 (.int .i64 0)<|.mk fun v30=>
 k v30 h)<|.mk fun v31 h=>
 qAnd v31 h (.mk fun h k=>
 zcm v7 (.str [57])<|.mk fun v32=>
 k v32 h)<|.mk fun v33 h=>
 qAnd v33 h (.mk fun h k=>
 qCall call (.fn 16 []) [v8] h<|.mk fun v34 h=>
 qEql v34 (.int .i64 0)<|.mk fun v35=>
 k v35 h)<|.mk fun v36 h=>
 qAnd v36 h (.mk fun h k=>
 zcm v12 (.str [33])<|.mk fun v37=>
 k v37 h)<|.mk fun v38 h=>
 qAnd v38 h (.mk fun h k=>
 qCall call (.fn 16 []) [v13] h<|.mk fun v39 h=>
 qEql v39 (.int .i64 0)<|.mk fun v40=>
 k v40 h)<|.mk fun v41 h=>
 qAnd v41 h (.mk fun h k=>
 qCall call (.fn 16 []) [v18] h<|.mk fun v42 h=>
 qEql v42 (.int .i64 902)<|.mk fun v43=>
 k v43 h)<|.mk fun v44 h=>
 qAnd v44 h (.mk fun h k=>
 qCall call (.fn 16 []) [v22] h<|.mk fun v45 h=>
 qEql v45 (.int .i64 901)<|.mk fun v46=>
 k v46 h)<|.mk fun v47 h=>
 qAnd v47 h (.mk fun h k=>
 qCall call (.fn 16 []) [v27] h<|.mk fun v48 h=>
 qEql v48 (.int .i64 900)<|.mk fun v49=>
 k v49 h)<|.mk fun v50 h=>
 k v50 h
theorem y153:zy I 153 T.s153 N call a h k=f153 N call a h k:=by kernel_rfl
def e153:Ent:=⟨153,T.s153,fun _ _=>f153,fun _=>y153⟩
section
variable {β:Type} {t:ETree} {I:FI} (n:Nat) (a:List AV) (h:H) (k:K β)
end
end
end Am.F
