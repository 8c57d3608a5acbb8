/- What the functions come to. -/
import Derived.Test.YtkbjmlcdmbajcaaDoorAmGW10T
import Derived.Test.YtkbjmlcdmbajcaaDoorAmJc
set_option maxRecDepth 100000
set_option linter.unusedVariables false
namespace Am.F
open Go Am
noncomputable def f150{β:Type}(N:Nat)(call:zc β)(a:List AV)(h:H)(k:K β):Option β :=
 qCall call (.fn 151 []) [] h<|.mk fun v0 h=>
 zE 0 [(.str []),(.str [])] 2 [(0,1),(1,1)] [(.str [64,55,40,95,32,52,41]),(.str [53])] h<|.mk fun v1 h=>
 zr [(.int .i64 0),(.int .i64 0),.nils,(.str [])] [(0,1),(2,1),(3,1)] [(.int .i64 1),v1,(.str [57])]<|.mk fun v2=>
 qCall call (.fn 152 []) [v0,v2,(.int .i64 50)] h<|.mk fun v3 h=>
 qExt 0 v3<|.mk fun v4=>
 qExt 1 v3<|.mk fun v5=>
 qCall call (.fn 151 []) [] h<|.mk fun v6 h=>
 zE 0 [(.str []),(.str [])] 2 [(0,1),(1,1)] [(.str [64,55,40,95,32,95,41]),(.str [53])] h<|.mk fun v7 h=>
 zr [(.int .i64 0),(.int .i64 0),.nils,(.str [])] [(0,1),(2,1),(3,1)] [(.int .i64 1),v7,(.str [57])]<|.mk fun v8=>
 qCall call (.fn 152 []) [v6,v8,(.int .i64 50)] h<|.mk fun v9 h=>
 qExt 0 v9<|.mk fun v10=>
 qExt 1 v9<|.mk fun v11=>
 qCall call (.fn 151 []) [] h<|.mk fun v12 h=>
 zE 0 [(.str []),(.str [])] 2 [(0,1),(1,1)] [(.str [33]),(.str [53])] h<|.mk fun v13 h=>
 zr [(.int .i64 0),(.int .i64 0),.nils,(.str [])] [(0,1),(2,1),(3,1)] [(.int .i64 1),v13,(.str [33])]<|.mk fun v14=>
 qCall call (.fn 152 []) [v12,v14,(.int .i64 50)] h<|.mk fun v15 h=>
 qExt 0 v15<|.mk fun v16=>
 qExt 1 v15<|.mk fun v17=>
 qCall call (.fn 151 []) [] h<|.mk fun v18 h=>
 zE 0 [(.str []),(.str [])] 2 [(0,1),(1,1)] [(.str [51]),(.str [53])] h<|.mk fun v19 h=>
 zr [(.int .i64 0),(.int .i64 0),.nils,(.str [])] [(0,1),(2,1),(3,1)] [(.int .i64 1),v19,(.str [56])]<|.mk fun v20=>
 qCall call (.fn 152 []) [v18,v20,(.int .i64 2)] h<|.mk fun v21 h=>
 qExt 0 v21<|.mk fun v22=>
 qExt 1 v21<|.mk fun v23=>
 qCall call (.fn 151 []) [] h<|.mk fun v24 h=>
 zr [(.int .i64 0),(.int .i64 0),.nils,(.str [])] [(0,1)] [(.int .i64 2)]<|.mk fun v25=>
 qCall call (.fn 152 []) [v24,v25,(.int .i64 50)] h<|.mk fun v26 h=>
 qExt 0 v26<|.mk fun v27=>
 qExt 1 v26<|.mk fun v28=>
 qAnd v4 h (.mk fun h k=>
 qCall call (.fn 16 []) [v5] h<|.mk fun v29 h=>
 qEql v29 (.int .i64 0)<|.mk fun v30=>
 k v30 h)<|.mk fun v31 h=>
 qAnd v31 h (.mk fun h k=>
 qNot v10<|.mk fun v32=>
 k v32 h)<|.mk fun v33 h=>
 qAnd v33 h (.mk fun h k=>
 qCall call (.fn 16 []) [v11] h<|.mk fun v34 h=>
 qEql v34 (.int .i64 0)<|.mk fun v35=>
 k v35 h)<|.mk fun v36 h=>
 qAnd v36 h (.mk fun h k=>
 k v16 h)<|.mk fun v37 h=>
 qAnd v37 h (.mk fun h k=>
 qCall call (.fn 16 []) [v17] h<|.mk fun v38 h=>
 qEql v38 (.int .i64 0)<|.mk fun v39=>
 k v39 h)<|.mk fun v40 h=>
 qAnd v40 h (.mk fun h k=>
 qCall call (.fn 16 []) [v23] h<|.mk fun v41 h=>
 qEql v41 (.int .i64 1001)<|.mk fun v42=>
 k v42 h)<|.mk fun v43 h=>
 qAnd v43 h (.mk fun h k=>
 qCall call (.fn 16 []) [v28] h<|.mk fun v44 h=>
 qEql v44 (.int .i64 1000)<|.mk fun v45=>
 k v45 h)<|.mk fun v46 h=>
 k v46 h
theorem y150{β:Type}(I:FI)(N:Nat)(call:zc β)(a:List AV)(h:H)(k:K β):zs I 150 T.s150 N call a h k=f150 N call a h k:=by kernel_rfl
noncomputable def e150:Ent:=⟨150,T.s150,fun _ _=>f150,fun _=>y150⟩
section
variable {β:Type} {t:ETree} {I:FI}
end
end Am.F
