/- What the functions come to. -/
import Derived.Test.YtddiafpckjhadaaGreatDoorAmGW10T
import Derived.Test.YtddiafpckjhadaaGreatDoorAmJc
set_option maxRecDepth 100000
set_option linter.unusedVariables false
namespace Am.F
open Go Am
noncomputable section
variable {β:Type} (I:FI) (N:Nat) (call:zh β) (a:List AV) (h:H) (k:K β)
def f150{β:Type}(N:Nat)(call:zh β)(a:List AV)(h:H)(k:K β):Option β :=
 qCall call (.fn 151 []) [] h<|.mk λv0 h=>
 zs 0 [(.str []),(.str [])] 2 [(0,1),(1,1)] [(.str [64,55,40,95,32,52,41]),(.str [53])] h<|.mk λv1 h=>
 zo [(.int .i64 0),(.int .i64 0),.nils,(.str [])] [(0,1),(2,1),(3,1)] [(.int .i64 1),v1,(.str [57])]<|.mk λv2=>
 qCall call (.fn 152 []) [v0,v2,(.int .i64 50)] h<|.mk λv3 h=>
 qExt 0 v3<|.mk λv4=>
 qExt 1 v3<|.mk λv5=>
 qCall call (.fn 151 []) [] h<|.mk λv6 h=>
 zs 0 [(.str []),(.str [])] 2 [(0,1),(1,1)] [(.str [64,55,40,95,32,95,41]),(.str [53])] h<|.mk λv7 h=>
 zo [(.int .i64 0),(.int .i64 0),.nils,(.str [])] [(0,1),(2,1),(3,1)] [(.int .i64 1),v7,(.str [57])]<|.mk λv8=>
 qCall call (.fn 152 []) [v6,v8,(.int .i64 50)] h<|.mk λv9 h=>
 qExt 0 v9<|.mk λv10=>
 qExt 1 v9<|.mk λv11=>
 qCall call (.fn 151 []) [] h<|.mk λv12 h=>
 zs 0 [(.str []),(.str [])] 2 [(0,1),(1,1)] [(.str [33]),(.str [53])] h<|.mk λv13 h=>
 zo [(.int .i64 0),(.int .i64 0),.nils,(.str [])] [(0,1),(2,1),(3,1)] [(.int .i64 1),v13,(.str [33])]<|.mk λv14=>
 qCall call (.fn 152 []) [v12,v14,(.int .i64 50)] h<|.mk λv15 h=>
 qExt 0 v15<|.mk λv16=>
 qExt 1 v15<|.mk λv17=>
 qCall call (.fn 151 []) [] h<|.mk λv18 h=>
 zs 0 [(.str []),(.str [])] 2 [(0,1),(1,1)] [(.str [51]),(.str [53])] h<|.mk λv19 h=>
 zo [(.int .i64 0),(.int .i64 0),.nils,(.str [])] [(0,1),(2,1),(3,1)] [(.int .i64 1),v19,(.str [56])]<|.mk λv20=>
 qCall call (.fn 152 []) [v18,v20,(.int .i64 2)] h<|.mk λv21 h=>
 qExt 0 v21<|.mk λv22=>
 qExt 1 v21<|.mk λv23=>
 qCall call (.fn 151 []) [] h<|.mk λv24 h=>
 zo [(.int .i64 0),(.int .i64 0),.nils,(.str [])] [(0,1)] [(.int .i64 2)]<|.mk λv25=>
 qCall call (.fn 152 []) [v24,v25,(.int .i64 50)] h<|.mk λv26 h=>
 qExt 0 v26<|.mk λv27=>
 qExt 1 v26<|.mk λv28=>
 qAnd v4 h (.mk λh k=>
 qCall call (.fn 16 []) [v5] h<|.mk λv29 h=>
 qEql v29 (.int .i64 0)<|.mk λv30=>
 k v30 h)<|.mk λv31 h=>
 qAnd v31 h (.mk λh k=>
 qNot v10<|.mk λv32=>
 k v32 h)<|.mk λv33 h=>
 qAnd v33 h (.mk λh k=>
 qCall call (.fn 16 []) [v11] h<|.mk λv34 h=>
 qEql v34 (.int .i64 0)<|.mk λv35=>
 k v35 h)<|.mk λv36 h=>
 qAnd v36 h (.mk λh k=>
 k v16 h)<|.mk λv37 h=>
 qAnd v37 h (.mk λh k=>
 qCall call (.fn 16 []) [v17] h<|.mk λv38 h=>
 qEql v38 (.int .i64 0)<|.mk λv39=>
 k v39 h)<|.mk λv40 h=>
 qAnd v40 h (.mk λh k=>
 qCall call (.fn 16 []) [v23] h<|.mk λv41 h=>
 qEql v41 (.int .i64 1001)<|.mk λv42=>
 k v42 h)<|.mk λv43 h=>
 qAnd v43 h (.mk λh k=>
 qCall call (.fn 16 []) [v28] h<|.mk λv44 h=>
 qEql v44 (.int .i64 1000)<|.mk λv45=>
 k v45 h)<|.mk λv46 h=>
 k v46 h
theorem y150:zF I 150 T.s150 N call a h k=f150 N call a h k:=by kernel_rfl
def e150:Ent:=⟨150,T.s150,λ_ _=>f150,λ_=>y150⟩
section
variable {β:Type} {t:ETree} {I:FI} (n:Nat) (a:List AV) (h:H) (k:K β)
end
end
end Am.F
