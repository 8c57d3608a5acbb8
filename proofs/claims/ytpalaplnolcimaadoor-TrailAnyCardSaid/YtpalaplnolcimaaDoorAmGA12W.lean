/- What the functions come to. -/
import Derived.Test.YtpalaplnolcimaaDoorAmGA12T
import Derived.Test.YtpalaplnolcimaaDoorAmJc
set_option maxRecDepth 100000
set_option linter.unusedVariables false
namespace Am.F
open Go Am
noncomputable def f259 {β : Type} (N : Nat) (call : FCall β) (a : List AV) (h : H) (k : K β) : Option β :=
 qCall call (.fn 260 []) [] h <| .mk fun v0 h =>
 qCall call (.fn 260 []) [] h <| .mk fun v1 h =>
 qCall call (.fn 260 []) [] h <| .mk fun v2 h =>
 qIadr 4 v0 (.int .i64 1) <| .mk fun v3 =>
 qFadr 1 v3 <| .mk fun v4 =>
 qStore 1 v4 (.int .i64 1) h <| .mk fun h =>
 qIadr 4 v1 (.int .i64 2) <| .mk fun v5 =>
 qFadr 3 v5 <| .mk fun v6 =>
 qStore 1 v6 (.str [63]) h <| .mk fun h =>
 qIadr 4 v2 (.int .i64 0) <| .mk fun v7 =>
 qFadr 1 v7 <| .mk fun v8 =>
 qStore 1 v8 (.int .i64 0) h <| .mk fun h =>
 qBuild [(.int .i64 0), (.int .i64 0), .nils, (.str [])] [(1, 1), (3, 1)] [(.int .i64 (-1)), (.str [57])] <| .mk fun v9 =>
 qBslice 0 [(.str []), (.str [])] 2 [(0, 1), (1, 1)] [(.str [64, 55, 40, 95, 32, 52, 41]), (.str [53])] h <| .mk fun v10 h =>
 qBuild [(.int .i64 0), (.int .i64 0), .nils, (.str [])] [(0, 1), (2, 1), (3, 1)] [(.int .i64 1), v10, (.str [57])] <| .mk fun v11 =>
 qBslice 0 [(.int .i64 0), (.int .i64 0), .nils, (.str []), (.int .i64 0), (.int .i64 0), .nils, (.str [])] 2 [(0, 4), (4, 4)] [v9, v11] h <| .mk fun v12 h =>
 qCall call (.fn 260 []) [] h <| .mk fun v13 h =>
 qCall call (.fn 261 []) [v13] h <| .mk fun v14 h =>
 qAnd v14 h (.mk fun h k =>
 qCall call (.fn 261 []) [v0] h <| .mk fun v15 h =>
 qNot v15 <| .mk fun v16 =>
 k v16 h) <| .mk fun v17 h =>
 qAnd v17 h (.mk fun h k =>
 qCall call (.fn 261 []) [v1] h <| .mk fun v18 h =>
 qNot v18 <| .mk fun v19 =>
 k v19 h) <| .mk fun v20 h =>
 qAnd v20 h (.mk fun h k =>
 qCall call (.fn 261 []) [v2] h <| .mk fun v21 h =>
 qNot v21 <| .mk fun v22 =>
 k v22 h) <| .mk fun v23 h =>
 qAnd v23 h (.mk fun h k =>
 qCall call (.fn 261 []) [.nils] h <| .mk fun v24 h =>
 qNot v24 <| .mk fun v25 =>
 k v25 h) <| .mk fun v26 h =>
 qAnd v26 h (.mk fun h k =>
 qCall call (.fn 263 []) [] h <| .mk fun v27 h =>
 qCall call (.fn 262 []) [v27, v12] h <| .mk fun v28 h =>
 k v28 h) <| .mk fun v29 h =>
 qAnd v29 h (.mk fun h k =>
 qCall call (.fn 263 []) [] h <| .mk fun v30 h =>
 qCall call (.fn 260 []) [] h <| .mk fun v31 h =>
 qCall call (.fn 262 []) [v30, v31] h <| .mk fun v32 h =>
 qNot v32 <| .mk fun v33 =>
 k v33 h) <| .mk fun v34 h =>
 qAnd v34 h (.mk fun h k =>
 qCall call (.fn 18 []) [(.str [95])] h <| .mk fun v35 h =>
 k v35 h) <| .mk fun v36 h =>
 qAnd v36 h (.mk fun h k =>
 qCall call (.fn 16 []) [(.int .i64 0)] h <| .mk fun v37 h =>
 qEql v37 (.int .i64 0) <| .mk fun v38 =>
 k v38 h) <| .mk fun v39 h =>
 k v39 h
theorem y259 {β : Type} (I : FI) (N : Nat) (call : FCall β) (a : List AV) (h : H) (k : K β) : fBody I 259 T.s259 N call a h k = f259 N call a h k := by kernel_rfl
noncomputable def e259 : Ent := ⟨259, T.s259, fun _ _ N call a h k => f259 N call a h k, fun _ I N call a h k => y259 I N call a h k⟩
structure GA12 (t : ETree) : Prop where
  g259 : t.get 259 = some e259
section
variable {β : Type} {t : ETree} {I : FI}
end
end Am.F
