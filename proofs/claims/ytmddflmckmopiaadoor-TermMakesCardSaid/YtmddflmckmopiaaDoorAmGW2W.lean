/- What the functions come to. -/
import Derived.Test.YtmddflmckmopiaaDoorAmGW2T
import Derived.Test.YtmddflmckmopiaaDoorAmJc
set_option maxRecDepth 100000
set_option linter.unusedVariables false
namespace Am.F
open Go Am
noncomputable def f21 {β : Type} (N : Nat) (call : FCall β) (a : List AV) (h : H) (k : K β) : Option β :=
 qCall call (.fn 11 []) [(.str [64, 49, 50, 40, 45, 55, 32, 64, 48, 32, 95, 41])] h <| .mk fun v0 h =>
 qExt 0 v0 <| .mk fun v1 =>
 qExt 1 v0 <| .mk fun v2 =>
 qExt 2 v0 <| .mk fun v3 =>
 qExt 3 v0 <| .mk fun v4 =>
 qBslice 0 [(.str []), (.str []), (.str [])] 3 [(0, 1), (1, 1), (2, 1)] [(.str [45, 55]), (.str [64, 48]), (.str [95])] h <| .mk fun v5 h =>
 qCall call (.fn 13 []) [(.int .i64 2), (.int .i64 12), v5] h <| .mk fun v6 h =>
 qExt 0 v6 <| .mk fun v7 =>
 qExt 1 v6 <| .mk fun v8 =>
 qCall call (.fn 11 []) [(.str [64, 49, 40, 41])] h <| .mk fun v9 h =>
 qExt 0 v9 <| .mk fun v10 =>
 qExt 1 v9 <| .mk fun v11 =>
 qExt 2 v9 <| .mk fun v12 =>
 qExt 3 v9 <| .mk fun v13 =>
 qCall call (.fn 13 []) [(.int .i64 1), (.int .i64 32768), .nils] h <| .mk fun v14 h =>
 qExt 0 v14 <| .mk fun v15 =>
 qExt 1 v14 <| .mk fun v16 =>
 qEql v1 (.int .i64 2) <| .mk fun v17 =>
 qAnd v17 h (.mk fun h k =>
 qEql v2 (.int .i64 12) <| .mk fun v18 =>
 k v18 h) <| .mk fun v19 h =>
 qAnd v19 h (.mk fun h k =>
 qBslice 0 [(.str []), (.str []), (.str [])] 3 [(0, 1), (1, 1), (2, 1)] [(.str [45, 55]), (.str [64, 48]), (.str [95])] h <| .mk fun v20 h =>
 qCall call (.fn 15 []) [v3, v20] h <| .mk fun v21 h =>
 k v21 h) <| .mk fun v22 h =>
 qAnd v22 h (.mk fun h k =>
 qCall call (.fn 16 []) [v4] h <| .mk fun v23 h =>
 qEql v23 (.int .i64 0) <| .mk fun v24 =>
 k v24 h) <| .mk fun v25 h =>
 qAnd v25 h (.mk fun h k =>
 qSEql v7 (.str [64, 49, 50, 40, 45, 55, 32, 64, 48, 32, 95, 41]) <| .mk fun v26 =>
 k v26 h) <| .mk fun v27 h =>
 qAnd v27 h (.mk fun h k =>
 qCall call (.fn 16 []) [v8] h <| .mk fun v28 h =>
 qEql v28 (.int .i64 0) <| .mk fun v29 =>
 k v29 h) <| .mk fun v30 h =>
 qAnd v30 h (.mk fun h k =>
 qCall call (.fn 16 []) [v13] h <| .mk fun v31 h =>
 qEql v31 (.int .i64 200) <| .mk fun v32 =>
 k v32 h) <| .mk fun v33 h =>
 qAnd v33 h (.mk fun h k =>
 qCall call (.fn 16 []) [v16] h <| .mk fun v34 h =>
 qEql v34 (.int .i64 200) <| .mk fun v35 =>
 k v35 h) <| .mk fun v36 h =>
 qAnd v36 h (.mk fun h k =>
 qCall call (.fn 17 []) [(.str [33])] h <| .mk fun v37 h =>
 k v37 h) <| .mk fun v38 h =>
 qAnd v38 h (.mk fun h k =>
 qCall call (.fn 17 []) [(.str [48, 49])] h <| .mk fun v39 h =>
 qNot v39 <| .mk fun v40 =>
 k v40 h) <| .mk fun v41 h =>
 k v41 h
theorem y21 {β : Type} (I : FI) (N : Nat) (call : FCall β) (a : List AV) (h : H) (k : K β) : fBody I 21 T.s21 N call a h k = f21 N call a h k := by kernel_rfl
noncomputable def e21 : Ent := ⟨21, T.s21, fun _ _ N call a h k => f21 N call a h k, fun _ I N call a h k => y21 I N call a h k⟩
structure GW2 (t : ETree) : Prop where
  g21 : t.get 21 = some e21
section
variable {β : Type} {t : ETree} {I : FI}
end
end Am.F
