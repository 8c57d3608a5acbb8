/- What the functions come to. -/
import Derived.Test.YtmddflmckmopiaaDoorAmGB14T
import Derived.Test.YtmddflmckmopiaaDoorAmJc
set_option maxRecDepth 100000
set_option linter.unusedVariables false
namespace Am.F
open Go Am
noncomputable def f258_J1 {β : Type} (call : FCall β) (k : K β) (x0 x1 x2 x3 x4 : AV) (h : H) : Option β :=
 qFadr 0 x1 <| .mk fun v2 =>
 qLoad1 v2 h <| .mk fun v3 =>
 qFadr 2 x1 <| .mk fun v4 =>
 qLoad1 v4 h <| .mk fun v5 =>
 qCall call (.fn 29 []) [v3] h <| .mk fun v6 h =>
 qLoad1 v4 h <| .mk fun v7 =>
 qChk v7 v5 <| .mk (
 qSAdd (.str [102]) v6 <| .mk fun v8 =>
 qBslice 0 [(.str [])] 1 [(0, 1)] [v8] h <| .mk fun v9 h =>
 qLoad1 v4 h <| .mk fun v10 =>
 qChk v10 v5 <| .mk (
 qApp 0 1 16 v9 v5 h <| .mk fun v11 h =>
 qFadr 3 x1 <| .mk fun v12 =>
 qLoad1 v12 h <| .mk fun v13 =>
 qBslice 0 [(.str []), (.str [])] 2 [(0, 1), (1, 1)] [(.str [61]), v13] h <| .mk fun v14 h =>
 qApp 0 1 16 v11 v14 h <| .mk fun v15 h =>
 qCall call (.fn 42 []) [v15, (.str [32])] h <| .mk fun v16 h =>
 k (.tup [v16, (.int .i64 0)]) h))
noncomputable def f258 {β : Type} (N : Nat) (call : FCall β) (a : List AV) (h : H) (k : K β) : Option β :=
 qBox 0 (nth a 0) h <| .mk fun v0 h =>
 qJoin 5 (.mk (
 f258_J1 call k)) <| .mk fun j1 =>
 qCall call (.fn 269 []) [v0] h <| .mk fun v17 h =>
 qNot v17 <| .mk fun v18 =>
 qIf v18 (.mk (
 k (.tup [(.str []), (.int .i64 1400)]) h)) <| .mk (
 j1 (nth a 0) v0 (.str []) (.int .i64 0) (nth a 4) h)
theorem y258 {β : Type} (I : FI) (N : Nat) (call : FCall β) (a : List AV) (h : H) (k : K β) : fBody I 258 T.s258 N call a h k = f258 N call a h k := by kernel_rfl
noncomputable def f269 {β : Type} (N : Nat) (call : FCall β) (a : List AV) (h : H) (k : K β) : Option β :=
 qNil (nth a 0) <| .mk fun v0 =>
 qFadr 0 v0 <| .mk fun v1 =>
 qLoad1 v1 h <| .mk fun v2 =>
 qGeq v2 (.int .i64 0) <| .mk fun v3 =>
 qAnd v3 h (.mk fun h k =>
 qNil (nth a 0) <| .mk fun v4 =>
 qFadr 0 v4 <| .mk fun v5 =>
 qLoad1 v5 h <| .mk fun v6 =>
 qLss v6 (.int .i64 8) <| .mk fun v7 =>
 k v7 h) <| .mk fun v8 h =>
 qAnd v8 h (.mk fun h k =>
 qNil (nth a 0) <| .mk fun v9 =>
 qFadr 2 v9 <| .mk fun v10 =>
 qLoad1 v10 h <| .mk fun v11 =>
 qLenL v11 <| .mk fun v12 =>
 qLeq v12 (.int .i64 3) <| .mk fun v13 =>
 k v13 h) <| .mk fun v14 h =>
 qAnd v14 h (.mk fun h k =>
 qNil (nth a 0) <| .mk fun v15 =>
 qFadr 2 v15 <| .mk fun v16 =>
 qLoad1 v16 h <| .mk fun v17 =>
 qCall call (.fn 26 []) [v17] h <| .mk fun v18 h =>
 k v18 h) <| .mk fun v19 h =>
 qAnd v19 h (.mk fun h k =>
 qNil (nth a 0) <| .mk fun v20 =>
 qFadr 3 v20 <| .mk fun v21 =>
 qLoad1 v21 h <| .mk fun v22 =>
 qCall call (.fn 17 []) [v22] h <| .mk fun v23 h =>
 k v23 h) <| .mk fun v24 h =>
 k v24 h
theorem y269 {β : Type} (I : FI) (N : Nat) (call : FCall β) (a : List AV) (h : H) (k : K β) : fBody I 269 T.s269 N call a h k = f269 N call a h k := by kernel_rfl
noncomputable def e258 : Ent := ⟨258, T.s258, fun _ _ N call a h k => f258 N call a h k, fun _ I N call a h k => y258 I N call a h k⟩
noncomputable def e269 : Ent := ⟨269, T.s269, fun _ _ N call a h k => f269 N call a h k, fun _ I N call a h k => y269 I N call a h k⟩
structure GB14 (t : ETree) : Prop where
  g258 : t.get 258 = some e258
  g269 : t.get 269 = some e269
section
variable {β : Type} {t : ETree} {I : FI}
end
end Am.F
