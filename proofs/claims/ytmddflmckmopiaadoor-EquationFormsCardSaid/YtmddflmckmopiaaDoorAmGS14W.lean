/- What the functions come to. -/
import Derived.Test.YtmddflmckmopiaaDoorAmGS14T
import Derived.Test.YtmddflmckmopiaaDoorAmJc
set_option maxRecDepth 100000
set_option linter.unusedVariables false
namespace Am.F
open Go Am
noncomputable def f257 {β : Type} (N : Nat) (call : FCall β) (a : List AV) (h : H) (k : K β) : Option β :=
 qBuild [(.int .i64 0), (.int .i64 0), .nils, (.str [])] [(1, 1), (3, 1)] [(.int .i64 (-1)), (.str [57])] <| .mk fun v0 =>
 qBslice 0 [(.str []), (.str [])] 2 [(0, 1), (1, 1)] [(.str [64, 55, 40, 95, 32, 52, 41]), (.str [53])] h <| .mk fun v1 h =>
 qBuild [(.int .i64 0), (.int .i64 0), .nils, (.str [])] [(0, 1), (1, 1), (2, 1), (3, 1)] [(.int .i64 1), (.int .i64 0), v1, (.str [57])] <| .mk fun v2 =>
 qBuild [(.int .i64 0), (.int .i64 0), .nils, (.str [])] [(0, 1), (1, 1), (3, 1)] [(.int .i64 2), (.int .i64 0), (.str [33])] <| .mk fun v3 =>
 qBslice 0 [(.str []), (.str [])] 2 [(0, 1), (1, 1)] [(.str [49]), (.str [95])] h <| .mk fun v4 h =>
 qBuild [(.int .i64 0), (.int .i64 0), .nils, (.str [])] [(0, 1), (1, 1), (2, 1), (3, 1)] [(.int .i64 1), (.int .i64 1), v4, (.str [95])] <| .mk fun v5 =>
 qBslice 0 [(.str []), (.str [])] 2 [(0, 1), (1, 1)] [(.str [49]), (.str [95])] h <| .mk fun v6 h =>
 qBuild [(.int .i64 0), (.int .i64 0), .nils, (.str [])] [(0, 1), (1, 1), (2, 1), (3, 1)] [(.int .i64 1), (.int .i64 2), v6, (.str [95])] <| .mk fun v7 =>
 qBslice 0 [(.int .i64 0), (.int .i64 0), .nils, (.str []), (.int .i64 0), (.int .i64 0), .nils, (.str []), (.int .i64 0), (.int .i64 0), .nils, (.str []), (.int .i64 0), (.int .i64 0), .nils, (.str []), (.int .i64 0), (.int .i64 0), .nils, (.str [])] 5 [(0, 4), (4, 4), (8, 4), (12, 4), (16, 4)] [v0, v2, v3, v5, v7] h <| .mk fun v8 h =>
 k v8 h
theorem y257 {β : Type} (I : FI) (N : Nat) (call : FCall β) (a : List AV) (h : H) (k : K β) : fBody I 257 T.s257 N call a h k = f257 N call a h k := by kernel_rfl
noncomputable def e257 : Ent := ⟨257, T.s257, fun _ _ N call a h k => f257 N call a h k, fun _ I N call a h k => y257 I N call a h k⟩
structure GS14 (t : ETree) : Prop where
  g257 : t.get 257 = some e257
section
variable {β : Type} {t : ETree} {I : FI}
end
end Am.F
