/- What the functions come to. -/
import Derived.Test.YtnhappodbogoaaaDoorAmGS9T
import Derived.Test.YtnhappodbogoaaaDoorAmJc
set_option maxRecDepth 100000
set_option linter.unusedVariables false
namespace Am.F
open Go Am
noncomputable def f154 {β : Type} (N : Nat) (call : FCall β) (a : List AV) (h : H) (k : K β) : Option β :=
 qAlloc 0 [.nils] h <| .mk fun v0 h =>
 qBuild [(.int .i64 0), (.int .i64 0), (.int .i64 0), .nils] [(0, 1)] [(.int .i64 7)] <| .mk fun v1 =>
 qBuild [(.int .i64 0), (.int .i64 0), (.int .i64 0), .nils] [(1, 1)] [(.int .i64 4)] <| .mk fun v2 =>
 qBslice 0 [(.int .i64 0), (.int .i64 0)] 2 [(0, 1), (1, 1)] [(.int .i64 0), (.int .i64 1)] h <| .mk fun v3 h =>
 qBuild [(.int .i64 0), (.int .i64 0), (.int .i64 0), .nils] [(0, 1), (1, 1), (3, 1)] [(.int .i64 3), (.int .i64 7), v3] <| .mk fun v4 =>
 qBuild [(.int .i64 0), (.int .i64 0), (.int .i64 0), .nils] [(1, 1)] [(.int .i64 5)] <| .mk fun v5 =>
 qBslice 0 [(.int .i64 0), (.int .i64 0)] 2 [(0, 1), (1, 1)] [(.int .i64 2), (.int .i64 3)] h <| .mk fun v6 h =>
 qBuild [(.int .i64 0), (.int .i64 0), (.int .i64 0), .nils] [(0, 1), (1, 1), (3, 1)] [(.int .i64 2), (.int .i64 1), v6] <| .mk fun v7 =>
 qBslice 0 [(.int .i64 0), (.int .i64 0), (.int .i64 0), .nils, (.int .i64 0), (.int .i64 0), (.int .i64 0), .nils, (.int .i64 0), (.int .i64 0), (.int .i64 0), .nils, (.int .i64 0), (.int .i64 0), (.int .i64 0), .nils, (.int .i64 0), (.int .i64 0), (.int .i64 0), .nils] 5 [(0, 4), (4, 4), (8, 4), (12, 4), (16, 4)] [v1, v2, v4, v5, v7] h <| .mk fun v8 h =>
 qBuild [(.int .i64 0), .nils] [(1, 1)] [v8] <| .mk fun v9 =>
 qAlloc 0 [(.int .i64 0), .nils] h <| .mk fun v10 h =>
 qStore 2 v10 v9 h <| .mk fun h =>
 qLoadN 2 v10 h <| .mk fun v11 =>
 qCall call (.fn 183 []) [] h <| .mk fun v12 h =>
 qLoadN 2 v10 h <| .mk fun v13 =>
 qChk v13 v11 <| .mk (
 qBslice 0 [(.int .i64 0), .nils, (.int .i64 0), .nils] 2 [(0, 2), (2, 2)] [v11, v12] h <| .mk fun v14 h =>
 qBuild [.nils] [(0, 1)] [v14] <| .mk fun v15 =>
 qStore 1 v0 v15 h <| .mk fun h =>
 qLoadN 1 v0 h <| .mk fun v16 =>
 k v16 h)
theorem y154 {β : Type} (I : FI) (N : Nat) (call : FCall β) (a : List AV) (h : H) (k : K β) : fBody I 154 T.s154 N call a h k = f154 N call a h k := by kernel_rfl
noncomputable def f183 {β : Type} (N : Nat) (call : FCall β) (a : List AV) (h : H) (k : K β) : Option β :=
 qAlloc 0 [(.int .i64 0), .nils] h <| .mk fun v0 h =>
 qBuild [(.int .i64 0), (.int .i64 0), (.int .i64 0), .nils] [(0, 1)] [(.int .i64 1)] <| .mk fun v1 =>
 qBuild [(.int .i64 0), (.int .i64 0), (.int .i64 0), .nils] [(0, 1), (1, 1)] [(.int .i64 1), (.int .i64 3)] <| .mk fun v2 =>
 qBuild [(.int .i64 0), (.int .i64 0), (.int .i64 0), .nils] [(0, 1), (1, 1)] [(.int .i64 1), (.int .i64 1)] <| .mk fun v3 =>
 qBslice 0 [(.int .i64 0), (.int .i64 0)] 2 [(0, 1), (1, 1)] [(.int .i64 1), (.int .i64 2)] h <| .mk fun v4 h =>
 qBuild [(.int .i64 0), (.int .i64 0), (.int .i64 0), .nils] [(0, 1), (3, 1)] [(.int .i64 4), v4] <| .mk fun v5 =>
 qBuild [(.int .i64 0), (.int .i64 0), (.int .i64 0), .nils] [(0, 1)] [(.int .i64 1)] <| .mk fun v6 =>
 qBuild [(.int .i64 0), (.int .i64 0), (.int .i64 0), .nils] [(0, 1), (1, 1)] [(.int .i64 1), (.int .i64 1)] <| .mk fun v7 =>
 qBslice 0 [(.int .i64 0), (.int .i64 0)] 2 [(0, 1), (1, 1)] [(.int .i64 4), (.int .i64 5)] h <| .mk fun v8 h =>
 qBuild [(.int .i64 0), (.int .i64 0), (.int .i64 0), .nils] [(0, 1), (3, 1)] [(.int .i64 4), v8] <| .mk fun v9 =>
 qBslice 0 [(.int .i64 0), (.int .i64 0), (.int .i64 0)] 3 [(0, 1), (1, 1), (2, 1)] [(.int .i64 0), (.int .i64 3), (.int .i64 6)] h <| .mk fun v10 h =>
 qBuild [(.int .i64 0), (.int .i64 0), (.int .i64 0), .nils] [(0, 1), (1, 1), (2, 1), (3, 1)] [(.int .i64 5), (.int .i64 7), (.int .i64 2), v10] <| .mk fun v11 =>
 qBslice 0 [(.int .i64 0), (.int .i64 0), (.int .i64 0), .nils, (.int .i64 0), (.int .i64 0), (.int .i64 0), .nils, (.int .i64 0), (.int .i64 0), (.int .i64 0), .nils, (.int .i64 0), (.int .i64 0), (.int .i64 0), .nils, (.int .i64 0), (.int .i64 0), (.int .i64 0), .nils, (.int .i64 0), (.int .i64 0), (.int .i64 0), .nils, (.int .i64 0), (.int .i64 0), (.int .i64 0), .nils, (.int .i64 0), (.int .i64 0), (.int .i64 0), .nils] 8 [(0, 4), (4, 4), (8, 4), (12, 4), (16, 4), (20, 4), (24, 4), (28, 4)] [v1, v2, v3, v5, v6, v7, v9, v11] h <| .mk fun v12 h =>
 qBuild [(.int .i64 0), .nils] [(0, 1), (1, 1)] [(.int .i64 2), v12] <| .mk fun v13 =>
 qStore 2 v0 v13 h <| .mk fun h =>
 qLoadN 2 v0 h <| .mk fun v14 =>
 k v14 h
theorem y183 {β : Type} (I : FI) (N : Nat) (call : FCall β) (a : List AV) (h : H) (k : K β) : fBody I 183 T.s183 N call a h k = f183 N call a h k := by kernel_rfl
noncomputable def e154 : Ent := ⟨154, T.s154, fun _ _ N call a h k => f154 N call a h k, fun _ I N call a h k => y154 I N call a h k⟩
noncomputable def e183 : Ent := ⟨183, T.s183, fun _ _ N call a h k => f183 N call a h k, fun _ I N call a h k => y183 I N call a h k⟩
structure GS9 (t : ETree) : Prop where
  g154 : t.get 154 = some e154
  g183 : t.get 183 = some e183
section
variable {β : Type} {t : ETree} {I : FI}
end
end Am.F
