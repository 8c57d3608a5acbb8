/- What the functions come to. -/
import Derived.Test.YtnhappodbogoaaaGreatDoorAmGO9T
import Derived.Test.YtnhappodbogoaaaGreatDoorAmJc
set_option maxRecDepth 100000
set_option linter.unusedVariables false
namespace Am.F
open Go Am
noncomputable def f245 {β : Type} (N : Nat) (call : FCall β) (a : List AV) (h : H) (k : K β) : Option β :=
 qAlloc 0 [.nils] h <| .mk fun v0 h =>
 qSAdd (.str [40, 100, 101, 102, 32, 48, 32]) (nth a 0) <| .mk fun v1 =>
 qSAdd v1 (.str [41, 10, 40, 100, 101, 102, 32, 50, 32, 40, 99, 97, 115, 101, 32, 36, 48, 32, 64, 55, 32, 50, 32, 40, 43, 32, 36, 51, 32, 36, 49, 41, 32, 40, 43, 32, 36, 48, 32, 36, 49, 41, 41, 41, 10, 40, 100, 101, 102, 32, 49, 32, 40, 102, 50, 32, 36, 48, 41, 41, 10, 40, 100, 101, 102, 32, 50, 32, 36, 49, 41, 10]) <| .mk fun v2 =>
 qCall call (.fn 148 []) [v2] h <| .mk fun v3 h =>
 qExt 0 v3 <| .mk fun v4 =>
 qExt 1 v3 <| .mk fun v5 =>
 qAlloc 0 [.nils] h <| .mk fun v6 h =>
 qStore 1 v6 v4 h <| .mk fun h =>
 qLoadN 1 v6 h <| .mk fun v7 =>
 qStore 1 v0 v7 h <| .mk fun h =>
 qLoadN 1 v0 h <| .mk fun v8 =>
 k v8 h
theorem y245 {β : Type} (I : FI) (N : Nat) (call : FCall β) (a : List AV) (h : H) (k : K β) : fBody I 245 T.s245 N call a h k = f245 N call a h k := by kernel_rfl
noncomputable def e245 : Ent := ⟨245, T.s245, fun _ _ N call a h k => f245 N call a h k, fun _ I N call a h k => y245 I N call a h k⟩
structure GO9 (t : ETree) : Prop where
  g245 : t.get 245 = some e245
section
variable {β : Type} {t : ETree} {I : FI}
end
end Am.F
