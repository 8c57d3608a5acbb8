/- What the functions come to. -/
import Derived.Test.YtnhappodbogoaaaGreatDoorAmGN9sT
import Derived.Test.YtnhappodbogoaaaGreatDoorAmJc
set_option maxRecDepth 100000
set_option linter.unusedVariables false
namespace Am.F
open Go Am
noncomputable def f241_J2 {β : Type} (call : FCall β) (k : K β) (x0 x1 x2 x3 x4 x5 x6 x7 x8 x9 x10 x11 x12 x13 : AV) (h : H) : Option β :=
 qCall call (.fn 245 []) [x3] h <| .mk fun v3 h =>
 qMul (.int .i64 2) x2 <| .mk fun v4 =>
 qAdd v4 (.int .i64 1) <| .mk fun v5 =>
 qCall call (.fn 155 []) [v3, (.int .i64 0), .nils, v5] h <| .mk fun v6 h =>
 qExt 0 v6 <| .mk fun v7 =>
 qExt 1 v6 <| .mk fun v8 =>
 qCall call (.fn 245 []) [x3] h <| .mk fun v9 h =>
 qMul (.int .i64 2) x2 <| .mk fun v10 =>
 qCall call (.fn 155 []) [v9, (.int .i64 0), .nils, v10] h <| .mk fun v11 h =>
 qExt 0 v11 <| .mk fun v12 =>
 qExt 1 v11 <| .mk fun v13 =>
 qCall call (.fn 16 []) [v8] h <| .mk fun v14 h =>
 qEql v14 (.int .i64 0) <| .mk fun v15 =>
 qAnd v15 h (.mk fun h k =>
 qAdd x2 (.int .i64 1) <| .mk fun v16 =>
 qCall call (.fn 22 []) [v16] h <| .mk fun v17 h =>
 qSEql v7 v17 <| .mk fun v18 =>
 k v18 h) <| .mk fun v19 h =>
 qAnd v19 h (.mk fun h k =>
 qCall call (.fn 16 []) [v13] h <| .mk fun v20 h =>
 qEql v20 (.int .i64 901) <| .mk fun v21 =>
 k v21 h) <| .mk fun v22 h =>
 k v22 h
noncomputable def f241_J25 {β : Type} (l23 : Cur β 14) (x0 x1 x2 x3 x4 x5 x6 x7 x8 x9 x10 x11 x12 x13 : AV) (h : H) : Option β :=
 qAdd x4 (.int .i64 1) <| .mk fun v26 =>
 l23 x0 x1 x2 x3 v26 x5 x6 x7 x8 x9 x10 x11 x12 x13 h
noncomputable def f241_J24 {β : Type} (l23 : Cur β 14) (x0 x1 x2 x3 x4 x5 x6 x7 x8 x9 x10 x11 x12 x13 : AV) (h : H) : Option β :=
 qJoin 14 (.mk (
 f241_J25 l23)) <| .mk fun j25 =>
 qSAdd (.str [40, 43, 32]) x3 <| .mk fun v27 =>
 qSAdd v27 (.str [32, 49, 41]) <| .mk fun v28 =>
 j25 x0 x1 x2 v28 x4 x5 x6 x7 x8 x9 x10 x11 x12 x13 h
noncomputable def f241_L23 {β : Type} (j2 : Cur β 14) (l23 : Cur β 14) (x0 x1 x2 x3 x4 x5 x6 x7 x8 x9 x10 x11 x12 x13 : AV) (h : H) : Option β :=
 qJoin 14 (.mk (
 f241_J24 l23)) <| .mk fun j24 =>
 qLss x4 x2 <| .mk fun v29 =>
 qIf v29 (.mk (
 j24 .any .any x2 x3 x4 .any .any .any .any .any .any .any .any .any h)) <| .mk (
 j2 .any .any x2 x3 x4 .any .any .any .any .any .any .any .any .any h)
noncomputable def f241_J0 {β : Type} (N : Nat) (call : FCall β) (k : K β) (x0 x1 x2 x3 x4 x5 x6 x7 x8 x9 x10 x11 x12 x13 : AV) (h : H) : Option β :=
 qBin .and x0 (.int .i64 7) <| .mk fun v1 =>
 qJoin 14 (.mk (
 f241_J2 call k)) <| .mk fun j2 =>
 (qLoop 14 N <| .mk (
 f241_L23 j2)) x0 x1 v1 (.str [49]) (.int .i64 0) x5 x6 x7 x8 x9 x10 x11 x12 x13 h
noncomputable def f241 {β : Type} (N : Nat) (call : FCall β) (a : List AV) (h : H) (k : K β) : Option β :=
 qJoin 14 (.mk (
 f241_J0 N call k)) <| .mk fun j0 =>
 qCall call (.fn 153 []) [] h <| .mk fun v30 h =>
 qNot v30 <| .mk fun v31 =>
 qIf v31 (.mk (
 k (.bool false) h)) <| .mk (
 j0 (nth a 0) (.bool false) (nth a 3) (nth a 4) (nth a 5) (nth a 6) (nth a 7) (nth a 9) (nth a 22) (nth a 29) (nth a 30) (nth a 31) (nth a 37) (nth a 38) h)
theorem y241 {β : Type} (I : FI) (N : Nat) (call : FCall β) (a : List AV) (h : H) (k : K β) : fBody I 241 T.s241 N call a h k = f241 N call a h k := by kernel_rfl
noncomputable def e241 : Ent := ⟨241, T.s241, fun _ _ N call a h k => f241 N call a h k, fun _ I N call a h k => y241 I N call a h k⟩
structure GN9s (t : ETree) : Prop where
  g241 : t.get 241 = some e241
section
variable {β : Type} {t : ETree} {I : FI}
theorem GN9s.c241 (T : GN9s t) (n : Nat) (a : List AV) (h : H) (k : K β) : fRunS t I (n + 1) (.fn 241 []) a h k = f241 n (fRunS t I n) a h k := by rw [fRunS_succ t I n 241 [] a h k T.g241, List.append_nil]; rfl
end
end Am.F
