/- What the functions come to. -/
import Derived.Test.YtmddflmckmopiaaDoorAmGW14T
import Derived.Test.YtmddflmckmopiaaDoorAmJc
set_option maxRecDepth 100000
set_option linter.unusedVariables false
namespace Am.F
open Go Am
noncomputable def f256 {β : Type} (N : Nat) (call : FCall β) (a : List AV) (h : H) (k : K β) : Option β :=
 qCall call (.fn 257 []) [] h <| .mk fun v0 h =>
 qIadr 4 v0 (.int .i64 1) <| .mk fun v1 =>
 qLoadN 4 v1 h <| .mk fun v2 =>
 qCall call (.fn 258 []) [v2] h <| .mk fun v3 h =>
 qExt 0 v3 <| .mk fun v4 =>
 qExt 1 v3 <| .mk fun v5 =>
 qCall call (.fn 257 []) [] h <| .mk fun v6 h =>
 qIadr 4 v6 (.int .i64 0) <| .mk fun v7 =>
 qLoadN 4 v7 h <| .mk fun v8 =>
 qCall call (.fn 258 []) [v8] h <| .mk fun v9 h =>
 qExt 0 v9 <| .mk fun v10 =>
 qExt 1 v9 <| .mk fun v11 =>
 qBuild [(.int .i64 0), (.int .i64 0), .nils, (.str [])] [] [] <| .mk fun v12 =>
 qCall call (.fn 258 []) [v12] h <| .mk fun v13 h =>
 qExt 0 v13 <| .mk fun v14 =>
 qExt 1 v13 <| .mk fun v15 =>
 qSEql v4 (.str [102, 49, 32, 64, 55, 40, 95, 32, 52, 41, 32, 53, 32, 61, 32, 57]) <| .mk fun v16 =>
 qAnd v16 h (.mk fun h k =>
 qCall call (.fn 16 []) [v5] h <| .mk fun v17 h =>
 qEql v17 (.int .i64 0) <| .mk fun v18 =>
 k v18 h) <| .mk fun v19 h =>
 qAnd v19 h (.mk fun h k =>
 qSEql v10 (.str [102, 48, 32, 61, 32, 57]) <| .mk fun v20 =>
 k v20 h) <| .mk fun v21 h =>
 qAnd v21 h (.mk fun h k =>
 qCall call (.fn 16 []) [v11] h <| .mk fun v22 h =>
 qEql v22 (.int .i64 0) <| .mk fun v23 =>
 k v23 h) <| .mk fun v24 h =>
 qAnd v24 h (.mk fun h k =>
 qCall call (.fn 16 []) [v15] h <| .mk fun v25 h =>
 qEql v25 (.int .i64 1400) <| .mk fun v26 =>
 k v26 h) <| .mk fun v27 h =>
 k v27 h
theorem y256 {β : Type} (I : FI) (N : Nat) (call : FCall β) (a : List AV) (h : H) (k : K β) : fBody I 256 T.s256 N call a h k = f256 N call a h k := by kernel_rfl
noncomputable def e256 : Ent := ⟨256, T.s256, fun _ _ N call a h k => f256 N call a h k, fun _ I N call a h k => y256 I N call a h k⟩
structure GW14 (t : ETree) : Prop where
  g256 : t.get 256 = some e256
section
variable {β : Type} {t : ETree} {I : FI}
end
end Am.F
