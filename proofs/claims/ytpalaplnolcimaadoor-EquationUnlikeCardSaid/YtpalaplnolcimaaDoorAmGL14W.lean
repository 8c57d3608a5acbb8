/- What the functions come to. -/
import Derived.Test.YtpalaplnolcimaaDoorAmGL14T
import Derived.Test.YtpalaplnolcimaaDoorAmJc
set_option maxRecDepth 100000
set_option linter.unusedVariables false
namespace Am.F
open Go Am
noncomputable def f256_sleuthlaw14_awake {β : Type} (N : Nat) (call : FCall β) (a : List AV) (h : H) (k : K β) : Option β :=
 qCall call (.fn 257 []) [] h <| .mk fun v0 h =>
 qIadr 4 v0 (.int .i64 1) <| .mk fun v1 =>
 qLoadN 4 v1 h <| .mk fun v2 =>
 qCall call (.fn 258 []) [v2] h <| .mk fun v3 h =>
 qExt 0 v3 <| .mk fun v4 =>
 qExt 1 v3 <| .mk fun v5 =>
 qCall call (.fn 257 []) [] h <| .mk fun v6 h =>
 qIadr 4 v6 (.int .i64 0) <| .mk fun v7 =>
 qLoadN 4 v7 h <| .mk fun v8 =>
 qCall call (.fn 258 []) [v8] h <| .mk fun v9 h =>
 qExt 0 v9 <| .mk fun v10 =>
 qExt 1 v9 <| .mk fun v11 =>
 qBuild [(.int .i64 0), (.int .i64 0), .nils, (.str [])] [] [] <| .mk fun v12 =>
 qCall call (.fn 258 []) [v12] h <| .mk fun v13 h =>
 qExt 0 v13 <| .mk fun v14 =>
 qExt 1 v13 <| .mk fun v15 =>
 qSEql v4 (.str [102, 49, 32, 64, 55, 40, 95, 32, 52, 41, 32, 53, 32, 61, 32, 57]) <| .mk fun v16 =>
 qAnd v16 h (.mk fun h k =>
 qCall call (.fn 16 []) [v5] h <| .mk fun v17 h =>
 qEql v17 (.int .i64 0) <| .mk fun v18 =>
 k v18 h) <| .mk fun v19 h =>
 qAnd v19 h (.mk fun h k =>
 qSEql v10 (.str [102, 48, 32, 61, 32, 57]) <| .mk fun v20 =>
 k v20 h) <| .mk fun v21 h =>
 qAnd v21 h (.mk fun h k =>
 qCall call (.fn 16 []) [v11] h <| .mk fun v22 h =>
 qEql v22 (.int .i64 0) <| .mk fun v23 =>
 k v23 h) <| .mk fun v24 h =>
 qAnd v24 h (.mk fun h k =>
 qCall call (.fn 16 []) [v15] h <| .mk fun v25 h =>
 qEql v25 (.int .i64 1400) <| .mk fun v26 =>
 k v26 h) <| .mk fun v27 h =>
 k v27 h

theorem e256_sleuthlaw14_awake {β : Type} (I : FI) (N : Nat) (call : FCall β) (a : List AV) (h : H) (k : K β) : fBody I 256 T.s256_sleuthlaw14_awake N call a h k = f256_sleuthlaw14_awake N call a h k := by kernel_rfl

noncomputable def f257_sleuthlaw14_some {β : Type} (N : Nat) (call : FCall β) (a : List AV) (h : H) (k : K β) : Option β :=
 qBuild [(.int .i64 0), (.int .i64 0), .nils, (.str [])] [(1, 1), (3, 1)] [(.int .i64 (-1)), (.str [57])] <| .mk fun v0 =>
 qBslice 0 [(.str []), (.str [])] 2 [(0, 1), (1, 1)] [(.str [64, 55, 40, 95, 32, 52, 41]), (.str [53])] h <| .mk fun v1 h =>
 qBuild [(.int .i64 0), (.int .i64 0), .nils, (.str [])] [(0, 1), (1, 1), (2, 1), (3, 1)] [(.int .i64 1), (.int .i64 0), v1, (.str [57])] <| .mk fun v2 =>
 qBuild [(.int .i64 0), (.int .i64 0), .nils, (.str [])] [(0, 1), (1, 1), (3, 1)] [(.int .i64 2), (.int .i64 0), (.str [33])] <| .mk fun v3 =>
 qBslice 0 [(.str []), (.str [])] 2 [(0, 1), (1, 1)] [(.str [49]), (.str [95])] h <| .mk fun v4 h =>
 qBuild [(.int .i64 0), (.int .i64 0), .nils, (.str [])] [(0, 1), (1, 1), (2, 1), (3, 1)] [(.int .i64 1), (.int .i64 1), v4, (.str [95])] <| .mk fun v5 =>
 qBslice 0 [(.str []), (.str [])] 2 [(0, 1), (1, 1)] [(.str [49]), (.str [95])] h <| .mk fun v6 h =>
 qBuild [(.int .i64 0), (.int .i64 0), .nils, (.str [])] [(0, 1), (1, 1), (2, 1), (3, 1)] [(.int .i64 1), (.int .i64 2), v6, (.str [95])] <| .mk fun v7 =>
 qBslice 0 [(.int .i64 0), (.int .i64 0), .nils, (.str []), (.int .i64 0), (.int .i64 0), .nils, (.str []), (.int .i64 0), (.int .i64 0), .nils, (.str []), (.int .i64 0), (.int .i64 0), .nils, (.str []), (.int .i64 0), (.int .i64 0), .nils, (.str [])] 5 [(0, 4), (4, 4), (8, 4), (12, 4), (16, 4)] [v0, v2, v3, v5, v7] h <| .mk fun v8 h =>
 k v8 h

theorem e257_sleuthlaw14_some {β : Type} (I : FI) (N : Nat) (call : FCall β) (a : List AV) (h : H) (k : K β) : fBody I 257 T.s257_sleuthlaw14_some N call a h k = f257_sleuthlaw14_some N call a h k := by kernel_rfl

noncomputable def f291_sleuthlaw14_Equations {β : Type} (N : Nat) (call : FCall β) (a : List AV) (h : H) (k : K β) : Option β :=
 qBox 0 (nth a 0) h <| .mk fun v0 h =>
 qLoadN 4 v0 h <| .mk fun v1 =>
 qBslice 0 [(.int .i64 0), (.int .i64 0), .nils, (.str [])] 1 [(0, 4)] [v1] h <| .mk fun v2 h =>
 qCall call (.fn 244 []) [v2] h <| .mk fun v3 h =>
 qIadr 4 v3 (.int .i64 0) <| .mk fun v4 =>
 qLoadN 4 v4 h <| .mk fun v5 =>
 qCall call (.fn 258 []) [v5] h <| .mk fun v6 h =>
 qExt 0 v6 <| .mk fun v7 =>
 qExt 1 v6 <| .mk fun v8 =>
 qLoadN 4 v0 h <| .mk fun v9 =>
 qCall call (.fn 295 []) [v9] h <| .mk fun v10 h =>
 qExt 0 v10 <| .mk fun v11 =>
 qExt 1 v10 <| .mk fun v12 =>
 qSEql v7 v11 <| .mk fun v13 =>
 qGrd v13 true h (.mk fun h k =>
 k v8 h) <| .mk fun v14 h =>
 qGrd v13 true h (.mk fun h k =>
 k v12 h) <| .mk fun v15 h =>
 qGrd v13 true h (.mk fun h k =>
 qCall call (.fn 16 []) [v14] h <| .mk fun v16 h =>
 k v16 h) <| .mk fun v17 h =>
 qGrd v13 true h (.mk fun h k =>
 qEql v17 v15 <| .mk fun v18 =>
 k v18 h) <| .mk fun v19 h =>
 qPick v13 v19 (.bool false) <| .mk fun v20 =>
 qGrd v20 true h (.mk fun h k =>
 k v3 h) <| .mk fun v21 h =>
 qGrd v20 true h (.mk fun h k =>
 qIadr 4 v21 (.int .i64 0) <| .mk fun v22 =>
 k v22 h) <| .mk fun v23 h =>
 qGrd v20 true h (.mk fun h k =>
 qLoadN 4 v23 h <| .mk fun v24 =>
 k v24 h) <| .mk fun v25 h =>
 qGrd v20 true h (.mk fun h k =>
 qLoadN 4 v0 h <| .mk fun v26 =>
 k v26 h) <| .mk fun v27 h =>
 qGrd v20 true h (.mk fun h k =>
 qCall call (.fn 166 []) [v25, v27] h <| .mk fun v28 h =>
 k v28 h) <| .mk fun v29 h =>
 qPick v20 v29 (.bool false) <| .mk fun v30 =>
 qGrd v30 true h (.mk fun h k =>
 qCall call (.fn 256 []) [] h <| .mk fun v31 h =>
 k v31 h) <| .mk fun v32 h =>
 qPick v30 v32 (.bool false) <| .mk fun v33 =>
 k v33 h

theorem e291_sleuthlaw14_Equations {β : Type} (I : FI) (N : Nat) (call : FCall β) (a : List AV) (h : H) (k : K β) : fBody I 291 T.s291_sleuthlaw14_Equations N call a h k = f291_sleuthlaw14_Equations N call a h k := by kernel_rfl

noncomputable def f292_J18 {β : Type} (call : FCall β) (k : K β) (x0 x1 x2 x3 x4 x5 x6 x7 x8 x9 x10 x11 x12 x13 x14 x15 x16 x17 x18 x19 x20 x21 x22 x23 : AV) (h : H) : Option β :=
 qFadr 0 x3 <| .mk fun v19 =>
 qLoad1 v19 h <| .mk fun v20 =>
 qFadr 0 x4 <| .mk fun v21 =>
 qLoad1 v21 h <| .mk fun v22 =>
 qEql v20 v22 <| .mk fun v23 =>
 qAnd v23 h (.mk fun h k =>
 qFadr 2 x3 <| .mk fun v24 =>
 qLoad1 v24 h <| .mk fun v25 =>
 qFadr 2 x4 <| .mk fun v26 =>
 qLoad1 v26 h <| .mk fun v27 =>
 qCall call (.fn 15 []) [v25, v27] h <| .mk fun v28 h =>
 k v28 h) <| .mk fun v29 h =>
 qAnd v29 h (.mk fun h k =>
 qFadr 3 x3 <| .mk fun v30 =>
 qLoad1 v30 h <| .mk fun v31 =>
 qFadr 3 x4 <| .mk fun v32 =>
 qLoad1 v32 h <| .mk fun v33 =>
 qSEql v31 v33 <| .mk fun v34 =>
 k v34 h) <| .mk fun v35 h =>
 qSEql x6 x8 <| .mk fun v36 =>
 qEqB false v36 v35 <| .mk fun v37 =>
 qAnd v37 h (.mk fun h k =>
 qCall call (.fn 16 []) [x12] h <| .mk fun v38 h =>
 qEql v38 (.int .i64 0) <| .mk fun v39 =>
 k v39 h) <| .mk fun v40 h =>
 qAnd v40 h (.mk fun h k =>
 qSEql x11 x6 <| .mk fun v41 =>
 k v41 h) <| .mk fun v42 h =>
 k v42 h

noncomputable def f292_J2 {β : Type} (call : FCall β) (k : K β) (x0 x1 x2 x3 x4 x5 x6 x7 x8 x9 x10 x11 x12 x13 x14 x15 x16 x17 x18 x19 x20 x21 x22 x23 : AV) (h : H) : Option β :=
 qLoadN 4 x3 h <| .mk fun v3 =>
 qCall call (.fn 258 []) [v3] h <| .mk fun v4 h =>
 qExt 0 v4 <| .mk fun v5 =>
 qExt 1 v4 <| .mk fun v6 =>
 qLoadN 4 x4 h <| .mk fun v7 =>
 qCall call (.fn 258 []) [v7] h <| .mk fun v8 h =>
 qExt 0 v8 <| .mk fun v9 =>
 qExt 1 v8 <| .mk fun v10 =>
 qLoadN 4 x3 h <| .mk fun v11 =>
 qAlloc 0 [(.int .i64 0), (.int .i64 0), .nils, (.str [])] h <| .mk fun v12 h =>
 qStore 4 v12 v11 h <| .mk fun h =>
 qFadr 1 v12 <| .mk fun v13 =>
 qStore 1 v13 x2 h <| .mk fun h =>
 qLoadN 4 v12 h <| .mk fun v14 =>
 qCall call (.fn 258 []) [v14] h <| .mk fun v15 h =>
 qExt 0 v15 <| .mk fun v16 =>
 qExt 1 v15 <| .mk fun v17 =>
 qJoin 24 (.mk (
 f292_J18 call k)) <| .mk fun j18 =>
 qCall call (.fn 16 []) [v6] h <| .mk fun v43 h =>
 qNeq v43 (.int .i64 0) <| .mk fun v44 =>
 qOr v44 h (.mk fun h k =>
 qCall call (.fn 16 []) [v10] h <| .mk fun v45 h =>
 qNeq v45 (.int .i64 0) <| .mk fun v46 =>
 k v46 h) <| .mk fun v47 h =>
 qIf v47 (.mk (
 qCall call (.fn 16 []) [v6] h <| .mk fun v48 h =>
 qEql v48 (.int .i64 0) <| .mk fun v49 =>
 qOr v49 h (.mk fun h k =>
 qSEql v5 (.str []) <| .mk fun v50 =>
 k v50 h) <| .mk fun v51 h =>
 qAnd v51 h (.mk fun h k =>
 qCall call (.fn 16 []) [v10] h <| .mk fun v52 h =>
 qEql v52 (.int .i64 0) <| .mk fun v53 =>
 qOr v53 h (.mk fun h k =>
 qSEql v9 (.str []) <| .mk fun v54 =>
 k v54 h) <| .mk fun v55 h =>
 k v55 h) <| .mk fun v56 h =>
 k v56 h)) <| .mk (
 j18 x0 x1 x2 x3 x4 x5 v5 v6 v9 v10 v12 v16 v17 x13 v4 v5 v6 v8 v9 v10 v11 v15 v16 v17 h)

noncomputable def f292_sleuthlaw14_EquationUnlike {β : Type} (N : Nat) (call : FCall β) (a : List AV) (h : H) (k : K β) : Option β :=
 qBox 0 (nth a 0) h <| .mk fun v0 h =>
 qBox 0 (nth a 1) h <| .mk fun v1 h =>
 qJoin 24 (.mk (
 f292_J2 call k)) <| .mk fun j2 =>
 qCall call (.fn 256 []) [] h <| .mk fun v57 h =>
 qNot v57 <| .mk fun v58 =>
 qIf v58 (.mk (
 k (.bool false) h)) <| .mk (
 j2 (nth a 0) (nth a 1) (nth a 2) v0 v1 (.bool false) (nth a 7) (nth a 8) (nth a 9) (nth a 10) (nth a 11) (nth a 12) (nth a 13) (nth a 14) (nth a 17) (nth a 20) (nth a 21) (nth a 22) (nth a 25) (nth a 26) (nth a 27) (nth a 30) (nth a 33) (nth a 34) h)

theorem e292_sleuthlaw14_EquationUnlike {β : Type} (I : FI) (N : Nat) (call : FCall β) (a : List AV) (h : H) (k : K β) : fBody I 292 T.s292_sleuthlaw14_EquationUnlike N call a h k = f292_sleuthlaw14_EquationUnlike N call a h k := by kernel_rfl

noncomputable def e256 : Ent := ⟨256, T.s256_sleuthlaw14_awake, fun _ _ N call a h k => f256_sleuthlaw14_awake N call a h k, fun _ I N call a h k => e256_sleuthlaw14_awake I N call a h k⟩
noncomputable def e257 : Ent := ⟨257, T.s257_sleuthlaw14_some, fun _ _ N call a h k => f257_sleuthlaw14_some N call a h k, fun _ I N call a h k => e257_sleuthlaw14_some I N call a h k⟩
noncomputable def e291 : Ent := ⟨291, T.s291_sleuthlaw14_Equations, fun _ _ N call a h k => f291_sleuthlaw14_Equations N call a h k, fun _ I N call a h k => e291_sleuthlaw14_Equations I N call a h k⟩
noncomputable def e292 : Ent := ⟨292, T.s292_sleuthlaw14_EquationUnlike, fun _ _ N call a h k => f292_sleuthlaw14_EquationUnlike N call a h k, fun _ I N call a h k => e292_sleuthlaw14_EquationUnlike I N call a h k⟩

/-- The table holds these functions. -/
structure GL14 (t : ETree) : Prop where
  g256 : t.get 256 = some e256
  g257 : t.get 257 = some e257
  g291 : t.get 291 = some e291
  g292 : t.get 292 = some e292

section
variable {β : Type} {t : ETree} {I : FI}
theorem GL14.c256 (T : GL14 t) (n : Nat) (a : List AV) (h : H) (k : K β) : fRunS t I (n + 1) (.fn 256 []) a h k = f256_sleuthlaw14_awake n (fRunS t I n) a h k := by rw [fRunS_succ t I n 256 [] a h k T.g256, List.append_nil]; rfl
theorem GL14.c257 (T : GL14 t) (n : Nat) (a : List AV) (h : H) (k : K β) : fRunS t I (n + 1) (.fn 257 []) a h k = f257_sleuthlaw14_some n (fRunS t I n) a h k := by rw [fRunS_succ t I n 257 [] a h k T.g257, List.append_nil]; rfl
theorem GL14.c291 (T : GL14 t) (n : Nat) (a : List AV) (h : H) (k : K β) : fRunS t I (n + 1) (.fn 291 []) a h k = f291_sleuthlaw14_Equations n (fRunS t I n) a h k := by rw [fRunS_succ t I n 291 [] a h k T.g291, List.append_nil]; rfl
theorem GL14.c292 (T : GL14 t) (n : Nat) (a : List AV) (h : H) (k : K β) : fRunS t I (n + 1) (.fn 292 []) a h k = f292_sleuthlaw14_EquationUnlike n (fRunS t I n) a h k := by rw [fRunS_succ t I n 292 [] a h k T.g292, List.append_nil]; rfl
theorem GL14.q256 (T : GL14 t) (n : Nat) (a : List AV) (h : H) (k : K β) : qCall (fRunS t I (n + 1)) (.fn 256 []) a h (.mk k) = f256_sleuthlaw14_awake n (fRunS t I n) a h k := T.c256 n a h k
theorem GL14.q257 (T : GL14 t) (n : Nat) (a : List AV) (h : H) (k : K β) : qCall (fRunS t I (n + 1)) (.fn 257 []) a h (.mk k) = f257_sleuthlaw14_some n (fRunS t I n) a h k := T.c257 n a h k
theorem GL14.q291 (T : GL14 t) (n : Nat) (a : List AV) (h : H) (k : K β) : qCall (fRunS t I (n + 1)) (.fn 291 []) a h (.mk k) = f291_sleuthlaw14_Equations n (fRunS t I n) a h k := T.c291 n a h k
theorem GL14.q292 (T : GL14 t) (n : Nat) (a : List AV) (h : H) (k : K β) : qCall (fRunS t I (n + 1)) (.fn 292 []) a h (.mk k) = f292_sleuthlaw14_EquationUnlike n (fRunS t I n) a h k := T.c292 n a h k
end
end Am.F
