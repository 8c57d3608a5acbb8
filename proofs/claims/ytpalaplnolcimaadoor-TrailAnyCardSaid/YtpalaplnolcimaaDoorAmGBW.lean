/- What the functions come to. -/
import Derived.Test.YtpalaplnolcimaaDoorAmGBT
import Derived.Test.YtpalaplnolcimaaDoorAmJc
set_option maxRecDepth 100000
set_option linter.unusedVariables false
namespace Am.F
open Go Am
noncomputable def f166 {β : Type} (N : Nat) (call : FCall β) (a : List AV) (h : H) (k : K β) : Option β :=
 qBox 0 (nth a 0) h <| .mk fun v0 h =>
 qBox 0 (nth a 1) h <| .mk fun v1 h =>
 qFadr 0 v0 <| .mk fun v2 =>
 qLoad1 v2 h <| .mk fun v3 =>
 qFadr 0 v1 <| .mk fun v4 =>
 qLoad1 v4 h <| .mk fun v5 =>
 qEql v3 v5 <| .mk fun v6 =>
 qAnd v6 h (.mk fun h k =>
 qFadr 1 v0 <| .mk fun v7 =>
 qLoad1 v7 h <| .mk fun v8 =>
 qFadr 1 v1 <| .mk fun v9 =>
 qLoad1 v9 h <| .mk fun v10 =>
 qEql v8 v10 <| .mk fun v11 =>
 k v11 h) <| .mk fun v12 h =>
 qAnd v12 h (.mk fun h k =>
 qFadr 2 v0 <| .mk fun v13 =>
 qLoad1 v13 h <| .mk fun v14 =>
 qFadr 2 v1 <| .mk fun v15 =>
 qLoad1 v15 h <| .mk fun v16 =>
 qCall call (.fn 15 []) [v14, v16] h <| .mk fun v17 h =>
 k v17 h) <| .mk fun v18 h =>
 qAnd v18 h (.mk fun h k =>
 qFadr 3 v0 <| .mk fun v19 =>
 qLoad1 v19 h <| .mk fun v20 =>
 qFadr 3 v1 <| .mk fun v21 =>
 qLoad1 v21 h <| .mk fun v22 =>
 qSEql v20 v22 <| .mk fun v23 =>
 k v23 h) <| .mk fun v24 h =>
 k v24 h
theorem y166 {β : Type} (I : FI) (N : Nat) (call : FCall β) (a : List AV) (h : H) (k : K β) : fBody I 166 T.s166 N call a h k = f166 N call a h k := by kernel_rfl
noncomputable def f244_J0 {β : Type} (k : K β) (x0 x1 x2 x3 x4 x5 : AV) (h : H) : Option β :=
 k x2 h
noncomputable def f244_J3 {β : Type} (l1 : Cur β 6) (x0 x1 x2 x3 x4 x5 : AV) (h : H) : Option β :=
 qAdd x3 (.int .i64 1) <| .mk fun v4 =>
 l1 x0 x1 x2 v4 x4 x5 h
noncomputable def f244_J2 {β : Type} (l1 : Cur β 6) (x0 x1 x2 x3 x4 x5 : AV) (h : H) : Option β :=
 qJoin 6 (.mk (
 f244_J3 l1)) <| .mk fun j3 =>
 qIadr 4 x0 x3 <| .mk fun v5 =>
 qLoadN 4 v5 h <| .mk fun v6 =>
 qAlloc 0 [(.int .i64 0), (.int .i64 0), .nils, (.str [])] h <| .mk fun v7 h =>
 qStore 4 v7 v6 h <| .mk fun h =>
 qBslice 0 [] 0 [] [] h <| .mk fun v8 h =>
 qFadr 2 v7 <| .mk fun v9 =>
 qLoad1 v9 h <| .mk fun v10 =>
 qApp 0 1 16 v8 v10 h <| .mk fun v11 h =>
 qFadr 2 v7 <| .mk fun v12 =>
 qStore 1 v12 v11 h <| .mk fun h =>
 qLoadN 4 v7 h <| .mk fun v13 =>
 qBslice 0 [(.int .i64 0), (.int .i64 0), .nils, (.str [])] 1 [(0, 4)] [v13] h <| .mk fun v14 h =>
 qApp 0 4 56 x2 v14 h <| .mk fun v15 h =>
 j3 x0 x1 v15 x3 v7 v6 h
noncomputable def f244_L1 {β : Type} (j0 : Cur β 6) (l1 : Cur β 6) (x0 x1 x2 x3 x4 x5 : AV) (h : H) : Option β :=
 qJoin 6 (.mk (
 f244_J2 l1)) <| .mk fun j2 =>
 qLenL x0 <| .mk fun v16 =>
 qLss x3 v16 <| .mk fun v17 =>
 qIf v17 (.mk (
 j2 x0 .any x2 x3 .any .any h)) <| .mk (
 j0 x0 .any x2 x3 .any .any h)
noncomputable def f244 {β : Type} (N : Nat) (call : FCall β) (a : List AV) (h : H) (k : K β) : Option β :=
 qJoin 6 (.mk (
 f244_J0 k)) <| .mk fun j0 =>
 (qLoop 6 N <| .mk (
 f244_L1 j0)) (nth a 0) .nils .nils (.int .i64 0) (nth a 5) (nth a 15) h
theorem y244 {β : Type} (I : FI) (N : Nat) (call : FCall β) (a : List AV) (h : H) (k : K β) : fBody I 244 T.s244 N call a h k = f244 N call a h k := by kernel_rfl
noncomputable def f258_J1 {β : Type} (call : FCall β) (k : K β) (x0 x1 x2 x3 x4 : AV) (h : H) : Option β :=
 qFadr 0 x1 <| .mk fun v2 =>
 qLoad1 v2 h <| .mk fun v3 =>
 qFadr 2 x1 <| .mk fun v4 =>
 qLoad1 v4 h <| .mk fun v5 =>
 qCall call (.fn 29 []) [v3] h <| .mk fun v6 h =>
 qLoad1 v4 h <| .mk fun v7 =>
 qChk v7 v5 <| .mk (
 qSAdd (.str [102]) v6 <| .mk fun v8 =>
 qBslice 0 [(.str [])] 1 [(0, 1)] [v8] h <| .mk fun v9 h =>
 qLoad1 v4 h <| .mk fun v10 =>
 qChk v10 v5 <| .mk (
 qApp 0 1 16 v9 v5 h <| .mk fun v11 h =>
 qFadr 3 x1 <| .mk fun v12 =>
 qLoad1 v12 h <| .mk fun v13 =>
 qBslice 0 [(.str []), (.str [])] 2 [(0, 1), (1, 1)] [(.str [61]), v13] h <| .mk fun v14 h =>
 qApp 0 1 16 v11 v14 h <| .mk fun v15 h =>
 qCall call (.fn 42 []) [v15, (.str [32])] h <| .mk fun v16 h =>
 k (.tup [v16, (.int .i64 0)]) h))
noncomputable def f258 {β : Type} (N : Nat) (call : FCall β) (a : List AV) (h : H) (k : K β) : Option β :=
 qBox 0 (nth a 0) h <| .mk fun v0 h =>
 qJoin 5 (.mk (
 f258_J1 call k)) <| .mk fun j1 =>
 qCall call (.fn 269 []) [v0] h <| .mk fun v17 h =>
 qNot v17 <| .mk fun v18 =>
 qIf v18 (.mk (
 k (.tup [(.str []), (.int .i64 1400)]) h)) <| .mk (
 j1 (nth a 0) v0 (.str []) (.int .i64 0) (nth a 4) h)
theorem y258 {β : Type} (I : FI) (N : Nat) (call : FCall β) (a : List AV) (h : H) (k : K β) : fBody I 258 T.s258 N call a h k = f258 N call a h k := by kernel_rfl
noncomputable def f269 {β : Type} (N : Nat) (call : FCall β) (a : List AV) (h : H) (k : K β) : Option β :=
 qNil (nth a 0) <| .mk fun v0 =>
 qFadr 0 v0 <| .mk fun v1 =>
 qLoad1 v1 h <| .mk fun v2 =>
 qGeq v2 (.int .i64 0) <| .mk fun v3 =>
 qAnd v3 h (.mk fun h k =>
 qNil (nth a 0) <| .mk fun v4 =>
 qFadr 0 v4 <| .mk fun v5 =>
 qLoad1 v5 h <| .mk fun v6 =>
 qLss v6 (.int .i64 8) <| .mk fun v7 =>
 k v7 h) <| .mk fun v8 h =>
 qAnd v8 h (.mk fun h k =>
 qNil (nth a 0) <| .mk fun v9 =>
 qFadr 2 v9 <| .mk fun v10 =>
 qLoad1 v10 h <| .mk fun v11 =>
 qLenL v11 <| .mk fun v12 =>
 qLeq v12 (.int .i64 3) <| .mk fun v13 =>
 k v13 h) <| .mk fun v14 h =>
 qAnd v14 h (.mk fun h k =>
 qNil (nth a 0) <| .mk fun v15 =>
 qFadr 2 v15 <| .mk fun v16 =>
 qLoad1 v16 h <| .mk fun v17 =>
 qCall call (.fn 26 []) [v17] h <| .mk fun v18 h =>
 k v18 h) <| .mk fun v19 h =>
 qAnd v19 h (.mk fun h k =>
 qNil (nth a 0) <| .mk fun v20 =>
 qFadr 3 v20 <| .mk fun v21 =>
 qLoad1 v21 h <| .mk fun v22 =>
 qCall call (.fn 17 []) [v22] h <| .mk fun v23 h =>
 k v23 h) <| .mk fun v24 h =>
 k v24 h
theorem y269 {β : Type} (I : FI) (N : Nat) (call : FCall β) (a : List AV) (h : H) (k : K β) : fBody I 269 T.s269 N call a h k = f269 N call a h k := by kernel_rfl
noncomputable def f295_J6 {β : Type} (k : K β) (x0 x1 x2 x3 x4 x5 : AV) (h : H) : Option β :=
 qSAdd x4 (.str [32, 61, 32]) <| .mk fun v7 =>
 qFadr 3 x1 <| .mk fun v8 =>
 qLoad1 v8 h <| .mk fun v9 =>
 qSAdd v7 v9 <| .mk fun v10 =>
 k (.tup [v10, (.int .i64 0)]) h
noncomputable def f295_J13 {β : Type} (l11 : Cur β 6) (x0 x1 x2 x3 x4 x5 : AV) (h : H) : Option β :=
 qAdd x5 (.int .i64 1) <| .mk fun v14 =>
 l11 x0 x1 x2 x3 x4 v14 h
noncomputable def f295_J12 {β : Type} (l11 : Cur β 6) (x0 x1 x2 x3 x4 x5 : AV) (h : H) : Option β :=
 qJoin 6 (.mk (
 f295_J13 l11)) <| .mk fun j13 =>
 qSAdd x4 (.str [32]) <| .mk fun v15 =>
 qFadr 2 x1 <| .mk fun v16 =>
 qLoad1 v16 h <| .mk fun v17 =>
 qIadr 1 v17 x5 <| .mk fun v18 =>
 qLoad1 v18 h <| .mk fun v19 =>
 qSAdd v15 v19 <| .mk fun v20 =>
 j13 x0 x1 x2 x3 v20 x5 h
noncomputable def f295_L11 {β : Type} (j6 : Cur β 6) (l11 : Cur β 6) (x0 x1 x2 x3 x4 x5 : AV) (h : H) : Option β :=
 qJoin 6 (.mk (
 f295_J12 l11)) <| .mk fun j12 =>
 qFadr 2 x1 <| .mk fun v21 =>
 qLoad1 v21 h <| .mk fun v22 =>
 qLenL v22 <| .mk fun v23 =>
 qLss x5 v23 <| .mk fun v24 =>
 qIf v24 (.mk (
 j12 .any x1 .any .any x4 x5 h)) <| .mk (
 j6 .any x1 .any .any x4 x5 h)
noncomputable def f295_J1 {β : Type} (N : Nat) (call : FCall β) (k : K β) (x0 x1 x2 x3 x4 x5 : AV) (h : H) : Option β :=
 qFadr 0 x1 <| .mk fun v2 =>
 qLoad1 v2 h <| .mk fun v3 =>
 qCall call (.fn 22 []) [v3] h <| .mk fun v4 h =>
 qSAdd (.str [102]) v4 <| .mk fun v5 =>
 qJoin 6 (.mk (
 f295_J6 k)) <| .mk fun j6 =>
 (qLoop 6 N <| .mk (
 f295_L11 j6)) x0 x1 x2 x3 v5 (.int .i64 0) h
noncomputable def f295 {β : Type} (N : Nat) (call : FCall β) (a : List AV) (h : H) (k : K β) : Option β :=
 qBox 0 (nth a 0) h <| .mk fun v0 h =>
 qJoin 6 (.mk (
 f295_J1 N call k)) <| .mk fun j1 =>
 qLoadN 4 v0 h <| .mk fun v25 =>
 qCall call (.fn 296 []) [v25] h <| .mk fun v26 h =>
 qNot v26 <| .mk fun v27 =>
 qIf v27 (.mk (
 k (.tup [(.str []), (.int .i64 1400)]) h)) <| .mk (
 j1 (nth a 0) v0 (.str []) (.int .i64 0) (nth a 4) (nth a 5) h)
theorem y295 {β : Type} (I : FI) (N : Nat) (call : FCall β) (a : List AV) (h : H) (k : K β) : fBody I 295 T.s295 N call a h k = f295 N call a h k := by kernel_rfl
noncomputable def f296_J1 {β : Type} (call : FCall β) (k : K β) (x0 x1 x2 x3 : AV) (h : H) : Option β :=
 qFadr 0 x1 <| .mk fun v2 =>
 qLoad1 v2 h <| .mk fun v3 =>
 qCall call (.fn 297 []) [v3, (.int .i64 0), (.int .i64 7)] h <| .mk fun v4 h =>
 qAnd v4 h (.mk fun h k =>
 qFadr 2 x1 <| .mk fun v5 =>
 qLoad1 v5 h <| .mk fun v6 =>
 qLenL v6 <| .mk fun v7 =>
 qLeq v7 (.int .i64 3) <| .mk fun v8 =>
 k v8 h) <| .mk fun v9 h =>
 qAnd v9 h (.mk fun h k =>
 qFadr 3 x1 <| .mk fun v10 =>
 qLoad1 v10 h <| .mk fun v11 =>
 qCall call (.fn 18 []) [v11] h <| .mk fun v12 h =>
 k v12 h) <| .mk fun v13 h =>
 k v13 h
noncomputable def f296_J16 {β : Type} (l14 : Cur β 4) (x0 x1 x2 x3 : AV) (h : H) : Option β :=
 qAdd x3 (.int .i64 1) <| .mk fun v17 =>
 l14 x0 x1 x2 v17 h
noncomputable def f296_J15 {β : Type} (call : FCall β) (k : K β) (l14 : Cur β 4) (x0 x1 x2 x3 : AV) (h : H) : Option β :=
 qJoin 4 (.mk (
 f296_J16 l14)) <| .mk fun j16 =>
 qFadr 2 x1 <| .mk fun v18 =>
 qLoad1 v18 h <| .mk fun v19 =>
 qIadr 1 v19 x3 <| .mk fun v20 =>
 qLoad1 v20 h <| .mk fun v21 =>
 qCall call (.fn 18 []) [v21] h <| .mk fun v22 h =>
 qNot v22 <| .mk fun v23 =>
 qIf v23 (.mk (
 k (.bool false) h)) <| .mk (
 j16 x0 x1 x2 x3 h)
noncomputable def f296_L14 {β : Type} (call : FCall β) (k : K β) (j1 : Cur β 4) (l14 : Cur β 4) (x0 x1 x2 x3 : AV) (h : H) : Option β :=
 qJoin 4 (.mk (
 f296_J15 call k l14)) <| .mk fun j15 =>
 qFadr 2 x1 <| .mk fun v24 =>
 qLoad1 v24 h <| .mk fun v25 =>
 qLenL v25 <| .mk fun v26 =>
 qLss x3 v26 <| .mk fun v27 =>
 qIf v27 (.mk (
 j15 .any x1 .any x3 h)) <| .mk (
 j1 .any x1 .any x3 h)
noncomputable def f296 {β : Type} (N : Nat) (call : FCall β) (a : List AV) (h : H) (k : K β) : Option β :=
 qBox 0 (nth a 0) h <| .mk fun v0 h =>
 qJoin 4 (.mk (
 f296_J1 call k)) <| .mk fun j1 =>
 (qLoop 4 N <| .mk (
 f296_L14 call k j1)) (nth a 0) v0 (.bool false) (.int .i64 0) h
theorem y296 {β : Type} (I : FI) (N : Nat) (call : FCall β) (a : List AV) (h : H) (k : K β) : fBody I 296 T.s296 N call a h k = f296 N call a h k := by kernel_rfl
noncomputable def f297 {β : Type} (N : Nat) (call : FCall β) (a : List AV) (h : H) (k : K β) : Option β :=
 qGeq (nth a 0) (nth a 1) <| .mk fun v0 =>
 qAnd v0 h (.mk fun h k =>
 qLeq (nth a 0) (nth a 2) <| .mk fun v1 =>
 k v1 h) <| .mk fun v2 h =>
 k v2 h
theorem y297 {β : Type} (I : FI) (N : Nat) (call : FCall β) (a : List AV) (h : H) (k : K β) : fBody I 297 T.s297 N call a h k = f297 N call a h k := by kernel_rfl
noncomputable def e166 : Ent := ⟨166, T.s166, fun _ _ N call a h k => f166 N call a h k, fun _ I N call a h k => y166 I N call a h k⟩
noncomputable def e244 : Ent := ⟨244, T.s244, fun _ _ N call a h k => f244 N call a h k, fun _ I N call a h k => y244 I N call a h k⟩
noncomputable def e258 : Ent := ⟨258, T.s258, fun _ _ N call a h k => f258 N call a h k, fun _ I N call a h k => y258 I N call a h k⟩
noncomputable def e269 : Ent := ⟨269, T.s269, fun _ _ N call a h k => f269 N call a h k, fun _ I N call a h k => y269 I N call a h k⟩
noncomputable def e295 : Ent := ⟨295, T.s295, fun _ _ N call a h k => f295 N call a h k, fun _ I N call a h k => y295 I N call a h k⟩
noncomputable def e296 : Ent := ⟨296, T.s296, fun _ _ N call a h k => f296 N call a h k, fun _ I N call a h k => y296 I N call a h k⟩
noncomputable def e297 : Ent := ⟨297, T.s297, fun _ _ N call a h k => f297 N call a h k, fun _ I N call a h k => y297 I N call a h k⟩
structure GB (t : ETree) : Prop where
  g166 : t.get 166 = some e166
  g244 : t.get 244 = some e244
  g258 : t.get 258 = some e258
  g269 : t.get 269 = some e269
  g295 : t.get 295 = some e295
  g296 : t.get 296 = some e296
  g297 : t.get 297 = some e297
section
variable {β : Type} {t : ETree} {I : FI}
theorem GB.c166 (T : GB t) (n : Nat) (a : List AV) (h : H) (k : K β) : fRunS t I (n + 1) (.fn 166 []) a h k = f166 n (fRunS t I n) a h k := by rw [fRunS_succ t I n 166 [] a h k T.g166, List.append_nil]; rfl
theorem GB.c244 (T : GB t) (n : Nat) (a : List AV) (h : H) (k : K β) : fRunS t I (n + 1) (.fn 244 []) a h k = f244 n (fRunS t I n) a h k := by rw [fRunS_succ t I n 244 [] a h k T.g244, List.append_nil]; rfl
theorem GB.c258 (T : GB t) (n : Nat) (a : List AV) (h : H) (k : K β) : fRunS t I (n + 1) (.fn 258 []) a h k = f258 n (fRunS t I n) a h k := by rw [fRunS_succ t I n 258 [] a h k T.g258, List.append_nil]; rfl
theorem GB.c269 (T : GB t) (n : Nat) (a : List AV) (h : H) (k : K β) : fRunS t I (n + 1) (.fn 269 []) a h k = f269 n (fRunS t I n) a h k := by rw [fRunS_succ t I n 269 [] a h k T.g269, List.append_nil]; rfl
theorem GB.c295 (T : GB t) (n : Nat) (a : List AV) (h : H) (k : K β) : fRunS t I (n + 1) (.fn 295 []) a h k = f295 n (fRunS t I n) a h k := by rw [fRunS_succ t I n 295 [] a h k T.g295, List.append_nil]; rfl
theorem GB.c296 (T : GB t) (n : Nat) (a : List AV) (h : H) (k : K β) : fRunS t I (n + 1) (.fn 296 []) a h k = f296 n (fRunS t I n) a h k := by rw [fRunS_succ t I n 296 [] a h k T.g296, List.append_nil]; rfl
theorem GB.c297 (T : GB t) (n : Nat) (a : List AV) (h : H) (k : K β) : fRunS t I (n + 1) (.fn 297 []) a h k = f297 n (fRunS t I n) a h k := by rw [fRunS_succ t I n 297 [] a h k T.g297, List.append_nil]; rfl
theorem GB.q297 (T : GB t) (n : Nat) (a : List AV) (h : H) (k : K β) : qCall (fRunS t I (n + 1)) (.fn 297 []) a h (.mk k) = f297 n (fRunS t I n) a h k := T.c297 n a h k
end
end Am.F
