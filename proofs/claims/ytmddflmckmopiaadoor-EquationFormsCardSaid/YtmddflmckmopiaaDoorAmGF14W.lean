/- What the functions come to. -/
import Derived.Test.YtmddflmckmopiaaDoorAmGF14T
import Derived.Test.YtmddflmckmopiaaDoorAmJc
set_option maxRecDepth 100000
set_option linter.unusedVariables false
namespace Am.F
open Go Am
noncomputable def f248 {β : Type} (N : Nat) (call : FCall β) (a : List AV) (h : H) (k : K β) : Option β :=
 fJoin 12 (fun x0 x1 x2 x3 x4 x5 x6 x7 x8 x9 x10 x11 h =>
 pBin .and x1 (.int .i64 1023) fun v1 =>
 pAdd (.int .i64 1) v1 fun v2 =>
 call (.fn 257 []) [] h fun v3 h =>
 pIadr 4 v3 (.int .i64 1) fun v4 =>
 fLoadN 4 v4 h fun v5 =>
 fAlloc 0 [(.int .i64 0), (.int .i64 0), .nils, (.str [])] h fun v6 h =>
 fStore 4 v6 v5 h fun h =>
 fJoin 12 (fun x0 x1 x2 x3 x4 x5 x6 x7 x8 x9 x10 x11 h =>
 fLoadN 4 x4 h fun v8 =>
 call (.fn 258 []) [v8] h fun v9 h =>
 pExt 0 v9 fun v10 =>
 pExt 1 v9 fun v11 =>
 pSEql v10 (.str []) fun v12 =>
 fAnd v12 h (fun h k =>
 call (.fn 16 []) [v11] h fun v13 h =>
 pEql v13 (.int .i64 1400) fun v14 =>
 k v14 h) fun v15 h =>
 k v15 h) fun j7 =>
 pConv .u64 x0 fun v16 =>
 pBin .rem v16 (.int .u64 6) fun v17 =>
 pEql v17 (.int .u64 0) fun v18 =>
 fIf v18 (
 pNeg v2 fun v19 =>
 pFadr 0 v6 fun v20 =>
 fStore 1 v20 v19 h fun h =>
 j7 x0 x1 x2 v2 v6 x5 x6 v5 v17 x9 x10 x11 h) (
 pEql v17 (.int .u64 1) fun v21 =>
 fIf v21 (
 pAdd (.int .i64 7) v2 fun v22 =>
 pFadr 0 v6 fun v23 =>
 fStore 1 v23 v22 h fun h =>
 j7 x0 x1 x2 v2 v6 x5 x6 v5 v17 x9 x10 x11 h) (
 pEql v17 (.int .u64 2) fun v24 =>
 fIf v24 (
 fBslice 0 [(.str []), (.str []), (.str []), (.str [])] 4 [(0, 1), (1, 1), (2, 1), (3, 1)] [(.str [49]), (.str [50]), (.str [51]), (.str [52])] h fun v25 h =>
 pFadr 2 v6 fun v26 =>
 fStore 1 v26 v25 h fun h =>
 j7 x0 x1 x2 v2 v6 x5 x6 v5 v17 x9 x10 x11 h) (
 pEql v17 (.int .u64 3) fun v27 =>
 fIf v27 (
 pFadr 2 v6 fun v28 =>
 fLoad1 v28 h fun v29 =>
 pIadr 1 v29 (.int .i64 0) fun v30 =>
 fStore 1 v30 (.str [49, 32, 50]) h fun h =>
 j7 x0 x1 x2 v2 v6 x5 x6 v5 v17 x9 x10 x11 h) (
 pEql v17 (.int .u64 4) fun v31 =>
 fIf v31 (
 pFadr 2 v6 fun v32 =>
 fLoad1 v32 h fun v33 =>
 pIadr 1 v33 (.int .i64 1) fun v34 =>
 fStore 1 v34 (.str []) h fun h =>
 j7 x0 x1 x2 v2 v6 x5 x6 v5 v17 x9 x10 x11 h) (
 pFadr 3 v6 fun v35 =>
 fStore 1 v35 (.str [61, 32, 57]) h fun h =>
 j7 x0 x1 x2 v2 v6 x5 x6 v5 v17 x9 x10 x11 h)))))) fun j0 =>
 call (.fn 256 []) [] h fun v36 h =>
 pNot v36 fun v37 =>
 fIf v37 (
 k (.bool false) h) (
 j0 (nth a 0) (nth a 1) (.bool false) (nth a 5) (nth a 6) (nth a 7) (nth a 8) (nth a 16) (nth a 19) (nth a 45) (nth a 48) (nth a 49) h)
theorem y248 {β : Type} (I : FI) (N : Nat) (call : FCall β) (a : List AV) (h : H) (k : K β) : fBody I 248 T.s248 N call a h k = f248 N call a h k := by kernel_rfl
noncomputable def f249 {β : Type} (N : Nat) (call : FCall β) (a : List AV) (h : H) (k : K β) : Option β :=
 fJoin 11 (fun x0 x1 x2 x3 x4 x5 x6 x7 x8 x9 x10 h =>
 pBin .and x0 (.int .i64 7) fun v1 =>
 fBslice 0 [(.str [])] 1 [(0, 1)] [(.str [49])] h fun v2 h =>
 fBslice 0 [(.str []), (.str [])] 2 [(0, 1), (1, 1)] [(.str [95]), (.str [33])] h fun v3 h =>
 fBslice 0 [(.str []), (.str []), (.str [])] 3 [(0, 1), (1, 1), (2, 1)] [(.str [64, 49, 40, 50, 32, 51, 41]), (.str [45, 52]), (.str [95])] h fun v4 h =>
 fBslice 0 [.nils, .nils, .nils, .nils] 4 [(0, 1), (1, 1), (2, 1), (3, 1)] [.nils, v2, v3, v4] h fun v5 h =>
 pBin .and x1 (.int .i64 3) fun v6 =>
 pIadr 1 v5 v6 fun v7 =>
 fLoad1 v7 h fun v8 =>
 fBslice 0 [(.str []), (.str []), (.str []), (.str [])] 4 [(0, 1), (1, 1), (2, 1), (3, 1)] [(.str []), (.str [32, 49]), (.str [32, 95, 32, 33]), (.str [32, 64, 49, 40, 50, 32, 51, 41, 32, 45, 52, 32, 95])] h fun v9 h =>
 pBin .and x1 (.int .i64 3) fun v10 =>
 pIadr 1 v9 v10 fun v11 =>
 fLoad1 v11 h fun v12 =>
 pBuild [(.int .i64 0), (.int .i64 0), .nils, (.str [])] [(0, 1), (1, 1), (2, 1), (3, 1)] [v1, x1, v8, (.str [64, 57])] fun v13 =>
 call (.fn 258 []) [v13] h fun v14 h =>
 pExt 0 v14 fun v15 =>
 pExt 1 v14 fun v16 =>
 call (.fn 16 []) [v16] h fun v17 h =>
 pEql v17 (.int .i64 0) fun v18 =>
 fAnd v18 h (fun h k =>
 call (.fn 22 []) [v1] h fun v19 h =>
 pSAdd (.str [102]) v19 fun v20 =>
 pSAdd v20 v12 fun v21 =>
 pSAdd v21 (.str [32, 61, 32, 64, 57]) fun v22 =>
 pSEql v15 v22 fun v23 =>
 k v23 h) fun v24 h =>
 fAnd v24 h (fun h k =>
 call (.fn 257 []) [] h fun v25 h =>
 pLenL v25 fun v26 =>
 pEql v26 (.int .i64 5) fun v27 =>
 k v27 h) fun v28 h =>
 k v28 h) fun j0 =>
 call (.fn 256 []) [] h fun v29 h =>
 pNot v29 fun v30 =>
 fIf v30 (
 k (.bool false) h) (
 j0 (nth a 0) (nth a 1) (.bool false) (nth a 5) (nth a 6) (nth a 7) (nth a 8) (nth a 9) (nth a 27) (nth a 33) (nth a 34) h)
theorem y249 {β : Type} (I : FI) (N : Nat) (call : FCall β) (a : List AV) (h : H) (k : K β) : fBody I 249 T.s249 N call a h k = f249 N call a h k := by kernel_rfl
noncomputable def e248 : Ent := ⟨248, T.s248, fun _ _ N call a h k => f248 N call a h k, fun _ I N call a h k => y248 I N call a h k⟩
noncomputable def e249 : Ent := ⟨249, T.s249, fun _ _ N call a h k => f249 N call a h k, fun _ I N call a h k => y249 I N call a h k⟩
structure GF14 (t : ETree) : Prop where
  g248 : t.get 248 = some e248
  g249 : t.get 249 = some e249
section
variable {β : Type} {t : ETree} {I : FI}
end
end Am.F
