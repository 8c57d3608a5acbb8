/- What the functions come to. -/
import Derived.Test.YtmddflmckmopiaaDoorAmGF10T
import Derived.Test.YtmddflmckmopiaaDoorAmJc
set_option maxRecDepth 100000
set_option linter.unusedVariables false
namespace Am.F
open Go Am
noncomputable def f130 {β : Type} (N : Nat) (call : FCall β) (a : List AV) (h : H) (k : K β) : Option β :=
 fJoin 15 (fun x0 x1 x2 x3 x4 x5 x6 x7 x8 x9 x10 x11 x12 x13 x14 h =>
 pBin .and x1 (.int .i64 1023) fun v1 =>
 pAdd (.int .i64 1) v1 fun v2 =>
 call (.fn 151 []) [] h fun v3 h =>
 fAlloc 0 [.nils] h fun v4 h =>
 fStore 1 v4 v3 h fun h =>
 fBslice 0 [(.str []), (.str [])] 2 [(0, 1), (1, 1)] [(.str [49]), (.str [50])] h fun v5 h =>
 pBuild [(.int .i64 0), (.int .i64 0), .nils, (.str [])] [(0, 1), (1, 1), (2, 1), (3, 1)] [(.int .i64 1), x1, v5, (.str [51])] fun v6 =>
 fAlloc 0 [(.int .i64 0), (.int .i64 0), .nils, (.str [])] h fun v7 h =>
 fStore 4 v7 v6 h fun h =>
 fJoin 15 (fun x0 x1 x2 x3 x4 x5 x6 x7 x8 x9 x10 x11 x12 x13 x14 h =>
 fLoadN 1 x4 h fun v9 =>
 fLoadN 4 x5 h fun v10 =>
 call (.fn 152 []) [v9, v10, x6] h fun v11 h =>
 pExt 0 v11 fun v12 =>
 pExt 1 v11 fun v13 =>
 pNot v12 fun v14 =>
 fAnd v14 h (fun h k =>
 call (.fn 16 []) [v13] h fun v15 h =>
 pEql v15 (.int .i64 1000) fun v16 =>
 k v16 h) fun v17 h =>
 k v17 h) fun j8 =>
 pConv .u64 x0 fun v18 =>
 pBin .rem v18 (.int .u64 8) fun v19 =>
 pEql v19 (.int .u64 0) fun v20 =>
 fIf v20 (
 pFadr 0 v4 fun v21 =>
 fLoad1 v21 h fun v22 =>
 pIadr 2 v22 (.int .i64 0) fun v23 =>
 pFadr 0 v23 fun v24 =>
 fStore 1 v24 (.int .i64 1) h fun h =>
 j8 x0 x1 x2 v2 v4 v7 (.int .i64 50) x7 x8 v3 v6 v19 x12 x13 x14 h) (
 pEql v19 (.int .u64 1) fun v25 =>
 fIf v25 (
 pNeg v2 fun v26 =>
 pFadr 0 v7 fun v27 =>
 fStore 1 v27 v26 h fun h =>
 j8 x0 x1 x2 v2 v4 v7 (.int .i64 50) x7 x8 v3 v6 v19 x12 x13 x14 h) (
 pEql v19 (.int .u64 2) fun v28 =>
 fIf v28 (
 pAdd (.int .i64 1) v2 fun v29 =>
 pFadr 0 v7 fun v30 =>
 fStore 1 v30 v29 h fun h =>
 j8 x0 x1 x2 v2 v4 v7 (.int .i64 50) x7 x8 v3 v6 v19 x12 x13 x14 h) (
 pEql v19 (.int .u64 3) fun v31 =>
 fIf v31 (
 pFadr 2 v7 fun v32 =>
 fStore 1 v32 .nils h fun h =>
 j8 x0 x1 x2 v2 v4 v7 (.int .i64 50) x7 x8 v3 v6 v19 x12 x13 x14 h) (
 pEql v19 (.int .u64 4) fun v33 =>
 fIf v33 (
 pFadr 2 v7 fun v34 =>
 fLoad1 v34 h fun v35 =>
 pIadr 1 v35 (.int .i64 1) fun v36 =>
 fStore 1 v36 (.str [48, 50]) h fun h =>
 j8 x0 x1 x2 v2 v4 v7 (.int .i64 50) x7 x8 v3 v6 v19 x12 x13 x14 h) (
 pEql v19 (.int .u64 5) fun v37 =>
 fIf v37 (
 fBslice 0 [(.str []), (.str []), (.str []), (.str [])] 4 [(0, 1), (1, 1), (2, 1), (3, 1)] [(.str []), (.str [48, 49]), (.str [64]), (.str [51, 32])] h fun v38 h =>
 pBin .and x1 (.int .i64 3) fun v39 =>
 pIadr 1 v38 v39 fun v40 =>
 fLoad1 v40 h fun v41 =>
 pFadr 3 v7 fun v42 =>
 fStore 1 v42 v41 h fun h =>
 j8 x0 x1 x2 v2 v4 v7 (.int .i64 50) x7 x8 v3 v6 v19 x12 x13 x14 h) (
 pEql v19 (.int .u64 6) fun v43 =>
 fIf v43 (
 pNeg v2 fun v44 =>
 j8 x0 x1 x2 v2 v4 v7 v44 x7 x8 v3 v6 v19 x12 x13 x14 h) (
 pAdd (.int .i64 400) v2 fun v45 =>
 j8 x0 x1 x2 v2 v4 v7 v45 x7 x8 v3 v6 v19 x12 x13 x14 h)))))))) fun j0 =>
 call (.fn 150 []) [] h fun v46 h =>
 pNot v46 fun v47 =>
 fIf v47 (
 k (.bool false) h) (
 j0 (nth a 0) (nth a 1) (.bool false) (nth a 5) (nth a 6) (nth a 7) (nth a 8) (nth a 9) (nth a 10) (nth a 16) (nth a 19) (nth a 22) (nth a 61) (nth a 66) (nth a 67) h)
theorem y130 {β : Type} (I : FI) (N : Nat) (call : FCall β) (a : List AV) (h : H) (k : K β) : fBody I 130 T.s130 N call a h k = f130 N call a h k := by kernel_rfl
noncomputable def f132 {β : Type} (N : Nat) (call : FCall β) (a : List AV) (h : H) (k : K β) : Option β :=
 fJoin 11 (fun x0 x1 x2 x3 x4 x5 x6 x7 x8 x9 x10 h =>
 pBin .and x0 (.int .i64 15) fun v1 =>
 fBslice 0 [(.str []), (.str [])] 2 [(0, 1), (1, 1)] [(.str [49]), (.str [50])] h fun v2 h =>
 fBslice 0 [(.str []), (.str [])] 2 [(0, 1), (1, 1)] [(.str [49]), (.str [50])] h fun v3 h =>
 fBslice 0 [(.str []), (.str [])] 2 [(0, 1), (1, 1)] [(.str [49]), (.str [50])] h fun v4 h =>
 fBslice 0 [(.str []), (.str [])] 2 [(0, 1), (1, 1)] [(.str [49]), (.str [50])] h fun v5 h =>
 fBslice 0 [(.str []), (.str [])] 2 [(0, 1), (1, 1)] [(.str [95]), (.str [50])] h fun v6 h =>
 fBslice 0 [(.str []), (.str [])] 2 [(0, 1), (1, 1)] [(.str [95]), (.str [50])] h fun v7 h =>
 fBslice 0 [(.str []), (.str [])] 2 [(0, 1), (1, 1)] [(.str [49]), (.str [95])] h fun v8 h =>
 fBslice 0 [(.str []), (.str [])] 2 [(0, 1), (1, 1)] [(.str [64, 55, 40, 95, 32, 49, 41]), (.str [49])] h fun v9 h =>
 fBslice 0 [(.str []), (.str [])] 2 [(0, 1), (1, 1)] [(.str [64, 55, 40, 49, 32, 95, 41]), (.str [49])] h fun v10 h =>
 fBslice 0 [(.str []), (.str [])] 2 [(0, 1), (1, 1)] [(.str [64, 55, 40, 49, 41]), (.str [49])] h fun v11 h =>
 fBslice 0 [(.str []), (.str [])] 2 [(0, 1), (1, 1)] [(.str [64, 55, 40, 49, 32, 64, 50, 41]), (.str [49])] h fun v12 h =>
 fBslice 0 [(.str []), (.str [])] 2 [(0, 1), (1, 1)] [(.str [33]), (.str [95])] h fun v13 h =>
 fBslice 0 [(.str []), (.str [])] 2 [(0, 1), (1, 1)] [(.str [64, 51]), (.str [33])] h fun v14 h =>
 fBslice 0 [(.str []), (.str [])] 2 [(0, 1), (1, 1)] [(.str [49]), (.str [33])] h fun v15 h =>
 fBslice 0 [(.str []), (.str [])] 2 [(0, 1), (1, 1)] [(.str [64, 55, 40, 33, 32, 51, 41]), (.str [45, 51])] h fun v16 h =>
 fBslice 0 [(.str []), (.str [])] 2 [(0, 1), (1, 1)] [(.str [51, 50, 55, 54, 55]), (.str [49])] h fun v17 h =>
 fBslice 0 [.nils, .nils, .nils, .nils, .nils, .nils, .nils, .nils, .nils, .nils, .nils, .nils, .nils, .nils, .nils, .nils] 16 [(0, 1), (1, 1), (2, 1), (3, 1), (4, 1), (5, 1), (6, 1), (7, 1), (8, 1), (9, 1), (10, 1), (11, 1), (12, 1), (13, 1), (14, 1), (15, 1)] [v2, v3, v4, v5, v6, v7, v8, v9, v10, v11, v12, v13, v14, v15, v16, v17] h fun v18 h =>
 pIadr 1 v18 v1 fun v19 =>
 fLoad1 v19 h fun v20 =>
 fBslice 0 [(.str []), (.str []), (.str []), (.str []), (.str []), (.str []), (.str []), (.str []), (.str []), (.str []), (.str []), (.str []), (.str []), (.str []), (.str []), (.str [])] 16 [(0, 1), (1, 1), (2, 1), (3, 1), (4, 1), (5, 1), (6, 1), (7, 1), (8, 1), (9, 1), (10, 1), (11, 1), (12, 1), (13, 1), (14, 1), (15, 1)] [(.str [51]), (.str [52]), (.str [95]), (.str [33]), (.str [51]), (.str [95]), (.str [49]), (.str [50]), (.str [50]), (.str [33]), (.str [33]), (.str [33]), (.str [33]), (.str [33]), (.str [48]), (.str [45, 51, 50, 55, 54, 56])] h fun v21 h =>
 pIadr 1 v21 v1 fun v22 =>
 fLoad1 v22 h fun v23 =>
 fBslice 0 [(.bool false), (.bool false), (.bool false), (.bool false), (.bool false), (.bool false), (.bool false), (.bool false), (.bool false), (.bool false), (.bool false), (.bool false), (.bool false), (.bool false), (.bool false), (.bool false)] 16 [(0, 1), (1, 1), (2, 1), (3, 1), (4, 1), (5, 1), (6, 1), (7, 1), (8, 1), (9, 1), (10, 1), (11, 1), (12, 1), (13, 1), (14, 1), (15, 1)] [(.bool true), (.bool false), (.bool true), (.bool false), (.bool false), (.bool true), (.bool false), (.bool true), (.bool false), (.bool true), (.bool true), (.bool true), (.bool true), (.bool true), (.bool true), (.bool true)] h fun v24 h =>
 pIadr 1 v24 v1 fun v25 =>
 fLoad1 v25 h fun v26 =>
 call (.fn 151 []) [] h fun v27 h =>
 pBuild [(.int .i64 0), (.int .i64 0), .nils, (.str [])] [(0, 1), (2, 1), (3, 1)] [(.int .i64 1), v20, v23] fun v28 =>
 call (.fn 152 []) [v27, v28, (.int .i64 60)] h fun v29 h =>
 pExt 0 v29 fun v30 =>
 pExt 1 v29 fun v31 =>
 call (.fn 16 []) [v31] h fun v32 h =>
 pEql v32 (.int .i64 0) fun v33 =>
 fAnd v33 h (fun h k =>
 pEqB false v30 v26 fun v34 =>
 k v34 h) fun v35 h =>
 k v35 h) fun j0 =>
 call (.fn 150 []) [] h fun v36 h =>
 pNot v36 fun v37 =>
 fIf v37 (
 k (.bool false) h) (
 j0 (nth a 0) (.bool false) (nth a 3) (nth a 4) (nth a 5) (nth a 6) (nth a 7) (nth a 8) (nth a 41) (nth a 47) (nth a 48) h)
theorem y132 {β : Type} (I : FI) (N : Nat) (call : FCall β) (a : List AV) (h : H) (k : K β) : fBody I 132 T.s132 N call a h k = f132 N call a h k := by kernel_rfl
noncomputable def e130 : Ent := ⟨130, T.s130, fun _ _ N call a h k => f130 N call a h k, fun _ I N call a h k => y130 I N call a h k⟩
noncomputable def e132 : Ent := ⟨132, T.s132, fun _ _ N call a h k => f132 N call a h k, fun _ I N call a h k => y132 I N call a h k⟩
structure GF10 (t : ETree) : Prop where
  g130 : t.get 130 = some e130
  g132 : t.get 132 = some e132
section
variable {β : Type} {t : ETree} {I : FI}
end
end Am.F
