/- What the functions come to. -/
import Derived.Test.YtepnfifgbkmnoaaDoorAmZc2T0
import Derived.Test.YtepnfifgbkmnoaaDoorAmFs
set_option maxRecDepth 100000
namespace Am.F
open Go Am
noncomputable def f5_sleuthlaw2_TermForms {β : Type} (_ : Nat) (call : FCall β) (a : List AV) (h : H) (k : K β) : Option β :=
 fJoin 12 (fun x0 _ _ _ _ _ _ _ _ _ _ _ h =>
 fBslice 0 [(.str []), (.str []), (.str []), (.str []), (.str []), (.str []), (.str []), (.str []), (.str []), (.str []), (.str []), (.str []), (.str []), (.str []), (.str []), (.str []), (.str []), (.str []), (.str []), (.str []), (.str []), (.str []), (.str []), (.str []), (.str []), (.str []), (.str []), (.str []), (.str []), (.str []), (.str []), (.str [])] 32 [(0, 1), (1, 1), (2, 1), (3, 1), (4, 1), (5, 1), (6, 1), (7, 1), (8, 1), (9, 1), (10, 1), (11, 1), (12, 1), (13, 1), (14, 1), (15, 1), (16, 1), (17, 1), (18, 1), (19, 1), (20, 1), (21, 1), (22, 1), (23, 1), (24, 1), (25, 1), (26, 1), (27, 1), (28, 1), (29, 1), (30, 1), (31, 1)] [(.str []), (.str [32]), (.str [95, 95]), (.str [33, 49]), (.str [48, 49]), (.str [45, 48]), (.str [45, 48, 49]), (.str [43, 49]), (.str [51, 50, 55, 54, 56]), (.str [45, 51, 50, 55, 54, 57]), (.str [57, 57, 57, 57, 57, 57, 57, 57, 57, 57, 57, 57, 57, 57, 57, 57, 57, 57, 57, 57]), (.str [64]), (.str [64, 48, 49]), (.str [64, 49, 48, 48]), (.str [64, 45, 49]), (.str [64, 49, 40, 41]), (.str [64, 49, 40, 49]), (.str [64, 49, 40, 49, 32, 41]), (.str [64, 49, 40, 32, 49, 41]), (.str [64, 49, 40, 49, 32, 32, 50, 41]), (.str [64, 49, 40, 49, 44, 50, 41]), (.str [64, 49, 40, 49, 32, 50, 32, 51, 32, 52, 41]), (.str [64, 49, 40, 49, 41, 120]), (.str [64, 49, 32, 40, 49, 41]), (.str [40, 49, 41]), (.str [64, 49, 40, 64, 41]), (.str [64, 49, 40, 48, 49, 41]), (.str [49, 32]), (.str [95, 32]), (.str [64, 49, 40, 95, 33, 41]), (.str [120]), (.str [64, 49, 40, 49, 41, 41])] h fun v1 h =>
 pBin .and x0 (.int .i64 31) fun v2 =>
 pIadr 1 v1 v2 fun v3 =>
 fLoad1 v3 h fun v4 =>
 call (.fn 11 []) [v4] h fun v5 h =>
 pExt 0 v5 fun v6 =>
 pExt 1 v5 fun v7 =>
 pExt 2 v5 fun v8 =>
 pExt 3 v5 fun v9 =>
 call (.fn 17 []) [v4] h fun v10 h =>
 pNot v10 fun v11 =>
 fAnd v11 h (fun h k =>
 pEql v6 (.int .i64 0) fun v12 =>
 k v12 h) fun v13 h =>
 fAnd v13 h (fun h k =>
 pEql v7 (.int .i64 0) fun v14 =>
 k v14 h) fun v15 h =>
 fAnd v15 h (fun h k =>
 pLenL v8 fun v16 =>
 pEql v16 (.int .i64 0) fun v17 =>
 k v17 h) fun v18 h =>
 fAnd v18 h (fun h k =>
 call (.fn 16 []) [v9] h fun v19 h =>
 pEql v19 (.int .i64 200) fun v20 =>
 k v20 h) fun v21 h =>
 k v21 h) fun j0 =>
 call (.fn 21 []) [] h fun v22 h =>
 pNot v22 fun v23 =>
 fIf v23 (
 k (.bool false) h) (
 j0 (nth a 0) (.bool false) (nth a 3) (nth a 4) (nth a 5) (nth a 6) (nth a 7) (nth a 15) (nth a 18) (nth a 19) (nth a 20) (nth a 21) h)

theorem e5_sleuthlaw2_TermForms {β : Type} (I : FI) (N : Nat) (call : FCall β) (a : List AV) (h : H) (k : K β) : fBody I 5 T.s5_sleuthlaw2_TermForms N call a h k = f5_sleuthlaw2_TermForms N call a h k := by kernel_rfl

noncomputable def f6_sleuthlaw2_TermMakes {β : Type} (_ : Nat) (call : FCall β) (a : List AV) (h : H) (k : K β) : Option β :=
 fJoin 14 (fun x0 x1 _ _ _ _ _ _ _ _ _ _ _ _ h =>
 pBin .and x1 (.int .i64 1023) fun v1 =>
 pAdd (.int .i64 1) v1 fun v2 =>
 fBslice 0 [(.str [])] 1 [(0, 1)] [(.str [49])] h fun v3 h =>
 pBin .and x0 (.int .i64 15) fun v4 =>
 pNeg v2 fun v5 =>
 pAdd (.int .i64 3) v2 fun v6 =>
 fBslice 0 [(.int .i64 0), (.int .i64 0), (.int .i64 0), (.int .i64 0), (.int .i64 0), (.int .i64 0), (.int .i64 0), (.int .i64 0), (.int .i64 0), (.int .i64 0), (.int .i64 0), (.int .i64 0), (.int .i64 0), (.int .i64 0), (.int .i64 0), (.int .i64 0)] 16 [(0, 1), (1, 1), (2, 1), (3, 1), (4, 1), (5, 1), (6, 1), (7, 1), (8, 1), (9, 1), (10, 1), (11, 1), (12, 1), (13, 1), (14, 1), (15, 1)] [v5, v6, (.int .i64 0), (.int .i64 3), (.int .i64 1), (.int .i64 1), (.int .i64 1), (.int .i64 0), (.int .i64 2), (.int .i64 2), (.int .i64 2), (.int .i64 2), (.int .i64 2), (.int .i64 2), (.int .i64 2), (.int .i64 3)] h fun v7 h =>
 pIadr 1 v7 v4 fun v8 =>
 fLoad1 v8 h fun v9 =>
 pNeg v2 fun v10 =>
 pAdd (.int .i64 32767) v2 fun v11 =>
 pSub (.int .i64 (-32768)) v2 fun v12 =>
 pNeg v2 fun v13 =>
 pAdd (.int .i64 99) v2 fun v14 =>
 fBslice 0 [(.int .i64 0), (.int .i64 0), (.int .i64 0), (.int .i64 0), (.int .i64 0), (.int .i64 0), (.int .i64 0), (.int .i64 0), (.int .i64 0), (.int .i64 0), (.int .i64 0), (.int .i64 0), (.int .i64 0), (.int .i64 0), (.int .i64 0), (.int .i64 0)] 16 [(0, 1), (1, 1), (2, 1), (3, 1), (4, 1), (5, 1), (6, 1), (7, 1), (8, 1), (9, 1), (10, 1), (11, 1), (12, 1), (13, 1), (14, 1), (15, 1)] [(.int .i64 0), (.int .i64 0), v2, v10, v11, v12, (.int .i64 0), (.int .i64 0), v13, v14, (.int .i64 0), (.int .i64 0), (.int .i64 0), (.int .i64 0), (.int .i64 0), (.int .i64 0)] h fun v15 h =>
 pIadr 1 v15 v4 fun v16 =>
 fLoad1 v16 h fun v17 =>
 fBslice 0 [(.str [])] 1 [(0, 1)] [(.str [])] h fun v18 h =>
 fBslice 0 [(.str [])] 1 [(0, 1)] [(.str [49, 32, 50])] h fun v19 h =>
 fBslice 0 [(.str []), (.str []), (.str []), (.str [])] 4 [(0, 1), (1, 1), (2, 1), (3, 1)] [(.str [49]), (.str [50]), (.str [51]), (.str [52])] h fun v20 h =>
 fBslice 0 [(.str [])] 1 [(0, 1)] [(.str [49, 41])] h fun v21 h =>
 fBslice 0 [(.str [])] 1 [(0, 1)] [(.str [48, 49])] h fun v22 h =>
 fBslice 0 [.nils, .nils, .nils, .nils, .nils, .nils, .nils, .nils, .nils, .nils, .nils, .nils, .nils, .nils, .nils, .nils] 16 [(0, 1), (1, 1), (2, 1), (3, 1), (4, 1), (5, 1), (6, 1), (7, 1), (8, 1), (9, 1), (10, 1), (11, 1), (12, 1), (13, 1), (14, 1), (15, 1)] [.nils, .nils, .nils, .nils, .nils, .nils, v3, v3, .nils, .nils, v18, v19, v20, v21, v22, v3] h fun v23 h =>
 pIadr 1 v23 v4 fun v24 =>
 fLoad1 v24 h fun v25 =>
 call (.fn 13 []) [v9, v17, v25] h fun v26 h =>
 pExt 0 v26 fun v27 =>
 pExt 1 v26 fun v28 =>
 pSEql v27 (.str []) fun v29 =>
 fAnd v29 h (fun h k =>
 call (.fn 16 []) [v28] h fun v30 h =>
 pEql v30 (.int .i64 200) fun v31 =>
 k v31 h) fun v32 h =>
 k v32 h) fun j0 =>
 call (.fn 21 []) [] h fun v33 h =>
 pNot v33 fun v34 =>
 fIf v34 (
 k (.bool false) h) (
 j0 (nth a 0) (nth a 1) (.bool false) (nth a 5) (nth a 6) (nth a 7) (nth a 8) (nth a 9) (nth a 10) (nth a 11) (nth a 12) (nth a 56) (nth a 61) (nth a 62) h)

theorem e6_sleuthlaw2_TermMakes {β : Type} (I : FI) (N : Nat) (call : FCall β) (a : List AV) (h : H) (k : K β) : fBody I 6 T.s6_sleuthlaw2_TermMakes N call a h k = f6_sleuthlaw2_TermMakes N call a h k := by kernel_rfl

noncomputable def f7_sleuthlaw2_TermLong {β : Type} (N : Nat) (call : FCall β) (a : List AV) (h : H) (k : K β) : Option β :=
 fJoin 7 (fun x0 x1 _ _ _ x5 x6 h =>
 fJoin 7 (fun x0 _ x2 x3 _ _ _ h =>
 pBin .and x0 (.int .i64 15) fun v2 =>
 fBslice 0 [(.str []), (.str []), (.str []), (.str []), (.str []), (.str []), (.str []), (.str []), (.str []), (.str []), (.str []), (.str []), (.str []), (.str []), (.str []), (.str [])] 16 [(0, 1), (1, 1), (2, 1), (3, 1), (4, 1), (5, 1), (6, 1), (7, 1), (8, 1), (9, 1), (10, 1), (11, 1), (12, 1), (13, 1), (14, 1), (15, 1)] [(.str [49]), (.str [49, 50]), (.str [49, 50, 51]), (.str [49, 50, 51, 52]), (.str [49, 50, 51, 52, 53]), (.str [45, 49, 50, 51, 52, 53]), (.str [64, 49, 40, 49, 50, 51, 41]), (.str [64, 49, 40, 49, 50, 51, 52, 41]), (.str [64, 49, 40, 49, 50, 51, 52, 53, 41]), (.str [64, 49, 40, 49, 32, 50, 32, 51, 41]), (.str [64, 49, 40, 45, 49, 50, 51, 52, 53, 41]), (.str [64, 49, 40, 49, 32, 50, 41]), (.str [64, 57, 57, 40, 49, 41]), (.str [64, 57, 57, 40, 49, 50, 41]), (.str [64, 57, 57, 40, 49, 50, 51, 41]), (.str [64, 57, 57, 40, 49, 50, 51, 52, 41])] h fun v3 h =>
 pIadr 1 v3 v2 fun v4 =>
 fLoad1 v4 h fun v5 =>
 pSAdd x2 v5 fun v6 =>
 pSAdd v6 x3 fun v7 =>
 call (.fn 16 []) [(.int .i64 0)] h fun v8 h =>
 pEql v8 (.int .i64 0) fun v9 =>
 fAnd v9 h (fun h k =>
 call (.fn 17 []) [v7] h fun v10 h =>
 pLenS v7 fun v11 =>
 pLeq v11 (.int .i64 1024) fun v12 =>
 pEqB false v10 v12 fun v13 =>
 k v13 h) fun v14 h =>
 fAnd v14 h (fun h k =>
 call (.fn 18 []) [v7] h fun v15 h =>
 pLenS v7 fun v16 =>
 pLeq v16 (.int .i64 1024) fun v17 =>
 pEqB false v15 v17 fun v18 =>
 k v18 h) fun v19 h =>
 k v19 h) fun j1 =>
 (fLoop 7 N fun l20 x0 _ x2 x3 x4 _ _ h =>
 fJoin 7 (fun x0 x1 x2 x3 x4 x5 x6 h =>
 fJoin 7 (fun x0 x1 x2 x3 x4 x5 x6 h =>
 pAdd x4 (.int .i64 1) fun v23 =>
 l20 x0 x1 x2 x3 v23 x5 x6 h) fun j22 =>
 pSAdd x2 (.str [64, 49, 40]) fun v24 =>
 pSAdd x3 (.str [41]) fun v25 =>
 j22 x0 x1 v24 v25 x4 x5 x6 h) fun j21 =>
 pLss x4 (.int .i64 254) fun v26 =>
 fIf v26 (
 j21 x0 .any x2 x3 x4 .any .any h) (
 j1 x0 .any x2 x3 x4 .any .any h)) x0 x1 (.str []) (.str []) (.int .i64 0) x5 x6 h) fun j0 =>
 call (.fn 21 []) [] h fun v27 h =>
 pNot v27 fun v28 =>
 fIf v28 (
 k (.bool false) h) (
 j0 (nth a 0) (.bool false) (nth a 3) (nth a 4) (nth a 5) (nth a 6) (nth a 7) h)

theorem e7_sleuthlaw2_TermLong {β : Type} (I : FI) (N : Nat) (call : FCall β) (a : List AV) (h : H) (k : K β) : fBody I 7 T.s7_sleuthlaw2_TermLong N call a h k = f7_sleuthlaw2_TermLong N call a h k := by kernel_rfl

noncomputable def f11_term_Cut {β : Type} (_ : Nat) (call : FCall β) (a : List AV) (h : H) (k : K β) : Option β :=
 fJoin 17 (fun x0 _ _ _ _ _ _ _ _ _ _ _ _ _ _ _ _ h =>
 call (.fn 24 []) [x0] h fun v1 h =>
 pExt 0 v1 fun v2 =>
 pExt 1 v1 fun v3 =>
 pExt 2 v1 fun v4 =>
 pExt 3 v1 fun _ =>
 pExt 4 v1 fun _ =>
 k (.tup [v2, v3, v4, (.int .i64 0)]) h) fun j0 =>
 call (.fn 17 []) [(nth a 0)] h fun v7 h =>
 pNot v7 fun v8 =>
 fIf v8 (
 k (.tup [(.int .i64 0), (.int .i64 0), .nils, (.int .i64 200)]) h) (
 j0 (nth a 0) (.int .i64 0) (.int .i64 0) .nils (.int .i64 0) (nth a 6) (nth a 7) (nth a 8) (nth a 14) (nth a 17) (nth a 18) (nth a 19) (nth a 20) (nth a 21) (nth a 22) (nth a 23) (nth a 24) h)

theorem e11_term_Cut {β : Type} (I : FI) (N : Nat) (call : FCall β) (a : List AV) (h : H) (k : K β) : fBody I 11 T.s11_term_Cut N call a h k = f11_term_Cut N call a h k := by kernel_rfl

noncomputable def f12_sleuthref1_Cut {β : Type} (_ : Nat) (call : FCall β) (a : List AV) (h : H) (k : K β) : Option β :=
 fJoin 7 (fun x0 x1 x2 x3 x4 _ _ h =>
 call (.fn 25 []) [x0, (.int .i64 0)] h fun v1 h =>
 fAlloc 0 [(.int .i64 0), (.int .i64 0), .nils, (.int .i64 0)] h fun v2 h =>
 fStore 4 v2 v1 h fun h =>
 fJoin 7 (fun _ _ _ _ _ x5 _ h =>
 pFadr 0 x5 fun v4 =>
 fLoad1 v4 h fun v5 =>
 pFadr 1 x5 fun v6 =>
 fLoad1 v6 h fun v7 =>
 pFadr 2 x5 fun v8 =>
 fLoad1 v8 h fun v9 =>
 k (.tup [v5, v7, v9, (.int .i64 0)]) h) fun j3 =>
 pFadr 3 v2 fun v10 =>
 fLoad1 v10 h fun v11 =>
 pLenS x0 fun v12 =>
 pNeq v11 v12 fun v13 =>
 fIf v13 (
 k (.tup [(.int .i64 0), (.int .i64 0), .nils, (.int .i64 200)]) h) (
 j3 x0 x1 x2 x3 x4 v2 v1 h)) fun j0 =>
 pLenS (nth a 0) fun v14 =>
 pGtr v14 (.int .i64 1024) fun v15 =>
 fIf v15 (
 k (.tup [(.int .i64 0), (.int .i64 0), .nils, (.int .i64 200)]) h) (
 j0 (nth a 0) (.int .i64 0) (.int .i64 0) .nils (.int .i64 0) (nth a 6) (nth a 11) h)

theorem e12_sleuthref1_Cut {β : Type} (I : FI) (N : Nat) (call : FCall β) (a : List AV) (h : H) (k : K β) : fBody I 12 T.s12_sleuthref1_Cut N call a h k = f12_sleuthref1_Cut N call a h k := by kernel_rfl

noncomputable def f13_term_Make {β : Type} (_ : Nat) (call : FCall β) (a : List AV) (h : H) (k : K β) : Option β :=
 fJoin 6 (fun x0 x1 x2 x3 x4 x5 h =>
 fJoin 6 (fun _ _ _ _ _ x5 h =>
 k (.tup [x5, (.int .i64 0)]) h) fun j1 =>
 call (.fn 17 []) [x5] h fun v2 h =>
 pNot v2 fun v3 =>
 fIf v3 (
 k (.tup [(.str []), (.int .i64 200)]) h) (
 j1 x0 x1 x2 x3 x4 x5 h)) fun j0 =>
 pEql (nth a 0) (.int .i64 2) fun v4 =>
 fAnd v4 h (fun h k =>
 pGeq (nth a 1) (.int .i64 0) fun v5 =>
 k v5 h) fun v6 h =>
 fAnd v6 h (fun h k =>
 pLeq (nth a 1) (.int .i64 99) fun v7 =>
 k v7 h) fun v8 h =>
 fAnd v8 h (fun h k =>
 pLenL (nth a 2) fun v9 =>
 pLeq v9 (.int .i64 3) fun v10 =>
 k v10 h) fun v11 h =>
 fAnd v11 h (fun h k =>
 call (.fn 26 []) [(nth a 2)] h fun v12 h =>
 k v12 h) fun v13 h =>
 fIf v13 (
 call (.fn 27 []) [(nth a 1), (nth a 2)] h fun v14 h =>
 j0 (nth a 0) (nth a 1) (nth a 2) (.str []) (.int .i64 0) v14 h) (
 pLenL (nth a 2) fun v15 =>
 pGtr v15 (.int .i64 0) fun v16 =>
 fIf v16 (
 j0 (nth a 0) (nth a 1) (nth a 2) (.str []) (.int .i64 0) (.str []) h) (
 pEql (nth a 0) (.int .i64 0) fun v17 =>
 fAnd v17 h (fun h k =>
 pEql (nth a 1) (.int .i64 0) fun v18 =>
 k v18 h) fun v19 h =>
 fIf v19 (
 j0 (nth a 0) (nth a 1) (nth a 2) (.str []) (.int .i64 0) (.str [95]) h) (
 pEql (nth a 0) (.int .i64 3) fun v20 =>
 fAnd v20 h (fun h k =>
 pEql (nth a 1) (.int .i64 0) fun v21 =>
 k v21 h) fun v22 h =>
 fIf v22 (
 j0 (nth a 0) (nth a 1) (nth a 2) (.str []) (.int .i64 0) (.str [33]) h) (
 pEql (nth a 0) (.int .i64 1) fun v23 =>
 fAnd v23 h (fun h k =>
 call (.fn 28 []) [(nth a 1)] h fun v24 h =>
 k v24 h) fun v25 h =>
 fIf v25 (
 call (.fn 29 []) [(nth a 1)] h fun v26 h =>
 j0 (nth a 0) (nth a 1) (nth a 2) (.str []) (.int .i64 0) v26 h) (
 j0 (nth a 0) (nth a 1) (nth a 2) (.str []) (.int .i64 0) (.str []) h)))))

theorem e13_term_Make {β : Type} (I : FI) (N : Nat) (call : FCall β) (a : List AV) (h : H) (k : K β) : fBody I 13 T.s13_term_Make N call a h k = f13_term_Make N call a h k := by kernel_rfl

noncomputable def f15_sleuthlaw0_SameTexts {β : Type} (N : Nat) (_ : FCall β) (a : List AV) (h : H) (k : K β) : Option β :=
 fJoin 5 (fun x0 x1 x2 _ x4 h =>
 fJoin 5 (fun _ _ _ _ _ h =>
 k (.bool true) h) fun j1 =>
 (fLoop 5 N fun l2 x0 x1 _ x3 _ h =>
 fJoin 5 (fun x0 x1 x2 x3 _ h =>
 fJoin 5 (fun x0 x1 x2 x3 x4 h =>
 pAdd x3 (.int .i64 1) fun v5 =>
 l2 x0 x1 x2 v5 x4 h) fun j4 =>
 pIadr 1 x0 x3 fun v6 =>
 fLoad1 v6 h fun v7 =>
 pIadr 1 x1 x3 fun v8 =>
 fLoad1 v8 h fun v9 =>
 pSNeq v7 v9 fun v10 =>
 fIf v10 (
 k (.bool false) h) (
 j4 x0 x1 x2 x3 v10 h)) fun j3 =>
 pLenL x0 fun v11 =>
 pLss x3 v11 fun v12 =>
 fIf v12 (
 j3 x0 x1 .any x3 .any h) (
 j1 x0 x1 .any x3 .any h)) x0 x1 x2 (.int .i64 0) x4 h) fun j0 =>
 pLenL (nth a 0) fun v13 =>
 pLenL (nth a 1) fun v14 =>
 pNeq v13 v14 fun v15 =>
 fIf v15 (
 k (.bool false) h) (
 j0 (nth a 0) (nth a 1) (.bool false) (nth a 5) (nth a 25) h)

theorem e15_sleuthlaw0_SameTexts {β : Type} (I : FI) (N : Nat) (call : FCall β) (a : List AV) (h : H) (k : K β) : fBody I 15 T.s15_sleuthlaw0_SameTexts N call a h k = f15_sleuthlaw0_SameTexts N call a h k := by kernel_rfl

noncomputable def f16_sleuthlaw0_Num {β : Type} (_ : Nat) (_ : FCall β) (a : List AV) (h : H) (k : K β) : Option β :=
 k (nth a 0) h

theorem e16_sleuthlaw0_Num {β : Type} (I : FI) (N : Nat) (call : FCall β) (a : List AV) (h : H) (k : K β) : fBody I 16 T.s16_sleuthlaw0_Num N call a h k = f16_sleuthlaw0_Num N call a h k := by kernel_rfl

noncomputable def f17_term_May {β : Type} (_ : Nat) (call : FCall β) (a : List AV) (h : H) (k : K β) : Option β :=
 fJoin 10 (fun x0 _ _ _ _ _ _ _ _ _ h =>
 call (.fn 24 []) [x0] h fun v1 h =>
 pExt 0 v1 fun _ =>
 pExt 1 v1 fun _ =>
 pExt 2 v1 fun _ =>
 pExt 3 v1 fun v5 =>
 pExt 4 v1 fun v6 =>
 fAnd v6 h (fun h k =>
 pSEql v5 (.str []) fun v7 =>
 k v7 h) fun v8 h =>
 k v8 h) fun j0 =>
 pLenS (nth a 0) fun v9 =>
 pGtr v9 (.int .i64 1024) fun v10 =>
 fIf v10 (
 k (.bool false) h) (
 j0 (nth a 0) (.bool false) (nth a 6) (nth a 7) (nth a 11) (nth a 14) (nth a 15) (nth a 16) (nth a 17) (nth a 18) h)

theorem e17_term_May {β : Type} (I : FI) (N : Nat) (call : FCall β) (a : List AV) (h : H) (k : K β) : fBody I 17 T.s17_term_May N call a h k = f17_term_May N call a h k := by kernel_rfl

noncomputable def f18_sleuthref1_TermMay {β : Type} (_ : Nat) (call : FCall β) (a : List AV) (h : H) (k : K β) : Option β :=
 call (.fn 12 []) [(nth a 0)] h fun v0 h =>
 pExt 0 v0 fun _ =>
 pExt 1 v0 fun _ =>
 pExt 2 v0 fun _ =>
 pExt 3 v0 fun v4 =>
 pEql v4 (.int .i64 0) fun v5 =>
 k v5 h

theorem e18_sleuthref1_TermMay {β : Type} (I : FI) (N : Nat) (call : FCall β) (a : List AV) (h : H) (k : K β) : fBody I 18 T.s18_sleuthref1_TermMay N call a h k = f18_sleuthref1_TermMay N call a h k := by kernel_rfl

noncomputable def f21_sleuthlaw2_awake {β : Type} (_ : Nat) (call : FCall β) (_ : List AV) (h : H) (k : K β) : Option β :=
 call (.fn 11 []) [(.str [64, 49, 50, 40, 45, 55, 32, 64, 48, 32, 95, 41])] h fun v0 h =>
 pExt 0 v0 fun v1 =>
 pExt 1 v0 fun v2 =>
 pExt 2 v0 fun v3 =>
 pExt 3 v0 fun v4 =>
 fBslice 0 [(.str []), (.str []), (.str [])] 3 [(0, 1), (1, 1), (2, 1)] [(.str [45, 55]), (.str [64, 48]), (.str [95])] h fun v5 h =>
 call (.fn 13 []) [(.int .i64 2), (.int .i64 12), v5] h fun v6 h =>
 pExt 0 v6 fun v7 =>
 pExt 1 v6 fun v8 =>
 call (.fn 11 []) [(.str [64, 49, 40, 41])] h fun v9 h =>
 pExt 0 v9 fun _ =>
 pExt 1 v9 fun _ =>
 pExt 2 v9 fun _ =>
 pExt 3 v9 fun v13 =>
 call (.fn 13 []) [(.int .i64 1), (.int .i64 32768), .nils] h fun v14 h =>
 pExt 0 v14 fun _ =>
 pExt 1 v14 fun v16 =>
 pEql v1 (.int .i64 2) fun v17 =>
 fAnd v17 h (fun h k =>
 pEql v2 (.int .i64 12) fun v18 =>
 k v18 h) fun v19 h =>
 fAnd v19 h (fun h k =>
 fBslice 0 [(.str []), (.str []), (.str [])] 3 [(0, 1), (1, 1), (2, 1)] [(.str [45, 55]), (.str [64, 48]), (.str [95])] h fun v20 h =>
 call (.fn 15 []) [v3, v20] h fun v21 h =>
 k v21 h) fun v22 h =>
 fAnd v22 h (fun h k =>
 call (.fn 16 []) [v4] h fun v23 h =>
 pEql v23 (.int .i64 0) fun v24 =>
 k v24 h) fun v25 h =>
 fAnd v25 h (fun h k =>
 pSEql v7 (.str [64, 49, 50, 40, 45, 55, 32, 64, 48, 32, 95, 41]) fun v26 =>
 k v26 h) fun v27 h =>
 fAnd v27 h (fun h k =>
 call (.fn 16 []) [v8] h fun v28 h =>
 pEql v28 (.int .i64 0) fun v29 =>
 k v29 h) fun v30 h =>
 fAnd v30 h (fun h k =>
 call (.fn 16 []) [v13] h fun v31 h =>
 pEql v31 (.int .i64 200) fun v32 =>
 k v32 h) fun v33 h =>
 fAnd v33 h (fun h k =>
 call (.fn 16 []) [v16] h fun v34 h =>
 pEql v34 (.int .i64 200) fun v35 =>
 k v35 h) fun v36 h =>
 fAnd v36 h (fun h k =>
 call (.fn 17 []) [(.str [33])] h fun v37 h =>
 k v37 h) fun v38 h =>
 fAnd v38 h (fun h k =>
 call (.fn 17 []) [(.str [48, 49])] h fun v39 h =>
 pNot v39 fun v40 =>
 k v40 h) fun v41 h =>
 k v41 h

theorem e21_sleuthlaw2_awake {β : Type} (I : FI) (N : Nat) (call : FCall β) (a : List AV) (h : H) (k : K β) : fBody I 21 T.s21_sleuthlaw2_awake N call a h k = f21_sleuthlaw2_awake N call a h k := by kernel_rfl

noncomputable def f24_term_cut {β : Type} (N : Nat) (call : FCall β) (a : List AV) (h : H) (k : K β) : Option β :=
 call (.fn 33 []) [(nth a 0)] h fun v0 h =>
 pExt 0 v0 fun v1 =>
 pExt 1 v0 fun v2 =>
 fJoin 49 (fun x0 x1 x2 x3 x4 x5 x6 x7 x8 x9 x10 x11 x12 x13 x14 x15 x16 x17 x18 x19 x20 x21 x22 x23 x24 x25 x26 x27 x28 x29 x30 x31 x32 x33 x34 x35 x36 x37 x38 x39 x40 x41 x42 x43 x44 x45 x46 x47 x48 h =>
 fJoin 49 (fun x0 x1 x2 x3 x4 x5 x6 x7 _ _ x10 x11 x12 x13 x14 x15 x16 x17 x18 x19 x20 x21 x22 _ _ _ x26 x27 x28 x29 x30 x31 x32 x33 x34 x35 x36 x37 x38 x39 x40 x41 x42 x43 x44 x45 x46 x47 x48 h =>
 fJoin 49 (fun x0 x1 x2 x3 x4 x5 x6 x7 x8 x9 _ _ x12 x13 x14 x15 x16 x17 x18 x19 x20 x21 x22 x23 x24 x25 x26 x27 _ _ _ x31 x32 x33 x34 x35 x36 x37 x38 x39 x40 x41 x42 x43 x44 x45 x46 x47 x48 h =>
 call (.fn 35 []) [x6] h fun v6 h =>
 pExt 0 v6 fun v7 =>
 pExt 1 v6 fun v8 =>
 fJoin 49 (fun x0 x1 x2 x3 x4 x5 x6 x7 x8 x9 x10 x11 _ x13 x14 x15 x16 x17 x18 x19 x20 x21 x22 x23 x24 x25 x26 x27 x28 x29 x30 x31 x32 x33 x34 x35 x36 x37 x38 x39 x40 x41 x42 x43 x44 x45 x46 x47 x48 h =>
 fJoin 49 (fun _ _ _ _ _ _ _ x7 _ _ x10 _ x12 _ _ _ _ _ _ _ _ _ _ _ _ _ _ _ _ _ _ _ _ _ _ _ _ _ _ _ _ _ _ _ _ _ _ _ _ h =>
 call (.fn 37 []) [x7, (.str [41])] h fun v11 h =>
 pExt 0 v11 fun v12 =>
 pExt 1 v11 fun v13 =>
 k (.tup [(.int .i64 2), x10, x12, v12, v13]) h) fun j10 =>
 (fLoop 49 N fun l14 _ _ _ _ _ _ _ x7 _ _ x10 _ x12 _ _ _ _ _ _ _ _ _ _ _ _ _ _ _ _ _ _ _ _ _ _ _ _ _ _ _ _ _ _ _ _ _ _ _ _ h =>
 fJoin 49 (fun x0 x1 x2 x3 x4 x5 x6 x7 x8 x9 x10 x11 x12 _ _ _ x16 x17 x18 x19 x20 x21 x22 x23 x24 x25 x26 x27 x28 x29 x30 x31 x32 x33 _ _ _ _ _ _ x40 x41 x42 x43 x44 x45 x46 x47 x48 h =>
 pSlS true false x7 [(.int .i64 1)] fun v16 =>
 call (.fn 24 []) [v16] h fun v17 h =>
 pExt 0 v17 fun v18 =>
 pExt 1 v17 fun v19 =>
 pExt 2 v17 fun v20 =>
 pExt 3 v17 fun v21 =>
 pExt 4 v17 fun v22 =>
 fJoin 49 (fun x0 x1 x2 x3 x4 x5 x6 _ x8 x9 x10 x11 x12 x13 x14 x15 x16 x17 x18 x19 x20 x21 x22 x23 x24 x25 x26 x27 x28 x29 x30 x31 x32 x33 x34 x35 x36 x37 x38 x39 _ _ x42 x43 x44 x45 x46 x47 x48 h =>
 pLenS x13 fun v24 =>
 pLenS x14 fun v25 =>
 pSub v24 v25 fun v26 =>
 pSlS false true x13 [v26] fun v27 =>
 fBslice 0 [(.str [])] 1 [(0, 1)] [v27] h fun v28 h =>
 fApp 0 1 16 x12 v28 h fun v29 h =>
 call (.fn 36 []) [x14, (.str [32])] h fun v30 h =>
 pNot v30 fun v31 =>
 fIf v31 (
 j10 x0 x1 x2 x3 x4 x5 x6 x14 x8 x9 x10 x11 v29 x13 x14 x15 x16 x17 x18 x19 x20 x21 x22 x23 x24 x25 x26 x27 x28 x29 x30 x31 x32 x33 x34 x35 x36 x37 x38 x39 v29 x14 x42 x43 x44 x45 x46 x47 x48 h) (
 l14 x0 x1 x2 x3 x4 x5 x6 x14 x8 x9 x10 x11 v29 x13 x14 x15 x16 x17 x18 x19 x20 x21 x22 x23 x24 x25 x26 x27 x28 x29 x30 x31 x32 x33 x34 x35 x36 x37 x38 x39 v29 x14 x42 x43 x44 x45 x46 x47 x48 h)) fun j23 =>
 pNot v22 fun v32 =>
 fIf v32 (
 k (.tup [(.int .i64 0), (.int .i64 0), .nils, (.str []), (.bool false)]) h) (
 j23 x0 x1 x2 x3 x4 x5 x6 x7 x8 x9 x10 x11 x12 v16 v21 v22 x16 x17 x18 x19 x20 x21 x22 x23 x24 x25 x26 x27 x28 x29 x30 x31 x32 x33 v17 v18 v19 v20 v21 v22 x40 x41 x42 x43 x44 x45 x46 x47 x48 h)) fun j15 =>
 pLenL x12 fun v33 =>
 pLss v33 (.int .i64 3) fun v34 =>
 fIf v34 (
 j15 .any .any .any .any .any .any .any x7 .any .any x10 .any x12 .any .any .any .any .any .any .any .any .any .any .any .any .any .any .any .any .any .any .any .any .any .any .any .any .any .any .any .any .any .any .any .any .any .any .any .any h) (
 j10 .any .any .any .any .any .any .any x7 .any .any x10 .any x12 .any .any .any .any .any .any .any .any .any .any .any .any .any .any .any .any .any .any .any .any .any .any .any .any .any .any .any .any .any .any .any .any .any .any .any .any h)) x0 x1 x2 x3 x4 x5 x6 x7 x8 x9 x10 x11 .nils x13 x14 x15 x16 x17 x18 x19 x20 x21 x22 x23 x24 x25 x26 x27 x28 x29 x30 x31 x32 x33 x34 x35 x36 x37 x38 x39 x40 x41 x42 x43 x44 x45 x46 x47 x48 h) fun j9 =>
 pNot v8 fun v35 =>
 fOr v35 h (fun h k =>
 call (.fn 36 []) [x7, (.str [40])] h fun v36 h =>
 pNot v36 fun v37 =>
 k v37 h) fun v38 h =>
 fIf v38 (
 k (.tup [(.int .i64 2), v7, .nils, x7, v8]) h) (
 j9 x0 x1 x2 x3 x4 x5 x6 x7 x8 x9 v7 v8 x12 x13 x14 x15 x16 x17 x18 x19 x20 x21 x22 x23 x24 x25 x26 x27 v6 v7 v8 x31 x32 x33 x34 x35 x36 x37 x38 x39 x40 x41 x42 x43 x44 x45 x46 x47 x48 h)) fun j5 =>
 call (.fn 34 []) [x6] h fun v39 h =>
 pExt 0 v39 fun v40 =>
 pExt 1 v39 fun v41 =>
 fIf v41 (
 k (.tup [(.int .i64 1), v40, .nils, x7, (.bool true)]) h) (
 j5 x0 x1 x2 x3 x4 x5 x6 x7 v40 v41 x10 x11 x12 x13 x14 x15 x16 x17 x18 x19 x20 x21 x22 v39 v40 v41 x26 x27 x28 x29 x30 x31 x32 x33 x34 x35 x36 x37 x38 x39 x40 x41 x42 x43 x44 x45 x46 x47 x48 h)) fun j4 =>
 pSEql x6 (.str [33]) fun v42 =>
 fIf v42 (
 k (.tup [(.int .i64 3), (.int .i64 0), .nils, x7, (.bool true)]) h) (
 j4 x0 x1 x2 x3 x4 x5 x6 x7 x8 x9 x10 x11 x12 x13 x14 x15 x16 x17 x18 x19 x20 x21 x22 x23 x24 x25 x26 x27 x28 x29 x30 x31 x32 x33 x34 x35 x36 x37 x38 x39 x40 x41 x42 x43 x44 x45 x46 x47 x48 h)) fun j3 =>
 pSEql v1 (.str [95]) fun v43 =>
 fIf v43 (
 k (.tup [(.int .i64 0), (.int .i64 0), .nils, v2, (.bool true)]) h) (
 j3 (nth a 0) (.int .i64 0) (.int .i64 0) .nils (.str []) (.bool false) v1 v2 (nth a 9) (nth a 10) (nth a 11) (nth a 12) (nth a 13) (nth a 14) (nth a 18) (nth a 19) (nth a 20) (nth a 21) v0 v1 v2 (nth a 29) (nth a 32) (nth a 33) (nth a 36) (nth a 37) (nth a 39) (nth a 40) (nth a 41) (nth a 44) (nth a 45) (nth a 53) (nth a 54) (nth a 55) (nth a 61) (nth a 64) (nth a 65) (nth a 66) (nth a 67) (nth a 68) (nth a 80) (nth a 81) (nth a 85) (nth a 88) (nth a 89) (nth a 90) (nth a 91) (nth a 92) (nth a 93) h)

theorem e24_term_cut {β : Type} (I : FI) (N : Nat) (call : FCall β) (a : List AV) (h : H) (k : K β) : fBody I 24 T.s24_term_cut N call a h k = f24_term_cut N call a h k := by kernel_rfl

noncomputable def f25_sleuthref1_term {β : Type} (_ : Nat) (call : FCall β) (a : List AV) (h : H) (k : K β) : Option β :=
 fAlloc 0 [(.int .i64 0), (.int .i64 0), .nils, (.int .i64 0)] h fun v0 h =>
 fJoin 21 (fun x0 x1 x2 x3 x4 x5 x6 x7 x8 x9 _ x11 x12 x13 x14 x15 x16 x17 x18 x19 x20 h =>
 fJoin 21 (fun x0 x1 x2 x3 x4 x5 x6 x7 _ _ x10 x11 x12 x13 x14 x15 x16 x17 _ _ _ h =>
 pSlS true false x0 [x1] fun v3 =>
 call (.fn 39 []) [v3] h fun v4 h =>
 pExt 0 v4 fun v5 =>
 pExt 1 v4 fun v6 =>
 fJoin 21 (fun _ x1 x2 _ _ _ _ _ x8 x9 _ _ _ _ _ _ _ _ _ _ _ h =>
 pAdd x1 x9 fun v8 =>
 pBuild [(.int .i64 0), (.int .i64 0), .nils, (.int .i64 0)] [(0, 1), (1, 1), (3, 1)] [(.int .i64 1), x8, v8] fun v9 =>
 fStore 4 x2 v9 h fun h =>
 fLoadN 4 x2 h fun v10 =>
 k v10 h) fun j7 =>
 pEql v6 (.int .i64 0) fun v11 =>
 fOr v11 h (fun h k =>
 call (.fn 41 []) [v5] h fun v12 h =>
 pNot v12 fun v13 =>
 k v13 h) fun v14 h =>
 fIf v14 (
 call (.fn 38 []) [] h fun v15 h =>
 fStore 4 x2 v15 h fun h =>
 fLoadN 4 x2 h fun v16 =>
 k v16 h) (
 j7 x0 x1 x2 x3 x4 x5 x6 x7 v5 v6 x10 x11 x12 x13 x14 x15 x16 x17 v4 v5 v6 h)) fun j2 =>
 pIdxS x0 x1 fun v17 =>
 pEql v17 (.int .u8 95) fun v18 =>
 fIf v18 (
 pAdd x1 (.int .i64 1) fun v19 =>
 pBuild [(.int .i64 0), (.int .i64 0), .nils, (.int .i64 0)] [(0, 1), (3, 1)] [(.int .i64 0), v19] fun v20 =>
 fStore 4 x2 v20 h fun h =>
 fLoadN 4 x2 h fun v21 =>
 k v21 h) (
 pEql v17 (.int .u8 33) fun v22 =>
 fIf v22 (
 pAdd x1 (.int .i64 1) fun v23 =>
 pBuild [(.int .i64 0), (.int .i64 0), .nils, (.int .i64 0)] [(0, 1), (3, 1)] [(.int .i64 3), v23] fun v24 =>
 fStore 4 x2 v24 h fun h =>
 fLoadN 4 x2 h fun v25 =>
 k v25 h) (
 pEql v17 (.int .u8 64) fun v26 =>
 fIf v26 (
 pAdd x1 (.int .i64 1) fun v27 =>
 pSlS true false x0 [v27] fun v28 =>
 call (.fn 39 []) [v28] h fun v29 h =>
 pExt 0 v29 fun v30 =>
 pExt 1 v29 fun v31 =>
 fJoin 21 (fun x0 x1 x2 x3 x4 _ x6 x7 x8 x9 x10 x11 x12 x13 _ x15 x16 x17 x18 x19 x20 h =>
 pAdd x1 (.int .i64 1) fun v33 =>
 pAdd v33 x4 fun v34 =>
 pBuild [(.int .i64 0), (.int .i64 0), .nils, (.int .i64 0)] [(0, 1), (1, 1), (3, 1)] [(.int .i64 2), x3, v34] fun v35 =>
 fAlloc 0 [(.int .i64 0), (.int .i64 0), .nils, (.int .i64 0)] h fun v36 h =>
 fStore 4 v36 v35 h fun h =>
 fJoin 21 (fun _ _ x2 _ _ x5 _ _ _ _ _ _ _ _ _ _ _ _ _ _ _ h =>
 fLoadN 4 x5 h fun v38 =>
 fStore 4 x2 v38 h fun h =>
 fLoadN 4 x2 h fun v39 =>
 k v39 h) fun j37 =>
 pFadr 3 v36 fun v40 =>
 fLoad1 v40 h fun v41 =>
 pLenS x0 fun v42 =>
 pLss v41 v42 fun v43 =>
 fAnd v43 h (fun h k =>
 pFadr 3 v36 fun v44 =>
 fLoad1 v44 h fun v45 =>
 pIdxS x0 v45 fun v46 =>
 pEql v46 (.int .u8 40) fun v47 =>
 k v47 h) fun v48 h =>
 fIf v48 (
 fLoadN 4 v36 h fun v49 =>
 pFadr 3 v36 fun v50 =>
 fLoad1 v50 h fun v51 =>
 pAdd v51 (.int .i64 1) fun v52 =>
 call (.fn 40 []) [x0, v49, v52] h fun v53 h =>
 fStore 4 x2 v53 h fun h =>
 fLoadN 4 x2 h fun v54 =>
 k v54 h) (
 j37 x0 x1 x2 x3 x4 v36 x6 x7 x8 x9 x10 x11 x12 x13 v35 x15 x16 x17 x18 x19 x20 h)) fun j32 =>
 pEql v31 (.int .i64 0) fun v55 =>
 fOr v55 h (fun h k =>
 pGtr v30 (.int .i64 99) fun v56 =>
 k v56 h) fun v57 h =>
 fIf v57 (
 call (.fn 38 []) [] h fun v58 h =>
 fStore 4 x2 v58 h fun h =>
 fLoadN 4 x2 h fun v59 =>
 k v59 h) (
 j32 x0 x1 x2 v30 v31 x5 x6 x7 x8 x9 v17 v29 v30 v31 x14 x15 x16 x17 x18 x19 x20 h)) (
 pEql v17 (.int .u8 45) fun v60 =>
 fIf v60 (
 pAdd x1 (.int .i64 1) fun v61 =>
 pSlS true false x0 [v61] fun v62 =>
 call (.fn 39 []) [v62] h fun v63 h =>
 pExt 0 v63 fun v64 =>
 pExt 1 v63 fun v65 =>
 fJoin 21 (fun _ x1 x2 _ _ _ x6 x7 _ _ _ _ _ _ _ _ _ _ _ _ _ h =>
 pNeg x6 fun v67 =>
 pAdd x1 (.int .i64 1) fun v68 =>
 pAdd v68 x7 fun v69 =>
 pBuild [(.int .i64 0), (.int .i64 0), .nils, (.int .i64 0)] [(0, 1), (1, 1), (3, 1)] [(.int .i64 1), v67, v69] fun v70 =>
 fStore 4 x2 v70 h fun h =>
 fLoadN 4 x2 h fun v71 =>
 k v71 h) fun j66 =>
 pEql v65 (.int .i64 0) fun v72 =>
 fOr v72 h (fun h k =>
 pEql v64 (.int .i64 0) fun v73 =>
 k v73 h) fun v74 h =>
 fOr v74 h (fun h k =>
 pNeg v64 fun v75 =>
 call (.fn 41 []) [v75] h fun v76 h =>
 pNot v76 fun v77 =>
 k v77 h) fun v78 h =>
 fIf v78 (
 call (.fn 38 []) [] h fun v79 h =>
 fStore 4 x2 v79 h fun h =>
 fLoadN 4 x2 h fun v80 =>
 k v80 h) (
 j66 x0 x1 x2 x3 x4 x5 v64 v65 x8 x9 v17 x11 x12 x13 x14 v63 v64 v65 x18 x19 x20 h)) (
 j2 x0 x1 x2 x3 x4 x5 x6 x7 x8 x9 v17 x11 x12 x13 x14 x15 x16 x17 x18 x19 x20 h))))) fun j1 =>
 pLenS (nth a 0) fun v81 =>
 pGeq (nth a 1) v81 fun v82 =>
 fIf v82 (
 call (.fn 38 []) [] h fun v83 h =>
 fStore 4 v0 v83 h fun h =>
 fLoadN 4 v0 h fun v84 =>
 k v84 h) (
 j1 (nth a 0) (nth a 1) v0 (nth a 5) (nth a 6) (nth a 7) (nth a 8) (nth a 9) (nth a 10) (nth a 11) (nth a 19) (nth a 32) (nth a 38) (nth a 39) (nth a 52) (nth a 74) (nth a 80) (nth a 81) (nth a 102) (nth a 107) (nth a 108) h)

theorem e25_sleuthref1_term {β : Type} (I : FI) (N : Nat) (call : FCall β) (a : List AV) (h : H) (k : K β) : fBody I 25 T.s25_sleuthref1_term N call a h k = f25_sleuthref1_term N call a h k := by kernel_rfl

noncomputable def f26_term_All {β : Type} (N : Nat) (call : FCall β) (a : List AV) (h : H) (k : K β) : Option β :=
 fJoin 7 (fun _ _ _ _ _ _ _ h =>
 k (.bool true) h) fun j0 =>
 pLenL (nth a 0) fun v1 =>
 (fLoop 7 N fun l2 _ _ _ x3 x4 x5 _ h =>
 pLss x5 x4 fun v3 =>
 fJoin 7 (fun x0 x1 _ x3 x4 x5 x6 h =>
 fJoin 7 (fun x0 x1 x2 x3 x4 x5 x6 h =>
 pAdd x5 (.int .i64 1) fun v6 =>
 l2 x0 x1 x2 x3 x4 v6 x6 h) fun j5 =>
 pIadr 1 x3 x5 fun v7 =>
 fLoad1 v7 h fun v8 =>
 call (.fn 17 []) [v8] h fun v9 h =>
 pNot v9 fun v10 =>
 fIf v10 (
 k (.bool false) h) (
 j5 x0 x1 v8 x3 x4 x5 x6 h)) fun j4 =>
 fIf v3 (
 j4 .any .any .any x3 x4 x5 v3 h) (
 j0 .any .any .any x3 x4 x5 v3 h)) (nth a 0) (.bool false) (nth a 4) (nth a 0) v1 (.int .i64 0) (nth a 8) h

theorem e26_term_All {β : Type} (I : FI) (N : Nat) (call : FCall β) (a : List AV) (h : H) (k : K β) : fBody I 26 T.s26_term_All N call a h k = f26_term_All N call a h k := by kernel_rfl

noncomputable def f27_term_Con {β : Type} (_ : Nat) (call : FCall β) (a : List AV) (h : H) (k : K β) : Option β :=
 call (.fn 29 []) [(nth a 0)] h fun v0 h =>
 pSAdd (.str [64]) v0 fun v1 =>
 fJoin 4 (fun _ _ _ x3 h =>
 k x3 h) fun j2 =>
 pLenL (nth a 1) fun v3 =>
 pGtr v3 (.int .i64 0) fun v4 =>
 fIf v4 (
 call (.fn 42 []) [(nth a 1), (.str [32])] h fun v5 h =>
 pSAdd (.str [40]) v5 fun v6 =>
 pSAdd v6 (.str [41]) fun v7 =>
 pSAdd v1 v7 fun v8 =>
 j2 (nth a 0) (nth a 1) (.str []) v8 h) (
 j2 (nth a 0) (nth a 1) (.str []) v1 h)

theorem e27_term_Con {β : Type} (I : FI) (N : Nat) (call : FCall β) (a : List AV) (h : H) (k : K β) : fBody I 27 T.s27_term_Con N call a h k = f27_term_Con N call a h k := by kernel_rfl

noncomputable def f28_prim_May {β : Type} (_ : Nat) (_ : FCall β) (a : List AV) (h : H) (k : K β) : Option β :=
 pGeq (nth a 0) (.int .i64 (-32768)) fun v0 =>
 fAnd v0 h (fun h k =>
 pLeq (nth a 0) (.int .i64 32767) fun v1 =>
 k v1 h) fun v2 h =>
 k v2 h

theorem e28_prim_May {β : Type} (I : FI) (N : Nat) (call : FCall β) (a : List AV) (h : H) (k : K β) : fBody I 28 T.s28_prim_May N call a h k = f28_prim_May N call a h k := by kernel_rfl

noncomputable def f30_sleuthref1_upTo {β : Type} (_ : Nat) (_ : FCall β) (a : List AV) (h : H) (k : K β) : Option β :=
 pGeq (nth a 0) (nth a 1) fun v0 =>
 fAnd v0 h (fun h k =>
 pLeq (nth a 0) (nth a 2) fun v1 =>
 k v1 h) fun v2 h =>
 k v2 h

theorem e30_sleuthref1_upTo {β : Type} (I : FI) (N : Nat) (call : FCall β) (a : List AV) (h : H) (k : K β) : fBody I 30 T.s30_sleuthref1_upTo N call a h k = f30_sleuthref1_upTo N call a h k := by kernel_rfl

noncomputable def f33_term_word {β : Type} (_ : Nat) (call : FCall β) (a : List AV) (h : H) (k : K β) : Option β :=
 call (.fn 44 []) [(nth a 0), (.str [32, 40, 41])] h fun v0 h =>
 fJoin 4 (fun x0 _ _ x3 h =>
 pSlS false true x0 [x3] fun v2 =>
 pSlS true false x0 [x3] fun v3 =>
 k (.tup [v2, v3]) h) fun j1 =>
 pLss v0 (.int .i64 0) fun v4 =>
 fIf v4 (
 pLenS (nth a 0) fun v5 =>
 j1 (nth a 0) (.str []) (.str []) v5 h) (
 j1 (nth a 0) (.str []) (.str []) v0 h)

theorem e33_term_word {β : Type} (I : FI) (N : Nat) (call : FCall β) (a : List AV) (h : H) (k : K β) : fBody I 33 T.s33_term_word N call a h k = f33_term_word N call a h k := by kernel_rfl

noncomputable def f34_term_Number {β : Type} (_ : Nat) (call : FCall β) (a : List AV) (h : H) (k : K β) : Option β :=
 call (.fn 45 []) [(nth a 0)] h fun v0 h =>
 pExt 0 v0 fun v1 =>
 pExt 1 v0 fun v2 =>
 pIsNil .ifc false v2 fun v3 =>
 fAnd v3 h (fun h k =>
 call (.fn 28 []) [v1] h fun v4 h =>
 k v4 h) fun v5 h =>
 fAnd v5 h (fun h k =>
 call (.fn 29 []) [v1] h fun v6 h =>
 pSEql v6 (nth a 0) fun v7 =>
 k v7 h) fun v8 h =>
 k (.tup [v1, v8]) h

theorem e34_term_Number {β : Type} (I : FI) (N : Nat) (call : FCall β) (a : List AV) (h : H) (k : K β) : fBody I 34 T.s34_term_Number N call a h k = f34_term_Number N call a h k := by kernel_rfl

noncomputable def f35_term_Tag {β : Type} (_ : Nat) (call : FCall β) (a : List AV) (h : H) (k : K β) : Option β :=
 call (.fn 37 []) [(nth a 0), (.str [64])] h fun v0 h =>
 pExt 0 v0 fun v1 =>
 pExt 1 v0 fun v2 =>
 call (.fn 46 []) [v1, (.int .i64 99)] h fun v3 h =>
 pExt 0 v3 fun v4 =>
 pExt 1 v3 fun v5 =>
 fAnd v2 h (fun h k =>
 k v5 h) fun v6 h =>
 k (.tup [v4, v6]) h

theorem e35_term_Tag {β : Type} (I : FI) (N : Nat) (call : FCall β) (a : List AV) (h : H) (k : K β) : fBody I 35 T.s35_term_Tag N call a h k = f35_term_Tag N call a h k := by kernel_rfl

noncomputable def f36_strings_HasPrefix {β : Type} (_ : Nat) (call : FCall β) (a : List AV) (h : H) (k : K β) : Option β :=
 call (.fn 47 []) [(nth a 0), (nth a 1)] h fun v0 h =>
 k v0 h

theorem e36_strings_HasPrefix {β : Type} (I : FI) (N : Nat) (call : FCall β) (a : List AV) (h : H) (k : K β) : fBody I 36 T.s36_strings_HasPrefix N call a h k = f36_strings_HasPrefix N call a h k := by kernel_rfl

noncomputable def f37_strings_CutPrefix {β : Type} (_ : Nat) (call : FCall β) (a : List AV) (h : H) (k : K β) : Option β :=
 call (.fn 48 []) [(nth a 0), (nth a 1)] h fun v0 h =>
 pExt 0 v0 fun v1 =>
 pExt 1 v0 fun v2 =>
 k (.tup [v1, v2]) h

theorem e37_strings_CutPrefix {β : Type} (I : FI) (N : Nat) (call : FCall β) (a : List AV) (h : H) (k : K β) : fBody I 37 T.s37_strings_CutPrefix N call a h k = f37_strings_CutPrefix N call a h k := by kernel_rfl

noncomputable def f38_sleuthref1_bad {β : Type} (_ : Nat) (_ : FCall β) (_ : List AV) (h : H) (k : K β) : Option β :=
 fAlloc 0 [(.int .i64 0), (.int .i64 0), .nils, (.int .i64 0)] h fun v0 h =>
 pBuild [(.int .i64 0), (.int .i64 0), .nils, (.int .i64 0)] [(3, 1)] [(.int .i64 (-1))] fun v1 =>
 fStore 4 v0 v1 h fun h =>
 fLoadN 4 v0 h fun v2 =>
 k v2 h

theorem e38_sleuthref1_bad {β : Type} (I : FI) (N : Nat) (call : FCall β) (a : List AV) (h : H) (k : K β) : fBody I 38 T.s38_sleuthref1_bad N call a h k = f38_sleuthref1_bad N call a h k := by kernel_rfl

noncomputable def f39_sleuthref1_digits {β : Type} (N : Nat) (_ : FCall β) (a : List AV) (h : H) (k : K β) : Option β :=
 fJoin 7 (fun _ _ _ x3 x4 _ _ h =>
 k (.tup [x3, x4]) h) fun j0 =>
 (fLoop 7 N fun l1 x0 _ _ x3 x4 _ _ h =>
 fJoin 7 (fun x0 x1 x2 x3 x4 x5 x6 h =>
 pMul (.int .i64 10) x3 fun v3 =>
 pIdxS x0 x4 fun v4 =>
 pSub v4 (.int .u8 48) fun v5 =>
 pConv .i64 v5 fun v6 =>
 pAdd v3 v6 fun v7 =>
 pAdd x4 (.int .i64 1) fun v8 =>
 l1 x0 x1 x2 v7 v8 x5 x6 h) fun j2 =>
 pLenS x0 fun v9 =>
 pLss x4 v9 fun v10 =>
 fAnd v10 h (fun h k =>
 pLss x4 (.int .i64 6) fun v11 =>
 k v11 h) fun v12 h =>
 fAnd v12 h (fun h k =>
 pIdxS x0 x4 fun v13 =>
 pGeq v13 (.int .u8 48) fun v14 =>
 k v14 h) fun v15 h =>
 fAnd v15 h (fun h k =>
 pIdxS x0 x4 fun v16 =>
 pLeq v16 (.int .u8 57) fun v17 =>
 k v17 h) fun v18 h =>
 fAnd v18 h (fun h k =>
 pEql x4 (.int .i64 0) fun v19 =>
 fOr v19 h (fun h k =>
 pIdxS x0 (.int .i64 0) fun v20 =>
 pNeq v20 (.int .u8 48) fun v21 =>
 k v21 h) fun v22 h =>
 k v22 h) fun v23 h =>
 fIf v23 (
 j2 x0 .any .any x3 x4 .any .any h) (
 j0 x0 .any .any x3 x4 .any .any h)) (nth a 0) (.int .i64 0) (.int .i64 0) (.int .i64 0) (.int .i64 0) (nth a 45) (nth a 46) h

theorem e39_sleuthref1_digits {β : Type} (I : FI) (N : Nat) (call : FCall β) (a : List AV) (h : H) (k : K β) : fBody I 39 T.s39_sleuthref1_digits N call a h k = f39_sleuthref1_digits N call a h k := by kernel_rfl

noncomputable def f40_sleuthref1_parts {β : Type} (N : Nat) (call : FCall β) (a : List AV) (h : H) (k : K β) : Option β :=
 fBox 0 (nth a 1) h fun v0 h =>
 fAlloc 0 [(.int .i64 0), (.int .i64 0), .nils, (.int .i64 0)] h fun v1 h =>
 fJoin 7 (fun _ _ _ _ x4 _ _ h =>
 call (.fn 38 []) [] h fun v3 h =>
 fStore 4 x4 v3 h fun h =>
 fLoadN 4 x4 h fun v4 =>
 k v4 h) fun j2 =>
 (fLoop 7 N fun l5 x0 _ x2 x3 x4 _ _ h =>
 fJoin 7 (fun x0 x1 x2 x3 x4 _ _ h =>
 call (.fn 25 []) [x0, x2] h fun v7 h =>
 fAlloc 0 [(.int .i64 0), (.int .i64 0), .nils, (.int .i64 0)] h fun v8 h =>
 fStore 4 v8 v7 h fun h =>
 fJoin 7 (fun x0 x1 x2 x3 x4 x5 x6 h =>
 pFadr 2 x3 fun v10 =>
 fLoad1 v10 h fun v11 =>
 pFadr 3 x5 fun v12 =>
 fLoad1 v12 h fun v13 =>
 pSlS true true x0 [x2, v13] fun v14 =>
 fBslice 0 [(.str [])] 1 [(0, 1)] [v14] h fun v15 h =>
 fLoad1 v10 h fun v16 =>
 fChk v16 v11 (
 fApp 0 1 16 v11 v15 h fun v17 h =>
 pFadr 2 x3 fun v18 =>
 fStore 1 v18 v17 h fun h =>
 fJoin 7 (fun x0 x1 x2 x3 x4 x5 x6 h =>
 fJoin 7 (fun x0 x1 _ x3 x4 x5 x6 h =>
 pFadr 3 x5 fun v21 =>
 fLoad1 v21 h fun v22 =>
 pAdd v22 (.int .i64 1) fun v23 =>
 l5 x0 x1 v23 x3 x4 x5 x6 h) fun j20 =>
 pFadr 3 x5 fun v24 =>
 fLoad1 v24 h fun v25 =>
 pIdxS x0 v25 fun v26 =>
 pNeq v26 (.int .u8 32) fun v27 =>
 fIf v27 (
 call (.fn 38 []) [] h fun v28 h =>
 fStore 4 x4 v28 h fun h =>
 fLoadN 4 x4 h fun v29 =>
 k v29 h) (
 j20 x0 x1 x2 x3 x4 x5 x6 h)) fun j19 =>
 pFadr 3 x5 fun v30 =>
 fLoad1 v30 h fun v31 =>
 pIdxS x0 v31 fun v32 =>
 pEql v32 (.int .u8 41) fun v33 =>
 fIf v33 (
 pFadr 3 x5 fun v34 =>
 fLoad1 v34 h fun v35 =>
 pAdd v35 (.int .i64 1) fun v36 =>
 pFadr 3 x3 fun v37 =>
 fStore 1 v37 v36 h fun h =>
 fLoadN 4 x3 h fun v38 =>
 fStore 4 x4 v38 h fun h =>
 fLoadN 4 x4 h fun v39 =>
 k v39 h) (
 j19 x0 x1 x2 x3 x4 x5 x6 h))) fun j9 =>
 pFadr 3 v8 fun v40 =>
 fLoad1 v40 h fun v41 =>
 pLss v41 (.int .i64 0) fun v42 =>
 fOr v42 h (fun h k =>
 pFadr 3 v8 fun v43 =>
 fLoad1 v43 h fun v44 =>
 pLenS x0 fun v45 =>
 pGeq v44 v45 fun v46 =>
 k v46 h) fun v47 h =>
 fIf v47 (
 call (.fn 38 []) [] h fun v48 h =>
 fStore 4 x4 v48 h fun h =>
 fLoadN 4 x4 h fun v49 =>
 k v49 h) (
 j9 x0 x1 x2 x3 x4 v8 v7 h)) fun j6 =>
 pFadr 2 x3 fun v50 =>
 fLoad1 v50 h fun v51 =>
 pLenL v51 fun v52 =>
 pLss v52 (.int .i64 3) fun v53 =>
 fIf v53 (
 j6 x0 .any x2 x3 x4 .any .any h) (
 j2 x0 .any x2 x3 x4 .any .any h)) (nth a 0) (nth a 1) (nth a 2) v0 v1 (nth a 7) (nth a 14) h

theorem e40_sleuthref1_parts {β : Type} (I : FI) (N : Nat) (call : FCall β) (a : List AV) (h : H) (k : K β) : fBody I 40 T.s40_sleuthref1_parts N call a h k = f40_sleuthref1_parts N call a h k := by kernel_rfl

noncomputable def f41_sleuthref1_NumMay {β : Type} (_ : Nat) (call : FCall β) (a : List AV) (h : H) (k : K β) : Option β :=
 call (.fn 30 []) [(nth a 0), (.int .i64 (-32768)), (.int .i64 32767)] h fun v0 h =>
 k v0 h

theorem e41_sleuthref1_NumMay {β : Type} (I : FI) (N : Nat) (call : FCall β) (a : List AV) (h : H) (k : K β) : fBody I 41 T.s41_sleuthref1_NumMay N call a h k = f41_sleuthref1_NumMay N call a h k := by kernel_rfl

noncomputable def f46_term_Digits {β : Type} (_ : Nat) (call : FCall β) (a : List AV) (h : H) (k : K β) : Option β :=
 call (.fn 45 []) [(nth a 0)] h fun v0 h =>
 pExt 0 v0 fun v1 =>
 pExt 1 v0 fun v2 =>
 pIsNil .ifc false v2 fun v3 =>
 fAnd v3 h (fun h k =>
 pGeq v1 (.int .i64 0) fun v4 =>
 k v4 h) fun v5 h =>
 fAnd v5 h (fun h k =>
 pLeq v1 (nth a 1) fun v6 =>
 k v6 h) fun v7 h =>
 fAnd v7 h (fun h k =>
 call (.fn 29 []) [v1] h fun v8 h =>
 pSEql v8 (nth a 0) fun v9 =>
 k v9 h) fun v10 h =>
 k (.tup [v1, v10]) h

theorem e46_term_Digits {β : Type} (I : FI) (N : Nat) (call : FCall β) (a : List AV) (h : H) (k : K β) : fBody I 46 T.s46_term_Digits N call a h k = f46_term_Digits N call a h k := by kernel_rfl

noncomputable def f47_internal_stringslite_HasPrefix {β : Type} (_ : Nat) (_ : FCall β) (a : List AV) (h : H) (k : K β) : Option β :=
 pLenS (nth a 0) fun v0 =>
 pLenS (nth a 1) fun v1 =>
 pGeq v0 v1 fun v2 =>
 fAnd v2 h (fun h k =>
 pLenS (nth a 1) fun v3 =>
 pSlS false true (nth a 0) [v3] fun v4 =>
 pSEql v4 (nth a 1) fun v5 =>
 k v5 h) fun v6 h =>
 k v6 h

theorem e47_internal_stringslite_HasPrefix {β : Type} (I : FI) (N : Nat) (call : FCall β) (a : List AV) (h : H) (k : K β) : fBody I 47 T.s47_internal_stringslite_HasPrefix N call a h k = f47_internal_stringslite_HasPrefix N call a h k := by kernel_rfl

noncomputable def f48_internal_stringslite_CutPrefix {β : Type} (_ : Nat) (call : FCall β) (a : List AV) (h : H) (k : K β) : Option β :=
 fJoin 4 (fun x0 x1 _ _ h =>
 pLenS x1 fun v1 =>
 pSlS true false x0 [v1] fun v2 =>
 k (.tup [v2, (.bool true)]) h) fun j0 =>
 call (.fn 47 []) [(nth a 0), (nth a 1)] h fun v3 h =>
 pNot v3 fun v4 =>
 fIf v4 (
 k (.tup [(nth a 0), (.bool false)]) h) (
 j0 (nth a 0) (nth a 1) (.str []) (.bool false) h)

theorem e48_internal_stringslite_CutPrefix {β : Type} (I : FI) (N : Nat) (call : FCall β) (a : List AV) (h : H) (k : K β) : fBody I 48 T.s48_internal_stringslite_CutPrefix N call a h k = f48_internal_stringslite_CutPrefix N call a h k := by kernel_rfl

end Am.F
