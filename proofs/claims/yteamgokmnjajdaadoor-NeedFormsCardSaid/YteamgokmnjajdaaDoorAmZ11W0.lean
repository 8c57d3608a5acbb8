/- What the functions come to. -/
import Derived.Test.YteamgokmnjajdaaDoorAmZ11T0
import Derived.Test.YteamgokmnjajdaaDoorAmFs
set_option maxRecDepth 100000
namespace Am.F
open Go Am
noncomputable def f12_sleuthref1_Cut {β : Type} (_ : Nat) (call : FCall β) (a : List AV) (h : H) (k : K β) : Option β :=
 fJoin 7 (fun x0 x1 x2 x3 x4 _ _ h =>
 call (.fn 25 []) [x0, (.int .i64 0)] h fun v1 h =>
 fAlloc 0 [(.int .i64 0), (.int .i64 0), .nils, (.int .i64 0)] h fun v2 h =>
 fStore 4 v2 v1 h fun h =>
 fJoin 7 (fun _ _ _ _ _ x5 _ h =>
 pFadr 0 x5 fun v4 =>
 fLoad1 v4 h fun v5 =>
 pFadr 1 x5 fun v6 =>
 fLoad1 v6 h fun v7 =>
 pFadr 2 x5 fun v8 =>
 fLoad1 v8 h fun v9 =>
 k (.tup [v5, v7, v9, (.int .i64 0)]) h) fun j3 =>
 pFadr 3 v2 fun v10 =>
 fLoad1 v10 h fun v11 =>
 pLenS x0 fun v12 =>
 pNeq v11 v12 fun v13 =>
 fIf v13 (
 k (.tup [(.int .i64 0), (.int .i64 0), .nils, (.int .i64 200)]) h) (
 j3 x0 x1 x2 x3 x4 v2 v1 h)) fun j0 =>
 pLenS (nth a 0) fun v14 =>
 pGtr v14 (.int .i64 1024) fun v15 =>
 fIf v15 (
 k (.tup [(.int .i64 0), (.int .i64 0), .nils, (.int .i64 200)]) h) (
 j0 (nth a 0) (.int .i64 0) (.int .i64 0) .nils (.int .i64 0) (nth a 6) (nth a 11) h)

theorem e12_sleuthref1_Cut {β : Type} (I : FI) (N : Nat) (call : FCall β) (a : List AV) (h : H) (k : K β) : fBody I 12 T.s12_sleuthref1_Cut N call a h k = f12_sleuthref1_Cut N call a h k := by kernel_rfl

noncomputable def f15_sleuthlaw0_SameTexts {β : Type} (N : Nat) (_ : FCall β) (a : List AV) (h : H) (k : K β) : Option β :=
 fJoin 5 (fun x0 x1 x2 _ x4 h =>
 fJoin 5 (fun _ _ _ _ _ h =>
 k (.bool true) h) fun j1 =>
 (fLoop 5 N fun l2 x0 x1 _ x3 _ h =>
 fJoin 5 (fun x0 x1 x2 x3 _ h =>
 fJoin 5 (fun x0 x1 x2 x3 x4 h =>
 pAdd x3 (.int .i64 1) fun v5 =>
 l2 x0 x1 x2 v5 x4 h) fun j4 =>
 pIadr 1 x0 x3 fun v6 =>
 fLoad1 v6 h fun v7 =>
 pIadr 1 x1 x3 fun v8 =>
 fLoad1 v8 h fun v9 =>
 pSNeq v7 v9 fun v10 =>
 fIf v10 (
 k (.bool false) h) (
 j4 x0 x1 x2 x3 v10 h)) fun j3 =>
 pLenL x0 fun v11 =>
 pLss x3 v11 fun v12 =>
 fIf v12 (
 j3 x0 x1 .any x3 .any h) (
 j1 x0 x1 .any x3 .any h)) x0 x1 x2 (.int .i64 0) x4 h) fun j0 =>
 pLenL (nth a 0) fun v13 =>
 pLenL (nth a 1) fun v14 =>
 pNeq v13 v14 fun v15 =>
 fIf v15 (
 k (.bool false) h) (
 j0 (nth a 0) (nth a 1) (.bool false) (nth a 5) (nth a 25) h)

theorem e15_sleuthlaw0_SameTexts {β : Type} (I : FI) (N : Nat) (call : FCall β) (a : List AV) (h : H) (k : K β) : fBody I 15 T.s15_sleuthlaw0_SameTexts N call a h k = f15_sleuthlaw0_SameTexts N call a h k := by kernel_rfl

noncomputable def f16_sleuthlaw0_Num {β : Type} (_ : Nat) (_ : FCall β) (a : List AV) (h : H) (k : K β) : Option β :=
 k (nth a 0) h

theorem e16_sleuthlaw0_Num {β : Type} (I : FI) (N : Nat) (call : FCall β) (a : List AV) (h : H) (k : K β) : fBody I 16 T.s16_sleuthlaw0_Num N call a h k = f16_sleuthlaw0_Num N call a h k := by kernel_rfl

noncomputable def f22_sleuthref0_Decimal {β : Type} (N : Nat) (_ : FCall β) (a : List AV) (h : H) (k : K β) : Option β :=
 pConv .u64 (nth a 0) fun v0 =>
 fJoin 4 (fun x0 x1 x2 _ h =>
 fJoin 4 (fun x0 x1 x2 x3 h =>
 fJoin 4 (fun _ _ _ x3 h =>
 fB2s x3 h fun v4 =>
 k v4 h) fun j3 =>
 pLss x0 (.int .i64 0) fun v5 =>
 fIf v5 (
 fBslice 0 [(.int .u8 0)] 1 [(0, 1)] [(.int .u8 45)] h fun v6 h =>
 fApp 0 1 1 v6 x3 h fun v7 h =>
 j3 x0 x1 x2 v7 h) (
 j3 x0 x1 x2 x3 h)) fun j2 =>
 (fLoop 4 N fun l8 x0 _ x2 x3 h =>
 fJoin 4 (fun x0 x1 x2 x3 h =>
 pBin .rem x2 (.int .u64 10) fun v10 =>
 pAdd (.int .u64 48) v10 fun v11 =>
 pConv .u8 v11 fun v12 =>
 fBslice 0 [(.int .u8 0)] 1 [(0, 1)] [v12] h fun v13 h =>
 fApp 0 1 1 v13 x3 h fun v14 h =>
 pBin .quo x2 (.int .u64 10) fun v15 =>
 l8 x0 x1 v15 v14 h) fun j9 =>
 pGtr x2 (.int .u64 0) fun v16 =>
 fOr v16 h (fun h k =>
 pLenL x3 fun v17 =>
 pEql v17 (.int .i64 0) fun v18 =>
 k v18 h) fun v19 h =>
 fIf v19 (
 j9 x0 .any x2 x3 h) (
 j2 x0 .any x2 x3 h)) x0 x1 x2 .nils h) fun j1 =>
 pLss (nth a 0) (.int .i64 0) fun v20 =>
 fIf v20 (
 pAdd (nth a 0) (.int .i64 1) fun v21 =>
 pNeg v21 fun v22 =>
 pConv .u64 v22 fun v23 =>
 pAdd v23 (.int .u64 1) fun v24 =>
 j1 (nth a 0) (.str []) v24 (nth a 4) h) (
 j1 (nth a 0) (.str []) v0 (nth a 4) h)

theorem e22_sleuthref0_Decimal {β : Type} (I : FI) (N : Nat) (call : FCall β) (a : List AV) (h : H) (k : K β) : fBody I 22 T.s22_sleuthref0_Decimal N call a h k = f22_sleuthref0_Decimal N call a h k := by kernel_rfl

noncomputable def f25_sleuthref1_term {β : Type} (_ : Nat) (call : FCall β) (a : List AV) (h : H) (k : K β) : Option β :=
 fAlloc 0 [(.int .i64 0), (.int .i64 0), .nils, (.int .i64 0)] h fun v0 h =>
 fJoin 21 (fun x0 x1 x2 x3 x4 x5 x6 x7 x8 x9 _ x11 x12 x13 x14 x15 x16 x17 x18 x19 x20 h =>
 fJoin 21 (fun x0 x1 x2 x3 x4 x5 x6 x7 _ _ x10 x11 x12 x13 x14 x15 x16 x17 _ _ _ h =>
 pSlS true false x0 [x1] fun v3 =>
 call (.fn 39 []) [v3] h fun v4 h =>
 pExt 0 v4 fun v5 =>
 pExt 1 v4 fun v6 =>
 fJoin 21 (fun _ x1 x2 _ _ _ _ _ x8 x9 _ _ _ _ _ _ _ _ _ _ _ h =>
 pAdd x1 x9 fun v8 =>
 pBuild [(.int .i64 0), (.int .i64 0), .nils, (.int .i64 0)] [(0, 1), (1, 1), (3, 1)] [(.int .i64 1), x8, v8] fun v9 =>
 fStore 4 x2 v9 h fun h =>
 fLoadN 4 x2 h fun v10 =>
 k v10 h) fun j7 =>
 pEql v6 (.int .i64 0) fun v11 =>
 fOr v11 h (fun h k =>
 call (.fn 41 []) [v5] h fun v12 h =>
 pNot v12 fun v13 =>
 k v13 h) fun v14 h =>
 fIf v14 (
 call (.fn 38 []) [] h fun v15 h =>
 fStore 4 x2 v15 h fun h =>
 fLoadN 4 x2 h fun v16 =>
 k v16 h) (
 j7 x0 x1 x2 x3 x4 x5 x6 x7 v5 v6 x10 x11 x12 x13 x14 x15 x16 x17 v4 v5 v6 h)) fun j2 =>
 pIdxS x0 x1 fun v17 =>
 pEql v17 (.int .u8 95) fun v18 =>
 fIf v18 (
 pAdd x1 (.int .i64 1) fun v19 =>
 pBuild [(.int .i64 0), (.int .i64 0), .nils, (.int .i64 0)] [(0, 1), (3, 1)] [(.int .i64 0), v19] fun v20 =>
 fStore 4 x2 v20 h fun h =>
 fLoadN 4 x2 h fun v21 =>
 k v21 h) (
 pEql v17 (.int .u8 33) fun v22 =>
 fIf v22 (
 pAdd x1 (.int .i64 1) fun v23 =>
 pBuild [(.int .i64 0), (.int .i64 0), .nils, (.int .i64 0)] [(0, 1), (3, 1)] [(.int .i64 3), v23] fun v24 =>
 fStore 4 x2 v24 h fun h =>
 fLoadN 4 x2 h fun v25 =>
 k v25 h) (
 pEql v17 (.int .u8 64) fun v26 =>
 fIf v26 (
 pAdd x1 (.int .i64 1) fun v27 =>
 pSlS true false x0 [v27] fun v28 =>
 call (.fn 39 []) [v28] h fun v29 h =>
 pExt 0 v29 fun v30 =>
 pExt 1 v29 fun v31 =>
 fJoin 21 (fun x0 x1 x2 x3 x4 _ x6 x7 x8 x9 x10 x11 x12 x13 _ x15 x16 x17 x18 x19 x20 h =>
 pAdd x1 (.int .i64 1) fun v33 =>
 pAdd v33 x4 fun v34 =>
 pBuild [(.int .i64 0), (.int .i64 0), .nils, (.int .i64 0)] [(0, 1), (1, 1), (3, 1)] [(.int .i64 2), x3, v34] fun v35 =>
 fAlloc 0 [(.int .i64 0), (.int .i64 0), .nils, (.int .i64 0)] h fun v36 h =>
 fStore 4 v36 v35 h fun h =>
 fJoin 21 (fun _ _ x2 _ _ x5 _ _ _ _ _ _ _ _ _ _ _ _ _ _ _ h =>
 fLoadN 4 x5 h fun v38 =>
 fStore 4 x2 v38 h fun h =>
 fLoadN 4 x2 h fun v39 =>
 k v39 h) fun j37 =>
 pFadr 3 v36 fun v40 =>
 fLoad1 v40 h fun v41 =>
 pLenS x0 fun v42 =>
 pLss v41 v42 fun v43 =>
 fAnd v43 h (fun h k =>
 pFadr 3 v36 fun v44 =>
 fLoad1 v44 h fun v45 =>
 pIdxS x0 v45 fun v46 =>
 pEql v46 (.int .u8 40) fun v47 =>
 k v47 h) fun v48 h =>
 fIf v48 (
 fLoadN 4 v36 h fun v49 =>
 pFadr 3 v36 fun v50 =>
 fLoad1 v50 h fun v51 =>
 pAdd v51 (.int .i64 1) fun v52 =>
 call (.fn 40 []) [x0, v49, v52] h fun v53 h =>
 fStore 4 x2 v53 h fun h =>
 fLoadN 4 x2 h fun v54 =>
 k v54 h) (
 j37 x0 x1 x2 x3 x4 v36 x6 x7 x8 x9 x10 x11 x12 x13 v35 x15 x16 x17 x18 x19 x20 h)) fun j32 =>
 pEql v31 (.int .i64 0) fun v55 =>
 fOr v55 h (fun h k =>
 pGtr v30 (.int .i64 99) fun v56 =>
 k v56 h) fun v57 h =>
 fIf v57 (
 call (.fn 38 []) [] h fun v58 h =>
 fStore 4 x2 v58 h fun h =>
 fLoadN 4 x2 h fun v59 =>
 k v59 h) (
 j32 x0 x1 x2 v30 v31 x5 x6 x7 x8 x9 v17 v29 v30 v31 x14 x15 x16 x17 x18 x19 x20 h)) (
 pEql v17 (.int .u8 45) fun v60 =>
 fIf v60 (
 pAdd x1 (.int .i64 1) fun v61 =>
 pSlS true false x0 [v61] fun v62 =>
 call (.fn 39 []) [v62] h fun v63 h =>
 pExt 0 v63 fun v64 =>
 pExt 1 v63 fun v65 =>
 fJoin 21 (fun _ x1 x2 _ _ _ x6 x7 _ _ _ _ _ _ _ _ _ _ _ _ _ h =>
 pNeg x6 fun v67 =>
 pAdd x1 (.int .i64 1) fun v68 =>
 pAdd v68 x7 fun v69 =>
 pBuild [(.int .i64 0), (.int .i64 0), .nils, (.int .i64 0)] [(0, 1), (1, 1), (3, 1)] [(.int .i64 1), v67, v69] fun v70 =>
 fStore 4 x2 v70 h fun h =>
 fLoadN 4 x2 h fun v71 =>
 k v71 h) fun j66 =>
 pEql v65 (.int .i64 0) fun v72 =>
 fOr v72 h (fun h k =>
 pEql v64 (.int .i64 0) fun v73 =>
 k v73 h) fun v74 h =>
 fOr v74 h (fun h k =>
 pNeg v64 fun v75 =>
 call (.fn 41 []) [v75] h fun v76 h =>
 pNot v76 fun v77 =>
 k v77 h) fun v78 h =>
 fIf v78 (
 call (.fn 38 []) [] h fun v79 h =>
 fStore 4 x2 v79 h fun h =>
 fLoadN 4 x2 h fun v80 =>
 k v80 h) (
 j66 x0 x1 x2 x3 x4 x5 v64 v65 x8 x9 v17 x11 x12 x13 x14 v63 v64 v65 x18 x19 x20 h)) (
 j2 x0 x1 x2 x3 x4 x5 x6 x7 x8 x9 v17 x11 x12 x13 x14 x15 x16 x17 x18 x19 x20 h))))) fun j1 =>
 pLenS (nth a 0) fun v81 =>
 pGeq (nth a 1) v81 fun v82 =>
 fIf v82 (
 call (.fn 38 []) [] h fun v83 h =>
 fStore 4 v0 v83 h fun h =>
 fLoadN 4 v0 h fun v84 =>
 k v84 h) (
 j1 (nth a 0) (nth a 1) v0 (nth a 5) (nth a 6) (nth a 7) (nth a 8) (nth a 9) (nth a 10) (nth a 11) (nth a 19) (nth a 32) (nth a 38) (nth a 39) (nth a 52) (nth a 74) (nth a 80) (nth a 81) (nth a 102) (nth a 107) (nth a 108) h)

theorem e25_sleuthref1_term {β : Type} (I : FI) (N : Nat) (call : FCall β) (a : List AV) (h : H) (k : K β) : fBody I 25 T.s25_sleuthref1_term N call a h k = f25_sleuthref1_term N call a h k := by kernel_rfl

noncomputable def f27_term_Con {β : Type} (_ : Nat) (call : FCall β) (a : List AV) (h : H) (k : K β) : Option β :=
 call (.fn 29 []) [(nth a 0)] h fun v0 h =>
 pSAdd (.str [64]) v0 fun v1 =>
 fJoin 4 (fun _ _ _ x3 h =>
 k x3 h) fun j2 =>
 pLenL (nth a 1) fun v3 =>
 pGtr v3 (.int .i64 0) fun v4 =>
 fIf v4 (
 call (.fn 42 []) [(nth a 1), (.str [32])] h fun v5 h =>
 pSAdd (.str [40]) v5 fun v6 =>
 pSAdd v6 (.str [41]) fun v7 =>
 pSAdd v1 v7 fun v8 =>
 j2 (nth a 0) (nth a 1) (.str []) v8 h) (
 j2 (nth a 0) (nth a 1) (.str []) v1 h)

theorem e27_term_Con {β : Type} (I : FI) (N : Nat) (call : FCall β) (a : List AV) (h : H) (k : K β) : fBody I 27 T.s27_term_Con N call a h k = f27_term_Con N call a h k := by kernel_rfl

noncomputable def f28_prim_May {β : Type} (_ : Nat) (_ : FCall β) (a : List AV) (h : H) (k : K β) : Option β :=
 pGeq (nth a 0) (.int .i64 (-32768)) fun v0 =>
 fAnd v0 h (fun h k =>
 pLeq (nth a 0) (.int .i64 32767) fun v1 =>
 k v1 h) fun v2 h =>
 k v2 h

theorem e28_prim_May {β : Type} (I : FI) (N : Nat) (call : FCall β) (a : List AV) (h : H) (k : K β) : fBody I 28 T.s28_prim_May N call a h k = f28_prim_May N call a h k := by kernel_rfl

noncomputable def f30_sleuthref1_upTo {β : Type} (_ : Nat) (_ : FCall β) (a : List AV) (h : H) (k : K β) : Option β :=
 pGeq (nth a 0) (nth a 1) fun v0 =>
 fAnd v0 h (fun h k =>
 pLeq (nth a 0) (nth a 2) fun v1 =>
 k v1 h) fun v2 h =>
 k v2 h

theorem e30_sleuthref1_upTo {β : Type} (I : FI) (N : Nat) (call : FCall β) (a : List AV) (h : H) (k : K β) : fBody I 30 T.s30_sleuthref1_upTo N call a h k = f30_sleuthref1_upTo N call a h k := by kernel_rfl

noncomputable def f38_sleuthref1_bad {β : Type} (_ : Nat) (_ : FCall β) (_ : List AV) (h : H) (k : K β) : Option β :=
 fAlloc 0 [(.int .i64 0), (.int .i64 0), .nils, (.int .i64 0)] h fun v0 h =>
 pBuild [(.int .i64 0), (.int .i64 0), .nils, (.int .i64 0)] [(3, 1)] [(.int .i64 (-1))] fun v1 =>
 fStore 4 v0 v1 h fun h =>
 fLoadN 4 v0 h fun v2 =>
 k v2 h

theorem e38_sleuthref1_bad {β : Type} (I : FI) (N : Nat) (call : FCall β) (a : List AV) (h : H) (k : K β) : fBody I 38 T.s38_sleuthref1_bad N call a h k = f38_sleuthref1_bad N call a h k := by kernel_rfl

noncomputable def f39_sleuthref1_digits {β : Type} (N : Nat) (_ : FCall β) (a : List AV) (h : H) (k : K β) : Option β :=
 fJoin 7 (fun _ _ _ x3 x4 _ _ h =>
 k (.tup [x3, x4]) h) fun j0 =>
 (fLoop 7 N fun l1 x0 _ _ x3 x4 _ _ h =>
 fJoin 7 (fun x0 x1 x2 x3 x4 x5 x6 h =>
 pMul (.int .i64 10) x3 fun v3 =>
 pIdxS x0 x4 fun v4 =>
 pSub v4 (.int .u8 48) fun v5 =>
 pConv .i64 v5 fun v6 =>
 pAdd v3 v6 fun v7 =>
 pAdd x4 (.int .i64 1) fun v8 =>
 l1 x0 x1 x2 v7 v8 x5 x6 h) fun j2 =>
 pLenS x0 fun v9 =>
 pLss x4 v9 fun v10 =>
 fAnd v10 h (fun h k =>
 pLss x4 (.int .i64 6) fun v11 =>
 k v11 h) fun v12 h =>
 fAnd v12 h (fun h k =>
 pIdxS x0 x4 fun v13 =>
 pGeq v13 (.int .u8 48) fun v14 =>
 k v14 h) fun v15 h =>
 fAnd v15 h (fun h k =>
 pIdxS x0 x4 fun v16 =>
 pLeq v16 (.int .u8 57) fun v17 =>
 k v17 h) fun v18 h =>
 fAnd v18 h (fun h k =>
 pEql x4 (.int .i64 0) fun v19 =>
 fOr v19 h (fun h k =>
 pIdxS x0 (.int .i64 0) fun v20 =>
 pNeq v20 (.int .u8 48) fun v21 =>
 k v21 h) fun v22 h =>
 k v22 h) fun v23 h =>
 fIf v23 (
 j2 x0 .any .any x3 x4 .any .any h) (
 j0 x0 .any .any x3 x4 .any .any h)) (nth a 0) (.int .i64 0) (.int .i64 0) (.int .i64 0) (.int .i64 0) (nth a 45) (nth a 46) h

theorem e39_sleuthref1_digits {β : Type} (I : FI) (N : Nat) (call : FCall β) (a : List AV) (h : H) (k : K β) : fBody I 39 T.s39_sleuthref1_digits N call a h k = f39_sleuthref1_digits N call a h k := by kernel_rfl

noncomputable def f40_sleuthref1_parts {β : Type} (N : Nat) (call : FCall β) (a : List AV) (h : H) (k : K β) : Option β :=
 fBox 0 (nth a 1) h fun v0 h =>
 fAlloc 0 [(.int .i64 0), (.int .i64 0), .nils, (.int .i64 0)] h fun v1 h =>
 fJoin 7 (fun _ _ _ _ x4 _ _ h =>
 call (.fn 38 []) [] h fun v3 h =>
 fStore 4 x4 v3 h fun h =>
 fLoadN 4 x4 h fun v4 =>
 k v4 h) fun j2 =>
 (fLoop 7 N fun l5 x0 _ x2 x3 x4 _ _ h =>
 fJoin 7 (fun x0 x1 x2 x3 x4 _ _ h =>
 call (.fn 25 []) [x0, x2] h fun v7 h =>
 fAlloc 0 [(.int .i64 0), (.int .i64 0), .nils, (.int .i64 0)] h fun v8 h =>
 fStore 4 v8 v7 h fun h =>
 fJoin 7 (fun x0 x1 x2 x3 x4 x5 x6 h =>
 pFadr 2 x3 fun v10 =>
 fLoad1 v10 h fun v11 =>
 pFadr 3 x5 fun v12 =>
 fLoad1 v12 h fun v13 =>
 pSlS true true x0 [x2, v13] fun v14 =>
 fBslice 0 [(.str [])] 1 [(0, 1)] [v14] h fun v15 h =>
 fLoad1 v10 h fun v16 =>
 fChk v16 v11 (
 fApp 0 1 16 v11 v15 h fun v17 h =>
 pFadr 2 x3 fun v18 =>
 fStore 1 v18 v17 h fun h =>
 fJoin 7 (fun x0 x1 x2 x3 x4 x5 x6 h =>
 fJoin 7 (fun x0 x1 _ x3 x4 x5 x6 h =>
 pFadr 3 x5 fun v21 =>
 fLoad1 v21 h fun v22 =>
 pAdd v22 (.int .i64 1) fun v23 =>
 l5 x0 x1 v23 x3 x4 x5 x6 h) fun j20 =>
 pFadr 3 x5 fun v24 =>
 fLoad1 v24 h fun v25 =>
 pIdxS x0 v25 fun v26 =>
 pNeq v26 (.int .u8 32) fun v27 =>
 fIf v27 (
 call (.fn 38 []) [] h fun v28 h =>
 fStore 4 x4 v28 h fun h =>
 fLoadN 4 x4 h fun v29 =>
 k v29 h) (
 j20 x0 x1 x2 x3 x4 x5 x6 h)) fun j19 =>
 pFadr 3 x5 fun v30 =>
 fLoad1 v30 h fun v31 =>
 pIdxS x0 v31 fun v32 =>
 pEql v32 (.int .u8 41) fun v33 =>
 fIf v33 (
 pFadr 3 x5 fun v34 =>
 fLoad1 v34 h fun v35 =>
 pAdd v35 (.int .i64 1) fun v36 =>
 pFadr 3 x3 fun v37 =>
 fStore 1 v37 v36 h fun h =>
 fLoadN 4 x3 h fun v38 =>
 fStore 4 x4 v38 h fun h =>
 fLoadN 4 x4 h fun v39 =>
 k v39 h) (
 j19 x0 x1 x2 x3 x4 x5 x6 h))) fun j9 =>
 pFadr 3 v8 fun v40 =>
 fLoad1 v40 h fun v41 =>
 pLss v41 (.int .i64 0) fun v42 =>
 fOr v42 h (fun h k =>
 pFadr 3 v8 fun v43 =>
 fLoad1 v43 h fun v44 =>
 pLenS x0 fun v45 =>
 pGeq v44 v45 fun v46 =>
 k v46 h) fun v47 h =>
 fIf v47 (
 call (.fn 38 []) [] h fun v48 h =>
 fStore 4 x4 v48 h fun h =>
 fLoadN 4 x4 h fun v49 =>
 k v49 h) (
 j9 x0 x1 x2 x3 x4 v8 v7 h)) fun j6 =>
 pFadr 2 x3 fun v50 =>
 fLoad1 v50 h fun v51 =>
 pLenL v51 fun v52 =>
 pLss v52 (.int .i64 3) fun v53 =>
 fIf v53 (
 j6 x0 .any x2 x3 x4 .any .any h) (
 j2 x0 .any x2 x3 x4 .any .any h)) (nth a 0) (nth a 1) (nth a 2) v0 v1 (nth a 7) (nth a 14) h

theorem e40_sleuthref1_parts {β : Type} (I : FI) (N : Nat) (call : FCall β) (a : List AV) (h : H) (k : K β) : fBody I 40 T.s40_sleuthref1_parts N call a h k = f40_sleuthref1_parts N call a h k := by kernel_rfl

noncomputable def f41_sleuthref1_NumMay {β : Type} (_ : Nat) (call : FCall β) (a : List AV) (h : H) (k : K β) : Option β :=
 call (.fn 30 []) [(nth a 0), (.int .i64 (-32768)), (.int .i64 32767)] h fun v0 h =>
 k v0 h

theorem e41_sleuthref1_NumMay {β : Type} (I : FI) (N : Nat) (call : FCall β) (a : List AV) (h : H) (k : K β) : fBody I 41 T.s41_sleuthref1_NumMay N call a h k = f41_sleuthref1_NumMay N call a h k := by kernel_rfl

noncomputable def f121_sleuthlaw11_NeedForms {β : Type} (_ : Nat) (call : FCall β) (a : List AV) (h : H) (k : K β) : Option β :=
 fJoin 13 (fun x0 x1 x2 _ _ _ x6 x7 _ _ x10 x11 x12 h =>
 pBin .and x1 (.int .i64 1023) fun v1 =>
 pAdd (.int .i64 1) v1 fun v2 =>
 call (.fn 143 []) [] h fun v3 h =>
 fAlloc 0 [.nils] h fun v4 h =>
 fStore 1 v4 v3 h fun h =>
 fJoin 13 (fun _ _ _ _ x4 x5 _ _ _ _ _ _ _ h =>
 fLoadN 1 x4 h fun v6 =>
 call (.fn 136 []) [v6, x5] h fun v7 h =>
 pExt 0 v7 fun v8 =>
 pExt 1 v7 fun v9 =>
 pLenL v8 fun v10 =>
 pEql v10 (.int .i64 0) fun v11 =>
 fAnd v11 h (fun h k =>
 call (.fn 16 []) [v9] h fun v12 h =>
 pEql v12 (.int .i64 1100) fun v13 =>
 k v13 h) fun v14 h =>
 k v14 h) fun j5 =>
 pBin .and x0 (.int .i64 3) fun v15 =>
 pEql v15 (.int .i64 0) fun v16 =>
 fIf v16 (
 pFadr 0 v4 fun v17 =>
 fLoad1 v17 h fun v18 =>
 pIadr 2 v18 (.int .i64 0) fun v19 =>
 pFadr 0 v19 fun v20 =>
 fStore 1 v20 (.int .i64 1) h fun h =>
 j5 x0 x1 x2 v2 v4 (.int .i64 50) x6 x7 v3 v15 x10 x11 x12 h) (
 pEql v15 (.int .i64 1) fun v21 =>
 fIf v21 (
 pFadr 0 v4 fun v22 =>
 fStore 1 v22 .nils h fun h =>
 j5 x0 x1 x2 v2 v4 (.int .i64 50) x6 x7 v3 v15 x10 x11 x12 h) (
 pEql v15 (.int .i64 2) fun v23 =>
 fIf v23 (
 pNeg v2 fun v24 =>
 j5 x0 x1 x2 v2 v4 v24 x6 x7 v3 v15 x10 x11 x12 h) (
 pAdd (.int .i64 400) v2 fun v25 =>
 j5 x0 x1 x2 v2 v4 v25 x6 x7 v3 v15 x10 x11 x12 h)))) fun j0 =>
 call (.fn 141 []) [] h fun v26 h =>
 pNot v26 fun v27 =>
 fIf v27 (
 k (.bool false) h) (
 j0 (nth a 0) (nth a 1) (.bool false) (nth a 5) (nth a 6) (nth a 7) (nth a 8) (nth a 9) (nth a 15) (nth a 17) (nth a 33) (nth a 37) (nth a 38) h)

theorem e121_sleuthlaw11_NeedForms {β : Type} (I : FI) (N : Nat) (call : FCall β) (a : List AV) (h : H) (k : K β) : fBody I 121 T.s121_sleuthlaw11_NeedForms N call a h k = f121_sleuthlaw11_NeedForms N call a h k := by kernel_rfl

noncomputable def f122_sleuthlaw11_NeedTable {β : Type} (_ : Nat) (call : FCall β) (a : List AV) (h : H) (k : K β) : Option β :=
 fJoin 13 (fun x0 x1 _ _ _ x5 x6 x7 _ _ x10 x11 x12 h =>
 pBuild [(.int .i64 0), (.int .i64 0), .nils, (.str [])] [(1, 1)] [(.int .i64 (-1))] fun v1 =>
 fAlloc 0 [(.int .i64 0), (.int .i64 0), .nils, (.str [])] h fun v2 h =>
 fStore 4 v2 v1 h fun h =>
 fJoin 13 (fun _ _ x2 x3 x4 _ _ _ _ _ _ _ _ h =>
 fLoadN 4 x2 h fun v4 =>
 fBslice 0 [(.int .i64 0), (.int .i64 0), .nils, (.str [])] 1 [(0, 4)] [v4] h fun v5 h =>
 fApp 0 4 56 v5 x3 h fun v6 h =>
 call (.fn 144 []) [x4] h fun v7 h =>
 call (.fn 136 []) [v7, (.int .i64 80)] h fun v8 h =>
 pExt 0 v8 fun v9 =>
 pExt 1 v8 fun v10 =>
 call (.fn 16 []) [v10] h fun v11 h =>
 pEql v11 (.int .i64 0) fun v12 =>
 fAnd v12 h (fun h k =>
 call (.fn 138 []) [v9, v6] h fun v13 h =>
 k v13 h) fun v14 h =>
 fAnd v14 h (fun h k =>
 call (.fn 143 []) [] h fun v15 h =>
 pFld1 0 v15 fun v16 =>
 pLenL v16 fun v17 =>
 pEql v17 (.int .i64 2) fun v18 =>
 k v18 h) fun v19 h =>
 k v19 h) fun j3 =>
 pConv .u64 x0 fun v20 =>
 pBin .rem v20 (.int .u64 8) fun v21 =>
 pEql v21 (.int .u64 0) fun v22 =>
 fIf v22 (
 pFadr 3 v2 fun v23 =>
 fStore 1 v23 (.str [54]) h fun h =>
 fBslice 0 [(.str []), (.str [])] 2 [(0, 1), (1, 1)] [(.str [95]), (.str [54])] h fun v24 h =>
 pBuild [(.int .i64 0), (.int .i64 0), .nils, (.str [])] [(0, 1), (2, 1), (3, 1)] [(.int .i64 3), v24, (.str [54])] fun v25 =>
 fBslice 0 [(.int .i64 0), (.int .i64 0), .nils, (.str [])] 1 [(0, 4)] [v25] h fun v26 h =>
 j3 x0 x1 v2 v26 (.str [40, 102, 51, 32, 101, 114, 114, 111, 114, 32, 54, 41]) x5 x6 x7 v1 v21 x10 x11 x12 h) (
 pEql v21 (.int .u64 1) fun v27 =>
 fIf v27 (
 pFadr 3 v2 fun v28 =>
 fStore 1 v28 (.str [54]) h fun h =>
 fBslice 0 [(.str []), (.str [])] 2 [(0, 1), (1, 1)] [(.str [49]), (.str [50])] h fun v29 h =>
 pBuild [(.int .i64 0), (.int .i64 0), .nils, (.str [])] [(0, 1), (2, 1), (3, 1)] [(.int .i64 1), v29, (.str [51])] fun v30 =>
 fBslice 0 [(.int .i64 0), (.int .i64 0), .nils, (.str [])] 1 [(0, 4)] [v30] h fun v31 h =>
 j3 x0 x1 v2 v31 (.str [40, 108, 101, 116, 32, 40, 102, 49, 32, 49, 32, 50, 41, 32, 40, 43, 32, 36, 48, 32, 36, 48, 41, 41]) x5 x6 x7 v1 v21 x10 x11 x12 h) (
 pEql v21 (.int .u64 2) fun v32 =>
 fIf v32 (
 pFadr 3 v2 fun v33 =>
 fStore 1 v33 (.str [55]) h fun h =>
 fBslice 0 [(.str []), (.str [])] 2 [(0, 1), (1, 1)] [(.str [51]), (.str [52])] h fun v34 h =>
 pBuild [(.int .i64 0), (.int .i64 0), .nils, (.str [])] [(0, 1), (2, 1), (3, 1)] [(.int .i64 1), v34, (.str [55])] fun v35 =>
 fBslice 0 [(.str []), (.str [])] 2 [(0, 1), (1, 1)] [(.str [49]), (.str [50])] h fun v36 h =>
 pBuild [(.int .i64 0), (.int .i64 0), .nils, (.str [])] [(0, 1), (2, 1), (3, 1)] [(.int .i64 1), v36, (.str [51])] fun v37 =>
 fBslice 0 [(.int .i64 0), (.int .i64 0), .nils, (.str []), (.int .i64 0), (.int .i64 0), .nils, (.str [])] 2 [(0, 4), (4, 4)] [v35, v37] h fun v38 h =>
 j3 x0 x1 v2 v38 (.str [40, 102, 49, 32, 40, 102, 49, 32, 49, 32, 50, 41, 32, 52, 41]) x5 x6 x7 v1 v21 x10 x11 x12 h) (
 pEql v21 (.int .u64 3) fun v39 =>
 fIf v39 (
 pFadr 3 v2 fun v40 =>
 fStore 1 v40 (.str [64, 49, 40, 33, 32, 95, 41]) h fun h =>
 j3 x0 x1 v2 .nils (.str [40, 64, 49, 32, 40, 43, 32, 49, 32, 101, 114, 114, 111, 114, 41, 32, 40, 102, 49, 32, 49, 32, 50, 41, 41]) x5 x6 x7 v1 v21 x10 x11 x12 h) (
 pEql v21 (.int .u64 4) fun v41 =>
 fIf v41 (
 pFadr 3 v2 fun v42 =>
 fStore 1 v42 (.str [64, 49, 40, 51, 32, 51, 41]) h fun h =>
 fBslice 0 [(.str [])] 1 [(0, 1)] [(.str [51])] h fun v43 h =>
 pBuild [(.int .i64 0), (.int .i64 0), .nils, (.str [])] [(0, 1), (2, 1), (3, 1)] [(.int .i64 4), v43, (.str [64, 49, 40, 51, 32, 51, 41])] fun v44 =>
 fBslice 0 [(.str []), (.str [])] 2 [(0, 1), (1, 1)] [(.str [49]), (.str [50])] h fun v45 h =>
 pBuild [(.int .i64 0), (.int .i64 0), .nils, (.str [])] [(0, 1), (2, 1), (3, 1)] [(.int .i64 1), v45, (.str [51])] fun v46 =>
 fBslice 0 [(.int .i64 0), (.int .i64 0), .nils, (.str []), (.int .i64 0), (.int .i64 0), .nils, (.str [])] 2 [(0, 4), (4, 4)] [v44, v46] h fun v47 h =>
 j3 x0 x1 v2 v47 (.str [40, 102, 52, 32, 40, 102, 49, 32, 49, 32, 50, 41, 41]) x5 x6 x7 v1 v21 x10 x11 x12 h) (
 pEql v21 (.int .u64 5) fun v48 =>
 fIf v48 (
 pFadr 3 v2 fun v49 =>
 fStore 1 v49 (.str [33]) h fun h =>
 fBslice 0 [(.str []), (.str [])] 2 [(0, 1), (1, 1)] [(.str [64, 55, 40, 95, 32, 51, 41]), (.str [33])] h fun v50 h =>
 pBuild [(.int .i64 0), (.int .i64 0), .nils, (.str [])] [(0, 1), (2, 1), (3, 1)] [(.int .i64 1), v50, (.str [33])] fun v51 =>
 fBslice 0 [(.int .i64 0), (.int .i64 0), .nils, (.str [])] 1 [(0, 4)] [v51] h fun v52 h =>
 j3 x0 x1 v2 v52 (.str [40, 102, 49, 32, 40, 64, 55, 32, 40, 102, 49, 32, 49, 32, 49, 41, 32, 51, 41, 32, 101, 114, 114, 111, 114, 41]) x5 x6 x7 v1 v21 x10 x11 x12 h) (
 pEql v21 (.int .u64 6) fun v53 =>
 fIf v53 (
 pFadr 3 v2 fun v54 =>
 fStore 1 v54 (.str [53]) h fun h =>
 j3 x0 x1 v2 .nils (.str [40, 108, 101, 116, 32, 40, 102, 51, 32, 49, 32, 50, 41, 32, 53, 41]) x5 x6 x7 v1 v21 x10 x11 x12 h) (
 pFadr 3 v2 fun v55 =>
 fStore 1 v55 (.str [57]) h fun h =>
 fBslice 0 [(.str [])] 1 [(0, 1)] [(.str [95])] h fun v56 h =>
 pBuild [(.int .i64 0), (.int .i64 0), .nils, (.str [])] [(0, 1), (2, 1), (3, 1)] [(.int .i64 4), v56, (.str [64, 49, 40, 95, 32, 95, 41])] fun v57 =>
 fBslice 0 [(.str []), (.str [])] 2 [(0, 1), (1, 1)] [(.str [95]), (.str [57])] h fun v58 h =>
 pBuild [(.int .i64 0), (.int .i64 0), .nils, (.str [])] [(0, 1), (2, 1), (3, 1)] [(.int .i64 3), v58, (.str [57])] fun v59 =>
 fBslice 0 [(.int .i64 0), (.int .i64 0), .nils, (.str []), (.int .i64 0), (.int .i64 0), .nils, (.str [])] 2 [(0, 4), (4, 4)] [v57, v59] h fun v60 h =>
 j3 x0 x1 v2 v60 (.str [40, 99, 97, 115, 101, 32, 40, 102, 52, 32, 101, 114, 114, 111, 114, 41, 32, 64, 49, 32, 50, 32, 40, 102, 51, 32, 36, 48, 32, 57, 41, 32, 49, 41]) x5 x6 x7 v1 v21 x10 x11 x12 h)))))))) fun j0 =>
 call (.fn 141 []) [] h fun v61 h =>
 pNot v61 fun v62 =>
 fIf v62 (
 k (.bool false) h) (
 j0 (nth a 0) (.bool false) (nth a 3) (nth a 4) (nth a 5) (nth a 6) (nth a 7) (nth a 8) (nth a 11) (nth a 14) (nth a 66) (nth a 70) (nth a 71) h)

theorem e122_sleuthlaw11_NeedTable {β : Type} (I : FI) (N : Nat) (call : FCall β) (a : List AV) (h : H) (k : K β) : fBody I 122 T.s122_sleuthlaw11_NeedTable N call a h k = f122_sleuthlaw11_NeedTable N call a h k := by kernel_rfl

noncomputable def f127_sleuthlaw11_NeedOnce {β : Type} (N : Nat) (call : FCall β) (a : List AV) (h : H) (k : K β) : Option β :=
 fJoin 24 (fun x0 x1 x2 x3 _ _ _ _ _ x9 x10 x11 x12 x13 x14 _ _ x17 x18 x19 x20 x21 x22 x23 h =>
 pBin .and x0 (.int .i64 3) fun v1 =>
 pBin .and x1 (.int .i64 1023) fun v2 =>
 pBin .and x2 (.int .i64 1023) fun v3 =>
 fJoin 24 (fun _ _ _ _ x4 x5 x6 x7 _ _ _ _ _ _ _ _ _ _ _ _ _ _ _ _ h =>
 call (.fn 22 []) [x5] h fun v5 h =>
 pSAdd (.str [40, 108, 101, 116, 32, 40, 102, 49, 32]) v5 fun v6 =>
 pSAdd v6 (.str [32]) fun v7 =>
 call (.fn 22 []) [x6] h fun v8 h =>
 pSAdd v7 v8 fun v9 =>
 pSAdd v9 (.str [41, 32]) fun v10 =>
 pSAdd v10 x7 fun v11 =>
 pSAdd v11 (.str [41]) fun v12 =>
 call (.fn 144 []) [v12] h fun v13 h =>
 fAlloc 0 [.nils] h fun v14 h =>
 fStore 1 v14 v13 h fun h =>
 fLoadN 1 v14 h fun v15 =>
 call (.fn 136 []) [v15, (.int .i64 80)] h fun v16 h =>
 pExt 0 v16 fun v17 =>
 pExt 1 v16 fun v18 =>
 pAdd x5 x6 fun v19 =>
 pAdd x4 (.int .i64 1) fun v20 =>
 call (.fn 147 []) [(.int .i64 2), v19, v20] h fun v21 h =>
 pExt 0 v21 fun v22 =>
 pExt 1 v21 fun v23 =>
 call (.fn 22 []) [v22] h fun v24 h =>
 pBuild [(.int .i64 0), (.int .i64 0), .nils, (.str [])] [(1, 1), (3, 1)] [(.int .i64 (-1)), v24] fun v25 =>
 call (.fn 22 []) [x5] h fun v26 h =>
 call (.fn 22 []) [x6] h fun v27 h =>
 fBslice 0 [(.str []), (.str [])] 2 [(0, 1), (1, 1)] [v26, v27] h fun v28 h =>
 pAdd x5 x6 fun v29 =>
 call (.fn 22 []) [v29] h fun v30 h =>
 pBuild [(.int .i64 0), (.int .i64 0), .nils, (.str [])] [(0, 1), (2, 1), (3, 1)] [(.int .i64 1), v28, v30] fun v31 =>
 fBslice 0 [(.int .i64 0), (.int .i64 0), .nils, (.str []), (.int .i64 0), (.int .i64 0), .nils, (.str [])] 2 [(0, 4), (4, 4)] [v25, v31] h fun v32 h =>
 call (.fn 16 []) [v18] h fun v33 h =>
 pEql v33 (.int .i64 0) fun v34 =>
 fAnd v34 h (fun h k =>
 pEql v23 (.int .i64 0) fun v35 =>
 k v35 h) fun v36 h =>
 fAnd v36 h (fun h k =>
 call (.fn 138 []) [v17, v32] h fun v37 h =>
 k v37 h) fun v38 h =>
 k v38 h) fun j4 =>
 (fLoop 24 N fun l39 _ _ _ _ x4 x5 x6 x7 x8 _ _ _ _ _ _ _ _ _ _ _ _ _ _ _ h =>
 fJoin 24 (fun x0 x1 x2 x3 x4 x5 x6 x7 x8 x9 x10 x11 x12 x13 x14 x15 x16 x17 x18 x19 x20 x21 x22 x23 h =>
 fJoin 24 (fun x0 x1 x2 x3 x4 x5 x6 x7 x8 x9 x10 x11 x12 x13 x14 x15 x16 x17 x18 x19 x20 x21 x22 x23 h =>
 pAdd x8 (.int .i64 1) fun v42 =>
 l39 x0 x1 x2 x3 x4 x5 x6 x7 v42 x9 x10 x11 x12 x13 x14 x15 x16 x17 x18 x19 x20 x21 x22 x23 h) fun j41 =>
 pSAdd (.str [40, 43, 32]) x7 fun v43 =>
 pSAdd v43 (.str [32, 36, 48, 41]) fun v44 =>
 j41 x0 x1 x2 x3 x4 x5 x6 v44 x8 x9 x10 x11 x12 x13 x14 x15 x16 x17 x18 x19 x20 x21 x22 x23 h) fun j40 =>
 pLss x8 x4 fun v45 =>
 fIf v45 (
 j40 .any .any .any .any x4 x5 x6 x7 x8 .any .any .any .any .any .any .any .any .any .any .any .any .any .any .any h) (
 j4 .any .any .any .any x4 x5 x6 x7 x8 .any .any .any .any .any .any .any .any .any .any .any .any .any .any .any h)) x0 x1 x2 x3 v1 v2 v3 (.str [36, 48]) (.int .i64 0) x9 x10 x11 x12 x13 x14 v2 v3 x17 x18 x19 x20 x21 x22 x23 h) fun j0 =>
 call (.fn 141 []) [] h fun v46 h =>
 pNot v46 fun v47 =>
 fIf v47 (
 k (.bool false) h) (
 j0 (nth a 0) (nth a 1) (nth a 2) (.bool false) (nth a 7) (nth a 8) (nth a 9) (nth a 10) (nth a 11) (nth a 12) (nth a 13) (nth a 14) (nth a 15) (nth a 16) (nth a 17) (nth a 23) (nth a 25) (nth a 45) (nth a 46) (nth a 49) (nth a 50) (nth a 51) (nth a 58) (nth a 59) h)

theorem e127_sleuthlaw11_NeedOnce {β : Type} (I : FI) (N : Nat) (call : FCall β) (a : List AV) (h : H) (k : K β) : fBody I 127 T.s127_sleuthlaw11_NeedOnce N call a h k = f127_sleuthlaw11_NeedOnce N call a h k := by kernel_rfl

noncomputable def f128_sleuthlaw11_NeedLists {β : Type} (N : Nat) (call : FCall β) (a : List AV) (h : H) (k : K β) : Option β :=
 fJoin 17 (fun x0 x1 _ _ _ _ x6 x7 x8 x9 x10 x11 x12 x13 x14 x15 x16 h =>
 pBin .and x0 (.int .i64 7) fun v1 =>
 fJoin 17 (fun _ _ x2 x3 x4 _ _ _ _ _ _ _ _ _ _ _ _ h =>
 pSAdd (.str [40, 100, 101, 102, 32, 48, 32, 40, 102, 49, 32]) x3 fun v3 =>
 pSAdd v3 (.str [41, 41, 40, 100, 101, 102, 32, 49, 32, 40, 99, 97, 115, 101, 32, 36, 48, 32, 64, 50, 32, 50, 32, 40, 64, 50, 32, 40, 43, 32, 36, 49, 32, 36, 49, 41, 32, 40, 102, 49, 32, 36, 50, 41, 41, 32, 64, 48, 41, 41]) fun v4 =>
 call (.fn 148 []) [v4] h fun v5 h =>
 pExt 0 v5 fun v6 =>
 pExt 1 v5 fun v7 =>
 fAlloc 0 [.nils] h fun v8 h =>
 fStore 1 v8 v6 h fun h =>
 fLoadN 1 v8 h fun v9 =>
 call (.fn 136 []) [v9, (.int .i64 400)] h fun v10 h =>
 pExt 0 v10 fun v11 =>
 pExt 1 v10 fun v12 =>
 pEql v7 (.int .i64 0) fun v13 =>
 fAnd v13 h (fun h k =>
 call (.fn 16 []) [v12] h fun v14 h =>
 pEql v14 (.int .i64 0) fun v15 =>
 k v15 h) fun v16 h =>
 fAnd v16 h (fun h k =>
 pLenL v11 fun v17 =>
 pAdd x2 (.int .i64 2) fun v18 =>
 pEql v17 v18 fun v19 =>
 k v19 h) fun v20 h =>
 fAnd v20 h (fun h k =>
 pIadr 4 v11 (.int .i64 0) fun v21 =>
 pFadr 3 v21 fun v22 =>
 fLoad1 v22 h fun v23 =>
 pSEql v23 x4 fun v24 =>
 k v24 h) fun v25 h =>
 fAnd v25 h (fun h k =>
 pAdd x2 (.int .i64 1) fun v26 =>
 pIadr 4 v11 v26 fun v27 =>
 pFadr 3 v27 fun v28 =>
 fLoad1 v28 h fun v29 =>
 pSEql v29 (.str [64, 48]) fun v30 =>
 k v30 h) fun v31 h =>
 k v31 h) fun j2 =>
 (fLoop 17 N fun l32 _ _ x2 x3 x4 x5 _ _ _ _ _ _ _ _ _ _ _ h =>
 fJoin 17 (fun x0 x1 x2 x3 x4 x5 _ x7 x8 x9 x10 x11 x12 x13 x14 x15 x16 h =>
 fJoin 17 (fun x0 x1 x2 x3 x4 x5 x6 x7 x8 x9 x10 x11 x12 x13 x14 x15 x16 h =>
 pSub x5 (.int .i64 1) fun v35 =>
 l32 x0 x1 x2 x3 x4 v35 x6 x7 x8 x9 x10 x11 x12 x13 x14 x15 x16 h) fun j34 =>
 call (.fn 22 []) [x5] h fun v36 h =>
 pSAdd (.str [40, 64, 50, 32]) v36 fun v37 =>
 pSAdd v37 (.str [32]) fun v38 =>
 pSAdd v38 x3 fun v39 =>
 pSAdd v39 (.str [41]) fun v40 =>
 pMul (.int .i64 2) x5 fun v41 =>
 call (.fn 22 []) [v41] h fun v42 h =>
 pSAdd (.str [40]) v42 fun v43 =>
 pSAdd (.str [64, 50]) v43 fun v44 =>
 pSAdd v44 (.str [32]) fun v45 =>
 pSAdd v45 x4 fun v46 =>
 pSAdd v46 (.str [41]) fun v47 =>
 j34 x0 x1 x2 v40 v47 x5 v43 x7 x8 x9 x10 x11 x12 x13 x14 x15 x16 h) fun j33 =>
 pGtr x5 (.int .i64 0) fun v48 =>
 fIf v48 (
 j33 .any .any x2 x3 x4 x5 .any .any .any .any .any .any .any .any .any .any .any h) (
 j2 .any .any x2 x3 x4 x5 .any .any .any .any .any .any .any .any .any .any .any h)) x0 x1 v1 (.str [64, 48]) (.str [64, 48]) v1 x6 x7 x8 x9 x10 x11 x12 x13 x14 x15 x16 h) fun j0 =>
 call (.fn 141 []) [] h fun v49 h =>
 pNot v49 fun v50 =>
 fIf v50 (
 k (.bool false) h) (
 j0 (nth a 0) (.bool false) (nth a 3) (nth a 4) (nth a 5) (nth a 6) (nth a 7) (nth a 8) (nth a 9) (nth a 10) (nth a 11) (nth a 38) (nth a 43) (nth a 44) (nth a 45) (nth a 48) (nth a 49) h)

theorem e128_sleuthlaw11_NeedLists {β : Type} (I : FI) (N : Nat) (call : FCall β) (a : List AV) (h : H) (k : K β) : fBody I 128 T.s128_sleuthlaw11_NeedLists N call a h k = f128_sleuthlaw11_NeedLists N call a h k := by kernel_rfl

noncomputable def f136_need_Run {β : Type} (N : Nat) (call : FCall β) (a : List AV) (h : H) (k : K β) : Option β :=
 fBox 0 (nth a 0) h fun v0 h =>
 fJoin 12 (fun x0 x1 x2 x3 x4 _ x6 x7 x8 x9 x10 x11 h =>
 pFadr 0 x2 fun v2 =>
 fLoad1 v2 h fun v3 =>
 pBuild [.nils, (.int .i64 0), .nils, (.bool false)] [(0, 1), (1, 1)] [v3, x1] fun v4 =>
 fBox 0 v4 h fun v5 h =>
 fJoin 12 (fun x0 x1 x2 x3 x4 x5 x6 x7 x8 x9 x10 x11 h =>
 fJoin 12 (fun x0 x1 x2 x3 x4 x5 _ x7 _ _ _ x11 h =>
 fJoin 12 (fun _ _ _ _ _ _ x6 _ _ _ _ _ h =>
 k (.tup [x6, (.int .i64 0)]) h) fun j8 =>
 fNil x5 fun v9 =>
 pFadr 2 v9 fun v10 =>
 fLoad1 v10 h fun v11 =>
 pLenL v11 fun v12 =>
 (fLoop 12 N fun l13 _ _ _ _ _ _ x6 _ x8 x9 x10 _ h =>
 pLss x10 x9 fun v14 =>
 fJoin 12 (fun x0 x1 x2 x3 x4 x5 x6 _ x8 x9 x10 x11 h =>
 fJoin 12 (fun x0 x1 x2 x3 x4 x5 x6 x7 x8 x9 x10 x11 h =>
 pAdd x10 (.int .i64 1) fun v17 =>
 l13 x0 x1 x2 x3 x4 x5 x6 x7 x8 x9 v17 x11 h) fun j16 =>
 pIadr 1 x8 x10 fun v18 =>
 fLoad1 v18 h fun v19 =>
 fJoin 12 (fun x0 x1 x2 x3 x4 x5 x6 x7 x8 x9 x10 x11 h =>
 fNil x7 fun v21 =>
 pFadr 0 v21 fun v22 =>
 fLoad1 v22 h fun v23 =>
 fNil x7 fun v24 =>
 pFadr 1 v24 fun v25 =>
 fLoad1 v25 h fun v26 =>
 fNil x7 fun v27 =>
 pFadr 2 v27 fun v28 =>
 fLoad1 v28 h fun v29 =>
 fNil x7 fun v30 =>
 pFadr 3 v30 fun v31 =>
 fLoad1 v31 h fun v32 =>
 call (.fn 161 []) [v29] h fun v33 h =>
 fLoad1 v31 h fun v34 =>
 fChk v34 v32 (
 fLoad1 v25 h fun v35 =>
 fChk v35 v26 (
 fLoad1 v22 h fun v36 =>
 fChk v36 v23 (
 call (.fn 162 []) [v32] h fun v37 h =>
 fLoad1 v25 h fun v38 =>
 fChk v38 v26 (
 fLoad1 v22 h fun v39 =>
 fChk v39 v23 (
 pBuild [(.int .i64 0), (.int .i64 0), .nils, (.str [])] [(0, 1), (1, 1), (2, 1), (3, 1)] [v23, v26, v33, v37] fun v40 =>
 fBslice 0 [(.int .i64 0), (.int .i64 0), .nils, (.str [])] 1 [(0, 4)] [v40] h fun v41 h =>
 fApp 0 4 56 x6 v41 h fun v42 h =>
 j16 x0 x1 x2 x3 x4 x5 v42 x7 x8 x9 x10 x11 h)))))) fun j20 =>
 call (.fn 160 []) [v19] h fun v43 h =>
 fIf v43 (
 k (.tup [.nils, (.int .i64 1102)]) h) (
 j20 x0 x1 x2 x3 x4 x5 x6 v19 x8 x9 x10 x11 h)) fun j15 =>
 fIf v14 (
 j15 .any .any .any .any .any .any x6 .any x8 x9 x10 v14 h) (
 j8 .any .any .any .any .any .any x6 .any x8 x9 x10 v14 h)) x0 x1 x2 x3 x4 x5 .nils x7 v11 v12 (.int .i64 0) x11 h) fun j7 =>
 fNil x5 fun v44 =>
 pFadr 3 v44 fun v45 =>
 fLoad1 v45 h fun v46 =>
 fIf v46 (
 k (.tup [.nils, (.int .i64 1101)]) h) (
 j7 x0 x1 x2 x3 x4 x5 x6 x7 x8 x9 x10 x11 h)) fun j6 =>
 call (.fn 158 []) [v5, (.int .i64 0), (.int .i64 (-1)), .nils] h fun _ h =>
 fNil v5 fun v48 =>
 pFadr 3 v48 fun v49 =>
 fLoad1 v49 h fun v50 =>
 pNot v50 fun v51 =>
 fIf v51 (
 fNil v5 fun v52 =>
 pFadr 2 v52 fun v53 =>
 fLoad1 v53 h fun v54 =>
 pIadr 1 v54 (.int .i64 0) fun v55 =>
 fLoad1 v55 h fun v56 =>
 fNil v56 fun v57 =>
 pFadr 3 v57 fun v58 =>
 fLoad1 v58 h fun v59 =>
 call (.fn 159 []) [v5, v59] h fun _ h =>
 j6 x0 x1 x2 x3 x4 v5 x6 x7 x8 x9 x10 x11 h) (
 j6 x0 x1 x2 x3 x4 v5 x6 x7 x8 x9 x10 x11 h)) fun j1 =>
 fLoadN 1 v0 h fun v61 =>
 call (.fn 157 []) [v61] h fun v62 h =>
 pNot v62 fun v63 =>
 fOr v63 h (fun h k =>
 pLss (nth a 1) (.int .i64 0) fun v64 =>
 k v64 h) fun v65 h =>
 fOr v65 h (fun h k =>
 pGtr (nth a 1) (.int .i64 400) fun v66 =>
 k v66 h) fun v67 h =>
 fIf v67 (
 k (.tup [.nils, (.int .i64 1100)]) h) (
 j1 (nth a 0) (nth a 1) v0 .nils (.int .i64 0) (nth a 6) (nth a 7) (nth a 9) (nth a 51) (nth a 52) (nth a 53) (nth a 54) h)

theorem e136_need_Run {β : Type} (I : FI) (N : Nat) (call : FCall β) (a : List AV) (h : H) (k : K β) : fBody I 136 T.s136_need_Run N call a h k = f136_need_Run N call a h k := by kernel_rfl

noncomputable def f138_sleuthlaw0_SameNodes {β : Type} (N : Nat) (call : FCall β) (a : List AV) (h : H) (k : K β) : Option β :=
 fJoin 5 (fun x0 x1 x2 _ x4 h =>
 fJoin 5 (fun _ _ _ _ _ h =>
 k (.bool true) h) fun j1 =>
 (fLoop 5 N fun l2 x0 x1 _ x3 _ h =>
 fJoin 5 (fun x0 x1 x2 x3 _ h =>
 fJoin 5 (fun x0 x1 x2 x3 x4 h =>
 pAdd x3 (.int .i64 1) fun v5 =>
 l2 x0 x1 x2 v5 x4 h) fun j4 =>
 pIadr 4 x0 x3 fun v6 =>
 fLoadN 4 v6 h fun v7 =>
 pIadr 4 x1 x3 fun v8 =>
 fLoadN 4 v8 h fun v9 =>
 call (.fn 166 []) [v7, v9] h fun v10 h =>
 pNot v10 fun v11 =>
 fIf v11 (
 k (.bool false) h) (
 j4 x0 x1 x2 x3 v11 h)) fun j3 =>
 pLenL x0 fun v12 =>
 pLss x3 v12 fun v13 =>
 fIf v13 (
 j3 x0 x1 .any x3 .any h) (
 j1 x0 x1 .any x3 .any h)) x0 x1 x2 (.int .i64 0) x4 h) fun j0 =>
 pLenL (nth a 0) fun v14 =>
 pLenL (nth a 1) fun v15 =>
 pNeq v14 v15 fun v16 =>
 fIf v16 (
 k (.bool false) h) (
 j0 (nth a 0) (nth a 1) (.bool false) (nth a 5) (nth a 26) h)

theorem e138_sleuthlaw0_SameNodes {β : Type} (I : FI) (N : Nat) (call : FCall β) (a : List AV) (h : H) (k : K β) : fBody I 138 T.s138_sleuthlaw0_SameNodes N call a h k = f138_sleuthlaw0_SameNodes N call a h k := by kernel_rfl

noncomputable def f141_sleuthlaw11_awake {β : Type} (_ : Nat) (call : FCall β) (_ : List AV) (h : H) (k : K β) : Option β :=
 call (.fn 143 []) [] h fun v0 h =>
 call (.fn 136 []) [v0, (.int .i64 50)] h fun v1 h =>
 pExt 0 v1 fun v2 =>
 pExt 1 v1 fun v3 =>
 call (.fn 143 []) [] h fun v4 h =>
 call (.fn 136 []) [v4, (.int .i64 3)] h fun v5 h =>
 pExt 0 v5 fun _ =>
 pExt 1 v5 fun v7 =>
 pBuild [.nils] [] [] fun v8 =>
 call (.fn 136 []) [v8, (.int .i64 50)] h fun v9 h =>
 pExt 0 v9 fun _ =>
 pExt 1 v9 fun v11 =>
 call (.fn 143 []) [] h fun v12 h =>
 call (.fn 136 []) [v12, (.int .i64 (-1))] h fun v13 h =>
 pExt 0 v13 fun _ =>
 pExt 1 v13 fun v15 =>
 pBuild [(.int .i64 0), (.int .i64 0), .nils, (.str [])] [(1, 1), (3, 1)] [(.int .i64 (-1)), (.str [57])] fun v16 =>
 fBslice 0 [(.str []), (.str [])] 2 [(0, 1), (1, 1)] [(.str [64, 55, 40, 95, 32, 52, 41]), (.str [53])] h fun v17 h =>
 pBuild [(.int .i64 0), (.int .i64 0), .nils, (.str [])] [(0, 1), (2, 1), (3, 1)] [(.int .i64 1), v17, (.str [57])] fun v18 =>
 fBslice 0 [(.int .i64 0), (.int .i64 0), .nils, (.str []), (.int .i64 0), (.int .i64 0), .nils, (.str [])] 2 [(0, 4), (4, 4)] [v16, v18] h fun v19 h =>
 call (.fn 138 []) [v2, v19] h fun v20 h =>
 fAnd v20 h (fun h k =>
 call (.fn 16 []) [v3] h fun v21 h =>
 pEql v21 (.int .i64 0) fun v22 =>
 k v22 h) fun v23 h =>
 fAnd v23 h (fun h k =>
 call (.fn 16 []) [v7] h fun v24 h =>
 pEql v24 (.int .i64 1101) fun v25 =>
 k v25 h) fun v26 h =>
 fAnd v26 h (fun h k =>
 call (.fn 16 []) [v11] h fun v27 h =>
 pEql v27 (.int .i64 1100) fun v28 =>
 k v28 h) fun v29 h =>
 fAnd v29 h (fun h k =>
 call (.fn 16 []) [v15] h fun v30 h =>
 pEql v30 (.int .i64 1100) fun v31 =>
 k v31 h) fun v32 h =>
 k v32 h

theorem e141_sleuthlaw11_awake {β : Type} (I : FI) (N : Nat) (call : FCall β) (a : List AV) (h : H) (k : K β) : fBody I 141 T.s141_sleuthlaw11_awake N call a h k = f141_sleuthlaw11_awake N call a h k := by kernel_rfl

noncomputable def f143_sleuthlaw11_small {β : Type} (_ : Nat) (call : FCall β) (_ : List AV) (h : H) (k : K β) : Option β :=
 fAlloc 0 [.nils] h fun v0 h =>
 pBuild [(.int .i64 0), (.int .i64 0), (.int .i64 0), .nils] [(0, 1)] [(.int .i64 7)] fun v1 =>
 pBuild [(.int .i64 0), (.int .i64 0), (.int .i64 0), .nils] [(1, 1)] [(.int .i64 4)] fun v2 =>
 fBslice 0 [(.int .i64 0), (.int .i64 0)] 2 [(0, 1), (1, 1)] [(.int .i64 0), (.int .i64 1)] h fun v3 h =>
 pBuild [(.int .i64 0), (.int .i64 0), (.int .i64 0), .nils] [(0, 1), (1, 1), (3, 1)] [(.int .i64 3), (.int .i64 7), v3] fun v4 =>
 pBuild [(.int .i64 0), (.int .i64 0), (.int .i64 0), .nils] [(1, 1)] [(.int .i64 5)] fun v5 =>
 fBslice 0 [(.int .i64 0), (.int .i64 0)] 2 [(0, 1), (1, 1)] [(.int .i64 2), (.int .i64 3)] h fun v6 h =>
 pBuild [(.int .i64 0), (.int .i64 0), (.int .i64 0), .nils] [(0, 1), (1, 1), (3, 1)] [(.int .i64 2), (.int .i64 1), v6] fun v7 =>
 fBslice 0 [(.int .i64 0), (.int .i64 0), (.int .i64 0), .nils, (.int .i64 0), (.int .i64 0), (.int .i64 0), .nils, (.int .i64 0), (.int .i64 0), (.int .i64 0), .nils, (.int .i64 0), (.int .i64 0), (.int .i64 0), .nils, (.int .i64 0), (.int .i64 0), (.int .i64 0), .nils] 5 [(0, 4), (4, 4), (8, 4), (12, 4), (16, 4)] [v1, v2, v4, v5, v7] h fun v8 h =>
 pBuild [(.int .i64 0), .nils] [(1, 1)] [v8] fun v9 =>
 fAlloc 0 [(.int .i64 0), .nils] h fun v10 h =>
 fStore 2 v10 v9 h fun h =>
 fLoadN 2 v10 h fun v11 =>
 call (.fn 171 []) [] h fun v12 h =>
 fLoadN 2 v10 h fun v13 =>
 fChk v13 v11 (
 fBslice 0 [(.int .i64 0), .nils, (.int .i64 0), .nils] 2 [(0, 2), (2, 2)] [v11, v12] h fun v14 h =>
 pBuild [.nils] [(0, 1)] [v14] fun v15 =>
 fStore 1 v0 v15 h fun h =>
 fLoadN 1 v0 h fun v16 =>
 k v16 h)

theorem e143_sleuthlaw11_small {β : Type} (I : FI) (N : Nat) (call : FCall β) (a : List AV) (h : H) (k : K β) : fBody I 143 T.s143_sleuthlaw11_small N call a h k = f143_sleuthlaw11_small N call a h k := by kernel_rfl

noncomputable def f144_sleuthlaw11_texts {β : Type} (_ : Nat) (call : FCall β) (a : List AV) (h : H) (k : K β) : Option β :=
 fAlloc 0 [.nils] h fun v0 h =>
 pSAdd (.str [40, 100, 101, 102, 32, 48, 32]) (nth a 0) fun v1 =>
 pSAdd v1 (.str [41, 10, 40, 100, 101, 102, 32, 50, 32, 40, 99, 97, 115, 101, 32, 36, 48, 32, 64, 55, 32, 50, 32, 40, 43, 32, 36, 51, 32, 36, 49, 41, 32, 40, 43, 32, 36, 48, 32, 36, 49, 41, 41, 41, 10, 40, 100, 101, 102, 32, 49, 32, 40, 102, 50, 32, 36, 48, 41, 41, 10, 40, 100, 101, 102, 32, 50, 32, 36, 49, 41, 10, 40, 100, 101, 102, 32, 49, 32, 40, 64, 49, 32, 36, 48, 32, 36, 48, 41, 41, 10]) fun v2 =>
 call (.fn 148 []) [v2] h fun v3 h =>
 pExt 0 v3 fun v4 =>
 pExt 1 v3 fun _ =>
 fAlloc 0 [.nils] h fun v6 h =>
 fStore 1 v6 v4 h fun h =>
 fLoadN 1 v6 h fun v7 =>
 fStore 1 v0 v7 h fun h =>
 fLoadN 1 v0 h fun v8 =>
 k v8 h

theorem e144_sleuthlaw11_texts {β : Type} (I : FI) (N : Nat) (call : FCall β) (a : List AV) (h : H) (k : K β) : fBody I 144 T.s144_sleuthlaw11_texts N call a h k = f144_sleuthlaw11_texts N call a h k := by kernel_rfl

noncomputable def f147_sleuthref1_Prim {β : Type} (_ : Nat) (call : FCall β) (a : List AV) (h : H) (k : K β) : Option β :=
 fJoin 7 (fun x0 x1 x2 x3 x4 _ _ h =>
 fJoin 7 (fun _ _ _ _ _ x5 _ h =>
 pBin .and x5 (.int .i64 65535) fun v2 =>
 pConv .u16 v2 fun v3 =>
 pConv .i16 v3 fun v4 =>
 pConv .i64 v4 fun v5 =>
 k (.tup [v5, (.int .i64 0)]) h) fun j1 =>
 pEql x0 (.int .i64 0) fun v6 =>
 fIf v6 (
 pAdd x1 x2 fun v7 =>
 j1 x0 x1 x2 x3 x4 v7 x0 h) (
 pEql x0 (.int .i64 1) fun v8 =>
 fIf v8 (
 pSub x1 x2 fun v9 =>
 j1 x0 x1 x2 x3 x4 v9 x0 h) (
 pEql x0 (.int .i64 2) fun v10 =>
 fIf v10 (
 pMul x1 x2 fun v11 =>
 j1 x0 x1 x2 x3 x4 v11 x0 h) (
 pEql x0 (.int .i64 3) fun v12 =>
 fIf v12 (
 pEql x1 x2 fun v13 =>
 call (.fn 174 []) [v13] h fun v14 h =>
 j1 x0 x1 x2 x3 x4 v14 x0 h) (
 pLss x1 x2 fun v15 =>
 call (.fn 174 []) [v15] h fun v16 h =>
 j1 x0 x1 x2 x3 x4 v16 x0 h))))) fun j0 =>
 call (.fn 30 []) [(nth a 0), (.int .i64 0), (.int .i64 4)] h fun v17 h =>
 pNot v17 fun v18 =>
 fOr v18 h (fun h k =>
 call (.fn 41 []) [(nth a 1)] h fun v19 h =>
 pNot v19 fun v20 =>
 k v20 h) fun v21 h =>
 fOr v21 h (fun h k =>
 call (.fn 41 []) [(nth a 2)] h fun v22 h =>
 pNot v22 fun v23 =>
 k v23 h) fun v24 h =>
 fIf v24 (
 k (.tup [(.int .i64 0), (.int .i64 100)]) h) (
 j0 (nth a 0) (nth a 1) (nth a 2) (.int .i64 0) (.int .i64 0) (nth a 8) (nth a 22) h)

theorem e147_sleuthref1_Prim {β : Type} (I : FI) (N : Nat) (call : FCall β) (a : List AV) (h : H) (k : K β) : fBody I 147 T.s147_sleuthref1_Prim N call a h k = f147_sleuthref1_Prim N call a h k := by kernel_rfl

noncomputable def f148_sleuthref1_Parse {β : Type} (N : Nat) (call : FCall β) (a : List AV) (h : H) (k : K β) : Option β :=
 fAlloc 0 [.nils] h fun v0 h =>
 call (.fn 175 []) [(nth a 0)] h fun v1 h =>
 pExt 0 v1 fun v2 =>
 pExt 1 v1 fun v3 =>
 fJoin 12 (fun x0 x1 x2 x3 x4 _ _ x7 x8 x9 x10 x11 h =>
 pBuild [.nils, (.bool false), .nils] [(0, 1)] [x3] fun v5 =>
 fBox 0 v5 h fun v6 h =>
 fAlloc 0 [.nils] h fun v7 h =>
 fJoin 12 (fun x0 x1 x2 x3 x4 x5 x6 x7 x8 x9 x10 x11 h =>
 fJoin 12 (fun _ x1 _ _ _ _ x6 _ _ _ _ _ h =>
 fLoadN 1 x6 h fun v10 =>
 fStore 1 x1 v10 h fun h =>
 fLoadN 1 x1 h fun v11 =>
 k (.tup [v11, (.int .i64 0)]) h) fun j9 =>
 fNil x5 fun v12 =>
 pFadr 1 v12 fun v13 =>
 fLoad1 v13 h fun v14 =>
 fOr v14 h (fun h k =>
 fLoadN 1 x6 h fun v15 =>
 call (.fn 149 []) [v15] h fun v16 h =>
 pNot v16 fun v17 =>
 k v17 h) fun v18 h =>
 fIf v18 (
 pBuild [.nils] [] [] fun v19 =>
 fStore 1 x1 v19 h fun h =>
 fLoadN 1 x1 h fun v20 =>
 k (.tup [v20, (.int .i64 700)]) h) (
 j9 x0 x1 x2 x3 x4 x5 x6 x7 x8 x9 x10 x11 h)) fun j8 =>
 (fLoop 12 N fun l21 _ x1 _ _ _ x5 x6 _ _ _ _ _ h =>
 fJoin 12 (fun x0 x1 x2 x3 x4 x5 x6 _ _ x9 x10 x11 h =>
 fNil x5 fun v23 =>
 pFadr 2 v23 fun v24 =>
 fStore 1 v24 .nils h fun h =>
 call (.fn 176 []) [x5] h fun v25 h =>
 pSEql v25 (.str [40]) fun v26 =>
 fAnd v26 h (fun h k =>
 call (.fn 176 []) [x5] h fun v27 h =>
 pSEql v27 (.str [100, 101, 102]) fun v28 =>
 k v28 h) fun v29 h =>
 call (.fn 176 []) [x5] h fun v30 h =>
 call (.fn 177 []) [x5, v30, (.int .i64 3)] h fun v31 h =>
 call (.fn 178 []) [x5] h fun _ h =>
 fJoin 12 (fun x0 x1 x2 x3 x4 x5 x6 x7 x8 x9 x10 x11 h =>
 pFadr 0 x6 fun v34 =>
 fLoad1 v34 h fun v35 =>
 fNil x5 fun v36 =>
 pFadr 2 v36 fun v37 =>
 fLoad1 v37 h fun v38 =>
 pBuild [(.int .i64 0), .nils] [(0, 1), (1, 1)] [x8, v38] fun v39 =>
 fBslice 0 [(.int .i64 0), .nils] 1 [(0, 2)] [v39] h fun v40 h =>
 fLoad1 v34 h fun v41 =>
 fChk v41 v35 (
 fApp 0 2 32 v35 v40 h fun v42 h =>
 pFadr 0 x6 fun v43 =>
 fStore 1 v43 v42 h fun h =>
 l21 x0 x1 x2 x3 x4 x5 x6 x7 x8 x9 x10 x11 h)) fun j33 =>
 pNot v29 fun v44 =>
 fOr v44 h (fun h k =>
 call (.fn 176 []) [x5] h fun v45 h =>
 pSNeq v45 (.str [41]) fun v46 =>
 k v46 h) fun v47 h =>
 fIf v47 (
 fNil x5 fun v48 =>
 pFadr 1 v48 fun v49 =>
 fStore 1 v49 (.bool true) h fun h =>
 j33 x0 x1 x2 x3 x4 x5 x6 v29 v31 x9 x10 x11 h) (
 j33 x0 x1 x2 x3 x4 x5 x6 v29 v31 x9 x10 x11 h)) fun j22 =>
 fNil x5 fun v50 =>
 pFadr 0 v50 fun v51 =>
 fLoad1 v51 h fun v52 =>
 pLenL v52 fun v53 =>
 pGtr v53 (.int .i64 0) fun v54 =>
 fAnd v54 h (fun h k =>
 fNil x5 fun v55 =>
 pFadr 1 v55 fun v56 =>
 fLoad1 v56 h fun v57 =>
 pNot v57 fun v58 =>
 k v58 h) fun v59 h =>
 fAnd v59 h (fun h k =>
 pFadr 0 x6 fun v60 =>
 fLoad1 v60 h fun v61 =>
 pLenL v61 fun v62 =>
 pLeq v62 (.int .i64 8) fun v63 =>
 k v63 h) fun v64 h =>
 fIf v64 (
 j22 .any x1 .any .any .any x5 x6 .any .any .any .any .any h) (
 j8 .any x1 .any .any .any x5 x6 .any .any .any .any .any h)) x0 x1 x2 x3 x4 v6 v7 x7 x8 x9 x10 x11 h) fun j4 =>
 pNeq v3 (.int .i64 0) fun v65 =>
 fIf v65 (
 pBuild [.nils] [] [] fun v66 =>
 fStore 1 v0 v66 h fun h =>
 fLoadN 1 v0 h fun v67 =>
 k (.tup [v67, (.int .i64 700)]) h) (
 j4 (nth a 0) v0 (.int .i64 0) v2 v3 (nth a 6) (nth a 7) (nth a 8) (nth a 9) v1 v2 v3 h)

theorem e148_sleuthref1_Parse {β : Type} (I : FI) (N : Nat) (call : FCall β) (a : List AV) (h : H) (k : K β) : fBody I 148 T.s148_sleuthref1_Parse N call a h k = f148_sleuthref1_Parse N call a h k := by kernel_rfl

noncomputable def f149_sleuthref1_ProgramMay {β : Type} (N : Nat) (call : FCall β) (a : List AV) (h : H) (k : K β) : Option β :=
 fBox 0 (nth a 0) h fun v0 h =>
 fJoin 8 (fun x0 x1 x2 _ x4 x5 x6 x7 h =>
 fJoin 8 (fun _ _ _ _ _ _ _ _ h =>
 k (.bool true) h) fun j2 =>
 (fLoop 8 N fun l3 _ x1 _ x3 _ _ _ _ h =>
 fJoin 8 (fun x0 x1 x2 x3 x4 x5 x6 x7 h =>
 fJoin 8 (fun x0 x1 x2 x3 x4 x5 x6 x7 h =>
 pAdd x3 (.int .i64 1) fun v6 =>
 l3 x0 x1 x2 v6 x4 x5 x6 x7 h) fun j5 =>
 fJoin 8 (fun x0 x1 x2 x3 _ x5 x6 x7 h =>
 (fLoop 8 N fun l8 _ x1 _ x3 x4 _ _ _ h =>
 fJoin 8 (fun x0 x1 x2 x3 x4 _ _ _ h =>
 fJoin 8 (fun x0 x1 x2 x3 x4 x5 x6 x7 h =>
 pAdd x4 (.int .i64 1) fun v11 =>
 l8 x0 x1 x2 x3 v11 x5 x6 x7 h) fun j10 =>
 pFadr 0 x1 fun v12 =>
 fLoad1 v12 h fun v13 =>
 pIadr 2 v13 x3 fun v14 =>
 pFadr 1 v14 fun v15 =>
 fLoad1 v15 h fun v16 =>
 pIadr 4 v16 x4 fun v17 =>
 fLoadN 4 v17 h fun v18 =>
 fAlloc 0 [(.int .i64 0), (.int .i64 0), (.int .i64 0), .nils] h fun v19 h =>
 fStore 4 v19 v18 h fun h =>
 pFadr 0 v19 fun v20 =>
 fLoad1 v20 h fun v21 =>
 pEql v21 (.int .i64 2) fun v22 =>
 fGrd v22 true h (fun h k =>
 pFadr 1 v19 fun v23 =>
 k v23 h) fun v24 h =>
 fGrd v22 true h (fun h k =>
 fLoad1 v24 h fun v25 =>
 k v25 h) fun v26 h =>
 fGrd v22 true h (fun h k =>
 pFadr 0 x1 fun v27 =>
 k v27 h) fun v28 h =>
 fGrd v22 true h (fun h k =>
 fLoad1 v28 h fun v29 =>
 k v29 h) fun v30 h =>
 fGrd v22 true h (fun h k =>
 pLenL v30 fun v31 =>
 k v31 h) fun v32 h =>
 fGrd v22 true h (fun h k =>
 pGeq v26 v32 fun v33 =>
 k v33 h) fun v34 h =>
 fGrd v22 true h (fun h k =>
 k v34 h) fun v35 h =>
 fGrd v35 false h (fun h k =>
 pFadr 3 v19 fun v36 =>
 k v36 h) fun v37 h =>
 fGrd v35 false h (fun h k =>
 fLoad1 v37 h fun v38 =>
 k v38 h) fun v39 h =>
 fGrd v35 false h (fun h k =>
 pLenL v39 fun v40 =>
 k v40 h) fun v41 h =>
 fGrd v35 false h (fun h k =>
 pFadr 0 x1 fun v42 =>
 k v42 h) fun v43 h =>
 fGrd v35 false h (fun h k =>
 fLoad1 v43 h fun v44 =>
 k v44 h) fun v45 h =>
 fGrd v35 false h (fun h k =>
 pFadr 1 v19 fun v46 =>
 k v46 h) fun v47 h =>
 fGrd v35 false h (fun h k =>
 fLoad1 v47 h fun v48 =>
 k v48 h) fun v49 h =>
 fGrd v35 false h (fun h k =>
 pIadr 2 v45 v49 fun v50 =>
 k v50 h) fun v51 h =>
 fGrd v35 false h (fun h k =>
 pFadr 0 v51 fun v52 =>
 k v52 h) fun v53 h =>
 fGrd v35 false h (fun h k =>
 fLoad1 v53 h fun v54 =>
 k v54 h) fun v55 h =>
 fGrd v35 false h (fun h k =>
 pNeq v41 v55 fun v56 =>
 k v56 h) fun v57 h =>
 fGrd v22 true h (fun h k =>
 pPick v35 (.bool true) v57 fun v58 =>
 k v58 h) fun v59 h =>
 pPick v22 v59 (.bool false) fun v60 =>
 fIf v60 (
 k (.bool false) h) (
 j10 x0 x1 x2 x3 x4 v19 v18 v60 h)) fun j9 =>
 pFadr 0 x1 fun v61 =>
 fLoad1 v61 h fun v62 =>
 pIadr 2 v62 x3 fun v63 =>
 pFadr 1 v63 fun v64 =>
 fLoad1 v64 h fun v65 =>
 pLenL v65 fun v66 =>
 pLss x4 v66 fun v67 =>
 fIf v67 (
 j9 .any x1 .any x3 x4 .any .any .any h) (
 j5 .any x1 .any x3 x4 .any .any .any h)) x0 x1 x2 x3 (.int .i64 0) x5 x6 x7 h) fun j7 =>
 pFadr 0 x1 fun v68 =>
 fLoad1 v68 h fun v69 =>
 pIadr 2 v69 x3 fun v70 =>
 fLoadN 2 v70 h fun v71 =>
 call (.fn 179 []) [v71] h fun v72 h =>
 pNot v72 fun v73 =>
 fIf v73 (
 k (.bool false) h) (
 j7 x0 x1 x2 x3 x4 x5 x6 x7 h)) fun j4 =>
 pFadr 0 x1 fun v74 =>
 fLoad1 v74 h fun v75 =>
 pLenL v75 fun v76 =>
 pLss x3 v76 fun v77 =>
 fIf v77 (
 j4 .any x1 .any x3 .any .any .any .any h) (
 j2 .any x1 .any x3 .any .any .any .any h)) x0 x1 x2 (.int .i64 0) x4 x5 x6 x7 h) fun j1 =>
 pFadr 0 v0 fun v78 =>
 fLoad1 v78 h fun v79 =>
 pLenL v79 fun v80 =>
 call (.fn 30 []) [v80, (.int .i64 1), (.int .i64 8)] h fun v81 h =>
 pNot v81 fun v82 =>
 fOr v82 h (fun h k =>
 pFadr 0 v0 fun v83 =>
 fLoad1 v83 h fun v84 =>
 pIadr 2 v84 (.int .i64 0) fun v85 =>
 pFadr 0 v85 fun v86 =>
 fLoad1 v86 h fun v87 =>
 pNeq v87 (.int .i64 0) fun v88 =>
 k v88 h) fun v89 h =>
 fIf v89 (
 k (.bool false) h) (
 j1 (nth a 0) v0 (.bool false) (nth a 3) (nth a 4) (nth a 5) (nth a 52) (nth a 76) h)

theorem e149_sleuthref1_ProgramMay {β : Type} (I : FI) (N : Nat) (call : FCall β) (a : List AV) (h : H) (k : K β) : fBody I 149 T.s149_sleuthref1_ProgramMay N call a h k = f149_sleuthref1_ProgramMay N call a h k := by kernel_rfl

noncomputable def f157_program_May {β : Type} (N : Nat) (call : FCall β) (a : List AV) (h : H) (k : K β) : Option β :=
 fBox 0 (nth a 0) h fun v0 h =>
 fJoin 10 (fun x0 x1 x2 _ x4 _ _ _ x8 x9 h =>
 fJoin 10 (fun _ _ _ _ _ _ _ _ _ _ h =>
 k (.bool true) h) fun j2 =>
 pFadr 0 x1 fun v3 =>
 fLoad1 v3 h fun v4 =>
 pLenL v4 fun v5 =>
 (fLoop 10 N fun l6 _ _ _ x3 _ x5 x6 x7 _ _ h =>
 pLss x7 x6 fun v7 =>
 fJoin 10 (fun x0 x1 x2 x3 _ x5 x6 x7 x8 _ h =>
 fJoin 10 (fun x0 x1 x2 x3 x4 x5 x6 x7 x8 x9 h =>
 pAdd x7 (.int .i64 1) fun v10 =>
 l6 x0 x1 x2 x3 x4 x5 x6 v10 x8 x9 h) fun j9 =>
 pIadr 2 x5 x7 fun v11 =>
 fLoadN 2 v11 h fun v12 =>
 fAlloc 0 [(.int .i64 0), .nils] h fun v13 h =>
 fStore 2 v13 v12 h fun h =>
 fLoadN 2 v13 h fun v14 =>
 call (.fn 187 []) [v14] h fun v15 h =>
 pNot v15 fun v16 =>
 fOr v16 h (fun h k =>
 pFadr 1 v13 fun v17 =>
 fLoad1 v17 h fun v18 =>
 call (.fn 188 []) [v18, x3] h fun v19 h =>
 k v19 h) fun v20 h =>
 fIf v20 (
 k (.bool false) h) (
 j9 x0 x1 x2 x3 v13 x5 x6 x7 x8 v12 h)) fun j8 =>
 fIf v7 (
 j8 .any .any .any x3 .any x5 x6 x7 v7 .any h) (
 j2 .any .any .any x3 .any x5 x6 x7 v7 .any h)) x0 x1 x2 (.fn 186 [x1]) x4 v4 v5 (.int .i64 0) x8 x9 h) fun j1 =>
 pFadr 0 v0 fun v21 =>
 fLoad1 v21 h fun v22 =>
 pLenL v22 fun v23 =>
 pEql v23 (.int .i64 0) fun v24 =>
 fOr v24 h (fun h k =>
 pFadr 0 v0 fun v25 =>
 fLoad1 v25 h fun v26 =>
 pLenL v26 fun v27 =>
 pGtr v27 (.int .i64 8) fun v28 =>
 k v28 h) fun v29 h =>
 fOr v29 h (fun h k =>
 pFadr 0 v0 fun v30 =>
 fLoad1 v30 h fun v31 =>
 pIadr 2 v31 (.int .i64 0) fun v32 =>
 pFadr 0 v32 fun v33 =>
 fLoad1 v33 h fun v34 =>
 pNeq v34 (.int .i64 0) fun v35 =>
 k v35 h) fun v36 h =>
 fIf v36 (
 k (.bool false) h) (
 j1 (nth a 0) v0 (.bool false) (nth a 3) (nth a 5) (nth a 26) (nth a 27) (nth a 28) (nth a 29) (nth a 31) h)

theorem e157_program_May {β : Type} (I : FI) (N : Nat) (call : FCall β) (a : List AV) (h : H) (k : K β) : fBody I 157 T.s157_program_May N call a h k = f157_program_May N call a h k := by kernel_rfl

noncomputable def f158___need_machine__call {β : Type} (_ : Nat) (call : FCall β) (a : List AV) (h : H) (k : K β) : Option β :=
 fAlloc 0 [(.int .i64 0), (.int .i64 0), .nils] h fun v0 h =>
 pBuild [.nils, (.int .i64 0), .nils, (.int .i64 0), (.bool false), (.int .i64 0), (.int .i64 0), .nils, (.bool false), (.int .i64 0)] [] [] fun v1 =>
 fBox 0 v1 h fun v2 h =>
 pBuild [(.int .i64 0), (.int .i64 0), .nils, .nilp] [(0, 1), (1, 1), (2, 1), (3, 1)] [(nth a 1), (nth a 2), (nth a 3), v2] fun v3 =>
 fBox 0 v3 h fun v4 h =>
 fNil (nth a 0) fun v5 =>
 pFadr 2 v5 fun v6 =>
 fLoad1 v6 h fun v7 =>
 pLenL v7 fun v8 =>
 fNil (nth a 0) fun v9 =>
 pFadr 2 v9 fun v10 =>
 fLoad1 v10 h fun v11 =>
 fBslice 0 [.nilp] 1 [(0, 1)] [v4] h fun v12 h =>
 fApp 0 1 8 v11 v12 h fun v13 h =>
 fNil (nth a 0) fun v14 =>
 pFadr 2 v14 fun v15 =>
 fStore 1 v15 v13 h fun h =>
 fNil (nth a 0) fun v16 =>
 pFadr 0 v16 fun v17 =>
 fLoad1 v17 h fun v18 =>
 pIadr 2 v18 (nth a 1) fun v19 =>
 pFadr 1 v19 fun v20 =>
 fLoad1 v20 h fun v21 =>
 pBuild [.nils, .nils, (.int .i64 0)] [(0, 1), (1, 1), (2, 1)] [v21, (nth a 3), v8] fun v22 =>
 fBox 0 v22 h fun v23 h =>
 pLenL v21 fun v24 =>
 pSub v24 (.int .i64 1) fun v25 =>
 call (.fn 189 []) [(nth a 0), v23, v25] h fun v26 h =>
 fAlloc 0 [(.int .i64 0), (.int .i64 0), .nils] h fun v27 h =>
 fStore 3 v27 v26 h fun h =>
 fJoin 11 (fun _ _ _ _ x4 _ _ _ x8 _ _ h =>
 fLoadN 3 x8 h fun v29 =>
 fStore 3 x4 v29 h fun h =>
 fLoadN 3 x4 h fun v30 =>
 k v30 h) fun j28 =>
 fNil (nth a 0) fun v31 =>
 pFadr 3 v31 fun v32 =>
 fLoad1 v32 h fun v33 =>
 pNot v33 fun v34 =>
 fIf v34 (
 fNil v4 fun v35 =>
 pFadr 3 v35 fun v36 =>
 fLoad1 v36 h fun v37 =>
 fNil v4 fun v38 =>
 pFadr 3 v38 fun v39 =>
 fLoad1 v39 h fun v40 =>
 fLoadN 3 v27 h fun v41 =>
 fNil v37 fun v42 =>
 pFadr 5 v42 fun v43 =>
 fStore 3 v43 v41 h fun h =>
 fNil v40 fun v44 =>
 pFadr 4 v44 fun v45 =>
 fStore 1 v45 (.bool true) h fun h =>
 j28 (nth a 0) (nth a 1) (nth a 2) (nth a 3) v0 v4 v8 v21 v27 (nth a 0) v26 h) (
 j28 (nth a 0) (nth a 1) (nth a 2) (nth a 3) v0 v4 v8 v21 v27 (nth a 0) v26 h)

theorem e158___need_machine__call {β : Type} (I : FI) (N : Nat) (call : FCall β) (a : List AV) (h : H) (k : K β) : fBody I 158 T.s158___need_machine__call N call a h k = f158___need_machine__call N call a h k := by kernel_rfl

noncomputable def f159___need_machine__show {β : Type} (N : Nat) (call : FCall β) (a : List AV) (h : H) (k : K β) : Option β :=
 fJoin 10 (fun x0 x1 x2 _ x4 _ x6 x7 x8 x9 h =>
 fNil x1 fun v1 =>
 pFadr 8 v1 fun v2 =>
 fStore 1 v2 (.bool true) h fun h =>
 fJoin 10 (fun x0 x1 x2 x3 x4 x5 _ _ _ x9 h =>
 fJoin 10 (fun _ _ _ _ _ _ _ _ _ _ h =>
 k (.bool true) h) fun j4 =>
 fNil x1 fun v5 =>
 pFadr 5 v5 fun v6 =>
 pFadr 2 v6 fun v7 =>
 fLoad1 v7 h fun v8 =>
 pLenL v8 fun v9 =>
 (fLoop 10 N fun l10 x0 _ _ _ _ _ x6 x7 x8 _ h =>
 pLss x8 x7 fun v11 =>
 fJoin 10 (fun x0 x1 x2 x3 _ x5 x6 x7 x8 x9 h =>
 fJoin 10 (fun x0 x1 x2 x3 x4 x5 x6 x7 x8 x9 h =>
 pAdd x8 (.int .i64 1) fun v14 =>
 l10 x0 x1 x2 x3 x4 x5 x6 x7 v14 x9 h) fun j13 =>
 pIadr 1 x6 x8 fun v15 =>
 fLoad1 v15 h fun v16 =>
 call (.fn 159 []) [x0, v16] h fun v17 h =>
 pNot v17 fun v18 =>
 fIf v18 (
 k (.bool false) h) (
 j13 x0 x1 x2 x3 v16 x5 x6 x7 x8 x9 h)) fun j12 =>
 fIf v11 (
 j12 x0 .any .any .any .any .any x6 x7 x8 v11 h) (
 j4 x0 .any .any .any .any .any x6 x7 x8 v11 h)) x0 x1 x2 x3 x4 x5 v8 v9 (.int .i64 0) x9 h) fun j3 =>
 call (.fn 190 []) [x0, x1] h fun v19 h =>
 fAlloc 0 [(.int .i64 0), (.int .i64 0), .nils] h fun v20 h =>
 fStore 3 v20 v19 h fun h =>
 fNil x0 fun v21 =>
 pFadr 3 v21 fun v22 =>
 fLoad1 v22 h fun v23 =>
 fOr v23 h (fun h k =>
 pFadr 0 v20 fun v24 =>
 fLoad1 v24 h fun v25 =>
 pEql v25 (.int .i64 3) fun v26 =>
 k v26 h) fun v27 h =>
 fIf v27 (
 k (.bool false) h) (
 j3 x0 x1 x2 v20 x4 v19 x6 x7 x8 x9 h)) fun j0 =>
 fNil (nth a 1) fun v28 =>
 pFadr 8 v28 fun v29 =>
 fLoad1 v29 h fun v30 =>
 fIf v30 (
 k (.bool true) h) (
 j0 (nth a 0) (nth a 1) (.bool false) (nth a 5) (nth a 7) (nth a 17) (nth a 31) (nth a 32) (nth a 33) (nth a 34) h)

theorem e159___need_machine__show {β : Type} (I : FI) (N : Nat) (call : FCall β) (a : List AV) (h : H) (k : K β) : fBody I 159 T.s159___need_machine__show N call a h k = f159___need_machine__show N call a h k := by kernel_rfl

noncomputable def f160___need_call__tooLong {β : Type} (N : Nat) (call : FCall β) (a : List AV) (h : H) (k : K β) : Option β :=
 fJoin 7 (fun _ _ _ _ _ _ _ h =>
 k (.bool false) h) fun j0 =>
 fNil (nth a 0) fun v1 =>
 pFadr 2 v1 fun v2 =>
 fLoad1 v2 h fun v3 =>
 fNil (nth a 0) fun v4 =>
 pFadr 2 v4 fun v5 =>
 fLoad1 v5 h fun v6 =>
 pLenL v6 fun v7 =>
 fNil (nth a 0) fun v8 =>
 pFadr 2 v8 fun v9 =>
 fLoad1 v9 h fun v10 =>
 pLenL v10 fun v11 =>
 pSlL 1 false true true v3 [v7, v11] fun v12 =>
 fNil (nth a 0) fun v13 =>
 pFadr 3 v13 fun v14 =>
 fLoad1 v14 h fun v15 =>
 fBslice 0 [.nilp] 1 [(0, 1)] [v15] h fun v16 h =>
 fLoad1 v9 h fun v17 =>
 fChk v17 v10 (
 fLoad1 v5 h fun v18 =>
 fChk v18 v6 (
 fLoad1 v2 h fun v19 =>
 fChk v19 v3 (
 fApp 0 1 8 v12 v16 h fun v20 h =>
 pLenL v20 fun v21 =>
 (fLoop 7 N fun l22 _ _ _ x3 x4 x5 _ h =>
 pLss x5 x4 fun v23 =>
 fJoin 7 (fun x0 x1 _ x3 x4 x5 x6 h =>
 fJoin 7 (fun x0 x1 x2 x3 x4 x5 x6 h =>
 pAdd x5 (.int .i64 1) fun v26 =>
 l22 x0 x1 x2 x3 x4 v26 x6 h) fun j25 =>
 pIadr 1 x3 x5 fun v27 =>
 fLoad1 v27 h fun v28 =>
 call (.fn 191 []) [v28] h fun v29 h =>
 pGtr v29 (.int .i64 1024) fun v30 =>
 fIf v30 (
 k (.bool true) h) (
 j25 x0 x1 v28 x3 x4 x5 x6 h)) fun j24 =>
 fIf v23 (
 j24 .any .any .any x3 x4 x5 v23 h) (
 j0 .any .any .any x3 x4 x5 v23 h)) (nth a 0) (.bool false) (nth a 4) v20 v21 (.int .i64 0) (nth a 28) h)))

theorem e160___need_call__tooLong {β : Type} (I : FI) (N : Nat) (call : FCall β) (a : List AV) (h : H) (k : K β) : fBody I 160 T.s160___need_call__tooLong N call a h k = f160___need_call__tooLong N call a h k := by kernel_rfl

noncomputable def f161_need_texts {β : Type} (N : Nat) (call : FCall β) (a : List AV) (h : H) (k : K β) : Option β :=
 fJoin 8 (fun _ _ x2 _ _ _ _ _ h =>
 k x2 h) fun j0 =>
 pLenL (nth a 0) fun v1 =>
 (fLoop 8 N fun l2 _ _ x2 _ x4 x5 x6 _ h =>
 pLss x6 x5 fun v3 =>
 fJoin 8 (fun x0 x1 x2 _ x4 x5 x6 x7 h =>
 fJoin 8 (fun x0 x1 x2 x3 x4 x5 x6 x7 h =>
 pAdd x6 (.int .i64 1) fun v6 =>
 l2 x0 x1 x2 x3 x4 x5 v6 x7 h) fun j5 =>
 pIadr 1 x4 x6 fun v7 =>
 fLoad1 v7 h fun v8 =>
 call (.fn 162 []) [v8] h fun v9 h =>
 fBslice 0 [(.str [])] 1 [(0, 1)] [v9] h fun v10 h =>
 fApp 0 1 16 x2 v10 h fun v11 h =>
 j5 x0 x1 v11 v8 x4 x5 x6 x7 h) fun j4 =>
 fIf v3 (
 j4 .any .any x2 .any x4 x5 x6 v3 h) (
 j0 .any .any x2 .any x4 x5 x6 v3 h)) (nth a 0) .nils .nils (nth a 5) (nth a 0) v1 (.int .i64 0) (nth a 9) h

theorem e161_need_texts {β : Type} (I : FI) (N : Nat) (call : FCall β) (a : List AV) (h : H) (k : K β) : fBody I 161 T.s161_need_texts N call a h k = f161_need_texts N call a h k := by kernel_rfl

noncomputable def f162___need_cell__text {β : Type} (_ : Nat) (call : FCall β) (a : List AV) (h : H) (k : K β) : Option β :=
 fJoin 2 (fun x0 _ h =>
 fNil x0 fun v1 =>
 pFadr 5 v1 fun v2 =>
 pFadr 1 v2 fun v3 =>
 fLoad1 v3 h fun v4 =>
 fNil x0 fun v5 =>
 pFadr 5 v5 fun v6 =>
 pFadr 2 v6 fun v7 =>
 fLoad1 v7 h fun v8 =>
 call (.fn 161 []) [v8] h fun v9 h =>
 fLoad1 v3 h fun v10 =>
 fChk v10 v4 (
 call (.fn 27 []) [v4, v9] h fun v11 h =>
 k v11 h)) fun j0 =>
 fNil (nth a 0) fun v12 =>
 pFadr 4 v12 fun v13 =>
 fLoad1 v13 h fun v14 =>
 pNot v14 fun v15 =>
 fIf v15 (
 k (.str [95]) h) (
 fNil (nth a 0) fun v16 =>
 pFadr 5 v16 fun v17 =>
 pFadr 0 v17 fun v18 =>
 fLoad1 v18 h fun v19 =>
 pEql v19 (.int .i64 3) fun v20 =>
 fIf v20 (
 k (.str [33]) h) (
 fNil (nth a 0) fun v21 =>
 pFadr 5 v21 fun v22 =>
 pFadr 0 v22 fun v23 =>
 fLoad1 v23 h fun v24 =>
 pEql v24 (.int .i64 1) fun v25 =>
 fIf v25 (
 fNil (nth a 0) fun v26 =>
 pFadr 5 v26 fun v27 =>
 pFadr 1 v27 fun v28 =>
 fLoad1 v28 h fun v29 =>
 call (.fn 29 []) [v29] h fun v30 h =>
 k v30 h) (
 j0 (nth a 0) (.str []) h)))

theorem e162___need_cell__text {β : Type} (I : FI) (N : Nat) (call : FCall β) (a : List AV) (h : H) (k : K β) : fBody I 162 T.s162___need_cell__text N call a h k = f162___need_cell__text N call a h k := by kernel_rfl

noncomputable def f166_sleuthlaw0_SameNode {β : Type} (_ : Nat) (call : FCall β) (a : List AV) (h : H) (k : K β) : Option β :=
 fBox 0 (nth a 0) h fun v0 h =>
 fBox 0 (nth a 1) h fun v1 h =>
 pFadr 0 v0 fun v2 =>
 fLoad1 v2 h fun v3 =>
 pFadr 0 v1 fun v4 =>
 fLoad1 v4 h fun v5 =>
 pEql v3 v5 fun v6 =>
 fAnd v6 h (fun h k =>
 pFadr 1 v0 fun v7 =>
 fLoad1 v7 h fun v8 =>
 pFadr 1 v1 fun v9 =>
 fLoad1 v9 h fun v10 =>
 pEql v8 v10 fun v11 =>
 k v11 h) fun v12 h =>
 fAnd v12 h (fun h k =>
 pFadr 2 v0 fun v13 =>
 fLoad1 v13 h fun v14 =>
 pFadr 2 v1 fun v15 =>
 fLoad1 v15 h fun v16 =>
 call (.fn 15 []) [v14, v16] h fun v17 h =>
 k v17 h) fun v18 h =>
 fAnd v18 h (fun h k =>
 pFadr 3 v0 fun v19 =>
 fLoad1 v19 h fun v20 =>
 pFadr 3 v1 fun v21 =>
 fLoad1 v21 h fun v22 =>
 pSEql v20 v22 fun v23 =>
 k v23 h) fun v24 h =>
 k v24 h

theorem e166_sleuthlaw0_SameNode {β : Type} (I : FI) (N : Nat) (call : FCall β) (a : List AV) (h : H) (k : K β) : fBody I 166 T.s166_sleuthlaw0_SameNode N call a h k = f166_sleuthlaw0_SameNode N call a h k := by kernel_rfl

noncomputable def f171_sleuthlaw11_adds {β : Type} (_ : Nat) (_ : FCall β) (_ : List AV) (h : H) (k : K β) : Option β :=
 fAlloc 0 [(.int .i64 0), .nils] h fun v0 h =>
 pBuild [(.int .i64 0), (.int .i64 0), (.int .i64 0), .nils] [(0, 1)] [(.int .i64 1)] fun v1 =>
 pBuild [(.int .i64 0), (.int .i64 0), (.int .i64 0), .nils] [(0, 1), (1, 1)] [(.int .i64 1), (.int .i64 3)] fun v2 =>
 pBuild [(.int .i64 0), (.int .i64 0), (.int .i64 0), .nils] [(0, 1), (1, 1)] [(.int .i64 1), (.int .i64 1)] fun v3 =>
 fBslice 0 [(.int .i64 0), (.int .i64 0)] 2 [(0, 1), (1, 1)] [(.int .i64 1), (.int .i64 2)] h fun v4 h =>
 pBuild [(.int .i64 0), (.int .i64 0), (.int .i64 0), .nils] [(0, 1), (3, 1)] [(.int .i64 4), v4] fun v5 =>
 pBuild [(.int .i64 0), (.int .i64 0), (.int .i64 0), .nils] [(0, 1)] [(.int .i64 1)] fun v6 =>
 pBuild [(.int .i64 0), (.int .i64 0), (.int .i64 0), .nils] [(0, 1), (1, 1)] [(.int .i64 1), (.int .i64 1)] fun v7 =>
 fBslice 0 [(.int .i64 0), (.int .i64 0)] 2 [(0, 1), (1, 1)] [(.int .i64 4), (.int .i64 5)] h fun v8 h =>
 pBuild [(.int .i64 0), (.int .i64 0), (.int .i64 0), .nils] [(0, 1), (3, 1)] [(.int .i64 4), v8] fun v9 =>
 fBslice 0 [(.int .i64 0), (.int .i64 0), (.int .i64 0)] 3 [(0, 1), (1, 1), (2, 1)] [(.int .i64 0), (.int .i64 3), (.int .i64 6)] h fun v10 h =>
 pBuild [(.int .i64 0), (.int .i64 0), (.int .i64 0), .nils] [(0, 1), (1, 1), (2, 1), (3, 1)] [(.int .i64 5), (.int .i64 7), (.int .i64 2), v10] fun v11 =>
 fBslice 0 [(.int .i64 0), (.int .i64 0), (.int .i64 0), .nils, (.int .i64 0), (.int .i64 0), (.int .i64 0), .nils, (.int .i64 0), (.int .i64 0), (.int .i64 0), .nils, (.int .i64 0), (.int .i64 0), (.int .i64 0), .nils, (.int .i64 0), (.int .i64 0), (.int .i64 0), .nils, (.int .i64 0), (.int .i64 0), (.int .i64 0), .nils, (.int .i64 0), (.int .i64 0), (.int .i64 0), .nils, (.int .i64 0), (.int .i64 0), (.int .i64 0), .nils] 8 [(0, 4), (4, 4), (8, 4), (12, 4), (16, 4), (20, 4), (24, 4), (28, 4)] [v1, v2, v3, v5, v6, v7, v9, v11] h fun v12 h =>
 pBuild [(.int .i64 0), .nils] [(0, 1), (1, 1)] [(.int .i64 2), v12] fun v13 =>
 fStore 2 v0 v13 h fun h =>
 fLoadN 2 v0 h fun v14 =>
 k v14 h

theorem e171_sleuthlaw11_adds {β : Type} (I : FI) (N : Nat) (call : FCall β) (a : List AV) (h : H) (k : K β) : fBody I 171 T.s171_sleuthlaw11_adds N call a h k = f171_sleuthlaw11_adds N call a h k := by kernel_rfl

noncomputable def f174_sleuthref1_truth {β : Type} (_ : Nat) (_ : FCall β) (a : List AV) (h : H) (k : K β) : Option β :=
 fJoin 2 (fun _ _ h =>
 k (.int .i64 0) h) fun j0 =>
 fIf (nth a 0) (
 k (.int .i64 1) h) (
 j0 (nth a 0) (.int .i64 0) h)

theorem e174_sleuthref1_truth {β : Type} (I : FI) (N : Nat) (call : FCall β) (a : List AV) (h : H) (k : K β) : fBody I 174 T.s174_sleuthref1_truth N call a h k = f174_sleuthref1_truth N call a h k := by kernel_rfl

noncomputable def f175_sleuthref1_Words {β : Type} (N : Nat) (_ : FCall β) (a : List AV) (h : H) (k : K β) : Option β :=
 fJoin 9 (fun x0 x1 x2 _ x4 x5 x6 x7 x8 h =>
 fJoin 9 (fun x0 x1 x2 x3 _ _ _ x7 x8 h =>
 fJoin 9 (fun _ _ _ _ x4 _ _ _ _ h =>
 k (.tup [x4, (.int .i64 0)]) h) fun j2 =>
 (fLoop 9 N fun l3 x0 _ _ _ x4 x5 x6 _ _ h =>
 fJoin 9 (fun x0 x1 x2 x3 x4 x5 x6 _ x8 h =>
 fJoin 9 (fun x0 x1 x2 x3 x4 x5 x6 x7 x8 h =>
 pAdd x6 (.int .i64 1) fun v6 =>
 l3 x0 x1 x2 x3 x4 x5 v6 x7 x8 h) fun j5 =>
 fJoin 9 (fun x0 x1 x2 x3 x4 x5 x6 x7 _ h =>
 pNeq x7 (.int .u8 10) fun v8 =>
 fAnd v8 h (fun h k =>
 pNeq x7 (.int .u8 32) fun v9 =>
 k v9 h) fun v10 h =>
 fAnd v10 h (fun h k =>
 pNeq x7 (.int .u8 40) fun v11 =>
 k v11 h) fun v12 h =>
 fAnd v12 h (fun h k =>
 pNeq x7 (.int .u8 41) fun v13 =>
 k v13 h) fun v14 h =>
 fAnd v14 h (fun h k =>
 pNeq x7 (.int .u8 35) fun v15 =>
 k v15 h) fun v16 h =>
 fJoin 9 (fun x0 x1 x2 x3 x4 x5 x6 x7 x8 h =>
 fJoin 9 (fun x0 x1 x2 x3 x4 x5 x6 x7 x8 h =>
 fJoin 9 (fun x0 x1 x2 x3 x4 x5 x6 x7 x8 h =>
 (fLoop 9 N fun l20 x0 _ _ _ x4 x5 x6 x7 _ h =>
 fJoin 9 (fun x0 x1 x2 x3 x4 x5 x6 x7 x8 h =>
 pAdd x6 (.int .i64 1) fun v22 =>
 l20 x0 x1 x2 x3 x4 x5 v22 x7 x8 h) fun j21 =>
 pEql x7 (.int .u8 35) fun v23 =>
 fAnd v23 h (fun h k =>
 pAdd x6 (.int .i64 1) fun v24 =>
 pLenS x0 fun v25 =>
 pLss v24 v25 fun v26 =>
 k v26 h) fun v27 h =>
 fAnd v27 h (fun h k =>
 pAdd x6 (.int .i64 1) fun v28 =>
 pIdxS x0 v28 fun v29 =>
 pNeq v29 (.int .u8 10) fun v30 =>
 k v30 h) fun v31 h =>
 fIf v31 (
 j21 x0 .any .any .any x4 x5 x6 x7 .any h) (
 j5 x0 .any .any .any x4 x5 x6 x7 .any h)) x0 x1 x2 x3 x4 x5 x6 x7 x8 h) fun j19 =>
 pEql x7 (.int .u8 40) fun v32 =>
 fOr v32 h (fun h k =>
 pEql x7 (.int .u8 41) fun v33 =>
 k v33 h) fun v34 h =>
 fIf v34 (
 pAdd x6 (.int .i64 1) fun v35 =>
 pSlS true true x0 [x6, v35] fun v36 =>
 fBslice 0 [(.str [])] 1 [(0, 1)] [v36] h fun v37 h =>
 fApp 0 1 16 x4 v37 h fun v38 h =>
 j19 x0 x1 x2 x3 v38 x5 x6 x7 x8 h) (
 j19 x0 x1 x2 x3 x4 x5 x6 x7 x8 h)) fun j18 =>
 pSNeq x5 (.str []) fun v39 =>
 fIf v39 (
 fBslice 0 [(.str [])] 1 [(0, 1)] [x5] h fun v40 h =>
 fApp 0 1 16 x4 v40 h fun v41 h =>
 j18 x0 x1 x2 x3 v41 (.str []) x6 x7 x8 h) (
 j18 x0 x1 x2 x3 x4 x5 x6 x7 x8 h)) fun j17 =>
 fIf v16 (
 pAdd x6 (.int .i64 1) fun v42 =>
 pSlS true true x0 [x6, v42] fun v43 =>
 pSAdd x5 v43 fun v44 =>
 j5 x0 x1 x2 x3 x4 v44 x6 x7 v16 h) (
 j17 x0 x1 x2 x3 x4 x5 x6 x7 v16 h)) fun j7 =>
 pLenS x0 fun v45 =>
 pLss x6 v45 fun v46 =>
 fIf v46 (
 pIdxS x0 x6 fun v47 =>
 j7 x0 x1 x2 x3 x4 x5 x6 v47 x8 h) (
 j7 x0 x1 x2 x3 x4 x5 x6 (.int .u8 10) x8 h)) fun j4 =>
 pLenS x0 fun v48 =>
 pLeq x6 v48 fun v49 =>
 fIf v49 (
 j4 x0 .any .any .any x4 x5 x6 .any .any h) (
 j2 x0 .any .any .any x4 x5 x6 .any .any h)) x0 x1 x2 x3 .nils (.str []) (.int .i64 0) x7 x8 h) fun j1 =>
 (fLoop 9 N fun l50 x0 _ _ x3 _ _ _ _ _ h =>
 fJoin 9 (fun x0 x1 x2 x3 x4 x5 x6 x7 x8 h =>
 fJoin 9 (fun x0 x1 x2 x3 x4 x5 x6 x7 x8 h =>
 pAdd x3 (.int .i64 1) fun v53 =>
 l50 x0 x1 x2 v53 x4 x5 x6 x7 x8 h) fun j52 =>
 pIdxS x0 x3 fun v54 =>
 pNeq v54 (.int .u8 10) fun v55 =>
 fAnd v55 h (fun h k =>
 pIdxS x0 x3 fun v56 =>
 pLss v56 (.int .u8 32) fun v57 =>
 fOr v57 h (fun h k =>
 pIdxS x0 x3 fun v58 =>
 pGtr v58 (.int .u8 126) fun v59 =>
 k v59 h) fun v60 h =>
 k v60 h) fun v61 h =>
 fIf v61 (
 k (.tup [.nils, (.int .i64 400)]) h) (
 j52 x0 x1 x2 x3 x4 x5 x6 x7 x8 h)) fun j51 =>
 pLenS x0 fun v62 =>
 pLss x3 v62 fun v63 =>
 fIf v63 (
 j51 x0 .any .any x3 .any .any .any .any .any h) (
 j1 x0 .any .any x3 .any .any .any .any .any h)) x0 x1 x2 (.int .i64 0) x4 x5 x6 x7 x8 h) fun j0 =>
 pLenS (nth a 0) fun v64 =>
 pGtr v64 (.int .i64 2048) fun v65 =>
 fIf v65 (
 k (.tup [.nils, (.int .i64 400)]) h) (
 j0 (nth a 0) .nils (.int .i64 0) (nth a 4) (nth a 5) (nth a 6) (nth a 7) (nth a 8) (nth a 9) h)

theorem e175_sleuthref1_Words {β : Type} (I : FI) (N : Nat) (call : FCall β) (a : List AV) (h : H) (k : K β) : fBody I 175 T.s175_sleuthref1_Words N call a h k = f175_sleuthref1_Words N call a h k := by kernel_rfl

noncomputable def f176___sleuthref1_reader__word {β : Type} (_ : Nat) (_ : FCall β) (a : List AV) (h : H) (k : K β) : Option β :=
 fJoin 4 (fun x0 _ _ _ h =>
 fNil x0 fun v1 =>
 pFadr 0 v1 fun v2 =>
 fLoad1 v2 h fun v3 =>
 pIadr 1 v3 (.int .i64 0) fun v4 =>
 fLoad1 v4 h fun v5 =>
 fNil x0 fun v6 =>
 pFadr 0 v6 fun v7 =>
 fLoad1 v7 h fun v8 =>
 pSlL 1 true false false v8 [(.int .i64 1)] fun v9 =>
 fNil x0 fun v10 =>
 pFadr 0 v10 fun v11 =>
 fStore 1 v11 v9 h fun h =>
 k v5 h) fun j0 =>
 fNil (nth a 0) fun v12 =>
 pFadr 0 v12 fun v13 =>
 fLoad1 v13 h fun v14 =>
 pLenL v14 fun v15 =>
 pEql v15 (.int .i64 0) fun v16 =>
 fIf v16 (
 fNil (nth a 0) fun v17 =>
 pFadr 1 v17 fun v18 =>
 fStore 1 v18 (.bool true) h fun h =>
 k (.str []) h) (
 j0 (nth a 0) (.str []) (nth a 3) (nth a 19) h)

theorem e176___sleuthref1_reader__word {β : Type} (I : FI) (N : Nat) (call : FCall β) (a : List AV) (h : H) (k : K β) : fBody I 176 T.s176___sleuthref1_reader__word N call a h k = f176___sleuthref1_reader__word N call a h k := by kernel_rfl

noncomputable def f177___sleuthref1_reader__whole {β : Type} (_ : Nat) (call : FCall β) (a : List AV) (h : H) (k : K β) : Option β :=
 call (.fn 39 []) [(nth a 1)] h fun v0 h =>
 pExt 0 v0 fun v1 =>
 pExt 1 v0 fun v2 =>
 fJoin 9 (fun _ _ _ _ x4 _ _ _ _ h =>
 k x4 h) fun j3 =>
 pEql v2 (.int .i64 0) fun v4 =>
 fOr v4 h (fun h k =>
 pLenS (nth a 1) fun v5 =>
 pNeq v2 v5 fun v6 =>
 k v6 h) fun v7 h =>
 fOr v7 h (fun h k =>
 pGtr v1 (nth a 2) fun v8 =>
 k v8 h) fun v9 h =>
 fIf v9 (
 fNil (nth a 0) fun v10 =>
 pFadr 1 v10 fun v11 =>
 fStore 1 v11 (.bool true) h fun h =>
 k (.int .i64 0) h) (
 j3 (nth a 0) (nth a 1) (nth a 2) (.int .i64 0) v1 v2 v0 v1 v2 h)

theorem e177___sleuthref1_reader__whole {β : Type} (I : FI) (N : Nat) (call : FCall β) (a : List AV) (h : H) (k : K β) : fBody I 177 T.s177___sleuthref1_reader__whole N call a h k = f177___sleuthref1_reader__whole N call a h k := by kernel_rfl

noncomputable def f178___sleuthref1_reader__expr {β : Type} (_ : Nat) (call : FCall β) (a : List AV) (h : H) (k : K β) : Option β :=
 call (.fn 176 []) [(nth a 0)] h fun v0 h =>
 fJoin 11 (fun x0 x1 x2 x3 x4 x5 x6 x7 x8 x9 x10 h =>
 fJoin 11 (fun x0 x1 x2 _ _ _ _ _ _ _ _ h =>
 call (.fn 12 []) [x2] h fun v3 h =>
 pExt 0 v3 fun v4 =>
 pExt 1 v3 fun v5 =>
 pExt 2 v3 fun v6 =>
 pExt 3 v3 fun v7 =>
 fJoin 11 (fun x0 _ _ _ x4 _ _ _ _ _ _ h =>
 pBuild [(.int .i64 0), (.int .i64 0), (.int .i64 0), .nils] [(1, 1)] [x4] fun v9 =>
 call (.fn 200 []) [x0, v9] h fun v10 h =>
 k v10 h) fun j8 =>
 pNeq v7 (.int .i64 0) fun v11 =>
 fOr v11 h (fun h k =>
 pNeq v4 (.int .i64 1) fun v12 =>
 k v12 h) fun v13 h =>
 fIf v13 (
 fNil x0 fun v14 =>
 pFadr 1 v14 fun v15 =>
 fStore 1 v15 (.bool true) h fun h =>
 k (.int .i64 0) h) (
 j8 x0 x1 x2 v4 v5 v7 v3 v4 v5 v6 v7 h)) fun j2 =>
 pSEql x2 (.str [40]) fun v16 =>
 fIf v16 (
 call (.fn 199 []) [x0] h fun v17 h =>
 k v17 h) (
 pSEql x2 (.str [101, 114, 114, 111, 114]) fun v18 =>
 fIf v18 (
 pBuild [(.int .i64 0), (.int .i64 0), (.int .i64 0), .nils] [(0, 1)] [(.int .i64 7)] fun v19 =>
 call (.fn 200 []) [x0, v19] h fun v20 h =>
 k v20 h) (
 pIdxS x2 (.int .i64 0) fun v21 =>
 pEql v21 (.int .u8 36) fun v22 =>
 fIf v22 (
 call (.fn 201 []) [x0, x2, (.int .u8 36), (.int .i64 8)] h fun v23 h =>
 pBuild [(.int .i64 0), (.int .i64 0), (.int .i64 0), .nils] [(0, 1), (1, 1)] [(.int .i64 1), v23] fun v24 =>
 call (.fn 200 []) [x0, v24] h fun v25 h =>
 k v25 h) (
 pIdxS x2 (.int .i64 0) fun v26 =>
 pEql v26 (.int .u8 64) fun v27 =>
 fIf v27 (
 call (.fn 201 []) [x0, x2, (.int .u8 64), (.int .i64 99)] h fun v28 h =>
 pBuild [(.int .i64 0), (.int .i64 0), (.int .i64 0), .nils] [(0, 1), (1, 1)] [(.int .i64 3), v28] fun v29 =>
 call (.fn 200 []) [x0, v29] h fun v30 h =>
 k v30 h) (
 j2 x0 x1 x2 x3 x4 x5 x6 x7 x8 x9 x10 h))))) fun j1 =>
 fNil (nth a 0) fun v31 =>
 pFadr 1 v31 fun v32 =>
 fLoad1 v32 h fun v33 =>
 fOr v33 h (fun h k =>
 pSEql v0 (.str []) fun v34 =>
 k v34 h) fun v35 h =>
 fOr v35 h (fun h k =>
 fNil (nth a 0) fun v36 =>
 pFadr 2 v36 fun v37 =>
 fLoad1 v37 h fun v38 =>
 pLenL v38 fun v39 =>
 pGtr v39 (.int .i64 24) fun v40 =>
 k v40 h) fun v41 h =>
 fIf v41 (
 fNil (nth a 0) fun v42 =>
 pFadr 1 v42 fun v43 =>
 fStore 1 v43 (.bool true) h fun h =>
 k (.int .i64 0) h) (
 j1 (nth a 0) (.int .i64 0) v0 (nth a 4) (nth a 5) (nth a 7) (nth a 60) (nth a 63) (nth a 64) (nth a 65) (nth a 66) h)

theorem e178___sleuthref1_reader__expr {β : Type} (I : FI) (N : Nat) (call : FCall β) (a : List AV) (h : H) (k : K β) : fBody I 178 T.s178___sleuthref1_reader__expr N call a h k = f178___sleuthref1_reader__expr N call a h k := by kernel_rfl

noncomputable def f179_sleuthref1_DefMay {β : Type} (N : Nat) (call : FCall β) (a : List AV) (h : H) (k : K β) : Option β :=
 fBox 0 (nth a 0) h fun v0 h =>
 fJoin 13 (fun x0 x1 x2 _ _ x5 x6 x7 _ _ _ x11 x12 h =>
 pFadr 1 x1 fun v2 =>
 fLoad1 v2 h fun v3 =>
 pLenL v3 fun v4 =>
 fMkslice 0 [(.int .i64 0)] 8 v4 v4 h fun v5 h =>
 pLenL v5 fun v6 =>
 pSub v6 (.int .i64 1) fun v7 =>
 pFadr 0 x1 fun v8 =>
 fLoad1 v8 h fun v9 =>
 pAdd v9 (.int .i64 1) fun v10 =>
 pIadr 1 v5 v7 fun v11 =>
 fStore 1 v11 v10 h fun h =>
 fJoin 13 (fun _ _ _ _ _ _ _ _ _ _ _ _ _ h =>
 k (.bool true) h) fun j12 =>
 pFadr 1 x1 fun v13 =>
 fLoad1 v13 h fun v14 =>
 pLenL v14 fun v15 =>
 pSub v15 (.int .i64 1) fun v16 =>
 (fLoop 13 N fun l17 _ x1 _ x3 x4 _ _ _ _ _ _ _ _ h =>
 fJoin 13 (fun x0 x1 x2 x3 x4 _ x6 x7 x8 x9 x10 _ _ h =>
 fJoin 13 (fun x0 x1 x2 x3 x4 x5 x6 x7 x8 x9 x10 x11 x12 h =>
 pSub x4 (.int .i64 1) fun v20 =>
 l17 x0 x1 x2 x3 v20 x5 x6 x7 x8 x9 x10 x11 x12 h) fun j19 =>
 pFadr 1 x1 fun v21 =>
 fLoad1 v21 h fun v22 =>
 pIadr 4 v22 x4 fun v23 =>
 fLoadN 4 v23 h fun v24 =>
 fAlloc 0 [(.int .i64 0), (.int .i64 0), (.int .i64 0), .nils] h fun v25 h =>
 fStore 4 v25 v24 h fun h =>
 fJoin 13 (fun x0 x1 x2 x3 x4 x5 _ x7 x8 x9 x10 x11 x12 h =>
 (fLoop 13 N fun l27 _ x1 _ x3 x4 x5 x6 _ _ _ _ _ _ h =>
 fJoin 13 (fun x0 x1 x2 x3 x4 x5 x6 _ x8 x9 x10 x11 x12 h =>
 fJoin 13 (fun x0 x1 x2 x3 x4 x5 x6 x7 x8 x9 x10 x11 x12 h =>
 pAdd x6 (.int .i64 1) fun v30 =>
 l27 x0 x1 x2 x3 x4 x5 v30 x7 x8 x9 x10 x11 x12 h) fun j29 =>
 pFadr 3 x5 fun v31 =>
 fLoad1 v31 h fun v32 =>
 pIadr 1 v32 x6 fun v33 =>
 fLoad1 v33 h fun v34 =>
 fJoin 13 (fun x0 x1 x2 x3 x4 x5 x6 x7 x8 x9 x10 x11 x12 h =>
 pIadr 1 x3 x4 fun v36 =>
 fLoad1 v36 h fun v37 =>
 fLoadN 4 x5 h fun v38 =>
 call (.fn 203 []) [v38, x6] h fun v39 h =>
 fLoad1 v36 h fun v40 =>
 fChk v40 v37 (
 pAdd v37 v39 fun v41 =>
 pIadr 1 x3 x7 fun v42 =>
 fStore 1 v42 v41 h fun h =>
 j29 x0 x1 x2 x3 x4 x5 x6 x7 x8 x9 x10 x11 x12 h)) fun j35 =>
 pSub x4 (.int .i64 1) fun v43 =>
 call (.fn 30 []) [v34, (.int .i64 0), v43] h fun v44 h =>
 pNot v44 fun v45 =>
 fOr v45 h (fun h k =>
 pIadr 1 x3 v34 fun v46 =>
 fLoad1 v46 h fun v47 =>
 pNeq v47 (.int .i64 0) fun v48 =>
 k v48 h) fun v49 h =>
 fIf v49 (
 k (.bool false) h) (
 j35 x0 x1 x2 x3 x4 x5 x6 v34 x8 x9 x10 x11 x12 h)) fun j28 =>
 pFadr 3 x5 fun v50 =>
 fLoad1 v50 h fun v51 =>
 pLenL v51 fun v52 =>
 pLss x6 v52 fun v53 =>
 fIf v53 (
 j28 .any x1 .any x3 x4 x5 x6 .any .any .any .any .any .any h) (
 j19 .any x1 .any x3 x4 x5 x6 .any .any .any .any .any .any h)) x0 x1 x2 x3 x4 x5 (.int .i64 0) x7 x8 x9 x10 x11 x12 h) fun j26 =>
 pIadr 1 x3 x4 fun v54 =>
 fLoad1 v54 h fun v55 =>
 pEql v55 (.int .i64 0) fun v56 =>
 fGrd v56 false h (fun h k =>
 k x3 h) fun v57 h =>
 fGrd v56 false h (fun h k =>
 k x4 h) fun v58 h =>
 fGrd v56 false h (fun h k =>
 pIadr 1 v57 v58 fun v59 =>
 k v59 h) fun v60 h =>
 fGrd v56 false h (fun h k =>
 fLoad1 v60 h fun v61 =>
 k v61 h) fun v62 h =>
 fGrd v56 false h (fun h k =>
 pSub v62 (.int .i64 1) fun v63 =>
 k v63 h) fun v64 h =>
 fGrd v56 false h (fun h k =>
 pGtr v64 (.int .i64 8) fun v65 =>
 k v65 h) fun v66 h =>
 pPick v56 (.bool true) v66 fun v67 =>
 fGrd v67 false h (fun h k =>
 fLoadN 4 v25 h fun v68 =>
 k v68 h) fun v69 h =>
 fGrd v67 false h (fun h k =>
 k x3 h) fun v70 h =>
 fGrd v67 false h (fun h k =>
 k x4 h) fun v71 h =>
 fGrd v67 false h (fun h k =>
 pIadr 1 v70 v71 fun v72 =>
 k v72 h) fun v73 h =>
 fGrd v67 false h (fun h k =>
 fLoad1 v73 h fun v74 =>
 k v74 h) fun v75 h =>
 fGrd v67 false h (fun h k =>
 pSub v75 (.int .i64 1) fun v76 =>
 k v76 h) fun v77 h =>
 fGrd v67 false h (fun h k =>
 call (.fn 202 []) [v69, v77] h fun v78 h =>
 k v78 h) fun v79 h =>
 fGrd v67 false h (fun h k =>
 pNot v79 fun v80 =>
 k v80 h) fun v81 h =>
 pPick v67 (.bool true) v81 fun v82 =>
 fIf v82 (
 k (.bool false) h) (
 j26 x0 x1 x2 x3 x4 v25 x6 x7 x8 x9 x10 v24 v82 h)) fun j18 =>
 pGeq x4 (.int .i64 0) fun v83 =>
 fIf v83 (
 j18 .any x1 .any x3 x4 .any .any .any .any .any .any .any .any h) (
 j12 .any x1 .any x3 x4 .any .any .any .any .any .any .any .any h)) x0 x1 x2 v5 v16 x5 x6 x7 v4 v5 v7 x11 x12 h) fun j1 =>
 pFadr 0 v0 fun v84 =>
 fLoad1 v84 h fun v85 =>
 call (.fn 30 []) [v85, (.int .i64 0), (.int .i64 3)] h fun v86 h =>
 pNot v86 fun v87 =>
 fOr v87 h (fun h k =>
 pFadr 1 v0 fun v88 =>
 fLoad1 v88 h fun v89 =>
 pLenL v89 fun v90 =>
 call (.fn 30 []) [v90, (.int .i64 1), (.int .i64 24)] h fun v91 h =>
 pNot v91 fun v92 =>
 k v92 h) fun v93 h =>
 fIf v93 (
 k (.bool false) h) (
 j1 (nth a 0) v0 (.bool false) (nth a 3) (nth a 4) (nth a 5) (nth a 6) (nth a 7) (nth a 21) (nth a 23) (nth a 26) (nth a 43) (nth a 66) h)

theorem e179_sleuthref1_DefMay {β : Type} (I : FI) (N : Nat) (call : FCall β) (a : List AV) (h : H) (k : K β) : fBody I 179 T.s179_sleuthref1_DefMay N call a h k = f179_sleuthref1_DefMay N call a h k := by kernel_rfl

noncomputable def f186_program_May_1 {β : Type} (_ : Nat) (_ : FCall β) (a : List AV) (h : H) (k : K β) : Option β :=
 fBox 0 (nth a 0) h fun v0 h =>
 pFadr 0 v0 fun v1 =>
 fLoad1 v1 h fun v2 =>
 pEql v2 (.int .i64 2) fun v3 =>
 fGrd v3 true h (fun h k =>
 pFadr 1 v0 fun v4 =>
 k v4 h) fun v5 h =>
 fGrd v3 true h (fun h k =>
 fLoad1 v5 h fun v6 =>
 k v6 h) fun v7 h =>
 fGrd v3 true h (fun h k =>
 pFadr 0 (nth a 1) fun v8 =>
 k v8 h) fun v9 h =>
 fGrd v3 true h (fun h k =>
 fLoad1 v9 h fun v10 =>
 k v10 h) fun v11 h =>
 fGrd v3 true h (fun h k =>
 pLenL v11 fun v12 =>
 k v12 h) fun v13 h =>
 fGrd v3 true h (fun h k =>
 pGeq v7 v13 fun v14 =>
 k v14 h) fun v15 h =>
 fGrd v3 true h (fun h k =>
 k v15 h) fun v16 h =>
 fGrd v16 false h (fun h k =>
 pFadr 3 v0 fun v17 =>
 k v17 h) fun v18 h =>
 fGrd v16 false h (fun h k =>
 fLoad1 v18 h fun v19 =>
 k v19 h) fun v20 h =>
 fGrd v16 false h (fun h k =>
 pLenL v20 fun v21 =>
 k v21 h) fun v22 h =>
 fGrd v16 false h (fun h k =>
 pFadr 0 (nth a 1) fun v23 =>
 k v23 h) fun v24 h =>
 fGrd v16 false h (fun h k =>
 fLoad1 v24 h fun v25 =>
 k v25 h) fun v26 h =>
 fGrd v16 false h (fun h k =>
 pFadr 1 v0 fun v27 =>
 k v27 h) fun v28 h =>
 fGrd v16 false h (fun h k =>
 fLoad1 v28 h fun v29 =>
 k v29 h) fun v30 h =>
 fGrd v16 false h (fun h k =>
 pIadr 2 v26 v30 fun v31 =>
 k v31 h) fun v32 h =>
 fGrd v16 false h (fun h k =>
 pFadr 0 v32 fun v33 =>
 k v33 h) fun v34 h =>
 fGrd v16 false h (fun h k =>
 fLoad1 v34 h fun v35 =>
 k v35 h) fun v36 h =>
 fGrd v16 false h (fun h k =>
 pNeq v22 v36 fun v37 =>
 k v37 h) fun v38 h =>
 fGrd v3 true h (fun h k =>
 pPick v16 (.bool true) v38 fun v39 =>
 k v39 h) fun v40 h =>
 pPick v3 v40 (.bool false) fun v41 =>
 k v41 h

theorem e186_program_May_1 {β : Type} (I : FI) (N : Nat) (call : FCall β) (a : List AV) (h : H) (k : K β) : fBody I 186 T.s186_program_May_1 N call a h k = f186_program_May_1 N call a h k := by kernel_rfl

noncomputable def f187_expr_May {β : Type} (N : Nat) (call : FCall β) (a : List AV) (h : H) (k : K β) : Option β :=
 fBox 0 (nth a 0) h fun v0 h =>
 pFadr 1 v0 fun v1 =>
 fLoad1 v1 h fun v2 =>
 pLenL v2 fun v3 =>
 pSub v3 (.int .i64 1) fun v4 =>
 fJoin 22 (fun x0 x1 x2 x3 _ x5 x6 x7 x8 x9 _ _ _ x13 x14 x15 x16 x17 x18 x19 x20 x21 h =>
 pFadr 1 x1 fun v6 =>
 fLoad1 v6 h fun v7 =>
 pLenL v7 fun v8 =>
 fMkslice 0 [(.int .i64 0)] 8 v8 v8 h fun v9 h =>
 fJoin 22 (fun x0 x1 x2 x3 x4 x5 _ x7 x8 x9 x10 x11 x12 x13 _ _ x16 x17 x18 x19 x20 x21 h =>
 pFadr 0 x1 fun v11 =>
 fLoad1 v11 h fun v12 =>
 pIadr 1 x4 x3 fun v13 =>
 fStore 1 v13 v12 h fun h =>
 fJoin 22 (fun _ _ _ _ _ _ _ _ _ _ _ _ _ _ _ _ _ _ _ _ _ _ h =>
 k (.bool true) h) fun j14 =>
 (fLoop 22 N fun l15 _ x1 _ _ x4 _ x6 _ _ _ _ _ _ _ _ _ _ _ _ _ _ _ h =>
 fJoin 22 (fun x0 x1 x2 x3 x4 x5 x6 _ x8 x9 x10 x11 x12 x13 x14 x15 x16 x17 x18 x19 x20 x21 h =>
 fJoin 22 (fun x0 x1 x2 x3 x4 x5 x6 x7 x8 x9 x10 x11 x12 x13 x14 x15 x16 x17 x18 x19 x20 x21 h =>
 pSub x6 (.int .i64 1) fun v18 =>
 l15 x0 x1 x2 x3 x4 x5 v18 x7 x8 x9 x10 x11 x12 x13 x14 x15 x16 x17 x18 x19 x20 x21 h) fun j17 =>
 pFadr 1 x1 fun v19 =>
 fLoad1 v19 h fun v20 =>
 pIadr 4 v20 x6 fun v21 =>
 fJoin 22 (fun x0 x1 x2 x3 x4 x5 x6 x7 x8 x9 x10 x11 x12 x13 x14 x15 _ _ _ x19 x20 x21 h =>
 fNil x7 fun v23 =>
 pFadr 3 v23 fun v24 =>
 fLoad1 v24 h fun v25 =>
 pLenL v25 fun v26 =>
 (fLoop 22 N fun l27 _ x1 _ _ x4 _ x6 x7 _ _ _ _ _ _ _ _ x16 x17 x18 _ _ _ h =>
 pLss x18 x17 fun v28 =>
 fJoin 22 (fun x0 x1 x2 x3 x4 x5 x6 x7 _ _ x10 x11 x12 x13 x14 x15 x16 x17 x18 x19 _ _ h =>
 fJoin 22 (fun x0 x1 x2 x3 x4 x5 x6 x7 x8 x9 x10 x11 x12 x13 x14 x15 x16 x17 x18 x19 x20 x21 h =>
 pAdd x18 (.int .i64 1) fun v31 =>
 l27 x0 x1 x2 x3 x4 x5 x6 x7 x8 x9 x10 x11 x12 x13 x14 x15 x16 x17 v31 x19 x20 x21 h) fun j30 =>
 pIadr 1 x16 x18 fun v32 =>
 fLoad1 v32 h fun v33 =>
 fJoin 22 (fun x0 x1 x2 x3 x4 x5 x6 x7 x8 x9 x10 x11 x12 x13 x14 x15 x16 x17 x18 x19 x20 x21 h =>
 pIadr 1 x4 x6 fun v35 =>
 fLoad1 v35 h fun v36 =>
 call (.fn 214 []) [x7, x8] h fun v37 h =>
 fLoad1 v35 h fun v38 =>
 fChk v38 v36 (
 pAdd v36 v37 fun v39 =>
 pIadr 1 x4 x9 fun v40 =>
 fStore 1 v40 v39 h fun h =>
 j30 x0 x1 x2 x3 x4 x5 x6 x7 x8 x9 x10 x11 x12 x13 x14 x15 x16 x17 x18 x19 x20 x21 h)) fun j34 =>
 pLss v33 (.int .i64 0) fun v41 =>
 fOr v41 h (fun h k =>
 pGeq v33 x6 fun v42 =>
 k v42 h) fun v43 h =>
 fOr v43 h (fun h k =>
 pIadr 1 x4 v33 fun v44 =>
 fLoad1 v44 h fun v45 =>
 pNeq v45 (.int .i64 (-1)) fun v46 =>
 k v46 h) fun v47 h =>
 fIf v47 (
 k (.bool false) h) (
 j34 x0 x1 x2 x3 x4 x5 x6 x7 x18 v33 x10 x11 x12 x13 x14 x15 x16 x17 x18 x19 x18 v33 h)) fun j29 =>
 fIf v28 (
 j29 .any x1 .any .any x4 .any x6 x7 .any .any .any .any .any .any .any .any x16 x17 x18 v28 .any .any h) (
 j17 .any x1 .any .any x4 .any x6 x7 .any .any .any .any .any .any .any .any x16 x17 x18 v28 .any .any h)) x0 x1 x2 x3 x4 x5 x6 x7 x8 x9 x10 x11 x12 x13 x14 x15 v25 v26 (.int .i64 0) x19 x20 x21 h) fun j22 =>
 pIadr 1 x4 x6 fun v48 =>
 fLoad1 v48 h fun v49 =>
 pEql v49 (.int .i64 (-1)) fun v50 =>
 fOr v50 h (fun h k =>
 pIadr 1 x4 x6 fun v51 =>
 fLoad1 v51 h fun v52 =>
 pGtr v52 (.int .i64 8) fun v53 =>
 k v53 h) fun v54 h =>
 fOr v54 h (fun h k =>
 pIadr 1 x4 x6 fun v55 =>
 fLoad1 v55 h fun v56 =>
 call (.fn 213 []) [v21, v56] h fun v57 h =>
 pNot v57 fun v58 =>
 k v58 h) fun v59 h =>
 fIf v59 (
 k (.bool false) h) (
 j22 x0 x1 x2 x3 x4 x5 x6 v21 x8 x9 x10 x11 x12 x13 x14 x15 x16 x17 x18 x19 x20 x21 h)) fun j16 =>
 pGeq x6 (.int .i64 0) fun v60 =>
 fIf v60 (
 j16 .any x1 .any .any x4 .any x6 .any .any .any .any .any .any .any .any .any .any .any .any .any .any .any h) (
 j14 .any x1 .any .any x4 .any x6 .any .any .any .any .any .any .any .any .any .any .any .any .any .any .any h)) x0 x1 x2 x3 x4 x5 x3 x7 x8 x9 x10 x11 x12 x13 x4 x3 x16 x17 x18 x19 x20 x21 h) fun j10 =>
 (fLoop 22 N fun l61 _ x1 _ x3 x4 _ _ _ _ _ _ x11 x12 _ _ _ _ _ _ _ _ _ h =>
 pLss x12 x11 fun v62 =>
 fJoin 22 (fun x0 x1 x2 x3 x4 _ x6 x7 x8 x9 x10 x11 x12 x13 x14 x15 x16 x17 x18 x19 x20 x21 h =>
 fJoin 22 (fun x0 x1 x2 x3 x4 x5 x6 x7 x8 x9 x10 x11 x12 x13 x14 x15 x16 x17 x18 x19 x20 x21 h =>
 pAdd x12 (.int .i64 1) fun v65 =>
 l61 x0 x1 x2 x3 x4 x5 x6 x7 x8 x9 x10 x11 v65 x13 x14 x15 x16 x17 x18 x19 x20 x21 h) fun j64 =>
 pIadr 1 x4 x12 fun v66 =>
 fStore 1 v66 (.int .i64 (-1)) h fun h =>
 j64 x0 x1 x2 x3 x4 x12 x6 x7 x8 x9 x10 x11 x12 x13 x14 x15 x16 x17 x18 x19 x20 x21 h) fun j63 =>
 fIf v62 (
 j63 .any x1 .any x3 x4 .any .any .any .any .any .any x11 x12 v62 .any .any .any .any .any .any .any .any h) (
 j10 .any x1 .any x3 x4 .any .any .any .any .any .any x11 x12 v62 .any .any .any .any .any .any .any .any h)) x0 x1 x2 x3 v9 x5 x6 x7 x8 x9 v8 x3 (.int .i64 0) x13 x14 x15 x16 x17 x18 x19 x20 x21 h) fun j5 =>
 pFadr 0 v0 fun v67 =>
 fLoad1 v67 h fun v68 =>
 call (.fn 212 []) [v68, (.int .i64 3)] h fun v69 h =>
 pNot v69 fun v70 =>
 fOr v70 h (fun h k =>
 call (.fn 212 []) [v4, (.int .i64 23)] h fun v71 h =>
 pNot v71 fun v72 =>
 k v72 h) fun v73 h =>
 fIf v73 (
 k (.bool false) h) (
 j5 (nth a 0) v0 (.bool false) v4 (nth a 4) (nth a 5) (nth a 6) (nth a 7) (nth a 8) (nth a 9) (nth a 25) (nth a 27) (nth a 28) (nth a 29) (nth a 35) (nth a 36) (nth a 73) (nth a 74) (nth a 75) (nth a 76) (nth a 77) (nth a 79) h)

theorem e187_expr_May {β : Type} (I : FI) (N : Nat) (call : FCall β) (a : List AV) (h : H) (k : K β) : fBody I 187 T.s187_expr_May N call a h k = f187_expr_May N call a h k := by kernel_rfl

noncomputable def f188_slices_ContainsFunc___api_Expr_api_Expr_ {β : Type} (_ : Nat) (call : FCall β) (a : List AV) (h : H) (k : K β) : Option β :=
 call (.fn 215 []) [(nth a 0), (nth a 1)] h fun v0 h =>
 pGeq v0 (.int .i64 0) fun v1 =>
 k v1 h

theorem e188_slices_ContainsFunc___api_Expr_api_Expr_ {β : Type} (I : FI) (N : Nat) (call : FCall β) (a : List AV) (h : H) (k : K β) : fBody I 188 T.s188_slices_ContainsFunc___api_Expr_api_Expr_ N call a h k = f188_slices_ContainsFunc___api_Expr_api_Expr_ N call a h k := by kernel_rfl

noncomputable def f189___need_machine__part {β : Type} (N : Nat) (call : FCall β) (a : List AV) (h : H) (k : K β) : Option β :=
 fAlloc 0 [(.int .i64 0), (.int .i64 0), .nils] h fun v0 h =>
 fJoin 11 (fun _ _ _ x3 _ _ _ _ _ _ _ h =>
 pBuild [(.int .i64 0), (.int .i64 0), .nils] [] [] fun v2 =>
 fStore 3 x3 v2 h fun h =>
 fLoadN 3 x3 h fun v3 =>
 k v3 h) fun j1 =>
 (fLoop 11 N fun l4 x0 x1 x2 x3 _ _ _ _ _ _ _ h =>
 fJoin 11 (fun x0 x1 x2 x3 x4 x5 _ x7 x8 x9 x10 h =>
 fJoin 11 (fun x0 x1 x2 x3 _ x5 x6 _ _ x9 x10 h =>
 fNil x0 fun v7 =>
 pFadr 1 v7 fun v8 =>
 fLoad1 v8 h fun v9 =>
 pSub v9 (.int .i64 1) fun v10 =>
 fNil x0 fun v11 =>
 pFadr 1 v11 fun v12 =>
 fStore 1 v12 v10 h fun h =>
 fNil x1 fun v13 =>
 pFadr 0 v13 fun v14 =>
 fLoad1 v14 h fun v15 =>
 pIadr 4 v15 x2 fun v16 =>
 fNil v16 fun v17 =>
 pFadr 0 v17 fun v18 =>
 fLoad1 v18 h fun v19 =>
 pEql v19 (.int .i64 0) fun v20 =>
 fIf v20 (
 fNil v16 fun v21 =>
 pFadr 1 v21 fun v22 =>
 fLoad1 v22 h fun v23 =>
 pBuild [(.int .i64 0), (.int .i64 0), .nils] [(0, 1), (1, 1)] [(.int .i64 1), v23] fun v24 =>
 fStore 3 x3 v24 h fun h =>
 fLoadN 3 x3 h fun v25 =>
 k v25 h) (
 pEql v19 (.int .i64 1) fun v26 =>
 fIf v26 (
 fNil x1 fun v27 =>
 pFadr 1 v27 fun v28 =>
 fLoad1 v28 h fun v29 =>
 fNil v16 fun v30 =>
 pFadr 1 v30 fun v31 =>
 fLoad1 v31 h fun v32 =>
 pIadr 1 v29 v32 fun v33 =>
 fLoad1 v33 h fun v34 =>
 call (.fn 190 []) [x0, v34] h fun v35 h =>
 fStore 3 x3 v35 h fun h =>
 fLoadN 3 x3 h fun v36 =>
 k v36 h) (
 pEql v19 (.int .i64 2) fun v37 =>
 fIf v37 (
 fNil v16 fun v38 =>
 pFadr 1 v38 fun v39 =>
 fLoad1 v39 h fun v40 =>
 fNil x1 fun v41 =>
 pFadr 2 v41 fun v42 =>
 fLoad1 v42 h fun v43 =>
 fNil v16 fun v44 =>
 pFadr 3 v44 fun v45 =>
 fLoad1 v45 h fun v46 =>
 call (.fn 216 []) [x1, v46] h fun v47 h =>
 fLoad1 v42 h fun v48 =>
 fChk v48 v43 (
 fLoad1 v39 h fun v49 =>
 fChk v49 v40 (
 call (.fn 158 []) [x0, v40, v43, v47] h fun v50 h =>
 fStore 3 x3 v50 h fun h =>
 fLoadN 3 x3 h fun v51 =>
 k v51 h))) (
 pEql v19 (.int .i64 3) fun v52 =>
 fIf v52 (
 fNil v16 fun v53 =>
 pFadr 1 v53 fun v54 =>
 fLoad1 v54 h fun v55 =>
 fNil v16 fun v56 =>
 pFadr 3 v56 fun v57 =>
 fLoad1 v57 h fun v58 =>
 call (.fn 216 []) [x1, v58] h fun v59 h =>
 fLoad1 v54 h fun v60 =>
 fChk v60 v55 (
 pBuild [(.int .i64 0), (.int .i64 0), .nils] [(0, 1), (1, 1), (2, 1)] [(.int .i64 2), v55, v59] fun v61 =>
 fStore 3 x3 v61 h fun h =>
 fLoadN 3 x3 h fun v62 =>
 k v62 h)) (
 pEql v19 (.int .i64 4) fun v63 =>
 fIf v63 (
 call (.fn 217 []) [x0, x1, v16] h fun v64 h =>
 fStore 3 x3 v64 h fun h =>
 fLoadN 3 x3 h fun v65 =>
 k v65 h) (
 pEql v19 (.int .i64 5) fun v66 =>
 fIf v66 (
 fNil v16 fun v67 =>
 pFadr 3 v67 fun v68 =>
 fLoad1 v68 h fun v69 =>
 pIadr 1 v69 (.int .i64 0) fun v70 =>
 fLoad1 v70 h fun v71 =>
 call (.fn 189 []) [x0, x1, v71] h fun v72 h =>
 fAlloc 0 [(.int .i64 0), (.int .i64 0), .nils] h fun v73 h =>
 fStore 3 v73 v72 h fun h =>
 fNil x0 fun v74 =>
 pFadr 3 v74 fun v75 =>
 fLoad1 v75 h fun v76 =>
 fOr v76 h (fun h k =>
 pFadr 0 v73 fun v77 =>
 fLoad1 v77 h fun v78 =>
 pEql v78 (.int .i64 3) fun v79 =>
 k v79 h) fun v80 h =>
 fIf v80 (
 fLoadN 3 v73 h fun v81 =>
 fStore 3 x3 v81 h fun h =>
 fLoadN 3 x3 h fun v82 =>
 k v82 h) (
 pFadr 0 v73 fun v83 =>
 fLoad1 v83 h fun v84 =>
 pEql v84 (.int .i64 2) fun v85 =>
 fGrd v85 true h (fun h k =>
 pFadr 1 v73 fun v86 =>
 k v86 h) fun v87 h =>
 fGrd v85 true h (fun h k =>
 fLoad1 v87 h fun v88 =>
 k v88 h) fun v89 h =>
 fGrd v85 true h (fun h k =>
 k v16 h) fun v90 h =>
 fGrd v85 true h (fun h k =>
 fNil v90 fun v91 =>
 k v91 h) fun v92 h =>
 fGrd v85 true h (fun h k =>
 pFadr 1 v92 fun v93 =>
 k v93 h) fun v94 h =>
 fGrd v85 true h (fun h k =>
 fLoad1 v94 h fun v95 =>
 k v95 h) fun v96 h =>
 fGrd v85 true h (fun h k =>
 pEql v89 v96 fun v97 =>
 k v97 h) fun v98 h =>
 pPick v85 v98 (.bool false) fun v99 =>
 fGrd v99 true h (fun h k =>
 pFadr 2 v73 fun v100 =>
 k v100 h) fun v101 h =>
 fGrd v99 true h (fun h k =>
 fLoad1 v101 h fun v102 =>
 k v102 h) fun v103 h =>
 fGrd v99 true h (fun h k =>
 pLenL v103 fun v104 =>
 k v104 h) fun v105 h =>
 fGrd v99 true h (fun h k =>
 k v16 h) fun v106 h =>
 fGrd v99 true h (fun h k =>
 fNil v106 fun v107 =>
 k v107 h) fun v108 h =>
 fGrd v99 true h (fun h k =>
 pFadr 2 v108 fun v109 =>
 k v109 h) fun v110 h =>
 fGrd v99 true h (fun h k =>
 fLoad1 v110 h fun v111 =>
 k v111 h) fun v112 h =>
 fGrd v99 true h (fun h k =>
 pEql v105 v112 fun v113 =>
 k v113 h) fun v114 h =>
 pPick v99 v114 (.bool false) fun v115 =>
 fIf v115 (
 pFadr 2 v73 fun v116 =>
 fLoad1 v116 h fun v117 =>
 fNil v16 fun v118 =>
 pFadr 3 v118 fun v119 =>
 fLoad1 v119 h fun v120 =>
 pIadr 1 v120 (.int .i64 1) fun v121 =>
 fLoad1 v121 h fun v122 =>
 call (.fn 218 []) [x1, v117] h fun v123 h =>
 fLoad1 v121 h fun v124 =>
 fChk v124 v122 (
 fLoad1 v119 h fun v125 =>
 fChk v125 v120 (
 l4 x0 v123 v122 x3 v16 v73 x6 x0 v19 v72 v115 h))) (
 fNil v16 fun v126 =>
 pFadr 3 v126 fun v127 =>
 fLoad1 v127 h fun v128 =>
 pIadr 1 v128 (.int .i64 2) fun v129 =>
 fLoad1 v129 h fun v130 =>
 l4 x0 x1 v130 x3 v16 v73 x6 x0 v19 v72 v115 h))) (
 pEql v19 (.int .i64 6) fun v131 =>
 fIf v131 (
 fNil v16 fun v132 =>
 pFadr 3 v132 fun v133 =>
 fLoad1 v133 h fun v134 =>
 pIadr 1 v134 (.int .i64 0) fun v135 =>
 fLoad1 v135 h fun v136 =>
 fNil v16 fun v137 =>
 pFadr 3 v137 fun v138 =>
 fLoad1 v138 h fun v139 =>
 pIadr 1 v139 (.int .i64 1) fun v140 =>
 fLoad1 v140 h fun v141 =>
 call (.fn 219 []) [x1, v136] h fun v142 h =>
 fLoad1 v140 h fun v143 =>
 fChk v143 v141 (
 fLoad1 v138 h fun v144 =>
 fChk v144 v139 (
 fBslice 0 [.nilp] 1 [(0, 1)] [v142] h fun v145 h =>
 fLoad1 v140 h fun v146 =>
 fChk v146 v141 (
 fLoad1 v138 h fun v147 =>
 fChk v147 v139 (
 call (.fn 218 []) [x1, v145] h fun v148 h =>
 fLoad1 v140 h fun v149 =>
 fChk v149 v141 (
 fLoad1 v138 h fun v150 =>
 fChk v150 v139 (
 l4 x0 v148 v141 x3 v16 x5 x6 x0 v19 x9 x10 h))))))) (
 pBuild [(.int .i64 0), (.int .i64 0), .nils] [(0, 1)] [(.int .i64 3)] fun v151 =>
 fStore 3 x3 v151 h fun h =>
 fLoadN 3 x3 h fun v152 =>
 k v152 h)))))))) fun j6 =>
 fNil x0 fun v153 =>
 pFadr 1 v153 fun v154 =>
 fLoad1 v154 h fun v155 =>
 pEql v155 (.int .i64 0) fun v156 =>
 fNil x0 fun v157 =>
 pFadr 3 v157 fun v158 =>
 fStore 1 v158 v156 h fun h =>
 fNil x0 fun v159 =>
 pFadr 3 v159 fun v160 =>
 fLoad1 v160 h fun v161 =>
 fIf v161 (
 j1 x0 x1 x2 x3 x4 x5 x0 x7 x8 x9 x10 h) (
 j6 x0 x1 x2 x3 x4 x5 x0 x7 x8 x9 x10 h)) fun j5 =>
 fNil x0 fun v162 =>
 pFadr 3 v162 fun v163 =>
 fLoad1 v163 h fun v164 =>
 pNot v164 fun v165 =>
 fIf v165 (
 j5 x0 x1 x2 x3 .any .any .any .any .any .any .any h) (
 j1 x0 x1 x2 x3 .any .any .any .any .any .any .any h)) (nth a 0) (nth a 1) (nth a 2) v0 (nth a 7) (nth a 8) (nth a 14) (nth a 26) (nth a 42) (nth a 112) (nth a 130) h

theorem e189___need_machine__part {β : Type} (I : FI) (N : Nat) (call : FCall β) (a : List AV) (h : H) (k : K β) : fBody I 189 T.s189___need_machine__part N call a h k = f189___need_machine__part N call a h k := by kernel_rfl

noncomputable def f190___need_machine__force {β : Type} (_ : Nat) (call : FCall β) (a : List AV) (h : H) (k : K β) : Option β :=
 fAlloc 0 [(.int .i64 0), (.int .i64 0), .nils] h fun v0 h =>
 fJoin 6 (fun _ x1 x2 _ _ _ h =>
 fNil x1 fun v2 =>
 pFadr 5 v2 fun v3 =>
 fLoadN 3 v3 h fun v4 =>
 fStore 3 x2 v4 h fun h =>
 fLoadN 3 x2 h fun v5 =>
 k v5 h) fun j1 =>
 fNil (nth a 1) fun v6 =>
 pFadr 4 v6 fun v7 =>
 fLoad1 v7 h fun v8 =>
 pNot v8 fun v9 =>
 fIf v9 (
 fNil (nth a 1) fun v10 =>
 pFadr 0 v10 fun v11 =>
 fLoad1 v11 h fun v12 =>
 fNil (nth a 1) fun v13 =>
 pFadr 2 v13 fun v14 =>
 fLoad1 v14 h fun v15 =>
 fNil (nth a 1) fun v16 =>
 pFadr 3 v16 fun v17 =>
 fLoad1 v17 h fun v18 =>
 pBuild [.nils, .nils, (.int .i64 0)] [(0, 1), (1, 1), (2, 1)] [v12, v15, v18] fun v19 =>
 fNil (nth a 1) fun v20 =>
 pFadr 1 v20 fun v21 =>
 fLoad1 v21 h fun v22 =>
 fBox 0 v19 h fun v23 h =>
 fLoad1 v21 h fun v24 =>
 fChk v24 v22 (
 call (.fn 189 []) [(nth a 0), v23, v22] h fun v25 h =>
 fAlloc 0 [(.int .i64 0), (.int .i64 0), .nils] h fun v26 h =>
 fLoad1 v21 h fun v27 =>
 fChk v27 v22 (
 fLoad1 v17 h fun v28 =>
 fChk v28 v18 (
 fLoad1 v14 h fun v29 =>
 fChk v29 v15 (
 fLoad1 v11 h fun v30 =>
 fChk v30 v12 (
 fStore 3 v26 v25 h fun h =>
 fNil (nth a 0) fun v31 =>
 pFadr 3 v31 fun v32 =>
 fLoad1 v32 h fun v33 =>
 pNot v33 fun v34 =>
 fIf v34 (
 fLoadN 3 v26 h fun v35 =>
 fNil (nth a 1) fun v36 =>
 pFadr 5 v36 fun v37 =>
 fStore 3 v37 v35 h fun h =>
 fNil (nth a 1) fun v38 =>
 pFadr 4 v38 fun v39 =>
 fStore 1 v39 (.bool true) h fun h =>
 j1 (nth a 0) (nth a 1) v0 v26 (nth a 1) (nth a 1) h) (
 j1 (nth a 0) (nth a 1) v0 v26 (nth a 36) (nth a 37) h))))))) (
 j1 (nth a 0) (nth a 1) v0 (nth a 5) (nth a 36) (nth a 37) h)

theorem e190___need_machine__force {β : Type} (I : FI) (N : Nat) (call : FCall β) (a : List AV) (h : H) (k : K β) : fBody I 190 T.s190___need_machine__force N call a h k = f190___need_machine__force N call a h k := by kernel_rfl

noncomputable def f191___need_cell__long {β : Type} (N : Nat) (call : FCall β) (a : List AV) (h : H) (k : K β) : Option β :=
 fJoin 10 (fun x0 _ _ _ _ _ _ _ _ _ h =>
 fNil x0 fun v1 =>
 pFadr 9 v1 fun v2 =>
 fLoad1 v2 h fun v3 =>
 k v3 h) fun j0 =>
 fNil (nth a 0) fun v4 =>
 pFadr 9 v4 fun v5 =>
 fLoad1 v5 h fun v6 =>
 pGtr v6 (.int .i64 0) fun v7 =>
 fIf v7 (
 j0 (nth a 0) (.int .i64 0) (nth a 4) (nth a 5) (nth a 20) (nth a 21) (nth a 22) (nth a 23) (nth a 46) (nth a 83) h) (
 fNil (nth a 0) fun v8 =>
 pFadr 4 v8 fun v9 =>
 fLoad1 v9 h fun v10 =>
 pNot v10 fun v11 =>
 fOr v11 h (fun h k =>
 fNil (nth a 0) fun v12 =>
 pFadr 5 v12 fun v13 =>
 pFadr 0 v13 fun v14 =>
 fLoad1 v14 h fun v15 =>
 pEql v15 (.int .i64 3) fun v16 =>
 k v16 h) fun v17 h =>
 fIf v17 (
 fNil (nth a 0) fun v18 =>
 pFadr 9 v18 fun v19 =>
 fStore 1 v19 (.int .i64 1) h fun h =>
 j0 (nth a 0) (.int .i64 0) (nth a 4) (nth a 5) (nth a 20) (nth a 21) (nth a 22) (nth a 23) (nth a 46) (nth a 83) h) (
 fNil (nth a 0) fun v20 =>
 pFadr 5 v20 fun v21 =>
 pFadr 0 v21 fun v22 =>
 fLoad1 v22 h fun v23 =>
 pEql v23 (.int .i64 1) fun v24 =>
 fIf v24 (
 fNil (nth a 0) fun v25 =>
 pFadr 5 v25 fun v26 =>
 pFadr 1 v26 fun v27 =>
 fLoad1 v27 h fun v28 =>
 call (.fn 29 []) [v28] h fun v29 h =>
 pLenS v29 fun v30 =>
 fNil (nth a 0) fun v31 =>
 pFadr 9 v31 fun v32 =>
 fStore 1 v32 v30 h fun h =>
 j0 (nth a 0) (.int .i64 0) (nth a 4) (nth a 5) (nth a 20) (nth a 21) (nth a 22) (nth a 23) (nth a 46) (nth a 0) h) (
 fNil (nth a 0) fun v33 =>
 pFadr 5 v33 fun v34 =>
 pFadr 1 v34 fun v35 =>
 fLoad1 v35 h fun v36 =>
 call (.fn 27 []) [v36, .nils] h fun v37 h =>
 pLenS v37 fun v38 =>
 pAdd v38 (.int .i64 1) fun v39 =>
 fNil (nth a 0) fun v40 =>
 pFadr 9 v40 fun v41 =>
 fStore 1 v41 v39 h fun h =>
 fJoin 10 (fun x0 x1 x2 x3 x4 x5 x6 x7 x8 x9 h =>
 fNil x0 fun v43 =>
 pFadr 5 v43 fun v44 =>
 pFadr 2 v44 fun v45 =>
 fLoad1 v45 h fun v46 =>
 pLenL v46 fun v47 =>
 pEql v47 (.int .i64 0) fun v48 =>
 fIf v48 (
 fNil x0 fun v49 =>
 pFadr 9 v49 fun v50 =>
 fLoad1 v50 h fun v51 =>
 pSub v51 (.int .i64 1) fun v52 =>
 fNil x0 fun v53 =>
 pFadr 9 v53 fun v54 =>
 fStore 1 v54 v52 h fun h =>
 j0 x0 x1 x2 x3 x4 x5 x6 x7 x0 x9 h) (
 j0 x0 x1 x2 x3 x4 x5 x6 x7 x8 x9 h)) fun j42 =>
 fNil (nth a 0) fun v55 =>
 pFadr 5 v55 fun v56 =>
 pFadr 2 v56 fun v57 =>
 fLoad1 v57 h fun v58 =>
 pLenL v58 fun v59 =>
 (fLoop 10 N fun l60 x0 _ _ _ x4 x5 x6 _ _ _ h =>
 pLss x6 x5 fun v61 =>
 fJoin 10 (fun x0 x1 _ x3 x4 x5 x6 x7 x8 x9 h =>
 fJoin 10 (fun x0 x1 x2 x3 x4 x5 x6 x7 x8 x9 h =>
 pAdd x6 (.int .i64 1) fun v64 =>
 l60 x0 x1 x2 x3 x4 x5 v64 x7 x8 x9 h) fun j63 =>
 pIadr 1 x4 x6 fun v65 =>
 fLoad1 v65 h fun v66 =>
 fNil x0 fun v67 =>
 pFadr 9 v67 fun v68 =>
 fLoad1 v68 h fun v69 =>
 call (.fn 191 []) [v66] h fun v70 h =>
 fLoad1 v68 h fun v71 =>
 fChk v71 v69 (
 pAdd v69 v70 fun v72 =>
 pAdd v72 (.int .i64 1) fun v73 =>
 pMin v73 (.int .i64 1025) fun v74 =>
 fNil x0 fun v75 =>
 pFadr 9 v75 fun v76 =>
 fStore 1 v76 v74 h fun h =>
 j63 x0 x1 v66 x3 x4 x5 x6 x7 x8 x9 h)) fun j62 =>
 fIf v61 (
 j62 x0 .any .any .any x4 x5 x6 v61 .any .any h) (
 j42 x0 .any .any .any x4 x5 x6 v61 .any .any h)) (nth a 0) (.int .i64 0) (nth a 4) (nth a 0) v58 v59 (.int .i64 0) (nth a 23) (nth a 46) (nth a 83) h)))

theorem e191___need_cell__long {β : Type} (I : FI) (N : Nat) (call : FCall β) (a : List AV) (h : H) (k : K β) : fBody I 191 T.s191___need_cell__long N call a h k = f191___need_cell__long N call a h k := by kernel_rfl

noncomputable def f199___sleuthref1_reader__open {β : Type} (_ : Nat) (call : FCall β) (a : List AV) (h : H) (k : K β) : Option β :=
 call (.fn 176 []) [(nth a 0)] h fun v0 h =>
 fJoin 14 (fun x0 x1 x2 x3 x4 x5 x6 x7 x8 x9 x10 x11 x12 x13 h =>
 fJoin 14 (fun x0 _ _ _ _ _ _ _ _ _ _ _ _ _ h =>
 fNil x0 fun v3 =>
 pFadr 1 v3 fun v4 =>
 fStore 1 v4 (.bool true) h fun h =>
 k (.int .i64 0) h) fun j2 =>
 call (.fn 224 []) [x2] h fun v5 h =>
 pGeq v5 (.int .i64 0) fun v6 =>
 fIf v6 (
 call (.fn 225 []) [x0, (.int .i64 2)] h fun v7 h =>
 call (.fn 224 []) [x2] h fun v8 h =>
 pBuild [(.int .i64 0), (.int .i64 0), (.int .i64 0), .nils] [(0, 1), (1, 1), (3, 1)] [(.int .i64 4), v8, v7] fun v9 =>
 call (.fn 200 []) [x0, v9] h fun v10 h =>
 k v10 h) (
 pSEql x2 (.str [99, 97, 115, 101]) fun v11 =>
 fIf v11 (
 call (.fn 178 []) [x0] h fun v12 h =>
 call (.fn 176 []) [x0] h fun v13 h =>
 call (.fn 201 []) [x0, v13, (.int .u8 64), (.int .i64 99)] h fun v14 h =>
 call (.fn 176 []) [x0] h fun v15 h =>
 call (.fn 177 []) [x0, v15, (.int .i64 3)] h fun v16 h =>
 fBslice 0 [(.int .i64 0)] 1 [(0, 1)] [v12] h fun v17 h =>
 call (.fn 225 []) [x0, (.int .i64 2)] h fun v18 h =>
 fApp 0 1 8 v17 v18 h fun v19 h =>
 pBuild [(.int .i64 0), (.int .i64 0), (.int .i64 0), .nils] [(0, 1), (1, 1), (2, 1), (3, 1)] [(.int .i64 5), v14, v16, v19] fun v20 =>
 call (.fn 200 []) [x0, v20] h fun v21 h =>
 k v21 h) (
 pSEql x2 (.str [108, 101, 116]) fun v22 =>
 fIf v22 (
 call (.fn 225 []) [x0, (.int .i64 2)] h fun v23 h =>
 pBuild [(.int .i64 0), (.int .i64 0), (.int .i64 0), .nils] [(0, 1), (3, 1)] [(.int .i64 6), v23] fun v24 =>
 call (.fn 200 []) [x0, v24] h fun v25 h =>
 k v25 h) (
 pIdxS x2 (.int .i64 0) fun v26 =>
 pEql v26 (.int .u8 102) fun v27 =>
 fIf v27 (
 call (.fn 201 []) [x0, x2, (.int .u8 102), (.int .i64 7)] h fun v28 h =>
 call (.fn 225 []) [x0, (.int .i64 3)] h fun v29 h =>
 pBuild [(.int .i64 0), (.int .i64 0), (.int .i64 0), .nils] [(0, 1), (1, 1), (3, 1)] [(.int .i64 2), v28, v29] fun v30 =>
 call (.fn 200 []) [x0, v30] h fun v31 h =>
 k v31 h) (
 pIdxS x2 (.int .i64 0) fun v32 =>
 pEql v32 (.int .u8 64) fun v33 =>
 fIf v33 (
 call (.fn 201 []) [x0, x2, (.int .u8 64), (.int .i64 99)] h fun v34 h =>
 call (.fn 225 []) [x0, (.int .i64 3)] h fun v35 h =>
 fNil x0 fun v36 =>
 pFadr 1 v36 fun v37 =>
 fLoad1 v37 h fun v38 =>
 fOr v38 h (fun h k =>
 pLenL v35 fun v39 =>
 pEql v39 (.int .i64 0) fun v40 =>
 k v40 h) fun v41 h =>
 fNil x0 fun v42 =>
 pFadr 1 v42 fun v43 =>
 fStore 1 v43 v41 h fun h =>
 pBuild [(.int .i64 0), (.int .i64 0), (.int .i64 0), .nils] [(0, 1), (1, 1), (3, 1)] [(.int .i64 3), v34, v35] fun v44 =>
 call (.fn 200 []) [x0, v44] h fun v45 h =>
 k v45 h) (
 j2 x0 x1 x2 x3 x4 x5 x6 x7 x8 x9 x10 x11 x12 x13 h)))))) fun j1 =>
 fNil (nth a 0) fun v46 =>
 pFadr 1 v46 fun v47 =>
 fLoad1 v47 h fun v48 =>
 fOr v48 h (fun h k =>
 pSEql v0 (.str []) fun v49 =>
 k v49 h) fun v50 h =>
 fIf v50 (
 fNil (nth a 0) fun v51 =>
 pFadr 1 v51 fun v52 =>
 fStore 1 v52 (.bool true) h fun h =>
 k (.int .i64 0) h) (
 j1 (nth a 0) (.int .i64 0) v0 (nth a 4) (nth a 5) (nth a 6) (nth a 7) (nth a 8) (nth a 9) (nth a 10) (nth a 11) (nth a 12) (nth a 13) (nth a 96) h)

theorem e199___sleuthref1_reader__open {β : Type} (I : FI) (N : Nat) (call : FCall β) (a : List AV) (h : H) (k : K β) : fBody I 199 T.s199___sleuthref1_reader__open N call a h k = f199___sleuthref1_reader__open N call a h k := by kernel_rfl

noncomputable def f200___sleuthref1_reader__part {β : Type} (_ : Nat) (_ : FCall β) (a : List AV) (h : H) (k : K β) : Option β :=
 fBox 0 (nth a 1) h fun v0 h =>
 fNil (nth a 0) fun v1 =>
 pFadr 2 v1 fun v2 =>
 fLoad1 v2 h fun v3 =>
 fLoadN 4 v0 h fun v4 =>
 fBslice 0 [(.int .i64 0), (.int .i64 0), (.int .i64 0), .nils] 1 [(0, 4)] [v4] h fun v5 h =>
 fLoad1 v2 h fun v6 =>
 fChk v6 v3 (
 fApp 0 4 48 v3 v5 h fun v7 h =>
 fNil (nth a 0) fun v8 =>
 pFadr 2 v8 fun v9 =>
 fStore 1 v9 v7 h fun h =>
 fNil (nth a 0) fun v10 =>
 pFadr 2 v10 fun v11 =>
 fLoad1 v11 h fun v12 =>
 pLenL v12 fun v13 =>
 pSub v13 (.int .i64 1) fun v14 =>
 k v14 h)

theorem e200___sleuthref1_reader__part {β : Type} (I : FI) (N : Nat) (call : FCall β) (a : List AV) (h : H) (k : K β) : fBody I 200 T.s200___sleuthref1_reader__part N call a h k = f200___sleuthref1_reader__part N call a h k := by kernel_rfl

noncomputable def f201___sleuthref1_reader__after {β : Type} (_ : Nat) (call : FCall β) (a : List AV) (h : H) (k : K β) : Option β :=
 fJoin 5 (fun x0 x1 _ x3 _ h =>
 pSlS true false x1 [(.int .i64 1)] fun v1 =>
 call (.fn 177 []) [x0, v1, x3] h fun v2 h =>
 k v2 h) fun j0 =>
 pSEql (nth a 1) (.str []) fun v3 =>
 fOr v3 h (fun h k =>
 pIdxS (nth a 1) (.int .i64 0) fun v4 =>
 pNeq v4 (nth a 2) fun v5 =>
 k v5 h) fun v6 h =>
 fIf v6 (
 fNil (nth a 0) fun v7 =>
 pFadr 1 v7 fun v8 =>
 fStore 1 v8 (.bool true) h fun h =>
 k (.int .i64 0) h) (
 j0 (nth a 0) (nth a 1) (nth a 2) (nth a 3) (.int .i64 0) h)

theorem e201___sleuthref1_reader__after {β : Type} (I : FI) (N : Nat) (call : FCall β) (a : List AV) (h : H) (k : K β) : fBody I 201 T.s201___sleuthref1_reader__after N call a h k = f201___sleuthref1_reader__after N call a h k := by kernel_rfl

noncomputable def f202_sleuthref1_kinds {β : Type} (_ : Nat) (call : FCall β) (a : List AV) (h : H) (k : K β) : Option β :=
 fBox 0 (nth a 0) h fun v0 h =>
 pFadr 3 v0 fun v1 =>
 fLoad1 v1 h fun v2 =>
 pLenL v2 fun v3 =>
 pFadr 2 v0 fun v4 =>
 fLoad1 v4 h fun v5 =>
 pEql v5 (.int .i64 0) fun v6 =>
 fJoin 7 (fun _ _ _ _ _ _ _ h =>
 k (.bool false) h) fun j7 =>
 pFadr 0 v0 fun v8 =>
 fLoad1 v8 h fun v9 =>
 pEql v9 (.int .i64 0) fun v10 =>
 fIf v10 (
 fAnd v6 h (fun h k =>
 pEql v3 (.int .i64 0) fun v11 =>
 k v11 h) fun v12 h =>
 fAnd v12 h (fun h k =>
 pFadr 1 v0 fun v13 =>
 fLoad1 v13 h fun v14 =>
 call (.fn 41 []) [v14] h fun v15 h =>
 k v15 h) fun v16 h =>
 k v16 h) (
 pEql v9 (.int .i64 1) fun v17 =>
 fIf v17 (
 fAnd v6 h (fun h k =>
 pEql v3 (.int .i64 0) fun v18 =>
 k v18 h) fun v19 h =>
 fAnd v19 h (fun h k =>
 pFadr 1 v0 fun v20 =>
 fLoad1 v20 h fun v21 =>
 pSub (nth a 1) (.int .i64 1) fun v22 =>
 call (.fn 30 []) [v21, (.int .i64 0), v22] h fun v23 h =>
 k v23 h) fun v24 h =>
 k v24 h) (
 pEql v9 (.int .i64 2) fun v25 =>
 fIf v25 (
 fAnd v6 h (fun h k =>
 pLeq v3 (.int .i64 3) fun v26 =>
 k v26 h) fun v27 h =>
 fAnd v27 h (fun h k =>
 pFadr 1 v0 fun v28 =>
 fLoad1 v28 h fun v29 =>
 call (.fn 30 []) [v29, (.int .i64 0), (.int .i64 7)] h fun v30 h =>
 k v30 h) fun v31 h =>
 k v31 h) (
 pEql v9 (.int .i64 3) fun v32 =>
 fIf v32 (
 fAnd v6 h (fun h k =>
 pLeq v3 (.int .i64 3) fun v33 =>
 k v33 h) fun v34 h =>
 fAnd v34 h (fun h k =>
 pFadr 1 v0 fun v35 =>
 fLoad1 v35 h fun v36 =>
 call (.fn 30 []) [v36, (.int .i64 0), (.int .i64 99)] h fun v37 h =>
 k v37 h) fun v38 h =>
 k v38 h) (
 pEql v9 (.int .i64 4) fun v39 =>
 fIf v39 (
 fAnd v6 h (fun h k =>
 pEql v3 (.int .i64 2) fun v40 =>
 k v40 h) fun v41 h =>
 fAnd v41 h (fun h k =>
 pFadr 1 v0 fun v42 =>
 fLoad1 v42 h fun v43 =>
 call (.fn 30 []) [v43, (.int .i64 0), (.int .i64 4)] h fun v44 h =>
 k v44 h) fun v45 h =>
 k v45 h) (
 pEql v9 (.int .i64 5) fun v46 =>
 fIf v46 (
 pEql v3 (.int .i64 3) fun v47 =>
 fAnd v47 h (fun h k =>
 pFadr 1 v0 fun v48 =>
 fLoad1 v48 h fun v49 =>
 call (.fn 30 []) [v49, (.int .i64 0), (.int .i64 99)] h fun v50 h =>
 k v50 h) fun v51 h =>
 fAnd v51 h (fun h k =>
 pFadr 2 v0 fun v52 =>
 fLoad1 v52 h fun v53 =>
 call (.fn 30 []) [v53, (.int .i64 0), (.int .i64 3)] h fun v54 h =>
 k v54 h) fun v55 h =>
 k v55 h) (
 pEql v9 (.int .i64 6) fun v56 =>
 fIf v56 (
 fAnd v6 h (fun h k =>
 pEql v3 (.int .i64 2) fun v57 =>
 k v57 h) fun v58 h =>
 fAnd v58 h (fun h k =>
 pFadr 1 v0 fun v59 =>
 fLoad1 v59 h fun v60 =>
 pEql v60 (.int .i64 0) fun v61 =>
 k v61 h) fun v62 h =>
 k v62 h) (
 pEql v9 (.int .i64 7) fun v63 =>
 fIf v63 (
 fAnd v6 h (fun h k =>
 pEql v3 (.int .i64 0) fun v64 =>
 k v64 h) fun v65 h =>
 fAnd v65 h (fun h k =>
 pFadr 1 v0 fun v66 =>
 fLoad1 v66 h fun v67 =>
 pEql v67 (.int .i64 0) fun v68 =>
 k v68 h) fun v69 h =>
 k v69 h) (
 j7 (nth a 0) (nth a 1) v0 (.bool false) v3 v6 v9 h))))))))

theorem e202_sleuthref1_kinds {β : Type} (I : FI) (N : Nat) (call : FCall β) (a : List AV) (h : H) (k : K β) : fBody I 202 T.s202_sleuthref1_kinds N call a h k = f202_sleuthref1_kinds N call a h k := by kernel_rfl

noncomputable def f203_sleuthref1_deeper {β : Type} (_ : Nat) (_ : FCall β) (a : List AV) (h : H) (k : K β) : Option β :=
 fBox 0 (nth a 0) h fun v0 h =>
 fJoin 4 (fun x0 x1 x2 x3 h =>
 fJoin 4 (fun _ _ _ _ h =>
 k (.int .i64 0) h) fun j2 =>
 pEql x1 (.int .i64 1) fun v3 =>
 fAnd v3 h (fun h k =>
 pFadr 0 x2 fun v4 =>
 fLoad1 v4 h fun v5 =>
 pEql v5 (.int .i64 6) fun v6 =>
 k v6 h) fun v7 h =>
 fIf v7 (
 k (.int .i64 1) h) (
 j2 x0 x1 x2 x3 h)) fun j1 =>
 pEql (nth a 1) (.int .i64 1) fun v8 =>
 fAnd v8 h (fun h k =>
 pFadr 0 v0 fun v9 =>
 fLoad1 v9 h fun v10 =>
 pEql v10 (.int .i64 5) fun v11 =>
 k v11 h) fun v12 h =>
 fIf v12 (
 pFadr 2 v0 fun v13 =>
 fLoad1 v13 h fun v14 =>
 k v14 h) (
 j1 (nth a 0) (nth a 1) v0 (.int .i64 0) h)

theorem e203_sleuthref1_deeper {β : Type} (I : FI) (N : Nat) (call : FCall β) (a : List AV) (h : H) (k : K β) : fBody I 203 T.s203_sleuthref1_deeper N call a h k = f203_sleuthref1_deeper N call a h k := by kernel_rfl

noncomputable def f212_expr_within {β : Type} (_ : Nat) (_ : FCall β) (a : List AV) (h : H) (k : K β) : Option β :=
 pGeq (nth a 0) (.int .i64 0) fun v0 =>
 fAnd v0 h (fun h k =>
 pLeq (nth a 0) (nth a 1) fun v1 =>
 k v1 h) fun v2 h =>
 k v2 h

theorem e212_expr_within {β : Type} (I : FI) (N : Nat) (call : FCall β) (a : List AV) (h : H) (k : K β) : fBody I 212 T.s212_expr_within N call a h k = f212_expr_within N call a h k := by kernel_rfl

noncomputable def f213_expr_part {β : Type} (_ : Nat) (call : FCall β) (a : List AV) (h : H) (k : K β) : Option β :=
 fJoin 4 (fun _ _ _ _ h =>
 k (.bool false) h) fun j0 =>
 fNil (nth a 0) fun v1 =>
 pFadr 0 v1 fun v2 =>
 fLoad1 v2 h fun v3 =>
 pEql v3 (.int .i64 0) fun v4 =>
 fIf v4 (
 fNil (nth a 0) fun v5 =>
 pFadr 1 v5 fun v6 =>
 fLoad1 v6 h fun v7 =>
 call (.fn 28 []) [v7] h fun v8 h =>
 fAnd v8 h (fun h k =>
 call (.fn 229 []) [(nth a 0), (.int .i64 0), (.int .i64 0), (.int .i64 0)] h fun v9 h =>
 k v9 h) fun v10 h =>
 k v10 h) (
 pEql v3 (.int .i64 1) fun v11 =>
 fIf v11 (
 fNil (nth a 0) fun v12 =>
 pFadr 1 v12 fun v13 =>
 fLoad1 v13 h fun v14 =>
 pSub (nth a 1) (.int .i64 1) fun v15 =>
 call (.fn 212 []) [v14, v15] h fun v16 h =>
 fAnd v16 h (fun h k =>
 call (.fn 229 []) [(nth a 0), (.int .i64 0), (.int .i64 0), (.int .i64 0)] h fun v17 h =>
 k v17 h) fun v18 h =>
 k v18 h) (
 pEql v3 (.int .i64 2) fun v19 =>
 fIf v19 (
 fNil (nth a 0) fun v20 =>
 pFadr 1 v20 fun v21 =>
 fLoad1 v21 h fun v22 =>
 call (.fn 212 []) [v22, (.int .i64 7)] h fun v23 h =>
 fAnd v23 h (fun h k =>
 call (.fn 229 []) [(nth a 0), (.int .i64 0), (.int .i64 0), (.int .i64 3)] h fun v24 h =>
 k v24 h) fun v25 h =>
 k v25 h) (
 pEql v3 (.int .i64 3) fun v26 =>
 fIf v26 (
 fNil (nth a 0) fun v27 =>
 pFadr 1 v27 fun v28 =>
 fLoad1 v28 h fun v29 =>
 call (.fn 212 []) [v29, (.int .i64 99)] h fun v30 h =>
 fAnd v30 h (fun h k =>
 call (.fn 229 []) [(nth a 0), (.int .i64 0), (.int .i64 0), (.int .i64 3)] h fun v31 h =>
 k v31 h) fun v32 h =>
 k v32 h) (
 pEql v3 (.int .i64 4) fun v33 =>
 fIf v33 (
 fNil (nth a 0) fun v34 =>
 pFadr 1 v34 fun v35 =>
 fLoad1 v35 h fun v36 =>
 call (.fn 212 []) [v36, (.int .i64 4)] h fun v37 h =>
 fAnd v37 h (fun h k =>
 call (.fn 229 []) [(nth a 0), (.int .i64 0), (.int .i64 2), (.int .i64 2)] h fun v38 h =>
 k v38 h) fun v39 h =>
 k v39 h) (
 pEql v3 (.int .i64 5) fun v40 =>
 fIf v40 (
 fNil (nth a 0) fun v41 =>
 pFadr 1 v41 fun v42 =>
 fLoad1 v42 h fun v43 =>
 call (.fn 212 []) [v43, (.int .i64 99)] h fun v44 h =>
 fAnd v44 h (fun h k =>
 call (.fn 229 []) [(nth a 0), (.int .i64 3), (.int .i64 3), (.int .i64 3)] h fun v45 h =>
 k v45 h) fun v46 h =>
 k v46 h) (
 pEql v3 (.int .i64 6) fun v47 =>
 fIf v47 (
 fNil (nth a 0) fun v48 =>
 pFadr 1 v48 fun v49 =>
 fLoad1 v49 h fun v50 =>
 pEql v50 (.int .i64 0) fun v51 =>
 fAnd v51 h (fun h k =>
 call (.fn 229 []) [(nth a 0), (.int .i64 0), (.int .i64 2), (.int .i64 2)] h fun v52 h =>
 k v52 h) fun v53 h =>
 k v53 h) (
 pEql v3 (.int .i64 7) fun v54 =>
 fIf v54 (
 fNil (nth a 0) fun v55 =>
 pFadr 1 v55 fun v56 =>
 fLoad1 v56 h fun v57 =>
 pEql v57 (.int .i64 0) fun v58 =>
 fAnd v58 h (fun h k =>
 call (.fn 229 []) [(nth a 0), (.int .i64 0), (.int .i64 0), (.int .i64 0)] h fun v59 h =>
 k v59 h) fun v60 h =>
 k v60 h) (
 j0 (nth a 0) (nth a 1) (.bool false) v3 h))))))))

theorem e213_expr_part {β : Type} (I : FI) (N : Nat) (call : FCall β) (a : List AV) (h : H) (k : K β) : fBody I 213 T.s213_expr_part N call a h k = f213_expr_part N call a h k := by kernel_rfl

noncomputable def f214_expr_more {β : Type} (_ : Nat) (_ : FCall β) (a : List AV) (h : H) (k : K β) : Option β :=
 fJoin 3 (fun _ _ _ h =>
 k (.int .i64 0) h) fun j0 =>
 pNeq (nth a 1) (.int .i64 1) fun v1 =>
 fIf v1 (
 k (.int .i64 0) h) (
 fNil (nth a 0) fun v2 =>
 pFadr 0 v2 fun v3 =>
 fLoad1 v3 h fun v4 =>
 pEql v4 (.int .i64 5) fun v5 =>
 fIf v5 (
 fNil (nth a 0) fun v6 =>
 pFadr 2 v6 fun v7 =>
 fLoad1 v7 h fun v8 =>
 k v8 h) (
 fNil (nth a 0) fun v9 =>
 pFadr 0 v9 fun v10 =>
 fLoad1 v10 h fun v11 =>
 pEql v11 (.int .i64 6) fun v12 =>
 fIf v12 (
 k (.int .i64 1) h) (
 j0 (nth a 0) (nth a 1) (.int .i64 0) h)))

theorem e214_expr_more {β : Type} (I : FI) (N : Nat) (call : FCall β) (a : List AV) (h : H) (k : K β) : fBody I 214 T.s214_expr_more N call a h k = f214_expr_more N call a h k := by kernel_rfl

noncomputable def f215_slices_IndexFunc___api_Expr_api_Expr_ {β : Type} (N : Nat) (call : FCall β) (a : List AV) (h : H) (k : K β) : Option β :=
 fJoin 7 (fun _ _ _ _ _ _ _ h =>
 k (.int .i64 (-1)) h) fun j0 =>
 pLenL (nth a 0) fun v1 =>
 (fLoop 7 N fun l2 x0 x1 _ _ x4 x5 _ h =>
 pLss x5 x4 fun v3 =>
 fJoin 7 (fun x0 x1 x2 _ x4 x5 x6 h =>
 fJoin 7 (fun x0 x1 x2 x3 x4 x5 x6 h =>
 pAdd x5 (.int .i64 1) fun v6 =>
 l2 x0 x1 x2 x3 x4 v6 x6 h) fun j5 =>
 pIadr 4 x0 x5 fun v7 =>
 fLoadN 4 v7 h fun v8 =>
 call x1 [v8] h fun v9 h =>
 fIf v9 (
 k x5 h) (
 j5 x0 x1 x2 x5 x4 x5 x6 h)) fun j4 =>
 fIf v3 (
 j4 x0 x1 .any .any x4 x5 v3 h) (
 j0 x0 x1 .any .any x4 x5 v3 h)) (nth a 0) (nth a 1) (.int .i64 0) (nth a 5) v1 (.int .i64 0) (nth a 9) h

theorem e215_slices_IndexFunc___api_Expr_api_Expr_ {β : Type} (I : FI) (N : Nat) (call : FCall β) (a : List AV) (h : H) (k : K β) : fBody I 215 T.s215_slices_IndexFunc___api_Expr_api_Expr_ N call a h k = f215_slices_IndexFunc___api_Expr_api_Expr_ N call a h k := by kernel_rfl

noncomputable def f216___need_frame__kids {β : Type} (N : Nat) (call : FCall β) (a : List AV) (h : H) (k : K β) : Option β :=
 fJoin 9 (fun _ _ _ x3 _ _ _ _ _ h =>
 k x3 h) fun j0 =>
 pLenL (nth a 1) fun v1 =>
 (fLoop 9 N fun l2 x0 _ _ x3 _ x5 x6 x7 _ h =>
 pLss x7 x6 fun v3 =>
 fJoin 9 (fun x0 x1 x2 x3 _ x5 x6 x7 x8 h =>
 fJoin 9 (fun x0 x1 x2 x3 x4 x5 x6 x7 x8 h =>
 pAdd x7 (.int .i64 1) fun v6 =>
 l2 x0 x1 x2 x3 x4 x5 x6 v6 x8 h) fun j5 =>
 pIadr 1 x5 x7 fun v7 =>
 fLoad1 v7 h fun v8 =>
 call (.fn 219 []) [x0, v8] h fun v9 h =>
 fBslice 0 [.nilp] 1 [(0, 1)] [v9] h fun v10 h =>
 fApp 0 1 8 x3 v10 h fun v11 h =>
 j5 x0 x1 x2 v11 v8 x5 x6 x7 x8 h) fun j4 =>
 fIf v3 (
 j4 x0 .any .any x3 .any x5 x6 x7 v3 h) (
 j0 x0 .any .any x3 .any x5 x6 x7 v3 h)) (nth a 0) (nth a 1) .nils .nils (nth a 7) (nth a 1) v1 (.int .i64 0) (nth a 11) h

theorem e216___need_frame__kids {β : Type} (I : FI) (N : Nat) (call : FCall β) (a : List AV) (h : H) (k : K β) : fBody I 216 T.s216___need_frame__kids N call a h k = f216___need_frame__kids N call a h k := by kernel_rfl

noncomputable def f217___need_machine__prim {β : Type} (N : Nat) (call : FCall β) (a : List AV) (h : H) (k : K β) : Option β :=
 fAlloc 0 [(.int .i64 0), (.int .i64 0), .nils] h fun v0 h =>
 fAlloc 0 [(.int .i64 0), (.int .i64 0)] h fun v1 h =>
 fJoin 17 (fun _ _ x2 x3 x4 _ _ _ _ _ _ _ _ _ _ _ _ h =>
 fNil x2 fun v3 =>
 pFadr 1 v3 fun v4 =>
 fLoad1 v4 h fun v5 =>
 pIadrA 2 1 x4 (.int .i64 0) fun v6 =>
 fLoad1 v6 h fun v7 =>
 pIadrA 2 1 x4 (.int .i64 1) fun v8 =>
 fLoad1 v8 h fun v9 =>
 call (.fn 226 []) [v5, v7, v9] h fun v10 h =>
 pExt 0 v10 fun v11 =>
 pExt 1 v10 fun _ =>
 pBuild [(.int .i64 0), (.int .i64 0), .nils] [(0, 1), (1, 1)] [(.int .i64 1), v11] fun v13 =>
 fStore 3 x3 v13 h fun h =>
 fLoadN 3 x3 h fun v14 =>
 k v14 h) fun j2 =>
 fNil (nth a 2) fun v15 =>
 pFadr 3 v15 fun v16 =>
 fLoad1 v16 h fun v17 =>
 pLenL v17 fun v18 =>
 (fLoop 17 N fun l19 x0 x1 x2 x3 x4 _ _ _ _ x9 x10 x11 _ _ _ _ _ h =>
 pLss x11 x10 fun v20 =>
 fJoin 17 (fun x0 x1 x2 x3 x4 _ _ _ x8 x9 x10 x11 x12 _ _ _ x16 h =>
 fJoin 17 (fun x0 x1 x2 x3 x4 x5 x6 x7 x8 x9 x10 x11 x12 x13 x14 x15 x16 h =>
 pAdd x11 (.int .i64 1) fun v23 =>
 l19 x0 x1 x2 x3 x4 x5 x6 x7 x8 x9 x10 v23 x12 x13 x14 x15 x16 h) fun j22 =>
 pIadr 1 x9 x11 fun v24 =>
 fLoad1 v24 h fun v25 =>
 call (.fn 189 []) [x0, x1, v25] h fun v26 h =>
 fAlloc 0 [(.int .i64 0), (.int .i64 0), .nils] h fun v27 h =>
 fStore 3 v27 v26 h fun h =>
 fJoin 17 (fun x0 x1 x2 x3 x4 x5 x6 x7 x8 x9 x10 x11 x12 x13 x14 x15 _ h =>
 pFadr 1 x7 fun v29 =>
 fLoad1 v29 h fun v30 =>
 pIadrA 2 1 x4 x5 fun v31 =>
 fStore 1 v31 v30 h fun h =>
 j22 x0 x1 x2 x3 x4 x5 x6 x7 x8 x9 x10 x11 x12 x13 x14 x15 x5 h) fun j28 =>
 pFadr 0 v27 fun v32 =>
 fLoad1 v32 h fun v33 =>
 pNeq v33 (.int .i64 1) fun v34 =>
 fIf v34 (
 pBuild [(.int .i64 0), (.int .i64 0), .nils] [(0, 1)] [(.int .i64 3)] fun v35 =>
 fStore 3 x3 v35 h fun h =>
 fLoadN 3 x3 h fun v36 =>
 k v36 h) (
 j28 x0 x1 x2 x3 x4 x11 v25 v27 x8 x9 x10 x11 x12 x11 v25 v26 x16 h)) fun j21 =>
 fIf v20 (
 j21 x0 x1 x2 x3 x4 .any .any .any .any x9 x10 x11 v20 .any .any .any .any h) (
 j2 x0 x1 x2 x3 x4 .any .any .any .any x9 x10 x11 v20 .any .any .any .any h)) (nth a 0) (nth a 1) (nth a 2) v0 v1 (nth a 8) (nth a 9) (nth a 10) (nth a 11) v17 v18 (.int .i64 0) (nth a 19) (nth a 20) (nth a 22) (nth a 26) (nth a 31) h

theorem e217___need_machine__prim {β : Type} (I : FI) (N : Nat) (call : FCall β) (a : List AV) (h : H) (k : K β) : fBody I 217 T.s217___need_machine__prim N call a h k = f217___need_machine__prim N call a h k := by kernel_rfl

noncomputable def f218___need_frame__with {β : Type} (_ : Nat) (_ : FCall β) (a : List AV) (h : H) (k : K β) : Option β :=
 fNil (nth a 0) fun v0 =>
 pFadr 1 v0 fun v1 =>
 fLoad1 v1 h fun v2 =>
 fNil (nth a 0) fun v3 =>
 pFadr 1 v3 fun v4 =>
 fLoad1 v4 h fun v5 =>
 pLenL v5 fun v6 =>
 fNil (nth a 0) fun v7 =>
 pFadr 1 v7 fun v8 =>
 fLoad1 v8 h fun v9 =>
 pLenL v9 fun v10 =>
 pSlL 1 false true true v2 [v6, v10] fun v11 =>
 fApp 0 1 8 v11 (nth a 1) h fun v12 h =>
 fNil (nth a 0) fun v13 =>
 pFadr 0 v13 fun v14 =>
 fLoad1 v14 h fun v15 =>
 fNil (nth a 0) fun v16 =>
 pFadr 2 v16 fun v17 =>
 fLoad1 v17 h fun v18 =>
 pBuild [.nils, .nils, (.int .i64 0)] [(0, 1), (1, 1), (2, 1)] [v15, v12, v18] fun v19 =>
 fBox 0 v19 h fun v20 h =>
 k v20 h

theorem e218___need_frame__with {β : Type} (I : FI) (N : Nat) (call : FCall β) (a : List AV) (h : H) (k : K β) : fBody I 218 T.s218___need_frame__with N call a h k = f218___need_frame__with N call a h k := by kernel_rfl

noncomputable def f219___need_frame__kid {β : Type} (_ : Nat) (_ : FCall β) (a : List AV) (h : H) (k : K β) : Option β :=
 fJoin 4 (fun x0 x1 _ _ h =>
 fNil x0 fun v1 =>
 pFadr 0 v1 fun v2 =>
 fLoad1 v2 h fun v3 =>
 fNil x0 fun v4 =>
 pFadr 1 v4 fun v5 =>
 fLoad1 v5 h fun v6 =>
 fNil x0 fun v7 =>
 pFadr 2 v7 fun v8 =>
 fLoad1 v8 h fun v9 =>
 pBuild [.nils, (.int .i64 0), .nils, (.int .i64 0), (.bool false), (.int .i64 0), (.int .i64 0), .nils, (.bool false), (.int .i64 0)] [(0, 1), (1, 1), (2, 1), (3, 1)] [v3, x1, v6, v9] fun v10 =>
 fBox 0 v10 h fun v11 h =>
 k v11 h) fun j0 =>
 fNil (nth a 0) fun v12 =>
 pFadr 0 v12 fun v13 =>
 fLoad1 v13 h fun v14 =>
 pIadr 4 v14 (nth a 1) fun v15 =>
 fNil v15 fun v16 =>
 pFadr 0 v16 fun v17 =>
 fLoad1 v17 h fun v18 =>
 pEql v18 (.int .i64 1) fun v19 =>
 fIf v19 (
 fNil (nth a 0) fun v20 =>
 pFadr 1 v20 fun v21 =>
 fLoad1 v21 h fun v22 =>
 fNil v15 fun v23 =>
 pFadr 1 v23 fun v24 =>
 fLoad1 v24 h fun v25 =>
 pIadr 1 v22 v25 fun v26 =>
 fLoad1 v26 h fun v27 =>
 k v27 h) (
 j0 (nth a 0) (nth a 1) .nilp v15 h)

theorem e219___need_frame__kid {β : Type} (I : FI) (N : Nat) (call : FCall β) (a : List AV) (h : H) (k : K β) : fBody I 219 T.s219___need_frame__kid N call a h k = f219___need_frame__kid N call a h k := by kernel_rfl

noncomputable def f224_sleuthref1_op {β : Type} (N : Nat) (_ : FCall β) (a : List AV) (h : H) (k : K β) : Option β :=
 fBslice 0 [(.str []), (.str []), (.str []), (.str []), (.str [])] 5 [(0, 1), (1, 1), (2, 1), (3, 1), (4, 1)] [(.str [43]), (.str [45]), (.str [42]), (.str [61]), (.str [60])] h fun v0 h =>
 fJoin 4 (fun _ _ _ _ h =>
 k (.int .i64 (-1)) h) fun j1 =>
 (fLoop 4 N fun l2 x0 _ x2 x3 h =>
 fJoin 4 (fun x0 x1 x2 x3 h =>
 fJoin 4 (fun x0 x1 x2 x3 h =>
 pAdd x3 (.int .i64 1) fun v5 =>
 l2 x0 x1 x2 v5 h) fun j4 =>
 pIadr 1 x2 x3 fun v6 =>
 fLoad1 v6 h fun v7 =>
 pSEql v7 x0 fun v8 =>
 fIf v8 (
 k x3 h) (
 j4 x0 x1 x2 x3 h)) fun j3 =>
 pLenL x2 fun v9 =>
 pLss x3 v9 fun v10 =>
 fIf v10 (
 j3 x0 .any x2 x3 h) (
 j1 x0 .any x2 x3 h)) (nth a 0) (.int .i64 0) v0 (.int .i64 0) h

theorem e224_sleuthref1_op {β : Type} (I : FI) (N : Nat) (call : FCall β) (a : List AV) (h : H) (k : K β) : fBody I 224 T.s224_sleuthref1_op N call a h k = f224_sleuthref1_op N call a h k := by kernel_rfl

noncomputable def f225___sleuthref1_reader__kids {β : Type} (N : Nat) (call : FCall β) (a : List AV) (h : H) (k : K β) : Option β :=
 fJoin 5 (fun x0 x1 x2 x3 x4 h =>
 fJoin 5 (fun _ _ _ x3 _ h =>
 k x3 h) fun j1 =>
 call (.fn 176 []) [x0] h fun v2 h =>
 pSNeq v2 (.str [41]) fun v3 =>
 fIf v3 (
 fNil x0 fun v4 =>
 pFadr 1 v4 fun v5 =>
 fStore 1 v5 (.bool true) h fun h =>
 j1 x0 x1 x2 x3 x4 h) (
 j1 x0 x1 x2 x3 x4 h)) fun j0 =>
 (fLoop 5 N fun l6 x0 x1 _ x3 _ h =>
 fJoin 5 (fun x0 x1 x2 x3 x4 h =>
 fJoin 5 (fun x0 x1 x2 x3 _ h =>
 call (.fn 178 []) [x0] h fun v9 h =>
 fBslice 0 [(.int .i64 0)] 1 [(0, 1)] [v9] h fun v10 h =>
 fApp 0 1 8 x3 v10 h fun v11 h =>
 l6 x0 x1 x2 v11 v9 h) fun j8 =>
 pLenL x3 fun v12 =>
 pEql v12 x1 fun v13 =>
 fIf v13 (
 fNil x0 fun v14 =>
 pFadr 1 v14 fun v15 =>
 fStore 1 v15 (.bool true) h fun h =>
 k x3 h) (
 j8 x0 x1 x2 x3 x4 h)) fun j7 =>
 fNil x0 fun v16 =>
 pFadr 1 v16 fun v17 =>
 fLoad1 v17 h fun v18 =>
 pNot v18 fun v19 =>
 fAnd v19 h (fun h k =>
 fNil x0 fun v20 =>
 pFadr 0 v20 fun v21 =>
 fLoad1 v21 h fun v22 =>
 pLenL v22 fun v23 =>
 pGtr v23 (.int .i64 0) fun v24 =>
 k v24 h) fun v25 h =>
 fAnd v25 h (fun h k =>
 fNil x0 fun v26 =>
 pFadr 0 v26 fun v27 =>
 fLoad1 v27 h fun v28 =>
 pIadr 1 v28 (.int .i64 0) fun v29 =>
 fLoad1 v29 h fun v30 =>
 pSNeq v30 (.str [41]) fun v31 =>
 k v31 h) fun v32 h =>
 fIf v32 (
 j7 x0 x1 .any x3 .any h) (
 j0 x0 x1 .any x3 .any h)) (nth a 0) (nth a 1) .nils .nils (nth a 6) h

theorem e225___sleuthref1_reader__kids {β : Type} (I : FI) (N : Nat) (call : FCall β) (a : List AV) (h : H) (k : K β) : fBody I 225 T.s225___sleuthref1_reader__kids N call a h k = f225___sleuthref1_reader__kids N call a h k := by kernel_rfl

noncomputable def f226_prim_Do {β : Type} (_ : Nat) (call : FCall β) (a : List AV) (h : H) (k : K β) : Option β :=
 fJoin 7 (fun x0 x1 x2 x3 x4 _ _ h =>
 fJoin 7 (fun _ _ _ _ _ x5 _ h =>
 pConv .i16 x5 fun v2 =>
 pConv .i64 v2 fun v3 =>
 k (.tup [v3, (.int .i64 0)]) h) fun j1 =>
 pEql x0 (.int .i64 0) fun v4 =>
 fIf v4 (
 pAdd x1 x2 fun v5 =>
 j1 x0 x1 x2 x3 x4 v5 x0 h) (
 pEql x0 (.int .i64 1) fun v6 =>
 fIf v6 (
 pSub x1 x2 fun v7 =>
 j1 x0 x1 x2 x3 x4 v7 x0 h) (
 pEql x0 (.int .i64 2) fun v8 =>
 fIf v8 (
 pMul x1 x2 fun v9 =>
 j1 x0 x1 x2 x3 x4 v9 x0 h) (
 pEql x0 (.int .i64 3) fun v10 =>
 fIf v10 (
 pEql x1 x2 fun v11 =>
 call (.fn 230 []) [v11] h fun v12 h =>
 j1 x0 x1 x2 x3 x4 v12 x0 h) (
 pEql x0 (.int .i64 4) fun v13 =>
 fIf v13 (
 pLss x1 x2 fun v14 =>
 call (.fn 230 []) [v14] h fun v15 h =>
 j1 x0 x1 x2 x3 x4 v15 x0 h) (
 k (.tup [(.int .i64 0), (.int .i64 100)]) h)))))) fun j0 =>
 call (.fn 28 []) [(nth a 1)] h fun v16 h =>
 pNot v16 fun v17 =>
 fOr v17 h (fun h k =>
 call (.fn 28 []) [(nth a 2)] h fun v18 h =>
 pNot v18 fun v19 =>
 k v19 h) fun v20 h =>
 fIf v20 (
 k (.tup [(.int .i64 0), (.int .i64 100)]) h) (
 j0 (nth a 0) (nth a 1) (nth a 2) (.int .i64 0) (.int .i64 0) (nth a 8) (nth a 17) h)

theorem e226_prim_Do {β : Type} (I : FI) (N : Nat) (call : FCall β) (a : List AV) (h : H) (k : K β) : fBody I 226 T.s226_prim_Do N call a h k = f226_prim_Do N call a h k := by kernel_rfl

noncomputable def f229_expr_plain {β : Type} (_ : Nat) (_ : FCall β) (a : List AV) (h : H) (k : K β) : Option β :=
 fNil (nth a 0) fun v0 =>
 pFadr 2 v0 fun v1 =>
 fLoad1 v1 h fun v2 =>
 pGeq v2 (.int .i64 0) fun v3 =>
 fAnd v3 h (fun h k =>
 fNil (nth a 0) fun v4 =>
 pFadr 2 v4 fun v5 =>
 fLoad1 v5 h fun v6 =>
 pLeq v6 (nth a 1) fun v7 =>
 k v7 h) fun v8 h =>
 fAnd v8 h (fun h k =>
 fNil (nth a 0) fun v9 =>
 pFadr 3 v9 fun v10 =>
 fLoad1 v10 h fun v11 =>
 pLenL v11 fun v12 =>
 pGeq v12 (nth a 2) fun v13 =>
 k v13 h) fun v14 h =>
 fAnd v14 h (fun h k =>
 fNil (nth a 0) fun v15 =>
 pFadr 3 v15 fun v16 =>
 fLoad1 v16 h fun v17 =>
 pLenL v17 fun v18 =>
 pLeq v18 (nth a 3) fun v19 =>
 k v19 h) fun v20 h =>
 k v20 h

theorem e229_expr_plain {β : Type} (I : FI) (N : Nat) (call : FCall β) (a : List AV) (h : H) (k : K β) : fBody I 229 T.s229_expr_plain N call a h k = f229_expr_plain N call a h k := by kernel_rfl

noncomputable def f230_prim_truth {β : Type} (_ : Nat) (_ : FCall β) (a : List AV) (h : H) (k : K β) : Option β :=
 fJoin 2 (fun _ _ h =>
 k (.int .i64 0) h) fun j0 =>
 fIf (nth a 0) (
 k (.int .i64 1) h) (
 j0 (nth a 0) (.int .i64 0) h)

theorem e230_prim_truth {β : Type} (I : FI) (N : Nat) (call : FCall β) (a : List AV) (h : H) (k : K β) : fBody I 230 T.s230_prim_truth N call a h k = f230_prim_truth N call a h k := by kernel_rfl

end Am.F
