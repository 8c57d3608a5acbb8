/- What the functions come to. -/
import Derived.Test.YtepnfifgbkmnoaaDoorAmZc14T0
import Derived.Test.YtepnfifgbkmnoaaDoorAmFs
set_option maxRecDepth 100000
namespace Am.F
open Go Am
noncomputable def f16_sleuthlaw0_Num {β : Type} (_ : Nat) (_ : FCall β) (a : List AV) (h : H) (k : K β) : Option β :=
 k (nth a 0) h

theorem e16_sleuthlaw0_Num {β : Type} (I : FI) (N : Nat) (call : FCall β) (a : List AV) (h : H) (k : K β) : fBody I 16 T.s16_sleuthlaw0_Num N call a h k = f16_sleuthlaw0_Num N call a h k := by kernel_rfl

noncomputable def f17_term_May {β : Type} (_ : Nat) (call : FCall β) (a : List AV) (h : H) (k : K β) : Option β :=
 fJoin 10 (fun x0 _ _ _ _ _ _ _ _ _ h =>
 call (.fn 24 []) [x0] h fun v1 h =>
 pExt 0 v1 fun _ =>
 pExt 1 v1 fun _ =>
 pExt 2 v1 fun _ =>
 pExt 3 v1 fun v5 =>
 pExt 4 v1 fun v6 =>
 fAnd v6 h (fun h k =>
 pSEql v5 (.str []) fun v7 =>
 k v7 h) fun v8 h =>
 k v8 h) fun j0 =>
 pLenS (nth a 0) fun v9 =>
 pGtr v9 (.int .i64 1024) fun v10 =>
 fIf v10 (
 k (.bool false) h) (
 j0 (nth a 0) (.bool false) (nth a 6) (nth a 7) (nth a 11) (nth a 14) (nth a 15) (nth a 16) (nth a 17) (nth a 18) h)

theorem e17_term_May {β : Type} (I : FI) (N : Nat) (call : FCall β) (a : List AV) (h : H) (k : K β) : fBody I 17 T.s17_term_May N call a h k = f17_term_May N call a h k := by kernel_rfl

noncomputable def f22_sleuthref0_Decimal {β : Type} (N : Nat) (_ : FCall β) (a : List AV) (h : H) (k : K β) : Option β :=
 pConv .u64 (nth a 0) fun v0 =>
 fJoin 4 (fun x0 x1 x2 _ h =>
 fJoin 4 (fun x0 x1 x2 x3 h =>
 fJoin 4 (fun _ _ _ x3 h =>
 fB2s x3 h fun v4 =>
 k v4 h) fun j3 =>
 pLss x0 (.int .i64 0) fun v5 =>
 fIf v5 (
 fBslice 0 [(.int .u8 0)] 1 [(0, 1)] [(.int .u8 45)] h fun v6 h =>
 fApp 0 1 1 v6 x3 h fun v7 h =>
 j3 x0 x1 x2 v7 h) (
 j3 x0 x1 x2 x3 h)) fun j2 =>
 (fLoop 4 N fun l8 x0 _ x2 x3 h =>
 fJoin 4 (fun x0 x1 x2 x3 h =>
 pBin .rem x2 (.int .u64 10) fun v10 =>
 pAdd (.int .u64 48) v10 fun v11 =>
 pConv .u8 v11 fun v12 =>
 fBslice 0 [(.int .u8 0)] 1 [(0, 1)] [v12] h fun v13 h =>
 fApp 0 1 1 v13 x3 h fun v14 h =>
 pBin .quo x2 (.int .u64 10) fun v15 =>
 l8 x0 x1 v15 v14 h) fun j9 =>
 pGtr x2 (.int .u64 0) fun v16 =>
 fOr v16 h (fun h k =>
 pLenL x3 fun v17 =>
 pEql v17 (.int .i64 0) fun v18 =>
 k v18 h) fun v19 h =>
 fIf v19 (
 j9 x0 .any x2 x3 h) (
 j2 x0 .any x2 x3 h)) x0 x1 x2 .nils h) fun j1 =>
 pLss (nth a 0) (.int .i64 0) fun v20 =>
 fIf v20 (
 pAdd (nth a 0) (.int .i64 1) fun v21 =>
 pNeg v21 fun v22 =>
 pConv .u64 v22 fun v23 =>
 pAdd v23 (.int .u64 1) fun v24 =>
 j1 (nth a 0) (.str []) v24 (nth a 4) h) (
 j1 (nth a 0) (.str []) v0 (nth a 4) h)

theorem e22_sleuthref0_Decimal {β : Type} (I : FI) (N : Nat) (call : FCall β) (a : List AV) (h : H) (k : K β) : fBody I 22 T.s22_sleuthref0_Decimal N call a h k = f22_sleuthref0_Decimal N call a h k := by kernel_rfl

noncomputable def f24_term_cut {β : Type} (N : Nat) (call : FCall β) (a : List AV) (h : H) (k : K β) : Option β :=
 call (.fn 33 []) [(nth a 0)] h fun v0 h =>
 pExt 0 v0 fun v1 =>
 pExt 1 v0 fun v2 =>
 fJoin 49 (fun x0 x1 x2 x3 x4 x5 x6 x7 x8 x9 x10 x11 x12 x13 x14 x15 x16 x17 x18 x19 x20 x21 x22 x23 x24 x25 x26 x27 x28 x29 x30 x31 x32 x33 x34 x35 x36 x37 x38 x39 x40 x41 x42 x43 x44 x45 x46 x47 x48 h =>
 fJoin 49 (fun x0 x1 x2 x3 x4 x5 x6 x7 _ _ x10 x11 x12 x13 x14 x15 x16 x17 x18 x19 x20 x21 x22 _ _ _ x26 x27 x28 x29 x30 x31 x32 x33 x34 x35 x36 x37 x38 x39 x40 x41 x42 x43 x44 x45 x46 x47 x48 h =>
 fJoin 49 (fun x0 x1 x2 x3 x4 x5 x6 x7 x8 x9 _ _ x12 x13 x14 x15 x16 x17 x18 x19 x20 x21 x22 x23 x24 x25 x26 x27 _ _ _ x31 x32 x33 x34 x35 x36 x37 x38 x39 x40 x41 x42 x43 x44 x45 x46 x47 x48 h =>
 call (.fn 35 []) [x6] h fun v6 h =>
 pExt 0 v6 fun v7 =>
 pExt 1 v6 fun v8 =>
 fJoin 49 (fun x0 x1 x2 x3 x4 x5 x6 x7 x8 x9 x10 x11 _ x13 x14 x15 x16 x17 x18 x19 x20 x21 x22 x23 x24 x25 x26 x27 x28 x29 x30 x31 x32 x33 x34 x35 x36 x37 x38 x39 x40 x41 x42 x43 x44 x45 x46 x47 x48 h =>
 fJoin 49 (fun _ _ _ _ _ _ _ x7 _ _ x10 _ x12 _ _ _ _ _ _ _ _ _ _ _ _ _ _ _ _ _ _ _ _ _ _ _ _ _ _ _ _ _ _ _ _ _ _ _ _ h =>
 call (.fn 37 []) [x7, (.str [41])] h fun v11 h =>
 pExt 0 v11 fun v12 =>
 pExt 1 v11 fun v13 =>
 k (.tup [(.int .i64 2), x10, x12, v12, v13]) h) fun j10 =>
 (fLoop 49 N fun l14 _ _ _ _ _ _ _ x7 _ _ x10 _ x12 _ _ _ _ _ _ _ _ _ _ _ _ _ _ _ _ _ _ _ _ _ _ _ _ _ _ _ _ _ _ _ _ _ _ _ _ h =>
 fJoin 49 (fun x0 x1 x2 x3 x4 x5 x6 x7 x8 x9 x10 x11 x12 _ _ _ x16 x17 x18 x19 x20 x21 x22 x23 x24 x25 x26 x27 x28 x29 x30 x31 x32 x33 _ _ _ _ _ _ x40 x41 x42 x43 x44 x45 x46 x47 x48 h =>
 pSlS true false x7 [(.int .i64 1)] fun v16 =>
 call (.fn 24 []) [v16] h fun v17 h =>
 pExt 0 v17 fun v18 =>
 pExt 1 v17 fun v19 =>
 pExt 2 v17 fun v20 =>
 pExt 3 v17 fun v21 =>
 pExt 4 v17 fun v22 =>
 fJoin 49 (fun x0 x1 x2 x3 x4 x5 x6 _ x8 x9 x10 x11 x12 x13 x14 x15 x16 x17 x18 x19 x20 x21 x22 x23 x24 x25 x26 x27 x28 x29 x30 x31 x32 x33 x34 x35 x36 x37 x38 x39 _ _ x42 x43 x44 x45 x46 x47 x48 h =>
 pLenS x13 fun v24 =>
 pLenS x14 fun v25 =>
 pSub v24 v25 fun v26 =>
 pSlS false true x13 [v26] fun v27 =>
 fBslice 0 [(.str [])] 1 [(0, 1)] [v27] h fun v28 h =>
 fApp 0 1 16 x12 v28 h fun v29 h =>
 call (.fn 36 []) [x14, (.str [32])] h fun v30 h =>
 pNot v30 fun v31 =>
 fIf v31 (
 j10 x0 x1 x2 x3 x4 x5 x6 x14 x8 x9 x10 x11 v29 x13 x14 x15 x16 x17 x18 x19 x20 x21 x22 x23 x24 x25 x26 x27 x28 x29 x30 x31 x32 x33 x34 x35 x36 x37 x38 x39 v29 x14 x42 x43 x44 x45 x46 x47 x48 h) (
 l14 x0 x1 x2 x3 x4 x5 x6 x14 x8 x9 x10 x11 v29 x13 x14 x15 x16 x17 x18 x19 x20 x21 x22 x23 x24 x25 x26 x27 x28 x29 x30 x31 x32 x33 x34 x35 x36 x37 x38 x39 v29 x14 x42 x43 x44 x45 x46 x47 x48 h)) fun j23 =>
 pNot v22 fun v32 =>
 fIf v32 (
 k (.tup [(.int .i64 0), (.int .i64 0), .nils, (.str []), (.bool false)]) h) (
 j23 x0 x1 x2 x3 x4 x5 x6 x7 x8 x9 x10 x11 x12 v16 v21 v22 x16 x17 x18 x19 x20 x21 x22 x23 x24 x25 x26 x27 x28 x29 x30 x31 x32 x33 v17 v18 v19 v20 v21 v22 x40 x41 x42 x43 x44 x45 x46 x47 x48 h)) fun j15 =>
 pLenL x12 fun v33 =>
 pLss v33 (.int .i64 3) fun v34 =>
 fIf v34 (
 j15 .any .any .any .any .any .any .any x7 .any .any x10 .any x12 .any .any .any .any .any .any .any .any .any .any .any .any .any .any .any .any .any .any .any .any .any .any .any .any .any .any .any .any .any .any .any .any .any .any .any .any h) (
 j10 .any .any .any .any .any .any .any x7 .any .any x10 .any x12 .any .any .any .any .any .any .any .any .any .any .any .any .any .any .any .any .any .any .any .any .any .any .any .any .any .any .any .any .any .any .any .any .any .any .any .any h)) x0 x1 x2 x3 x4 x5 x6 x7 x8 x9 x10 x11 .nils x13 x14 x15 x16 x17 x18 x19 x20 x21 x22 x23 x24 x25 x26 x27 x28 x29 x30 x31 x32 x33 x34 x35 x36 x37 x38 x39 x40 x41 x42 x43 x44 x45 x46 x47 x48 h) fun j9 =>
 pNot v8 fun v35 =>
 fOr v35 h (fun h k =>
 call (.fn 36 []) [x7, (.str [40])] h fun v36 h =>
 pNot v36 fun v37 =>
 k v37 h) fun v38 h =>
 fIf v38 (
 k (.tup [(.int .i64 2), v7, .nils, x7, v8]) h) (
 j9 x0 x1 x2 x3 x4 x5 x6 x7 x8 x9 v7 v8 x12 x13 x14 x15 x16 x17 x18 x19 x20 x21 x22 x23 x24 x25 x26 x27 v6 v7 v8 x31 x32 x33 x34 x35 x36 x37 x38 x39 x40 x41 x42 x43 x44 x45 x46 x47 x48 h)) fun j5 =>
 call (.fn 34 []) [x6] h fun v39 h =>
 pExt 0 v39 fun v40 =>
 pExt 1 v39 fun v41 =>
 fIf v41 (
 k (.tup [(.int .i64 1), v40, .nils, x7, (.bool true)]) h) (
 j5 x0 x1 x2 x3 x4 x5 x6 x7 v40 v41 x10 x11 x12 x13 x14 x15 x16 x17 x18 x19 x20 x21 x22 v39 v40 v41 x26 x27 x28 x29 x30 x31 x32 x33 x34 x35 x36 x37 x38 x39 x40 x41 x42 x43 x44 x45 x46 x47 x48 h)) fun j4 =>
 pSEql x6 (.str [33]) fun v42 =>
 fIf v42 (
 k (.tup [(.int .i64 3), (.int .i64 0), .nils, x7, (.bool true)]) h) (
 j4 x0 x1 x2 x3 x4 x5 x6 x7 x8 x9 x10 x11 x12 x13 x14 x15 x16 x17 x18 x19 x20 x21 x22 x23 x24 x25 x26 x27 x28 x29 x30 x31 x32 x33 x34 x35 x36 x37 x38 x39 x40 x41 x42 x43 x44 x45 x46 x47 x48 h)) fun j3 =>
 pSEql v1 (.str [95]) fun v43 =>
 fIf v43 (
 k (.tup [(.int .i64 0), (.int .i64 0), .nils, v2, (.bool true)]) h) (
 j3 (nth a 0) (.int .i64 0) (.int .i64 0) .nils (.str []) (.bool false) v1 v2 (nth a 9) (nth a 10) (nth a 11) (nth a 12) (nth a 13) (nth a 14) (nth a 18) (nth a 19) (nth a 20) (nth a 21) v0 v1 v2 (nth a 29) (nth a 32) (nth a 33) (nth a 36) (nth a 37) (nth a 39) (nth a 40) (nth a 41) (nth a 44) (nth a 45) (nth a 53) (nth a 54) (nth a 55) (nth a 61) (nth a 64) (nth a 65) (nth a 66) (nth a 67) (nth a 68) (nth a 80) (nth a 81) (nth a 85) (nth a 88) (nth a 89) (nth a 90) (nth a 91) (nth a 92) (nth a 93) h)

theorem e24_term_cut {β : Type} (I : FI) (N : Nat) (call : FCall β) (a : List AV) (h : H) (k : K β) : fBody I 24 T.s24_term_cut N call a h k = f24_term_cut N call a h k := by kernel_rfl

noncomputable def f26_term_All {β : Type} (N : Nat) (call : FCall β) (a : List AV) (h : H) (k : K β) : Option β :=
 fJoin 7 (fun _ _ _ _ _ _ _ h =>
 k (.bool true) h) fun j0 =>
 pLenL (nth a 0) fun v1 =>
 (fLoop 7 N fun l2 _ _ _ x3 x4 x5 _ h =>
 pLss x5 x4 fun v3 =>
 fJoin 7 (fun x0 x1 _ x3 x4 x5 x6 h =>
 fJoin 7 (fun x0 x1 x2 x3 x4 x5 x6 h =>
 pAdd x5 (.int .i64 1) fun v6 =>
 l2 x0 x1 x2 x3 x4 v6 x6 h) fun j5 =>
 pIadr 1 x3 x5 fun v7 =>
 fLoad1 v7 h fun v8 =>
 call (.fn 17 []) [v8] h fun v9 h =>
 pNot v9 fun v10 =>
 fIf v10 (
 k (.bool false) h) (
 j5 x0 x1 v8 x3 x4 x5 x6 h)) fun j4 =>
 fIf v3 (
 j4 .any .any .any x3 x4 x5 v3 h) (
 j0 .any .any .any x3 x4 x5 v3 h)) (nth a 0) (.bool false) (nth a 4) (nth a 0) v1 (.int .i64 0) (nth a 8) h

theorem e26_term_All {β : Type} (I : FI) (N : Nat) (call : FCall β) (a : List AV) (h : H) (k : K β) : fBody I 26 T.s26_term_All N call a h k = f26_term_All N call a h k := by kernel_rfl

noncomputable def f28_prim_May {β : Type} (_ : Nat) (_ : FCall β) (a : List AV) (h : H) (k : K β) : Option β :=
 pGeq (nth a 0) (.int .i64 (-32768)) fun v0 =>
 fAnd v0 h (fun h k =>
 pLeq (nth a 0) (.int .i64 32767) fun v1 =>
 k v1 h) fun v2 h =>
 k v2 h

theorem e28_prim_May {β : Type} (I : FI) (N : Nat) (call : FCall β) (a : List AV) (h : H) (k : K β) : fBody I 28 T.s28_prim_May N call a h k = f28_prim_May N call a h k := by kernel_rfl

noncomputable def f33_term_word {β : Type} (_ : Nat) (call : FCall β) (a : List AV) (h : H) (k : K β) : Option β :=
 call (.fn 44 []) [(nth a 0), (.str [32, 40, 41])] h fun v0 h =>
 fJoin 4 (fun x0 _ _ x3 h =>
 pSlS false true x0 [x3] fun v2 =>
 pSlS true false x0 [x3] fun v3 =>
 k (.tup [v2, v3]) h) fun j1 =>
 pLss v0 (.int .i64 0) fun v4 =>
 fIf v4 (
 pLenS (nth a 0) fun v5 =>
 j1 (nth a 0) (.str []) (.str []) v5 h) (
 j1 (nth a 0) (.str []) (.str []) v0 h)

theorem e33_term_word {β : Type} (I : FI) (N : Nat) (call : FCall β) (a : List AV) (h : H) (k : K β) : fBody I 33 T.s33_term_word N call a h k = f33_term_word N call a h k := by kernel_rfl

noncomputable def f34_term_Number {β : Type} (_ : Nat) (call : FCall β) (a : List AV) (h : H) (k : K β) : Option β :=
 call (.fn 45 []) [(nth a 0)] h fun v0 h =>
 pExt 0 v0 fun v1 =>
 pExt 1 v0 fun v2 =>
 pIsNil .ifc false v2 fun v3 =>
 fAnd v3 h (fun h k =>
 call (.fn 28 []) [v1] h fun v4 h =>
 k v4 h) fun v5 h =>
 fAnd v5 h (fun h k =>
 call (.fn 29 []) [v1] h fun v6 h =>
 pSEql v6 (nth a 0) fun v7 =>
 k v7 h) fun v8 h =>
 k (.tup [v1, v8]) h

theorem e34_term_Number {β : Type} (I : FI) (N : Nat) (call : FCall β) (a : List AV) (h : H) (k : K β) : fBody I 34 T.s34_term_Number N call a h k = f34_term_Number N call a h k := by kernel_rfl

noncomputable def f35_term_Tag {β : Type} (_ : Nat) (call : FCall β) (a : List AV) (h : H) (k : K β) : Option β :=
 call (.fn 37 []) [(nth a 0), (.str [64])] h fun v0 h =>
 pExt 0 v0 fun v1 =>
 pExt 1 v0 fun v2 =>
 call (.fn 46 []) [v1, (.int .i64 99)] h fun v3 h =>
 pExt 0 v3 fun v4 =>
 pExt 1 v3 fun v5 =>
 fAnd v2 h (fun h k =>
 k v5 h) fun v6 h =>
 k (.tup [v4, v6]) h

theorem e35_term_Tag {β : Type} (I : FI) (N : Nat) (call : FCall β) (a : List AV) (h : H) (k : K β) : fBody I 35 T.s35_term_Tag N call a h k = f35_term_Tag N call a h k := by kernel_rfl

noncomputable def f36_strings_HasPrefix {β : Type} (_ : Nat) (call : FCall β) (a : List AV) (h : H) (k : K β) : Option β :=
 call (.fn 47 []) [(nth a 0), (nth a 1)] h fun v0 h =>
 k v0 h

theorem e36_strings_HasPrefix {β : Type} (I : FI) (N : Nat) (call : FCall β) (a : List AV) (h : H) (k : K β) : fBody I 36 T.s36_strings_HasPrefix N call a h k = f36_strings_HasPrefix N call a h k := by kernel_rfl

noncomputable def f37_strings_CutPrefix {β : Type} (_ : Nat) (call : FCall β) (a : List AV) (h : H) (k : K β) : Option β :=
 call (.fn 48 []) [(nth a 0), (nth a 1)] h fun v0 h =>
 pExt 0 v0 fun v1 =>
 pExt 1 v0 fun v2 =>
 k (.tup [v1, v2]) h

theorem e37_strings_CutPrefix {β : Type} (I : FI) (N : Nat) (call : FCall β) (a : List AV) (h : H) (k : K β) : fBody I 37 T.s37_strings_CutPrefix N call a h k = f37_strings_CutPrefix N call a h k := by kernel_rfl

noncomputable def f46_term_Digits {β : Type} (_ : Nat) (call : FCall β) (a : List AV) (h : H) (k : K β) : Option β :=
 call (.fn 45 []) [(nth a 0)] h fun v0 h =>
 pExt 0 v0 fun v1 =>
 pExt 1 v0 fun v2 =>
 pIsNil .ifc false v2 fun v3 =>
 fAnd v3 h (fun h k =>
 pGeq v1 (.int .i64 0) fun v4 =>
 k v4 h) fun v5 h =>
 fAnd v5 h (fun h k =>
 pLeq v1 (nth a 1) fun v6 =>
 k v6 h) fun v7 h =>
 fAnd v7 h (fun h k =>
 call (.fn 29 []) [v1] h fun v8 h =>
 pSEql v8 (nth a 0) fun v9 =>
 k v9 h) fun v10 h =>
 k (.tup [v1, v10]) h

theorem e46_term_Digits {β : Type} (I : FI) (N : Nat) (call : FCall β) (a : List AV) (h : H) (k : K β) : fBody I 46 T.s46_term_Digits N call a h k = f46_term_Digits N call a h k := by kernel_rfl

noncomputable def f47_internal_stringslite_HasPrefix {β : Type} (_ : Nat) (_ : FCall β) (a : List AV) (h : H) (k : K β) : Option β :=
 pLenS (nth a 0) fun v0 =>
 pLenS (nth a 1) fun v1 =>
 pGeq v0 v1 fun v2 =>
 fAnd v2 h (fun h k =>
 pLenS (nth a 1) fun v3 =>
 pSlS false true (nth a 0) [v3] fun v4 =>
 pSEql v4 (nth a 1) fun v5 =>
 k v5 h) fun v6 h =>
 k v6 h

theorem e47_internal_stringslite_HasPrefix {β : Type} (I : FI) (N : Nat) (call : FCall β) (a : List AV) (h : H) (k : K β) : fBody I 47 T.s47_internal_stringslite_HasPrefix N call a h k = f47_internal_stringslite_HasPrefix N call a h k := by kernel_rfl

noncomputable def f48_internal_stringslite_CutPrefix {β : Type} (_ : Nat) (call : FCall β) (a : List AV) (h : H) (k : K β) : Option β :=
 fJoin 4 (fun x0 x1 _ _ h =>
 pLenS x1 fun v1 =>
 pSlS true false x0 [v1] fun v2 =>
 k (.tup [v2, (.bool true)]) h) fun j0 =>
 call (.fn 47 []) [(nth a 0), (nth a 1)] h fun v3 h =>
 pNot v3 fun v4 =>
 fIf v4 (
 k (.tup [(nth a 0), (.bool false)]) h) (
 j0 (nth a 0) (nth a 1) (.str []) (.bool false) h)

theorem e48_internal_stringslite_CutPrefix {β : Type} (I : FI) (N : Nat) (call : FCall β) (a : List AV) (h : H) (k : K β) : fBody I 48 T.s48_internal_stringslite_CutPrefix N call a h k = f48_internal_stringslite_CutPrefix N call a h k := by kernel_rfl

noncomputable def f248_sleuthlaw14_EquationForms {β : Type} (_ : Nat) (call : FCall β) (a : List AV) (h : H) (k : K β) : Option β :=
 fJoin 12 (fun x0 x1 x2 _ _ x5 x6 _ _ x9 x10 x11 h =>
 pBin .and x1 (.int .i64 1023) fun v1 =>
 pAdd (.int .i64 1) v1 fun v2 =>
 call (.fn 257 []) [] h fun v3 h =>
 pIadr 4 v3 (.int .i64 1) fun v4 =>
 fLoadN 4 v4 h fun v5 =>
 fAlloc 0 [(.int .i64 0), (.int .i64 0), .nils, (.str [])] h fun v6 h =>
 fStore 4 v6 v5 h fun h =>
 fJoin 12 (fun _ _ _ _ x4 _ _ _ _ _ _ _ h =>
 fLoadN 4 x4 h fun v8 =>
 call (.fn 258 []) [v8] h fun v9 h =>
 pExt 0 v9 fun v10 =>
 pExt 1 v9 fun v11 =>
 pSEql v10 (.str []) fun v12 =>
 fAnd v12 h (fun h k =>
 call (.fn 16 []) [v11] h fun v13 h =>
 pEql v13 (.int .i64 1400) fun v14 =>
 k v14 h) fun v15 h =>
 k v15 h) fun j7 =>
 pConv .u64 x0 fun v16 =>
 pBin .rem v16 (.int .u64 6) fun v17 =>
 pEql v17 (.int .u64 0) fun v18 =>
 fIf v18 (
 pNeg v2 fun v19 =>
 pFadr 0 v6 fun v20 =>
 fStore 1 v20 v19 h fun h =>
 j7 x0 x1 x2 v2 v6 x5 x6 v5 v17 x9 x10 x11 h) (
 pEql v17 (.int .u64 1) fun v21 =>
 fIf v21 (
 pAdd (.int .i64 7) v2 fun v22 =>
 pFadr 0 v6 fun v23 =>
 fStore 1 v23 v22 h fun h =>
 j7 x0 x1 x2 v2 v6 x5 x6 v5 v17 x9 x10 x11 h) (
 pEql v17 (.int .u64 2) fun v24 =>
 fIf v24 (
 fBslice 0 [(.str []), (.str []), (.str []), (.str [])] 4 [(0, 1), (1, 1), (2, 1), (3, 1)] [(.str [49]), (.str [50]), (.str [51]), (.str [52])] h fun v25 h =>
 pFadr 2 v6 fun v26 =>
 fStore 1 v26 v25 h fun h =>
 j7 x0 x1 x2 v2 v6 x5 x6 v5 v17 x9 x10 x11 h) (
 pEql v17 (.int .u64 3) fun v27 =>
 fIf v27 (
 pFadr 2 v6 fun v28 =>
 fLoad1 v28 h fun v29 =>
 pIadr 1 v29 (.int .i64 0) fun v30 =>
 fStore 1 v30 (.str [49, 32, 50]) h fun h =>
 j7 x0 x1 x2 v2 v6 x5 x6 v5 v17 x9 x10 x11 h) (
 pEql v17 (.int .u64 4) fun v31 =>
 fIf v31 (
 pFadr 2 v6 fun v32 =>
 fLoad1 v32 h fun v33 =>
 pIadr 1 v33 (.int .i64 1) fun v34 =>
 fStore 1 v34 (.str []) h fun h =>
 j7 x0 x1 x2 v2 v6 x5 x6 v5 v17 x9 x10 x11 h) (
 pFadr 3 v6 fun v35 =>
 fStore 1 v35 (.str [61, 32, 57]) h fun h =>
 j7 x0 x1 x2 v2 v6 x5 x6 v5 v17 x9 x10 x11 h)))))) fun j0 =>
 call (.fn 256 []) [] h fun v36 h =>
 pNot v36 fun v37 =>
 fIf v37 (
 k (.bool false) h) (
 j0 (nth a 0) (nth a 1) (.bool false) (nth a 5) (nth a 6) (nth a 7) (nth a 8) (nth a 16) (nth a 19) (nth a 45) (nth a 48) (nth a 49) h)

theorem e248_sleuthlaw14_EquationForms {β : Type} (I : FI) (N : Nat) (call : FCall β) (a : List AV) (h : H) (k : K β) : fBody I 248 T.s248_sleuthlaw14_EquationForms N call a h k = f248_sleuthlaw14_EquationForms N call a h k := by kernel_rfl

noncomputable def f249_sleuthlaw14_EquationBy {β : Type} (_ : Nat) (call : FCall β) (a : List AV) (h : H) (k : K β) : Option β :=
 fJoin 11 (fun x0 x1 _ _ _ _ _ _ _ _ _ h =>
 pBin .and x0 (.int .i64 7) fun v1 =>
 fBslice 0 [(.str [])] 1 [(0, 1)] [(.str [49])] h fun v2 h =>
 fBslice 0 [(.str []), (.str [])] 2 [(0, 1), (1, 1)] [(.str [95]), (.str [33])] h fun v3 h =>
 fBslice 0 [(.str []), (.str []), (.str [])] 3 [(0, 1), (1, 1), (2, 1)] [(.str [64, 49, 40, 50, 32, 51, 41]), (.str [45, 52]), (.str [95])] h fun v4 h =>
 fBslice 0 [.nils, .nils, .nils, .nils] 4 [(0, 1), (1, 1), (2, 1), (3, 1)] [.nils, v2, v3, v4] h fun v5 h =>
 pBin .and x1 (.int .i64 3) fun v6 =>
 pIadr 1 v5 v6 fun v7 =>
 fLoad1 v7 h fun v8 =>
 fBslice 0 [(.str []), (.str []), (.str []), (.str [])] 4 [(0, 1), (1, 1), (2, 1), (3, 1)] [(.str []), (.str [32, 49]), (.str [32, 95, 32, 33]), (.str [32, 64, 49, 40, 50, 32, 51, 41, 32, 45, 52, 32, 95])] h fun v9 h =>
 pBin .and x1 (.int .i64 3) fun v10 =>
 pIadr 1 v9 v10 fun v11 =>
 fLoad1 v11 h fun v12 =>
 pBuild [(.int .i64 0), (.int .i64 0), .nils, (.str [])] [(0, 1), (1, 1), (2, 1), (3, 1)] [v1, x1, v8, (.str [64, 57])] fun v13 =>
 call (.fn 258 []) [v13] h fun v14 h =>
 pExt 0 v14 fun v15 =>
 pExt 1 v14 fun v16 =>
 call (.fn 16 []) [v16] h fun v17 h =>
 pEql v17 (.int .i64 0) fun v18 =>
 fAnd v18 h (fun h k =>
 call (.fn 22 []) [v1] h fun v19 h =>
 pSAdd (.str [102]) v19 fun v20 =>
 pSAdd v20 v12 fun v21 =>
 pSAdd v21 (.str [32, 61, 32, 64, 57]) fun v22 =>
 pSEql v15 v22 fun v23 =>
 k v23 h) fun v24 h =>
 fAnd v24 h (fun h k =>
 call (.fn 257 []) [] h fun v25 h =>
 pLenL v25 fun v26 =>
 pEql v26 (.int .i64 5) fun v27 =>
 k v27 h) fun v28 h =>
 k v28 h) fun j0 =>
 call (.fn 256 []) [] h fun v29 h =>
 pNot v29 fun v30 =>
 fIf v30 (
 k (.bool false) h) (
 j0 (nth a 0) (nth a 1) (.bool false) (nth a 5) (nth a 6) (nth a 7) (nth a 8) (nth a 9) (nth a 27) (nth a 33) (nth a 34) h)

theorem e249_sleuthlaw14_EquationBy {β : Type} (I : FI) (N : Nat) (call : FCall β) (a : List AV) (h : H) (k : K β) : fBody I 249 T.s249_sleuthlaw14_EquationBy N call a h k = f249_sleuthlaw14_EquationBy N call a h k := by kernel_rfl

noncomputable def f256_sleuthlaw14_awake {β : Type} (_ : Nat) (call : FCall β) (_ : List AV) (h : H) (k : K β) : Option β :=
 call (.fn 257 []) [] h fun v0 h =>
 pIadr 4 v0 (.int .i64 1) fun v1 =>
 fLoadN 4 v1 h fun v2 =>
 call (.fn 258 []) [v2] h fun v3 h =>
 pExt 0 v3 fun v4 =>
 pExt 1 v3 fun v5 =>
 call (.fn 257 []) [] h fun v6 h =>
 pIadr 4 v6 (.int .i64 0) fun v7 =>
 fLoadN 4 v7 h fun v8 =>
 call (.fn 258 []) [v8] h fun v9 h =>
 pExt 0 v9 fun v10 =>
 pExt 1 v9 fun v11 =>
 pBuild [(.int .i64 0), (.int .i64 0), .nils, (.str [])] [] [] fun v12 =>
 call (.fn 258 []) [v12] h fun v13 h =>
 pExt 0 v13 fun _ =>
 pExt 1 v13 fun v15 =>
 pSEql v4 (.str [102, 49, 32, 64, 55, 40, 95, 32, 52, 41, 32, 53, 32, 61, 32, 57]) fun v16 =>
 fAnd v16 h (fun h k =>
 call (.fn 16 []) [v5] h fun v17 h =>
 pEql v17 (.int .i64 0) fun v18 =>
 k v18 h) fun v19 h =>
 fAnd v19 h (fun h k =>
 pSEql v10 (.str [102, 48, 32, 61, 32, 57]) fun v20 =>
 k v20 h) fun v21 h =>
 fAnd v21 h (fun h k =>
 call (.fn 16 []) [v11] h fun v22 h =>
 pEql v22 (.int .i64 0) fun v23 =>
 k v23 h) fun v24 h =>
 fAnd v24 h (fun h k =>
 call (.fn 16 []) [v15] h fun v25 h =>
 pEql v25 (.int .i64 1400) fun v26 =>
 k v26 h) fun v27 h =>
 k v27 h

theorem e256_sleuthlaw14_awake {β : Type} (I : FI) (N : Nat) (call : FCall β) (a : List AV) (h : H) (k : K β) : fBody I 256 T.s256_sleuthlaw14_awake N call a h k = f256_sleuthlaw14_awake N call a h k := by kernel_rfl

noncomputable def f257_sleuthlaw14_some {β : Type} (_ : Nat) (_ : FCall β) (_ : List AV) (h : H) (k : K β) : Option β :=
 pBuild [(.int .i64 0), (.int .i64 0), .nils, (.str [])] [(1, 1), (3, 1)] [(.int .i64 (-1)), (.str [57])] fun v0 =>
 fBslice 0 [(.str []), (.str [])] 2 [(0, 1), (1, 1)] [(.str [64, 55, 40, 95, 32, 52, 41]), (.str [53])] h fun v1 h =>
 pBuild [(.int .i64 0), (.int .i64 0), .nils, (.str [])] [(0, 1), (1, 1), (2, 1), (3, 1)] [(.int .i64 1), (.int .i64 0), v1, (.str [57])] fun v2 =>
 pBuild [(.int .i64 0), (.int .i64 0), .nils, (.str [])] [(0, 1), (1, 1), (3, 1)] [(.int .i64 2), (.int .i64 0), (.str [33])] fun v3 =>
 fBslice 0 [(.str []), (.str [])] 2 [(0, 1), (1, 1)] [(.str [49]), (.str [95])] h fun v4 h =>
 pBuild [(.int .i64 0), (.int .i64 0), .nils, (.str [])] [(0, 1), (1, 1), (2, 1), (3, 1)] [(.int .i64 1), (.int .i64 1), v4, (.str [95])] fun v5 =>
 fBslice 0 [(.str []), (.str [])] 2 [(0, 1), (1, 1)] [(.str [49]), (.str [95])] h fun v6 h =>
 pBuild [(.int .i64 0), (.int .i64 0), .nils, (.str [])] [(0, 1), (1, 1), (2, 1), (3, 1)] [(.int .i64 1), (.int .i64 2), v6, (.str [95])] fun v7 =>
 fBslice 0 [(.int .i64 0), (.int .i64 0), .nils, (.str []), (.int .i64 0), (.int .i64 0), .nils, (.str []), (.int .i64 0), (.int .i64 0), .nils, (.str []), (.int .i64 0), (.int .i64 0), .nils, (.str []), (.int .i64 0), (.int .i64 0), .nils, (.str [])] 5 [(0, 4), (4, 4), (8, 4), (12, 4), (16, 4)] [v0, v2, v3, v5, v7] h fun v8 h =>
 k v8 h

theorem e257_sleuthlaw14_some {β : Type} (I : FI) (N : Nat) (call : FCall β) (a : List AV) (h : H) (k : K β) : fBody I 257 T.s257_sleuthlaw14_some N call a h k = f257_sleuthlaw14_some N call a h k := by kernel_rfl

noncomputable def f258_equation_Text {β : Type} (_ : Nat) (call : FCall β) (a : List AV) (h : H) (k : K β) : Option β :=
 fBox 0 (nth a 0) h fun v0 h =>
 fJoin 5 (fun _ x1 _ _ _ h =>
 pFadr 0 x1 fun v2 =>
 fLoad1 v2 h fun v3 =>
 pFadr 2 x1 fun v4 =>
 fLoad1 v4 h fun v5 =>
 call (.fn 29 []) [v3] h fun v6 h =>
 fLoad1 v4 h fun v7 =>
 fChk v7 v5 (
 pSAdd (.str [102]) v6 fun v8 =>
 fBslice 0 [(.str [])] 1 [(0, 1)] [v8] h fun v9 h =>
 fLoad1 v4 h fun v10 =>
 fChk v10 v5 (
 fApp 0 1 16 v9 v5 h fun v11 h =>
 pFadr 3 x1 fun v12 =>
 fLoad1 v12 h fun v13 =>
 fBslice 0 [(.str []), (.str [])] 2 [(0, 1), (1, 1)] [(.str [61]), v13] h fun v14 h =>
 fApp 0 1 16 v11 v14 h fun v15 h =>
 call (.fn 42 []) [v15, (.str [32])] h fun v16 h =>
 k (.tup [v16, (.int .i64 0)]) h))) fun j1 =>
 call (.fn 269 []) [v0] h fun v17 h =>
 pNot v17 fun v18 =>
 fIf v18 (
 k (.tup [(.str []), (.int .i64 1400)]) h) (
 j1 (nth a 0) v0 (.str []) (.int .i64 0) (nth a 4) h)

theorem e258_equation_Text {β : Type} (I : FI) (N : Nat) (call : FCall β) (a : List AV) (h : H) (k : K β) : fBody I 258 T.s258_equation_Text N call a h k = f258_equation_Text N call a h k := by kernel_rfl

noncomputable def f269_trail_Equation {β : Type} (_ : Nat) (call : FCall β) (a : List AV) (h : H) (k : K β) : Option β :=
 fNil (nth a 0) fun v0 =>
 pFadr 0 v0 fun v1 =>
 fLoad1 v1 h fun v2 =>
 pGeq v2 (.int .i64 0) fun v3 =>
 fAnd v3 h (fun h k =>
 fNil (nth a 0) fun v4 =>
 pFadr 0 v4 fun v5 =>
 fLoad1 v5 h fun v6 =>
 pLss v6 (.int .i64 8) fun v7 =>
 k v7 h) fun v8 h =>
 fAnd v8 h (fun h k =>
 fNil (nth a 0) fun v9 =>
 pFadr 2 v9 fun v10 =>
 fLoad1 v10 h fun v11 =>
 pLenL v11 fun v12 =>
 pLeq v12 (.int .i64 3) fun v13 =>
 k v13 h) fun v14 h =>
 fAnd v14 h (fun h k =>
 fNil (nth a 0) fun v15 =>
 pFadr 2 v15 fun v16 =>
 fLoad1 v16 h fun v17 =>
 call (.fn 26 []) [v17] h fun v18 h =>
 k v18 h) fun v19 h =>
 fAnd v19 h (fun h k =>
 fNil (nth a 0) fun v20 =>
 pFadr 3 v20 fun v21 =>
 fLoad1 v21 h fun v22 =>
 call (.fn 17 []) [v22] h fun v23 h =>
 k v23 h) fun v24 h =>
 k v24 h

theorem e269_trail_Equation {β : Type} (I : FI) (N : Nat) (call : FCall β) (a : List AV) (h : H) (k : K β) : fBody I 269 T.s269_trail_Equation N call a h k = f269_trail_Equation N call a h k := by kernel_rfl

end Am.F
