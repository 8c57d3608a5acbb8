/- What the functions come to. -/
import Derived.Test.YtepnfifgbkmnoaaDoorAmZc10T0
import Derived.Test.YtepnfifgbkmnoaaDoorAmFs
set_option maxRecDepth 100000
namespace Am.F
open Go Am
noncomputable def f11_term_Cut {β : Type} (_ : Nat) (call : FCall β) (a : List AV) (h : H) (k : K β) : Option β :=
 fJoin 17 (fun x0 _ _ _ _ _ _ _ _ _ _ _ _ _ _ _ _ h =>
 call (.fn 24 []) [x0] h fun v1 h =>
 pExt 0 v1 fun v2 =>
 pExt 1 v1 fun v3 =>
 pExt 2 v1 fun v4 =>
 pExt 3 v1 fun _ =>
 pExt 4 v1 fun _ =>
 k (.tup [v2, v3, v4, (.int .i64 0)]) h) fun j0 =>
 call (.fn 17 []) [(nth a 0)] h fun v7 h =>
 pNot v7 fun v8 =>
 fIf v8 (
 k (.tup [(.int .i64 0), (.int .i64 0), .nils, (.int .i64 200)]) h) (
 j0 (nth a 0) (.int .i64 0) (.int .i64 0) .nils (.int .i64 0) (nth a 6) (nth a 7) (nth a 8) (nth a 14) (nth a 17) (nth a 18) (nth a 19) (nth a 20) (nth a 21) (nth a 22) (nth a 23) (nth a 24) h)

theorem e11_term_Cut {β : Type} (I : FI) (N : Nat) (call : FCall β) (a : List AV) (h : H) (k : K β) : fBody I 11 T.s11_term_Cut N call a h k = f11_term_Cut N call a h k := by kernel_rfl

noncomputable def f16_sleuthlaw0_Num {β : Type} (_ : Nat) (_ : FCall β) (a : List AV) (h : H) (k : K β) : Option β :=
 k (nth a 0) h

theorem e16_sleuthlaw0_Num {β : Type} (I : FI) (N : Nat) (call : FCall β) (a : List AV) (h : H) (k : K β) : fBody I 16 T.s16_sleuthlaw0_Num N call a h k = f16_sleuthlaw0_Num N call a h k := by kernel_rfl

noncomputable def f17_term_May {β : Type} (_ : Nat) (call : FCall β) (a : List AV) (h : H) (k : K β) : Option β :=
 fJoin 10 (fun x0 _ _ _ _ _ _ _ _ _ h =>
 call (.fn 24 []) [x0] h fun v1 h =>
 pExt 0 v1 fun _ =>
 pExt 1 v1 fun _ =>
 pExt 2 v1 fun _ =>
 pExt 3 v1 fun v5 =>
 pExt 4 v1 fun v6 =>
 fAnd v6 h (fun h k =>
 pSEql v5 (.str []) fun v7 =>
 k v7 h) fun v8 h =>
 k v8 h) fun j0 =>
 pLenS (nth a 0) fun v9 =>
 pGtr v9 (.int .i64 1024) fun v10 =>
 fIf v10 (
 k (.bool false) h) (
 j0 (nth a 0) (.bool false) (nth a 6) (nth a 7) (nth a 11) (nth a 14) (nth a 15) (nth a 16) (nth a 17) (nth a 18) h)

theorem e17_term_May {β : Type} (I : FI) (N : Nat) (call : FCall β) (a : List AV) (h : H) (k : K β) : fBody I 17 T.s17_term_May N call a h k = f17_term_May N call a h k := by kernel_rfl

noncomputable def f24_term_cut {β : Type} (N : Nat) (call : FCall β) (a : List AV) (h : H) (k : K β) : Option β :=
 call (.fn 33 []) [(nth a 0)] h fun v0 h =>
 pExt 0 v0 fun v1 =>
 pExt 1 v0 fun v2 =>
 fJoin 49 (fun x0 x1 x2 x3 x4 x5 x6 x7 x8 x9 x10 x11 x12 x13 x14 x15 x16 x17 x18 x19 x20 x21 x22 x23 x24 x25 x26 x27 x28 x29 x30 x31 x32 x33 x34 x35 x36 x37 x38 x39 x40 x41 x42 x43 x44 x45 x46 x47 x48 h =>
 fJoin 49 (fun x0 x1 x2 x3 x4 x5 x6 x7 _ _ x10 x11 x12 x13 x14 x15 x16 x17 x18 x19 x20 x21 x22 _ _ _ x26 x27 x28 x29 x30 x31 x32 x33 x34 x35 x36 x37 x38 x39 x40 x41 x42 x43 x44 x45 x46 x47 x48 h =>
 fJoin 49 (fun x0 x1 x2 x3 x4 x5 x6 x7 x8 x9 _ _ x12 x13 x14 x15 x16 x17 x18 x19 x20 x21 x22 x23 x24 x25 x26 x27 _ _ _ x31 x32 x33 x34 x35 x36 x37 x38 x39 x40 x41 x42 x43 x44 x45 x46 x47 x48 h =>
 call (.fn 35 []) [x6] h fun v6 h =>
 pExt 0 v6 fun v7 =>
 pExt 1 v6 fun v8 =>
 fJoin 49 (fun x0 x1 x2 x3 x4 x5 x6 x7 x8 x9 x10 x11 _ x13 x14 x15 x16 x17 x18 x19 x20 x21 x22 x23 x24 x25 x26 x27 x28 x29 x30 x31 x32 x33 x34 x35 x36 x37 x38 x39 x40 x41 x42 x43 x44 x45 x46 x47 x48 h =>
 fJoin 49 (fun _ _ _ _ _ _ _ x7 _ _ x10 _ x12 _ _ _ _ _ _ _ _ _ _ _ _ _ _ _ _ _ _ _ _ _ _ _ _ _ _ _ _ _ _ _ _ _ _ _ _ h =>
 call (.fn 37 []) [x7, (.str [41])] h fun v11 h =>
 pExt 0 v11 fun v12 =>
 pExt 1 v11 fun v13 =>
 k (.tup [(.int .i64 2), x10, x12, v12, v13]) h) fun j10 =>
 (fLoop 49 N fun l14 _ _ _ _ _ _ _ x7 _ _ x10 _ x12 _ _ _ _ _ _ _ _ _ _ _ _ _ _ _ _ _ _ _ _ _ _ _ _ _ _ _ _ _ _ _ _ _ _ _ _ h =>
 fJoin 49 (fun x0 x1 x2 x3 x4 x5 x6 x7 x8 x9 x10 x11 x12 _ _ _ x16 x17 x18 x19 x20 x21 x22 x23 x24 x25 x26 x27 x28 x29 x30 x31 x32 x33 _ _ _ _ _ _ x40 x41 x42 x43 x44 x45 x46 x47 x48 h =>
 pSlS true false x7 [(.int .i64 1)] fun v16 =>
 call (.fn 24 []) [v16] h fun v17 h =>
 pExt 0 v17 fun v18 =>
 pExt 1 v17 fun v19 =>
 pExt 2 v17 fun v20 =>
 pExt 3 v17 fun v21 =>
 pExt 4 v17 fun v22 =>
 fJoin 49 (fun x0 x1 x2 x3 x4 x5 x6 _ x8 x9 x10 x11 x12 x13 x14 x15 x16 x17 x18 x19 x20 x21 x22 x23 x24 x25 x26 x27 x28 x29 x30 x31 x32 x33 x34 x35 x36 x37 x38 x39 _ _ x42 x43 x44 x45 x46 x47 x48 h =>
 pLenS x13 fun v24 =>
 pLenS x14 fun v25 =>
 pSub v24 v25 fun v26 =>
 pSlS false true x13 [v26] fun v27 =>
 fBslice 0 [(.str [])] 1 [(0, 1)] [v27] h fun v28 h =>
 fApp 0 1 16 x12 v28 h fun v29 h =>
 call (.fn 36 []) [x14, (.str [32])] h fun v30 h =>
 pNot v30 fun v31 =>
 fIf v31 (
 j10 x0 x1 x2 x3 x4 x5 x6 x14 x8 x9 x10 x11 v29 x13 x14 x15 x16 x17 x18 x19 x20 x21 x22 x23 x24 x25 x26 x27 x28 x29 x30 x31 x32 x33 x34 x35 x36 x37 x38 x39 v29 x14 x42 x43 x44 x45 x46 x47 x48 h) (
 l14 x0 x1 x2 x3 x4 x5 x6 x14 x8 x9 x10 x11 v29 x13 x14 x15 x16 x17 x18 x19 x20 x21 x22 x23 x24 x25 x26 x27 x28 x29 x30 x31 x32 x33 x34 x35 x36 x37 x38 x39 v29 x14 x42 x43 x44 x45 x46 x47 x48 h)) fun j23 =>
 pNot v22 fun v32 =>
 fIf v32 (
 k (.tup [(.int .i64 0), (.int .i64 0), .nils, (.str []), (.bool false)]) h) (
 j23 x0 x1 x2 x3 x4 x5 x6 x7 x8 x9 x10 x11 x12 v16 v21 v22 x16 x17 x18 x19 x20 x21 x22 x23 x24 x25 x26 x27 x28 x29 x30 x31 x32 x33 v17 v18 v19 v20 v21 v22 x40 x41 x42 x43 x44 x45 x46 x47 x48 h)) fun j15 =>
 pLenL x12 fun v33 =>
 pLss v33 (.int .i64 3) fun v34 =>
 fIf v34 (
 j15 .any .any .any .any .any .any .any x7 .any .any x10 .any x12 .any .any .any .any .any .any .any .any .any .any .any .any .any .any .any .any .any .any .any .any .any .any .any .any .any .any .any .any .any .any .any .any .any .any .any .any h) (
 j10 .any .any .any .any .any .any .any x7 .any .any x10 .any x12 .any .any .any .any .any .any .any .any .any .any .any .any .any .any .any .any .any .any .any .any .any .any .any .any .any .any .any .any .any .any .any .any .any .any .any .any h)) x0 x1 x2 x3 x4 x5 x6 x7 x8 x9 x10 x11 .nils x13 x14 x15 x16 x17 x18 x19 x20 x21 x22 x23 x24 x25 x26 x27 x28 x29 x30 x31 x32 x33 x34 x35 x36 x37 x38 x39 x40 x41 x42 x43 x44 x45 x46 x47 x48 h) fun j9 =>
 pNot v8 fun v35 =>
 fOr v35 h (fun h k =>
 call (.fn 36 []) [x7, (.str [40])] h fun v36 h =>
 pNot v36 fun v37 =>
 k v37 h) fun v38 h =>
 fIf v38 (
 k (.tup [(.int .i64 2), v7, .nils, x7, v8]) h) (
 j9 x0 x1 x2 x3 x4 x5 x6 x7 x8 x9 v7 v8 x12 x13 x14 x15 x16 x17 x18 x19 x20 x21 x22 x23 x24 x25 x26 x27 v6 v7 v8 x31 x32 x33 x34 x35 x36 x37 x38 x39 x40 x41 x42 x43 x44 x45 x46 x47 x48 h)) fun j5 =>
 call (.fn 34 []) [x6] h fun v39 h =>
 pExt 0 v39 fun v40 =>
 pExt 1 v39 fun v41 =>
 fIf v41 (
 k (.tup [(.int .i64 1), v40, .nils, x7, (.bool true)]) h) (
 j5 x0 x1 x2 x3 x4 x5 x6 x7 v40 v41 x10 x11 x12 x13 x14 x15 x16 x17 x18 x19 x20 x21 x22 v39 v40 v41 x26 x27 x28 x29 x30 x31 x32 x33 x34 x35 x36 x37 x38 x39 x40 x41 x42 x43 x44 x45 x46 x47 x48 h)) fun j4 =>
 pSEql x6 (.str [33]) fun v42 =>
 fIf v42 (
 k (.tup [(.int .i64 3), (.int .i64 0), .nils, x7, (.bool true)]) h) (
 j4 x0 x1 x2 x3 x4 x5 x6 x7 x8 x9 x10 x11 x12 x13 x14 x15 x16 x17 x18 x19 x20 x21 x22 x23 x24 x25 x26 x27 x28 x29 x30 x31 x32 x33 x34 x35 x36 x37 x38 x39 x40 x41 x42 x43 x44 x45 x46 x47 x48 h)) fun j3 =>
 pSEql v1 (.str [95]) fun v43 =>
 fIf v43 (
 k (.tup [(.int .i64 0), (.int .i64 0), .nils, v2, (.bool true)]) h) (
 j3 (nth a 0) (.int .i64 0) (.int .i64 0) .nils (.str []) (.bool false) v1 v2 (nth a 9) (nth a 10) (nth a 11) (nth a 12) (nth a 13) (nth a 14) (nth a 18) (nth a 19) (nth a 20) (nth a 21) v0 v1 v2 (nth a 29) (nth a 32) (nth a 33) (nth a 36) (nth a 37) (nth a 39) (nth a 40) (nth a 41) (nth a 44) (nth a 45) (nth a 53) (nth a 54) (nth a 55) (nth a 61) (nth a 64) (nth a 65) (nth a 66) (nth a 67) (nth a 68) (nth a 80) (nth a 81) (nth a 85) (nth a 88) (nth a 89) (nth a 90) (nth a 91) (nth a 92) (nth a 93) h)

theorem e24_term_cut {β : Type} (I : FI) (N : Nat) (call : FCall β) (a : List AV) (h : H) (k : K β) : fBody I 24 T.s24_term_cut N call a h k = f24_term_cut N call a h k := by kernel_rfl

noncomputable def f26_term_All {β : Type} (N : Nat) (call : FCall β) (a : List AV) (h : H) (k : K β) : Option β :=
 fJoin 7 (fun _ _ _ _ _ _ _ h =>
 k (.bool true) h) fun j0 =>
 pLenL (nth a 0) fun v1 =>
 (fLoop 7 N fun l2 _ _ _ x3 x4 x5 _ h =>
 pLss x5 x4 fun v3 =>
 fJoin 7 (fun x0 x1 _ x3 x4 x5 x6 h =>
 fJoin 7 (fun x0 x1 x2 x3 x4 x5 x6 h =>
 pAdd x5 (.int .i64 1) fun v6 =>
 l2 x0 x1 x2 x3 x4 v6 x6 h) fun j5 =>
 pIadr 1 x3 x5 fun v7 =>
 fLoad1 v7 h fun v8 =>
 call (.fn 17 []) [v8] h fun v9 h =>
 pNot v9 fun v10 =>
 fIf v10 (
 k (.bool false) h) (
 j5 x0 x1 v8 x3 x4 x5 x6 h)) fun j4 =>
 fIf v3 (
 j4 .any .any .any x3 x4 x5 v3 h) (
 j0 .any .any .any x3 x4 x5 v3 h)) (nth a 0) (.bool false) (nth a 4) (nth a 0) v1 (.int .i64 0) (nth a 8) h

theorem e26_term_All {β : Type} (I : FI) (N : Nat) (call : FCall β) (a : List AV) (h : H) (k : K β) : fBody I 26 T.s26_term_All N call a h k = f26_term_All N call a h k := by kernel_rfl

noncomputable def f28_prim_May {β : Type} (_ : Nat) (_ : FCall β) (a : List AV) (h : H) (k : K β) : Option β :=
 pGeq (nth a 0) (.int .i64 (-32768)) fun v0 =>
 fAnd v0 h (fun h k =>
 pLeq (nth a 0) (.int .i64 32767) fun v1 =>
 k v1 h) fun v2 h =>
 k v2 h

theorem e28_prim_May {β : Type} (I : FI) (N : Nat) (call : FCall β) (a : List AV) (h : H) (k : K β) : fBody I 28 T.s28_prim_May N call a h k = f28_prim_May N call a h k := by kernel_rfl

noncomputable def f33_term_word {β : Type} (_ : Nat) (call : FCall β) (a : List AV) (h : H) (k : K β) : Option β :=
 call (.fn 44 []) [(nth a 0), (.str [32, 40, 41])] h fun v0 h =>
 fJoin 4 (fun x0 _ _ x3 h =>
 pSlS false true x0 [x3] fun v2 =>
 pSlS true false x0 [x3] fun v3 =>
 k (.tup [v2, v3]) h) fun j1 =>
 pLss v0 (.int .i64 0) fun v4 =>
 fIf v4 (
 pLenS (nth a 0) fun v5 =>
 j1 (nth a 0) (.str []) (.str []) v5 h) (
 j1 (nth a 0) (.str []) (.str []) v0 h)

theorem e33_term_word {β : Type} (I : FI) (N : Nat) (call : FCall β) (a : List AV) (h : H) (k : K β) : fBody I 33 T.s33_term_word N call a h k = f33_term_word N call a h k := by kernel_rfl

noncomputable def f34_term_Number {β : Type} (_ : Nat) (call : FCall β) (a : List AV) (h : H) (k : K β) : Option β :=
 call (.fn 45 []) [(nth a 0)] h fun v0 h =>
 pExt 0 v0 fun v1 =>
 pExt 1 v0 fun v2 =>
 pIsNil .ifc false v2 fun v3 =>
 fAnd v3 h (fun h k =>
 call (.fn 28 []) [v1] h fun v4 h =>
 k v4 h) fun v5 h =>
 fAnd v5 h (fun h k =>
 call (.fn 29 []) [v1] h fun v6 h =>
 pSEql v6 (nth a 0) fun v7 =>
 k v7 h) fun v8 h =>
 k (.tup [v1, v8]) h

theorem e34_term_Number {β : Type} (I : FI) (N : Nat) (call : FCall β) (a : List AV) (h : H) (k : K β) : fBody I 34 T.s34_term_Number N call a h k = f34_term_Number N call a h k := by kernel_rfl

noncomputable def f35_term_Tag {β : Type} (_ : Nat) (call : FCall β) (a : List AV) (h : H) (k : K β) : Option β :=
 call (.fn 37 []) [(nth a 0), (.str [64])] h fun v0 h =>
 pExt 0 v0 fun v1 =>
 pExt 1 v0 fun v2 =>
 call (.fn 46 []) [v1, (.int .i64 99)] h fun v3 h =>
 pExt 0 v3 fun v4 =>
 pExt 1 v3 fun v5 =>
 fAnd v2 h (fun h k =>
 k v5 h) fun v6 h =>
 k (.tup [v4, v6]) h

theorem e35_term_Tag {β : Type} (I : FI) (N : Nat) (call : FCall β) (a : List AV) (h : H) (k : K β) : fBody I 35 T.s35_term_Tag N call a h k = f35_term_Tag N call a h k := by kernel_rfl

noncomputable def f36_strings_HasPrefix {β : Type} (_ : Nat) (call : FCall β) (a : List AV) (h : H) (k : K β) : Option β :=
 call (.fn 47 []) [(nth a 0), (nth a 1)] h fun v0 h =>
 k v0 h

theorem e36_strings_HasPrefix {β : Type} (I : FI) (N : Nat) (call : FCall β) (a : List AV) (h : H) (k : K β) : fBody I 36 T.s36_strings_HasPrefix N call a h k = f36_strings_HasPrefix N call a h k := by kernel_rfl

noncomputable def f37_strings_CutPrefix {β : Type} (_ : Nat) (call : FCall β) (a : List AV) (h : H) (k : K β) : Option β :=
 call (.fn 48 []) [(nth a 0), (nth a 1)] h fun v0 h =>
 pExt 0 v0 fun v1 =>
 pExt 1 v0 fun v2 =>
 k (.tup [v1, v2]) h

theorem e37_strings_CutPrefix {β : Type} (I : FI) (N : Nat) (call : FCall β) (a : List AV) (h : H) (k : K β) : fBody I 37 T.s37_strings_CutPrefix N call a h k = f37_strings_CutPrefix N call a h k := by kernel_rfl

noncomputable def f46_term_Digits {β : Type} (_ : Nat) (call : FCall β) (a : List AV) (h : H) (k : K β) : Option β :=
 call (.fn 45 []) [(nth a 0)] h fun v0 h =>
 pExt 0 v0 fun v1 =>
 pExt 1 v0 fun v2 =>
 pIsNil .ifc false v2 fun v3 =>
 fAnd v3 h (fun h k =>
 pGeq v1 (.int .i64 0) fun v4 =>
 k v4 h) fun v5 h =>
 fAnd v5 h (fun h k =>
 pLeq v1 (nth a 1) fun v6 =>
 k v6 h) fun v7 h =>
 fAnd v7 h (fun h k =>
 call (.fn 29 []) [v1] h fun v8 h =>
 pSEql v8 (nth a 0) fun v9 =>
 k v9 h) fun v10 h =>
 k (.tup [v1, v10]) h

theorem e46_term_Digits {β : Type} (I : FI) (N : Nat) (call : FCall β) (a : List AV) (h : H) (k : K β) : fBody I 46 T.s46_term_Digits N call a h k = f46_term_Digits N call a h k := by kernel_rfl

noncomputable def f47_internal_stringslite_HasPrefix {β : Type} (_ : Nat) (_ : FCall β) (a : List AV) (h : H) (k : K β) : Option β :=
 pLenS (nth a 0) fun v0 =>
 pLenS (nth a 1) fun v1 =>
 pGeq v0 v1 fun v2 =>
 fAnd v2 h (fun h k =>
 pLenS (nth a 1) fun v3 =>
 pSlS false true (nth a 0) [v3] fun v4 =>
 pSEql v4 (nth a 1) fun v5 =>
 k v5 h) fun v6 h =>
 k v6 h

theorem e47_internal_stringslite_HasPrefix {β : Type} (I : FI) (N : Nat) (call : FCall β) (a : List AV) (h : H) (k : K β) : fBody I 47 T.s47_internal_stringslite_HasPrefix N call a h k = f47_internal_stringslite_HasPrefix N call a h k := by kernel_rfl

noncomputable def f48_internal_stringslite_CutPrefix {β : Type} (_ : Nat) (call : FCall β) (a : List AV) (h : H) (k : K β) : Option β :=
 fJoin 4 (fun x0 x1 _ _ h =>
 pLenS x1 fun v1 =>
 pSlS true false x0 [v1] fun v2 =>
 k (.tup [v2, (.bool true)]) h) fun j0 =>
 call (.fn 47 []) [(nth a 0), (nth a 1)] h fun v3 h =>
 pNot v3 fun v4 =>
 fIf v4 (
 k (.tup [(nth a 0), (.bool false)]) h) (
 j0 (nth a 0) (nth a 1) (.str []) (.bool false) h)

theorem e48_internal_stringslite_CutPrefix {β : Type} (I : FI) (N : Nat) (call : FCall β) (a : List AV) (h : H) (k : K β) : fBody I 48 T.s48_internal_stringslite_CutPrefix N call a h k = f48_internal_stringslite_CutPrefix N call a h k := by kernel_rfl

noncomputable def f130_sleuthlaw10_HoldForms {β : Type} (_ : Nat) (call : FCall β) (a : List AV) (h : H) (k : K β) : Option β :=
 fJoin 15 (fun x0 x1 x2 _ _ _ _ x7 x8 _ _ _ x12 x13 x14 h =>
 pBin .and x1 (.int .i64 1023) fun v1 =>
 pAdd (.int .i64 1) v1 fun v2 =>
 call (.fn 151 []) [] h fun v3 h =>
 fAlloc 0 [.nils] h fun v4 h =>
 fStore 1 v4 v3 h fun h =>
 fBslice 0 [(.str []), (.str [])] 2 [(0, 1), (1, 1)] [(.str [49]), (.str [50])] h fun v5 h =>
 pBuild [(.int .i64 0), (.int .i64 0), .nils, (.str [])] [(0, 1), (1, 1), (2, 1), (3, 1)] [(.int .i64 1), x1, v5, (.str [51])] fun v6 =>
 fAlloc 0 [(.int .i64 0), (.int .i64 0), .nils, (.str [])] h fun v7 h =>
 fStore 4 v7 v6 h fun h =>
 fJoin 15 (fun _ _ _ _ x4 x5 x6 _ _ _ _ _ _ _ _ h =>
 fLoadN 1 x4 h fun v9 =>
 fLoadN 4 x5 h fun v10 =>
 call (.fn 152 []) [v9, v10, x6] h fun v11 h =>
 pExt 0 v11 fun v12 =>
 pExt 1 v11 fun v13 =>
 pNot v12 fun v14 =>
 fAnd v14 h (fun h k =>
 call (.fn 16 []) [v13] h fun v15 h =>
 pEql v15 (.int .i64 1000) fun v16 =>
 k v16 h) fun v17 h =>
 k v17 h) fun j8 =>
 pConv .u64 x0 fun v18 =>
 pBin .rem v18 (.int .u64 8) fun v19 =>
 pEql v19 (.int .u64 0) fun v20 =>
 fIf v20 (
 pFadr 0 v4 fun v21 =>
 fLoad1 v21 h fun v22 =>
 pIadr 2 v22 (.int .i64 0) fun v23 =>
 pFadr 0 v23 fun v24 =>
 fStore 1 v24 (.int .i64 1) h fun h =>
 j8 x0 x1 x2 v2 v4 v7 (.int .i64 50) x7 x8 v3 v6 v19 x12 x13 x14 h) (
 pEql v19 (.int .u64 1) fun v25 =>
 fIf v25 (
 pNeg v2 fun v26 =>
 pFadr 0 v7 fun v27 =>
 fStore 1 v27 v26 h fun h =>
 j8 x0 x1 x2 v2 v4 v7 (.int .i64 50) x7 x8 v3 v6 v19 x12 x13 x14 h) (
 pEql v19 (.int .u64 2) fun v28 =>
 fIf v28 (
 pAdd (.int .i64 1) v2 fun v29 =>
 pFadr 0 v7 fun v30 =>
 fStore 1 v30 v29 h fun h =>
 j8 x0 x1 x2 v2 v4 v7 (.int .i64 50) x7 x8 v3 v6 v19 x12 x13 x14 h) (
 pEql v19 (.int .u64 3) fun v31 =>
 fIf v31 (
 pFadr 2 v7 fun v32 =>
 fStore 1 v32 .nils h fun h =>
 j8 x0 x1 x2 v2 v4 v7 (.int .i64 50) x7 x8 v3 v6 v19 x12 x13 x14 h) (
 pEql v19 (.int .u64 4) fun v33 =>
 fIf v33 (
 pFadr 2 v7 fun v34 =>
 fLoad1 v34 h fun v35 =>
 pIadr 1 v35 (.int .i64 1) fun v36 =>
 fStore 1 v36 (.str [48, 50]) h fun h =>
 j8 x0 x1 x2 v2 v4 v7 (.int .i64 50) x7 x8 v3 v6 v19 x12 x13 x14 h) (
 pEql v19 (.int .u64 5) fun v37 =>
 fIf v37 (
 fBslice 0 [(.str []), (.str []), (.str []), (.str [])] 4 [(0, 1), (1, 1), (2, 1), (3, 1)] [(.str []), (.str [48, 49]), (.str [64]), (.str [51, 32])] h fun v38 h =>
 pBin .and x1 (.int .i64 3) fun v39 =>
 pIadr 1 v38 v39 fun v40 =>
 fLoad1 v40 h fun v41 =>
 pFadr 3 v7 fun v42 =>
 fStore 1 v42 v41 h fun h =>
 j8 x0 x1 x2 v2 v4 v7 (.int .i64 50) x7 x8 v3 v6 v19 x12 x13 x14 h) (
 pEql v19 (.int .u64 6) fun v43 =>
 fIf v43 (
 pNeg v2 fun v44 =>
 j8 x0 x1 x2 v2 v4 v7 v44 x7 x8 v3 v6 v19 x12 x13 x14 h) (
 pAdd (.int .i64 400) v2 fun v45 =>
 j8 x0 x1 x2 v2 v4 v7 v45 x7 x8 v3 v6 v19 x12 x13 x14 h)))))))) fun j0 =>
 call (.fn 150 []) [] h fun v46 h =>
 pNot v46 fun v47 =>
 fIf v47 (
 k (.bool false) h) (
 j0 (nth a 0) (nth a 1) (.bool false) (nth a 5) (nth a 6) (nth a 7) (nth a 8) (nth a 9) (nth a 10) (nth a 16) (nth a 19) (nth a 22) (nth a 61) (nth a 66) (nth a 67) h)

theorem e130_sleuthlaw10_HoldForms {β : Type} (I : FI) (N : Nat) (call : FCall β) (a : List AV) (h : H) (k : K β) : fBody I 130 T.s130_sleuthlaw10_HoldForms N call a h k = f130_sleuthlaw10_HoldForms N call a h k := by kernel_rfl

noncomputable def f132_sleuthlaw10_HoldTable {β : Type} (_ : Nat) (call : FCall β) (a : List AV) (h : H) (k : K β) : Option β :=
 fJoin 11 (fun x0 _ _ _ _ _ _ _ _ _ _ h =>
 pBin .and x0 (.int .i64 15) fun v1 =>
 fBslice 0 [(.str []), (.str [])] 2 [(0, 1), (1, 1)] [(.str [49]), (.str [50])] h fun v2 h =>
 fBslice 0 [(.str []), (.str [])] 2 [(0, 1), (1, 1)] [(.str [49]), (.str [50])] h fun v3 h =>
 fBslice 0 [(.str []), (.str [])] 2 [(0, 1), (1, 1)] [(.str [49]), (.str [50])] h fun v4 h =>
 fBslice 0 [(.str []), (.str [])] 2 [(0, 1), (1, 1)] [(.str [49]), (.str [50])] h fun v5 h =>
 fBslice 0 [(.str []), (.str [])] 2 [(0, 1), (1, 1)] [(.str [95]), (.str [50])] h fun v6 h =>
 fBslice 0 [(.str []), (.str [])] 2 [(0, 1), (1, 1)] [(.str [95]), (.str [50])] h fun v7 h =>
 fBslice 0 [(.str []), (.str [])] 2 [(0, 1), (1, 1)] [(.str [49]), (.str [95])] h fun v8 h =>
 fBslice 0 [(.str []), (.str [])] 2 [(0, 1), (1, 1)] [(.str [64, 55, 40, 95, 32, 49, 41]), (.str [49])] h fun v9 h =>
 fBslice 0 [(.str []), (.str [])] 2 [(0, 1), (1, 1)] [(.str [64, 55, 40, 49, 32, 95, 41]), (.str [49])] h fun v10 h =>
 fBslice 0 [(.str []), (.str [])] 2 [(0, 1), (1, 1)] [(.str [64, 55, 40, 49, 41]), (.str [49])] h fun v11 h =>
 fBslice 0 [(.str []), (.str [])] 2 [(0, 1), (1, 1)] [(.str [64, 55, 40, 49, 32, 64, 50, 41]), (.str [49])] h fun v12 h =>
 fBslice 0 [(.str []), (.str [])] 2 [(0, 1), (1, 1)] [(.str [33]), (.str [95])] h fun v13 h =>
 fBslice 0 [(.str []), (.str [])] 2 [(0, 1), (1, 1)] [(.str [64, 51]), (.str [33])] h fun v14 h =>
 fBslice 0 [(.str []), (.str [])] 2 [(0, 1), (1, 1)] [(.str [49]), (.str [33])] h fun v15 h =>
 fBslice 0 [(.str []), (.str [])] 2 [(0, 1), (1, 1)] [(.str [64, 55, 40, 33, 32, 51, 41]), (.str [45, 51])] h fun v16 h =>
 fBslice 0 [(.str []), (.str [])] 2 [(0, 1), (1, 1)] [(.str [51, 50, 55, 54, 55]), (.str [49])] h fun v17 h =>
 fBslice 0 [.nils, .nils, .nils, .nils, .nils, .nils, .nils, .nils, .nils, .nils, .nils, .nils, .nils, .nils, .nils, .nils] 16 [(0, 1), (1, 1), (2, 1), (3, 1), (4, 1), (5, 1), (6, 1), (7, 1), (8, 1), (9, 1), (10, 1), (11, 1), (12, 1), (13, 1), (14, 1), (15, 1)] [v2, v3, v4, v5, v6, v7, v8, v9, v10, v11, v12, v13, v14, v15, v16, v17] h fun v18 h =>
 pIadr 1 v18 v1 fun v19 =>
 fLoad1 v19 h fun v20 =>
 fBslice 0 [(.str []), (.str []), (.str []), (.str []), (.str []), (.str []), (.str []), (.str []), (.str []), (.str []), (.str []), (.str []), (.str []), (.str []), (.str []), (.str [])] 16 [(0, 1), (1, 1), (2, 1), (3, 1), (4, 1), (5, 1), (6, 1), (7, 1), (8, 1), (9, 1), (10, 1), (11, 1), (12, 1), (13, 1), (14, 1), (15, 1)] [(.str [51]), (.str [52]), (.str [95]), (.str [33]), (.str [51]), (.str [95]), (.str [49]), (.str [50]), (.str [50]), (.str [33]), (.str [33]), (.str [33]), (.str [33]), (.str [33]), (.str [48]), (.str [45, 51, 50, 55, 54, 56])] h fun v21 h =>
 pIadr 1 v21 v1 fun v22 =>
 fLoad1 v22 h fun v23 =>
 fBslice 0 [(.bool false), (.bool false), (.bool false), (.bool false), (.bool false), (.bool false), (.bool false), (.bool false), (.bool false), (.bool false), (.bool false), (.bool false), (.bool false), (.bool false), (.bool false), (.bool false)] 16 [(0, 1), (1, 1), (2, 1), (3, 1), (4, 1), (5, 1), (6, 1), (7, 1), (8, 1), (9, 1), (10, 1), (11, 1), (12, 1), (13, 1), (14, 1), (15, 1)] [(.bool true), (.bool false), (.bool true), (.bool false), (.bool false), (.bool true), (.bool false), (.bool true), (.bool false), (.bool true), (.bool true), (.bool true), (.bool true), (.bool true), (.bool true), (.bool true)] h fun v24 h =>
 pIadr 1 v24 v1 fun v25 =>
 fLoad1 v25 h fun v26 =>
 call (.fn 151 []) [] h fun v27 h =>
 pBuild [(.int .i64 0), (.int .i64 0), .nils, (.str [])] [(0, 1), (2, 1), (3, 1)] [(.int .i64 1), v20, v23] fun v28 =>
 call (.fn 152 []) [v27, v28, (.int .i64 60)] h fun v29 h =>
 pExt 0 v29 fun v30 =>
 pExt 1 v29 fun v31 =>
 call (.fn 16 []) [v31] h fun v32 h =>
 pEql v32 (.int .i64 0) fun v33 =>
 fAnd v33 h (fun h k =>
 pEqB false v30 v26 fun v34 =>
 k v34 h) fun v35 h =>
 k v35 h) fun j0 =>
 call (.fn 150 []) [] h fun v36 h =>
 pNot v36 fun v37 =>
 fIf v37 (
 k (.bool false) h) (
 j0 (nth a 0) (.bool false) (nth a 3) (nth a 4) (nth a 5) (nth a 6) (nth a 7) (nth a 8) (nth a 41) (nth a 47) (nth a 48) h)

theorem e132_sleuthlaw10_HoldTable {β : Type} (I : FI) (N : Nat) (call : FCall β) (a : List AV) (h : H) (k : K β) : fBody I 132 T.s132_sleuthlaw10_HoldTable N call a h k = f132_sleuthlaw10_HoldTable N call a h k := by kernel_rfl

noncomputable def f150_sleuthlaw10_awake {β : Type} (_ : Nat) (call : FCall β) (_ : List AV) (h : H) (k : K β) : Option β :=
 call (.fn 151 []) [] h fun v0 h =>
 fBslice 0 [(.str []), (.str [])] 2 [(0, 1), (1, 1)] [(.str [64, 55, 40, 95, 32, 52, 41]), (.str [53])] h fun v1 h =>
 pBuild [(.int .i64 0), (.int .i64 0), .nils, (.str [])] [(0, 1), (2, 1), (3, 1)] [(.int .i64 1), v1, (.str [57])] fun v2 =>
 call (.fn 152 []) [v0, v2, (.int .i64 50)] h fun v3 h =>
 pExt 0 v3 fun v4 =>
 pExt 1 v3 fun v5 =>
 call (.fn 151 []) [] h fun v6 h =>
 fBslice 0 [(.str []), (.str [])] 2 [(0, 1), (1, 1)] [(.str [64, 55, 40, 95, 32, 95, 41]), (.str [53])] h fun v7 h =>
 pBuild [(.int .i64 0), (.int .i64 0), .nils, (.str [])] [(0, 1), (2, 1), (3, 1)] [(.int .i64 1), v7, (.str [57])] fun v8 =>
 call (.fn 152 []) [v6, v8, (.int .i64 50)] h fun v9 h =>
 pExt 0 v9 fun v10 =>
 pExt 1 v9 fun v11 =>
 call (.fn 151 []) [] h fun v12 h =>
 fBslice 0 [(.str []), (.str [])] 2 [(0, 1), (1, 1)] [(.str [33]), (.str [53])] h fun v13 h =>
 pBuild [(.int .i64 0), (.int .i64 0), .nils, (.str [])] [(0, 1), (2, 1), (3, 1)] [(.int .i64 1), v13, (.str [33])] fun v14 =>
 call (.fn 152 []) [v12, v14, (.int .i64 50)] h fun v15 h =>
 pExt 0 v15 fun v16 =>
 pExt 1 v15 fun v17 =>
 call (.fn 151 []) [] h fun v18 h =>
 fBslice 0 [(.str []), (.str [])] 2 [(0, 1), (1, 1)] [(.str [51]), (.str [53])] h fun v19 h =>
 pBuild [(.int .i64 0), (.int .i64 0), .nils, (.str [])] [(0, 1), (2, 1), (3, 1)] [(.int .i64 1), v19, (.str [56])] fun v20 =>
 call (.fn 152 []) [v18, v20, (.int .i64 2)] h fun v21 h =>
 pExt 0 v21 fun _ =>
 pExt 1 v21 fun v23 =>
 call (.fn 151 []) [] h fun v24 h =>
 pBuild [(.int .i64 0), (.int .i64 0), .nils, (.str [])] [(0, 1)] [(.int .i64 2)] fun v25 =>
 call (.fn 152 []) [v24, v25, (.int .i64 50)] h fun v26 h =>
 pExt 0 v26 fun _ =>
 pExt 1 v26 fun v28 =>
 fAnd v4 h (fun h k =>
 call (.fn 16 []) [v5] h fun v29 h =>
 pEql v29 (.int .i64 0) fun v30 =>
 k v30 h) fun v31 h =>
 fAnd v31 h (fun h k =>
 pNot v10 fun v32 =>
 k v32 h) fun v33 h =>
 fAnd v33 h (fun h k =>
 call (.fn 16 []) [v11] h fun v34 h =>
 pEql v34 (.int .i64 0) fun v35 =>
 k v35 h) fun v36 h =>
 fAnd v36 h (fun h k =>
 k v16 h) fun v37 h =>
 fAnd v37 h (fun h k =>
 call (.fn 16 []) [v17] h fun v38 h =>
 pEql v38 (.int .i64 0) fun v39 =>
 k v39 h) fun v40 h =>
 fAnd v40 h (fun h k =>
 call (.fn 16 []) [v23] h fun v41 h =>
 pEql v41 (.int .i64 1001) fun v42 =>
 k v42 h) fun v43 h =>
 fAnd v43 h (fun h k =>
 call (.fn 16 []) [v28] h fun v44 h =>
 pEql v44 (.int .i64 1000) fun v45 =>
 k v45 h) fun v46 h =>
 k v46 h

theorem e150_sleuthlaw10_awake {β : Type} (I : FI) (N : Nat) (call : FCall β) (a : List AV) (h : H) (k : K β) : fBody I 150 T.s150_sleuthlaw10_awake N call a h k = f150_sleuthlaw10_awake N call a h k := by kernel_rfl

noncomputable def f151_sleuthlaw10_small {β : Type} (_ : Nat) (call : FCall β) (_ : List AV) (h : H) (k : K β) : Option β :=
 fAlloc 0 [.nils] h fun v0 h =>
 pBuild [(.int .i64 0), (.int .i64 0), (.int .i64 0), .nils] [(0, 1)] [(.int .i64 7)] fun v1 =>
 pBuild [(.int .i64 0), (.int .i64 0), (.int .i64 0), .nils] [(1, 1)] [(.int .i64 4)] fun v2 =>
 fBslice 0 [(.int .i64 0), (.int .i64 0)] 2 [(0, 1), (1, 1)] [(.int .i64 0), (.int .i64 1)] h fun v3 h =>
 pBuild [(.int .i64 0), (.int .i64 0), (.int .i64 0), .nils] [(0, 1), (1, 1), (3, 1)] [(.int .i64 3), (.int .i64 7), v3] fun v4 =>
 pBuild [(.int .i64 0), (.int .i64 0), (.int .i64 0), .nils] [(1, 1)] [(.int .i64 5)] fun v5 =>
 fBslice 0 [(.int .i64 0), (.int .i64 0)] 2 [(0, 1), (1, 1)] [(.int .i64 2), (.int .i64 3)] h fun v6 h =>
 pBuild [(.int .i64 0), (.int .i64 0), (.int .i64 0), .nils] [(0, 1), (1, 1), (3, 1)] [(.int .i64 2), (.int .i64 1), v6] fun v7 =>
 fBslice 0 [(.int .i64 0), (.int .i64 0), (.int .i64 0), .nils, (.int .i64 0), (.int .i64 0), (.int .i64 0), .nils, (.int .i64 0), (.int .i64 0), (.int .i64 0), .nils, (.int .i64 0), (.int .i64 0), (.int .i64 0), .nils, (.int .i64 0), (.int .i64 0), (.int .i64 0), .nils] 5 [(0, 4), (4, 4), (8, 4), (12, 4), (16, 4)] [v1, v2, v4, v5, v7] h fun v8 h =>
 pBuild [(.int .i64 0), .nils] [(1, 1)] [v8] fun v9 =>
 fAlloc 0 [(.int .i64 0), .nils] h fun v10 h =>
 fStore 2 v10 v9 h fun h =>
 fLoadN 2 v10 h fun v11 =>
 call (.fn 180 []) [] h fun v12 h =>
 fLoadN 2 v10 h fun v13 =>
 fChk v13 v11 (
 fBslice 0 [(.int .i64 0), .nils, (.int .i64 0), .nils] 2 [(0, 2), (2, 2)] [v11, v12] h fun v14 h =>
 pBuild [.nils] [(0, 1)] [v14] fun v15 =>
 fStore 1 v0 v15 h fun h =>
 fLoadN 1 v0 h fun v16 =>
 k v16 h)

theorem e151_sleuthlaw10_small {β : Type} (I : FI) (N : Nat) (call : FCall β) (a : List AV) (h : H) (k : K β) : fBody I 151 T.s151_sleuthlaw10_small N call a h k = f151_sleuthlaw10_small N call a h k := by kernel_rfl

noncomputable def f152_holds_Is {β : Type} (_ : Nat) (call : FCall β) (a : List AV) (h : H) (k : K β) : Option β :=
 fBox 0 (nth a 0) h fun v0 h =>
 fBox 0 (nth a 1) h fun v1 h =>
 fLoadN 1 v0 h fun v2 =>
 pFadr 0 v1 fun v3 =>
 fLoad1 v3 h fun v4 =>
 pFadr 2 v1 fun v5 =>
 fLoad1 v5 h fun v6 =>
 call (.fn 181 []) [v2, v4, v6, (nth a 2)] h fun v7 h =>
 pExt 0 v7 fun v8 =>
 pExt 1 v7 fun v9 =>
 pExt 2 v7 fun v10 =>
 fAlloc 0 [(.str []), .nils, (.int .i64 0), .nils] h fun v11 h =>
 fStore 4 v11 v9 h fun h =>
 fJoin 17 (fun _ _ _ _ x4 _ _ x7 x8 _ _ _ _ _ _ _ _ h =>
 pFadr 3 x4 fun v13 =>
 fLoad1 v13 h fun v14 =>
 fLoadN 4 x8 h fun v15 =>
 call (.fn 182 []) [x7, v14, v15] h fun v16 h =>
 pExt 0 v16 fun v17 =>
 pExt 1 v16 fun v18 =>
 k (.tup [v17, v18]) h) fun j12 =>
 pNot v10 fun v19 =>
 fOr v19 h (fun h k =>
 pFadr 3 v1 fun v20 =>
 fLoad1 v20 h fun v21 =>
 call (.fn 17 []) [v21] h fun v22 h =>
 pNot v22 fun v23 =>
 k v23 h) fun v24 h =>
 fIf v24 (
 k (.tup [(.bool false), (.int .i64 1000)]) h) (
 j12 (nth a 0) (nth a 1) (nth a 2) v0 v1 (.bool false) (.int .i64 0) v8 v11 v10 v7 v8 v9 v10 (nth a 34) (nth a 35) (nth a 36) h)

theorem e152_holds_Is {β : Type} (I : FI) (N : Nat) (call : FCall β) (a : List AV) (h : H) (k : K β) : fBody I 152 T.s152_holds_Is N call a h k = f152_holds_Is N call a h k := by kernel_rfl

noncomputable def f157_program_May {β : Type} (N : Nat) (call : FCall β) (a : List AV) (h : H) (k : K β) : Option β :=
 fBox 0 (nth a 0) h fun v0 h =>
 fJoin 10 (fun x0 x1 x2 _ x4 _ _ _ x8 x9 h =>
 fJoin 10 (fun _ _ _ _ _ _ _ _ _ _ h =>
 k (.bool true) h) fun j2 =>
 pFadr 0 x1 fun v3 =>
 fLoad1 v3 h fun v4 =>
 pLenL v4 fun v5 =>
 (fLoop 10 N fun l6 _ _ _ x3 _ x5 x6 x7 _ _ h =>
 pLss x7 x6 fun v7 =>
 fJoin 10 (fun x0 x1 x2 x3 _ x5 x6 x7 x8 _ h =>
 fJoin 10 (fun x0 x1 x2 x3 x4 x5 x6 x7 x8 x9 h =>
 pAdd x7 (.int .i64 1) fun v10 =>
 l6 x0 x1 x2 x3 x4 x5 x6 v10 x8 x9 h) fun j9 =>
 pIadr 2 x5 x7 fun v11 =>
 fLoadN 2 v11 h fun v12 =>
 fAlloc 0 [(.int .i64 0), .nils] h fun v13 h =>
 fStore 2 v13 v12 h fun h =>
 fLoadN 2 v13 h fun v14 =>
 call (.fn 187 []) [v14] h fun v15 h =>
 pNot v15 fun v16 =>
 fOr v16 h (fun h k =>
 pFadr 1 v13 fun v17 =>
 fLoad1 v17 h fun v18 =>
 call (.fn 188 []) [v18, x3] h fun v19 h =>
 k v19 h) fun v20 h =>
 fIf v20 (
 k (.bool false) h) (
 j9 x0 x1 x2 x3 v13 x5 x6 x7 x8 v12 h)) fun j8 =>
 fIf v7 (
 j8 .any .any .any x3 .any x5 x6 x7 v7 .any h) (
 j2 .any .any .any x3 .any x5 x6 x7 v7 .any h)) x0 x1 x2 (.fn 186 [x1]) x4 v4 v5 (.int .i64 0) x8 x9 h) fun j1 =>
 pFadr 0 v0 fun v21 =>
 fLoad1 v21 h fun v22 =>
 pLenL v22 fun v23 =>
 pEql v23 (.int .i64 0) fun v24 =>
 fOr v24 h (fun h k =>
 pFadr 0 v0 fun v25 =>
 fLoad1 v25 h fun v26 =>
 pLenL v26 fun v27 =>
 pGtr v27 (.int .i64 8) fun v28 =>
 k v28 h) fun v29 h =>
 fOr v29 h (fun h k =>
 pFadr 0 v0 fun v30 =>
 fLoad1 v30 h fun v31 =>
 pIadr 2 v31 (.int .i64 0) fun v32 =>
 pFadr 0 v32 fun v33 =>
 fLoad1 v33 h fun v34 =>
 pNeq v34 (.int .i64 0) fun v35 =>
 k v35 h) fun v36 h =>
 fIf v36 (
 k (.bool false) h) (
 j1 (nth a 0) v0 (.bool false) (nth a 3) (nth a 5) (nth a 26) (nth a 27) (nth a 28) (nth a 29) (nth a 31) h)

theorem e157_program_May {β : Type} (I : FI) (N : Nat) (call : FCall β) (a : List AV) (h : H) (k : K β) : fBody I 157 T.s157_program_May N call a h k = f157_program_May N call a h k := by kernel_rfl

noncomputable def f180_sleuthlaw10_adds {β : Type} (_ : Nat) (_ : FCall β) (_ : List AV) (h : H) (k : K β) : Option β :=
 fAlloc 0 [(.int .i64 0), .nils] h fun v0 h =>
 pBuild [(.int .i64 0), (.int .i64 0), (.int .i64 0), .nils] [(0, 1)] [(.int .i64 1)] fun v1 =>
 pBuild [(.int .i64 0), (.int .i64 0), (.int .i64 0), .nils] [(0, 1), (1, 1)] [(.int .i64 1), (.int .i64 3)] fun v2 =>
 pBuild [(.int .i64 0), (.int .i64 0), (.int .i64 0), .nils] [(0, 1), (1, 1)] [(.int .i64 1), (.int .i64 1)] fun v3 =>
 fBslice 0 [(.int .i64 0), (.int .i64 0)] 2 [(0, 1), (1, 1)] [(.int .i64 1), (.int .i64 2)] h fun v4 h =>
 pBuild [(.int .i64 0), (.int .i64 0), (.int .i64 0), .nils] [(0, 1), (3, 1)] [(.int .i64 4), v4] fun v5 =>
 pBuild [(.int .i64 0), (.int .i64 0), (.int .i64 0), .nils] [(0, 1)] [(.int .i64 1)] fun v6 =>
 pBuild [(.int .i64 0), (.int .i64 0), (.int .i64 0), .nils] [(0, 1), (1, 1)] [(.int .i64 1), (.int .i64 1)] fun v7 =>
 fBslice 0 [(.int .i64 0), (.int .i64 0)] 2 [(0, 1), (1, 1)] [(.int .i64 4), (.int .i64 5)] h fun v8 h =>
 pBuild [(.int .i64 0), (.int .i64 0), (.int .i64 0), .nils] [(0, 1), (3, 1)] [(.int .i64 4), v8] fun v9 =>
 fBslice 0 [(.int .i64 0), (.int .i64 0), (.int .i64 0)] 3 [(0, 1), (1, 1), (2, 1)] [(.int .i64 0), (.int .i64 3), (.int .i64 6)] h fun v10 h =>
 pBuild [(.int .i64 0), (.int .i64 0), (.int .i64 0), .nils] [(0, 1), (1, 1), (2, 1), (3, 1)] [(.int .i64 5), (.int .i64 7), (.int .i64 2), v10] fun v11 =>
 fBslice 0 [(.int .i64 0), (.int .i64 0), (.int .i64 0), .nils, (.int .i64 0), (.int .i64 0), (.int .i64 0), .nils, (.int .i64 0), (.int .i64 0), (.int .i64 0), .nils, (.int .i64 0), (.int .i64 0), (.int .i64 0), .nils, (.int .i64 0), (.int .i64 0), (.int .i64 0), .nils, (.int .i64 0), (.int .i64 0), (.int .i64 0), .nils, (.int .i64 0), (.int .i64 0), (.int .i64 0), .nils, (.int .i64 0), (.int .i64 0), (.int .i64 0), .nils] 8 [(0, 4), (4, 4), (8, 4), (12, 4), (16, 4), (20, 4), (24, 4), (28, 4)] [v1, v2, v3, v5, v6, v7, v9, v11] h fun v12 h =>
 pBuild [(.int .i64 0), .nils] [(0, 1), (1, 1)] [(.int .i64 2), v12] fun v13 =>
 fStore 2 v0 v13 h fun h =>
 fLoadN 2 v0 h fun v14 =>
 k v14 h

theorem e180_sleuthlaw10_adds {β : Type} (I : FI) (N : Nat) (call : FCall β) (a : List AV) (h : H) (k : K β) : fBody I 180 T.s180_sleuthlaw10_adds N call a h k = f180_sleuthlaw10_adds N call a h k := by kernel_rfl

noncomputable def f181_name_New {β : Type} (N : Nat) (call : FCall β) (a : List AV) (h : H) (k : K β) : Option β :=
 fBox 0 (nth a 0) h fun v0 h =>
 fAlloc 0 [(.str []), .nils, (.int .i64 0), .nils] h fun v1 h =>
 fJoin 18 (fun x0 x1 x2 x3 x4 x5 x6 x7 _ _ x10 x11 _ _ _ x15 x16 x17 h =>
 pFadr 0 x4 fun v3 =>
 fLoad1 v3 h fun v4 =>
 pBuild [.nils, (.int .i64 0)] [(0, 1), (1, 1)] [v4, x3] fun v5 =>
 fBox 0 v5 h fun v6 h =>
 fJoin 18 (fun _ x1 _ _ _ _ x6 _ x8 x9 _ _ _ _ _ _ _ _ h =>
 call (.fn 205 []) [x8, x1, x9] h fun v8 h =>
 fStore 4 x6 v8 h fun h =>
 fLoadN 4 x6 h fun v9 =>
 k (.tup [x8, v9, (.bool true)]) h) fun j7 =>
 pLenL x2 fun v10 =>
 (fLoop 18 N fun l11 _ x1 _ _ _ _ x6 _ x8 x9 _ _ x12 x13 x14 _ _ _ h =>
 pLss x14 x13 fun v12 =>
 fJoin 18 (fun x0 x1 x2 x3 x4 x5 x6 x7 x8 x9 _ x11 x12 x13 x14 x15 x16 x17 h =>
 fJoin 18 (fun x0 x1 x2 x3 x4 x5 x6 x7 x8 x9 x10 x11 x12 x13 x14 x15 x16 x17 h =>
 pAdd x14 (.int .i64 1) fun v15 =>
 l11 x0 x1 x2 x3 x4 x5 x6 x7 x8 x9 x10 x11 x12 x13 v15 x15 x16 x17 h) fun j14 =>
 pIadr 1 x12 x14 fun v16 =>
 fLoad1 v16 h fun v17 =>
 call (.fn 204 []) [v17] h fun v18 h =>
 fBslice 0 [(.str []), .nils, (.int .i64 0), .nils] 1 [(0, 4)] [v18] h fun v19 h =>
 fApp 0 4 72 x9 v19 h fun v20 h =>
 j14 x0 x1 x2 x3 x4 x5 x6 x7 x8 v20 v17 x11 x12 x13 x14 x15 x16 x17 h) fun j13 =>
 fIf v12 (
 j13 .any x1 .any .any .any .any x6 .any x8 x9 .any .any x12 x13 x14 v12 .any .any h) (
 j7 .any x1 .any .any .any .any x6 .any x8 x9 .any .any x12 x13 x14 v12 .any .any h)) x0 x1 x2 x3 x4 x5 x6 x7 v6 .nils x10 x11 x2 v10 (.int .i64 0) x15 x16 x17 h) fun j2 =>
 fLoadN 1 v0 h fun v21 =>
 call (.fn 157 []) [v21] h fun v22 h =>
 pNot v22 fun v23 =>
 fOr v23 h (fun h k =>
 pLss (nth a 1) (.int .i64 0) fun v24 =>
 k v24 h) fun v25 h =>
 fOr v25 h (fun h k =>
 pFadr 0 v0 fun v26 =>
 fLoad1 v26 h fun v27 =>
 pLenL v27 fun v28 =>
 pGeq (nth a 1) v28 fun v29 =>
 k v29 h) fun v30 h =>
 fOr v30 h (fun h k =>
 pLenL (nth a 2) fun v31 =>
 pFadr 0 v0 fun v32 =>
 fLoad1 v32 h fun v33 =>
 pIadr 2 v33 (nth a 1) fun v34 =>
 pFadr 0 v34 fun v35 =>
 fLoad1 v35 h fun v36 =>
 pNeq v31 v36 fun v37 =>
 k v37 h) fun v38 h =>
 fOr v38 h (fun h k =>
 call (.fn 26 []) [(nth a 2)] h fun v39 h =>
 pNot v39 fun v40 =>
 k v40 h) fun v41 h =>
 fOr v41 h (fun h k =>
 pLss (nth a 3) (.int .i64 0) fun v42 =>
 k v42 h) fun v43 h =>
 fOr v43 h (fun h k =>
 pGtr (nth a 3) (.int .i64 400) fun v44 =>
 k v44 h) fun v45 h =>
 fIf v45 (
 pBuild [(.str []), .nils, (.int .i64 0), .nils] [] [] fun v46 =>
 fStore 4 v1 v46 h fun h =>
 fLoadN 4 v1 h fun v47 =>
 k (.tup [.nilp, v47, (.bool false)]) h) (
 j2 (nth a 0) (nth a 1) (nth a 2) (nth a 3) v0 .nilp v1 (.bool false) (nth a 11) (nth a 12) (nth a 14) (nth a 53) (nth a 59) (nth a 60) (nth a 61) (nth a 62) (nth a 71) (nth a 75) h)

theorem e181_name_New {β : Type} (I : FI) (N : Nat) (call : FCall β) (a : List AV) (h : H) (k : K β) : fBody I 181 T.s181_name_New N call a h k = f181_name_New N call a h k := by kernel_rfl

noncomputable def f182_holds_met {β : Type} (N : Nat) (call : FCall β) (a : List AV) (h : H) (k : K β) : Option β :=
 fBox 0 (nth a 2) h fun v0 h =>
 call (.fn 11 []) [(nth a 1)] h fun v1 h =>
 pExt 0 v1 fun v2 =>
 pExt 1 v1 fun v3 =>
 pExt 2 v1 fun v4 =>
 pExt 3 v1 fun v5 =>
 fJoin 33 (fun x0 x1 x2 x3 x4 x5 x6 x7 x8 _ _ x11 x12 x13 x14 x15 x16 x17 x18 x19 _ _ _ x23 x24 x25 x26 x27 x28 x29 x30 x31 x32 h =>
 fLoadN 4 x3 h fun v7 =>
 call (.fn 184 []) [x0, v7] h fun v8 h =>
 pExt 0 v8 fun v9 =>
 pExt 1 v8 fun v10 =>
 fAlloc 0 [(.int .i64 0), (.int .i64 0), .nils] h fun v11 h =>
 fStore 3 v11 v9 h fun h =>
 fJoin 33 (fun x0 x1 x2 x3 x4 x5 x6 x7 x8 x9 x10 x11 x12 x13 x14 x15 x16 x17 x18 x19 x20 x21 x22 _ _ _ x26 x27 x28 x29 x30 x31 x32 h =>
 fJoin 33 (fun _ _ _ _ _ _ _ _ _ _ _ _ _ _ _ _ _ _ _ _ _ _ _ _ _ _ _ _ _ _ _ _ _ h =>
 k (.tup [(.bool true), (.int .i64 0)]) h) fun j13 =>
 pLenL x8 fun v14 =>
 (fLoop 33 N fun l15 x0 _ _ _ _ _ _ _ _ x9 _ _ _ _ _ _ _ _ _ _ _ _ _ x23 x24 x25 _ _ _ _ _ _ _ h =>
 pLss x25 x24 fun v16 =>
 fJoin 33 (fun x0 x1 x2 x3 x4 x5 x6 x7 x8 x9 x10 _ _ _ _ x15 x16 x17 x18 x19 x20 x21 x22 x23 x24 x25 x26 _ _ _ _ _ x32 h =>
 fJoin 33 (fun x0 x1 x2 x3 x4 x5 x6 x7 x8 x9 x10 x11 x12 x13 x14 x15 x16 x17 x18 x19 x20 x21 x22 x23 x24 x25 x26 x27 x28 x29 x30 x31 x32 h =>
 pAdd x25 (.int .i64 1) fun v19 =>
 l15 x0 x1 x2 x3 x4 x5 x6 x7 x8 x9 x10 x11 x12 x13 x14 x15 x16 x17 x18 x19 x20 x21 x22 x23 x24 v19 x26 x27 x28 x29 x30 x31 x32 h) fun j18 =>
 pIadr 1 x23 x25 fun v20 =>
 fLoad1 v20 h fun v21 =>
 pFadr 2 x9 fun v22 =>
 fLoad1 v22 h fun v23 =>
 pIadr 4 v23 x25 fun v24 =>
 fLoadN 4 v24 h fun v25 =>
 call (.fn 182 []) [x0, v21, v25] h fun v26 h =>
 pExt 0 v26 fun v27 =>
 pExt 1 v26 fun v28 =>
 pNot v27 fun v29 =>
 fIf v29 (
 k (.tup [(.bool false), v28]) h) (
 j18 x0 x1 x2 x3 x4 x5 x6 x7 x8 x9 x10 x25 v21 v27 v28 x15 x16 x17 x18 x19 x20 x21 x22 x23 x24 x25 x26 x25 v21 v26 v27 v28 x32 h)) fun j17 =>
 fIf v16 (
 j17 x0 .any .any .any .any .any .any .any .any x9 .any .any .any .any .any .any .any .any .any .any .any .any .any x23 x24 x25 v16 .any .any .any .any .any .any h) (
 j13 x0 .any .any .any .any .any .any .any .any x9 .any .any .any .any .any .any .any .any .any .any .any .any .any x23 x24 x25 v16 .any .any .any .any .any .any h)) x0 x1 x2 x3 x4 x5 x6 x7 x8 x9 x10 x11 x12 x13 x14 x15 x16 x17 x18 x19 x20 x21 x22 x8 v14 (.int .i64 0) x26 x27 x28 x29 x30 x31 x32 h) fun j12 =>
 pEql v10 (.int .i64 901) fun v30 =>
 fIf v30 (
 k (.tup [(.bool false), (.int .i64 1001)]) h) (
 pNeq v10 (.int .i64 0) fun v31 =>
 fOr v31 h (fun h k =>
 pFadr 0 v11 fun v32 =>
 fLoad1 v32 h fun v33 =>
 pNeq v33 x6 fun v34 =>
 k v34 h) fun v35 h =>
 fOr v35 h (fun h k =>
 pFadr 1 v11 fun v36 =>
 fLoad1 v36 h fun v37 =>
 pNeq v37 x7 fun v38 =>
 k v38 h) fun v39 h =>
 fOr v39 h (fun h k =>
 pFadr 2 v11 fun v40 =>
 fLoad1 v40 h fun v41 =>
 pLenL v41 fun v42 =>
 pLenL x8 fun v43 =>
 pNeq v42 v43 fun v44 =>
 k v44 h) fun v45 h =>
 fIf v45 (
 k (.tup [(.bool false), (.int .i64 0)]) h) (
 j12 x0 x1 x2 x3 x4 x5 x6 x7 x8 v11 v10 x11 x12 x13 x14 x15 x16 x17 x18 x19 v8 v9 v10 x23 x24 x25 x26 x27 x28 x29 x30 x31 x32 h))) fun j6 =>
 pEql v2 (.int .i64 0) fun v46 =>
 fIf v46 (
 k (.tup [(.bool true), (.int .i64 0)]) h) (
 j6 (nth a 0) (nth a 1) (nth a 2) v0 (.bool false) (.int .i64 0) v2 v3 v4 (nth a 12) (nth a 13) (nth a 14) (nth a 15) (nth a 16) (nth a 17) v1 v2 v3 v4 v5 (nth a 27) (nth a 31) (nth a 32) (nth a 59) (nth a 60) (nth a 61) (nth a 62) (nth a 63) (nth a 65) (nth a 66) (nth a 75) (nth a 76) (nth a 79) h)

theorem e182_holds_met {β : Type} (I : FI) (N : Nat) (call : FCall β) (a : List AV) (h : H) (k : K β) : fBody I 182 T.s182_holds_met N call a h k = f182_holds_met N call a h k := by kernel_rfl

noncomputable def f184___name_Looker__Look {β : Type} (N : Nat) (call : FCall β) (a : List AV) (h : H) (k : K β) : Option β :=
 fBox 0 (nth a 1) h fun v0 h =>
 fAlloc 0 [(.int .i64 0), (.int .i64 0), .nils] h fun v1 h =>
 fJoin 22 (fun x0 _ x2 x3 _ _ _ _ _ _ _ _ _ _ _ _ _ _ _ _ _ _ h =>
 pFadr 0 x2 fun v3 =>
 fLoad1 v3 h fun v4 =>
 call (.fn 210 []) [x0, v4] h fun v5 h =>
 pExt 0 v5 fun v6 =>
 pExt 1 v5 fun v7 =>
 fStore 3 x3 v6 h fun h =>
 fLoadN 3 x3 h fun v8 =>
 k (.tup [v8, v7]) h) fun j2 =>
 (fLoop 22 N fun l9 x0 _ x2 x3 _ _ _ _ _ _ _ _ _ _ _ _ _ _ _ _ _ _ h =>
 fJoin 22 (fun x0 x1 x2 x3 x4 x5 x6 x7 x8 x9 x10 x11 x12 x13 x14 x15 x16 x17 x18 x19 x20 x21 h =>
 fJoin 22 (fun x0 x1 x2 x3 x4 _ x6 x7 _ _ x10 x11 x12 x13 x14 x15 x16 x17 x18 x19 x20 x21 h =>
 fNil x0 fun v12 =>
 pFadr 1 v12 fun v13 =>
 fLoad1 v13 h fun v14 =>
 pSub v14 (.int .i64 1) fun v15 =>
 fNil x0 fun v16 =>
 pFadr 1 v16 fun v17 =>
 fStore 1 v17 v15 h fun h =>
 pFadr 1 x2 fun v18 =>
 fLoad1 v18 h fun v19 =>
 pFadr 2 x2 fun v20 =>
 fLoad1 v20 h fun v21 =>
 pIadr 4 v19 v21 fun v22 =>
 fNil v22 fun v23 =>
 pFadr 0 v23 fun v24 =>
 fLoad1 v24 h fun v25 =>
 pEql v25 (.int .i64 0) fun v26 =>
 fIf v26 (
 fNil v22 fun v27 =>
 pFadr 1 v27 fun v28 =>
 fLoad1 v28 h fun v29 =>
 pBuild [(.int .i64 0), (.int .i64 0), .nils] [(0, 1), (1, 1)] [(.int .i64 1), v29] fun v30 =>
 fStore 3 x3 v30 h fun h =>
 fLoadN 3 x3 h fun v31 =>
 k (.tup [v31, (.int .i64 0)]) h) (
 pEql v25 (.int .i64 1) fun v32 =>
 fIf v32 (
 pFadr 3 x2 fun v33 =>
 fLoad1 v33 h fun v34 =>
 fNil v22 fun v35 =>
 pFadr 1 v35 fun v36 =>
 fLoad1 v36 h fun v37 =>
 pIadr 4 v34 v37 fun v38 =>
 fLoadN 4 v38 h fun v39 =>
 fStore 4 x2 v39 h fun h =>
 l9 x0 x1 x2 x3 x4 v22 x6 x7 x0 v25 x10 x11 x12 x13 x14 x15 x16 x17 x18 x19 x20 x21 h) (
 pEql v25 (.int .i64 2) fun v40 =>
 fIf v40 (
 fNil v22 fun v41 =>
 pFadr 1 v41 fun v42 =>
 fLoad1 v42 h fun v43 =>
 call (.fn 206 []) [x2] h fun v44 h =>
 fLoad1 v42 h fun v45 =>
 fChk v45 v43 (
 call (.fn 205 []) [x0, v43, v44] h fun v46 h =>
 fStore 4 x2 v46 h fun h =>
 l9 x0 x1 x2 x3 x4 v22 x6 x7 x0 v25 x10 x11 x12 x13 x14 x15 x16 x17 x18 x19 x20 x21 h)) (
 pEql v25 (.int .i64 3) fun v47 =>
 fIf v47 (
 fNil v22 fun v48 =>
 pFadr 1 v48 fun v49 =>
 fLoad1 v49 h fun v50 =>
 call (.fn 206 []) [x2] h fun v51 h =>
 fLoad1 v49 h fun v52 =>
 fChk v52 v50 (
 pBuild [(.int .i64 0), (.int .i64 0), .nils] [(0, 1), (1, 1), (2, 1)] [(.int .i64 2), v50, v51] fun v53 =>
 fStore 3 x3 v53 h fun h =>
 fLoadN 3 x3 h fun v54 =>
 k (.tup [v54, (.int .i64 0)]) h)) (
 pEql v25 (.int .i64 4) fun v55 =>
 fIf v55 (
 fNil v22 fun v56 =>
 pFadr 1 v56 fun v57 =>
 fLoad1 v57 h fun v58 =>
 call (.fn 208 []) [x2, (.int .i64 0), .nils] h fun v59 h =>
 fLoad1 v57 h fun v60 =>
 fChk v60 v58 (
 call (.fn 208 []) [x2, (.int .i64 1), .nils] h fun v61 h =>
 fLoad1 v57 h fun v62 =>
 fChk v62 v58 (
 call (.fn 207 []) [x0, v58, v59, v61] h fun v63 h =>
 pExt 0 v63 fun v64 =>
 pExt 1 v63 fun v65 =>
 fStore 3 x3 v64 h fun h =>
 fLoadN 3 x3 h fun v66 =>
 k (.tup [v66, v65]) h))) (
 pEql v25 (.int .i64 5) fun v67 =>
 fIf v67 (
 call (.fn 208 []) [x2, (.int .i64 0), .nils] h fun v68 h =>
 call (.fn 184 []) [x0, v68] h fun v69 h =>
 pExt 0 v69 fun v70 =>
 pExt 1 v69 fun v71 =>
 fAlloc 0 [(.int .i64 0), (.int .i64 0), .nils] h fun v72 h =>
 fStore 3 v72 v70 h fun h =>
 pNeq v71 (.int .i64 0) fun v73 =>
 fOr v73 h (fun h k =>
 pFadr 0 v72 fun v74 =>
 fLoad1 v74 h fun v75 =>
 pEql v75 (.int .i64 3) fun v76 =>
 k v76 h) fun v77 h =>
 fIf v77 (
 fLoadN 3 v72 h fun v78 =>
 fStore 3 x3 v78 h fun h =>
 fLoadN 3 x3 h fun v79 =>
 k (.tup [v79, v71]) h) (
 pFadr 0 v72 fun v80 =>
 fLoad1 v80 h fun v81 =>
 pEql v81 (.int .i64 2) fun v82 =>
 fGrd v82 true h (fun h k =>
 pFadr 1 v72 fun v83 =>
 k v83 h) fun v84 h =>
 fGrd v82 true h (fun h k =>
 fLoad1 v84 h fun v85 =>
 k v85 h) fun v86 h =>
 fGrd v82 true h (fun h k =>
 k v22 h) fun v87 h =>
 fGrd v82 true h (fun h k =>
 fNil v87 fun v88 =>
 k v88 h) fun v89 h =>
 fGrd v82 true h (fun h k =>
 pFadr 1 v89 fun v90 =>
 k v90 h) fun v91 h =>
 fGrd v82 true h (fun h k =>
 fLoad1 v91 h fun v92 =>
 k v92 h) fun v93 h =>
 fGrd v82 true h (fun h k =>
 pEql v86 v93 fun v94 =>
 k v94 h) fun v95 h =>
 pPick v82 v95 (.bool false) fun v96 =>
 fGrd v96 true h (fun h k =>
 pFadr 2 v72 fun v97 =>
 k v97 h) fun v98 h =>
 fGrd v96 true h (fun h k =>
 fLoad1 v98 h fun v99 =>
 k v99 h) fun v100 h =>
 fGrd v96 true h (fun h k =>
 pLenL v100 fun v101 =>
 k v101 h) fun v102 h =>
 fGrd v96 true h (fun h k =>
 k v22 h) fun v103 h =>
 fGrd v96 true h (fun h k =>
 fNil v103 fun v104 =>
 k v104 h) fun v105 h =>
 fGrd v96 true h (fun h k =>
 pFadr 2 v105 fun v106 =>
 k v106 h) fun v107 h =>
 fGrd v96 true h (fun h k =>
 fLoad1 v107 h fun v108 =>
 k v108 h) fun v109 h =>
 fGrd v96 true h (fun h k =>
 pEql v102 v109 fun v110 =>
 k v110 h) fun v111 h =>
 pPick v96 v111 (.bool false) fun v112 =>
 fIf v112 (
 pFadr 2 v72 fun v113 =>
 fLoad1 v113 h fun v114 =>
 call (.fn 208 []) [x2, (.int .i64 1), v114] h fun v115 h =>
 fStore 4 x2 v115 h fun h =>
 l9 x0 x1 x2 x3 x4 v22 v72 v71 x0 v25 x10 x11 x12 v69 v70 v71 x16 x17 v112 x19 x20 x21 h) (
 call (.fn 208 []) [x2, (.int .i64 2), .nils] h fun v116 h =>
 fStore 4 x2 v116 h fun h =>
 l9 x0 x1 x2 x3 x4 v22 v72 v71 x0 v25 x10 x11 x12 v69 v70 v71 x16 x17 v112 x19 x20 x21 h))) (
 pEql v25 (.int .i64 6) fun v117 =>
 fIf v117 (
 call (.fn 208 []) [x2, (.int .i64 0), .nils] h fun v118 h =>
 fBslice 0 [(.str []), .nils, (.int .i64 0), .nils] 1 [(0, 4)] [v118] h fun v119 h =>
 call (.fn 208 []) [x2, (.int .i64 1), v119] h fun v120 h =>
 fStore 4 x2 v120 h fun h =>
 l9 x0 x1 x2 x3 x4 v22 x6 x7 x0 v25 x10 x11 x12 x13 x14 x15 x16 x17 x18 x19 x20 x21 h) (
 call (.fn 209 []) [] h fun v121 h =>
 pExt 0 v121 fun v122 =>
 pExt 1 v121 fun v123 =>
 fStore 3 x3 v122 h fun h =>
 fLoadN 3 x3 h fun v124 =>
 k (.tup [v124, v123]) h)))))))) fun j11 =>
 fNil x0 fun v125 =>
 pFadr 1 v125 fun v126 =>
 fLoad1 v126 h fun v127 =>
 pEql v127 (.int .i64 0) fun v128 =>
 fIf v128 (
 pBuild [(.int .i64 0), (.int .i64 0), .nils] [] [] fun v129 =>
 fStore 3 x3 v129 h fun h =>
 fLoadN 3 x3 h fun v130 =>
 k (.tup [v130, (.int .i64 901)]) h) (
 j11 x0 x1 x2 x3 x4 x5 x6 x7 x8 x9 x10 x11 x12 x13 x14 x15 x16 x17 x18 x19 x20 x21 h)) fun j10 =>
 pFadr 1 x2 fun v131 =>
 fLoad1 v131 h fun v132 =>
 pIsNil .sl true v132 fun v133 =>
 fIf v133 (
 j10 x0 .any x2 x3 .any .any .any .any .any .any .any .any .any .any .any .any .any .any .any .any .any .any h) (
 j2 x0 .any x2 x3 .any .any .any .any .any .any .any .any .any .any .any .any .any .any .any .any .any .any h)) (nth a 0) (nth a 1) v0 v1 (.int .i64 0) (nth a 6) (nth a 7) (nth a 8) (nth a 18) (nth a 33) (nth a 34) (nth a 35) (nth a 36) (nth a 85) (nth a 89) (nth a 90) (nth a 100) (nth a 101) (nth a 102) (nth a 136) (nth a 137) (nth a 138) h

theorem e184___name_Looker__Look {β : Type} (I : FI) (N : Nat) (call : FCall β) (a : List AV) (h : H) (k : K β) : fBody I 184 T.s184___name_Looker__Look N call a h k = f184___name_Looker__Look N call a h k := by kernel_rfl

noncomputable def f186_program_May_1 {β : Type} (_ : Nat) (_ : FCall β) (a : List AV) (h : H) (k : K β) : Option β :=
 fBox 0 (nth a 0) h fun v0 h =>
 pFadr 0 v0 fun v1 =>
 fLoad1 v1 h fun v2 =>
 pEql v2 (.int .i64 2) fun v3 =>
 fGrd v3 true h (fun h k =>
 pFadr 1 v0 fun v4 =>
 k v4 h) fun v5 h =>
 fGrd v3 true h (fun h k =>
 fLoad1 v5 h fun v6 =>
 k v6 h) fun v7 h =>
 fGrd v3 true h (fun h k =>
 pFadr 0 (nth a 1) fun v8 =>
 k v8 h) fun v9 h =>
 fGrd v3 true h (fun h k =>
 fLoad1 v9 h fun v10 =>
 k v10 h) fun v11 h =>
 fGrd v3 true h (fun h k =>
 pLenL v11 fun v12 =>
 k v12 h) fun v13 h =>
 fGrd v3 true h (fun h k =>
 pGeq v7 v13 fun v14 =>
 k v14 h) fun v15 h =>
 fGrd v3 true h (fun h k =>
 k v15 h) fun v16 h =>
 fGrd v16 false h (fun h k =>
 pFadr 3 v0 fun v17 =>
 k v17 h) fun v18 h =>
 fGrd v16 false h (fun h k =>
 fLoad1 v18 h fun v19 =>
 k v19 h) fun v20 h =>
 fGrd v16 false h (fun h k =>
 pLenL v20 fun v21 =>
 k v21 h) fun v22 h =>
 fGrd v16 false h (fun h k =>
 pFadr 0 (nth a 1) fun v23 =>
 k v23 h) fun v24 h =>
 fGrd v16 false h (fun h k =>
 fLoad1 v24 h fun v25 =>
 k v25 h) fun v26 h =>
 fGrd v16 false h (fun h k =>
 pFadr 1 v0 fun v27 =>
 k v27 h) fun v28 h =>
 fGrd v16 false h (fun h k =>
 fLoad1 v28 h fun v29 =>
 k v29 h) fun v30 h =>
 fGrd v16 false h (fun h k =>
 pIadr 2 v26 v30 fun v31 =>
 k v31 h) fun v32 h =>
 fGrd v16 false h (fun h k =>
 pFadr 0 v32 fun v33 =>
 k v33 h) fun v34 h =>
 fGrd v16 false h (fun h k =>
 fLoad1 v34 h fun v35 =>
 k v35 h) fun v36 h =>
 fGrd v16 false h (fun h k =>
 pNeq v22 v36 fun v37 =>
 k v37 h) fun v38 h =>
 fGrd v3 true h (fun h k =>
 pPick v16 (.bool true) v38 fun v39 =>
 k v39 h) fun v40 h =>
 pPick v3 v40 (.bool false) fun v41 =>
 k v41 h

theorem e186_program_May_1 {β : Type} (I : FI) (N : Nat) (call : FCall β) (a : List AV) (h : H) (k : K β) : fBody I 186 T.s186_program_May_1 N call a h k = f186_program_May_1 N call a h k := by kernel_rfl

noncomputable def f187_expr_May {β : Type} (N : Nat) (call : FCall β) (a : List AV) (h : H) (k : K β) : Option β :=
 fBox 0 (nth a 0) h fun v0 h =>
 pFadr 1 v0 fun v1 =>
 fLoad1 v1 h fun v2 =>
 pLenL v2 fun v3 =>
 pSub v3 (.int .i64 1) fun v4 =>
 fJoin 22 (fun x0 x1 x2 x3 _ x5 x6 x7 x8 x9 _ _ _ x13 x14 x15 x16 x17 x18 x19 x20 x21 h =>
 pFadr 1 x1 fun v6 =>
 fLoad1 v6 h fun v7 =>
 pLenL v7 fun v8 =>
 fMkslice 0 [(.int .i64 0)] 8 v8 v8 h fun v9 h =>
 fJoin 22 (fun x0 x1 x2 x3 x4 x5 _ x7 x8 x9 x10 x11 x12 x13 _ _ x16 x17 x18 x19 x20 x21 h =>
 pFadr 0 x1 fun v11 =>
 fLoad1 v11 h fun v12 =>
 pIadr 1 x4 x3 fun v13 =>
 fStore 1 v13 v12 h fun h =>
 fJoin 22 (fun _ _ _ _ _ _ _ _ _ _ _ _ _ _ _ _ _ _ _ _ _ _ h =>
 k (.bool true) h) fun j14 =>
 (fLoop 22 N fun l15 _ x1 _ _ x4 _ x6 _ _ _ _ _ _ _ _ _ _ _ _ _ _ _ h =>
 fJoin 22 (fun x0 x1 x2 x3 x4 x5 x6 _ x8 x9 x10 x11 x12 x13 x14 x15 x16 x17 x18 x19 x20 x21 h =>
 fJoin 22 (fun x0 x1 x2 x3 x4 x5 x6 x7 x8 x9 x10 x11 x12 x13 x14 x15 x16 x17 x18 x19 x20 x21 h =>
 pSub x6 (.int .i64 1) fun v18 =>
 l15 x0 x1 x2 x3 x4 x5 v18 x7 x8 x9 x10 x11 x12 x13 x14 x15 x16 x17 x18 x19 x20 x21 h) fun j17 =>
 pFadr 1 x1 fun v19 =>
 fLoad1 v19 h fun v20 =>
 pIadr 4 v20 x6 fun v21 =>
 fJoin 22 (fun x0 x1 x2 x3 x4 x5 x6 x7 x8 x9 x10 x11 x12 x13 x14 x15 _ _ _ x19 x20 x21 h =>
 fNil x7 fun v23 =>
 pFadr 3 v23 fun v24 =>
 fLoad1 v24 h fun v25 =>
 pLenL v25 fun v26 =>
 (fLoop 22 N fun l27 _ x1 _ _ x4 _ x6 x7 _ _ _ _ _ _ _ _ x16 x17 x18 _ _ _ h =>
 pLss x18 x17 fun v28 =>
 fJoin 22 (fun x0 x1 x2 x3 x4 x5 x6 x7 _ _ x10 x11 x12 x13 x14 x15 x16 x17 x18 x19 _ _ h =>
 fJoin 22 (fun x0 x1 x2 x3 x4 x5 x6 x7 x8 x9 x10 x11 x12 x13 x14 x15 x16 x17 x18 x19 x20 x21 h =>
 pAdd x18 (.int .i64 1) fun v31 =>
 l27 x0 x1 x2 x3 x4 x5 x6 x7 x8 x9 x10 x11 x12 x13 x14 x15 x16 x17 v31 x19 x20 x21 h) fun j30 =>
 pIadr 1 x16 x18 fun v32 =>
 fLoad1 v32 h fun v33 =>
 fJoin 22 (fun x0 x1 x2 x3 x4 x5 x6 x7 x8 x9 x10 x11 x12 x13 x14 x15 x16 x17 x18 x19 x20 x21 h =>
 pIadr 1 x4 x6 fun v35 =>
 fLoad1 v35 h fun v36 =>
 call (.fn 214 []) [x7, x8] h fun v37 h =>
 fLoad1 v35 h fun v38 =>
 fChk v38 v36 (
 pAdd v36 v37 fun v39 =>
 pIadr 1 x4 x9 fun v40 =>
 fStore 1 v40 v39 h fun h =>
 j30 x0 x1 x2 x3 x4 x5 x6 x7 x8 x9 x10 x11 x12 x13 x14 x15 x16 x17 x18 x19 x20 x21 h)) fun j34 =>
 pLss v33 (.int .i64 0) fun v41 =>
 fOr v41 h (fun h k =>
 pGeq v33 x6 fun v42 =>
 k v42 h) fun v43 h =>
 fOr v43 h (fun h k =>
 pIadr 1 x4 v33 fun v44 =>
 fLoad1 v44 h fun v45 =>
 pNeq v45 (.int .i64 (-1)) fun v46 =>
 k v46 h) fun v47 h =>
 fIf v47 (
 k (.bool false) h) (
 j34 x0 x1 x2 x3 x4 x5 x6 x7 x18 v33 x10 x11 x12 x13 x14 x15 x16 x17 x18 x19 x18 v33 h)) fun j29 =>
 fIf v28 (
 j29 .any x1 .any .any x4 .any x6 x7 .any .any .any .any .any .any .any .any x16 x17 x18 v28 .any .any h) (
 j17 .any x1 .any .any x4 .any x6 x7 .any .any .any .any .any .any .any .any x16 x17 x18 v28 .any .any h)) x0 x1 x2 x3 x4 x5 x6 x7 x8 x9 x10 x11 x12 x13 x14 x15 v25 v26 (.int .i64 0) x19 x20 x21 h) fun j22 =>
 pIadr 1 x4 x6 fun v48 =>
 fLoad1 v48 h fun v49 =>
 pEql v49 (.int .i64 (-1)) fun v50 =>
 fOr v50 h (fun h k =>
 pIadr 1 x4 x6 fun v51 =>
 fLoad1 v51 h fun v52 =>
 pGtr v52 (.int .i64 8) fun v53 =>
 k v53 h) fun v54 h =>
 fOr v54 h (fun h k =>
 pIadr 1 x4 x6 fun v55 =>
 fLoad1 v55 h fun v56 =>
 call (.fn 213 []) [v21, v56] h fun v57 h =>
 pNot v57 fun v58 =>
 k v58 h) fun v59 h =>
 fIf v59 (
 k (.bool false) h) (
 j22 x0 x1 x2 x3 x4 x5 x6 v21 x8 x9 x10 x11 x12 x13 x14 x15 x16 x17 x18 x19 x20 x21 h)) fun j16 =>
 pGeq x6 (.int .i64 0) fun v60 =>
 fIf v60 (
 j16 .any x1 .any .any x4 .any x6 .any .any .any .any .any .any .any .any .any .any .any .any .any .any .any h) (
 j14 .any x1 .any .any x4 .any x6 .any .any .any .any .any .any .any .any .any .any .any .any .any .any .any h)) x0 x1 x2 x3 x4 x5 x3 x7 x8 x9 x10 x11 x12 x13 x4 x3 x16 x17 x18 x19 x20 x21 h) fun j10 =>
 (fLoop 22 N fun l61 _ x1 _ x3 x4 _ _ _ _ _ _ x11 x12 _ _ _ _ _ _ _ _ _ h =>
 pLss x12 x11 fun v62 =>
 fJoin 22 (fun x0 x1 x2 x3 x4 _ x6 x7 x8 x9 x10 x11 x12 x13 x14 x15 x16 x17 x18 x19 x20 x21 h =>
 fJoin 22 (fun x0 x1 x2 x3 x4 x5 x6 x7 x8 x9 x10 x11 x12 x13 x14 x15 x16 x17 x18 x19 x20 x21 h =>
 pAdd x12 (.int .i64 1) fun v65 =>
 l61 x0 x1 x2 x3 x4 x5 x6 x7 x8 x9 x10 x11 v65 x13 x14 x15 x16 x17 x18 x19 x20 x21 h) fun j64 =>
 pIadr 1 x4 x12 fun v66 =>
 fStore 1 v66 (.int .i64 (-1)) h fun h =>
 j64 x0 x1 x2 x3 x4 x12 x6 x7 x8 x9 x10 x11 x12 x13 x14 x15 x16 x17 x18 x19 x20 x21 h) fun j63 =>
 fIf v62 (
 j63 .any x1 .any x3 x4 .any .any .any .any .any .any x11 x12 v62 .any .any .any .any .any .any .any .any h) (
 j10 .any x1 .any x3 x4 .any .any .any .any .any .any x11 x12 v62 .any .any .any .any .any .any .any .any h)) x0 x1 x2 x3 v9 x5 x6 x7 x8 x9 v8 x3 (.int .i64 0) x13 x14 x15 x16 x17 x18 x19 x20 x21 h) fun j5 =>
 pFadr 0 v0 fun v67 =>
 fLoad1 v67 h fun v68 =>
 call (.fn 212 []) [v68, (.int .i64 3)] h fun v69 h =>
 pNot v69 fun v70 =>
 fOr v70 h (fun h k =>
 call (.fn 212 []) [v4, (.int .i64 23)] h fun v71 h =>
 pNot v71 fun v72 =>
 k v72 h) fun v73 h =>
 fIf v73 (
 k (.bool false) h) (
 j5 (nth a 0) v0 (.bool false) v4 (nth a 4) (nth a 5) (nth a 6) (nth a 7) (nth a 8) (nth a 9) (nth a 25) (nth a 27) (nth a 28) (nth a 29) (nth a 35) (nth a 36) (nth a 73) (nth a 74) (nth a 75) (nth a 76) (nth a 77) (nth a 79) h)

theorem e187_expr_May {β : Type} (I : FI) (N : Nat) (call : FCall β) (a : List AV) (h : H) (k : K β) : fBody I 187 T.s187_expr_May N call a h k = f187_expr_May N call a h k := by kernel_rfl

noncomputable def f188_slices_ContainsFunc___api_Expr_api_Expr_ {β : Type} (_ : Nat) (call : FCall β) (a : List AV) (h : H) (k : K β) : Option β :=
 call (.fn 215 []) [(nth a 0), (nth a 1)] h fun v0 h =>
 pGeq v0 (.int .i64 0) fun v1 =>
 k v1 h

theorem e188_slices_ContainsFunc___api_Expr_api_Expr_ {β : Type} (I : FI) (N : Nat) (call : FCall β) (a : List AV) (h : H) (k : K β) : fBody I 188 T.s188_slices_ContainsFunc___api_Expr_api_Expr_ N call a h k = f188_slices_ContainsFunc___api_Expr_api_Expr_ N call a h k := by kernel_rfl

noncomputable def f204_name_Term {β : Type} (_ : Nat) (_ : FCall β) (a : List AV) (h : H) (k : K β) : Option β :=
 fAlloc 0 [(.str []), .nils, (.int .i64 0), .nils] h fun v0 h =>
 pBuild [(.str []), .nils, (.int .i64 0), .nils] [(0, 1)] [(nth a 0)] fun v1 =>
 fStore 4 v0 v1 h fun h =>
 fLoadN 4 v0 h fun v2 =>
 k v2 h

theorem e204_name_Term {β : Type} (I : FI) (N : Nat) (call : FCall β) (a : List AV) (h : H) (k : K β) : fBody I 204 T.s204_name_Term N call a h k = f204_name_Term N call a h k := by kernel_rfl

noncomputable def f205___name_Looker__call {β : Type} (_ : Nat) (_ : FCall β) (a : List AV) (h : H) (k : K β) : Option β :=
 fAlloc 0 [(.str []), .nils, (.int .i64 0), .nils] h fun v0 h =>
 fNil (nth a 0) fun v1 =>
 pFadr 0 v1 fun v2 =>
 fLoad1 v2 h fun v3 =>
 pIadr 2 v3 (nth a 1) fun v4 =>
 pFadr 1 v4 fun v5 =>
 fLoad1 v5 h fun v6 =>
 pLenL v6 fun v7 =>
 pSub v7 (.int .i64 1) fun v8 =>
 pBuild [(.str []), .nils, (.int .i64 0), .nils] [(1, 1), (2, 1), (3, 1)] [v6, v8, (nth a 2)] fun v9 =>
 fStore 4 v0 v9 h fun h =>
 fLoadN 4 v0 h fun v10 =>
 k v10 h

theorem e205___name_Looker__call {β : Type} (I : FI) (N : Nat) (call : FCall β) (a : List AV) (h : H) (k : K β) : fBody I 205 T.s205___name_Looker__call N call a h k = f205___name_Looker__call N call a h k := by kernel_rfl

noncomputable def f206___name_Thing__kids {β : Type} (N : Nat) (call : FCall β) (a : List AV) (h : H) (k : K β) : Option β :=
 fJoin 7 (fun _ _ x2 _ _ _ _ h =>
 k x2 h) fun j0 =>
 fNil (nth a 0) fun v1 =>
 pFadr 1 v1 fun v2 =>
 fLoad1 v2 h fun v3 =>
 fNil (nth a 0) fun v4 =>
 pFadr 2 v4 fun v5 =>
 fLoad1 v5 h fun v6 =>
 pIadr 4 v3 v6 fun v7 =>
 pFadr 3 v7 fun v8 =>
 fLoad1 v8 h fun v9 =>
 pLenL v9 fun v10 =>
 (fLoop 7 N fun l11 x0 _ x2 _ x4 x5 _ h =>
 pLss x5 x4 fun v12 =>
 fJoin 7 (fun x0 x1 x2 _ x4 x5 x6 h =>
 fJoin 7 (fun x0 x1 x2 x3 x4 x5 x6 h =>
 pAdd x5 (.int .i64 1) fun v15 =>
 l11 x0 x1 x2 x3 x4 v15 x6 h) fun j14 =>
 call (.fn 208 []) [x0, x5, .nils] h fun v16 h =>
 fBslice 0 [(.str []), .nils, (.int .i64 0), .nils] 1 [(0, 4)] [v16] h fun v17 h =>
 fApp 0 4 72 x2 v17 h fun v18 h =>
 j14 x0 x1 v18 x5 x4 x5 x6 h) fun j13 =>
 fIf v12 (
 j13 x0 .any x2 .any x4 x5 v12 h) (
 j0 x0 .any x2 .any x4 x5 v12 h)) (nth a 0) .nils .nils (nth a 4) v10 (.int .i64 0) (nth a 18) h

theorem e206___name_Thing__kids {β : Type} (I : FI) (N : Nat) (call : FCall β) (a : List AV) (h : H) (k : K β) : fBody I 206 T.s206___name_Thing__kids N call a h k = f206___name_Thing__kids N call a h k := by kernel_rfl

noncomputable def f207___name_Looker__prim {β : Type} (N : Nat) (call : FCall β) (a : List AV) (h : H) (k : K β) : Option β :=
 fBox 0 (nth a 2) h fun v0 h =>
 fBox 0 (nth a 3) h fun v1 h =>
 fAlloc 0 [(.int .i64 0), (.int .i64 0), .nils] h fun v2 h =>
 fAlloc 0 [(.int .i64 0), (.int .i64 0)] h fun v3 h =>
 fJoin 32 (fun _ x1 _ _ _ _ x6 _ x8 _ _ _ _ _ _ _ _ _ _ _ _ _ _ _ _ _ _ _ _ _ _ _ h =>
 pIadrA 2 1 x8 (.int .i64 0) fun v5 =>
 fLoad1 v5 h fun v6 =>
 pIadrA 2 1 x8 (.int .i64 1) fun v7 =>
 fLoad1 v7 h fun v8 =>
 call (.fn 226 []) [x1, v6, v8] h fun v9 h =>
 pExt 0 v9 fun v10 =>
 pExt 1 v9 fun _ =>
 pBuild [(.int .i64 0), (.int .i64 0), .nils] [(0, 1), (1, 1)] [(.int .i64 1), v10] fun v12 =>
 fStore 3 x6 v12 h fun h =>
 fLoadN 3 x6 h fun v13 =>
 k (.tup [v13, (.int .i64 0)]) h) fun j4 =>
 fLoadN 4 v0 h fun v14 =>
 fLoadN 4 v1 h fun v15 =>
 fBslice 0 [(.str []), .nils, (.int .i64 0), .nils, (.str []), .nils, (.int .i64 0), .nils] 2 [(0, 4), (4, 4)] [v14, v15] h fun v16 h =>
 pLenL v16 fun v17 =>
 (fLoop 32 N fun l18 x0 x1 _ _ _ _ x6 _ x8 _ _ _ _ _ x14 x15 x16 _ _ _ _ _ _ _ _ _ _ _ _ _ _ _ h =>
 pLss x16 x15 fun v19 =>
 fJoin 32 (fun x0 x1 x2 x3 x4 x5 x6 x7 x8 _ _ _ _ x13 x14 x15 x16 x17 _ _ _ _ _ x23 x24 x25 x26 x27 x28 x29 x30 x31 h =>
 fJoin 32 (fun x0 x1 x2 x3 x4 x5 x6 x7 x8 x9 x10 x11 x12 x13 x14 x15 x16 x17 x18 x19 x20 x21 x22 x23 x24 x25 x26 x27 x28 x29 x30 x31 h =>
 pAdd x16 (.int .i64 1) fun v22 =>
 l18 x0 x1 x2 x3 x4 x5 x6 x7 x8 x9 x10 x11 x12 x13 x14 x15 v22 x17 x18 x19 x20 x21 x22 x23 x24 x25 x26 x27 x28 x29 x30 x31 h) fun j21 =>
 pIadr 4 x14 x16 fun v23 =>
 fLoadN 4 v23 h fun v24 =>
 fAlloc 0 [(.str []), .nils, (.int .i64 0), .nils] h fun v25 h =>
 fStore 4 v25 v24 h fun h =>
 fLoadN 4 v25 h fun v26 =>
 call (.fn 184 []) [x0, v26] h fun v27 h =>
 pExt 0 v27 fun v28 =>
 pExt 1 v27 fun v29 =>
 fAlloc 0 [(.int .i64 0), (.int .i64 0), .nils] h fun v30 h =>
 fStore 3 v30 v28 h fun h =>
 fJoin 32 (fun x0 x1 x2 x3 x4 x5 x6 x7 x8 x9 x10 x11 x12 x13 x14 x15 x16 x17 x18 x19 x20 x21 x22 x23 x24 x25 x26 x27 x28 x29 x30 x31 h =>
 fJoin 32 (fun x0 x1 x2 x3 x4 x5 x6 x7 x8 x9 x10 x11 x12 x13 x14 x15 x16 x17 x18 x19 x20 x21 x22 x23 x24 x25 x26 x27 _ x29 x30 x31 h =>
 pFadr 1 x11 fun v33 =>
 fLoad1 v33 h fun v34 =>
 pIadrA 2 1 x8 x9 fun v35 =>
 fStore 1 v35 v34 h fun h =>
 j21 x0 x1 x2 x3 x4 x5 x6 x7 x8 x9 x10 x11 x12 x13 x14 x15 x16 x17 x18 x19 x20 x21 x22 x23 x24 x25 x26 x27 x9 x29 x30 x31 h) fun j32 =>
 pFadr 0 x11 fun v36 =>
 fLoad1 v36 h fun v37 =>
 pNeq v37 (.int .i64 1) fun v38 =>
 fIf v38 (
 call (.fn 209 []) [] h fun v39 h =>
 pExt 0 v39 fun v40 =>
 pExt 1 v39 fun v41 =>
 fStore 3 x6 v40 h fun h =>
 fLoadN 3 x6 h fun v42 =>
 k (.tup [v42, v41]) h) (
 j32 x0 x1 x2 x3 x4 x5 x6 x7 x8 x9 x10 x11 x12 x13 x14 x15 x16 x17 x18 x19 x20 x21 x22 x23 x24 x25 x26 x27 x28 x29 x30 x31 h)) fun j31 =>
 pNeq v29 (.int .i64 0) fun v43 =>
 fIf v43 (
 pBuild [(.int .i64 0), (.int .i64 0), .nils] [] [] fun v44 =>
 fStore 3 x6 v44 h fun h =>
 fLoadN 3 x6 h fun v45 =>
 k (.tup [v45, v29]) h) (
 j31 x0 x1 x2 x3 x4 x5 x6 x7 x8 x16 v25 v30 v29 x13 x14 x15 x16 x17 x16 v24 v27 v28 v29 x23 x24 x25 x26 x27 x28 x29 x30 x31 h)) fun j20 =>
 fIf v19 (
 j20 x0 x1 .any .any .any .any x6 .any x8 .any .any .any .any .any x14 x15 x16 v19 .any .any .any .any .any .any .any .any .any .any .any .any .any .any h) (
 j4 x0 x1 .any .any .any .any x6 .any x8 .any .any .any .any .any x14 x15 x16 v19 .any .any .any .any .any .any .any .any .any .any .any .any .any .any h)) (nth a 0) (nth a 1) (nth a 2) (nth a 3) v0 v1 v2 (.int .i64 0) v3 (nth a 11) (nth a 12) (nth a 13) (nth a 14) (nth a 15) v16 v17 (.int .i64 0) (nth a 22) (nth a 23) (nth a 25) (nth a 26) (nth a 30) (nth a 31) (nth a 34) (nth a 35) (nth a 39) (nth a 40) (nth a 41) (nth a 42) (nth a 47) (nth a 54) (nth a 55) h

theorem e207___name_Looker__prim {β : Type} (I : FI) (N : Nat) (call : FCall β) (a : List AV) (h : H) (k : K β) : fBody I 207 T.s207___name_Looker__prim N call a h k = f207___name_Looker__prim N call a h k := by kernel_rfl

noncomputable def f208___name_Thing__kid {β : Type} (_ : Nat) (call : FCall β) (a : List AV) (h : H) (k : K β) : Option β :=
 fAlloc 0 [(.str []), .nils, (.int .i64 0), .nils] h fun v0 h =>
 fNil (nth a 0) fun v1 =>
 pFadr 1 v1 fun v2 =>
 fLoad1 v2 h fun v3 =>
 fNil (nth a 0) fun v4 =>
 pFadr 1 v4 fun v5 =>
 fLoad1 v5 h fun v6 =>
 fNil (nth a 0) fun v7 =>
 pFadr 2 v7 fun v8 =>
 fLoad1 v8 h fun v9 =>
 pIadr 4 v6 v9 fun v10 =>
 pFadr 3 v10 fun v11 =>
 fLoad1 v11 h fun v12 =>
 pIadr 1 v12 (nth a 1) fun v13 =>
 fLoad1 v13 h fun v14 =>
 fNil (nth a 0) fun v15 =>
 pFadr 3 v15 fun v16 =>
 fLoad1 v16 h fun v17 =>
 fBslice 0 [.nils, .nils] 2 [(0, 1), (1, 1)] [v17, (nth a 2)] h fun v18 h =>
 fLoad1 v13 h fun v19 =>
 fChk v19 v14 (
 fLoad1 v11 h fun v20 =>
 fChk v20 v12 (
 fLoad1 v8 h fun v21 =>
 fChk v21 v9 (
 fLoad1 v5 h fun v22 =>
 fChk v22 v6 (
 fLoad1 v2 h fun v23 =>
 fChk v23 v3 (
 call (.fn 227 []) [v18] h fun v24 h =>
 fLoad1 v13 h fun v25 =>
 fChk v25 v14 (
 fLoad1 v11 h fun v26 =>
 fChk v26 v12 (
 fLoad1 v8 h fun v27 =>
 fChk v27 v9 (
 fLoad1 v5 h fun v28 =>
 fChk v28 v6 (
 fLoad1 v2 h fun v29 =>
 fChk v29 v3 (
 pBuild [(.str []), .nils, (.int .i64 0), .nils] [(1, 1), (2, 1), (3, 1)] [v3, v14, v24] fun v30 =>
 fStore 4 v0 v30 h fun h =>
 fLoadN 4 v0 h fun v31 =>
 k v31 h))))))))))

theorem e208___name_Thing__kid {β : Type} (I : FI) (N : Nat) (call : FCall β) (a : List AV) (h : H) (k : K β) : fBody I 208 T.s208___name_Thing__kid N call a h k = f208___name_Thing__kid N call a h k := by kernel_rfl

noncomputable def f209_name_failure {β : Type} (_ : Nat) (_ : FCall β) (_ : List AV) (h : H) (k : K β) : Option β :=
 fAlloc 0 [(.int .i64 0), (.int .i64 0), .nils] h fun v0 h =>
 pBuild [(.int .i64 0), (.int .i64 0), .nils] [(0, 1)] [(.int .i64 3)] fun v1 =>
 fStore 3 v0 v1 h fun h =>
 fLoadN 3 v0 h fun v2 =>
 k (.tup [v2, (.int .i64 0)]) h

theorem e209_name_failure {β : Type} (I : FI) (N : Nat) (call : FCall β) (a : List AV) (h : H) (k : K β) : fBody I 209 T.s209_name_failure N call a h k = f209_name_failure N call a h k := by kernel_rfl

noncomputable def f210___name_Looker__term {β : Type} (N : Nat) (call : FCall β) (a : List AV) (h : H) (k : K β) : Option β :=
 fAlloc 0 [(.int .i64 0), (.int .i64 0), .nils] h fun v0 h =>
 call (.fn 11 []) [(nth a 1)] h fun v1 h =>
 pExt 0 v1 fun v2 =>
 pExt 1 v1 fun v3 =>
 pExt 2 v1 fun v4 =>
 pExt 3 v1 fun v5 =>
 fJoin 18 (fun x0 x1 x2 x3 x4 x5 _ x7 x8 x9 x10 x11 x12 _ _ _ _ x17 h =>
 pBuild [(.int .i64 0), (.int .i64 0), .nils] [(0, 1), (1, 1)] [x3, x4] fun v7 =>
 fAlloc 0 [(.int .i64 0), (.int .i64 0), .nils] h fun v8 h =>
 fStore 3 v8 v7 h fun h =>
 fJoin 18 (fun _ x1 _ _ _ _ x6 _ _ _ _ _ _ _ _ _ _ _ h =>
 fLoadN 3 x6 h fun v10 =>
 fStore 3 x1 v10 h fun h =>
 fLoadN 3 x1 h fun v11 =>
 k (.tup [v11, (.int .i64 0)]) h) fun j9 =>
 pLenL x5 fun v12 =>
 (fLoop 18 N fun l13 _ x1 _ _ _ _ x6 _ _ _ _ _ _ _ x14 x15 x16 _ h =>
 pLss x16 x15 fun v14 =>
 fJoin 18 (fun x0 x1 x2 x3 x4 x5 x6 _ x8 x9 x10 x11 x12 x13 x14 x15 x16 x17 h =>
 fJoin 18 (fun x0 x1 x2 x3 x4 x5 x6 x7 x8 x9 x10 x11 x12 x13 x14 x15 x16 x17 h =>
 pAdd x16 (.int .i64 1) fun v17 =>
 l13 x0 x1 x2 x3 x4 x5 x6 x7 x8 x9 x10 x11 x12 x13 x14 x15 v17 x17 h) fun j16 =>
 pIadr 1 x14 x16 fun v18 =>
 fLoad1 v18 h fun v19 =>
 pFadr 2 x6 fun v20 =>
 fLoad1 v20 h fun v21 =>
 call (.fn 204 []) [v19] h fun v22 h =>
 fLoad1 v20 h fun v23 =>
 fChk v23 v21 (
 fBslice 0 [(.str []), .nils, (.int .i64 0), .nils] 1 [(0, 4)] [v22] h fun v24 h =>
 fLoad1 v20 h fun v25 =>
 fChk v25 v21 (
 fApp 0 4 72 v21 v24 h fun v26 h =>
 pFadr 2 x6 fun v27 =>
 fStore 1 v27 v26 h fun h =>
 j16 x0 x1 x2 x3 x4 x5 x6 v19 x8 x9 x10 x11 x12 x13 x14 x15 x16 x17 h))) fun j15 =>
 fIf v14 (
 j15 .any x1 .any .any .any .any x6 .any .any .any .any .any .any .any x14 x15 x16 v14 h) (
 j9 .any x1 .any .any .any .any x6 .any .any .any .any .any .any .any x14 x15 x16 v14 h)) x0 x1 x2 x3 x4 x5 v8 x7 x8 x9 x10 x11 x12 v7 x5 v12 (.int .i64 0) x17 h) fun j6 =>
 pEql v2 (.int .i64 0) fun v28 =>
 fIf v28 (
 pBuild [(.int .i64 0), (.int .i64 0), .nils] [] [] fun v29 =>
 fStore 3 v0 v29 h fun h =>
 fLoadN 3 v0 h fun v30 =>
 k (.tup [v30, (.int .i64 902)]) h) (
 j6 (nth a 1) v0 (.int .i64 0) v2 v3 v4 (nth a 10) (nth a 12) v1 v2 v3 v4 v5 (nth a 25) (nth a 26) (nth a 27) (nth a 28) (nth a 29) h)

theorem e210___name_Looker__term {β : Type} (I : FI) (N : Nat) (call : FCall β) (a : List AV) (h : H) (k : K β) : fBody I 210 T.s210___name_Looker__term N call a h k = f210___name_Looker__term N call a h k := by kernel_rfl

noncomputable def f212_expr_within {β : Type} (_ : Nat) (_ : FCall β) (a : List AV) (h : H) (k : K β) : Option β :=
 pGeq (nth a 0) (.int .i64 0) fun v0 =>
 fAnd v0 h (fun h k =>
 pLeq (nth a 0) (nth a 1) fun v1 =>
 k v1 h) fun v2 h =>
 k v2 h

theorem e212_expr_within {β : Type} (I : FI) (N : Nat) (call : FCall β) (a : List AV) (h : H) (k : K β) : fBody I 212 T.s212_expr_within N call a h k = f212_expr_within N call a h k := by kernel_rfl

noncomputable def f213_expr_part {β : Type} (_ : Nat) (call : FCall β) (a : List AV) (h : H) (k : K β) : Option β :=
 fJoin 4 (fun _ _ _ _ h =>
 k (.bool false) h) fun j0 =>
 fNil (nth a 0) fun v1 =>
 pFadr 0 v1 fun v2 =>
 fLoad1 v2 h fun v3 =>
 pEql v3 (.int .i64 0) fun v4 =>
 fIf v4 (
 fNil (nth a 0) fun v5 =>
 pFadr 1 v5 fun v6 =>
 fLoad1 v6 h fun v7 =>
 call (.fn 28 []) [v7] h fun v8 h =>
 fAnd v8 h (fun h k =>
 call (.fn 229 []) [(nth a 0), (.int .i64 0), (.int .i64 0), (.int .i64 0)] h fun v9 h =>
 k v9 h) fun v10 h =>
 k v10 h) (
 pEql v3 (.int .i64 1) fun v11 =>
 fIf v11 (
 fNil (nth a 0) fun v12 =>
 pFadr 1 v12 fun v13 =>
 fLoad1 v13 h fun v14 =>
 pSub (nth a 1) (.int .i64 1) fun v15 =>
 call (.fn 212 []) [v14, v15] h fun v16 h =>
 fAnd v16 h (fun h k =>
 call (.fn 229 []) [(nth a 0), (.int .i64 0), (.int .i64 0), (.int .i64 0)] h fun v17 h =>
 k v17 h) fun v18 h =>
 k v18 h) (
 pEql v3 (.int .i64 2) fun v19 =>
 fIf v19 (
 fNil (nth a 0) fun v20 =>
 pFadr 1 v20 fun v21 =>
 fLoad1 v21 h fun v22 =>
 call (.fn 212 []) [v22, (.int .i64 7)] h fun v23 h =>
 fAnd v23 h (fun h k =>
 call (.fn 229 []) [(nth a 0), (.int .i64 0), (.int .i64 0), (.int .i64 3)] h fun v24 h =>
 k v24 h) fun v25 h =>
 k v25 h) (
 pEql v3 (.int .i64 3) fun v26 =>
 fIf v26 (
 fNil (nth a 0) fun v27 =>
 pFadr 1 v27 fun v28 =>
 fLoad1 v28 h fun v29 =>
 call (.fn 212 []) [v29, (.int .i64 99)] h fun v30 h =>
 fAnd v30 h (fun h k =>
 call (.fn 229 []) [(nth a 0), (.int .i64 0), (.int .i64 0), (.int .i64 3)] h fun v31 h =>
 k v31 h) fun v32 h =>
 k v32 h) (
 pEql v3 (.int .i64 4) fun v33 =>
 fIf v33 (
 fNil (nth a 0) fun v34 =>
 pFadr 1 v34 fun v35 =>
 fLoad1 v35 h fun v36 =>
 call (.fn 212 []) [v36, (.int .i64 4)] h fun v37 h =>
 fAnd v37 h (fun h k =>
 call (.fn 229 []) [(nth a 0), (.int .i64 0), (.int .i64 2), (.int .i64 2)] h fun v38 h =>
 k v38 h) fun v39 h =>
 k v39 h) (
 pEql v3 (.int .i64 5) fun v40 =>
 fIf v40 (
 fNil (nth a 0) fun v41 =>
 pFadr 1 v41 fun v42 =>
 fLoad1 v42 h fun v43 =>
 call (.fn 212 []) [v43, (.int .i64 99)] h fun v44 h =>
 fAnd v44 h (fun h k =>
 call (.fn 229 []) [(nth a 0), (.int .i64 3), (.int .i64 3), (.int .i64 3)] h fun v45 h =>
 k v45 h) fun v46 h =>
 k v46 h) (
 pEql v3 (.int .i64 6) fun v47 =>
 fIf v47 (
 fNil (nth a 0) fun v48 =>
 pFadr 1 v48 fun v49 =>
 fLoad1 v49 h fun v50 =>
 pEql v50 (.int .i64 0) fun v51 =>
 fAnd v51 h (fun h k =>
 call (.fn 229 []) [(nth a 0), (.int .i64 0), (.int .i64 2), (.int .i64 2)] h fun v52 h =>
 k v52 h) fun v53 h =>
 k v53 h) (
 pEql v3 (.int .i64 7) fun v54 =>
 fIf v54 (
 fNil (nth a 0) fun v55 =>
 pFadr 1 v55 fun v56 =>
 fLoad1 v56 h fun v57 =>
 pEql v57 (.int .i64 0) fun v58 =>
 fAnd v58 h (fun h k =>
 call (.fn 229 []) [(nth a 0), (.int .i64 0), (.int .i64 0), (.int .i64 0)] h fun v59 h =>
 k v59 h) fun v60 h =>
 k v60 h) (
 j0 (nth a 0) (nth a 1) (.bool false) v3 h))))))))

theorem e213_expr_part {β : Type} (I : FI) (N : Nat) (call : FCall β) (a : List AV) (h : H) (k : K β) : fBody I 213 T.s213_expr_part N call a h k = f213_expr_part N call a h k := by kernel_rfl

noncomputable def f214_expr_more {β : Type} (_ : Nat) (_ : FCall β) (a : List AV) (h : H) (k : K β) : Option β :=
 fJoin 3 (fun _ _ _ h =>
 k (.int .i64 0) h) fun j0 =>
 pNeq (nth a 1) (.int .i64 1) fun v1 =>
 fIf v1 (
 k (.int .i64 0) h) (
 fNil (nth a 0) fun v2 =>
 pFadr 0 v2 fun v3 =>
 fLoad1 v3 h fun v4 =>
 pEql v4 (.int .i64 5) fun v5 =>
 fIf v5 (
 fNil (nth a 0) fun v6 =>
 pFadr 2 v6 fun v7 =>
 fLoad1 v7 h fun v8 =>
 k v8 h) (
 fNil (nth a 0) fun v9 =>
 pFadr 0 v9 fun v10 =>
 fLoad1 v10 h fun v11 =>
 pEql v11 (.int .i64 6) fun v12 =>
 fIf v12 (
 k (.int .i64 1) h) (
 j0 (nth a 0) (nth a 1) (.int .i64 0) h)))

theorem e214_expr_more {β : Type} (I : FI) (N : Nat) (call : FCall β) (a : List AV) (h : H) (k : K β) : fBody I 214 T.s214_expr_more N call a h k = f214_expr_more N call a h k := by kernel_rfl

noncomputable def f215_slices_IndexFunc___api_Expr_api_Expr_ {β : Type} (N : Nat) (call : FCall β) (a : List AV) (h : H) (k : K β) : Option β :=
 fJoin 7 (fun _ _ _ _ _ _ _ h =>
 k (.int .i64 (-1)) h) fun j0 =>
 pLenL (nth a 0) fun v1 =>
 (fLoop 7 N fun l2 x0 x1 _ _ x4 x5 _ h =>
 pLss x5 x4 fun v3 =>
 fJoin 7 (fun x0 x1 x2 _ x4 x5 x6 h =>
 fJoin 7 (fun x0 x1 x2 x3 x4 x5 x6 h =>
 pAdd x5 (.int .i64 1) fun v6 =>
 l2 x0 x1 x2 x3 x4 v6 x6 h) fun j5 =>
 pIadr 4 x0 x5 fun v7 =>
 fLoadN 4 v7 h fun v8 =>
 call x1 [v8] h fun v9 h =>
 fIf v9 (
 k x5 h) (
 j5 x0 x1 x2 x5 x4 x5 x6 h)) fun j4 =>
 fIf v3 (
 j4 x0 x1 .any .any x4 x5 v3 h) (
 j0 x0 x1 .any .any x4 x5 v3 h)) (nth a 0) (nth a 1) (.int .i64 0) (nth a 5) v1 (.int .i64 0) (nth a 9) h

theorem e215_slices_IndexFunc___api_Expr_api_Expr_ {β : Type} (I : FI) (N : Nat) (call : FCall β) (a : List AV) (h : H) (k : K β) : fBody I 215 T.s215_slices_IndexFunc___api_Expr_api_Expr_ N call a h k = f215_slices_IndexFunc___api_Expr_api_Expr_ N call a h k := by kernel_rfl

noncomputable def f226_prim_Do {β : Type} (_ : Nat) (call : FCall β) (a : List AV) (h : H) (k : K β) : Option β :=
 fJoin 7 (fun x0 x1 x2 x3 x4 _ _ h =>
 fJoin 7 (fun _ _ _ _ _ x5 _ h =>
 pConv .i16 x5 fun v2 =>
 pConv .i64 v2 fun v3 =>
 k (.tup [v3, (.int .i64 0)]) h) fun j1 =>
 pEql x0 (.int .i64 0) fun v4 =>
 fIf v4 (
 pAdd x1 x2 fun v5 =>
 j1 x0 x1 x2 x3 x4 v5 x0 h) (
 pEql x0 (.int .i64 1) fun v6 =>
 fIf v6 (
 pSub x1 x2 fun v7 =>
 j1 x0 x1 x2 x3 x4 v7 x0 h) (
 pEql x0 (.int .i64 2) fun v8 =>
 fIf v8 (
 pMul x1 x2 fun v9 =>
 j1 x0 x1 x2 x3 x4 v9 x0 h) (
 pEql x0 (.int .i64 3) fun v10 =>
 fIf v10 (
 pEql x1 x2 fun v11 =>
 call (.fn 230 []) [v11] h fun v12 h =>
 j1 x0 x1 x2 x3 x4 v12 x0 h) (
 pEql x0 (.int .i64 4) fun v13 =>
 fIf v13 (
 pLss x1 x2 fun v14 =>
 call (.fn 230 []) [v14] h fun v15 h =>
 j1 x0 x1 x2 x3 x4 v15 x0 h) (
 k (.tup [(.int .i64 0), (.int .i64 100)]) h)))))) fun j0 =>
 call (.fn 28 []) [(nth a 1)] h fun v16 h =>
 pNot v16 fun v17 =>
 fOr v17 h (fun h k =>
 call (.fn 28 []) [(nth a 2)] h fun v18 h =>
 pNot v18 fun v19 =>
 k v19 h) fun v20 h =>
 fIf v20 (
 k (.tup [(.int .i64 0), (.int .i64 100)]) h) (
 j0 (nth a 0) (nth a 1) (nth a 2) (.int .i64 0) (.int .i64 0) (nth a 8) (nth a 17) h)

theorem e226_prim_Do {β : Type} (I : FI) (N : Nat) (call : FCall β) (a : List AV) (h : H) (k : K β) : fBody I 226 T.s226_prim_Do N call a h k = f226_prim_Do N call a h k := by kernel_rfl

noncomputable def f227_slices_Concat___name_Thing_name_Thing_ {β : Type} (N : Nat) (call : FCall β) (a : List AV) (h : H) (k : K β) : Option β :=
 fJoin 14 (fun x0 x1 x2 x3 _ x5 x6 x7 x8 x9 _ _ _ x13 h =>
 call (.fn 231 []) [.nils, x2] h fun v1 h =>
 fJoin 14 (fun _ _ _ _ x4 _ _ _ _ _ _ _ _ _ h =>
 k x4 h) fun j2 =>
 pLenL x0 fun v3 =>
 (fLoop 14 N fun l4 _ _ _ _ x4 _ _ _ _ _ x10 x11 x12 _ h =>
 pLss x12 x11 fun v5 =>
 fJoin 14 (fun x0 x1 x2 x3 x4 _ x6 x7 x8 x9 x10 x11 x12 x13 h =>
 fJoin 14 (fun x0 x1 x2 x3 x4 x5 x6 x7 x8 x9 x10 x11 x12 x13 h =>
 pAdd x12 (.int .i64 1) fun v8 =>
 l4 x0 x1 x2 x3 x4 x5 x6 x7 x8 x9 x10 x11 v8 x13 h) fun j7 =>
 pIadr 1 x10 x12 fun v9 =>
 fLoad1 v9 h fun v10 =>
 fApp 0 4 72 x4 v10 h fun v11 h =>
 j7 x0 x1 x2 x3 v11 v10 x6 x7 x8 x9 x10 x11 x12 x13 h) fun j6 =>
 fIf v5 (
 j6 .any .any .any .any x4 .any .any .any .any .any x10 x11 x12 v5 h) (
 j2 .any .any .any .any x4 .any .any .any .any .any x10 x11 x12 v5 h)) x0 x1 x2 x3 v1 x5 x6 x7 x8 x9 x0 v3 (.int .i64 0) x13 h) fun j0 =>
 pLenL (nth a 0) fun v12 =>
 (fLoop 14 N fun l13 x0 _ x2 _ _ _ x6 x7 x8 _ _ _ _ _ h =>
 pLss x8 x7 fun v14 =>
 fJoin 14 (fun x0 x1 x2 _ x4 x5 x6 x7 x8 x9 x10 x11 x12 x13 h =>
 fJoin 14 (fun x0 x1 x2 x3 x4 x5 x6 x7 x8 x9 x10 x11 x12 x13 h =>
 pAdd x8 (.int .i64 1) fun v17 =>
 l13 x0 x1 x2 x3 x4 x5 x6 x7 v17 x9 x10 x11 x12 x13 h) fun j16 =>
 pIadr 1 x6 x8 fun v18 =>
 fLoad1 v18 h fun v19 =>
 pLenL v19 fun v20 =>
 pAdd x2 v20 fun v21 =>
 pLss v21 (.int .i64 0) fun v22 =>
 fIf v22 (
 none) (
 j16 x0 x1 v21 v19 x4 x5 x6 x7 x8 x9 x10 x11 x12 x13 h)) fun j15 =>
 fIf v14 (
 j15 x0 .any x2 .any .any .any x6 x7 x8 v14 .any .any .any .any h) (
 j0 x0 .any x2 .any .any .any x6 x7 x8 v14 .any .any .any .any h)) (nth a 0) .nils (.int .i64 0) (nth a 5) (nth a 6) (nth a 8) (nth a 0) v12 (.int .i64 0) (nth a 12) (nth a 25) (nth a 26) (nth a 27) (nth a 28) h

theorem e227_slices_Concat___name_Thing_name_Thing_ {β : Type} (I : FI) (N : Nat) (call : FCall β) (a : List AV) (h : H) (k : K β) : fBody I 227 T.s227_slices_Concat___name_Thing_name_Thing_ N call a h k = f227_slices_Concat___name_Thing_name_Thing_ N call a h k := by kernel_rfl

noncomputable def f229_expr_plain {β : Type} (_ : Nat) (_ : FCall β) (a : List AV) (h : H) (k : K β) : Option β :=
 fNil (nth a 0) fun v0 =>
 pFadr 2 v0 fun v1 =>
 fLoad1 v1 h fun v2 =>
 pGeq v2 (.int .i64 0) fun v3 =>
 fAnd v3 h (fun h k =>
 fNil (nth a 0) fun v4 =>
 pFadr 2 v4 fun v5 =>
 fLoad1 v5 h fun v6 =>
 pLeq v6 (nth a 1) fun v7 =>
 k v7 h) fun v8 h =>
 fAnd v8 h (fun h k =>
 fNil (nth a 0) fun v9 =>
 pFadr 3 v9 fun v10 =>
 fLoad1 v10 h fun v11 =>
 pLenL v11 fun v12 =>
 pGeq v12 (nth a 2) fun v13 =>
 k v13 h) fun v14 h =>
 fAnd v14 h (fun h k =>
 fNil (nth a 0) fun v15 =>
 pFadr 3 v15 fun v16 =>
 fLoad1 v16 h fun v17 =>
 pLenL v17 fun v18 =>
 pLeq v18 (nth a 3) fun v19 =>
 k v19 h) fun v20 h =>
 k v20 h

theorem e229_expr_plain {β : Type} (I : FI) (N : Nat) (call : FCall β) (a : List AV) (h : H) (k : K β) : fBody I 229 T.s229_expr_plain N call a h k = f229_expr_plain N call a h k := by kernel_rfl

noncomputable def f230_prim_truth {β : Type} (_ : Nat) (_ : FCall β) (a : List AV) (h : H) (k : K β) : Option β :=
 fJoin 2 (fun _ _ h =>
 k (.int .i64 0) h) fun j0 =>
 fIf (nth a 0) (
 k (.int .i64 1) h) (
 j0 (nth a 0) (.int .i64 0) h)

theorem e230_prim_truth {β : Type} (I : FI) (N : Nat) (call : FCall β) (a : List AV) (h : H) (k : K β) : fBody I 230 T.s230_prim_truth N call a h k = f230_prim_truth N call a h k := by kernel_rfl

noncomputable def f231_slices_Grow___name_Thing_name_Thing_ {β : Type} (_ : Nat) (_ : FCall β) (a : List AV) (h : H) (k : K β) : Option β :=
 fJoin 3 (fun x0 x1 x2 h =>
 fJoin 3 (fun x0 _ _ h =>
 k x0 h) fun j1 =>
 pCapL x0 fun v2 =>
 pLenL x0 fun v3 =>
 pSub v2 v3 fun v4 =>
 pSub x1 v4 fun v5 =>
 pGtr v5 (.int .i64 0) fun v6 =>
 fIf v6 (
 pCapL x0 fun v7 =>
 pSlL 4 false true false x0 [v7] fun v8 =>
 fAppz 0 4 72 [(.str []), .nils, (.int .i64 0), .nils] v8 v5 h fun v9 h =>
 pLenL x0 fun v10 =>
 pSlL 4 false true false v9 [v10] fun v11 =>
 j1 v11 v5 x2 h) (
 j1 x0 v5 x2 h)) fun j0 =>
 pLss (nth a 1) (.int .i64 0) fun v12 =>
 fIf v12 (
 none) (
 j0 (nth a 0) (nth a 1) .nils h)

theorem e231_slices_Grow___name_Thing_name_Thing_ {β : Type} (I : FI) (N : Nat) (call : FCall β) (a : List AV) (h : H) (k : K β) : fBody I 231 T.s231_slices_Grow___name_Thing_name_Thing_ N call a h k = f231_slices_Grow___name_Thing_name_Thing_ N call a h k := by kernel_rfl

end Am.F
