/- What the functions come to. -/
import Derived.Test.YtpalaplnolcimaaDoorAmGAT
import Derived.Test.YtpalaplnolcimaaDoorAmQo
set_option maxRecDepth 100000
set_option linter.unusedVariables false
namespace Am.F
open Go Am
noncomputable def f10_sleuthlaw0_LendTexts {β : Type} (N : Nat) (call : FCall β) (a : List AV) (h : H) (k : K β) : Option β :=
 qCall call (.fn 23 []) [(nth a 0)] h <| .mk fun v0 h =>
 qBslice 0 [(.str []), (.str [])] 2 [(0, 1), (1, 1)] [(.str [126, 114, 111, 111, 109]), (.str [126, 98, 101, 104, 105, 110, 100])] h <| .mk fun v1 h =>
 qApp 0 1 16 v0 v1 h <| .mk fun v2 h =>
 qLenL (nth a 0) <| .mk fun v3 =>
 qSlL 1 false true false v2 [v3] <| .mk fun v4 =>
 k v4 h

theorem e10_sleuthlaw0_LendTexts {β : Type} (I : FI) (N : Nat) (call : FCall β) (a : List AV) (h : H) (k : K β) : fBody I 10 T.s10_sleuthlaw0_LendTexts N call a h k = f10_sleuthlaw0_LendTexts N call a h k := by kernel_rfl

noncomputable def f11_J0 {β : Type} (call : FCall β) (k : K β) (x0 x1 x2 x3 x4 x5 x6 x7 x8 x9 x10 x11 x12 x13 x14 x15 x16 : AV) (h : H) : Option β :=
 qCall call (.fn 24 []) [x0] h <| .mk fun v1 h =>
 qExt 0 v1 <| .mk fun v2 =>
 qExt 1 v1 <| .mk fun v3 =>
 qExt 2 v1 <| .mk fun v4 =>
 qExt 3 v1 <| .mk fun v5 =>
 qExt 4 v1 <| .mk fun v6 =>
 k (.tup [v2, v3, v4, (.int .i64 0)]) h

noncomputable def f11_term_Cut {β : Type} (N : Nat) (call : FCall β) (a : List AV) (h : H) (k : K β) : Option β :=
 qJoin 17 (.mk (
 f11_J0 call k)) <| .mk fun j0 =>
 qCall call (.fn 17 []) [(nth a 0)] h <| .mk fun v7 h =>
 qNot v7 <| .mk fun v8 =>
 qIf v8 (.mk (
 k (.tup [(.int .i64 0), (.int .i64 0), .nils, (.int .i64 200)]) h)) <| .mk (
 j0 (nth a 0) (.int .i64 0) (.int .i64 0) .nils (.int .i64 0) (nth a 6) (nth a 7) (nth a 8) (nth a 14) (nth a 17) (nth a 18) (nth a 19) (nth a 20) (nth a 21) (nth a 22) (nth a 23) (nth a 24) h)

theorem e11_term_Cut {β : Type} (I : FI) (N : Nat) (call : FCall β) (a : List AV) (h : H) (k : K β) : fBody I 11 T.s11_term_Cut N call a h k = f11_term_Cut N call a h k := by kernel_rfl

noncomputable def f12_J3 {β : Type} (k : K β) (x0 x1 x2 x3 x4 x5 x6 : AV) (h : H) : Option β :=
 qFadr 0 x5 <| .mk fun v4 =>
 qLoad1 v4 h <| .mk fun v5 =>
 qFadr 1 x5 <| .mk fun v6 =>
 qLoad1 v6 h <| .mk fun v7 =>
 qFadr 2 x5 <| .mk fun v8 =>
 qLoad1 v8 h <| .mk fun v9 =>
 k (.tup [v5, v7, v9, (.int .i64 0)]) h

noncomputable def f12_J0 {β : Type} (call : FCall β) (k : K β) (x0 x1 x2 x3 x4 x5 x6 : AV) (h : H) : Option β :=
 qCall call (.fn 25 []) [x0, (.int .i64 0)] h <| .mk fun v1 h =>
 qAlloc 0 [(.int .i64 0), (.int .i64 0), .nils, (.int .i64 0)] h <| .mk fun v2 h =>
 qStore 4 v2 v1 h <| .mk fun h =>
 qJoin 7 (.mk (
 f12_J3 k)) <| .mk fun j3 =>
 qFadr 3 v2 <| .mk fun v10 =>
 qLoad1 v10 h <| .mk fun v11 =>
 qLenS x0 <| .mk fun v12 =>
 qNeq v11 v12 <| .mk fun v13 =>
 qIf v13 (.mk (
 k (.tup [(.int .i64 0), (.int .i64 0), .nils, (.int .i64 200)]) h)) <| .mk (
 j3 x0 x1 x2 x3 x4 v2 v1 h)

noncomputable def f12_sleuthref1_Cut {β : Type} (N : Nat) (call : FCall β) (a : List AV) (h : H) (k : K β) : Option β :=
 qJoin 7 (.mk (
 f12_J0 call k)) <| .mk fun j0 =>
 qLenS (nth a 0) <| .mk fun v14 =>
 qGtr v14 (.int .i64 1024) <| .mk fun v15 =>
 qIf v15 (.mk (
 k (.tup [(.int .i64 0), (.int .i64 0), .nils, (.int .i64 200)]) h)) <| .mk (
 j0 (nth a 0) (.int .i64 0) (.int .i64 0) .nils (.int .i64 0) (nth a 6) (nth a 11) h)

theorem e12_sleuthref1_Cut {β : Type} (I : FI) (N : Nat) (call : FCall β) (a : List AV) (h : H) (k : K β) : fBody I 12 T.s12_sleuthref1_Cut N call a h k = f12_sleuthref1_Cut N call a h k := by kernel_rfl

noncomputable def f13_J1 {β : Type} (k : K β) (x0 x1 x2 x3 x4 x5 : AV) (h : H) : Option β :=
 k (.tup [x5, (.int .i64 0)]) h

noncomputable def f13_J0 {β : Type} (call : FCall β) (k : K β) (x0 x1 x2 x3 x4 x5 : AV) (h : H) : Option β :=
 qJoin 6 (.mk (
 f13_J1 k)) <| .mk fun j1 =>
 qCall call (.fn 17 []) [x5] h <| .mk fun v2 h =>
 qNot v2 <| .mk fun v3 =>
 qIf v3 (.mk (
 k (.tup [(.str []), (.int .i64 200)]) h)) <| .mk (
 j1 x0 x1 x2 x3 x4 x5 h)

noncomputable def f13_term_Make {β : Type} (N : Nat) (call : FCall β) (a : List AV) (h : H) (k : K β) : Option β :=
 qJoin 6 (.mk (
 f13_J0 call k)) <| .mk fun j0 =>
 qEql (nth a 0) (.int .i64 2) <| .mk fun v4 =>
 qAnd v4 h (.mk fun h k =>
 qGeq (nth a 1) (.int .i64 0) <| .mk fun v5 =>
 k v5 h) <| .mk fun v6 h =>
 qAnd v6 h (.mk fun h k =>
 qLeq (nth a 1) (.int .i64 99) <| .mk fun v7 =>
 k v7 h) <| .mk fun v8 h =>
 qAnd v8 h (.mk fun h k =>
 qLenL (nth a 2) <| .mk fun v9 =>
 qLeq v9 (.int .i64 3) <| .mk fun v10 =>
 k v10 h) <| .mk fun v11 h =>
 qAnd v11 h (.mk fun h k =>
 qCall call (.fn 26 []) [(nth a 2)] h <| .mk fun v12 h =>
 k v12 h) <| .mk fun v13 h =>
 qIf v13 (.mk (
 qCall call (.fn 27 []) [(nth a 1), (nth a 2)] h <| .mk fun v14 h =>
 j0 (nth a 0) (nth a 1) (nth a 2) (.str []) (.int .i64 0) v14 h)) <| .mk (
 qLenL (nth a 2) <| .mk fun v15 =>
 qGtr v15 (.int .i64 0) <| .mk fun v16 =>
 qIf v16 (.mk (
 j0 (nth a 0) (nth a 1) (nth a 2) (.str []) (.int .i64 0) (.str []) h)) <| .mk (
 qEql (nth a 0) (.int .i64 0) <| .mk fun v17 =>
 qAnd v17 h (.mk fun h k =>
 qEql (nth a 1) (.int .i64 0) <| .mk fun v18 =>
 k v18 h) <| .mk fun v19 h =>
 qIf v19 (.mk (
 j0 (nth a 0) (nth a 1) (nth a 2) (.str []) (.int .i64 0) (.str [95]) h)) <| .mk (
 qEql (nth a 0) (.int .i64 3) <| .mk fun v20 =>
 qAnd v20 h (.mk fun h k =>
 qEql (nth a 1) (.int .i64 0) <| .mk fun v21 =>
 k v21 h) <| .mk fun v22 h =>
 qIf v22 (.mk (
 j0 (nth a 0) (nth a 1) (nth a 2) (.str []) (.int .i64 0) (.str [33]) h)) <| .mk (
 qEql (nth a 0) (.int .i64 1) <| .mk fun v23 =>
 qAnd v23 h (.mk fun h k =>
 qCall call (.fn 28 []) [(nth a 1)] h <| .mk fun v24 h =>
 k v24 h) <| .mk fun v25 h =>
 qIf v25 (.mk (
 qCall call (.fn 29 []) [(nth a 1)] h <| .mk fun v26 h =>
 j0 (nth a 0) (nth a 1) (nth a 2) (.str []) (.int .i64 0) v26 h)) <| .mk (
 j0 (nth a 0) (nth a 1) (nth a 2) (.str []) (.int .i64 0) (.str []) h)))))

theorem e13_term_Make {β : Type} (I : FI) (N : Nat) (call : FCall β) (a : List AV) (h : H) (k : K β) : fBody I 13 T.s13_term_Make N call a h k = f13_term_Make N call a h k := by kernel_rfl

noncomputable def f14_J7 {β : Type} (k : K β) (x0 x1 x2 x3 x4 x5 x6 x7 x8 x9 x10 x11 x12 x13 x14 x15 : AV) (h : H) : Option β :=
 k (.tup [x5, (.int .i64 0)]) h

noncomputable def f14_J1 {β : Type} (call : FCall β) (k : K β) (x0 x1 x2 x3 x4 x5 x6 x7 x8 x9 x10 x11 x12 x13 x14 x15 : AV) (h : H) : Option β :=
 qCall call (.fn 12 []) [x5] h <| .mk fun v2 h =>
 qExt 0 v2 <| .mk fun v3 =>
 qExt 1 v2 <| .mk fun v4 =>
 qExt 2 v2 <| .mk fun v5 =>
 qExt 3 v2 <| .mk fun v6 =>
 qJoin 16 (.mk (
 f14_J7 k)) <| .mk fun j7 =>
 qNeq v6 (.int .i64 0) <| .mk fun v8 =>
 qOr v8 h (.mk fun h k =>
 qNeq v3 x0 <| .mk fun v9 =>
 k v9 h) <| .mk fun v10 h =>
 qOr v10 h (.mk fun h k =>
 qNeq v4 x1 <| .mk fun v11 =>
 k v11 h) <| .mk fun v12 h =>
 qOr v12 h (.mk fun h k =>
 qCall call (.fn 32 []) [v5, x2] h <| .mk fun v13 h =>
 qNot v13 <| .mk fun v14 =>
 k v14 h) <| .mk fun v15 h =>
 qIf v15 (.mk (
 k (.tup [(.str []), (.int .i64 200)]) h)) <| .mk (
 j7 x0 x1 x2 x3 x4 x5 v3 v4 v5 v6 x10 v2 v3 v4 v5 v6 h)

noncomputable def f14_J0 {β : Type} (call : FCall β) (k : K β) (x0 x1 x2 x3 x4 x5 x6 x7 x8 x9 x10 x11 x12 x13 x14 x15 : AV) (h : H) : Option β :=
 qJoin 16 (.mk (
 f14_J1 call k)) <| .mk fun j1 =>
 qEql x0 (.int .i64 0) <| .mk fun v16 =>
 qIf v16 (.mk (
 j1 x0 x1 x2 x3 x4 (.str [95]) x6 x7 x8 x9 x0 x11 x12 x13 x14 x15 h)) <| .mk (
 qEql x0 (.int .i64 3) <| .mk fun v17 =>
 qIf v17 (.mk (
 j1 x0 x1 x2 x3 x4 (.str [33]) x6 x7 x8 x9 x0 x11 x12 x13 x14 x15 h)) <| .mk (
 qEql x0 (.int .i64 1) <| .mk fun v18 =>
 qIf v18 (.mk (
 qCall call (.fn 22 []) [x1] h <| .mk fun v19 h =>
 j1 x0 x1 x2 x3 x4 v19 x6 x7 x8 x9 x0 x11 x12 x13 x14 x15 h)) <| .mk (
 qEql x0 (.int .i64 2) <| .mk fun v20 =>
 qIf v20 (.mk (
 qCall call (.fn 22 []) [x1] h <| .mk fun v21 h =>
 qSAdd (.str [64]) v21 <| .mk fun v22 =>
 qLenL x2 <| .mk fun v23 =>
 qGtr v23 (.int .i64 0) <| .mk fun v24 =>
 qIf v24 (.mk (
 qSAdd v22 (.str [40]) <| .mk fun v25 =>
 qCall call (.fn 31 []) [x2] h <| .mk fun v26 h =>
 qSAdd v25 v26 <| .mk fun v27 =>
 qSAdd v27 (.str [41]) <| .mk fun v28 =>
 j1 x0 x1 x2 x3 x4 v28 x6 x7 x8 x9 x0 x11 x12 x13 x14 x15 h)) <| .mk (
 j1 x0 x1 x2 x3 x4 v22 x6 x7 x8 x9 x0 x11 x12 x13 x14 x15 h))) <| .mk (
 j1 x0 x1 x2 x3 x4 (.str []) x6 x7 x8 x9 x0 x11 x12 x13 x14 x15 h))))

noncomputable def f14_sleuthref1_Make {β : Type} (N : Nat) (call : FCall β) (a : List AV) (h : H) (k : K β) : Option β :=
 qJoin 16 (.mk (
 f14_J0 call k)) <| .mk fun j0 =>
 qLenL (nth a 2) <| .mk fun v29 =>
 qGtr v29 (.int .i64 3) <| .mk fun v30 =>
 qOr v30 h (.mk fun h k =>
 qCall call (.fn 30 []) [(nth a 1), (.int .i64 (-32768)), (.int .i64 32767)] h <| .mk fun v31 h =>
 qNot v31 <| .mk fun v32 =>
 k v32 h) <| .mk fun v33 h =>
 qIf v33 (.mk (
 k (.tup [(.str []), (.int .i64 200)]) h)) <| .mk (
 j0 (nth a 0) (nth a 1) (nth a 2) (.str []) (.int .i64 0) (nth a 8) (nth a 9) (nth a 10) (nth a 11) (nth a 12) (nth a 21) (nth a 44) (nth a 47) (nth a 48) (nth a 49) (nth a 50) h)

theorem e14_sleuthref1_Make {β : Type} (I : FI) (N : Nat) (call : FCall β) (a : List AV) (h : H) (k : K β) : fBody I 14 T.s14_sleuthref1_Make N call a h k = f14_sleuthref1_Make N call a h k := by kernel_rfl

noncomputable def f15_J1 {β : Type} (k : K β) (x0 x1 x2 x3 x4 : AV) (h : H) : Option β :=
 k (.bool true) h

noncomputable def f15_J4 {β : Type} (l2 : Cur β 5) (x0 x1 x2 x3 x4 : AV) (h : H) : Option β :=
 qAdd x3 (.int .i64 1) <| .mk fun v5 =>
 l2 x0 x1 x2 v5 x4 h

noncomputable def f15_J3 {β : Type} (k : K β) (l2 : Cur β 5) (x0 x1 x2 x3 x4 : AV) (h : H) : Option β :=
 qJoin 5 (.mk (
 f15_J4 l2)) <| .mk fun j4 =>
 qIadr 1 x0 x3 <| .mk fun v6 =>
 qLoad1 v6 h <| .mk fun v7 =>
 qIadr 1 x1 x3 <| .mk fun v8 =>
 qLoad1 v8 h <| .mk fun v9 =>
 qSNeq v7 v9 <| .mk fun v10 =>
 qIf v10 (.mk (
 k (.bool false) h)) <| .mk (
 j4 x0 x1 x2 x3 v10 h)

noncomputable def f15_L2 {β : Type} (k : K β) (j1 : Cur β 5) (l2 : Cur β 5) (x0 x1 x2 x3 x4 : AV) (h : H) : Option β :=
 qJoin 5 (.mk (
 f15_J3 k l2)) <| .mk fun j3 =>
 qLenL x0 <| .mk fun v11 =>
 qLss x3 v11 <| .mk fun v12 =>
 qIf v12 (.mk (
 j3 x0 x1 .any x3 .any h)) <| .mk (
 j1 x0 x1 .any x3 .any h)

noncomputable def f15_J0 {β : Type} (N : Nat) (k : K β) (x0 x1 x2 x3 x4 : AV) (h : H) : Option β :=
 qJoin 5 (.mk (
 f15_J1 k)) <| .mk fun j1 =>
 (qLoop 5 N <| .mk (
 f15_L2 k j1)) x0 x1 x2 (.int .i64 0) x4 h

noncomputable def f15_sleuthlaw0_SameTexts {β : Type} (N : Nat) (call : FCall β) (a : List AV) (h : H) (k : K β) : Option β :=
 qJoin 5 (.mk (
 f15_J0 N k)) <| .mk fun j0 =>
 qLenL (nth a 0) <| .mk fun v13 =>
 qLenL (nth a 1) <| .mk fun v14 =>
 qNeq v13 v14 <| .mk fun v15 =>
 qIf v15 (.mk (
 k (.bool false) h)) <| .mk (
 j0 (nth a 0) (nth a 1) (.bool false) (nth a 5) (nth a 25) h)

theorem e15_sleuthlaw0_SameTexts {β : Type} (I : FI) (N : Nat) (call : FCall β) (a : List AV) (h : H) (k : K β) : fBody I 15 T.s15_sleuthlaw0_SameTexts N call a h k = f15_sleuthlaw0_SameTexts N call a h k := by kernel_rfl

noncomputable def f16_sleuthlaw0_Num {β : Type} (N : Nat) (call : FCall β) (a : List AV) (h : H) (k : K β) : Option β :=
 k (nth a 0) h

theorem e16_sleuthlaw0_Num {β : Type} (I : FI) (N : Nat) (call : FCall β) (a : List AV) (h : H) (k : K β) : fBody I 16 T.s16_sleuthlaw0_Num N call a h k = f16_sleuthlaw0_Num N call a h k := by kernel_rfl

noncomputable def f17_J0 {β : Type} (call : FCall β) (k : K β) (x0 x1 x2 x3 x4 x5 x6 x7 x8 x9 : AV) (h : H) : Option β :=
 qCall call (.fn 24 []) [x0] h <| .mk fun v1 h =>
 qExt 0 v1 <| .mk fun v2 =>
 qExt 1 v1 <| .mk fun v3 =>
 qExt 2 v1 <| .mk fun v4 =>
 qExt 3 v1 <| .mk fun v5 =>
 qExt 4 v1 <| .mk fun v6 =>
 qAnd v6 h (.mk fun h k =>
 qSEql v5 (.str []) <| .mk fun v7 =>
 k v7 h) <| .mk fun v8 h =>
 k v8 h

noncomputable def f17_term_May {β : Type} (N : Nat) (call : FCall β) (a : List AV) (h : H) (k : K β) : Option β :=
 qJoin 10 (.mk (
 f17_J0 call k)) <| .mk fun j0 =>
 qLenS (nth a 0) <| .mk fun v9 =>
 qGtr v9 (.int .i64 1024) <| .mk fun v10 =>
 qIf v10 (.mk (
 k (.bool false) h)) <| .mk (
 j0 (nth a 0) (.bool false) (nth a 6) (nth a 7) (nth a 11) (nth a 14) (nth a 15) (nth a 16) (nth a 17) (nth a 18) h)

theorem e17_term_May {β : Type} (I : FI) (N : Nat) (call : FCall β) (a : List AV) (h : H) (k : K β) : fBody I 17 T.s17_term_May N call a h k = f17_term_May N call a h k := by kernel_rfl

noncomputable def f18_sleuthref1_TermMay {β : Type} (N : Nat) (call : FCall β) (a : List AV) (h : H) (k : K β) : Option β :=
 qCall call (.fn 12 []) [(nth a 0)] h <| .mk fun v0 h =>
 qExt 0 v0 <| .mk fun v1 =>
 qExt 1 v0 <| .mk fun v2 =>
 qExt 2 v0 <| .mk fun v3 =>
 qExt 3 v0 <| .mk fun v4 =>
 qEql v4 (.int .i64 0) <| .mk fun v5 =>
 k v5 h

theorem e18_sleuthref1_TermMay {β : Type} (I : FI) (N : Nat) (call : FCall β) (a : List AV) (h : H) (k : K β) : fBody I 18 T.s18_sleuthref1_TermMay N call a h k = f18_sleuthref1_TermMay N call a h k := by kernel_rfl

noncomputable def f19_J2 {β : Type} (l0 : Cur β 4) (x0 x1 x2 x3 : AV) (h : H) : Option β :=
 qAdd x1 (.int .i64 1) <| .mk fun v3 =>
 l0 x0 v3 x2 x3 h

noncomputable def f19_J1 {β : Type} (l0 : Cur β 4) (x0 x1 x2 x3 : AV) (h : H) : Option β :=
 qJoin 4 (.mk (
 f19_J2 l0)) <| .mk fun j2 =>
 qIadr 1 x0 x1 <| .mk fun v4 =>
 qLoad1 v4 h <| .mk fun v5 =>
 qSAdd (.str [126]) v5 <| .mk fun v6 =>
 qIadr 1 x0 x1 <| .mk fun v7 =>
 qStore 1 v7 v6 h <| .mk fun h =>
 j2 x0 x1 x0 x1 h

noncomputable def f19_L0 {β : Type} (k : K β) (l0 : Cur β 4) (x0 x1 x2 x3 : AV) (h : H) : Option β :=
 qJoin 4 (.mk (
 f19_J1 l0)) <| .mk fun j1 =>
 qLenL x0 <| .mk fun v8 =>
 qLss x1 v8 <| .mk fun v9 =>
 qIf v9 (.mk (
 j1 x0 x1 .any .any h)) <| .mk (
 k (.tup []) h)

noncomputable def f19_sleuthlaw0_SpoilTexts {β : Type} (N : Nat) (call : FCall β) (a : List AV) (h : H) (k : K β) : Option β :=
 (qLoop 4 N <| .mk (
 f19_L0 k)) (nth a 0) (.int .i64 0) (nth a 9) (nth a 10) h

theorem e19_sleuthlaw0_SpoilTexts {β : Type} (I : FI) (N : Nat) (call : FCall β) (a : List AV) (h : H) (k : K β) : fBody I 19 T.s19_sleuthlaw0_SpoilTexts N call a h k = f19_sleuthlaw0_SpoilTexts N call a h k := by kernel_rfl

noncomputable def f20_sleuthlaw0_KeptTexts {β : Type} (N : Nat) (call : FCall β) (a : List AV) (h : H) (k : K β) : Option β :=
 qLenL (nth a 0) <| .mk fun v0 =>
 qAdd v0 (.int .i64 2) <| .mk fun v1 =>
 qSlL 1 false true false (nth a 0) [v1] <| .mk fun v2 =>
 qCall call (.fn 15 []) [(nth a 0), (nth a 1)] h <| .mk fun v3 h =>
 qAnd v3 h (.mk fun h k =>
 qLenL (nth a 1) <| .mk fun v4 =>
 qIadr 1 v2 v4 <| .mk fun v5 =>
 qLoad1 v5 h <| .mk fun v6 =>
 qSEql v6 (.str [126, 114, 111, 111, 109]) <| .mk fun v7 =>
 k v7 h) <| .mk fun v8 h =>
 qAnd v8 h (.mk fun h k =>
 qLenL (nth a 1) <| .mk fun v9 =>
 qAdd v9 (.int .i64 1) <| .mk fun v10 =>
 qIadr 1 v2 v10 <| .mk fun v11 =>
 qLoad1 v11 h <| .mk fun v12 =>
 qSEql v12 (.str [126, 98, 101, 104, 105, 110, 100]) <| .mk fun v13 =>
 k v13 h) <| .mk fun v14 h =>
 k v14 h

theorem e20_sleuthlaw0_KeptTexts {β : Type} (I : FI) (N : Nat) (call : FCall β) (a : List AV) (h : H) (k : K β) : fBody I 20 T.s20_sleuthlaw0_KeptTexts N call a h k = f20_sleuthlaw0_KeptTexts N call a h k := by kernel_rfl

noncomputable def f22_J3 {β : Type} (k : K β) (x0 x1 x2 x3 : AV) (h : H) : Option β :=
 qB2s x3 h <| .mk fun v4 =>
 k v4 h

noncomputable def f22_J2 {β : Type} (k : K β) (x0 x1 x2 x3 : AV) (h : H) : Option β :=
 qJoin 4 (.mk (
 f22_J3 k)) <| .mk fun j3 =>
 qLss x0 (.int .i64 0) <| .mk fun v5 =>
 qIf v5 (.mk (
 qBslice 0 [(.int .u8 0)] 1 [(0, 1)] [(.int .u8 45)] h <| .mk fun v6 h =>
 qApp 0 1 1 v6 x3 h <| .mk fun v7 h =>
 j3 x0 x1 x2 v7 h)) <| .mk (
 j3 x0 x1 x2 x3 h)

noncomputable def f22_J9 {β : Type} (l8 : Cur β 4) (x0 x1 x2 x3 : AV) (h : H) : Option β :=
 qBin .rem x2 (.int .u64 10) <| .mk fun v10 =>
 qAdd (.int .u64 48) v10 <| .mk fun v11 =>
 qConv .u8 v11 <| .mk fun v12 =>
 qBslice 0 [(.int .u8 0)] 1 [(0, 1)] [v12] h <| .mk fun v13 h =>
 qApp 0 1 1 v13 x3 h <| .mk fun v14 h =>
 qBin .quo x2 (.int .u64 10) <| .mk fun v15 =>
 l8 x0 x1 v15 v14 h

noncomputable def f22_L8 {β : Type} (j2 : Cur β 4) (l8 : Cur β 4) (x0 x1 x2 x3 : AV) (h : H) : Option β :=
 qJoin 4 (.mk (
 f22_J9 l8)) <| .mk fun j9 =>
 qGtr x2 (.int .u64 0) <| .mk fun v16 =>
 qOr v16 h (.mk fun h k =>
 qLenL x3 <| .mk fun v17 =>
 qEql v17 (.int .i64 0) <| .mk fun v18 =>
 k v18 h) <| .mk fun v19 h =>
 qIf v19 (.mk (
 j9 x0 .any x2 x3 h)) <| .mk (
 j2 x0 .any x2 x3 h)

noncomputable def f22_J1 {β : Type} (N : Nat) (k : K β) (x0 x1 x2 x3 : AV) (h : H) : Option β :=
 qJoin 4 (.mk (
 f22_J2 k)) <| .mk fun j2 =>
 (qLoop 4 N <| .mk (
 f22_L8 j2)) x0 x1 x2 .nils h

noncomputable def f22_sleuthref0_Decimal {β : Type} (N : Nat) (call : FCall β) (a : List AV) (h : H) (k : K β) : Option β :=
 qConv .u64 (nth a 0) <| .mk fun v0 =>
 qJoin 4 (.mk (
 f22_J1 N k)) <| .mk fun j1 =>
 qLss (nth a 0) (.int .i64 0) <| .mk fun v20 =>
 qIf v20 (.mk (
 qAdd (nth a 0) (.int .i64 1) <| .mk fun v21 =>
 qNeg v21 <| .mk fun v22 =>
 qConv .u64 v22 <| .mk fun v23 =>
 qAdd v23 (.int .u64 1) <| .mk fun v24 =>
 j1 (nth a 0) (.str []) v24 (nth a 4) h)) <| .mk (
 j1 (nth a 0) (.str []) v0 (nth a 4) h)

theorem e22_sleuthref0_Decimal {β : Type} (I : FI) (N : Nat) (call : FCall β) (a : List AV) (h : H) (k : K β) : fBody I 22 T.s22_sleuthref0_Decimal N call a h k = f22_sleuthref0_Decimal N call a h k := by kernel_rfl

noncomputable def f23_sleuthlaw0_CopyTexts {β : Type} (N : Nat) (call : FCall β) (a : List AV) (h : H) (k : K β) : Option β :=
 qBslice 0 [] 0 [] [] h <| .mk fun v0 h =>
 qApp 0 1 16 v0 (nth a 0) h <| .mk fun v1 h =>
 k v1 h

theorem e23_sleuthlaw0_CopyTexts {β : Type} (I : FI) (N : Nat) (call : FCall β) (a : List AV) (h : H) (k : K β) : fBody I 23 T.s23_sleuthlaw0_CopyTexts N call a h k = f23_sleuthlaw0_CopyTexts N call a h k := by kernel_rfl

noncomputable def f24_J10 {β : Type} (call : FCall β) (k : K β) (x0 x1 x2 x3 x4 x5 x6 x7 x8 x9 x10 x11 x12 x13 x14 x15 x16 x17 x18 x19 x20 x21 x22 x23 x24 x25 x26 x27 x28 x29 x30 x31 x32 x33 x34 x35 x36 x37 x38 x39 x40 x41 x42 x43 x44 x45 x46 x47 x48 : AV) (h : H) : Option β :=
 qCall call (.fn 37 []) [x7, (.str [41])] h <| .mk fun v11 h =>
 qExt 0 v11 <| .mk fun v12 =>
 qExt 1 v11 <| .mk fun v13 =>
 k (.tup [(.int .i64 2), x10, x12, v12, v13]) h

noncomputable def f24_J23 {β : Type} (call : FCall β) (j10 : Cur β 49) (l14 : Cur β 49) (x0 x1 x2 x3 x4 x5 x6 x7 x8 x9 x10 x11 x12 x13 x14 x15 x16 x17 x18 x19 x20 x21 x22 x23 x24 x25 x26 x27 x28 x29 x30 x31 x32 x33 x34 x35 x36 x37 x38 x39 x40 x41 x42 x43 x44 x45 x46 x47 x48 : AV) (h : H) : Option β :=
 qLenS x13 <| .mk fun v24 =>
 qLenS x14 <| .mk fun v25 =>
 qSub v24 v25 <| .mk fun v26 =>
 qSlS false true x13 [v26] <| .mk fun v27 =>
 qBslice 0 [(.str [])] 1 [(0, 1)] [v27] h <| .mk fun v28 h =>
 qApp 0 1 16 x12 v28 h <| .mk fun v29 h =>
 qCall call (.fn 36 []) [x14, (.str [32])] h <| .mk fun v30 h =>
 qNot v30 <| .mk fun v31 =>
 qIf v31 (.mk (
 j10 x0 x1 x2 x3 x4 x5 x6 x14 x8 x9 x10 x11 v29 x13 x14 x15 x16 x17 x18 x19 x20 x21 x22 x23 x24 x25 x26 x27 x28 x29 x30 x31 x32 x33 x34 x35 x36 x37 x38 x39 v29 x14 x42 x43 x44 x45 x46 x47 x48 h)) <| .mk (
 l14 x0 x1 x2 x3 x4 x5 x6 x14 x8 x9 x10 x11 v29 x13 x14 x15 x16 x17 x18 x19 x20 x21 x22 x23 x24 x25 x26 x27 x28 x29 x30 x31 x32 x33 x34 x35 x36 x37 x38 x39 v29 x14 x42 x43 x44 x45 x46 x47 x48 h)

noncomputable def f24_J15 {β : Type} (call : FCall β) (k : K β) (j10 : Cur β 49) (l14 : Cur β 49) (x0 x1 x2 x3 x4 x5 x6 x7 x8 x9 x10 x11 x12 x13 x14 x15 x16 x17 x18 x19 x20 x21 x22 x23 x24 x25 x26 x27 x28 x29 x30 x31 x32 x33 x34 x35 x36 x37 x38 x39 x40 x41 x42 x43 x44 x45 x46 x47 x48 : AV) (h : H) : Option β :=
 qSlS true false x7 [(.int .i64 1)] <| .mk fun v16 =>
 qCall call (.fn 24 []) [v16] h <| .mk fun v17 h =>
 qExt 0 v17 <| .mk fun v18 =>
 qExt 1 v17 <| .mk fun v19 =>
 qExt 2 v17 <| .mk fun v20 =>
 qExt 3 v17 <| .mk fun v21 =>
 qExt 4 v17 <| .mk fun v22 =>
 qJoin 49 (.mk (
 f24_J23 call j10 l14)) <| .mk fun j23 =>
 qNot v22 <| .mk fun v32 =>
 qIf v32 (.mk (
 k (.tup [(.int .i64 0), (.int .i64 0), .nils, (.str []), (.bool false)]) h)) <| .mk (
 j23 x0 x1 x2 x3 x4 x5 x6 x7 x8 x9 x10 x11 x12 v16 v21 v22 x16 x17 x18 x19 x20 x21 x22 x23 x24 x25 x26 x27 x28 x29 x30 x31 x32 x33 v17 v18 v19 v20 v21 v22 x40 x41 x42 x43 x44 x45 x46 x47 x48 h)

noncomputable def f24_L14 {β : Type} (call : FCall β) (k : K β) (j10 : Cur β 49) (l14 : Cur β 49) (x0 x1 x2 x3 x4 x5 x6 x7 x8 x9 x10 x11 x12 x13 x14 x15 x16 x17 x18 x19 x20 x21 x22 x23 x24 x25 x26 x27 x28 x29 x30 x31 x32 x33 x34 x35 x36 x37 x38 x39 x40 x41 x42 x43 x44 x45 x46 x47 x48 : AV) (h : H) : Option β :=
 qJoin 49 (.mk (
 f24_J15 call k j10 l14)) <| .mk fun j15 =>
 qLenL x12 <| .mk fun v33 =>
 qLss v33 (.int .i64 3) <| .mk fun v34 =>
 qIf v34 (.mk (
 j15 .any .any .any .any .any .any .any x7 .any .any x10 .any x12 .any .any .any .any .any .any .any .any .any .any .any .any .any .any .any .any .any .any .any .any .any .any .any .any .any .any .any .any .any .any .any .any .any .any .any .any h)) <| .mk (
 j10 .any .any .any .any .any .any .any x7 .any .any x10 .any x12 .any .any .any .any .any .any .any .any .any .any .any .any .any .any .any .any .any .any .any .any .any .any .any .any .any .any .any .any .any .any .any .any .any .any .any .any h)

noncomputable def f24_J9 {β : Type} (N : Nat) (call : FCall β) (k : K β) (x0 x1 x2 x3 x4 x5 x6 x7 x8 x9 x10 x11 x12 x13 x14 x15 x16 x17 x18 x19 x20 x21 x22 x23 x24 x25 x26 x27 x28 x29 x30 x31 x32 x33 x34 x35 x36 x37 x38 x39 x40 x41 x42 x43 x44 x45 x46 x47 x48 : AV) (h : H) : Option β :=
 qJoin 49 (.mk (
 f24_J10 call k)) <| .mk fun j10 =>
 (qLoop 49 N <| .mk (
 f24_L14 call k j10)) x0 x1 x2 x3 x4 x5 x6 x7 x8 x9 x10 x11 .nils x13 x14 x15 x16 x17 x18 x19 x20 x21 x22 x23 x24 x25 x26 x27 x28 x29 x30 x31 x32 x33 x34 x35 x36 x37 x38 x39 x40 x41 x42 x43 x44 x45 x46 x47 x48 h

noncomputable def f24_J5 {β : Type} (N : Nat) (call : FCall β) (k : K β) (x0 x1 x2 x3 x4 x5 x6 x7 x8 x9 x10 x11 x12 x13 x14 x15 x16 x17 x18 x19 x20 x21 x22 x23 x24 x25 x26 x27 x28 x29 x30 x31 x32 x33 x34 x35 x36 x37 x38 x39 x40 x41 x42 x43 x44 x45 x46 x47 x48 : AV) (h : H) : Option β :=
 qCall call (.fn 35 []) [x6] h <| .mk fun v6 h =>
 qExt 0 v6 <| .mk fun v7 =>
 qExt 1 v6 <| .mk fun v8 =>
 qJoin 49 (.mk (
 f24_J9 N call k)) <| .mk fun j9 =>
 qNot v8 <| .mk fun v35 =>
 qOr v35 h (.mk fun h k =>
 qCall call (.fn 36 []) [x7, (.str [40])] h <| .mk fun v36 h =>
 qNot v36 <| .mk fun v37 =>
 k v37 h) <| .mk fun v38 h =>
 qIf v38 (.mk (
 k (.tup [(.int .i64 2), v7, .nils, x7, v8]) h)) <| .mk (
 j9 x0 x1 x2 x3 x4 x5 x6 x7 x8 x9 v7 v8 x12 x13 x14 x15 x16 x17 x18 x19 x20 x21 x22 x23 x24 x25 x26 x27 v6 v7 v8 x31 x32 x33 x34 x35 x36 x37 x38 x39 x40 x41 x42 x43 x44 x45 x46 x47 x48 h)

noncomputable def f24_J4 {β : Type} (N : Nat) (call : FCall β) (k : K β) (x0 x1 x2 x3 x4 x5 x6 x7 x8 x9 x10 x11 x12 x13 x14 x15 x16 x17 x18 x19 x20 x21 x22 x23 x24 x25 x26 x27 x28 x29 x30 x31 x32 x33 x34 x35 x36 x37 x38 x39 x40 x41 x42 x43 x44 x45 x46 x47 x48 : AV) (h : H) : Option β :=
 qJoin 49 (.mk (
 f24_J5 N call k)) <| .mk fun j5 =>
 qCall call (.fn 34 []) [x6] h <| .mk fun v39 h =>
 qExt 0 v39 <| .mk fun v40 =>
 qExt 1 v39 <| .mk fun v41 =>
 qIf v41 (.mk (
 k (.tup [(.int .i64 1), v40, .nils, x7, (.bool true)]) h)) <| .mk (
 j5 x0 x1 x2 x3 x4 x5 x6 x7 v40 v41 x10 x11 x12 x13 x14 x15 x16 x17 x18 x19 x20 x21 x22 v39 v40 v41 x26 x27 x28 x29 x30 x31 x32 x33 x34 x35 x36 x37 x38 x39 x40 x41 x42 x43 x44 x45 x46 x47 x48 h)

noncomputable def f24_J3 {β : Type} (N : Nat) (call : FCall β) (k : K β) (x0 x1 x2 x3 x4 x5 x6 x7 x8 x9 x10 x11 x12 x13 x14 x15 x16 x17 x18 x19 x20 x21 x22 x23 x24 x25 x26 x27 x28 x29 x30 x31 x32 x33 x34 x35 x36 x37 x38 x39 x40 x41 x42 x43 x44 x45 x46 x47 x48 : AV) (h : H) : Option β :=
 qJoin 49 (.mk (
 f24_J4 N call k)) <| .mk fun j4 =>
 qSEql x6 (.str [33]) <| .mk fun v42 =>
 qIf v42 (.mk (
 k (.tup [(.int .i64 3), (.int .i64 0), .nils, x7, (.bool true)]) h)) <| .mk (
 j4 x0 x1 x2 x3 x4 x5 x6 x7 x8 x9 x10 x11 x12 x13 x14 x15 x16 x17 x18 x19 x20 x21 x22 x23 x24 x25 x26 x27 x28 x29 x30 x31 x32 x33 x34 x35 x36 x37 x38 x39 x40 x41 x42 x43 x44 x45 x46 x47 x48 h)

noncomputable def f24_term_cut {β : Type} (N : Nat) (call : FCall β) (a : List AV) (h : H) (k : K β) : Option β :=
 qCall call (.fn 33 []) [(nth a 0)] h <| .mk fun v0 h =>
 qExt 0 v0 <| .mk fun v1 =>
 qExt 1 v0 <| .mk fun v2 =>
 qJoin 49 (.mk (
 f24_J3 N call k)) <| .mk fun j3 =>
 qSEql v1 (.str [95]) <| .mk fun v43 =>
 qIf v43 (.mk (
 k (.tup [(.int .i64 0), (.int .i64 0), .nils, v2, (.bool true)]) h)) <| .mk (
 j3 (nth a 0) (.int .i64 0) (.int .i64 0) .nils (.str []) (.bool false) v1 v2 (nth a 9) (nth a 10) (nth a 11) (nth a 12) (nth a 13) (nth a 14) (nth a 18) (nth a 19) (nth a 20) (nth a 21) v0 v1 v2 (nth a 29) (nth a 32) (nth a 33) (nth a 36) (nth a 37) (nth a 39) (nth a 40) (nth a 41) (nth a 44) (nth a 45) (nth a 53) (nth a 54) (nth a 55) (nth a 61) (nth a 64) (nth a 65) (nth a 66) (nth a 67) (nth a 68) (nth a 80) (nth a 81) (nth a 85) (nth a 88) (nth a 89) (nth a 90) (nth a 91) (nth a 92) (nth a 93) h)

theorem e24_term_cut {β : Type} (I : FI) (N : Nat) (call : FCall β) (a : List AV) (h : H) (k : K β) : fBody I 24 T.s24_term_cut N call a h k = f24_term_cut N call a h k := by kernel_rfl

noncomputable def f25_J7 {β : Type} (k : K β) (x0 x1 x2 x3 x4 x5 x6 x7 x8 x9 x10 x11 x12 x13 x14 x15 x16 x17 x18 x19 x20 : AV) (h : H) : Option β :=
 qAdd x1 x9 <| .mk fun v8 =>
 qBuild [(.int .i64 0), (.int .i64 0), .nils, (.int .i64 0)] [(0, 1), (1, 1), (3, 1)] [(.int .i64 1), x8, v8] <| .mk fun v9 =>
 qStore 4 x2 v9 h <| .mk fun h =>
 qLoadN 4 x2 h <| .mk fun v10 =>
 k v10 h

noncomputable def f25_J2 {β : Type} (call : FCall β) (k : K β) (x0 x1 x2 x3 x4 x5 x6 x7 x8 x9 x10 x11 x12 x13 x14 x15 x16 x17 x18 x19 x20 : AV) (h : H) : Option β :=
 qSlS true false x0 [x1] <| .mk fun v3 =>
 qCall call (.fn 39 []) [v3] h <| .mk fun v4 h =>
 qExt 0 v4 <| .mk fun v5 =>
 qExt 1 v4 <| .mk fun v6 =>
 qJoin 21 (.mk (
 f25_J7 k)) <| .mk fun j7 =>
 qEql v6 (.int .i64 0) <| .mk fun v11 =>
 qOr v11 h (.mk fun h k =>
 qCall call (.fn 41 []) [v5] h <| .mk fun v12 h =>
 qNot v12 <| .mk fun v13 =>
 k v13 h) <| .mk fun v14 h =>
 qIf v14 (.mk (
 qCall call (.fn 38 []) [] h <| .mk fun v15 h =>
 qStore 4 x2 v15 h <| .mk fun h =>
 qLoadN 4 x2 h <| .mk fun v16 =>
 k v16 h)) <| .mk (
 j7 x0 x1 x2 x3 x4 x5 x6 x7 v5 v6 x10 x11 x12 x13 x14 x15 x16 x17 v4 v5 v6 h)

noncomputable def f25_J37 {β : Type} (k : K β) (x0 x1 x2 x3 x4 x5 x6 x7 x8 x9 x10 x11 x12 x13 x14 x15 x16 x17 x18 x19 x20 : AV) (h : H) : Option β :=
 qLoadN 4 x5 h <| .mk fun v38 =>
 qStore 4 x2 v38 h <| .mk fun h =>
 qLoadN 4 x2 h <| .mk fun v39 =>
 k v39 h

noncomputable def f25_J32 {β : Type} (call : FCall β) (k : K β) (x0 x1 x2 x3 x4 x5 x6 x7 x8 x9 x10 x11 x12 x13 x14 x15 x16 x17 x18 x19 x20 : AV) (h : H) : Option β :=
 qAdd x1 (.int .i64 1) <| .mk fun v33 =>
 qAdd v33 x4 <| .mk fun v34 =>
 qBuild [(.int .i64 0), (.int .i64 0), .nils, (.int .i64 0)] [(0, 1), (1, 1), (3, 1)] [(.int .i64 2), x3, v34] <| .mk fun v35 =>
 qAlloc 0 [(.int .i64 0), (.int .i64 0), .nils, (.int .i64 0)] h <| .mk fun v36 h =>
 qStore 4 v36 v35 h <| .mk fun h =>
 qJoin 21 (.mk (
 f25_J37 k)) <| .mk fun j37 =>
 qFadr 3 v36 <| .mk fun v40 =>
 qLoad1 v40 h <| .mk fun v41 =>
 qLenS x0 <| .mk fun v42 =>
 qLss v41 v42 <| .mk fun v43 =>
 qAnd v43 h (.mk fun h k =>
 qFadr 3 v36 <| .mk fun v44 =>
 qLoad1 v44 h <| .mk fun v45 =>
 qIdxS x0 v45 <| .mk fun v46 =>
 qEql v46 (.int .u8 40) <| .mk fun v47 =>
 k v47 h) <| .mk fun v48 h =>
 qIf v48 (.mk (
 qLoadN 4 v36 h <| .mk fun v49 =>
 qFadr 3 v36 <| .mk fun v50 =>
 qLoad1 v50 h <| .mk fun v51 =>
 qAdd v51 (.int .i64 1) <| .mk fun v52 =>
 qCall call (.fn 40 []) [x0, v49, v52] h <| .mk fun v53 h =>
 qStore 4 x2 v53 h <| .mk fun h =>
 qLoadN 4 x2 h <| .mk fun v54 =>
 k v54 h)) <| .mk (
 j37 x0 x1 x2 x3 x4 v36 x6 x7 x8 x9 x10 x11 x12 x13 v35 x15 x16 x17 x18 x19 x20 h)

noncomputable def f25_J66 {β : Type} (k : K β) (x0 x1 x2 x3 x4 x5 x6 x7 x8 x9 x10 x11 x12 x13 x14 x15 x16 x17 x18 x19 x20 : AV) (h : H) : Option β :=
 qNeg x6 <| .mk fun v67 =>
 qAdd x1 (.int .i64 1) <| .mk fun v68 =>
 qAdd v68 x7 <| .mk fun v69 =>
 qBuild [(.int .i64 0), (.int .i64 0), .nils, (.int .i64 0)] [(0, 1), (1, 1), (3, 1)] [(.int .i64 1), v67, v69] <| .mk fun v70 =>
 qStore 4 x2 v70 h <| .mk fun h =>
 qLoadN 4 x2 h <| .mk fun v71 =>
 k v71 h

noncomputable def f25_J1 {β : Type} (call : FCall β) (k : K β) (x0 x1 x2 x3 x4 x5 x6 x7 x8 x9 x10 x11 x12 x13 x14 x15 x16 x17 x18 x19 x20 : AV) (h : H) : Option β :=
 qJoin 21 (.mk (
 f25_J2 call k)) <| .mk fun j2 =>
 qIdxS x0 x1 <| .mk fun v17 =>
 qEql v17 (.int .u8 95) <| .mk fun v18 =>
 qIf v18 (.mk (
 qAdd x1 (.int .i64 1) <| .mk fun v19 =>
 qBuild [(.int .i64 0), (.int .i64 0), .nils, (.int .i64 0)] [(0, 1), (3, 1)] [(.int .i64 0), v19] <| .mk fun v20 =>
 qStore 4 x2 v20 h <| .mk fun h =>
 qLoadN 4 x2 h <| .mk fun v21 =>
 k v21 h)) <| .mk (
 qEql v17 (.int .u8 33) <| .mk fun v22 =>
 qIf v22 (.mk (
 qAdd x1 (.int .i64 1) <| .mk fun v23 =>
 qBuild [(.int .i64 0), (.int .i64 0), .nils, (.int .i64 0)] [(0, 1), (3, 1)] [(.int .i64 3), v23] <| .mk fun v24 =>
 qStore 4 x2 v24 h <| .mk fun h =>
 qLoadN 4 x2 h <| .mk fun v25 =>
 k v25 h)) <| .mk (
 qEql v17 (.int .u8 64) <| .mk fun v26 =>
 qIf v26 (.mk (
 qAdd x1 (.int .i64 1) <| .mk fun v27 =>
 qSlS true false x0 [v27] <| .mk fun v28 =>
 qCall call (.fn 39 []) [v28] h <| .mk fun v29 h =>
 qExt 0 v29 <| .mk fun v30 =>
 qExt 1 v29 <| .mk fun v31 =>
 qJoin 21 (.mk (
 f25_J32 call k)) <| .mk fun j32 =>
 qEql v31 (.int .i64 0) <| .mk fun v55 =>
 qOr v55 h (.mk fun h k =>
 qGtr v30 (.int .i64 99) <| .mk fun v56 =>
 k v56 h) <| .mk fun v57 h =>
 qIf v57 (.mk (
 qCall call (.fn 38 []) [] h <| .mk fun v58 h =>
 qStore 4 x2 v58 h <| .mk fun h =>
 qLoadN 4 x2 h <| .mk fun v59 =>
 k v59 h)) <| .mk (
 j32 x0 x1 x2 v30 v31 x5 x6 x7 x8 x9 v17 v29 v30 v31 x14 x15 x16 x17 x18 x19 x20 h))) <| .mk (
 qEql v17 (.int .u8 45) <| .mk fun v60 =>
 qIf v60 (.mk (
 qAdd x1 (.int .i64 1) <| .mk fun v61 =>
 qSlS true false x0 [v61] <| .mk fun v62 =>
 qCall call (.fn 39 []) [v62] h <| .mk fun v63 h =>
 qExt 0 v63 <| .mk fun v64 =>
 qExt 1 v63 <| .mk fun v65 =>
 qJoin 21 (.mk (
 f25_J66 k)) <| .mk fun j66 =>
 qEql v65 (.int .i64 0) <| .mk fun v72 =>
 qOr v72 h (.mk fun h k =>
 qEql v64 (.int .i64 0) <| .mk fun v73 =>
 k v73 h) <| .mk fun v74 h =>
 qOr v74 h (.mk fun h k =>
 qNeg v64 <| .mk fun v75 =>
 qCall call (.fn 41 []) [v75] h <| .mk fun v76 h =>
 qNot v76 <| .mk fun v77 =>
 k v77 h) <| .mk fun v78 h =>
 qIf v78 (.mk (
 qCall call (.fn 38 []) [] h <| .mk fun v79 h =>
 qStore 4 x2 v79 h <| .mk fun h =>
 qLoadN 4 x2 h <| .mk fun v80 =>
 k v80 h)) <| .mk (
 j66 x0 x1 x2 x3 x4 x5 v64 v65 x8 x9 v17 x11 x12 x13 x14 v63 v64 v65 x18 x19 x20 h))) <| .mk (
 j2 x0 x1 x2 x3 x4 x5 x6 x7 x8 x9 v17 x11 x12 x13 x14 x15 x16 x17 x18 x19 x20 h))))

noncomputable def f25_sleuthref1_term {β : Type} (N : Nat) (call : FCall β) (a : List AV) (h : H) (k : K β) : Option β :=
 qAlloc 0 [(.int .i64 0), (.int .i64 0), .nils, (.int .i64 0)] h <| .mk fun v0 h =>
 qJoin 21 (.mk (
 f25_J1 call k)) <| .mk fun j1 =>
 qLenS (nth a 0) <| .mk fun v81 =>
 qGeq (nth a 1) v81 <| .mk fun v82 =>
 qIf v82 (.mk (
 qCall call (.fn 38 []) [] h <| .mk fun v83 h =>
 qStore 4 v0 v83 h <| .mk fun h =>
 qLoadN 4 v0 h <| .mk fun v84 =>
 k v84 h)) <| .mk (
 j1 (nth a 0) (nth a 1) v0 (nth a 5) (nth a 6) (nth a 7) (nth a 8) (nth a 9) (nth a 10) (nth a 11) (nth a 19) (nth a 32) (nth a 38) (nth a 39) (nth a 52) (nth a 74) (nth a 80) (nth a 81) (nth a 102) (nth a 107) (nth a 108) h)

theorem e25_sleuthref1_term {β : Type} (I : FI) (N : Nat) (call : FCall β) (a : List AV) (h : H) (k : K β) : fBody I 25 T.s25_sleuthref1_term N call a h k = f25_sleuthref1_term N call a h k := by kernel_rfl

noncomputable def f26_J0 {β : Type} (k : K β) (x0 x1 x2 x3 x4 x5 x6 : AV) (h : H) : Option β :=
 k (.bool true) h

noncomputable def f26_J5 {β : Type} (l2 : Cur β 7) (x0 x1 x2 x3 x4 x5 x6 : AV) (h : H) : Option β :=
 qAdd x5 (.int .i64 1) <| .mk fun v6 =>
 l2 x0 x1 x2 x3 x4 v6 x6 h

noncomputable def f26_J4 {β : Type} (call : FCall β) (k : K β) (l2 : Cur β 7) (x0 x1 x2 x3 x4 x5 x6 : AV) (h : H) : Option β :=
 qJoin 7 (.mk (
 f26_J5 l2)) <| .mk fun j5 =>
 qIadr 1 x3 x5 <| .mk fun v7 =>
 qLoad1 v7 h <| .mk fun v8 =>
 qCall call (.fn 17 []) [v8] h <| .mk fun v9 h =>
 qNot v9 <| .mk fun v10 =>
 qIf v10 (.mk (
 k (.bool false) h)) <| .mk (
 j5 x0 x1 v8 x3 x4 x5 x6 h)

noncomputable def f26_L2 {β : Type} (call : FCall β) (k : K β) (j0 : Cur β 7) (l2 : Cur β 7) (x0 x1 x2 x3 x4 x5 x6 : AV) (h : H) : Option β :=
 qLss x5 x4 <| .mk fun v3 =>
 qJoin 7 (.mk (
 f26_J4 call k l2)) <| .mk fun j4 =>
 qIf v3 (.mk (
 j4 .any .any .any x3 x4 x5 v3 h)) <| .mk (
 j0 .any .any .any x3 x4 x5 v3 h)

noncomputable def f26_term_All {β : Type} (N : Nat) (call : FCall β) (a : List AV) (h : H) (k : K β) : Option β :=
 qJoin 7 (.mk (
 f26_J0 k)) <| .mk fun j0 =>
 qLenL (nth a 0) <| .mk fun v1 =>
 (qLoop 7 N <| .mk (
 f26_L2 call k j0)) (nth a 0) (.bool false) (nth a 4) (nth a 0) v1 (.int .i64 0) (nth a 8) h

theorem e26_term_All {β : Type} (I : FI) (N : Nat) (call : FCall β) (a : List AV) (h : H) (k : K β) : fBody I 26 T.s26_term_All N call a h k = f26_term_All N call a h k := by kernel_rfl

noncomputable def f27_J2 {β : Type} (k : K β) (x0 x1 x2 x3 : AV) (h : H) : Option β :=
 k x3 h

noncomputable def f27_term_Con {β : Type} (N : Nat) (call : FCall β) (a : List AV) (h : H) (k : K β) : Option β :=
 qCall call (.fn 29 []) [(nth a 0)] h <| .mk fun v0 h =>
 qSAdd (.str [64]) v0 <| .mk fun v1 =>
 qJoin 4 (.mk (
 f27_J2 k)) <| .mk fun j2 =>
 qLenL (nth a 1) <| .mk fun v3 =>
 qGtr v3 (.int .i64 0) <| .mk fun v4 =>
 qIf v4 (.mk (
 qCall call (.fn 42 []) [(nth a 1), (.str [32])] h <| .mk fun v5 h =>
 qSAdd (.str [40]) v5 <| .mk fun v6 =>
 qSAdd v6 (.str [41]) <| .mk fun v7 =>
 qSAdd v1 v7 <| .mk fun v8 =>
 j2 (nth a 0) (nth a 1) (.str []) v8 h)) <| .mk (
 j2 (nth a 0) (nth a 1) (.str []) v1 h)

theorem e27_term_Con {β : Type} (I : FI) (N : Nat) (call : FCall β) (a : List AV) (h : H) (k : K β) : fBody I 27 T.s27_term_Con N call a h k = f27_term_Con N call a h k := by kernel_rfl

noncomputable def f28_prim_May {β : Type} (N : Nat) (call : FCall β) (a : List AV) (h : H) (k : K β) : Option β :=
 qGeq (nth a 0) (.int .i64 (-32768)) <| .mk fun v0 =>
 qAnd v0 h (.mk fun h k =>
 qLeq (nth a 0) (.int .i64 32767) <| .mk fun v1 =>
 k v1 h) <| .mk fun v2 h =>
 k v2 h

theorem e28_prim_May {β : Type} (I : FI) (N : Nat) (call : FCall β) (a : List AV) (h : H) (k : K β) : fBody I 28 T.s28_prim_May N call a h k = f28_prim_May N call a h k := by kernel_rfl

noncomputable def f30_sleuthref1_upTo {β : Type} (N : Nat) (call : FCall β) (a : List AV) (h : H) (k : K β) : Option β :=
 qGeq (nth a 0) (nth a 1) <| .mk fun v0 =>
 qAnd v0 h (.mk fun h k =>
 qLeq (nth a 0) (nth a 2) <| .mk fun v1 =>
 k v1 h) <| .mk fun v2 h =>
 k v2 h

theorem e30_sleuthref1_upTo {β : Type} (I : FI) (N : Nat) (call : FCall β) (a : List AV) (h : H) (k : K β) : fBody I 30 T.s30_sleuthref1_upTo N call a h k = f30_sleuthref1_upTo N call a h k := by kernel_rfl

noncomputable def f31_J0 {β : Type} (k : K β) (x0 x1 x2 x3 : AV) (h : H) : Option β :=
 k x2 h

noncomputable def f31_J3 {β : Type} (l1 : Cur β 4) (x0 x1 x2 x3 : AV) (h : H) : Option β :=
 qAdd x3 (.int .i64 1) <| .mk fun v4 =>
 l1 x0 x1 x2 v4 h

noncomputable def f31_J5 {β : Type} (j3 : Cur β 4) (x0 x1 x2 x3 : AV) (h : H) : Option β :=
 qIadr 1 x0 x3 <| .mk fun v6 =>
 qLoad1 v6 h <| .mk fun v7 =>
 qSAdd x2 v7 <| .mk fun v8 =>
 j3 x0 x1 v8 x3 h

noncomputable def f31_J2 {β : Type} (l1 : Cur β 4) (x0 x1 x2 x3 : AV) (h : H) : Option β :=
 qJoin 4 (.mk (
 f31_J3 l1)) <| .mk fun j3 =>
 qJoin 4 (.mk (
 f31_J5 j3)) <| .mk fun j5 =>
 qGtr x3 (.int .i64 0) <| .mk fun v9 =>
 qIf v9 (.mk (
 qSAdd x2 (.str [32]) <| .mk fun v10 =>
 j5 x0 x1 v10 x3 h)) <| .mk (
 j5 x0 x1 x2 x3 h)

noncomputable def f31_L1 {β : Type} (j0 : Cur β 4) (l1 : Cur β 4) (x0 x1 x2 x3 : AV) (h : H) : Option β :=
 qJoin 4 (.mk (
 f31_J2 l1)) <| .mk fun j2 =>
 qLenL x0 <| .mk fun v11 =>
 qLss x3 v11 <| .mk fun v12 =>
 qIf v12 (.mk (
 j2 x0 .any x2 x3 h)) <| .mk (
 j0 x0 .any x2 x3 h)

noncomputable def f31_sleuthref1_Join {β : Type} (N : Nat) (call : FCall β) (a : List AV) (h : H) (k : K β) : Option β :=
 qJoin 4 (.mk (
 f31_J0 k)) <| .mk fun j0 =>
 (qLoop 4 N <| .mk (
 f31_L1 j0)) (nth a 0) (.str []) (.str []) (.int .i64 0) h

theorem e31_sleuthref1_Join {β : Type} (I : FI) (N : Nat) (call : FCall β) (a : List AV) (h : H) (k : K β) : fBody I 31 T.s31_sleuthref1_Join N call a h k = f31_sleuthref1_Join N call a h k := by kernel_rfl

noncomputable def f32_J1 {β : Type} (k : K β) (x0 x1 x2 x3 x4 : AV) (h : H) : Option β :=
 k (.bool true) h

noncomputable def f32_J4 {β : Type} (l2 : Cur β 5) (x0 x1 x2 x3 x4 : AV) (h : H) : Option β :=
 qAdd x3 (.int .i64 1) <| .mk fun v5 =>
 l2 x0 x1 x2 v5 x4 h

noncomputable def f32_J3 {β : Type} (k : K β) (l2 : Cur β 5) (x0 x1 x2 x3 x4 : AV) (h : H) : Option β :=
 qJoin 5 (.mk (
 f32_J4 l2)) <| .mk fun j4 =>
 qIadr 1 x0 x3 <| .mk fun v6 =>
 qLoad1 v6 h <| .mk fun v7 =>
 qIadr 1 x1 x3 <| .mk fun v8 =>
 qLoad1 v8 h <| .mk fun v9 =>
 qSNeq v7 v9 <| .mk fun v10 =>
 qIf v10 (.mk (
 k (.bool false) h)) <| .mk (
 j4 x0 x1 x2 x3 v10 h)

noncomputable def f32_L2 {β : Type} (k : K β) (j1 : Cur β 5) (l2 : Cur β 5) (x0 x1 x2 x3 x4 : AV) (h : H) : Option β :=
 qJoin 5 (.mk (
 f32_J3 k l2)) <| .mk fun j3 =>
 qLenL x0 <| .mk fun v11 =>
 qLss x3 v11 <| .mk fun v12 =>
 qIf v12 (.mk (
 j3 x0 x1 .any x3 .any h)) <| .mk (
 j1 x0 x1 .any x3 .any h)

noncomputable def f32_J0 {β : Type} (N : Nat) (k : K β) (x0 x1 x2 x3 x4 : AV) (h : H) : Option β :=
 qJoin 5 (.mk (
 f32_J1 k)) <| .mk fun j1 =>
 (qLoop 5 N <| .mk (
 f32_L2 k j1)) x0 x1 x2 (.int .i64 0) x4 h

noncomputable def f32_sleuthref1_same {β : Type} (N : Nat) (call : FCall β) (a : List AV) (h : H) (k : K β) : Option β :=
 qJoin 5 (.mk (
 f32_J0 N k)) <| .mk fun j0 =>
 qLenL (nth a 0) <| .mk fun v13 =>
 qLenL (nth a 1) <| .mk fun v14 =>
 qNeq v13 v14 <| .mk fun v15 =>
 qIf v15 (.mk (
 k (.bool false) h)) <| .mk (
 j0 (nth a 0) (nth a 1) (.bool false) (nth a 5) (nth a 25) h)

theorem e32_sleuthref1_same {β : Type} (I : FI) (N : Nat) (call : FCall β) (a : List AV) (h : H) (k : K β) : fBody I 32 T.s32_sleuthref1_same N call a h k = f32_sleuthref1_same N call a h k := by kernel_rfl

noncomputable def f33_J1 {β : Type} (k : K β) (x0 x1 x2 x3 : AV) (h : H) : Option β :=
 qSlS false true x0 [x3] <| .mk fun v2 =>
 qSlS true false x0 [x3] <| .mk fun v3 =>
 k (.tup [v2, v3]) h

noncomputable def f33_term_word {β : Type} (N : Nat) (call : FCall β) (a : List AV) (h : H) (k : K β) : Option β :=
 qCall call (.fn 44 []) [(nth a 0), (.str [32, 40, 41])] h <| .mk fun v0 h =>
 qJoin 4 (.mk (
 f33_J1 k)) <| .mk fun j1 =>
 qLss v0 (.int .i64 0) <| .mk fun v4 =>
 qIf v4 (.mk (
 qLenS (nth a 0) <| .mk fun v5 =>
 j1 (nth a 0) (.str []) (.str []) v5 h)) <| .mk (
 j1 (nth a 0) (.str []) (.str []) v0 h)

theorem e33_term_word {β : Type} (I : FI) (N : Nat) (call : FCall β) (a : List AV) (h : H) (k : K β) : fBody I 33 T.s33_term_word N call a h k = f33_term_word N call a h k := by kernel_rfl

noncomputable def f34_term_Number {β : Type} (N : Nat) (call : FCall β) (a : List AV) (h : H) (k : K β) : Option β :=
 qCall call (.fn 45 []) [(nth a 0)] h <| .mk fun v0 h =>
 qExt 0 v0 <| .mk fun v1 =>
 qExt 1 v0 <| .mk fun v2 =>
 qIsNil .ifc false v2 <| .mk fun v3 =>
 qAnd v3 h (.mk fun h k =>
 qCall call (.fn 28 []) [v1] h <| .mk fun v4 h =>
 k v4 h) <| .mk fun v5 h =>
 qAnd v5 h (.mk fun h k =>
 qCall call (.fn 29 []) [v1] h <| .mk fun v6 h =>
 qSEql v6 (nth a 0) <| .mk fun v7 =>
 k v7 h) <| .mk fun v8 h =>
 k (.tup [v1, v8]) h

theorem e34_term_Number {β : Type} (I : FI) (N : Nat) (call : FCall β) (a : List AV) (h : H) (k : K β) : fBody I 34 T.s34_term_Number N call a h k = f34_term_Number N call a h k := by kernel_rfl

noncomputable def f35_term_Tag {β : Type} (N : Nat) (call : FCall β) (a : List AV) (h : H) (k : K β) : Option β :=
 qCall call (.fn 37 []) [(nth a 0), (.str [64])] h <| .mk fun v0 h =>
 qExt 0 v0 <| .mk fun v1 =>
 qExt 1 v0 <| .mk fun v2 =>
 qCall call (.fn 46 []) [v1, (.int .i64 99)] h <| .mk fun v3 h =>
 qExt 0 v3 <| .mk fun v4 =>
 qExt 1 v3 <| .mk fun v5 =>
 qAnd v2 h (.mk fun h k =>
 k v5 h) <| .mk fun v6 h =>
 k (.tup [v4, v6]) h

theorem e35_term_Tag {β : Type} (I : FI) (N : Nat) (call : FCall β) (a : List AV) (h : H) (k : K β) : fBody I 35 T.s35_term_Tag N call a h k = f35_term_Tag N call a h k := by kernel_rfl

noncomputable def f36_strings_HasPrefix {β : Type} (N : Nat) (call : FCall β) (a : List AV) (h : H) (k : K β) : Option β :=
 qCall call (.fn 47 []) [(nth a 0), (nth a 1)] h <| .mk fun v0 h =>
 k v0 h

theorem e36_strings_HasPrefix {β : Type} (I : FI) (N : Nat) (call : FCall β) (a : List AV) (h : H) (k : K β) : fBody I 36 T.s36_strings_HasPrefix N call a h k = f36_strings_HasPrefix N call a h k := by kernel_rfl

noncomputable def f37_strings_CutPrefix {β : Type} (N : Nat) (call : FCall β) (a : List AV) (h : H) (k : K β) : Option β :=
 qCall call (.fn 48 []) [(nth a 0), (nth a 1)] h <| .mk fun v0 h =>
 qExt 0 v0 <| .mk fun v1 =>
 qExt 1 v0 <| .mk fun v2 =>
 k (.tup [v1, v2]) h

theorem e37_strings_CutPrefix {β : Type} (I : FI) (N : Nat) (call : FCall β) (a : List AV) (h : H) (k : K β) : fBody I 37 T.s37_strings_CutPrefix N call a h k = f37_strings_CutPrefix N call a h k := by kernel_rfl

noncomputable def f38_sleuthref1_bad {β : Type} (N : Nat) (call : FCall β) (a : List AV) (h : H) (k : K β) : Option β :=
 qAlloc 0 [(.int .i64 0), (.int .i64 0), .nils, (.int .i64 0)] h <| .mk fun v0 h =>
 qBuild [(.int .i64 0), (.int .i64 0), .nils, (.int .i64 0)] [(3, 1)] [(.int .i64 (-1))] <| .mk fun v1 =>
 qStore 4 v0 v1 h <| .mk fun h =>
 qLoadN 4 v0 h <| .mk fun v2 =>
 k v2 h

theorem e38_sleuthref1_bad {β : Type} (I : FI) (N : Nat) (call : FCall β) (a : List AV) (h : H) (k : K β) : fBody I 38 T.s38_sleuthref1_bad N call a h k = f38_sleuthref1_bad N call a h k := by kernel_rfl

noncomputable def f39_J0 {β : Type} (k : K β) (x0 x1 x2 x3 x4 x5 x6 : AV) (h : H) : Option β :=
 k (.tup [x3, x4]) h

noncomputable def f39_J2 {β : Type} (l1 : Cur β 7) (x0 x1 x2 x3 x4 x5 x6 : AV) (h : H) : Option β :=
 qMul (.int .i64 10) x3 <| .mk fun v3 =>
 qIdxS x0 x4 <| .mk fun v4 =>
 qSub v4 (.int .u8 48) <| .mk fun v5 =>
 qConv .i64 v5 <| .mk fun v6 =>
 qAdd v3 v6 <| .mk fun v7 =>
 qAdd x4 (.int .i64 1) <| .mk fun v8 =>
 l1 x0 x1 x2 v7 v8 x5 x6 h

noncomputable def f39_L1 {β : Type} (j0 : Cur β 7) (l1 : Cur β 7) (x0 x1 x2 x3 x4 x5 x6 : AV) (h : H) : Option β :=
 qJoin 7 (.mk (
 f39_J2 l1)) <| .mk fun j2 =>
 qLenS x0 <| .mk fun v9 =>
 qLss x4 v9 <| .mk fun v10 =>
 qAnd v10 h (.mk fun h k =>
 qLss x4 (.int .i64 6) <| .mk fun v11 =>
 k v11 h) <| .mk fun v12 h =>
 qAnd v12 h (.mk fun h k =>
 qIdxS x0 x4 <| .mk fun v13 =>
 qGeq v13 (.int .u8 48) <| .mk fun v14 =>
 k v14 h) <| .mk fun v15 h =>
 qAnd v15 h (.mk fun h k =>
 qIdxS x0 x4 <| .mk fun v16 =>
 qLeq v16 (.int .u8 57) <| .mk fun v17 =>
 k v17 h) <| .mk fun v18 h =>
 qAnd v18 h (.mk fun h k =>
 qEql x4 (.int .i64 0) <| .mk fun v19 =>
 qOr v19 h (.mk fun h k =>
 qIdxS x0 (.int .i64 0) <| .mk fun v20 =>
 qNeq v20 (.int .u8 48) <| .mk fun v21 =>
 k v21 h) <| .mk fun v22 h =>
 k v22 h) <| .mk fun v23 h =>
 qIf v23 (.mk (
 j2 x0 .any .any x3 x4 .any .any h)) <| .mk (
 j0 x0 .any .any x3 x4 .any .any h)

noncomputable def f39_sleuthref1_digits {β : Type} (N : Nat) (call : FCall β) (a : List AV) (h : H) (k : K β) : Option β :=
 qJoin 7 (.mk (
 f39_J0 k)) <| .mk fun j0 =>
 (qLoop 7 N <| .mk (
 f39_L1 j0)) (nth a 0) (.int .i64 0) (.int .i64 0) (.int .i64 0) (.int .i64 0) (nth a 45) (nth a 46) h

theorem e39_sleuthref1_digits {β : Type} (I : FI) (N : Nat) (call : FCall β) (a : List AV) (h : H) (k : K β) : fBody I 39 T.s39_sleuthref1_digits N call a h k = f39_sleuthref1_digits N call a h k := by kernel_rfl

noncomputable def f40_J2 {β : Type} (call : FCall β) (k : K β) (x0 x1 x2 x3 x4 x5 x6 : AV) (h : H) : Option β :=
 qCall call (.fn 38 []) [] h <| .mk fun v3 h =>
 qStore 4 x4 v3 h <| .mk fun h =>
 qLoadN 4 x4 h <| .mk fun v4 =>
 k v4 h

noncomputable def f40_J20 {β : Type} (l5 : Cur β 7) (x0 x1 x2 x3 x4 x5 x6 : AV) (h : H) : Option β :=
 qFadr 3 x5 <| .mk fun v21 =>
 qLoad1 v21 h <| .mk fun v22 =>
 qAdd v22 (.int .i64 1) <| .mk fun v23 =>
 l5 x0 x1 v23 x3 x4 x5 x6 h

noncomputable def f40_J19 {β : Type} (call : FCall β) (k : K β) (l5 : Cur β 7) (x0 x1 x2 x3 x4 x5 x6 : AV) (h : H) : Option β :=
 qJoin 7 (.mk (
 f40_J20 l5)) <| .mk fun j20 =>
 qFadr 3 x5 <| .mk fun v24 =>
 qLoad1 v24 h <| .mk fun v25 =>
 qIdxS x0 v25 <| .mk fun v26 =>
 qNeq v26 (.int .u8 32) <| .mk fun v27 =>
 qIf v27 (.mk (
 qCall call (.fn 38 []) [] h <| .mk fun v28 h =>
 qStore 4 x4 v28 h <| .mk fun h =>
 qLoadN 4 x4 h <| .mk fun v29 =>
 k v29 h)) <| .mk (
 j20 x0 x1 x2 x3 x4 x5 x6 h)

noncomputable def f40_J9 {β : Type} (call : FCall β) (k : K β) (l5 : Cur β 7) (x0 x1 x2 x3 x4 x5 x6 : AV) (h : H) : Option β :=
 qFadr 2 x3 <| .mk fun v10 =>
 qLoad1 v10 h <| .mk fun v11 =>
 qFadr 3 x5 <| .mk fun v12 =>
 qLoad1 v12 h <| .mk fun v13 =>
 qSlS true true x0 [x2, v13] <| .mk fun v14 =>
 qBslice 0 [(.str [])] 1 [(0, 1)] [v14] h <| .mk fun v15 h =>
 qLoad1 v10 h <| .mk fun v16 =>
 qChk v16 v11 <| .mk (
 qApp 0 1 16 v11 v15 h <| .mk fun v17 h =>
 qFadr 2 x3 <| .mk fun v18 =>
 qStore 1 v18 v17 h <| .mk fun h =>
 qJoin 7 (.mk (
 f40_J19 call k l5)) <| .mk fun j19 =>
 qFadr 3 x5 <| .mk fun v30 =>
 qLoad1 v30 h <| .mk fun v31 =>
 qIdxS x0 v31 <| .mk fun v32 =>
 qEql v32 (.int .u8 41) <| .mk fun v33 =>
 qIf v33 (.mk (
 qFadr 3 x5 <| .mk fun v34 =>
 qLoad1 v34 h <| .mk fun v35 =>
 qAdd v35 (.int .i64 1) <| .mk fun v36 =>
 qFadr 3 x3 <| .mk fun v37 =>
 qStore 1 v37 v36 h <| .mk fun h =>
 qLoadN 4 x3 h <| .mk fun v38 =>
 qStore 4 x4 v38 h <| .mk fun h =>
 qLoadN 4 x4 h <| .mk fun v39 =>
 k v39 h)) <| .mk (
 j19 x0 x1 x2 x3 x4 x5 x6 h))

noncomputable def f40_J6 {β : Type} (call : FCall β) (k : K β) (l5 : Cur β 7) (x0 x1 x2 x3 x4 x5 x6 : AV) (h : H) : Option β :=
 qCall call (.fn 25 []) [x0, x2] h <| .mk fun v7 h =>
 qAlloc 0 [(.int .i64 0), (.int .i64 0), .nils, (.int .i64 0)] h <| .mk fun v8 h =>
 qStore 4 v8 v7 h <| .mk fun h =>
 qJoin 7 (.mk (
 f40_J9 call k l5)) <| .mk fun j9 =>
 qFadr 3 v8 <| .mk fun v40 =>
 qLoad1 v40 h <| .mk fun v41 =>
 qLss v41 (.int .i64 0) <| .mk fun v42 =>
 qOr v42 h (.mk fun h k =>
 qFadr 3 v8 <| .mk fun v43 =>
 qLoad1 v43 h <| .mk fun v44 =>
 qLenS x0 <| .mk fun v45 =>
 qGeq v44 v45 <| .mk fun v46 =>
 k v46 h) <| .mk fun v47 h =>
 qIf v47 (.mk (
 qCall call (.fn 38 []) [] h <| .mk fun v48 h =>
 qStore 4 x4 v48 h <| .mk fun h =>
 qLoadN 4 x4 h <| .mk fun v49 =>
 k v49 h)) <| .mk (
 j9 x0 x1 x2 x3 x4 v8 v7 h)

noncomputable def f40_L5 {β : Type} (call : FCall β) (k : K β) (j2 : Cur β 7) (l5 : Cur β 7) (x0 x1 x2 x3 x4 x5 x6 : AV) (h : H) : Option β :=
 qJoin 7 (.mk (
 f40_J6 call k l5)) <| .mk fun j6 =>
 qFadr 2 x3 <| .mk fun v50 =>
 qLoad1 v50 h <| .mk fun v51 =>
 qLenL v51 <| .mk fun v52 =>
 qLss v52 (.int .i64 3) <| .mk fun v53 =>
 qIf v53 (.mk (
 j6 x0 .any x2 x3 x4 .any .any h)) <| .mk (
 j2 x0 .any x2 x3 x4 .any .any h)

noncomputable def f40_sleuthref1_parts {β : Type} (N : Nat) (call : FCall β) (a : List AV) (h : H) (k : K β) : Option β :=
 qBox 0 (nth a 1) h <| .mk fun v0 h =>
 qAlloc 0 [(.int .i64 0), (.int .i64 0), .nils, (.int .i64 0)] h <| .mk fun v1 h =>
 qJoin 7 (.mk (
 f40_J2 call k)) <| .mk fun j2 =>
 (qLoop 7 N <| .mk (
 f40_L5 call k j2)) (nth a 0) (nth a 1) (nth a 2) v0 v1 (nth a 7) (nth a 14) h

theorem e40_sleuthref1_parts {β : Type} (I : FI) (N : Nat) (call : FCall β) (a : List AV) (h : H) (k : K β) : fBody I 40 T.s40_sleuthref1_parts N call a h k = f40_sleuthref1_parts N call a h k := by kernel_rfl

noncomputable def f41_sleuthref1_NumMay {β : Type} (N : Nat) (call : FCall β) (a : List AV) (h : H) (k : K β) : Option β :=
 qCall call (.fn 30 []) [(nth a 0), (.int .i64 (-32768)), (.int .i64 32767)] h <| .mk fun v0 h =>
 k v0 h

theorem e41_sleuthref1_NumMay {β : Type} (I : FI) (N : Nat) (call : FCall β) (a : List AV) (h : H) (k : K β) : fBody I 41 T.s41_sleuthref1_NumMay N call a h k = f41_sleuthref1_NumMay N call a h k := by kernel_rfl

noncomputable def f46_term_Digits {β : Type} (N : Nat) (call : FCall β) (a : List AV) (h : H) (k : K β) : Option β :=
 qCall call (.fn 45 []) [(nth a 0)] h <| .mk fun v0 h =>
 qExt 0 v0 <| .mk fun v1 =>
 qExt 1 v0 <| .mk fun v2 =>
 qIsNil .ifc false v2 <| .mk fun v3 =>
 qAnd v3 h (.mk fun h k =>
 qGeq v1 (.int .i64 0) <| .mk fun v4 =>
 k v4 h) <| .mk fun v5 h =>
 qAnd v5 h (.mk fun h k =>
 qLeq v1 (nth a 1) <| .mk fun v6 =>
 k v6 h) <| .mk fun v7 h =>
 qAnd v7 h (.mk fun h k =>
 qCall call (.fn 29 []) [v1] h <| .mk fun v8 h =>
 qSEql v8 (nth a 0) <| .mk fun v9 =>
 k v9 h) <| .mk fun v10 h =>
 k (.tup [v1, v10]) h

theorem e46_term_Digits {β : Type} (I : FI) (N : Nat) (call : FCall β) (a : List AV) (h : H) (k : K β) : fBody I 46 T.s46_term_Digits N call a h k = f46_term_Digits N call a h k := by kernel_rfl

noncomputable def f47_internal_stringslite_HasPrefix {β : Type} (N : Nat) (call : FCall β) (a : List AV) (h : H) (k : K β) : Option β :=
 qLenS (nth a 0) <| .mk fun v0 =>
 qLenS (nth a 1) <| .mk fun v1 =>
 qGeq v0 v1 <| .mk fun v2 =>
 qAnd v2 h (.mk fun h k =>
 qLenS (nth a 1) <| .mk fun v3 =>
 qSlS false true (nth a 0) [v3] <| .mk fun v4 =>
 qSEql v4 (nth a 1) <| .mk fun v5 =>
 k v5 h) <| .mk fun v6 h =>
 k v6 h

theorem e47_internal_stringslite_HasPrefix {β : Type} (I : FI) (N : Nat) (call : FCall β) (a : List AV) (h : H) (k : K β) : fBody I 47 T.s47_internal_stringslite_HasPrefix N call a h k = f47_internal_stringslite_HasPrefix N call a h k := by kernel_rfl

noncomputable def f48_J0 {β : Type} (k : K β) (x0 x1 x2 x3 : AV) (h : H) : Option β :=
 qLenS x1 <| .mk fun v1 =>
 qSlS true false x0 [v1] <| .mk fun v2 =>
 k (.tup [v2, (.bool true)]) h

noncomputable def f48_internal_stringslite_CutPrefix {β : Type} (N : Nat) (call : FCall β) (a : List AV) (h : H) (k : K β) : Option β :=
 qJoin 4 (.mk (
 f48_J0 k)) <| .mk fun j0 =>
 qCall call (.fn 47 []) [(nth a 0), (nth a 1)] h <| .mk fun v3 h =>
 qNot v3 <| .mk fun v4 =>
 qIf v4 (.mk (
 k (.tup [(nth a 0), (.bool false)]) h)) <| .mk (
 j0 (nth a 0) (nth a 1) (.str []) (.bool false) h)

theorem e48_internal_stringslite_CutPrefix {β : Type} (I : FI) (N : Nat) (call : FCall β) (a : List AV) (h : H) (k : K β) : fBody I 48 T.s48_internal_stringslite_CutPrefix N call a h k = f48_internal_stringslite_CutPrefix N call a h k := by kernel_rfl

noncomputable def e10 : Ent := ⟨10, T.s10_sleuthlaw0_LendTexts, fun _ _ N call a h k => f10_sleuthlaw0_LendTexts N call a h k, fun _ I N call a h k => e10_sleuthlaw0_LendTexts I N call a h k⟩
noncomputable def e11 : Ent := ⟨11, T.s11_term_Cut, fun _ _ N call a h k => f11_term_Cut N call a h k, fun _ I N call a h k => e11_term_Cut I N call a h k⟩
noncomputable def e12 : Ent := ⟨12, T.s12_sleuthref1_Cut, fun _ _ N call a h k => f12_sleuthref1_Cut N call a h k, fun _ I N call a h k => e12_sleuthref1_Cut I N call a h k⟩
noncomputable def e13 : Ent := ⟨13, T.s13_term_Make, fun _ _ N call a h k => f13_term_Make N call a h k, fun _ I N call a h k => e13_term_Make I N call a h k⟩
noncomputable def e14 : Ent := ⟨14, T.s14_sleuthref1_Make, fun _ _ N call a h k => f14_sleuthref1_Make N call a h k, fun _ I N call a h k => e14_sleuthref1_Make I N call a h k⟩
noncomputable def e15 : Ent := ⟨15, T.s15_sleuthlaw0_SameTexts, fun _ _ N call a h k => f15_sleuthlaw0_SameTexts N call a h k, fun _ I N call a h k => e15_sleuthlaw0_SameTexts I N call a h k⟩
noncomputable def e16 : Ent := ⟨16, T.s16_sleuthlaw0_Num, fun _ _ N call a h k => f16_sleuthlaw0_Num N call a h k, fun _ I N call a h k => e16_sleuthlaw0_Num I N call a h k⟩
noncomputable def e17 : Ent := ⟨17, T.s17_term_May, fun _ _ N call a h k => f17_term_May N call a h k, fun _ I N call a h k => e17_term_May I N call a h k⟩
noncomputable def e18 : Ent := ⟨18, T.s18_sleuthref1_TermMay, fun _ _ N call a h k => f18_sleuthref1_TermMay N call a h k, fun _ I N call a h k => e18_sleuthref1_TermMay I N call a h k⟩
noncomputable def e19 : Ent := ⟨19, T.s19_sleuthlaw0_SpoilTexts, fun _ _ N call a h k => f19_sleuthlaw0_SpoilTexts N call a h k, fun _ I N call a h k => e19_sleuthlaw0_SpoilTexts I N call a h k⟩
noncomputable def e20 : Ent := ⟨20, T.s20_sleuthlaw0_KeptTexts, fun _ _ N call a h k => f20_sleuthlaw0_KeptTexts N call a h k, fun _ I N call a h k => e20_sleuthlaw0_KeptTexts I N call a h k⟩
noncomputable def e22 : Ent := ⟨22, T.s22_sleuthref0_Decimal, fun _ _ N call a h k => f22_sleuthref0_Decimal N call a h k, fun _ I N call a h k => e22_sleuthref0_Decimal I N call a h k⟩
noncomputable def e23 : Ent := ⟨23, T.s23_sleuthlaw0_CopyTexts, fun _ _ N call a h k => f23_sleuthlaw0_CopyTexts N call a h k, fun _ I N call a h k => e23_sleuthlaw0_CopyTexts I N call a h k⟩
noncomputable def e24 : Ent := ⟨24, T.s24_term_cut, fun _ _ N call a h k => f24_term_cut N call a h k, fun _ I N call a h k => e24_term_cut I N call a h k⟩
noncomputable def e25 : Ent := ⟨25, T.s25_sleuthref1_term, fun _ _ N call a h k => f25_sleuthref1_term N call a h k, fun _ I N call a h k => e25_sleuthref1_term I N call a h k⟩
noncomputable def e26 : Ent := ⟨26, T.s26_term_All, fun _ _ N call a h k => f26_term_All N call a h k, fun _ I N call a h k => e26_term_All I N call a h k⟩
noncomputable def e27 : Ent := ⟨27, T.s27_term_Con, fun _ _ N call a h k => f27_term_Con N call a h k, fun _ I N call a h k => e27_term_Con I N call a h k⟩
noncomputable def e28 : Ent := ⟨28, T.s28_prim_May, fun _ _ N call a h k => f28_prim_May N call a h k, fun _ I N call a h k => e28_prim_May I N call a h k⟩
noncomputable def e30 : Ent := ⟨30, T.s30_sleuthref1_upTo, fun _ _ N call a h k => f30_sleuthref1_upTo N call a h k, fun _ I N call a h k => e30_sleuthref1_upTo I N call a h k⟩
noncomputable def e31 : Ent := ⟨31, T.s31_sleuthref1_Join, fun _ _ N call a h k => f31_sleuthref1_Join N call a h k, fun _ I N call a h k => e31_sleuthref1_Join I N call a h k⟩
noncomputable def e32 : Ent := ⟨32, T.s32_sleuthref1_same, fun _ _ N call a h k => f32_sleuthref1_same N call a h k, fun _ I N call a h k => e32_sleuthref1_same I N call a h k⟩
noncomputable def e33 : Ent := ⟨33, T.s33_term_word, fun _ _ N call a h k => f33_term_word N call a h k, fun _ I N call a h k => e33_term_word I N call a h k⟩
noncomputable def e34 : Ent := ⟨34, T.s34_term_Number, fun _ _ N call a h k => f34_term_Number N call a h k, fun _ I N call a h k => e34_term_Number I N call a h k⟩
noncomputable def e35 : Ent := ⟨35, T.s35_term_Tag, fun _ _ N call a h k => f35_term_Tag N call a h k, fun _ I N call a h k => e35_term_Tag I N call a h k⟩
noncomputable def e36 : Ent := ⟨36, T.s36_strings_HasPrefix, fun _ _ N call a h k => f36_strings_HasPrefix N call a h k, fun _ I N call a h k => e36_strings_HasPrefix I N call a h k⟩
noncomputable def e37 : Ent := ⟨37, T.s37_strings_CutPrefix, fun _ _ N call a h k => f37_strings_CutPrefix N call a h k, fun _ I N call a h k => e37_strings_CutPrefix I N call a h k⟩
noncomputable def e38 : Ent := ⟨38, T.s38_sleuthref1_bad, fun _ _ N call a h k => f38_sleuthref1_bad N call a h k, fun _ I N call a h k => e38_sleuthref1_bad I N call a h k⟩
noncomputable def e39 : Ent := ⟨39, T.s39_sleuthref1_digits, fun _ _ N call a h k => f39_sleuthref1_digits N call a h k, fun _ I N call a h k => e39_sleuthref1_digits I N call a h k⟩
noncomputable def e40 : Ent := ⟨40, T.s40_sleuthref1_parts, fun _ _ N call a h k => f40_sleuthref1_parts N call a h k, fun _ I N call a h k => e40_sleuthref1_parts I N call a h k⟩
noncomputable def e41 : Ent := ⟨41, T.s41_sleuthref1_NumMay, fun _ _ N call a h k => f41_sleuthref1_NumMay N call a h k, fun _ I N call a h k => e41_sleuthref1_NumMay I N call a h k⟩
noncomputable def e46 : Ent := ⟨46, T.s46_term_Digits, fun _ _ N call a h k => f46_term_Digits N call a h k, fun _ I N call a h k => e46_term_Digits I N call a h k⟩
noncomputable def e47 : Ent := ⟨47, T.s47_internal_stringslite_HasPrefix, fun _ _ N call a h k => f47_internal_stringslite_HasPrefix N call a h k, fun _ I N call a h k => e47_internal_stringslite_HasPrefix I N call a h k⟩
noncomputable def e48 : Ent := ⟨48, T.s48_internal_stringslite_CutPrefix, fun _ _ N call a h k => f48_internal_stringslite_CutPrefix N call a h k, fun _ I N call a h k => e48_internal_stringslite_CutPrefix I N call a h k⟩

/-- The table holds these functions. -/
structure GA (t : ETree) : Prop where
  g10 : t.get 10 = some e10
  g11 : t.get 11 = some e11
  g12 : t.get 12 = some e12
  g13 : t.get 13 = some e13
  g14 : t.get 14 = some e14
  g15 : t.get 15 = some e15
  g16 : t.get 16 = some e16
  g17 : t.get 17 = some e17
  g18 : t.get 18 = some e18
  g19 : t.get 19 = some e19
  g20 : t.get 20 = some e20
  g22 : t.get 22 = some e22
  g23 : t.get 23 = some e23
  g24 : t.get 24 = some e24
  g25 : t.get 25 = some e25
  g26 : t.get 26 = some e26
  g27 : t.get 27 = some e27
  g28 : t.get 28 = some e28
  g30 : t.get 30 = some e30
  g31 : t.get 31 = some e31
  g32 : t.get 32 = some e32
  g33 : t.get 33 = some e33
  g34 : t.get 34 = some e34
  g35 : t.get 35 = some e35
  g36 : t.get 36 = some e36
  g37 : t.get 37 = some e37
  g38 : t.get 38 = some e38
  g39 : t.get 39 = some e39
  g40 : t.get 40 = some e40
  g41 : t.get 41 = some e41
  g46 : t.get 46 = some e46
  g47 : t.get 47 = some e47
  g48 : t.get 48 = some e48

section
variable {β : Type} {t : ETree} {I : FI}
theorem GA.c10 (T : GA t) (n : Nat) (a : List AV) (h : H) (k : K β) : fRunS t I (n + 1) (.fn 10 []) a h k = f10_sleuthlaw0_LendTexts n (fRunS t I n) a h k := by rw [fRunS_succ t I n 10 [] a h k T.g10, List.append_nil]; rfl
theorem GA.c11 (T : GA t) (n : Nat) (a : List AV) (h : H) (k : K β) : fRunS t I (n + 1) (.fn 11 []) a h k = f11_term_Cut n (fRunS t I n) a h k := by rw [fRunS_succ t I n 11 [] a h k T.g11, List.append_nil]; rfl
theorem GA.c12 (T : GA t) (n : Nat) (a : List AV) (h : H) (k : K β) : fRunS t I (n + 1) (.fn 12 []) a h k = f12_sleuthref1_Cut n (fRunS t I n) a h k := by rw [fRunS_succ t I n 12 [] a h k T.g12, List.append_nil]; rfl
theorem GA.c13 (T : GA t) (n : Nat) (a : List AV) (h : H) (k : K β) : fRunS t I (n + 1) (.fn 13 []) a h k = f13_term_Make n (fRunS t I n) a h k := by rw [fRunS_succ t I n 13 [] a h k T.g13, List.append_nil]; rfl
theorem GA.c14 (T : GA t) (n : Nat) (a : List AV) (h : H) (k : K β) : fRunS t I (n + 1) (.fn 14 []) a h k = f14_sleuthref1_Make n (fRunS t I n) a h k := by rw [fRunS_succ t I n 14 [] a h k T.g14, List.append_nil]; rfl
theorem GA.c15 (T : GA t) (n : Nat) (a : List AV) (h : H) (k : K β) : fRunS t I (n + 1) (.fn 15 []) a h k = f15_sleuthlaw0_SameTexts n (fRunS t I n) a h k := by rw [fRunS_succ t I n 15 [] a h k T.g15, List.append_nil]; rfl
theorem GA.c16 (T : GA t) (n : Nat) (a : List AV) (h : H) (k : K β) : fRunS t I (n + 1) (.fn 16 []) a h k = f16_sleuthlaw0_Num n (fRunS t I n) a h k := by rw [fRunS_succ t I n 16 [] a h k T.g16, List.append_nil]; rfl
theorem GA.c17 (T : GA t) (n : Nat) (a : List AV) (h : H) (k : K β) : fRunS t I (n + 1) (.fn 17 []) a h k = f17_term_May n (fRunS t I n) a h k := by rw [fRunS_succ t I n 17 [] a h k T.g17, List.append_nil]; rfl
theorem GA.c18 (T : GA t) (n : Nat) (a : List AV) (h : H) (k : K β) : fRunS t I (n + 1) (.fn 18 []) a h k = f18_sleuthref1_TermMay n (fRunS t I n) a h k := by rw [fRunS_succ t I n 18 [] a h k T.g18, List.append_nil]; rfl
theorem GA.c19 (T : GA t) (n : Nat) (a : List AV) (h : H) (k : K β) : fRunS t I (n + 1) (.fn 19 []) a h k = f19_sleuthlaw0_SpoilTexts n (fRunS t I n) a h k := by rw [fRunS_succ t I n 19 [] a h k T.g19, List.append_nil]; rfl
theorem GA.c20 (T : GA t) (n : Nat) (a : List AV) (h : H) (k : K β) : fRunS t I (n + 1) (.fn 20 []) a h k = f20_sleuthlaw0_KeptTexts n (fRunS t I n) a h k := by rw [fRunS_succ t I n 20 [] a h k T.g20, List.append_nil]; rfl
theorem GA.c22 (T : GA t) (n : Nat) (a : List AV) (h : H) (k : K β) : fRunS t I (n + 1) (.fn 22 []) a h k = f22_sleuthref0_Decimal n (fRunS t I n) a h k := by rw [fRunS_succ t I n 22 [] a h k T.g22, List.append_nil]; rfl
theorem GA.c23 (T : GA t) (n : Nat) (a : List AV) (h : H) (k : K β) : fRunS t I (n + 1) (.fn 23 []) a h k = f23_sleuthlaw0_CopyTexts n (fRunS t I n) a h k := by rw [fRunS_succ t I n 23 [] a h k T.g23, List.append_nil]; rfl
theorem GA.c24 (T : GA t) (n : Nat) (a : List AV) (h : H) (k : K β) : fRunS t I (n + 1) (.fn 24 []) a h k = f24_term_cut n (fRunS t I n) a h k := by rw [fRunS_succ t I n 24 [] a h k T.g24, List.append_nil]; rfl
theorem GA.c25 (T : GA t) (n : Nat) (a : List AV) (h : H) (k : K β) : fRunS t I (n + 1) (.fn 25 []) a h k = f25_sleuthref1_term n (fRunS t I n) a h k := by rw [fRunS_succ t I n 25 [] a h k T.g25, List.append_nil]; rfl
theorem GA.c26 (T : GA t) (n : Nat) (a : List AV) (h : H) (k : K β) : fRunS t I (n + 1) (.fn 26 []) a h k = f26_term_All n (fRunS t I n) a h k := by rw [fRunS_succ t I n 26 [] a h k T.g26, List.append_nil]; rfl
theorem GA.c27 (T : GA t) (n : Nat) (a : List AV) (h : H) (k : K β) : fRunS t I (n + 1) (.fn 27 []) a h k = f27_term_Con n (fRunS t I n) a h k := by rw [fRunS_succ t I n 27 [] a h k T.g27, List.append_nil]; rfl
theorem GA.c28 (T : GA t) (n : Nat) (a : List AV) (h : H) (k : K β) : fRunS t I (n + 1) (.fn 28 []) a h k = f28_prim_May n (fRunS t I n) a h k := by rw [fRunS_succ t I n 28 [] a h k T.g28, List.append_nil]; rfl
theorem GA.c30 (T : GA t) (n : Nat) (a : List AV) (h : H) (k : K β) : fRunS t I (n + 1) (.fn 30 []) a h k = f30_sleuthref1_upTo n (fRunS t I n) a h k := by rw [fRunS_succ t I n 30 [] a h k T.g30, List.append_nil]; rfl
theorem GA.c31 (T : GA t) (n : Nat) (a : List AV) (h : H) (k : K β) : fRunS t I (n + 1) (.fn 31 []) a h k = f31_sleuthref1_Join n (fRunS t I n) a h k := by rw [fRunS_succ t I n 31 [] a h k T.g31, List.append_nil]; rfl
theorem GA.c32 (T : GA t) (n : Nat) (a : List AV) (h : H) (k : K β) : fRunS t I (n + 1) (.fn 32 []) a h k = f32_sleuthref1_same n (fRunS t I n) a h k := by rw [fRunS_succ t I n 32 [] a h k T.g32, List.append_nil]; rfl
theorem GA.c33 (T : GA t) (n : Nat) (a : List AV) (h : H) (k : K β) : fRunS t I (n + 1) (.fn 33 []) a h k = f33_term_word n (fRunS t I n) a h k := by rw [fRunS_succ t I n 33 [] a h k T.g33, List.append_nil]; rfl
theorem GA.c34 (T : GA t) (n : Nat) (a : List AV) (h : H) (k : K β) : fRunS t I (n + 1) (.fn 34 []) a h k = f34_term_Number n (fRunS t I n) a h k := by rw [fRunS_succ t I n 34 [] a h k T.g34, List.append_nil]; rfl
theorem GA.c35 (T : GA t) (n : Nat) (a : List AV) (h : H) (k : K β) : fRunS t I (n + 1) (.fn 35 []) a h k = f35_term_Tag n (fRunS t I n) a h k := by rw [fRunS_succ t I n 35 [] a h k T.g35, List.append_nil]; rfl
theorem GA.c36 (T : GA t) (n : Nat) (a : List AV) (h : H) (k : K β) : fRunS t I (n + 1) (.fn 36 []) a h k = f36_strings_HasPrefix n (fRunS t I n) a h k := by rw [fRunS_succ t I n 36 [] a h k T.g36, List.append_nil]; rfl
theorem GA.c37 (T : GA t) (n : Nat) (a : List AV) (h : H) (k : K β) : fRunS t I (n + 1) (.fn 37 []) a h k = f37_strings_CutPrefix n (fRunS t I n) a h k := by rw [fRunS_succ t I n 37 [] a h k T.g37, List.append_nil]; rfl
theorem GA.c38 (T : GA t) (n : Nat) (a : List AV) (h : H) (k : K β) : fRunS t I (n + 1) (.fn 38 []) a h k = f38_sleuthref1_bad n (fRunS t I n) a h k := by rw [fRunS_succ t I n 38 [] a h k T.g38, List.append_nil]; rfl
theorem GA.c39 (T : GA t) (n : Nat) (a : List AV) (h : H) (k : K β) : fRunS t I (n + 1) (.fn 39 []) a h k = f39_sleuthref1_digits n (fRunS t I n) a h k := by rw [fRunS_succ t I n 39 [] a h k T.g39, List.append_nil]; rfl
theorem GA.c40 (T : GA t) (n : Nat) (a : List AV) (h : H) (k : K β) : fRunS t I (n + 1) (.fn 40 []) a h k = f40_sleuthref1_parts n (fRunS t I n) a h k := by rw [fRunS_succ t I n 40 [] a h k T.g40, List.append_nil]; rfl
theorem GA.c41 (T : GA t) (n : Nat) (a : List AV) (h : H) (k : K β) : fRunS t I (n + 1) (.fn 41 []) a h k = f41_sleuthref1_NumMay n (fRunS t I n) a h k := by rw [fRunS_succ t I n 41 [] a h k T.g41, List.append_nil]; rfl
theorem GA.c46 (T : GA t) (n : Nat) (a : List AV) (h : H) (k : K β) : fRunS t I (n + 1) (.fn 46 []) a h k = f46_term_Digits n (fRunS t I n) a h k := by rw [fRunS_succ t I n 46 [] a h k T.g46, List.append_nil]; rfl
theorem GA.c47 (T : GA t) (n : Nat) (a : List AV) (h : H) (k : K β) : fRunS t I (n + 1) (.fn 47 []) a h k = f47_internal_stringslite_HasPrefix n (fRunS t I n) a h k := by rw [fRunS_succ t I n 47 [] a h k T.g47, List.append_nil]; rfl
theorem GA.c48 (T : GA t) (n : Nat) (a : List AV) (h : H) (k : K β) : fRunS t I (n + 1) (.fn 48 []) a h k = f48_internal_stringslite_CutPrefix n (fRunS t I n) a h k := by rw [fRunS_succ t I n 48 [] a h k T.g48, List.append_nil]; rfl
theorem GA.q10 (T : GA t) (n : Nat) (a : List AV) (h : H) (k : K β) : qCall (fRunS t I (n + 1)) (.fn 10 []) a h (.mk k) = f10_sleuthlaw0_LendTexts n (fRunS t I n) a h k := T.c10 n a h k
theorem GA.q11 (T : GA t) (n : Nat) (a : List AV) (h : H) (k : K β) : qCall (fRunS t I (n + 1)) (.fn 11 []) a h (.mk k) = f11_term_Cut n (fRunS t I n) a h k := T.c11 n a h k
theorem GA.q12 (T : GA t) (n : Nat) (a : List AV) (h : H) (k : K β) : qCall (fRunS t I (n + 1)) (.fn 12 []) a h (.mk k) = f12_sleuthref1_Cut n (fRunS t I n) a h k := T.c12 n a h k
theorem GA.q13 (T : GA t) (n : Nat) (a : List AV) (h : H) (k : K β) : qCall (fRunS t I (n + 1)) (.fn 13 []) a h (.mk k) = f13_term_Make n (fRunS t I n) a h k := T.c13 n a h k
theorem GA.q14 (T : GA t) (n : Nat) (a : List AV) (h : H) (k : K β) : qCall (fRunS t I (n + 1)) (.fn 14 []) a h (.mk k) = f14_sleuthref1_Make n (fRunS t I n) a h k := T.c14 n a h k
theorem GA.q15 (T : GA t) (n : Nat) (a : List AV) (h : H) (k : K β) : qCall (fRunS t I (n + 1)) (.fn 15 []) a h (.mk k) = f15_sleuthlaw0_SameTexts n (fRunS t I n) a h k := T.c15 n a h k
theorem GA.q16 (T : GA t) (n : Nat) (a : List AV) (h : H) (k : K β) : qCall (fRunS t I (n + 1)) (.fn 16 []) a h (.mk k) = f16_sleuthlaw0_Num n (fRunS t I n) a h k := T.c16 n a h k
theorem GA.q17 (T : GA t) (n : Nat) (a : List AV) (h : H) (k : K β) : qCall (fRunS t I (n + 1)) (.fn 17 []) a h (.mk k) = f17_term_May n (fRunS t I n) a h k := T.c17 n a h k
theorem GA.q18 (T : GA t) (n : Nat) (a : List AV) (h : H) (k : K β) : qCall (fRunS t I (n + 1)) (.fn 18 []) a h (.mk k) = f18_sleuthref1_TermMay n (fRunS t I n) a h k := T.c18 n a h k
theorem GA.q19 (T : GA t) (n : Nat) (a : List AV) (h : H) (k : K β) : qCall (fRunS t I (n + 1)) (.fn 19 []) a h (.mk k) = f19_sleuthlaw0_SpoilTexts n (fRunS t I n) a h k := T.c19 n a h k
theorem GA.q20 (T : GA t) (n : Nat) (a : List AV) (h : H) (k : K β) : qCall (fRunS t I (n + 1)) (.fn 20 []) a h (.mk k) = f20_sleuthlaw0_KeptTexts n (fRunS t I n) a h k := T.c20 n a h k
theorem GA.q22 (T : GA t) (n : Nat) (a : List AV) (h : H) (k : K β) : qCall (fRunS t I (n + 1)) (.fn 22 []) a h (.mk k) = f22_sleuthref0_Decimal n (fRunS t I n) a h k := T.c22 n a h k
theorem GA.q23 (T : GA t) (n : Nat) (a : List AV) (h : H) (k : K β) : qCall (fRunS t I (n + 1)) (.fn 23 []) a h (.mk k) = f23_sleuthlaw0_CopyTexts n (fRunS t I n) a h k := T.c23 n a h k
theorem GA.q24 (T : GA t) (n : Nat) (a : List AV) (h : H) (k : K β) : qCall (fRunS t I (n + 1)) (.fn 24 []) a h (.mk k) = f24_term_cut n (fRunS t I n) a h k := T.c24 n a h k
theorem GA.q25 (T : GA t) (n : Nat) (a : List AV) (h : H) (k : K β) : qCall (fRunS t I (n + 1)) (.fn 25 []) a h (.mk k) = f25_sleuthref1_term n (fRunS t I n) a h k := T.c25 n a h k
theorem GA.q26 (T : GA t) (n : Nat) (a : List AV) (h : H) (k : K β) : qCall (fRunS t I (n + 1)) (.fn 26 []) a h (.mk k) = f26_term_All n (fRunS t I n) a h k := T.c26 n a h k
theorem GA.q27 (T : GA t) (n : Nat) (a : List AV) (h : H) (k : K β) : qCall (fRunS t I (n + 1)) (.fn 27 []) a h (.mk k) = f27_term_Con n (fRunS t I n) a h k := T.c27 n a h k
theorem GA.q28 (T : GA t) (n : Nat) (a : List AV) (h : H) (k : K β) : qCall (fRunS t I (n + 1)) (.fn 28 []) a h (.mk k) = f28_prim_May n (fRunS t I n) a h k := T.c28 n a h k
theorem GA.q30 (T : GA t) (n : Nat) (a : List AV) (h : H) (k : K β) : qCall (fRunS t I (n + 1)) (.fn 30 []) a h (.mk k) = f30_sleuthref1_upTo n (fRunS t I n) a h k := T.c30 n a h k
theorem GA.q31 (T : GA t) (n : Nat) (a : List AV) (h : H) (k : K β) : qCall (fRunS t I (n + 1)) (.fn 31 []) a h (.mk k) = f31_sleuthref1_Join n (fRunS t I n) a h k := T.c31 n a h k
theorem GA.q32 (T : GA t) (n : Nat) (a : List AV) (h : H) (k : K β) : qCall (fRunS t I (n + 1)) (.fn 32 []) a h (.mk k) = f32_sleuthref1_same n (fRunS t I n) a h k := T.c32 n a h k
theorem GA.q33 (T : GA t) (n : Nat) (a : List AV) (h : H) (k : K β) : qCall (fRunS t I (n + 1)) (.fn 33 []) a h (.mk k) = f33_term_word n (fRunS t I n) a h k := T.c33 n a h k
theorem GA.q34 (T : GA t) (n : Nat) (a : List AV) (h : H) (k : K β) : qCall (fRunS t I (n + 1)) (.fn 34 []) a h (.mk k) = f34_term_Number n (fRunS t I n) a h k := T.c34 n a h k
theorem GA.q35 (T : GA t) (n : Nat) (a : List AV) (h : H) (k : K β) : qCall (fRunS t I (n + 1)) (.fn 35 []) a h (.mk k) = f35_term_Tag n (fRunS t I n) a h k := T.c35 n a h k
theorem GA.q36 (T : GA t) (n : Nat) (a : List AV) (h : H) (k : K β) : qCall (fRunS t I (n + 1)) (.fn 36 []) a h (.mk k) = f36_strings_HasPrefix n (fRunS t I n) a h k := T.c36 n a h k
theorem GA.q37 (T : GA t) (n : Nat) (a : List AV) (h : H) (k : K β) : qCall (fRunS t I (n + 1)) (.fn 37 []) a h (.mk k) = f37_strings_CutPrefix n (fRunS t I n) a h k := T.c37 n a h k
theorem GA.q38 (T : GA t) (n : Nat) (a : List AV) (h : H) (k : K β) : qCall (fRunS t I (n + 1)) (.fn 38 []) a h (.mk k) = f38_sleuthref1_bad n (fRunS t I n) a h k := T.c38 n a h k
theorem GA.q39 (T : GA t) (n : Nat) (a : List AV) (h : H) (k : K β) : qCall (fRunS t I (n + 1)) (.fn 39 []) a h (.mk k) = f39_sleuthref1_digits n (fRunS t I n) a h k := T.c39 n a h k
theorem GA.q40 (T : GA t) (n : Nat) (a : List AV) (h : H) (k : K β) : qCall (fRunS t I (n + 1)) (.fn 40 []) a h (.mk k) = f40_sleuthref1_parts n (fRunS t I n) a h k := T.c40 n a h k
theorem GA.q41 (T : GA t) (n : Nat) (a : List AV) (h : H) (k : K β) : qCall (fRunS t I (n + 1)) (.fn 41 []) a h (.mk k) = f41_sleuthref1_NumMay n (fRunS t I n) a h k := T.c41 n a h k
theorem GA.q46 (T : GA t) (n : Nat) (a : List AV) (h : H) (k : K β) : qCall (fRunS t I (n + 1)) (.fn 46 []) a h (.mk k) = f46_term_Digits n (fRunS t I n) a h k := T.c46 n a h k
theorem GA.q47 (T : GA t) (n : Nat) (a : List AV) (h : H) (k : K β) : qCall (fRunS t I (n + 1)) (.fn 47 []) a h (.mk k) = f47_internal_stringslite_HasPrefix n (fRunS t I n) a h k := T.c47 n a h k
theorem GA.q48 (T : GA t) (n : Nat) (a : List AV) (h : H) (k : K β) : qCall (fRunS t I (n + 1)) (.fn 48 []) a h (.mk k) = f48_internal_stringslite_CutPrefix n (fRunS t I n) a h k := T.c48 n a h k
end
end Am.F
