/- What the functions come to. -/
import Derived.Test.YtnhappodbogoaaaGreatDoorAmGPRT
import Derived.Test.YtnhappodbogoaaaGreatDoorAmJc
set_option maxRecDepth 100000
set_option linter.unusedVariables false
namespace Am.F
open Go Am
noncomputable def f148_J9 {β : Type} (k : K β) (x0 x1 x2 x3 x4 x5 x6 x7 x8 x9 x10 x11 : AV) (h : H) : Option β :=
 qLoadN 1 x6 h <| .mk fun v10 =>
 qStore 1 x1 v10 h <| .mk fun h =>
 qLoadN 1 x1 h <| .mk fun v11 =>
 k (.tup [v11, (.int .i64 0)]) h
noncomputable def f148_J8 {β : Type} (call : FCall β) (k : K β) (x0 x1 x2 x3 x4 x5 x6 x7 x8 x9 x10 x11 : AV) (h : H) : Option β :=
 qJoin 12 (.mk (
 f148_J9 k)) <| .mk fun j9 =>
 qNil x5 <| .mk fun v12 =>
 qFadr 1 v12 <| .mk fun v13 =>
 qLoad1 v13 h <| .mk fun v14 =>
 qOr v14 h (.mk fun h k =>
 qLoadN 1 x6 h <| .mk fun v15 =>
 qCall call (.fn 149 []) [v15] h <| .mk fun v16 h =>
 qNot v16 <| .mk fun v17 =>
 k v17 h) <| .mk fun v18 h =>
 qIf v18 (.mk (
 qBuild [.nils] [] [] <| .mk fun v19 =>
 qStore 1 x1 v19 h <| .mk fun h =>
 qLoadN 1 x1 h <| .mk fun v20 =>
 k (.tup [v20, (.int .i64 700)]) h)) <| .mk (
 j9 x0 x1 x2 x3 x4 x5 x6 x7 x8 x9 x10 x11 h)
noncomputable def f148_J33 {β : Type} (l21 : Cur β 12) (x0 x1 x2 x3 x4 x5 x6 x7 x8 x9 x10 x11 : AV) (h : H) : Option β :=
 qFadr 0 x6 <| .mk fun v34 =>
 qLoad1 v34 h <| .mk fun v35 =>
 qNil x5 <| .mk fun v36 =>
 qFadr 2 v36 <| .mk fun v37 =>
 qLoad1 v37 h <| .mk fun v38 =>
 qBuild [(.int .i64 0), .nils] [(0, 1), (1, 1)] [x8, v38] <| .mk fun v39 =>
 qBslice 0 [(.int .i64 0), .nils] 1 [(0, 2)] [v39] h <| .mk fun v40 h =>
 qLoad1 v34 h <| .mk fun v41 =>
 qChk v41 v35 <| .mk (
 qApp 0 2 32 v35 v40 h <| .mk fun v42 h =>
 qFadr 0 x6 <| .mk fun v43 =>
 qStore 1 v43 v42 h <| .mk fun h =>
 l21 x0 x1 x2 x3 x4 x5 x6 x7 x8 x9 x10 x11 h)
noncomputable def f148_J22 {β : Type} (call : FCall β) (l21 : Cur β 12) (x0 x1 x2 x3 x4 x5 x6 x7 x8 x9 x10 x11 : AV) (h : H) : Option β :=
 qNil x5 <| .mk fun v23 =>
 qFadr 2 v23 <| .mk fun v24 =>
 qStore 1 v24 .nils h <| .mk fun h =>
 qCall call (.fn 176 []) [x5] h <| .mk fun v25 h =>
 qSEql v25 (.str [40]) <| .mk fun v26 =>
 qAnd v26 h (.mk fun h k =>
 qCall call (.fn 176 []) [x5] h <| .mk fun v27 h =>
 qSEql v27 (.str [100, 101, 102]) <| .mk fun v28 =>
 k v28 h) <| .mk fun v29 h =>
 qCall call (.fn 176 []) [x5] h <| .mk fun v30 h =>
 qCall call (.fn 177 []) [x5, v30, (.int .i64 3)] h <| .mk fun v31 h =>
 qCall call (.fn 178 []) [x5] h <| .mk fun v32 h =>
 qJoin 12 (.mk (
 f148_J33 l21)) <| .mk fun j33 =>
 qNot v29 <| .mk fun v44 =>
 qOr v44 h (.mk fun h k =>
 qCall call (.fn 176 []) [x5] h <| .mk fun v45 h =>
 qSNeq v45 (.str [41]) <| .mk fun v46 =>
 k v46 h) <| .mk fun v47 h =>
 qIf v47 (.mk (
 qNil x5 <| .mk fun v48 =>
 qFadr 1 v48 <| .mk fun v49 =>
 qStore 1 v49 (.bool true) h <| .mk fun h =>
 j33 x0 x1 x2 x3 x4 x5 x6 v29 v31 x9 x10 x11 h)) <| .mk (
 j33 x0 x1 x2 x3 x4 x5 x6 v29 v31 x9 x10 x11 h)
noncomputable def f148_L21 {β : Type} (call : FCall β) (j8 : Cur β 12) (l21 : Cur β 12) (x0 x1 x2 x3 x4 x5 x6 x7 x8 x9 x10 x11 : AV) (h : H) : Option β :=
 qJoin 12 (.mk (
 f148_J22 call l21)) <| .mk fun j22 =>
 qNil x5 <| .mk fun v50 =>
 qFadr 0 v50 <| .mk fun v51 =>
 qLoad1 v51 h <| .mk fun v52 =>
 qLenL v52 <| .mk fun v53 =>
 qGtr v53 (.int .i64 0) <| .mk fun v54 =>
 qAnd v54 h (.mk fun h k =>
 qNil x5 <| .mk fun v55 =>
 qFadr 1 v55 <| .mk fun v56 =>
 qLoad1 v56 h <| .mk fun v57 =>
 qNot v57 <| .mk fun v58 =>
 k v58 h) <| .mk fun v59 h =>
 qAnd v59 h (.mk fun h k =>
 qFadr 0 x6 <| .mk fun v60 =>
 qLoad1 v60 h <| .mk fun v61 =>
 qLenL v61 <| .mk fun v62 =>
 qLeq v62 (.int .i64 8) <| .mk fun v63 =>
 k v63 h) <| .mk fun v64 h =>
 qIf v64 (.mk (
 j22 .any x1 .any .any .any x5 x6 .any .any .any .any .any h)) <| .mk (
 j8 .any x1 .any .any .any x5 x6 .any .any .any .any .any h)
noncomputable def f148_J4 {β : Type} (N : Nat) (call : FCall β) (k : K β) (x0 x1 x2 x3 x4 x5 x6 x7 x8 x9 x10 x11 : AV) (h : H) : Option β :=
 qBuild [.nils, (.bool false), .nils] [(0, 1)] [x3] <| .mk fun v5 =>
 qBox 0 v5 h <| .mk fun v6 h =>
 qAlloc 0 [.nils] h <| .mk fun v7 h =>
 qJoin 12 (.mk (
 f148_J8 call k)) <| .mk fun j8 =>
 (qLoop 12 N <| .mk (
 f148_L21 call j8)) x0 x1 x2 x3 x4 v6 v7 x7 x8 x9 x10 x11 h
noncomputable def f148 {β : Type} (N : Nat) (call : FCall β) (a : List AV) (h : H) (k : K β) : Option β :=
 qAlloc 0 [.nils] h <| .mk fun v0 h =>
 qCall call (.fn 175 []) [(nth a 0)] h <| .mk fun v1 h =>
 qExt 0 v1 <| .mk fun v2 =>
 qExt 1 v1 <| .mk fun v3 =>
 qJoin 12 (.mk (
 f148_J4 N call k)) <| .mk fun j4 =>
 qNeq v3 (.int .i64 0) <| .mk fun v65 =>
 qIf v65 (.mk (
 qBuild [.nils] [] [] <| .mk fun v66 =>
 qStore 1 v0 v66 h <| .mk fun h =>
 qLoadN 1 v0 h <| .mk fun v67 =>
 k (.tup [v67, (.int .i64 700)]) h)) <| .mk (
 j4 (nth a 0) v0 (.int .i64 0) v2 v3 (nth a 6) (nth a 7) (nth a 8) (nth a 9) v1 v2 v3 h)
theorem y148 {β : Type} (I : FI) (N : Nat) (call : FCall β) (a : List AV) (h : H) (k : K β) : fBody I 148 T.s148 N call a h k = f148 N call a h k := by kernel_rfl
noncomputable def f175_J2 {β : Type} (k : K β) (x0 x1 x2 x3 x4 x5 x6 x7 x8 : AV) (h : H) : Option β :=
 k (.tup [x4, (.int .i64 0)]) h
noncomputable def f175_J5 {β : Type} (l3 : Cur β 9) (x0 x1 x2 x3 x4 x5 x6 x7 x8 : AV) (h : H) : Option β :=
 qAdd x6 (.int .i64 1) <| .mk fun v6 =>
 l3 x0 x1 x2 x3 x4 x5 v6 x7 x8 h
noncomputable def f175_J21 {β : Type} (l20 : Cur β 9) (x0 x1 x2 x3 x4 x5 x6 x7 x8 : AV) (h : H) : Option β :=
 qAdd x6 (.int .i64 1) <| .mk fun v22 =>
 l20 x0 x1 x2 x3 x4 x5 v22 x7 x8 h
noncomputable def f175_L20 {β : Type} (j5 : Cur β 9) (l20 : Cur β 9) (x0 x1 x2 x3 x4 x5 x6 x7 x8 : AV) (h : H) : Option β :=
 qJoin 9 (.mk (
 f175_J21 l20)) <| .mk fun j21 =>
 qEql x7 (.int .u8 35) <| .mk fun v23 =>
 qAnd v23 h (.mk fun h k =>
 qAdd x6 (.int .i64 1) <| .mk fun v24 =>
 qLenS x0 <| .mk fun v25 =>
 qLss v24 v25 <| .mk fun v26 =>
 k v26 h) <| .mk fun v27 h =>
 qAnd v27 h (.mk fun h k =>
 qAdd x6 (.int .i64 1) <| .mk fun v28 =>
 qIdxS x0 v28 <| .mk fun v29 =>
 qNeq v29 (.int .u8 10) <| .mk fun v30 =>
 k v30 h) <| .mk fun v31 h =>
 qIf v31 (.mk (
 j21 x0 .any .any .any x4 x5 x6 x7 .any h)) <| .mk (
 j5 x0 .any .any .any x4 x5 x6 x7 .any h)
noncomputable def f175_J19 {β : Type} (N : Nat) (j5 : Cur β 9) (x0 x1 x2 x3 x4 x5 x6 x7 x8 : AV) (h : H) : Option β :=
 (qLoop 9 N <| .mk (
 f175_L20 j5)) x0 x1 x2 x3 x4 x5 x6 x7 x8 h
noncomputable def f175_J18 {β : Type} (N : Nat) (j5 : Cur β 9) (x0 x1 x2 x3 x4 x5 x6 x7 x8 : AV) (h : H) : Option β :=
 qJoin 9 (.mk (
 f175_J19 N j5)) <| .mk fun j19 =>
 qEql x7 (.int .u8 40) <| .mk fun v32 =>
 qOr v32 h (.mk fun h k =>
 qEql x7 (.int .u8 41) <| .mk fun v33 =>
 k v33 h) <| .mk fun v34 h =>
 qIf v34 (.mk (
 qAdd x6 (.int .i64 1) <| .mk fun v35 =>
 qSlS true true x0 [x6, v35] <| .mk fun v36 =>
 qBslice 0 [(.str [])] 1 [(0, 1)] [v36] h <| .mk fun v37 h =>
 qApp 0 1 16 x4 v37 h <| .mk fun v38 h =>
 j19 x0 x1 x2 x3 v38 x5 x6 x7 x8 h)) <| .mk (
 j19 x0 x1 x2 x3 x4 x5 x6 x7 x8 h)
noncomputable def f175_J17 {β : Type} (N : Nat) (j5 : Cur β 9) (x0 x1 x2 x3 x4 x5 x6 x7 x8 : AV) (h : H) : Option β :=
 qJoin 9 (.mk (
 f175_J18 N j5)) <| .mk fun j18 =>
 qSNeq x5 (.str []) <| .mk fun v39 =>
 qIf v39 (.mk (
 qBslice 0 [(.str [])] 1 [(0, 1)] [x5] h <| .mk fun v40 h =>
 qApp 0 1 16 x4 v40 h <| .mk fun v41 h =>
 j18 x0 x1 x2 x3 v41 (.str []) x6 x7 x8 h)) <| .mk (
 j18 x0 x1 x2 x3 x4 x5 x6 x7 x8 h)
noncomputable def f175_J7 {β : Type} (N : Nat) (j5 : Cur β 9) (x0 x1 x2 x3 x4 x5 x6 x7 x8 : AV) (h : H) : Option β :=
 qNeq x7 (.int .u8 10) <| .mk fun v8 =>
 qAnd v8 h (.mk fun h k =>
 qNeq x7 (.int .u8 32) <| .mk fun v9 =>
 k v9 h) <| .mk fun v10 h =>
 qAnd v10 h (.mk fun h k =>
 qNeq x7 (.int .u8 40) <| .mk fun v11 =>
 k v11 h) <| .mk fun v12 h =>
 qAnd v12 h (.mk fun h k =>
 qNeq x7 (.int .u8 41) <| .mk fun v13 =>
 k v13 h) <| .mk fun v14 h =>
 qAnd v14 h (.mk fun h k =>
 qNeq x7 (.int .u8 35) <| .mk fun v15 =>
 k v15 h) <| .mk fun v16 h =>
 qJoin 9 (.mk (
 f175_J17 N j5)) <| .mk fun j17 =>
 qIf v16 (.mk (
 qAdd x6 (.int .i64 1) <| .mk fun v42 =>
 qSlS true true x0 [x6, v42] <| .mk fun v43 =>
 qSAdd x5 v43 <| .mk fun v44 =>
 j5 x0 x1 x2 x3 x4 v44 x6 x7 v16 h)) <| .mk (
 j17 x0 x1 x2 x3 x4 x5 x6 x7 v16 h)
noncomputable def f175_J4 {β : Type} (N : Nat) (l3 : Cur β 9) (x0 x1 x2 x3 x4 x5 x6 x7 x8 : AV) (h : H) : Option β :=
 qJoin 9 (.mk (
 f175_J5 l3)) <| .mk fun j5 =>
 qJoin 9 (.mk (
 f175_J7 N j5)) <| .mk fun j7 =>
 qLenS x0 <| .mk fun v45 =>
 qLss x6 v45 <| .mk fun v46 =>
 qIf v46 (.mk (
 qIdxS x0 x6 <| .mk fun v47 =>
 j7 x0 x1 x2 x3 x4 x5 x6 v47 x8 h)) <| .mk (
 j7 x0 x1 x2 x3 x4 x5 x6 (.int .u8 10) x8 h)
noncomputable def f175_L3 {β : Type} (N : Nat) (j2 : Cur β 9) (l3 : Cur β 9) (x0 x1 x2 x3 x4 x5 x6 x7 x8 : AV) (h : H) : Option β :=
 qJoin 9 (.mk (
 f175_J4 N l3)) <| .mk fun j4 =>
 qLenS x0 <| .mk fun v48 =>
 qLeq x6 v48 <| .mk fun v49 =>
 qIf v49 (.mk (
 j4 x0 .any .any .any x4 x5 x6 .any .any h)) <| .mk (
 j2 x0 .any .any .any x4 x5 x6 .any .any h)
noncomputable def f175_J1 {β : Type} (N : Nat) (k : K β) (x0 x1 x2 x3 x4 x5 x6 x7 x8 : AV) (h : H) : Option β :=
 qJoin 9 (.mk (
 f175_J2 k)) <| .mk fun j2 =>
 (qLoop 9 N <| .mk (
 f175_L3 N j2)) x0 x1 x2 x3 .nils (.str []) (.int .i64 0) x7 x8 h
noncomputable def f175_J52 {β : Type} (l50 : Cur β 9) (x0 x1 x2 x3 x4 x5 x6 x7 x8 : AV) (h : H) : Option β :=
 qAdd x3 (.int .i64 1) <| .mk fun v53 =>
 l50 x0 x1 x2 v53 x4 x5 x6 x7 x8 h
noncomputable def f175_J51 {β : Type} (k : K β) (l50 : Cur β 9) (x0 x1 x2 x3 x4 x5 x6 x7 x8 : AV) (h : H) : Option β :=
 qJoin 9 (.mk (
 f175_J52 l50)) <| .mk fun j52 =>
 qIdxS x0 x3 <| .mk fun v54 =>
 qNeq v54 (.int .u8 10) <| .mk fun v55 =>
 qAnd v55 h (.mk fun h k =>
 qIdxS x0 x3 <| .mk fun v56 =>
 qLss v56 (.int .u8 32) <| .mk fun v57 =>
 qOr v57 h (.mk fun h k =>
 qIdxS x0 x3 <| .mk fun v58 =>
 qGtr v58 (.int .u8 126) <| .mk fun v59 =>
 k v59 h) <| .mk fun v60 h =>
 k v60 h) <| .mk fun v61 h =>
 qIf v61 (.mk (
 k (.tup [.nils, (.int .i64 400)]) h)) <| .mk (
 j52 x0 x1 x2 x3 x4 x5 x6 x7 x8 h)
noncomputable def f175_L50 {β : Type} (k : K β) (j1 : Cur β 9) (l50 : Cur β 9) (x0 x1 x2 x3 x4 x5 x6 x7 x8 : AV) (h : H) : Option β :=
 qJoin 9 (.mk (
 f175_J51 k l50)) <| .mk fun j51 =>
 qLenS x0 <| .mk fun v62 =>
 qLss x3 v62 <| .mk fun v63 =>
 qIf v63 (.mk (
 j51 x0 .any .any x3 .any .any .any .any .any h)) <| .mk (
 j1 x0 .any .any x3 .any .any .any .any .any h)
noncomputable def f175_J0 {β : Type} (N : Nat) (k : K β) (x0 x1 x2 x3 x4 x5 x6 x7 x8 : AV) (h : H) : Option β :=
 qJoin 9 (.mk (
 f175_J1 N k)) <| .mk fun j1 =>
 (qLoop 9 N <| .mk (
 f175_L50 k j1)) x0 x1 x2 (.int .i64 0) x4 x5 x6 x7 x8 h
noncomputable def f175 {β : Type} (N : Nat) (call : FCall β) (a : List AV) (h : H) (k : K β) : Option β :=
 qJoin 9 (.mk (
 f175_J0 N k)) <| .mk fun j0 =>
 qLenS (nth a 0) <| .mk fun v64 =>
 qGtr v64 (.int .i64 2048) <| .mk fun v65 =>
 qIf v65 (.mk (
 k (.tup [.nils, (.int .i64 400)]) h)) <| .mk (
 j0 (nth a 0) .nils (.int .i64 0) (nth a 4) (nth a 5) (nth a 6) (nth a 7) (nth a 8) (nth a 9) h)
theorem y175 {β : Type} (I : FI) (N : Nat) (call : FCall β) (a : List AV) (h : H) (k : K β) : fBody I 175 T.s175 N call a h k = f175 N call a h k := by kernel_rfl
noncomputable def f176_J0 {β : Type} (k : K β) (x0 x1 x2 x3 : AV) (h : H) : Option β :=
 qNil x0 <| .mk fun v1 =>
 qFadr 0 v1 <| .mk fun v2 =>
 qLoad1 v2 h <| .mk fun v3 =>
 qIadr 1 v3 (.int .i64 0) <| .mk fun v4 =>
 qLoad1 v4 h <| .mk fun v5 =>
 qNil x0 <| .mk fun v6 =>
 qFadr 0 v6 <| .mk fun v7 =>
 qLoad1 v7 h <| .mk fun v8 =>
 qSlL 1 true false false v8 [(.int .i64 1)] <| .mk fun v9 =>
 qNil x0 <| .mk fun v10 =>
 qFadr 0 v10 <| .mk fun v11 =>
 qStore 1 v11 v9 h <| .mk fun h =>
 k v5 h
noncomputable def f176 {β : Type} (N : Nat) (call : FCall β) (a : List AV) (h : H) (k : K β) : Option β :=
 qJoin 4 (.mk (
 f176_J0 k)) <| .mk fun j0 =>
 qNil (nth a 0) <| .mk fun v12 =>
 qFadr 0 v12 <| .mk fun v13 =>
 qLoad1 v13 h <| .mk fun v14 =>
 qLenL v14 <| .mk fun v15 =>
 qEql v15 (.int .i64 0) <| .mk fun v16 =>
 qIf v16 (.mk (
 qNil (nth a 0) <| .mk fun v17 =>
 qFadr 1 v17 <| .mk fun v18 =>
 qStore 1 v18 (.bool true) h <| .mk fun h =>
 k (.str []) h)) <| .mk (
 j0 (nth a 0) (.str []) (nth a 3) (nth a 19) h)
theorem y176 {β : Type} (I : FI) (N : Nat) (call : FCall β) (a : List AV) (h : H) (k : K β) : fBody I 176 T.s176 N call a h k = f176 N call a h k := by kernel_rfl
noncomputable def f177_J3 {β : Type} (k : K β) (x0 x1 x2 x3 x4 x5 x6 x7 x8 : AV) (h : H) : Option β :=
 k x4 h
noncomputable def f177 {β : Type} (N : Nat) (call : FCall β) (a : List AV) (h : H) (k : K β) : Option β :=
 qCall call (.fn 39 []) [(nth a 1)] h <| .mk fun v0 h =>
 qExt 0 v0 <| .mk fun v1 =>
 qExt 1 v0 <| .mk fun v2 =>
 qJoin 9 (.mk (
 f177_J3 k)) <| .mk fun j3 =>
 qEql v2 (.int .i64 0) <| .mk fun v4 =>
 qOr v4 h (.mk fun h k =>
 qLenS (nth a 1) <| .mk fun v5 =>
 qNeq v2 v5 <| .mk fun v6 =>
 k v6 h) <| .mk fun v7 h =>
 qOr v7 h (.mk fun h k =>
 qGtr v1 (nth a 2) <| .mk fun v8 =>
 k v8 h) <| .mk fun v9 h =>
 qIf v9 (.mk (
 qNil (nth a 0) <| .mk fun v10 =>
 qFadr 1 v10 <| .mk fun v11 =>
 qStore 1 v11 (.bool true) h <| .mk fun h =>
 k (.int .i64 0) h)) <| .mk (
 j3 (nth a 0) (nth a 1) (nth a 2) (.int .i64 0) v1 v2 v0 v1 v2 h)
theorem y177 {β : Type} (I : FI) (N : Nat) (call : FCall β) (a : List AV) (h : H) (k : K β) : fBody I 177 T.s177 N call a h k = f177 N call a h k := by kernel_rfl
noncomputable def f178_J8 {β : Type} (call : FCall β) (k : K β) (x0 x1 x2 x3 x4 x5 x6 x7 x8 x9 x10 : AV) (h : H) : Option β :=
 qBuild [(.int .i64 0), (.int .i64 0), (.int .i64 0), .nils] [(1, 1)] [x4] <| .mk fun v9 =>
 qCall call (.fn 200 []) [x0, v9] h <| .mk fun v10 h =>
 k v10 h
noncomputable def f178_J2 {β : Type} (call : FCall β) (k : K β) (x0 x1 x2 x3 x4 x5 x6 x7 x8 x9 x10 : AV) (h : H) : Option β :=
 qCall call (.fn 12 []) [x2] h <| .mk fun v3 h =>
 qExt 0 v3 <| .mk fun v4 =>
 qExt 1 v3 <| .mk fun v5 =>
 qExt 2 v3 <| .mk fun v6 =>
 qExt 3 v3 <| .mk fun v7 =>
 qJoin 11 (.mk (
 f178_J8 call k)) <| .mk fun j8 =>
 qNeq v7 (.int .i64 0) <| .mk fun v11 =>
 qOr v11 h (.mk fun h k =>
 qNeq v4 (.int .i64 1) <| .mk fun v12 =>
 k v12 h) <| .mk fun v13 h =>
 qIf v13 (.mk (
 qNil x0 <| .mk fun v14 =>
 qFadr 1 v14 <| .mk fun v15 =>
 qStore 1 v15 (.bool true) h <| .mk fun h =>
 k (.int .i64 0) h)) <| .mk (
 j8 x0 x1 x2 v4 v5 v7 v3 v4 v5 v6 v7 h)
noncomputable def f178_J1 {β : Type} (call : FCall β) (k : K β) (x0 x1 x2 x3 x4 x5 x6 x7 x8 x9 x10 : AV) (h : H) : Option β :=
 qJoin 11 (.mk (
 f178_J2 call k)) <| .mk fun j2 =>
 qSEql x2 (.str [40]) <| .mk fun v16 =>
 qIf v16 (.mk (
 qCall call (.fn 199 []) [x0] h <| .mk fun v17 h =>
 k v17 h)) <| .mk (
 qSEql x2 (.str [101, 114, 114, 111, 114]) <| .mk fun v18 =>
 qIf v18 (.mk (
 qBuild [(.int .i64 0), (.int .i64 0), (.int .i64 0), .nils] [(0, 1)] [(.int .i64 7)] <| .mk fun v19 =>
 qCall call (.fn 200 []) [x0, v19] h <| .mk fun v20 h =>
 k v20 h)) <| .mk (
 qIdxS x2 (.int .i64 0) <| .mk fun v21 =>
 qEql v21 (.int .u8 36) <| .mk fun v22 =>
 qIf v22 (.mk (
 qCall call (.fn 201 []) [x0, x2, (.int .u8 36), (.int .i64 8)] h <| .mk fun v23 h =>
 qBuild [(.int .i64 0), (.int .i64 0), (.int .i64 0), .nils] [(0, 1), (1, 1)] [(.int .i64 1), v23] <| .mk fun v24 =>
 qCall call (.fn 200 []) [x0, v24] h <| .mk fun v25 h =>
 k v25 h)) <| .mk (
 qIdxS x2 (.int .i64 0) <| .mk fun v26 =>
 qEql v26 (.int .u8 64) <| .mk fun v27 =>
 qIf v27 (.mk (
 qCall call (.fn 201 []) [x0, x2, (.int .u8 64), (.int .i64 99)] h <| .mk fun v28 h =>
 qBuild [(.int .i64 0), (.int .i64 0), (.int .i64 0), .nils] [(0, 1), (1, 1)] [(.int .i64 3), v28] <| .mk fun v29 =>
 qCall call (.fn 200 []) [x0, v29] h <| .mk fun v30 h =>
 k v30 h)) <| .mk (
 j2 x0 x1 x2 x3 x4 x5 x6 x7 x8 x9 x10 h))))
noncomputable def f178 {β : Type} (N : Nat) (call : FCall β) (a : List AV) (h : H) (k : K β) : Option β :=
 qCall call (.fn 176 []) [(nth a 0)] h <| .mk fun v0 h =>
 qJoin 11 (.mk (
 f178_J1 call k)) <| .mk fun j1 =>
 qNil (nth a 0) <| .mk fun v31 =>
 qFadr 1 v31 <| .mk fun v32 =>
 qLoad1 v32 h <| .mk fun v33 =>
 qOr v33 h (.mk fun h k =>
 qSEql v0 (.str []) <| .mk fun v34 =>
 k v34 h) <| .mk fun v35 h =>
 qOr v35 h (.mk fun h k =>
 qNil (nth a 0) <| .mk fun v36 =>
 qFadr 2 v36 <| .mk fun v37 =>
 qLoad1 v37 h <| .mk fun v38 =>
 qLenL v38 <| .mk fun v39 =>
 qGtr v39 (.int .i64 24) <| .mk fun v40 =>
 k v40 h) <| .mk fun v41 h =>
 qIf v41 (.mk (
 qNil (nth a 0) <| .mk fun v42 =>
 qFadr 1 v42 <| .mk fun v43 =>
 qStore 1 v43 (.bool true) h <| .mk fun h =>
 k (.int .i64 0) h)) <| .mk (
 j1 (nth a 0) (.int .i64 0) v0 (nth a 4) (nth a 5) (nth a 7) (nth a 60) (nth a 63) (nth a 64) (nth a 65) (nth a 66) h)
theorem y178 {β : Type} (I : FI) (N : Nat) (call : FCall β) (a : List AV) (h : H) (k : K β) : fBody I 178 T.s178 N call a h k = f178 N call a h k := by kernel_rfl
noncomputable def f199_J2 {β : Type} (k : K β) (x0 x1 x2 x3 x4 x5 x6 x7 x8 x9 x10 x11 x12 x13 : AV) (h : H) : Option β :=
 qNil x0 <| .mk fun v3 =>
 qFadr 1 v3 <| .mk fun v4 =>
 qStore 1 v4 (.bool true) h <| .mk fun h =>
 k (.int .i64 0) h
noncomputable def f199_J1 {β : Type} (call : FCall β) (k : K β) (x0 x1 x2 x3 x4 x5 x6 x7 x8 x9 x10 x11 x12 x13 : AV) (h : H) : Option β :=
 qJoin 14 (.mk (
 f199_J2 k)) <| .mk fun j2 =>
 qCall call (.fn 224 []) [x2] h <| .mk fun v5 h =>
 qGeq v5 (.int .i64 0) <| .mk fun v6 =>
 qIf v6 (.mk (
 qCall call (.fn 225 []) [x0, (.int .i64 2)] h <| .mk fun v7 h =>
 qCall call (.fn 224 []) [x2] h <| .mk fun v8 h =>
 qBuild [(.int .i64 0), (.int .i64 0), (.int .i64 0), .nils] [(0, 1), (1, 1), (3, 1)] [(.int .i64 4), v8, v7] <| .mk fun v9 =>
 qCall call (.fn 200 []) [x0, v9] h <| .mk fun v10 h =>
 k v10 h)) <| .mk (
 qSEql x2 (.str [99, 97, 115, 101]) <| .mk fun v11 =>
 qIf v11 (.mk (
 qCall call (.fn 178 []) [x0] h <| .mk fun v12 h =>
 qCall call (.fn 176 []) [x0] h <| .mk fun v13 h =>
 qCall call (.fn 201 []) [x0, v13, (.int .u8 64), (.int .i64 99)] h <| .mk fun v14 h =>
 qCall call (.fn 176 []) [x0] h <| .mk fun v15 h =>
 qCall call (.fn 177 []) [x0, v15, (.int .i64 3)] h <| .mk fun v16 h =>
 qBslice 0 [(.int .i64 0)] 1 [(0, 1)] [v12] h <| .mk fun v17 h =>
 qCall call (.fn 225 []) [x0, (.int .i64 2)] h <| .mk fun v18 h =>
 qApp 0 1 8 v17 v18 h <| .mk fun v19 h =>
 qBuild [(.int .i64 0), (.int .i64 0), (.int .i64 0), .nils] [(0, 1), (1, 1), (2, 1), (3, 1)] [(.int .i64 5), v14, v16, v19] <| .mk fun v20 =>
 qCall call (.fn 200 []) [x0, v20] h <| .mk fun v21 h =>
 k v21 h)) <| .mk (
 qSEql x2 (.str [108, 101, 116]) <| .mk fun v22 =>
 qIf v22 (.mk (
 qCall call (.fn 225 []) [x0, (.int .i64 2)] h <| .mk fun v23 h =>
 qBuild [(.int .i64 0), (.int .i64 0), (.int .i64 0), .nils] [(0, 1), (3, 1)] [(.int .i64 6), v23] <| .mk fun v24 =>
 qCall call (.fn 200 []) [x0, v24] h <| .mk fun v25 h =>
 k v25 h)) <| .mk (
 qIdxS x2 (.int .i64 0) <| .mk fun v26 =>
 qEql v26 (.int .u8 102) <| .mk fun v27 =>
 qIf v27 (.mk (
 qCall call (.fn 201 []) [x0, x2, (.int .u8 102), (.int .i64 7)] h <| .mk fun v28 h =>
 qCall call (.fn 225 []) [x0, (.int .i64 3)] h <| .mk fun v29 h =>
 qBuild [(.int .i64 0), (.int .i64 0), (.int .i64 0), .nils] [(0, 1), (1, 1), (3, 1)] [(.int .i64 2), v28, v29] <| .mk fun v30 =>
 qCall call (.fn 200 []) [x0, v30] h <| .mk fun v31 h =>
 k v31 h)) <| .mk (
 qIdxS x2 (.int .i64 0) <| .mk fun v32 =>
 qEql v32 (.int .u8 64) <| .mk fun v33 =>
 qIf v33 (.mk (
 qCall call (.fn 201 []) [x0, x2, (.int .u8 64), (.int .i64 99)] h <| .mk fun v34 h =>
 qCall call (.fn 225 []) [x0, (.int .i64 3)] h <| .mk fun v35 h =>
 qNil x0 <| .mk fun v36 =>
 qFadr 1 v36 <| .mk fun v37 =>
 qLoad1 v37 h <| .mk fun v38 =>
 qOr v38 h (.mk fun h k =>
 qLenL v35 <| .mk fun v39 =>
 qEql v39 (.int .i64 0) <| .mk fun v40 =>
 k v40 h) <| .mk fun v41 h =>
 qNil x0 <| .mk fun v42 =>
 qFadr 1 v42 <| .mk fun v43 =>
 qStore 1 v43 v41 h <| .mk fun h =>
 qBuild [(.int .i64 0), (.int .i64 0), (.int .i64 0), .nils] [(0, 1), (1, 1), (3, 1)] [(.int .i64 3), v34, v35] <| .mk fun v44 =>
 qCall call (.fn 200 []) [x0, v44] h <| .mk fun v45 h =>
 k v45 h)) <| .mk (
 j2 x0 x1 x2 x3 x4 x5 x6 x7 x8 x9 x10 x11 x12 x13 h)))))
noncomputable def f199 {β : Type} (N : Nat) (call : FCall β) (a : List AV) (h : H) (k : K β) : Option β :=
 qCall call (.fn 176 []) [(nth a 0)] h <| .mk fun v0 h =>
 qJoin 14 (.mk (
 f199_J1 call k)) <| .mk fun j1 =>
 qNil (nth a 0) <| .mk fun v46 =>
 qFadr 1 v46 <| .mk fun v47 =>
 qLoad1 v47 h <| .mk fun v48 =>
 qOr v48 h (.mk fun h k =>
 qSEql v0 (.str []) <| .mk fun v49 =>
 k v49 h) <| .mk fun v50 h =>
 qIf v50 (.mk (
 qNil (nth a 0) <| .mk fun v51 =>
 qFadr 1 v51 <| .mk fun v52 =>
 qStore 1 v52 (.bool true) h <| .mk fun h =>
 k (.int .i64 0) h)) <| .mk (
 j1 (nth a 0) (.int .i64 0) v0 (nth a 4) (nth a 5) (nth a 6) (nth a 7) (nth a 8) (nth a 9) (nth a 10) (nth a 11) (nth a 12) (nth a 13) (nth a 96) h)
theorem y199 {β : Type} (I : FI) (N : Nat) (call : FCall β) (a : List AV) (h : H) (k : K β) : fBody I 199 T.s199 N call a h k = f199 N call a h k := by kernel_rfl
noncomputable def f200 {β : Type} (N : Nat) (call : FCall β) (a : List AV) (h : H) (k : K β) : Option β :=
 qBox 0 (nth a 1) h <| .mk fun v0 h =>
 qNil (nth a 0) <| .mk fun v1 =>
 qFadr 2 v1 <| .mk fun v2 =>
 qLoad1 v2 h <| .mk fun v3 =>
 qLoadN 4 v0 h <| .mk fun v4 =>
 qBslice 0 [(.int .i64 0), (.int .i64 0), (.int .i64 0), .nils] 1 [(0, 4)] [v4] h <| .mk fun v5 h =>
 qLoad1 v2 h <| .mk fun v6 =>
 qChk v6 v3 <| .mk (
 qApp 0 4 48 v3 v5 h <| .mk fun v7 h =>
 qNil (nth a 0) <| .mk fun v8 =>
 qFadr 2 v8 <| .mk fun v9 =>
 qStore 1 v9 v7 h <| .mk fun h =>
 qNil (nth a 0) <| .mk fun v10 =>
 qFadr 2 v10 <| .mk fun v11 =>
 qLoad1 v11 h <| .mk fun v12 =>
 qLenL v12 <| .mk fun v13 =>
 qSub v13 (.int .i64 1) <| .mk fun v14 =>
 k v14 h)
theorem y200 {β : Type} (I : FI) (N : Nat) (call : FCall β) (a : List AV) (h : H) (k : K β) : fBody I 200 T.s200 N call a h k = f200 N call a h k := by kernel_rfl
noncomputable def f201_J0 {β : Type} (call : FCall β) (k : K β) (x0 x1 x2 x3 x4 : AV) (h : H) : Option β :=
 qSlS true false x1 [(.int .i64 1)] <| .mk fun v1 =>
 qCall call (.fn 177 []) [x0, v1, x3] h <| .mk fun v2 h =>
 k v2 h
noncomputable def f201 {β : Type} (N : Nat) (call : FCall β) (a : List AV) (h : H) (k : K β) : Option β :=
 qJoin 5 (.mk (
 f201_J0 call k)) <| .mk fun j0 =>
 qSEql (nth a 1) (.str []) <| .mk fun v3 =>
 qOr v3 h (.mk fun h k =>
 qIdxS (nth a 1) (.int .i64 0) <| .mk fun v4 =>
 qNeq v4 (nth a 2) <| .mk fun v5 =>
 k v5 h) <| .mk fun v6 h =>
 qIf v6 (.mk (
 qNil (nth a 0) <| .mk fun v7 =>
 qFadr 1 v7 <| .mk fun v8 =>
 qStore 1 v8 (.bool true) h <| .mk fun h =>
 k (.int .i64 0) h)) <| .mk (
 j0 (nth a 0) (nth a 1) (nth a 2) (nth a 3) (.int .i64 0) h)
theorem y201 {β : Type} (I : FI) (N : Nat) (call : FCall β) (a : List AV) (h : H) (k : K β) : fBody I 201 T.s201 N call a h k = f201 N call a h k := by kernel_rfl
noncomputable def f224_J1 {β : Type} (k : K β) (x0 x1 x2 x3 : AV) (h : H) : Option β :=
 k (.int .i64 (-1)) h
noncomputable def f224_J4 {β : Type} (l2 : Cur β 4) (x0 x1 x2 x3 : AV) (h : H) : Option β :=
 qAdd x3 (.int .i64 1) <| .mk fun v5 =>
 l2 x0 x1 x2 v5 h
noncomputable def f224_J3 {β : Type} (k : K β) (l2 : Cur β 4) (x0 x1 x2 x3 : AV) (h : H) : Option β :=
 qJoin 4 (.mk (
 f224_J4 l2)) <| .mk fun j4 =>
 qIadr 1 x2 x3 <| .mk fun v6 =>
 qLoad1 v6 h <| .mk fun v7 =>
 qSEql v7 x0 <| .mk fun v8 =>
 qIf v8 (.mk (
 k x3 h)) <| .mk (
 j4 x0 x1 x2 x3 h)
noncomputable def f224_L2 {β : Type} (k : K β) (j1 : Cur β 4) (l2 : Cur β 4) (x0 x1 x2 x3 : AV) (h : H) : Option β :=
 qJoin 4 (.mk (
 f224_J3 k l2)) <| .mk fun j3 =>
 qLenL x2 <| .mk fun v9 =>
 qLss x3 v9 <| .mk fun v10 =>
 qIf v10 (.mk (
 j3 x0 .any x2 x3 h)) <| .mk (
 j1 x0 .any x2 x3 h)
noncomputable def f224 {β : Type} (N : Nat) (call : FCall β) (a : List AV) (h : H) (k : K β) : Option β :=
 qBslice 0 [(.str []), (.str []), (.str []), (.str []), (.str [])] 5 [(0, 1), (1, 1), (2, 1), (3, 1), (4, 1)] [(.str [43]), (.str [45]), (.str [42]), (.str [61]), (.str [60])] h <| .mk fun v0 h =>
 qJoin 4 (.mk (
 f224_J1 k)) <| .mk fun j1 =>
 (qLoop 4 N <| .mk (
 f224_L2 k j1)) (nth a 0) (.int .i64 0) v0 (.int .i64 0) h
theorem y224 {β : Type} (I : FI) (N : Nat) (call : FCall β) (a : List AV) (h : H) (k : K β) : fBody I 224 T.s224 N call a h k = f224 N call a h k := by kernel_rfl
noncomputable def f225_J1 {β : Type} (k : K β) (x0 x1 x2 x3 x4 : AV) (h : H) : Option β :=
 k x3 h
noncomputable def f225_J0 {β : Type} (call : FCall β) (k : K β) (x0 x1 x2 x3 x4 : AV) (h : H) : Option β :=
 qJoin 5 (.mk (
 f225_J1 k)) <| .mk fun j1 =>
 qCall call (.fn 176 []) [x0] h <| .mk fun v2 h =>
 qSNeq v2 (.str [41]) <| .mk fun v3 =>
 qIf v3 (.mk (
 qNil x0 <| .mk fun v4 =>
 qFadr 1 v4 <| .mk fun v5 =>
 qStore 1 v5 (.bool true) h <| .mk fun h =>
 j1 x0 x1 x2 x3 x4 h)) <| .mk (
 j1 x0 x1 x2 x3 x4 h)
noncomputable def f225_J8 {β : Type} (call : FCall β) (l6 : Cur β 5) (x0 x1 x2 x3 x4 : AV) (h : H) : Option β :=
 qCall call (.fn 178 []) [x0] h <| .mk fun v9 h =>
 qBslice 0 [(.int .i64 0)] 1 [(0, 1)] [v9] h <| .mk fun v10 h =>
 qApp 0 1 8 x3 v10 h <| .mk fun v11 h =>
 l6 x0 x1 x2 v11 v9 h
noncomputable def f225_J7 {β : Type} (call : FCall β) (k : K β) (l6 : Cur β 5) (x0 x1 x2 x3 x4 : AV) (h : H) : Option β :=
 qJoin 5 (.mk (
 f225_J8 call l6)) <| .mk fun j8 =>
 qLenL x3 <| .mk fun v12 =>
 qEql v12 x1 <| .mk fun v13 =>
 qIf v13 (.mk (
 qNil x0 <| .mk fun v14 =>
 qFadr 1 v14 <| .mk fun v15 =>
 qStore 1 v15 (.bool true) h <| .mk fun h =>
 k x3 h)) <| .mk (
 j8 x0 x1 x2 x3 x4 h)
noncomputable def f225_L6 {β : Type} (call : FCall β) (k : K β) (j0 : Cur β 5) (l6 : Cur β 5) (x0 x1 x2 x3 x4 : AV) (h : H) : Option β :=
 qJoin 5 (.mk (
 f225_J7 call k l6)) <| .mk fun j7 =>
 qNil x0 <| .mk fun v16 =>
 qFadr 1 v16 <| .mk fun v17 =>
 qLoad1 v17 h <| .mk fun v18 =>
 qNot v18 <| .mk fun v19 =>
 qAnd v19 h (.mk fun h k =>
 qNil x0 <| .mk fun v20 =>
 qFadr 0 v20 <| .mk fun v21 =>
 qLoad1 v21 h <| .mk fun v22 =>
 qLenL v22 <| .mk fun v23 =>
 qGtr v23 (.int .i64 0) <| .mk fun v24 =>
 k v24 h) <| .mk fun v25 h =>
 qAnd v25 h (.mk fun h k =>
 qNil x0 <| .mk fun v26 =>
 qFadr 0 v26 <| .mk fun v27 =>
 qLoad1 v27 h <| .mk fun v28 =>
 qIadr 1 v28 (.int .i64 0) <| .mk fun v29 =>
 qLoad1 v29 h <| .mk fun v30 =>
 qSNeq v30 (.str [41]) <| .mk fun v31 =>
 k v31 h) <| .mk fun v32 h =>
 qIf v32 (.mk (
 j7 x0 x1 .any x3 .any h)) <| .mk (
 j0 x0 x1 .any x3 .any h)
noncomputable def f225 {β : Type} (N : Nat) (call : FCall β) (a : List AV) (h : H) (k : K β) : Option β :=
 qJoin 5 (.mk (
 f225_J0 call k)) <| .mk fun j0 =>
 (qLoop 5 N <| .mk (
 f225_L6 call k j0)) (nth a 0) (nth a 1) .nils .nils (nth a 6) h
theorem y225 {β : Type} (I : FI) (N : Nat) (call : FCall β) (a : List AV) (h : H) (k : K β) : fBody I 225 T.s225 N call a h k = f225 N call a h k := by kernel_rfl
noncomputable def e148 : Ent := ⟨148, T.s148, fun _ _ N call a h k => f148 N call a h k, fun _ I N call a h k => y148 I N call a h k⟩
noncomputable def e175 : Ent := ⟨175, T.s175, fun _ _ N call a h k => f175 N call a h k, fun _ I N call a h k => y175 I N call a h k⟩
noncomputable def e176 : Ent := ⟨176, T.s176, fun _ _ N call a h k => f176 N call a h k, fun _ I N call a h k => y176 I N call a h k⟩
noncomputable def e177 : Ent := ⟨177, T.s177, fun _ _ N call a h k => f177 N call a h k, fun _ I N call a h k => y177 I N call a h k⟩
noncomputable def e178 : Ent := ⟨178, T.s178, fun _ _ N call a h k => f178 N call a h k, fun _ I N call a h k => y178 I N call a h k⟩
noncomputable def e199 : Ent := ⟨199, T.s199, fun _ _ N call a h k => f199 N call a h k, fun _ I N call a h k => y199 I N call a h k⟩
noncomputable def e200 : Ent := ⟨200, T.s200, fun _ _ N call a h k => f200 N call a h k, fun _ I N call a h k => y200 I N call a h k⟩
noncomputable def e201 : Ent := ⟨201, T.s201, fun _ _ N call a h k => f201 N call a h k, fun _ I N call a h k => y201 I N call a h k⟩
noncomputable def e224 : Ent := ⟨224, T.s224, fun _ _ N call a h k => f224 N call a h k, fun _ I N call a h k => y224 I N call a h k⟩
noncomputable def e225 : Ent := ⟨225, T.s225, fun _ _ N call a h k => f225 N call a h k, fun _ I N call a h k => y225 I N call a h k⟩
structure GPR (t : ETree) : Prop where
  g148 : t.get 148 = some e148
  g175 : t.get 175 = some e175
  g176 : t.get 176 = some e176
  g177 : t.get 177 = some e177
  g178 : t.get 178 = some e178
  g199 : t.get 199 = some e199
  g200 : t.get 200 = some e200
  g201 : t.get 201 = some e201
  g224 : t.get 224 = some e224
  g225 : t.get 225 = some e225
section
variable {β : Type} {t : ETree} {I : FI}
end
end Am.F
