/- What the functions come to. -/
import Derived.Test.YtpalaplnolcimaaGreatDoorAmGPT
import Derived.Test.YtpalaplnolcimaaGreatDoorAmJc
set_option maxRecDepth 100000
set_option linter.unusedVariables false
namespace Am.F
open Go Am
noncomputable def f135_J2 {β : Type} (k : K β) (x0 x1 x2 x3 x4 : AV) (h : H) : Option β :=
 qBuild [.nils] [(0, 1)] [x3] <| .mk fun v3 =>
 qStore 1 x2 v3 h <| .mk fun h =>
 qLoadN 1 x2 h <| .mk fun v4 =>
 k v4 h
noncomputable def f135_J7 {β : Type} (l5 : Cur β 5) (x0 x1 x2 x3 x4 : AV) (h : H) : Option β :=
 qAdd x4 (.int .i64 1) <| .mk fun v8 =>
 l5 x0 x1 x2 x3 v8 h
noncomputable def f135_J6 {β : Type} (call : FCall β) (l5 : Cur β 5) (x0 x1 x2 x3 x4 : AV) (h : H) : Option β :=
 qJoin 5 (.mk (
 f135_J7 l5)) <| .mk fun j7 =>
 qFadr 0 x1 <| .mk fun v9 =>
 qLoad1 v9 h <| .mk fun v10 =>
 qIadr 2 v10 x4 <| .mk fun v11 =>
 qLoadN 2 v11 h <| .mk fun v12 =>
 qCall call (.fn 156 []) [v12] h <| .mk fun v13 h =>
 qBslice 0 [(.int .i64 0), .nils] 1 [(0, 2)] [v13] h <| .mk fun v14 h =>
 qApp 0 2 32 x3 v14 h <| .mk fun v15 h =>
 j7 x0 x1 x2 v15 x4 h
noncomputable def f135_L5 {β : Type} (call : FCall β) (j2 : Cur β 5) (l5 : Cur β 5) (x0 x1 x2 x3 x4 : AV) (h : H) : Option β :=
 qJoin 5 (.mk (
 f135_J6 call l5)) <| .mk fun j6 =>
 qFadr 0 x1 <| .mk fun v16 =>
 qLoad1 v16 h <| .mk fun v17 =>
 qLenL v17 <| .mk fun v18 =>
 qLss x4 v18 <| .mk fun v19 =>
 qIf v19 (.mk (
 j6 .any x1 x2 x3 x4 h)) <| .mk (
 j2 .any x1 x2 x3 x4 h)
noncomputable def f135_sleuthlaw0_CopyProgram {β : Type} (N : Nat) (call : FCall β) (a : List AV) (h : H) (k : K β) : Option β :=
 qBox 0 (nth a 0) h <| .mk fun v0 h =>
 qAlloc 0 [.nils] h <| .mk fun v1 h =>
 qJoin 5 (.mk (
 f135_J2 k)) <| .mk fun j2 =>
 (qLoop 5 N <| .mk (
 f135_L5 call j2)) (nth a 0) v0 v1 .nils (.int .i64 0) h
theorem e135_sleuthlaw0_CopyProgram {β : Type} (I : FI) (N : Nat) (call : FCall β) (a : List AV) (h : H) (k : K β) : fBody I 135 T.s135_sleuthlaw0_CopyProgram N call a h k = f135_sleuthlaw0_CopyProgram N call a h k := by kernel_rfl
noncomputable def f138_J1 {β : Type} (k : K β) (x0 x1 x2 x3 x4 : AV) (h : H) : Option β :=
 k (.bool true) h
noncomputable def f138_J4 {β : Type} (l2 : Cur β 5) (x0 x1 x2 x3 x4 : AV) (h : H) : Option β :=
 qAdd x3 (.int .i64 1) <| .mk fun v5 =>
 l2 x0 x1 x2 v5 x4 h
noncomputable def f138_J3 {β : Type} (call : FCall β) (k : K β) (l2 : Cur β 5) (x0 x1 x2 x3 x4 : AV) (h : H) : Option β :=
 qJoin 5 (.mk (
 f138_J4 l2)) <| .mk fun j4 =>
 qIadr 4 x0 x3 <| .mk fun v6 =>
 qLoadN 4 v6 h <| .mk fun v7 =>
 qIadr 4 x1 x3 <| .mk fun v8 =>
 qLoadN 4 v8 h <| .mk fun v9 =>
 qCall call (.fn 166 []) [v7, v9] h <| .mk fun v10 h =>
 qNot v10 <| .mk fun v11 =>
 qIf v11 (.mk (
 k (.bool false) h)) <| .mk (
 j4 x0 x1 x2 x3 v11 h)
noncomputable def f138_L2 {β : Type} (call : FCall β) (k : K β) (j1 : Cur β 5) (l2 : Cur β 5) (x0 x1 x2 x3 x4 : AV) (h : H) : Option β :=
 qJoin 5 (.mk (
 f138_J3 call k l2)) <| .mk fun j3 =>
 qLenL x0 <| .mk fun v12 =>
 qLss x3 v12 <| .mk fun v13 =>
 qIf v13 (.mk (
 j3 x0 x1 .any x3 .any h)) <| .mk (
 j1 x0 x1 .any x3 .any h)
noncomputable def f138_J0 {β : Type} (N : Nat) (call : FCall β) (k : K β) (x0 x1 x2 x3 x4 : AV) (h : H) : Option β :=
 qJoin 5 (.mk (
 f138_J1 k)) <| .mk fun j1 =>
 (qLoop 5 N <| .mk (
 f138_L2 call k j1)) x0 x1 x2 (.int .i64 0) x4 h
noncomputable def f138_sleuthlaw0_SameNodes {β : Type} (N : Nat) (call : FCall β) (a : List AV) (h : H) (k : K β) : Option β :=
 qJoin 5 (.mk (
 f138_J0 N call k)) <| .mk fun j0 =>
 qLenL (nth a 0) <| .mk fun v14 =>
 qLenL (nth a 1) <| .mk fun v15 =>
 qNeq v14 v15 <| .mk fun v16 =>
 qIf v16 (.mk (
 k (.bool false) h)) <| .mk (
 j0 (nth a 0) (nth a 1) (.bool false) (nth a 5) (nth a 26) h)
theorem e138_sleuthlaw0_SameNodes {β : Type} (I : FI) (N : Nat) (call : FCall β) (a : List AV) (h : H) (k : K β) : fBody I 138 T.s138_sleuthlaw0_SameNodes N call a h k = f138_sleuthlaw0_SameNodes N call a h k := by kernel_rfl
noncomputable def f140_J3 {β : Type} (k : K β) (x0 x1 x2 x3 x4 x5 x6 : AV) (h : H) : Option β :=
 k (.bool true) h
noncomputable def f140_J6 {β : Type} (l4 : Cur β 7) (x0 x1 x2 x3 x4 x5 x6 : AV) (h : H) : Option β :=
 qAdd x5 (.int .i64 1) <| .mk fun v7 =>
 l4 x0 x1 x2 x3 x4 v7 x6 h
noncomputable def f140_J5 {β : Type} (call : FCall β) (k : K β) (l4 : Cur β 7) (x0 x1 x2 x3 x4 x5 x6 : AV) (h : H) : Option β :=
 qJoin 7 (.mk (
 f140_J6 l4)) <| .mk fun j6 =>
 qFadr 0 x2 <| .mk fun v8 =>
 qLoad1 v8 h <| .mk fun v9 =>
 qIadr 2 v9 x5 <| .mk fun v10 =>
 qLoadN 2 v10 h <| .mk fun v11 =>
 qFadr 0 x3 <| .mk fun v12 =>
 qLoad1 v12 h <| .mk fun v13 =>
 qIadr 2 v13 x5 <| .mk fun v14 =>
 qLoadN 2 v14 h <| .mk fun v15 =>
 qCall call (.fn 167 []) [v11, v15] h <| .mk fun v16 h =>
 qNot v16 <| .mk fun v17 =>
 qIf v17 (.mk (
 k (.bool false) h)) <| .mk (
 j6 x0 x1 x2 x3 x4 x5 v17 h)
noncomputable def f140_L4 {β : Type} (call : FCall β) (k : K β) (j3 : Cur β 7) (l4 : Cur β 7) (x0 x1 x2 x3 x4 x5 x6 : AV) (h : H) : Option β :=
 qJoin 7 (.mk (
 f140_J5 call k l4)) <| .mk fun j5 =>
 qFadr 0 x2 <| .mk fun v18 =>
 qLoad1 v18 h <| .mk fun v19 =>
 qLenL v19 <| .mk fun v20 =>
 qLss x5 v20 <| .mk fun v21 =>
 qIf v21 (.mk (
 j5 .any .any x2 x3 .any x5 .any h)) <| .mk (
 j3 .any .any x2 x3 .any x5 .any h)
noncomputable def f140_J2 {β : Type} (N : Nat) (call : FCall β) (k : K β) (x0 x1 x2 x3 x4 x5 x6 : AV) (h : H) : Option β :=
 qJoin 7 (.mk (
 f140_J3 k)) <| .mk fun j3 =>
 (qLoop 7 N <| .mk (
 f140_L4 call k j3)) x0 x1 x2 x3 x4 (.int .i64 0) x6 h
noncomputable def f140_sleuthlaw0_SameProgram {β : Type} (N : Nat) (call : FCall β) (a : List AV) (h : H) (k : K β) : Option β :=
 qBox 0 (nth a 0) h <| .mk fun v0 h =>
 qBox 0 (nth a 1) h <| .mk fun v1 h =>
 qJoin 7 (.mk (
 f140_J2 N call k)) <| .mk fun j2 =>
 qFadr 0 v0 <| .mk fun v22 =>
 qLoad1 v22 h <| .mk fun v23 =>
 qLenL v23 <| .mk fun v24 =>
 qFadr 0 v1 <| .mk fun v25 =>
 qLoad1 v25 h <| .mk fun v26 =>
 qLenL v26 <| .mk fun v27 =>
 qNeq v24 v27 <| .mk fun v28 =>
 qIf v28 (.mk (
 k (.bool false) h)) <| .mk (
 j2 (nth a 0) (nth a 1) v0 v1 (.bool false) (nth a 5) (nth a 31) h)
theorem e140_sleuthlaw0_SameProgram {β : Type} (I : FI) (N : Nat) (call : FCall β) (a : List AV) (h : H) (k : K β) : fBody I 140 T.s140_sleuthlaw0_SameProgram N call a h k = f140_sleuthlaw0_SameProgram N call a h k := by kernel_rfl
noncomputable def f156_J2 {β : Type} (k : K β) (x0 x1 x2 x3 x4 x5 x6 : AV) (h : H) : Option β :=
 qFadr 1 x1 <| .mk fun v3 =>
 qStore 1 v3 x3 h <| .mk fun h =>
 qLoadN 2 x1 h <| .mk fun v4 =>
 qStore 2 x2 v4 h <| .mk fun h =>
 qLoadN 2 x2 h <| .mk fun v5 =>
 k v5 h
noncomputable def f156_J8 {β : Type} (l6 : Cur β 7) (x0 x1 x2 x3 x4 x5 x6 : AV) (h : H) : Option β :=
 qAdd x4 (.int .i64 1) <| .mk fun v9 =>
 l6 x0 x1 x2 x3 v9 x5 x6 h
noncomputable def f156_J7 {β : Type} (l6 : Cur β 7) (x0 x1 x2 x3 x4 x5 x6 : AV) (h : H) : Option β :=
 qJoin 7 (.mk (
 f156_J8 l6)) <| .mk fun j8 =>
 qFadr 1 x1 <| .mk fun v10 =>
 qLoad1 v10 h <| .mk fun v11 =>
 qIadr 4 v11 x4 <| .mk fun v12 =>
 qLoadN 4 v12 h <| .mk fun v13 =>
 qAlloc 0 [(.int .i64 0), (.int .i64 0), (.int .i64 0), .nils] h <| .mk fun v14 h =>
 qStore 4 v14 v13 h <| .mk fun h =>
 qBslice 0 [] 0 [] [] h <| .mk fun v15 h =>
 qFadr 3 v14 <| .mk fun v16 =>
 qLoad1 v16 h <| .mk fun v17 =>
 qApp 0 1 8 v15 v17 h <| .mk fun v18 h =>
 qFadr 3 v14 <| .mk fun v19 =>
 qStore 1 v19 v18 h <| .mk fun h =>
 qLoadN 4 v14 h <| .mk fun v20 =>
 qBslice 0 [(.int .i64 0), (.int .i64 0), (.int .i64 0), .nils] 1 [(0, 4)] [v20] h <| .mk fun v21 h =>
 qApp 0 4 48 x3 v21 h <| .mk fun v22 h =>
 j8 x0 x1 x2 v22 x4 v14 v13 h
noncomputable def f156_L6 {β : Type} (j2 : Cur β 7) (l6 : Cur β 7) (x0 x1 x2 x3 x4 x5 x6 : AV) (h : H) : Option β :=
 qJoin 7 (.mk (
 f156_J7 l6)) <| .mk fun j7 =>
 qFadr 1 x1 <| .mk fun v23 =>
 qLoad1 v23 h <| .mk fun v24 =>
 qLenL v24 <| .mk fun v25 =>
 qLss x4 v25 <| .mk fun v26 =>
 qIf v26 (.mk (
 j7 .any x1 x2 x3 x4 .any .any h)) <| .mk (
 j2 .any x1 x2 x3 x4 .any .any h)
noncomputable def f156_sleuthlaw0_CopyDef {β : Type} (N : Nat) (call : FCall β) (a : List AV) (h : H) (k : K β) : Option β :=
 qBox 0 (nth a 0) h <| .mk fun v0 h =>
 qAlloc 0 [(.int .i64 0), .nils] h <| .mk fun v1 h =>
 qJoin 7 (.mk (
 f156_J2 k)) <| .mk fun j2 =>
 (qLoop 7 N <| .mk (
 f156_L6 j2)) (nth a 0) v0 v1 .nils (.int .i64 0) (nth a 5) (nth a 17) h
theorem e156_sleuthlaw0_CopyDef {β : Type} (I : FI) (N : Nat) (call : FCall β) (a : List AV) (h : H) (k : K β) : fBody I 156 T.s156_sleuthlaw0_CopyDef N call a h k = f156_sleuthlaw0_CopyDef N call a h k := by kernel_rfl
noncomputable def f167_sleuthlaw0_SameDef {β : Type} (N : Nat) (call : FCall β) (a : List AV) (h : H) (k : K β) : Option β :=
 qBox 0 (nth a 0) h <| .mk fun v0 h =>
 qBox 0 (nth a 1) h <| .mk fun v1 h =>
 qFadr 0 v0 <| .mk fun v2 =>
 qLoad1 v2 h <| .mk fun v3 =>
 qFadr 0 v1 <| .mk fun v4 =>
 qLoad1 v4 h <| .mk fun v5 =>
 qEql v3 v5 <| .mk fun v6 =>
 qAnd v6 h (.mk fun h k =>
 qFadr 1 v0 <| .mk fun v7 =>
 qLoad1 v7 h <| .mk fun v8 =>
 qFadr 1 v1 <| .mk fun v9 =>
 qLoad1 v9 h <| .mk fun v10 =>
 qCall call (.fn 194 []) [v8, v10] h <| .mk fun v11 h =>
 k v11 h) <| .mk fun v12 h =>
 k v12 h
theorem e167_sleuthlaw0_SameDef {β : Type} (I : FI) (N : Nat) (call : FCall β) (a : List AV) (h : H) (k : K β) : fBody I 167 T.s167_sleuthlaw0_SameDef N call a h k = f167_sleuthlaw0_SameDef N call a h k := by kernel_rfl
noncomputable def f194_J1 {β : Type} (k : K β) (x0 x1 x2 x3 x4 : AV) (h : H) : Option β :=
 k (.bool true) h
noncomputable def f194_J4 {β : Type} (l2 : Cur β 5) (x0 x1 x2 x3 x4 : AV) (h : H) : Option β :=
 qAdd x3 (.int .i64 1) <| .mk fun v5 =>
 l2 x0 x1 x2 v5 x4 h
noncomputable def f194_J3 {β : Type} (call : FCall β) (k : K β) (l2 : Cur β 5) (x0 x1 x2 x3 x4 : AV) (h : H) : Option β :=
 qJoin 5 (.mk (
 f194_J4 l2)) <| .mk fun j4 =>
 qIadr 4 x0 x3 <| .mk fun v6 =>
 qFadr 0 v6 <| .mk fun v7 =>
 qLoad1 v7 h <| .mk fun v8 =>
 qIadr 4 x1 x3 <| .mk fun v9 =>
 qFadr 0 v9 <| .mk fun v10 =>
 qLoad1 v10 h <| .mk fun v11 =>
 qNeq v8 v11 <| .mk fun v12 =>
 qGrd v12 false h (.mk fun h k =>
 k x0 h) <| .mk fun v13 h =>
 qGrd v12 false h (.mk fun h k =>
 k x3 h) <| .mk fun v14 h =>
 qGrd v12 false h (.mk fun h k =>
 qIadr 4 v13 v14 <| .mk fun v15 =>
 k v15 h) <| .mk fun v16 h =>
 qGrd v12 false h (.mk fun h k =>
 qFadr 1 v16 <| .mk fun v17 =>
 k v17 h) <| .mk fun v18 h =>
 qGrd v12 false h (.mk fun h k =>
 qLoad1 v18 h <| .mk fun v19 =>
 k v19 h) <| .mk fun v20 h =>
 qGrd v12 false h (.mk fun h k =>
 k x1 h) <| .mk fun v21 h =>
 qGrd v12 false h (.mk fun h k =>
 k x3 h) <| .mk fun v22 h =>
 qGrd v12 false h (.mk fun h k =>
 qIadr 4 v21 v22 <| .mk fun v23 =>
 k v23 h) <| .mk fun v24 h =>
 qGrd v12 false h (.mk fun h k =>
 qFadr 1 v24 <| .mk fun v25 =>
 k v25 h) <| .mk fun v26 h =>
 qGrd v12 false h (.mk fun h k =>
 qLoad1 v26 h <| .mk fun v27 =>
 k v27 h) <| .mk fun v28 h =>
 qGrd v12 false h (.mk fun h k =>
 qNeq v20 v28 <| .mk fun v29 =>
 k v29 h) <| .mk fun v30 h =>
 qPick v12 (.bool true) v30 <| .mk fun v31 =>
 qGrd v31 false h (.mk fun h k =>
 k x0 h) <| .mk fun v32 h =>
 qGrd v31 false h (.mk fun h k =>
 k x3 h) <| .mk fun v33 h =>
 qGrd v31 false h (.mk fun h k =>
 qIadr 4 v32 v33 <| .mk fun v34 =>
 k v34 h) <| .mk fun v35 h =>
 qGrd v31 false h (.mk fun h k =>
 qFadr 2 v35 <| .mk fun v36 =>
 k v36 h) <| .mk fun v37 h =>
 qGrd v31 false h (.mk fun h k =>
 qLoad1 v37 h <| .mk fun v38 =>
 k v38 h) <| .mk fun v39 h =>
 qGrd v31 false h (.mk fun h k =>
 k x1 h) <| .mk fun v40 h =>
 qGrd v31 false h (.mk fun h k =>
 k x3 h) <| .mk fun v41 h =>
 qGrd v31 false h (.mk fun h k =>
 qIadr 4 v40 v41 <| .mk fun v42 =>
 k v42 h) <| .mk fun v43 h =>
 qGrd v31 false h (.mk fun h k =>
 qFadr 2 v43 <| .mk fun v44 =>
 k v44 h) <| .mk fun v45 h =>
 qGrd v31 false h (.mk fun h k =>
 qLoad1 v45 h <| .mk fun v46 =>
 k v46 h) <| .mk fun v47 h =>
 qGrd v31 false h (.mk fun h k =>
 qNeq v39 v47 <| .mk fun v48 =>
 k v48 h) <| .mk fun v49 h =>
 qPick v31 (.bool true) v49 <| .mk fun v50 =>
 qGrd v50 false h (.mk fun h k =>
 k x0 h) <| .mk fun v51 h =>
 qGrd v50 false h (.mk fun h k =>
 k x3 h) <| .mk fun v52 h =>
 qGrd v50 false h (.mk fun h k =>
 qIadr 4 v51 v52 <| .mk fun v53 =>
 k v53 h) <| .mk fun v54 h =>
 qGrd v50 false h (.mk fun h k =>
 qFadr 3 v54 <| .mk fun v55 =>
 k v55 h) <| .mk fun v56 h =>
 qGrd v50 false h (.mk fun h k =>
 qLoad1 v56 h <| .mk fun v57 =>
 k v57 h) <| .mk fun v58 h =>
 qGrd v50 false h (.mk fun h k =>
 k x1 h) <| .mk fun v59 h =>
 qGrd v50 false h (.mk fun h k =>
 k x3 h) <| .mk fun v60 h =>
 qGrd v50 false h (.mk fun h k =>
 qIadr 4 v59 v60 <| .mk fun v61 =>
 k v61 h) <| .mk fun v62 h =>
 qGrd v50 false h (.mk fun h k =>
 qFadr 3 v62 <| .mk fun v63 =>
 k v63 h) <| .mk fun v64 h =>
 qGrd v50 false h (.mk fun h k =>
 qLoad1 v64 h <| .mk fun v65 =>
 k v65 h) <| .mk fun v66 h =>
 qGrd v50 false h (.mk fun h k =>
 qCall call (.fn 223 []) [v58, v66] h <| .mk fun v67 h =>
 k v67 h) <| .mk fun v68 h =>
 qGrd v50 false h (.mk fun h k =>
 qNot v68 <| .mk fun v69 =>
 k v69 h) <| .mk fun v70 h =>
 qPick v50 (.bool true) v70 <| .mk fun v71 =>
 qIf v71 (.mk (
 k (.bool false) h)) <| .mk (
 j4 x0 x1 x2 x3 v71 h)
noncomputable def f194_L2 {β : Type} (call : FCall β) (k : K β) (j1 : Cur β 5) (l2 : Cur β 5) (x0 x1 x2 x3 x4 : AV) (h : H) : Option β :=
 qJoin 5 (.mk (
 f194_J3 call k l2)) <| .mk fun j3 =>
 qLenL x0 <| .mk fun v72 =>
 qLss x3 v72 <| .mk fun v73 =>
 qIf v73 (.mk (
 j3 x0 x1 .any x3 .any h)) <| .mk (
 j1 x0 x1 .any x3 .any h)
noncomputable def f194_J0 {β : Type} (N : Nat) (call : FCall β) (k : K β) (x0 x1 x2 x3 x4 : AV) (h : H) : Option β :=
 qJoin 5 (.mk (
 f194_J1 k)) <| .mk fun j1 =>
 (qLoop 5 N <| .mk (
 f194_L2 call k j1)) x0 x1 x2 (.int .i64 0) x4 h
noncomputable def f194_sleuthlaw0_SameExprs {β : Type} (N : Nat) (call : FCall β) (a : List AV) (h : H) (k : K β) : Option β :=
 qJoin 5 (.mk (
 f194_J0 N call k)) <| .mk fun j0 =>
 qLenL (nth a 0) <| .mk fun v74 =>
 qLenL (nth a 1) <| .mk fun v75 =>
 qNeq v74 v75 <| .mk fun v76 =>
 qIf v76 (.mk (
 k (.bool false) h)) <| .mk (
 j0 (nth a 0) (nth a 1) (.bool false) (nth a 5) (nth a 67) h)
theorem e194_sleuthlaw0_SameExprs {β : Type} (I : FI) (N : Nat) (call : FCall β) (a : List AV) (h : H) (k : K β) : fBody I 194 T.s194_sleuthlaw0_SameExprs N call a h k = f194_sleuthlaw0_SameExprs N call a h k := by kernel_rfl
noncomputable def f223_J1 {β : Type} (k : K β) (x0 x1 x2 x3 x4 : AV) (h : H) : Option β :=
 k (.bool true) h
noncomputable def f223_J4 {β : Type} (l2 : Cur β 5) (x0 x1 x2 x3 x4 : AV) (h : H) : Option β :=
 qAdd x3 (.int .i64 1) <| .mk fun v5 =>
 l2 x0 x1 x2 v5 x4 h
noncomputable def f223_J3 {β : Type} (k : K β) (l2 : Cur β 5) (x0 x1 x2 x3 x4 : AV) (h : H) : Option β :=
 qJoin 5 (.mk (
 f223_J4 l2)) <| .mk fun j4 =>
 qIadr 1 x0 x3 <| .mk fun v6 =>
 qLoad1 v6 h <| .mk fun v7 =>
 qIadr 1 x1 x3 <| .mk fun v8 =>
 qLoad1 v8 h <| .mk fun v9 =>
 qNeq v7 v9 <| .mk fun v10 =>
 qIf v10 (.mk (
 k (.bool false) h)) <| .mk (
 j4 x0 x1 x2 x3 v10 h)
noncomputable def f223_L2 {β : Type} (k : K β) (j1 : Cur β 5) (l2 : Cur β 5) (x0 x1 x2 x3 x4 : AV) (h : H) : Option β :=
 qJoin 5 (.mk (
 f223_J3 k l2)) <| .mk fun j3 =>
 qLenL x0 <| .mk fun v11 =>
 qLss x3 v11 <| .mk fun v12 =>
 qIf v12 (.mk (
 j3 x0 x1 .any x3 .any h)) <| .mk (
 j1 x0 x1 .any x3 .any h)
noncomputable def f223_J0 {β : Type} (N : Nat) (k : K β) (x0 x1 x2 x3 x4 : AV) (h : H) : Option β :=
 qJoin 5 (.mk (
 f223_J1 k)) <| .mk fun j1 =>
 (qLoop 5 N <| .mk (
 f223_L2 k j1)) x0 x1 x2 (.int .i64 0) x4 h
noncomputable def f223_sleuthlaw0_SameInts {β : Type} (N : Nat) (call : FCall β) (a : List AV) (h : H) (k : K β) : Option β :=
 qJoin 5 (.mk (
 f223_J0 N k)) <| .mk fun j0 =>
 qLenL (nth a 0) <| .mk fun v13 =>
 qLenL (nth a 1) <| .mk fun v14 =>
 qNeq v13 v14 <| .mk fun v15 =>
 qIf v15 (.mk (
 k (.bool false) h)) <| .mk (
 j0 (nth a 0) (nth a 1) (.bool false) (nth a 5) (nth a 25) h)
theorem e223_sleuthlaw0_SameInts {β : Type} (I : FI) (N : Nat) (call : FCall β) (a : List AV) (h : H) (k : K β) : fBody I 223 T.s223_sleuthlaw0_SameInts N call a h k = f223_sleuthlaw0_SameInts N call a h k := by kernel_rfl
noncomputable def e135 : Ent := ⟨135, T.s135_sleuthlaw0_CopyProgram, fun _ _ N call a h k => f135_sleuthlaw0_CopyProgram N call a h k, fun _ I N call a h k => e135_sleuthlaw0_CopyProgram I N call a h k⟩
noncomputable def e138 : Ent := ⟨138, T.s138_sleuthlaw0_SameNodes, fun _ _ N call a h k => f138_sleuthlaw0_SameNodes N call a h k, fun _ I N call a h k => e138_sleuthlaw0_SameNodes I N call a h k⟩
noncomputable def e140 : Ent := ⟨140, T.s140_sleuthlaw0_SameProgram, fun _ _ N call a h k => f140_sleuthlaw0_SameProgram N call a h k, fun _ I N call a h k => e140_sleuthlaw0_SameProgram I N call a h k⟩
noncomputable def e156 : Ent := ⟨156, T.s156_sleuthlaw0_CopyDef, fun _ _ N call a h k => f156_sleuthlaw0_CopyDef N call a h k, fun _ I N call a h k => e156_sleuthlaw0_CopyDef I N call a h k⟩
noncomputable def e167 : Ent := ⟨167, T.s167_sleuthlaw0_SameDef, fun _ _ N call a h k => f167_sleuthlaw0_SameDef N call a h k, fun _ I N call a h k => e167_sleuthlaw0_SameDef I N call a h k⟩
noncomputable def e194 : Ent := ⟨194, T.s194_sleuthlaw0_SameExprs, fun _ _ N call a h k => f194_sleuthlaw0_SameExprs N call a h k, fun _ I N call a h k => e194_sleuthlaw0_SameExprs I N call a h k⟩
noncomputable def e223 : Ent := ⟨223, T.s223_sleuthlaw0_SameInts, fun _ _ N call a h k => f223_sleuthlaw0_SameInts N call a h k, fun _ I N call a h k => e223_sleuthlaw0_SameInts I N call a h k⟩
structure GP (t : ETree) : Prop where
  g135 : t.get 135 = some e135
  g138 : t.get 138 = some e138
  g140 : t.get 140 = some e140
  g156 : t.get 156 = some e156
  g167 : t.get 167 = some e167
  g194 : t.get 194 = some e194
  g223 : t.get 223 = some e223
section
variable {β : Type} {t : ETree} {I : FI}
theorem GP.c135 (T : GP t) (n : Nat) (a : List AV) (h : H) (k : K β) : fRunS t I (n + 1) (.fn 135 []) a h k = f135_sleuthlaw0_CopyProgram n (fRunS t I n) a h k := by rw [fRunS_succ t I n 135 [] a h k T.g135, List.append_nil]; rfl
theorem GP.c138 (T : GP t) (n : Nat) (a : List AV) (h : H) (k : K β) : fRunS t I (n + 1) (.fn 138 []) a h k = f138_sleuthlaw0_SameNodes n (fRunS t I n) a h k := by rw [fRunS_succ t I n 138 [] a h k T.g138, List.append_nil]; rfl
theorem GP.c140 (T : GP t) (n : Nat) (a : List AV) (h : H) (k : K β) : fRunS t I (n + 1) (.fn 140 []) a h k = f140_sleuthlaw0_SameProgram n (fRunS t I n) a h k := by rw [fRunS_succ t I n 140 [] a h k T.g140, List.append_nil]; rfl
theorem GP.c156 (T : GP t) (n : Nat) (a : List AV) (h : H) (k : K β) : fRunS t I (n + 1) (.fn 156 []) a h k = f156_sleuthlaw0_CopyDef n (fRunS t I n) a h k := by rw [fRunS_succ t I n 156 [] a h k T.g156, List.append_nil]; rfl
theorem GP.c167 (T : GP t) (n : Nat) (a : List AV) (h : H) (k : K β) : fRunS t I (n + 1) (.fn 167 []) a h k = f167_sleuthlaw0_SameDef n (fRunS t I n) a h k := by rw [fRunS_succ t I n 167 [] a h k T.g167, List.append_nil]; rfl
theorem GP.c194 (T : GP t) (n : Nat) (a : List AV) (h : H) (k : K β) : fRunS t I (n + 1) (.fn 194 []) a h k = f194_sleuthlaw0_SameExprs n (fRunS t I n) a h k := by rw [fRunS_succ t I n 194 [] a h k T.g194, List.append_nil]; rfl
theorem GP.c223 (T : GP t) (n : Nat) (a : List AV) (h : H) (k : K β) : fRunS t I (n + 1) (.fn 223 []) a h k = f223_sleuthlaw0_SameInts n (fRunS t I n) a h k := by rw [fRunS_succ t I n 223 [] a h k T.g223, List.append_nil]; rfl
theorem GP.q194 (T : GP t) (n : Nat) (a : List AV) (h : H) (k : K β) : qCall (fRunS t I (n + 1)) (.fn 194 []) a h (.mk k) = f194_sleuthlaw0_SameExprs n (fRunS t I n) a h k := T.c194 n a h k
theorem GP.q223 (T : GP t) (n : Nat) (a : List AV) (h : H) (k : K β) : qCall (fRunS t I (n + 1)) (.fn 223 []) a h (.mk k) = f223_sleuthlaw0_SameInts n (fRunS t I n) a h k := T.c223 n a h k
end
end Am.F
