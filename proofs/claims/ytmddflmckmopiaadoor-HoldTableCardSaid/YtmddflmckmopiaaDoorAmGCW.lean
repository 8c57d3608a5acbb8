/- What the functions come to. -/
import Derived.Test.YtmddflmckmopiaaDoorAmGCT
import Derived.Test.YtmddflmckmopiaaDoorAmJc
set_option maxRecDepth 100000
set_option linter.unusedVariables false
namespace Am.F
open Go Am
noncomputable def f149_J2 {β : Type} (k : K β) (x0 x1 x2 x3 x4 x5 x6 x7 : AV) (h : H) : Option β :=
 k (.bool true) h
noncomputable def f149_J5 {β : Type} (l3 : Cur β 8) (x0 x1 x2 x3 x4 x5 x6 x7 : AV) (h : H) : Option β :=
 qAdd x3 (.int .i64 1) <| .mk fun v6 =>
 l3 x0 x1 x2 v6 x4 x5 x6 x7 h
noncomputable def f149_J10 {β : Type} (l8 : Cur β 8) (x0 x1 x2 x3 x4 x5 x6 x7 : AV) (h : H) : Option β :=
 qAdd x4 (.int .i64 1) <| .mk fun v11 =>
 l8 x0 x1 x2 x3 v11 x5 x6 x7 h
noncomputable def f149_J9 {β : Type} (k : K β) (l8 : Cur β 8) (x0 x1 x2 x3 x4 x5 x6 x7 : AV) (h : H) : Option β :=
 qJoin 8 (.mk (
 f149_J10 l8)) <| .mk fun j10 =>
 qFadr 0 x1 <| .mk fun v12 =>
 qLoad1 v12 h <| .mk fun v13 =>
 qIadr 2 v13 x3 <| .mk fun v14 =>
 qFadr 1 v14 <| .mk fun v15 =>
 qLoad1 v15 h <| .mk fun v16 =>
 qIadr 4 v16 x4 <| .mk fun v17 =>
 qLoadN 4 v17 h <| .mk fun v18 =>
 qAlloc 0 [(.int .i64 0), (.int .i64 0), (.int .i64 0), .nils] h <| .mk fun v19 h =>
 qStore 4 v19 v18 h <| .mk fun h =>
 qFadr 0 v19 <| .mk fun v20 =>
 qLoad1 v20 h <| .mk fun v21 =>
 qEql v21 (.int .i64 2) <| .mk fun v22 =>
 qGrd v22 true h (.mk fun h k =>
 qFadr 1 v19 <| .mk fun v23 =>
 k v23 h) <| .mk fun v24 h =>
 qGrd v22 true h (.mk fun h k =>
 qLoad1 v24 h <| .mk fun v25 =>
 k v25 h) <| .mk fun v26 h =>
 qGrd v22 true h (.mk fun h k =>
 qFadr 0 x1 <| .mk fun v27 =>
 k v27 h) <| .mk fun v28 h =>
 qGrd v22 true h (.mk fun h k =>
 qLoad1 v28 h <| .mk fun v29 =>
 k v29 h) <| .mk fun v30 h =>
 qGrd v22 true h (.mk fun h k =>
 qLenL v30 <| .mk fun v31 =>
 k v31 h) <| .mk fun v32 h =>
 qGrd v22 true h (.mk fun h k =>
 qGeq v26 v32 <| .mk fun v33 =>
 k v33 h) <| .mk fun v34 h =>
 qGrd v22 true h (.mk fun h k =>
 k v34 h) <| .mk fun v35 h =>
 qGrd v35 false h (.mk fun h k =>
 qFadr 3 v19 <| .mk fun v36 =>
 k v36 h) <| .mk fun v37 h =>
 qGrd v35 false h (.mk fun h k =>
 qLoad1 v37 h <| .mk fun v38 =>
 k v38 h) <| .mk fun v39 h =>
 qGrd v35 false h (.mk fun h k =>
 qLenL v39 <| .mk fun v40 =>
 k v40 h) <| .mk fun v41 h =>
 qGrd v35 false h (.mk fun h k =>
 qFadr 0 x1 <| .mk fun v42 =>
 k v42 h) <| .mk fun v43 h =>
 qGrd v35 false h (.mk fun h k =>
 qLoad1 v43 h <| .mk fun v44 =>
 k v44 h) <| .mk fun v45 h =>
 qGrd v35 false h (.mk fun h k =>
 qFadr 1 v19 <| .mk fun v46 =>
 k v46 h) <| .mk fun v47 h =>
 qGrd v35 false h (.mk fun h k =>
 qLoad1 v47 h <| .mk fun v48 =>
 k v48 h) <| .mk fun v49 h =>
 qGrd v35 false h (.mk fun h k =>
 qIadr 2 v45 v49 <| .mk fun v50 =>
 k v50 h) <| .mk fun v51 h =>
 qGrd v35 false h (.mk fun h k =>
 qFadr 0 v51 <| .mk fun v52 =>
 k v52 h) <| .mk fun v53 h =>
 qGrd v35 false h (.mk fun h k =>
 qLoad1 v53 h <| .mk fun v54 =>
 k v54 h) <| .mk fun v55 h =>
 qGrd v35 false h (.mk fun h k =>
 qNeq v41 v55 <| .mk fun v56 =>
 k v56 h) <| .mk fun v57 h =>
 qGrd v22 true h (.mk fun h k =>
 qPick v35 (.bool true) v57 <| .mk fun v58 =>
 k v58 h) <| .mk fun v59 h =>
 qPick v22 v59 (.bool false) <| .mk fun v60 =>
 qIf v60 (.mk (
 k (.bool false) h)) <| .mk (
 j10 x0 x1 x2 x3 x4 v19 v18 v60 h)
noncomputable def f149_L8 {β : Type} (k : K β) (j5 : Cur β 8) (l8 : Cur β 8) (x0 x1 x2 x3 x4 x5 x6 x7 : AV) (h : H) : Option β :=
 qJoin 8 (.mk (
 f149_J9 k l8)) <| .mk fun j9 =>
 qFadr 0 x1 <| .mk fun v61 =>
 qLoad1 v61 h <| .mk fun v62 =>
 qIadr 2 v62 x3 <| .mk fun v63 =>
 qFadr 1 v63 <| .mk fun v64 =>
 qLoad1 v64 h <| .mk fun v65 =>
 qLenL v65 <| .mk fun v66 =>
 qLss x4 v66 <| .mk fun v67 =>
 qIf v67 (.mk (
 j9 .any x1 .any x3 x4 .any .any .any h)) <| .mk (
 j5 .any x1 .any x3 x4 .any .any .any h)
noncomputable def f149_J7 {β : Type} (N : Nat) (k : K β) (j5 : Cur β 8) (x0 x1 x2 x3 x4 x5 x6 x7 : AV) (h : H) : Option β :=
 (qLoop 8 N <| .mk (
 f149_L8 k j5)) x0 x1 x2 x3 (.int .i64 0) x5 x6 x7 h
noncomputable def f149_J4 {β : Type} (N : Nat) (call : FCall β) (k : K β) (l3 : Cur β 8) (x0 x1 x2 x3 x4 x5 x6 x7 : AV) (h : H) : Option β :=
 qJoin 8 (.mk (
 f149_J5 l3)) <| .mk fun j5 =>
 qJoin 8 (.mk (
 f149_J7 N k j5)) <| .mk fun j7 =>
 qFadr 0 x1 <| .mk fun v68 =>
 qLoad1 v68 h <| .mk fun v69 =>
 qIadr 2 v69 x3 <| .mk fun v70 =>
 qLoadN 2 v70 h <| .mk fun v71 =>
 qCall call (.fn 179 []) [v71] h <| .mk fun v72 h =>
 qNot v72 <| .mk fun v73 =>
 qIf v73 (.mk (
 k (.bool false) h)) <| .mk (
 j7 x0 x1 x2 x3 x4 x5 x6 x7 h)
noncomputable def f149_L3 {β : Type} (N : Nat) (call : FCall β) (k : K β) (j2 : Cur β 8) (l3 : Cur β 8) (x0 x1 x2 x3 x4 x5 x6 x7 : AV) (h : H) : Option β :=
 qJoin 8 (.mk (
 f149_J4 N call k l3)) <| .mk fun j4 =>
 qFadr 0 x1 <| .mk fun v74 =>
 qLoad1 v74 h <| .mk fun v75 =>
 qLenL v75 <| .mk fun v76 =>
 qLss x3 v76 <| .mk fun v77 =>
 qIf v77 (.mk (
 j4 .any x1 .any x3 .any .any .any .any h)) <| .mk (
 j2 .any x1 .any x3 .any .any .any .any h)
noncomputable def f149_J1 {β : Type} (N : Nat) (call : FCall β) (k : K β) (x0 x1 x2 x3 x4 x5 x6 x7 : AV) (h : H) : Option β :=
 qJoin 8 (.mk (
 f149_J2 k)) <| .mk fun j2 =>
 (qLoop 8 N <| .mk (
 f149_L3 N call k j2)) x0 x1 x2 (.int .i64 0) x4 x5 x6 x7 h
noncomputable def f149 {β : Type} (N : Nat) (call : FCall β) (a : List AV) (h : H) (k : K β) : Option β :=
 qBox 0 (nth a 0) h <| .mk fun v0 h =>
 qJoin 8 (.mk (
 f149_J1 N call k)) <| .mk fun j1 =>
 qFadr 0 v0 <| .mk fun v78 =>
 qLoad1 v78 h <| .mk fun v79 =>
 qLenL v79 <| .mk fun v80 =>
 qCall call (.fn 30 []) [v80, (.int .i64 1), (.int .i64 8)] h <| .mk fun v81 h =>
 qNot v81 <| .mk fun v82 =>
 qOr v82 h (.mk fun h k =>
 qFadr 0 v0 <| .mk fun v83 =>
 qLoad1 v83 h <| .mk fun v84 =>
 qIadr 2 v84 (.int .i64 0) <| .mk fun v85 =>
 qFadr 0 v85 <| .mk fun v86 =>
 qLoad1 v86 h <| .mk fun v87 =>
 qNeq v87 (.int .i64 0) <| .mk fun v88 =>
 k v88 h) <| .mk fun v89 h =>
 qIf v89 (.mk (
 k (.bool false) h)) <| .mk (
 j1 (nth a 0) v0 (.bool false) (nth a 3) (nth a 4) (nth a 5) (nth a 52) (nth a 76) h)
theorem y149 {β : Type} (I : FI) (N : Nat) (call : FCall β) (a : List AV) (h : H) (k : K β) : fBody I 149 T.s149 N call a h k = f149 N call a h k := by kernel_rfl
noncomputable def f157_J2 {β : Type} (k : K β) (x0 x1 x2 x3 x4 x5 x6 x7 x8 x9 : AV) (h : H) : Option β :=
 k (.bool true) h
noncomputable def f157_J9 {β : Type} (l6 : Cur β 10) (x0 x1 x2 x3 x4 x5 x6 x7 x8 x9 : AV) (h : H) : Option β :=
 qAdd x7 (.int .i64 1) <| .mk fun v10 =>
 l6 x0 x1 x2 x3 x4 x5 x6 v10 x8 x9 h
noncomputable def f157_J8 {β : Type} (call : FCall β) (k : K β) (l6 : Cur β 10) (x0 x1 x2 x3 x4 x5 x6 x7 x8 x9 : AV) (h : H) : Option β :=
 qJoin 10 (.mk (
 f157_J9 l6)) <| .mk fun j9 =>
 qIadr 2 x5 x7 <| .mk fun v11 =>
 qLoadN 2 v11 h <| .mk fun v12 =>
 qAlloc 0 [(.int .i64 0), .nils] h <| .mk fun v13 h =>
 qStore 2 v13 v12 h <| .mk fun h =>
 qLoadN 2 v13 h <| .mk fun v14 =>
 qCall call (.fn 187 []) [v14] h <| .mk fun v15 h =>
 qNot v15 <| .mk fun v16 =>
 qOr v16 h (.mk fun h k =>
 qFadr 1 v13 <| .mk fun v17 =>
 qLoad1 v17 h <| .mk fun v18 =>
 qCall call (.fn 188 []) [v18, x3] h <| .mk fun v19 h =>
 k v19 h) <| .mk fun v20 h =>
 qIf v20 (.mk (
 k (.bool false) h)) <| .mk (
 j9 x0 x1 x2 x3 v13 x5 x6 x7 x8 v12 h)
noncomputable def f157_L6 {β : Type} (call : FCall β) (k : K β) (j2 : Cur β 10) (l6 : Cur β 10) (x0 x1 x2 x3 x4 x5 x6 x7 x8 x9 : AV) (h : H) : Option β :=
 qLss x7 x6 <| .mk fun v7 =>
 qJoin 10 (.mk (
 f157_J8 call k l6)) <| .mk fun j8 =>
 qIf v7 (.mk (
 j8 .any .any .any x3 .any x5 x6 x7 v7 .any h)) <| .mk (
 j2 .any .any .any x3 .any x5 x6 x7 v7 .any h)
noncomputable def f157_J1 {β : Type} (N : Nat) (call : FCall β) (k : K β) (x0 x1 x2 x3 x4 x5 x6 x7 x8 x9 : AV) (h : H) : Option β :=
 qJoin 10 (.mk (
 f157_J2 k)) <| .mk fun j2 =>
 qFadr 0 x1 <| .mk fun v3 =>
 qLoad1 v3 h <| .mk fun v4 =>
 qLenL v4 <| .mk fun v5 =>
 (qLoop 10 N <| .mk (
 f157_L6 call k j2)) x0 x1 x2 (.fn 186 [x1]) x4 v4 v5 (.int .i64 0) x8 x9 h
noncomputable def f157 {β : Type} (N : Nat) (call : FCall β) (a : List AV) (h : H) (k : K β) : Option β :=
 qBox 0 (nth a 0) h <| .mk fun v0 h =>
 qJoin 10 (.mk (
 f157_J1 N call k)) <| .mk fun j1 =>
 qFadr 0 v0 <| .mk fun v21 =>
 qLoad1 v21 h <| .mk fun v22 =>
 qLenL v22 <| .mk fun v23 =>
 qEql v23 (.int .i64 0) <| .mk fun v24 =>
 qOr v24 h (.mk fun h k =>
 qFadr 0 v0 <| .mk fun v25 =>
 qLoad1 v25 h <| .mk fun v26 =>
 qLenL v26 <| .mk fun v27 =>
 qGtr v27 (.int .i64 8) <| .mk fun v28 =>
 k v28 h) <| .mk fun v29 h =>
 qOr v29 h (.mk fun h k =>
 qFadr 0 v0 <| .mk fun v30 =>
 qLoad1 v30 h <| .mk fun v31 =>
 qIadr 2 v31 (.int .i64 0) <| .mk fun v32 =>
 qFadr 0 v32 <| .mk fun v33 =>
 qLoad1 v33 h <| .mk fun v34 =>
 qNeq v34 (.int .i64 0) <| .mk fun v35 =>
 k v35 h) <| .mk fun v36 h =>
 qIf v36 (.mk (
 k (.bool false) h)) <| .mk (
 j1 (nth a 0) v0 (.bool false) (nth a 3) (nth a 5) (nth a 26) (nth a 27) (nth a 28) (nth a 29) (nth a 31) h)
theorem y157 {β : Type} (I : FI) (N : Nat) (call : FCall β) (a : List AV) (h : H) (k : K β) : fBody I 157 T.s157 N call a h k = f157 N call a h k := by kernel_rfl
noncomputable def f179_J12 {β : Type} (k : K β) (x0 x1 x2 x3 x4 x5 x6 x7 x8 x9 x10 x11 x12 : AV) (h : H) : Option β :=
 k (.bool true) h
noncomputable def f179_J19 {β : Type} (l17 : Cur β 13) (x0 x1 x2 x3 x4 x5 x6 x7 x8 x9 x10 x11 x12 : AV) (h : H) : Option β :=
 qSub x4 (.int .i64 1) <| .mk fun v20 =>
 l17 x0 x1 x2 x3 v20 x5 x6 x7 x8 x9 x10 x11 x12 h
noncomputable def f179_J29 {β : Type} (l27 : Cur β 13) (x0 x1 x2 x3 x4 x5 x6 x7 x8 x9 x10 x11 x12 : AV) (h : H) : Option β :=
 qAdd x6 (.int .i64 1) <| .mk fun v30 =>
 l27 x0 x1 x2 x3 x4 x5 v30 x7 x8 x9 x10 x11 x12 h
noncomputable def f179_J35 {β : Type} (call : FCall β) (j29 : Cur β 13) (x0 x1 x2 x3 x4 x5 x6 x7 x8 x9 x10 x11 x12 : AV) (h : H) : Option β :=
 qIadr 1 x3 x4 <| .mk fun v36 =>
 qLoad1 v36 h <| .mk fun v37 =>
 qLoadN 4 x5 h <| .mk fun v38 =>
 qCall call (.fn 203 []) [v38, x6] h <| .mk fun v39 h =>
 qLoad1 v36 h <| .mk fun v40 =>
 qChk v40 v37 <| .mk (
 qAdd v37 v39 <| .mk fun v41 =>
 qIadr 1 x3 x7 <| .mk fun v42 =>
 qStore 1 v42 v41 h <| .mk fun h =>
 j29 x0 x1 x2 x3 x4 x5 x6 x7 x8 x9 x10 x11 x12 h)
noncomputable def f179_J28 {β : Type} (call : FCall β) (k : K β) (l27 : Cur β 13) (x0 x1 x2 x3 x4 x5 x6 x7 x8 x9 x10 x11 x12 : AV) (h : H) : Option β :=
 qJoin 13 (.mk (
 f179_J29 l27)) <| .mk fun j29 =>
 qFadr 3 x5 <| .mk fun v31 =>
 qLoad1 v31 h <| .mk fun v32 =>
 qIadr 1 v32 x6 <| .mk fun v33 =>
 qLoad1 v33 h <| .mk fun v34 =>
 qJoin 13 (.mk (
 f179_J35 call j29)) <| .mk fun j35 =>
 qSub x4 (.int .i64 1) <| .mk fun v43 =>
 qCall call (.fn 30 []) [v34, (.int .i64 0), v43] h <| .mk fun v44 h =>
 qNot v44 <| .mk fun v45 =>
 qOr v45 h (.mk fun h k =>
 qIadr 1 x3 v34 <| .mk fun v46 =>
 qLoad1 v46 h <| .mk fun v47 =>
 qNeq v47 (.int .i64 0) <| .mk fun v48 =>
 k v48 h) <| .mk fun v49 h =>
 qIf v49 (.mk (
 k (.bool false) h)) <| .mk (
 j35 x0 x1 x2 x3 x4 x5 x6 v34 x8 x9 x10 x11 x12 h)
noncomputable def f179_L27 {β : Type} (call : FCall β) (k : K β) (j19 : Cur β 13) (l27 : Cur β 13) (x0 x1 x2 x3 x4 x5 x6 x7 x8 x9 x10 x11 x12 : AV) (h : H) : Option β :=
 qJoin 13 (.mk (
 f179_J28 call k l27)) <| .mk fun j28 =>
 qFadr 3 x5 <| .mk fun v50 =>
 qLoad1 v50 h <| .mk fun v51 =>
 qLenL v51 <| .mk fun v52 =>
 qLss x6 v52 <| .mk fun v53 =>
 qIf v53 (.mk (
 j28 .any x1 .any x3 x4 x5 x6 .any .any .any .any .any .any h)) <| .mk (
 j19 .any x1 .any x3 x4 x5 x6 .any .any .any .any .any .any h)
noncomputable def f179_J26 {β : Type} (N : Nat) (call : FCall β) (k : K β) (j19 : Cur β 13) (x0 x1 x2 x3 x4 x5 x6 x7 x8 x9 x10 x11 x12 : AV) (h : H) : Option β :=
 (qLoop 13 N <| .mk (
 f179_L27 call k j19)) x0 x1 x2 x3 x4 x5 (.int .i64 0) x7 x8 x9 x10 x11 x12 h
noncomputable def f179_J18 {β : Type} (N : Nat) (call : FCall β) (k : K β) (l17 : Cur β 13) (x0 x1 x2 x3 x4 x5 x6 x7 x8 x9 x10 x11 x12 : AV) (h : H) : Option β :=
 qJoin 13 (.mk (
 f179_J19 l17)) <| .mk fun j19 =>
 qFadr 1 x1 <| .mk fun v21 =>
 qLoad1 v21 h <| .mk fun v22 =>
 qIadr 4 v22 x4 <| .mk fun v23 =>
 qLoadN 4 v23 h <| .mk fun v24 =>
 qAlloc 0 [(.int .i64 0), (.int .i64 0), (.int .i64 0), .nils] h <| .mk fun v25 h =>
 qStore 4 v25 v24 h <| .mk fun h =>
 qJoin 13 (.mk (
 f179_J26 N call k j19)) <| .mk fun j26 =>
 qIadr 1 x3 x4 <| .mk fun v54 =>
 qLoad1 v54 h <| .mk fun v55 =>
 qEql v55 (.int .i64 0) <| .mk fun v56 =>
 qGrd v56 false h (.mk fun h k =>
 k x3 h) <| .mk fun v57 h =>
 qGrd v56 false h (.mk fun h k =>
 k x4 h) <| .mk fun v58 h =>
 qGrd v56 false h (.mk fun h k =>
 qIadr 1 v57 v58 <| .mk fun v59 =>
 k v59 h) <| .mk fun v60 h =>
 qGrd v56 false h (.mk fun h k =>
 qLoad1 v60 h <| .mk fun v61 =>
 k v61 h) <| .mk fun v62 h =>
 qGrd v56 false h (.mk fun h k =>
 qSub v62 (.int .i64 1) <| .mk fun v63 =>
 k v63 h) <| .mk fun v64 h =>
 qGrd v56 false h (.mk fun h k =>
 qGtr v64 (.int .i64 8) <| .mk fun v65 =>
 k v65 h) <| .mk fun v66 h =>
 qPick v56 (.bool true) v66 <| .mk fun v67 =>
 qGrd v67 false h (.mk fun h k =>
 qLoadN 4 v25 h <| .mk fun v68 =>
 k v68 h) <| .mk fun v69 h =>
 qGrd v67 false h (.mk fun h k =>
 k x3 h) <| .mk fun v70 h =>
 qGrd v67 false h (.mk fun h k =>
 k x4 h) <| .mk fun v71 h =>
 qGrd v67 false h (.mk fun h k =>
 qIadr 1 v70 v71 <| .mk fun v72 =>
 k v72 h) <| .mk fun v73 h =>
 qGrd v67 false h (.mk fun h k =>
 qLoad1 v73 h <| .mk fun v74 =>
 k v74 h) <| .mk fun v75 h =>
 qGrd v67 false h (.mk fun h k =>
 qSub v75 (.int .i64 1) <| .mk fun v76 =>
 k v76 h) <| .mk fun v77 h =>
 qGrd v67 false h (.mk fun h k =>
 qCall call (.fn 202 []) [v69, v77] h <| .mk fun v78 h =>
 k v78 h) <| .mk fun v79 h =>
 qGrd v67 false h (.mk fun h k =>
 qNot v79 <| .mk fun v80 =>
 k v80 h) <| .mk fun v81 h =>
 qPick v67 (.bool true) v81 <| .mk fun v82 =>
 qIf v82 (.mk (
 k (.bool false) h)) <| .mk (
 j26 x0 x1 x2 x3 x4 v25 x6 x7 x8 x9 x10 v24 v82 h)
noncomputable def f179_L17 {β : Type} (N : Nat) (call : FCall β) (k : K β) (j12 : Cur β 13) (l17 : Cur β 13) (x0 x1 x2 x3 x4 x5 x6 x7 x8 x9 x10 x11 x12 : AV) (h : H) : Option β :=
 qJoin 13 (.mk (
 f179_J18 N call k l17)) <| .mk fun j18 =>
 qGeq x4 (.int .i64 0) <| .mk fun v83 =>
 qIf v83 (.mk (
 j18 .any x1 .any x3 x4 .any .any .any .any .any .any .any .any h)) <| .mk (
 j12 .any x1 .any x3 x4 .any .any .any .any .any .any .any .any h)
noncomputable def f179_J1 {β : Type} (N : Nat) (call : FCall β) (k : K β) (x0 x1 x2 x3 x4 x5 x6 x7 x8 x9 x10 x11 x12 : AV) (h : H) : Option β :=
 qFadr 1 x1 <| .mk fun v2 =>
 qLoad1 v2 h <| .mk fun v3 =>
 qLenL v3 <| .mk fun v4 =>
 qMkslice 0 [(.int .i64 0)] 8 v4 v4 h <| .mk fun v5 h =>
 qLenL v5 <| .mk fun v6 =>
 qSub v6 (.int .i64 1) <| .mk fun v7 =>
 qFadr 0 x1 <| .mk fun v8 =>
 qLoad1 v8 h <| .mk fun v9 =>
 qAdd v9 (.int .i64 1) <| .mk fun v10 =>
 qIadr 1 v5 v7 <| .mk fun v11 =>
 qStore 1 v11 v10 h <| .mk fun h =>
 qJoin 13 (.mk (
 f179_J12 k)) <| .mk fun j12 =>
 qFadr 1 x1 <| .mk fun v13 =>
 qLoad1 v13 h <| .mk fun v14 =>
 qLenL v14 <| .mk fun v15 =>
 qSub v15 (.int .i64 1) <| .mk fun v16 =>
 (qLoop 13 N <| .mk (
 f179_L17 N call k j12)) x0 x1 x2 v5 v16 x5 x6 x7 v4 v5 v7 x11 x12 h
noncomputable def f179 {β : Type} (N : Nat) (call : FCall β) (a : List AV) (h : H) (k : K β) : Option β :=
 qBox 0 (nth a 0) h <| .mk fun v0 h =>
 qJoin 13 (.mk (
 f179_J1 N call k)) <| .mk fun j1 =>
 qFadr 0 v0 <| .mk fun v84 =>
 qLoad1 v84 h <| .mk fun v85 =>
 qCall call (.fn 30 []) [v85, (.int .i64 0), (.int .i64 3)] h <| .mk fun v86 h =>
 qNot v86 <| .mk fun v87 =>
 qOr v87 h (.mk fun h k =>
 qFadr 1 v0 <| .mk fun v88 =>
 qLoad1 v88 h <| .mk fun v89 =>
 qLenL v89 <| .mk fun v90 =>
 qCall call (.fn 30 []) [v90, (.int .i64 1), (.int .i64 24)] h <| .mk fun v91 h =>
 qNot v91 <| .mk fun v92 =>
 k v92 h) <| .mk fun v93 h =>
 qIf v93 (.mk (
 k (.bool false) h)) <| .mk (
 j1 (nth a 0) v0 (.bool false) (nth a 3) (nth a 4) (nth a 5) (nth a 6) (nth a 7) (nth a 21) (nth a 23) (nth a 26) (nth a 43) (nth a 66) h)
theorem y179 {β : Type} (I : FI) (N : Nat) (call : FCall β) (a : List AV) (h : H) (k : K β) : fBody I 179 T.s179 N call a h k = f179 N call a h k := by kernel_rfl
noncomputable def f186 {β : Type} (N : Nat) (call : FCall β) (a : List AV) (h : H) (k : K β) : Option β :=
 qBox 0 (nth a 0) h <| .mk fun v0 h =>
 qFadr 0 v0 <| .mk fun v1 =>
 qLoad1 v1 h <| .mk fun v2 =>
 qEql v2 (.int .i64 2) <| .mk fun v3 =>
 qGrd v3 true h (.mk fun h k =>
 qFadr 1 v0 <| .mk fun v4 =>
 k v4 h) <| .mk fun v5 h =>
 qGrd v3 true h (.mk fun h k =>
 qLoad1 v5 h <| .mk fun v6 =>
 k v6 h) <| .mk fun v7 h =>
 qGrd v3 true h (.mk fun h k =>
 qFadr 0 (nth a 1) <| .mk fun v8 =>
 k v8 h) <| .mk fun v9 h =>
 qGrd v3 true h (.mk fun h k =>
 qLoad1 v9 h <| .mk fun v10 =>
 k v10 h) <| .mk fun v11 h =>
 qGrd v3 true h (.mk fun h k =>
 qLenL v11 <| .mk fun v12 =>
 k v12 h) <| .mk fun v13 h =>
 qGrd v3 true h (.mk fun h k =>
 qGeq v7 v13 <| .mk fun v14 =>
 k v14 h) <| .mk fun v15 h =>
 qGrd v3 true h (.mk fun h k =>
 k v15 h) <| .mk fun v16 h =>
 qGrd v16 false h (.mk fun h k =>
 qFadr 3 v0 <| .mk fun v17 =>
 k v17 h) <| .mk fun v18 h =>
 qGrd v16 false h (.mk fun h k =>
 qLoad1 v18 h <| .mk fun v19 =>
 k v19 h) <| .mk fun v20 h =>
 qGrd v16 false h (.mk fun h k =>
 qLenL v20 <| .mk fun v21 =>
 k v21 h) <| .mk fun v22 h =>
 qGrd v16 false h (.mk fun h k =>
 qFadr 0 (nth a 1) <| .mk fun v23 =>
 k v23 h) <| .mk fun v24 h =>
 qGrd v16 false h (.mk fun h k =>
 qLoad1 v24 h <| .mk fun v25 =>
 k v25 h) <| .mk fun v26 h =>
 qGrd v16 false h (.mk fun h k =>
 qFadr 1 v0 <| .mk fun v27 =>
 k v27 h) <| .mk fun v28 h =>
 qGrd v16 false h (.mk fun h k =>
 qLoad1 v28 h <| .mk fun v29 =>
 k v29 h) <| .mk fun v30 h =>
 qGrd v16 false h (.mk fun h k =>
 qIadr 2 v26 v30 <| .mk fun v31 =>
 k v31 h) <| .mk fun v32 h =>
 qGrd v16 false h (.mk fun h k =>
 qFadr 0 v32 <| .mk fun v33 =>
 k v33 h) <| .mk fun v34 h =>
 qGrd v16 false h (.mk fun h k =>
 qLoad1 v34 h <| .mk fun v35 =>
 k v35 h) <| .mk fun v36 h =>
 qGrd v16 false h (.mk fun h k =>
 qNeq v22 v36 <| .mk fun v37 =>
 k v37 h) <| .mk fun v38 h =>
 qGrd v3 true h (.mk fun h k =>
 qPick v16 (.bool true) v38 <| .mk fun v39 =>
 k v39 h) <| .mk fun v40 h =>
 qPick v3 v40 (.bool false) <| .mk fun v41 =>
 k v41 h
theorem y186 {β : Type} (I : FI) (N : Nat) (call : FCall β) (a : List AV) (h : H) (k : K β) : fBody I 186 T.s186 N call a h k = f186 N call a h k := by kernel_rfl
noncomputable def f187_J14 {β : Type} (k : K β) (x0 x1 x2 x3 x4 x5 x6 x7 x8 x9 x10 x11 x12 x13 x14 x15 x16 x17 x18 x19 x20 x21 : AV) (h : H) : Option β :=
 k (.bool true) h
noncomputable def f187_J17 {β : Type} (l15 : Cur β 22) (x0 x1 x2 x3 x4 x5 x6 x7 x8 x9 x10 x11 x12 x13 x14 x15 x16 x17 x18 x19 x20 x21 : AV) (h : H) : Option β :=
 qSub x6 (.int .i64 1) <| .mk fun v18 =>
 l15 x0 x1 x2 x3 x4 x5 v18 x7 x8 x9 x10 x11 x12 x13 x14 x15 x16 x17 x18 x19 x20 x21 h
noncomputable def f187_J30 {β : Type} (l27 : Cur β 22) (x0 x1 x2 x3 x4 x5 x6 x7 x8 x9 x10 x11 x12 x13 x14 x15 x16 x17 x18 x19 x20 x21 : AV) (h : H) : Option β :=
 qAdd x18 (.int .i64 1) <| .mk fun v31 =>
 l27 x0 x1 x2 x3 x4 x5 x6 x7 x8 x9 x10 x11 x12 x13 x14 x15 x16 x17 v31 x19 x20 x21 h
noncomputable def f187_J34 {β : Type} (call : FCall β) (j30 : Cur β 22) (x0 x1 x2 x3 x4 x5 x6 x7 x8 x9 x10 x11 x12 x13 x14 x15 x16 x17 x18 x19 x20 x21 : AV) (h : H) : Option β :=
 qIadr 1 x4 x6 <| .mk fun v35 =>
 qLoad1 v35 h <| .mk fun v36 =>
 qCall call (.fn 214 []) [x7, x8] h <| .mk fun v37 h =>
 qLoad1 v35 h <| .mk fun v38 =>
 qChk v38 v36 <| .mk (
 qAdd v36 v37 <| .mk fun v39 =>
 qIadr 1 x4 x9 <| .mk fun v40 =>
 qStore 1 v40 v39 h <| .mk fun h =>
 j30 x0 x1 x2 x3 x4 x5 x6 x7 x8 x9 x10 x11 x12 x13 x14 x15 x16 x17 x18 x19 x20 x21 h)
noncomputable def f187_J29 {β : Type} (call : FCall β) (k : K β) (l27 : Cur β 22) (x0 x1 x2 x3 x4 x5 x6 x7 x8 x9 x10 x11 x12 x13 x14 x15 x16 x17 x18 x19 x20 x21 : AV) (h : H) : Option β :=
 qJoin 22 (.mk (
 f187_J30 l27)) <| .mk fun j30 =>
 qIadr 1 x16 x18 <| .mk fun v32 =>
 qLoad1 v32 h <| .mk fun v33 =>
 qJoin 22 (.mk (
 f187_J34 call j30)) <| .mk fun j34 =>
 qLss v33 (.int .i64 0) <| .mk fun v41 =>
 qOr v41 h (.mk fun h k =>
 qGeq v33 x6 <| .mk fun v42 =>
 k v42 h) <| .mk fun v43 h =>
 qOr v43 h (.mk fun h k =>
 qIadr 1 x4 v33 <| .mk fun v44 =>
 qLoad1 v44 h <| .mk fun v45 =>
 qNeq v45 (.int .i64 (-1)) <| .mk fun v46 =>
 k v46 h) <| .mk fun v47 h =>
 qIf v47 (.mk (
 k (.bool false) h)) <| .mk (
 j34 x0 x1 x2 x3 x4 x5 x6 x7 x18 v33 x10 x11 x12 x13 x14 x15 x16 x17 x18 x19 x18 v33 h)
noncomputable def f187_L27 {β : Type} (call : FCall β) (k : K β) (j17 : Cur β 22) (l27 : Cur β 22) (x0 x1 x2 x3 x4 x5 x6 x7 x8 x9 x10 x11 x12 x13 x14 x15 x16 x17 x18 x19 x20 x21 : AV) (h : H) : Option β :=
 qLss x18 x17 <| .mk fun v28 =>
 qJoin 22 (.mk (
 f187_J29 call k l27)) <| .mk fun j29 =>
 qIf v28 (.mk (
 j29 .any x1 .any .any x4 .any x6 x7 .any .any .any .any .any .any .any .any x16 x17 x18 v28 .any .any h)) <| .mk (
 j17 .any x1 .any .any x4 .any x6 x7 .any .any .any .any .any .any .any .any x16 x17 x18 v28 .any .any h)
noncomputable def f187_J22 {β : Type} (N : Nat) (call : FCall β) (k : K β) (j17 : Cur β 22) (x0 x1 x2 x3 x4 x5 x6 x7 x8 x9 x10 x11 x12 x13 x14 x15 x16 x17 x18 x19 x20 x21 : AV) (h : H) : Option β :=
 qNil x7 <| .mk fun v23 =>
 qFadr 3 v23 <| .mk fun v24 =>
 qLoad1 v24 h <| .mk fun v25 =>
 qLenL v25 <| .mk fun v26 =>
 (qLoop 22 N <| .mk (
 f187_L27 call k j17)) x0 x1 x2 x3 x4 x5 x6 x7 x8 x9 x10 x11 x12 x13 x14 x15 v25 v26 (.int .i64 0) x19 x20 x21 h
noncomputable def f187_J16 {β : Type} (N : Nat) (call : FCall β) (k : K β) (l15 : Cur β 22) (x0 x1 x2 x3 x4 x5 x6 x7 x8 x9 x10 x11 x12 x13 x14 x15 x16 x17 x18 x19 x20 x21 : AV) (h : H) : Option β :=
 qJoin 22 (.mk (
 f187_J17 l15)) <| .mk fun j17 =>
 qFadr 1 x1 <| .mk fun v19 =>
 qLoad1 v19 h <| .mk fun v20 =>
 qIadr 4 v20 x6 <| .mk fun v21 =>
 qJoin 22 (.mk (
 f187_J22 N call k j17)) <| .mk fun j22 =>
 qIadr 1 x4 x6 <| .mk fun v48 =>
 qLoad1 v48 h <| .mk fun v49 =>
 qEql v49 (.int .i64 (-1)) <| .mk fun v50 =>
 qOr v50 h (.mk fun h k =>
 qIadr 1 x4 x6 <| .mk fun v51 =>
 qLoad1 v51 h <| .mk fun v52 =>
 qGtr v52 (.int .i64 8) <| .mk fun v53 =>
 k v53 h) <| .mk fun v54 h =>
 qOr v54 h (.mk fun h k =>
 qIadr 1 x4 x6 <| .mk fun v55 =>
 qLoad1 v55 h <| .mk fun v56 =>
 qCall call (.fn 213 []) [v21, v56] h <| .mk fun v57 h =>
 qNot v57 <| .mk fun v58 =>
 k v58 h) <| .mk fun v59 h =>
 qIf v59 (.mk (
 k (.bool false) h)) <| .mk (
 j22 x0 x1 x2 x3 x4 x5 x6 v21 x8 x9 x10 x11 x12 x13 x14 x15 x16 x17 x18 x19 x20 x21 h)
noncomputable def f187_L15 {β : Type} (N : Nat) (call : FCall β) (k : K β) (j14 : Cur β 22) (l15 : Cur β 22) (x0 x1 x2 x3 x4 x5 x6 x7 x8 x9 x10 x11 x12 x13 x14 x15 x16 x17 x18 x19 x20 x21 : AV) (h : H) : Option β :=
 qJoin 22 (.mk (
 f187_J16 N call k l15)) <| .mk fun j16 =>
 qGeq x6 (.int .i64 0) <| .mk fun v60 =>
 qIf v60 (.mk (
 j16 .any x1 .any .any x4 .any x6 .any .any .any .any .any .any .any .any .any .any .any .any .any .any .any h)) <| .mk (
 j14 .any x1 .any .any x4 .any x6 .any .any .any .any .any .any .any .any .any .any .any .any .any .any .any h)
noncomputable def f187_J10 {β : Type} (N : Nat) (call : FCall β) (k : K β) (x0 x1 x2 x3 x4 x5 x6 x7 x8 x9 x10 x11 x12 x13 x14 x15 x16 x17 x18 x19 x20 x21 : AV) (h : H) : Option β :=
 qFadr 0 x1 <| .mk fun v11 =>
 qLoad1 v11 h <| .mk fun v12 =>
 qIadr 1 x4 x3 <| .mk fun v13 =>
 qStore 1 v13 v12 h <| .mk fun h =>
 qJoin 22 (.mk (
 f187_J14 k)) <| .mk fun j14 =>
 (qLoop 22 N <| .mk (
 f187_L15 N call k j14)) x0 x1 x2 x3 x4 x5 x3 x7 x8 x9 x10 x11 x12 x13 x4 x3 x16 x17 x18 x19 x20 x21 h
noncomputable def f187_J64 {β : Type} (l61 : Cur β 22) (x0 x1 x2 x3 x4 x5 x6 x7 x8 x9 x10 x11 x12 x13 x14 x15 x16 x17 x18 x19 x20 x21 : AV) (h : H) : Option β :=
 qAdd x12 (.int .i64 1) <| .mk fun v65 =>
 l61 x0 x1 x2 x3 x4 x5 x6 x7 x8 x9 x10 x11 v65 x13 x14 x15 x16 x17 x18 x19 x20 x21 h
noncomputable def f187_J63 {β : Type} (l61 : Cur β 22) (x0 x1 x2 x3 x4 x5 x6 x7 x8 x9 x10 x11 x12 x13 x14 x15 x16 x17 x18 x19 x20 x21 : AV) (h : H) : Option β :=
 qJoin 22 (.mk (
 f187_J64 l61)) <| .mk fun j64 =>
 qIadr 1 x4 x12 <| .mk fun v66 =>
 qStore 1 v66 (.int .i64 (-1)) h <| .mk fun h =>
 j64 x0 x1 x2 x3 x4 x12 x6 x7 x8 x9 x10 x11 x12 x13 x14 x15 x16 x17 x18 x19 x20 x21 h
noncomputable def f187_L61 {β : Type} (j10 : Cur β 22) (l61 : Cur β 22) (x0 x1 x2 x3 x4 x5 x6 x7 x8 x9 x10 x11 x12 x13 x14 x15 x16 x17 x18 x19 x20 x21 : AV) (h : H) : Option β :=
 qLss x12 x11 <| .mk fun v62 =>
 qJoin 22 (.mk (
 f187_J63 l61)) <| .mk fun j63 =>
 qIf v62 (.mk (
 j63 .any x1 .any x3 x4 .any .any .any .any .any .any x11 x12 v62 .any .any .any .any .any .any .any .any h)) <| .mk (
 j10 .any x1 .any x3 x4 .any .any .any .any .any .any x11 x12 v62 .any .any .any .any .any .any .any .any h)
noncomputable def f187_J5 {β : Type} (N : Nat) (call : FCall β) (k : K β) (x0 x1 x2 x3 x4 x5 x6 x7 x8 x9 x10 x11 x12 x13 x14 x15 x16 x17 x18 x19 x20 x21 : AV) (h : H) : Option β :=
 qFadr 1 x1 <| .mk fun v6 =>
 qLoad1 v6 h <| .mk fun v7 =>
 qLenL v7 <| .mk fun v8 =>
 qMkslice 0 [(.int .i64 0)] 8 v8 v8 h <| .mk fun v9 h =>
 qJoin 22 (.mk (
 f187_J10 N call k)) <| .mk fun j10 =>
 (qLoop 22 N <| .mk (
 f187_L61 j10)) x0 x1 x2 x3 v9 x5 x6 x7 x8 x9 v8 x3 (.int .i64 0) x13 x14 x15 x16 x17 x18 x19 x20 x21 h
noncomputable def f187 {β : Type} (N : Nat) (call : FCall β) (a : List AV) (h : H) (k : K β) : Option β :=
 qBox 0 (nth a 0) h <| .mk fun v0 h =>
 qFadr 1 v0 <| .mk fun v1 =>
 qLoad1 v1 h <| .mk fun v2 =>
 qLenL v2 <| .mk fun v3 =>
 qSub v3 (.int .i64 1) <| .mk fun v4 =>
 qJoin 22 (.mk (
 f187_J5 N call k)) <| .mk fun j5 =>
 qFadr 0 v0 <| .mk fun v67 =>
 qLoad1 v67 h <| .mk fun v68 =>
 qCall call (.fn 212 []) [v68, (.int .i64 3)] h <| .mk fun v69 h =>
 qNot v69 <| .mk fun v70 =>
 qOr v70 h (.mk fun h k =>
 qCall call (.fn 212 []) [v4, (.int .i64 23)] h <| .mk fun v71 h =>
 qNot v71 <| .mk fun v72 =>
 k v72 h) <| .mk fun v73 h =>
 qIf v73 (.mk (
 k (.bool false) h)) <| .mk (
 j5 (nth a 0) v0 (.bool false) v4 (nth a 4) (nth a 5) (nth a 6) (nth a 7) (nth a 8) (nth a 9) (nth a 25) (nth a 27) (nth a 28) (nth a 29) (nth a 35) (nth a 36) (nth a 73) (nth a 74) (nth a 75) (nth a 76) (nth a 77) (nth a 79) h)
theorem y187 {β : Type} (I : FI) (N : Nat) (call : FCall β) (a : List AV) (h : H) (k : K β) : fBody I 187 T.s187 N call a h k = f187 N call a h k := by kernel_rfl
noncomputable def f188 {β : Type} (N : Nat) (call : FCall β) (a : List AV) (h : H) (k : K β) : Option β :=
 qCall call (.fn 215 []) [(nth a 0), (nth a 1)] h <| .mk fun v0 h =>
 qGeq v0 (.int .i64 0) <| .mk fun v1 =>
 k v1 h
theorem y188 {β : Type} (I : FI) (N : Nat) (call : FCall β) (a : List AV) (h : H) (k : K β) : fBody I 188 T.s188 N call a h k = f188 N call a h k := by kernel_rfl
noncomputable def f202_J7 {β : Type} (k : K β) (x0 x1 x2 x3 x4 x5 x6 : AV) (h : H) : Option β :=
 k (.bool false) h
noncomputable def f202 {β : Type} (N : Nat) (call : FCall β) (a : List AV) (h : H) (k : K β) : Option β :=
 qBox 0 (nth a 0) h <| .mk fun v0 h =>
 qFadr 3 v0 <| .mk fun v1 =>
 qLoad1 v1 h <| .mk fun v2 =>
 qLenL v2 <| .mk fun v3 =>
 qFadr 2 v0 <| .mk fun v4 =>
 qLoad1 v4 h <| .mk fun v5 =>
 qEql v5 (.int .i64 0) <| .mk fun v6 =>
 qJoin 7 (.mk (
 f202_J7 k)) <| .mk fun j7 =>
 qFadr 0 v0 <| .mk fun v8 =>
 qLoad1 v8 h <| .mk fun v9 =>
 qEql v9 (.int .i64 0) <| .mk fun v10 =>
 qIf v10 (.mk (
 qAnd v6 h (.mk fun h k =>
 qEql v3 (.int .i64 0) <| .mk fun v11 =>
 k v11 h) <| .mk fun v12 h =>
 qAnd v12 h (.mk fun h k =>
 qFadr 1 v0 <| .mk fun v13 =>
 qLoad1 v13 h <| .mk fun v14 =>
 qCall call (.fn 41 []) [v14] h <| .mk fun v15 h =>
 k v15 h) <| .mk fun v16 h =>
 k v16 h)) <| .mk (
 qEql v9 (.int .i64 1) <| .mk fun v17 =>
 qIf v17 (.mk (
 qAnd v6 h (.mk fun h k =>
 qEql v3 (.int .i64 0) <| .mk fun v18 =>
 k v18 h) <| .mk fun v19 h =>
 qAnd v19 h (.mk fun h k =>
 qFadr 1 v0 <| .mk fun v20 =>
 qLoad1 v20 h <| .mk fun v21 =>
 qSub (nth a 1) (.int .i64 1) <| .mk fun v22 =>
 qCall call (.fn 30 []) [v21, (.int .i64 0), v22] h <| .mk fun v23 h =>
 k v23 h) <| .mk fun v24 h =>
 k v24 h)) <| .mk (
 qEql v9 (.int .i64 2) <| .mk fun v25 =>
 qIf v25 (.mk (
 qAnd v6 h (.mk fun h k =>
 qLeq v3 (.int .i64 3) <| .mk fun v26 =>
 k v26 h) <| .mk fun v27 h =>
 qAnd v27 h (.mk fun h k =>
 qFadr 1 v0 <| .mk fun v28 =>
 qLoad1 v28 h <| .mk fun v29 =>
 qCall call (.fn 30 []) [v29, (.int .i64 0), (.int .i64 7)] h <| .mk fun v30 h =>
 k v30 h) <| .mk fun v31 h =>
 k v31 h)) <| .mk (
 qEql v9 (.int .i64 3) <| .mk fun v32 =>
 qIf v32 (.mk (
 qAnd v6 h (.mk fun h k =>
 qLeq v3 (.int .i64 3) <| .mk fun v33 =>
 k v33 h) <| .mk fun v34 h =>
 qAnd v34 h (.mk fun h k =>
 qFadr 1 v0 <| .mk fun v35 =>
 qLoad1 v35 h <| .mk fun v36 =>
 qCall call (.fn 30 []) [v36, (.int .i64 0), (.int .i64 99)] h <| .mk fun v37 h =>
 k v37 h) <| .mk fun v38 h =>
 k v38 h)) <| .mk (
 qEql v9 (.int .i64 4) <| .mk fun v39 =>
 qIf v39 (.mk (
 qAnd v6 h (.mk fun h k =>
 qEql v3 (.int .i64 2) <| .mk fun v40 =>
 k v40 h) <| .mk fun v41 h =>
 qAnd v41 h (.mk fun h k =>
 qFadr 1 v0 <| .mk fun v42 =>
 qLoad1 v42 h <| .mk fun v43 =>
 qCall call (.fn 30 []) [v43, (.int .i64 0), (.int .i64 4)] h <| .mk fun v44 h =>
 k v44 h) <| .mk fun v45 h =>
 k v45 h)) <| .mk (
 qEql v9 (.int .i64 5) <| .mk fun v46 =>
 qIf v46 (.mk (
 qEql v3 (.int .i64 3) <| .mk fun v47 =>
 qAnd v47 h (.mk fun h k =>
 qFadr 1 v0 <| .mk fun v48 =>
 qLoad1 v48 h <| .mk fun v49 =>
 qCall call (.fn 30 []) [v49, (.int .i64 0), (.int .i64 99)] h <| .mk fun v50 h =>
 k v50 h) <| .mk fun v51 h =>
 qAnd v51 h (.mk fun h k =>
 qFadr 2 v0 <| .mk fun v52 =>
 qLoad1 v52 h <| .mk fun v53 =>
 qCall call (.fn 30 []) [v53, (.int .i64 0), (.int .i64 3)] h <| .mk fun v54 h =>
 k v54 h) <| .mk fun v55 h =>
 k v55 h)) <| .mk (
 qEql v9 (.int .i64 6) <| .mk fun v56 =>
 qIf v56 (.mk (
 qAnd v6 h (.mk fun h k =>
 qEql v3 (.int .i64 2) <| .mk fun v57 =>
 k v57 h) <| .mk fun v58 h =>
 qAnd v58 h (.mk fun h k =>
 qFadr 1 v0 <| .mk fun v59 =>
 qLoad1 v59 h <| .mk fun v60 =>
 qEql v60 (.int .i64 0) <| .mk fun v61 =>
 k v61 h) <| .mk fun v62 h =>
 k v62 h)) <| .mk (
 qEql v9 (.int .i64 7) <| .mk fun v63 =>
 qIf v63 (.mk (
 qAnd v6 h (.mk fun h k =>
 qEql v3 (.int .i64 0) <| .mk fun v64 =>
 k v64 h) <| .mk fun v65 h =>
 qAnd v65 h (.mk fun h k =>
 qFadr 1 v0 <| .mk fun v66 =>
 qLoad1 v66 h <| .mk fun v67 =>
 qEql v67 (.int .i64 0) <| .mk fun v68 =>
 k v68 h) <| .mk fun v69 h =>
 k v69 h)) <| .mk (
 j7 (nth a 0) (nth a 1) v0 (.bool false) v3 v6 v9 h))))))))
theorem y202 {β : Type} (I : FI) (N : Nat) (call : FCall β) (a : List AV) (h : H) (k : K β) : fBody I 202 T.s202 N call a h k = f202 N call a h k := by kernel_rfl
noncomputable def f203_J2 {β : Type} (k : K β) (x0 x1 x2 x3 : AV) (h : H) : Option β :=
 k (.int .i64 0) h
noncomputable def f203_J1 {β : Type} (k : K β) (x0 x1 x2 x3 : AV) (h : H) : Option β :=
 qJoin 4 (.mk (
 f203_J2 k)) <| .mk fun j2 =>
 qEql x1 (.int .i64 1) <| .mk fun v3 =>
 qAnd v3 h (.mk fun h k =>
 qFadr 0 x2 <| .mk fun v4 =>
 qLoad1 v4 h <| .mk fun v5 =>
 qEql v5 (.int .i64 6) <| .mk fun v6 =>
 k v6 h) <| .mk fun v7 h =>
 qIf v7 (.mk (
 k (.int .i64 1) h)) <| .mk (
 j2 x0 x1 x2 x3 h)
noncomputable def f203 {β : Type} (N : Nat) (call : FCall β) (a : List AV) (h : H) (k : K β) : Option β :=
 qBox 0 (nth a 0) h <| .mk fun v0 h =>
 qJoin 4 (.mk (
 f203_J1 k)) <| .mk fun j1 =>
 qEql (nth a 1) (.int .i64 1) <| .mk fun v8 =>
 qAnd v8 h (.mk fun h k =>
 qFadr 0 v0 <| .mk fun v9 =>
 qLoad1 v9 h <| .mk fun v10 =>
 qEql v10 (.int .i64 5) <| .mk fun v11 =>
 k v11 h) <| .mk fun v12 h =>
 qIf v12 (.mk (
 qFadr 2 v0 <| .mk fun v13 =>
 qLoad1 v13 h <| .mk fun v14 =>
 k v14 h)) <| .mk (
 j1 (nth a 0) (nth a 1) v0 (.int .i64 0) h)
theorem y203 {β : Type} (I : FI) (N : Nat) (call : FCall β) (a : List AV) (h : H) (k : K β) : fBody I 203 T.s203 N call a h k = f203 N call a h k := by kernel_rfl
noncomputable def f212 {β : Type} (N : Nat) (call : FCall β) (a : List AV) (h : H) (k : K β) : Option β :=
 qGeq (nth a 0) (.int .i64 0) <| .mk fun v0 =>
 qAnd v0 h (.mk fun h k =>
 qLeq (nth a 0) (nth a 1) <| .mk fun v1 =>
 k v1 h) <| .mk fun v2 h =>
 k v2 h
theorem y212 {β : Type} (I : FI) (N : Nat) (call : FCall β) (a : List AV) (h : H) (k : K β) : fBody I 212 T.s212 N call a h k = f212 N call a h k := by kernel_rfl
noncomputable def f213_J0 {β : Type} (k : K β) (x0 x1 x2 x3 : AV) (h : H) : Option β :=
 k (.bool false) h
noncomputable def f213 {β : Type} (N : Nat) (call : FCall β) (a : List AV) (h : H) (k : K β) : Option β :=
 qJoin 4 (.mk (
 f213_J0 k)) <| .mk fun j0 =>
 qNil (nth a 0) <| .mk fun v1 =>
 qFadr 0 v1 <| .mk fun v2 =>
 qLoad1 v2 h <| .mk fun v3 =>
 qEql v3 (.int .i64 0) <| .mk fun v4 =>
 qIf v4 (.mk (
 qNil (nth a 0) <| .mk fun v5 =>
 qFadr 1 v5 <| .mk fun v6 =>
 qLoad1 v6 h <| .mk fun v7 =>
 qCall call (.fn 28 []) [v7] h <| .mk fun v8 h =>
 qAnd v8 h (.mk fun h k =>
 qCall call (.fn 229 []) [(nth a 0), (.int .i64 0), (.int .i64 0), (.int .i64 0)] h <| .mk fun v9 h =>
 k v9 h) <| .mk fun v10 h =>
 k v10 h)) <| .mk (
 qEql v3 (.int .i64 1) <| .mk fun v11 =>
 qIf v11 (.mk (
 qNil (nth a 0) <| .mk fun v12 =>
 qFadr 1 v12 <| .mk fun v13 =>
 qLoad1 v13 h <| .mk fun v14 =>
 qSub (nth a 1) (.int .i64 1) <| .mk fun v15 =>
 qCall call (.fn 212 []) [v14, v15] h <| .mk fun v16 h =>
 qAnd v16 h (.mk fun h k =>
 qCall call (.fn 229 []) [(nth a 0), (.int .i64 0), (.int .i64 0), (.int .i64 0)] h <| .mk fun v17 h =>
 k v17 h) <| .mk fun v18 h =>
 k v18 h)) <| .mk (
 qEql v3 (.int .i64 2) <| .mk fun v19 =>
 qIf v19 (.mk (
 qNil (nth a 0) <| .mk fun v20 =>
 qFadr 1 v20 <| .mk fun v21 =>
 qLoad1 v21 h <| .mk fun v22 =>
 qCall call (.fn 212 []) [v22, (.int .i64 7)] h <| .mk fun v23 h =>
 qAnd v23 h (.mk fun h k =>
 qCall call (.fn 229 []) [(nth a 0), (.int .i64 0), (.int .i64 0), (.int .i64 3)] h <| .mk fun v24 h =>
 k v24 h) <| .mk fun v25 h =>
 k v25 h)) <| .mk (
 qEql v3 (.int .i64 3) <| .mk fun v26 =>
 qIf v26 (.mk (
 qNil (nth a 0) <| .mk fun v27 =>
 qFadr 1 v27 <| .mk fun v28 =>
 qLoad1 v28 h <| .mk fun v29 =>
 qCall call (.fn 212 []) [v29, (.int .i64 99)] h <| .mk fun v30 h =>
 qAnd v30 h (.mk fun h k =>
 qCall call (.fn 229 []) [(nth a 0), (.int .i64 0), (.int .i64 0), (.int .i64 3)] h <| .mk fun v31 h =>
 k v31 h) <| .mk fun v32 h =>
 k v32 h)) <| .mk (
 qEql v3 (.int .i64 4) <| .mk fun v33 =>
 qIf v33 (.mk (
 qNil (nth a 0) <| .mk fun v34 =>
 qFadr 1 v34 <| .mk fun v35 =>
 qLoad1 v35 h <| .mk fun v36 =>
 qCall call (.fn 212 []) [v36, (.int .i64 4)] h <| .mk fun v37 h =>
 qAnd v37 h (.mk fun h k =>
 qCall call (.fn 229 []) [(nth a 0), (.int .i64 0), (.int .i64 2), (.int .i64 2)] h <| .mk fun v38 h =>
 k v38 h) <| .mk fun v39 h =>
 k v39 h)) <| .mk (
 qEql v3 (.int .i64 5) <| .mk fun v40 =>
 qIf v40 (.mk (
 qNil (nth a 0) <| .mk fun v41 =>
 qFadr 1 v41 <| .mk fun v42 =>
 qLoad1 v42 h <| .mk fun v43 =>
 qCall call (.fn 212 []) [v43, (.int .i64 99)] h <| .mk fun v44 h =>
 qAnd v44 h (.mk fun h k =>
 qCall call (.fn 229 []) [(nth a 0), (.int .i64 3), (.int .i64 3), (.int .i64 3)] h <| .mk fun v45 h =>
 k v45 h) <| .mk fun v46 h =>
 k v46 h)) <| .mk (
 qEql v3 (.int .i64 6) <| .mk fun v47 =>
 qIf v47 (.mk (
 qNil (nth a 0) <| .mk fun v48 =>
 qFadr 1 v48 <| .mk fun v49 =>
 qLoad1 v49 h <| .mk fun v50 =>
 qEql v50 (.int .i64 0) <| .mk fun v51 =>
 qAnd v51 h (.mk fun h k =>
 qCall call (.fn 229 []) [(nth a 0), (.int .i64 0), (.int .i64 2), (.int .i64 2)] h <| .mk fun v52 h =>
 k v52 h) <| .mk fun v53 h =>
 k v53 h)) <| .mk (
 qEql v3 (.int .i64 7) <| .mk fun v54 =>
 qIf v54 (.mk (
 qNil (nth a 0) <| .mk fun v55 =>
 qFadr 1 v55 <| .mk fun v56 =>
 qLoad1 v56 h <| .mk fun v57 =>
 qEql v57 (.int .i64 0) <| .mk fun v58 =>
 qAnd v58 h (.mk fun h k =>
 qCall call (.fn 229 []) [(nth a 0), (.int .i64 0), (.int .i64 0), (.int .i64 0)] h <| .mk fun v59 h =>
 k v59 h) <| .mk fun v60 h =>
 k v60 h)) <| .mk (
 j0 (nth a 0) (nth a 1) (.bool false) v3 h))))))))
theorem y213 {β : Type} (I : FI) (N : Nat) (call : FCall β) (a : List AV) (h : H) (k : K β) : fBody I 213 T.s213 N call a h k = f213 N call a h k := by kernel_rfl
noncomputable def f214_J0 {β : Type} (k : K β) (x0 x1 x2 : AV) (h : H) : Option β :=
 k (.int .i64 0) h
noncomputable def f214 {β : Type} (N : Nat) (call : FCall β) (a : List AV) (h : H) (k : K β) : Option β :=
 qJoin 3 (.mk (
 f214_J0 k)) <| .mk fun j0 =>
 qNeq (nth a 1) (.int .i64 1) <| .mk fun v1 =>
 qIf v1 (.mk (
 k (.int .i64 0) h)) <| .mk (
 qNil (nth a 0) <| .mk fun v2 =>
 qFadr 0 v2 <| .mk fun v3 =>
 qLoad1 v3 h <| .mk fun v4 =>
 qEql v4 (.int .i64 5) <| .mk fun v5 =>
 qIf v5 (.mk (
 qNil (nth a 0) <| .mk fun v6 =>
 qFadr 2 v6 <| .mk fun v7 =>
 qLoad1 v7 h <| .mk fun v8 =>
 k v8 h)) <| .mk (
 qNil (nth a 0) <| .mk fun v9 =>
 qFadr 0 v9 <| .mk fun v10 =>
 qLoad1 v10 h <| .mk fun v11 =>
 qEql v11 (.int .i64 6) <| .mk fun v12 =>
 qIf v12 (.mk (
 k (.int .i64 1) h)) <| .mk (
 j0 (nth a 0) (nth a 1) (.int .i64 0) h)))
theorem y214 {β : Type} (I : FI) (N : Nat) (call : FCall β) (a : List AV) (h : H) (k : K β) : fBody I 214 T.s214 N call a h k = f214 N call a h k := by kernel_rfl
noncomputable def f215_J0 {β : Type} (k : K β) (x0 x1 x2 x3 x4 x5 x6 : AV) (h : H) : Option β :=
 k (.int .i64 (-1)) h
noncomputable def f215_J5 {β : Type} (l2 : Cur β 7) (x0 x1 x2 x3 x4 x5 x6 : AV) (h : H) : Option β :=
 qAdd x5 (.int .i64 1) <| .mk fun v6 =>
 l2 x0 x1 x2 x3 x4 v6 x6 h
noncomputable def f215_J4 {β : Type} (call : FCall β) (k : K β) (l2 : Cur β 7) (x0 x1 x2 x3 x4 x5 x6 : AV) (h : H) : Option β :=
 qJoin 7 (.mk (
 f215_J5 l2)) <| .mk fun j5 =>
 qIadr 4 x0 x5 <| .mk fun v7 =>
 qLoadN 4 v7 h <| .mk fun v8 =>
 qCall call x1 [v8] h <| .mk fun v9 h =>
 qIf v9 (.mk (
 k x5 h)) <| .mk (
 j5 x0 x1 x2 x5 x4 x5 x6 h)
noncomputable def f215_L2 {β : Type} (call : FCall β) (k : K β) (j0 : Cur β 7) (l2 : Cur β 7) (x0 x1 x2 x3 x4 x5 x6 : AV) (h : H) : Option β :=
 qLss x5 x4 <| .mk fun v3 =>
 qJoin 7 (.mk (
 f215_J4 call k l2)) <| .mk fun j4 =>
 qIf v3 (.mk (
 j4 x0 x1 .any .any x4 x5 v3 h)) <| .mk (
 j0 x0 x1 .any .any x4 x5 v3 h)
noncomputable def f215 {β : Type} (N : Nat) (call : FCall β) (a : List AV) (h : H) (k : K β) : Option β :=
 qJoin 7 (.mk (
 f215_J0 k)) <| .mk fun j0 =>
 qLenL (nth a 0) <| .mk fun v1 =>
 (qLoop 7 N <| .mk (
 f215_L2 call k j0)) (nth a 0) (nth a 1) (.int .i64 0) (nth a 5) v1 (.int .i64 0) (nth a 9) h
theorem y215 {β : Type} (I : FI) (N : Nat) (call : FCall β) (a : List AV) (h : H) (k : K β) : fBody I 215 T.s215 N call a h k = f215 N call a h k := by kernel_rfl
noncomputable def f229 {β : Type} (N : Nat) (call : FCall β) (a : List AV) (h : H) (k : K β) : Option β :=
 qNil (nth a 0) <| .mk fun v0 =>
 qFadr 2 v0 <| .mk fun v1 =>
 qLoad1 v1 h <| .mk fun v2 =>
 qGeq v2 (.int .i64 0) <| .mk fun v3 =>
 qAnd v3 h (.mk fun h k =>
 qNil (nth a 0) <| .mk fun v4 =>
 qFadr 2 v4 <| .mk fun v5 =>
 qLoad1 v5 h <| .mk fun v6 =>
 qLeq v6 (nth a 1) <| .mk fun v7 =>
 k v7 h) <| .mk fun v8 h =>
 qAnd v8 h (.mk fun h k =>
 qNil (nth a 0) <| .mk fun v9 =>
 qFadr 3 v9 <| .mk fun v10 =>
 qLoad1 v10 h <| .mk fun v11 =>
 qLenL v11 <| .mk fun v12 =>
 qGeq v12 (nth a 2) <| .mk fun v13 =>
 k v13 h) <| .mk fun v14 h =>
 qAnd v14 h (.mk fun h k =>
 qNil (nth a 0) <| .mk fun v15 =>
 qFadr 3 v15 <| .mk fun v16 =>
 qLoad1 v16 h <| .mk fun v17 =>
 qLenL v17 <| .mk fun v18 =>
 qLeq v18 (nth a 3) <| .mk fun v19 =>
 k v19 h) <| .mk fun v20 h =>
 k v20 h
theorem y229 {β : Type} (I : FI) (N : Nat) (call : FCall β) (a : List AV) (h : H) (k : K β) : fBody I 229 T.s229 N call a h k = f229 N call a h k := by kernel_rfl
noncomputable def f261_J0 {β : Type} (k : K β) (x0 x1 x2 x3 x4 x5 : AV) (h : H) : Option β :=
 qLenL x0 <| .mk fun v1 =>
 qGtr v1 (.int .i64 0) <| .mk fun v2 =>
 k v2 h
noncomputable def f261_J7 {β : Type} (l4 : Cur β 6) (x0 x1 x2 x3 x4 x5 : AV) (h : H) : Option β :=
 qAdd x4 (.int .i64 1) <| .mk fun v8 =>
 l4 x0 x1 x2 x3 v8 x5 h
noncomputable def f261_J6 {β : Type} (call : FCall β) (k : K β) (l4 : Cur β 6) (x0 x1 x2 x3 x4 x5 : AV) (h : H) : Option β :=
 qJoin 6 (.mk (
 f261_J7 l4)) <| .mk fun j7 =>
 qIadr 4 x0 x4 <| .mk fun v9 =>
 qCall call (.fn 270 []) [v9, x4] h <| .mk fun v10 h =>
 qNot v10 <| .mk fun v11 =>
 qIf v11 (.mk (
 k (.bool false) h)) <| .mk (
 j7 x0 x1 x4 x3 x4 x5 h)
noncomputable def f261_L4 {β : Type} (call : FCall β) (k : K β) (j0 : Cur β 6) (l4 : Cur β 6) (x0 x1 x2 x3 x4 x5 : AV) (h : H) : Option β :=
 qLss x4 x3 <| .mk fun v5 =>
 qJoin 6 (.mk (
 f261_J6 call k l4)) <| .mk fun j6 =>
 qIf v5 (.mk (
 j6 x0 .any .any x3 x4 v5 h)) <| .mk (
 j0 x0 .any .any x3 x4 v5 h)
noncomputable def f261 {β : Type} (N : Nat) (call : FCall β) (a : List AV) (h : H) (k : K β) : Option β :=
 qJoin 6 (.mk (
 f261_J0 k)) <| .mk fun j0 =>
 qLenL (nth a 0) <| .mk fun v3 =>
 (qLoop 6 N <| .mk (
 f261_L4 call k j0)) (nth a 0) (.bool false) (nth a 3) v3 (.int .i64 0) (nth a 7) h
theorem y261 {β : Type} (I : FI) (N : Nat) (call : FCall β) (a : List AV) (h : H) (k : K β) : fBody I 261 T.s261 N call a h k = f261 N call a h k := by kernel_rfl
noncomputable def f262 {β : Type} (N : Nat) (call : FCall β) (a : List AV) (h : H) (k : K β) : Option β :=
 qBox 0 (nth a 0) h <| .mk fun v0 h =>
 qLoadN 1 v0 h <| .mk fun v1 =>
 qCall call (.fn 157 []) [v1] h <| .mk fun v2 h =>
 qAnd v2 h (.mk fun h k =>
 qCall call (.fn 261 []) [(nth a 1)] h <| .mk fun v3 h =>
 k v3 h) <| .mk fun v4 h =>
 qAnd v4 h (.mk fun h k =>
 qIadr 4 (nth a 1) (.int .i64 0) <| .mk fun v5 =>
 qFadr 0 v5 <| .mk fun v6 =>
 qLoad1 v6 h <| .mk fun v7 =>
 qEql v7 (.int .i64 0) <| .mk fun v8 =>
 k v8 h) <| .mk fun v9 h =>
 qAnd v9 h (.mk fun h k =>
 qCall call (.fn 272 []) [(nth a 1), (.fn 271 [v0])] h <| .mk fun v10 h =>
 qNot v10 <| .mk fun v11 =>
 k v11 h) <| .mk fun v12 h =>
 k v12 h
theorem y262 {β : Type} (I : FI) (N : Nat) (call : FCall β) (a : List AV) (h : H) (k : K β) : fBody I 262 T.s262 N call a h k = f262 N call a h k := by kernel_rfl
noncomputable def f270 {β : Type} (N : Nat) (call : FCall β) (a : List AV) (h : H) (k : K β) : Option β :=
 qNil (nth a 0) <| .mk fun v0 =>
 qFadr 1 v0 <| .mk fun v1 =>
 qLoad1 v1 h <| .mk fun v2 =>
 qGeq v2 (.int .i64 0) <| .mk fun v3 =>
 qAnd v3 h (.mk fun h k =>
 qNil (nth a 0) <| .mk fun v4 =>
 qFadr 1 v4 <| .mk fun v5 =>
 qLoad1 v5 h <| .mk fun v6 =>
 qLss v6 (nth a 1) <| .mk fun v7 =>
 k v7 h) <| .mk fun v8 h =>
 qOr v8 h (.mk fun h k =>
 qEql (nth a 1) (.int .i64 0) <| .mk fun v9 =>
 qAnd v9 h (.mk fun h k =>
 qNil (nth a 0) <| .mk fun v10 =>
 qFadr 1 v10 <| .mk fun v11 =>
 qLoad1 v11 h <| .mk fun v12 =>
 qEql v12 (.int .i64 (-1)) <| .mk fun v13 =>
 k v13 h) <| .mk fun v14 h =>
 k v14 h) <| .mk fun v15 h =>
 qLss (nth a 1) (.int .i64 512) <| .mk fun v16 =>
 qAnd v16 h (.mk fun h k =>
 k v15 h) <| .mk fun v17 h =>
 qAnd v17 h (.mk fun h k =>
 qCall call (.fn 269 []) [(nth a 0)] h <| .mk fun v18 h =>
 k v18 h) <| .mk fun v19 h =>
 k v19 h
theorem y270 {β : Type} (I : FI) (N : Nat) (call : FCall β) (a : List AV) (h : H) (k : K β) : fBody I 270 T.s270 N call a h k = f270 N call a h k := by kernel_rfl
noncomputable def f271 {β : Type} (N : Nat) (call : FCall β) (a : List AV) (h : H) (k : K β) : Option β :=
 qBox 0 (nth a 0) h <| .mk fun v0 h =>
 qFadr 0 v0 <| .mk fun v1 =>
 qLoad1 v1 h <| .mk fun v2 =>
 qFadr 0 (nth a 1) <| .mk fun v3 =>
 qLoad1 v3 h <| .mk fun v4 =>
 qLenL v4 <| .mk fun v5 =>
 qGeq v2 v5 <| .mk fun v6 =>
 qGrd v6 false h (.mk fun h k =>
 qFadr 2 v0 <| .mk fun v7 =>
 k v7 h) <| .mk fun v8 h =>
 qGrd v6 false h (.mk fun h k =>
 qLoad1 v8 h <| .mk fun v9 =>
 k v9 h) <| .mk fun v10 h =>
 qGrd v6 false h (.mk fun h k =>
 qLenL v10 <| .mk fun v11 =>
 k v11 h) <| .mk fun v12 h =>
 qGrd v6 false h (.mk fun h k =>
 qFadr 0 (nth a 1) <| .mk fun v13 =>
 k v13 h) <| .mk fun v14 h =>
 qGrd v6 false h (.mk fun h k =>
 qLoad1 v14 h <| .mk fun v15 =>
 k v15 h) <| .mk fun v16 h =>
 qGrd v6 false h (.mk fun h k =>
 qFadr 0 v0 <| .mk fun v17 =>
 k v17 h) <| .mk fun v18 h =>
 qGrd v6 false h (.mk fun h k =>
 qLoad1 v18 h <| .mk fun v19 =>
 k v19 h) <| .mk fun v20 h =>
 qGrd v6 false h (.mk fun h k =>
 qIadr 2 v16 v20 <| .mk fun v21 =>
 k v21 h) <| .mk fun v22 h =>
 qGrd v6 false h (.mk fun h k =>
 qFadr 0 v22 <| .mk fun v23 =>
 k v23 h) <| .mk fun v24 h =>
 qGrd v6 false h (.mk fun h k =>
 qLoad1 v24 h <| .mk fun v25 =>
 k v25 h) <| .mk fun v26 h =>
 qGrd v6 false h (.mk fun h k =>
 qNeq v12 v26 <| .mk fun v27 =>
 k v27 h) <| .mk fun v28 h =>
 qPick v6 (.bool true) v28 <| .mk fun v29 =>
 k v29 h
theorem y271 {β : Type} (I : FI) (N : Nat) (call : FCall β) (a : List AV) (h : H) (k : K β) : fBody I 271 T.s271 N call a h k = f271 N call a h k := by kernel_rfl
noncomputable def f272 {β : Type} (N : Nat) (call : FCall β) (a : List AV) (h : H) (k : K β) : Option β :=
 qCall call (.fn 276 []) [(nth a 0), (nth a 1)] h <| .mk fun v0 h =>
 qGeq v0 (.int .i64 0) <| .mk fun v1 =>
 k v1 h
theorem y272 {β : Type} (I : FI) (N : Nat) (call : FCall β) (a : List AV) (h : H) (k : K β) : fBody I 272 T.s272 N call a h k = f272 N call a h k := by kernel_rfl
noncomputable def f276_J0 {β : Type} (k : K β) (x0 x1 x2 x3 x4 x5 x6 : AV) (h : H) : Option β :=
 k (.int .i64 (-1)) h
noncomputable def f276_J5 {β : Type} (l2 : Cur β 7) (x0 x1 x2 x3 x4 x5 x6 : AV) (h : H) : Option β :=
 qAdd x5 (.int .i64 1) <| .mk fun v6 =>
 l2 x0 x1 x2 x3 x4 v6 x6 h
noncomputable def f276_J4 {β : Type} (call : FCall β) (k : K β) (l2 : Cur β 7) (x0 x1 x2 x3 x4 x5 x6 : AV) (h : H) : Option β :=
 qJoin 7 (.mk (
 f276_J5 l2)) <| .mk fun j5 =>
 qIadr 4 x0 x5 <| .mk fun v7 =>
 qLoadN 4 v7 h <| .mk fun v8 =>
 qCall call x1 [v8] h <| .mk fun v9 h =>
 qIf v9 (.mk (
 k x5 h)) <| .mk (
 j5 x0 x1 x2 x5 x4 x5 x6 h)
noncomputable def f276_L2 {β : Type} (call : FCall β) (k : K β) (j0 : Cur β 7) (l2 : Cur β 7) (x0 x1 x2 x3 x4 x5 x6 : AV) (h : H) : Option β :=
 qLss x5 x4 <| .mk fun v3 =>
 qJoin 7 (.mk (
 f276_J4 call k l2)) <| .mk fun j4 =>
 qIf v3 (.mk (
 j4 x0 x1 .any .any x4 x5 v3 h)) <| .mk (
 j0 x0 x1 .any .any x4 x5 v3 h)
noncomputable def f276 {β : Type} (N : Nat) (call : FCall β) (a : List AV) (h : H) (k : K β) : Option β :=
 qJoin 7 (.mk (
 f276_J0 k)) <| .mk fun j0 =>
 qLenL (nth a 0) <| .mk fun v1 =>
 (qLoop 7 N <| .mk (
 f276_L2 call k j0)) (nth a 0) (nth a 1) (.int .i64 0) (nth a 5) v1 (.int .i64 0) (nth a 9) h
theorem y276 {β : Type} (I : FI) (N : Nat) (call : FCall β) (a : List AV) (h : H) (k : K β) : fBody I 276 T.s276 N call a h k = f276 N call a h k := by kernel_rfl
noncomputable def e149 : Ent := ⟨149, T.s149, fun _ _ N call a h k => f149 N call a h k, fun _ I N call a h k => y149 I N call a h k⟩
noncomputable def e157 : Ent := ⟨157, T.s157, fun _ _ N call a h k => f157 N call a h k, fun _ I N call a h k => y157 I N call a h k⟩
noncomputable def e179 : Ent := ⟨179, T.s179, fun _ _ N call a h k => f179 N call a h k, fun _ I N call a h k => y179 I N call a h k⟩
noncomputable def e186 : Ent := ⟨186, T.s186, fun _ _ N call a h k => f186 N call a h k, fun _ I N call a h k => y186 I N call a h k⟩
noncomputable def e187 : Ent := ⟨187, T.s187, fun _ _ N call a h k => f187 N call a h k, fun _ I N call a h k => y187 I N call a h k⟩
noncomputable def e188 : Ent := ⟨188, T.s188, fun _ _ N call a h k => f188 N call a h k, fun _ I N call a h k => y188 I N call a h k⟩
noncomputable def e202 : Ent := ⟨202, T.s202, fun _ _ N call a h k => f202 N call a h k, fun _ I N call a h k => y202 I N call a h k⟩
noncomputable def e203 : Ent := ⟨203, T.s203, fun _ _ N call a h k => f203 N call a h k, fun _ I N call a h k => y203 I N call a h k⟩
noncomputable def e212 : Ent := ⟨212, T.s212, fun _ _ N call a h k => f212 N call a h k, fun _ I N call a h k => y212 I N call a h k⟩
noncomputable def e213 : Ent := ⟨213, T.s213, fun _ _ N call a h k => f213 N call a h k, fun _ I N call a h k => y213 I N call a h k⟩
noncomputable def e214 : Ent := ⟨214, T.s214, fun _ _ N call a h k => f214 N call a h k, fun _ I N call a h k => y214 I N call a h k⟩
noncomputable def e215 : Ent := ⟨215, T.s215, fun _ _ N call a h k => f215 N call a h k, fun _ I N call a h k => y215 I N call a h k⟩
noncomputable def e229 : Ent := ⟨229, T.s229, fun _ _ N call a h k => f229 N call a h k, fun _ I N call a h k => y229 I N call a h k⟩
noncomputable def e261 : Ent := ⟨261, T.s261, fun _ _ N call a h k => f261 N call a h k, fun _ I N call a h k => y261 I N call a h k⟩
noncomputable def e262 : Ent := ⟨262, T.s262, fun _ _ N call a h k => f262 N call a h k, fun _ I N call a h k => y262 I N call a h k⟩
noncomputable def e270 : Ent := ⟨270, T.s270, fun _ _ N call a h k => f270 N call a h k, fun _ I N call a h k => y270 I N call a h k⟩
noncomputable def e271 : Ent := ⟨271, T.s271, fun _ _ N call a h k => f271 N call a h k, fun _ I N call a h k => y271 I N call a h k⟩
noncomputable def e272 : Ent := ⟨272, T.s272, fun _ _ N call a h k => f272 N call a h k, fun _ I N call a h k => y272 I N call a h k⟩
noncomputable def e276 : Ent := ⟨276, T.s276, fun _ _ N call a h k => f276 N call a h k, fun _ I N call a h k => y276 I N call a h k⟩
structure GC (t : ETree) : Prop where
  g149 : t.get 149 = some e149
  g157 : t.get 157 = some e157
  g179 : t.get 179 = some e179
  g186 : t.get 186 = some e186
  g187 : t.get 187 = some e187
  g188 : t.get 188 = some e188
  g202 : t.get 202 = some e202
  g203 : t.get 203 = some e203
  g212 : t.get 212 = some e212
  g213 : t.get 213 = some e213
  g214 : t.get 214 = some e214
  g215 : t.get 215 = some e215
  g229 : t.get 229 = some e229
  g261 : t.get 261 = some e261
  g262 : t.get 262 = some e262
  g270 : t.get 270 = some e270
  g271 : t.get 271 = some e271
  g272 : t.get 272 = some e272
  g276 : t.get 276 = some e276
section
variable {β : Type} {t : ETree} {I : FI}
end
end Am.F
