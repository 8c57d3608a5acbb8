/- What the functions come to. -/
import Derived.Test.YtpalaplnolcimaaDoorAmGL12T
import Derived.Test.YtpalaplnolcimaaDoorAmJc
set_option maxRecDepth 100000
set_option linter.unusedVariables false
namespace Am.F
open Go Am
noncomputable def f250_J4 {β : Type} (call : FCall β) (k : K β) (x0 x1 x2 x3 x4 x5 x6 x7 x8 x9 x10 x11 x12 x13 : AV) (h : H) : Option β :=
 qCall call (.fn 260 []) [] h <| .mk fun v5 h =>
 qCall call (.fn 261 []) [v5] h <| .mk fun v6 h =>
 qAnd v6 h (.mk fun h k =>
 qCall call (.fn 261 []) [x4] h <| .mk fun v7 h =>
 qNot v7 <| .mk fun v8 =>
 k v8 h) <| .mk fun v9 h =>
 qAnd v9 h (.mk fun h k =>
 qCall call (.fn 263 []) [] h <| .mk fun v10 h =>
 qCall call (.fn 262 []) [v10, x4] h <| .mk fun v11 h =>
 qNot v11 <| .mk fun v12 =>
 k v12 h) <| .mk fun v13 h =>
 qAnd v13 h (.mk fun h k =>
 qCall call (.fn 16 []) [(.int .i64 0)] h <| .mk fun v14 h =>
 qEql v14 (.int .i64 0) <| .mk fun v15 =>
 k v15 h) <| .mk fun v16 h =>
 qAnd v16 h (.mk fun h k =>
 qCall call (.fn 41 []) [(.int .i64 0)] h <| .mk fun v17 h =>
 k v17 h) <| .mk fun v18 h =>
 k v18 h
noncomputable def f250_J67 {β : Type} (j4 : Cur β 14) (x0 x1 x2 x3 x4 x5 x6 x7 x8 x9 x10 x11 x12 x13 : AV) (h : H) : Option β :=
 qIadr 4 x4 (.int .i64 0) <| .mk fun v68 =>
 qFadr 1 v68 <| .mk fun v69 =>
 qStore 1 v69 (.int .i64 (-1)) h <| .mk fun h =>
 j4 x0 x1 x2 x3 x4 x5 x6 x7 x8 x9 x10 x11 x12 x13 h
noncomputable def f250_J72 {β : Type} (l70 : Cur β 14) (x0 x1 x2 x3 x4 x5 x6 x7 x8 x9 x10 x11 x12 x13 : AV) (h : H) : Option β :=
 qAdd x5 (.int .i64 1) <| .mk fun v73 =>
 l70 x0 x1 x2 x3 x4 v73 x6 x7 x8 x9 x10 x11 x12 x13 h
noncomputable def f250_J71 {β : Type} (l70 : Cur β 14) (x0 x1 x2 x3 x4 x5 x6 x7 x8 x9 x10 x11 x12 x13 : AV) (h : H) : Option β :=
 qJoin 14 (.mk (
 f250_J72 l70)) <| .mk fun j72 =>
 qIadr 4 x4 x5 <| .mk fun v74 =>
 qFadr 3 v74 <| .mk fun v75 =>
 qStore 1 v75 (.str [49]) h <| .mk fun h =>
 j72 x0 x1 x2 x3 x4 x5 x6 x7 x8 x9 x10 x11 x12 x13 h
noncomputable def f250_L70 {β : Type} (j67 : Cur β 14) (l70 : Cur β 14) (x0 x1 x2 x3 x4 x5 x6 x7 x8 x9 x10 x11 x12 x13 : AV) (h : H) : Option β :=
 qJoin 14 (.mk (
 f250_J71 l70)) <| .mk fun j71 =>
 qLenL x4 <| .mk fun v76 =>
 qLss x5 v76 <| .mk fun v77 =>
 qIf v77 (.mk (
 j71 .any .any .any .any x4 x5 .any .any .any .any .any .any .any .any h)) <| .mk (
 j67 .any .any .any .any x4 x5 .any .any .any .any .any .any .any .any h)
noncomputable def f250_J0 {β : Type} (N : Nat) (call : FCall β) (k : K β) (x0 x1 x2 x3 x4 x5 x6 x7 x8 x9 x10 x11 x12 x13 : AV) (h : H) : Option β :=
 qBin .and x1 (.int .i64 1023) <| .mk fun v1 =>
 qAdd (.int .i64 1) v1 <| .mk fun v2 =>
 qCall call (.fn 260 []) [] h <| .mk fun v3 h =>
 qJoin 14 (.mk (
 f250_J4 call k)) <| .mk fun j4 =>
 qConv .u64 x0 <| .mk fun v19 =>
 qBin .rem v19 (.int .u64 12) <| .mk fun v20 =>
 qEql v20 (.int .u64 0) <| .mk fun v21 =>
 qIf v21 (.mk (
 j4 x0 x1 x2 v2 .nils x5 v20 x7 x8 x9 x10 x11 x12 x13 h)) <| .mk (
 qEql v20 (.int .u64 1) <| .mk fun v22 =>
 qIf v22 (.mk (
 qIadr 4 v3 (.int .i64 0) <| .mk fun v23 =>
 qFadr 1 v23 <| .mk fun v24 =>
 qStore 1 v24 (.int .i64 0) h <| .mk fun h =>
 j4 x0 x1 x2 v2 v3 x5 v20 x7 x8 x9 x10 x11 x12 x13 h)) <| .mk (
 qEql v20 (.int .u64 2) <| .mk fun v25 =>
 qIf v25 (.mk (
 qSub (.int .i64 (-1)) v2 <| .mk fun v26 =>
 qIadr 4 v3 (.int .i64 0) <| .mk fun v27 =>
 qFadr 1 v27 <| .mk fun v28 =>
 qStore 1 v28 v26 h <| .mk fun h =>
 j4 x0 x1 x2 v2 v3 x5 v20 x7 v3 x9 x10 x11 x12 x13 h)) <| .mk (
 qEql v20 (.int .u64 3) <| .mk fun v29 =>
 qIf v29 (.mk (
 qNeg v2 <| .mk fun v30 =>
 qIadr 4 v3 (.int .i64 3) <| .mk fun v31 =>
 qFadr 1 v31 <| .mk fun v32 =>
 qStore 1 v32 v30 h <| .mk fun h =>
 j4 x0 x1 x2 v2 v3 x5 v20 x7 x8 v3 x10 x11 x12 x13 h)) <| .mk (
 qEql v20 (.int .u64 4) <| .mk fun v33 =>
 qIf v33 (.mk (
 qAdd (.int .i64 2) v2 <| .mk fun v34 =>
 qIadr 4 v3 (.int .i64 3) <| .mk fun v35 =>
 qFadr 1 v35 <| .mk fun v36 =>
 qStore 1 v36 v34 h <| .mk fun h =>
 j4 x0 x1 x2 v2 v3 x5 v20 x7 x8 x9 v3 x11 x12 x13 h)) <| .mk (
 qEql v20 (.int .u64 5) <| .mk fun v37 =>
 qIf v37 (.mk (
 qNeg v2 <| .mk fun v38 =>
 qIadr 4 v3 (.int .i64 3) <| .mk fun v39 =>
 qFadr 0 v39 <| .mk fun v40 =>
 qStore 1 v40 v38 h <| .mk fun h =>
 j4 x0 x1 x2 v2 v3 x5 v20 x7 x8 x9 x10 v3 x12 x13 h)) <| .mk (
 qEql v20 (.int .u64 6) <| .mk fun v41 =>
 qIf v41 (.mk (
 qAdd (.int .i64 7) v2 <| .mk fun v42 =>
 qIadr 4 v3 (.int .i64 3) <| .mk fun v43 =>
 qFadr 0 v43 <| .mk fun v44 =>
 qStore 1 v44 v42 h <| .mk fun h =>
 j4 x0 x1 x2 v2 v3 x5 v20 x7 x8 x9 x10 x11 v3 x13 h)) <| .mk (
 qEql v20 (.int .u64 7) <| .mk fun v45 =>
 qIf v45 (.mk (
 qBslice 0 [(.str []), (.str []), (.str []), (.str [])] 4 [(0, 1), (1, 1), (2, 1), (3, 1)] [(.str [49]), (.str [50]), (.str [51]), (.str [52])] h <| .mk fun v46 h =>
 qIadr 4 v3 (.int .i64 3) <| .mk fun v47 =>
 qFadr 2 v47 <| .mk fun v48 =>
 qStore 1 v48 v46 h <| .mk fun h =>
 j4 x0 x1 x2 v2 v3 x5 v20 x7 x8 x9 x10 x11 x12 v3 h)) <| .mk (
 qEql v20 (.int .u64 8) <| .mk fun v49 =>
 qIf v49 (.mk (
 qIadr 4 v3 (.int .i64 3) <| .mk fun v50 =>
 qFadr 2 v50 <| .mk fun v51 =>
 qLoad1 v51 h <| .mk fun v52 =>
 qBin .and x1 (.int .i64 3) <| .mk fun v53 =>
 qBslice 0 [(.str []), (.str []), (.str []), (.str [])] 4 [(0, 1), (1, 1), (2, 1), (3, 1)] [(.str []), (.str [48, 49]), (.str [120]), (.str [64, 49, 40, 41])] h <| .mk fun v54 h =>
 qLoad1 v51 h <| .mk fun v55 =>
 qChk v55 v52 <| .mk (
 qIadr 1 v54 v53 <| .mk fun v56 =>
 qLoad1 v56 h <| .mk fun v57 =>
 qIadr 1 v52 (.int .i64 1) <| .mk fun v58 =>
 qStore 1 v58 v57 h <| .mk fun h =>
 j4 x0 x1 x2 v2 v3 x5 v20 x7 x8 x9 x10 x11 x12 x13 h))) <| .mk (
 qEql v20 (.int .u64 9) <| .mk fun v59 =>
 qIf v59 (.mk (
 qIadr 4 v3 (.int .i64 3) <| .mk fun v60 =>
 qFadr 3 v60 <| .mk fun v61 =>
 qStore 1 v61 (.str []) h <| .mk fun h =>
 j4 x0 x1 x2 v2 v3 x5 v20 x7 x8 x9 x10 x11 x12 x13 h)) <| .mk (
 qEql v20 (.int .u64 10) <| .mk fun v62 =>
 qIf v62 (.mk (
 qIadr 4 v3 (.int .i64 0) <| .mk fun v63 =>
 qFadr 3 v63 <| .mk fun v64 =>
 qStore 1 v64 (.str [64, 49, 48, 48]) h <| .mk fun h =>
 j4 x0 x1 x2 v2 v3 x5 v20 x7 x8 x9 x10 x11 x12 x13 h)) <| .mk (
 qAdd (.int .i64 512) v2 <| .mk fun v65 =>
 qMkslice 0 [(.int .i64 0), (.int .i64 0), .nils, (.str [])] 56 v65 v65 h <| .mk fun v66 h =>
 qJoin 14 (.mk (
 f250_J67 j4)) <| .mk fun j67 =>
 (qLoop 14 N <| .mk (
 f250_L70 j67)) x0 x1 x2 v2 v66 (.int .i64 0) v20 v65 x8 x9 x10 x11 x12 x13 h)))))))))))
noncomputable def f250 {β : Type} (N : Nat) (call : FCall β) (a : List AV) (h : H) (k : K β) : Option β :=
 qJoin 14 (.mk (
 f250_J0 N call k)) <| .mk fun j0 =>
 qCall call (.fn 259 []) [] h <| .mk fun v78 h =>
 qNot v78 <| .mk fun v79 =>
 qIf v79 (.mk (
 k (.bool false) h)) <| .mk (
 j0 (nth a 0) (nth a 1) (.bool false) (nth a 5) (nth a 6) (nth a 7) (nth a 16) (nth a 18) (nth a 42) (nth a 49) (nth a 56) (nth a 63) (nth a 70) (nth a 77) h)
theorem y250 {β : Type} (I : FI) (N : Nat) (call : FCall β) (a : List AV) (h : H) (k : K β) : fBody I 250 T.s250 N call a h k = f250 N call a h k := by kernel_rfl
noncomputable def f293_J2 {β : Type} (call : FCall β) (k : K β) (x0 x1 x2 x3 x4 x5 : AV) (h : H) : Option β :=
 qConv .u64 x2 <| .mk fun v3 =>
 qLenL x1 <| .mk fun v4 =>
 qConv .u64 v4 <| .mk fun v5 =>
 qBin .rem v3 v5 <| .mk fun v6 =>
 qConv .i64 v6 <| .mk fun v7 =>
 qAdd (.int .i64 1) v7 <| .mk fun v8 =>
 qCall call (.fn 261 []) [x1] h <| .mk fun v9 h =>
 qNot v9 <| .mk fun v10 =>
 qGrd v10 false h (.mk fun h k =>
 k x1 h) <| .mk fun v11 h =>
 qGrd v10 false h (.mk fun h k =>
 k v8 h) <| .mk fun v12 h =>
 qGrd v10 false h (.mk fun h k =>
 qSlL 4 false true false v11 [v12] <| .mk fun v13 =>
 k v13 h) <| .mk fun v14 h =>
 qGrd v10 false h (.mk fun h k =>
 qCall call (.fn 261 []) [v14] h <| .mk fun v15 h =>
 k v15 h) <| .mk fun v16 h =>
 qPick v10 (.bool true) v16 <| .mk fun v17 =>
 qGrd v17 true h (.mk fun h k =>
 qLoadN 1 x3 h <| .mk fun v18 =>
 k v18 h) <| .mk fun v19 h =>
 qGrd v17 true h (.mk fun h k =>
 k x1 h) <| .mk fun v20 h =>
 qGrd v17 true h (.mk fun h k =>
 qCall call (.fn 262 []) [v19, v20] h <| .mk fun v21 h =>
 k v21 h) <| .mk fun v22 h =>
 qGrd v17 true h (.mk fun h k =>
 qNot v22 <| .mk fun v23 =>
 k v23 h) <| .mk fun v24 h =>
 qGrd v17 true h (.mk fun h k =>
 k v24 h) <| .mk fun v25 h =>
 qGrd v25 false h (.mk fun h k =>
 qLoadN 1 x3 h <| .mk fun v26 =>
 k v26 h) <| .mk fun v27 h =>
 qGrd v25 false h (.mk fun h k =>
 k x1 h) <| .mk fun v28 h =>
 qGrd v25 false h (.mk fun h k =>
 k v8 h) <| .mk fun v29 h =>
 qGrd v25 false h (.mk fun h k =>
 qSlL 4 false true false v28 [v29] <| .mk fun v30 =>
 k v30 h) <| .mk fun v31 h =>
 qGrd v25 false h (.mk fun h k =>
 qCall call (.fn 262 []) [v27, v31] h <| .mk fun v32 h =>
 k v32 h) <| .mk fun v33 h =>
 qGrd v25 false h (.mk fun h k =>
 k v33 h) <| .mk fun v34 h =>
 qGrd v34 true h (.mk fun h k =>
 k x1 h) <| .mk fun v35 h =>
 qGrd v34 true h (.mk fun h k =>
 qCall call (.fn 261 []) [v35] h <| .mk fun v36 h =>
 k v36 h) <| .mk fun v37 h =>
 qGrd v25 false h (.mk fun h k =>
 qPick v34 v37 (.bool false) <| .mk fun v38 =>
 k v38 h) <| .mk fun v39 h =>
 qGrd v17 true h (.mk fun h k =>
 qPick v25 (.bool true) v39 <| .mk fun v40 =>
 k v40 h) <| .mk fun v41 h =>
 qPick v17 v41 (.bool false) <| .mk fun v42 =>
 k v42 h
noncomputable def f293_J1 {β : Type} (call : FCall β) (k : K β) (x0 x1 x2 x3 x4 x5 : AV) (h : H) : Option β :=
 qJoin 6 (.mk (
 f293_J2 call k)) <| .mk fun j2 =>
 qLenL x1 <| .mk fun v43 =>
 qEql v43 (.int .i64 0) <| .mk fun v44 =>
 qIf v44 (.mk (
 qCall call (.fn 261 []) [x1] h <| .mk fun v45 h =>
 qNot v45 <| .mk fun v46 =>
 qAnd v46 h (.mk fun h k =>
 qLoadN 1 x3 h <| .mk fun v47 =>
 qCall call (.fn 262 []) [v47, x1] h <| .mk fun v48 h =>
 qNot v48 <| .mk fun v49 =>
 k v49 h) <| .mk fun v50 h =>
 k v50 h)) <| .mk (
 j2 x0 x1 x2 x3 x4 x5 h)
noncomputable def f293 {β : Type} (N : Nat) (call : FCall β) (a : List AV) (h : H) (k : K β) : Option β :=
 qBox 0 (nth a 0) h <| .mk fun v0 h =>
 qJoin 6 (.mk (
 f293_J1 call k)) <| .mk fun j1 =>
 qCall call (.fn 259 []) [] h <| .mk fun v51 h =>
 qNot v51 <| .mk fun v52 =>
 qIf v52 (.mk (
 k (.bool false) h)) <| .mk (
 j1 (nth a 0) (nth a 1) (nth a 2) v0 (.bool false) (nth a 7) h)
theorem y293 {β : Type} (I : FI) (N : Nat) (call : FCall β) (a : List AV) (h : H) (k : K β) : fBody I 293 T.s293 N call a h k = f293 N call a h k := by kernel_rfl
noncomputable def f294_J4 {β : Type} (call : FCall β) (k : K β) (x0 x1 x2 x3 x4 : AV) (h : H) : Option β :=
 qCall call (.fn 16 []) [(.int .i64 0)] h <| .mk fun v5 h =>
 qEql v5 (.int .i64 0) <| .mk fun v6 =>
 qAnd v6 h (.mk fun h k =>
 qCall call (.fn 261 []) [x3] h <| .mk fun v7 h =>
 k v7 h) <| .mk fun v8 h =>
 qAnd v8 h (.mk fun h k =>
 qCall call (.fn 263 []) [] h <| .mk fun v9 h =>
 qCall call (.fn 262 []) [v9, x3] h <| .mk fun v10 h =>
 qBin .and x1 (.int .i64 7) <| .mk fun v11 =>
 qEql v11 (.int .i64 0) <| .mk fun v12 =>
 qEqB false v10 v12 <| .mk fun v13 =>
 k v13 h) <| .mk fun v14 h =>
 qAnd v14 h (.mk fun h k =>
 qCall call (.fn 263 []) [] h <| .mk fun v15 h =>
 qCall call (.fn 149 []) [v15] h <| .mk fun v16 h =>
 k v16 h) <| .mk fun v17 h =>
 qAnd v17 h (.mk fun h k =>
 qCall call (.fn 260 []) [] h <| .mk fun v18 h =>
 qLenL v18 <| .mk fun v19 =>
 qEql v19 (.int .i64 5) <| .mk fun v20 =>
 k v20 h) <| .mk fun v21 h =>
 k v21 h
noncomputable def f294_J24 {β : Type} (l22 : Cur β 5) (x0 x1 x2 x3 x4 : AV) (h : H) : Option β :=
 qAdd x4 (.int .i64 1) <| .mk fun v25 =>
 l22 x0 x1 x2 x3 v25 h
noncomputable def f294_J23 {β : Type} (l22 : Cur β 5) (x0 x1 x2 x3 x4 : AV) (h : H) : Option β :=
 qJoin 5 (.mk (
 f294_J24 l22)) <| .mk fun j24 =>
 qIadr 1 x0 x4 <| .mk fun v26 =>
 qLoad1 v26 h <| .mk fun v27 =>
 qConv .u64 v27 <| .mk fun v28 =>
 qAdd x4 (.int .i64 1) <| .mk fun v29 =>
 qConv .u64 v29 <| .mk fun v30 =>
 qBin .rem v28 v30 <| .mk fun v31 =>
 qConv .i64 v31 <| .mk fun v32 =>
 qBuild [(.int .i64 0), (.int .i64 0), .nils, (.str [])] [(1, 1), (3, 1)] [v32, (.str [95])] <| .mk fun v33 =>
 qBslice 0 [(.int .i64 0), (.int .i64 0), .nils, (.str [])] 1 [(0, 4)] [v33] h <| .mk fun v34 h =>
 qApp 0 4 56 x3 v34 h <| .mk fun v35 h =>
 j24 x0 x1 x2 v35 x4 h
noncomputable def f294_L22 {β : Type} (j4 : Cur β 5) (l22 : Cur β 5) (x0 x1 x2 x3 x4 : AV) (h : H) : Option β :=
 qJoin 5 (.mk (
 f294_J23 l22)) <| .mk fun j23 =>
 qLenL x0 <| .mk fun v36 =>
 qLss x4 v36 <| .mk fun v37 =>
 qAnd v37 h (.mk fun h k =>
 qLss x4 (.int .i64 40) <| .mk fun v38 =>
 k v38 h) <| .mk fun v39 h =>
 qIf v39 (.mk (
 j23 x0 x1 .any x3 x4 h)) <| .mk (
 j4 x0 x1 .any x3 x4 h)
noncomputable def f294_J0 {β : Type} (N : Nat) (call : FCall β) (k : K β) (x0 x1 x2 x3 x4 : AV) (h : H) : Option β :=
 qBin .and x1 (.int .i64 7) <| .mk fun v1 =>
 qBuild [(.int .i64 0), (.int .i64 0), .nils, (.str [])] [(1, 1), (0, 1), (3, 1)] [(.int .i64 (-1)), v1, (.str [49])] <| .mk fun v2 =>
 qBslice 0 [(.int .i64 0), (.int .i64 0), .nils, (.str [])] 1 [(0, 4)] [v2] h <| .mk fun v3 h =>
 qJoin 5 (.mk (
 f294_J4 call k)) <| .mk fun j4 =>
 (qLoop 5 N <| .mk (
 f294_L22 j4)) x0 x1 x2 v3 (.int .i64 0) h
noncomputable def f294 {β : Type} (N : Nat) (call : FCall β) (a : List AV) (h : H) (k : K β) : Option β :=
 qJoin 5 (.mk (
 f294_J0 N call k)) <| .mk fun j0 =>
 qCall call (.fn 259 []) [] h <| .mk fun v40 h =>
 qNot v40 <| .mk fun v41 =>
 qIf v41 (.mk (
 k (.bool false) h)) <| .mk (
 j0 (nth a 0) (nth a 1) (.bool false) (nth a 5) (nth a 6) h)
theorem y294 {β : Type} (I : FI) (N : Nat) (call : FCall β) (a : List AV) (h : H) (k : K β) : fBody I 294 T.s294 N call a h k = f294 N call a h k := by kernel_rfl
noncomputable def e250 : Ent := ⟨250, T.s250, fun _ _ N call a h k => f250 N call a h k, fun _ I N call a h k => y250 I N call a h k⟩
noncomputable def e293 : Ent := ⟨293, T.s293, fun _ _ N call a h k => f293 N call a h k, fun _ I N call a h k => y293 I N call a h k⟩
noncomputable def e294 : Ent := ⟨294, T.s294, fun _ _ N call a h k => f294 N call a h k, fun _ I N call a h k => y294 I N call a h k⟩
structure GL12 (t : ETree) : Prop where
  g250 : t.get 250 = some e250
  g293 : t.get 293 = some e293
  g294 : t.get 294 = some e294
section
variable {β : Type} {t : ETree} {I : FI}
theorem GL12.c250 (T : GL12 t) (n : Nat) (a : List AV) (h : H) (k : K β) : fRunS t I (n + 1) (.fn 250 []) a h k = f250 n (fRunS t I n) a h k := by rw [fRunS_succ t I n 250 [] a h k T.g250, List.append_nil]; rfl
theorem GL12.c294 (T : GL12 t) (n : Nat) (a : List AV) (h : H) (k : K β) : fRunS t I (n + 1) (.fn 294 []) a h k = f294 n (fRunS t I n) a h k := by rw [fRunS_succ t I n 294 [] a h k T.g294, List.append_nil]; rfl
end
end Am.F
