/- What the functions come to. -/
import Derived.Test.YtmddflmckmopiaaDoorAmGNMT
import Derived.Test.YtmddflmckmopiaaDoorAmJc
import Derived.Test.YtmddflmckmopiaaDoorAmQk
set_option maxRecDepth 100000
set_option linter.unusedVariables false
namespace Am.F
open Go Am
noncomputable def f155_J13 {β : Type} (call : FCall β) (k : K β) (x0 x1 x2 x3 x4 x5 x6 x7 x8 x9 x10 x11 x12 x13 x14 x15 x16 x17 x18 x19 : AV) (h : H) : Option β :=
 qCall call (.fn 185 []) [x10] h <| .mk fun v14 h =>
 k (.tup [v14, (.int .i64 0)]) h
noncomputable def f155_J7 {β : Type} (call : FCall β) (k : K β) (x0 x1 x2 x3 x4 x5 x6 x7 x8 x9 x10 x11 x12 x13 x14 x15 x16 x17 x18 x19 : AV) (h : H) : Option β :=
 qLoadN 4 x8 h <| .mk fun v8 =>
 qCall call (.fn 184 []) [x7, v8] h <| .mk fun v9 h =>
 qExt 0 v9 <| .mk fun v10 =>
 qExt 1 v9 <| .mk fun v11 =>
 qAlloc 0 [(.int .i64 0), (.int .i64 0), .nils] h <| .mk fun v12 h =>
 qStore 3 v12 v10 h <| .mk fun h =>
 qJoin 20 (.mk (
 f155_J13 call k)) <| .mk fun j13 =>
 qNeq v11 (.int .i64 0) <| .mk fun v15 =>
 qIf v15 (.mk (
 k (.tup [(.str []), v11]) h)) <| .mk (
 j13 x0 x1 x2 x3 x4 x5 x6 x7 x8 x9 v12 v11 x12 x13 x14 x15 v9 v10 v11 x19 h)
noncomputable def f155 {β : Type} (N : Nat) (call : FCall β) (a : List AV) (h : H) (k : K β) : Option β :=
 qBox 0 (nth a 0) h <| .mk fun v0 h =>
 qLoadN 1 v0 h <| .mk fun v1 =>
 qCall call (.fn 181 []) [v1, (nth a 1), (nth a 2), (nth a 3)] h <| .mk fun v2 h =>
 qExt 0 v2 <| .mk fun v3 =>
 qExt 1 v2 <| .mk fun v4 =>
 qExt 2 v2 <| .mk fun v5 =>
 qAlloc 0 [(.str []), .nils, (.int .i64 0), .nils] h <| .mk fun v6 h =>
 qStore 4 v6 v4 h <| .mk fun h =>
 qJoin 20 (.mk (
 f155_J7 call k)) <| .mk fun j7 =>
 qNot v5 <| .mk fun v16 =>
 qIf v16 (.mk (
 k (.tup [(.str []), (.int .i64 900)]) h)) <| .mk (
 j7 (nth a 0) (nth a 1) (nth a 2) (nth a 3) v0 (.str []) (.int .i64 0) v3 v6 v5 (nth a 13) (nth a 14) v2 v3 v4 v5 (nth a 26) (nth a 30) (nth a 31) (nth a 34) h)
theorem y155 {β : Type} (I : FI) (N : Nat) (call : FCall β) (a : List AV) (h : H) (k : K β) : fBody I 155 T.s155 N call a h k = f155 N call a h k := by kernel_rfl
noncomputable def f181_J7 {β : Type} (call : FCall β) (k : K β) (x0 x1 x2 x3 x4 x5 x6 x7 x8 x9 x10 x11 x12 x13 x14 x15 x16 x17 : AV) (h : H) : Option β :=
 qCall call (.fn 205 []) [x8, x1, x9] h <| .mk fun v8 h =>
 qStore 4 x6 v8 h <| .mk fun h =>
 qLoadN 4 x6 h <| .mk fun v9 =>
 k (.tup [x8, v9, (.bool true)]) h
noncomputable def f181_J14 {β : Type} (l11 : Cur β 18) (x0 x1 x2 x3 x4 x5 x6 x7 x8 x9 x10 x11 x12 x13 x14 x15 x16 x17 : AV) (h : H) : Option β :=
 qAdd x14 (.int .i64 1) <| .mk fun v15 =>
 l11 x0 x1 x2 x3 x4 x5 x6 x7 x8 x9 x10 x11 x12 x13 v15 x15 x16 x17 h
noncomputable def f181_J13 {β : Type} (call : FCall β) (l11 : Cur β 18) (x0 x1 x2 x3 x4 x5 x6 x7 x8 x9 x10 x11 x12 x13 x14 x15 x16 x17 : AV) (h : H) : Option β :=
 qJoin 18 (.mk (
 f181_J14 l11)) <| .mk fun j14 =>
 qIadr 1 x12 x14 <| .mk fun v16 =>
 qLoad1 v16 h <| .mk fun v17 =>
 qCall call (.fn 204 []) [v17] h <| .mk fun v18 h =>
 qBslice 0 [(.str []), .nils, (.int .i64 0), .nils] 1 [(0, 4)] [v18] h <| .mk fun v19 h =>
 qApp 0 4 72 x9 v19 h <| .mk fun v20 h =>
 j14 x0 x1 x2 x3 x4 x5 x6 x7 x8 v20 v17 x11 x12 x13 x14 x15 x16 x17 h
noncomputable def f181_L11 {β : Type} (call : FCall β) (j7 : Cur β 18) (l11 : Cur β 18) (x0 x1 x2 x3 x4 x5 x6 x7 x8 x9 x10 x11 x12 x13 x14 x15 x16 x17 : AV) (h : H) : Option β :=
 qLss x14 x13 <| .mk fun v12 =>
 qJoin 18 (.mk (
 f181_J13 call l11)) <| .mk fun j13 =>
 qIf v12 (.mk (
 j13 .any x1 .any .any .any .any x6 .any x8 x9 .any .any x12 x13 x14 v12 .any .any h)) <| .mk (
 j7 .any x1 .any .any .any .any x6 .any x8 x9 .any .any x12 x13 x14 v12 .any .any h)
noncomputable def f181_J2 {β : Type} (N : Nat) (call : FCall β) (k : K β) (x0 x1 x2 x3 x4 x5 x6 x7 x8 x9 x10 x11 x12 x13 x14 x15 x16 x17 : AV) (h : H) : Option β :=
 qFadr 0 x4 <| .mk fun v3 =>
 qLoad1 v3 h <| .mk fun v4 =>
 qBuild [.nils, (.int .i64 0)] [(0, 1), (1, 1)] [v4, x3] <| .mk fun v5 =>
 qBox 0 v5 h <| .mk fun v6 h =>
 qJoin 18 (.mk (
 f181_J7 call k)) <| .mk fun j7 =>
 qLenL x2 <| .mk fun v10 =>
 (qLoop 18 N <| .mk (
 f181_L11 call j7)) x0 x1 x2 x3 x4 x5 x6 x7 v6 .nils x10 x11 x2 v10 (.int .i64 0) x15 x16 x17 h
noncomputable def f181 {β : Type} (N : Nat) (call : FCall β) (a : List AV) (h : H) (k : K β) : Option β :=
 qBox 0 (nth a 0) h <| .mk fun v0 h =>
 qAlloc 0 [(.str []), .nils, (.int .i64 0), .nils] h <| .mk fun v1 h =>
 qJoin 18 (.mk (
 f181_J2 N call k)) <| .mk fun j2 =>
 qLoadN 1 v0 h <| .mk fun v21 =>
 qCall call (.fn 157 []) [v21] h <| .mk fun v22 h =>
 qNot v22 <| .mk fun v23 =>
 qOr v23 h (.mk fun h k =>
 qLss (nth a 1) (.int .i64 0) <| .mk fun v24 =>
 k v24 h) <| .mk fun v25 h =>
 qOr v25 h (.mk fun h k =>
 qFadr 0 v0 <| .mk fun v26 =>
 qLoad1 v26 h <| .mk fun v27 =>
 qLenL v27 <| .mk fun v28 =>
 qGeq (nth a 1) v28 <| .mk fun v29 =>
 k v29 h) <| .mk fun v30 h =>
 qOr v30 h (.mk fun h k =>
 qLenL (nth a 2) <| .mk fun v31 =>
 qFadr 0 v0 <| .mk fun v32 =>
 qLoad1 v32 h <| .mk fun v33 =>
 qIadr 2 v33 (nth a 1) <| .mk fun v34 =>
 qFadr 0 v34 <| .mk fun v35 =>
 qLoad1 v35 h <| .mk fun v36 =>
 qNeq v31 v36 <| .mk fun v37 =>
 k v37 h) <| .mk fun v38 h =>
 qOr v38 h (.mk fun h k =>
 qCall call (.fn 26 []) [(nth a 2)] h <| .mk fun v39 h =>
 qNot v39 <| .mk fun v40 =>
 k v40 h) <| .mk fun v41 h =>
 qOr v41 h (.mk fun h k =>
 qLss (nth a 3) (.int .i64 0) <| .mk fun v42 =>
 k v42 h) <| .mk fun v43 h =>
 qOr v43 h (.mk fun h k =>
 qGtr (nth a 3) (.int .i64 400) <| .mk fun v44 =>
 k v44 h) <| .mk fun v45 h =>
 qIf v45 (.mk (
 qBuild [(.str []), .nils, (.int .i64 0), .nils] [] [] <| .mk fun v46 =>
 qStore 4 v1 v46 h <| .mk fun h =>
 qLoadN 4 v1 h <| .mk fun v47 =>
 k (.tup [.nilp, v47, (.bool false)]) h)) <| .mk (
 j2 (nth a 0) (nth a 1) (nth a 2) (nth a 3) v0 .nilp v1 (.bool false) (nth a 11) (nth a 12) (nth a 14) (nth a 53) (nth a 59) (nth a 60) (nth a 61) (nth a 62) (nth a 71) (nth a 75) h)
theorem y181 {β : Type} (I : FI) (N : Nat) (call : FCall β) (a : List AV) (h : H) (k : K β) : fBody I 181 T.s181 N call a h k = f181 N call a h k := by kernel_rfl
noncomputable def f184_J2 {β : Type} (call : FCall β) (k : K β) (x0 x1 x2 x3 x4 x5 x6 x7 x8 x9 x10 x11 x12 x13 x14 x15 x16 x17 x18 x19 x20 x21 : AV) (h : H) : Option β :=
 qFadr 0 x2 <| .mk fun v3 =>
 qLoad1 v3 h <| .mk fun v4 =>
 qCall call (.fn 210 []) [x0, v4] h <| .mk fun v5 h =>
 qExt 0 v5 <| .mk fun v6 =>
 qExt 1 v5 <| .mk fun v7 =>
 qStore 3 x3 v6 h <| .mk fun h =>
 qLoadN 3 x3 h <| .mk fun v8 =>
 k (.tup [v8, v7]) h
noncomputable def f184_J11 {β : Type} (call : FCall β) (k : K β) (l9 : Cur β 22) (x0 x1 x2 x3 x4 x5 x6 x7 x8 x9 x10 x11 x12 x13 x14 x15 x16 x17 x18 x19 x20 x21 : AV) (h : H) : Option β :=
 qNil x0 <| .mk fun v12 =>
 qFadr 1 v12 <| .mk fun v13 =>
 qLoad1 v13 h <| .mk fun v14 =>
 qSub v14 (.int .i64 1) <| .mk fun v15 =>
 qNil x0 <| .mk fun v16 =>
 qFadr 1 v16 <| .mk fun v17 =>
 qStore 1 v17 v15 h <| .mk fun h =>
 qFadr 1 x2 <| .mk fun v18 =>
 qLoad1 v18 h <| .mk fun v19 =>
 qFadr 2 x2 <| .mk fun v20 =>
 qLoad1 v20 h <| .mk fun v21 =>
 qIadr 4 v19 v21 <| .mk fun v22 =>
 qNil v22 <| .mk fun v23 =>
 qFadr 0 v23 <| .mk fun v24 =>
 qLoad1 v24 h <| .mk fun v25 =>
 qEql v25 (.int .i64 0) <| .mk fun v26 =>
 qIf v26 (.mk (
 qNil v22 <| .mk fun v27 =>
 qFadr 1 v27 <| .mk fun v28 =>
 qLoad1 v28 h <| .mk fun v29 =>
 qBuild [(.int .i64 0), (.int .i64 0), .nils] [(0, 1), (1, 1)] [(.int .i64 1), v29] <| .mk fun v30 =>
 qStore 3 x3 v30 h <| .mk fun h =>
 qLoadN 3 x3 h <| .mk fun v31 =>
 k (.tup [v31, (.int .i64 0)]) h)) <| .mk (
 qEql v25 (.int .i64 1) <| .mk fun v32 =>
 qIf v32 (.mk (
 qFadr 3 x2 <| .mk fun v33 =>
 qLoad1 v33 h <| .mk fun v34 =>
 qNil v22 <| .mk fun v35 =>
 qFadr 1 v35 <| .mk fun v36 =>
 qLoad1 v36 h <| .mk fun v37 =>
 qIadr 4 v34 v37 <| .mk fun v38 =>
 qLoadN 4 v38 h <| .mk fun v39 =>
 qStore 4 x2 v39 h <| .mk fun h =>
 l9 x0 x1 x2 x3 x4 v22 x6 x7 x0 v25 x10 x11 x12 x13 x14 x15 x16 x17 x18 x19 x20 x21 h)) <| .mk (
 qEql v25 (.int .i64 2) <| .mk fun v40 =>
 qIf v40 (.mk (
 qNil v22 <| .mk fun v41 =>
 qFadr 1 v41 <| .mk fun v42 =>
 qLoad1 v42 h <| .mk fun v43 =>
 qCall call (.fn 206 []) [x2] h <| .mk fun v44 h =>
 qLoad1 v42 h <| .mk fun v45 =>
 qChkU v45 v43 <| .mk fun _ =>
 qCall call (.fn 205 []) [x0, v43, v44] h <| .mk fun v46 h =>
 qStore 4 x2 v46 h <| .mk fun h =>
 l9 x0 x1 x2 x3 x4 v22 x6 x7 x0 v25 x10 x11 x12 x13 x14 x15 x16 x17 x18 x19 x20 x21 h)) <| .mk (
 qEql v25 (.int .i64 3) <| .mk fun v47 =>
 qIf v47 (.mk (
 qNil v22 <| .mk fun v48 =>
 qFadr 1 v48 <| .mk fun v49 =>
 qLoad1 v49 h <| .mk fun v50 =>
 qCall call (.fn 206 []) [x2] h <| .mk fun v51 h =>
 qLoad1 v49 h <| .mk fun v52 =>
 qChkU v52 v50 <| .mk fun _ =>
 qBuild [(.int .i64 0), (.int .i64 0), .nils] [(0, 1), (1, 1), (2, 1)] [(.int .i64 2), v50, v51] <| .mk fun v53 =>
 qStore 3 x3 v53 h <| .mk fun h =>
 qLoadN 3 x3 h <| .mk fun v54 =>
 k (.tup [v54, (.int .i64 0)]) h)) <| .mk (
 qEql v25 (.int .i64 4) <| .mk fun v55 =>
 qIf v55 (.mk (
 qNil v22 <| .mk fun v56 =>
 qFadr 1 v56 <| .mk fun v57 =>
 qLoad1 v57 h <| .mk fun v58 =>
 qCall call (.fn 208 []) [x2, (.int .i64 0), .nils] h <| .mk fun v59 h =>
 qLoad1 v57 h <| .mk fun v60 =>
 qChkU v60 v58 <| .mk fun _ =>
 qCall call (.fn 208 []) [x2, (.int .i64 1), .nils] h <| .mk fun v61 h =>
 qLoad1 v57 h <| .mk fun v62 =>
 qChkU v62 v58 <| .mk fun _ =>
 qCall call (.fn 207 []) [x0, v58, v59, v61] h <| .mk fun v63 h =>
 qExt 0 v63 <| .mk fun v64 =>
 qExt 1 v63 <| .mk fun v65 =>
 qStore 3 x3 v64 h <| .mk fun h =>
 qLoadN 3 x3 h <| .mk fun v66 =>
 k (.tup [v66, v65]) h)) <| .mk (
 qEql v25 (.int .i64 5) <| .mk fun v67 =>
 qIf v67 (.mk (
 qCall call (.fn 208 []) [x2, (.int .i64 0), .nils] h <| .mk fun v68 h =>
 qCall call (.fn 184 []) [x0, v68] h <| .mk fun v69 h =>
 qExt 0 v69 <| .mk fun v70 =>
 qExt 1 v69 <| .mk fun v71 =>
 qAlloc 0 [(.int .i64 0), (.int .i64 0), .nils] h <| .mk fun v72 h =>
 qStore 3 v72 v70 h <| .mk fun h =>
 qNeq v71 (.int .i64 0) <| .mk fun v73 =>
 qOr v73 h (.mk fun h k =>
 qFadr 0 v72 <| .mk fun v74 =>
 qLoad1 v74 h <| .mk fun v75 =>
 qEql v75 (.int .i64 3) <| .mk fun v76 =>
 k v76 h) <| .mk fun v77 h =>
 qIf v77 (.mk (
 qLoadN 3 v72 h <| .mk fun v78 =>
 qStore 3 x3 v78 h <| .mk fun h =>
 qLoadN 3 x3 h <| .mk fun v79 =>
 k (.tup [v79, v71]) h)) <| .mk (
 qFadr 0 v72 <| .mk fun v80 =>
 qLoad1 v80 h <| .mk fun v81 =>
 qEql v81 (.int .i64 2) <| .mk fun v82 =>
 qGrd v82 true h (.mk fun h k =>
 qFadr 1 v72 <| .mk fun v83 =>
 k v83 h) <| .mk fun v84 h =>
 qGrd v82 true h (.mk fun h k =>
 qLoad1 v84 h <| .mk fun v85 =>
 k v85 h) <| .mk fun v86 h =>
 qGrd v82 true h (.mk fun h k =>
 k v22 h) <| .mk fun v87 h =>
 qGrd v82 true h (.mk fun h k =>
 qNil v87 <| .mk fun v88 =>
 k v88 h) <| .mk fun v89 h =>
 qGrd v82 true h (.mk fun h k =>
 qFadr 1 v89 <| .mk fun v90 =>
 k v90 h) <| .mk fun v91 h =>
 qGrd v82 true h (.mk fun h k =>
 qLoad1 v91 h <| .mk fun v92 =>
 k v92 h) <| .mk fun v93 h =>
 qGrd v82 true h (.mk fun h k =>
 qEql v86 v93 <| .mk fun v94 =>
 k v94 h) <| .mk fun v95 h =>
 qPick v82 v95 (.bool false) <| .mk fun v96 =>
 qGrd v96 true h (.mk fun h k =>
 qFadr 2 v72 <| .mk fun v97 =>
 k v97 h) <| .mk fun v98 h =>
 qGrd v96 true h (.mk fun h k =>
 qLoad1 v98 h <| .mk fun v99 =>
 k v99 h) <| .mk fun v100 h =>
 qGrd v96 true h (.mk fun h k =>
 qLenL v100 <| .mk fun v101 =>
 k v101 h) <| .mk fun v102 h =>
 qGrd v96 true h (.mk fun h k =>
 k v22 h) <| .mk fun v103 h =>
 qGrd v96 true h (.mk fun h k =>
 qNil v103 <| .mk fun v104 =>
 k v104 h) <| .mk fun v105 h =>
 qGrd v96 true h (.mk fun h k =>
 qFadr 2 v105 <| .mk fun v106 =>
 k v106 h) <| .mk fun v107 h =>
 qGrd v96 true h (.mk fun h k =>
 qLoad1 v107 h <| .mk fun v108 =>
 k v108 h) <| .mk fun v109 h =>
 qGrd v96 true h (.mk fun h k =>
 qEql v102 v109 <| .mk fun v110 =>
 k v110 h) <| .mk fun v111 h =>
 qPick v96 v111 (.bool false) <| .mk fun v112 =>
 qIf v112 (.mk (
 qFadr 2 v72 <| .mk fun v113 =>
 qLoad1 v113 h <| .mk fun v114 =>
 qCall call (.fn 208 []) [x2, (.int .i64 1), v114] h <| .mk fun v115 h =>
 qStore 4 x2 v115 h <| .mk fun h =>
 l9 x0 x1 x2 x3 x4 v22 v72 v71 x0 v25 x10 x11 x12 v69 v70 v71 x16 x17 v112 x19 x20 x21 h)) <| .mk (
 qCall call (.fn 208 []) [x2, (.int .i64 2), .nils] h <| .mk fun v116 h =>
 qStore 4 x2 v116 h <| .mk fun h =>
 l9 x0 x1 x2 x3 x4 v22 v72 v71 x0 v25 x10 x11 x12 v69 v70 v71 x16 x17 v112 x19 x20 x21 h)))) <| .mk (
 qEql v25 (.int .i64 6) <| .mk fun v117 =>
 qIf v117 (.mk (
 qCall call (.fn 208 []) [x2, (.int .i64 0), .nils] h <| .mk fun v118 h =>
 qBslice 0 [(.str []), .nils, (.int .i64 0), .nils] 1 [(0, 4)] [v118] h <| .mk fun v119 h =>
 qCall call (.fn 208 []) [x2, (.int .i64 1), v119] h <| .mk fun v120 h =>
 qStore 4 x2 v120 h <| .mk fun h =>
 l9 x0 x1 x2 x3 x4 v22 x6 x7 x0 v25 x10 x11 x12 x13 x14 x15 x16 x17 x18 x19 x20 x21 h)) <| .mk (
 qCall call (.fn 209 []) [] h <| .mk fun v121 h =>
 qExt 0 v121 <| .mk fun v122 =>
 qExt 1 v121 <| .mk fun v123 =>
 qStore 3 x3 v122 h <| .mk fun h =>
 qLoadN 3 x3 h <| .mk fun v124 =>
 k (.tup [v124, v123]) h)))))))
noncomputable def f184_J10 {β : Type} (call : FCall β) (k : K β) (l9 : Cur β 22) (x0 x1 x2 x3 x4 x5 x6 x7 x8 x9 x10 x11 x12 x13 x14 x15 x16 x17 x18 x19 x20 x21 : AV) (h : H) : Option β :=
 qJoin 22 (.mk (
 f184_J11 call k l9)) <| .mk fun j11 =>
 qNil x0 <| .mk fun v125 =>
 qFadr 1 v125 <| .mk fun v126 =>
 qLoad1 v126 h <| .mk fun v127 =>
 qEql v127 (.int .i64 0) <| .mk fun v128 =>
 qIf v128 (.mk (
 qBuild [(.int .i64 0), (.int .i64 0), .nils] [] [] <| .mk fun v129 =>
 qStore 3 x3 v129 h <| .mk fun h =>
 qLoadN 3 x3 h <| .mk fun v130 =>
 k (.tup [v130, (.int .i64 901)]) h)) <| .mk (
 j11 x0 x1 x2 x3 x4 x5 x6 x7 x8 x9 x10 x11 x12 x13 x14 x15 x16 x17 x18 x19 x20 x21 h)
noncomputable def f184_L9 {β : Type} (call : FCall β) (k : K β) (j2 : Cur β 22) (l9 : Cur β 22) (x0 x1 x2 x3 x4 x5 x6 x7 x8 x9 x10 x11 x12 x13 x14 x15 x16 x17 x18 x19 x20 x21 : AV) (h : H) : Option β :=
 qJoin 22 (.mk (
 f184_J10 call k l9)) <| .mk fun j10 =>
 qFadr 1 x2 <| .mk fun v131 =>
 qLoad1 v131 h <| .mk fun v132 =>
 qIsNil .sl true v132 <| .mk fun v133 =>
 qIf v133 (.mk (
 j10 x0 .any x2 x3 .any .any .any .any .any .any .any .any .any .any .any .any .any .any .any .any .any .any h)) <| .mk (
 j2 x0 .any x2 x3 .any .any .any .any .any .any .any .any .any .any .any .any .any .any .any .any .any .any h)
noncomputable def f184 {β : Type} (N : Nat) (call : FCall β) (a : List AV) (h : H) (k : K β) : Option β :=
 qBox 0 (nth a 1) h <| .mk fun v0 h =>
 qAlloc 0 [(.int .i64 0), (.int .i64 0), .nils] h <| .mk fun v1 h =>
 qJoin 22 (.mk (
 f184_J2 call k)) <| .mk fun j2 =>
 (qLoop 22 N <| .mk (
 f184_L9 call k j2)) (nth a 0) (nth a 1) v0 v1 (.int .i64 0) (nth a 6) (nth a 7) (nth a 8) (nth a 18) (nth a 33) (nth a 34) (nth a 35) (nth a 36) (nth a 85) (nth a 89) (nth a 90) (nth a 100) (nth a 101) (nth a 102) (nth a 136) (nth a 137) (nth a 138) h
theorem y184 {β : Type} (I : FI) (N : Nat) (call : FCall β) (a : List AV) (h : H) (k : K β) : fBody I 184 T.s184 N call a h k = f184 N call a h k := by kernel_rfl
noncomputable def f185_J0 {β : Type} (call : FCall β) (k : K β) (x0 x1 x2 : AV) (h : H) : Option β :=
 qNil x0 <| .mk fun v1 =>
 qFadr 1 v1 <| .mk fun v2 =>
 qLoad1 v2 h <| .mk fun v3 =>
 qNil x0 <| .mk fun v4 =>
 qFadr 2 v4 <| .mk fun v5 =>
 qLoad1 v5 h <| .mk fun v6 =>
 qLenL v6 <| .mk fun v7 =>
 qBslice 0 [(.str [])] 1 [(0, 1)] [(.str [95])] h <| .mk fun v8 h =>
 qLoad1 v5 h <| .mk fun v9 =>
 qChkU v9 v6 <| .mk fun _ =>
 qLoad1 v2 h <| .mk fun v10 =>
 qChkU v10 v3 <| .mk fun _ =>
 qCall call (.fn 211 []) [v8, v7] h <| .mk fun v11 h =>
 qLoad1 v2 h <| .mk fun v12 =>
 qChkU v12 v3 <| .mk fun _ =>
 qCall call (.fn 27 []) [v3, v11] h <| .mk fun v13 h =>
 k v13 h
noncomputable def f185 {β : Type} (N : Nat) (call : FCall β) (a : List AV) (h : H) (k : K β) : Option β :=
 qJoin 3 (.mk (
 f185_J0 call k)) <| .mk fun j0 =>
 qNil (nth a 0) <| .mk fun v14 =>
 qFadr 0 v14 <| .mk fun v15 =>
 qLoad1 v15 h <| .mk fun v16 =>
 qEql v16 (.int .i64 3) <| .mk fun v17 =>
 qIf v17 (.mk (
 k (.str [33]) h)) <| .mk (
 qEql v16 (.int .i64 1) <| .mk fun v18 =>
 qIf v18 (.mk (
 qNil (nth a 0) <| .mk fun v19 =>
 qFadr 1 v19 <| .mk fun v20 =>
 qLoad1 v20 h <| .mk fun v21 =>
 qCall call (.fn 29 []) [v21] h <| .mk fun v22 h =>
 k v22 h)) <| .mk (
 j0 (nth a 0) (.str []) v16 h))
theorem y185 {β : Type} (I : FI) (N : Nat) (call : FCall β) (a : List AV) (h : H) (k : K β) : fBody I 185 T.s185 N call a h k = f185 N call a h k := by kernel_rfl
noncomputable def f204 {β : Type} (N : Nat) (call : FCall β) (a : List AV) (h : H) (k : K β) : Option β :=
 qAlloc 0 [(.str []), .nils, (.int .i64 0), .nils] h <| .mk fun v0 h =>
 qBuild [(.str []), .nils, (.int .i64 0), .nils] [(0, 1)] [(nth a 0)] <| .mk fun v1 =>
 qStore 4 v0 v1 h <| .mk fun h =>
 qLoadN 4 v0 h <| .mk fun v2 =>
 k v2 h
theorem y204 {β : Type} (I : FI) (N : Nat) (call : FCall β) (a : List AV) (h : H) (k : K β) : fBody I 204 T.s204 N call a h k = f204 N call a h k := by kernel_rfl
noncomputable def f205 {β : Type} (N : Nat) (call : FCall β) (a : List AV) (h : H) (k : K β) : Option β :=
 qAlloc 0 [(.str []), .nils, (.int .i64 0), .nils] h <| .mk fun v0 h =>
 qNil (nth a 0) <| .mk fun v1 =>
 qFadr 0 v1 <| .mk fun v2 =>
 qLoad1 v2 h <| .mk fun v3 =>
 qIadr 2 v3 (nth a 1) <| .mk fun v4 =>
 qFadr 1 v4 <| .mk fun v5 =>
 qLoad1 v5 h <| .mk fun v6 =>
 qLenL v6 <| .mk fun v7 =>
 qSub v7 (.int .i64 1) <| .mk fun v8 =>
 qBuild [(.str []), .nils, (.int .i64 0), .nils] [(1, 1), (2, 1), (3, 1)] [v6, v8, (nth a 2)] <| .mk fun v9 =>
 qStore 4 v0 v9 h <| .mk fun h =>
 qLoadN 4 v0 h <| .mk fun v10 =>
 k v10 h
theorem y205 {β : Type} (I : FI) (N : Nat) (call : FCall β) (a : List AV) (h : H) (k : K β) : fBody I 205 T.s205 N call a h k = f205 N call a h k := by kernel_rfl
noncomputable def f206_J0 {β : Type} (k : K β) (x0 x1 x2 x3 x4 x5 x6 : AV) (h : H) : Option β :=
 k x2 h
noncomputable def f206_J14 {β : Type} (l11 : Cur β 7) (x0 x1 x2 x3 x4 x5 x6 : AV) (h : H) : Option β :=
 qAdd x5 (.int .i64 1) <| .mk fun v15 =>
 l11 x0 x1 x2 x3 x4 v15 x6 h
noncomputable def f206_J13 {β : Type} (call : FCall β) (l11 : Cur β 7) (x0 x1 x2 x3 x4 x5 x6 : AV) (h : H) : Option β :=
 qJoin 7 (.mk (
 f206_J14 l11)) <| .mk fun j14 =>
 qCall call (.fn 208 []) [x0, x5, .nils] h <| .mk fun v16 h =>
 qBslice 0 [(.str []), .nils, (.int .i64 0), .nils] 1 [(0, 4)] [v16] h <| .mk fun v17 h =>
 qApp 0 4 72 x2 v17 h <| .mk fun v18 h =>
 j14 x0 x1 v18 x5 x4 x5 x6 h
noncomputable def f206_L11 {β : Type} (call : FCall β) (j0 : Cur β 7) (l11 : Cur β 7) (x0 x1 x2 x3 x4 x5 x6 : AV) (h : H) : Option β :=
 qLss x5 x4 <| .mk fun v12 =>
 qJoin 7 (.mk (
 f206_J13 call l11)) <| .mk fun j13 =>
 qIf v12 (.mk (
 j13 x0 .any x2 .any x4 x5 v12 h)) <| .mk (
 j0 x0 .any x2 .any x4 x5 v12 h)
noncomputable def f206 {β : Type} (N : Nat) (call : FCall β) (a : List AV) (h : H) (k : K β) : Option β :=
 qJoin 7 (.mk (
 f206_J0 k)) <| .mk fun j0 =>
 qNil (nth a 0) <| .mk fun v1 =>
 qFadr 1 v1 <| .mk fun v2 =>
 qLoad1 v2 h <| .mk fun v3 =>
 qNil (nth a 0) <| .mk fun v4 =>
 qFadr 2 v4 <| .mk fun v5 =>
 qLoad1 v5 h <| .mk fun v6 =>
 qIadr 4 v3 v6 <| .mk fun v7 =>
 qFadr 3 v7 <| .mk fun v8 =>
 qLoad1 v8 h <| .mk fun v9 =>
 qLenL v9 <| .mk fun v10 =>
 (qLoop 7 N <| .mk (
 f206_L11 call j0)) (nth a 0) .nils .nils (nth a 4) v10 (.int .i64 0) (nth a 18) h
theorem y206 {β : Type} (I : FI) (N : Nat) (call : FCall β) (a : List AV) (h : H) (k : K β) : fBody I 206 T.s206 N call a h k = f206 N call a h k := by kernel_rfl
noncomputable def f207_J4 {β : Type} (call : FCall β) (k : K β) (x0 x1 x2 x3 x4 x5 x6 x7 x8 x9 x10 x11 x12 x13 x14 x15 x16 x17 x18 x19 x20 x21 x22 x23 x24 x25 x26 x27 x28 x29 x30 x31 : AV) (h : H) : Option β :=
 qIadrA 2 1 x8 (.int .i64 0) <| .mk fun v5 =>
 qLoad1 v5 h <| .mk fun v6 =>
 qIadrA 2 1 x8 (.int .i64 1) <| .mk fun v7 =>
 qLoad1 v7 h <| .mk fun v8 =>
 qCall call (.fn 226 []) [x1, v6, v8] h <| .mk fun v9 h =>
 qExt 0 v9 <| .mk fun v10 =>
 qExt 1 v9 <| .mk fun v11 =>
 qBuild [(.int .i64 0), (.int .i64 0), .nils] [(0, 1), (1, 1)] [(.int .i64 1), v10] <| .mk fun v12 =>
 qStore 3 x6 v12 h <| .mk fun h =>
 qLoadN 3 x6 h <| .mk fun v13 =>
 k (.tup [v13, (.int .i64 0)]) h
noncomputable def f207_J21 {β : Type} (l18 : Cur β 32) (x0 x1 x2 x3 x4 x5 x6 x7 x8 x9 x10 x11 x12 x13 x14 x15 x16 x17 x18 x19 x20 x21 x22 x23 x24 x25 x26 x27 x28 x29 x30 x31 : AV) (h : H) : Option β :=
 qAdd x16 (.int .i64 1) <| .mk fun v22 =>
 l18 x0 x1 x2 x3 x4 x5 x6 x7 x8 x9 x10 x11 x12 x13 x14 x15 v22 x17 x18 x19 x20 x21 x22 x23 x24 x25 x26 x27 x28 x29 x30 x31 h
noncomputable def f207_J32 {β : Type} (j21 : Cur β 32) (x0 x1 x2 x3 x4 x5 x6 x7 x8 x9 x10 x11 x12 x13 x14 x15 x16 x17 x18 x19 x20 x21 x22 x23 x24 x25 x26 x27 x28 x29 x30 x31 : AV) (h : H) : Option β :=
 qFadr 1 x11 <| .mk fun v33 =>
 qLoad1 v33 h <| .mk fun v34 =>
 qIadrA 2 1 x8 x9 <| .mk fun v35 =>
 qStore 1 v35 v34 h <| .mk fun h =>
 j21 x0 x1 x2 x3 x4 x5 x6 x7 x8 x9 x10 x11 x12 x13 x14 x15 x16 x17 x18 x19 x20 x21 x22 x23 x24 x25 x26 x27 x9 x29 x30 x31 h
noncomputable def f207_J31 {β : Type} (call : FCall β) (k : K β) (j21 : Cur β 32) (x0 x1 x2 x3 x4 x5 x6 x7 x8 x9 x10 x11 x12 x13 x14 x15 x16 x17 x18 x19 x20 x21 x22 x23 x24 x25 x26 x27 x28 x29 x30 x31 : AV) (h : H) : Option β :=
 qJoin 32 (.mk (
 f207_J32 j21)) <| .mk fun j32 =>
 qFadr 0 x11 <| .mk fun v36 =>
 qLoad1 v36 h <| .mk fun v37 =>
 qNeq v37 (.int .i64 1) <| .mk fun v38 =>
 qIf v38 (.mk (
 qCall call (.fn 209 []) [] h <| .mk fun v39 h =>
 qExt 0 v39 <| .mk fun v40 =>
 qExt 1 v39 <| .mk fun v41 =>
 qStore 3 x6 v40 h <| .mk fun h =>
 qLoadN 3 x6 h <| .mk fun v42 =>
 k (.tup [v42, v41]) h)) <| .mk (
 j32 x0 x1 x2 x3 x4 x5 x6 x7 x8 x9 x10 x11 x12 x13 x14 x15 x16 x17 x18 x19 x20 x21 x22 x23 x24 x25 x26 x27 x28 x29 x30 x31 h)
noncomputable def f207_J20 {β : Type} (call : FCall β) (k : K β) (l18 : Cur β 32) (x0 x1 x2 x3 x4 x5 x6 x7 x8 x9 x10 x11 x12 x13 x14 x15 x16 x17 x18 x19 x20 x21 x22 x23 x24 x25 x26 x27 x28 x29 x30 x31 : AV) (h : H) : Option β :=
 qJoin 32 (.mk (
 f207_J21 l18)) <| .mk fun j21 =>
 qIadr 4 x14 x16 <| .mk fun v23 =>
 qLoadN 4 v23 h <| .mk fun v24 =>
 qAlloc 0 [(.str []), .nils, (.int .i64 0), .nils] h <| .mk fun v25 h =>
 qStore 4 v25 v24 h <| .mk fun h =>
 qLoadN 4 v25 h <| .mk fun v26 =>
 qCall call (.fn 184 []) [x0, v26] h <| .mk fun v27 h =>
 qExt 0 v27 <| .mk fun v28 =>
 qExt 1 v27 <| .mk fun v29 =>
 qAlloc 0 [(.int .i64 0), (.int .i64 0), .nils] h <| .mk fun v30 h =>
 qStore 3 v30 v28 h <| .mk fun h =>
 qJoin 32 (.mk (
 f207_J31 call k j21)) <| .mk fun j31 =>
 qNeq v29 (.int .i64 0) <| .mk fun v43 =>
 qIf v43 (.mk (
 qBuild [(.int .i64 0), (.int .i64 0), .nils] [] [] <| .mk fun v44 =>
 qStore 3 x6 v44 h <| .mk fun h =>
 qLoadN 3 x6 h <| .mk fun v45 =>
 k (.tup [v45, v29]) h)) <| .mk (
 j31 x0 x1 x2 x3 x4 x5 x6 x7 x8 x16 v25 v30 v29 x13 x14 x15 x16 x17 x16 v24 v27 v28 v29 x23 x24 x25 x26 x27 x28 x29 x30 x31 h)
noncomputable def f207_L18 {β : Type} (call : FCall β) (k : K β) (j4 : Cur β 32) (l18 : Cur β 32) (x0 x1 x2 x3 x4 x5 x6 x7 x8 x9 x10 x11 x12 x13 x14 x15 x16 x17 x18 x19 x20 x21 x22 x23 x24 x25 x26 x27 x28 x29 x30 x31 : AV) (h : H) : Option β :=
 qLss x16 x15 <| .mk fun v19 =>
 qJoin 32 (.mk (
 f207_J20 call k l18)) <| .mk fun j20 =>
 qIf v19 (.mk (
 j20 x0 x1 .any .any .any .any x6 .any x8 .any .any .any .any .any x14 x15 x16 v19 .any .any .any .any .any .any .any .any .any .any .any .any .any .any h)) <| .mk (
 j4 x0 x1 .any .any .any .any x6 .any x8 .any .any .any .any .any x14 x15 x16 v19 .any .any .any .any .any .any .any .any .any .any .any .any .any .any h)
noncomputable def f207 {β : Type} (N : Nat) (call : FCall β) (a : List AV) (h : H) (k : K β) : Option β :=
 qBox 0 (nth a 2) h <| .mk fun v0 h =>
 qBox 0 (nth a 3) h <| .mk fun v1 h =>
 qAlloc 0 [(.int .i64 0), (.int .i64 0), .nils] h <| .mk fun v2 h =>
 qAlloc 0 [(.int .i64 0), (.int .i64 0)] h <| .mk fun v3 h =>
 qJoin 32 (.mk (
 f207_J4 call k)) <| .mk fun j4 =>
 qLoadN 4 v0 h <| .mk fun v14 =>
 qLoadN 4 v1 h <| .mk fun v15 =>
 qBslice 0 [(.str []), .nils, (.int .i64 0), .nils, (.str []), .nils, (.int .i64 0), .nils] 2 [(0, 4), (4, 4)] [v14, v15] h <| .mk fun v16 h =>
 qLenL v16 <| .mk fun v17 =>
 (qLoop 32 N <| .mk (
 f207_L18 call k j4)) (nth a 0) (nth a 1) (nth a 2) (nth a 3) v0 v1 v2 (.int .i64 0) v3 (nth a 11) (nth a 12) (nth a 13) (nth a 14) (nth a 15) v16 v17 (.int .i64 0) (nth a 22) (nth a 23) (nth a 25) (nth a 26) (nth a 30) (nth a 31) (nth a 34) (nth a 35) (nth a 39) (nth a 40) (nth a 41) (nth a 42) (nth a 47) (nth a 54) (nth a 55) h
theorem y207 {β : Type} (I : FI) (N : Nat) (call : FCall β) (a : List AV) (h : H) (k : K β) : fBody I 207 T.s207 N call a h k = f207 N call a h k := by kernel_rfl
noncomputable def f208 {β : Type} (N : Nat) (call : FCall β) (a : List AV) (h : H) (k : K β) : Option β :=
 qAlloc 0 [(.str []), .nils, (.int .i64 0), .nils] h <| .mk fun v0 h =>
 qNil (nth a 0) <| .mk fun v1 =>
 qFadr 1 v1 <| .mk fun v2 =>
 qLoad1 v2 h <| .mk fun v3 =>
 qNil (nth a 0) <| .mk fun v4 =>
 qFadr 1 v4 <| .mk fun v5 =>
 qLoad1 v5 h <| .mk fun v6 =>
 qNil (nth a 0) <| .mk fun v7 =>
 qFadr 2 v7 <| .mk fun v8 =>
 qLoad1 v8 h <| .mk fun v9 =>
 qIadr 4 v6 v9 <| .mk fun v10 =>
 qFadr 3 v10 <| .mk fun v11 =>
 qLoad1 v11 h <| .mk fun v12 =>
 qIadr 1 v12 (nth a 1) <| .mk fun v13 =>
 qLoad1 v13 h <| .mk fun v14 =>
 qNil (nth a 0) <| .mk fun v15 =>
 qFadr 3 v15 <| .mk fun v16 =>
 qLoad1 v16 h <| .mk fun v17 =>
 qBslice 0 [.nils, .nils] 2 [(0, 1), (1, 1)] [v17, (nth a 2)] h <| .mk fun v18 h =>
 qLoad1 v13 h <| .mk fun v19 =>
 qChkU v19 v14 <| .mk fun _ =>
 qLoad1 v11 h <| .mk fun v20 =>
 qChkU v20 v12 <| .mk fun _ =>
 qLoad1 v8 h <| .mk fun v21 =>
 qChkU v21 v9 <| .mk fun _ =>
 qLoad1 v5 h <| .mk fun v22 =>
 qChkU v22 v6 <| .mk fun _ =>
 qLoad1 v2 h <| .mk fun v23 =>
 qChkU v23 v3 <| .mk fun _ =>
 qCall call (.fn 227 []) [v18] h <| .mk fun v24 h =>
 qLoad1 v13 h <| .mk fun v25 =>
 qChkU v25 v14 <| .mk fun _ =>
 qLoad1 v11 h <| .mk fun v26 =>
 qChkU v26 v12 <| .mk fun _ =>
 qLoad1 v8 h <| .mk fun v27 =>
 qChkU v27 v9 <| .mk fun _ =>
 qLoad1 v5 h <| .mk fun v28 =>
 qChkU v28 v6 <| .mk fun _ =>
 qLoad1 v2 h <| .mk fun v29 =>
 qChkU v29 v3 <| .mk fun _ =>
 qBuild [(.str []), .nils, (.int .i64 0), .nils] [(1, 1), (2, 1), (3, 1)] [v3, v14, v24] <| .mk fun v30 =>
 qStore 4 v0 v30 h <| .mk fun h =>
 qLoadN 4 v0 h <| .mk fun v31 =>
 k v31 h
theorem y208 {β : Type} (I : FI) (N : Nat) (call : FCall β) (a : List AV) (h : H) (k : K β) : fBody I 208 T.s208 N call a h k = f208 N call a h k := by kernel_rfl
noncomputable def f209 {β : Type} (N : Nat) (call : FCall β) (a : List AV) (h : H) (k : K β) : Option β :=
 qAlloc 0 [(.int .i64 0), (.int .i64 0), .nils] h <| .mk fun v0 h =>
 qBuild [(.int .i64 0), (.int .i64 0), .nils] [(0, 1)] [(.int .i64 3)] <| .mk fun v1 =>
 qStore 3 v0 v1 h <| .mk fun h =>
 qLoadN 3 v0 h <| .mk fun v2 =>
 k (.tup [v2, (.int .i64 0)]) h
theorem y209 {β : Type} (I : FI) (N : Nat) (call : FCall β) (a : List AV) (h : H) (k : K β) : fBody I 209 T.s209 N call a h k = f209 N call a h k := by kernel_rfl
noncomputable def f210_J9 {β : Type} (k : K β) (x0 x1 x2 x3 x4 x5 x6 x7 x8 x9 x10 x11 x12 x13 x14 x15 x16 x17 : AV) (h : H) : Option β :=
 qLoadN 3 x6 h <| .mk fun v10 =>
 qStore 3 x1 v10 h <| .mk fun h =>
 qLoadN 3 x1 h <| .mk fun v11 =>
 k (.tup [v11, (.int .i64 0)]) h
noncomputable def f210_J16 {β : Type} (l13 : Cur β 18) (x0 x1 x2 x3 x4 x5 x6 x7 x8 x9 x10 x11 x12 x13 x14 x15 x16 x17 : AV) (h : H) : Option β :=
 qAdd x16 (.int .i64 1) <| .mk fun v17 =>
 l13 x0 x1 x2 x3 x4 x5 x6 x7 x8 x9 x10 x11 x12 x13 x14 x15 v17 x17 h
noncomputable def f210_J15 {β : Type} (call : FCall β) (l13 : Cur β 18) (x0 x1 x2 x3 x4 x5 x6 x7 x8 x9 x10 x11 x12 x13 x14 x15 x16 x17 : AV) (h : H) : Option β :=
 qJoin 18 (.mk (
 f210_J16 l13)) <| .mk fun j16 =>
 qIadr 1 x14 x16 <| .mk fun v18 =>
 qLoad1 v18 h <| .mk fun v19 =>
 qFadr 2 x6 <| .mk fun v20 =>
 qLoad1 v20 h <| .mk fun v21 =>
 qCall call (.fn 204 []) [v19] h <| .mk fun v22 h =>
 qLoad1 v20 h <| .mk fun v23 =>
 qChkU v23 v21 <| .mk fun _ =>
 qBslice 0 [(.str []), .nils, (.int .i64 0), .nils] 1 [(0, 4)] [v22] h <| .mk fun v24 h =>
 qLoad1 v20 h <| .mk fun v25 =>
 qChkU v25 v21 <| .mk fun _ =>
 qApp 0 4 72 v21 v24 h <| .mk fun v26 h =>
 qFadr 2 x6 <| .mk fun v27 =>
 qStore 1 v27 v26 h <| .mk fun h =>
 j16 x0 x1 x2 x3 x4 x5 x6 v19 x8 x9 x10 x11 x12 x13 x14 x15 x16 x17 h
noncomputable def f210_L13 {β : Type} (call : FCall β) (j9 : Cur β 18) (l13 : Cur β 18) (x0 x1 x2 x3 x4 x5 x6 x7 x8 x9 x10 x11 x12 x13 x14 x15 x16 x17 : AV) (h : H) : Option β :=
 qLss x16 x15 <| .mk fun v14 =>
 qJoin 18 (.mk (
 f210_J15 call l13)) <| .mk fun j15 =>
 qIf v14 (.mk (
 j15 .any x1 .any .any .any .any x6 .any .any .any .any .any .any .any x14 x15 x16 v14 h)) <| .mk (
 j9 .any x1 .any .any .any .any x6 .any .any .any .any .any .any .any x14 x15 x16 v14 h)
noncomputable def f210_J6 {β : Type} (N : Nat) (call : FCall β) (k : K β) (x0 x1 x2 x3 x4 x5 x6 x7 x8 x9 x10 x11 x12 x13 x14 x15 x16 x17 : AV) (h : H) : Option β :=
 qBuild [(.int .i64 0), (.int .i64 0), .nils] [(0, 1), (1, 1)] [x3, x4] <| .mk fun v7 =>
 qAlloc 0 [(.int .i64 0), (.int .i64 0), .nils] h <| .mk fun v8 h =>
 qStore 3 v8 v7 h <| .mk fun h =>
 qJoin 18 (.mk (
 f210_J9 k)) <| .mk fun j9 =>
 qLenL x5 <| .mk fun v12 =>
 (qLoop 18 N <| .mk (
 f210_L13 call j9)) x0 x1 x2 x3 x4 x5 v8 x7 x8 x9 x10 x11 x12 v7 x5 v12 (.int .i64 0) x17 h
noncomputable def f210 {β : Type} (N : Nat) (call : FCall β) (a : List AV) (h : H) (k : K β) : Option β :=
 qAlloc 0 [(.int .i64 0), (.int .i64 0), .nils] h <| .mk fun v0 h =>
 qCall call (.fn 11 []) [(nth a 1)] h <| .mk fun v1 h =>
 qExt 0 v1 <| .mk fun v2 =>
 qExt 1 v1 <| .mk fun v3 =>
 qExt 2 v1 <| .mk fun v4 =>
 qExt 3 v1 <| .mk fun v5 =>
 qJoin 18 (.mk (
 f210_J6 N call k)) <| .mk fun j6 =>
 qEql v2 (.int .i64 0) <| .mk fun v28 =>
 qIf v28 (.mk (
 qBuild [(.int .i64 0), (.int .i64 0), .nils] [] [] <| .mk fun v29 =>
 qStore 3 v0 v29 h <| .mk fun h =>
 qLoadN 3 v0 h <| .mk fun v30 =>
 k (.tup [v30, (.int .i64 902)]) h)) <| .mk (
 j6 (nth a 1) v0 (.int .i64 0) v2 v3 v4 (nth a 10) (nth a 12) v1 v2 v3 v4 v5 (nth a 25) (nth a 26) (nth a 27) (nth a 28) (nth a 29) h)
theorem y210 {β : Type} (I : FI) (N : Nat) (call : FCall β) (a : List AV) (h : H) (k : K β) : fBody I 210 T.s210 N call a h k = f210 N call a h k := by kernel_rfl
noncomputable def f211_J11 {β : Type} (k : K β) (x0 x1 x2 x3 x4 x5 x6 x7 x8 x9 x10 : AV) (h : H) : Option β :=
 k x5 h
noncomputable def f211_J13 {β : Type} (l12 : Cur β 11) (x0 x1 x2 x3 x4 x5 x6 x7 x8 x9 x10 : AV) (h : H) : Option β :=
 qSlL 1 true false false x5 [x6] <| .mk fun v14 =>
 qSlL 1 false true false x5 [x6] <| .mk fun v15 =>
 qCpy 1 v14 v15 h <| .mk fun v16 h =>
 qAdd x6 v16 <| .mk fun v17 =>
 l12 x0 x1 x2 x3 x4 x5 v17 x7 x8 x9 x10 h
noncomputable def f211_L12 {β : Type} (j11 : Cur β 11) (l12 : Cur β 11) (x0 x1 x2 x3 x4 x5 x6 x7 x8 x9 x10 : AV) (h : H) : Option β :=
 qJoin 11 (.mk (
 f211_J13 l12)) <| .mk fun j13 =>
 qLenL x5 <| .mk fun v18 =>
 qLss x6 v18 <| .mk fun v19 =>
 qIf v19 (.mk (
 j13 .any .any .any .any .any x5 x6 .any .any .any .any h)) <| .mk (
 j11 .any .any .any .any .any x5 x6 .any .any .any .any h)
noncomputable def f211_J7 {β : Type} (N : Nat) (k : K β) (x0 x1 x2 x3 x4 x5 x6 x7 x8 x9 x10 : AV) (h : H) : Option β :=
 qConv .i64 x4 <| .mk fun v8 =>
 qMkslice 0 [(.str [])] 16 v8 v8 h <| .mk fun v9 h =>
 qCpy 1 v9 x0 h <| .mk fun v10 h =>
 qJoin 11 (.mk (
 f211_J11 k)) <| .mk fun j11 =>
 (qLoop 11 N <| .mk (
 f211_L12 j11)) x0 x1 x2 x3 x4 v9 v10 x7 x8 x9 v8 h
noncomputable def f211_J0 {β : Type} (N : Nat) (call : FCall β) (k : K β) (x0 x1 x2 x3 x4 x5 x6 x7 x8 x9 x10 : AV) (h : H) : Option β :=
 qLenL x0 <| .mk fun v1 =>
 qConv .u64 v1 <| .mk fun v2 =>
 qConv .u64 x1 <| .mk fun v3 =>
 qCall call (.fn 228 []) [v2, v3] h <| .mk fun v4 h =>
 qExt 0 v4 <| .mk fun v5 =>
 qExt 1 v4 <| .mk fun v6 =>
 qJoin 11 (.mk (
 f211_J7 N k)) <| .mk fun j7 =>
 qGtr v5 (.int .u64 0) <| .mk fun v20 =>
 qOr v20 h (.mk fun h k =>
 qGtr v6 (.int .u64 9223372036854775807) <| .mk fun v21 =>
 k v21 h) <| .mk fun v22 h =>
 qIf v22 (.mk (
 none)) <| .mk (
 j7 x0 x1 x2 v5 v6 x5 x6 v4 v5 v6 x10 h)
noncomputable def f211 {β : Type} (N : Nat) (call : FCall β) (a : List AV) (h : H) (k : K β) : Option β :=
 qJoin 11 (.mk (
 f211_J0 N call k)) <| .mk fun j0 =>
 qLss (nth a 1) (.int .i64 0) <| .mk fun v23 =>
 qIf v23 (.mk (
 none)) <| .mk (
 j0 (nth a 0) (nth a 1) .nils (nth a 5) (nth a 6) (nth a 7) (nth a 8) (nth a 12) (nth a 19) (nth a 20) (nth a 29) h)
theorem y211 {β : Type} (I : FI) (N : Nat) (call : FCall β) (a : List AV) (h : H) (k : K β) : fBody I 211 T.s211 N call a h k = f211 N call a h k := by kernel_rfl
noncomputable def f226_J1 {β : Type} (k : K β) (x0 x1 x2 x3 x4 x5 x6 : AV) (h : H) : Option β :=
 qConv .i16 x5 <| .mk fun v2 =>
 qConv .i64 v2 <| .mk fun v3 =>
 k (.tup [v3, (.int .i64 0)]) h
noncomputable def f226_J0 {β : Type} (call : FCall β) (k : K β) (x0 x1 x2 x3 x4 x5 x6 : AV) (h : H) : Option β :=
 qJoin 7 (.mk (
 f226_J1 k)) <| .mk fun j1 =>
 qEql x0 (.int .i64 0) <| .mk fun v4 =>
 qIf v4 (.mk (
 qAdd x1 x2 <| .mk fun v5 =>
 j1 x0 x1 x2 x3 x4 v5 x0 h)) <| .mk (
 qEql x0 (.int .i64 1) <| .mk fun v6 =>
 qIf v6 (.mk (
 qSub x1 x2 <| .mk fun v7 =>
 j1 x0 x1 x2 x3 x4 v7 x0 h)) <| .mk (
 qEql x0 (.int .i64 2) <| .mk fun v8 =>
 qIf v8 (.mk (
 qMul x1 x2 <| .mk fun v9 =>
 j1 x0 x1 x2 x3 x4 v9 x0 h)) <| .mk (
 qEql x0 (.int .i64 3) <| .mk fun v10 =>
 qIf v10 (.mk (
 qEql x1 x2 <| .mk fun v11 =>
 qCall call (.fn 230 []) [v11] h <| .mk fun v12 h =>
 j1 x0 x1 x2 x3 x4 v12 x0 h)) <| .mk (
 qEql x0 (.int .i64 4) <| .mk fun v13 =>
 qIf v13 (.mk (
 qLss x1 x2 <| .mk fun v14 =>
 qCall call (.fn 230 []) [v14] h <| .mk fun v15 h =>
 j1 x0 x1 x2 x3 x4 v15 x0 h)) <| .mk (
 k (.tup [(.int .i64 0), (.int .i64 100)]) h)))))
noncomputable def f226 {β : Type} (N : Nat) (call : FCall β) (a : List AV) (h : H) (k : K β) : Option β :=
 qJoin 7 (.mk (
 f226_J0 call k)) <| .mk fun j0 =>
 qCall call (.fn 28 []) [(nth a 1)] h <| .mk fun v16 h =>
 qNot v16 <| .mk fun v17 =>
 qOr v17 h (.mk fun h k =>
 qCall call (.fn 28 []) [(nth a 2)] h <| .mk fun v18 h =>
 qNot v18 <| .mk fun v19 =>
 k v19 h) <| .mk fun v20 h =>
 qIf v20 (.mk (
 k (.tup [(.int .i64 0), (.int .i64 100)]) h)) <| .mk (
 j0 (nth a 0) (nth a 1) (nth a 2) (.int .i64 0) (.int .i64 0) (nth a 8) (nth a 17) h)
theorem y226 {β : Type} (I : FI) (N : Nat) (call : FCall β) (a : List AV) (h : H) (k : K β) : fBody I 226 T.s226 N call a h k = f226 N call a h k := by kernel_rfl
noncomputable def f227_J2 {β : Type} (k : K β) (x0 x1 x2 x3 x4 x5 x6 x7 x8 x9 x10 x11 x12 x13 : AV) (h : H) : Option β :=
 k x4 h
noncomputable def f227_J7 {β : Type} (l4 : Cur β 14) (x0 x1 x2 x3 x4 x5 x6 x7 x8 x9 x10 x11 x12 x13 : AV) (h : H) : Option β :=
 qAdd x12 (.int .i64 1) <| .mk fun v8 =>
 l4 x0 x1 x2 x3 x4 x5 x6 x7 x8 x9 x10 x11 v8 x13 h
noncomputable def f227_J6 {β : Type} (l4 : Cur β 14) (x0 x1 x2 x3 x4 x5 x6 x7 x8 x9 x10 x11 x12 x13 : AV) (h : H) : Option β :=
 qJoin 14 (.mk (
 f227_J7 l4)) <| .mk fun j7 =>
 qIadr 1 x10 x12 <| .mk fun v9 =>
 qLoad1 v9 h <| .mk fun v10 =>
 qApp 0 4 72 x4 v10 h <| .mk fun v11 h =>
 j7 x0 x1 x2 x3 v11 v10 x6 x7 x8 x9 x10 x11 x12 x13 h
noncomputable def f227_L4 {β : Type} (j2 : Cur β 14) (l4 : Cur β 14) (x0 x1 x2 x3 x4 x5 x6 x7 x8 x9 x10 x11 x12 x13 : AV) (h : H) : Option β :=
 qLss x12 x11 <| .mk fun v5 =>
 qJoin 14 (.mk (
 f227_J6 l4)) <| .mk fun j6 =>
 qIf v5 (.mk (
 j6 .any .any .any .any x4 .any .any .any .any .any x10 x11 x12 v5 h)) <| .mk (
 j2 .any .any .any .any x4 .any .any .any .any .any x10 x11 x12 v5 h)
noncomputable def f227_J0 {β : Type} (N : Nat) (call : FCall β) (k : K β) (x0 x1 x2 x3 x4 x5 x6 x7 x8 x9 x10 x11 x12 x13 : AV) (h : H) : Option β :=
 qCall call (.fn 231 []) [.nils, x2] h <| .mk fun v1 h =>
 qJoin 14 (.mk (
 f227_J2 k)) <| .mk fun j2 =>
 qLenL x0 <| .mk fun v3 =>
 (qLoop 14 N <| .mk (
 f227_L4 j2)) x0 x1 x2 x3 v1 x5 x6 x7 x8 x9 x0 v3 (.int .i64 0) x13 h
noncomputable def f227_J16 {β : Type} (l13 : Cur β 14) (x0 x1 x2 x3 x4 x5 x6 x7 x8 x9 x10 x11 x12 x13 : AV) (h : H) : Option β :=
 qAdd x8 (.int .i64 1) <| .mk fun v17 =>
 l13 x0 x1 x2 x3 x4 x5 x6 x7 v17 x9 x10 x11 x12 x13 h
noncomputable def f227_J15 {β : Type} (l13 : Cur β 14) (x0 x1 x2 x3 x4 x5 x6 x7 x8 x9 x10 x11 x12 x13 : AV) (h : H) : Option β :=
 qJoin 14 (.mk (
 f227_J16 l13)) <| .mk fun j16 =>
 qIadr 1 x6 x8 <| .mk fun v18 =>
 qLoad1 v18 h <| .mk fun v19 =>
 qLenL v19 <| .mk fun v20 =>
 qAdd x2 v20 <| .mk fun v21 =>
 qLss v21 (.int .i64 0) <| .mk fun v22 =>
 qIf v22 (.mk (
 none)) <| .mk (
 j16 x0 x1 v21 v19 x4 x5 x6 x7 x8 x9 x10 x11 x12 x13 h)
noncomputable def f227_L13 {β : Type} (j0 : Cur β 14) (l13 : Cur β 14) (x0 x1 x2 x3 x4 x5 x6 x7 x8 x9 x10 x11 x12 x13 : AV) (h : H) : Option β :=
 qLss x8 x7 <| .mk fun v14 =>
 qJoin 14 (.mk (
 f227_J15 l13)) <| .mk fun j15 =>
 qIf v14 (.mk (
 j15 x0 .any x2 .any .any .any x6 x7 x8 v14 .any .any .any .any h)) <| .mk (
 j0 x0 .any x2 .any .any .any x6 x7 x8 v14 .any .any .any .any h)
noncomputable def f227 {β : Type} (N : Nat) (call : FCall β) (a : List AV) (h : H) (k : K β) : Option β :=
 qJoin 14 (.mk (
 f227_J0 N call k)) <| .mk fun j0 =>
 qLenL (nth a 0) <| .mk fun v12 =>
 (qLoop 14 N <| .mk (
 f227_L13 j0)) (nth a 0) .nils (.int .i64 0) (nth a 5) (nth a 6) (nth a 8) (nth a 0) v12 (.int .i64 0) (nth a 12) (nth a 25) (nth a 26) (nth a 27) (nth a 28) h
theorem y227 {β : Type} (I : FI) (N : Nat) (call : FCall β) (a : List AV) (h : H) (k : K β) : fBody I 227 T.s227 N call a h k = f227 N call a h k := by kernel_rfl
noncomputable def f228_J0 {β : Type} (call : FCall β) (k : K β) (x0 x1 x2 x3 x4 x5 x6 x7 x8 x9 x10 x11 x12 x13 x14 x15 x16 x17 : AV) (h : H) : Option β :=
 qCall call (.fn 233 []) [x0, x1] h <| .mk fun v1 h =>
 qExt 0 v1 <| .mk fun v2 =>
 qExt 1 v1 <| .mk fun v3 =>
 k (.tup [v2, v3]) h
noncomputable def f228 {β : Type} (N : Nat) (call : FCall β) (a : List AV) (h : H) (k : K β) : Option β :=
 qJoin 18 (.mk (
 f228_J0 call k)) <| .mk fun j0 =>
 qIf (.bool false) (.mk (
 qConv .u32 (nth a 0) <| .mk fun v4 =>
 qConv .u32 (nth a 1) <| .mk fun v5 =>
 qCall call (.fn 232 []) [v4, v5] h <| .mk fun v6 h =>
 qExt 0 v6 <| .mk fun v7 =>
 qExt 1 v6 <| .mk fun v8 =>
 qConv .u64 v7 <| .mk fun v9 =>
 qConv .u64 v8 <| .mk fun v10 =>
 k (.tup [v9, v10]) h)) <| .mk (
 j0 (nth a 0) (nth a 1) (.int .u64 0) (.int .u64 0) (nth a 6) (nth a 7) (nth a 8) (nth a 9) (nth a 10) (nth a 16) (nth a 17) (nth a 19) (nth a 21) (nth a 22) (nth a 26) (nth a 27) (nth a 28) (nth a 29) h)
theorem y228 {β : Type} (I : FI) (N : Nat) (call : FCall β) (a : List AV) (h : H) (k : K β) : fBody I 228 T.s228 N call a h k = f228 N call a h k := by kernel_rfl
noncomputable def f230_J0 {β : Type} (k : K β) (x0 x1 : AV) (h : H) : Option β :=
 k (.int .i64 0) h
noncomputable def f230 {β : Type} (N : Nat) (call : FCall β) (a : List AV) (h : H) (k : K β) : Option β :=
 qJoin 2 (.mk (
 f230_J0 k)) <| .mk fun j0 =>
 qIf (nth a 0) (.mk (
 k (.int .i64 1) h)) <| .mk (
 j0 (nth a 0) (.int .i64 0) h)
theorem y230 {β : Type} (I : FI) (N : Nat) (call : FCall β) (a : List AV) (h : H) (k : K β) : fBody I 230 T.s230 N call a h k = f230 N call a h k := by kernel_rfl
noncomputable def f231_J1 {β : Type} (k : K β) (x0 x1 x2 : AV) (h : H) : Option β :=
 k x0 h
noncomputable def f231_J0 {β : Type} (k : K β) (x0 x1 x2 : AV) (h : H) : Option β :=
 qJoin 3 (.mk (
 f231_J1 k)) <| .mk fun j1 =>
 qCapL x0 <| .mk fun v2 =>
 qLenL x0 <| .mk fun v3 =>
 qSub v2 v3 <| .mk fun v4 =>
 qSub x1 v4 <| .mk fun v5 =>
 qGtr v5 (.int .i64 0) <| .mk fun v6 =>
 qIf v6 (.mk (
 qCapL x0 <| .mk fun v7 =>
 qSlL 4 false true false x0 [v7] <| .mk fun v8 =>
 qAppz 0 4 72 [(.str []), .nils, (.int .i64 0), .nils] v8 v5 h <| .mk fun v9 h =>
 qLenL x0 <| .mk fun v10 =>
 qSlL 4 false true false v9 [v10] <| .mk fun v11 =>
 j1 v11 v5 x2 h)) <| .mk (
 j1 x0 v5 x2 h)
noncomputable def f231 {β : Type} (N : Nat) (call : FCall β) (a : List AV) (h : H) (k : K β) : Option β :=
 qJoin 3 (.mk (
 f231_J0 k)) <| .mk fun j0 =>
 qLss (nth a 1) (.int .i64 0) <| .mk fun v12 =>
 qIf v12 (.mk (
 none)) <| .mk (
 j0 (nth a 0) (nth a 1) .nils h)
theorem y231 {β : Type} (I : FI) (N : Nat) (call : FCall β) (a : List AV) (h : H) (k : K β) : fBody I 231 T.s231 N call a h k = f231 N call a h k := by kernel_rfl
noncomputable def f232 {β : Type} (N : Nat) (call : FCall β) (a : List AV) (h : H) (k : K β) : Option β :=
 qConv .u64 (nth a 0) <| .mk fun v0 =>
 qConv .u64 (nth a 1) <| .mk fun v1 =>
 qMul v0 v1 <| .mk fun v2 =>
 qBin .shr v2 (.int .u64 32) <| .mk fun v3 =>
 qConv .u32 v3 <| .mk fun v4 =>
 qConv .u32 v2 <| .mk fun v5 =>
 k (.tup [v4, v5]) h
theorem y232 {β : Type} (I : FI) (N : Nat) (call : FCall β) (a : List AV) (h : H) (k : K β) : fBody I 232 T.s232 N call a h k = f232 N call a h k := by kernel_rfl
noncomputable def f233 {β : Type} (N : Nat) (call : FCall β) (a : List AV) (h : H) (k : K β) : Option β :=
 qBin .and (nth a 0) (.int .u64 4294967295) <| .mk fun v0 =>
 qBin .shr (nth a 0) (.int .u64 32) <| .mk fun v1 =>
 qBin .and (nth a 1) (.int .u64 4294967295) <| .mk fun v2 =>
 qBin .shr (nth a 1) (.int .u64 32) <| .mk fun v3 =>
 qMul v0 v2 <| .mk fun v4 =>
 qMul v1 v2 <| .mk fun v5 =>
 qBin .shr v4 (.int .u64 32) <| .mk fun v6 =>
 qAdd v5 v6 <| .mk fun v7 =>
 qBin .and v7 (.int .u64 4294967295) <| .mk fun v8 =>
 qBin .shr v7 (.int .u64 32) <| .mk fun v9 =>
 qMul v0 v3 <| .mk fun v10 =>
 qAdd v8 v10 <| .mk fun v11 =>
 qMul v1 v3 <| .mk fun v12 =>
 qAdd v12 v9 <| .mk fun v13 =>
 qBin .shr v11 (.int .u64 32) <| .mk fun v14 =>
 qAdd v13 v14 <| .mk fun v15 =>
 qMul (nth a 0) (nth a 1) <| .mk fun v16 =>
 k (.tup [v15, v16]) h
theorem y233 {β : Type} (I : FI) (N : Nat) (call : FCall β) (a : List AV) (h : H) (k : K β) : fBody I 233 T.s233 N call a h k = f233 N call a h k := by kernel_rfl
noncomputable def e155 : Ent := ⟨155, T.s155, fun _ _ N call a h k => f155 N call a h k, fun _ I N call a h k => y155 I N call a h k⟩
noncomputable def e181 : Ent := ⟨181, T.s181, fun _ _ N call a h k => f181 N call a h k, fun _ I N call a h k => y181 I N call a h k⟩
noncomputable def e184 : Ent := ⟨184, T.s184, fun _ _ N call a h k => f184 N call a h k, fun _ I N call a h k => y184 I N call a h k⟩
noncomputable def e185 : Ent := ⟨185, T.s185, fun _ _ N call a h k => f185 N call a h k, fun _ I N call a h k => y185 I N call a h k⟩
noncomputable def e204 : Ent := ⟨204, T.s204, fun _ _ N call a h k => f204 N call a h k, fun _ I N call a h k => y204 I N call a h k⟩
noncomputable def e205 : Ent := ⟨205, T.s205, fun _ _ N call a h k => f205 N call a h k, fun _ I N call a h k => y205 I N call a h k⟩
noncomputable def e206 : Ent := ⟨206, T.s206, fun _ _ N call a h k => f206 N call a h k, fun _ I N call a h k => y206 I N call a h k⟩
noncomputable def e207 : Ent := ⟨207, T.s207, fun _ _ N call a h k => f207 N call a h k, fun _ I N call a h k => y207 I N call a h k⟩
noncomputable def e208 : Ent := ⟨208, T.s208, fun _ _ N call a h k => f208 N call a h k, fun _ I N call a h k => y208 I N call a h k⟩
noncomputable def e209 : Ent := ⟨209, T.s209, fun _ _ N call a h k => f209 N call a h k, fun _ I N call a h k => y209 I N call a h k⟩
noncomputable def e210 : Ent := ⟨210, T.s210, fun _ _ N call a h k => f210 N call a h k, fun _ I N call a h k => y210 I N call a h k⟩
noncomputable def e211 : Ent := ⟨211, T.s211, fun _ _ N call a h k => f211 N call a h k, fun _ I N call a h k => y211 I N call a h k⟩
noncomputable def e226 : Ent := ⟨226, T.s226, fun _ _ N call a h k => f226 N call a h k, fun _ I N call a h k => y226 I N call a h k⟩
noncomputable def e227 : Ent := ⟨227, T.s227, fun _ _ N call a h k => f227 N call a h k, fun _ I N call a h k => y227 I N call a h k⟩
noncomputable def e228 : Ent := ⟨228, T.s228, fun _ _ N call a h k => f228 N call a h k, fun _ I N call a h k => y228 I N call a h k⟩
noncomputable def e230 : Ent := ⟨230, T.s230, fun _ _ N call a h k => f230 N call a h k, fun _ I N call a h k => y230 I N call a h k⟩
noncomputable def e231 : Ent := ⟨231, T.s231, fun _ _ N call a h k => f231 N call a h k, fun _ I N call a h k => y231 I N call a h k⟩
noncomputable def e232 : Ent := ⟨232, T.s232, fun _ _ N call a h k => f232 N call a h k, fun _ I N call a h k => y232 I N call a h k⟩
noncomputable def e233 : Ent := ⟨233, T.s233, fun _ _ N call a h k => f233 N call a h k, fun _ I N call a h k => y233 I N call a h k⟩
structure GNM (t : ETree) : Prop where
  g155 : t.get 155 = some e155
  g181 : t.get 181 = some e181
  g184 : t.get 184 = some e184
  g185 : t.get 185 = some e185
  g204 : t.get 204 = some e204
  g205 : t.get 205 = some e205
  g206 : t.get 206 = some e206
  g207 : t.get 207 = some e207
  g208 : t.get 208 = some e208
  g209 : t.get 209 = some e209
  g210 : t.get 210 = some e210
  g211 : t.get 211 = some e211
  g226 : t.get 226 = some e226
  g227 : t.get 227 = some e227
  g228 : t.get 228 = some e228
  g230 : t.get 230 = some e230
  g231 : t.get 231 = some e231
  g232 : t.get 232 = some e232
  g233 : t.get 233 = some e233
section
variable {β : Type} {t : ETree} {I : FI}
end
end Am.F
