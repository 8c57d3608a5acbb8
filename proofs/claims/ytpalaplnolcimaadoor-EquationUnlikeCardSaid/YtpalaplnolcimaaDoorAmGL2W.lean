/- What the functions come to. -/
import Derived.Test.YtpalaplnolcimaaDoorAmGL2T
import Derived.Test.YtpalaplnolcimaaDoorAmJc
set_option maxRecDepth 100000
set_option linter.unusedVariables false
namespace Am.F
open Go Am
noncomputable def f4_J18 {β : Type} (call : FCall β) (k : K β) (x0 x1 x2 x3 x4 x5 x6 x7 x8 x9 x10 x11 x12 x13 x14 x15 x16 x17 x18 x19 x20 x21 x22 x23 x24 x25 x26 x27 x28 x29 x30 x31 x32 x33 x34 x35 x36 x37 x38 : AV) (h : H) : Option β :=
 qCall call (.fn 19 []) [x8] h <| .mk fun v19 h =>
 qCall call (.fn 20 []) [x5, x3] h <| .mk fun v20 h =>
 qAnd v20 h (.mk fun h k =>
 qCall call (.fn 21 []) [] h <| .mk fun v21 h =>
 k v21 h) <| .mk fun v22 h =>
 k v22 h

noncomputable def f4_J17 {β : Type} (call : FCall β) (k : K β) (x0 x1 x2 x3 x4 x5 x6 x7 x8 x9 x10 x11 x12 x13 x14 x15 x16 x17 x18 x19 x20 x21 x22 x23 x24 x25 x26 x27 x28 x29 x30 x31 x32 x33 x34 x35 x36 x37 x38 : AV) (h : H) : Option β :=
 qJoin 39 (.mk (
 f4_J18 call k)) <| .mk fun j18 =>
 qCall call (.fn 16 []) [x9] h <| .mk fun v23 h =>
 qEql v23 (.int .i64 0) <| .mk fun v24 =>
 qIf v24 (.mk (
 qCall call (.fn 13 []) [x6, x7, x8] h <| .mk fun v25 h =>
 qExt 0 v25 <| .mk fun v26 =>
 qExt 1 v25 <| .mk fun v27 =>
 qSNeq v26 x0 <| .mk fun v28 =>
 qOr v28 h (.mk fun h k =>
 qCall call (.fn 16 []) [v27] h <| .mk fun v29 h =>
 qNeq v29 (.int .i64 0) <| .mk fun v30 =>
 k v30 h) <| .mk fun v31 h =>
 qIf v31 (.mk (
 k (.bool false) h)) <| .mk (
 j18 x0 x1 x2 x3 x4 x5 x6 x7 x8 x9 x10 x11 x12 x13 x14 x15 x16 x17 v26 v27 x20 x21 x22 x23 x24 x25 x26 x27 x28 x29 x30 x31 x32 x33 x34 x35 v25 v26 v27 h))) <| .mk (
 j18 x0 x1 x2 x3 x4 x5 x6 x7 x8 x9 x10 x11 x12 x13 x14 x15 x16 x17 x18 x19 x20 x21 x22 x23 x24 x25 x26 x27 x28 x29 x30 x31 x32 x33 x34 x35 x36 x37 x38 h)

noncomputable def f4_sleuthlaw2_Terms {β : Type} (N : Nat) (call : FCall β) (a : List AV) (h : H) (k : K β) : Option β :=
 qCall call (.fn 10 []) [(nth a 3)] h <| .mk fun v0 h =>
 qCall call (.fn 11 []) [(nth a 0)] h <| .mk fun v1 h =>
 qExt 0 v1 <| .mk fun v2 =>
 qExt 1 v1 <| .mk fun v3 =>
 qExt 2 v1 <| .mk fun v4 =>
 qExt 3 v1 <| .mk fun v5 =>
 qCall call (.fn 12 []) [(nth a 0)] h <| .mk fun v6 h =>
 qExt 0 v6 <| .mk fun v7 =>
 qExt 1 v6 <| .mk fun v8 =>
 qExt 2 v6 <| .mk fun v9 =>
 qExt 3 v6 <| .mk fun v10 =>
 qCall call (.fn 13 []) [(nth a 1), (nth a 2), v0] h <| .mk fun v11 h =>
 qExt 0 v11 <| .mk fun v12 =>
 qExt 1 v11 <| .mk fun v13 =>
 qCall call (.fn 14 []) [(nth a 1), (nth a 2), (nth a 3)] h <| .mk fun v14 h =>
 qExt 0 v14 <| .mk fun v15 =>
 qExt 1 v14 <| .mk fun v16 =>
 qJoin 39 (.mk (
 f4_J17 call k)) <| .mk fun j17 =>
 qNeq v2 v7 <| .mk fun v32 =>
 qOr v32 h (.mk fun h k =>
 qNeq v3 v8 <| .mk fun v33 =>
 k v33 h) <| .mk fun v34 h =>
 qOr v34 h (.mk fun h k =>
 qCall call (.fn 15 []) [v4, v9] h <| .mk fun v35 h =>
 qNot v35 <| .mk fun v36 =>
 k v36 h) <| .mk fun v37 h =>
 qOr v37 h (.mk fun h k =>
 qCall call (.fn 16 []) [v5] h <| .mk fun v38 h =>
 qNeq v38 v10 <| .mk fun v39 =>
 k v39 h) <| .mk fun v40 h =>
 qOr v40 h (.mk fun h k =>
 qSNeq v12 v15 <| .mk fun v41 =>
 k v41 h) <| .mk fun v42 h =>
 qOr v42 h (.mk fun h k =>
 qCall call (.fn 16 []) [v13] h <| .mk fun v43 h =>
 qNeq v43 v16 <| .mk fun v44 =>
 k v44 h) <| .mk fun v45 h =>
 qOr v45 h (.mk fun h k =>
 qCall call (.fn 17 []) [(nth a 0)] h <| .mk fun v46 h =>
 qCall call (.fn 18 []) [(nth a 0)] h <| .mk fun v47 h =>
 qEqB true v46 v47 <| .mk fun v48 =>
 k v48 h) <| .mk fun v49 h =>
 qIf v49 (.mk (
 k (.bool false) h)) <| .mk (
 j17 (nth a 0) (nth a 1) (nth a 2) (nth a 3) (.bool false) v0 v2 v3 v4 v5 v7 v8 v9 v10 v12 v13 v15 v16 (nth a 22) (nth a 23) v1 v2 v3 v4 v5 v6 v7 v8 v9 v10 v11 v12 v13 v14 v15 v16 (nth a 95) (nth a 100) (nth a 101) h)

theorem e4_sleuthlaw2_Terms {β : Type} (I : FI) (N : Nat) (call : FCall β) (a : List AV) (h : H) (k : K β) : fBody I 4 T.s4_sleuthlaw2_Terms N call a h k = f4_sleuthlaw2_Terms N call a h k := by kernel_rfl

noncomputable def f7_J1 {β : Type} (call : FCall β) (k : K β) (x0 x1 x2 x3 x4 x5 x6 : AV) (h : H) : Option β :=
 qBin .and x0 (.int .i64 15) <| .mk fun v2 =>
 qBslice 0 [(.str []), (.str []), (.str []), (.str []), (.str []), (.str []), (.str []), (.str []), (.str []), (.str []), (.str []), (.str []), (.str []), (.str []), (.str []), (.str [])] 16 [(0, 1), (1, 1), (2, 1), (3, 1), (4, 1), (5, 1), (6, 1), (7, 1), (8, 1), (9, 1), (10, 1), (11, 1), (12, 1), (13, 1), (14, 1), (15, 1)] [(.str [49]), (.str [49, 50]), (.str [49, 50, 51]), (.str [49, 50, 51, 52]), (.str [49, 50, 51, 52, 53]), (.str [45, 49, 50, 51, 52, 53]), (.str [64, 49, 40, 49, 50, 51, 41]), (.str [64, 49, 40, 49, 50, 51, 52, 41]), (.str [64, 49, 40, 49, 50, 51, 52, 53, 41]), (.str [64, 49, 40, 49, 32, 50, 32, 51, 41]), (.str [64, 49, 40, 45, 49, 50, 51, 52, 53, 41]), (.str [64, 49, 40, 49, 32, 50, 41]), (.str [64, 57, 57, 40, 49, 41]), (.str [64, 57, 57, 40, 49, 50, 41]), (.str [64, 57, 57, 40, 49, 50, 51, 41]), (.str [64, 57, 57, 40, 49, 50, 51, 52, 41])] h <| .mk fun v3 h =>
 qIadr 1 v3 v2 <| .mk fun v4 =>
 qLoad1 v4 h <| .mk fun v5 =>
 qSAdd x2 v5 <| .mk fun v6 =>
 qSAdd v6 x3 <| .mk fun v7 =>
 qCall call (.fn 16 []) [(.int .i64 0)] h <| .mk fun v8 h =>
 qEql v8 (.int .i64 0) <| .mk fun v9 =>
 qAnd v9 h (.mk fun h k =>
 qCall call (.fn 17 []) [v7] h <| .mk fun v10 h =>
 qLenS v7 <| .mk fun v11 =>
 qLeq v11 (.int .i64 1024) <| .mk fun v12 =>
 qEqB false v10 v12 <| .mk fun v13 =>
 k v13 h) <| .mk fun v14 h =>
 qAnd v14 h (.mk fun h k =>
 qCall call (.fn 18 []) [v7] h <| .mk fun v15 h =>
 qLenS v7 <| .mk fun v16 =>
 qLeq v16 (.int .i64 1024) <| .mk fun v17 =>
 qEqB false v15 v17 <| .mk fun v18 =>
 k v18 h) <| .mk fun v19 h =>
 k v19 h

noncomputable def f7_J22 {β : Type} (l20 : Cur β 7) (x0 x1 x2 x3 x4 x5 x6 : AV) (h : H) : Option β :=
 qAdd x4 (.int .i64 1) <| .mk fun v23 =>
 l20 x0 x1 x2 x3 v23 x5 x6 h

noncomputable def f7_J21 {β : Type} (l20 : Cur β 7) (x0 x1 x2 x3 x4 x5 x6 : AV) (h : H) : Option β :=
 qJoin 7 (.mk (
 f7_J22 l20)) <| .mk fun j22 =>
 qSAdd x2 (.str [64, 49, 40]) <| .mk fun v24 =>
 qSAdd x3 (.str [41]) <| .mk fun v25 =>
 j22 x0 x1 v24 v25 x4 x5 x6 h

noncomputable def f7_L20 {β : Type} (j1 : Cur β 7) (l20 : Cur β 7) (x0 x1 x2 x3 x4 x5 x6 : AV) (h : H) : Option β :=
 qJoin 7 (.mk (
 f7_J21 l20)) <| .mk fun j21 =>
 qLss x4 (.int .i64 254) <| .mk fun v26 =>
 qIf v26 (.mk (
 j21 x0 .any x2 x3 x4 .any .any h)) <| .mk (
 j1 x0 .any x2 x3 x4 .any .any h)

noncomputable def f7_J0 {β : Type} (N : Nat) (call : FCall β) (k : K β) (x0 x1 x2 x3 x4 x5 x6 : AV) (h : H) : Option β :=
 qJoin 7 (.mk (
 f7_J1 call k)) <| .mk fun j1 =>
 (qLoop 7 N <| .mk (
 f7_L20 j1)) x0 x1 (.str []) (.str []) (.int .i64 0) x5 x6 h

noncomputable def f7_sleuthlaw2_TermLong {β : Type} (N : Nat) (call : FCall β) (a : List AV) (h : H) (k : K β) : Option β :=
 qJoin 7 (.mk (
 f7_J0 N call k)) <| .mk fun j0 =>
 qCall call (.fn 21 []) [] h <| .mk fun v27 h =>
 qNot v27 <| .mk fun v28 =>
 qIf v28 (.mk (
 k (.bool false) h)) <| .mk (
 j0 (nth a 0) (.bool false) (nth a 3) (nth a 4) (nth a 5) (nth a 6) (nth a 7) h)

theorem e7_sleuthlaw2_TermLong {β : Type} (I : FI) (N : Nat) (call : FCall β) (a : List AV) (h : H) (k : K β) : fBody I 7 T.s7_sleuthlaw2_TermLong N call a h k = f7_sleuthlaw2_TermLong N call a h k := by kernel_rfl

noncomputable def f8_J0 {β : Type} (call : FCall β) (k : K β) (x0 x1 x2 x3 x4 x5 x6 x7 x8 x9 x10 x11 x12 x13 x14 x15 x16 x17 x18 x19 x20 x21 x22 x23 x24 x25 x26 x27 x28 x29 x30 x31 x32 x33 x34 : AV) (h : H) : Option β :=
 qBin .and x0 (.int .i64 65535) <| .mk fun v1 =>
 qSub v1 (.int .i64 32768) <| .mk fun v2 =>
 qConv .u64 x1 <| .mk fun v3 =>
 qBin .rem v3 (.int .u64 100) <| .mk fun v4 =>
 qConv .i64 v4 <| .mk fun v5 =>
 qCall call (.fn 13 []) [(.int .i64 1), v2, .nils] h <| .mk fun v6 h =>
 qExt 0 v6 <| .mk fun v7 =>
 qExt 1 v6 <| .mk fun v8 =>
 qCall call (.fn 11 []) [v7] h <| .mk fun v9 h =>
 qExt 0 v9 <| .mk fun v10 =>
 qExt 1 v9 <| .mk fun v11 =>
 qExt 2 v9 <| .mk fun v12 =>
 qExt 3 v9 <| .mk fun v13 =>
 qBslice 0 [(.str [])] 1 [(0, 1)] [v7] h <| .mk fun v14 h =>
 qCall call (.fn 13 []) [(.int .i64 2), v5, v14] h <| .mk fun v15 h =>
 qExt 0 v15 <| .mk fun v16 =>
 qExt 1 v15 <| .mk fun v17 =>
 qCall call (.fn 11 []) [v16] h <| .mk fun v18 h =>
 qExt 0 v18 <| .mk fun v19 =>
 qExt 1 v18 <| .mk fun v20 =>
 qExt 2 v18 <| .mk fun v21 =>
 qExt 3 v18 <| .mk fun v22 =>
 qCall call (.fn 16 []) [v8] h <| .mk fun v23 h =>
 qEql v23 (.int .i64 0) <| .mk fun v24 =>
 qAnd v24 h (.mk fun h k =>
 qCall call (.fn 16 []) [v13] h <| .mk fun v25 h =>
 qEql v25 (.int .i64 0) <| .mk fun v26 =>
 k v26 h) <| .mk fun v27 h =>
 qAnd v27 h (.mk fun h k =>
 qEql v10 (.int .i64 1) <| .mk fun v28 =>
 k v28 h) <| .mk fun v29 h =>
 qAnd v29 h (.mk fun h k =>
 qEql v11 v2 <| .mk fun v30 =>
 k v30 h) <| .mk fun v31 h =>
 qAnd v31 h (.mk fun h k =>
 qLenL v12 <| .mk fun v32 =>
 qEql v32 (.int .i64 0) <| .mk fun v33 =>
 k v33 h) <| .mk fun v34 h =>
 qAnd v34 h (.mk fun h k =>
 qCall call (.fn 22 []) [v2] h <| .mk fun v35 h =>
 qSEql v7 v35 <| .mk fun v36 =>
 k v36 h) <| .mk fun v37 h =>
 qAnd v37 h (.mk fun h k =>
 qCall call (.fn 16 []) [v17] h <| .mk fun v38 h =>
 qEql v38 (.int .i64 0) <| .mk fun v39 =>
 k v39 h) <| .mk fun v40 h =>
 qAnd v40 h (.mk fun h k =>
 qCall call (.fn 16 []) [v22] h <| .mk fun v41 h =>
 qEql v41 (.int .i64 0) <| .mk fun v42 =>
 k v42 h) <| .mk fun v43 h =>
 qAnd v43 h (.mk fun h k =>
 qEql v19 (.int .i64 2) <| .mk fun v44 =>
 k v44 h) <| .mk fun v45 h =>
 qAnd v45 h (.mk fun h k =>
 qEql v20 v5 <| .mk fun v46 =>
 k v46 h) <| .mk fun v47 h =>
 qAnd v47 h (.mk fun h k =>
 qBslice 0 [(.str [])] 1 [(0, 1)] [v7] h <| .mk fun v48 h =>
 qCall call (.fn 15 []) [v21, v48] h <| .mk fun v49 h =>
 k v49 h) <| .mk fun v50 h =>
 qAnd v50 h (.mk fun h k =>
 qCall call (.fn 22 []) [v5] h <| .mk fun v51 h =>
 qSAdd (.str [64]) v51 <| .mk fun v52 =>
 qSAdd v52 (.str [40]) <| .mk fun v53 =>
 qSAdd v53 v7 <| .mk fun v54 =>
 qSAdd v54 (.str [41]) <| .mk fun v55 =>
 qSEql v16 v55 <| .mk fun v56 =>
 k v56 h) <| .mk fun v57 h =>
 k v57 h

noncomputable def f8_sleuthlaw2_TermNumbers {β : Type} (N : Nat) (call : FCall β) (a : List AV) (h : H) (k : K β) : Option β :=
 qJoin 35 (.mk (
 f8_J0 call k)) <| .mk fun j0 =>
 qCall call (.fn 21 []) [] h <| .mk fun v58 h =>
 qNot v58 <| .mk fun v59 =>
 qIf v59 (.mk (
 k (.bool false) h)) <| .mk (
 j0 (nth a 0) (nth a 1) (.bool false) (nth a 5) (nth a 6) (nth a 7) (nth a 8) (nth a 9) (nth a 10) (nth a 11) (nth a 12) (nth a 13) (nth a 14) (nth a 15) (nth a 16) (nth a 17) (nth a 18) (nth a 23) (nth a 27) (nth a 28) (nth a 31) (nth a 32) (nth a 33) (nth a 36) (nth a 37) (nth a 38) (nth a 39) (nth a 40) (nth a 45) (nth a 46) (nth a 47) (nth a 50) (nth a 51) (nth a 52) (nth a 53) h)

theorem e8_sleuthlaw2_TermNumbers {β : Type} (I : FI) (N : Nat) (call : FCall β) (a : List AV) (h : H) (k : K β) : fBody I 8 T.s8_sleuthlaw2_TermNumbers N call a h k = f8_sleuthlaw2_TermNumbers N call a h k := by kernel_rfl

noncomputable def f9_J7 {β : Type} (k : K β) (x0 x1 x2 x3 x4 x5 x6 x7 x8 x9 x10 x11 : AV) (h : H) : Option β :=
 qEql x2 (.int .i64 2) <| .mk fun v8 =>
 qOr v8 h (.mk fun h k =>
 qLenL x4 <| .mk fun v9 =>
 qEql v9 (.int .i64 0) <| .mk fun v10 =>
 k v10 h) <| .mk fun v11 h =>
 qAnd v11 h (.mk fun h k =>
 qLenL x4 <| .mk fun v12 =>
 qLeq v12 (.int .i64 3) <| .mk fun v13 =>
 k v13 h) <| .mk fun v14 h =>
 k v14 h

noncomputable def f9_J17 {β : Type} (l15 : Cur β 12) (x0 x1 x2 x3 x4 x5 x6 x7 x8 x9 x10 x11 : AV) (h : H) : Option β :=
 qAdd x6 (.int .i64 1) <| .mk fun v18 =>
 l15 x0 x1 x2 x3 x4 x5 v18 x7 x8 x9 x10 x11 h

noncomputable def f9_J16 {β : Type} (call : FCall β) (k : K β) (l15 : Cur β 12) (x0 x1 x2 x3 x4 x5 x6 x7 x8 x9 x10 x11 : AV) (h : H) : Option β :=
 qJoin 12 (.mk (
 f9_J17 l15)) <| .mk fun j17 =>
 qIadr 1 x4 x6 <| .mk fun v19 =>
 qLoad1 v19 h <| .mk fun v20 =>
 qCall call (.fn 17 []) [v20] h <| .mk fun v21 h =>
 qNot v21 <| .mk fun v22 =>
 qOr v22 h (.mk fun h k =>
 qIadr 1 x4 x6 <| .mk fun v23 =>
 qLoad1 v23 h <| .mk fun v24 =>
 qLenS v24 <| .mk fun v25 =>
 qLenS x0 <| .mk fun v26 =>
 qGeq v25 v26 <| .mk fun v27 =>
 k v27 h) <| .mk fun v28 h =>
 qOr v28 h (.mk fun h k =>
 qIadr 1 x4 x6 <| .mk fun v29 =>
 qLoad1 v29 h <| .mk fun v30 =>
 qCall call (.fn 18 []) [v30] h <| .mk fun v31 h =>
 qNot v31 <| .mk fun v32 =>
 k v32 h) <| .mk fun v33 h =>
 qIf v33 (.mk (
 k (.bool false) h)) <| .mk (
 j17 x0 x1 x2 x3 x4 x5 x6 x7 x8 x9 x10 x11 h)

noncomputable def f9_L15 {β : Type} (call : FCall β) (k : K β) (j7 : Cur β 12) (l15 : Cur β 12) (x0 x1 x2 x3 x4 x5 x6 x7 x8 x9 x10 x11 : AV) (h : H) : Option β :=
 qJoin 12 (.mk (
 f9_J16 call k l15)) <| .mk fun j16 =>
 qLenL x4 <| .mk fun v34 =>
 qLss x6 v34 <| .mk fun v35 =>
 qIf v35 (.mk (
 j16 x0 .any x2 .any x4 .any x6 .any .any .any .any .any h)) <| .mk (
 j7 x0 .any x2 .any x4 .any x6 .any .any .any .any .any h)

noncomputable def f9_J6 {β : Type} (N : Nat) (call : FCall β) (k : K β) (x0 x1 x2 x3 x4 x5 x6 x7 x8 x9 x10 x11 : AV) (h : H) : Option β :=
 qJoin 12 (.mk (
 f9_J7 k)) <| .mk fun j7 =>
 (qLoop 12 N <| .mk (
 f9_L15 call k j7)) x0 x1 x2 x3 x4 x5 (.int .i64 0) x7 x8 x9 x10 x11 h

noncomputable def f9_J0 {β : Type} (N : Nat) (call : FCall β) (k : K β) (x0 x1 x2 x3 x4 x5 x6 x7 x8 x9 x10 x11 : AV) (h : H) : Option β :=
 qCall call (.fn 11 []) [x0] h <| .mk fun v1 h =>
 qExt 0 v1 <| .mk fun v2 =>
 qExt 1 v1 <| .mk fun v3 =>
 qExt 2 v1 <| .mk fun v4 =>
 qExt 3 v1 <| .mk fun v5 =>
 qJoin 12 (.mk (
 f9_J6 N call k)) <| .mk fun j6 =>
 qCall call (.fn 16 []) [v5] h <| .mk fun v36 h =>
 qNeq v36 (.int .i64 0) <| .mk fun v37 =>
 qIf v37 (.mk (
 qEql v2 (.int .i64 0) <| .mk fun v38 =>
 qAnd v38 h (.mk fun h k =>
 qEql v3 (.int .i64 0) <| .mk fun v39 =>
 k v39 h) <| .mk fun v40 h =>
 qAnd v40 h (.mk fun h k =>
 qLenL v4 <| .mk fun v41 =>
 qEql v41 (.int .i64 0) <| .mk fun v42 =>
 k v42 h) <| .mk fun v43 h =>
 qAnd v43 h (.mk fun h k =>
 qCall call (.fn 17 []) [x0] h <| .mk fun v44 h =>
 qNot v44 <| .mk fun v45 =>
 k v45 h) <| .mk fun v46 h =>
 k v46 h)) <| .mk (
 j6 x0 x1 v2 v3 v4 v5 x6 v1 v2 v3 v4 v5 h)

noncomputable def f9_sleuthlaw2_TermParts {β : Type} (N : Nat) (call : FCall β) (a : List AV) (h : H) (k : K β) : Option β :=
 qJoin 12 (.mk (
 f9_J0 N call k)) <| .mk fun j0 =>
 qCall call (.fn 21 []) [] h <| .mk fun v47 h =>
 qNot v47 <| .mk fun v48 =>
 qIf v48 (.mk (
 k (.bool false) h)) <| .mk (
 j0 (nth a 0) (.bool false) (nth a 3) (nth a 4) (nth a 5) (nth a 6) (nth a 7) (nth a 10) (nth a 13) (nth a 14) (nth a 15) (nth a 16) h)

theorem e9_sleuthlaw2_TermParts {β : Type} (I : FI) (N : Nat) (call : FCall β) (a : List AV) (h : H) (k : K β) : fBody I 9 T.s9_sleuthlaw2_TermParts N call a h k = f9_sleuthlaw2_TermParts N call a h k := by kernel_rfl

noncomputable def f21_sleuthlaw2_awake {β : Type} (N : Nat) (call : FCall β) (a : List AV) (h : H) (k : K β) : Option β :=
 qCall call (.fn 11 []) [(.str [64, 49, 50, 40, 45, 55, 32, 64, 48, 32, 95, 41])] h <| .mk fun v0 h =>
 qExt 0 v0 <| .mk fun v1 =>
 qExt 1 v0 <| .mk fun v2 =>
 qExt 2 v0 <| .mk fun v3 =>
 qExt 3 v0 <| .mk fun v4 =>
 qBslice 0 [(.str []), (.str []), (.str [])] 3 [(0, 1), (1, 1), (2, 1)] [(.str [45, 55]), (.str [64, 48]), (.str [95])] h <| .mk fun v5 h =>
 qCall call (.fn 13 []) [(.int .i64 2), (.int .i64 12), v5] h <| .mk fun v6 h =>
 qExt 0 v6 <| .mk fun v7 =>
 qExt 1 v6 <| .mk fun v8 =>
 qCall call (.fn 11 []) [(.str [64, 49, 40, 41])] h <| .mk fun v9 h =>
 qExt 0 v9 <| .mk fun v10 =>
 qExt 1 v9 <| .mk fun v11 =>
 qExt 2 v9 <| .mk fun v12 =>
 qExt 3 v9 <| .mk fun v13 =>
 qCall call (.fn 13 []) [(.int .i64 1), (.int .i64 32768), .nils] h <| .mk fun v14 h =>
 qExt 0 v14 <| .mk fun v15 =>
 qExt 1 v14 <| .mk fun v16 =>
 qEql v1 (.int .i64 2) <| .mk fun v17 =>
 qAnd v17 h (.mk fun h k =>
 qEql v2 (.int .i64 12) <| .mk fun v18 =>
 k v18 h) <| .mk fun v19 h =>
 qAnd v19 h (.mk fun h k =>
 qBslice 0 [(.str []), (.str []), (.str [])] 3 [(0, 1), (1, 1), (2, 1)] [(.str [45, 55]), (.str [64, 48]), (.str [95])] h <| .mk fun v20 h =>
 qCall call (.fn 15 []) [v3, v20] h <| .mk fun v21 h =>
 k v21 h) <| .mk fun v22 h =>
 qAnd v22 h (.mk fun h k =>
 qCall call (.fn 16 []) [v4] h <| .mk fun v23 h =>
 qEql v23 (.int .i64 0) <| .mk fun v24 =>
 k v24 h) <| .mk fun v25 h =>
 qAnd v25 h (.mk fun h k =>
 qSEql v7 (.str [64, 49, 50, 40, 45, 55, 32, 64, 48, 32, 95, 41]) <| .mk fun v26 =>
 k v26 h) <| .mk fun v27 h =>
 qAnd v27 h (.mk fun h k =>
 qCall call (.fn 16 []) [v8] h <| .mk fun v28 h =>
 qEql v28 (.int .i64 0) <| .mk fun v29 =>
 k v29 h) <| .mk fun v30 h =>
 qAnd v30 h (.mk fun h k =>
 qCall call (.fn 16 []) [v13] h <| .mk fun v31 h =>
 qEql v31 (.int .i64 200) <| .mk fun v32 =>
 k v32 h) <| .mk fun v33 h =>
 qAnd v33 h (.mk fun h k =>
 qCall call (.fn 16 []) [v16] h <| .mk fun v34 h =>
 qEql v34 (.int .i64 200) <| .mk fun v35 =>
 k v35 h) <| .mk fun v36 h =>
 qAnd v36 h (.mk fun h k =>
 qCall call (.fn 17 []) [(.str [33])] h <| .mk fun v37 h =>
 k v37 h) <| .mk fun v38 h =>
 qAnd v38 h (.mk fun h k =>
 qCall call (.fn 17 []) [(.str [48, 49])] h <| .mk fun v39 h =>
 qNot v39 <| .mk fun v40 =>
 k v40 h) <| .mk fun v41 h =>
 k v41 h

theorem e21_sleuthlaw2_awake {β : Type} (I : FI) (N : Nat) (call : FCall β) (a : List AV) (h : H) (k : K β) : fBody I 21 T.s21_sleuthlaw2_awake N call a h k = f21_sleuthlaw2_awake N call a h k := by kernel_rfl

noncomputable def e4 : Ent := ⟨4, T.s4_sleuthlaw2_Terms, fun _ _ N call a h k => f4_sleuthlaw2_Terms N call a h k, fun _ I N call a h k => e4_sleuthlaw2_Terms I N call a h k⟩
noncomputable def e7 : Ent := ⟨7, T.s7_sleuthlaw2_TermLong, fun _ _ N call a h k => f7_sleuthlaw2_TermLong N call a h k, fun _ I N call a h k => e7_sleuthlaw2_TermLong I N call a h k⟩
noncomputable def e8 : Ent := ⟨8, T.s8_sleuthlaw2_TermNumbers, fun _ _ N call a h k => f8_sleuthlaw2_TermNumbers N call a h k, fun _ I N call a h k => e8_sleuthlaw2_TermNumbers I N call a h k⟩
noncomputable def e9 : Ent := ⟨9, T.s9_sleuthlaw2_TermParts, fun _ _ N call a h k => f9_sleuthlaw2_TermParts N call a h k, fun _ I N call a h k => e9_sleuthlaw2_TermParts I N call a h k⟩
noncomputable def e21 : Ent := ⟨21, T.s21_sleuthlaw2_awake, fun _ _ N call a h k => f21_sleuthlaw2_awake N call a h k, fun _ I N call a h k => e21_sleuthlaw2_awake I N call a h k⟩

/-- The table holds these functions. -/
structure GL2 (t : ETree) : Prop where
  g4 : t.get 4 = some e4
  g7 : t.get 7 = some e7
  g8 : t.get 8 = some e8
  g9 : t.get 9 = some e9
  g21 : t.get 21 = some e21

section
variable {β : Type} {t : ETree} {I : FI}
theorem GL2.c4 (T : GL2 t) (n : Nat) (a : List AV) (h : H) (k : K β) : fRunS t I (n + 1) (.fn 4 []) a h k = f4_sleuthlaw2_Terms n (fRunS t I n) a h k := by rw [fRunS_succ t I n 4 [] a h k T.g4, List.append_nil]; rfl
theorem GL2.c7 (T : GL2 t) (n : Nat) (a : List AV) (h : H) (k : K β) : fRunS t I (n + 1) (.fn 7 []) a h k = f7_sleuthlaw2_TermLong n (fRunS t I n) a h k := by rw [fRunS_succ t I n 7 [] a h k T.g7, List.append_nil]; rfl
theorem GL2.c8 (T : GL2 t) (n : Nat) (a : List AV) (h : H) (k : K β) : fRunS t I (n + 1) (.fn 8 []) a h k = f8_sleuthlaw2_TermNumbers n (fRunS t I n) a h k := by rw [fRunS_succ t I n 8 [] a h k T.g8, List.append_nil]; rfl
theorem GL2.c9 (T : GL2 t) (n : Nat) (a : List AV) (h : H) (k : K β) : fRunS t I (n + 1) (.fn 9 []) a h k = f9_sleuthlaw2_TermParts n (fRunS t I n) a h k := by rw [fRunS_succ t I n 9 [] a h k T.g9, List.append_nil]; rfl
theorem GL2.c21 (T : GL2 t) (n : Nat) (a : List AV) (h : H) (k : K β) : fRunS t I (n + 1) (.fn 21 []) a h k = f21_sleuthlaw2_awake n (fRunS t I n) a h k := by rw [fRunS_succ t I n 21 [] a h k T.g21, List.append_nil]; rfl
theorem GL2.q4 (T : GL2 t) (n : Nat) (a : List AV) (h : H) (k : K β) : qCall (fRunS t I (n + 1)) (.fn 4 []) a h (.mk k) = f4_sleuthlaw2_Terms n (fRunS t I n) a h k := T.c4 n a h k
theorem GL2.q7 (T : GL2 t) (n : Nat) (a : List AV) (h : H) (k : K β) : qCall (fRunS t I (n + 1)) (.fn 7 []) a h (.mk k) = f7_sleuthlaw2_TermLong n (fRunS t I n) a h k := T.c7 n a h k
theorem GL2.q8 (T : GL2 t) (n : Nat) (a : List AV) (h : H) (k : K β) : qCall (fRunS t I (n + 1)) (.fn 8 []) a h (.mk k) = f8_sleuthlaw2_TermNumbers n (fRunS t I n) a h k := T.c8 n a h k
theorem GL2.q9 (T : GL2 t) (n : Nat) (a : List AV) (h : H) (k : K β) : qCall (fRunS t I (n + 1)) (.fn 9 []) a h (.mk k) = f9_sleuthlaw2_TermParts n (fRunS t I n) a h k := T.c9 n a h k
theorem GL2.q21 (T : GL2 t) (n : Nat) (a : List AV) (h : H) (k : K β) : qCall (fRunS t I (n + 1)) (.fn 21 []) a h (.mk k) = f21_sleuthlaw2_awake n (fRunS t I n) a h k := T.c21 n a h k
end
end Am.F
