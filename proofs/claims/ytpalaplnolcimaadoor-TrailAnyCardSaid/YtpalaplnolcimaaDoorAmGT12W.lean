/- What the functions come to. -/
import Derived.Test.YtpalaplnolcimaaDoorAmGT12T
import Derived.Test.YtpalaplnolcimaaDoorAmJc
set_option maxRecDepth 100000
set_option linter.unusedVariables false
namespace Am.F
open Go Am
noncomputable def f298 {β : Type} (N : Nat) (call : FCall β) (a : List AV) (h : H) (k : K β) : Option β :=
 qBox 0 (nth a 0) h <| .mk fun v0 h =>
 qLoadN 1 v0 h <| .mk fun v1 =>
 qCall call (.fn 135 []) [v1] h <| .mk fun v2 h =>
 qCall call (.fn 244 []) [(nth a 1)] h <| .mk fun v3 h =>
 qAlloc 0 [.nils] h <| .mk fun v4 h =>
 qStore 1 v4 v2 h <| .mk fun h =>
 qCall call (.fn 261 []) [v3] h <| .mk fun v5 h =>
 qCall call (.fn 299 []) [(nth a 1)] h <| .mk fun v6 h =>
 qEqB false v5 v6 <| .mk fun v7 =>
 qGrd v7 true h (.mk fun h k =>
 qLoadN 1 v4 h <| .mk fun v8 =>
 k v8 h) <| .mk fun v9 h =>
 qGrd v7 true h (.mk fun h k =>
 k v3 h) <| .mk fun v10 h =>
 qGrd v7 true h (.mk fun h k =>
 qLoadN 1 v0 h <| .mk fun v11 =>
 k v11 h) <| .mk fun v12 h =>
 qGrd v7 true h (.mk fun h k =>
 k (nth a 1) h) <| .mk fun v13 h =>
 qGrd v7 true h (.mk fun h k =>
 qCall call (.fn 262 []) [v9, v10] h <| .mk fun v14 h =>
 k v14 h) <| .mk fun v15 h =>
 qGrd v7 true h (.mk fun h k =>
 qLoadN 1 v0 h <| .mk fun v16 =>
 k v16 h) <| .mk fun v17 _ =>
 qChk v17 v12 <| .mk (
 qGrd v7 true h (.mk fun h k =>
 qCall call (.fn 300 []) [v12, v13] h <| .mk fun v18 h =>
 k v18 h) <| .mk fun v19 h =>
 qGrd v7 true h (.mk fun h k =>
 qEqB false v15 v19 <| .mk fun v20 =>
 k v20 h) <| .mk fun v21 h =>
 qPick v7 v21 (.bool false) <| .mk fun v22 =>
 qGrd v22 true h (.mk fun h k =>
 qLoadN 1 v4 h <| .mk fun v23 =>
 k v23 h) <| .mk fun v24 h =>
 qGrd v22 true h (.mk fun h k =>
 qLoadN 1 v0 h <| .mk fun v25 =>
 k v25 h) <| .mk fun v26 h =>
 qGrd v22 true h (.mk fun h k =>
 qCall call (.fn 140 []) [v24, v26] h <| .mk fun v27 h =>
 k v27 h) <| .mk fun v28 h =>
 qPick v22 v28 (.bool false) <| .mk fun v29 =>
 qGrd v29 true h (.mk fun h k =>
 k v3 h) <| .mk fun v30 h =>
 qGrd v29 true h (.mk fun h k =>
 k (nth a 1) h) <| .mk fun v31 h =>
 qGrd v29 true h (.mk fun h k =>
 qCall call (.fn 138 []) [v30, v31] h <| .mk fun v32 h =>
 k v32 h) <| .mk fun v33 h =>
 qPick v29 v33 (.bool false) <| .mk fun v34 =>
 qGrd v34 true h (.mk fun h k =>
 qCall call (.fn 259 []) [] h <| .mk fun v35 h =>
 k v35 h) <| .mk fun v36 h =>
 qPick v34 v36 (.bool false) <| .mk fun v37 =>
 k v37 h)
theorem y298 {β : Type} (I : FI) (N : Nat) (call : FCall β) (a : List AV) (h : H) (k : K β) : fBody I 298 T.s298 N call a h k = f298 N call a h k := by kernel_rfl
noncomputable def f299_J0 {β : Type} (k : K β) (x0 x1 x2 : AV) (h : H) : Option β :=
 qLenL x0 <| .mk fun v1 =>
 qGtr v1 (.int .i64 0) <| .mk fun v2 =>
 k v2 h
noncomputable def f299_J5 {β : Type} (l3 : Cur β 3) (x0 x1 x2 : AV) (h : H) : Option β :=
 qAdd x2 (.int .i64 1) <| .mk fun v6 =>
 l3 x0 x1 v6 h
noncomputable def f299_J4 {β : Type} (call : FCall β) (k : K β) (l3 : Cur β 3) (x0 x1 x2 : AV) (h : H) : Option β :=
 qJoin 3 (.mk (
 f299_J5 l3)) <| .mk fun j5 =>
 qIadr 4 x0 x2 <| .mk fun v7 =>
 qLoadN 4 v7 h <| .mk fun v8 =>
 qCall call (.fn 301 []) [v8, x2] h <| .mk fun v9 h =>
 qNot v9 <| .mk fun v10 =>
 qIf v10 (.mk (
 k (.bool false) h)) <| .mk (
 j5 x0 x1 x2 h)
noncomputable def f299_L3 {β : Type} (call : FCall β) (k : K β) (j0 : Cur β 3) (l3 : Cur β 3) (x0 x1 x2 : AV) (h : H) : Option β :=
 qJoin 3 (.mk (
 f299_J4 call k l3)) <| .mk fun j4 =>
 qLenL x0 <| .mk fun v11 =>
 qLss x2 v11 <| .mk fun v12 =>
 qIf v12 (.mk (
 j4 x0 .any x2 h)) <| .mk (
 j0 x0 .any x2 h)
noncomputable def f299 {β : Type} (N : Nat) (call : FCall β) (a : List AV) (h : H) (k : K β) : Option β :=
 qJoin 3 (.mk (
 f299_J0 k)) <| .mk fun j0 =>
 (qLoop 3 N <| .mk (
 f299_L3 call k j0)) (nth a 0) (.bool false) (.int .i64 0) h
theorem y299 {β : Type} (I : FI) (N : Nat) (call : FCall β) (a : List AV) (h : H) (k : K β) : fBody I 299 T.s299 N call a h k = f299 N call a h k := by kernel_rfl
noncomputable def f300_J2 {β : Type} (k : K β) (x0 x1 x2 x3 x4 x5 : AV) (h : H) : Option β :=
 k (.bool true) h
noncomputable def f300_J5 {β : Type} (l3 : Cur β 6) (x0 x1 x2 x3 x4 x5 : AV) (h : H) : Option β :=
 qAdd x4 (.int .i64 1) <| .mk fun v6 =>
 l3 x0 x1 x2 x3 v6 x5 h
noncomputable def f300_J4 {β : Type} (k : K β) (l3 : Cur β 6) (x0 x1 x2 x3 x4 x5 : AV) (h : H) : Option β :=
 qJoin 6 (.mk (
 f300_J5 l3)) <| .mk fun j5 =>
 qIadr 4 x1 x4 <| .mk fun v7 =>
 qFadr 0 v7 <| .mk fun v8 =>
 qLoad1 v8 h <| .mk fun v9 =>
 qFadr 0 x2 <| .mk fun v10 =>
 qLoad1 v10 h <| .mk fun v11 =>
 qLenL v11 <| .mk fun v12 =>
 qGeq v9 v12 <| .mk fun v13 =>
 qGrd v13 false h (.mk fun h k =>
 k x1 h) <| .mk fun v14 h =>
 qGrd v13 false h (.mk fun h k =>
 k x4 h) <| .mk fun v15 h =>
 qGrd v13 false h (.mk fun h k =>
 qIadr 4 v14 v15 <| .mk fun v16 =>
 k v16 h) <| .mk fun v17 h =>
 qGrd v13 false h (.mk fun h k =>
 qFadr 2 v17 <| .mk fun v18 =>
 k v18 h) <| .mk fun v19 h =>
 qGrd v13 false h (.mk fun h k =>
 qLoad1 v19 h <| .mk fun v20 =>
 k v20 h) <| .mk fun v21 h =>
 qGrd v13 false h (.mk fun h k =>
 qLenL v21 <| .mk fun v22 =>
 k v22 h) <| .mk fun v23 h =>
 qGrd v13 false h (.mk fun h k =>
 qFadr 0 x2 <| .mk fun v24 =>
 k v24 h) <| .mk fun v25 h =>
 qGrd v13 false h (.mk fun h k =>
 qLoad1 v25 h <| .mk fun v26 =>
 k v26 h) <| .mk fun v27 h =>
 qGrd v13 false h (.mk fun h k =>
 k x1 h) <| .mk fun v28 h =>
 qGrd v13 false h (.mk fun h k =>
 k x4 h) <| .mk fun v29 h =>
 qGrd v13 false h (.mk fun h k =>
 qIadr 4 v28 v29 <| .mk fun v30 =>
 k v30 h) <| .mk fun v31 h =>
 qGrd v13 false h (.mk fun h k =>
 qFadr 0 v31 <| .mk fun v32 =>
 k v32 h) <| .mk fun v33 h =>
 qGrd v13 false h (.mk fun h k =>
 qLoad1 v33 h <| .mk fun v34 =>
 k v34 h) <| .mk fun v35 h =>
 qGrd v13 false h (.mk fun h k =>
 qIadr 2 v27 v35 <| .mk fun v36 =>
 k v36 h) <| .mk fun v37 h =>
 qGrd v13 false h (.mk fun h k =>
 qFadr 0 v37 <| .mk fun v38 =>
 k v38 h) <| .mk fun v39 h =>
 qGrd v13 false h (.mk fun h k =>
 qLoad1 v39 h <| .mk fun v40 =>
 k v40 h) <| .mk fun v41 h =>
 qGrd v13 false h (.mk fun h k =>
 qNeq v23 v41 <| .mk fun v42 =>
 k v42 h) <| .mk fun v43 h =>
 qPick v13 (.bool true) v43 <| .mk fun v44 =>
 qIf v44 (.mk (
 k (.bool false) h)) <| .mk (
 j5 x0 x1 x2 x3 x4 v44 h)
noncomputable def f300_L3 {β : Type} (k : K β) (j2 : Cur β 6) (l3 : Cur β 6) (x0 x1 x2 x3 x4 x5 : AV) (h : H) : Option β :=
 qJoin 6 (.mk (
 f300_J4 k l3)) <| .mk fun j4 =>
 qLenL x1 <| .mk fun v45 =>
 qLss x4 v45 <| .mk fun v46 =>
 qIf v46 (.mk (
 j4 .any x1 x2 .any x4 .any h)) <| .mk (
 j2 .any x1 x2 .any x4 .any h)
noncomputable def f300_J1 {β : Type} (N : Nat) (k : K β) (x0 x1 x2 x3 x4 x5 : AV) (h : H) : Option β :=
 qJoin 6 (.mk (
 f300_J2 k)) <| .mk fun j2 =>
 (qLoop 6 N <| .mk (
 f300_L3 k j2)) x0 x1 x2 x3 (.int .i64 0) x5 h
noncomputable def f300 {β : Type} (N : Nat) (call : FCall β) (a : List AV) (h : H) (k : K β) : Option β :=
 qBox 0 (nth a 0) h <| .mk fun v0 h =>
 qJoin 6 (.mk (
 f300_J1 N k)) <| .mk fun j1 =>
 qLoadN 1 v0 h <| .mk fun v47 =>
 qCall call (.fn 149 []) [v47] h <| .mk fun v48 h =>
 qNot v48 <| .mk fun v49 =>
 qOr v49 h (.mk fun h k =>
 qCall call (.fn 299 []) [(nth a 1)] h <| .mk fun v50 h =>
 qNot v50 <| .mk fun v51 =>
 k v51 h) <| .mk fun v52 h =>
 qOr v52 h (.mk fun h k =>
 qIadr 4 (nth a 1) (.int .i64 0) <| .mk fun v53 =>
 qFadr 0 v53 <| .mk fun v54 =>
 qLoad1 v54 h <| .mk fun v55 =>
 qNeq v55 (.int .i64 0) <| .mk fun v56 =>
 k v56 h) <| .mk fun v57 h =>
 qIf v57 (.mk (
 k (.bool false) h)) <| .mk (
 j1 (nth a 0) (nth a 1) v0 (.bool false) (nth a 5) (nth a 54) h)
theorem y300 {β : Type} (I : FI) (N : Nat) (call : FCall β) (a : List AV) (h : H) (k : K β) : fBody I 300 T.s300 N call a h k = f300 N call a h k := by kernel_rfl
noncomputable def f301 {β : Type} (N : Nat) (call : FCall β) (a : List AV) (h : H) (k : K β) : Option β :=
 qBox 0 (nth a 0) h <| .mk fun v0 h =>
 qLss (nth a 1) (.int .i64 512) <| .mk fun v1 =>
 qAnd v1 h (.mk fun h k =>
 qLoadN 4 v0 h <| .mk fun v2 =>
 qCall call (.fn 296 []) [v2] h <| .mk fun v3 h =>
 k v3 h) <| .mk fun v4 h =>
 qAnd v4 h (.mk fun h k =>
 qEql (nth a 1) (.int .i64 0) <| .mk fun v5 =>
 qAnd v5 h (.mk fun h k =>
 qFadr 1 v0 <| .mk fun v6 =>
 qLoad1 v6 h <| .mk fun v7 =>
 qEql v7 (.int .i64 (-1)) <| .mk fun v8 =>
 k v8 h) <| .mk fun v9 h =>
 qOr v9 h (.mk fun h k =>
 qGtr (nth a 1) (.int .i64 0) <| .mk fun v10 =>
 qAnd v10 h (.mk fun h k =>
 qFadr 1 v0 <| .mk fun v11 =>
 qLoad1 v11 h <| .mk fun v12 =>
 qSub (nth a 1) (.int .i64 1) <| .mk fun v13 =>
 qCall call (.fn 297 []) [v12, (.int .i64 0), v13] h <| .mk fun v14 h =>
 k v14 h) <| .mk fun v15 h =>
 k v15 h) <| .mk fun v16 h =>
 k v16 h) <| .mk fun v17 h =>
 k v17 h
theorem y301 {β : Type} (I : FI) (N : Nat) (call : FCall β) (a : List AV) (h : H) (k : K β) : fBody I 301 T.s301 N call a h k = f301 N call a h k := by kernel_rfl
noncomputable def e298 : Ent := ⟨298, T.s298, fun _ _ N call a h k => f298 N call a h k, fun _ I N call a h k => y298 I N call a h k⟩
noncomputable def e299 : Ent := ⟨299, T.s299, fun _ _ N call a h k => f299 N call a h k, fun _ I N call a h k => y299 I N call a h k⟩
noncomputable def e300 : Ent := ⟨300, T.s300, fun _ _ N call a h k => f300 N call a h k, fun _ I N call a h k => y300 I N call a h k⟩
noncomputable def e301 : Ent := ⟨301, T.s301, fun _ _ N call a h k => f301 N call a h k, fun _ I N call a h k => y301 I N call a h k⟩
structure GT12 (t : ETree) : Prop where
  g298 : t.get 298 = some e298
  g299 : t.get 299 = some e299
  g300 : t.get 300 = some e300
  g301 : t.get 301 = some e301
section
variable {β : Type} {t : ETree} {I : FI}
end
end Am.F
