/- What the functions come to. -/
import Derived.Test.YtmddflmckmopiaaDoorAmGF2T
import Derived.Test.YtmddflmckmopiaaDoorAmJc
set_option maxRecDepth 100000
set_option linter.unusedVariables false
namespace Am.F
open Go Am
noncomputable def f5 {β : Type} (N : Nat) (call : FCall β) (a : List AV) (h : H) (k : K β) : Option β :=
 fJoin 12 (fun x0 x1 x2 x3 x4 x5 x6 x7 x8 x9 x10 x11 h =>
 fBslice 0 [(.str []), (.str []), (.str []), (.str []), (.str []), (.str []), (.str []), (.str []), (.str []), (.str []), (.str []), (.str []), (.str []), (.str []), (.str []), (.str []), (.str []), (.str []), (.str []), (.str []), (.str []), (.str []), (.str []), (.str []), (.str []), (.str []), (.str []), (.str []), (.str []), (.str []), (.str []), (.str [])] 32 [(0, 1), (1, 1), (2, 1), (3, 1), (4, 1), (5, 1), (6, 1), (7, 1), (8, 1), (9, 1), (10, 1), (11, 1), (12, 1), (13, 1), (14, 1), (15, 1), (16, 1), (17, 1), (18, 1), (19, 1), (20, 1), (21, 1), (22, 1), (23, 1), (24, 1), (25, 1), (26, 1), (27, 1), (28, 1), (29, 1), (30, 1), (31, 1)] [(.str []), (.str [32]), (.str [95, 95]), (.str [33, 49]), (.str [48, 49]), (.str [45, 48]), (.str [45, 48, 49]), (.str [43, 49]), (.str [51, 50, 55, 54, 56]), (.str [45, 51, 50, 55, 54, 57]), (.str [57, 57, 57, 57, 57, 57, 57, 57, 57, 57, 57, 57, 57, 57, 57, 57, 57, 57, 57, 57]), (.str [64]), (.str [64, 48, 49]), (.str [64, 49, 48, 48]), (.str [64, 45, 49]), (.str [64, 49, 40, 41]), (.str [64, 49, 40, 49]), (.str [64, 49, 40, 49, 32, 41]), (.str [64, 49, 40, 32, 49, 41]), (.str [64, 49, 40, 49, 32, 32, 50, 41]), (.str [64, 49, 40, 49, 44, 50, 41]), (.str [64, 49, 40, 49, 32, 50, 32, 51, 32, 52, 41]), (.str [64, 49, 40, 49, 41, 120]), (.str [64, 49, 32, 40, 49, 41]), (.str [40, 49, 41]), (.str [64, 49, 40, 64, 41]), (.str [64, 49, 40, 48, 49, 41]), (.str [49, 32]), (.str [95, 32]), (.str [64, 49, 40, 95, 33, 41]), (.str [120]), (.str [64, 49, 40, 49, 41, 41])] h fun v1 h =>
 pBin .and x0 (.int .i64 31) fun v2 =>
 pIadr 1 v1 v2 fun v3 =>
 fLoad1 v3 h fun v4 =>
 call (.fn 11 []) [v4] h fun v5 h =>
 pExt 0 v5 fun v6 =>
 pExt 1 v5 fun v7 =>
 pExt 2 v5 fun v8 =>
 pExt 3 v5 fun v9 =>
 call (.fn 17 []) [v4] h fun v10 h =>
 pNot v10 fun v11 =>
 fAnd v11 h (fun h k =>
 pEql v6 (.int .i64 0) fun v12 =>
 k v12 h) fun v13 h =>
 fAnd v13 h (fun h k =>
 pEql v7 (.int .i64 0) fun v14 =>
 k v14 h) fun v15 h =>
 fAnd v15 h (fun h k =>
 pLenL v8 fun v16 =>
 pEql v16 (.int .i64 0) fun v17 =>
 k v17 h) fun v18 h =>
 fAnd v18 h (fun h k =>
 call (.fn 16 []) [v9] h fun v19 h =>
 pEql v19 (.int .i64 200) fun v20 =>
 k v20 h) fun v21 h =>
 k v21 h) fun j0 =>
 call (.fn 21 []) [] h fun v22 h =>
 pNot v22 fun v23 =>
 fIf v23 (
 k (.bool false) h) (
 j0 (nth a 0) (.bool false) (nth a 3) (nth a 4) (nth a 5) (nth a 6) (nth a 7) (nth a 15) (nth a 18) (nth a 19) (nth a 20) (nth a 21) h)
theorem y5 {β : Type} (I : FI) (N : Nat) (call : FCall β) (a : List AV) (h : H) (k : K β) : fBody I 5 T.s5 N call a h k = f5 N call a h k := by kernel_rfl
noncomputable def f6 {β : Type} (N : Nat) (call : FCall β) (a : List AV) (h : H) (k : K β) : Option β :=
 fJoin 14 (fun x0 x1 x2 x3 x4 x5 x6 x7 x8 x9 x10 x11 x12 x13 h =>
 pBin .and x1 (.int .i64 1023) fun v1 =>
 pAdd (.int .i64 1) v1 fun v2 =>
 fBslice 0 [(.str [])] 1 [(0, 1)] [(.str [49])] h fun v3 h =>
 pBin .and x0 (.int .i64 15) fun v4 =>
 pNeg v2 fun v5 =>
 pAdd (.int .i64 3) v2 fun v6 =>
 fBslice 0 [(.int .i64 0), (.int .i64 0), (.int .i64 0), (.int .i64 0), (.int .i64 0), (.int .i64 0), (.int .i64 0), (.int .i64 0), (.int .i64 0), (.int .i64 0), (.int .i64 0), (.int .i64 0), (.int .i64 0), (.int .i64 0), (.int .i64 0), (.int .i64 0)] 16 [(0, 1), (1, 1), (2, 1), (3, 1), (4, 1), (5, 1), (6, 1), (7, 1), (8, 1), (9, 1), (10, 1), (11, 1), (12, 1), (13, 1), (14, 1), (15, 1)] [v5, v6, (.int .i64 0), (.int .i64 3), (.int .i64 1), (.int .i64 1), (.int .i64 1), (.int .i64 0), (.int .i64 2), (.int .i64 2), (.int .i64 2), (.int .i64 2), (.int .i64 2), (.int .i64 2), (.int .i64 2), (.int .i64 3)] h fun v7 h =>
 pIadr 1 v7 v4 fun v8 =>
 fLoad1 v8 h fun v9 =>
 pNeg v2 fun v10 =>
 pAdd (.int .i64 32767) v2 fun v11 =>
 pSub (.int .i64 (-32768)) v2 fun v12 =>
 pNeg v2 fun v13 =>
 pAdd (.int .i64 99) v2 fun v14 =>
 fBslice 0 [(.int .i64 0), (.int .i64 0), (.int .i64 0), (.int .i64 0), (.int .i64 0), (.int .i64 0), (.int .i64 0), (.int .i64 0), (.int .i64 0), (.int .i64 0), (.int .i64 0), (.int .i64 0), (.int .i64 0), (.int .i64 0), (.int .i64 0), (.int .i64 0)] 16 [(0, 1), (1, 1), (2, 1), (3, 1), (4, 1), (5, 1), (6, 1), (7, 1), (8, 1), (9, 1), (10, 1), (11, 1), (12, 1), (13, 1), (14, 1), (15, 1)] [(.int .i64 0), (.int .i64 0), v2, v10, v11, v12, (.int .i64 0), (.int .i64 0), v13, v14, (.int .i64 0), (.int .i64 0), (.int .i64 0), (.int .i64 0), (.int .i64 0), (.int .i64 0)] h fun v15 h =>
 pIadr 1 v15 v4 fun v16 =>
 fLoad1 v16 h fun v17 =>
 fBslice 0 [(.str [])] 1 [(0, 1)] [(.str [])] h fun v18 h =>
 fBslice 0 [(.str [])] 1 [(0, 1)] [(.str [49, 32, 50])] h fun v19 h =>
 fBslice 0 [(.str []), (.str []), (.str []), (.str [])] 4 [(0, 1), (1, 1), (2, 1), (3, 1)] [(.str [49]), (.str [50]), (.str [51]), (.str [52])] h fun v20 h =>
 fBslice 0 [(.str [])] 1 [(0, 1)] [(.str [49, 41])] h fun v21 h =>
 fBslice 0 [(.str [])] 1 [(0, 1)] [(.str [48, 49])] h fun v22 h =>
 fBslice 0 [.nils, .nils, .nils, .nils, .nils, .nils, .nils, .nils, .nils, .nils, .nils, .nils, .nils, .nils, .nils, .nils] 16 [(0, 1), (1, 1), (2, 1), (3, 1), (4, 1), (5, 1), (6, 1), (7, 1), (8, 1), (9, 1), (10, 1), (11, 1), (12, 1), (13, 1), (14, 1), (15, 1)] [.nils, .nils, .nils, .nils, .nils, .nils, v3, v3, .nils, .nils, v18, v19, v20, v21, v22, v3] h fun v23 h =>
 pIadr 1 v23 v4 fun v24 =>
 fLoad1 v24 h fun v25 =>
 call (.fn 13 []) [v9, v17, v25] h fun v26 h =>
 pExt 0 v26 fun v27 =>
 pExt 1 v26 fun v28 =>
 pSEql v27 (.str []) fun v29 =>
 fAnd v29 h (fun h k =>
 call (.fn 16 []) [v28] h fun v30 h =>
 pEql v30 (.int .i64 200) fun v31 =>
 k v31 h) fun v32 h =>
 k v32 h) fun j0 =>
 call (.fn 21 []) [] h fun v33 h =>
 pNot v33 fun v34 =>
 fIf v34 (
 k (.bool false) h) (
 j0 (nth a 0) (nth a 1) (.bool false) (nth a 5) (nth a 6) (nth a 7) (nth a 8) (nth a 9) (nth a 10) (nth a 11) (nth a 12) (nth a 56) (nth a 61) (nth a 62) h)
theorem y6 {β : Type} (I : FI) (N : Nat) (call : FCall β) (a : List AV) (h : H) (k : K β) : fBody I 6 T.s6 N call a h k = f6 N call a h k := by kernel_rfl
noncomputable def e5 : Ent := ⟨5, T.s5, fun _ _ N call a h k => f5 N call a h k, fun _ I N call a h k => y5 I N call a h k⟩
noncomputable def e6 : Ent := ⟨6, T.s6, fun _ _ N call a h k => f6 N call a h k, fun _ I N call a h k => y6 I N call a h k⟩
structure GF2 (t : ETree) : Prop where
  g5 : t.get 5 = some e5
  g6 : t.get 6 = some e6
section
variable {β : Type} {t : ETree} {I : FI}
end
end Am.F
