/- What the functions come to. -/
import Derived.Test.YtnhappodbogoaaaGreatDoorAmGN9zT
import Derived.Test.YtnhappodbogoaaaGreatDoorAmJc
set_option maxRecDepth 100000
set_option linter.unusedVariables false
namespace Am.F
open Go Am
noncomputable def f238 {β : Type} (N : Nat) (call : FCall β) (a : List AV) (h : H) (k : K β) : Option β :=
 fJoin 10 (fun x0 x1 x2 x3 x4 x5 x6 x7 x8 x9 h =>
 pConv .u64 x0 fun v1 =>
 pBin .rem v1 (.int .u64 24) fun v2 =>
 pConv .i64 v2 fun v3 =>
 fBslice 0 [(.str []), (.str []), (.str []), (.str []), (.str []), (.str []), (.str []), (.str []), (.str []), (.str []), (.str []), (.str []), (.str []), (.str []), (.str []), (.str []), (.str []), (.str []), (.str []), (.str []), (.str []), (.str []), (.str []), (.str [])] 24 [(0, 1), (1, 1), (2, 1), (3, 1), (4, 1), (5, 1), (6, 1), (7, 1), (8, 1), (9, 1), (10, 1), (11, 1), (12, 1), (13, 1), (14, 1), (15, 1), (16, 1), (17, 1), (18, 1), (19, 1), (20, 1), (21, 1), (22, 1), (23, 1)] [(.str [51]), (.str [40, 43, 32, 49, 32, 50, 41]), (.str [40, 45, 32, 49, 32, 50, 41]), (.str [40, 42, 32, 50, 48, 48, 32, 50, 48, 48, 41]), (.str [40, 61, 32, 50, 32, 50, 41]), (.str [40, 60, 32, 50, 32, 49, 41]), (.str [101, 114, 114, 111, 114]), (.str [40, 43, 32, 101, 114, 114, 111, 114, 32, 49, 41]), (.str [40, 43, 32, 64, 49, 32, 101, 114, 114, 111, 114, 41]), (.str [40, 43, 32, 49, 32, 64, 49, 41]), (.str [64, 53]), (.str [40, 64, 53, 32, 101, 114, 114, 111, 114, 32, 40, 43, 32, 49, 32, 49, 41, 41]), (.str [40, 108, 101, 116, 32, 101, 114, 114, 111, 114, 32, 52, 41]), (.str [40, 108, 101, 116, 32, 52, 32, 40, 43, 32, 36, 48, 32, 36, 48, 41, 41]), (.str [40, 108, 101, 116, 32, 52, 32, 40, 108, 101, 116, 32, 53, 32, 40, 45, 32, 36, 49, 32, 36, 48, 41, 41, 41]), (.str [40, 99, 97, 115, 101, 32, 64, 49, 32, 64, 49, 32, 48, 32, 56, 32, 57, 41]), (.str [40, 99, 97, 115, 101, 32, 64, 49, 32, 64, 50, 32, 48, 32, 56, 32, 57, 41]), (.str [40, 99, 97, 115, 101, 32, 40, 64, 49, 32, 50, 41, 32, 64, 49, 32, 48, 32, 56, 32, 57, 41]), (.str [40, 99, 97, 115, 101, 32, 40, 64, 49, 32, 50, 32, 51, 41, 32, 64, 49, 32, 50, 32, 40, 45, 32, 36, 48, 32, 36, 49, 41, 32, 57, 41]), (.str [40, 99, 97, 115, 101, 32, 49, 32, 64, 49, 32, 48, 32, 56, 32, 57, 41]), (.str [40, 99, 97, 115, 101, 32, 101, 114, 114, 111, 114, 32, 64, 49, 32, 48, 32, 56, 32, 57, 41]), (.str [40, 102, 51, 32, 101, 114, 114, 111, 114, 32, 54, 41]), (.str [40, 102, 49, 32, 40, 64, 55, 32, 101, 114, 114, 111, 114, 32, 52, 41, 32, 53, 41]), (.str [40, 99, 97, 115, 101, 32, 40, 64, 49, 32, 101, 114, 114, 111, 114, 41, 32, 64, 49, 32, 49, 32, 55, 32, 57, 41])] h fun v4 h =>
 pIadr 1 v4 v3 fun v5 =>
 fLoad1 v5 h fun v6 =>
 fBslice 0 [(.str []), (.str []), (.str []), (.str []), (.str []), (.str []), (.str []), (.str []), (.str []), (.str []), (.str []), (.str []), (.str []), (.str []), (.str []), (.str []), (.str []), (.str []), (.str []), (.str []), (.str []), (.str []), (.str []), (.str [])] 24 [(0, 1), (1, 1), (2, 1), (3, 1), (4, 1), (5, 1), (6, 1), (7, 1), (8, 1), (9, 1), (10, 1), (11, 1), (12, 1), (13, 1), (14, 1), (15, 1), (16, 1), (17, 1), (18, 1), (19, 1), (20, 1), (21, 1), (22, 1), (23, 1)] [(.str [51]), (.str [51]), (.str [45, 49]), (.str [45, 50, 53, 53, 51, 54]), (.str [49]), (.str [48]), (.str [33]), (.str [33]), (.str [33]), (.str [33]), (.str [64, 53]), (.str [64, 53, 40, 95, 32, 95, 41]), (.str [52]), (.str [56]), (.str [49]), (.str [56]), (.str [57]), (.str [57]), (.str [45, 49]), (.str [57]), (.str [33]), (.str [54]), (.str [57]), (.str [55])] h fun v7 h =>
 pIadr 1 v7 v3 fun v8 =>
 fLoad1 v8 h fun v9 =>
 call (.fn 245 []) [v6] h fun v10 h =>
 call (.fn 155 []) [v10, (.int .i64 0), .nils, (.int .i64 60)] h fun v11 h =>
 pExt 0 v11 fun v12 =>
 pExt 1 v11 fun v13 =>
 call (.fn 16 []) [v13] h fun v14 h =>
 pEql v14 (.int .i64 0) fun v15 =>
 fAnd v15 h (fun h k =>
 pSEql v12 v9 fun v16 =>
 k v16 h) fun v17 h =>
 fAnd v17 h (fun h k =>
 call (.fn 154 []) [] h fun v18 h =>
 pFld1 0 v18 fun v19 =>
 pLenL v19 fun v20 =>
 pEql v20 (.int .i64 2) fun v21 =>
 k v21 h) fun v22 h =>
 k v22 h) fun j0 =>
 call (.fn 153 []) [] h fun v23 h =>
 pNot v23 fun v24 =>
 fIf v24 (
 k (.bool false) h) (
 j0 (nth a 0) (.bool false) (nth a 3) (nth a 4) (nth a 5) (nth a 6) (nth a 7) (nth a 22) (nth a 26) (nth a 27) h)
theorem y238 {β : Type} (I : FI) (N : Nat) (call : FCall β) (a : List AV) (h : H) (k : K β) : fBody I 238 T.s238 N call a h k = f238 N call a h k := by kernel_rfl
noncomputable def f241 {β : Type} (N : Nat) (call : FCall β) (a : List AV) (h : H) (k : K β) : Option β :=
 fJoin 14 (fun x0 x1 x2 x3 x4 x5 x6 x7 x8 x9 x10 x11 x12 x13 h =>
 pBin .and x0 (.int .i64 7) fun v1 =>
 fJoin 14 (fun x0 x1 x2 x3 x4 x5 x6 x7 x8 x9 x10 x11 x12 x13 h =>
 call (.fn 245 []) [x3] h fun v3 h =>
 pMul (.int .i64 2) x2 fun v4 =>
 pAdd v4 (.int .i64 1) fun v5 =>
 call (.fn 155 []) [v3, (.int .i64 0), .nils, v5] h fun v6 h =>
 pExt 0 v6 fun v7 =>
 pExt 1 v6 fun v8 =>
 call (.fn 245 []) [x3] h fun v9 h =>
 pMul (.int .i64 2) x2 fun v10 =>
 call (.fn 155 []) [v9, (.int .i64 0), .nils, v10] h fun v11 h =>
 pExt 0 v11 fun v12 =>
 pExt 1 v11 fun v13 =>
 call (.fn 16 []) [v8] h fun v14 h =>
 pEql v14 (.int .i64 0) fun v15 =>
 fAnd v15 h (fun h k =>
 pAdd x2 (.int .i64 1) fun v16 =>
 call (.fn 22 []) [v16] h fun v17 h =>
 pSEql v7 v17 fun v18 =>
 k v18 h) fun v19 h =>
 fAnd v19 h (fun h k =>
 call (.fn 16 []) [v13] h fun v20 h =>
 pEql v20 (.int .i64 901) fun v21 =>
 k v21 h) fun v22 h =>
 k v22 h) fun j2 =>
 (fLoop 14 N fun l23 x0 x1 x2 x3 x4 x5 x6 x7 x8 x9 x10 x11 x12 x13 h =>
 fJoin 14 (fun x0 x1 x2 x3 x4 x5 x6 x7 x8 x9 x10 x11 x12 x13 h =>
 fJoin 14 (fun x0 x1 x2 x3 x4 x5 x6 x7 x8 x9 x10 x11 x12 x13 h =>
 pAdd x4 (.int .i64 1) fun v26 =>
 l23 x0 x1 x2 x3 v26 x5 x6 x7 x8 x9 x10 x11 x12 x13 h) fun j25 =>
 pSAdd (.str [40, 43, 32]) x3 fun v27 =>
 pSAdd v27 (.str [32, 49, 41]) fun v28 =>
 j25 x0 x1 x2 v28 x4 x5 x6 x7 x8 x9 x10 x11 x12 x13 h) fun j24 =>
 pLss x4 x2 fun v29 =>
 fIf v29 (
 j24 .any .any x2 x3 x4 .any .any .any .any .any .any .any .any .any h) (
 j2 .any .any x2 x3 x4 .any .any .any .any .any .any .any .any .any h)) x0 x1 v1 (.str [49]) (.int .i64 0) x5 x6 x7 x8 x9 x10 x11 x12 x13 h) fun j0 =>
 call (.fn 153 []) [] h fun v30 h =>
 pNot v30 fun v31 =>
 fIf v31 (
 k (.bool false) h) (
 j0 (nth a 0) (.bool false) (nth a 3) (nth a 4) (nth a 5) (nth a 6) (nth a 7) (nth a 9) (nth a 22) (nth a 29) (nth a 30) (nth a 31) (nth a 37) (nth a 38) h)
theorem y241 {β : Type} (I : FI) (N : Nat) (call : FCall β) (a : List AV) (h : H) (k : K β) : fBody I 241 T.s241 N call a h k = f241 N call a h k := by kernel_rfl
noncomputable def e238 : Ent := ⟨238, T.s238, fun _ _ N call a h k => f238 N call a h k, fun _ I N call a h k => y238 I N call a h k⟩
noncomputable def e241 : Ent := ⟨241, T.s241, fun _ _ N call a h k => f241 N call a h k, fun _ I N call a h k => y241 I N call a h k⟩
structure GN9z (t : ETree) : Prop where
  g238 : t.get 238 = some e238
  g241 : t.get 241 = some e241
section
variable {β : Type} {t : ETree} {I : FI}
end
end Am.F
