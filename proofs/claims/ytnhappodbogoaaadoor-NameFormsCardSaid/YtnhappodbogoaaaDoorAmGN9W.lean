/- What the functions come to. -/
import Derived.Test.YtnhappodbogoaaaDoorAmGN9T
import Derived.Test.YtnhappodbogoaaaDoorAmJc
set_option maxRecDepth 100000
set_option linter.unusedVariables false
namespace Am.F
open Go Am
noncomputable def f134 {β : Type} (N : Nat) (call : FCall β) (a : List AV) (h : H) (k : K β) : Option β :=
 fJoin 17 (fun x0 x1 x2 x3 x4 x5 x6 x7 x8 x9 x10 x11 x12 x13 x14 x15 x16 h =>
 pBin .and x1 (.int .i64 1023) fun v1 =>
 pAdd (.int .i64 1) v1 fun v2 =>
 call (.fn 154 []) [] h fun v3 h =>
 fAlloc 0 [.nils] h fun v4 h =>
 fStore 1 v4 v3 h fun h =>
 fBslice 0 [(.str []), (.str [])] 2 [(0, 1), (1, 1)] [(.str [49]), (.str [50])] h fun v5 h =>
 fJoin 17 (fun x0 x1 x2 x3 x4 x5 x6 x7 x8 x9 x10 x11 x12 x13 x14 x15 x16 h =>
 fLoadN 1 x4 h fun v7 =>
 call (.fn 155 []) [v7, x5, x7, x6] h fun v8 h =>
 pExt 0 v8 fun v9 =>
 pExt 1 v8 fun v10 =>
 pSEql v9 (.str []) fun v11 =>
 fAnd v11 h (fun h k =>
 call (.fn 16 []) [v10] h fun v12 h =>
 pEql v12 (.int .i64 900) fun v13 =>
 k v13 h) fun v14 h =>
 k v14 h) fun j6 =>
 pConv .u64 x0 fun v15 =>
 pBin .rem v15 (.int .u64 8) fun v16 =>
 pEql v16 (.int .u64 0) fun v17 =>
 fIf v17 (
 pFadr 0 v4 fun v18 =>
 fLoad1 v18 h fun v19 =>
 pIadr 2 v19 (.int .i64 1) fun v20 =>
 pFadr 0 v20 fun v21 =>
 fStore 1 v21 (.int .i64 1) h fun h =>
 j6 x0 x1 x2 v2 v4 (.int .i64 1) (.int .i64 50) v5 x8 x9 v3 v16 x12 x13 x14 x15 x16 h) (
 pEql v16 (.int .u64 1) fun v22 =>
 fIf v22 (
 pNeg v2 fun v23 =>
 j6 x0 x1 x2 v2 v4 v23 (.int .i64 50) v5 x8 x9 v3 v16 x12 x13 x14 x15 x16 h) (
 pEql v16 (.int .u64 2) fun v24 =>
 fIf v24 (
 pAdd (.int .i64 1) v2 fun v25 =>
 j6 x0 x1 x2 v2 v4 v25 (.int .i64 50) v5 x8 x9 v3 v16 x12 x13 x14 x15 x16 h) (
 pEql v16 (.int .u64 3) fun v26 =>
 fIf v26 (
 pSlL 1 true false false v5 [(.int .i64 1)] fun v27 =>
 j6 x0 x1 x2 v2 v4 (.int .i64 1) (.int .i64 50) v27 x8 x9 v3 v16 x12 x13 x14 x15 x16 h) (
 pEql v16 (.int .u64 4) fun v28 =>
 fIf v28 (
 fBslice 0 [(.str [])] 1 [(0, 1)] [(.str [51])] h fun v29 h =>
 fApp 0 1 16 v5 v29 h fun v30 h =>
 j6 x0 x1 x2 v2 v4 (.int .i64 1) (.int .i64 50) v30 x8 x9 v3 v16 x12 x13 x14 x15 x16 h) (
 pEql v16 (.int .u64 5) fun v31 =>
 fIf v31 (
 pBin .and x1 (.int .i64 1) fun v32 =>
 fBslice 0 [(.str []), (.str []), (.str []), (.str [])] 4 [(0, 1), (1, 1), (2, 1), (3, 1)] [(.str []), (.str [48, 49]), (.str [64, 49, 40]), (.str [120])] h fun v33 h =>
 pBin .shr x1 (.int .u64 1) fun v34 =>
 pBin .and v34 (.int .i64 3) fun v35 =>
 pIadr 1 v33 v35 fun v36 =>
 fLoad1 v36 h fun v37 =>
 pIadr 1 v5 v32 fun v38 =>
 fStore 1 v38 v37 h fun h =>
 j6 x0 x1 x2 v2 v4 (.int .i64 1) (.int .i64 50) v5 x8 x9 v3 v16 v5 v32 x14 x15 x16 h) (
 pEql v16 (.int .u64 6) fun v39 =>
 fIf v39 (
 pNeg v2 fun v40 =>
 j6 x0 x1 x2 v2 v4 (.int .i64 1) v40 v5 x8 x9 v3 v16 x12 x13 x14 x15 x16 h) (
 pAdd (.int .i64 400) v2 fun v41 =>
 j6 x0 x1 x2 v2 v4 (.int .i64 1) v41 v5 x8 x9 v3 v16 x12 x13 x14 x15 x16 h)))))))) fun j0 =>
 call (.fn 153 []) [] h fun v42 h =>
 pNot v42 fun v43 =>
 fIf v43 (
 k (.bool false) h) (
 j0 (nth a 0) (nth a 1) (.bool false) (nth a 5) (nth a 6) (nth a 7) (nth a 8) (nth a 9) (nth a 10) (nth a 11) (nth a 17) (nth a 21) (nth a 49) (nth a 51) (nth a 63) (nth a 69) (nth a 70) h)
theorem y134 {β : Type} (I : FI) (N : Nat) (call : FCall β) (a : List AV) (h : H) (k : K β) : fBody I 134 T.s134 N call a h k = f134 N call a h k := by kernel_rfl
noncomputable def e134 : Ent := ⟨134, T.s134, fun _ _ N call a h k => f134 N call a h k, fun _ I N call a h k => y134 I N call a h k⟩
structure GN9 (t : ETree) : Prop where
  g134 : t.get 134 = some e134
section
variable {β : Type} {t : ETree} {I : FI}
end
end Am.F
