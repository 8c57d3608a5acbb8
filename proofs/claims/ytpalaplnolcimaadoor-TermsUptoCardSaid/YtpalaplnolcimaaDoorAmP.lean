/- Runs of the evaluator with free variables: what each small operation comes to, what a round asks, how a memory grows. -/
import Derived.Test.YtpalaplnolcimaaDoorAmFp
import Derived.Test.YtpalaplnolcimaaDoorAmQo
set_option linter.defProp false
namespace Am.F
open Go Am

section
variable {β : Type}

/-! ### Rounds, joins -/

/-- A statement of so many values and a memory. -/
abbrev CurP (n : Nat) : Type := Nat.rec (H → Prop) (fun _ ih => AV → ih) n

/-- Where the one holds, the other comes to R. -/
abbrev Imp (n : Nat) : CurP n → Cur β n → Option β → Prop :=
  Nat.rec (motive := fun n => CurP n → Cur β n → Option β → Prop) (fun P j R => ∀ h, P h → j h = R) (fun _ ih P j R => ∀ x, ih (P x) (j x) R) n

theorem fLoop_wp (n N : Nat) (F : Cur β n → Cur β n) (R : Option β) (Inv : Nat → CurP n) (i : Nat) (hi : i < N)
    (step : ∀ (l : Cur β n) (i : Nat), (∀ i', i' < i → Imp n (Inv i') l R) → Imp n (Inv i) (F l) R) : Imp n (Inv i) (fLoop n N F) R := by
  induction N generalizing i with
  | zero => omega
  | succ N ih => exact step (fLoop n N F) i fun i' h => ih i' (by omega)

theorem fJoin_wp {n : Nat} {j : Cur β n} {b : Cur β n → Option β} {R : Option β} (h : ∀ j', j' = j → b j' = R) : fJoin n j b = R := h j rfl

theorem fJoin_eq (n : Nat) (j : Cur β n) (b : Cur β n → Option β) : fJoin n j b = b j := rfl

/-! ### Small operations -/

theorem nth0 (x : AV) (xs : List AV) : nth (x :: xs) 0 = x := rfl
theorem nthS (x : AV) (xs : List AV) (n : Nat) : nth (x :: xs) (n + 1) = nth xs n := rfl
theorem nthN (n : Nat) : nth [] n = .tup [] := rfl

theorem ble_eq (a b : Nat) : Nat.ble a b = decide (a ≤ b) := by rw [Bool.eq_iff_iff]; simp
theorem beq_eq (a b : Nat) : Nat.beq a b = decide (a = b) := by rw [Bool.eq_iff_iff]; simp

theorem wrap_fit {x : Int} (h : -9223372036854775808 ≤ x) (h' : x < 9223372036854775808) : IntKind.i64.wrap x = x := wrap_i64 h h'
theorem wrap_u8 {x : Int} (h : 0 ≤ x) (h' : x < 256) : IntKind.u8.wrap x = x := by
  unfold IntKind.wrap
  simp only [show IntKind.u8.bits = 8 from rfl, show IntKind.u8.signed = false from rfl]
  have : x % 256 = x := Int.emod_eq_of_lt h h'
  simpa using this

theorem oSome_v {α : Type} (v : α) (c : α → Option β) : oSome (some v) c = c v := rfl

theorem pAdd_fit {x y : Int} (h : -9223372036854775808 ≤ x + y) (h' : x + y < 9223372036854775808) (k : VK β) : pAdd (.int .i64 x) (.int .i64 y) k = k (.int .i64 (x + y)) := by
  simp only [pAdd, aInt, kEq_eq, decide_true, cond_true, frcZ_eq, wrapF_eq]
  rw [show Int.add x y = x + y from rfl, wrap_fit h h']
theorem pSub_fit {x y : Int} (h : -9223372036854775808 ≤ x - y) (h' : x - y < 9223372036854775808) (k : VK β) : pSub (.int .i64 x) (.int .i64 y) k = k (.int .i64 (x - y)) := by
  simp only [pSub, aInt, kEq_eq, decide_true, cond_true, frcZ_eq, wrapF_eq]
  rw [show Int.sub x y = x - y from rfl, wrap_fit h h']
theorem pMul_fit {x y : Int} (h : -9223372036854775808 ≤ x * y) (h' : x * y < 9223372036854775808) (k : VK β) : pMul (.int .i64 x) (.int .i64 y) k = k (.int .i64 (x * y)) := by
  simp only [pMul, aInt, kEq_eq, decide_true, cond_true, frcZ_eq, wrapF_eq]
  rw [show Int.mul x y = x * y from rfl, wrap_fit h h']
theorem pNeg_fit {x : Int} (h : -9223372036854775808 ≤ -x) (h' : -x < 9223372036854775808) (k : VK β) : pNeg (.int .i64 x) k = k (.int .i64 (-x)) := by
  simp only [pNeg, aInt, frcZ_eq, wrapF_eq]
  rw [show Int.sub 0 x = -x by show (0 : Int) - x = -x; omega, wrap_fit h h']
theorem pConv_fit {kd : IntKind} {x : Int} (h : -9223372036854775808 ≤ x) (h' : x < 9223372036854775808) (k : VK β) : pConv .i64 (.int kd x) k = k (.int .i64 x) := by
  simp only [pConv, aInt, frcZ_eq, wrapF_eq, wrap_fit h h']
theorem pConv_any (kd k' : IntKind) (n : Int) (c : VK β) : pConv kd (.int k' n) c = c (.int kd (kd.wrap n)) := by simp only [pConv, aInt, frcZ_eq, wrapF_eq]
theorem pAdd_any (kd : IntKind) (x y : Int) (k : VK β) : pAdd (.int kd x) (.int kd y) k = k (.int kd (kd.wrap (x + y))) := by
  simp only [pAdd, aInt, kEq_eq, decide_true, cond_true, frcZ_eq, wrapF_eq]; rfl
theorem pSub_any (kd : IntKind) (x y : Int) (k : VK β) : pSub (.int kd x) (.int kd y) k = k (.int kd (kd.wrap (x - y))) := by
  simp only [pSub, aInt, kEq_eq, decide_true, cond_true, frcZ_eq, wrapF_eq]; rfl
theorem pMul_any (kd : IntKind) (x y : Int) (k : VK β) : pMul (.int kd x) (.int kd y) k = k (.int kd (kd.wrap (x * y))) := by
  simp only [pMul, aInt, kEq_eq, decide_true, cond_true, frcZ_eq, wrapF_eq]; rfl
theorem pNeg_any (kd : IntKind) (x : Int) (k : VK β) : pNeg (.int kd x) k = k (.int kd (kd.wrap (-x))) := by
  simp only [pNeg, aInt, frcZ_eq, wrapF_eq]; rw [show Int.sub 0 x = -x by show (0 : Int) - x = -x; omega]
theorem pEql_i (kd : IntKind) (x y : Int) (k : VK β) : pEql (.int kd x) (.int kd y) k = k (.bool (decide (x = y))) := by simp only [pEql, aInt, kEq_eq, decide_true, cond_true, eqZ_eq]
theorem pNeq_i (kd : IntKind) (x y : Int) (k : VK β) : pNeq (.int kd x) (.int kd y) k = k (.bool (decide (¬ x = y))) := by simp only [pNeq, aInt, kEq_eq, decide_true, cond_true, eqZ_eq, decide_not]
theorem pLss_i (kd : IntKind) (x y : Int) (k : VK β) : pLss (.int kd x) (.int kd y) k = k (.bool (decide (x < y))) := by simp only [pLss, aInt, kEq_eq, decide_true, cond_true, ltZ_eq]
theorem pGtr_i (kd : IntKind) (x y : Int) (k : VK β) : pGtr (.int kd x) (.int kd y) k = k (.bool (decide (y < x))) := by simp only [pGtr, aInt, kEq_eq, decide_true, cond_true, ltZ_eq]
theorem not_lt_bool (x y : Int) : (!decide (y < x)) = decide (x ≤ y) := by rw [Bool.eq_iff_iff]; simp
theorem pLeq_i (kd : IntKind) (x y : Int) (k : VK β) : pLeq (.int kd x) (.int kd y) k = k (.bool (decide (x ≤ y))) := by simp only [pLeq, aInt, kEq_eq, decide_true, cond_true, ltZ_eq, ← not_lt_bool]
theorem pGeq_i (kd : IntKind) (x y : Int) (k : VK β) : pGeq (.int kd x) (.int kd y) k = k (.bool (decide (y ≤ x))) := by simp only [pGeq, aInt, kEq_eq, decide_true, cond_true, ltZ_eq, ← not_lt_bool]
theorem pMin_i (kd : IntKind) (x y : Int) (k : VK β) : pMin (.int kd x) (.int kd y) k = k (.int kd (min x y)) := by
  simp only [pMin, aInt, kEq_eq, decide_true, cond_true, ltZ_eq]
  by_cases h : y < x
  · simp only [h, decide_true, cond_true]; rw [show min x y = y by omega]
  · simp only [h, decide_false, cond_false]; rw [show min x y = x by omega]
theorem pMax_i (kd : IntKind) (x y : Int) (k : VK β) : pMax (.int kd x) (.int kd y) k = k (.int kd (max x y)) := by
  simp only [pMax, aInt, kEq_eq, decide_true, cond_true, ltZ_eq]
  by_cases h : x < y
  · simp only [h, decide_true, cond_true]; rw [show max x y = y by omega]
  · simp only [h, decide_false, cond_false]; rw [show max x y = x by omega]
theorem pSEql_s (x y : List UInt8) (k : VK β) : pSEql (.str x) (.str y) k = k (.bool (decide (x = y))) := by
  simp only [pSEql, aStr, eqSF_eq]; rw [show (x == y) = decide (x = y) by rw [Bool.eq_iff_iff]; simp]
theorem pSNeq_s (x y : List UInt8) (k : VK β) : pSNeq (.str x) (.str y) k = k (.bool (decide (¬ x = y))) := by
  simp only [pSNeq, aStr, eqSF_eq, decide_not]; rw [show (x == y) = decide (x = y) by rw [Bool.eq_iff_iff]; simp]
theorem pSAdd_s {x y : List UInt8} (h : x.length + y.length < 9223372036854775807) (k : VK β) : pSAdd (.str x) (.str y) k = k (.str (x ++ y)) := by
  simp only [pSAdd, aStr, lenF_eq, appF_eq, frcL_eq, ble_eq]
  rw [decide_eq_true (by show x.length + y.length + 1 ≤ _; omega)]; rfl
theorem pNot_b (b : Bool) (k : VK β) : pNot (.bool b) k = k (.bool (!b)) := rfl
theorem pLenS_s (s : List UInt8) (k : VK β) : pLenS (.str s) k = k (.int .i64 (s.length : Int)) := by simp only [pLenS, aStr, frc_eq, lenF_eq]; rfl
theorem pLenL_nil (k : VK β) : pLenL .nils k = k (.int .i64 0) := rfl
theorem pLenL_sl (b o l m : Nat) (g : Option Nat) (k : VK β) : pLenL (.sl b o l m g) k = k (.int .i64 (l : Int)) := rfl
theorem pCapL_nil (k : VK β) : pCapL .nils k = k (.int .i64 0) := rfl
theorem pCapL_sl (b o l m : Nat) (k : VK β) : pCapL (.sl b o l m none) k = k (.int .i64 (m : Int)) := rfl
/-- A byte of a text, as a number. -/
def bt (s : List UInt8) (i : Nat) : Nat := (s.getD i 0).toNat
theorem bt_lt (s : List UInt8) (i : Nat) : bt s i < 256 := (s.getD i 0).toNat_lt
theorem pIdxS_s {s : List UInt8} {kd : IntKind} {i : Int} (h : 0 ≤ i) (h' : i < s.length) (k : VK β) : pIdxS (.str s) (.int kd i) k = k (.int .u8 (bt s i.toNat : Int)) := by
  obtain ⟨j, rfl⟩ := Int.eq_ofNat_of_zero_le h
  have hj : j < s.length := by omega
  have e : nthO s j = some s[j] := by rw [nthO_eq, List.getElem?_eq_getElem hj]
  show frc j (fun i => oSome (nthO s i) fun c => frc c.toNat fun m => k (.int .u8 (.ofNat m))) = _
  rw [frc_eq, e, oSome_v, frc_eq, bt, List.getD_eq_getElem?_getD, Int.toNat_natCast, List.getElem?_eq_getElem hj]; rfl
theorem pExt_0 (v : AV) (vs : List AV) (k : VK β) : pExt 0 (.tup (v :: vs)) k = k v := rfl
theorem pExt_S (i : Nat) (v : AV) (vs : List AV) (k : VK β) : pExt (i + 1) (.tup (v :: vs)) k = pExt i (.tup vs) k := rfl
theorem pFadr_p (off b o : Nat) (k : VK β) : pFadr off (.ptr b o) k = k (.ptr b (o + off)) := by simp only [pFadr, aPtr, frc_eq]; rfl
theorem pIadr_p {es b o l m : Nat} {g : Option Nat} {kd : IntKind} {i : Int} (h : 0 ≤ i) (h' : i < l) (k : VK β) : pIadr es (.sl b o l m g) (.int kd i) k = k (.ptr b (o + i.toNat * es)) := by
  obtain ⟨j, rfl⟩ := Int.eq_ofNat_of_zero_le h
  have hj : j < l := by omega
  show frc j (fun i => cond (Nat.ble (Nat.succ i) l) (frc (Nat.add o (Nat.mul i es)) fun o' => k (.ptr b o')) none) = _
  rw [frc_eq, frc_eq, ble_eq, decide_eq_true (by omega)]; rfl
theorem pIadrA_p {n es b o : Nat} {kd : IntKind} {i : Int} (h : 0 ≤ i) (h' : i < n) (k : VK β) : pIadrA n es (.ptr b o) (.int kd i) k = k (.ptr b (o + i.toNat * es)) := by
  obtain ⟨j, rfl⟩ := Int.eq_ofNat_of_zero_le h
  have hj : j < n := by omega
  show frc j (fun i => cond (Nat.ble (Nat.succ i) n) (frc (Nat.add o (Nat.mul i es)) fun o' => k (.ptr b o')) none) = _
  rw [frc_eq, frc_eq, ble_eq, decide_eq_true (by omega)]; rfl
theorem fIf_b (b : Bool) (x y : Option β) : fIf (.bool b) x y = cond b x y := by cases b <;> rfl
theorem fAnd_b (b : Bool) (h : H) (f : H → K β → Option β) (k : K β) : fAnd (.bool b) h f k = cond b (f h k) (k (.bool false) h) := by cases b <;> rfl
theorem fOr_b (b : Bool) (h : H) (f : H → K β → Option β) (k : K β) : fOr (.bool b) h f k = cond b (k (.bool true) h) (f h k) := by cases b <;> rfl
theorem cond_pos {p : Prop} [Decidable p] {α : Type} {x y : α} (h : p) : cond (decide p) x y = x := by rw [decide_eq_true h]; rfl
theorem cond_neg {p : Prop} [Decidable p] {α : Type} {x y : α} (h : ¬ p) : cond (decide p) x y = y := by rw [decide_eq_false h]; rfl
theorem cond_t {α : Type} (x y : α) : cond true x y = x := rfl
theorem cond_f {α : Type} (x y : α) : cond false x y = y := rfl
theorem cond_n {α : Type} (b : Bool) (x y : α) : cond (!b) x y = cond b y x := by cases b <;> rfl
theorem ite_pos {p : Prop} [Decidable p] {α : Type} {x y : α} (h : p) : (if p then x else y) = x := if_pos h
theorem ite_neg {p : Prop} [Decidable p] {α : Type} {x y : α} (h : ¬ p) : (if p then x else y) = y := if_neg h
theorem if_t {α : Type} (x y : α) : (if True then x else y) = x := if_pos trivial
theorem if_f {α : Type} (x y : α) : (if False then x else y) = y := if_neg id
theorem dec_t [Decidable True] : decide True = true := by simp
theorem dec_f [Decidable False] : decide False = false := by simp
theorem pIsNil_sl (b o l m : Nat) (g : Option Nat) (neg : Bool) (k : VK β) : pIsNil .sl neg (.sl b o l m g) k = k (.bool neg) := by cases neg <;> rfl
theorem pIsNil_nils (neg : Bool) (k : VK β) : pIsNil .sl neg .nils k = k (.bool (!neg)) := by cases neg <;> rfl
theorem pIsNil_nili (neg : Bool) (k : VK β) : pIsNil .ifc neg .nili k = k (.bool (!neg)) := by cases neg <;> rfl
theorem pIsNil_opq (neg : Bool) (k : VK β) : pIsNil .ifc neg .opq k = k (.bool neg) := by cases neg <;> rfl
theorem pFld1_a (off : Nat) (cs : List AV) (k : VK β) : pFld1 off (.agg cs) k = oSome cs[off]? k := by simp only [pFld1, aAgg, nthO_eq]
theorem pBuild_nil (z : List AV) (k : VK β) : pBuild z [] [] k = k (.agg z) := rfl
theorem pBuild_int (z : List AV) (off : Nat) (ps : List (Nat × Nat)) (kd : IntKind) (n : Int) (vs : List AV) (h : off < z.length) (k : VK β) : pBuild z ((off, 1) :: ps) (.int kd n :: vs) k = pBuild (z.set off (.int kd n)) ps vs k := by
  show cond (Nat.beq 1 1) (cond (Nat.ble (Nat.succ off) (lenF z)) (pBuild (putN z off (.int kd n)) ps vs k) none) none = _
  rw [lenF_eq, ble_eq, decide_eq_true (by omega), putN_eq]; rfl
theorem pBuild_str (z : List AV) (off : Nat) (ps : List (Nat × Nat)) (s : List UInt8) (vs : List AV) (h : off < z.length) (k : VK β) : pBuild z ((off, 1) :: ps) (.str s :: vs) k = pBuild (z.set off (.str s)) ps vs k := by
  show cond (Nat.beq 1 1) (cond (Nat.ble (Nat.succ off) (lenF z)) (pBuild (putN z off (.str s)) ps vs k) none) none = _
  rw [lenF_eq, ble_eq, decide_eq_true (by omega), putN_eq]; rfl
theorem pBuild_sc (z : List AV) (off : Nat) (ps : List (Nat × Nat)) (v : AV) (hv : v.sc = true) (vs : List AV) (h : off < z.length) (k : VK β) : pBuild z ((off, 1) :: ps) (v :: vs) k = pBuild (z.set off v) ps vs k := by
  have : pBuild z ((off, 1) :: ps) (v :: vs) k = cond (Nat.beq 1 1) (cond (Nat.ble (Nat.succ off) (lenF z)) (pBuild (putN z off v) ps vs k) none) none := by
    cases v <;> first | rfl | (simp [AV.sc] at hv)
  rw [this, lenF_eq, ble_eq, decide_eq_true (by omega), putN_eq]; rfl
theorem pBuild_agg (z : List AV) (off n : Nat) (ps : List (Nat × Nat)) (us vs : List AV) (hn : us.length = n) (h : off + n ≤ z.length) (k : VK β) : pBuild z ((off, n) :: ps) (.agg us :: vs) k = pBuild (putAt z off us) ps vs k := by
  show cond (Nat.beq (lenF us) n) (cond (Nat.ble (Nat.add off n) (lenF z)) (pBuild (putAtF z off us) ps vs k) none) none = _
  rw [lenF_eq, lenF_eq, beq_eq, ble_eq, decide_eq_true hn, decide_eq_true (by show off + n ≤ _; omega), putAtF_eq]; rfl

/-! ### The memory -/

theorem fAlloc_n (tag : Nat) (z : List AV) (h : H) (k : K β) : fAlloc tag z h k = k (.ptr h.n 0) (h.push (.own tag z)) := by simp only [fAlloc, newB_eq]
theorem fBox_sc {v : AV} (hv : v.sc = true) (tag : Nat) (h : H) (k : K β) : fBox tag v h k = k (.ptr h.n 0) (h.push (.own tag [v])) := by
  cases v <;> first | (simp only [fBox, aFlat, newB_eq]; done) | (simp [AV.sc] at hv)
theorem fBox_agg (tag : Nat) (us : List AV) (h : H) (k : K β) : fBox tag (.agg us) h k = k (.ptr h.n 0) (h.push (.own tag us)) := by simp only [fBox, aFlat, newB_eq]
theorem fBslice_n {tag n : Nat} {z vs cs : List AV} {ps : List (Nat × Nat)} (hb : ∀ k : VK β, pBuild z ps vs k = k (.agg cs)) (h : H) (k : K β) : fBslice tag z n ps vs h k = k (.sl h.n 0 n n none) (h.push (.own tag cs)) := by
  simp only [fBslice, hb, aAgg, newB_eq]
theorem fBslice_one {tag : Nat} {z : AV} {v : AV} (hv : v.sc = true) (h : H) (k : K β) : fBslice tag [z] 1 [(0, 1)] [v] h k = k (.sl h.n 0 1 1 none) (h.push (.own tag [v])) :=
  fBslice_n (fun k => by rw [pBuild_sc _ _ _ _ hv _ (by simp)]; rfl) h k
theorem cells_eq (h : H) (b : Nat) (c : List AV → Option β) : cells h b c = oSome (h.get b).cells c := by unfold cells; cases h.get b <;> rfl
theorem fLoad1_p (b o : Nat) (h : H) (k : VK β) : fLoad1 (.ptr b o) h k = oSome (h.get b).cells fun cs => oSome cs[o]? k := by simp only [fLoad1, aPtr, cells_eq, nthO_eq]
theorem fLoadN_p (n b o : Nat) (h : H) (k : VK β) : fLoadN n (.ptr b o) h k = oSome (h.get b).cells fun cs => if o + n ≤ cs.length then k (.agg ((cs.drop o).take n)) else none := by
  simp only [fLoadN, aPtr, cells_eq, lenF_eq, takeF_eq, dropF_eq, ble_eq, cond_eq_ite, decide_eq_true_eq]; rfl
theorem fStore_sc {b o tag : Nat} {v : AV} {h : H} {cs : List AV} (hb : h.get b = .own tag cs) (ho : o < cs.length) (hv : v.sc = true) (k : H → Option β) : fStore 1 (.ptr b o) v h k = k (h.set b (.own tag (cs.set o v))) := by
  have : fStore 1 (.ptr b o) v h k = cond (Nat.ble (Nat.succ o) (lenF cs)) (k (h.set b (.own tag (putN cs o v)))) none := by
    simp only [fStore, aPtr, ownd, hb]
    cases v <;> first | rfl | (simp [AV.sc] at hv)
  rw [this, lenF_eq, ble_eq, decide_eq_true (by omega), putN_eq]; rfl
theorem fStore_agg {n b o tag : Nat} {us : List AV} {h : H} {cs : List AV} (hb : h.get b = .own tag cs) (hn : us.length = n) (ho : o + n ≤ cs.length) (k : H → Option β) : fStore n (.ptr b o) (.agg us) h k = k (h.set b (.own tag (putAt cs o us))) := by
  simp only [fStore, aPtr, ownd, hb, aFlat, lenF_eq, beq_eq, ble_eq, putAtF_eq]
  rw [decide_eq_true hn, decide_eq_true (by show o + n ≤ _; omega)]; rfl

/-- The cells of a block that may be written. -/
def ownOf : Blk → Option (Nat × List AV)
  | .own t cs => some (t, cs)
  | _ => none
theorem ownOf_own (t : Nat) (cs : List AV) : ownOf (.own t cs) = some (t, cs) := rfl
theorem cells_own (t : Nat) (cs : List AV) : Blk.cells (.own t cs) = some cs := rfl
theorem cells_ro (cs : List AV) : Blk.cells (.ro cs) = some cs := rfl
theorem ownd_eq (h : H) (b : Nat) (c : Nat → List AV → Option β) : ownd h b c = oSome (ownOf (h.get b)) fun r => c r.1 r.2 := by unfold ownd; cases h.get b <;> rfl
theorem fStore_1 {v : AV} (hv : v.sc = true) (b o : Nat) (h : H) (k : H → Option β) : fStore 1 (.ptr b o) v h k = oSome (ownOf (h.get b)) fun r => if o < r.2.length then k (h.set b (.own r.1 (r.2.set o v))) else none := by
  have : fStore 1 (.ptr b o) v h k = oSome (ownOf (h.get b)) fun r => cond (Nat.ble (Nat.succ o) (lenF r.2)) (k (h.set b (.own r.1 (putN r.2 o v)))) none := by
    simp only [fStore, aPtr, ownd_eq]
    cases v <;> first | rfl | (simp [AV.sc] at hv)
  rw [this]; congr 1; funext r
  rw [lenF_eq, ble_eq, putN_eq, cond_eq_ite]; simp only [decide_eq_true_eq]; rfl
theorem fStore_n (n b o : Nat) (us : List AV) (h : H) (k : H → Option β) : fStore n (.ptr b o) (.agg us) h k = oSome (ownOf (h.get b)) fun r => if us.length = n then (if o + n ≤ r.2.length then k (h.set b (.own r.1 (putAt r.2 o us))) else none) else none := by
  simp only [fStore, aPtr, ownd_eq, aFlat, lenF_eq, beq_eq, ble_eq, putAtF_eq, cond_eq_ite, decide_eq_true_eq]; rfl
theorem get_push_eq {h : H} {b : Blk} {j : Nat} (hj : h.n = j) : (h.push b).get j = b := by rw [H.get_push, if_pos hj]
theorem get_set_eq {h : H} {i j : Nat} {b : Blk} (hj : i = j) : (h.set i b).get j = b := by rw [H.get_set, if_pos hj]
theorem get_push_self (h : H) (b : Blk) : (h.push b).get h.n = b := by rw [H.get_push, if_pos rfl]
theorem get_push_ne {h : H} {b : Blk} {j : Nat} (hj : ¬ h.n = j) : (h.push b).get j = h.get j := by rw [H.get_push, if_neg hj]
theorem get_set_self (h : H) (i : Nat) (b : Blk) : (h.set i b).get i = b := by rw [H.get_set, if_pos rfl]
theorem get_set_ne {h : H} {i j : Nat} {b : Blk} (hj : ¬ i = j) : (h.set i b).get j = h.get j := by rw [H.get_set, if_neg hj]

/-! ### How a memory grows -/

/-- All that was there stands as it stood. -/
structure Ext (h h' : H) : Prop where
  n : h.n ≤ h'.n
  get : ∀ i, i < h.n → h'.get i = h.get i

theorem Ext.refl (h : H) : Ext h h := ⟨Nat.le_refl _, fun _ _ => rfl⟩
theorem Ext.trans {h h' h'' : H} (a : Ext h h') (b : Ext h' h'') : Ext h h'' := ⟨Nat.le_trans a.n b.n, fun i hi => by have := a.n; rw [b.get i (by omega), a.get i hi]⟩
theorem Ext.push {h h' : H} (a : Ext h h') (b : Blk) : Ext h (h'.push b) :=
  ⟨by have := a.n; rw [H.n_push]; omega, fun i hi => by have := a.n; rw [get_push_ne (by omega), a.get i hi]⟩
theorem Ext.set {h h' : H} (a : Ext h h') {i : Nat} (hi : h.n ≤ i) (b : Blk) : Ext h (h'.set i b) :=
  ⟨by rw [H.n_set]; exact a.n, fun j hj => by rw [get_set_ne (by omega), a.get j hj]⟩

/-! ### A row of texts -/

def strs (xs : List (List UInt8)) : List AV := xs.map .str
theorem strs_len (xs : List (List UInt8)) : (strs xs).length = xs.length := List.length_map ..
theorem strs_snoc (xs : List (List UInt8)) (x : List UInt8) : strs (xs ++ [x]) = strs xs ++ [.str x] := by simp [strs]
theorem strs_getD {xs : List (List UInt8)} {i : Nat} (hi : i < xs.length) : (strs xs).getD i (.tup []) = .str (xs.getD i []) := by
  simp [strs, List.getD_eq_getElem?_getD, hi]

/-- The value is a slice whose elements are these cells, one each. -/
def SlAt (h : H) (v : AV) (cs : List AV) : Prop :=
  (v = .nils ∧ cs = []) ∨ ∃ b o m g us, v = .sl b o cs.length m g ∧ b < h.n ∧ (h.get b).cells = some us ∧ (us.drop o).take cs.length = cs ∧ o + cs.length ≤ us.length

theorem SlAt.ext {h h' : H} {v : AV} {cs : List AV} (hs : SlAt h v cs) (e : Ext h h') : SlAt h' v cs := by
  rcases hs with hs | ⟨b, o, m, g, us, h1, h2, h3, h4⟩
  · exact .inl hs
  · exact .inr ⟨b, o, m, g, us, h1, by have := e.n; omega, by rw [e.get b h2]; exact h3, h4⟩

theorem SlAt.sc {h : H} {v : AV} {cs : List AV} (hs : SlAt h v cs) : v.sc = true := by
  rcases hs with ⟨rfl, _⟩ | ⟨b, o, m, g, us, rfl, _⟩ <;> rfl
theorem SlAt.nil (h : H) : SlAt h .nils [] := .inl ⟨rfl, rfl⟩
theorem SlAt.len {h : H} {v : AV} {cs : List AV} (hs : SlAt h v cs) (k : VK β) : qLenL v (.mk k) = k (.int .i64 (cs.length : Int)) := by
  rcases hs with ⟨rfl, rfl⟩ | ⟨b, o, m, g, us, rfl, _⟩ <;> rfl

theorem SlAt.load {h : H} {v : AV} {cs : List AV} (hs : SlAt h v cs) {kd : IntKind} {i : Int} (h0 : 0 ≤ i) (h1 : i < cs.length) (k : VK β) : qIadr 1 v (.int kd i) (.mk fun p => qLoad1 p h (.mk k)) = k (cs.getD i.toNat (.tup [])) := by
  show (pIadr 1 v (.int kd i) fun p => fLoad1 p h k) = _
  rcases hs with ⟨rfl, rfl⟩ | ⟨b, o, m, g, us, rfl, h2, h3, h4, h5⟩
  · simp at h1; omega
  · obtain ⟨j, rfl⟩ := Int.eq_ofNat_of_zero_le h0
    have hj : j < cs.length := by omega
    rw [pIadr_p h0 h1, fLoad1_p, h3, oSome_v, Int.toNat_natCast, Nat.mul_one]
    have : us[o + j]? = some (cs.getD j (.tup [])) := by
      rw [List.getD_eq_getElem?_getD, ← h4, List.getElem?_take, if_pos hj, List.getElem?_drop]
      cases hx : us[o + j]? with
      | some x => rfl
      | none =>
        exfalso
        have hl := congrArg List.length h4
        rw [List.length_take, List.length_drop] at hl
        rw [List.getElem?_eq_none_iff] at hx
        omega
    rw [this, oSome_v]

theorem SlAt.loadS {h : H} {v : AV} {xs : List (List UInt8)} (hs : SlAt h v (strs xs)) {kd : IntKind} {i : Int} (h0 : 0 ≤ i) (h1 : i < xs.length) (k : VK β) : qIadr 1 v (.int kd i) (.mk fun p => qLoad1 p h (.mk k)) = k (.str (xs.getD i.toNat [])) := by
  rw [hs.load h0 (by rw [strs_len]; exact h1), strs_getD (by omega)]

/-- The value is a slice of its own, at its end there may be put more; its block lies in a window. -/
def OwnAt (h : H) (lo hi es : Nat) (v : AV) (cs : List AV) : Prop :=
  (v = .nils ∧ cs = []) ∨ ∃ b l, v = .sl b 0 l l (some es) ∧ lo ≤ b ∧ b < hi ∧ h.get b = .own 0 cs ∧ cs.length = l * es ∧ 0 < l

theorem OwnAt.nil (h : H) (lo hi es : Nat) : OwnAt h lo hi es .nils [] := .inl ⟨rfl, rfl⟩
theorem OwnAt.sc {h : H} {lo hi es : Nat} {v : AV} {cs : List AV} (ho : OwnAt h lo hi es v cs) : v.sc = true := by
  rcases ho with ⟨rfl, _⟩ | ⟨b, l, rfl, _⟩ <;> rfl
theorem OwnAt.mono {h h' : H} {lo hi lo' hi' es : Nat} {v : AV} {cs : List AV} (ho : OwnAt h lo hi es v cs) (h1 : lo' ≤ lo) (h2 : hi ≤ hi') (hg : ∀ i, lo ≤ i → i < hi → h'.get i = h.get i) : OwnAt h' lo' hi' es v cs := by
  rcases ho with ho | ⟨b, l, h3, h4, h5, h6, h7⟩
  · exact .inl ho
  · exact .inr ⟨b, l, h3, by omega, by omega, by rw [hg b h4 h5]; exact h6, h7⟩
theorem OwnAt.sl {h : H} {lo hi : Nat} {v : AV} {cs : List AV} (ho : OwnAt h lo hi 1 v cs) (hh : hi ≤ h.n) : SlAt h v cs := by
  rcases ho with ho | ⟨b, l, h3, h4, h5, h6, h7, h8⟩
  · exact .inl ho
  · rw [Nat.mul_one] at h7
    exact .inr ⟨b, 0, l, _, cs, by rw [h3, h7], by omega, by rw [h6]; rfl, by simp, by omega⟩

theorem OwnAt.set {h : H} {lo hi es : Nat} {v : AV} {cs : List AV} (ho : OwnAt h lo hi es v cs) {i : Nat} (hi' : i < lo ∨ hi ≤ i) (b : Blk) : OwnAt (h.set i b) lo hi es v cs :=
  ho.mono (Nat.le_refl _) (Nat.le_refl _) fun j h1 h2 => get_set_ne (by omega)
theorem OwnAt.ext {h h' : H} {lo hi es : Nat} {v : AV} {cs : List AV} (ho : OwnAt h lo hi es v cs) (e : Ext h h') (hh : hi ≤ h.n) : OwnAt h' lo hi es v cs :=
  ho.mono (Nat.le_refl _) (Nat.le_refl _) fun j h1 h2 => e.get j (by omega)
theorem newB_p (h : H) (b : Blk) (c : Nat → H → Option β) : newB h b c = c h.n (h.push b) := newB_eq h b c

/-- An append to a slice of its own. -/
theorem fApp_own {h : H} {lo hi es bytes n : Nat} {v x : AV} {cs new : List AV} {k : K β} {R : Option β} (ho : OwnAt h lo hi es v cs) (hh : hi ≤ h.n) (hlo : lo ≤ h.n) (hs : ∀ c : Nat → List AV → Option β, fSrc es x h c = c n new)
    (hl : new.length = n * es) (hr : cs.length + n < room) (hes : 0 < es) (hb : bytes ≤ 1024)
    (H1 : ∀ v' h', OwnAt h' lo h'.n es v' (cs ++ new) → h.n ≤ h'.n → (∀ i, i < h.n → (i < lo ∨ hi ≤ i) → h'.get i = h.get i) → k v' h' = R) : fApp 0 es bytes v x h k = R := by
  unfold fApp
  rw [hs]
  by_cases hn : n = 0
  · subst hn
    have hnew : new = [] := List.eq_nil_of_length_eq_zero (by rw [hl, Nat.zero_mul])
    subst hnew
    rw [List.append_nil] at H1
    have H2 := H1 v h (ho.mono (Nat.le_refl _) hh fun _ _ _ => rfl) (Nat.le_refl _) fun _ _ _ => rfl
    rcases ho with ⟨rfl, rfl⟩ | ⟨b, l, rfl, h4, h5, h6, h7, h8⟩
    · exact H2
    · simp (disch := omega) only [fGrow, aSl, frc_eq, ble_eq, beq_eq, cond_pos, Nat.add_eq, Nat.add_zero]; exact H2
  · rcases ho with ⟨rfl, rfl⟩ | ⟨b, l, rfl, h4, h5, h6, h7, h8⟩
    · show cond (Nat.beq n 0) _ (cond (Nat.ble (Nat.succ n) room) (cond (Nat.ble bytes 1024) (newB h (.own 0 new) fun b h => k (.sl b 0 n n (some es)) h) none) none) = R
      rw [beq_eq, decide_eq_false hn, ble_eq, decide_eq_true (by simp at hr; omega), ble_eq, decide_eq_true hb, newB_p]
      refine H1 _ _ (.inr ⟨h.n, n, rfl, hlo, by rw [H.n_push]; omega, by rw [get_push_eq rfl]; rfl, by simpa using hl, by omega⟩) (by rw [H.n_push]; omega) fun i hi _ => get_push_ne (by omega)
    · have hle : l ≤ cs.length := by rw [h7]; exact Nat.le_mul_of_pos_right l hes
      simp (disch := omega) only [fGrow, aSl, frc_eq, ble_eq, beq_eq, cond_pos, cond_neg, Nat.add_eq, Nat.mul_eq, Nat.zero_add, Nat.succ_eq_add_one, cells_eq, ownd_eq, h6, cells_own, ownOf_own, oSome_v, lenF_eq, newB_p]
      have e : appF (takeF (l * es) (dropF 0 cs)) new = cs ++ new := by
        rw [appF_eq, takeF_eq, dropF_eq, List.drop_zero, List.take_of_length_le (by show cs.length ≤ l * es; omega)]
      rw [e]
      refine H1 _ _ (.inr ⟨_, l + n, rfl, by rw [H.n_set]; omega, by rw [H.n_push]; omega, by rw [get_push_eq rfl], by rw [List.length_append, h7, hl, Nat.add_mul], by omega⟩) (by rw [H.n_push, H.n_set]; omega) fun i hi hw => ?_
      rw [get_push_ne (by rw [H.n_set]; omega), get_set_ne (by omega)]

theorem fSrc_one {h : H} {b : Nat} {x : AV} (hb : (h.get b).cells = some [x]) (g : Option Nat) (m : Nat) (c : Nat → List AV → Option β) : fSrc 1 (.sl b 0 1 m g) h c = c 1 [x] := by
  show (cells h b fun cs => cond (Nat.ble (Nat.add 0 (Nat.mul 1 1)) (lenF cs)) (c 1 (takeF (Nat.mul 1 1) (dropF 0 cs))) none) = _
  rw [cells_eq, hb]; rfl

/-- An append of one. -/
theorem fApp_one {h : H} {lo hi bytes b m tg : Nat} {g : Option Nat} {v x : AV} {cs : List AV} {k : K β} {R : Option β} (ho : OwnAt h lo hi 1 v cs) (hb : h.get b = .own tg [x]) (hc : hi ≤ h.n ∧ lo ≤ h.n ∧ cs.length + 1 < room ∧ bytes ≤ 1024)
    (H1 : ∀ v' h', OwnAt h' lo h'.n 1 v' (cs ++ [x]) → h.n ≤ h'.n → (∀ i, i < h.n → (i < lo ∨ hi ≤ i) → h'.get i = h.get i) → k v' h' = R) : fApp 0 1 bytes v (.sl b 0 1 m g) h k = R :=
  fApp_own ho hc.1 hc.2.1 (fSrc_one (by rw [hb]; rfl) _ _) rfl hc.2.2.1 (by omega) hc.2.2.2 H1

theorem sc_int (k : IntKind) (n : Int) : (AV.int k n).sc = true := rfl
theorem sc_str (s : List UInt8) : (AV.str s).sc = true := rfl
theorem sc_bool (b : Bool) : (AV.bool b).sc = true := rfl
theorem sc_ptr (b o : Nat) : (AV.ptr b o).sc = true := rfl
theorem sc_nils : (AV.nils).sc = true := rfl
theorem sc_sl (b o l m : Nat) (g : Option Nat) : (AV.sl b o l m g).sc = true := rfl
theorem sc_nilp : (AV.nilp).sc = true := rfl
theorem putAt_nil (cs : List AV) (o : Nat) : putAt cs o [] = cs := rfl
theorem putAt_cons (cs : List AV) (o : Nat) (v : AV) (vs : List AV) : putAt cs o (v :: vs) = putAt (cs.set o v) (o + 1) vs := rfl
/-- A call's meaning: it goes on with a value and a memory of which Q holds. -/
def Sp (m : K β → Option β) (Q : AV → H → Prop) : Prop := ∀ (k : K β) (R : Option β), (∀ v h', Q v h' → k v h' = R) → m k = R
/-! ### The same, wrapped -/
theorem q_pAdd_fit {x y : Int} (h : -9223372036854775808 ≤ x + y) (h' : x + y < 9223372036854775808) (k : VK β) : qAdd (.int .i64 x) (.int .i64 y) (.mk k) = k (.int .i64 (x + y)) := by apply pAdd_fit <;> assumption
theorem q_pSub_fit {x y : Int} (h : -9223372036854775808 ≤ x - y) (h' : x - y < 9223372036854775808) (k : VK β) : qSub (.int .i64 x) (.int .i64 y) (.mk k) = k (.int .i64 (x - y)) := by apply pSub_fit <;> assumption
theorem q_pMul_fit {x y : Int} (h : -9223372036854775808 ≤ x * y) (h' : x * y < 9223372036854775808) (k : VK β) : qMul (.int .i64 x) (.int .i64 y) (.mk k) = k (.int .i64 (x * y)) := by apply pMul_fit <;> assumption
theorem q_pNeg_fit {x : Int} (h : -9223372036854775808 ≤ -x) (h' : -x < 9223372036854775808) (k : VK β) : qNeg (.int .i64 x) (.mk k) = k (.int .i64 (-x)) := by apply pNeg_fit <;> assumption
theorem q_pConv_fit {kd : IntKind} {x : Int} (h : -9223372036854775808 ≤ x) (h' : x < 9223372036854775808) (k : VK β) : qConv .i64 (.int kd x) (.mk k) = k (.int .i64 x) := by apply pConv_fit <;> assumption
theorem q_pAdd_any (kd : IntKind) (x y : Int) (k : VK β) : qAdd (.int kd x) (.int kd y) (.mk k) = k (.int kd (kd.wrap (x + y))) := by apply pAdd_any <;> assumption
theorem q_pSub_any (kd : IntKind) (x y : Int) (k : VK β) : qSub (.int kd x) (.int kd y) (.mk k) = k (.int kd (kd.wrap (x - y))) := by apply pSub_any <;> assumption
theorem q_pMul_any (kd : IntKind) (x y : Int) (k : VK β) : qMul (.int kd x) (.int kd y) (.mk k) = k (.int kd (kd.wrap (x * y))) := by apply pMul_any <;> assumption
theorem q_pNeg_any (kd : IntKind) (x : Int) (k : VK β) : qNeg (.int kd x) (.mk k) = k (.int kd (kd.wrap (-x))) := by apply pNeg_any <;> assumption
theorem q_pEql_i (kd : IntKind) (x y : Int) (k : VK β) : qEql (.int kd x) (.int kd y) (.mk k) = k (.bool (decide (x = y))) := by apply pEql_i <;> assumption
theorem q_pNeq_i (kd : IntKind) (x y : Int) (k : VK β) : qNeq (.int kd x) (.int kd y) (.mk k) = k (.bool (decide (¬ x = y))) := by apply pNeq_i <;> assumption
theorem q_pLss_i (kd : IntKind) (x y : Int) (k : VK β) : qLss (.int kd x) (.int kd y) (.mk k) = k (.bool (decide (x < y))) := by apply pLss_i <;> assumption
theorem q_pGtr_i (kd : IntKind) (x y : Int) (k : VK β) : qGtr (.int kd x) (.int kd y) (.mk k) = k (.bool (decide (y < x))) := by apply pGtr_i <;> assumption
theorem q_pLeq_i (kd : IntKind) (x y : Int) (k : VK β) : qLeq (.int kd x) (.int kd y) (.mk k) = k (.bool (decide (x ≤ y))) := by apply pLeq_i <;> assumption
theorem q_pGeq_i (kd : IntKind) (x y : Int) (k : VK β) : qGeq (.int kd x) (.int kd y) (.mk k) = k (.bool (decide (y ≤ x))) := by apply pGeq_i <;> assumption
theorem q_pMin_i (kd : IntKind) (x y : Int) (k : VK β) : qMin (.int kd x) (.int kd y) (.mk k) = k (.int kd (min x y)) := by apply pMin_i <;> assumption
theorem q_pMax_i (kd : IntKind) (x y : Int) (k : VK β) : qMax (.int kd x) (.int kd y) (.mk k) = k (.int kd (max x y)) := by apply pMax_i <;> assumption
theorem q_pSEql_s (x y : List UInt8) (k : VK β) : qSEql (.str x) (.str y) (.mk k) = k (.bool (decide (x = y))) := by apply pSEql_s <;> assumption
theorem q_pSNeq_s (x y : List UInt8) (k : VK β) : qSNeq (.str x) (.str y) (.mk k) = k (.bool (decide (¬ x = y))) := by apply pSNeq_s <;> assumption
theorem q_pSAdd_s {x y : List UInt8} (h : x.length + y.length < 9223372036854775807) (k : VK β) : qSAdd (.str x) (.str y) (.mk k) = k (.str (x ++ y)) := by apply pSAdd_s <;> assumption
theorem q_pNot_b (b : Bool) (k : VK β) : qNot (.bool b) (.mk k) = k (.bool (!b)) := by apply pNot_b <;> assumption
theorem q_pLenS_s (s : List UInt8) (k : VK β) : qLenS (.str s) (.mk k) = k (.int .i64 (s.length : Int)) := by apply pLenS_s <;> assumption
theorem q_pLenL_nil (k : VK β) : qLenL .nils (.mk k) = k (.int .i64 0) := by apply pLenL_nil <;> assumption
theorem q_pLenL_sl (b o l m : Nat) (g : Option Nat) (k : VK β) : qLenL (.sl b o l m g) (.mk k) = k (.int .i64 (l : Int)) := by apply pLenL_sl <;> assumption
theorem q_pCapL_nil (k : VK β) : qCapL .nils (.mk k) = k (.int .i64 0) := by apply pCapL_nil <;> assumption
theorem q_pCapL_sl (b o l m : Nat) (k : VK β) : qCapL (.sl b o l m none) (.mk k) = k (.int .i64 (m : Int)) := by apply pCapL_sl <;> assumption
theorem q_pIdxS_s {s : List UInt8} {kd : IntKind} {i : Int} (h : 0 ≤ i) (h' : i < s.length) (k : VK β) : qIdxS (.str s) (.int kd i) (.mk k) = k (.int .u8 (bt s i.toNat : Int)) := by apply pIdxS_s <;> assumption
theorem q_pExt_0 (v : AV) (vs : List AV) (k : VK β) : qExt 0 (.tup (v :: vs)) (.mk k) = k v := by apply pExt_0 <;> assumption
theorem q_pExt_S (i : Nat) (v : AV) (vs : List AV) (k : VK β) : qExt (i + 1) (.tup (v :: vs)) (.mk k) = qExt i (.tup vs) (.mk k) := by apply pExt_S <;> assumption
theorem q_pFadr_p (off b o : Nat) (k : VK β) : qFadr off (.ptr b o) (.mk k) = k (.ptr b (o + off)) := by apply pFadr_p <;> assumption
theorem q_pIadr_p {es b o l m : Nat} {g : Option Nat} {kd : IntKind} {i : Int} (h : 0 ≤ i) (h' : i < l) (k : VK β) : qIadr es (.sl b o l m g) (.int kd i) (.mk k) = k (.ptr b (o + i.toNat * es)) := by apply pIadr_p <;> assumption
theorem q_pIadrA_p {n es b o : Nat} {kd : IntKind} {i : Int} (h : 0 ≤ i) (h' : i < n) (k : VK β) : qIadrA n es (.ptr b o) (.int kd i) (.mk k) = k (.ptr b (o + i.toNat * es)) := by apply pIadrA_p <;> assumption
theorem q_pIsNil_sl (b o l m : Nat) (g : Option Nat) (neg : Bool) (k : VK β) : qIsNil .sl neg (.sl b o l m g) (.mk k) = k (.bool neg) := by apply pIsNil_sl <;> assumption
theorem q_pIsNil_nils (neg : Bool) (k : VK β) : qIsNil .sl neg .nils (.mk k) = k (.bool (!neg)) := by apply pIsNil_nils <;> assumption
theorem q_pIsNil_nili (neg : Bool) (k : VK β) : qIsNil .ifc neg .nili (.mk k) = k (.bool (!neg)) := by apply pIsNil_nili <;> assumption
theorem q_pIsNil_opq (neg : Bool) (k : VK β) : qIsNil .ifc neg .opq (.mk k) = k (.bool neg) := by apply pIsNil_opq <;> assumption
theorem q_pBuild_nil (z : List AV) (k : VK β) : qBuild z [] [] (.mk k) = k (.agg z) := by apply pBuild_nil <;> assumption
theorem q_pBuild_int (z : List AV) (off : Nat) (ps : List (Nat × Nat)) (kd : IntKind) (n : Int) (vs : List AV) (h : off < z.length) (k : VK β) : qBuild z ((off, 1) :: ps) (.int kd n :: vs) (.mk k) = qBuild (z.set off (.int kd n)) ps vs (.mk k) := by apply pBuild_int <;> assumption
theorem q_pBuild_str (z : List AV) (off : Nat) (ps : List (Nat × Nat)) (s : List UInt8) (vs : List AV) (h : off < z.length) (k : VK β) : qBuild z ((off, 1) :: ps) (.str s :: vs) (.mk k) = qBuild (z.set off (.str s)) ps vs (.mk k) := by apply pBuild_str <;> assumption
theorem q_pBuild_sc (z : List AV) (off : Nat) (ps : List (Nat × Nat)) (v : AV) (hv : v.sc = true) (vs : List AV) (h : off < z.length) (k : VK β) : qBuild z ((off, 1) :: ps) (v :: vs) (.mk k) = qBuild (z.set off v) ps vs (.mk k) := by apply pBuild_sc <;> assumption
theorem q_pBuild_agg (z : List AV) (off n : Nat) (ps : List (Nat × Nat)) (us vs : List AV) (hn : us.length = n) (h : off + n ≤ z.length) (k : VK β) : qBuild z ((off, n) :: ps) (.agg us :: vs) (.mk k) = qBuild (putAt z off us) ps vs (.mk k) := by apply pBuild_agg <;> assumption
theorem q_fAlloc_n (tag : Nat) (z : List AV) (h : H) (k : K β) : qAlloc tag z h (.mk k) = k (.ptr h.n 0) (h.push (.own tag z)) := by apply fAlloc_n <;> assumption
theorem q_fBox_sc {v : AV} (hv : v.sc = true) (tag : Nat) (h : H) (k : K β) : qBox tag v h (.mk k) = k (.ptr h.n 0) (h.push (.own tag [v])) := by apply fBox_sc <;> assumption
theorem q_fBox_agg (tag : Nat) (us : List AV) (h : H) (k : K β) : qBox tag (.agg us) h (.mk k) = k (.ptr h.n 0) (h.push (.own tag us)) := by apply fBox_agg <;> assumption
theorem q_fBslice_one {tag : Nat} {z : AV} {v : AV} (hv : v.sc = true) (h : H) (k : K β) : qBslice tag [z] 1 [(0, 1)] [v] h (.mk k) = k (.sl h.n 0 1 1 none) (h.push (.own tag [v])) := by apply fBslice_one <;> assumption
theorem qIf_b (b : Bool) (x y : Option β) : qIf (.bool b) (.mk x) (.mk y) = qCond b (.mk x) (.mk y) := fIf_b b x y
theorem qAnd_b (b : Bool) (h : H) (f : H → K β → Option β) (k : K β) : qAnd (.bool b) h (.mk f) (.mk k) = qCond b (.mk (f h k)) (.mk (k (.bool false) h)) := fAnd_b b h f k
theorem qOr_b (b : Bool) (h : H) (f : H → K β → Option β) (k : K β) : qOr (.bool b) h (.mk f) (.mk k) = qCond b (.mk (k (.bool true) h)) (.mk (f h k)) := fOr_b b h f k
theorem qGrd_b (b want : Bool) (h : H) (act : H → K β → Option β) (k : K β) : qGrd (.bool b) want h (.mk act) (.mk k) = qCond (b == want) (.mk (act h k)) (.mk (k (.tup []) h)) := by cases b <;> cases want <;> rfl
theorem qGrd_t (want : Bool) (vs : List AV) (h : H) (act : H → K β → Option β) (k : K β) : qGrd (.tup vs) want h (.mk act) (.mk k) = k (.tup []) h := rfl
theorem beq_tr (b : Bool) : (b == true) = b := by cases b <;> rfl
theorem beq_fl (b : Bool) : (b == false) = !b := by cases b <;> rfl
theorem qPick_b (b : Bool) (x y : AV) (k : VK β) : qPick (.bool b) x y (.mk k) = qCond b (.mk (k x)) (.mk (k y)) := rfl
theorem qCond_t (x y : Option β) : qCond true (.mk x) (.mk y) = x := rfl
theorem qCond_f (x y : Option β) : qCond false (.mk x) (.mk y) = y := rfl
theorem qCond_n (b : Bool) (x y : Option β) : qCond (!b) (.mk x) (.mk y) = qCond b (.mk y) (.mk x) := by cases b <;> rfl
theorem qCond_pos {p : Prop} [Decidable p] {x y : Option β} (h : p) : qCond (decide p) (.mk x) (.mk y) = x := by rw [decide_eq_true h]; rfl
theorem qCond_neg {p : Prop} [Decidable p] {x y : Option β} (h : ¬ p) : qCond (decide p) (.mk x) (.mk y) = y := by rw [decide_eq_false h]; rfl
theorem qSome_v {α : Type} (v : α) (c : α → Option β) : qSome (some v) (.mk c) = c v := rfl
theorem qJoin_eq (n : Nat) {j : Cur β n} {b : Cur β n → Option β} (w : Wr j) (w' : Wr b) : qJoin n w w' = b j := rfl
theorem qFld1_a (off : Nat) (cs : List AV) (k : VK β) : qFld1 off (.agg cs) (.mk k) = qSome cs[off]? (.mk k) := pFld1_a off cs k
theorem qLoad1_p (b o : Nat) (h : H) (k : VK β) : qLoad1 (.ptr b o) h (.mk k) = qSome (h.get b).cells (.mk fun cs => qSome cs[o]? (.mk k)) := fLoad1_p b o h k
theorem qLoadN_p (n b o : Nat) (h : H) (k : VK β) : qLoadN n (.ptr b o) h (.mk k) = qSome (h.get b).cells (.mk fun cs => qCond (decide (o + n ≤ cs.length)) (.mk (k (.agg ((cs.drop o).take n)))) (.mk none)) := by
  refine (fLoadN_p n b o h k).trans ?_
  show _ = oSome _ _
  congr 1; funext cs; show _ = cond _ _ _; rw [cond_eq_ite]; simp only [decide_eq_true_eq]
theorem qStore_1 {v : AV} (hv : v.sc = true) (b o : Nat) (h : H) (k : H → Option β) : qStore 1 (.ptr b o) v h (.mk k) = qSome (ownOf (h.get b)) (.mk fun r => qCond (decide (o < r.2.length)) (.mk (k (h.set b (.own r.1 (r.2.set o v))))) (.mk none)) := by
  refine (fStore_1 hv b o h k).trans ?_
  show _ = oSome _ _
  congr 1; funext cs; show _ = cond _ _ _; rw [cond_eq_ite]; simp only [decide_eq_true_eq]
theorem qStore_n (n b o : Nat) (us : List AV) (h : H) (k : H → Option β) : qStore n (.ptr b o) (.agg us) h (.mk k) = qSome (ownOf (h.get b)) (.mk fun r => qCond (decide (us.length = n ∧ o + n ≤ r.2.length)) (.mk (k (h.set b (.own r.1 (putAt r.2 o us))))) (.mk none)) := by
  refine (fStore_n n b o us h k).trans ?_
  show _ = oSome _ _
  congr 1; funext cs; show _ = cond _ _ _; rw [cond_eq_ite]; simp only [decide_eq_true_eq]
  by_cases h1 : us.length = n <;> simp [h1]
theorem qLoop_wp (n N : Nat) {F : Cur β n → Cur β n} (w : Wr F) (R : Option β) (Inv : Nat → CurP n) (i : Nat) (hi : i < N)
    (step : ∀ (l : Cur β n) (i : Nat), (∀ i', i' < i → Imp n (Inv i') l R) → Imp n (Inv i) (F l) R) : Imp n (Inv i) (qLoop n N w) R := fLoop_wp n N F R Inv i hi step
theorem qLoop_eq (n N : Nat) (F : Cur β n → Cur β n) : qLoop n N (.mk F) = fLoop n N F := rfl
/-- All of these at once. -/
noncomputable def run {β : Type} := And.intro (@q_pAdd_fit β) (And.intro (@q_pSub_fit β) (And.intro (@q_pMul_fit β) (And.intro (@q_pNeg_fit β) (And.intro (@q_pConv_fit β) (And.intro (@q_pEql_i β) (And.intro (@q_pNeq_i β) (And.intro (@q_pLss_i β) (And.intro (@q_pGtr_i β) (And.intro (@q_pLeq_i β) (And.intro (@q_pGeq_i β) (And.intro (@q_pMin_i β) (And.intro (@q_pMax_i β) (And.intro (@q_pSEql_s β) (And.intro (@q_pSNeq_s β) (And.intro (@q_pSAdd_s β) (And.intro (@q_pNot_b β) (And.intro (@q_pLenS_s β) (And.intro (@q_pLenL_nil β) (And.intro (@q_pLenL_sl β) (And.intro (@q_pCapL_nil β) (And.intro (@q_pCapL_sl β) (And.intro (@q_pIdxS_s β) (And.intro (@q_pExt_0 β) (And.intro (@q_pExt_S β) (And.intro (@q_pFadr_p β) (And.intro (@q_pIadr_p β) (And.intro (@q_pIadrA_p β) (And.intro (@q_pIsNil_sl β) (And.intro (@q_pIsNil_nils β) (And.intro (@q_pIsNil_nili β) (And.intro (@q_pIsNil_opq β) (And.intro (@q_pBuild_nil β) (And.intro (@q_pBuild_int β) (And.intro (@q_pBuild_str β) (And.intro (@q_pBuild_sc β) (And.intro (@q_pBuild_agg β) (And.intro (@q_fAlloc_n β) (And.intro (@q_fBox_sc β) (And.intro (@q_fBox_agg β) (And.intro (@q_fBslice_one β) (And.intro (@qIf_b β) (And.intro (@qAnd_b β) (And.intro (@qOr_b β) (And.intro (@qGrd_b β) (And.intro (@qGrd_t β) (And.intro (@qPick_b β) (And.intro (@qCond_t β) (And.intro (@qCond_f β) (And.intro (@qCond_n β) (And.intro (@qCond_pos β) (And.intro (@qCond_neg β) (And.intro (@qSome_v β) (And.intro (@qJoin_eq β) (And.intro (@qFld1_a β) (And.intro (@qLoad1_p β) (And.intro (@qLoadN_p β) (And.intro (@qStore_1 β) ((@qStore_n β)))))))))))))))))))))))))))))))))))))))))))))))))))))))))))
noncomputable def disM := And.intro (@List.length_append UInt8) <| And.intro (@List.length_cons UInt8) <| And.intro (@List.length_nil UInt8) <| And.intro @H.n_push (And.intro @H.n_set (And.intro (@List.length_cons AV) (And.intro (@List.length_nil AV) (And.intro @sc_int (And.intro @sc_str (And.intro @sc_bool (And.intro @sc_ptr (And.intro @sc_nils (And.intro @sc_sl (@sc_nilp))))))))))
noncomputable def runM := And.intro not_false_eq_true <| And.intro not_true_eq_false <| And.intro beq_tr <| And.intro beq_fl <| And.intro @strs_len <| And.intro @if_t <| And.intro @if_f <| And.intro @dec_t <| And.intro @dec_f <| And.intro @true_and <| And.intro @and_true <| And.intro @false_and <| And.intro @and_false <| And.intro @Bool.true_and <| And.intro @Bool.false_and <| And.intro @Bool.and_true <| And.intro @Bool.and_false <| And.intro Bool.not_true <| And.intro Bool.not_false <| And.intro (@List.length_cons UInt8) <| And.intro (@List.length_nil UInt8) <| And.intro @Int.toNat_natCast <| And.intro @Int.toNat_zero <| And.intro @Nat.mul_one <| And.intro @Nat.zero_add <| And.intro @Nat.add_zero <| And.intro (@List.getElem?_cons_zero AV) <| And.intro (@List.getElem?_cons_succ AV) <| And.intro (@List.set_cons_zero AV) <| And.intro (@List.set_cons_succ AV) <| And.intro (@List.length_cons AV) <| And.intro (@List.length_nil AV) <| And.intro (@List.take_succ_cons AV) <| And.intro (@List.take_zero AV) <| And.intro (@List.drop_succ_cons AV) <| And.intro (@List.drop_zero AV) <| And.intro @cond_t <| And.intro @cond_f <| And.intro @cond_n <| And.intro @cond_pos <| And.intro @cond_neg <| And.intro @ite_pos <| And.intro @ite_neg <| And.intro @putAt_nil <| And.intro @putAt_cons <| And.intro @nth0 (And.intro @nthS (And.intro @nthN (And.intro @get_push_eq (And.intro @get_push_ne (And.intro @get_set_eq (And.intro @get_set_ne (And.intro @ownOf_own (And.intro @cells_own (And.intro @cells_ro (And.intro @H.n_push (And.intro @H.n_set (And.intro @sc_int (And.intro @sc_str (And.intro @sc_bool (And.intro @sc_ptr (And.intro @sc_nils (And.intro @sc_sl (@sc_nilp))))))))))))))))))
end
end Am.F
