/- Walks: what a part may be, on both sides. -/
import Derived.Test.YtpalaplnolcimaaDoorAmPg
set_option linter.unusedSimpArgs false
set_option linter.unusedVariables false
namespace Am.F
open Go Am
section
variable {β : Type} {t : ETree}
theorem GC.w213_0 (TC : GC t) (T : GA t) (n : Nat) {h : H} {b o : Nat} {w : AV} {e : Ex} (hx : ExIn h b o w e) (lv : Int) (hlv : -1 ≤ lv ∧ lv ≤ 100) (k : K β)  (c0 : (e.kind = 0) = True) :
    qCall (fRunS t stdI (n + 2)) (.fn 213 []) [.ptr b o, .int .i64 lv] h (.mk k) = k (.bool (decide (PartP e lv))) h := by
  have q : decide (PartP e lv) = (decide (-32768 ≤ e.num ∧ e.num ≤ 32767) && decide (Plain e 0 0 0)) := by
    rw [Bool.eq_iff_iff, Bool.and_eq_true, decide_eq_true_iff, decide_eq_true_iff, decide_eq_true_iff]; unfold PartP; simp [of_eq_true c0]
  have hp : ∀ (a b1 c : Int) (kk : K β), qCall (fRunS t stdI (n + 1)) (.fn 229 []) [.ptr b o, .int .i64 a, .int .i64 b1, .int .i64 c] h (.mk kk) = kk (.bool (decide (Plain e a b1 c))) h := fun a b1 c kk => TC.w229 n hx a b1 c kk
  obtain ⟨us, fx⟩ := hx.get β
  rw [TC.q213, q]
  clear q
  unfold f213
  by_cases d : -32768 ≤ e.num ∧ e.num ≤ 32767
  · simp (disch := first | omega | (simp only [disM] <;> omega) | assumption) only [↓run, ↓runM, run, runM, Nat.reduceAdd, Nat.reduceMul, Int.reduceToNat, ↓f213_J0, nil_p, fx, c0, T.w28, hp, eq_true d]
  · simp (disch := first | omega | (simp only [disM] <;> omega) | assumption) only [↓run, ↓runM, run, runM, Nat.reduceAdd, Nat.reduceMul, Int.reduceToNat, ↓f213_J0, nil_p, fx, c0, T.w28, hp, eq_false d]
theorem GC.w213_1 (TC : GC t) (T : GA t) (n : Nat) {h : H} {b o : Nat} {w : AV} {e : Ex} (hx : ExIn h b o w e) (lv : Int) (hlv : -1 ≤ lv ∧ lv ≤ 100) (k : K β) (c0 : (e.kind = 0) = False) (c1 : (e.kind = 1) = True) :
    qCall (fRunS t stdI (n + 2)) (.fn 213 []) [.ptr b o, .int .i64 lv] h (.mk k) = k (.bool (decide (PartP e lv))) h := by
  have q : decide (PartP e lv) = (decide (0 ≤ e.num ∧ e.num ≤ lv - 1) && decide (Plain e 0 0 0)) := by
    rw [Bool.eq_iff_iff, Bool.and_eq_true, decide_eq_true_iff, decide_eq_true_iff, decide_eq_true_iff]; unfold PartP; simp [of_eq_true c1]
  have hp : ∀ (a b1 c : Int) (kk : K β), qCall (fRunS t stdI (n + 1)) (.fn 229 []) [.ptr b o, .int .i64 a, .int .i64 b1, .int .i64 c] h (.mk kk) = kk (.bool (decide (Plain e a b1 c))) h := fun a b1 c kk => TC.w229 n hx a b1 c kk
  obtain ⟨us, fx⟩ := hx.get β
  rw [TC.q213, q]
  clear q
  unfold f213
  by_cases d : 0 ≤ e.num ∧ e.num ≤ lv - 1
  · simp (disch := first | omega | (simp only [disM] <;> omega) | assumption) only [↓run, ↓runM, run, runM, Nat.reduceAdd, Nat.reduceMul, Int.reduceToNat, ↓f213_J0, nil_p, fx, c0, c1, TC.w212, hp, eq_true d]
  · simp (disch := first | omega | (simp only [disM] <;> omega) | assumption) only [↓run, ↓runM, run, runM, Nat.reduceAdd, Nat.reduceMul, Int.reduceToNat, ↓f213_J0, nil_p, fx, c0, c1, TC.w212, hp, eq_false d]
theorem GC.w213_2 (TC : GC t) (T : GA t) (n : Nat) {h : H} {b o : Nat} {w : AV} {e : Ex} (hx : ExIn h b o w e) (lv : Int) (hlv : -1 ≤ lv ∧ lv ≤ 100) (k : K β) (c0 : (e.kind = 0) = False) (c1 : (e.kind = 1) = False) (c2 : (e.kind = 2) = True) :
    qCall (fRunS t stdI (n + 2)) (.fn 213 []) [.ptr b o, .int .i64 lv] h (.mk k) = k (.bool (decide (PartP e lv))) h := by
  have q : decide (PartP e lv) = (decide (0 ≤ e.num ∧ e.num ≤ 7) && decide (Plain e 0 0 3)) := by
    rw [Bool.eq_iff_iff, Bool.and_eq_true, decide_eq_true_iff, decide_eq_true_iff, decide_eq_true_iff]; unfold PartP; simp [of_eq_true c2]
  have hp : ∀ (a b1 c : Int) (kk : K β), qCall (fRunS t stdI (n + 1)) (.fn 229 []) [.ptr b o, .int .i64 a, .int .i64 b1, .int .i64 c] h (.mk kk) = kk (.bool (decide (Plain e a b1 c))) h := fun a b1 c kk => TC.w229 n hx a b1 c kk
  obtain ⟨us, fx⟩ := hx.get β
  rw [TC.q213, q]
  clear q
  unfold f213
  by_cases d : 0 ≤ e.num ∧ e.num ≤ 7
  · simp (disch := first | omega | (simp only [disM] <;> omega) | assumption) only [↓run, ↓runM, run, runM, Nat.reduceAdd, Nat.reduceMul, Int.reduceToNat, ↓f213_J0, nil_p, fx, c0, c1, c2, TC.w212, hp, eq_true d]
  · simp (disch := first | omega | (simp only [disM] <;> omega) | assumption) only [↓run, ↓runM, run, runM, Nat.reduceAdd, Nat.reduceMul, Int.reduceToNat, ↓f213_J0, nil_p, fx, c0, c1, c2, TC.w212, hp, eq_false d]
theorem GC.w213_3 (TC : GC t) (T : GA t) (n : Nat) {h : H} {b o : Nat} {w : AV} {e : Ex} (hx : ExIn h b o w e) (lv : Int) (hlv : -1 ≤ lv ∧ lv ≤ 100) (k : K β) (c0 : (e.kind = 0) = False) (c1 : (e.kind = 1) = False) (c2 : (e.kind = 2) = False) (c3 : (e.kind = 3) = True) :
    qCall (fRunS t stdI (n + 2)) (.fn 213 []) [.ptr b o, .int .i64 lv] h (.mk k) = k (.bool (decide (PartP e lv))) h := by
  have q : decide (PartP e lv) = (decide (0 ≤ e.num ∧ e.num ≤ 99) && decide (Plain e 0 0 3)) := by
    rw [Bool.eq_iff_iff, Bool.and_eq_true, decide_eq_true_iff, decide_eq_true_iff, decide_eq_true_iff]; unfold PartP; simp [of_eq_true c3]
  have hp : ∀ (a b1 c : Int) (kk : K β), qCall (fRunS t stdI (n + 1)) (.fn 229 []) [.ptr b o, .int .i64 a, .int .i64 b1, .int .i64 c] h (.mk kk) = kk (.bool (decide (Plain e a b1 c))) h := fun a b1 c kk => TC.w229 n hx a b1 c kk
  obtain ⟨us, fx⟩ := hx.get β
  rw [TC.q213, q]
  clear q
  unfold f213
  by_cases d : 0 ≤ e.num ∧ e.num ≤ 99
  · simp (disch := first | omega | (simp only [disM] <;> omega) | assumption) only [↓run, ↓runM, run, runM, Nat.reduceAdd, Nat.reduceMul, Int.reduceToNat, ↓f213_J0, nil_p, fx, c0, c1, c2, c3, TC.w212, hp, eq_true d]
  · simp (disch := first | omega | (simp only [disM] <;> omega) | assumption) only [↓run, ↓runM, run, runM, Nat.reduceAdd, Nat.reduceMul, Int.reduceToNat, ↓f213_J0, nil_p, fx, c0, c1, c2, c3, TC.w212, hp, eq_false d]
theorem GC.w213_4 (TC : GC t) (T : GA t) (n : Nat) {h : H} {b o : Nat} {w : AV} {e : Ex} (hx : ExIn h b o w e) (lv : Int) (hlv : -1 ≤ lv ∧ lv ≤ 100) (k : K β) (c0 : (e.kind = 0) = False) (c1 : (e.kind = 1) = False) (c2 : (e.kind = 2) = False) (c3 : (e.kind = 3) = False) (c4 : (e.kind = 4) = True) :
    qCall (fRunS t stdI (n + 2)) (.fn 213 []) [.ptr b o, .int .i64 lv] h (.mk k) = k (.bool (decide (PartP e lv))) h := by
  have q : decide (PartP e lv) = (decide (0 ≤ e.num ∧ e.num ≤ 4) && decide (Plain e 0 2 2)) := by
    rw [Bool.eq_iff_iff, Bool.and_eq_true, decide_eq_true_iff, decide_eq_true_iff, decide_eq_true_iff]; unfold PartP; simp [of_eq_true c4]
  have hp : ∀ (a b1 c : Int) (kk : K β), qCall (fRunS t stdI (n + 1)) (.fn 229 []) [.ptr b o, .int .i64 a, .int .i64 b1, .int .i64 c] h (.mk kk) = kk (.bool (decide (Plain e a b1 c))) h := fun a b1 c kk => TC.w229 n hx a b1 c kk
  obtain ⟨us, fx⟩ := hx.get β
  rw [TC.q213, q]
  clear q
  unfold f213
  by_cases d : 0 ≤ e.num ∧ e.num ≤ 4
  · simp (disch := first | omega | (simp only [disM] <;> omega) | assumption) only [↓run, ↓runM, run, runM, Nat.reduceAdd, Nat.reduceMul, Int.reduceToNat, ↓f213_J0, nil_p, fx, c0, c1, c2, c3, c4, TC.w212, hp, eq_true d]
  · simp (disch := first | omega | (simp only [disM] <;> omega) | assumption) only [↓run, ↓runM, run, runM, Nat.reduceAdd, Nat.reduceMul, Int.reduceToNat, ↓f213_J0, nil_p, fx, c0, c1, c2, c3, c4, TC.w212, hp, eq_false d]
theorem GC.w213_5 (TC : GC t) (T : GA t) (n : Nat) {h : H} {b o : Nat} {w : AV} {e : Ex} (hx : ExIn h b o w e) (lv : Int) (hlv : -1 ≤ lv ∧ lv ≤ 100) (k : K β) (c0 : (e.kind = 0) = False) (c1 : (e.kind = 1) = False) (c2 : (e.kind = 2) = False) (c3 : (e.kind = 3) = False) (c4 : (e.kind = 4) = False) (c5 : (e.kind = 5) = True) :
    qCall (fRunS t stdI (n + 2)) (.fn 213 []) [.ptr b o, .int .i64 lv] h (.mk k) = k (.bool (decide (PartP e lv))) h := by
  have q : decide (PartP e lv) = (decide (0 ≤ e.num ∧ e.num ≤ 99) && decide (Plain e 3 3 3)) := by
    rw [Bool.eq_iff_iff, Bool.and_eq_true, decide_eq_true_iff, decide_eq_true_iff, decide_eq_true_iff]; unfold PartP; simp [of_eq_true c5]
  have hp : ∀ (a b1 c : Int) (kk : K β), qCall (fRunS t stdI (n + 1)) (.fn 229 []) [.ptr b o, .int .i64 a, .int .i64 b1, .int .i64 c] h (.mk kk) = kk (.bool (decide (Plain e a b1 c))) h := fun a b1 c kk => TC.w229 n hx a b1 c kk
  obtain ⟨us, fx⟩ := hx.get β
  rw [TC.q213, q]
  clear q
  unfold f213
  by_cases d : 0 ≤ e.num ∧ e.num ≤ 99
  · simp (disch := first | omega | (simp only [disM] <;> omega) | assumption) only [↓run, ↓runM, run, runM, Nat.reduceAdd, Nat.reduceMul, Int.reduceToNat, ↓f213_J0, nil_p, fx, c0, c1, c2, c3, c4, c5, TC.w212, hp, eq_true d]
  · simp (disch := first | omega | (simp only [disM] <;> omega) | assumption) only [↓run, ↓runM, run, runM, Nat.reduceAdd, Nat.reduceMul, Int.reduceToNat, ↓f213_J0, nil_p, fx, c0, c1, c2, c3, c4, c5, TC.w212, hp, eq_false d]
theorem GC.w213_6 (TC : GC t) (T : GA t) (n : Nat) {h : H} {b o : Nat} {w : AV} {e : Ex} (hx : ExIn h b o w e) (lv : Int) (hlv : -1 ≤ lv ∧ lv ≤ 100) (k : K β) (c0 : (e.kind = 0) = False) (c1 : (e.kind = 1) = False) (c2 : (e.kind = 2) = False) (c3 : (e.kind = 3) = False) (c4 : (e.kind = 4) = False) (c5 : (e.kind = 5) = False) (c6 : (e.kind = 6) = True) :
    qCall (fRunS t stdI (n + 2)) (.fn 213 []) [.ptr b o, .int .i64 lv] h (.mk k) = k (.bool (decide (PartP e lv))) h := by
  have q : decide (PartP e lv) = (decide (e.num = 0) && decide (Plain e 0 2 2)) := by
    rw [Bool.eq_iff_iff, Bool.and_eq_true, decide_eq_true_iff, decide_eq_true_iff, decide_eq_true_iff]; unfold PartP; simp [of_eq_true c6]
  have hp : ∀ (a b1 c : Int) (kk : K β), qCall (fRunS t stdI (n + 1)) (.fn 229 []) [.ptr b o, .int .i64 a, .int .i64 b1, .int .i64 c] h (.mk kk) = kk (.bool (decide (Plain e a b1 c))) h := fun a b1 c kk => TC.w229 n hx a b1 c kk
  obtain ⟨us, fx⟩ := hx.get β
  rw [TC.q213, q]
  clear q
  unfold f213
  by_cases d : e.num = 0
  · simp (disch := first | omega | (simp only [disM] <;> omega) | assumption) only [↓run, ↓runM, run, runM, Nat.reduceAdd, Nat.reduceMul, Int.reduceToNat, ↓f213_J0, nil_p, fx, c0, c1, c2, c3, c4, c5, c6, hp, eq_true d]
  · simp (disch := first | omega | (simp only [disM] <;> omega) | assumption) only [↓run, ↓runM, run, runM, Nat.reduceAdd, Nat.reduceMul, Int.reduceToNat, ↓f213_J0, nil_p, fx, c0, c1, c2, c3, c4, c5, c6, hp, eq_false d]
theorem GC.w213_7 (TC : GC t) (T : GA t) (n : Nat) {h : H} {b o : Nat} {w : AV} {e : Ex} (hx : ExIn h b o w e) (lv : Int) (hlv : -1 ≤ lv ∧ lv ≤ 100) (k : K β) (c0 : (e.kind = 0) = False) (c1 : (e.kind = 1) = False) (c2 : (e.kind = 2) = False) (c3 : (e.kind = 3) = False) (c4 : (e.kind = 4) = False) (c5 : (e.kind = 5) = False) (c6 : (e.kind = 6) = False) (c7 : (e.kind = 7) = True) :
    qCall (fRunS t stdI (n + 2)) (.fn 213 []) [.ptr b o, .int .i64 lv] h (.mk k) = k (.bool (decide (PartP e lv))) h := by
  have q : decide (PartP e lv) = (decide (e.num = 0) && decide (Plain e 0 0 0)) := by
    rw [Bool.eq_iff_iff, Bool.and_eq_true, decide_eq_true_iff, decide_eq_true_iff, decide_eq_true_iff]; unfold PartP; simp [of_eq_true c7]
  have hp : ∀ (a b1 c : Int) (kk : K β), qCall (fRunS t stdI (n + 1)) (.fn 229 []) [.ptr b o, .int .i64 a, .int .i64 b1, .int .i64 c] h (.mk kk) = kk (.bool (decide (Plain e a b1 c))) h := fun a b1 c kk => TC.w229 n hx a b1 c kk
  obtain ⟨us, fx⟩ := hx.get β
  rw [TC.q213, q]
  clear q
  unfold f213
  by_cases d : e.num = 0
  · simp (disch := first | omega | (simp only [disM] <;> omega) | assumption) only [↓run, ↓runM, run, runM, Nat.reduceAdd, Nat.reduceMul, Int.reduceToNat, ↓f213_J0, nil_p, fx, c0, c1, c2, c3, c4, c5, c6, c7, hp, eq_true d]
  · simp (disch := first | omega | (simp only [disM] <;> omega) | assumption) only [↓run, ↓runM, run, runM, Nat.reduceAdd, Nat.reduceMul, Int.reduceToNat, ↓f213_J0, nil_p, fx, c0, c1, c2, c3, c4, c5, c6, c7, hp, eq_false d]
theorem GC.w213_8 (TC : GC t) (T : GA t) (n : Nat) {h : H} {b o : Nat} {w : AV} {e : Ex} (hx : ExIn h b o w e) (lv : Int) (hlv : -1 ≤ lv ∧ lv ≤ 100) (k : K β) (c0 : (e.kind = 0) = False) (c1 : (e.kind = 1) = False) (c2 : (e.kind = 2) = False) (c3 : (e.kind = 3) = False) (c4 : (e.kind = 4) = False) (c5 : (e.kind = 5) = False) (c6 : (e.kind = 6) = False) (c7 : (e.kind = 7) = False) :
    qCall (fRunS t stdI (n + 2)) (.fn 213 []) [.ptr b o, .int .i64 lv] h (.mk k) = k (.bool (decide (PartP e lv))) h := by
  have q : decide (PartP e lv) = false := by
    rw [decide_eq_false_iff_not]; unfold PartP; simp only [c0, c1, c2, c3, c4, c5, c6, c7, false_and, or_false, not_false_eq_true]
  obtain ⟨us, fx⟩ := hx.get β
  rw [TC.q213, q]
  clear q
  unfold f213
  simp (disch := first | omega | (simp only [disM] <;> omega) | assumption) only [↓run, ↓runM, run, runM, Nat.reduceAdd, Nat.reduceMul, Int.reduceToNat, ↓f213_J0, nil_p, fx, c0, c1, c2, c3, c4, c5, c6, c7]
theorem GC.w213 (TC : GC t) (T : GA t) (n : Nat) {h : H} {b o : Nat} {w : AV} {e : Ex} (hx : ExIn h b o w e) (lv : Int) (hlv : -1 ≤ lv ∧ lv ≤ 100) (k : K β) :
    qCall (fRunS t stdI (n + 2)) (.fn 213 []) [.ptr b o, .int .i64 lv] h (.mk k) = k (.bool (decide (PartP e lv))) h := by
  by_cases c0 : e.kind = 0
  · exact TC.w213_0 T n hx lv hlv k  (eq_true c0)
  by_cases c1 : e.kind = 1
  · exact TC.w213_1 T n hx lv hlv k (eq_false c0) (eq_true c1)
  by_cases c2 : e.kind = 2
  · exact TC.w213_2 T n hx lv hlv k (eq_false c0) (eq_false c1) (eq_true c2)
  by_cases c3 : e.kind = 3
  · exact TC.w213_3 T n hx lv hlv k (eq_false c0) (eq_false c1) (eq_false c2) (eq_true c3)
  by_cases c4 : e.kind = 4
  · exact TC.w213_4 T n hx lv hlv k (eq_false c0) (eq_false c1) (eq_false c2) (eq_false c3) (eq_true c4)
  by_cases c5 : e.kind = 5
  · exact TC.w213_5 T n hx lv hlv k (eq_false c0) (eq_false c1) (eq_false c2) (eq_false c3) (eq_false c4) (eq_true c5)
  by_cases c6 : e.kind = 6
  · exact TC.w213_6 T n hx lv hlv k (eq_false c0) (eq_false c1) (eq_false c2) (eq_false c3) (eq_false c4) (eq_false c5) (eq_true c6)
  by_cases c7 : e.kind = 7
  · exact TC.w213_7 T n hx lv hlv k (eq_false c0) (eq_false c1) (eq_false c2) (eq_false c3) (eq_false c4) (eq_false c5) (eq_false c6) (eq_true c7)
  exact TC.w213_8 T n hx lv hlv k (eq_false c0) (eq_false c1) (eq_false c2) (eq_false c3) (eq_false c4) (eq_false c5) (eq_false c6) (eq_false c7)
theorem GC.w203 (TC : GC t) (n : Nat) {h : H} {w : AV} {e : Ex} (i : Int) :
    Sp (β := β) (fRunS t stdI (n + 1) (.fn 203 []) [.agg (exCells e w), .int .i64 i] h) fun u h' => Ext h h' ∧ u = .int .i64 (more e i) := by
  intro k R hk
  rw [TC.c203]; unfold f203 exCells
  have hb : ∀ (a b c w : AV) (hh : H) (kk : K β), qBox 0 (.agg [a, b, c, w]) hh (.mk kk) = kk (.ptr hh.n 0) (hh.push (.own 0 [a, b, c, w])) := fun a b c w hh kk => q_fBox_agg 0 _ hh kk
  by_cases h1 : i = 1
  · by_cases h2 : e.kind = 5
    · simp (disch := first | omega | (simp only [disM] <;> omega) | assumption) only [↓run, ↓runM, run, runM, Nat.reduceAdd, Nat.reduceMul, Int.reduceToNat, ↓f203_J2, ↓f203_J1, hb, eq_true h1, eq_true h2]
      exact hk _ _ ⟨(Ext.refl h).push _, by unfold more; rw [if_pos h1, if_pos h2]⟩
    · by_cases h3 : e.kind = 6
      · simp (disch := first | omega | (simp only [disM] <;> omega) | assumption) only [↓run, ↓runM, run, runM, Nat.reduceAdd, Nat.reduceMul, Int.reduceToNat, ↓f203_J2, ↓f203_J1, hb, eq_true h1, eq_false h2, eq_true h3]
        exact hk _ _ ⟨(Ext.refl h).push _, by unfold more; rw [if_pos h1, if_neg h2, if_pos h3]⟩
      · simp (disch := first | omega | (simp only [disM] <;> omega) | assumption) only [↓run, ↓runM, run, runM, Nat.reduceAdd, Nat.reduceMul, Int.reduceToNat, ↓f203_J2, ↓f203_J1, hb, eq_true h1, eq_false h2, eq_false h3]
        exact hk _ _ ⟨(Ext.refl h).push _, by unfold more; rw [if_pos h1, if_neg h2, if_neg h3]⟩
  · simp (disch := first | omega | (simp only [disM] <;> omega) | assumption) only [↓run, ↓runM, run, runM, Nat.reduceAdd, Nat.reduceMul, Int.reduceToNat, ↓f203_J2, ↓f203_J1, hb, eq_false h1]
    exact hk _ _ ⟨(Ext.refl h).push _, by unfold more; rw [if_neg h1]⟩
theorem GC.w202_0 (TC : GC t) (T : GA t) (n : Nat) {h : H} {w : AV} {e : Ex} (hx : SlAt h w (ints e.kids)) (lv : Int) (hlv : -1 ≤ lv ∧ lv ≤ 100)  (c0 : (e.kind = 0) = True) :
    Sp (β := β) (fRunS t stdI (n + 3) (.fn 202 []) [.agg (exCells e w), .int .i64 lv] h) fun u h' => Ext h h' ∧ u = .bool (decide (PartP e lv)) := by
  intro k R hk
  have hb : ∀ (a b c w : AV) (hh : H) (kk : K β), qBox 0 (.agg [a, b, c, w]) hh (.mk kk) = kk (.ptr hh.n 0) (hh.push (.own 0 [a, b, c, w])) := fun a b c w hh kk => q_fBox_agg 0 _ hh kk
  have ln : ∀ kk : VK β, qLenL w (.mk kk) = kk (.int .i64 (e.kids.length : Int)) := fun kk => by rw [hx.len, ints_len]
  have q : PartP e lv ↔ (-32768 ≤ e.num ∧ e.num ≤ 32767) ∧ Plain e 0 0 0 := by
    unfold PartP; simp [of_eq_true c0]
  unfold Plain at q
  rw [TC.c202]; unfold f202 exCells
  by_cases d0 : e.bind = 0
  · by_cases d1 : (e.kids.length : Int) = 0
    · simp (disch := first | omega | (simp only [disM] <;> omega) | assumption) only [↓run, ↓runM, run, runM, Nat.reduceAdd, Nat.reduceMul, Int.reduceToNat, ↓f202_J7, hb, ln, c0, T.w41, eq_true d0, eq_true d1]
      refine hk _ _ ⟨(Ext.refl h).push _, congrArg AV.bool ?_⟩
      first | (refine (decide_eq_true (q.2 ?_)).symm; omega) | (refine (decide_eq_false (fun hh => ?_)).symm; have := q.1 hh; omega) | (refine decide_eq_decide.2 (Iff.trans ?_ q.symm); omega)
    · simp (disch := first | omega | (simp only [disM] <;> omega) | assumption) only [↓run, ↓runM, run, runM, Nat.reduceAdd, Nat.reduceMul, Int.reduceToNat, ↓f202_J7, hb, ln, c0, T.w41, eq_true d0, eq_false d1]
      refine hk _ _ ⟨(Ext.refl h).push _, congrArg AV.bool ?_⟩
      first | (refine (decide_eq_true (q.2 ?_)).symm; omega) | (refine (decide_eq_false (fun hh => ?_)).symm; have := q.1 hh; omega) | (refine decide_eq_decide.2 (Iff.trans ?_ q.symm); omega)
  · by_cases d1 : (e.kids.length : Int) = 0
    · simp (disch := first | omega | (simp only [disM] <;> omega) | assumption) only [↓run, ↓runM, run, runM, Nat.reduceAdd, Nat.reduceMul, Int.reduceToNat, ↓f202_J7, hb, ln, c0, T.w41, eq_false d0, eq_true d1]
      refine hk _ _ ⟨(Ext.refl h).push _, congrArg AV.bool ?_⟩
      first | (refine (decide_eq_true (q.2 ?_)).symm; omega) | (refine (decide_eq_false (fun hh => ?_)).symm; have := q.1 hh; omega) | (refine decide_eq_decide.2 (Iff.trans ?_ q.symm); omega)
    · simp (disch := first | omega | (simp only [disM] <;> omega) | assumption) only [↓run, ↓runM, run, runM, Nat.reduceAdd, Nat.reduceMul, Int.reduceToNat, ↓f202_J7, hb, ln, c0, T.w41, eq_false d0, eq_false d1]
      refine hk _ _ ⟨(Ext.refl h).push _, congrArg AV.bool ?_⟩
      first | (refine (decide_eq_true (q.2 ?_)).symm; omega) | (refine (decide_eq_false (fun hh => ?_)).symm; have := q.1 hh; omega) | (refine decide_eq_decide.2 (Iff.trans ?_ q.symm); omega)
theorem GC.w202_1 (TC : GC t) (T : GA t) (n : Nat) {h : H} {w : AV} {e : Ex} (hx : SlAt h w (ints e.kids)) (lv : Int) (hlv : -1 ≤ lv ∧ lv ≤ 100) (c0 : (e.kind = 0) = False) (c1 : (e.kind = 1) = True) :
    Sp (β := β) (fRunS t stdI (n + 3) (.fn 202 []) [.agg (exCells e w), .int .i64 lv] h) fun u h' => Ext h h' ∧ u = .bool (decide (PartP e lv)) := by
  intro k R hk
  have hb : ∀ (a b c w : AV) (hh : H) (kk : K β), qBox 0 (.agg [a, b, c, w]) hh (.mk kk) = kk (.ptr hh.n 0) (hh.push (.own 0 [a, b, c, w])) := fun a b c w hh kk => q_fBox_agg 0 _ hh kk
  have ln : ∀ kk : VK β, qLenL w (.mk kk) = kk (.int .i64 (e.kids.length : Int)) := fun kk => by rw [hx.len, ints_len]
  have q : PartP e lv ↔ (0 ≤ e.num ∧ e.num ≤ lv - 1) ∧ Plain e 0 0 0 := by
    unfold PartP; simp [of_eq_true c1]
  unfold Plain at q
  rw [TC.c202]; unfold f202 exCells
  by_cases d0 : e.bind = 0
  · by_cases d1 : (e.kids.length : Int) = 0
    · simp (disch := first | omega | (simp only [disM] <;> omega) | assumption) only [↓run, ↓runM, run, runM, Nat.reduceAdd, Nat.reduceMul, Int.reduceToNat, ↓f202_J7, hb, ln, c0, c1, T.w30, eq_true d0, eq_true d1]
      refine hk _ _ ⟨(Ext.refl h).push _, congrArg AV.bool ?_⟩
      first | (refine (decide_eq_true (q.2 ?_)).symm; omega) | (refine (decide_eq_false (fun hh => ?_)).symm; have := q.1 hh; omega) | (refine decide_eq_decide.2 (Iff.trans ?_ q.symm); omega)
    · simp (disch := first | omega | (simp only [disM] <;> omega) | assumption) only [↓run, ↓runM, run, runM, Nat.reduceAdd, Nat.reduceMul, Int.reduceToNat, ↓f202_J7, hb, ln, c0, c1, T.w30, eq_true d0, eq_false d1]
      refine hk _ _ ⟨(Ext.refl h).push _, congrArg AV.bool ?_⟩
      first | (refine (decide_eq_true (q.2 ?_)).symm; omega) | (refine (decide_eq_false (fun hh => ?_)).symm; have := q.1 hh; omega) | (refine decide_eq_decide.2 (Iff.trans ?_ q.symm); omega)
  · by_cases d1 : (e.kids.length : Int) = 0
    · simp (disch := first | omega | (simp only [disM] <;> omega) | assumption) only [↓run, ↓runM, run, runM, Nat.reduceAdd, Nat.reduceMul, Int.reduceToNat, ↓f202_J7, hb, ln, c0, c1, T.w30, eq_false d0, eq_true d1]
      refine hk _ _ ⟨(Ext.refl h).push _, congrArg AV.bool ?_⟩
      first | (refine (decide_eq_true (q.2 ?_)).symm; omega) | (refine (decide_eq_false (fun hh => ?_)).symm; have := q.1 hh; omega) | (refine decide_eq_decide.2 (Iff.trans ?_ q.symm); omega)
    · simp (disch := first | omega | (simp only [disM] <;> omega) | assumption) only [↓run, ↓runM, run, runM, Nat.reduceAdd, Nat.reduceMul, Int.reduceToNat, ↓f202_J7, hb, ln, c0, c1, T.w30, eq_false d0, eq_false d1]
      refine hk _ _ ⟨(Ext.refl h).push _, congrArg AV.bool ?_⟩
      first | (refine (decide_eq_true (q.2 ?_)).symm; omega) | (refine (decide_eq_false (fun hh => ?_)).symm; have := q.1 hh; omega) | (refine decide_eq_decide.2 (Iff.trans ?_ q.symm); omega)
theorem GC.w202_2 (TC : GC t) (T : GA t) (n : Nat) {h : H} {w : AV} {e : Ex} (hx : SlAt h w (ints e.kids)) (lv : Int) (hlv : -1 ≤ lv ∧ lv ≤ 100) (c0 : (e.kind = 0) = False) (c1 : (e.kind = 1) = False) (c2 : (e.kind = 2) = True) :
    Sp (β := β) (fRunS t stdI (n + 3) (.fn 202 []) [.agg (exCells e w), .int .i64 lv] h) fun u h' => Ext h h' ∧ u = .bool (decide (PartP e lv)) := by
  intro k R hk
  have hb : ∀ (a b c w : AV) (hh : H) (kk : K β), qBox 0 (.agg [a, b, c, w]) hh (.mk kk) = kk (.ptr hh.n 0) (hh.push (.own 0 [a, b, c, w])) := fun a b c w hh kk => q_fBox_agg 0 _ hh kk
  have ln : ∀ kk : VK β, qLenL w (.mk kk) = kk (.int .i64 (e.kids.length : Int)) := fun kk => by rw [hx.len, ints_len]
  have q : PartP e lv ↔ (0 ≤ e.num ∧ e.num ≤ 7) ∧ Plain e 0 0 3 := by
    unfold PartP; simp [of_eq_true c2]
  unfold Plain at q
  rw [TC.c202]; unfold f202 exCells
  by_cases d0 : e.bind = 0
  · by_cases d1 : (e.kids.length : Int) ≤ 3
    · simp (disch := first | omega | (simp only [disM] <;> omega) | assumption) only [↓run, ↓runM, run, runM, Nat.reduceAdd, Nat.reduceMul, Int.reduceToNat, ↓f202_J7, hb, ln, c0, c1, c2, T.w30, eq_true d0, eq_true d1]
      refine hk _ _ ⟨(Ext.refl h).push _, congrArg AV.bool ?_⟩
      first | (refine (decide_eq_true (q.2 ?_)).symm; omega) | (refine (decide_eq_false (fun hh => ?_)).symm; have := q.1 hh; omega) | (refine decide_eq_decide.2 (Iff.trans ?_ q.symm); omega)
    · simp (disch := first | omega | (simp only [disM] <;> omega) | assumption) only [↓run, ↓runM, run, runM, Nat.reduceAdd, Nat.reduceMul, Int.reduceToNat, ↓f202_J7, hb, ln, c0, c1, c2, T.w30, eq_true d0, eq_false d1]
      refine hk _ _ ⟨(Ext.refl h).push _, congrArg AV.bool ?_⟩
      first | (refine (decide_eq_true (q.2 ?_)).symm; omega) | (refine (decide_eq_false (fun hh => ?_)).symm; have := q.1 hh; omega) | (refine decide_eq_decide.2 (Iff.trans ?_ q.symm); omega)
  · by_cases d1 : (e.kids.length : Int) ≤ 3
    · simp (disch := first | omega | (simp only [disM] <;> omega) | assumption) only [↓run, ↓runM, run, runM, Nat.reduceAdd, Nat.reduceMul, Int.reduceToNat, ↓f202_J7, hb, ln, c0, c1, c2, T.w30, eq_false d0, eq_true d1]
      refine hk _ _ ⟨(Ext.refl h).push _, congrArg AV.bool ?_⟩
      first | (refine (decide_eq_true (q.2 ?_)).symm; omega) | (refine (decide_eq_false (fun hh => ?_)).symm; have := q.1 hh; omega) | (refine decide_eq_decide.2 (Iff.trans ?_ q.symm); omega)
    · simp (disch := first | omega | (simp only [disM] <;> omega) | assumption) only [↓run, ↓runM, run, runM, Nat.reduceAdd, Nat.reduceMul, Int.reduceToNat, ↓f202_J7, hb, ln, c0, c1, c2, T.w30, eq_false d0, eq_false d1]
      refine hk _ _ ⟨(Ext.refl h).push _, congrArg AV.bool ?_⟩
      first | (refine (decide_eq_true (q.2 ?_)).symm; omega) | (refine (decide_eq_false (fun hh => ?_)).symm; have := q.1 hh; omega) | (refine decide_eq_decide.2 (Iff.trans ?_ q.symm); omega)
theorem GC.w202_3 (TC : GC t) (T : GA t) (n : Nat) {h : H} {w : AV} {e : Ex} (hx : SlAt h w (ints e.kids)) (lv : Int) (hlv : -1 ≤ lv ∧ lv ≤ 100) (c0 : (e.kind = 0) = False) (c1 : (e.kind = 1) = False) (c2 : (e.kind = 2) = False) (c3 : (e.kind = 3) = True) :
    Sp (β := β) (fRunS t stdI (n + 3) (.fn 202 []) [.agg (exCells e w), .int .i64 lv] h) fun u h' => Ext h h' ∧ u = .bool (decide (PartP e lv)) := by
  intro k R hk
  have hb : ∀ (a b c w : AV) (hh : H) (kk : K β), qBox 0 (.agg [a, b, c, w]) hh (.mk kk) = kk (.ptr hh.n 0) (hh.push (.own 0 [a, b, c, w])) := fun a b c w hh kk => q_fBox_agg 0 _ hh kk
  have ln : ∀ kk : VK β, qLenL w (.mk kk) = kk (.int .i64 (e.kids.length : Int)) := fun kk => by rw [hx.len, ints_len]
  have q : PartP e lv ↔ (0 ≤ e.num ∧ e.num ≤ 99) ∧ Plain e 0 0 3 := by
    unfold PartP; simp [of_eq_true c3]
  unfold Plain at q
  rw [TC.c202]; unfold f202 exCells
  by_cases d0 : e.bind = 0
  · by_cases d1 : (e.kids.length : Int) ≤ 3
    · simp (disch := first | omega | (simp only [disM] <;> omega) | assumption) only [↓run, ↓runM, run, runM, Nat.reduceAdd, Nat.reduceMul, Int.reduceToNat, ↓f202_J7, hb, ln, c0, c1, c2, c3, T.w30, eq_true d0, eq_true d1]
      refine hk _ _ ⟨(Ext.refl h).push _, congrArg AV.bool ?_⟩
      first | (refine (decide_eq_true (q.2 ?_)).symm; omega) | (refine (decide_eq_false (fun hh => ?_)).symm; have := q.1 hh; omega) | (refine decide_eq_decide.2 (Iff.trans ?_ q.symm); omega)
    · simp (disch := first | omega | (simp only [disM] <;> omega) | assumption) only [↓run, ↓runM, run, runM, Nat.reduceAdd, Nat.reduceMul, Int.reduceToNat, ↓f202_J7, hb, ln, c0, c1, c2, c3, T.w30, eq_true d0, eq_false d1]
      refine hk _ _ ⟨(Ext.refl h).push _, congrArg AV.bool ?_⟩
      first | (refine (decide_eq_true (q.2 ?_)).symm; omega) | (refine (decide_eq_false (fun hh => ?_)).symm; have := q.1 hh; omega) | (refine decide_eq_decide.2 (Iff.trans ?_ q.symm); omega)
  · by_cases d1 : (e.kids.length : Int) ≤ 3
    · simp (disch := first | omega | (simp only [disM] <;> omega) | assumption) only [↓run, ↓runM, run, runM, Nat.reduceAdd, Nat.reduceMul, Int.reduceToNat, ↓f202_J7, hb, ln, c0, c1, c2, c3, T.w30, eq_false d0, eq_true d1]
      refine hk _ _ ⟨(Ext.refl h).push _, congrArg AV.bool ?_⟩
      first | (refine (decide_eq_true (q.2 ?_)).symm; omega) | (refine (decide_eq_false (fun hh => ?_)).symm; have := q.1 hh; omega) | (refine decide_eq_decide.2 (Iff.trans ?_ q.symm); omega)
    · simp (disch := first | omega | (simp only [disM] <;> omega) | assumption) only [↓run, ↓runM, run, runM, Nat.reduceAdd, Nat.reduceMul, Int.reduceToNat, ↓f202_J7, hb, ln, c0, c1, c2, c3, T.w30, eq_false d0, eq_false d1]
      refine hk _ _ ⟨(Ext.refl h).push _, congrArg AV.bool ?_⟩
      first | (refine (decide_eq_true (q.2 ?_)).symm; omega) | (refine (decide_eq_false (fun hh => ?_)).symm; have := q.1 hh; omega) | (refine decide_eq_decide.2 (Iff.trans ?_ q.symm); omega)
theorem GC.w202_4 (TC : GC t) (T : GA t) (n : Nat) {h : H} {w : AV} {e : Ex} (hx : SlAt h w (ints e.kids)) (lv : Int) (hlv : -1 ≤ lv ∧ lv ≤ 100) (c0 : (e.kind = 0) = False) (c1 : (e.kind = 1) = False) (c2 : (e.kind = 2) = False) (c3 : (e.kind = 3) = False) (c4 : (e.kind = 4) = True) :
    Sp (β := β) (fRunS t stdI (n + 3) (.fn 202 []) [.agg (exCells e w), .int .i64 lv] h) fun u h' => Ext h h' ∧ u = .bool (decide (PartP e lv)) := by
  intro k R hk
  have hb : ∀ (a b c w : AV) (hh : H) (kk : K β), qBox 0 (.agg [a, b, c, w]) hh (.mk kk) = kk (.ptr hh.n 0) (hh.push (.own 0 [a, b, c, w])) := fun a b c w hh kk => q_fBox_agg 0 _ hh kk
  have ln : ∀ kk : VK β, qLenL w (.mk kk) = kk (.int .i64 (e.kids.length : Int)) := fun kk => by rw [hx.len, ints_len]
  have q : PartP e lv ↔ (0 ≤ e.num ∧ e.num ≤ 4) ∧ Plain e 0 2 2 := by
    unfold PartP; simp [of_eq_true c4]
  unfold Plain at q
  rw [TC.c202]; unfold f202 exCells
  by_cases d0 : e.bind = 0
  · by_cases d1 : (e.kids.length : Int) = 2
    · simp (disch := first | omega | (simp only [disM] <;> omega) | assumption) only [↓run, ↓runM, run, runM, Nat.reduceAdd, Nat.reduceMul, Int.reduceToNat, ↓f202_J7, hb, ln, c0, c1, c2, c3, c4, T.w30, eq_true d0, eq_true d1]
      refine hk _ _ ⟨(Ext.refl h).push _, congrArg AV.bool ?_⟩
      first | (refine (decide_eq_true (q.2 ?_)).symm; omega) | (refine (decide_eq_false (fun hh => ?_)).symm; have := q.1 hh; omega) | (refine decide_eq_decide.2 (Iff.trans ?_ q.symm); omega)
    · simp (disch := first | omega | (simp only [disM] <;> omega) | assumption) only [↓run, ↓runM, run, runM, Nat.reduceAdd, Nat.reduceMul, Int.reduceToNat, ↓f202_J7, hb, ln, c0, c1, c2, c3, c4, T.w30, eq_true d0, eq_false d1]
      refine hk _ _ ⟨(Ext.refl h).push _, congrArg AV.bool ?_⟩
      first | (refine (decide_eq_true (q.2 ?_)).symm; omega) | (refine (decide_eq_false (fun hh => ?_)).symm; have := q.1 hh; omega) | (refine decide_eq_decide.2 (Iff.trans ?_ q.symm); omega)
  · by_cases d1 : (e.kids.length : Int) = 2
    · simp (disch := first | omega | (simp only [disM] <;> omega) | assumption) only [↓run, ↓runM, run, runM, Nat.reduceAdd, Nat.reduceMul, Int.reduceToNat, ↓f202_J7, hb, ln, c0, c1, c2, c3, c4, T.w30, eq_false d0, eq_true d1]
      refine hk _ _ ⟨(Ext.refl h).push _, congrArg AV.bool ?_⟩
      first | (refine (decide_eq_true (q.2 ?_)).symm; omega) | (refine (decide_eq_false (fun hh => ?_)).symm; have := q.1 hh; omega) | (refine decide_eq_decide.2 (Iff.trans ?_ q.symm); omega)
    · simp (disch := first | omega | (simp only [disM] <;> omega) | assumption) only [↓run, ↓runM, run, runM, Nat.reduceAdd, Nat.reduceMul, Int.reduceToNat, ↓f202_J7, hb, ln, c0, c1, c2, c3, c4, T.w30, eq_false d0, eq_false d1]
      refine hk _ _ ⟨(Ext.refl h).push _, congrArg AV.bool ?_⟩
      first | (refine (decide_eq_true (q.2 ?_)).symm; omega) | (refine (decide_eq_false (fun hh => ?_)).symm; have := q.1 hh; omega) | (refine decide_eq_decide.2 (Iff.trans ?_ q.symm); omega)
theorem GC.w202_5 (TC : GC t) (T : GA t) (n : Nat) {h : H} {w : AV} {e : Ex} (hx : SlAt h w (ints e.kids)) (lv : Int) (hlv : -1 ≤ lv ∧ lv ≤ 100) (c0 : (e.kind = 0) = False) (c1 : (e.kind = 1) = False) (c2 : (e.kind = 2) = False) (c3 : (e.kind = 3) = False) (c4 : (e.kind = 4) = False) (c5 : (e.kind = 5) = True) :
    Sp (β := β) (fRunS t stdI (n + 3) (.fn 202 []) [.agg (exCells e w), .int .i64 lv] h) fun u h' => Ext h h' ∧ u = .bool (decide (PartP e lv)) := by
  intro k R hk
  have hb : ∀ (a b c w : AV) (hh : H) (kk : K β), qBox 0 (.agg [a, b, c, w]) hh (.mk kk) = kk (.ptr hh.n 0) (hh.push (.own 0 [a, b, c, w])) := fun a b c w hh kk => q_fBox_agg 0 _ hh kk
  have ln : ∀ kk : VK β, qLenL w (.mk kk) = kk (.int .i64 (e.kids.length : Int)) := fun kk => by rw [hx.len, ints_len]
  have q : PartP e lv ↔ (0 ≤ e.num ∧ e.num ≤ 99) ∧ Plain e 3 3 3 := by
    unfold PartP; simp [of_eq_true c5]
  unfold Plain at q
  rw [TC.c202]; unfold f202 exCells
  by_cases d0 : (e.kids.length : Int) = 3
  · by_cases d1 : 0 ≤ e.num ∧ e.num ≤ 99
    · simp (disch := first | omega | (simp only [disM] <;> omega) | assumption) only [↓run, ↓runM, run, runM, Nat.reduceAdd, Nat.reduceMul, Int.reduceToNat, ↓f202_J7, hb, ln, c0, c1, c2, c3, c4, c5, T.w30, eq_true d0, eq_true d1]
      refine hk _ _ ⟨(Ext.refl h).push _, congrArg AV.bool ?_⟩
      first | (refine (decide_eq_true (q.2 ?_)).symm; omega) | (refine (decide_eq_false (fun hh => ?_)).symm; have := q.1 hh; omega) | (refine decide_eq_decide.2 (Iff.trans ?_ q.symm); omega)
    · simp (disch := first | omega | (simp only [disM] <;> omega) | assumption) only [↓run, ↓runM, run, runM, Nat.reduceAdd, Nat.reduceMul, Int.reduceToNat, ↓f202_J7, hb, ln, c0, c1, c2, c3, c4, c5, T.w30, eq_true d0, eq_false d1]
      refine hk _ _ ⟨(Ext.refl h).push _, congrArg AV.bool ?_⟩
      first | (refine (decide_eq_true (q.2 ?_)).symm; omega) | (refine (decide_eq_false (fun hh => ?_)).symm; have := q.1 hh; omega) | (refine decide_eq_decide.2 (Iff.trans ?_ q.symm); omega)
  · by_cases d1 : 0 ≤ e.num ∧ e.num ≤ 99
    · simp (disch := first | omega | (simp only [disM] <;> omega) | assumption) only [↓run, ↓runM, run, runM, Nat.reduceAdd, Nat.reduceMul, Int.reduceToNat, ↓f202_J7, hb, ln, c0, c1, c2, c3, c4, c5, T.w30, eq_false d0, eq_true d1]
      refine hk _ _ ⟨(Ext.refl h).push _, congrArg AV.bool ?_⟩
      first | (refine (decide_eq_true (q.2 ?_)).symm; omega) | (refine (decide_eq_false (fun hh => ?_)).symm; have := q.1 hh; omega) | (refine decide_eq_decide.2 (Iff.trans ?_ q.symm); omega)
    · simp (disch := first | omega | (simp only [disM] <;> omega) | assumption) only [↓run, ↓runM, run, runM, Nat.reduceAdd, Nat.reduceMul, Int.reduceToNat, ↓f202_J7, hb, ln, c0, c1, c2, c3, c4, c5, T.w30, eq_false d0, eq_false d1]
      refine hk _ _ ⟨(Ext.refl h).push _, congrArg AV.bool ?_⟩
      first | (refine (decide_eq_true (q.2 ?_)).symm; omega) | (refine (decide_eq_false (fun hh => ?_)).symm; have := q.1 hh; omega) | (refine decide_eq_decide.2 (Iff.trans ?_ q.symm); omega)
theorem GC.w202_6 (TC : GC t) (T : GA t) (n : Nat) {h : H} {w : AV} {e : Ex} (hx : SlAt h w (ints e.kids)) (lv : Int) (hlv : -1 ≤ lv ∧ lv ≤ 100) (c0 : (e.kind = 0) = False) (c1 : (e.kind = 1) = False) (c2 : (e.kind = 2) = False) (c3 : (e.kind = 3) = False) (c4 : (e.kind = 4) = False) (c5 : (e.kind = 5) = False) (c6 : (e.kind = 6) = True) :
    Sp (β := β) (fRunS t stdI (n + 3) (.fn 202 []) [.agg (exCells e w), .int .i64 lv] h) fun u h' => Ext h h' ∧ u = .bool (decide (PartP e lv)) := by
  intro k R hk
  have hb : ∀ (a b c w : AV) (hh : H) (kk : K β), qBox 0 (.agg [a, b, c, w]) hh (.mk kk) = kk (.ptr hh.n 0) (hh.push (.own 0 [a, b, c, w])) := fun a b c w hh kk => q_fBox_agg 0 _ hh kk
  have ln : ∀ kk : VK β, qLenL w (.mk kk) = kk (.int .i64 (e.kids.length : Int)) := fun kk => by rw [hx.len, ints_len]
  have q : PartP e lv ↔ (e.num = 0) ∧ Plain e 0 2 2 := by
    unfold PartP; simp [of_eq_true c6]
  unfold Plain at q
  rw [TC.c202]; unfold f202 exCells
  by_cases d0 : e.bind = 0
  · by_cases d1 : (e.kids.length : Int) = 2
    · by_cases d2 : e.num = 0
      · simp (disch := first | omega | (simp only [disM] <;> omega) | assumption) only [↓run, ↓runM, run, runM, Nat.reduceAdd, Nat.reduceMul, Int.reduceToNat, ↓f202_J7, hb, ln, c0, c1, c2, c3, c4, c5, c6, T.w30, eq_true d0, eq_true d1, eq_true d2]
        refine hk _ _ ⟨(Ext.refl h).push _, congrArg AV.bool ?_⟩
        first | (refine (decide_eq_true (q.2 ?_)).symm; omega) | (refine (decide_eq_false (fun hh => ?_)).symm; have := q.1 hh; omega) | (refine decide_eq_decide.2 (Iff.trans ?_ q.symm); omega)
      · simp (disch := first | omega | (simp only [disM] <;> omega) | assumption) only [↓run, ↓runM, run, runM, Nat.reduceAdd, Nat.reduceMul, Int.reduceToNat, ↓f202_J7, hb, ln, c0, c1, c2, c3, c4, c5, c6, T.w30, eq_true d0, eq_true d1, eq_false d2]
        refine hk _ _ ⟨(Ext.refl h).push _, congrArg AV.bool ?_⟩
        first | (refine (decide_eq_true (q.2 ?_)).symm; omega) | (refine (decide_eq_false (fun hh => ?_)).symm; have := q.1 hh; omega) | (refine decide_eq_decide.2 (Iff.trans ?_ q.symm); omega)
    · by_cases d2 : e.num = 0
      · simp (disch := first | omega | (simp only [disM] <;> omega) | assumption) only [↓run, ↓runM, run, runM, Nat.reduceAdd, Nat.reduceMul, Int.reduceToNat, ↓f202_J7, hb, ln, c0, c1, c2, c3, c4, c5, c6, T.w30, eq_true d0, eq_false d1, eq_true d2]
        refine hk _ _ ⟨(Ext.refl h).push _, congrArg AV.bool ?_⟩
        first | (refine (decide_eq_true (q.2 ?_)).symm; omega) | (refine (decide_eq_false (fun hh => ?_)).symm; have := q.1 hh; omega) | (refine decide_eq_decide.2 (Iff.trans ?_ q.symm); omega)
      · simp (disch := first | omega | (simp only [disM] <;> omega) | assumption) only [↓run, ↓runM, run, runM, Nat.reduceAdd, Nat.reduceMul, Int.reduceToNat, ↓f202_J7, hb, ln, c0, c1, c2, c3, c4, c5, c6, T.w30, eq_true d0, eq_false d1, eq_false d2]
        refine hk _ _ ⟨(Ext.refl h).push _, congrArg AV.bool ?_⟩
        first | (refine (decide_eq_true (q.2 ?_)).symm; omega) | (refine (decide_eq_false (fun hh => ?_)).symm; have := q.1 hh; omega) | (refine decide_eq_decide.2 (Iff.trans ?_ q.symm); omega)
  · by_cases d1 : (e.kids.length : Int) = 2
    · by_cases d2 : e.num = 0
      · simp (disch := first | omega | (simp only [disM] <;> omega) | assumption) only [↓run, ↓runM, run, runM, Nat.reduceAdd, Nat.reduceMul, Int.reduceToNat, ↓f202_J7, hb, ln, c0, c1, c2, c3, c4, c5, c6, T.w30, eq_false d0, eq_true d1, eq_true d2]
        refine hk _ _ ⟨(Ext.refl h).push _, congrArg AV.bool ?_⟩
        first | (refine (decide_eq_true (q.2 ?_)).symm; omega) | (refine (decide_eq_false (fun hh => ?_)).symm; have := q.1 hh; omega) | (refine decide_eq_decide.2 (Iff.trans ?_ q.symm); omega)
      · simp (disch := first | omega | (simp only [disM] <;> omega) | assumption) only [↓run, ↓runM, run, runM, Nat.reduceAdd, Nat.reduceMul, Int.reduceToNat, ↓f202_J7, hb, ln, c0, c1, c2, c3, c4, c5, c6, T.w30, eq_false d0, eq_true d1, eq_false d2]
        refine hk _ _ ⟨(Ext.refl h).push _, congrArg AV.bool ?_⟩
        first | (refine (decide_eq_true (q.2 ?_)).symm; omega) | (refine (decide_eq_false (fun hh => ?_)).symm; have := q.1 hh; omega) | (refine decide_eq_decide.2 (Iff.trans ?_ q.symm); omega)
    · by_cases d2 : e.num = 0
      · simp (disch := first | omega | (simp only [disM] <;> omega) | assumption) only [↓run, ↓runM, run, runM, Nat.reduceAdd, Nat.reduceMul, Int.reduceToNat, ↓f202_J7, hb, ln, c0, c1, c2, c3, c4, c5, c6, T.w30, eq_false d0, eq_false d1, eq_true d2]
        refine hk _ _ ⟨(Ext.refl h).push _, congrArg AV.bool ?_⟩
        first | (refine (decide_eq_true (q.2 ?_)).symm; omega) | (refine (decide_eq_false (fun hh => ?_)).symm; have := q.1 hh; omega) | (refine decide_eq_decide.2 (Iff.trans ?_ q.symm); omega)
      · simp (disch := first | omega | (simp only [disM] <;> omega) | assumption) only [↓run, ↓runM, run, runM, Nat.reduceAdd, Nat.reduceMul, Int.reduceToNat, ↓f202_J7, hb, ln, c0, c1, c2, c3, c4, c5, c6, T.w30, eq_false d0, eq_false d1, eq_false d2]
        refine hk _ _ ⟨(Ext.refl h).push _, congrArg AV.bool ?_⟩
        first | (refine (decide_eq_true (q.2 ?_)).symm; omega) | (refine (decide_eq_false (fun hh => ?_)).symm; have := q.1 hh; omega) | (refine decide_eq_decide.2 (Iff.trans ?_ q.symm); omega)
theorem GC.w202_7 (TC : GC t) (T : GA t) (n : Nat) {h : H} {w : AV} {e : Ex} (hx : SlAt h w (ints e.kids)) (lv : Int) (hlv : -1 ≤ lv ∧ lv ≤ 100) (c0 : (e.kind = 0) = False) (c1 : (e.kind = 1) = False) (c2 : (e.kind = 2) = False) (c3 : (e.kind = 3) = False) (c4 : (e.kind = 4) = False) (c5 : (e.kind = 5) = False) (c6 : (e.kind = 6) = False) (c7 : (e.kind = 7) = True) :
    Sp (β := β) (fRunS t stdI (n + 3) (.fn 202 []) [.agg (exCells e w), .int .i64 lv] h) fun u h' => Ext h h' ∧ u = .bool (decide (PartP e lv)) := by
  intro k R hk
  have hb : ∀ (a b c w : AV) (hh : H) (kk : K β), qBox 0 (.agg [a, b, c, w]) hh (.mk kk) = kk (.ptr hh.n 0) (hh.push (.own 0 [a, b, c, w])) := fun a b c w hh kk => q_fBox_agg 0 _ hh kk
  have ln : ∀ kk : VK β, qLenL w (.mk kk) = kk (.int .i64 (e.kids.length : Int)) := fun kk => by rw [hx.len, ints_len]
  have q : PartP e lv ↔ (e.num = 0) ∧ Plain e 0 0 0 := by
    unfold PartP; simp [of_eq_true c7]
  unfold Plain at q
  rw [TC.c202]; unfold f202 exCells
  by_cases d0 : e.bind = 0
  · by_cases d1 : (e.kids.length : Int) = 0
    · by_cases d2 : e.num = 0
      · simp (disch := first | omega | (simp only [disM] <;> omega) | assumption) only [↓run, ↓runM, run, runM, Nat.reduceAdd, Nat.reduceMul, Int.reduceToNat, ↓f202_J7, hb, ln, c0, c1, c2, c3, c4, c5, c6, c7, T.w30, eq_true d0, eq_true d1, eq_true d2]
        refine hk _ _ ⟨(Ext.refl h).push _, congrArg AV.bool ?_⟩
        first | (refine (decide_eq_true (q.2 ?_)).symm; omega) | (refine (decide_eq_false (fun hh => ?_)).symm; have := q.1 hh; omega) | (refine decide_eq_decide.2 (Iff.trans ?_ q.symm); omega)
      · simp (disch := first | omega | (simp only [disM] <;> omega) | assumption) only [↓run, ↓runM, run, runM, Nat.reduceAdd, Nat.reduceMul, Int.reduceToNat, ↓f202_J7, hb, ln, c0, c1, c2, c3, c4, c5, c6, c7, T.w30, eq_true d0, eq_true d1, eq_false d2]
        refine hk _ _ ⟨(Ext.refl h).push _, congrArg AV.bool ?_⟩
        first | (refine (decide_eq_true (q.2 ?_)).symm; omega) | (refine (decide_eq_false (fun hh => ?_)).symm; have := q.1 hh; omega) | (refine decide_eq_decide.2 (Iff.trans ?_ q.symm); omega)
    · by_cases d2 : e.num = 0
      · simp (disch := first | omega | (simp only [disM] <;> omega) | assumption) only [↓run, ↓runM, run, runM, Nat.reduceAdd, Nat.reduceMul, Int.reduceToNat, ↓f202_J7, hb, ln, c0, c1, c2, c3, c4, c5, c6, c7, T.w30, eq_true d0, eq_false d1, eq_true d2]
        refine hk _ _ ⟨(Ext.refl h).push _, congrArg AV.bool ?_⟩
        first | (refine (decide_eq_true (q.2 ?_)).symm; omega) | (refine (decide_eq_false (fun hh => ?_)).symm; have := q.1 hh; omega) | (refine decide_eq_decide.2 (Iff.trans ?_ q.symm); omega)
      · simp (disch := first | omega | (simp only [disM] <;> omega) | assumption) only [↓run, ↓runM, run, runM, Nat.reduceAdd, Nat.reduceMul, Int.reduceToNat, ↓f202_J7, hb, ln, c0, c1, c2, c3, c4, c5, c6, c7, T.w30, eq_true d0, eq_false d1, eq_false d2]
        refine hk _ _ ⟨(Ext.refl h).push _, congrArg AV.bool ?_⟩
        first | (refine (decide_eq_true (q.2 ?_)).symm; omega) | (refine (decide_eq_false (fun hh => ?_)).symm; have := q.1 hh; omega) | (refine decide_eq_decide.2 (Iff.trans ?_ q.symm); omega)
  · by_cases d1 : (e.kids.length : Int) = 0
    · by_cases d2 : e.num = 0
      · simp (disch := first | omega | (simp only [disM] <;> omega) | assumption) only [↓run, ↓runM, run, runM, Nat.reduceAdd, Nat.reduceMul, Int.reduceToNat, ↓f202_J7, hb, ln, c0, c1, c2, c3, c4, c5, c6, c7, T.w30, eq_false d0, eq_true d1, eq_true d2]
        refine hk _ _ ⟨(Ext.refl h).push _, congrArg AV.bool ?_⟩
        first | (refine (decide_eq_true (q.2 ?_)).symm; omega) | (refine (decide_eq_false (fun hh => ?_)).symm; have := q.1 hh; omega) | (refine decide_eq_decide.2 (Iff.trans ?_ q.symm); omega)
      · simp (disch := first | omega | (simp only [disM] <;> omega) | assumption) only [↓run, ↓runM, run, runM, Nat.reduceAdd, Nat.reduceMul, Int.reduceToNat, ↓f202_J7, hb, ln, c0, c1, c2, c3, c4, c5, c6, c7, T.w30, eq_false d0, eq_true d1, eq_false d2]
        refine hk _ _ ⟨(Ext.refl h).push _, congrArg AV.bool ?_⟩
        first | (refine (decide_eq_true (q.2 ?_)).symm; omega) | (refine (decide_eq_false (fun hh => ?_)).symm; have := q.1 hh; omega) | (refine decide_eq_decide.2 (Iff.trans ?_ q.symm); omega)
    · by_cases d2 : e.num = 0
      · simp (disch := first | omega | (simp only [disM] <;> omega) | assumption) only [↓run, ↓runM, run, runM, Nat.reduceAdd, Nat.reduceMul, Int.reduceToNat, ↓f202_J7, hb, ln, c0, c1, c2, c3, c4, c5, c6, c7, T.w30, eq_false d0, eq_false d1, eq_true d2]
        refine hk _ _ ⟨(Ext.refl h).push _, congrArg AV.bool ?_⟩
        first | (refine (decide_eq_true (q.2 ?_)).symm; omega) | (refine (decide_eq_false (fun hh => ?_)).symm; have := q.1 hh; omega) | (refine decide_eq_decide.2 (Iff.trans ?_ q.symm); omega)
      · simp (disch := first | omega | (simp only [disM] <;> omega) | assumption) only [↓run, ↓runM, run, runM, Nat.reduceAdd, Nat.reduceMul, Int.reduceToNat, ↓f202_J7, hb, ln, c0, c1, c2, c3, c4, c5, c6, c7, T.w30, eq_false d0, eq_false d1, eq_false d2]
        refine hk _ _ ⟨(Ext.refl h).push _, congrArg AV.bool ?_⟩
        first | (refine (decide_eq_true (q.2 ?_)).symm; omega) | (refine (decide_eq_false (fun hh => ?_)).symm; have := q.1 hh; omega) | (refine decide_eq_decide.2 (Iff.trans ?_ q.symm); omega)
theorem GC.w202_8 (TC : GC t) (T : GA t) (n : Nat) {h : H} {w : AV} {e : Ex} (hx : SlAt h w (ints e.kids)) (lv : Int) (hlv : -1 ≤ lv ∧ lv ≤ 100) (c0 : (e.kind = 0) = False) (c1 : (e.kind = 1) = False) (c2 : (e.kind = 2) = False) (c3 : (e.kind = 3) = False) (c4 : (e.kind = 4) = False) (c5 : (e.kind = 5) = False) (c6 : (e.kind = 6) = False) (c7 : (e.kind = 7) = False) :
    Sp (β := β) (fRunS t stdI (n + 3) (.fn 202 []) [.agg (exCells e w), .int .i64 lv] h) fun u h' => Ext h h' ∧ u = .bool (decide (PartP e lv)) := by
  intro k R hk
  have hb : ∀ (a b c w : AV) (hh : H) (kk : K β), qBox 0 (.agg [a, b, c, w]) hh (.mk kk) = kk (.ptr hh.n 0) (hh.push (.own 0 [a, b, c, w])) := fun a b c w hh kk => q_fBox_agg 0 _ hh kk
  have ln : ∀ kk : VK β, qLenL w (.mk kk) = kk (.int .i64 (e.kids.length : Int)) := fun kk => by rw [hx.len, ints_len]
  have q : PartP e lv ↔ False := by
    unfold PartP; simp only [c0, c1, c2, c3, c4, c5, c6, c7, false_and, or_false]
  rw [TC.c202]; unfold f202 exCells
  by_cases d0 : e.bind = 0
  · simp (disch := first | omega | (simp only [disM] <;> omega) | assumption) only [↓run, ↓runM, run, runM, Nat.reduceAdd, Nat.reduceMul, Int.reduceToNat, ↓f202_J7, hb, ln, c0, c1, c2, c3, c4, c5, c6, c7, T.w30, eq_true d0]
    exact hk _ _ ⟨(Ext.refl h).push _, congrArg AV.bool (decide_eq_false q.1).symm⟩
  · simp (disch := first | omega | (simp only [disM] <;> omega) | assumption) only [↓run, ↓runM, run, runM, Nat.reduceAdd, Nat.reduceMul, Int.reduceToNat, ↓f202_J7, hb, ln, c0, c1, c2, c3, c4, c5, c6, c7, T.w30, eq_false d0]
    exact hk _ _ ⟨(Ext.refl h).push _, congrArg AV.bool (decide_eq_false q.1).symm⟩
theorem GC.w202 (TC : GC t) (T : GA t) (n : Nat) {h : H} {w : AV} {e : Ex} (hx : SlAt h w (ints e.kids)) (lv : Int) (hlv : -1 ≤ lv ∧ lv ≤ 100) :
    Sp (β := β) (fRunS t stdI (n + 3) (.fn 202 []) [.agg (exCells e w), .int .i64 lv] h) fun u h' => Ext h h' ∧ u = .bool (decide (PartP e lv)) := by
  by_cases c0 : e.kind = 0
  · exact TC.w202_0 T n hx lv hlv  (eq_true c0)
  by_cases c1 : e.kind = 1
  · exact TC.w202_1 T n hx lv hlv (eq_false c0) (eq_true c1)
  by_cases c2 : e.kind = 2
  · exact TC.w202_2 T n hx lv hlv (eq_false c0) (eq_false c1) (eq_true c2)
  by_cases c3 : e.kind = 3
  · exact TC.w202_3 T n hx lv hlv (eq_false c0) (eq_false c1) (eq_false c2) (eq_true c3)
  by_cases c4 : e.kind = 4
  · exact TC.w202_4 T n hx lv hlv (eq_false c0) (eq_false c1) (eq_false c2) (eq_false c3) (eq_true c4)
  by_cases c5 : e.kind = 5
  · exact TC.w202_5 T n hx lv hlv (eq_false c0) (eq_false c1) (eq_false c2) (eq_false c3) (eq_false c4) (eq_true c5)
  by_cases c6 : e.kind = 6
  · exact TC.w202_6 T n hx lv hlv (eq_false c0) (eq_false c1) (eq_false c2) (eq_false c3) (eq_false c4) (eq_false c5) (eq_true c6)
  by_cases c7 : e.kind = 7
  · exact TC.w202_7 T n hx lv hlv (eq_false c0) (eq_false c1) (eq_false c2) (eq_false c3) (eq_false c4) (eq_false c5) (eq_false c6) (eq_true c7)
  exact TC.w202_8 T n hx lv hlv (eq_false c0) (eq_false c1) (eq_false c2) (eq_false c3) (eq_false c4) (eq_false c5) (eq_false c6) (eq_false c7)
end
end Am.F
