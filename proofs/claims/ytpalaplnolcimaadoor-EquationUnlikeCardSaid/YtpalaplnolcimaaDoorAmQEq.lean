/- Plain law: two nodes that may be and are told by one text are alike. -/
import Derived.Test.YtpalaplnolcimaaDoorAmQB2
set_option linter.unusedVariables false
namespace Am.F
open Go Am

theorem mayP_ne61 (r : List UInt8) : mayP (61 :: r) = false := by
  rw [Bool.eq_false_iff]
  intro h
  obtain ⟨u, hu⟩ := (mayP_iff _).1 h
  have := outT_kids hu
  unfold outT at this
  split at this
  · cases this
  · split at this
    · cases this
    · split at this
      · obtain ⟨b, r', h1, h2⟩ := itoa_head u.num
        rw [h1] at this
        have h3 := (List.cons.inj this).1
        subst h3
        rcases h2 with h2 | h2
        · cases h2
        · exact absurd h2 (by unfold isD; decide)
      · unfold conP at this
        simp at this

/-- A term ahead of a blank: where it ends is told. -/
theorem term_cut {y z r s : List UInt8} (hy : mayP y = true) (hz : mayP z = true) (hr : Okr r) (hs : Okr s) (h : y ++ r = z ++ s) : y = z ∧ r = s := by
  obtain ⟨u, hu⟩ := (mayP_iff _).1 hy
  obtain ⟨w, hw⟩ := (mayP_iff _).1 hz
  obtain ⟨_, u1, u2⟩ := tP_some hu
  obtain ⟨_, w1, w2⟩ := tP_some hw
  have gen : ∀ (y : List UInt8) (u : Tm) (r : List UInt8) (f : Nat), tL (y.length + 1) y = some u → u.rest = [] → Okr r → y.length < f → tL f (y ++ r) = some ⟨u.kind, u.num, u.kids, r⟩ := by
    intro y u r f h1 h2 h3 h4
    rw [tL_fuel (y.length + 1) f y (by omega) h4] at h1
    refine tL_rest f y u.kind u.num u.kids [] r ?_ h3
    rw [List.append_nil, h1]
    cases u; simp only at h2; rw [h2]
  have a1 := gen y u r ((y ++ r).length + (z ++ s).length + 1) u1 u2 hr (by simp only [List.length_append]; omega)
  have a2 := gen z w s ((y ++ r).length + (z ++ s).length + 1) w1 w2 hs (by simp only [List.length_append]; omega)
  rw [h] at a1
  rw [← h] at a1
  rw [← h] at a2
  rw [a1] at a2
  have a3 : r = s := by
    have := Option.some.inj a2
    exact congrArg Tm.rest this
  subst a3
  exact ⟨List.append_cancel_right h, rfl⟩

def tailT (args : List (List UInt8)) (res : List UInt8) : List UInt8 := Lib.joinTail [32] args ++ [32, 61, 32] ++ res
theorem tailT_nil (res : List UInt8) : tailT [] res = 32 :: 61 :: 32 :: res := by simp [tailT, Lib.joinTail]
theorem tailT_cons (y : List UInt8) (ys : List (List UInt8)) (res : List UInt8) : tailT (y :: ys) res = 32 :: (y ++ tailT ys res) := by simp [tailT, Lib.joinTail, List.append_assoc]
theorem tailT_head (args : List (List UInt8)) (res : List UInt8) : ∃ r, tailT args res = 32 :: r := by
  cases args with
  | nil => exact ⟨_, tailT_nil res⟩
  | cons y ys => exact ⟨_, tailT_cons y ys res⟩
theorem tailT_okr (args : List (List UInt8)) (res : List UInt8) : Okr (tailT args res) := by
  obtain ⟨r, h⟩ := tailT_head args res
  exact .inr ⟨32, r, h, .inl rfl⟩
theorem tailT_inj : ∀ (xs ys : List (List UInt8)) (a b : List UInt8), (∀ z ∈ xs, mayP z = true) → (∀ z ∈ ys, mayP z = true) → tailT xs a = tailT ys b → xs = ys ∧ a = b := by
  have ne : ∀ (y : List UInt8) (r s : List UInt8), mayP y = true → y ++ r = 61 :: s → False := by
    intro y r s hy h
    cases y with
    | nil => rw [mayP_nil] at hy; cases hy
    | cons b y => rw [List.cons_append] at h; rw [(List.cons.inj h).1, mayP_ne61] at hy; cases hy
  intro xs
  induction xs with
  | nil =>
    intro ys a b _ hy h
    cases ys with
    | nil => rw [tailT_nil, tailT_nil] at h; simp only [List.cons.injEq, true_and] at h; exact ⟨rfl, h⟩
    | cons y ys =>
      rw [tailT_nil, tailT_cons] at h
      exact (ne y _ _ (hy y (by simp)) (List.cons.inj h).2.symm).elim
  | cons x xs ih =>
    intro ys a b hx hy h
    cases ys with
    | nil =>
      rw [tailT_nil, tailT_cons] at h
      exact (ne x _ _ (hx x (by simp)) (List.cons.inj h).2).elim
    | cons y ys =>
      rw [tailT_cons, tailT_cons] at h
      obtain ⟨h1, h2⟩ := term_cut (hx x (by simp)) (hy y (by simp)) (tailT_okr xs a) (tailT_okr ys b) (List.cons.inj h).2
      obtain ⟨h3, h4⟩ := ih ys a b (fun z hz => hx z (by simp [hz])) (fun z hz => hy z (by simp [hz])) h2
      exact ⟨by rw [h1, h3], h4⟩

theorem eqText_inj {a b : Nd} (ha : eqMay a = true) (hb : eqMay b = true) (h : eqText a = eqText b) : a.fn = b.fn ∧ a.args = b.args ∧ a.res = b.res := by
  obtain ⟨⟨a1, a2⟩, _, a3, _⟩ := eqMay_some ha
  obtain ⟨⟨b1, b2⟩, _, b3, _⟩ := eqMay_some hb
  rw [eqText_eq, eqText_eq] at h
  have h' : Lib.itoa a.fn ++ tailT a.args a.res = Lib.itoa b.fn ++ tailT b.args b.res := by
    have := (List.cons.inj (show 102 :: (Lib.itoa a.fn ++ tailT a.args a.res) = 102 :: (Lib.itoa b.fn ++ tailT b.args b.res) by simpa [tailT, List.append_assoc] using h)).2
    exact this
  obtain ⟨r, hr⟩ := tailT_head a.args a.res
  obtain ⟨s, hs⟩ := tailT_head b.args b.res
  have sa := w_split (w := Lib.itoa a.fn) itoa_stop (show Stp (tailT a.args a.res) by rw [hr]; exact stp_cons (by decide))
  have sb := w_split (w := Lib.itoa b.fn) itoa_stop (show Stp (tailT b.args b.res) by rw [hs]; exact stp_cons (by decide))
  rw [h'] at sa
  have e1 := sa.1.symm.trans sb.1
  have e2 := sa.2.symm.trans sb.2
  have e3 := congrArg numX e1
  rw [numX_itoa (by omega) (by omega), numX_itoa (by omega) (by omega)] at e3
  obtain ⟨e4, e5⟩ := tailT_inj _ _ _ _ (fun z hz => (a3 z hz).1) (fun z hz => (b3 z hz).1) e2
  exact ⟨e3, e4, e5⟩
end Am.F
