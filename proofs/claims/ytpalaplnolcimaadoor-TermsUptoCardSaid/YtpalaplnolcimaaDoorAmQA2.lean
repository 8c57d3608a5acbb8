/- Walks: the rest of package term. -/
import Derived.Test.YtpalaplnolcimaaDoorAmQA
set_option linter.unusedSimpArgs false
set_option linter.unusedVariables false
namespace Am.F
open Go Am

/-! ### Plain words -/
def termP (s : List UInt8) : Option Tm := if s.length ≤ 1024 then (match cutP (s.length + 1) s with
  | some t => if t.rest = [] then some t else none
  | none => none) else none
def mayP (s : List UInt8) : Bool := (termP s).isSome
def conP (x : Int) (kids : List (List UInt8)) : List UInt8 := [64] ++ Lib.itoa x ++ (if 0 < kids.length then [40] ++ Lib.join kids [32] ++ [41] else [])
def outP (kind num : Int) (kids : List (List UInt8)) : List UInt8 :=
  if kind = 2 ∧ (0 ≤ num ∧ num ≤ 99) ∧ kids.length ≤ 3 ∧ kids.all mayP = true then conP num kids
  else if 0 < kids.length then []
  else if kind = 0 ∧ num = 0 then [95]
  else if kind = 3 ∧ num = 0 then [33]
  else if kind = 1 ∧ (-32768 ≤ num ∧ num ≤ 32767) then Lib.itoa num
  else []

theorem decDigits_len : ∀ (k u : Nat), u < 10 ^ (k + 1) → (Lib.decDigits u).length ≤ k + 1
  | 0, u, h => by rw [Lib.decDigits, dif_pos (by simpa using h)]; simp
  | k + 1, u, h => by
    rw [Lib.decDigits]
    split
    · simp
    · rw [List.length_append]
      have := decDigits_len k (u / 10) (by rw [Nat.pow_succ] at h; omega)
      simp only [List.length_cons, List.length_nil]; omega
theorem itoa_len {x : Int} (h0 : -9223372036854775808 ≤ x) (h1 : x ≤ 9223372036854775807) : (Lib.itoa x).length ≤ 20 := by
  unfold Lib.itoa
  split
  · have := decDigits_len 18 x.natAbs (by omega)
    simp only [List.length_cons]; omega
  · have := decDigits_len 18 x.toNat (by omega)
    omega
theorem joinTail_le (m : Nat) : ∀ xs : List (List UInt8), (∀ x ∈ xs, x.length ≤ m) → (Lib.joinTail [32] xs).length ≤ xs.length * (m + 1)
  | [], _ => by simp [Lib.joinTail]
  | x :: xs, h => by
    have h1 := joinTail_le m xs fun y hy => h y (List.mem_cons_of_mem _ hy)
    have h2 := h x (List.mem_cons_self ..)
    have h3 : Lib.joinTail [32] (x :: xs) = [32] ++ x ++ Lib.joinTail [32] xs := by simp [Lib.joinTail]
    rw [h3]
    simp only [List.length_append, List.length_cons, List.length_nil, Nat.add_mul, Nat.one_mul] at h1 ⊢; omega
theorem join_len {xs : List (List UInt8)} {m : Nat} (hx : ∀ x ∈ xs, x.length ≤ m) : (Lib.join xs [32]).length ≤ xs.length * (m + 1) := by
  cases xs with
  | nil => simp [Lib.join]
  | cons x xs =>
    rw [Lib.join_cons, List.length_append]
    have h1 := hx x (List.mem_cons_self ..)
    have h2 := joinTail_le m xs fun y hy => hx y (List.mem_cons_of_mem _ hy)
    simp only [List.length_cons, Nat.add_mul, Nat.one_mul] at h2 ⊢; omega
theorem mayP_len {s : List UInt8} (h : mayP s = true) : s.length ≤ 1024 := by
  unfold mayP termP at h
  split at h
  · assumption
  · cases h

/-! ### Walks -/
section
variable {β : Type} {t : ETree}

theorem GA.w17 (T : GA t) (L : GI t) (n : Nat) (hn : 1040 ≤ n) (s : List UInt8) (h : H) : Sp (β := β) (fRunS t stdI n (.fn 17 []) [.str s] h) fun v h' => Ext h h' ∧ v = .bool (mayP s) := by
  intro k R hk
  obtain ⟨m, rfl⟩ : ∃ m, n = m + 1 := ⟨n - 1, by omega⟩
  rw [T.c17]
  unfold f17_term_May
  unfold mayP termP at hk
  by_cases c1 : s.length ≤ 1024
  · rw [if_pos c1] at hk
    simp (disch := (first | omega | (simp only [disM] <;> omega) | assumption)) only [↓run, ↓runM, run, runM, Nat.reduceAdd, Nat.reduceMul, Int.reduceToNat, ↓f17_J0]
    refine T.w24 L (s.length + 1) _ s h (by omega) (by omega) (by omega) _ _ ?_
    intro v h' ⟨e1, e2⟩
    cases hc : cutP (s.length + 1) s with
    | none =>
      rw [hc] at e2 hk
      obtain ⟨a, b, c, d, rfl⟩ := e2
      simp (disch := (first | omega | (simp only [disM] <;> omega) | assumption)) only [↓run, ↓runM, run, runM, Nat.reduceAdd, Nat.reduceMul, Int.reduceToNat, ↓f17_J0]
      exact hk _ _ ⟨e1, rfl⟩
    | some u =>
      rw [hc] at e2 hk
      obtain ⟨c, rfl, e3⟩ := e2
      by_cases c2 : u.rest = []
      · simp (disch := (first | omega | (simp only [disM] <;> omega) | assumption)) only [↓run, ↓runM, run, runM, Nat.reduceAdd, Nat.reduceMul, Int.reduceToNat, ↓f17_J0, c2]
        exact hk _ _ ⟨e1, by simp [c2]⟩
      · simp (disch := (first | omega | (simp only [disM] <;> omega) | assumption)) only [↓run, ↓runM, run, runM, Nat.reduceAdd, Nat.reduceMul, Int.reduceToNat, ↓f17_J0, c2]
        exact hk _ _ ⟨e1, by simp [c2]⟩
  · rw [if_neg c1] at hk
    simp (disch := (first | omega | (simp only [disM] <;> omega) | assumption)) only [↓run, ↓runM, run, runM, Nat.reduceAdd, Nat.reduceMul, Int.reduceToNat, ↓f17_J0]
    exact hk _ _ ⟨Ext.refl _, rfl⟩

theorem GA.w26 (T : GA t) (L : GI t) (n : Nat) (xs : List (List UInt8)) (v : AV) (h : H) (hs : SlAt h v (strs xs)) (hn : xs.length + 1041 ≤ n) (hl : xs.length < 9223372036854775807) :
    Sp (β := β) (fRunS t stdI n (.fn 26 []) [v] h) fun u h' => Ext h h' ∧ u = .bool (xs.all mayP) := by
  intro k R hk
  obtain ⟨m, rfl⟩ : ∃ m, n = m + 1 := ⟨n - 1, by omega⟩
  rw [T.c26]
  unfold f26_term_All
  simp (disch := (first | omega | (simp only [disM] <;> omega) | assumption)) only [↓run, ↓runM, run, runM, Nat.reduceAdd, Nat.reduceMul, Int.reduceToNat, ↓f26_J0, ↓f26_J5, ↓f26_J4, ↓f26_L2, hs.len]
  refine qLoop_wp 7 _ _ _ (fun i x0 x1 x2 x3 x4 x5 x6 h' => Ext h h' ∧ ∃ j : Nat, x3 = v ∧ x4 = .int .i64 (xs.length : Int) ∧ x5 = .int .i64 (j : Int) ∧ j + i = xs.length ∧ xs.all mayP = (xs.drop j).all mayP) xs.length (by omega) ?_ _ _ _ _ _ _ _ _
    ⟨Ext.refl _, 0, rfl, rfl, rfl, by omega, rfl⟩
  intro l i ih x0 x1 x2 x3 x4 x5 x6 h' ⟨e1, j, q3, q4, q5, e2, e3⟩
  subst q3 q4 q5
  have hs' := hs.ext e1
  cases i with
  | zero =>
    simp (disch := (first | omega | (simp only [disM] <;> omega) | assumption)) only [↓run, ↓runM, run, runM, Nat.reduceAdd, Nat.reduceMul, Int.reduceToNat, ↓f26_J0, ↓f26_J5, ↓f26_J4, ↓f26_L2]
    exact hk _ _ ⟨e1, by rw [e3, List.drop_eq_nil_of_le (by omega)]; rfl⟩
  | succ i =>
    have hj : j < xs.length := by omega
    have hd : xs.drop j = xs.getD j [] :: xs.drop (j + 1) := by rw [List.drop_eq_getElem_cons hj]; simp [List.getD_eq_getElem?_getD, hj]
    rw [hd, List.all_cons] at e3
    simp (disch := (first | omega | (simp only [disM] <;> omega) | assumption)) only [↓run, ↓runM, run, runM, Nat.reduceAdd, Nat.reduceMul, Int.reduceToNat, ↓f26_J0, ↓f26_J5, ↓f26_J4, ↓f26_L2, hs'.loadS]
    refine T.w17 L m (by omega) _ h' _ _ ?_
    intro u h2 ⟨e4, e5⟩
    subst e5
    cases c1 : mayP (xs.getD j [])
    · rw [c1, Bool.false_and] at e3
      simp (disch := (first | omega | (simp only [disM] <;> omega) | assumption)) only [↓run, ↓runM, run, runM, Nat.reduceAdd, Nat.reduceMul, Int.reduceToNat, ↓f26_J0, ↓f26_J5, ↓f26_J4, ↓f26_L2, c1]
      exact hk _ _ ⟨e1.trans e4, by rw [e3]⟩
    · rw [c1, Bool.true_and] at e3
      simp (disch := (first | omega | (simp only [disM] <;> omega) | assumption)) only [↓run, ↓runM, run, runM, Nat.reduceAdd, Nat.reduceMul, Int.reduceToNat, ↓f26_J0, ↓f26_J5, ↓f26_J4, ↓f26_L2, c1]
      exact ih i (by omega) _ _ _ _ _ _ _ _ ⟨e1.trans e4, j + 1, rfl, rfl, rfl, by omega, e3⟩

theorem GA.w11 (T : GA t) (L : GI t) (n : Nat) (hn : 1041 ≤ n) (s : List UInt8) (h : H) : Sp (β := β) (fRunS t stdI n (.fn 11 []) [.str s] h) fun v h' => Ext h h' ∧
    match termP s with
    | some u => ∃ c, v = .tup [.int .i64 u.kind, .int .i64 u.num, c, .int .i64 0] ∧ OwnAt h' h.n h'.n 1 c (strs u.kids)
    | none => v = .tup [.int .i64 0, .int .i64 0, .nils, .int .i64 200] := by
  intro k R hk
  obtain ⟨m, rfl⟩ : ∃ m, n = m + 1 := ⟨n - 1, by omega⟩
  rw [T.c11]
  unfold f11_term_Cut
  simp (disch := (first | omega | (simp only [disM] <;> omega) | assumption)) only [↓run, ↓runM, run, runM, Nat.reduceAdd, Nat.reduceMul, Int.reduceToNat, ↓f11_J0]
  refine T.w17 L m (by omega) s h _ _ ?_
  intro u h1 ⟨e1, e2⟩
  subst e2
  unfold mayP
  cases ht : termP s with
  | none =>
    rw [ht] at hk
    simp (disch := (first | omega | (simp only [disM] <;> omega) | assumption)) only [↓run, ↓runM, run, runM, Nat.reduceAdd, Nat.reduceMul, Int.reduceToNat, ↓f11_J0, Option.isSome_none]
    exact hk _ _ ⟨e1, rfl⟩
  | some u =>
    rw [ht] at hk
    have hx : s.length ≤ 1024 := mayP_len (by unfold mayP; rw [ht]; rfl)
    simp (disch := (first | omega | (simp only [disM] <;> omega) | assumption)) only [↓run, ↓runM, run, runM, Nat.reduceAdd, Nat.reduceMul, Int.reduceToNat, ↓f11_J0, Option.isSome_some]
    refine T.w24 L (s.length + 1) _ s h1 (by omega) (by omega) (by omega) _ _ ?_
    intro v h2 ⟨e3, e4⟩
    unfold termP at ht
    rw [if_pos hx] at ht
    cases hc : cutP (s.length + 1) s with
    | none => rw [hc] at ht; cases ht
    | some u' =>
      rw [hc] at ht e4
      simp only at ht
      split at ht
      · cases ht
        obtain ⟨c, rfl, e5⟩ := e4
        simp (disch := (first | omega | (simp only [disM] <;> omega) | assumption)) only [↓run, ↓runM, run, runM, Nat.reduceAdd, Nat.reduceMul, Int.reduceToNat, ↓f11_J0]
        exact hk _ _ ⟨e1.trans e3, c, rfl, e5.mono e1.n (Nat.le_refl _) fun _ _ _ => rfl⟩
      · cases ht

theorem GA.w27 (T : GA t) (L : GI t) (n : Nat) (x : Int) (kids : List (List UInt8)) (v : AV) (h : H) (hs : SlAt h v (strs kids)) (h0 : -9223372036854775808 ≤ x) (h1 : x ≤ 9223372036854775807) (h2 : kids.length ≤ 140737488355328) (h3 : (Lib.join kids [32]).length ≤ 140737488355328) (k : K β) :
    qCall (fRunS t stdI (n + 2)) (.fn 27 []) [.int .i64 x, v] h (.mk k) = k (.str (conP x kids)) h := by
  rw [T.q27]
  unfold f27_term_Con conP
  have hi := itoa_len h0 h1
  by_cases c1 : 0 < kids.length
  · rw [if_pos c1]
    simp (disch := (first | omega | (simp only [disM] <;> omega) | assumption)) only [↓run, ↓runM, run, runM, Nat.reduceAdd, Nat.reduceMul, Int.reduceToNat, ↓f27_J2, L.w29, hs.len, L.w42 n hs]
  · rw [if_neg c1, List.append_nil]
    simp (disch := (first | omega | (simp only [disM] <;> omega) | assumption)) only [↓run, ↓runM, run, runM, Nat.reduceAdd, Nat.reduceMul, Int.reduceToNat, ↓f27_J2, L.w29, hs.len]

theorem GA.w13 (T : GA t) (L : GI t) (n : Nat) (kind num : Int) (kids : List (List UInt8)) (v : AV) (h : H) (hs : SlAt h v (strs kids)) (hn : kids.length + 1042 ≤ n) (hl : kids.length < 9223372036854775807) :
    Sp (β := β) (fRunS t stdI n (.fn 13 []) [.int .i64 kind, .int .i64 num, v] h) fun u h' => Ext h h' ∧ u = if mayP (outP kind num kids) = true then .tup [.str (outP kind num kids), .int .i64 0] else .tup [.str [], .int .i64 200] := by
  intro k R hk
  obtain ⟨m, rfl⟩ : ∃ m, n = m + 3 := ⟨n - 3, by omega⟩
  have hfin : ∀ h1, Ext h h1 → (qCall (fRunS t stdI (m + 2)) (.fn 17 []) [.str (outP kind num kids)] h1 <| .mk fun v2 h => qNot v2 <| .mk fun v3 => qIf v3 (.mk (k (.tup [.str [], .int .i64 200]) h)) <| .mk (k (.tup [.str (outP kind num kids), .int .i64 0]) h)) = R := by
    intro h1 e1
    refine T.w17 L (m + 2) (by omega) _ h1 _ _ ?_
    intro u h2 ⟨e2, e3⟩
    subst e3
    cases c1 : mayP (outP kind num kids)
    · rw [c1] at hk
      simp (disch := (first | omega | (simp only [disM] <;> omega) | assumption)) only [↓run, ↓runM, run, runM, Nat.reduceAdd, Nat.reduceMul, Int.reduceToNat, ↓f13_J1, ↓f13_J0]
      exact hk _ _ ⟨e1.trans e2, rfl⟩
    · rw [c1] at hk
      simp (disch := (first | omega | (simp only [disM] <;> omega) | assumption)) only [↓run, ↓runM, run, runM, Nat.reduceAdd, Nat.reduceMul, Int.reduceToNat, ↓f13_J1, ↓f13_J0]
      exact hk _ _ ⟨e1.trans e2, rfl⟩
  unfold outP at hfin
  have hrest : ∀ h1, Ext h h1 → SlAt h1 v (strs kids) → True := fun _ _ _ => trivial
  by_cases c1 : kind = 2
  · by_cases c2 : 0 ≤ num ∧ num ≤ 99
    · by_cases c3 : kids.length ≤ 3
      · cases c4 : kids.all mayP
        · rw [if_neg (fun q => by rw [c4] at q; exact Bool.false_ne_true q.2.2.2)] at hfin
          by_cases c5 : 0 < kids.length
          · rw [if_pos c5] at hfin
            rw [T.c13]; unfold f13_term_Make
            simp (disch := (first | omega | (simp only [disM] <;> omega) | assumption)) only [↓run, ↓runM, run, runM, Nat.reduceAdd, Nat.reduceMul, Int.reduceToNat, ↓f13_J1, ↓f13_J0, hs.len]
            refine T.w26 L (m + 2) kids v h hs (by omega) hl _ _ ?_
            intro u h1 ⟨e1, e2⟩
            subst e2
            simp (disch := (first | omega | (simp only [disM] <;> omega) | assumption)) only [↓run, ↓runM, run, runM, Nat.reduceAdd, Nat.reduceMul, Int.reduceToNat, ↓f13_J1, ↓f13_J0, hs.len, c4]
            exact hfin h1 e1
          · have : kids = [] := List.eq_nil_of_length_eq_zero (by omega)
            subst this
            cases c4
        · rw [if_pos ⟨c1, c2, c3, c4⟩] at hfin
          have hj : (Lib.join kids [32]).length ≤ 3 * 1025 := Nat.le_trans (join_len (m := 1024) fun x hx => mayP_len (List.all_eq_true.1 c4 x hx)) (Nat.mul_le_mul c3 (Nat.le_refl _))
          rw [T.c13]; unfold f13_term_Make
          simp (disch := (first | omega | (simp only [disM] <;> omega) | assumption)) only [↓run, ↓runM, run, runM, Nat.reduceAdd, Nat.reduceMul, Int.reduceToNat, ↓f13_J1, ↓f13_J0, hs.len]
          refine T.w26 L (m + 2) kids v h hs (by omega) hl _ _ ?_
          intro u h1 ⟨e1, e2⟩
          subst e2
          simp (disch := (first | omega | (simp only [disM] <;> omega) | assumption)) only [↓run, ↓runM, run, runM, Nat.reduceAdd, Nat.reduceMul, Int.reduceToNat, ↓f13_J1, ↓f13_J0, T.w27 L _ num kids v h1 (hs.ext e1), c4]
          exact hfin h1 e1
      · rw [if_neg (fun q => c3 q.2.2.1), if_pos (by omega)] at hfin
        rw [T.c13]; unfold f13_term_Make
        simp (disch := (first | omega | (simp only [disM] <;> omega) | assumption)) only [↓run, ↓runM, run, runM, Nat.reduceAdd, Nat.reduceMul, Int.reduceToNat, ↓f13_J1, ↓f13_J0, hs.len]
        exact hfin h (Ext.refl _)
    · rw [if_neg (fun q => c2 q.2.1)] at hfin
      by_cases c5 : 0 < kids.length
      · rw [if_pos c5] at hfin
        by_cases c6 : 0 ≤ num
        · rw [T.c13]; unfold f13_term_Make
          simp (disch := (first | omega | (simp only [disM] <;> omega) | assumption)) only [↓run, ↓runM, run, runM, Nat.reduceAdd, Nat.reduceMul, Int.reduceToNat, ↓f13_J1, ↓f13_J0, hs.len]
          exact hfin h (Ext.refl _)
        · rw [T.c13]; unfold f13_term_Make
          simp (disch := (first | omega | (simp only [disM] <;> omega) | assumption)) only [↓run, ↓runM, run, runM, Nat.reduceAdd, Nat.reduceMul, Int.reduceToNat, ↓f13_J1, ↓f13_J0, hs.len]
          exact hfin h (Ext.refl _)
      · rw [if_neg c5, if_neg (by omega), if_neg (by omega), if_neg (by omega)] at hfin
        by_cases c6 : 0 ≤ num
        · rw [T.c13]; unfold f13_term_Make
          simp (disch := (first | omega | (simp only [disM] <;> omega) | assumption)) only [↓run, ↓runM, run, runM, Nat.reduceAdd, Nat.reduceMul, Int.reduceToNat, ↓f13_J1, ↓f13_J0, hs.len]
          exact hfin h (Ext.refl _)
        · rw [T.c13]; unfold f13_term_Make
          simp (disch := (first | omega | (simp only [disM] <;> omega) | assumption)) only [↓run, ↓runM, run, runM, Nat.reduceAdd, Nat.reduceMul, Int.reduceToNat, ↓f13_J1, ↓f13_J0, hs.len]
          exact hfin h (Ext.refl _)
  · rw [if_neg (fun q => c1 q.1)] at hfin
    by_cases c5 : 0 < kids.length
    · rw [if_pos c5] at hfin
      rw [T.c13]; unfold f13_term_Make
      simp (disch := (first | omega | (simp only [disM] <;> omega) | assumption)) only [↓run, ↓runM, run, runM, Nat.reduceAdd, Nat.reduceMul, Int.reduceToNat, ↓f13_J1, ↓f13_J0, hs.len]
      exact hfin h (Ext.refl _)
    · rw [if_neg c5] at hfin
      by_cases c6 : kind = 0
      · by_cases c7 : num = 0
        · rw [if_pos ⟨c6, c7⟩] at hfin
          rw [T.c13]; unfold f13_term_Make
          simp (disch := (first | omega | (simp only [disM] <;> omega) | assumption)) only [↓run, ↓runM, run, runM, Nat.reduceAdd, Nat.reduceMul, Int.reduceToNat, ↓f13_J1, ↓f13_J0, hs.len]
          exact hfin h (Ext.refl _)
        · rw [if_neg (by omega), if_neg (by omega), if_neg (by omega)] at hfin
          rw [T.c13]; unfold f13_term_Make
          simp (disch := (first | omega | (simp only [disM] <;> omega) | assumption)) only [↓run, ↓runM, run, runM, Nat.reduceAdd, Nat.reduceMul, Int.reduceToNat, ↓f13_J1, ↓f13_J0, hs.len]
          exact hfin h (Ext.refl _)
      · rw [if_neg (by omega)] at hfin
        by_cases c8 : kind = 3
        · by_cases c7 : num = 0
          · rw [if_pos ⟨c8, c7⟩] at hfin
            rw [T.c13]; unfold f13_term_Make
            simp (disch := (first | omega | (simp only [disM] <;> omega) | assumption)) only [↓run, ↓runM, run, runM, Nat.reduceAdd, Nat.reduceMul, Int.reduceToNat, ↓f13_J1, ↓f13_J0, hs.len]
            exact hfin h (Ext.refl _)
          · rw [if_neg (by omega), if_neg (by omega)] at hfin
            rw [T.c13]; unfold f13_term_Make
            simp (disch := (first | omega | (simp only [disM] <;> omega) | assumption)) only [↓run, ↓runM, run, runM, Nat.reduceAdd, Nat.reduceMul, Int.reduceToNat, ↓f13_J1, ↓f13_J0, hs.len]
            exact hfin h (Ext.refl _)
        · rw [if_neg (by omega)] at hfin
          by_cases c9 : kind = 1
          · by_cases c10 : -32768 ≤ num ∧ num ≤ 32767
            · rw [if_pos ⟨c9, c10⟩] at hfin
              rw [T.c13]; unfold f13_term_Make
              simp (disch := (first | omega | (simp only [disM] <;> omega) | assumption)) only [↓run, ↓runM, run, runM, Nat.reduceAdd, Nat.reduceMul, Int.reduceToNat, ↓f13_J1, ↓f13_J0, hs.len, T.w28, L.w29, c10]
              exact hfin h (Ext.refl _)
            · rw [if_neg (by omega)] at hfin
              rw [T.c13]; unfold f13_term_Make
              simp (disch := (first | omega | (simp only [disM] <;> omega) | assumption)) only [↓run, ↓runM, run, runM, Nat.reduceAdd, Nat.reduceMul, Int.reduceToNat, ↓f13_J1, ↓f13_J0, hs.len, T.w28, L.w29, c10]
              exact hfin h (Ext.refl _)
          · rw [if_neg (by omega)] at hfin
            rw [T.c13]; unfold f13_term_Make
            simp (disch := (first | omega | (simp only [disM] <;> omega) | assumption)) only [↓run, ↓runM, run, runM, Nat.reduceAdd, Nat.reduceMul, Int.reduceToNat, ↓f13_J1, ↓f13_J0, hs.len]
            exact hfin h (Ext.refl _)
end
end Am.F
