/- Walks: the reference's terms. -/
import Derived.Test.YtpalaplnolcimaaDoorAmQA2
set_option linter.unusedSimpArgs false
set_option linter.unusedVariables false
namespace Am.F
open Go Am

/-! ### Plain words -/
def digC (s : List UInt8) (k : Nat) : Prop := k < s.length ∧ k < 6 ∧ 48 ≤ bt s k ∧ bt s k ≤ 57 ∧ (k = 0 ∨ bt s 0 ≠ 48)
instance (s : List UInt8) (k : Nat) : Decidable (digC s k) := by unfold digC; infer_instance
def digF (s : List UInt8) : Nat → Nat → Nat → Nat × Nat
  | 0, x, k => (x, k)
  | f + 1, x, k => if digC s k then digF s f (10 * x + (bt s k - 48)) (k + 1) else (x, k)
def dig (s : List UInt8) : Nat × Nat := digF s 7 0 0

theorem digF_bd (s : List UInt8) : ∀ (f x k : Nat), k ≤ 6 → k ≤ s.length → x < 10 ^ k → (digF s f x k).2 ≤ 6 ∧ (digF s f x k).2 ≤ s.length ∧ (digF s f x k).1 < 10 ^ (digF s f x k).2
  | 0, x, k, h1, h2, h3 => ⟨h1, h2, h3⟩
  | f + 1, x, k, h1, h2, h3 => by
    unfold digF
    split
    · rename_i hc
      obtain ⟨c1, c2, c3, c4, _⟩ := hc
      exact digF_bd s f _ _ (by omega) (by omega) (by rw [Nat.pow_succ]; omega)
    · exact ⟨h1, h2, h3⟩
theorem dig_bd (s : List UInt8) : (dig s).2 ≤ 6 ∧ (dig s).2 ≤ s.length ∧ (dig s).1 < 1000000 := by
  obtain ⟨h1, h2, h3⟩ := digF_bd s 7 0 0 (by omega) (by omega) (by decide)
  refine ⟨h1, h2, Nat.lt_of_lt_of_le h3 ?_⟩
  exact Nat.pow_le_pow_right (by decide) h1

structure Ct where
  kind : Int
  num : Int
  kids : List (List UInt8)
  to : Nat

def rPart (rt : Nat → Option Ct) (s : List UInt8) (x : Int) : Nat → List (List UInt8) → Nat → Option Ct
  | 0, _, _ => none
  | m + 1, kids, i => match rt i with
    | none => none
    | some c => if s.length ≤ c.to then none
      else if bt s c.to = 41 then some ⟨2, x, kids ++ [(s.take c.to).drop i], c.to + 1⟩
      else if bt s c.to = 32 then rPart rt s x m (kids ++ [(s.take c.to).drop i]) (c.to + 1)
      else none
def rTerm (s : List UInt8) : Nat → Nat → Option Ct
  | 0, _ => none
  | f + 1, i =>
    if s.length ≤ i then none
    else if bt s i = 95 then some ⟨0, 0, [], i + 1⟩
    else if bt s i = 33 then some ⟨3, 0, [], i + 1⟩
    else if bt s i = 64 then
      (if (dig (s.drop (i + 1))).2 = 0 ∨ 99 < (dig (s.drop (i + 1))).1 then none
      else if i + 1 + (dig (s.drop (i + 1))).2 < s.length ∧ bt s (i + 1 + (dig (s.drop (i + 1))).2) = 40 then rPart (rTerm s f) s (dig (s.drop (i + 1))).1 3 [] (i + 1 + (dig (s.drop (i + 1))).2 + 1)
      else some ⟨2, (dig (s.drop (i + 1))).1, [], i + 1 + (dig (s.drop (i + 1))).2⟩)
    else if bt s i = 45 then
      (if (dig (s.drop (i + 1))).2 = 0 ∨ (dig (s.drop (i + 1))).1 = 0 ∨ 32768 < (dig (s.drop (i + 1))).1 then none
      else some ⟨1, -(dig (s.drop (i + 1))).1, [], i + 1 + (dig (s.drop (i + 1))).2⟩)
    else if (dig (s.drop i)).2 = 0 ∨ 32767 < (dig (s.drop i)).1 then none
    else some ⟨1, (dig (s.drop i)).1, [], i + (dig (s.drop i)).2⟩

/-- It goes on, and stays within the text. -/
def Fwd (s : List UInt8) (rt : Nat → Option Ct) : Prop := ∀ i c, rt i = some c → i < c.to ∧ c.to ≤ s.length
theorem rPart_fwd {s : List UInt8} {rt : Nat → Option Ct} (hr : Fwd s rt) {x : Int} : ∀ (m : Nat) {kids : List (List UInt8)} {i : Nat} {c : Ct}, rPart rt s x m kids i = some c → i < c.to ∧ c.to ≤ s.length
  | 0, kids, i, c, h => by cases h
  | m + 1, kids, i, c, h => by
    simp only [rPart] at h
    split at h
    · cases h
    · rename_i u hu
      have h1 := hr _ _ hu
      split at h
      · cases h
      split at h
      · cases h; simp only; omega
      split at h
      · have := rPart_fwd hr m h; omega
      · cases h
theorem rTerm_fwd (s : List UInt8) : ∀ f, Fwd s (rTerm s f)
  | 0, i, c, h => by cases h
  | f + 1, i, c, h => by
    have ih := rTerm_fwd s f
    have hd := dig_bd (s.drop (i + 1))
    have hd' := dig_bd (s.drop i)
    rw [List.length_drop] at hd hd'
    simp only [rTerm] at h
    split at h
    · cases h
    split at h
    · cases h; simp only; omega
    split at h
    · cases h; simp only; omega
    split at h
    · split at h
      · cases h
      split at h
      · have := rPart_fwd ih 3 h; omega
      · cases h; simp only; omega
    split at h
    · split at h
      · cases h
      · cases h; simp only; omega
    split at h
    · cases h
    · cases h; simp only; omega

def CrAt (h : H) (lo : Nat) (v : AV) : Option Ct → Prop
  | none => ∃ a b c, v = .agg [a, b, c, .int .i64 (-1)]
  | some t => ∃ c, v = .agg [.int .i64 t.kind, .int .i64 t.num, c, .int .i64 (t.to : Int)] ∧ OwnAt h lo h.n 1 c (strs t.kids)

/-! ### Walks -/
section
variable {β : Type} {t : ETree}

theorem GA.w30 (T : GA t) (n : Nat) (x a b : Int) (h : H) (k : K β) : qCall (fRunS t stdI (n + 1)) (.fn 30 []) [.int .i64 x, .int .i64 a, .int .i64 b] h (.mk k) = k (.bool (decide (a ≤ x ∧ x ≤ b))) h := by
  rw [T.q30]
  unfold f30_sleuthref1_upTo
  by_cases h1 : a ≤ x <;> simp (disch := (first | omega | (simp only [disM] <;> omega) | assumption)) only [↓run, ↓runM, run, runM, Nat.reduceAdd, Nat.reduceMul, Int.reduceToNat, h1]
theorem GA.w41 (T : GA t) (n : Nat) (x : Int) (h : H) (k : K β) : qCall (fRunS t stdI (n + 2)) (.fn 41 []) [.int .i64 x] h (.mk k) = k (.bool (decide (-32768 ≤ x ∧ x ≤ 32767))) h := by
  rw [T.q41]
  unfold f41_sleuthref1_NumMay
  simp (disch := (first | omega | (simp only [disM] <;> omega) | assumption)) only [↓run, ↓runM, run, runM, Nat.reduceAdd, Nat.reduceMul, Int.reduceToNat, T.w30]
theorem GA.w38 (T : GA t) (n : Nat) (h : H) : Sp (β := β) (fRunS t stdI (n + 1) (.fn 38 []) [] h) fun v h' => Ext h h' ∧ v = .agg [.int .i64 0, .int .i64 0, .nils, .int .i64 (-1)] := by
  intro k R hk
  rw [T.c38]
  unfold f38_sleuthref1_bad
  simp (disch := (first | omega | (simp only [disM] <;> omega) | assumption)) only [↓run, ↓runM, run, runM, Nat.reduceAdd, Nat.reduceMul, Int.reduceToNat]
  exact hk _ _ ⟨((Ext.refl h).push _).set (Nat.le_refl _) _, rfl⟩

theorem GA.w39 (T : GA t) (n : Nat) (s : List UInt8) (hs : s.length ≤ 9223372036854775807) (h : H) (k : K β) : qCall (fRunS t stdI (n + 9)) (.fn 39 []) [.str s] h (.mk k) = k (.tup [.int .i64 (dig s).1, .int .i64 (dig s).2]) h := by
  rw [T.q39]
  unfold f39_sleuthref1_digits
  simp (disch := (first | omega | (simp only [disM] <;> omega) | assumption)) only [↓run, ↓runM, run, runM, Nat.reduceAdd, Nat.reduceMul, Int.reduceToNat, ↓f39_J0, ↓f39_J2, ↓f39_L1]
  refine qLoop_wp 7 (n + 8) _ _ (fun i x0 _ _ x3 x4 _ _ h' => h' = h ∧ x0 = .str s ∧ ∃ x j : Nat, x3 = .int .i64 x ∧ x4 = .int .i64 j ∧ digF s i x j = dig s ∧ i + j = 7 ∧ x < 10 ^ j) 7 (by omega) ?_ _ _ _ _ _ _ _ _ ⟨rfl, rfl, 0, 0, rfl, rfl, rfl, rfl, by decide⟩
  intro l i ih x0 x1 x2 x3 x4 x5 x6 h' ⟨e0, e1, x, j, e2, e3, e4, e5, e6⟩
  subst e0 e1 e2 e3
  have hp : 10 ^ j ≤ 10 ^ 7 := Nat.pow_le_pow_right (by omega) (by omega)
  have hb := bt_lt s j
  have hj : j < 9223372036854775807 := by omega
  by_cases hc : digC s j
  · obtain ⟨h1, h2, h3, h4, h5⟩ := id hc
    have hw : IntKind.u8.wrap (bt s j - 48 : Int) = (bt s j - 48 : Int) := wrap_u8 (by omega) (by omega)
    obtain ⟨i, rfl⟩ : ∃ i', i = i' + 1 := ⟨i - 1, by omega⟩
    simp only [digF, if_pos hc] at e4
    have hgo := ih i (by omega) (.str s) .any .any (.int .i64 ((10 * x + (bt s j - 48) : Nat) : Int)) (.int .i64 ((j + 1 : Nat) : Int)) .any .any h' ⟨rfl, rfl, _, _, rfl, rfl, e4, by omega, by rw [Nat.pow_succ]; omega⟩
    have q1 : (10 * (x : Int) + ((bt s j : Int) - 48)) = ((10 * x + (bt s j - 48) : Nat) : Int) := by omega
    by_cases hj0 : j = 0
    · simp (disch := (first | omega | (simp only [disM] <;> omega) | assumption)) only [↓run, ↓runM, run, runM, Nat.reduceAdd, Nat.reduceMul, Int.reduceToNat, ↓f39_J0, ↓f39_J2, ↓f39_L1, q_pSub_any, hw]
      rw [q1]; exact hgo
    · simp (disch := (first | omega | (simp only [disM] <;> omega) | assumption)) only [↓run, ↓runM, run, runM, Nat.reduceAdd, Nat.reduceMul, Int.reduceToNat, ↓f39_J0, ↓f39_J2, ↓f39_L1, q_pSub_any, hw]
      rw [q1]; exact hgo
  · have e7 : dig s = (x, j) := by
      rw [← e4]; cases i with
      | zero => rfl
      | succ i => simp only [digF, if_neg hc]
    rw [e7]
    unfold digC at hc
    by_cases c1 : j < s.length
    · by_cases c2 : j < 6
      · by_cases c3 : 48 ≤ bt s j
        · by_cases c4 : bt s j ≤ 57
          · simp (disch := (first | omega | (simp only [disM] <;> omega) | assumption)) only [↓run, ↓runM, run, runM, Nat.reduceAdd, Nat.reduceMul, Int.reduceToNat, ↓f39_J0, ↓f39_J2, ↓f39_L1]
          · simp (disch := (first | omega | (simp only [disM] <;> omega) | assumption)) only [↓run, ↓runM, run, runM, Nat.reduceAdd, Nat.reduceMul, Int.reduceToNat, ↓f39_J0, ↓f39_J2, ↓f39_L1]
        · simp (disch := (first | omega | (simp only [disM] <;> omega) | assumption)) only [↓run, ↓runM, run, runM, Nat.reduceAdd, Nat.reduceMul, Int.reduceToNat, ↓f39_J0, ↓f39_J2, ↓f39_L1]
      · simp (disch := (first | omega | (simp only [disM] <;> omega) | assumption)) only [↓run, ↓runM, run, runM, Nat.reduceAdd, Nat.reduceMul, Int.reduceToNat, ↓f39_J0, ↓f39_J2, ↓f39_L1]
    · simp (disch := (first | omega | (simp only [disM] <;> omega) | assumption)) only [↓run, ↓runM, run, runM, Nat.reduceAdd, Nat.reduceMul, Int.reduceToNat, ↓f39_J0, ↓f39_J2, ↓f39_L1]

theorem chk_sl {h : H} {v : AV} {cs : List AV} (hs : SlAt h v cs) (c : Option β) : qChk v v (.mk c) = c := by
  show fChk v v c = c
  rcases hs with ⟨rfl, _⟩ | ⟨b, o, m, g, us, rfl, _⟩
  · rfl
  · unfold fChk; rw [show AV.beq (.sl b o cs.length m g) (.sl b o cs.length m g) = true by simp [AV.beq]]; rfl

theorem GA.w40 (T : GA t) (m : Nat) (s : List UInt8) (hs : s.length ≤ 9223372036854775807) (rt : Nat → Option Ct) (hf : Fwd s rt) (x to0 : Int) (i0 : Nat) (h : H) (hi0 : i0 ≤ s.length)
    (ht : ∀ (i : Nat) (h : H), i0 ≤ i → i ≤ s.length → Sp (β := β) (fRunS t stdI (m + 4) (.fn 25 []) [.str s, .int .i64 (i : Int)] h) fun v h' => Ext h h' ∧ CrAt h' h.n v (rt i)) :
    Sp (β := β) (fRunS t stdI (m + 5) (.fn 40 []) [.str s, .agg [.int .i64 2, .int .i64 x, .nils, .int .i64 to0], .int .i64 (i0 : Int)] h) fun v h' => Ext h h' ∧ CrAt h' h.n v (rPart rt s x 3 [] i0) := by
  intro k R hk
  generalize hz : rPart rt s x 3 [] i0 = z at hk
  rw [T.c40]
  unfold f40_sleuthref1_parts
  simp (disch := (first | omega | (simp only [disM] <;> omega) | assumption)) only [↓run, ↓runM, run, runM, Nat.reduceAdd, Nat.reduceMul, Int.reduceToNat, ↓f40_J2, ↓f40_J20, ↓f40_J19, ↓f40_J9, ↓f40_J6, ↓f40_L5]
  refine qLoop_wp 7 (m + 4) _ _ (fun i x0 x1 x2 x3 x4 x5 x6 h' => Ext h h' ∧ h.n + 2 ≤ h'.n ∧ x0 = .str s ∧ x3 = .ptr h.n 0 ∧ x4 = .ptr (h.n + 1) 0 ∧ ∃ (kv a b c d : AV) (kids : List (List UInt8)) (j : Nat),
    x2 = .int .i64 (j : Int) ∧ h'.get h.n = .own 0 [.int .i64 2, .int .i64 x, kv, .int .i64 to0] ∧ h'.get (h.n + 1) = .own 0 [a, b, c, d] ∧ OwnAt h' (h.n + 2) h'.n 1 kv (strs kids) ∧ kids.length + i = 3 ∧ i0 ≤ j ∧ j ≤ s.length ∧ z = rPart rt s x i kids j)
    3 (by omega) ?_ _ _ _ _ _ _ _ _ ⟨((Ext.refl h).push _).push _, by simp only [H.n_push]; omega, rfl, rfl, rfl, _, _, _, _, _, [], i0, rfl, by rw [get_push_ne (by rw [H.n_push]; omega), get_push_eq rfl], by rw [get_push_eq (by rw [H.n_push])], OwnAt.nil _ _ _ _, rfl, Nat.le_refl _, hi0, hz.symm⟩
  intro l i ih x0 x1 x2 x3 x4 x5 x6 h' ⟨e1, en, q0, q3, q4, kv, a, b, c, d, kids, j, q2, g0, g1, e2, e3, e4, e5, e6⟩
  subst q0 q2 q3 q4
  have hsl := e2.sl (Nat.le_refl _)
  cases i with
  | zero =>
    simp (disch := (first | omega | (simp only [disM] <;> omega) | assumption)) only [↓run, ↓runM, run, runM, Nat.reduceAdd, Nat.reduceMul, Int.reduceToNat, ↓f40_J2, ↓f40_J20, ↓f40_J19, ↓f40_J9, ↓f40_J6, ↓f40_L5, g0, hsl.len]
    refine T.w38 (m + 3) h' _ _ ?_
    intro v h2 ⟨e7, e8⟩
    subst e8
    have g2 := e7.get (h.n + 1) (by omega)
    rw [g1] at g2
    have := e7.n
    simp (disch := (first | omega | (simp only [disM] <;> omega) | assumption)) only [↓run, ↓runM, run, runM, Nat.reduceAdd, Nat.reduceMul, Int.reduceToNat, ↓f40_J2, ↓f40_J20, ↓f40_J19, ↓f40_J9, ↓f40_J6, ↓f40_L5, g2]
    exact hk _ _ ⟨(e1.trans e7).set (by omega) _, by rw [e6]; exact ⟨_, _, _, rfl⟩⟩
  | succ i =>
    simp (disch := (first | omega | (simp only [disM] <;> omega) | assumption)) only [↓run, ↓runM, run, runM, Nat.reduceAdd, Nat.reduceMul, Int.reduceToNat, ↓f40_J2, ↓f40_J20, ↓f40_J19, ↓f40_J9, ↓f40_J6, ↓f40_L5, g0, hsl.len]
    refine ht j h' e4 e5 _ _ ?_
    intro v h2 ⟨e7, e8⟩
    have g2 := e7.get (h.n + 1) (by omega)
    rw [g1] at g2
    have g3 := e7.get h.n (by omega)
    rw [g0] at g3
    have hn2 := e7.n
    simp only [rPart] at e6
    cases hc : rt j with
    | none =>
      rw [hc] at e8 e6
      obtain ⟨a', b', c', rfl⟩ := e8
      simp (disch := (first | omega | (simp only [disM] <;> omega) | assumption)) only [↓run, ↓runM, run, runM, Nat.reduceAdd, Nat.reduceMul, Int.reduceToNat, ↓f40_J2, ↓f40_J20, ↓f40_J19, ↓f40_J9, ↓f40_J6, ↓f40_L5]
      refine T.w38 (m + 3) _ _ _ ?_
      intro v h3 ⟨e9, e10⟩
      subst e10
      have g4 := e9.get (h.n + 1) (by rw [H.n_set, H.n_push]; omega)
      rw [get_set_ne (by omega), get_push_ne (by omega), g2] at g4
      simp (disch := (first | omega | (simp only [disM] <;> omega) | assumption)) only [↓run, ↓runM, run, runM, Nat.reduceAdd, Nat.reduceMul, Int.reduceToNat, ↓f40_J2, ↓f40_J20, ↓f40_J19, ↓f40_J9, ↓f40_J6, ↓f40_L5, g4]
      exact hk _ _ ⟨(((((e1.trans e7).push _).set (by omega) _).trans e9).set (by omega) _), by rw [e6]; exact ⟨_, _, _, rfl⟩⟩
    | some u =>
      rw [hc] at e8 e6
      obtain ⟨c', rfl, e9⟩ := e8
      have hfw := hf _ _ hc
      simp only at e6
      by_cases c1 : s.length ≤ u.to
      · rw [if_pos c1] at e6
        simp (disch := (first | omega | (simp only [disM] <;> omega) | assumption)) only [↓run, ↓runM, run, runM, Nat.reduceAdd, Nat.reduceMul, Int.reduceToNat, ↓f40_J2, ↓f40_J20, ↓f40_J19, ↓f40_J9, ↓f40_J6, ↓f40_L5]
        refine T.w38 (m + 3) _ _ _ ?_
        intro v h3 ⟨e10, e11⟩
        subst e11
        have g4 := e10.get (h.n + 1) (by rw [H.n_set, H.n_push]; omega)
        rw [get_set_ne (by omega), get_push_ne (by omega), g2] at g4
        simp (disch := (first | omega | (simp only [disM] <;> omega) | assumption)) only [↓run, ↓runM, run, runM, Nat.reduceAdd, Nat.reduceMul, Int.reduceToNat, ↓f40_J2, ↓f40_J20, ↓f40_J19, ↓f40_J9, ↓f40_J6, ↓f40_L5, g4]
        exact hk _ _ ⟨(((((e1.trans e7).push _).set (by omega) _).trans e10).set (by omega) _), by rw [e6]; exact ⟨_, _, _, rfl⟩⟩
      · rw [if_neg c1] at e6
        have hto : u.to < 9223372036854775807 := by omega
        simp (disch := (first | omega | (simp only [disM] <;> omega) | assumption)) only [↓run, ↓runM, run, runM, Nat.reduceAdd, Nat.reduceMul, Int.reduceToNat, ↓f40_J2, ↓f40_J20, ↓f40_J19, ↓f40_J9, ↓f40_J6, ↓f40_L5, sls, g3, chk_sl (hsl.ext e7)]
        refine fApp_one (lo := h.n + 2) (hi := h'.n) (cs := strs kids) ?_ (get_push_eq rfl) ?_ ?_
        · exact e2.mono (Nat.le_refl _) (Nat.le_refl _) fun i h1 h2 => by rw [get_push_ne (by rw [H.n_set, H.n_push]; omega), get_set_ne (by omega), get_push_ne (by omega), e7.get i h2]
        · rw [H.n_push, H.n_set, H.n_push, strs_len]; unfold room; omega
        intro v' h3 o3 hle hget
        rw [H.n_push, H.n_set, H.n_push] at hle hget
        have g4 := hget h.n (by omega) (.inl (by omega))
        rw [get_push_ne (by rw [H.n_set, H.n_push]; omega), get_set_ne (by omega), get_push_ne (by omega), g3] at g4
        have g5 := hget (h.n + 1) (by omega) (.inl (by omega))
        rw [get_push_ne (by rw [H.n_set, H.n_push]; omega), get_set_ne (by omega), get_push_ne (by omega), g2] at g5
        have g6 := hget h2.n (by omega) (.inr (by omega))
        rw [get_push_ne (by rw [H.n_set, H.n_push]; omega), get_set_eq rfl] at g6
        have e10 : Ext h h3 := ⟨by omega, fun i hi => by
          rw [hget i (by omega) (.inl (by omega)), get_push_ne (by rw [H.n_set, H.n_push]; omega), get_set_ne (by omega), get_push_ne (by omega), e7.get i (by omega), e1.get i hi]⟩
        rw [← strs_snoc] at o3
        have o4 := o3.sl (Nat.le_refl _)
        have hsc := o3.sc
        by_cases c2 : bt s u.to = 41
        · rw [if_pos c2] at e6
          simp (disch := (first | omega | (simp only [disM] <;> omega) | assumption)) only [↓run, ↓runM, run, runM, Nat.reduceAdd, Nat.reduceMul, Int.reduceToNat, ↓f40_J2, ↓f40_J20, ↓f40_J19, ↓f40_J9, ↓f40_J6, ↓f40_L5, g4, g5, g6]
          exact hk _ _ ⟨(((e10.set (Nat.le_refl _) _).set (Nat.le_refl _) _).set (by omega) _), by
            rw [e6]
            exact ⟨v', rfl, (((o3.set (.inl (by omega)) _).set (.inl (by omega)) _).set (.inl (by omega)) _).mono (by omega) (by simp only [H.n_set]; exact Nat.le_refl _) (fun _ _ _ => rfl)⟩⟩
        · rw [if_neg c2] at e6
          by_cases c3 : bt s u.to = 32
          · rw [if_pos c3] at e6
            simp (disch := (first | omega | (simp only [disM] <;> omega) | assumption)) only [↓run, ↓runM, run, runM, Nat.reduceAdd, Nat.reduceMul, Int.reduceToNat, ↓f40_J2, ↓f40_J20, ↓f40_J19, ↓f40_J9, ↓f40_J6, ↓f40_L5, g4, g5, g6]
            exact ih i (by omega) _ _ _ _ _ _ _ _ ⟨e10.set (Nat.le_refl _) _, by rw [H.n_set]; omega, rfl, rfl, rfl, v', _, _, _, _, _, u.to + 1, congrArg (AV.int .i64) (by omega), get_set_eq rfl, by rw [get_set_ne (by omega)]; exact g5,
              (o3.set (.inl (by omega)) _).mono (Nat.le_refl _) (by rw [H.n_set]; exact Nat.le_refl _) (fun _ _ _ => rfl), by rw [List.length_append]; simp only [List.length_cons, List.length_nil]; omega, by omega, by omega, e6⟩
          · rw [if_neg c3] at e6
            simp (disch := (first | omega | (simp only [disM] <;> omega) | assumption)) only [↓run, ↓runM, run, runM, Nat.reduceAdd, Nat.reduceMul, Int.reduceToNat, ↓f40_J2, ↓f40_J20, ↓f40_J19, ↓f40_J9, ↓f40_J6, ↓f40_L5, g4, g5, g6]
            refine T.w38 (m + 3) _ _ _ ?_
            intro v h4 ⟨e11, e12⟩
            subst e12
            have g7 := e11.get (h.n + 1) (by rw [H.n_set]; omega)
            rw [get_set_ne (by omega), g5] at g7
            simp (disch := (first | omega | (simp only [disM] <;> omega) | assumption)) only [↓run, ↓runM, run, runM, Nat.reduceAdd, Nat.reduceMul, Int.reduceToNat, ↓f40_J2, ↓f40_J20, ↓f40_J19, ↓f40_J9, ↓f40_J6, ↓f40_L5, g7]
            exact hk _ _ ⟨(((e10.set (Nat.le_refl _) _).trans e11).set (by omega) _), by rw [e6]; exact ⟨_, _, _, rfl⟩⟩
theorem GA.w25 (T : GA t) (s : List UInt8) (hs : s.length ≤ 9223372036854775807) : ∀ (f n i : Nat) (h : H), s.length - i < f → i ≤ s.length → 2 * f + 12 ≤ n →
    Sp (β := β) (fRunS t stdI n (.fn 25 []) [.str s, .int .i64 (i : Int)] h) fun v h' => Ext h h' ∧ CrAt h' h.n v (rTerm s f i)
  | 0, n, i, h, h1, h2, h3 => by omega
  | f + 1, n, i, h, h1, h2, h3 => by
    intro k R hk
    obtain ⟨m, rfl⟩ : ∃ m, n = m + 10 := ⟨n - 10, by omega⟩
    have hd := dig_bd (s.drop (i + 1))
    have hd' := dig_bd (s.drop i)
    rw [List.length_drop] at hd hd'
    have hl : (s.drop (i + 1)).length ≤ 9223372036854775807 := by rw [List.length_drop]; omega
    have hl' : (s.drop i).length ≤ 9223372036854775807 := by rw [List.length_drop]; omega
    have hit : ((i : Int) + 1).toNat = i + 1 := by omega
    have hb := bt_lt s i
    simp only [rTerm] at hk
    have hbad : ∀ (h2 : H), Ext h h2 → h.n < h2.n → (∃ cs : List AV, cs.length = 4 ∧ h2.get h.n = .own 0 cs) → (∀ v h', Ext h h' ∧ CrAt h' h.n v none → k v h' = R) →
        (qCall (fRunS t stdI (m + 9)) (.fn 38 []) [] h2 <| .mk fun v3 h_1 => qStore 4 (.ptr h.n 0) v3 h_1 <| .mk fun h_2 => qLoadN 4 (.ptr h.n 0) h_2 <| .mk fun v4 => k v4 h_2) = R := by
      intro h2 e1 e2 ⟨cs, e3, e4⟩ hk
      refine T.w38 (m + 8) _ _ _ ?_
      intro v h3 ⟨e5, e6⟩
      subst e6
      have g := e5.get h.n e2
      rw [e4] at g
      match cs, e3 with
      | [a, b, c, d], _ =>
        simp (disch := (first | omega | (simp only [disM] <;> omega) | assumption)) only [↓run, ↓runM, run, runM, Nat.reduceAdd, Nat.reduceMul, Int.reduceToNat, ↓f25_J7, ↓f25_J2, ↓f25_J37, ↓f25_J32, ↓f25_J66, ↓f25_J1, g]
        exact hk _ _ ⟨(e1.trans e5).set (Nat.le_refl _) _, ⟨_, _, _, rfl⟩⟩
    by_cases c0 : s.length ≤ i
    · rw [if_pos c0] at hk
      rw [T.c25]; unfold f25_sleuthref1_term
      simp (disch := (first | omega | (simp only [disM] <;> omega) | assumption)) only [↓run, ↓runM, run, runM, Nat.reduceAdd, Nat.reduceMul, Int.reduceToNat, ↓f25_J7, ↓f25_J2, ↓f25_J37, ↓f25_J32, ↓f25_J66, ↓f25_J1]
      exact hbad _ ((Ext.refl h).push _) (by first | omega | (simp only [H.n_push, H.n_set]; omega)) ⟨_, rfl, get_push_eq rfl⟩ hk
    rw [if_neg c0] at hk
    by_cases c1 : bt s i = 95
    · rw [if_pos c1] at hk
      rw [T.c25]; unfold f25_sleuthref1_term
      simp (disch := (first | omega | (simp only [disM] <;> omega) | assumption)) only [↓run, ↓runM, run, runM, Nat.reduceAdd, Nat.reduceMul, Int.reduceToNat, ↓f25_J7, ↓f25_J2, ↓f25_J37, ↓f25_J32, ↓f25_J66, ↓f25_J1]
      exact hk _ _ ⟨((Ext.refl h).push _).set (Nat.le_refl _) _, _, rfl, OwnAt.nil _ _ _ _⟩
    rw [if_neg c1] at hk
    by_cases c2 : bt s i = 33
    · rw [if_pos c2] at hk
      rw [T.c25]; unfold f25_sleuthref1_term
      simp (disch := (first | omega | (simp only [disM] <;> omega) | assumption)) only [↓run, ↓runM, run, runM, Nat.reduceAdd, Nat.reduceMul, Int.reduceToNat, ↓f25_J7, ↓f25_J2, ↓f25_J37, ↓f25_J32, ↓f25_J66, ↓f25_J1]
      exact hk _ _ ⟨((Ext.refl h).push _).set (Nat.le_refl _) _, _, rfl, OwnAt.nil _ _ _ _⟩
    rw [if_neg c2] at hk
    by_cases c3 : bt s i = 64
    · rw [if_pos c3] at hk
      by_cases c4 : (dig (s.drop (i + 1))).2 = 0 ∨ 99 < (dig (s.drop (i + 1))).1
      · rw [if_pos c4] at hk
        rw [T.c25]; unfold f25_sleuthref1_term
        by_cases c5 : (dig (s.drop (i + 1))).2 = 0
        · simp (disch := (first | omega | (simp only [disM] <;> omega) | assumption)) only [↓run, ↓runM, run, runM, Nat.reduceAdd, Nat.reduceMul, Int.reduceToNat, ↓f25_J7, ↓f25_J2, ↓f25_J37, ↓f25_J32, ↓f25_J66, ↓f25_J1, sls, T.w39, hit]
          exact hbad _ ((Ext.refl h).push _) (by first | omega | (simp only [H.n_push, H.n_set]; omega)) ⟨_, rfl, get_push_eq rfl⟩ hk
        · simp (disch := (first | omega | (simp only [disM] <;> omega) | assumption)) only [↓run, ↓runM, run, runM, Nat.reduceAdd, Nat.reduceMul, Int.reduceToNat, ↓f25_J7, ↓f25_J2, ↓f25_J37, ↓f25_J32, ↓f25_J66, ↓f25_J1, sls, T.w39, hit]
          exact hbad _ ((Ext.refl h).push _) (by first | omega | (simp only [H.n_push, H.n_set]; omega)) ⟨_, rfl, get_push_eq rfl⟩ hk
      · rw [if_neg c4] at hk
        have hto : ((i : Int) + 1 + ((dig (s.drop (i + 1))).2 : Int)).toNat = i + 1 + (dig (s.drop (i + 1))).2 := by omega
        by_cases c5 : i + 1 + (dig (s.drop (i + 1))).2 < s.length
        · by_cases c6 : bt s (i + 1 + (dig (s.drop (i + 1))).2) = 40
          · rw [if_pos ⟨c5, c6⟩] at hk
            rw [T.c25]; unfold f25_sleuthref1_term
            simp (disch := (first | omega | (simp only [disM] <;> omega) | assumption)) only [↓run, ↓runM, run, runM, Nat.reduceAdd, Nat.reduceMul, Int.reduceToNat, ↓f25_J7, ↓f25_J2, ↓f25_J37, ↓f25_J32, ↓f25_J66, ↓f25_J1, sls, T.w39, hit, hto]
            rw [show ((i : Int) + 1 + ((dig (s.drop (i + 1))).2 : Int) + 1) = ((i + 1 + (dig (s.drop (i + 1))).2 + 1 : Nat) : Int) by omega]
            refine T.w40 (m + 4) s hs (rTerm s f) (rTerm_fwd s f) _ _ _ _ (by omega) (fun i' h' q1 q2 => T.w25 s hs f (m + 8) i' h' (by omega) q2 (by omega)) _ _ ?_
            intro v h2 ⟨e1, e2⟩
            have g := e1.get h.n (by first | omega | (simp only [H.n_push, H.n_set]; omega))
            rw [get_set_ne (by first | omega | (simp only [H.n_push, H.n_set]; omega)), get_push_ne (by first | omega | (simp only [H.n_push, H.n_set]; omega)), get_push_eq rfl] at g
            have e3 : Ext h h2 := Ext.trans (by repeat (first | exact Ext.refl _ | assumption | refine Ext.push ?_ _ | refine Ext.set ?_ (by first | omega | (simp only [H.n_push, H.n_set]; omega)) _)) e1
            revert hk e2
            cases rPart (rTerm s f) s (dig (s.drop (i + 1))).1 3 [] (i + 1 + (dig (s.drop (i + 1))).2 + 1) with
            | none =>
              rintro hk ⟨a, b, c, rfl⟩
              simp (disch := (first | omega | (simp only [disM] <;> omega) | assumption)) only [↓run, ↓runM, run, runM, Nat.reduceAdd, Nat.reduceMul, Int.reduceToNat, ↓f25_J7, ↓f25_J2, ↓f25_J37, ↓f25_J32, ↓f25_J66, ↓f25_J1, g]
              exact hk _ _ ⟨e3.set (Nat.le_refl _) _, ⟨_, _, _, rfl⟩⟩
            | some u =>
              rintro hk ⟨c, rfl, e4⟩
              simp (disch := (first | omega | (simp only [disM] <;> omega) | assumption)) only [↓run, ↓runM, run, runM, Nat.reduceAdd, Nat.reduceMul, Int.reduceToNat, ↓f25_J7, ↓f25_J2, ↓f25_J37, ↓f25_J32, ↓f25_J66, ↓f25_J1, g]
              exact hk _ _ ⟨e3.set (Nat.le_refl _) _, c, rfl, (e4.set (.inl (by first | omega | (simp only [H.n_push, H.n_set]; omega))) _).mono (by first | omega | (simp only [H.n_push, H.n_set]; omega)) (by rw [H.n_set]; exact Nat.le_refl _) fun _ _ _ => rfl⟩
          · rw [if_neg (fun q => c6 q.2)] at hk
            rw [T.c25]; unfold f25_sleuthref1_term
            simp (disch := (first | omega | (simp only [disM] <;> omega) | assumption)) only [↓run, ↓runM, run, runM, Nat.reduceAdd, Nat.reduceMul, Int.reduceToNat, ↓f25_J7, ↓f25_J2, ↓f25_J37, ↓f25_J32, ↓f25_J66, ↓f25_J1, sls, T.w39, hit, hto]
            exact hk _ _ ⟨(by repeat (first | exact Ext.refl _ | assumption | refine Ext.push ?_ _ | refine Ext.set ?_ (by first | omega | (simp only [H.n_push, H.n_set]; omega)) _)), _, rfl, OwnAt.nil _ _ _ _⟩
        · rw [if_neg (fun q => c5 q.1)] at hk
          rw [T.c25]; unfold f25_sleuthref1_term
          simp (disch := (first | omega | (simp only [disM] <;> omega) | assumption)) only [↓run, ↓runM, run, runM, Nat.reduceAdd, Nat.reduceMul, Int.reduceToNat, ↓f25_J7, ↓f25_J2, ↓f25_J37, ↓f25_J32, ↓f25_J66, ↓f25_J1, sls, T.w39, hit, hto]
          exact hk _ _ ⟨(by repeat (first | exact Ext.refl _ | assumption | refine Ext.push ?_ _ | refine Ext.set ?_ (by first | omega | (simp only [H.n_push, H.n_set]; omega)) _)), _, rfl, OwnAt.nil _ _ _ _⟩
    rw [if_neg c3] at hk
    by_cases c4 : bt s i = 45
    · rw [if_pos c4] at hk
      by_cases c5 : (dig (s.drop (i + 1))).2 = 0 ∨ (dig (s.drop (i + 1))).1 = 0 ∨ 32768 < (dig (s.drop (i + 1))).1
      · rw [if_pos c5] at hk
        by_cases c6 : (dig (s.drop (i + 1))).2 = 0
        · rw [T.c25]; unfold f25_sleuthref1_term
          simp (disch := (first | omega | (simp only [disM] <;> omega) | assumption)) only [↓run, ↓runM, run, runM, Nat.reduceAdd, Nat.reduceMul, Int.reduceToNat, ↓f25_J7, ↓f25_J2, ↓f25_J37, ↓f25_J32, ↓f25_J66, ↓f25_J1, sls, T.w39, T.w41, hit]
          exact hbad _ (by repeat (first | exact Ext.refl _ | assumption | refine Ext.push ?_ _ | refine Ext.set ?_ (by first | omega | (simp only [H.n_push, H.n_set]; omega)) _)) (by first | omega | (simp only [H.n_push, H.n_set]; omega)) ⟨_, rfl, get_push_eq rfl⟩ hk
        by_cases c7 : (dig (s.drop (i + 1))).1 = 0
        · rw [T.c25]; unfold f25_sleuthref1_term
          simp (disch := (first | omega | (simp only [disM] <;> omega) | assumption)) only [↓run, ↓runM, run, runM, Nat.reduceAdd, Nat.reduceMul, Int.reduceToNat, ↓f25_J7, ↓f25_J2, ↓f25_J37, ↓f25_J32, ↓f25_J66, ↓f25_J1, sls, T.w39, T.w41, hit]
          exact hbad _ (by repeat (first | exact Ext.refl _ | assumption | refine Ext.push ?_ _ | refine Ext.set ?_ (by first | omega | (simp only [H.n_push, H.n_set]; omega)) _)) (by first | omega | (simp only [H.n_push, H.n_set]; omega)) ⟨_, rfl, get_push_eq rfl⟩ hk
        · rw [T.c25]; unfold f25_sleuthref1_term
          simp (disch := (first | omega | (simp only [disM] <;> omega) | assumption)) only [↓run, ↓runM, run, runM, Nat.reduceAdd, Nat.reduceMul, Int.reduceToNat, ↓f25_J7, ↓f25_J2, ↓f25_J37, ↓f25_J32, ↓f25_J66, ↓f25_J1, sls, T.w39, T.w41, hit]
          exact hbad _ (by repeat (first | exact Ext.refl _ | assumption | refine Ext.push ?_ _ | refine Ext.set ?_ (by first | omega | (simp only [H.n_push, H.n_set]; omega)) _)) (by first | omega | (simp only [H.n_push, H.n_set]; omega)) ⟨_, rfl, get_push_eq rfl⟩ hk
      · rw [if_neg c5] at hk
        rw [T.c25]; unfold f25_sleuthref1_term
        simp (disch := (first | omega | (simp only [disM] <;> omega) | assumption)) only [↓run, ↓runM, run, runM, Nat.reduceAdd, Nat.reduceMul, Int.reduceToNat, ↓f25_J7, ↓f25_J2, ↓f25_J37, ↓f25_J32, ↓f25_J66, ↓f25_J1, sls, T.w39, T.w41, hit]
        exact hk _ _ ⟨(by repeat (first | exact Ext.refl _ | assumption | refine Ext.push ?_ _ | refine Ext.set ?_ (by first | omega | (simp only [H.n_push, H.n_set]; omega)) _)), _, rfl, OwnAt.nil _ _ _ _⟩
    rw [if_neg c4] at hk
    by_cases c5 : (dig (s.drop i)).2 = 0 ∨ 32767 < (dig (s.drop i)).1
    · rw [if_pos c5] at hk
      by_cases c6 : (dig (s.drop i)).2 = 0
      · rw [T.c25]; unfold f25_sleuthref1_term
        simp (disch := (first | omega | (simp only [disM] <;> omega) | assumption)) only [↓run, ↓runM, run, runM, Nat.reduceAdd, Nat.reduceMul, Int.reduceToNat, ↓f25_J7, ↓f25_J2, ↓f25_J37, ↓f25_J32, ↓f25_J66, ↓f25_J1, sls, T.w39, T.w41, hit]
        exact hbad _ (by repeat (first | exact Ext.refl _ | assumption | refine Ext.push ?_ _ | refine Ext.set ?_ (by first | omega | (simp only [H.n_push, H.n_set]; omega)) _)) (by first | omega | (simp only [H.n_push, H.n_set]; omega)) ⟨_, rfl, get_push_eq rfl⟩ hk
      · rw [T.c25]; unfold f25_sleuthref1_term
        simp (disch := (first | omega | (simp only [disM] <;> omega) | assumption)) only [↓run, ↓runM, run, runM, Nat.reduceAdd, Nat.reduceMul, Int.reduceToNat, ↓f25_J7, ↓f25_J2, ↓f25_J37, ↓f25_J32, ↓f25_J66, ↓f25_J1, sls, T.w39, T.w41, hit]
        exact hbad _ (by repeat (first | exact Ext.refl _ | assumption | refine Ext.push ?_ _ | refine Ext.set ?_ (by first | omega | (simp only [H.n_push, H.n_set]; omega)) _)) (by first | omega | (simp only [H.n_push, H.n_set]; omega)) ⟨_, rfl, get_push_eq rfl⟩ hk
    · rw [if_neg c5] at hk
      rw [T.c25]; unfold f25_sleuthref1_term
      simp (disch := (first | omega | (simp only [disM] <;> omega) | assumption)) only [↓run, ↓runM, run, runM, Nat.reduceAdd, Nat.reduceMul, Int.reduceToNat, ↓f25_J7, ↓f25_J2, ↓f25_J37, ↓f25_J32, ↓f25_J66, ↓f25_J1, sls, T.w39, T.w41, hit]
      exact hk _ _ ⟨(by repeat (first | exact Ext.refl _ | assumption | refine Ext.push ?_ _ | refine Ext.set ?_ (by first | omega | (simp only [H.n_push, H.n_set]; omega)) _)), _, rfl, OwnAt.nil _ _ _ _⟩
end
end Am.F
