/- Plain laws: terms, second part: the program's reading is the reference's; what is printed is read. -/
import Derived.Test.YtpalaplnolcimaaDoorAmLG
namespace Am.F
open Go Am

theorem tag_forms {w : List UInt8} (h : tagP w = true) : ∃ u : Nat, u ≤ 99 ∧ w = 64 :: Lib.decDigits u ∧ tagX w = u := by
  unfold tagP at h
  rw [Bool.and_eq_true, decide_eq_true_eq, pre_one] at h
  obtain ⟨⟨w2, rfl⟩, h2⟩ := h
  rw [List.drop_succ_cons, List.drop_zero, digP_iff 99 (by omega)] at h2
  obtain ⟨x, h3, h4, rfl⟩ := h2
  obtain ⟨u, rfl⟩ : ∃ u : Nat, x = (u : Int) := ⟨x.toNat, by omega⟩
  refine ⟨u, by omega, by rw [itoa_nat], ?_⟩
  unfold tagX
  rw [if_pos ⟨_, rfl⟩, List.drop_succ_cons, List.drop_zero, numX_itoa (by omega) (by omega)]
theorem tagP_of {u : Nat} (hu : u ≤ 99) : tagP (64 :: Lib.decDigits u) = true ∧ tagX (64 :: Lib.decDigits u) = u := by
  unfold tagP tagX
  rw [if_pos ⟨_, rfl⟩, List.drop_succ_cons, List.drop_zero, ← itoa_nat, numX_itoa (by omega) (by omega)]
  refine ⟨?_, rfl⟩
  rw [Bool.and_eq_true, decide_eq_true_eq, digP_iff 99 (by omega)]
  exact ⟨⟨_, rfl⟩, u, by omega, by omega, rfl⟩

theorem K1 {c t : List UInt8 → Option Tm} (hc : ∀ s u, c s = some u → t s = some u) {x : Int} : ∀ (m : Nat) {kids : List (List UInt8)} {r : List UInt8} {u : Tm}, cutK c x (m + 1) kids r = some u → pL t x (m + 1) kids (r.drop 1) = some u := by
  intro m
  induction m with
  | zero =>
    intro kids r u h
    simp only [cutK] at h
    cases hv : c (r.drop 1) with
    | none => rw [hv] at h; cases h
    | some v =>
      rw [hv] at h
      simp only [pL, hc _ _ hv]
      by_cases h32 : [32] <+: v.rest
      · simp only [if_pos h32, closeP] at h
        obtain ⟨r2, e⟩ := pre_one.1 h32
        rw [if_neg (fun q => by obtain ⟨r3, e3⟩ := pre_one.1 q; rw [e] at e3; injection e3 with e4; exact absurd e4 (by decide))] at h
        cases h
      · simp only [if_neg h32, closeP] at h
        split at h
        · rename_i h41
          obtain ⟨r2, e⟩ := pre_one.1 h41
          cases h
          simp only [e, if_true, List.drop_succ_cons, List.drop_zero]
        · cases h
  | succ m ih =>
    intro kids r u h
    rw [cutK] at h
    cases hv : c (r.drop 1) with
    | none => rw [hv] at h; cases h
    | some v =>
      rw [hv] at h
      rw [pL, hc _ _ hv]
      by_cases h32 : [32] <+: v.rest
      · simp only [if_pos h32] at h
        obtain ⟨r2, e⟩ := pre_one.1 h32
        have := ih h
        simp only [e, List.drop_succ_cons, List.drop_zero] at this ⊢
        rw [if_neg (by decide)]; simpa using this
      · simp only [if_neg h32, closeP] at h
        split at h
        · rename_i h41
          obtain ⟨r2, e⟩ := pre_one.1 h41
          cases h
          simp only [e, if_true, List.drop_succ_cons, List.drop_zero]
        · cases h
theorem K2 {c t : List UInt8 → Option Tm} (hc : ∀ s u, t s = some u → Stp u.rest → c s = some u) {x : Int} : ∀ (m : Nat) {kids : List (List UInt8)} {r : List UInt8} {u : Tm}, pL t x m kids (r.drop 1) = some u → cutK c x m kids r = some u
  | 0, kids, r, u, h => by cases h
  | m + 1, kids, r, u, h => by
    rw [pL] at h
    cases hv : t (r.drop 1) with
    | none => rw [hv] at h; cases h
    | some v =>
      rw [hv] at h
      cases hr : v.rest with
      | nil => simp only [hr] at h; cases h
      | cons b r2 =>
        simp only [hr] at h
        split at h
        · rename_i hb; subst hb
          have := hc _ _ hv (by rw [hr]; exact stp_cons (by decide))
          rw [cutK, this]
          simp only [hr, closeP]
          rw [if_neg (fun q => by obtain ⟨r3, e3⟩ := pre_one.1 q; injection e3 with e4; exact absurd e4 (by decide)), if_pos ⟨_, rfl⟩]; exact h
        split at h
        · rename_i hb; subst hb
          have := hc _ _ hv (by rw [hr]; exact stp_cons (by decide))
          rw [cutK, this]
          simp only [hr]
          rw [if_pos ⟨_, rfl⟩]
          exact K2 hc m (r := 32 :: r2) h
        · cases h

theorem cutP_tL : ∀ (f : Nat) {s : List UInt8} {u : Tm}, cutP f s = some u → tL f s = some u
  | 0, s, u, h => by cases h
  | f + 1, s, u, h => by
    have hs := wA_wB s
    have hst := stp_wB s
    rw [cutP] at h
    split at h
    · rename_i hw; cases h
      have := tL_hole (f := f) (wB s)
      rw [hw, List.singleton_append] at hs
      rw [hs] at this; exact this
    split at h
    · rename_i hw; cases h
      have := tL_fail (f := f) (wB s)
      rw [hw, List.singleton_append] at hs
      rw [hs] at this; exact this
    split at h
    · rename_i hn; cases h
      obtain ⟨x, h0, h1, e⟩ := (numP_iff _).1 hn
      have := tL_num (f := f) h0 h1 (stp_nd hst)
      rw [← e, hs] at this
      rw [this, e, numX_itoa h0 h1]
    split at h
    · rename_i ht
      obtain ⟨v, hv, e, ex⟩ := tag_forms ht
      have hs' : s = 64 :: (Lib.decDigits v ++ wB s) := by rw [← List.cons_append, ← e, hs]
      rw [ex] at h
      rw [hs', tL_tag hv (stp_nd hst)]
      split at h
      · rename_i hp
        rw [if_pos hp]
        exact K1 (fun s u => cutP_tL f) 2 h
      · rename_i hp
        rw [if_neg hp]; exact h
    · cases h
theorem tL_cutP : ∀ (f : Nat) {s : List UInt8} {u : Tm}, tL f s = some u → Stp u.rest → cutP f s = some u
  | 0, s, u, h, _ => by cases h
  | f + 1, s, u, h, hst => by
    rcases tL_forms h with ⟨r, rfl, rfl⟩ | ⟨r, rfl, rfl⟩ | ⟨x, r, h0, h1, rfl, rfl⟩ | ⟨v, r, hv, rfl, hh⟩
    · obtain ⟨a, b⟩ := w_split (w := [95]) (r := r) (by intro b hb; rw [List.mem_singleton] at hb; subst hb; decide) hst
      rw [List.singleton_append] at a b
      rw [cutP, if_pos a, b]
    · obtain ⟨a, b⟩ := w_split (w := [33]) (r := r) (by intro b hb; rw [List.mem_singleton] at hb; subst hb; decide) hst
      rw [List.singleton_append] at a b
      rw [cutP, a, if_neg (by decide), if_pos rfl, b]
    · obtain ⟨a, b⟩ := w_split (w := Lib.itoa x) (r := r) itoa_stop hst
      obtain ⟨c, r', e, hc⟩ := itoa_head x
      have hn : numP (Lib.itoa x) = true := (numP_iff _).2 ⟨x, h0, h1, rfl⟩
      rw [cutP, a, if_neg (fun q => by rw [e] at q; injection q with q1; subst q1; rcases hc with hc | hc <;> revert hc <;> decide), if_neg (fun q => by rw [e] at q; injection q with q1; subst q1; rcases hc with hc | hc <;> revert hc <;> decide), if_pos hn, b, numX_itoa h0 h1]
    · have hr : Stp r := by
        rcases hh with ⟨hp, _⟩ | ⟨_, rfl⟩
        · obtain ⟨r2, rfl⟩ := pre_one.1 hp; exact stp_cons (by decide)
        · exact hst
      obtain ⟨a, b⟩ := w_split (w := 64 :: Lib.decDigits v) (r := r) (by
        intro b hb
        rcases List.mem_cons.1 hb with rfl | hb
        · decide
        · exact stop_isD (decDigits_isD _ b hb)) hr
      rw [List.cons_append] at a b
      obtain ⟨t1, t2⟩ := tagP_of hv
      rw [cutP, a, if_neg (fun q => by injection q with q1; exact absurd q1 (by decide)), if_neg (fun q => by injection q with q1; exact absurd q1 (by decide)),
        if_neg (by rw [numP_head ⟨by decide, by decide⟩]; decide), if_pos t1, b, t2]
      rcases hh with ⟨hp, hq⟩ | ⟨hp, rfl⟩
      · rw [if_pos hp]
        exact K2 (fun s u => tL_cutP f) 3 hq
      · rw [if_neg hp]

/-! ### Enough fuel is enough -/
theorem pL_congr {t t' : List UInt8 → Option Tm} {x : Int} (hs : ∀ l u, t l = some u → Suf l u.rest) : ∀ (m : Nat) (kids : List (List UInt8)) (r : List UInt8), (∀ l, l.length ≤ r.length → t l = t' l) → pL t x m kids r = pL t' x m kids r
  | 0, kids, r, h => rfl
  | m + 1, kids, r, h => by
    rw [pL, pL, ← h r (Nat.le_refl _)]
    cases hv : t r with
    | none => rfl
    | some v =>
      cases hr : v.rest with
      | nil => simp only [hr]
      | cons b r2 =>
        simp only [hr]
        have hlt := (hs _ _ hv).lt
        rw [hr, List.length_cons] at hlt
        rw [pL_congr hs m _ r2 fun l hl => h l (by omega)]
theorem tL_fuel : ∀ (f g : Nat) (l : List UInt8), l.length < f → l.length < g → tL f l = tL g l
  | 0, g, l, h, _ => by omega
  | f + 1, 0, l, _, h => by omega
  | f + 1, g + 1, l, h, h' => by
    rw [tL, tL]
    by_cases hl : l = []
    · rw [if_pos hl, if_pos hl]
    · rw [if_neg hl, if_neg hl]
      have hpos := List.length_pos_iff.2 hl
      have : ∀ x q, q.length < l.length → pL (tL f) x 3 [] q = pL (tL g) x 3 [] q := fun x q hq =>
        pL_congr (fun l u => tL_suf f) 3 [] q fun l' hl' => tL_fuel f g l' (by omega) (by omega)
      rw [this _ _ (by simp only [List.length_drop]; omega)]

/-! ### Another rest -/
def Okr (r : List UInt8) : Prop := r = [] ∨ ∃ b r2, r = b :: r2 ∧ (b = 32 ∨ b = 41)
theorem Okr.nd {r : List UInt8} (h : Okr r) : r = [] ∨ ¬ (48 ≤ bt r 0 ∧ bt r 0 ≤ 57) := by
  rcases h with h | ⟨b, r2, rfl, rfl | rfl⟩
  · exact .inl h
  · exact .inr (by rw [bt_cons]; decide)
  · exact .inr (by rw [bt_cons]; decide)
theorem Okr.n40 {r : List UInt8} (h : Okr r) : ¬ [40] <+: r := by
  rw [pre_one]
  rintro ⟨r3, e⟩
  rcases h with h | ⟨b, r2, h, hb⟩
  · rw [h] at e; cases e
  · rw [h] at e; injection e with e1; subst e1; rcases hb with hb | hb <;> revert hb <;> decide

theorem pL_rest {t : List UInt8 → Option Tm} {x : Int} (hs : ∀ l u, t l = some u → Suf l u.rest) (ht : ∀ p a b c r r', t (p ++ r) = some ⟨a, b, c, r⟩ → Okr r' → t (p ++ r') = some ⟨a, b, c, r'⟩) :
    ∀ (m : Nat) {kids : List (List UInt8)} {q r : List UInt8} {u : Tm}, pL t x m kids (q ++ r) = some u → u.rest = r → ∀ r', pL t x m kids (q ++ r') = some ⟨u.kind, u.num, u.kids, r'⟩
  | 0, kids, q, r, u, h, _, r' => by cases h
  | m + 1, kids, q, r, u, h, hu, r' => by
    rw [pL] at h
    cases hv : t (q ++ r) with
    | none => rw [hv] at h; cases h
    | some v =>
      rw [hv] at h
      cases hr : v.rest with
      | nil => simp only [hr] at h; cases h
      | cons b r2 =>
        simp only [hr] at h
        obtain ⟨p, hp, e⟩ := hs _ _ hv
        rw [hr] at e
        -- the rest of the whole is an end of what stands behind b
        have hend : ∃ q2, r2 = q2 ++ r := by
          split at h
          · cases h; exact ⟨[], hu⟩
          split at h
          · obtain ⟨p2, _, e2⟩ := pL_suf hs m h
            exact ⟨p2, by rw [e2, hu]⟩
          · cases h
        obtain ⟨q2, e2⟩ := hend
        have hq : q = p ++ b :: q2 := by
          rw [e2] at e
          have : q ++ r = (p ++ b :: q2) ++ r := by rw [e]; simp
          exact List.append_cancel_right this
        have hb : b = 32 ∨ b = 41 := by
          split at h
          · exact .inr (by assumption)
          split at h
          · exact .inl (by assumption)
          · cases h
        have hv2 := ht p v.kind v.num v.kids (b :: r2) (b :: (q2 ++ r')) (by rw [← e, hv]; congr 1; rw [← hr]) (.inr ⟨b, _, rfl, hb⟩)
        have e3 : q ++ r' = p ++ b :: (q2 ++ r') := by rw [hq]; simp
        have ek : (q ++ r').take ((q ++ r').length - (b :: (q2 ++ r')).length) = p := by
          rw [e3, List.length_append, Nat.add_sub_cancel, List.take_left]
        have ek' : (q ++ r).take ((q ++ r).length - v.rest.length) = p := by
          rw [hr, e, List.length_append, Nat.add_sub_cancel, List.take_left]
        rw [pL, e3, hv2, ← e3]
        simp only [ek]
        rw [← hr, ek'] at h
        by_cases h41 : b = 41
        · rw [if_pos h41] at h ⊢
          cases h
          have : q2 = [] := by
            have : ([] : List UInt8) ++ r = q2 ++ r := by rw [← e2]; exact hu.symm
            exact (List.append_cancel_right this).symm
          rw [this]; rfl
        · rw [if_neg h41] at h ⊢
          by_cases h32 : b = 32
          · rw [if_pos h32] at h ⊢
            rw [e2] at h
            exact pL_rest hs ht m h hu r'
          · rw [if_neg h32] at h; cases h
theorem tL_rest : ∀ (f : Nat) (p : List UInt8) (a b : Int) (c : List (List UInt8)) (r r' : List UInt8), tL f (p ++ r) = some ⟨a, b, c, r⟩ → Okr r' → tL f (p ++ r') = some ⟨a, b, c, r'⟩
  | 0, p, a, b, c, r, r', h, _ => by cases h
  | f + 1, p, a, b, c, r, r', h, ho => by
    rcases tL_forms h with ⟨r1, e, e2⟩ | ⟨r1, e, e2⟩ | ⟨x, r1, h0, h1, e, e2⟩ | ⟨v, r1, hv, e, hh⟩
    · injection e2 with e3 e4 e5 e6
      subst e3 e4 e5 e6
      have : p = [95] := List.append_cancel_right (e.trans (List.singleton_append).symm)
      subst this; exact tL_hole r'
    · injection e2 with e3 e4 e5 e6
      subst e3 e4 e5 e6
      have : p = [33] := List.append_cancel_right (e.trans (List.singleton_append).symm)
      subst this; exact tL_fail r'
    · injection e2 with e3 e4 e5 e6
      subst e3 e4 e5 e6
      have : p = Lib.itoa b := List.append_cancel_right e
      subst this; exact tL_num h0 h1 ho.nd
    · rcases hh with ⟨hp, hq⟩ | ⟨hp, hq⟩
      · obtain ⟨r2, rfl⟩ := pre_one.1 hp
        rw [List.drop_succ_cons, List.drop_zero] at hq
        obtain ⟨q, _, eq⟩ := pL_suf (fun l u => tL_suf f) 3 hq
        have eq : r2 = q ++ r := eq
        subst eq
        have : p = 64 :: (Lib.decDigits v ++ 40 :: q) := by
          apply List.append_cancel_right (bs := r)
          rw [e]; simp
        subst this
        have := pL_rest (fun l u => tL_suf f) (fun p a b c r r' => tL_rest f p a b c r r') 3 hq rfl r'
        have e3 : 64 :: (Lib.decDigits v ++ 40 :: q) ++ r' = 64 :: (Lib.decDigits v ++ 40 :: (q ++ r')) := by simp
        rw [e3, tL_tag hv (.inr (by rw [bt_cons]; decide)), if_pos ⟨_, rfl⟩, List.drop_succ_cons, List.drop_zero]
        exact this
      · injection hq with e3 e4 e5 e6
        subst e3 e4 e5 e6
        have : p = 64 :: Lib.decDigits v := List.append_cancel_right (e.trans (List.cons_append ..).symm)
        subst this
        rw [List.cons_append, tL_tag hv ho.nd, if_neg ho.n40]

/-! ### What is printed -/
theorem tL_alone {f : Nat} {p : List UInt8} {u : Tm} {r : List UInt8} (h : tL f (p ++ r) = some u) (hu : u.rest = r) : tL f p = some ⟨u.kind, u.num, u.kids, []⟩ := by
  have := tL_rest f p u.kind u.num u.kids r [] (by rw [h, ← hu]) (.inl rfl)
  rwa [List.append_nil] at this

/-- The texts, a blank between each two, and a bracket behind. -/
def ks (kids : List (List UInt8)) (r : List UInt8) : List UInt8 := Lib.join kids [32] ++ 41 :: r
theorem ks_one (k : List UInt8) (r : List UInt8) : ks [k] r = k ++ 41 :: r := by unfold ks; rw [Lib.join_one]
theorem ks_cons (k k' : List UInt8) (kk : List (List UInt8)) (r : List UInt8) : ks (k :: k' :: kk) r = k ++ 32 :: ks (k' :: kk) r := by
  unfold ks; rw [Lib.join_cons, Lib.join_cons]; simp [Lib.joinTail, List.append_assoc]

theorem pL_print {t : List UInt8 → Option Tm} {x : Int} (hs : ∀ l u, t l = some u → Suf l u.rest) (ha : ∀ p u r, t (p ++ r) = some u → u.rest = r → t p = some ⟨u.kind, u.num, u.kids, []⟩) : ∀ (m : Nat) {kids : List (List UInt8)} {q : List UInt8} {u : Tm}, pL t x m kids q = some u →
    u.kind = 2 ∧ u.num = x ∧ ∃ k kk, u.kids = kids ++ k :: kk ∧ (k :: kk).length ≤ m ∧ q = ks (k :: kk) u.rest ∧ ∀ y ∈ k :: kk, ∃ v, t y = some v ∧ v.rest = []
  | 0, kids, q, u, h => by cases h
  | m + 1, kids, q, u, h => by
    rw [pL] at h
    cases hv : t q with
    | none => rw [hv] at h; cases h
    | some v =>
      rw [hv] at h
      cases hr : v.rest with
      | nil => simp only [hr] at h; cases h
      | cons b r2 =>
        simp only [hr] at h
        obtain ⟨p, hp, e⟩ := hs _ _ hv
        rw [hr] at e
        have ek : q.take (q.length - v.rest.length) = p := by
          rw [hr, e, List.length_append, Nat.add_sub_cancel, List.take_left]
        rw [← hr, ek] at h
        have hpt : ∃ w, t p = some w ∧ w.rest = [] := ⟨_, ha p v (b :: r2) (by rw [← e, hv]) hr, rfl⟩
        by_cases h41 : b = 41
        · rw [if_pos h41] at h
          cases h
          refine ⟨rfl, rfl, p, [], rfl, by simp, by rw [ks_one, e, h41], ?_⟩
          intro y hy; rw [List.mem_singleton] at hy; subst hy; exact hpt
        · rw [if_neg h41] at h
          by_cases h32 : b = 32
          · rw [if_pos h32] at h
            obtain ⟨h1, h2, k, kk, h3, h4, h5, h6⟩ := pL_print hs ha m h
            refine ⟨h1, h2, p, k :: kk, by rw [h3]; simp, by simp only [List.length_cons] at h4 ⊢; omega, by rw [ks_cons, ← h5, e, h32], ?_⟩
            intro y hy
            rcases List.mem_cons.1 hy with rfl | hy
            · exact hpt
            · exact h6 y hy
          · rw [if_neg h32] at h; cases h
theorem pL_build {t : List UInt8 → Option Tm} {x : Int} (hr : ∀ p u r, t p = some u → u.rest = [] → Okr r → t (p ++ r) = some ⟨u.kind, u.num, u.kids, r⟩) : ∀ (m : Nat) (kids kk : List (List UInt8)) (k : List UInt8) (r : List UInt8),
    (k :: kk).length ≤ m → (∀ y ∈ k :: kk, ∃ v, t y = some v ∧ v.rest = []) → pL t x m kids (ks (k :: kk) r) = some ⟨2, x, kids ++ k :: kk, r⟩
  | 0, kids, kk, k, r, h, _ => by simp at h
  | m + 1, kids, kk, k, r, h, hy => by
    obtain ⟨v, hv, hv2⟩ := hy k (List.mem_cons_self ..)
    cases kk with
    | nil =>
      rw [ks_one, pL, hr k v (41 :: r) hv hv2 (.inr ⟨41, r, rfl, .inr rfl⟩)]
      simp only [if_true, List.length_append, Nat.add_sub_cancel, List.take_left]
    | cons k' kk =>
      rw [ks_cons, pL, hr k v (32 :: ks (k' :: kk) r) hv hv2 (.inr ⟨32, _, rfl, .inl rfl⟩)]
      simp only [List.length_append, Nat.add_sub_cancel, List.take_left]
      rw [if_neg (by decide), if_pos trivial, pL_build hr m _ kk k' r (by simp only [List.length_cons] at h ⊢; omega) fun y h2 => hy y (List.mem_cons_of_mem _ h2)]
      simp

/-- The text of a term that is read. -/
def outT (u : Tm) : List UInt8 := if u.kind = 0 then [95] else if u.kind = 3 then [33] else if u.kind = 1 then Lib.itoa u.num else conP u.num u.kids

theorem conP_kids (x : Int) (k : List UInt8) (kk : List (List UInt8)) (r : List UInt8) : conP x (k :: kk) ++ r = 64 :: (Lib.itoa x ++ 40 :: ks (k :: kk) r) := by
  unfold conP ks; rw [if_pos (by simp)]; simp
theorem conP_nil (x : Int) (r : List UInt8) : conP x [] ++ r = 64 :: (Lib.itoa x ++ r) := by
  unfold conP; rw [if_neg (by simp)]; simp

/-- What is known of a term that is read. -/
structure Good (f : Nat) (l : List UInt8) (u : Tm) : Prop where
  text : l = outT u ++ u.rest
  form : (u.kind = 0 ∧ u.num = 0 ∧ u.kids = []) ∨ (u.kind = 3 ∧ u.num = 0 ∧ u.kids = []) ∨ (u.kind = 1 ∧ -32768 ≤ u.num ∧ u.num ≤ 32767 ∧ u.kids = []) ∨ (u.kind = 2 ∧ 0 ≤ u.num ∧ u.num ≤ 99 ∧ u.kids.length ≤ 3)
  kids : ∀ y ∈ u.kids, ∃ v, tL f y = some v ∧ v.rest = []

theorem tL_good {f : Nat} {l : List UInt8} {u : Tm} (h : tL (f + 1) l = some u) : Good f l u := by
  rcases tL_forms h with ⟨r, rfl, rfl⟩ | ⟨r, rfl, rfl⟩ | ⟨x, r, h0, h1, rfl, rfl⟩ | ⟨v, r, hv, rfl, hh⟩
  · exact ⟨rfl, .inl ⟨rfl, rfl, rfl⟩, fun y hy => by cases hy⟩
  · exact ⟨rfl, .inr (.inl ⟨rfl, rfl, rfl⟩), fun y hy => by cases hy⟩
  · exact ⟨rfl, .inr (.inr (.inl ⟨rfl, h0, h1, rfl⟩)), fun y hy => by cases hy⟩
  · rcases hh with ⟨hp, hq⟩ | ⟨hp, rfl⟩
    · obtain ⟨r2, rfl⟩ := pre_one.1 hp
      rw [List.drop_succ_cons, List.drop_zero] at hq
      obtain ⟨h1, h2, k, kk, h3, h4, h5, h6⟩ := pL_print (fun l u => tL_suf f) (fun p u r => tL_alone) 3 hq
      rw [List.nil_append] at h3
      refine ⟨?_, .inr (.inr (.inr ⟨h1, by omega, by omega, by rw [h3]; exact h4⟩)), by rw [h3]; exact h6⟩
      unfold outT
      rw [if_neg (by omega), if_neg (by omega), if_neg (by omega), h3, conP_kids, h2, itoa_nat, ← h5]
    · refine ⟨?_, .inr (.inr (.inr ⟨rfl, by simp only; omega, by simp only; omega, by simp⟩)), fun y hy => by cases hy⟩
      show _ = conP (v : Int) [] ++ r
      rw [conP_nil, itoa_nat]
theorem tL_con {f : Nat} {x : Int} (h0 : 0 ≤ x) (h1 : x ≤ 99) {kids : List (List UInt8)} (hl : kids.length ≤ 3) (hk : ∀ y ∈ kids, ∃ v, tL f y = some v ∧ v.rest = []) : tL (f + 1) (conP x kids) = some ⟨2, x, kids, []⟩ := by
  obtain ⟨v, rfl⟩ : ∃ v : Nat, x = (v : Int) := ⟨x.toNat, by omega⟩
  rw [show conP (v : Int) kids = conP (v : Int) kids ++ [] by rw [List.append_nil]]
  cases kids with
  | nil => rw [conP_nil, itoa_nat, tL_tag (by omega) (.inl rfl), if_neg (fun q => by obtain ⟨r, e⟩ := pre_one.1 q; cases e)]
  | cons k kk =>
    rw [conP_kids, itoa_nat, tL_tag (by omega) (.inr (by rw [bt_cons]; decide)), if_pos ⟨_, rfl⟩, List.drop_succ_cons, List.drop_zero,
      pL_build (fun p u r h hu ho => by
        have := tL_rest f p u.kind u.num u.kids [] r (by rw [List.append_nil, h, ← hu]) ho
        exact this) 3 [] kk k [] hl hk]
    rfl

/-! ### Whole texts -/
def tP (s : List UInt8) : Option Tm := if s.length ≤ 1024 then (match tL (s.length + 1) s with
  | some t => if t.rest = [] then some t else none
  | none => none) else none

theorem termP_tP (s : List UInt8) : termP s = tP s := by
  unfold termP tP
  split
  · cases hc : cutP (s.length + 1) s with
    | some t => rw [cutP_tL _ hc]
    | none =>
      cases ht : tL (s.length + 1) s with
      | none => rfl
      | some t =>
        by_cases h : t.rest = []
        · rw [tL_cutP _ ht (by rw [h]; exact Stp.nil)] at hc; cases hc
        · simp only [if_neg h]
  · rfl
theorem refP_tP (s : List UInt8) : refP s = (tP s).map (toC s) := by
  unfold refP tP
  split
  · rw [rTerm_tL s _ 0 (by omega), List.drop_zero]
    cases ht : tL (s.length + 1) s with
    | none => rfl
    | some t =>
      simp only [Option.map_some, toC]
      have hs := (tL_suf _ ht).lt
      by_cases h : t.rest = []
      · rw [if_pos h, h, if_pos (by simp)]; simp [toC, h]
      · have := List.length_pos_iff.2 h
        rw [if_neg h, if_neg (by omega)]; rfl
  · rfl
theorem mayP_refP (s : List UInt8) : (refP s).isSome = mayP s := by
  unfold mayP; rw [refP_tP, termP_tP]; cases tP s <;> rfl
theorem tP_some {s : List UInt8} {u : Tm} (h : tP s = some u) : s.length ≤ 1024 ∧ tL (s.length + 1) s = some u ∧ u.rest = [] := by
  unfold tP at h
  split at h
  · rename_i hl
    cases ht : tL (s.length + 1) s with
    | none => rw [ht] at h; cases h
    | some t =>
      rw [ht] at h
      simp only at h
      split at h
      · rename_i hr; cases h; exact ⟨hl, rfl, hr⟩
      · cases h
  · cases h
theorem tP_of {s : List UInt8} {f : Nat} {u : Tm} (hl : s.length ≤ 1024) (hf : s.length < f) (h : tL f s = some u) (hr : u.rest = []) : tP s = some u := by
  unfold tP
  rw [if_pos hl, tL_fuel (s.length + 1) f s (by omega) hf, h]
  simp only [if_pos hr]
theorem mayP_iff (s : List UInt8) : mayP s = true ↔ ∃ u, tP s = some u := by
  unfold mayP; rw [termP_tP]; cases tP s <;> simp
/-- A part of a term is one, and shorter. -/
theorem tP_kid {s : List UInt8} {u : Tm} (h : tP s = some u) : ∀ y ∈ u.kids, mayP y = true ∧ y.length < s.length := by
  obtain ⟨hl, ht, hr⟩ := tP_some h
  have g := tL_good ht
  intro y hy
  have hlen : y.length < s.length := by
    rw [g.text, hr, List.append_nil]
    rcases g.form with ⟨_, _, h3⟩ | ⟨_, _, h3⟩ | ⟨_, _, _, h3⟩ | ⟨h1, _, _, _⟩
    · rw [h3] at hy; cases hy
    · rw [h3] at hy; cases hy
    · rw [h3] at hy; cases hy
    · unfold outT
      rw [if_neg (by omega), if_neg (by omega), if_neg (by omega)]
      cases hk : u.kids with
      | nil => rw [hk] at hy; cases hy
      | cons k kk =>
        rw [hk] at hy
        have e := conP_kids u.num k kk []
        rw [List.append_nil] at e
        rw [e]
        have : ∀ (kk : List (List UInt8)) (k : List UInt8), y ∈ k :: kk → y.length ≤ (ks (k :: kk) []).length := by
          intro kk
          induction kk with
          | nil => intro k hy; rw [List.mem_singleton] at hy; subst hy; rw [ks_one]; simp
          | cons k' kk ih =>
            intro k hy
            rw [ks_cons]
            rcases List.mem_cons.1 hy with rfl | hy
            · simp
            · have := ih k' hy; simp only [List.length_append, List.length_cons]; omega
        have := this kk k hy
        simp only [List.length_cons, List.length_append]; omega
  obtain ⟨v, hv, hv2⟩ := g.kids y hy
  exact ⟨(mayP_iff y).2 ⟨v, tP_of (by omega) hlen hv hv2⟩, hlen⟩
theorem outT_kids {s : List UInt8} {u : Tm} (h : tP s = some u) : s = outT u := by
  obtain ⟨_, ht, hr⟩ := tP_some h
  have g := tL_good ht
  rw [g.text, hr, List.append_nil]
/-- What is cut is made again. -/
theorem outP_again {s : List UInt8} {u : Tm} (h : tP s = some u) : outP u.kind u.num u.kids = s := by
  obtain ⟨hl, ht, hr⟩ := tP_some h
  have g := tL_good ht
  have hk := tP_kid h
  conv => rhs; rw [outT_kids h]
  unfold outP outT
  rcases g.form with ⟨h1, h2, h3⟩ | ⟨h1, h2, h3⟩ | ⟨h1, h2, h2', h3⟩ | ⟨h1, h2, h2', h3⟩
  · rw [if_neg (by omega), h3, if_neg (by simp), if_pos ⟨h1, h2⟩, if_pos h1]
  · rw [if_neg (by omega), h3, if_neg (by simp), if_neg (by omega), if_pos ⟨h1, h2⟩, if_neg (by omega), if_pos h1]
  · rw [if_neg (by omega), h3, if_neg (by simp), if_neg (by omega), if_neg (by omega), if_pos ⟨h1, h2, h2'⟩, if_neg (by omega), if_neg (by omega), if_pos h1]
  · rw [if_pos ⟨h1, ⟨h2, h2'⟩, h3, List.all_eq_true.2 fun y hy => (hk y hy).1⟩, if_neg (by omega), if_neg (by omega), if_neg (by omega)]
end Am.F
