/- Plain laws: numerals, as the program reads them and as the reference does. -/
import Derived.Test.YtpalaplnolcimaaDoorAmQA4
import Derived.Lib.AtoiTie
namespace Am.F
open Go Am

def isD (b : UInt8) : Prop := 48 ≤ b.toNat ∧ b.toNat ≤ 57
instance (b : UInt8) : Decidable (isD b) := by unfold isD; infer_instance

theorem decFrom_append : ∀ (xs ys : List UInt8) (a : Nat), Lib.decFrom a (xs ++ ys) = (Lib.decFrom a xs).bind fun b => Lib.decFrom b ys
  | [], ys, a => rfl
  | x :: xs, ys, a => by
    simp only [List.cons_append, Lib.decFrom]
    cases Lib.digitVal x with
    | none => rfl
    | some d => exact decFrom_append xs ys _

theorem ofNat_toNat {n : Nat} (h : n < 256) : (UInt8.ofNat n).toNat = n := by rw [UInt8.toNat_ofNat']; omega
theorem dgt_val {d : Nat} (h : d < 10) : Lib.digitVal (UInt8.ofNat (48 + d)) = some d := by
  unfold Lib.digitVal
  rw [ofNat_toNat (by omega), if_pos (by omega)]; congr 1; omega
theorem dgt_isD {d : Nat} (h : d < 10) : isD (UInt8.ofNat (48 + d)) := by unfold isD; rw [ofNat_toNat (by omega)]; omega

theorem decDigits_val (u : Nat) : Lib.decFrom 0 (Lib.decDigits u) = some u := by
  induction u using Nat.strongRecOn with
  | _ u ih =>
    rw [Lib.decDigits]
    split
    · rename_i h
      simp only [Lib.decFrom, dgt_val h, Nat.zero_mul, Nat.zero_add]
    · rename_i h
      rw [decFrom_append, ih (u / 10) (by omega)]
      simp only [Option.bind_some, Lib.decFrom, dgt_val (Nat.mod_lt u (by omega : 0 < 10))]
      congr 1; omega
theorem decDigits_inj {u v : Nat} (h : Lib.decDigits u = Lib.decDigits v) : u = v := by
  have := decDigits_val u; rw [h, decDigits_val] at this; exact (Option.some.inj this).symm
theorem decDigits_isD (u : Nat) : ∀ b ∈ Lib.decDigits u, isD b := by
  induction u using Nat.strongRecOn with
  | _ u ih =>
    rw [Lib.decDigits]
    split
    · rename_i h; intro b hb; rw [List.mem_singleton] at hb; subst hb; exact dgt_isD h
    · rename_i h; intro b hb
      rcases List.mem_append.1 hb with hb | hb
      · exact ih (u / 10) (by omega) b hb
      · rw [List.mem_singleton] at hb; subst hb; exact dgt_isD (Nat.mod_lt u (by omega))
theorem decDigits_ne (u : Nat) : Lib.decDigits u ≠ [] := by
  rw [Lib.decDigits]; split
  · simp
  · simp
theorem decDigits_head (u : Nat) (hu : 0 < u) : bt (Lib.decDigits u) 0 ≠ 48 := by
  induction u using Nat.strongRecOn with
  | _ u ih =>
    rw [Lib.decDigits]
    split
    · rename_i h
      show (UInt8.ofNat (48 + u)).toNat ≠ 48
      rw [ofNat_toNat (by omega)]; omega
    · rename_i h
      have h2 := ih (u / 10) (by omega) (by omega)
      have hne := decDigits_ne (u / 10)
      cases hd : Lib.decDigits (u / 10) with
      | nil => exact absurd hd hne
      | cons b r => rw [hd] at h2; exact h2
theorem decDigits_zero : Lib.decDigits 0 = [48] := by rw [Lib.decDigits, dif_pos (by omega)]; rfl
theorem decDigits_step {u d : Nat} (hu : 0 < u) (hd : d < 10) : Lib.decDigits (10 * u + d) = Lib.decDigits u ++ [UInt8.ofNat (48 + d)] := by
  rw [Lib.decDigits, dif_neg (by omega), show (10 * u + d) / 10 = u by omega, show (10 * u + d) % 10 = d by omega]
theorem decDigits_length_le {u k : Nat} (h : u < 10 ^ (k + 1)) : (Lib.decDigits u).length ≤ k + 1 := decDigits_len k u h

/-! ### What Atoi and Itoa together accept -/
theorem decNat_dec (u : Nat) : Lib.decNat (Lib.decDigits u) = some u := by
  unfold Lib.decNat
  have := decDigits_ne u
  cases hd : Lib.decDigits u with
  | nil => exact absurd hd this
  | cons b r => rw [← hd]; simp only [hd, List.isEmpty_cons]; rw [← hd]; exact decDigits_val u

theorem atoi_itoa {x : Int} (h0 : -32768 ≤ x) (h1 : x ≤ 32767) : Lib.atoiAll (Lib.itoa x) = .ok x := by
  have hl : (Lib.itoa x).length ≤ 18 := by
    unfold Lib.itoa
    split
    · have := decDigits_len 4 x.natAbs (by omega); simp only [List.length_cons]; omega
    · have := decDigits_len 4 x.toNat (by omega); omega
  rw [Lib.atoiAll_short _ hl]
  unfold Lib.itoa
  split
  · rename_i hneg
    simp only [Lib.atoi, beq_self_eq_true, if_true, decNat_dec, Option.map_some, Lib.NumEnd.ofOption]
    congr 1; omega
  · rename_i hneg
    have hb : ∀ b ∈ Lib.decDigits x.toNat, isD b := decDigits_isD _
    cases hd : Lib.decDigits x.toNat with
    | nil => exact absurd hd (decDigits_ne _)
    | cons b r =>
      rw [hd] at hb
      obtain ⟨h2, h3⟩ := hb b (List.mem_cons_self ..)
      have n45 : (b == 45) = false := by
        rw [beq_eq_false_iff_ne]; intro q; subst q; exact absurd h2 (by decide)
      have n43 : (b == 43) = false := by
        rw [beq_eq_false_iff_ne]; intro q; subst q; exact absurd h2 (by decide)
      simp only [Lib.atoi, n45, n43, Bool.false_eq_true, if_false]
      rw [← hd, decNat_dec]
      simp only [Option.map_some, Lib.NumEnd.ofOption]
      congr 1; omega

theorem numX_itoa {x : Int} (h0 : -32768 ≤ x) (h1 : x ≤ 32767) : numX (Lib.itoa x) = x := by unfold numX; rw [atoi_itoa h0 h1]
theorem okX_itoa {x : Int} (h0 : -32768 ≤ x) (h1 : x ≤ 32767) : okX (Lib.itoa x) = true := by unfold okX; rw [atoi_itoa h0 h1]
theorem numP_iff (w : List UInt8) : numP w = true ↔ ∃ x, -32768 ≤ x ∧ x ≤ 32767 ∧ w = Lib.itoa x := by
  unfold numP
  rw [decide_eq_true_eq]
  constructor
  · rintro ⟨_, ⟨h1, h2⟩, h3⟩; exact ⟨_, h1, h2, h3.symm⟩
  · rintro ⟨x, h1, h2, rfl⟩; rw [numX_itoa h1 h2]; exact ⟨okX_itoa h1 h2, ⟨h1, h2⟩, rfl⟩
theorem digP_iff (most : Int) (hm : most ≤ 32767) (w : List UInt8) : digP most w = true ↔ ∃ x : Int, 0 ≤ x ∧ x ≤ most ∧ w = Lib.itoa x := by
  unfold digP
  rw [decide_eq_true_eq]
  constructor
  · rintro ⟨_, ⟨h1, h2⟩, h3⟩; exact ⟨_, h1, h2, h3.symm⟩
  · rintro ⟨x, h1, h2, rfl⟩; rw [numX_itoa (by omega) (by omega)]; exact ⟨okX_itoa (by omega) (by omega), ⟨h1, h2⟩, rfl⟩
theorem itoa_nat (u : Nat) : Lib.itoa (u : Int) = Lib.decDigits u := by unfold Lib.itoa; rw [if_neg (by omega)]; simp
theorem itoa_neg' {u : Nat} (h : 0 < u) : Lib.itoa (-(u : Int)) = 45 :: Lib.decDigits u := by unfold Lib.itoa; rw [if_pos (by omega)]; simp

/-! ### What the reference's digits take -/
theorem digF_spec (s : List UInt8) : ∀ (f x k : Nat), 6 < f + k → (∀ j, j < k → digC s j) → (∀ j, j < (digF s f x k).2 → digC s j) ∧ ¬ digC s (digF s f x k).2
  | 0, x, k, h1, h2 => ⟨h2, fun h => by
      have := h.2.1
      have : (digF s 0 x k).2 = k := rfl
      omega⟩
  | f + 1, x, k, h1, h2 => by
    unfold digF
    split
    · rename_i hc
      exact digF_spec s f _ _ (by omega) fun j hj => by
        by_cases h : j = k
        · rw [h]; exact hc
        · exact h2 j (by omega)
    · rename_i hc; exact ⟨h2, hc⟩
theorem take_bt {s : List UInt8} {k : Nat} (hk : k < s.length) : s.take (k + 1) = s.take k ++ [UInt8.ofNat (bt s k)] := by
  rw [List.take_succ_eq_append_getElem hk]
  congr 2
  simp [bt, List.getD_eq_getElem?_getD, hk]
theorem bt_take {s : List UInt8} {k : Nat} (hk : 0 < k) : bt (s.take k) 0 = bt s 0 := by
  cases s with
  | nil => simp [bt]
  | cons b s => cases k with | zero => omega | succ k => rfl
theorem digF_take (s : List UInt8) : ∀ (f x k : Nat), (k = 0 ∧ x = 0 ∨ 0 < k ∧ s.take k = Lib.decDigits x) → 0 < (digF s f x k).2 → s.take (digF s f x k).2 = Lib.decDigits (digF s f x k).1
  | 0, x, k, h, hp => by
    rcases h with ⟨rfl, rfl⟩ | ⟨_, h⟩
    · exact absurd hp (Nat.lt_irrefl 0)
    · exact h
  | f + 1, x, k, h, hp => by
    by_cases hc : digC s k
    · have e : digF s (f + 1) x k = digF s f (10 * x + (bt s k - 48)) (k + 1) := by simp only [digF, if_pos hc]
      rw [e] at hp ⊢
      refine digF_take s f _ _ (.inr ⟨by omega, ?_⟩) hp
      obtain ⟨h1, h2, h3, h4, h5⟩ := hc
      rw [take_bt h1]
      rcases h with ⟨rfl, rfl⟩ | ⟨hk, h⟩
      · rw [Lib.decDigits, dif_pos (by omega)]; simp only [List.take_zero, List.nil_append]; congr 2; omega
      · have hx : 0 < x := by
          rcases Nat.eq_zero_or_pos x with h0 | h0
          · exfalso
            rw [h0, decDigits_zero] at h
            have := bt_take (s := s) hk
            rw [h] at this
            rcases h5 with h5 | h5
            · omega
            · exact h5 (this.symm.trans (by rfl))
          · exact h0
        rw [decDigits_step hx (by omega), h]; congr 3; omega
    · have e : digF s (f + 1) x k = (x, k) := by simp only [digF, if_neg hc]
      rw [e] at hp ⊢
      rcases h with ⟨rfl, rfl⟩ | ⟨_, h⟩
      · exact absurd hp (Nat.lt_irrefl 0)
      · exact h
theorem dig_take {s : List UInt8} (h : 0 < (dig s).2) : s.take (dig s).2 = Lib.decDigits (dig s).1 := digF_take s 7 0 0 (.inl ⟨rfl, rfl⟩) h
theorem dig_split {s : List UInt8} (h : 0 < (dig s).2) : s = Lib.decDigits (dig s).1 ++ s.drop (dig s).2 := by rw [← dig_take h, List.take_append_drop]
theorem dig_len {s : List UInt8} (h : 0 < (dig s).2) : (dig s).2 = (Lib.decDigits (dig s).1).length := by
  have := congrArg List.length (dig_take h)
  have hb := dig_bd s
  rw [List.length_take] at this; omega

theorem bt_append_left {a b : List UInt8} {i : Nat} (h : i < a.length) : bt (a ++ b) i = bt a i := by
  simp [bt, List.getD_eq_getElem?_getD, List.getElem?_append_left h]
theorem bt_append_right {a b : List UInt8} : bt (a ++ b) a.length = bt b 0 := by
  simp [bt, List.getD_eq_getElem?_getD, List.getElem?_append_right (Nat.le_refl _)]
theorem bt_mem {a : List UInt8} {i : Nat} (h : i < a.length) : ∃ b ∈ a, b.toNat = bt a i := ⟨a[i], List.getElem_mem h, by simp [bt, List.getD_eq_getElem?_getD, h]⟩

/-- Digits, and behind them no digit: they are taken whole. -/
theorem dig_dec {u : Nat} (hu : u < 1000000) {r : List UInt8} (hr : r = [] ∨ ¬ (48 ≤ bt r 0 ∧ bt r 0 ≤ 57)) : dig (Lib.decDigits u ++ r) = (u, (Lib.decDigits u).length) := by
  have hl : (Lib.decDigits u).length ≤ 6 := decDigits_len 5 u (by omega)
  have hne := decDigits_ne u
  have hpos : 0 < (Lib.decDigits u).length := List.length_pos_iff.2 hne
  obtain ⟨h1, h2⟩ := digF_spec (Lib.decDigits u ++ r) 7 0 0 (by omega) (fun j hj => by omega)
  have hk : (dig (Lib.decDigits u ++ r)).2 = (Lib.decDigits u).length := by
    show (digF (Lib.decDigits u ++ r) 7 0 0).2 = _
    rcases Nat.lt_trichotomy (digF (Lib.decDigits u ++ r) 7 0 0).2 (Lib.decDigits u).length with h | h | h
    · exfalso
      apply h2
      obtain ⟨b, hb, hbv⟩ := bt_mem h
      obtain ⟨d1, d2⟩ := decDigits_isD u b hb
      refine ⟨by rw [List.length_append]; omega, by omega, by rw [bt_append_left h]; omega, by rw [bt_append_left h]; omega, ?_⟩
      by_cases h0 : (digF (Lib.decDigits u ++ r) 7 0 0).2 = 0
      · exact .inl h0
      · right
        rw [bt_append_left hpos]
        refine decDigits_head u ?_
        rcases Nat.eq_zero_or_pos u with hz | hz
        · rw [hz, decDigits_zero] at h; simp only [List.length_cons, List.length_nil] at h; rw [hz, decDigits_zero] at h0; omega
        · exact hz
    · exact h
    · exfalso
      obtain ⟨c1, c2, c3, c4, _⟩ := h1 _ h
      rw [bt_append_right] at c3 c4
      rcases hr with hr | hr
      · rw [hr, List.append_nil] at c1; omega
      · exact hr ⟨c3, c4⟩
  have hv : (dig (Lib.decDigits u ++ r)).1 = u := by
    have := dig_take (s := Lib.decDigits u ++ r) (by omega)
    rw [hk, List.take_left] at this
    exact (decDigits_inj this).symm
  exact Prod.ext hv hk
/-- No digit ahead: none is taken. -/
theorem dig_none {s : List UInt8} (hs : s = [] ∨ ¬ (48 ≤ bt s 0 ∧ bt s 0 ≤ 57)) : (dig s).2 = 0 := by
  obtain ⟨h1, h2⟩ := digF_spec s 7 0 0 (by omega) (fun j hj => by omega)
  rcases Nat.eq_zero_or_pos (dig s).2 with h | h
  · exact h
  · exfalso
    obtain ⟨c1, c2, c3, c4, _⟩ := h1 0 h
    rcases hs with hs | hs
    · rw [hs] at c1; simp at c1
    · exact hs ⟨c3, c4⟩
end Am.F
