/- Plain laws: the two readings of a term are one. -/
import Derived.Test.YtpalaplnolcimaaDoorAmLN
namespace Am.F
open Go Am

/-- From a list's head: the rest it leaves. -/
def pL (t : List UInt8 → Option Tm) (x : Int) : Nat → List (List UInt8) → List UInt8 → Option Tm
  | 0, _, _ => none
  | m + 1, kids, r => match t r with
    | none => none
    | some u => match u.rest with
      | [] => none
      | b :: r2 => if b = 41 then some ⟨2, x, kids ++ [r.take (r.length - u.rest.length)], r2⟩
        else if b = 32 then pL t x m (kids ++ [r.take (r.length - u.rest.length)]) r2
        else none
def tL : Nat → List UInt8 → Option Tm
  | 0, _ => none
  | f + 1, l =>
    if l = [] then none
    else if bt l 0 = 95 then some ⟨0, 0, [], l.drop 1⟩
    else if bt l 0 = 33 then some ⟨3, 0, [], l.drop 1⟩
    else if bt l 0 = 64 then
      (if (dig (l.drop 1)).2 = 0 ∨ 99 < (dig (l.drop 1)).1 then none
      else if [40] <+: (l.drop 1).drop (dig (l.drop 1)).2 then pL (tL f) (dig (l.drop 1)).1 3 [] (((l.drop 1).drop (dig (l.drop 1)).2).drop 1)
      else some ⟨2, (dig (l.drop 1)).1, [], (l.drop 1).drop (dig (l.drop 1)).2⟩)
    else if bt l 0 = 45 then
      (if (dig (l.drop 1)).2 = 0 ∨ (dig (l.drop 1)).1 = 0 ∨ 32768 < (dig (l.drop 1)).1 then none
      else some ⟨1, -(dig (l.drop 1)).1, [], (l.drop 1).drop (dig (l.drop 1)).2⟩)
    else if (dig l).2 = 0 ∨ 32767 < (dig l).1 then none
    else some ⟨1, (dig l).1, [], l.drop (dig l).2⟩

theorem pre_one {b : UInt8} {r : List UInt8} : [b] <+: r ↔ ∃ r2, r = b :: r2 := by
  constructor
  · rintro ⟨t, rfl⟩; exact ⟨t, rfl⟩
  · rintro ⟨t, rfl⟩; exact ⟨t, rfl⟩
theorem bt_drop (s : List UInt8) (i j : Nat) : bt (s.drop i) j = bt s (i + j) := by simp [bt, List.getD_eq_getElem?_getD]
theorem bt_cons (b : UInt8) (r : List UInt8) : bt (b :: r) 0 = b.toNat := rfl

/-- What is left is an end of what was there, and shorter. -/
def Suf (l r : List UInt8) : Prop := ∃ p, p ≠ [] ∧ l = p ++ r
theorem Suf.lt {l r : List UInt8} (h : Suf l r) : r.length < l.length := by
  obtain ⟨p, hp, rfl⟩ := h
  have := List.length_pos_iff.2 hp
  rw [List.length_append]; omega
theorem Suf.trans {l m r : List UInt8} (h : Suf l m) (h' : Suf m r) : Suf l r := by
  obtain ⟨p, hp, rfl⟩ := h
  obtain ⟨q, hq, rfl⟩ := h'
  exact ⟨p ++ q, fun e => hp (List.append_eq_nil_iff.1 e).1, (List.append_assoc ..).symm⟩
theorem Suf.cons (b : UInt8) (r : List UInt8) : Suf (b :: r) r := ⟨[b], by simp, rfl⟩
theorem Suf.drop1 {l : List UInt8} (h : l ≠ []) : Suf l (l.drop 1) := by
  cases l with
  | nil => exact absurd rfl h
  | cons b r => exact Suf.cons b r
theorem Suf.dropLe {l r : List UInt8} (h : Suf l r) (n : Nat) : Suf l (r.drop n) := by
  obtain ⟨p, hp, rfl⟩ := h
  exact ⟨p ++ r.take n, fun e => hp (List.append_eq_nil_iff.1 e).1, by rw [List.append_assoc, List.take_append_drop]⟩

theorem pL_suf {t : List UInt8 → Option Tm} {x : Int} (ht : ∀ l u, t l = some u → Suf l u.rest) : ∀ (m : Nat) {kids : List (List UInt8)} {r : List UInt8} {u : Tm}, pL t x m kids r = some u → Suf r u.rest
  | 0, kids, r, u, h => by cases h
  | m + 1, kids, r, u, h => by
    simp only [pL] at h
    cases hv : t r with
    | none => rw [hv] at h; cases h
    | some v =>
      rw [hv] at h
      have h1 := ht _ _ hv
      cases hr : v.rest with
      | nil => simp only [hr] at h; cases h
      | cons b r2 =>
        simp only [hr] at h
        rw [hr] at h1
        split at h
        · cases h; exact h1.trans (Suf.cons b r2)
        split at h
        · exact (h1.trans (Suf.cons b r2)).trans (pL_suf ht m h)
        · cases h
theorem tL_suf : ∀ (f : Nat) {l : List UInt8} {u : Tm}, tL f l = some u → Suf l u.rest
  | 0, l, u, h => by cases h
  | f + 1, l, u, h => by
    simp only [tL] at h
    split at h
    · cases h
    rename_i hl
    have h1 := Suf.drop1 hl
    split at h
    · cases h; exact h1
    split at h
    · cases h; exact h1
    split at h
    · split at h
      · cases h
      split at h
      · exact ((h1.dropLe _).dropLe 1).trans (pL_suf (fun l u => tL_suf f) 3 h)
      · cases h; exact h1.dropLe _
    split at h
    · split at h
      · cases h
      · cases h; exact h1.dropLe _
    split at h
    · cases h
    · rename_i hd
      cases h
      have hp : 0 < (dig l).2 := by omega
      refine ⟨l.take (dig l).2, fun e => ?_, (List.take_append_drop ..).symm⟩
      have := congrArg List.length e
      have hb := dig_bd l
      rw [List.length_take, List.length_nil] at this; omega

/-! ### The reference's reading -/
def toC (s : List UInt8) (u : Tm) : Ct := ⟨u.kind, u.num, u.kids, s.length - u.rest.length⟩

theorem drop_of_suf {s r : List UInt8} {i : Nat} (h : Suf (s.drop i) r) (hi : i ≤ s.length) : r = s.drop (s.length - r.length) ∧ i < s.length - r.length ∧ s.length - r.length ≤ s.length := by
  obtain ⟨p, hp, e⟩ := h
  have hpl := List.length_pos_iff.2 hp
  have hl := congrArg List.length e
  rw [List.length_drop, List.length_append] at hl
  have : s.length - r.length = i + p.length := by omega
  refine ⟨?_, by omega, by omega⟩
  rw [this, ← List.drop_drop, e, List.drop_left]

theorem rPart_pL {s : List UInt8} {rt : Nat → Option Ct} {t : List UInt8 → Option Tm} (ht : ∀ l u, t l = some u → Suf l u.rest) (x : Int) : ∀ (m : Nat) (kids : List (List UInt8)) (i : Nat),
    i ≤ s.length → (∀ i, i ≤ s.length → rt i = (t (s.drop i)).map (toC s)) → rPart rt s x m kids i = (pL t x m kids (s.drop i)).map (toC s)
  | 0, kids, i, hi, hr => rfl
  | m + 1, kids, i, hi, hr => by
    simp only [rPart, pL, hr i hi]
    cases hv : t (s.drop i) with
    | none => rfl
    | some v =>
      have hs := ht _ _ hv
      obtain ⟨d1, d2, d3⟩ := drop_of_suf hs hi
      simp only [Option.map_some, toC]
      have hk : (s.take (s.length - v.rest.length)).drop i = (s.drop i).take ((s.drop i).length - v.rest.length) := by
        rw [List.drop_take, List.length_drop]; congr 1; omega
      cases hvr : v.rest with
      | nil => rw [hvr] at d1; simp only [List.length_nil, Nat.sub_zero, Nat.le_refl, if_true, Option.map_none]
      | cons b r2 =>
        rw [hvr] at d1 d2 hk
        have hlt : ¬ s.length ≤ s.length - (b :: r2).length := by
          have := hs.lt; rw [hvr, List.length_drop] at this; simp only [List.length_cons] at this ⊢; omega
        have hb : bt s (s.length - (b :: r2).length) = b.toNat := by
          have := bt_drop s (s.length - (b :: r2).length) 0
          rw [Nat.add_zero, ← d1] at this; exact this.symm
        rw [if_neg hlt, hb, hk]
        have e41 : b.toNat = 41 ↔ b = 41 := by rw [← UInt8.toNat_inj]; rfl
        have e32 : b.toNat = 32 ↔ b = 32 := by rw [← UInt8.toNat_inj]; rfl
        have hto : s.length - (b :: r2).length + 1 = s.length - r2.length := by
          have := hs.lt; rw [hvr, List.length_drop] at this; simp only [List.length_cons] at this ⊢; omega
        have hdr : s.drop (s.length - r2.length) = r2 := by
          rw [← hto, ← List.drop_drop, ← d1]; rfl
        by_cases h1 : b = 41
        · simp only [if_pos (e41.2 h1), if_pos h1, Option.map_some, hto, toC]
        · simp only [if_neg (fun q => h1 (e41.1 q)), if_neg h1]
          by_cases h2 : b = 32
          · simp only [if_pos (e32.2 h2), if_pos h2, hto]; rw [rPart_pL ht x m _ _ (by omega) hr, hdr]
          · simp only [if_neg (fun q => h2 (e32.1 q)), if_neg h2]; rfl
theorem rTerm_tL (s : List UInt8) : ∀ (f i : Nat), i ≤ s.length → rTerm s f i = (tL f (s.drop i)).map (toC s)
  | 0, i, hi => rfl
  | f + 1, i, hi => by
    have ih := rTerm_tL s f
    have hb : bt (s.drop i) 0 = bt s i := by rw [bt_drop, Nat.add_zero]
    have hd1 : (s.drop i).drop 1 = s.drop (i + 1) := by rw [List.drop_drop]
    have hbd := dig_bd (s.drop (i + 1))
    have hbd' := dig_bd (s.drop i)
    rw [List.length_drop] at hbd hbd'
    simp only [rTerm, tL, hb, hd1]
    by_cases c0 : s.length ≤ i
    · rw [if_pos c0, if_pos (List.drop_eq_nil_of_le c0)]; rfl
    have c0' : ¬ s.drop i = [] := fun q => by have := congrArg List.length q; rw [List.length_drop, List.length_nil] at this; omega
    rw [if_neg c0, if_neg c0']
    have hl1 : s.length - (s.drop (i + 1)).length = i + 1 := by rw [List.length_drop]; omega
    by_cases c1 : bt s i = 95
    · rw [if_pos c1, if_pos c1, Option.map_some, toC, hl1]
    rw [if_neg c1, if_neg c1]
    by_cases c2 : bt s i = 33
    · rw [if_pos c2, if_pos c2, Option.map_some, toC, hl1]
    rw [if_neg c2, if_neg c2]
    by_cases c3 : bt s i = 64
    · rw [if_pos c3, if_pos c3]
      by_cases c4 : (dig (s.drop (i + 1))).2 = 0 ∨ 99 < (dig (s.drop (i + 1))).1
      · rw [if_pos c4, if_pos c4]; rfl
      rw [if_neg c4, if_neg c4]
      have hdd : (s.drop (i + 1)).drop (dig (s.drop (i + 1))).2 = s.drop (i + 1 + (dig (s.drop (i + 1))).2) := by rw [List.drop_drop]
      have hl2 : s.length - (s.drop (i + 1 + (dig (s.drop (i + 1))).2)).length = i + 1 + (dig (s.drop (i + 1))).2 := by rw [List.length_drop]; omega
      rw [hdd]
      have hpre : [40] <+: s.drop (i + 1 + (dig (s.drop (i + 1))).2) ↔ i + 1 + (dig (s.drop (i + 1))).2 < s.length ∧ bt s (i + 1 + (dig (s.drop (i + 1))).2) = 40 := by
        have hb2 := bt_drop s (i + 1 + (dig (s.drop (i + 1))).2) 0
        simp only [Nat.add_zero] at hb2
        rw [pre_one]
        constructor
        · rintro ⟨r2, e⟩
          have := congrArg List.length e
          rw [List.length_drop, List.length_cons] at this
          rw [e] at hb2
          exact ⟨by omega, hb2.symm⟩
        · rintro ⟨h1, h2⟩
          cases hx : s.drop (i + 1 + (dig (s.drop (i + 1))).2) with
          | nil => have := congrArg List.length hx; rw [List.length_drop, List.length_nil] at this; omega
          | cons b r2 =>
            rw [hx, h2, bt_cons] at hb2
            exact ⟨r2, by rw [show b = 40 from UInt8.toNat_inj.1 hb2]⟩
      by_cases c5 : i + 1 + (dig (s.drop (i + 1))).2 < s.length ∧ bt s (i + 1 + (dig (s.drop (i + 1))).2) = 40
      · rw [if_pos c5, if_pos (hpre.2 c5), rPart_pL (fun l u => tL_suf f) _ 3 [] _ (by omega) (fun j hj => ih j hj), List.drop_drop]
      · rw [if_neg c5, if_neg (fun q => c5 (hpre.1 q)), Option.map_some, toC, hl2]
    rw [if_neg c3, if_neg c3]
    by_cases c4 : bt s i = 45
    · rw [if_pos c4, if_pos c4]
      by_cases c5 : (dig (s.drop (i + 1))).2 = 0 ∨ (dig (s.drop (i + 1))).1 = 0 ∨ 32768 < (dig (s.drop (i + 1))).1
      · rw [if_pos c5, if_pos c5]; rfl
      · rw [if_neg c5, if_neg c5, Option.map_some, toC, List.drop_drop]
        congr 2; rw [List.length_drop]; omega
    rw [if_neg c4, if_neg c4]
    by_cases c5 : (dig (s.drop i)).2 = 0 ∨ 32767 < (dig (s.drop i)).1
    · rw [if_pos c5, if_pos c5]; rfl
    · rw [if_neg c5, if_neg c5, Option.map_some, toC, List.drop_drop]
      congr 2; rw [List.length_drop]; omega

/-! ### The program's reading -/
def Stp (r : List UInt8) : Prop := wA r = []
theorem Stp.nil : Stp [] := rfl
theorem stp_cons {b : UInt8} {r : List UInt8} (h : stop b = true) : Stp (b :: r) := by simp [Stp, wA, h]
theorem stp_wB (s : List UInt8) : Stp (wB s) := by
  unfold Stp wA wB
  cases h : s.dropWhile fun b => !stop b with
  | nil => rfl
  | cons b r =>
    have := List.head_dropWhile_not (fun b => !stop b) (l := s) (by rw [h]; simp)
    simp only [h, List.head_cons] at this
    simp [this]
theorem stp_head {r : List UInt8} (h : Stp r) : r = [] ∨ ∃ b r2, r = b :: r2 ∧ stop b = true := by
  cases r with
  | nil => exact .inl rfl
  | cons b r2 =>
    refine .inr ⟨b, r2, rfl, ?_⟩
    unfold Stp wA at h
    cases hb : stop b with
    | true => rfl
    | false => simp [hb] at h
theorem stop_isD {b : UInt8} (h : isD b) : stop b = false := by
  obtain ⟨h1, h2⟩ := h
  unfold stop
  have a : ∀ c : UInt8, c.toNat < 48 → (b == c) = false := fun c hc => by
    rw [beq_eq_false_iff_ne]; intro q; subst q; omega
  rw [a 32 (by decide), a 40 (by decide), a 41 (by decide)]; rfl
theorem stp_nd {r : List UInt8} (h : Stp r) : r = [] ∨ ¬ (48 ≤ bt r 0 ∧ bt r 0 ≤ 57) := by
  rcases stp_head h with h | ⟨b, r2, rfl, hb⟩
  · exact .inl h
  · right
    rw [bt_cons]; intro q
    rw [stop_isD q] at hb; cases hb
/-- A word, and behind it nothing of a word. -/
theorem w_split {w r : List UInt8} (hw : ∀ b ∈ w, stop b = false) (hr : Stp r) : wA (w ++ r) = w ∧ wB (w ++ r) = r := by
  induction w with
  | nil =>
    refine ⟨hr, ?_⟩
    rcases stp_head hr with rfl | ⟨b, r2, rfl, hb⟩
    · rfl
    · simp [wB, hb]
  | cons b w ih =>
    obtain ⟨h1, h2⟩ := ih fun c hc => hw c (List.mem_cons_of_mem _ hc)
    have hb := hw b (List.mem_cons_self ..)
    refine ⟨?_, ?_⟩
    · show (b :: (w ++ r)).takeWhile _ = _
      rw [List.takeWhile_cons_of_pos (by simp [hb])]
      exact congrArg (b :: ·) h1
    · show (b :: (w ++ r)).dropWhile _ = _
      rw [List.dropWhile_cons_of_pos (by simp [hb])]
      exact h2
theorem itoa_head (x : Int) : ∃ b r, Lib.itoa x = b :: r ∧ (b = 45 ∨ isD b) := by
  unfold Lib.itoa
  split
  · exact ⟨45, _, rfl, .inl rfl⟩
  · cases hd : Lib.decDigits x.toNat with
    | nil => exact absurd hd (decDigits_ne _)
    | cons b r => exact ⟨b, r, rfl, .inr (decDigits_isD _ b (by rw [hd]; exact List.mem_cons_self ..))⟩
theorem itoa_stop {x : Int} : ∀ b ∈ Lib.itoa x, stop b = false := by
  intro b hb
  unfold Lib.itoa at hb
  split at hb
  · rcases List.mem_cons.1 hb with rfl | hb
    · decide
    · exact stop_isD (decDigits_isD _ b hb)
  · exact stop_isD (decDigits_isD _ b hb)
theorem isD_ne {b : UInt8} (h : isD b) (c : UInt8) (hc : ¬ isD c) : b ≠ c := fun q => hc (q ▸ h)
theorem numP_head {b : UInt8} {r : List UInt8} (hb : b ≠ 45 ∧ ¬ isD b) : numP (b :: r) = false := by
  rw [← Bool.not_eq_true, numP_iff]
  rintro ⟨x, _, _, e⟩
  obtain ⟨c, r', e', hc⟩ := itoa_head x
  rw [e'] at e
  injection e with e1 e2
  subst e1
  rcases hc with hc | hc
  · exact hb.1 hc
  · exact hb.2 hc

/-- What stands ahead of its rest decides. -/
theorem tL_num {f : Nat} {x : Int} (h0 : -32768 ≤ x) (h1 : x ≤ 32767) {r : List UInt8} (hr : r = [] ∨ ¬ (48 ≤ bt r 0 ∧ bt r 0 ≤ 57)) : tL (f + 1) (Lib.itoa x ++ r) = some ⟨1, x, [], r⟩ := by
  unfold tL
  by_cases hx : x < 0
  · obtain ⟨u, rfl⟩ : ∃ u : Nat, x = -(u : Int) := ⟨x.natAbs, by omega⟩
    rw [itoa_neg' (by omega)]
    simp only [List.cons_append, List.drop_succ_cons, List.drop_zero, dig_dec (show u < 1000000 by omega) hr, bt_cons]
    have hp := List.length_pos_iff.2 (decDigits_ne u)
    rw [if_neg (by simp), if_neg (by decide), if_neg (by decide), if_neg (by decide), if_pos (by decide), if_neg (by omega), List.drop_left]
  · obtain ⟨u, rfl⟩ : ∃ u : Nat, x = (u : Int) := ⟨x.toNat, by omega⟩
    rw [itoa_nat]
    have hp := List.length_pos_iff.2 (decDigits_ne u)
    have hh : isD (UInt8.ofNat (bt (Lib.decDigits u ++ r) 0)) ∧ bt (Lib.decDigits u ++ r) 0 < 256 := by
      obtain ⟨b, hb, hv⟩ := bt_mem hp
      rw [bt_append_left hp, ← hv]
      exact ⟨by simpa using decDigits_isD u b hb, b.toNat_lt⟩
    obtain ⟨⟨h2, h3⟩, h4⟩ := hh
    rw [ofNat_toNat h4] at h2 h3
    simp only [dig_dec (show u < 1000000 by omega) hr]
    rw [if_neg (by simp [decDigits_ne]), if_neg (by omega), if_neg (by omega), if_neg (by omega), if_neg (by omega), if_neg (by omega), List.drop_left]
theorem tL_hole {f : Nat} (r : List UInt8) : tL (f + 1) (95 :: r) = some ⟨0, 0, [], r⟩ := by
  unfold tL; rw [if_neg (by simp), if_pos (by rfl)]; rfl
theorem tL_fail {f : Nat} (r : List UInt8) : tL (f + 1) (33 :: r) = some ⟨3, 0, [], r⟩ := by
  unfold tL; rw [if_neg (by simp), if_neg (by rw [bt_cons]; decide), if_pos (by rfl)]; rfl
theorem tL_tag {f : Nat} {u : Nat} (hu : u ≤ 99) {r : List UInt8} (hr : r = [] ∨ ¬ (48 ≤ bt r 0 ∧ bt r 0 ≤ 57)) : tL (f + 1) (64 :: (Lib.decDigits u ++ r)) = if [40] <+: r then pL (tL f) u 3 [] (r.drop 1) else some ⟨2, u, [], r⟩ := by
  conv => lhs; unfold tL
  have hp := List.length_pos_iff.2 (decDigits_ne u)
  simp only [List.drop_succ_cons, List.drop_zero, dig_dec (show u < 1000000 by omega) hr, bt_cons, List.drop_left]
  rw [if_neg (by simp), if_neg (by decide), if_neg (by decide), if_pos (by decide), if_neg (by omega)]

/-- The forms that there are. -/
theorem tL_forms {f : Nat} {l : List UInt8} {v : Tm} (h : tL (f + 1) l = some v) : (∃ r, l = 95 :: r ∧ v = ⟨0, 0, [], r⟩) ∨ (∃ r, l = 33 :: r ∧ v = ⟨3, 0, [], r⟩) ∨
    (∃ x r, -32768 ≤ x ∧ x ≤ 32767 ∧ l = Lib.itoa x ++ r ∧ v = ⟨1, x, [], r⟩) ∨ (∃ (u : Nat) (r : List UInt8), u ≤ 99 ∧ l = 64 :: (Lib.decDigits u ++ r) ∧ (([40] <+: r ∧ pL (tL f) u 3 [] (r.drop 1) = some v) ∨ (¬ [40] <+: r ∧ v = ⟨2, u, [], r⟩))) := by
  unfold tL at h
  split at h
  · cases h
  rename_i hl
  obtain ⟨b, r, rfl⟩ : ∃ b r, l = b :: r := by
    cases l with
    | nil => exact absurd rfl hl
    | cons b r => exact ⟨b, r, rfl⟩
  have hb : ∀ c : UInt8, bt (b :: r) 0 = c.toNat → b = c := fun c q => UInt8.toNat_inj.1 (by rw [bt_cons] at q; exact q)
  simp only [List.drop_succ_cons, List.drop_zero] at h
  split at h
  · rename_i q; rw [hb 95 q] at *; exact .inl ⟨r, rfl, (Option.some.inj h).symm⟩
  split at h
  · rename_i q; rw [hb 33 q] at *; exact .inr (.inl ⟨r, rfl, (Option.some.inj h).symm⟩)
  split at h
  · rename_i q
    rw [hb 64 q]
    split at h
    · cases h
    rename_i hd
    have hs := dig_split (s := r) (by omega)
    refine .inr (.inr (.inr ⟨(dig r).1, r.drop (dig r).2, by omega, by rw [← hs], ?_⟩))
    split at h
    · rename_i hp; exact .inl ⟨hp, h⟩
    · rename_i hp; exact .inr ⟨hp, (Option.some.inj h).symm⟩
  split at h
  · rename_i q
    rw [hb 45 q]
    split at h
    · cases h
    rename_i hd
    have hs := dig_split (s := r) (by omega)
    refine .inr (.inr (.inl ⟨-((dig r).1 : Int), r.drop (dig r).2, by omega, by omega, ?_, (Option.some.inj h).symm⟩))
    rw [itoa_neg' (by omega), List.cons_append, ← hs]
  split at h
  · cases h
  · rename_i hd
    have hs := dig_split (s := b :: r) (by omega)
    refine .inr (.inr (.inl ⟨((dig (b :: r)).1 : Int), (b :: r).drop (dig (b :: r)).2, by omega, by omega, ?_, (Option.some.inj h).symm⟩))
    rw [itoa_nat, ← hs]
end Am.F
