/- Walks: what the functions of package term, and of the reference's first layers, come to. -/
import Derived.Test.YtpalaplnolcimaaDoorAmStd
import Derived.Test.YtpalaplnolcimaaDoorAmGAW
set_option linter.unusedSimpArgs false
set_option linter.unusedVariables false
namespace Am.F
open Go Am

/-! ### Plain words -/

def stop (b : UInt8) : Bool := b == 32 || b == 40 || b == 41
def wA (s : List UInt8) : List UInt8 := s.takeWhile fun b => !stop b
def wB (s : List UInt8) : List UInt8 := s.dropWhile fun b => !stop b

theorem wA_wB (s : List UInt8) : wA s ++ wB s = s := List.takeWhile_append_dropWhile
theorem wA_len (s : List UInt8) : (wA s).length ≤ s.length := by
  have := congrArg List.length (wA_wB s); rw [List.length_append] at this; omega
theorem wB_len (s : List UInt8) : (wB s).length ≤ s.length := by
  have := congrArg List.length (wA_wB s); rw [List.length_append] at this; omega
theorem wA_take (s : List UInt8) : s.take (wA s).length = wA s := by
  conv => lhs; arg 2; rw [← wA_wB s]
  exact List.take_left
theorem wB_drop (s : List UInt8) : s.drop (wA s).length = wB s := by
  conv => lhs; arg 2; rw [← wA_wB s]
  exact List.drop_left

theorem indexAny_w : ∀ s : List UInt8, Lib.indexAny s [32, 40, 41] = if (wA s).length < s.length then ((wA s).length : Int) else -1
  | [] => rfl
  | b :: s => by
    have ih := indexAny_w s
    have hc : [32, 40, 41].contains b = stop b := by simp only [stop, List.contains_cons, List.contains_nil, Bool.or_false, Bool.or_assoc]
    rw [Lib.indexAny, hc]
    cases hb : stop b with
    | true => simp [wA, hb]
    | false =>
      have : (wA (b :: s)).length = (wA s).length + 1 := by simp [wA, hb]
      rw [this, ih]
      have := wA_len s
      by_cases h1 : (wA s).length < s.length
      · have h3 : ¬ (((wA s).length : Int) = -1) := by omega
        simp [h1, h3]
      · simp [h1]

/-- Of a word, the number that Atoi gives. -/
def numX (w : List UInt8) : Int := match Lib.atoiAll w with
  | .ok x => x
  | .range => Lib.atoiSat w
  | _ => 0
def okX (w : List UInt8) : Bool := match Lib.atoiAll w with
  | .ok _ => true
  | _ => false
def numP (w : List UInt8) : Bool := decide (okX w = true ∧ (-32768 ≤ numX w ∧ numX w ≤ 32767) ∧ Lib.itoa (numX w) = w)
def digP (most : Int) (w : List UInt8) : Bool := decide (okX w = true ∧ (0 ≤ numX w ∧ numX w ≤ most) ∧ Lib.itoa (numX w) = w)
def tagP (w : List UInt8) : Bool := decide ([64] <+: w) && digP 99 (w.drop 1)
def tagX (w : List UInt8) : Int := numX (if [64] <+: w then w.drop 1 else w)

theorem atoiV_eq (w : List UInt8) : ∃ e, atoiV w = .tup [.int .i64 (numX w), e] ∧ ((okX w = true ∧ e = .nili) ∨ (okX w = false ∧ e = .opq)) := by
  unfold atoiV numX okX
  cases Lib.atoiAll w <;> exact ⟨_, rfl, by simp⟩
theorem numX_bd (w : List UInt8) : -9223372036854775808 ≤ numX w ∧ numX w ≤ 9223372036854775807 := by
  unfold numX
  cases h : Lib.atoiAll w with
  | ok x =>
    show -9223372036854775808 ≤ x ∧ x ≤ 9223372036854775807
    cases w with
    | nil => cases h
    | cons c r =>
      simp only [Lib.atoiAll] at h
      split at h
      · cases h
      · cases h
      · rename_i u hu
        split at h
        · cases h
        · split at h
          · cases h
          · cases h
            split <;> omega
  | range => show -9223372036854775808 ≤ Lib.atoiSat w ∧ Lib.atoiSat w ≤ 9223372036854775807; unfold Lib.atoiSat; split <;> omega
  | _ => show (-9223372036854775808 : Int) ≤ 0 ∧ (0 : Int) ≤ 9223372036854775807; omega

/-- What a term is cut into, and what stands behind it. -/
structure Tm where
  kind : Int
  num : Int
  kids : List (List UInt8)
  rest : List UInt8

def closeP (x : Int) (kids : List (List UInt8)) (r : List UInt8) : Option Tm := if [41] <+: r then some ⟨2, x, kids, r.drop 1⟩ else none
def cutK (cut : List UInt8 → Option Tm) (x : Int) : Nat → List (List UInt8) → List UInt8 → Option Tm
  | 0, kids, r => closeP x kids r
  | m + 1, kids, r => match cut (r.drop 1) with
    | none => none
    | some t => if [32] <+: t.rest then cutK cut x m (kids ++ [(r.drop 1).take ((r.drop 1).length - t.rest.length)]) t.rest
      else closeP x (kids ++ [(r.drop 1).take ((r.drop 1).length - t.rest.length)]) t.rest
def cutP : Nat → List UInt8 → Option Tm
  | 0, _ => none
  | f + 1, s =>
    if wA s = [95] then some ⟨0, 0, [], wB s⟩
    else if wA s = [33] then some ⟨3, 0, [], wB s⟩
    else if numP (wA s) = true then some ⟨1, numX (wA s), [], wB s⟩
    else if tagP (wA s) = true then (if [40] <+: wB s then cutK (cutP f) (tagX (wA s)) 3 [] (wB s) else some ⟨2, tagX (wA s), [], wB s⟩)
    else none

theorem closeP_rest {x : Int} {kids : List (List UInt8)} {r : List UInt8} {t : Tm} (h : closeP x kids r = some t) : t.rest.length ≤ r.length := by
  unfold closeP at h
  split at h
  · cases h; simp
  · cases h
theorem cutK_rest {cut : List UInt8 → Option Tm} (hc : ∀ s t, cut s = some t → t.rest.length ≤ s.length) {x : Int} : ∀ (m : Nat) {kids : List (List UInt8)} {r : List UInt8} {t : Tm}, cutK cut x m kids r = some t → t.rest.length ≤ r.length
  | 0, kids, r, t, h => closeP_rest h
  | m + 1, kids, r, t, h => by
    simp only [cutK] at h
    split at h
    · cases h
    · rename_i u hu
      have h1 := hc _ _ hu
      rw [List.length_drop] at h1
      split at h
      · have := cutK_rest hc m h; omega
      · have := closeP_rest h; omega
theorem cutP_rest : ∀ (f : Nat) {s : List UInt8} {t : Tm}, cutP f s = some t → t.rest.length ≤ s.length
  | 0, s, t, h => by cases h
  | f + 1, s, t, h => by
    have h0 := wB_len s
    simp only [cutP] at h
    split at h
    · cases h; exact h0
    split at h
    · cases h; exact h0
    split at h
    · cases h; exact h0
    split at h
    · split at h
      · have := cutK_rest (fun s t h => cutP_rest f h) 3 h; omega
      · cases h; exact h0
    · cases h

def CutAt (h : H) (lo : Nat) (v : AV) : Option Tm → Prop
  | none => ∃ a b c d, v = .tup [a, b, c, .str d, .bool false]
  | some t => ∃ c, v = .tup [.int .i64 t.kind, .int .i64 t.num, c, .str t.rest, .bool true] ∧ OwnAt h lo h.n 1 c (strs t.kids)

/-! ### Walks -/
section
variable {β : Type} {t : ETree}

theorem isPre_b (s p : List UInt8) : decide (p <+: s) = (decide (p.length ≤ s.length) && decide (s.take p.length = p)) := by
  rw [Bool.eq_iff_iff]
  simp only [Bool.and_eq_true, decide_eq_true_eq, List.prefix_iff_eq_take]
  constructor
  · intro h; exact ⟨by have := congrArg List.length h; rw [List.length_take] at this; omega, h.symm⟩
  · intro h; exact h.2.symm

theorem pSlS_hi {s : List UInt8} {kd : IntKind} {i : Int} (h0 : 0 ≤ i) (h1 : i ≤ s.length) (k : VK β) : pSlS false true (.str s) [.int kd i] k = k (.str (s.take i.toNat)) := by
  obtain ⟨j, rfl⟩ := Int.eq_ofNat_of_zero_le h0
  have hb : bounds false true false [.int kd (j : Int)] s.length s.length = some (0, j, s.length) := by
    simp only [bounds, natOf, if_pos h0, Option.bind_some, Int.toNat_natCast]
    rw [if_pos (by omega)]
  simp only [pSlS, aStr, bnd, lenF_eq, hb, frc_eq, takeF_eq, dropF_eq, List.drop_zero, Int.toNat_natCast]
theorem pSlS_lo {s : List UInt8} {kd : IntKind} {i : Int} (h0 : 0 ≤ i) (h1 : i ≤ s.length) (k : VK β) : pSlS true false (.str s) [.int kd i] k = k (.str (s.drop i.toNat)) := by
  obtain ⟨j, rfl⟩ := Int.eq_ofNat_of_zero_le h0
  have hb : bounds true false false [.int kd (j : Int)] s.length s.length = some (j, s.length, s.length) := by
    simp only [bounds, natOf, if_pos h0, Option.bind_some, Int.toNat_natCast]
    rw [if_pos (by omega)]
  simp only [pSlS, aStr, bnd, lenF_eq, hb, frc_eq, takeF_eq, dropF_eq, List.take_length, Int.toNat_natCast]
theorem pSlS_lh {s : List UInt8} {kd kd' : IntKind} {i i' : Int} (h0 : 0 ≤ i) (h1 : i ≤ i') (h2 : i' ≤ s.length) (k : VK β) : pSlS true true (.str s) [.int kd i, .int kd' i'] k = k (.str ((s.take i'.toNat).drop i.toNat)) := by
  obtain ⟨j, rfl⟩ := Int.eq_ofNat_of_zero_le h0
  obtain ⟨j', rfl⟩ := Int.eq_ofNat_of_zero_le (show 0 ≤ i' by omega)
  have hb : bounds true true false [.int kd (j : Int), .int kd' (j' : Int)] s.length s.length = some (j, j', s.length) := by
    simp only [bounds, natOf, if_pos h0, if_pos (show (0 : Int) ≤ (j' : Int) by omega), Option.bind_some, Int.toNat_natCast]
    rw [if_pos (by omega)]
  simp only [pSlS, aStr, bnd, lenF_eq, hb, frc_eq, takeF_eq, dropF_eq, Int.toNat_natCast]
theorem sls {β : Type} : (∀ {s : List UInt8} {kd : IntKind} {i : Int}, 0 ≤ i → i ≤ s.length → ∀ k : VK β, qSlS false true (.str s) [.int kd i] (.mk k) = k (.str (s.take i.toNat))) ∧
    (∀ {s : List UInt8} {kd : IntKind} {i : Int}, 0 ≤ i → i ≤ s.length → ∀ k : VK β, qSlS true false (.str s) [.int kd i] (.mk k) = k (.str (s.drop i.toNat))) ∧
    ∀ {s : List UInt8} {kd kd' : IntKind} {i i' : Int}, 0 ≤ i → i ≤ i' → i' ≤ s.length → ∀ k : VK β, qSlS true true (.str s) [.int kd i, .int kd' i'] (.mk k) = k (.str ((s.take i'.toNat).drop i.toNat)) :=
  ⟨pSlS_hi, pSlS_lo, pSlS_lh⟩

theorem GA.w47 (T : GA t) (n : Nat) (s p : List UInt8) (h : H) (k : K β) : qCall (fRunS t stdI (n + 1)) (.fn 47 []) [.str s, .str p] h (.mk k) = k (.bool (decide (p <+: s))) h := by
  rw [T.q47, isPre_b]
  unfold f47_internal_stringslite_HasPrefix
  by_cases h1 : p.length ≤ s.length
  · simp (disch := (first | omega | (simp only [disM] <;> omega) | assumption)) only [↓run, ↓runM, run, runM, Nat.reduceAdd, Nat.reduceMul, Int.reduceToNat, sls, h1, decide_true, Bool.true_and]
  · simp (disch := (first | omega | (simp only [disM] <;> omega) | assumption)) only [↓run, ↓runM, run, runM, Nat.reduceAdd, Nat.reduceMul, Int.reduceToNat, sls, h1, decide_false, Bool.false_and]
theorem GA.w36 (T : GA t) (n : Nat) (s p : List UInt8) (h : H) (k : K β) : qCall (fRunS t stdI (n + 2)) (.fn 36 []) [.str s, .str p] h (.mk k) = k (.bool (decide (p <+: s))) h := by
  rw [T.q36]
  unfold f36_strings_HasPrefix
  simp (disch := (first | omega | (simp only [disM] <;> omega) | assumption)) only [↓run, ↓runM, run, runM, Nat.reduceAdd, Nat.reduceMul, Int.reduceToNat, T.w47]
theorem GA.w48 (T : GA t) (n : Nat) (s p : List UInt8) (h : H) (k : K β) : qCall (fRunS t stdI (n + 2)) (.fn 48 []) [.str s, .str p] h (.mk k) = k (.tup [.str (if p <+: s then s.drop p.length else s), .bool (decide (p <+: s))]) h := by
  rw [T.q48]
  unfold f48_internal_stringslite_CutPrefix
  by_cases h1 : p <+: s
  · have := h1.length_le
    simp (disch := (first | omega | (simp only [disM] <;> omega) | assumption)) only [↓run, ↓runM, run, runM, Nat.reduceAdd, Nat.reduceMul, Int.reduceToNat, ↓f48_J0, T.w47, h1, sls, decide_true, if_true]
  · simp (disch := (first | omega | (simp only [disM] <;> omega) | assumption)) only [↓run, ↓runM, run, runM, Nat.reduceAdd, Nat.reduceMul, Int.reduceToNat, ↓f48_J0, T.w47, h1, sls, decide_false, if_false]
theorem GA.w37 (T : GA t) (n : Nat) (s p : List UInt8) (h : H) (k : K β) : qCall (fRunS t stdI (n + 3)) (.fn 37 []) [.str s, .str p] h (.mk k) = k (.tup [.str (if p <+: s then s.drop p.length else s), .bool (decide (p <+: s))]) h := by
  rw [T.q37]
  unfold f37_strings_CutPrefix
  simp (disch := (first | omega | (simp only [disM] <;> omega) | assumption)) only [↓run, ↓runM, run, runM, Nat.reduceAdd, Nat.reduceMul, Int.reduceToNat, T.w48]
theorem GA.w28 (T : GA t) (n : Nat) (x : Int) (h : H) (k : K β) : qCall (fRunS t stdI (n + 1)) (.fn 28 []) [.int .i64 x] h (.mk k) = k (.bool (decide (-32768 ≤ x ∧ x ≤ 32767))) h := by
  rw [T.q28]
  unfold f28_prim_May
  by_cases h1 : -32768 ≤ x
  · simp (disch := (first | omega | (simp only [disM] <;> omega) | assumption)) only [↓run, ↓runM, run, runM, Nat.reduceAdd, Nat.reduceMul, Int.reduceToNat, h1, true_and]
  · simp (disch := (first | omega | (simp only [disM] <;> omega) | assumption)) only [↓run, ↓runM, run, runM, Nat.reduceAdd, Nat.reduceMul, Int.reduceToNat, h1, false_and, decide_false]
theorem GA.w33 (T : GA t) (L : GI t) (n : Nat) (s : List UInt8) (hs : s.length < 4294967281) (h : H) (k : K β) : qCall (fRunS t stdI (n + 2)) (.fn 33 []) [.str s] h (.mk k) = k (.tup [.str (wA s), .str (wB s)]) h := by
  rw [T.q33]
  unfold f33_term_word
  have hl := wA_len s
  simp only [nth0, nthS]
  rw [L.w44 n s hs, indexAny_w]
  by_cases h1 : (wA s).length < s.length
  · rw [if_pos h1]
    simp (disch := (first | omega | (simp only [disM] <;> omega) | assumption)) only [↓run, ↓runM, run, runM, Nat.reduceAdd, Nat.reduceMul, Int.reduceToNat, ↓f33_J1, sls, wA_take, wB_drop]
  · rw [if_neg h1]
    have h2 : (wA s).length = s.length := by omega
    have h3 := wA_take s; have h4 := wB_drop s
    rw [h2] at h3 h4
    simp (disch := (first | omega | (simp only [disM] <;> omega) | assumption)) only [↓run, ↓runM, run, runM, Nat.reduceAdd, Nat.reduceMul, Int.reduceToNat, ↓f33_J1, sls, h3, h4]
theorem GA.w34 (T : GA t) (L : GI t) (n : Nat) (s : List UInt8) (hs : s.length < 4294967281) (h : H) (k : K β) : qCall (fRunS t stdI (n + 2)) (.fn 34 []) [.str s] h (.mk k) = k (.tup [.int .i64 (numX s), .bool (numP s)]) h := by
  rw [T.q34]
  unfold f34_term_Number
  simp only [nth0, nthS]
  rw [L.w45 n s (by omega)]
  obtain ⟨e, h1, h2⟩ := atoiV_eq s
  obtain ⟨h3, h4⟩ := numX_bd s
  rw [h1]
  unfold numP
  rcases h2 with ⟨h2, rfl⟩ | ⟨h2, rfl⟩
  · by_cases h5 : -32768 ≤ numX s ∧ numX s ≤ 32767
    · simp (disch := (first | omega | (simp only [disM] <;> omega) | assumption)) only [↓run, ↓runM, run, runM, Nat.reduceAdd, Nat.reduceMul, Int.reduceToNat, T.w28, L.w29, Bool.not_false, h2, h5, true_and, decide_true]
    · simp (disch := (first | omega | (simp only [disM] <;> omega) | assumption)) only [↓run, ↓runM, run, runM, Nat.reduceAdd, Nat.reduceMul, Int.reduceToNat, T.w28, L.w29, Bool.not_false, h2, h5, false_and, and_false, decide_false, decide_true]
  · simp (disch := (first | omega | (simp only [disM] <;> omega) | assumption)) only [↓run, ↓runM, run, runM, Nat.reduceAdd, Nat.reduceMul, Int.reduceToNat, h2, Bool.false_eq_true, false_and, decide_false]
theorem GA.w46 (T : GA t) (L : GI t) (n : Nat) (s : List UInt8) (hs : s.length < 4294967281) (most : Int) (h : H) (k : K β) : qCall (fRunS t stdI (n + 2)) (.fn 46 []) [.str s, .int .i64 most] h (.mk k) = k (.tup [.int .i64 (numX s), .bool (digP most s)]) h := by
  rw [T.q46]
  unfold f46_term_Digits
  simp only [nth0, nthS]
  rw [L.w45 n s (by omega)]
  obtain ⟨e, h1, h2⟩ := atoiV_eq s
  obtain ⟨h3, h4⟩ := numX_bd s
  rw [h1]
  unfold digP
  rcases h2 with ⟨h2, rfl⟩ | ⟨h2, rfl⟩
  · by_cases h5 : 0 ≤ numX s
    · by_cases h6 : numX s ≤ most
      · simp (disch := (first | omega | (simp only [disM] <;> omega) | assumption)) only [↓run, ↓runM, run, runM, Nat.reduceAdd, Nat.reduceMul, Int.reduceToNat, L.w29, Bool.not_false, h2, h5, h6, true_and, and_true, decide_true]
      · simp (disch := (first | omega | (simp only [disM] <;> omega) | assumption)) only [↓run, ↓runM, run, runM, Nat.reduceAdd, Nat.reduceMul, Int.reduceToNat, L.w29, Bool.not_false, h2, h5, h6, false_and, and_false, decide_false, decide_true]
    · simp (disch := (first | omega | (simp only [disM] <;> omega) | assumption)) only [↓run, ↓runM, run, runM, Nat.reduceAdd, Nat.reduceMul, Int.reduceToNat, L.w29, Bool.not_false, h2, h5, false_and, and_false, decide_false, decide_true]
  · simp (disch := (first | omega | (simp only [disM] <;> omega) | assumption)) only [↓run, ↓runM, run, runM, Nat.reduceAdd, Nat.reduceMul, Int.reduceToNat, h2, Bool.false_eq_true, false_and, decide_false]
theorem GA.w35 (T : GA t) (L : GI t) (n : Nat) (s : List UInt8) (hs : s.length < 4294967281) (h : H) (k : K β) : qCall (fRunS t stdI (n + 4)) (.fn 35 []) [.str s] h (.mk k) = k (.tup [.int .i64 (tagX s), .bool (tagP s)]) h := by
  rw [T.q35]
  unfold f35_term_Tag
  simp only [nth0, nthS]
  rw [T.w37]
  unfold tagX tagP
  have hd : (s.drop 1).length < 4294967281 := by rw [List.length_drop]; omega
  by_cases h1 : [64] <+: s
  · rw [if_pos h1]
    simp (disch := (first | omega | (simp only [disM] <;> omega) | assumption)) only [↓run, ↓runM, run, runM, Nat.reduceAdd, Nat.reduceMul, Int.reduceToNat, T.w46 L, h1, decide_true, Bool.true_and]
  · rw [if_neg h1]
    simp (disch := (first | omega | (simp only [disM] <;> omega) | assumption)) only [↓run, ↓runM, run, runM, Nat.reduceAdd, Nat.reduceMul, Int.reduceToNat, T.w46 L, h1, decide_false, Bool.false_and]
theorem GA.w24 (T : GA t) (L : GI t) : ∀ (f n : Nat) (s : List UInt8) (h : H), s.length < f → s.length < 4294967281 → f + 8 ≤ n →
    Sp (β := β) (fRunS t stdI n (.fn 24 []) [.str s] h) fun v h' => Ext h h' ∧ CutAt h' h.n v (cutP f s)
  | 0, n, s, h, h1, h2, h3 => by omega
  | f + 1, n, s, h, h1, h2, h3 => by
    intro k R hk
    obtain ⟨m, rfl⟩ : ∃ m, n = m + 9 := ⟨n - 9, by omega⟩
    have ha := wA_len s
    have hb := wB_len s
    simp only [cutP] at hk
    by_cases c1 : wA s = [95]
    · rw [if_pos c1] at hk
      rw [T.c24]; unfold f24_term_cut
      simp (disch := (first | omega | (simp only [disM] <;> omega) | assumption)) only [↓run, ↓runM, run, runM, Nat.reduceAdd, Nat.reduceMul, Int.reduceToNat, ↓f24_J10, ↓f24_J23, ↓f24_J15, ↓f24_L14, ↓f24_J9, ↓f24_J5, ↓f24_J4, ↓f24_J3, T.w33 L, c1]
      exact hk _ _ ⟨Ext.refl _, _, rfl, OwnAt.nil _ _ _ _⟩
    rw [if_neg c1] at hk
    by_cases c2 : wA s = [33]
    · rw [if_pos c2] at hk
      rw [T.c24]; unfold f24_term_cut
      simp (disch := (first | omega | (simp only [disM] <;> omega) | assumption)) only [↓run, ↓runM, run, runM, Nat.reduceAdd, Nat.reduceMul, Int.reduceToNat, ↓f24_J10, ↓f24_J23, ↓f24_J15, ↓f24_L14, ↓f24_J9, ↓f24_J5, ↓f24_J4, ↓f24_J3, T.w33 L, c1, c2]
      exact hk _ _ ⟨Ext.refl _, _, rfl, OwnAt.nil _ _ _ _⟩
    rw [if_neg c2] at hk
    by_cases c3 : numP (wA s) = true
    · rw [if_pos c3] at hk
      rw [T.c24]; unfold f24_term_cut
      simp (disch := (first | omega | (simp only [disM] <;> omega) | assumption)) only [↓run, ↓runM, run, runM, Nat.reduceAdd, Nat.reduceMul, Int.reduceToNat, ↓f24_J10, ↓f24_J23, ↓f24_J15, ↓f24_L14, ↓f24_J9, ↓f24_J5, ↓f24_J4, ↓f24_J3, T.w33 L, T.w34 L, c1, c2, c3]
      exact hk _ _ ⟨Ext.refl _, _, rfl, OwnAt.nil _ _ _ _⟩
    rw [if_neg c3] at hk
    rw [Bool.not_eq_true] at c3
    by_cases c4 : tagP (wA s) = true
    · rw [if_pos c4] at hk
      by_cases c5 : [40] <+: wB s
      · rw [if_pos c5] at hk
        generalize hz : cutK (cutP f) (tagX (wA s)) 3 [] (wB s) = z at hk
        rw [T.c24]; unfold f24_term_cut
        simp (disch := (first | omega | (simp only [disM] <;> omega) | assumption)) only [↓run, ↓runM, run, runM, Nat.reduceAdd, Nat.reduceMul, Int.reduceToNat, ↓f24_J10, ↓f24_J23, ↓f24_J15, ↓f24_L14, ↓f24_J9, ↓f24_J5, ↓f24_J4, ↓f24_J3, T.w33 L, T.w34 L, T.w35 L, T.w36, c1, c2, c3, c4, c5]
        have hcl : ∀ (kids : List (List UInt8)) (r : List UInt8) (c : AV) (h' : H), Ext h h' → OwnAt h' h.n h'.n 1 c (strs kids) → z = closeP (tagX (wA s)) kids r →
            k (.tup [.int .i64 2, .int .i64 (tagX (wA s)), c, .str (if [41] <+: r then r.drop 1 else r), .bool (decide ([41] <+: r))]) h' = R := by
          intro kids r c h' q1 q2 q3
          refine hk _ _ ⟨q1, ?_⟩
          rw [q3]
          unfold closeP
          by_cases q4 : [41] <+: r
          · rw [if_pos q4, if_pos q4, decide_eq_true q4]; exact ⟨_, rfl, q2⟩
          · rw [if_neg q4, if_neg q4, decide_eq_false q4]; exact ⟨_, _, _, _, rfl⟩
        refine qLoop_wp 49 (m + 8) _ _ (fun i x0 x1 x2 x3 x4 x5 x6 x7 x8 x9 x10 x11 x12 x13 x14 x15 x16 x17 x18 x19 x20 x21 x22 x23 x24 x25 x26 x27 x28 x29 x30 x31 x32 x33 x34 x35 x36 x37 x38 x39 x40 x41 x42 x43 x44 x45 x46 x47 x48 h' => Ext h h' ∧ ∃ (kids : List (List UInt8)) (r : List UInt8), x7 = .str r ∧ x10 = .int .i64 (tagX (wA s)) ∧ OwnAt h' h.n h'.n 1 x12 (strs kids) ∧ kids.length + i = 3 ∧
          1 ≤ r.length ∧ r.length ≤ s.length ∧ z = cutK (cutP f) (tagX (wA s)) i kids r) 3 (by omega) ?_ _ _ _ _ _ _ _ _ _ _ _ _ _ _ _ _ _ _ _ _ _ _ _ _ _ _ _ _ _ _ _ _ _ _ _ _ _ _ _ _ _ _ _ _ _ _ _ _ _ _ ⟨Ext.refl _, [], wB s, rfl, rfl, OwnAt.nil _ _ _ _, rfl, c5.length_le, hb, hz.symm⟩
        intro l i ih x0 x1 x2 x3 x4 x5 x6 x7 x8 x9 x10 x11 x12 x13 x14 x15 x16 x17 x18 x19 x20 x21 x22 x23 x24 x25 x26 x27 x28 x29 x30 x31 x32 x33 x34 x35 x36 x37 x38 x39 x40 x41 x42 x43 x44 x45 x46 x47 x48 h' ⟨e1, kids, r, q7, q10, e2, e3, e4, e5, e6⟩
        subst q7 q10
        have hs := e2.sl (Nat.le_refl _)
        have hn := e1.n
        cases i with
        | zero =>
          have q2 := hcl kids r x12 h' e1 e2 e6
          simp (disch := (first | omega | (simp only [disM] <;> omega) | assumption)) only [↓run, ↓runM, run, runM, Nat.reduceAdd, Nat.reduceMul, Int.reduceToNat, ↓f24_J10, ↓f24_J23, ↓f24_J15, ↓f24_L14, ↓f24_J9, ↓f24_J5, ↓f24_J4, ↓f24_J3, hs.len, T.w37, q2]
        | succ i =>
          have hd : (r.drop 1).length = r.length - 1 := by rw [List.length_drop]
          simp (disch := (first | omega | (simp only [disM] <;> omega) | assumption)) only [↓run, ↓runM, run, runM, Nat.reduceAdd, Nat.reduceMul, Int.reduceToNat, ↓f24_J10, ↓f24_J23, ↓f24_J15, ↓f24_L14, ↓f24_J9, ↓f24_J5, ↓f24_J4, ↓f24_J3, hs.len, sls]
          refine GA.w24 T L f (m + 8) (r.drop 1) h' (by omega) (by omega) (by omega) _ _ ?_
          intro v h2 ⟨e7, e8⟩
          simp only [cutK] at e6
          cases hc : cutP f (r.drop 1) with
          | none =>
            rw [hc] at e8 e6
            obtain ⟨a, b, c, d, rfl⟩ := e8
            simp (disch := (first | omega | (simp only [disM] <;> omega) | assumption)) only [↓run, ↓runM, run, runM, Nat.reduceAdd, Nat.reduceMul, Int.reduceToNat, ↓f24_J10, ↓f24_J23, ↓f24_J15, ↓f24_L14, ↓f24_J9, ↓f24_J5, ↓f24_J4, ↓f24_J3]
            exact hk _ _ ⟨e1.trans e7, by rw [e6]; exact ⟨_, _, _, _, rfl⟩⟩
          | some u =>
            rw [hc] at e8 e6
            obtain ⟨c, rfl, e9⟩ := e8
            have hu := cutP_rest f hc
            have he7 := e7.n
            simp (disch := (first | omega | (simp only [disM] <;> omega) | assumption)) only [↓run, ↓runM, run, runM, Nat.reduceAdd, Nat.reduceMul, Int.reduceToNat, ↓f24_J10, ↓f24_J23, ↓f24_J15, ↓f24_L14, ↓f24_J9, ↓f24_J5, ↓f24_J4, ↓f24_J3, sls]
            refine fApp_one (lo := h.n) (hi := h'.n) (cs := strs kids) ?_ (get_push_eq rfl) ?_ ?_
            · exact e2.mono (Nat.le_refl _) (Nat.le_refl _) fun i h1 h2 => by rw [get_push_ne (by omega), e7.get i h2]
            · rw [H.n_push, strs_len]; unfold room; omega
            intro v' h3 o3 hle hget
            rw [H.n_push] at hle hget
            have e10 : Ext h h3 := ⟨by omega, fun i hi => by rw [hget i (by omega) (.inl hi), get_push_ne (by omega), e7.get i (by omega), e1.get i hi]⟩
            have e11 : ((r.drop 1).length - u.rest.length : Int).toNat = (r.drop 1).length - u.rest.length := by omega
            rw [e11, ← strs_snoc] at o3
            by_cases c6 : [32] <+: u.rest
            · simp only [if_pos c6] at e6
              simp (disch := (first | omega | (simp only [disM] <;> omega) | assumption)) only [↓run, ↓runM, run, runM, Nat.reduceAdd, Nat.reduceMul, Int.reduceToNat, ↓f24_J10, ↓f24_J23, ↓f24_J15, ↓f24_L14, ↓f24_J9, ↓f24_J5, ↓f24_J4, ↓f24_J3, T.w36, c6]
              exact ih i (by omega) _ _ _ _ _ _ _ _ _ _ _ _ _ _ _ _ _ _ _ _ _ _ _ _ _ _ _ _ _ _ _ _ _ _ _ _ _ _ _ _ _ _ _ _ _ _ _ _ _ _ ⟨e10, _, _, rfl, rfl, o3, by rw [List.length_append]; simp only [List.length_cons, List.length_nil]; omega, c6.length_le, by omega, e6⟩
            · simp only [if_neg c6] at e6
              have q2 := hcl _ _ _ _ e10 o3 e6
              simp (disch := (first | omega | (simp only [disM] <;> omega) | assumption)) only [↓run, ↓runM, run, runM, Nat.reduceAdd, Nat.reduceMul, Int.reduceToNat, ↓f24_J10, ↓f24_J23, ↓f24_J15, ↓f24_L14, ↓f24_J9, ↓f24_J5, ↓f24_J4, ↓f24_J3, T.w36, T.w37, c6, q2]
      · rw [if_neg c5] at hk
        rw [T.c24]; unfold f24_term_cut
        simp (disch := (first | omega | (simp only [disM] <;> omega) | assumption)) only [↓run, ↓runM, run, runM, Nat.reduceAdd, Nat.reduceMul, Int.reduceToNat, ↓f24_J10, ↓f24_J23, ↓f24_J15, ↓f24_L14, ↓f24_J9, ↓f24_J5, ↓f24_J4, ↓f24_J3, T.w33 L, T.w34 L, T.w35 L, T.w36, c1, c2, c3, c4, c5]
        exact hk _ _ ⟨Ext.refl _, _, rfl, OwnAt.nil _ _ _ _⟩
    · rw [if_neg c4] at hk
      rw [Bool.not_eq_true] at c4
      rw [T.c24]; unfold f24_term_cut
      simp (disch := (first | omega | (simp only [disM] <;> omega) | assumption)) only [↓run, ↓runM, run, runM, Nat.reduceAdd, Nat.reduceMul, Int.reduceToNat, ↓f24_J10, ↓f24_J23, ↓f24_J15, ↓f24_L14, ↓f24_J9, ↓f24_J5, ↓f24_J4, ↓f24_J3, T.w33 L, T.w34 L, T.w35 L, T.w36, c1, c2, c3, c4]
      exact hk _ _ ⟨Ext.refl _, _, _, _, _, rfl⟩
end
end Am.F
