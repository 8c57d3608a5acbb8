/- Walks: numerals, joins, comparisons, copies. -/
import Derived.Test.YtpalaplnolcimaaDoorAmQA3
set_option linter.unusedSimpArgs false
set_option linter.unusedVariables false
namespace Am.F
open Go Am

theorem wrap_u64 {x : Int} (h : 0 ≤ x) (h' : x < 18446744073709551616) : IntKind.u64.wrap x = x := by
  unfold IntKind.wrap
  simp only [show IntKind.u64.bits = 64 from rfl, show IntKind.u64.signed = false from rfl]
  have : x % 18446744073709551616 = x := Int.emod_eq_of_lt h h'
  simpa using this

section
variable {β : Type}
theorem qBin_rem10 (u : Nat) (k : VK β) : qBin .rem (.int .u64 (u : Int)) (.int .u64 10) (.mk k) = k (.int .u64 ((u % 10 : Nat) : Int)) := by
  show pBin .rem _ _ k = _
  simp only [pBin, aInt, kindsFit, beq_self_eq_true, cond_true, binI]
  rw [if_neg (by decide)]
  show k _ = _
  congr 2
theorem qBin_quo10 {u : Nat} (hu : u < 18446744073709551616) (k : VK β) : qBin .quo (.int .u64 (u : Int)) (.int .u64 10) (.mk k) = k (.int .u64 ((u / 10 : Nat) : Int)) := by
  show pBin .quo _ _ k = _
  simp only [pBin, aInt, kindsFit, beq_self_eq_true, cond_true, binI]
  rw [if_neg (by decide)]
  show k (.int .u64 (IntKind.u64.wrap ((u : Int).tdiv 10))) = _
  rw [show (u : Int).tdiv 10 = ((u / 10 : Nat) : Int) from rfl, wrap_u64 (by omega) (by omega)]

theorem bytesOf_ofBytes : ∀ s : List UInt8, bytesOf (ofBytes s) = some s
  | [] => rfl
  | b :: s => by
    show (bytesOf (ofBytes s)).map (UInt8.ofNat (b.toNat : Int).toNat :: ·) = _
    rw [bytesOf_ofBytes s, Int.toNat_natCast]; simp
theorem ofBytes_len (s : List UInt8) : (ofBytes s).length = s.length := by simp [ofBytes]
theorem SlAt.b2s {h : H} {v : AV} {s : List UInt8} (hs : SlAt h v (ofBytes s)) (k : VK β) : qB2s v h (.mk k) = k (.str s) := by
  rcases hs with ⟨rfl, h1⟩ | ⟨b, o, m, g, us, rfl, h2, h3, h4, h5⟩
  · cases s with
    | nil => rfl
    | cons b s => cases h1
  · show (cells h b fun cs => cond (Nat.ble (Nat.add o (ofBytes s).length) (lenF cs)) (oSome (bytesOf (takeF (ofBytes s).length (dropF o cs))) fun s => k (.str s)) none) = _
    rw [cells_eq, h3, oSome_v, lenF_eq, ble_eq, decide_eq_true (by show o + (ofBytes s).length ≤ _; omega), takeF_eq, dropF_eq, h4, bytesOf_ofBytes]; rfl

theorem SlAt.src {h : H} {v : AV} {cs : List AV} (hs : SlAt h v cs) (c : Nat → List AV → Option β) : fSrc 1 v h c = c cs.length cs := by
  rcases hs with ⟨rfl, rfl⟩ | ⟨b, o, m, g, us, rfl, h2, h3, h4, h5⟩
  · rfl
  · show (cells h b fun us => cond (Nat.ble (Nat.add o (Nat.mul cs.length 1)) (lenF us)) (c cs.length (takeF (Nat.mul cs.length 1) (dropF o us))) none) = _
    rw [cells_eq, h3, oSome_v, lenF_eq, ble_eq, Nat.mul_eq, Nat.mul_one, decide_eq_true (by show o + cs.length ≤ _; omega), takeF_eq, dropF_eq, h4]; rfl

/-- An append to a slice whose room ends at its end: a copy, if anything is put there. -/
theorem fApp_copy {h : H} {b m bytes : Nat} {x : AV} {cs new : List AV} {k : K β} {R : Option β} (hb : h.get b = .own 0 cs) (hm : cs.length = m) (hx : SlAt h x new) (hr : cs.length + new.length < room ∧ bytes ≤ 1024)
    (H0 : new = [] → k (.sl b 0 m m none) h = R)
    (H1 : new ≠ [] → k (.sl h.n 0 (m + new.length) (m + new.length) (some 1)) (h.push (.own 0 (cs ++ new))) = R) : fApp 0 1 bytes (.sl b 0 m m none) x h k = R := by
  unfold fApp
  rw [hx.src]
  by_cases hn : new = []
  · subst hn
    simp (disch := omega) only [fGrow, aSl, frc_eq, ble_eq, beq_eq, cond_pos, cond_neg, Nat.add_eq, List.length_nil, Nat.add_zero]
    exact H0 rfl
  · have hl : 0 < new.length := List.length_pos_iff.2 hn
    obtain ⟨hr1, hr2⟩ := hr
    have e : appF (takeF m (dropF 0 cs)) new = cs ++ new := by
      rw [appF_eq, takeF_eq, dropF_eq, List.drop_zero, List.take_of_length_le (by omega)]
    simp (disch := omega) only [fGrow, aSl, frc_eq, ble_eq, beq_eq, cond_pos, cond_neg, Nat.add_eq, Nat.mul_eq, Nat.mul_one, Nat.zero_add, Nat.succ_eq_add_one, cells_eq, hb, cells_own, oSome_v, lenF_eq, newB_p, e]
    exact H1 hn

variable {t : ETree}

theorem ofBytes_cons (b : UInt8) (s : List UInt8) : ofBytes (b :: s) = .int .u8 b.toNat :: ofBytes s := rfl

theorem GA.w22 (T : GA t) (n : Nat) (hn : 24 ≤ n) (x : Int) (h0 : -9223372036854775808 ≤ x) (h1 : x < 9223372036854775808) (h : H) : Sp (β := β) (fRunS t stdI n (.fn 22 []) [.int .i64 x] h) fun v h' => Ext h h' ∧ v = .str (Lib.itoa x) := by
  intro k R hk
  obtain ⟨m, rfl⟩ : ∃ m, n = m + 1 := ⟨n - 1, by omega⟩
  -- the digits of a size, and what stands ahead
  have key : ∀ (u : Nat), u < 10 ^ 20 → u < 18446744073709551616 → Lib.itoa x = (if x < 0 then 45 :: Lib.decDigits u else Lib.decDigits u) → ∀ x1 x3, f22_J1 m k (.int .i64 x) x1 (.int .u64 (u : Int)) x3 h = R := by
    intro u hu hu' hx x1 x3
    simp (disch := (first | omega | (simp only [disM] <;> omega) | assumption)) only [↓run, ↓runM, run, runM, Nat.reduceAdd, Nat.reduceMul, Int.reduceToNat, ↓f22_J3, ↓f22_J2, ↓f22_J9, ↓f22_L8, ↓f22_J1]
    refine qLoop_wp 4 m _ _ (fun i x0 x1 x2 x3 h' => Ext h h' ∧ x0 = .int .i64 x ∧ ∃ (w : Nat) (bs : List UInt8), x2 = .int .u64 (w : Int) ∧ SlAt h' x3 (ofBytes bs) ∧ bs.length + i = 20 ∧ w < 10 ^ i ∧ w ≤ u ∧
      Lib.decDigits u = if 0 < w ∨ bs = [] then Lib.decDigits w ++ bs else bs) 20 (by omega) ?_ _ _ _ _ _ ⟨Ext.refl _, rfl, u, [], rfl, SlAt.nil _, rfl, hu, Nat.le_refl _, by rw [if_pos (.inr rfl), List.append_nil]⟩
    intro l i ih x0 x1 x2 x3 h' ⟨e1, q0, w, bs, q2, e2, e3, e4, e5, e6⟩
    subst q0 q2
    have hlen := e2.len (β := β)
    by_cases hc : 0 < w ∨ bs = []
    · rw [if_pos hc] at e6
      obtain ⟨i, rfl⟩ : ∃ i', i = i' + 1 := by
        cases i with
        | zero =>
          exfalso
          have : w = 0 := by simpa using e4
          rcases hc with hc | hc
          · omega
          · subst hc; simp at e3
        | succ i => exact ⟨i, rfl⟩
      have hd : (UInt8.ofNat (48 + w % 10)).toNat = 48 + w % 10 := by
        rw [UInt8.toNat_ofNat']; omega
      have hgo : l (.int .i64 x) .any (.int .u64 (w : Int)) x3 h' = R → True := fun _ => trivial
      have hround : f22_J9 l (.int .i64 x) .any (.int .u64 (w : Int)) x3 h' = R := by
        have hw1 : IntKind.u64.wrap (48 + ((w % 10 : Nat) : Int)) = 48 + ((w % 10 : Nat) : Int) := wrap_u64 (by omega) (by omega)
        have hw2 : IntKind.u8.wrap (48 + ((w % 10 : Nat) : Int)) = 48 + ((w % 10 : Nat) : Int) := wrap_u8 (by omega) (by omega)
        simp (disch := omega) only [↓f22_J9, ↓qBin_rem10, ↓q_pAdd_any, ↓hw1]
        have hcv : ∀ (kk : VK β), qConv .u8 (.int .u64 (48 + ((w % 10 : Nat) : Int))) (.mk kk) = kk (.int .u8 (48 + ((w % 10 : Nat) : Int))) := fun kk => by
          show pConv _ _ _ = _; rw [pConv_any, hw2]
        simp only [↓hcv]
        simp (disch := (first | omega | (simp only [disM] <;> omega) | assumption)) only [↓run, ↓runM, run, runM, Nat.reduceAdd, Nat.reduceMul, Int.reduceToNat]
        have e7 : SlAt (h'.push (.own 0 [.int .u8 (48 + ((w % 10 : Nat) : Int))])) x3 (ofBytes bs) := e2.ext ((Ext.refl _).push _)
        have e8 : Lib.decDigits u = if 0 < w / 10 ∨ (UInt8.ofNat (48 + w % 10) :: bs) = [] then Lib.decDigits (w / 10) ++ UInt8.ofNat (48 + w % 10) :: bs else UInt8.ofNat (48 + w % 10) :: bs := by
          rw [e6, Lib.decDigits]
          by_cases h10 : w < 10
          · rw [dif_pos h10, if_neg (by simp; omega), Nat.mod_eq_of_lt h10]; rfl
          · rw [dif_neg h10, if_pos (.inl (by omega)), List.append_assoc]; rfl
        have e9 : [AV.int .u8 (48 + ((w % 10 : Nat) : Int))] ++ ofBytes bs = ofBytes (UInt8.ofNat (48 + w % 10) :: bs) := by
          rw [ofBytes_cons, hd]; congr 2
        refine fApp_copy (cs := [.int .u8 (48 + ((w % 10 : Nat) : Int))]) (get_push_eq rfl) rfl e7 ?_ ?_ ?_
        · rw [ofBytes_len]; simp only [List.length_cons, List.length_nil]; unfold room; omega
        · intro hnil
          have : bs = [] := by cases bs with | nil => rfl | cons => cases hnil
          subst this
          simp (disch := omega) only [↓qBin_quo10]
          exact ih i (by omega) _ _ _ _ _ ⟨(by repeat (first | exact Ext.refl _ | assumption | refine Ext.push ?_ _ | refine Ext.set ?_ (by first | omega | (simp only [H.n_push, H.n_set]; omega)) _)), rfl, _, _, rfl, .inr ⟨h'.n, 0, 1, none, [.int .u8 (48 + ((w % 10 : Nat) : Int))], rfl, (by first | omega | (simp only [H.n_push, H.n_set]; omega)), by rw [get_push_eq rfl]; rfl, by rw [← e9]; rfl, by rw [← e9]; exact Nat.le_refl _⟩, by simp at e3 ⊢; omega, by rw [Nat.pow_succ] at e4; omega, by omega, e8⟩
        · intro hne
          simp (disch := omega) only [↓qBin_quo10]
          rw [e9]
          exact ih i (by omega) _ _ _ _ _ ⟨(by repeat (first | exact Ext.refl _ | assumption | refine Ext.push ?_ _ | refine Ext.set ?_ (by first | omega | (simp only [H.n_push, H.n_set]; omega)) _)), rfl, _, _, rfl, .inr ⟨h'.n + 1, 0, 1 + (ofBytes bs).length, some 1, _, by rw [H.n_push, ofBytes_len, ofBytes_len, List.length_cons, Nat.add_comm bs.length 1], by rw [H.n_push, H.n_push]; omega, by rw [get_push_eq (by rw [H.n_push])]; rfl, by simp, by simp⟩, by rw [List.length_cons]; omega, by rw [Nat.pow_succ] at e4; omega, by omega, e8⟩
      by_cases hw : 0 < w
      · simp (disch := (first | omega | (simp only [disM] <;> omega) | assumption)) only [↓run, ↓runM, run, runM, Nat.reduceAdd, Nat.reduceMul, Int.reduceToNat, ↓f22_L8]
        exact hround
      · have hb : bs = [] := by rcases hc with hc | hc; exact absurd hc hw; exact hc
        subst hb
        simp (disch := (first | omega | (simp only [disM] <;> omega) | assumption)) only [↓run, ↓runM, run, runM, Nat.reduceAdd, Nat.reduceMul, Int.reduceToNat, ↓f22_L8, hlen, ofBytes_len]
        exact hround
    · rw [if_neg hc] at e6
      have hw : w = 0 := by omega
      have hbn : bs ≠ [] := fun q => hc (.inr q)
      have hbl : 0 < bs.length := List.length_pos_iff.2 hbn
      rw [e6] at hx
      by_cases hneg : x < 0
      · rw [if_pos hneg] at hx
        simp (disch := (first | omega | (simp only [disM] <;> omega) | assumption)) only [↓run, ↓runM, run, runM, Nat.reduceAdd, Nat.reduceMul, Int.reduceToNat, ↓f22_J3, ↓f22_J2, ↓f22_J9, ↓f22_L8, ↓f22_J1, hlen, ofBytes_len]
        have e7 : SlAt (h'.push (.own 0 [.int .u8 45])) x3 (ofBytes bs) := e2.ext ((Ext.refl _).push _)
        refine fApp_copy (cs := [.int .u8 45]) (get_push_eq rfl) rfl e7 ?_ ?_ ?_
        · rw [ofBytes_len]; simp only [List.length_cons, List.length_nil]; unfold room; omega
        · intro hnil
          cases bs with
          | nil => exact absurd rfl hbn
          | cons => cases hnil
        · intro _
          have e9 : [AV.int .u8 45] ++ ofBytes bs = ofBytes (45 :: bs) := rfl
          rw [e9]
          have e10 : SlAt ((h'.push (.own 0 [.int .u8 45])).push (.own 0 (ofBytes (45 :: bs)))) (.sl (h'.n + 1) 0 (1 + (ofBytes bs).length) (1 + (ofBytes bs).length) (some 1)) (ofBytes (45 :: bs)) :=
            .inr ⟨_, 0, _, _, _, by rw [ofBytes_len, ofBytes_len, List.length_cons, Nat.add_comm bs.length 1], (by first | omega | (simp only [H.n_push, H.n_set]; omega)), by rw [get_push_eq (by rw [H.n_push])]; rfl, by simp, by simp⟩
          simp (disch := (first | omega | (simp only [disM] <;> omega) | assumption)) only [↓run, ↓runM, run, runM, Nat.reduceAdd, Nat.reduceMul, Int.reduceToNat, ↓f22_J3, ↓f22_J2, ↓f22_J9, ↓f22_L8, ↓f22_J1, e10.b2s]
          exact hk _ _ ⟨(by repeat (first | exact Ext.refl _ | assumption | refine Ext.push ?_ _ | refine Ext.set ?_ (by first | omega | (simp only [H.n_push, H.n_set]; omega)) _)), by rw [hx]⟩
      · rw [if_neg hneg] at hx
        simp (disch := (first | omega | (simp only [disM] <;> omega) | assumption)) only [↓run, ↓runM, run, runM, Nat.reduceAdd, Nat.reduceMul, Int.reduceToNat, ↓f22_J3, ↓f22_J2, ↓f22_J9, ↓f22_L8, ↓f22_J1, hlen, ofBytes_len, e2.b2s]
        exact hk _ _ ⟨e1, by rw [hx]⟩
  rw [T.c22]; unfold f22_sleuthref0_Decimal
  by_cases hneg : x < 0
  · have k1 := key x.natAbs (by omega) (by omega) (by rw [Lib.itoa, if_pos hneg, if_pos hneg])
    have w1 : IntKind.u64.wrap (-(x + 1)) = -(x + 1) := wrap_u64 (by omega) (by omega)
    have w2 : IntKind.u64.wrap (-(x + 1) + 1) = -(x + 1) + 1 := wrap_u64 (by omega) (by omega)
    have w3 : -(x + 1) + 1 = (x.natAbs : Int) := by omega
    have hcv : ∀ (z : Int) (kk : VK β), qConv .u64 (.int .i64 z) (.mk kk) = kk (.int .u64 (IntKind.u64.wrap z)) := fun z kk => by
      show pConv _ _ _ = _; rw [pConv_any]
    simp (disch := omega) only [↓run, ↓runM, run, runM, hcv, w1]
    have w4 : IntKind.u64.wrap (x.natAbs : Int) = (x.natAbs : Int) := wrap_u64 (by omega) (by omega)
    simp only [↓q_pAdd_any, w3, w4, nth0, nthS, nthN]
    exact k1 _ _
  · have k1 := key x.toNat (by omega) (by omega) (by rw [Lib.itoa, if_neg hneg, if_neg hneg])
    have w1 : IntKind.u64.wrap x = (x.toNat : Int) := by rw [wrap_u64 (by omega) (by omega)]; omega
    have hcv : ∀ (z : Int) (kk : VK β), qConv .u64 (.int .i64 z) (.mk kk) = kk (.int .u64 (IntKind.u64.wrap z)) := fun z kk => by
      show pConv _ _ _ = _; rw [pConv_any]
    simp (disch := omega) only [↓run, ↓runM, run, runM, hcv, w1]
    exact k1 _ _

/-! ### The reference's terms, whole -/
def refP (s : List UInt8) : Option Ct := if s.length ≤ 1024 then (match rTerm s (s.length + 1) 0 with
  | some c => if c.to = s.length then some c else none
  | none => none) else none

theorem GA.w12 (T : GA t) (n : Nat) (hn : 2070 ≤ n) (s : List UInt8) (hs : s.length ≤ 9223372036854775807) (h : H) : Sp (β := β) (fRunS t stdI n (.fn 12 []) [.str s] h) fun v h' => Ext h h' ∧
    match refP s with
    | some u => ∃ c, v = .tup [.int .i64 u.kind, .int .i64 u.num, c, .int .i64 0] ∧ OwnAt h' h.n h'.n 1 c (strs u.kids)
    | none => v = .tup [.int .i64 0, .int .i64 0, .nils, .int .i64 200] := by
  intro k R hk
  obtain ⟨m, rfl⟩ : ∃ m, n = m + 1 := ⟨n - 1, by omega⟩
  unfold refP at hk
  rw [T.c12]; unfold f12_sleuthref1_Cut
  by_cases c1 : s.length ≤ 1024
  · rw [if_pos c1] at hk
    simp (disch := (first | omega | (simp only [disM] <;> omega) | assumption)) only [↓run, ↓runM, run, runM, Nat.reduceAdd, Nat.reduceMul, Int.reduceToNat, ↓f12_J3, ↓f12_J0]
    refine T.w25 s hs (s.length + 1) m 0 h (by omega) (by omega) (by omega) _ _ ?_
    intro v h1 ⟨e1, e2⟩
    revert hk e2
    cases rTerm s (s.length + 1) 0 with
    | none =>
      rintro hk ⟨a, b, c, rfl⟩
      simp (disch := (first | omega | (simp only [disM] <;> omega) | assumption)) only [↓run, ↓runM, run, runM, Nat.reduceAdd, Nat.reduceMul, Int.reduceToNat, ↓f12_J3, ↓f12_J0]
      exact hk _ _ ⟨Ext.set (Ext.push e1 _) e1.n _, rfl⟩
    | some u =>
      rintro hk ⟨c, rfl, e3⟩
      by_cases c2 : u.to = s.length
      · simp only [if_pos c2] at hk
        simp (disch := (first | omega | (simp only [disM] <;> omega) | assumption)) only [↓run, ↓runM, run, runM, Nat.reduceAdd, Nat.reduceMul, Int.reduceToNat, ↓f12_J3, ↓f12_J0, c2]
        exact hk _ _ ⟨Ext.set (Ext.push e1 _) e1.n _, c, rfl, e3.mono (Nat.le_refl _) (by first | omega | (simp only [H.n_push, H.n_set]; omega)) fun i h2 h3 => by rw [get_set_ne (by omega), get_push_ne (by omega)]⟩
      · simp only [if_neg c2] at hk
        simp (disch := (first | omega | (simp only [disM] <;> omega) | assumption)) only [↓run, ↓runM, run, runM, Nat.reduceAdd, Nat.reduceMul, Int.reduceToNat, ↓f12_J3, ↓f12_J0, c2]
        exact hk _ _ ⟨Ext.set (Ext.push e1 _) e1.n _, rfl⟩
  · rw [if_neg c1] at hk
    simp (disch := (first | omega | (simp only [disM] <;> omega) | assumption)) only [↓run, ↓runM, run, runM, Nat.reduceAdd, Nat.reduceMul, Int.reduceToNat, ↓f12_J3, ↓f12_J0]
    exact hk _ _ ⟨Ext.refl _, rfl⟩

theorem GA.w18 (T : GA t) (n : Nat) (hn : 2071 ≤ n) (s : List UInt8) (hs : s.length ≤ 9223372036854775807) (h : H) : Sp (β := β) (fRunS t stdI n (.fn 18 []) [.str s] h) fun v h' => Ext h h' ∧ v = .bool (refP s).isSome := by
  intro k R hk
  obtain ⟨m, rfl⟩ : ∃ m, n = m + 1 := ⟨n - 1, by omega⟩
  rw [T.c18]; unfold f18_sleuthref1_TermMay
  simp (disch := (first | omega | (simp only [disM] <;> omega) | assumption)) only [↓run, ↓runM, run, runM, Nat.reduceAdd, Nat.reduceMul, Int.reduceToNat]
  refine T.w12 m (by omega) s hs h _ _ ?_
  intro v h1 ⟨e1, e2⟩
  revert hk e2
  cases refP s with
  | none =>
    rintro hk rfl
    simp (disch := (first | omega | (simp only [disM] <;> omega) | assumption)) only [↓run, ↓runM, run, runM, Nat.reduceAdd, Nat.reduceMul, Int.reduceToNat]
    exact hk _ _ ⟨e1, rfl⟩
  | some u =>
    rintro hk ⟨c, rfl, e3⟩
    simp (disch := (first | omega | (simp only [disM] <;> omega) | assumption)) only [↓run, ↓runM, run, runM, Nat.reduceAdd, Nat.reduceMul, Int.reduceToNat]
    exact hk _ _ ⟨e1, rfl⟩

/-! ### Joins -/
theorem joinTail_snoc (sep : List UInt8) (xs : List (List UInt8)) (y : List UInt8) : Lib.joinTail sep (xs ++ [y]) = Lib.joinTail sep xs ++ sep ++ y := by
  simp [Lib.joinTail]
theorem join_snoc {xs : List (List UInt8)} (hx : xs ≠ []) (y : List UInt8) : Lib.join (xs ++ [y]) [32] = Lib.join xs [32] ++ [32] ++ y := by
  cases xs with
  | nil => exact absurd rfl hx
  | cons x xs => rw [List.cons_append, Lib.join_cons, Lib.join_cons, joinTail_snoc]; simp [List.append_assoc]
theorem take_snoc' {xs : List (List UInt8)} {j : Nat} (hj : j < xs.length) : xs.take (j + 1) = xs.take j ++ [xs.getD j []] := by
  rw [List.take_succ_eq_append_getElem hj]; simp [List.getD_eq_getElem?_getD, hj]
theorem join_take_le (xs : List (List UInt8)) (j : Nat) : (Lib.join (xs.take j) [32]).length ≤ (Lib.join xs [32]).length := by
  cases xs with
  | nil => simp
  | cons x xs =>
    cases j with
    | zero => simp [Lib.join_nil]
    | succ j =>
      rw [List.take_succ_cons, Lib.join_cons, Lib.join_cons, List.length_append, List.length_append]
      have : Lib.joinTail [32] xs = Lib.joinTail [32] (xs.take j) ++ Lib.joinTail [32] (xs.drop j) := by
        unfold Lib.joinTail; rw [← List.flatten_append, ← List.map_append, List.take_append_drop]
      rw [this, List.length_append]; omega

theorem GA.w31 (T : GA t) (n : Nat) {xs : List (List UInt8)} {v : AV} {h : H} (hs : SlAt h v (strs xs)) (hn : xs.length + 2 ≤ n) (hL : (Lib.join xs [32]).length < 9223372036854775800) (hl : xs.length ≤ 9223372036854775807) (k : K β) : qCall (fRunS t stdI n) (.fn 31 []) [v] h (.mk k) = k (.str (Lib.join xs [32])) h := by
  obtain ⟨m, rfl⟩ : ∃ m, n = m + 1 := ⟨n - 1, by omega⟩
  rw [T.q31]; unfold f31_sleuthref1_Join
  simp (disch := (first | omega | (simp only [disM] <;> omega) | assumption)) only [↓run, ↓runM, run, runM, Nat.reduceAdd, Nat.reduceMul, Int.reduceToNat, ↓f31_J0, ↓f31_J3, ↓f31_J5, ↓f31_J2, ↓f31_L1]
  refine qLoop_wp 4 m _ _ (fun i x0 x1 x2 x3 h' => h' = h ∧ x0 = v ∧ ∃ j : Nat, x2 = .str (Lib.join (xs.take j) [32]) ∧ x3 = .int .i64 (j : Int) ∧ j + i = xs.length) xs.length (by omega) ?_ _ _ _ _ _ ⟨rfl, rfl, 0, rfl, rfl, by omega⟩
  intro l i ih x0 x1 x2 x3 h' ⟨e0, q0, j, q2, q3, e1⟩
  subst e0 q0 q2 q3
  cases i with
  | zero =>
    have : xs.take j = xs := List.take_of_length_le (by omega)
    simp (disch := (first | omega | (simp only [disM] <;> omega) | assumption)) only [↓run, ↓runM, run, runM, Nat.reduceAdd, Nat.reduceMul, Int.reduceToNat, ↓f31_J0, ↓f31_J3, ↓f31_J5, ↓f31_J2, ↓f31_L1, hs.len, this]
  | succ i =>
    have hj : j < xs.length := by omega
    have hb := join_take_le xs (j + 1)
    rw [take_snoc' hj] at hb
    have hgo := ih i (by omega) _ .any (.str (Lib.join (xs.take (j + 1)) [32])) (.int .i64 ((j + 1 : Nat) : Int)) h' ⟨rfl, rfl, j + 1, rfl, rfl, by omega⟩
    rw [take_snoc' hj] at hgo
    by_cases hj0 : j = 0
    · subst hj0
      have e2 : Lib.join (xs.take 0 ++ [xs.getD 0 []]) [32] = xs.getD 0 [] := by simp [Lib.join_one]
      rw [e2] at hgo hb
      have e3 : Lib.join (xs.take 0) [32] = [] := rfl
      simp (disch := (first | omega | (simp only [disM] <;> omega) | assumption)) only [↓run, ↓runM, run, runM, Nat.reduceAdd, Nat.reduceMul, Int.reduceToNat, ↓f31_J0, ↓f31_J3, ↓f31_J5, ↓f31_J2, ↓f31_L1, hs.len, hs.loadS, e3]
      exact hgo
    · have hne : xs.take j ≠ [] := fun q => by
        have := congrArg List.length q
        rw [List.length_take, List.length_nil] at this; omega
      rw [join_snoc hne] at hgo hb
      rw [List.length_append, List.length_append] at hb
      simp (disch := (first | omega | (simp only [disM] <;> omega) | assumption)) only [↓run, ↓runM, run, runM, Nat.reduceAdd, Nat.reduceMul, Int.reduceToNat, ↓f31_J0, ↓f31_J3, ↓f31_J5, ↓f31_J2, ↓f31_L1, hs.len, hs.loadS]
      exact hgo

/-! ### Comparisons, copies -/
theorem GA.w32 (T : GA t) (n : Nat) {xs ys : List (List UInt8)} {v u : AV} {h : H} (hs : SlAt h v (strs xs)) (hu : SlAt h u (strs ys)) (hn : xs.length + 2 ≤ n) (hl : xs.length ≤ 9223372036854775807) (k : K β) : qCall (fRunS t stdI n) (.fn 32 []) [v, u] h (.mk k) = k (.bool (decide (xs = ys))) h := by
  obtain ⟨m, rfl⟩ : ∃ m, n = m + 1 := ⟨n - 1, by omega⟩
  rw [T.q32]; unfold f32_sleuthref1_same
  by_cases hlen : xs.length = ys.length
  · simp (disch := (first | omega | (simp only [disM] <;> omega) | assumption)) only [↓run, ↓runM, run, runM, Nat.reduceAdd, Nat.reduceMul, Int.reduceToNat, ↓f32_J1, ↓f32_J4, ↓f32_J3, ↓f32_L2, ↓f32_J0, hs.len, hu.len]
    refine qLoop_wp 5 m _ _ (fun i x0 x1 x2 x3 x4 h' => h' = h ∧ x0 = v ∧ x1 = u ∧ ∃ j : Nat, x3 = .int .i64 (j : Int) ∧ j + i = xs.length ∧ xs.take j = ys.take j) xs.length (by omega) ?_ _ _ _ _ _ _ ⟨rfl, rfl, rfl, 0, rfl, by omega, rfl⟩
    intro l i ih x0 x1 x2 x3 x4 h' ⟨e0, q0, q1, j, q3, e1, e2⟩
    subst e0 q0 q1 q3
    cases i with
    | zero =>
      have e3 : xs = ys := by rw [List.take_of_length_le (by omega), List.take_of_length_le (by omega)] at e2; exact e2
      simp (disch := (first | omega | (simp only [disM] <;> omega) | assumption)) only [↓run, ↓runM, run, runM, Nat.reduceAdd, Nat.reduceMul, Int.reduceToNat, ↓f32_J1, ↓f32_J4, ↓f32_J3, ↓f32_L2, ↓f32_J0, hs.len, e3]
    | succ i =>
      have hj : j < xs.length := by omega
      by_cases c1 : xs.getD j [] = ys.getD j []
      · simp (disch := (first | omega | (simp only [disM] <;> omega) | assumption)) only [↓run, ↓runM, run, runM, Nat.reduceAdd, Nat.reduceMul, Int.reduceToNat, ↓f32_J1, ↓f32_J4, ↓f32_J3, ↓f32_L2, ↓f32_J0, hs.len, hs.loadS, hu.loadS, c1]
        exact ih i (by omega) _ _ _ _ _ _ ⟨rfl, rfl, rfl, j + 1, congrArg (AV.int .i64) (by omega), by omega, by rw [take_snoc' hj, take_snoc' (xs := ys) (j := j) (by omega), e2, c1]⟩
      · have e3 : ¬ xs = ys := fun q => c1 (by rw [q])
        simp (disch := (first | omega | (simp only [disM] <;> omega) | assumption)) only [↓run, ↓runM, run, runM, Nat.reduceAdd, Nat.reduceMul, Int.reduceToNat, ↓f32_J1, ↓f32_J4, ↓f32_J3, ↓f32_L2, ↓f32_J0, hs.len, hs.loadS, hu.loadS, c1, e3]
  · have e3 : ¬ xs = ys := fun q => hlen (by rw [q])
    simp (disch := (first | omega | (simp only [disM] <;> omega) | assumption)) only [↓run, ↓runM, run, runM, Nat.reduceAdd, Nat.reduceMul, Int.reduceToNat, ↓f32_J1, ↓f32_J4, ↓f32_J3, ↓f32_L2, ↓f32_J0, hs.len, hu.len, e3]
theorem GA.w15 (T : GA t) (n : Nat) {xs ys : List (List UInt8)} {v u : AV} {h : H} (hs : SlAt h v (strs xs)) (hu : SlAt h u (strs ys)) (hn : xs.length + 2 ≤ n) (hl : xs.length ≤ 9223372036854775807) (k : K β) : qCall (fRunS t stdI n) (.fn 15 []) [v, u] h (.mk k) = k (.bool (decide (xs = ys))) h := by
  obtain ⟨m, rfl⟩ : ∃ m, n = m + 1 := ⟨n - 1, by omega⟩
  rw [T.q15]; unfold f15_sleuthlaw0_SameTexts
  by_cases hlen : xs.length = ys.length
  · simp (disch := (first | omega | (simp only [disM] <;> omega) | assumption)) only [↓run, ↓runM, run, runM, Nat.reduceAdd, Nat.reduceMul, Int.reduceToNat, ↓f15_J1, ↓f15_J4, ↓f15_J3, ↓f15_L2, ↓f15_J0, hs.len, hu.len]
    refine qLoop_wp 5 m _ _ (fun i x0 x1 x2 x3 x4 h' => h' = h ∧ x0 = v ∧ x1 = u ∧ ∃ j : Nat, x3 = .int .i64 (j : Int) ∧ j + i = xs.length ∧ xs.take j = ys.take j) xs.length (by omega) ?_ _ _ _ _ _ _ ⟨rfl, rfl, rfl, 0, rfl, by omega, rfl⟩
    intro l i ih x0 x1 x2 x3 x4 h' ⟨e0, q0, q1, j, q3, e1, e2⟩
    subst e0 q0 q1 q3
    cases i with
    | zero =>
      have e3 : xs = ys := by rw [List.take_of_length_le (by omega), List.take_of_length_le (by omega)] at e2; exact e2
      simp (disch := (first | omega | (simp only [disM] <;> omega) | assumption)) only [↓run, ↓runM, run, runM, Nat.reduceAdd, Nat.reduceMul, Int.reduceToNat, ↓f15_J1, ↓f15_J4, ↓f15_J3, ↓f15_L2, ↓f15_J0, hs.len, e3]
    | succ i =>
      have hj : j < xs.length := by omega
      by_cases c1 : xs.getD j [] = ys.getD j []
      · simp (disch := (first | omega | (simp only [disM] <;> omega) | assumption)) only [↓run, ↓runM, run, runM, Nat.reduceAdd, Nat.reduceMul, Int.reduceToNat, ↓f15_J1, ↓f15_J4, ↓f15_J3, ↓f15_L2, ↓f15_J0, hs.len, hs.loadS, hu.loadS, c1]
        exact ih i (by omega) _ _ _ _ _ _ ⟨rfl, rfl, rfl, j + 1, congrArg (AV.int .i64) (by omega), by omega, by rw [take_snoc' hj, take_snoc' (xs := ys) (j := j) (by omega), e2, c1]⟩
      · have e3 : ¬ xs = ys := fun q => c1 (by rw [q])
        simp (disch := (first | omega | (simp only [disM] <;> omega) | assumption)) only [↓run, ↓runM, run, runM, Nat.reduceAdd, Nat.reduceMul, Int.reduceToNat, ↓f15_J1, ↓f15_J4, ↓f15_J3, ↓f15_L2, ↓f15_J0, hs.len, hs.loadS, hu.loadS, c1, e3]
  · have e3 : ¬ xs = ys := fun q => hlen (by rw [q])
    simp (disch := (first | omega | (simp only [disM] <;> omega) | assumption)) only [↓run, ↓runM, run, runM, Nat.reduceAdd, Nat.reduceMul, Int.reduceToNat, ↓f15_J1, ↓f15_J4, ↓f15_J3, ↓f15_L2, ↓f15_J0, hs.len, hu.len, e3]
theorem GA.w16 (T : GA t) (n : Nat) (x : Int) (h : H) (k : K β) : qCall (fRunS t stdI (n + 1)) (.fn 16 []) [.int .i64 x] h (.mk k) = k (.int .i64 x) h := by
  rw [T.q16]; unfold f16_sleuthlaw0_Num
  simp (disch := (first | omega | (simp only [disM] <;> omega) | assumption)) only [↓run, ↓runM, run, runM, Nat.reduceAdd, Nat.reduceMul, Int.reduceToNat]

/-- A copy of texts: a slice that nobody else has. -/
def NewAt (h : H) (lo : Nat) (v : AV) (cs : List AV) : Prop := ∃ b, lo ≤ b ∧ b < h.n ∧ h.get b = .own 0 cs ∧ (v = .sl b 0 cs.length cs.length none ∨ v = .sl b 0 cs.length cs.length (some 1) ∧ cs ≠ [])
theorem NewAt.sl {h : H} {lo : Nat} {v : AV} {cs : List AV} (hs : NewAt h lo v cs) : SlAt h v cs := by
  obtain ⟨b, h1, h2, h3, rfl | ⟨rfl, _⟩⟩ := hs
  · exact .inr ⟨b, 0, _, _, cs, rfl, h2, by rw [h3]; rfl, by simp, by simp⟩
  · exact .inr ⟨b, 0, _, _, cs, rfl, h2, by rw [h3]; rfl, by simp, by simp⟩

theorem GA.w23 (T : GA t) (n : Nat) {xs : List AV} {v : AV} {h : H} (hs : SlAt h v xs) (hl : xs.length < room) : Sp (β := β) (fRunS t stdI (n + 1) (.fn 23 []) [v] h) fun u h' => Ext h h' ∧ h.n < h'.n ∧ NewAt h' h.n u xs := by
  intro k R hk
  rw [T.c23]; unfold f23_sleuthlaw0_CopyTexts
  have hb0 : ∀ k : VK β, pBuild [] [] [] k = k (.agg []) := fun k => rfl
  have hb1 : ∀ kk : K β, qBslice 0 [] 0 [] [] h (.mk kk) = kk (.sl h.n 0 0 0 none) (h.push (.own 0 [])) := fun kk => fBslice_n hb0 h kk
  simp (disch := (first | omega | (simp only [disM] <;> omega) | assumption)) only [↓run, ↓runM, run, runM, Nat.reduceAdd, Nat.reduceMul, Int.reduceToNat, ↓hb1]
  have e1 : SlAt (h.push (.own 0 [])) v xs := hs.ext ((Ext.refl _).push _)
  refine fApp_copy (cs := []) (get_push_eq rfl) rfl e1 ⟨by simpa using hl, by omega⟩ ?_ ?_
  · intro hx
    subst hx
    exact hk _ _ ⟨(by repeat (first | exact Ext.refl _ | assumption | refine Ext.push ?_ _ | refine Ext.set ?_ (by first | omega | (simp only [H.n_push, H.n_set]; omega)) _)), (by first | omega | (simp only [H.n_push, H.n_set]; omega)), h.n, Nat.le_refl _, (by first | omega | (simp only [H.n_push, H.n_set]; omega)), get_push_eq rfl, .inl rfl⟩
  · intro hx
    rw [List.nil_append, Nat.zero_add]
    exact hk _ _ ⟨(by repeat (first | exact Ext.refl _ | assumption | refine Ext.push ?_ _ | refine Ext.set ?_ (by first | omega | (simp only [H.n_push, H.n_set]; omega)) _)), (by first | omega | (simp only [H.n_push, H.n_set]; omega)), h.n + 1, (by first | omega | (simp only [H.n_push, H.n_set]; omega)), (by first | omega | (simp only [H.n_push, H.n_set]; omega)), get_push_eq (by rw [H.n_push]), .inr ⟨by rw [H.n_push], hx⟩⟩

/-- Texts lent: behind them stand two more. -/
def LentAt (h : H) (lo : Nat) (v : AV) (xs : List (List UInt8)) : Prop :=
  ∃ b, lo ≤ b ∧ b < h.n ∧ v = .sl b 0 xs.length (xs.length + 2) (some 1) ∧ h.get b = .own 0 (strs xs ++ [.str [126, 114, 111, 111, 109], .str [126, 98, 101, 104, 105, 110, 100]])
theorem LentAt.sl {h : H} {lo : Nat} {v : AV} {xs : List (List UInt8)} (hs : LentAt h lo v xs) : SlAt h v (strs xs) := by
  obtain ⟨b, h1, h2, rfl, h3⟩ := hs
  refine .inr ⟨b, 0, _, _, _, by rw [strs_len], h2, by rw [h3]; rfl, by simp, by simp [strs_len]⟩
theorem LentAt.keep {h h' : H} {lo : Nat} {v : AV} {xs : List (List UInt8)} (hs : LentAt h lo v xs) (hn : h.n ≤ h'.n) (hg : ∀ i, lo ≤ i → i < h.n → h'.get i = h.get i) : LentAt h' lo v xs := by
  obtain ⟨b, h1, h2, h3, h4⟩ := hs
  exact ⟨b, h1, by omega, h3, by rw [hg b h1 h2]; exact h4⟩

theorem pSlL_hi {es b o l m : Nat} {g : Option Nat} {kd : IntKind} {i : Int} (hg : g = none ∨ g = some es) (h0 : 0 ≤ i) (h1 : i ≤ m) (k : VK β) : qSlL es false true false (.sl b o l m g) [.int kd i] (.mk k) = k (.sl b o i.toNat m g) := by
  obtain ⟨j, rfl⟩ := Int.eq_ofNat_of_zero_le h0
  have hb : bounds false true false [.int kd (j : Int)] l m = some (0, j, m) := by
    simp only [bounds, natOf, if_pos h0, Option.bind_some, Int.toNat_natCast]
    rw [if_pos (by omega)]
  show pSlL es false true false (.sl b o l m g) [.int kd (j : Int)] k = _
  simp only [pSlL, aSl, bnd, hb, frc_eq, Nat.add_eq, Nat.mul_eq, Nat.zero_mul, Nat.add_zero, Nat.sub_eq, Nat.sub_zero, Int.toNat_natCast]
  rcases hg with rfl | rfl
  · rfl
  · simp only [beq_eq, decide_true, cond_true, cond_false]

theorem GA.w10 (T : GA t) (n : Nat) {xs : List (List UInt8)} {v : AV} {h : H} (hs : SlAt h v (strs xs)) (hl : xs.length + 2 < room) : Sp (β := β) (fRunS t stdI (n + 2) (.fn 10 []) [v] h) fun u h' => Ext h h' ∧ LentAt h' h.n u xs := by
  intro k R hk
  rw [T.c10]; unfold f10_sleuthlaw0_LendTexts
  simp (disch := (first | omega | (simp only [disM] <;> omega) | assumption)) only [↓run, ↓runM, run, runM, Nat.reduceAdd, Nat.reduceMul, Int.reduceToNat]
  refine T.w23 n hs (by rw [strs_len]; omega) _ _ ?_
  intro u h1 ⟨e1, e2, b, e3, e4, e5, e6⟩
  have hb0 : ∀ k : VK β, pBuild [.str [], .str []] [(0, 1), (1, 1)] [.str [126, 114, 111, 111, 109], .str [126, 98, 101, 104, 105, 110, 100]] k = k (.agg [.str [126, 114, 111, 111, 109], .str [126, 98, 101, 104, 105, 110, 100]]) := fun k => rfl
  have hb1 : ∀ (hh : H) (kk : K β), qBslice 0 [.str [], .str []] 2 [(0, 1), (1, 1)] [.str [126, 114, 111, 111, 109], .str [126, 98, 101, 104, 105, 110, 100]] hh (.mk kk) = kk (.sl hh.n 0 2 2 none) (hh.push (.own 0 [.str [126, 114, 111, 111, 109], .str [126, 98, 101, 104, 105, 110, 100]])) := fun hh kk => fBslice_n hb0 hh kk
  simp only [↓hb1]
  have hx : SlAt (h1.push (.own 0 [.str [126, 114, 111, 111, 109], .str [126, 98, 101, 104, 105, 110, 100]])) (.sl h1.n 0 2 2 none) [.str [126, 114, 111, 111, 109], .str [126, 98, 101, 104, 105, 110, 100]] :=
    .inr ⟨h1.n, 0, 2, none, _, rfl, (by first | omega | (simp only [H.n_push, H.n_set]; omega)), by rw [get_push_eq rfl]; rfl, rfl, by simp⟩
  have hfin : ∀ (b' : Nat) (h2 : H), Ext h h2 → h.n ≤ b' → b' < h2.n → h2.get b' = .own 0 (strs xs ++ [.str [126, 114, 111, 111, 109], .str [126, 98, 101, 104, 105, 110, 100]]) →
      (qLenL v <| .mk fun v3 => qSlL 1 false true false (.sl b' 0 (xs.length + 2) (xs.length + 2) (some 1)) [v3] <| .mk fun v4 => k v4 h2) = R := by
    intro b' h2 q1 q2 q3 q4
    simp (disch := (first | omega | (simp only [disM] <;> omega) | assumption)) only [↓run, ↓runM, run, runM, Nat.reduceAdd, Nat.reduceMul, Int.reduceToNat, hs.len, pSlL_hi (.inr rfl)]
    exact hk _ _ ⟨q1, b', q2, q3, rfl, q4⟩
  rcases e6 with rfl | ⟨rfl, hne⟩
  · refine fApp_copy (cs := strs xs) (by rw [get_push_ne (by omega)]; exact e5) rfl hx ⟨by rw [strs_len]; simpa using hl, by omega⟩ (fun q => by cases q) (fun _ => ?_)
    have := hfin (h1.n + 1) ((h1.push (.own 0 [.str [126, 114, 111, 111, 109], .str [126, 98, 101, 104, 105, 110, 100]])).push (.own 0 (strs xs ++ [.str [126, 114, 111, 111, 109], .str [126, 98, 101, 104, 105, 110, 100]]))) (e1.push _ |>.push _) (by omega) (by first | omega | (simp only [H.n_push, H.n_set]; omega)) (get_push_eq (by rw [H.n_push]))
    rw [strs_len, H.n_push]
    exact this
  · refine fApp_own (lo := h.n) (hi := h1.n) (cs := strs xs) (.inr ⟨b, _, rfl, e3, e4, by rw [get_push_ne (by omega)]; exact e5, by rw [Nat.mul_one], List.length_pos_iff.2 hne⟩) (by first | omega | (simp only [H.n_push, H.n_set]; omega)) (by rw [H.n_push]; have := e1.n; omega) (fun c => hx.src c) rfl (by rw [strs_len]; simpa using hl) (by omega) (by omega) ?_
    intro v' h2 o1 o2 o3
    rw [H.n_push] at o2 o3
    rcases o1 with ⟨_, q⟩ | ⟨b', l, rfl, o4, o5, o6, o7, o8⟩
    · simp at q
    · have hl2 : l = xs.length + 2 := by rw [List.length_append, strs_len] at o7; simp at o7; omega
      subst hl2
      have e9 : Ext h h2 := ⟨by have := e1.n; omega, fun i hi => by have := e1.n; rw [o3 i (by omega) (.inl hi), get_push_ne (by omega), e1.get i hi]⟩
      exact hfin b' h2 e9 o4 o5 o6

theorem GA.w20 (T : GA t) (n : Nat) {xs ys : List (List UInt8)} {v u : AV} {h : H} {lo : Nat} (hv : LentAt h lo v xs) (hu : SlAt h u (strs ys)) (hn : xs.length + 3 ≤ n) (hl : xs.length < 9223372036854775700) (hxy : xs = ys) (k : K β) : qCall (fRunS t stdI n) (.fn 20 []) [v, u] h (.mk k) = k (.bool true) h := by
  subst hxy
  obtain ⟨m, rfl⟩ : ∃ m, n = m + 1 := ⟨n - 1, by omega⟩
  rw [T.q20]; unfold f20_sleuthlaw0_KeptTexts
  have hs := hv.sl
  obtain ⟨b, h1, h2, rfl, h3⟩ := hv
  have ht : ((xs.length : Int) + 2).toNat = xs.length + 2 := by omega
  have ht1 : ((xs.length : Int) + 1).toNat = xs.length + 1 := by omega
  have hg0 : (strs xs ++ [AV.str [126, 114, 111, 111, 109], .str [126, 98, 101, 104, 105, 110, 100]])[xs.length]? = some (.str [126, 114, 111, 111, 109]) := by
    rw [List.getElem?_append_right (by rw [strs_len]; exact Nat.le_refl _), strs_len, Nat.sub_self]; rfl
  have hg1 : (strs xs ++ [AV.str [126, 114, 111, 111, 109], .str [126, 98, 101, 104, 105, 110, 100]])[xs.length + 1]? = some (.str [126, 98, 101, 104, 105, 110, 100]) := by
    rw [List.getElem?_append_right (by rw [strs_len]; omega), strs_len, show xs.length + 1 - xs.length = 1 by omega]; rfl
  simp (disch := (first | omega | (simp only [disM] <;> omega) | assumption)) only [↓run, ↓runM, run, runM, Nat.reduceAdd, Nat.reduceMul, Int.reduceToNat, hs.len, hu.len, pSlL_hi (.inr rfl), ht, ht1, T.w15 m hs hu (by omega) (by omega), h3, hg0, hg1]
end
end Am.F
