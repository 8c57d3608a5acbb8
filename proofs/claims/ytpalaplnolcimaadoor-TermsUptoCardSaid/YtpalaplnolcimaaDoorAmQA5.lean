/- Walks: the reference's Make, SpoilTexts; plain: both Makes are one. -/
import Derived.Test.YtpalaplnolcimaaDoorAmLG2
set_option linter.unusedSimpArgs false
set_option linter.unusedVariables false
namespace Am.F
open Go Am

/-! ### Plain: both Makes -/
def outR (kind num : Int) (kids : List (List UInt8)) : List UInt8 := if kind = 0 then [95] else if kind = 3 then [33] else if kind = 1 then Lib.itoa num else if kind = 2 then conP num kids else []
def makeR (kind num : Int) (kids : List (List UInt8)) : Option (List UInt8) :=
  if kids.length ≤ 3 ∧ -32768 ≤ num ∧ num ≤ 32767 then (match refP (outR kind num kids) with
    | some u => if u.kind = kind ∧ u.num = num ∧ u.kids = kids then some (outR kind num kids) else none
    | none => none) else none

theorem mayP_nil : mayP [] = false := by unfold mayP; rw [termP_tP]; rfl
theorem tP_hole : tP [95] = some ⟨0, 0, [], []⟩ := by rfl
theorem tP_fail : tP [33] = some ⟨3, 0, [], []⟩ := by rfl
theorem tP_itoa {x : Int} (h0 : -32768 ≤ x) (h1 : x ≤ 32767) : tP (Lib.itoa x) = some ⟨1, x, [], []⟩ := by
  have hl : (Lib.itoa x).length ≤ 20 := itoa_len (by omega) (by omega)
  have := tL_num (f := (Lib.itoa x).length) h0 h1 (r := []) (.inl rfl)
  rw [List.append_nil] at this
  exact tP_of (by omega) (by omega) this rfl
theorem tP_conP {x : Int} (h0 : 0 ≤ x) (h1 : x ≤ 99) {kids : List (List UInt8)} (hl : kids.length ≤ 3) (hk : ∀ y ∈ kids, mayP y = true) (hc : (conP x kids).length ≤ 1024) : tP (conP x kids) = some ⟨2, x, kids, []⟩ := by
  have key : ∀ y ∈ kids, ∃ v, tL 1025 y = some v ∧ v.rest = [] := by
    intro y hy
    obtain ⟨u, hu⟩ := (mayP_iff y).1 (hk y hy)
    obtain ⟨a, b, c⟩ := tP_some hu
    exact ⟨u, by rw [tL_fuel 1025 (y.length + 1) y (by omega) (by omega)]; exact b, c⟩
  exact tP_of hc (f := 1026) (by omega) (tL_con h0 h1 hl key) rfl
theorem makeR_eq (kind num : Int) (kids : List (List UInt8)) : makeR kind num kids = if mayP (outP kind num kids) = true then some (outP kind num kids) else none := by
  -- what the reference makes is what the program makes
  have hfor : ∀ s, makeR kind num kids = some s → mayP (outP kind num kids) = true ∧ outP kind num kids = s := by
    intro s h
    unfold makeR at h
    split at h
    · cases hr : refP (outR kind num kids) with
      | none => rw [hr] at h; cases h
      | some u =>
        rw [hr] at h
        simp only at h
        split at h
        · rename_i hu
          cases h
          rw [refP_tP] at hr
          cases ht : tP (outR kind num kids) with
          | none => rw [ht] at hr; cases hr
          | some v =>
            rw [ht] at hr
            cases hr
            have := outP_again ht
            obtain ⟨a, b, c⟩ := hu
            simp only [toC] at a b c
            rw [a, b, c] at this
            rw [this]
            exact ⟨(mayP_iff _).2 ⟨v, ht⟩, rfl⟩
        · cases h
    · cases h
  by_cases hm : mayP (outP kind num kids) = true
  · rw [if_pos hm]
    have hl := mayP_len hm
    have done : ∀ (u : Tm), tP (outP kind num kids) = some u → u.kind = kind → u.num = num → u.kids = kids → outR kind num kids = outP kind num kids → kids.length ≤ 3 ∧ -32768 ≤ num ∧ num ≤ 32767 → makeR kind num kids = some (outP kind num kids) := by
      intro u hu h1 h2 h3 h4 h5
      unfold makeR
      rw [if_pos h5, h4, refP_tP, hu]
      simp only [Option.map_some, toC]
      rw [if_pos ⟨h1, h2, h3⟩]
    by_cases c1 : kind = 2 ∧ (0 ≤ num ∧ num ≤ 99) ∧ kids.length ≤ 3 ∧ kids.all mayP = true
    · have e : outP kind num kids = conP num kids := by unfold outP; rw [if_pos c1]
      obtain ⟨rfl, ⟨h0, h1⟩, h2, h3⟩ := c1
      rw [e] at hl
      exact done _ (by rw [e]; exact tP_conP h0 h1 h2 (List.all_eq_true.1 h3) hl) rfl rfl rfl (by rw [e]; rfl) ⟨h2, by omega, by omega⟩
    · by_cases c2 : 0 < kids.length
      · exfalso
        have : outP kind num kids = [] := by unfold outP; rw [if_neg c1, if_pos c2]
        rw [this, mayP_nil] at hm; cases hm
      · have hk : kids = [] := List.eq_nil_of_length_eq_zero (by omega)
        subst hk
        by_cases c3 : kind = 0 ∧ num = 0
        · have e : outP kind num [] = [95] := by unfold outP; rw [if_neg c1, if_neg c2, if_pos c3]
          obtain ⟨rfl, rfl⟩ := c3
          exact done _ (by rw [e]; exact tP_hole) rfl rfl rfl (by rw [e]; rfl) ⟨by simp, by omega, by omega⟩
        · by_cases c4 : kind = 3 ∧ num = 0
          · have e : outP kind num [] = [33] := by unfold outP; rw [if_neg c1, if_neg c2, if_neg c3, if_pos c4]
            obtain ⟨rfl, rfl⟩ := c4
            exact done _ (by rw [e]; exact tP_fail) rfl rfl rfl (by rw [e]; rfl) ⟨by simp, by omega, by omega⟩
          · by_cases c5 : kind = 1 ∧ (-32768 ≤ num ∧ num ≤ 32767)
            · have e : outP kind num [] = Lib.itoa num := by unfold outP; rw [if_neg c1, if_neg c2, if_neg c3, if_neg c4, if_pos c5]
              obtain ⟨rfl, h0, h1⟩ := c5
              exact done _ (by rw [e]; exact tP_itoa h0 h1) rfl rfl rfl (by rw [e]; rfl) ⟨by simp, h0, h1⟩
            · exfalso
              have : outP kind num [] = [] := by unfold outP; rw [if_neg c1, if_neg c2, if_neg c3, if_neg c4, if_neg c5]
              rw [this, mayP_nil] at hm; cases hm
  · rw [if_neg hm]
    cases h : makeR kind num kids with
    | none => rfl
    | some s => exact absurd (hfor s h).1 hm

theorem tP_kids3 {s : List UInt8} {u : Tm} (h : tP s = some u) : u.kids.length ≤ 3 := by
  obtain ⟨_, ht, _⟩ := tP_some h
  rcases (tL_good ht).form with ⟨_, _, h3⟩ | ⟨_, _, h3⟩ | ⟨_, _, _, h3⟩ | ⟨_, _, _, h3⟩
  · rw [h3]; simp
  · rw [h3]; simp
  · rw [h3]; simp
  · exact h3
theorem refP_kids3 {s : List UInt8} {u : Ct} (h : refP s = some u) : u.kids.length ≤ 3 := by
  rw [refP_tP] at h
  cases ht : tP s with
  | none => rw [ht] at h; cases h
  | some v => rw [ht] at h; cases h; exact tP_kids3 ht

/-! ### Walks -/
section
variable {β : Type} {t : ETree}

theorem GA.w14 (T : GA t) (n : Nat) (hn : 2080 ≤ n) (kind num : Int) (h0 : -9223372036854775808 ≤ num) (h1 : num < 9223372036854775808) (kids : List (List UInt8)) (hk : ∀ x ∈ kids, x.length ≤ 281474976710656) (hl : kids.length ≤ 9223372036854775807) (v : AV) (h : H) (hs : SlAt h v (strs kids)) :
    Sp (β := β) (fRunS t stdI n (.fn 14 []) [.int .i64 kind, .int .i64 num, v] h) fun u h' => Ext h h' ∧ u = match makeR kind num kids with
      | some s => .tup [.str s, .int .i64 0]
      | none => .tup [.str [], .int .i64 200] := by
  intro k R hk'
  obtain ⟨m, rfl⟩ : ∃ m, n = m + 3 := ⟨n - 3, by omega⟩
  by_cases c0 : kids.length ≤ 3 ∧ -32768 ≤ num ∧ num ≤ 32767
  · have hj : (Lib.join kids [32]).length ≤ 3 * 281474976710657 := Nat.le_trans (join_len (m := 281474976710656) hk) (Nat.mul_le_mul c0.1 (Nat.le_refl _))
    have hi := itoa_len h0 (by omega)
    have hout : (outR kind num kids).length ≤ 9223372036854775807 := by
      unfold outR
      repeat' split
      all_goals first | (simp; done) | omega | skip
      unfold conP
      split <;> simp only [List.length_append, List.length_cons, List.length_nil] <;> omega
    have key : ∀ h1, Ext h h1 → ∀ x3 x4 x6 x7 x8 x9 x10 x11 x12 x13 x14 x15, f14_J1 (fRunS t stdI (m + 2)) k (.int .i64 kind) (.int .i64 num) v x3 x4 (.str (outR kind num kids)) x6 x7 x8 x9 x10 x11 x12 x13 x14 x15 h1 = R := by
      intro h1 e1 x3 x4 x6 x7 x8 x9 x10 x11 x12 x13 x14 x15
      unfold makeR at hk'
      rw [if_pos c0] at hk'
      rw [f14_J1]
      refine T.w12 (m + 2) (by omega) _ hout h1 _ _ ?_
      intro u h2 ⟨e2, e3⟩
      cases hr : refP (outR kind num kids) with
      | none =>
        rw [hr] at hk' e3
        subst e3
        simp (disch := (first | omega | (simp only [disM] <;> omega) | assumption)) only [↓run, ↓runM, run, runM, Nat.reduceAdd, Nat.reduceMul, Int.reduceToNat, ↓f14_J7, ↓f14_J1, ↓f14_J0]
        exact hk' _ _ ⟨e1.trans e2, rfl⟩
      | some w =>
        rw [hr] at hk' e3
        obtain ⟨c, rfl, e4⟩ := e3
        have hw3 := refP_kids3 hr
        have hsl := e4.sl (Nat.le_refl _)
        have hsk := hs.ext (e1.trans e2)
        by_cases d1 : w.kind = kind
        · by_cases d2 : w.num = num
          · by_cases d3 : w.kids = kids
            · simp only [if_pos (And.intro d1 (And.intro d2 d3))] at hk'
              have hsame := fun kk : K β => T.w32 (m + 2) hsl hsk (by rw [d3]; omega) (by rw [d3]; omega) kk
              simp (disch := (first | omega | (simp only [disM] <;> omega) | assumption)) only [↓run, ↓runM, run, runM, Nat.reduceAdd, Nat.reduceMul, Int.reduceToNat, ↓f14_J7, ↓f14_J1, ↓f14_J0, d1, d2, hsame, d3]
              exact hk' _ _ ⟨e1.trans e2, rfl⟩
            · simp only [if_neg (fun q : w.kind = kind ∧ w.num = num ∧ w.kids = kids => d3 q.2.2)] at hk'
              have hsame := fun kk : K β => T.w32 (m + 2) hsl hsk (by omega) (by omega) kk
              simp (disch := (first | omega | (simp only [disM] <;> omega) | assumption)) only [↓run, ↓runM, run, runM, Nat.reduceAdd, Nat.reduceMul, Int.reduceToNat, ↓f14_J7, ↓f14_J1, ↓f14_J0, d1, d2, hsame, d3]
              exact hk' _ _ ⟨e1.trans e2, rfl⟩
          · simp only [if_neg (fun q : w.kind = kind ∧ w.num = num ∧ w.kids = kids => d2 q.2.1)] at hk'
            simp (disch := (first | omega | (simp only [disM] <;> omega) | assumption)) only [↓run, ↓runM, run, runM, Nat.reduceAdd, Nat.reduceMul, Int.reduceToNat, ↓f14_J7, ↓f14_J1, ↓f14_J0, d1, d2]
            exact hk' _ _ ⟨e1.trans e2, rfl⟩
        · simp only [if_neg (fun q : w.kind = kind ∧ w.num = num ∧ w.kids = kids => d1 q.1)] at hk'
          simp (disch := (first | omega | (simp only [disM] <;> omega) | assumption)) only [↓run, ↓runM, run, runM, Nat.reduceAdd, Nat.reduceMul, Int.reduceToNat, ↓f14_J7, ↓f14_J1, ↓f14_J0, d1]
          exact hk' _ _ ⟨e1.trans e2, rfl⟩
    obtain ⟨c1, c2⟩ := c0
    by_cases k0 : kind = 0
    · have e : outR kind num kids = [95] := by unfold outR; rw [if_pos k0]
      rw [e] at key
      rw [T.c14]; unfold f14_sleuthref1_Make
      simp (disch := (first | omega | (simp only [disM] <;> omega) | assumption)) only [↓run, ↓runM, run, runM, Nat.reduceAdd, Nat.reduceMul, Int.reduceToNat, ↓f14_J0, hs.len, T.w30, c2, k0]
      rw [k0] at key
      exact key h (Ext.refl _) _ _ _ _ _ _ _ _ _ _ _ _
    by_cases k3 : kind = 3
    · have e : outR kind num kids = [33] := by unfold outR; rw [if_neg k0, if_pos k3]
      rw [e] at key
      rw [T.c14]; unfold f14_sleuthref1_Make
      simp (disch := (first | omega | (simp only [disM] <;> omega) | assumption)) only [↓run, ↓runM, run, runM, Nat.reduceAdd, Nat.reduceMul, Int.reduceToNat, ↓f14_J0, hs.len, T.w30, c2, k3]
      rw [k3] at key
      exact key h (Ext.refl _) _ _ _ _ _ _ _ _ _ _ _ _
    by_cases k1 : kind = 1
    · have e : outR kind num kids = Lib.itoa num := by unfold outR; rw [if_neg k0, if_neg k3, if_pos k1]
      rw [e] at key
      rw [T.c14]; unfold f14_sleuthref1_Make
      simp (disch := (first | omega | (simp only [disM] <;> omega) | assumption)) only [↓run, ↓runM, run, runM, Nat.reduceAdd, Nat.reduceMul, Int.reduceToNat, ↓f14_J0, hs.len, T.w30, c2]
      refine T.w22 (m + 2) (by omega) num h0 h1 h _ _ ?_
      intro u h2 ⟨e1, e2⟩
      subst e2
      simp (disch := (first | omega | (simp only [disM] <;> omega) | assumption)) only [↓run, ↓runM, run, runM, Nat.reduceAdd, Nat.reduceMul, Int.reduceToNat]
      exact key h2 e1 _ _ _ _ _ _ _ _ _ _ _ _
    by_cases k2 : kind = 2
    · have e : outR kind num kids = conP num kids := by unfold outR; rw [if_neg k0, if_neg k3, if_neg k1, if_pos k2]
      rw [e] at key
      rw [T.c14]; unfold f14_sleuthref1_Make
      simp (disch := (first | omega | (simp only [disM] <;> omega) | assumption)) only [↓run, ↓runM, run, runM, Nat.reduceAdd, Nat.reduceMul, Int.reduceToNat, ↓f14_J0, hs.len, T.w30, c2]
      refine T.w22 (m + 2) (by omega) num h0 h1 h _ _ ?_
      intro u h2 ⟨e1, e2⟩
      subst e2
      have hs2 := hs.ext e1
      unfold conP at key
      by_cases c3 : 0 < kids.length
      · rw [if_pos c3] at key
        simp only [List.append_assoc] at key
        have hj31 := fun kk : K β => T.w31 (m + 2) hs2 (by omega) (by omega) (by omega) kk
        simp (disch := (first | omega | (simp only [disM] <;> omega) | assumption)) only [↓run, ↓runM, run, runM, Nat.reduceAdd, Nat.reduceMul, Int.reduceToNat, hs2.len, hj31, List.append_assoc]
        exact key h2 e1 _ _ _ _ _ _ _ _ _ _ _ _
      · rw [if_neg c3, List.append_nil] at key
        simp (disch := (first | omega | (simp only [disM] <;> omega) | assumption)) only [↓run, ↓runM, run, runM, Nat.reduceAdd, Nat.reduceMul, Int.reduceToNat, hs2.len]
        exact key h2 e1 _ _ _ _ _ _ _ _ _ _ _ _
    · have e : outR kind num kids = [] := by unfold outR; rw [if_neg k0, if_neg k3, if_neg k1, if_neg k2]
      rw [e] at key
      rw [T.c14]; unfold f14_sleuthref1_Make
      simp (disch := (first | omega | (simp only [disM] <;> omega) | assumption)) only [↓run, ↓runM, run, runM, Nat.reduceAdd, Nat.reduceMul, Int.reduceToNat, ↓f14_J0, hs.len, T.w30, c2]
      exact key h (Ext.refl _) _ _ _ _ _ _ _ _ _ _ _ _
  · unfold makeR at hk'
    rw [if_neg c0] at hk'
    rw [T.c14]; unfold f14_sleuthref1_Make
    by_cases c1 : kids.length ≤ 3
    · have c2 : ¬ (-32768 ≤ num ∧ num ≤ 32767) := fun q => c0 ⟨c1, q⟩
      simp (disch := (first | omega | (simp only [disM] <;> omega) | assumption)) only [↓run, ↓runM, run, runM, Nat.reduceAdd, Nat.reduceMul, Int.reduceToNat, ↓f14_J7, ↓f14_J1, ↓f14_J0, hs.len, T.w30, c2]
      exact hk' _ _ ⟨Ext.refl _, rfl⟩
    · simp (disch := (first | omega | (simp only [disM] <;> omega) | assumption)) only [↓run, ↓runM, run, runM, Nat.reduceAdd, Nat.reduceMul, Int.reduceToNat, ↓f14_J7, ↓f14_J1, ↓f14_J0, hs.len]
      exact hk' _ _ ⟨Ext.refl _, rfl⟩

theorem GA.w19 (T : GA t) (n : Nat) {xs : List (List UInt8)} (hx : ∀ x ∈ xs, x.length < 9223372036854775800) {v : AV} {h : H} {lo hi : Nat} (hv : OwnAt h lo hi 1 v (strs xs)) (hn : xs.length + 2 ≤ n) (hl : xs.length ≤ 9223372036854775807) :
    Sp (β := β) (fRunS t stdI n (.fn 19 []) [v] h) fun u h' => u = .tup [] ∧ h'.n = h.n ∧ ∀ i, (i < lo ∨ hi ≤ i) → h'.get i = h.get i := by
  intro k R hk
  obtain ⟨m, rfl⟩ : ∃ m, n = m + 1 := ⟨n - 1, by omega⟩
  rw [T.c19]; unfold f19_sleuthlaw0_SpoilTexts
  rcases hv with ⟨rfl, hxs⟩ | ⟨b, l, rfl, h1, h2, h3, h4, h5⟩
  · have : xs = [] := by cases xs with | nil => rfl | cons => cases hxs
    subst this
    simp (disch := (first | omega | (simp only [disM] <;> omega) | assumption)) only [↓run, ↓runM, run, runM, Nat.reduceAdd, Nat.reduceMul, Int.reduceToNat, ↓f19_J2, ↓f19_J1, ↓f19_L0]
    refine qLoop_wp 4 m _ _ (fun i x0 x1 x2 x3 h' => h' = h ∧ x0 = .nils ∧ x1 = .int .i64 0) 0 (by omega) ?_ _ _ _ _ _ ⟨rfl, rfl, rfl⟩
    intro l i ih x0 x1 x2 x3 h' ⟨e0, q0, q1⟩
    subst e0 q0 q1
    simp (disch := (first | omega | (simp only [disM] <;> omega) | assumption)) only [↓run, ↓runM, run, runM, Nat.reduceAdd, Nat.reduceMul, Int.reduceToNat, ↓f19_J2, ↓f19_J1, ↓f19_L0]
    exact hk _ _ ⟨rfl, rfl, fun _ _ => rfl⟩
  · rw [strs_len, Nat.mul_one] at h4
    subst h4
    simp (disch := (first | omega | (simp only [disM] <;> omega) | assumption)) only [↓run, ↓runM, run, runM, Nat.reduceAdd, Nat.reduceMul, Int.reduceToNat, ↓f19_J2, ↓f19_J1, ↓f19_L0]
    refine qLoop_wp 4 m _ _ (fun i x0 x1 x2 x3 h' => x0 = .sl b 0 xs.length xs.length (some 1) ∧ h'.n = h.n ∧ (∀ i, ¬ b = i → h'.get i = h.get i) ∧ ∃ (j : Nat) (cs : List AV), x1 = .int .i64 (j : Int) ∧ h'.get b = .own 0 cs ∧ cs.length = xs.length ∧ j + i = xs.length ∧
      ∀ i, j ≤ i → cs[i]? = (strs xs)[i]?) xs.length (by omega) ?_ _ _ _ _ _ ⟨rfl, rfl, fun _ _ => rfl, 0, strs xs, rfl, h3, strs_len _, by omega, fun _ _ => rfl⟩
    intro l i ih x0 x1 x2 x3 h' ⟨q0, e0, e1, j, cs, q1, e2, e3, e4, e5⟩
    subst q0 q1
    cases i with
    | zero =>
      simp (disch := (first | omega | (simp only [disM] <;> omega) | assumption)) only [↓run, ↓runM, run, runM, Nat.reduceAdd, Nat.reduceMul, Int.reduceToNat, ↓f19_J2, ↓f19_J1, ↓f19_L0]
      exact hk _ _ ⟨rfl, e0, fun i hi => e1 i (by omega)⟩
    | succ i =>
      have hj : j < xs.length := by omega
      have e6 : cs[j]? = some (.str (xs.getD j [])) := by
        rw [e5 j (Nat.le_refl _)]; simp [strs, List.getD_eq_getElem?_getD, hj]
      have e7 : (xs.getD j []).length < 9223372036854775800 := hx _ (by simp [List.getD_eq_getElem?_getD, hj])
      simp (disch := (first | omega | (simp only [disM] <;> omega) | assumption)) only [↓run, ↓runM, run, runM, Nat.reduceAdd, Nat.reduceMul, Int.reduceToNat, ↓f19_J2, ↓f19_J1, ↓f19_L0, e2, e6, e3]
      exact ih i (by omega) _ _ _ _ _ ⟨rfl, by rw [H.n_set]; exact e0, fun i hi => by rw [get_set_ne hi]; exact e1 i hi, j + 1, _, congrArg (AV.int .i64) (by omega), get_set_eq rfl, by rw [List.length_set]; exact e3, by omega, fun i hi => by
        rw [List.getElem?_set_ne (by omega)]; exact e5 i (by omega)⟩
end
end Am.F
