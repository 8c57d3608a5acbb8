/- Walks: the statements of chapter 2. -/
import Derived.Test.YtpalaplnolcimaaDoorAmJg
import Derived.Test.YtpalaplnolcimaaDoorAmGL2W
set_option linter.unusedSimpArgs false
set_option linter.unusedVariables false
namespace Am.F
open Go Am

theorem awk1 : termP [64, 49, 50, 40, 45, 55, 32, 64, 48, 32, 95, 41] = some ⟨2, 12, [[45, 55], [64, 48], [95]], []⟩ := by rw [termP_tP]; rfl
theorem awk2 : termP [64, 49, 40, 41] = none := by rw [termP_tP]; rfl
theorem awk3 : outP 2 12 [[45, 55], [64, 48], [95]] = [64, 49, 50, 40, 45, 55, 32, 64, 48, 32, 95, 41] := outP_again (by rw [← termP_tP]; exact awk1)
theorem awk4 : mayP [64, 49, 50, 40, 45, 55, 32, 64, 48, 32, 95, 41] = true := by unfold mayP; rw [awk1]; rfl
theorem awk5 : outP 1 32768 [] = [] := by unfold outP; simp
theorem awk6 : mayP [33] = true := by rw [mayP_iff]; exact ⟨_, tP_fail⟩
theorem awk7 : mayP [48, 49] = false := by unfold mayP; rw [termP_tP]; rfl

section
variable {β : Type} {t : ETree}

theorem GL2.w21 (T2 : GL2 t) (T : GA t) (L : GI t) (n : Nat) (hn : 1060 ≤ n) (h : H) : Sp (β := β) (fRunS t stdI n (.fn 21 []) [] h) fun v h' => Ext h h' ∧ v = .bool true := by
  intro k R hk
  obtain ⟨m, rfl⟩ : ∃ m, n = m + 2 := ⟨n - 2, by omega⟩
  have hb : ∀ (hh : H) (kk : K β), qBslice 0 [.str [], .str [], .str []] 3 [(0, 1), (1, 1), (2, 1)] [.str [45, 55], .str [64, 48], .str [95]] hh (.mk kk) = kk (.sl hh.n 0 3 3 none) (hh.push (.own 0 [.str [45, 55], .str [64, 48], .str [95]])) :=
    fun hh kk => fBslice_n (fun _ => rfl) hh kk
  have hsl : ∀ hh : H, SlAt (hh.push (.own 0 [.str [45, 55], .str [64, 48], .str [95]])) (.sl hh.n 0 3 3 none) (strs [[45, 55], [64, 48], [95]]) := fun hh =>
    .inr ⟨hh.n, 0, 3, none, _, rfl, (by first | omega | (simp only [H.n_push, H.n_set]; omega)), by rw [get_push_eq rfl]; rfl, rfl, by simp [strs]⟩
  rw [T2.c21]; unfold f21_sleuthlaw2_awake
  refine T.w11 L (m + 1) (by omega) _ h _ _ ?_
  intro v h1 ⟨e1, e2⟩
  rw [awk1] at e2
  obtain ⟨c, rfl, e3⟩ := e2
  simp (disch := (first | omega | (simp only [disM] <;> omega) | assumption)) only [↓run, ↓runM, run, runM, Nat.reduceAdd, Nat.reduceMul, Int.reduceToNat, ↓hb]
  refine T.w13 L (m + 1) _ _ _ _ _ (hsl h1) (by simp; omega) (by simp) _ _ ?_
  intro v h2 ⟨e4, e5⟩
  rw [awk3, if_pos awk4] at e5
  subst e5
  simp (disch := (first | omega | (simp only [disM] <;> omega) | assumption)) only [↓run, ↓runM, run, runM, Nat.reduceAdd, Nat.reduceMul, Int.reduceToNat]
  refine T.w11 L (m + 1) (by omega) _ h2 _ _ ?_
  intro v h3 ⟨e6, e7⟩
  rw [awk2] at e7
  subst e7
  simp (disch := (first | omega | (simp only [disM] <;> omega) | assumption)) only [↓run, ↓runM, run, runM, Nat.reduceAdd, Nat.reduceMul, Int.reduceToNat]
  refine T.w13 L (m + 1) _ _ [] _ _ (SlAt.nil h3) (by simp; omega) (by simp) _ _ ?_
  intro v h4 ⟨e8, e9⟩
  rw [awk5, if_neg (by rw [mayP_nil]; decide)] at e9
  subst e9
  have x1 : Ext h1 h4 := (((Ext.refl h1).push _).trans e4).trans (e6.trans e8)
  have s3 : SlAt (h4.push (.own 0 [.str [45, 55], .str [64, 48], .str [95]])) c (strs [[45, 55], [64, 48], [95]]) := (e3.sl (Nat.le_refl _)).ext (x1.push _)
  have hs15 := fun kk : K β => T.w15 (m + 1) s3 (hsl h4) (by simp; omega) (by simp) kk
  simp (disch := (first | omega | (simp only [disM] <;> omega) | assumption)) only [↓run, ↓runM, run, runM, Nat.reduceAdd, Nat.reduceMul, Int.reduceToNat, ↓hb, T.w16, hs15]
  refine T.w17 L (m + 1) (by omega) _ _ _ _ ?_
  intro v h5 ⟨e10, e11⟩
  rw [awk6] at e11
  subst e11
  simp (disch := (first | omega | (simp only [disM] <;> omega) | assumption)) only [↓run, ↓runM, run, runM, Nat.reduceAdd, Nat.reduceMul, Int.reduceToNat]
  refine T.w17 L (m + 1) (by omega) _ _ _ _ ?_
  intro v h6 ⟨e12, e13⟩
  rw [awk7] at e13
  subst e13
  simp (disch := (first | omega | (simp only [disM] <;> omega) | assumption)) only [↓run, ↓runM, run, runM, Nat.reduceAdd, Nat.reduceMul, Int.reduceToNat]
  exact hk _ _ ⟨(e1.trans x1).trans (((Ext.refl h4).push _).trans (e10.trans e12)), rfl⟩

/-- TermParts. -/
theorem GL2.w9 (T2 : GL2 t) (T : GA t) (L : GI t) (n : Nat) (hn : 2100 ≤ n) (s : List UInt8) (hs : s.length ≤ 9223372036854775807) (h : H) : Sp (β := β) (fRunS t stdI n (.fn 9 []) [.str s] h) fun v h' => v = .bool true := by
  intro k R hk
  obtain ⟨m, rfl⟩ : ∃ m, n = m + 3 := ⟨n - 3, by omega⟩
  rw [T2.c9]; unfold f9_sleuthlaw2_TermParts
  simp (disch := (first | omega | (simp only [disM] <;> omega) | assumption)) only [↓run, ↓runM, run, runM, Nat.reduceAdd, Nat.reduceMul, Int.reduceToNat, ↓f9_J7, ↓f9_J17, ↓f9_J16, ↓f9_L15, ↓f9_J6, ↓f9_J0]
  refine T2.w21 T L (m + 2) (by omega) h _ _ ?_
  intro v h1 ⟨e1, e2⟩
  subst e2
  simp (disch := (first | omega | (simp only [disM] <;> omega) | assumption)) only [↓run, ↓runM, run, runM, Nat.reduceAdd, Nat.reduceMul, Int.reduceToNat, ↓f9_J7, ↓f9_J17, ↓f9_J16, ↓f9_L15, ↓f9_J6, ↓f9_J0]
  refine T.w11 L (m + 2) (by omega) s h1 _ _ ?_
  intro v h2 ⟨e3, e4⟩
  cases ht : termP s with
  | none =>
    rw [ht] at e4
    subst e4
    simp (disch := (first | omega | (simp only [disM] <;> omega) | assumption)) only [↓run, ↓runM, run, runM, Nat.reduceAdd, Nat.reduceMul, Int.reduceToNat, ↓f9_J7, ↓f9_J17, ↓f9_J16, ↓f9_L15, ↓f9_J6, ↓f9_J0, T.w16]
    refine T.w17 L (m + 2) (by omega) _ _ _ _ ?_
    intro v h3 ⟨e5, e6⟩
    have : mayP s = false := by unfold mayP; rw [ht]; rfl
    rw [this] at e6
    subst e6
    simp (disch := (first | omega | (simp only [disM] <;> omega) | assumption)) only [↓run, ↓runM, run, runM, Nat.reduceAdd, Nat.reduceMul, Int.reduceToNat, ↓f9_J7, ↓f9_J17, ↓f9_J16, ↓f9_L15, ↓f9_J6, ↓f9_J0]
    exact hk _ _ rfl
  | some u =>
    rw [ht] at e4
    obtain ⟨c, rfl, e5⟩ := e4
    have htp : tP s = some u := by rw [← termP_tP]; exact ht
    have hkid := tP_kid htp
    have hk3 := tP_kids3 htp
    have hkind : u.kind = 2 ∨ u.kids = [] := by
      obtain ⟨_, hx, _⟩ := tP_some htp
      rcases (tL_good hx).form with ⟨_, _, h3⟩ | ⟨_, _, h3⟩ | ⟨_, _, _, h3⟩ | ⟨h3, _, _, _⟩
      · exact .inr h3
      · exact .inr h3
      · exact .inr h3
      · exact .inl h3
    have hsl := e5.sl (Nat.le_refl _)
    simp (disch := (first | omega | (simp only [disM] <;> omega) | assumption)) only [↓run, ↓runM, run, runM, Nat.reduceAdd, Nat.reduceMul, Int.reduceToNat, ↓f9_J7, ↓f9_J17, ↓f9_J16, ↓f9_L15, ↓f9_J6, ↓f9_J0, T.w16]
    refine qLoop_wp 12 (m + 2) _ _ (fun i x0 x1 x2 x3 x4 x5 x6 x7 x8 x9 x10 x11 h' => Ext h2 h' ∧ x0 = .str s ∧ x2 = .int .i64 u.kind ∧ x4 = c ∧ ∃ j : Nat, x6 = .int .i64 (j : Int) ∧ j + i = u.kids.length) u.kids.length (by omega) ?_ _ _ _ _ _ _ _ _ _ _ _ _ _ ⟨Ext.refl _, rfl, rfl, rfl, 0, rfl, by omega⟩
    intro l i ih x0 x1 x2 x3 x4 x5 x6 x7 x8 x9 x10 x11 h' ⟨e6, q0, q2, q4, j, q6, e7⟩
    subst q0 q2 q4 q6
    have hsl' := hsl.ext e6
    cases i with
    | zero =>
      by_cases c1 : u.kind = 2
      · simp (disch := (first | omega | (simp only [disM] <;> omega) | assumption)) only [↓run, ↓runM, run, runM, Nat.reduceAdd, Nat.reduceMul, Int.reduceToNat, ↓f9_J7, ↓f9_J17, ↓f9_J16, ↓f9_L15, ↓f9_J6, ↓f9_J0, hsl'.len]
        exact hk _ _ (congrArg AV.bool (decide_eq_true (by omega)))
      · have c2 : u.kids = [] := by rcases hkind with c2 | c2; exact absurd c2 c1; exact c2
        have c3 : u.kids.length = 0 := by rw [c2]; rfl
        simp (disch := (first | omega | (simp only [disM] <;> omega) | assumption)) only [↓run, ↓runM, run, runM, Nat.reduceAdd, Nat.reduceMul, Int.reduceToNat, ↓f9_J7, ↓f9_J17, ↓f9_J16, ↓f9_L15, ↓f9_J6, ↓f9_J0, hsl'.len]
        exact hk _ _ (congrArg AV.bool (decide_eq_true (by omega)))
    | succ i =>
      have hj : j < u.kids.length := by omega
      have hmem : u.kids.getD j [] ∈ u.kids := by simp [List.getD_eq_getElem?_getD, hj]
      obtain ⟨k1, k2⟩ := hkid _ hmem
      simp (disch := (first | omega | (simp only [disM] <;> omega) | assumption)) only [↓run, ↓runM, run, runM, Nat.reduceAdd, Nat.reduceMul, Int.reduceToNat, ↓f9_J7, ↓f9_J17, ↓f9_J16, ↓f9_L15, ↓f9_J6, ↓f9_J0, hsl'.len, hsl'.loadS]
      refine T.w17 L (m + 2) (by omega) _ _ _ _ ?_
      intro v h3 ⟨e8, e9⟩
      rw [k1] at e9
      subst e9
      have hsl3 := hsl'.ext e8
      simp (disch := (first | omega | (simp only [disM] <;> omega) | assumption)) only [↓run, ↓runM, run, runM, Nat.reduceAdd, Nat.reduceMul, Int.reduceToNat, ↓f9_J7, ↓f9_J17, ↓f9_J16, ↓f9_L15, ↓f9_J6, ↓f9_J0, hsl3.loadS]
      refine T.w18 (m + 2) (by omega) _ (by omega) _ _ _ ?_
      intro v h4 ⟨e10, e11⟩
      rw [mayP_refP, k1] at e11
      subst e11
      simp (disch := (first | omega | (simp only [disM] <;> omega) | assumption)) only [↓run, ↓runM, run, runM, Nat.reduceAdd, Nat.reduceMul, Int.reduceToNat, ↓f9_J7, ↓f9_J17, ↓f9_J16, ↓f9_L15, ↓f9_J6, ↓f9_J0]
      exact ih i (by omega) _ _ _ _ _ _ _ _ _ _ _ _ _ ⟨(e6.trans e8).trans e10, rfl, rfl, rfl, j + 1, congrArg (AV.int .i64) (by omega), by omega⟩

end
end Am.F
