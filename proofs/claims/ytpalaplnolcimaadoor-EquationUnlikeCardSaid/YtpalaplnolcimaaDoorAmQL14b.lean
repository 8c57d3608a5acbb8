/- Walks: the statements of chapter 14, EquationUnlike. -/
import Derived.Test.YtpalaplnolcimaaDoorAmQL14
import Derived.Test.YtpalaplnolcimaaDoorAmQEq
set_option linter.unusedSimpArgs false
set_option linter.unusedVariables false
namespace Am.F
open Go Am

/-- What a node is told by, said once for both outcomes. -/
def eqT (x : Nd) : List UInt8 := if eqMay x = true then eqText x else []
def eqE (x : Nd) : Int := if eqMay x = true then 0 else 1400

section
variable {β : Type} {t : ETree}

theorem GB.u258 (TB : GB t) (T : GA t) (L : GI t) (n : Nat) (hn : 1070 ≤ n) {h : H} {a : AV} {x : Nd} (hx : NdAt h a x) (hl : x.args.length ≤ 9223372036854775807) :
    Sp (β := β) (fRunS t stdI n (.fn 258 []) [a] h) fun u h' => Ext h h' ∧ u = .tup [.str (eqT x), .int .i64 (eqE x)] := by
  intro k R hk
  refine TB.w258 T L n hn hx hl _ _ ?_
  intro u h' ⟨e1, e2⟩
  refine hk u h' ⟨e1, ?_⟩
  rw [e2]; unfold eqT eqE
  split <;> rfl

/-- EquationUnlike. -/
theorem GL14.w292 (T4 : GL14 t) (TB : GB t) (T : GA t) (L : GI t) (n : Nat) {h : H} {a b : AV} {x y : Nd} (hx : NdAt h a x) (hy : NdAt h b y) (p : Int) (hL : x.args.length ≤ 9223372036854775807) (hM : y.args.length ≤ 9223372036854775807) (hn : x.args.length + 1200 ≤ n) :
    Sp (β := β) (fRunS t stdI n (.fn 292 []) [a, b, .int .i64 p] h) fun v h' => v = .bool true := by
  intro k R hk
  obtain ⟨m, rfl⟩ : ∃ m, n = m + 2 := ⟨n - 2, by omega⟩
  obtain ⟨v, rfl, hv⟩ := hx
  obtain ⟨w, rfl, hw⟩ := hy
  rw [T4.c292]; unfold f292_sleuthlaw14_EquationUnlike
  simp (disch := (first | omega | (simp only [disM] <;> omega) | assumption)) only [↓run, ↓runM, run, runM, Nat.reduceAdd, Nat.reduceMul, Int.reduceToNat, nodeB]
  have e0 : Ext h ((h.push (.own 0 [.int .i64 x.fn, .int .i64 x.parent, v, .str x.res])).push (.own 0 [.int .i64 y.fn, .int .i64 y.parent, w, .str y.res])) := ((Ext.refl h).push _).push _
  have g0 : ((h.push (.own 0 [.int .i64 x.fn, .int .i64 x.parent, v, .str x.res])).push (.own 0 [.int .i64 y.fn, .int .i64 y.parent, w, .str y.res])).get h.n = .own 0 [.int .i64 x.fn, .int .i64 x.parent, v, .str x.res] := by
    rw [get_push_ne (by rw [H.n_push]; omega), get_push_eq rfl]
  have g1 : ((h.push (.own 0 [.int .i64 x.fn, .int .i64 x.parent, v, .str x.res])).push (.own 0 [.int .i64 y.fn, .int .i64 y.parent, w, .str y.res])).get (h.n + 1) = .own 0 [.int .i64 y.fn, .int .i64 y.parent, w, .str y.res] := by
    rw [get_push_eq (by rw [H.n_push])]
  have g2 : ((h.push (.own 0 [.int .i64 x.fn, .int .i64 x.parent, v, .str x.res])).push (.own 0 [.int .i64 y.fn, .int .i64 y.parent, w, .str y.res])).n = h.n + 2 := by rw [H.n_push, H.n_push]
  have hin : NdIn ((h.push (.own 0 [.int .i64 x.fn, .int .i64 x.parent, v, .str x.res])).push (.own 0 [.int .i64 y.fn, .int .i64 y.parent, w, .str y.res])) h.n v x := ⟨by rw [g0]; rfl, by rw [g2]; omega, hv.ext e0⟩
  have hiy : NdIn ((h.push (.own 0 [.int .i64 x.fn, .int .i64 x.parent, v, .str x.res])).push (.own 0 [.int .i64 y.fn, .int .i64 y.parent, w, .str y.res])) (h.n + 1) w y := ⟨by rw [g1]; rfl, by rw [g2]; omega, hw.ext e0⟩
  refine T4.w256 TB T L (m + 1) (by omega) _ _ _ ?_
  intro u h1 ⟨e1, e2⟩
  subst e2
  have hx1 := hin.ext e1
  have hy1 := hiy.ext e1
  clear hin hiy g0 g1 g2 e0
  have cx1 := hx1.1
  simp (disch := (first | omega | (simp only [disM] <;> omega) | assumption)) only [↓run, ↓runM, run, runM, Nat.reduceAdd, Nat.reduceMul, Int.reduceToNat]
  unfold f292_J2
  simp (disch := (first | omega | (simp only [disM] <;> omega) | assumption)) only [↓run, ↓runM, run, runM, Nat.reduceAdd, Nat.reduceMul, Int.reduceToNat, cx1]
  refine TB.u258 T L (m + 1) (by omega) (x := x) ⟨v, rfl, hx1.2.2⟩ (by omega) _ _ ?_
  intro u h2 ⟨e3, e4⟩
  subst e4
  have hx2 := hx1.ext e3
  have hy2 := hy1.ext e3
  have cy2 := hy2.1
  simp (disch := (first | omega | (simp only [disM] <;> omega) | assumption)) only [↓run, ↓runM, run, runM, Nat.reduceAdd, Nat.reduceMul, Int.reduceToNat, cy2]
  refine TB.u258 T L (m + 1) (by omega) (x := y) ⟨w, rfl, hy2.2.2⟩ (by omega) _ _ ?_
  intro u h3 ⟨e5, e6⟩
  subst e6
  have hx3 := hx2.ext e5
  have hy3 := hy2.ext e5
  have cx3 := hx3.1
  simp (disch := (first | omega | (simp only [disM] <;> omega) | assumption)) only [↓run, ↓runM, run, runM, Nat.reduceAdd, Nat.reduceMul, Int.reduceToNat, cx3]
  have e7 : Ext h3 (((h3.push (.own 0 [.int .i64 0, .int .i64 0, .nils, .str []])).set h3.n (.own 0 [.int .i64 x.fn, .int .i64 x.parent, v, .str x.res])).set h3.n (.own 0 [.int .i64 x.fn, .int .i64 p, v, .str x.res])) :=
    (((Ext.refl h3).push _).set (Nat.le_refl _) _).set (Nat.le_refl _) _
  refine TB.u258 T L (m + 1) (by omega) (x := ⟨x.fn, p, x.args, x.res⟩) ⟨v, rfl, hx3.2.2.ext e7⟩ (by show x.args.length ≤ _; omega) _ _ ?_
  intro u h4 ⟨e8, e9⟩
  have ez : eqT ⟨x.fn, p, x.args, x.res⟩ = eqT x := rfl
  have ez' : eqE ⟨x.fn, p, x.args, x.res⟩ = eqE x := rfl
  rw [ez, ez'] at e9
  subst e9
  have hx4 := hx3.ext (e7.trans e8)
  have hy4 := hy3.ext (e7.trans e8)
  have cx4 := hx4.1
  have cy4 := hy4.1
  have he : ∀ (b : Bool) (kk : VK β), qEqB false (.bool b) (.bool b) (.mk kk) = kk (.bool true) := fun b kk => by cases b <;> rfl
  cases mx : eqMay x with
  | false =>
    have ex1 : eqE x = 1400 := by unfold eqE; rw [mx]; rfl
    have ex2 : eqT x = [] := by unfold eqT; rw [mx]; rfl
    cases my : eqMay y with
    | false =>
      have ey1 : eqE y = 1400 := by unfold eqE; rw [my]; rfl
      have ey2 : eqT y = [] := by unfold eqT; rw [my]; rfl
      simp (disch := (first | omega | (simp only [disM] <;> omega) | assumption)) only [↓run, ↓runM, run, runM, Nat.reduceAdd, Nat.reduceMul, Int.reduceToNat, T.w16, ex1, ex2, ey1, ey2]
      exact hk _ _ rfl
    | true =>
      have ey1 : eqE y = 0 := by unfold eqE; rw [my]; rfl
      simp (disch := (first | omega | (simp only [disM] <;> omega) | assumption)) only [↓run, ↓runM, run, runM, Nat.reduceAdd, Nat.reduceMul, Int.reduceToNat, T.w16, ex1, ex2, ey1]
      exact hk _ _ rfl
  | true =>
    have ex1 : eqE x = 0 := by unfold eqE; rw [mx]; rfl
    cases my : eqMay y with
    | false =>
      have ey1 : eqE y = 1400 := by unfold eqE; rw [my]; rfl
      have ey2 : eqT y = [] := by unfold eqT; rw [my]; rfl
      simp (disch := (first | omega | (simp only [disM] <;> omega) | assumption)) only [↓run, ↓runM, run, runM, Nat.reduceAdd, Nat.reduceMul, Int.reduceToNat, T.w16, ex1, ey1, ey2]
      exact hk _ _ rfl
    | true =>
      have ey1 : eqE y = 0 := by unfold eqE; rw [my]; rfl
      have ex2 : eqT x = eqText x := by unfold eqT; rw [mx]; rfl
      have ey2 : eqT y = eqText y := by unfold eqT; rw [my]; rfl
      have hs15 := fun kk : K β => T.w15 (m + 1) hx4.2.2 hy4.2.2 (by omega) (by omega) kk
      have hsame : decide (eqText x = eqText y) = (decide (x.fn = y.fn) && decide (x.args = y.args) && decide (x.res = y.res)) := by
        by_cases hq : x.fn = y.fn ∧ x.args = y.args ∧ x.res = y.res
        · obtain ⟨q1, q2, q3⟩ := hq
          have : eqText x = eqText y := by unfold eqText; rw [q1, q2, q3]
          rw [decide_eq_true this, decide_eq_true q1, decide_eq_true q2, decide_eq_true q3]; rfl
        · rw [decide_eq_false (fun h => hq (eqText_inj mx my h))]
          symm
          rw [Bool.eq_false_iff]
          intro h
          simp only [Bool.and_eq_true, decide_eq_true_eq] at h
          exact hq ⟨h.1.1, h.1.2, h.2⟩
      simp (disch := (first | omega | (simp only [disM] <;> omega) | assumption)) only [↓run, ↓runM, run, runM, Nat.reduceAdd, Nat.reduceMul, Int.reduceToNat, T.w16, ex1, ey1, ex2, ey2]
      unfold f292_J18
      by_cases q1 : x.fn = y.fn
      · by_cases q2 : x.args = y.args
        · by_cases q3 : x.res = y.res
          · rw [decide_eq_true q1, decide_eq_true q2, decide_eq_true q3] at hsame
            simp (disch := (first | omega | (simp only [disM] <;> omega) | assumption)) only [↓run, ↓runM, run, runM, Nat.reduceAdd, Nat.reduceMul, Int.reduceToNat, T.w16, cx4, cy4, eq_true q1, eq_true q2, eq_true q3, hs15, hsame, he]
            exact hk _ _ rfl
          · rw [decide_eq_true q1, decide_eq_true q2, decide_eq_false q3] at hsame
            simp (disch := (first | omega | (simp only [disM] <;> omega) | assumption)) only [↓run, ↓runM, run, runM, Nat.reduceAdd, Nat.reduceMul, Int.reduceToNat, T.w16, cx4, cy4, eq_true q1, eq_true q2, q3, hs15, hsame, he]
            exact hk _ _ rfl
        · rw [decide_eq_true q1, decide_eq_false q2] at hsame
          simp (disch := (first | omega | (simp only [disM] <;> omega) | assumption)) only [↓run, ↓runM, run, runM, Nat.reduceAdd, Nat.reduceMul, Int.reduceToNat, T.w16, cx4, cy4, eq_true q1, q2, hs15, hsame, he]
          exact hk _ _ rfl
      · rw [decide_eq_false q1] at hsame
        simp (disch := (first | omega | (simp only [disM] <;> omega) | assumption)) only [↓run, ↓runM, run, runM, Nat.reduceAdd, Nat.reduceMul, Int.reduceToNat, T.w16, cx4, cy4, q1, hs15, hsame, he]
        exact hk _ _ rfl
end
end Am.F
