/- Walks: the statements of chapter 14. -/
import Derived.Test.YtpalaplnolcimaaDoorAmQB3
import Derived.Test.YtpalaplnolcimaaDoorAmQL2
import Derived.Test.YtpalaplnolcimaaDoorAmGL14W
set_option linter.unusedSimpArgs false
set_option linter.unusedVariables false
namespace Am.F
open Go Am

def some14 : List Nd := [⟨0, -1, [], [57]⟩, ⟨1, 0, [[64, 55, 40, 95, 32, 52, 41], [53]], [57]⟩, ⟨2, 0, [], [33]⟩, ⟨1, 1, [[49], [95]], [95]⟩, ⟨1, 2, [[49], [95]], [95]⟩]

section
variable {β : Type} {t : ETree}

theorem GL14.w257 (T4 : GL14 t) (n : Nat) (hn : 1 ≤ n) (h : H) : Sp (β := β) (fRunS t stdI n (.fn 257 []) [] h) fun v h' => Ext h h' ∧ NdsAt h' v some14 := by
  intro k R hk
  obtain ⟨m, rfl⟩ : ∃ m, n = m + 1 := ⟨n - 1, by omega⟩
  have hb : ∀ (u w : List UInt8) (hh : H) (kk : K β), qBslice 0 [.str [], .str []] 2 [(0, 1), (1, 1)] [.str u, .str w] hh (.mk kk) = kk (.sl hh.n 0 2 2 none) (hh.push (.own 0 [.str u, .str w])) :=
    fun u w hh kk => fBslice_n (fun _ => rfl) hh kk
  rw [T4.c257]; unfold f257_sleuthlaw14_some
  simp (disch := (first | omega | (simp only [disM] <;> omega) | assumption)) only [↓run, ↓runM, run, runM, Nat.reduceAdd, Nat.reduceMul, Int.reduceToNat, ↓hb]
  refine (fBslice_n (fun _ => rfl) _ _).trans ?_
  have two : ∀ (u w : List UInt8) (b : Nat) (hh : H), b < hh.n → hh.get b = .own 0 [.str u, .str w] → SlAt hh (.sl b 0 2 2 none) (strs [u, w]) := fun u w b hh h1 h2 => .inr ⟨b, 0, 2, none, _, rfl, h1, by rw [h2]; rfl, rfl, by simp [strs]⟩
  have g0 : ∀ b1 b2 b3, (((h.push (.own 0 [.str [64, 55, 40, 95, 32, 52, 41], .str [53]])).push b1).push b2 |>.push b3).get h.n = .own 0 [.str [64, 55, 40, 95, 32, 52, 41], .str [53]] := fun b1 b2 b3 => by
    rw [get_push_ne (by simp only [H.n_push]; omega), get_push_ne (by simp only [H.n_push]; omega), get_push_ne (by simp only [H.n_push]; omega), get_push_eq rfl]
  have g1 : ∀ b0 b2 b3, (((h.push b0).push (.own 0 [.str [49], .str [95]])).push b2 |>.push b3).get (h.n + 1) = .own 0 [.str [49], .str [95]] := fun b0 b2 b3 => by
    rw [get_push_ne (by simp only [H.n_push]; omega), get_push_ne (by simp only [H.n_push]; omega), get_push_eq (by rw [H.n_push])]
  have g2 : ∀ b0 b1 b3, (((h.push b0).push b1).push (.own 0 [.str [49], .str [95]]) |>.push b3).get (h.n + 1 + 1) = .own 0 [.str [49], .str [95]] := fun b0 b1 b3 => by
    rw [get_push_ne (by simp only [H.n_push]; omega), get_push_eq (by rw [H.n_push, H.n_push])]
  refine hk _ _ ⟨((((Ext.refl h).push _).push _).push _).push _, .inr ⟨_, _, _, _, rfl, by simp only [H.n_push]; omega, by rw [get_push_eq rfl]; rfl, ?_, ?_⟩⟩
  · exact Nat.le_refl 20
  intro j x hx
  rcases j with _ | _ | _ | _ | _ | j
  · cases hx; exact ⟨.nils, rfl, SlAt.nil _⟩
  · cases hx; exact ⟨.sl h.n 0 2 2 none, rfl, two _ _ _ _ (by simp only [H.n_push]; omega) (g0 _ _ _)⟩
  · cases hx; exact ⟨.nils, rfl, SlAt.nil _⟩
  · cases hx; exact ⟨.sl (h.n + 1) 0 2 2 none, rfl, two _ _ _ _ (by simp only [H.n_push]; omega) (g1 _ _ _)⟩
  · cases hx; exact ⟨.sl (h.n + 1 + 1) 0 2 2 none, rfl, two _ _ _ _ (by simp only [H.n_push]; omega) (g2 _ _ _)⟩
  · cases hx

/-- A node of a slice, read. -/
theorem nodeRd {h : H} {v : AV} {xs : List Nd} (hs : NdsAt h v xs) {j : Nat} {x : Nd} (hx : xs[j]? = some x) {i : Int} {o : Nat} (hi : i = (j : Int)) (ho : o = j * 4) : ∃ b a, NdAt h a x ∧ (∀ k : VK β, qIadr 4 v (.int .i64 i) (.mk k) = k (.ptr b o)) ∧ ∀ k : VK β, qLoadN 4 (.ptr b o) h (.mk k) = k a := by
  subst hi ho
  obtain ⟨b, w, us, a1, a2, a3, a4, a5, a6⟩ := nodeSl (β := β) hs hx
  refine ⟨b, .agg (ndCells x w), ⟨w, rfl, a1⟩, a6, fun k => ?_⟩
  rw [qLoadN_p, a3]
  show qCond (decide (j * 4 + 4 ≤ us.length)) (.mk (k (.agg ((us.drop (j * 4)).take 4)))) (.mk none) = _
  rw [decide_eq_true a5, a4]; rfl

theorem some_may : eqMay ⟨1, 0, [[64, 55, 40, 95, 32, 52, 41], [53]], [57]⟩ = true ∧ eqMay ⟨0, -1, [], [57]⟩ = true ∧ eqMay ⟨0, 0, [], []⟩ = false := by
  have h1 : mayP [64, 55, 40, 95, 32, 52, 41] = true := by unfold mayP; rw [termP_tP]; rfl
  have h2 : mayP [53] = true := by unfold mayP; rw [termP_tP]; rfl
  have h3 : mayP [57] = true := by unfold mayP; rw [termP_tP]; rfl
  unfold eqMay
  simp [h1, h2, h3, mayP_nil]
theorem some_text : eqText ⟨1, 0, [[64, 55, 40, 95, 32, 52, 41], [53]], [57]⟩ = [102, 49, 32, 64, 55, 40, 95, 32, 52, 41, 32, 53, 32, 61, 32, 57] ∧ eqText ⟨0, -1, [], [57]⟩ = [102, 48, 32, 61, 32, 57] := by
  have h1 : Lib.itoa 1 = [49] := by rw [show (1 : Int) = ((1 : Nat) : Int) from rfl, itoa_nat, Lib.decDigits, dif_pos (by omega)]; rfl
  have h0 : Lib.itoa 0 = [48] := by rw [show (0 : Int) = ((0 : Nat) : Int) from rfl, itoa_nat, Lib.decDigits, dif_pos (by omega)]; rfl
  rw [eqText_eq, eqText_eq, h1, h0]
  exact ⟨rfl, rfl⟩

/-- awake. -/
theorem GL14.w256 (T4 : GL14 t) (TB : GB t) (T : GA t) (L : GI t) (n : Nat) (hn : 1080 ≤ n) (h : H) : Sp (β := β) (fRunS t stdI n (.fn 256 []) [] h) fun v h' => Ext h h' ∧ v = .bool true := by
  intro k R hk
  obtain ⟨m, rfl⟩ : ∃ m, n = m + 2 := ⟨n - 2, by omega⟩
  obtain ⟨m1, m2, m3⟩ := some_may
  obtain ⟨t1, t2⟩ := some_text
  rw [T4.c256]; unfold f256_sleuthlaw14_awake
  refine T4.w257 (m + 1) (by omega) h _ _ ?_
  intro v h1 ⟨e1, e2⟩
  have q1 : some14[1]? = some (⟨1, 0, [[64, 55, 40, 95, 32, 52, 41], [53]], [57]⟩ : Nd) := rfl
  have q0 : some14[0]? = some (⟨0, -1, [], [57]⟩ : Nd) := rfl
  have r1 := nodeRd (β := β) e2 q1 (i := 1) (o := 4) rfl rfl
  obtain ⟨b, a, n1, n2, n3⟩ := r1
  rw [n2, n3]
  refine TB.w258 T L (m + 1) (by omega) n1 (by simp) _ _ ?_
  intro v h2 ⟨e3, e4⟩
  rw [if_pos m1, t1] at e4
  subst e4
  simp (disch := (first | omega | (simp only [disM] <;> omega) | assumption)) only [↓run, ↓runM, run, runM, Nat.reduceAdd, Nat.reduceMul, Int.reduceToNat]
  refine T4.w257 (m + 1) (by omega) h2 _ _ ?_
  intro v h3 ⟨e5, e6⟩
  have r2 := nodeRd (β := β) e6 q0 (i := 0) (o := 0) rfl rfl
  obtain ⟨b', a', n4, n5, n6⟩ := r2
  rw [n5, n6]
  refine TB.w258 T L (m + 1) (by omega) n4 (by simp) _ _ ?_
  intro v h4 ⟨e7, e8⟩
  rw [if_pos m2, t2] at e8
  subst e8
  simp (disch := (first | omega | (simp only [disM] <;> omega) | assumption)) only [↓run, ↓runM, run, runM, Nat.reduceAdd, Nat.reduceMul, Int.reduceToNat]
  refine TB.w258 T L (m + 1) (by omega) (x := ⟨0, 0, [], []⟩) ⟨.nils, rfl, SlAt.nil _⟩ (by simp) _ _ ?_
  intro v h5 ⟨e9, f1⟩
  rw [if_neg (by rw [m3]; decide)] at f1
  subst f1
  simp (disch := (first | omega | (simp only [disM] <;> omega) | assumption)) only [↓run, ↓runM, run, runM, Nat.reduceAdd, Nat.reduceMul, Int.reduceToNat, T.w16]
  exact hk _ _ ⟨e1.trans (e3.trans (e5.trans (e7.trans e9))), rfl⟩

theorem sameNd_refl (x : Nd) : sameNd x x = true := by unfold sameNd; simp

/-- Equations. -/
theorem GL14.w291 (T4 : GL14 t) (TB : GB t) (T : GA t) (L : GI t) (n : Nat) {h : H} {a : AV} {x : Nd} (hx : NdAt h a x) (hl : ∀ y ∈ x.args, y.length ≤ 9223372036854775807) (hr : x.res.length ≤ 9223372036854775807) (hL : x.args.length < room) (hn : x.args.length + 2300 ≤ n) :
    Sp (β := β) (fRunS t stdI n (.fn 291 []) [a] h) fun v h' => v = .bool true := by
  intro k R hk
  have hroom : room = 68719476736 := rfl
  obtain ⟨m, rfl⟩ : ∃ m, n = m + 2 := ⟨n - 2, by omega⟩
  obtain ⟨v, rfl, hv⟩ := hx
  rw [T4.c291]; unfold f291_sleuthlaw14_Equations
  have hb4 : ∀ (u v w z : AV) (hh : H) (kk : K β), qBslice 0 [.int .i64 0, .int .i64 0, .nils, .str []] 1 [(0, 4)] [.agg [u, v, w, z]] hh (.mk kk) = kk (.sl hh.n 0 1 1 none) (hh.push (.own 0 [u, v, w, z])) :=
    fun u v w z hh kk => fBslice_n (fun _ => rfl) hh kk
  simp (disch := (first | omega | (simp only [disM] <;> omega) | assumption)) only [↓run, ↓runM, run, runM, Nat.reduceAdd, Nat.reduceMul, Int.reduceToNat, nodeB, ↓hb4]
  have e0 : Ext h ((h.push (.own 0 [.int .i64 x.fn, .int .i64 x.parent, v, .str x.res])).push (.own 0 [.int .i64 x.fn, .int .i64 x.parent, v, .str x.res])) := ((Ext.refl h).push _).push _
  have g0 : ((h.push (.own 0 [.int .i64 x.fn, .int .i64 x.parent, v, .str x.res])).push (.own 0 [.int .i64 x.fn, .int .i64 x.parent, v, .str x.res])).get h.n = .own 0 [.int .i64 x.fn, .int .i64 x.parent, v, .str x.res] := by
    rw [get_push_ne (by rw [H.n_push]; omega), get_push_eq rfl]
  have g1 : ((h.push (.own 0 [.int .i64 x.fn, .int .i64 x.parent, v, .str x.res])).push (.own 0 [.int .i64 x.fn, .int .i64 x.parent, v, .str x.res])).get (h.n + 1) = .own 0 [.int .i64 x.fn, .int .i64 x.parent, v, .str x.res] := by
    rw [get_push_eq (by rw [H.n_push])]
  have g2 : ((h.push (.own 0 [.int .i64 x.fn, .int .i64 x.parent, v, .str x.res])).push (.own 0 [.int .i64 x.fn, .int .i64 x.parent, v, .str x.res])).n = h.n + 2 := by rw [H.n_push, H.n_push]
  have hin : NdIn ((h.push (.own 0 [.int .i64 x.fn, .int .i64 x.parent, v, .str x.res])).push (.own 0 [.int .i64 x.fn, .int .i64 x.parent, v, .str x.res])) h.n v x := ⟨by rw [g0]; rfl, by rw [g2]; omega, hv.ext e0⟩
  have hsl : NdsAt ((h.push (.own 0 [.int .i64 x.fn, .int .i64 x.parent, v, .str x.res])).push (.own 0 [.int .i64 x.fn, .int .i64 x.parent, v, .str x.res])) (.sl (h.n + 1) 0 1 1 none) [x] := by
    refine .inr ⟨h.n + 1, 1, none, ndCells x v, rfl, by rw [g2]; omega, by rw [g1]; rfl, by simp [ndCells], ?_⟩
    intro j y hy
    cases j with
    | zero =>
      simp only [List.getElem?_cons_zero, Option.some.injEq] at hy
      subst hy
      exact ⟨v, by simp [ndCells], hv.ext e0⟩
    | succ j => simp at hy
  refine TB.w244 (m + 1) hsl (by simp only [List.length_singleton]; omega) (fun y hy => by rw [List.mem_singleton] at hy; rw [hy]; exact hL) (by simp only [List.length_singleton]; omega) _ _ ?_
  intro ys h2 ⟨e1, e2⟩
  have q0 : [x][0]? = some x := rfl
  have r1 := nodeRd (β := β) e2 q0 (i := 0) (o := 0) rfl rfl
  obtain ⟨b, a, n1, n2, n3⟩ := r1
  rw [n2, n3]
  refine TB.w258 T L (m + 1) (by omega) n1 (by omega) _ _ ?_
  intro u h3 ⟨e3, e4⟩
  have hin3 := hin.ext (e1.trans e3)
  have hA : NdAt h3 (.agg [.int .i64 x.fn, .int .i64 x.parent, v, .str x.res]) x := ⟨v, rfl, hin3.2.2⟩
  have hu : ∃ T E, u = .tup [.str T, .int .i64 E] ∧ (if eqMay x = true then AV.tup [.str (eqText x), .int .i64 0] else .tup [.str [], .int .i64 1400]) = .tup [.str T, .int .i64 E] := by
    rw [e4]; split
    · exact ⟨_, _, rfl, rfl⟩
    · exact ⟨_, _, rfl, rfl⟩
  obtain ⟨T0, E0, rfl, hTE⟩ := hu
  have hc3 := hin3.1
  simp (disch := (first | omega | (simp only [disM] <;> omega) | assumption)) only [↓run, ↓runM, run, runM, Nat.reduceAdd, Nat.reduceMul, Int.reduceToNat, hc3]
  refine TB.w295 T (m + 1) hA hl hr (by omega) (by omega) _ _ ?_
  intro u h4 ⟨e5, e6⟩
  rw [hTE] at e6
  subst e6
  have r2 := nodeRd (β := β) (e2.ext (e3.trans e5)) q0 (i := 0) (o := 0) rfl rfl
  obtain ⟨b', a', n4, n5, n6⟩ := r2
  have hin4 := hin3.ext e5
  have hc4 := hin4.1
  simp (disch := (first | omega | (simp only [disM] <;> omega) | assumption)) only [↓run, ↓runM, run, runM, Nat.reduceAdd, Nat.reduceMul, Int.reduceToNat, T.w16, n5, ↓n6, hc4]
  refine TB.w166 T (m + 1) n4 (y := x) ⟨v, rfl, hin4.2.2⟩ (by omega) (by omega) _ _ ?_
  intro u h5 ⟨e7, e8⟩
  rw [sameNd_refl] at e8
  subst e8
  simp (disch := (first | omega | (simp only [disM] <;> omega) | assumption)) only [↓run, ↓runM, run, runM, Nat.reduceAdd, Nat.reduceMul, Int.reduceToNat]
  refine T4.w256 TB T L (m + 1) (by omega) h5 _ _ ?_
  intro u h6 ⟨e9, f1⟩
  subst f1
  simp (disch := (first | omega | (simp only [disM] <;> omega) | assumption)) only [↓run, ↓runM, run, runM, Nat.reduceAdd, Nat.reduceMul, Int.reduceToNat]
  exact hk _ _ rfl
end
end Am.F
