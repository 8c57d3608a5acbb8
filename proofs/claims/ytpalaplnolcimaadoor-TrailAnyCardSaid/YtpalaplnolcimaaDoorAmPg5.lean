/- Walks: the reference's DefMay. -/
import Derived.Test.YtpalaplnolcimaaDoorAmPg4
set_option linter.unusedSimpArgs false
set_option linter.unusedVariables false
namespace Am.F
open Go Am
def up (lv : List Int) : List Int := lv.map (· + 1)
theorem up_len (lv : List Int) : (up lv).length = lv.length := List.length_map ..
theorem up_getD {lv : List Int} {j : Nat} (hj : j < lv.length) : (up lv).getD j 0 = lv.getD j 0 + 1 := by simp [up, List.getD_eq_getElem?_getD, hj]
theorem up_get {lv : List Int} {j : Nat} (hj : j < lv.length) : (ints (up lv))[j]? = some (.int .i64 (lv.getD j 0 + 1)) := by rw [ints_get (by rw [up_len]; exact hj), up_getD hj]
theorem up_set (lv : List Int) (j : Nat) (x : Int) : (ints (up lv)).set j (.int .i64 (x + 1)) = ints (up (lv.set j x)) := by rw [ints_set]; simp [up, List.map_set]
section
variable {β : Type} {t : ETree}
theorem GC.w179 (TC : GC t) (T : GA t) (n : Nat) (hn : 40 ≤ n) {h : H} {w : AV} {d : Df} (hw : LAt 4 ExC h w d.body) (hl : d.body.length ≤ 9223372036854775807) :
    Sp (β := β) (fRunS t stdI n (.fn 179 []) [.agg [.int .i64 d.params, w]] h) fun u h' => Ext h h' ∧ u = .bool (defMay d) := by
  intro k R hk
  obtain ⟨m, rfl⟩ : ∃ m, n = m + 4 := ⟨n - 4, by omega⟩
  have wl := hw.len (β := β)
  have hsc := hw.sc
  have hroom : room = 68719476736 := rfl
  have hb : ∀ (v w : AV) (hh : H) (kk : K β), qBox 0 (.agg [v, w]) hh (.mk kk) = kk (.ptr hh.n 0) (hh.push (.own 0 [v, w])) := fun v w hh kk => q_fBox_agg 0 _ hh kk
  have h30 := fun (x y z : Int) (hh : H) (kk : K β) => T.w30 (m + 2) x y z hh kk
  have hch : ∀ (x : Int) (c : Option β), qChk (.int .i64 x) (.int .i64 x) (.mk c) = c := fun x c => by
    show cond (AV.beq _ _) c none = c
    have : AV.beq (.int .i64 x) (.int .i64 x) = true := by simp [AV.beq]
    rw [this]; rfl
  by_cases c1 : 0 ≤ d.params ∧ d.params ≤ 3
  case neg =>
    rw [TC.c179]; unfold f179
    simp (disch := first | omega | (simp only [disM] <;> omega) | assumption) only [↓run, ↓runM, run, runM, Nat.reduceAdd, Nat.reduceMul, Int.reduceToNat, ↓hb, wl, h30, eq_false c1]
    exact hk _ _ ⟨(Ext.refl h).push _, by unfold defMay; rw [decide_eq_false (by omega)]; rfl⟩
  by_cases c2 : 1 ≤ (d.body.length : Int) ∧ (d.body.length : Int) ≤ 24
  case neg =>
    rw [TC.c179]; unfold f179
    simp (disch := first | omega | (simp only [disM] <;> omega) | assumption) only [↓run, ↓runM, run, runM, Nat.reduceAdd, Nat.reduceMul, Int.reduceToNat, ↓hb, wl, h30, eq_true c1, eq_false c2]
    exact hk _ _ ⟨(Ext.refl h).push _, by unfold defMay; rw [decide_eq_false (by omega)]; rfl⟩
  have tn : ((d.body.length : Int) - 1).toNat = d.body.length - 1 := by omega
  have hmk := fun (hh : H) (kk : K β) => mkslice_i (β := β) (l := d.body.length) (by omega) hh kk
  have d0 : defMay d = bodyGo d.body d.body.length (firstLv d) := by unfold defMay; rw [decide_eq_true (by omega)]; rfl
  have inner : ∀ (i : Nat) (e : Ex) (hi : d.body[i]? = some e) (hk3 : e.kids.length ≤ 3) (j17 : Cur β 13),
      (∀ lv, LvOk d.body.length lv → bodyGo d.body i lv = defMay d → ∀ x0 x1 x2 x3 x4 x5 x6 x7 x8 x9 x10 x11 x12 h', DMem h h' [.int .i64 d.params, w] (up lv) → x1 = .ptr h.n 0 → x3 = .sl (h.n + 1) 0 d.body.length d.body.length none → x4 = .int .i64 (i : Int) → j17 x0 x1 x2 x3 x4 x5 x6 x7 x8 x9 x10 x11 x12 h' = R) →
      ∀ (kn : Nat), kn < m + 3 → ∀ x0 x1 x2 x3 x4 x5 x6 x7 x8 x9 x10 x11 x12 h', (∃ (b : Nat) (w' : AV) (kk : Nat) (lv : List Int), x1 = .ptr h.n 0 ∧ x3 = .sl (h.n + 1) 0 d.body.length d.body.length none ∧ x4 = .int .i64 (i : Int) ∧ x5 = .ptr b 0 ∧ h'.get b = .own 0 (exCells e w') ∧ b < h'.n ∧ h.n + 2 ≤ b ∧ SlAt h w' (ints e.kids) ∧ x6 = .int .i64 (kk : Int) ∧
        kk + kn = e.kids.length ∧ DMem h h' [.int .i64 d.params, w] (up lv) ∧ LvOk d.body.length lv ∧ (¬ lv.getD i 0 = -1 ∧ ¬ 8 < lv.getD i 0) ∧ (0 ≤ e.bind ∧ e.bind ≤ 3) ∧ afterKids d.body i (kidsGo i e kk (e.kids.drop kk) lv) = defMay d) →
      qLoop 13 (m + 3) (.mk (f179_L27 (fRunS t stdI (m + 3)) k j17)) x0 x1 x2 x3 x4 x5 x6 x7 x8 x9 x10 x11 x12 h' = R := by
    intro i e hi hk3 j17 hj kn hkn
    refine qLoop_wp 13 (m + 3) _ _ (fun kn x0 x1 x2 x3 x4 x5 x6 x7 x8 x9 x10 x11 x12 h' => ∃ (b : Nat) (w' : AV) (kk : Nat) (lv : List Int), x1 = .ptr h.n 0 ∧ x3 = .sl (h.n + 1) 0 d.body.length d.body.length none ∧ x4 = .int .i64 (i : Int) ∧ x5 = .ptr b 0 ∧ h'.get b = .own 0 (exCells e w') ∧ b < h'.n ∧ h.n + 2 ≤ b ∧ SlAt h w' (ints e.kids) ∧ x6 = .int .i64 (kk : Int) ∧
        kk + kn = e.kids.length ∧ DMem h h' [.int .i64 d.params, w] (up lv) ∧ LvOk d.body.length lv ∧ (¬ lv.getD i 0 = -1 ∧ ¬ 8 < lv.getD i 0) ∧ (0 ≤ e.bind ∧ e.bind ≤ 3) ∧ afterKids d.body i (kidsGo i e kk (e.kids.drop kk) lv) = defMay d) kn hkn ?_
    intro l kn ih x0 x1 x2 x3 x4 x5 x6 x7 x8 x9 x10 x11 x12 h' ⟨b, w', kk, lv, q1, q2, q3, q4, p1, p2, p3, p4, q8, q9, q10, q11, q12, q13, q14⟩
    subst q1 q2 q3 q4 q8
    have hil : i < d.body.length := (List.getElem?_eq_some_iff.1 hi).1
    have pc : (h'.get b).cells = some [.int .i64 e.kind, .int .i64 e.num, .int .i64 e.bind, w'] := by rw [p1]; rfl
    have lw : ∀ kc : VK β, qLenL w' (.mk kc) = kc (.int .i64 (e.kids.length : Int)) := fun kc => by rw [p4.len, ints_len]
    cases kn with
    | zero =>
      have hk' : kk = e.kids.length := by omega
      subst hk'
      rw [List.drop_length] at q14
      simp (disch := first | omega | (simp only [disM] <;> omega) | assumption) only [↓run, ↓runM, run, runM, Nat.reduceAdd, Nat.reduceMul, Int.reduceToNat, ↓f179_J12, ↓f179_J19, ↓f179_J29, ↓f179_J35, ↓f179_J28, ↓f179_L27, ↓f179_J26, ↓f179_J18, ↓f179_L17, ↓f179_J1, pc, lw]
      exact hj lv q11 q14 _ _ _ _ _ _ _ _ _ _ _ _ _ _ q10 rfl rfl rfl
    | succ kn =>
      have hkl : kk < e.kids.length := by omega
      obtain ⟨f1, f2, f3⟩ := q10.facts
      have hld := fun (kc : VK β) => (p4.ext q10.base).load (β := β) (i := (kk : Int)) (kd := .i64) (by omega) (by rw [ints_len]; omega) kc
      rw [Int.toNat_natCast, ints_getD hkl] at hld
      have hdr : e.kids.drop kk = e.kids.getD kk 0 :: e.kids.drop (kk + 1) := by
        rw [List.drop_eq_getElem_cons hkl, List.getD_eq_getElem?_getD, List.getElem?_eq_getElem hkl]; rfl
      rw [hdr] at q14
      generalize e.kids.getD kk 0 = kid at hld q14
      by_cases k1 : 0 ≤ kid ∧ kid ≤ (i : Int) - 1
      case neg =>
        have : defMay d = false := by rw [← q14]; show afterKids _ _ (if _ then _ else _) = _; rw [if_neg (by omega)]; rfl
        simp (disch := first | omega | (simp only [disM] <;> omega) | assumption) only [↓run, ↓runM, run, runM, Nat.reduceAdd, Nat.reduceMul, Int.reduceToNat, ↓f179_J12, ↓f179_J19, ↓f179_J29, ↓f179_J35, ↓f179_J28, ↓f179_L27, ↓f179_J26, ↓f179_J18, ↓f179_L17, ↓f179_J1, pc, lw, hld, h30, eq_false k1]
        exact hk _ _ ⟨q10.base, by rw [this]⟩
      obtain ⟨kd, rfl⟩ := Int.eq_ofNat_of_zero_le (show 0 ≤ kid by omega)
      have hkd : kd < d.body.length := by omega
      have g1 := up_get (lv := lv) (j := kd) (by rw [q11.1]; exact hkd)
      have g2 := up_get (lv := lv) (j := i) (by rw [q11.1]; exact hil)
      by_cases k3 : lv.getD kd 0 + 1 = 0
      case neg =>
        have : defMay d = false := by rw [← q14]; show afterKids _ _ (if _ then _ else _) = _; rw [Int.toNat_natCast, if_neg (by omega)]; rfl
        simp (disch := first | omega | (simp only [disM] <;> omega) | assumption) only [↓run, ↓runM, run, runM, Nat.reduceAdd, Nat.reduceMul, Int.reduceToNat, ↓f179_J12, ↓f179_J19, ↓f179_J29, ↓f179_J35, ↓f179_J28, ↓f179_L27, ↓f179_J26, ↓f179_J18, ↓f179_L17, ↓f179_J1, pc, lw, hld, h30, eq_true k1, f1, f2, g1, eq_false k3]
        exact hk _ _ ⟨q10.base, by rw [this]⟩
      have hm := more_le q13 (kk : Int)
      have hlv := q11.2 i
      simp (disch := first | omega | (simp only [disM] <;> omega) | assumption) only [↓run, ↓runM, run, runM, Nat.reduceAdd, Nat.reduceMul, Int.reduceToNat, ↓f179_J12, ↓f179_J19, ↓f179_J29, ↓f179_J35, ↓f179_J28, ↓f179_L27, ↓f179_J26, ↓f179_J18, ↓f179_L17, ↓f179_J1, pc, lw, hld, h30, eq_true k1, f1, f2, g1, g2, eq_true k3]
      refine TC.w203 (m + 2) (e := e) (w := w') (kk : Int) _ _ ?_
      intro u h2 ⟨e1, e2⟩
      subst e2
      have q10' := q10.ext e1
      obtain ⟨f1', f2', f3'⟩ := q10'.facts
      have hs := up_set lv kd (lv.getD i 0 + more e (kk : Int))
      rw [show lv.getD i 0 + more e (kk : Int) + 1 = lv.getD i 0 + 1 + more e (kk : Int) by omega] at hs
      simp (disch := first | omega | (simp only [disM] <;> omega) | assumption) only [↓run, ↓runM, run, runM, Nat.reduceAdd, Nat.reduceMul, Int.reduceToNat, ↓f179_J12, ↓f179_J19, ↓f179_J29, ↓f179_J35, ↓f179_J28, ↓f179_L27, ↓f179_J26, ↓f179_J18, ↓f179_L17, ↓f179_J1, f2', f3', g2, hch, hs, ints_len, up_len, q11.1]
      have hb2 : -1 ≤ lv.getD i 0 + more e (kk : Int) ∧ lv.getD i 0 + more e (kk : Int) ≤ 11 := by omega
      refine ih kn (by omega) _ _ _ _ _ _ _ _ _ _ _ _ _ _ ⟨b, _, kk + 1, lv.set kd (lv.getD i 0 + more e (kk : Int)), rfl, rfl, rfl, rfl, by rw [get_set_ne (by omega), e1.get b p2]; exact p1, by rw [H.n_set]; have := e1.n; omega, p3, p4, int_succ kk, by omega, q10'.set _, q11.set hb2, ?_, q13, ?_⟩
      · rw [getD_set_ne _ _ (by omega)]; exact q12
      · rw [← q14]
        show _ = afterKids _ _ (if _ then _ else _)
        rw [Int.toNat_natCast, if_pos ⟨by omega, by omega, by omega⟩]
  have outer : ∀ (i : Nat), i ≤ d.body.length → ∀ x0 x1 x2 x3 x4 x5 x6 x7 x8 x9 x10 x11 x12 h', (i ≤ d.body.length ∧ ∃ lv, x1 = .ptr h.n 0 ∧ x3 = .sl (h.n + 1) 0 d.body.length d.body.length none ∧ x4 = .int .i64 ((i : Int) - 1) ∧ DMem h h' [.int .i64 d.params, w] (up lv) ∧ LvOk d.body.length lv ∧ bodyGo d.body i lv = defMay d) →
      qLoop 13 (m + 3) (.mk (f179_L17 (m + 3) (fRunS t stdI (m + 3)) k (f179_J12 k))) x0 x1 x2 x3 x4 x5 x6 x7 x8 x9 x10 x11 x12 h' = R := by
    intro i hi0
    refine qLoop_wp 13 (m + 3) _ _ (fun i x0 x1 x2 x3 x4 x5 x6 x7 x8 x9 x10 x11 x12 h' => i ≤ d.body.length ∧ ∃ lv, x1 = .ptr h.n 0 ∧ x3 = .sl (h.n + 1) 0 d.body.length d.body.length none ∧ x4 = .int .i64 ((i : Int) - 1) ∧ DMem h h' [.int .i64 d.params, w] (up lv) ∧ LvOk d.body.length lv ∧ bodyGo d.body i lv = defMay d) i (by omega) ?_
    intro l i ih x0 x1 x2 x3 x4 x5 x6 x7 x8 x9 x10 x11 x12 h' ⟨hi, lv, q1, q2, q3, q4, q5, q6⟩
    subst q1 q2 q3
    obtain ⟨f1, f2, f3⟩ := q4.facts
    cases i with
    | zero =>
      simp (disch := first | omega | (simp only [disM] <;> omega) | assumption) only [↓run, ↓runM, run, runM, Nat.reduceAdd, Nat.reduceMul, Int.reduceToNat, ↓f179_J12, ↓f179_J19, ↓f179_J29, ↓f179_J35, ↓f179_J28, ↓f179_L27, ↓f179_J26, ↓f179_J18, ↓f179_L17, ↓f179_J1]
      exact hk _ _ ⟨q4.base, by rw [← q6]; rfl⟩
    | succ i =>
      have hil : i < d.body.length := by omega
      obtain ⟨e, he⟩ : ∃ e, d.body[i]? = some e := ⟨_, List.getElem?_eq_getElem hil⟩
      obtain ⟨b, o, cs, a1, a2, w', rfl, a3⟩ := hw.at (β := β) he
      have hx0 : ExIn h b o w' e := ⟨a2, a3⟩
      have hx := hx0.ext q4.base
      obtain ⟨us, fx⟩ := hx.get β
      unfold exCells at fx
      have en : ((i + 1 : Nat) : Int) - 1 = (i : Int) := by omega
      have g2 := up_get (lv := lv) (j := i) (by rw [q5.1]; exact hil)
      have hlv := q5.2 i
      have e0 : Ext h' ((h'.push (.own 0 [.int .i64 0, .int .i64 0, .int .i64 0, .nils])).set h'.n (.own 0 [.int .i64 e.kind, .int .i64 e.num, .int .i64 e.bind, w'])) := ((Ext.refl h').push _).set (Nat.le_refl _) _
      have q4' := q4.ext e0
      obtain ⟨f1', f2', f3'⟩ := q4'.facts
      have hn1 : h.n + 2 ≤ h'.n := q4.1
      by_cases k1 : lv.getD i 0 + 1 = 0
      · have := bodyGo_f d.body i lv he (.inl (by omega))
        simp (disch := first | omega | (simp only [disM] <;> omega) | assumption) only [↓run, ↓runM, run, runM, Nat.reduceAdd, Nat.reduceMul, Int.reduceToNat, ↓f179_J12, ↓f179_J19, ↓f179_J29, ↓f179_J35, ↓f179_J28, ↓f179_L27, ↓f179_J26, ↓f179_J18, ↓f179_L17, ↓f179_J1, en, f1, f2, a1, g2, fx, eq_true k1]
        exact hk _ _ ⟨q4.base.trans e0, by rw [← q6, this]⟩
      by_cases k2 : 8 < lv.getD i 0 + 1 - 1
      · have := bodyGo_f d.body i lv he (.inr (.inl (by omega)))
        simp (disch := first | omega | (simp only [disM] <;> omega) | assumption) only [↓run, ↓runM, run, runM, Nat.reduceAdd, Nat.reduceMul, Int.reduceToNat, ↓f179_J12, ↓f179_J19, ↓f179_J29, ↓f179_J35, ↓f179_J28, ↓f179_L27, ↓f179_J26, ↓f179_J18, ↓f179_L17, ↓f179_J1, en, f1, f2, a1, g2, fx, eq_false k1, eq_true k2]
        exact hk _ _ ⟨q4.base.trans e0, by rw [← q6, this]⟩
      simp (disch := first | omega | (simp only [disM] <;> omega) | assumption) only [↓run, ↓runM, run, runM, Nat.reduceAdd, Nat.reduceMul, Int.reduceToNat, ↓f179_J12, ↓f179_J19, ↓f179_J29, ↓f179_J35, ↓f179_J28, ↓f179_L27, ↓f179_J26, ↓f179_J18, ↓f179_L17, ↓f179_J1, en, f1, f2, a1, g2, fx, eq_false k1, eq_false k2]
      refine TC.w202 T m (e := e) (w := w') (hx.2.ext e0) (lv.getD i 0 + 1 - 1) ⟨by omega, by omega⟩ _ _ ?_
      intro u h2 ⟨e1, e2⟩
      subst e2
      rw [show lv.getD i 0 + 1 - 1 = lv.getD i 0 by omega]
      have q4'' := q4'.ext e1
      by_cases k3 : PartP e (lv.getD i 0)
      case neg =>
        have := bodyGo_f d.body i lv he (.inr (.inr k3))
        simp (disch := first | omega | (simp only [disM] <;> omega) | assumption) only [↓run, ↓runM, run, runM, Nat.reduceAdd, Nat.reduceMul, Int.reduceToNat, ↓f179_J12, ↓f179_J19, ↓f179_J29, ↓f179_J35, ↓f179_J28, ↓f179_L27, ↓f179_J26, ↓f179_J18, ↓f179_L17, ↓f179_J1, eq_false k3]
        exact hk _ _ ⟨q4''.base, by rw [← q6, this]⟩
      have hs := bodyGo_s d.body i lv he (by omega) (by omega) k3
      have hkl : e.kids.length ≤ 3 := by
        unfold PartP Plain at k3
        rcases k3 with h | h | h | h | h | h | h | h <;> omega
      simp (disch := first | omega | (simp only [disM] <;> omega) | assumption) only [↓run, ↓runM, run, runM, Nat.reduceAdd, Nat.reduceMul, Int.reduceToNat, ↓f179_J12, ↓f179_J19, ↓f179_J29, ↓f179_J35, ↓f179_J28, ↓f179_L27, ↓f179_J26, ↓f179_J18, ↓f179_L17, ↓f179_J1, eq_true k3]
      refine inner i e he hkl _ ?_ e.kids.length (by omega) _ _ _ _ _ _ _ _ _ _ _ _ _ _ ⟨h'.n, w', 0, lv, rfl, rfl, congrArg (AV.int .i64) en, rfl, by rw [e1.get _ (by rw [H.n_set, H.n_push]; omega), get_set_eq rfl]; rfl, by have := e1.n; rw [H.n_set, H.n_push] at this; omega, hn1, hx0.2, rfl, by omega, q4'', q5, ⟨by omega, by omega⟩, k3.bind, by rw [← q6, hs]; rfl⟩
      intro lv' g3 g4 x0 x1 x2 x3 x4 x5 x6 x7 x8 x9 x10 x11 x12 h'' g5 g6 g7 g8
      subst g6 g7 g8
      simp (disch := first | omega | (simp only [disM] <;> omega) | assumption) only [↓run, ↓runM, run, runM, Nat.reduceAdd, Nat.reduceMul, Int.reduceToNat, ↓f179_J12, ↓f179_J19, ↓f179_J29, ↓f179_J35, ↓f179_J28, ↓f179_L27, ↓f179_J26, ↓f179_J18, ↓f179_L17, ↓f179_J1]
      exact ih i (by omega) _ _ _ _ _ _ _ _ _ _ _ _ _ _ ⟨by omega, lv', rfl, rfl, rfl, g5, g3, g4⟩
  rw [TC.c179]; unfold f179
  have z1 := DMem.mk (h := h) [.int .i64 d.params, w] (List.replicate d.body.length 0)
  obtain ⟨f1, f2, f3⟩ := z1.facts
  have hrep : List.replicate d.body.length (0 : Int) = up (List.replicate d.body.length (-1)) := by simp [up]
  have hus := up_set (List.replicate d.body.length (-1)) (d.body.length - 1) d.params
  have hfl : (List.replicate d.body.length (-1 : Int)).set (d.body.length - 1) d.params = firstLv d := by
    unfold firstLv
    refine List.ext_getElem? fun q => ?_
    rcases Nat.lt_trichotomy q (d.body.length - 1) with hq | hq | hq
    · rw [List.getElem?_set_ne (by omega), List.getElem?_append_left (by rw [List.length_replicate]; exact hq), List.getElem?_replicate, List.getElem?_replicate, if_pos (by omega), if_pos hq]
    · subst hq
      rw [List.getElem?_set_self (by rw [List.length_replicate]; omega), List.getElem?_append_right (by rw [List.length_replicate]; omega), List.length_replicate, Nat.sub_self]; rfl
    · rw [List.getElem?_eq_none (by rw [List.length_set, List.length_replicate]; omega), List.getElem?_eq_none (by rw [List.length_append, List.length_replicate]; simp; omega)]
  rw [hfl, ← hrep] at hus
  simp (disch := first | omega | (simp only [disM] <;> omega) | assumption) only [↓run, ↓runM, run, runM, Nat.reduceAdd, Nat.reduceMul, Int.reduceToNat, ↓f179_J12, ↓f179_J19, ↓f179_J29, ↓f179_J35, ↓f179_J28, ↓f179_L27, ↓f179_J26, ↓f179_J18, ↓f179_L17, ↓f179_J1, ↓hb, wl, h30, eq_true c1, eq_true c2, hmk, tn, f1, f2, f3, hus, ints_len, List.length_replicate]
  refine outer d.body.length (Nat.le_refl _) _ _ _ _ _ _ _ _ _ _ _ _ _ _ ⟨Nat.le_refl _, firstLv d, rfl, rfl, rfl, z1.set _, ⟨by unfold firstLv; rw [List.length_append, List.length_replicate]; simp; omega, fun q => ?_⟩, d0.symm⟩
  rw [← hfl]
  by_cases hq : d.body.length - 1 = q
  · subst hq; rw [getD_set_eq _ _ (by rw [List.length_replicate]; omega)]; omega
  · rw [getD_set_ne _ _ hq, List.getD_eq_getElem?_getD, List.getElem?_replicate]
    split <;> simp
end
end Am.F
