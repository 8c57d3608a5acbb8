/- Walks: the reference's ProgramMay. -/
import Derived.Test.YtpalaplnolcimaaDoorAmPg6
set_option linter.unusedSimpArgs false
set_option linter.unusedVariables false
namespace Am.F
open Go Am
section
variable {β : Type} {t : ETree}
theorem GC.w149 (TC : GC t) (T : GA t) (n : Nat) (hn : 60 ≤ n) {h : H} {a : AV} {p : List Df} (hp : PgAt h a p) (hl : p.length ≤ 9223372036854775807) (hl2 : ∀ d ∈ p, d.body.length ≤ 9223372036854775807) :
    Sp (β := β) (fRunS t stdI n (.fn 149 []) [a] h) fun u h' => Ext h h' ∧ u = .bool (progMay p) := by
  intro k R hk
  obtain ⟨m, rfl⟩ : ∃ m, n = m + 2 := ⟨n - 2, by omega⟩
  obtain ⟨v, rfl, hv⟩ := hp
  have hb : ∀ (v : AV) (hh : H) (kk : K β), qBox 0 (.agg [v]) hh (.mk kk) = kk (.ptr hh.n 0) (hh.push (.own 0 [v])) := fun v hh kk => q_fBox_agg 0 _ hh kk
  have lv := hv.len (β := β)
  have e0 : Ext h (h.push (.own 0 [v])) := (Ext.refl h).push _
  have n0 : h.n < (h.push (.own 0 [v])).n := by rw [H.n_push]; omega
  have hbx : (h.push (.own 0 [v])).get h.n = .own 0 [v] := get_push_eq rfl
  have h30 := fun (x y z : Int) (hh : H) (kk : K β) => T.w30 m x y z hh kk
  by_cases c1 : 1 ≤ (p.length : Int) ∧ (p.length : Int) ≤ 8
  case neg =>
    rw [TC.c149]; unfold f149
    simp (disch := first | omega | (simp only [disM] <;> omega) | assumption) only [↓run, ↓runM, run, runM, Nat.reduceAdd, Nat.reduceMul, Int.reduceToNat, ↓f149_J2, ↓f149_J5, ↓f149_J10, ↓f149_J9, ↓f149_L8, ↓f149_J7, ↓f149_J4, ↓f149_L3, ↓f149_J1, ↓hb, lv, h30, eq_false c1]
    exact hk _ _ ⟨e0, by unfold progMay; rw [decide_eq_false (by omega)]; rfl⟩
  obtain ⟨b, o, us, a1, a2, a3⟩ := defAt (β := β) (hv.ext DfC.stays e0) (Int.le_refl 0) (by omega)
  by_cases c3 : paramsOf p 0 = 0
  case neg =>
    rw [TC.c149]; unfold f149
    simp (disch := first | omega | (simp only [disM] <;> omega) | assumption) only [↓run, ↓runM, run, runM, Nat.reduceAdd, Nat.reduceMul, Int.reduceToNat, ↓f149_J2, ↓f149_J5, ↓f149_J10, ↓f149_J9, ↓f149_L8, ↓f149_J7, ↓f149_J4, ↓f149_L3, ↓f149_J1, ↓hb, lv, h30, eq_true c1, a1, a2, a3, eq_false c3]
    exact hk _ _ ⟨e0, by unfold progMay; rw [decide_eq_false (by omega)]; rfl⟩
  have hpm : progMay p = p.all (defIn p) := by unfold progMay; rw [decide_eq_true ⟨⟨by omega, by omega⟩, c3⟩]; rfl
  have hvx := hv.ext DfC.stays e0
  clear a1 a2 a3
  have inner : ∀ (i : Nat) (d : Df) (hd : p[i]? = some d) (hm : defMay d = true) (j5 : Cur β 8) (hj : ∀ x0 x1 x2 x3 x4 x5 x6 x7 h', x1 = .ptr h.n 0 → x3 = .int .i64 (i : Int) → Ext (h.push (.own 0 [v])) h' → oddIn p d.body = false → j5 x0 x1 x2 x3 x4 x5 x6 x7 h' = R),
      ∀ x0 x1 x2 x3 x4 x5 x6 x7 h', (∃ kk : Nat, x1 = .ptr h.n 0 ∧ x3 = .int .i64 (i : Int) ∧ x4 = .int .i64 (kk : Int) ∧ kk + d.body.length = d.body.length ∧ Ext (h.push (.own 0 [v])) h' ∧ oddIn p (d.body.take kk) = false) →
        qLoop 8 (m + 1) (.mk (f149_L8 k j5)) x0 x1 x2 x3 x4 x5 x6 x7 h' = R := by
    intro i d hd hm j5 hj
    have hil : i < p.length := (List.getElem?_eq_some_iff.1 hd).1
    have hdm : d ∈ p := List.mem_of_getElem? hd
    have hdl := defMay_len hm
    refine qLoop_wp 8 (m + 1) _ _ (fun kn x0 x1 x2 x3 x4 x5 x6 x7 h' => ∃ kk : Nat, x1 = .ptr h.n 0 ∧ x3 = .int .i64 (i : Int) ∧ x4 = .int .i64 (kk : Int) ∧ kk + kn = d.body.length ∧ Ext (h.push (.own 0 [v])) h' ∧ oddIn p (d.body.take kk) = false) d.body.length (by omega) ?_
    intro l kn ih x0 x1 x2 x3 x4 x5 x6 x7 h' ⟨kk, q1, q2, q3, q4, q5, q6⟩
    subst q1 q2 q3
    have hc : (h'.get h.n).cells = some [v] := by rw [q5.get _ n0, hbx]; rfl
    obtain ⟨b', o', cs, s1, s2, w, rfl, s3⟩ := hvx.at (β := β) hd
    obtain ⟨us', b1, b2, b3, b4⟩ := (s2.ext q5).get
    have b5 := b4 1 _ rfl
    have lw := s3.len (β := β)
    cases kn with
    | zero =>
      have hk' : kk = d.body.length := by omega
      subst hk'
      rw [List.take_length] at q6
      simp (disch := first | omega | (simp only [disM] <;> omega) | assumption) only [↓run, ↓runM, run, runM, Nat.reduceAdd, Nat.reduceMul, Int.reduceToNat, ↓f149_J2, ↓f149_J5, ↓f149_J10, ↓f149_J9, ↓f149_L8, ↓f149_J7, ↓f149_J4, ↓f149_L3, ↓f149_J1, hc, s1, b1, b5, lw]
      exact hj _ _ _ _ _ _ _ _ _ rfl rfl q5 q6
    | succ kn =>
      have hkl : kk < d.body.length := by omega
      obtain ⟨e, hje⟩ : ∃ e, d.body[kk]? = some e := ⟨_, List.getElem?_eq_getElem hkl⟩
      have hmem : e ∈ d.body := List.mem_of_getElem? hje
      obtain ⟨be, oe, cs, r1, r2, w', rfl, r3⟩ := s3.at (β := β) hje
      obtain ⟨ue, t1, t2, t3, t4⟩ := (r2.ext q5).get
      obtain ⟨pl, hpl⟩ := defMay_part hm hmem
      have htk : d.body.take (kk + 1) = d.body.take kk ++ [e] := by rw [List.take_add_one, hje]; rfl
      have hod : oddIn p (d.body.take (kk + 1)) = decide (Odd p e) := by
        unfold oddIn at q6 ⊢
        rw [htk, List.any_append, q6]; simp
      have hfp : Odd p e → progMay p = false := fun ho => by
        refine Bool.eq_false_iff.2 fun hh => ?_
        have := (progMay_t hh).2.2 d hdm
        unfold oddIn at this
        rw [List.any_eq_false] at this
        exact this.2 e hmem (decide_eq_true ho)
      unfold exCells at t3
      have e1 : Ext h' ((h'.push (.own 0 [.int .i64 0, .int .i64 0, .int .i64 0, .nils])).set h'.n (.own 0 [.int .i64 e.kind, .int .i64 e.num, .int .i64 e.bind, w'])) := ((Ext.refl h').push _).set (Nat.le_refl _) _
      have hc' : (((h'.push (.own 0 [.int .i64 0, .int .i64 0, .int .i64 0, .nils])).set h'.n (.own 0 [.int .i64 e.kind, .int .i64 e.num, .int .i64 e.bind, w'])).get h.n).cells = some [v] := by rw [e1.get _ (by have := q5.n; omega)]; exact hc
      have lw' : ∀ kc : VK β, qLenL w' (.mk kc) = kc (.int .i64 (e.kids.length : Int)) := fun kc => by rw [r3.len, ints_len]
      have goOn : ¬ Odd p e → ∀ x0 x1 x2 x3 x4 x5 x6 x7, x1 = .ptr h.n 0 → x3 = .int .i64 (i : Int) → x4 = .int .i64 ((kk : Int) + 1) → l x0 x1 x2 x3 x4 x5 x6 x7 ((h'.push (.own 0 [.int .i64 0, .int .i64 0, .int .i64 0, .nils])).set h'.n (.own 0 [.int .i64 e.kind, .int .i64 e.num, .int .i64 e.bind, w'])) = R := by
        intro ho x0 x1 x2 x3 x4 x5 x6 x7 y1 y3 y4
        exact ih kn (by omega) x0 x1 x2 x3 x4 x5 x6 x7 _ ⟨kk + 1, y1, y3, y4, by omega, q5.trans e1, by rw [hod]; exact decide_eq_false ho⟩
      by_cases k1 : e.kind = 2
      case neg =>
        simp (disch := first | omega | (simp only [disM] <;> omega) | assumption) only [↓run, ↓runM, run, runM, Nat.reduceAdd, Nat.reduceMul, Int.reduceToNat, ↓f149_J2, ↓f149_J5, ↓f149_J10, ↓f149_J9, ↓f149_L8, ↓f149_J7, ↓f149_J4, ↓f149_L3, ↓f149_J1, hc, s1, b1, b5, lw, r1, t1, t2, t3, eq_false k1]
        exact goOn (by unfold Odd; simp [k1]) _ _ _ _ _ _ _ _ rfl rfl rfl
      by_cases k2 : (p.length : Int) ≤ e.num
      · simp (disch := first | omega | (simp only [disM] <;> omega) | assumption) only [↓run, ↓runM, run, runM, Nat.reduceAdd, Nat.reduceMul, Int.reduceToNat, ↓f149_J2, ↓f149_J5, ↓f149_J10, ↓f149_J9, ↓f149_L8, ↓f149_J7, ↓f149_J4, ↓f149_L3, ↓f149_J1, hc, hc', s1, b1, b5, lw, r1, t1, t2, t3, eq_true k1, lv, eq_true k2]
        exact hk _ _ ⟨e0.trans (q5.trans e1), by rw [hfp (by unfold Odd; simp [k1, k2])]⟩
      obtain ⟨bd, od, ud, a1, a2, a3⟩ := defAt (β := β) (hvx.ext DfC.stays (q5.trans e1)) (hpl.call k1).1 (by omega)
      by_cases k3 : (e.kids.length : Int) = paramsOf p e.num
      · simp (disch := first | omega | (simp only [disM] <;> omega) | assumption) only [↓run, ↓runM, run, runM, Nat.reduceAdd, Nat.reduceMul, Int.reduceToNat, ↓f149_J2, ↓f149_J5, ↓f149_J10, ↓f149_J9, ↓f149_L8, ↓f149_J7, ↓f149_J4, ↓f149_L3, ↓f149_J1, hc, hc', s1, b1, b5, lw, r1, t1, t2, t3, eq_true k1, lv, eq_false k2, lw', a1, a2, a3, eq_true k3]
        exact goOn (by unfold Odd; simp [k1, k2, k3]) _ _ _ _ _ _ _ _ rfl rfl rfl
      · simp (disch := first | omega | (simp only [disM] <;> omega) | assumption) only [↓run, ↓runM, run, runM, Nat.reduceAdd, Nat.reduceMul, Int.reduceToNat, ↓f149_J2, ↓f149_J5, ↓f149_J10, ↓f149_J9, ↓f149_L8, ↓f149_J7, ↓f149_J4, ↓f149_L3, ↓f149_J1, hc, hc', s1, b1, b5, lw, r1, t1, t2, t3, eq_true k1, lv, eq_false k2, lw', a1, a2, a3, eq_false k3]
        exact hk _ _ ⟨e0.trans (q5.trans e1), by rw [hfp (by unfold Odd; simp [k1, k2, k3])]⟩
  obtain ⟨b, o, us, a1, a2, a3⟩ := defAt (β := β) hvx (Int.le_refl 0) (by omega)
  rw [TC.c149]; unfold f149
  simp (disch := first | omega | (simp only [disM] <;> omega) | assumption) only [↓run, ↓runM, run, runM, Nat.reduceAdd, Nat.reduceMul, Int.reduceToNat, ↓f149_J2, ↓f149_J5, ↓f149_J10, ↓f149_J9, ↓f149_L8, ↓f149_J7, ↓f149_J4, ↓f149_L3, ↓f149_J1, ↓hb, lv, h30, eq_true c1, a1, a2, a3, eq_true c3]
  refine qLoop_wp 8 (m + 1) _ _ (fun i x0 x1 x2 x3 x4 x5 x6 x7 h' => ∃ j : Nat, x1 = .ptr h.n 0 ∧ x3 = .int .i64 (j : Int) ∧ j + i = p.length ∧ Ext (h.push (.own 0 [v])) h' ∧ (p.take j).all (defIn p) = true) p.length (by omega) ?_ _ _ _ _ _ _ _ _ _
    ⟨0, rfl, rfl, by omega, Ext.refl _, rfl⟩
  intro l i ih x0 x1 x2 x3 x4 x5 x6 x7 h' ⟨j, q1, q2, q5, q6, q7⟩
  subst q1 q2
  have hc : (h'.get h.n).cells = some [v] := by rw [q6.get _ n0, hbx]; rfl
  cases i with
  | zero =>
    have hj : j = p.length := by omega
    subst hj
    rw [List.take_length] at q7
    simp (disch := first | omega | (simp only [disM] <;> omega) | assumption) only [↓run, ↓runM, run, runM, Nat.reduceAdd, Nat.reduceMul, Int.reduceToNat, ↓f149_J2, ↓f149_J5, ↓f149_J10, ↓f149_J9, ↓f149_L8, ↓f149_J7, ↓f149_J4, ↓f149_L3, ↓f149_J1, hc, lv]
    exact hk _ _ ⟨e0.trans q6, by rw [hpm, q7]⟩
  | succ i =>
    have hj : j < p.length := by omega
    obtain ⟨d, hd⟩ : ∃ d, p[j]? = some d := ⟨_, List.getElem?_eq_getElem hj⟩
    have hdm : d ∈ p := List.mem_of_getElem? hd
    obtain ⟨b', o', cs, s1, s2, w, rfl, s3⟩ := hvx.at (β := β) hd
    obtain ⟨us', b1, b2, b3, b4⟩ := (s2.ext q6).get
    have htk : p.take (j + 1) = p.take j ++ [d] := by rw [List.take_add_one, hd]; rfl
    have hall : (p.take (j + 1)).all (defIn p) = defIn p d := by rw [htk, List.all_append, q7]; simp
    simp (disch := first | omega | (simp only [disM] <;> omega) | assumption) only [↓run, ↓runM, run, runM, Nat.reduceAdd, Nat.reduceMul, Int.reduceToNat, ↓f149_J2, ↓f149_J5, ↓f149_J10, ↓f149_J9, ↓f149_L8, ↓f149_J7, ↓f149_J4, ↓f149_L3, ↓f149_J1, hc, lv, s1, b1, b2, b3]
    refine TC.w179 T (m + 1) (by omega) (d := d) (s3.ext ExC.stays q6) (hl2 d hdm) _ _ ?_
    intro u h2 ⟨e2, e3⟩
    subst e3
    cases c : defMay d with
    | false =>
      simp (disch := first | omega | (simp only [disM] <;> omega) | assumption) only [↓run, ↓runM, run, runM, Nat.reduceAdd, Nat.reduceMul, Int.reduceToNat, ↓f149_J2, ↓f149_J5, ↓f149_J10, ↓f149_J9, ↓f149_L8, ↓f149_J7, ↓f149_J4, ↓f149_L3, ↓f149_J1]
      refine hk _ _ ⟨e0.trans (q6.trans e2), congrArg AV.bool (Eq.symm (Bool.eq_false_iff.2 fun hh => ?_))⟩
      have := (progMay_t hh).2.2 d hdm
      rw [c] at this; cases this.1
    | true =>
      simp (disch := first | omega | (simp only [disM] <;> omega) | assumption) only [↓run, ↓runM, run, runM, Nat.reduceAdd, Nat.reduceMul, Int.reduceToNat, ↓f149_J2, ↓f149_J5, ↓f149_J10, ↓f149_J9, ↓f149_L8, ↓f149_J7, ↓f149_J4, ↓f149_L3, ↓f149_J1]
      refine inner j d hd c _ ?_ _ _ _ _ _ _ _ _ _ ⟨0, rfl, rfl, rfl, by omega, q6.trans e2, rfl⟩
      intro x0 x1 x2 x3 x4 x5 x6 x7 h4 y1 y2 y3 y4
      subst y1 y2
      simp (disch := first | omega | (simp only [disM] <;> omega) | assumption) only [↓run, ↓runM, run, runM, Nat.reduceAdd, Nat.reduceMul, Int.reduceToNat, ↓f149_J2, ↓f149_J5, ↓f149_J10, ↓f149_J9, ↓f149_L8, ↓f149_J7, ↓f149_J4, ↓f149_L3, ↓f149_J1]
      exact ih i (by omega) _ _ _ _ _ _ _ _ _ ⟨j + 1, rfl, rfl, by omega, y3, by rw [hall, defIn_eq, c, y4]; rfl⟩
end
end Am.F
