/- Walks: expr.May. -/
import Derived.Test.YtpalaplnolcimaaDoorAmPg3
set_option linter.unusedSimpArgs false
set_option linter.unusedVariables false
namespace Am.F
open Go Am
def DMem (h h' : H) (bx : List AV) (lv : List Int) : Prop := h.n + 2 ≤ h'.n ∧ (∀ q, q < h.n → h'.get q = h.get q) ∧ h'.get h.n = .own 0 bx ∧ h'.get (h.n + 1) = .own 0 (ints lv)
theorem DMem.base {h h' : H} {bx : List AV} {lv : List Int} (d : DMem h h' bx lv) : Ext h h' := ⟨by have := d.1; omega, d.2.1⟩
theorem DMem.ext {h h' h'' : H} {bx : List AV} {lv : List Int} (d : DMem h h' bx lv) (e : Ext h' h'') : DMem h h'' bx lv := by
  obtain ⟨d1, d2, d3, d4⟩ := d
  refine ⟨by have := e.n; omega, fun q hq => by rw [e.get q (by omega), d2 q hq], by rw [e.get _ (by omega), d3], by rw [e.get _ (by omega), d4]⟩
theorem DMem.set {h h' : H} {bx : List AV} {lv : List Int} (d : DMem h h' bx lv) (lv' : List Int) : DMem h (h'.set (h.n + 1) (.own 0 (ints lv'))) bx lv' := by
  obtain ⟨d1, d2, d3, d4⟩ := d
  refine ⟨by rw [H.n_set]; exact d1, fun q hq => by rw [get_set_ne (by omega), d2 q hq], by rw [get_set_ne (by omega), d3], get_set_eq rfl⟩
theorem DMem.mk {h : H} (bx : List AV) (lv : List Int) : DMem h ((h.push (.own 0 bx)).push (.own 0 (ints lv))) bx lv :=
  ⟨by rw [H.n_push, H.n_push]; omega, fun q hq => by rw [get_push_ne (by rw [H.n_push]; omega), get_push_ne (by omega)], by rw [get_push_ne (by rw [H.n_push]; omega), get_push_eq rfl], get_push_eq (by rw [H.n_push])⟩
theorem int_succ (k : Nat) : AV.int .i64 ((k : Int) + 1) = AV.int .i64 ((k + 1 : Nat) : Int) := rfl
theorem DMem.facts {h h' : H} {bx : List AV} {lv : List Int} (d : DMem h h' bx lv) : (h'.get h.n).cells = some bx ∧ (h'.get (h.n + 1)).cells = some (ints lv) ∧ ownOf (h'.get (h.n + 1)) = some (0, ints lv) := by
  obtain ⟨d1, d2, d3, d4⟩ := d
  exact ⟨by rw [d3]; rfl, by rw [d4]; rfl, by rw [d4]; rfl⟩
section
variable {β : Type} {t : ETree}
theorem GC.w187 (TC : GC t) (T : GA t) (n : Nat) (hn : 40 ≤ n) {h : H} {w : AV} {d : Df} (hw : LAt 4 ExC h w d.body) (hl : d.body.length ≤ 9223372036854775807) :
    Sp (β := β) (fRunS t stdI n (.fn 187 []) [.agg [.int .i64 d.params, w]] h) fun u h' => Ext h h' ∧ u = .bool (defMay d) := by
  intro k R hk
  obtain ⟨m, rfl⟩ : ∃ m, n = m + 3 := ⟨n - 3, by omega⟩
  have wl := hw.len (β := β)
  have hsc := hw.sc
  have hroom : room = 68719476736 := rfl
  have hb : ∀ (v w : AV) (hh : H) (kk : K β), qBox 0 (.agg [v, w]) hh (.mk kk) = kk (.ptr hh.n 0) (hh.push (.own 0 [v, w])) := fun v w hh kk => q_fBox_agg 0 _ hh kk
  have h212 := fun (x y : Int) (hh : H) (kk : K β) => TC.w212 (m + 1) x y hh kk
  by_cases c1 : 0 ≤ d.params ∧ d.params ≤ 3
  case neg =>
    rw [TC.c187]; unfold f187
    simp (disch := first | omega | (simp only [disM] <;> omega) | assumption) only [↓run, ↓runM, run, runM, Nat.reduceAdd, Nat.reduceMul, Int.reduceToNat, ↓hb, wl, h212, eq_false c1]
    exact hk _ _ ⟨(Ext.refl h).push _, by unfold defMay; rw [decide_eq_false (by omega)]; rfl⟩
  by_cases c2 : 0 ≤ (d.body.length : Int) - 1 ∧ (d.body.length : Int) - 1 ≤ 23
  case neg =>
    rw [TC.c187]; unfold f187
    simp (disch := first | omega | (simp only [disM] <;> omega) | assumption) only [↓run, ↓runM, run, runM, Nat.reduceAdd, Nat.reduceMul, Int.reduceToNat, ↓hb, wl, h212, eq_true c1, eq_false c2]
    exact hk _ _ ⟨(Ext.refl h).push _, by unfold defMay; rw [decide_eq_false (by omega)]; rfl⟩
  have tn : ((d.body.length : Int) - 1).toNat = d.body.length - 1 := by omega
  have hmk := fun (hh : H) (kk : K β) => mkslice_i (β := β) (l := d.body.length) (by omega) hh kk
  have d0 : defMay d = bodyGo d.body d.body.length (firstLv d) := by unfold defMay; rw [decide_eq_true (by omega)]; rfl
  have inner : ∀ (i : Nat) (e : Ex) (hi : d.body[i]? = some e) (hk3 : e.kids.length ≤ 3) (j17 : Cur β 22),
      (∀ lv, LvOk d.body.length lv → bodyGo d.body i lv = defMay d → ∀ x0 x1 x2 x3 x4 x5 x6 x7 x8 x9 x10 x11 x12 x13 x14 x15 x16 x17 x18 x19 x20 x21 h', DMem h h' [.int .i64 d.params, w] lv → x1 = .ptr h.n 0 → x4 = .sl (h.n + 1) 0 d.body.length d.body.length none → x6 = .int .i64 (i : Int) → j17 x0 x1 x2 x3 x4 x5 x6 x7 x8 x9 x10 x11 x12 x13 x14 x15 x16 x17 x18 x19 x20 x21 h' = R) →
      ∀ (kn : Nat), kn < m + 2 → ∀ x0 x1 x2 x3 x4 x5 x6 x7 x8 x9 x10 x11 x12 x13 x14 x15 x16 x17 x18 x19 x20 x21 h', (∃ (b o : Nat) (w' : AV) (kk : Nat) (lv : List Int), x1 = .ptr h.n 0 ∧ x4 = .sl (h.n + 1) 0 d.body.length d.body.length none ∧ x6 = .int .i64 (i : Int) ∧ x7 = .ptr b o ∧ ExIn h b o w' e ∧ x16 = w' ∧ x17 = .int .i64 (e.kids.length : Int) ∧ x18 = .int .i64 (kk : Int) ∧
        kk + kn = e.kids.length ∧ DMem h h' [.int .i64 d.params, w] lv ∧ LvOk d.body.length lv ∧ (¬ lv.getD i 0 = -1 ∧ ¬ 8 < lv.getD i 0) ∧ (0 ≤ e.bind ∧ e.bind ≤ 3) ∧ afterKids d.body i (kidsGo i e kk (e.kids.drop kk) lv) = defMay d) →
      qLoop 22 (m + 2) (.mk (f187_L27 (fRunS t stdI (m + 2)) k j17)) x0 x1 x2 x3 x4 x5 x6 x7 x8 x9 x10 x11 x12 x13 x14 x15 x16 x17 x18 x19 x20 x21 h' = R := by
    intro i e hi hk3 j17 hj kn hkn
    refine qLoop_wp 22 (m + 2) _ _ (fun kn x0 x1 x2 x3 x4 x5 x6 x7 x8 x9 x10 x11 x12 x13 x14 x15 x16 x17 x18 x19 x20 x21 h' => ∃ (b o : Nat) (w' : AV) (kk : Nat) (lv : List Int), x1 = .ptr h.n 0 ∧ x4 = .sl (h.n + 1) 0 d.body.length d.body.length none ∧ x6 = .int .i64 (i : Int) ∧ x7 = .ptr b o ∧ ExIn h b o w' e ∧ x16 = w' ∧ x17 = .int .i64 (e.kids.length : Int) ∧ x18 = .int .i64 (kk : Int) ∧
        kk + kn = e.kids.length ∧ DMem h h' [.int .i64 d.params, w] lv ∧ LvOk d.body.length lv ∧ (¬ lv.getD i 0 = -1 ∧ ¬ 8 < lv.getD i 0) ∧ (0 ≤ e.bind ∧ e.bind ≤ 3) ∧ afterKids d.body i (kidsGo i e kk (e.kids.drop kk) lv) = defMay d) kn hkn ?_
    intro l kn ih x0 x1 x2 x3 x4 x5 x6 x7 x8 x9 x10 x11 x12 x13 x14 x15 x16 x17 x18 x19 x20 x21 h' ⟨b, o, w', kk, lv, q1, q2, q3, q4, q5, q6, q7, q8, q9, q10, q11, q12, q13, q14⟩
    subst q1 q2 q3 q4 q6 q7 q8
    have hil : i < d.body.length := (List.getElem?_eq_some_iff.1 hi).1
    cases kn with
    | zero =>
      have hk' : kk = e.kids.length := by omega
      subst hk'
      rw [List.drop_length] at q14
      simp (disch := first | omega | (simp only [disM] <;> omega) | assumption) only [↓run, ↓runM, run, runM, Nat.reduceAdd, Nat.reduceMul, Int.reduceToNat, ↓f187_J14, ↓f187_J17, ↓f187_J30, ↓f187_J34, ↓f187_J29, ↓f187_L27, ↓f187_J22, ↓f187_J16, ↓f187_L15, ↓f187_J10, ↓f187_J64, ↓f187_J63, ↓f187_L61, ↓f187_J5]
      exact hj lv q11 q14 _ _ _ _ _ _ _ _ _ _ _ _ _ _ _ _ _ _ _ _ _ _ _ q10 rfl rfl rfl
    | succ kn =>
      have hkl : kk < e.kids.length := by omega
      obtain ⟨f1, f2, f3⟩ := q10.facts
      have q5' := q5.ext q10.base
      have hld := fun (kc : VK β) => q5'.2.load (β := β) (i := (kk : Int)) (kd := .i64) (by omega) (by rw [ints_len]; omega) kc
      rw [Int.toNat_natCast, ints_getD hkl] at hld
      have hdr : e.kids.drop kk = e.kids.getD kk 0 :: e.kids.drop (kk + 1) := by
        rw [List.drop_eq_getElem_cons hkl, List.getD_eq_getElem?_getD, List.getElem?_eq_getElem hkl]; rfl
      rw [hdr] at q14
      generalize e.kids.getD kk 0 = kid at hld q14
      by_cases k1 : kid < 0
      · have : defMay d = false := by rw [← q14]; show afterKids _ _ (if _ then _ else _) = _; rw [if_neg (by omega)]; rfl
        simp (disch := first | omega | (simp only [disM] <;> omega) | assumption) only [↓run, ↓runM, run, runM, Nat.reduceAdd, Nat.reduceMul, Int.reduceToNat, ↓f187_J14, ↓f187_J17, ↓f187_J30, ↓f187_J34, ↓f187_J29, ↓f187_L27, ↓f187_J22, ↓f187_J16, ↓f187_L15, ↓f187_J10, ↓f187_J64, ↓f187_J63, ↓f187_L61, ↓f187_J5, hld, eq_true k1]
        exact hk _ _ ⟨q10.base, by rw [this]⟩
      by_cases k2 : (i : Int) ≤ kid
      · have : defMay d = false := by rw [← q14]; show afterKids _ _ (if _ then _ else _) = _; rw [if_neg (by omega)]; rfl
        simp (disch := first | omega | (simp only [disM] <;> omega) | assumption) only [↓run, ↓runM, run, runM, Nat.reduceAdd, Nat.reduceMul, Int.reduceToNat, ↓f187_J14, ↓f187_J17, ↓f187_J30, ↓f187_J34, ↓f187_J29, ↓f187_L27, ↓f187_J22, ↓f187_J16, ↓f187_L15, ↓f187_J10, ↓f187_J64, ↓f187_J63, ↓f187_L61, ↓f187_J5, hld, eq_false k1, eq_true k2]
        exact hk _ _ ⟨q10.base, by rw [this]⟩
      obtain ⟨kd, rfl⟩ := Int.eq_ofNat_of_zero_le (show 0 ≤ kid by omega)
      have hkd : kd < d.body.length := by omega
      have g1 := ints_get (xs := lv) (j := kd) (by rw [q11.1]; exact hkd)
      have g2 := ints_get (xs := lv) (j := i) (by rw [q11.1]; exact hil)
      by_cases k3 : lv.getD kd 0 = -1
      case neg =>
        have : defMay d = false := by rw [← q14]; show afterKids _ _ (if _ then _ else _) = _; rw [Int.toNat_natCast, if_neg (by omega)]; rfl
        simp (disch := first | omega | (simp only [disM] <;> omega) | assumption) only [↓run, ↓runM, run, runM, Nat.reduceAdd, Nat.reduceMul, Int.reduceToNat, ↓f187_J14, ↓f187_J17, ↓f187_J30, ↓f187_J34, ↓f187_J29, ↓f187_L27, ↓f187_J22, ↓f187_J16, ↓f187_L15, ↓f187_J10, ↓f187_J64, ↓f187_J63, ↓f187_L61, ↓f187_J5, hld, eq_false k1, eq_false k2, f1, f2, g1, eq_false k3]
        exact hk _ _ ⟨q10.base, by rw [this]⟩
      have h214 := fun (kc : K β) => TC.w214 (m + 1) q5' (kk : Int) kc
      have hm := more_le q13 (kk : Int)
      have hlv := q11.2 i
      have hch : ∀ (x : Int) (c : Option β), qChk (.int .i64 x) (.int .i64 x) (.mk c) = c := fun x c => by
        show cond (AV.beq _ _) c none = c
        have : AV.beq (.int .i64 x) (.int .i64 x) = true := by simp [AV.beq]
        rw [this]; rfl
      simp (disch := first | omega | (simp only [disM] <;> omega) | assumption) only [↓run, ↓runM, run, runM, Nat.reduceAdd, Nat.reduceMul, Int.reduceToNat, ↓f187_J14, ↓f187_J17, ↓f187_J30, ↓f187_J34, ↓f187_J29, ↓f187_L27, ↓f187_J22, ↓f187_J16, ↓f187_L15, ↓f187_J10, ↓f187_J64, ↓f187_J63, ↓f187_L61, ↓f187_J5, hld, eq_false k1, eq_false k2, f1, f2, f3, g1, g2, eq_true k3, h214, hch, ints_set, ints_len, q11.1]
      have hb2 : -1 ≤ lv.getD i 0 + more e (kk : Int) ∧ lv.getD i 0 + more e (kk : Int) ≤ 11 := by omega
      refine ih kn (by omega) _ _ _ _ _ _ _ _ _ _ _ _ _ _ _ _ _ _ _ _ _ _ _ ⟨b, o, _, kk + 1, lv.set kd (lv.getD i 0 + more e (kk : Int)), rfl, rfl, rfl, rfl, q5, rfl, rfl, int_succ kk, by omega, q10.set _, q11.set hb2, ?_, q13, ?_⟩
      · rw [getD_set_ne _ _ (by omega)]; exact q12
      · rw [← q14]
        show _ = afterKids _ _ (if _ then _ else _)
        rw [Int.toNat_natCast, if_pos ⟨by omega, by omega, k3⟩]
  have outer : ∀ (i : Nat), i ≤ d.body.length → ∀ x0 x1 x2 x3 x4 x5 x6 x7 x8 x9 x10 x11 x12 x13 x14 x15 x16 x17 x18 x19 x20 x21 h', (i ≤ d.body.length ∧ ∃ lv, x1 = .ptr h.n 0 ∧ x4 = .sl (h.n + 1) 0 d.body.length d.body.length none ∧ x6 = .int .i64 ((i : Int) - 1) ∧ DMem h h' [.int .i64 d.params, w] lv ∧ LvOk d.body.length lv ∧ bodyGo d.body i lv = defMay d) →
      qLoop 22 (m + 2) (.mk (f187_L15 (m + 2) (fRunS t stdI (m + 2)) k (f187_J14 k))) x0 x1 x2 x3 x4 x5 x6 x7 x8 x9 x10 x11 x12 x13 x14 x15 x16 x17 x18 x19 x20 x21 h' = R := by
    intro i hi0
    refine qLoop_wp 22 (m + 2) _ _ (fun i x0 x1 x2 x3 x4 x5 x6 x7 x8 x9 x10 x11 x12 x13 x14 x15 x16 x17 x18 x19 x20 x21 h' => i ≤ d.body.length ∧ ∃ lv, x1 = .ptr h.n 0 ∧ x4 = .sl (h.n + 1) 0 d.body.length d.body.length none ∧ x6 = .int .i64 ((i : Int) - 1) ∧ DMem h h' [.int .i64 d.params, w] lv ∧ LvOk d.body.length lv ∧ bodyGo d.body i lv = defMay d) i (by omega) ?_
    intro l i ih x0 x1 x2 x3 x4 x5 x6 x7 x8 x9 x10 x11 x12 x13 x14 x15 x16 x17 x18 x19 x20 x21 h' ⟨hi, lv, q1, q2, q3, q4, q5, q6⟩
    subst q1 q2 q3
    obtain ⟨f1, f2, f3⟩ := q4.facts
    cases i with
    | zero =>
      simp (disch := first | omega | (simp only [disM] <;> omega) | assumption) only [↓run, ↓runM, run, runM, Nat.reduceAdd, Nat.reduceMul, Int.reduceToNat, ↓f187_J14, ↓f187_J17, ↓f187_J30, ↓f187_J34, ↓f187_J29, ↓f187_L27, ↓f187_J22, ↓f187_J16, ↓f187_L15, ↓f187_J10, ↓f187_J64, ↓f187_J63, ↓f187_L61, ↓f187_J5]
      exact hk _ _ ⟨q4.base, by rw [← q6]; rfl⟩
    | succ i =>
      have hil : i < d.body.length := by omega
      obtain ⟨e, he⟩ : ∃ e, d.body[i]? = some e := ⟨_, List.getElem?_eq_getElem hil⟩
      obtain ⟨b, o, cs, a1, a2, w', rfl, a3⟩ := hw.at (β := β) he
      have hx0 : ExIn h b o w' e := ⟨a2, a3⟩
      have hx := hx0.ext q4.base
      obtain ⟨us, fx⟩ := hx.get β
      have en : ((i + 1 : Nat) : Int) - 1 = (i : Int) := by omega
      have g2 := ints_get (xs := lv) (j := i) (by rw [q5.1]; exact hil)
      have hlv := q5.2 i
      have h213 := fun (kc : K β) => TC.w213 T m hx (lv.getD i 0) ⟨by omega, by omega⟩ kc
      by_cases k1 : lv.getD i 0 = -1
      · have := bodyGo_f d.body i lv he (.inl k1)
        simp (disch := first | omega | (simp only [disM] <;> omega) | assumption) only [↓run, ↓runM, run, runM, Nat.reduceAdd, Nat.reduceMul, Int.reduceToNat, ↓f187_J14, ↓f187_J17, ↓f187_J30, ↓f187_J34, ↓f187_J29, ↓f187_L27, ↓f187_J22, ↓f187_J16, ↓f187_L15, ↓f187_J10, ↓f187_J64, ↓f187_J63, ↓f187_L61, ↓f187_J5, en, f1, f2, a1, g2, eq_true k1]
        exact hk _ _ ⟨q4.base, by rw [← q6, this]⟩
      by_cases k2 : 8 < lv.getD i 0
      · have := bodyGo_f d.body i lv he (.inr (.inl k2))
        simp (disch := first | omega | (simp only [disM] <;> omega) | assumption) only [↓run, ↓runM, run, runM, Nat.reduceAdd, Nat.reduceMul, Int.reduceToNat, ↓f187_J14, ↓f187_J17, ↓f187_J30, ↓f187_J34, ↓f187_J29, ↓f187_L27, ↓f187_J22, ↓f187_J16, ↓f187_L15, ↓f187_J10, ↓f187_J64, ↓f187_J63, ↓f187_L61, ↓f187_J5, en, f1, f2, a1, g2, eq_false k1, eq_true k2]
        exact hk _ _ ⟨q4.base, by rw [← q6, this]⟩
      by_cases k3 : PartP e (lv.getD i 0)
      case neg =>
        have := bodyGo_f d.body i lv he (.inr (.inr k3))
        simp (disch := first | omega | (simp only [disM] <;> omega) | assumption) only [↓run, ↓runM, run, runM, Nat.reduceAdd, Nat.reduceMul, Int.reduceToNat, ↓f187_J14, ↓f187_J17, ↓f187_J30, ↓f187_J34, ↓f187_J29, ↓f187_L27, ↓f187_J22, ↓f187_J16, ↓f187_L15, ↓f187_J10, ↓f187_J64, ↓f187_J63, ↓f187_L61, ↓f187_J5, en, f1, f2, a1, g2, eq_false k1, eq_false k2, h213, eq_false k3]
        exact hk _ _ ⟨q4.base, by rw [← q6, this]⟩
      have hs := bodyGo_s d.body i lv he k1 k2 k3
      have hkl : e.kids.length ≤ 3 := by
        unfold PartP Plain at k3
        rcases k3 with h | h | h | h | h | h | h | h <;> omega
      simp (disch := first | omega | (simp only [disM] <;> omega) | assumption) only [↓run, ↓runM, run, runM, Nat.reduceAdd, Nat.reduceMul, Int.reduceToNat, ↓f187_J14, ↓f187_J17, ↓f187_J30, ↓f187_J34, ↓f187_J29, ↓f187_L27, ↓f187_J22, ↓f187_J16, ↓f187_L15, ↓f187_J10, ↓f187_J64, ↓f187_J63, ↓f187_L61, ↓f187_J5, en, f1, f2, a1, g2, eq_false k1, eq_false k2, h213, eq_true k3, nil_p, fx]
      refine inner i e he hkl _ ?_ e.kids.length (by omega) _ _ _ _ _ _ _ _ _ _ _ _ _ _ _ _ _ _ _ _ _ _ _ ⟨b, o, _, 0, lv, rfl, rfl, rfl, rfl, hx0, rfl, rfl, rfl, by omega, q4, q5, ⟨k1, k2⟩, k3.bind, by rw [← q6, hs]; rfl⟩
      intro lv' g3 g4 x0 x1 x2 x3 x4 x5 x6 x7 x8 x9 x10 x11 x12 x13 x14 x15 x16 x17 x18 x19 x20 x21 h'' g5 g6 g7 g8
      subst g6 g7 g8
      simp (disch := first | omega | (simp only [disM] <;> omega) | assumption) only [↓run, ↓runM, run, runM, Nat.reduceAdd, Nat.reduceMul, Int.reduceToNat, ↓f187_J14, ↓f187_J17, ↓f187_J30, ↓f187_J34, ↓f187_J29, ↓f187_L27, ↓f187_J22, ↓f187_J16, ↓f187_L15, ↓f187_J10, ↓f187_J64, ↓f187_J63, ↓f187_L61, ↓f187_J5]
      exact ih i (by omega) _ _ _ _ _ _ _ _ _ _ _ _ _ _ _ _ _ _ _ _ _ _ _ ⟨by omega, lv', rfl, rfl, rfl, g5, g3, g4⟩
  rw [TC.c187]; unfold f187
  simp (disch := first | omega | (simp only [disM] <;> omega) | assumption) only [↓run, ↓runM, run, runM, Nat.reduceAdd, Nat.reduceMul, Int.reduceToNat, ↓f187_J14, ↓f187_J17, ↓f187_J30, ↓f187_J34, ↓f187_J29, ↓f187_L27, ↓f187_J22, ↓f187_J16, ↓f187_L15, ↓f187_J10, ↓f187_J64, ↓f187_J63, ↓f187_L61, ↓f187_J5, ↓hb, wl, h212, eq_true c1, eq_true c2, hmk]
  refine qLoop_wp 22 (m + 2) _ _ (fun i x0 x1 x2 x3 x4 x5 x6 x7 x8 x9 x10 x11 x12 x13 x14 x15 x16 x17 x18 x19 x20 x21 h' => ∃ (j : Nat) (lv : List Int), x1 = .ptr h.n 0 ∧ x3 = .int .i64 ((d.body.length : Int) - 1) ∧ x4 = .sl (h.n + 1) 0 d.body.length d.body.length none ∧ x11 = .int .i64 ((d.body.length : Int) - 1) ∧
    x12 = .int .i64 (j : Int) ∧ j + i = d.body.length - 1 ∧ DMem h h' [.int .i64 d.params, w] lv ∧ lv.length = d.body.length ∧ ∀ q, q < j → lv.getD q 0 = -1) (d.body.length - 1) (by omega) ?_ _ _ _ _ _ _ _ _ _ _ _ _ _ _ _ _ _ _ _ _ _ _ _
    ⟨0, List.replicate d.body.length 0, rfl, rfl, rfl, rfl, rfl, by omega, DMem.mk _ _, List.length_replicate .., fun q hq => absurd hq (by omega)⟩
  intro l i ih x0 x1 x2 x3 x4 x5 x6 x7 x8 x9 x10 x11 x12 x13 x14 x15 x16 x17 x18 x19 x20 x21 h' ⟨j, lv, q1, q2, q3, q4, q5, q6, q7, q8, q9⟩
  subst q1 q2 q3 q4 q5
  obtain ⟨f1, f2, f3⟩ := q7.facts
  cases i with
  | zero =>
    have hj : j = d.body.length - 1 := by omega
    have hle : ¬ (j : Int) < (d.body.length : Int) - 1 := by omega
    have hlast : lv.set (d.body.length - 1) d.params = firstLv d := by
      unfold firstLv
      refine List.ext_getElem? fun q => ?_
      rcases Nat.lt_trichotomy q (d.body.length - 1) with hq | hq | hq
      · rw [List.getElem?_set_ne (by omega), List.getElem?_append_left (by rw [List.length_replicate]; exact hq), List.getElem?_replicate, if_pos hq]
        have := q9 q (by omega)
        rw [List.getD_eq_getElem?_getD, List.getElem?_eq_getElem (by omega)] at this
        rw [List.getElem?_eq_getElem (by omega)]; exact congrArg some this
      · subst hq
        rw [List.getElem?_set_self (by omega), List.getElem?_append_right (by rw [List.length_replicate]; omega), List.length_replicate, Nat.sub_self]; rfl
      · rw [List.getElem?_eq_none (by rw [List.length_set]; omega), List.getElem?_eq_none (by rw [List.length_append, List.length_replicate]; simp; omega)]
    simp (disch := first | omega | (simp only [disM] <;> omega) | assumption) only [↓run, ↓runM, run, runM, Nat.reduceAdd, Nat.reduceMul, Int.reduceToNat, ↓f187_J14, ↓f187_J17, ↓f187_J30, ↓f187_J34, ↓f187_J29, ↓f187_L27, ↓f187_J22, ↓f187_J16, ↓f187_L15, ↓f187_J10, ↓f187_J64, ↓f187_J63, ↓f187_L61, ↓f187_J5, eq_false hle, f1, tn, f3, ints_set, ints_len, q8, hlast]
    refine outer d.body.length (Nat.le_refl _) _ _ _ _ _ _ _ _ _ _ _ _ _ _ _ _ _ _ _ _ _ _ _ ⟨Nat.le_refl _, firstLv d, rfl, rfl, rfl, q7.set _, ⟨by unfold firstLv; rw [List.length_append, List.length_replicate]; simp; omega, fun q => ?_⟩, d0.symm⟩
    rw [← hlast]
    by_cases hq : d.body.length - 1 = q
    · subst hq; rw [getD_set_eq _ _ (by omega)]; omega
    · rw [getD_set_ne _ _ hq]
      by_cases hq2 : q < j
      · rw [q9 q hq2]; omega
      · rw [List.getD_eq_getElem?_getD, List.getElem?_eq_none (by omega)]; simp
  | succ i =>
    have hj : (j : Int) < (d.body.length : Int) - 1 := by omega
    simp (disch := first | omega | (simp only [disM] <;> omega) | assumption) only [↓run, ↓runM, run, runM, Nat.reduceAdd, Nat.reduceMul, Int.reduceToNat, ↓f187_J14, ↓f187_J17, ↓f187_J30, ↓f187_J34, ↓f187_J29, ↓f187_L27, ↓f187_J22, ↓f187_J16, ↓f187_L15, ↓f187_J10, ↓f187_J64, ↓f187_J63, ↓f187_L61, ↓f187_J5, eq_true hj, f3, ints_set, ints_len, q8]
    refine ih i (by omega) _ _ _ _ _ _ _ _ _ _ _ _ _ _ _ _ _ _ _ _ _ _ _ ⟨j + 1, _, rfl, rfl, rfl, rfl, congrArg (AV.int .i64) (by omega), by omega, q7.set _, by rw [List.length_set]; exact q8, fun q hq => ?_⟩
    by_cases hq2 : j = q
    · subst hq2; rw [getD_set_eq _ _ (by omega)]
    · rw [getD_set_ne _ _ hq2]; exact q9 q (by omega)
end
end Am.F
