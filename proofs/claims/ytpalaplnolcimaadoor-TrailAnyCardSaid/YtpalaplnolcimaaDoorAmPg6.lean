/- Walks: what a program may be, on both sides. -/
import Derived.Test.YtpalaplnolcimaaDoorAmPg5
set_option linter.unusedSimpArgs false
set_option linter.unusedVariables false
namespace Am.F
open Go Am
def paramsOf (p : List Df) (j : Int) : Int := ((p[j.toNat]?).map Df.params).getD 0
def Odd (p : List Df) (e : Ex) : Prop := e.kind = 2 ∧ ((p.length : Int) ≤ e.num ∨ ¬ (e.kids.length : Int) = paramsOf p e.num)
instance (p : List Df) (e : Ex) : Decidable (Odd p e) := by unfold Odd; infer_instance
def defIn (p : List Df) (d : Df) : Bool := defMay d && d.body.all fun e => !decide (Odd p e)
def progMay (p : List Df) : Bool := decide ((1 ≤ p.length ∧ p.length ≤ 8) ∧ paramsOf p 0 = 0) && p.all (defIn p)
theorem bodyGo_part (body : List Ex) : ∀ (i : Nat) (lv : List Int), bodyGo body i lv = true → ∀ j e, j < i → body[j]? = some e → ∃ l, PartP e l
  | 0, _, _, j, e, hj, _ => absurd hj (by omega)
  | i + 1, lv, h, j, e, hj, he => by
    unfold bodyGo at h
    cases hb : body[i]? with
    | none => rw [hb] at h; cases h
    | some e' =>
      rw [hb] at h
      simp only at h
      split at h
      · cases h
      · rename_i hc
        cases hk : kidsGo i e' 0 e'.kids lv with
        | none => rw [hk] at h; cases h
        | some lv' =>
          rw [hk] at h
          rcases Nat.lt_or_ge j i with hji | hji
          · exact bodyGo_part body i lv' h j e hji he
          · have : j = i := by omega
            subst this
            rw [hb] at he; cases he
            exact ⟨_, Classical.byContradiction fun hn => hc (.inr (.inr hn))⟩
theorem defMay_part {d : Df} (h : defMay d = true) {e : Ex} (he : e ∈ d.body) : ∃ l, PartP e l := by
  unfold defMay at h
  rw [Bool.and_eq_true] at h
  obtain ⟨j, hj, hje⟩ := List.getElem_of_mem he
  exact bodyGo_part _ _ _ h.2 j e hj (by rw [List.getElem?_eq_getElem hj, hje])
theorem PartP.call {e : Ex} {l : Int} (h : PartP e l) (h2 : e.kind = 2) : 0 ≤ e.num ∧ e.num ≤ 7 := by
  unfold PartP at h
  rcases h with h | h | h | h | h | h | h | h <;> omega
theorem defMay_len {d : Df} (h : defMay d = true) : d.body.length ≤ 24 ∧ 1 ≤ d.body.length := by
  unfold defMay at h
  rw [Bool.and_eq_true] at h
  have := of_decide_eq_true h.1
  omega
theorem PartP.kids {e : Ex} {l : Int} (h : PartP e l) : e.kids.length ≤ 3 := by
  unfold PartP Plain at h
  rcases h with h | h | h | h | h | h | h | h <;> omega
theorem exBox {β : Type} (e : Ex) (w : AV) (hh : H) (kk : K β) : qBox 0 (.agg (exCells e w)) hh (.mk kk) = kk (.ptr hh.n 0) (hh.push (.own 0 (exCells e w))) := q_fBox_agg 0 _ hh kk
theorem defAt {β : Type} {h : H} {v : AV} {p : List Df} (hp : LAt 2 DfC h v p) {j : Int} (h0 : 0 ≤ j) (h1 : j < p.length) : ∃ b o us, (∀ k : VK β, qIadr 2 v (.int .i64 j) (.mk k) = k (.ptr b o)) ∧ (h.get b).cells = some us ∧ us[o]? = some (.int .i64 (paramsOf p j)) := by
  obtain ⟨j, rfl⟩ := Int.eq_ofNat_of_zero_le h0
  obtain ⟨d, hd⟩ : ∃ d, p[j]? = some d := ⟨_, List.getElem?_eq_getElem (by omega)⟩
  obtain ⟨b, o, cs, a1, a2, w, rfl, a3⟩ := hp.at (β := β) hd
  obtain ⟨us, b1, b2, b3, b4⟩ := a2.get
  refine ⟨b, o, us, a1, b1, ?_⟩
  have := b4 0 _ rfl
  rw [Nat.add_zero] at this
  rw [this]; unfold paramsOf; rw [Int.toNat_natCast, hd]; rfl
section
variable {β : Type} {t : ETree}
theorem GC.w186 (TC : GC t) (n : Nat) {h : H} {pb : Nat} {v w : AV} {p : List Df} {e : Ex} (hb : pb < h.n) (hg : (h.get pb).cells = some [v]) (hp : LAt 2 DfC h v p) (hw : SlAt h w (ints e.kids)) (he : e.kind = 2 → 0 ≤ e.num) :
    Sp (β := β) (fRunS t stdI (n + 1) (.fn 186 [.ptr pb 0]) [.agg (exCells e w)] h) fun u h' => Ext h h' ∧ u = .bool (decide (Odd p e)) := by
  intro k R hk
  have lw : ∀ kc : VK β, qLenL w (.mk kc) = kc (.int .i64 (e.kids.length : Int)) := fun kc => by rw [hw.len, ints_len]
  have lp := hp.len (β := β)
  have fin : ∀ b : Bool, (b = true ↔ Odd p e) → k (.bool b) (h.push (.own 0 (exCells e w))) = R := fun b hbb => hk _ _ ⟨(Ext.refl h).push _, by congr 1; rw [Bool.eq_iff_iff, hbb]; simp⟩
  have hg1 : ((h.push (.own 0 (exCells e w))).get pb) = h.get pb := get_push_ne (by omega)
  have hx := exBox (β := β) e w
  by_cases c1 : e.kind = 2
  case neg =>
    rw [TC.c186]; unfold f186
    unfold exCells at *
    simp (disch := first | omega | (simp only [disM] <;> omega) | assumption) only [↓run, ↓runM, run, runM, Nat.reduceAdd, Nat.reduceMul, Int.reduceToNat, List.cons_append, List.nil_append, ↓hx, hg1, hg, eq_false c1]
    exact fin _ (by unfold Odd; simp [c1])
  by_cases c2 : (p.length : Int) ≤ e.num
  · rw [TC.c186]; unfold f186
    unfold exCells at *
    simp (disch := first | omega | (simp only [disM] <;> omega) | assumption) only [↓run, ↓runM, run, runM, Nat.reduceAdd, Nat.reduceMul, Int.reduceToNat, List.cons_append, List.nil_append, ↓hx, hg1, hg, eq_true c1, lp, eq_true c2]
    exact fin _ (by unfold Odd; simp [c1, c2])
  obtain ⟨b, o, us, a1, a2, a3⟩ := defAt (β := β) (hp.ext DfC.stays ((Ext.refl h).push (.own 0 (exCells e w)))) (he c1) (by omega)
  rw [TC.c186]; unfold f186
  unfold exCells at *
  simp (disch := first | omega | (simp only [disM] <;> omega) | assumption) only [↓run, ↓runM, run, runM, Nat.reduceAdd, Nat.reduceMul, Int.reduceToNat, List.cons_append, List.nil_append, ↓hx, hg1, hg, eq_true c1, lp, lw, eq_false c2, a1, a2, a3]
  exact fin _ (by unfold Odd; simp [c1, c2])
def oddIn (p : List Df) (body : List Ex) : Bool := body.any fun e => decide (Odd p e)
theorem GC.w215 (TC : GC t) (n : Nat) {h : H} {pb : Nat} {v w : AV} {p : List Df} {body : List Ex} (hb : pb < h.n) (hg : (h.get pb).cells = some [v]) (hp : LAt 2 DfC h v p) (hw : LAt 4 ExC h w body) (hn : body.length + 3 ≤ n) (hl : body.length ≤ 9223372036854775807)
    (he : ∀ e ∈ body, e.kind = 2 → 0 ≤ e.num) :
    Sp (β := β) (fRunS t stdI n (.fn 215 []) [w, .fn 186 [.ptr pb 0]] h) fun u h' => Ext h h' ∧ ∃ r : Int, u = .int .i64 r ∧ decide (0 ≤ r) = oddIn p body := by
  intro k R hk
  obtain ⟨m, rfl⟩ : ∃ m, n = m + 2 := ⟨n - 2, by omega⟩
  have wl := hw.len (β := β)
  rw [TC.c215]; unfold f215
  simp (disch := first | omega | (simp only [disM] <;> omega) | assumption) only [↓run, ↓runM, run, runM, Nat.reduceAdd, Nat.reduceMul, Int.reduceToNat, ↓f215_J0, ↓f215_J5, ↓f215_J4, ↓f215_L2, wl]
  refine qLoop_wp 7 (m + 1) _ _ (fun i x0 x1 x2 x3 x4 x5 x6 h' => ∃ j : Nat, x0 = w ∧ x1 = .fn 186 [.ptr pb 0] ∧ x4 = .int .i64 (body.length : Int) ∧ x5 = .int .i64 (j : Int) ∧ j + i = body.length ∧ Ext h h' ∧ oddIn p (body.take j) = false) body.length (by omega) ?_ _ _ _ _ _ _ _ _
    ⟨0, rfl, rfl, rfl, rfl, by omega, Ext.refl h, rfl⟩
  intro l i ih x0 x1 x2 x3 x4 x5 x6 h' ⟨j, q1, q2, q3, q4, q5, q6, q7⟩
  subst q1 q2 q3 q4
  cases i with
  | zero =>
    have hj : j = body.length := by omega
    subst hj
    rw [List.take_length] at q7
    simp (disch := first | omega | (simp only [disM] <;> omega) | assumption) only [↓run, ↓runM, run, runM, Nat.reduceAdd, Nat.reduceMul, Int.reduceToNat, ↓f215_J0, ↓f215_J5, ↓f215_J4, ↓f215_L2]
    exact hk _ _ ⟨q6, -1, rfl, by rw [q7]; rfl⟩
  | succ i =>
    have hj : j < body.length := by omega
    obtain ⟨e, hje⟩ : ∃ e, body[j]? = some e := ⟨_, List.getElem?_eq_getElem hj⟩
    obtain ⟨b, o, cs, a1, a2, w', rfl, a3⟩ := hw.at (β := β) hje
    obtain ⟨us, b1, b2, b3, b4⟩ := (a2.ext q6).get
    have hmem : e ∈ body := List.mem_of_getElem? hje
    have htk : body.take (j + 1) = body.take j ++ [e] := by rw [List.take_add_one, hje]; rfl
    have hod : oddIn p (body.take (j + 1)) = decide (Odd p e) := by
      unfold oddIn at q7 ⊢
      rw [htk, List.any_append, q7]; simp
    simp (disch := first | omega | (simp only [disM] <;> omega) | assumption) only [↓run, ↓runM, run, runM, Nat.reduceAdd, Nat.reduceMul, Int.reduceToNat, ↓f215_J0, ↓f215_J5, ↓f215_J4, ↓f215_L2, a1, b1, b2, b3]
    refine TC.w186 m (by have := q6.n; omega) (by rw [q6.get _ hb]; exact hg) (hp.ext DfC.stays q6) (a3.ext q6) (he e hmem) _ _ ?_
    intro u h2 ⟨e1, e2⟩
    subst e2
    by_cases c : Odd p e
    · simp (disch := first | omega | (simp only [disM] <;> omega) | assumption) only [↓run, ↓runM, run, runM, Nat.reduceAdd, Nat.reduceMul, Int.reduceToNat, ↓f215_J0, ↓f215_J5, ↓f215_J4, ↓f215_L2, eq_true c]
      refine hk _ _ ⟨q6.trans e1, j, rfl, ?_⟩
      rw [decide_eq_true (by omega)]
      refine (List.any_eq_true.2 ⟨e, hmem, ?_⟩).symm
      exact decide_eq_true c
    · simp (disch := first | omega | (simp only [disM] <;> omega) | assumption) only [↓run, ↓runM, run, runM, Nat.reduceAdd, Nat.reduceMul, Int.reduceToNat, ↓f215_J0, ↓f215_J5, ↓f215_J4, ↓f215_L2, eq_false c]
      exact ih i (by omega) _ _ _ _ _ _ _ _ ⟨j + 1, rfl, rfl, rfl, rfl, by omega, q6.trans e1, by rw [hod]; exact decide_eq_false c⟩
theorem GC.w188 (TC : GC t) (n : Nat) {h : H} {pb : Nat} {v w : AV} {p : List Df} {body : List Ex} (hb : pb < h.n) (hg : (h.get pb).cells = some [v]) (hp : LAt 2 DfC h v p) (hw : LAt 4 ExC h w body) (hn : body.length + 4 ≤ n) (hl : body.length ≤ 9223372036854775807)
    (he : ∀ e ∈ body, e.kind = 2 → 0 ≤ e.num) :
    Sp (β := β) (fRunS t stdI n (.fn 188 []) [w, .fn 186 [.ptr pb 0]] h) fun u h' => Ext h h' ∧ u = .bool (oddIn p body) := by
  intro k R hk
  obtain ⟨m, rfl⟩ : ∃ m, n = m + 1 := ⟨n - 1, by omega⟩
  rw [TC.c188]; unfold f188
  simp (disch := first | omega | (simp only [disM] <;> omega) | assumption) only [↓run, ↓runM, run, runM, Nat.reduceAdd, Nat.reduceMul, Int.reduceToNat]
  refine TC.w215 m hb hg hp hw (by omega) hl he _ _ ?_
  intro u h2 ⟨e1, r, e2, e3⟩
  subst e2
  simp (disch := first | omega | (simp only [disM] <;> omega) | assumption) only [↓run, ↓runM, run, runM, Nat.reduceAdd, Nat.reduceMul, Int.reduceToNat]
  exact hk _ _ ⟨e1, by rw [e3]⟩
theorem defIn_eq (p : List Df) (d : Df) : defIn p d = (defMay d && !oddIn p d.body) := by
  unfold defIn oddIn
  congr 1
  rw [List.not_any_eq_all_not]
theorem progMay_t {p : List Df} (h : progMay p = true) : (1 ≤ p.length ∧ p.length ≤ 8) ∧ paramsOf p 0 = 0 ∧ ∀ d ∈ p, defMay d = true ∧ oddIn p d.body = false := by
  unfold progMay at h
  rw [Bool.and_eq_true, List.all_eq_true] at h
  refine ⟨(of_decide_eq_true h.1).1, (of_decide_eq_true h.1).2, fun d hd => ?_⟩
  have := h.2 d hd
  rw [defIn_eq, Bool.and_eq_true] at this
  exact ⟨this.1, by simpa using this.2⟩
theorem GC.w157 (TC : GC t) (T : GA t) (n : Nat) (hn : 60 ≤ n) {h : H} {a : AV} {p : List Df} (hp : PgAt h a p) (hl : p.length ≤ 9223372036854775807) (hl2 : ∀ d ∈ p, d.body.length ≤ 9223372036854775807) :
    Sp (β := β) (fRunS t stdI n (.fn 157 []) [a] h) fun u h' => Ext h h' ∧ u = .bool (progMay p) := by
  intro k R hk
  obtain ⟨m, rfl⟩ : ∃ m, n = m + 1 := ⟨n - 1, by omega⟩
  obtain ⟨v, rfl, hv⟩ := hp
  have hb : ∀ (v : AV) (hh : H) (kk : K β), qBox 0 (.agg [v]) hh (.mk kk) = kk (.ptr hh.n 0) (hh.push (.own 0 [v])) := fun v hh kk => q_fBox_agg 0 _ hh kk
  have lv := hv.len (β := β)
  have e0 : Ext h (h.push (.own 0 [v])) := (Ext.refl h).push _
  have n0 : h.n < (h.push (.own 0 [v])).n := by rw [H.n_push]; omega
  have hbx : (h.push (.own 0 [v])).get h.n = .own 0 [v] := get_push_eq rfl
  by_cases c1 : (p.length : Int) = 0
  · rw [TC.c157]; unfold f157
    simp (disch := first | omega | (simp only [disM] <;> omega) | assumption) only [↓run, ↓runM, run, runM, Nat.reduceAdd, Nat.reduceMul, Int.reduceToNat, ↓f157_J2, ↓f157_J9, ↓f157_J8, ↓f157_L6, ↓f157_J1, ↓hb, lv, eq_true c1]
    exact hk _ _ ⟨e0, by unfold progMay; rw [decide_eq_false (by omega)]; rfl⟩
  by_cases c2 : (8 : Int) < p.length
  · rw [TC.c157]; unfold f157
    simp (disch := first | omega | (simp only [disM] <;> omega) | assumption) only [↓run, ↓runM, run, runM, Nat.reduceAdd, Nat.reduceMul, Int.reduceToNat, ↓f157_J2, ↓f157_J9, ↓f157_J8, ↓f157_L6, ↓f157_J1, ↓hb, lv, eq_false c1, eq_true c2]
    exact hk _ _ ⟨e0, by unfold progMay; rw [decide_eq_false (by omega)]; rfl⟩
  obtain ⟨b, o, us, a1, a2, a3⟩ := defAt (β := β) (hv.ext DfC.stays e0) (Int.le_refl 0) (by omega)
  by_cases c3 : paramsOf p 0 = 0
  case neg =>
    rw [TC.c157]; unfold f157
    simp (disch := first | omega | (simp only [disM] <;> omega) | assumption) only [↓run, ↓runM, run, runM, Nat.reduceAdd, Nat.reduceMul, Int.reduceToNat, ↓f157_J2, ↓f157_J9, ↓f157_J8, ↓f157_L6, ↓f157_J1, ↓hb, lv, eq_false c1, eq_false c2, a1, a2, a3, eq_false c3]
    exact hk _ _ ⟨e0, by unfold progMay; rw [decide_eq_false (by omega)]; rfl⟩
  have hpm : progMay p = p.all (defIn p) := by unfold progMay; rw [decide_eq_true ⟨⟨by omega, by omega⟩, c3⟩]; rfl
  rw [TC.c157]; unfold f157
  simp (disch := first | omega | (simp only [disM] <;> omega) | assumption) only [↓run, ↓runM, run, runM, Nat.reduceAdd, Nat.reduceMul, Int.reduceToNat, ↓f157_J2, ↓f157_J9, ↓f157_J8, ↓f157_L6, ↓f157_J1, ↓hb, lv, eq_false c1, eq_false c2, a1, a2, a3, eq_true c3]
  refine qLoop_wp 10 m _ _ (fun i x0 x1 x2 x3 x4 x5 x6 x7 x8 x9 h' => ∃ j : Nat, x3 = .fn 186 [.ptr h.n 0] ∧ x5 = v ∧ x6 = .int .i64 (p.length : Int) ∧ x7 = .int .i64 (j : Int) ∧ j + i = p.length ∧ Ext (h.push (.own 0 [v])) h' ∧ (p.take j).all (defIn p) = true) p.length (by omega) ?_ _ _ _ _ _ _ _ _ _ _ _
    ⟨0, rfl, rfl, rfl, rfl, by omega, Ext.refl _, rfl⟩
  intro l i ih x0 x1 x2 x3 x4 x5 x6 x7 x8 x9 h' ⟨j, q1, q2, q3, q4, q5, q6, q7⟩
  subst q1 q2 q3 q4
  cases i with
  | zero =>
    have hj : j = p.length := by omega
    subst hj
    rw [List.take_length] at q7
    simp (disch := first | omega | (simp only [disM] <;> omega) | assumption) only [↓run, ↓runM, run, runM, Nat.reduceAdd, Nat.reduceMul, Int.reduceToNat, ↓f157_J2, ↓f157_J9, ↓f157_J8, ↓f157_L6, ↓f157_J1]
    exact hk _ _ ⟨e0.trans q6, by rw [hpm, q7]⟩
  | succ i =>
    have hj : j < p.length := by omega
    obtain ⟨d, hd⟩ : ∃ d, p[j]? = some d := ⟨_, List.getElem?_eq_getElem hj⟩
    have hdm : d ∈ p := List.mem_of_getElem? hd
    have hvx := hv.ext DfC.stays e0
    obtain ⟨b', o', cs, s1, s2, w, rfl, s3⟩ := hvx.at (β := β) hd
    obtain ⟨us', b1, b2, b3, b4⟩ := (s2.ext q6).get
    have htk : p.take (j + 1) = p.take j ++ [d] := by rw [List.take_add_one, hd]; rfl
    have hall : (p.take (j + 1)).all (defIn p) = defIn p d := by rw [htk, List.all_append, q7]; simp
    have hff : defIn p d = false → progMay p = false := fun hf => by
      rw [hpm]
      refine Bool.eq_false_iff.2 fun hh => ?_
      rw [List.all_eq_true] at hh
      rw [hh d hdm] at hf; cases hf
    have e1 : Ext h' ((h'.push (.own 0 [.int .i64 0, .nils])).set h'.n (.own 0 [.int .i64 d.params, w])) := ((Ext.refl h').push _).set (Nat.le_refl _) _
    have ws := s3.sc
    simp (disch := first | omega | (simp only [disM] <;> omega) | assumption) only [↓run, ↓runM, run, runM, Nat.reduceAdd, Nat.reduceMul, Int.reduceToNat, ↓f157_J2, ↓f157_J9, ↓f157_J8, ↓f157_L6, ↓f157_J1, s1, b1, b2, b3]
    refine TC.w187 T m (by omega) (d := d) (s3.ext ExC.stays (q6.trans e1)) (hl2 d hdm) _ _ ?_
    intro u h2 ⟨e2, e3⟩
    subst e3
    cases c : defMay d with
    | false =>
      simp (disch := first | omega | (simp only [disM] <;> omega) | assumption) only [↓run, ↓runM, run, runM, Nat.reduceAdd, Nat.reduceMul, Int.reduceToNat, ↓f157_J2, ↓f157_J9, ↓f157_J8, ↓f157_L6, ↓f157_J1]
      exact hk _ _ ⟨(e0.trans q6).trans (e1.trans e2), by rw [hff (by rw [defIn_eq, c]; rfl)]⟩
    | true =>
      have hcell : (h2.get h'.n).cells = some [.int .i64 d.params, w] := by rw [e2.get _ (by rw [H.n_set, H.n_push]; omega), get_set_eq rfl]; rfl
      simp (disch := first | omega | (simp only [disM] <;> omega) | assumption) only [↓run, ↓runM, run, runM, Nat.reduceAdd, Nat.reduceMul, Int.reduceToNat, ↓f157_J2, ↓f157_J9, ↓f157_J8, ↓f157_L6, ↓f157_J1, hcell]
      have ee := q6.trans (e1.trans e2)
      refine TC.w188 m (pb := h.n) (p := p) (body := d.body) (by have := ee.n; omega) (by rw [ee.get _ n0, hbx]; rfl) (hvx.ext DfC.stays ee) (s3.ext ExC.stays ee) (by have := defMay_len c; omega) (hl2 d hdm) (fun e he h2 => by obtain ⟨l, hl⟩ := defMay_part c he; exact (hl.call h2).1) _ _ ?_
      intro u h3 ⟨e4, e5⟩
      subst e5
      cases c4 : oddIn p d.body with
      | true =>
        simp (disch := first | omega | (simp only [disM] <;> omega) | assumption) only [↓run, ↓runM, run, runM, Nat.reduceAdd, Nat.reduceMul, Int.reduceToNat, ↓f157_J2, ↓f157_J9, ↓f157_J8, ↓f157_L6, ↓f157_J1]
        exact hk _ _ ⟨(e0.trans ee).trans e4, by rw [hff (by rw [defIn_eq, c4, c]; rfl)]⟩
      | false =>
        simp (disch := first | omega | (simp only [disM] <;> omega) | assumption) only [↓run, ↓runM, run, runM, Nat.reduceAdd, Nat.reduceMul, Int.reduceToNat, ↓f157_J2, ↓f157_J9, ↓f157_J8, ↓f157_L6, ↓f157_J1]
        exact ih i (by omega) _ _ _ _ _ _ _ _ _ _ _ ⟨j + 1, rfl, rfl, rfl, rfl, by omega, ee.trans e4, by rw [hall, defIn_eq, c, c4]; rfl⟩
end
end Am.F
