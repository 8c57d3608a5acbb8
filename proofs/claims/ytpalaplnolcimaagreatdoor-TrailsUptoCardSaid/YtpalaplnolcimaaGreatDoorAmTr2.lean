/- Walks: the reference's TrailMay, Fits. -/
import Derived.Test.YtpalaplnolcimaaGreatDoorAmTr
set_option linter.unusedSimpArgs false
set_option linter.unusedVariables false
namespace Am.F
open Go Am
section
variable {β : Type} {t : ETree}
theorem GT12.w301 (TS : GT12 t) (TB : GB t) (T : GA t) (n : Nat) {h : H} {w : AV} {x : Nd} (hw : SlAt h w (strs x.args)) (hf : NdFit x) (hn : x.args.length + 2200 ≤ n) (h63 : x.args.length < 9223372036854775807) (i : Nat) :
    Sp (β := β) (fRunS t stdI n (.fn 301 []) [.agg (ndCells x w), .int .i64 (i : Int)] h) fun u h' => Ext h h' ∧ u = .bool (isB (NextP x i)) := by
  intro k R hk
  obtain ⟨m, rfl⟩ : ∃ m, n = m + 2 := ⟨n - 2, by omega⟩
  have hx : ∀ (hh : H) (kk : K β), qBox 0 (.agg (ndCells x w)) hh (.mk kk) = kk (.ptr hh.n 0) (hh.push (.own 0 (ndCells x w))) := fun hh kk => q_fBox_agg 0 _ hh kk
  have e0 : Ext h (h.push (.own 0 (ndCells x w))) := (Ext.refl h).push _
  have h297 := fun (x y z : Int) (hh : H) (kk : K β) => TB.w297 m x y z hh kk
  by_cases c1 : (i : Int) < 512
  case neg =>
    rw [TS.c301]; unfold f301_sleuthref12_stands
    simp (disch := first | omega | (simp only [disM] <;> omega) | assumption) only [↓run, ↓runM, run, runM, Nat.reduceAdd, Nat.reduceMul, Int.reduceToNat, ↓hx, eq_false c1]
    exact hk _ _ ⟨e0, by rw [isB_f fun hh => c1 (by have := hh.1; omega)]⟩
  have hcell : ((h.push (.own 0 (ndCells x w))).get h.n).cells = some (ndCells x w) := by rw [get_push_eq rfl]; rfl
  have hlen : (ndCells x w).length = 4 := rfl
  have htk : ((ndCells x w).drop 0).take 4 = ndCells x w := rfl
  rw [TS.c301]; unfold f301_sleuthref12_stands
  simp (disch := first | omega | (simp only [disM] <;> omega) | assumption) only [↓run, ↓runM, run, runM, Nat.reduceAdd, Nat.reduceMul, Int.reduceToNat, ↓hx, eq_true c1, hcell, hlen]
  refine TB.w296 T (m + 1) (x := x) ⟨w, rfl, hw.ext e0⟩ hf.1 hf.2.1 h63 (by omega) _ _ ?_
  intro u h1 ⟨e1, e2⟩
  subst e2
  have hc1 : (h1.get h.n).cells = some (ndCells x w) := by rw [e1.get _ (by rw [H.n_push]; omega)]; exact hcell
  unfold ndCells at hc1
  cases c2 : eqMay x with
  | false =>
    simp (disch := first | omega | (simp only [disM] <;> omega) | assumption) only [↓run, ↓runM, run, runM, Nat.reduceAdd, Nat.reduceMul, Int.reduceToNat]
    exact hk _ _ ⟨e0.trans e1, by rw [isB_f fun hh => by have := hh.2.1; rw [c2] at this; cases this]⟩
  | true =>
    by_cases k1 : (i : Int) = 0
    · by_cases k2 : x.parent = -1
      · simp (disch := first | omega | (simp only [disM] <;> omega) | assumption) only [↓run, ↓runM, run, runM, Nat.reduceAdd, Nat.reduceMul, Int.reduceToNat, hc1, eq_true k1, eq_true k2]
        exact hk _ _ ⟨e0.trans e1, by rw [isB_t ⟨by omega, c2, .inr ⟨by omega, k2⟩⟩]⟩
      · simp (disch := first | omega | (simp only [disM] <;> omega) | assumption) only [↓run, ↓runM, run, runM, Nat.reduceAdd, Nat.reduceMul, Int.reduceToNat, hc1, eq_true k1, eq_false k2, eq_false (show ¬ (0 : Int) < (i : Int) by omega)]
        exact hk _ _ ⟨e0.trans e1, by rw [isB_f fun hh => by have := hh.2.2; omega]⟩
    · simp (disch := first | omega | (simp only [disM] <;> omega) | assumption) only [↓run, ↓runM, run, runM, Nat.reduceAdd, Nat.reduceMul, Int.reduceToNat, hc1, eq_false k1, eq_true (show (0 : Int) < (i : Int) by omega), h297]
      refine hk _ _ ⟨e0.trans e1, congrArg AV.bool (isB_iff ?_).symm⟩
      rw [decide_eq_true_iff]
      constructor
      · intro hh; exact ⟨by omega, c2, .inl ⟨by omega, by omega⟩⟩
      · intro hh; have := hh.2.2; omega
theorem GT12.w299 (TS : GT12 t) (TB : GB t) (T : GA t) (n M : Nat) {h : H} {v : AV} {ns : List Nd} (hn : ns.length + M + 2300 ≤ n) (hv : LAt 4 NdC h v ns) (hf : ∀ x ∈ ns, NdFit x) (hM : ∀ x ∈ ns, x.args.length ≤ M) (hM2 : M < 9223372036854775807) (hl : ns.length ≤ 9223372036854775807) :
    Sp (β := β) (fRunS t stdI n (.fn 299 []) [v] h) fun u h' => Ext h h' ∧ u = .bool (isB (TrailP ns)) := by
  intro k R hk
  obtain ⟨m, rfl⟩ : ∃ m, n = m + 1 := ⟨n - 1, by omega⟩
  have lv := hv.len (β := β)
  rw [TS.c299]; unfold f299_sleuthref12_TrailMay
  simp (disch := first | omega | (simp only [disM] <;> omega) | assumption) only [↓run, ↓runM, run, runM, Nat.reduceAdd, Nat.reduceMul, Int.reduceToNat, ↓f299_J0, ↓f299_J5, ↓f299_J4, ↓f299_L3, lv]
  refine qLoop_wp 3 m _ _ (fun i x0 x1 x2 h' => ∃ j : Nat, x0 = v ∧ x2 = .int .i64 (j : Int) ∧ j + i = ns.length ∧ Ext h h' ∧ ∀ q x, q < j → ns[q]? = some x → NextP x q) ns.length (by omega) ?_ _ _ _ _
    ⟨0, rfl, rfl, by omega, Ext.refl _, fun q x hq => absurd hq (by omega)⟩
  intro l i ih x0 x1 x2 h' ⟨j, q1, q3, q5, q6, q7⟩
  subst q1 q3
  cases i with
  | zero =>
    have hj : j = ns.length := by omega
    subst hj
    simp (disch := first | omega | (simp only [disM] <;> omega) | assumption) only [↓run, ↓runM, run, runM, Nat.reduceAdd, Nat.reduceMul, Int.reduceToNat, ↓f299_J0, ↓f299_J5, ↓f299_J4, ↓f299_L3, lv]
    refine hk _ _ ⟨q6, congrArg AV.bool ?_⟩
    refine (isB_iff ?_).symm
    rw [decide_eq_true_iff]
    constructor
    · intro h0
      exact ⟨fun hn => by rw [hn] at h0; simp at h0, fun q x hq => q7 q x (List.getElem?_eq_some_iff.1 hq).1 hq⟩
    · intro hp
      have : ns.length ≠ 0 := fun hn => hp.1 (List.eq_nil_of_length_eq_zero hn)
      omega
  | succ i =>
    have hj : j < ns.length := by omega
    obtain ⟨x, hx⟩ : ∃ x, ns[j]? = some x := ⟨_, List.getElem?_eq_getElem hj⟩
    have hmem := List.mem_of_getElem? hx
    obtain ⟨b, o, cs, a1, a2, w, rfl, a3⟩ := hv.at (β := β) hx
    obtain ⟨us, b1, b2, b3, b4⟩ := (a2.ext q6).get
    simp (disch := first | omega | (simp only [disM] <;> omega) | assumption) only [↓run, ↓runM, run, runM, Nat.reduceAdd, Nat.reduceMul, Int.reduceToNat, ↓f299_J0, ↓f299_J5, ↓f299_J4, ↓f299_L3, lv, a1, b1, b2, b3]
    refine TS.w301 TB T m (a3.ext q6) (hf x hmem) (by have := hM x hmem; omega) (by have := hM x hmem; omega) j _ _ ?_
    intro u h2 ⟨e1, e2⟩
    subst e2
    by_cases c : NextP x j
    · rw [isB_t c]
      simp (disch := first | omega | (simp only [disM] <;> omega) | assumption) only [↓run, ↓runM, run, runM, Nat.reduceAdd, Nat.reduceMul, Int.reduceToNat, ↓f299_J0, ↓f299_J5, ↓f299_J4, ↓f299_L3]
      refine ih i (by omega) _ _ _ _ ⟨j + 1, rfl, rfl, by omega, q6.trans e1, fun q y hq hy => ?_⟩
      by_cases hqj : q = j
      · subst hqj; rw [hx] at hy; cases hy; exact c
      · exact q7 q y (by omega) hy
    · rw [isB_f c]
      simp (disch := first | omega | (simp only [disM] <;> omega) | assumption) only [↓run, ↓runM, run, runM, Nat.reduceAdd, Nat.reduceMul, Int.reduceToNat, ↓f299_J0, ↓f299_J5, ↓f299_J4, ↓f299_L3]
      exact hk _ _ ⟨q6.trans e1, by rw [isB_f fun hp => c (hp.2 j x hx)]⟩
theorem GT12.w300 (TS : GT12 t) (TC : GC t) (TB : GB t) (T : GA t) (n M : Nat) {h : H} {a v : AV} {p : List Df} {ns : List Nd} (hn : ns.length + M + 2400 ≤ n) (hp : PgAt h a p) (hv : LAt 4 NdC h v ns) (hf : ∀ x ∈ ns, NdFit x) (hM : ∀ x ∈ ns, x.args.length ≤ M) (hM2 : M < 9223372036854775807) (hl : ns.length ≤ 9223372036854775807)
    (hl1 : p.length ≤ 9223372036854775807) (hl2 : ∀ d ∈ p, d.body.length ≤ 9223372036854775807) :
    Sp (β := β) (fRunS t stdI n (.fn 300 []) [a, v] h) fun u h' => Ext h h' ∧ u = .bool (isB (FitsP p ns)) := by
  intro k R hk
  obtain ⟨m, rfl⟩ : ∃ m, n = m + 1 := ⟨n - 1, by omega⟩
  obtain ⟨pv, rfl, hpv⟩ := hp
  have hb : ∀ (v : AV) (hh : H) (kk : K β), qBox 0 (.agg [v]) hh (.mk kk) = kk (.ptr hh.n 0) (hh.push (.own 0 [v])) := fun v hh kk => q_fBox_agg 0 _ hh kk
  have e0 : Ext h (h.push (.own 0 [pv])) := (Ext.refl h).push _
  have n0 : h.n < (h.push (.own 0 [pv])).n := by rw [H.n_push]; omega
  have hbx : (h.push (.own 0 [pv])).get h.n = .own 0 [pv] := get_push_eq rfl
  have lv := hv.len (β := β)
  have lp := hpv.len (β := β)
  rw [TS.c300]; unfold f300_sleuthref12_Fits
  simp (disch := first | omega | (simp only [disM] <;> omega) | assumption) only [↓run, ↓runM, run, runM, Nat.reduceAdd, Nat.reduceMul, Int.reduceToNat, ↓f300_J2, ↓f300_J5, ↓f300_J4, ↓f300_L3, ↓f300_J1, ↓hb]
  refine TC.w149 T m (by omega) ⟨pv, rfl, hpv.ext DfC.stays e0⟩ hl1 hl2 _ _ ?_
  intro u h1 ⟨e1, e2⟩
  subst e2
  cases c1 : progMay p with
  | false =>
    simp (disch := first | omega | (simp only [disM] <;> omega) | assumption) only [↓run, ↓runM, run, runM, Nat.reduceAdd, Nat.reduceMul, Int.reduceToNat, ↓f300_J2, ↓f300_J5, ↓f300_J4, ↓f300_L3, ↓f300_J1]
    exact hk _ _ ⟨e0.trans e1, by rw [isB_f fun hp => by have := hp.1; rw [c1] at this; cases this]⟩
  | true =>
    simp (disch := first | omega | (simp only [disM] <;> omega) | assumption) only [↓run, ↓runM, run, runM, Nat.reduceAdd, Nat.reduceMul, Int.reduceToNat, ↓f300_J2, ↓f300_J5, ↓f300_J4, ↓f300_L3, ↓f300_J1]
    refine TS.w299 TB T m M (by omega) (hv.ext NdC.stays (e0.trans e1)) hf hM hM2 hl _ _ ?_
    intro u h2 ⟨e3, e4⟩
    subst e4
    by_cases c2 : TrailP ns
    case neg =>
      rw [isB_f c2]
      simp (disch := first | omega | (simp only [disM] <;> omega) | assumption) only [↓run, ↓runM, run, runM, Nat.reduceAdd, Nat.reduceMul, Int.reduceToNat, ↓f300_J2, ↓f300_J5, ↓f300_J4, ↓f300_L3, ↓f300_J1]
      exact hk _ _ ⟨(e0.trans e1).trans e3, by rw [isB_f fun hp => c2 hp.2.1]⟩
    rw [isB_t c2]
    obtain ⟨x, hx⟩ : ∃ x, ns[0]? = some x := by
      cases hns : ns with
      | nil => exact absurd hns c2.1
      | cons x r => exact ⟨x, rfl⟩
    have ee := e0.trans (e1.trans e3)
    have e13 := e1.trans e3
    obtain ⟨b, o, cs, a1, a2, w, rfl, a3⟩ := (hv.ext NdC.stays ee).at (β := β) hx
    obtain ⟨us, b1, b2, b3, b4⟩ := a2.get
    have g0 := b4 0 _ rfl
    rw [Nat.add_zero] at g0
    have a1' : ∀ kk : VK β, qIadr 4 v (.int .i64 0) (.mk kk) = kk (.ptr b o) := a1
    by_cases c3 : x.fn = 0
    case neg =>
      simp (disch := first | omega | (simp only [disM] <;> omega) | assumption) only [↓run, ↓runM, run, runM, Nat.reduceAdd, Nat.reduceMul, Int.reduceToNat, ↓f300_J2, ↓f300_J5, ↓f300_J4, ↓f300_L3, ↓f300_J1, a1', b1, g0, eq_false c3]
      exact hk _ _ ⟨ee, by rw [isB_f fun hp => c3 (hp.2.2.1 x hx)]⟩
    have hfn : ∀ (q : Nat) (y : Nd), ns[q]? = some y → 0 ≤ y.fn := fun q y hy => (eqMay_fn (c2.2 q y hy).2.1).1.1
    simp (disch := first | omega | (simp only [disM] <;> omega) | assumption) only [↓run, ↓runM, run, runM, Nat.reduceAdd, Nat.reduceMul, Int.reduceToNat, ↓f300_J2, ↓f300_J5, ↓f300_J4, ↓f300_L3, ↓f300_J1, a1', b1, g0, eq_true c3]
    clear a1 a1' b1 b2 b3 b4 g0 a2 a3
    refine qLoop_wp 6 m _ _ (fun i x0 x1 x2 x3 x4 x5 h' => ∃ j : Nat, x1 = v ∧ x2 = .ptr h.n 0 ∧ x4 = .int .i64 (j : Int) ∧ j + i = ns.length ∧ h' = h2 ∧ ∀ q x, q < j → ns[q]? = some x → (x.fn < p.length ∧ (x.args.length : Int) = paramsOf p x.fn)) ns.length (by omega) ?_ _ _ _ _ _ _ _
      ⟨0, rfl, rfl, rfl, by omega, rfl, fun q x hq => absurd hq (by omega)⟩
    intro l i ih x0 x1 x2 x3 x4 x5 h' ⟨j, q1, q2, q3, q5, q6, q7⟩
    subst q1 q2 q3 q6
    have hc : (h'.get h.n).cells = some [pv] := by rw [e13.get _ n0, hbx]; rfl
    cases i with
    | zero =>
      have hj : j = ns.length := by omega
      subst hj
      simp (disch := first | omega | (simp only [disM] <;> omega) | assumption) only [↓run, ↓runM, run, runM, Nat.reduceAdd, Nat.reduceMul, Int.reduceToNat, ↓f300_J2, ↓f300_J5, ↓f300_J4, ↓f300_L3, ↓f300_J1, lv]
      refine hk _ _ ⟨ee, congrArg AV.bool (isB_t ⟨c1, c2, fun y hy => by rw [hx] at hy; cases hy; exact c3, fun y hy => ?_⟩).symm⟩
      obtain ⟨q, hq, hqx⟩ := List.getElem_of_mem hy
      exact q7 q y hq (by rw [List.getElem?_eq_getElem hq, hqx])
    | succ i =>
      have hj : j < ns.length := by omega
      obtain ⟨y, hy⟩ : ∃ y, ns[j]? = some y := ⟨_, List.getElem?_eq_getElem hj⟩
      obtain ⟨b, o, cs, a1, a2, w, rfl, a3⟩ := (hv.ext NdC.stays ee).at (β := β) hy
      obtain ⟨us, b1, b2, b3, b4⟩ := a2.get
      have g0 := b4 0 _ rfl
      have g2 := b4 2 _ rfl
      rw [Nat.add_zero] at g0
      have lw : ∀ kc : VK β, qLenL w (.mk kc) = kc (.int .i64 (y.args.length : Int)) := fun kc => by rw [a3.len, strs_len]
      by_cases k1 : (p.length : Int) ≤ y.fn
      · simp (disch := first | omega | (simp only [disM] <;> omega) | assumption) only [↓run, ↓runM, run, runM, Nat.reduceAdd, Nat.reduceMul, Int.reduceToNat, ↓f300_J2, ↓f300_J5, ↓f300_J4, ↓f300_L3, ↓f300_J1, lv, a1, b1, g0, hc, lp, eq_true k1]
        exact hk _ _ ⟨ee, congrArg AV.bool (isB_f fun hp => by have := (hp.2.2.2 y (List.mem_of_getElem? hy)).1; omega).symm⟩
      obtain ⟨bd, od, ud, d1, d2, d3⟩ := defAt (β := β) (hpv.ext DfC.stays ee) (hfn j y hy) (by omega)
      by_cases k2 : (y.args.length : Int) = paramsOf p y.fn
      · simp (disch := first | omega | (simp only [disM] <;> omega) | assumption) only [↓run, ↓runM, run, runM, Nat.reduceAdd, Nat.reduceMul, Int.reduceToNat, ↓f300_J2, ↓f300_J5, ↓f300_J4, ↓f300_L3, ↓f300_J1, lv, a1, b1, g0, g2, hc, lp, eq_false k1, lw, d1, d2, d3, eq_true k2]
        refine ih i (by omega) _ _ _ _ _ _ _ ⟨j + 1, rfl, rfl, rfl, by omega, rfl, fun q z hq hz => ?_⟩
        by_cases hqj : q = j
        · subst hqj; rw [hy] at hz; cases hz; exact ⟨by omega, k2⟩
        · exact q7 q z (by omega) hz
      · simp (disch := first | omega | (simp only [disM] <;> omega) | assumption) only [↓run, ↓runM, run, runM, Nat.reduceAdd, Nat.reduceMul, Int.reduceToNat, ↓f300_J2, ↓f300_J5, ↓f300_J4, ↓f300_L3, ↓f300_J1, lv, a1, b1, g0, g2, hc, lp, eq_false k1, lw, d1, d2, d3, eq_false k2]
        exact hk _ _ ⟨ee, congrArg AV.bool (isB_f fun hp => k2 (hp.2.2.2 y (List.mem_of_getElem? hy)).2).symm⟩
end
end Am.F
