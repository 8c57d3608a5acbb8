/- Walks: what a trail may be; whether it is one of a program. Both sides. -/
import Derived.Test.YtpalaplnolcimaaDoorAmPg7
import Derived.Test.YtpalaplnolcimaaDoorAmGT12W
set_option linter.unusedSimpArgs false
set_option linter.unusedVariables false
namespace Am.F
open Go Am
def NdC (h : H) (cs : List AV) (x : Nd) : Prop := ∃ w, cs = ndCells x w ∧ SlAt h w (strs x.args)
theorem NdC.stays : Stays NdC := fun _ _ _ _ ⟨w, h1, h2⟩ e => ⟨w, h1, h2.ext e⟩
theorem NdsAt.lat {h : H} {v : AV} {xs : List Nd} (hs : NdsAt h v xs) : LAt 4 NdC h v xs := by
  exact hs
theorem LAt.nds {h : H} {v : AV} {xs : List Nd} (hs : LAt 4 NdC h v xs) : NdsAt h v xs := hs
def SlG (a : AV) (n : Nat) : Prop := a = .nils ∨ ∃ b o m, a = .sl b o n m none ∧ n ≤ m
theorem LAt.upTo {β α : Type} {es : Nat} {C : H → List AV → α → Prop} {h : H} {v : AV} {xs : List α} (hs : LAt es C h v xs) (hg : SlG v xs.length) {i : Int} (h0 : 0 ≤ i) (h1 : i ≤ xs.length) (hne : xs ≠ []) :
    ∃ v', (∀ kk : VK β, qSlL es false true false v [.int .i64 i] (.mk kk) = kk v') ∧ LAt es C h v' (xs.take i.toNat) := by
  rcases hs with ⟨_, h2⟩ | ⟨b, o, m, g, us, rfl, h2, h3, h4, h5⟩
  · exact absurd h2 hne
  · have hgm : g = none ∧ xs.length ≤ m := by
      rcases hg with hg | ⟨b', o', m', hg, hm⟩
      · cases hg
      · cases hg; exact ⟨rfl, hm⟩
    obtain ⟨rfl, hm⟩ := hgm
    obtain ⟨j, rfl⟩ := Int.eq_ofNat_of_zero_le h0
    refine ⟨_, fun kk => pSlL_hi (.inl rfl) h0 (by omega) kk, ?_⟩
    have hl : (xs.take j).length = j := by rw [List.length_take]; omega
    refine .inr ⟨b, o, m, none, us, by rw [Int.toNat_natCast, hl], h2, h3, ?_, fun q x hq => h5 q x ?_⟩
    · rw [Int.toNat_natCast, hl]
      have : j * es ≤ xs.length * es := Nat.mul_le_mul_right _ (by omega)
      omega
    · rw [Int.toNat_natCast, List.getElem?_take] at hq
      split at hq
      · exact hq
      · cases hq
def DfFit (M : Nat) (d : Df) : Prop := d.body.length ≤ M ∧ ∀ e ∈ d.body, e.kids.length ≤ M
def NdFit (x : Nd) : Prop := (∀ y ∈ x.args, y.length ≤ 9223372036854775807) ∧ x.res.length ≤ 9223372036854775807 ∧ x.args.length ≤ 9223372036854775807
def NextP (x : Nd) (i : Nat) : Prop := i < 512 ∧ eqMay x = true ∧ (0 ≤ x.parent ∧ x.parent < (i : Int) ∨ i = 0 ∧ x.parent = -1)
def TrailP (ns : List Nd) : Prop := ns ≠ [] ∧ ∀ (q : Nat) (x : Nd), ns[q]? = some x → NextP x q
def FitsP (p : List Df) (ns : List Nd) : Prop := progMay p = true ∧ TrailP ns ∧ (∀ x, ns[0]? = some x → x.fn = 0) ∧ ∀ x ∈ ns, x.fn < p.length ∧ (x.args.length : Int) = paramsOf p x.fn
open Classical in
noncomputable def isB (p : Prop) : Bool := decide p
theorem isB_t {p : Prop} (h : p) : isB p = true := @decide_eq_true p (Classical.propDecidable p) h
theorem isB_f {p : Prop} (h : ¬ p) : isB p = false := @decide_eq_false p (Classical.propDecidable p) h
theorem isB_iff {p : Prop} {b : Bool} (h : b = true ↔ p) : isB p = b := by
  cases b with
  | true => exact isB_t (h.1 rfl)
  | false => exact isB_f fun hp => absurd (h.2 hp) (by simp)
theorem isB_true {p : Prop} : isB p = true ↔ p := @decide_eq_true_iff p (Classical.propDecidable p)
theorem TrailP.take {ns : List Nd} (h : TrailP ns) {k : Nat} (hk : 0 < k) (hk2 : k ≤ ns.length) : TrailP (ns.take k) := by
  refine ⟨fun hn => ?_, fun q x hq => h.2 q x ?_⟩
  · have := congrArg List.length hn
    rw [List.length_take, List.length_nil] at this; omega
  · rw [List.getElem?_take] at hq
    split at hq
    · exact hq
    · cases hq
theorem eqMay_fn {x : Nd} (h : eqMay x = true) : (0 ≤ x.fn ∧ x.fn < 8) ∧ x.args.length ≤ 3 := by
  unfold eqMay at h
  rw [Bool.and_eq_true, Bool.and_eq_true] at h
  exact of_decide_eq_true h.1.1
section
variable {β : Type} {t : ETree}
theorem GB.w269p (TB : GB t) (T : GA t) (L : GI t) (n : Nat) (hn : 1060 ≤ n) {h : H} {b o : Nat} {w : AV} {x : Nd} (hx : InAt 4 h b o (ndCells x w)) (hw : SlAt h w (strs x.args)) (hl : x.args.length ≤ 9223372036854775807) :
    Sp (β := β) (fRunS t stdI n (.fn 269 []) [.ptr b o] h) fun u h' => Ext h h' ∧ u = .bool (eqMay x) := by
  intro k R hk
  obtain ⟨m, rfl⟩ : ∃ m, n = m + 1 := ⟨n - 1, by omega⟩
  obtain ⟨us, b1, b2, b3, b4⟩ := hx.get
  have g0 := b4 0 _ rfl
  have g2 := b4 2 _ rfl
  rw [Nat.add_zero] at g0
  have hlen := hw.len (β := β)
  by_cases c1 : 0 ≤ x.fn
  case neg =>
    rw [TB.c269]; unfold f269
    simp (disch := first | omega | (simp only [disM] <;> omega) | assumption) only [↓run, ↓runM, run, runM, Nat.reduceAdd, Nat.reduceMul, Int.reduceToNat, nil_p, b1, g0, hlen]
    exact hk _ _ ⟨Ext.refl h, by unfold eqMay; rw [decide_eq_false (by omega)]; rfl⟩
  by_cases c2 : x.fn < 8
  case neg =>
    rw [TB.c269]; unfold f269
    simp (disch := first | omega | (simp only [disM] <;> omega) | assumption) only [↓run, ↓runM, run, runM, Nat.reduceAdd, Nat.reduceMul, Int.reduceToNat, nil_p, b1, g0, hlen]
    exact hk _ _ ⟨Ext.refl h, by unfold eqMay; rw [decide_eq_false (by omega)]; rfl⟩
  by_cases c3 : x.args.length ≤ 3
  case neg =>
    rw [TB.c269]; unfold f269
    simp (disch := first | omega | (simp only [disM] <;> omega) | assumption) only [↓run, ↓runM, run, runM, Nat.reduceAdd, Nat.reduceMul, Int.reduceToNat, nil_p, b1, g0, g2, hlen]
    exact hk _ _ ⟨Ext.refl h, by unfold eqMay; rw [decide_eq_false (by omega)]; rfl⟩
  rw [TB.c269]; unfold f269
  simp (disch := first | omega | (simp only [disM] <;> omega) | assumption) only [↓run, ↓runM, run, runM, Nat.reduceAdd, Nat.reduceMul, Int.reduceToNat, nil_p, b1, g0, g2, hlen]
  refine T.w26 L m x.args w h hw (by omega) (by omega) _ _ ?_
  intro u h1 ⟨e1, e2⟩
  subst e2
  cases c4 : x.args.all mayP with
  | false =>
    simp (disch := first | omega | (simp only [disM] <;> omega) | assumption) only [↓run, ↓runM, run, runM, Nat.reduceAdd, Nat.reduceMul, Int.reduceToNat]
    exact hk _ _ ⟨e1, by unfold eqMay; rw [c4]; simp⟩
  | true =>
    have b1' : (h1.get b).cells = some us := by rw [e1.get _ hx.1]; exact b1
    have g3 := b4 3 _ rfl
    simp (disch := first | omega | (simp only [disM] <;> omega) | assumption) only [↓run, ↓runM, run, runM, Nat.reduceAdd, Nat.reduceMul, Int.reduceToNat, nil_p, b1', g3]
    refine T.w17 L m (by omega) _ _ _ _ ?_
    intro u h2 ⟨e3, e4⟩
    subst e4
    exact hk _ _ ⟨e1.trans e3, by unfold eqMay; rw [c4, decide_eq_true ⟨⟨c1, c2⟩, c3⟩]; rfl⟩
theorem GC.w270 (TC : GC t) (TB : GB t) (T : GA t) (L : GI t) (n : Nat) (hn : 1100 ≤ n) {h : H} {b o : Nat} {w : AV} {x : Nd} (hx : InAt 4 h b o (ndCells x w)) (hw : SlAt h w (strs x.args)) (hf : NdFit x) (i : Nat) :
    Sp (β := β) (fRunS t stdI n (.fn 270 []) [.ptr b o, .int .i64 (i : Int)] h) fun u h' => Ext h h' ∧ u = .bool (isB (NextP x i)) := by
  intro k R hk
  obtain ⟨m, rfl⟩ : ∃ m, n = m + 1 := ⟨n - 1, by omega⟩
  obtain ⟨us, b1, b2, b3, b4⟩ := hx.get
  have b5 := b4 1 _ rfl
  have e269 : eqMay x = true ∨ eqMay x = false := by cases eqMay x <;> simp
  by_cases c1 : 0 ≤ x.parent ∧ x.parent < (i : Int) ∨ i = 0 ∧ x.parent = -1
  case neg =>
    have hz : isB (NextP x i) = false := isB_f fun hh => c1 hh.2.2
    rw [TC.c270]; unfold f270
    by_cases k1 : 0 ≤ x.parent <;> by_cases k2 : (i : Int) = 0 <;> by_cases k3 : (i : Int) < 512
    · simp (disch := first | omega | (simp only [disM] <;> omega) | assumption) only [↓run, ↓runM, run, runM, Nat.reduceAdd, Nat.reduceMul, Int.reduceToNat, nil_p, b1, b5, eq_true k1, eq_false (show ¬ x.parent < (i : Int) by omega), eq_true k2, eq_false (show ¬ x.parent = -1 by omega), eq_true k3]
      exact hk _ _ ⟨Ext.refl h, by rw [hz]⟩
    · omega
    · simp (disch := first | omega | (simp only [disM] <;> omega) | assumption) only [↓run, ↓runM, run, runM, Nat.reduceAdd, Nat.reduceMul, Int.reduceToNat, nil_p, b1, b5, eq_true k1, eq_false (show ¬ x.parent < (i : Int) by omega), eq_false k2, eq_true k3]
      exact hk _ _ ⟨Ext.refl h, by rw [hz]⟩
    · simp (disch := first | omega | (simp only [disM] <;> omega) | assumption) only [↓run, ↓runM, run, runM, Nat.reduceAdd, Nat.reduceMul, Int.reduceToNat, nil_p, b1, b5, eq_true k1, eq_false (show ¬ x.parent < (i : Int) by omega), eq_false k2, eq_false k3]
      exact hk _ _ ⟨Ext.refl h, by rw [hz]⟩
    · simp (disch := first | omega | (simp only [disM] <;> omega) | assumption) only [↓run, ↓runM, run, runM, Nat.reduceAdd, Nat.reduceMul, Int.reduceToNat, nil_p, b1, b5, eq_false k1, eq_true k2, eq_false (show ¬ x.parent = -1 by omega), eq_true k3]
      exact hk _ _ ⟨Ext.refl h, by rw [hz]⟩
    · omega
    · simp (disch := first | omega | (simp only [disM] <;> omega) | assumption) only [↓run, ↓runM, run, runM, Nat.reduceAdd, Nat.reduceMul, Int.reduceToNat, nil_p, b1, b5, eq_false k1, eq_false k2, eq_true k3]
      exact hk _ _ ⟨Ext.refl h, by rw [hz]⟩
    · simp (disch := first | omega | (simp only [disM] <;> omega) | assumption) only [↓run, ↓runM, run, runM, Nat.reduceAdd, Nat.reduceMul, Int.reduceToNat, nil_p, b1, b5, eq_false k1, eq_false k2, eq_false k3]
      exact hk _ _ ⟨Ext.refl h, by rw [hz]⟩
  by_cases k3 : (i : Int) < 512
  case neg =>
    have hz : isB (NextP x i) = false := isB_f fun hh => k3 (by have := hh.1; omega)
    rw [TC.c270]; unfold f270
    rcases c1 with ⟨q1, q2⟩ | ⟨q1, q2⟩
    · simp (disch := first | omega | (simp only [disM] <;> omega) | assumption) only [↓run, ↓runM, run, runM, Nat.reduceAdd, Nat.reduceMul, Int.reduceToNat, nil_p, b1, b5, eq_true q1, eq_true q2, eq_false k3]
      exact hk _ _ ⟨Ext.refl h, by rw [hz]⟩
    · omega
  have hz : isB (NextP x i) = eqMay x := by
    rcases e269 with e | e
    · rw [e]; exact isB_t ⟨by omega, e, c1⟩
    · rw [e]; exact isB_f fun hh => by have := hh.2.1; rw [e] at this; cases this
  have fin : Sp (β := β) (fRunS t stdI m (.fn 269 []) [.ptr b o] h) fun u h' => Ext h h' ∧ u = .bool (eqMay x) := by
    have := TB.w269p T L m (by omega) hx hw (by have := hf.2.2; omega) (β := β)
    exact this
  rw [TC.c270]; unfold f270
  rcases c1 with ⟨q1, q2⟩ | ⟨q1, q2⟩
  · simp (disch := first | omega | (simp only [disM] <;> omega) | assumption) only [↓run, ↓runM, run, runM, Nat.reduceAdd, Nat.reduceMul, Int.reduceToNat, nil_p, b1, b5, eq_true q1, eq_true q2, eq_true k3]
    refine fin _ _ ?_
    intro u h1 ⟨e1, e2⟩
    exact hk _ _ ⟨e1, by rw [hz, e2]⟩
  · simp (disch := first | omega | (simp only [disM] <;> omega) | assumption) only [↓run, ↓runM, run, runM, Nat.reduceAdd, Nat.reduceMul, Int.reduceToNat, nil_p, b1, b5, eq_false (show ¬ 0 ≤ x.parent by omega), eq_true (show (i : Int) = 0 by omega), eq_true q2, eq_true k3]
    refine fin _ _ ?_
    intro u h1 ⟨e1, e2⟩
    exact hk _ _ ⟨e1, by rw [hz, e2]⟩
theorem GC.w261 (TC : GC t) (TB : GB t) (T : GA t) (L : GI t) (n : Nat) {h : H} {v : AV} {ns : List Nd} (hn : ns.length + 1200 ≤ n) (hv : LAt 4 NdC h v ns) (hf : ∀ x ∈ ns, NdFit x) (hl : ns.length ≤ 9223372036854775807) :
    Sp (β := β) (fRunS t stdI n (.fn 261 []) [v] h) fun u h' => Ext h h' ∧ u = .bool (isB (TrailP ns)) := by
  intro k R hk
  obtain ⟨m, rfl⟩ : ∃ m, n = m + 1 := ⟨n - 1, by omega⟩
  have lv := hv.len (β := β)
  rw [TC.c261]; unfold f261
  simp (disch := first | omega | (simp only [disM] <;> omega) | assumption) only [↓run, ↓runM, run, runM, Nat.reduceAdd, Nat.reduceMul, Int.reduceToNat, ↓f261_J0, ↓f261_J7, ↓f261_J6, ↓f261_L4, lv]
  refine qLoop_wp 6 m _ _ (fun i x0 x1 x2 x3 x4 x5 h' => ∃ j : Nat, x0 = v ∧ x3 = .int .i64 (ns.length : Int) ∧ x4 = .int .i64 (j : Int) ∧ j + i = ns.length ∧ Ext h h' ∧ ∀ q x, q < j → ns[q]? = some x → NextP x q) ns.length (by omega) ?_ _ _ _ _ _ _ _
    ⟨0, rfl, rfl, rfl, by omega, Ext.refl _, fun q x hq => absurd hq (by omega)⟩
  intro l i ih x0 x1 x2 x3 x4 x5 h' ⟨j, q1, q2, q3, q5, q6, q7⟩
  subst q1 q2 q3
  cases i with
  | zero =>
    have hj : j = ns.length := by omega
    subst hj
    simp (disch := first | omega | (simp only [disM] <;> omega) | assumption) only [↓run, ↓runM, run, runM, Nat.reduceAdd, Nat.reduceMul, Int.reduceToNat, ↓f261_J0, ↓f261_J7, ↓f261_J6, ↓f261_L4, lv]
    refine hk _ _ ⟨q6, congrArg AV.bool ?_⟩
    refine (isB_iff ?_).symm
    rw [decide_eq_true_iff]
    constructor
    · intro h0
      exact ⟨fun hn => by rw [hn] at h0; simp at h0, fun q x hq => q7 q x (List.getElem?_eq_some_iff.1 hq).1 hq⟩
    · intro hp
      have : ns.length ≠ 0 := fun hn => hp.1 (List.eq_nil_of_length_eq_zero hn)
      omega
  | succ i =>
    have hj : j < ns.length := by omega
    obtain ⟨x, hx⟩ : ∃ x, ns[j]? = some x := ⟨_, List.getElem?_eq_getElem hj⟩
    obtain ⟨b, o, cs, a1, a2, w, rfl, a3⟩ := hv.at (β := β) hx
    simp (disch := first | omega | (simp only [disM] <;> omega) | assumption) only [↓run, ↓runM, run, runM, Nat.reduceAdd, Nat.reduceMul, Int.reduceToNat, ↓f261_J0, ↓f261_J7, ↓f261_J6, ↓f261_L4, a1]
    refine TC.w270 TB T L m (by omega) (a2.ext q6) (a3.ext q6) (hf x (List.mem_of_getElem? hx)) j _ _ ?_
    intro u h2 ⟨e1, e2⟩
    subst e2
    by_cases c : NextP x j
    · rw [isB_t c]
      simp (disch := first | omega | (simp only [disM] <;> omega) | assumption) only [↓run, ↓runM, run, runM, Nat.reduceAdd, Nat.reduceMul, Int.reduceToNat, ↓f261_J0, ↓f261_J7, ↓f261_J6, ↓f261_L4]
      refine ih i (by omega) _ _ _ _ _ _ _ ⟨j + 1, rfl, rfl, rfl, by omega, q6.trans e1, fun q y hq hy => ?_⟩
      by_cases hqj : q = j
      · subst hqj; rw [hx] at hy; cases hy; exact c
      · exact q7 q y (by omega) hy
    · rw [isB_f c]
      simp (disch := first | omega | (simp only [disM] <;> omega) | assumption) only [↓run, ↓runM, run, runM, Nat.reduceAdd, Nat.reduceMul, Int.reduceToNat, ↓f261_J0, ↓f261_J7, ↓f261_J6, ↓f261_L4]
      exact hk _ _ ⟨q6.trans e1, by rw [isB_f fun hp => c (hp.2 j x hx)]⟩
theorem GC.w271 (TC : GC t) (n : Nat) {h : H} {pb : Nat} {v w : AV} {p : List Df} {x : Nd} (hb : pb < h.n) (hg : (h.get pb).cells = some [v]) (hp : LAt 2 DfC h v p) (hw : SlAt h w (strs x.args)) (he : 0 ≤ x.fn) :
    Sp (β := β) (fRunS t stdI (n + 1) (.fn 271 [.ptr pb 0]) [.agg (ndCells x w)] h) fun u h' => Ext h h' ∧ u = .bool (decide (¬ (x.fn < p.length ∧ (x.args.length : Int) = paramsOf p x.fn))) := by
  intro k R hk
  have lw : ∀ kc : VK β, qLenL w (.mk kc) = kc (.int .i64 (x.args.length : Int)) := fun kc => by rw [hw.len, strs_len]
  have lp := hp.len (β := β)
  have hx : ∀ (hh : H) (kk : K β), qBox 0 (.agg (ndCells x w)) hh (.mk kk) = kk (.ptr hh.n 0) (hh.push (.own 0 (ndCells x w))) := fun hh kk => q_fBox_agg 0 _ hh kk
  have hg1 : ((h.push (.own 0 (ndCells x w))).get pb) = h.get pb := get_push_ne (by omega)
  by_cases c2 : (p.length : Int) ≤ x.fn
  · rw [TC.c271]; unfold f271
    unfold ndCells at *
    simp (disch := first | omega | (simp only [disM] <;> omega) | assumption) only [↓run, ↓runM, run, runM, Nat.reduceAdd, Nat.reduceMul, Int.reduceToNat, List.cons_append, List.nil_append, ↓hx, hg1, hg, lp, eq_true c2]
    exact hk _ _ ⟨(Ext.refl h).push _, by rw [decide_eq_true (by omega)]⟩
  obtain ⟨b, o, us, a1, a2, a3⟩ := defAt (β := β) (hp.ext DfC.stays ((Ext.refl h).push (.own 0 (ndCells x w)))) he (by omega)
  rw [TC.c271]; unfold f271
  unfold ndCells at *
  simp (disch := first | omega | (simp only [disM] <;> omega) | assumption) only [↓run, ↓runM, run, runM, Nat.reduceAdd, Nat.reduceMul, Int.reduceToNat, List.cons_append, List.nil_append, ↓hx, hg1, hg, lp, lw, eq_false c2, a1, a2, a3]
  exact hk _ _ ⟨(Ext.refl h).push _, congrArg AV.bool (decide_eq_decide.2 (by omega))⟩
theorem GC.w276 (TC : GC t) (n : Nat) {h : H} {pb : Nat} {v w : AV} {p : List Df} {ns : List Nd} (hb : pb < h.n) (hg : (h.get pb).cells = some [v]) (hp : LAt 2 DfC h v p) (hw : LAt 4 NdC h w ns) (hn : ns.length + 3 ≤ n) (hl : ns.length ≤ 9223372036854775807)
    (he : ∀ x ∈ ns, 0 ≤ x.fn) :
    Sp (β := β) (fRunS t stdI n (.fn 276 []) [w, .fn 271 [.ptr pb 0]] h) fun u h' => Ext h h' ∧ ∃ r : Int, u = .int .i64 r ∧ (0 ≤ r ↔ ∃ x ∈ ns, ¬ (x.fn < p.length ∧ (x.args.length : Int) = paramsOf p x.fn)) := by
  intro k R hk
  obtain ⟨m, rfl⟩ : ∃ m, n = m + 2 := ⟨n - 2, by omega⟩
  have wl := hw.len (β := β)
  rw [TC.c276]; unfold f276
  simp (disch := first | omega | (simp only [disM] <;> omega) | assumption) only [↓run, ↓runM, run, runM, Nat.reduceAdd, Nat.reduceMul, Int.reduceToNat, ↓f276_J0, ↓f276_J5, ↓f276_J4, ↓f276_L2, wl]
  refine qLoop_wp 7 (m + 1) _ _ (fun i x0 x1 x2 x3 x4 x5 x6 h' => ∃ j : Nat, x0 = w ∧ x1 = .fn 271 [.ptr pb 0] ∧ x4 = .int .i64 (ns.length : Int) ∧ x5 = .int .i64 (j : Int) ∧ j + i = ns.length ∧ Ext h h' ∧ ∀ q x, q < j → ns[q]? = some x → (x.fn < p.length ∧ (x.args.length : Int) = paramsOf p x.fn)) ns.length (by omega) ?_ _ _ _ _ _ _ _ _
    ⟨0, rfl, rfl, rfl, rfl, by omega, Ext.refl h, fun q x hq => absurd hq (by omega)⟩
  intro l i ih x0 x1 x2 x3 x4 x5 x6 h' ⟨j, q1, q2, q3, q4, q5, q6, q7⟩
  subst q1 q2 q3 q4
  cases i with
  | zero =>
    have hj : j = ns.length := by omega
    subst hj
    simp (disch := first | omega | (simp only [disM] <;> omega) | assumption) only [↓run, ↓runM, run, runM, Nat.reduceAdd, Nat.reduceMul, Int.reduceToNat, ↓f276_J0, ↓f276_J5, ↓f276_J4, ↓f276_L2]
    refine hk _ _ ⟨q6, -1, rfl, fun h0 => absurd h0 (by omega), fun ⟨x, hx, hx2⟩ => ?_⟩
    obtain ⟨q, hq, hqx⟩ := List.getElem_of_mem hx
    exact absurd (q7 q x hq (by rw [List.getElem?_eq_getElem hq, hqx])) hx2
  | succ i =>
    have hj : j < ns.length := by omega
    obtain ⟨e, hje⟩ : ∃ e, ns[j]? = some e := ⟨_, List.getElem?_eq_getElem hj⟩
    obtain ⟨b, o, cs, a1, a2, w', rfl, a3⟩ := hw.at (β := β) hje
    obtain ⟨us, b1, b2, b3, b4⟩ := (a2.ext q6).get
    have hmem : e ∈ ns := List.mem_of_getElem? hje
    simp (disch := first | omega | (simp only [disM] <;> omega) | assumption) only [↓run, ↓runM, run, runM, Nat.reduceAdd, Nat.reduceMul, Int.reduceToNat, ↓f276_J0, ↓f276_J5, ↓f276_J4, ↓f276_L2, a1, b1, b2, b3]
    refine TC.w271 m (by have := q6.n; omega) (by rw [q6.get _ hb]; exact hg) (hp.ext DfC.stays q6) (a3.ext q6) (he e hmem) _ _ ?_
    intro u h2 ⟨e1, e2⟩
    subst e2
    by_cases c : e.fn < p.length ∧ (e.args.length : Int) = paramsOf p e.fn
    · rw [decide_eq_false (by simpa using c)]
      simp (disch := first | omega | (simp only [disM] <;> omega) | assumption) only [↓run, ↓runM, run, runM, Nat.reduceAdd, Nat.reduceMul, Int.reduceToNat, ↓f276_J0, ↓f276_J5, ↓f276_J4, ↓f276_L2]
      refine ih i (by omega) _ _ _ _ _ _ _ _ ⟨j + 1, rfl, rfl, rfl, rfl, by omega, q6.trans e1, fun q y hq hy => ?_⟩
      by_cases hqj : q = j
      · subst hqj; rw [hje] at hy; cases hy; exact c
      · exact q7 q y (by omega) hy
    · rw [decide_eq_true c]
      simp (disch := first | omega | (simp only [disM] <;> omega) | assumption) only [↓run, ↓runM, run, runM, Nat.reduceAdd, Nat.reduceMul, Int.reduceToNat, ↓f276_J0, ↓f276_J5, ↓f276_J4, ↓f276_L2]
      exact hk _ _ ⟨q6.trans e1, j, rfl, fun _ => ⟨e, hmem, c⟩, fun _ => by omega⟩
theorem GC.w262 (TC : GC t) (TB : GB t) (T : GA t) (L : GI t) (n : Nat) {h : H} {a v : AV} {p : List Df} {ns : List Nd} (hn : ns.length + 1300 ≤ n) (hp : PgAt h a p) (hv : LAt 4 NdC h v ns) (hf : ∀ x ∈ ns, NdFit x) (hl : ns.length ≤ 9223372036854775807)
    (hl1 : p.length ≤ 9223372036854775807) (hl2 : ∀ d ∈ p, d.body.length ≤ 9223372036854775807) :
    Sp (β := β) (fRunS t stdI n (.fn 262 []) [a, v] h) fun u h' => Ext h h' ∧ u = .bool (isB (FitsP p ns)) := by
  intro k R hk
  obtain ⟨m, rfl⟩ : ∃ m, n = m + 2 := ⟨n - 2, by omega⟩
  obtain ⟨pv, rfl, hpv⟩ := hp
  have hb : ∀ (v : AV) (hh : H) (kk : K β), qBox 0 (.agg [v]) hh (.mk kk) = kk (.ptr hh.n 0) (hh.push (.own 0 [v])) := fun v hh kk => q_fBox_agg 0 _ hh kk
  have e0 : Ext h (h.push (.own 0 [pv])) := (Ext.refl h).push _
  have n0 : h.n < (h.push (.own 0 [pv])).n := by rw [H.n_push]; omega
  have hbx : (h.push (.own 0 [pv])).get h.n = .own 0 [pv] := get_push_eq rfl
  rw [TC.c262]; unfold f262
  simp (disch := first | omega | (simp only [disM] <;> omega) | assumption) only [↓run, ↓runM, run, runM, Nat.reduceAdd, Nat.reduceMul, Int.reduceToNat, ↓hb]
  refine TC.w157 T (m + 1) (by omega) ⟨pv, rfl, hpv.ext DfC.stays e0⟩ hl1 hl2 _ _ ?_
  intro u h1 ⟨e1, e2⟩
  subst e2
  cases c1 : progMay p with
  | false =>
    simp (disch := first | omega | (simp only [disM] <;> omega) | assumption) only [↓run, ↓runM, run, runM, Nat.reduceAdd, Nat.reduceMul, Int.reduceToNat]
    exact hk _ _ ⟨e0.trans e1, by rw [isB_f fun hp => by have := hp.1; rw [c1] at this; cases this]⟩
  | true =>
    simp (disch := first | omega | (simp only [disM] <;> omega) | assumption) only [↓run, ↓runM, run, runM, Nat.reduceAdd, Nat.reduceMul, Int.reduceToNat]
    refine TC.w261 TB T L (m + 1) (by omega) (hv.ext NdC.stays (e0.trans e1)) hf hl _ _ ?_
    intro u h2 ⟨e3, e4⟩
    subst e4
    by_cases c2 : TrailP ns
    case neg =>
      rw [isB_f c2]
      simp (disch := first | omega | (simp only [disM] <;> omega) | assumption) only [↓run, ↓runM, run, runM, Nat.reduceAdd, Nat.reduceMul, Int.reduceToNat]
      exact hk _ _ ⟨(e0.trans e1).trans e3, by rw [isB_f fun hp => c2 hp.2.1]⟩
    rw [isB_t c2]
    obtain ⟨x, hx⟩ : ∃ x, ns[0]? = some x := by
      cases hns : ns with
      | nil => exact absurd hns c2.1
      | cons x r => exact ⟨x, rfl⟩
    have ee := e0.trans (e1.trans e3)
    obtain ⟨b, o, cs, a1, a2, w, rfl, a3⟩ := (hv.ext NdC.stays ee).at (β := β) hx
    obtain ⟨us, b1, b2, b3, b4⟩ := a2.get
    have g0 := b4 0 _ rfl
    rw [Nat.add_zero] at g0
    have a1' : ∀ kk : VK β, qIadr 4 v (.int .i64 0) (.mk kk) = kk (.ptr b o) := a1
    by_cases c3 : x.fn = 0
    case neg =>
      simp (disch := first | omega | (simp only [disM] <;> omega) | assumption) only [↓run, ↓runM, run, runM, Nat.reduceAdd, Nat.reduceMul, Int.reduceToNat, a1', b1, g0, eq_false c3]
      exact hk _ _ ⟨ee, by rw [isB_f fun hp => c3 (hp.2.2.1 x hx)]⟩
    simp (disch := first | omega | (simp only [disM] <;> omega) | assumption) only [↓run, ↓runM, run, runM, Nat.reduceAdd, Nat.reduceMul, Int.reduceToNat, a1', b1, g0, eq_true c3]
    rw [TC.q272]; unfold f272
    simp (disch := first | omega | (simp only [disM] <;> omega) | assumption) only [↓run, ↓runM, run, runM, Nat.reduceAdd, Nat.reduceMul, Int.reduceToNat]
    refine TC.w276 m (pb := h.n) (v := pv) (p := p) (by have := ee.n; have := e1.n; have := e3.n; omega) (by rw [(e1.trans e3).get _ n0, hbx]; rfl) (hpv.ext DfC.stays ee) (hv.ext NdC.stays ee) (by omega) (by omega) (fun y hy => ?_) _ _ ?_
    · obtain ⟨q, hq, hqy⟩ := List.getElem_of_mem hy
      exact (eqMay_fn (c2.2 q y (by rw [List.getElem?_eq_getElem hq, hqy])).2.1).1.1
    intro u h3 ⟨e5, r, e6, e7⟩
    subst e6
    simp (disch := first | omega | (simp only [disM] <;> omega) | assumption) only [↓run, ↓runM, run, runM, Nat.reduceAdd, Nat.reduceMul, Int.reduceToNat]
    refine hk _ _ ⟨ee.trans e5, congrArg AV.bool ((isB_iff ?_).symm)⟩
    rw [Bool.not_eq_true', decide_eq_false_iff_not, e7]
    constructor
    · intro hh
      refine ⟨c1, c2, fun y hy => by rw [hx] at hy; cases hy; exact c3, fun y hy => Classical.byContradiction fun hc => hh ⟨y, hy, hc⟩⟩
    · intro hh ⟨y, hy, hc⟩
      exact hc (hh.2.2.2 y hy)
end
end Am.F
