/- Walks: Trails. -/
import Derived.Test.YtpalaplnolcimaaGreatDoorAmSm
set_option linter.unusedSimpArgs false
set_option linter.unusedVariables false
namespace Am.F
open Go Am
section
variable {β : Type} {t : ETree}
theorem GT12.w298 (TS : GT12 t) (TP : GP t) (TC : GC t) (TB : GB t) (T : GA t) (L : GI t) (hA : t.get 259 = some (eAw 259)) (n M : Nat) {h : H} {a v : AV} {p : List Df} {ns : List Nd} (hn : ns.length + p.length + 2 * M + 2500 ≤ n) (hp : PgAt h a p) (hv : LAt 4 NdC h v ns)
    (hf : ∀ x ∈ ns, NdFit x) (hM : ∀ x ∈ ns, x.args.length ≤ M) (hMs : M ≤ 1048576) (hl : ns.length ≤ 1048576) (hl1 : p.length ≤ 1048576) (hl2 : ∀ d ∈ p, DfFit M d) :
    Sp (β := β) (fRunS t stdI n (.fn 298 []) [a, v] h) fun u h' => u = .bool true := by
  intro k R hk
  obtain ⟨m, rfl⟩ : ∃ m, n = m + 2 := ⟨n - 2, by omega⟩
  have hroom : room = 68719476736 := rfl
  obtain ⟨pv, rfl, hpv⟩ := hp
  have hb : ∀ (v : AV) (hh : H) (kk : K β), qBox 0 (.agg [v]) hh (.mk kk) = kk (.ptr hh.n 0) (hh.push (.own 0 [v])) := fun v hh kk => q_fBox_agg 0 _ hh kk
  have haw := fun (hh : H) (kk : K β) => awk_q (β := β) (k := 259) rfl hA m hh kk
  obtain ⟨h0, hh0⟩ : ∃ h0, h0 = h.push (.own 0 [pv]) := ⟨_, rfl⟩
  have e0 : Ext h h0 := by rw [hh0]; exact (Ext.refl h).push _
  have hb0 : h.push (.own 0 [pv]) = h0 := hh0.symm
  have n0 : h.n < h0.n := by rw [hh0, H.n_push]; omega
  have g0 : (h0.get h.n) = .own 0 [pv] := by rw [hh0]; exact get_push_eq rfl
  have cell : ∀ {h'}, Ext h0 h' → (h'.get h.n).cells = some [pv] := fun e => by rw [e.get _ n0, g0]; rfl
  have hl2' : ∀ d ∈ p, d.body.length ≤ 9223372036854775807 := fun d hd => by have := (hl2 d hd).1; omega
  have eqb : ∀ (x y : Bool) (kk : VK β), qEqB false (.bool x) (.bool y) (.mk kk) = kk (.bool (x == y)) := fun x y kk => by
    show kk (.bool ((x == y) != false)) = _
    cases x <;> cases y <;> rfl
  rw [TS.c298]; unfold f298_sleuthlaw12_Trails
  simp (disch := first | omega | (simp only [disM] <;> omega) | assumption) only [↓run, ↓runM, run, runM, Nat.reduceAdd, Nat.reduceMul, Int.reduceToNat, ↓hb, hb0]
  refine TP.w135 (m + 1) M ⟨pv, rfl, hpv.ext DfC.stays e0⟩ (by omega) (fun d hd => ⟨by have := (hl2 d hd).1; omega, (hl2 d hd).1, fun e he => by have := (hl2 d hd).2 e he; omega⟩) (by omega) _ _ ?_
  intro u h1 ⟨e1, pv', e2, hpv'⟩
  subst e2
  refine TB.w244 (m + 1) (hv.nds.ext (e0.trans e1)) (by omega) (fun x hx => by have := hM x hx; omega) (by omega) _ _ ?_
  intro xv h2 ⟨e3, hxv⟩
  have e4 : Ext h2 ((h2.push (.own 0 [.nils])).set h2.n (.own 0 [pv'])) := by exact ((Ext.refl h2).push _).set (Nat.le_refl _) _
  have n3 : h2.n < ((h2.push (.own 0 [.nils])).set h2.n (.own 0 [pv'])).n := by rw [H.n_set, H.n_push]; omega
  have g3 : ((h2.push (.own 0 [.nils])).set h2.n (.own 0 [pv'])).get h2.n = .own 0 [pv'] := by exact get_set_eq rfl
  have cell' : ∀ {h'}, Ext ((h2.push (.own 0 [.nils])).set h2.n (.own 0 [pv'])) h' → (h'.get h2.n).cells = some [pv'] := fun e => by rw [e.get _ n3, g3]; rfl
  have psc := hpv'.sc
  have e03 : Ext h0 ((h2.push (.own 0 [.nils])).set h2.n (.own 0 [pv'])) := e1.trans (e3.trans e4)
  have ch : ∀ (x : AV) (c : Option β), qChk (.agg [pv]) (.agg [pv]) (.mk c) = c := fun x c => by
    have := hpv.sc
    show cond (AV.beq _ _) c none = c
    have : AV.beq (.agg [pv]) (.agg [pv]) = true := by
      rcases hpv with ⟨rfl, _⟩ | ⟨b, o, m, g, us, rfl, _⟩ <;> simp [AV.beq, AV.beqs]
    rw [this]; rfl
  simp (disch := first | omega | (simp only [disM] <;> omega) | assumption) only [↓run, ↓runM, run, runM, Nat.reduceAdd, Nat.reduceMul, Int.reduceToNat]
  refine TC.w261 TB T L (m + 1) (by omega) (hxv.lat.ext NdC.stays e4) hf (by omega) _ _ ?_
  intro u h4 ⟨e5, e6⟩
  subst e6
  refine TS.w299 TB T (m + 1) M (by omega) (hv.ext NdC.stays (e0.trans (e03.trans e5))) hf hM (by omega) (by omega) _ _ ?_
  intro u h5 ⟨e7, e8⟩
  subst e8
  have e57 := e5.trans e7
  have c1 := cell (e03.trans e57)
  have c2 := cell' e57
  simp (disch := first | omega | (simp only [disM] <;> omega) | assumption) only [↓run, ↓runM, run, runM, Nat.reduceAdd, Nat.reduceMul, Int.reduceToNat, eqb, beq_self_eq_true, c1, c2]
  refine TC.w262 TB T L (m + 1) (by omega) ⟨pv', rfl, hpv'.ext DfC.stays (e3.trans (e4.trans e57))⟩ (hxv.lat.ext NdC.stays (e4.trans e57)) hf (by omega) (by omega) hl2' _ _ ?_
  intro u h6 ⟨e9, e10⟩
  subst e10
  have e59 := e57.trans e9
  have c1 := cell (e03.trans e59)
  have c2 := cell' e59
  simp (disch := first | omega | (simp only [disM] <;> omega) | assumption) only [↓run, ↓runM, run, runM, Nat.reduceAdd, Nat.reduceMul, Int.reduceToNat, c1, c2, beq_self_eq_true, ch (.any)]
  refine TS.w300 TC TB T (m + 1) M (by omega) ⟨pv, rfl, hpv.ext DfC.stays (e0.trans (e03.trans e59))⟩ (hv.ext NdC.stays (e0.trans (e03.trans e59))) hf hM (by omega) (by omega) (by omega) hl2' _ _ ?_
  intro u h7 ⟨e11, e12⟩
  subst e12
  have e511 := e59.trans e11
  have c1 := cell (e03.trans e511)
  have c2 := cell' e511
  simp (disch := first | omega | (simp only [disM] <;> omega) | assumption) only [↓run, ↓runM, run, runM, Nat.reduceAdd, Nat.reduceMul, Int.reduceToNat, eqb, beq_self_eq_true, c1, c2]
  refine TP.w140 (m + 1) ⟨pv', rfl, hpv'.ext DfC.stays (e3.trans (e4.trans e511))⟩ ⟨pv, rfl, hpv.ext DfC.stays (e0.trans (e03.trans e511))⟩ M hl2 (by omega) (by omega) (by omega) _ _ ?_
  intro u h8 ⟨e13, e14⟩
  subst e14
  have e513 := e511.trans e13
  simp (disch := first | omega | (simp only [disM] <;> omega) | assumption) only [↓run, ↓runM, run, runM, Nat.reduceAdd, Nat.reduceMul, Int.reduceToNat, beq_self_eq_true]
  refine TP.w138 TB T (m + 1) (hxv.lat.ext NdC.stays (e4.trans e513)) (hv.ext NdC.stays (e0.trans (e03.trans e513))) M hM (by omega) (by omega) (by omega) _ _ ?_
  intro u h9 ⟨e15, e16⟩
  subst e16
  simp (disch := first | omega | (simp only [disM] <;> omega) | assumption) only [↓run, ↓runM, run, runM, Nat.reduceAdd, Nat.reduceMul, Int.reduceToNat, haw, beq_self_eq_true]
  exact hk _ _ rfl
end
end Am.F
