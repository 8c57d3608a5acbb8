/- Walks: TrailCut, Trails. -/
import Derived.Test.YtpalaplnolcimaaDoorAmTr
import Derived.Test.YtpalaplnolcimaaDoorAmGL12W
import Derived.Test.YtpalaplnolcimaaDoorAmJd
set_option linter.unusedSimpArgs false
set_option linter.unusedVariables false
namespace Am.F
open Go Am
section
variable {β : Type} {t : ETree}
theorem qBin_remU {x y : Int} (hy : y ≠ 0) (k : VK β) : qBin .rem (.int .u64 x) (.int .u64 y) (.mk k) = k (.int .u64 (x.tmod y)) := pBin_rem _ _ _ hy k
theorem qConv_u64 (kd : IntKind) (x : Int) (k : VK β) : qConv .u64 (.int kd x) (.mk k) = k (.int .u64 (IntKind.u64.wrap x)) := pConv_any _ _ _ k
theorem GL12.w293 (TL : GL12 t) (TC : GC t) (TB : GB t) (T : GA t) (L : GI t) (hA : t.get 259 = some (eAw 259)) (n : Nat) {h : H} {a v : AV} {p : List Df} {ns : List Nd} (cut : Int) (hn : ns.length + 1400 ≤ n) (hp : PgAt h a p) (hv : LAt 4 NdC h v ns) (hg : SlG v ns.length) (hf : ∀ x ∈ ns, NdFit x) (hl : ns.length ≤ 9223372036854775807)
    (hl1 : p.length ≤ 9223372036854775807) (hl2 : ∀ d ∈ p, d.body.length ≤ 9223372036854775807) :
    Sp (β := β) (fRunS t stdI n (.fn 293 []) [a, v, .int .i64 cut] h) fun u h' => u = .bool true := by
  intro k R hk
  obtain ⟨m, rfl⟩ : ∃ m, n = m + 2 := ⟨n - 2, by omega⟩
  obtain ⟨pv, rfl, hpv⟩ := hp
  have hb : ∀ (v : AV) (hh : H) (kk : K β), qBox 0 (.agg [v]) hh (.mk kk) = kk (.ptr hh.n 0) (hh.push (.own 0 [v])) := fun v hh kk => q_fBox_agg 0 _ hh kk
  have haw := fun (hh : H) (kk : K β) => awk_q (β := β) (k := 259) rfl hA m hh kk
  obtain ⟨h0, hh0⟩ : ∃ h0, h0 = h.push (.own 0 [pv]) := ⟨_, rfl⟩
  have e0 : Ext h h0 := by rw [hh0]; exact (Ext.refl h).push _
  have hb0 : h.push (.own 0 [pv]) = h0 := hh0.symm
  have n0 : h.n < h0.n := by rw [hh0, H.n_push]; omega
  have g0 : (h0.get h.n) = .own 0 [pv] := by rw [hh0]; exact get_push_eq rfl
  have lv := hv.len (β := β)
  have pgAt : ∀ {h'}, Ext h0 h' → PgAt h' (.agg [pv]) p := fun e => ⟨pv, rfl, hpv.ext DfC.stays (e0.trans e)⟩
  have cell : ∀ {h'}, Ext h0 h' → (h'.get h.n).cells = some [pv] := fun e => by rw [e.get _ n0, g0]; rfl
  have s261 := fun (h' : H) (e : Ext h0 h') => TC.w261 TB T L (m + 1) (β := β) (by omega) (hv.ext NdC.stays (e0.trans e)) hf hl
  have s262 := fun (h' : H) (e : Ext h0 h') => TC.w262 TB T L (m + 1) (β := β) (by omega) (pgAt e) (hv.ext NdC.stays (e0.trans e)) hf hl hl1 hl2
  by_cases c0 : ns = []
  · have cz : (ns.length : Int) = 0 := by rw [c0]; rfl
    have nT : ¬ TrailP ns := fun hh => hh.1 c0
    have zT := isB_f nT
    have zF : isB (FitsP p ns) = false := isB_f fun hh => nT hh.2.1
    rw [TL.c293]; unfold f293
    simp (disch := first | omega | (simp only [disM] <;> omega) | assumption) only [↓run, ↓runM, run, runM, Nat.reduceAdd, Nat.reduceMul, Int.reduceToNat, ↓f293_J2, ↓f293_J1, ↓hb, hb0, haw, lv, eq_true cz]
    refine s261 h0 (Ext.refl _) _ _ ?_
    intro u h1 ⟨e1, e2⟩
    subst e2
    have cc := cell e1
    simp (disch := first | omega | (simp only [disM] <;> omega) | assumption) only [↓run, ↓runM, run, runM, Nat.reduceAdd, Nat.reduceMul, Int.reduceToNat, ↓f293_J2, ↓f293_J1, zT, cc]
    refine s262 h1 e1 _ _ ?_
    intro u h2 ⟨e3, e4⟩
    subst e4
    simp (disch := first | omega | (simp only [disM] <;> omega) | assumption) only [↓run, ↓runM, run, runM, Nat.reduceAdd, Nat.reduceMul, Int.reduceToNat, ↓f293_J2, ↓f293_J1, zT, zF]
    exact hk _ _ rfl
  have hpos : 0 < ns.length := List.length_pos_iff.2 c0
  have cz : ¬ (ns.length : Int) = 0 := by omega
  obtain ⟨hr1, hr2⟩ := u64_rem (ns.length : Int) (by omega) cut
  have hwl : IntKind.u64.wrap (ns.length : Int) = (ns.length : Int) := wrap_u64 (by omega) (by omega)
  obtain ⟨c, hc⟩ : ∃ c, c = 1 + (IntKind.u64.wrap cut).tmod (ns.length : Int) := ⟨_, rfl⟩
  have hrem := fun kk : VK β => qBin_remU (x := IntKind.u64.wrap cut) (y := (ns.length : Int)) cz kk
  generalize (IntKind.u64.wrap cut).tmod (ns.length : Int) = r at hr1 hr2 hc hrem
  obtain ⟨v', hs1, hs2⟩ := hv.upTo (β := β) hg (i := 1 + r) (by omega) (by omega) c0
  have htl : (ns.take (1 + r).toNat).length ≤ ns.length := by rw [List.length_take]; omega
  have htf : ∀ x ∈ ns.take (1 + r).toNat, NdFit x := fun x hx => hf x (List.mem_of_mem_take hx)
  have t261 := fun (h' : H) (e : Ext h0 h') => TC.w261 TB T L (m + 1) (β := β) (by omega) (hs2.ext NdC.stays (e0.trans e)) htf (by omega)
  have t262 := fun (h' : H) (e : Ext h0 h') => TC.w262 TB T L (m + 1) (β := β) (by omega) (pgAt e) (hs2.ext NdC.stays (e0.trans e)) htf (by omega) hl1 hl2
  have tT : TrailP ns → TrailP (ns.take (1 + r).toNat) := fun hT => hT.take (by omega) (by omega)
  rw [TL.c293]; unfold f293
  simp (disch := first | omega | (simp only [disM] <;> omega) | assumption) only [↓run, ↓runM, run, runM, Nat.reduceAdd, Nat.reduceMul, Int.reduceToNat, ↓f293_J2, ↓f293_J1, ↓hb, hb0, haw, lv, eq_false cz, qConv_u64, hwl, hrem]
  refine s261 h0 (Ext.refl _) _ _ ?_
  intro u h1 ⟨e1, e2⟩
  subst e2
  by_cases cT : TrailP ns
  · have zT := isB_t cT
    have zU := isB_t (tT cT)
    simp (disch := first | omega | (simp only [disM] <;> omega) | assumption) only [↓run, ↓runM, run, runM, Nat.reduceAdd, Nat.reduceMul, Int.reduceToNat, ↓f293_J2, ↓f293_J1, zT, hs1]
    refine t261 h1 e1 _ _ ?_
    intro u h2 ⟨e3, e4⟩
    subst e4
    have e13 := e1.trans e3
    have cc := cell e13
    simp (disch := first | omega | (simp only [disM] <;> omega) | assumption) only [↓run, ↓runM, run, runM, Nat.reduceAdd, Nat.reduceMul, Int.reduceToNat, ↓f293_J2, ↓f293_J1, zT, zU, cc]
    refine s262 h2 e13 _ _ ?_
    intro u h3 ⟨e5, e6⟩
    subst e6
    by_cases cF : FitsP p ns
    · have zF := isB_t cF
      have e15 := e13.trans e5
      have cc := cell e15
      simp (disch := first | omega | (simp only [disM] <;> omega) | assumption) only [↓run, ↓runM, run, runM, Nat.reduceAdd, Nat.reduceMul, Int.reduceToNat, ↓f293_J2, ↓f293_J1, zT, zU, zF, cc, hs1]
      refine t262 h3 e15 _ _ ?_
      intro u h4 ⟨e7, e8⟩
      subst e8
      have cF' : FitsP p (ns.take (1 + r).toNat) := ⟨cF.1, tT cT, fun x hx => cF.2.2.1 x (by
        rw [List.getElem?_take] at hx
        split at hx
        · exact hx
        · cases hx), fun x hx => cF.2.2.2 x (List.mem_of_mem_take hx)⟩
      have zG := isB_t cF'
      simp (disch := first | omega | (simp only [disM] <;> omega) | assumption) only [↓run, ↓runM, run, runM, Nat.reduceAdd, Nat.reduceMul, Int.reduceToNat, ↓f293_J2, ↓f293_J1, zT, zU, zF, zG]
      refine s261 h4 (e15.trans e7) _ _ ?_
      intro u h5 ⟨e9, e10⟩
      subst e10
      simp (disch := first | omega | (simp only [disM] <;> omega) | assumption) only [↓run, ↓runM, run, runM, Nat.reduceAdd, Nat.reduceMul, Int.reduceToNat, ↓f293_J2, ↓f293_J1, zT, zU, zF, zG]
      exact hk _ _ rfl
    · have zF := isB_f cF
      simp (disch := first | omega | (simp only [disM] <;> omega) | assumption) only [↓run, ↓runM, run, runM, Nat.reduceAdd, Nat.reduceMul, Int.reduceToNat, ↓f293_J2, ↓f293_J1, zT, zU, zF]
      exact hk _ _ rfl
  · have zT := isB_f cT
    have zF : isB (FitsP p ns) = false := isB_f fun hh => cT hh.2.1
    have cc := cell e1
    simp (disch := first | omega | (simp only [disM] <;> omega) | assumption) only [↓run, ↓runM, run, runM, Nat.reduceAdd, Nat.reduceMul, Int.reduceToNat, ↓f293_J2, ↓f293_J1, zT, cc]
    refine s262 h1 e1 _ _ ?_
    intro u h3 ⟨e5, e6⟩
    subst e6
    simp (disch := first | omega | (simp only [disM] <;> omega) | assumption) only [↓run, ↓runM, run, runM, Nat.reduceAdd, Nat.reduceMul, Int.reduceToNat, ↓f293_J2, ↓f293_J1, zT, zF]
    exact hk _ _ rfl
end
end Am.F
