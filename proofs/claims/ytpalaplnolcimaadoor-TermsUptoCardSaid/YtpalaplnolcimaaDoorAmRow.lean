/- From a run of the abstract machine to a call of the model, and to what a row asks. -/
import Derived.Test.YtpalaplnolcimaaDoorAmShelf
import Derived.ChangeSame
import Derived.OpenShut
namespace Am
open Go Go.RowKit Go.ChangeShapes Go.WideShapes

/-- A world, none of its blocks to be touched. -/
def baseOf (W : World) : Base where
  w := W
  K := fun k => k < W.heap.size
  O := fun k => k < W.heap.size
  wf := fun _ h => h
  sub := fun _ h => h

theorem turned_refl (W : World) : Turned (baseOf W) W W := ⟨rfl, rfl, rfl, Nat.le_refl _, fun _ _ => rfl⟩

theorem R.start {kf kt : Nat → Nat} (W : World) : R kf kt (baseOf W) [] [] W where
  len := rfl
  below := turned_refl W
  blk := fun b k p hs _ => by simp at hs
  low := fun b k p hs _ _ => by simp at hs
  sep := fun b b' k k' p p' hs _ _ _ _ _ _ => by simp at hs

/-- A run from a memory that the relation holds of. -/
theorem am_callR {P : Program} {kf kt : Nat → Nat} {G : Base → Prop} (hGm : Keeps G) {t : F.ETree} {I : F.FI} (hL : Link P kf kt G fun k => (t.T k).map SFn.fl) (hok : ∀ k f, t.T k = some f → f.ok = true) (hI : F.IOk t.T I)
    {n : Nat} {f : FuncId} {args : List AV} {us : List Value} {β : Type} {K : F.K β} {r : β} {h : F.H} {S : St} (hrun : F.fRunS t I n (.fn (kf f) []) args h K = some r) (ha : F.Abs h S)
    {w0 : Base} (hG : G w0) {fm : FM} {w : World} (hR : R kf kt w0 fm S w) (hv : VRs kf fm args us) :
    Enters P f ∧ ∃ v S' h', F.Abs h' S' ∧ K v h' = some r ∧ CallsIn (FR none) 0 P f us.toArray w (PostV kf kt w0 fm v S') := by
  obtain ⟨v, S', h', h1, h2, h3⟩ := F.fRunS_ok hI hrun ha
  have h4 := runS_run hok n _ _ _ _ h1
  obtain ⟨h5, h6⟩ := (run_ok hGm hL n).fn (kf f) [] args S v S' h4 w0 hG fm w f us hR rfl (by rw [List.append_nil]; exact hv)
  exact ⟨h5, v, S', h', h2, h3, h6⟩

/-- A run from the empty memory that gives a value: the model's call gives it. -/
theorem am_call {P : Program} {kf kt : Nat → Nat} {G : Base → Prop} (hGm : Keeps G) {t : F.ETree} {I : F.FI} (hL : Link P kf kt G fun k => (t.T k).map SFn.fl) (hok : ∀ k f, t.T k = some f → f.ok = true) (hI : F.IOk t.T I)
    {n : Nat} {f : FuncId} {args : List AV} {us : List Value} {v : AV} (hrun : F.fRunS t I n (.fn (kf f) []) args F.H.emp (fun v _ => some v) = some v)
    {W : World} (hG : G (baseOf W)) (hv : VRs kf [] args us) : Calls P f us.toArray W fun e W' => (∃ ext u, e = .returned u ∧ VR kf ext v u) ∧ Turned (baseOf W) W W' := by
  obtain ⟨_, v', S', h', _, h2, h3⟩ := am_callR hGm hL hok hI hrun F.Abs.emp hG (R.start W) hv
  cases h2
  refine (callsIn_wide.1 h3).mono ?_
  rintro e W' ⟨ext, u, h4, h5, h6⟩
  exact ⟨⟨_, u, h4, h6⟩, h5.below⟩

/-- The same for a call without parameters or with plain ones, made an operation of its own: it answers what it answers from the empty memory. -/
theorem closed_intr {P : Program} {kf kt : Nat → Nat} {G : Base → Prop} (hGm : Keeps G) {t : F.ETree} {I : F.FI} (hL : Link P kf kt G fun k => (t.T k).map SFn.fl) (hok : ∀ k f, t.T k = some f → f.ok = true) (hI : F.IOk t.T I)
    {f : FuncId} {g : List AV → St → Option (AV × St)}
    (hg : ∀ args S v S', g args S = some (v, S') → S' = S ∧ v.sc = true ∧ (∀ fm us, VRs kf fm args us → VRs kf [] args us) ∧ (∀ ext fm u, VR kf ext v u → VR kf fm v u) ∧ ∃ n, F.fRunS t I n (.fn (kf f) []) args F.H.emp (fun v _ => some v) = some v) :
    IntrOk P kf kt G f g := by
  intro args S v S' h w0 hG fm w us hR hv
  obtain ⟨rfl, _, h2, h3, n, h4⟩ := hg args S v S' h
  have hG' : G (w0.more w (fun k => k < w.heap.size) (fun _ h => h) hR.below.size) := hGm w0 w _ _ _ hR.below hG
  have hR' : R kf kt (w0.more w (fun k => k < w.heap.size) (fun _ h => h) hR.below.size) [] [] w :=
    { len := rfl, below := ⟨rfl, rfl, rfl, Nat.le_refl _, fun _ _ => rfl⟩, blk := fun b k p hs _ => by simp at hs, low := fun b k p hs _ _ => by simp at hs, sep := fun b b' k k' p p' hs _ _ _ _ _ _ => by simp at hs }
  obtain ⟨hE, v', S1, h', _, h5, h6⟩ := am_callR hGm hL hok hI h4 F.Abs.emp hG' hR' (h2 fm us hv)
  cases h5
  refine ⟨hE, callsIn_wide.2 ((callsIn_wide.1 h6).mono ?_)⟩
  rintro e w' ⟨ext, u, rfl, h7, h8⟩
  have hb : Below w.heap.size w w' := ⟨h7.below.os, h7.below.tape, h7.below.output, h7.below.size, fun k hk => h7.below.block k (.inr hk)⟩
  exact ⟨[], u, rfl, by rw [List.append_nil]; exact hR.grown hb, h3 _ _ _ h8⟩

section
variable {H : Type} {enc : TypeId × Value → H} {P : Program}

theorem keptBut_of_turned {W W' : World} (ht : Turned (baseOf W) W W') (may : MemPlace → Prop) : W.keptBut W' may := by
  refine ⟨ht.os, ht.output, fun i hi => ?_⟩
  rw [ht.block i hi]
  split
  · rename_i c t fr c' t' fr' h1 h2
    rw [h1] at h2; cases h2
    exact ⟨rfl, rfl, rfl, fun _ _ => rfl⟩
  · rename_i es clock es' clock' h1 h2
    rw [h1] at h2; cases h2
    exact .inr ⟨rfl, rfl⟩
  · rfl

/-- What a row asks of a call that leaves the memory below as it was. -/
theorem post_turned {f : Func} {s : ChangeSpec} {apart fresh handsOn : Bool} {W W' : World} {args : Array Value} {v : Value} {ds gs : List (DataW H)} {before pa pv : List MemPlace}
    (hW : DataW.Whole enc P f.params.toList s.vars apart W args.toList ds gs before)
    (hres : ∀ (b : Nat) (sp : Nat → Bool) (hd : Bool), DataW.TrodAll enc P W' b sp hd f.resultTypes.toList (v.resultList f.resultTypes.size) (s.fn H (ds ++ gs)).results [])
    (hargs : ∀ sp : Nat → Bool, (∀ p ∈ before, sp p.block = true) → DataW.TrodAll enc P W' 0 sp true f.params.toList args.toList (s.fn H (ds ++ gs)).args pa)
    (hvars : ∀ sp : Nat → Bool, (∀ p ∈ before, sp p.block = true) → DataW.TrodVars enc P W' sp s.vars (s.fn H (ds ++ gs)).vars pv)
    (ht : Turned (baseOf W) W W') : s.post enc P f apart fresh handsOn false W args v W' := by
  have hold : ∀ p ∈ before, (fun b => decide (b < W.heap.size)) p.block = true := fun p hp => by simpa using hW.lt p hp
  exact ⟨ds, gs, before, [], pa, pv, hW, hres _ _ _, hargs _ hold, hvars _ hold, keptBut_of_turned ht _, fun h => by cases h⟩
end

theorem laidMet_tail {P : Program} {W : World} {x : String × DataW Unit} {rest : List (String × DataW Unit)} (h : laidMet P (x :: rest) W) : laidMet P rest W := by
  obtain ⟨ps, ⟨g, t, cs, fuel, p, q, _, _, _, _, hr, rfl⟩, hn, hb⟩ := h
  exact ⟨q, hr, (List.nodup_append.1 hn).2.1, fun b off hm => hb b off (List.mem_append_right _ hm)⟩

theorem gtab_of {P : Program} {W : World} {g : Nat} (hg : P.globalNamed "internal/strconv.uint64pow10" = some g) (h : Lib.TabIs P W "internal/strconv.uint64pow10" .u64 Lib.pow10Tab) : GTab P (baseOf W) := by
  refine ⟨⟨g, hg, ?_⟩, h⟩
  unfold Lib.TabIs World.var? at h
  simp only [hg, Option.bind_some] at h
  show g < W.heap.size
  rcases Nat.lt_or_ge g W.heap.size with h1 | h1
  · exact h1
  · rw [Array.getElem?_eq_none h1] at h; cases h

/-- Of a whole number of 64 bits: its low bits, as a division finds them. -/
theorem low_bits (k : Nat) (hk : k ∣ 18446744073709551616) (n : Int) : (IntKind.u64.wrap n).tmod k = n % k := by
  have h1 : IntKind.u64.wrap n = n % 18446744073709551616 := by
    unfold IntKind.wrap
    simp only [show IntKind.u64.signed = false from rfl, show IntKind.u64.bits = 64 from rfl, Bool.false_and]
    rfl
  rw [h1, Int.tmod_eq_emod_of_nonneg (Int.emod_nonneg _ (by omega))]
  exact Int.emod_emod_of_dvd n (by obtain ⟨c, hc⟩ := hk; exact ⟨c, by omega⟩)

namespace F
variable {β : Type}
theorem pConv_int (kd k : IntKind) (n : Int) (c : VK β) : pConv kd (.int k n) c = c (.int kd (kd.wrap n)) := by simp only [pConv, aInt, frcZ_eq, wrapF_eq]
theorem pBin_rem (k : IntKind) (x y : Int) (hy : y ≠ 0) (c : VK β) : pBin .rem (.int k x) (.int k y) c = c (.int k (x.tmod y)) := by
  simp only [pBin, aInt, kindsFit, beq_self_eq_true, cond_true, binI, if_neg hy, oSome]
end F
end Am
