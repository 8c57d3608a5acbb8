/- The law NeedLists of chapter 11 answers true, whatever numbers it is given: no condition. -/
import Derived.Test.YteamgokmnjajdaaDoorAmZ11Link
import Derived.Test.YteamgokmnjajdaaDoorAmBits
import Derived.Test.YteamgokmnjajdaaDoorCards
import Derived.Test.YteamgokmnjajdaaDoorTie
import Derived.WalkKit
import Derived.ProofKit
import Derived.Deep.DeepHandedRow
set_option maxRecDepth 100000

namespace Am.F
open Go Am
def isT (o : Option AV) : Bool := match o with | some (.bool true) => true | _ => false
theorem isT_eq {o : Option AV} (h : isT o = true) : o = some (.bool true) := by
  unfold isT at h; split at h
  · rfl
  · cases h
noncomputable abbrev outT (i : Int) : Option AV := fRunS tab stdI (2999 + 1) (.fn 128 []) [.int .i64 i] H.emp fun v _ => some v
theorem t0 : isT (outT 0) = true := by kernel_rfl
theorem t1 : isT (outT 1) = true := by kernel_rfl
theorem t2 : isT (outT 2) = true := by kernel_rfl
theorem t3 : isT (outT 3) = true := by kernel_rfl
theorem t4 : isT (outT 4) = true := by kernel_rfl
theorem t5 : isT (outT 5) = true := by kernel_rfl
theorem t6 : isT (outT 6) = true := by kernel_rfl
theorem t7 : isT (outT 7) = true := by kernel_rfl

theorem e128_f {β : Type} (I : FI) (N : Nat) (call : FCall β) (a : List AV) (h : H) (k : K β) : e128.f β I N call a h k = f128_sleuthlaw11_NeedLists N call a h k := rfl
theorem tab_128 : tab.get 128 = some e128 := by kernel_rfl
theorem once {β : Type} (F : Cur β 17 → Cur β 17) : fLoop 17 2999 F = F (fLoop 17 2998 F) := rfl

/-- The number counts by its three low bits alone. -/
theorem low {β : Type} (call : FCall β) (h : H) (k : K β) (i j : Int) (hij : i % ((2 ^ 3 : Nat) : Int) = j % ((2 ^ 3 : Nat) : Int)) : f128_sleuthlaw11_NeedLists 2999 call [.int .i64 i] h k = f128_sleuthlaw11_NeedLists 2999 call [.int .i64 j] h k := by
  unfold f128_sleuthlaw11_NeedLists
  simp only [fJoin, show ∀ i : Int, nth [AV.int .i64 i] 0 = .int .i64 i from fun _ => rfl, pBin_and 7 3 rfl (by decide), hij, once]

theorem out (i : Int) : outT i = some (.bool true) := by
  have h1 : ∀ i, outT i = f128_sleuthlaw11_NeedLists 2999 (fRunS tab stdI 2999) [.int .i64 i] H.emp fun v _ => some v := fun i => by
    rw [outT, fRunS_succ tab stdI 2999 128 [] [.int .i64 i] H.emp (fun v _ => some v) tab_128, e128_f, List.append_nil]
  have h2 : outT i = outT (i % 8) := by rw [h1, h1]; exact low _ _ _ _ _ (by omega)
  rw [h2]
  have h3 : i % 8 = 0 ∨ i % 8 = 1 ∨ i % 8 = 2 ∨ i % 8 = 3 ∨ i % 8 = 4 ∨ i % 8 = 5 ∨ i % 8 = 6 ∨ i % 8 = 7 := by omega
  rcases h3 with h | h | h | h | h | h | h | h <;> rw [h]
  · exact isT_eq t0
  · exact isT_eq t1
  · exact isT_eq t2
  · exact isT_eq t3
  · exact isT_eq t4
  · exact isT_eq t5
  · exact isT_eq t6
  · exact isT_eq t7
end Am.F

namespace Go.Proofs.YteamgokmnjajdaaDoor.needLists
open Go.ChangeShapes Go.WideShapes Go.ChangeAt Go.RowKit

theorem own : ownKnob Tryd.prog.godebug = none := by kernel_rfl
theorem gTab : Tryd.prog.globalNamed "internal/strconv.uint64pow10" = some 0 := by kernel_rfl
theorem gTabType : (Tryd.prog.globals[0]?).map (·.type) = some 194 := by kernel_rfl
theorem cells194 : Tryd.prog.cellsOf 194 = 20 := by kernel_rfl
theorem cellsE : Tryd.prog.cellsOf 117 = 1 := by kernel_rfl

theorem table {W : World} (h : laidMetH Tryd.prog Rows.needListsRow.laid W) : Lib.TabIs Tryd.prog W "internal/strconv.uint64pow10" .u64 Lib.pow10Tab :=
  Lib.tabIs_of_head (rest := []) gTab gTabType Tryd.underlying194 Tryd.underlying117 cellsE cells194 (Am.laidMet_tail (Am.laidMet_tail h))

theorem contract (H : Type) (enc : TypeId × Value → H) (W : World) (base : Nat) (args : Array Value) (ds gs : List (DataW H)) (before : List MemPlace)
    (hval : ∀ (j : Nat) t v, Tryd.f12.params[j]? = some t → args[j]? = some v → Value.okWide Tryd.prog W .any base t v)
    (hW : DataW.Whole enc Tryd.prog Tryd.f12.params.toList Rows.needListsSpec.vars false W args.toList ds gs before) (hL : laidMetH Tryd.prog Rows.needListsRow.laid W) :
    Calls Tryd.prog 12 args W fun e W' => ∃ v, e = .returned v ∧ Rows.needListsSpec.post enc Tryd.prog Tryd.f12 false true false false W args v W' := by
  have hW' := hW
  obtain ⟨p, q, hA0, hV, rfl, hfz, hnd⟩ := hW
  have hA : DataW.TrodAll enc Tryd.prog W 0 (fun _ => true) true Tryd.f12.params.toList args.toList ds p := hA0
  rw [Tryd.params12] at hA hval
  obtain ⟨v0, vs0, d0, ds0, p0, q0, hargs, rfl, rfl, h0, r0⟩ := trodAll_cons hA
  obtain ⟨rfl, rfl, rfl⟩ := trodAll_nil r0
  obtain rfl : args = #[v0] := by cases args; simp_all
  obtain ⟨rfl, rfl⟩ := trodVars_none hV
  obtain ⟨n, rfl, rfl, rfl, hn⟩ := open_int Tryd.underlying3 (hval 0 3 v0 rfl rfl) h0
  clear hA0
  simp only [List.append_nil] at hW'
  have walk := Am.am_call (P := Tryd.prog) (kf := Am.L.kf) (kt := Am.L.kt) Am.gtab_keeps Am.L.link Am.L.oks Am.F.iok (n := 2999 + 1) (f := 12) (us := [.int .i64 n]) (Am.F.out n) (Am.gtab_of gTab (table hL))
    (by simp [Am.VRs, Am.VR])
  refine walk.mono fun e W' ⟨⟨ext, u, he, hu⟩, ht⟩ => ?_
  simp only [Am.VR] at hu
  subst hu he
  exact ⟨_, rfl, Am.post_turned (pa := []) (pv := []) hW' (fun _ _ _ => trodAll_cons_mk (shut_bool Tryd.underlying4 _) trodAll_mk0) (fun _ _ => trodAll_cons_mk (shut_int Tryd.underlying3 hn) trodAll_mk0) (fun _ _ => rfl) ht⟩def put2 (o : Obj) : Obj := match o with
  | .cells _ t frozen => .cells #[.int .u8 0, .int .u8 1, .int .u8 28, .int .u8 2, .int .u8 29, .int .u8 14, .int .u8 24, .int .u8 3, .int .u8 30, .int .u8 22, .int .u8 20, .int .u8 15, .int .u8 25, .int .u8 17, .int .u8 4, .int .u8 8, .int .u8 31, .int .u8 27, .int .u8 13, .int .u8 23, .int .u8 21, .int .u8 19, .int .u8 16, .int .u8 7, .int .u8 26, .int .u8 12, .int .u8 18, .int .u8 6, .int .u8 11, .int .u8 5, .int .u8 10, .int .u8 9] t frozen
  | o => o
def put3 (o : Obj) : Obj := match o with
  | .cells _ t frozen => .cells #[.int .u8 0, .int .u8 1, .int .u8 56, .int .u8 2, .int .u8 57, .int .u8 49, .int .u8 28, .int .u8 3, .int .u8 61, .int .u8 58, .int .u8 42, .int .u8 50, .int .u8 38, .int .u8 29, .int .u8 17, .int .u8 4, .int .u8 62, .int .u8 47, .int .u8 59, .int .u8 36, .int .u8 45, .int .u8 43, .int .u8 51, .int .u8 22, .int .u8 53, .int .u8 39, .int .u8 33, .int .u8 30, .int .u8 24, .int .u8 18, .int .u8 12, .int .u8 5, .int .u8 63, .int .u8 55, .int .u8 48, .int .u8 27, .int .u8 60, .int .u8 41, .int .u8 37, .int .u8 16, .int .u8 46, .int .u8 35, .int .u8 44, .int .u8 21, .int .u8 52, .int .u8 32, .int .u8 23, .int .u8 11, .int .u8 54, .int .u8 26, .int .u8 40, .int .u8 15, .int .u8 34, .int .u8 20, .int .u8 31, .int .u8 10, .int .u8 25, .int .u8 14, .int .u8 19, .int .u8 9, .int .u8 13, .int .u8 8, .int .u8 7, .int .u8 6] t frozen
  | o => o
def put0 (o : Obj) : Obj := match o with
  | .cells _ t frozen => .cells #[.int .u64 1, .int .u64 10, .int .u64 100, .int .u64 1000, .int .u64 10000, .int .u64 100000, .int .u64 1000000, .int .u64 10000000, .int .u64 100000000, .int .u64 1000000000, .int .u64 10000000000, .int .u64 100000000000, .int .u64 1000000000000, .int .u64 10000000000000, .int .u64 100000000000000, .int .u64 1000000000000000, .int .u64 10000000000000000, .int .u64 100000000000000000, .int .u64 1000000000000000000, .int .u64 10000000000000000000] t frozen
  | o => o

noncomputable def laidWorld (os : Os) : World :=
  { World.holding Tryd.prog os ⟨#[], #[], []⟩ with heap := ((((World.holding Tryd.prog os ⟨#[], #[], []⟩).heap.modify 2 put2).modify 3 put3).modify 0 put0) }
theorem laid_met (os : Os) : laidMet Tryd.prog Rows.needListsRow.laid ((laidWorld os).forCall (fun _ _ => 0) ⟨#[], #[.int .i64 0], []⟩).memory :=
  laidMet_of_run' 8 (by kernel_rfl) (by kernel_rfl)
theorem reads (os : Os) {H : Type} (enc : TypeId × Value → H) : ∃ places, DataW.whole enc Tryd.prog ((laidWorld os).forCall (fun _ _ => 0) ⟨#[], #[.int .i64 0], []⟩).memory Tryd.f12.params.toList Rows.needListsSpec.vars false #[.int .i64 0].toList 8 = some ([.lit (.int .i64 0)], [], places) :=
  ⟨[], by kernel_rfl⟩

theorem lifted (os : Os) (started : os.Started) (H : Type) (enc : TypeId × Value → H) (F : Stop.Interp) :
    ReturnsInHanded {} Tryd.checked os 12 .any ((OpenSpec.ofChange Rows.needListsSpec).preRow enc Tryd.prog Tryd.f12 Rows.needListsRow.domain false Rows.needListsRow.laid) (((OpenSpec.ofChange Rows.needListsSpec).at F).post enc Tryd.prog Tryd.f12 false true false false) := by
  obtain ⟨places, hx⟩ := reads os enc
  refine returnsInHanded_of_row (C := Tryd.checked) (s := (OpenSpec.ofChange Rows.needListsSpec)) own started (by kernel_rfl) Tryd.func12
    (witness_row_at (enc := enc) (C := Tryd.checked) false (laidWorld os) #[.int .i64 0] rfl (by kernel_rfl) (by kernel_rfl) (by kernel_rfl)
      (OpenSpec.preRow_of_cond 8 hx (by kernel_rfl) (fun k hk => by cases hk) (by kernel_rfl) (laid_met os))) ?_
  intro W base args ds gs before hval hW _ _ _ hL _ _
  exact contract H enc W base args ds gs before hval hW hL

theorem said : Rows.NeedListsSaid :=
  OpenClaim.holds_of_cond 12 Tryd.f12 rfl rfl rfl rfl rfl rfl rfl ⟨rfl, rfl, rfl, rfl, rfl⟩ rfl rfl rfl rfl rfl (by kernel_rfl) Tryd.func12 (by kernel_rfl)
    (of_decide_eq_true (by kernel_rfl)) (by unfold Func.isWrapper; first | (rw [if_pos (by decide +kernel)]; kernel_rfl) | (rw [if_neg (by decide +kernel)]; exact ⟨rfl, rfl⟩))
    (fun os started H enc _ F => by rw [OpenClaim.pre_eq_preRow]; exact lifted os started H enc F)

theorem plain (f : FuncId) (fn : Func) (hf : Tryd.pinned.checked.prog.funcNamed "sleuth/sleuthlaw11.NeedLists" = some f) (hfn : Tryd.pinned.checked.prog.funcs[f]? = some fn) :
    false = Tryd.pinned.checked.prog.looks [] ∧ ∀ (j : Nat) t, fn.params[j]? = some t → Tryd.pinned.checked.prog.wantsStandIn t = false := by
  obtain rfl : f = 12 := Option.some.inj ((show Tryd.prog.funcNamed "sleuth/sleuthlaw11.NeedLists" = some 12 by kernel_rfl).symm.trans hf) |>.symm
  obtain rfl : fn = Tryd.f12 := (Option.some.inj (Tryd.func12.symm.trans hfn)).symm
  refine ⟨by kernel_rfl, fun j t ht => ?_⟩
  rw [Tryd.params12] at ht
  have hm := Array.mem_of_getElem? ht
  simp only [List.mem_toArray, List.mem_cons, List.not_mem_nil, or_false] at hm
  subst hm; exact (show Tryd.prog.wantsStandIn 3 = false by kernel_rfl)

theorem card : Rows.NeedListsCardSaid :=
  Claim7.holds_tied_plain_at .later [] _ _ _ _ said (fun _ h => by cases h) (by kernel_rfl) (fun _ h => by cases h) needLists_row_tie rfl ⟨rfl, rfl⟩ (by kernel_rfl) rfl plain (by kernel_rfl)

end Go.Proofs.YteamgokmnjajdaaDoor.needLists
