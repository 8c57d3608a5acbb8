/- The law NeedForms of chapter 11 answers true, whatever numbers it is given: no condition. -/
import Derived.Test.YteamgokmnjajdaaDoorAmZ11Link
import Derived.Test.YteamgokmnjajdaaDoorAmBits
import Derived.Test.YteamgokmnjajdaaDoorCards
import Derived.Test.YteamgokmnjajdaaDoorTie
import Derived.WalkKit
import Derived.ProofKit
import Derived.Deep.DeepHandedRow
set_option maxRecDepth 100000

namespace Am.F
open Go Am
def isT (o : Option AV) : Bool := match o with | some (.bool true) => true | _ => false
theorem isT_eq {o : Option AV} (h : isT o = true) : o = some (.bool true) := by
  unfold isT at h; split at h
  · rfl
  · cases h
noncomputable abbrev outT (i x : Int) : Option AV := fRunS tab stdI (2999 + 1) (.fn 121 []) [.int .i64 i, .int .i64 x] H.emp fun v _ => some v

theorem e121_f {β : Type} (I : FI) (N : Nat) (call : FCall β) (a : List AV) (h : H) (k : K β) : e121.f β I N call a h k = f121_sleuthlaw11_NeedForms N call a h k := rfl
theorem tab_121 : tab.get 121 = some e121 := by kernel_rfl

theorem out (i x : Int) : outT i x = some (.bool true) := by
  apply isT_eq
  rw [outT, fRunS_succ tab stdI 2999 121 [] [.int .i64 i, .int .i64 x] H.emp (fun v _ => some v) tab_121, e121_f, List.append_nil]
  obtain ⟨m, hm⟩ : ∃ m : Nat, x % ((2 ^ 10 : Nat) : Int) = m := Int.eq_ofNat_of_zero_le (by omega)
  have hb : (m : Int) < 1024 := by omega
  have w1 : IntKind.i64.wrap (1 + (m : Int)) = .ofNat (Nat.add m 1) := by rw [wrap_i64 (by omega) (by omega)]; show _ = ((m + 1 : Nat) : Int); omega
  have w2 : IntKind.i64.wrap (0 - Int.ofNat (Nat.add m 1)) = .negSucc m := by
    have : (Int.ofNat (Nat.add m 1) : Int) = (m : Int) + 1 := by show ((m + 1 : Nat) : Int) = _; omega
    rw [this, wrap_i64 (by omega) (by omega), Int.negSucc_eq]; omega
  have w3 : IntKind.i64.wrap (400 + Int.ofNat (Nat.add m 1)) = .ofNat (Nat.add m 401) := by
    have : (Int.ofNat (Nat.add m 1) : Int) = (m : Int) + 1 := by show ((m + 1 : Nat) : Int) = _; omega
    rw [this, wrap_i64 (by omega) (by omega)]; show _ = ((m + 401 : Nat) : Int); omega
  unfold f121_sleuthlaw11_NeedForms
  have h3 : i % ((2 ^ 2 : Nat) : Int) = 0 ∨ i % ((2 ^ 2 : Nat) : Int) = 1 ∨ i % ((2 ^ 2 : Nat) : Int) = 2 ∨ i % ((2 ^ 2 : Nat) : Int) = 3 := by omega
  simp only [fJoin, show nth [AV.int .i64 i, AV.int .i64 x] 0 = .int .i64 i from rfl, show nth [AV.int .i64 i, AV.int .i64 x] 1 = .int .i64 x from rfl,
    pBin_and 1023 10 rfl (by decide), pBin_and 3 2 rfl (by decide), pAdd_int, pNeg_int, hm, w1, w2, w3]
  clear w1 w2 w3 hb hm
  rcases h3 with h | h | h | h <;> rw [h] <;> clear h
  · show isT _ = true; kernel_rfl
  · show isT _ = true; kernel_rfl
  · show isT _ = true; kernel_rfl
  · show isT _ = true; kernel_rfl
end Am.F

namespace Go.Proofs.YteamgokmnjajdaaDoor.needForms
open Go.ChangeShapes Go.WideShapes Go.ChangeAt Go.RowKit

theorem own : ownKnob Tryd.prog.godebug = none := by kernel_rfl
theorem gTab : Tryd.prog.globalNamed "internal/strconv.uint64pow10" = some 0 := by kernel_rfl
theorem gTabType : (Tryd.prog.globals[0]?).map (·.type) = some 194 := by kernel_rfl
theorem cells194 : Tryd.prog.cellsOf 194 = 20 := by kernel_rfl
theorem cellsE : Tryd.prog.cellsOf 117 = 1 := by kernel_rfl

theorem table {W : World} (h : laidMetH Tryd.prog Rows.needFormsRow.laid W) : Lib.TabIs Tryd.prog W "internal/strconv.uint64pow10" .u64 Lib.pow10Tab :=
  Lib.tabIs_of_head (rest := []) gTab gTabType Tryd.underlying194 Tryd.underlying117 cellsE cells194 (Am.laidMet_tail (Am.laidMet_tail h))

theorem contract (H : Type) (enc : TypeId × Value → H) (W : World) (base : Nat) (args : Array Value) (ds gs : List (DataW H)) (before : List MemPlace)
    (hval : ∀ (j : Nat) t v, Tryd.f5.params[j]? = some t → args[j]? = some v → Value.okWide Tryd.prog W .any base t v)
    (hW : DataW.Whole enc Tryd.prog Tryd.f5.params.toList Rows.needFormsSpec.vars false W args.toList ds gs before) (hL : laidMetH Tryd.prog Rows.needFormsRow.laid W) :
    Calls Tryd.prog 5 args W fun e W' => ∃ v, e = .returned v ∧ Rows.needFormsSpec.post enc Tryd.prog Tryd.f5 false true false false W args v W' := by
  have hW' := hW
  obtain ⟨p, q, hA0, hV, rfl, hfz, hnd⟩ := hW
  have hA : DataW.TrodAll enc Tryd.prog W 0 (fun _ => true) true Tryd.f5.params.toList args.toList ds p := hA0
  rw [Tryd.params5] at hA hval
  obtain ⟨v0, vs0, d0, ds0, p0, q0, hargs, rfl, rfl, h0, r0⟩ := trodAll_cons hA
  obtain ⟨v1, vs1, d1, ds1, p1, q1, rfl, rfl, rfl, h1, r1⟩ := trodAll_cons r0
  obtain ⟨rfl, rfl, rfl⟩ := trodAll_nil r1
  obtain rfl : args = #[v0, v1] := by cases args; simp_all
  obtain ⟨rfl, rfl⟩ := trodVars_none hV
  obtain ⟨n, rfl, rfl, rfl, hn⟩ := open_int Tryd.underlying3 (hval 0 3 v0 rfl rfl) h0
  obtain ⟨n', rfl, rfl, rfl, hn'⟩ := open_int Tryd.underlying3 (hval 1 3 v1 rfl rfl) h1
  clear hA0
  simp only [List.append_nil] at hW'
  have walk := Am.am_call (P := Tryd.prog) (kf := Am.L.kf) (kt := Am.L.kt) Am.gtab_keeps Am.L.link Am.L.oks Am.F.iok (n := 2999 + 1) (f := 5) (us := [.int .i64 n, .int .i64 n']) (Am.F.out n n') (Am.gtab_of gTab (table hL))
    (by simp [Am.VRs, Am.VR])
  refine walk.mono fun e W' ⟨⟨ext, u, he, hu⟩, ht⟩ => ?_
  simp only [Am.VR] at hu
  subst hu he
  exact ⟨_, rfl, Am.post_turned (pa := []) (pv := []) hW' (fun _ _ _ => trodAll_cons_mk (shut_bool Tryd.underlying4 _) trodAll_mk0) (fun _ _ => trodAll_cons_mk (shut_int Tryd.underlying3 hn) (trodAll_cons_mk (shut_int Tryd.underlying3 hn') trodAll_mk0)) (fun _ _ => rfl) ht⟩def put2 (o : Obj) : Obj := match o with
  | .cells _ t frozen => .cells #[.int .u8 0, .int .u8 1, .int .u8 28, .int .u8 2, .int .u8 29, .int .u8 14, .int .u8 24, .int .u8 3, .int .u8 30, .int .u8 22, .int .u8 20, .int .u8 15, .int .u8 25, .int .u8 17, .int .u8 4, .int .u8 8, .int .u8 31, .int .u8 27, .int .u8 13, .int .u8 23, .int .u8 21, .int .u8 19, .int .u8 16, .int .u8 7, .int .u8 26, .int .u8 12, .int .u8 18, .int .u8 6, .int .u8 11, .int .u8 5, .int .u8 10, .int .u8 9] t frozen
  | o => o
def put3 (o : Obj) : Obj := match o with
  | .cells _ t frozen => .cells #[.int .u8 0, .int .u8 1, .int .u8 56, .int .u8 2, .int .u8 57, .int .u8 49, .int .u8 28, .int .u8 3, .int .u8 61, .int .u8 58, .int .u8 42, .int .u8 50, .int .u8 38, .int .u8 29, .int .u8 17, .int .u8 4, .int .u8 62, .int .u8 47, .int .u8 59, .int .u8 36, .int .u8 45, .int .u8 43, .int .u8 51, .int .u8 22, .int .u8 53, .int .u8 39, .int .u8 33, .int .u8 30, .int .u8 24, .int .u8 18, .int .u8 12, .int .u8 5, .int .u8 63, .int .u8 55, .int .u8 48, .int .u8 27, .int .u8 60, .int .u8 41, .int .u8 37, .int .u8 16, .int .u8 46, .int .u8 35, .int .u8 44, .int .u8 21, .int .u8 52, .int .u8 32, .int .u8 23, .int .u8 11, .int .u8 54, .int .u8 26, .int .u8 40, .int .u8 15, .int .u8 34, .int .u8 20, .int .u8 31, .int .u8 10, .int .u8 25, .int .u8 14, .int .u8 19, .int .u8 9, .int .u8 13, .int .u8 8, .int .u8 7, .int .u8 6] t frozen
  | o => o
def put0 (o : Obj) : Obj := match o with
  | .cells _ t frozen => .cells #[.int .u64 1, .int .u64 10, .int .u64 100, .int .u64 1000, .int .u64 10000, .int .u64 100000, .int .u64 1000000, .int .u64 10000000, .int .u64 100000000, .int .u64 1000000000, .int .u64 10000000000, .int .u64 100000000000, .int .u64 1000000000000, .int .u64 10000000000000, .int .u64 100000000000000, .int .u64 1000000000000000, .int .u64 10000000000000000, .int .u64 100000000000000000, .int .u64 1000000000000000000, .int .u64 10000000000000000000] t frozen
  | o => o

noncomputable def laidWorld (os : Os) : World :=
  { World.holding Tryd.prog os ⟨#[], #[], []⟩ with heap := ((((World.holding Tryd.prog os ⟨#[], #[], []⟩).heap.modify 2 put2).modify 3 put3).modify 0 put0) }
theorem laid_met (os : Os) : laidMet Tryd.prog Rows.needFormsRow.laid ((laidWorld os).forCall (fun _ _ => 0) ⟨#[], #[.int .i64 0, .int .i64 0], []⟩).memory :=
  laidMet_of_run' 8 (by kernel_rfl) (by kernel_rfl)
theorem reads (os : Os) {H : Type} (enc : TypeId × Value → H) : ∃ places, DataW.whole enc Tryd.prog ((laidWorld os).forCall (fun _ _ => 0) ⟨#[], #[.int .i64 0, .int .i64 0], []⟩).memory Tryd.f5.params.toList Rows.needFormsSpec.vars false #[.int .i64 0, .int .i64 0].toList 8 = some ([.lit (.int .i64 0), .lit (.int .i64 0)], [], places) :=
  ⟨[], by kernel_rfl⟩

theorem lifted (os : Os) (started : os.Started) (H : Type) (enc : TypeId × Value → H) (F : Stop.Interp) :
    ReturnsInHanded {} Tryd.checked os 5 .any ((OpenSpec.ofChange Rows.needFormsSpec).preRow enc Tryd.prog Tryd.f5 Rows.needFormsRow.domain false Rows.needFormsRow.laid) (((OpenSpec.ofChange Rows.needFormsSpec).at F).post enc Tryd.prog Tryd.f5 false true false false) := by
  obtain ⟨places, hx⟩ := reads os enc
  refine returnsInHanded_of_row (C := Tryd.checked) (s := (OpenSpec.ofChange Rows.needFormsSpec)) own started (by kernel_rfl) Tryd.func5
    (witness_row_at (enc := enc) (C := Tryd.checked) false (laidWorld os) #[.int .i64 0, .int .i64 0] rfl (by kernel_rfl) (by kernel_rfl) (by kernel_rfl)
      (OpenSpec.preRow_of_cond 8 hx (by kernel_rfl) (fun k hk => by cases hk) (by kernel_rfl) (laid_met os))) ?_
  intro W base args ds gs before hval hW _ _ _ hL _ _
  exact contract H enc W base args ds gs before hval hW hL

theorem said : Rows.NeedFormsSaid :=
  OpenClaim.holds_of_cond 5 Tryd.f5 rfl rfl rfl rfl rfl rfl rfl ⟨rfl, rfl, rfl, rfl, rfl⟩ rfl rfl rfl rfl rfl (by kernel_rfl) Tryd.func5 (by kernel_rfl)
    (of_decide_eq_true (by kernel_rfl)) (by unfold Func.isWrapper; first | (rw [if_pos (by decide +kernel)]; kernel_rfl) | (rw [if_neg (by decide +kernel)]; exact ⟨rfl, rfl⟩))
    (fun os started H enc _ F => by rw [OpenClaim.pre_eq_preRow]; exact lifted os started H enc F)

theorem plain (f : FuncId) (fn : Func) (hf : Tryd.pinned.checked.prog.funcNamed "sleuth/sleuthlaw11.NeedForms" = some f) (hfn : Tryd.pinned.checked.prog.funcs[f]? = some fn) :
    false = Tryd.pinned.checked.prog.looks [] ∧ ∀ (j : Nat) t, fn.params[j]? = some t → Tryd.pinned.checked.prog.wantsStandIn t = false := by
  obtain rfl : f = 5 := Option.some.inj ((show Tryd.prog.funcNamed "sleuth/sleuthlaw11.NeedForms" = some 5 by kernel_rfl).symm.trans hf) |>.symm
  obtain rfl : fn = Tryd.f5 := (Option.some.inj (Tryd.func5.symm.trans hfn)).symm
  refine ⟨by kernel_rfl, fun j t ht => ?_⟩
  rw [Tryd.params5] at ht
  have hm := Array.mem_of_getElem? ht
  simp only [List.mem_toArray, List.mem_cons, List.not_mem_nil, or_false] at hm
  rcases hm with rfl | rfl
  · exact (show Tryd.prog.wantsStandIn 3 = false by kernel_rfl)
  · exact (show Tryd.prog.wantsStandIn 3 = false by kernel_rfl)

theorem card : Rows.NeedFormsCardSaid :=
  Claim7.holds_tied_plain_at .later [] _ _ _ _ said (fun _ h => by cases h) (by kernel_rfl) (fun _ h => by cases h) needForms_row_tie rfl ⟨rfl, rfl⟩ (by kernel_rfl) rfl plain (by kernel_rfl)

end Go.Proofs.YteamgokmnjajdaaDoor.needForms
