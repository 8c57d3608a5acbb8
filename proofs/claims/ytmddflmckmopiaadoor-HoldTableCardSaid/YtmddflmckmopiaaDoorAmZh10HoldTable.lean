/- The law HoldTable answers true, whatever numbers it is given: no condition. -/
import Derived.Test.YtmddflmckmopiaaDoorAmZh10Link
import Derived.Test.YtmddflmckmopiaaDoorAmJd
import Derived.Test.YtmddflmckmopiaaDoorCards
import Derived.Test.YtmddflmckmopiaaDoorTie
import Derived.WalkKit
import Derived.ProofKit
import Derived.Deep.DeepHandedRow
set_option maxRecDepth 100000
namespace Am.F
open Go Am
def isT (o : Option AV) : Bool := match o with | some (.bool true) => true | _ => false
theorem isT_eq {o : Option AV} (h : isT o = true) : o = some (.bool true) := by
  unfold isT at h; split at h
  · rfl
  · cases h
noncomputable abbrev outT (i : Int) : Option AV := fRunS tab stdI (2999 + 1) (.fn 132 []) [.int .i64 i] H.emp fun v _ => some v
theorem eK_f {β : Type} (I : FI) (N : Nat) (call : FCall β) (a : List AV) (h : H) (k : K β) : e132.f β I N call a h k = f132 N call a h k := rfl
theorem tab_K : tab.get 132 = some e132 := by kernel_rfl
theorem fJoin_n {β : Type} (n : Nat) (j : Cur β n) (b : Cur β n → Option β) : fJoin n j b = b j := (Eq.refl (fJoin n j b) : fJoin n j b = b j).trans (Eq.refl _)
theorem nth_n0 (a : AV) (r : List AV) : nth (a :: r) 0 = a := (Eq.refl (nth (a :: r) 0) : nth (a :: r) 0 = a).trans (Eq.refl _)
theorem nth_n1 (a b : AV) (r : List AV) : nth (a :: b :: r) 1 = b := (Eq.refl (nth (a :: b :: r) 1) : nth (a :: b :: r) 1 = b).trans (Eq.refl _)
set_option maxHeartbeats 0 in
theorem case0 (i : Int) (h : i % ((2 ^ 4 : Nat) : Int) = 0) : outT i = some (.bool true) := by
  apply isT_eq
  rw [outT, fRunS_succ tab stdI 2999 132 [] [.int .i64 i] H.emp (fun v _ => some v) tab_K, eK_f, List.append_nil]
  unfold f132
  simp only [fJoin_n, nth_n0, pBin_and 15 4 rfl (by decide)]
  rw [h]; clear h
  show isT _ = true; kernel_rfl
set_option maxHeartbeats 0 in
theorem case1 (i : Int) (h : i % ((2 ^ 4 : Nat) : Int) = 1) : outT i = some (.bool true) := by
  apply isT_eq
  rw [outT, fRunS_succ tab stdI 2999 132 [] [.int .i64 i] H.emp (fun v _ => some v) tab_K, eK_f, List.append_nil]
  unfold f132
  simp only [fJoin_n, nth_n0, pBin_and 15 4 rfl (by decide)]
  rw [h]; clear h
  show isT _ = true; kernel_rfl
set_option maxHeartbeats 0 in
theorem case2 (i : Int) (h : i % ((2 ^ 4 : Nat) : Int) = 2) : outT i = some (.bool true) := by
  apply isT_eq
  rw [outT, fRunS_succ tab stdI 2999 132 [] [.int .i64 i] H.emp (fun v _ => some v) tab_K, eK_f, List.append_nil]
  unfold f132
  simp only [fJoin_n, nth_n0, pBin_and 15 4 rfl (by decide)]
  rw [h]; clear h
  show isT _ = true; kernel_rfl
set_option maxHeartbeats 0 in
theorem case3 (i : Int) (h : i % ((2 ^ 4 : Nat) : Int) = 3) : outT i = some (.bool true) := by
  apply isT_eq
  rw [outT, fRunS_succ tab stdI 2999 132 [] [.int .i64 i] H.emp (fun v _ => some v) tab_K, eK_f, List.append_nil]
  unfold f132
  simp only [fJoin_n, nth_n0, pBin_and 15 4 rfl (by decide)]
  rw [h]; clear h
  show isT _ = true; kernel_rfl
set_option maxHeartbeats 0 in
theorem case4 (i : Int) (h : i % ((2 ^ 4 : Nat) : Int) = 4) : outT i = some (.bool true) := by
  apply isT_eq
  rw [outT, fRunS_succ tab stdI 2999 132 [] [.int .i64 i] H.emp (fun v _ => some v) tab_K, eK_f, List.append_nil]
  unfold f132
  simp only [fJoin_n, nth_n0, pBin_and 15 4 rfl (by decide)]
  rw [h]; clear h
  show isT _ = true; kernel_rfl
set_option maxHeartbeats 0 in
theorem case5 (i : Int) (h : i % ((2 ^ 4 : Nat) : Int) = 5) : outT i = some (.bool true) := by
  apply isT_eq
  rw [outT, fRunS_succ tab stdI 2999 132 [] [.int .i64 i] H.emp (fun v _ => some v) tab_K, eK_f, List.append_nil]
  unfold f132
  simp only [fJoin_n, nth_n0, pBin_and 15 4 rfl (by decide)]
  rw [h]; clear h
  show isT _ = true; kernel_rfl
set_option maxHeartbeats 0 in
theorem case6 (i : Int) (h : i % ((2 ^ 4 : Nat) : Int) = 6) : outT i = some (.bool true) := by
  apply isT_eq
  rw [outT, fRunS_succ tab stdI 2999 132 [] [.int .i64 i] H.emp (fun v _ => some v) tab_K, eK_f, List.append_nil]
  unfold f132
  simp only [fJoin_n, nth_n0, pBin_and 15 4 rfl (by decide)]
  rw [h]; clear h
  show isT _ = true; kernel_rfl
set_option maxHeartbeats 0 in
theorem case7 (i : Int) (h : i % ((2 ^ 4 : Nat) : Int) = 7) : outT i = some (.bool true) := by
  apply isT_eq
  rw [outT, fRunS_succ tab stdI 2999 132 [] [.int .i64 i] H.emp (fun v _ => some v) tab_K, eK_f, List.append_nil]
  unfold f132
  simp only [fJoin_n, nth_n0, pBin_and 15 4 rfl (by decide)]
  rw [h]; clear h
  show isT _ = true; kernel_rfl
set_option maxHeartbeats 0 in
theorem case8 (i : Int) (h : i % ((2 ^ 4 : Nat) : Int) = 8) : outT i = some (.bool true) := by
  apply isT_eq
  rw [outT, fRunS_succ tab stdI 2999 132 [] [.int .i64 i] H.emp (fun v _ => some v) tab_K, eK_f, List.append_nil]
  unfold f132
  simp only [fJoin_n, nth_n0, pBin_and 15 4 rfl (by decide)]
  rw [h]; clear h
  show isT _ = true; kernel_rfl
set_option maxHeartbeats 0 in
theorem case9 (i : Int) (h : i % ((2 ^ 4 : Nat) : Int) = 9) : outT i = some (.bool true) := by
  apply isT_eq
  rw [outT, fRunS_succ tab stdI 2999 132 [] [.int .i64 i] H.emp (fun v _ => some v) tab_K, eK_f, List.append_nil]
  unfold f132
  simp only [fJoin_n, nth_n0, pBin_and 15 4 rfl (by decide)]
  rw [h]; clear h
  show isT _ = true; kernel_rfl
set_option maxHeartbeats 0 in
theorem case10 (i : Int) (h : i % ((2 ^ 4 : Nat) : Int) = 10) : outT i = some (.bool true) := by
  apply isT_eq
  rw [outT, fRunS_succ tab stdI 2999 132 [] [.int .i64 i] H.emp (fun v _ => some v) tab_K, eK_f, List.append_nil]
  unfold f132
  simp only [fJoin_n, nth_n0, pBin_and 15 4 rfl (by decide)]
  rw [h]; clear h
  show isT _ = true; kernel_rfl
set_option maxHeartbeats 0 in
theorem case11 (i : Int) (h : i % ((2 ^ 4 : Nat) : Int) = 11) : outT i = some (.bool true) := by
  apply isT_eq
  rw [outT, fRunS_succ tab stdI 2999 132 [] [.int .i64 i] H.emp (fun v _ => some v) tab_K, eK_f, List.append_nil]
  unfold f132
  simp only [fJoin_n, nth_n0, pBin_and 15 4 rfl (by decide)]
  rw [h]; clear h
  show isT _ = true; kernel_rfl
set_option maxHeartbeats 0 in
theorem case12 (i : Int) (h : i % ((2 ^ 4 : Nat) : Int) = 12) : outT i = some (.bool true) := by
  apply isT_eq
  rw [outT, fRunS_succ tab stdI 2999 132 [] [.int .i64 i] H.emp (fun v _ => some v) tab_K, eK_f, List.append_nil]
  unfold f132
  simp only [fJoin_n, nth_n0, pBin_and 15 4 rfl (by decide)]
  rw [h]; clear h
  show isT _ = true; kernel_rfl
set_option maxHeartbeats 0 in
theorem case13 (i : Int) (h : i % ((2 ^ 4 : Nat) : Int) = 13) : outT i = some (.bool true) := by
  apply isT_eq
  rw [outT, fRunS_succ tab stdI 2999 132 [] [.int .i64 i] H.emp (fun v _ => some v) tab_K, eK_f, List.append_nil]
  unfold f132
  simp only [fJoin_n, nth_n0, pBin_and 15 4 rfl (by decide)]
  rw [h]; clear h
  show isT _ = true; kernel_rfl
set_option maxHeartbeats 0 in
theorem case14 (i : Int) (h : i % ((2 ^ 4 : Nat) : Int) = 14) : outT i = some (.bool true) := by
  apply isT_eq
  rw [outT, fRunS_succ tab stdI 2999 132 [] [.int .i64 i] H.emp (fun v _ => some v) tab_K, eK_f, List.append_nil]
  unfold f132
  simp only [fJoin_n, nth_n0, pBin_and 15 4 rfl (by decide)]
  rw [h]; clear h
  show isT _ = true; kernel_rfl
set_option maxHeartbeats 0 in
theorem case15 (i : Int) (h : i % ((2 ^ 4 : Nat) : Int) = 15) : outT i = some (.bool true) := by
  apply isT_eq
  rw [outT, fRunS_succ tab stdI 2999 132 [] [.int .i64 i] H.emp (fun v _ => some v) tab_K, eK_f, List.append_nil]
  unfold f132
  simp only [fJoin_n, nth_n0, pBin_and 15 4 rfl (by decide)]
  rw [h]; clear h
  show isT _ = true; kernel_rfl
theorem out (i : Int) : outT i = some (.bool true) := by
  have h : i % ((2 ^ 4 : Nat) : Int) = 0 ∨ i % ((2 ^ 4 : Nat) : Int) = 1 ∨ i % ((2 ^ 4 : Nat) : Int) = 2 ∨ i % ((2 ^ 4 : Nat) : Int) = 3 ∨ i % ((2 ^ 4 : Nat) : Int) = 4 ∨ i % ((2 ^ 4 : Nat) : Int) = 5 ∨ i % ((2 ^ 4 : Nat) : Int) = 6 ∨ i % ((2 ^ 4 : Nat) : Int) = 7 ∨ i % ((2 ^ 4 : Nat) : Int) = 8 ∨ i % ((2 ^ 4 : Nat) : Int) = 9 ∨ i % ((2 ^ 4 : Nat) : Int) = 10 ∨ i % ((2 ^ 4 : Nat) : Int) = 11 ∨ i % ((2 ^ 4 : Nat) : Int) = 12 ∨ i % ((2 ^ 4 : Nat) : Int) = 13 ∨ i % ((2 ^ 4 : Nat) : Int) = 14 ∨ i % ((2 ^ 4 : Nat) : Int) = 15 := by omega
  rcases h with h | h | h | h | h | h | h | h | h | h | h | h | h | h | h | h
  · exact case0 i h
  · exact case1 i h
  · exact case2 i h
  · exact case3 i h
  · exact case4 i h
  · exact case5 i h
  · exact case6 i h
  · exact case7 i h
  · exact case8 i h
  · exact case9 i h
  · exact case10 i h
  · exact case11 i h
  · exact case12 i h
  · exact case13 i h
  · exact case14 i h
  · exact case15 i h
end Am.F
namespace Go.Proofs.YtmddflmckmopiaaDoor.holdTable
open Go.ChangeShapes Go.WideShapes Go.ChangeAt Go.RowKit
theorem own : ownKnob Tryd.prog.godebug = none := by kernel_rfl
theorem gTab : Tryd.prog.globalNamed "internal/strconv.uint64pow10" = some 0 := by kernel_rfl
theorem gTabType : (Tryd.prog.globals[0]?).map (·.type) = some 135 := by kernel_rfl
theorem cellsT : Tryd.prog.cellsOf 135 = 20 := by kernel_rfl
theorem cellsE : Tryd.prog.cellsOf 55 = 1 := by kernel_rfl
theorem gSyn : Tryd.prog.globalNamed "strconv.ErrSyntax" = some 2 := by kernel_rfl
theorem gRng : Tryd.prog.globalNamed "strconv.ErrRange" = some 3 := by kernel_rfl
theorem good {W : World} (h : laidMetH Tryd.prog Rows.holdTableRow.laid W) : Am.L.GG Tryd.prog (Am.baseOf W) := by
  have h0 : laidMet Tryd.prog Rows.holdTableRow.laid W := cast (by kernel_rfl) h
  obtain ⟨tp1, p1, e1⟩ := Am.laid_iface (Am.laidMet_tail (Am.laidMet_tail (Am.laidMet_tail (Am.laidMet_tail h0)))) gSyn (t := 77) (by kernel_rfl) Tryd.underlying77
  obtain ⟨tp2, p2, e2⟩ := Am.laid_iface (Am.laidMet_tail (Am.laidMet_tail (Am.laidMet_tail h0))) gRng (t := 77) (by kernel_rfl) Tryd.underlying77
  exact ⟨Am.gtab_of gTab (Lib.tabIs_of_head gTab gTabType Tryd.underlying135 Tryd.underlying55 cellsE cellsT (Am.laidMet_tail (Am.laidMet_tail h0))), Am.gvar_of gSyn e1 ⟨_, _, rfl⟩, Am.gvar_of gRng e2 ⟨_, _, rfl⟩⟩
theorem contract (H : Type) (enc : TypeId × Value → H) (W : World) (base : Nat) (args : Array Value) (ds gs : List (DataW H)) (before : List MemPlace)
    (hval : ∀ (j : Nat) t v, Tryd.f8.params[j]? = some t → args[j]? = some v → Value.okWide Tryd.prog W .any base t v)
    (hW : DataW.Whole enc Tryd.prog Tryd.f8.params.toList Rows.holdTableSpec.vars false W args.toList ds gs before) (hL : laidMetH Tryd.prog Rows.holdTableRow.laid W) :
    Calls Tryd.prog 8 args W fun e W' => ∃ v, e = .returned v ∧ Rows.holdTableSpec.post enc Tryd.prog Tryd.f8 false true false false W args v W' := by
  have hW' := hW
  obtain ⟨p, q, hA0, hV, rfl, hfz, hnd⟩ := hW
  have hA : DataW.TrodAll enc Tryd.prog W 0 (fun _ => true) true Tryd.f8.params.toList args.toList ds p := hA0
  rw [Tryd.params8] at hA hval
  obtain ⟨v0, vs0, d0, ds0, p0, q0, hargs, rfl, rfl, h0, r0⟩ := trodAll_cons hA
  obtain ⟨rfl, rfl, rfl⟩ := trodAll_nil r0
  obtain rfl : args = #[v0] := by cases args; simp_all
  obtain ⟨rfl, rfl⟩ := trodVars_none hV
  obtain ⟨n0, rfl, rfl, rfl, hn0⟩ := open_int Tryd.underlying3 (hval 0 3 v0 rfl rfl) h0
  clear hA0
  simp only [List.append_nil] at hW'
  have walk := Am.am_call (P := Tryd.prog) (kf := Am.L.kf) (kt := Am.L.kt) Am.L.gg_keeps Am.L.link Am.L.oks Am.F.iok (n := 2999 + 1) (f := 8) (us := [.int .i64 n0]) (Am.F.out n0) (good hL)
    (by simp [Am.VRs, Am.VR])
  refine walk.mono fun e W' ⟨⟨ext, u, he, hu⟩, ht⟩ => ?_
  simp only [Am.VR] at hu
  subst hu he
  exact ⟨_, rfl, Am.post_turned (pa := []) (pv := []) hW' (fun _ _ _ => trodAll_cons_mk (shut_bool Tryd.underlying4 _) trodAll_mk0) (fun _ _ => (trodAll_cons_mk (shut_int Tryd.underlying3 hn0) trodAll_mk0)) (fun _ _ => rfl) ht⟩
noncomputable def lowN : Nat := (World.holding Tryd.prog default ⟨#[], #[], []⟩).heap.size
def put4 (o : Obj) : Obj := match o with
  | .cells _ t frozen => .cells #[.int .u8 0, .int .u8 1, .int .u8 28, .int .u8 2, .int .u8 29, .int .u8 14, .int .u8 24, .int .u8 3, .int .u8 30, .int .u8 22, .int .u8 20, .int .u8 15, .int .u8 25, .int .u8 17, .int .u8 4, .int .u8 8, .int .u8 31, .int .u8 27, .int .u8 13, .int .u8 23, .int .u8 21, .int .u8 19, .int .u8 16, .int .u8 7, .int .u8 26, .int .u8 12, .int .u8 18, .int .u8 6, .int .u8 11, .int .u8 5, .int .u8 10, .int .u8 9] t frozen
  | o => o
def put5 (o : Obj) : Obj := match o with
  | .cells _ t frozen => .cells #[.int .u8 0, .int .u8 1, .int .u8 56, .int .u8 2, .int .u8 57, .int .u8 49, .int .u8 28, .int .u8 3, .int .u8 61, .int .u8 58, .int .u8 42, .int .u8 50, .int .u8 38, .int .u8 29, .int .u8 17, .int .u8 4, .int .u8 62, .int .u8 47, .int .u8 59, .int .u8 36, .int .u8 45, .int .u8 43, .int .u8 51, .int .u8 22, .int .u8 53, .int .u8 39, .int .u8 33, .int .u8 30, .int .u8 24, .int .u8 18, .int .u8 12, .int .u8 5, .int .u8 63, .int .u8 55, .int .u8 48, .int .u8 27, .int .u8 60, .int .u8 41, .int .u8 37, .int .u8 16, .int .u8 46, .int .u8 35, .int .u8 44, .int .u8 21, .int .u8 52, .int .u8 32, .int .u8 23, .int .u8 11, .int .u8 54, .int .u8 26, .int .u8 40, .int .u8 15, .int .u8 34, .int .u8 20, .int .u8 31, .int .u8 10, .int .u8 25, .int .u8 14, .int .u8 19, .int .u8 9, .int .u8 13, .int .u8 8, .int .u8 7, .int .u8 6] t frozen
  | o => o
def put0 (o : Obj) : Obj := match o with
  | .cells _ t frozen => .cells #[.int .u64 1, .int .u64 10, .int .u64 100, .int .u64 1000, .int .u64 10000, .int .u64 100000, .int .u64 1000000, .int .u64 10000000, .int .u64 100000000, .int .u64 1000000000, .int .u64 10000000000, .int .u64 100000000000, .int .u64 1000000000000, .int .u64 10000000000000, .int .u64 100000000000000, .int .u64 1000000000000000, .int .u64 10000000000000000, .int .u64 100000000000000000, .int .u64 1000000000000000000, .int .u64 10000000000000000000] t frozen
  | o => o
noncomputable def put3 (o : Obj) : Obj := match o with
  | .cells _ t frozen => .cells #[.iface 162 (.pointer (some ⟨lowN + 0, 0, none⟩))] t frozen
  | o => o
noncomputable def put2 (o : Obj) : Obj := match o with
  | .cells _ t frozen => .cells #[.iface 162 (.pointer (some ⟨lowN + 1, 0, none⟩))] t frozen
  | o => o
noncomputable def laidWorld (os : Os) : World :=
  { World.holding Tryd.prog os ⟨#[.cells #[.string ⟨#[118, 97, 108, 117, 101, 32, 111, 117, 116, 32, 111, 102, 32, 114, 97, 110, 103, 101]⟩] 164, .cells #[.string ⟨#[105, 110, 118, 97, 108, 105, 100, 32, 115, 121, 110, 116, 97, 120]⟩] 164], #[], []⟩ with heap := ((((((World.holding Tryd.prog os ⟨#[.cells #[.string ⟨#[118, 97, 108, 117, 101, 32, 111, 117, 116, 32, 111, 102, 32, 114, 97, 110, 103, 101]⟩] 164, .cells #[.string ⟨#[105, 110, 118, 97, 108, 105, 100, 32, 115, 121, 110, 116, 97, 120]⟩] 164], #[], []⟩).heap.modify 4 put4).modify 5 put5).modify 0 put0).modify 3 put3).modify 2 put2) }
theorem laid_met (os : Os) : laidMet Tryd.prog Rows.holdTableRow.laid ((laidWorld os).forCall (fun _ _ => 0) ⟨#[], #[.int .i64 0], []⟩).memory :=
  laidMet_of_run' 8 (by kernel_rfl) (by kernel_rfl)
theorem reads (os : Os) {H : Type} (enc : TypeId × Value → H) : ∃ places, DataW.whole enc Tryd.prog ((laidWorld os).forCall (fun _ _ => 0) ⟨#[], #[.int .i64 0], []⟩).memory Tryd.f8.params.toList Rows.holdTableSpec.vars false #[.int .i64 0].toList 8 = some ([.lit (.int .i64 0)], [], places) :=
  ⟨[], by kernel_rfl⟩
theorem lifted (os : Os) (started : os.Started) (H : Type) (enc : TypeId × Value → H) (F : Stop.Interp) :
    ReturnsInHanded {} Tryd.checked os 8 .any ((OpenSpec.ofChange Rows.holdTableSpec).preRow enc Tryd.prog Tryd.f8 Rows.holdTableRow.domain false Rows.holdTableRow.laid) (((OpenSpec.ofChange Rows.holdTableSpec).at F).post enc Tryd.prog Tryd.f8 false true false false) := by
  obtain ⟨places, hx⟩ := reads os enc
  refine returnsInHanded_of_row (C := Tryd.checked) (s := (OpenSpec.ofChange Rows.holdTableSpec)) own started (by kernel_rfl) Tryd.func8
    (witness_row_at (enc := enc) (C := Tryd.checked) false (laidWorld os) #[.int .i64 0] rfl (by kernel_rfl) (by kernel_rfl) (by kernel_rfl)
      (OpenSpec.preRow_of_cond 8 hx (by kernel_rfl) (fun k hk => by cases hk) (by kernel_rfl) (laid_met os))) ?_
  intro W base args ds gs before hval hW _ _ _ hL _ _
  exact contract H enc W base args ds gs before hval hW hL
theorem said : Rows.HoldTableSaid :=
  OpenClaim.holds_of_cond 8 Tryd.f8 rfl rfl rfl rfl rfl rfl rfl ⟨rfl, rfl, rfl, rfl, rfl⟩ rfl rfl rfl rfl rfl (by kernel_rfl) Tryd.func8 (by kernel_rfl)
    (of_decide_eq_true (by kernel_rfl)) (by unfold Func.isWrapper; first | (rw [if_pos (by decide +kernel)]; kernel_rfl) | (rw [if_neg (by decide +kernel)]; exact ⟨rfl, rfl⟩))
    (fun os started H enc _ F => by rw [OpenClaim.pre_eq_preRow]; exact lifted os started H enc F)
theorem plain (f : FuncId) (fn : Func) (hf : Tryd.pinned.checked.prog.funcNamed "sleuth/sleuthlaw10.HoldTable" = some f) (hfn : Tryd.pinned.checked.prog.funcs[f]? = some fn) :
    true = Tryd.pinned.checked.prog.looks [] ∧ ∀ (j : Nat) t, fn.params[j]? = some t → Tryd.pinned.checked.prog.wantsStandIn t = false := by
  obtain rfl : f = 8 := Option.some.inj ((show Tryd.prog.funcNamed "sleuth/sleuthlaw10.HoldTable" = some 8 by kernel_rfl).symm.trans hf) |>.symm
  obtain rfl : fn = Tryd.f8 := (Option.some.inj (Tryd.func8.symm.trans hfn)).symm
  refine ⟨by kernel_rfl, fun j t ht => ?_⟩
  rw [Tryd.params8] at ht
  have hm := Array.mem_of_getElem? ht
  simp only [List.mem_toArray, List.mem_cons, List.not_mem_nil, or_false] at hm
  subst hm; exact (show Tryd.prog.wantsStandIn 3 = false by kernel_rfl)
theorem card : Rows.HoldTableCardSaid :=
  Claim7.holds_tied_plain_at .later [] _ _ _ _ said (fun _ h => by cases h) (by kernel_rfl) (fun _ h => by cases h) holdTable_row_tie rfl ⟨rfl, rfl⟩ (by kernel_rfl) rfl plain (by kernel_rfl)
end Go.Proofs.YtmddflmckmopiaaDoor.holdTable
