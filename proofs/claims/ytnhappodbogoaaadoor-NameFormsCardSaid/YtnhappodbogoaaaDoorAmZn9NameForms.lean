/- The law NameForms answers true, whatever numbers it is given: no condition. -/
import Derived.Test.YtnhappodbogoaaaDoorAmZn9Link
import Derived.Test.YtnhappodbogoaaaDoorAmJd
import Derived.Test.YtnhappodbogoaaaDoorCards
import Derived.Test.YtnhappodbogoaaaDoorTie
import Derived.WalkKit
import Derived.ProofKit
import Derived.Deep.DeepHandedRow
set_option maxRecDepth 100000
namespace Am.F
open Go Am
def isT (o : Option AV) : Bool := match o with | some (.bool true) => true | _ => false
theorem isT_eq {o : Option AV} (h : isT o = true) : o = some (.bool true) := by
  unfold isT at h; split at h
  · rfl
  · cases h
noncomputable abbrev outT (i x : Int) : Option AV := fRunS tab stdI (2999 + 1) (.fn 134 []) [.int .i64 i, .int .i64 x] H.emp fun v _ => some v
theorem eK_f {β : Type} (I : FI) (N : Nat) (call : FCall β) (a : List AV) (h : H) (k : K β) : e134.f β I N call a h k = f134 N call a h k := rfl
theorem tab_K : tab.get 134 = some e134 := by kernel_rfl
theorem fJoin_n {β : Type} (n : Nat) (j : Cur β n) (b : Cur β n → Option β) : fJoin n j b = b j := (Eq.refl (fJoin n j b) : fJoin n j b = b j).trans (Eq.refl _)
theorem nth_n0 (a : AV) (r : List AV) : nth (a :: r) 0 = a := (Eq.refl (nth (a :: r) 0) : nth (a :: r) 0 = a).trans (Eq.refl _)
theorem nth_n1 (a b : AV) (r : List AV) : nth (a :: b :: r) 1 = b := (Eq.refl (nth (a :: b :: r) 1) : nth (a :: b :: r) 1 = b).trans (Eq.refl _)
set_option maxHeartbeats 0 in
theorem case0 (i x : Int) (h : (IntKind.u64.wrap i).tmod 8 = 0) : outT i x = some (.bool true) := by
  apply isT_eq
  rw [outT, fRunS_succ tab stdI 2999 134 [] [.int .i64 i, .int .i64 x] H.emp (fun v _ => some v) tab_K, eK_f, List.append_nil]
  have g : x % ((2 ^ 1 : Nat) : Int) = 0 ∨ x % ((2 ^ 1 : Nat) : Int) = 1 := by omega
  have e : IntKind.i64.wrap 0 = 0 := by decide
  have g2 : (x.fdiv 2) % ((2 ^ 2 : Nat) : Int) = 0 ∨ (x.fdiv 2) % ((2 ^ 2 : Nat) : Int) = 1 ∨ (x.fdiv 2) % ((2 ^ 2 : Nat) : Int) = 2 ∨ (x.fdiv 2) % ((2 ^ 2 : Nat) : Int) = 3 := by omega
  clear e
  obtain ⟨m, hm⟩ : ∃ m : Nat, x % ((2 ^ 10 : Nat) : Int) = m := Int.eq_ofNat_of_zero_le (by omega)
  have hb : (m : Int) < 1024 := by omega
  have w1 := first_one hb
  have w0 := down_one 0 hb (by decide)
  have w2 := up_one 1 hb (by decide)
  have w3 := up_one 400 hb (by decide)
  unfold f134
  simp only [fJoin_n, nth_n0, nth_n1, pBin_and 1023 10 rfl (by decide), pBin_and 1 1 rfl (by decide), pBin_and 3 2 rfl (by decide), pBin_shr1, pConv_int, pBin_rem _ _ 8 (by decide), pAdd_int, pNeg_int, hm, w1, show IntKind.i64.wrap (0 - Int.ofNat (Nat.add m 1)) = Int.negSucc (Nat.add m 0) from w0, show IntKind.i64.wrap (1 + Int.ofNat (Nat.add m 1)) = Int.ofNat (Nat.add m 2) from w2, show IntKind.i64.wrap (400 + Int.ofNat (Nat.add m 1)) = Int.ofNat (Nat.add m 401) from w3]
  clear w0 w1 w2 w3 hb hm
  rw [h]; clear h
  show isT _ = true; kernel_rfl
set_option maxHeartbeats 0 in
theorem case1 (i x : Int) (h : (IntKind.u64.wrap i).tmod 8 = 1) : outT i x = some (.bool true) := by
  apply isT_eq
  rw [outT, fRunS_succ tab stdI 2999 134 [] [.int .i64 i, .int .i64 x] H.emp (fun v _ => some v) tab_K, eK_f, List.append_nil]
  have g : x % ((2 ^ 1 : Nat) : Int) = 0 ∨ x % ((2 ^ 1 : Nat) : Int) = 1 := by omega
  have e : IntKind.i64.wrap 0 = 0 := by decide
  have g2 : (x.fdiv 2) % ((2 ^ 2 : Nat) : Int) = 0 ∨ (x.fdiv 2) % ((2 ^ 2 : Nat) : Int) = 1 ∨ (x.fdiv 2) % ((2 ^ 2 : Nat) : Int) = 2 ∨ (x.fdiv 2) % ((2 ^ 2 : Nat) : Int) = 3 := by omega
  clear e
  obtain ⟨m, hm⟩ : ∃ m : Nat, x % ((2 ^ 10 : Nat) : Int) = m := Int.eq_ofNat_of_zero_le (by omega)
  have hb : (m : Int) < 1024 := by omega
  have w1 := first_one hb
  have w0 := down_one 0 hb (by decide)
  have w2 := up_one 1 hb (by decide)
  have w3 := up_one 400 hb (by decide)
  unfold f134
  simp only [fJoin_n, nth_n0, nth_n1, pBin_and 1023 10 rfl (by decide), pBin_and 1 1 rfl (by decide), pBin_and 3 2 rfl (by decide), pBin_shr1, pConv_int, pBin_rem _ _ 8 (by decide), pAdd_int, pNeg_int, hm, w1, show IntKind.i64.wrap (0 - Int.ofNat (Nat.add m 1)) = Int.negSucc (Nat.add m 0) from w0, show IntKind.i64.wrap (1 + Int.ofNat (Nat.add m 1)) = Int.ofNat (Nat.add m 2) from w2, show IntKind.i64.wrap (400 + Int.ofNat (Nat.add m 1)) = Int.ofNat (Nat.add m 401) from w3]
  clear w0 w1 w2 w3 hb hm
  rw [h]; clear h
  show isT _ = true; kernel_rfl
set_option maxHeartbeats 0 in
theorem case2 (i x : Int) (h : (IntKind.u64.wrap i).tmod 8 = 2) : outT i x = some (.bool true) := by
  apply isT_eq
  rw [outT, fRunS_succ tab stdI 2999 134 [] [.int .i64 i, .int .i64 x] H.emp (fun v _ => some v) tab_K, eK_f, List.append_nil]
  have g : x % ((2 ^ 1 : Nat) : Int) = 0 ∨ x % ((2 ^ 1 : Nat) : Int) = 1 := by omega
  have e : IntKind.i64.wrap 0 = 0 := by decide
  have g2 : (x.fdiv 2) % ((2 ^ 2 : Nat) : Int) = 0 ∨ (x.fdiv 2) % ((2 ^ 2 : Nat) : Int) = 1 ∨ (x.fdiv 2) % ((2 ^ 2 : Nat) : Int) = 2 ∨ (x.fdiv 2) % ((2 ^ 2 : Nat) : Int) = 3 := by omega
  clear e
  obtain ⟨m, hm⟩ : ∃ m : Nat, x % ((2 ^ 10 : Nat) : Int) = m := Int.eq_ofNat_of_zero_le (by omega)
  have hb : (m : Int) < 1024 := by omega
  have w1 := first_one hb
  have w0 := down_one 0 hb (by decide)
  have w2 := up_one 1 hb (by decide)
  have w3 := up_one 400 hb (by decide)
  unfold f134
  simp only [fJoin_n, nth_n0, nth_n1, pBin_and 1023 10 rfl (by decide), pBin_and 1 1 rfl (by decide), pBin_and 3 2 rfl (by decide), pBin_shr1, pConv_int, pBin_rem _ _ 8 (by decide), pAdd_int, pNeg_int, hm, w1, show IntKind.i64.wrap (0 - Int.ofNat (Nat.add m 1)) = Int.negSucc (Nat.add m 0) from w0, show IntKind.i64.wrap (1 + Int.ofNat (Nat.add m 1)) = Int.ofNat (Nat.add m 2) from w2, show IntKind.i64.wrap (400 + Int.ofNat (Nat.add m 1)) = Int.ofNat (Nat.add m 401) from w3]
  clear w0 w1 w2 w3 hb hm
  rw [h]; clear h
  show isT _ = true; kernel_rfl
set_option maxHeartbeats 0 in
theorem case3 (i x : Int) (h : (IntKind.u64.wrap i).tmod 8 = 3) : outT i x = some (.bool true) := by
  apply isT_eq
  rw [outT, fRunS_succ tab stdI 2999 134 [] [.int .i64 i, .int .i64 x] H.emp (fun v _ => some v) tab_K, eK_f, List.append_nil]
  have g : x % ((2 ^ 1 : Nat) : Int) = 0 ∨ x % ((2 ^ 1 : Nat) : Int) = 1 := by omega
  have e : IntKind.i64.wrap 0 = 0 := by decide
  have g2 : (x.fdiv 2) % ((2 ^ 2 : Nat) : Int) = 0 ∨ (x.fdiv 2) % ((2 ^ 2 : Nat) : Int) = 1 ∨ (x.fdiv 2) % ((2 ^ 2 : Nat) : Int) = 2 ∨ (x.fdiv 2) % ((2 ^ 2 : Nat) : Int) = 3 := by omega
  clear e
  obtain ⟨m, hm⟩ : ∃ m : Nat, x % ((2 ^ 10 : Nat) : Int) = m := Int.eq_ofNat_of_zero_le (by omega)
  have hb : (m : Int) < 1024 := by omega
  have w1 := first_one hb
  have w0 := down_one 0 hb (by decide)
  have w2 := up_one 1 hb (by decide)
  have w3 := up_one 400 hb (by decide)
  unfold f134
  simp only [fJoin_n, nth_n0, nth_n1, pBin_and 1023 10 rfl (by decide), pBin_and 1 1 rfl (by decide), pBin_and 3 2 rfl (by decide), pBin_shr1, pConv_int, pBin_rem _ _ 8 (by decide), pAdd_int, pNeg_int, hm, w1, show IntKind.i64.wrap (0 - Int.ofNat (Nat.add m 1)) = Int.negSucc (Nat.add m 0) from w0, show IntKind.i64.wrap (1 + Int.ofNat (Nat.add m 1)) = Int.ofNat (Nat.add m 2) from w2, show IntKind.i64.wrap (400 + Int.ofNat (Nat.add m 1)) = Int.ofNat (Nat.add m 401) from w3]
  clear w0 w1 w2 w3 hb hm
  rw [h]; clear h
  show isT _ = true; kernel_rfl
set_option maxHeartbeats 0 in
theorem case4 (i x : Int) (h : (IntKind.u64.wrap i).tmod 8 = 4) : outT i x = some (.bool true) := by
  apply isT_eq
  rw [outT, fRunS_succ tab stdI 2999 134 [] [.int .i64 i, .int .i64 x] H.emp (fun v _ => some v) tab_K, eK_f, List.append_nil]
  have g : x % ((2 ^ 1 : Nat) : Int) = 0 ∨ x % ((2 ^ 1 : Nat) : Int) = 1 := by omega
  have e : IntKind.i64.wrap 0 = 0 := by decide
  have g2 : (x.fdiv 2) % ((2 ^ 2 : Nat) : Int) = 0 ∨ (x.fdiv 2) % ((2 ^ 2 : Nat) : Int) = 1 ∨ (x.fdiv 2) % ((2 ^ 2 : Nat) : Int) = 2 ∨ (x.fdiv 2) % ((2 ^ 2 : Nat) : Int) = 3 := by omega
  clear e
  obtain ⟨m, hm⟩ : ∃ m : Nat, x % ((2 ^ 10 : Nat) : Int) = m := Int.eq_ofNat_of_zero_le (by omega)
  have hb : (m : Int) < 1024 := by omega
  have w1 := first_one hb
  have w0 := down_one 0 hb (by decide)
  have w2 := up_one 1 hb (by decide)
  have w3 := up_one 400 hb (by decide)
  unfold f134
  simp only [fJoin_n, nth_n0, nth_n1, pBin_and 1023 10 rfl (by decide), pBin_and 1 1 rfl (by decide), pBin_and 3 2 rfl (by decide), pBin_shr1, pConv_int, pBin_rem _ _ 8 (by decide), pAdd_int, pNeg_int, hm, w1, show IntKind.i64.wrap (0 - Int.ofNat (Nat.add m 1)) = Int.negSucc (Nat.add m 0) from w0, show IntKind.i64.wrap (1 + Int.ofNat (Nat.add m 1)) = Int.ofNat (Nat.add m 2) from w2, show IntKind.i64.wrap (400 + Int.ofNat (Nat.add m 1)) = Int.ofNat (Nat.add m 401) from w3]
  clear w0 w1 w2 w3 hb hm
  rw [h]; clear h
  show isT _ = true; kernel_rfl
set_option maxHeartbeats 0 in
theorem case5 (i x : Int) (h : (IntKind.u64.wrap i).tmod 8 = 5) : outT i x = some (.bool true) := by
  apply isT_eq
  rw [outT, fRunS_succ tab stdI 2999 134 [] [.int .i64 i, .int .i64 x] H.emp (fun v _ => some v) tab_K, eK_f, List.append_nil]
  have g : x % ((2 ^ 1 : Nat) : Int) = 0 ∨ x % ((2 ^ 1 : Nat) : Int) = 1 := by omega
  have e : IntKind.i64.wrap 0 = 0 := by decide
  have g2 : (x.fdiv 2) % ((2 ^ 2 : Nat) : Int) = 0 ∨ (x.fdiv 2) % ((2 ^ 2 : Nat) : Int) = 1 ∨ (x.fdiv 2) % ((2 ^ 2 : Nat) : Int) = 2 ∨ (x.fdiv 2) % ((2 ^ 2 : Nat) : Int) = 3 := by omega
  clear e
  obtain ⟨m, hm⟩ : ∃ m : Nat, x % ((2 ^ 10 : Nat) : Int) = m := Int.eq_ofNat_of_zero_le (by omega)
  have hb : (m : Int) < 1024 := by omega
  have w1 := first_one hb
  have w0 := down_one 0 hb (by decide)
  have w2 := up_one 1 hb (by decide)
  have w3 := up_one 400 hb (by decide)
  unfold f134
  simp only [fJoin_n, nth_n0, nth_n1, pBin_and 1023 10 rfl (by decide), pBin_and 1 1 rfl (by decide), pBin_and 3 2 rfl (by decide), pBin_shr1, pConv_int, pBin_rem _ _ 8 (by decide), pAdd_int, pNeg_int, hm, w1, show IntKind.i64.wrap (0 - Int.ofNat (Nat.add m 1)) = Int.negSucc (Nat.add m 0) from w0, show IntKind.i64.wrap (1 + Int.ofNat (Nat.add m 1)) = Int.ofNat (Nat.add m 2) from w2, show IntKind.i64.wrap (400 + Int.ofNat (Nat.add m 1)) = Int.ofNat (Nat.add m 401) from w3]
  clear w0 w1 w2 w3 hb hm
  rw [h]; clear h
  rcases g with g | g
  · rw [g]; clear g
    rcases g2 with g2 | g2 | g2 | g2
    · rw [g2]; clear g2
      show isT _ = true; kernel_rfl
    · rw [g2]; clear g2
      show isT _ = true; kernel_rfl
    · rw [g2]; clear g2
      show isT _ = true; kernel_rfl
    · rw [g2]; clear g2
      show isT _ = true; kernel_rfl
  · rw [g]; clear g
    rcases g2 with g2 | g2 | g2 | g2
    · rw [g2]; clear g2
      show isT _ = true; kernel_rfl
    · rw [g2]; clear g2
      show isT _ = true; kernel_rfl
    · rw [g2]; clear g2
      show isT _ = true; kernel_rfl
    · rw [g2]; clear g2
      show isT _ = true; kernel_rfl
set_option maxHeartbeats 0 in
theorem case6 (i x : Int) (h : (IntKind.u64.wrap i).tmod 8 = 6) : outT i x = some (.bool true) := by
  apply isT_eq
  rw [outT, fRunS_succ tab stdI 2999 134 [] [.int .i64 i, .int .i64 x] H.emp (fun v _ => some v) tab_K, eK_f, List.append_nil]
  have g : x % ((2 ^ 1 : Nat) : Int) = 0 ∨ x % ((2 ^ 1 : Nat) : Int) = 1 := by omega
  have e : IntKind.i64.wrap 0 = 0 := by decide
  have g2 : (x.fdiv 2) % ((2 ^ 2 : Nat) : Int) = 0 ∨ (x.fdiv 2) % ((2 ^ 2 : Nat) : Int) = 1 ∨ (x.fdiv 2) % ((2 ^ 2 : Nat) : Int) = 2 ∨ (x.fdiv 2) % ((2 ^ 2 : Nat) : Int) = 3 := by omega
  clear e
  obtain ⟨m, hm⟩ : ∃ m : Nat, x % ((2 ^ 10 : Nat) : Int) = m := Int.eq_ofNat_of_zero_le (by omega)
  have hb : (m : Int) < 1024 := by omega
  have w1 := first_one hb
  have w0 := down_one 0 hb (by decide)
  have w2 := up_one 1 hb (by decide)
  have w3 := up_one 400 hb (by decide)
  unfold f134
  simp only [fJoin_n, nth_n0, nth_n1, pBin_and 1023 10 rfl (by decide), pBin_and 1 1 rfl (by decide), pBin_and 3 2 rfl (by decide), pBin_shr1, pConv_int, pBin_rem _ _ 8 (by decide), pAdd_int, pNeg_int, hm, w1, show IntKind.i64.wrap (0 - Int.ofNat (Nat.add m 1)) = Int.negSucc (Nat.add m 0) from w0, show IntKind.i64.wrap (1 + Int.ofNat (Nat.add m 1)) = Int.ofNat (Nat.add m 2) from w2, show IntKind.i64.wrap (400 + Int.ofNat (Nat.add m 1)) = Int.ofNat (Nat.add m 401) from w3]
  clear w0 w1 w2 w3 hb hm
  rw [h]; clear h
  show isT _ = true; kernel_rfl
set_option maxHeartbeats 0 in
theorem case7 (i x : Int) (h : (IntKind.u64.wrap i).tmod 8 = 7) : outT i x = some (.bool true) := by
  apply isT_eq
  rw [outT, fRunS_succ tab stdI 2999 134 [] [.int .i64 i, .int .i64 x] H.emp (fun v _ => some v) tab_K, eK_f, List.append_nil]
  have g : x % ((2 ^ 1 : Nat) : Int) = 0 ∨ x % ((2 ^ 1 : Nat) : Int) = 1 := by omega
  have e : IntKind.i64.wrap 0 = 0 := by decide
  have g2 : (x.fdiv 2) % ((2 ^ 2 : Nat) : Int) = 0 ∨ (x.fdiv 2) % ((2 ^ 2 : Nat) : Int) = 1 ∨ (x.fdiv 2) % ((2 ^ 2 : Nat) : Int) = 2 ∨ (x.fdiv 2) % ((2 ^ 2 : Nat) : Int) = 3 := by omega
  clear e
  obtain ⟨m, hm⟩ : ∃ m : Nat, x % ((2 ^ 10 : Nat) : Int) = m := Int.eq_ofNat_of_zero_le (by omega)
  have hb : (m : Int) < 1024 := by omega
  have w1 := first_one hb
  have w0 := down_one 0 hb (by decide)
  have w2 := up_one 1 hb (by decide)
  have w3 := up_one 400 hb (by decide)
  unfold f134
  simp only [fJoin_n, nth_n0, nth_n1, pBin_and 1023 10 rfl (by decide), pBin_and 1 1 rfl (by decide), pBin_and 3 2 rfl (by decide), pBin_shr1, pConv_int, pBin_rem _ _ 8 (by decide), pAdd_int, pNeg_int, hm, w1, show IntKind.i64.wrap (0 - Int.ofNat (Nat.add m 1)) = Int.negSucc (Nat.add m 0) from w0, show IntKind.i64.wrap (1 + Int.ofNat (Nat.add m 1)) = Int.ofNat (Nat.add m 2) from w2, show IntKind.i64.wrap (400 + Int.ofNat (Nat.add m 1)) = Int.ofNat (Nat.add m 401) from w3]
  clear w0 w1 w2 w3 hb hm
  rw [h]; clear h
  show isT _ = true; kernel_rfl
theorem out (i x : Int) : outT i x = some (.bool true) := by
  have h0 := u64_rem 8 (by omega) i
  have h : (IntKind.u64.wrap i).tmod 8 = 0 ∨ (IntKind.u64.wrap i).tmod 8 = 1 ∨ (IntKind.u64.wrap i).tmod 8 = 2 ∨ (IntKind.u64.wrap i).tmod 8 = 3 ∨ (IntKind.u64.wrap i).tmod 8 = 4 ∨ (IntKind.u64.wrap i).tmod 8 = 5 ∨ (IntKind.u64.wrap i).tmod 8 = 6 ∨ (IntKind.u64.wrap i).tmod 8 = 7 := by omega
  clear h0
  rcases h with h | h | h | h | h | h | h | h
  · exact case0 i x h
  · exact case1 i x h
  · exact case2 i x h
  · exact case3 i x h
  · exact case4 i x h
  · exact case5 i x h
  · exact case6 i x h
  · exact case7 i x h
end Am.F
namespace Go.Proofs.YtnhappodbogoaaaDoor.nameForms
open Go.ChangeShapes Go.WideShapes Go.ChangeAt Go.RowKit
theorem own : ownKnob Tryd.prog.godebug = none := by kernel_rfl
theorem gTab : Tryd.prog.globalNamed "internal/strconv.uint64pow10" = some 0 := by kernel_rfl
theorem gTabType : (Tryd.prog.globals[0]?).map (·.type) = some 126 := by kernel_rfl
theorem cellsT : Tryd.prog.cellsOf 126 = 20 := by kernel_rfl
theorem cellsE : Tryd.prog.cellsOf 106 = 1 := by kernel_rfl
theorem gSyn : Tryd.prog.globalNamed "strconv.ErrSyntax" = some 4 := by kernel_rfl
theorem gRng : Tryd.prog.globalNamed "strconv.ErrRange" = some 5 := by kernel_rfl
theorem good {W : World} (h : laidMetH Tryd.prog Rows.nameFormsRow.laid W) : Am.L.GG Tryd.prog (Am.baseOf W) := by
  have h0 : laidMet Tryd.prog Rows.nameFormsRow.laid W := cast (by kernel_rfl) h
  obtain ⟨tp1, p1, e1⟩ := Am.laid_iface (Am.laidMet_tail (Am.laidMet_tail (Am.laidMet_tail (Am.laidMet_tail h0)))) gSyn (t := 99) (by kernel_rfl) Tryd.underlying99
  obtain ⟨tp2, p2, e2⟩ := Am.laid_iface (Am.laidMet_tail (Am.laidMet_tail (Am.laidMet_tail h0))) gRng (t := 99) (by kernel_rfl) Tryd.underlying99
  exact ⟨Am.gtab_of gTab (Lib.tabIs_of_head gTab gTabType Tryd.underlying126 Tryd.underlying106 cellsE cellsT (Am.laidMet_tail (Am.laidMet_tail h0))), Am.gvar_of gSyn e1 ⟨_, _, rfl⟩, Am.gvar_of gRng e2 ⟨_, _, rfl⟩⟩
theorem contract (H : Type) (enc : TypeId × Value → H) (W : World) (base : Nat) (args : Array Value) (ds gs : List (DataW H)) (before : List MemPlace)
    (hval : ∀ (j : Nat) t v, Tryd.f3.params[j]? = some t → args[j]? = some v → Value.okWide Tryd.prog W .any base t v)
    (hW : DataW.Whole enc Tryd.prog Tryd.f3.params.toList Rows.nameFormsSpec.vars false W args.toList ds gs before) (hL : laidMetH Tryd.prog Rows.nameFormsRow.laid W) :
    Calls Tryd.prog 3 args W fun e W' => ∃ v, e = .returned v ∧ Rows.nameFormsSpec.post enc Tryd.prog Tryd.f3 false true false false W args v W' := by
  have hW' := hW
  obtain ⟨p, q, hA0, hV, rfl, hfz, hnd⟩ := hW
  have hA : DataW.TrodAll enc Tryd.prog W 0 (fun _ => true) true Tryd.f3.params.toList args.toList ds p := hA0
  rw [Tryd.params3] at hA hval
  obtain ⟨v0, vs0, d0, ds0, p0, q0, hargs, rfl, rfl, h0, r0⟩ := trodAll_cons hA
  obtain ⟨v1, vs1, d1, ds1, p1, q1, rfl, rfl, rfl, h1, r1⟩ := trodAll_cons r0
  obtain ⟨rfl, rfl, rfl⟩ := trodAll_nil r1
  obtain rfl : args = #[v0, v1] := by cases args; simp_all
  obtain ⟨rfl, rfl⟩ := trodVars_none hV
  obtain ⟨n0, rfl, rfl, rfl, hn0⟩ := open_int Tryd.underlying3 (hval 0 3 v0 rfl rfl) h0
  obtain ⟨n1, rfl, rfl, rfl, hn1⟩ := open_int Tryd.underlying3 (hval 1 3 v1 rfl rfl) h1
  clear hA0
  simp only [List.append_nil] at hW'
  have walk := Am.am_call (P := Tryd.prog) (kf := Am.L.kf) (kt := Am.L.kt) Am.L.gg_keeps Am.L.link Am.L.oks Am.F.iok (n := 2999 + 1) (f := 3) (us := [.int .i64 n0, .int .i64 n1]) (Am.F.out n0 n1) (good hL)
    (by simp [Am.VRs, Am.VR])
  refine walk.mono fun e W' ⟨⟨ext, u, he, hu⟩, ht⟩ => ?_
  simp only [Am.VR] at hu
  subst hu he
  exact ⟨_, rfl, Am.post_turned (pa := []) (pv := []) hW' (fun _ _ _ => trodAll_cons_mk (shut_bool Tryd.underlying4 _) trodAll_mk0) (fun _ _ => (trodAll_cons_mk (shut_int Tryd.underlying3 hn0) (trodAll_cons_mk (shut_int Tryd.underlying3 hn1) trodAll_mk0))) (fun _ _ => rfl) ht⟩
noncomputable def lowN : Nat := (World.holding Tryd.prog default ⟨#[], #[], []⟩).heap.size
def put2 (o : Obj) : Obj := match o with
  | .cells _ t frozen => .cells #[.int .u8 0, .int .u8 1, .int .u8 28, .int .u8 2, .int .u8 29, .int .u8 14, .int .u8 24, .int .u8 3, .int .u8 30, .int .u8 22, .int .u8 20, .int .u8 15, .int .u8 25, .int .u8 17, .int .u8 4, .int .u8 8, .int .u8 31, .int .u8 27, .int .u8 13, .int .u8 23, .int .u8 21, .int .u8 19, .int .u8 16, .int .u8 7, .int .u8 26, .int .u8 12, .int .u8 18, .int .u8 6, .int .u8 11, .int .u8 5, .int .u8 10, .int .u8 9] t frozen
  | o => o
def put3 (o : Obj) : Obj := match o with
  | .cells _ t frozen => .cells #[.int .u8 0, .int .u8 1, .int .u8 56, .int .u8 2, .int .u8 57, .int .u8 49, .int .u8 28, .int .u8 3, .int .u8 61, .int .u8 58, .int .u8 42, .int .u8 50, .int .u8 38, .int .u8 29, .int .u8 17, .int .u8 4, .int .u8 62, .int .u8 47, .int .u8 59, .int .u8 36, .int .u8 45, .int .u8 43, .int .u8 51, .int .u8 22, .int .u8 53, .int .u8 39, .int .u8 33, .int .u8 30, .int .u8 24, .int .u8 18, .int .u8 12, .int .u8 5, .int .u8 63, .int .u8 55, .int .u8 48, .int .u8 27, .int .u8 60, .int .u8 41, .int .u8 37, .int .u8 16, .int .u8 46, .int .u8 35, .int .u8 44, .int .u8 21, .int .u8 52, .int .u8 32, .int .u8 23, .int .u8 11, .int .u8 54, .int .u8 26, .int .u8 40, .int .u8 15, .int .u8 34, .int .u8 20, .int .u8 31, .int .u8 10, .int .u8 25, .int .u8 14, .int .u8 19, .int .u8 9, .int .u8 13, .int .u8 8, .int .u8 7, .int .u8 6] t frozen
  | o => o
def put0 (o : Obj) : Obj := match o with
  | .cells _ t frozen => .cells #[.int .u64 1, .int .u64 10, .int .u64 100, .int .u64 1000, .int .u64 10000, .int .u64 100000, .int .u64 1000000, .int .u64 10000000, .int .u64 100000000, .int .u64 1000000000, .int .u64 10000000000, .int .u64 100000000000, .int .u64 1000000000000, .int .u64 10000000000000, .int .u64 100000000000000, .int .u64 1000000000000000, .int .u64 10000000000000000, .int .u64 100000000000000000, .int .u64 1000000000000000000, .int .u64 10000000000000000000] t frozen
  | o => o
noncomputable def put5 (o : Obj) : Obj := match o with
  | .cells _ t frozen => .cells #[.iface 158 (.pointer (some ⟨lowN + 0, 0, none⟩))] t frozen
  | o => o
noncomputable def put4 (o : Obj) : Obj := match o with
  | .cells _ t frozen => .cells #[.iface 158 (.pointer (some ⟨lowN + 1, 0, none⟩))] t frozen
  | o => o
noncomputable def laidWorld (os : Os) : World :=
  { World.holding Tryd.prog os ⟨#[.cells #[.string ⟨#[118, 97, 108, 117, 101, 32, 111, 117, 116, 32, 111, 102, 32, 114, 97, 110, 103, 101]⟩] 160, .cells #[.string ⟨#[105, 110, 118, 97, 108, 105, 100, 32, 115, 121, 110, 116, 97, 120]⟩] 160], #[], []⟩ with heap := ((((((World.holding Tryd.prog os ⟨#[.cells #[.string ⟨#[118, 97, 108, 117, 101, 32, 111, 117, 116, 32, 111, 102, 32, 114, 97, 110, 103, 101]⟩] 160, .cells #[.string ⟨#[105, 110, 118, 97, 108, 105, 100, 32, 115, 121, 110, 116, 97, 120]⟩] 160], #[], []⟩).heap.modify 2 put2).modify 3 put3).modify 0 put0).modify 5 put5).modify 4 put4) }
theorem laid_met (os : Os) : laidMet Tryd.prog Rows.nameFormsRow.laid ((laidWorld os).forCall (fun _ _ => 0) ⟨#[], #[.int .i64 0, .int .i64 0], []⟩).memory :=
  laidMet_of_run' 8 (by kernel_rfl) (by kernel_rfl)
theorem reads (os : Os) {H : Type} (enc : TypeId × Value → H) : ∃ places, DataW.whole enc Tryd.prog ((laidWorld os).forCall (fun _ _ => 0) ⟨#[], #[.int .i64 0, .int .i64 0], []⟩).memory Tryd.f3.params.toList Rows.nameFormsSpec.vars false #[.int .i64 0, .int .i64 0].toList 8 = some ([.lit (.int .i64 0), .lit (.int .i64 0)], [], places) :=
  ⟨[], by kernel_rfl⟩
theorem lifted (os : Os) (started : os.Started) (H : Type) (enc : TypeId × Value → H) (F : Stop.Interp) :
    ReturnsInHanded {} Tryd.checked os 3 .any ((OpenSpec.ofChange Rows.nameFormsSpec).preRow enc Tryd.prog Tryd.f3 Rows.nameFormsRow.domain false Rows.nameFormsRow.laid) (((OpenSpec.ofChange Rows.nameFormsSpec).at F).post enc Tryd.prog Tryd.f3 false true false false) := by
  obtain ⟨places, hx⟩ := reads os enc
  refine returnsInHanded_of_row (C := Tryd.checked) (s := (OpenSpec.ofChange Rows.nameFormsSpec)) own started (by kernel_rfl) Tryd.func3
    (witness_row_at (enc := enc) (C := Tryd.checked) false (laidWorld os) #[.int .i64 0, .int .i64 0] rfl (by kernel_rfl) (by kernel_rfl) (by kernel_rfl)
      (OpenSpec.preRow_of_cond 8 hx (by kernel_rfl) (fun k hk => by cases hk) (by kernel_rfl) (laid_met os))) ?_
  intro W base args ds gs before hval hW _ _ _ hL _ _
  exact contract H enc W base args ds gs before hval hW hL
theorem said : Rows.NameFormsSaid :=
  OpenClaim.holds_of_cond 3 Tryd.f3 rfl rfl rfl rfl rfl rfl rfl ⟨rfl, rfl, rfl, rfl, rfl⟩ rfl rfl rfl rfl rfl (by kernel_rfl) Tryd.func3 (by kernel_rfl)
    (of_decide_eq_true (by kernel_rfl)) (by unfold Func.isWrapper; first | (rw [if_pos (by decide +kernel)]; kernel_rfl) | (rw [if_neg (by decide +kernel)]; exact ⟨rfl, rfl⟩))
    (fun os started H enc _ F => by rw [OpenClaim.pre_eq_preRow]; exact lifted os started H enc F)
theorem plain (f : FuncId) (fn : Func) (hf : Tryd.pinned.checked.prog.funcNamed "sleuth/sleuthlaw9.NameForms" = some f) (hfn : Tryd.pinned.checked.prog.funcs[f]? = some fn) :
    true = Tryd.pinned.checked.prog.looks [] ∧ ∀ (j : Nat) t, fn.params[j]? = some t → Tryd.pinned.checked.prog.wantsStandIn t = false := by
  obtain rfl : f = 3 := Option.some.inj ((show Tryd.prog.funcNamed "sleuth/sleuthlaw9.NameForms" = some 3 by kernel_rfl).symm.trans hf) |>.symm
  obtain rfl : fn = Tryd.f3 := (Option.some.inj (Tryd.func3.symm.trans hfn)).symm
  refine ⟨by kernel_rfl, fun j t ht => ?_⟩
  rw [Tryd.params3] at ht
  have hm := Array.mem_of_getElem? ht
  simp only [List.mem_toArray, List.mem_cons, List.not_mem_nil, or_false] at hm
  rcases hm with rfl | rfl
  · exact (show Tryd.prog.wantsStandIn 3 = false by kernel_rfl)
  · exact (show Tryd.prog.wantsStandIn 3 = false by kernel_rfl)
theorem card : Rows.NameFormsCardSaid :=
  Claim7.holds_tied_plain_at .later [] _ _ _ _ said (fun _ h => by cases h) (by kernel_rfl) (fun _ h => by cases h) nameForms_row_tie rfl ⟨rfl, rfl⟩ (by kernel_rfl) rfl plain (by kernel_rfl)
end Go.Proofs.YtnhappodbogoaaaDoor.nameForms
