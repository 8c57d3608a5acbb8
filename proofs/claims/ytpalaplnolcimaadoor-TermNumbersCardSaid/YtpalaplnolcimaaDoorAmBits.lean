/- Low bits of a whole number. -/
import Derived.Test.YtpalaplnolcimaaDoorAmRow
namespace Am
open Go

theorem and_mask (k : Nat) (hk : k ≤ 62) (i : Int) : (BitVec.ofInt 64 i &&& BitVec.ofInt 64 ((2 ^ k - 1 : Nat) : Int)).toNat = (i % (2 ^ k : Nat)).toNat := by
  have h2 : (2:Nat) ^ k ∣ 2 ^ 64 := Nat.pow_dvd_pow 2 (by omega)
  have h3 : (2:Nat) ^ k ≤ 2 ^ 62 := Nat.pow_le_pow_right (by omega) hk
  have h4 : (2:Nat) ^ 62 < 2 ^ 64 := by decide
  have h5 : 0 < (2:Nat) ^ k := Nat.pow_pos (by omega)
  rw [BitVec.toNat_and, BitVec.toNat_ofInt, BitVec.toNat_ofInt]
  have e1 : (((2 ^ k - 1 : Nat) : Int) % ((2:Nat) ^ 64 : Nat)).toNat = 2 ^ k - 1 := by
    rw [Int.emod_eq_of_lt (by omega) (by exact_mod_cast (by omega : 2 ^ k - 1 < 2 ^ 64))]; simp
  rw [e1, Nat.and_two_pow_sub_one_eq_mod]
  obtain ⟨c, hc⟩ := h2
  have h6 : i % ((2 ^ k : Nat) : Int) = (i % ((2 ^ 64 : Nat) : Int)) % ((2 ^ k : Nat) : Int) := (Int.emod_emod_of_dvd i ⟨(c : Int), by exact_mod_cast hc⟩).symm
  rw [h6]
  have h7 : 0 ≤ i % ((2 ^ 64 : Nat) : Int) := Int.emod_nonneg _ (by simp)
  obtain ⟨m, hm⟩ := Int.eq_ofNat_of_zero_le h7
  rw [hm]
  show m % 2 ^ k = _
  have h8 : ((m : Int) % ((2 ^ k : Nat) : Int)).toNat = m % 2 ^ k := by rw [← Int.natCast_emod]; rfl
  exact h8.symm

theorem u64_rem (k : Int) (hk : 0 < k) (i : Int) : 0 ≤ (IntKind.u64.wrap i).tmod k ∧ (IntKind.u64.wrap i).tmod k < k := by
  have h1 : IntKind.u64.wrap i = i % 18446744073709551616 := by
    unfold IntKind.wrap
    simp only [show IntKind.u64.signed = false from rfl, show IntKind.u64.bits = 64 from rfl, Bool.false_and]
    rfl
  have h2 : 0 ≤ i % 18446744073709551616 := Int.emod_nonneg _ (by omega)
  rw [h1, Int.tmod_eq_emod_of_nonneg h2]
  exact ⟨Int.emod_nonneg _ (by omega), Int.emod_lt_of_pos _ hk⟩

/-- One more than a small number, and further. -/
theorem up_one {m : Nat} (c : Nat) (h : (m : Int) < 1024) (hc : c ≤ 100000) : IntKind.i64.wrap ((c : Int) + Int.ofNat (Nat.add m 1)) = .ofNat (Nat.add m (c + 1)) := by
  have h1 : (Int.ofNat (Nat.add m 1) : Int) = (m : Int) + 1 := by show ((m + 1 : Nat) : Int) = _; omega
  have h2 : (Int.ofNat (Nat.add m (c + 1)) : Int) = (m : Int) + c + 1 := by show ((m + (c + 1) : Nat) : Int) = _; omega
  rw [h1, h2, wrap_i64 (by omega) (by omega)]; omega
theorem down_one {m : Nat} (c : Nat) (h : (m : Int) < 1024) (hc : c ≤ 100000) : IntKind.i64.wrap (-(c : Int) - Int.ofNat (Nat.add m 1)) = .negSucc (Nat.add m c) := by
  have h1 : (Int.ofNat (Nat.add m 1) : Int) = (m : Int) + 1 := by show ((m + 1 : Nat) : Int) = _; omega
  have h2 : (Int.negSucc (Nat.add m c) : Int) = -(m : Int) - c - 1 := by rw [Int.negSucc_eq]; show -(((m + c : Nat) : Int) + 1) = _; omega
  rw [h1, h2, wrap_i64 (by omega) (by omega)]; omega
theorem first_one {m : Nat} (h : (m : Int) < 1024) : IntKind.i64.wrap (1 + (m : Int)) = .ofNat (Nat.add m 1) := by
  rw [wrap_i64 (by omega) (by omega)]; show _ = ((m + 1 : Nat) : Int); omega

namespace F
variable {β : Type}
theorem pBin_and (m : Int) (k : Nat) (hm : m = ((2 ^ k - 1 : Nat) : Int)) (hk : k ≤ 62) (x : Int) (c : VK β) : pBin .and (.int .i64 x) (.int .i64 m) c = c (.int .i64 (x % (2 ^ k : Nat))) := by
  have h3 : (2:Nat) ^ k ≤ 2 ^ 62 := Nat.pow_le_pow_right (by omega) hk
  have h5 : 0 < (2:Nat) ^ k := Nat.pow_pos (by omega)
  simp only [pBin, aInt, kindsFit, beq_self_eq_true, cond_true, binI, oSome]
  have e : (BitVec.ofInt IntKind.i64.bits x &&& BitVec.ofInt IntKind.i64.bits m).toNat = (x % (2 ^ k : Nat)).toNat := by rw [hm]; exact and_mask k hk x
  rw [e]
  have h8 : 0 ≤ x % ((2 ^ k : Nat) : Int) := Int.emod_nonneg _ (by omega)
  have h9 : x % ((2 ^ k : Nat) : Int) < ((2 ^ k : Nat) : Int) := Int.emod_lt_of_pos _ (by omega)
  rw [Int.toNat_of_nonneg h8, wrap_i64 (by omega) (by have : ((2 ^ k : Nat) : Int) ≤ 2 ^ 62 := (by exact_mod_cast h3); omega)]
theorem pAdd_int (k : IntKind) (x y : Int) (c : VK β) : pAdd (.int k x) (.int k y) c = c (.int k (k.wrap (x + y))) := by
  simp only [pAdd, aInt, kEq_eq, decide_true, cond_true, frcZ_eq, wrapF_eq]; rfl
theorem pBin_shr1 (x : Int) (c : VK β) : pBin .shr (.int .i64 x) (.int .u64 1) c = c (.int .i64 (x.fdiv 2)) := by
  simp only [pBin, aInt, kindsFit, cond_true, binI, show ¬ ((1 : Int) < 0) by decide, if_false, oSome]
  rfl
theorem pSub_int (k : IntKind) (x y : Int) (c : VK β) : pSub (.int k x) (.int k y) c = c (.int k (k.wrap (x - y))) := by
  simp only [pSub, aInt, kEq_eq, decide_true, cond_true, frcZ_eq, wrapF_eq]; rfl
theorem pNeg_int (k : IntKind) (x : Int) (c : VK β) : pNeg (.int k x) c = c (.int k (k.wrap (0 - x))) := by
  simp only [pNeg, aInt, frcZ_eq, wrapF_eq]; rfl
end F
end Am
