/- Walks: what a definition may be, on both sides. -/
import Derived.Test.YtpalaplnolcimaaDoorAmPg2
set_option linter.unusedSimpArgs false
set_option linter.unusedVariables false
namespace Am.F
open Go Am
def kidsGo (i : Nat) (e : Ex) : Nat → List Int → List Int → Option (List Int)
  | _, [], lv => some lv
  | k, kid :: ks, lv => if 0 ≤ kid ∧ kid < (i : Int) ∧ lv.getD kid.toNat 0 = -1 then kidsGo i e (k + 1) ks (lv.set kid.toNat (lv.getD i 0 + more e k)) else none
def bodyGo (body : List Ex) : Nat → List Int → Bool
  | 0, _ => true
  | i + 1, lv => match body[i]? with
    | none => false
    | some e => if lv.getD i 0 = -1 ∨ 8 < lv.getD i 0 ∨ ¬ PartP e (lv.getD i 0) then false else
      match kidsGo i e 0 e.kids lv with
      | none => false
      | some lv' => bodyGo body i lv'
def afterKids (body : List Ex) (i : Nat) : Option (List Int) → Bool
  | none => false
  | some lv => bodyGo body i lv
def firstLv (d : Df) : List Int := List.replicate (d.body.length - 1) (-1) ++ [d.params]
def defMay (d : Df) : Bool := decide ((0 ≤ d.params ∧ d.params ≤ 3) ∧ 1 ≤ d.body.length ∧ d.body.length ≤ 24) && bodyGo d.body d.body.length (firstLv d)
def LvOk (n : Nat) (lv : List Int) : Prop := lv.length = n ∧ ∀ q, -1 ≤ lv.getD q 0 ∧ lv.getD q 0 ≤ 11
theorem getD_set_eq (xs : List Int) {i : Nat} (x : Int) (hi : i < xs.length) : (xs.set i x).getD i 0 = x := by simp [List.getD_eq_getElem?_getD, hi]
theorem getD_set_ne (xs : List Int) {i j : Nat} (x : Int) (hi : i ≠ j) : (xs.set i x).getD j 0 = xs.getD j 0 := by simp [List.getD_eq_getElem?_getD, List.getElem?_set_ne hi]
theorem LvOk.set {n : Nat} {lv : List Int} (h : LvOk n lv) {i : Nat} {x : Int} (hx : -1 ≤ x ∧ x ≤ 11) : LvOk n (lv.set i x) := by
  refine ⟨by rw [List.length_set]; exact h.1, fun q => ?_⟩
  by_cases hq : i = q
  · subst hq
    by_cases hi : i < lv.length
    · rw [getD_set_eq _ _ hi]; exact hx
    · rw [List.set_eq_of_length_le (by omega)]; exact h.2 i
  · rw [getD_set_ne _ _ hq]; exact h.2 q
theorem PartP.bind {e : Ex} {lv : Int} (h : PartP e lv) : 0 ≤ e.bind ∧ e.bind ≤ 3 := by
  unfold PartP Plain at h
  rcases h with h | h | h | h | h | h | h | h <;> omega
theorem more_le {e : Ex} (h : 0 ≤ e.bind ∧ e.bind ≤ 3) (k : Int) : 0 ≤ more e k ∧ more e k ≤ 3 := by
  unfold more; split <;> (try split) <;> (try split) <;> omega
theorem bodyGo_s (body : List Ex) (i : Nat) (lv : List Int) {e : Ex} (he : body[i]? = some e) (h1 : ¬ lv.getD i 0 = -1) (h2 : ¬ 8 < lv.getD i 0) (h3 : PartP e (lv.getD i 0)) :
    bodyGo body (i + 1) lv = afterKids body i (kidsGo i e 0 e.kids lv) := by
  show (match body[i]? with | none => false | some e => _) = _
  rw [he]
  show (if _ then _ else _) = _
  rw [if_neg (by simp only [h1, h2, h3, not_true_eq_false, or_self, not_false_eq_true])]
  cases kidsGo i e 0 e.kids lv <;> rfl
theorem bodyGo_f (body : List Ex) (i : Nat) (lv : List Int) {e : Ex} (he : body[i]? = some e) (h : lv.getD i 0 = -1 ∨ 8 < lv.getD i 0 ∨ ¬ PartP e (lv.getD i 0)) : bodyGo body (i + 1) lv = false := by
  show (match body[i]? with | none => false | some e => _) = _
  rw [he]
  show (if _ then _ else _) = _
  rw [if_pos h]
theorem rep_ints (n : Nat) : rep n [.int .i64 0] = ints (List.replicate n 0) := by
  induction n with
  | zero => rfl
  | succ n ih => show _ :: rep n [.int .i64 0] = _; rw [ih]; rfl
theorem mkslice_i {β : Type} {l : Nat} (hl : l < room) (h : H) (k : K β) : qMkslice 0 [.int .i64 0] 8 (.int .i64 (l : Int)) (.int .i64 (l : Int)) h (.mk k) = k (.sl h.n 0 l l none) (h.push (.own 0 (ints (List.replicate l 0)))) := by
  have hn : ∀ c : Nat → Option β, aNat (.int .i64 (l : Int)) c = c l := fun c => by show frc l c = c l; rw [frc_eq]
  show fMkslice 0 [.int .i64 0] 8 (.int .i64 (l : Int)) (.int .i64 (l : Int)) h k = _
  unfold fMkslice
  rw [hn, hn, ble_eq, ble_eq, ble_eq, decide_eq_true (Nat.le_refl _), decide_eq_true (by omega), decide_eq_true (by omega), newB_p, rep_ints]; rfl
end Am.F
