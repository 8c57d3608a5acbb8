/- An evaluator by continuations, made for the kernel and for proofs: its memory (a trie), its small operations. -/
import Derived.Test.YtpalaplnolcimaaDoorAmSrc2
import Derived.Test.YtpalaplnolcimaaDoorAmOps4
namespace Am.F
open Go Am

/-! ### A memory: a trie -/

inductive Tr where
  | nil
  | node (b : Blk) (l r : Tr)

/-- 0 stands at the root; of the others, the odd ones left, the even ones right. -/
noncomputable def Tr.getF (f : Nat) : Tr → Nat → Blk :=
  Nat.rec (motive := fun _ => Tr → Nat → Blk) (fun _ _ => .dead)
    (fun _ ih t i => Tr.rec (motive := fun _ => Blk) .dead (fun b l r _ _ => Nat.rec (motive := fun _ => Blk) b (fun j _ => cond (Nat.beq (Nat.mod j 2) 1) (ih r (Nat.div j 2)) (ih l (Nat.div j 2))) i) t) f

noncomputable def Tr.setF (f : Nat) : Tr → Nat → Blk → Tr :=
  Nat.rec (motive := fun _ => Tr → Nat → Blk → Tr) (fun t _ _ => t)
    (fun _ ih t i x => Tr.rec (motive := fun _ => Tr)
      (Nat.rec (motive := fun _ => Tr) (.node x .nil .nil) (fun j _ => cond (Nat.beq (Nat.mod j 2) 1) (.node .dead .nil (ih .nil (Nat.div j 2) x)) (.node .dead (ih .nil (Nat.div j 2) x) .nil)) i)
      (fun b l r _ _ => Nat.rec (motive := fun _ => Tr) (.node x l r) (fun j _ => cond (Nat.beq (Nat.mod j 2) 1) (.node b l (ih r (Nat.div j 2) x)) (.node b (ih l (Nat.div j 2) x) r)) i) t) f

theorem cond_beq {α : Type} (j m : Nat) (x y : α) : cond (Nat.beq j m) x y = if j = m then x else y := by
  by_cases h : j = m
  · rw [if_pos h, show Nat.beq j m = true by rw [Nat.beq_eq]; exact h]; rfl
  · rw [if_neg h, Bool.eq_false_iff.mpr fun hb => h (Nat.eq_of_beq_eq_true hb)]; rfl

theorem getF_nil (f i : Nat) : Tr.nil.getF f i = .dead := by cases f <;> rfl
theorem getF_node0 (b : Blk) (l r : Tr) (f : Nat) : (Tr.node b l r).getF (f + 1) 0 = b := rfl
theorem getF_node1 (b : Blk) (l r : Tr) (f j : Nat) : (Tr.node b l r).getF (f + 1) (j + 1) = if j % 2 = 1 then r.getF f (j / 2) else l.getF f (j / 2) := by
  rw [← cond_beq]; rfl
theorem setF_nil0 (f : Nat) (x : Blk) : Tr.nil.setF (f + 1) 0 x = .node x .nil .nil := rfl
theorem setF_nil1 (f j : Nat) (x : Blk) : Tr.nil.setF (f + 1) (j + 1) x = if j % 2 = 1 then .node .dead .nil (Tr.nil.setF f (j / 2) x) else .node .dead (Tr.nil.setF f (j / 2) x) .nil := by
  rw [← cond_beq]; rfl
theorem setF_node0 (b : Blk) (l r : Tr) (f : Nat) (x : Blk) : (Tr.node b l r).setF (f + 1) 0 x = .node x l r := rfl
theorem setF_node1 (b : Blk) (l r : Tr) (f j : Nat) (x : Blk) : (Tr.node b l r).setF (f + 1) (j + 1) x = if j % 2 = 1 then .node b l (r.setF f (j / 2) x) else .node b (l.setF f (j / 2) x) r := by
  rw [← cond_beq]; rfl

theorem get_self : ∀ (f : Nat) (t : Tr) (i : Nat) (x : Blk), i < f → (t.setF f i x).getF f i = x
  | 0, t, i, x, h => by omega
  | f + 1, t, i, x, h => by
    cases t with
    | nil =>
      cases i with
      | zero => rw [setF_nil0]; rfl
      | succ i =>
        rw [setF_nil1]
        split <;> (rename_i hi; rw [getF_node1]; simp only [hi, if_true, if_false]; exact get_self f _ _ _ (by omega))
    | node b l r =>
      cases i with
      | zero => rw [setF_node0]; rfl
      | succ i =>
        rw [setF_node1]
        split <;> (rename_i hi; rw [getF_node1]; simp only [hi, if_true, if_false]; exact get_self f _ _ _ (by omega))

theorem get_other : ∀ (f g : Nat) (t : Tr) (i j : Nat) (x : Blk), i ≠ j → (t.setF g i x).getF f j = t.getF f j
  | 0, g, t, i, j, x, h => by cases g <;> rfl
  | f + 1, 0, t, i, j, x, h => rfl
  | f + 1, g + 1, t, i, j, x, h => by
    cases t with
    | nil =>
      cases i with
      | zero =>
        rw [setF_nil0]
        cases j with
        | zero => exact absurd rfl h
        | succ j => rw [getF_node1]; simp only [getF_nil, ite_self]
      | succ i =>
        rw [setF_nil1]
        cases j with
        | zero => split <;> rfl
        | succ j =>
          by_cases hi : i % 2 = 1 <;> by_cases hj : j % 2 = 1 <;> simp only [hi, hj, if_true, if_false, getF_node1, getF_nil]
          · rw [get_other f g _ _ _ _ (by omega), getF_nil]
          · rw [get_other f g _ _ _ _ (by omega), getF_nil]
    | node b l r =>
      cases i with
      | zero =>
        rw [setF_node0]
        cases j with
        | zero => exact absurd rfl h
        | succ j => rw [getF_node1, getF_node1]
      | succ i =>
        rw [setF_node1]
        cases j with
        | zero => split <;> rfl
        | succ j =>
          by_cases hi : i % 2 = 1 <;> by_cases hj : j % 2 = 1 <;> simp only [hi, hj, if_true, if_false, getF_node1]
          · rw [get_other f g _ _ _ _ (by omega)]
          · rw [get_other f g _ _ _ _ (by omega)]

structure H where
  t : Tr
  n : Nat

noncomputable def H.get (h : H) (i : Nat) : Blk := h.t.getF (Nat.succ i) i
noncomputable def H.push (h : H) (b : Blk) : H := ⟨h.t.setF (Nat.succ h.n) h.n b, h.n + 1⟩
noncomputable def H.set (h : H) (i : Nat) (b : Blk) : H := ⟨h.t.setF (Nat.succ i) i b, h.n⟩
def H.emp : H := ⟨.nil, 0⟩

theorem H.n_push (h : H) (b : Blk) : (h.push b).n = h.n + 1 := rfl
theorem H.n_set (h : H) (i : Nat) (b : Blk) : (h.set i b).n = h.n := rfl
theorem H.get_set (h : H) (i j : Nat) (b : Blk) : (h.set i b).get j = if i = j then b else h.get j := by
  by_cases hi : i = j
  · subst hi; rw [if_pos rfl]; exact get_self _ _ _ _ (Nat.lt_succ_self i)
  · rw [if_neg hi]; exact get_other (Nat.succ j) (Nat.succ i) h.t i j b hi
theorem H.get_push (h : H) (j : Nat) (b : Blk) : (h.push b).get j = if h.n = j then b else h.get j := by
  by_cases hi : h.n = j
  · subst hi; rw [if_pos rfl]; exact get_self _ _ _ _ (Nat.lt_succ_self _)
  · rw [if_neg hi]; exact get_other (Nat.succ j) (Nat.succ h.n) h.t h.n j b hi
theorem H.get_emp (i : Nat) : H.emp.get i = .dead := getF_nil _ _

/-- The trie holds what the list holds. -/
structure Abs (h : H) (S : St) : Prop where
  len : S.length = h.n
  get : ∀ i, S.getD i .dead = h.get i

theorem Abs.emp : Abs H.emp [] := ⟨rfl, fun i => by rw [H.get_emp]; simp⟩

theorem Abs.at_ {h : H} {S : St} (ha : Abs h S) {i : Nat} {b : Blk} (hb : h.get i = b) (hd : b ≠ .dead) : S[i]? = some b := by
  have := ha.get i
  rw [hb, List.getD_eq_getElem?_getD] at this
  cases hs : S[i]? with
  | none => rw [hs] at this; exact absurd this.symm hd
  | some c => rw [hs] at this; simpa using this

theorem Abs.push {h : H} {S : St} (ha : Abs h S) (b : Blk) : Abs (h.push b) (S ++ [b]) := by
  refine ⟨by simp [ha.len, H.n_push], fun i => ?_⟩
  rw [H.get_push, ← ha.get i]
  simp only [List.getD_eq_getElem?_getD, List.getElem?_append]
  have hl := ha.len
  split
  · rename_i hi; rw [if_neg (by omega)]
  · rename_i hi
    by_cases h2 : h.n = i
    · rw [if_pos h2]; simp [show i - S.length = 0 by omega]
    · rw [if_neg h2, List.getElem?_eq_none (by simp; omega), List.getElem?_eq_none (by omega)]

theorem Abs.set {h : H} {S : St} (ha : Abs h S) {i : Nat} {c : Blk} (hi : S[i]? = some c) (b : Blk) : Abs (h.set i b) (S.set i b) := by
  refine ⟨by simp [ha.len, H.n_set], fun j => ?_⟩
  rw [H.get_set, ← ha.get j]
  simp only [List.getD_eq_getElem?_getD, List.getElem?_set]
  have hlt : i < S.length := by
    rcases Nat.lt_or_ge i S.length with h1 | h1
    · exact h1
    · rw [List.getElem?_eq_none h1] at hi; cases hi
  split
  · simp
  · rfl

theorem Abs.ex (S : St) : ∃ h, Abs h S := by
  have : ∀ (T : St), ∃ h, Abs h T.reverse := by
    intro T
    induction T with
    | nil => exact ⟨_, Abs.emp⟩
    | cons b T ih => obtain ⟨h, hh⟩ := ih; exact ⟨_, by rw [List.reverse_cons]; exact hh.push b⟩
  simpa using this S.reverse

/-! ### Small things, by recursors -/

noncomputable def nth (vs : List AV) (n : Nat) : AV :=
  List.rec (motive := fun _ => Nat → AV) (fun _ => .tup []) (fun v _ ih n => Nat.rec (motive := fun _ => AV) v (fun m _ => ih m) n) vs n
noncomputable def putN (vs : List AV) (n : Nat) (x : AV) : List AV :=
  List.rec (motive := fun _ => Nat → List AV) (fun _ => []) (fun v vs ih n => Nat.rec (motive := fun _ => List AV) (x :: vs) (fun m _ => v :: ih m) n) vs n
noncomputable def nthO {α : Type} (vs : List α) (n : Nat) : Option α :=
  List.rec (motive := fun _ => Nat → Option α) (fun _ => none) (fun v _ ih n => Nat.rec (motive := fun _ => Option α) (some v) (fun m _ => ih m) n) vs n
noncomputable def lenF {α : Type} (vs : List α) : Nat := List.rec (motive := fun _ => Nat) 0 (fun _ _ ih => Nat.succ ih) vs
noncomputable def appF {α : Type} (xs ys : List α) : List α := List.rec (motive := fun _ => List α) ys (fun x _ ih => x :: ih) xs
noncomputable def dropF {α : Type} (n : Nat) (xs : List α) : List α :=
  Nat.rec (motive := fun _ => List α → List α) (fun xs => xs) (fun _ ih xs => List.rec (motive := fun _ => List α) [] (fun _ xs _ => ih xs) xs) n xs
noncomputable def takeF {α : Type} (n : Nat) (xs : List α) : List α :=
  Nat.rec (motive := fun _ => List α → List α) (fun _ => []) (fun _ ih xs => List.rec (motive := fun _ => List α) [] (fun x xs _ => x :: ih xs) xs) n xs
noncomputable def eqSF (xs ys : List UInt8) : Bool :=
  List.rec (motive := fun _ => List UInt8 → Bool) (fun ys => List.rec (motive := fun _ => Bool) true (fun _ _ _ => false) ys)
    (fun x _ ih ys => List.rec (motive := fun _ => Bool) false (fun y ys _ => cond (Nat.beq x.toNat y.toNat) (ih ys) false) ys) xs ys
noncomputable def putAtF (cs : List AV) (o : Nat) (us : List AV) : List AV :=
  List.rec (motive := fun _ => List AV → Nat → List AV) (fun cs _ => cs) (fun u _ ih cs o => ih (putN cs o u) (Nat.succ o)) us cs o

theorem nth_eq : ∀ (vs : List AV) (n : Nat), nth vs n = vs.getD n (.tup [])
  | [], n => by simp [nth]
  | v :: vs, 0 => rfl
  | v :: vs, n + 1 => by
    have := nth_eq vs n
    simp only [List.getD_cons_succ, ← this]; rfl
theorem putN_eq : ∀ (vs : List AV) (n : Nat) (x : AV), putN vs n x = vs.set n x
  | [], n, x => by simp [putN]
  | v :: vs, 0, x => rfl
  | v :: vs, n + 1, x => by
    have := putN_eq vs n x
    simp only [List.set_cons_succ, ← this]; rfl
theorem nthO_eq {α : Type} : ∀ (vs : List α) (n : Nat), nthO vs n = vs[n]?
  | [], n => by simp [nthO]
  | v :: vs, 0 => rfl
  | v :: vs, n + 1 => by
    have := nthO_eq vs n
    simp only [List.getElem?_cons_succ, ← this]; rfl
theorem lenF_eq {α : Type} : ∀ (vs : List α), lenF vs = vs.length
  | [] => rfl
  | v :: vs => by
    have := lenF_eq vs
    simp only [List.length_cons, ← this]; rfl
theorem appF_eq {α : Type} : ∀ (xs ys : List α), appF xs ys = xs ++ ys
  | [], ys => rfl
  | x :: xs, ys => by
    have := appF_eq xs ys
    simp only [List.cons_append, ← this]; rfl
theorem dropF_eq {α : Type} : ∀ (n : Nat) (xs : List α), dropF n xs = xs.drop n
  | 0, xs => rfl
  | n + 1, [] => rfl
  | n + 1, x :: xs => by
    have := dropF_eq n xs
    simp only [List.drop_succ_cons, ← this]; rfl
theorem takeF_eq {α : Type} : ∀ (n : Nat) (xs : List α), takeF n xs = xs.take n
  | 0, xs => rfl
  | n + 1, [] => rfl
  | n + 1, x :: xs => by
    have := takeF_eq n xs
    simp only [List.take_succ_cons, ← this]; rfl
theorem eqSF_eq : ∀ (xs ys : List UInt8), eqSF xs ys = (xs == ys)
  | [], [] => rfl
  | [], y :: ys => rfl
  | x :: xs, [] => rfl
  | x :: xs, y :: ys => by
    have h := eqSF_eq xs ys
    have : eqSF (x :: xs) (y :: ys) = cond (Nat.beq x.toNat y.toNat) (eqSF xs ys) false := rfl
    rw [this, h, cond_beq, List.cons_beq_cons]
    by_cases hx : x = y
    · subst hx; simp
    · have h2 : ¬ x.toNat = y.toNat := fun h => hx (UInt8.toNat_inj.mp h)
      simp [h2, hx]
theorem putAtF_eq : ∀ (us cs : List AV) (o : Nat), putAtF cs o us = putAt cs o us
  | [], cs, o => rfl
  | u :: us, cs, o => by
    have h := putAtF_eq us (cs.set o u) (o + 1)
    have : putAtF cs o (u :: us) = putAtF (putN cs o u) (o + 1) us := rfl
    rw [this, putN_eq, h]; rfl

section
variable {β : Type}

/-- A number, reckoned before it is handed on. -/
noncomputable def frc (m : Nat) (k : Nat → Option β) : Option β := Nat.rec (motive := fun _ => Option β) (k 0) (fun j _ => k (Nat.succ j)) m
noncomputable def frcZ (n : Int) (k : Int → Option β) : Option β := Int.rec (motive := fun _ => Option β) (fun m => frc m fun m => k (.ofNat m)) (fun m => frc m fun m => k (.negSucc m)) n
theorem frc_eq (m : Nat) (k : Nat → Option β) : frc m k = k m := by cases m <;> rfl
theorem frcZ_eq (n : Int) (k : Int → Option β) : frcZ n k = k n := by
  cases n with
  | ofNat m => exact frc_eq m fun m => k (.ofNat m)
  | negSucc m => exact frc_eq m fun m => k (.negSucc m)

/-- A text, reckoned to its end before it is handed on. -/
noncomputable def frcL (xs : List UInt8) (k : List UInt8 → Option β) : Option β := List.rec (motive := fun _ => (List UInt8 → Option β) → Option β) (fun k => k []) (fun x _ ih k => ih fun r => k (x :: r)) xs k
theorem frcL_eq : ∀ (xs : List UInt8) (k : List UInt8 → Option β), frcL xs k = k xs
  | [], _ => rfl
  | x :: xs, k => frcL_eq xs fun r => k (x :: r)

noncomputable def ltZ (x y : Int) : Bool :=
  Int.rec (motive := fun _ => Bool) (fun a => Int.rec (motive := fun _ => Bool) (fun b => Nat.ble (Nat.succ a) b) (fun _ => false) y)
    (fun a => Int.rec (motive := fun _ => Bool) (fun _ => true) (fun b => Nat.ble (Nat.succ b) a) y) x
noncomputable def eqZ (x y : Int) : Bool :=
  Int.rec (motive := fun _ => Bool) (fun a => Int.rec (motive := fun _ => Bool) (fun b => Nat.beq a b) (fun _ => false) y)
    (fun a => Int.rec (motive := fun _ => Bool) (fun _ => false) (fun b => Nat.beq a b) y) x
theorem bool_of {b : Bool} {p : Prop} [Decidable p] (h : b = true ↔ p) : b = decide p := by
  cases b <;> simp_all
theorem ltZ_eq (x y : Int) : ltZ x y = decide (x < y) := by
  cases x <;> cases y <;> apply bool_of
  · show Nat.ble _ _ = true ↔ _; rw [Nat.ble_eq]; simp only [Int.ofNat_eq_natCast]; omega
  · show false = true ↔ _; simp only [Int.ofNat_eq_natCast, Int.negSucc_eq]; simp; omega
  · show true = true ↔ _; simp only [Int.ofNat_eq_natCast, Int.negSucc_eq]; simp; omega
  · show Nat.ble _ _ = true ↔ _; rw [Nat.ble_eq]; simp only [Int.negSucc_eq]; omega
theorem eqZ_eq (x y : Int) : eqZ x y = decide (x = y) := by
  cases x <;> cases y <;> apply bool_of
  · show Nat.beq _ _ = true ↔ _; rw [Nat.beq_eq]; simp only [Int.ofNat_eq_natCast]; omega
  · show false = true ↔ _; simp only [Int.ofNat_eq_natCast, Int.negSucc_eq]; simp; omega
  · show false = true ↔ _; simp only [Int.ofNat_eq_natCast, Int.negSucc_eq]; simp; omega
  · show Nat.beq _ _ = true ↔ _; rw [Nat.beq_eq]; simp only [Int.negSucc_eq]; omega

noncomputable def kIdx (k : IntKind) : Nat := IntKind.rec (motive := fun _ => Nat) 0 1 2 3 4 5 6 7 k
noncomputable def kEq (k k' : IntKind) : Bool := Nat.beq (kIdx k) (kIdx k')
theorem kEq_eq (k k' : IntKind) : kEq k k' = decide (k = k') := by cases k <;> cases k' <;> rfl

/-- The same number, its wrapping seen at a glance where it fits. -/
noncomputable def wrapF (k : IntKind) (n : Int) : Int :=
  cond (Nat.beq (kIdx k) 3) (Int.rec (motive := fun _ => Int) (fun m => cond (Nat.ble 9223372036854775808 m) (k.wrap n) n) (fun m => cond (Nat.ble 9223372036854775808 m) (k.wrap n) n) n) (k.wrap n)
theorem wrapF_eq (k : IntKind) (n : Int) : wrapF k n = k.wrap n := by
  unfold wrapF
  rw [cond_beq]
  split
  · rename_i hk
    have : k = .i64 := by cases k <;> first | rfl | (simp [kIdx] at hk)
    subst this
    cases n with
    | ofNat m =>
      show cond (Nat.ble 9223372036854775808 m) _ _ = _
      by_cases h : 9223372036854775808 ≤ m
      · rw [show Nat.ble 9223372036854775808 m = true from Nat.ble_eq.mpr h, cond_true]
      · rw [show Nat.ble 9223372036854775808 m = false from Bool.eq_false_iff.mpr fun hb => h (Nat.ble_eq.mp hb), cond_false]
        exact (wrap_i64 (by simp only [Int.ofNat_eq_natCast]; omega) (by simp only [Int.ofNat_eq_natCast]; omega)).symm
    | negSucc m =>
      show cond (Nat.ble 9223372036854775808 m) _ _ = _
      by_cases h : 9223372036854775808 ≤ m
      · rw [show Nat.ble 9223372036854775808 m = true from Nat.ble_eq.mpr h, cond_true]
      · rw [show Nat.ble 9223372036854775808 m = false from Bool.eq_false_iff.mpr fun hb => h (Nat.ble_eq.mp hb), cond_false]
        exact (wrap_i64 (by simp only [Int.negSucc_eq]; omega) (by simp only [Int.negSucc_eq]; omega)).symm
  · rfl

/-! ### Operations on values -/

abbrev VK (β : Type) := AV → Option β
abbrev K (β : Type) := AV → H → Option β
abbrev FCall (β : Type) := AV → List AV → H → K β → Option β

noncomputable def aInt (a : AV) (c : IntKind → Int → Option β) : Option β := match a with | .int k n => c k n | _ => none
noncomputable def aNat (a : AV) (c : Nat → Option β) : Option β := match a with
  | .int _ n => Int.rec (motive := fun _ => Option β) (fun m => frc m c) (fun _ => none) n
  | _ => none
noncomputable def aPtr (a : AV) (c : Nat → Nat → Option β) : Option β := match a with | .ptr b o => c b o | _ => none
noncomputable def aStr (a : AV) (c : List UInt8 → Option β) : Option β := match a with | .str s => c s | _ => none
noncomputable def aAgg (a : AV) (c : List AV → Option β) : Option β := match a with | .agg s => c s | _ => none
noncomputable def aBool (a : AV) (c : Bool → Option β) : Option β := match a with | .bool s => c s | _ => none
noncomputable def aSl (a : AV) (n : Option β) (c : Nat → Nat → Nat → Nat → Option Nat → Option β) : Option β := match a with | .nils => n | .sl b o l m g => c b o l m g | _ => none
noncomputable def aFlat (a : AV) (one : Option β) (c : List AV → Option β) : Option β := match a with | .agg us => c us | .tup _ => none | .any => none | _ => one
noncomputable def oSome {α : Type} (o : Option α) (c : α → Option β) : Option β := match o with | some v => c v | none => none
noncomputable def bnd (lo hi mx : Bool) (bs : List AV) (len cap : Nat) (c : Nat → Nat → Nat → Option β) : Option β := match bounds lo hi mx bs len cap with | some r => frc r.1 fun l => frc r.2.1 fun h => frc r.2.2 fun m => c l h m | none => none

noncomputable def pPick (a b c : AV) (k : VK β) : Option β := aBool a fun x => cond x (k b) (k c)
noncomputable def pBuild (z : List AV) (ps : List (Nat × Nat)) (vs : List AV) (k : VK β) : Option β :=
  List.rec (motive := fun _ => List AV → List AV → Option β)
    (fun vs z => match vs with | [] => k (.agg z) | _ => none)
    (fun p _ ih vs z => match vs with
      | [] => none
      | v :: vs => aFlat v (cond (Nat.beq p.2 1) (cond (Nat.ble (Nat.succ p.1) (lenF z)) (ih vs (putN z p.1 v)) none) none)
          fun us => cond (Nat.beq (lenF us) p.2) (cond (Nat.ble (Nat.add p.1 p.2) (lenF z)) (ih vs (putAtF z p.1 us)) none) none) ps vs z
noncomputable def pBin (op : BinOp) (a b : AV) (k : VK β) : Option β := aInt a fun ka x => aInt b fun kb y => cond (kindsFit op ka kb) (oSome (binI op ka x y) k) none
noncomputable def pAdd (a b : AV) (k : VK β) : Option β := aInt a fun ka x => aInt b fun kb y => cond (kEq ka kb) (frcZ (wrapF ka (Int.add x y)) fun z => k (.int ka z)) none
noncomputable def pSub (a b : AV) (k : VK β) : Option β := aInt a fun ka x => aInt b fun kb y => cond (kEq ka kb) (frcZ (wrapF ka (Int.sub x y)) fun z => k (.int ka z)) none
noncomputable def pMul (a b : AV) (k : VK β) : Option β := aInt a fun ka x => aInt b fun kb y => cond (kEq ka kb) (frcZ (wrapF ka (Int.mul x y)) fun z => k (.int ka z)) none
noncomputable def pEql (a b : AV) (k : VK β) : Option β := aInt a fun ka x => aInt b fun kb y => cond (kEq ka kb) (k (.bool (eqZ x y))) none
noncomputable def pNeq (a b : AV) (k : VK β) : Option β := aInt a fun ka x => aInt b fun kb y => cond (kEq ka kb) (k (.bool (not (eqZ x y)))) none
noncomputable def pLss (a b : AV) (k : VK β) : Option β := aInt a fun ka x => aInt b fun kb y => cond (kEq ka kb) (k (.bool (ltZ x y))) none
noncomputable def pLeq (a b : AV) (k : VK β) : Option β := aInt a fun ka x => aInt b fun kb y => cond (kEq ka kb) (k (.bool (not (ltZ y x)))) none
noncomputable def pGtr (a b : AV) (k : VK β) : Option β := aInt a fun ka x => aInt b fun kb y => cond (kEq ka kb) (k (.bool (ltZ y x))) none
noncomputable def pGeq (a b : AV) (k : VK β) : Option β := aInt a fun ka x => aInt b fun kb y => cond (kEq ka kb) (k (.bool (not (ltZ x y)))) none
noncomputable def pSAdd (a b : AV) (k : VK β) : Option β := aStr a fun x => aStr b fun y => cond (Nat.ble (Nat.succ (Nat.add (lenF x) (lenF y))) 9223372036854775807) (frcL (appF x y) fun s => k (.str s)) none
noncomputable def pSEql (a b : AV) (k : VK β) : Option β := aStr a fun x => aStr b fun y => k (.bool (eqSF x y))
noncomputable def pSNeq (a b : AV) (k : VK β) : Option β := aStr a fun x => aStr b fun y => k (.bool (not (eqSF x y)))
noncomputable def pBinS (op : BinOp) (a b : AV) (k : VK β) : Option β := aStr a fun x => aStr b fun y => oSome (binS op x y) k
noncomputable def pEqB (neg : Bool) (a b : AV) (k : VK β) : Option β := aBool a fun x => aBool b fun y => k (.bool ((x == y) != neg))
noncomputable def pIsNil (c : NK) (neg : Bool) (a : AV) (k : VK β) : Option β := oSome (nilIs c a) fun r => k (.bool (r != neg))
noncomputable def pEqP (neg : Bool) (a b : AV) (k : VK β) : Option β := aPtr a fun x o => aPtr b fun y o' => cond (Nat.beq x y) (cond (Nat.beq o o') (k (.bool (!neg))) none) none
noncomputable def pEqA (ks : List FK) (neg : Bool) (a b : AV) (k : VK β) : Option β := aAgg a fun x => aAgg b fun y => oSome (eqCells ks x y) fun r => k (.bool (r != neg))
noncomputable def pNot (a : AV) (k : VK β) : Option β := aBool a fun x => k (.bool (not x))
noncomputable def pNeg (a : AV) (k : VK β) : Option β := aInt a fun kd n => frcZ (wrapF kd (Int.sub 0 n)) fun z => k (.int kd z)
noncomputable def pConv (kd : IntKind) (a : AV) (k : VK β) : Option β := aInt a fun _ n => frcZ (wrapF kd n) fun z => k (.int kd z)
noncomputable def pIdS (a : AV) (k : VK β) : Option β := aStr a fun s => k (.str s)
noncomputable def pSlS (lo hi : Bool) (a : AV) (bs : List AV) (k : VK β) : Option β := aStr a fun s => bnd lo hi false bs (lenF s) (lenF s) fun l h _ => k (.str (dropF l (takeF h s)))
noncomputable def pSlL (es : Nat) (lo hi mx : Bool) (a : AV) (bs : List AV) (k : VK β) : Option β :=
  aSl a (oSome (bounds lo hi mx bs 0 0) fun _ => k .nils) fun b o len cap g =>
    cond (match g with | none => true | some e => Nat.beq e es) (bnd lo hi mx bs len cap fun l h m => frc (Nat.add o (Nat.mul l es)) fun o' => frc (Nat.sub h l) fun n => frc (Nat.sub m l) fun c => k (.sl b o' n c (cond mx none g))) none
noncomputable def pSlA (n es : Nat) (lo hi mx : Bool) (a : AV) (bs : List AV) (k : VK β) : Option β :=
  aPtr a fun b o => bnd lo hi mx bs n n fun l h m => frc (Nat.add o (Nat.mul l es)) fun o' => frc (Nat.sub h l) fun n => frc (Nat.sub m l) fun c => k (.sl b o' n c none)
noncomputable def pFadr (off : Nat) (a : AV) (k : VK β) : Option β := aPtr a fun b o => frc (Nat.add o off) fun o' => k (.ptr b o')
noncomputable def pFld1 (off : Nat) (a : AV) (k : VK β) : Option β := aAgg a fun cs => oSome (nthO cs off) k
noncomputable def pFldN (n off : Nat) (a : AV) (k : VK β) : Option β := aAgg a fun cs => cond (Nat.ble (Nat.add off n) (lenF cs)) (k (.agg (takeF n (dropF off cs)))) none
noncomputable def pIadr (es : Nat) (a i : AV) (k : VK β) : Option β :=
  aSl a none fun b o len _ _ => aNat i fun i => cond (Nat.ble (Nat.succ i) len) (frc (Nat.add o (Nat.mul i es)) fun o' => k (.ptr b o')) none
noncomputable def pIadrA (n es : Nat) (a i : AV) (k : VK β) : Option β :=
  aPtr a fun b o => aNat i fun i => cond (Nat.ble (Nat.succ i) n) (frc (Nat.add o (Nat.mul i es)) fun o' => k (.ptr b o')) none
noncomputable def pIdxS (a i : AV) (k : VK β) : Option β := aStr a fun s => aNat i fun i => oSome (nthO s i) fun c => frc c.toNat fun m => k (.int .u8 (.ofNat m))
noncomputable def pIdxA1 (n es : Nat) (a i : AV) (k : VK β) : Option β := aAgg a fun cs => aNat i fun i => cond (Nat.ble (Nat.succ i) n) (oSome (nthO cs (Nat.mul i es)) k) none
noncomputable def pIdxAN (n es m : Nat) (a i : AV) (k : VK β) : Option β :=
  aAgg a fun cs => aNat i fun i => cond (Nat.ble (Nat.succ i) n) (cond (Nat.ble (Nat.add (Nat.mul i es) m) (lenF cs)) (k (.agg (takeF m (dropF (Nat.mul i es) cs)))) none) none
noncomputable def pExt (i : Nat) (a : AV) (k : VK β) : Option β := match a with | .tup vs => oSome (nthO vs i) k | _ => none
noncomputable def pLenS (a : AV) (k : VK β) : Option β := aStr a fun s => frc (lenF s) fun n => k (.int .i64 (.ofNat n))
noncomputable def pLenL (a : AV) (k : VK β) : Option β := aSl a (k (.int .i64 (.ofNat 0))) fun _ _ len _ _ => k (.int .i64 (.ofNat len))
noncomputable def pCapL (a : AV) (k : VK β) : Option β := aSl a (k (.int .i64 (.ofNat 0))) fun _ _ _ cap g => match g with | none => k (.int .i64 (.ofNat cap)) | some _ => none
noncomputable def pMin (a b : AV) (k : VK β) : Option β := aInt a fun ka x => aInt b fun kb y => cond (kEq ka kb) (k (.int ka (cond (ltZ y x) y x))) none
noncomputable def pMax (a b : AV) (k : VK β) : Option β := aInt a fun ka x => aInt b fun kb y => cond (kEq ka kb) (k (.int ka (cond (ltZ x y) y x))) none

/-! ### Operations on the memory -/

noncomputable def cells (h : H) (b : Nat) (c : List AV → Option β) : Option β := match h.get b with | .own _ cs => c cs | .ro cs => c cs | _ => none
noncomputable def ownd (h : H) (b : Nat) (c : Nat → List AV → Option β) : Option β := match h.get b with | .own tag cs => c tag cs | _ => none
noncomputable def newB (h : H) (b : Blk) (c : Nat → H → Option β) : Option β := frc h.n fun n => c n ⟨h.t.setF (Nat.succ n) n b, Nat.succ n⟩

theorem newB_eq (h : H) (b : Blk) (c : Nat → H → Option β) : newB h b c = c h.n (h.push b) := by simp only [newB, frc_eq]; rfl

noncomputable def fAlloc (tag : Nat) (z : List AV) (h : H) (k : K β) : Option β := newB h (.own tag z) fun n h => k (.ptr n 0) h
noncomputable def fBox (tag : Nat) (a : AV) (h : H) (k : K β) : Option β := aFlat a (newB h (.own tag [a]) fun n h => k (.ptr n 0) h) fun cs => newB h (.own tag cs) fun n h => k (.ptr n 0) h
noncomputable def fBslice (tag : Nat) (z : List AV) (n : Nat) (ps : List (Nat × Nat)) (vs : List AV) (h : H) (k : K β) : Option β :=
  pBuild z ps vs fun v => aAgg v fun cs => newB h (.own tag cs) fun b h => k (.sl b 0 n n none) h
noncomputable def fLoad1 (a : AV) (h : H) (k : VK β) : Option β := aPtr a fun b o => cells h b fun cs => oSome (nthO cs o) k
noncomputable def fLoadN (n : Nat) (a : AV) (h : H) (k : VK β) : Option β := aPtr a fun b o => cells h b fun cs => cond (Nat.ble (Nat.add o n) (lenF cs)) (k (.agg (takeF n (dropF o cs)))) none
noncomputable def fStore (n : Nat) (a v : AV) (h : H) (k : H → Option β) : Option β :=
  aPtr a fun b o => ownd h b fun tag cs =>
    aFlat v (cond (Nat.beq n 1) (cond (Nat.ble (Nat.succ o) (lenF cs)) (k (h.set b (.own tag (putN cs o v)))) none) none)
      fun us => cond (Nat.beq (lenF us) n) (cond (Nat.ble (Nat.add o n) (lenF cs)) (k (h.set b (.own tag (putAtF cs o us)))) none) none
noncomputable def fNil (a : AV) (k : VK β) : Option β := match a with | .ptr b o => k (.ptr b o) | .fn f cs => k (.fn f cs) | _ => none
noncomputable def fB2s (a : AV) (h : H) (k : VK β) : Option β :=
  aSl a (k (.str [])) fun b o len _ _ => cells h b fun cs => cond (Nat.ble (Nat.add o len) (lenF cs)) (oSome (bytesOf (takeF len (dropF o cs))) fun s => k (.str s)) none
noncomputable def fS2b (tag : Nat) (a : AV) (h : H) (k : K β) : Option β := aStr a fun s => newB h (.own tag (ofBytes s)) fun b h => frc (lenF s) fun n => k (.sl b 0 n n (some 1)) h
noncomputable def fMkslice (tag : Nat) (z : List AV) (bytes : Nat) (l c : AV) (h : H) (k : K β) : Option β :=
  aNat l fun l => aNat c fun c => cond (Nat.ble l c) (cond (Nat.ble (Nat.succ c) room) (cond (Nat.ble bytes 1024) (newB h (.own tag (rep c z)) fun b h => k (.sl b 0 l c none) h) none) none) none
noncomputable def fSrc (es : Nat) (a : AV) (h : H) (c : Nat → List AV → Option β) : Option β := match a with
  | .nils => c 0 []
  | .sl b o len _ _ => cells h b fun cs => cond (Nat.ble (Nat.add o (Nat.mul len es)) (lenF cs)) (c len (takeF (Nat.mul len es) (dropF o cs))) none
  | .str s => cond (Nat.beq es 1) (frc (lenF s) fun n => c n (ofBytes s)) none
  | _ => none
noncomputable def fGrow (tag es bytes : Nat) (s : AV) (n : Nat) (new : List AV) (h : H) (k : K β) : Option β :=
  aSl s (cond (Nat.beq n 0) (k .nils h) (cond (Nat.ble (Nat.succ n) room) (cond (Nat.ble bytes 1024) (newB h (.own tag new) fun b h => k (.sl b 0 n n (some es)) h) none) none))
    fun b o len cap g => frc (Nat.add len n) fun m => cond (Nat.ble m cap)
      (cond (Nat.beq n 0) (k (.sl b o len cap g) h)
        (ownd h b fun tag' cs => cond (Nat.ble (Nat.add (Nat.add o (Nat.mul len es)) (lenF new)) (lenF cs)) (k (.sl b o m cap g) (h.set b (.own tag' (putAtF cs (Nat.add o (Nat.mul len es)) new)))) none))
      (cond (Nat.ble (Nat.succ m) room) (cond (Nat.ble bytes 1024)
        (cells h b fun cs => cond (Nat.ble (Nat.add o (Nat.mul len es)) (lenF cs))
          (match g with
           | none => newB h (.own tag (appF (takeF (Nat.mul len es) (dropF o cs)) new)) fun b' h => k (.sl b' 0 m m (some es)) h
           | some es' => ownd h b fun tag' cs' => cond (Nat.beq es' es) (cond (Nat.beq (Nat.add o (Nat.mul len es)) (lenF cs')) (cond (Nat.beq tag' tag)
               (newB (h.set b .dead) (.own tag (appF (takeF (Nat.mul len es) (dropF o cs)) new)) fun b' h => k (.sl b' 0 m m (some es)) h) none) none) none) none) none) none)
noncomputable def fApp (tag es bytes : Nat) (s x : AV) (h : H) (k : K β) : Option β := fSrc es x h fun n new => fGrow tag es bytes s n new h k
noncomputable def fAppz (tag es bytes : Nat) (z : List AV) (s x : AV) (h : H) (k : K β) : Option β :=
  aNat x fun n => cond (Nat.ble (Nat.succ n) room) (cond (Nat.ble bytes 1024) (fGrow tag es bytes s n (rep n z) h k) none) none
noncomputable def aLen (a : AV) (c : Nat → Option β) : Option β := match a with
  | .nils => c 0
  | .sl _ _ len _ _ => c len
  | .str s => frc (lenF s) c
  | _ => none
noncomputable def fSrcM (es m : Nat) (a : AV) (h : H) (c : List AV → Option β) : Option β := match a with
  | .nils => c []
  | .sl b o _ _ _ => cells h b fun cs => cond (Nat.ble (Nat.add o (Nat.mul m es)) (lenF cs)) (c (takeF (Nat.mul m es) (dropF o cs))) none
  | .str s => cond (Nat.beq es 1) (c (ofBytes (takeF m s))) none
  | _ => none
noncomputable def fCpy (es : Nat) (d x : AV) (h : H) (k : K β) : Option β :=
  aLen d fun dl => aLen x fun xl => frc (cond (Nat.ble xl dl) xl dl) fun m => fSrcM es m x h fun us =>
    aSl d (k (.int .i64 (.ofNat 0)) h) fun b o _ _ _ => cond (Nat.beq m 0) (k (.int .i64 (.ofNat 0)) h)
      (ownd h b fun tag cs => cond (Nat.ble (Nat.add o (lenF us)) (lenF cs)) (k (.int .i64 (.ofNat m)) (h.set b (.own tag (putAtF cs o us)))) none)

/-! ### Which operation -/

abbrev a0 (vs : List AV) (c : Option β) : Option β := match vs with | [] => c | _ => none
abbrev a1 (vs : List AV) (c : AV → Option β) : Option β := match vs with | [a] => c a | _ => none
abbrev a2 (vs : List AV) (c : AV → AV → Option β) : Option β := match vs with | [a, b] => c a b | _ => none
abbrev a3 (vs : List AV) (c : AV → AV → AV → Option β) : Option β := match vs with | [a, b, d] => c a b d | _ => none
abbrev aC (vs : List AV) (c : AV → List AV → Option β) : Option β := match vs with | a :: vs => c a vs | _ => none

noncomputable abbrev fBinI (op : BinOp) (a b : AV) (k : VK β) : Option β := match op with
  | .add => pAdd a b k | .sub => pSub a b k | .mul => pMul a b k
  | .eql => pEql a b k | .neq => pNeq a b k | .lss => pLss a b k | .leq => pLeq a b k | .gtr => pGtr a b k | .geq => pGeq a b k
  | op => pBin op a b k

noncomputable abbrev fBinS (op : BinOp) (a b : AV) (k : VK β) : Option β := match op with
  | .add => pSAdd a b k | .eql => pSEql a b k | .neq => pSNeq a b k
  | op => pBinS op a b k

noncomputable abbrev fAp (call : FCall β) (f : OpK) (vs : List AV) (h : H) (k : K β) : Option β := match f with
  | .mov => a1 vs fun a => k a h
  | .pick => a3 vs fun a b c => pPick a b c fun v => k v h
  | .alloc tag z => a0 vs (fAlloc tag z h k)
  | .box tag => a1 vs fun a => fBox tag a h k
  | .build z ps => pBuild z ps vs fun v => k v h
  | .bslice tag z n ps => fBslice tag z n ps vs h k
  | .load1 => a1 vs fun a => fLoad1 a h fun v => k v h
  | .loadN n => a1 vs fun a => fLoadN n a h fun v => k v h
  | .store n => a2 vs fun a b => fStore n a b h fun h => k (.tup []) h
  | .nilCheck => a1 vs fun a => fNil a fun v => k v h
  | .binI op => a2 vs fun a b => fBinI op a b fun v => k v h
  | .binS op => a2 vs fun a b => fBinS op a b fun v => k v h
  | .eqB neg => a2 vs fun a b => pEqB neg a b fun v => k v h
  | .isNil c neg => a1 vs fun a => pIsNil c neg a fun v => k v h
  | .eqP neg => a2 vs fun a b => pEqP neg a b fun v => k v h
  | .eqA ks neg => a2 vs fun a b => pEqA ks neg a b fun v => k v h
  | .notB => a1 vs fun a => pNot a fun v => k v h
  | .negI => a1 vs fun a => pNeg a fun v => k v h
  | .conv kd => a1 vs fun a => pConv kd a fun v => k v h
  | .b2s => a1 vs fun a => fB2s a h fun v => k v h
  | .s2b tag => a1 vs fun a => fS2b tag a h k
  | .idS => a1 vs fun a => pIdS a fun v => k v h
  | .slS lo hi => aC vs fun a bs => pSlS lo hi a bs fun v => k v h
  | .slL es lo hi mx => aC vs fun a bs => pSlL es lo hi mx a bs fun v => k v h
  | .slA n es lo hi mx => aC vs fun a bs => pSlA n es lo hi mx a bs fun v => k v h
  | .fadr off => a1 vs fun a => pFadr off a fun v => k v h
  | .fld1 off => a1 vs fun a => pFld1 off a fun v => k v h
  | .fldN n off => a1 vs fun a => pFldN n off a fun v => k v h
  | .iadr es => a2 vs fun a b => pIadr es a b fun v => k v h
  | .iadrA n es => a2 vs fun a b => pIadrA n es a b fun v => k v h
  | .idxS => a2 vs fun a b => pIdxS a b fun v => k v h
  | .idxA1 n es => a2 vs fun a b => pIdxA1 n es a b fun v => k v h
  | .idxAN n es m => a2 vs fun a b => pIdxAN n es m a b fun v => k v h
  | .ext i => a1 vs fun a => pExt i a fun v => k v h
  | .mkfn g => k (.fn g vs) h
  | .mkslice tag z bytes => a2 vs fun a b => fMkslice tag z bytes a b h k
  | .lenS => a1 vs fun a => pLenS a fun v => k v h
  | .lenL => a1 vs fun a => pLenL a fun v => k v h
  | .lenC n => a1 vs fun _ => k (.int .i64 n) h
  | .capL => a1 vs fun a => pCapL a fun v => k v h
  | .app tag es bytes => a2 vs fun a b => fApp tag es bytes a b h k
  | .appz tag es bytes z => a2 vs fun a b => fAppz tag es bytes z a b h k
  | .cpy es => a2 vs fun a b => fCpy es a b h k
  | .minI => a2 vs fun a b => pMin a b fun v => k v h
  | .maxI => a2 vs fun a b => pMax a b fun v => k v h
  | .call g => call (.fn g []) vs h k
  | .callv => aC vs fun g vs => call g vs h k
  | .mkifc => a1 vs fun _ => k .opq h
  | _ => none
end
end Am.F
