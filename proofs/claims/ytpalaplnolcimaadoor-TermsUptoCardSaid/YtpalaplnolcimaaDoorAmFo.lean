/- The evaluator by continuations is sound: an operation that goes on is the abstract machine's. -/
import Derived.Test.YtpalaplnolcimaaDoorAmFd
namespace Am.F
open Go Am

section
variable {β : Type} {r : β}

theorem aInt_some {a : AV} {c : IntKind → Int → Option β} (h : aInt a c = some r) : ∃ k n, a = .int k n ∧ c k n = some r := by
  cases a <;> simp only [aInt] at h <;> first | exact ⟨_, _, rfl, h⟩ | cases h
theorem aNat_some {a : AV} {c : Nat → Option β} (h : aNat a c = some r) : ∃ n, natOf a = some n ∧ c n = some r := by
  cases a <;> simp only [aNat] at h <;> try cases h
  rename_i k n
  cases n with
  | ofNat m =>
    rw [show (Int.rec (motive := fun _ => Option β) (fun m => frc m c) (fun _ => none) (Int.ofNat m) : Option β) = frc m c from rfl, frc_eq] at h
    exact ⟨m, by simp [natOf], h⟩
  | negSucc m => cases h
theorem aPtr_some {a : AV} {c : Nat → Nat → Option β} (h : aPtr a c = some r) : ∃ b o, a = .ptr b o ∧ c b o = some r := by
  cases a <;> simp only [aPtr] at h <;> first | exact ⟨_, _, rfl, h⟩ | cases h
theorem aStr_some {a : AV} {c : List UInt8 → Option β} (h : aStr a c = some r) : ∃ s, a = .str s ∧ c s = some r := by
  cases a <;> simp only [aStr] at h <;> first | exact ⟨_, rfl, h⟩ | cases h
theorem aAgg_some {a : AV} {c : List AV → Option β} (h : aAgg a c = some r) : ∃ s, a = .agg s ∧ c s = some r := by
  cases a <;> simp only [aAgg] at h <;> first | exact ⟨_, rfl, h⟩ | cases h
theorem aBool_some {a : AV} {c : Bool → Option β} (h : aBool a c = some r) : ∃ s, a = .bool s ∧ c s = some r := by
  cases a <;> simp only [aBool] at h <;> first | exact ⟨_, rfl, h⟩ | cases h
theorem aSl_some {a : AV} {n : Option β} {c : Nat → Nat → Nat → Nat → Option Nat → Option β} (h : aSl a n c = some r) : (a = .nils ∧ n = some r) ∨ ∃ b o l m g, a = .sl b o l m g ∧ c b o l m g = some r := by
  cases a <;> simp only [aSl] at h <;> first | exact .inr ⟨_, _, _, _, _, rfl, h⟩ | exact .inl ⟨rfl, h⟩ | cases h
theorem aFlat_some {a : AV} {n : Option β} {c : List AV → Option β} (h : aFlat a n c = some r) : (∃ us, a = .agg us ∧ c us = some r) ∨ (a.flat = some [a] ∧ (∀ us, a ≠ .agg us) ∧ n = some r) := by
  cases a <;> simp only [aFlat] at h <;> first | exact .inl ⟨_, rfl, h⟩ | exact .inr ⟨rfl, (by intro us h; cases h), h⟩ | cases h
theorem oSome_some {α : Type} {o : Option α} {c : α → Option β} (h : oSome o c = some r) : ∃ v, o = some v ∧ c v = some r := by
  cases o <;> simp only [oSome] at h <;> first | exact ⟨_, rfl, h⟩ | cases h
theorem cond_some {b : Bool} {x : Option β} (h : cond b x none = some r) : b = true ∧ x = some r := by
  cases b
  · cases h
  · exact ⟨rfl, h⟩
theorem cond_or.{u} {α : Type u} {b : Bool} {x y z : α} (h : cond b x y = z) : (b = true ∧ x = z) ∨ (b = false ∧ y = z) := by
  cases b
  · exact .inr ⟨rfl, h⟩
  · exact .inl ⟨rfl, h⟩
theorem ble_t {m n : Nat} (h : Nat.ble m n = true) : m ≤ n := Nat.ble_eq.mp h
theorem ble_f {m n : Nat} (h : Nat.ble m n = false) : n < m := by
  rcases Nat.lt_or_ge n m with h1 | h1
  · exact h1
  · rw [Nat.ble_eq.mpr h1] at h; cases h
theorem blt_t {m n : Nat} (h : Nat.ble (Nat.succ m) n = true) : m < n := Nat.ble_eq.mp h
theorem ble2_t {a b n : Nat} (h : Nat.ble (Nat.add a b) n = true) : a + b ≤ n := Nat.ble_eq.mp h
theorem beq_t {m n : Nat} (h : Nat.beq m n = true) : m = n := Nat.eq_of_beq_eq_true h
theorem beq_f {m n : Nat} (h : Nat.beq m n = false) : m ≠ n := fun e => by subst e; rw [Nat.beq_refl] at h; cases h
theorem bnd_some {lo hi mx : Bool} {bs : List AV} {len cap : Nat} {c : Nat → Nat → Nat → Option β} (h : bnd lo hi mx bs len cap c = some r) : ∃ q, bounds lo hi mx bs len cap = some q ∧ c q.1 q.2.1 q.2.2 = some r := by
  unfold bnd at h
  cases hb : bounds lo hi mx bs len cap with
  | none => rw [hb] at h; cases h
  | some q => rw [hb] at h; simp only [frc_eq] at h; exact ⟨q, rfl, h⟩
theorem cells_some {h : H} {S : St} {b : Nat} {c : List AV → Option β} (ha : Abs h S) (hc : cells h b c = some r) : ∃ k cs, S[b]? = some k ∧ k.cells = some cs ∧ c cs = some r := by
  unfold cells at hc
  split at hc <;> first | exact ⟨_, _, ha.at_ (by assumption) (by intro h; cases h), rfl, hc⟩ | cases hc
theorem ownd_some {h : H} {S : St} {b : Nat} {c : Nat → List AV → Option β} (ha : Abs h S) (hc : ownd h b c = some r) : ∃ tag cs, S[b]? = some (.own tag cs) ∧ c tag cs = some r := by
  unfold ownd at hc
  split at hc <;> first | exact ⟨_, _, ha.at_ (by assumption) (by intro h; cases h), hc⟩ | cases hc

/-- What an operation comes to, and then goes on. -/
def Goes (sem : St → Option (AV × St)) (S : St) (k : K β) (r : β) : Prop := ∃ v S' h', sem S = some (v, S') ∧ Abs h' S' ∧ k v h' = some r

theorem Goes.here {sem : St → Option (AV × St)} {S : St} {h : H} {k : K β} {v : AV} (ha : Abs h S) (hs : sem S = some (v, S)) (hk : k v h = some r) : Goes sem S k r := ⟨v, S, h, hs, ha, hk⟩
theorem Goes.new {sem : St → Option (AV × St)} {S : St} {h : H} {k : K β} {v : AV} {b : Blk} (ha : Abs h S) (hs : sem S = some (v, S ++ [b])) (hk : k v (h.push b) = some r) : Goes sem S k r := ⟨v, _, _, hs, ha.push b, hk⟩

theorem pBuild_ok : ∀ {ps : List (Nat × Nat)} {z vs : List AV} {k : VK β}, pBuild z ps vs k = some r → ∃ cs, fill ps vs z = some cs ∧ k (.agg cs) = some r
  | [], z, [], k, h => ⟨z, rfl, h⟩
  | [], z, v :: vs, k, h => by cases h
  | p :: ps, z, [], k, h => by cases h
  | (off, size) :: ps, z, v :: vs, k, h => by
    have h1 : pBuild z ((off, size) :: ps) (v :: vs) k = aFlat v (cond (Nat.beq size 1) (cond (Nat.ble (Nat.succ off) (lenF z)) (pBuild (putN z off v) ps vs k) none) none)
          fun us => cond (Nat.beq (lenF us) size) (cond (Nat.ble (Nat.add off size) (lenF z)) (pBuild (putAtF z off us) ps vs k) none) none := rfl
    rw [h1] at h
    rcases aFlat_some h with ⟨us, rfl, h2⟩ | ⟨h2, h3, h4⟩
    · obtain ⟨h3, h4⟩ := cond_some h2
      obtain ⟨h5, h6⟩ := cond_some h4
      have h3 := beq_t h3; have h5 := ble_t h5
      simp only [lenF_eq, putAtF_eq] at h3 h5 h6
      obtain ⟨cs, h7, h8⟩ := pBuild_ok h6
      refine ⟨cs, ?_, h8⟩
      simp only [fill, AV.flat, Option.bind_some]
      rw [if_pos ⟨h3, h5⟩]; exact h7
    · obtain ⟨h5, h6⟩ := cond_some h4
      obtain ⟨h7, h8⟩ := cond_some h6
      have h5 := beq_t h5; have h7 := ble_t h7
      simp only [lenF_eq, putN_eq] at h7 h8
      subst h5
      obtain ⟨cs, h9, h10⟩ := pBuild_ok h8
      refine ⟨cs, ?_, h10⟩
      simp only [fill, h2, Option.bind_some]
      rw [if_pos ⟨rfl, h7⟩]; exact h9

theorem fGrow_ok {tag es bytes n : Nat} {s : AV} {new : List AV} {h : H} {S : St} {k : K β} (ha : Abs h S) (hg : fGrow tag es bytes s n new h k = some r) : Goes (grow tag es bytes s n new) S k r := by
  unfold fGrow at hg
  rcases aSl_some hg with ⟨rfl, h1⟩ | ⟨b, o, len, cap, g, rfl, h1⟩
  · rcases cond_or h1 with ⟨h2, h3⟩ | ⟨h2, h3⟩
    · have h2 := beq_t h2
      exact .here ha (by simp [grow, h2]) h3
    · have h2 := beq_f h2
      obtain ⟨h4, h5⟩ := cond_some h3
      obtain ⟨h6, h7⟩ := cond_some h5
      have h4 := ble_t h4; have h6 := ble_t h6
      rw [newB_eq] at h7
      refine .new ha ?_ h7
      simp only [grow]
      rw [if_neg h2, if_pos ⟨h4, h6⟩, ha.len]
  · rw [frc_eq] at h1
    rcases cond_or h1 with ⟨h2, h3⟩ | ⟨h2, h3⟩
    · have h2 : len + n ≤ cap := ble_t h2
      rcases cond_or h3 with ⟨h4, h5⟩ | ⟨h4, h5⟩
      · have h4 := beq_t h4
        exact .here ha (by simp only [grow]; rw [if_pos h2, if_pos h4]) h5
      · have h4 := beq_f h4
        obtain ⟨tag', cs, h6, h7⟩ := ownd_some ha h5
        obtain ⟨h8, h9⟩ := cond_some h7
        have h8 := ble_t h8
        simp only [lenF_eq, putAtF_eq] at h8 h9
        refine ⟨_, _, _, ?_, ha.set h6 _, h9⟩
        simp only [grow]
        rw [if_pos h2, if_neg h4]
        have h8 : o + len * es + new.length ≤ cs.length := h8
        simp only [St.storeN, h6, if_pos h8, Option.map_some]
        rfl
    · have h2 := ble_f h2
      obtain ⟨h4, h5⟩ := cond_some h3
      obtain ⟨h6, h7⟩ := cond_some h5
      have h4 := ble_t h4; have h6 := ble_t h6
      obtain ⟨kb, cs, h8, h9, h10⟩ := cells_some ha h7
      obtain ⟨h11, h12⟩ := cond_some h10
      have h11 := ble_t h11
      simp only [lenF_eq] at h11
      have h2 : ¬ len + n ≤ cap := by have : cap < len + n := h2; omega
      have h4 : len + n < room := h4
      have h11 : o + len * es ≤ cs.length := h11
      have hl : S.loadN b o (len * es) = some ((cs.drop o).take (len * es)) := by simp only [St.loadN, h8, h9, if_pos h11]
      cases g with
      | none =>
        simp only [newB_eq, appF_eq, takeF_eq, dropF_eq] at h12
        refine .new ha ?_ h12
        simp only [grow]
        rw [if_neg h2, if_pos ⟨h4, h6⟩, hl]
        simp only [Option.bind_some, ha.len]
        rfl
      | some es' =>
        obtain ⟨tag', cs', h13, h14⟩ := ownd_some ha h12
        obtain ⟨h15, h16⟩ := cond_some h14
        obtain ⟨h17, h18⟩ := cond_some h16
        obtain ⟨h19, h20⟩ := cond_some h18
        have h15 := beq_t h15; have h17 := beq_t h17; have h19 := beq_t h19
        simp only [newB_eq, appF_eq, takeF_eq, dropF_eq, lenF_eq, H.n_set] at h17 h20
        rw [h13] at h8; cases h8
        refine ⟨_, _, _, ?_, (ha.set h13 .dead).push _, h20⟩
        simp only [grow]
        rw [if_neg h2, if_pos ⟨h4, h6⟩, hl]
        simp only [Option.bind_some, h13, ha.len]
        rw [if_pos ⟨h15, h17, h19⟩]
        rfl

theorem loadN_of {S : St} {b o n : Nat} {kb : Blk} {cs : List AV} (h1 : S[b]? = some kb) (h2 : kb.cells = some cs) (h3 : o + n ≤ cs.length) : S.loadN b o n = some ((cs.drop o).take n) := by
  simp only [St.loadN, h1, h2, if_pos h3]

theorem fSrc_some {es : Nat} {a : AV} {h : H} {S : St} {c : Nat → List AV → Option β} (ha : Abs h S) (hs : fSrc es a h c = some r) : ∃ n new, srcLen a = some n ∧ srcCells S es n a = some new ∧ c n new = some r := by
  unfold fSrc at hs
  split at hs
  · exact ⟨0, [], rfl, rfl, hs⟩
  · obtain ⟨kb, cs, h8, h9, h10⟩ := cells_some ha hs
    obtain ⟨h11, h12⟩ := cond_some h10
    have h11 := ble_t h11
    simp only [lenF_eq, takeF_eq, dropF_eq] at h11 h12
    exact ⟨_, _, rfl, loadN_of h8 h9 h11, h12⟩
  · rename_i s
    obtain ⟨h11, h12⟩ := cond_some hs
    have h11 := beq_t h11
    simp only [frc_eq, lenF_eq] at h12
    exact ⟨_, _, rfl, by simp only [srcCells, if_pos h11, List.take_length], h12⟩
  · cases hs

theorem aLen_some {a : AV} {c : Nat → Option β} (h : aLen a c = some r) : ∃ n, srcLen a = some n ∧ c n = some r := by
  unfold aLen at h
  split at h
  · exact ⟨_, rfl, h⟩
  · exact ⟨_, rfl, h⟩
  · simp only [frc_eq, lenF_eq] at h; exact ⟨_, rfl, h⟩
  · cases h

theorem fSrcM_some {es m : Nat} {a : AV} {h : H} {S : St} {c : List AV → Option β} (ha : Abs h S) (hs : fSrcM es m a h c = some r) : ∃ new, srcCells S es m a = some new ∧ c new = some r := by
  unfold fSrcM at hs
  split at hs
  · exact ⟨[], rfl, hs⟩
  · obtain ⟨kb, cs, h8, h9, h10⟩ := cells_some ha hs
    obtain ⟨h11, h12⟩ := cond_some h10
    have h11 := ble_t h11
    simp only [lenF_eq, takeF_eq, dropF_eq] at h11 h12
    exact ⟨_, loadN_of h8 h9 h11, h12⟩
  · obtain ⟨h11, h12⟩ := cond_some hs
    have h11 := beq_t h11
    simp only [takeF_eq] at h12
    exact ⟨_, by simp only [srcCells, if_pos h11], h12⟩
  · cases hs

theorem a0_some {vs : List AV} {c : Option β} (h : a0 vs c = some r) : vs = [] ∧ c = some r := by
  unfold a0 at h; split at h <;> first | exact ⟨rfl, h⟩ | cases h
theorem a1_some {vs : List AV} {c : AV → Option β} (h : a1 vs c = some r) : ∃ a, vs = [a] ∧ c a = some r := by
  unfold a1 at h; split at h <;> first | exact ⟨_, rfl, h⟩ | cases h
theorem a2_some {vs : List AV} {c : AV → AV → Option β} (h : a2 vs c = some r) : ∃ a b, vs = [a, b] ∧ c a b = some r := by
  unfold a2 at h; split at h <;> first | exact ⟨_, _, rfl, h⟩ | cases h
theorem a3_some {vs : List AV} {c : AV → AV → AV → Option β} (h : a3 vs c = some r) : ∃ a b d, vs = [a, b, d] ∧ c a b d = some r := by
  unfold a3 at h; split at h <;> first | exact ⟨_, _, _, rfl, h⟩ | cases h
theorem aC_some {vs : List AV} {c : AV → List AV → Option β} (h : aC vs c = some r) : ∃ a b, vs = a :: b ∧ c a b = some r := by
  unfold aC at h; split at h <;> first | exact ⟨_, _, rfl, h⟩ | cases h

theorem two_some {a b : AV} {c : IntKind → Int → Int → Option β} (h : (aInt a fun ka x => aInt b fun kb y => cond (kEq ka kb) (c ka x y) none) = some r) :
    ∃ k x y, a = .int k x ∧ b = .int k y ∧ c k x y = some r := by
  obtain ⟨ka, x, rfl, h_1⟩ := aInt_some h
  obtain ⟨kb, y, rfl, h_2⟩ := aInt_some h_1
  obtain ⟨h1, h_3⟩ := cond_some h_2
  simp only [kEq_eq, decide_eq_true_eq] at h1
  subst h1
  exact ⟨_, _, _, rfl, rfl, h_3⟩

theorem fBinI_ok {op : BinOp} {a b : AV} {k : VK β} (h : fBinI op a b k = some r) : ∃ ka x kb y v, a = .int ka x ∧ b = .int kb y ∧ kindsFit op ka kb = true ∧ binI op ka x y = some v ∧ k v = some r := by
  cases op with
  | add => obtain ⟨k, x, y, rfl, rfl, h_1⟩ := two_some h; simp only [frcZ_eq, wrapF_eq] at h_1; exact ⟨_, _, _, _, _, rfl, rfl, by simp [kindsFit], rfl, h_1⟩
  | sub => obtain ⟨k, x, y, rfl, rfl, h_1⟩ := two_some h; simp only [frcZ_eq, wrapF_eq] at h_1; exact ⟨_, _, _, _, _, rfl, rfl, by simp [kindsFit], rfl, h_1⟩
  | mul => obtain ⟨k, x, y, rfl, rfl, h_1⟩ := two_some h; simp only [frcZ_eq, wrapF_eq] at h_1; exact ⟨_, _, _, _, _, rfl, rfl, by simp [kindsFit], rfl, h_1⟩
  | eql => obtain ⟨k, x, y, rfl, rfl, h_1⟩ := two_some h; exact ⟨_, _, _, _, _, rfl, rfl, by simp [kindsFit], by simp only [binI]; rw [show (x == y) = eqZ x y by rw [eqZ_eq]; simp [Bool.beq_eq_decide_eq]], h_1⟩
  | neq => obtain ⟨k, x, y, rfl, rfl, h_1⟩ := two_some h; exact ⟨_, _, _, _, _, rfl, rfl, by simp [kindsFit], by simp only [binI]; rw [show (x != y) = not (eqZ x y) by rw [eqZ_eq]; simp [bne, Bool.beq_eq_decide_eq]], h_1⟩
  | lss => obtain ⟨k, x, y, rfl, rfl, h_1⟩ := two_some h; exact ⟨_, _, _, _, _, rfl, rfl, by simp [kindsFit], by simp only [binI]; rw [show decide (x < y) = ltZ x y by rw [ltZ_eq]], h_1⟩
  | leq => obtain ⟨k, x, y, rfl, rfl, h_1⟩ := two_some h; exact ⟨_, _, _, _, _, rfl, rfl, by simp [kindsFit], by simp only [binI]; rw [show decide (x ≤ y) = not (ltZ y x) by rw [ltZ_eq, ← decide_not]; congr 1; apply propext; omega], h_1⟩
  | gtr => obtain ⟨k, x, y, rfl, rfl, h_1⟩ := two_some h; exact ⟨_, _, _, _, _, rfl, rfl, by simp [kindsFit], by simp only [binI]; rw [show decide (x > y) = ltZ y x by rw [ltZ_eq]], h_1⟩
  | geq => obtain ⟨k, x, y, rfl, rfl, h_1⟩ := two_some h; exact ⟨_, _, _, _, _, rfl, rfl, by simp [kindsFit], by simp only [binI]; rw [show decide (x ≥ y) = not (ltZ x y) by rw [ltZ_eq, ← decide_not]; congr 1; apply propext; omega], h_1⟩
  | _ =>
    obtain ⟨ka, x, rfl, h_1⟩ := aInt_some h
    obtain ⟨kb, y, rfl, h_2⟩ := aInt_some h_1
    obtain ⟨h1, h_3⟩ := cond_some h_2
    obtain ⟨v, h2, h3⟩ := oSome_some h_3
    exact ⟨_, _, _, _, _, rfl, rfl, h1, h2, h3⟩

theorem fBinS_ok {op : BinOp} {a b : AV} {k : VK β} (h : fBinS op a b k = some r) : ∃ x y v, a = .str x ∧ b = .str y ∧ binS op x y = some v ∧ k v = some r := by
  cases op with
  | add =>
    obtain ⟨x, rfl, h_1⟩ := aStr_some h
    obtain ⟨y, rfl, h_2⟩ := aStr_some h_1
    obtain ⟨h1, h_3⟩ := cond_some h_2
    have h1 := ble_t h1
    simp only [lenF_eq, appF_eq, frcL_eq] at h1 h_3
    have h1 : x.length + y.length + 1 ≤ 9223372036854775807 := h1
    exact ⟨_, _, _, rfl, rfl, by simp only [binS]; rw [if_pos (by omega)], h_3⟩
  | eql => obtain ⟨x, rfl, h_1⟩ := aStr_some h; obtain ⟨y, rfl, h_2⟩ := aStr_some h_1; rw [eqSF_eq] at h_2; exact ⟨_, _, _, rfl, rfl, rfl, h_2⟩
  | neq => obtain ⟨x, rfl, h_1⟩ := aStr_some h; obtain ⟨y, rfl, h_2⟩ := aStr_some h_1; rw [eqSF_eq] at h_2; exact ⟨_, _, _, rfl, rfl, rfl, h_2⟩
  | _ =>
    obtain ⟨x, rfl, h_1⟩ := aStr_some h
    obtain ⟨y, rfl, h_2⟩ := aStr_some h_1
    obtain ⟨v, h2, h3⟩ := oSome_some h_2
    exact ⟨_, _, _, rfl, rfl, h2, h3⟩

def FOk (fcall : FCall β) (scall : Call) : Prop := ∀ f vs h k r S, fcall f vs h k = some r → Abs h S → Goes (scall f vs) S k r

theorem fLoad1_ok {a : AV} {h : H} {S : St} {k : VK β} (ha : Abs h S) (hl : fLoad1 a h k = some r) : ∃ b o v, a = .ptr b o ∧ S.load1 b o = some v ∧ k v = some r := by
  obtain ⟨b, o, rfl, hl_1⟩ := aPtr_some hl
  obtain ⟨kb, cs, h1, h2, h3⟩ := cells_some ha hl_1
  obtain ⟨v, h4, h5⟩ := oSome_some h3
  rw [nthO_eq] at h4
  exact ⟨_, _, v, rfl, by simp only [St.load1, h1, h2, h4], h5⟩

theorem fLoadN_ok {n : Nat} {a : AV} {h : H} {S : St} {k : VK β} (ha : Abs h S) (hl : fLoadN n a h k = some r) : ∃ b o cs, a = .ptr b o ∧ S.loadN b o n = some cs ∧ k (.agg cs) = some r := by
  obtain ⟨b, o, rfl, hl_1⟩ := aPtr_some hl
  obtain ⟨kb, cs, h1, h2, h3⟩ := cells_some ha hl_1
  obtain ⟨h4, h5⟩ := cond_some h3
  have h4 := ble_t h4
  simp only [lenF_eq, takeF_eq, dropF_eq] at h4 h5
  have h4 : o + n ≤ cs.length := h4
  exact ⟨_, _, _, rfl, by simp only [St.loadN, h1, h2, if_pos h4], h5⟩

theorem fStore_ok {n : Nat} {a v : AV} {h : H} {S : St} {k : H → Option β} (ha : Abs h S) (hl : fStore n a v h k = some r) :
    ∃ b o us S' h', a = .ptr b o ∧ v.flat = some us ∧ us.length = n ∧ S.storeN b o us = some S' ∧ Abs h' S' ∧ k h' = some r := by
  obtain ⟨b, o, rfl, hl_1⟩ := aPtr_some hl
  obtain ⟨tag, cs, h1, h3⟩ := ownd_some ha hl_1
  rcases aFlat_some h3 with ⟨us, rfl, h4⟩ | ⟨h4, _, h5⟩
  · obtain ⟨h5, h6⟩ := cond_some h4
    obtain ⟨h7, h8⟩ := cond_some h6
    have h5 := beq_t h5; have h7 := ble_t h7
    simp only [lenF_eq, putAtF_eq] at h5 h7 h8
    have h7 : o + us.length ≤ cs.length := by rw [h5]; exact h7
    exact ⟨_, _, us, _, _, rfl, rfl, h5, by simp only [St.storeN, h1, if_pos h7], ha.set h1 _, h8⟩
  · obtain ⟨h6, h7⟩ := cond_some h5
    obtain ⟨h8, h9⟩ := cond_some h7
    have h6 := beq_t h6; have h8 := ble_t h8
    simp only [lenF_eq, putN_eq] at h8 h9
    have h8 : o + [v].length ≤ cs.length := h8
    exact ⟨_, _, [v], _, _, rfl, h4, h6.symm, by simp only [St.storeN, h1, if_pos h8]; rfl, ha.set h1 _, h9⟩

theorem fAp_ok {fcall : FCall β} {scall : Call} (hc : FOk fcall scall) {f : OpK} {vs : List AV} {h : H} {k : K β} {S : St} (hf : fAp fcall f vs h k = some r) (ha : Abs h S) : Goes (ap scall f vs) S k r := by
  cases f with
  | mov => obtain ⟨a, rfl, hf_1⟩ := a1_some hf; exact .here ha rfl hf_1
  | pick =>
    obtain ⟨a, b, c, rfl, hf_1⟩ := a3_some hf
    obtain ⟨x, rfl, hf_2⟩ := aBool_some hf_1
    refine .here (v := if x then b else c) ha rfl ?_
    cases x <;> exact hf_2
  | alloc tag z =>
    obtain ⟨rfl, hf_1⟩ := a0_some hf
    simp only [fAlloc, newB_eq] at hf_1
    exact .new ha (by simp only [ap, ha.len]) hf_1
  | box tag =>
    obtain ⟨a, rfl, hf_1⟩ := a1_some hf
    simp only [fBox, newB_eq] at hf_1
    rcases aFlat_some hf_1 with ⟨us, rfl, hf_2⟩ | ⟨h1, _, hf_2⟩
    · exact .new ha (by simp only [ap, AV.flat, Option.map_some, ha.len]) hf_2
    · exact .new ha (by simp only [ap, h1, Option.map_some, ha.len]) hf_2
  | build z ps =>
    obtain ⟨cs, h1, h2⟩ := pBuild_ok hf
    exact .here ha (by simp only [ap, h1, Option.map_some]) h2
  | bslice tag z n ps =>
    obtain ⟨cs, h1, h2⟩ := pBuild_ok hf
    obtain ⟨s, h3, h4⟩ := aAgg_some h2
    cases h3
    rw [newB_eq] at h4
    exact .new ha (by simp only [ap, h1, Option.map_some, ha.len]) h4
  | load1 =>
    obtain ⟨a, rfl, hf_1⟩ := a1_some hf
    obtain ⟨b, o, v, rfl, h1, h2⟩ := fLoad1_ok ha hf_1
    exact .here ha (by simp only [ap, h1, Option.map_some]) h2
  | loadN n =>
    obtain ⟨a, rfl, hf_1⟩ := a1_some hf
    obtain ⟨b, o, v, rfl, h1, h2⟩ := fLoadN_ok ha hf_1
    exact .here ha (by simp only [ap, h1, Option.map_some]) h2
  | store n =>
    obtain ⟨a, v, rfl, hf_1⟩ := a2_some hf
    obtain ⟨b, o, us, S', h', rfl, h1, h2, h3, h4, h5⟩ := fStore_ok ha hf_1
    exact ⟨_, _, _, by simp only [ap, h1, Option.bind_some, if_pos h2, h3, Option.map_some], h4, h5⟩
  | nilCheck =>
    obtain ⟨a, rfl, hf_1⟩ := a1_some hf
    unfold fNil at hf_1
    split at hf_1
    · exact .here ha rfl hf_1
    · exact .here ha rfl hf_1
    · cases hf_1
  | binI op =>
    obtain ⟨a, b, rfl, hf_1⟩ := a2_some hf
    obtain ⟨ka, x, kb, y, v, rfl, rfl, h1, h2, h3⟩ := fBinI_ok hf_1
    exact .here ha (by simp only [ap, h1, if_true, h2, Option.map_some]) h3
  | binS op =>
    obtain ⟨a, b, rfl, hf_1⟩ := a2_some hf
    obtain ⟨x, y, v, rfl, rfl, h2, h3⟩ := fBinS_ok hf_1
    exact .here ha (by simp only [ap, h2, Option.map_some]) h3
  | eqB neg =>
    obtain ⟨a, b, rfl, hf_1⟩ := a2_some hf
    obtain ⟨x, rfl, hf_2⟩ := aBool_some hf_1
    obtain ⟨y, rfl, hf_3⟩ := aBool_some hf_2
    exact .here ha rfl hf_3
  | isNil c neg =>
    obtain ⟨a, rfl, hf_1⟩ := a1_some hf
    obtain ⟨x, h1, hf_2⟩ := oSome_some hf_1
    exact .here ha (by simp only [ap, h1, Option.map_some]) hf_2
  | eqP neg =>
    obtain ⟨a, b, rfl, hf_1⟩ := a2_some hf
    obtain ⟨x, o, rfl, hf_2⟩ := aPtr_some hf_1
    obtain ⟨y, o', rfl, hf_3⟩ := aPtr_some hf_2
    obtain ⟨h1, hf_4⟩ := cond_some hf_3
    obtain ⟨h2, hf_5⟩ := cond_some hf_4
    exact .here ha (by simp only [ap]; rw [if_pos ⟨beq_t h1, beq_t h2⟩]) hf_5
  | eqA ks neg =>
    obtain ⟨a, b, rfl, hf_1⟩ := a2_some hf
    obtain ⟨x, rfl, hf_2⟩ := aAgg_some hf_1
    obtain ⟨y, rfl, hf_3⟩ := aAgg_some hf_2
    obtain ⟨v, h1, hf_4⟩ := oSome_some hf_3
    exact .here ha (by simp only [ap, h1, Option.map_some]) hf_4
  | notB =>
    obtain ⟨a, rfl, hf_1⟩ := a1_some hf
    obtain ⟨x, rfl, hf_2⟩ := aBool_some hf_1
    exact .here ha rfl hf_2
  | negI =>
    obtain ⟨a, rfl, hf_1⟩ := a1_some hf
    obtain ⟨kd, n, rfl, hf_2⟩ := aInt_some hf_1
    simp only [frcZ_eq, wrapF_eq] at hf_2
    exact .here ha rfl hf_2
  | conv kd =>
    obtain ⟨a, rfl, hf_1⟩ := a1_some hf
    obtain ⟨kd', n, rfl, hf_2⟩ := aInt_some hf_1
    simp only [frcZ_eq, wrapF_eq] at hf_2
    exact .here ha rfl hf_2
  | b2s =>
    obtain ⟨a, rfl, hf_1⟩ := a1_some hf
    rcases aSl_some hf_1 with ⟨rfl, hf_2⟩ | ⟨b, o, l, m, g, rfl, hf_2⟩
    · exact .here ha rfl hf_2
    · obtain ⟨kb, cs, h1, h2, h3⟩ := cells_some ha hf_2
      obtain ⟨h4, h5⟩ := cond_some h3
      have h4 := ble_t h4
      obtain ⟨s, h6, h7⟩ := oSome_some h5
      simp only [lenF_eq, takeF_eq, dropF_eq] at h4 h6
      have h4 : o + l ≤ cs.length := h4
      exact .here ha (by simp only [ap, St.loadN, h1, h2, if_pos h4, Option.bind_some, h6, Option.map_some]) h7
  | s2b tag =>
    obtain ⟨a, rfl, hf_1⟩ := a1_some hf
    obtain ⟨s, rfl, hf_2⟩ := aStr_some hf_1
    simp only [newB_eq, frc_eq, lenF_eq] at hf_2
    exact .new ha (by simp only [ap, ha.len]) hf_2
  | idS =>
    obtain ⟨a, rfl, hf_1⟩ := a1_some hf
    obtain ⟨s, rfl, hf_2⟩ := aStr_some hf_1
    exact .here ha rfl hf_2
  | slS lo hi =>
    obtain ⟨a, bs, rfl, hf_1⟩ := aC_some hf
    obtain ⟨s, rfl, hf_2⟩ := aStr_some hf_1
    obtain ⟨q, h1, h2⟩ := bnd_some hf_2
    simp only [lenF_eq, takeF_eq, dropF_eq] at h1 h2
    exact .here ha (by simp only [ap, h1, Option.map_some]) h2
  | slL es lo hi mx =>
    obtain ⟨a, bs, rfl, hf_1⟩ := aC_some hf
    rcases aSl_some hf_1 with ⟨rfl, hf_2⟩ | ⟨b, o, l, m, g, rfl, hf_2⟩
    · obtain ⟨q, h1, h2⟩ := oSome_some hf_2
      exact .here ha (by simp only [ap, h1, Option.map_some]) h2
    · obtain ⟨h1, hf_3⟩ := cond_some hf_2
      obtain ⟨q, h2, h3⟩ := bnd_some hf_3
      simp only [frc_eq] at h3
      have hg : g = none ∨ g = some es := by
        cases g with
        | none => exact .inl rfl
        | some e => exact .inr (by rw [beq_t h1])
      refine .here (v := .sl b (o + q.1 * es) (q.2.1 - q.1) (q.2.2 - q.1) (if mx then none else g)) ha ?_ ?_
      · simp only [ap]; rw [if_pos hg, h2]; rfl
      · cases mx <;> exact h3
  | slA n es lo hi mx =>
    obtain ⟨a, bs, rfl, hf_1⟩ := aC_some hf
    obtain ⟨b, o, rfl, hf_2⟩ := aPtr_some hf_1
    obtain ⟨q, h2, h3⟩ := bnd_some hf_2
    simp only [frc_eq] at h3
    exact .here ha (by simp only [ap, h2, Option.map_some]; rfl) h3
  | fadr off =>
    obtain ⟨a, rfl, hf_1⟩ := a1_some hf
    obtain ⟨b, o, rfl, hf_2⟩ := aPtr_some hf_1
    rw [frc_eq] at hf_2
    exact .here ha rfl hf_2
  | fld1 off =>
    obtain ⟨a, rfl, hf_1⟩ := a1_some hf
    obtain ⟨cs, rfl, hf_2⟩ := aAgg_some hf_1
    obtain ⟨v, h1, h2⟩ := oSome_some hf_2
    rw [nthO_eq] at h1
    exact .here ha (by simp only [ap, h1, Option.map_some]) h2
  | fldN n off =>
    obtain ⟨a, rfl, hf_1⟩ := a1_some hf
    obtain ⟨cs, rfl, hf_2⟩ := aAgg_some hf_1
    obtain ⟨h1, h2⟩ := cond_some hf_2
    have h1 := ble2_t h1
    simp only [lenF_eq, takeF_eq, dropF_eq] at h1 h2
    exact .here ha (by simp only [ap]; rw [if_pos h1]) h2
  | iadr es =>
    obtain ⟨a, i, rfl, hf_1⟩ := a2_some hf
    rcases aSl_some hf_1 with ⟨_, hf_2⟩ | ⟨b, o, l, m, g, rfl, hf_2⟩
    · cases hf_2
    · obtain ⟨n, h1, hf_3⟩ := aNat_some hf_2
      obtain ⟨h2, h3⟩ := cond_some hf_3
      have h2 := blt_t h2
      rw [frc_eq] at h3
      exact .here ha (by simp only [ap, h1, Option.bind_some]; rw [if_pos h2]; rfl) h3
  | iadrA n es =>
    obtain ⟨a, i, rfl, hf_1⟩ := a2_some hf
    obtain ⟨b, o, rfl, hf_2⟩ := aPtr_some hf_1
    obtain ⟨n, h1, hf_3⟩ := aNat_some hf_2
    obtain ⟨h2, h3⟩ := cond_some hf_3
    have h2 := blt_t h2
    rw [frc_eq] at h3
    exact .here ha (by simp only [ap, h1, Option.bind_some]; rw [if_pos h2]; rfl) h3
  | idxS =>
    obtain ⟨a, i, rfl, hf_1⟩ := a2_some hf
    obtain ⟨s, rfl, hf_2⟩ := aStr_some hf_1
    obtain ⟨n, h1, hf_3⟩ := aNat_some hf_2
    obtain ⟨c, h2, h3⟩ := oSome_some hf_3
    rw [nthO_eq] at h2
    rw [frc_eq] at h3
    exact .here ha (by simp only [ap, h1, Option.bind_some, h2, Option.map_some]; rfl) h3
  | idxA1 n es =>
    obtain ⟨a, i, rfl, hf_1⟩ := a2_some hf
    obtain ⟨s, rfl, hf_2⟩ := aAgg_some hf_1
    obtain ⟨n, h1, hf_3⟩ := aNat_some hf_2
    obtain ⟨h2, hf_4⟩ := cond_some hf_3
    have h2 := blt_t h2
    obtain ⟨c, h3, h4⟩ := oSome_some hf_4
    rw [nthO_eq] at h3
    exact .here ha (by simp only [ap, h1, Option.bind_some]; rw [if_pos h2, show s[n * es]? = some c from h3]; rfl) h4
  | idxAN n es m =>
    obtain ⟨a, i, rfl, hf_1⟩ := a2_some hf
    obtain ⟨s, rfl, hf_2⟩ := aAgg_some hf_1
    obtain ⟨n, h1, hf_3⟩ := aNat_some hf_2
    obtain ⟨h2, hf_4⟩ := cond_some hf_3
    have h2 := blt_t h2
    obtain ⟨h3, h4⟩ := cond_some hf_4
    have h3 := ble2_t h3
    simp only [lenF_eq, takeF_eq, dropF_eq] at h3 h4
    exact .here ha (by simp only [ap, h1, Option.bind_some]; rw [if_pos ⟨h2, h3⟩]; rfl) h4
  | ext i =>
    obtain ⟨a, rfl, hf_1⟩ := a1_some hf
    unfold pExt at hf_1
    split at hf_1
    · obtain ⟨v, h1, h2⟩ := oSome_some hf_1
      rw [nthO_eq] at h1
      exact .here ha (by simp only [ap, h1, Option.map_some]) h2
    · cases hf_1
  | mkfn g => exact .here ha rfl hf
  | mkslice tag z bytes =>
    obtain ⟨a, b, rfl, hf_1⟩ := a2_some hf
    obtain ⟨l, h1, hf_2⟩ := aNat_some hf_1
    obtain ⟨c, h2, hf_3⟩ := aNat_some hf_2
    obtain ⟨h3, hf_4⟩ := cond_some hf_3
    obtain ⟨h4, hf_5⟩ := cond_some hf_4
    obtain ⟨h5, hf_6⟩ := cond_some hf_5
    have h3 := ble_t h3; have h4 := ble_t h4; have h5 := ble_t h5
    rw [newB_eq] at hf_6
    exact .new ha (by simp only [ap, h1, h2, Option.bind_some]; rw [if_pos ⟨h3, h4, h5⟩, ha.len]) hf_6
  | lenS =>
    obtain ⟨a, rfl, hf_1⟩ := a1_some hf
    obtain ⟨s, rfl, hf_2⟩ := aStr_some hf_1
    simp only [frc_eq, lenF_eq] at hf_2
    exact .here ha rfl hf_2
  | lenL =>
    obtain ⟨a, rfl, hf_1⟩ := a1_some hf
    rcases aSl_some hf_1 with ⟨rfl, hf_2⟩ | ⟨b, o, l, m, g, rfl, hf_2⟩
    · exact .here ha rfl hf_2
    · exact .here ha rfl hf_2
  | lenC n =>
    obtain ⟨a, rfl, hf_1⟩ := a1_some hf
    exact .here ha rfl hf_1
  | capL =>
    obtain ⟨a, rfl, hf_1⟩ := a1_some hf
    rcases aSl_some hf_1 with ⟨rfl, hf_2⟩ | ⟨b, o, l, m, g, rfl, hf_2⟩
    · exact .here ha rfl hf_2
    · cases g with
      | none => exact .here ha rfl hf_2
      | some g => cases hf_2
  | app tag es bytes =>
    obtain ⟨a, b, rfl, hf_1⟩ := a2_some hf
    obtain ⟨n, new, h1, h2, h3⟩ := fSrc_some ha hf_1
    obtain ⟨v, S', h', h4, h5, h6⟩ := fGrow_ok ha h3
    exact ⟨_, _, _, by simp only [ap, h1, h2, Option.bind_some]; exact h4, h5, h6⟩
  | appz tag es bytes z =>
    obtain ⟨a, b, rfl, hf_1⟩ := a2_some hf
    obtain ⟨n, h1, hf_2⟩ := aNat_some hf_1
    obtain ⟨h2, hf_3⟩ := cond_some hf_2
    obtain ⟨h3, hf_4⟩ := cond_some hf_3
    have h2 := ble_t h2; have h3 := ble_t h3
    obtain ⟨v, S', h', h4, h5, h6⟩ := fGrow_ok ha hf_4
    exact ⟨_, _, _, by simp only [ap, h1, Option.bind_some]; rw [if_pos ⟨h2, h3⟩]; exact h4, h5, h6⟩
  | cpy es =>
    obtain ⟨d, x, rfl, hf_1⟩ := a2_some hf
    obtain ⟨dl, h1, hf_2⟩ := aLen_some hf_1
    obtain ⟨xl, h2, hf_3⟩ := aLen_some hf_2
    rw [frc_eq] at hf_3
    have hm : cond (Nat.ble xl dl) xl dl = min xl dl := by
      cases hb : Nat.ble xl dl with
      | true => have := ble_t hb; simp only [cond_true]; omega
      | false => have := ble_f hb; simp only [cond_false]; omega
    rw [hm] at hf_3
    obtain ⟨us, h3, h4⟩ := fSrcM_some ha hf_3
    rcases aSl_some h4 with ⟨rfl, h4⟩ | ⟨b, o, l, m, g, rfl, h4⟩
    · exact .here ha (by simp only [ap, h1, h2, h3, Option.bind_some]; rfl) h4
    · rcases cond_or h4 with ⟨h5, h6⟩ | ⟨h5, h6⟩
      · have h5 := beq_t h5
        exact .here ha (by simp only [ap, h1, h2, h3, Option.bind_some, cpyTo]; rw [if_pos h5]; rfl) h6
      · have h5 := beq_f h5
        obtain ⟨tag, cs, h7, h8⟩ := ownd_some ha h6
        obtain ⟨h9, h10⟩ := cond_some h8
        have h9 := ble_t h9
        simp only [lenF_eq, putAtF_eq] at h9 h10
        have h9 : o + us.length ≤ cs.length := h9
        refine ⟨_, _, _, ?_, ha.set h7 _, h10⟩
        simp only [ap, h1, h2, h3, Option.bind_some, cpyTo]
        rw [if_neg h5]
        simp only [St.storeN, h7, if_pos h9, Option.map_some]
        rfl
  | minI =>
    obtain ⟨a, b, rfl, hf_1⟩ := a2_some hf
    obtain ⟨k, x, y, rfl, rfl, hf_2⟩ := two_some hf_1
    refine .here (v := .int k (if y < x then y else x)) ha (by simp only [ap, if_true]) ?_
    simp only [ltZ_eq, Bool.cond_decide] at hf_2
    exact hf_2
  | maxI =>
    obtain ⟨a, b, rfl, hf_1⟩ := a2_some hf
    obtain ⟨k, x, y, rfl, rfl, hf_2⟩ := two_some hf_1
    refine .here (v := .int k (if y > x then y else x)) ha (by simp only [ap, if_true]) ?_
    simp only [ltZ_eq, Bool.cond_decide] at hf_2
    exact hf_2
  | call g => exact hc _ _ _ _ _ _ hf ha
  | callv =>
    obtain ⟨g, vs, rfl, hf_1⟩ := aC_some hf
    exact hc _ _ _ _ _ _ hf_1 ha
  | mkifc =>
    obtain ⟨a, rfl, hf_1⟩ := a1_some hf
    exact .here ha rfl hf_1
  | _ => cases hf
end
end Am.F
