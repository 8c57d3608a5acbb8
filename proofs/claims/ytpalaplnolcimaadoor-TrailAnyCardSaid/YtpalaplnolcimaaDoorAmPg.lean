/- Walks: what a definition, a program may be. The data, the small functions. -/
import Derived.Test.YtpalaplnolcimaaDoorAmQB3
import Derived.Test.YtpalaplnolcimaaDoorAmGCW
set_option linter.unusedSimpArgs false
set_option linter.unusedVariables false
namespace Am.F
open Go Am
def LAt {α : Type} (es : Nat) (C : H → List AV → α → Prop) (h : H) (v : AV) (xs : List α) : Prop :=
  (v = .nils ∧ xs = []) ∨ ∃ b o m g us, v = .sl b o xs.length m g ∧ b < h.n ∧ (h.get b).cells = some us ∧ o + xs.length * es ≤ us.length ∧ ∀ j x, xs[j]? = some x → C h ((us.drop (o + j * es)).take es) x
def Stays {α : Type} (C : H → List AV → α → Prop) : Prop := ∀ (h h' : H) (cs : List AV) (x : α), C h cs x → Ext h h' → C h' cs x
theorem LAt.ext {α : Type} {es : Nat} {C : H → List AV → α → Prop} (hC : Stays C) {h h' : H} {v : AV} {xs : List α} (hs : LAt es C h v xs) (e : Ext h h') : LAt es C h' v xs := by
  rcases hs with hs | ⟨b, o, m, g, us, h1, h2, h3, h4, h5⟩
  · exact .inl hs
  · exact .inr ⟨b, o, m, g, us, h1, Nat.lt_of_lt_of_le h2 e.n, by rw [e.get b h2]; exact h3, h4, fun j x hx => hC _ _ _ _ (h5 j x hx) e⟩
theorem LAt.len {β α : Type} {es : Nat} {C : H → List AV → α → Prop} {h : H} {v : AV} {xs : List α} (hs : LAt es C h v xs) (k : VK β) : qLenL v (.mk k) = k (.int .i64 (xs.length : Int)) := by
  rcases hs with ⟨rfl, rfl⟩ | ⟨b, o, m, g, us, rfl, _⟩ <;> rfl
theorem LAt.sc {α : Type} {es : Nat} {C : H → List AV → α → Prop} {h : H} {v : AV} {xs : List α} (hs : LAt es C h v xs) : v.sc = true := by
  rcases hs with ⟨rfl, _⟩ | ⟨b, o, m, g, us, rfl, _⟩ <;> rfl
def InAt (es : Nat) (h : H) (b o : Nat) (cs : List AV) : Prop := b < h.n ∧ ∃ us, (h.get b).cells = some us ∧ o + es ≤ us.length ∧ (us.drop o).take es = cs
theorem InAt.ext {es : Nat} {h h' : H} {b o : Nat} {cs : List AV} (hs : InAt es h b o cs) (e : Ext h h') : InAt es h' b o cs := by
  obtain ⟨h1, us, h2, h3⟩ := hs
  exact ⟨Nat.lt_of_lt_of_le h1 e.n, us, by rw [e.get b h1]; exact h2, h3⟩
theorem InAt.own {h : H} {b tag : Nat} {cs : List AV} (hb : b < h.n) (hg : h.get b = .own tag cs) : InAt cs.length h b 0 cs := ⟨hb, cs, by rw [hg]; rfl, by omega, by rw [List.drop_zero, List.take_length]⟩
theorem InAt.get {es : Nat} {h : H} {b o : Nat} {cs : List AV} (hs : InAt es h b o cs) : ∃ us, (h.get b).cells = some us ∧ o + es ≤ us.length ∧ (us.drop o).take es = cs ∧ ∀ i v, cs[i]? = some v → us[o + i]? = some v := by
  obtain ⟨h1, us, h2, h3, rfl⟩ := hs
  refine ⟨us, h2, h3, rfl, fun i v hv => ?_⟩
  rw [List.getElem?_take] at hv
  by_cases hi : i < es
  · rw [if_pos hi, List.getElem?_drop] at hv; exact hv
  · rw [if_neg hi] at hv; cases hv
theorem LAt.at {β α : Type} {es : Nat} {C : H → List AV → α → Prop} {h : H} {v : AV} {xs : List α} (hs : LAt es C h v xs) {j : Nat} {x : α} (hx : xs[j]? = some x) :
    ∃ b o cs, (∀ k : VK β, qIadr es v (.int .i64 (j : Int)) (.mk k) = k (.ptr b o)) ∧ InAt es h b o cs ∧ C h cs x := by
  rcases hs with ⟨_, rfl⟩ | ⟨b, o, m, g, us, rfl, h2, h3, h4, h5⟩
  · simp at hx
  · have hj := (List.getElem?_eq_some_iff.1 hx).1
    have hm : (j + 1) * es ≤ xs.length * es := Nat.mul_le_mul_right _ hj
    rw [Nat.add_mul] at hm
    exact ⟨b, o + j * es, _, fun k => by rw [q_pIadr_p (by omega) (by omega), Int.toNat_natCast], ⟨h2, us, h3, by omega, rfl⟩, h5 j x hx⟩
def ints (xs : List Int) : List AV := xs.map (.int .i64)
theorem ints_len (xs : List Int) : (ints xs).length = xs.length := List.length_map ..
theorem ints_get {xs : List Int} {j : Nat} (hj : j < xs.length) : (ints xs)[j]? = some (.int .i64 (xs.getD j 0)) := by simp [ints, List.getD_eq_getElem?_getD, hj]
theorem ints_getD {xs : List Int} {j : Nat} (hj : j < xs.length) : (ints xs).getD j (.tup []) = .int .i64 (xs.getD j 0) := by rw [List.getD_eq_getElem?_getD, ints_get hj]; rfl
theorem ints_set (xs : List Int) (j : Nat) (x : Int) : (ints xs).set j (.int .i64 x) = ints (xs.set j x) := by simp [ints, List.map_set]
structure Ex where
  kind : Int
  num : Int
  bind : Int
  kids : List Int
deriving DecidableEq
structure Df where
  params : Int
  body : List Ex
deriving DecidableEq
def exCells (e : Ex) (w : AV) : List AV := [.int .i64 e.kind, .int .i64 e.num, .int .i64 e.bind, w]
def ExC (h : H) (cs : List AV) (e : Ex) : Prop := ∃ w, cs = exCells e w ∧ SlAt h w (ints e.kids)
def DfC (h : H) (cs : List AV) (d : Df) : Prop := ∃ w, cs = [.int .i64 d.params, w] ∧ LAt 4 ExC h w d.body
def PgAt (h : H) (a : AV) (p : List Df) : Prop := ∃ v, a = .agg [v] ∧ LAt 2 DfC h v p
theorem ExC.stays : Stays ExC := fun _ _ _ _ ⟨w, h1, h2⟩ e => ⟨w, h1, h2.ext e⟩
theorem DfC.stays : Stays DfC := fun _ _ _ _ ⟨w, h1, h2⟩ e => ⟨w, h1, h2.ext ExC.stays e⟩
theorem PgAt.ext {h h' : H} {a : AV} {p : List Df} (hs : PgAt h a p) (e : Ext h h') : PgAt h' a p := let ⟨v, h1, h2⟩ := hs; ⟨v, h1, h2.ext DfC.stays e⟩
def ExIn (h : H) (b o : Nat) (w : AV) (e : Ex) : Prop := InAt 4 h b o (exCells e w) ∧ SlAt h w (ints e.kids)
theorem ExIn.ext {h h' : H} {b o : Nat} {w : AV} {e : Ex} (hs : ExIn h b o w e) (x : Ext h h') : ExIn h' b o w e := ⟨hs.1.ext x, hs.2.ext x⟩
theorem ExIn.get {h : H} {b o : Nat} {w : AV} {e : Ex} (hs : ExIn h b o w e) (β : Type) : ∃ us, (h.get b).cells = some us ∧ (o + 4 ≤ us.length) ∧ (us.drop o).take 4 = exCells e w ∧
    us[o]? = some (.int .i64 e.kind) ∧ us[o + 1]? = some (.int .i64 e.num) ∧ us[o + 2]? = some (.int .i64 e.bind) ∧ us[o + 3]? = some w ∧ ∀ k : VK β, qLenL w (.mk k) = k (.int .i64 (e.kids.length : Int)) := by
  obtain ⟨us, h1, h2, h3, h4⟩ := hs.1.get
  exact ⟨us, h1, h2, h3, h4 0 _ rfl, h4 1 _ rfl, h4 2 _ rfl, h4 3 _ rfl, fun k => by rw [hs.2.len, ints_len]⟩
def Plain (e : Ex) (bind least most : Int) : Prop := 0 ≤ e.bind ∧ e.bind ≤ bind ∧ least ≤ (e.kids.length : Int) ∧ (e.kids.length : Int) ≤ most
instance (e : Ex) (b l m : Int) : Decidable (Plain e b l m) := by unfold Plain; infer_instance
def PartP (e : Ex) (lv : Int) : Prop :=
  (e.kind = 0 ∧ (-32768 ≤ e.num ∧ e.num ≤ 32767) ∧ Plain e 0 0 0) ∨ (e.kind = 1 ∧ (0 ≤ e.num ∧ e.num ≤ lv - 1) ∧ Plain e 0 0 0) ∨ (e.kind = 2 ∧ (0 ≤ e.num ∧ e.num ≤ 7) ∧ Plain e 0 0 3) ∨
  (e.kind = 3 ∧ (0 ≤ e.num ∧ e.num ≤ 99) ∧ Plain e 0 0 3) ∨ (e.kind = 4 ∧ (0 ≤ e.num ∧ e.num ≤ 4) ∧ Plain e 0 2 2) ∨ (e.kind = 5 ∧ (0 ≤ e.num ∧ e.num ≤ 99) ∧ Plain e 3 3 3) ∨
  (e.kind = 6 ∧ e.num = 0 ∧ Plain e 0 2 2) ∨ (e.kind = 7 ∧ e.num = 0 ∧ Plain e 0 0 0)
instance (e : Ex) (lv : Int) : Decidable (PartP e lv) := by unfold PartP; infer_instance
def more (e : Ex) (k : Int) : Int := if k = 1 then (if e.kind = 5 then e.bind else if e.kind = 6 then 1 else 0) else 0
section
variable {β : Type} {t : ETree}
theorem GC.w212 (T : GC t) (n : Nat) (x m : Int) (h : H) (k : K β) : qCall (fRunS t stdI (n + 1)) (.fn 212 []) [.int .i64 x, .int .i64 m] h (.mk k) = k (.bool (decide (0 ≤ x ∧ x ≤ m))) h := by
  rw [T.q212]
  unfold f212
  by_cases h1 : 0 ≤ x <;> simp (disch := first | omega | (simp only [disM] <;> omega) | assumption) only [↓run, ↓runM, run, runM, Nat.reduceAdd, Nat.reduceMul, Int.reduceToNat, h1]
theorem GC.w229 (T : GC t) (n : Nat) {h : H} {b o : Nat} {w : AV} {e : Ex} (hx : ExIn h b o w e) (bd ls ms : Int) (k : K β) :
    qCall (fRunS t stdI (n + 1)) (.fn 229 []) [.ptr b o, .int .i64 bd, .int .i64 ls, .int .i64 ms] h (.mk k) = k (.bool (decide (Plain e bd ls ms))) h := by
  rw [T.q229]
  unfold f229 Plain
  obtain ⟨us, fx⟩ := hx.get β
  by_cases h1 : 0 ≤ e.bind
  · by_cases h2 : e.bind ≤ bd
    · by_cases h3 : ls ≤ (e.kids.length : Int)
      · simp (disch := first | omega | (simp only [disM] <;> omega) | assumption) only [↓run, ↓runM, run, runM, Nat.reduceAdd, Nat.reduceMul, Int.reduceToNat, nil_p, fx, eq_true h1, eq_true h2, eq_true h3]
      · simp (disch := first | omega | (simp only [disM] <;> omega) | assumption) only [↓run, ↓runM, run, runM, Nat.reduceAdd, Nat.reduceMul, Int.reduceToNat, nil_p, fx, eq_true h1, eq_true h2, eq_false h3]
    · simp (disch := first | omega | (simp only [disM] <;> omega) | assumption) only [↓run, ↓runM, run, runM, Nat.reduceAdd, Nat.reduceMul, Int.reduceToNat, nil_p, fx, eq_true h1, eq_false h2]
  · simp (disch := first | omega | (simp only [disM] <;> omega) | assumption) only [↓run, ↓runM, run, runM, Nat.reduceAdd, Nat.reduceMul, Int.reduceToNat, nil_p, fx, eq_false h1]
theorem GC.w214 (T : GC t) (n : Nat) {h : H} {b o : Nat} {w : AV} {e : Ex} (hx : ExIn h b o w e) (i : Int) (k : K β) :
    qCall (fRunS t stdI (n + 1)) (.fn 214 []) [.ptr b o, .int .i64 i] h (.mk k) = k (.int .i64 (more e i)) h := by
  rw [T.q214]
  unfold f214 more
  obtain ⟨us, fx⟩ := hx.get β
  by_cases h1 : i = 1
  · by_cases h2 : e.kind = 5
    · simp (disch := first | omega | (simp only [disM] <;> omega) | assumption) only [↓run, ↓runM, run, runM, Nat.reduceAdd, Nat.reduceMul, Int.reduceToNat, ↓f214_J0, nil_p, fx, eq_true h1, eq_true h2]
    · by_cases h3 : e.kind = 6
      · simp (disch := first | omega | (simp only [disM] <;> omega) | assumption) only [↓run, ↓runM, run, runM, Nat.reduceAdd, Nat.reduceMul, Int.reduceToNat, ↓f214_J0, nil_p, fx, eq_true h1, eq_false h2, eq_true h3]
      · simp (disch := first | omega | (simp only [disM] <;> omega) | assumption) only [↓run, ↓runM, run, runM, Nat.reduceAdd, Nat.reduceMul, Int.reduceToNat, ↓f214_J0, nil_p, fx, eq_true h1, eq_false h2, eq_false h3]
  · simp (disch := first | omega | (simp only [disM] <;> omega) | assumption) only [↓run, ↓runM, run, runM, Nat.reduceAdd, Nat.reduceMul, Int.reduceToNat, ↓f214_J0, nil_p, fx, eq_false h1]
end
end Am.F
