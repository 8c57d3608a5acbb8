/- A table of functions and a program: what is to be shown of each function, put together. -/
import Derived.Test.YtpalaplnolcimaaDoorAmRow
namespace Am
open Go Go.RowKit

def isSrc : SFn → Bool
  | .src .. => true
  | .intr _ => false

section
variable {P : Program} {kf kt : Nat → Nat} {G : Base → Prop} {t : F.ETree} {f : FuncId}

/-- What is to be shown of one function. -/
structure AtF (P : Program) (kf kt : Nat → Nat) (G : Base → Prop) (t : F.ETree) (f : FuncId) : Prop where
  code : ∀ (nt : Nat) (res : List IRes) (body : ICode), (t.T (kf f)).map SFn.fl = some (.code nt res body) → ∃ fn ls, P.funcs[f]? = some fn ∧ (fn.name == "runtime.NumGoroutine") = false ∧ compFn P kf kt ls fn = some (.code nt res body)
  intr : ∀ g, (t.T (kf f)).map SFn.fl = some (.intr g) → IntrOk P kf kt G f g

theorem AtF.none (hT : t.T (kf f) = none) : AtF P kf kt G t f := ⟨fun _ _ _ h => (by rw [hT] at h; cases h), fun _ h => (by rw [hT] at h; cases h)⟩

theorem AtF.src {s : SFn} {fn : Func} {ls : List (List Nat)} (hT : t.T (kf f) = some s) (hs : isSrc s = true) (hfn : P.funcs[f]? = some fn) (hn : (fn.name == "runtime.NumGoroutine") = false) (hc : compFn P kf kt ls fn = some s.fl) : AtF P kf kt G t f where
  code := fun nt res body h => by rw [hT] at h; exact ⟨fn, ls, hfn, hn, hc.trans h⟩
  intr := fun g h => by
    rw [hT] at h
    cases s with
    | src nt vm res body => cases h
    | intr g' => cases hs

theorem AtF.whole {g : List AV → St → Option (AV × St)} (hT : t.T (kf f) = some (.intr g)) (h : IntrOk P kf kt G f g) : AtF P kf kt G t f where
  code := fun nt res body h => by rw [hT] at h; cases h
  intr := fun g' h' => by rw [hT] at h'; cases h'; exact h

def AllN (p : Nat → Prop) : Nat → Prop
  | 0 => True
  | n + 1 => AllN p n ∧ p n

theorem AllN.get {p : Nat → Prop} : ∀ {n : Nat}, AllN p n → ∀ i, i < n → p i
  | n + 1, h, i, hi => by
    by_cases h1 : i = n
    · exact h1 ▸ h.2
    · exact h.1.get i (by omega)

theorem link_of {n : Nat} (h : AllN (AtF P kf kt G t) n) (hb : ∀ f, n ≤ f → t.T (kf f) = none) : Link P kf kt G fun k => (t.T k).map SFn.fl := by
  have h' : ∀ f, AtF P kf kt G t f := fun f => by
    rcases Nat.lt_or_ge f n with h1 | h1
    · exact h.get f h1
    · exact .none (hb f h1)
  exact ⟨fun f nt res body hx => (h' f).code nt res body hx, fun f g hx => (h' f).intr g hx⟩
end

namespace F
def ETree.okB : ETree → Bool
  | .leaf => true
  | .node e l r => e.s.ok && (l.okB && r.okB)

theorem ETree.ok_get : ∀ {t : ETree}, t.okB = true → ∀ {k : Nat} {e : Ent}, t.get k = some e → e.s.ok = true
  | .leaf, _, k, e, h => by cases h
  | .node e' l r, hb, k, e, h => by
    simp only [ETree.okB, Bool.and_eq_true] at hb
    have h : cond (Nat.beq k e'.g) (some e') (cond (Nat.ble k e'.g) (l.get k) (r.get k)) = some e := h
    rcases cond_or h with ⟨_, h1⟩ | ⟨_, h1⟩
    · cases h1; exact hb.1
    · rcases cond_or h1 with ⟨_, h2⟩ | ⟨_, h2⟩
      · exact ok_get hb.2.1 h2
      · exact ok_get hb.2.2 h2

theorem ETree.ok_of {t : ETree} (h : t.okB = true) : ∀ k f, t.T k = some f → f.ok = true := by
  intro k f hf
  simp only [ETree.T, Option.map_eq_some_iff] at hf
  obtain ⟨e, h1, rfl⟩ := hf
  exact ok_get h h1

/-- All that is taken whole stands in this list. -/
def ETree.among (ks : List Nat) : ETree → Bool
  | .leaf => true
  | .node e l r => (isSrc e.s || ks.contains e.g) && (l.among ks && r.among ks)

theorem ETree.among_get {ks : List Nat} : ∀ {t : ETree}, t.among ks = true → ∀ {k : Nat} {e : Ent}, t.get k = some e → (isSrc e.s || ks.contains e.g) = true
  | .leaf, _, k, e, h => by cases h
  | .node e' l r, hb, k, e, h => by
    simp only [ETree.among, Bool.and_eq_true] at hb
    have h : cond (Nat.beq k e'.g) (some e') (cond (Nat.ble k e'.g) (l.get k) (r.get k)) = some e := h
    rcases cond_or h with ⟨_, h1⟩ | ⟨_, h1⟩
    · cases h1; exact hb.1
    · rcases cond_or h1 with ⟨_, h2⟩ | ⟨_, h2⟩
      · exact among_get hb.2.1 h2
      · exact among_get hb.2.2 h2

def IAt (I : FI) (g : Nat) (f : List AV → St → Option (AV × St)) : Prop := ∀ args h v h' S, I g args h = some (v, h') → Abs h S → ∃ S', f args S = some (v, S') ∧ Abs h' S'

theorem iok_of {t : ETree} {I : FI} {ks : List Nat} (h : t.among ks = true) (hk : ∀ k ∈ ks, ∃ f, t.T k = some (.intr f) ∧ IAt I k f) : IOk t.T I := by
  intro g f hf args h0 v h' S hi ha
  have hf' := hf
  simp only [ETree.T, Option.map_eq_some_iff] at hf'
  obtain ⟨e, h1, h2⟩ := hf'
  have h3 := ETree.among_get h h1
  rw [h2] at h3
  simp only [isSrc, Bool.false_or, List.contains_iff_mem] at h3
  rw [ETree.get_g h1] at h3
  obtain ⟨f', h4, h5⟩ := hk g h3
  rw [hf] at h4; cases h4
  exact h5 _ _ _ _ _ hi ha
end F
end Am
