/- A table of functions: each one's text, and what that comes to. -/
import Derived.Test.YtpalaplnolcimaaDoorAmFd
import Derived.KernelRfl
namespace Am.F
open Go Am

structure Ent where
  g : Nat
  s : SFn
  f : (β : Type) → FI → Nat → FCall β → List AV → H → K β → Option β
  ok : ∀ (β : Type) (I : FI) (N : Nat) (call : FCall β) (a : List AV) (h : H) (k : K β), fBody I g s N call a h k = f β I N call a h k

inductive ETree where
  | leaf
  | node (e : Ent) (l r : ETree)

noncomputable def ETree.get (t : ETree) (g : Nat) : Option Ent :=
  ETree.rec (motive := fun _ => Option Ent) none (fun e _ _ il ir => cond (Nat.beq g e.g) (some e) (cond (Nat.ble g e.g) il ir)) t

theorem ETree.get_g {t : ETree} {g : Nat} {e : Ent} (h : t.get g = some e) : e.g = g := by
  induction t with
  | leaf => cases h
  | node e' l r ihl ihr =>
    have : (ETree.node e' l r).get g = cond (Nat.beq g e'.g) (some e') (cond (Nat.ble g e'.g) (l.get g) (r.get g)) := rfl
    rw [this] at h
    cases hb : Nat.beq g e'.g with
    | true => rw [hb] at h; cases h; exact (Nat.eq_of_beq_eq_true hb).symm
    | false =>
      rw [hb] at h
      cases hc : Nat.ble g e'.g with
      | true => rw [hc] at h; exact ihl h
      | false => rw [hc] at h; exact ihr h

/-- The functions' texts. -/
noncomputable def ETree.T (t : ETree) (g : Nat) : Option SFn := (t.get g).map Ent.s

noncomputable def fRunS (t : ETree) (I : FI) {β : Type} (n : Nat) : FCall β :=
  Nat.rec (motive := fun _ => FCall β) (fun _ _ _ _ => none)
    (fun n call f args h k => match f with
      | .fn g caps => (match t.get g with
        | some e => e.f β I n call (appF args caps) h k
        | none => none)
      | _ => none) n

theorem fRunS_eq (t : ETree) (I : FI) {β : Type} : ∀ (n : Nat), fRunS (β := β) t I n = fRun t.T I n
  | 0 => rfl
  | n + 1 => by
    have ih := fRunS_eq t I (β := β) n
    funext f args h k
    cases f with
    | fn g caps =>
      show (match t.get g with
        | some e => e.f β I n (fRunS t I n) (appF args caps) h k
        | none => none) = (match t.T g with
        | some fn => fBody I g fn n (fRun t.T I n) (appF args caps) h k
        | none => none)
      rw [ih]
      simp only [ETree.T]
      cases hg : t.get g with
      | none => rfl
      | some e =>
        have := ETree.get_g hg
        subst this
        exact (e.ok β I n _ _ _ _).symm
    | _ => rfl

theorem fRunS_succ (t : ETree) (I : FI) {β : Type} (n g : Nat) (caps args : List AV) (h : H) (k : K β) {e : Ent} (he : t.get g = some e) :
    fRunS t I (n + 1) (.fn g caps) args h k = e.f β I n (fRunS t I n) (args ++ caps) h k := by
  have h1 : fRunS (β := β) t I (n + 1) (.fn g caps) args h k = (match t.get g with
        | some e => e.f β I n (fRunS t I n) (appF args caps) h k
        | none => none) := rfl
  rw [h1, he, appF_eq]
end Am.F
