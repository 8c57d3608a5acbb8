/- Walks: chapter 12's some, small. -/
import Derived.Test.YtpalaplnolcimaaDoorAmTr
import Derived.Test.YtpalaplnolcimaaDoorAmGS12W
set_option linter.unusedSimpArgs false
set_option linter.unusedVariables false
namespace Am.F
open Go Am
def some12 : List Nd := [⟨0, -1, [], [57]⟩, ⟨1, 0, [[64, 55, 40, 95, 32, 52, 41], [53]], [57]⟩, ⟨2, 0, [], [33]⟩, ⟨1, 1, [[49], [95]], [95]⟩, ⟨1, 2, [[49], [95]], [95]⟩]
def someC (b : Nat) : List AV := [.int .i64 0, .int .i64 (-1), .nils, .str [57], .int .i64 1, .int .i64 0, .sl b 0 2 2 none, .str [57], .int .i64 2, .int .i64 0, .nils, .str [33], .int .i64 1, .int .i64 1, .sl (b + 1) 0 2 2 none, .str [95], .int .i64 1, .int .i64 2, .sl (b + 2) 0 2 2 none, .str [95]]
structure SomeM (h h' : H) (cs A : List AV) : Prop where
  n : h.n + 4 ≤ h'.n
  get : ∀ i, i < h.n → h'.get i = h.get i
  g0 : h'.get h.n = .own 0 [.str [64, 55, 40, 95, 32, 52, 41], .str [53]]
  g1 : h'.get (h.n + 1) = .own 0 A
  g2 : h'.get (h.n + 2) = .own 0 [.str [49], .str [95]]
  g3 : h'.get (h.n + 3) = .own 0 cs
theorem SomeM.ext {h h' : H} {cs A : List AV} (m : SomeM h h' cs A) : Ext h h' := ⟨by have := m.n; omega, m.get⟩
def smallMain : List Ex := [⟨7, 0, 0, []⟩, ⟨0, 4, 0, []⟩, ⟨3, 7, 0, [0, 1]⟩, ⟨0, 5, 0, []⟩, ⟨2, 1, 0, [2, 3]⟩]
def smallAdds : List Ex := [⟨1, 0, 0, []⟩, ⟨1, 3, 0, []⟩, ⟨1, 1, 0, []⟩, ⟨4, 0, 0, [1, 2]⟩, ⟨1, 0, 0, []⟩, ⟨1, 1, 0, []⟩, ⟨4, 0, 0, [4, 5]⟩, ⟨5, 7, 2, [0, 3, 6]⟩]
def small12 : List Df := [⟨0, smallMain⟩, ⟨2, smallAdds⟩]
theorem small12_may : progMay small12 = true := by decide +kernel
section
variable {β : Type} {t : ETree}
theorem GS12.w260 (TS : GS12 t) (n : Nat) (h : H) : Sp (β := β) (fRunS t stdI (n + 1) (.fn 260 []) [] h) fun v h' => v = .sl (h.n + 3) 0 5 5 none ∧ SomeM h h' (someC h.n) [.str [49], .str [95]] := by
  intro k R hk
  have hb : ∀ (u w : List UInt8) (hh : H) (kk : K β), qBslice 0 [.str [], .str []] 2 [(0, 1), (1, 1)] [.str u, .str w] hh (.mk kk) = kk (.sl hh.n 0 2 2 none) (hh.push (.own 0 [.str u, .str w])) :=
    fun u w hh kk => fBslice_n (fun _ => rfl) hh kk
  rw [TS.c260]; unfold f260
  simp (disch := first | omega | (simp only [disM] <;> omega) | assumption) only [↓run, ↓runM, run, runM, Nat.reduceAdd, Nat.reduceMul, Int.reduceToNat, ↓hb]
  refine (fBslice_n (fun _ => rfl) _ _).trans ?_
  refine hk _ _ ⟨by simp only [H.n_push], ?_⟩
  refine { n := by simp only [H.n_push]; omega, get := fun i hi => ?_, g0 := ?_, g1 := ?_, g2 := ?_, g3 := ?_ }
  · rw [get_push_ne (by simp only [H.n_push]; omega), get_push_ne (by simp only [H.n_push]; omega), get_push_ne (by simp only [H.n_push]; omega), get_push_ne (by omega)]
  · rw [get_push_ne (by simp only [H.n_push]; omega), get_push_ne (by simp only [H.n_push]; omega), get_push_ne (by simp only [H.n_push]; omega), get_push_eq rfl]
  · rw [get_push_ne (by simp only [H.n_push]; omega), get_push_ne (by simp only [H.n_push]; omega), get_push_eq (by rw [H.n_push])]
  · rw [get_push_ne (by simp only [H.n_push]; omega), get_push_eq (by rw [H.n_push, H.n_push])]
  · rw [get_push_eq (by rw [H.n_push, H.n_push, H.n_push])]; rfl
theorem two_at {h : H} {b : Nat} {u w : List UInt8} (hb : b < h.n) (hg : h.get b = .own 0 [.str u, .str w]) : SlAt h (.sl b 0 2 2 none) (strs [u, w]) := .inr ⟨b, 0, 2, none, _, rfl, hb, by rw [hg]; rfl, rfl, by simp [strs]⟩
theorem SomeM.nodes {h h' : H} (m : SomeM h h' (someC h.n) [.str [49], .str [95]]) : LAt 4 NdC h' (.sl (h.n + 3) 0 5 5 none) some12 := by
  have hn := m.n
  refine .inr ⟨h.n + 3, 0, 5, none, someC h.n, rfl, by omega, by rw [m.g3]; rfl, Nat.le_refl 20, fun j x hx => ?_⟩
  rcases j with _ | _ | _ | _ | _ | j
  · cases hx; exact ⟨.nils, rfl, SlAt.nil _⟩
  · cases hx; exact ⟨.sl h.n 0 2 2 none, rfl, two_at (by omega) m.g0⟩
  · cases hx; exact ⟨.nils, rfl, SlAt.nil _⟩
  · cases hx; exact ⟨.sl (h.n + 1) 0 2 2 none, rfl, two_at (by omega) m.g1⟩
  · cases hx; exact ⟨.sl (h.n + 2) 0 2 2 none, rfl, two_at (by omega) m.g2⟩
  · cases hx
theorem ints_at {h : H} {b tg : Nat} {xs : List Int} (hb : b < h.n) (hg : h.get b = .own tg (ints xs)) : SlAt h (.sl b 0 xs.length xs.length none) (ints xs) :=
  .inr ⟨b, 0, xs.length, none, ints xs, by rw [ints_len], hb, by rw [hg]; rfl, by simp, by simp⟩
def addsC (b : Nat) : List AV := [.int .i64 1, .int .i64 0, .int .i64 0, .nils, .int .i64 1, .int .i64 3, .int .i64 0, .nils, .int .i64 1, .int .i64 1, .int .i64 0, .nils, .int .i64 4, .int .i64 0, .int .i64 0, .sl b 0 2 2 none,
  .int .i64 1, .int .i64 0, .int .i64 0, .nils, .int .i64 1, .int .i64 1, .int .i64 0, .nils, .int .i64 4, .int .i64 0, .int .i64 0, .sl (b + 1) 0 2 2 none, .int .i64 5, .int .i64 7, .int .i64 2, .sl (b + 2) 0 3 3 none]
theorem adds_at {h' : H} {b : Nat} (g0 : h'.get b = .own 0 (ints [1, 2])) (g1 : h'.get (b + 1) = .own 0 (ints [4, 5])) (g2 : h'.get (b + 2) = .own 0 (ints [0, 3, 6])) (g3 : h'.get (b + 3) = .own 0 (addsC b)) (hn : b + 4 ≤ h'.n) :
    LAt 4 ExC h' (.sl (b + 3) 0 8 8 none) smallAdds := by
  refine .inr ⟨b + 3, 0, 8, none, addsC b, rfl, by omega, by rw [g3]; rfl, Nat.le_refl 32, fun j x hx => ?_⟩
  rcases j with _ | _ | _ | _ | _ | _ | _ | _ | j
  · cases hx; exact ⟨.nils, rfl, SlAt.nil _⟩
  · cases hx; exact ⟨.nils, rfl, SlAt.nil _⟩
  · cases hx; exact ⟨.nils, rfl, SlAt.nil _⟩
  · cases hx; exact ⟨.sl b 0 2 2 none, rfl, ints_at (by omega) g0⟩
  · cases hx; exact ⟨.nils, rfl, SlAt.nil _⟩
  · cases hx; exact ⟨.nils, rfl, SlAt.nil _⟩
  · cases hx; exact ⟨.sl (b + 1) 0 2 2 none, rfl, ints_at (by omega) g1⟩
  · cases hx; exact ⟨.sl (b + 2) 0 3 3 none, rfl, ints_at (by omega) g2⟩
  · cases hx
theorem GS12.w273 (TS : GS12 t) (n : Nat) (h : H) : Sp (β := β) (fRunS t stdI (n + 1) (.fn 273 []) [] h) fun v h' => Ext h h' ∧ ∃ b, v = .agg [.int .i64 2, .sl (b + 3) 0 8 8 none] ∧ h.n ≤ b ∧ b + 4 ≤ h'.n ∧ h'.get b = .own 0 (ints [1, 2]) ∧ h'.get (b + 1) = .own 0 (ints [4, 5]) ∧ h'.get (b + 2) = .own 0 (ints [0, 3, 6]) ∧ h'.get (b + 3) = .own 0 (addsC b) := by
  intro k R hk
  have hb : ∀ (u w : Int) (hh : H) (kk : K β), qBslice 0 [.int .i64 0, .int .i64 0] 2 [(0, 1), (1, 1)] [.int .i64 u, .int .i64 w] hh (.mk kk) = kk (.sl hh.n 0 2 2 none) (hh.push (.own 0 (ints [u, w]))) :=
    fun u w hh kk => fBslice_n (fun _ => rfl) hh kk
  have hb3 : ∀ (u w x : Int) (hh : H) (kk : K β), qBslice 0 [.int .i64 0, .int .i64 0, .int .i64 0] 3 [(0, 1), (1, 1), (2, 1)] [.int .i64 u, .int .i64 w, .int .i64 x] hh (.mk kk) = kk (.sl hh.n 0 3 3 none) (hh.push (.own 0 (ints [u, w, x]))) :=
    fun u w x hh kk => fBslice_n (fun _ => rfl) hh kk
  have hb8 : ∀ (b1 b2 b3 : AV) (_ : b1.sc = true) (_ : b2.sc = true) (_ : b3.sc = true) (hh : H) (kk : K β), qBslice 0 [.int .i64 0, .int .i64 0, .int .i64 0, .nils, .int .i64 0, .int .i64 0, .int .i64 0, .nils, .int .i64 0, .int .i64 0, .int .i64 0, .nils, .int .i64 0, .int .i64 0, .int .i64 0, .nils, .int .i64 0, .int .i64 0, .int .i64 0, .nils, .int .i64 0, .int .i64 0, .int .i64 0, .nils, .int .i64 0, .int .i64 0, .int .i64 0, .nils, .int .i64 0, .int .i64 0, .int .i64 0, .nils] 8 [(0, 4), (4, 4), (8, 4), (12, 4), (16, 4), (20, 4), (24, 4), (28, 4)]
      [.agg [.int .i64 1, .int .i64 0, .int .i64 0, .nils], .agg [.int .i64 1, .int .i64 3, .int .i64 0, .nils], .agg [.int .i64 1, .int .i64 1, .int .i64 0, .nils], .agg [.int .i64 4, .int .i64 0, .int .i64 0, b1], .agg [.int .i64 1, .int .i64 0, .int .i64 0, .nils], .agg [.int .i64 1, .int .i64 1, .int .i64 0, .nils], .agg [.int .i64 4, .int .i64 0, .int .i64 0, b2], .agg [.int .i64 5, .int .i64 7, .int .i64 2, b3]] hh (.mk kk) =
      kk (.sl hh.n 0 8 8 none) (hh.push (.own 0 [.int .i64 1, .int .i64 0, .int .i64 0, .nils, .int .i64 1, .int .i64 3, .int .i64 0, .nils, .int .i64 1, .int .i64 1, .int .i64 0, .nils, .int .i64 4, .int .i64 0, .int .i64 0, b1,
  .int .i64 1, .int .i64 0, .int .i64 0, .nils, .int .i64 1, .int .i64 1, .int .i64 0, .nils, .int .i64 4, .int .i64 0, .int .i64 0, b2, .int .i64 5, .int .i64 7, .int .i64 2, b3])) := fun b1 b2 b3 _ _ _ hh kk => fBslice_n (fun _ => rfl) hh kk
  rw [TS.c273]; unfold f273
  simp (disch := first | omega | (simp only [disM] <;> omega) | assumption) only [↓run, ↓runM, run, runM, Nat.reduceAdd, Nat.reduceMul, Int.reduceToNat, ↓hb, ↓hb3, ↓hb8]
  refine hk _ _ ⟨?_, h.n + 1, rfl, by omega, by simp only [H.n_push, H.n_set]; omega, ?_, ?_, ?_, ?_⟩
  · exact ((((((Ext.refl h).push _).push _).push _).push _).push _).set (Nat.le_refl _) _
  · rw [get_set_ne (by omega), get_push_ne (by simp only [H.n_push]; omega), get_push_ne (by simp only [H.n_push]; omega), get_push_ne (by simp only [H.n_push]; omega), get_push_eq (by rw [H.n_push])]
  · rw [get_set_ne (by omega), get_push_ne (by simp only [H.n_push]; omega), get_push_ne (by simp only [H.n_push]; omega), get_push_eq (by simp only [H.n_push])]
  · rw [get_set_ne (by omega), get_push_ne (by simp only [H.n_push]; omega), get_push_eq (by simp only [H.n_push])]
  · rw [get_set_ne (by omega), get_push_eq (by simp only [H.n_push])]; rfl
def mainC (b : Nat) : List AV := [.int .i64 7, .int .i64 0, .int .i64 0, .nils, .int .i64 0, .int .i64 4, .int .i64 0, .nils, .int .i64 3, .int .i64 7, .int .i64 0, .sl b 0 2 2 none, .int .i64 0, .int .i64 5, .int .i64 0, .nils, .int .i64 2, .int .i64 1, .int .i64 0, .sl (b + 1) 0 2 2 none]
theorem main_at {h' : H} {b : Nat} (g0 : h'.get b = .own 0 (ints [0, 1])) (g1 : h'.get (b + 1) = .own 0 (ints [2, 3])) (g3 : h'.get (b + 2) = .own 0 (mainC b)) (hn : b + 3 ≤ h'.n) :
    LAt 4 ExC h' (.sl (b + 2) 0 5 5 none) smallMain := by
  refine .inr ⟨b + 2, 0, 5, none, mainC b, rfl, by omega, by rw [g3]; rfl, Nat.le_refl 20, fun j x hx => ?_⟩
  rcases j with _ | _ | _ | _ | _ | j
  · cases hx; exact ⟨.nils, rfl, SlAt.nil _⟩
  · cases hx; exact ⟨.nils, rfl, SlAt.nil _⟩
  · cases hx; exact ⟨.sl b 0 2 2 none, rfl, ints_at (by omega) g0⟩
  · cases hx; exact ⟨.nils, rfl, SlAt.nil _⟩
  · cases hx; exact ⟨.sl (b + 1) 0 2 2 none, rfl, ints_at (by omega) g1⟩
  · cases hx
theorem GS12.w263 (TS : GS12 t) (n : Nat) (h : H) : Sp (β := β) (fRunS t stdI (n + 2) (.fn 263 []) [] h) fun v h' => Ext h h' ∧ PgAt h' v small12 := by
  intro k R hk
  have hb : ∀ (u w : Int) (hh : H) (kk : K β), qBslice 0 [.int .i64 0, .int .i64 0] 2 [(0, 1), (1, 1)] [.int .i64 u, .int .i64 w] hh (.mk kk) = kk (.sl hh.n 0 2 2 none) (hh.push (.own 0 (ints [u, w]))) :=
    fun u w hh kk => fBslice_n (fun _ => rfl) hh kk
  have hb5 : ∀ (b1 b2 : AV) (_ : b1.sc = true) (_ : b2.sc = true) (hh : H) (kk : K β), qBslice 0 [.int .i64 0, .int .i64 0, .int .i64 0, .nils, .int .i64 0, .int .i64 0, .int .i64 0, .nils, .int .i64 0, .int .i64 0, .int .i64 0, .nils, .int .i64 0, .int .i64 0, .int .i64 0, .nils, .int .i64 0, .int .i64 0, .int .i64 0, .nils] 5 [(0, 4), (4, 4), (8, 4), (12, 4), (16, 4)]
      [.agg [.int .i64 7, .int .i64 0, .int .i64 0, .nils], .agg [.int .i64 0, .int .i64 4, .int .i64 0, .nils], .agg [.int .i64 3, .int .i64 7, .int .i64 0, b1], .agg [.int .i64 0, .int .i64 5, .int .i64 0, .nils], .agg [.int .i64 2, .int .i64 1, .int .i64 0, b2]] hh (.mk kk) =
      kk (.sl hh.n 0 5 5 none) (hh.push (.own 0 [.int .i64 7, .int .i64 0, .int .i64 0, .nils, .int .i64 0, .int .i64 4, .int .i64 0, .nils, .int .i64 3, .int .i64 7, .int .i64 0, b1, .int .i64 0, .int .i64 5, .int .i64 0, .nils, .int .i64 2, .int .i64 1, .int .i64 0, b2])) := fun b1 b2 _ _ hh kk => fBslice_n (fun _ => rfl) hh kk
  have hb2 : ∀ (u1 u2 v1 v2 : AV) (hh : H) (kk : K β), qBslice 0 [.int .i64 0, .nils, .int .i64 0, .nils] 2 [(0, 2), (2, 2)] [.agg [u1, u2], .agg [v1, v2]] hh (.mk kk) = kk (.sl hh.n 0 2 2 none) (hh.push (.own 0 [u1, u2, v1, v2])) :=
    fun u1 u2 v1 v2 hh kk => fBslice_n (fun _ => rfl) hh kk
  have ch : ∀ (b : Nat) (c : Option β), qChk (.agg [.int .i64 0, .sl b 0 5 5 none]) (.agg [.int .i64 0, .sl b 0 5 5 none]) (.mk c) = c := fun b c => by
    show cond (AV.beq _ _) c none = c
    have : AV.beq (.agg [.int .i64 0, .sl b 0 5 5 none]) (.agg [.int .i64 0, .sl b 0 5 5 none]) = true := by simp [AV.beq, AV.beqs]
    rw [this]; rfl
  rw [TS.c263]; unfold f263
  simp (disch := first | omega | (simp only [disM] <;> omega) | assumption) only [↓run, ↓runM, run, runM, Nat.reduceAdd, Nat.reduceMul, Int.reduceToNat, ↓hb, ↓hb5]
  refine TS.w273 n _ _ _ ?_
  intro u h2 ⟨e1, ab, e2, r0, r1, r2, r3, r4, r5⟩
  subst e2
  simp only [H.n_push, H.n_set] at r0
  have z4 : (h2.get (h.n + 1 + 1 + 1 + 1)) = .own 0 [.int .i64 0, .sl (h.n + 1 + 1 + 1) 0 5 5 none] := by
    rw [e1.get _ (by simp only [H.n_push, H.n_set]; omega), get_set_eq (by omega)]
  have z4' : (h2.get (h.n + 1 + 1 + 1 + 1)).cells = some [.int .i64 0, .sl (h.n + 1 + 1 + 1) 0 5 5 none] := by rw [z4]; rfl
  have n2 : h.n + 5 ≤ h2.n := by have := e1.n; simp only [H.n_push, H.n_set] at this; omega
  have z0 : ownOf (h2.get h.n) = some (0, [.nils]) := by
    rw [e1.get _ (by simp only [H.n_push, H.n_set]; omega), get_set_ne (by omega), get_push_ne (by simp only [H.n_push]; omega), get_push_ne (by simp only [H.n_push]; omega), get_push_ne (by simp only [H.n_push]; omega), get_push_ne (by simp only [H.n_push]; omega), get_push_eq rfl]; rfl
  have q1 : h2.get (h.n + 1) = .own 0 (ints [0, 1]) := by
    rw [e1.get _ (by simp only [H.n_push, H.n_set]; omega), get_set_ne (by omega), get_push_ne (by simp only [H.n_push]; omega), get_push_ne (by simp only [H.n_push]; omega), get_push_ne (by simp only [H.n_push]; omega), get_push_eq (by simp only [H.n_push])]
  have q2 : h2.get (h.n + 1 + 1) = .own 0 (ints [2, 3]) := by
    rw [e1.get _ (by simp only [H.n_push, H.n_set]; omega), get_set_ne (by omega), get_push_ne (by simp only [H.n_push]; omega), get_push_ne (by simp only [H.n_push]; omega), get_push_eq (by simp only [H.n_push])]
  have q3 : h2.get (h.n + 1 + 2) = .own 0 (mainC (h.n + 1)) := by
    rw [e1.get _ (by simp only [H.n_push, H.n_set]; omega), get_set_ne (by omega), get_push_ne (by simp only [H.n_push]; omega), get_push_eq (by simp only [H.n_push])]; rfl
  have x0 : Ext h h2 := ((((((Ext.refl h).push _).push _).push _).push _).push _).set (by omega) _ |>.trans e1
  simp (disch := first | omega | (simp only [disM] <;> omega) | assumption) only [↓run, ↓runM, run, runM, Nat.reduceAdd, Nat.reduceMul, Int.reduceToNat, z4', ch, ↓hb2, z0]
  have y : ∀ i, i ≠ h.n → i < h2.n → ((h2.push (.own 0 [.int .i64 0, .sl (h.n + 1 + 1 + 1) 0 5 5 none, .int .i64 2, .sl (ab + 3) 0 8 8 none])).set h.n (.own 0 [.sl h2.n 0 2 2 none])).get i = h2.get i := fun i p q => by
    rw [get_set_ne (by omega), get_push_ne (by omega)]
  have yn : ((h2.push (.own 0 [.int .i64 0, .sl (h.n + 1 + 1 + 1) 0 5 5 none, .int .i64 2, .sl (ab + 3) 0 8 8 none])).set h.n (.own 0 [.sl h2.n 0 2 2 none])).n = h2.n + 1 := by rw [H.n_set, H.n_push]
  have yb : ((h2.push (.own 0 [.int .i64 0, .sl (h.n + 1 + 1 + 1) 0 5 5 none, .int .i64 2, .sl (ab + 3) 0 8 8 none])).set h.n (.own 0 [.sl h2.n 0 2 2 none])).get h2.n = .own 0 [.int .i64 0, .sl (h.n + 1 + 1 + 1) 0 5 5 none, .int .i64 2, .sl (ab + 3) 0 8 8 none] := by
    rw [get_set_ne (by omega), get_push_eq rfl]
  refine hk _ _ ⟨(x0.push _).set (Nat.le_refl _) _, .sl h2.n 0 2 2 none, rfl, ?_⟩
  refine .inr ⟨h2.n, 0, 2, none, [.int .i64 0, .sl (h.n + 1 + 1 + 1) 0 5 5 none, .int .i64 2, .sl (ab + 3) 0 8 8 none], rfl, by rw [yn]; omega, by rw [yb]; rfl, Nat.le_refl 4, fun j x hx => ?_⟩
  rcases j with _ | _ | j
  · cases hx
    exact ⟨.sl (h.n + 1 + 2) 0 5 5 none, rfl, main_at (by rw [y _ (by omega) (by omega)]; exact q1) (by rw [y _ (by omega) (by omega)]; exact q2) (by rw [y _ (by omega) (by omega)]; exact q3) (by rw [yn]; omega)⟩
  · cases hx
    exact ⟨.sl (ab + 3) 0 8 8 none, rfl, adds_at (by rw [y _ (by omega) (by omega)]; exact r2) (by rw [y _ (by omega) (by omega)]; exact r3) (by rw [y _ (by omega) (by omega)]; exact r4) (by rw [y _ (by omega) (by omega)]; exact r5) (by rw [yn]; omega)⟩
  · cases hx
end
end Am.F
