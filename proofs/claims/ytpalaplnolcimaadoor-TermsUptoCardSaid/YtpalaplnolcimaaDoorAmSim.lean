/- A run of the abstract machine is a run of the model. -/
import Derived.Test.YtpalaplnolcimaaDoorAmDraw
import Derived.LoopNIn
namespace Am
open Go Go.RowKit

def exitOf : Ex → Exit
  | .normal => .normal
  | .ret => .ret
  | .exit id => .exit id

section
variable {kf kt : Nat → Nat} {w0 : Base} {P : Program}

theorem sim_ops {G : Base → Prop} {call : AV → List AV → St → Option (AV × St)} (hcall : CallOk P kf kt G call) (hG : G w0) {ops : Array Oper} {r : Option Nat} {e' : Env} {S' : St} {Q : Exit → Act → World → Prop} :
    ∀ (os : List Oper) (ios : List IOp) (i : Nat) (_ : ∀ j, os[j]? = ops[i + j]?) (_ : mapO (compOp P kf kt ops) os = some ios)
      (e : Env) (S : St) (fm : FM) (w : World) (a : Act) (_ : R kf kt w0 fm S w) (_ : EnvR kf fm e a.tmps) (_ : exOps call ios e S = some (e', S'))
      (_ : ∀ ext a' w', R kf kt w0 (fm ++ ext) S' w' → EnvR kf (fm ++ ext) e' a'.tmps → a'.defers = a.defers → Q .normal a' w'),
      wpOpsIn (FR r) 0 P ops Q (List.range' i os.length) a w
  | [], ios, i, _, hm, e, S, fm, w, a, hR, he, hx, hQ => by
    simp only [mapO] at hm
    cases hm
    simp only [exOps] at hx
    cases hx
    simp only [List.length_nil, List.range'_zero]
    have := hQ [] a w (by simpa using hR) (by simpa using he) rfl
    simpa [wpOpsIn] using this
  | o :: os, ios, i, hs, hm, e, S, fm, w, a, hR, he, hx, hQ => by
    simp only [mapO, Option.bind_eq_some_iff, Option.map_eq_some_iff] at hm
    obtain ⟨io, hio, ios', hios, rfl⟩ := hm
    simp only [exOps, Option.bind_eq_some_iff] at hx
    obtain ⟨⟨v, S1⟩, hx1, hx2⟩ := hx
    rw [List.length_cons, List.range'_succ, wpOpsIn_cons]
    have ho : ops[i]? = some o := by have := hs 0; simpa using this.symm
    refine (sim_one (i := i) (S' := S1) (v := v) hcall hG hio he hR hx1 ?_ ho).2
    intro ext u w' hR' hv
    have hd : io.dst = o.dst := (sim_one (i := i) (S' := S1) (v := v) (r := r) (K := fun _ _ => True) (Q := fun _ _ _ => True) hcall hG hio he hR hx1 (fun _ _ _ _ _ => trivial) ho).1
    rw [hd] at hx2
    refine sim_ops hcall hG os ios' (i + 1) (fun j => by have := hs (j + 1); simpa [Nat.add_comm, Nat.add_left_comm] using this) hios _ S1 (fm ++ ext) w' _ hR' ((he.mono (ext := ext)).put o.dst hv) hx2 ?_
    intro ext2 a' w2 h1 h2 h3
    refine hQ (ext ++ ext2) a' w2 (by simpa using h1) (by simpa using h2) ?_
    rw [h3, put_defers']

theorem keepLive_rel {fm : FM} {live : List Nat} {e : Env} {tmps : Array Value} (he : EnvR kf fm e tmps) : EnvR kf fm (keepLive live e) tmps := by
  refine ⟨by simp [keepLive, he.len], fun i => ?_⟩
  have := he.rel i
  simp only [keepLive, List.getD_eq_getElem?_getD, List.getElem?_mapIdx] at this ⊢
  cases h : e[i]? with
  | none => simpa [h] using this
  | some v =>
    simp only [h, Option.map_some, Option.getD_some] at this ⊢
    split
    · exact this
    · simp [VR]

/-- What a piece of code leaves. -/
def Leaves (kf kt : Nat → Nat) (w0 : Base) (fm : FM) (x : Ex) (e' : Env) (S' : St) (ds : List Deferred) (Q : Exit → Act → World → Prop) : Prop :=
  ∀ ext a' w', R kf kt w0 (fm ++ ext) S' w' → EnvR kf (fm ++ ext) e' a'.tmps → a'.defers = ds → Q (exitOf x) a' w'

theorem iter_ds {f : Loc → St → Option (Ex × Loc × St)} (hf : ∀ l S x l' S', f l S = some (x, l', S') → l'.ds = l.ds) :
    ∀ (n : Nat) (l : Loc) (S : St) (x : Ex) (l' : Loc) (S' : St), iter f n l S = some (x, l', S') → l'.ds = l.ds
  | 0, l, S, x, l', S', h => by simp [iter] at h
  | n + 1, l, S, x, l', S', h => by
    simp only [iter] at h
    split at h
    · rename_i l1 S1 h1
      rw [iter_ds hf n _ _ _ _ _ h, hf _ _ _ _ _ h1]
    · exact hf _ _ _ _ _ h

theorem code_ds {call : AV → List AV → St → Option (AV × St)} {N : Nat} :
    ∀ (code : Code) (ls : List (List Nat)) (l l' : Loc) (S S' : St) (x : Ex), exC call N (compC P kf kt code ls).1 l S = some (x, l', S') → l'.ds = l.ds := by
  intro code
  induction code with
  | region id ops draw =>
    intro ls l l' S S' x hx
    simp only [compC, compReg] at hx
    split at hx
    · simp [exC] at hx
    · split at hx
      · split at hx
        · simp only [exC, Option.map_eq_some_iff] at hx
          obtain ⟨y, _, h9⟩ := hx
          cases h9; rfl
        · simp [exC] at hx
      · simp only [exC, Option.map_eq_some_iff] at hx
        obtain ⟨y, _, h9⟩ := hx
        cases h9; rfl
  | seq c d ihc ihd =>
    intro ls l l' S S' x hx
    simp only [compC, exC] at hx
    split at hx
    · rename_i l1 S1 h1
      rw [ihd _ _ _ _ _ _ hx, ihc _ _ _ _ _ _ h1]
    · exact ihc _ _ _ _ _ _ hx
  | cond c a b iha ihb =>
    intro ls l l' S S' x hx
    simp only [compC] at hx
    cases hc : cv kf c with
    | none => simp [hc, exC] at hx
    | some p =>
      simp only [hc, exC] at hx
      split at hx
      · exact iha _ _ _ _ _ _ hx
      · exact ihb _ _ _ _ _ _ hx
      · cases hx
  | block id c ih =>
    intro ls l l' S S' x hx
    simp only [compC, exC] at hx
    split at hx
    · rename_i id' l1 S1 h1
      have := ih _ _ _ _ _ _ h1
      split at hx <;> cases hx <;> exact this
    · exact ih _ _ _ _ _ _ hx
  | loop c ih =>
    intro ls l l' S S' x hx
    simp only [compC, exC] at hx
    exact iter_ds (fun l S x l' S' h => by have := ih _ _ _ _ _ _ h; simpa using this) N _ _ _ _ _ hx
  | _ =>
    intro ls l l' S S' x hx
    simp only [compC, exC] at hx <;> cases hx <;> rfl

theorem sim_iter {F : Fence} {c : Code} {f : Loc → St → Option (Ex × Loc × St)}
    (hf : ∀ (l l' : Loc) (S S' : St) (x : Ex) (fm : FM) (w : World) (a : Act) (Q : Exit → Act → World → Prop) (_ : R kf kt w0 fm S w) (_ : EnvR kf fm l.e a.tmps)
      (_ : f l S = some (x, l', S')) (_ : Leaves kf kt w0 fm x l'.e S' a.defers Q), c.wpIn F 0 P Q a w) :
    ∀ (n : Nat) (l l' : Loc) (S S' : St) (x : Ex) (fm : FM) (w : World) (a : Act) (Q : Exit → Act → World → Prop) (_ : x ≠ .normal) (_ : R kf kt w0 fm S w) (_ : EnvR kf fm l.e a.tmps)
      (_ : iter f n l S = some (x, l', S')) (_ : Leaves kf kt w0 fm x l'.e S' a.defers Q), Code.roundsIn F 0 P c Q n a w
  | 0, l, l', S, S', x, fm, w, a, Q, _, hR, he, hx, hQ => by simp [iter] at hx
  | n + 1, l, l', S, S', x, fm, w, a, Q, hne, hR, he, hx, hQ => by
    simp only [iter] at hx
    rw [roundsIn_succ]
    split at hx
    · rename_i l1 S1 h1
      refine hf l l1 S S1 .normal fm w a _ hR he h1 ?_
      intro ext a1 w1 h2 h3 h4
      refine sim_iter hf n l1 l' S1 S' x (fm ++ ext) w1 a1 Q hne h2 h3 hx ?_
      intro ext2 a' w' h5 h6 h7
      exact hQ (ext ++ ext2) a' w' (by simpa using h5) (by simpa using h6) (by rw [h7, h4])
    · rename_i hnn
      refine hf l l' S S' x fm w a _ hR he hx ?_
      intro ext a' w' h5 h6 h7
      have := hQ ext a' w' h5 h6 h7
      cases x with
      | normal => exact absurd rfl hne
      | ret => exact this
      | exit id => exact this

theorem iter_not_normal {f : Loc → St → Option (Ex × Loc × St)} : ∀ (n : Nat) (l : Loc) (S : St) (l' : Loc) (S' : St), iter f n l S ≠ some (.normal, l', S')
  | 0, l, S, l', S', h => by simp [iter] at h
  | n + 1, l, S, l', S', h => by
    simp only [iter] at h
    split at h
    · exact iter_not_normal n _ _ _ _ h
    · rename_i h1; exact h1 _ _ h

theorem sim_code {G : Base → Prop} {call : AV → List AV → St → Option (AV × St)} (hcall : CallOk P kf kt G call) (hGm : Keeps G) (hG : G w0) {N : Nat} {r : Option Nat} :
    ∀ (code : Code) (ls : List (List Nat)) (l l' : Loc) (S S' : St) (x : Ex) (fm : FM) (w : World) (a : Act) (Q : Exit → Act → World → Prop) (_ : R kf kt w0 fm S w) (_ : EnvR kf fm l.e a.tmps)
      (_ : exC call N (compC P kf kt code ls).1 l S = some (x, l', S')) (_ : Leaves kf kt w0 fm x l'.e S' a.defers Q), code.wpIn (FR r) 0 P Q a w := by
  intro code
  induction code with
  | skip =>
    intro ls l l' S S' x fm w a Q hR he hx hQ
    simp only [compC, exC] at hx; cases hx
    exact wpIn_skip (hQ [] a w (by simpa using hR) (by simpa using he) rfl)
  | label n =>
    intro ls l l' S S' x fm w a Q hR he hx hQ
    simp only [compC, exC] at hx; cases hx
    exact wpIn_label (hQ [] a w (by simpa using hR) (by simpa using he) rfl)
  | ret =>
    intro ls l l' S S' x fm w a Q hR he hx hQ
    simp only [compC, exC] at hx; cases hx
    exact wpIn_ret (hQ [] a w (by simpa using hR) (by simpa using he) rfl)
  | exit id =>
    intro ls l l' S S' x fm w a Q hR he hx hQ
    simp only [compC, exC] at hx; cases hx
    exact wpIn_exit (hQ [] a w (by simpa using hR) (by simpa using he) rfl)
  | region id ops draw =>
    intro ls l l' S S' x fm w a Q hR he hx hQ
    simp only [compC, compReg] at hx
    cases hm : mapO (compOp P kf kt ops) ops.toList with
    | none => simp [hm, exC] at hx
    | some iops =>
      simp only [hm] at hx
      cases draw with
      | true =>
        simp only [if_true] at hx
        split at hx
        · rename_i hh
          simp only [Bool.and_eq_true] at hh
          simp only [exC, Option.map_eq_some_iff] at hx
          obtain ⟨⟨e', S1⟩, hx, h9⟩ := hx
          cases h9
          exact sim_dreg hcall hGm hG hm hh.1 hh.2 hR he hx fun ext a' w' h1 h2 h3 => hQ ext a' w' h1 h2 h3
        · simp [exC] at hx
      | false =>
        simp only [Bool.false_eq_true, if_false, exC, Option.map_eq_some_iff] at hx
        obtain ⟨⟨e', S1⟩, hx, h9⟩ := hx
        cases h9
        refine wpIn_region ?_
        have := sim_ops (r := r) (Q := Q) hcall hG (ops := ops) ops.toList iops 0 (fun j => by simp) hm l.e S fm w a hR he hx fun ext a' w' h1 h2 h3 => hQ ext a' w' h1 h2 h3
        simpa [List.range_eq_range'] using this
  | seq c d ihc ihd =>
    intro ls l l' S S' x fm w a Q hR he hx hQ
    simp only [compC, exC] at hx
    refine wpIn_seq ?_
    split at hx
    · rename_i l1 S1 h1
      refine ihc ls l l1 S S1 .normal fm w a _ hR he h1 ?_
      intro ext a1 w1 h2 h3 h4
      refine ihd _ l1 l' S1 S' x (fm ++ ext) w1 a1 Q h2 h3 hx ?_
      intro ext2 a' w' h5 h6 h7
      exact hQ (ext ++ ext2) a' w' (by simpa using h5) (by simpa using h6) (by rw [h7, h4])
    · rename_i hnn
      refine ihc ls l l' S S' x fm w a _ hR he hx ?_
      intro ext a' w' h5 h6 h7
      have := hQ ext a' w' h5 h6 h7
      cases x with
      | normal => exact absurd hx (hnn _ _)
      | ret => exact this
      | exit id => exact this
  | cond c y z ihy ihz =>
    intro ls l l' S S' x fm w a Q hR he hx hQ
    simp only [compC] at hx
    cases hc : cv kf c with
    | none => simp [hc, exC] at hx
    | some p =>
      simp only [hc, exC] at hx
      have hv := cv_rel hc he
      split at hx
      · rename_i hp
        rw [hp] at hv
        simp only [VR] at hv
        exact wpIn_cond_true hv (ihy _ _ _ _ _ _ _ _ _ _ hR he hx hQ)
      · rename_i hp
        rw [hp] at hv
        simp only [VR] at hv
        exact wpIn_cond_false hv (ihz _ _ _ _ _ _ _ _ _ _ hR he hx hQ)
      · cases hx
  | block id c ih =>
    intro ls l l' S S' x fm w a Q hR he hx hQ
    simp only [compC, exC] at hx
    refine wpIn_block ?_
    split at hx
    · rename_i id' l1 S1 h1
      refine ih _ _ _ _ _ _ _ _ _ _ hR he h1 ?_
      intro ext a' w' h5 h6 h7
      split at hx
      · rename_i hi
        cases hx
        have := hQ ext a' w' h5 h6 h7
        simpa [exitOf, Exit.inBlock, hi] using this
      · rename_i hi
        cases hx
        have := hQ ext a' w' h5 h6 h7
        simpa [exitOf, Exit.inBlock, hi] using this
    · rename_i hnn
      refine ih _ _ _ _ _ _ _ _ _ _ hR he hx ?_
      intro ext a' w' h5 h6 h7
      have := hQ ext a' w' h5 h6 h7
      cases x with
      | normal => exact this
      | ret => exact this
      | exit id => exact absurd hx (hnn _ _ _)
  | loop c ih =>
    intro ls l l' S S' x fm w a Q hR he hx hQ
    simp only [compC, exC] at hx
    refine wpIn_loop_rounds N ?_
    refine sim_iter (fun l l' S S' x fm w a Q hR he hx hQ => ?_) N l l' S S' x fm w a Q (fun h => ?_) hR he hx hQ
    · exact ih _ _ _ _ _ _ _ _ _ _ hR (keepLive_rel he) hx hQ
    · subst h; exact iter_not_normal _ _ _ _ _ hx
  | _ =>
    intro ls l l' S S' x fm w a Q hR he hx hQ
    simp [compC, exC] at hx
end
end Am
