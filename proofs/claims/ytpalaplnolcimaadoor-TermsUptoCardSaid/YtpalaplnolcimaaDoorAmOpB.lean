/- Operands, temporaries; the built-in functions. -/
import Derived.Test.YtpalaplnolcimaaDoorAmGrow
namespace Am
open Go Go.RowKit

section
variable {kf kt : Nat → Nat} {w0 : Base} {fm : FM} {S : St} {w : World} {P : Program}

/-- A frame's temporaries. -/
structure EnvR (kf : Nat → Nat) (fm : FM) (e : Env) (tmps : Array Value) : Prop where
  len : e.length = tmps.size
  rel : ∀ i : Nat, VR kf fm (e.getD i (.tup [])) (tmps.getD i undef)

theorem undef_rel : VR kf fm (.tup []) undef := by simp only [VR]; exact ⟨#[], rfl, by simp [VRs]⟩

theorem EnvR.mono {ext : FM} {e : Env} {tmps : Array Value} (h : EnvR kf fm e tmps) : EnvR kf (fm ++ ext) e tmps := ⟨h.len, fun i => (h.rel i).mono⟩

theorem EnvR.set {e : Env} {tmps : Array Value} (h : EnvR kf fm e tmps) (d : Nat) {v : AV} {u : Value} (hv : VR kf fm v u) : EnvR kf fm (e.set d v) (tmps.setIfInBounds d u) := by
  refine ⟨by simp [h.len], fun i => ?_⟩
  have hl := h.len
  have hi := h.rel i
  simp only [List.getD_eq_getElem?_getD, Array.getD_eq_getD_getElem?] at hi ⊢
  rw [List.getElem?_set, Array.getElem?_setIfInBounds]
  by_cases hd : d = i
  · subst hd
    by_cases hlt : d < e.length
    · simp [hlt, hl ▸ hlt, hv]
    · have : ¬ d < tmps.size := by omega
      simp [hlt, this]
      exact undef_rel
  · simp [hd, hi]

theorem EnvR.put {e : Env} {a : Act} (h : EnvR kf fm e a.tmps) (d : Option Nat) {v : AV} {u : Value} (hv : VR kf fm v u) : EnvR kf fm (setD e d v) (a.put d u).tmps := by
  cases d with
  | none => exact h
  | some d => exact h.set d hv

theorem cv_rel {x : Operand} {p : Opd} {e : Env} {a : Act} (h : cv kf x = some p) (he : EnvR kf fm e a.tmps) : VR kf fm (p.ev e) (a.eval x) := by
  cases x with
  | tmp t => simp [cv] at h; subst h; exact he.rel t
  | const v =>
    simp only [cv] at h
    cases hv : toAV kf v with
    | none => simp [hv] at h
    | some u => simp [hv] at h; subst h; exact toAV_rel hv
  | global g => simp [cv] at h
  | func f => simp [cv] at h; subst h; simp only [Opd.ev, VR]; exact ⟨f, #[], rfl, rfl, by simp [VRs]⟩

theorem cvs_rel {e : Env} {a : Act} (he : EnvR kf fm e a.tmps) : ∀ {xs : List Operand} {ps : List Opd}, mapO (cv kf) xs = some ps → VRs kf fm (ps.map (·.ev e)) (xs.map a.eval)
  | [], ps, h => by simp [mapO] at h; subst h; simp [VRs]
  | x :: xs, ps, h => by
    simp only [mapO] at h
    cases hx : cv kf x with
    | none => simp [hx] at h
    | some p =>
      cases hs : mapO (cv kf) xs with
      | none => simp [hx, hs] at h
      | some ps' =>
        simp [hx, hs] at h
        subst h
        simp only [List.map_cons, VRs]
        exact ⟨_, _, rfl, cv_rel hx he, cvs_rel he hs⟩

theorem inv0 {vs : List AV} (h : VRs kf fm vs []) : vs = [] := List.eq_nil_of_length_eq_zero (by have := h.length; simpa using this.symm)
theorem inv1 {vs : List AV} {a : Value} (h : VRs kf fm vs [a]) : ∃ x, vs = [x] ∧ VR kf fm x a := by
  cases vs with
  | nil => simp [VRs] at h
  | cons x vs => simp only [VRs] at h; obtain ⟨u, us, he, h1, h2⟩ := h; cases he; exact ⟨x, by rw [inv0 h2], h1⟩
theorem invc {vs : List AV} {a : Value} {as : List Value} (h : VRs kf fm vs (a :: as)) : ∃ x xs, vs = x :: xs ∧ VR kf fm x a ∧ VRs kf fm xs as := by
  cases vs with
  | nil => simp [VRs] at h
  | cons x vs => simp only [VRs] at h; obtain ⟨u, us, he, h1, h2⟩ := h; cases he; exact ⟨x, vs, rfl, h1, h2⟩
theorem inv2 {vs : List AV} {a b : Value} (h : VRs kf fm vs [a, b]) : ∃ x y, vs = [x, y] ∧ VR kf fm x a ∧ VR kf fm y b := by
  obtain ⟨x, xs, rfl, h1, h2⟩ := invc h; obtain ⟨y, rfl, h3⟩ := inv1 h2; exact ⟨x, y, rfl, h1, h3⟩
theorem inv3 {vs : List AV} {a b c : Value} (h : VRs kf fm vs [a, b, c]) : ∃ x y z, vs = [x, y, z] ∧ VR kf fm x a ∧ VR kf fm y b ∧ VR kf fm z c := by
  obtain ⟨x, xs, rfl, h1, h2⟩ := invc h; obtain ⟨y, z, rfl, h3, h4⟩ := inv2 h2; exact ⟨x, y, z, rfl, h1, h3, h4⟩

/-- The outcome of an operation that is no call. -/
def Done (kf kt : Nat → Nat) (w0 : Base) (fm : FM) (w : World) (P : Program) (s : Sem Next) (v : AV) (S' : St) : Prop :=
  ∃ ext u w', (s.run P w = .ok (.value u) w' ∨ (s.run P w = .ok .skip w' ∧ u = undef)) ∧ R kf kt w0 (fm ++ ext) S' w' ∧ VR kf (fm ++ ext) v u

theorem Ok1.done {s : Sem Value} {v : AV} {S' : St} (h : Ok1 kf kt w0 fm w P s v S') : Done kf kt w0 fm w P (do pure (.value (← s))) v S' := by
  obtain ⟨ext, u, w', hr, h1, h2⟩ := h
  exact ⟨ext, u, w', .inl (by simp [hr]), h1, h2⟩

theorem opt_split (lo hi mx : Option Operand) (ρ : Operand → Value) : (optArgs lo hi mx).map ρ = (lo.map ρ).toList ++ (hi.map ρ).toList ++ (mx.map ρ).toList := by
  cases lo <;> cases hi <;> cases mx <;> rfl

abbrev NoCall : OpK → Prop
  | .call _ | .callv | .bad | .eqP _ | .idP | .lenM | .mkmap | .lookup .. | .mapSet | .rngS | .nxtS => False
  | _ => True


variable {call : AV → List AV → St → Option (AV × St)}

theorem run_builtin {ρ : Operand → Value} {dst : Option Tmp} {b : Builtin} {args : Array Operand} {ts : Array TypeId} {ty : TypeId} {pos : String} {after : Array Edge} {guard : Option (Nat × Bool)} :
    execOp ρ { dst, op := .call ⟨.builtin b, args, ts⟩, type := ty, pos, after, guard } = builtin b ts ty (args.map fun | .const _ => true | _ => false) (args.map ρ) := rfl

theorem sim_builtin {b : Builtin} {args : Array Operand} {ts : Array TypeId} {ty : TypeId} {dst : Option Tmp} {pos : String} {after : Array Edge} {guard : Option (Nat × Bool)}
    {k : OpK} {xs : List Operand} {vs : List AV} {v : AV} {S' : St} {ρ : Operand → Value} (hR : R kf kt w0 fm S w) (hk : compBuiltin P kf kt b ts args.toList = some (k, xs))
    (hv : VRs kf fm vs (xs.map ρ)) (ha : ap call k vs S = some (v, S')) : Done kf kt w0 fm w P (execOp ρ { dst, op := .call ⟨.builtin b, args, ts⟩, type := ty, pos, after, guard }) v S' := by
  rw [run_builtin]
  generalize hcs : (args.map fun | .const _ => true | _ => false) = consts
  clear hcs
  unfold compBuiltin at hk
  split at hk <;> (try (cases hk; done)) <;> rename_i harg
  · -- len
    obtain ⟨args⟩ := args
    simp only at harg; subst harg
    simp only [List.map_toArray, List.map_cons, List.map_nil]
    rename_i x
    cases h0 : ts[0]? with
    | none => simp [h0] at hk
    | some t =>
      simp only [h0, Option.bind_some] at hk
      split at hk <;> (try (cases hk; done)) <;> rename_i hu <;> cases hk <;> obtain ⟨y1, rfl, h1⟩ := inv1 hv
      · cases y1 <;> (try (simp [ap] at ha; done)) <;> simp only [ap] at ha <;> cases ha
        exact (ok_lenS (P := P) (ty := ty) hR h0 hu h1).done
      · cases y1 <;> (try (simp [ap] at ha; done)) <;> simp only [ap] at ha <;> cases ha
        · exact (ok_lenL (P := P) (ty := ty) hR h0 hu h1).done
        · exact (ok_lenNil (P := P) (ty := ty) hR h0 hu h1).done
      · simp only [ap] at ha; cases ha
        exact (ok_lenC (P := P) (ty := ty) hR h0 hu).done
  · -- cap
    obtain ⟨args⟩ := args
    simp only at harg; subst harg
    simp only [List.map_toArray, List.map_cons, List.map_nil]
    cases h0 : ts[0]? with
    | none => simp [h0] at hk
    | some t =>
      simp only [h0, Option.bind_some] at hk
      split at hk <;> (try (cases hk; done)) <;> rename_i hu <;> cases hk <;> obtain ⟨y1, rfl, h1⟩ := inv1 hv
      cases y1 <;> (try (simp [ap] at ha; done))
      · rename_i g
        cases g <;> (try (simp [ap] at ha; done)) <;> simp only [ap] at ha <;> cases ha
        exact (ok_capL (P := P) (ty := ty) hR h0 hu h1).done
      · simp only [ap] at ha; cases ha
        exact (ok_capNil (P := P) (ty := ty) hR h0 hu h1).done
  · -- append
    obtain ⟨args⟩ := args
    simp only at harg; subst harg
    simp only [List.map_toArray, List.map_cons, List.map_nil]
    cases h0 : ts[0]? with
    | none => simp [h0] at hk
    | some t =>
      cases h1' : ts[1]? with
      | none => simp [h0, h1'] at hk
      | some t1 =>
        simp only [h0, h1', Option.bind_some] at hk
        split at hk <;> (try (cases hk; done))
        rename_i e d hu hu1
        cases hi : P.info? e with
        | none => simp [hi] at hk
        | some i =>
          cases hz : zeroT P kf e with
          | none => simp [hz] at hk
          | some z =>
            simp only [hi, hz, Option.bind_some] at hk
            split at hk
            · cases hk
            · rename_i hsb
              have hsz : i.size ≠ 0 := fun h => hsb (.inl h)
              have hby : i.bytes ≠ 0 := fun h => hsb (.inr h)
              split at hk
              · cases hk
                obtain ⟨y1, z1, rfl, h2, h3⟩ := inv2 hv
                simp only [ap] at ha
                cases hn : natOf z1 with
                | none => simp [hn] at ha
                | some n =>
                  simp only [hn, Option.bind_some] at ha
                  split at ha
                  · rename_i hh
                    exact (ok_appz (P := P) (ty := ty) hR h0 h1' hu hu1 hi hz hsz h2 h3 hn hh.1 hh.2 ha).done
                  · cases ha
              · rename_i hd
                cases hk
                obtain ⟨y1, z1, rfl, h2, h3⟩ := inv2 hv
                simp only [ap] at ha
                cases hn : srcLen z1 with
                | none => simp [hn] at ha
                | some n =>
                  cases hsrc : srcCells S i.size n z1 with
                  | none => simp [hn, hsrc] at ha
                  | some new =>
                    simp only [hn, hsrc, Option.bind_some] at ha
                    exact (ok_app (P := P) (ty := ty) hR h0 h1' hu hu1 (fun k h => hd k h) hi hz hsz hby h2 h3 hn hsrc ha).done
  · -- copy
    obtain ⟨args⟩ := args
    simp only at harg; subst harg
    simp only [List.map_toArray, List.map_cons, List.map_nil]
    cases h0 : ts[0]? with
    | none => simp [h0] at hk
    | some t =>
      simp only [h0, Option.bind_some] at hk
      split at hk <;> (try (cases hk; done))
      rename_i e hu
      cases hs : sizeT P e with
      | none => simp [hs] at hk
      | some es =>
        simp [hs] at hk; obtain ⟨rfl, rfl⟩ := hk
        obtain ⟨y1, z1, rfl, h2, h3⟩ := inv2 hv
        simp only [ap] at ha
        cases hdl : srcLen y1 with
        | none => simp [hdl] at ha
        | some dl =>
          cases hxl : srcLen z1 with
          | none => simp [hdl, hxl] at ha
          | some xl =>
            cases hsrc : srcCells S es (min xl dl) z1 with
            | none => simp [hdl, hxl, hsrc] at ha
            | some cs =>
              simp only [hdl, hxl, hsrc, Option.bind_some] at ha
              exact (ok_cpy (P := P) (ty := ty) hR h0 hu hs h2 h3 hdl hxl hsrc ha).done
  · -- min
    obtain ⟨args⟩ := args
    simp only at harg; subst harg
    simp only [List.map_toArray, List.map_cons, List.map_nil]
    cases hk
    obtain ⟨y1, z1, rfl, h2, h3⟩ := inv2 hv
    cases y1 <;> (try (simp [ap] at ha; done)) <;> cases z1 <;> (try (simp [ap] at ha; done))
    simp only [ap] at ha
    split at ha <;> cases ha
    rename_i hkk; subst hkk
    exact (ok_minI (P := P) (ty := ty) hR h2 h3).done
  · -- max
    obtain ⟨args⟩ := args
    simp only at harg; subst harg
    simp only [List.map_toArray, List.map_cons, List.map_nil]
    cases hk
    obtain ⟨y1, z1, rfl, h2, h3⟩ := inv2 hv
    cases y1 <;> (try (simp [ap] at ha; done)) <;> cases z1 <;> (try (simp [ap] at ha; done))
    simp only [ap] at ha
    split at ha <;> cases ha
    rename_i hkk; subst hkk
    exact (ok_maxI (P := P) (ty := ty) hR h2 h3).done
end
end Am
