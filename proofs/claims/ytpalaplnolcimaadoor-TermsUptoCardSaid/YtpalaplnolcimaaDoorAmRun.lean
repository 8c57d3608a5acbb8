/- Functions: a run of the abstract machine is a call's of the model. -/
import Derived.Test.YtpalaplnolcimaaDoorAmSim
namespace Am
open Go Go.RowKit

section
variable {kf kt : Nat → Nat} {w0 : Base} {P : Program} {fm : FM} {S : St} {w : World}

/-- The functions of a program, as the abstract machine has them. -/
structure Link (P : Program) (kf kt : Nat → Nat) (G : Base → Prop) (IP : Nat → Option IFn) : Prop where
  code : ∀ (f nt : Nat) (res : List IRes) (body : ICode), IP (kf f) = some (.code nt res body) →
    ∃ fn ls, P.funcs[f]? = some fn ∧ (fn.name == "runtime.NumGoroutine") = false ∧ compFn P kf kt ls fn = some (.code nt res body)
  intr : ∀ (f : Nat) (g : List AV → St → Option (AV × St)), IP (kf f) = some (.intr g) → ∀ (args : List AV) (S : St) (v : AV) (S' : St), g args S = some (v, S') →
    ∀ (w0 : Base), G w0 → ∀ (fm : FM) (w : World) (us : List Value), R kf kt w0 fm S w → VRs kf fm args us → Enters P f ∧ CallsIn (FR none) 0 P f us.toArray w (PostV kf kt w0 fm v S')

def getRes (e : Env) (S : St) : IRes → Option AV
  | .tmp t => some (e.getD t (.tup []))
  | .cell1 t => match e.getD t (.tup []) with | .ptr b o => S.load1 b o | _ => none
  | .cellN t n => match e.getD t (.tup []) with | .ptr b o => (S.loadN b o n).map .agg | _ => none

theorem exRes_cons (e : Env) (S : St) (r : IRes) (rs : List IRes) : exRes e S (r :: rs) = (getRes e S r).bind fun v => (exRes e S rs).map (v :: ·) := by
  cases r <;> rfl

/-- One result of the model's. -/
def getR (tmps : Array Value) : ResultVar → Sem Value
  | .tmp t => pure (tmps.getD t undef)
  | .cell a t => do loadVar t (← asAddr (tmps.getD a undef))

theorem results_getR (fn : Func) (tmps : Array Value) : results fn tmps = (do let vs ← fn.results.mapM (getR tmps); pure (if h : vs.size = 1 then vs[0] else .tuple vs)) := by
  unfold results
  congr 1

theorem res1_rel {r : ResultVar} {ir : IRes} {e : Env} {tmps : Array Value} {v : AV} (hR : R kf kt w0 fm S w) (he : EnvR kf fm e tmps) (hc : compRes P r = some ir)
    (hx : getRes e S ir = some v) :
    ∃ u, (getR tmps r).run P w = .ok u w ∧ VR kf fm v u := by
  cases r with
  | tmp t =>
    simp only [compRes] at hc; cases hc
    simp only [getRes] at hx; cases hx
    exact ⟨_, rfl, he.rel t⟩
  | cell a t =>
    simp only [compRes] at hc
    split at hc
    · rename_i ht
      simp only [Option.map_eq_some_iff] at hc
      obtain ⟨n, hn, rfl⟩ := hc
      simp only [getRes] at hx
      have hr := he.rel a
      split at hx
      · rename_i b o hb
        rw [hb] at hr
        simp only [VR] at hr
        obtain ⟨p, hp, hv⟩ := hr
        simp only [Option.map_eq_some_iff] at hx
        obtain ⟨us, hl, rfl⟩ := hx
        obtain ⟨vs, h1, h2, h3⟩ := hR.loadN (P := P) hl hp
        refine ⟨.agg vs.toArray, ?_, by simp only [VR]; exact ⟨_, rfl, h3, by simpa using h2⟩⟩
        simp [getR, hv, loadVar, aggT_true ht, run_sizeT hn, h1, asAddr]
      · cases hx
    · rename_i ht
      cases hc
      simp only [getRes] at hx
      have hr := he.rel a
      split at hx
      · rename_i b o hb
        rw [hb] at hr
        simp only [VR] at hr
        obtain ⟨p, hp, hv⟩ := hr
        obtain ⟨_, u, h1, h2⟩ := hR.load1 hx hp
        refine ⟨u, ?_, h2⟩
        simp [getR, hv, loadVar, aggT_false ht, h1, asAddr]
      · cases hx
    · cases hc

theorem res_rel {e : Env} {tmps : Array Value} (hR : R kf kt w0 fm S w) (he : EnvR kf fm e tmps) : ∀ (rs : List ResultVar) (irs : List IRes) (vs : List AV), mapO (compRes P) rs = some irs → exRes e S irs = some vs →
    ∃ us, (rs.mapM (getR tmps)).run P w = .ok us w ∧ VRs kf fm vs us
  | [], irs, vs, hc, hx => by
    simp only [mapO] at hc; cases hc
    simp only [exRes] at hx; cases hx
    exact ⟨[], by simp, by simp [VRs]⟩
  | r :: rs, irs, vs, hc, hx => by
    simp only [mapO, Option.bind_eq_some_iff, Option.map_eq_some_iff] at hc
    obtain ⟨ir, h1, irs', h2, rfl⟩ := hc
    simp only [exRes_cons, Option.bind_eq_some_iff, Option.map_eq_some_iff] at hx
    obtain ⟨v, h3, vs', h4, rfl⟩ := hx
    obtain ⟨u, h5, h6⟩ := res1_rel (P := P) hR he h1 h3
    obtain ⟨us, h7, h8⟩ := res_rel hR he rs irs' vs' h2 h4
    refine ⟨u :: us, ?_, by simp only [VRs]; exact ⟨_, _, rfl, h6, h8⟩⟩
    rw [List.mapM_cons]
    simp only [Sem.run_bind]
    rw [h5]
    simp only [Result.andThen_ok]
    rw [h7]
    rfl

theorem one_rel {vs : List AV} {us : List Value} (h : VRs kf fm vs us) : VR kf fm (one vs) (if h : us.toArray.size = 1 then us.toArray[0] else .tuple us.toArray) := by
  have hl := h.length
  match vs, us, hl with
  | [v], [u], _ => simp only [VRs] at h; obtain ⟨_, _, h0, h1, _⟩ := h; cases h0; simpa [one] using h1
  | [], [], _ => simp only [one, VR]; exact ⟨#[], by simp, by simp [VRs]⟩
  | v :: v' :: vs, u :: u' :: us, _ => simp only [one, VR]; exact ⟨(u :: u' :: us).toArray, by simp, by simpa using h⟩

theorem results_rel {fn : Func} {e : Env} {tmps : Array Value} {irs : List IRes} {vs : List AV} (hR : R kf kt w0 fm S w) (he : EnvR kf fm e tmps) (hc : mapO (compRes P) fn.results.toList = some irs)
    (hx : exRes e S irs = some vs) : ∃ u, (results fn tmps).run P w = .ok u w ∧ VR kf fm (one vs) u := by
  obtain ⟨us, h1, h2⟩ := res_rel (P := P) hR he _ _ _ hc hx
  refine ⟨_, ?_, one_rel h2⟩
  rw [results_getR, Array.mapM_eq_mapM_toList]
  simp only [Sem.run_bind, map_eq_pure_bind]
  rw [h1]
  rfl

theorem pads_rel {nt : Nat} {args : List AV} {us : List Value} (h : VRs kf fm args us) : EnvR kf fm (pads nt args) (us.toArray ++ Array.replicate (nt - us.toArray.size) undef) := by
  have hl := h.length
  refine ⟨by simp [pads, hl], fun i => ?_⟩
  simp only [pads, List.getD_eq_getElem?_getD, Array.getD_eq_getD_getElem?, List.getElem?_append, Array.getElem?_append, List.size_toArray, hl]
  by_cases hi : i < args.length
  · simp only [hi, if_true]
    obtain ⟨u, h1, h2⟩ := h.get (List.getElem?_eq_getElem hi)
    have : us.toArray[i]? = some u := by simpa using h1
    rw [this, List.getElem?_eq_getElem hi]
    exact h2
  · simp only [hi, if_false]
    simp only [List.getElem?_replicate, Array.getElem?_replicate]
    split <;> exact undef_rel

theorem run_ok {G : Base → Prop} (hGm : Keeps G) {IP : Nat → Option IFn} (hL : Link P kf kt G IP) : ∀ n, CallOk P kf kt G (run IP n)
  | 0 => ⟨fun k cs vs S v S' h => by simp [run] at h, fun g vs S x h _ _ _ _ => by simp [run] at h⟩
  | n + 1 => by
    have ih := run_ok hGm hL n
    refine ⟨?_, ?_⟩
    · intro k cs vs S v S' h w0 hG fm w f us hR hk hv
      simp only [run] at h
      split at h
      · rename_i nt res body hip
        obtain ⟨fn, ls, h1, h2, h3⟩ := hL.code f nt res body (hk ▸ hip)
        unfold compFn at h3
        cases hb : fn.body with
        | none => simp [hb] at h3
        | some c =>
          cases hm : mapO (compRes P) fn.results.toList with
          | none => simp [hb, hm] at h3
          | some rs =>
            simp only [hb, hm, Option.some.injEq, IFn.code.injEq] at h3
            obtain ⟨rfl, rfl, rfl⟩ := h3
            refine ⟨⟨fn, h1, by simp [hb], h2⟩, ?_⟩
            refine callsIn_of_wp h1 hb trivial ?_
            have hds : ∀ {x l S1}, exC (run IP n) n (compC P kf kt c ls).1 { e := pads fn.ntmps (vs ++ cs) } S = some (x, l, S1) → l.ds = [] := fun h => code_ds _ _ _ _ _ _ _ h
            split at h
            · cases h
            · rename_i x l S1 hne hxc
              rw [hds hxc] at h
              simp only [letGo, Option.map_eq_some_iff] at h
              obtain ⟨rvs, h4, h5⟩ := h
              cases h5
              refine sim_code ih hGm hG c ls _ l S _ x fm w _ _ hR (pads_rel hv) hxc ?_
              intro ext a' w' h5 h6 h7
              obtain ⟨u, h8, h9⟩ := results_rel (P := P) h5 h6 hm h4
              cases x with
              | normal => exact ⟨h7, u, h8, ext, u, rfl, h5, h9⟩
              | ret => exact ⟨h7, u, h8, ext, u, rfl, h5, h9⟩
              | exit id => exact absurd rfl (hne id)
            · cases h
      · rename_i g hip
        exact hL.intr f g (hk ▸ hip) _ _ _ _ h w0 hG fm w us hR hv
      · cases h
    · intro g vs S x h w0 fm w hR
      unfold run at h
      split at h <;> first | exact ⟨_, _, rfl⟩ | (cases h; done) | skip
      rename_i n' r args S' _
      split at h
      · rename_i e ps asg body pend d hS
        obtain ⟨p, _, hb⟩ := hR.get hS
        exact hb.elim
      · cases h
end
end Am
