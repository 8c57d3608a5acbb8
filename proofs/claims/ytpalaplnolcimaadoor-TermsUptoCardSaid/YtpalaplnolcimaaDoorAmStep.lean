/- One operation of a region, calls among them. -/
import Derived.Test.YtpalaplnolcimaaDoorAmOp
import Derived.OrdersIn
namespace Am
open Go Go.RowKit

abbrev FR (r : Option Nat) : Fence := { fn := fun _ => True, depth := none, alive := false, round := r }

theorem callsIn_round (r r' : Option Nat) {n : Nat} {P : Program} {f : FuncId} {args : Array Value} {w : World} {Q : Ending → World → Prop} (h : CallsIn (FR r) n P f args w Q) : CallsIn (FR r') n P f args w Q := h

section
variable {kf kt : Nat → Nat} {w0 : Base} {fm : FM} {S : St} {w : World} {P : Program}

/-- What a call leaves. -/
def PostV (kf kt : Nat → Nat) (w0 : Base) (fm : FM) (v : AV) (S' : St) : Ending → World → Prop := fun e w' =>
  ∃ ext u, e = .returned u ∧ R kf kt w0 (fm ++ ext) S' w' ∧ VR kf (fm ++ ext) v u

/-- A function that can be entered. -/
def Enters (P : Program) (f : FuncId) : Prop := ∃ fn, P.funcs[f]? = some fn ∧ fn.body.isSome = true ∧ (fn.name == "runtime.NumGoroutine") = false

/-- What is asked of 'call': whatever it comes to, the model's call comes to. -/
structure CallOk (P : Program) (kf kt : Nat → Nat) (G : Base → Prop) (call : AV → List AV → St → Option (AV × St)) : Prop where
  fn : ∀ (k : Nat) (cs vs : List AV) (S : St) (v : AV) (S' : St), call (.fn k cs) vs S = some (v, S') → ∀ (w0 : Base), G w0 → ∀ (fm : FM) (w : World) (f : FuncId) (us : List Value), R kf kt w0 fm S w → kf f = k →
    VRs kf fm (vs ++ cs) us → Enters P f ∧ CallsIn (FR none) 0 P f us.toArray w (PostV kf kt w0 fm v S')
  only : ∀ (g : AV) (vs : List AV) (S : St) (x : AV × St), call g vs S = some x → ∀ (w0 : Base) (fm : FM) (w : World), R kf kt w0 fm S w → ∃ k cs, g = .fn k cs

theorem run_callFunc {f : FuncId} (h : Enters P f) (args : Array Value) : (callFunc f args).run P w = .ok (.enter f args) w := by
  obtain ⟨fn, h1, h2, h3⟩ := h
  have hb : fn.body.isNone = false := by cases hb : fn.body <;> simp_all
  simp only [callFunc, Sem.run_bind, run_program, Result.andThen_ok, h1, h3, hb]
  rfl

theorem wanted_rel {ops : Array Oper} {o : Oper} {g : Option (Nat × Bool)} {e : Env} {tmps : Array Value} {b : Bool} (he : EnvR kf fm e tmps) (hg : compGuard ops o.guard = some g) (hw : wanted e g = some b) :
    Region.wanted o (yielded ops tmps) = b := by
  unfold Region.wanted
  cases hgu : o.guard with
  | none =>
    rw [hgu] at hg
    simp only [compGuard] at hg
    cases hg
    simp only [wanted] at hw
    cases hw
    rfl
  | some jw =>
    obtain ⟨j, want⟩ := jw
    rw [hgu] at hg
    simp only [compGuard] at hg
    split at hg
    · rename_i t ht
      cases hg
      simp only [wanted] at hw
      have hr := he.rel t
      simp only [yielded, ht, Option.bind_some]
      rw [Array.getD_eq_getD_getElem?] at hr
      split at hw
      · rename_i bb hbb
        cases hw
        rw [hbb] at hr
        simp only [VR] at hr
        cases hq : tmps[t]? with
        | none => rw [hq] at hr; simp [undef] at hr
        | some x => rw [hq] at hr; simp at hr; subst hr; rfl
      · rename_i vs hbb
        cases hw
        rw [hbb] at hr
        simp only [VR] at hr
        obtain ⟨ws, hr, _⟩ := hr
        cases hq : tmps[t]? with
        | none => rfl
        | some x => rw [hq] at hr; simp at hr; subst hr; rfl
      · cases hw
    · cases hg

theorem compBuiltin_nocall {b : Builtin} {ts : Array TypeId} {args xs : List Operand} {k : OpK} (h : compBuiltin P kf kt b ts args = some (k, xs)) : NoCall k := by
  unfold compBuiltin at h
  split at h
  · split at h <;> first | (cases h; done) | (cases h; trivial)
  · split at h <;> first | (cases h; done) | (cases h; trivial)
  · split at h
    · simp only [Option.bind_eq_some_iff] at h
      obtain ⟨i, _, z, _, h⟩ := h
      split at h
      · cases h
      · split at h <;> (cases h; trivial)
    · cases h
  · split at h
    · simp only [Option.map_eq_some_iff] at h
      obtain ⟨_, _, h⟩ := h
      cases h; trivial
    · cases h
  · cases h; trivial
  · cases h; trivial
  · cases h

theorem compBin_nocall {op : BinOp} {t : TypeId} {x y : Operand} {xs : List Operand} {k : OpK} (h : compBin P op t x y = some (k, xs)) : NoCall k := by
  unfold compBin at h
  split at h
  · cases h; trivial
  · cases h; trivial
  · split at h <;> first | (cases h; done) | (cases h; trivial)
  · simp only [Option.bind_eq_some_iff] at h
    obtain ⟨_, _, h⟩ := h
    split at h <;> first | (cases h; done) | (cases h; trivial)
  · split at h <;> first | (cases h; done) | (cases h; trivial)
  · cases h

theorem compConv_nocall {a b : TypeId} {x : Operand} {xs : List Operand} {k : OpK} (h : compConv P kt a b x = some (k, xs)) : NoCall k := by
  unfold compConv at h
  split at h
  · cases h; trivial
  · cases h; trivial
  · split at h <;> first | (cases h; done) | (cases h; trivial)
  · split at h <;> first | (cases h; done) | (cases h; trivial)
  · cases h

theorem compK_calls {op : Op} {xs : List Operand} {k : OpK} (h : compK P kf kt op = some (k, xs)) (hc : ¬ NoCall k) :
    ∃ c f, op = .call c ∧ c.callee = .value f ∧ ((∃ g, f = .func g ∧ k = .call (kf g) ∧ xs = c.args.toList) ∨ (k = .callv ∧ xs = f :: c.args.toList)) := by
  cases op <;> simp only [compK] at h
  case call c =>
    split at h
    · exact absurd (compBuiltin_nocall h) hc
    · rename_i g hg
      cases h
      exact ⟨c, _, rfl, hg, .inl ⟨g, rfl, rfl, rfl⟩⟩
    · rename_i f _ hg
      cases h
      exact ⟨c, f, rfl, hg, .inr ⟨rfl, rfl⟩⟩
    · cases h
  all_goals exfalso; apply hc
  all_goals first
    | (cases h; done)
    | (cases h; trivial)
    | exact compBin_nocall h
    | exact compConv_nocall h
    | skip
  all_goals repeat' split at h
  all_goals first
    | (cases h; done)
    | (cases h; trivial)
    | (simp only [Option.map_eq_some_iff] at h; obtain ⟨_, _, h⟩ := h; cases h; trivial)
    | (simp only [Option.bind_eq_some_iff, Option.map_eq_some_iff] at h; obtain ⟨_, _, _, _, h⟩ := h; cases h; trivial)
    | (simp only [Option.bind_eq_some_iff, Option.map_eq_some_iff] at h; obtain ⟨_, _, _, _, _, _, h⟩ := h; cases h; trivial)
    | (simp only [Option.bind_eq_some_iff] at h; obtain ⟨_, _, h⟩ := h; split at h <;> first | (cases h; done) | (cases h; trivial))
    | exact compBin_nocall h
    | exact compConv_nocall h
    | exact compBuiltin_nocall h

/-- One operation of a region. -/
theorem sim_one {G : Base → Prop} {call : AV → List AV → St → Option (AV × St)} (hcall : CallOk P kf kt G call) (hG : G w0) {ops : Array Oper} {o : Oper} {io : IOp} {e : Env} {a : Act} {v : AV} {S' : St} {r : Option Nat}
    {K : Act → World → Prop} {Q : Exit → Act → World → Prop} (hcomp : compOp P kf kt ops o = some io) (he : EnvR kf fm e a.tmps) (hR : R kf kt w0 fm S w) (hx : exOp call io e S = some (v, S'))
    (hK : ∀ ext u w', R kf kt w0 (fm ++ ext) S' w' → VR kf (fm ++ ext) v u → K (a.put o.dst u) w') {i : Nat} (ho : ops[i]? = some o) :
    io.dst = o.dst ∧ wpOpIn (FR r) 0 P ops Q i K a w := by
  unfold compOp at hcomp
  cases hg : compGuard ops o.guard with
  | none => simp [hg] at hcomp
  | some g =>
    simp [hg] at hcomp
    subst hcomp
    refine ⟨rfl, ?_⟩
    unfold exOp at hx
    simp only at hx
    unfold wpOpIn
    simp only [ho]
    split at hx
    · rename_i hw
      rw [wanted_rel he hg hw]
      simp only [if_true]
      cases hk : compK P kf kt o.op with
      | none => simp [compKA, hk, ap] at hx
      | some kx =>
        obtain ⟨k, xs⟩ := kx
        cases hxs : mapO (cv kf) xs with
        | none => simp [compKA, hk, hxs, ap] at hx
        | some args =>
          simp only [compKA, hk, hxs] at hx
          have hv := cvs_rel he hxs
          have hnd : ∀ c, o.op ≠ .defer c := by intro c hc; rw [hc] at hk; simp [compK] at hk
          unfold Oper.wpIn
          refine ⟨fun _ _ => trivial, ?_⟩
          rw [Oper.semAt_eq _ _ _ hnd]
          by_cases hc : NoCall k
          · obtain ⟨ext, u, w', hr, h1, h2⟩ := sim_op (P := P) (ρ := a.eval) hR hk hc hv (fun _ => rfl) hx
            rcases hr with hr | ⟨hr, rfl⟩
            · rw [hr]; exact hK ext u w' h1 h2
            · rw [hr]; exact hK ext undef w' h1 h2
          · have hcalls : ∀ (f : FuncId) (us : List Value), (execOp a.eval o).run P w = .ok (.enter f us.toArray) w → CallsIn (FR none) 0 P f us.toArray w (PostV kf kt w0 fm v S') →
                o.uponIn (FR r) 0 P a K Q ((execOp a.eval o).run P w) := by
              intro f us hr hci
              rw [hr]
              refine ⟨fun h => by simp at h, callsIn_round none r (CallsIn.mono hci fun e w' he' => ?_)⟩
              obtain ⟨ext, u, rfl, h1, h2⟩ := he'
              exact hK ext u w' h1 h2
            obtain ⟨c, f, hop, hcf, hcase⟩ := compK_calls hk hc
            obtain ⟨dst, op, type, pos, after, guard⟩ := o
            subst hop
            obtain ⟨callee, cargs, argTypes⟩ := c
            simp only at hcf hcase
            subst hcf
            rcases hcase with ⟨g', rfl, rfl, rfl⟩ | ⟨rfl, rfl⟩
            · simp only [ap] at hx
              obtain ⟨hen, hci⟩ := hcall.fn _ _ _ _ _ _ hx w0 hG fm w g' _ hR rfl (by simpa using hv)
              have hm : (List.map a.eval cargs.toList).toArray = cargs.map a.eval := by simp [← Array.toList_map]
              refine hcalls g' _ ?_ hci
              simp only [execOp, resolve, Act.eval, Deferred.ofValue]
              have := run_callFunc (P := P) (w := w) hen (cargs.map a.eval)
              simp_all [invoke]
            · rw [List.map_cons] at hv
              obtain ⟨x, vs, hargs, h1, h2⟩ := invc hv
              rw [hargs] at hx
              simp only [ap] at hx
              obtain ⟨k, cs, rfl⟩ := hcall.only _ _ _ _ hx _ _ _ hR
              simp only [VR] at h1
              obtain ⟨f', ws, hf', hkf, hws⟩ := h1
              obtain ⟨hen, hci⟩ := hcall.fn _ _ _ _ _ _ hx w0 hG fm w f' _ hR hkf (h2.append hws)
              refine hcalls f' _ ?_ hci
              simp only [execOp, resolve, hf', Deferred.ofValue]
              have := run_callFunc (P := P) (w := w) hen (cargs.map a.eval ++ ws)
              simp_all [invoke]
    · rename_i hw
      rw [wanted_rel he hg hw]
      simp only [Bool.false_eq_true, if_false]
      cases hx
      exact ⟨fun _ _ => trivial, hK [] undef w (by simpa using hR) (by simpa using undef_rel)⟩
    · cases hx
end
end Am
