/- Regions that draw their order: what the order that was checked tells, in the abstract machine alone. -/
import Derived.Test.YtpalaplnolcimaaDoorAmComp
namespace Am
open Go

abbrev Call := AV → List AV → St → Option (AV × St)

/-! ### Operations that leave the memory alone -/

set_option maxHeartbeats 1000000 in
theorem ap_pure {k : OpK} (hp : isPure k = true) {call : Call} {vs : List AV} {S S' : St} {v : AV} (h : ap call k vs S = some (v, S')) : S' = S ∧ ∀ (call2 : Call) S2, ap call2 k vs S2 = some (v, S2) := by
  unfold ap at h
  split at h <;> (first | (simp [isPure] at hp; done) | (cases h; done) | skip) <;>
    first
    | contradiction
    | (cases h; exact ⟨rfl, fun _ _ => rfl⟩)
    | (simp only [Option.map_eq_some_iff, Option.bind_eq_some_iff] at h; obtain ⟨x, hx, h9⟩ := h; cases h9; exact ⟨rfl, fun _ _ => by simp [ap, hx]⟩)
    | (split at h <;> first | (cases h; done) | (cases h; exact ⟨rfl, fun _ _ => by simp [ap, *]⟩) | (simp only [Option.map_eq_some_iff] at h; obtain ⟨x, hx, h9⟩ := h; cases h9; exact ⟨rfl, fun _ _ => by simp_all [ap]⟩))
    | (simp only [Option.bind_eq_some_iff] at h; obtain ⟨x, hx, h⟩ := h
       first
       | (split at h <;> first | (cases h; done) | (cases h; exact ⟨rfl, fun _ _ => by simp_all [ap]⟩) | (simp only [Option.map_eq_some_iff] at h; obtain ⟨y, hy, h9⟩ := h; cases h9; exact ⟨rfl, fun _ _ => by simp_all [ap]⟩))
       | (simp only [Option.map_eq_some_iff] at h; obtain ⟨y, hy, h9⟩ := h; cases h9; exact ⟨rfl, fun _ _ => by simp_all [ap]⟩))

theorem ap_read {k : OpK} (hp : isRead k = true) {call : Call} {vs : List AV} {S S' : St} {v : AV} (h : ap call k vs S = some (v, S')) : S' = S ∧ ∀ (call2 : Call), ap call2 k vs S = some (v, S) := by
  unfold ap at h
  split at h <;> (first | (simp [isRead] at hp; done) | (cases h; done) | skip) <;>
    first
    | contradiction
    | (cases h; exact ⟨rfl, fun _ => rfl⟩)
    | (simp only [Option.map_eq_some_iff] at h; obtain ⟨x, hx, h9⟩ := h; cases h9; exact ⟨rfl, fun _ => by simp [ap, hx]⟩)
    | (simp only [Option.bind_eq_some_iff, Option.map_eq_some_iff] at h; obtain ⟨x, hx, y, hy, h9⟩ := h; cases h9; exact ⟨rfl, fun _ => by simp [ap, hx, hy]⟩)
    | (split at h <;> first | (cases h; done) | (cases h; exact ⟨rfl, fun _ => by simp [ap, *]⟩) | (split at h <;> first | (cases h; done) | (cases h; exact ⟨rfl, fun _ => by simp_all [ap]⟩)))
theorem ev_congr {e e' : Env} : ∀ {p : Opd}, (∀ t, p = .t t → e.getD t (.tup []) = e'.getD t (.tup [])) → p.ev e = p.ev e'
  | .t t, h => h t rfl
  | .c _, _ => rfl

theorem exOp_congr {call : Call} {o : IOp} {e e' : Env} {S : St} (h : ∀ t ∈ o.reads, e.getD t (.tup []) = e'.getD t (.tup [])) : exOp call o e S = exOp call o e' S := by
  unfold exOp
  have h1 : o.args.map (·.ev e) = o.args.map (·.ev e') := by
    refine List.map_congr_left fun p hp => ev_congr fun t ht => h t ?_
    subst ht
    unfold IOp.reads
    refine List.mem_append_left _ ?_
    exact List.mem_filterMap.2 ⟨.t t, hp, rfl⟩
  have h2 : wanted e o.guard = wanted e' o.guard := by
    cases hg : o.guard with
    | none => rfl
    | some g =>
      obtain ⟨t, want⟩ := g
      have := h t (by unfold IOp.reads; rw [hg]; exact List.mem_append_right _ (by simp))
      simp only [wanted, this]
  rw [h1, h2]

theorem exOp_pure {call : Call} {o : IOp} (hp : isPure o.k = true) {e : Env} {S S' : St} {v : AV} (h : exOp call o e S = some (v, S')) : S' = S ∧ ∀ S2, exOp call o e S2 = some (v, S2) := by
  unfold exOp at h ⊢
  split at h
  · exact ⟨(ap_pure hp h).1, fun S2 => (ap_pure hp h).2 _ _⟩
  · cases h; exact ⟨rfl, fun _ => rfl⟩
  · cases h

theorem exOp_read {call : Call} {o : IOp} (hp : isRead o.k = true) {e : Env} {S S' : St} {v : AV} (h : exOp call o e S = some (v, S')) : S' = S ∧ ∀ call2, exOp call2 o e S = some (v, S) := by
  unfold exOp at h ⊢
  split at h
  · exact ⟨(ap_read hp h).1, fun c2 => (ap_read hp h).2 _⟩
  · cases h; exact ⟨rfl, fun _ => rfl⟩
  · cases h

/-! ### What makes a block and looks at none -/

mutual
theorem AV.belowB_mono {n m : Nat} (h : n ≤ m) : ∀ {c : AV}, AV.belowB n c = true → AV.belowB m c = true
  | .ptr b _, hb => by simp [AV.belowB] at hb ⊢; omega
  | .sl b _ _ _ _, hb => by simp [AV.belowB] at hb ⊢; omega
  | .agg cs, hb => by simp only [AV.belowB] at hb ⊢; exact AV.belowsB_mono h hb
  | .tup cs, hb => by simp only [AV.belowB] at hb ⊢; exact AV.belowsB_mono h hb
  | .fn _ cs, hb => by simp only [AV.belowB] at hb ⊢; exact AV.belowsB_mono h hb
  | .yld b, hb => by simp [AV.belowB] at hb ⊢; omega
  | .mp b, hb => by simp [AV.belowB] at hb ⊢; omega
  | .any, _ => rfl
  | .bool _, _ => rfl
  | .int _ _, _ => rfl
  | .str _, _ => rfl
  | .nilp, _ => rfl
  | .nils, _ => rfl
  | .nilf, _ => rfl
  | .nilm, _ => rfl
  | .nili, _ => rfl
  | .opq, _ => rfl
theorem AV.belowsB_mono {n m : Nat} (h : n ≤ m) : ∀ {cs : List AV}, AV.belowsB n cs = true → AV.belowsB m cs = true
  | [], _ => rfl
  | c :: cs, hb => by
    simp only [AV.belowsB, Bool.and_eq_true] at hb ⊢
    exact ⟨AV.belowB_mono h hb.1, AV.belowsB_mono h hb.2⟩
end

theorem belowsB_iff {n : Nat} : ∀ {cs : List AV}, AV.belowsB n cs = true ↔ ∀ c ∈ cs, AV.belowB n c = true
  | [] => by simp [AV.belowsB]
  | c :: cs => by simp [AV.belowsB, belowsB_iff (cs := cs)]

theorem below_flat {n : Nat} {v : AV} {us : List AV} (h : AV.belowB n v = true) (hf : v.flat = some us) : AV.belowsB n us = true := by
  cases v <;> simp [AV.flat] at hf <;> subst hf
  case agg => simpa [AV.belowB] using h
  all_goals simp [AV.belowsB, h]

theorem below_putAt {n : Nat} : ∀ {us cs : List AV} {o : Nat}, AV.belowsB n cs = true → AV.belowsB n us = true → AV.belowsB n (putAt cs o us) = true
  | [], cs, o, hc, _ => hc
  | u :: us, cs, o, hc, hu => by
    simp only [AV.belowsB, Bool.and_eq_true] at hu
    refine below_putAt (cs := cs.set o u) ?_ hu.2
    rw [belowsB_iff] at hc ⊢
    intro c hm
    rcases List.mem_or_eq_of_mem_set hm with h | h
    · exact hc c h
    · subst h; exact hu.1

theorem below_fill {n : Nat} : ∀ {ps : List (Nat × Nat)} {vs z cs : List AV}, fill ps vs z = some cs → AV.belowsB n vs = true → AV.belowsB n z = true → AV.belowsB n cs = true
  | [], vs, z, cs, h, _, hz => by cases vs <;> simp [fill] at h; subst h; exact hz
  | (off, size) :: ps, [], z, cs, h, _, _ => by simp [fill] at h
  | (off, size) :: ps, v :: vs, z, cs, h, hv, hz => by
    simp only [fill, Option.bind_eq_some_iff] at h
    obtain ⟨us, hu, h⟩ := h
    split at h
    · simp only [AV.belowsB, Bool.and_eq_true] at hv
      exact below_fill h hv.2 (below_putAt hz (below_flat hv.1 hu))
    · cases h

/-- A new block's value, by its number. -/
def Shape (mk : Nat → AV) : Prop := (mk = fun n => .ptr n 0) ∨ ∃ k, mk = fun n => .sl n 0 k k none

theorem floats_run {call : Call} {o : IOp} (hf : o.floats = true) {e : Env} {S S' : St} {v : AV} (h : exOp call o e S = some (v, S')) :
    ∃ tag cs mk, S' = S ++ [.own tag cs] ∧ v = mk S.length ∧ Shape mk ∧ (∀ S2, exOp call o e S2 = some (mk S2.length, S2 ++ [.own tag cs])) ∧
      (∀ n, (∀ t ∈ o.reads, AV.belowB n (e.getD t (.tup [])) = true) → AV.belowsB n cs = true) := by
  unfold IOp.floats at hf
  simp only [Bool.and_eq_true] at hf
  obtain ⟨⟨⟨hd, hg⟩, hconst⟩, hk⟩ := hf
  have hgn : o.guard = none := by cases h : o.guard <;> simp_all
  have hargs : ∀ n, (∀ t ∈ o.reads, AV.belowB n (e.getD t (.tup [])) = true) → AV.belowsB n (o.args.map (·.ev e)) = true := by
    intro n hn
    rw [belowsB_iff]
    intro c hc
    obtain ⟨p, hp, rfl⟩ := List.mem_map.1 hc
    cases p with
    | t i => exact hn i (by unfold IOp.reads; exact List.mem_append_left _ (List.mem_filterMap.2 ⟨.t i, hp, rfl⟩))
    | c v =>
      rw [List.all_eq_true] at hconst
      exact AV.belowB_mono (Nat.zero_le n) (hconst _ hp)
  simp only [exOp, hgn, wanted] at h ⊢
  generalize o.args.map (·.ev e) = vs at h hargs ⊢
  split at hk
  · rename_i tag z hkk
    rw [hkk] at h ⊢
    cases vs with
    | nil =>
      simp only [ap] at h ⊢
      cases h
      exact ⟨tag, z, fun n => .ptr n 0, rfl, rfl, .inl rfl, fun _ => rfl, fun n _ => AV.belowsB_mono (Nat.zero_le n) hk⟩
    | cons => simp [ap] at h
  · rename_i tag hkk
    rw [hkk] at h ⊢
    match vs, h, hargs with
    | [], h, _ => simp [ap] at h
    | [v1], h, hargs =>
      simp only [ap] at h ⊢
      simp only [Option.map_eq_some_iff] at h
      obtain ⟨cs, hcs, h⟩ := h
      cases h
      refine ⟨tag, cs, fun n => .ptr n 0, rfl, rfl, .inl rfl, fun _ => by simp [hcs], fun n hn => ?_⟩
      have := hargs n hn
      simp only [AV.belowsB, Bool.and_eq_true] at this
      exact below_flat this.1 hcs
    | _ :: _ :: _, h, _ => simp [ap] at h
  · rename_i tag z k ps hkk
    rw [hkk] at h ⊢
    simp only [ap] at h ⊢
    simp only [Option.map_eq_some_iff] at h
    obtain ⟨cs, hcs, h⟩ := h
    cases h
    exact ⟨tag, cs, fun n => .sl n 0 k k none, rfl, rfl, .inr ⟨k, rfl⟩, fun _ => by simp [hcs], fun n hn => below_fill hcs (hargs n hn) (AV.belowsB_mono (Nat.zero_le n) hk)⟩
  · cases hk

mutual
theorem AV.beq_eq : ∀ {a b : AV}, AV.beq a b = true → a = b
  | .any, b, h => by cases b <;> simp [AV.beq] at h
  | .bool _, b, h => by cases b <;> simp [AV.beq] at h; subst h; rfl
  | .int _ _, b, h => by cases b <;> simp [AV.beq] at h; obtain ⟨h1, h2⟩ := h; subst h1 h2; rfl
  | .str _, b, h => by cases b <;> simp [AV.beq] at h; subst h; rfl
  | .ptr _ _, b, h => by cases b <;> simp [AV.beq] at h; obtain ⟨h1, h2⟩ := h; subst h1 h2; rfl
  | .nilp, b, h => by cases b <;> simp [AV.beq] at h; rfl
  | .sl .., b, h => by cases b <;> simp [AV.beq] at h; obtain ⟨⟨⟨⟨h1, h2⟩, h3⟩, h4⟩, h5⟩ := h; subst h1 h2 h3 h4 h5; rfl
  | .nils, b, h => by cases b <;> simp [AV.beq] at h; rfl
  | .agg xs, b, h => by cases b <;> simp [AV.beq] at h; rw [AV.beqs_eq h]
  | .tup xs, b, h => by cases b <;> simp [AV.beq] at h; rw [AV.beqs_eq h]
  | .fn _ xs, b, h => by cases b <;> simp [AV.beq] at h; obtain ⟨h1, h2⟩ := h; subst h1; rw [AV.beqs_eq h2]
  | .yld _, b, h => by cases b <;> simp [AV.beq] at h
  | .nilf, b, h => by cases b <;> simp [AV.beq] at h; rfl
  | .mp _, b, h => by cases b <;> simp [AV.beq] at h; subst h; rfl
  | .nilm, b, h => by cases b <;> simp [AV.beq] at h; rfl
  | .nili, b, h => by cases b <;> simp [AV.beq] at h; rfl
  | .opq, b, h => by cases b <;> simp [AV.beq] at h
theorem AV.beqs_eq : ∀ {a b : List AV}, AV.beqs a b = true → a = b
  | [], b, h => by cases b <;> simp [AV.beqs] at h; rfl
  | x :: xs, b, h => by
    cases b with
    | nil => simp [AV.beqs] at h
    | cons y ys => simp [AV.beqs] at h; rw [AV.beq_eq h.1, AV.beqs_eq h.2]
end

/-! ### Who is ahead of whom -/

section
variable {iops : List IOp} {pr : List (List Nat)}

theorem ancs_ext : ∀ (rest acc : List (List Nat)), ∃ t, ancs acc rest = acc ++ t
  | [], acc => ⟨[], by simp [ancs]⟩
  | ps :: rest, acc => by
    obtain ⟨t, ht⟩ := ancs_ext rest (acc ++ [ancStep acc ps])
    exact ⟨ancStep acc ps :: t, by simp [ancs, ht]⟩

theorem ancs_at : ∀ (rest acc : List (List Nat)) (i : Nat) (ps : List Nat), rest[i]? = some ps → ∃ acc' t, acc'.length = acc.length + i ∧ ancs acc rest = acc' ++ ancStep acc' ps :: t
  | [], acc, i, ps, h => by simp at h
  | q :: rest, acc, 0, ps, h => by
    simp at h; subst h
    obtain ⟨t, ht⟩ := ancs_ext rest (acc ++ [ancStep acc q])
    exact ⟨acc, t, by simp, by simp [ancs, ht]⟩
  | q :: rest, acc, i + 1, ps, h => by
    obtain ⟨acc', t, h1, h2⟩ := ancs_at rest (acc ++ [ancStep acc q]) i ps (by simpa using h)
    exact ⟨acc', t, by simp at h1; omega, by simp [ancs, h2]⟩

theorem mem_an {i x : Nat} {ps : List Nat} (h : pr[i]? = some ps) (hlt : ∀ p ∈ ps, p < i) (hx : x ∈ (ancs [] pr).getD i []) : x ∈ ps ∨ ∃ p ∈ ps, x ∈ (ancs [] pr).getD p [] := by
  obtain ⟨acc, t, h1, h2⟩ := ancs_at pr [] i ps h
  have hl : acc.length = i := by simpa using h1
  rw [h2, List.getD_eq_getElem?_getD, List.getElem?_append_right (by omega)] at hx
  simp [hl, ancStep] at hx
  rcases hx with hx | ⟨p, hp, hx⟩
  · exact .inl hx
  · refine .inr ⟨p, hp, ?_⟩
    rw [h2, List.getD_eq_getElem?_getD, List.getElem?_append_left (by have := hlt p hp; omega)]
    exact hx

/-- A set that holds, with each, what is ahead of it. -/
def Closed (pr : List (List Nat)) (L : Nat → Prop) : Prop := ∀ i ps, pr[i]? = some ps → L i → ∀ p ∈ ps, L p

theorem closed_an (hlt : ∀ (i : Nat) (ps : List Nat), pr[i]? = some ps → ∀ p ∈ ps, p < i) {L : Nat → Prop} (hc : Closed pr L) (hL : ∀ i, L i → i < pr.length) : ∀ (i : Nat), L i → ∀ x ∈ (ancs [] pr).getD i [], L x := by
  intro i
  induction i using Nat.strongRecOn with
  | _ i ih =>
    intro hi x hx
    obtain ⟨ps, hps⟩ : ∃ ps, pr[i]? = some ps := ⟨_, List.getElem?_eq_getElem (hL i hi)⟩
    rcases mem_an hps (hlt i ps hps) hx with h | ⟨p, hp, h⟩
    · exact hc i ps hps hi x h
    · exact ih p (hlt i ps hps p hp) (hc i ps hps hi p hp) x h

theorem ready_an (hlt : ∀ (i : Nat) (ps : List Nat), pr[i]? = some ps → ∀ p ∈ ps, p < i) {L : Nat → Prop} (hc : Closed pr L) (hL : ∀ i, L i → i < pr.length) {i : Nat} {ps : List Nat} (hps : pr[i]? = some ps) (hi : ∀ p ∈ ps, L p) :
    ∀ x ∈ (ancs [] pr).getD i [], L x := by
  intro x hx
  rcases mem_an hps (hlt i ps hps) hx with h | ⟨p, hp, h⟩
  · exact hi x h
  · exact closed_an hlt hc hL p (hi p hp) x h

/-! ### What the check tells -/

/-- Is a temporary written by one of these? -/
def Hit (iops : List IOp) (L : Nat → Prop) (t : Nat) : Prop := ∃ j o, L j ∧ iops[j]? = some o ∧ o.dst = some t

structure SSA (iops : List IOp) (pr : List (List Nat)) : Prop where
  len : pr.length = iops.length
  lt : ∀ (i : Nat) (ps : List Nat), pr[i]? = some ps → ∀ p ∈ ps, p < i
  own : ∀ (i : Nat) (o : IOp) (d : Nat), iops[i]? = some o → o.dst = some d → isRead o.k = true → d ∉ o.reads
  dst : ∀ (i : Nat) (o : IOp) (d j : Nat) (o' : IOp), iops[i]? = some o → o.dst = some d → iops[j]? = some o' → i ≠ j → o'.dst ≠ some d
  sees : ∀ (i : Nat) (o : IOp) (d j : Nat) (o' : IOp), iops[i]? = some o → o.dst = some d → iops[j]? = some o' → i ≠ j → d ∈ o'.reads → (isRead o'.k = false ∧ j ∈ (ancs [] pr).getD i []) ∨ i ∈ (ancs [] pr).getD j []

theorem all_zipIdx {α : Type} {l : List α} {f : α × Nat → Bool} (h : l.zipIdx.all f = true) {i : Nat} {x : α} (hx : l[i]? = some x) : f (x, i) = true := by
  rw [List.all_eq_true] at h
  exact h (x, i) (List.mem_iff_getElem?.2 ⟨i, by simp [hx]⟩)

theorem ssa_of (h : okSSA iops pr (ancs [] pr) = true) : SSA iops pr := by
  unfold okSSA at h
  simp only [Bool.and_eq_true, beq_iff_eq] at h
  obtain ⟨⟨h1, h2⟩, h3⟩ := h
  have key : ∀ (i : Nat) (o : IOp) (d j : Nat) (o' : IOp), iops[i]? = some o → o.dst = some d → iops[j]? = some o' → okPair (ancs [] pr) i d j o' = true := by
    intro i o d j o' hi hd hj
    have := all_zipIdx h3 hi
    simp only [hd] at this
    exact all_zipIdx this hj
  refine ⟨h1, ?_, ?_, ?_, ?_⟩
  · intro i ps hps p hp
    have := all_zipIdx h2 hps
    simp only [List.all_eq_true] at this
    simpa using this p hp
  · intro i o d hi hd hr hm
    have := key i o d i o hi hd hi
    simp [okPair, hr] at this
    exact this hm
  · intro i o d j o' hi hd hj hne
    have := key i o d j o' hi hd hj
    simp only [okPair, hne, if_false, Bool.and_eq_true] at this
    simpa using this.1
  · intro i o d j o' hi hd hj hne hm
    have := key i o d j o' hi hd hj
    simp only [okPair, hne, if_false, Bool.and_eq_true] at this
    have h9 := this.2
    simp only [Bool.or_eq_true, Bool.not_eq_true', Bool.and_eq_true, List.contains_iff_mem] at h9
    rcases h9 with (h9 | h9) | h9
    · rw [← Bool.not_eq_true, List.contains_iff_mem] at h9; exact absurd hm h9
    · exact .inl h9
    · exact .inr h9

/-- What an operation finds in the temporaries that it looks at, whenever it comes. -/
def Looks (iops : List IOp) (pr : List (List Nat)) (e0 eF : Env) (i : Nat) (o : IOp) (e : Env) : Prop :=
  ∀ t ∈ o.reads, (Hit iops (· ∈ (ancs [] pr).getD i []) t → e.getD t (.tup []) = eF.getD t (.tup [])) ∧ (¬ Hit iops (· ∈ (ancs [] pr).getD i []) t → e.getD t (.tup []) = e0.getD t (.tup []))

/-- The temporaries when these have been done. -/
def Tmps (iops : List IOp) (e0 eF : Env) (L : Nat → Prop) (e : Env) : Prop :=
  ∀ t, (Hit iops L t → e.getD t (.tup []) = eF.getD t (.tup [])) ∧ (¬ Hit iops L t → e.getD t (.tup []) = e0.getD t (.tup []))

theorem looks_of (hs : SSA iops pr) {e0 eF e : Env} {L : Nat → Prop} (ht : Tmps iops e0 eF L e) (hc : Closed pr L) (hL : ∀ i, L i → i < pr.length) {i : Nat} {o : IOp} (ho : iops[i]? = some o)
    (hi : ¬ L i) (hp : ∀ ps, pr[i]? = some ps → ∀ p ∈ ps, L p) : Looks iops pr e0 eF i o e := by
  obtain ⟨ps, hps⟩ : ∃ ps, pr[i]? = some ps := ⟨_, List.getElem?_eq_getElem (by rw [hs.len]; exact (List.getElem?_eq_some_iff.1 ho).1)⟩
  have han := ready_an hs.lt hc hL hps (hp ps hps)
  intro t hr
  refine ⟨?_, ?_⟩
  · rintro ⟨j, oj, hj, hoj, hd⟩
    exact (ht t).1 ⟨j, oj, han j hj, hoj, hd⟩
  · intro hn
    refine (ht t).2 ?_
    rintro ⟨j, oj, hj, hoj, hd⟩
    have hji : j ≠ i := fun h => hi (h ▸ hj)
    rcases hs.sees j oj t i o hoj hd ho hji hr with h | h
    · exact hi (closed_an hs.lt hc hL j hj i h.2)
    · exact hn ⟨j, oj, h, hoj, hd⟩

theorem looks_read (hs : SSA iops pr) {e0 eF e : Env} {L : Nat → Prop} (ht : Tmps iops e0 eF L e) (hc : Closed pr L) (hL : ∀ i, L i → i < pr.length) {i : Nat} {o : IOp} (ho : iops[i]? = some o)
    (hi : L i) (hr : isRead o.k = true) : Looks iops pr e0 eF i o e := by
  have han := closed_an hs.lt hc hL i hi
  intro t htr
  refine ⟨?_, ?_⟩
  · rintro ⟨j, oj, hj, hoj, hd⟩
    exact (ht t).1 ⟨j, oj, han j hj, hoj, hd⟩
  · intro hn
    refine (ht t).2 ?_
    rintro ⟨j, oj, hj, hoj, hd⟩
    by_cases hji : j = i
    · subst hji
      have hoo : o = oj := by rw [hoj] at ho; cases ho; rfl
      subst hoo
      exact hs.own j _ t hoj hd hr htr
    · rcases hs.sees j oj t i o hoj hd ho hji htr with h | h
      · rw [hr] at h; exact absurd h.1 (by simp)
      · exact hn ⟨j, oj, h, hoj, hd⟩

theorem Looks.same {e0 eF e e' : Env} {i : Nat} {o : IOp} (h : Looks iops pr e0 eF i o e) (h' : Looks iops pr e0 eF i o e') : ∀ t ∈ o.reads, e.getD t (.tup []) = e'.getD t (.tup []) := by
  intro t ht
  by_cases hh : Hit iops (· ∈ (ancs [] pr).getD i []) t
  · rw [(h t ht).1 hh, (h' t ht).1 hh]
  · rw [(h t ht).2 hh, (h' t ht).2 hh]

theorem getD_set (e : Env) (d : Nat) (v : AV) (t : Nat) : (e.set d v).getD t (.tup []) = if d = t ∧ d < e.length then v else e.getD t (.tup []) := by
  simp only [List.getD_eq_getElem?_getD, List.getElem?_set]
  by_cases h1 : d = t
  · subst h1
    by_cases h2 : d < e.length
    · simp [h2]
    · simp [h2]
  · simp [h1]

theorem setD_length (e : Env) (d : Option Nat) (v : AV) : (setD e d v).length = e.length := by cases d <;> simp [setD]

/-- What no operation to come writes stays. -/
theorem items_keep {call : Call} : ∀ (its : List DItem) (e : Env) (S : St) (eF : Env) (SF : St), exItems call iops its e S = some (eF, SF) →
    eF.length = e.length ∧ ∀ t, ¬ Hit iops (· ∈ opsOf its) t → eF.getD t (.tup []) = e.getD t (.tup [])
  | [], e, S, eF, SF, h => by simp [exItems] at h; obtain ⟨rfl, rfl⟩ := h; exact ⟨rfl, fun _ _ => rfl⟩
  | .op i :: its, e, S, eF, SF, h => by
    simp only [exItems] at h
    split at h
    · rename_i o ho
      simp only [Option.bind_eq_some_iff] at h
      obtain ⟨⟨v, S1⟩, _, h⟩ := h
      obtain ⟨h1, h2⟩ := items_keep its _ _ _ _ h
      refine ⟨by rw [h1, setD_length], fun t ht => ?_⟩
      rw [h2 t fun ⟨j, oj, hj, hoj, hd⟩ => ht ⟨j, oj, by simp [opsOf, hj], hoj, hd⟩]
      cases hd : o.dst with
      | none => rfl
      | some d =>
        simp only [setD]
        rw [getD_set, if_neg]
        rintro ⟨rfl, _⟩
        exact ht ⟨i, o, by simp [opsOf], ho, hd⟩
    · cases h
  | .chk i :: its, e, S, eF, SF, h => by
    simp only [exItems] at h
    split at h
    · split at h
      · simp only [Option.bind_eq_some_iff] at h
        obtain ⟨⟨v, S1⟩, _, h⟩ := h
        split at h
        · obtain ⟨h1, h2⟩ := items_keep its _ _ _ _ h
          exact ⟨h1, fun t ht => h2 t (by simpa [opsOf] using ht)⟩
        · cases h
      · cases h
    · cases h

theorem okRow_fresh : ∀ (its : List DItem) (D : List Nat), okRow iops pr D its = true → ∀ i ∈ opsOf its, i ∉ D
  | [], D, _, i, hi => by simp [opsOf] at hi
  | .op j :: its, D, h, i, hi => by
    simp only [okRow, Bool.and_eq_true, Bool.not_eq_true'] at h
    simp only [opsOf, List.mem_cons] at hi
    rcases hi with rfl | hi
    · intro hm; have := h.1.1.2; rw [← Bool.not_eq_true, List.contains_iff_mem] at this; exact this hm
    · have := okRow_fresh its (j :: D) h.2 i hi; intro hm; exact this (by simp [hm])
  | .chk j :: its, D, h, i, hi => by
    simp only [okRow, Bool.and_eq_true] at h
    exact okRow_fresh its D h.2 i (by simpa [opsOf] using hi)

theorem visits_ge : ∀ (its : List DItem) (m i k : Nat), (i, k) ∈ visits iops m its → m ≤ k
  | [], m, i, k, h => by simp [visits] at h
  | .op j :: its, m, i, k, h => by
    simp only [visits, List.mem_cons] at h
    rcases h with h | h
    · cases h; exact Nat.le_refl _
    · have := visits_ge its _ i k h; split at this <;> omega
  | .chk j :: its, m, i, k, h => by
    simp only [visits, List.mem_cons] at h
    rcases h with h | h
    · cases h; exact Nat.le_refl _
    · exact visits_ge its _ i k h

/-- What is known of an operation at one of the states. -/
def Seen (call : Call) (iops : List IOp) (pr : List (List Nat)) (e0 eF : Env) (Sm : Nat → St) (i k : Nat) : Prop :=
  ∃ o e v, iops[i]? = some o ∧ Looks iops pr e0 eF i o e ∧ exOp call o e (Sm k) = some (v, if isSmall o.k then Sm k else Sm (k + 1)) ∧ (∀ d, o.dst = some d → d < e0.length → v = eF.getD d (.tup []))

theorem small_same {call : Call} {o : IOp} (hp : isSmall o.k = true) {e : Env} {S S' : St} {v : AV} (h : exOp call o e S = some (v, S')) : S' = S := by
  unfold isSmall at hp
  rw [Bool.or_eq_true] at hp
  rcases hp with hp | hp
  · exact (exOp_pure hp h).1
  · exact (exOp_read hp h).1

theorem items_visits (hs : SSA iops pr) {call : Call} {e0 eF : Env} {SF : St} : ∀ (its : List DItem) (D : List Nat) (m : Nat) (e : Env) (S : St), Tmps iops e0 eF (· ∈ D) e → e.length = e0.length →
    Closed pr (· ∈ D) → (∀ i ∈ D, i < pr.length) → okRow iops pr D its = true → exItems call iops its e S = some (eF, SF) →
    ∃ Sm : Nat → St, Sm m = S ∧ Sm (m + (bigsOf iops its).length) = SF ∧ ∀ i k, (i, k) ∈ visits iops m its → Seen call iops pr e0 eF Sm i k
  | [], D, m, e, S, ht, hl, hc, hD, hok, hx => by
    simp [exItems] at hx; obtain ⟨rfl, rfl⟩ := hx
    exact ⟨fun _ => S, rfl, rfl, fun i k h => by simp [visits] at h⟩
  | .op i :: its, D, m, e, S, ht, hl, hc, hD, hok, hx => by
    simp only [okRow, Bool.and_eq_true, Bool.not_eq_true'] at hok
    obtain ⟨⟨⟨hio, hfresh⟩, hpr⟩, hok⟩ := hok
    have hfresh : i ∉ D := by rw [← Bool.not_eq_true, List.contains_iff_mem] at hfresh; exact hfresh
    simp only [exItems] at hx
    split at hx
    · rename_i o ho
      simp only [Option.bind_eq_some_iff] at hx
      obtain ⟨⟨v, S1⟩, hx1, hx2⟩ := hx
      have hi : i < pr.length := by rw [hs.len]; exact (List.getElem?_eq_some_iff.1 ho).1
      have hprD : ∀ ps, pr[i]? = some ps → ∀ p ∈ ps, p ∈ D := by
        intro ps hps p hp
        rw [List.getD_eq_getElem?_getD, hps] at hpr
        simp only [Option.getD_some, List.all_eq_true] at hpr
        exact List.contains_iff_mem.1 (hpr p hp)
      have hlook := looks_of hs ht hc hD ho hfresh hprD
      obtain ⟨hlen, hkeep⟩ := items_keep _ _ _ _ _ hx2
      have hval : ∀ d, o.dst = some d → eF.getD d (.tup []) = (setD e o.dst v).getD d (.tup []) := by
        intro d hd
        refine hkeep d ?_
        rintro ⟨j, oj, hj, hoj, hdj⟩
        have hji : j ≠ i := fun h => okRow_fresh its (i :: D) hok j hj (by simp [h])
        exact hs.dst j oj d i o hoj hdj ho hji hd
      have hc' : Closed pr (· ∈ i :: D) := by
        intro j ps hps hj p hp
        simp only [List.mem_cons] at hj ⊢
        rcases hj with rfl | hj
        · exact .inr (hprD ps hps p hp)
        · exact .inr (hc j ps hps hj p hp)
      have ht' : Tmps iops e0 eF (· ∈ i :: D) (setD e o.dst v) := by
        intro t
        by_cases hti : o.dst = some t
        · refine ⟨fun _ => (hval t hti).symm, fun hn => absurd ⟨i, o, by simp, ho, hti⟩ hn⟩
        · have hsame : (setD e o.dst v).getD t (.tup []) = e.getD t (.tup []) := by
            cases hd : o.dst with
            | none => rfl
            | some d =>
              simp only [setD]
              rw [getD_set, if_neg]
              rintro ⟨rfl, _⟩
              exact hti hd
          rw [hsame]
          refine ⟨?_, fun hn => (ht t).2 fun ⟨j, oj, hj, hoj, hd⟩ => hn ⟨j, oj, by simp [hj], hoj, hd⟩⟩
          rintro ⟨j, oj, hj, hoj, hd⟩
          simp only [List.mem_cons] at hj
          rcases hj with rfl | hj
          · rw [ho] at hoj; cases hoj; exact absurd hd hti
          · exact (ht t).1 ⟨j, oj, hj, hoj, hd⟩
      have hD' : ∀ j ∈ i :: D, j < pr.length := by
        intro j hj
        simp only [List.mem_cons] at hj
        rcases hj with rfl | hj
        · exact hi
        · exact hD j hj
      have hgood : ∀ d, o.dst = some d → d < e0.length → v = eF.getD d (.tup []) := by
        intro d hd hlt
        rw [hval d hd, hd]
        simp only [setD]
        rw [getD_set, if_pos ⟨rfl, by omega⟩]
      have hbig : iops.getD i badOp = o := by rw [List.getD_eq_getElem?_getD, ho]; rfl
      by_cases hsm : isSmall o.k = true
      · have hS : S1 = S := small_same hsm hx1
        subst hS
        obtain ⟨Sm, h1, h2, h3⟩ := items_visits hs its (i :: D) m _ _ ht' (by rw [setD_length]; exact hl) hc' hD' hok hx2
        refine ⟨Sm, h1, by simp only [bigsOf, hbig, hsm, if_true]; exact h2, fun j k hjk => ?_⟩
        simp only [visits, List.mem_cons, hbig, hsm, if_true] at hjk
        rcases hjk with hjk | hjk
        · cases hjk
          exact ⟨o, e, v, ho, hlook, by rw [h1, if_pos hsm]; exact hx1, hgood⟩
        · exact h3 j k hjk
      · obtain ⟨Sm, h1, h2, h3⟩ := items_visits hs its (i :: D) (m + 1) _ _ ht' (by rw [setD_length]; exact hl) hc' hD' hok hx2
        refine ⟨fun k => if k = m then S else Sm k, by simp, ?_, fun j k hjk => ?_⟩
        · simp only [bigsOf, hbig, hsm, Bool.false_eq_true, if_false, List.length_cons]
          rw [if_neg (by omega), ← h2]
          congr 1
          omega
        · simp only [visits, List.mem_cons, hbig, hsm, Bool.false_eq_true, if_false] at hjk
          rcases hjk with hjk | hjk
          · cases hjk
            exact ⟨o, e, v, ho, hlook, by simp [hsm, h1, hx1], hgood⟩
          · have hk := visits_ge its _ _ _ hjk
            obtain ⟨o', e', v', h4, h5, h6, h7⟩ := h3 j k hjk
            refine ⟨o', e', v', h4, h5, ?_, h7⟩
            have e1 : k ≠ m := by omega
            have e2 : k + 1 ≠ m := by omega
            simp only [e1, e2, if_false]
            exact h6
    · cases hx
  | .chk i :: its, D, m, e, S, ht, hl, hc, hD, hok, hx => by
    simp only [okRow, Bool.and_eq_true] at hok
    obtain ⟨⟨hio, hin⟩, hok⟩ := hok
    have hin : i ∈ D := List.contains_iff_mem.1 hin
    simp only [exItems] at hx
    split at hx
    · rename_i o ho
      rw [ho] at hio
      simp only [Bool.and_eq_true] at hio
      split at hx
      · rename_i d hd
        simp only [Option.bind_eq_some_iff] at hx
        obtain ⟨⟨v, S1⟩, hx1, hx2⟩ := hx
        split at hx2
        · rename_i hb
          obtain ⟨Sm, h1, h2, h3⟩ := items_visits hs its D m e S ht hl hc hD hok hx2
          refine ⟨Sm, h1, h2, fun j k hjk => ?_⟩
          simp only [visits, List.mem_cons] at hjk
          rcases hjk with hjk | hjk
          · cases hjk
            refine ⟨o, e, v, ho, looks_read hs ht hc hD ho hin hio.1, ?_, ?_⟩
            · rw [h1, if_pos (by simp [isSmall, hio.1])]
              exact (exOp_read hio.1 hx1).2 call
            · intro d' hd' _
              rw [hd] at hd'; cases hd'
              rw [show v = _ from AV.beq_eq hb]
              exact (ht d).1 ⟨i, o, hin, ho, hd⟩
          · exact h3 j k hjk
        · cases hx2
      · cases hx
    · cases hx
end
end Am
