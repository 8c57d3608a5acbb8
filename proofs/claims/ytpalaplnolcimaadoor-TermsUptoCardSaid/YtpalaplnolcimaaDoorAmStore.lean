/- A store of several cells, in the model and here. -/
import Derived.Test.YtpalaplnolcimaaDoorAmRel
namespace Am
open Go Go.RowKit

def putV (cs : List Value) (o : Nat) : List Value → List Value
  | [] => cs
  | v :: vs => putV (cs.set o v) (o + 1) vs

theorem putV_length : ∀ (vs : List Value) (cs : List Value) (o : Nat), (putV cs o vs).length = cs.length
  | [], _, _ => rfl
  | v :: vs, cs, o => by simp [putV, putV_length vs]

theorem putAt_length : ∀ (vs : List AV) (cs : List AV) (o : Nat), (putAt cs o vs).length = cs.length
  | [], _, _ => rfl
  | v :: vs, cs, o => by simp [putAt, putAt_length vs]

theorem run_storeCells (P : Program) (a : Addr) (ha : a.spot = none) (elem : TypeId) (fr : Nat × Nat) :
    ∀ (vs : List Value) (i : Nat) (w : World) (c : Array Value), w.heap[a.block]? = some (.cells c elem fr) → (vs ≠ [] → a.off + i + vs.length ≤ c.size) →
      (∀ i, i < c.size → ¬ (fr.1 ≤ i ∧ i < fr.2)) → (∀ v ∈ vs, v.oneCell' = true) →
      ∃ w', (storeCells a vs i).run P w = .ok () w' ∧ w'.heap.size = w.heap.size ∧ w'.os = w.os ∧ w'.tape = w.tape ∧ w'.output = w.output ∧
        (∀ r, r ≠ a.block → w'.heap[r]? = w.heap[r]?) ∧ w'.heap[a.block]? = some (.cells (putV c.toList (a.off + i) vs).toArray elem fr)
  | [], i, w, c, hg, _, _, _ => ⟨w, rfl, rfl, rfl, rfl, rfl, fun _ _ => rfl, by simpa [putV] using hg⟩
  | v :: rest, i, w, c, hg, hl, hf, h1 => by
    have hl' := hl (by simp)
    simp only [List.length_cons] at hl'
    have hi : a.off + i < c.size := by omega
    have hadd : a.add i = ⟨a.block, a.off + i, none⟩ := add_plain ha i
    have hcell : w.cell? ⟨a.block, a.off + i, none⟩ = some c[a.off + i] := by simp [World.cell?, hg, hi]
    have hfro : w.frozen? ⟨a.block, a.off + i, none⟩ = false := by
      have := hf (a.off + i) hi
      simp only [World.frozen?, hg]
      simp only [Bool.and_eq_false_iff, decide_eq_false_iff_not]
      by_cases hh : fr.1 ≤ a.off + i
      · exact .inr fun h => this ⟨hh, h⟩
      · exact .inl hh
    have hst : (store (a.add i) v).run P w = .ok () (w.setCell ⟨a.block, a.off + i, none⟩ v) := by
      rw [hadd, run_store P w _ v _ (h1 v (by simp)), hcell]
      simp [hfro]
    have hg1 : (w.setCell ⟨a.block, a.off + i, none⟩ v).heap[a.block]? = some (.cells (c.setIfInBounds (a.off + i) v) elem fr) := by
      simp [World.setCell, Array.getElem?_modify, hg]
    obtain ⟨w', hr, h2, h3, h4, h5, h6, h7⟩ := run_storeCells P a ha elem fr rest (i + 1) (w.setCell ⟨a.block, a.off + i, none⟩ v) _ hg1
      (fun _ => by simp; omega) (by simpa using hf) (fun x hx => h1 x (by simp [hx]))
    refine ⟨w', ?_, ?_, h3, h4, h5, fun r hr' => ?_, ?_⟩
    · simp only [storeCells, Sem.run_bind, hst, Result.andThen_ok, hr]
    · rw [h2]; simp [World.setCell]
    · rw [h6 r hr']; exact Below.heap_setCell w ⟨a.block, a.off + i, none⟩ v r hr'
    · rw [h7]; simp [putV, Nat.add_assoc]

section
variable {kf kt : Nat → Nat} {w0 : Base} {fm : FM} {S : St} {w : World}

theorem VR.oneCell {u : AV} {v : Value} (h : VR kf fm u v) (hs : u.sc = true) : v.oneCell' = true := by
  cases u <;> simp [AV.sc] at hs <;> simp only [VR] at h
  case bool => subst h; rfl
  case int => subst h; rfl
  case str => obtain ⟨bs, rfl, _⟩ := h; rfl
  case ptr => obtain ⟨p, _, rfl⟩ := h; rfl
  case nilp => subst h; rfl
  case sl => obtain ⟨p, rc, ra, _, rfl, _⟩ := h; rfl
  case nils => subst h; rfl
  case fn => obtain ⟨f, ws, rfl, _⟩ := h; rfl
  case yld => obtain ⟨p, _, rfl⟩ := h; rfl
  case nilf => subst h; rfl
  case mp => obtain ⟨p, _, rfl⟩ := h; rfl
  case nilm => subst h; rfl
  case nili => subst h; rfl
  case opq => obtain ⟨t, u, rfl⟩ := h; rfl

theorem put_rel : ∀ (us : List AV) (vs : List Value) (cs : List AV) (c : List Value) (off o : Nat), VRs kf fm us vs → (∀ u ∈ us, u.sc = true) → off + o + us.length ≤ c.length →
    (∀ (i : Nat) (u : AV), cs[i]? = some u → u.sc = true ∧ ∃ v, c[off + i]? = some v ∧ VR kf fm u v) →
    ∀ (i : Nat) (u : AV), (putAt cs o us)[i]? = some u → u.sc = true ∧ ∃ v, (putV c (off + o) vs)[off + i]? = some v ∧ VR kf fm u v
  | [], vs, cs, c, off, o, hv, _, _, hc => by
    simp [VRs] at hv; subst hv
    exact hc
  | u :: us, vs, cs, c, off, o, hv, hs, hl, hc => by
    simp only [VRs] at hv
    obtain ⟨v, vs', rfl, h1, h2⟩ := hv
    simp only [putAt, putV]
    simp only [List.length_cons] at hl
    refine put_rel us vs' (cs.set o u) (c.set (off + o) v) off (o + 1) h2 (fun x hx => hs x (by simp [hx])) (by simp; omega) fun i x hx => ?_
    rw [List.getElem?_set] at hx
    split at hx
    · rename_i he
      subst he
      split at hx
      · cases hx
        exact ⟨hs _ (by simp), v, by rw [List.getElem?_set]; rw [if_pos rfl, if_pos (by omega)], h1⟩
      · cases hx
    · rename_i he
      obtain ⟨h3, y, hy, h4⟩ := hc i x hx
      exact ⟨h3, y, by rw [List.getElem?_set, if_neg (by omega)]; exact hy, h4⟩

/-- A store, here and in the model. -/
theorem R.store (h : R kf kt w0 fm S w) {P : Program} {b o : Nat} {us : List AV} {vs : List Value} {S' : St} {p : Addr × Nat} (hst : S.storeN b o us = some S') (hp : fm[b]? = some p)
    (hv : VRs kf fm us vs) (hs : ∀ u ∈ us, u.sc = true) : ∃ w', (storeCells (p.1.add o) vs).run P w = .ok () w' ∧ R kf kt w0 fm S' w' := by
  unfold St.storeN at hst
  split at hst
  · rename_i tag cs hb
    split at hst
    · rename_i hle
      cases hst
      obtain ⟨p', hp', hk⟩ := h.get hb
      rw [hp] at hp'; cases hp'
      have hk : RowAt kf kt fm w tag cs p := hk
      obtain ⟨c, elem, fr, hw, ht, hsz, hf, hc⟩ := hk.row
      have hfit := hk.fits
      have hlen := hv.length
      have hone : ∀ v ∈ vs, v.oneCell' = true := fun v hvm => by
        obtain ⟨i, hi⟩ := List.getElem?_of_mem hvm
        have hi' : i < us.length := by rw [← hlen]; exact (List.getElem?_eq_some_iff.1 hi).1
        obtain ⟨v', hv', hr⟩ := hv.get (List.getElem?_eq_getElem hi')
        rw [hi] at hv'; cases hv'
        exact hr.oneCell (hs _ (List.getElem_mem hi'))
      have hsp : (p.1.add o).spot = none := by rw [add_plain hk.spot]
      have hoff : (p.1.add o).off = p.1.off + o := by rw [add_plain hk.spot]
      have hblk := add_block p.1 o
      obtain ⟨w', hr, h1, h2, h3, h4, h5, h6⟩ := run_storeCells P (p.1.add o) hsp elem fr vs 0 w c (by rw [hblk]; exact hw) (fun _ => by rw [hoff]; omega) hf hone
      rw [hblk] at h5 h6
      refine ⟨w', hr, h.turn hb hp rfl h5 h1 h2 h3 h4 ?_⟩
      refine ⟨hk.spot, ⟨_, elem, fr, h6, ht, ?_, ?_, fun i u hu => ?_⟩, ?_⟩
      · simp [putV_length]; omega
      · simpa [putV_length] using hf
      · have := put_rel us vs cs c.toList p.1.off o hv hs (by simp; omega) (fun i u hu => by
          obtain ⟨h1, v, h2, h3⟩ := hc i u hu; exact ⟨h1, v, by simpa using h2, h3⟩) i u hu
        obtain ⟨h1, v, h2, h3⟩ := this
        exact ⟨h1, v, by simpa [hoff] using h2, h3⟩
      · rw [putAt_length]; exact hfit
    · cases hst
  · cases hst
end
end Am
