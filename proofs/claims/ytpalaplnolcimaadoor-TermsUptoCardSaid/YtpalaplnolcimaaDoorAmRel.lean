/- What an abstract value, an abstract memory stand for in a world of the model; how the relation is kept when a world grows, when a cell is stored, when a block is let go. -/
import Derived.Test.YtpalaplnolcimaaDoorAmComp
import Derived.Below
import Derived.Laws.Sem
import Derived.Laws.Cells
namespace Am
open Go Go.RowKit

/-- An address, and how many cells from there on are known to lie in its block. -/
abbrev FM := List (Addr × Nat)

mutual
def VR (kf : FuncId → Nat) (fm : FM) : AV → Value → Prop
  | .any, _ => True
  | .bool b, v => v = .bool b
  | .int k n, v => v = .int k n
  | .str s, v => ∃ bs : ByteArray, v = .string bs ∧ bs.data.toList = s
  | .ptr b o, v => ∃ p, fm[b]? = some p ∧ v = .pointer (some (p.1.add o))
  | .nilp, v => v = .pointer none
  | .sl b o len cap g, v => ∃ p rc ra, fm[b]? = some p ∧ v = .slice (some ra) len rc ∧ len ≤ rc ∧ cap ≤ rc ∧ len ≤ cap ∧ (ra = p.1.add o ∨ rc = 0) ∧
      (g = none → rc = cap) ∧ (∀ es, g = some es → o + rc * es ≤ p.2)
  | .nils, v => v = .slice none 0 0
  | .agg cs, v => ∃ ws : Array Value, v = .agg ws ∧ (∀ c ∈ cs, c.sc = true) ∧ VRs kf fm cs ws.toList
  | .tup vs, v => ∃ ws : Array Value, v = .tuple ws ∧ VRs kf fm vs ws.toList
  | .fn k cs, v => ∃ f ws, v = .func (.func f) #[] ws ∧ kf f = k ∧ VRs kf fm cs ws.toList
  | .yld l, v => ∃ p, fm[l]? = some p ∧ v = .func (.yield p.1.block) #[] #[]
  | .nilf, v => v = .nilFunc
  | .mp b, v => ∃ p, fm[b]? = some p ∧ v = .map (some p.1.block)
  | .nilm, v => v = .map none
  | .nili, v => v = .nilIface
  | .opq, v => ∃ t u, v = .iface t u
def VRs (kf : FuncId → Nat) (fm : FM) : List AV → List Value → Prop
  | [], ws => ws = []
  | c :: cs, ws => ∃ u us, ws = u :: us ∧ VR kf fm c u ∧ VRs kf fm cs us
end

section
variable {kf : FuncId → Nat} {fm : FM}

theorem VRs.length : ∀ {cs : List AV} {ws : List Value}, VRs kf fm cs ws → ws.length = cs.length
  | [], ws, h => by simp [VRs] at h; simp [h]
  | c :: cs, ws, h => by
    simp only [VRs] at h
    obtain ⟨u, us, rfl, _, h⟩ := h
    simp [VRs.length h]

theorem VRs.get : ∀ {cs : List AV} {ws : List Value}, VRs kf fm cs ws → ∀ {i : Nat} {c : AV}, cs[i]? = some c → ∃ u, ws[i]? = some u ∧ VR kf fm c u
  | [], ws, _, i, c, hc => by simp at hc
  | x :: cs, ws, h, i, c, hc => by
    simp only [VRs] at h
    obtain ⟨u, us, rfl, h1, h2⟩ := h
    cases i with
    | zero => simp at hc; subst hc; exact ⟨u, rfl, h1⟩
    | succ i => simp at hc; obtain ⟨y, hy, hv⟩ := VRs.get h2 hc; exact ⟨y, by simpa using hy, hv⟩

theorem VRs.of_get : ∀ {cs : List AV} {ws : List Value}, ws.length = cs.length → (∀ (i : Nat) (c : AV), cs[i]? = some c → ∃ u, ws[i]? = some u ∧ VR kf fm c u) → VRs kf fm cs ws
  | [], ws, hl, _ => by simp [VRs]; simpa using hl
  | c :: cs, [], hl, _ => by simp at hl
  | c :: cs, w :: ws, hl, h => by
    simp only [VRs]
    refine ⟨w, ws, rfl, ?_, VRs.of_get (by simpa using hl) fun i c' hc => ?_⟩
    · obtain ⟨u, hu, hv⟩ := h 0 c (by simp); simp at hu; subst hu; exact hv
    · obtain ⟨u, hu, hv⟩ := h (i + 1) c' (by simpa using hc); exact ⟨u, by simpa using hu, hv⟩

theorem VRs.append {cs cs' : List AV} {ws ws' : List Value} (h : VRs kf fm cs ws) (h' : VRs kf fm cs' ws') : VRs kf fm (cs ++ cs') (ws ++ ws') := by
  induction cs generalizing ws with
  | nil => simp [VRs] at h; subst h; simpa using h'
  | cons c cs ih =>
    simp only [VRs] at h
    obtain ⟨u, us, rfl, h1, h2⟩ := h
    simp only [List.cons_append, VRs]
    exact ⟨u, us ++ ws', rfl, h1, ih h2⟩

theorem VRs.take {cs : List AV} {ws : List Value} (h : VRs kf fm cs ws) (n : Nat) : VRs kf fm (cs.take n) (ws.take n) := by
  have hl := h.length
  refine VRs.of_get (by simp [hl]) fun i c hc => ?_
  rw [List.getElem?_take] at hc ⊢
  split at hc
  · rename_i hi; rw [if_pos hi]; exact h.get hc
  · cases hc

theorem VRs.drop {cs : List AV} {ws : List Value} (h : VRs kf fm cs ws) (n : Nat) : VRs kf fm (cs.drop n) (ws.drop n) := by
  have hl := h.length
  refine VRs.of_get (by simp [hl]) fun i c hc => ?_
  rw [List.getElem?_drop] at hc ⊢
  exact h.get hc

theorem VRs.set {cs : List AV} {ws : List Value} (h : VRs kf fm cs ws) (n : Nat) {c : AV} {u : Value} (hv : VR kf fm c u) : VRs kf fm (cs.set n c) (ws.set n u) := by
  have hl := h.length
  refine VRs.of_get (by simp [hl]) fun i c' hc => ?_
  rw [List.getElem?_set] at hc ⊢
  split at hc
  · rename_i hi
    subst hi
    split at hc
    · rename_i hn
      simp at hc; subst hc
      rw [if_pos rfl, if_pos (by omega)]; exact ⟨u, rfl, hv⟩
    · cases hc
  · rename_i hi
    rw [if_neg hi]
    exact h.get hc

mutual
theorem VR.mono {ext : FM} : ∀ {c : AV} {v : Value}, VR kf fm c v → VR kf (fm ++ ext) c v
  | .any, _, _ => by simp [VR]
  | .bool _, _, h => by simpa [VR] using h
  | .int _ _, _, h => by simpa [VR] using h
  | .str _, _, h => by simpa [VR] using h
  | .ptr b o, v, h => by
    simp only [VR] at h ⊢
    obtain ⟨p, hp, hv⟩ := h
    exact ⟨p, by rw [List.getElem?_append_left (List.getElem?_eq_some_iff.1 hp).1]; exact hp, hv⟩
  | .nilp, _, h => by simpa [VR] using h
  | .sl b o len cap g, v, h => by
    simp only [VR] at h ⊢
    obtain ⟨p, rc, ra, hp, hv⟩ := h
    exact ⟨p, rc, ra, by rw [List.getElem?_append_left (List.getElem?_eq_some_iff.1 hp).1]; exact hp, hv⟩
  | .nils, _, h => by simpa [VR] using h
  | .agg cs, v, h => by
    simp only [VR] at h ⊢
    obtain ⟨ws, hv, hs, hw⟩ := h
    exact ⟨ws, hv, hs, VRs.mono hw⟩
  | .tup cs, v, h => by
    simp only [VR] at h ⊢
    obtain ⟨ws, hv, hw⟩ := h
    exact ⟨ws, hv, VRs.mono hw⟩
  | .fn k cs, v, h => by
    simp only [VR] at h ⊢
    obtain ⟨f, ws, hv, hk, hw⟩ := h
    exact ⟨f, ws, hv, hk, VRs.mono hw⟩
  | .yld l, v, h => by
    simp only [VR] at h ⊢
    obtain ⟨p, hp, hv⟩ := h
    exact ⟨p, by rw [List.getElem?_append_left (List.getElem?_eq_some_iff.1 hp).1]; exact hp, hv⟩
  | .nilf, _, h => by simpa [VR] using h
  | .mp b, v, h => by
    simp only [VR] at h ⊢
    obtain ⟨p, hp, hv⟩ := h
    exact ⟨p, by rw [List.getElem?_append_left (List.getElem?_eq_some_iff.1 hp).1]; exact hp, hv⟩
  | .nilm, _, h => by simpa [VR] using h
  | .nili, _, h => by simpa [VR] using h
  | .opq, _, h => by simpa [VR] using h
theorem VRs.mono {ext : FM} : ∀ {cs : List AV} {ws : List Value}, VRs kf fm cs ws → VRs kf (fm ++ ext) cs ws
  | [], _, h => by simpa [VRs] using h
  | c :: cs, ws, h => by
    simp only [VRs] at h ⊢
    obtain ⟨u, us, rfl, h1, h2⟩ := h
    exact ⟨u, us, rfl, VR.mono h1, VRs.mono h2⟩
end
end

/-! ### Addresses -/

theorem add_add (a : Addr) (m n : Nat) : (a.add m).add n = a.add (m + n) := by
  unfold Addr.add
  by_cases hm : m = 0
  · subst hm; simp
  · by_cases hn : n = 0
    · subst hn; simp [hm]
    · rw [if_neg hm, if_neg hn, if_neg (by omega)]; simp [Nat.add_assoc]

theorem add_zero (a : Addr) : a.add 0 = a := by simp [Addr.add]

theorem add_plain {a : Addr} (h : a.spot = none) (n : Nat) : a.add n = ⟨a.block, a.off + n, none⟩ := by
  unfold Addr.add
  split
  · rename_i hn; subst hn; cases a; simp at h; subst h; rfl
  · rfl

theorem add_block (a : Addr) (n : Nat) : (a.add n).block = a.block := by unfold Addr.add; split <;> rfl

/-! ### Memory -/

/-- A world, which of its blocks are not to be touched, which ones may be read. -/
structure Base where
  w : World
  K : Nat → Prop
  O : Nat → Prop
  wf : ∀ k, K k → k < w.heap.size
  sub : ∀ k, O k → K k

/-- What lies between two worlds, as far as a base asks. -/
structure Turned (B : Base) (w w' : World) : Prop where
  os : w'.os = w.os
  tape : w'.tape = w.tape
  output : w'.output = w.output
  size : w.heap.size ≤ w'.heap.size
  block : ∀ k, B.K k → w'.heap[k]? = w.heap[k]?

theorem Turned.trans {B : Base} {w w' w'' : World} (h : Turned B w w') (h' : Turned B w' w'') : Turned B w w'' :=
  ⟨h'.os.trans h.os, h'.tape.trans h.tape, h'.output.trans h.output, Nat.le_trans h.size h'.size, fun k hk => (h'.block k hk).trans (h.block k hk)⟩

/-- What a block of memory must be like. -/
structure RowAt (kf kt : Nat → Nat) (fm : FM) (w : World) (tag : Nat) (cs : List AV) (p : Addr × Nat) : Prop where
  spot : p.1.spot = none
  row : ∃ (c : Array Value) (elem : TypeId) (fr : Nat × Nat), w.heap[p.1.block]? = some (.cells c elem fr) ∧ kt elem = tag ∧ p.1.off + p.2 ≤ c.size ∧
    (∀ i, i < c.size → ¬ (fr.1 ≤ i ∧ i < fr.2)) ∧
    (∀ i u, cs[i]? = some u → u.sc = true ∧ ∃ v, c[p.1.off + i]? = some v ∧ VR kf fm u v)
  fits : cs.length ≤ p.2

def BR (kf kt : Nat → Nat) (w0 : Base) (fm : FM) (w : World) : Blk → Addr × Nat → Prop
  | .dead, _ => True
  | .own tag cs, p => RowAt kf kt fm w tag cs p
  | .ro cs, p => w0.O p.1.block ∧ ∀ i u, cs[i]? = some u → u.sc = true ∧ ∃ v, w.cell? (p.1.add i) = some v ∧ VR kf fm u v
  | .map _ _, _ => False
  | .iter _ _, _ => False
  | .dfr, _ => False
  | .loop .., _ => False

/-- Does a block have a real one for itself? -/
def Blk.excl : Blk → Bool
  | .dead => false
  | .ro _ => false
  | _ => true

structure R (kf kt : Nat → Nat) (w0 : Base) (fm : FM) (S : St) (w : World) : Prop where
  len : fm.length = S.length
  below : Turned w0 w0.w w
  blk : ∀ (b : Nat) (k : Blk) (p : Addr × Nat), S[b]? = some k → fm[b]? = some p → BR kf kt w0 fm w k p
  low : ∀ (b : Nat) (k : Blk) (p : Addr × Nat), S[b]? = some k → fm[b]? = some p → k.excl = true → ¬ w0.K p.1.block ∧ p.1.block < w.heap.size
  sep : ∀ (b b' : Nat) (k k' : Blk) (p p' : Addr × Nat), S[b]? = some k → S[b']? = some k' → fm[b]? = some p → fm[b']? = some p' → k.excl = true → k'.excl = true → b ≠ b' → p.1.block ≠ p'.1.block

section
variable {kf kt : Nat → Nat} {w0 : Base} {fm : FM} {S : St} {w : World}

theorem R.get (h : R kf kt w0 fm S w) {b : Nat} {k : Blk} (hb : S[b]? = some k) : ∃ p, fm[b]? = some p ∧ BR kf kt w0 fm w k p := by
  have hlt := (List.getElem?_eq_some_iff.1 hb).1
  have hl : b < fm.length := by rw [h.len]; exact hlt
  exact ⟨fm[b], List.getElem?_eq_getElem hl, h.blk b k _ hb (List.getElem?_eq_getElem hl)⟩

/-- A cell that the abstract memory tells. -/
theorem R.load1 (h : R kf kt w0 fm S w) {b o : Nat} {u : AV} {p : Addr × Nat} (hl : S.load1 b o = some u) (hp : fm[b]? = some p) :
    u.sc = true ∧ ∃ v, w.cell? (p.1.add o) = some v ∧ VR kf fm u v := by
  unfold St.load1 at hl
  split at hl
  · rename_i k hb
    obtain ⟨p', hp', hk⟩ := h.get hb
    rw [hp] at hp'; cases hp'
    cases k with
    | own tag cs =>
      simp only [Blk.cells] at hl
      have hk : RowAt kf kt fm w tag cs p := hk
      obtain ⟨c, elem, fr, hw, _, hsz, _, hc⟩ := hk.row
      obtain ⟨hsc, v, hv, hr⟩ := hc o u hl
      refine ⟨hsc, v, ?_, hr⟩
      rw [add_plain hk.spot]
      simp [World.cell?, hw, hv]
    | ro cs =>
      simp only [Blk.cells] at hl
      exact hk.2 o u hl
    | _ => simp [Blk.cells] at hl
  · cases hl

theorem loadN_spec {b o n : Nat} {us : List AV} (hl : S.loadN b o n = some us) :
    us.length = n ∧ ∀ i u, us[i]? = some u → S.load1 b (o + i) = some u := by
  unfold St.loadN at hl
  split at hl
  · rename_i k hb
    split at hl
    · rename_i cs hcs
      split at hl
      · rename_i hle
        simp at hl
        subst hl
        refine ⟨by simp; omega, fun i u hu => ?_⟩
        simp only [St.load1, hb, hcs]
        rw [List.getElem?_take] at hu
        split at hu
        · rwa [List.getElem?_drop] at hu
        · cases hu
      · cases hl
    · cases hl
  · cases hl

/-- Cells that the abstract memory tells, as the model loads them. -/
theorem R.loadN (h : R kf kt w0 fm S w) {P : Program} {b o n : Nat} {us : List AV} {p : Addr × Nat} (hl : S.loadN b o n = some us) (hp : fm[b]? = some p) :
    ∃ vs : List Value, (loadCells (p.1.add o) n).run P w = .ok vs.toArray w ∧ VRs kf fm us vs ∧ (∀ u ∈ us, u.sc = true) := by
  obtain ⟨hlen, hget⟩ := loadN_spec hl
  have hex : ∀ i : Nat, ∃ v, ∀ u, us[i]? = some u → w.cell? ((p.1.add o).add i) = some v ∧ VR kf fm u v := by
    intro i
    cases hu : us[i]? with
    | none => exact ⟨undef, fun u hu' => by cases hu'⟩
    | some u =>
      obtain ⟨_, v, hv, hr⟩ := h.load1 (hget i u hu) hp
      exact ⟨v, fun u' hu' => by cases hu'; rw [add_add]; exact ⟨hv, hr⟩⟩
  refine ⟨(List.range n).map fun i => (hex i).choose, ?_, ?_, ?_⟩
  · refine run_loadCells w _ n (fun i => (hex i).choose) fun j hj => ?_
    have hj' : us[j]? = some (us[j]'(by omega)) := List.getElem?_eq_getElem (by omega)
    exact ((hex j).choose_spec _ hj').1
  · refine VRs.of_get (by simp [hlen]) fun i c hc => ?_
    have hi : i < n := by rw [← hlen]; exact (List.getElem?_eq_some_iff.1 hc).1
    refine ⟨(hex i).choose, by simp [hi], ((hex i).choose_spec _ hc).2⟩
  · intro u hu
    obtain ⟨i, hi⟩ := List.getElem?_of_mem hu
    exact (h.load1 (hget i u hi) hp).1

/-- Memory is all that counts. -/
theorem BR.heap {w' : World} (hh : w'.heap = w.heap) {k : Blk} {p : Addr × Nat} (h : BR kf kt w0 fm w k p) : BR kf kt w0 fm w' k p := by
  cases k with
  | own tag cs => obtain ⟨h1, h2, h3⟩ := h; exact ⟨h1, by rw [hh]; exact h2, h3⟩
  | ro cs =>
    refine ⟨h.1, fun i u hu => ?_⟩
    obtain ⟨hs, v, hv, hr⟩ := h.2 i u hu
    exact ⟨hs, v, by simpa [World.cell?, hh] using hv, hr⟩
  | _ => exact h

theorem R.heap {w' : World} (h : R kf kt w0 fm S w) (hh : w'.heap = w.heap) (ho : w'.os = w.os) (ht : w'.tape = w.tape) (hu : w'.output = w.output) : R kf kt w0 fm S w' where
  len := h.len
  below := ⟨ho.trans h.below.os, ht.trans h.below.tape, hu.trans h.below.output, by rw [hh]; exact h.below.size, fun k hk => by rw [hh]; exact h.below.block k hk⟩
  blk := fun b k p hb hp => (h.blk b k p hb hp).heap hh
  low := fun b k p hb hp he => by rw [hh]; exact h.low b k p hb hp he
  sep := h.sep

theorem R.drawn (h : R kf kt w0 fm S w) (n : Nat) : R kf kt w0 fm S { w with drawn := n } := h.heap rfl rfl rfl rfl

/-- A block's relation is kept where its own real block is kept. -/
theorem BR.kept {w' : World} {ext : FM} {k : Blk} {p : Addr × Nat} (hk : w'.heap[p.1.block]? = w.heap[p.1.block]?) (h : BR kf kt w0 fm w k p) : BR kf kt w0 (fm ++ ext) w' k p := by
  cases k with
  | own tag cs =>
    obtain ⟨h1, ⟨c, elem, fr, hw, ht, hs, hf, hc⟩, h3⟩ := h
    exact ⟨h1, ⟨c, elem, fr, hk.trans hw, ht, hs, hf, fun i u hu => ⟨(hc i u hu).1, let ⟨v, hv, hr⟩ := (hc i u hu).2; ⟨v, hv, hr.mono⟩⟩⟩, h3⟩
  | ro cs =>
    refine ⟨h.1, fun i u hu => ?_⟩
    obtain ⟨hs, v, hv, hr⟩ := h.2 i u hu
    refine ⟨hs, v, ?_, hr.mono⟩
    rw [World.cell?_of_block (w := w) (by rw [add_block]; exact hk)]
    exact hv
  | _ => exact h

/-- The world grows by what is nobody's. -/
theorem R.grown {w' : World} (h : R kf kt w0 fm S w) (hb : Below w.heap.size w w') : R kf kt w0 fm S w' where
  len := h.len
  below := h.below.trans ⟨hb.os, hb.tape, hb.output, hb.size, fun k hk => hb.block k (Nat.lt_of_lt_of_le (w0.wf k hk) h.below.size)⟩
  blk := fun b k p hs hp => by
    have hk := h.blk b k p hs hp
    have : ∀ (r : Nat), p.1.block = r → r < w.heap.size → BR kf kt w0 fm w' k p := fun r hr hlt => by
      have := BR.kept (ext := []) (w' := w') (hb.block p.1.block (by omega)) hk
      simpa using this
    cases k with
    | dead => trivial
    | ro cs => exact this _ rfl (Nat.lt_of_lt_of_le (w0.wf _ (w0.sub _ hk.1)) h.below.size)
    | _ => exact this _ rfl (h.low b _ p hs hp rfl).2
  low := fun b k p hs hp he => let ⟨h1, h2⟩ := h.low b k p hs hp he; ⟨h1, Nat.lt_of_lt_of_le h2 hb.size⟩
  sep := h.sep

theorem getElem?_snoc {α : Type} (l : List α) (x : α) (i : Nat) : (l ++ [x])[i]? = if i < l.length then l[i]? else if i = l.length then some x else none := by
  rw [List.getElem?_append]
  split
  · rfl
  · rename_i h
    split
    · rename_i h'; subst h'; simp
    · rename_i h'; rw [List.getElem?_eq_none]; simp; omega

/-- A block more: a row of the world's own. -/
theorem R.push (h : R kf kt w0 fm S w) {c : Array Value} {elem : TypeId} {fr : Nat × Nat} {tag : Nat} {cs : List AV} {lim : Nat} (ht : kt elem = tag)
    (hf : ∀ i, i < c.size → ¬ (fr.1 ≤ i ∧ i < fr.2)) (hl : lim ≤ c.size) (hc : cs.length ≤ lim)
    (hv : ∀ (i : Nat) (u : AV), cs[i]? = some u → u.sc = true ∧ ∃ v, c[i]? = some v ∧ VR kf fm u v) :
    R kf kt w0 (fm ++ [(⟨w.heap.size, 0, none⟩, lim)]) (S ++ [.own tag cs]) { w with heap := w.heap.push (.cells c elem fr) } := by
  have hold : ∀ r, r < w.heap.size → (w.heap.push (.cells c elem fr))[r]? = w.heap[r]? := fun r hr => by rw [Array.getElem?_push, if_neg (by omega)]
  have hsz := h.below.size
  have split : ∀ {b : Nat} {k : Blk} {p : Addr × Nat}, (S ++ [Blk.own tag cs])[b]? = some k → (fm ++ [((⟨w.heap.size, 0, none⟩ : Addr), lim)])[b]? = some p →
      (S[b]? = some k ∧ fm[b]? = some p) ∨ (b = S.length ∧ k = .own tag cs ∧ p = (⟨w.heap.size, 0, none⟩, lim)) := by
    intro b k p hb hp
    rw [getElem?_snoc] at hb hp
    rw [h.len] at hp
    by_cases hlt : b < S.length
    · rw [if_pos hlt] at hb hp; exact .inl ⟨hb, hp⟩
    · rw [if_neg hlt] at hb hp
      split at hb
      · rename_i he; rw [if_pos he] at hp; cases hb; cases hp; exact .inr ⟨he, rfl, rfl⟩
      · cases hb
  refine ⟨by simp [h.len], ?_, ?_, ?_, ?_⟩
  · exact h.below.trans ⟨rfl, rfl, rfl, by simp, fun k hk => hold k (by have := w0.wf k hk; omega)⟩
  · intro b k p hb hp
    rcases split hb hp with ⟨hb, hp⟩ | ⟨rfl, rfl, rfl⟩
    · have hk := h.blk b k p hb hp
      cases k with
      | dead => trivial
      | ro cs' => exact BR.kept (hold _ (Nat.lt_of_lt_of_le (w0.wf _ (w0.sub _ hk.1)) hsz)) hk
      | _ => exact BR.kept (hold _ (h.low b _ p hb hp rfl).2) hk
    · refine ⟨rfl, ⟨c, elem, fr, by simp, ht, by simpa using hl, hf, fun i u hu => ?_⟩, hc⟩
      obtain ⟨hs, v, hv, hr⟩ := hv i u hu
      exact ⟨hs, v, by simpa using hv, hr.mono⟩
  · intro b k p hb hp he
    rcases split hb hp with ⟨hb, hp⟩ | ⟨rfl, rfl, rfl⟩
    · have := h.low b k p hb hp he; exact ⟨this.1, by simp; omega⟩
    · exact ⟨fun hk => by have := w0.wf _ hk; simp at this; omega, by simp⟩
  · intro b b' k k' p p' hb hb' hp hp' he he' hne
    rcases split hb hp with ⟨hb, hp⟩ | ⟨rfl, rfl, rfl⟩ <;> rcases split hb' hp' with ⟨hb', hp'⟩ | ⟨rfl, rfl, rfl⟩
    · exact h.sep b b' k k' p p' hb hb' hp hp' he he' hne
    · have := (h.low b k p hb hp he).2; simp; omega
    · have := (h.low b' k' p' hb' hp' he').2; simp; omega
    · exact absurd rfl hne

/-- A block is let go. -/
theorem R.kill (h : R kf kt w0 fm S w) (b : Nat) : R kf kt w0 fm (S.set b .dead) w := by
  have split : ∀ {i : Nat} {k : Blk}, (S.set b .dead)[i]? = some k → (i ≠ b ∧ S[i]? = some k) ∨ (i = b ∧ k = .dead) := by
    intro i k hi
    rw [List.getElem?_set] at hi
    split at hi
    · rename_i he; split at hi
      · cases hi; exact .inr ⟨he.symm, rfl⟩
      · cases hi
    · rename_i he; exact .inl ⟨fun e => he e.symm, hi⟩
  refine ⟨by simp [h.len], h.below, ?_, ?_, ?_⟩
  · intro i k p hb hp
    rcases split hb with ⟨_, hb⟩ | ⟨rfl, rfl⟩
    · exact h.blk i k p hb hp
    · trivial
  · intro i k p hb hp he
    rcases split hb with ⟨_, hb⟩ | ⟨rfl, rfl⟩
    · exact h.low i k p hb hp he
    · cases he
  · intro i i' k k' p p' hb hb' hp hp' he he' hne
    rcases split hb with ⟨_, hb⟩ | ⟨rfl, rfl⟩ <;> rcases split hb' with ⟨_, hb'⟩ | ⟨rfl, rfl⟩
    · exact h.sep i i' k k' p p' hb hb' hp hp' he he' hne
    · cases he'
    · cases he
    · cases he

/-- One block's content is turned, in its own real block alone. -/
theorem R.turn (h : R kf kt w0 fm S w) {b : Nat} {k0 k1 : Blk} {p : Addr × Nat} {w' : World} (hb : S[b]? = some k0) (hp : fm[b]? = some p) (he0 : k0.excl = true)
    (hw : ∀ r, r ≠ p.1.block → w'.heap[r]? = w.heap[r]?) (hsz : w'.heap.size = w.heap.size) (ho : w'.os = w.os) (ht : w'.tape = w.tape) (hu : w'.output = w.output)
    (hnew : BR kf kt w0 fm w' k1 p) : R kf kt w0 fm (S.set b k1) w' := by
  have split : ∀ {i : Nat} {k : Blk}, (S.set b k1)[i]? = some k → (i ≠ b ∧ S[i]? = some k) ∨ (i = b ∧ k = k1) := by
    intro i k hi
    rw [List.getElem?_set] at hi
    split at hi
    · rename_i he; split at hi
      · cases hi; exact .inr ⟨he.symm, rfl⟩
      · cases hi
    · rename_i he; exact .inl ⟨fun e => he e.symm, hi⟩
  have hlow := h.low b k0 p hb hp he0
  refine ⟨by simp [h.len], ?_, ?_, ?_, ?_⟩
  · exact h.below.trans ⟨ho, ht, hu, by omega, fun k hk => hw k fun e => hlow.1 (e ▸ hk)⟩
  · intro i k q hi hq
    rcases split hi with ⟨hne, hi⟩ | ⟨rfl, rfl⟩
    · have hk := h.blk i k q hi hq
      cases k with
      | dead => trivial
      | ro cs =>
        have := BR.kept (ext := []) (w' := w') (hw q.1.block fun e => hlow.1 (e ▸ w0.sub _ hk.1)) hk
        simpa using this
      | own tag cs =>
        have := BR.kept (ext := []) (w' := w') (hw q.1.block (h.sep i b _ k0 q p hi hb hq hp rfl he0 hne)) hk
        simpa using this
      | _ => exact hk
    · rw [hp] at hq; cases hq; exact hnew
  · intro i k q hi hq he
    rcases split hi with ⟨_, hi⟩ | ⟨rfl, rfl⟩
    · rw [hsz]; exact h.low i k q hi hq he
    · rw [hp] at hq; cases hq; rw [hsz]; exact hlow
  · intro i i' k k' q q' hi hi' hq hq' he he' hne
    rcases split hi with ⟨_, hi1⟩ | ⟨rfl, rfl⟩ <;> rcases split hi' with ⟨_, hi2⟩ | ⟨rfl, rfl⟩
    · exact h.sep i i' k k' q q' hi1 hi2 hq hq' he he' hne
    · rw [hp] at hq'; cases hq'; exact h.sep i i' k k0 q p hi1 hb hq hp he he0 hne
    · rw [hp] at hq; cases hq; exact h.sep i i' k0 k' p q' hb hi2 hp hq' he0 he' hne
    · exact absurd rfl hne
end
end Am
