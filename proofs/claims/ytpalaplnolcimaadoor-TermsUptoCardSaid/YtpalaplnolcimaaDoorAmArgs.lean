/- What a row's argument reads as, in the abstract machine's words: blocks that are read only. -/
import Derived.Test.YtpalaplnolcimaaDoorAmShelf2
namespace Am
open Go Go.RowKit

/-- The shape of a readable value. -/
inductive Ty where
  | int (k : IntKind)
  | str
  | bool
  | sl (e : Ty)
  | st (fs : List Ty)

/-- What it reads as: of a slice, its elements, and what lies behind them. -/
inductive Dat where
  | int (n : Int)
  | str (s : List UInt8)
  | bool (b : Bool)
  | sl (no : Bool) (es sp : List Dat)
  | st (ds : List Dat)

mutual
def Ty.size : Ty → Nat
  | .st fs => Ty.sizes fs
  | _ => 1
def Ty.sizes : List Ty → Nat
  | [] => 0
  | t :: ts => t.size + Ty.sizes ts
end

mutual
/-- These cells hold this. -/
def Rep (S : St) : Ty → List AV → Dat → Prop
  | .int k, us, d => ∃ n, us = [.int k n] ∧ d = .int n ∧ (Lit.int k n).wf = true
  | .str, us, d => ∃ s, us = [.str s] ∧ d = .str s ∧ s.length ≤ maxLen
  | .bool, us, d => ∃ b, us = [.bool b] ∧ d = .bool b
  | .sl e, us, d => (us = [.nils] ∧ d = .sl true [] []) ∨ ∃ b cs es sp, us = [.sl b 0 es.length (es.length + sp.length) none] ∧ d = .sl false es sp ∧ S[b]? = some (.ro cs) ∧
      cs.length = (es.length + sp.length) * e.size ∧ es.length + sp.length ≤ maxLen ∧ ∀ i x, (es ++ sp)[i]? = some x → Rep S e ((cs.drop (i * e.size)).take e.size) x
  | .st fs, us, d => ∃ ds, d = .st ds ∧ Reps S fs us ds
def Reps (S : St) : List Ty → List AV → List Dat → Prop
  | [], us, ds => us = [] ∧ ds = []
  | f :: fs, us, ds => ∃ d ds', ds = d :: ds' ∧ Rep S f (us.take f.size) d ∧ Reps S fs (us.drop f.size) ds'
end

mutual
/-- The datum that the row speaks of. -/
def toW {H : Type} : Ty → Dat → DataW H
  | .int k, .int n => .lit (.int k n)
  | .str, .str s => .lit (.string s)
  | .bool, .bool b => .lit (.bool b)
  | .sl e, .sl no es sp => if no then .nil else .slice (toWs e es) (toWs e sp)
  | .st fs, .st ds => .agg (toWz fs ds)
  | _, _ => .nil
def toWs {H : Type} : Ty → List Dat → List (DataW H)
  | _, [] => []
  | e, d :: ds => toW e d :: toWs e ds
def toWz {H : Type} : List Ty → List Dat → List (DataW H)
  | f :: fs, d :: ds => toW f d :: toWz fs ds
  | _, _ => []
end
theorem toWs_map {H : Type} (e : Ty) (ds : List Dat) : toWs (H := H) e ds = ds.map (toW e) := by
  induction ds with
  | nil => simp [toWs]
  | cons d ds ih => simp [toWs, ih]

mutual
/-- A type of the program's has that shape. -/
def Fits (P : Program) : Ty → TypeId → Prop
  | .int k, t => P.underlying t = some (.int k)
  | .str, t => P.underlying t = some .string
  | .bool, t => P.underlying t = some .bool
  | .sl e, t => ∃ te, P.underlying t = some (.slice te) ∧ P.cellsOf te = e.size ∧ 0 < e.size ∧ Fits P e te
  | .st fs, t => ∃ fds : Array Field, P.underlying t = some (.struct fds) ∧ P.cellsOf t = Ty.sizes fs ∧ FitsAll P 0 fs fds.toList
def FitsAll (P : Program) : Nat → List Ty → List Field → Prop
  | _, [], fds => fds = []
  | off, f :: fs, fds => ∃ fd fds', fds = fd :: fds' ∧ fd.offset = off ∧ P.cellsOf fd.type = f.size ∧ Fits P f fd.type ∧ FitsAll P (off + f.size) fs fds'
end

mutual
theorem Rep.mono {S T : St} : ∀ {t : Ty} {us : List AV} {d : Dat}, Rep S t us d → Rep (S ++ T) t us d
  | .int _, _, _, h => by simpa only [Rep] using h
  | .str, _, _, h => by simpa only [Rep] using h
  | .bool, _, _, h => by simpa only [Rep] using h
  | .sl e, us, d, h => by
    simp only [Rep] at h ⊢
    rcases h with h | ⟨b, cs, es, sp, h1, h2, h3, h4, h5, h6⟩
    · exact .inl h
    · exact .inr ⟨b, cs, es, sp, h1, h2, by rw [List.getElem?_append_left (List.getElem?_eq_some_iff.1 h3).1]; exact h3, h4, h5, fun i x hx => Rep.mono (h6 i x hx)⟩
  | .st fs, us, d, h => by
    simp only [Rep] at h ⊢
    obtain ⟨ds, h1, h2⟩ := h
    exact ⟨ds, h1, Reps.mono h2⟩
theorem Reps.mono {S T : St} : ∀ {fs : List Ty} {us : List AV} {ds : List Dat}, Reps S fs us ds → Reps (S ++ T) fs us ds
  | [], _, _, h => by simpa only [Reps] using h
  | f :: fs, us, ds, h => by
    simp only [Reps] at h ⊢
    obtain ⟨d, ds', h1, h2, h3⟩ := h
    exact ⟨d, ds', h1, Rep.mono h2, Reps.mono h3⟩
end

section
variable {kf kt : Nat → Nat} {P : Program} {W : World} {fm : FM} {S : St}

/-- One more block that is read only. -/
theorem R.ro {w0 : Base} {w : World} (h : R kf kt w0 fm S w) {p : Addr × Nat} {cs : List AV} (hO : w0.O p.1.block) (hc : ∀ i u, cs[i]? = some u → u.sc = true ∧ ∃ v, w.cell? (p.1.add i) = some v ∧ VR kf fm u v) :
    R kf kt w0 (fm ++ [p]) (S ++ [.ro cs]) w where
  len := by simp [h.len]
  below := h.below
  blk := fun b k q hs hq => by
    rw [getElem?_snoc] at hs hq
    have hl := h.len
    by_cases h1 : b < S.length
    · rw [if_pos h1] at hs
      rw [if_pos (by omega)] at hq
      exact BR.kept rfl (h.blk b k q hs hq)
    · rw [if_neg h1] at hs
      rw [if_neg (by omega)] at hq
      by_cases h2 : b = S.length
      · rw [if_pos h2] at hs
        rw [if_pos (by omega)] at hq
        cases hs; cases hq
        exact ⟨hO, fun i u hu => let ⟨h3, v, h4, h5⟩ := hc i u hu; ⟨h3, v, h4, h5.mono⟩⟩
      · rw [if_neg h2] at hs; cases hs
  low := fun b k q hs hq he => by
    rw [getElem?_snoc] at hs hq
    have hl := h.len
    by_cases h1 : b < S.length
    · rw [if_pos h1] at hs
      rw [if_pos (by omega)] at hq
      exact h.low b k q hs hq he
    · rw [if_neg h1] at hs
      by_cases h2 : b = S.length
      · rw [if_pos h2] at hs; cases hs; cases he
      · rw [if_neg h2] at hs; cases hs
  sep := fun b b' k k' q q' hs hs' hq hq' he he' hne => by
    rw [getElem?_snoc] at hs hs' hq hq'
    have hl := h.len
    have key : ∀ {b : Nat} {k : Blk}, (if b < S.length then S[b]? else if b = S.length then some (Blk.ro cs) else none) = some k → k.excl = true → b < S.length := by
      intro b k hs he
      by_cases h1 : b < S.length
      · exact h1
      · rw [if_neg h1] at hs
        by_cases h2 : b = S.length
        · rw [if_pos h2] at hs; cases hs; cases he
        · rw [if_neg h2] at hs; cases hs
    have h1 := key hs he
    have h2 := key hs' he'
    rw [if_pos h1] at hs
    rw [if_pos h2] at hs'
    rw [if_pos (by omega)] at hq hq'
    exact h.sep b b' k k' q q' hs hs' hq hq' he he' hne

/-- What reading cells gives. -/
structure Got {H : Type} (kf kt : Nat → Nat) (W : World) (fm : FM) (S : St) (t : Ty) (cs : List Value) (w : DataW H) : Prop where
  ex : ∃ T ext us d, R kf kt (baseOf W) (fm ++ ext) (S ++ T) W ∧ VRs kf (fm ++ ext) us cs ∧ (∀ u ∈ us, u.sc = true) ∧ us.length = t.size ∧ Rep (S ++ T) t us d ∧ w = toW t d

theorem cells_get {base : Nat} {a : Addr} {n : Nat} {cs : List Value} (h : W.cells? base a n = some cs) : cs.length = n ∧ ∀ j v, cs[j]? = some v → W.cell? (a.add j) = some v := by
  unfold World.cells? at h
  split at h
  · have hl := Lib.mapM_length h
    refine ⟨by simpa using hl, fun j v hv => ?_⟩
    have hj : j < n := by have := (List.getElem?_eq_some_iff.1 hv).1; simp only [List.length_range] at hl; omega
    obtain ⟨b, h1, h2⟩ := Lib.mapM_at h j j (by simp [hj])
    rw [hv] at h1; cases h1
    exact h2
  · cases h

theorem cell_low {a : Addr} {v : Value} (h : W.cell? a = some v) : a.block < W.heap.size := (cell_spot h).2

theorem VRs.snoc0 {u : AV} {v : Value} (h : VR kf fm u v) : VRs kf fm [u] [v] := by simp only [VRs]; exact ⟨_, _, rfl, h, rfl⟩

theorem take_drop_left {α : Type} {xs ys : List α} {i n : Nat} (h : i + n ≤ xs.length) : ((xs ++ ys).drop i).take n = (xs.drop i).take n := by
  rw [List.drop_append_of_le_length (by omega), List.take_append_of_le_length (by rw [List.length_drop]; omega)]

/-- What reads as data stands in blocks that are read only. -/
theorem read {H : Type} {enc : TypeId × Value → H} {held : Bool} (hw : 0 < W.heap.size) : ∀ (fuel : Nat) (ty : Ty) (t : TypeId) (cs : List Value) (x : DataW H × List MemPlace) (fm : FM) (S : St),
    DataW.trod enc P W 0 (fun _ => true) held fuel t cs = some x → Fits P ty t → R kf kt (baseOf W) fm S W → Got kf kt W fm S ty cs x.1
  | 0, _, _, _, _, _, _, h, _, _ => by simp [DataW.trod] at h
  | fuel + 1, .int k, t, cs, x, fm, S, h, hf, hR => by
    simp only [Fits] at hf
    unfold DataW.trod at h
    rw [hf] at h
    split at h <;> rename_i heq <;> first | (cases heq; done) | skip
    · rename_i k1 k2 n
      cases heq
      split at h
      · rename_i hc
        obtain ⟨rfl, hwf⟩ := hc
        cases h
        exact ⟨[], [], [.int k2 n], .int n, by simpa using hR, VRs.snoc0 (by simp [VR]), by simp [AV.sc], rfl, by simp only [Rep]; exact ⟨n, rfl, rfl, hwf⟩, by simp [toW]⟩
      · cases h
    · cases h
  | fuel + 1, .str, t, cs, x, fm, S, h, hf, hR => by
    simp only [Fits] at hf
    unfold DataW.trod at h
    rw [hf] at h
    split at h <;> rename_i heq <;> first | (cases heq; done) | skip
    · rename_i s
      split at h
      · rename_i hc
        cases h
        exact ⟨[], [], [.str s.data.toList], .str s.data.toList, by simpa using hR, VRs.snoc0 (by simp only [VR]; exact ⟨s, rfl, rfl⟩), by simp [AV.sc], rfl, by
          simp only [Rep]; exact ⟨_, rfl, rfl, by rw [← size_toList]; exact hc⟩, by simp [toW]⟩
      · cases h
    · cases h
  | fuel + 1, .bool, t, cs, x, fm, S, h, hf, hR => by
    simp only [Fits] at hf
    unfold DataW.trod at h
    rw [hf] at h
    split at h <;> rename_i heq <;> first | (cases heq; done) | skip
    · rename_i b
      cases h
      exact ⟨[], [], [.bool b], .bool b, by simpa using hR, VRs.snoc0 (by simp [VR]), by simp [AV.sc], rfl, by simp only [Rep]; exact ⟨b, rfl, rfl⟩, by simp [toW]⟩
    · cases h
  | fuel + 1, .sl e, t, cs, x, fm, S, h, hf, hR => by
    simp only [Fits] at hf
    obtain ⟨te, hf, hce, hpos, hfe⟩ := hf
    unfold DataW.trod at h
    rw [hf] at h
    split at h <;> rename_i heq <;> first | (cases heq; done) | skip
    · cases h
      exact ⟨[], [], [.nils], .sl true [] [], by simpa using hR, VRs.snoc0 (by simp [VR]), by simp [AV.sc], rfl, by unfold Rep; exact .inl ⟨rfl, rfl⟩, by simp [toW]⟩
    · rename_i e' a len cap
      cases heq
      simp only at h
      split at h
      · rename_i hc
        obtain ⟨_, hlc, hcm⟩ := hc
        simp only [Option.bind_eq_some_iff, if_true, Option.map_eq_some_iff] at h
        obtain ⟨el, h1, rs, h2, hx⟩ := h
        have hell := Lib.mapM_length h1
        have hrsl := Lib.mapM_length h2
        rw [List.length_range] at hell hrsl
        have hel : ∀ i, i < cap → ∃ y, (el ++ rs)[i]? = some y ∧ (W.cells? 0 (a.add (i * P.cellsOf te)) (P.cellsOf te)).bind (DataW.trod enc P W 0 (fun _ => true) held fuel te) = some y := by
          intro i hi
          by_cases hil : i < len
          · obtain ⟨b, h4, h3⟩ := Lib.mapM_at h1 i i (List.getElem?_range hil)
            exact ⟨b, by rw [List.getElem?_append_left (by omega)]; exact h4, h3⟩
          · obtain ⟨b, h4, h3⟩ := Lib.mapM_at h2 (i - len) (i - len) (List.getElem?_range (by omega))
            rw [show len + (i - len) = i by omega] at h3
            exact ⟨b, by rw [List.getElem?_append_right (by omega), hell]; exact h4, h3⟩
        rw [hce] at hel
        have key : ∀ n, n ≤ cap → ∃ (T : St) (ext : FM) (cells : List AV) (dats : List Dat), R kf kt (baseOf W) (fm ++ ext) (S ++ T) W ∧ cells.length = n * e.size ∧
            (∀ j u, cells[j]? = some u → u.sc = true ∧ ∃ v, W.cell? (a.add j) = some v ∧ VR kf (fm ++ ext) u v) ∧ dats.length = n ∧ (∀ i d, dats[i]? = some d → Rep (S ++ T) e ((cells.drop (i * e.size)).take e.size) d) ∧ ∀ (i : Nat) (d : Dat), dats[i]? = some d → ∃ y : DataW H × List MemPlace, (el ++ rs)[i]? = some y ∧ y.1 = toW e d := by
          intro n
          induction n with
          | zero => intro _; exact ⟨[], [], [], [], by simpa using hR, by simp, fun j u hu => by simp at hu, rfl, fun i d hd => by simp at hd, fun i d hd => by simp at hd⟩
          | succ n ih =>
            intro hn
            obtain ⟨T, ext, cells, dats, h3, h4, h5, h6, h7, h7'⟩ := ih (by omega)
            obtain ⟨y, hyn, hy⟩ := hel n (by omega)
            simp only [Option.bind_eq_some_iff] at hy
            obtain ⟨cs', h8, h9⟩ := hy
            obtain ⟨h10, h11⟩ := cells_get h8
            obtain ⟨T', ext', us, d, h12, h13, h14, h15, h16, h16'⟩ := (read hw fuel e te cs' y _ _ h9 hfe h3).ex
            refine ⟨T ++ T', ext ++ ext', cells ++ us, dats ++ [d], by rw [← List.append_assoc, ← List.append_assoc]; exact h12, by rw [List.length_append, h4, h15, Nat.succ_mul], ?_, by simp [h6], ?_, ?_⟩
            · intro j u hu
              rw [List.getElem?_append] at hu
              split at hu
              · obtain ⟨h17, v, h18, h19⟩ := h5 j u hu
                exact ⟨h17, v, h18, by rw [← List.append_assoc]; exact h19.mono⟩
              · rename_i hj
                obtain ⟨v, h17, h18⟩ := h13.get hu
                refine ⟨h14 u (List.mem_of_getElem? hu), v, ?_, by rw [← List.append_assoc]; exact h18⟩
                have := h11 _ v h17
                rw [add_add, ← h4, show cells.length + (j - cells.length) = j by omega] at this
                exact this
            · intro i d' hd'
              rw [List.getElem?_append] at hd'
              split at hd'
              · rename_i hi
                have hin : i * e.size + e.size ≤ cells.length := by
                  rw [h4, ← Nat.succ_mul]; exact Nat.mul_le_mul_right _ (by omega)
                rw [take_drop_left hin, ← List.append_assoc]
                exact (h7 i d' hd').mono
              · rename_i hi
                have hi0 : i = n := by
                  have := (List.getElem?_eq_some_iff.1 hd').1
                  simp only [List.length_singleton] at this
                  omega
                subst hi0
                rw [show i - dats.length = 0 by omega] at hd'
                simp only [List.getElem?_cons_zero, Option.some.injEq] at hd'
                subst hd'
                rw [← h4, List.drop_left, List.take_of_length_le (by omega), ← List.append_assoc]
                exact h16
            · intro i d' hd'
              rw [List.getElem?_append] at hd'
              split at hd'
              · exact h7' i d' hd'
              · rename_i hi
                have hi0 : i = n := by
                  have := (List.getElem?_eq_some_iff.1 hd').1
                  simp only [List.length_singleton] at this
                  omega
                subst hi0
                rw [show i - dats.length = 0 by omega] at hd'
                simp only [List.getElem?_cons_zero, Option.some.injEq] at hd'
                subst hd'
                exact ⟨y, hyn, h16'⟩
        obtain ⟨T, ext, cells, dats, h3, h4, h5, h6, h7, h7'⟩ := key cap (Nat.le_refl _)
        have hall : (el ++ rs).map (·.1) = dats.map (toW e) := by
          apply List.ext_getElem?
          intro i
          rw [List.getElem?_map, List.getElem?_map]
          cases hd : dats[i]? with
          | some d => obtain ⟨y, h8, h9⟩ := h7' i d hd; rw [h8]; exact congrArg some h9
          | none =>
            rw [List.getElem?_eq_none (by have := List.getElem?_eq_none_iff.1 hd; rw [List.length_append]; omega)]; rfl
        have hel' : el.map (·.1) = (dats.take len).map (toW e) := by
          rw [List.map_take, ← hall, List.map_append, List.take_left' (by rw [List.length_map]; exact hell)]
        have hrs' : rs.map (·.1) = (dats.drop len).map (toW e) := by
          rw [List.map_drop, ← hall, List.map_append, List.drop_left' (by rw [List.length_map]; exact hell)]
        have hlen : (S ++ T).length = (fm ++ ext).length := h3.len.symm
        have hd1 : (dats.take len).length = len := by rw [List.length_take]; omega
        have hd2 : (dats.take len).length + (dats.drop len).length = cap := by rw [hd1, List.length_drop]; omega
        have hsl : ∀ (p : Addr × Nat), (p.1 = a ∨ cap = 0) → R kf kt (baseOf W) (fm ++ ext ++ [p]) (S ++ T ++ [.ro cells]) W → Got kf kt W fm S (.sl e) [.slice (some a) len cap] x.1 := by
          intro p hp hRp
          refine ⟨T ++ [.ro cells], ext ++ [p], [.sl (S ++ T).length 0 len cap none], .sl false (dats.take len) (dats.drop len), by rw [← List.append_assoc, ← List.append_assoc]; exact hRp, VRs.snoc0 ?_, by simp [AV.sc], rfl, ?_, by rw [← hx]; simp only [toW, toWs_map, hel', hrs']; simp⟩
          · simp only [VR]
            refine ⟨p, cap, a, ?_, rfl, hlc, Nat.le_refl _, hlc, ?_, fun _ => rfl, fun es h => by cases h⟩
            · rw [← List.append_assoc, hlen, List.getElem?_append_right (Nat.le_refl _)]; simp
            · rcases hp with hp | hp
              · left; rw [hp, add_zero]
              · exact .inr hp
          · simp only [Rep]
            refine .inr ⟨(S ++ T).length, cells, dats.take len, dats.drop len, by rw [hd1, ← hd2, hd1], rfl, ?_, by rw [hd2]; exact h4, by rw [hd2]; exact hcm, ?_⟩
            · rw [← List.append_assoc, List.getElem?_append_right (Nat.le_refl _)]; simp
            · intro i x hx
              rw [List.take_append_drop] at hx
              rw [← List.append_assoc]
              exact (h7 i x hx).mono
        by_cases h0 : cap = 0
        · refine hsl (⟨0, 0, none⟩, 0) (.inr h0) (h3.ro (by show 0 < W.heap.size; exact hw) ?_)
          intro i u hu
          have : cells = [] := List.eq_nil_of_length_eq_zero (by rw [h4, h0, Nat.zero_mul])
          rw [this] at hu; simp at hu
        · refine hsl (a, cap * e.size) (.inl rfl) (h3.ro ?_ h5)
          have hpos2 : 0 < cells.length := by rw [h4]; exact Nat.mul_pos (by omega) hpos
          obtain ⟨_, v, h8, _⟩ := h5 0 cells[0] (List.getElem?_eq_getElem hpos2)
          rw [add_zero] at h8
          exact (cell_spot h8).2
      · cases h
    · cases h
  | fuel + 1, .st fs, t, cs, x, fm, S, h, hf, hR => by
    simp only [Fits] at hf
    obtain ⟨fds, hf, hct, hfa⟩ := hf
    unfold DataW.trod at h
    simp only [hf] at h
    · split at h
      · rename_i hlen
        simp only [Option.map_eq_some_iff] at h
        obtain ⟨xs, h1, hx⟩ := h
        have key : ∀ (fs : List Ty) (off : Nat) (fds : List Field) (xs : List (DataW H × List MemPlace)) (fm : FM) (S : St), R kf kt (baseOf W) fm S W → FitsAll P off fs fds → off + Ty.sizes fs = cs.length →
            (fds.mapM fun f => DataW.trod enc P W 0 (fun _ => true) held fuel f.type ((cs.drop f.offset).take (P.cellsOf f.type))) = some xs →
            ∃ T ext us ds, R kf kt (baseOf W) (fm ++ ext) (S ++ T) W ∧ VRs kf (fm ++ ext) us (cs.drop off) ∧ (∀ u ∈ us, u.sc = true) ∧ us.length = Ty.sizes fs ∧ Reps (S ++ T) fs us ds ∧ xs.map (·.1) = toWz fs ds := by
          intro fs
          induction fs with
          | nil =>
            intro off fds xs fm S hR hfa hl hm
            simp only [Ty.sizes] at hl
            simp only [FitsAll] at hfa
            subst hfa
            cases hm
            exact ⟨[], [], [], [], by simpa using hR, by rw [List.drop_eq_nil_of_le (by omega)]; simp [VRs], by simp, rfl, by simp [Reps], by simp [toWz]⟩
          | cons f fs ih =>
            intro off fds xs fm S hR hfa hl hm
            simp only [FitsAll] at hfa
            obtain ⟨fd, fds', rfl, h2, h3, h4, h5⟩ := hfa
            simp only [List.mapM_cons, Option.bind_eq_bind, Option.bind_eq_some_iff, Option.pure_def, Option.some.injEq] at hm
            obtain ⟨y, h6, ys, h7, rfl⟩ := hm
            rw [h2, h3] at h6
            obtain ⟨T, ext, us, d, h8, h9, h10, h11, h12, h12'⟩ := (read hw fuel f fd.type _ y fm S h6 h4 hR).ex
            simp only [Ty.sizes] at hl
            obtain ⟨T', ext', us', ds, h13, h14, h15, h16, h17, h17'⟩ := ih (off + f.size) fds' ys _ _ h8 h5 (by omega) h7
            refine ⟨T ++ T', ext ++ ext', us ++ us', d :: ds, by rw [← List.append_assoc, ← List.append_assoc]; exact h13, ?_, ?_, by simp [Ty.sizes, h11, h16], ?_, by simp only [List.map_cons, toWz, h12', h17']⟩
            · rw [← List.append_assoc]
              have h18 := (h9.mono (ext := ext')).append h14
              rw [← List.drop_drop, List.take_append_drop] at h18
              exact h18
            · intro u hu
              rcases List.mem_append.1 hu with hu | hu
              · exact h10 u hu
              · exact h15 u hu
            · simp only [Reps]
              refine ⟨d, ds, rfl, ?_, ?_⟩
              · rw [← h11, List.take_left, ← List.append_assoc]; exact h12.mono
              · rw [← h11, List.drop_left, ← List.append_assoc]; exact h17
        obtain ⟨T, ext, us, ds, h2, h3, h4, h5, h6, h6'⟩ := key fs 0 fds.toList xs fm S hR hfa (by rw [Nat.zero_add, ← hct]; exact hlen.symm) h1
        exact ⟨T, ext, us, .st ds, h2, by simpa using h3, h4, by simpa [Ty.size] using h5, by simp only [Rep]; exact ⟨ds, rfl, h6⟩, by rw [← hx]; simp only [toW, h6']⟩
      · cases h
end
end Am
