/- A region that draws its order of evaluation: whatever it draws, it comes to what the one order that was checked comes to. -/
import Derived.Test.YtpalaplnolcimaaDoorAmStep
import Derived.Test.YtpalaplnolcimaaDoorAmDrawA
namespace Am
open Go Go.RowKit

theorem put_defers' (a : Act) (d : Option Tmp) (u : Value) : (a.put d u).defers = a.defers := by cases d <;> rfl

/-! ### Counting -/

def cnt : Nat → (Nat → Bool) → Nat
  | 0, _ => 0
  | k + 1, f => cnt k f + if f k then 1 else 0

theorem cnt_congr : ∀ (n : Nat) (f g : Nat → Bool), (∀ j, j < n → f j = g j) → cnt n f = cnt n g
  | 0, f, g, _ => rfl
  | n + 1, f, g, h => by simp only [cnt]; rw [cnt_congr n f g fun j hj => h j (by omega), h n (by omega)]

theorem cnt_less : ∀ (n : Nat) (f g : Nat → Bool) (i : Nat), i < n → f i = true → g i = false → (∀ j, j ≠ i → g j = f j) → cnt n g + 1 = cnt n f
  | 0, f, g, i, hi, _, _, _ => by omega
  | n + 1, f, g, i, hi, h1, h2, h3 => by
    simp only [cnt]
    by_cases hn : i = n
    · subst hn
      rw [h1, h2, cnt_congr i g f fun j hj => h3 j (by omega)]
      simp
    · have := cnt_less n f g i (by omega) h1 h2 h3
      rw [h3 n fun h => hn h.symm]
      omega

theorem cnt_zero : ∀ (n : Nat) (f : Nat → Bool), cnt n f = 0 → ∀ j, j < n → f j = false
  | 0, f, _, j, hj => by omega
  | n + 1, f, h, j, hj => by
    simp only [cnt] at h
    by_cases hn : j = n
    · subst hn; cases hf : f j <;> simp_all
    · exact cnt_zero n f (by omega) j (by omega)

/-! ### The big ones -/

theorem okBigs_spec {iops : List IOp} {an : List (List Nat)} : ∀ {bigs : List Nat}, okBigs iops an bigs = true → ∀ (i j : Nat) (b c : Nat), bigs[i]? = some b → bigs[j]? = some c → i < j →
    b ∈ an.getD c [] ∨ (iops.getD c badOp).floats = true
  | [], _, i, j, b, c, hb, _, _ => by simp at hb
  | x :: bs, h, i, j, b, c, hb, hc, hij => by
    simp only [okBigs, Bool.and_eq_true, List.all_eq_true] at h
    cases j with
    | zero => omega
    | succ j =>
      simp only [List.getElem?_cons_succ] at hc
      cases i with
      | zero =>
        simp at hb; subst hb
        have := h.1 c (List.mem_of_getElem? hc)
        rw [Bool.or_eq_true] at this
        rcases this with h9 | h9
        · exact .inl (List.contains_iff_mem.1 h9)
        · exact .inr h9
      | succ i => exact okBigs_spec h.2 i j b c (by simpa using hb) hc (by omega)

theorem okFloats_spec {iops : List IOp} {an : List (List Nat)} : ∀ {bigs seen : List Nat}, okFloats iops an seen bigs = true → ∀ (j f : Nat), bigs[j]? = some f → (iops.getD f badOp).floats = true →
    ∀ x, x < iops.length → f ∈ an.getD x [] → (∀ y ∈ seen, y ∈ an.getD x []) ∧ ∀ i b, i < j → bigs[i]? = some b → b ∈ an.getD x []
  | [], seen, _, j, f, hj, _, _, _, _ => by simp at hj
  | b0 :: bs, seen, h, j, f, hj, hf, x, hx, hfx => by
    simp only [okFloats, Bool.and_eq_true] at h
    cases j with
    | zero =>
      simp at hj; subst hj
      refine ⟨fun y hy => ?_, fun i b hi _ => by omega⟩
      have h1 := h.1
      simp only [hf, Bool.not_true, Bool.false_or, List.all_eq_true] at h1
      have h2 := h1 x (List.mem_range.2 hx)
      simp only [Bool.or_eq_true, Bool.not_eq_true'] at h2
      rcases h2 with h2 | h2
      · rw [← Bool.not_eq_true, List.contains_iff_mem] at h2; exact absurd hfx h2
      · rw [List.all_eq_true] at h2; exact List.contains_iff_mem.1 (h2 y hy)
    | succ j =>
      obtain ⟨h1, h2⟩ := okFloats_spec h.2 j f (by simpa using hj) hf x hx hfx
      refine ⟨fun y hy => h1 y (by simp [hy]), fun i b hi hb => ?_⟩
      cases i with
      | zero => simp at hb; subst hb; exact h1 _ (by simp)
      | succ i => exact h2 i b (by omega) (by simpa using hb)

theorem visits_op {iops : List IOp} : ∀ (its : List DItem) (m i : Nat), i ∈ opsOf its → ∃ k, (i, k) ∈ visits iops m its
  | [], m, i, h => by simp [opsOf] at h
  | .op j :: its, m, i, h => by
    simp only [opsOf, List.mem_cons] at h
    rcases h with rfl | h
    · exact ⟨m, by simp [visits]⟩
    · obtain ⟨k, hk⟩ := visits_op its (if isSmall (iops.getD j badOp).k then m else m + 1) i h
      exact ⟨k, by simp only [visits, List.mem_cons]; exact .inr hk⟩
  | .chk j :: its, m, i, h => by
    obtain ⟨k, hk⟩ := visits_op its m i (by simpa [opsOf] using h)
    exact ⟨k, by simp only [visits, List.mem_cons]; exact .inr hk⟩

theorem visits_big {iops : List IOp} : ∀ (its : List DItem) (m i : Nat), i ∈ opsOf its → isSmall (iops.getD i badOp).k = false → ∃ k, (bigsOf iops its)[k]? = some i ∧ (i, m + k) ∈ visits iops m its
  | [], m, i, h, _ => by simp [opsOf] at h
  | .op j :: its, m, i, h, hb => by
    simp only [opsOf, List.mem_cons] at h
    by_cases hji : i = j
    · subst hji
      exact ⟨0, by rw [bigsOf, hb]; simp, by simp [visits]⟩
    · have hi : i ∈ opsOf its := h.resolve_left hji
      cases hs : isSmall (iops.getD j badOp).k with
      | true =>
        obtain ⟨k, h1, h2⟩ := visits_big its m i hi hb
        exact ⟨k, by rw [bigsOf, hs]; exact h1, by simp only [visits, hs, if_true, List.mem_cons]; exact .inr h2⟩
      | false =>
        obtain ⟨k, h1, h2⟩ := visits_big its (m + 1) i hi hb
        refine ⟨k + 1, by rw [bigsOf, hs]; simpa using h1, ?_⟩
        simp only [visits, hs, Bool.false_eq_true, if_false, List.mem_cons]
        exact .inr (by rw [show m + (k + 1) = m + 1 + k by omega]; exact h2)
  | .chk j :: its, m, i, h, hb => by
    obtain ⟨k, h1, h2⟩ := visits_big its m i (by simpa [opsOf] using h) hb
    exact ⟨k, h1, by simp only [visits, List.mem_cons]; exact .inr h2⟩

theorem bigs_mem {iops : List IOp} : ∀ (its : List DItem) (i : Nat), i ∈ bigsOf iops its → i ∈ opsOf its ∧ isSmall (iops.getD i badOp).k = false
  | [], i, h => by simp [bigsOf] at h
  | .op j :: its, i, h => by
    simp only [bigsOf] at h
    cases hs : isSmall (iops.getD j badOp).k with
    | true =>
      rw [hs, if_pos rfl] at h
      obtain ⟨h1, h2⟩ := bigs_mem its i h
      exact ⟨by simp [opsOf, h1], h2⟩
    | false =>
      rw [hs] at h
      simp only [Bool.false_eq_true, if_false, List.mem_cons] at h
      rcases h with rfl | h
      · exact ⟨by simp [opsOf], hs⟩
      · obtain ⟨h1, h2⟩ := bigs_mem its i h
        exact ⟨by simp [opsOf, h1], h2⟩
  | .chk j :: its, i, h => by
    obtain ⟨h1, h2⟩ := bigs_mem its i (by simpa [bigsOf] using h)
    exact ⟨by simpa [opsOf] using h1, h2⟩

/-- No big one comes twice. -/
theorem bigs_inj {iops : List IOp} {pr : List (List Nat)} : ∀ (its : List DItem) (D : List Nat), okRow iops pr D its = true → ∀ (j k i : Nat), (bigsOf iops its)[j]? = some i → (bigsOf iops its)[k]? = some i → j = k
  | [], D, _, j, k, i, h, _ => by simp [bigsOf] at h
  | .op x :: its, D, hok, j, k, i, hj, hk => by
    simp only [okRow, Bool.and_eq_true] at hok
    simp only [bigsOf] at hj hk
    split at hj
    · rename_i hs
      rw [if_pos hs] at hk
      exact bigs_inj its _ hok.2 j k i hj hk
    · rename_i hs
      rw [if_neg hs] at hk
      have hnot : ∀ l : Nat, (bigsOf iops its)[l]? ≠ some x := by
        intro l hl
        exact okRow_fresh its (x :: D) hok.2 x (bigs_mem its x (List.mem_of_getElem? hl)).1 (by simp)
      cases j with
      | zero =>
        simp at hj; subst hj
        cases k with
        | zero => rfl
        | succ k => simp only [List.getElem?_cons_succ] at hk; exact absurd hk (hnot k)
      | succ j =>
        simp only [List.getElem?_cons_succ] at hj
        cases k with
        | zero => simp at hk; subst hk; exact absurd hj (hnot j)
        | succ k => simp only [List.getElem?_cons_succ] at hk; rw [bigs_inj its _ hok.2 j k i hj hk]
  | .chk x :: its, D, hok, j, k, i, hj, hk => by
    simp only [okRow, Bool.and_eq_true] at hok
    exact bigs_inj its D hok.2 j k i (by simpa [bigsOf] using hj) (by simpa [bigsOf] using hk)

section
variable {kf kt : Nat → Nat} {w0 : Base} {P : Program}

theorem mapO_at {α β : Type} {f : α → Option β} : ∀ {xs : List α} {ys : List β}, mapO f xs = some ys → xs.length = ys.length ∧ ∀ (i : Nat) (x : α), xs[i]? = some x → ∃ y, ys[i]? = some y ∧ f x = some y
  | [], ys, h => by simp [mapO] at h; subst h; exact ⟨rfl, fun i x hx => by simp at hx⟩
  | x :: xs, ys, h => by
    simp only [mapO, Option.bind_eq_some_iff, Option.map_eq_some_iff] at h
    obtain ⟨y, hy, ys', hys, rfl⟩ := h
    obtain ⟨h1, h2⟩ := mapO_at hys
    refine ⟨by simp [h1], fun i z hz => ?_⟩
    cases i with
    | zero => simp at hz; subst hz; exact ⟨y, by simp, hy⟩
    | succ i => obtain ⟨y', h3, h4⟩ := h2 i z (by simpa using hz); exact ⟨y', by simpa using h3, h4⟩

/-- The listed ones. -/
abbrev Lst (listed : Array Bool) : Nat → Prop := fun i => listed.getD i false = true

/-! ### Blocks that came early -/

mutual
theorem VR.below {fm : FM} : ∀ {c : AV} {v : Value}, VR kf fm c v → AV.belowB fm.length c = true
  | .ptr b o, v, h => by simp only [VR] at h; obtain ⟨p, hp, _⟩ := h; simp [AV.belowB, (List.getElem?_eq_some_iff.1 hp).1]
  | .sl b o len cap g, v, h => by simp only [VR] at h; obtain ⟨p, _, _, hp, _⟩ := h; simp [AV.belowB, (List.getElem?_eq_some_iff.1 hp).1]
  | .agg cs, v, h => by simp only [VR] at h; obtain ⟨_, _, _, h⟩ := h; simp only [AV.belowB]; exact VRs.below h
  | .tup cs, v, h => by simp only [VR] at h; obtain ⟨_, _, h⟩ := h; simp only [AV.belowB]; exact VRs.below h
  | .fn _ cs, v, h => by simp only [VR] at h; obtain ⟨_, _, _, _, h⟩ := h; simp only [AV.belowB]; exact VRs.below h
  | .yld b, v, h => by simp only [VR] at h; obtain ⟨p, hp, _⟩ := h; simp [AV.belowB, (List.getElem?_eq_some_iff.1 hp).1]
  | .mp b, v, h => by simp only [VR] at h; obtain ⟨p, hp, _⟩ := h; simp [AV.belowB, (List.getElem?_eq_some_iff.1 hp).1]
  | .any, _, _ => rfl
  | .bool _, _, _ => rfl
  | .int _ _, _, _ => rfl
  | .str _, _, _ => rfl
  | .nilp, _, _ => rfl
  | .nils, _, _ => rfl
  | .nilf, _, _ => rfl
  | .nilm, _, _ => rfl
  | .nili, _, _ => rfl
  | .opq, _, _ => rfl
theorem VRs.below {fm : FM} : ∀ {cs : List AV} {vs : List Value}, VRs kf fm cs vs → AV.belowsB fm.length cs = true
  | [], _, _ => rfl
  | c :: cs, vs, h => by simp only [VRs] at h; obtain ⟨_, _, _, h1, h2⟩ := h; simp only [AV.belowsB, Bool.and_eq_true]; exact ⟨VR.below h1, VRs.below h2⟩
end

mutual
theorem VR.narrow {fm ext : FM} : ∀ {c : AV} {v : Value}, AV.belowB fm.length c = true → VR kf (fm ++ ext) c v → VR kf fm c v
  | .ptr b o, v, hb, h => by
    simp only [VR] at h ⊢; obtain ⟨p, hp, hv⟩ := h
    simp only [AV.belowB, decide_eq_true_eq] at hb
    rw [List.getElem?_append_left hb] at hp; exact ⟨p, hp, hv⟩
  | .sl b o len cap g, v, hb, h => by
    simp only [VR] at h ⊢; obtain ⟨p, rc, ra, hp, hv⟩ := h
    simp only [AV.belowB, decide_eq_true_eq] at hb
    rw [List.getElem?_append_left hb] at hp; exact ⟨p, rc, ra, hp, hv⟩
  | .agg cs, v, hb, h => by simp only [VR] at h ⊢; obtain ⟨ws, h1, h2, h3⟩ := h; exact ⟨ws, h1, h2, VRs.narrow (by simpa only [AV.belowB] using hb) h3⟩
  | .tup cs, v, hb, h => by simp only [VR] at h ⊢; obtain ⟨ws, h1, h3⟩ := h; exact ⟨ws, h1, VRs.narrow (by simpa only [AV.belowB] using hb) h3⟩
  | .fn _ cs, v, hb, h => by simp only [VR] at h ⊢; obtain ⟨f, ws, h1, h2, h3⟩ := h; exact ⟨f, ws, h1, h2, VRs.narrow (by simpa only [AV.belowB] using hb) h3⟩
  | .yld b, v, hb, h => by
    simp only [VR] at h ⊢; obtain ⟨p, hp, hv⟩ := h
    simp only [AV.belowB, decide_eq_true_eq] at hb
    rw [List.getElem?_append_left hb] at hp; exact ⟨p, hp, hv⟩
  | .mp b, v, hb, h => by
    simp only [VR] at h ⊢; obtain ⟨p, hp, hv⟩ := h
    simp only [AV.belowB, decide_eq_true_eq] at hb
    rw [List.getElem?_append_left hb] at hp; exact ⟨p, hp, hv⟩
  | .any, _, _, _ => by simp [VR]
  | .bool _, _, _, h => by simpa [VR] using h
  | .int _ _, _, _, h => by simpa [VR] using h
  | .str _, _, _, h => by simpa [VR] using h
  | .nilp, _, _, h => by simpa [VR] using h
  | .nils, _, _, h => by simpa [VR] using h
  | .nilf, _, _, h => by simpa [VR] using h
  | .nilm, _, _, h => by simpa [VR] using h
  | .nili, _, _, h => by simpa [VR] using h
  | .opq, _, _, h => by simpa [VR] using h
theorem VRs.narrow {fm ext : FM} : ∀ {cs : List AV} {vs : List Value}, AV.belowsB fm.length cs = true → VRs kf (fm ++ ext) cs vs → VRs kf fm cs vs
  | [], _, _, h => by simpa [VRs] using h
  | c :: cs, vs, hb, h => by
    simp only [AV.belowsB, Bool.and_eq_true] at hb
    simp only [VRs] at h ⊢; obtain ⟨u, us, h0, h1, h2⟩ := h
    exact ⟨u, us, h0, VR.narrow hb.1 h1, VRs.narrow hb.2 h2⟩
end

theorem RowAt.narrow {fm ext : FM} {w : World} {tag : Nat} {cs : List AV} {p : Addr × Nat} (hb : AV.belowsB fm.length cs = true) (h : RowAt kf kt (fm ++ ext) w tag cs p) : RowAt kf kt fm w tag cs p := by
  obtain ⟨h1, ⟨c, elem, fr, h2, h3, h4, h5, h6⟩, h7⟩ := h
  refine ⟨h1, ⟨c, elem, fr, h2, h3, h4, h5, fun i u hu => ?_⟩, h7⟩
  obtain ⟨h8, v, h9, h10⟩ := h6 i u hu
  exact ⟨h8, v, h9, h10.narrow (belowsB_iff.1 hb u (List.mem_of_getElem? hu))⟩

theorem RowAt.below {fm : FM} {w : World} {tag : Nat} {cs : List AV} {p : Addr × Nat} (h : RowAt kf kt fm w tag cs p) : AV.belowsB fm.length cs = true := by
  rw [belowsB_iff]
  intro c hc
  obtain ⟨i, hi⟩ := List.getElem?_of_mem hc
  obtain ⟨_, _, _, _, _, _, _, h6⟩ := h.row
  obtain ⟨_, v, _, hr⟩ := h6 i c hi
  exact hr.below

theorem RowAt.kept {fm ext : FM} {w w' : World} {tag : Nat} {cs : List AV} {p : Addr × Nat} (hk : w'.heap[p.1.block]? = w.heap[p.1.block]?) (h : RowAt kf kt fm w tag cs p) : RowAt kf kt (fm ++ ext) w' tag cs p :=
  BR.kept (w0 := ⟨w, fun _ => False, fun _ => False, fun _ h => h.elim, fun _ h => h⟩) (k := .own tag cs) hk h

/-- What is there, without the block that came last. -/
theorem R.pop {fm ext : FM} {S : St} {k : Blk} {w w' : World} (h0 : R kf kt w0 fm S w) (_ : ext.length = 1) (h : R kf kt w0 (fm ++ ext) (S ++ [k]) w') : R kf kt w0 fm S w' := by
  have hS : ∀ {b : Nat} {k' : Blk}, S[b]? = some k' → (S ++ [k])[b]? = some k' := fun hb => by rw [List.getElem?_append_left (List.getElem?_eq_some_iff.1 hb).1]; exact hb
  have hF : ∀ {b : Nat} {p : Addr × Nat}, fm[b]? = some p → (fm ++ ext)[b]? = some p := fun hb => by rw [List.getElem?_append_left (List.getElem?_eq_some_iff.1 hb).1]; exact hb
  refine ⟨h0.len, h.below, fun b k' p hb hp => ?_, fun b k' p hb hp => h.low b k' p (hS hb) (hF hp), fun b b' k1 k2 p p' hb hb' hp hp' => h.sep b b' k1 k2 p p' (hS hb) (hS hb') (hF hp) (hF hp')⟩
  have h1 := h0.blk b k' p hb hp
  have h2 := h.blk b k' p (hS hb) (hF hp)
  cases k' with
  | own tag cs => exact RowAt.narrow (RowAt.below h1) h2
  | ro cs =>
    refine ⟨h2.1, fun i u hu => ?_⟩
    obtain ⟨h3, v, h4, h5⟩ := h2.2 i u hu
    obtain ⟨_, v0, _, h6⟩ := h1.2 i u hu
    exact ⟨h3, v, h4, h5.narrow h6.below⟩
  | _ => exact h2

/-- Some blocks more are not to be touched. -/
def Base.more (B : Base) (w : World) (X : Nat → Prop) (hX : ∀ k, X k → k < w.heap.size) (hs : B.w.heap.size ≤ w.heap.size) : Base where
  w := w
  K := fun k => B.K k ∨ X k
  O := B.O
  wf := fun k hk => hk.elim (fun h => Nat.lt_of_lt_of_le (B.wf k h) hs) (hX k)
  sub := fun k hk => .inl (B.sub k hk)

/-- What is known of a base is kept where more blocks are not to be touched. -/
def Keeps (G : Base → Prop) : Prop := ∀ (B : Base) (w : World) (X : Nat → Prop) (hX : ∀ k, X k → k < w.heap.size) (hs : B.w.heap.size ≤ w.heap.size), Turned B B.w w → G B → G (B.more w X hX hs)

theorem R.rebase {fm : FM} {S : St} {w : World} (h : R kf kt w0 fm S w) {X : Nat → Prop} (hX : ∀ k, X k → k < w.heap.size)
    (hfree : ∀ (b : Nat) (k : Blk) (p : Addr × Nat), S[b]? = some k → fm[b]? = some p → k.excl = true → ¬ X p.1.block) : R kf kt (w0.more w X hX h.below.size) fm S w := by
  refine ⟨h.len, ⟨rfl, rfl, rfl, Nat.le_refl _, fun _ _ => rfl⟩, fun b k p hb hp => ?_, fun b k p hb hp he => ⟨fun hk => hk.elim (h.low b k p hb hp he).1 (hfree b k p hb hp he), (h.low b k p hb hp he).2⟩, h.sep⟩
  have := h.blk b k p hb hp
  cases k with
  | own tag cs => exact this
  | ro cs => exact this
  | _ => exact this

theorem R.unbase {fm fm' : FM} {S S' : St} {w w' : World} {X : Nat → Prop} {hX : ∀ k, X k → k < w.heap.size} (h : R kf kt w0 fm S w) (h' : R kf kt (w0.more w X hX h.below.size) fm' S' w') : R kf kt w0 fm' S' w' := by
  refine ⟨h'.len, h.below.trans ⟨h'.below.os, h'.below.tape, h'.below.output, h'.below.size, fun k hk => h'.below.block k (.inl hk)⟩, fun b k p hb hp => ?_,
    fun b k p hb hp he => ⟨fun hk => (h'.low b k p hb hp he).1 (.inl hk), (h'.low b k p hb hp he).2⟩, h'.sep⟩
  have := h'.blk b k p hb hp
  cases k with
  | own tag cs => exact this
  | ro cs => exact this
  | _ => exact this

theorem shape_move {mk : Nat → AV} (hs : Shape mk) {fm fm' : FM} {q : Addr × Nat} {u : Value} (h : VR kf (fm ++ [q]) (mk fm.length) u) : VR kf (fm' ++ [q]) (mk fm'.length) u := by
  rcases hs with rfl | ⟨k, rfl⟩
  · simp only [VR] at h ⊢
    obtain ⟨p, hp, hv⟩ := h
    simp at hp; subst hp
    exact ⟨_, by simp, hv⟩
  · simp only [VR] at h ⊢
    obtain ⟨p, rc, ra, hp, hv⟩ := h
    simp at hp; subst hp
    exact ⟨_, rc, ra, by simp, hv⟩

/-- One that floats, and was taken ahead of its turn. -/
structure Pend (kf kt : Nat → Nat) (w0 : Base) (eF : Env) (Sm : Nat → St) (m : Nat) (fm : FM) (w : World) (a : Act) (j : Nat) (o : IOp) (q : Addr × Nat) : Prop where
  float : o.floats = true
  row : ∃ tag cs mk, Sm (j + 1) = Sm j ++ [.own tag cs] ∧ Shape mk ∧ RowAt kf kt fm w tag cs q ∧
    ∀ d, o.dst = some d → d < eF.length → eF.getD d (.tup []) = mk (Sm j).length ∧ ∀ fm' : FM, VR kf (fm' ++ [q]) (mk fm'.length) (a.tmps.getD d undef)
  out : ¬ w0.K q.1.block
  size : q.1.block < w.heap.size
  free : ∀ (b : Nat) (k : Blk) (p : Addr × Nat), (Sm m)[b]? = some k → fm[b]? = some p → k.excl = true → p.1.block ≠ q.1.block

/-- A temporary of one that was taken ahead of its turn. -/
def PDst (iops : List IOp) (bigs : List Nat) (listed : Array Bool) (m : Nat) (t : Nat) : Prop := ∃ (j b : Nat) (o : IOp), m ≤ j ∧ bigs[j]? = some b ∧ Lst listed b ∧ iops[b]? = some o ∧ o.dst = some t

structure DInv (kf kt : Nat → Nat) (w0 : Base) (iops : List IOp) (pr : List (List Nat)) (bigs : List Nat) (e0 eF : Env) (Sm : Nat → St) (ds : List Deferred) (qf : Nat → Addr × Nat) (listed : Array Bool) (m : Nat) (fm : FM) (w : World) (a : Act) : Prop where
  size : listed.size = iops.length
  closed : Closed pr (Lst listed)
  le : m ≤ bigs.length
  low : ∀ (j b : Nat), bigs[j]? = some b → j < m → Lst listed b
  tl : a.tmps.size = e0.length
  tmps : ∀ t, ¬ PDst iops bigs listed m t → (Hit iops (Lst listed) t → VR kf fm (eF.getD t (.tup [])) (a.tmps.getD t undef)) ∧ (¬ Hit iops (Lst listed) t → VR kf fm (e0.getD t (.tup [])) (a.tmps.getD t undef))
  rel : R kf kt w0 fm (Sm m) w
  pend : ∀ (j b : Nat), m ≤ j → bigs[j]? = some b → Lst listed b → ∃ o, iops[b]? = some o ∧ Pend kf kt w0 eF Sm m fm w a j o (qf j)
  apart : ∀ (j b j' b' : Nat), m ≤ j → m ≤ j' → bigs[j]? = some b → bigs[j']? = some b' → Lst listed b → Lst listed b' → j ≠ j' → (qf j).1.block ≠ (qf j').1.block
  ds : a.defers = ds

theorem lst_set {listed : Array Bool} {i : Nat} (hi : i < listed.size) (j : Nat) : Lst (listed.setIfInBounds i true) j ↔ j = i ∨ Lst listed j := by
  unfold Lst
  by_cases hij : i = j
  · subst hij; simp [hi]
  · rw [getD_set_ne false hij]
    constructor
    · exact .inr
    · rintro (h | h)
      · exact absurd h.symm hij
      · exact h

theorem lst_lt {listed : Array Bool} {i : Nat} (h : Lst listed i) : i < listed.size := by
  rcases Nat.lt_or_ge i listed.size with h' | h'
  · exact h'
  · simp [Lst, Array.getElem?_eq_none h'] at h

open Classical in
/-- The temporaries as they must be when these have been listed. -/
noncomputable def envL (iops : List IOp) (e0 eF : Env) (L : Nat → Prop) : Env := (List.range e0.length).map fun t => if Hit iops L t then eF.getD t (.tup []) else e0.getD t (.tup [])

theorem envL_getD {iops : List IOp} {e0 eF : Env} (hlen : eF.length = e0.length) (L : Nat → Prop) : Tmps iops e0 eF L (envL iops e0 eF L) := by
  intro t
  by_cases ht : t < e0.length
  · have : (envL iops e0 eF L)[t]? = some (open Classical in if Hit iops L t then eF.getD t (.tup []) else e0.getD t (.tup [])) := by
      unfold envL
      rw [List.getElem?_map, List.getElem?_range ht]
      rfl
    constructor <;> intro h <;> rw [List.getD_eq_getElem?_getD, this] <;> simp [h]
  · have h1 : (envL iops e0 eF L)[t]? = none := by simp [envL]; omega
    have h2 : eF[t]? = none := by simp; omega
    have h3 : e0[t]? = none := by simp; omega
    simp [List.getD_eq_getElem?_getD, h1, h2, h3]

open Classical in
/-- The same, but for what was taken ahead of its turn: nothing is said of that. -/
noncomputable def envP (iops : List IOp) (bigs : List Nat) (e0 eF : Env) (listed : Array Bool) (m : Nat) : Env :=
  (List.range e0.length).map fun t => if PDst iops bigs listed m t then .any else (envL iops e0 eF (Lst listed)).getD t (.tup [])

theorem envP_getD {iops : List IOp} {bigs : List Nat} {e0 eF : Env} {listed : Array Bool} {m t : Nat} (h : ¬ PDst iops bigs listed m t) : (envP iops bigs e0 eF listed m).getD t (.tup []) = (envL iops e0 eF (Lst listed)).getD t (.tup []) := by
  by_cases ht : t < e0.length
  · have : (envP iops bigs e0 eF listed m)[t]? = some (open Classical in if PDst iops bigs listed m t then .any else (envL iops e0 eF (Lst listed)).getD t (.tup [])) := by
      unfold envP
      rw [List.getElem?_map, List.getElem?_range ht]
      rfl
    rw [List.getD_eq_getElem?_getD, this]; simp [h]
  · have h1 : (envP iops bigs e0 eF listed m)[t]? = none := by simp [envP]; omega
    have h2 : (envL iops e0 eF (Lst listed))[t]? = none := by simp [envL]; omega
    simp [List.getD_eq_getElem?_getD, h1, h2]

section
variable {iops : List IOp} {pr : List (List Nat)} {bigs : List Nat} {e0 eF : Env} {Sm : Nat → St} {ds : List Deferred} {qf : Nat → Addr × Nat} {listed : Array Bool} {m : Nat} {fm : FM} {w : World} {a : Act}

theorem DInv.env (h : DInv kf kt w0 iops pr bigs e0 eF Sm ds qf listed m fm w a) (hlen : eF.length = e0.length) : EnvR kf fm (envP iops bigs e0 eF listed m) a.tmps := by
  refine ⟨by simp [envP, h.tl], fun t => ?_⟩
  by_cases hp : PDst iops bigs listed m t
  · by_cases ht : t < e0.length
    · have : (envP iops bigs e0 eF listed m)[t]? = some (open Classical in if PDst iops bigs listed m t then .any else (envL iops e0 eF (Lst listed)).getD t (.tup [])) := by
        unfold envP
        rw [List.getElem?_map, List.getElem?_range ht]
        rfl
      rw [List.getD_eq_getElem?_getD, this]
      simp [hp, VR]
    · have h1 : (envP iops bigs e0 eF listed m)[t]? = none := by simp [envP]; omega
      have h2 : a.tmps[t]? = none := by have := h.tl; simp; omega
      rw [List.getD_eq_getElem?_getD, h1, Array.getD_eq_getD_getElem?, h2]
      exact undef_rel
  · rw [envP_getD hp]
    by_cases hh : Hit iops (Lst listed) t
    · rw [(envL_getD hlen _ t).1 hh]; exact (h.tmps t hp).1 hh
    · rw [(envL_getD hlen _ t).2 hh]; exact (h.tmps t hp).2 hh

/-- What was taken ahead of its turn finds its place when its turn has come. -/
theorem DInv.settle (hs : SSA iops pr) (hinj : ∀ (j k i : Nat), bigs[j]? = some i → bigs[k]? = some i → j = k) (hlen : eF.length = e0.length) : ∀ (n m : Nat) (fm : FM), bigs.length - m = n → DInv kf kt w0 iops pr bigs e0 eF Sm ds qf listed m fm w a →
    ∃ m' ext, DInv kf kt w0 iops pr bigs e0 eF Sm ds qf listed m' (fm ++ ext) w a ∧ ∀ b, bigs[m']? = some b → ¬ Lst listed b
  | 0, m, fm, hn, h => ⟨m, [], by simpa using h, fun b hb => by have := (List.getElem?_eq_some_iff.1 hb).1; omega⟩
  | n + 1, m, fm, hn, h => by
    have hlt : m < bigs.length := by omega
    have hb := List.getElem?_eq_getElem hlt
    by_cases hl : Lst listed bigs[m]
    · obtain ⟨o, ho, hp⟩ := h.pend m _ (Nat.le_refl m) hb hl
      obtain ⟨tag, cs, mk, h1, h2, h3, h4⟩ := hp.row
      have hR : R kf kt w0 (fm ++ [qf m]) (Sm (m + 1)) w := by
        rw [h1]
        exact h.rel.adopt hp.out hp.size hp.free (RowAt.kept (ext := [qf m]) rfl h3)
      have hsub : ∀ t, PDst iops bigs listed (m + 1) t → PDst iops bigs listed m t := fun t ⟨j, b, o, h5, h6⟩ => ⟨j, b, o, by omega, h6⟩
      have h' : DInv kf kt w0 iops pr bigs e0 eF Sm ds qf listed (m + 1) (fm ++ [qf m]) w a := by
        refine ⟨h.size, h.closed, hlt, ?_, h.tl, ?_, hR, ?_, ?_, h.ds⟩
        · intro j b hj hjm
          by_cases hjm' : j = m
          · subst hjm'; rw [hb] at hj; cases hj; exact hl
          · exact h.low j b hj (by omega)
        · intro t ht
          by_cases htd : o.dst = some t
          · refine ⟨fun _ => ?_, fun hn => absurd ⟨_, o, hl, ho, htd⟩ hn⟩
            by_cases htl : t < eF.length
            · obtain ⟨h5, h6⟩ := h4 t htd htl
              rw [h5, ← h.rel.len]
              exact h6 fm
            · have e1 : eF[t]? = none := by simp; omega
              have e2 : a.tmps[t]? = none := by have := h.tl; simp; omega
              rw [List.getD_eq_getElem?_getD, e1, Array.getD_eq_getD_getElem?, e2]
              exact undef_rel
          · have hnp : ¬ PDst iops bigs listed m t := by
              rintro ⟨j, b, o', h5, h6, h7, h8, h9⟩
              by_cases hjm : j = m
              · subst hjm; rw [hb] at h6; cases h6; rw [ho] at h8; cases h8; exact htd h9
              · exact ht ⟨j, b, o', by omega, h6, h7, h8, h9⟩
            exact ⟨fun hh => ((h.tmps t hnp).1 hh).mono, fun hh => ((h.tmps t hnp).2 hh).mono⟩
        · intro j b hjm hj hlb
          obtain ⟨o', ho', hp'⟩ := h.pend j b (by omega) hj hlb
          obtain ⟨tag', cs', mk', h5, h6, h7, h8⟩ := hp'.row
          refine ⟨o', ho', hp'.float, ⟨tag', cs', mk', h5, h6, RowAt.kept rfl h7, h8⟩, hp'.out, hp'.size, ?_⟩
          intro b2 k p hk hpp he
          rw [h1, getElem?_snoc] at hk
          rw [getElem?_snoc, h.rel.len] at hpp
          split at hk
          · rename_i hlt2; rw [if_pos hlt2] at hpp; exact hp'.free b2 k p hk hpp he
          · rename_i hlt2
            rw [if_neg hlt2] at hpp
            split at hk
            · rename_i he2; rw [if_pos he2] at hpp; cases hpp
              exact h.apart m _ j b (Nat.le_refl m) (by omega) hb hj hl hlb (by omega)
            · cases hk
        · intro j b j' b' hj hj' h5 h6 h7 h8 h9
          exact h.apart j b j' b' (by omega) (by omega) h5 h6 h7 h8 h9
      obtain ⟨m', ext, h5, h6⟩ := DInv.settle hs hinj hlen n (m + 1) (fm ++ [qf m]) (by omega) h'
      exact ⟨m', [qf m] ++ ext, by simpa using h5, h6⟩
    · exact ⟨m, [], by simpa using h, fun b hb' => by rw [hb] at hb'; cases hb'; exact hl⟩
end

set_option maxHeartbeats 2000000 in
theorem any_main {G : Base → Prop} {call : Call} (hcall : CallOk P kf kt G call) (hGm : Keeps G) (hG : G w0) {ops : Array Oper} {iops : List IOp} (hm : mapO (compOp P kf kt ops) ops.toList = some iops)
    {its : List DItem} (hs : SSA iops (ops.toList.map preds)) (hrow : okRow iops (ops.toList.map preds) [] its = true) (hall : ∀ i, i < iops.length → i ∈ opsOf its)
    (hbigs : okBigs iops (ancs [] (ops.toList.map preds)) (bigsOf iops its) = true) (hfloats : okFloats iops (ancs [] (ops.toList.map preds)) [] (bigsOf iops its) = true)
    (hreads : okReads iops (ancs [] (ops.toList.map preds)) (bigsOf iops its) (visits iops 0 its) = true)
    {e0 eF : Env} {Sm : Nat → St} (hlen : eF.length = e0.length) (hkeep : ∀ t, ¬ Hit iops (fun i => i < iops.length) t → eF.getD t (.tup []) = e0.getD t (.tup []))
    (hv : ∀ i k, (i, k) ∈ visits iops 0 its → Seen call iops (ops.toList.map preds) e0 eF Sm i k) {r : Option Nat} {Q : Exit → Act → World → Prop} {ds : List Deferred} :
    ∀ (fuel : Nat) (qf : Nat → Addr × Nat) (listed : Array Bool) (m : Nat) (fm : FM) (w : World) (a : Act), DInv kf kt w0 iops (ops.toList.map preds) (bigsOf iops its) e0 eF Sm ds qf listed m fm w a →
      (∀ b, (bigsOf iops its)[m]? = some b → ¬ Lst listed b) →
      cnt iops.length (fun i => !listed.getD i false) ≤ fuel →
      (∀ ext a' w', R kf kt w0 (fm ++ ext) (Sm (bigsOf iops its).length) w' → EnvR kf (fm ++ ext) eF a'.tmps → a'.defers = ds → Q .normal a' w') →
      wpAnyIn (FR r) 0 P .any ops Q fuel listed a w := by
  obtain ⟨hml, hmat⟩ := mapO_at hm
  have hsize : ops.size = iops.length := by simpa using hml
  have hblt : ∀ (j b : Nat), (bigsOf iops its)[j]? = some b → b < iops.length := by
    intro j b hb
    have h1 := bigs_mem its _ (List.mem_of_getElem? hb)
    rcases Nat.lt_or_ge b iops.length with h' | h'
    · exact h'
    · exfalso
      have h2 : iops[b]? = none := by simp; omega
      obtain ⟨k, hk⟩ := visits_op (iops := iops) its 0 _ h1.1
      obtain ⟨o, _, _, ho, _⟩ := hv _ _ hk
      rw [h2] at ho; cases ho
  -- all of them listed: the end
  have hend : ∀ (qf : Nat → Addr × Nat) (listed : Array Bool) (m : Nat) (fm : FM) (w : World) (a : Act), DInv kf kt w0 iops (ops.toList.map preds) (bigsOf iops its) e0 eF Sm ds qf listed m fm w a →
      (∀ b, (bigsOf iops its)[m]? = some b → ¬ Lst listed b) → (∀ i, i < iops.length → Lst listed i) →
      (∀ ext a' w', R kf kt w0 (fm ++ ext) (Sm (bigsOf iops its).length) w' → EnvR kf (fm ++ ext) eF a'.tmps → a'.defers = ds → Q .normal a' w') → Q .normal a w := by
    intro qf listed m fm w a hI htop hl hQ
    have hmm : m = (bigsOf iops its).length := by
      rcases Nat.lt_or_ge m (bigsOf iops its).length with h | h
      · exfalso
        have hb := List.getElem?_eq_getElem h
        exact htop _ hb (hl _ (hblt m _ hb))
      · have := hI.le; omega
    subst hmm
    refine hQ [] a w (by simpa using hI.rel) ?_ hI.ds
    rw [List.append_nil]
    refine ⟨by rw [hI.tl, hlen], fun t => ?_⟩
    have hnp : ¬ PDst iops (bigsOf iops its) listed (bigsOf iops its).length t := by
      rintro ⟨j, b, o, h1, h2, _⟩
      have := (List.getElem?_eq_some_iff.1 h2).1; omega
    by_cases hh : Hit iops (Lst listed) t
    · exact (hI.tmps t hnp).1 hh
    · rw [hkeep t fun ⟨j, o, h1, h2, h3⟩ => hh ⟨j, o, hl j h1, h2, h3⟩]
      exact (hI.tmps t hnp).2 hh
  -- none ready: all of them listed
  have hnone : ∀ (listed : Array Bool), listed.size = iops.length → Region.ready .any ops listed = [] → ∀ i, i < iops.length → Lst listed i := by
    intro listed hsz hr i
    induction i using Nat.strongRecOn with
    | _ i ih =>
      intro hi
      cases hli : listed.getD i false with
      | true => exact hli
      | false =>
        exfalso
        have ho : ops[i]? = some (ops[i]'(by omega)) := Array.getElem?_eq_getElem (by omega)
        have : i ∈ Region.ready .any ops listed := by
          rw [mem_ready]
          refine ⟨?_, _, ho, fun e he hb => ?_⟩
          · have hlt : i < listed.size := by omega
            simp [hlt] at hli ⊢; exact hli
          · have hps : (ops.toList.map preds)[i]? = some (preds (ops[i]'(by omega))) := by simp [ho]
            have hmem : e.on ∈ preds (ops[i]'(by omega)) := by
              unfold preds
              exact List.mem_map.2 ⟨e, List.mem_filter.2 ⟨by simpa using he, hb⟩, rfl⟩
            have hlt := hs.lt i _ hps _ hmem
            exact ih e.on hlt (by omega)
        rw [hr] at this
        cases this
  intro fuel
  induction fuel with
  | zero =>
    intro qf listed m fm w a hI htop hc hQ
    have hl : ∀ i, i < iops.length → Lst listed i := fun i hi => by
      have := cnt_zero _ _ (Nat.le_zero.1 hc) i hi
      rw [Bool.not_eq_false'] at this; exact this
    refine ⟨?_, hend qf listed m fm w a hI htop hl hQ⟩
    rcases hr : Region.ready .any ops listed with _ | ⟨i, rs⟩
    · rfl
    · exfalso
      have hi : i ∈ Region.ready .any ops listed := by rw [hr]; simp
      obtain ⟨h1, o, h2, _⟩ := mem_ready.1 hi
      have hlt : i < iops.length := by rw [← hsize]; exact (Array.getElem?_eq_some_iff.1 h2).1
      have := hl i hlt
      have hlt' : i < listed.size := by rw [hI.size]; exact hlt
      simp [Lst, hlt'] at this h1
      rw [this] at h1; cases h1
  | succ fuel ih =>
    intro qf listed m fm w a hI htop hc hQ
    refine ⟨fun hr => hend qf listed m fm w a hI htop (hnone listed hI.size hr) hQ, fun i hi => ?_⟩
    obtain ⟨hun, o, ho, hedges⟩ := mem_ready.1 hi
    have hlt : i < iops.length := by rw [← hsize]; exact (Array.getElem?_eq_some_iff.1 ho).1
    have hltl : i < listed.size := by rw [hI.size]; exact hlt
    have hunl : ¬ Lst listed i := by
      simp [Lst, hltl] at hun ⊢; exact hun
    obtain ⟨io, hio, hcomp⟩ := hmat i o (by simpa using ho)
    have hps : (ops.toList.map preds)[i]? = some (preds o) := by simp [ho]
    have hpl : ∀ p ∈ preds o, Lst listed p := by
      intro p hp
      unfold preds at hp
      obtain ⟨e, he, rfl⟩ := List.mem_map.1 hp
      obtain ⟨h1, h2⟩ := List.mem_filter.1 he
      exact hedges e (by simpa using h1) h2
    have hL : ∀ j, Lst listed j → j < (ops.toList.map preds).length := fun j hj => by rw [hs.len, ← hI.size]; exact lst_lt hj
    have hps' : ∀ ps, (ops.toList.map preds)[i]? = some ps → ∀ p ∈ ps, Lst listed p := by intro ps h; rw [hps] at h; cases h; exact hpl
    have han := ready_an hs.lt hI.closed hL hps hpl
    have hT := envL_getD (iops := iops) (e0 := e0) hlen (Lst listed)
    have hlook := looks_of hs hT hI.closed hL hio hunl hps'
    have hE := hI.env hlen
    have hgd : iops.getD i badOp = io := by rw [List.getD_eq_getElem?_getD, hio]; rfl
    have hdst : io.dst = o.dst := by
      unfold compOp at hcomp
      simp only [Option.map_eq_some_iff] at hcomp
      obtain ⟨_, _, rfl⟩ := hcomp
      rfl
    -- what was taken ahead of its turn is not behind this one
    have hfree : ∀ (j b : Nat), m ≤ j → (bigsOf iops its)[j]? = some b → Lst listed b → b ∉ (ancs [] (ops.toList.map preds)).getD i [] := by
      intro j b hmj hb hl hin
      obtain ⟨ob, hob, hp⟩ := hI.pend j b hmj hb hl
      have hfl : (iops.getD b badOp).floats = true := by rw [List.getD_eq_getElem?_getD, hob]; exact hp.float
      have hmlt : m < (bigsOf iops its).length := by have := (List.getElem?_eq_some_iff.1 hb).1; omega
      have hbm := List.getElem?_eq_getElem hmlt
      by_cases hjm : j = m
      · subst hjm; rw [hbm] at hb; cases hb; exact htop _ hbm hl
      · exact htop _ hbm (han _ ((okFloats_spec hfloats j b hb hfl i hlt hin).2 m _ (by omega) hbm))
    have hreadsNP : ∀ t ∈ io.reads, ¬ PDst iops (bigsOf iops its) listed m t := by
      rintro t ht ⟨j, b, ob, hmj, hb, hl, hob, hd⟩
      have hne : b ≠ i := fun h => hunl (h ▸ hl)
      rcases hs.sees b ob t i io hob hd hio hne ht with h | h
      · exact hunl (closed_an hs.lt hI.closed hL b hl i h.2)
      · exact hfree j b hmj hb hl h
    have hlookP : Looks iops (ops.toList.map preds) e0 eF i io (envP iops (bigsOf iops its) e0 eF listed m) := by
      intro t ht
      rw [envP_getD (hreadsNP t ht)]
      exact hlook t ht
    -- the blocks that came early are not to be touched
    let X : Nat → Prop := fun k => ∃ (j b : Nat), m ≤ j ∧ (bigsOf iops its)[j]? = some b ∧ Lst listed b ∧ k = (qf j).1.block
    have hX : ∀ k, X k → k < w.heap.size := by
      rintro k ⟨j, b, hmj, hb, hl, rfl⟩
      obtain ⟨_, _, hp⟩ := hI.pend j b hmj hb hl
      exact hp.size
    have hRB := hI.rel.rebase hX (fun b k p hk hp he => by
      rintro ⟨j, b', hmj, hb, hl, h⟩
      obtain ⟨_, _, hpe⟩ := hI.pend j b' hmj hb hl
      exact hpe.free b k p hk hp he h)
    have hsetL := lst_set hltl
    have hseen : ∀ k, Seen call iops (ops.toList.map preds) e0 eF Sm i k → ∃ v, exOp call io (envP iops (bigsOf iops its) e0 eF listed m) (Sm k) = some (v, if isSmall io.k then Sm k else Sm (k + 1)) ∧
        (∀ d, io.dst = some d → d < e0.length → v = eF.getD d (.tup [])) := by
      rintro k ⟨o', e', v, h1, h2, h3, h4⟩
      rw [hio] at h1; cases h1
      exact ⟨v, by rw [exOp_congr (hlookP.same h2)]; exact h3, h4⟩
    have hcnt : cnt iops.length (fun j => !(listed.setIfInBounds i true).getD j false) ≤ fuel := by
      have := cnt_less iops.length (fun j => !listed.getD j false) (fun j => !(listed.setIfInBounds i true).getD j false) i hlt (by simpa [Lst] using hunl) (by simp [hltl])
        fun j hj => by rw [getD_set_ne false (Ne.symm hj)]
      omega
    have hclosed' : Closed (ops.toList.map preds) (Lst (listed.setIfInBounds i true)) := by
      intro j ps hjps hj p hp
      rw [hsetL] at hj ⊢
      rcases hj with rfl | hj
      · exact .inr (hps' ps hjps p hp)
      · exact .inr (hI.closed j ps hjps hj p hp)
    have hbinj := fun (j k i : Nat) => bigs_inj (iops := iops) its [] hrow j k i
    -- temporaries that are not this one's
    have hother : ∀ (u : Value) (t : Nat), io.dst ≠ some t → (a.put o.dst u).tmps.getD t undef = a.tmps.getD t undef := by
      intro u t hti
      rw [← hdst]
      cases hd : io.dst with
      | none => rfl
      | some d =>
        have hne : d ≠ t := fun h => hti (by rw [hd, h])
        simp [Act.put, Array.getD_eq_getD_getElem?, hne]
    have hown : ∀ (u : Value) (t : Nat), io.dst = some t → t < a.tmps.size → (a.put o.dst u).tmps.getD t undef = u := by
      intro u t hti htl
      rw [← hdst, hti]
      simp [Act.put, Array.getD_eq_getD_getElem?, htl]
    have htl' : ∀ u, (a.put o.dst u).tmps.size = e0.length := by intro u; cases o.dst <;> simp [Act.put, hI.tl]
    by_cases hearly : ∃ k, m < k ∧ (bigsOf iops its)[k]? = some i
    · -- it comes ahead of its turn
      obtain ⟨k, hmk, hk⟩ := hearly
      have hbig : isSmall io.k = false := by rw [← hgd]; exact (bigs_mem its _ (List.mem_of_getElem? hk)).2
      have hmlt : m < (bigsOf iops its).length := by have := (List.getElem?_eq_some_iff.1 hk).1; omega
      have hbm := List.getElem?_eq_getElem hmlt
      have hfl : io.floats = true := by
        rcases okBigs_spec hbigs m k _ _ hbm hk hmk with h | h
        · exact absurd (han _ h) (htop _ hbm)
        · rw [hgd] at h; exact h
      obtain ⟨k', hk1, hk2⟩ := visits_big (iops := iops) its 0 i (hall i hlt) (by rw [hgd]; exact hbig)
      have hkk : k' = k := hbinj k' k i hk1 hk
      subst hkk
      rw [Nat.zero_add] at hk2
      obtain ⟨v, hx, hval⟩ := hseen k' (hv i k' hk2)
      rw [hbig] at hx
      simp only [Bool.false_eq_true, if_false] at hx
      obtain ⟨tag, cs, mk, hS, hvm, hmk', hrun, hbelow⟩ := floats_run hfl hx
      refine (sim_one (i := i) hcall (hGm w0 w X hX _ hI.rel.below hG) hcomp hE hRB (hrun (Sm m)) ?_ ho).2
      intro ext u w' hR' hvu
      have hext : ext.length = 1 := by
        have h8 := hI.rel.len
        have h9 := hR'.len
        rw [List.length_append, List.length_append] at h9
        simp only [List.length_cons, List.length_nil] at h9
        omega
      obtain ⟨q, rfl⟩ : ∃ q, ext = [q] := by
        match ext, hext with
        | [q], _ => exact ⟨q, rfl⟩
      have hflen := hI.rel.len
      have hnew : (Sm m ++ [Blk.own tag cs])[(Sm m).length]? = some (.own tag cs) := by simp
      have hnewf : (fm ++ [q])[(Sm m).length]? = some q := by rw [← hflen]; simp
      have hrow' : RowAt kf kt (fm ++ [q]) w' tag cs q := hR'.blk _ _ _ hnew hnewf
      have hcsb : AV.belowsB fm.length cs = true := hbelow _ fun t _ => (hE.rel t).below
      have hRm : R kf kt w0 fm (Sm m) w' := (hI.rel).unbase (hRB.pop hext hR')
      have hlowq := hR'.low _ _ _ hnew hnewf rfl
      have hkeepq : ∀ (j b : Nat), m ≤ j → (bigsOf iops its)[j]? = some b → Lst listed b → w'.heap[(qf j).1.block]? = w.heap[(qf j).1.block]? := by
        intro j b hmj hb hl
        exact hR'.below.block _ (.inr ⟨j, b, hmj, hb, hl, rfl⟩)
      have hnk : ∀ (j b : Nat), (bigsOf iops its)[j]? = some b → Lst listed b → j ≠ k' := by
        intro j b hb hl h
        subst h; rw [hk] at hb; cases hb; exact hunl hl
      have hsame : ∀ (j b : Nat), (bigsOf iops its)[j]? = some b → Lst (listed.setIfInBounds i true) b → (j = k' ∧ b = i) ∨ (j ≠ k' ∧ Lst listed b) := by
        intro j b hb hl
        rcases (hsetL b).1 hl with h | h
        · subst h; exact .inl ⟨hbinj j k' b hb hk, rfl⟩
        · exact .inr ⟨hnk j b hb h, h⟩
      refine ih (fun j => if j = k' then q else qf j) _ m fm w' _ ?_ ?_ hcnt hQ
      · refine ⟨by simp [hI.size], hclosed', hI.le, fun j b hb hj => (hsetL b).2 (.inr (hI.low j b hb hj)), htl' u, ?_, hRm, ?_, ?_, by rw [put_defers']; exact hI.ds⟩
        · intro t ht
          have hti : io.dst ≠ some t := fun h => ht ⟨k', i, io, by omega, hk, (hsetL i).2 (.inl rfl), hio, h⟩
          have hnp : ¬ PDst iops (bigsOf iops its) listed m t := fun ⟨j, b, ob, h1, h2, h3, h4⟩ => ht ⟨j, b, ob, h1, h2, (hsetL b).2 (.inr h3), h4⟩
          rw [hother u t hti]
          refine ⟨?_, fun hn => (hI.tmps t hnp).2 fun ⟨j, oj, hj, hoj, hd⟩ => hn ⟨j, oj, (hsetL j).2 (.inr hj), hoj, hd⟩⟩
          rintro ⟨j, oj, hj, hoj, hd⟩
          rcases (hsetL j).1 hj with rfl | hj
          · rw [hio] at hoj; cases hoj; exact absurd hd hti
          · exact (hI.tmps t hnp).1 ⟨j, oj, hj, hoj, hd⟩
        · intro j b hmj hb hl
          rcases hsame j b hb hl with ⟨rfl, rfl⟩ | ⟨hjk, hl⟩
          · rw [if_pos rfl]
            refine ⟨io, hio, hfl, ⟨tag, cs, mk, hS, hmk', RowAt.narrow hcsb hrow', fun d hd hdl => ⟨?_, fun fm' => ?_⟩⟩, fun h => hlowq.1 (.inl h), hlowq.2, ?_⟩
            · rw [← hval d hd (by omega), hvm]
            · rw [hown u d hd (by rw [hI.tl]; omega)]
              rw [← hflen] at hvu
              exact shape_move hmk' hvu
            · intro b2 k2 p hk2 hp2 he2
              have hlt2 := (List.getElem?_eq_some_iff.1 hk2).1
              refine hR'.sep b2 _ k2 _ p q (by rw [List.getElem?_append_left hlt2]; exact hk2) hnew (by rw [List.getElem?_append_left (by omega)]; exact hp2) hnewf he2 rfl (by omega)
          · rw [if_neg hjk]
            obtain ⟨ob, hob, hp⟩ := hI.pend j b hmj hb hl
            obtain ⟨tag2, cs2, mk2, h5, h6, h7, h8⟩ := hp.row
            refine ⟨ob, hob, hp.float, ⟨tag2, cs2, mk2, h5, h6, ?_, fun d hd hdl => ?_⟩, hp.out, Nat.lt_of_lt_of_le hp.size hR'.below.size, hp.free⟩
            · have := RowAt.kept (ext := []) (w' := w') (hkeepq j b hmj hb hl) h7
              simpa using this
            · have hdi : io.dst ≠ some d := by
                have hbi : b ≠ i := fun h => hunl (h ▸ hl)
                exact hs.dst b ob d i io hob hd hio hbi
              rw [hother u d hdi]
              exact h8 d hd hdl
        · intro j b j' b' hmj hmj' hb hb' hl hl' hne
          rcases hsame j b hb hl with ⟨h8, _⟩ | ⟨hjk, hl1⟩ <;> rcases hsame j' b' hb' hl' with ⟨h9, _⟩ | ⟨hjk', hl1'⟩
          · exact absurd (h8.trans h9.symm) hne
          · rw [if_pos h8, if_neg hjk']
            intro h
            exact hlowq.1 (.inr ⟨j', b', hmj', hb', hl1', h⟩)
          · rw [if_neg hjk, if_pos h9]
            intro h
            exact hlowq.1 (.inr ⟨j, b, hmj, hb, hl1, h.symm⟩)
          · rw [if_neg hjk, if_neg hjk']
            exact hI.apart j b j' b' hmj hmj' hb hb' hl1 hl1' hne
      · intro b hb hl
        rcases hsame m b hb hl with ⟨h, _⟩ | ⟨_, hl⟩
        · omega
        · exact htop b hb hl
    · -- it comes in its turn
      have hstep : ∃ v, exOp call io (envP iops (bigsOf iops its) e0 eF listed m) (Sm m) = some (v, if isSmall io.k then Sm m else Sm (m + 1)) ∧ (∀ d, io.dst = some d → d < e0.length → v = eF.getD d (.tup [])) ∧
          (isSmall io.k = false → (bigsOf iops its)[m]? = some i) := by
        by_cases hsm : isSmall io.k = true
        · by_cases hpu : isPure io.k = true
          · obtain ⟨k, hk⟩ := visits_op (iops := iops) its 0 i (hall i hlt)
            obtain ⟨v, h1, h2⟩ := hseen k (hv i k hk)
            rw [if_pos hsm] at h1
            exact ⟨v, by rw [if_pos hsm]; exact (exOp_pure hpu h1).2 _, h2, fun h => by rw [hsm] at h; cases h⟩
          · have hrd : isRead io.k = true := by
              unfold isSmall at hsm; rw [Bool.or_eq_true] at hsm; exact hsm.resolve_left hpu
            have hmem : (i, m) ∈ visits iops 0 its := by
              unfold okReads at hreads
              have h1 := all_zipIdx hreads hio
              simp only [hrd, Bool.not_true, Bool.false_or, List.all_eq_true] at h1
              have h2 := h1 m (List.mem_range.2 (by have := hI.le; omega))
              simp only [Bool.or_eq_true, Bool.not_eq_true', List.contains_iff_mem] at h2
              rcases h2 with h2 | h2
              · exfalso
                rw [← Bool.not_eq_true] at h2
                apply h2
                simp only [Bool.and_eq_true, List.all_eq_true, Bool.not_eq_true']
                refine ⟨fun b hb => ?_, fun b hb => ?_⟩
                · obtain ⟨j, hj⟩ := List.getElem?_of_mem hb
                  rw [List.getElem?_take] at hj
                  split at hj
                  · rename_i hjm
                    have := hI.low j b hj hjm
                    rw [← Bool.not_eq_true, List.contains_iff_mem]
                    intro hin
                    exact hunl (closed_an hs.lt hI.closed hL b this i hin)
                  · cases hj
                · obtain ⟨j, hj⟩ := List.getElem?_of_mem hb
                  rw [List.getElem?_drop] at hj
                  rw [← Bool.not_eq_true, List.contains_iff_mem]
                  intro hin
                  exact hfree _ b (by omega) hj (han b hin) hin
              · exact h2
            obtain ⟨v, h1, h2⟩ := hseen m (hv i m hmem)
            exact ⟨v, h1, h2, fun h => by rw [hsm] at h; cases h⟩
        · have hsm' : isSmall io.k = false := by simpa using hsm
          obtain ⟨k, h1, h2⟩ := visits_big (iops := iops) its 0 i (hall i hlt) (by rw [hgd]; exact hsm')
          rw [Nat.zero_add] at h2
          have hkm : k = m := by
            rcases Nat.lt_trichotomy k m with h | h | h
            · exact absurd (hI.low k i h1 h) hunl
            · exact h
            · exact absurd ⟨k, h, h1⟩ hearly
          subst hkm
          obtain ⟨v, h3, h4⟩ := hseen k (hv i k h2)
          exact ⟨v, h3, h4, fun _ => h1⟩
      obtain ⟨v, hx, hval, hbig⟩ := hstep
      refine (sim_one (i := i) hcall (hGm w0 w X hX _ hI.rel.below hG) hcomp hE hRB hx ?_ ho).2
      intro ext u w' hR' hvu
      have hRm := (hI.rel).unbase hR'
      have hweak : DInv kf kt w0 iops (ops.toList.map preds) (bigsOf iops its) e0 eF Sm ds qf (listed.setIfInBounds i true) (if isSmall io.k then m else m + 1) (fm ++ ext) w' (a.put o.dst u) := by
        have hle : m ≤ (if isSmall io.k then m else m + 1) := by split <;> omega
        have hold : ∀ (j b : Nat), (if isSmall io.k then m else m + 1) ≤ j → (bigsOf iops its)[j]? = some b → Lst (listed.setIfInBounds i true) b → Lst listed b := by
          intro j b hmj hb hl
          rcases (hsetL b).1 hl with h | h
          · exfalso
            subst h
            by_cases hsm : isSmall io.k = true
            · have := (bigs_mem its _ (List.mem_of_getElem? hb)).2
              rw [hgd, hsm] at this; cases this
            · rw [if_neg hsm] at hmj
              have := hbinj j m b hb (hbig (by simpa using hsm)); omega
          · exact h
        refine ⟨by simp [hI.size], hclosed', ?_, ?_, htl' u, ?_, ?_, ?_, ?_, by rw [put_defers']; exact hI.ds⟩
        · split
          · exact hI.le
          · rename_i hsm
            have := (List.getElem?_eq_some_iff.1 (hbig (by simpa using hsm))).1
            omega
        · intro j b hb hj
          rw [hsetL]
          by_cases hsm : isSmall io.k = true
          · rw [if_pos hsm] at hj; exact .inr (hI.low j b hb hj)
          · rw [if_neg hsm] at hj
            by_cases hjm : j = m
            · subst hjm; rw [hbig (by simpa using hsm)] at hb; cases hb; exact .inl rfl
            · exact .inr (hI.low j b hb (by omega))
        · intro t ht
          by_cases hti : io.dst = some t
          · refine ⟨fun _ => ?_, fun hn => absurd ⟨i, io, (hsetL i).2 (.inl rfl), hio, hti⟩ hn⟩
            by_cases htl : t < a.tmps.size
            · rw [hown u t hti htl, ← hval t hti (by rw [← hI.tl]; exact htl)]
              exact hvu
            · have e1 : eF[t]? = none := by have := hI.tl; simp; omega
              have e2 : (a.put o.dst u).tmps[t]? = none := by have := htl' u; have := hI.tl; simp; omega
              rw [List.getD_eq_getElem?_getD, e1, Array.getD_eq_getD_getElem?, e2]
              exact undef_rel
          · have hnp : ¬ PDst iops (bigsOf iops its) listed m t := by
              rintro ⟨j, b, ob, h1, h2, h3, h4, h5⟩
              by_cases hj : (if isSmall io.k then m else m + 1) ≤ j
              · exact ht ⟨j, b, ob, hj, h2, (hsetL b).2 (.inr h3), h4, h5⟩
              · have hjm : j = m := by split at hj <;> omega
                subst hjm
                exact htop b h2 h3
            rw [hother u t hti]
            refine ⟨?_, fun hn => ((hI.tmps t hnp).2 fun ⟨j, oj, hj, hoj, hd⟩ => hn ⟨j, oj, (hsetL j).2 (.inr hj), hoj, hd⟩).mono⟩
            rintro ⟨j, oj, hj, hoj, hd⟩
            rcases (hsetL j).1 hj with rfl | hj
            · rw [hio] at hoj; cases hoj; exact absurd hd hti
            · exact ((hI.tmps t hnp).1 ⟨j, oj, hj, hoj, hd⟩).mono
        · by_cases hsm : isSmall io.k = true
          · rw [if_pos hsm] at hRm ⊢; exact hRm
          · rw [if_neg hsm] at hRm ⊢; exact hRm
        · intro j b hmj hb hl
          have hl := hold j b hmj hb hl
          have hmj' : m ≤ j := by omega
          obtain ⟨ob, hob, hp⟩ := hI.pend j b hmj' hb hl
          obtain ⟨tag2, cs2, mk2, h5, h6, h7, h8⟩ := hp.row
          refine ⟨ob, hob, hp.float, ⟨tag2, cs2, mk2, h5, h6, ?_, fun d hd hdl => ?_⟩, hp.out, Nat.lt_of_lt_of_le hp.size hR'.below.size, ?_⟩
          · exact RowAt.kept (hR'.below.block _ (.inr ⟨j, b, hmj', hb, hl, rfl⟩)) h7
          · have hdi : io.dst ≠ some d := by
              have hbi : b ≠ i := fun h => hunl (h ▸ hl)
              exact hs.dst b ob d i io hob hd hio hbi
            rw [hother u d hdi]
            exact h8 d hd hdl
          · intro b2 k2 p hk2 hp2 he2 h
            have hk3 : (if isSmall io.k = true then Sm m else Sm (m + 1))[b2]? = some k2 := by
              by_cases hsm : isSmall io.k = true
              · rw [if_pos hsm] at hk2 ⊢; exact hk2
              · rw [if_neg hsm] at hk2 ⊢; exact hk2
            have hgoal := hR'.low b2 k2 p hk3 hp2 he2
            exact hgoal.1 (.inr ⟨j, b, hmj', hb, hl, h⟩)
        · intro j b j' b' hmj hmj' hb hb' hl hl' hne
          exact hI.apart j b j' b' (by omega) (by omega) hb hb' (hold j b hmj hb hl) (hold j' b' hmj' hb' hl') hne
      obtain ⟨m', ext2, h9, h10⟩ := hweak.settle hs hbinj hlen _ _ _ rfl
      exact ih qf _ m' _ w' _ h9 h10 hcnt fun ext3 a' w2 h1 h2 h3 => hQ (ext ++ ext2 ++ ext3) a' w2 (by simpa using h1) (by simpa using h2) h3

theorem sim_dreg {G : Base → Prop} {call : AV → List AV → St → Option (AV × St)} (hcall : CallOk P kf kt G call) (hGm : Keeps G) (hG : G w0) {ops : Array Oper} {iops : List IOp} {id : Nat}
    {e e' : Env} {S S' : St} {fm : FM} {w : World} {a : Act} {r : Option Nat} {Q : Exit → Act → World → Prop} (hm : mapO (compOp P kf kt ops) ops.toList = some iops)
    (hok : okSched iops (ops.toList.map preds) (sched iops (ops.toList.map preds)) = true) (hP : P.follows .mixedOrders = true)
    (hR : R kf kt w0 fm S w) (he : EnvR kf fm e a.tmps) (hx : exItems call iops (sched iops (ops.toList.map preds)) e S = some (e', S'))
    (hQ : ∀ ext a' w', R kf kt w0 (fm ++ ext) S' w' → EnvR kf (fm ++ ext) e' a'.tmps → a'.defers = a.defers → Q .normal a' w') :
    (Code.region id ops true).wpIn (FR r) 0 P Q a w := by
  generalize hits : sched iops (ops.toList.map preds) = its at hok hx
  unfold okSched at hok
  simp only [Bool.and_eq_true] at hok
  obtain ⟨⟨⟨⟨⟨h1, h2⟩, h3⟩, h4⟩, h45⟩, h5⟩ := hok
  have hs := ssa_of h1
  have hall : ∀ i, i < iops.length → i ∈ opsOf its := by
    intro i hi
    simp only [List.all_eq_true] at h3
    exact List.contains_iff_mem.1 (h3 i (List.mem_range.2 hi))
  obtain ⟨hml, _⟩ := mapO_at hm
  have hsize : ops.size = iops.length := by simpa using hml
  obtain ⟨hlen, hkeep⟩ := items_keep _ _ _ _ _ hx
  have hno : ∀ t, ¬ Hit iops (· ∈ ([] : List Nat)) t := fun t ⟨j, o, hj, _⟩ => by cases hj
  obtain ⟨Sm, h6, h7, h8⟩ := items_visits hs its [] 0 e S (fun t => ⟨fun h => absurd h (hno t), fun _ => rfl⟩) rfl (fun i ps _ hi => by cases hi) (fun i hi => by cases hi) h2 hx
  rw [Nat.zero_add] at h7
  refine wpIn_region_any hP ?_
  have hL : ∀ i, ¬ Lst (Array.replicate ops.size false) i := by
    intro i hi
    have hlt := lst_lt hi
    simp only [Array.size_replicate] at hlt
    simp [Lst, hlt] at hi
  refine any_main hcall hGm hG hm hs h2 hall h4 h45 h5 hlen (fun t ht => hkeep t fun ⟨j, o, hj, hoj, hd⟩ => ht ⟨j, o, (List.getElem?_eq_some_iff.1 hoj).1, hoj, hd⟩) h8 (ds := a.defers) ops.size (fun _ => (⟨0, 0, none⟩, 0)) _ 0 fm _ a ?_
    (fun b _ => hL b) ?_ fun ext a' w' h9 h10 h11 => hQ ext a' w' (h7 ▸ h9) h10 h11
  · refine ⟨by simp [hsize], fun i ps _ hi => absurd hi (hL i), Nat.zero_le _, fun j b _ h => by omega, he.len.symm, fun t _ => ?_, by rw [h6]; exact hR.drawn _, fun j b _ _ h => absurd h (hL b), fun j b j' b' _ _ _ _ h => absurd h (hL b), rfl⟩
    exact ⟨fun ⟨j, o, hj, _⟩ => absurd hj (hL j), fun _ => he.rel t⟩
  · rw [hsize]
    have : ∀ (n : Nat) (f : Nat → Bool), cnt n f ≤ n := by
      intro n f
      induction n with
      | zero => simp [cnt]
      | succ n ih => simp only [cnt]; split <;> omega
    exact this _ _
end
end Am
