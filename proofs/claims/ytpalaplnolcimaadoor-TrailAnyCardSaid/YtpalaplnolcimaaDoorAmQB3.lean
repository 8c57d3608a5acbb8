/- Walks: nodes alike, nodes copied. -/
import Derived.Test.YtpalaplnolcimaaDoorAmQB2
set_option linter.unusedSimpArgs false
set_option linter.unusedVariables false
namespace Am.F
open Go Am
theorem fApp_mv {β : Type} {h : H} {lo hi es bytes n : Nat} {v x : AV} {cs new : List AV} {k : K β} {R : Option β} (ho : OwnAt h lo hi es v cs) (hh : hi ≤ h.n) (hs : ∀ c : Nat → List AV → Option β, fSrc es x h c = c n new)
    (hl : new.length = n * es) (hr : cs.length + n < room) (hes : 0 < es) (hb : bytes ≤ 1024) (hn : n ≠ 0)
    (H1 : ∀ l h', h'.get h.n = .own 0 (cs ++ new) → h'.n = h.n + 1 → (cs ++ new).length = l * es → (∀ i, i < h.n → (i < lo ∨ hi ≤ i) → h'.get i = h.get i) → k (.sl h.n 0 l l (some es)) h' = R) : fApp 0 es bytes v x h k = R := by
  unfold fApp
  rw [hs]
  rcases ho with ⟨rfl, rfl⟩ | ⟨b, l, rfl, h4, h5, h6, h7, h8⟩
  · show cond (Nat.beq n 0) _ (cond (Nat.ble (Nat.succ n) room) (cond (Nat.ble bytes 1024) (newB h (.own 0 new) fun b h => k (.sl b 0 n n (some es)) h) none) none) = R
    rw [beq_eq, decide_eq_false hn, ble_eq, decide_eq_true (by simp at hr; omega), ble_eq, decide_eq_true hb, newB_p]
    exact H1 n _ (by rw [get_push_eq rfl]; rfl) (by rw [H.n_push]) (by simpa using hl) fun i hi _ => get_push_ne (by omega)
  · have hle : l ≤ cs.length := by rw [h7]; exact Nat.le_mul_of_pos_right l hes
    simp (disch := omega) only [fGrow, aSl, frc_eq, ble_eq, beq_eq, cond_pos, cond_neg, Nat.add_eq, Nat.mul_eq, Nat.zero_add, Nat.succ_eq_add_one, cells_eq, ownd_eq, h6, cells_own, ownOf_own, oSome_v, lenF_eq, newB_p]
    have e : appF (takeF (l * es) (dropF 0 cs)) new = cs ++ new := by
      rw [appF_eq, takeF_eq, dropF_eq, List.drop_zero, List.take_of_length_le (by show cs.length ≤ l * es; omega)]
    rw [e]
    have := H1 (l + n) ((h.set b .dead).push (.own 0 (cs ++ new))) (by rw [get_push_eq (by rw [H.n_set])]) (by rw [H.n_push, H.n_set]) (by rw [List.length_append, h7, hl, Nat.add_mul]) fun i hi hw => by
      rw [get_push_ne (by rw [H.n_set]; omega), get_set_ne (by omega)]
    simp only [decide_true, cond_true]
    exact this
def ndCells (x : Nd) (w : AV) : List AV := [.int .i64 x.fn, .int .i64 x.parent, w, .str x.res]
def NdsAt (h : H) (v : AV) (xs : List Nd) : Prop := (v = .nils ∧ xs = []) ∨ ∃ b o m g us, v = .sl b o xs.length m g ∧ b < h.n ∧ (h.get b).cells = some us ∧ o + xs.length * 4 ≤ us.length ∧
  ∀ j x, xs[j]? = some x → ∃ w, (us.drop (o + j * 4)).take 4 = ndCells x w ∧ SlAt h w (strs x.args)
theorem NdsAt.ext {h h' : H} {v : AV} {xs : List Nd} (hs : NdsAt h v xs) (e : Ext h h') : NdsAt h' v xs := by
  rcases hs with hs | ⟨b, o, m, g, us, h1, h2, h3, h4, h5⟩
  · exact .inl hs
  · refine .inr ⟨b, o, m, g, us, h1, Nat.lt_of_lt_of_le h2 e.n, by rw [e.get b h2]; exact h3, h4, fun j x hx => ?_⟩
    obtain ⟨w, h6, h7⟩ := h5 j x hx
    exact ⟨w, h6, h7.ext e⟩
section
variable {β : Type} {t : ETree}
def sameNd (x y : Nd) : Bool := decide (x.fn = y.fn) && decide (x.parent = y.parent) && decide (x.args = y.args) && decide (x.res = y.res)
theorem GB.w166 (TB : GB t) (T : GA t) (n : Nat) {h : H} {a b : AV} {x y : Nd} (hx : NdAt h a x) (hy : NdAt h b y) (hl : x.args.length ≤ 9223372036854775807) (hn : x.args.length + 4 ≤ n) :
    Sp (β := β) (fRunS t stdI n (.fn 166 []) [a, b] h) fun u h' => Ext h h' ∧ u = .bool (sameNd x y) := by
  intro k R hk
  obtain ⟨m, rfl⟩ : ∃ m, n = m + 1 := ⟨n - 1, by omega⟩
  obtain ⟨v, rfl, hv⟩ := hx
  obtain ⟨w, rfl, hw⟩ := hy
  rw [TB.c166]; unfold f166
  simp (disch := first | omega | (simp only [disM] <;> omega) | assumption) only [↓run, ↓runM, run, runM, Nat.reduceAdd, Nat.reduceMul, Int.reduceToNat, nodeB]
  have e0 : Ext h ((h.push (.own 0 [.int .i64 x.fn, .int .i64 x.parent, v, .str x.res])).push (.own 0 [.int .i64 y.fn, .int .i64 y.parent, w, .str y.res])) := ((Ext.refl h).push _).push _
  have hs15 := fun kk : K β => T.w15 m (hv.ext e0) (hw.ext e0) (by omega) (by omega) kk
  by_cases c1 : x.fn = y.fn
  · by_cases c2 : x.parent = y.parent
    · simp (disch := first | omega | (simp only [disM] <;> omega) | assumption) only [↓run, ↓runM, run, runM, Nat.reduceAdd, Nat.reduceMul, Int.reduceToNat, eq_true c1, eq_true c2, hs15]
      by_cases c3 : x.args = y.args
      · simp (disch := first | omega | (simp only [disM] <;> omega) | assumption) only [↓run, ↓runM, run, runM, Nat.reduceAdd, Nat.reduceMul, Int.reduceToNat, eq_true c3]
        exact hk _ _ ⟨e0, by unfold sameNd; simp [c1, c2, c3]⟩
      · simp (disch := first | omega | (simp only [disM] <;> omega) | assumption) only [↓run, ↓runM, run, runM, Nat.reduceAdd, Nat.reduceMul, Int.reduceToNat, c3]
        exact hk _ _ ⟨e0, by unfold sameNd; simp [c1, c2, c3]⟩
    · simp (disch := first | omega | (simp only [disM] <;> omega) | assumption) only [↓run, ↓runM, run, runM, Nat.reduceAdd, Nat.reduceMul, Int.reduceToNat, eq_true c1, c2]
      exact hk _ _ ⟨e0, by unfold sameNd; simp [c1, c2]⟩
  · simp (disch := first | omega | (simp only [disM] <;> omega) | assumption) only [↓run, ↓runM, run, runM, Nat.reduceAdd, Nat.reduceMul, Int.reduceToNat, c1]
    exact hk _ _ ⟨e0, by unfold sameNd; simp [c1]⟩
theorem nodeSl {h : H} {v : AV} {xs : List Nd} (hs : NdsAt h v xs) {j : Nat} {x : Nd} (hx : xs[j]? = some x) : ∃ b q w us, SlAt h w (strs x.args) ∧ b < h.n ∧ (h.get b).cells = some us ∧ (us.drop q).take 4 = ndCells x w ∧ q + 4 ≤ us.length ∧
    ∀ k : VK β, qIadr 4 v (.int .i64 (j : Int)) (.mk k) = k (.ptr b q) := by
  rcases hs with ⟨_, rfl⟩ | ⟨b, o, m, g, us, rfl, h2, h3, h4, h5⟩
  · simp at hx
  · obtain ⟨w, h6, h7⟩ := h5 j x hx
    have hj := (List.getElem?_eq_some_iff.1 hx).1
    refine ⟨b, o + j * 4, w, us, h7, h2, h3, h6, by omega, fun k => ?_⟩
    rw [q_pIadr_p (by omega) (by omega)]
    simp
theorem NdsAt.len {h : H} {v : AV} {xs : List Nd} (hs : NdsAt h v xs) (k : VK β) : qLenL v (.mk k) = k (.int .i64 (xs.length : Int)) := by
  rcases hs with ⟨rfl, rfl⟩ | ⟨b, o, m, g, us, rfl, _⟩
  · exact q_pLenL_nil k
  · exact q_pLenL_sl _ _ _ _ _ k
theorem GB.w244 (TB : GB t) (n : Nat) {h : H} {v : AV} {xs : List Nd} (hv : NdsAt h v xs) (hr : 4 * xs.length + 8 < room) (ha : ∀ x ∈ xs, x.args.length < room) (hn : xs.length + 2 ≤ n) :
    Sp (β := β) (fRunS t stdI n (.fn 244 []) [v] h) fun u h' => Ext h h' ∧ NdsAt h' u xs := by
  intro k R hk
  obtain ⟨m, rfl⟩ : ∃ m, n = m + 1 := ⟨n - 1, by omega⟩
  have hroom : room = 68719476736 := rfl
  rw [TB.c244]; unfold f244
  simp (disch := first | omega | (simp only [disM] <;> omega) | assumption) only [↓run, ↓runM, run, runM, Nat.reduceAdd, Nat.reduceMul, Int.reduceToNat]
  refine qLoop_wp 6 m _ _ (fun i x0 x1 x2 x3 x4 x5 h' => Ext h h' ∧ x0 = v ∧ ∃ (j lo hi : Nat) (cs : List AV), x3 = .int .i64 (j : Int) ∧ j + i = xs.length ∧ h.n ≤ lo ∧ lo ≤ hi ∧ hi ≤ h'.n ∧ OwnAt h' lo hi 4 x2 cs ∧ cs.length = j * 4 ∧
    ∀ q x, q < j → xs[q]? = some x → ∃ w bb g, (cs.drop (q * 4)).take 4 = ndCells x w ∧ bb < h'.n ∧ (bb < lo ∨ hi ≤ bb) ∧ h.n ≤ bb ∧ h'.get bb = .own 0 (strs x.args) ∧ w = .sl bb 0 x.args.length x.args.length g) xs.length (by omega) ?_ _ _ _ _ _ _ _
    ⟨Ext.refl _, rfl, 0, h.n, h.n, [], rfl, by omega, Nat.le_refl _, Nat.le_refl _, Nat.le_refl _, OwnAt.nil _ _ _ _, rfl, fun q x hq => absurd hq (by omega)⟩
  intro l i ih x0 x1 x2 x3 x4 x5 h' ⟨e1, q0, j, lo, hi, cs, q3, e2, e3, e4, e5, e6, e7, e8⟩
  subst q0 q3
  have hv' := hv.ext e1
  cases i with
  | zero =>
    have hj : j = xs.length := by omega
    subst hj
    simp (disch := first | omega | (simp only [disM] <;> omega) | assumption) only [↓run, ↓runM, run, runM, Nat.reduceAdd, Nat.reduceMul, Int.reduceToNat, ↓f244_J0, ↓f244_J3, ↓f244_J2, ↓f244_L1, hv'.len]
    refine hk _ _ ⟨e1, ?_⟩
    rcases e6 with ⟨rfl, rfl⟩ | ⟨bo, lo', rfl, o1, o2, o3, o4, o5⟩
    · exact .inl ⟨rfl, by rw [List.length_nil] at e7; exact List.eq_nil_of_length_eq_zero (by omega)⟩
    · have hll : lo' = xs.length := by omega
      subst hll
      refine .inr ⟨bo, 0, _, _, cs, rfl, by omega, by rw [o3]; rfl, by omega, fun q x hx => ?_⟩
      obtain ⟨w, bb, g, u1, u2, u3, u4, u5, u6⟩ := e8 q x (List.getElem?_eq_some_iff.1 hx).1 hx
      refine ⟨w, by rw [Nat.zero_add]; exact u1, .inr ⟨bb, 0, x.args.length, g, strs x.args, by rw [u6, strs_len], u2, by rw [u5]; rfl, by simp only [List.drop_zero, List.take_length], by simp⟩⟩
  | succ i =>
    have hj : j < xs.length := by omega
    obtain ⟨x, hx⟩ : ∃ x, xs[j]? = some x := ⟨_, List.getElem?_eq_getElem hj⟩
    obtain ⟨b, oq, w, us, a1, a2, a3, a4, a5, a6⟩ := nodeSl (β := β) hv' hx
    unfold ndCells at a4
    simp (disch := first | omega | (simp only [disM] <;> omega) | assumption) only [↓run, ↓runM, run, runM, Nat.reduceAdd, Nat.reduceMul, Int.reduceToNat, ↓f244_J0, ↓f244_J3, ↓f244_J2, ↓f244_L1, hv'.len, a6, a3, a4, a5]
    have b1 : ((h'.push (.own 0 [.int .i64 0, .int .i64 0, .nils, .str []])).set h'.n (.own 0 [.int .i64 x.fn, .int .i64 x.parent, w, .str x.res])).n = h'.n + 1 := by rw [H.n_set, H.n_push]
    have b2 : ((h'.push (.own 0 [.int .i64 0, .int .i64 0, .nils, .str []])).set h'.n (.own 0 [.int .i64 x.fn, .int .i64 x.parent, w, .str x.res])).get h'.n = .own 0 [.int .i64 x.fn, .int .i64 x.parent, w, .str x.res] := get_set_eq rfl
    have b3 : ∀ i, i < h'.n → ((h'.push (.own 0 [.int .i64 0, .int .i64 0, .nils, .str []])).set h'.n (.own 0 [.int .i64 x.fn, .int .i64 x.parent, w, .str x.res])).get i = h'.get i := fun i hi => by
      rw [get_set_ne (by omega), get_push_ne (by omega)]
    generalize (h'.push (.own 0 [.int .i64 0, .int .i64 0, .nils, .str []])).set h'.n (.own 0 [.int .i64 x.fn, .int .i64 x.parent, w, .str x.res]) = h1 at b1 b2 b3 ⊢
    have hbe : ∀ (hh : H) (kk : K β), qBslice 0 [] 0 [] [] hh (.mk kk) = kk (.sl hh.n 0 0 0 none) (hh.push (.own 0 [])) := fun hh kk => fBslice_n (fun _ => rfl) hh kk
    have hg1 : ∀ bk, (h1.push bk).get h'.n = h1.get h'.n := fun bk => get_push_ne (by omega)
    have b2c : (h1.get h'.n).cells = some [.int .i64 x.fn, .int .i64 x.parent, w, .str x.res] := by rw [b2]; rfl
    simp (disch := first | omega | (simp only [disM] <;> omega) | assumption) only [↓run, ↓runM, run, runM, Nat.reduceAdd, Nat.reduceMul, Int.reduceToNat, ↓hbe, hg1, b2c]
    have x01 : Ext h' h1 := ⟨by omega, b3⟩
    have hw2 : SlAt (h1.push (.own 0 [])) w (strs x.args) := a1.ext (x01.push _)
    have hxa := ha x (List.mem_of_getElem? hx)
    refine fApp_new (lo := h1.n) (cs := []) ⟨h1.n, Nat.le_refl _, (by first | omega | (simp only [H.n_push, H.n_set]; omega)), get_push_eq rfl, .inl rfl⟩ (by first | omega | (simp only [H.n_push, H.n_set]; omega)) hw2 ⟨by rw [strs_len]; simpa using hxa, by omega⟩ ?_
    intro v11 h2 c1 c2 c3
    rw [H.n_push] at c2
    obtain ⟨bb, d1, d2, d3, d4⟩ := c1
    rw [List.nil_append, strs_len] at d4
    rw [List.nil_append] at d3
    have c4 : (h2.get h'.n) = .own 0 [.int .i64 x.fn, .int .i64 x.parent, w, .str x.res] := by rw [c3 _ (by omega), hg1, b2]
    have c5 : ownOf (h2.get h'.n) = some (0, [.int .i64 x.fn, .int .i64 x.parent, w, .str x.res]) := by rw [c4]; rfl
    have d4' : ∃ g, v11 = .sl bb 0 x.args.length x.args.length g := by
      rcases d4 with d4 | ⟨d4, _⟩
      · exact ⟨none, d4⟩
      · exact ⟨some 1, d4⟩
    obtain ⟨g, rfl⟩ := d4'
    have hb4 : ∀ (u v w z : AV) (hh : H) (kk : K β), qBslice 0 [.int .i64 0, .int .i64 0, .nils, .str []] 1 [(0, 4)] [.agg [u, v, w, z]] hh (.mk kk) = kk (.sl hh.n 0 1 1 none) (hh.push (.own 0 [u, v, w, z])) :=
      fun u v w z hh kk => fBslice_n (fun _ => rfl) hh kk
    simp (disch := first | omega | (simp only [disM] <;> omega) | assumption) only [↓run, ↓runM, run, runM, Nat.reduceAdd, Nat.reduceMul, Int.reduceToNat, c5, ↓hb4]
    have y1 : (h2.set h'.n (.own 0 [.int .i64 x.fn, .int .i64 x.parent, .sl bb 0 x.args.length x.args.length g, .str x.res])).n = h2.n := H.n_set _ _ _
    have y2 : ∀ i, i ≠ h'.n → (h2.set h'.n (.own 0 [.int .i64 x.fn, .int .i64 x.parent, .sl bb 0 x.args.length x.args.length g, .str x.res])).get i = h2.get i := fun i hi => get_set_ne (fun q => hi q.symm)
    generalize h2.set h'.n (.own 0 [.int .i64 x.fn, .int .i64 x.parent, .sl bb 0 x.args.length x.args.length g, .str x.res]) = h3 at y1 y2 ⊢
    have y3 : ∀ i, i < h'.n → h3.get i = h'.get i := fun i hi => by rw [y2 i (by omega), c3 i (by omega), get_push_ne (by omega), b3 i hi]
    have y4 : h3.get bb = .own 0 (strs x.args) := by rw [y2 bb (by omega)]; exact d3
    have hpu : ∀ i, i < h3.n → (h3.push (.own 0 [.int .i64 x.fn, .int .i64 x.parent, .sl bb 0 x.args.length x.args.length g, .str x.res])).get i = h3.get i := fun i hi => get_push_ne (by omega)
    have hsrc : ∀ c : Nat → List AV → Option β, fSrc 4 (.sl h2.n 0 1 1 none) (h3.push (.own 0 [.int .i64 x.fn, .int .i64 x.parent, .sl bb 0 x.args.length x.args.length g, .str x.res])) c = c 1 [.int .i64 x.fn, .int .i64 x.parent, .sl bb 0 x.args.length x.args.length g, .str x.res] := by
      intro c
      have : ((h3.push (.own 0 [.int .i64 x.fn, .int .i64 x.parent, .sl bb 0 x.args.length x.args.length g, .str x.res])).get h2.n).cells = some [.int .i64 x.fn, .int .i64 x.parent, .sl bb 0 x.args.length x.args.length g, .str x.res] := by rw [get_push_eq y1]; rfl
      show (cells _ h2.n fun cs => cond (Nat.ble (Nat.add 0 (Nat.mul 1 4)) (lenF cs)) (c 1 (takeF (Nat.mul 1 4) (dropF 0 cs))) none) = _
      rw [cells_eq, this]; rfl
    have hlo : hi ≤ h3.n := by omega
    refine fApp_mv (lo := lo) (hi := hi) (cs := cs) (e6.mono (Nat.le_refl _) (Nat.le_refl _) fun i p1 p2 => by rw [hpu i (by omega), y3 i (by omega)]) (by rw [H.n_push]; omega) hsrc rfl (by omega) (by omega) (by omega) (by omega) ?_
    intro L h4 z1 z2 z3 z4
    rw [H.n_push] at z1 z2 z4
    have hL : L = j + 1 := by rw [List.length_append, e7] at z3; simp only [List.length_cons, List.length_nil] at z3; omega
    subst hL
    have z5 : ∀ i, i < h3.n → (i < lo ∨ hi ≤ i) → h4.get i = h3.get i := fun i p1 p2 => by rw [z4 i (by omega) p2, hpu i p1]
    simp (disch := first | omega | (simp only [disM] <;> omega) | assumption) only [↓run, ↓runM, run, runM, Nat.reduceAdd, Nat.reduceMul, Int.reduceToNat]
    refine ih i (by omega) _ _ _ _ _ _ _ ⟨⟨by have := e1.n; omega, fun i hi => by rw [z5 i (by omega) (.inl (by omega)), y3 i (by omega)]; exact e1.get i hi⟩, rfl, j + 1, h3.n + 1, h3.n + 2, _, congrArg (AV.int .i64) (by omega), by omega, by omega, by omega, by omega,
      .inr ⟨h3.n + 1, j + 1, rfl, by omega, by omega, z1, z3, by omega⟩, z3, ?_⟩
    intro q y hq hy
    by_cases hqj : q = j
    · subst hqj
      rw [hx] at hy; cases hy
      refine ⟨.sl bb 0 x.args.length x.args.length g, bb, g, ?_, by omega, by omega, by have := e1.n; omega, by rw [z5 bb (by omega) (.inr (by omega))]; exact y4, rfl⟩
      rw [List.drop_append_of_le_length (by omega), List.drop_of_length_le (by omega)]; rfl
    · obtain ⟨w', bb', g', o1, o2, o3, o4, o5, o6⟩ := e8 q y (by omega) hy
      refine ⟨w', bb', g', ?_, by omega, by omega, o4, by rw [z5 bb' (by omega) o3, y3 bb' o2]; exact o5, o6⟩
      rw [List.drop_append_of_le_length (by omega), List.take_append_of_le_length (by rw [List.length_drop]; omega)]; exact o1
end
end Am.F
