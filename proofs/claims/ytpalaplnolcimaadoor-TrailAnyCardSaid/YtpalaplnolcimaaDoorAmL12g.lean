/- Walks: TrailAny. -/
import Derived.Test.YtpalaplnolcimaaDoorAmL12f
import Derived.Test.YtpalaplnolcimaaDoorAmPg7
set_option linter.unusedSimpArgs false
set_option linter.unusedVariables false
namespace Am.F
open Go Am
theorem app_nd {β : Type} {h : H} {b L sb : Nat} {g : Option Nat} {ns : List Nd} {x : Nd} {k : K β} {R : Option β} (hg : g = none ∨ g = some 4) (hb : h.get b = .own 0 (cellsOf ns)) (hL : ns.length = L) (hL0 : 0 < L) (hbn : b < h.n) (hs : (h.get sb).cells = some (ndCells x .nils)) (hr : 4 * L + 4 < room)
    (H1 : ∀ h', h'.n = h.n + 1 → h'.get h.n = .own 0 (cellsOf (ns ++ [x])) → (∀ i, i < h.n → i ≠ b → h'.get i = h.get i) → k (.sl h.n 0 (L + 1) (L + 1) (some 4)) h' = R) :
    qApp 0 4 56 (.sl b 0 L L g) (.sl sb 0 1 1 none) h (.mk k) = R := by
  show fApp 0 4 56 (.sl b 0 L L g) (.sl sb 0 1 1 none) h k = R
  have hroom : room = 68719476736 := rfl
  unfold fApp
  have e1 : ∀ c : Nat → List AV → Option β, fSrc 4 (.sl sb 0 1 1 none) h c = c 1 (ndCells x .nils) := fun c => by
    show (cells h sb fun cs => cond (Nat.ble (Nat.add 0 (Nat.mul 1 4)) (lenF cs)) (c 1 (takeF (Nat.mul 1 4) (dropF 0 cs))) none) = _
    rw [cells_eq, hs]; rfl
  rw [e1]
  have hcl := cellsOf_len ns
  have hsn : cellsOf (ns ++ [x]) = cellsOf ns ++ ndCells x .nils := by simp [cellsOf]
  have e : appF (takeF (L * 4) (dropF 0 (cellsOf ns))) (ndCells x .nils) = cellsOf (ns ++ [x]) := by
    rw [appF_eq, takeF_eq, dropF_eq, List.drop_zero, List.take_of_length_le (by omega), hsn]
  rcases hg with rfl | rfl
  · simp (disch := omega) only [fGrow, aSl, frc_eq, ble_eq, beq_eq, cond_pos, cond_neg, Nat.add_eq, Nat.mul_eq, Nat.zero_add, Nat.succ_eq_add_one, cells_eq, hb, cells_own, oSome_v, lenF_eq, newB_p, e]
    exact H1 _ (by rw [H.n_push]) (get_push_eq rfl) fun i p q => get_push_ne (by omega)
  · simp (disch := omega) only [fGrow, aSl, frc_eq, ble_eq, beq_eq, cond_pos, cond_neg, Nat.add_eq, Nat.mul_eq, Nat.zero_add, Nat.succ_eq_add_one, cells_eq, ownd_eq, hb, cells_own, ownOf_own, oSome_v, lenF_eq, newB_p, e]
    simp only [decide_true, cond_true]
    have := H1 ((h.set b .dead).push (.own 0 (cellsOf (ns ++ [x])))) (by rw [H.n_push, H.n_set]) (by rw [get_push_eq (by rw [H.n_set])]) fun i p q => by rw [get_push_ne (by rw [H.n_set]; omega), get_set_ne (by omega)]
    exact this
theorem q_and7 {β : Type} (x : Int) (kk : VK β) : qBin .and (.int .i64 x) (.int .i64 7) (.mk kk) = kk (.int .i64 (x % (2 ^ 3 : Nat))) := pBin_and 7 3 rfl (by decide) x kk
structure AnyNs (f : Int) (ns : List Nd) : Prop where
  first : ns[0]? = some ⟨f, -1, [], [49]⟩
  rest : ∀ (q : Nat) (x : Nd), 0 < q → ns[q]? = some x → ∃ p : Int, x = ⟨0, p, [], [95]⟩ ∧ 0 ≤ p ∧ p < (q : Int)
  len : ns.length ≤ 41
theorem AnyNs.may {f : Int} {ns : List Nd} (h : AnyNs f ns) (hf : 0 ≤ f ∧ f < 8) : TrailP ns := by
  refine ⟨fun hn => by have := h.first; rw [hn] at this; simp at this, fun q x hq => ?_⟩
  have hql := (List.getElem?_eq_some_iff.1 hq).1
  have hl := h.len
  cases q with
  | zero =>
    rw [h.first] at hq; cases hq
    exact ⟨by omega, by unfold eqMay; simp [mayP_1, hf.1, hf.2], .inr ⟨rfl, rfl⟩⟩
  | succ q =>
    obtain ⟨p, rfl, h0, h1⟩ := h.rest (q + 1) x (by omega) hq
    exact ⟨by omega, by unfold eqMay; simp [mayP_hole], .inl ⟨h0, h1⟩⟩
theorem AnyNs.mem {f : Int} {ns : List Nd} (h : AnyNs f ns) {x : Nd} (hx : x ∈ ns) : x.args = [] ∧ x.res.length = 1 ∧ (x.fn = 0 ∨ x.fn = f) := by
  obtain ⟨q, hq⟩ := List.mem_iff_getElem?.1 hx
  cases q with
  | zero => rw [h.first] at hq; cases hq; exact ⟨rfl, rfl, .inr rfl⟩
  | succ q =>
    obtain ⟨p, rfl, _⟩ := h.rest (q + 1) x (by omega) hq
    exact ⟨rfl, rfl, .inl rfl⟩
theorem AnyNs.fits {f : Int} {ns : List Nd} (h : AnyNs f ns) (hf : 0 ≤ f ∧ f < 8) : FitsP small12 ns ↔ f = 0 := by
  constructor
  · intro hh; exact hh.2.2.1 _ h.first
  · intro h0
    refine ⟨small12_may, h.may hf, fun x hx => by rw [h.first] at hx; cases hx; exact h0, fun x hx => ?_⟩
    obtain ⟨h1, _, h2⟩ := h.mem hx
    have : x.fn = 0 := by omega
    rw [this, h1]; exact ⟨by decide, by decide⟩
section
variable {β : Type} {t : ETree}
theorem GL12.w294e (TL : GL12 t) (TS : GS12 t) (TC : GC t) (TB : GB t) (T : GA t) (L : GI t) (m : Nat) (hm : 3500 ≤ m) (k : K β) (R : Option β) (hk : ∀ h', k (.bool true) h' = R) {h : H} {v : AV} {ns : List Nd} (y : Int) (hv : LAt 4 NdC h v ns) (hn : AnyNs (y % (2 ^ 3 : Nat)) ns) (x0 x1 x2 x3 x4 : AV) (h3 : x3 = v) (h1 : x1 = .int .i64 y) :
    f294_J4 (fRunS t stdI m) k x0 x1 x2 x3 x4 h = R := by
  subst h3 h1
  obtain ⟨m, rfl⟩ : ∃ m', m = m' + 2 := ⟨m - 2, by omega⟩
  have hf : 0 ≤ y % ((2 ^ 3 : Nat) : Int) ∧ y % ((2 ^ 3 : Nat) : Int) < 8 := by omega
  have zT := isB_t (hn.may hf)
  have hl := hn.len
  have fit : ∀ x ∈ ns, NdFit x := fun x hx => by
    obtain ⟨q1, q2, _⟩ := hn.mem hx
    exact ⟨by rw [q1]; simp, by omega, by rw [q1]; simp⟩
  have zF : isB (FitsP small12 ns) = decide (y % ((2 ^ 3 : Nat) : Int) = 0) := isB_iff (by rw [decide_eq_true_iff]; exact (hn.fits hf).symm)
  have eqb : ∀ (b : Bool) (kk : VK β), qEqB false (.bool b) (.bool b) (.mk kk) = kk (.bool true) := fun b kk => by cases b <;> rfl
  have h7 := q_and7 (β := β) y
  unfold f294_J4
  simp (disch := first | omega | (simp only [disM] <;> omega) | assumption) only [↓run, ↓runM, run, runM, Nat.reduceAdd, Nat.reduceMul, Int.reduceToNat, T.w16]
  refine TC.w261 TB T L (m + 2) (by omega) hv fit (by omega) _ _ ?_
  intro u h1 ⟨e1, e2⟩
  subst e2
  simp (disch := first | omega | (simp only [disM] <;> omega) | assumption) only [↓run, ↓runM, run, runM, Nat.reduceAdd, Nat.reduceMul, Int.reduceToNat, zT]
  refine TS.w263 m h1 _ _ ?_
  intro p h2 ⟨e3, e4⟩
  refine TC.w262 TB T L (m + 2) (by omega) e4 (hv.ext NdC.stays (e1.trans e3)) fit (by omega) (by decide) small12_fit _ _ ?_
  intro u h3 ⟨e5, e6⟩
  subst e6
  simp (disch := first | omega | (simp only [disM] <;> omega) | assumption) only [↓run, ↓runM, run, runM, Nat.reduceAdd, Nat.reduceMul, Int.reduceToNat, zT, zF, h7, eqb]
  refine TS.w263 m h3 _ _ ?_
  intro p' h4 ⟨e7, e8⟩
  refine TC.w149 T (m + 2) (by omega) e8 (by decide) small12_fit _ _ ?_
  intro u h5 ⟨e9, e10⟩
  subst e10
  simp (disch := first | omega | (simp only [disM] <;> omega) | assumption) only [↓run, ↓runM, run, runM, Nat.reduceAdd, Nat.reduceMul, Int.reduceToNat, zT, zF, h7, eqb, small12_may]
  refine TS.w260 (m + 1) h5 _ _ ?_
  intro u h6 ⟨e11, e12⟩
  subst e11
  simp (disch := first | omega | (simp only [disM] <;> omega) | assumption) only [↓run, ↓runM, run, runM, Nat.reduceAdd, Nat.reduceMul, Int.reduceToNat, zT, zF, h7, eqb, small12_may, Int.reduceEq, Int.cast_ofNat_Int]
  exact hk _
theorem GL12.w294 (TL : GL12 t) (TS : GS12 t) (TC : GC t) (TB : GB t) (T : GA t) (L : GI t) (hA : t.get 259 = some (eAw 259)) (n : Nat) (hn : 4000 ≤ n) {h : H} {v : AV} {ps : List Int} (hv : SlAt h v (ints ps)) (hl : ps.length ≤ 9223372036854775807) (y : Int) :
    Sp (β := β) (fRunS t stdI n (.fn 294 []) [v, .int .i64 y] h) fun u h' => u = .bool true := by
  intro k R hk0
  have hk : ∀ h', k (.bool true) h' = R := fun h' => hk0 _ _ rfl
  obtain ⟨m, rfl⟩ : ∃ m, n = m + 2 := ⟨n - 2, by omega⟩
  have haw := fun (hh : H) (kk : K β) => awk_q (β := β) (k := 259) rfl hA m hh kk
  have hroom : room = 68719476736 := rfl
  have lv : ∀ kc : VK β, qLenL v (.mk kc) = kc (.int .i64 (ps.length : Int)) := fun kc => by rw [hv.len, ints_len]
  have h7 := q_and7 (β := β) y
  have bu : ∀ (u : Int) (kk : VK β), qBuild [.int .i64 0, .int .i64 0, .nils, .str []] [(1, 1), (0, 1), (3, 1)] [.int .i64 (-1), .int .i64 u, .str [49]] (.mk kk) = kk (.agg (ndCells ⟨u, -1, [], [49]⟩ .nils)) := fun u kk => rfl
  have bv : ∀ (u : Int) (kk : VK β), qBuild [.int .i64 0, .int .i64 0, .nils, .str []] [(1, 1), (3, 1)] [.int .i64 u, .str [95]] (.mk kk) = kk (.agg (ndCells ⟨0, u, [], [95]⟩ .nils)) := fun u kk => rfl
  have bs : ∀ (x : Nd) (hh : H) (kk : K β), qBslice 0 [.int .i64 0, .int .i64 0, .nils, .str []] 1 [(0, 4)] [.agg (ndCells x .nils)] hh (.mk kk) = kk (.sl hh.n 0 1 1 none) (hh.push (.own 0 (ndCells x .nils))) := fun x hh kk => fBslice_n (fun _ => rfl) hh kk
  rw [TL.c294]; unfold f294
  simp (disch := first | omega | (simp only [disM] <;> omega) | assumption) only [↓run, ↓runM, run, runM, Nat.reduceAdd, Nat.reduceMul, Int.reduceToNat, haw, ↓f294_J0, h7, ↓bu, ↓bs]
  refine qLoop_wp 5 (m + 1) _ _ (fun i x0 x1 x2 x3 x4 h' => ∃ (j b : Nat) (g : Option Nat) (ns : List Nd), x0 = v ∧ x1 = .int .i64 y ∧ x3 = .sl b 0 (j + 1) (j + 1) g ∧ (g = none ∨ g = some 4) ∧ x4 = .int .i64 (j : Int) ∧ j + i = min ps.length 40 ∧ Ext h h' ∧ h.n ≤ b ∧ b < h'.n ∧ h'.get b = .own 0 (cellsOf ns) ∧ ns.length = j + 1 ∧ AnyNs (y % ((2 ^ 3 : Nat) : Int)) ns) (min ps.length 40) (by omega) ?_ _ _ _ _ _ _
    ⟨0, h.n, none, [⟨y % ((2 ^ 3 : Nat) : Int), -1, [], [49]⟩], rfl, rfl, rfl, .inl rfl, rfl, by omega, (Ext.refl h).push _, Nat.le_refl _, by rw [H.n_push]; omega, get_push_eq rfl, rfl, ⟨rfl, fun q x h0 hq => by
      rcases q with _ | q
      · omega
      · simp at hq, by simp⟩⟩
  intro l i ih x0 x1 x2 x3 x4 h' ⟨j, b, g, ns, q1, q2, q3, q4, q5, q6, q7, q8, q9, q10, q11, q12⟩
  subst q1 q2 q3 q5
  cases i with
  | zero =>
    have hat' := cellsOf_at (m := j + 1) (g := g) q9 q10 (fun x hx => (q12.mem hx).1)
    rw [q11] at hat'
    have e294 := fun x0 x1 x2 x3 x4 => TL.w294e TS TC TB T L (m + 1) (by omega) k R hk y hat' q12 x0 x1 x2 x3 x4
    by_cases c1 : (j : Int) < (ps.length : Int)
    · have c2 : ¬ (j : Int) < 40 := by omega
      simp (disch := first | omega | (simp only [disM] <;> omega) | assumption) only [↓run, ↓runM, run, runM, Nat.reduceAdd, Nat.reduceMul, Int.reduceToNat, lv, ↓f294_L22, eq_true c1, eq_false c2]
      exact e294 _ _ _ _ _ rfl rfl
    · simp (disch := first | omega | (simp only [disM] <;> omega) | assumption) only [↓run, ↓runM, run, runM, Nat.reduceAdd, Nat.reduceMul, Int.reduceToNat, lv, ↓f294_L22, eq_false c1]
      exact e294 _ _ _ _ _ rfl rfl
  | succ i =>
    have c1 : (j : Int) < (ps.length : Int) := by omega
    have c2 : (j : Int) < 40 := by omega
    have hld := fun kc : VK β => (hv.ext q7).load (i := (j : Int)) (kd := .i64) (by omega) (by rw [ints_len]; omega) kc
    rw [Int.toNat_natCast, ints_getD (by omega)] at hld
    have hw : IntKind.u64.wrap ((j : Int) + 1) = (j : Int) + 1 := wrap_u64 (by omega) (by omega)
    have hcu : ∀ (x : Int) (kk : VK β), qConv .u64 (.int .i64 x) (.mk kk) = kk (.int .u64 (IntKind.u64.wrap x)) := fun x kk => pConv_any _ _ _ kk
    obtain ⟨hr1, hr2⟩ := u64_rem ((j : Int) + 1) (by omega) (ps.getD j 0)
    have hrem : ∀ kk : VK β, qBin .rem (.int .u64 (IntKind.u64.wrap (ps.getD j 0))) (.int .u64 ((j : Int) + 1)) (.mk kk) = kk (.int .u64 ((IntKind.u64.wrap (ps.getD j 0)).tmod ((j : Int) + 1))) := fun kk => pBin_rem _ _ _ (by omega) kk
    generalize (IntKind.u64.wrap (ps.getD j 0)).tmod ((j : Int) + 1) = r at hr1 hr2 hrem
    simp (disch := first | omega | (simp only [disM] <;> omega) | assumption) only [↓run, ↓runM, run, runM, Nat.reduceAdd, Nat.reduceMul, Int.reduceToNat, lv, ↓f294_L22, ↓f294_J23, ↓f294_J24, eq_true c1, eq_true c2, hld, hcu, hw, hrem, ↓bv, ↓bs]
    refine app_nd (x := ⟨0, r, [], [95]⟩) q4 (by rw [get_push_ne (by omega)]; exact q10) q11 (by omega) (by rw [H.n_push]; omega) (by rw [get_push_eq rfl]; rfl) (by omega) ?_
    intro h2 z1 z2 z3
    rw [H.n_push] at z1 z2 z3
    simp (disch := first | omega | (simp only [disM] <;> omega) | assumption) only [↓run, ↓runM, run, runM, Nat.reduceAdd, Nat.reduceMul, Int.reduceToNat]
    refine ih i (by omega) _ _ _ _ _ _ ⟨j + 1, h'.n + 1, some 4, ns ++ [⟨0, r, [], [95]⟩], rfl, rfl, rfl, .inr rfl, int_succ j, by omega, ⟨by have := q7.n; omega, fun i hi => by have := q7.n; rw [z3 i (by omega) (by omega), get_push_ne (by omega)]; exact q7.get i hi⟩, by have := q7.n; omega, by omega, z2, by rw [List.length_append, q11]; rfl, ?_⟩
    refine ⟨by rw [List.getElem?_append_left (by omega)]; exact q12.first, fun q x hq hx => ?_, by rw [List.length_append, q11]; simp; omega⟩
    rcases Nat.lt_or_ge q ns.length with hql | hql
    · rw [List.getElem?_append_left hql] at hx; exact q12.rest q x hq hx
    · rw [List.getElem?_append_right hql] at hx
      have : q = ns.length := by
        have := (List.getElem?_eq_some_iff.1 hx).1
        simp at this; omega
      subst this
      rw [Nat.sub_self] at hx; cases hx
      exact ⟨r, rfl, hr1, by omega⟩
end
end Am.F
