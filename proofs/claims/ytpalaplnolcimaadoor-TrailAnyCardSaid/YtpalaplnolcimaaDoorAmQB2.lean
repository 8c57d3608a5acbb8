/- Walks: an equation as a text. -/
import Derived.Test.YtpalaplnolcimaaDoorAmQB
set_option linter.unusedSimpArgs false
set_option linter.unusedVariables false
namespace Am.F
open Go Am
theorem eqMay_some {x : Nd} (h : eqMay x = true) : (0 ≤ x.fn ∧ x.fn < 8) ∧ x.args.length ≤ 3 ∧ (∀ y ∈ x.args, mayP y = true ∧ y.length ≤ 1024) ∧ mayP x.res = true ∧ x.res.length ≤ 1024 := by
  unfold eqMay at h
  rw [Bool.and_eq_true, Bool.and_eq_true] at h
  obtain ⟨⟨h1, h2⟩, h3⟩ := h
  have h1 := of_decide_eq_true h1
  have hm : ∀ y, mayP y = true → y.length ≤ 1024 := fun y hy => by
    obtain ⟨u, hu⟩ := (mayP_iff y).1 hy
    exact (tP_some hu).1
  exact ⟨h1.1, h1.2, fun y hy => ⟨List.all_eq_true.1 h2 y hy, hm y (List.all_eq_true.1 h2 y hy)⟩, h3, hm _ h3⟩
theorem joinTail_small (sep : List UInt8) (hs : sep.length ≤ 1) : ∀ xs : List (List UInt8), (∀ y ∈ xs, y.length ≤ 1100) → (Lib.joinTail sep xs).length ≤ 1101 * xs.length
  | [], _ => by simp [Lib.joinTail]
  | x :: r, h => by
    have ih := joinTail_small sep hs r fun z hz => h z (by simp [hz])
    have := h x (by simp)
    simp only [Lib.joinTail, List.map_cons, List.flatten_cons, List.length_append, List.length_cons] at ih ⊢
    omega
theorem join_small (sep : List UInt8) (hs : sep.length ≤ 1) (xs : List (List UInt8)) (h : ∀ y ∈ xs, y.length ≤ 1100) : (Lib.join xs sep).length ≤ 1101 * xs.length := by
  cases xs with
  | nil => rw [Lib.join_nil]; simp
  | cons x r =>
    rw [Lib.join_cons, List.length_append, List.length_cons]
    have := joinTail_small sep hs r fun z hz => h z (by simp [hz])
    have := h x (by simp)
    omega
theorem joinTail_app (sep : List UInt8) (xs ys : List (List UInt8)) : Lib.joinTail sep (xs ++ ys) = Lib.joinTail sep xs ++ Lib.joinTail sep ys := by simp [Lib.joinTail]
theorem eqText_eq (x : Nd) : eqText x = (102 :: Lib.itoa x.fn) ++ Lib.joinTail [32] x.args ++ [32, 61, 32] ++ x.res := by
  unfold eqText
  rw [Lib.join_cons, joinTail_app]
  simp [Lib.joinTail, List.append_assoc]
section
variable {β : Type} {t : ETree}
theorem nodeB (f p : Int) (v : AV) (r : List UInt8) (tg : Nat) (h : H) (k : K β) : qBox tg (.agg [.int .i64 f, .int .i64 p, v, .str r]) h (.mk k) = k (.ptr h.n 0) (h.push (.own tg [.int .i64 f, .int .i64 p, v, .str r])) := q_fBox_agg tg _ h k
theorem GB.w258 (TB : GB t) (T : GA t) (L : GI t) (n : Nat) (hn : 1070 ≤ n) {h : H} {a : AV} {x : Nd} (hx : NdAt h a x) (hl : x.args.length ≤ 9223372036854775807) :
    Sp (β := β) (fRunS t stdI n (.fn 258 []) [a] h) fun u h' => Ext h h' ∧ u = if eqMay x = true then .tup [.str (eqText x), .int .i64 0] else .tup [.str [], .int .i64 1400] := by
  intro k R hk
  obtain ⟨m, rfl⟩ : ∃ m, n = m + 1 := ⟨n - 1, by omega⟩
  obtain ⟨v, rfl, hv⟩ := hx
  rw [TB.c258]; unfold f258
  simp (disch := first | omega | (simp only [disM] <;> omega) | assumption) only [↓run, ↓runM, run, runM, Nat.reduceAdd, Nat.reduceMul, Int.reduceToNat, nodeB]
  have e0 : Ext h (h.push (.own 0 [.int .i64 x.fn, .int .i64 x.parent, v, .str x.res])) := (Ext.refl h).push _
  have hin : NdIn (h.push (.own 0 [.int .i64 x.fn, .int .i64 x.parent, v, .str x.res])) h.n v x := ⟨by rw [get_push_eq rfl]; rfl, (by first | omega | (simp only [H.n_push, H.n_set]; omega)), hv.ext e0⟩
  generalize hg : h.push (.own 0 [.int .i64 x.fn, .int .i64 x.parent, v, .str x.res]) = hb at e0 hin ⊢
  refine TB.w269 T L m (by omega) hin hl _ _ ?_
  intro u h1 ⟨e1, e2⟩
  subst e2
  have hin1 := hin.ext e1
  cases hm : eqMay x with
  | false =>
    simp (disch := first | omega | (simp only [disM] <;> omega) | assumption) only [↓run, ↓runM, run, runM, Nat.reduceAdd, Nat.reduceMul, Int.reduceToNat]
    exact hk _ _ ⟨e0.trans e1, by rw [hm]; rfl⟩
  | true =>
    obtain ⟨⟨p1, p2⟩, p3, p4, p5, p6⟩ := eqMay_some hm
    have hx1 := hin1.1
    have hs1 := hin1.2.2
    have hi := itoa_len (x := x.fn) (by omega) (by omega)
    simp (disch := first | omega | (simp only [disM] <;> omega) | assumption) only [↓run, ↓runM, run, runM, Nat.reduceAdd, Nat.reduceMul, Int.reduceToNat]
    unfold f258_J1
    have hw29 := fun kk : K β => L.w29 (m - 1) x.fn (by omega) (by omega) h1 kk
    rw [show m - 1 + 1 = m by omega] at hw29
    have hlt : h.n < h1.n := hin1.2.1
    have hg1 : ∀ b, (h1.push b).get h.n = h1.get h.n := fun b => get_push_ne (by omega)
    simp (disch := first | omega | (simp only [disM] <;> omega) | assumption) only [↓run, ↓runM, run, runM, Nat.reduceAdd, Nat.reduceMul, Int.reduceToNat, hx1, hw29, chk_p hs1, hg1]
    have hsn : SlAt (h1.push (.own 0 [.str ([102] ++ Lib.itoa x.fn)])) v (strs x.args) := hs1.ext ((Ext.refl h1).push _)
    refine fApp_new (lo := h1.n) (cs := strs [[102] ++ Lib.itoa x.fn]) ⟨h1.n, Nat.le_refl _, (by first | omega | (simp only [H.n_push, H.n_set]; omega)), get_push_eq rfl, .inl rfl⟩ (by first | omega | (simp only [H.n_push, H.n_set]; omega)) hsn ⟨by rw [strs_len, strs_len]; simp only [room, List.length_cons, List.length_nil]; omega, by omega⟩ ?_
    intro v11 h2 f1 f2 f3
    rw [H.n_push] at f2
    have hc2 : (h2.get h.n).cells = some [.int .i64 x.fn, .int .i64 x.parent, v, .str x.res] := by rw [f3 _ hlt, hg1]; exact hx1
    have hbs : ∀ (w : List UInt8) (hh : H) (kk : K β), qBslice 0 [.str [], .str []] 2 [(0, 1), (1, 1)] [.str [61], .str w] hh (.mk kk) = kk (.sl hh.n 0 2 2 none) (hh.push (.own 0 [.str [61], .str w])) :=
      fun w hh kk => fBslice_n (fun _ => rfl) hh kk
    simp (disch := first | omega | (simp only [disM] <;> omega) | assumption) only [↓run, ↓runM, run, runM, Nat.reduceAdd, Nat.reduceMul, Int.reduceToNat, hc2, ↓hbs]
    have hx2 : SlAt (h2.push (.own 0 [.str [61], .str x.res])) (.sl h2.n 0 2 2 none) (strs [[61], x.res]) := .inr ⟨h2.n, 0, 2, none, _, rfl, (by first | omega | (simp only [H.n_push, H.n_set]; omega)), by rw [get_push_eq rfl]; rfl, rfl, by simp [strs]⟩
    obtain ⟨b2, g1, g2, g3, g4⟩ := f1
    have f1' : NewAt (h2.push (.own 0 [.str [61], .str x.res])) h1.n v11 (strs [[102] ++ Lib.itoa x.fn] ++ strs x.args) := ⟨b2, g1, (by first | omega | (simp only [H.n_push, H.n_set]; omega)), by rw [get_push_ne (by omega)]; exact g3, g4⟩
    refine fApp_new f1' (by first | omega | (simp only [H.n_push, H.n_set]; omega)) hx2 ⟨by rw [List.length_append, strs_len, strs_len, strs_len]; simp only [room, List.length_cons, List.length_nil]; omega, by omega⟩ ?_
    intro v15 h3 i1 i2 i3
    rw [H.n_push] at i2
    have hcs : strs [[102] ++ Lib.itoa x.fn] ++ strs x.args ++ strs [[61], x.res] = strs ((102 :: Lib.itoa x.fn) :: (x.args ++ [[61], x.res])) := by simp [strs]
    rw [hcs] at i1
    have hj : (Lib.join ((102 :: Lib.itoa x.fn) :: (x.args ++ [[61], x.res])) [32]).length ≤ 140737488355328 := by
      refine Nat.le_trans (join_small [32] (by simp) _ ?_) ?_
      · intro y hy
        rcases List.mem_cons.1 hy with rfl | hy
        · simp only [List.length_cons]; omega
        · rcases List.mem_append.1 hy with hy | hy
          · have := (p4 y hy).2; omega
          · rcases List.mem_cons.1 hy with rfl | hy
            · simp
            · rw [List.mem_singleton] at hy; rw [hy]; omega
      · simp only [List.length_cons, List.length_append, List.length_nil]; omega
    have hw42 := fun kk : K β => L.w42 (m - 1) i1.sl [32] (by simp only [List.length_cons, List.length_append, List.length_nil]; omega) hj kk
    rw [show m - 1 + 1 = m by omega] at hw42
    simp (disch := first | omega | (simp only [disM] <;> omega) | assumption) only [↓run, ↓runM, run, runM, Nat.reduceAdd, Nat.reduceMul, Int.reduceToNat, hw42]
    refine hk _ _ ⟨(e0.trans e1).trans ⟨by omega, fun i hi => by rw [i3 i (by omega), get_push_ne (by omega), f3 i (by omega), get_push_ne (by omega)]⟩, by rw [hm]; rfl⟩
theorem GB.w296 (TB : GB t) (T : GA t) (n : Nat) {h : H} {a : AV} {x : Nd} (hx : NdAt h a x) (hl : ∀ y ∈ x.args, y.length ≤ 9223372036854775807) (hr : x.res.length ≤ 9223372036854775807) (hL : x.args.length < 9223372036854775807) (hn : x.args.length + 2100 ≤ n) :
    Sp (β := β) (fRunS t stdI n (.fn 296 []) [a] h) fun u h' => Ext h h' ∧ u = .bool (eqMay x) := by
  intro k R hk
  obtain ⟨m, rfl⟩ : ∃ m, n = m + 2 := ⟨n - 2, by omega⟩
  obtain ⟨v, rfl, hv⟩ := hx
  rw [TB.c296]; unfold f296
  simp (disch := first | omega | (simp only [disM] <;> omega) | assumption) only [↓run, ↓runM, run, runM, Nat.reduceAdd, Nat.reduceMul, Int.reduceToNat, nodeB]
  have e0 : Ext h (h.push (.own 0 [.int .i64 x.fn, .int .i64 x.parent, v, .str x.res])) := (Ext.refl h).push _
  have hin : NdIn (h.push (.own 0 [.int .i64 x.fn, .int .i64 x.parent, v, .str x.res])) h.n v x := ⟨by rw [get_push_eq rfl]; rfl, (by first | omega | (simp only [H.n_push, H.n_set]; omega)), hv.ext e0⟩
  generalize hg : h.push (.own 0 [.int .i64 x.fn, .int .i64 x.parent, v, .str x.res]) = hb at e0 hin ⊢
  refine qLoop_wp 4 (m + 1) _ _ (fun i x0 x1 x2 x3 h' => Ext hb h' ∧ x1 = .ptr h.n 0 ∧ ∃ j : Nat, x3 = .int .i64 (j : Int) ∧ j + i = x.args.length ∧ (x.args.take j).all mayP = true) x.args.length (by omega) ?_ _ _ _ _ _ ⟨Ext.refl _, rfl, 0, rfl, by omega, rfl⟩
  intro l i ih x0 x1 x2 x3 h' ⟨e1, q1, j, q3, e2, e3⟩
  subst q1 q3
  have hin' := hin.ext e1
  have hc := hin'.1
  have hs := hin'.2.2
  cases i with
  | zero =>
    have hj : j = x.args.length := by omega
    subst hj
    rw [List.take_length] at e3
    by_cases c1 : 0 ≤ x.fn ∧ x.fn ≤ 7
    · by_cases c2 : x.args.length ≤ 3
      · simp (disch := first | omega | (simp only [disM] <;> omega) | assumption) only [↓run, ↓runM, run, runM, Nat.reduceAdd, Nat.reduceMul, Int.reduceToNat, ↓f296_J1, ↓f296_J16, ↓f296_J15, ↓f296_L14, hc, hs.len, TB.w297, c1]
        refine T.w18 (m + 1) (by omega) _ hr _ _ _ ?_
        intro u h1 ⟨e4, e5⟩
        rw [mayP_refP] at e5
        subst e5
        exact hk _ _ ⟨(e0.trans e1).trans e4, by unfold eqMay; rw [e3, decide_eq_true (by omega)]; rfl⟩
      · simp (disch := first | omega | (simp only [disM] <;> omega) | assumption) only [↓run, ↓runM, run, runM, Nat.reduceAdd, Nat.reduceMul, Int.reduceToNat, ↓f296_J1, ↓f296_J16, ↓f296_J15, ↓f296_L14, hc, hs.len, TB.w297, c1]
        exact hk _ _ ⟨e0.trans e1, by unfold eqMay; rw [decide_eq_false (by omega)]; rfl⟩
    · simp (disch := first | omega | (simp only [disM] <;> omega) | assumption) only [↓run, ↓runM, run, runM, Nat.reduceAdd, Nat.reduceMul, Int.reduceToNat, ↓f296_J1, ↓f296_J16, ↓f296_J15, ↓f296_L14, hc, hs.len, TB.w297, c1]
      exact hk _ _ ⟨e0.trans e1, by unfold eqMay; rw [decide_eq_false (by omega)]; rfl⟩
  | succ i =>
    have hj : j < x.args.length := by omega
    have hmem : x.args.getD j [] ∈ x.args := by simp [List.getD_eq_getElem?_getD, hj]
    have htk : (x.args.take (j + 1)).all mayP = (mayP (x.args.getD j [])) := by
      rw [List.take_add_one, List.all_append, e3, List.getD_eq_getElem?_getD, List.getElem?_eq_getElem hj]
      simp
    simp (disch := first | omega | (simp only [disM] <;> omega) | assumption) only [↓run, ↓runM, run, runM, Nat.reduceAdd, Nat.reduceMul, Int.reduceToNat, ↓f296_J1, ↓f296_J16, ↓f296_J15, ↓f296_L14, hc, hs.len, hs.loadS]
    refine T.w18 (m + 1) (by omega) _ (hl _ hmem) _ _ _ ?_
    intro u h1 ⟨e4, e5⟩
    rw [mayP_refP] at e5
    subst e5
    cases hm : mayP (x.args.getD j []) with
    | false =>
      simp (disch := first | omega | (simp only [disM] <;> omega) | assumption) only [↓run, ↓runM, run, runM, Nat.reduceAdd, Nat.reduceMul, Int.reduceToNat, ↓f296_J1, ↓f296_J16, ↓f296_J15, ↓f296_L14]
      have : x.args.all mayP = false := by
        rw [Bool.eq_false_iff]; intro h; rw [List.all_eq_true.1 h _ hmem] at hm; cases hm
      exact hk _ _ ⟨(e0.trans e1).trans e4, by unfold eqMay; rw [this]; simp⟩
    | true =>
      simp (disch := first | omega | (simp only [disM] <;> omega) | assumption) only [↓run, ↓runM, run, runM, Nat.reduceAdd, Nat.reduceMul, Int.reduceToNat, ↓f296_J1, ↓f296_J16, ↓f296_J15, ↓f296_L14]
      exact ih i (by omega) _ _ _ _ _ ⟨e1.trans e4, rfl, j + 1, congrArg (AV.int .i64) (by omega), by omega, by rw [htk]; exact hm⟩
theorem nodeL {h : H} {b : Nat} {u v w z : AV} (hc : (h.get b).cells = some [u, v, w, z]) (k : VK β) : qLoadN 4 (.ptr b 0) h (.mk k) = k (.agg [u, v, w, z]) := by
  rw [qLoadN_p, hc]; rfl
theorem GB.w295 (TB : GB t) (T : GA t) (n : Nat) {h : H} {a : AV} {x : Nd} (hx : NdAt h a x) (hl : ∀ y ∈ x.args, y.length ≤ 9223372036854775807) (hr : x.res.length ≤ 9223372036854775807) (hL : x.args.length < 9223372036854775807) (hn : x.args.length + 2200 ≤ n) :
    Sp (β := β) (fRunS t stdI n (.fn 295 []) [a] h) fun u h' => Ext h h' ∧ u = if eqMay x = true then .tup [.str (eqText x), .int .i64 0] else .tup [.str [], .int .i64 1400] := by
  intro k R hk
  obtain ⟨m, rfl⟩ : ∃ m, n = m + 2 := ⟨n - 2, by omega⟩
  obtain ⟨v, rfl, hv⟩ := hx
  rw [TB.c295]; unfold f295
  simp (disch := first | omega | (simp only [disM] <;> omega) | assumption) only [↓run, ↓runM, run, runM, Nat.reduceAdd, Nat.reduceMul, Int.reduceToNat, nodeB]
  have e0 : Ext h (h.push (.own 0 [.int .i64 x.fn, .int .i64 x.parent, v, .str x.res])) := (Ext.refl h).push _
  have hin : NdIn (h.push (.own 0 [.int .i64 x.fn, .int .i64 x.parent, v, .str x.res])) h.n v x := ⟨by rw [get_push_eq rfl]; rfl, (by first | omega | (simp only [H.n_push, H.n_set]; omega)), hv.ext e0⟩
  generalize hg : h.push (.own 0 [.int .i64 x.fn, .int .i64 x.parent, v, .str x.res]) = hb at e0 hin ⊢
  refine TB.w296 T (m + 1) (x := x) ⟨v, rfl, hin.2.2⟩ hl hr hL (by omega) _ _ ?_
  intro u h1 ⟨e1, e2⟩
  subst e2
  cases hm : eqMay x with
  | false =>
    simp (disch := first | omega | (simp only [disM] <;> omega) | assumption) only [↓run, ↓runM, run, runM, Nat.reduceAdd, Nat.reduceMul, Int.reduceToNat]
    exact hk _ _ ⟨e0.trans e1, by rw [hm]; rfl⟩
  | true =>
    obtain ⟨⟨p1, p2⟩, p3, p4, p5, p6⟩ := eqMay_some hm
    have hin1 := hin.ext e1
    have hx1 := hin1.1
    have hi := itoa_len (x := x.fn) (by omega) (by omega)
    simp (disch := first | omega | (simp only [disM] <;> omega) | assumption) only [↓run, ↓runM, run, runM, Nat.reduceAdd, Nat.reduceMul, Int.reduceToNat]
    unfold f295_J1
    simp (disch := first | omega | (simp only [disM] <;> omega) | assumption) only [↓run, ↓runM, run, runM, Nat.reduceAdd, Nat.reduceMul, Int.reduceToNat, hx1]
    refine T.w22 (m + 1) (by omega) _ (by omega) (by omega) _ _ _ ?_
    intro u h2 ⟨e3, e4⟩
    subst e4
    simp (disch := first | omega | (simp only [disM] <;> omega) | assumption) only [↓run, ↓runM, run, runM, Nat.reduceAdd, Nat.reduceMul, Int.reduceToNat]
    refine qLoop_wp 6 (m + 1) _ _ (fun i x0 x1 x2 x3 x4 x5 h' => h' = h2 ∧ x1 = .ptr h.n 0 ∧ ∃ j : Nat, x4 = .str ((102 :: Lib.itoa x.fn) ++ Lib.joinTail [32] (x.args.take j)) ∧ x5 = .int .i64 (j : Int) ∧ j + i = x.args.length) x.args.length (by omega) ?_ _ _ _ _ _ _ _ ⟨rfl, rfl, 0, by simp [Lib.joinTail], rfl, by omega⟩
    intro l i ih x0 x1 x2 x3 x4 x5 h' ⟨q0, q1, j, q4, q5, e5⟩
    subst q0 q1 q4 q5
    have hin2 := hin1.ext e3
    have hc := hin2.1
    have hs := hin2.2.2
    have hj3 := joinTail_small [32] (by simp) (x.args.take j) (fun y hy => by have := (p4 y (List.mem_of_mem_take hy)).2; omega)
    have hj4 : (x.args.take j).length ≤ 3 := by rw [List.length_take]; omega
    cases i with
    | zero =>
      have hj : j = x.args.length := by omega
      subst hj
      rw [List.take_length] at hj3 ⊢
      have hll : x.args.length ≤ 3 := p3
      have hbig : (102 :: Lib.itoa x.fn ++ Lib.joinTail [32] x.args).length ≤ 4000 := by simp only [List.length_append, List.length_cons]; rw [List.take_length] at hj4; omega
      simp (disch := first | omega | (simp only [disM] <;> omega) | assumption) only [↓run, ↓runM, run, runM, Nat.reduceAdd, Nat.reduceMul, Int.reduceToNat, ↓f295_J6, ↓f295_J13, ↓f295_J12, ↓f295_L11, ↓f295_J1, hc, hs.len]
      refine hk _ _ ⟨(e0.trans e1).trans e3, ?_⟩
      rw [hm, eqText_eq]; rfl
    | succ i =>
      have hj : j < x.args.length := by omega
      have hmem : x.args.getD j [] ∈ x.args := by simp [List.getD_eq_getElem?_getD, hj]
      have hml := (p4 _ hmem).2
      have hbig : (102 :: Lib.itoa x.fn ++ Lib.joinTail [32] (x.args.take j)).length ≤ 4000 := by simp only [List.length_append, List.length_cons]; omega
      have htk : Lib.joinTail [32] (x.args.take (j + 1)) = Lib.joinTail [32] (x.args.take j) ++ [32] ++ x.args.getD j [] := by
        rw [List.take_add_one, joinTail_app, List.getD_eq_getElem?_getD, List.getElem?_eq_getElem hj]
        simp [Lib.joinTail]
      simp (disch := first | omega | (simp only [disM] <;> omega) | assumption) only [↓run, ↓runM, run, runM, Nat.reduceAdd, Nat.reduceMul, Int.reduceToNat, ↓f295_J6, ↓f295_J13, ↓f295_J12, ↓f295_L11, ↓f295_J1, hc, hs.len, hs.loadS]
      exact ih i (by omega) _ _ _ _ _ _ _ ⟨rfl, rfl, j + 1, by rw [htk]; simp only [List.append_assoc], congrArg (AV.int .i64) (by omega), by omega⟩
end
end Am.F
