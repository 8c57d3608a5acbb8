/- Walks: TrailForms, TrailAny. -/
import Derived.Test.YtpalaplnolcimaaDoorAmS12
import Derived.Test.YtpalaplnolcimaaDoorAmGL12W
import Derived.Test.YtpalaplnolcimaaDoorAmJd
set_option linter.unusedSimpArgs false
set_option linter.unusedVariables false
namespace Am.F
open Go Am
theorem mayP_1 : mayP [49] = true := by unfold mayP; rw [termP_tP]; rfl
theorem mayP_hole : mayP [95] = true := by unfold mayP; rw [termP_tP]; rfl
theorem mayP_9 : mayP [57] = true := by unfold mayP; rw [termP_tP]; rfl
theorem mayP_5 : mayP [53] = true := by unfold mayP; rw [termP_tP]; rfl
theorem mayP_fail : mayP [33] = true := by unfold mayP; rw [termP_tP]; rfl
theorem mayP_c7 : mayP [64, 55, 40, 95, 32, 52, 41] = true := by unfold mayP; rw [termP_tP]; rfl
theorem mayP_e : mayP [] = false := by unfold mayP; rw [termP_tP]; rfl
theorem mayP_01 : mayP [48, 49] = false := by unfold mayP; rw [termP_tP]; rfl
theorem mayP_x : mayP [120] = false := by unfold mayP; rw [termP_tP]; rfl
theorem mayP_1p : mayP [64, 49, 40, 41] = false := by unfold mayP; rw [termP_tP]; rfl
theorem mayP_100 : mayP [64, 49, 48, 48] = false := by unfold mayP; rw [termP_tP]; rfl
theorem some12_trail : TrailP some12 := by
  refine ⟨by simp [some12], fun q x hq => ?_⟩
  rcases q with _ | _ | _ | _ | _ | q
  all_goals first
    | (cases hq; refine ⟨by omega, ?_, by simp⟩; unfold eqMay; simp [mayP_1, mayP_hole, mayP_9, mayP_5, mayP_fail, mayP_c7])
    | cases hq
theorem some12_fit : ∀ x ∈ some12, NdFit x := by
  intro x hx
  simp only [some12, List.mem_cons, List.not_mem_nil, or_false] at hx
  rcases hx with rfl | rfl | rfl | rfl | rfl <;> exact ⟨by simp, by simp, by simp⟩
theorem small12_fit : ∀ d ∈ small12, d.body.length ≤ 9223372036854775807 := by
  intro d hd
  simp only [small12, List.mem_cons, List.not_mem_nil, or_false] at hd
  rcases hd with rfl | rfl <;> simp [smallMain, smallAdds]
theorem five_at {h' : H} {b : Nat} {n0 n1 n2 n3 n4 : Nd} {w0 w1 w2 w3 w4 : AV} (hb : b < h'.n) (hc : (h'.get b).cells = some [.int .i64 n0.fn, .int .i64 n0.parent, w0, .str n0.res, .int .i64 n1.fn, .int .i64 n1.parent, w1, .str n1.res, .int .i64 n2.fn, .int .i64 n2.parent, w2, .str n2.res, .int .i64 n3.fn, .int .i64 n3.parent, w3, .str n3.res, .int .i64 n4.fn, .int .i64 n4.parent, w4, .str n4.res])
    (s0 : SlAt h' w0 (strs n0.args)) (s1 : SlAt h' w1 (strs n1.args)) (s2 : SlAt h' w2 (strs n2.args)) (s3 : SlAt h' w3 (strs n3.args)) (s4 : SlAt h' w4 (strs n4.args)) : LAt 4 NdC h' (.sl b 0 5 5 none) [n0, n1, n2, n3, n4] := by
  refine .inr ⟨b, 0, 5, none, _, rfl, hb, hc, Nat.le_refl 20, fun j x hx => ?_⟩
  rcases j with _ | _ | _ | _ | _ | j
  · cases hx; exact ⟨w0, rfl, s0⟩
  · cases hx; exact ⟨w1, rfl, s1⟩
  · cases hx; exact ⟨w2, rfl, s2⟩
  · cases hx; exact ⟨w3, rfl, s3⟩
  · cases hx; exact ⟨w4, rfl, s4⟩
  · cases hx
theorem some_set {h h1 h' : H} {A : List AV} (m : SomeM h h1 (someC h.n) A) (e : h1.n ≤ h'.n) (hg : ∀ i, i < h1.n → i ≠ h.n + 3 → h'.get i = h1.get i) {n0 n3 : Nd} {w3 : AV} (h0 : n0.args = []) (hA : SlAt h' w3 (strs n3.args))
    (hc : (h'.get (h.n + 3)).cells = some [.int .i64 n0.fn, .int .i64 n0.parent, .nils, .str n0.res, .int .i64 1, .int .i64 0, .sl h.n 0 2 2 none, .str [57], .int .i64 2, .int .i64 0, .nils, .str [33], .int .i64 n3.fn, .int .i64 n3.parent, w3, .str n3.res, .int .i64 1, .int .i64 2, .sl (h.n + 2) 0 2 2 none, .str [95]]) :
    LAt 4 NdC h' (.sl (h.n + 3) 0 5 5 none) [n0, ⟨1, 0, [[64, 55, 40, 95, 32, 52, 41], [53]], [57]⟩, ⟨2, 0, [], [33]⟩, n3, ⟨1, 2, [[49], [95]], [95]⟩] := by
  have hn := m.n
  refine five_at (by omega) hc (by rw [h0]; exact SlAt.nil _) (two_at (by omega) (by rw [hg _ (by omega) (by omega)]; exact m.g0)) (SlAt.nil _) hA (two_at (by omega) (by rw [hg _ (by omega) (by omega)]; exact m.g2))
def cellsOf (ns : List Nd) : List AV := ns.flatMap fun x => ndCells x .nils
theorem cellsOf_len : ∀ ns : List Nd, (cellsOf ns).length = ns.length * 4
  | [] => rfl
  | x :: ns => by
    have := cellsOf_len ns
    show (ndCells x .nils ++ cellsOf ns).length = (ns.length + 1) * 4
    rw [List.length_append, this]; simp [ndCells]; omega
theorem cellsOf_row : ∀ (ns : List Nd) (j : Nat) (x : Nd), ns[j]? = some x → ((cellsOf ns).drop (j * 4)).take 4 = ndCells x .nils
  | [], j, x, hx => by simp at hx
  | y :: ns, 0, x, hx => by cases hx; rfl
  | y :: ns, j + 1, x, hx => by
    have := cellsOf_row ns j x hx
    show ((ndCells y .nils ++ cellsOf ns).drop ((j + 1) * 4)).take 4 = _
    rw [show (j + 1) * 4 = (ndCells y .nils).length + j * 4 by simp [ndCells]; omega, ← List.drop_drop, List.drop_left]; exact this
theorem cellsOf_at {h : H} {b m : Nat} {g : Option Nat} {ns : List Nd} (hb : b < h.n) (hg : h.get b = .own 0 (cellsOf ns)) (ha : ∀ x ∈ ns, x.args = []) : LAt 4 NdC h (.sl b 0 ns.length m g) ns := by
  refine .inr ⟨b, 0, m, g, _, rfl, hb, by rw [hg]; rfl, by rw [cellsOf_len]; omega, fun j x hx => ⟨.nils, ?_, by rw [ha x (List.mem_of_getElem? hx)]; exact SlAt.nil _⟩⟩
  rw [Nat.zero_add]; exact cellsOf_row ns j x hx
theorem cellsOf_res : ∀ (ns : List Nd) (j : Nat) (x : Nd) (s : List UInt8), ns[j]? = some x → (cellsOf ns).set (j * 4 + 3) (.str s) = cellsOf (ns.set j ⟨x.fn, x.parent, x.args, s⟩)
  | [], j, x, s, hx => by simp at hx
  | y :: ns, 0, x, s, hx => by cases hx; rfl
  | y :: ns, j + 1, x, s, hx => by
    have := cellsOf_res ns j x s hx
    show (ndCells y .nils ++ cellsOf ns).set ((j + 1) * 4 + 3) (.str s) = ndCells y .nils ++ cellsOf (ns.set j _)
    rw [List.set_append_right _ _ (by simp [ndCells]; omega), show (j + 1) * 4 + 3 - (ndCells y .nils).length = j * 4 + 3 by simp [ndCells]; omega, this]
theorem cellsOf_par : ∀ (ns : List Nd) (x : Nd) (p : Int), ns[0]? = some x → (cellsOf ns).set 1 (.int .i64 p) = cellsOf (ns.set 0 ⟨x.fn, p, x.args, x.res⟩)
  | [], x, p, hx => by simp at hx
  | y :: ns, x, p, hx => by cases hx; rfl
theorem rep_nodes (n : Nat) : rep n [.int .i64 0, .int .i64 0, .nils, .str []] = cellsOf (List.replicate n ⟨0, 0, [], []⟩) := by
  induction n with
  | zero => rfl
  | succ n ih => show _ ++ rep n _ = _; rw [ih]; rfl
theorem mkslice_n {β : Type} {l : Nat} (hl : l < room) (h : H) (k : K β) : qMkslice 0 [.int .i64 0, .int .i64 0, .nils, .str []] 56 (.int .i64 (l : Int)) (.int .i64 (l : Int)) h (.mk k) = k (.sl h.n 0 l l none) (h.push (.own 0 (cellsOf (List.replicate l ⟨0, 0, [], []⟩)))) := by
  have hn : ∀ c : Nat → Option β, aNat (.int .i64 (l : Int)) c = c l := fun c => by show frc l c = c l; rw [frc_eq]
  show fMkslice 0 _ 56 (.int .i64 (l : Int)) (.int .i64 (l : Int)) h k = _
  unfold fMkslice
  rw [hn, hn, ble_eq, ble_eq, ble_eq, decide_eq_true (Nat.le_refl _), decide_eq_true (by omega), decide_eq_true (by omega), newB_p, rep_nodes]; rfl
theorem long_not {ns : List Nd} (h : 512 < ns.length) : ¬ TrailP ns := fun hT => by
  have := (hT.2 512 _ (List.getElem?_eq_getElem h)).1
  omega
section
variable {β : Type} {t : ETree}
theorem GL12.w250e (TL : GL12 t) (TS : GS12 t) (TC : GC t) (TB : GB t) (T : GA t) (L : GI t) (m : Nat) (hm : 3500 ≤ m) (k : K β) (R : Option β) (hk : ∀ h', k (.bool true) h' = R) {h : H} {v : AV} {ns : List Nd} (hv : LAt 4 NdC h v ns) (hf : ∀ x ∈ ns, NdFit x) (hl : ns.length ≤ 2000) (hT : ¬ TrailP ns) (x0 x1 x2 x3 x4 x5 x6 x7 x8 x9 x10 x11 x12 x13 : AV) (h4 : x4 = v) :
    f250_J4 (fRunS t stdI m) k x0 x1 x2 x3 x4 x5 x6 x7 x8 x9 x10 x11 x12 x13 h = R := by
  subst h4
  obtain ⟨m, rfl⟩ : ∃ m', m = m' + 2 := ⟨m - 2, by omega⟩
  have zT := isB_t some12_trail
  have zN := isB_f hT
  have zF : isB (FitsP small12 ns) = false := isB_f fun hh => hT hh.2.1
  unfold f250_J4
  refine TS.w260 (m + 1) h _ _ ?_
  intro u h1 ⟨e1, e2⟩
  subst e1
  have l1 : some12.length = 5 := rfl
  have s1 := fun h' (e : Ext h1 h') => TC.w261 TB T L (m + 2) (β := β) (by rw [l1]; omega) ((e2.nodes).ext NdC.stays e) some12_fit (by rw [l1]; omega)
  refine s1 h1 (Ext.refl _) _ _ ?_
  intro u h2 ⟨e3, e4⟩
  subst e4
  simp (disch := first | omega | (simp only [disM] <;> omega) | assumption) only [↓run, ↓runM, run, runM, Nat.reduceAdd, Nat.reduceMul, Int.reduceToNat, zT]
  refine TC.w261 TB T L (m + 2) (by omega) (hv.ext NdC.stays (e2.ext.trans e3)) hf (by omega) _ _ ?_
  intro u h3 ⟨e5, e6⟩
  subst e6
  simp (disch := first | omega | (simp only [disM] <;> omega) | assumption) only [↓run, ↓runM, run, runM, Nat.reduceAdd, Nat.reduceMul, Int.reduceToNat, zT, zN]
  refine TS.w263 m h3 _ _ ?_
  intro p h4 ⟨e7, e8⟩
  refine TC.w262 TB T L (m + 2) (by omega) e8 (hv.ext NdC.stays (e2.ext.trans (e3.trans (e5.trans e7)))) hf (by omega) (by decide) small12_fit _ _ ?_
  intro u h5 ⟨e9, e10⟩
  subst e10
  simp (disch := first | omega | (simp only [disM] <;> omega) | assumption) only [↓run, ↓runM, run, runM, Nat.reduceAdd, Nat.reduceMul, Int.reduceToNat, zT, zN, zF, T.w16, T.w41]
  exact hk _
theorem isB_q (x : Int) (kk : VK β) : qBin .and (.int .i64 x) (.int .i64 1023) (.mk kk) = kk (.int .i64 (x % (2 ^ 10 : Nat))) := pBin_and 1023 10 rfl (by decide) x kk
theorem q_and3 (x : Int) (kk : VK β) : qBin .and (.int .i64 x) (.int .i64 3) (.mk kk) = kk (.int .i64 (x % (2 ^ 2 : Nat))) := pBin_and 3 2 rfl (by decide) x kk
theorem GL12.w250 (TL : GL12 t) (TS : GS12 t) (TC : GC t) (TB : GB t) (T : GA t) (L : GI t) (hA : t.get 259 = some (eAw 259)) (n : Nat) (hn : 4000 ≤ n) {h : H} (i x : Int) :
    Sp (β := β) (fRunS t stdI n (.fn 250 []) [.int .i64 i, .int .i64 x] h) fun u h' => u = .bool true := by
  intro k R hk0
  have hk : ∀ h', k (.bool true) h' = R := fun h' => hk0 _ _ rfl
  obtain ⟨m, rfl⟩ : ∃ m, n = m + 2 := ⟨n - 2, by omega⟩
  have haw := fun (hh : H) (kk : K β) => awk_q (β := β) (k := 259) rfl hA m hh kk
  have hroom : room = 68719476736 := rfl
  obtain ⟨d, hd⟩ : ∃ d, d = x % ((2 ^ 10 : Nat) : Int) := ⟨_, rfl⟩
  have hd0 : 0 ≤ d ∧ d < 1024 := by omega
  have h1023 := isB_q (β := β) x
  rw [← hd] at h1023
  obtain ⟨hr0, hr1⟩ := u64_rem 12 (by omega) i
  have hrem : ∀ kk : VK β, qBin .rem (.int .u64 (IntKind.u64.wrap i)) (.int .u64 12) (.mk kk) = kk (.int .u64 ((IntKind.u64.wrap i).tmod 12)) := fun kk => pBin_rem _ _ _ (by decide) kk
  generalize (IntKind.u64.wrap i).tmod 12 = r at hr0 hr1 hrem
  have hcv : ∀ kk : VK β, qConv .u64 (.int .i64 i) (.mk kk) = kk (.int .u64 (IntKind.u64.wrap i)) := fun kk => pConv_any _ _ _ kk
  have e4 : ∀ (b : Nat) (kk : VK β), qIadr 4 (.sl b 0 5 5 none) (.int .i64 3) (.mk kk) = kk (.ptr b 12) := fun b kk => q_pIadr_p (by omega) (by omega) kk
  have e0 : ∀ (b : Nat) (kk : VK β), qIadr 4 (.sl b 0 5 5 none) (.int .i64 0) (.mk kk) = kk (.ptr b 0) := fun b kk => q_pIadr_p (by omega) (by omega) kk
  have fin := fun {h : H} {v : AV} {ns : List Nd} (hv : LAt 4 NdC h v ns) (hf : ∀ x ∈ ns, NdFit x) (hl : ns.length ≤ 2000) (hT : ¬ TrailP ns) => TL.w250e TS TC TB T L (m + 1) (by omega) k R hk hv hf hl hT
  obtain ⟨c, hc⟩ : ∃ c, c = x % ((2 ^ 2 : Nat) : Int) := ⟨_, rfl⟩
  have h3 := q_and3 (β := β) x
  rw [← hc] at h3
  have hc0 : c = 0 ∨ c = 1 ∨ c = 2 ∨ c = 3 := by omega
  obtain ⟨D, hD⟩ : ∃ D : Nat, (D : Int) = 512 + (1 + d) := ⟨(513 + d).toNat, by omega⟩
  have hmk := fun (hh : H) (kk : K β) => mkslice_n (β := β) (l := D) (by omega) hh kk
  rw [hD] at hmk
  rw [TL.c250]; unfold f250
  simp (disch := first | omega | (simp only [disM] <;> omega) | assumption) only [↓run, ↓runM, run, runM, Nat.reduceAdd, Nat.reduceMul, Int.reduceToNat, haw, ↓f250_J0, ↓f250_J67, ↓f250_J71, ↓f250_J72, h1023]
  refine TS.w260 m h _ _ ?_
  intro u h1 ⟨e1, e2⟩
  subst e1
  have hn1 := e2.n
  have lc : (someC h.n).length = 20 := rfl
  have ow : ownOf (h1.get (h.n + 3)) = some (0, someC h.n) := by rw [e2.g3]; rfl
  have cl : (h1.get (h.n + 3)).cells = some (someC h.n) := by rw [e2.g3]; rfl
  have ow1 : ownOf (h1.get (h.n + 1)) = some (0, [.str [49], .str [95]]) := by rw [e2.g1]; rfl
  have g14 : (someC h.n)[14]? = some (.sl (h.n + 1) 0 2 2 none) := rfl
  have hgs : ∀ (bk : Blk) (i : Nat), i < h1.n → i ≠ h.n + 3 → (h1.set (h.n + 3) bk).get i = h1.get i := fun bk i _ p => get_set_ne (by omega)
  have hns : ∀ bk, h1.n ≤ (h1.set (h.n + 3) bk).n := fun bk => by rw [H.n_set]; omega
  have fits : ∀ (n0 n3 : Nd), NdFit n0 → NdFit n3 → ∀ x ∈ [n0, (⟨1, 0, [[64, 55, 40, 95, 32, 52, 41], [53]], [57]⟩ : Nd), ⟨2, 0, [], [33]⟩, n3, ⟨1, 2, [[49], [95]], [95]⟩], NdFit x := by
    intro n0 n3 f0 f3 x hx
    simp only [List.mem_cons, List.not_mem_nil, or_false] at hx
    rcases hx with rfl | rfl | rfl | rfl | rfl
    · exact f0
    · exact some12_fit _ (by simp [some12])
    · exact some12_fit _ (by simp [some12])
    · exact f3
    · exact some12_fit _ (by simp [some12])
  have a3 : ∀ bk, SlAt (h1.set (h.n + 3) bk) (.sl (h.n + 1) 0 2 2 none) (strs [[49], [95]]) := fun bk => two_at (by rw [H.n_set]; omega) (by rw [hgs _ _ (by omega) (by omega)]; exact e2.g1)
  have hr : r = 0 ∨ r = 1 ∨ r = 2 ∨ r = 3 ∨ r = 4 ∨ r = 5 ∨ r = 6 ∨ r = 7 ∨ r = 8 ∨ r = 9 ∨ r = 10 ∨ r = 11 := by omega
  rcases hr with rfl | rfl | rfl | rfl | rfl | rfl | rfl | rfl | rfl | rfl | rfl | rfl
  · simp (disch := first | omega | (simp only [disM] <;> omega) | assumption) only [↓run, ↓runM, run, runM, Nat.reduceAdd, Nat.reduceMul, Int.reduceToNat, haw, ↓f250_J0, ↓f250_J67, ↓f250_J71, ↓f250_J72, hcv, hrem, Int.reduceEq]
    exact fin (.inl ⟨rfl, rfl⟩) (by simp) (by simp) (fun hT => hT.1 rfl) _ _ _ _ _ _ _ _ _ _ _ _ _ _ rfl
  · simp (disch := first | omega | (simp only [disM] <;> omega) | assumption) only [↓run, ↓runM, run, runM, Nat.reduceAdd, Nat.reduceMul, Int.reduceToNat, haw, ↓f250_J0, ↓f250_J67, ↓f250_J71, ↓f250_J72, hcv, hrem, Int.reduceEq, e0, ow, lc, Nat.reduceLT]
    exact fin (some_set e2 (hns _) (hgs _) (n0 := ⟨0, 0, [], [57]⟩) (n3 := ⟨1, 1, [[49], [95]], [95]⟩) rfl (a3 _) (by rw [get_set_eq rfl]; rfl)) (fits _ _ ⟨by simp, by simp, by simp⟩ ⟨by simp, by simp, by simp⟩) (by simp) (fun hT => by have := (hT.2 0 _ rfl).2.2; simp at this) _ _ _ _ _ _ _ _ _ _ _ _ _ _ rfl
  · simp (disch := first | omega | (simp only [disM] <;> omega) | assumption) only [↓run, ↓runM, run, runM, Nat.reduceAdd, Nat.reduceMul, Int.reduceToNat, haw, ↓f250_J0, ↓f250_J67, ↓f250_J71, ↓f250_J72, hcv, hrem, Int.reduceEq, e0, ow, lc, Nat.reduceLT]
    exact fin (some_set e2 (hns _) (hgs _) (n0 := ⟨0, -1 - (1 + d), [], [57]⟩) (n3 := ⟨1, 1, [[49], [95]], [95]⟩) rfl (a3 _) (by rw [get_set_eq rfl]; rfl)) (fits _ _ ⟨by simp, by simp, by simp⟩ ⟨by simp, by simp, by simp⟩) (by simp) (fun hT => by have := (hT.2 0 _ rfl).2.2; simp at this; omega) _ _ _ _ _ _ _ _ _ _ _ _ _ _ rfl
  · simp (disch := first | omega | (simp only [disM] <;> omega) | assumption) only [↓run, ↓runM, run, runM, Nat.reduceAdd, Nat.reduceMul, Int.reduceToNat, haw, ↓f250_J0, ↓f250_J67, ↓f250_J71, ↓f250_J72, hcv, hrem, Int.reduceEq, e4, ow, lc, Nat.reduceLT]
    exact fin (some_set e2 (hns _) (hgs _) (n0 := ⟨0, -1, [], [57]⟩) (n3 := ⟨1, -(1 + d), [[49], [95]], [95]⟩) rfl (a3 _) (by rw [get_set_eq rfl]; rfl)) (fits _ _ ⟨by simp, by simp, by simp⟩ ⟨by simp, by simp, by simp⟩) (by simp) (fun hT => by have := (hT.2 3 _ rfl).2.2; simp at this; omega) _ _ _ _ _ _ _ _ _ _ _ _ _ _ rfl
  · simp (disch := first | omega | (simp only [disM] <;> omega) | assumption) only [↓run, ↓runM, run, runM, Nat.reduceAdd, Nat.reduceMul, Int.reduceToNat, haw, ↓f250_J0, ↓f250_J67, ↓f250_J71, ↓f250_J72, hcv, hrem, Int.reduceEq, e4, ow, lc, Nat.reduceLT]
    exact fin (some_set e2 (hns _) (hgs _) (n0 := ⟨0, -1, [], [57]⟩) (n3 := ⟨1, 2 + (1 + d), [[49], [95]], [95]⟩) rfl (a3 _) (by rw [get_set_eq rfl]; rfl)) (fits _ _ ⟨by simp, by simp, by simp⟩ ⟨by simp, by simp, by simp⟩) (by simp) (fun hT => by have := (hT.2 3 _ rfl).2.2; simp at this; omega) _ _ _ _ _ _ _ _ _ _ _ _ _ _ rfl
  · simp (disch := first | omega | (simp only [disM] <;> omega) | assumption) only [↓run, ↓runM, run, runM, Nat.reduceAdd, Nat.reduceMul, Int.reduceToNat, haw, ↓f250_J0, ↓f250_J67, ↓f250_J71, ↓f250_J72, hcv, hrem, Int.reduceEq, e4, ow, lc, Nat.reduceLT]
    exact fin (some_set e2 (hns _) (hgs _) (n0 := ⟨0, -1, [], [57]⟩) (n3 := ⟨-(1 + d), 1, [[49], [95]], [95]⟩) rfl (a3 _) (by rw [get_set_eq rfl]; rfl)) (fits _ _ ⟨by simp, by simp, by simp⟩ ⟨by simp, by simp, by simp⟩) (by simp) (fun hT => by have := (eqMay_fn (hT.2 3 _ rfl).2.1).1; simp at this; omega) _ _ _ _ _ _ _ _ _ _ _ _ _ _ rfl
  · simp (disch := first | omega | (simp only [disM] <;> omega) | assumption) only [↓run, ↓runM, run, runM, Nat.reduceAdd, Nat.reduceMul, Int.reduceToNat, haw, ↓f250_J0, ↓f250_J67, ↓f250_J71, ↓f250_J72, hcv, hrem, Int.reduceEq, e4, ow, lc, Nat.reduceLT]
    exact fin (some_set e2 (hns _) (hgs _) (n0 := ⟨0, -1, [], [57]⟩) (n3 := ⟨7 + (1 + d), 1, [[49], [95]], [95]⟩) rfl (a3 _) (by rw [get_set_eq rfl]; rfl)) (fits _ _ ⟨by simp, by simp, by simp⟩ ⟨by simp, by simp, by simp⟩) (by simp) (fun hT => by have := (eqMay_fn (hT.2 3 _ rfl).2.1).1; simp at this; omega) _ _ _ _ _ _ _ _ _ _ _ _ _ _ rfl
  · have hb4 : ∀ (hh : H) (kk : K β), qBslice 0 [.str [], .str [], .str [], .str []] 4 [(0, 1), (1, 1), (2, 1), (3, 1)] [.str [49], .str [50], .str [51], .str [52]] hh (.mk kk) = kk (.sl hh.n 0 4 4 none) (hh.push (.own 0 [.str [49], .str [50], .str [51], .str [52]])) := fun hh kk => fBslice_n (fun _ => rfl) hh kk
    have ow' : ∀ bk, ownOf ((h1.push bk).get (h.n + 3)) = some (0, someC h.n) := fun bk => by rw [get_push_ne (by omega)]; exact ow
    simp (disch := first | omega | (simp only [disM] <;> omega) | assumption) only [↓run, ↓runM, run, runM, Nat.reduceAdd, Nat.reduceMul, Int.reduceToNat, haw, ↓f250_J0, ↓f250_J67, ↓f250_J71, ↓f250_J72, hcv, hrem, Int.reduceEq, e4, ↓hb4, ow, ow', lc, Nat.reduceLT]
    refine fin (some_set e2 (by rw [H.n_set, H.n_push]; omega) (fun i p q => by rw [get_set_ne (by omega), get_push_ne (by omega)]) (n0 := ⟨0, -1, [], [57]⟩) (n3 := ⟨1, 1, [[49], [50], [51], [52]], [95]⟩) (w3 := .sl h1.n 0 4 4 none) rfl
      (.inr ⟨h1.n, 0, 4, none, _, rfl, by rw [H.n_set, H.n_push]; omega, by rw [get_set_ne (by omega), get_push_eq rfl]; rfl, rfl, by simp [strs]⟩) (by rw [get_set_eq rfl]; rfl)) (fits _ _ ⟨by simp, by simp, by simp⟩ ⟨by simp, by simp, by simp⟩) (by simp) (fun hT => by have := (eqMay_fn (hT.2 3 _ rfl).2.1).2; simp at this) _ _ _ _ _ _ _ _ _ _ _ _ _ _ rfl
  · have hb4 : ∀ (hh : H) (kk : K β), qBslice 0 [.str [], .str [], .str [], .str []] 4 [(0, 1), (1, 1), (2, 1), (3, 1)] [.str [], .str [48, 49], .str [120], .str [64, 49, 40, 41]] hh (.mk kk) = kk (.sl hh.n 0 4 4 none) (hh.push (.own 0 [.str [], .str [48, 49], .str [120], .str [64, 49, 40, 41]])) := fun hh kk => fBslice_n (fun _ => rfl) hh kk
    have ch : ∀ (b : Nat) (cc : Option β), qChk (.sl b 0 2 2 none) (.sl b 0 2 2 none) (.mk cc) = cc := fun b cc => by
      show cond (AV.beq _ _) cc none = cc
      have : AV.beq (.sl b 0 2 2 none) (.sl b 0 2 2 none) = true := by simp [AV.beq]
      rw [this]; rfl
    have cl' : ∀ bk, ((h1.push bk).get (h.n + 3)).cells = some (someC h.n) := fun bk => by rw [get_push_ne (by omega)]; exact cl
    have ow1' : ∀ bk, ownOf ((h1.push bk).get (h.n + 1)) = some (0, [.str [49], .str [95]]) := fun bk => by rw [get_push_ne (by omega)]; exact ow1
    have done : ∀ (s : List UInt8), mayP s = false → s.length ≤ 100 → ∀ bk (x0 x1 x2 x3 x4 x5 x6 x7 x8 x9 x10 x11 x12 x13 : AV), x4 = .sl (h.n + 3) 0 5 5 none → f250_J4 (fRunS t stdI (m + 1)) k x0 x1 x2 x3 x4 x5 x6 x7 x8 x9 x10 x11 x12 x13 ((h1.push bk).set (h.n + 1) (.own 0 [.str [49], .str s])) = R := by
      intro s hs hsl bk x0 x1 x2 x3 x4 x5 x6 x7 x8 x9 x10 x11 x12 x13 h4
      refine fin (ns := [⟨0, -1, [], [57]⟩, ⟨1, 0, [[64, 55, 40, 95, 32, 52, 41], [53]], [57]⟩, ⟨2, 0, [], [33]⟩, ⟨1, 1, [[49], s], [95]⟩, ⟨1, 2, [[49], [95]], [95]⟩]) (five_at (by rw [H.n_set, H.n_push]; omega) (by rw [get_set_ne (by omega), get_push_ne (by omega)]; exact cl) (SlAt.nil _) (two_at (by rw [H.n_set, H.n_push]; omega) (by rw [get_set_ne (by omega), get_push_ne (by omega)]; exact e2.g0)) (SlAt.nil _) (two_at (by rw [H.n_set, H.n_push]; omega) (get_set_eq rfl)) (two_at (by rw [H.n_set, H.n_push]; omega) (by rw [get_set_ne (by omega), get_push_ne (by omega)]; exact e2.g2)))
        (fits _ _ ⟨by simp, by simp, by simp⟩ ⟨by simp; omega, by simp, by simp⟩) (by simp) (fun hT => by have := (hT.2 3 _ rfl).2.1; unfold eqMay at this; simp [hs] at this) x0 x1 x2 x3 x4 x5 x6 x7 x8 x9 x10 x11 x12 x13 h4
    have e11 : ∀ (b : Nat) (kk : VK β), qIadr 1 (.sl b 0 2 2 none) (.int .i64 1) (.mk kk) = kk (.ptr b 1) := fun b kk => q_pIadr_p (by omega) (by omega) kk
    rcases hc0 with rfl | rfl | rfl | rfl
    · simp (disch := first | omega | (simp only [disM] <;> omega) | assumption) only [↓run, ↓runM, run, runM, Nat.reduceAdd, Nat.reduceMul, Int.reduceToNat, haw, ↓f250_J0, ↓f250_J67, ↓f250_J71, ↓f250_J72, hcv, hrem, Int.reduceEq, e4, ↓hb4, cl, cl', g14, h3, ch, e11, ow1, ow1']
      exact done _ mayP_e (by simp) _ _ _ _ _ _ _ _ _ _ _ _ _ _ _ rfl
    · simp (disch := first | omega | (simp only [disM] <;> omega) | assumption) only [↓run, ↓runM, run, runM, Nat.reduceAdd, Nat.reduceMul, Int.reduceToNat, haw, ↓f250_J0, ↓f250_J67, ↓f250_J71, ↓f250_J72, hcv, hrem, Int.reduceEq, e4, ↓hb4, cl, cl', g14, h3, ch, e11, ow1, ow1']
      exact done _ mayP_01 (by simp) _ _ _ _ _ _ _ _ _ _ _ _ _ _ _ rfl
    · simp (disch := first | omega | (simp only [disM] <;> omega) | assumption) only [↓run, ↓runM, run, runM, Nat.reduceAdd, Nat.reduceMul, Int.reduceToNat, haw, ↓f250_J0, ↓f250_J67, ↓f250_J71, ↓f250_J72, hcv, hrem, Int.reduceEq, e4, ↓hb4, cl, cl', g14, h3, ch, e11, ow1, ow1']
      exact done _ mayP_x (by simp) _ _ _ _ _ _ _ _ _ _ _ _ _ _ _ rfl
    · simp (disch := first | omega | (simp only [disM] <;> omega) | assumption) only [↓run, ↓runM, run, runM, Nat.reduceAdd, Nat.reduceMul, Int.reduceToNat, haw, ↓f250_J0, ↓f250_J67, ↓f250_J71, ↓f250_J72, hcv, hrem, Int.reduceEq, e4, ↓hb4, cl, cl', g14, h3, ch, e11, ow1, ow1']
      exact done _ mayP_1p (by simp) _ _ _ _ _ _ _ _ _ _ _ _ _ _ _ rfl
  · simp (disch := first | omega | (simp only [disM] <;> omega) | assumption) only [↓run, ↓runM, run, runM, Nat.reduceAdd, Nat.reduceMul, Int.reduceToNat, haw, ↓f250_J0, ↓f250_J67, ↓f250_J71, ↓f250_J72, hcv, hrem, Int.reduceEq, e4, ow, lc, Nat.reduceLT]
    exact fin (some_set e2 (hns _) (hgs _) (n0 := ⟨0, -1, [], [57]⟩) (n3 := ⟨1, 1, [[49], [95]], []⟩) rfl (a3 _) (by rw [get_set_eq rfl]; rfl)) (fits _ _ ⟨by simp, by simp, by simp⟩ ⟨by simp, by simp, by simp⟩) (by simp) (fun hT => by have := (hT.2 3 _ rfl).2.1; unfold eqMay at this; simp [mayP_e] at this) _ _ _ _ _ _ _ _ _ _ _ _ _ _ rfl
  · simp (disch := first | omega | (simp only [disM] <;> omega) | assumption) only [↓run, ↓runM, run, runM, Nat.reduceAdd, Nat.reduceMul, Int.reduceToNat, haw, ↓f250_J0, ↓f250_J67, ↓f250_J71, ↓f250_J72, hcv, hrem, Int.reduceEq, e0, ow, lc, Nat.reduceLT]
    exact fin (some_set e2 (hns _) (hgs _) (n0 := ⟨0, -1, [], [64, 49, 48, 48]⟩) (n3 := ⟨1, 1, [[49], [95]], [95]⟩) rfl (a3 _) (by rw [get_set_eq rfl]; rfl)) (fits _ _ ⟨by simp, by simp, by simp⟩ ⟨by simp, by simp, by simp⟩) (by simp) (fun hT => by have := (hT.2 0 _ rfl).2.1; unfold eqMay at this; simp [mayP_100] at this) _ _ _ _ _ _ _ _ _ _ _ _ _ _ rfl
  · simp (disch := first | omega | (simp only [disM] <;> omega) | assumption) only [↓run, ↓runM, run, runM, Nat.reduceAdd, Nat.reduceMul, Int.reduceToNat, haw, ↓f250_J0, ↓f250_J67, ↓f250_J71, ↓f250_J72, hcv, hrem, Int.reduceEq, hmk]
    refine qLoop_wp 14 (m + 1) _ _ (fun i x0 x1 x2 x3 x4 x5 x6 x7 x8 x9 x10 x11 x12 x13 h' => ∃ (j : Nat) (ns : List Nd), x4 = .sl h1.n 0 D D none ∧ x5 = .int .i64 (j : Int) ∧ j + i = D ∧ ns.length = D ∧ (∀ x ∈ ns, x.args = [] ∧ x.res.length ≤ 5) ∧ h'.n = h1.n + 1 ∧ h'.get h1.n = .own 0 (cellsOf ns)) D (by omega) ?_ _ _ _ _ _ _ _ _ _ _ _ _ _ _ _
      ⟨0, List.replicate D ⟨0, 0, [], []⟩, rfl, rfl, by omega, List.length_replicate .., fun y hy => by rw [List.eq_of_mem_replicate hy]; exact ⟨rfl, by simp⟩, by rw [H.n_push], get_push_eq rfl⟩
    intro l i ih x0 x1 x2 x3 x4 x5 x6 x7 x8 x9 x10 x11 x12 x13 h' ⟨j, ns, q1, q2, q3, q4, q5, q6, q7⟩
    subst q1 q2
    have owc : ownOf (h'.get h1.n) = some (0, cellsOf ns) := by rw [q7]; rfl
    have lcc := cellsOf_len ns
    cases i with
    | zero =>
      have hj : j = D := by omega
      subst hj
      have e00 : ∀ (kk : VK β), qIadr 4 (.sl h1.n 0 j j none) (.int .i64 0) (.mk kk) = kk (.ptr h1.n 0) := fun kk => q_pIadr_p (by omega) (by omega) kk
      obtain ⟨y, hy⟩ : ∃ y, ns[0]? = some y := ⟨_, List.getElem?_eq_getElem (by omega)⟩
      have hps := cellsOf_par ns y (-1) hy
      have hlt : (1 < ns.length * 4) := by omega
      simp (disch := first | omega | (simp only [disM] <;> omega) | assumption) only [↓run, ↓runM, run, runM, Nat.reduceAdd, Nat.reduceMul, Int.reduceToNat, haw, ↓f250_J0, ↓f250_J67, ↓f250_J71, ↓f250_J72, ↓f250_L70, e00, owc, lcc, eq_true hlt, hps]
      have hlen : (ns.set 0 ⟨y.fn, -1, y.args, y.res⟩).length = j := by rw [List.length_set, q4]
      have hall : ∀ z ∈ ns.set 0 ⟨y.fn, -1, y.args, y.res⟩, z.args = [] ∧ z.res.length ≤ 5 := fun z hz => by
        rcases List.mem_or_eq_of_mem_set hz with hz | rfl
        · exact q5 z hz
        · exact q5 y (List.mem_of_getElem? hy)
      have hat := cellsOf_at (h := h'.set h1.n (.own 0 (cellsOf (ns.set 0 ⟨y.fn, -1, y.args, y.res⟩)))) (b := h1.n) (m := j) (g := none) (by rw [H.n_set]; omega) (get_set_eq rfl) (fun z hz => (hall z hz).1)
      rw [hlen] at hat
      exact fin hat (fun z hz => ⟨by rw [(hall z hz).1]; simp, by have := (hall z hz).2; omega, by rw [(hall z hz).1]; simp⟩) (by omega) (long_not (by omega)) _ _ _ _ _ _ _ _ _ _ _ _ _ _ rfl
    | succ i =>
      have hj : j < D := by omega
      have ej : ∀ (kk : VK β), qIadr 4 (.sl h1.n 0 D D none) (.int .i64 (j : Int)) (.mk kk) = kk (.ptr h1.n (j * 4)) := fun kk => by rw [q_pIadr_p (by omega) (by omega), Int.toNat_natCast, Nat.zero_add]
      obtain ⟨y, hy⟩ : ∃ y, ns[j]? = some y := ⟨_, List.getElem?_eq_getElem (by omega)⟩
      have hps := cellsOf_res ns j y [49] hy
      have hlt : (j * 4 + 3 < ns.length * 4) := by omega
      simp (disch := first | omega | (simp only [disM] <;> omega) | assumption) only [↓run, ↓runM, run, runM, Nat.reduceAdd, Nat.reduceMul, Int.reduceToNat, haw, ↓f250_J0, ↓f250_J67, ↓f250_J71, ↓f250_J72, ↓f250_L70, ej, owc, lcc, eq_true hlt, hps]
      refine ih i (by omega) _ _ _ _ _ _ _ _ _ _ _ _ _ _ _ ⟨j + 1, ns.set j ⟨y.fn, y.parent, y.args, [49]⟩, rfl, rfl, by omega, by rw [List.length_set]; exact q4, fun z hz => ?_, by rw [H.n_set]; exact q6, get_set_eq rfl⟩
      rcases List.mem_or_eq_of_mem_set hz with hz | rfl
      · exact q5 z hz
      · exact ⟨(q5 y (List.mem_of_getElem? hy)).1, by simp⟩
end
end Am.F
