/- Walks: the statements of chapter 2, TermLong. -/
import Derived.Test.YtpalaplnolcimaaDoorAmQL4
set_option linter.unusedSimpArgs false
set_option linter.unusedVariables false
namespace Am.F
open Go Am

def nestA : Nat → List UInt8
  | 0 => []
  | j + 1 => nestA j ++ [64, 49, 40]
def nestB : Nat → List UInt8
  | 0 => []
  | j + 1 => nestB j ++ [41]
theorem nestA_len (j : Nat) : (nestA j).length = 3 * j := by
  induction j with
  | zero => rfl
  | succ j ih => simp only [nestA, List.length_append, List.length_cons, List.length_nil, ih]; omega
theorem nestB_len (j : Nat) : (nestB j).length = j := by
  induction j with
  | zero => rfl
  | succ j ih => simp only [nestB, List.length_append, List.length_cons, List.length_nil, ih]
theorem nestB_front (j : Nat) : nestB j ++ [41] = 41 :: nestB j := by
  induction j with
  | zero => rfl
  | succ j ih => rw [nestB, ih, List.cons_append, ih]
theorem nest_may (j : Nat) : ∀ (w : List UInt8), mayP w = true → w.length + 4 * j ≤ 1024 → mayP (nestA j ++ w ++ nestB j) = true := by
  induction j with
  | zero => intro w hw _; simpa [nestA, nestB] using hw
  | succ j ih =>
    intro w hw hl
    have hi : Lib.itoa 1 = [49] := by rw [show (1 : Int) = ((1 : Nat) : Int) from rfl, itoa_nat, Lib.decDigits, dif_pos (by omega)]; rfl
    have hc : conP 1 [w] = [64, 49, 40] ++ w ++ [41] := by rw [conP_one, hi]; rfl
    have hcl : (conP 1 [w]).length = w.length + 4 := by rw [hc]; simp only [List.length_append, List.length_cons, List.length_nil]; omega
    have ht : tP (conP 1 [w]) = some ⟨2, 1, [w], []⟩ := tP_conP (by omega) (by omega) (by simp) (fun y hy => by rw [List.mem_singleton] at hy; rw [hy]; exact hw) (by omega)
    have := ih (conP 1 [w]) ((mayP_iff _).2 ⟨_, ht⟩) (by omega)
    rw [hc] at this
    rw [show nestA (j + 1) ++ w ++ nestB (j + 1) = nestA j ++ ([64, 49, 40] ++ w ++ [41]) ++ nestB j by simp only [nestA, nestB, nestB_front, List.append_assoc, List.cons_append, List.nil_append]]
    exact this
theorem nest_is (w : List UInt8) (hw : mayP w = true) : mayP (nestA 254 ++ w ++ nestB 254) = decide ((((nestA 254 ++ w ++ nestB 254).length : Nat) : Int) ≤ 1024) := by
  have hl : (nestA 254 ++ w ++ nestB 254).length = w.length + 1016 := by simp only [List.length_append, nestA_len, nestB_len]; omega
  by_cases h : w.length ≤ 8
  · rw [nest_may 254 w hw (by omega), decide_eq_true (by omega)]
  · rw [decide_eq_false (by omega)]
    unfold mayP; rw [termP_tP]; unfold tP
    rw [if_neg (by omega)]; rfl

def longs : List (List UInt8) := [[49], [49, 50], [49, 50, 51], [49, 50, 51, 52], [49, 50, 51, 52, 53], [45, 49, 50, 51, 52, 53], [64, 49, 40, 49, 50, 51, 41], [64, 49, 40, 49, 50, 51, 52, 41], [64, 49, 40, 49, 50, 51, 52, 53, 41], [64, 49, 40, 49, 32, 50, 32, 51, 41], [64, 49, 40, 45, 49, 50, 51, 52, 53, 41], [64, 49, 40, 49, 32, 50, 41], [64, 57, 57, 40, 49, 41], [64, 57, 57, 40, 49, 50, 41], [64, 57, 57, 40, 49, 50, 51, 41], [64, 57, 57, 40, 49, 50, 51, 52, 41]]
theorem longs_may : ∀ w ∈ longs, mayP w = true ∧ w.length ≤ 20 := by
  have h : longs.all (fun w => (tP w).isSome && decide (w.length ≤ 20)) = true := by rfl
  intro w hw
  have := List.all_eq_true.1 h w hw
  rw [Bool.and_eq_true] at this
  refine ⟨?_, of_decide_eq_true this.2⟩
  unfold mayP; rw [termP_tP]; exact this.1

section
variable {β : Type} {t : ETree}

/-- TermLong. -/
theorem GL2.w7 (T2 : GL2 t) (T : GA t) (L : GI t) (n : Nat) (hn : 2100 ≤ n) (x : Int) (h : H) : Sp (β := β) (fRunS t stdI n (.fn 7 []) [.int .i64 x] h) fun v h' => v = .bool true := by
  intro k R hk
  obtain ⟨m, rfl⟩ : ∃ m, n = m + 3 := ⟨n - 3, by omega⟩
  have ha : ∀ kk : VK β, qBin .and (.int .i64 x) (.int .i64 15) (.mk kk) = kk (.int .i64 (x % 16)) := fun kk => pBin_and 15 4 rfl (by decide) x kk
  have hb : ∀ (hh : H) (kk : K β), qBslice 0 [(.str []), (.str []), (.str []), (.str []), (.str []), (.str []), (.str []), (.str []), (.str []), (.str []), (.str []), (.str []), (.str []), (.str []), (.str []), (.str [])] 16 [(0, 1), (1, 1), (2, 1), (3, 1), (4, 1), (5, 1), (6, 1), (7, 1), (8, 1), (9, 1), (10, 1), (11, 1), (12, 1), (13, 1), (14, 1), (15, 1)] [(.str [49]), (.str [49, 50]), (.str [49, 50, 51]), (.str [49, 50, 51, 52]), (.str [49, 50, 51, 52, 53]), (.str [45, 49, 50, 51, 52, 53]), (.str [64, 49, 40, 49, 50, 51, 41]), (.str [64, 49, 40, 49, 50, 51, 52, 41]), (.str [64, 49, 40, 49, 50, 51, 52, 53, 41]), (.str [64, 49, 40, 49, 32, 50, 32, 51, 41]), (.str [64, 49, 40, 45, 49, 50, 51, 52, 53, 41]), (.str [64, 49, 40, 49, 32, 50, 41]), (.str [64, 57, 57, 40, 49, 41]), (.str [64, 57, 57, 40, 49, 50, 41]), (.str [64, 57, 57, 40, 49, 50, 51, 41]), (.str [64, 57, 57, 40, 49, 50, 51, 52, 41])] hh (.mk kk) = kk (.sl hh.n 0 16 16 none) (hh.push (.own 0 (strs longs))) :=
    fun hh kk => fBslice_n (fun _ => rfl) hh kk
  have he : ∀ (b : Bool) (kk : VK β), qEqB false (.bool b) (.bool b) (.mk kk) = kk (.bool true) := fun b kk => by cases b <;> rfl
  obtain ⟨z, hz, hz1⟩ : ∃ z : Nat, x % 16 = (z : Int) ∧ z < 16 := ⟨(x % 16).toNat, by omega, by omega⟩
  rw [hz] at ha
  obtain ⟨w, hw, hw1⟩ : ∃ w, longs[z]? = some w ∧ w ∈ longs := ⟨longs[z]'(by exact hz1), List.getElem?_eq_getElem _, List.getElem_mem _⟩
  obtain ⟨hw2, hw3⟩ := longs_may w hw1
  have hcell : (strs longs)[z]? = some (.str w) := by unfold strs; rw [List.getElem?_map, hw]; rfl
  have hnest := nest_is w hw2
  have hA := nestA_len 254
  have hB := nestB_len 254
  rw [T2.c7]; unfold f7_sleuthlaw2_TermLong
  simp (disch := (first | omega | (simp only [disM] <;> omega) | assumption)) only [↓run, ↓runM, run, runM, Nat.reduceAdd, Nat.reduceMul, Int.reduceToNat]
  refine T2.w21 T L (m + 2) (by omega) h _ _ ?_
  intro u h1 ⟨e1, e2⟩
  subst e2
  simp (disch := (first | omega | (simp only [disM] <;> omega) | assumption)) only [↓run, ↓runM, run, runM, Nat.reduceAdd, Nat.reduceMul, Int.reduceToNat]
  unfold f7_J0
  simp (disch := (first | omega | (simp only [disM] <;> omega) | assumption)) only [↓run, ↓runM, run, runM, Nat.reduceAdd, Nat.reduceMul, Int.reduceToNat]
  refine qLoop_wp 7 (m + 2) _ _ (fun i x0 x1 x2 x3 x4 x5 x6 h' => h' = h1 ∧ x0 = .int .i64 x ∧ ∃ j : Nat, x2 = .str (nestA j) ∧ x3 = .str (nestB j) ∧ x4 = .int .i64 (j : Int) ∧ j + i = 254) 254 (by omega) ?_ _ _ _ _ _ _ _ _ ⟨rfl, rfl, 0, rfl, rfl, rfl, rfl⟩
  intro l i ih x0 x1 x2 x3 x4 x5 x6 h' ⟨q0, q1, j, q2, q3, q4, q5⟩
  subst q0 q1 q2 q3 q4
  have hAj := nestA_len j
  have hBj := nestB_len j
  unfold f7_L20
  cases i with
  | zero =>
    have hj : j = 254 := by omega
    subst hj
    simp (disch := (first | omega | (simp only [disM] <;> omega) | assumption)) only [↓run, ↓runM, run, runM, Nat.reduceAdd, Nat.reduceMul, Int.reduceToNat]
    unfold f7_J1
    have hcell' : ((H.push h' (.own 0 (strs longs))).get h'.n).cells = some (strs longs) := by rw [get_push_eq rfl]; rfl
    simp (disch := (first | omega | (simp only [disM] <;> omega) | assumption)) only [↓run, ↓runM, run, runM, Nat.reduceAdd, Nat.reduceMul, Int.reduceToNat, ha, ↓hb]
    rw [hcell]
    simp (disch := (first | omega | (simp only [disM] <;> omega) | assumption)) only [↓run, ↓runM, run, runM, Nat.reduceAdd, Nat.reduceMul, Int.reduceToNat, T.w16]
    have hTl : (nestA 254 ++ w ++ nestB 254).length ≤ 1100 := by simp only [List.length_append]; omega
    generalize hT : nestA 254 ++ w ++ nestB 254 = z at hnest hTl ⊢
    refine T.w17 L (m + 2) (by omega) z _ _ _ ?_
    intro u h2 ⟨e3, e4⟩
    rw [hnest] at e4
    subst e4
    simp (disch := (first | omega | (simp only [disM] <;> omega) | assumption)) only [↓run, ↓runM, run, runM, Nat.reduceAdd, Nat.reduceMul, Int.reduceToNat, he]
    refine T.w18 (m + 2) (by omega) z (by omega) _ _ _ ?_
    intro u h3 ⟨e5, e6⟩
    rw [mayP_refP, hnest] at e6
    subst e6
    simp (disch := (first | omega | (simp only [disM] <;> omega) | assumption)) only [↓run, ↓runM, run, runM, Nat.reduceAdd, Nat.reduceMul, Int.reduceToNat, he]
    exact hk _ _ rfl
  | succ i =>
    simp (disch := (first | omega | (simp only [disM] <;> omega) | assumption)) only [↓run, ↓runM, run, runM, Nat.reduceAdd, Nat.reduceMul, Int.reduceToNat]
    unfold f7_J21
    simp (disch := (first | omega | (simp only [disM] <;> omega) | assumption)) only [↓run, ↓runM, run, runM, Nat.reduceAdd, Nat.reduceMul, Int.reduceToNat]
    unfold f7_J22
    simp (disch := (first | omega | (simp only [disM] <;> omega) | assumption)) only [↓run, ↓runM, run, runM, Nat.reduceAdd, Nat.reduceMul, Int.reduceToNat]
    exact ih i (by omega) _ _ _ _ _ _ _ _ ⟨rfl, rfl, j + 1, rfl, rfl, congrArg (AV.int .i64) (by omega), by omega⟩
end
end Am.F
