/- Walks: the statements of chapter 2, TermNumbers. -/
import Derived.Test.YtpalaplnolcimaaDoorAmQL3
import Derived.Test.YtpalaplnolcimaaDoorAmJd
set_option linter.unusedSimpArgs false
set_option linter.unusedVariables false
namespace Am.F
open Go Am

theorem conP_one (x : Int) (w : List UInt8) : conP x [w] = [64] ++ Lib.itoa x ++ [40] ++ w ++ [41] := by
  unfold conP
  rw [Lib.join_one, if_pos (by simp)]
  simp only [List.append_assoc]
theorem mak_num {v : Int} (h0 : -32768 ≤ v) (h1 : v ≤ 32767) : makO 1 v [] = Lib.itoa v ∧ makE 1 v [] = 0 ∧ cutV (Lib.itoa v) = ⟨1, v, [], []⟩ ∧ cutE (Lib.itoa v) = 0 ∧ mayP (Lib.itoa v) = true := by
  have ht := tP_itoa h0 h1
  have hm : mayP (Lib.itoa v) = true := (mayP_iff _).2 ⟨_, ht⟩
  have ho : outP 1 v [] = Lib.itoa v := by
    unfold outP
    rw [if_neg (by omega), if_neg (by simp), if_neg (by omega), if_neg (by omega), if_pos ⟨rfl, h0, h1⟩]
  unfold makO makE cutV cutE
  rw [ho, ht, if_pos hm, if_pos hm]
  exact ⟨rfl, rfl, rfl, rfl, hm⟩
theorem mak_con {x : Int} (h0 : 0 ≤ x) (h1 : x ≤ 99) {w : List UInt8} (hw : mayP w = true) (hl : w.length ≤ 20) : makO 2 x [w] = [64] ++ Lib.itoa x ++ [40] ++ w ++ [41] ∧ makE 2 x [w] = 0 ∧ cutV ([64] ++ Lib.itoa x ++ [40] ++ w ++ [41]) = ⟨2, x, [w], []⟩ ∧ cutE ([64] ++ Lib.itoa x ++ [40] ++ w ++ [41]) = 0 := by
  have hi := itoa_len (x := x) (by omega) (by omega)
  have hc := conP_one x w
  have ht : tP (conP x [w]) = some ⟨2, x, [w], []⟩ := tP_conP h0 h1 (by simp) (fun y hy => by rw [List.mem_singleton] at hy; rw [hy]; exact hw) (by rw [hc]; simp only [List.length_append, List.length_cons, List.length_nil]; omega)
  have hm : mayP (conP x [w]) = true := (mayP_iff _).2 ⟨_, ht⟩
  have ho : outP 2 x [w] = conP x [w] := by
    unfold outP
    rw [if_pos ⟨rfl, ⟨h0, h1⟩, by simp, by simp [hw]⟩]
  rw [← hc]
  unfold makO makE cutV cutE
  rw [ho, ht, if_pos hm, if_pos hm]
  exact ⟨rfl, rfl, rfl, rfl⟩

section
variable {β : Type} {t : ETree}

/-- TermNumbers. -/
theorem GL2.w8 (T2 : GL2 t) (T : GA t) (L : GI t) (n : Nat) (hn : 2100 ≤ n) (x g : Int) (h : H) : Sp (β := β) (fRunS t stdI n (.fn 8 []) [.int .i64 x, .int .i64 g] h) fun v h' => v = .bool true := by
  intro k R hk
  obtain ⟨m, rfl⟩ : ∃ m, n = m + 3 := ⟨n - 3, by omega⟩
  have ha : ∀ kk : VK β, qBin .and (.int .i64 x) (.int .i64 65535) (.mk kk) = kk (.int .i64 (x % 65536)) := fun kk => pBin_and 65535 16 rfl (by decide) x kk
  have hb : ∀ kk : VK β, qConv .u64 (.int .i64 g) (.mk kk) = kk (.int .u64 (IntKind.u64.wrap g)) := fun kk => pConv_int _ _ _ _
  have hc : ∀ kk : VK β, qBin .rem (.int .u64 (IntKind.u64.wrap g)) (.int .u64 100) (.mk kk) = kk (.int .u64 ((IntKind.u64.wrap g).tmod 100)) := fun kk => pBin_rem _ _ _ (by decide) kk
  obtain ⟨y, hy, hy0, hy1⟩ : ∃ y, (IntKind.u64.wrap g).tmod 100 = y ∧ 0 ≤ y ∧ y ≤ 99 := ⟨_, rfl, (u64_rem 100 (by omega) g).1, by have := (u64_rem 100 (by omega) g).2; omega⟩
  rw [hy] at hc
  obtain ⟨z, hz, hz0, hz1⟩ : ∃ z, x % 65536 = z ∧ 0 ≤ z ∧ z < 65536 := ⟨_, rfl, by omega, by omega⟩
  rw [hz] at ha
  have hv0 : -32768 ≤ z - 32768 := by omega
  have hv1 : z - 32768 ≤ 32767 := by omega
  obtain ⟨m1, m2, m3, m4, m5⟩ := mak_num hv0 hv1
  have hw := itoa_len (x := z - 32768) (by omega) (by omega)
  obtain ⟨k1, k2, k3, k4⟩ := mak_con hy0 hy1 m5 hw
  have hyl := itoa_len (x := y) (by omega) (by omega)
  rw [T2.c8]; unfold f8_sleuthlaw2_TermNumbers
  simp (disch := (first | omega | (simp only [disM] <;> omega) | assumption)) only [↓run, ↓runM, run, runM, Nat.reduceAdd, Nat.reduceMul, Int.reduceToNat]
  refine T2.w21 T L (m + 2) (by omega) h _ _ ?_
  intro u h1 ⟨e1, e2⟩
  subst e2
  simp (disch := (first | omega | (simp only [disM] <;> omega) | assumption)) only [↓run, ↓runM, run, runM, Nat.reduceAdd, Nat.reduceMul, Int.reduceToNat, ↓f8_J0, ha, hb, hc]
  refine T.u13 L (m + 2) 1 (z - 32768) [] .nils h1 (SlAt.nil h1) (by simp; omega) (by simp) _ _ ?_
  intro u h2 ⟨e3, e4⟩
  rw [m1, m2] at e4
  subst e4
  simp (disch := (first | omega | (simp only [disM] <;> omega) | assumption)) only [↓run, ↓runM, run, runM, Nat.reduceAdd, Nat.reduceMul, Int.reduceToNat]
  refine T.u11 L (m + 2) (by omega) _ h2 _ _ ?_
  intro u h3 ⟨e5, c1, e6, e7⟩
  rw [m3, m4] at e6
  rw [m3] at e7
  subst e6
  have hb1 : ∀ (w : List UInt8) (hh : H) (kk : K β), qBslice 0 [.str []] 1 [(0, 1)] [.str w] hh (.mk kk) = kk (.sl hh.n 0 1 1 none) (hh.push (.own 0 [.str w])) :=
    fun w hh kk => fBslice_n (fun _ => rfl) hh kk
  have hsl : ∀ (w : List UInt8) (hh : H), SlAt (hh.push (.own 0 [.str w])) (.sl hh.n 0 1 1 none) (strs [w]) := fun w hh =>
    .inr ⟨hh.n, 0, 1, none, _, rfl, (by first | omega | (simp only [H.n_push, H.n_set]; omega)), by rw [get_push_eq rfl]; rfl, rfl, by simp [strs]⟩
  simp (disch := (first | omega | (simp only [disM] <;> omega) | assumption)) only [↓run, ↓runM, run, runM, Nat.reduceAdd, Nat.reduceMul, Int.reduceToNat, ↓hb1]
  refine T.u13 L (m + 2) 2 y [Lib.itoa (z - 32768)] _ _ (hsl _ h3) (by simp; omega) (by simp) _ _ ?_
  intro u h4 ⟨e8, e9⟩
  rw [k1, k2] at e9
  subst e9
  simp (disch := (first | omega | (simp only [disM] <;> omega) | assumption)) only [↓run, ↓runM, run, runM, Nat.reduceAdd, Nat.reduceMul, Int.reduceToNat]
  refine T.u11 L (m + 2) (by omega) _ h4 _ _ ?_
  intro u h5 ⟨f1, c2, f2, f3⟩
  rw [k3, k4] at f2
  rw [k3] at f3
  subst f2
  have x1 : Ext h3 h5 := ((Ext.refl h3).push _).trans (e8.trans f1)
  have l1 : SlAt h5 c1 (strs []) := (e7.sl (Nat.le_refl _)).ext x1
  simp (disch := (first | omega | (simp only [disM] <;> omega) | assumption)) only [↓run, ↓runM, run, runM, Nat.reduceAdd, Nat.reduceMul, Int.reduceToNat, T.w16, l1.len]
  refine T.w22 (m + 2) (by omega) _ (by omega) (by omega) h5 _ _ ?_
  intro u h6 ⟨f4, f5⟩
  subst f5
  have s2 : SlAt (h6.push (.own 0 [.str (Lib.itoa (z - 32768))])) c2 (strs [Lib.itoa (z - 32768)]) := (f3.sl (Nat.le_refl _)).ext (f4.push _)
  have hs15 := fun kk : K β => T.w15 (m + 2) s2 (hsl (Lib.itoa (z - 32768)) h6) (by simp; omega) (by simp) kk
  simp (disch := (first | omega | (simp only [disM] <;> omega) | assumption)) only [↓run, ↓runM, run, runM, Nat.reduceAdd, Nat.reduceMul, Int.reduceToNat, T.w16, ↓hb1, hs15]
  refine T.w22 (m + 2) (by omega) _ (by omega) (by omega) _ _ _ ?_
  intro u h7 ⟨f6, f7⟩
  subst f7
  simp (disch := (first | omega | (simp only [disM] <;> omega) | assumption)) only [↓run, ↓runM, run, runM, Nat.reduceAdd, Nat.reduceMul, Int.reduceToNat]
  exact hk _ _ rfl
end
end Am.F
