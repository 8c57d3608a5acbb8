/- Walks: a node's call and result; an equation. -/
import Derived.Test.YtpalaplnolcimaaDoorAmJg
import Derived.Test.YtpalaplnolcimaaDoorAmGBW
set_option linter.unusedSimpArgs false
set_option linter.unusedVariables false
namespace Am.F
open Go Am
structure Nd where
  fn : Int
  parent : Int
  args : List (List UInt8)
  res : List UInt8
def NdAt (h : H) (a : AV) (x : Nd) : Prop := ∃ v, a = .agg [.int .i64 x.fn, .int .i64 x.parent, v, .str x.res] ∧ SlAt h v (strs x.args)
def NdIn (h : H) (b : Nat) (v : AV) (x : Nd) : Prop := (h.get b).cells = some [.int .i64 x.fn, .int .i64 x.parent, v, .str x.res] ∧ b < h.n ∧ SlAt h v (strs x.args)
theorem NdAt.ext {h h' : H} {a : AV} {x : Nd} (hs : NdAt h a x) (e : Ext h h') : NdAt h' a x := let ⟨v, h1, h2⟩ := hs; ⟨v, h1, h2.ext e⟩
theorem NdIn.ext {h h' : H} {b : Nat} {v : AV} {x : Nd} (hs : NdIn h b v x) (e : Ext h h') : NdIn h' b v x := ⟨by rw [e.get b hs.2.1]; exact hs.1, Nat.lt_of_lt_of_le hs.2.1 e.n, hs.2.2.ext e⟩
def eqMay (x : Nd) : Bool := decide ((0 ≤ x.fn ∧ x.fn < 8) ∧ x.args.length ≤ 3) && x.args.all mayP && mayP x.res
def eqText (x : Nd) : List UInt8 := Lib.join ((102 :: Lib.itoa x.fn) :: (x.args ++ [[61], x.res])) [32]
theorem fApp_new {β : Type} {h : H} {lo bytes : Nat} {v x : AV} {cs new : List AV} {k : K β} {R : Option β} (hv : NewAt h lo v cs) (hlo : lo ≤ h.n) (hx : SlAt h x new) (hr : cs.length + new.length < room ∧ bytes ≤ 1024)
    (H1 : ∀ v' h', NewAt h' lo v' (cs ++ new) → h.n ≤ h'.n → (∀ i, i < lo → h'.get i = h.get i) → k v' h' = R) : fApp 0 1 bytes v x h k = R := by
  obtain ⟨b, h1, h2, h3, rfl | ⟨rfl, hne⟩⟩ := hv
  · refine fApp_copy h3 rfl hx hr ?_ ?_
    · intro hn
      subst hn
      refine H1 _ _ ⟨b, h1, h2, by rw [List.append_nil]; exact h3, .inl (by rw [List.append_nil])⟩ (Nat.le_refl _) fun _ _ => rfl
    · intro hn
      refine H1 _ _ ⟨h.n, hlo, (by first | omega | (simp only [H.n_push, H.n_set]; omega)), get_push_eq rfl, .inr ⟨by rw [List.length_append], by simp [hn]⟩⟩ (by first | omega | (simp only [H.n_push, H.n_set]; omega)) fun i hi => by rw [get_push_ne (by omega)]
  · refine fApp_own (lo := lo) (hi := h.n) (cs := cs) (.inr ⟨b, _, rfl, h1, h2, h3, by rw [Nat.mul_one], List.length_pos_iff.2 hne⟩) (Nat.le_refl _) hlo (fun c => hx.src c) (by rw [Nat.mul_one]) hr.1 (by omega) hr.2 ?_
    intro v' h' o1 o2 o3
    rcases o1 with ⟨_, q⟩ | ⟨b', l, rfl, o4, o5, o6, o7, o8⟩
    · exact absurd (List.append_eq_nil_iff.1 q).1 hne
    · rw [Nat.mul_one] at o7
      subst o7
      exact H1 _ _ ⟨b', o4, o5, o6, .inr ⟨rfl, by simp [hne]⟩⟩ o2 fun i hi => o3 i (by omega) (.inl hi)
theorem nil_p {β : Type} (b o : Nat) (k : VK β) : qNil (.ptr b o) (.mk k) = k (.ptr b o) := rfl
theorem chk_p {β : Type} {h : H} {v : AV} {cs : List AV} (hv : SlAt h v cs) (c : Option β) : qChk v v (.mk c) = c := by
  show cond (AV.beq v v) c none = c
  rcases hv with ⟨rfl, _⟩ | ⟨b, o, m, g, us, rfl, _⟩
  · rfl
  · have : AV.beq (.sl b o cs.length m g) (.sl b o cs.length m g) = true := by simp [AV.beq]
    rw [this]; rfl
section
variable {β : Type} {t : ETree}
theorem GB.w297 (T : GB t) (n : Nat) (x a b : Int) (h : H) (k : K β) : qCall (fRunS t stdI (n + 1)) (.fn 297 []) [.int .i64 x, .int .i64 a, .int .i64 b] h (.mk k) = k (.bool (decide (a ≤ x ∧ x ≤ b))) h := by
  rw [T.q297]
  unfold f297
  by_cases h1 : a ≤ x <;> simp (disch := first | omega | (simp only [disM] <;> omega) | assumption) only [↓run, ↓runM, run, runM, Nat.reduceAdd, Nat.reduceMul, Int.reduceToNat, h1]
theorem GB.w269 (TB : GB t) (T : GA t) (L : GI t) (n : Nat) (hn : 1060 ≤ n) {h : H} {b : Nat} {v : AV} {x : Nd} (hx : NdIn h b v x) (hl : x.args.length ≤ 9223372036854775807) :
    Sp (β := β) (fRunS t stdI n (.fn 269 []) [.ptr b 0] h) fun u h' => Ext h h' ∧ u = .bool (eqMay x) := by
  intro k R hk
  obtain ⟨m, rfl⟩ : ∃ m, n = m + 1 := ⟨n - 1, by omega⟩
  have hx0 := hx.1
  have hlen := hx.2.2.len (β := β)
  rw [TB.c269]; unfold f269
  by_cases c1 : 0 ≤ x.fn
  · by_cases c2 : x.fn < 8
    · by_cases c3 : x.args.length ≤ 3
      · simp (disch := first | omega | (simp only [disM] <;> omega) | assumption) only [↓run, ↓runM, run, runM, Nat.reduceAdd, Nat.reduceMul, Int.reduceToNat, nil_p, hx0, hlen]
        refine T.w26 L m x.args v h hx.2.2 (by omega) (by omega) _ _ ?_
        intro u h1 ⟨e1, e2⟩
        subst e2
        have hx1 := (hx.ext e1).1
        cases c4 : x.args.all mayP with
        | false =>
          simp (disch := first | omega | (simp only [disM] <;> omega) | assumption) only [↓run, ↓runM, run, runM, Nat.reduceAdd, Nat.reduceMul, Int.reduceToNat]
          exact hk _ _ ⟨e1, by unfold eqMay; rw [c4]; simp⟩
        | true =>
          simp (disch := first | omega | (simp only [disM] <;> omega) | assumption) only [↓run, ↓runM, run, runM, Nat.reduceAdd, Nat.reduceMul, Int.reduceToNat, nil_p, hx1]
          refine T.w17 L m (by omega) _ _ _ _ ?_
          intro u h2 ⟨e3, e4⟩
          subst e4
          exact hk _ _ ⟨e1.trans e3, by unfold eqMay; rw [c4, decide_eq_true ⟨⟨c1, c2⟩, c3⟩]; rfl⟩
      · simp (disch := first | omega | (simp only [disM] <;> omega) | assumption) only [↓run, ↓runM, run, runM, Nat.reduceAdd, Nat.reduceMul, Int.reduceToNat, nil_p, hx0, hlen]
        exact hk _ _ ⟨Ext.refl h, by unfold eqMay; rw [decide_eq_false (by omega)]; rfl⟩
    · simp (disch := first | omega | (simp only [disM] <;> omega) | assumption) only [↓run, ↓runM, run, runM, Nat.reduceAdd, Nat.reduceMul, Int.reduceToNat, nil_p, hx0, hlen]
      exact hk _ _ ⟨Ext.refl h, by unfold eqMay; rw [decide_eq_false (by omega)]; rfl⟩
  · simp (disch := first | omega | (simp only [disM] <;> omega) | assumption) only [↓run, ↓runM, run, runM, Nat.reduceAdd, Nat.reduceMul, Int.reduceToNat, nil_p, hx0, hlen]
    exact hk _ _ ⟨Ext.refl h, by unfold eqMay; rw [decide_eq_false (by omega)]; rfl⟩
end
end Am.F
