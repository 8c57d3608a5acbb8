/- Walks: the statements of chapter 2, Terms. -/
import Derived.Test.YtpalaplnolcimaaDoorAmQL2
set_option linter.unusedSimpArgs false
set_option linter.unusedVariables false
namespace Am.F
open Go Am

/-- What a text is cut into, said once for both outcomes. -/
def cutV (s : List UInt8) : Tm := match tP s with
  | some u => u
  | none => ⟨0, 0, [], []⟩
def cutE (s : List UInt8) : Int := match tP s with
  | some _ => 0
  | none => 200
def makO (kind num : Int) (kids : List (List UInt8)) : List UInt8 := if mayP (outP kind num kids) = true then outP kind num kids else []
def makE (kind num : Int) (kids : List (List UInt8)) : Int := if mayP (outP kind num kids) = true then 0 else 200

theorem cut_kids (s : List UInt8) : (cutV s).kids.length ≤ 3 ∧ ∀ y ∈ (cutV s).kids, y.length ≤ 1024 := by
  unfold cutV
  cases h : tP s with
  | none => simp
  | some u =>
    refine ⟨tP_kids3 h, fun y hy => ?_⟩
    have h1 := (tP_kid h y hy).2
    have h2 := (tP_some h).1
    omega
theorem cut_make (s : List UInt8) : cutE s = 200 ∨ cutE s = 0 ∧ makO (cutV s).kind (cutV s).num (cutV s).kids = s ∧ makE (cutV s).kind (cutV s).num (cutV s).kids = 0 := by
  unfold cutE cutV makO makE
  cases h : tP s with
  | none => exact .inl rfl
  | some u =>
    have h1 : mayP s = true := (mayP_iff s).2 ⟨u, h⟩
    exact .inr ⟨rfl, by show (if mayP (outP u.kind u.num u.kids) = true then _ else _) = _; rw [outP_again h, if_pos h1], by show (if mayP (outP u.kind u.num u.kids) = true then _ else _) = _; rw [outP_again h, if_pos h1]⟩

section
variable {β : Type} {t : ETree}

theorem GA.u11 (T : GA t) (L : GI t) (n : Nat) (hn : 1041 ≤ n) (s : List UInt8) (h : H) : Sp (β := β) (fRunS t stdI n (.fn 11 []) [.str s] h) fun v h' => Ext h h' ∧
    ∃ c, v = .tup [.int .i64 (cutV s).kind, .int .i64 (cutV s).num, c, .int .i64 (cutE s)] ∧ OwnAt h' h.n h'.n 1 c (strs (cutV s).kids) := by
  intro k R hk
  refine T.w11 L n hn s h _ _ ?_
  intro v h' ⟨e1, e2⟩
  refine hk v h' ⟨e1, ?_⟩
  unfold cutV cutE
  rw [termP_tP] at e2
  cases ht : tP s with
  | none => rw [ht] at e2; exact ⟨.nils, e2, OwnAt.nil _ _ _ _⟩
  | some u => rw [ht] at e2; exact e2
theorem GA.u12 (T : GA t) (n : Nat) (hn : 2070 ≤ n) (s : List UInt8) (hs : s.length ≤ 9223372036854775807) (h : H) : Sp (β := β) (fRunS t stdI n (.fn 12 []) [.str s] h) fun v h' => Ext h h' ∧
    ∃ c, v = .tup [.int .i64 (cutV s).kind, .int .i64 (cutV s).num, c, .int .i64 (cutE s)] ∧ OwnAt h' h.n h'.n 1 c (strs (cutV s).kids) := by
  intro k R hk
  refine T.w12 n hn s hs h _ _ ?_
  intro v h' ⟨e1, e2⟩
  refine hk v h' ⟨e1, ?_⟩
  unfold cutV cutE
  rw [refP_tP] at e2
  cases ht : tP s with
  | none => rw [ht] at e2; exact ⟨.nils, e2, OwnAt.nil _ _ _ _⟩
  | some u => rw [ht] at e2; exact e2
theorem GA.u13 (T : GA t) (L : GI t) (n : Nat) (kind num : Int) (kids : List (List UInt8)) (v : AV) (h : H) (hs : SlAt h v (strs kids)) (hn : kids.length + 1042 ≤ n) (hl : kids.length < 9223372036854775807) :
    Sp (β := β) (fRunS t stdI n (.fn 13 []) [.int .i64 kind, .int .i64 num, v] h) fun u h' => Ext h h' ∧ u = .tup [.str (makO kind num kids), .int .i64 (makE kind num kids)] := by
  intro k R hk
  refine T.w13 L n kind num kids v h hs hn hl _ _ ?_
  intro u h' ⟨e1, e2⟩
  refine hk u h' ⟨e1, ?_⟩
  rw [e2]; unfold makO makE
  split <;> rfl
theorem GA.u14 (T : GA t) (n : Nat) (hn : 2080 ≤ n) (kind num : Int) (h0 : -9223372036854775808 ≤ num) (h1 : num < 9223372036854775808) (kids : List (List UInt8)) (hk : ∀ x ∈ kids, x.length ≤ 281474976710656) (hl : kids.length ≤ 9223372036854775807) (v : AV) (h : H) (hs : SlAt h v (strs kids)) :
    Sp (β := β) (fRunS t stdI n (.fn 14 []) [.int .i64 kind, .int .i64 num, v] h) fun u h' => Ext h h' ∧ u = .tup [.str (makO kind num kids), .int .i64 (makE kind num kids)] := by
  intro k R hk'
  refine T.w14 n hn kind num h0 h1 kids hk hl v h hs _ _ ?_
  intro u h' ⟨e1, e2⟩
  refine hk' u h' ⟨e1, ?_⟩
  rw [e2, makeR_eq]; unfold makO makE
  split
  · rename_i s hs; split at hs
    · cases hs; rename_i h1; rw [if_pos h1, if_pos h1]
    · cases hs
  · rename_i hs; split at hs
    · cases hs
    · rename_i h1; rw [if_neg h1, if_neg h1]

/-- Terms. -/
theorem GL2.w4 (T2 : GL2 t) (T : GA t) (L : GI t) (n : Nat) (s : List UInt8) (hs : s.length ≤ 9223372036854775807) (kind num : Int) (h0 : -9223372036854775808 ≤ num) (h1 : num < 9223372036854775808) (kids : List (List UInt8)) (hkl : ∀ x ∈ kids, x.length ≤ 281474976710656)
    (hl : kids.length + 2 < room) (hn : kids.length + 2200 ≤ n) (v : AV) (h : H) (hv : SlAt h v (strs kids)) : Sp (β := β) (fRunS t stdI n (.fn 4 []) [.str s, .int .i64 kind, .int .i64 num, v] h) fun v h' => v = .bool true := by
  intro k R hk
  have hroom : room = 68719476736 := rfl
  obtain ⟨m, rfl⟩ : ∃ m, n = m + 3 := ⟨n - 3, by omega⟩
  have hm := cut_make s
  obtain ⟨hc3, hcl⟩ := cut_kids s
  rw [T2.c4]; unfold f4_sleuthlaw2_Terms
  simp (disch := (first | omega | (simp only [disM] <;> omega) | assumption)) only [↓run, ↓runM, run, runM, Nat.reduceAdd, Nat.reduceMul, Int.reduceToNat, ↓f4_J18, ↓f4_J17]
  refine T.w10 m hv hl _ _ ?_
  intro xs ha ⟨a1, a2⟩
  simp (disch := (first | omega | (simp only [disM] <;> omega) | assumption)) only [↓run, ↓runM, run, runM, Nat.reduceAdd, Nat.reduceMul, Int.reduceToNat, ↓f4_J18, ↓f4_J17]
  refine T.u11 L (m + 2) (by omega) s ha _ _ ?_
  intro v1 hb ⟨b1, c1, b2, b3⟩
  subst b2
  simp (disch := (first | omega | (simp only [disM] <;> omega) | assumption)) only [↓run, ↓runM, run, runM, Nat.reduceAdd, Nat.reduceMul, Int.reduceToNat, ↓f4_J18, ↓f4_J17]
  refine T.u12 (m + 2) (by omega) s hs hb _ _ ?_
  intro v6 hc ⟨d1, c2, d2, d3⟩
  subst d2
  simp (disch := (first | omega | (simp only [disM] <;> omega) | assumption)) only [↓run, ↓runM, run, runM, Nat.reduceAdd, Nat.reduceMul, Int.reduceToNat, ↓f4_J18, ↓f4_J17]
  have x0 : Ext h hc := a1.trans (b1.trans d1)
  have sxs : SlAt hc xs (strs kids) := a2.sl.ext (b1.trans d1)
  refine T.u13 L (m + 2) kind num kids xs hc sxs (by omega) (by omega) _ _ ?_
  intro v11 hd ⟨e1, e2⟩
  subst e2
  simp (disch := (first | omega | (simp only [disM] <;> omega) | assumption)) only [↓run, ↓runM, run, runM, Nat.reduceAdd, Nat.reduceMul, Int.reduceToNat, ↓f4_J18, ↓f4_J17]
  refine T.u14 (m + 2) (by omega) kind num h0 h1 kids hkl (by omega) v hd (hv.ext (x0.trans e1)) _ _ ?_
  intro v14 he ⟨f1, f2⟩
  subst f2
  have s1 : SlAt he c1 (strs (cutV s).kids) := (b3.sl (Nat.le_refl _)).ext (d1.trans (e1.trans f1))
  have s2 : SlAt he c2 (strs (cutV s).kids) := (d3.sl (Nat.le_refl _)).ext (e1.trans f1)
  have hs15 := fun kk : K β => T.w15 (m + 2) s1 s2 (by omega) (by omega) kk
  simp (disch := (first | omega | (simp only [disM] <;> omega) | assumption)) only [↓run, ↓runM, run, runM, Nat.reduceAdd, Nat.reduceMul, Int.reduceToNat, ↓f4_J18, ↓f4_J17, T.w16, hs15]
  refine T.w17 L (m + 2) (by omega) s he _ _ ?_
  intro v46 hf ⟨g1, g2⟩
  subst g2
  simp (disch := (first | omega | (simp only [disM] <;> omega) | assumption)) only [↓run, ↓runM, run, runM, Nat.reduceAdd, Nat.reduceMul, Int.reduceToNat, ↓f4_J18, ↓f4_J17]
  refine T.w18 (m + 2) (by omega) s hs hf _ _ ?_
  intro v47 hg ⟨i1, i2⟩
  rw [mayP_refP] at i2
  subst i2
  have y0 : Ext h hg := x0.trans (e1.trans (f1.trans (g1.trans i1)))
  have y1 : Ext hb hg := d1.trans (e1.trans (f1.trans (g1.trans i1)))
  have c1' : OwnAt hg ha.n hb.n 1 c1 (strs (cutV s).kids) := b3.ext y1 (Nat.le_refl _)
  have y2 : Ext ha hg := b1.trans y1
  -- what is left, whatever the second making gave
  have rest : ∀ (x1 x2 x4 x6 x7 x9 x10 x11 x12 x13 x14 x15 x16 x17 x18 x19 x20 x21 x22 x23 x24 x25 x26 x27 x28 x29 x30 x31 x32 x33 x34 x35 x36 x37 x38 : AV) (hh : H), Ext hg hh → f4_J18 (fRunS t stdI (m + 2)) k (.str s) x1 x2 v x4 xs x6 x7 c1 x9 x10 x11 x12 x13 x14 x15 x16 x17 x18 x19 x20 x21 x22 x23 x24 x25 x26 x27 x28 x29 x30 x31 x32 x33 x34 x35 x36 x37 x38 hh = R := by
    intro x1 x2 x4 x6 x7 x9 x10 x11 x12 x13 x14 x15 x16 x17 x18 x19 x20 x21 x22 x23 x24 x25 x26 x27 x28 x29 x30 x31 x32 x33 x34 x35 x36 x37 x38 hh z0
    unfold f4_J18
    refine T.w19 (m + 2) (fun x hx => by have := hcl x hx; omega) (c1'.ext z0 y1.n) (by omega) (by omega) _ _ ?_
    intro u hj ⟨k1, k2, k3⟩
    subst k1
    have z1 : Ext h hj := ⟨by rw [k2]; exact (y0.trans z0).n, fun i hi => by have := a1.n; rw [k3 i (.inl (by omega))]; exact (y0.trans z0).get i hi⟩
    have l1 : LentAt hj h.n xs kids := a2.keep (by rw [k2]; exact (y2.trans z0).n) fun i p q => by rw [k3 i (.inl q)]; exact (y2.trans z0).get i q
    have hs20 := fun kk : K β => T.w20 (m + 2) l1 (hv.ext z1) (by omega) (by omega) rfl kk
    simp (disch := (first | omega | (simp only [disM] <;> omega) | assumption)) only [↓run, ↓runM, run, runM, Nat.reduceAdd, Nat.reduceMul, Int.reduceToNat, hs20]
    refine T2.w21 T L (m + 2) (by omega) hj _ _ ?_
    intro u hz ⟨k4, k5⟩
    subst k5
    exact hk _ _ rfl
  have c1sl : SlAt hg c1 (strs (cutV s).kids) := c1'.sl y1.n
  have hq : ∀ (b : Bool) (kk : VK β), qEqB true (.bool b) (.bool b) (.mk kk) = kk (.bool false) := fun b kk => by cases b <;> rfl
  rcases hm with hm | ⟨hm, hm2, hm3⟩
  · simp (disch := (first | omega | (simp only [disM] <;> omega) | assumption)) only [↓run, ↓runM, run, runM, Nat.reduceAdd, Nat.reduceMul, Int.reduceToNat, hq, hm, T.w16]
    exact rest _ _ _ _ _ _ _ _ _ _ _ _ _ _ _ _ _ _ _ _ _ _ _ _ _ _ _ _ _ _ _ _ _ _ _ hg (Ext.refl _)
  · simp (disch := (first | omega | (simp only [disM] <;> omega) | assumption)) only [↓run, ↓runM, run, runM, Nat.reduceAdd, Nat.reduceMul, Int.reduceToNat, hq, hm, T.w16]
    refine T.u13 L (m + 2) _ _ _ c1 hg c1sl (by omega) (by omega) _ _ ?_
    intro v25 hh ⟨z1, z2⟩
    rw [hm2, hm3] at z2
    subst z2
    simp (disch := (first | omega | (simp only [disM] <;> omega) | assumption)) only [↓run, ↓runM, run, runM, Nat.reduceAdd, Nat.reduceMul, Int.reduceToNat, T.w16]
    exact rest _ _ _ _ _ _ _ _ _ _ _ _ _ _ _ _ _ _ _ _ _ _ _ _ _ _ _ _ _ _ _ _ _ _ _ hh z1
end
end Am.F
