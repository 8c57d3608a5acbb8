/- The library's functions that are taken whole, as rules for runs with free variables. -/
import Derived.Test.YtpalaplnolcimaaDoorAmP
import Derived.Test.YtpalaplnolcimaaDoorAmShelf2
set_option linter.unusedSimpArgs false
set_option linter.unusedVariables false
namespace Am
open Go Go.RowKit

/-- strings.IndexAny where the second text is " ()". -/
def idxAny2G (args : List AV) (S : St) : Option (AV × St) := match args with
  | [.str s, .str cs] => if s.length < 4294967281 ∧ cs = [32, 40, 41] then some (.int .i64 (Lib.indexAny s [32, 40, 41]), S) else none
  | _ => none

theorem idxAny2_intr {P : Program} {kf kt : Nat → Nat} {f : FuncId} {G : Base → Prop} (hE : Enters P f)
    (h1 : ∀ (s : ByteArray) (w : World), s.size < 4294967281 → Calls P f #[.string s, .string ⟨#[32, 40, 41]⟩] w fun e w' => e = .returned (.int .i64 (Lib.indexAny s.data.toList [32, 40, 41])) ∧ Below w.heap.size w w') : IntrOk P kf kt G f idxAny2G := by
  intro args S v S' hg w0 hG fm w us hR hv
  refine ⟨hE, ?_⟩
  unfold idxAny2G at hg
  split at hg
  · rename_i s cs
    split at hg
    · rename_i hl
      cases hg
      obtain ⟨u, u', rfl, hu, hu'⟩ := hv.two
      simp only [VR] at hu hu'
      obtain ⟨bs, rfl, hbs⟩ := hu
      obtain ⟨bc, rfl, hbc⟩ := hu'
      obtain ⟨hl1, hl2⟩ := hl
      rw [hl2] at hbc
      have hc : bc = ⟨#[32, 40, 41]⟩ := by
        cases bc with
        | mk d =>
          have : d = #[32, 40, 41] := Array.ext' hbc
          rw [this]
      subst hc
      refine intr_grown hR (u := .int .i64 (Lib.indexAny s [32, 40, 41])) (by simp [VR]) ?_
      have := h1 bs w (by rw [size_toList, hbs]; exact hl1)
      rw [hbs] at this; exact this
    · cases hg
  · cases hg

namespace F
variable {β : Type}

noncomputable def idxAny2I (args : List AV) (h : H) : Option (AV × H) := a2 args fun a b => aStr a fun s => aStr b fun cs =>
  cond (Nat.ble (Nat.succ (lenF s)) 4294967281) (cond (eqSF cs [32, 40, 41]) (some (.int .i64 (idxF [32, 40, 41] s 0), h)) none) none

theorem idxAny2I_ok {args : List AV} {h h' : H} {v : AV} {S : St} (hi : idxAny2I args h = some (v, h')) (ha : Abs h S) : ∃ S', idxAny2G args S = some (v, S') ∧ Abs h' S' := by
  obtain ⟨a, b, rfl, h1⟩ := a2_some hi
  obtain ⟨s, rfl, h2⟩ := aStr_some h1
  obtain ⟨cs, rfl, h3⟩ := aStr_some h2
  obtain ⟨h4, h5⟩ := cond_some h3
  obtain ⟨h6, h7⟩ := cond_some h5
  have h4 := blt_t h4
  rw [lenF_eq] at h4
  rw [eqSF_eq, beq_iff_eq] at h6
  cases h7
  refine ⟨S, ?_, ha⟩
  simp only [idxAny2G]
  rw [if_pos ⟨h4, h6⟩, idxF_eq]
  congr 4
  split <;> omega

noncomputable def stdI : FI := fun g args h => (cond (Nat.beq g 45) (atoiI args h) (cond (Nat.beq g 44) (idxAny2I args h) (cond (Nat.beq g 42) (joinI args h) (cond (Nat.beq g 29) (itoaI args h) none))))
theorem stdI_29 (args : List AV) (h : H) : stdI 29 args h = itoaI args h := rfl
theorem stdI_42 (args : List AV) (h : H) : stdI 42 args h = joinI args h := rfl
theorem stdI_44 (args : List AV) (h : H) : stdI 44 args h = idxAny2I args h := rfl
theorem stdI_45 (args : List AV) (h : H) : stdI 45 args h = atoiI args h := rfl
noncomputable def e29 : Ent := ⟨29, .intr itoaG, fun _ I _ _ a h k => fInt I 29 a h k, fun _ _ _ _ _ _ _ => rfl⟩
noncomputable def e42 : Ent := ⟨42, .intr joinG, fun _ I _ _ a h k => fInt I 42 a h k, fun _ _ _ _ _ _ _ => rfl⟩
noncomputable def e44 : Ent := ⟨44, .intr idxAny2G, fun _ I _ _ a h k => fInt I 44 a h k, fun _ _ _ _ _ _ _ => rfl⟩
noncomputable def e45 : Ent := ⟨45, .intr atoiG, fun _ I _ _ a h k => fInt I 45 a h k, fun _ _ _ _ _ _ _ => rfl⟩

/-- The table holds the library's functions. -/
structure GI (t : ETree) : Prop where
  g29 : t.get 29 = some e29
  g42 : t.get 42 = some e42
  g44 : t.get 44 = some e44
  g45 : t.get 45 = some e45

section
variable {t : ETree}

theorem GI.c29 (T : GI t) (n : Nat) (x : Int) (h0 : -9223372036854775808 ≤ x) (h1 : x ≤ 9223372036854775807) (h : H) (k : K β) : fRunS t stdI (n + 1) (.fn 29 []) [.int .i64 x] h k = k (.str (Lib.itoa x)) h := by
  rw [fRunS_succ t stdI n 29 [] _ h k T.g29, List.append_nil]
  show fInt stdI 29 [.int .i64 x] h k = _
  simp only [fInt, stdI_29, itoaI, a1, aInt, kEq_eq, ltZ_eq]
  rw [decide_eq_true trivial, decide_eq_false (by omega), decide_eq_false (by omega), itoaF_eq h0 h1]; rfl
theorem GI.c45 (T : GI t) (n : Nat) (s : List UInt8) (hs : s.length ≤ 281474976710656) (h : H) (k : K β) : fRunS t stdI (n + 1) (.fn 45 []) [.str s] h k = k (atoiV s) h := by
  rw [fRunS_succ t stdI n 45 [] _ h k T.g45, List.append_nil]
  show fInt stdI 45 [.str s] h k = _
  simp only [fInt, stdI_45, atoiI, a1, aStr, lenF_eq, ble_eq]
  rw [decide_eq_true hs]; rfl
theorem GI.c44 (T : GI t) (n : Nat) (s : List UInt8) (hs : s.length < 4294967281) (h : H) (k : K β) : fRunS t stdI (n + 1) (.fn 44 []) [.str s, .str [32, 40, 41]] h k = k (.int .i64 (Lib.indexAny s [32, 40, 41])) h := by
  rw [fRunS_succ t stdI n 44 [] _ h k T.g44, List.append_nil]
  show fInt stdI 44 [.str s, .str [32, 40, 41]] h k = _
  simp only [fInt, stdI_44, idxAny2I, a2, aStr, lenF_eq, ble_eq, eqSF_eq, beq_self_eq_true]
  rw [decide_eq_true (by omega), idxF_eq]
  show k (.int .i64 _) h = _
  congr 2
  split <;> omega
theorem joinF_strs (sep : List UInt8) : ∀ xs : List (List UInt8), joinF sep (strs xs) = some (xs, Lib.join xs sep)
  | [] => rfl
  | x :: xs => by
    have ih := joinF_strs sep xs
    show aStr (.str x) (fun s => oSome (joinF sep (strs xs)) fun r => some (s :: r.1, List.rec (motive := fun _ => List UInt8) s (fun _ _ _ => appF s (appF sep r.2)) (strs xs))) = _
    rw [ih]
    cases xs with
    | nil => show some ([x], x) = _; rw [Lib.join_one]
    | cons y ys =>
      show some (x :: y :: ys, appF x (appF sep (Lib.join (y :: ys) sep))) = _
      rw [appF_eq, appF_eq, Lib.join_cons, Lib.join_cons]; simp [Lib.joinTail, List.append_assoc]
theorem GI.c42 (T : GI t) (n : Nat) {h : H} {v : AV} {xs : List (List UInt8)} (hv : SlAt h v (strs xs)) (sep : List UInt8) (h1 : xs.length ≤ 140737488355328) (h2 : (Lib.join xs sep).length ≤ 140737488355328) (k : K β) : fRunS t stdI (n + 1) (.fn 42 []) [v, .str sep] h k = k (.str (Lib.join xs sep)) h := by
  rw [fRunS_succ t stdI n 42 [] _ h k T.g42, List.append_nil]
  show fInt stdI 42 [v, .str sep] h k = _
  simp only [fInt, stdI_42, joinI, a2, aStr]
  rcases hv with ⟨rfl, hx⟩ | ⟨b, o, m, g, us, rfl, h3, h4, h5, h6⟩
  · cases xs with
    | nil => rfl
    | cons x xs => cases hx
  · simp only [aSl, cells_eq, h4, oSome_v, lenF_eq, ble_eq, takeF_eq, dropF_eq, h5, joinF_strs]
    have hlen : (strs xs).length = xs.length := by simp [strs]
    rw [decide_eq_true (by show o + (strs xs).length ≤ _; omega), decide_eq_true h1, decide_eq_true h2]; rfl
theorem GI.w29 (T : GI t) (n : Nat) (x : Int) (h0 : -9223372036854775808 ≤ x) (h1 : x ≤ 9223372036854775807) (h : H) (k : K β) : qCall (fRunS t stdI (n + 1)) (.fn 29 []) [.int .i64 x] h (.mk k) = k (.str (Lib.itoa x)) h := T.c29 n x h0 h1 h k
theorem GI.w45 (T : GI t) (n : Nat) (s : List UInt8) (hs : s.length ≤ 281474976710656) (h : H) (k : K β) : qCall (fRunS t stdI (n + 1)) (.fn 45 []) [.str s] h (.mk k) = k (atoiV s) h := T.c45 n s hs h k
theorem GI.w44 (T : GI t) (n : Nat) (s : List UInt8) (hs : s.length < 4294967281) (h : H) (k : K β) : qCall (fRunS t stdI (n + 1)) (.fn 44 []) [.str s, .str [32, 40, 41]] h (.mk k) = k (.int .i64 (Lib.indexAny s [32, 40, 41])) h := T.c44 n s hs h k
theorem GI.w42 (T : GI t) (n : Nat) {h : H} {v : AV} {xs : List (List UInt8)} (hv : SlAt h v (strs xs)) (sep : List UInt8) (h1 : xs.length ≤ 140737488355328) (h2 : (Lib.join xs sep).length ≤ 140737488355328) (k : K β) : qCall (fRunS t stdI (n + 1)) (.fn 42 []) [v, .str sep] h (.mk k) = k (.str (Lib.join xs sep)) h := T.c42 n hv sep h1 h2 k
end
end F
end Am
