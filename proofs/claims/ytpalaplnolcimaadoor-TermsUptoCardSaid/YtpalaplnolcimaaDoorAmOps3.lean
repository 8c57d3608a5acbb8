/- Each operation of the model does what the abstract one does: slices of strings and of rows, conversions of bytes, make, append, copy, structs compared. -/
import Derived.Test.YtpalaplnolcimaaDoorAmOps2
namespace Am
open Go Go.RowKit

section
variable {kf kt : Nat → Nat} {w0 : Base} {fm : FM} {S : St} {w : World} {P : Program}

theorem run_sliceBound (k : IntKind) (n y : Nat) (code : BoundsCode) (h : n ≤ y) : (Instr.sliceBound (.int k n) y code).run P w = .ok n w := by
  simp [Instr.sliceBound, asIntOf, h]

theorem bounds_run {lo hi mx : Bool} {as : List AV} {len cap l h m : Nat} (hb : bounds lo hi mx as len cap = some (l, h, m)) {vlo vhi vmx : Option Value}
    (hv : VRs kf fm as (vlo.toList ++ vhi.toList ++ vmx.toList)) (hlo : vlo.isSome = lo) (hhi : vhi.isSome = hi) (hmx : vmx.isSome = mx) (isS : Bool) {rc : Nat} (hrc : cap ≤ rc) (hlen : len ≤ cap) :
    (Instr.sliceBounds isS len rc vlo vhi vmx).run P w = .ok (l, h, if mx then m else rc) w ∧ l ≤ h ∧ h ≤ m ∧ m ≤ cap ∧ (mx = false → m = cap) := by
  unfold bounds at hb
  split at hb
  · -- none
    cases hb
    cases vlo <;> simp at hlo
    cases vhi <;> simp at hhi
    cases vmx <;> simp at hmx
    exact ⟨by simp [Instr.sliceBounds], by omega, hlen, Nat.le_refl _, fun _ => rfl⟩
  · rename_i x
    cases vlo with
    | none => simp at hlo
    | some vl =>
      cases vhi <;> simp at hhi
      cases vmx <;> simp at hmx
      simp [VRs] at hv
      cases hn : natOf x with
      | none => simp [hn] at hb
      | some n =>
        simp only [hn, Option.bind_some] at hb
        split at hb
        · cases hb
          obtain ⟨k, rfl⟩ := natOf_rel hn hv
          exact ⟨by simp [Instr.sliceBounds, run_sliceBound, *], by omega, hlen, Nat.le_refl _, fun _ => rfl⟩
        · cases hb
  · rename_i x
    cases vhi with
    | none => simp at hhi
    | some vh =>
      cases vlo <;> simp at hlo
      cases vmx <;> simp at hmx
      simp [VRs] at hv
      cases hn : natOf x with
      | none => simp [hn] at hb
      | some n =>
        simp only [hn, Option.bind_some] at hb
        split at hb
        · rename_i hle
          cases hb
          obtain ⟨k, rfl⟩ := natOf_rel hn hv
          have : h ≤ rc := by omega
          exact ⟨by simp [Instr.sliceBounds, run_sliceBound, *], by omega, hle, Nat.le_refl _, fun _ => rfl⟩
        · cases hb
  · rename_i x y
    cases vhi with
    | none => simp at hhi
    | some vh =>
      cases vlo with
      | none => simp at hlo
      | some vl =>
        cases vmx <;> simp at hmx
        simp only [VRs, Option.toList, List.append_nil, List.nil_append, List.cons_append] at hv
        obtain ⟨_, _, he1, hv1, _, _, he2, hv2, _⟩ := hv
        cases he1; cases he2
        cases hn : natOf x with
        | none => simp [hn] at hb
        | some n =>
          cases hn2 : natOf y with
          | none => simp [hn, hn2] at hb
          | some n2 =>
            simp only [hn, hn2, Option.bind_some] at hb
            split at hb
            · rename_i hle
              cases hb
              obtain ⟨k, rfl⟩ := natOf_rel hn hv1
              obtain ⟨k2, rfl⟩ := natOf_rel hn2 hv2
              have : h ≤ rc := by omega
              have h2 := hle.1
              exact ⟨by simp [Instr.sliceBounds, run_sliceBound, *], hle.1, hle.2, Nat.le_refl _, fun _ => rfl⟩
            · cases hb
  · rename_i x y
    cases vhi with
    | none => simp at hhi
    | some vh =>
      cases vmx with
      | none => simp at hmx
      | some vm =>
        cases vlo <;> simp at hlo
        simp only [VRs, Option.toList, List.nil_append, List.cons_append] at hv
        obtain ⟨_, _, he1, hv1, _, _, he2, hv2, _⟩ := hv
        cases he1; cases he2
        cases hn : natOf x with
        | none => simp [hn] at hb
        | some n =>
          cases hn2 : natOf y with
          | none => simp [hn, hn2] at hb
          | some n2 =>
            simp only [hn, hn2, Option.bind_some] at hb
            split at hb
            · rename_i hle
              cases hb
              obtain ⟨k, rfl⟩ := natOf_rel hn hv1
              obtain ⟨k2, rfl⟩ := natOf_rel hn2 hv2
              have : m ≤ rc := by omega
              have h2 := hle.1
              exact ⟨by simp [Instr.sliceBounds, run_sliceBound, *], by omega, hle.1, hle.2, fun hh => by cases hh⟩
            · cases hb
  · rename_i x y z
    cases vhi with
    | none => simp at hhi
    | some vh =>
      cases vmx with
      | none => simp at hmx
      | some vm =>
        cases vlo with
        | none => simp at hlo
        | some vl =>
          simp only [VRs, Option.toList, List.nil_append, List.cons_append] at hv
          obtain ⟨_, _, he1, hv1, _, _, he2, hv2, _, _, he3, hv3, _⟩ := hv
          cases he1; cases he2; cases he3
          cases hn : natOf x with
          | none => simp [hn] at hb
          | some n =>
            cases hn2 : natOf y with
            | none => simp [hn, hn2] at hb
            | some n2 =>
              cases hn3 : natOf z with
              | none => simp [hn, hn2, hn3] at hb
              | some n3 =>
                simp only [hn, hn2, hn3, Option.bind_some] at hb
                split at hb
                · rename_i hle
                  cases hb
                  obtain ⟨k, rfl⟩ := natOf_rel hn hv1
                  obtain ⟨k2, rfl⟩ := natOf_rel hn2 hv2
                  obtain ⟨k3, rfl⟩ := natOf_rel hn3 hv3
                  have : m ≤ rc := by omega
                  have h2 := hle.1
                  have h3 := hle.2.1
                  exact ⟨by simp [Instr.sliceBounds, run_sliceBound, *], hle.1, hle.2.1, hle.2.2, fun hh => by cases hh⟩
                · cases hb
  · cases hb

theorem ok_slS {t : TypeId} {lo hi : Bool} {s : List UInt8} {as : List AV} {l h m : Nat} {a : Value} {vlo vhi : Option Value} (hR : R kf kt w0 fm S w) (ht : P.underlying t = some .string)
    (ha : VR kf fm (.str s) a) (hb : bounds lo hi false as s.length s.length = some (l, h, m)) (hv : VRs kf fm as (vlo.toList ++ vhi.toList)) (hlo : vlo.isSome = lo) (hhi : vhi.isSome = hi) :
    Ok1 kf kt w0 fm w P (Instr.sliceAt t a vlo vhi none) (.str ((s.take h).drop l)) S := by
  simp only [VR] at ha
  obtain ⟨bs, rfl, rfl⟩ := ha
  have hsz : bs.data.toList.length = bs.size := by rw [Array.length_toList]; rfl
  rw [hsz] at hb
  obtain ⟨h1, h2, h3, h4, _⟩ := bounds_run (P := P) (w := w) hb (vmx := none) (by simpa using hv) hlo hhi rfl false (Nat.le_refl _) (Nat.le_refl _)
  refine Ok1.str hR (bs := bs.extract l h) ?_ ?_
  · simp only [Instr.sliceAt, Sem.run_bind, run_underlying ht, Result.andThen_ok, Instr.slice]
    simp [h1]
  · rw [ByteArray.data_extract, Array.toList_extract, List.extract_eq_take_drop]
    rw [List.drop_take]

theorem ok_slL {t e : TypeId} {es : Nat} {lo hi mx : Bool} {b o len cap : Nat} {g : Option Nat} {as : List AV} {l h m : Nat} {a : Value} {vlo vhi vmx : Option Value} (hR : R kf kt w0 fm S w)
    (ht : P.underlying t = some (.slice e)) (hs : sizeT P e = some es)
    (ha : VR kf fm (.sl b o len cap g) a) (hb : bounds lo hi mx as len cap = some (l, h, m)) (hv : VRs kf fm as (vlo.toList ++ vhi.toList ++ vmx.toList)) (hlo : vlo.isSome = lo) (hhi : vhi.isSome = hi) (hmx : vmx.isSome = mx)
    (hg : g = none ∨ g = some es) :
    Ok1 kf kt w0 fm w P (Instr.sliceAt t a vlo vhi vmx) (.sl b (o + l * es) (h - l) (m - l) (if mx then none else g)) S := by
  simp only [VR] at ha
  obtain ⟨p, rc, ra, hp, rfl, g1, g2, g3, g4, g5, g6⟩ := ha
  obtain ⟨h1, h2, h3, h4, h5⟩ := bounds_run (P := P) (w := w) hb hv hlo hhi hmx true g2 g3
  refine Ok1.mk hR (u := .slice (if (if mx then m else rc) = l then some ra else (some ra).map (·.add (l * es))) (h - l) ((if mx then m else rc) - l)) ?_ ?_
  · simp only [Instr.sliceAt, Sem.run_bind, run_underlying ht, Result.andThen_ok, Instr.slice]
    simp [h1, run_sizeT hs]
  · simp only [VR]
    refine ⟨p, (if mx then m else rc) - l, if (if mx then m else rc) = l then ra else ra.add (l * es), hp, ?_, ?_, ?_, by omega, ?_, ?_, ?_⟩
    · generalize (if mx then m else rc) = q; by_cases hq : q = l <;> simp [hq]
    · cases mx <;> simp <;> omega
    · cases mx <;> simp <;> omega
    · by_cases he : (if mx then m else rc) = l
      · right; omega
      · left
        rw [if_neg he]
        rcases g4 with rfl | h0
        · rw [add_add]
        · exfalso; apply he; cases mx <;> simp <;> omega
    · intro hn
      cases mx
      · simp at hn; have := g5 hn; have := h5 rfl; simp; omega
      · simp
    · intro es' he
      cases mx
      · simp at he
        have h6 := g6 es' he
        have : es' = es := by rcases hg with hg | hg <;> rw [hg] at he <;> cases he; rfl
        subst this
        simp
        rw [Nat.sub_mul]
        have : l * es' ≤ rc * es' := Nat.mul_le_mul_right _ (by omega)
        omega
      · simp at he

theorem ok_slNil {t e : TypeId} {es : Nat} {lo hi mx : Bool} {as : List AV} {l h m : Nat} {a : Value} {vlo vhi vmx : Option Value} (hR : R kf kt w0 fm S w)
    (ht : P.underlying t = some (.slice e)) (hs : sizeT P e = some es)
    (ha : VR kf fm .nils a) (hb : bounds lo hi mx as 0 0 = some (l, h, m)) (hv : VRs kf fm as (vlo.toList ++ vhi.toList ++ vmx.toList)) (hlo : vlo.isSome = lo) (hhi : vhi.isSome = hi) (hmx : vmx.isSome = mx) :
    Ok1 kf kt w0 fm w P (Instr.sliceAt t a vlo vhi vmx) .nils S := by
  simp only [VR] at ha
  subst ha
  obtain ⟨h1, h2, h3, h4, h5⟩ := bounds_run (P := P) (w := w) hb hv hlo hhi hmx true (Nat.le_refl _) (Nat.le_refl _)
  obtain rfl : m = 0 := by omega
  obtain rfl : h = 0 := by omega
  obtain rfl : l = 0 := by omega
  refine Ok1.mk hR (u := .slice none 0 0) ?_ (by simp [VR])
  simp only [Instr.sliceAt, Sem.run_bind, run_underlying ht, Result.andThen_ok, Instr.slice]
  simp [h1, run_sizeT hs]

theorem sl_of_arr {b o l h m es : Nat} {p : Addr × Nat} (hp : fm[b]? = some p) (h2 : l ≤ h) (h3 : h ≤ m) :
    VR kf fm (.sl b (o + l * es) (h - l) (m - l) none) (.slice (some (if m = l then p.1.add o else (p.1.add o).add (l * es))) (h - l) (m - l)) := by
  simp only [VR]
  refine ⟨p, _, _, hp, rfl, by omega, Nat.le_refl _, by omega, ?_, fun _ => rfl, fun es' he => by cases he⟩
  by_cases he : m = l
  · right; omega
  · left; rw [if_neg he, add_add]

theorem ok_slA {t e : TypeId} {n es : Nat} {lo hi mx : Bool} {b o : Nat} {as : List AV} {l h m : Nat} {a : Value} {vlo vhi vmx : Option Value} (hR : R kf kt w0 fm S w)
    (ht : P.underlying t = some (.array n e)) (hs : sizeT P e = some es)
    (ha : VR kf fm (.ptr b o) a) (hb : bounds lo hi mx as n n = some (l, h, m)) (hv : VRs kf fm as (vlo.toList ++ vhi.toList ++ vmx.toList)) (hlo : vlo.isSome = lo) (hhi : vhi.isSome = hi) (hmx : vmx.isSome = mx) :
    Ok1 kf kt w0 fm w P (Instr.sliceAt t a vlo vhi vmx) (.sl b (o + l * es) (h - l) (m - l) none) S := by
  simp only [VR] at ha
  obtain ⟨p, hp, rfl⟩ := ha
  obtain ⟨h1, h2, h3, h4, h5⟩ := bounds_run (P := P) (w := w) hb hv hlo hhi hmx false (Nat.le_refl _) (Nat.le_refl _)
  have hm : (if mx then m else n) = m := by cases mx <;> simp_all
  rw [hm] at h1
  refine Ok1.mk hR ?_ (sl_of_arr hp h2 h3)
  simp only [Instr.sliceAt, Sem.run_bind, run_underlying ht, Result.andThen_ok, Instr.sureAddr, Sem.run_pure, h1, run_sizeT hs]

theorem ok_slP {t t' e : TypeId} {n es : Nat} {lo hi mx : Bool} {b o : Nat} {as : List AV} {l h m : Nat} {a : Value} {vlo vhi vmx : Option Value} (hR : R kf kt w0 fm S w)
    (ht : P.underlying t = some (.pointer t')) (ht' : P.underlying t' = some (.array n e)) (hs : sizeT P e = some es)
    (ha : VR kf fm (.ptr b o) a) (hb : bounds lo hi mx as n n = some (l, h, m)) (hv : VRs kf fm as (vlo.toList ++ vhi.toList ++ vmx.toList)) (hlo : vlo.isSome = lo) (hhi : vhi.isSome = hi) (hmx : vmx.isSome = mx) :
    Ok1 kf kt w0 fm w P (Instr.sliceAt t a vlo vhi vmx) (.sl b (o + l * es) (h - l) (m - l) none) S := by
  simp only [VR] at ha
  obtain ⟨p, hp, rfl⟩ := ha
  obtain ⟨h1, h2, h3, h4, h5⟩ := bounds_run (P := P) (w := w) hb hv hlo hhi hmx false (Nat.le_refl _) (Nat.le_refl _)
  have hm : (if mx then m else n) = m := by cases mx <;> simp_all
  rw [hm] at h1
  refine Ok1.mk hR ?_ (sl_of_arr hp h2 h3)
  simp only [Instr.sliceAt, Instr.slice, Sem.run_bind, run_underlying ht, run_underlying ht', Result.andThen_ok, asAddr, Sem.run_pure, h1, run_sizeT hs]
end
end Am
