/- Each operation of the model does what the abstract one does: conversions of bytes, make, append, copy, structs compared. -/
import Derived.Test.YtpalaplnolcimaaDoorAmOps3
import Derived.Laws.BytesString
namespace Am
open Go Go.RowKit

section
variable {kf kt : Nat → Nat} {w0 : Base} {fm : FM} {S : St} {w : World} {P : Program}

theorem wrap_i64 {n : Int} (h1 : -9223372036854775808 ≤ n) (h2 : n < 9223372036854775808) : IntKind.i64.wrap n = n := by
  unfold IntKind.wrap
  simp only [show IntKind.i64.signed = true from rfl, show IntKind.i64.bits = 64 from rfl, Bool.true_and]
  by_cases h : n % 2 ^ 64 ≥ 2 ^ (64 - 1)
  · rw [if_pos (by simpa using h)]; omega
  · rw [if_neg (by simpa using h)]; omega

theorem modify_push {α : Type} (xs : Array α) (x : α) (f : α → α) : (xs.push x).modify xs.size f = xs.push (f x) := by
  apply Array.ext_getElem?
  intro i
  rw [Array.getElem?_modify, Array.getElem?_push, Array.getElem?_push]
  by_cases h : i = xs.size
  · subst h; simp
  · simp [h, Ne.symm h]

/-! ### Bytes -/

theorem VRs.bytes : ∀ {cs : List AV} {vs : List Value} {s : List UInt8}, VRs kf fm cs vs → bytesOf cs = some s → ∃ ns : List Int, vs = ns.map (Value.int .u8) ∧ s = ns.map fun n => UInt8.ofNat n.toNat
  | [], vs, s, h, hb => by simp [VRs] at h; simp [bytesOf] at hb; subst h; subst hb; exact ⟨[], rfl, rfl⟩
  | c :: cs, vs, s, h, hb => by
    simp only [VRs] at h
    obtain ⟨u, us, rfl, h1, h2⟩ := h
    cases c with
    | int k n =>
      cases k <;> simp only [bytesOf] at hb <;> (try (cases hb; done))
      cases hr : bytesOf cs with
      | none => simp [hr] at hb
      | some s' =>
        simp [hr] at hb
        subst hb
        obtain ⟨ns, h3, h4⟩ := VRs.bytes h2 hr
        simp only [VR] at h1
        subst h1; subst h3; subst h4
        exact ⟨n :: ns, rfl, rfl⟩
    | _ => simp [bytesOf] at hb

theorem foldl_bytes : ∀ (ns : List Int) (s : ByteArray), (ns.foldl (fun r n => r.push (UInt8.ofNat n.toNat)) s).data.toList = s.data.toList ++ ns.map fun n => UInt8.ofNat n.toNat
  | [], s => by simp
  | n :: ns, s => by simp only [List.foldl_cons, foldl_bytes ns, List.map_cons]; simp

theorem convert_b2s {src dst e : TypeId} {a : Value} {x : AV} (hs : P.underlying src = some (.slice e)) (he : P.underlying e = some (.int .u8)) (hd : P.underlying dst = some .string)
    (ha : VR kf fm x a) (hx : x = .nils ∨ ∃ b o len cap g, x = .sl b o len cap g) : (convert src dst a).run P w = (Conv.bytesToString a).run P w := by
  rcases hx with rfl | ⟨b, o, len, cap, g, rfl⟩ <;> simp only [VR] at ha
  · subst ha; exact run_convert_bytes_string w src dst e _ _ _ hs he hd
  · obtain ⟨p, rc, ra, _, rfl, _⟩ := ha; exact run_convert_bytes_string w src dst e _ _ _ hs he hd

theorem run_loadCells_zero (a : Addr) : (loadCells a 0).run P w = .ok #[] w := by simp [loadCells, loadCellsFrom]

/-- What a slice of ours holds, as the model loads it. -/
theorem R.slice (h : R kf kt w0 fm S w) {b o len cap n : Nat} {g : Option Nat} {us : List AV} {a : Value} (ha : VR kf fm (.sl b o len cap g) a) (hl : S.loadN b o n = some us) (hn : 0 < n → 0 < len) :
    ∃ ra rc, a = .slice (some ra) len rc ∧ ∃ vs : List Value, (loadCells ra n).run P w = .ok vs.toArray w ∧ VRs kf fm us vs ∧ (∀ u ∈ us, u.sc = true) := by
  simp only [VR] at ha
  obtain ⟨p, rc, ra, hp, rfl, g1, g2, g3, g4, g5, g6⟩ := ha
  refine ⟨ra, rc, rfl, ?_⟩
  rcases g4 with rfl | h0
  · exact h.loadN hl hp
  · have hlen : us.length = n := (loadN_spec hl).1
    have : n = 0 := by
      rcases Nat.eq_zero_or_pos n with h | h
      · exact h
      · have := hn h; omega
    subst this
    have : us = [] := List.length_eq_zero_iff.1 hlen
    subst this
    exact ⟨[], run_loadCells_zero ra, by simp [VRs], by simp⟩

theorem ok_b2s {src dst e : TypeId} {b o len cap : Nat} {g : Option Nat} {cs : List AV} {s : List UInt8} {a : Value} (h : R kf kt w0 fm S w) (hs : P.underlying src = some (.slice e))
    (he : P.underlying e = some (.int .u8)) (hd : P.underlying dst = some .string) (ha : VR kf fm (.sl b o len cap g) a) (hl : S.loadN b o len = some cs) (hb : bytesOf cs = some s) :
    Ok1 kf kt w0 fm w P (convert src dst a) (.str s) S := by
  have hc := convert_b2s (w := w) hs he hd ha (.inr ⟨_, _, _, _, _, rfl⟩)
  obtain ⟨ra, rc, rfl, vs, hr, hv, _⟩ := h.slice (P := P) ha hl (fun h => h)
  obtain ⟨ns, rfl, rfl⟩ := hv.bytes hb
  refine Ok1.str h (bs := ns.foldl (fun r n => r.push (UInt8.ofNat n.toNat)) ByteArray.empty) ?_ (by rw [foldl_bytes]; simp)
  rw [hc]
  exact run_bytesToString w ra len rc ns hr

theorem ok_b2sNil {src dst e : TypeId} {a : Value} (h : R kf kt w0 fm S w) (hs : P.underlying src = some (.slice e))
    (he : P.underlying e = some (.int .u8)) (hd : P.underlying dst = some .string) (ha : VR kf fm .nils a) : Ok1 kf kt w0 fm w P (convert src dst a) (.str []) S := by
  have hc := convert_b2s (w := w) hs he hd ha (.inl rfl)
  simp only [VR] at ha
  subst ha
  exact Ok1.str h (bs := .empty) (by rw [hc]; simp [Conv.bytesToString]) (by rfl)

theorem ofBytes_rel (bs : ByteArray) : VRs kf fm (ofBytes bs.data.toList) (bs.data.map fun b => Value.int .u8 b.toNat).toList ∧ ∀ u ∈ ofBytes bs.data.toList, u.sc = true := by
  constructor
  · refine VRs.of_get (by simp [ofBytes]) fun i c hc => ?_
    simp only [ofBytes, List.getElem?_map] at hc
    cases hb : bs.data.toList[i]? with
    | none => simp [hb] at hc
    | some x => simp [hb] at hc; subst hc; refine ⟨.int .u8 x.toNat, ?_, by simp [VR]⟩; simp only [Array.toList_map, List.getElem?_map, hb]; rfl
  · intro u hu; simp [ofBytes] at hu; obtain ⟨x, _, rfl⟩ := hu; rfl

theorem ok_s2b {src dst e : TypeId} {s : List UInt8} {a : Value} (h : R kf kt w0 fm S w) (hs : P.underlying src = some .string) (hd : P.underlying dst = some (.slice e))
    (he : P.underlying e = some (.int .u8)) (ha : VR kf fm (.str s) a) :
    Ok1 kf kt w0 fm w P (convert src dst a) (.sl S.length 0 s.length s.length (some 1)) (S ++ [.own (kt e) (ofBytes s)]) := by
  simp only [VR] at ha
  obtain ⟨bs, rfl, rfl⟩ := ha
  obtain ⟨h1, h2⟩ := ofBytes_rel (kf := kf) (fm := fm) bs
  have hsz : bs.data.toList.length = bs.size := by rw [Array.length_toList]; rfl
  generalize hq : (Question.appendCap bs.size 0 e).cut (w.tape w.drawn (.appendCap bs.size 0 e)) = cap
  have hcap : bs.size ≤ cap := by rw [← hq]; simp [Question.cut]
  generalize hc : (bs.data.map fun b => Value.int .u8 b.toNat) ++ Array.replicate (cap - bs.size) (.int .u8 0) = c
  have hcs : c.size = cap := by rw [← hc]; simp; have : bs.data.size = bs.size := rfl; omega
  let w1 : World := { w with drawn := w.drawn + 1 }
  have hR1 : R kf kt w0 fm S w1 := h.drawn _
  refine ⟨[(⟨w.heap.size, 0, none⟩, cap)], .slice (some ⟨w.heap.size, 0, none⟩) bs.size cap, { w1 with heap := w1.heap.push (.cells c e (cap, cap + 1)) }, ?_, ?_, ?_⟩
  · simp only [convert, Sem.run_bind, run_underlying hs, run_underlying hd, Result.andThen_ok, run_underlying he]
    simp only [Conv.stringToBytes, Sem.run_bind, run_choose, Question.forced, Bool.false_eq_true, if_false, hq, Result.andThen_ok, hc]
    have hfz : ({ w1 with heap := w1.heap.push (.cells c e) } : World).freeze ⟨w.heap.size, cap, none⟩ 1 = { w1 with heap := w1.heap.push (.cells c e (cap, cap + 1)) } := by
      simp only [World.freeze, w1]
      rw [if_neg (by omega), modify_push]
      rfl
    simp only [newRow, Sem.run_bind, run_newObj, Result.andThen_ok, Sem.run_pure, markStringish, run_shape, World.shape?, Array.getElem?_push_size, run_freeze, hcs]
    exact congrArg (Result.ok _) hfz
  · rw [hsz.symm] at hcap
    refine hR1.push rfl (fun i hi => by simp; omega) (by omega) (by simp [ofBytes]; simpa using hcap) fun i u hu => ?_
    obtain ⟨v, hv, hr⟩ := h1.get hu
    refine ⟨h2 u (List.mem_of_getElem? hu), v, ?_, hr⟩
    rw [← hc, Array.getElem?_append_left]
    · simpa using hv
    · have := (List.getElem?_eq_some_iff.1 hv).1; simpa using this
  · simp only [VR]
    exact ⟨_, cap, _, fm_new h _, by rw [hsz], by omega, by omega, Nat.le_refl _, .inl (by rw [add_zero]), (fun hh => by cases hh), fun es he => by cases he; simp⟩

theorem ok_mkslice {t e : TypeId} {i : TypeInfo} {z : List AV} {l c : AV} {nl nc : Nat} {a b : Value} (h : R kf kt w0 fm S w) (ht : P.underlying t = some (.slice e)) (hi : P.info? e = some i) (hz : zeroT P kf e = some z)
    (ha : VR kf fm l a) (hb : VR kf fm c b) (hl : natOf l = some nl) (hc : natOf c = some nc) (hle : nl ≤ nc) (hroom : nc < room) (hbytes : i.bytes ≤ 1024) :
    Ok1 kf kt w0 fm w P (Instr.makeSlice t a b) (.sl S.length 0 nl nc none) (S ++ [.own (kt e) (rep nc z)]) := by
  obtain ⟨k1, rfl⟩ := natOf_rel hl ha
  obtain ⟨k2, rfl⟩ := natOf_rel hc hb
  obtain ⟨i', zv, hi', hz1, hm, hlen⟩ := zeroT_spec hz
  rw [hi] at hi'; cases hi'
  obtain ⟨h1, h2⟩ := mapO_rel (fm := fm) hm
  have hl1 := h1.length
  have hzs : zv.cells.size = z.length := by simpa using hl1
  have hrr := rep_rel (n := nc) h1
  obtain ⟨w', hr, h'⟩ := ok_newRow (P := P) (elem := e) (c := (Array.range (nc * zv.cells.size)).map fun i => zv.cells[i % zv.cells.size]!) (cs := rep nc z) (lim := (rep nc z).length) h rfl
    (by simp [rep_length, hzs]) (Nat.le_refl _) (VRs.cellsOf hrr (rep_sc h2))
  have hrm : nc < 68719476736 := hroom
  have hw1 : IntKind.i64.wrap nl = nl := wrap_i64 (by omega) (by omega)
  have hw2 : IntKind.i64.wrap nc = nc := wrap_i64 (by omega) (by omega)
  refine ⟨_, .slice (some ⟨w.heap.size, 0, none⟩) nl nc, w', ?_, h', ?_⟩
  · have hbig : decide ((i.bytes : Int) * (nc : Int) > 2 ^ 48) = false := by
      have h3 : i.bytes * nc ≤ 1024 * 68719476736 := Nat.mul_le_mul hbytes (by omega)
      have h4 : ((i.bytes * nc : Nat) : Int) ≤ ((1024 * 68719476736 : Nat) : Int) := Int.ofNat_le.2 h3
      rw [Int.natCast_mul] at h4
      have h5 : ((1024 * 68719476736 : Nat) : Int) = 2 ^ 46 := by rfl
      rw [h5] at h4
      have h6 : (2 : Int) ^ 46 ≤ 2 ^ 48 := by decide
      simp only [decide_eq_false_iff_not]
      exact fun hc => absurd (Int.lt_of_lt_of_le hc h4) (Int.not_lt.2 h6)
    have hneg : decide ((nc : Int) < 0) = false := by simp
    have hneg1 : decide ((nl : Int) < 0) = false := by simp
    have hgt : decide ((nl : Int) > (nc : Int)) = false := by simp; omega
    have hsz : (Go.sizeOf e).run P w = .ok z.length w := by rw [run_size hi, hlen]
    simp only [Instr.makeSlice, Sem.run_bind, run_underlying ht, Result.andThen_ok, asInt, asIntOf, Sem.run_pure, run_info hi, hw1, hw2, hbig, hneg, hneg1, hgt, Bool.or_self, Bool.false_or, Bool.false_eq_true, if_false, run_askRoom, hsz, Int.toNat_natCast]
    by_cases h0 : nc * z.length = 0
    · rw [if_pos h0]
      have e0 : ∀ f : Nat → Value, Array.map f (Array.range 0) = #[] := fun f => by rw [show Array.range 0 = #[] from by simp [Array.range]]; simp
      rw [hzs, h0, e0] at hr
      simp only [Sem.run_bind, Sem.run_pure, Result.andThen_ok, h0, e0, hr]
    · rw [if_neg h0]
      rw [hzs] at hr
      simp only [Sem.run_bind, Sem.run_pure, Result.andThen_ok, run_zero hi hz1, hzs, hr]
  · simp only [VR]
    exact ⟨_, nc, _, fm_new h _, rfl, hle, Nat.le_refl _, hle, .inl (by rw [add_zero]), fun _ => rfl, fun es he => by cases he⟩
end
end Am
