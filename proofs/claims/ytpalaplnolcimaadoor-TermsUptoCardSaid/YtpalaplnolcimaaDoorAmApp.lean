/- append and copy, here and in the model. -/
import Derived.Test.YtpalaplnolcimaaDoorAmOps4
namespace Am
open Go Go.RowKit

section
variable {kf kt : Nat → Nat} {w0 : Base} {fm : FM} {S : St} {w : World} {P : Program}

/-- A real block that nobody here has may turn. -/
theorem R.loose (h : R kf kt w0 fm S w) {r : Nat} {w' : World} (hlo : ¬ w0.K r) (hfree : ∀ (b : Nat) (k : Blk) (p : Addr × Nat), S[b]? = some k → fm[b]? = some p → k.excl = true → p.1.block ≠ r)
    (hw : ∀ r', r' ≠ r → w'.heap[r']? = w.heap[r']?) (hsz : w'.heap.size = w.heap.size) (ho : w'.os = w.os) (ht : w'.tape = w.tape) (hu : w'.output = w.output) : R kf kt w0 fm S w' where
  len := h.len
  below := h.below.trans ⟨ho, ht, hu, by omega, fun k hk => hw k fun e => hlo (e ▸ hk)⟩
  blk := fun b k p hb hp => by
    have hk := h.blk b k p hb hp
    cases k with
    | dead => trivial
    | ro cs =>
      have := BR.kept (ext := []) (w' := w') (hw p.1.block fun e => hlo (e ▸ w0.sub _ hk.1)) hk
      simpa using this
    | own tag cs =>
      have := BR.kept (ext := []) (w' := w') (hw p.1.block (hfree b _ p hb hp rfl)) hk
      simpa using this
    | _ => exact hk
  low := fun b k p hb hp he => by rw [hsz]; exact h.low b k p hb hp he
  sep := h.sep

/-- A real block that nobody here has is taken up. -/
theorem R.adopt (h : R kf kt w0 fm S w) {q : Addr × Nat} {tag : Nat} {cs : List AV} (hlo : ¬ w0.K q.1.block) (hhi : q.1.block < w.heap.size)
    (hfree : ∀ (b : Nat) (k : Blk) (p : Addr × Nat), S[b]? = some k → fm[b]? = some p → k.excl = true → p.1.block ≠ q.1.block)
    (hrow : RowAt kf kt (fm ++ [q]) w tag cs q) : R kf kt w0 (fm ++ [q]) (S ++ [.own tag cs]) w := by
  have split : ∀ {b : Nat} {k : Blk} {p : Addr × Nat}, (S ++ [Blk.own tag cs])[b]? = some k → (fm ++ [q])[b]? = some p →
      (S[b]? = some k ∧ fm[b]? = some p) ∨ (b = S.length ∧ k = .own tag cs ∧ p = q) := by
    intro b k p hb hp
    rw [getElem?_snoc] at hb hp
    rw [h.len] at hp
    by_cases hlt : b < S.length
    · rw [if_pos hlt] at hb hp; exact .inl ⟨hb, hp⟩
    · rw [if_neg hlt] at hb hp
      split at hb
      · rename_i he; rw [if_pos he] at hp; cases hb; cases hp; exact .inr ⟨he, rfl, rfl⟩
      · cases hb
  refine ⟨by simp [h.len], h.below, ?_, ?_, ?_⟩
  · intro b k p hb hp
    rcases split hb hp with ⟨hb, hp⟩ | ⟨rfl, rfl, rfl⟩
    · exact BR.kept rfl (h.blk b k p hb hp)
    · exact hrow
  · intro b k p hb hp he
    rcases split hb hp with ⟨hb, hp⟩ | ⟨rfl, rfl, rfl⟩
    · exact h.low b k p hb hp he
    · exact ⟨hlo, hhi⟩
  · intro b b' k k' p p' hb hb' hp hp' he he' hne
    rcases split hb hp with ⟨hb1, hp1⟩ | ⟨rfl, rfl, rfl⟩ <;> rcases split hb' hp' with ⟨hb2, hp2⟩ | ⟨rfl, rfl, rfl⟩
    · exact h.sep b b' k k' p p' hb1 hb2 hp1 hp2 he he' hne
    · exact hfree b k p hb1 hp1 he
    · exact (hfree b' k' p' hb2 hp2 he').symm
    · exact absurd rfl hne

theorem nextcap_le (n c : Nat) (h : c < n) : Builtin.nextslicecap n c ≤ 2 * n + 1024 := by
  unfold Builtin.nextslicecap
  split
  · omega
  · split
    · omega
    · have key : ∀ (r x : Nat), x ≤ 2 * n + 1024 → Builtin.growBy n r x ≤ 2 * n + 1024 := by
        intro r
        induction r with
        | zero => intro x hx; exact hx
        | succ r ih =>
          intro x hx
          unfold Builtin.growBy
          split
          · exact hx
          · exact ih _ (by omega)
      exact key 4 c (by omega)

/-- The room that an append asks for is there. -/
theorem room_ok {need c b : Nat} (h : c < need) (hn : need < room) (hb : b ≤ 1024) : ¬ Builtin.nextslicecap need c * b > 2 ^ 48 := by
  have h1 := nextcap_le need c h
  have h2 : need < 68719476736 := hn
  have h3 : Builtin.nextslicecap need c * b ≤ (2 * 68719476736 + 1024) * 1024 := Nat.mul_le_mul (by omega) hb
  have h4 : (2 * 68719476736 + 1024) * 1024 ≤ 2 ^ 48 := by decide
  omega

theorem zeroCells_size (z : Array Value) (n : Nat) : (Builtin.zeroCells z n).size = n * z.size := by simp [Builtin.zeroCells]

/-- A fresh row: what was there, what comes, noughts. -/
theorem ok_fresh {e : TypeId} {i : TypeInfo} {zv : Value} {old new : List AV} {vo vn : List Value} {need cap : Nat} (h : R kf kt w0 fm S w) (hi : zv.cells.size = i.size)
    (ho : VRs kf fm old vo) (hn : VRs kf fm new vn) (hso : ∀ u ∈ old, u.sc = true) (hsn : ∀ u ∈ new, u.sc = true) (hlen : old.length + new.length = need * i.size) (hcap : need ≤ cap) :
    ∃ w', (newRow e (vo.toArray ++ vn.toArray ++ Builtin.zeroCells zv.cells (cap - need))).run P w = .ok ⟨w.heap.size, 0, none⟩ w' ∧
      R kf kt w0 (fm ++ [(⟨w.heap.size, 0, none⟩, cap * i.size)]) (S ++ [.own (kt e) (old ++ new)]) w' ∧
      VR kf (fm ++ [(⟨w.heap.size, 0, none⟩, cap * i.size)]) (.sl S.length 0 need need (some i.size)) (.slice (some ⟨w.heap.size, 0, none⟩) need cap) := by
  have l1 := ho.length
  have l2 := hn.length
  have hmul : need * i.size + (cap - need) * i.size = cap * i.size := by rw [← Nat.add_mul]; congr 1; omega
  have hall := ho.append hn
  obtain ⟨w', hr, h'⟩ := ok_newRow (P := P) (elem := e) (tag := kt e) (c := vo.toArray ++ vn.toArray ++ Builtin.zeroCells zv.cells (cap - need)) (cs := old ++ new) (lim := cap * i.size) h rfl
    (by simp [zeroCells_size, hi, l1, l2]; omega)
    (by simp; rw [hlen]; exact Nat.mul_le_mul_right _ hcap)
    (fun j u hu => by
      obtain ⟨v, hv, hr⟩ := hall.get hu
      refine ⟨?_, v, ?_, hr⟩
      · have := List.mem_of_getElem? hu
        rcases List.mem_append.1 this with hm | hm
        · exact hso u hm
        · exact hsn u hm
      · rw [Array.getElem?_append_left (by have := (List.getElem?_eq_some_iff.1 hv).1; simpa using this)]
        simpa using hv)
  refine ⟨w', hr, h', ?_⟩
  simp only [VR]
  exact ⟨_, cap, _, fm_new h _, rfl, hcap, hcap, Nat.le_refl _, .inl (by rw [add_zero]), (fun hh => by cases hh), fun es he => by cases he; simp⟩

/-- What a slice or a string hands to append and copy. -/
theorem src_run {es n m : Nat} {x : AV} {a : Value} {us : List AV} (h : R kf kt w0 fm S w) (ha : VR kf fm x a) (hn : srcLen x = some n) (hm : m ≤ n) (hs : srcCells S es m x = some us) :
    (Builtin.lenOf a).run P w = .ok n w ∧ us.length = m * es ∧ (∀ u ∈ us, u.sc = true) ∧
      ∃ vs : List Value, VRs kf fm us vs ∧ (Builtin.firstCells es m a).run P w = .ok vs.toArray w := by
  cases x <;> simp only [srcCells, srcLen] at hs hn <;> (try (cases hs; done)) <;> (try (cases hn; done)) <;> cases hn
  case str s =>
    split at hs
    case isFalse => cases hs
    rename_i hes
    subst hes
    cases hs
    simp only [VR] at ha
    obtain ⟨bs, rfl, rfl⟩ := ha
    have hsz : bs.data.toList.length = bs.size := by rw [Array.length_toList]; rfl
    obtain ⟨h1, h2⟩ := ofBytes_rel (kf := kf) (fm := fm) (bs.extract 0 m)
    have he : (bs.extract 0 m).data.toList = bs.data.toList.take m := by
      rw [ByteArray.data_extract, Array.toList_extract, List.extract_eq_take_drop]; simp
    rw [he] at h1 h2
    refine ⟨by simp [Builtin.lenOf, hsz], by rw [hsz] at hm; simp [ofBytes]; exact Nat.min_eq_left hm, h2, _, h1, ?_⟩
    simp only [Builtin.firstCells, Sem.run_pure, Array.toArray_toList]
  case sl b o cap g =>
    have hl := (loadN_spec hs).1
    obtain ⟨ra, rc, rfl, vs, hr, hv, hsc⟩ := h.slice (P := P) ha hs (fun h0 => by have := Nat.pos_of_mul_pos_right h0; omega)
    exact ⟨by simp [Builtin.lenOf], hl, hsc, vs, hv, by simpa [Builtin.firstCells] using hr⟩
  case nils =>
    cases hs
    simp only [VR] at ha
    subst ha
    obtain rfl : m = 0 := by omega
    exact ⟨by simp [Builtin.lenOf], by simp, by simp, [], by simp [VRs], by simp [Builtin.firstCells]⟩

/-! ### append -/

section run
variable {ts : Array TypeId} {t t1 e ty : TypeId} {d : TypeDesc} {i : TypeInfo} {zv vx : Value} {base : Option Addr} {sLen sCap n : Nat}

theorem app_in (h0 : ts[0]? = some t) (h1 : ts[1]? = some t1) (ht : P.underlying t = some (.slice e)) (ht1 : P.underlying t1 = some d) (hd : ∀ k, d ≠ .int k) (hi : P.info? e = some i)
    (hn : (Builtin.lenOf vx).run P w = .ok n w) {vn : List Value} (hv : (Builtin.firstCells i.size n vx).run P w = .ok vn.toArray w) (hle : sLen + n ≤ sCap) {w' : World}
    (hst : ∀ a, base = some a → (storeCells (a.add (sLen * i.size)) vn).run P w = .ok () w') (hnil : base = none → w' = w) :
    (Builtin.append_ ts ty #[.slice base sLen sCap, vx]).run P w = .ok (.slice base (sLen + n) sCap) w' := by
  unfold Builtin.append_
  simp only [h0, h1, List.getElem?_toArray, List.getElem?_cons_zero, List.getElem?_cons_succ, Sem.run_bind, run_underlying ht, run_size hi, Result.andThen_ok, run_underlying ht1, Sem.run_pure]
  simp only [Bool.false_eq_true, if_false, Sem.run_bind, hn, Result.andThen_ok]
  rw [if_pos hle]
  simp only [Bool.not_false, if_true, Sem.run_bind, hv, Result.andThen_ok]
  cases base with
  | none => obtain rfl := hnil rfl; rfl
  | some a => simp only [Sem.run_bind, hst a rfl, Result.andThen_ok, Sem.run_pure]

theorem app_out (h0 : ts[0]? = some t) (h1 : ts[1]? = some t1) (ht : P.underlying t = some (.slice e)) (ht1 : P.underlying t1 = some d) (hd : ∀ k, d ≠ .int k) (hi : P.info? e = some i) (hzv : i.zero = some zv)
    (hn : (Builtin.lenOf vx).run P w = .ok n w) {vo vn : List Value} (hv : (Builtin.firstCells i.size n vx).run P { w with drawn := w.drawn + 1 } = .ok vn.toArray { w with drawn := w.drawn + 1 })
    (ho : (Builtin.firstCells i.size sLen (.slice base sLen sCap)).run P { w with drawn := w.drawn + 1 } = .ok vo.toArray { w with drawn := w.drawn + 1 })
    (hgt : sCap < sLen + n) (hb : i.bytes ≠ 0) (hr2 : ¬ Builtin.nextslicecap (sLen + n) sCap * i.bytes > 2 ^ 48) :
    ∃ cap, sLen + n ≤ cap ∧ ∀ (w' : World) (a : Addr), (newRow e (vo.toArray ++ vn.toArray ++ Builtin.zeroCells zv.cells (cap - (sLen + n)))).run P { w with drawn := w.drawn + 1 } = .ok a w' →
      (Builtin.append_ ts ty #[.slice base sLen sCap, vx]).run P w = .ok (.slice (some a) (sLen + n) cap) w' := by
  refine ⟨(Question.appendCap (sLen + n) sCap e).cut (w.tape w.drawn (.appendCap (sLen + n) sCap e)), by simp [Question.cut], fun w' a hr => ?_⟩
  have hnle : ¬ sLen + n ≤ sCap := by omega
  have hzero := run_zero (P := P) hi hzv { w with drawn := w.drawn + 1 }
  have hinfo := run_info (P := P) hi { w with drawn := w.drawn + 1 }
  have hforced : (Question.appendCap (sLen + n) sCap e).forced = false := rfl
  unfold Builtin.append_
  simp only [h0, h1, List.getElem?_toArray, List.getElem?_cons_zero, List.getElem?_cons_succ, Sem.run_bind, run_underlying ht, run_size hi, Result.andThen_ok, run_underlying ht1, Sem.run_pure]
  simp only [Bool.false_eq_true, if_false, Sem.run_bind, hn, Result.andThen_ok]
  rw [if_neg hnle]
  simp only [Sem.run_bind, run_info hi, Result.andThen_ok, false_or, hb, and_false, if_false]
  rw [if_neg hr2]
  simp only [Sem.run_bind, run_choose, hforced, Bool.false_eq_true, if_false, Result.andThen_ok, hinfo, run_askRoom, ho, Bool.not_false, if_true, hv, hzero, hr, Sem.run_pure]

theorem noughts (z : Array Value) (hz : n * z.size = n * i.size) (hi : P.info? e = some i) (hzv : i.zero = some zv) (he : z = zv.cells) (w : World) :
    ((if n * i.size = 0 then pure #[] else do pure (Builtin.zeroCells (← zeroValue e).cells n) : Sem (Array Value)).run P w) = .ok (Builtin.zeroCells z n) w := by
  subst he
  split
  · rename_i h0
    rw [← hz] at h0
    have : Builtin.zeroCells zv.cells n = #[] := by simp only [Builtin.zeroCells, h0]; rw [show Array.range 0 = #[] from by simp [Array.range]]; simp
    rw [this]; rfl
  · simp [run_zero hi hzv]

theorem appz_in {k kk : IntKind} (h0 : ts[0]? = some t) (h1 : ts[1]? = some t1) (ht : P.underlying t = some (.slice e)) (ht1 : P.underlying t1 = some (.int k)) (hi : P.info? e = some i) (hzv : i.zero = some zv) (hzs : zv.cells.size = i.size)
    (hroom : n < room) (hbytes : i.bytes ≤ 1024) (hle : sLen + n ≤ sCap) {w' : World}
    (hst : ∀ a, base = some a → (storeCells (a.add (sLen * i.size)) (Builtin.zeroCells zv.cells n).toList).run P w = .ok () w') (hnil : base = none → w' = w) :
    (Builtin.append_ ts ty #[.slice base sLen sCap, .int kk n]).run P w = .ok (.slice base (sLen + n) sCap) w' := by
  have hrm : n < 68719476736 := hroom
  have hw : IntKind.i64.wrap n = n := wrap_i64 (by omega) (by omega)
  have hneg : ¬ ((n : Int) < 0) := by omega
  have hbig : ¬ ((n : Int) * (i.bytes : Int) > 2 ^ 48) := by
    have h3 : n * i.bytes ≤ 68719476736 * 1024 := Nat.mul_le_mul (by omega) hbytes
    have h4 : ((n * i.bytes : Nat) : Int) ≤ ((68719476736 * 1024 : Nat) : Int) := Int.ofNat_le.2 h3
    rw [Int.natCast_mul] at h4
    have h5 : ((68719476736 * 1024 : Nat) : Int) = 2 ^ 46 := by rfl
    rw [h5] at h4
    have h6 : (2 : Int) ^ 46 ≤ 2 ^ 48 := by decide
    exact fun hc => absurd (Int.lt_of_lt_of_le hc h4) (Int.not_lt.2 h6)
  have hno := noughts (P := P) (n := n) zv.cells (by rw [hzs]) hi hzv rfl w
  unfold Builtin.append_
  simp only [h0, h1, List.getElem?_toArray, List.getElem?_cons_zero, List.getElem?_cons_succ, Sem.run_bind, run_underlying ht, run_size hi, Result.andThen_ok, run_underlying ht1, Sem.run_pure, if_true, asInt, asIntOf, hw]
  rw [if_neg hneg]
  simp only [Sem.run_bind, run_info hi, Result.andThen_ok]
  rw [if_neg hbig]
  simp only [Sem.run_bind, Sem.run_pure, Result.andThen_ok, Int.toNat_natCast]
  rw [if_pos hle]
  simp only [Bool.not_true, Bool.false_eq_true, if_false, Sem.run_bind, hno, Result.andThen_ok]
  cases base with
  | none => obtain rfl := hnil rfl; rfl
  | some a => simp only [Sem.run_bind, hst a rfl, Result.andThen_ok, Sem.run_pure]

theorem appz_out {k kk : IntKind} (h0 : ts[0]? = some t) (h1 : ts[1]? = some t1) (ht : P.underlying t = some (.slice e)) (ht1 : P.underlying t1 = some (.int k)) (hi : P.info? e = some i) (hzv : i.zero = some zv) (hzs : zv.cells.size = i.size)
    (hroom : sLen + n < room) (hbytes : i.bytes ≤ 1024) {vo : List Value}
    (ho : (Builtin.firstCells i.size sLen (.slice base sLen sCap)).run P { w with drawn := w.drawn + 1 } = .ok vo.toArray { w with drawn := w.drawn + 1 })
    (hgt : sCap < sLen + n) (hr2 : ¬ Builtin.nextslicecap (sLen + n) sCap * i.bytes > 2 ^ 48) :
    ∃ cap, sLen + n ≤ cap ∧ ∀ (w' : World) (a : Addr), (newRow e (vo.toArray ++ (Builtin.zeroCells zv.cells n) ++ Builtin.zeroCells zv.cells (cap - (sLen + n)))).run P { w with drawn := w.drawn + 1 } = .ok a w' →
      (Builtin.append_ ts ty #[.slice base sLen sCap, .int kk n]).run P w = .ok (.slice (some a) (sLen + n) cap) w' := by
  refine ⟨(Question.appendCap (sLen + n) sCap e).cut (w.tape w.drawn (.appendCap (sLen + n) sCap e)), by simp [Question.cut], fun w' a hr => ?_⟩
  have hnle : ¬ sLen + n ≤ sCap := by omega
  have hrm : sLen + n < 68719476736 := hroom
  have hw : IntKind.i64.wrap n = n := wrap_i64 (by omega) (by omega)
  have hneg : ¬ ((n : Int) < 0) := by omega
  have hbig : ¬ ((n : Int) * (i.bytes : Int) > 2 ^ 48) := by
    have h3 : n * i.bytes ≤ 68719476736 * 1024 := Nat.mul_le_mul (by omega) hbytes
    have h4 : ((n * i.bytes : Nat) : Int) ≤ ((68719476736 * 1024 : Nat) : Int) := Int.ofNat_le.2 h3
    rw [Int.natCast_mul] at h4
    have h5 : ((68719476736 * 1024 : Nat) : Int) = 2 ^ 46 := by rfl
    rw [h5] at h4
    have h6 : (2 : Int) ^ 46 ≤ 2 ^ 48 := by decide
    exact fun hc => absurd (Int.lt_of_lt_of_le hc h4) (Int.not_lt.2 h6)
  have hmax : ¬ (((sLen + n : Nat) : Int) > IntKind.i64.max) := by simp only [show IntKind.i64.max = 9223372036854775807 from rfl]; omega
  have hzero := run_zero (P := P) hi hzv { w with drawn := w.drawn + 1 }
  have hinfo := run_info (P := P) hi { w with drawn := w.drawn + 1 }
  have hno := noughts (P := P) (n := n) zv.cells (by rw [hzs]) hi hzv rfl { w with drawn := w.drawn + 1 }
  have hforced : (Question.appendCap (sLen + n) sCap e).forced = false := rfl
  unfold Builtin.append_
  simp only [h0, h1, List.getElem?_toArray, List.getElem?_cons_zero, List.getElem?_cons_succ, Sem.run_bind, run_underlying ht, run_size hi, Result.andThen_ok, run_underlying ht1, Sem.run_pure, if_true, asInt, asIntOf, hw]
  rw [if_neg hneg]
  simp only [Sem.run_bind, run_info hi, Result.andThen_ok]
  rw [if_neg hbig]
  simp only [Sem.run_bind, Sem.run_pure, Result.andThen_ok, Int.toNat_natCast]
  rw [if_neg hnle]
  simp only [Sem.run_bind, run_info hi, Result.andThen_ok, true_or, and_true]
  rw [if_neg hmax]
  simp only [Sem.run_bind, run_info hi, Result.andThen_ok]
  rw [if_neg hr2]
  simp only [Sem.run_bind, run_choose, hforced, Bool.false_eq_true, if_false, Result.andThen_ok, hinfo, run_askRoom, ho, Bool.not_true, hno, hzero, hr, Sem.run_pure]
end run
end
end Am
