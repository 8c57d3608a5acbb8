/- Each operation of the model does what the abstract one does: numbers, strings, tests, slices, fields. -/
import Derived.Test.YtpalaplnolcimaaDoorAmOps
import Derived.Laws.StructEq
import Derived.Laws.Strings
namespace Am
open Go Go.RowKit

section
variable {kf kt : Nat → Nat} {w0 : Base} {fm : FM} {S : St} {w : World} {P : Program}

theorem ok_pick {c : Bool} {a b : AV} {uc ua ub : Value} (h : R kf kt w0 fm S w) (hc : VR kf fm (.bool c) uc) (ha : VR kf fm a ua) (hb : VR kf fm b ub) :
    Ok1 kf kt w0 fm w P (do pure (if ← asBool uc then ua else ub)) (if c then a else b) S := by
  simp only [VR] at hc
  subst hc
  cases c
  · exact Ok1.mk h (by simp [asBool]) hb
  · exact Ok1.mk h (by simp [asBool]) ha

theorem Ok1.int {s : Sem Value} {k : IntKind} {n : Int} (h : R kf kt w0 fm S w) (hr : s.run P w = .ok (.int k n) w) : Ok1 kf kt w0 fm w P s (.int k n) S := Ok1.mk h hr (by simp [VR])
theorem Ok1.bool {s : Sem Value} {b : Bool} (h : R kf kt w0 fm S w) (hr : s.run P w = .ok (.bool b) w) : Ok1 kf kt w0 fm w P s (.bool b) S := Ok1.mk h hr (by simp [VR])
theorem Ok1.str {s : Sem Value} {bs : ByteArray} {l : List UInt8} (h : R kf kt w0 fm S w) (hr : s.run P w = .ok (.string bs) w) (hl : bs.data.toList = l) : Ok1 kf kt w0 fm w P s (.str l) S :=
  Ok1.mk h hr (by simp only [VR]; exact ⟨_, rfl, hl⟩)

theorem ok_binI {op : BinOp} {t : TypeId} {ox oy : Operand} {k k' : IntKind} {x y : Int} {a b : Value} {v : AV} (h : R kf kt w0 fm S w) (ha : VR kf fm (.int k x) a) (hb : VR kf fm (.int k' y) b)
    (hk : kindsFit op k k' = true) (hv : binI op k x y = some v) : Ok1 kf kt w0 fm w P (do eqGuard op t ox oy a b; Go.binOp op t a b) v S := by
  simp only [VR] at ha hb
  subst ha; subst hb
  cases op <;> simp only [kindsFit, beq_iff_eq] at hk <;> simp only [binI] at hv
  case shl => split at hv; cases hv; cases hv; rename_i hy; exact Ok1.int h (by simp [eqGuard, Go.binOp, Op.shift, hy])
  case shr => split at hv; cases hv; cases hv; rename_i hy; exact Ok1.int h (by simp [eqGuard, Go.binOp, Op.shift, hy])
  case quo => subst hk; split at hv; cases hv; cases hv; rename_i hy; exact Ok1.int h (by simp [eqGuard, Go.binOp, Op.intDiv, hy])
  case rem => subst hk; split at hv; cases hv; cases hv; rename_i hy; exact Ok1.int h (by simp [eqGuard, Go.binOp, Op.intDiv, hy])
  case add => subst hk; cases hv; exact Ok1.int h (by simp [eqGuard, Go.binOp, Op.intArith])
  case sub => subst hk; cases hv; exact Ok1.int h (by simp [eqGuard, Go.binOp, Op.intArith])
  case mul => subst hk; cases hv; exact Ok1.int h (by simp [eqGuard, Go.binOp, Op.intArith])
  case and => subst hk; cases hv; exact Ok1.int h (by simp [eqGuard, Go.binOp, Op.intBits])
  case or => subst hk; cases hv; exact Ok1.int h (by simp [eqGuard, Go.binOp, Op.intBits])
  case xor => subst hk; cases hv; exact Ok1.int h (by simp [eqGuard, Go.binOp, Op.intBits])
  case andNot => subst hk; cases hv; exact Ok1.int h (by simp [eqGuard, Go.binOp, Op.intBits])
  all_goals (subst hk; cases hv; exact Ok1.bool h (by simp [eqGuard, Go.binOp, Op.intCmp]))

theorem ok_binS {op : BinOp} {t : TypeId} {ox oy : Operand} {x y : List UInt8} {a b : Value} {v : AV} (h : R kf kt w0 fm S w) (ha : VR kf fm (.str x) a) (hb : VR kf fm (.str y) b)
    (hv : binS op x y = some v) : Ok1 kf kt w0 fm w P (do eqGuard op t ox oy a b; Go.binOp op t a b) v S := by
  simp only [VR] at ha hb
  obtain ⟨bx, rfl, rfl⟩ := ha
  obtain ⟨bt, rfl, rfl⟩ := hb
  cases op <;> simp only [binS] at hv <;> (try (cases hv; done))
  case add =>
    split at hv
    · cases hv
      rename_i hl
      refine Ok1.str h (bs := bx ++ bt) ?_ (by simp)
      have h1 : bx.size = bx.data.toList.length := by rw [Array.length_toList]; rfl
      have h2 : bt.size = bt.data.toList.length := by rw [Array.length_toList]; rfl
      have : ¬ ((bx.size + bt.size : Nat) : Int) > IntKind.i64.max := by
        simp only [show IntKind.i64.max = 9223372036854775807 from rfl]; omega
      simp only [eqGuard, Go.binOp, Op.stringOp, Sem.run_bind]
      rw [if_neg this]
      simp
    · cases hv
  all_goals
    cases hv
    refine Ok1.bool h ?_
    simp [eqGuard, Go.binOp, Op.stringOp, ByteArray.toList_eq, bne]

theorem ok_notB {b : Bool} {a : Value} (h : R kf kt w0 fm S w) (ha : VR kf fm (.bool b) a) : Ok1 kf kt w0 fm w P (Op.unary .not a) (.bool (!b)) S := by
  simp only [VR] at ha; subst ha; exact Ok1.bool h (by simp [Op.unary])

theorem ok_negI {k : IntKind} {n : Int} {a : Value} (h : R kf kt w0 fm S w) (ha : VR kf fm (.int k n) a) : Ok1 kf kt w0 fm w P (Op.unary .neg a) (.int k (k.wrap (0 - n))) S := by
  simp only [VR] at ha; subst ha; exact Ok1.int h (by simp [Op.unary, Op.intArith])

theorem ok_xorI {k : IntKind} {n : Int} {a : Value} (h : R kf kt w0 fm S w) (ha : VR kf fm (.int k n) a) :
    Ok1 kf kt w0 fm w P (Op.unary .xor a) (.int k (k.wrap (BitVec.ofInt k.bits (if k.signed then -1 else k.max) ^^^ BitVec.ofInt k.bits n).toNat)) S := by
  simp only [VR] at ha; subst ha; exact Ok1.int h (by simp [Op.unary, Op.intBits])

theorem ok_eqB {neg : Bool} {op : BinOp} {t : TypeId} {ox oy : Operand} {x y : Bool} {a b : Value} (h : R kf kt w0 fm S w) (ht : P.underlying t = some .bool) (hop : op = if neg then .neq else .eql)
    (ha : VR kf fm (.bool x) a) (hb : VR kf fm (.bool y) b) : Ok1 kf kt w0 fm w P (do eqGuard op t ox oy a b; Go.binOp op t a b) (.bool ((x == y) != neg)) S := by
  simp only [VR] at ha hb; subst ha; subst hb; subst hop
  have he : (Op.equalIn 10000 t (.bool x) (.bool y)).run P w = .ok (x == y) w := by
    exact run_equalIn_bool' w 9999 t x y ht
  cases neg
  · refine Ok1.bool h ?_
    simp [eqGuard, Go.binOp, Op.equal, Op.maxDepth, he]
  · refine Ok1.bool h ?_
    simp [eqGuard, Go.binOp, Op.equal, Op.maxDepth, he]

theorem run_equalIn_nil' {n : Nat} {d : TypeDesc} {t : TypeId} {oy : Operand} {c : NK} {x : AV} {a b : Value} {r : Bool} (ht : P.underlying t = some d) (hn : nilKind d oy = some c) (hb : oy = .const b)
    (ha : VR kf fm x a) (hr : nilIs c x = some r) : (Op.equalIn (n + 1) t a b).run P w = .ok r w := by
  subst hb
  unfold nilKind at hn
  split at hn <;> (try (cases hn; done)) <;> rename_i heq <;> cases heq <;> cases hn <;> cases x <;> simp only [nilIs] at hr <;> (try (cases hr; done)) <;> cases hr <;> simp only [VR] at ha
  all_goals (first | subst ha | obtain ⟨p, _, rfl⟩ := ha | obtain ⟨p, rc, ra, _, rfl, _⟩ := ha | obtain ⟨f, ws, rfl, _⟩ := ha | obtain ⟨t', u', rfl⟩ := ha)
  all_goals simp [Op.equalIn, run_underlying ht]

theorem run_equalIn_nil {d : TypeDesc} {t : TypeId} {ox oy : Operand} {c : NK} {x : AV} {a b : Value} {r : Bool} (ht : P.underlying t = some d) (hn : nilKind d oy = some c) (hb : oy = .const b)
    (ha : VR kf fm x a) (hr : nilIs c x = some r) (op : BinOp) :
    (Op.equalIn 10000 t a b).run P w = .ok r w ∧ (eqGuard op t ox oy a b).run P w = .ok () w ∧ (∀ k n, a ≠ .int k n) ∧ (∀ s, a ≠ .string s) ∧ (∀ k n, a ≠ .float k n) ∧ (∀ k n m, a ≠ .complex k n m) := by
  have h1 := run_equalIn_nil' (w := w) (n := 9999) ht hn hb ha hr
  refine ⟨h1, ?_⟩
  clear h1
  subst hb
  unfold nilKind at hn
  split at hn <;> (try (cases hn; done)) <;> rename_i heq <;> cases heq <;> cases hn <;> cases x <;> simp only [nilIs] at hr <;> (try (cases hr; done)) <;> cases hr <;> simp only [VR] at ha
  all_goals (first | subst ha | obtain ⟨p, _, rfl⟩ := ha | obtain ⟨p, rc, ra, _, rfl, _⟩ := ha | obtain ⟨f, ws, rfl, _⟩ := ha | obtain ⟨t', u', rfl⟩ := ha)
  all_goals
    refine ⟨?_, by simp, by simp, by simp, by simp⟩
    cases op <;> simp [eqGuard]

theorem ok_isNil {neg : Bool} {op : BinOp} {d : TypeDesc} {t : TypeId} {ox oy : Operand} {c : NK} {x : AV} {a b : Value} {r : Bool} (h : R kf kt w0 fm S w) (ht : P.underlying t = some d)
    (hn : nilKind d oy = some c) (hb : oy = .const b) (hop : op = if neg then .neq else .eql) (ha : VR kf fm x a) (hr : nilIs c x = some r) :
    Ok1 kf kt w0 fm w P (do eqGuard op t ox oy a b; Go.binOp op t a b) (.bool (r != neg)) S := by
  obtain ⟨h1, h2, h3, h4, h5, h6⟩ := run_equalIn_nil (w := w) (ox := ox) ht hn hb ha hr op
  have h7 : (∀ k n, b ≠ .int k n) := by subst hb; unfold nilKind at hn; split at hn <;> simp_all
  subst hop
  refine Ok1.bool h ?_
  simp only [Sem.run_bind, h2, Result.andThen_ok]
  have hq : (Op.equal t a b).run P w = .ok r w := h1
  cases neg
  · have : Go.binOp .eql t a b = (do pure (.bool (← Op.equal t a b))) := by
      unfold Go.binOp; split <;> simp_all
    simp [this, hq]
  · have : Go.binOp .neq t a b = (do pure (.bool (!(← Op.equal t a b)))) := by
      unfold Go.binOp; split <;> simp_all
    simp [this, hq]

theorem ok_conv {src dst : TypeId} {k k' : IntKind} {n : Int} {a : Value} (h : R kf kt w0 fm S w) {d : TypeDesc} (hs : P.underlying src = some d) (hd : P.underlying dst = some (.int k))
    (ha : VR kf fm (.int k' n) a) : Ok1 kf kt w0 fm w P (convert src dst a) (.int k (k.wrap n)) S := by
  simp only [VR] at ha; subst ha
  refine Ok1.int h ?_
  cases d <;> simp [convert, run_underlying hs, run_underlying hd, Conv.intToInt]

theorem ok_idS {src dst : TypeId} {s : List UInt8} {a : Value} (h : R kf kt w0 fm S w) (hs : P.underlying src = some .string) (hd : P.underlying dst = some .string)
    (ha : VR kf fm (.str s) a) : Ok1 kf kt w0 fm w P (convert src dst a) (.str s) S := by
  simp only [VR] at ha; obtain ⟨bs, rfl, hbs⟩ := ha
  exact Ok1.str h (bs := bs) (by simp [convert, run_underlying hs, run_underlying hd]) hbs

theorem ok_ext {vs : List AV} {v : AV} {i : Nat} {a : Value} (h : R kf kt w0 fm S w) (ha : VR kf fm (.tup vs) a) (hv : vs[i]? = some v) : Ok1 kf kt w0 fm w P (Instr.extract a i) v S := by
  simp only [VR] at ha
  obtain ⟨ws, rfl, hw⟩ := ha
  obtain ⟨u, hu, hr⟩ := hw.get hv
  have hu' : ws[i]? = some u := by simpa using hu
  exact Ok1.mk h (by simp [Instr.extract, hu']) hr

theorem ok_mkifc {t : TypeId} {d : TypeDesc} {x : AV} {a : Value} (h : R kf kt w0 fm S w) (ht : P.underlying t = some d) (hd : ∀ ms, d ≠ .interface ms) (_ : VR kf fm x a) :
    Ok1 kf kt w0 fm w P (Instr.makeInterface t a) .opq S := by
  refine Ok1.mk h (u := .iface t a) ?_ (by simp [VR])
  cases d <;> simp_all [Instr.makeInterface, run_underlying ht]

theorem ok_mkfn {f : FuncId} {caps : Array Value} {vs : List AV} (h : R kf kt w0 fm S w) (hv : VRs kf fm vs caps.toList) : Ok1 kf kt w0 fm w P (Instr.makeFunc (.func f) #[] caps) (.fn (kf f) vs) S :=
  Ok1.mk h (u := .func (.func f) #[] caps) rfl (by simp only [VR]; exact ⟨f, caps, rfl, rfl, hv⟩)

/-! ### Fields, elements -/

theorem part1_run {t : TypeId} {cs : List AV} {ws : Array Value} {off : Nat} {v : AV} (ht : aggT P t = some false) (hw : VRs kf fm cs ws.toList) (hv : cs[off]? = some v) :
    ∃ u, (part t ws off).run P w = .ok u w ∧ VR kf fm v u := by
  obtain ⟨u, hu, hr⟩ := hw.get hv
  have hu' : ws[off]? = some u := by simpa using hu
  exact ⟨u, by simp [part, aggT_false ht, hu'], hr⟩

theorem partN_run {t : TypeId} {cs : List AV} {ws : Array Value} {off n : Nat} (ht : aggT P t = some true) (hn : sizeT P t = some n) (hw : VRs kf fm cs ws.toList) (hs : ∀ c ∈ cs, c.sc = true) :
    ∃ u, (part t ws off).run P w = .ok u w ∧ VR kf fm (.agg ((cs.drop off).take n)) u := by
  refine ⟨.agg (ws.extract off (off + n)), by simp [part, aggT_true ht, run_sizeT hn], ?_⟩
  simp only [VR]
  refine ⟨_, rfl, fun c hc => hs c (List.mem_of_mem_drop (List.mem_of_mem_take hc)), ?_⟩
  have : (ws.extract off (off + n)).toList = (ws.toList.drop off).take n := by
    rw [Array.toList_extract, List.extract_eq_take_drop]; congr 1; omega
  rw [this]
  exact (hw.drop off).take n

theorem ok_fld1 {t : TypeId} {fs : Array Field} {f : Nat} {fd : Field} {cs : List AV} {v : AV} {a : Value} (h : R kf kt w0 fm S w) (ht : P.underlying t = some (.struct fs)) (hf : fs[f]? = some fd)
    (hg : aggT P fd.type = some false) (ha : VR kf fm (.agg cs) a) (hv : cs[fd.offset]? = some v) : Ok1 kf kt w0 fm w P (Instr.field t a f) v S := by
  simp only [VR] at ha
  obtain ⟨ws, rfl, _, hw⟩ := ha
  obtain ⟨u, hu, hr⟩ := part1_run (w := w) (P := P) hg hw hv
  exact Ok1.mk h (by simp [Instr.field, run_underlying ht, hf, asAgg, hu]) hr

theorem ok_fldN {t : TypeId} {fs : Array Field} {f n : Nat} {fd : Field} {cs : List AV} {a : Value} (h : R kf kt w0 fm S w) (ht : P.underlying t = some (.struct fs)) (hf : fs[f]? = some fd)
    (hg : aggT P fd.type = some true) (hn : sizeT P fd.type = some n) (ha : VR kf fm (.agg cs) a) : Ok1 kf kt w0 fm w P (Instr.field t a f) (.agg ((cs.drop fd.offset).take n)) S := by
  simp only [VR] at ha
  obtain ⟨ws, rfl, hs, hw⟩ := ha
  obtain ⟨u, hu, hr⟩ := partN_run (w := w) (P := P) (off := fd.offset) hg hn hw hs
  exact Ok1.mk h (by simp [Instr.field, run_underlying ht, hf, asAgg, hu]) hr

theorem natOf_rel {i : AV} {n : Nat} {a : Value} (hn : natOf i = some n) (ha : VR kf fm i a) : ∃ k, a = .int k n := by
  cases i <;> simp [natOf] at hn
  simp only [VR] at ha
  subst ha
  obtain ⟨h1, rfl⟩ := hn
  exact ⟨_, by congr 1; omega⟩

theorem ok_idxS {t : TypeId} {s : List UInt8} {i : AV} {n : Nat} {c : UInt8} {a b : Value} (h : R kf kt w0 fm S w) (ht : P.underlying t = some .string) (ha : VR kf fm (.str s) a) (hb : VR kf fm i b)
    (hn : natOf i = some n) (hc : s[n]? = some c) : Ok1 kf kt w0 fm w P (Instr.index t a b) (.int .u8 c.toNat) S := by
  simp only [VR] at ha
  obtain ⟨bs, rfl, rfl⟩ := ha
  obtain ⟨k, rfl⟩ := natOf_rel hn hb
  have hlt : n < bs.size := by have := (List.getElem?_eq_some_iff.1 hc).1; rw [Array.length_toList] at this; exact this
  have hcc : bs[n] = c := by
    have := (List.getElem?_eq_some_iff.1 hc).2
    show bs.data[n] = c
    simpa using this
  refine Ok1.int h ?_
  have h0 : (0 : Int) ≤ (n : Int) := by omega
  simp [Instr.index, asIntOf, run_underlying ht, hlt, hcc]

theorem ok_idxA1 {t e : TypeId} {m n es : Nat} {cs : List AV} {i v : AV} {a b : Value} (h : R kf kt w0 fm S w) (ht : P.underlying t = some (.array m e)) (hg : aggT P e = some false) (hs : sizeT P e = some es)
    (ha : VR kf fm (.agg cs) a) (hb : VR kf fm i b) (hn : natOf i = some n) (hlt : n < m) (hv : cs[n * es]? = some v) : Ok1 kf kt w0 fm w P (Instr.index t a b) v S := by
  simp only [VR] at ha
  obtain ⟨ws, rfl, _, hw⟩ := ha
  obtain ⟨k, rfl⟩ := natOf_rel hn hb
  obtain ⟨u, hu, hr⟩ := part1_run (w := w) (P := P) hg hw hv
  exact Ok1.mk h (by simp [Instr.index, asIntOf, run_underlying ht, hlt, run_sizeT hs, hu]) hr

theorem ok_idxAN {t e : TypeId} {m n es : Nat} {cs : List AV} {i : AV} {a b : Value} (h : R kf kt w0 fm S w) (ht : P.underlying t = some (.array m e)) (hg : aggT P e = some true) (hs : sizeT P e = some es)
    (ha : VR kf fm (.agg cs) a) (hb : VR kf fm i b) (hn : natOf i = some n) (hlt : n < m) : Ok1 kf kt w0 fm w P (Instr.index t a b) (.agg ((cs.drop (n * es)).take es)) S := by
  simp only [VR] at ha
  obtain ⟨ws, rfl, hsc, hw⟩ := ha
  obtain ⟨k, rfl⟩ := natOf_rel hn hb
  obtain ⟨u, hu, hr⟩ := partN_run (w := w) (P := P) (off := n * es) hg hs hw hsc
  exact Ok1.mk h (by simp [Instr.index, asIntOf, run_underlying ht, hlt, run_sizeT hs, hu]) hr

theorem ok_fadr {s : TypeId} {fs : Array Field} {f n b o : Nat} {fd : Field} {a : Value} (h : R kf kt w0 fm S w) (ht : P.underlying s = some (.struct fs)) (hf : fs[f]? = some fd)
    (hn : sizeT P fd.type = some (n + 1)) (ha : VR kf fm (.ptr b o) a) : Ok1 kf kt w0 fm w P (Instr.fieldAt s a f) (.ptr b (o + fd.offset)) S := by
  simp only [VR] at ha
  obtain ⟨p, hp, rfl⟩ := ha
  refine Ok1.mk h (u := .pointer (some (p.1.add (o + fd.offset)))) ?_ (by simp only [VR]; exact ⟨p, hp, rfl⟩)
  simp [Instr.fieldAt, run_underlying ht, hf, Instr.sureAddr, fieldPlace, run_sizeT hn, add_add]

theorem ok_iadr {t e : TypeId} {b o len cap es n : Nat} {g : Option Nat} {i : AV} {a c : Value} (h : R kf kt w0 fm S w) (ht : P.underlying t = some (.slice e)) (hs : sizeT P e = some es)
    (ha : VR kf fm (.sl b o len cap g) a) (hb : VR kf fm i c) (hn : natOf i = some n) (hlt : n < len) : Ok1 kf kt w0 fm w P (Instr.indexAt t a c) (.ptr b (o + n * es)) S := by
  simp only [VR] at ha
  obtain ⟨p, rc, ra, hp, rfl, h1, h2, h3, h4, h5, h6⟩ := ha
  obtain ⟨k, rfl⟩ := natOf_rel hn hb
  have hra : ra = p.1.add o := h4.resolve_right (by omega)
  subst hra
  refine Ok1.mk h (u := .pointer (some (p.1.add (o + n * es)))) ?_ (by simp only [VR]; exact ⟨p, hp, rfl⟩)
  simp [Instr.indexAt, asIntOf, run_underlying ht, hlt, run_sizeT hs, add_add]

theorem ok_iadrA {t e : TypeId} {m b o es n : Nat} {i : AV} {a c : Value} (h : R kf kt w0 fm S w) (ht : P.underlying t = some (.array m e)) (hs : sizeT P e = some es)
    (ha : VR kf fm (.ptr b o) a) (hb : VR kf fm i c) (hn : natOf i = some n) (hlt : n < m) : Ok1 kf kt w0 fm w P (Instr.indexAt t a c) (.ptr b (o + n * es)) S := by
  simp only [VR] at ha
  obtain ⟨p, hp, rfl⟩ := ha
  obtain ⟨k, rfl⟩ := natOf_rel hn hb
  refine Ok1.mk h (u := .pointer (some (p.1.add (o + n * es)))) ?_ (by simp only [VR]; exact ⟨p, hp, rfl⟩)
  simp [Instr.indexAt, asIntOf, run_underlying ht, Instr.sureAddr, hlt, run_sizeT hs, add_add]

theorem ok_nilCheck {x : AV} {a : Value} (ha : VR kf fm x a) (hx : (∃ b o, x = .ptr b o) ∨ (∃ k cs, x = .fn k cs) ∨ ∃ l, x = .yld l) (ρ : Operand → Value) (ox : Operand) (hρ : ρ ox = a)
    (dst : Option Tmp) (ty : TypeId) (pos : String) (after : Array Edge) (guard : Option (Nat × Bool)) :
    (execOp ρ { dst, op := .nilCheck ox, type := ty, pos, after, guard }).run P w = .ok (.value a) w := by
  subst hρ
  rcases hx with ⟨b, o, rfl⟩ | ⟨k, cs, rfl⟩ | ⟨l, rfl⟩ <;> simp only [VR] at ha
  · obtain ⟨p, _, hv⟩ := ha; simp [execOp, hv]
  · obtain ⟨f, ws, hv, _⟩ := ha; simp [execOp, hv]
  · obtain ⟨p, _, hv⟩ := ha; simp [execOp, hv]

/-! ### Lengths, least, greatest -/

theorem ok_lenS {ts : Array TypeId} {t ty : TypeId} {s : List UInt8} {a : Value} (h : R kf kt w0 fm S w) (h0 : ts[0]? = some t) (ht : P.underlying t = some .string) (ha : VR kf fm (.str s) a) :
    Ok1 kf kt w0 fm w P (Builtin.len_ ts ty #[a]) (.int .i64 s.length) S := by
  simp only [VR] at ha
  obtain ⟨bs, rfl, rfl⟩ := ha
  refine Ok1.int h ?_
  simp [Builtin.len_, h0, run_underlying ht, goInt]

theorem ok_lenL {ts : Array TypeId} {t ty e : TypeId} {b o len cap : Nat} {g : Option Nat} {a : Value} (h : R kf kt w0 fm S w) (h0 : ts[0]? = some t) (ht : P.underlying t = some (.slice e)) (ha : VR kf fm (.sl b o len cap g) a) :
    Ok1 kf kt w0 fm w P (Builtin.len_ ts ty #[a]) (.int .i64 len) S := by
  simp only [VR] at ha
  obtain ⟨p, rc, ra, hp, rfl, _⟩ := ha
  refine Ok1.int h ?_
  simp [Builtin.len_, h0, run_underlying ht, goInt]

theorem ok_lenNil {ts : Array TypeId} {t ty e : TypeId} {a : Value} (h : R kf kt w0 fm S w) (h0 : ts[0]? = some t) (ht : P.underlying t = some (.slice e)) (ha : VR kf fm .nils a) :
    Ok1 kf kt w0 fm w P (Builtin.len_ ts ty #[a]) (.int .i64 0) S := by
  simp only [VR] at ha
  subst ha
  refine Ok1.int h ?_
  simp [Builtin.len_, h0, run_underlying ht, goInt]

theorem ok_lenC {ts : Array TypeId} {t ty e : TypeId} {n : Nat} {a : Value} (h : R kf kt w0 fm S w) (h0 : ts[0]? = some t) (ht : P.underlying t = some (.array n e)) :
    Ok1 kf kt w0 fm w P (Builtin.len_ ts ty #[a]) (.int .i64 n) S := by
  refine Ok1.int h ?_
  simp [Builtin.len_, h0, run_underlying ht, goInt]

theorem ok_capL {ts : Array TypeId} {t ty e : TypeId} {b o len cap : Nat} {a : Value} (h : R kf kt w0 fm S w) (h0 : ts[0]? = some t) (ht : P.underlying t = some (.slice e)) (ha : VR kf fm (.sl b o len cap none) a) :
    Ok1 kf kt w0 fm w P (Builtin.cap_ ts ty #[a]) (.int .i64 cap) S := by
  simp only [VR] at ha
  obtain ⟨p, rc, ra, hp, rfl, _, _, _, _, h5, _⟩ := ha
  refine Ok1.int h ?_
  simp [Builtin.cap_, h0, run_underlying ht, goInt, h5 trivial]

theorem ok_capNil {ts : Array TypeId} {t ty e : TypeId} {a : Value} (h : R kf kt w0 fm S w) (h0 : ts[0]? = some t) (ht : P.underlying t = some (.slice e)) (ha : VR kf fm .nils a) :
    Ok1 kf kt w0 fm w P (Builtin.cap_ ts ty #[a]) (.int .i64 0) S := by
  simp only [VR] at ha
  subst ha
  refine Ok1.int h ?_
  simp [Builtin.cap_, h0, run_underlying ht, goInt]

theorem ok_minI {ts : Array TypeId} {ty : TypeId} {k : IntKind} {x y : Int} {a b : Value} (h : R kf kt w0 fm S w) (ha : VR kf fm (.int k x) a) (hb : VR kf fm (.int k y) b) :
    Ok1 kf kt w0 fm w P (Builtin.min_ ts ty #[a, b]) (.int k (if y < x then y else x)) S := by
  simp only [VR] at ha hb; subst ha; subst hb
  exact Ok1.int h (by simp [Builtin.min_, Builtin.min2])

theorem ok_maxI {ts : Array TypeId} {ty : TypeId} {k : IntKind} {x y : Int} {a b : Value} (h : R kf kt w0 fm S w) (ha : VR kf fm (.int k x) a) (hb : VR kf fm (.int k y) b) :
    Ok1 kf kt w0 fm w P (Builtin.max_ ts ty #[a, b]) (.int k (if y > x then y else x)) S := by
  simp only [VR] at ha hb; subst ha; subst hb
  exact Ok1.int h (by simp [Builtin.max_, Builtin.max2])
end
end Am
