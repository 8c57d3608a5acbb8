/- Functions of the library that are taken whole: strconv.Atoi, strings.IndexAny. -/
import Derived.Test.YtpalaplnolcimaaDoorAmLink
import Derived.Lib.AtoiAll
import Derived.Lib.IndexAny
import Derived.Lib.ConvBytes
import Derived.Deep.WholeRow
namespace Am
open Go Go.RowKit

section
variable {kf kt : Nat → Nat} {P : Program} {w : World}

theorem IntrOk.weaken {G G' : Base → Prop} {f : FuncId} {g : List AV → St → Option (AV × St)} (h : IntrOk P kf kt G f g) (hG : ∀ B, G' B → G B) : IntrOk P kf kt G' f g :=
  fun args S v S' hg w0 hw => h args S v S' hg w0 (hG w0 hw)

/-- A variable holds what is good. -/
def GVar (P : Program) (name : String) (good : Array Value → Prop) (B : Base) : Prop :=
  (∃ g, P.globalNamed name = some g ∧ B.K g) ∧ ∃ cs, B.w.var? P name = some cs ∧ good cs

theorem GVar.at_ {name : String} {good : Array Value → Prop} {B : Base} (h : GVar P name good B) (ht : Turned B B.w w) : ∃ cs, w.var? P name = some cs ∧ good cs := by
  obtain ⟨⟨g, h1, h2⟩, cs, h3, h4⟩ := h
  refine ⟨cs, ?_, h4⟩
  unfold World.var? at h3 ⊢
  simp only [h1, Option.bind_some] at h3 ⊢
  rw [ht.block g h2]; exact h3

theorem gvar_keeps {name : String} {good : Array Value → Prop} : Keeps (GVar P name good) := by
  intro B w X hX hs ht h
  obtain ⟨cs, h3, h4⟩ := h.at_ ht
  obtain ⟨⟨g, h1, h2⟩, _⟩ := h
  exact ⟨⟨g, h1, .inl h2⟩, cs, h3, h4⟩

theorem gvar_of {W : World} {name : String} {good : Array Value → Prop} {g : Nat} (hg : P.globalNamed name = some g) {cs : Array Value} (h : W.var? P name = some cs) (hc : good cs) : GVar P name good (baseOf W) := by
  refine ⟨⟨g, hg, ?_⟩, cs, h, hc⟩
  unfold World.var? at h
  simp only [hg, Option.bind_some] at h
  show g < W.heap.size
  rcases Nat.lt_or_ge g W.heap.size with h1 | h1
  · exact h1
  · rw [Array.getElem?_eq_none h1] at h; cases h

theorem Keeps.and {G G' : Base → Prop} (h : Keeps G) (h' : Keeps G') : Keeps fun B => G B ∧ G' B :=
  fun B w X hX hs ht hG => ⟨h B w X hX hs ht hG.1, h' B w X hX hs ht hG.2⟩

/-- An interface's value, one that is no nil. -/
def isIface (cs : Array Value) : Prop := ∃ tp p, cs = #[.iface tp p]

/-- A listed variable that reads as an interface's value holds one. -/
theorem laid_iface {P : Program} {W : World} {n nm : String} {x : DataW Unit} {rest : List (String × DataW Unit)} {g : Nat} {t : TypeId} {ms : Array (String × TypeId)} (h : laidMet P ((n, .iface nm x) :: rest) W)
    (hg : P.globalNamed n = some g) (ht : (P.globals[g]?).map (·.type) = some t) (hi : P.underlying t = some (.interface ms)) : ∃ tp p, W.var? P n = some #[.iface tp p] := by
  obtain ⟨ps, ⟨g', t', cs, fuel, p, q, hg', ht', hvar, hd, _, _⟩, _⟩ := h
  obtain rfl := Option.some.inj (hg.symm.trans hg')
  obtain rfl := Option.some.inj (ht.symm.trans ht')
  cases fuel with
  | zero => simp [DataW.trod] at hd
  | succ fuel =>
    generalize hl : cs.toList = l at hd
    unfold DataW.trod at hd
    rw [hi] at hd
    split at hd <;> rename_i heq <;> first | (cases heq; done) | skip
    · cases hd
    · rename_i ms' u v
      refine ⟨u, v, ?_⟩
      rw [hvar]
      congr 1
      exact Array.ext' hl
    · cases hd

theorem below_bytesWorld (w : World) (e : TypeId) (t : ByteArray) : Below w.heap.size w (Lib.bytesWorld w e t) := by
  have h : Below w.heap.size w (w.drew.alloc (.cells (Lib.bytesCells w e t) e)) := (Below.drew (Below.refl _ w)).alloc (Nat.le_refl _) _
  refine h.trans ⟨rfl, rfl, rfl, ?_, fun k hk => ?_⟩
  · simp [Lib.bytesWorld, World.freeze]
  · simp only [Lib.bytesWorld, World.freeze, Nat.one_ne_zero, if_false]
    rw [Array.getElem?_modify, if_neg (by omega)]

theorem below_two (w : World) (a b : Obj) : Below w.heap.size w ((w.alloc a).alloc b) :=
  ((Below.refl _ w).alloc (Nat.le_refl _) a).alloc (by simp) b

/-! ### strconv.Atoi -/

def atoiV (s : List UInt8) : AV := match Lib.atoiAll s with
  | .ok v => .tup [.int .i64 v, .nili]
  | .range => .tup [.int .i64 (Lib.atoiSat s), .opq]
  | _ => .tup [.int .i64 0, .opq]

def atoiG (args : List AV) (S : St) : Option (AV × St) := match args with
  | [.str s] => if s.length ≤ 281474976710656 then some (atoiV s, S) else none
  | _ => none

theorem size_toList (s : ByteArray) : s.size = s.data.toList.length := by cases s; simp [ByteArray.size]

theorem atoi_intr {f : FuncId} {G : Base → Prop} (hE : Enters P f)
    (hV : ∀ B, G B → ∀ w, Turned B B.w w → (∃ tp p, w.var? P "strconv.ErrSyntax" = some #[.iface tp p]) ∧ ∃ tp p, w.var? P "strconv.ErrRange" = some #[.iface tp p])
    (h1 : ∀ (s : ByteArray), s.size ≤ 9223372036854775806 → ∀ (v : Int), Lib.atoiAll s.data.toList = .ok v → ∀ (w : World), Calls P f #[.string s] w fun e w' => e = .returned (.tuple #[.int .i64 v, .nilIface]) ∧ Below w.heap.size w w')
    (h2 : ∀ (s : ByteArray), s.size ≤ 281474976710656 → (∀ n, Lib.atoiAll s.data.toList ≠ .ok n) → Lib.atoiAll s.data.toList ≠ .range → ∀ (tp : TypeId) (p : Value) (w : World), w.var? P "strconv.ErrSyntax" = some #[.iface tp p] → Calls P f #[.string s] w fun e w' => (∃ t u, e = .returned (.tuple #[.int .i64 0, .iface t u])) ∧ Below w.heap.size w w')
    (h3 : ∀ (s : ByteArray), s.size ≤ 281474976710656 → Lib.atoiAll s.data.toList = .range → ∀ (tp : TypeId) (p : Value) (w : World), w.var? P "strconv.ErrRange" = some #[.iface tp p] → Calls P f #[.string s] w fun e w' => (∃ t u, e = .returned (.tuple #[.int .i64 (Lib.atoiSat s.data.toList), .iface t u])) ∧ Below w.heap.size w w') : IntrOk P kf kt G f atoiG := by
  intro args S v S' hg w0 hG fm w us hR hv
  refine ⟨hE, ?_⟩
  unfold atoiG at hg
  split at hg
  · rename_i s
    split at hg
    · rename_i hl
      cases hg
      obtain ⟨u, rfl, hu⟩ := hv.one
      simp only [VR] at hu
      obtain ⟨bs, rfl, hbs⟩ := hu
      have hs : bs.size ≤ 281474976710656 := by rw [size_toList, hbs]; exact hl
      obtain ⟨⟨t1, p1, hv1⟩, t2, p2, hv2⟩ := hV w0 hG w hR.below
      refine callsIn_wide.2 ?_
      have fin : ∀ (n : Int) (i : Value) (a : AV), VR kf fm a i → atoiV s = .tup [.int .i64 n, a] → ∀ w', Below w.heap.size w w' → PostV kf kt w0 fm (atoiV s) S (.returned (.tuple #[.int .i64 n, i])) w' := by
        intro n i a ha he w' hb
        refine ⟨[], _, rfl, by rw [List.append_nil]; exact hR.grown hb, ?_⟩
        rw [he, List.append_nil]
        simp only [VR]
        exact ⟨_, rfl, by simp only [VRs]; exact ⟨_, _, rfl, by simp [VR], _, _, rfl, ha, rfl⟩⟩
      cases hx : Lib.atoiAll s with
      | ok n =>
        refine (h1 bs (by omega) n (by rw [hbs]; exact hx) w).mono ?_
        rintro e w' ⟨rfl, hb⟩
        exact fin n .nilIface .nili (by simp [VR]) (by simp only [atoiV, hx]) w' hb
      | range =>
        refine (h3 bs hs (by rw [hbs]; exact hx) t2 p2 w hv2).mono ?_
        rintro e w' ⟨⟨t, u, rfl⟩, hb⟩
        rw [hbs]
        exact fin _ (.iface t u) .opq (by simp only [VR]; exact ⟨_, _, rfl⟩) (by simp only [atoiV, hx]) w' hb
      | _ =>
        refine (h2 bs hs (fun n hn => by rw [hbs, hx] at hn; cases hn) (fun hn => by rw [hbs, hx] at hn; cases hn) t1 p1 w hv1).mono ?_
        rintro e w' ⟨⟨t, u, rfl⟩, hb⟩
        exact fin 0 (.iface t u) .opq (by simp only [VR]; exact ⟨_, _, rfl⟩) (by simp only [atoiV, hx]) w' hb
    · cases hg
  · cases hg

/-! ### strings.IndexAny -/

def ascii (s : List UInt8) : Bool := s.all fun b => Nat.ble (Nat.succ b.toNat) 128

theorem ascii_get {s : List UInt8} (h : ascii s = true) (j : Nat) (b : UInt8) (hb : s[j]? = some b) : b.toNat < 128 := by
  simp only [ascii, List.all_eq_true] at h
  exact Nat.ble_eq.mp (h b (List.mem_of_getElem? hb))

def idxAnyG (args : List AV) (S : St) : Option (AV × St) := match args with
  | [.str s, .str cs] => if s.length < 4294967281 ∧ cs.length < 4294967281 ∧ ascii cs = true ∧ (ascii s = true ∨ 2 ≤ cs.length ∧ 8 < s.length) then some (.int .i64 (Lib.indexAny s cs), S) else none
  | _ => none

theorem idxAny_intr {f : FuncId} {G : Base → Prop} (hE : Enters P f)
    (h1 : ∀ (s cs : ByteArray) (w : World), s.size < 4294967281 → cs.size < 4294967281 → (∀ (j : Nat) b, s.data.toList[j]? = some b → b.toNat < 128) → (∀ (j : Nat) b, cs.data.toList[j]? = some b → b.toNat < 128) →
      Calls P f #[.string s, .string cs] w fun e w' => e = .returned (.int .i64 (Lib.indexAny s.data.toList cs.data.toList)) ∧ Below w.heap.size w w')
    (h2 : ∀ (s cs : ByteArray) (w : World), 2 ≤ cs.size → 8 < s.size → s.size < 4294967281 → cs.size < 4294967281 → (∀ (j : Nat) b, cs.data.toList[j]? = some b → b.toNat < 128) →
      Calls P f #[.string s, .string cs] w fun e w' => e = .returned (.int .i64 (Lib.indexAny s.data.toList cs.data.toList)) ∧ Below w.heap.size w w') : IntrOk P kf kt G f idxAnyG := by
  intro args S v S' hg w0 hG fm w us hR hv
  refine ⟨hE, ?_⟩
  unfold idxAnyG at hg
  split at hg
  · rename_i s cs
    split at hg
    · rename_i hl
      cases hg
      obtain ⟨u, u', rfl, hu, hu'⟩ := hv.two
      simp only [VR] at hu hu'
      obtain ⟨bs, rfl, hbs⟩ := hu
      obtain ⟨bc, rfl, hbc⟩ := hu'
      obtain ⟨hl1, hl2, hl3, hl4⟩ := hl
      refine intr_grown hR (u := .int .i64 (Lib.indexAny s cs)) (by simp [VR]) ?_
      rcases hl4 with hl4 | ⟨hl4, hl5⟩
      · have := h1 bs bc w (by rw [size_toList, hbs]; exact hl1) (by rw [size_toList, hbc]; exact hl2) (by rw [hbs]; exact ascii_get hl4) (by rw [hbc]; exact ascii_get hl3)
        rw [hbs, hbc] at this; exact this
      · have := h2 bs bc w (by rw [size_toList, hbc]; exact hl4) (by rw [size_toList, hbs]; exact hl5) (by rw [size_toList, hbs]; exact hl1) (by rw [size_toList, hbc]; exact hl2) (by rw [hbc]; exact ascii_get hl3)
        rw [hbs, hbc] at this; exact this
    · cases hg
  · cases hg
end

namespace F

noncomputable def atoiI (args : List AV) (h : H) : Option (AV × H) := a1 args fun a => aStr a fun s => cond (Nat.ble (lenF s) 281474976710656) (some (atoiV s, h)) none

theorem atoiI_ok {args : List AV} {h h' : H} {v : AV} {S : St} (hi : atoiI args h = some (v, h')) (ha : Abs h S) : ∃ S', atoiG args S = some (v, S') ∧ Abs h' S' := by
  obtain ⟨a, rfl, h1⟩ := a1_some hi
  obtain ⟨s, rfl, h2⟩ := aStr_some h1
  obtain ⟨h3, h4⟩ := cond_some h2
  have h3 := ble_t h3
  rw [lenF_eq] at h3
  cases h4
  exact ⟨S, by simp only [atoiG, if_pos h3], ha⟩

noncomputable def memF (b : UInt8) (cs : List UInt8) : Bool := List.rec (motive := fun _ => Bool) false (fun c _ ih => cond (Nat.beq b.toNat c.toNat) true ih) cs
noncomputable def idxF (cs s : List UInt8) (i : Nat) : Int := List.rec (motive := fun _ => Nat → Int) (fun _ => .negSucc 0) (fun b _ ih i => cond (memF b cs) (.ofNat i) (ih (Nat.succ i))) s i
noncomputable def asciiF (s : List UInt8) : Bool := List.rec (motive := fun _ => Bool) true (fun b _ ih => cond (Nat.ble (Nat.succ b.toNat) 128) ih false) s

theorem memF_eq (b : UInt8) : ∀ (cs : List UInt8), memF b cs = cs.contains b
  | [] => rfl
  | c :: cs => by
    have h : memF b (c :: cs) = cond (Nat.beq b.toNat c.toNat) true (memF b cs) := rfl
    rw [h, memF_eq b cs, cond_beq, List.contains_cons]
    by_cases hb : b = c
    · subst hb; simp
    · have : ¬ b.toNat = c.toNat := fun h => hb (UInt8.toNat_inj.mp h)
      simp [this, hb]
theorem idxF_eq (cs : List UInt8) : ∀ (s : List UInt8) (i : Nat), idxF cs s i = if Lib.indexAny s cs = -1 then -1 else Lib.indexAny s cs + i
  | [], i => rfl
  | b :: s, i => by
    have h : idxF cs (b :: s) i = cond (memF b cs) (.ofNat i) (idxF cs s (i + 1)) := rfl
    rw [h, memF_eq, idxF_eq cs s, Lib.indexAny]
    cases hc : cs.contains b with
    | true => simp
    | false =>
      have hge := Lib.indexAny_ge cs s
      by_cases h1 : Lib.indexAny s cs = -1
      · simp [h1]
      · have h2 : ¬ (Lib.indexAny s cs + 1 = -1) := by omega
        have h3 : (Lib.indexAny s cs == -1) = false := by simpa using h1
        simp only [cond_false, if_neg h1, h3, Bool.false_eq_true, if_false, if_neg h2]
        omega
theorem asciiF_eq : ∀ (s : List UInt8), asciiF s = ascii s
  | [] => rfl
  | b :: s => by
    have h : asciiF (b :: s) = cond (Nat.ble (Nat.succ b.toNat) 128) (asciiF s) false := rfl
    rw [h, asciiF_eq s, ascii, ascii, List.all_cons]
    cases Nat.ble (Nat.succ b.toNat) 128 <;> rfl

noncomputable def idxAnyI (args : List AV) (h : H) : Option (AV × H) := a2 args fun a b => aStr a fun s => aStr b fun cs =>
  cond (Nat.ble (Nat.succ (lenF s)) 4294967281) (cond (Nat.ble (Nat.succ (lenF cs)) 4294967281) (cond (asciiF cs) (cond (or (asciiF s) (and (Nat.ble 2 (lenF cs)) (Nat.ble 9 (lenF s)))) (some (.int .i64 (idxF cs s 0), h)) none) none) none) none

theorem idxAnyI_ok {args : List AV} {h h' : H} {v : AV} {S : St} (hi : idxAnyI args h = some (v, h')) (ha : Abs h S) : ∃ S', idxAnyG args S = some (v, S') ∧ Abs h' S' := by
  obtain ⟨a, b, rfl, h1⟩ := a2_some hi
  obtain ⟨s, rfl, h2⟩ := aStr_some h1
  obtain ⟨cs, rfl, h3⟩ := aStr_some h2
  obtain ⟨h4, h5⟩ := cond_some h3
  obtain ⟨h6, h7⟩ := cond_some h5
  obtain ⟨h8, h9⟩ := cond_some h7
  obtain ⟨h10, h11⟩ := cond_some h9
  have h4 := blt_t h4; have h6 := blt_t h6
  rw [lenF_eq] at h4 h6
  rw [asciiF_eq] at h8
  simp only [Bool.or_eq_true, Bool.and_eq_true, asciiF_eq, lenF_eq] at h10
  have h12 : ascii s = true ∨ 2 ≤ cs.length ∧ 8 < s.length := h10.imp id fun h => ⟨ble_t h.1, ble_t h.2⟩
  cases h11
  refine ⟨S, ?_, ha⟩
  simp only [idxAnyG]
  rw [if_pos ⟨h4, h6, h8, h12⟩, idxF_eq]
  congr 4
  split <;> omega
end F
end Am
