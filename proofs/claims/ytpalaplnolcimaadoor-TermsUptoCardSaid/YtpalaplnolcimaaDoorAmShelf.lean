/- Functions of the library that are taken whole: strconv.Itoa, strings.Join: their contracts, in the abstract machine's words. -/
import Derived.Test.YtpalaplnolcimaaDoorAmRun
import Derived.Test.YtpalaplnolcimaaDoorAmFp
import Derived.Lib.LaidTab
import Derived.Lib.ItoaNum
import Derived.Lib.Join
namespace Am
open Go Go.RowKit

section
variable {kf kt : Nat → Nat} {w0 : Base} {P : Program} {fm : FM} {S : St} {w : World}

/-- What is asked of a function that is taken whole. -/
def IntrOk (P : Program) (kf kt : Nat → Nat) (G : Base → Prop) (f : FuncId) (g : List AV → St → Option (AV × St)) : Prop :=
  ∀ (args : List AV) (S : St) (v : AV) (S' : St), g args S = some (v, S') →
    ∀ (w0 : Base), G w0 → ∀ (fm : FM) (w : World) (us : List Value), R kf kt w0 fm S w → VRs kf fm args us → Enters P f ∧ CallsIn (FR none) 0 P f us.toArray w (PostV kf kt w0 fm v S')

theorem VRs.one {a : AV} {us : List Value} (h : VRs kf fm [a] us) : ∃ u, us = [u] ∧ VR kf fm a u := by
  simp only [VRs] at h
  obtain ⟨u, _, rfl, h1, rfl⟩ := h
  exact ⟨u, rfl, h1⟩
theorem VRs.two {a b : AV} {us : List Value} (h : VRs kf fm [a, b] us) : ∃ u v, us = [u, v] ∧ VR kf fm a u ∧ VR kf fm b v := by
  simp only [VRs] at h
  obtain ⟨u, _, rfl, h1, v, _, rfl, h2, rfl⟩ := h
  exact ⟨u, v, rfl, h1, h2⟩

/-- A call that gives a value and only adds to the memory. -/
theorem intr_grown {f : FuncId} {us : List Value} {v : AV} {u : Value} (hR : R kf kt w0 fm S w) (hv : VR kf fm v u)
    (hc : Calls P f us.toArray w fun e w' => e = .returned u ∧ Below w.heap.size w w') : CallsIn (FR none) 0 P f us.toArray w (PostV kf kt w0 fm v S) := by
  refine callsIn_wide.2 (hc.mono ?_)
  rintro e w' ⟨rfl, hb⟩
  exact ⟨[], u, rfl, by rw [List.append_nil]; exact hR.grown hb, by rw [List.append_nil]; exact hv⟩

/-! ### The table of powers -/

def GTab (P : Program) (B : Base) : Prop :=
  (∃ g, P.globalNamed "internal/strconv.uint64pow10" = some g ∧ B.K g) ∧ Lib.TabIs P B.w "internal/strconv.uint64pow10" .u64 Lib.pow10Tab

theorem GTab.at_ {B : Base} (h : GTab P B) (ht : Turned B B.w w) : Lib.TabIs P w "internal/strconv.uint64pow10" .u64 Lib.pow10Tab := by
  obtain ⟨⟨g, h1, h2⟩, h3⟩ := h
  unfold Lib.TabIs World.var? at h3 ⊢
  simp only [h1, Option.bind_some] at h3 ⊢
  rw [ht.block g h2]; exact h3

theorem gtab_keeps : Keeps (GTab P) := by
  intro B w X hX hs ht h
  obtain ⟨⟨g, h1, h2⟩, h3⟩ := h
  exact ⟨⟨g, h1, .inl h2⟩, GTab.at_ ⟨⟨g, h1, h2⟩, h3⟩ ht⟩

def itoaG (args : List AV) (S : St) : Option (AV × St) := match args with
  | [.int .i64 n] => if -9223372036854775808 ≤ n ∧ n ≤ 9223372036854775807 then some (.str (Lib.itoa n), S) else none
  | _ => none

theorem itoa_intr {f : FuncId} (hE : Enters P f)
    (hI : ∀ (n : Int), -9223372036854775808 ≤ n → n ≤ 9223372036854775807 → ∀ (w : World), Lib.TabIs P w "internal/strconv.uint64pow10" .u64 Lib.pow10Tab →
      Calls P f #[.int .i64 n] w fun e w' => e = .returned (.string ⟨(Lib.itoa n).toArray⟩) ∧ Below w.heap.size w w') : IntrOk P kf kt (GTab P) f itoaG := by
  intro args S v S' hg w0 hG fm w us hR hv
  refine ⟨hE, ?_⟩
  unfold itoaG at hg
  split at hg
  · rename_i n
    split at hg
    · rename_i hn
      cases hg
      obtain ⟨u, rfl, hu⟩ := hv.one
      simp only [VR] at hu
      subst hu
      refine intr_grown hR (u := .string ⟨(Lib.itoa n).toArray⟩) (by simp only [VR]; exact ⟨_, rfl, by simp⟩) ?_
      exact hI n hn.1 hn.2 w (hG.at_ hR.below)
    · cases hg
  · cases hg

/-! ### Texts, joined -/

def strsOf : List AV → Option (List (List UInt8))
  | [] => some []
  | .str s :: vs => (strsOf vs).map (s :: ·)
  | _ => none

def joinG (args : List AV) (S : St) : Option (AV × St) := match args with
  | [.nils, .str _] => some (.str [], S)
  | [.sl b o len _ _, .str sep] => (S.loadN b o len).bind fun cs => (strsOf cs).bind fun xs =>
    if xs.length ≤ 140737488355328 ∧ (Lib.join xs sep).length ≤ 140737488355328 then some (.str (Lib.join xs sep), S) else none
  | _ => none

theorem R.cell (hR : R kf kt w0 fm S w) {b : Nat} {k : Blk} {cs : List AV} {p : Addr × Nat} (hb : S[b]? = some k) (hc : k.cells = some cs) (hp : fm[b]? = some p) {i : Nat} {u : AV} (hu : cs[i]? = some u) :
    ∃ v, w.cell? (p.1.add i) = some v ∧ VR kf fm u v := by
  have h := hR.blk b k p hb hp
  cases k with
  | own tag cs' =>
    simp only [Blk.cells, Option.some.injEq] at hc
    subst hc
    obtain ⟨hs, ⟨c, elem, fr, h1, _, _, _, h2⟩, _⟩ := h
    obtain ⟨_, v, h3, h4⟩ := h2 i u hu
    refine ⟨v, ?_, h4⟩
    rw [add_plain hs]
    simp only [World.cell?, h1]
    simpa using h3
  | ro cs' =>
    simp only [Blk.cells, Option.some.injEq] at hc
    subst hc
    exact (h.2 i u hu).2
  | _ => cases hc

theorem cell_spot {a : Addr} {v : Value} (h : w.cell? a = some v) : a.spot = none ∧ a.block < w.heap.size := by
  unfold World.cell? at h
  split at h
  · rename_i hh
    split at h
    · cases h
    · rename_i hs
      refine ⟨by cases ha : a.spot <;> simp_all, ?_⟩
      rcases Nat.lt_or_ge a.block w.heap.size with h1 | h1
      · exact h1
      · rw [Array.getElem?_eq_none h1] at hh; cases hh
  · cases h

theorem strsOf_get : ∀ {cs : List AV} {xs : List (List UInt8)}, strsOf cs = some xs → cs = xs.map .str
  | [], xs, h => by simp only [strsOf, Option.some.injEq] at h; subst h; rfl
  | c :: cs, xs, h => by
    unfold strsOf at h
    split at h
    · rename_i h0; cases h0
    · rename_i s vs h0
      cases h0
      simp only [Option.map_eq_some_iff] at h
      obtain ⟨ys, h1, rfl⟩ := h
      rw [strsOf_get h1]; rfl
    · cases h

theorem join_intr {f : FuncId} {G : Base → Prop} (hE : Enters P f)
    (hN : ∀ (a : Option Addr) (c : Nat) (sep : ByteArray) (w : World), Calls P f #[.slice a 0 c, .string sep] w fun e w' => e = .returned (.string ⟨#[]⟩) ∧ w' = w)
    (hJ : ∀ (bk o c : Nat) (xs : List ByteArray) (sep : ByteArray) (w : World), (∀ (j : Nat) x, xs[j]? = some x → w.cell? ⟨bk, o + j, none⟩ = some (.string x)) → bk < w.heap.size → xs.length ≤ 140737488355328 → xs.length ≤ c →
      (Lib.join (xs.map (·.data.toList)) sep.data.toList).length ≤ 140737488355328 →
      Calls P f #[.slice (some ⟨bk, o, none⟩) xs.length c, .string sep] w fun e w' => e = .returned (.string ⟨(Lib.join (xs.map (·.data.toList)) sep.data.toList).toArray⟩) ∧ Below w.heap.size w w') : IntrOk P kf kt G f joinG := by
  intro args S v S' hg w0 hG fm w us hR hv
  refine ⟨hE, ?_⟩
  unfold joinG at hg
  split at hg
  · rename_i sep
    cases hg
    obtain ⟨u, u', rfl, hu, hu'⟩ := hv.two
    simp only [VR] at hu hu'
    subst hu
    obtain ⟨bs, rfl, _⟩ := hu'
    refine intr_grown hR (u := .string ⟨#[]⟩) (by simp only [VR]; exact ⟨_, rfl, rfl⟩) ((hN none 0 bs w).mono ?_)
    rintro e w' ⟨rfl, rfl⟩
    exact ⟨rfl, Below.refl _ _⟩
  · rename_i b o len cap g sep
    simp only [Option.bind_eq_some_iff] at hg
    obtain ⟨cs, h1, xs, h2, h3⟩ := hg
    split at h3
    · rename_i hle
      cases h3
      obtain ⟨u, u', rfl, hu, hu'⟩ := hv.two
      simp only [VR] at hu hu'
      obtain ⟨p, rc, ra, hp, rfl, hc1, hc2, hc3, hra, _, _⟩ := hu
      obtain ⟨bs, rfl, hbs⟩ := hu'
      have hcs := strsOf_get h2
      -- the cells
      unfold St.loadN at h1
      split at h1
      · rename_i k hk
        split at h1
        · rename_i kc hkc
          split at h1
          · rename_i hlen
            cases h1
            have hxl : xs.length = len := by
              have := congrArg List.length hcs
              simp only [List.length_take, List.length_drop, List.length_map] at this
              omega
            have hget : ∀ (j : Nat) (x : List UInt8), xs[j]? = some x → ∃ y : ByteArray, w.cell? (p.1.add (o + j)) = some (.string y) ∧ y.data.toList = x := by
              intro j x hx
              have hj : j < len := by rw [← hxl]; exact (List.getElem?_eq_some_iff.1 hx).1
              have hu : kc[o + j]? = some (.str x) := by
                have h5 := congrArg (·[j]?) hcs
                simp only [List.getElem?_take, hj, if_true, List.getElem?_drop, List.getElem?_map, hx, Option.map_some] at h5
                exact h5
              obtain ⟨v, h6, h7⟩ := hR.cell hk hkc hp hu
              simp only [VR] at h7
              obtain ⟨y, rfl, h8⟩ := h7
              exact ⟨y, h6, h8⟩
            by_cases h0 : len = 0
            · subst h0
              have hx0 : xs = [] := List.eq_nil_of_length_eq_zero hxl
              subst hx0
              refine intr_grown hR (u := .string ⟨#[]⟩) (by simp only [VR]; exact ⟨_, rfl, by rw [Lib.join_nil]⟩) ((hN (some ra) rc bs w).mono ?_)
              rintro e w' ⟨rfl, rfl⟩
              exact ⟨rfl, Below.refl _ _⟩
            · have hra' : ra = p.1.add o := by
                rcases hra with h | h
                · exact h
                · omega
              -- the row of byte arrays
              obtain ⟨ys, hys1, hys2⟩ : ∃ ys : List ByteArray, ys.map (·.data.toList) = xs ∧ ∀ (j : Nat) y, ys[j]? = some y → w.cell? (p.1.add (o + j)) = some (.string y) := by
                have key : ∀ (zs : List (List UInt8)) (m : Nat), (∀ (j : Nat) (x : List UInt8), zs[j]? = some x → ∃ y : ByteArray, w.cell? (p.1.add (m + j)) = some (.string y) ∧ y.data.toList = x) →
                    ∃ ys : List ByteArray, ys.map (·.data.toList) = zs ∧ ∀ (j : Nat) y, ys[j]? = some y → w.cell? (p.1.add (m + j)) = some (.string y) := by
                  intro zs
                  induction zs with
                  | nil => intro m _; exact ⟨[], rfl, fun j y h => by simp at h⟩
                  | cons z zs ih =>
                    intro m hz
                    obtain ⟨y, h1, h2⟩ := hz 0 z rfl
                    obtain ⟨ys, h3, h4⟩ := ih (m + 1) fun j x hx => by
                      have := hz (j + 1) x (by simpa using hx)
                      rw [show m + 1 + j = m + (j + 1) by omega]; exact this
                    refine ⟨y :: ys, by simp [h2, h3], fun j y' hy => ?_⟩
                    cases j with
                    | zero => simp at hy; subst hy; exact h1
                    | succ j =>
                      have := h4 j y' (by simpa using hy)
                      rw [show m + (j + 1) = m + 1 + j by omega]; exact this
                exact key xs o hget
              have hyl : ys.length = len := by rw [← hxl, ← hys1, List.length_map]
              have hsp : (p.1.add o).spot = none ∧ (p.1.add o).block < w.heap.size := by
                have h5 : 0 < ys.length := by omega
                exact cell_spot (hys2 0 ys[0] (List.getElem?_eq_getElem h5))
              have hadd : ∀ j, p.1.add (o + j) = ⟨(p.1.add o).block, (p.1.add o).off + j, none⟩ := fun j => by rw [← add_add, add_plain hsp.1]
              have hra2 : ra = ⟨(p.1.add o).block, (p.1.add o).off, none⟩ := by
                have := hadd 0
                rw [hra']; simpa using this
              have hb : bs.data.toList = sep := hbs
              have hcall := hJ (p.1.add o).block (p.1.add o).off rc ys bs w (fun j x hx => by rw [← hadd j]; exact hys2 j x hx) hsp.2 (by rw [hyl, ← hxl]; exact hle.1) (by omega) (by rw [hys1, hb]; exact hle.2)
              rw [hys1, hb, hyl, ← hra2] at hcall
              exact intr_grown hR (by simp only [VR]; exact ⟨_, rfl, by simp⟩) hcall
          · cases h1
        · cases h1
      · cases h1
    · cases h3
  · cases hg
end
end Am

namespace Am.F
open Go Am

noncomputable def digitsF (f : Nat) (u : Nat) (acc : List UInt8) : List UInt8 :=
  Nat.rec (motive := fun _ => Nat → List UInt8 → List UInt8) (fun _ acc => acc) (fun _ ih u acc => cond (Nat.ble 10 u) (ih (Nat.div u 10) (UInt8.ofNat (Nat.add 48 (Nat.mod u 10)) :: acc)) (UInt8.ofNat (Nat.add 48 u) :: acc)) f u acc

noncomputable def itoaF (n : Int) : List UInt8 := Int.rec (motive := fun _ => List UInt8) (fun m => digitsF 20 m []) (fun m => 45 :: digitsF 20 (Nat.succ m) []) n

theorem digitsF_eq : ∀ (f u : Nat) (acc : List UInt8), u < 10 ^ (f + 1) → digitsF (f + 1) u acc = Lib.decDigits u ++ acc
  | f, u, acc, h => by
    have h1 : digitsF (f + 1) u acc = cond (Nat.ble 10 u) (digitsF f (u / 10) (UInt8.ofNat (48 + u % 10) :: acc)) (UInt8.ofNat (48 + u) :: acc) := rfl
    rw [h1]
    by_cases hu : u < 10
    · have : Nat.ble 10 u = false := Bool.eq_false_iff.mpr fun hb => by have := Nat.ble_eq.mp hb; omega
      rw [this, Lib.decDigits, dif_pos hu]; rfl
    · rw [show Nat.ble 10 u = true from Nat.ble_eq.mpr (by omega), Lib.decDigits, dif_neg hu, cond_true]
      cases f with
      | zero => simp at h; omega
      | succ f =>
        rw [digitsF_eq f (u / 10) _ (by rw [Nat.pow_succ] at h; omega)]
        simp

theorem itoaF_eq {n : Int} (h1 : -9223372036854775808 ≤ n) (h2 : n ≤ 9223372036854775807) : itoaF n = Lib.itoa n := by
  cases n with
  | ofNat m =>
    show digitsF (19 + 1) m [] = _
    rw [digitsF_eq 19 m [] (by simp only [Int.ofNat_eq_natCast] at h2; omega), Lib.itoa, if_neg (by simp only [Int.ofNat_eq_natCast]; omega)]
    simp
  | negSucc m =>
    show 45 :: digitsF (19 + 1) (m + 1) [] = _
    rw [digitsF_eq 19 (m + 1) [] (by simp only [Int.negSucc_eq] at h1; omega), Lib.itoa, if_pos (by simp only [Int.negSucc_eq]; omega)]
    simp [Int.natAbs]

/-- Texts, one behind the other, with a text between each two. -/
noncomputable def joinF (sep : List UInt8) (vs : List AV) : Option (List (List UInt8) × List UInt8) :=
  List.rec (motive := fun _ => Option (List (List UInt8) × List UInt8)) (some ([], []))
    (fun v vs ih => aStr v fun s => oSome ih fun r => some (s :: r.1, List.rec (motive := fun _ => List UInt8) s (fun _ _ _ => appF s (appF sep r.2)) vs)) vs

theorem joinF_some {sep : List UInt8} : ∀ {vs : List AV} {r : List (List UInt8) × List UInt8}, joinF sep vs = some r → strsOf vs = some r.1 ∧ r.2 = Lib.join r.1 sep
  | [], r, h => by cases h; exact ⟨rfl, rfl⟩
  | v :: vs, r, h => by
    have h : aStr v (fun s => oSome (joinF sep vs) fun r => some (s :: r.1, List.rec (motive := fun _ => List UInt8) s (fun _ _ _ => appF s (appF sep r.2)) vs)) = some r := h
    obtain ⟨s, rfl, h1⟩ := aStr_some h
    obtain ⟨q, h2, h3⟩ := oSome_some h1
    obtain ⟨h4, h5⟩ := joinF_some h2
    cases h3
    refine ⟨by simp only [strsOf, h4, Option.map_some], ?_⟩
    cases vs with
    | nil =>
      cases h2
      show s = _
      rw [Lib.join_one]
    | cons v vs =>
      show appF s (appF sep q.2) = _
      simp only [appF_eq]
      have hne : ∃ y ys, q.1 = y :: ys := by
        unfold strsOf at h4
        split at h4
        · rename_i h0; cases h0
        · simp only [Option.map_eq_some_iff] at h4
          obtain ⟨ys, _, h6⟩ := h4
          exact ⟨_, _, h6.symm⟩
        · cases h4
      obtain ⟨y, ys, hy⟩ := hne
      rw [h5, hy, Lib.join_cons, Lib.join_cons]
      simp [Lib.joinTail, List.append_assoc]

noncomputable def itoaI (args : List AV) (h : H) : Option (AV × H) := a1 args fun a => aInt a fun k n => cond (kEq k .i64) (cond (ltZ n (-9223372036854775808)) none (cond (ltZ 9223372036854775807 n) none (some (.str (itoaF n), h)))) none
noncomputable def joinI (args : List AV) (h : H) : Option (AV × H) := a2 args fun a b => aStr b fun sep => aSl a (some (.str [], h)) fun b o len _ _ => cells h b fun cs =>
  cond (Nat.ble (Nat.add o len) (lenF cs)) (oSome (joinF sep (takeF len (dropF o cs))) fun s => cond (Nat.ble (lenF s.1) 140737488355328) (cond (Nat.ble (lenF s.2) 140737488355328) (some (.str s.2, h)) none) none) none

theorem itoaI_ok {args : List AV} {h h' : H} {v : AV} {S : St} (hi : itoaI args h = some (v, h')) (ha : Abs h S) : ∃ S', itoaG args S = some (v, S') ∧ Abs h' S' := by
  obtain ⟨a, rfl, h1⟩ := a1_some hi
  obtain ⟨k, n, rfl, h2⟩ := aInt_some h1
  obtain ⟨h3, h4⟩ := cond_some h2
  simp only [kEq_eq, decide_eq_true_eq] at h3
  subst h3
  rcases cond_or h4 with ⟨_, h5⟩ | ⟨h5, h6⟩
  · cases h5
  · rcases cond_or h6 with ⟨_, h7⟩ | ⟨h7, h8⟩
    · cases h7
    · simp only [ltZ_eq, decide_eq_false_iff_not, Int.not_lt] at h5 h7
      cases h8
      refine ⟨S, ?_, ha⟩
      simp only [itoaG]
      rw [if_pos ⟨h5, h7⟩, itoaF_eq h5 h7]

theorem joinI_ok {args : List AV} {h h' : H} {v : AV} {S : St} (hi : joinI args h = some (v, h')) (ha : Abs h S) : ∃ S', joinG args S = some (v, S') ∧ Abs h' S' := by
  obtain ⟨a, b, rfl, h1⟩ := a2_some hi
  obtain ⟨sep, rfl, h2⟩ := aStr_some h1
  rcases aSl_some h2 with ⟨rfl, h3⟩ | ⟨b, o, l, m, g, rfl, h3⟩
  · cases h3; exact ⟨S, rfl, ha⟩
  · obtain ⟨k, cs, h4, h5, h6⟩ := cells_some ha h3
    obtain ⟨h7, h8⟩ := cond_some h6
    obtain ⟨q, h9, h10⟩ := oSome_some h8
    obtain ⟨h11, h12⟩ := cond_some h10
    obtain ⟨h13, h14⟩ := cond_some h12
    have h7 := ble2_t h7; have h11 := ble_t h11; have h13 := ble_t h13
    simp only [lenF_eq, takeF_eq, dropF_eq] at h7 h9 h11 h13
    obtain ⟨h15, h16⟩ := joinF_some h9
    cases h14
    refine ⟨S, ?_, ha⟩
    simp only [joinG, loadN_of h4 h5 h7, Option.bind_some, h15]
    rw [if_pos ⟨h11, by rw [← h16]; exact h13⟩, h16]
end Am.F
