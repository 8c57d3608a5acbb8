/- Each function is what the compiler gives of the program. -/
import Derived.Test.YtpalaplnolcimaaDoorAmZga14Tab
import Derived.Test.YtpalaplnolcimaaDoorAmZga14K
import Derived.Test.YtpalaplnolcimaaDoorAmZga14Shelf
import Derived.Test.YtpalaplnolcimaaDoorAmIdx
set_option maxRecDepth 100000
namespace Am.L
open Go Go.Proofs Go.RowKit
theorem none_at {k : Nat} (h : F.tab.T (kf k) = none) : AtF Tryd.prog kf kt (GG Tryd.prog) F.tab k := .none h
theorem a0 : AtF Tryd.prog kf kt (GG Tryd.prog) F.tab 0 := none_at (by kernel_rfl)
theorem a1 : AtF Tryd.prog kf kt (GG Tryd.prog) F.tab 1 := none_at (by kernel_rfl)
theorem a2 : AtF Tryd.prog kf kt (GG Tryd.prog) F.tab 2 := none_at (by kernel_rfl)
theorem a3 : AtF Tryd.prog kf kt (GG Tryd.prog) F.tab 3 := none_at (by kernel_rfl)
theorem a4 : AtF Tryd.prog kf kt (GG Tryd.prog) F.tab 4 := none_at (by kernel_rfl)
theorem a5 : AtF Tryd.prog kf kt (GG Tryd.prog) F.tab 5 := none_at (by kernel_rfl)
theorem a6 : AtF Tryd.prog kf kt (GG Tryd.prog) F.tab 6 := none_at (by kernel_rfl)
theorem a7 : AtF Tryd.prog kf kt (GG Tryd.prog) F.tab 7 := .src (s := T.s291_sleuthlaw14_Equations) (fn := Tryd.f7) (ls := []) (by kernel_rfl) (by kernel_rfl) Tryd.func7 (by kernel_rfl) (by kernel_rfl)
theorem a8 : AtF Tryd.prog kf kt (GG Tryd.prog) F.tab 8 := .src (s := T.s292_sleuthlaw14_EquationUnlike) (fn := Tryd.f8) (ls := []) (by kernel_rfl) (by kernel_rfl) Tryd.func8 (by kernel_rfl) (by kernel_rfl)
theorem a9 : AtF Tryd.prog kf kt (GG Tryd.prog) F.tab 9 := none_at (by kernel_rfl)
theorem a10 : AtF Tryd.prog kf kt (GG Tryd.prog) F.tab 10 := none_at (by kernel_rfl)
theorem a11 : AtF Tryd.prog kf kt (GG Tryd.prog) F.tab 11 := none_at (by kernel_rfl)
theorem a12 : AtF Tryd.prog kf kt (GG Tryd.prog) F.tab 12 := none_at (by kernel_rfl)
theorem a13 : AtF Tryd.prog kf kt (GG Tryd.prog) F.tab 13 := none_at (by kernel_rfl)
theorem a14 : AtF Tryd.prog kf kt (GG Tryd.prog) F.tab 14 := .src (s := T.s12_sleuthref1_Cut) (fn := Tryd.f14) (ls := []) (by kernel_rfl) (by kernel_rfl) Tryd.func14 (by kernel_rfl) (by kernel_rfl)
theorem a15 : AtF Tryd.prog kf kt (GG Tryd.prog) F.tab 15 := none_at (by kernel_rfl)
theorem a16 : AtF Tryd.prog kf kt (GG Tryd.prog) F.tab 16 := none_at (by kernel_rfl)
theorem a17 : AtF Tryd.prog kf kt (GG Tryd.prog) F.tab 17 := .src (s := T.s15_sleuthlaw0_SameTexts) (fn := Tryd.f17) (ls := [[0, 1, 5]]) (by kernel_rfl) (by kernel_rfl) Tryd.func17 (by kernel_rfl) (by kernel_rfl)
theorem a18 : AtF Tryd.prog kf kt (GG Tryd.prog) F.tab 18 := .src (s := T.s16_sleuthlaw0_Num) (fn := Tryd.f18) (ls := []) (by kernel_rfl) (by kernel_rfl) Tryd.func18 (by kernel_rfl) (by kernel_rfl)
theorem a19 : AtF Tryd.prog kf kt (GG Tryd.prog) F.tab 19 := .src (s := T.s17_term_May) (fn := Tryd.f19) (ls := []) (by kernel_rfl) (by kernel_rfl) Tryd.func19 (by kernel_rfl) (by kernel_rfl)
theorem a20 : AtF Tryd.prog kf kt (GG Tryd.prog) F.tab 20 := .src (s := T.s18_sleuthref1_TermMay) (fn := Tryd.f20) (ls := []) (by kernel_rfl) (by kernel_rfl) Tryd.func20 (by kernel_rfl) (by kernel_rfl)
theorem a21 : AtF Tryd.prog kf kt (GG Tryd.prog) F.tab 21 := none_at (by kernel_rfl)
theorem a22 : AtF Tryd.prog kf kt (GG Tryd.prog) F.tab 22 := none_at (by kernel_rfl)
theorem a23 : AtF Tryd.prog kf kt (GG Tryd.prog) F.tab 23 := none_at (by kernel_rfl)
theorem a24 : AtF Tryd.prog kf kt (GG Tryd.prog) F.tab 24 := .src (s := T.s22_sleuthref0_Decimal) (fn := Tryd.f24) (ls := [[0, 3, 4]]) (by kernel_rfl) (by kernel_rfl) Tryd.func24 (by kernel_rfl) (by kernel_rfl)
theorem a25 : AtF Tryd.prog kf kt (GG Tryd.prog) F.tab 25 := .src (s := T.s244_sleuthlaw0_CopyNodes) (fn := Tryd.f25) (ls := [[0, 3, 4]]) (by kernel_rfl) (by kernel_rfl) Tryd.func25 (by kernel_rfl) (by kernel_rfl)
theorem a26 : AtF Tryd.prog kf kt (GG Tryd.prog) F.tab 26 := .src (s := T.s258_equation_Text) (fn := Tryd.f26) (ls := []) (by kernel_rfl) (by kernel_rfl) Tryd.func26 (by kernel_rfl) (by kernel_rfl)
theorem a27 : AtF Tryd.prog kf kt (GG Tryd.prog) F.tab 27 := .src (s := T.s295_sleuthref12_Equation) (fn := Tryd.f27) (ls := [[1, 4, 5]]) (by kernel_rfl) (by kernel_rfl) Tryd.func27 (by kernel_rfl) (by kernel_rfl)
theorem a28 : AtF Tryd.prog kf kt (GG Tryd.prog) F.tab 28 := .src (s := T.s166_sleuthlaw0_SameNode) (fn := Tryd.f28) (ls := []) (by kernel_rfl) (by kernel_rfl) Tryd.func28 (by kernel_rfl) (by kernel_rfl)
theorem a29 : AtF Tryd.prog kf kt (GG Tryd.prog) F.tab 29 := .src (s := T.s256_sleuthlaw14_awake) (fn := Tryd.f29) (ls := []) (by kernel_rfl) (by kernel_rfl) Tryd.func29 (by kernel_rfl) (by kernel_rfl)
theorem a30 : AtF Tryd.prog kf kt (GG Tryd.prog) F.tab 30 := none_at (by kernel_rfl)
theorem a31 : AtF Tryd.prog kf kt (GG Tryd.prog) F.tab 31 := none_at (by kernel_rfl)
theorem a32 : AtF Tryd.prog kf kt (GG Tryd.prog) F.tab 32 := none_at (by kernel_rfl)
theorem a33 : AtF Tryd.prog kf kt (GG Tryd.prog) F.tab 33 := none_at (by kernel_rfl)
theorem a34 : AtF Tryd.prog kf kt (GG Tryd.prog) F.tab 34 := none_at (by kernel_rfl)
theorem a35 : AtF Tryd.prog kf kt (GG Tryd.prog) F.tab 35 := .src (s := T.s41_sleuthref1_NumMay) (fn := Tryd.f35) (ls := []) (by kernel_rfl) (by kernel_rfl) Tryd.func35 (by kernel_rfl) (by kernel_rfl)
theorem a36 : AtF Tryd.prog kf kt (GG Tryd.prog) F.tab 36 := none_at (by kernel_rfl)
theorem a37 : AtF Tryd.prog kf kt (GG Tryd.prog) F.tab 37 := none_at (by kernel_rfl)
theorem a38 : AtF Tryd.prog kf kt (GG Tryd.prog) F.tab 38 := .src (s := T.s24_term_cut) (fn := Tryd.f38) (ls := [[8, 11, 13]]) (by kernel_rfl) (by kernel_rfl) Tryd.func38 (by kernel_rfl) (by kernel_rfl)
theorem a39 : AtF Tryd.prog kf kt (GG Tryd.prog) F.tab 39 := .src (s := T.s25_sleuthref1_term) (fn := Tryd.f39) (ls := []) (by kernel_rfl) (by kernel_rfl) Tryd.func39 (by kernel_rfl) (by kernel_rfl)
theorem a40 : AtF Tryd.prog kf kt (GG Tryd.prog) F.tab 40 := .src (s := T.s26_term_All) (fn := Tryd.f40) (ls := [[5, 6, 7]]) (by kernel_rfl) (by kernel_rfl) Tryd.func40 (by kernel_rfl) (by kernel_rfl)
theorem a41 : AtF Tryd.prog kf kt (GG Tryd.prog) F.tab 41 := none_at (by kernel_rfl)
theorem a42 : AtF Tryd.prog kf kt (GG Tryd.prog) F.tab 42 := .src (s := T.s28_prim_May) (fn := Tryd.f42) (ls := []) (by kernel_rfl) (by kernel_rfl) Tryd.func42 (by kernel_rfl) (by kernel_rfl)
theorem a43 : AtF Tryd.prog kf kt (GG Tryd.prog) F.tab 43 := .whole (g := itoaG) (by kernel_rfl) (IntrOk.weaken (G := GTab Tryd.prog) (itoa_intr ⟨Tryd.f43, Tryd.func43, by kernel_rfl, by kernel_rfl⟩ fun n h0 h1 w htab => (Tryd.strconv_Itoa n h0 h1 w htab).mono (by
  rintro e w' ⟨rfl, k, os, rfl⟩
  refine ⟨rfl, ⟨rfl, rfl, rfl, ?_, fun i hi => ?_⟩⟩
  · show w.heap.size ≤ (w.heap ++ os).size
    rw [Array.size_append]; omega
  · show (w.heap ++ os)[i]? = w.heap[i]?
    rw [Array.getElem?_append_left hi])) fun B hB => hB.1)
theorem a44 : AtF Tryd.prog kf kt (GG Tryd.prog) F.tab 44 := .src (s := T.s30_sleuthref1_upTo) (fn := Tryd.f44) (ls := []) (by kernel_rfl) (by kernel_rfl) Tryd.func44 (by kernel_rfl) (by kernel_rfl)
theorem a45 : AtF Tryd.prog kf kt (GG Tryd.prog) F.tab 45 := none_at (by kernel_rfl)
theorem a46 : AtF Tryd.prog kf kt (GG Tryd.prog) F.tab 46 := none_at (by kernel_rfl)
theorem a47 : AtF Tryd.prog kf kt (GG Tryd.prog) F.tab 47 := .src (s := T.s269_trail_Equation) (fn := Tryd.f47) (ls := []) (by kernel_rfl) (by kernel_rfl) Tryd.func47 (by kernel_rfl) (by kernel_rfl)
theorem a48 : AtF Tryd.prog kf kt (GG Tryd.prog) F.tab 48 := .whole (g := joinG) (by kernel_rfl) (join_intr ⟨Tryd.f48, Tryd.func48, by kernel_rfl, by kernel_rfl⟩ (fun a c sep w => Tryd.strings_Join_none a c sep w) fun bk o c xs sep w h1 h2 h3 h4 h5 => Tryd.strings_Join bk o c xs sep w h1 h2 h3 h4 h5)
theorem a49 : AtF Tryd.prog kf kt (GG Tryd.prog) F.tab 49 := .src (s := T.s296_sleuthref12_texts) (fn := Tryd.f49) (ls := [[1, 3]]) (by kernel_rfl) (by kernel_rfl) Tryd.func49 (by kernel_rfl) (by kernel_rfl)
theorem a50 : AtF Tryd.prog kf kt (GG Tryd.prog) F.tab 50 := .src (s := T.s257_sleuthlaw14_some) (fn := Tryd.f50) (ls := []) (by kernel_rfl) (by kernel_rfl) Tryd.func50 (by kernel_rfl) (by kernel_rfl)
theorem a51 : AtF Tryd.prog kf kt (GG Tryd.prog) F.tab 51 := none_at (by kernel_rfl)
theorem a52 : AtF Tryd.prog kf kt (GG Tryd.prog) F.tab 52 := none_at (by kernel_rfl)
theorem a53 : AtF Tryd.prog kf kt (GG Tryd.prog) F.tab 53 := none_at (by kernel_rfl)
theorem a54 : AtF Tryd.prog kf kt (GG Tryd.prog) F.tab 54 := none_at (by kernel_rfl)
theorem a55 : AtF Tryd.prog kf kt (GG Tryd.prog) F.tab 55 := none_at (by kernel_rfl)
theorem a56 : AtF Tryd.prog kf kt (GG Tryd.prog) F.tab 56 := none_at (by kernel_rfl)
theorem a57 : AtF Tryd.prog kf kt (GG Tryd.prog) F.tab 57 := .src (s := T.s33_term_word) (fn := Tryd.f57) (ls := []) (by kernel_rfl) (by kernel_rfl) Tryd.func57 (by kernel_rfl) (by kernel_rfl)
theorem a58 : AtF Tryd.prog kf kt (GG Tryd.prog) F.tab 58 := .src (s := T.s34_term_Number) (fn := Tryd.f58) (ls := []) (by kernel_rfl) (by kernel_rfl) Tryd.func58 (by kernel_rfl) (by kernel_rfl)
theorem a59 : AtF Tryd.prog kf kt (GG Tryd.prog) F.tab 59 := .src (s := T.s35_term_Tag) (fn := Tryd.f59) (ls := []) (by kernel_rfl) (by kernel_rfl) Tryd.func59 (by kernel_rfl) (by kernel_rfl)
theorem a60 : AtF Tryd.prog kf kt (GG Tryd.prog) F.tab 60 := .src (s := T.s36_strings_HasPrefix) (fn := Tryd.f60) (ls := []) (by kernel_rfl) (by kernel_rfl) Tryd.func60 (by kernel_rfl) (by kernel_rfl)
theorem a61 : AtF Tryd.prog kf kt (GG Tryd.prog) F.tab 61 := .src (s := T.s37_strings_CutPrefix) (fn := Tryd.f61) (ls := []) (by kernel_rfl) (by kernel_rfl) Tryd.func61 (by kernel_rfl) (by kernel_rfl)
theorem a62 : AtF Tryd.prog kf kt (GG Tryd.prog) F.tab 62 := .src (s := T.s38_sleuthref1_bad) (fn := Tryd.f62) (ls := []) (by kernel_rfl) (by kernel_rfl) Tryd.func62 (by kernel_rfl) (by kernel_rfl)
theorem a63 : AtF Tryd.prog kf kt (GG Tryd.prog) F.tab 63 := .src (s := T.s39_sleuthref1_digits) (fn := Tryd.f63) (ls := [[0, 4, 5]]) (by kernel_rfl) (by kernel_rfl) Tryd.func63 (by kernel_rfl) (by kernel_rfl)
theorem a64 : AtF Tryd.prog kf kt (GG Tryd.prog) F.tab 64 := .src (s := T.s40_sleuthref1_parts) (fn := Tryd.f64) (ls := [[0, 2, 4, 6]]) (by kernel_rfl) (by kernel_rfl) Tryd.func64 (by kernel_rfl) (by kernel_rfl)
theorem a65 : AtF Tryd.prog kf kt (GG Tryd.prog) F.tab 65 := none_at (by kernel_rfl)
theorem a66 : AtF Tryd.prog kf kt (GG Tryd.prog) F.tab 66 := none_at (by kernel_rfl)
theorem a67 : AtF Tryd.prog kf kt (GG Tryd.prog) F.tab 67 := none_at (by kernel_rfl)
theorem a68 : AtF Tryd.prog kf kt (GG Tryd.prog) F.tab 68 := none_at (by kernel_rfl)
theorem a69 : AtF Tryd.prog kf kt (GG Tryd.prog) F.tab 69 := .src (s := T.s297_sleuthref12_upTo) (fn := Tryd.f69) (ls := []) (by kernel_rfl) (by kernel_rfl) Tryd.func69 (by kernel_rfl) (by kernel_rfl)
theorem a70 : AtF Tryd.prog kf kt (GG Tryd.prog) F.tab 70 := none_at (by kernel_rfl)
theorem a71 : AtF Tryd.prog kf kt (GG Tryd.prog) F.tab 71 := none_at (by kernel_rfl)
theorem a72 : AtF Tryd.prog kf kt (GG Tryd.prog) F.tab 72 := none_at (by kernel_rfl)
theorem a73 : AtF Tryd.prog kf kt (GG Tryd.prog) F.tab 73 := none_at (by kernel_rfl)
theorem a74 : AtF Tryd.prog kf kt (GG Tryd.prog) F.tab 74 := none_at (by kernel_rfl)
theorem a75 : AtF Tryd.prog kf kt (GG Tryd.prog) F.tab 75 := none_at (by kernel_rfl)
theorem a76 : AtF Tryd.prog kf kt (GG Tryd.prog) F.tab 76 := .whole (g := idxAny2G) (by kernel_rfl) (idxAny2_intr ⟨Tryd.f76, Tryd.func76, by kernel_rfl, by kernel_rfl⟩ fun s w hs => by
  rcases Nat.lt_or_ge 8 s.size with h8 | h8
  · refine (Tryd.strings_IndexAny_long (zero_of_info (t := 121) (n := 256) (by kernel_rfl)).1 s ⟨#[32, 40, 41]⟩ w (by decide) h8 hs (by decide) ?_).mono ?_
    · intro j b hb
      rcases j with _ | _ | _ | j
      · cases hb; decide
      · cases hb; decide
      · cases hb; decide
      · cases hb
    · rintro e w' ⟨rfl, rfl⟩
      exact ⟨rfl, below_two _ _ _⟩
  · exact idxAny_shortU Tryd.lays153 s w h8)
theorem a77 : AtF Tryd.prog kf kt (GG Tryd.prog) F.tab 77 := .whole (g := atoiG) (by kernel_rfl) (atoi_intr ⟨Tryd.f77, Tryd.func77, by kernel_rfl, by kernel_rfl⟩
  (fun B hB w ht => by
    obtain ⟨_, h1, h2⟩ := hB
    obtain ⟨cs, h3, tp, p, rfl⟩ := h1.at_ ht
    obtain ⟨cs', h4, tp', p', rfl⟩ := h2.at_ ht
    exact ⟨⟨tp, p, h3⟩, tp', p', h4⟩)
  (fun s h1 v h2 w => (Tryd.strconv_Atoi_ok s h1 v h2 w).mono (by
    rintro e w' ⟨rfl, h | ⟨t, h⟩⟩
    · subst h; exact ⟨rfl, Below.refl _ _⟩
    · subst h; exact ⟨rfl, below_bytesWorld w 5 t⟩))
  (fun s h1 h2 h2' tp p w h3 => (Tryd.strconv_Atoi_syntax_var s h1 h2 h2' tp p w h3).mono (by
    rintro e w' ⟨N, rfl, _, _, hb⟩
    exact ⟨⟨_, _, rfl⟩, hb⟩))
  fun s h1 h2 tp p w h3 => (Tryd.strconv_Atoi_range_var s h1 h2 tp p w h3).mono (by
    rintro e w' ⟨N, rfl, _, _, hb⟩
    exact ⟨⟨_, _, rfl⟩, hb⟩))
theorem a78 : AtF Tryd.prog kf kt (GG Tryd.prog) F.tab 78 := .src (s := T.s46_term_Digits) (fn := Tryd.f78) (ls := []) (by kernel_rfl) (by kernel_rfl) Tryd.func78 (by kernel_rfl) (by kernel_rfl)
theorem a79 : AtF Tryd.prog kf kt (GG Tryd.prog) F.tab 79 := .src (s := T.s47_internal_stringslite_HasPrefix) (fn := Tryd.f79) (ls := []) (by kernel_rfl) (by kernel_rfl) Tryd.func79 (by kernel_rfl) (by kernel_rfl)
theorem a80 : AtF Tryd.prog kf kt (GG Tryd.prog) F.tab 80 := .src (s := T.s48_internal_stringslite_CutPrefix) (fn := Tryd.f80) (ls := []) (by kernel_rfl) (by kernel_rfl) Tryd.func80 (by kernel_rfl) (by kernel_rfl)
theorem a81 : AtF Tryd.prog kf kt (GG Tryd.prog) F.tab 81 := none_at (by kernel_rfl)
theorem a82 : AtF Tryd.prog kf kt (GG Tryd.prog) F.tab 82 := none_at (by kernel_rfl)
theorem a83 : AtF Tryd.prog kf kt (GG Tryd.prog) F.tab 83 := none_at (by kernel_rfl)
theorem a84 : AtF Tryd.prog kf kt (GG Tryd.prog) F.tab 84 := none_at (by kernel_rfl)
theorem a85 : AtF Tryd.prog kf kt (GG Tryd.prog) F.tab 85 := none_at (by kernel_rfl)
theorem a86 : AtF Tryd.prog kf kt (GG Tryd.prog) F.tab 86 := none_at (by kernel_rfl)
theorem a87 : AtF Tryd.prog kf kt (GG Tryd.prog) F.tab 87 := none_at (by kernel_rfl)
theorem a88 : AtF Tryd.prog kf kt (GG Tryd.prog) F.tab 88 := none_at (by kernel_rfl)
theorem a89 : AtF Tryd.prog kf kt (GG Tryd.prog) F.tab 89 := none_at (by kernel_rfl)
theorem a90 : AtF Tryd.prog kf kt (GG Tryd.prog) F.tab 90 := none_at (by kernel_rfl)
theorem a91 : AtF Tryd.prog kf kt (GG Tryd.prog) F.tab 91 := none_at (by kernel_rfl)
theorem a92 : AtF Tryd.prog kf kt (GG Tryd.prog) F.tab 92 := none_at (by kernel_rfl)
theorem a93 : AtF Tryd.prog kf kt (GG Tryd.prog) F.tab 93 := none_at (by kernel_rfl)
theorem a94 : AtF Tryd.prog kf kt (GG Tryd.prog) F.tab 94 := none_at (by kernel_rfl)
theorem a95 : AtF Tryd.prog kf kt (GG Tryd.prog) F.tab 95 := none_at (by kernel_rfl)
theorem a96 : AtF Tryd.prog kf kt (GG Tryd.prog) F.tab 96 := none_at (by kernel_rfl)
theorem a97 : AtF Tryd.prog kf kt (GG Tryd.prog) F.tab 97 := none_at (by kernel_rfl)
theorem a98 : AtF Tryd.prog kf kt (GG Tryd.prog) F.tab 98 := none_at (by kernel_rfl)
theorem a99 : AtF Tryd.prog kf kt (GG Tryd.prog) F.tab 99 := none_at (by kernel_rfl)
theorem a100 : AtF Tryd.prog kf kt (GG Tryd.prog) F.tab 100 := none_at (by kernel_rfl)
theorem a101 : AtF Tryd.prog kf kt (GG Tryd.prog) F.tab 101 := none_at (by kernel_rfl)
theorem a102 : AtF Tryd.prog kf kt (GG Tryd.prog) F.tab 102 := none_at (by kernel_rfl)
theorem a103 : AtF Tryd.prog kf kt (GG Tryd.prog) F.tab 103 := none_at (by kernel_rfl)
theorem a104 : AtF Tryd.prog kf kt (GG Tryd.prog) F.tab 104 := none_at (by kernel_rfl)
theorem a105 : AtF Tryd.prog kf kt (GG Tryd.prog) F.tab 105 := none_at (by kernel_rfl)
theorem a106 : AtF Tryd.prog kf kt (GG Tryd.prog) F.tab 106 := none_at (by kernel_rfl)
theorem a107 : AtF Tryd.prog kf kt (GG Tryd.prog) F.tab 107 := none_at (by kernel_rfl)
theorem a108 : AtF Tryd.prog kf kt (GG Tryd.prog) F.tab 108 := none_at (by kernel_rfl)
theorem a109 : AtF Tryd.prog kf kt (GG Tryd.prog) F.tab 109 := none_at (by kernel_rfl)
theorem a110 : AtF Tryd.prog kf kt (GG Tryd.prog) F.tab 110 := none_at (by kernel_rfl)
theorem a111 : AtF Tryd.prog kf kt (GG Tryd.prog) F.tab 111 := none_at (by kernel_rfl)
theorem a112 : AtF Tryd.prog kf kt (GG Tryd.prog) F.tab 112 := none_at (by kernel_rfl)
theorem a113 : AtF Tryd.prog kf kt (GG Tryd.prog) F.tab 113 := none_at (by kernel_rfl)
theorem a114 : AtF Tryd.prog kf kt (GG Tryd.prog) F.tab 114 := none_at (by kernel_rfl)
theorem a115 : AtF Tryd.prog kf kt (GG Tryd.prog) F.tab 115 := none_at (by kernel_rfl)
theorem a116 : AtF Tryd.prog kf kt (GG Tryd.prog) F.tab 116 := none_at (by kernel_rfl)
theorem a117 : AtF Tryd.prog kf kt (GG Tryd.prog) F.tab 117 := none_at (by kernel_rfl)
theorem a118 : AtF Tryd.prog kf kt (GG Tryd.prog) F.tab 118 := none_at (by kernel_rfl)
theorem a119 : AtF Tryd.prog kf kt (GG Tryd.prog) F.tab 119 := none_at (by kernel_rfl)
theorem a120 : AtF Tryd.prog kf kt (GG Tryd.prog) F.tab 120 := none_at (by kernel_rfl)
theorem a121 : AtF Tryd.prog kf kt (GG Tryd.prog) F.tab 121 := none_at (by kernel_rfl)
theorem a122 : AtF Tryd.prog kf kt (GG Tryd.prog) F.tab 122 := none_at (by kernel_rfl)
theorem a123 : AtF Tryd.prog kf kt (GG Tryd.prog) F.tab 123 := none_at (by kernel_rfl)
theorem a124 : AtF Tryd.prog kf kt (GG Tryd.prog) F.tab 124 := none_at (by kernel_rfl)
theorem a125 : AtF Tryd.prog kf kt (GG Tryd.prog) F.tab 125 := none_at (by kernel_rfl)
theorem a126 : AtF Tryd.prog kf kt (GG Tryd.prog) F.tab 126 := none_at (by kernel_rfl)
theorem a127 : AtF Tryd.prog kf kt (GG Tryd.prog) F.tab 127 := none_at (by kernel_rfl)
theorem a128 : AtF Tryd.prog kf kt (GG Tryd.prog) F.tab 128 := none_at (by kernel_rfl)
theorem a129 : AtF Tryd.prog kf kt (GG Tryd.prog) F.tab 129 := none_at (by kernel_rfl)
theorem a130 : AtF Tryd.prog kf kt (GG Tryd.prog) F.tab 130 := none_at (by kernel_rfl)
theorem a131 : AtF Tryd.prog kf kt (GG Tryd.prog) F.tab 131 := none_at (by kernel_rfl)
theorem a132 : AtF Tryd.prog kf kt (GG Tryd.prog) F.tab 132 := none_at (by kernel_rfl)
theorem a133 : AtF Tryd.prog kf kt (GG Tryd.prog) F.tab 133 := none_at (by kernel_rfl)
theorem a134 : AtF Tryd.prog kf kt (GG Tryd.prog) F.tab 134 := none_at (by kernel_rfl)
theorem a135 : AtF Tryd.prog kf kt (GG Tryd.prog) F.tab 135 := none_at (by kernel_rfl)
theorem a136 : AtF Tryd.prog kf kt (GG Tryd.prog) F.tab 136 := none_at (by kernel_rfl)
theorem a137 : AtF Tryd.prog kf kt (GG Tryd.prog) F.tab 137 := none_at (by kernel_rfl)
theorem a138 : AtF Tryd.prog kf kt (GG Tryd.prog) F.tab 138 := none_at (by kernel_rfl)
theorem a139 : AtF Tryd.prog kf kt (GG Tryd.prog) F.tab 139 := none_at (by kernel_rfl)
theorem a140 : AtF Tryd.prog kf kt (GG Tryd.prog) F.tab 140 := none_at (by kernel_rfl)
theorem a141 : AtF Tryd.prog kf kt (GG Tryd.prog) F.tab 141 := none_at (by kernel_rfl)
theorem a142 : AtF Tryd.prog kf kt (GG Tryd.prog) F.tab 142 := none_at (by kernel_rfl)
theorem a143 : AtF Tryd.prog kf kt (GG Tryd.prog) F.tab 143 := none_at (by kernel_rfl)
theorem a144 : AtF Tryd.prog kf kt (GG Tryd.prog) F.tab 144 := none_at (by kernel_rfl)
theorem a145 : AtF Tryd.prog kf kt (GG Tryd.prog) F.tab 145 := none_at (by kernel_rfl)
theorem a146 : AtF Tryd.prog kf kt (GG Tryd.prog) F.tab 146 := none_at (by kernel_rfl)
theorem a147 : AtF Tryd.prog kf kt (GG Tryd.prog) F.tab 147 := none_at (by kernel_rfl)
theorem a148 : AtF Tryd.prog kf kt (GG Tryd.prog) F.tab 148 := none_at (by kernel_rfl)
theorem a149 : AtF Tryd.prog kf kt (GG Tryd.prog) F.tab 149 := none_at (by kernel_rfl)
theorem a150 : AtF Tryd.prog kf kt (GG Tryd.prog) F.tab 150 := none_at (by kernel_rfl)
theorem a151 : AtF Tryd.prog kf kt (GG Tryd.prog) F.tab 151 := none_at (by kernel_rfl)
theorem a152 : AtF Tryd.prog kf kt (GG Tryd.prog) F.tab 152 := none_at (by kernel_rfl)
theorem alls : AllN (AtF Tryd.prog kf kt (GG Tryd.prog) F.tab) 153 := ⟨⟨⟨⟨⟨⟨⟨⟨⟨⟨⟨⟨⟨⟨⟨⟨⟨⟨⟨⟨⟨⟨⟨⟨⟨⟨⟨⟨⟨⟨⟨⟨⟨⟨⟨⟨⟨⟨⟨⟨⟨⟨⟨⟨⟨⟨⟨⟨⟨⟨⟨⟨⟨⟨⟨⟨⟨⟨⟨⟨⟨⟨⟨⟨⟨⟨⟨⟨⟨⟨⟨⟨⟨⟨⟨⟨⟨⟨⟨⟨⟨⟨⟨⟨⟨⟨⟨⟨⟨⟨⟨⟨⟨⟨⟨⟨⟨⟨⟨⟨⟨⟨⟨⟨⟨⟨⟨⟨⟨⟨⟨⟨⟨⟨⟨⟨⟨⟨⟨⟨⟨⟨⟨⟨⟨⟨⟨⟨⟨⟨⟨⟨⟨⟨⟨⟨⟨⟨⟨⟨⟨⟨⟨⟨⟨⟨⟨⟨⟨⟨⟨⟨⟨trivial, a0⟩, a1⟩, a2⟩, a3⟩, a4⟩, a5⟩, a6⟩, a7⟩, a8⟩, a9⟩, a10⟩, a11⟩, a12⟩, a13⟩, a14⟩, a15⟩, a16⟩, a17⟩, a18⟩, a19⟩, a20⟩, a21⟩, a22⟩, a23⟩, a24⟩, a25⟩, a26⟩, a27⟩, a28⟩, a29⟩, a30⟩, a31⟩, a32⟩, a33⟩, a34⟩, a35⟩, a36⟩, a37⟩, a38⟩, a39⟩, a40⟩, a41⟩, a42⟩, a43⟩, a44⟩, a45⟩, a46⟩, a47⟩, a48⟩, a49⟩, a50⟩, a51⟩, a52⟩, a53⟩, a54⟩, a55⟩, a56⟩, a57⟩, a58⟩, a59⟩, a60⟩, a61⟩, a62⟩, a63⟩, a64⟩, a65⟩, a66⟩, a67⟩, a68⟩, a69⟩, a70⟩, a71⟩, a72⟩, a73⟩, a74⟩, a75⟩, a76⟩, a77⟩, a78⟩, a79⟩, a80⟩, a81⟩, a82⟩, a83⟩, a84⟩, a85⟩, a86⟩, a87⟩, a88⟩, a89⟩, a90⟩, a91⟩, a92⟩, a93⟩, a94⟩, a95⟩, a96⟩, a97⟩, a98⟩, a99⟩, a100⟩, a101⟩, a102⟩, a103⟩, a104⟩, a105⟩, a106⟩, a107⟩, a108⟩, a109⟩, a110⟩, a111⟩, a112⟩, a113⟩, a114⟩, a115⟩, a116⟩, a117⟩, a118⟩, a119⟩, a120⟩, a121⟩, a122⟩, a123⟩, a124⟩, a125⟩, a126⟩, a127⟩, a128⟩, a129⟩, a130⟩, a131⟩, a132⟩, a133⟩, a134⟩, a135⟩, a136⟩, a137⟩, a138⟩, a139⟩, a140⟩, a141⟩, a142⟩, a143⟩, a144⟩, a145⟩, a146⟩, a147⟩, a148⟩, a149⟩, a150⟩, a151⟩, a152⟩
theorem kf_out (f : Nat) (h : 153 ≤ f) : F.tab.T (kf f) = none := by
  have : kf f = 0 := by
    unfold kf
    rw [List.getD_eq_getElem?_getD, List.getElem?_eq_none (by show keys.length ≤ f; exact h)]
    rfl
  rw [this]; exact F.tab_0
theorem link : Link Tryd.prog kf kt (GG Tryd.prog) fun k => (F.tab.T k).map SFn.fl := link_of alls kf_out
theorem oks : ∀ k f, F.tab.T k = some f → f.ok = true := F.ETree.ok_of F.tab_ok
end Am.L
