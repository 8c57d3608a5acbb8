/- The table. -/
import Derived.Test.YtepnfifgbkmnoaaDoorAmZc2W0
import Derived.Test.YtepnfifgbkmnoaaDoorAmShelf2
namespace Am.F
open Go Am
noncomputable def e5 : Ent := ⟨5, T.s5_sleuthlaw2_TermForms, fun _ _ N call a h k => f5_sleuthlaw2_TermForms N call a h k, fun _ I N call a h k => e5_sleuthlaw2_TermForms I N call a h k⟩
noncomputable def e6 : Ent := ⟨6, T.s6_sleuthlaw2_TermMakes, fun _ _ N call a h k => f6_sleuthlaw2_TermMakes N call a h k, fun _ I N call a h k => e6_sleuthlaw2_TermMakes I N call a h k⟩
noncomputable def e7 : Ent := ⟨7, T.s7_sleuthlaw2_TermLong, fun _ _ N call a h k => f7_sleuthlaw2_TermLong N call a h k, fun _ I N call a h k => e7_sleuthlaw2_TermLong I N call a h k⟩
noncomputable def e11 : Ent := ⟨11, T.s11_term_Cut, fun _ _ N call a h k => f11_term_Cut N call a h k, fun _ I N call a h k => e11_term_Cut I N call a h k⟩
noncomputable def e12 : Ent := ⟨12, T.s12_sleuthref1_Cut, fun _ _ N call a h k => f12_sleuthref1_Cut N call a h k, fun _ I N call a h k => e12_sleuthref1_Cut I N call a h k⟩
noncomputable def e13 : Ent := ⟨13, T.s13_term_Make, fun _ _ N call a h k => f13_term_Make N call a h k, fun _ I N call a h k => e13_term_Make I N call a h k⟩
noncomputable def e15 : Ent := ⟨15, T.s15_sleuthlaw0_SameTexts, fun _ _ N call a h k => f15_sleuthlaw0_SameTexts N call a h k, fun _ I N call a h k => e15_sleuthlaw0_SameTexts I N call a h k⟩
noncomputable def e16 : Ent := ⟨16, T.s16_sleuthlaw0_Num, fun _ _ N call a h k => f16_sleuthlaw0_Num N call a h k, fun _ I N call a h k => e16_sleuthlaw0_Num I N call a h k⟩
noncomputable def e17 : Ent := ⟨17, T.s17_term_May, fun _ _ N call a h k => f17_term_May N call a h k, fun _ I N call a h k => e17_term_May I N call a h k⟩
noncomputable def e18 : Ent := ⟨18, T.s18_sleuthref1_TermMay, fun _ _ N call a h k => f18_sleuthref1_TermMay N call a h k, fun _ I N call a h k => e18_sleuthref1_TermMay I N call a h k⟩
noncomputable def e21 : Ent := ⟨21, T.s21_sleuthlaw2_awake, fun _ _ N call a h k => f21_sleuthlaw2_awake N call a h k, fun _ I N call a h k => e21_sleuthlaw2_awake I N call a h k⟩
noncomputable def e24 : Ent := ⟨24, T.s24_term_cut, fun _ _ N call a h k => f24_term_cut N call a h k, fun _ I N call a h k => e24_term_cut I N call a h k⟩
noncomputable def e25 : Ent := ⟨25, T.s25_sleuthref1_term, fun _ _ N call a h k => f25_sleuthref1_term N call a h k, fun _ I N call a h k => e25_sleuthref1_term I N call a h k⟩
noncomputable def e26 : Ent := ⟨26, T.s26_term_All, fun _ _ N call a h k => f26_term_All N call a h k, fun _ I N call a h k => e26_term_All I N call a h k⟩
noncomputable def e27 : Ent := ⟨27, T.s27_term_Con, fun _ _ N call a h k => f27_term_Con N call a h k, fun _ I N call a h k => e27_term_Con I N call a h k⟩
noncomputable def e28 : Ent := ⟨28, T.s28_prim_May, fun _ _ N call a h k => f28_prim_May N call a h k, fun _ I N call a h k => e28_prim_May I N call a h k⟩
noncomputable def e29 : Ent := ⟨29, .intr itoaG, fun _ I _ _ a h k => fInt I 29 a h k, fun _ _ _ _ _ _ _ => rfl⟩
noncomputable def e30 : Ent := ⟨30, T.s30_sleuthref1_upTo, fun _ _ N call a h k => f30_sleuthref1_upTo N call a h k, fun _ I N call a h k => e30_sleuthref1_upTo I N call a h k⟩
noncomputable def e33 : Ent := ⟨33, T.s33_term_word, fun _ _ N call a h k => f33_term_word N call a h k, fun _ I N call a h k => e33_term_word I N call a h k⟩
noncomputable def e34 : Ent := ⟨34, T.s34_term_Number, fun _ _ N call a h k => f34_term_Number N call a h k, fun _ I N call a h k => e34_term_Number I N call a h k⟩
noncomputable def e35 : Ent := ⟨35, T.s35_term_Tag, fun _ _ N call a h k => f35_term_Tag N call a h k, fun _ I N call a h k => e35_term_Tag I N call a h k⟩
noncomputable def e36 : Ent := ⟨36, T.s36_strings_HasPrefix, fun _ _ N call a h k => f36_strings_HasPrefix N call a h k, fun _ I N call a h k => e36_strings_HasPrefix I N call a h k⟩
noncomputable def e37 : Ent := ⟨37, T.s37_strings_CutPrefix, fun _ _ N call a h k => f37_strings_CutPrefix N call a h k, fun _ I N call a h k => e37_strings_CutPrefix I N call a h k⟩
noncomputable def e38 : Ent := ⟨38, T.s38_sleuthref1_bad, fun _ _ N call a h k => f38_sleuthref1_bad N call a h k, fun _ I N call a h k => e38_sleuthref1_bad I N call a h k⟩
noncomputable def e39 : Ent := ⟨39, T.s39_sleuthref1_digits, fun _ _ N call a h k => f39_sleuthref1_digits N call a h k, fun _ I N call a h k => e39_sleuthref1_digits I N call a h k⟩
noncomputable def e40 : Ent := ⟨40, T.s40_sleuthref1_parts, fun _ _ N call a h k => f40_sleuthref1_parts N call a h k, fun _ I N call a h k => e40_sleuthref1_parts I N call a h k⟩
noncomputable def e41 : Ent := ⟨41, T.s41_sleuthref1_NumMay, fun _ _ N call a h k => f41_sleuthref1_NumMay N call a h k, fun _ I N call a h k => e41_sleuthref1_NumMay I N call a h k⟩
noncomputable def e42 : Ent := ⟨42, .intr joinG, fun _ I _ _ a h k => fInt I 42 a h k, fun _ _ _ _ _ _ _ => rfl⟩
noncomputable def e44 : Ent := ⟨44, .intr idxAnyG, fun _ I _ _ a h k => fInt I 44 a h k, fun _ _ _ _ _ _ _ => rfl⟩
noncomputable def e45 : Ent := ⟨45, .intr atoiG, fun _ I _ _ a h k => fInt I 45 a h k, fun _ _ _ _ _ _ _ => rfl⟩
noncomputable def e46 : Ent := ⟨46, T.s46_term_Digits, fun _ _ N call a h k => f46_term_Digits N call a h k, fun _ I N call a h k => e46_term_Digits I N call a h k⟩
noncomputable def e47 : Ent := ⟨47, T.s47_internal_stringslite_HasPrefix, fun _ _ N call a h k => f47_internal_stringslite_HasPrefix N call a h k, fun _ I N call a h k => e47_internal_stringslite_HasPrefix I N call a h k⟩
noncomputable def e48 : Ent := ⟨48, T.s48_internal_stringslite_CutPrefix, fun _ _ N call a h k => f48_internal_stringslite_CutPrefix N call a h k, fun _ I N call a h k => e48_internal_stringslite_CutPrefix I N call a h k⟩
noncomputable def tab : ETree := (.node e29 (.node e17 (.node e12 (.node e7 (.node e6 (.node e5 .leaf .leaf) .leaf) (.node e11 .leaf .leaf)) (.node e15 (.node e13 .leaf .leaf) (.node e16 .leaf .leaf))) (.node e25 (.node e21 (.node e18 .leaf .leaf) (.node e24 .leaf .leaf)) (.node e27 (.node e26 .leaf .leaf) (.node e28 .leaf .leaf)))) (.node e40 (.node e36 (.node e34 (.node e33 (.node e30 .leaf .leaf) .leaf) (.node e35 .leaf .leaf)) (.node e38 (.node e37 .leaf .leaf) (.node e39 .leaf .leaf))) (.node e45 (.node e42 (.node e41 .leaf .leaf) (.node e44 .leaf .leaf)) (.node e47 (.node e46 .leaf .leaf) (.node e48 .leaf .leaf)))))
noncomputable def stdI : FI := fun g args h => (cond (Nat.beq g 45) (atoiI args h) (cond (Nat.beq g 44) (idxAnyI args h) (cond (Nat.beq g 42) (joinI args h) (cond (Nat.beq g 29) (itoaI args h) none))))
theorem stdI_29 (args : List AV) (h : H) : stdI 29 args h = itoaI args h := rfl
theorem stdI_42 (args : List AV) (h : H) : stdI 42 args h = joinI args h := rfl
theorem stdI_44 (args : List AV) (h : H) : stdI 44 args h = idxAnyI args h := rfl
theorem stdI_45 (args : List AV) (h : H) : stdI 45 args h = atoiI args h := rfl
theorem tab_0 : tab.T 0 = none := by kernel_rfl
theorem tab_ok : tab.okB = true := by kernel_rfl
theorem tab_among : tab.among [29, 42, 44, 45] = true := by kernel_rfl
theorem iok : IOk tab.T stdI := by
  refine iok_of tab_among ?_
  intro k hk
  simp only [List.mem_cons, List.not_mem_nil, or_false] at hk
  rcases hk with rfl | rfl | rfl | rfl
  · exact ⟨itoaG, by kernel_rfl, fun args h v h' S hi ha => by rw [stdI_29] at hi; exact itoaI_ok hi ha⟩
  · exact ⟨joinG, by kernel_rfl, fun args h v h' S hi ha => by rw [stdI_42] at hi; exact joinI_ok hi ha⟩
  · exact ⟨idxAnyG, by kernel_rfl, fun args h v h' S hi ha => by rw [stdI_44] at hi; exact idxAnyI_ok hi ha⟩
  · exact ⟨atoiG, by kernel_rfl, fun args h v h' S hi ha => by rw [stdI_45] at hi; exact atoiI_ok hi ha⟩
end Am.F
