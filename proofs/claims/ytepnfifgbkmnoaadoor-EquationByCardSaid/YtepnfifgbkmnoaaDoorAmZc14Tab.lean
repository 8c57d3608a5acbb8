/- The table. -/
import Derived.Test.YtepnfifgbkmnoaaDoorAmZc14W0
import Derived.Test.YtepnfifgbkmnoaaDoorAmShelf2
namespace Am.F
open Go Am
noncomputable def e16 : Ent := ⟨16, T.s16_sleuthlaw0_Num, fun _ _ N call a h k => f16_sleuthlaw0_Num N call a h k, fun _ I N call a h k => e16_sleuthlaw0_Num I N call a h k⟩
noncomputable def e17 : Ent := ⟨17, T.s17_term_May, fun _ _ N call a h k => f17_term_May N call a h k, fun _ I N call a h k => e17_term_May I N call a h k⟩
noncomputable def e22 : Ent := ⟨22, T.s22_sleuthref0_Decimal, fun _ _ N call a h k => f22_sleuthref0_Decimal N call a h k, fun _ I N call a h k => e22_sleuthref0_Decimal I N call a h k⟩
noncomputable def e24 : Ent := ⟨24, T.s24_term_cut, fun _ _ N call a h k => f24_term_cut N call a h k, fun _ I N call a h k => e24_term_cut I N call a h k⟩
noncomputable def e26 : Ent := ⟨26, T.s26_term_All, fun _ _ N call a h k => f26_term_All N call a h k, fun _ I N call a h k => e26_term_All I N call a h k⟩
noncomputable def e28 : Ent := ⟨28, T.s28_prim_May, fun _ _ N call a h k => f28_prim_May N call a h k, fun _ I N call a h k => e28_prim_May I N call a h k⟩
noncomputable def e29 : Ent := ⟨29, .intr itoaG, fun _ I _ _ a h k => fInt I 29 a h k, fun _ _ _ _ _ _ _ => rfl⟩
noncomputable def e33 : Ent := ⟨33, T.s33_term_word, fun _ _ N call a h k => f33_term_word N call a h k, fun _ I N call a h k => e33_term_word I N call a h k⟩
noncomputable def e34 : Ent := ⟨34, T.s34_term_Number, fun _ _ N call a h k => f34_term_Number N call a h k, fun _ I N call a h k => e34_term_Number I N call a h k⟩
noncomputable def e35 : Ent := ⟨35, T.s35_term_Tag, fun _ _ N call a h k => f35_term_Tag N call a h k, fun _ I N call a h k => e35_term_Tag I N call a h k⟩
noncomputable def e36 : Ent := ⟨36, T.s36_strings_HasPrefix, fun _ _ N call a h k => f36_strings_HasPrefix N call a h k, fun _ I N call a h k => e36_strings_HasPrefix I N call a h k⟩
noncomputable def e37 : Ent := ⟨37, T.s37_strings_CutPrefix, fun _ _ N call a h k => f37_strings_CutPrefix N call a h k, fun _ I N call a h k => e37_strings_CutPrefix I N call a h k⟩
noncomputable def e42 : Ent := ⟨42, .intr joinG, fun _ I _ _ a h k => fInt I 42 a h k, fun _ _ _ _ _ _ _ => rfl⟩
noncomputable def e44 : Ent := ⟨44, .intr idxAnyG, fun _ I _ _ a h k => fInt I 44 a h k, fun _ _ _ _ _ _ _ => rfl⟩
noncomputable def e45 : Ent := ⟨45, .intr atoiG, fun _ I _ _ a h k => fInt I 45 a h k, fun _ _ _ _ _ _ _ => rfl⟩
noncomputable def e46 : Ent := ⟨46, T.s46_term_Digits, fun _ _ N call a h k => f46_term_Digits N call a h k, fun _ I N call a h k => e46_term_Digits I N call a h k⟩
noncomputable def e47 : Ent := ⟨47, T.s47_internal_stringslite_HasPrefix, fun _ _ N call a h k => f47_internal_stringslite_HasPrefix N call a h k, fun _ I N call a h k => e47_internal_stringslite_HasPrefix I N call a h k⟩
noncomputable def e48 : Ent := ⟨48, T.s48_internal_stringslite_CutPrefix, fun _ _ N call a h k => f48_internal_stringslite_CutPrefix N call a h k, fun _ I N call a h k => e48_internal_stringslite_CutPrefix I N call a h k⟩
noncomputable def e248 : Ent := ⟨248, T.s248_sleuthlaw14_EquationForms, fun _ _ N call a h k => f248_sleuthlaw14_EquationForms N call a h k, fun _ I N call a h k => e248_sleuthlaw14_EquationForms I N call a h k⟩
noncomputable def e249 : Ent := ⟨249, T.s249_sleuthlaw14_EquationBy, fun _ _ N call a h k => f249_sleuthlaw14_EquationBy N call a h k, fun _ I N call a h k => e249_sleuthlaw14_EquationBy I N call a h k⟩
noncomputable def e256 : Ent := ⟨256, T.s256_sleuthlaw14_awake, fun _ _ N call a h k => f256_sleuthlaw14_awake N call a h k, fun _ I N call a h k => e256_sleuthlaw14_awake I N call a h k⟩
noncomputable def e257 : Ent := ⟨257, T.s257_sleuthlaw14_some, fun _ _ N call a h k => f257_sleuthlaw14_some N call a h k, fun _ I N call a h k => e257_sleuthlaw14_some I N call a h k⟩
noncomputable def e258 : Ent := ⟨258, T.s258_equation_Text, fun _ _ N call a h k => f258_equation_Text N call a h k, fun _ I N call a h k => e258_equation_Text I N call a h k⟩
noncomputable def e269 : Ent := ⟨269, T.s269_trail_Equation, fun _ _ N call a h k => f269_trail_Equation N call a h k, fun _ I N call a h k => e269_trail_Equation I N call a h k⟩
noncomputable def tab : ETree := (.node e42 (.node e29 (.node e24 (.node e17 (.node e16 .leaf .leaf) (.node e22 .leaf .leaf)) (.node e28 (.node e26 .leaf .leaf) .leaf)) (.node e35 (.node e34 (.node e33 .leaf .leaf) .leaf) (.node e37 (.node e36 .leaf .leaf) .leaf))) (.node e248 (.node e46 (.node e45 (.node e44 .leaf .leaf) .leaf) (.node e48 (.node e47 .leaf .leaf) .leaf)) (.node e257 (.node e256 (.node e249 .leaf .leaf) .leaf) (.node e269 (.node e258 .leaf .leaf) .leaf))))
noncomputable def stdI : FI := fun g args h => (cond (Nat.beq g 45) (atoiI args h) (cond (Nat.beq g 44) (idxAnyI args h) (cond (Nat.beq g 42) (joinI args h) (cond (Nat.beq g 29) (itoaI args h) none))))
theorem stdI_29 (args : List AV) (h : H) : stdI 29 args h = itoaI args h := rfl
theorem stdI_42 (args : List AV) (h : H) : stdI 42 args h = joinI args h := rfl
theorem stdI_44 (args : List AV) (h : H) : stdI 44 args h = idxAnyI args h := rfl
theorem stdI_45 (args : List AV) (h : H) : stdI 45 args h = atoiI args h := rfl
theorem tab_0 : tab.T 0 = none := by kernel_rfl
theorem tab_ok : tab.okB = true := by kernel_rfl
theorem tab_among : tab.among [29, 42, 44, 45] = true := by kernel_rfl
theorem iok : IOk tab.T stdI := by
  refine iok_of tab_among ?_
  intro k hk
  simp only [List.mem_cons, List.not_mem_nil, or_false] at hk
  rcases hk with rfl | rfl | rfl | rfl
  · exact ⟨itoaG, by kernel_rfl, fun args h v h' S hi ha => by rw [stdI_29] at hi; exact itoaI_ok hi ha⟩
  · exact ⟨joinG, by kernel_rfl, fun args h v h' S hi ha => by rw [stdI_42] at hi; exact joinI_ok hi ha⟩
  · exact ⟨idxAnyG, by kernel_rfl, fun args h v h' S hi ha => by rw [stdI_44] at hi; exact idxAnyI_ok hi ha⟩
  · exact ⟨atoiG, by kernel_rfl, fun args h v h' S hi ha => by rw [stdI_45] at hi; exact atoiI_ok hi ha⟩
end Am.F
