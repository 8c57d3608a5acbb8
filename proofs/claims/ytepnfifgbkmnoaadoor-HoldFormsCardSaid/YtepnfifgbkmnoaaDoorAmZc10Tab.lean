/- The table. -/
import Derived.Test.YtepnfifgbkmnoaaDoorAmZc10W0
import Derived.Test.YtepnfifgbkmnoaaDoorAmShelf2
namespace Am.F
open Go Am
noncomputable def e11 : Ent := ⟨11, T.s11_term_Cut, fun _ _ N call a h k => f11_term_Cut N call a h k, fun _ I N call a h k => e11_term_Cut I N call a h k⟩
noncomputable def e16 : Ent := ⟨16, T.s16_sleuthlaw0_Num, fun _ _ N call a h k => f16_sleuthlaw0_Num N call a h k, fun _ I N call a h k => e16_sleuthlaw0_Num I N call a h k⟩
noncomputable def e17 : Ent := ⟨17, T.s17_term_May, fun _ _ N call a h k => f17_term_May N call a h k, fun _ I N call a h k => e17_term_May I N call a h k⟩
noncomputable def e24 : Ent := ⟨24, T.s24_term_cut, fun _ _ N call a h k => f24_term_cut N call a h k, fun _ I N call a h k => e24_term_cut I N call a h k⟩
noncomputable def e26 : Ent := ⟨26, T.s26_term_All, fun _ _ N call a h k => f26_term_All N call a h k, fun _ I N call a h k => e26_term_All I N call a h k⟩
noncomputable def e28 : Ent := ⟨28, T.s28_prim_May, fun _ _ N call a h k => f28_prim_May N call a h k, fun _ I N call a h k => e28_prim_May I N call a h k⟩
noncomputable def e29 : Ent := ⟨29, .intr itoaG, fun _ I _ _ a h k => fInt I 29 a h k, fun _ _ _ _ _ _ _ => rfl⟩
noncomputable def e33 : Ent := ⟨33, T.s33_term_word, fun _ _ N call a h k => f33_term_word N call a h k, fun _ I N call a h k => e33_term_word I N call a h k⟩
noncomputable def e34 : Ent := ⟨34, T.s34_term_Number, fun _ _ N call a h k => f34_term_Number N call a h k, fun _ I N call a h k => e34_term_Number I N call a h k⟩
noncomputable def e35 : Ent := ⟨35, T.s35_term_Tag, fun _ _ N call a h k => f35_term_Tag N call a h k, fun _ I N call a h k => e35_term_Tag I N call a h k⟩
noncomputable def e36 : Ent := ⟨36, T.s36_strings_HasPrefix, fun _ _ N call a h k => f36_strings_HasPrefix N call a h k, fun _ I N call a h k => e36_strings_HasPrefix I N call a h k⟩
noncomputable def e37 : Ent := ⟨37, T.s37_strings_CutPrefix, fun _ _ N call a h k => f37_strings_CutPrefix N call a h k, fun _ I N call a h k => e37_strings_CutPrefix I N call a h k⟩
noncomputable def e44 : Ent := ⟨44, .intr idxAnyG, fun _ I _ _ a h k => fInt I 44 a h k, fun _ _ _ _ _ _ _ => rfl⟩
noncomputable def e45 : Ent := ⟨45, .intr atoiG, fun _ I _ _ a h k => fInt I 45 a h k, fun _ _ _ _ _ _ _ => rfl⟩
noncomputable def e46 : Ent := ⟨46, T.s46_term_Digits, fun _ _ N call a h k => f46_term_Digits N call a h k, fun _ I N call a h k => e46_term_Digits I N call a h k⟩
noncomputable def e47 : Ent := ⟨47, T.s47_internal_stringslite_HasPrefix, fun _ _ N call a h k => f47_internal_stringslite_HasPrefix N call a h k, fun _ I N call a h k => e47_internal_stringslite_HasPrefix I N call a h k⟩
noncomputable def e48 : Ent := ⟨48, T.s48_internal_stringslite_CutPrefix, fun _ _ N call a h k => f48_internal_stringslite_CutPrefix N call a h k, fun _ I N call a h k => e48_internal_stringslite_CutPrefix I N call a h k⟩
noncomputable def e130 : Ent := ⟨130, T.s130_sleuthlaw10_HoldForms, fun _ _ N call a h k => f130_sleuthlaw10_HoldForms N call a h k, fun _ I N call a h k => e130_sleuthlaw10_HoldForms I N call a h k⟩
noncomputable def e132 : Ent := ⟨132, T.s132_sleuthlaw10_HoldTable, fun _ _ N call a h k => f132_sleuthlaw10_HoldTable N call a h k, fun _ I N call a h k => e132_sleuthlaw10_HoldTable I N call a h k⟩
noncomputable def e150 : Ent := ⟨150, T.s150_sleuthlaw10_awake, fun _ _ N call a h k => f150_sleuthlaw10_awake N call a h k, fun _ I N call a h k => e150_sleuthlaw10_awake I N call a h k⟩
noncomputable def e151 : Ent := ⟨151, T.s151_sleuthlaw10_small, fun _ _ N call a h k => f151_sleuthlaw10_small N call a h k, fun _ I N call a h k => e151_sleuthlaw10_small I N call a h k⟩
noncomputable def e152 : Ent := ⟨152, T.s152_holds_Is, fun _ _ N call a h k => f152_holds_Is N call a h k, fun _ I N call a h k => e152_holds_Is I N call a h k⟩
noncomputable def e157 : Ent := ⟨157, T.s157_program_May, fun _ _ N call a h k => f157_program_May N call a h k, fun _ I N call a h k => e157_program_May I N call a h k⟩
noncomputable def e180 : Ent := ⟨180, T.s180_sleuthlaw10_adds, fun _ _ N call a h k => f180_sleuthlaw10_adds N call a h k, fun _ I N call a h k => e180_sleuthlaw10_adds I N call a h k⟩
noncomputable def e181 : Ent := ⟨181, T.s181_name_New, fun _ _ N call a h k => f181_name_New N call a h k, fun _ I N call a h k => e181_name_New I N call a h k⟩
noncomputable def e182 : Ent := ⟨182, T.s182_holds_met, fun _ _ N call a h k => f182_holds_met N call a h k, fun _ I N call a h k => e182_holds_met I N call a h k⟩
noncomputable def e184 : Ent := ⟨184, T.s184___name_Looker__Look, fun _ _ N call a h k => f184___name_Looker__Look N call a h k, fun _ I N call a h k => e184___name_Looker__Look I N call a h k⟩
noncomputable def e186 : Ent := ⟨186, T.s186_program_May_1, fun _ _ N call a h k => f186_program_May_1 N call a h k, fun _ I N call a h k => e186_program_May_1 I N call a h k⟩
noncomputable def e187 : Ent := ⟨187, T.s187_expr_May, fun _ _ N call a h k => f187_expr_May N call a h k, fun _ I N call a h k => e187_expr_May I N call a h k⟩
noncomputable def e188 : Ent := ⟨188, T.s188_slices_ContainsFunc___api_Expr_api_Expr_, fun _ _ N call a h k => f188_slices_ContainsFunc___api_Expr_api_Expr_ N call a h k, fun _ I N call a h k => e188_slices_ContainsFunc___api_Expr_api_Expr_ I N call a h k⟩
noncomputable def e204 : Ent := ⟨204, T.s204_name_Term, fun _ _ N call a h k => f204_name_Term N call a h k, fun _ I N call a h k => e204_name_Term I N call a h k⟩
noncomputable def e205 : Ent := ⟨205, T.s205___name_Looker__call, fun _ _ N call a h k => f205___name_Looker__call N call a h k, fun _ I N call a h k => e205___name_Looker__call I N call a h k⟩
noncomputable def e206 : Ent := ⟨206, T.s206___name_Thing__kids, fun _ _ N call a h k => f206___name_Thing__kids N call a h k, fun _ I N call a h k => e206___name_Thing__kids I N call a h k⟩
noncomputable def e207 : Ent := ⟨207, T.s207___name_Looker__prim, fun _ _ N call a h k => f207___name_Looker__prim N call a h k, fun _ I N call a h k => e207___name_Looker__prim I N call a h k⟩
noncomputable def e208 : Ent := ⟨208, T.s208___name_Thing__kid, fun _ _ N call a h k => f208___name_Thing__kid N call a h k, fun _ I N call a h k => e208___name_Thing__kid I N call a h k⟩
noncomputable def e209 : Ent := ⟨209, T.s209_name_failure, fun _ _ N call a h k => f209_name_failure N call a h k, fun _ I N call a h k => e209_name_failure I N call a h k⟩
noncomputable def e210 : Ent := ⟨210, T.s210___name_Looker__term, fun _ _ N call a h k => f210___name_Looker__term N call a h k, fun _ I N call a h k => e210___name_Looker__term I N call a h k⟩
noncomputable def e212 : Ent := ⟨212, T.s212_expr_within, fun _ _ N call a h k => f212_expr_within N call a h k, fun _ I N call a h k => e212_expr_within I N call a h k⟩
noncomputable def e213 : Ent := ⟨213, T.s213_expr_part, fun _ _ N call a h k => f213_expr_part N call a h k, fun _ I N call a h k => e213_expr_part I N call a h k⟩
noncomputable def e214 : Ent := ⟨214, T.s214_expr_more, fun _ _ N call a h k => f214_expr_more N call a h k, fun _ I N call a h k => e214_expr_more I N call a h k⟩
noncomputable def e215 : Ent := ⟨215, T.s215_slices_IndexFunc___api_Expr_api_Expr_, fun _ _ N call a h k => f215_slices_IndexFunc___api_Expr_api_Expr_ N call a h k, fun _ I N call a h k => e215_slices_IndexFunc___api_Expr_api_Expr_ I N call a h k⟩
noncomputable def e226 : Ent := ⟨226, T.s226_prim_Do, fun _ _ N call a h k => f226_prim_Do N call a h k, fun _ I N call a h k => e226_prim_Do I N call a h k⟩
noncomputable def e227 : Ent := ⟨227, T.s227_slices_Concat___name_Thing_name_Thing_, fun _ _ N call a h k => f227_slices_Concat___name_Thing_name_Thing_ N call a h k, fun _ I N call a h k => e227_slices_Concat___name_Thing_name_Thing_ I N call a h k⟩
noncomputable def e229 : Ent := ⟨229, T.s229_expr_plain, fun _ _ N call a h k => f229_expr_plain N call a h k, fun _ I N call a h k => e229_expr_plain I N call a h k⟩
noncomputable def e230 : Ent := ⟨230, T.s230_prim_truth, fun _ _ N call a h k => f230_prim_truth N call a h k, fun _ I N call a h k => e230_prim_truth I N call a h k⟩
noncomputable def e231 : Ent := ⟨231, T.s231_slices_Grow___name_Thing_name_Thing_, fun _ _ N call a h k => f231_slices_Grow___name_Thing_name_Thing_ N call a h k, fun _ I N call a h k => e231_slices_Grow___name_Thing_name_Thing_ I N call a h k⟩
noncomputable def tab : ETree := (.node e180 (.node e37 (.node e28 (.node e17 (.node e16 (.node e11 .leaf .leaf) .leaf) (.node e26 (.node e24 .leaf .leaf) .leaf)) (.node e34 (.node e33 (.node e29 .leaf .leaf) .leaf) (.node e36 (.node e35 .leaf .leaf) .leaf))) (.node e130 (.node e46 (.node e45 (.node e44 .leaf .leaf) .leaf) (.node e48 (.node e47 .leaf .leaf) .leaf)) (.node e151 (.node e150 (.node e132 .leaf .leaf) .leaf) (.node e157 (.node e152 .leaf .leaf) .leaf)))) (.node e209 (.node e188 (.node e184 (.node e182 (.node e181 .leaf .leaf) .leaf) (.node e187 (.node e186 .leaf .leaf) .leaf)) (.node e206 (.node e205 (.node e204 .leaf .leaf) .leaf) (.node e208 (.node e207 .leaf .leaf) .leaf))) (.node e226 (.node e213 (.node e212 (.node e210 .leaf .leaf) .leaf) (.node e215 (.node e214 .leaf .leaf) .leaf)) (.node e230 (.node e229 (.node e227 .leaf .leaf) .leaf) (.node e231 .leaf .leaf)))))
noncomputable def stdI : FI := fun g args h => (cond (Nat.beq g 45) (atoiI args h) (cond (Nat.beq g 44) (idxAnyI args h) (cond (Nat.beq g 29) (itoaI args h) none)))
theorem stdI_29 (args : List AV) (h : H) : stdI 29 args h = itoaI args h := rfl
theorem stdI_44 (args : List AV) (h : H) : stdI 44 args h = idxAnyI args h := rfl
theorem stdI_45 (args : List AV) (h : H) : stdI 45 args h = atoiI args h := rfl
theorem tab_0 : tab.T 0 = none := by kernel_rfl
theorem tab_ok : tab.okB = true := by kernel_rfl
theorem tab_among : tab.among [29, 44, 45] = true := by kernel_rfl
theorem iok : IOk tab.T stdI := by
  refine iok_of tab_among ?_
  intro k hk
  simp only [List.mem_cons, List.not_mem_nil, or_false] at hk
  rcases hk with rfl | rfl | rfl
  · exact ⟨itoaG, by kernel_rfl, fun args h v h' S hi ha => by rw [stdI_29] at hi; exact itoaI_ok hi ha⟩
  · exact ⟨idxAnyG, by kernel_rfl, fun args h v h' S hi ha => by rw [stdI_44] at hi; exact idxAnyI_ok hi ha⟩
  · exact ⟨atoiG, by kernel_rfl, fun args h v h' S hi ha => by rw [stdI_45] at hi; exact atoiI_ok hi ha⟩
end Am.F
