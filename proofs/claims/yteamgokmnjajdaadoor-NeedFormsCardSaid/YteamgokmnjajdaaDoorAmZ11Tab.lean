/- The table. -/
import Derived.Test.YteamgokmnjajdaaDoorAmZ11W0
import Derived.Test.YteamgokmnjajdaaDoorAmLink
namespace Am.F
open Go Am
noncomputable def e12 : Ent := ⟨12, T.s12_sleuthref1_Cut, fun _ _ N call a h k => f12_sleuthref1_Cut N call a h k, fun _ I N call a h k => e12_sleuthref1_Cut I N call a h k⟩
noncomputable def e15 : Ent := ⟨15, T.s15_sleuthlaw0_SameTexts, fun _ _ N call a h k => f15_sleuthlaw0_SameTexts N call a h k, fun _ I N call a h k => e15_sleuthlaw0_SameTexts I N call a h k⟩
noncomputable def e16 : Ent := ⟨16, T.s16_sleuthlaw0_Num, fun _ _ N call a h k => f16_sleuthlaw0_Num N call a h k, fun _ I N call a h k => e16_sleuthlaw0_Num I N call a h k⟩
noncomputable def e22 : Ent := ⟨22, T.s22_sleuthref0_Decimal, fun _ _ N call a h k => f22_sleuthref0_Decimal N call a h k, fun _ I N call a h k => e22_sleuthref0_Decimal I N call a h k⟩
noncomputable def e25 : Ent := ⟨25, T.s25_sleuthref1_term, fun _ _ N call a h k => f25_sleuthref1_term N call a h k, fun _ I N call a h k => e25_sleuthref1_term I N call a h k⟩
noncomputable def e27 : Ent := ⟨27, T.s27_term_Con, fun _ _ N call a h k => f27_term_Con N call a h k, fun _ I N call a h k => e27_term_Con I N call a h k⟩
noncomputable def e28 : Ent := ⟨28, T.s28_prim_May, fun _ _ N call a h k => f28_prim_May N call a h k, fun _ I N call a h k => e28_prim_May I N call a h k⟩
noncomputable def e29 : Ent := ⟨29, .intr itoaG, fun _ I _ _ a h k => fInt I 29 a h k, fun _ _ _ _ _ _ _ => rfl⟩
noncomputable def e30 : Ent := ⟨30, T.s30_sleuthref1_upTo, fun _ _ N call a h k => f30_sleuthref1_upTo N call a h k, fun _ I N call a h k => e30_sleuthref1_upTo I N call a h k⟩
noncomputable def e38 : Ent := ⟨38, T.s38_sleuthref1_bad, fun _ _ N call a h k => f38_sleuthref1_bad N call a h k, fun _ I N call a h k => e38_sleuthref1_bad I N call a h k⟩
noncomputable def e39 : Ent := ⟨39, T.s39_sleuthref1_digits, fun _ _ N call a h k => f39_sleuthref1_digits N call a h k, fun _ I N call a h k => e39_sleuthref1_digits I N call a h k⟩
noncomputable def e40 : Ent := ⟨40, T.s40_sleuthref1_parts, fun _ _ N call a h k => f40_sleuthref1_parts N call a h k, fun _ I N call a h k => e40_sleuthref1_parts I N call a h k⟩
noncomputable def e41 : Ent := ⟨41, T.s41_sleuthref1_NumMay, fun _ _ N call a h k => f41_sleuthref1_NumMay N call a h k, fun _ I N call a h k => e41_sleuthref1_NumMay I N call a h k⟩
noncomputable def e42 : Ent := ⟨42, .intr joinG, fun _ I _ _ a h k => fInt I 42 a h k, fun _ _ _ _ _ _ _ => rfl⟩
noncomputable def e121 : Ent := ⟨121, T.s121_sleuthlaw11_NeedForms, fun _ _ N call a h k => f121_sleuthlaw11_NeedForms N call a h k, fun _ I N call a h k => e121_sleuthlaw11_NeedForms I N call a h k⟩
noncomputable def e122 : Ent := ⟨122, T.s122_sleuthlaw11_NeedTable, fun _ _ N call a h k => f122_sleuthlaw11_NeedTable N call a h k, fun _ I N call a h k => e122_sleuthlaw11_NeedTable I N call a h k⟩
noncomputable def e127 : Ent := ⟨127, T.s127_sleuthlaw11_NeedOnce, fun _ _ N call a h k => f127_sleuthlaw11_NeedOnce N call a h k, fun _ I N call a h k => e127_sleuthlaw11_NeedOnce I N call a h k⟩
noncomputable def e128 : Ent := ⟨128, T.s128_sleuthlaw11_NeedLists, fun _ _ N call a h k => f128_sleuthlaw11_NeedLists N call a h k, fun _ I N call a h k => e128_sleuthlaw11_NeedLists I N call a h k⟩
noncomputable def e136 : Ent := ⟨136, T.s136_need_Run, fun _ _ N call a h k => f136_need_Run N call a h k, fun _ I N call a h k => e136_need_Run I N call a h k⟩
noncomputable def e138 : Ent := ⟨138, T.s138_sleuthlaw0_SameNodes, fun _ _ N call a h k => f138_sleuthlaw0_SameNodes N call a h k, fun _ I N call a h k => e138_sleuthlaw0_SameNodes I N call a h k⟩
noncomputable def e141 : Ent := ⟨141, T.s141_sleuthlaw11_awake, fun _ _ N call a h k => f141_sleuthlaw11_awake N call a h k, fun _ I N call a h k => e141_sleuthlaw11_awake I N call a h k⟩
noncomputable def e143 : Ent := ⟨143, T.s143_sleuthlaw11_small, fun _ _ N call a h k => f143_sleuthlaw11_small N call a h k, fun _ I N call a h k => e143_sleuthlaw11_small I N call a h k⟩
noncomputable def e144 : Ent := ⟨144, T.s144_sleuthlaw11_texts, fun _ _ N call a h k => f144_sleuthlaw11_texts N call a h k, fun _ I N call a h k => e144_sleuthlaw11_texts I N call a h k⟩
noncomputable def e147 : Ent := ⟨147, T.s147_sleuthref1_Prim, fun _ _ N call a h k => f147_sleuthref1_Prim N call a h k, fun _ I N call a h k => e147_sleuthref1_Prim I N call a h k⟩
noncomputable def e148 : Ent := ⟨148, T.s148_sleuthref1_Parse, fun _ _ N call a h k => f148_sleuthref1_Parse N call a h k, fun _ I N call a h k => e148_sleuthref1_Parse I N call a h k⟩
noncomputable def e149 : Ent := ⟨149, T.s149_sleuthref1_ProgramMay, fun _ _ N call a h k => f149_sleuthref1_ProgramMay N call a h k, fun _ I N call a h k => e149_sleuthref1_ProgramMay I N call a h k⟩
noncomputable def e157 : Ent := ⟨157, T.s157_program_May, fun _ _ N call a h k => f157_program_May N call a h k, fun _ I N call a h k => e157_program_May I N call a h k⟩
noncomputable def e158 : Ent := ⟨158, T.s158___need_machine__call, fun _ _ N call a h k => f158___need_machine__call N call a h k, fun _ I N call a h k => e158___need_machine__call I N call a h k⟩
noncomputable def e159 : Ent := ⟨159, T.s159___need_machine__show, fun _ _ N call a h k => f159___need_machine__show N call a h k, fun _ I N call a h k => e159___need_machine__show I N call a h k⟩
noncomputable def e160 : Ent := ⟨160, T.s160___need_call__tooLong, fun _ _ N call a h k => f160___need_call__tooLong N call a h k, fun _ I N call a h k => e160___need_call__tooLong I N call a h k⟩
noncomputable def e161 : Ent := ⟨161, T.s161_need_texts, fun _ _ N call a h k => f161_need_texts N call a h k, fun _ I N call a h k => e161_need_texts I N call a h k⟩
noncomputable def e162 : Ent := ⟨162, T.s162___need_cell__text, fun _ _ N call a h k => f162___need_cell__text N call a h k, fun _ I N call a h k => e162___need_cell__text I N call a h k⟩
noncomputable def e166 : Ent := ⟨166, T.s166_sleuthlaw0_SameNode, fun _ _ N call a h k => f166_sleuthlaw0_SameNode N call a h k, fun _ I N call a h k => e166_sleuthlaw0_SameNode I N call a h k⟩
noncomputable def e171 : Ent := ⟨171, T.s171_sleuthlaw11_adds, fun _ _ N call a h k => f171_sleuthlaw11_adds N call a h k, fun _ I N call a h k => e171_sleuthlaw11_adds I N call a h k⟩
noncomputable def e174 : Ent := ⟨174, T.s174_sleuthref1_truth, fun _ _ N call a h k => f174_sleuthref1_truth N call a h k, fun _ I N call a h k => e174_sleuthref1_truth I N call a h k⟩
noncomputable def e175 : Ent := ⟨175, T.s175_sleuthref1_Words, fun _ _ N call a h k => f175_sleuthref1_Words N call a h k, fun _ I N call a h k => e175_sleuthref1_Words I N call a h k⟩
noncomputable def e176 : Ent := ⟨176, T.s176___sleuthref1_reader__word, fun _ _ N call a h k => f176___sleuthref1_reader__word N call a h k, fun _ I N call a h k => e176___sleuthref1_reader__word I N call a h k⟩
noncomputable def e177 : Ent := ⟨177, T.s177___sleuthref1_reader__whole, fun _ _ N call a h k => f177___sleuthref1_reader__whole N call a h k, fun _ I N call a h k => e177___sleuthref1_reader__whole I N call a h k⟩
noncomputable def e178 : Ent := ⟨178, T.s178___sleuthref1_reader__expr, fun _ _ N call a h k => f178___sleuthref1_reader__expr N call a h k, fun _ I N call a h k => e178___sleuthref1_reader__expr I N call a h k⟩
noncomputable def e179 : Ent := ⟨179, T.s179_sleuthref1_DefMay, fun _ _ N call a h k => f179_sleuthref1_DefMay N call a h k, fun _ I N call a h k => e179_sleuthref1_DefMay I N call a h k⟩
noncomputable def e186 : Ent := ⟨186, T.s186_program_May_1, fun _ _ N call a h k => f186_program_May_1 N call a h k, fun _ I N call a h k => e186_program_May_1 I N call a h k⟩
noncomputable def e187 : Ent := ⟨187, T.s187_expr_May, fun _ _ N call a h k => f187_expr_May N call a h k, fun _ I N call a h k => e187_expr_May I N call a h k⟩
noncomputable def e188 : Ent := ⟨188, T.s188_slices_ContainsFunc___api_Expr_api_Expr_, fun _ _ N call a h k => f188_slices_ContainsFunc___api_Expr_api_Expr_ N call a h k, fun _ I N call a h k => e188_slices_ContainsFunc___api_Expr_api_Expr_ I N call a h k⟩
noncomputable def e189 : Ent := ⟨189, T.s189___need_machine__part, fun _ _ N call a h k => f189___need_machine__part N call a h k, fun _ I N call a h k => e189___need_machine__part I N call a h k⟩
noncomputable def e190 : Ent := ⟨190, T.s190___need_machine__force, fun _ _ N call a h k => f190___need_machine__force N call a h k, fun _ I N call a h k => e190___need_machine__force I N call a h k⟩
noncomputable def e191 : Ent := ⟨191, T.s191___need_cell__long, fun _ _ N call a h k => f191___need_cell__long N call a h k, fun _ I N call a h k => e191___need_cell__long I N call a h k⟩
noncomputable def e199 : Ent := ⟨199, T.s199___sleuthref1_reader__open, fun _ _ N call a h k => f199___sleuthref1_reader__open N call a h k, fun _ I N call a h k => e199___sleuthref1_reader__open I N call a h k⟩
noncomputable def e200 : Ent := ⟨200, T.s200___sleuthref1_reader__part, fun _ _ N call a h k => f200___sleuthref1_reader__part N call a h k, fun _ I N call a h k => e200___sleuthref1_reader__part I N call a h k⟩
noncomputable def e201 : Ent := ⟨201, T.s201___sleuthref1_reader__after, fun _ _ N call a h k => f201___sleuthref1_reader__after N call a h k, fun _ I N call a h k => e201___sleuthref1_reader__after I N call a h k⟩
noncomputable def e202 : Ent := ⟨202, T.s202_sleuthref1_kinds, fun _ _ N call a h k => f202_sleuthref1_kinds N call a h k, fun _ I N call a h k => e202_sleuthref1_kinds I N call a h k⟩
noncomputable def e203 : Ent := ⟨203, T.s203_sleuthref1_deeper, fun _ _ N call a h k => f203_sleuthref1_deeper N call a h k, fun _ I N call a h k => e203_sleuthref1_deeper I N call a h k⟩
noncomputable def e212 : Ent := ⟨212, T.s212_expr_within, fun _ _ N call a h k => f212_expr_within N call a h k, fun _ I N call a h k => e212_expr_within I N call a h k⟩
noncomputable def e213 : Ent := ⟨213, T.s213_expr_part, fun _ _ N call a h k => f213_expr_part N call a h k, fun _ I N call a h k => e213_expr_part I N call a h k⟩
noncomputable def e214 : Ent := ⟨214, T.s214_expr_more, fun _ _ N call a h k => f214_expr_more N call a h k, fun _ I N call a h k => e214_expr_more I N call a h k⟩
noncomputable def e215 : Ent := ⟨215, T.s215_slices_IndexFunc___api_Expr_api_Expr_, fun _ _ N call a h k => f215_slices_IndexFunc___api_Expr_api_Expr_ N call a h k, fun _ I N call a h k => e215_slices_IndexFunc___api_Expr_api_Expr_ I N call a h k⟩
noncomputable def e216 : Ent := ⟨216, T.s216___need_frame__kids, fun _ _ N call a h k => f216___need_frame__kids N call a h k, fun _ I N call a h k => e216___need_frame__kids I N call a h k⟩
noncomputable def e217 : Ent := ⟨217, T.s217___need_machine__prim, fun _ _ N call a h k => f217___need_machine__prim N call a h k, fun _ I N call a h k => e217___need_machine__prim I N call a h k⟩
noncomputable def e218 : Ent := ⟨218, T.s218___need_frame__with, fun _ _ N call a h k => f218___need_frame__with N call a h k, fun _ I N call a h k => e218___need_frame__with I N call a h k⟩
noncomputable def e219 : Ent := ⟨219, T.s219___need_frame__kid, fun _ _ N call a h k => f219___need_frame__kid N call a h k, fun _ I N call a h k => e219___need_frame__kid I N call a h k⟩
noncomputable def e224 : Ent := ⟨224, T.s224_sleuthref1_op, fun _ _ N call a h k => f224_sleuthref1_op N call a h k, fun _ I N call a h k => e224_sleuthref1_op I N call a h k⟩
noncomputable def e225 : Ent := ⟨225, T.s225___sleuthref1_reader__kids, fun _ _ N call a h k => f225___sleuthref1_reader__kids N call a h k, fun _ I N call a h k => e225___sleuthref1_reader__kids I N call a h k⟩
noncomputable def e226 : Ent := ⟨226, T.s226_prim_Do, fun _ _ N call a h k => f226_prim_Do N call a h k, fun _ I N call a h k => e226_prim_Do I N call a h k⟩
noncomputable def e229 : Ent := ⟨229, T.s229_expr_plain, fun _ _ N call a h k => f229_expr_plain N call a h k, fun _ I N call a h k => e229_expr_plain I N call a h k⟩
noncomputable def e230 : Ent := ⟨230, T.s230_prim_truth, fun _ _ N call a h k => f230_prim_truth N call a h k, fun _ I N call a h k => e230_prim_truth I N call a h k⟩
noncomputable def tab : ETree := (.node e166 (.node e127 (.node e30 (.node e25 (.node e16 (.node e15 (.node e12 .leaf .leaf) .leaf) (.node e22 .leaf .leaf)) (.node e28 (.node e27 .leaf .leaf) (.node e29 .leaf .leaf))) (.node e41 (.node e39 (.node e38 .leaf .leaf) (.node e40 .leaf .leaf)) (.node e121 (.node e42 .leaf .leaf) (.node e122 .leaf .leaf)))) (.node e148 (.node e141 (.node e136 (.node e128 .leaf .leaf) (.node e138 .leaf .leaf)) (.node e144 (.node e143 .leaf .leaf) (.node e147 .leaf .leaf))) (.node e159 (.node e157 (.node e149 .leaf .leaf) (.node e158 .leaf .leaf)) (.node e161 (.node e160 .leaf .leaf) (.node e162 .leaf .leaf))))) (.node e201 (.node e186 (.node e176 (.node e174 (.node e171 .leaf .leaf) (.node e175 .leaf .leaf)) (.node e178 (.node e177 .leaf .leaf) (.node e179 .leaf .leaf))) (.node e190 (.node e188 (.node e187 .leaf .leaf) (.node e189 .leaf .leaf)) (.node e199 (.node e191 .leaf .leaf) (.node e200 .leaf .leaf)))) (.node e217 (.node e213 (.node e203 (.node e202 .leaf .leaf) (.node e212 .leaf .leaf)) (.node e215 (.node e214 .leaf .leaf) (.node e216 .leaf .leaf))) (.node e225 (.node e219 (.node e218 .leaf .leaf) (.node e224 .leaf .leaf)) (.node e229 (.node e226 .leaf .leaf) (.node e230 .leaf .leaf))))))
noncomputable def stdI : FI := fun g args h => (cond (Nat.beq g 42) (joinI args h) (cond (Nat.beq g 29) (itoaI args h) none))
theorem stdI_29 (args : List AV) (h : H) : stdI 29 args h = itoaI args h := rfl
theorem stdI_42 (args : List AV) (h : H) : stdI 42 args h = joinI args h := rfl
theorem tab_0 : tab.T 0 = none := by kernel_rfl
theorem tab_ok : tab.okB = true := by kernel_rfl
theorem tab_among : tab.among [29, 42] = true := by kernel_rfl
theorem iok : IOk tab.T stdI := by
  refine iok_of tab_among ?_
  intro k hk
  simp only [List.mem_cons, List.not_mem_nil, or_false] at hk
  rcases hk with rfl | rfl
  · exact ⟨itoaG, by kernel_rfl, fun args h v h' S hi ha => by rw [stdI_29] at hi; exact itoaI_ok hi ha⟩
  · exact ⟨joinG, by kernel_rfl, fun args h v h' S hi ha => by rw [stdI_42] at hi; exact joinI_ok hi ha⟩
end Am.F
