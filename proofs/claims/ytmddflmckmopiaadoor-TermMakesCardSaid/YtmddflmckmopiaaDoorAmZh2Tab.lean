/- The table. -/
import Derived.Test.YtmddflmckmopiaaDoorAmJe
import Derived.Test.YtmddflmckmopiaaDoorAmGF2W
import Derived.Test.YtmddflmckmopiaaDoorAmGW2W
import Derived.Test.YtmddflmckmopiaaDoorAmJd
set_option maxRecDepth 100000
namespace Am.F
open Go Am
noncomputable def tab0 : ETree := (.node e28 (.node e18 (.node e13 (.node e10 (.node e6 (.node e5 .leaf .leaf) .leaf) (.node e12 (.node e11 .leaf .leaf) .leaf)) (.node e16 (.node e15 (.node e14 .leaf .leaf) .leaf) (.node e17 .leaf .leaf))) (.node e23 (.node e21 (.node e20 (.node e19 .leaf .leaf) .leaf) (.node e22 .leaf .leaf)) (.node e26 (.node e25 (.node e24 .leaf .leaf) .leaf) (.node e27 .leaf .leaf)))) (.node e38 (.node e33 (.node e31 (.node e30 (.node e29 .leaf .leaf) .leaf) (.node e32 .leaf .leaf)) (.node e36 (.node e35 (.node e34 .leaf .leaf) .leaf) (.node e37 .leaf .leaf))) (.node e44 (.node e41 (.node e40 (.node e39 .leaf .leaf) .leaf) (.node e42 .leaf .leaf)) (.node e47 (.node e46 (.node e45 .leaf .leaf) .leaf) (.node e48 .leaf .leaf)))))
noncomputable def tab : ETree := (.node e28 (.node e18 (.node e13 (.node e10 (.node e6 (.node e5 .leaf .leaf) .leaf) (.node e12 (.node e11 .leaf .leaf) .leaf)) (.node e16 (.node e15 (.node e14 .leaf .leaf) .leaf) (.node e17 .leaf .leaf))) (.node e23 (.node (eAw 21) (.node e20 (.node e19 .leaf .leaf) .leaf) (.node e22 .leaf .leaf)) (.node e26 (.node e25 (.node e24 .leaf .leaf) .leaf) (.node e27 .leaf .leaf)))) (.node e38 (.node e33 (.node e31 (.node e30 (.node e29 .leaf .leaf) .leaf) (.node e32 .leaf .leaf)) (.node e36 (.node e35 (.node e34 .leaf .leaf) .leaf) (.node e37 .leaf .leaf))) (.node e44 (.node e41 (.node e40 (.node e39 .leaf .leaf) .leaf) (.node e42 .leaf .leaf)) (.node e47 (.node e46 (.node e45 .leaf .leaf) .leaf) (.node e48 .leaf .leaf)))))
theorem tab0_0 : tab0.T 0 = none := by kernel_rfl
theorem tab0_ok : tab0.okB = true := by kernel_rfl
theorem tab0_among : tab0.among [29, 42, 44, 45] = true := by kernel_rfl
theorem iok0 : IOk tab0.T stdI := by
  refine iok_of tab0_among ?_
  intro k hk
  simp only [List.mem_cons, List.not_mem_nil, or_false] at hk
  rcases hk with rfl | rfl | rfl | rfl
  · exact ⟨itoaG, by kernel_rfl, fun args h v h' S hi ha => by rw [stdI_29] at hi; exact itoaI_ok hi ha⟩
  · exact ⟨joinG, by kernel_rfl, fun args h v h' S hi ha => by rw [stdI_42] at hi; exact joinI_ok hi ha⟩
  · exact ⟨idxAny2G, by kernel_rfl, fun args h v h' S hi ha => by rw [stdI_44] at hi; exact idxAny2I_ok hi ha⟩
  · exact ⟨atoiG, by kernel_rfl, fun args h v h' S hi ha => by rw [stdI_45] at hi; exact atoiI_ok hi ha⟩
theorem tab_0 : tab.T 0 = none := by kernel_rfl
theorem tab_ok : tab.okB = true := by kernel_rfl
theorem tab_among : tab.among [29, 42, 44, 45, 21] = true := by kernel_rfl
theorem iok : IOk tab.T stdI := by
  refine iok_of tab_among ?_
  intro k hk
  simp only [List.mem_cons, List.not_mem_nil, or_false] at hk
  rcases hk with rfl | rfl | rfl | rfl | rfl
  · exact ⟨itoaG, by kernel_rfl, fun args h v h' S hi ha => by rw [stdI_29] at hi; exact itoaI_ok hi ha⟩
  · exact ⟨joinG, by kernel_rfl, fun args h v h' S hi ha => by rw [stdI_42] at hi; exact joinI_ok hi ha⟩
  · exact ⟨idxAny2G, by kernel_rfl, fun args h v h' S hi ha => by rw [stdI_44] at hi; exact idxAny2I_ok hi ha⟩
  · exact ⟨atoiG, by kernel_rfl, fun args h v h' S hi ha => by rw [stdI_45] at hi; exact atoiI_ok hi ha⟩
  · exact ⟨awkG, by kernel_rfl, fun args h v h' S hi ha => awkI_ok hi ha⟩
theorem gaw : tab.get 21 = some (eAw 21) := by kernel_rfl
theorem gi : GI tab := ⟨by kernel_rfl, by kernel_rfl, by kernel_rfl, by kernel_rfl⟩
theorem gA : GA tab := ⟨by kernel_rfl, by kernel_rfl, by kernel_rfl, by kernel_rfl, by kernel_rfl, by kernel_rfl, by kernel_rfl, by kernel_rfl, by kernel_rfl, by kernel_rfl, by kernel_rfl, by kernel_rfl, by kernel_rfl, by kernel_rfl, by kernel_rfl, by kernel_rfl, by kernel_rfl, by kernel_rfl, by kernel_rfl, by kernel_rfl, by kernel_rfl, by kernel_rfl, by kernel_rfl, by kernel_rfl, by kernel_rfl, by kernel_rfl, by kernel_rfl, by kernel_rfl, by kernel_rfl, by kernel_rfl, by kernel_rfl, by kernel_rfl, by kernel_rfl⟩
theorem gF2 : GF2 tab := ⟨by kernel_rfl, by kernel_rfl⟩
end Am.F
