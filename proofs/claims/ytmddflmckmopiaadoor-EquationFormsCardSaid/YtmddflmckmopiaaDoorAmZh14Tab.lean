/- The table. -/
import Derived.Test.YtmddflmckmopiaaDoorAmJe
import Derived.Test.YtmddflmckmopiaaDoorAmGB14W
import Derived.Test.YtmddflmckmopiaaDoorAmGS14W
import Derived.Test.YtmddflmckmopiaaDoorAmGF14W
import Derived.Test.YtmddflmckmopiaaDoorAmGW14W
import Derived.Test.YtmddflmckmopiaaDoorAmJd
set_option maxRecDepth 100000
namespace Am.F
open Go Am
noncomputable def tab0 : ETree := (.node e32 (.node e20 (.node e15 (.node e12 (.node e11 (.node e10 .leaf .leaf) .leaf) (.node e14 (.node e13 .leaf .leaf) .leaf)) (.node e18 (.node e17 (.node e16 .leaf .leaf) .leaf) (.node e19 .leaf .leaf))) (.node e27 (.node e24 (.node e23 (.node e22 .leaf .leaf) .leaf) (.node e26 (.node e25 .leaf .leaf) .leaf)) (.node e30 (.node e29 (.node e28 .leaf .leaf) .leaf) (.node e31 .leaf .leaf)))) (.node e44 (.node e38 (.node e35 (.node e34 (.node e33 .leaf .leaf) .leaf) (.node e37 (.node e36 .leaf .leaf) .leaf)) (.node e41 (.node e40 (.node e39 .leaf .leaf) .leaf) (.node e42 .leaf .leaf))) (.node e249 (.node e47 (.node e46 (.node e45 .leaf .leaf) .leaf) (.node e248 (.node e48 .leaf .leaf) .leaf)) (.node e258 (.node e257 (.node e256 .leaf .leaf) .leaf) (.node e269 .leaf .leaf)))))
noncomputable def tab : ETree := (.node e32 (.node e20 (.node e15 (.node e12 (.node e11 (.node e10 .leaf .leaf) .leaf) (.node e14 (.node e13 .leaf .leaf) .leaf)) (.node e18 (.node e17 (.node e16 .leaf .leaf) .leaf) (.node e19 .leaf .leaf))) (.node e27 (.node e24 (.node e23 (.node e22 .leaf .leaf) .leaf) (.node e26 (.node e25 .leaf .leaf) .leaf)) (.node e30 (.node e29 (.node e28 .leaf .leaf) .leaf) (.node e31 .leaf .leaf)))) (.node e44 (.node e38 (.node e35 (.node e34 (.node e33 .leaf .leaf) .leaf) (.node e37 (.node e36 .leaf .leaf) .leaf)) (.node e41 (.node e40 (.node e39 .leaf .leaf) .leaf) (.node e42 .leaf .leaf))) (.node e249 (.node e47 (.node e46 (.node e45 .leaf .leaf) .leaf) (.node e248 (.node e48 .leaf .leaf) .leaf)) (.node e258 (.node e257 (.node (eAw 256) .leaf .leaf) .leaf) (.node e269 .leaf .leaf)))))
theorem tab0_0 : tab0.T 0 = none := by kernel_rfl
theorem tab0_ok : tab0.okB = true := by kernel_rfl
theorem tab0_among : tab0.among [29, 42, 44, 45] = true := by kernel_rfl
theorem iok0 : IOk tab0.T stdI := by
  refine iok_of tab0_among ?_
  intro k hk
  simp only [List.mem_cons, List.not_mem_nil, or_false] at hk
  rcases hk with rfl | rfl | rfl | rfl
  · exact ⟨itoaG, by kernel_rfl, fun args h v h' S hi ha => by rw [stdI_29] at hi; exact itoaI_ok hi ha⟩
  · exact ⟨joinG, by kernel_rfl, fun args h v h' S hi ha => by rw [stdI_42] at hi; exact joinI_ok hi ha⟩
  · exact ⟨idxAny2G, by kernel_rfl, fun args h v h' S hi ha => by rw [stdI_44] at hi; exact idxAny2I_ok hi ha⟩
  · exact ⟨atoiG, by kernel_rfl, fun args h v h' S hi ha => by rw [stdI_45] at hi; exact atoiI_ok hi ha⟩
theorem tab_0 : tab.T 0 = none := by kernel_rfl
theorem tab_ok : tab.okB = true := by kernel_rfl
theorem tab_among : tab.among [29, 42, 44, 45, 256] = true := by kernel_rfl
theorem iok : IOk tab.T stdI := by
  refine iok_of tab_among ?_
  intro k hk
  simp only [List.mem_cons, List.not_mem_nil, or_false] at hk
  rcases hk with rfl | rfl | rfl | rfl | rfl
  · exact ⟨itoaG, by kernel_rfl, fun args h v h' S hi ha => by rw [stdI_29] at hi; exact itoaI_ok hi ha⟩
  · exact ⟨joinG, by kernel_rfl, fun args h v h' S hi ha => by rw [stdI_42] at hi; exact joinI_ok hi ha⟩
  · exact ⟨idxAny2G, by kernel_rfl, fun args h v h' S hi ha => by rw [stdI_44] at hi; exact idxAny2I_ok hi ha⟩
  · exact ⟨atoiG, by kernel_rfl, fun args h v h' S hi ha => by rw [stdI_45] at hi; exact atoiI_ok hi ha⟩
  · exact ⟨awkG, by kernel_rfl, fun args h v h' S hi ha => awkI_ok hi ha⟩
theorem gaw : tab.get 256 = some (eAw 256) := by kernel_rfl
theorem gi : GI tab := ⟨by kernel_rfl, by kernel_rfl, by kernel_rfl, by kernel_rfl⟩
theorem gA : GA tab := ⟨by kernel_rfl, by kernel_rfl, by kernel_rfl, by kernel_rfl, by kernel_rfl, by kernel_rfl, by kernel_rfl, by kernel_rfl, by kernel_rfl, by kernel_rfl, by kernel_rfl, by kernel_rfl, by kernel_rfl, by kernel_rfl, by kernel_rfl, by kernel_rfl, by kernel_rfl, by kernel_rfl, by kernel_rfl, by kernel_rfl, by kernel_rfl, by kernel_rfl, by kernel_rfl, by kernel_rfl, by kernel_rfl, by kernel_rfl, by kernel_rfl, by kernel_rfl, by kernel_rfl, by kernel_rfl, by kernel_rfl, by kernel_rfl, by kernel_rfl⟩
theorem gB14 : GB14 tab := ⟨by kernel_rfl, by kernel_rfl⟩
theorem gS14 : GS14 tab := ⟨by kernel_rfl⟩
theorem gF14 : GF14 tab := ⟨by kernel_rfl, by kernel_rfl⟩
end Am.F
