/- The table. -/
import Derived.Test.YtpalaplnolcimaaDoorAmJe
import Derived.Test.YtpalaplnolcimaaDoorAmGBW
import Derived.Test.YtpalaplnolcimaaDoorAmGL14W
import Derived.Test.YtpalaplnolcimaaDoorAmJd
set_option maxRecDepth 100000
namespace Am.F
open Go Am
noncomputable def tab : ETree := (.node e35 (.node e23 (.node e16 (.node e13 (.node e11 (.node e10 .leaf .leaf) (.node e12 .leaf .leaf)) (.node e15 (.node e14 .leaf .leaf) .leaf)) (.node e19 (.node e18 (.node e17 .leaf .leaf) .leaf) (.node e22 (.node e20 .leaf .leaf) .leaf))) (.node e29 (.node e26 (.node e25 (.node e24 .leaf .leaf) .leaf) (.node e28 (.node e27 .leaf .leaf) .leaf)) (.node e32 (.node e31 (.node e30 .leaf .leaf) .leaf) (.node e34 (.node e33 .leaf .leaf) .leaf)))) (.node e48 (.node e41 (.node e38 (.node e37 (.node e36 .leaf .leaf) .leaf) (.node e40 (.node e39 .leaf .leaf) .leaf)) (.node e45 (.node e44 (.node e42 .leaf .leaf) .leaf) (.node e47 (.node e46 .leaf .leaf) .leaf))) (.node e269 (.node e256 (.node e244 (.node e166 .leaf .leaf) .leaf) (.node e258 (.node e257 .leaf .leaf) .leaf)) (.node e295 (.node e292 (.node e291 .leaf .leaf) .leaf) (.node e297 (.node e296 .leaf .leaf) .leaf)))))
theorem tab_0 : tab.T 0 = none := by kernel_rfl
theorem tab_ok : tab.okB = true := by kernel_rfl
theorem tab_among : tab.among [29, 42, 44, 45] = true := by kernel_rfl
theorem iok : IOk tab.T stdI := by
  refine iok_of tab_among ?_
  intro k hk
  simp only [List.mem_cons, List.not_mem_nil, or_false] at hk
  rcases hk with rfl | rfl | rfl | rfl
  · exact ⟨itoaG, by kernel_rfl, fun args h v h' S hi ha => by rw [stdI_29] at hi; exact itoaI_ok hi ha⟩
  · exact ⟨joinG, by kernel_rfl, fun args h v h' S hi ha => by rw [stdI_42] at hi; exact joinI_ok hi ha⟩
  · exact ⟨idxAny2G, by kernel_rfl, fun args h v h' S hi ha => by rw [stdI_44] at hi; exact idxAny2I_ok hi ha⟩
  · exact ⟨atoiG, by kernel_rfl, fun args h v h' S hi ha => by rw [stdI_45] at hi; exact atoiI_ok hi ha⟩
theorem gi : GI tab := ⟨by kernel_rfl, by kernel_rfl, by kernel_rfl, by kernel_rfl⟩
theorem gA : GA tab := ⟨by kernel_rfl, by kernel_rfl, by kernel_rfl, by kernel_rfl, by kernel_rfl, by kernel_rfl, by kernel_rfl, by kernel_rfl, by kernel_rfl, by kernel_rfl, by kernel_rfl, by kernel_rfl, by kernel_rfl, by kernel_rfl, by kernel_rfl, by kernel_rfl, by kernel_rfl, by kernel_rfl, by kernel_rfl, by kernel_rfl, by kernel_rfl, by kernel_rfl, by kernel_rfl, by kernel_rfl, by kernel_rfl, by kernel_rfl, by kernel_rfl, by kernel_rfl, by kernel_rfl, by kernel_rfl, by kernel_rfl, by kernel_rfl, by kernel_rfl⟩
theorem gB : GB tab := ⟨by kernel_rfl, by kernel_rfl, by kernel_rfl, by kernel_rfl, by kernel_rfl, by kernel_rfl, by kernel_rfl⟩
theorem gL14 : GL14 tab := ⟨by kernel_rfl, by kernel_rfl, by kernel_rfl, by kernel_rfl⟩
end Am.F
