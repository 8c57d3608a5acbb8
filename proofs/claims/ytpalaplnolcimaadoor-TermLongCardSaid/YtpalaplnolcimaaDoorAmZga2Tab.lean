/- The table. -/
import Derived.Test.YtpalaplnolcimaaDoorAmJe
import Derived.Test.YtpalaplnolcimaaDoorAmGL2W
import Derived.Test.YtpalaplnolcimaaDoorAmJd
set_option maxRecDepth 100000
namespace Am.F
open Go Am
noncomputable def tab : ETree := (.node e27 (.node e16 (.node e11 (.node e8 (.node e7 (.node e4 .leaf .leaf) .leaf) (.node e10 (.node e9 .leaf .leaf) .leaf)) (.node e14 (.node e13 (.node e12 .leaf .leaf) .leaf) (.node e15 .leaf .leaf))) (.node e22 (.node e19 (.node e18 (.node e17 .leaf .leaf) .leaf) (.node e21 (.node e20 .leaf .leaf) .leaf)) (.node e25 (.node e24 (.node e23 .leaf .leaf) .leaf) (.node e26 .leaf .leaf)))) (.node e38 (.node e33 (.node e30 (.node e29 (.node e28 .leaf .leaf) .leaf) (.node e32 (.node e31 .leaf .leaf) .leaf)) (.node e36 (.node e35 (.node e34 .leaf .leaf) .leaf) (.node e37 .leaf .leaf))) (.node e44 (.node e41 (.node e40 (.node e39 .leaf .leaf) .leaf) (.node e42 .leaf .leaf)) (.node e47 (.node e46 (.node e45 .leaf .leaf) .leaf) (.node e48 .leaf .leaf)))))
theorem tab_0 : tab.T 0 = none := by kernel_rfl
theorem tab_ok : tab.okB = true := by kernel_rfl
theorem tab_among : tab.among [29, 42, 44, 45] = true := by kernel_rfl
theorem iok : IOk tab.T stdI := by
  refine iok_of tab_among ?_
  intro k hk
  simp only [List.mem_cons, List.not_mem_nil, or_false] at hk
  rcases hk with rfl | rfl | rfl | rfl
  · exact ⟨itoaG, by kernel_rfl, fun args h v h' S hi ha => by rw [stdI_29] at hi; exact itoaI_ok hi ha⟩
  · exact ⟨joinG, by kernel_rfl, fun args h v h' S hi ha => by rw [stdI_42] at hi; exact joinI_ok hi ha⟩
  · exact ⟨idxAny2G, by kernel_rfl, fun args h v h' S hi ha => by rw [stdI_44] at hi; exact idxAny2I_ok hi ha⟩
  · exact ⟨atoiG, by kernel_rfl, fun args h v h' S hi ha => by rw [stdI_45] at hi; exact atoiI_ok hi ha⟩
theorem gi : GI tab := ⟨by kernel_rfl, by kernel_rfl, by kernel_rfl, by kernel_rfl⟩
theorem gA : GA tab := ⟨by kernel_rfl, by kernel_rfl, by kernel_rfl, by kernel_rfl, by kernel_rfl, by kernel_rfl, by kernel_rfl, by kernel_rfl, by kernel_rfl, by kernel_rfl, by kernel_rfl, by kernel_rfl, by kernel_rfl, by kernel_rfl, by kernel_rfl, by kernel_rfl, by kernel_rfl, by kernel_rfl, by kernel_rfl, by kernel_rfl, by kernel_rfl, by kernel_rfl, by kernel_rfl, by kernel_rfl, by kernel_rfl, by kernel_rfl, by kernel_rfl, by kernel_rfl, by kernel_rfl, by kernel_rfl, by kernel_rfl, by kernel_rfl, by kernel_rfl⟩
theorem gL2 : GL2 tab := ⟨by kernel_rfl, by kernel_rfl, by kernel_rfl, by kernel_rfl, by kernel_rfl⟩
end Am.F
