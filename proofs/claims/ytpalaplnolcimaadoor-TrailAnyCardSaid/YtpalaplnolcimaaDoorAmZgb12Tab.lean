/- The table. -/
import Derived.Test.YtpalaplnolcimaaDoorAmJe
import Derived.Test.YtpalaplnolcimaaDoorAmGCW
import Derived.Test.YtpalaplnolcimaaDoorAmGBW
import Derived.Test.YtpalaplnolcimaaDoorAmGS12W
import Derived.Test.YtpalaplnolcimaaDoorAmGL12W
import Derived.Test.YtpalaplnolcimaaDoorAmGA12W
import Derived.Test.YtpalaplnolcimaaDoorAmJd
set_option maxRecDepth 100000
namespace Am.F
open Go Am
noncomputable def tab0 : ETree := (.node e47 (.node e28 (.node e18 (.node e14 (.node e12 (.node e11 (.node e10 .leaf .leaf) .leaf) (.node e13 .leaf .leaf)) (.node e16 (.node e15 .leaf .leaf) (.node e17 .leaf .leaf))) (.node e24 (.node e22 (.node e20 (.node e19 .leaf .leaf) .leaf) (.node e23 .leaf .leaf)) (.node e26 (.node e25 .leaf .leaf) (.node e27 .leaf .leaf)))) (.node e37 (.node e33 (.node e31 (.node e30 (.node e29 .leaf .leaf) .leaf) (.node e32 .leaf .leaf)) (.node e35 (.node e34 .leaf .leaf) (.node e36 .leaf .leaf))) (.node e42 (.node e40 (.node e39 (.node e38 .leaf .leaf) .leaf) (.node e41 .leaf .leaf)) (.node e45 (.node e44 .leaf .leaf) (.node e46 .leaf .leaf))))) (.node e258 (.node e202 (.node e179 (.node e157 (.node e149 (.node e48 .leaf .leaf) .leaf) (.node e166 .leaf .leaf)) (.node e187 (.node e186 .leaf .leaf) (.node e188 .leaf .leaf))) (.node e215 (.node e213 (.node e212 (.node e203 .leaf .leaf) .leaf) (.node e214 .leaf .leaf)) (.node e244 (.node e229 .leaf .leaf) (.node e250 .leaf .leaf)))) (.node e272 (.node e263 (.node e261 (.node e260 (.node e259 .leaf .leaf) .leaf) (.node e262 .leaf .leaf)) (.node e270 (.node e269 .leaf .leaf) (.node e271 .leaf .leaf))) (.node e294 (.node e276 (.node e273 .leaf .leaf) (.node e293 .leaf .leaf)) (.node e296 (.node e295 .leaf .leaf) (.node e297 .leaf .leaf))))))
noncomputable def tab : ETree := (.node e47 (.node e28 (.node e18 (.node e14 (.node e12 (.node e11 (.node e10 .leaf .leaf) .leaf) (.node e13 .leaf .leaf)) (.node e16 (.node e15 .leaf .leaf) (.node e17 .leaf .leaf))) (.node e24 (.node e22 (.node e20 (.node e19 .leaf .leaf) .leaf) (.node e23 .leaf .leaf)) (.node e26 (.node e25 .leaf .leaf) (.node e27 .leaf .leaf)))) (.node e37 (.node e33 (.node e31 (.node e30 (.node e29 .leaf .leaf) .leaf) (.node e32 .leaf .leaf)) (.node e35 (.node e34 .leaf .leaf) (.node e36 .leaf .leaf))) (.node e42 (.node e40 (.node e39 (.node e38 .leaf .leaf) .leaf) (.node e41 .leaf .leaf)) (.node e45 (.node e44 .leaf .leaf) (.node e46 .leaf .leaf))))) (.node e258 (.node e202 (.node e179 (.node e157 (.node e149 (.node e48 .leaf .leaf) .leaf) (.node e166 .leaf .leaf)) (.node e187 (.node e186 .leaf .leaf) (.node e188 .leaf .leaf))) (.node e215 (.node e213 (.node e212 (.node e203 .leaf .leaf) .leaf) (.node e214 .leaf .leaf)) (.node e244 (.node e229 .leaf .leaf) (.node e250 .leaf .leaf)))) (.node e272 (.node e263 (.node e261 (.node e260 (.node (eAw 259) .leaf .leaf) .leaf) (.node e262 .leaf .leaf)) (.node e270 (.node e269 .leaf .leaf) (.node e271 .leaf .leaf))) (.node e294 (.node e276 (.node e273 .leaf .leaf) (.node e293 .leaf .leaf)) (.node e296 (.node e295 .leaf .leaf) (.node e297 .leaf .leaf))))))
theorem tab0_0 : tab0.T 0 = none := by kernel_rfl
theorem tab0_ok : tab0.okB = true := by kernel_rfl
theorem tab0_among : tab0.among [29, 42, 44, 45] = true := by kernel_rfl
theorem iok0 : IOk tab0.T stdI := by
  refine iok_of tab0_among ?_
  intro k hk
  simp only [List.mem_cons, List.not_mem_nil, or_false] at hk
  rcases hk with rfl | rfl | rfl | rfl
  · exact ⟨itoaG, by kernel_rfl, fun args h v h' S hi ha => by rw [stdI_29] at hi; exact itoaI_ok hi ha⟩
  · exact ⟨joinG, by kernel_rfl, fun args h v h' S hi ha => by rw [stdI_42] at hi; exact joinI_ok hi ha⟩
  · exact ⟨idxAny2G, by kernel_rfl, fun args h v h' S hi ha => by rw [stdI_44] at hi; exact idxAny2I_ok hi ha⟩
  · exact ⟨atoiG, by kernel_rfl, fun args h v h' S hi ha => by rw [stdI_45] at hi; exact atoiI_ok hi ha⟩
theorem tab_0 : tab.T 0 = none := by kernel_rfl
theorem tab_ok : tab.okB = true := by kernel_rfl
theorem tab_among : tab.among [29, 42, 44, 45, 259] = true := by kernel_rfl
theorem iok : IOk tab.T stdI := by
  refine iok_of tab_among ?_
  intro k hk
  simp only [List.mem_cons, List.not_mem_nil, or_false] at hk
  rcases hk with rfl | rfl | rfl | rfl | rfl
  · exact ⟨itoaG, by kernel_rfl, fun args h v h' S hi ha => by rw [stdI_29] at hi; exact itoaI_ok hi ha⟩
  · exact ⟨joinG, by kernel_rfl, fun args h v h' S hi ha => by rw [stdI_42] at hi; exact joinI_ok hi ha⟩
  · exact ⟨idxAny2G, by kernel_rfl, fun args h v h' S hi ha => by rw [stdI_44] at hi; exact idxAny2I_ok hi ha⟩
  · exact ⟨atoiG, by kernel_rfl, fun args h v h' S hi ha => by rw [stdI_45] at hi; exact atoiI_ok hi ha⟩
  · exact ⟨awkG, by kernel_rfl, fun args h v h' S hi ha => awkI_ok hi ha⟩
theorem gaw : tab.get 259 = some (eAw 259) := by kernel_rfl
theorem gi : GI tab := ⟨by kernel_rfl, by kernel_rfl, by kernel_rfl, by kernel_rfl⟩
theorem gA : GA tab := ⟨by kernel_rfl, by kernel_rfl, by kernel_rfl, by kernel_rfl, by kernel_rfl, by kernel_rfl, by kernel_rfl, by kernel_rfl, by kernel_rfl, by kernel_rfl, by kernel_rfl, by kernel_rfl, by kernel_rfl, by kernel_rfl, by kernel_rfl, by kernel_rfl, by kernel_rfl, by kernel_rfl, by kernel_rfl, by kernel_rfl, by kernel_rfl, by kernel_rfl, by kernel_rfl, by kernel_rfl, by kernel_rfl, by kernel_rfl, by kernel_rfl, by kernel_rfl, by kernel_rfl, by kernel_rfl, by kernel_rfl, by kernel_rfl, by kernel_rfl⟩
theorem gC : GC tab := ⟨by kernel_rfl, by kernel_rfl, by kernel_rfl, by kernel_rfl, by kernel_rfl, by kernel_rfl, by kernel_rfl, by kernel_rfl, by kernel_rfl, by kernel_rfl, by kernel_rfl, by kernel_rfl, by kernel_rfl, by kernel_rfl, by kernel_rfl, by kernel_rfl, by kernel_rfl, by kernel_rfl, by kernel_rfl⟩
theorem gB : GB tab := ⟨by kernel_rfl, by kernel_rfl, by kernel_rfl, by kernel_rfl, by kernel_rfl, by kernel_rfl, by kernel_rfl⟩
theorem gS12 : GS12 tab := ⟨by kernel_rfl, by kernel_rfl, by kernel_rfl⟩
theorem gL12 : GL12 tab := ⟨by kernel_rfl, by kernel_rfl, by kernel_rfl⟩
end Am.F
