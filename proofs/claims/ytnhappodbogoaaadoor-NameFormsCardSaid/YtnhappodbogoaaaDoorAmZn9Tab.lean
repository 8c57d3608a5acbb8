/- The table. -/
import Derived.Test.YtnhappodbogoaaaDoorAmJe
import Derived.Test.YtnhappodbogoaaaDoorAmGCW
import Derived.Test.YtnhappodbogoaaaDoorAmGNMW
import Derived.Test.YtnhappodbogoaaaDoorAmGS9W
import Derived.Test.YtnhappodbogoaaaDoorAmGN9W
import Derived.Test.YtnhappodbogoaaaDoorAmGA9W
import Derived.Test.YtnhappodbogoaaaDoorAmJd
set_option maxRecDepth 100000
namespace Am.F
open Go Am
noncomputable def tab0 : ETree := (.node e153 (.node e30 (.node e19 (.node e14 (.node e12 (.node e11 (.node e10 .leaf .leaf) .leaf) (.node e13 .leaf .leaf)) (.node e17 (.node e16 (.node e15 .leaf .leaf) .leaf) (.node e18 .leaf .leaf))) (.node e25 (.node e23 (.node e22 (.node e20 .leaf .leaf) .leaf) (.node e24 .leaf .leaf)) (.node e28 (.node e27 (.node e26 .leaf .leaf) .leaf) (.node e29 .leaf .leaf)))) (.node e40 (.node e35 (.node e33 (.node e32 (.node e31 .leaf .leaf) .leaf) (.node e34 .leaf .leaf)) (.node e38 (.node e37 (.node e36 .leaf .leaf) .leaf) (.node e39 .leaf .leaf))) (.node e46 (.node e44 (.node e42 (.node e41 .leaf .leaf) .leaf) (.node e45 .leaf .leaf)) (.node e134 (.node e48 (.node e47 .leaf .leaf) .leaf) (.node e149 .leaf .leaf))))) (.node e210 (.node e187 (.node e181 (.node e157 (.node e155 (.node e154 .leaf .leaf) .leaf) (.node e179 .leaf .leaf)) (.node e185 (.node e184 (.node e183 .leaf .leaf) .leaf) (.node e186 .leaf .leaf))) (.node e205 (.node e203 (.node e202 (.node e188 .leaf .leaf) .leaf) (.node e204 .leaf .leaf)) (.node e208 (.node e207 (.node e206 .leaf .leaf) .leaf) (.node e209 .leaf .leaf)))) (.node e230 (.node e215 (.node e213 (.node e212 (.node e211 .leaf .leaf) .leaf) (.node e214 .leaf .leaf)) (.node e228 (.node e227 (.node e226 .leaf .leaf) .leaf) (.node e229 .leaf .leaf))) (.node e262 (.node e233 (.node e232 (.node e231 .leaf .leaf) .leaf) (.node e261 .leaf .leaf)) (.node e272 (.node e271 (.node e270 .leaf .leaf) .leaf) (.node e276 .leaf .leaf))))))
noncomputable def tab : ETree := (.node (eAw 153) (.node e30 (.node e19 (.node e14 (.node e12 (.node e11 (.node e10 .leaf .leaf) .leaf) (.node e13 .leaf .leaf)) (.node e17 (.node e16 (.node e15 .leaf .leaf) .leaf) (.node e18 .leaf .leaf))) (.node e25 (.node e23 (.node e22 (.node e20 .leaf .leaf) .leaf) (.node e24 .leaf .leaf)) (.node e28 (.node e27 (.node e26 .leaf .leaf) .leaf) (.node e29 .leaf .leaf)))) (.node e40 (.node e35 (.node e33 (.node e32 (.node e31 .leaf .leaf) .leaf) (.node e34 .leaf .leaf)) (.node e38 (.node e37 (.node e36 .leaf .leaf) .leaf) (.node e39 .leaf .leaf))) (.node e46 (.node e44 (.node e42 (.node e41 .leaf .leaf) .leaf) (.node e45 .leaf .leaf)) (.node e134 (.node e48 (.node e47 .leaf .leaf) .leaf) (.node e149 .leaf .leaf))))) (.node e210 (.node e187 (.node e181 (.node e157 (.node e155 (.node e154 .leaf .leaf) .leaf) (.node e179 .leaf .leaf)) (.node e185 (.node e184 (.node e183 .leaf .leaf) .leaf) (.node e186 .leaf .leaf))) (.node e205 (.node e203 (.node e202 (.node e188 .leaf .leaf) .leaf) (.node e204 .leaf .leaf)) (.node e208 (.node e207 (.node e206 .leaf .leaf) .leaf) (.node e209 .leaf .leaf)))) (.node e230 (.node e215 (.node e213 (.node e212 (.node e211 .leaf .leaf) .leaf) (.node e214 .leaf .leaf)) (.node e228 (.node e227 (.node e226 .leaf .leaf) .leaf) (.node e229 .leaf .leaf))) (.node e262 (.node e233 (.node e232 (.node e231 .leaf .leaf) .leaf) (.node e261 .leaf .leaf)) (.node e272 (.node e271 (.node e270 .leaf .leaf) .leaf) (.node e276 .leaf .leaf))))))
theorem tab0_0 : tab0.T 0 = none := by kernel_rfl
theorem tab0_ok : tab0.okB = true := by kernel_rfl
theorem tab0_among : tab0.among [29, 42, 44, 45] = true := by kernel_rfl
theorem iok0 : IOk tab0.T stdI := by
  refine iok_of tab0_among ?_
  intro k hk
  simp only [List.mem_cons, List.not_mem_nil, or_false] at hk
  rcases hk with rfl | rfl | rfl | rfl
  · exact ⟨itoaG, by kernel_rfl, fun args h v h' S hi ha => by rw [stdI_29] at hi; exact itoaI_ok hi ha⟩
  · exact ⟨joinG, by kernel_rfl, fun args h v h' S hi ha => by rw [stdI_42] at hi; exact joinI_ok hi ha⟩
  · exact ⟨idxAny2G, by kernel_rfl, fun args h v h' S hi ha => by rw [stdI_44] at hi; exact idxAny2I_ok hi ha⟩
  · exact ⟨atoiG, by kernel_rfl, fun args h v h' S hi ha => by rw [stdI_45] at hi; exact atoiI_ok hi ha⟩
theorem tab_0 : tab.T 0 = none := by kernel_rfl
theorem tab_ok : tab.okB = true := by kernel_rfl
theorem tab_among : tab.among [29, 42, 44, 45, 153] = true := by kernel_rfl
theorem iok : IOk tab.T stdI := by
  refine iok_of tab_among ?_
  intro k hk
  simp only [List.mem_cons, List.not_mem_nil, or_false] at hk
  rcases hk with rfl | rfl | rfl | rfl | rfl
  · exact ⟨itoaG, by kernel_rfl, fun args h v h' S hi ha => by rw [stdI_29] at hi; exact itoaI_ok hi ha⟩
  · exact ⟨joinG, by kernel_rfl, fun args h v h' S hi ha => by rw [stdI_42] at hi; exact joinI_ok hi ha⟩
  · exact ⟨idxAny2G, by kernel_rfl, fun args h v h' S hi ha => by rw [stdI_44] at hi; exact idxAny2I_ok hi ha⟩
  · exact ⟨atoiG, by kernel_rfl, fun args h v h' S hi ha => by rw [stdI_45] at hi; exact atoiI_ok hi ha⟩
  · exact ⟨awkG, by kernel_rfl, fun args h v h' S hi ha => awkI_ok hi ha⟩
theorem gaw : tab.get 153 = some (eAw 153) := by kernel_rfl
theorem gi : GI tab := ⟨by kernel_rfl, by kernel_rfl, by kernel_rfl, by kernel_rfl⟩
theorem gA : GA tab := ⟨by kernel_rfl, by kernel_rfl, by kernel_rfl, by kernel_rfl, by kernel_rfl, by kernel_rfl, by kernel_rfl, by kernel_rfl, by kernel_rfl, by kernel_rfl, by kernel_rfl, by kernel_rfl, by kernel_rfl, by kernel_rfl, by kernel_rfl, by kernel_rfl, by kernel_rfl, by kernel_rfl, by kernel_rfl, by kernel_rfl, by kernel_rfl, by kernel_rfl, by kernel_rfl, by kernel_rfl, by kernel_rfl, by kernel_rfl, by kernel_rfl, by kernel_rfl, by kernel_rfl, by kernel_rfl, by kernel_rfl, by kernel_rfl, by kernel_rfl⟩
theorem gC : GC tab := ⟨by kernel_rfl, by kernel_rfl, by kernel_rfl, by kernel_rfl, by kernel_rfl, by kernel_rfl, by kernel_rfl, by kernel_rfl, by kernel_rfl, by kernel_rfl, by kernel_rfl, by kernel_rfl, by kernel_rfl, by kernel_rfl, by kernel_rfl, by kernel_rfl, by kernel_rfl, by kernel_rfl, by kernel_rfl⟩
theorem gNM : GNM tab := ⟨by kernel_rfl, by kernel_rfl, by kernel_rfl, by kernel_rfl, by kernel_rfl, by kernel_rfl, by kernel_rfl, by kernel_rfl, by kernel_rfl, by kernel_rfl, by kernel_rfl, by kernel_rfl, by kernel_rfl, by kernel_rfl, by kernel_rfl, by kernel_rfl, by kernel_rfl, by kernel_rfl, by kernel_rfl⟩
theorem gS9 : GS9 tab := ⟨by kernel_rfl, by kernel_rfl⟩
theorem gN9 : GN9 tab := ⟨by kernel_rfl⟩
end Am.F
