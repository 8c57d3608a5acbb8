/- The table. -/
import Derived.Test.YtpalaplnolcimaaGreatDoorAmJe
import Derived.Test.YtpalaplnolcimaaGreatDoorAmGCW
import Derived.Test.YtpalaplnolcimaaGreatDoorAmGBW
import Derived.Test.YtpalaplnolcimaaGreatDoorAmGPW
import Derived.Test.YtpalaplnolcimaaGreatDoorAmGT12W
import Derived.Test.YtpalaplnolcimaaGreatDoorAmGA12W
import Derived.Test.YtpalaplnolcimaaGreatDoorAmGS12W
import Derived.Test.YtpalaplnolcimaaGreatDoorAmJd
set_option maxRecDepth 100000
namespace Am.F
open Go Am
noncomputable def tab0 : ETree := (.node e140 (.node e30 (.node e19 (.node e14 (.node e12 (.node e11 (.node e10 .leaf .leaf) .leaf) (.node e13 .leaf .leaf)) (.node e17 (.node e16 (.node e15 .leaf .leaf) .leaf) (.node e18 .leaf .leaf))) (.node e25 (.node e23 (.node e22 (.node e20 .leaf .leaf) .leaf) (.node e24 .leaf .leaf)) (.node e28 (.node e27 (.node e26 .leaf .leaf) .leaf) (.node e29 .leaf .leaf)))) (.node e40 (.node e35 (.node e33 (.node e32 (.node e31 .leaf .leaf) .leaf) (.node e34 .leaf .leaf)) (.node e38 (.node e37 (.node e36 .leaf .leaf) .leaf) (.node e39 .leaf .leaf))) (.node e46 (.node e44 (.node e42 (.node e41 .leaf .leaf) .leaf) (.node e45 .leaf .leaf)) (.node e135 (.node e48 (.node e47 .leaf .leaf) .leaf) (.node e138 .leaf .leaf))))) (.node e258 (.node e194 (.node e167 (.node e157 (.node e156 (.node e149 .leaf .leaf) .leaf) (.node e166 .leaf .leaf)) (.node e187 (.node e186 (.node e179 .leaf .leaf) .leaf) (.node e188 .leaf .leaf))) (.node e214 (.node e212 (.node e203 (.node e202 .leaf .leaf) .leaf) (.node e213 .leaf .leaf)) (.node e229 (.node e223 (.node e215 .leaf .leaf) .leaf) (.node e244 .leaf .leaf)))) (.node e273 (.node e263 (.node e261 (.node e260 (.node e259 .leaf .leaf) .leaf) (.node e262 .leaf .leaf)) (.node e271 (.node e270 (.node e269 .leaf .leaf) .leaf) (.node e272 .leaf .leaf))) (.node e298 (.node e296 (.node e295 (.node e276 .leaf .leaf) .leaf) (.node e297 .leaf .leaf)) (.node e300 (.node e299 .leaf .leaf) (.node e301 .leaf .leaf))))))
noncomputable def tab : ETree := (.node e135 (.node e29 (.node e19 (.node e14 (.node e12 (.node e11 (.node e10 .leaf .leaf) .leaf) (.node e13 .leaf .leaf)) (.node e17 (.node e16 (.node e15 .leaf .leaf) .leaf) (.node e18 .leaf .leaf))) (.node e25 (.node e23 (.node e22 (.node e20 .leaf .leaf) .leaf) (.node e24 .leaf .leaf)) (.node e27 (.node e26 .leaf .leaf) (.node e28 .leaf .leaf)))) (.node e39 (.node e34 (.node e32 (.node e31 (.node e30 .leaf .leaf) .leaf) (.node e33 .leaf .leaf)) (.node e37 (.node e36 (.node e35 .leaf .leaf) .leaf) (.node e38 .leaf .leaf))) (.node e45 (.node e42 (.node e41 (.node e40 .leaf .leaf) .leaf) (.node e44 .leaf .leaf)) (.node e47 (.node e46 .leaf .leaf) (.node e48 .leaf .leaf))))) (.node e223 (.node e187 (.node e157 (.node e149 (.node e140 (.node e138 .leaf .leaf) .leaf) (.node e156 .leaf .leaf)) (.node e179 (.node e167 (.node e166 .leaf .leaf) .leaf) (.node e186 .leaf .leaf))) (.node e212 (.node e202 (.node e194 (.node e188 .leaf .leaf) .leaf) (.node e203 .leaf .leaf)) (.node e214 (.node e213 .leaf .leaf) (.node e215 .leaf .leaf)))) (.node e272 (.node e261 (.node e258 (.node e244 (.node e229 .leaf .leaf) .leaf) (.node (eAw 259) .leaf .leaf)) (.node e270 (.node e269 (.node e262 .leaf .leaf) .leaf) (.node e271 .leaf .leaf))) (.node e298 (.node e296 (.node e295 (.node e276 .leaf .leaf) .leaf) (.node e297 .leaf .leaf)) (.node e300 (.node e299 .leaf .leaf) (.node e301 .leaf .leaf))))))
theorem tab0_0 : tab0.T 0 = none := by kernel_rfl
theorem tab0_ok : tab0.okB = true := by kernel_rfl
theorem tab0_among : tab0.among [29, 42, 44, 45] = true := by kernel_rfl
theorem iok0 : IOk tab0.T stdI := by
  refine iok_of tab0_among ?_
  intro k hk
  simp only [List.mem_cons, List.not_mem_nil, or_false] at hk
  rcases hk with rfl | rfl | rfl | rfl
  · exact ⟨itoaG, by kernel_rfl, fun args h v h' S hi ha => by rw [stdI_29] at hi; exact itoaI_ok hi ha⟩
  · exact ⟨joinG, by kernel_rfl, fun args h v h' S hi ha => by rw [stdI_42] at hi; exact joinI_ok hi ha⟩
  · exact ⟨idxAny2G, by kernel_rfl, fun args h v h' S hi ha => by rw [stdI_44] at hi; exact idxAny2I_ok hi ha⟩
  · exact ⟨atoiG, by kernel_rfl, fun args h v h' S hi ha => by rw [stdI_45] at hi; exact atoiI_ok hi ha⟩
theorem tab_0 : tab.T 0 = none := by kernel_rfl
theorem tab_ok : tab.okB = true := by kernel_rfl
theorem tab_among : tab.among [29, 42, 44, 45, 259] = true := by kernel_rfl
theorem iok : IOk tab.T stdI := by
  refine iok_of tab_among ?_
  intro k hk
  simp only [List.mem_cons, List.not_mem_nil, or_false] at hk
  rcases hk with rfl | rfl | rfl | rfl | rfl
  · exact ⟨itoaG, by kernel_rfl, fun args h v h' S hi ha => by rw [stdI_29] at hi; exact itoaI_ok hi ha⟩
  · exact ⟨joinG, by kernel_rfl, fun args h v h' S hi ha => by rw [stdI_42] at hi; exact joinI_ok hi ha⟩
  · exact ⟨idxAny2G, by kernel_rfl, fun args h v h' S hi ha => by rw [stdI_44] at hi; exact idxAny2I_ok hi ha⟩
  · exact ⟨atoiG, by kernel_rfl, fun args h v h' S hi ha => by rw [stdI_45] at hi; exact atoiI_ok hi ha⟩
  · exact ⟨awkG, by kernel_rfl, fun args h v h' S hi ha => awkI_ok hi ha⟩
theorem gaw : tab.get 259 = some (eAw 259) := by kernel_rfl
theorem gi : GI tab := ⟨by kernel_rfl, by kernel_rfl, by kernel_rfl, by kernel_rfl⟩
theorem gA : GA tab := ⟨by kernel_rfl, by kernel_rfl, by kernel_rfl, by kernel_rfl, by kernel_rfl, by kernel_rfl, by kernel_rfl, by kernel_rfl, by kernel_rfl, by kernel_rfl, by kernel_rfl, by kernel_rfl, by kernel_rfl, by kernel_rfl, by kernel_rfl, by kernel_rfl, by kernel_rfl, by kernel_rfl, by kernel_rfl, by kernel_rfl, by kernel_rfl, by kernel_rfl, by kernel_rfl, by kernel_rfl, by kernel_rfl, by kernel_rfl, by kernel_rfl, by kernel_rfl, by kernel_rfl, by kernel_rfl, by kernel_rfl, by kernel_rfl, by kernel_rfl⟩
theorem gC : GC tab := ⟨by kernel_rfl, by kernel_rfl, by kernel_rfl, by kernel_rfl, by kernel_rfl, by kernel_rfl, by kernel_rfl, by kernel_rfl, by kernel_rfl, by kernel_rfl, by kernel_rfl, by kernel_rfl, by kernel_rfl, by kernel_rfl, by kernel_rfl, by kernel_rfl, by kernel_rfl, by kernel_rfl, by kernel_rfl⟩
theorem gB : GB tab := ⟨by kernel_rfl, by kernel_rfl, by kernel_rfl, by kernel_rfl, by kernel_rfl, by kernel_rfl, by kernel_rfl⟩
theorem gP : GP tab := ⟨by kernel_rfl, by kernel_rfl, by kernel_rfl, by kernel_rfl, by kernel_rfl, by kernel_rfl, by kernel_rfl⟩
theorem gT12 : GT12 tab := ⟨by kernel_rfl, by kernel_rfl, by kernel_rfl, by kernel_rfl⟩
end Am.F
