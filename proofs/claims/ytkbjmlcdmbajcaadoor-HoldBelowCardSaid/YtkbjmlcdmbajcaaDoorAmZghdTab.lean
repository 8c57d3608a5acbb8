/- The table. -/
import Derived.Test.YtkbjmlcdmbajcaaDoorAmJe
import Derived.Test.YtkbjmlcdmbajcaaDoorAmJh
import Derived.Test.YtkbjmlcdmbajcaaDoorAmJi
import Derived.Test.YtkbjmlcdmbajcaaDoorAmGS10W
import Derived.Test.YtkbjmlcdmbajcaaDoorAmGP10W
import Derived.Test.YtkbjmlcdmbajcaaDoorAmGB10W
import Derived.Test.YtkbjmlcdmbajcaaDoorAmGW10W
import Derived.Test.YtkbjmlcdmbajcaaDoorAmJd
set_option maxRecDepth 100000
namespace Am.F
open Go Am
noncomputable def tab0:ETree:=(.node e151 (.node e31 (.node e20 (.node e15 (.node e12 (.node e11 (.node e10 .leaf .leaf) .leaf) (.node e14 (.node e13 .leaf .leaf) .leaf)) (.node e18 (.node e17 (.node e16 .leaf .leaf) .leaf) (.node e19 .leaf .leaf))) (.node e26 (.node e24 (.node e23 (.node e22 .leaf .leaf) .leaf) (.node e25 .leaf .leaf)) (.node e29 (.node e28 (.node e27 .leaf .leaf) .leaf) (.node e30 .leaf .leaf)))) (.node e42 (.node e37 (.node e34 (.node e33 (.node e32 .leaf .leaf) .leaf) (.node e36 (.node e35 .leaf .leaf) .leaf)) (.node e40 (.node e39 (.node e38 .leaf .leaf) .leaf) (.node e41 .leaf .leaf))) (.node e48 (.node e46 (.node e45 (.node e44 .leaf .leaf) .leaf) (.node e47 .leaf .leaf)) (.node e149 (.node e133 (.node e131 .leaf .leaf) .leaf) (.node e150 .leaf .leaf))))) (.node e210 (.node e187 (.node e181 (.node e157 (.node e155 (.node e152 .leaf .leaf) .leaf) (.node e180 (.node e179 .leaf .leaf) .leaf)) (.node e185 (.node e184 (.node e182 .leaf .leaf) .leaf) (.node e186 .leaf .leaf))) (.node e205 (.node e203 (.node e202 (.node e188 .leaf .leaf) .leaf) (.node e204 .leaf .leaf)) (.node e208 (.node e207 (.node e206 .leaf .leaf) .leaf) (.node e209 .leaf .leaf)))) (.node e230 (.node e215 (.node e213 (.node e212 (.node e211 .leaf .leaf) .leaf) (.node e214 .leaf .leaf)) (.node e228 (.node e227 (.node e226 .leaf .leaf) .leaf) (.node e229 .leaf .leaf))) (.node e262 (.node e233 (.node e232 (.node e231 .leaf .leaf) .leaf) (.node e261 .leaf .leaf)) (.node e272 (.node e271 (.node e270 .leaf .leaf) .leaf) (.node e276 .leaf .leaf))))))
noncomputable def tab:ETree:=(.node e151 (.node e31 (.node e20 (.node e15 (.node e12 (.node e11 (.node e10 .leaf .leaf) .leaf) (.node e14 (.node e13 .leaf .leaf) .leaf)) (.node e18 (.node e17 (.node e16 .leaf .leaf) .leaf) (.node e19 .leaf .leaf))) (.node e26 (.node e24 (.node e23 (.node e22 .leaf .leaf) .leaf) (.node e25 .leaf .leaf)) (.node e29 (.node e28 (.node e27 .leaf .leaf) .leaf) (.node e30 .leaf .leaf)))) (.node e42 (.node e37 (.node e34 (.node e33 (.node e32 .leaf .leaf) .leaf) (.node e36 (.node e35 .leaf .leaf) .leaf)) (.node e40 (.node e39 (.node e38 .leaf .leaf) .leaf) (.node e41 .leaf .leaf))) (.node e48 (.node e46 (.node e45 (.node e44 .leaf .leaf) .leaf) (.node e47 .leaf .leaf)) (.node e149 (.node e133 (.node e131 .leaf .leaf) .leaf) (.node (eAw 150) .leaf .leaf))))) (.node e210 (.node e187 (.node e181 (.node e157 (.node e155 (.node e152 .leaf .leaf) .leaf) (.node e180 (.node e179 .leaf .leaf) .leaf)) (.node e185 (.node e184 (.node e182 .leaf .leaf) .leaf) (.node e186 .leaf .leaf))) (.node e205 (.node e203 (.node e202 (.node e188 .leaf .leaf) .leaf) (.node e204 .leaf .leaf)) (.node e208 (.node e207 (.node e206 .leaf .leaf) .leaf) (.node e209 .leaf .leaf)))) (.node e230 (.node e215 (.node e213 (.node e212 (.node e211 .leaf .leaf) .leaf) (.node e214 .leaf .leaf)) (.node e228 (.node e227 (.node e226 .leaf .leaf) .leaf) (.node e229 .leaf .leaf))) (.node e262 (.node e233 (.node e232 (.node e231 .leaf .leaf) .leaf) (.node e261 .leaf .leaf)) (.node e272 (.node e271 (.node e270 .leaf .leaf) .leaf) (.node e276 .leaf .leaf))))))
theorem tab0_0:tab0.T 0=none:=by kernel_rfl
theorem tab0_ok:tab0.okB=true:=by kernel_rfl
theorem zig:tab0.among [29,42,44,45]=true:=by kernel_rfl
theorem iok0:IOk tab0.T stdI:=by
 refine iok_of zig ?_
 intro k hk
 simp only[List.mem_cons,List.not_mem_nil,or_false] at hk
 rcases hk with rfl|rfl|rfl|rfl
 ·exact⟨zfl,by kernel_rfl,fun args h v h' S hi ha=>by rw[zgK] at hi;exact zhQ hi ha⟩
 ·exact⟨zjX,by kernel_rfl,fun args h v h' S hi ha=>by rw[zi7] at hi;exact zhO hi ha⟩
 ·exact⟨zba,by kernel_rfl,fun args h v h' S hi ha=>by rw[zgJ] at hi;exact zd7 hi ha⟩
 ·exact⟨zfA,by kernel_rfl,fun args h v h' S hi ha=>by rw[zgI] at hi;exact zia hi ha⟩
theorem tab_0:tab.T 0=none:=by kernel_rfl
theorem tab_ok:tab.okB=true:=by kernel_rfl
theorem zi0:tab.among [29,42,44,45,150]=true:=by kernel_rfl
theorem iok:IOk tab.T stdI:=by
 refine iok_of zi0 ?_
 intro k hk
 simp only[List.mem_cons,List.not_mem_nil,or_false] at hk
 rcases hk with rfl|rfl|rfl|rfl|rfl
 ·exact⟨zfl,by kernel_rfl,fun args h v h' S hi ha=>by rw[zgK] at hi;exact zhQ hi ha⟩
 ·exact⟨zjX,by kernel_rfl,fun args h v h' S hi ha=>by rw[zi7] at hi;exact zhO hi ha⟩
 ·exact⟨zba,by kernel_rfl,fun args h v h' S hi ha=>by rw[zgJ] at hi;exact zd7 hi ha⟩
 ·exact⟨zfA,by kernel_rfl,fun args h v h' S hi ha=>by rw[zgI] at hi;exact zia hi ha⟩
 ·exact⟨awkG,by kernel_rfl,fun args h v h' S hi ha=>awkI_ok hi ha⟩
theorem gaw:tab.get 150=some (eAw 150):=by kernel_rfl
theorem gi:GI tab:=⟨by kernel_rfl,by kernel_rfl,by kernel_rfl,by kernel_rfl⟩
theorem gA:GA tab:=⟨by kernel_rfl,by kernel_rfl,by kernel_rfl,by kernel_rfl,by kernel_rfl,by kernel_rfl,by kernel_rfl,by kernel_rfl,by kernel_rfl,by kernel_rfl,by kernel_rfl,by kernel_rfl,by kernel_rfl,by kernel_rfl,by kernel_rfl,by kernel_rfl,by kernel_rfl,by kernel_rfl,by kernel_rfl,by kernel_rfl,by kernel_rfl,by kernel_rfl,by kernel_rfl,by kernel_rfl,by kernel_rfl,by kernel_rfl,by kernel_rfl,by kernel_rfl,by kernel_rfl,by kernel_rfl,by kernel_rfl,by kernel_rfl,by kernel_rfl⟩
theorem gC:GC tab:=⟨by kernel_rfl,by kernel_rfl,by kernel_rfl,by kernel_rfl,by kernel_rfl,by kernel_rfl,by kernel_rfl,by kernel_rfl,by kernel_rfl,by kernel_rfl,by kernel_rfl,by kernel_rfl,by kernel_rfl,by kernel_rfl,by kernel_rfl,by kernel_rfl,by kernel_rfl,by kernel_rfl,by kernel_rfl⟩
theorem gNM:GNM tab:=⟨by kernel_rfl,by kernel_rfl,by kernel_rfl,by kernel_rfl,by kernel_rfl,by kernel_rfl,by kernel_rfl,by kernel_rfl,by kernel_rfl,by kernel_rfl,by kernel_rfl,by kernel_rfl,by kernel_rfl,by kernel_rfl,by kernel_rfl,by kernel_rfl,by kernel_rfl,by kernel_rfl,by kernel_rfl⟩
theorem gS10:GS10 tab:=⟨by kernel_rfl,by kernel_rfl,by kernel_rfl,by kernel_rfl⟩
theorem gP10:GP10 tab:=⟨by kernel_rfl⟩
theorem gB10:GB10 tab:=⟨by kernel_rfl⟩
end Am.F
