/- The table. -/
import Derived.Test.YtkbjmlcdmbajcaaGreatDoorAmJe
import Derived.Test.YtkbjmlcdmbajcaaGreatDoorAmJh
import Derived.Test.YtkbjmlcdmbajcaaGreatDoorAmJi
import Derived.Test.YtkbjmlcdmbajcaaGreatDoorAmJk
import Derived.Test.YtkbjmlcdmbajcaaGreatDoorAmGS10W
import Derived.Test.YtkbjmlcdmbajcaaGreatDoorAmGBLW
import Derived.Test.YtkbjmlcdmbajcaaGreatDoorAmGR10W
import Derived.Test.YtkbjmlcdmbajcaaGreatDoorAmGV10W
import Derived.Test.YtkbjmlcdmbajcaaGreatDoorAmGW10W
import Derived.Test.YtkbjmlcdmbajcaaGreatDoorAmJd
set_option maxRecDepth 100000
namespace Am.F
open Go Am
noncomputable def tab0:ETree:=(.node e168 (.node e34 (.node e22 (.node e15 (.node e12 (.node e11 (.node e10 .leaf .leaf) .leaf) (.node e14 (.node e13 .leaf .leaf) .leaf)) (.node e18 (.node e17 (.node e16 .leaf .leaf) .leaf) (.node e20 (.node e19 .leaf .leaf) .leaf))) (.node e28 (.node e25 (.node e24 (.node e23 .leaf .leaf) .leaf) (.node e27 (.node e26 .leaf .leaf) .leaf)) (.node e31 (.node e30 (.node e29 .leaf .leaf) .leaf) (.node e33 (.node e32 .leaf .leaf) .leaf)))) (.node e47 (.node e40 (.node e37 (.node e36 (.node e35 .leaf .leaf) .leaf) (.node e39 (.node e38 .leaf .leaf) .leaf)) (.node e44 (.node e42 (.node e41 .leaf .leaf) .leaf) (.node e46 (.node e45 .leaf .leaf) .leaf))) (.node e149 (.node e145 (.node e142 (.node e48 .leaf .leaf) .leaf) (.node e147 (.node e146 .leaf .leaf) .leaf)) (.node e152 (.node e151 (.node e150 .leaf .leaf) .leaf) (.node e157 (.node e155 .leaf .leaf) .leaf))))) (.node e207 (.node e186 (.node e179 (.node e172 (.node e170 (.node e169 .leaf .leaf) .leaf) (.node e174 (.node e173 .leaf .leaf) .leaf)) (.node e182 (.node e181 (.node e180 .leaf .leaf) .leaf) (.node e185 (.node e184 .leaf .leaf) .leaf))) (.node e198 (.node e195 (.node e188 (.node e187 .leaf .leaf) .leaf) (.node e197 (.node e196 .leaf .leaf) .leaf)) (.node e204 (.node e203 (.node e202 .leaf .leaf) .leaf) (.node e206 (.node e205 .leaf .leaf) .leaf)))) (.node e229 (.node e213 (.node e210 (.node e209 (.node e208 .leaf .leaf) .leaf) (.node e212 (.node e211 .leaf .leaf) .leaf)) (.node e226 (.node e215 (.node e214 .leaf .leaf) .leaf) (.node e228 (.node e227 .leaf .leaf) .leaf))) (.node e261 (.node e232 (.node e231 (.node e230 .leaf .leaf) .leaf) (.node e236 (.node e233 .leaf .leaf) .leaf)) (.node e271 (.node e270 (.node e262 .leaf .leaf) .leaf) (.node e276 (.node e272 .leaf .leaf) .leaf))))))
noncomputable def tab:ETree:=(.node e168 (.node e34 (.node e22 (.node e15 (.node e12 (.node e11 (.node e10 .leaf .leaf) .leaf) (.node e14 (.node e13 .leaf .leaf) .leaf)) (.node e18 (.node e17 (.node e16 .leaf .leaf) .leaf) (.node e20 (.node e19 .leaf .leaf) .leaf))) (.node e28 (.node e25 (.node e24 (.node e23 .leaf .leaf) .leaf) (.node e27 (.node e26 .leaf .leaf) .leaf)) (.node e31 (.node e30 (.node e29 .leaf .leaf) .leaf) (.node e33 (.node e32 .leaf .leaf) .leaf)))) (.node e47 (.node e40 (.node e37 (.node e36 (.node e35 .leaf .leaf) .leaf) (.node e39 (.node e38 .leaf .leaf) .leaf)) (.node e44 (.node e42 (.node e41 .leaf .leaf) .leaf) (.node e46 (.node e45 .leaf .leaf) .leaf))) (.node e149 (.node e145 (.node e142 (.node e48 .leaf .leaf) .leaf) (.node e147 (.node e146 .leaf .leaf) .leaf)) (.node e152 (.node e151 (.node (eAw 150) .leaf .leaf) .leaf) (.node e157 (.node e155 .leaf .leaf) .leaf))))) (.node e207 (.node e186 (.node e179 (.node e172 (.node e170 (.node e169 .leaf .leaf) .leaf) (.node e174 (.node e173 .leaf .leaf) .leaf)) (.node e182 (.node e181 (.node e180 .leaf .leaf) .leaf) (.node e185 (.node e184 .leaf .leaf) .leaf))) (.node e198 (.node e195 (.node e188 (.node e187 .leaf .leaf) .leaf) (.node e197 (.node e196 .leaf .leaf) .leaf)) (.node e204 (.node e203 (.node e202 .leaf .leaf) .leaf) (.node e206 (.node e205 .leaf .leaf) .leaf)))) (.node e229 (.node e213 (.node e210 (.node e209 (.node e208 .leaf .leaf) .leaf) (.node e212 (.node e211 .leaf .leaf) .leaf)) (.node e226 (.node e215 (.node e214 .leaf .leaf) .leaf) (.node e228 (.node e227 .leaf .leaf) .leaf))) (.node e261 (.node e232 (.node e231 (.node e230 .leaf .leaf) .leaf) (.node e236 (.node e233 .leaf .leaf) .leaf)) (.node e271 (.node e270 (.node e262 .leaf .leaf) .leaf) (.node e276 (.node e272 .leaf .leaf) .leaf))))))
theorem tab0_0:tab0.T 0=none:=by kernel_rfl
theorem tab0_ok:tab0.okB=true:=by kernel_rfl
theorem tab0_among:tab0.among [29,42,44,45]=true:=by kernel_rfl
theorem iok0:IOk tab0.T stdI:=by
 refine zir tab0_among ?_;intro k hk;simp only[List.mem_cons,List.not_mem_nil,or_false] at hk;rcases hk with rfl|rfl|rfl|rfl
 ·exact⟨zdL,by kernel_rfl,λargs h v h' S hi ha=>by rw[zeq] at hi;exact zd9 hi ha⟩
 ·exact⟨zhJ,by kernel_rfl,λargs h v h' S hi ha=>by rw[zfL] at hi;exact zd7 hi ha⟩
 ·exact⟨zaz,by kernel_rfl,λargs h v h' S hi ha=>by rw[zep] at hi;exact zck hi ha⟩
 ·exact⟨zdQ,by kernel_rfl,λargs h v h' S hi ha=>by rw[zeo] at hi;exact zeh hi ha⟩
theorem tab_0:tab.T 0=none:=by kernel_rfl
theorem tab_ok:tab.okB=true:=by kernel_rfl
theorem tab_among:tab.among [29,42,44,45,150]=true:=by kernel_rfl
theorem iok:IOk tab.T stdI:=by
 refine zir tab_among ?_;intro k hk;simp only[List.mem_cons,List.not_mem_nil,or_false] at hk;rcases hk with rfl|rfl|rfl|rfl|rfl
 ·exact⟨zdL,by kernel_rfl,λargs h v h' S hi ha=>by rw[zeq] at hi;exact zd9 hi ha⟩
 ·exact⟨zhJ,by kernel_rfl,λargs h v h' S hi ha=>by rw[zfL] at hi;exact zd7 hi ha⟩
 ·exact⟨zaz,by kernel_rfl,λargs h v h' S hi ha=>by rw[zep] at hi;exact zck hi ha⟩
 ·exact⟨zdQ,by kernel_rfl,λargs h v h' S hi ha=>by rw[zeo] at hi;exact zeh hi ha⟩
 ·exact⟨awkG,by kernel_rfl,λargs h v h' S hi ha=>zkT hi ha⟩
theorem gaw:tab.get 150=some (eAw 150):=by kernel_rfl
theorem gi:GI tab:=⟨by kernel_rfl,by kernel_rfl,by kernel_rfl,by kernel_rfl⟩
theorem gA:GA tab:=⟨by kernel_rfl,by kernel_rfl,by kernel_rfl,by kernel_rfl,by kernel_rfl,by kernel_rfl,by kernel_rfl,by kernel_rfl,by kernel_rfl,by kernel_rfl,by kernel_rfl,by kernel_rfl,by kernel_rfl,by kernel_rfl,by kernel_rfl,by kernel_rfl,by kernel_rfl,by kernel_rfl,by kernel_rfl,by kernel_rfl,by kernel_rfl,by kernel_rfl,by kernel_rfl,by kernel_rfl,by kernel_rfl,by kernel_rfl,by kernel_rfl,by kernel_rfl,by kernel_rfl,by kernel_rfl,by kernel_rfl,by kernel_rfl,by kernel_rfl⟩
theorem gC:GC tab:=⟨by kernel_rfl,by kernel_rfl,by kernel_rfl,by kernel_rfl,by kernel_rfl,by kernel_rfl,by kernel_rfl,by kernel_rfl,by kernel_rfl,by kernel_rfl,by kernel_rfl,by kernel_rfl,by kernel_rfl,by kernel_rfl,by kernel_rfl,by kernel_rfl,by kernel_rfl,by kernel_rfl,by kernel_rfl⟩
theorem gNM:GNM tab:=⟨by kernel_rfl,by kernel_rfl,by kernel_rfl,by kernel_rfl,by kernel_rfl,by kernel_rfl,by kernel_rfl,by kernel_rfl,by kernel_rfl,by kernel_rfl,by kernel_rfl,by kernel_rfl,by kernel_rfl,by kernel_rfl,by kernel_rfl,by kernel_rfl,by kernel_rfl,by kernel_rfl,by kernel_rfl⟩
theorem gR9:GR9 tab:=⟨by kernel_rfl,by kernel_rfl,by kernel_rfl,by kernel_rfl,by kernel_rfl,by kernel_rfl,by kernel_rfl,by kernel_rfl,by kernel_rfl,by kernel_rfl⟩
theorem gS10:GS10 tab:=⟨by kernel_rfl,by kernel_rfl,by kernel_rfl,by kernel_rfl⟩
theorem gBL:GBL tab:=⟨by kernel_rfl,by kernel_rfl⟩
theorem gR10:GR10 tab:=⟨by kernel_rfl,by kernel_rfl⟩
theorem gV10:GV10 tab:=⟨by kernel_rfl⟩
end Am.F
