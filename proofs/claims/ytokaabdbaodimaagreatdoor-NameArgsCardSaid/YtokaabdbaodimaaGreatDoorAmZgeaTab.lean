/- The table. -/
import Derived.Test.YtokaabdbaodimaaGreatDoorAmJe
import Derived.Test.YtokaabdbaodimaaGreatDoorAmJh
import Derived.Test.YtokaabdbaodimaaGreatDoorAmJi
import Derived.Test.YtokaabdbaodimaaGreatDoorAmJk
import Derived.Test.YtokaabdbaodimaaGreatDoorAmGG9W
import Derived.Test.YtokaabdbaodimaaGreatDoorAmGA9W
import Derived.Test.YtokaabdbaodimaaGreatDoorAmGS9W
import Derived.Test.YtokaabdbaodimaaGreatDoorAmJd
set_option maxRecDepth 100000
namespace Am.F
open Go Am
noncomputable def tab0:ETree:=(.node e168 (.node e33 (.node e22 (.node e15 (.node e12 (.node e11 (.node e10 .leaf .leaf) .leaf) (.node e14 (.node e13 .leaf .leaf) .leaf)) (.node e18 (.node e17 (.node e16 .leaf .leaf) .leaf) (.node e20 (.node e19 .leaf .leaf) .leaf))) (.node e28 (.node e25 (.node e24 (.node e23 .leaf .leaf) .leaf) (.node e27 (.node e26 .leaf .leaf) .leaf)) (.node e31 (.node e30 (.node e29 .leaf .leaf) .leaf) (.node e32 .leaf .leaf)))) (.node e45 (.node e39 (.node e36 (.node e35 (.node e34 .leaf .leaf) .leaf) (.node e38 (.node e37 .leaf .leaf) .leaf)) (.node e42 (.node e41 (.node e40 .leaf .leaf) .leaf) (.node e44 .leaf .leaf))) (.node e149 (.node e48 (.node e47 (.node e46 .leaf .leaf) .leaf) (.node e147 (.node e145 .leaf .leaf) .leaf)) (.node e155 (.node e154 (.node e153 .leaf .leaf) .leaf) (.node e157 .leaf .leaf))))) (.node e209 (.node e195 (.node e183 (.node e174 (.node e172 (.node e170 .leaf .leaf) .leaf) (.node e181 (.node e179 .leaf .leaf) .leaf)) (.node e186 (.node e185 (.node e184 .leaf .leaf) .leaf) (.node e188 (.node e187 .leaf .leaf) .leaf))) (.node e204 (.node e198 (.node e197 (.node e196 .leaf .leaf) .leaf) (.node e203 (.node e202 .leaf .leaf) .leaf)) (.node e207 (.node e206 (.node e205 .leaf .leaf) .leaf) (.node e208 .leaf .leaf)))) (.node e230 (.node e215 (.node e212 (.node e211 (.node e210 .leaf .leaf) .leaf) (.node e214 (.node e213 .leaf .leaf) .leaf)) (.node e228 (.node e227 (.node e226 .leaf .leaf) .leaf) (.node e229 .leaf .leaf))) (.node e262 (.node e233 (.node e232 (.node e231 .leaf .leaf) .leaf) (.node e261 (.node e243 .leaf .leaf) .leaf)) (.node e272 (.node e271 (.node e270 .leaf .leaf) .leaf) (.node e276 .leaf .leaf))))))
noncomputable def tab:ETree:=(.node e168 (.node e32 (.node e20 (.node e15 (.node e12 (.node e11 (.node e10 .leaf .leaf) .leaf) (.node e14 (.node e13 .leaf .leaf) .leaf)) (.node e18 (.node e17 (.node e16 .leaf .leaf) .leaf) (.node e19 .leaf .leaf))) (.node e27 (.node e24 (.node e23 (.node e22 .leaf .leaf) .leaf) (.node e26 (.node e25 .leaf .leaf) .leaf)) (.node e30 (.node e29 (.node e28 .leaf .leaf) .leaf) (.node e31 .leaf .leaf)))) (.node e44 (.node e38 (.node e35 (.node e34 (.node e33 .leaf .leaf) .leaf) (.node e37 (.node e36 .leaf .leaf) .leaf)) (.node e41 (.node e40 (.node e39 .leaf .leaf) .leaf) (.node e42 .leaf .leaf))) (.node e147 (.node e47 (.node e46 (.node e45 .leaf .leaf) .leaf) (.node e145 (.node e48 .leaf .leaf) .leaf)) (.node e155 (.node (eAw 153) (.node e149 .leaf .leaf) .leaf) (.node e157 .leaf .leaf))))) (.node e209 (.node e195 (.node e184 (.node e174 (.node e172 (.node e170 .leaf .leaf) .leaf) (.node e181 (.node e179 .leaf .leaf) .leaf)) (.node e187 (.node e186 (.node e185 .leaf .leaf) .leaf) (.node e188 .leaf .leaf))) (.node e204 (.node e198 (.node e197 (.node e196 .leaf .leaf) .leaf) (.node e203 (.node e202 .leaf .leaf) .leaf)) (.node e207 (.node e206 (.node e205 .leaf .leaf) .leaf) (.node e208 .leaf .leaf)))) (.node e230 (.node e215 (.node e212 (.node e211 (.node e210 .leaf .leaf) .leaf) (.node e214 (.node e213 .leaf .leaf) .leaf)) (.node e228 (.node e227 (.node e226 .leaf .leaf) .leaf) (.node e229 .leaf .leaf))) (.node e262 (.node e233 (.node e232 (.node e231 .leaf .leaf) .leaf) (.node e261 (.node e243 .leaf .leaf) .leaf)) (.node e272 (.node e271 (.node e270 .leaf .leaf) .leaf) (.node e276 .leaf .leaf))))))
theorem tab0_0:tab0.T 0=none:=by kernel_rfl
theorem tab0_ok:tab0.okB=true:=by kernel_rfl
theorem tab0_among:tab0.among [29,42,44,45]=true:=by kernel_rfl
theorem iok0:IOk tab0.T stdI:=by
 refine zfC tab0_among ?_
 intro k hk
 simp only[List.mem_cons,List.not_mem_nil,or_false] at hk
 rcases hk with rfl|rfl|rfl|rfl
 ·exact⟨zcH,by kernel_rfl,fun args h v h' S hi ha=>by rw[zdk] at hi;exact zc0 hi ha⟩
 ·exact⟨zcG,by kernel_rfl,fun args h v h' S hi ha=>by rw[zdj] at hi;exact zcZ hi ha⟩
 ·exact⟨zal,by kernel_rfl,fun args h v h' S hi ha=>by rw[zdi] at hi;exact za7 hi ha⟩
 ·exact⟨zcQ,by kernel_rfl,fun args h v h' S hi ha=>by rw[zdh] at hi;exact zc4 hi ha⟩
theorem tab_0:tab.T 0=none:=by kernel_rfl
theorem tab_ok:tab.okB=true:=by kernel_rfl
theorem tab_among:tab.among [29,42,44,45,153]=true:=by kernel_rfl
theorem iok:IOk tab.T stdI:=by
 refine zfC tab_among ?_
 intro k hk
 simp only[List.mem_cons,List.not_mem_nil,or_false] at hk
 rcases hk with rfl|rfl|rfl|rfl|rfl
 ·exact⟨zcH,by kernel_rfl,fun args h v h' S hi ha=>by rw[zdk] at hi;exact zc0 hi ha⟩
 ·exact⟨zcG,by kernel_rfl,fun args h v h' S hi ha=>by rw[zdj] at hi;exact zcZ hi ha⟩
 ·exact⟨zal,by kernel_rfl,fun args h v h' S hi ha=>by rw[zdi] at hi;exact za7 hi ha⟩
 ·exact⟨zcQ,by kernel_rfl,fun args h v h' S hi ha=>by rw[zdh] at hi;exact zc4 hi ha⟩
 ·exact⟨awkG,by kernel_rfl,fun args h v h' S hi ha=>zh0 hi ha⟩
theorem gaw:tab.get 153=some (eAw 153):=by kernel_rfl
theorem gi:GI tab:=⟨by kernel_rfl,by kernel_rfl,by kernel_rfl,by kernel_rfl⟩
theorem gA:GA tab:=⟨by kernel_rfl,by kernel_rfl,by kernel_rfl,by kernel_rfl,by kernel_rfl,by kernel_rfl,by kernel_rfl,by kernel_rfl,by kernel_rfl,by kernel_rfl,by kernel_rfl,by kernel_rfl,by kernel_rfl,by kernel_rfl,by kernel_rfl,by kernel_rfl,by kernel_rfl,by kernel_rfl,by kernel_rfl,by kernel_rfl,by kernel_rfl,by kernel_rfl,by kernel_rfl,by kernel_rfl,by kernel_rfl,by kernel_rfl,by kernel_rfl,by kernel_rfl,by kernel_rfl,by kernel_rfl,by kernel_rfl,by kernel_rfl,by kernel_rfl⟩
theorem gC:GC tab:=⟨by kernel_rfl,by kernel_rfl,by kernel_rfl,by kernel_rfl,by kernel_rfl,by kernel_rfl,by kernel_rfl,by kernel_rfl,by kernel_rfl,by kernel_rfl,by kernel_rfl,by kernel_rfl,by kernel_rfl,by kernel_rfl,by kernel_rfl,by kernel_rfl,by kernel_rfl,by kernel_rfl,by kernel_rfl⟩
theorem gNM:GNM tab:=⟨by kernel_rfl,by kernel_rfl,by kernel_rfl,by kernel_rfl,by kernel_rfl,by kernel_rfl,by kernel_rfl,by kernel_rfl,by kernel_rfl,by kernel_rfl,by kernel_rfl,by kernel_rfl,by kernel_rfl,by kernel_rfl,by kernel_rfl,by kernel_rfl,by kernel_rfl,by kernel_rfl,by kernel_rfl⟩
theorem gR9:GR9 tab:=⟨by kernel_rfl,by kernel_rfl,by kernel_rfl,by kernel_rfl,by kernel_rfl,by kernel_rfl,by kernel_rfl,by kernel_rfl,by kernel_rfl,by kernel_rfl⟩
theorem gG9:GG9 tab:=⟨by kernel_rfl⟩
end Am.F
