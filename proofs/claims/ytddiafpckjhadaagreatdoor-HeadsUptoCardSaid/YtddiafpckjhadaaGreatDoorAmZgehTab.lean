/- The table. -/
import Derived.Test.YtddiafpckjhadaaGreatDoorAmJe
import Derived.Test.YtddiafpckjhadaaGreatDoorAmJh
import Derived.Test.YtddiafpckjhadaaGreatDoorAmJi
import Derived.Test.YtddiafpckjhadaaGreatDoorAmJk
import Derived.Test.YtddiafpckjhadaaGreatDoorAmGPW
import Derived.Test.YtddiafpckjhadaaGreatDoorAmGH9W
import Derived.Test.YtddiafpckjhadaaGreatDoorAmGA9W
import Derived.Test.YtddiafpckjhadaaGreatDoorAmGS9W
import Derived.Test.YtddiafpckjhadaaGreatDoorAmJd
set_option maxRecDepth 100000
namespace Am.F
open Go Am
noncomputable def tab0:ETree:=(.node e167 (.node e35 (.node e23 (.node e16 (.node e13 (.node e11 (.node e10 .leaf .leaf) (.node e12 .leaf .leaf)) (.node e15 (.node e14 .leaf .leaf) .leaf)) (.node e19 (.node e18 (.node e17 .leaf .leaf) .leaf) (.node e22 (.node e20 .leaf .leaf) .leaf))) (.node e29 (.node e26 (.node e25 (.node e24 .leaf .leaf) .leaf) (.node e28 (.node e27 .leaf .leaf) .leaf)) (.node e32 (.node e31 (.node e30 .leaf .leaf) .leaf) (.node e34 (.node e33 .leaf .leaf) .leaf)))) (.node e48 (.node e41 (.node e38 (.node e37 (.node e36 .leaf .leaf) .leaf) (.node e40 (.node e39 .leaf .leaf) .leaf)) (.node e45 (.node e44 (.node e42 .leaf .leaf) .leaf) (.node e47 (.node e46 .leaf .leaf) .leaf))) (.node e149 (.node e140 (.node e138 (.node e135 .leaf .leaf) .leaf) (.node e147 (.node e145 .leaf .leaf) .leaf)) (.node e155 (.node e154 (.node e153 .leaf .leaf) .leaf) (.node e157 (.node e156 .leaf .leaf) .leaf))))) (.node e208 (.node e188 (.node e181 (.node e172 (.node e170 (.node e168 .leaf .leaf) .leaf) (.node e179 (.node e174 .leaf .leaf) .leaf)) (.node e185 (.node e184 (.node e183 .leaf .leaf) .leaf) (.node e187 (.node e186 .leaf .leaf) .leaf))) (.node e202 (.node e196 (.node e195 (.node e194 .leaf .leaf) .leaf) (.node e198 (.node e197 .leaf .leaf) .leaf)) (.node e205 (.node e204 (.node e203 .leaf .leaf) .leaf) (.node e207 (.node e206 .leaf .leaf) .leaf)))) (.node e229 (.node e214 (.node e211 (.node e210 (.node e209 .leaf .leaf) .leaf) (.node e213 (.node e212 .leaf .leaf) .leaf)) (.node e226 (.node e223 (.node e215 .leaf .leaf) .leaf) (.node e228 (.node e227 .leaf .leaf) .leaf))) (.node e261 (.node e232 (.node e231 (.node e230 .leaf .leaf) .leaf) (.node e237 (.node e233 .leaf .leaf) .leaf)) (.node e271 (.node e270 (.node e262 .leaf .leaf) .leaf) (.node e276 (.node e272 .leaf .leaf) .leaf))))))
noncomputable def tab:ETree:=(.node e167 (.node e34 (.node e22 (.node e15 (.node e12 (.node e11 (.node e10 .leaf .leaf) .leaf) (.node e14 (.node e13 .leaf .leaf) .leaf)) (.node e18 (.node e17 (.node e16 .leaf .leaf) .leaf) (.node e20 (.node e19 .leaf .leaf) .leaf))) (.node e28 (.node e25 (.node e24 (.node e23 .leaf .leaf) .leaf) (.node e27 (.node e26 .leaf .leaf) .leaf)) (.node e31 (.node e30 (.node e29 .leaf .leaf) .leaf) (.node e33 (.node e32 .leaf .leaf) .leaf)))) (.node e47 (.node e40 (.node e37 (.node e36 (.node e35 .leaf .leaf) .leaf) (.node e39 (.node e38 .leaf .leaf) .leaf)) (.node e44 (.node e42 (.node e41 .leaf .leaf) .leaf) (.node e46 (.node e45 .leaf .leaf) .leaf))) (.node e147 (.node e138 (.node e135 (.node e48 .leaf .leaf) .leaf) (.node e145 (.node e140 .leaf .leaf) .leaf)) (.node e155 (.node (eAw 153) (.node e149 .leaf .leaf) .leaf) (.node e157 (.node e156 .leaf .leaf) .leaf))))) (.node e209 (.node e194 (.node e181 (.node e172 (.node e170 (.node e168 .leaf .leaf) .leaf) (.node e179 (.node e174 .leaf .leaf) .leaf)) (.node e186 (.node e185 (.node e184 .leaf .leaf) .leaf) (.node e188 (.node e187 .leaf .leaf) .leaf))) (.node e203 (.node e197 (.node e196 (.node e195 .leaf .leaf) .leaf) (.node e202 (.node e198 .leaf .leaf) .leaf)) (.node e206 (.node e205 (.node e204 .leaf .leaf) .leaf) (.node e208 (.node e207 .leaf .leaf) .leaf)))) (.node e230 (.node e215 (.node e212 (.node e211 (.node e210 .leaf .leaf) .leaf) (.node e214 (.node e213 .leaf .leaf) .leaf)) (.node e227 (.node e226 (.node e223 .leaf .leaf) .leaf) (.node e229 (.node e228 .leaf .leaf) .leaf))) (.node e262 (.node e233 (.node e232 (.node e231 .leaf .leaf) .leaf) (.node e261 (.node e237 .leaf .leaf) .leaf)) (.node e272 (.node e271 (.node e270 .leaf .leaf) .leaf) (.node e276 .leaf .leaf))))))
theorem tab0_0:tab0.T 0=none:=by kernel_rfl
theorem tab0_ok:tab0.okB=true:=by kernel_rfl
theorem zix:tab0.among [29,42,44,45]=true:=by kernel_rfl
theorem iok0:IOk tab0.T stdI:=by
 refine iok_of zix ?_;intro k hk;simp only[List.mem_cons,List.not_mem_nil,or_false] at hk;rcases hk with rfl|rfl|rfl|rfl
 ·exact⟨zfE,by kernel_rfl,λargs h v h' S hi ha=>by rw[zg3] at hi;exact zh8 hi ha⟩
 ·exact⟨zfD,by kernel_rfl,λargs h v h' S hi ha=>by rw[zg2] at hi;exact zh7 hi ha⟩
 ·exact⟨zbj,by kernel_rfl,λargs h v h' S hi ha=>by rw[zg1] at hi;exact zen hi ha⟩
 ·exact⟨zfS,by kernel_rfl,λargs h v h' S hi ha=>by rw[zg0] at hi;exact zir hi ha⟩
theorem tab_0:tab.T 0=none:=by kernel_rfl
theorem tab_ok:tab.okB=true:=by kernel_rfl
theorem zjf:tab.among [29,42,44,45,153]=true:=by kernel_rfl
theorem iok:IOk tab.T stdI:=by
 refine iok_of zjf ?_;intro k hk;simp only[List.mem_cons,List.not_mem_nil,or_false] at hk;rcases hk with rfl|rfl|rfl|rfl|rfl
 ·exact⟨zfE,by kernel_rfl,λargs h v h' S hi ha=>by rw[zg3] at hi;exact zh8 hi ha⟩
 ·exact⟨zfD,by kernel_rfl,λargs h v h' S hi ha=>by rw[zg2] at hi;exact zh7 hi ha⟩
 ·exact⟨zbj,by kernel_rfl,λargs h v h' S hi ha=>by rw[zg1] at hi;exact zen hi ha⟩
 ·exact⟨zfS,by kernel_rfl,λargs h v h' S hi ha=>by rw[zg0] at hi;exact zir hi ha⟩
 ·exact⟨awkG,by kernel_rfl,λargs h v h' S hi ha=>awkI_ok hi ha⟩
theorem gaw:tab.get 153=some (eAw 153):=by kernel_rfl
theorem gi:GI tab:=⟨by kernel_rfl,by kernel_rfl,by kernel_rfl,by kernel_rfl⟩
theorem gA:GA tab:=⟨by kernel_rfl,by kernel_rfl,by kernel_rfl,by kernel_rfl,by kernel_rfl,by kernel_rfl,by kernel_rfl,by kernel_rfl,by kernel_rfl,by kernel_rfl,by kernel_rfl,by kernel_rfl,by kernel_rfl,by kernel_rfl,by kernel_rfl,by kernel_rfl,by kernel_rfl,by kernel_rfl,by kernel_rfl,by kernel_rfl,by kernel_rfl,by kernel_rfl,by kernel_rfl,by kernel_rfl,by kernel_rfl,by kernel_rfl,by kernel_rfl,by kernel_rfl,by kernel_rfl,by kernel_rfl,by kernel_rfl,by kernel_rfl,by kernel_rfl⟩
theorem gC:GC tab:=⟨by kernel_rfl,by kernel_rfl,by kernel_rfl,by kernel_rfl,by kernel_rfl,by kernel_rfl,by kernel_rfl,by kernel_rfl,by kernel_rfl,by kernel_rfl,by kernel_rfl,by kernel_rfl,by kernel_rfl,by kernel_rfl,by kernel_rfl,by kernel_rfl,by kernel_rfl,by kernel_rfl,by kernel_rfl⟩
theorem gNM:GNM tab:=⟨by kernel_rfl,by kernel_rfl,by kernel_rfl,by kernel_rfl,by kernel_rfl,by kernel_rfl,by kernel_rfl,by kernel_rfl,by kernel_rfl,by kernel_rfl,by kernel_rfl,by kernel_rfl,by kernel_rfl,by kernel_rfl,by kernel_rfl,by kernel_rfl,by kernel_rfl,by kernel_rfl,by kernel_rfl⟩
theorem gR9:GR9 tab:=⟨by kernel_rfl,by kernel_rfl,by kernel_rfl,by kernel_rfl,by kernel_rfl,by kernel_rfl,by kernel_rfl,by kernel_rfl,by kernel_rfl,by kernel_rfl⟩
theorem gP:GP tab:=⟨by kernel_rfl,by kernel_rfl,by kernel_rfl,by kernel_rfl,by kernel_rfl,by kernel_rfl,by kernel_rfl⟩
theorem gH9:GH9 tab:=⟨by kernel_rfl⟩
end Am.F
