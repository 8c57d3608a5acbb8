/- The table. -/
import Derived.Test.YtddiafpckjhadaaGreatDoorAmJe
import Derived.Test.YtddiafpckjhadaaGreatDoorAmJh
import Derived.Test.YtddiafpckjhadaaGreatDoorAmJi
import Derived.Test.YtddiafpckjhadaaGreatDoorAmGPRW
import Derived.Test.YtddiafpckjhadaaGreatDoorAmGO9W
import Derived.Test.YtddiafpckjhadaaGreatDoorAmGE9W
import Derived.Test.YtddiafpckjhadaaGreatDoorAmGA9W
import Derived.Test.YtddiafpckjhadaaGreatDoorAmGS9W
import Derived.Test.YtddiafpckjhadaaGreatDoorAmJd
set_option maxRecDepth 100000
namespace Am.F
open Go Am
noncomputable def tab0:ETree:=(.node e177 (.node e33 (.node e22 (.node e15 (.node e12 (.node e11 (.node e10 .leaf .leaf) .leaf) (.node e14 (.node e13 .leaf .leaf) .leaf)) (.node e18 (.node e17 (.node e16 .leaf .leaf) .leaf) (.node e20 (.node e19 .leaf .leaf) .leaf))) (.node e28 (.node e25 (.node e24 (.node e23 .leaf .leaf) .leaf) (.node e27 (.node e26 .leaf .leaf) .leaf)) (.node e31 (.node e30 (.node e29 .leaf .leaf) .leaf) (.node e32 .leaf .leaf)))) (.node e46 (.node e39 (.node e36 (.node e35 (.node e34 .leaf .leaf) .leaf) (.node e38 (.node e37 .leaf .leaf) .leaf)) (.node e42 (.node e41 (.node e40 .leaf .leaf) .leaf) (.node e45 (.node e44 .leaf .leaf) .leaf))) (.node e154 (.node e148 (.node e48 (.node e47 .leaf .leaf) .leaf) (.node e153 (.node e149 .leaf .leaf) .leaf)) (.node e175 (.node e157 (.node e155 .leaf .leaf) .leaf) (.node e176 .leaf .leaf))))) (.node e212 (.node e201 (.node e185 (.node e181 (.node e179 (.node e178 .leaf .leaf) .leaf) (.node e184 (.node e183 .leaf .leaf) .leaf)) (.node e188 (.node e187 (.node e186 .leaf .leaf) .leaf) (.node e200 (.node e199 .leaf .leaf) .leaf))) (.node e207 (.node e204 (.node e203 (.node e202 .leaf .leaf) .leaf) (.node e206 (.node e205 .leaf .leaf) .leaf)) (.node e210 (.node e209 (.node e208 .leaf .leaf) .leaf) (.node e211 .leaf .leaf)))) (.node e231 (.node e226 (.node e215 (.node e214 (.node e213 .leaf .leaf) .leaf) (.node e225 (.node e224 .leaf .leaf) .leaf)) (.node e229 (.node e228 (.node e227 .leaf .leaf) .leaf) (.node e230 .leaf .leaf))) (.node e262 (.node e239 (.node e233 (.node e232 .leaf .leaf) .leaf) (.node e261 (.node e245 .leaf .leaf) .leaf)) (.node e272 (.node e271 (.node e270 .leaf .leaf) .leaf) (.node e276 .leaf .leaf))))))
noncomputable def tab:ETree:=(.node e177 (.node e33 (.node e22 (.node e15 (.node e12 (.node e11 (.node e10 .leaf .leaf) .leaf) (.node e14 (.node e13 .leaf .leaf) .leaf)) (.node e18 (.node e17 (.node e16 .leaf .leaf) .leaf) (.node e20 (.node e19 .leaf .leaf) .leaf))) (.node e28 (.node e25 (.node e24 (.node e23 .leaf .leaf) .leaf) (.node e27 (.node e26 .leaf .leaf) .leaf)) (.node e31 (.node e30 (.node e29 .leaf .leaf) .leaf) (.node e32 .leaf .leaf)))) (.node e45 (.node e39 (.node e36 (.node e35 (.node e34 .leaf .leaf) .leaf) (.node e38 (.node e37 .leaf .leaf) .leaf)) (.node e42 (.node e41 (.node e40 .leaf .leaf) .leaf) (.node e44 .leaf .leaf))) (.node (eAw 153) (.node e48 (.node e47 (.node e46 .leaf .leaf) .leaf) (.node e149 (.node e148 .leaf .leaf) .leaf)) (.node e175 (.node e157 (.node e155 .leaf .leaf) .leaf) (.node e176 .leaf .leaf))))) (.node e212 (.node e201 (.node e186 (.node e181 (.node e179 (.node e178 .leaf .leaf) .leaf) (.node e185 (.node e184 .leaf .leaf) .leaf)) (.node e199 (.node e188 (.node e187 .leaf .leaf) .leaf) (.node e200 .leaf .leaf))) (.node e207 (.node e204 (.node e203 (.node e202 .leaf .leaf) .leaf) (.node e206 (.node e205 .leaf .leaf) .leaf)) (.node e210 (.node e209 (.node e208 .leaf .leaf) .leaf) (.node e211 .leaf .leaf)))) (.node e231 (.node e226 (.node e215 (.node e214 (.node e213 .leaf .leaf) .leaf) (.node e225 (.node e224 .leaf .leaf) .leaf)) (.node e229 (.node e228 (.node e227 .leaf .leaf) .leaf) (.node e230 .leaf .leaf))) (.node e262 (.node e239 (.node e233 (.node e232 .leaf .leaf) .leaf) (.node e261 (.node e245 .leaf .leaf) .leaf)) (.node e272 (.node e271 (.node e270 .leaf .leaf) .leaf) (.node e276 .leaf .leaf))))))
theorem tab0_0:tab0.T 0=none:=by kernel_rfl
theorem tab0_ok:tab0.okB=true:=by kernel_rfl
theorem zhr:tab0.among [29,42,44,45]=true:=by kernel_rfl
theorem iok0:IOk tab0.T stdI:=by
 refine iok_of zhr ?_;intro k hk;simp only[List.mem_cons,List.not_mem_nil,or_false] at hk;rcases hk with rfl|rfl|rfl|rfl
 ·exact⟨zeK,by kernel_rfl,λargs h v h' S hi ha=>by rw[zf4] at hi;exact zg2 hi ha⟩
 ·exact⟨zeJ,by kernel_rfl,λargs h v h' S hi ha=>by rw[zf3] at hi;exact zg1 hi ha⟩
 ·exact⟨za5,by kernel_rfl,λargs h v h' S hi ha=>by rw[zf2] at hi;exact zdI hi ha⟩
 ·exact⟨zeY,by kernel_rfl,λargs h v h' S hi ha=>by rw[zf1] at hi;exact zhk hi ha⟩
theorem tab_0:tab.T 0=none:=by kernel_rfl
theorem tab_ok:tab.okB=true:=by kernel_rfl
theorem zh5:tab.among [29,42,44,45,153]=true:=by kernel_rfl
theorem iok:IOk tab.T stdI:=by
 refine iok_of zh5 ?_;intro k hk;simp only[List.mem_cons,List.not_mem_nil,or_false] at hk;rcases hk with rfl|rfl|rfl|rfl|rfl
 ·exact⟨zeK,by kernel_rfl,λargs h v h' S hi ha=>by rw[zf4] at hi;exact zg2 hi ha⟩
 ·exact⟨zeJ,by kernel_rfl,λargs h v h' S hi ha=>by rw[zf3] at hi;exact zg1 hi ha⟩
 ·exact⟨za5,by kernel_rfl,λargs h v h' S hi ha=>by rw[zf2] at hi;exact zdI hi ha⟩
 ·exact⟨zeY,by kernel_rfl,λargs h v h' S hi ha=>by rw[zf1] at hi;exact zhk hi ha⟩
 ·exact⟨awkG,by kernel_rfl,λargs h v h' S hi ha=>awkI_ok hi ha⟩
theorem gaw:tab.get 153=some (eAw 153):=by kernel_rfl
theorem gi:GI tab:=⟨by kernel_rfl,by kernel_rfl,by kernel_rfl,by kernel_rfl⟩
theorem gA:GA tab:=⟨by kernel_rfl,by kernel_rfl,by kernel_rfl,by kernel_rfl,by kernel_rfl,by kernel_rfl,by kernel_rfl,by kernel_rfl,by kernel_rfl,by kernel_rfl,by kernel_rfl,by kernel_rfl,by kernel_rfl,by kernel_rfl,by kernel_rfl,by kernel_rfl,by kernel_rfl,by kernel_rfl,by kernel_rfl,by kernel_rfl,by kernel_rfl,by kernel_rfl,by kernel_rfl,by kernel_rfl,by kernel_rfl,by kernel_rfl,by kernel_rfl,by kernel_rfl,by kernel_rfl,by kernel_rfl,by kernel_rfl,by kernel_rfl,by kernel_rfl⟩
theorem gC:GC tab:=⟨by kernel_rfl,by kernel_rfl,by kernel_rfl,by kernel_rfl,by kernel_rfl,by kernel_rfl,by kernel_rfl,by kernel_rfl,by kernel_rfl,by kernel_rfl,by kernel_rfl,by kernel_rfl,by kernel_rfl,by kernel_rfl,by kernel_rfl,by kernel_rfl,by kernel_rfl,by kernel_rfl,by kernel_rfl⟩
theorem gNM:GNM tab:=⟨by kernel_rfl,by kernel_rfl,by kernel_rfl,by kernel_rfl,by kernel_rfl,by kernel_rfl,by kernel_rfl,by kernel_rfl,by kernel_rfl,by kernel_rfl,by kernel_rfl,by kernel_rfl,by kernel_rfl,by kernel_rfl,by kernel_rfl,by kernel_rfl,by kernel_rfl,by kernel_rfl,by kernel_rfl⟩
theorem gE9:GE9 tab:=⟨by kernel_rfl⟩
end Am.F
