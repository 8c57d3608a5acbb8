/- The table. -/
import Derived.Test.YtddiafpckjhadaaGreatDoorAmJe
import Derived.Test.YtddiafpckjhadaaGreatDoorAmJh
import Derived.Test.YtddiafpckjhadaaGreatDoorAmJi
import Derived.Test.YtddiafpckjhadaaGreatDoorAmJk
import Derived.Test.YtddiafpckjhadaaGreatDoorAmGPW
import Derived.Test.YtddiafpckjhadaaGreatDoorAmGS10W
import Derived.Test.YtddiafpckjhadaaGreatDoorAmGR10W
import Derived.Test.YtddiafpckjhadaaGreatDoorAmGX10W
import Derived.Test.YtddiafpckjhadaaGreatDoorAmGW10W
import Derived.Test.YtddiafpckjhadaaGreatDoorAmJd
set_option maxRecDepth 100000
namespace Am.F
open Go Am
noncomputable def tab0:ETree:=(.node e168 (.node e40 (.node e28 (.node e17 (.node e15 (.node e12 (.node e11 .leaf .leaf) .leaf) (.node e16 .leaf .leaf)) (.node e25 (.node e24 (.node e18 .leaf .leaf) .leaf) (.node e26 .leaf .leaf))) (.node e35 (.node e33 (.node e30 (.node e29 .leaf .leaf) .leaf) (.node e34 .leaf .leaf)) (.node e38 (.node e37 (.node e36 .leaf .leaf) .leaf) (.node e39 .leaf .leaf)))) (.node e142 (.node e46 (.node e44 (.node e42 (.node e41 .leaf .leaf) .leaf) (.node e45 .leaf .leaf)) (.node e135 (.node e48 (.node e47 .leaf .leaf) .leaf) (.node e140 .leaf .leaf))) (.node e152 (.node e150 (.node e149 (.node e147 .leaf .leaf) .leaf) (.node e151 .leaf .leaf)) (.node e166 (.node e157 (.node e156 .leaf .leaf) .leaf) (.node e167 .leaf .leaf))))) (.node e204 (.node e186 (.node e179 (.node e172 (.node e170 (.node e169 .leaf .leaf) .leaf) (.node e174 .leaf .leaf)) (.node e182 (.node e181 (.node e180 .leaf .leaf) .leaf) (.node e184 .leaf .leaf))) (.node e196 (.node e194 (.node e188 (.node e187 .leaf .leaf) .leaf) (.node e195 .leaf .leaf)) (.node e202 (.node e198 (.node e197 .leaf .leaf) .leaf) (.node e203 .leaf .leaf)))) (.node e215 (.node e209 (.node e207 (.node e206 (.node e205 .leaf .leaf) .leaf) (.node e208 .leaf .leaf)) (.node e213 (.node e212 (.node e210 .leaf .leaf) .leaf) (.node e214 .leaf .leaf))) (.node e230 (.node e227 (.node e226 (.node e223 .leaf .leaf) .leaf) (.node e229 .leaf .leaf)) (.node e234 (.node e231 .leaf .leaf) (.node e244 .leaf .leaf))))))
noncomputable def tab:ETree:=(.node e168 (.node e40 (.node e28 (.node e17 (.node e15 (.node e12 (.node e11 .leaf .leaf) .leaf) (.node e16 .leaf .leaf)) (.node e25 (.node e24 (.node e18 .leaf .leaf) .leaf) (.node e26 .leaf .leaf))) (.node e35 (.node e33 (.node e30 (.node e29 .leaf .leaf) .leaf) (.node e34 .leaf .leaf)) (.node e38 (.node e37 (.node e36 .leaf .leaf) .leaf) (.node e39 .leaf .leaf)))) (.node e142 (.node e46 (.node e44 (.node e42 (.node e41 .leaf .leaf) .leaf) (.node e45 .leaf .leaf)) (.node e135 (.node e48 (.node e47 .leaf .leaf) .leaf) (.node e140 .leaf .leaf))) (.node e152 (.node (eAw 150) (.node e149 (.node e147 .leaf .leaf) .leaf) (.node e151 .leaf .leaf)) (.node e166 (.node e157 (.node e156 .leaf .leaf) .leaf) (.node e167 .leaf .leaf))))) (.node e204 (.node e186 (.node e179 (.node e172 (.node e170 (.node e169 .leaf .leaf) .leaf) (.node e174 .leaf .leaf)) (.node e182 (.node e181 (.node e180 .leaf .leaf) .leaf) (.node e184 .leaf .leaf))) (.node e196 (.node e194 (.node e188 (.node e187 .leaf .leaf) .leaf) (.node e195 .leaf .leaf)) (.node e202 (.node e198 (.node e197 .leaf .leaf) .leaf) (.node e203 .leaf .leaf)))) (.node e215 (.node e209 (.node e207 (.node e206 (.node e205 .leaf .leaf) .leaf) (.node e208 .leaf .leaf)) (.node e213 (.node e212 (.node e210 .leaf .leaf) .leaf) (.node e214 .leaf .leaf))) (.node e230 (.node e227 (.node e226 (.node e223 .leaf .leaf) .leaf) (.node e229 .leaf .leaf)) (.node e234 (.node e231 .leaf .leaf) (.node e244 .leaf .leaf))))))
theorem tab0_0:tab0.T 0=none:=by kernel_rfl
theorem tab0_ok:tab0.okB=true:=by kernel_rfl
theorem zia:tab0.among [29,42,44,45]=true:=by kernel_rfl
theorem iok0:IOk tab0.T stdI:=by
 refine iok_of zia ?_;intro k hk;simp only[List.mem_cons,List.not_mem_nil,or_false] at hk;rcases hk with rfl|rfl|rfl|rfl
 ·exact⟨zfq,by kernel_rfl,λargs h v h' S hi ha=>by rw[zgG] at hi;exact zhK hi ha⟩
 ·exact⟨zjI,by kernel_rfl,λargs h v h' S hi ha=>by rw[ziX] at hi;exact zhJ hi ha⟩
 ·exact⟨zbe,by kernel_rfl,λargs h v h' S hi ha=>by rw[zgF] at hi;exact zec hi ha⟩
 ·exact⟨zfD,by kernel_rfl,λargs h v h' S hi ha=>by rw[zgE] at hi;exact zh4 hi ha⟩
theorem tab_0:tab.T 0=none:=by kernel_rfl
theorem tab_ok:tab.okB=true:=by kernel_rfl
theorem ziN:tab.among [29,42,44,45,150]=true:=by kernel_rfl
theorem iok:IOk tab.T stdI:=by
 refine iok_of ziN ?_;intro k hk;simp only[List.mem_cons,List.not_mem_nil,or_false] at hk;rcases hk with rfl|rfl|rfl|rfl|rfl
 ·exact⟨zfq,by kernel_rfl,λargs h v h' S hi ha=>by rw[zgG] at hi;exact zhK hi ha⟩
 ·exact⟨zjI,by kernel_rfl,λargs h v h' S hi ha=>by rw[ziX] at hi;exact zhJ hi ha⟩
 ·exact⟨zbe,by kernel_rfl,λargs h v h' S hi ha=>by rw[zgF] at hi;exact zec hi ha⟩
 ·exact⟨zfD,by kernel_rfl,λargs h v h' S hi ha=>by rw[zgE] at hi;exact zh4 hi ha⟩
 ·exact⟨awkG,by kernel_rfl,λargs h v h' S hi ha=>awkI_ok hi ha⟩
theorem gaw:tab.get 150=some (eAw 150):=by kernel_rfl
theorem gi:GI tab:=⟨by kernel_rfl,by kernel_rfl,by kernel_rfl,by kernel_rfl⟩
theorem gA:GA tab:=⟨by kernel_rfl,by kernel_rfl,by kernel_rfl,by kernel_rfl,by kernel_rfl,by kernel_rfl,by kernel_rfl,by kernel_rfl,by kernel_rfl,by kernel_rfl,by kernel_rfl,by kernel_rfl,by kernel_rfl,by kernel_rfl,by kernel_rfl,by kernel_rfl,by kernel_rfl,by kernel_rfl,by kernel_rfl,by kernel_rfl,by kernel_rfl,by kernel_rfl,by kernel_rfl⟩
theorem gC:GC tab:=⟨by kernel_rfl,by kernel_rfl,by kernel_rfl,by kernel_rfl,by kernel_rfl,by kernel_rfl,by kernel_rfl,by kernel_rfl,by kernel_rfl,by kernel_rfl,by kernel_rfl,by kernel_rfl,by kernel_rfl⟩
theorem gNM:GNM tab:=⟨by kernel_rfl,by kernel_rfl,by kernel_rfl,by kernel_rfl,by kernel_rfl,by kernel_rfl,by kernel_rfl,by kernel_rfl,by kernel_rfl,by kernel_rfl,by kernel_rfl,by kernel_rfl,by kernel_rfl⟩
theorem gR9:GR9 tab:=⟨by kernel_rfl,by kernel_rfl,by kernel_rfl,by kernel_rfl,by kernel_rfl,by kernel_rfl,by kernel_rfl,by kernel_rfl,by kernel_rfl⟩
theorem gP:GP tab:=⟨by kernel_rfl,by kernel_rfl,by kernel_rfl,by kernel_rfl,by kernel_rfl,by kernel_rfl⟩
theorem gS10:GS10 tab:=⟨by kernel_rfl,by kernel_rfl,by kernel_rfl,by kernel_rfl⟩
theorem gR10:GR10 tab:=⟨by kernel_rfl,by kernel_rfl⟩
theorem gB:GB tab:=⟨by kernel_rfl,by kernel_rfl⟩
theorem gX10:GX10 tab:=⟨by kernel_rfl⟩
end Am.F
