/- The table. -/
import Derived.Test.YtlidemdbimpkaaaDoorAmJe
import Derived.Test.YtlidemdbimpkaaaDoorAmJh
import Derived.Test.YtlidemdbimpkaaaDoorAmJi
import Derived.Test.YtlidemdbimpkaaaDoorAmJl
import Derived.Test.YtlidemdbimpkaaaDoorAmGL11W
import Derived.Test.YtlidemdbimpkaaaDoorAmGA11W
import Derived.Test.YtlidemdbimpkaaaDoorAmGS11W
import Derived.Test.YtlidemdbimpkaaaDoorAmGPW
import Derived.Test.YtlidemdbimpkaaaDoorAmJd
set_option maxRecDepth 100000
namespace Am.F
open Go Am
noncomputable def tab0:ETree:=(.node e162 (.node e44 (.node e29 (.node e17 (.node e15 (.node e11 .leaf .leaf) (.node e16 .leaf .leaf)) (.node e27 (.node e24 .leaf .leaf) (.node e28 .leaf .leaf))) (.node e36 (.node e34 (.node e33 .leaf .leaf) (.node e35 .leaf .leaf)) (.node e42 (.node e37 .leaf .leaf) .leaf))) (.node e141 (.node e48 (.node e46 (.node e45 .leaf .leaf) (.node e47 .leaf .leaf)) (.node e136 (.node e125 .leaf .leaf) (.node e138 .leaf .leaf))) (.node e159 (.node e157 (.node e143 .leaf .leaf) (.node e158 .leaf .leaf)) (.node e161 (.node e160 .leaf .leaf) .leaf)))) (.node e209 (.node e190 (.node e186 (.node e171 (.node e166 .leaf .leaf) (.node e184 .leaf .leaf)) (.node e188 (.node e187 .leaf .leaf) (.node e189 .leaf .leaf))) (.node e206 (.node e204 (.node e191 .leaf .leaf) (.node e205 .leaf .leaf)) (.node e208 (.node e207 .leaf .leaf) .leaf))) (.node e218 (.node e214 (.node e212 (.node e210 .leaf .leaf) (.node e213 .leaf .leaf)) (.node e216 (.node e215 .leaf .leaf) (.node e217 .leaf .leaf))) (.node e229 (.node e226 (.node e219 .leaf .leaf) (.node e227 .leaf .leaf)) (.node e231 (.node e230 .leaf .leaf) .leaf)))))
noncomputable def tab:ETree:=(.node e162 (.node e42 (.node e28 (.node e17 (.node e15 (.node e11 .leaf .leaf) (.node e16 .leaf .leaf)) (.node e27 (.node e24 .leaf .leaf) .leaf)) (.node e35 (.node e33 (.node e29 .leaf .leaf) (.node e34 .leaf .leaf)) (.node e37 (.node e36 .leaf .leaf) .leaf))) (.node e136 (.node e47 (.node e45 (.node e44 .leaf .leaf) (.node e46 .leaf .leaf)) (.node e125 (.node e48 .leaf .leaf) .leaf)) (.node e159 (.node e157 (.node (eAw 141) .leaf .leaf) (.node e158 .leaf .leaf)) (.node e161 (.node e160 .leaf .leaf) .leaf)))) (.node e210 (.node e191 (.node e188 (.node e186 (.node e184 .leaf .leaf) (.node e187 .leaf .leaf)) (.node e190 (.node e189 .leaf .leaf) .leaf)) (.node e207 (.node e205 (.node e204 .leaf .leaf) (.node e206 .leaf .leaf)) (.node e209 (.node e208 .leaf .leaf) .leaf))) (.node e218 (.node e215 (.node e213 (.node e212 .leaf .leaf) (.node e214 .leaf .leaf)) (.node e217 (.node e216 .leaf .leaf) .leaf)) (.node e229 (.node e226 (.node e219 .leaf .leaf) (.node e227 .leaf .leaf)) (.node e231 (.node e230 .leaf .leaf) .leaf)))))
theorem tab0_0:tab0.T 0=none:=by kernel_rfl
theorem tab0_ok:tab0.okB=true:=by kernel_rfl
theorem zi7:tab0.among [29,42,44,45]=true:=by kernel_rfl
theorem iok0:IOk tab0.T stdI:=by
 refine iok_of zi7 ?_;intro k hk;simp only[List.mem_cons,List.not_mem_nil,or_false] at hk;rcases hk with rfl|rfl|rfl|rfl
 ·exact⟨zfC,by kernel_rfl,λargs h v h' S hi ha=>by rw[zg9] at hi;exact ziB hi ha⟩
 ·exact⟨zfB,by kernel_rfl,λargs h v h' S hi ha=>by rw[zg8] at hi;exact ziz hi ha⟩
 ·exact⟨zdi,by kernel_rfl,λargs h v h' S hi ha=>by rw[zg7] at hi;exact zet hi ha⟩
 ·exact⟨zls,by kernel_rfl,λargs h v h' S hi ha=>by rw[zg6] at hi;exact ziZ hi ha⟩
theorem tab_0:tab.T 0=none:=by kernel_rfl
theorem tab_ok:tab.okB=true:=by kernel_rfl
theorem zjW:tab.among [29,42,44,45,141]=true:=by kernel_rfl
theorem iok:IOk tab.T stdI:=by
 refine iok_of zjW ?_;intro k hk;simp only[List.mem_cons,List.not_mem_nil,or_false] at hk;rcases hk with rfl|rfl|rfl|rfl|rfl
 ·exact⟨zfC,by kernel_rfl,λargs h v h' S hi ha=>by rw[zg9] at hi;exact ziB hi ha⟩
 ·exact⟨zfB,by kernel_rfl,λargs h v h' S hi ha=>by rw[zg8] at hi;exact ziz hi ha⟩
 ·exact⟨zdi,by kernel_rfl,λargs h v h' S hi ha=>by rw[zg7] at hi;exact zet hi ha⟩
 ·exact⟨zls,by kernel_rfl,λargs h v h' S hi ha=>by rw[zg6] at hi;exact ziZ hi ha⟩
 ·exact⟨awkG,by kernel_rfl,λargs h v h' S hi ha=>awkI_ok hi ha⟩
theorem gaw:tab.get 141=some (eAw 141):=by kernel_rfl
theorem gi:GI tab:=⟨by kernel_rfl,by kernel_rfl,by kernel_rfl,by kernel_rfl⟩
theorem gA:GA tab:=⟨by kernel_rfl,by kernel_rfl,by kernel_rfl,by kernel_rfl,by kernel_rfl,by kernel_rfl,by kernel_rfl,by kernel_rfl,by kernel_rfl,by kernel_rfl,by kernel_rfl,by kernel_rfl,by kernel_rfl,by kernel_rfl,by kernel_rfl⟩
theorem gC:GC tab:=⟨by kernel_rfl,by kernel_rfl,by kernel_rfl,by kernel_rfl,by kernel_rfl,by kernel_rfl,by kernel_rfl,by kernel_rfl,by kernel_rfl⟩
theorem gNM:GNM tab:=⟨by kernel_rfl,by kernel_rfl,by kernel_rfl,by kernel_rfl,by kernel_rfl,by kernel_rfl,by kernel_rfl,by kernel_rfl,by kernel_rfl,by kernel_rfl,by kernel_rfl,by kernel_rfl⟩
theorem gN11:GN11 tab:=⟨by kernel_rfl,by kernel_rfl,by kernel_rfl,by kernel_rfl,by kernel_rfl,by kernel_rfl,by kernel_rfl,by kernel_rfl,by kernel_rfl,by kernel_rfl,by kernel_rfl,by kernel_rfl,by kernel_rfl⟩
theorem gL11:GL11 tab:=⟨by kernel_rfl⟩
end Am.F
