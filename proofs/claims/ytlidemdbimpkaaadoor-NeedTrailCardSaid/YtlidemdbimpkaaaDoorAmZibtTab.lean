/- The table. -/
import Derived.Test.YtlidemdbimpkaaaDoorAmJe
import Derived.Test.YtlidemdbimpkaaaDoorAmJh
import Derived.Test.YtlidemdbimpkaaaDoorAmJi
import Derived.Test.YtlidemdbimpkaaaDoorAmJl
import Derived.Test.YtlidemdbimpkaaaDoorAmGL11W
import Derived.Test.YtlidemdbimpkaaaDoorAmGA11W
import Derived.Test.YtlidemdbimpkaaaDoorAmGS11W
import Derived.Test.YtlidemdbimpkaaaDoorAmGPW
import Derived.Test.YtlidemdbimpkaaaDoorAmJd
set_option maxRecDepth 100000
namespace Am.F
open Go Am
noncomputable def tab0:ETree:=(.node e158 (.node e37 (.node e27 (.node e17 (.node e15 (.node e12 (.node e11 .leaf .leaf) .leaf) (.node e16 .leaf .leaf)) (.node e24 (.node e18 .leaf .leaf) (.node e25 .leaf .leaf))) (.node e33 (.node e29 (.node e28 .leaf .leaf) (.node e30 .leaf .leaf)) (.node e35 (.node e34 .leaf .leaf) (.node e36 .leaf .leaf)))) (.node e47 (.node e42 (.node e40 (.node e39 (.node e38 .leaf .leaf) .leaf) (.node e41 .leaf .leaf)) (.node e45 (.node e44 .leaf .leaf) (.node e46 .leaf .leaf))) (.node e138 (.node e123 (.node e48 .leaf .leaf) (.node e136 .leaf .leaf)) (.node e143 (.node e141 .leaf .leaf) (.node e157 .leaf .leaf))))) (.node e207 (.node e187 (.node e166 (.node e161 (.node e160 (.node e159 .leaf .leaf) .leaf) (.node e162 .leaf .leaf)) (.node e184 (.node e171 .leaf .leaf) (.node e186 .leaf .leaf))) (.node e191 (.node e189 (.node e188 .leaf .leaf) (.node e190 .leaf .leaf)) (.node e205 (.node e204 .leaf .leaf) (.node e206 .leaf .leaf)))) (.node e217 (.node e213 (.node e210 (.node e209 (.node e208 .leaf .leaf) .leaf) (.node e212 .leaf .leaf)) (.node e215 (.node e214 .leaf .leaf) (.node e216 .leaf .leaf))) (.node e227 (.node e219 (.node e218 .leaf .leaf) (.node e226 .leaf .leaf)) (.node e230 (.node e229 .leaf .leaf) (.node e231 .leaf .leaf))))))
noncomputable def tab:ETree:=(.node e158 (.node e36 (.node e25 (.node e16 (.node e12 (.node e11 .leaf .leaf) (.node e15 .leaf .leaf)) (.node e18 (.node e17 .leaf .leaf) (.node e24 .leaf .leaf))) (.node e30 (.node e28 (.node e27 .leaf .leaf) (.node e29 .leaf .leaf)) (.node e34 (.node e33 .leaf .leaf) (.node e35 .leaf .leaf)))) (.node e45 (.node e40 (.node e38 (.node e37 .leaf .leaf) (.node e39 .leaf .leaf)) (.node e42 (.node e41 .leaf .leaf) (.node e44 .leaf .leaf))) (.node e123 (.node e47 (.node e46 .leaf .leaf) (.node e48 .leaf .leaf)) (.node (eAw 141) (.node e136 .leaf .leaf) (.node e157 .leaf .leaf))))) (.node e208 (.node e188 (.node e162 (.node e160 (.node e159 .leaf .leaf) (.node e161 .leaf .leaf)) (.node e186 (.node e184 .leaf .leaf) (.node e187 .leaf .leaf))) (.node e204 (.node e190 (.node e189 .leaf .leaf) (.node e191 .leaf .leaf)) (.node e206 (.node e205 .leaf .leaf) (.node e207 .leaf .leaf)))) (.node e217 (.node e213 (.node e210 (.node e209 .leaf .leaf) (.node e212 .leaf .leaf)) (.node e215 (.node e214 .leaf .leaf) (.node e216 .leaf .leaf))) (.node e227 (.node e219 (.node e218 .leaf .leaf) (.node e226 .leaf .leaf)) (.node e230 (.node e229 .leaf .leaf) (.node e231 .leaf .leaf))))))
theorem tab0_0:tab0.T 0=none:=by kernel_rfl
theorem tab0_ok:tab0.okB=true:=by kernel_rfl
theorem zjp:tab0.among [29,42,44,45]=true:=by kernel_rfl
theorem iok0:IOk tab0.T stdI:=by
 refine iok_of zjp ?_;intro k hk;simp only[List.mem_cons,List.not_mem_nil,or_false] at hk;rcases hk with rfl|rfl|rfl|rfl
 ·exact⟨zfO,by kernel_rfl,λargs h v h' S hi ha=>by rw[zhm] at hi;exact ziT hi ha⟩
 ·exact⟨zfM,by kernel_rfl,λargs h v h' S hi ha=>by rw[zhl] at hi;exact ziS hi ha⟩
 ·exact⟨zdn,by kernel_rfl,λargs h v h' S hi ha=>by rw[zhk] at hi;exact zeA hi ha⟩
 ·exact⟨zlJ,by kernel_rfl,λargs h v h' S hi ha=>by rw[zhj] at hi;exact zji hi ha⟩
theorem tab_0:tab.T 0=none:=by kernel_rfl
theorem tab_ok:tab.okB=true:=by kernel_rfl
theorem zkd:tab.among [29,42,44,45,141]=true:=by kernel_rfl
theorem iok:IOk tab.T stdI:=by
 refine iok_of zkd ?_;intro k hk;simp only[List.mem_cons,List.not_mem_nil,or_false] at hk;rcases hk with rfl|rfl|rfl|rfl|rfl
 ·exact⟨zfO,by kernel_rfl,λargs h v h' S hi ha=>by rw[zhm] at hi;exact ziT hi ha⟩
 ·exact⟨zfM,by kernel_rfl,λargs h v h' S hi ha=>by rw[zhl] at hi;exact ziS hi ha⟩
 ·exact⟨zdn,by kernel_rfl,λargs h v h' S hi ha=>by rw[zhk] at hi;exact zeA hi ha⟩
 ·exact⟨zlJ,by kernel_rfl,λargs h v h' S hi ha=>by rw[zhj] at hi;exact zji hi ha⟩
 ·exact⟨awkG,by kernel_rfl,λargs h v h' S hi ha=>awkI_ok hi ha⟩
theorem gaw:tab.get 141=some (eAw 141):=by kernel_rfl
theorem gi:GI tab:=⟨by kernel_rfl,by kernel_rfl,by kernel_rfl,by kernel_rfl⟩
theorem gA:GA tab:=⟨by kernel_rfl,by kernel_rfl,by kernel_rfl,by kernel_rfl,by kernel_rfl,by kernel_rfl,by kernel_rfl,by kernel_rfl,by kernel_rfl,by kernel_rfl,by kernel_rfl,by kernel_rfl,by kernel_rfl,by kernel_rfl,by kernel_rfl,by kernel_rfl,by kernel_rfl,by kernel_rfl,by kernel_rfl,by kernel_rfl,by kernel_rfl,by kernel_rfl,by kernel_rfl⟩
theorem gC:GC tab:=⟨by kernel_rfl,by kernel_rfl,by kernel_rfl,by kernel_rfl,by kernel_rfl,by kernel_rfl,by kernel_rfl,by kernel_rfl,by kernel_rfl⟩
theorem gNM:GNM tab:=⟨by kernel_rfl,by kernel_rfl,by kernel_rfl,by kernel_rfl,by kernel_rfl,by kernel_rfl,by kernel_rfl,by kernel_rfl,by kernel_rfl,by kernel_rfl,by kernel_rfl,by kernel_rfl⟩
theorem gN11:GN11 tab:=⟨by kernel_rfl,by kernel_rfl,by kernel_rfl,by kernel_rfl,by kernel_rfl,by kernel_rfl,by kernel_rfl,by kernel_rfl,by kernel_rfl,by kernel_rfl,by kernel_rfl,by kernel_rfl,by kernel_rfl⟩
theorem gL11:GL11 tab:=⟨by kernel_rfl⟩
end Am.F
