/- The table. -/
import Derived.Test.YtlidemdbimpkaaaDoorAmJe
import Derived.Test.YtlidemdbimpkaaaDoorAmJh
import Derived.Test.YtlidemdbimpkaaaDoorAmJi
import Derived.Test.YtlidemdbimpkaaaDoorAmJl
import Derived.Test.YtlidemdbimpkaaaDoorAmGL11W
import Derived.Test.YtlidemdbimpkaaaDoorAmGS11W
import Derived.Test.YtlidemdbimpkaaaDoorAmGPW
import Derived.Test.YtlidemdbimpkaaaDoorAmGA11W
import Derived.Test.YtlidemdbimpkaaaDoorAmJd
set_option maxRecDepth 100000
namespace Am.F
open Go Am
noncomputable def tab0:ETree:=(.node e166 (.node e136 (.node e30 (.node e27 (.node e16 (.node e15 .leaf .leaf) .leaf) (.node e29 (.node e28 .leaf .leaf) .leaf)) (.node e44 (.node e42 (.node e41 .leaf .leaf) .leaf) (.node e129 (.node e45 .leaf .leaf) .leaf))) (.node e158 (.node e143 (.node e141 (.node e138 .leaf .leaf) .leaf) (.node e157 (.node e149 .leaf .leaf) .leaf)) (.node e161 (.node e160 (.node e159 .leaf .leaf) .leaf) (.node e162 .leaf .leaf)))) (.node e212 (.node e188 (.node e184 (.node e179 (.node e171 .leaf .leaf) .leaf) (.node e187 (.node e186 .leaf .leaf) .leaf)) (.node e191 (.node e190 (.node e189 .leaf .leaf) .leaf) (.node e203 (.node e202 .leaf .leaf) .leaf))) (.node e218 (.node e215 (.node e214 (.node e213 .leaf .leaf) .leaf) (.node e217 (.node e216 .leaf .leaf) .leaf)) (.node e229 (.node e226 (.node e219 .leaf .leaf) .leaf) (.node e230 .leaf .leaf)))))
noncomputable def tab:ETree:=(.node e166 (.node e136 (.node e30 (.node e27 (.node e16 (.node e15 .leaf .leaf) .leaf) (.node e29 (.node e28 .leaf .leaf) .leaf)) (.node e44 (.node e42 (.node e41 .leaf .leaf) .leaf) (.node e129 (.node e45 .leaf .leaf) .leaf))) (.node e158 (.node e143 (.node (eAw 141) (.node e138 .leaf .leaf) .leaf) (.node e157 (.node e149 .leaf .leaf) .leaf)) (.node e161 (.node e160 (.node e159 .leaf .leaf) .leaf) (.node e162 .leaf .leaf)))) (.node e212 (.node e188 (.node e184 (.node e179 (.node e171 .leaf .leaf) .leaf) (.node e187 (.node e186 .leaf .leaf) .leaf)) (.node e191 (.node e190 (.node e189 .leaf .leaf) .leaf) (.node e203 (.node e202 .leaf .leaf) .leaf))) (.node e218 (.node e215 (.node e214 (.node e213 .leaf .leaf) .leaf) (.node e217 (.node e216 .leaf .leaf) .leaf)) (.node e229 (.node e226 (.node e219 .leaf .leaf) .leaf) (.node e230 .leaf .leaf)))))
theorem tab0_0:tab0.T 0=none:=by kernel_rfl
theorem tab0_ok:tab0.okB=true:=by kernel_rfl
theorem ziJ:tab0.among [29,42,44,45]=true:=by kernel_rfl
theorem iok0:IOk tab0.T stdI:=by
 refine iok_of ziJ ?_;intro k hk;simp only[List.mem_cons,List.not_mem_nil,or_false] at hk;rcases hk with rfl|rfl|rfl|rfl
 ·exact⟨zfn,by kernel_rfl,λargs h v h' S hi ha=>by rw[zgS] at hi;exact zih hi ha⟩
 ·exact⟨zfl,by kernel_rfl,λargs h v h' S hi ha=>by rw[zgR] at hi;exact zig hi ha⟩
 ·exact⟨zc5,by kernel_rfl,λargs h v h' S hi ha=>by rw[zjC] at hi;exact zea hi ha⟩
 ·exact⟨zk1,by kernel_rfl,λargs h v h' S hi ha=>by rw[zjB] at hi;exact ziD hi ha⟩
theorem tab_0:tab.T 0=none:=by kernel_rfl
theorem tab_ok:tab.okB=true:=by kernel_rfl
theorem zjs:tab.among [29,42,44,45,141]=true:=by kernel_rfl
theorem iok:IOk tab.T stdI:=by
 refine iok_of zjs ?_;intro k hk;simp only[List.mem_cons,List.not_mem_nil,or_false] at hk;rcases hk with rfl|rfl|rfl|rfl|rfl
 ·exact⟨zfn,by kernel_rfl,λargs h v h' S hi ha=>by rw[zgS] at hi;exact zih hi ha⟩
 ·exact⟨zfl,by kernel_rfl,λargs h v h' S hi ha=>by rw[zgR] at hi;exact zig hi ha⟩
 ·exact⟨zc5,by kernel_rfl,λargs h v h' S hi ha=>by rw[zjC] at hi;exact zea hi ha⟩
 ·exact⟨zk1,by kernel_rfl,λargs h v h' S hi ha=>by rw[zjB] at hi;exact ziD hi ha⟩
 ·exact⟨awkG,by kernel_rfl,λargs h v h' S hi ha=>awkI_ok hi ha⟩
theorem gaw:tab.get 141=some (eAw 141):=by kernel_rfl
theorem gi:GI tab:=⟨by kernel_rfl,by kernel_rfl,by kernel_rfl,by kernel_rfl⟩
theorem gA:GA tab:=⟨by kernel_rfl,by kernel_rfl,by kernel_rfl,by kernel_rfl,by kernel_rfl,by kernel_rfl⟩
theorem gC:GC tab:=⟨by kernel_rfl,by kernel_rfl,by kernel_rfl,by kernel_rfl,by kernel_rfl,by kernel_rfl,by kernel_rfl,by kernel_rfl,by kernel_rfl,by kernel_rfl,by kernel_rfl,by kernel_rfl,by kernel_rfl⟩
theorem gNM:GNM tab:=⟨by kernel_rfl,by kernel_rfl,by kernel_rfl⟩
theorem gN11:GN11 tab:=⟨by kernel_rfl,by kernel_rfl,by kernel_rfl,by kernel_rfl,by kernel_rfl,by kernel_rfl,by kernel_rfl,by kernel_rfl,by kernel_rfl,by kernel_rfl,by kernel_rfl,by kernel_rfl,by kernel_rfl⟩
theorem gL11:GL11 tab:=⟨by kernel_rfl⟩
theorem gS11:GS11 tab:=⟨by kernel_rfl,by kernel_rfl⟩
theorem gP:GP tab:=⟨by kernel_rfl⟩
theorem gB:GB tab:=⟨by kernel_rfl⟩
end Am.F
