/- The table. -/
import Derived.Test.YtginckfdokjjpaaDoorAmJe
import Derived.Test.YtginckfdokjjpaaDoorAmJh
import Derived.Test.YtginckfdokjjpaaDoorAmJi
import Derived.Test.YtginckfdokjjpaaDoorAmGO23W
import Derived.Test.YtginckfdokjjpaaDoorAmGL23W
import Derived.Test.YtginckfdokjjpaaDoorAmGA23W
import Derived.Test.YtginckfdokjjpaaDoorAmGS23W
import Derived.Test.YtginckfdokjjpaaDoorAmGPW
import Derived.Test.YtginckfdokjjpaaDoorAmJd
set_option maxRecDepth 100000
namespace Am.F
open Go Am
noncomputable def tab0:ETree:=(.node e41 (.node e29 (.node e22 (.node e16 (.node e15 (.node e12 .leaf .leaf) .leaf) (.node e18 (.node e17 .leaf .leaf) .leaf)) (.node e26 (.node e25 (.node e24 .leaf .leaf) .leaf) (.node e28 .leaf .leaf))) (.node e36 (.node e34 (.node e33 (.node e30 .leaf .leaf) .leaf) (.node e35 .leaf .leaf)) (.node e39 (.node e38 (.node e37 .leaf .leaf) .leaf) (.node e40 .leaf .leaf)))) (.node e266 (.node e48 (.node e45 (.node e44 (.node e42 .leaf .leaf) .leaf) (.node e47 (.node e46 .leaf .leaf) .leaf)) (.node e264 (.node e261 (.node e258 .leaf .leaf) .leaf) (.node e265 .leaf .leaf))) (.node e296 (.node e274 (.node e270 (.node e269 .leaf .leaf) .leaf) (.node e295 .leaf .leaf)) (.node e301 (.node e299 (.node e297 .leaf .leaf) .leaf) (.node e305 .leaf .leaf)))))
noncomputable def tab:ETree:=(.node e41 (.node e29 (.node e22 (.node e16 (.node e15 (.node e12 .leaf .leaf) .leaf) (.node e18 (.node e17 .leaf .leaf) .leaf)) (.node e26 (.node e25 (.node e24 .leaf .leaf) .leaf) (.node e28 .leaf .leaf))) (.node e36 (.node e34 (.node e33 (.node e30 .leaf .leaf) .leaf) (.node e35 .leaf .leaf)) (.node e39 (.node e38 (.node e37 .leaf .leaf) .leaf) (.node e40 .leaf .leaf)))) (.node e266 (.node e47 (.node e45 (.node e44 (.node e42 .leaf .leaf) .leaf) (.node e46 .leaf .leaf)) (.node e261 (.node e258 (.node e48 .leaf .leaf) .leaf) (.node (eAw 264) .leaf .leaf))) (.node e296 (.node e274 (.node e270 (.node e269 .leaf .leaf) .leaf) (.node e295 .leaf .leaf)) (.node e301 (.node e299 (.node e297 .leaf .leaf) .leaf) (.node e305 .leaf .leaf)))))
theorem tab0_0:tab0.T 0=none:=by kernel_rfl
theorem tab0_ok:tab0.okB=true:=by kernel_rfl
theorem zhD:tab0.among [29,42,44,45]=true:=by kernel_rfl
theorem iok0:IOk tab0.T stdI:=by
 refine iok_of zhD ?_;intro k hk;simp only[List.mem_cons,List.not_mem_nil,or_false] at hk;rcases hk with rfl|rfl|rfl|rfl
 ·exact⟨zeB,by kernel_rfl,λargs h v h' S hi ha=>by rw[zf6] at hi;exact zhd hi ha⟩
 ·exact⟨zez,by kernel_rfl,λargs h v h' S hi ha=>by rw[zf5] at hi;exact zhc hi ha⟩
 ·exact⟨zaJ,by kernel_rfl,λargs h v h' S hi ha=>by rw[zf4] at hi;exact zdj hi ha⟩
 ·exact⟨zeT,by kernel_rfl,λargs h v h' S hi ha=>by rw[zf3] at hi;exact zhy hi ha⟩
theorem tab_0:tab.T 0=none:=by kernel_rfl
theorem tab_ok:tab.okB=true:=by kernel_rfl
theorem zij:tab.among [29,42,44,45,264]=true:=by kernel_rfl
theorem iok:IOk tab.T stdI:=by
 refine iok_of zij ?_;intro k hk;simp only[List.mem_cons,List.not_mem_nil,or_false] at hk;rcases hk with rfl|rfl|rfl|rfl|rfl
 ·exact⟨zeB,by kernel_rfl,λargs h v h' S hi ha=>by rw[zf6] at hi;exact zhd hi ha⟩
 ·exact⟨zez,by kernel_rfl,λargs h v h' S hi ha=>by rw[zf5] at hi;exact zhc hi ha⟩
 ·exact⟨zaJ,by kernel_rfl,λargs h v h' S hi ha=>by rw[zf4] at hi;exact zdj hi ha⟩
 ·exact⟨zeT,by kernel_rfl,λargs h v h' S hi ha=>by rw[zf3] at hi;exact zhy hi ha⟩
 ·exact⟨awkG,by kernel_rfl,λargs h v h' S hi ha=>awkI_ok hi ha⟩
theorem gaw:tab.get 264=some (eAw 264):=by kernel_rfl
theorem gi:GI tab:=⟨by kernel_rfl,by kernel_rfl,by kernel_rfl,by kernel_rfl⟩
theorem gA:GA tab:=⟨by kernel_rfl,by kernel_rfl,by kernel_rfl,by kernel_rfl,by kernel_rfl,by kernel_rfl,by kernel_rfl,by kernel_rfl,by kernel_rfl,by kernel_rfl,by kernel_rfl,by kernel_rfl,by kernel_rfl,by kernel_rfl,by kernel_rfl,by kernel_rfl,by kernel_rfl,by kernel_rfl,by kernel_rfl,by kernel_rfl,by kernel_rfl,by kernel_rfl,by kernel_rfl⟩
theorem gC:GC tab:=⟨by kernel_rfl,by kernel_rfl⟩
theorem gB:GB tab:=⟨by kernel_rfl,by kernel_rfl,by kernel_rfl,by kernel_rfl,by kernel_rfl⟩
theorem gT12:GT12 tab:=⟨by kernel_rfl,by kernel_rfl⟩
theorem gO23:GO23 tab:=⟨by kernel_rfl,by kernel_rfl⟩
theorem gL23:GL23 tab:=⟨by kernel_rfl⟩
end Am.F
