/- The table. -/
import Derived.Test.YtginckfdokjjpaaDoorAmJe
import Derived.Test.YtginckfdokjjpaaDoorAmJh
import Derived.Test.YtginckfdokjjpaaDoorAmGPW
import Derived.Test.YtginckfdokjjpaaDoorAmJi
import Derived.Test.YtginckfdokjjpaaDoorAmGO23W
import Derived.Test.YtginckfdokjjpaaDoorAmGR23W
import Derived.Test.YtginckfdokjjpaaDoorAmGL23W
import Derived.Test.YtginckfdokjjpaaDoorAmGA23W
import Derived.Test.YtginckfdokjjpaaDoorAmGS23W
import Derived.Test.YtginckfdokjjpaaDoorAmJd
set_option maxRecDepth 100000
namespace Am.F
open Go Am
noncomputable def tab0:ETree:=(.node e44 (.node e29 (.node e19 (.node e16 (.node e15 (.node e12 .leaf .leaf) .leaf) (.node e18 (.node e17 .leaf .leaf) .leaf)) (.node e25 (.node e24 (.node e22 .leaf .leaf) .leaf) (.node e28 (.node e26 .leaf .leaf) .leaf))) (.node e37 (.node e34 (.node e33 (.node e30 .leaf .leaf) .leaf) (.node e36 (.node e35 .leaf .leaf) .leaf)) (.node e40 (.node e39 (.node e38 .leaf .leaf) .leaf) (.node e42 (.node e41 .leaf .leaf) .leaf)))) (.node e266 (.node e166 (.node e47 (.node e46 (.node e45 .leaf .leaf) .leaf) (.node e138 (.node e48 .leaf .leaf) .leaf)) (.node e261 (.node e258 (.node e244 .leaf .leaf) .leaf) (.node e265 (.node e264 .leaf .leaf) .leaf))) (.node e297 (.node e274 (.node e270 (.node e269 .leaf .leaf) .leaf) (.node e296 (.node e295 .leaf .leaf) .leaf)) (.node e304 (.node e301 (.node e299 .leaf .leaf) .leaf) (.node e309 (.node e307 .leaf .leaf) .leaf)))))
noncomputable def tab:ETree:=(.node e44 (.node e29 (.node e19 (.node e16 (.node e15 (.node e12 .leaf .leaf) .leaf) (.node e18 (.node e17 .leaf .leaf) .leaf)) (.node e25 (.node e24 (.node e22 .leaf .leaf) .leaf) (.node e28 (.node e26 .leaf .leaf) .leaf))) (.node e37 (.node e34 (.node e33 (.node e30 .leaf .leaf) .leaf) (.node e36 (.node e35 .leaf .leaf) .leaf)) (.node e40 (.node e39 (.node e38 .leaf .leaf) .leaf) (.node e42 (.node e41 .leaf .leaf) .leaf)))) (.node e269 (.node e166 (.node e47 (.node e46 (.node e45 .leaf .leaf) .leaf) (.node e138 (.node e48 .leaf .leaf) .leaf)) (.node e261 (.node e258 (.node e244 .leaf .leaf) .leaf) (.node e266 (.node (eAw 264) .leaf .leaf) .leaf))) (.node e299 (.node e295 (.node e274 (.node e270 .leaf .leaf) .leaf) (.node e297 (.node e296 .leaf .leaf) .leaf)) (.node e307 (.node e304 (.node e301 .leaf .leaf) .leaf) (.node e309 .leaf .leaf)))))
theorem tab0_0:tab0.T 0=none:=by kernel_rfl
theorem tab0_ok:tab0.okB=true:=by kernel_rfl
theorem zhG:tab0.among [29,42,44,45]=true:=by kernel_rfl
theorem iok0:IOk tab0.T stdI:=by
 refine iok_of zhG ?_;intro k hk;simp only[List.mem_cons,List.not_mem_nil,or_false] at hk;rcases hk with rfl|rfl|rfl|rfl
 ·exact⟨zeG,by kernel_rfl,λargs h v h' S hi ha=>by rw[zge] at hi;exact zhi hi ha⟩
 ·exact⟨zeE,by kernel_rfl,λargs h v h' S hi ha=>by rw[zgd] at hi;exact zhh hi ha⟩
 ·exact⟨zaJ,by kernel_rfl,λargs h v h' S hi ha=>by rw[zgc] at hi;exact zdo hi ha⟩
 ·exact⟨zeZ,by kernel_rfl,λargs h v h' S hi ha=>by rw[zgb] at hi;exact zhB hi ha⟩
theorem tab_0:tab.T 0=none:=by kernel_rfl
theorem tab_ok:tab.okB=true:=by kernel_rfl
theorem zim:tab.among [29,42,44,45,264]=true:=by kernel_rfl
theorem iok:IOk tab.T stdI:=by
 refine iok_of zim ?_;intro k hk;simp only[List.mem_cons,List.not_mem_nil,or_false] at hk;rcases hk with rfl|rfl|rfl|rfl|rfl
 ·exact⟨zeG,by kernel_rfl,λargs h v h' S hi ha=>by rw[zge] at hi;exact zhi hi ha⟩
 ·exact⟨zeE,by kernel_rfl,λargs h v h' S hi ha=>by rw[zgd] at hi;exact zhh hi ha⟩
 ·exact⟨zaJ,by kernel_rfl,λargs h v h' S hi ha=>by rw[zgc] at hi;exact zdo hi ha⟩
 ·exact⟨zeZ,by kernel_rfl,λargs h v h' S hi ha=>by rw[zgb] at hi;exact zhB hi ha⟩
 ·exact⟨awkG,by kernel_rfl,λargs h v h' S hi ha=>awkI_ok hi ha⟩
theorem gaw:tab.get 264=some (eAw 264):=by kernel_rfl
theorem gi:GI tab:=⟨by kernel_rfl,by kernel_rfl,by kernel_rfl,by kernel_rfl⟩
theorem gA:GA tab:=⟨by kernel_rfl,by kernel_rfl,by kernel_rfl,by kernel_rfl,by kernel_rfl,by kernel_rfl,by kernel_rfl,by kernel_rfl,by kernel_rfl,by kernel_rfl,by kernel_rfl,by kernel_rfl,by kernel_rfl,by kernel_rfl,by kernel_rfl,by kernel_rfl,by kernel_rfl,by kernel_rfl,by kernel_rfl,by kernel_rfl,by kernel_rfl,by kernel_rfl,by kernel_rfl,by kernel_rfl⟩
theorem gC:GC tab:=⟨by kernel_rfl,by kernel_rfl⟩
theorem gB:GB tab:=⟨by kernel_rfl,by kernel_rfl,by kernel_rfl,by kernel_rfl,by kernel_rfl,by kernel_rfl,by kernel_rfl⟩
theorem gP:GP tab:=⟨by kernel_rfl⟩
theorem gT12:GT12 tab:=⟨by kernel_rfl,by kernel_rfl⟩
theorem gO23:GO23 tab:=⟨by kernel_rfl,by kernel_rfl⟩
theorem gR23:GR23 tab:=⟨by kernel_rfl,by kernel_rfl⟩
theorem gL23:GL23 tab:=⟨by kernel_rfl⟩
end Am.F
