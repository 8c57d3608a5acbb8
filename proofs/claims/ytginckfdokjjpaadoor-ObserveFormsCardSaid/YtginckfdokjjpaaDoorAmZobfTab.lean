/- The table. -/
import Derived.Test.YtginckfdokjjpaaDoorAmJe
import Derived.Test.YtginckfdokjjpaaDoorAmJh
import Derived.Test.YtginckfdokjjpaaDoorAmGO23W
import Derived.Test.YtginckfdokjjpaaDoorAmGS23W
import Derived.Test.YtginckfdokjjpaaDoorAmGA23W
import Derived.Test.YtginckfdokjjpaaDoorAmGL23fW
import Derived.Test.YtginckfdokjjpaaDoorAmJd
set_option maxRecDepth 100000
namespace Am.F
open Go Am
noncomputable def tab:ETree:=(.node e44 (.node e29 (.node e24 (.node e16 (.node e15 .leaf .leaf) (.node e17 .leaf .leaf)) (.node e28 (.node e26 .leaf .leaf) .leaf)) (.node e36 (.node e34 (.node e33 .leaf .leaf) (.node e35 .leaf .leaf)) (.node e42 (.node e37 .leaf .leaf) .leaf))) (.node e261 (.node e48 (.node e46 (.node e45 .leaf .leaf) (.node e47 .leaf .leaf)) (.node e258 (.node e251 .leaf .leaf) .leaf)) (.node e269 (.node e265 (.node e264 .leaf .leaf) (.node e266 .leaf .leaf)) (.node e274 (.node e270 .leaf .leaf) .leaf))))
theorem tab_0:tab.T 0=none:=by kernel_rfl
theorem tab_ok:tab.okB=true:=by kernel_rfl
theorem zgs:tab.among [29,42,44,45]=true:=by kernel_rfl
theorem iok:IOk tab.T stdI:=by
 refine iok_of zgs ?_;intro k hk;simp only[List.mem_cons,List.not_mem_nil,or_false] at hk;rcases hk with rfl|rfl|rfl|rfl
 ·exact⟨zeT,by kernel_rfl,λargs h v h' S hi ha=>by rw[stdI_29] at hi;exact itoaI_ok hi ha⟩
 ·exact⟨zeS,by kernel_rfl,λargs h v h' S hi ha=>by rw[stdI_42] at hi;exact joinI_ok hi ha⟩
 ·exact⟨za8,by kernel_rfl,λargs h v h' S hi ha=>by rw[stdI_44] at hi;exact zeW hi ha⟩
 ·exact⟨zfb,by kernel_rfl,λargs h v h' S hi ha=>by rw[stdI_45] at hi;exact atoiI_ok hi ha⟩
end Am.F
