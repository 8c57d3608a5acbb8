/- The table. -/
import Derived.Test.YtanhngcjijbodaaDoorAmJe
import Derived.Test.YtanhngcjijbodaaDoorAmJh
import Derived.Test.YtanhngcjijbodaaDoorAmGB8W
import Derived.Test.YtanhngcjijbodaaDoorAmGS8W
import Derived.Test.YtanhngcjijbodaaDoorAmGA8W
import Derived.Test.YtanhngcjijbodaaDoorAmGW8W
import Derived.Test.YtanhngcjijbodaaDoorAmJd
set_option maxRecDepth 100000
namespace Am.F
open Go Am
noncomputable def tab:ETree:=(.node e203 (.node e45 (.node e30 (.node e28 (.node e16 .leaf .leaf) (.node e29 .leaf .leaf)) (.node e42 (.node e41 .leaf .leaf) (.node e44 .leaf .leaf))) (.node e186 (.node e157 (.node e149 .leaf .leaf) (.node e179 .leaf .leaf)) (.node e188 (.node e187 .leaf .leaf) (.node e202 .leaf .leaf)))) (.node e253 (.node e215 (.node e213 (.node e212 .leaf .leaf) (.node e214 .leaf .leaf)) (.node e247 (.node e229 .leaf .leaf) (.node e252 .leaf .leaf))) (.node e268 (.node e255 (.node e254 .leaf .leaf) (.node e267 .leaf .leaf)) (.node e277 (.node e275 .leaf .leaf) .leaf))))
theorem tab_0:tab.T 0=none:=by kernel_rfl
theorem tab_ok:tab.okB=true:=by kernel_rfl
theorem zgi:tab.among [29,42,44,45,277]=true:=by kernel_rfl
theorem iok:IOk tab.T stdI:=by
 refine iok_of zgi ?_;intro k hk;simp only[List.mem_cons,List.not_mem_nil,or_false] at hk;rcases hk with rfl|rfl|rfl|rfl|rfl
 ·exact⟨zeR,by kernel_rfl,λargs h v h' S hi ha=>by rw[stdI_29] at hi;exact itoaI_ok hi ha⟩
 ·exact⟨zeQ,by kernel_rfl,λargs h v h' S hi ha=>by rw[stdI_42] at hi;exact joinI_ok hi ha⟩
 ·exact⟨zcl,by kernel_rfl,λargs h v h' S hi ha=>by rw[stdI_44] at hi;exact zeS hi ha⟩
 ·exact⟨atoiG,by kernel_rfl,λargs h v h' S hi ha=>by rw[stdI_45] at hi;exact atoiI_ok hi ha⟩
 ·exact⟨zct,by kernel_rfl,λargs h v h' S hi ha=>by rw[stdI_277] at hi;exact zgj hi ha⟩
end Am.F
