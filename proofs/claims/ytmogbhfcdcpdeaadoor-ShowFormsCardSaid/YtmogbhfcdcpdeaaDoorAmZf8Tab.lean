/- The table. -/
import Derived.Test.YtmogbhfcdcpdeaaDoorAmJe
import Derived.Test.YtmogbhfcdcpdeaaDoorAmJh
import Derived.Test.YtmogbhfcdcpdeaaDoorAmGS8W
import Derived.Test.YtmogbhfcdcpdeaaDoorAmGA8W
import Derived.Test.YtmogbhfcdcpdeaaDoorAmGB8W
import Derived.Test.YtmogbhfcdcpdeaaDoorAmGF8W
import Derived.Test.YtmogbhfcdcpdeaaDoorAmJd
set_option maxRecDepth 100000
namespace Am.F
open Go Am
noncomputable def tab:ETree:=(.node e44 (.node e27 (.node e18 (.node e14 (.node e12 (.node e11 (.node e10 .leaf .leaf) .leaf) (.node e13 .leaf .leaf)) (.node e16 (.node e15 .leaf .leaf) (.node e17 .leaf .leaf))) (.node e23 (.node e20 (.node e19 .leaf .leaf) (.node e22 .leaf .leaf)) (.node e25 (.node e24 .leaf .leaf) (.node e26 .leaf .leaf)))) (.node e35 (.node e31 (.node e29 (.node e28 .leaf .leaf) (.node e30 .leaf .leaf)) (.node e33 (.node e32 .leaf .leaf) (.node e34 .leaf .leaf))) (.node e39 (.node e37 (.node e36 .leaf .leaf) (.node e38 .leaf .leaf)) (.node e41 (.node e40 .leaf .leaf) (.node e42 .leaf .leaf))))) (.node e229 (.node e187 (.node e149 (.node e47 (.node e46 (.node e45 .leaf .leaf) .leaf) (.node e48 .leaf .leaf)) (.node e179 (.node e157 .leaf .leaf) (.node e186 .leaf .leaf))) (.node e212 (.node e202 (.node e188 .leaf .leaf) (.node e203 .leaf .leaf)) (.node e214 (.node e213 .leaf .leaf) (.node e215 .leaf .leaf)))) (.node e267 (.node e254 (.node e252 (.node e246 .leaf .leaf) (.node e253 .leaf .leaf)) (.node e261 (.node e255 .leaf .leaf) (.node e262 .leaf .leaf))) (.node e272 (.node e270 (.node e268 .leaf .leaf) (.node e271 .leaf .leaf)) (.node e276 (.node e275 .leaf .leaf) (.node e277 .leaf .leaf))))))
theorem tab_0:tab.T 0=none:=by kernel_rfl
theorem tab_ok:tab.okB=true:=by kernel_rfl
theorem zfQ:tab.among [29,42,44,45,277]=true:=by kernel_rfl
theorem iok:IOk tab.T stdI:=by
 refine iok_of zfQ ?_;intro k hk;simp only[List.mem_cons,List.not_mem_nil,or_false] at hk;rcases hk with rfl|rfl|rfl|rfl|rfl
 ·exact⟨zeD,by kernel_rfl,λargs h v h' S hi ha=>by rw[stdI_29] at hi;exact itoaI_ok hi ha⟩
 ·exact⟨zeC,by kernel_rfl,λargs h v h' S hi ha=>by rw[stdI_42] at hi;exact joinI_ok hi ha⟩
 ·exact⟨zcf,by kernel_rfl,λargs h v h' S hi ha=>by rw[stdI_44] at hi;exact zeE hi ha⟩
 ·exact⟨atoiG,by kernel_rfl,λargs h v h' S hi ha=>by rw[stdI_45] at hi;exact atoiI_ok hi ha⟩
 ·exact⟨zcm,by kernel_rfl,λargs h v h' S hi ha=>by rw[stdI_277] at hi;exact zfR hi ha⟩
end Am.F
