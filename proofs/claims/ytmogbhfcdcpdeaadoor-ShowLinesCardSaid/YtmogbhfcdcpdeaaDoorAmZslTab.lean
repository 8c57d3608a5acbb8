/- The table. -/
import Derived.Test.YtmogbhfcdcpdeaaDoorAmJe
import Derived.Test.YtmogbhfcdcpdeaaDoorAmJh
import Derived.Test.YtmogbhfcdcpdeaaDoorAmGS8W
import Derived.Test.YtmogbhfcdcpdeaaDoorAmGB8W
import Derived.Test.YtmogbhfcdcpdeaaDoorAmGL8W
import Derived.Test.YtmogbhfcdcpdeaaDoorAmGA8W
import Derived.Test.YtmogbhfcdcpdeaaDoorAmJd
set_option maxRecDepth 100000
namespace Am.F
open Go Am
noncomputable def tab0:ETree:=(.node e202 (.node e44 (.node e29 (.node e22 (.node e16 .leaf .leaf) (.node e28 .leaf .leaf)) (.node e41 (.node e30 .leaf .leaf) (.node e42 .leaf .leaf))) (.node e179 (.node e149 (.node e45 .leaf .leaf) (.node e157 .leaf .leaf)) (.node e187 (.node e186 .leaf .leaf) (.node e188 .leaf .leaf)))) (.node e253 (.node e214 (.node e212 (.node e203 .leaf .leaf) (.node e213 .leaf .leaf)) (.node e229 (.node e215 .leaf .leaf) (.node e252 .leaf .leaf))) (.node e268 (.node e255 (.node e254 .leaf .leaf) (.node e267 .leaf .leaf)) (.node e277 (.node e275 .leaf .leaf) (.node e303 .leaf .leaf)))))
noncomputable def tab:ETree:=(.node e202 (.node e44 (.node e29 (.node e22 (.node e16 .leaf .leaf) (.node e28 .leaf .leaf)) (.node e41 (.node e30 .leaf .leaf) (.node e42 .leaf .leaf))) (.node e179 (.node e149 (.node e45 .leaf .leaf) (.node e157 .leaf .leaf)) (.node e187 (.node e186 .leaf .leaf) (.node e188 .leaf .leaf)))) (.node e253 (.node e214 (.node e212 (.node e203 .leaf .leaf) (.node e213 .leaf .leaf)) (.node e229 (.node e215 .leaf .leaf) (.node (eAw 252) .leaf .leaf))) (.node e268 (.node e255 (.node e254 .leaf .leaf) (.node e267 .leaf .leaf)) (.node e277 (.node e275 .leaf .leaf) (.node e303 .leaf .leaf)))))
theorem tab0_0:tab0.T 0=none:=by kernel_rfl
theorem tab0_ok:tab0.okB=true:=by kernel_rfl
theorem zgI:tab0.among [29,42,44,45,277]=true:=by kernel_rfl
theorem iok0:IOk tab0.T stdI:=by
 refine iok_of zgI ?_;intro k hk;simp only[List.mem_cons,List.not_mem_nil,or_false] at hk;rcases hk with rfl|rfl|rfl|rfl|rfl
 ·exact⟨zej,by kernel_rfl,λargs h v h' S hi ha=>by rw[zfu] at hi;exact zgn hi ha⟩
 ·exact⟨zei,by kernel_rfl,λargs h v h' S hi ha=>by rw[zft] at hi;exact zgm hi ha⟩
 ·exact⟨zcs,by kernel_rfl,λargs h v h' S hi ha=>by rw[zhl] at hi;exact zdn hi ha⟩
 ·exact⟨zir,by kernel_rfl,λargs h v h' S hi ha=>by rw[zhk] at hi;exact zgE hi ha⟩
 ·exact⟨zcf,by kernel_rfl,λargs h v h' S hi ha=>by rw[zf7] at hi;exact zeC hi ha⟩
theorem tab_0:tab.T 0=none:=by kernel_rfl
theorem tab_ok:tab.okB=true:=by kernel_rfl
theorem zhh:tab.among [29,42,44,45,277,252]=true:=by kernel_rfl
theorem iok:IOk tab.T stdI:=by
 refine iok_of zhh ?_;intro k hk;simp only[List.mem_cons,List.not_mem_nil,or_false] at hk;rcases hk with rfl|rfl|rfl|rfl|rfl|rfl
 ·exact⟨zej,by kernel_rfl,λargs h v h' S hi ha=>by rw[zfu] at hi;exact zgn hi ha⟩
 ·exact⟨zei,by kernel_rfl,λargs h v h' S hi ha=>by rw[zft] at hi;exact zgm hi ha⟩
 ·exact⟨zcs,by kernel_rfl,λargs h v h' S hi ha=>by rw[zhl] at hi;exact zdn hi ha⟩
 ·exact⟨zir,by kernel_rfl,λargs h v h' S hi ha=>by rw[zhk] at hi;exact zgE hi ha⟩
 ·exact⟨zcf,by kernel_rfl,λargs h v h' S hi ha=>by rw[zf7] at hi;exact zeC hi ha⟩
 ·exact⟨awkG,by kernel_rfl,λargs h v h' S hi ha=>awkI_ok hi ha⟩
theorem gaw:tab.get 252=some (eAw 252):=by kernel_rfl
theorem gi:GI tab:=⟨by kernel_rfl,by kernel_rfl,by kernel_rfl,by kernel_rfl⟩
theorem gsp:tab.get 277=some e277:=by kernel_rfl
theorem gA:GA tab:=⟨by kernel_rfl,by kernel_rfl,by kernel_rfl,by kernel_rfl,by kernel_rfl⟩
theorem gC:GC tab:=⟨by kernel_rfl,by kernel_rfl,by kernel_rfl,by kernel_rfl,by kernel_rfl,by kernel_rfl,by kernel_rfl,by kernel_rfl,by kernel_rfl,by kernel_rfl,by kernel_rfl,by kernel_rfl,by kernel_rfl⟩
theorem gS8:GS8 tab:=⟨by kernel_rfl,by kernel_rfl,by kernel_rfl⟩
theorem gB8:GB8 tab:=⟨by kernel_rfl,by kernel_rfl,by kernel_rfl⟩
theorem gL8:GL8 tab:=⟨by kernel_rfl⟩
end Am.F
