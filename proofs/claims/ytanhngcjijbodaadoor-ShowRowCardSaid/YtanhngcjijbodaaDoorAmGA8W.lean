/- What the functions come to. -/
import Derived.Test.YtanhngcjijbodaaDoorAmGA8T
import Derived.Test.YtanhngcjijbodaaDoorAmJc
set_option maxRecDepth 100000
set_option linter.unusedVariables false
namespace Am.F
open Go Am
noncomputable section
variable {β:Type} (I:FI) (N:Nat) (call:zc β) (a:List AV) (h:H) (k:K β)
def f252{β:Type}(N:Nat)(call:zc β)(a:List AV)(h:H)(k:K β):Option β :=
 zp call (.fn 253 []) [] h<|.mk λv0 h=>
 zp call (.fn 254 []) [v0] h<|.mk λv1 h=>
 qExt 0 v1<|.mk λv2=>
 qExt 1 v1<|.mk λv3=>
 zJ [.nils] [] []<|.mk λv4=>
 zp call (.fn 254 []) [v4] h<|.mk λv5 h=>
 qExt 0 v5<|.mk λv6=>
 qExt 1 v5<|.mk λv7=>
 zp call (.fn 255 []) [] h<|.mk λv8 h=>
 qSEql v2 v8<|.mk λv9=>
 qAnd v9 h (.mk λh k=>
 zp call (.fn 16 []) [v3] h<|.mk λv10 h=>
 qEql v10 (.int .i64 0)<|.mk λv11=>
 k v11 h)<|.mk λv12 h=>
 qAnd v12 h (.mk λh k=>
 zp call (.fn 16 []) [v7] h<|.mk λv13 h=>
 qEql v13 (.int .i64 800)<|.mk λv14=>
 k v14 h)<|.mk λv15 h=>
 k v15 h
theorem y252:z8 I 252 T.s252 N call a h k=f252 N call a h k:=by kernel_rfl
def e252:Ent:=⟨252,T.s252,λ_ _=>f252,λ_=>y252⟩
section
variable {β:Type} {t:ETree} {I:FI} (n:Nat) (a:List AV) (h:H) (k:K β)
end
end
end Am.F
