/- What the functions come to. -/
import Derived.Test.YtddiafpckjhadaaGreatDoorAmGO9T
import Derived.Test.YtddiafpckjhadaaGreatDoorAmJc
set_option maxRecDepth 100000
set_option linter.unusedVariables false
namespace Am.F
open Go Am
noncomputable section
variable {β:Type} (I:FI) (N:Nat) (call:zc β) (a:List AV) (h:H) (k:K β)
def f245{β:Type}(N:Nat)(call:zc β)(a:List AV)(h:H)(k:K β):Option β :=
 zO 0 [.nils] h<|.mk λv0 h=>
 qSAdd (.str [40,100,101,102,32,48,32]) (nth a 0)<|.mk λv1=>
 qSAdd v1 (.str [41,10,40,100,101,102,32,50,32,40,99,97,115,101,32,36,48,32,64,55,32,50,32,40,43,32,36,51,32,36,49,41,32,40,43,32,36,48,32,36,49,41,41,41,10,40,100,101,102,32,49,32,40,102,50,32,36,48,41,41,10,40,100,101,102,32,50,32,36,49,41,10])<|.mk λv2=>
 qCall call (.fn 148 []) [v2] h<|.mk λv3 h=>
 qExt 0 v3<|.mk λv4=>
 qExt 1 v3<|.mk λv5=>
 zO 0 [.nils] h<|.mk λv6 h=>
 zj 1 v6 v4 h<|.mk λh=>
 zm 1 v6 h<|.mk λv7=>
 zj 1 v0 v7 h<|.mk λh=>
 zm 1 v0 h<|.mk λv8=>
 k v8 h
theorem y245:zq I 245 T.s245 N call a h k=f245 N call a h k:=by kernel_rfl
def e245:Ent:=⟨245,T.s245,λ_ _=>f245,λ_=>y245⟩
section
variable {β:Type} {t:ETree} {I:FI} (n:Nat) (a:List AV) (h:H) (k:K β)
end
end
end Am.F
