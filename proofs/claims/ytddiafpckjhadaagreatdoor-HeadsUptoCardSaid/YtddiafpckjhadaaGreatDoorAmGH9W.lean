/- What the functions come to. -/
import Derived.Test.YtddiafpckjhadaaGreatDoorAmGH9T
import Derived.Test.YtddiafpckjhadaaGreatDoorAmJc
set_option maxRecDepth 100000
set_option linter.unusedVariables false
namespace Am.F
open Go Am
noncomputable section
variable {β:Type} (I:FI) (N:Nat) (call:zg β) (a:List AV) (h:H) (k:K β)
def f237{β:Type}(N:Nat)(call:zg β)(a:List AV)(h:H)(k:K β):Option β :=
 qBox 0 (nth a 0) h<|.mk λv0 h=>
 zi 1 v0 h<|.mk λv1=>
 qCall call (.fn 135 []) [v1] h<|.mk λv2 h=>
 qCall call (.fn 10 []) [(nth a 2)] h<|.mk λv3 h=>
 zN 0 [.nils] h<|.mk λv4 h=>
 zk 1 v4 v2 h<|.mk λh=>
 zi 1 v4 h<|.mk λv5=>
 qCall call (.fn 155 []) [v5,(nth a 1),v3,(nth a 3)] h<|.mk λv6 h=>
 qExt 0 v6<|.mk λv7=>
 qExt 1 v6<|.mk λv8=>
 zi 1 v0 h<|.mk λv9=>
 qCall call (.fn 145 []) [v9,(nth a 1),(nth a 2),(nth a 3)] h<|.mk λv10 h=>
 qExt 0 v10<|.mk λv11=>
 qExt 1 v10<|.mk λv12=>
 zdt v7 v11<|.mk λv13=>
 qAnd v13 h (.mk λh k=>
 qCall call (.fn 16 []) [v8] h<|.mk λv14 h=>
 qEql v14 v12<|.mk λv15=>
 k v15 h)<|.mk λv16 h=>
 qAnd v16 h (.mk λh k=>
 zi 1 v4 h<|.mk λv17=>
 zi 1 v0 h<|.mk λv18=>
 qCall call (.fn 140 []) [v17,v18] h<|.mk λv19 h=>
 k v19 h)<|.mk λv20 h=>
 qAnd v20 h (.mk λh k=>
 qCall call (.fn 20 []) [v3,(nth a 2)] h<|.mk λv21 h=>
 k v21 h)<|.mk λv22 h=>
 qAnd v22 h (.mk λh k=>
 qCall call (.fn 153 []) [] h<|.mk λv23 h=>
 k v23 h)<|.mk λv24 h=>
 k v24 h
theorem y237:zy I 237 T.s237 N call a h k=f237 N call a h k:=by kernel_rfl
def e237:Ent:=⟨237,T.s237,λ_ _=>f237,λ_=>y237⟩
structure GH9 (t:ETree):Prop where
 g237:t.get 237=some e237
section
variable {β:Type} {t:ETree} {I:FI} (n:Nat) (a:List AV) (h:H) (k:K β)
theorem GH9.c237(T:GH9 t):zc t I (n+1) (.fn 237 []) a h k=f237 n (zc t I n) a h k:=by rw[cRule T.g237];rfl
end
end
end Am.F
