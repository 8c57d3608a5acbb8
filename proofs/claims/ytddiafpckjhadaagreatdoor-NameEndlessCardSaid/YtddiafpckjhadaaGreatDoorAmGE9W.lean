/- What the functions come to. -/
import Derived.Test.YtddiafpckjhadaaGreatDoorAmGE9T
import Derived.Test.YtddiafpckjhadaaGreatDoorAmJc
set_option maxRecDepth 100000
set_option linter.unusedVariables false
namespace Am.F
open Go Am
noncomputable section
variable {β:Type} (I:FI) (N:Nat) (call:zc β) (a:List AV) (h:H) (k:K β)
def f239_J0{β:Type}(call:zc β)(k:K β)(x0 x1 x2 x3 x4 x5 x6 x7:AV)(h:H):Option β :=
 zah .u64 x0<|.mk λv1=>
 qBin .rem v1 (.int .u64 401)<|.mk λv2=>
 zah .i64 v2<|.mk λv3=>
 zt 0 [(.str []),(.str []),(.str []),(.str []),(.str []),(.str []),(.str []),(.str [])] 8 [(0,1),(1,1),(2,1),(3,1),(4,1),(5,1),(6,1),(7,1)] [(.str [40,102,48,41]),(.str [40,43,32,49,32,40,102,48,41,41]),(.str [40,99,97,115,101,32,40,102,48,41,32,64,49,32,48,32,49,32,50,41]),(.str [40,108,101,116,32,49,32,40,102,48,41,41]),(.str [40,102,50,32,49,41]),(.str [40,102,49,32,40,102,50,32,49,41,32,49,41]),(.str [40,43,32,40,102,48,41,32,101,114,114,111,114,41]),(.str [40,99,97,115,101,32,49,32,64,49,32,48,32,49,32,40,102,48,41,41])] h<|.mk λv4 h=>
 qBin .and x1 (.int .i64 7)<|.mk λv5=>
 zz 1 v4 v5<|.mk λv6=>
 za v6 h<|.mk λv7=>
 qCall call (.fn 245 []) [v7] h<|.mk λv8 h=>
 qCall call (.fn 155 []) [v8,(.int .i64 0),.nils,v3] h<|.mk λv9 h=>
 qExt 0 v9<|.mk λv10=>
 qExt 1 v9<|.mk λv11=>
 qCall call (.fn 16 []) [v11] h<|.mk λv12 h=>
 qEql v12 (.int .i64 901)<|.mk λv13=>
 k v13 h
def f239{β:Type}(N:Nat)(call:zc β)(a:List AV)(h:H)(k:K β):Option β :=
 zh 8 (.mk (
 f239_J0 call k))<|.mk λj0=>
 qCall call (.fn 153 []) [] h<|.mk λv14 h=>
 qNot v14<|.mk λv15=>
 qIf v15 (.mk (
 k (.bool false) h))<|.mk (
 j0 (nth a 0) (nth a 1) (.bool false) (nth a 5) (nth a 7) (nth a 14) (nth a 23) (nth a 24) h)
theorem y239:zq I 239 T.s239 N call a h k=f239 N call a h k:=by kernel_rfl
def e239:Ent:=⟨239,T.s239,λ_ _=>f239,λ_=>y239⟩
structure GE9 (t:ETree):Prop where
 g239:t.get 239=some e239
section
variable {β:Type} {t:ETree} {I:FI} (n:Nat) (a:List AV) (h:H) (k:K β)
theorem GE9.c239(T:GE9 t):zb t I (n+1) (.fn 239 []) a h k=f239 n (zb t I n) a h k:=by rw[cRule T.g239];rfl
end
end
end Am.F
