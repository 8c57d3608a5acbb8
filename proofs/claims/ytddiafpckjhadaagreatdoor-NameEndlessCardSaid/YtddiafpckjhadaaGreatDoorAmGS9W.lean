/- What the functions come to. -/
import Derived.Test.YtddiafpckjhadaaGreatDoorAmGS9T
import Derived.Test.YtddiafpckjhadaaGreatDoorAmJc
set_option maxRecDepth 100000
set_option linter.unusedVariables false
namespace Am.F
open Go Am
noncomputable section
variable {β:Type} (I:FI) (N:Nat) (call:zc β) (a:List AV) (h:H) (k:K β)
def f154{β:Type}(N:Nat)(call:zc β)(a:List AV)(h:H)(k:K β):Option β :=
 zO 0 [.nils] h<|.mk λv0 h=>
 zn [(.int .i64 0),(.int .i64 0),(.int .i64 0),.nils] [(0,1)] [(.int .i64 7)]<|.mk λv1=>
 zn [(.int .i64 0),(.int .i64 0),(.int .i64 0),.nils] [(1,1)] [(.int .i64 4)]<|.mk λv2=>
 zt 0 [(.int .i64 0),(.int .i64 0)] 2 [(0,1),(1,1)] [(.int .i64 0),(.int .i64 1)] h<|.mk λv3 h=>
 zn [(.int .i64 0),(.int .i64 0),(.int .i64 0),.nils] [(0,1),(1,1),(3,1)] [(.int .i64 3),(.int .i64 7),v3]<|.mk λv4=>
 zn [(.int .i64 0),(.int .i64 0),(.int .i64 0),.nils] [(1,1)] [(.int .i64 5)]<|.mk λv5=>
 zt 0 [(.int .i64 0),(.int .i64 0)] 2 [(0,1),(1,1)] [(.int .i64 2),(.int .i64 3)] h<|.mk λv6 h=>
 zn [(.int .i64 0),(.int .i64 0),(.int .i64 0),.nils] [(0,1),(1,1),(3,1)] [(.int .i64 2),(.int .i64 1),v6]<|.mk λv7=>
 zt 0 [(.int .i64 0),(.int .i64 0),(.int .i64 0),.nils,(.int .i64 0),(.int .i64 0),(.int .i64 0),.nils,(.int .i64 0),(.int .i64 0),(.int .i64 0),.nils,(.int .i64 0),(.int .i64 0),(.int .i64 0),.nils,(.int .i64 0),(.int .i64 0),(.int .i64 0),.nils] 5 [(0,4),(4,4),(8,4),(12,4),(16,4)] [v1,v2,v4,v5,v7] h<|.mk λv8 h=>
 zn [(.int .i64 0),.nils] [(1,1)] [v8]<|.mk λv9=>
 zO 0 [(.int .i64 0),.nils] h<|.mk λv10 h=>
 zj 2 v10 v9 h<|.mk λh=>
 zm 2 v10 h<|.mk λv11=>
 qCall call (.fn 183 []) [] h<|.mk λv12 h=>
 zm 2 v10 h<|.mk λv13=>
 qChk v13 v11<|.mk (
 zt 0 [(.int .i64 0),.nils,(.int .i64 0),.nils] 2 [(0,2),(2,2)] [v11,v12] h<|.mk λv14 h=>
 zn [.nils] [(0,1)] [v14]<|.mk λv15=>
 zj 1 v0 v15 h<|.mk λh=>
 zm 1 v0 h<|.mk λv16=>
 k v16 h)
theorem y154:zq I 154 T.s154 N call a h k=f154 N call a h k:=by kernel_rfl
def f183{β:Type}(N:Nat)(call:zc β)(a:List AV)(h:H)(k:K β):Option β :=
 zO 0 [(.int .i64 0),.nils] h<|.mk λv0 h=>
 zn [(.int .i64 0),(.int .i64 0),(.int .i64 0),.nils] [(0,1)] [(.int .i64 1)]<|.mk λv1=>
 zn [(.int .i64 0),(.int .i64 0),(.int .i64 0),.nils] [(0,1),(1,1)] [(.int .i64 1),(.int .i64 3)]<|.mk λv2=>
 zn [(.int .i64 0),(.int .i64 0),(.int .i64 0),.nils] [(0,1),(1,1)] [(.int .i64 1),(.int .i64 1)]<|.mk λv3=>
 zt 0 [(.int .i64 0),(.int .i64 0)] 2 [(0,1),(1,1)] [(.int .i64 1),(.int .i64 2)] h<|.mk λv4 h=>
 zn [(.int .i64 0),(.int .i64 0),(.int .i64 0),.nils] [(0,1),(3,1)] [(.int .i64 4),v4]<|.mk λv5=>
 zn [(.int .i64 0),(.int .i64 0),(.int .i64 0),.nils] [(0,1)] [(.int .i64 1)]<|.mk λv6=>
 zn [(.int .i64 0),(.int .i64 0),(.int .i64 0),.nils] [(0,1),(1,1)] [(.int .i64 1),(.int .i64 1)]<|.mk λv7=>
 zt 0 [(.int .i64 0),(.int .i64 0)] 2 [(0,1),(1,1)] [(.int .i64 4),(.int .i64 5)] h<|.mk λv8 h=>
 zn [(.int .i64 0),(.int .i64 0),(.int .i64 0),.nils] [(0,1),(3,1)] [(.int .i64 4),v8]<|.mk λv9=>
 zt 0 [(.int .i64 0),(.int .i64 0),(.int .i64 0)] 3 [(0,1),(1,1),(2,1)] [(.int .i64 0),(.int .i64 3),(.int .i64 6)] h<|.mk λv10 h=>
 zn [(.int .i64 0),(.int .i64 0),(.int .i64 0),.nils] [(0,1),(1,1),(2,1),(3,1)] [(.int .i64 5),(.int .i64 7),(.int .i64 2),v10]<|.mk λv11=>
 zt 0 [(.int .i64 0),(.int .i64 0),(.int .i64 0),.nils,(.int .i64 0),(.int .i64 0),(.int .i64 0),.nils,(.int .i64 0),(.int .i64 0),(.int .i64 0),.nils,(.int .i64 0),(.int .i64 0),(.int .i64 0),.nils,(.int .i64 0),(.int .i64 0),(.int .i64 0),.nils,(.int .i64 0),(.int .i64 0),(.int .i64 0),.nils,(.int .i64 0),(.int .i64 0),(.int .i64 0),.nils,(.int .i64 0),(.int .i64 0),(.int .i64 0),.nils] 8 [(0,4),(4,4),(8,4),(12,4),(16,4),(20,4),(24,4),(28,4)] [v1,v2,v3,v5,v6,v7,v9,v11] h<|.mk λv12 h=>
 zn [(.int .i64 0),.nils] [(0,1),(1,1)] [(.int .i64 2),v12]<|.mk λv13=>
 zj 2 v0 v13 h<|.mk λh=>
 zm 2 v0 h<|.mk λv14=>
 k v14 h
theorem y183:zq I 183 T.s183 N call a h k=f183 N call a h k:=by kernel_rfl
def e154:Ent:=⟨154,T.s154,λ_ _=>f154,λ_=>y154⟩
def e183:Ent:=⟨183,T.s183,λ_ _=>f183,λ_=>y183⟩
section
variable {β:Type} {t:ETree} {I:FI} (n:Nat) (a:List AV) (h:H) (k:K β)
end
end
end Am.F
