/- What the functions come to. -/
import Derived.Test.YtanhngcjijbodaaDoorAmGB8T
import Derived.Test.YtanhngcjijbodaaDoorAmJc
set_option maxRecDepth 100000
set_option linter.unusedVariables false
namespace Am.F
open Go Am
noncomputable section
variable {β:Type} (I:FI) (N:Nat) (call:zc β) (a:List AV) (h:H) (k:K β)
def f253{β:Type}(N:Nat)(call:zc β)(a:List AV)(h:H)(k:K β):Option β :=
 zb6 0 [.nils] h<|.mk λv0 h=>
 zJ [(.int .i64 0),(.int .i64 0),(.int .i64 0),.nils] [(0,1)] [(.int .i64 7)]<|.mk λv1=>
 zJ [(.int .i64 0),(.int .i64 0),(.int .i64 0),.nils] [(1,1)] [(.int .i64 4)]<|.mk λv2=>
 zQ 0 [(.int .i64 0),(.int .i64 0)] 2 [(0,1),(1,1)] [(.int .i64 0),(.int .i64 1)] h<|.mk λv3 h=>
 zJ [(.int .i64 0),(.int .i64 0),(.int .i64 0),.nils] [(0,1),(1,1),(3,1)] [(.int .i64 3),(.int .i64 7),v3]<|.mk λv4=>
 zJ [(.int .i64 0),(.int .i64 0),(.int .i64 0),.nils] [(1,1)] [(.int .i64 5)]<|.mk λv5=>
 zQ 0 [(.int .i64 0),(.int .i64 0)] 2 [(0,1),(1,1)] [(.int .i64 2),(.int .i64 3)] h<|.mk λv6 h=>
 zJ [(.int .i64 0),(.int .i64 0),(.int .i64 0),.nils] [(0,1),(1,1),(3,1)] [(.int .i64 2),(.int .i64 1),v6]<|.mk λv7=>
 zQ 0 [(.int .i64 0),(.int .i64 0),(.int .i64 0),.nils,(.int .i64 0),(.int .i64 0),(.int .i64 0),.nils,(.int .i64 0),(.int .i64 0),(.int .i64 0),.nils,(.int .i64 0),(.int .i64 0),(.int .i64 0),.nils,(.int .i64 0),(.int .i64 0),(.int .i64 0),.nils] 5 [(0,4),(4,4),(8,4),(12,4),(16,4)] [v1,v2,v4,v5,v7] h<|.mk λv8 h=>
 zJ [(.int .i64 0),.nils] [(1,1)] [v8]<|.mk λv9=>
 zb6 0 [(.int .i64 0),.nils] h<|.mk λv10 h=>
 zaJ 2 v10 v9 h<|.mk λh=>
 zax 2 v10 h<|.mk λv11=>
 zp call (.fn 267 []) [] h<|.mk λv12 h=>
 zax 2 v10 h<|.mk λv13=>
 qChk v13 v11<|.mk (
 zQ 0 [(.int .i64 0),.nils,(.int .i64 0),.nils] 2 [(0,2),(2,2)] [v11,v12] h<|.mk λv14 h=>
 zJ [.nils] [(0,1)] [v14]<|.mk λv15=>
 zaJ 1 v0 v15 h<|.mk λh=>
 zax 1 v0 h<|.mk λv16=>
 k v16 h)
theorem y253:z8 I 253 T.s253 N call a h k=f253 N call a h k:=by kernel_rfl
def f255{β:Type}(N:Nat)(call:zc β)(a:List AV)(h:H)(k:K β):Option β :=
 k (.str [40,100,101,102,32,48,32,40,102,49,32,40,64,55,32,101,114,114,111,114,32,52,41,32,53,41,41,10,40,100,101,102,32,50,32,40,99,97,115,101,32,36,48,32,64,55,32,50,32,40,43,32,36,51,32,36,49,41,32,40,43,32,36,48,32,36,49,41,41,41,10]) h
theorem y255:z8 I 255 T.s255 N call a h k=f255 N call a h k:=by kernel_rfl
def f267{β:Type}(N:Nat)(call:zc β)(a:List AV)(h:H)(k:K β):Option β :=
 zb6 0 [(.int .i64 0),.nils] h<|.mk λv0 h=>
 zJ [(.int .i64 0),(.int .i64 0),(.int .i64 0),.nils] [(0,1)] [(.int .i64 1)]<|.mk λv1=>
 zJ [(.int .i64 0),(.int .i64 0),(.int .i64 0),.nils] [(0,1),(1,1)] [(.int .i64 1),(.int .i64 3)]<|.mk λv2=>
 zJ [(.int .i64 0),(.int .i64 0),(.int .i64 0),.nils] [(0,1),(1,1)] [(.int .i64 1),(.int .i64 1)]<|.mk λv3=>
 zQ 0 [(.int .i64 0),(.int .i64 0)] 2 [(0,1),(1,1)] [(.int .i64 1),(.int .i64 2)] h<|.mk λv4 h=>
 zJ [(.int .i64 0),(.int .i64 0),(.int .i64 0),.nils] [(0,1),(3,1)] [(.int .i64 4),v4]<|.mk λv5=>
 zJ [(.int .i64 0),(.int .i64 0),(.int .i64 0),.nils] [(0,1)] [(.int .i64 1)]<|.mk λv6=>
 zJ [(.int .i64 0),(.int .i64 0),(.int .i64 0),.nils] [(0,1),(1,1)] [(.int .i64 1),(.int .i64 1)]<|.mk λv7=>
 zQ 0 [(.int .i64 0),(.int .i64 0)] 2 [(0,1),(1,1)] [(.int .i64 4),(.int .i64 5)] h<|.mk λv8 h=>
 zJ [(.int .i64 0),(.int .i64 0),(.int .i64 0),.nils] [(0,1),(3,1)] [(.int .i64 4),v8]<|.mk λv9=>
 zQ 0 [(.int .i64 0),(.int .i64 0),(.int .i64 0)] 3 [(0,1),(1,1),(2,1)] [(.int .i64 0),(.int .i64 3),(.int .i64 6)] h<|.mk λv10 h=>
 zJ [(.int .i64 0),(.int .i64 0),(.int .i64 0),.nils] [(0,1),(1,1),(2,1),(3,1)] [(.int .i64 5),(.int .i64 7),(.int .i64 2),v10]<|.mk λv11=>
 zQ 0 [(.int .i64 0),(.int .i64 0),(.int .i64 0),.nils,(.int .i64 0),(.int .i64 0),(.int .i64 0),.nils,(.int .i64 0),(.int .i64 0),(.int .i64 0),.nils,(.int .i64 0),(.int .i64 0),(.int .i64 0),.nils,(.int .i64 0),(.int .i64 0),(.int .i64 0),.nils,(.int .i64 0),(.int .i64 0),(.int .i64 0),.nils,(.int .i64 0),(.int .i64 0),(.int .i64 0),.nils,(.int .i64 0),(.int .i64 0),(.int .i64 0),.nils] 8 [(0,4),(4,4),(8,4),(12,4),(16,4),(20,4),(24,4),(28,4)] [v1,v2,v3,v5,v6,v7,v9,v11] h<|.mk λv12 h=>
 zJ [(.int .i64 0),.nils] [(0,1),(1,1)] [(.int .i64 2),v12]<|.mk λv13=>
 zaJ 2 v0 v13 h<|.mk λh=>
 zax 2 v0 h<|.mk λv14=>
 k v14 h
theorem y267:z8 I 267 T.s267 N call a h k=f267 N call a h k:=by kernel_rfl
def e253:Ent:=⟨253,T.s253,λ_ _=>f253,λ_=>y253⟩
def e255:Ent:=⟨255,T.s255,λ_ _=>f255,λ_=>y255⟩
def e267:Ent:=⟨267,T.s267,λ_ _=>f267,λ_=>y267⟩
section
variable {β:Type} {t:ETree} {I:FI} (n:Nat) (a:List AV) (h:H) (k:K β)
end
end
end Am.F
