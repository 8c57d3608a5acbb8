/- What the functions come to. -/
import Derived.Test.YtlidemdbimpkaaaDoorAmGS11T
import Derived.Test.YtlidemdbimpkaaaDoorAmJc
set_option maxRecDepth 100000
set_option linter.unusedVariables false
namespace Am.F
open Go Am
noncomputable section
variable {β:Type} (I:FI) (N:Nat) (call:zh β) (a:List AV) (h:H) (k:K β)
def f143{β:Type}(N:Nat)(call:zh β)(a:List AV)(h:H)(k:K β):Option β :=
 zao 0 [.nils] h<|.mk λv0 h=>
 zp [(.int .i64 0),(.int .i64 0),(.int .i64 0),.nils] [(0,1)] [(.int .i64 7)]<|.mk λv1=>
 zp [(.int .i64 0),(.int .i64 0),(.int .i64 0),.nils] [(1,1)] [(.int .i64 4)]<|.mk λv2=>
 zQ 0 [(.int .i64 0),(.int .i64 0)] 2 [(0,1),(1,1)] [(.int .i64 0),(.int .i64 1)] h<|.mk λv3 h=>
 zp [(.int .i64 0),(.int .i64 0),(.int .i64 0),.nils] [(0,1),(1,1),(3,1)] [(.int .i64 3),(.int .i64 7),v3]<|.mk λv4=>
 zp [(.int .i64 0),(.int .i64 0),(.int .i64 0),.nils] [(1,1)] [(.int .i64 5)]<|.mk λv5=>
 zQ 0 [(.int .i64 0),(.int .i64 0)] 2 [(0,1),(1,1)] [(.int .i64 2),(.int .i64 3)] h<|.mk λv6 h=>
 zp [(.int .i64 0),(.int .i64 0),(.int .i64 0),.nils] [(0,1),(1,1),(3,1)] [(.int .i64 2),(.int .i64 1),v6]<|.mk λv7=>
 zQ 0 [(.int .i64 0),(.int .i64 0),(.int .i64 0),.nils,(.int .i64 0),(.int .i64 0),(.int .i64 0),.nils,(.int .i64 0),(.int .i64 0),(.int .i64 0),.nils,(.int .i64 0),(.int .i64 0),(.int .i64 0),.nils,(.int .i64 0),(.int .i64 0),(.int .i64 0),.nils] 5 [(0,4),(4,4),(8,4),(12,4),(16,4)] [v1,v2,v4,v5,v7] h<|.mk λv8 h=>
 zp [(.int .i64 0),.nils] [(1,1)] [v8]<|.mk λv9=>
 zao 0 [(.int .i64 0),.nils] h<|.mk λv10 h=>
 zr 2 v10 v9 h<|.mk λh=>
 zF 2 v10 h<|.mk λv11=>
 qCall call (.fn 171 []) [] h<|.mk λv12 h=>
 zF 2 v10 h<|.mk λv13=>
 qChk v13 v11<|.mk (
 zQ 0 [(.int .i64 0),.nils,(.int .i64 0),.nils] 2 [(0,2),(2,2)] [v11,v12] h<|.mk λv14 h=>
 zp [.nils] [(0,1)] [v14]<|.mk λv15=>
 zr 1 v0 v15 h<|.mk λh=>
 zF 1 v0 h<|.mk λv16=>
 k v16 h)
theorem y143:zS I 143 T.s143 N call a h k=f143 N call a h k:=by kernel_rfl
def f171{β:Type}(N:Nat)(call:zh β)(a:List AV)(h:H)(k:K β):Option β :=
 zao 0 [(.int .i64 0),.nils] h<|.mk λv0 h=>
 zp [(.int .i64 0),(.int .i64 0),(.int .i64 0),.nils] [(0,1)] [(.int .i64 1)]<|.mk λv1=>
 zp [(.int .i64 0),(.int .i64 0),(.int .i64 0),.nils] [(0,1),(1,1)] [(.int .i64 1),(.int .i64 3)]<|.mk λv2=>
 zp [(.int .i64 0),(.int .i64 0),(.int .i64 0),.nils] [(0,1),(1,1)] [(.int .i64 1),(.int .i64 1)]<|.mk λv3=>
 zQ 0 [(.int .i64 0),(.int .i64 0)] 2 [(0,1),(1,1)] [(.int .i64 1),(.int .i64 2)] h<|.mk λv4 h=>
 zp [(.int .i64 0),(.int .i64 0),(.int .i64 0),.nils] [(0,1),(3,1)] [(.int .i64 4),v4]<|.mk λv5=>
 zp [(.int .i64 0),(.int .i64 0),(.int .i64 0),.nils] [(0,1)] [(.int .i64 1)]<|.mk λv6=>
 zp [(.int .i64 0),(.int .i64 0),(.int .i64 0),.nils] [(0,1),(1,1)] [(.int .i64 1),(.int .i64 1)]<|.mk λv7=>
 zQ 0 [(.int .i64 0),(.int .i64 0)] 2 [(0,1),(1,1)] [(.int .i64 4),(.int .i64 5)] h<|.mk λv8 h=>
 zp [(.int .i64 0),(.int .i64 0),(.int .i64 0),.nils] [(0,1),(3,1)] [(.int .i64 4),v8]<|.mk λv9=>
 zQ 0 [(.int .i64 0),(.int .i64 0),(.int .i64 0)] 3 [(0,1),(1,1),(2,1)] [(.int .i64 0),(.int .i64 3),(.int .i64 6)] h<|.mk λv10 h=>
 zp [(.int .i64 0),(.int .i64 0),(.int .i64 0),.nils] [(0,1),(1,1),(2,1),(3,1)] [(.int .i64 5),(.int .i64 7),(.int .i64 2),v10]<|.mk λv11=>
 zQ 0 [(.int .i64 0),(.int .i64 0),(.int .i64 0),.nils,(.int .i64 0),(.int .i64 0),(.int .i64 0),.nils,(.int .i64 0),(.int .i64 0),(.int .i64 0),.nils,(.int .i64 0),(.int .i64 0),(.int .i64 0),.nils,(.int .i64 0),(.int .i64 0),(.int .i64 0),.nils,(.int .i64 0),(.int .i64 0),(.int .i64 0),.nils,(.int .i64 0),(.int .i64 0),(.int .i64 0),.nils,(.int .i64 0),(.int .i64 0),(.int .i64 0),.nils] 8 [(0,4),(4,4),(8,4),(12,4),(16,4),(20,4),(24,4),(28,4)] [v1,v2,v3,v5,v6,v7,v9,v11] h<|.mk λv12 h=>
 zp [(.int .i64 0),.nils] [(0,1),(1,1)] [(.int .i64 2),v12]<|.mk λv13=>
 zr 2 v0 v13 h<|.mk λh=>
 zF 2 v0 h<|.mk λv14=>
 k v14 h
theorem y171:zS I 171 T.s171 N call a h k=f171 N call a h k:=by kernel_rfl
def e143:Ent:=⟨143,T.s143,λ_ _=>f143,λ_=>y143⟩
def e171:Ent:=⟨171,T.s171,λ_ _=>f171,λ_=>y171⟩
section
variable {β:Type} {t:ETree} {I:FI} (n:Nat) (a:List AV) (h:H) (k:K β)
end
end
end Am.F
