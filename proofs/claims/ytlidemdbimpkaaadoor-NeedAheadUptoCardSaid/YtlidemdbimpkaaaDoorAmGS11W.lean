/- What the functions come to. -/
import Derived.Test.YtlidemdbimpkaaaDoorAmGS11T
import Derived.Test.YtlidemdbimpkaaaDoorAmJc
set_option maxRecDepth 100000
set_option linter.unusedVariables false
namespace Am.F
open Go Am
noncomputable section
variable {β:Type} (I:FI) (N:Nat) (call:zi β) (a:List AV) (h:H) (k:K β)
def f143{β:Type}(N:Nat)(call:zi β)(a:List AV)(h:H)(k:K β):Option β :=
 zaJ 0 [.nils] h<|.mk λv0 h=>
 zy [(.int .i64 0),(.int .i64 0),(.int .i64 0),.nils] [(0,1)] [(.int .i64 7)]<|.mk λv1=>
 zy [(.int .i64 0),(.int .i64 0),(.int .i64 0),.nils] [(1,1)] [(.int .i64 4)]<|.mk λv2=>
 zP 0 [(.int .i64 0),(.int .i64 0)] 2 [(0,1),(1,1)] [(.int .i64 0),(.int .i64 1)] h<|.mk λv3 h=>
 zy [(.int .i64 0),(.int .i64 0),(.int .i64 0),.nils] [(0,1),(1,1),(3,1)] [(.int .i64 3),(.int .i64 7),v3]<|.mk λv4=>
 zy [(.int .i64 0),(.int .i64 0),(.int .i64 0),.nils] [(1,1)] [(.int .i64 5)]<|.mk λv5=>
 zP 0 [(.int .i64 0),(.int .i64 0)] 2 [(0,1),(1,1)] [(.int .i64 2),(.int .i64 3)] h<|.mk λv6 h=>
 zy [(.int .i64 0),(.int .i64 0),(.int .i64 0),.nils] [(0,1),(1,1),(3,1)] [(.int .i64 2),(.int .i64 1),v6]<|.mk λv7=>
 zP 0 [(.int .i64 0),(.int .i64 0),(.int .i64 0),.nils,(.int .i64 0),(.int .i64 0),(.int .i64 0),.nils,(.int .i64 0),(.int .i64 0),(.int .i64 0),.nils,(.int .i64 0),(.int .i64 0),(.int .i64 0),.nils,(.int .i64 0),(.int .i64 0),(.int .i64 0),.nils] 5 [(0,4),(4,4),(8,4),(12,4),(16,4)] [v1,v2,v4,v5,v7] h<|.mk λv8 h=>
 zy [(.int .i64 0),.nils] [(1,1)] [v8]<|.mk λv9=>
 zaJ 0 [(.int .i64 0),.nils] h<|.mk λv10 h=>
 zu 2 v10 v9 h<|.mk λh=>
 zM 2 v10 h<|.mk λv11=>
 qCall call (.fn 171 []) [] h<|.mk λv12 h=>
 zM 2 v10 h<|.mk λv13=>
 qChk v13 v11<|.mk (
 zP 0 [(.int .i64 0),.nils,(.int .i64 0),.nils] 2 [(0,2),(2,2)] [v11,v12] h<|.mk λv14 h=>
 zy [.nils] [(0,1)] [v14]<|.mk λv15=>
 zu 1 v0 v15 h<|.mk λh=>
 zM 1 v0 h<|.mk λv16=>
 k v16 h)
theorem y143:zah I 143 T.s143 N call a h k=f143 N call a h k:=by kernel_rfl
def f171{β:Type}(N:Nat)(call:zi β)(a:List AV)(h:H)(k:K β):Option β :=
 zaJ 0 [(.int .i64 0),.nils] h<|.mk λv0 h=>
 zy [(.int .i64 0),(.int .i64 0),(.int .i64 0),.nils] [(0,1)] [(.int .i64 1)]<|.mk λv1=>
 zy [(.int .i64 0),(.int .i64 0),(.int .i64 0),.nils] [(0,1),(1,1)] [(.int .i64 1),(.int .i64 3)]<|.mk λv2=>
 zy [(.int .i64 0),(.int .i64 0),(.int .i64 0),.nils] [(0,1),(1,1)] [(.int .i64 1),(.int .i64 1)]<|.mk λv3=>
 zP 0 [(.int .i64 0),(.int .i64 0)] 2 [(0,1),(1,1)] [(.int .i64 1),(.int .i64 2)] h<|.mk λv4 h=>
 zy [(.int .i64 0),(.int .i64 0),(.int .i64 0),.nils] [(0,1),(3,1)] [(.int .i64 4),v4]<|.mk λv5=>
 zy [(.int .i64 0),(.int .i64 0),(.int .i64 0),.nils] [(0,1)] [(.int .i64 1)]<|.mk λv6=>
 zy [(.int .i64 0),(.int .i64 0),(.int .i64 0),.nils] [(0,1),(1,1)] [(.int .i64 1),(.int .i64 1)]<|.mk λv7=>
 zP 0 [(.int .i64 0),(.int .i64 0)] 2 [(0,1),(1,1)] [(.int .i64 4),(.int .i64 5)] h<|.mk λv8 h=>
 zy [(.int .i64 0),(.int .i64 0),(.int .i64 0),.nils] [(0,1),(3,1)] [(.int .i64 4),v8]<|.mk λv9=>
 zP 0 [(.int .i64 0),(.int .i64 0),(.int .i64 0)] 3 [(0,1),(1,1),(2,1)] [(.int .i64 0),(.int .i64 3),(.int .i64 6)] h<|.mk λv10 h=>
 zy [(.int .i64 0),(.int .i64 0),(.int .i64 0),.nils] [(0,1),(1,1),(2,1),(3,1)] [(.int .i64 5),(.int .i64 7),(.int .i64 2),v10]<|.mk λv11=>
 zP 0 [(.int .i64 0),(.int .i64 0),(.int .i64 0),.nils,(.int .i64 0),(.int .i64 0),(.int .i64 0),.nils,(.int .i64 0),(.int .i64 0),(.int .i64 0),.nils,(.int .i64 0),(.int .i64 0),(.int .i64 0),.nils,(.int .i64 0),(.int .i64 0),(.int .i64 0),.nils,(.int .i64 0),(.int .i64 0),(.int .i64 0),.nils,(.int .i64 0),(.int .i64 0),(.int .i64 0),.nils,(.int .i64 0),(.int .i64 0),(.int .i64 0),.nils] 8 [(0,4),(4,4),(8,4),(12,4),(16,4),(20,4),(24,4),(28,4)] [v1,v2,v3,v5,v6,v7,v9,v11] h<|.mk λv12 h=>
 zy [(.int .i64 0),.nils] [(0,1),(1,1)] [(.int .i64 2),v12]<|.mk λv13=>
 zu 2 v0 v13 h<|.mk λh=>
 zM 2 v0 h<|.mk λv14=>
 k v14 h
theorem y171:zah I 171 T.s171 N call a h k=f171 N call a h k:=by kernel_rfl
def e143:Ent:=⟨143,T.s143,λ_ _=>f143,λ_=>y143⟩
def e171:Ent:=⟨171,T.s171,λ_ _=>f171,λ_=>y171⟩
structure GS11 (t:ETree):Prop where
 g143:t.get 143=some e143
 g171:t.get 171=some e171
section
variable {β:Type} {t:ETree} {I:FI} (n:Nat) (a:List AV) (h:H) (k:K β)
theorem GS11.c143(T:GS11 t):ze t I (n+1) (.fn 143 []) a h k=f143 n (ze t I n) a h k:=by rw[cRule T.g143];rfl
theorem GS11.c171(T:GS11 t):ze t I (n+1) (.fn 171 []) a h k=f171 n (ze t I n) a h k:=by rw[cRule T.g171];rfl
end
end
end Am.F
