/- What the functions come to. -/
import Derived.Test.YtmogbhfcdcpdeaaDoorAmGB8T
import Derived.Test.YtmogbhfcdcpdeaaDoorAmJc
set_option maxRecDepth 100000
set_option linter.unusedVariables false
namespace Am.F
open Go Am
noncomputable section
variable {β:Type} (I:FI) (N:Nat) (call:zd β) (a:List AV) (h:H) (k:K β)
def f253{β:Type}(N:Nat)(call:zd β)(a:List AV)(h:H)(k:K β):Option β :=
 zcM 0 [.nils] h<|.mk λv0 h=>
 zx [(.int .i64 0),(.int .i64 0),(.int .i64 0),.nils] [(0,1)] [(.int .i64 7)]<|.mk λv1=>
 zx [(.int .i64 0),(.int .i64 0),(.int .i64 0),.nils] [(1,1)] [(.int .i64 4)]<|.mk λv2=>
 zDq9 0 [(.int .i64 0),(.int .i64 0)] 2 [(0,1),(1,1)] [(.int .i64 0),(.int .i64 1)] h<|.mk λv3 h=>
 zx [(.int .i64 0),(.int .i64 0),(.int .i64 0),.nils] [(0,1),(1,1),(3,1)] [(.int .i64 3),(.int .i64 7),v3]<|.mk λv4=>
 zx [(.int .i64 0),(.int .i64 0),(.int .i64 0),.nils] [(1,1)] [(.int .i64 5)]<|.mk λv5=>
 zDq9 0 [(.int .i64 0),(.int .i64 0)] 2 [(0,1),(1,1)] [(.int .i64 2),(.int .i64 3)] h<|.mk λv6 h=>
 zx [(.int .i64 0),(.int .i64 0),(.int .i64 0),.nils] [(0,1),(1,1),(3,1)] [(.int .i64 2),(.int .i64 1),v6]<|.mk λv7=>
 zDq9 0 [(.int .i64 0),(.int .i64 0),(.int .i64 0),.nils,(.int .i64 0),(.int .i64 0),(.int .i64 0),.nils,(.int .i64 0),(.int .i64 0),(.int .i64 0),.nils,(.int .i64 0),(.int .i64 0),(.int .i64 0),.nils,(.int .i64 0),(.int .i64 0),(.int .i64 0),.nils] 5 [(0,4),(4,4),(8,4),(12,4),(16,4)] [v1,v2,v4,v5,v7] h<|.mk λv8 h=>
 zx [(.int .i64 0),.nils] [(1,1)] [v8]<|.mk λv9=>
 zcM 0 [(.int .i64 0),.nils] h<|.mk λv10 h=>
 za3 2 v10 v9 h<|.mk λh=>
 zaB 2 v10 h<|.mk λv11=>
 qCall call (.fn 267 []) [] h<|.mk λv12 h=>
 zaB 2 v10 h<|.mk λv13=>
 qChk v13 v11<|.mk (
 zDq9 0 [(.int .i64 0),.nils,(.int .i64 0),.nils] 2 [(0,2),(2,2)] [v11,v12] h<|.mk λv14 h=>
 zx [.nils] [(0,1)] [v14]<|.mk λv15=>
 za3 1 v0 v15 h<|.mk λh=>
 zaB 1 v0 h<|.mk λv16=>
 k v16 h)
theorem y253:zai I 253 T.s253 N call a h k=f253 N call a h k:=by kernel_rfl
def f255{β:Type}(N:Nat)(call:zd β)(a:List AV)(h:H)(k:K β):Option β :=
 k (.str [40,100,101,102,32,48,32,40,102,49,32,40,64,55,32,101,114,114,111,114,32,52,41,32,53,41,41,10,40,100,101,102,32,50,32,40,99,97,115,101,32,36,48,32,64,55,32,50,32,40,43,32,36,51,32,36,49,41,32,40,43,32,36,48,32,36,49,41,41,41,10]) h
theorem y255:zai I 255 T.s255 N call a h k=f255 N call a h k:=by kernel_rfl
def f267{β:Type}(N:Nat)(call:zd β)(a:List AV)(h:H)(k:K β):Option β :=
 zcM 0 [(.int .i64 0),.nils] h<|.mk λv0 h=>
 zx [(.int .i64 0),(.int .i64 0),(.int .i64 0),.nils] [(0,1)] [(.int .i64 1)]<|.mk λv1=>
 zx [(.int .i64 0),(.int .i64 0),(.int .i64 0),.nils] [(0,1),(1,1)] [(.int .i64 1),(.int .i64 3)]<|.mk λv2=>
 zx [(.int .i64 0),(.int .i64 0),(.int .i64 0),.nils] [(0,1),(1,1)] [(.int .i64 1),(.int .i64 1)]<|.mk λv3=>
 zDq9 0 [(.int .i64 0),(.int .i64 0)] 2 [(0,1),(1,1)] [(.int .i64 1),(.int .i64 2)] h<|.mk λv4 h=>
 zx [(.int .i64 0),(.int .i64 0),(.int .i64 0),.nils] [(0,1),(3,1)] [(.int .i64 4),v4]<|.mk λv5=>
 zx [(.int .i64 0),(.int .i64 0),(.int .i64 0),.nils] [(0,1)] [(.int .i64 1)]<|.mk λv6=>
 zx [(.int .i64 0),(.int .i64 0),(.int .i64 0),.nils] [(0,1),(1,1)] [(.int .i64 1),(.int .i64 1)]<|.mk λv7=>
 zDq9 0 [(.int .i64 0),(.int .i64 0)] 2 [(0,1),(1,1)] [(.int .i64 4),(.int .i64 5)] h<|.mk λv8 h=>
 zx [(.int .i64 0),(.int .i64 0),(.int .i64 0),.nils] [(0,1),(3,1)] [(.int .i64 4),v8]<|.mk λv9=>
 zDq9 0 [(.int .i64 0),(.int .i64 0),(.int .i64 0)] 3 [(0,1),(1,1),(2,1)] [(.int .i64 0),(.int .i64 3),(.int .i64 6)] h<|.mk λv10 h=>
 zx [(.int .i64 0),(.int .i64 0),(.int .i64 0),.nils] [(0,1),(1,1),(2,1),(3,1)] [(.int .i64 5),(.int .i64 7),(.int .i64 2),v10]<|.mk λv11=>
 zDq9 0 [(.int .i64 0),(.int .i64 0),(.int .i64 0),.nils,(.int .i64 0),(.int .i64 0),(.int .i64 0),.nils,(.int .i64 0),(.int .i64 0),(.int .i64 0),.nils,(.int .i64 0),(.int .i64 0),(.int .i64 0),.nils,(.int .i64 0),(.int .i64 0),(.int .i64 0),.nils,(.int .i64 0),(.int .i64 0),(.int .i64 0),.nils,(.int .i64 0),(.int .i64 0),(.int .i64 0),.nils,(.int .i64 0),(.int .i64 0),(.int .i64 0),.nils] 8 [(0,4),(4,4),(8,4),(12,4),(16,4),(20,4),(24,4),(28,4)] [v1,v2,v3,v5,v6,v7,v9,v11] h<|.mk λv12 h=>
 zx [(.int .i64 0),.nils] [(0,1),(1,1)] [(.int .i64 2),v12]<|.mk λv13=>
 za3 2 v0 v13 h<|.mk λh=>
 zaB 2 v0 h<|.mk λv14=>
 k v14 h
theorem y267:zai I 267 T.s267 N call a h k=f267 N call a h k:=by kernel_rfl
def e253:Ent:=⟨253,T.s253,λ_ _=>f253,λ_=>y253⟩
def e255:Ent:=⟨255,T.s255,λ_ _=>f255,λ_=>y255⟩
def e267:Ent:=⟨267,T.s267,λ_ _=>f267,λ_=>y267⟩
structure GB8 (t:ETree):Prop where
 g253:t.get 253=some e253
 g255:t.get 255=some e255
 g267:t.get 267=some e267
section
variable {β:Type} {t:ETree} {I:FI} (n:Nat) (a:List AV) (h:H) (k:K β)
theorem GB8.c253(T:GB8 t):zc t I (n+1) (.fn 253 []) a h k=f253 n (zc t I n) a h k:=by rw[cRule T.g253];rfl
theorem GB8.c255(T:GB8 t):zc t I (n+1) (.fn 255 []) a h k=f255 n (zc t I n) a h k:=by rw[cRule T.g255];rfl
theorem GB8.c267(T:GB8 t):zc t I (n+1) (.fn 267 []) a h k=f267 n (zc t I n) a h k:=by rw[cRule T.g267];rfl
theorem GB8.q255(T:GB8 t):qCall (zc t I (n+1)) (.fn 255 []) a h (.mk k)=f255 n (zc t I n) a h k:=GB8.c255 n a h k T
end
end
end Am.F
