/- What the functions come to. -/
import Derived.Test.YtokaabdbaodimaaGreatDoorAmGS9T
import Derived.Test.YtokaabdbaodimaaGreatDoorAmJc
set_option maxRecDepth 100000
set_option linter.unusedVariables false
namespace Am.F
open Go Am
noncomputable section
variable {β:Type} (I:FI) (N:Nat) (call:zf β) (a:List AV) (h:H) (k:K β)
def f154{β:Type}(N:Nat)(call:zf β)(a:List AV)(h:H)(k:K β):Option β :=
 zP 0 [.nils] h<|.mk fun v0 h=>
 zo [(.int .i64 0),(.int .i64 0),(.int .i64 0),.nils] [(0,1)] [(.int .i64 7)]<|.mk fun v1=>
 zo [(.int .i64 0),(.int .i64 0),(.int .i64 0),.nils] [(1,1)] [(.int .i64 4)]<|.mk fun v2=>
 zr 0 [(.int .i64 0),(.int .i64 0)] 2 [(0,1),(1,1)] [(.int .i64 0),(.int .i64 1)] h<|.mk fun v3 h=>
 zo [(.int .i64 0),(.int .i64 0),(.int .i64 0),.nils] [(0,1),(1,1),(3,1)] [(.int .i64 3),(.int .i64 7),v3]<|.mk fun v4=>
 zo [(.int .i64 0),(.int .i64 0),(.int .i64 0),.nils] [(1,1)] [(.int .i64 5)]<|.mk fun v5=>
 zr 0 [(.int .i64 0),(.int .i64 0)] 2 [(0,1),(1,1)] [(.int .i64 2),(.int .i64 3)] h<|.mk fun v6 h=>
 zo [(.int .i64 0),(.int .i64 0),(.int .i64 0),.nils] [(0,1),(1,1),(3,1)] [(.int .i64 2),(.int .i64 1),v6]<|.mk fun v7=>
 zr 0 [(.int .i64 0),(.int .i64 0),(.int .i64 0),.nils,(.int .i64 0),(.int .i64 0),(.int .i64 0),.nils,(.int .i64 0),(.int .i64 0),(.int .i64 0),.nils,(.int .i64 0),(.int .i64 0),(.int .i64 0),.nils,(.int .i64 0),(.int .i64 0),(.int .i64 0),.nils] 5 [(0,4),(4,4),(8,4),(12,4),(16,4)] [v1,v2,v4,v5,v7] h<|.mk fun v8 h=>
 zo [(.int .i64 0),.nils] [(1,1)] [v8]<|.mk fun v9=>
 zP 0 [(.int .i64 0),.nils] h<|.mk fun v10 h=>
 zl 2 v10 v9 h<|.mk fun h=>
 zi 2 v10 h<|.mk fun v11=>
 qCall call (.fn 183 []) [] h<|.mk fun v12 h=>
 zi 2 v10 h<|.mk fun v13=>
 qChk v13 v11<|.mk (
 zr 0 [(.int .i64 0),.nils,(.int .i64 0),.nils] 2 [(0,2),(2,2)] [v11,v12] h<|.mk fun v14 h=>
 zo [.nils] [(0,1)] [v14]<|.mk fun v15=>
 zl 1 v0 v15 h<|.mk fun h=>
 zi 1 v0 h<|.mk fun v16=>
 k v16 h)
theorem y154:zy I 154 T.s154 N call a h k=f154 N call a h k:=by kernel_rfl
def f183{β:Type}(N:Nat)(call:zf β)(a:List AV)(h:H)(k:K β):Option β :=
 zP 0 [(.int .i64 0),.nils] h<|.mk fun v0 h=>
 zo [(.int .i64 0),(.int .i64 0),(.int .i64 0),.nils] [(0,1)] [(.int .i64 1)]<|.mk fun v1=>
 zo [(.int .i64 0),(.int .i64 0),(.int .i64 0),.nils] [(0,1),(1,1)] [(.int .i64 1),(.int .i64 3)]<|.mk fun v2=>
 zo [(.int .i64 0),(.int .i64 0),(.int .i64 0),.nils] [(0,1),(1,1)] [(.int .i64 1),(.int .i64 1)]<|.mk fun v3=>
 zr 0 [(.int .i64 0),(.int .i64 0)] 2 [(0,1),(1,1)] [(.int .i64 1),(.int .i64 2)] h<|.mk fun v4 h=>
 zo [(.int .i64 0),(.int .i64 0),(.int .i64 0),.nils] [(0,1),(3,1)] [(.int .i64 4),v4]<|.mk fun v5=>
 zo [(.int .i64 0),(.int .i64 0),(.int .i64 0),.nils] [(0,1)] [(.int .i64 1)]<|.mk fun v6=>
 zo [(.int .i64 0),(.int .i64 0),(.int .i64 0),.nils] [(0,1),(1,1)] [(.int .i64 1),(.int .i64 1)]<|.mk fun v7=>
 zr 0 [(.int .i64 0),(.int .i64 0)] 2 [(0,1),(1,1)] [(.int .i64 4),(.int .i64 5)] h<|.mk fun v8 h=>
 zo [(.int .i64 0),(.int .i64 0),(.int .i64 0),.nils] [(0,1),(3,1)] [(.int .i64 4),v8]<|.mk fun v9=>
 zr 0 [(.int .i64 0),(.int .i64 0),(.int .i64 0)] 3 [(0,1),(1,1),(2,1)] [(.int .i64 0),(.int .i64 3),(.int .i64 6)] h<|.mk fun v10 h=>
 zo [(.int .i64 0),(.int .i64 0),(.int .i64 0),.nils] [(0,1),(1,1),(2,1),(3,1)] [(.int .i64 5),(.int .i64 7),(.int .i64 2),v10]<|.mk fun v11=>
 zr 0 [(.int .i64 0),(.int .i64 0),(.int .i64 0),.nils,(.int .i64 0),(.int .i64 0),(.int .i64 0),.nils,(.int .i64 0),(.int .i64 0),(.int .i64 0),.nils,(.int .i64 0),(.int .i64 0),(.int .i64 0),.nils,(.int .i64 0),(.int .i64 0),(.int .i64 0),.nils,(.int .i64 0),(.int .i64 0),(.int .i64 0),.nils,(.int .i64 0),(.int .i64 0),(.int .i64 0),.nils,(.int .i64 0),(.int .i64 0),(.int .i64 0),.nils] 8 [(0,4),(4,4),(8,4),(12,4),(16,4),(20,4),(24,4),(28,4)] [v1,v2,v3,v5,v6,v7,v9,v11] h<|.mk fun v12 h=>
 zo [(.int .i64 0),.nils] [(0,1),(1,1)] [(.int .i64 2),v12]<|.mk fun v13=>
 zl 2 v0 v13 h<|.mk fun h=>
 zi 2 v0 h<|.mk fun v14=>
 k v14 h
theorem y183:zy I 183 T.s183 N call a h k=f183 N call a h k:=by kernel_rfl
def e154:Ent:=⟨154,T.s154,fun _ _=>f154,fun _=>y154⟩
def e183:Ent:=⟨183,T.s183,fun _ _=>f183,fun _=>y183⟩
section
variable {β:Type} {t:ETree} {I:FI} (n:Nat) (a:List AV) (h:H) (k:K β)
end
end
end Am.F
