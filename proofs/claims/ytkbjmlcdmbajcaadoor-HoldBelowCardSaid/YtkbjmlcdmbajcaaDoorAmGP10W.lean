/- What the functions come to. -/
import Derived.Test.YtkbjmlcdmbajcaaDoorAmGP10T
import Derived.Test.YtkbjmlcdmbajcaaDoorAmJc
set_option maxRecDepth 100000
set_option linter.unusedVariables false
namespace Am.F
open Go Am
noncomputable def f133_J2{β:Type}(call:zc β)(k:K β)(x0 x1 x2 x3 x4 x5 x6 x7 x8 x9 x10 x11 x12 x13 x14 x15 x16 x17 x18:AV)(h:H):Option β :=
 zn 4 x5 h<|.mk fun v3=>
 zR 0 [(.int .i64 0),(.int .i64 0),.nils,(.str [])] h<|.mk fun v4 h=>
 zo 4 v4 v3 h<|.mk fun h=>
 zi 1 v4<|.mk fun v5=>
 zo 1 v5 x3 h<|.mk fun h=>
 zn 1 x4 h<|.mk fun v6=>
 zn 4 x5 h<|.mk fun v7=>
 qCall call (.fn 152 []) [v6,v7,x2] h<|.mk fun v8 h=>
 qExt 0 v8<|.mk fun v9=>
 qExt 1 v8<|.mk fun v10=>
 zn 1 x4 h<|.mk fun v11=>
 zn 4 v4 h<|.mk fun v12=>
 qCall call (.fn 152 []) [v11,v12,x2] h<|.mk fun v13 h=>
 qExt 0 v13<|.mk fun v14=>
 qExt 1 v13<|.mk fun v15=>
 qEqB false v9 v14<|.mk fun v16=>
 qAnd v16 h (.mk fun h k=>
 qCall call (.fn 16 []) [v10] h<|.mk fun v17 h=>
 qCall call (.fn 16 []) [v15] h<|.mk fun v18 h=>
 qEql v17 v18<|.mk fun v19=>
 k v19 h)<|.mk fun v20 h=>
 k v20 h
noncomputable def f133{β:Type}(N:Nat)(call:zc β)(a:List AV)(h:H)(k:K β):Option β :=
 qBox 0 (nth a 0) h<|.mk fun v0 h=>
 qBox 0 (nth a 1) h<|.mk fun v1 h=>
 zk 19 (.mk (
 f133_J2 call k))<|.mk fun j2=>
 qCall call (.fn 150 []) [] h<|.mk fun v21 h=>
 qNot v21<|.mk fun v22=>
 qIf v22 (.mk (
 k (.bool false) h))<|.mk (
 j2 (nth a 0) (nth a 1) (nth a 2) (nth a 3) v0 v1 (.bool false) (nth a 9) (nth a 10) (nth a 11) (nth a 12) (nth a 13) (nth a 16) (nth a 19) (nth a 24) (nth a 25) (nth a 26) (nth a 31) (nth a 32) h)
theorem y133{β:Type}(I:FI)(N:Nat)(call:zc β)(a:List AV)(h:H)(k:K β):zs I 133 T.s133 N call a h k=f133 N call a h k:=by kernel_rfl
noncomputable def e133:Ent:=⟨133,T.s133,fun _ _=>f133,fun _=>y133⟩
structure GP10 (t:ETree):Prop where
 g133:t.get 133=some e133
section
variable {β:Type} {t:ETree} {I:FI}
theorem GP10.c133(T:GP10 t)(n:Nat)(a:List AV)(h:H)(k:K β):zb t I (n+1) (.fn 133 []) a h k=f133 n (zb t I n) a h k:=by rw[ze t I n 133 [] a h k T.g133,List.append_nil];rfl
end
end Am.F
