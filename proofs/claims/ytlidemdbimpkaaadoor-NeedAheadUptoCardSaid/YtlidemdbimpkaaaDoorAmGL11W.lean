/- What the functions come to. -/
import Derived.Test.YtlidemdbimpkaaaDoorAmGL11T
import Derived.Test.YtlidemdbimpkaaaDoorAmJc
import Derived.Test.YtlidemdbimpkaaaDoorAmJi
set_option maxRecDepth 100000
set_option linter.unusedVariables false
namespace Am.F
open Go Am
noncomputable section
variable {β:Type} (I:FI) (N:Nat) (call:zi β) (a:List AV) (h:H) (k:K β)
def f129_J21{β:Type}(call:zi β)(k:K β)(x0 x1 x2 x3 x4 x5 x6 x7 x8 x9 x10 x11 x12 x13 x14 x15:AV)(h:H):Option β :=
 zM 1 x6 h<|.mk λv22=>
 qCall call (.fn 136 []) [v22,x1] h<|.mk λv23 h=>
 qExt 0 v23<|.mk λv24=>
 qExt 1 v23<|.mk λv25=>
 qCall call (.fn 16 []) [x5] h<|.mk λv26 h=>
 qEql v26 (.int .i64 1100)<|.mk λv27=>
 qOr v27 h (.mk λh k=>
 qCall call (.fn 16 []) [x5] h<|.mk λv28 h=>
 qCall call (.fn 16 []) [v25] h<|.mk λv29 h=>
 qEql v28 v29<|.mk λv30=>
 qAnd v30 h (.mk λh k=>
 qCall call (.fn 138 []) [x4,v24] h<|.mk λv31 h=>
 k v31 h)<|.mk λv32 h=>
 k v32 h)<|.mk λv33 h=>
 qAnd v33 h (.mk λh k=>
 qCall call (.fn 143 []) [] h<|.mk λv34 h=>
 qFld1 0 v34<|.mk λv35=>
 qLenL v35<|.mk λv36=>
 qEql v36 (.int .i64 2)<|.mk λv37=>
 k v37 h)<|.mk λv38 h=>
 k v38 h
def f129_J1{β:Type}(call:zi β)(k:K β)(x0 x1 x2 x3 x4 x5 x6 x7 x8 x9 x10 x11 x12 x13 x14 x15:AV)(h:H):Option β :=
 zM 1 x2 h<|.mk λv2=>
 qCall call (.fn 136 []) [v2,x1] h<|.mk λv3 h=>
 qExt 0 v3<|.mk λv4=>
 qExt 1 v3<|.mk λv5=>
 zM 1 x2 h<|.mk λv6=>
 zaJ 0 [.nils] h<|.mk λv7 h=>
 zu 1 v7 v6 h<|.mk λh=>
 zP 0 [] 0 [] [] h<|.mk λv8 h=>
 zd 0 x2<|.mk λv9=>
 za v9 h<|.mk λv10=>
 qApp 0 2 32 v8 v10 h<|.mk λv11 h=>
 zd 0 v7<|.mk λv12=>
 zu 1 v12 v11 h<|.mk λh=>
 zd 0 v7<|.mk λv13=>
 za v13 h<|.mk λv14=>
 zy [(.int .i64 0),(.int .i64 0),(.int .i64 0),.nils] [(0,1)] [(.int .i64 1)]<|.mk λv15=>
 zP 0 [(.int .i64 0),(.int .i64 0),(.int .i64 0),.nils] 1 [(0,4)] [v15] h<|.mk λv16 h=>
 zy [(.int .i64 0),.nils] [(0,1),(1,1)] [(.int .i64 1),v16]<|.mk λv17=>
 zP 0 [(.int .i64 0),.nils] 1 [(0,2)] [v17] h<|.mk λv18 h=>
 qApp 0 2 32 v14 v18 h<|.mk λv19 h=>
 zd 0 v7<|.mk λv20=>
 zu 1 v20 v19 h<|.mk λh=>
 zx 16 (.mk (
 f129_J21 call k))<|.mk λj21=>
 zM 1 v7 h<|.mk λv39=>
 qCall call (.fn 149 []) [v39] h<|.mk λv40 h=>
 qNot v40<|.mk λv41=>
 qIf v41 (.mk (
 qCall call (.fn 16 []) [v5] h<|.mk λv42 h=>
 qEql v42 (.int .i64 1100)<|.mk λv43=>
 qOr v43 h (.mk λh k=>
 zd 0 x2<|.mk λv44=>
 za v44 h<|.mk λv45=>
 qLenL v45<|.mk λv46=>
 qEql v46 (.int .i64 8)<|.mk λv47=>
 k v47 h)<|.mk λv48 h=>
 k v48 h))<|.mk (
 j21 x0 x1 x2 x3 v4 v5 v7 x7 x8 v3 v4 v5 v6 x13 x14 x15 h)
def f129{β:Type}(N:Nat)(call:zi β)(a:List AV)(h:H)(k:K β):Option β :=
 qBox 0 (nth a 0) h<|.mk λv0 h=>
 zx 16 (.mk (
 f129_J1 call k))<|.mk λj1=>
 qCall call (.fn 141 []) [] h<|.mk λv49 h=>
 qNot v49<|.mk λv50=>
 qIf v50 (.mk (
 k (.bool false) h))<|.mk (
 j1 (nth a 0) (nth a 1) v0 (.bool false) (nth a 5) (nth a 6) (nth a 7) (nth a 8) (nth a 9) (nth a 12) (nth a 16) (nth a 17) (nth a 18) (nth a 44) (nth a 48) (nth a 49) h)
theorem y129:zah I 129 T.s129 N call a h k=f129 N call a h k:=by kernel_rfl
def e129:Ent:=⟨129,T.s129,λ_ _=>f129,λ_=>y129⟩
structure GL11 (t:ETree):Prop where
 g129:t.get 129=some e129
section
variable {β:Type} {t:ETree} {I:FI} (n:Nat) (a:List AV) (h:H) (k:K β)
theorem GL11.c129(T:GL11 t):ze t I (n+1) (.fn 129 []) a h k=f129 n (ze t I n) a h k:=by rw[cRule T.g129];rfl
end
end
end Am.F
