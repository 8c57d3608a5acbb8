/- What the functions come to. -/
import Derived.Test.YtkbjmlcdmbajcaaDoorAmGB10T
import Derived.Test.YtkbjmlcdmbajcaaDoorAmJc
set_option maxRecDepth 100000
set_option linter.unusedVariables false
namespace Am.F
open Go Am
noncomputable def f131_J30{β:Type}(call:zc β)(k:K β)(x0 x1 x2 x3 x4 x5 x6 x7 x8 x9 x10 x11 x12 x13 x14 x15 x16 x17 x18 x19 x20 x21 x22 x23 x24 x25 x26 x27 x28 x29 x30 x31 x32 x33 x34 x35 x36 x37 x38:AV)(h:H):Option β :=
 zav .u64 x3<|.mk fun v31=>
 qLenL x15<|.mk fun v32=>
 zav .u64 v32<|.mk fun v33=>
 qBin .rem v31 v33<|.mk fun v34=>
 zav .i64 v34<|.mk fun v35=>
 zB 1 x15 v35<|.mk fun v36=>
 zo 1 v36 (.str [95]) h<|.mk fun h=>
 qCall call (.fn 14 []) [x13,x14,x15] h<|.mk fun v37 h=>
 qExt 0 v37<|.mk fun v38=>
 qExt 1 v37<|.mk fun v39=>
 zn 1 x4 h<|.mk fun v40=>
 zi 0 x5<|.mk fun v41=>
 za v41 h<|.mk fun v42=>
 zi 2 x5<|.mk fun v43=>
 za v43 h<|.mk fun v44=>
 zr [(.int .i64 0),(.int .i64 0),.nils,(.str [])] [(0,1),(2,1),(3,1)] [v42,v44,v38]<|.mk fun v45=>
 qCall call (.fn 152 []) [v40,v45,x7] h<|.mk fun v46 h=>
 qExt 0 v46<|.mk fun v47=>
 qExt 1 v46<|.mk fun v48=>
 qEql v39 (.int .i64 0)<|.mk fun v49=>
 qAnd v49 h (.mk fun h k=>
 qCall call (.fn 16 []) [v48] h<|.mk fun v50 h=>
 qEql v50 (.int .i64 0)<|.mk fun v51=>
 k v51 h)<|.mk fun v52 h=>
 qAnd v52 h (.mk fun h k=>
 k v47 h)<|.mk fun v53 h=>
 k v53 h
noncomputable def f131_J11{β:Type}(call:zc β)(k:K β)(x0 x1 x2 x3 x4 x5 x6 x7 x8 x9 x10 x11 x12 x13 x14 x15 x16 x17 x18 x19 x20 x21 x22 x23 x24 x25 x26 x27 x28 x29 x30 x31 x32 x33 x34 x35 x36 x37 x38:AV)(h:H):Option β :=
 zi 0 x5<|.mk fun v12=>
 za v12 h<|.mk fun v13=>
 zi 2 x5<|.mk fun v14=>
 za v14 h<|.mk fun v15=>
 zr [(.int .i64 0),(.int .i64 0),.nils,(.str [])] [(0,1),(2,1),(3,1)] [v13,v15,(.str [95])]<|.mk fun v16=>
 zR 0 [(.int .i64 0),(.int .i64 0),.nils,(.str [])] h<|.mk fun v17 h=>
 zo 4 v17 v16 h<|.mk fun h=>
 zn 1 x4 h<|.mk fun v18=>
 zn 4 v17 h<|.mk fun v19=>
 qCall call (.fn 152 []) [v18,v19,x7] h<|.mk fun v20 h=>
 qExt 0 v20<|.mk fun v21=>
 qExt 1 v20<|.mk fun v22=>
 zi 3 x5<|.mk fun v23=>
 za v23 h<|.mk fun v24=>
 qCall call (.fn 12 []) [v24] h<|.mk fun v25 h=>
 qExt 0 v25<|.mk fun v26=>
 qExt 1 v25<|.mk fun v27=>
 qExt 2 v25<|.mk fun v28=>
 qExt 3 v25<|.mk fun v29=>
 zk 39 (.mk (
 f131_J30 call k))<|.mk fun j30=>
 qCall call (.fn 16 []) [v22] h<|.mk fun v54 h=>
 qNeq v54 (.int .i64 0)<|.mk fun v55=>
 qOr v55 h (.mk fun h k=>
 qNot v21<|.mk fun v56=>
 k v56 h)<|.mk fun v57 h=>
 qOr v57 h (.mk fun h k=>
 qNeq v29 (.int .i64 0)<|.mk fun v58=>
 k v58 h)<|.mk fun v59 h=>
 qOr v59 h (.mk fun h k=>
 qLenL v28<|.mk fun v60=>
 qEql v60 (.int .i64 0)<|.mk fun v61=>
 k v61 h)<|.mk fun v62 h=>
 qIf v62 (.mk (
 qCall call (.fn 16 []) [v22] h<|.mk fun v63 h=>
 qEql v63 (.int .i64 0)<|.mk fun v64=>
 qAnd v64 h (.mk fun h k=>
 k v21 h)<|.mk fun v65 h=>
 qAnd v65 h (.mk fun h k=>
 qEql v29 (.int .i64 0)<|.mk fun v66=>
 k v66 h)<|.mk fun v67 h=>
 k v67 h))<|.mk (
 j30 x0 x1 x2 x3 x4 x5 x6 x7 x8 x9 v17 v21 v22 v26 v27 v28 v29 x17 x18 x19 x20 x21 x22 x23 v16 v20 v21 v22 v25 v26 v27 v28 v29 x33 x34 x35 x36 x37 x38 h)
noncomputable def f131_J2{β:Type}(call:zc β)(k:K β)(x0 x1 x2 x3 x4 x5 x6 x7 x8 x9 x10 x11 x12 x13 x14 x15 x16 x17 x18 x19 x20 x21 x22 x23 x24 x25 x26 x27 x28 x29 x30 x31 x32 x33 x34 x35 x36 x37 x38:AV)(h:H):Option β :=
 zav .u64 x2<|.mk fun v3=>
 qBin .rem v3 (.int .u64 401)<|.mk fun v4=>
 zav .i64 v4<|.mk fun v5=>
 zn 1 x4 h<|.mk fun v6=>
 zn 4 x5 h<|.mk fun v7=>
 qCall call (.fn 152 []) [v6,v7,v5] h<|.mk fun v8 h=>
 qExt 0 v8<|.mk fun v9=>
 qExt 1 v8<|.mk fun v10=>
 zk 39 (.mk (
 f131_J11 call k))<|.mk fun j11=>
 qCall call (.fn 16 []) [v10] h<|.mk fun v68 h=>
 qNeq v68 (.int .i64 0)<|.mk fun v69=>
 qOr v69 h (.mk fun h k=>
 qNot v9<|.mk fun v70=>
 k v70 h)<|.mk fun v71 h=>
 qIf v71 (.mk (
 qNot v9<|.mk fun v72=>
 k v72 h))<|.mk (
 j11 x0 x1 x2 x3 x4 x5 x6 v5 v9 v10 x10 x11 x12 x13 x14 x15 x16 x17 x18 x19 x20 v8 v9 v10 x24 x25 x26 x27 x28 x29 x30 x31 x32 x33 x34 x35 x36 x37 x38 h)
noncomputable def f131{β:Type}(N:Nat)(call:zc β)(a:List AV)(h:H)(k:K β):Option β :=
 qBox 0 (nth a 0) h<|.mk fun v0 h=>
 qBox 0 (nth a 1) h<|.mk fun v1 h=>
 zk 39 (.mk (
 f131_J2 call k))<|.mk fun j2=>
 qCall call (.fn 150 []) [] h<|.mk fun v73 h=>
 qNot v73<|.mk fun v74=>
 qIf v74 (.mk (
 k (.bool false) h))<|.mk (
 j2 (nth a 0) (nth a 1) (nth a 2) (nth a 3) v0 v1 (.bool false) (nth a 9) (nth a 10) (nth a 11) (nth a 12) (nth a 13) (nth a 14) (nth a 15) (nth a 16) (nth a 17) (nth a 18) (nth a 19) (nth a 20) (nth a 21) (nth a 22) (nth a 29) (nth a 34) (nth a 35) (nth a 49) (nth a 50) (nth a 55) (nth a 56) (nth a 57) (nth a 61) (nth a 62) (nth a 63) (nth a 64) (nth a 100) (nth a 105) (nth a 106) (nth a 107) (nth a 117) (nth a 118) h)
theorem y131{β:Type}(I:FI)(N:Nat)(call:zc β)(a:List AV)(h:H)(k:K β):zs I 131 T.s131 N call a h k=f131 N call a h k:=by kernel_rfl
noncomputable def e131:Ent:=⟨131,T.s131,fun _ _=>f131,fun _=>y131⟩
structure GB10 (t:ETree):Prop where
 g131:t.get 131=some e131
section
variable {β:Type} {t:ETree} {I:FI}
theorem GB10.c131(T:GB10 t)(n:Nat)(a:List AV)(h:H)(k:K β):zb t I (n+1) (.fn 131 []) a h k=f131 n (zb t I n) a h k:=by rw[ze t I n 131 [] a h k T.g131,List.append_nil];rfl
end
end Am.F
