/- What the functions come to. -/
import Derived.Test.YtkbjmlcdmbajcaaDoorAmGS10T
import Derived.Test.YtkbjmlcdmbajcaaDoorAmJc
set_option maxRecDepth 100000
set_option linter.unusedVariables false
namespace Am.F
open Go Am
noncomputable def f151{β:Type}(N:Nat)(call:zc β)(a:List AV)(h:H)(k:K β):Option β :=
 zR 0 [.nils] h<|.mk fun v0 h=>
 zr [(.int .i64 0),(.int .i64 0),(.int .i64 0),.nils] [(0,1)] [(.int .i64 7)]<|.mk fun v1=>
 zr [(.int .i64 0),(.int .i64 0),(.int .i64 0),.nils] [(1,1)] [(.int .i64 4)]<|.mk fun v2=>
 zE 0 [(.int .i64 0),(.int .i64 0)] 2 [(0,1),(1,1)] [(.int .i64 0),(.int .i64 1)] h<|.mk fun v3 h=>
 zr [(.int .i64 0),(.int .i64 0),(.int .i64 0),.nils] [(0,1),(1,1),(3,1)] [(.int .i64 3),(.int .i64 7),v3]<|.mk fun v4=>
 zr [(.int .i64 0),(.int .i64 0),(.int .i64 0),.nils] [(1,1)] [(.int .i64 5)]<|.mk fun v5=>
 zE 0 [(.int .i64 0),(.int .i64 0)] 2 [(0,1),(1,1)] [(.int .i64 2),(.int .i64 3)] h<|.mk fun v6 h=>
 zr [(.int .i64 0),(.int .i64 0),(.int .i64 0),.nils] [(0,1),(1,1),(3,1)] [(.int .i64 2),(.int .i64 1),v6]<|.mk fun v7=>
 zE 0 [(.int .i64 0),(.int .i64 0),(.int .i64 0),.nils,(.int .i64 0),(.int .i64 0),(.int .i64 0),.nils,(.int .i64 0),(.int .i64 0),(.int .i64 0),.nils,(.int .i64 0),(.int .i64 0),(.int .i64 0),.nils,(.int .i64 0),(.int .i64 0),(.int .i64 0),.nils] 5 [(0,4),(4,4),(8,4),(12,4),(16,4)] [v1,v2,v4,v5,v7] h<|.mk fun v8 h=>
 zr [(.int .i64 0),.nils] [(1,1)] [v8]<|.mk fun v9=>
 zR 0 [(.int .i64 0),.nils] h<|.mk fun v10 h=>
 zo 2 v10 v9 h<|.mk fun h=>
 zn 2 v10 h<|.mk fun v11=>
 qCall call (.fn 180 []) [] h<|.mk fun v12 h=>
 zn 2 v10 h<|.mk fun v13=>
 qChk v13 v11<|.mk (
 zE 0 [(.int .i64 0),.nils,(.int .i64 0),.nils] 2 [(0,2),(2,2)] [v11,v12] h<|.mk fun v14 h=>
 zr [.nils] [(0,1)] [v14]<|.mk fun v15=>
 zo 1 v0 v15 h<|.mk fun h=>
 zn 1 v0 h<|.mk fun v16=>
 k v16 h)
theorem y151{β:Type}(I:FI)(N:Nat)(call:zc β)(a:List AV)(h:H)(k:K β):zs I 151 T.s151 N call a h k=f151 N call a h k:=by kernel_rfl
noncomputable def f152_J12{β:Type}(call:zc β)(k:K β)(x0 x1 x2 x3 x4 x5 x6 x7 x8 x9 x10 x11 x12 x13 x14 x15 x16:AV)(h:H):Option β :=
 zi 3 x4<|.mk fun v13=>
 za v13 h<|.mk fun v14=>
 zn 4 x8 h<|.mk fun v15=>
 qCall call (.fn 182 []) [x7,v14,v15] h<|.mk fun v16 h=>
 qExt 0 v16<|.mk fun v17=>
 qExt 1 v16<|.mk fun v18=>
 k (.tup [v17,v18]) h
noncomputable def f152{β:Type}(N:Nat)(call:zc β)(a:List AV)(h:H)(k:K β):Option β :=
 qBox 0 (nth a 0) h<|.mk fun v0 h=>
 qBox 0 (nth a 1) h<|.mk fun v1 h=>
 zn 1 v0 h<|.mk fun v2=>
 zi 0 v1<|.mk fun v3=>
 za v3 h<|.mk fun v4=>
 zi 2 v1<|.mk fun v5=>
 za v5 h<|.mk fun v6=>
 qCall call (.fn 181 []) [v2,v4,v6,(nth a 2)] h<|.mk fun v7 h=>
 qExt 0 v7<|.mk fun v8=>
 qExt 1 v7<|.mk fun v9=>
 qExt 2 v7<|.mk fun v10=>
 zR 0 [(.str []),.nils,(.int .i64 0),.nils] h<|.mk fun v11 h=>
 zo 4 v11 v9 h<|.mk fun h=>
 zk 17 (.mk (
 f152_J12 call k))<|.mk fun j12=>
 qNot v10<|.mk fun v19=>
 qOr v19 h (.mk fun h k=>
 zi 3 v1<|.mk fun v20=>
 za v20 h<|.mk fun v21=>
 qCall call (.fn 17 []) [v21] h<|.mk fun v22 h=>
 qNot v22<|.mk fun v23=>
 k v23 h)<|.mk fun v24 h=>
 qIf v24 (.mk (
 k (.tup [(.bool false),(.int .i64 1000)]) h))<|.mk (
 j12 (nth a 0) (nth a 1) (nth a 2) v0 v1 (.bool false) (.int .i64 0) v8 v11 v10 v7 v8 v9 v10 (nth a 34) (nth a 35) (nth a 36) h)
theorem y152{β:Type}(I:FI)(N:Nat)(call:zc β)(a:List AV)(h:H)(k:K β):zs I 152 T.s152 N call a h k=f152 N call a h k:=by kernel_rfl
noncomputable def f180{β:Type}(N:Nat)(call:zc β)(a:List AV)(h:H)(k:K β):Option β :=
 zR 0 [(.int .i64 0),.nils] h<|.mk fun v0 h=>
 zr [(.int .i64 0),(.int .i64 0),(.int .i64 0),.nils] [(0,1)] [(.int .i64 1)]<|.mk fun v1=>
 zr [(.int .i64 0),(.int .i64 0),(.int .i64 0),.nils] [(0,1),(1,1)] [(.int .i64 1),(.int .i64 3)]<|.mk fun v2=>
 zr [(.int .i64 0),(.int .i64 0),(.int .i64 0),.nils] [(0,1),(1,1)] [(.int .i64 1),(.int .i64 1)]<|.mk fun v3=>
 zE 0 [(.int .i64 0),(.int .i64 0)] 2 [(0,1),(1,1)] [(.int .i64 1),(.int .i64 2)] h<|.mk fun v4 h=>
 zr [(.int .i64 0),(.int .i64 0),(.int .i64 0),.nils] [(0,1),(3,1)] [(.int .i64 4),v4]<|.mk fun v5=>
 zr [(.int .i64 0),(.int .i64 0),(.int .i64 0),.nils] [(0,1)] [(.int .i64 1)]<|.mk fun v6=>
 zr [(.int .i64 0),(.int .i64 0),(.int .i64 0),.nils] [(0,1),(1,1)] [(.int .i64 1),(.int .i64 1)]<|.mk fun v7=>
 zE 0 [(.int .i64 0),(.int .i64 0)] 2 [(0,1),(1,1)] [(.int .i64 4),(.int .i64 5)] h<|.mk fun v8 h=>
 zr [(.int .i64 0),(.int .i64 0),(.int .i64 0),.nils] [(0,1),(3,1)] [(.int .i64 4),v8]<|.mk fun v9=>
 zE 0 [(.int .i64 0),(.int .i64 0),(.int .i64 0)] 3 [(0,1),(1,1),(2,1)] [(.int .i64 0),(.int .i64 3),(.int .i64 6)] h<|.mk fun v10 h=>
 zr [(.int .i64 0),(.int .i64 0),(.int .i64 0),.nils] [(0,1),(1,1),(2,1),(3,1)] [(.int .i64 5),(.int .i64 7),(.int .i64 2),v10]<|.mk fun v11=>
 zE 0 [(.int .i64 0),(.int .i64 0),(.int .i64 0),.nils,(.int .i64 0),(.int .i64 0),(.int .i64 0),.nils,(.int .i64 0),(.int .i64 0),(.int .i64 0),.nils,(.int .i64 0),(.int .i64 0),(.int .i64 0),.nils,(.int .i64 0),(.int .i64 0),(.int .i64 0),.nils,(.int .i64 0),(.int .i64 0),(.int .i64 0),.nils,(.int .i64 0),(.int .i64 0),(.int .i64 0),.nils,(.int .i64 0),(.int .i64 0),(.int .i64 0),.nils] 8 [(0,4),(4,4),(8,4),(12,4),(16,4),(20,4),(24,4),(28,4)] [v1,v2,v3,v5,v6,v7,v9,v11] h<|.mk fun v12 h=>
 zr [(.int .i64 0),.nils] [(0,1),(1,1)] [(.int .i64 2),v12]<|.mk fun v13=>
 zo 2 v0 v13 h<|.mk fun h=>
 zn 2 v0 h<|.mk fun v14=>
 k v14 h
theorem y180{β:Type}(I:FI)(N:Nat)(call:zc β)(a:List AV)(h:H)(k:K β):zs I 180 T.s180 N call a h k=f180 N call a h k:=by kernel_rfl
noncomputable def f182_J13{β:Type}(k:K β)(x0 x1 x2 x3 x4 x5 x6 x7 x8 x9 x10 x11 x12 x13 x14 x15 x16 x17 x18 x19 x20 x21 x22 x23 x24 x25 x26 x27 x28 x29 x30 x31 x32:AV)(h:H):Option β :=
 k (.tup [(.bool true),(.int .i64 0)]) h
noncomputable def f182_J18{β:Type}(l15:Cur β 33)(x0 x1 x2 x3 x4 x5 x6 x7 x8 x9 x10 x11 x12 x13 x14 x15 x16 x17 x18 x19 x20 x21 x22 x23 x24 x25 x26 x27 x28 x29 x30 x31 x32:AV)(h:H):Option β :=
 qAdd x25 (.int .i64 1)<|.mk fun v19=>
 l15 x0 x1 x2 x3 x4 x5 x6 x7 x8 x9 x10 x11 x12 x13 x14 x15 x16 x17 x18 x19 x20 x21 x22 x23 x24 v19 x26 x27 x28 x29 x30 x31 x32 h
noncomputable def f182_J17{β:Type}(call:zc β)(k:K β)(l15:Cur β 33)(x0 x1 x2 x3 x4 x5 x6 x7 x8 x9 x10 x11 x12 x13 x14 x15 x16 x17 x18 x19 x20 x21 x22 x23 x24 x25 x26 x27 x28 x29 x30 x31 x32:AV)(h:H):Option β :=
 zk 33 (.mk (
 f182_J18 l15))<|.mk fun j18=>
 zB 1 x23 x25<|.mk fun v20=>
 za v20 h<|.mk fun v21=>
 zi 2 x9<|.mk fun v22=>
 za v22 h<|.mk fun v23=>
 zB 4 v23 x25<|.mk fun v24=>
 zn 4 v24 h<|.mk fun v25=>
 qCall call (.fn 182 []) [x0,v21,v25] h<|.mk fun v26 h=>
 qExt 0 v26<|.mk fun v27=>
 qExt 1 v26<|.mk fun v28=>
 qNot v27<|.mk fun v29=>
 qIf v29 (.mk (
 k (.tup [(.bool false),v28]) h))<|.mk (
 j18 x0 x1 x2 x3 x4 x5 x6 x7 x8 x9 x10 x25 v21 v27 v28 x15 x16 x17 x18 x19 x20 x21 x22 x23 x24 x25 x26 x25 v21 v26 v27 v28 x32 h)
noncomputable def f182_L15{β:Type}(call:zc β)(k:K β)(j13:Cur β 33)(l15:Cur β 33)(x0 x1 x2 x3 x4 x5 x6 x7 x8 x9 x10 x11 x12 x13 x14 x15 x16 x17 x18 x19 x20 x21 x22 x23 x24 x25 x26 x27 x28 x29 x30 x31 x32:AV)(h:H):Option β :=
 qLss x25 x24<|.mk fun v16=>
 zk 33 (.mk (
 f182_J17 call k l15))<|.mk fun j17=>
 qIf v16 (.mk (
 j17 x0 .any .any .any .any .any .any .any .any x9 .any .any .any .any .any .any .any .any .any .any .any .any .any x23 x24 x25 v16 .any .any .any .any .any .any h))<|.mk (
 j13 x0 .any .any .any .any .any .any .any .any x9 .any .any .any .any .any .any .any .any .any .any .any .any .any x23 x24 x25 v16 .any .any .any .any .any .any h)
noncomputable def f182_J12{β:Type}(N:Nat)(call:zc β)(k:K β)(x0 x1 x2 x3 x4 x5 x6 x7 x8 x9 x10 x11 x12 x13 x14 x15 x16 x17 x18 x19 x20 x21 x22 x23 x24 x25 x26 x27 x28 x29 x30 x31 x32:AV)(h:H):Option β :=
 zk 33 (.mk (
 f182_J13 k))<|.mk fun j13=>
 qLenL x8<|.mk fun v14=>
 (zag 33 N<|.mk (
 f182_L15 call k j13)) x0 x1 x2 x3 x4 x5 x6 x7 x8 x9 x10 x11 x12 x13 x14 x15 x16 x17 x18 x19 x20 x21 x22 x8 v14 (.int .i64 0) x26 x27 x28 x29 x30 x31 x32 h
noncomputable def f182_J6{β:Type}(N:Nat)(call:zc β)(k:K β)(x0 x1 x2 x3 x4 x5 x6 x7 x8 x9 x10 x11 x12 x13 x14 x15 x16 x17 x18 x19 x20 x21 x22 x23 x24 x25 x26 x27 x28 x29 x30 x31 x32:AV)(h:H):Option β :=
 zn 4 x3 h<|.mk fun v7=>
 qCall call (.fn 184 []) [x0,v7] h<|.mk fun v8 h=>
 qExt 0 v8<|.mk fun v9=>
 qExt 1 v8<|.mk fun v10=>
 zR 0 [(.int .i64 0),(.int .i64 0),.nils] h<|.mk fun v11 h=>
 zo 3 v11 v9 h<|.mk fun h=>
 zk 33 (.mk (
 f182_J12 N call k))<|.mk fun j12=>
 qEql v10 (.int .i64 901)<|.mk fun v30=>
 qIf v30 (.mk (
 k (.tup [(.bool false),(.int .i64 1001)]) h))<|.mk (
 qNeq v10 (.int .i64 0)<|.mk fun v31=>
 qOr v31 h (.mk fun h k=>
 zi 0 v11<|.mk fun v32=>
 za v32 h<|.mk fun v33=>
 qNeq v33 x6<|.mk fun v34=>
 k v34 h)<|.mk fun v35 h=>
 qOr v35 h (.mk fun h k=>
 zi 1 v11<|.mk fun v36=>
 za v36 h<|.mk fun v37=>
 qNeq v37 x7<|.mk fun v38=>
 k v38 h)<|.mk fun v39 h=>
 qOr v39 h (.mk fun h k=>
 zi 2 v11<|.mk fun v40=>
 za v40 h<|.mk fun v41=>
 qLenL v41<|.mk fun v42=>
 qLenL x8<|.mk fun v43=>
 qNeq v42 v43<|.mk fun v44=>
 k v44 h)<|.mk fun v45 h=>
 qIf v45 (.mk (
 k (.tup [(.bool false),(.int .i64 0)]) h))<|.mk (
 j12 x0 x1 x2 x3 x4 x5 x6 x7 x8 v11 v10 x11 x12 x13 x14 x15 x16 x17 x18 x19 v8 v9 v10 x23 x24 x25 x26 x27 x28 x29 x30 x31 x32 h))
noncomputable def f182{β:Type}(N:Nat)(call:zc β)(a:List AV)(h:H)(k:K β):Option β :=
 qBox 0 (nth a 2) h<|.mk fun v0 h=>
 qCall call (.fn 11 []) [(nth a 1)] h<|.mk fun v1 h=>
 qExt 0 v1<|.mk fun v2=>
 qExt 1 v1<|.mk fun v3=>
 qExt 2 v1<|.mk fun v4=>
 qExt 3 v1<|.mk fun v5=>
 zk 33 (.mk (
 f182_J6 N call k))<|.mk fun j6=>
 qEql v2 (.int .i64 0)<|.mk fun v46=>
 qIf v46 (.mk (
 k (.tup [(.bool true),(.int .i64 0)]) h))<|.mk (
 j6 (nth a 0) (nth a 1) (nth a 2) v0 (.bool false) (.int .i64 0) v2 v3 v4 (nth a 12) (nth a 13) (nth a 14) (nth a 15) (nth a 16) (nth a 17) v1 v2 v3 v4 v5 (nth a 27) (nth a 31) (nth a 32) (nth a 59) (nth a 60) (nth a 61) (nth a 62) (nth a 63) (nth a 65) (nth a 66) (nth a 75) (nth a 76) (nth a 79) h)
theorem y182{β:Type}(I:FI)(N:Nat)(call:zc β)(a:List AV)(h:H)(k:K β):zs I 182 T.s182 N call a h k=f182 N call a h k:=by kernel_rfl
noncomputable def e151:Ent:=⟨151,T.s151,fun _ _=>f151,fun _=>y151⟩
noncomputable def e152:Ent:=⟨152,T.s152,fun _ _=>f152,fun _=>y152⟩
noncomputable def e180:Ent:=⟨180,T.s180,fun _ _=>f180,fun _=>y180⟩
noncomputable def e182:Ent:=⟨182,T.s182,fun _ _=>f182,fun _=>y182⟩
structure GS10 (t:ETree):Prop where
 g151:t.get 151=some e151
 g152:t.get 152=some e152
 g180:t.get 180=some e180
 g182:t.get 182=some e182
section
variable {β:Type} {t:ETree} {I:FI}
theorem GS10.c152(T:GS10 t)(n:Nat)(a:List AV)(h:H)(k:K β):zb t I (n+1) (.fn 152 []) a h k=f152 n (zb t I n) a h k:=by rw[ze t I n 152 [] a h k T.g152,List.append_nil];rfl
theorem GS10.c182(T:GS10 t)(n:Nat)(a:List AV)(h:H)(k:K β):zb t I (n+1) (.fn 182 []) a h k=f182 n (zb t I n) a h k:=by rw[ze t I n 182 [] a h k T.g182,List.append_nil];rfl
end
end Am.F
