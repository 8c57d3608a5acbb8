/- What the functions come to. -/
import Derived.Test.YtddiafpckjhadaaGreatDoorAmGS10T
import Derived.Test.YtddiafpckjhadaaGreatDoorAmJc
set_option maxRecDepth 100000
set_option linter.unusedVariables false
namespace Am.F
open Go Am
noncomputable section
variable {β:Type} (I:FI) (N:Nat) (call:zh β) (a:List AV) (h:H) (k:K β)
def f151{β:Type}(N:Nat)(call:zh β)(a:List AV)(h:H)(k:K β):Option β :=
 zK 0 [.nils] h<|.mk λv0 h=>
 zo [(.int .i64 0),(.int .i64 0),(.int .i64 0),.nils] [(0,1)] [(.int .i64 7)]<|.mk λv1=>
 zo [(.int .i64 0),(.int .i64 0),(.int .i64 0),.nils] [(1,1)] [(.int .i64 4)]<|.mk λv2=>
 zs 0 [(.int .i64 0),(.int .i64 0)] 2 [(0,1),(1,1)] [(.int .i64 0),(.int .i64 1)] h<|.mk λv3 h=>
 zo [(.int .i64 0),(.int .i64 0),(.int .i64 0),.nils] [(0,1),(1,1),(3,1)] [(.int .i64 3),(.int .i64 7),v3]<|.mk λv4=>
 zo [(.int .i64 0),(.int .i64 0),(.int .i64 0),.nils] [(1,1)] [(.int .i64 5)]<|.mk λv5=>
 zs 0 [(.int .i64 0),(.int .i64 0)] 2 [(0,1),(1,1)] [(.int .i64 2),(.int .i64 3)] h<|.mk λv6 h=>
 zo [(.int .i64 0),(.int .i64 0),(.int .i64 0),.nils] [(0,1),(1,1),(3,1)] [(.int .i64 2),(.int .i64 1),v6]<|.mk λv7=>
 zs 0 [(.int .i64 0),(.int .i64 0),(.int .i64 0),.nils,(.int .i64 0),(.int .i64 0),(.int .i64 0),.nils,(.int .i64 0),(.int .i64 0),(.int .i64 0),.nils,(.int .i64 0),(.int .i64 0),(.int .i64 0),.nils,(.int .i64 0),(.int .i64 0),(.int .i64 0),.nils] 5 [(0,4),(4,4),(8,4),(12,4),(16,4)] [v1,v2,v4,v5,v7] h<|.mk λv8 h=>
 zo [(.int .i64 0),.nils] [(1,1)] [v8]<|.mk λv9=>
 zK 0 [(.int .i64 0),.nils] h<|.mk λv10 h=>
 zj 2 v10 v9 h<|.mk λh=>
 zi 2 v10 h<|.mk λv11=>
 qCall call (.fn 180 []) [] h<|.mk λv12 h=>
 zi 2 v10 h<|.mk λv13=>
 qChk v13 v11<|.mk (
 zs 0 [(.int .i64 0),.nils,(.int .i64 0),.nils] 2 [(0,2),(2,2)] [v11,v12] h<|.mk λv14 h=>
 zo [.nils] [(0,1)] [v14]<|.mk λv15=>
 zj 1 v0 v15 h<|.mk λh=>
 zi 1 v0 h<|.mk λv16=>
 k v16 h)
theorem y151:zF I 151 T.s151 N call a h k=f151 N call a h k:=by kernel_rfl
def f152_J12{β:Type}(call:zh β)(k:K β)(x0 x1 x2 x3 x4 x5 x6 x7 x8 x9 x10 x11 x12 x13 x14 x15 x16:AV)(h:H):Option β :=
 zg 3 x4<|.mk λv13=>
 za v13 h<|.mk λv14=>
 zi 4 x8 h<|.mk λv15=>
 qCall call (.fn 182 []) [x7,v14,v15] h<|.mk λv16 h=>
 qExt 0 v16<|.mk λv17=>
 qExt 1 v16<|.mk λv18=>
 k (.tup [v17,v18]) h
def f152{β:Type}(N:Nat)(call:zh β)(a:List AV)(h:H)(k:K β):Option β :=
 qBox 0 (nth a 0) h<|.mk λv0 h=>
 qBox 0 (nth a 1) h<|.mk λv1 h=>
 zi 1 v0 h<|.mk λv2=>
 zg 0 v1<|.mk λv3=>
 za v3 h<|.mk λv4=>
 zg 2 v1<|.mk λv5=>
 za v5 h<|.mk λv6=>
 qCall call (.fn 181 []) [v2,v4,v6,(nth a 2)] h<|.mk λv7 h=>
 qExt 0 v7<|.mk λv8=>
 qExt 1 v7<|.mk λv9=>
 qExt 2 v7<|.mk λv10=>
 zK 0 [(.str []),.nils,(.int .i64 0),.nils] h<|.mk λv11 h=>
 zj 4 v11 v9 h<|.mk λh=>
 zl 17 (.mk (
 f152_J12 call k))<|.mk λj12=>
 qNot v10<|.mk λv19=>
 qOr v19 h (.mk λh k=>
 zg 3 v1<|.mk λv20=>
 za v20 h<|.mk λv21=>
 qCall call (.fn 17 []) [v21] h<|.mk λv22 h=>
 qNot v22<|.mk λv23=>
 k v23 h)<|.mk λv24 h=>
 qIf v24 (.mk (
 k (.tup [(.bool false),(.int .i64 1000)]) h))<|.mk (
 j12 (nth a 0) (nth a 1) (nth a 2) v0 v1 (.bool false) (.int .i64 0) v8 v11 v10 v7 v8 v9 v10 (nth a 34) (nth a 35) (nth a 36) h)
theorem y152:zF I 152 T.s152 N call a h k=f152 N call a h k:=by kernel_rfl
def f180{β:Type}(N:Nat)(call:zh β)(a:List AV)(h:H)(k:K β):Option β :=
 zK 0 [(.int .i64 0),.nils] h<|.mk λv0 h=>
 zo [(.int .i64 0),(.int .i64 0),(.int .i64 0),.nils] [(0,1)] [(.int .i64 1)]<|.mk λv1=>
 zo [(.int .i64 0),(.int .i64 0),(.int .i64 0),.nils] [(0,1),(1,1)] [(.int .i64 1),(.int .i64 3)]<|.mk λv2=>
 zo [(.int .i64 0),(.int .i64 0),(.int .i64 0),.nils] [(0,1),(1,1)] [(.int .i64 1),(.int .i64 1)]<|.mk λv3=>
 zs 0 [(.int .i64 0),(.int .i64 0)] 2 [(0,1),(1,1)] [(.int .i64 1),(.int .i64 2)] h<|.mk λv4 h=>
 zo [(.int .i64 0),(.int .i64 0),(.int .i64 0),.nils] [(0,1),(3,1)] [(.int .i64 4),v4]<|.mk λv5=>
 zo [(.int .i64 0),(.int .i64 0),(.int .i64 0),.nils] [(0,1)] [(.int .i64 1)]<|.mk λv6=>
 zo [(.int .i64 0),(.int .i64 0),(.int .i64 0),.nils] [(0,1),(1,1)] [(.int .i64 1),(.int .i64 1)]<|.mk λv7=>
 zs 0 [(.int .i64 0),(.int .i64 0)] 2 [(0,1),(1,1)] [(.int .i64 4),(.int .i64 5)] h<|.mk λv8 h=>
 zo [(.int .i64 0),(.int .i64 0),(.int .i64 0),.nils] [(0,1),(3,1)] [(.int .i64 4),v8]<|.mk λv9=>
 zs 0 [(.int .i64 0),(.int .i64 0),(.int .i64 0)] 3 [(0,1),(1,1),(2,1)] [(.int .i64 0),(.int .i64 3),(.int .i64 6)] h<|.mk λv10 h=>
 zo [(.int .i64 0),(.int .i64 0),(.int .i64 0),.nils] [(0,1),(1,1),(2,1),(3,1)] [(.int .i64 5),(.int .i64 7),(.int .i64 2),v10]<|.mk λv11=>
 zs 0 [(.int .i64 0),(.int .i64 0),(.int .i64 0),.nils,(.int .i64 0),(.int .i64 0),(.int .i64 0),.nils,(.int .i64 0),(.int .i64 0),(.int .i64 0),.nils,(.int .i64 0),(.int .i64 0),(.int .i64 0),.nils,(.int .i64 0),(.int .i64 0),(.int .i64 0),.nils,(.int .i64 0),(.int .i64 0),(.int .i64 0),.nils,(.int .i64 0),(.int .i64 0),(.int .i64 0),.nils,(.int .i64 0),(.int .i64 0),(.int .i64 0),.nils] 8 [(0,4),(4,4),(8,4),(12,4),(16,4),(20,4),(24,4),(28,4)] [v1,v2,v3,v5,v6,v7,v9,v11] h<|.mk λv12 h=>
 zo [(.int .i64 0),.nils] [(0,1),(1,1)] [(.int .i64 2),v12]<|.mk λv13=>
 zj 2 v0 v13 h<|.mk λh=>
 zi 2 v0 h<|.mk λv14=>
 k v14 h
theorem y180:zF I 180 T.s180 N call a h k=f180 N call a h k:=by kernel_rfl
def f182_J13{β:Type}(k:K β)(x0 x1 x2 x3 x4 x5 x6 x7 x8 x9 x10 x11 x12 x13 x14 x15 x16 x17 x18 x19 x20 x21 x22 x23 x24 x25 x26 x27 x28 x29 x30 x31 x32:AV)(h:H):Option β :=
 k (.tup [(.bool true),(.int .i64 0)]) h
def f182_J18{β:Type}(l15:Cur β 33)(x0 x1 x2 x3 x4 x5 x6 x7 x8 x9 x10 x11 x12 x13 x14 x15 x16 x17 x18 x19 x20 x21 x22 x23 x24 x25 x26 x27 x28 x29 x30 x31 x32:AV)(h:H):Option β :=
 qAdd x25 (.int .i64 1)<|.mk λv19=>
 l15 x0 x1 x2 x3 x4 x5 x6 x7 x8 x9 x10 x11 x12 x13 x14 x15 x16 x17 x18 x19 x20 x21 x22 x23 x24 v19 x26 x27 x28 x29 x30 x31 x32 h
def f182_J17{β:Type}(call:zh β)(k:K β)(l15:Cur β 33)(x0 x1 x2 x3 x4 x5 x6 x7 x8 x9 x10 x11 x12 x13 x14 x15 x16 x17 x18 x19 x20 x21 x22 x23 x24 x25 x26 x27 x28 x29 x30 x31 x32:AV)(h:H):Option β :=
 zl 33 (.mk (
 f182_J18 l15))<|.mk λj18=>
 zr 1 x23 x25<|.mk λv20=>
 za v20 h<|.mk λv21=>
 zg 2 x9<|.mk λv22=>
 za v22 h<|.mk λv23=>
 zr 4 v23 x25<|.mk λv24=>
 zi 4 v24 h<|.mk λv25=>
 qCall call (.fn 182 []) [x0,v21,v25] h<|.mk λv26 h=>
 qExt 0 v26<|.mk λv27=>
 qExt 1 v26<|.mk λv28=>
 qNot v27<|.mk λv29=>
 qIf v29 (.mk (
 k (.tup [(.bool false),v28]) h))<|.mk (
 j18 x0 x1 x2 x3 x4 x5 x6 x7 x8 x9 x10 x25 v21 v27 v28 x15 x16 x17 x18 x19 x20 x21 x22 x23 x24 x25 x26 x25 v21 v26 v27 v28 x32 h)
def f182_L15{β:Type}(call:zh β)(k:K β)(j13:Cur β 33)(l15:Cur β 33)(x0 x1 x2 x3 x4 x5 x6 x7 x8 x9 x10 x11 x12 x13 x14 x15 x16 x17 x18 x19 x20 x21 x22 x23 x24 x25 x26 x27 x28 x29 x30 x31 x32:AV)(h:H):Option β :=
 qLss x25 x24<|.mk λv16=>
 zl 33 (.mk (
 f182_J17 call k l15))<|.mk λj17=>
 qIf v16 (.mk (
 j17 x0 .any .any .any .any .any .any .any .any x9 .any .any .any .any .any .any .any .any .any .any .any .any .any x23 x24 x25 v16 .any .any .any .any .any .any h))<|.mk (
 j13 x0 .any .any .any .any .any .any .any .any x9 .any .any .any .any .any .any .any .any .any .any .any .any .any x23 x24 x25 v16 .any .any .any .any .any .any h)
def f182_J12{β:Type}(N:Nat)(call:zh β)(k:K β)(x0 x1 x2 x3 x4 x5 x6 x7 x8 x9 x10 x11 x12 x13 x14 x15 x16 x17 x18 x19 x20 x21 x22 x23 x24 x25 x26 x27 x28 x29 x30 x31 x32:AV)(h:H):Option β :=
 zl 33 (.mk (
 f182_J13 k))<|.mk λj13=>
 qLenL x8<|.mk λv14=>
 (zae 33 N<|.mk (
 f182_L15 call k j13)) x0 x1 x2 x3 x4 x5 x6 x7 x8 x9 x10 x11 x12 x13 x14 x15 x16 x17 x18 x19 x20 x21 x22 x8 v14 (.int .i64 0) x26 x27 x28 x29 x30 x31 x32 h
def f182_J6{β:Type}(N:Nat)(call:zh β)(k:K β)(x0 x1 x2 x3 x4 x5 x6 x7 x8 x9 x10 x11 x12 x13 x14 x15 x16 x17 x18 x19 x20 x21 x22 x23 x24 x25 x26 x27 x28 x29 x30 x31 x32:AV)(h:H):Option β :=
 zi 4 x3 h<|.mk λv7=>
 qCall call (.fn 184 []) [x0,v7] h<|.mk λv8 h=>
 qExt 0 v8<|.mk λv9=>
 qExt 1 v8<|.mk λv10=>
 zK 0 [(.int .i64 0),(.int .i64 0),.nils] h<|.mk λv11 h=>
 zj 3 v11 v9 h<|.mk λh=>
 zl 33 (.mk (
 f182_J12 N call k))<|.mk λj12=>
 qEql v10 (.int .i64 901)<|.mk λv30=>
 qIf v30 (.mk (
 k (.tup [(.bool false),(.int .i64 1001)]) h))<|.mk (
 qNeq v10 (.int .i64 0)<|.mk λv31=>
 qOr v31 h (.mk λh k=>
 zg 0 v11<|.mk λv32=>
 za v32 h<|.mk λv33=>
 qNeq v33 x6<|.mk λv34=>
 k v34 h)<|.mk λv35 h=>
 qOr v35 h (.mk λh k=>
 zg 1 v11<|.mk λv36=>
 za v36 h<|.mk λv37=>
 qNeq v37 x7<|.mk λv38=>
 k v38 h)<|.mk λv39 h=>
 qOr v39 h (.mk λh k=>
 zg 2 v11<|.mk λv40=>
 za v40 h<|.mk λv41=>
 qLenL v41<|.mk λv42=>
 qLenL x8<|.mk λv43=>
 qNeq v42 v43<|.mk λv44=>
 k v44 h)<|.mk λv45 h=>
 qIf v45 (.mk (
 k (.tup [(.bool false),(.int .i64 0)]) h))<|.mk (
 j12 x0 x1 x2 x3 x4 x5 x6 x7 x8 v11 v10 x11 x12 x13 x14 x15 x16 x17 x18 x19 v8 v9 v10 x23 x24 x25 x26 x27 x28 x29 x30 x31 x32 h))
def f182{β:Type}(N:Nat)(call:zh β)(a:List AV)(h:H)(k:K β):Option β :=
 qBox 0 (nth a 2) h<|.mk λv0 h=>
 qCall call (.fn 11 []) [(nth a 1)] h<|.mk λv1 h=>
 qExt 0 v1<|.mk λv2=>
 qExt 1 v1<|.mk λv3=>
 qExt 2 v1<|.mk λv4=>
 qExt 3 v1<|.mk λv5=>
 zl 33 (.mk (
 f182_J6 N call k))<|.mk λj6=>
 qEql v2 (.int .i64 0)<|.mk λv46=>
 qIf v46 (.mk (
 k (.tup [(.bool true),(.int .i64 0)]) h))<|.mk (
 j6 (nth a 0) (nth a 1) (nth a 2) v0 (.bool false) (.int .i64 0) v2 v3 v4 (nth a 12) (nth a 13) (nth a 14) (nth a 15) (nth a 16) (nth a 17) v1 v2 v3 v4 v5 (nth a 27) (nth a 31) (nth a 32) (nth a 59) (nth a 60) (nth a 61) (nth a 62) (nth a 63) (nth a 65) (nth a 66) (nth a 75) (nth a 76) (nth a 79) h)
theorem y182:zF I 182 T.s182 N call a h k=f182 N call a h k:=by kernel_rfl
def e151:Ent:=⟨151,T.s151,λ_ _=>f151,λ_=>y151⟩
def e152:Ent:=⟨152,T.s152,λ_ _=>f152,λ_=>y152⟩
def e180:Ent:=⟨180,T.s180,λ_ _=>f180,λ_=>y180⟩
def e182:Ent:=⟨182,T.s182,λ_ _=>f182,λ_=>y182⟩
structure GS10 (t:ETree):Prop where
 g151:t.get 151=some e151
 g152:t.get 152=some e152
 g180:t.get 180=some e180
 g182:t.get 182=some e182
section
variable {β:Type} {t:ETree} {I:FI} (n:Nat) (a:List AV) (h:H) (k:K β)
theorem GS10.c152(T:GS10 t):zc t I (n+1) (.fn 152 []) a h k=f152 n (zc t I n) a h k:=by rw[cRule T.g152];rfl
theorem GS10.c182(T:GS10 t):zc t I (n+1) (.fn 182 []) a h k=f182 n (zc t I n) a h k:=by rw[cRule T.g182];rfl
end
end
end Am.F
