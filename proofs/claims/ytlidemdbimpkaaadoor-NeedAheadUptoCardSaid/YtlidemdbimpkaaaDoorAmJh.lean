/- Texts that belong together: no condition. -/
import Derived.Test.YtlidemdbimpkaaaDoorAmJc
import Derived.Test.YtlidemdbimpkaaaDoorAmJg
import Derived.Test.YtlidemdbimpkaaaDoorAmOpen
open Nat (reduceAdd reduceMul)
open Int (reduceToNat)
set_option maxRecDepth 100000
set_option linter.unusedVariables false
set_option linter.unusedSimpArgs false
set_option linter.defProp false
section
namespace Am.T
open Go
def s149:SFn:=.src 77 [0,1,2,3,4,5,52,76] [.tmp 2]<|.seq (.reg [.set 1 (.P 1 (.box 0) [.V 0]),.set 2 (.M 2 (.k (.bool false)))])<|.seq (.ifr [] (.or 11 18 (.P 10 .notB [.P 9 (.call 30) [.P 8 .lenL [.P 7 .load1 [.P 6 (.fadr 0) [.V 1]]],.I 1,.I 8]]) (.P 17 (.binI .neq) [.P 16 .load1 [.P 15 (.fadr 0) [.P 14 (.iadr 2) [.P 13 .load1 [.P 12 (.fadr 0) [.V 1]],.I 0]]],.I 0])) (.seq (.reg [.set 2 (.M 2 (.k (.bool false)))])<|.ret) .skip)<|.seq (.seq (.reg [.set 3 (.M 3 (.I 0))])<|.block 0<|.loop [1,3]<|.seq (.ifr [] (.P 23 (.binI .lss) [.W 3 19,.P 22 .lenL [.P 21 .load1 [.P 20 (.fadr 0) [.V 1]]]]) .skip (.exit 0))<|.seq (.block 1<|.seq (.ifr [] (.P 32 .notB [.P 31 (.call 179) [.P 30 (.loadN 2) [.P 29 (.iadr 2) [.P 27 .load1 [.P 26 (.fadr 0) [.V 1]],.W 3 28]]]]) (.seq (.reg [.set 2 (.M 2 (.k (.bool false)))])<|.ret) .skip)<|.seq (.reg [.set 4 (.M 4 (.I 0))])<|.block 2<|.loop [1,3,4]<|.seq (.ifr [] (.P 41 (.binI .lss) [.W 4 33,.P 40 .lenL [.P 39 .load1 [.P 38 (.fadr 1) [.P 37 (.iadr 2) [.P 35 .load1 [.P 34 (.fadr 0) [.V 1]],.W 3 36]]]]]) .skip (.exit 2))<|.seq (.block 3<|.seq (.reg [.set 6 (.P 52 (.loadN 4) [.P 51 (.iadr 4) [.P 49 .load1 [.P 48 (.fadr 1) [.P 47 (.iadr 2) [.P 45 .load1 [.P 44 (.fadr 0) [.V 1]],.W 3 46]]],.W 4 50]]),.set 5 (.P 5 (.alloc 0 [.int .i64 0,.int .i64 0,.int .i64 0,.nils]) []),.ef (.op none (.store 4) [.V 5,.V 6])])<|.seq (.dreg [53,54,55,56,57,58,59,60,61,62,63,64,65,66,67,68,69,70,71,72,73,74,75] [⟨ (some 8),.fadr 0,[.t 5],none⟩,⟨ (some 9),.load1,[.t 8],none⟩,⟨ (some 10),.binI .eql,[.t 9,.c (.int .i64 2)],none⟩,⟨ (some 11),.mov,[.t 10],none⟩,⟨ (some 12),.fadr 1,[.t 5],(some (11 ,true)) ⟩,⟨ (some 13),.load1,[.t 12],(some (11 ,true)) ⟩,⟨ (some 14),.fadr 0,[.t 1],(some (11 ,true)) ⟩,⟨ (some 15),.load1,[.t 14],(some (11 ,true)) ⟩,⟨ (some 16),.lenL,[.t 15],(some (11 ,true)) ⟩,⟨ (some 17),.binI .geq,[.t 13,.t 16],(some (11 ,true)) ⟩,⟨ (some 18),.mov,[.t 17],(some (11 ,true)) ⟩,⟨ (some 19),.fadr 3,[.t 5],(some (18 ,false)) ⟩,⟨ (some 20),.load1,[.t 19],(some (18 ,false)) ⟩,⟨ (some 21),.lenL,[.t 20],(some (18 ,false)) ⟩,⟨ (some 22),.fadr 0,[.t 1],(some (18 ,false)) ⟩,⟨ (some 23),.load1,[.t 22],(some (18 ,false)) ⟩,⟨ (some 24),.fadr 1,[.t 5],(some (18 ,false)) ⟩,⟨ (some 25),.load1,[.t 24],(some (18 ,false)) ⟩,⟨ (some 26),.iadr 2,[.t 23,.t 25],(some (18 ,false)) ⟩,⟨ (some 27),.fadr 0,[.t 26],(some (18 ,false)) ⟩,⟨ (some 28),.load1,[.t 27],(some (18 ,false)) ⟩,⟨ (some 29),.binI .neq,[.t 21,.t 28],(some (18 ,false)) ⟩,⟨ (some 30),.pick,[.t 18,.c (.bool true),.t 29],(some (11 ,true)) ⟩,⟨ (some 7),.pick,[.t 11,.t 30,.c (.bool false)],none⟩] [.op 0,.op 1,.op 2,.op 3,.op 4,.op 5,.op 6,.op 7,.op 8,.op 9,.op 10,.op 11,.op 12,.op 13,.op 14,.op 15,.op 16,.op 17,.op 18,.op 19,.op 20,.op 21,.op 22,.op 23])<|.cond (.t 7) (.seq (.reg [.set 2 (.M 2 (.k (.bool false)))])<|.ret) .skip)<|.reg [.set 4 (.M 4 (.P 43 (.binI .add) [.W 4 42,.I 1]))])<|.reg [.set 3 (.M 3 (.P 25 (.binI .add) [.W 3 24,.I 1]))])<|.seq (.reg [.set 2 (.M 2 (.k (.bool true)))])<|.ret
def s157:SFn:=.src 42 [0,1,2,3,5,26,27,28,29,31] [.tmp 2]<|.seq (.reg [.set 1 (.P 1 (.box 0) [.V 0]),.set 2 (.M 2 (.k (.bool false)))])<|.seq (.ifr [] (.or 16 23 (.or 10 15 (.P 9 (.binI .eql) [.P 8 .lenL [.P 7 .load1 [.P 6 (.fadr 0) [.V 1]]],.I 0]) (.P 14 (.binI .gtr) [.P 13 .lenL [.P 12 .load1 [.P 11 (.fadr 0) [.V 1]]],.I 8])) (.P 22 (.binI .neq) [.P 21 .load1 [.P 20 (.fadr 0) [.P 19 (.iadr 2) [.P 18 .load1 [.P 17 (.fadr 0) [.V 1]],.I 0]]],.I 0])) (.seq (.reg [.set 2 (.M 2 (.k (.bool false)))])<|.ret) .skip)<|.seq (.reg [.set 3 (.M 3 (.P 24 (.mkfn 186) [.V 1]))])<|.seq (.seq (.reg [.set 5 (.P 26 .load1 [.P 25 (.fadr 0) [.V 1]]),.set 6 (.P 27 .lenL [.V 5]),.set 7 (.M 28 (.I 0))])<|.block 0<|.loop [3,5,6,7]<|.seq (.reg [.set 8 (.P 29 (.binI .lss) [.V 7,.V 6])])<|.seq (.cond (.t 8) .skip (.exit 0))<|.seq (.block 1<|.seq (.reg [.set 9 (.P 31 (.loadN 2) [.P 30 (.iadr 2) [.V 5,.V 7]]),.set 4 (.P 5 (.alloc 0 [.int .i64 0,.nils]) []),.ef (.op none (.store 2) [.V 4,.V 9])])<|.ifr [] (.or 35 40 (.P 34 .notB [.P 33 (.call 187) [.P 32 (.loadN 2) [.V 4]]]) (.P 39 (.call 188) [.P 37 .load1 [.P 36 (.fadr 1) [.V 4]],.W 3 38])) (.seq (.reg [.set 2 (.M 2 (.k (.bool false)))])<|.ret) .skip)<|.reg [.set 7 (.M 28 (.P 41 (.binI .add) [.V 7,.I 1]))])<|.seq (.reg [.set 2 (.M 2 (.k (.bool true)))])<|.ret
def s179:SFn:=.src 102 [0,1,2,3,4,5,6,7,21,23,26,43,66] [.tmp 2]<|.seq (.reg [.set 1 (.P 1 (.box 0) [.V 0]),.set 2 (.M 2 (.k (.bool false)))])<|.seq (.ifr [] (.or 12 18 (.P 11 .notB [.P 10 (.call 30) [.P 9 .load1 [.P 8 (.fadr 0) [.V 1]],.I 0,.I 3]]) (.P 17 .notB [.P 16 (.call 30) [.P 15 .lenL [.P 14 .load1 [.P 13 (.fadr 1) [.V 1]]],.I 1,.I 24]])) (.seq (.reg [.set 2 (.M 2 (.k (.bool false)))])<|.ret) .skip)<|.seq (.reg [.set 8 (.P 21 .lenL [.P 20 .load1 [.P 19 (.fadr 1) [.V 1]]]),.set 3 (.M 3 (.P 22 (.mkslice 0 [.int .i64 0] 8) [.V 8,.V 8]))])<|.seq (.reg [.set 9 (.M 23 (.V 3)),.set 10 (.P 26 (.binI .sub) [.P 25 .lenL [.W 3 24],.I 1]),.ef (.opr none (.store 1) (.P 30 (.iadr 1) [.V 9,.V 10]) (.P 29 (.binI .add) [.P 28 .load1 [.P 27 (.fadr 0) [.V 1]],.I 1]))])<|.seq (.seq (.reg [.set 4 (.M 4 (.P 34 (.binI .sub) [.P 33 .lenL [.P 32 .load1 [.P 31 (.fadr 1) [.V 1]]],.I 1]))])<|.block 0<|.loop [1,3,4]<|.seq (.ifr [] (.P 36 (.binI .geq) [.W 4 35,.I 0]) .skip (.exit 0))<|.seq (.block 1<|.seq (.reg [.set 11 (.P 43 (.loadN 4) [.P 42 (.iadr 4) [.P 40 .load1 [.P 39 (.fadr 1) [.V 1]],.W 4 41]]),.set 5 (.P 5 (.alloc 0 [.int .i64 0,.int .i64 0,.int .i64 0,.nils]) []),.ef (.op none (.store 4) [.V 5,.V 11])])<|.seq (.seq (.dreg [44,45,46,47,48,49,50,51,52,53,54,55,56,57,58,59,60,61,62,63,64,65] [⟨ (some 13),.mov,[.t 3],none⟩,⟨ (some 14),.mov,[.t 4],none⟩,⟨ (some 15),.iadr 1,[.t 13,.t 14],none⟩,⟨ (some 16),.load1,[.t 15],none⟩,⟨ (some 17),.binI .eql,[.t 16,.c (.int .i64 0)],none⟩,⟨ (some 18),.mov,[.t 17],none⟩,⟨ (some 19),.mov,[.t 3],(some (18 ,false)) ⟩,⟨ (some 20),.mov,[.t 4],(some (18 ,false)) ⟩,⟨ (some 21),.iadr 1,[.t 19,.t 20],(some (18 ,false)) ⟩,⟨ (some 22),.load1,[.t 21],(some (18 ,false)) ⟩,⟨ (some 23),.binI .sub,[.t 22,.c (.int .i64 1)],(some (18 ,false)) ⟩,⟨ (some 24),.binI .gtr,[.t 23,.c (.int .i64 8)],(some (18 ,false)) ⟩,⟨ (some 25),.pick,[.t 18,.c (.bool true),.t 24],none⟩,⟨ (some 26),.mov,[.t 25],none⟩,⟨ (some 27),.loadN 4,[.t 5],(some (26 ,false)) ⟩,⟨ (some 28),.mov,[.t 3],(some (26 ,false)) ⟩,⟨ (some 29),.mov,[.t 4],(some (26 ,false)) ⟩,⟨ (some 30),.iadr 1,[.t 28,.t 29],(some (26 ,false)) ⟩,⟨ (some 31),.load1,[.t 30],(some (26 ,false)) ⟩,⟨ (some 32),.binI .sub,[.t 31,.c (.int .i64 1)],(some (26 ,false)) ⟩,⟨ (some 33),.call 202,[.t 27,.t 32],(some (26 ,false)) ⟩,⟨ (some 34),.notB,[.t 33],(some (26 ,false)) ⟩,⟨ (some 12),.pick,[.t 26,.c (.bool true),.t 34],none⟩] [.op 0,.op 1,.op 2,.op 3,.op 4,.op 5,.op 6,.op 7,.op 8,.op 9,.op 10,.op 11,.op 12,.op 13,.op 14,.op 15,.op 16,.op 17,.op 18,.op 19,.op 20,.op 21,.op 22])<|.cond (.t 12) (.seq (.reg [.set 2 (.M 2 (.k (.bool false)))])<|.ret) .skip)<|.seq (.reg [.set 6 (.M 6 (.I 0))])<|.block 2<|.loop [1,3,4,5,6]<|.seq (.ifr [] (.P 71 (.binI .lss) [.W 6 67,.P 70 .lenL [.P 69 .load1 [.P 68 (.fadr 3) [.V 5]]]]) .skip (.exit 2))<|.seq (.block 3<|.seq (.reg [.set 7 (.M 7 (.P 78 .load1 [.P 77 (.iadr 1) [.P 75 .load1 [.P 74 (.fadr 3) [.V 5]],.W 6 76]]))])<|.seq (.ifr [] (.or 84 90 (.P 83 .notB [.P 82 (.call 30) [.W 7 79,.I 0,.P 81 (.binI .sub) [.W 4 80,.I 1]]]) (.P 89 (.binI .neq) [.P 88 .load1 [.P 87 (.iadr 1) [.W 3 85,.W 7 86]],.I 0])) (.seq (.reg [.set 2 (.M 2 (.k (.bool false)))])<|.ret) .skip)<|.dreg [91,92,93,94,95,96,97,98,99,100,101] [⟨ (some 13),.mov,[.t 3],none⟩,⟨ (some 14),.mov,[.t 7],none⟩,⟨ (some 15),.mov,[.t 3],none⟩,⟨ (some 16),.mov,[.t 4],none⟩,⟨ (some 17),.iadr 1,[.t 15,.t 16],none⟩,⟨ (some 18),.load1,[.t 17],none⟩,⟨ (some 19),.loadN 4,[.t 5],none⟩,⟨ (some 20),.mov,[.t 6],none⟩,⟨ (some 21),.call 203,[.t 19,.t 20],none⟩,⟨ (some 22),.binI .add,[.t 18,.t 21],none⟩,⟨ (some 23),.iadr 1,[.t 13,.t 14],none⟩,⟨none,.store 1,[.t 23,.t 22],none⟩] [.op 0,.op 1,.op 2,.op 3,.op 4,.op 5,.op 6,.op 7,.op 8,.chk 5,.op 9,.op 10,.op 11])<|.reg [.set 6 (.M 6 (.P 73 (.binI .add) [.W 6 72,.I 1]))])<|.reg [.set 4 (.M 4 (.P 38 (.binI .sub) [.W 4 37,.I 1]))])<|.seq (.reg [.set 2 (.M 2 (.k (.bool true)))])<|.ret
def s186:SFn:=.src 28 [0,1,2,3] [.tmp 3]<|.seq (.reg [.set 2 (.P 2 (.box 0) [.V 0]),.set 3 (.M 3 (.k (.bool false)))])<|.seq (.dreg [4,5,6,7,8,9,10,11,12,13,14,15,16,17,18,19,20,21,22,23,24,25,26,27] [⟨ (some 4),.fadr 0,[.t 2],none⟩,⟨ (some 5),.load1,[.t 4],none⟩,⟨ (some 6),.binI .eql,[.t 5,.c (.int .i64 2)],none⟩,⟨ (some 7),.mov,[.t 6],none⟩,⟨ (some 8),.fadr 1,[.t 2],(some (7 ,true)) ⟩,⟨ (some 9),.load1,[.t 8],(some (7 ,true)) ⟩,⟨ (some 10),.fadr 0,[.t 1],(some (7 ,true)) ⟩,⟨ (some 11),.load1,[.t 10],(some (7 ,true)) ⟩,⟨ (some 12),.lenL,[.t 11],(some (7 ,true)) ⟩,⟨ (some 13),.binI .geq,[.t 9,.t 12],(some (7 ,true)) ⟩,⟨ (some 14),.mov,[.t 13],(some (7 ,true)) ⟩,⟨ (some 15),.fadr 3,[.t 2],(some (14 ,false)) ⟩,⟨ (some 16),.load1,[.t 15],(some (14 ,false)) ⟩,⟨ (some 17),.lenL,[.t 16],(some (14 ,false)) ⟩,⟨ (some 18),.fadr 0,[.t 1],(some (14 ,false)) ⟩,⟨ (some 19),.load1,[.t 18],(some (14 ,false)) ⟩,⟨ (some 20),.fadr 1,[.t 2],(some (14 ,false)) ⟩,⟨ (some 21),.load1,[.t 20],(some (14 ,false)) ⟩,⟨ (some 22),.iadr 2,[.t 19,.t 21],(some (14 ,false)) ⟩,⟨ (some 23),.fadr 0,[.t 22],(some (14 ,false)) ⟩,⟨ (some 24),.load1,[.t 23],(some (14 ,false)) ⟩,⟨ (some 25),.binI .neq,[.t 17,.t 24],(some (14 ,false)) ⟩,⟨ (some 26),.pick,[.t 14,.c (.bool true),.t 25],(some (7 ,true)) ⟩,⟨ (some 27),.pick,[.t 7,.t 26,.c (.bool false)],none⟩,⟨ (some 3),.mov,[.t 27],none⟩] [.op 0,.op 1,.op 2,.op 3,.op 4,.op 5,.op 6,.op 7,.op 8,.op 9,.op 10,.op 11,.op 12,.op 13,.op 14,.op 15,.op 16,.op 17,.op 18,.op 19,.op 20,.op 21,.op 22,.op 23,.op 24])<|.ret
def s187:SFn:=.src 106 [0,1,2,3,4,5,6,7,8,9,25,27,28,29,35,36,73,74,75,76,77,79] [.tmp 2]<|.seq (.reg [.set 1 (.P 1 (.box 0) [.V 0]),.set 2 (.M 2 (.k (.bool false)))])<|.seq (.reg [.set 3 (.M 3 (.P 13 (.binI .sub) [.P 12 .lenL [.P 11 .load1 [.P 10 (.fadr 1) [.V 1]]],.I 1]))])<|.seq (.ifr [] (.or 18 22 (.P 17 .notB [.P 16 (.call 212) [.P 15 .load1 [.P 14 (.fadr 0) [.V 1]],.I 3]]) (.P 21 .notB [.P 20 (.call 212) [.W 3 19,.I 23]])) (.seq (.reg [.set 2 (.M 2 (.k (.bool false)))])<|.ret) .skip)<|.seq (.reg [.set 10 (.P 25 .lenL [.P 24 .load1 [.P 23 (.fadr 1) [.V 1]]]),.set 4 (.M 4 (.P 26 (.mkslice 0 [.int .i64 0] 8) [.V 10,.V 10]))])<|.seq (.seq (.reg [.set 11 (.M 27 (.V 3)),.set 12 (.M 28 (.I 0))])<|.block 0<|.loop [1,3,4,11,12]<|.seq (.reg [.set 13 (.P 29 (.binI .lss) [.V 12,.V 11])])<|.seq (.cond (.t 13) .skip (.exit 0))<|.seq (.block 1<|.seq (.reg [.set 5 (.M 5 (.W 12 30))])<|.reg [.ef (.op none (.store 1) [.P 33 (.iadr 1) [.W 4 31,.W 5 32],.I (-1)])])<|.reg [.set 12 (.M 28 (.P 34 (.binI .add) [.V 12,.I 1]))])<|.seq (.reg [.set 14 (.M 35 (.V 4)),.set 15 (.M 36 (.V 3)),.ef (.opr none (.store 1) (.P 39 (.iadr 1) [.V 14,.V 15]) (.P 38 .load1 [.P 37 (.fadr 0) [.V 1]]))])<|.seq (.seq (.reg [.set 6 (.M 6 (.W 3 40))])<|.block 2<|.loop [1,4,6]<|.seq (.ifr [] (.P 42 (.binI .geq) [.W 6 41,.I 0]) .skip (.exit 2))<|.seq (.block 3<|.seq (.reg [.set 7 (.M 7 (.P 48 (.iadr 4) [.P 46 .load1 [.P 45 (.fadr 1) [.V 1]],.W 6 47]))])<|.seq (.ifr [] (.or 61 69 (.or 54 60 (.P 53 (.binI .eql) [.P 52 .load1 [.P 51 (.iadr 1) [.W 4 49,.W 6 50]],.I (-1)]) (.P 59 (.binI .gtr) [.P 58 .load1 [.P 57 (.iadr 1) [.W 4 55,.W 6 56]],.I 8])) (.P 68 .notB [.P 67 (.call 213) [.W 7 62,.P 66 .load1 [.P 65 (.iadr 1) [.W 4 63,.W 6 64]]]])) (.seq (.reg [.set 2 (.M 2 (.k (.bool false)))])<|.ret) .skip)<|.seq (.reg [.set 16 (.P 73 .load1 [.P 72 (.fadr 3) [.P 71 .nilCheck [.W 7 70]]]),.set 17 (.P 74 .lenL [.V 16]),.set 18 (.M 75 (.I 0))])<|.block 4<|.loop [1,4,6,7,16,17,18]<|.seq (.reg [.set 19 (.P 76 (.binI .lss) [.V 18,.V 17])])<|.seq (.cond (.t 19) .skip (.exit 4))<|.seq (.block 5<|.seq (.reg [.set 20 (.M 77 (.V 18)),.set 21 (.P 79 .load1 [.P 78 (.iadr 1) [.V 16,.V 18]]),.set 8 (.M 8 (.V 20)),.set 9 (.M 9 (.V 21))])<|.seq (.ifr [] (.or 87 93 (.or 82 86 (.P 81 (.binI .lss) [.W 9 80,.I 0]) (.P 85 (.binI .geq) [.W 9 83,.W 6 84])) (.P 92 (.binI .neq) [.P 91 .load1 [.P 90 (.iadr 1) [.W 4 88,.W 9 89]],.I (-1)])) (.seq (.reg [.set 2 (.M 2 (.k (.bool false)))])<|.ret) .skip)<|.dreg [94,95,96,97,98,99,100,101,102,103,104] [⟨ (some 22),.mov,[.t 4],none⟩,⟨ (some 23),.mov,[.t 9],none⟩,⟨ (some 24),.mov,[.t 4],none⟩,⟨ (some 25),.mov,[.t 6],none⟩,⟨ (some 26),.iadr 1,[.t 24,.t 25],none⟩,⟨ (some 27),.load1,[.t 26],none⟩,⟨ (some 28),.mov,[.t 7],none⟩,⟨ (some 29),.mov,[.t 8],none⟩,⟨ (some 30),.call 214,[.t 28,.t 29],none⟩,⟨ (some 31),.binI .add,[.t 27,.t 30],none⟩,⟨ (some 32),.iadr 1,[.t 22,.t 23],none⟩,⟨none,.store 1,[.t 32,.t 31],none⟩] [.op 0,.op 1,.op 2,.op 3,.op 4,.op 5,.op 6,.op 7,.op 8,.chk 5,.op 9,.op 10,.op 11])<|.reg [.set 18 (.M 75 (.P 105 (.binI .add) [.V 18,.I 1]))])<|.reg [.set 6 (.M 6 (.P 44 (.binI .sub) [.W 6 43,.I 1]))])<|.seq (.reg [.set 2 (.M 2 (.k (.bool true)))])<|.ret
def s188:SFn:=.src 9 [0,1,4] [.tmp 2]<|.seq (.reg [.set 2 (.M 4 (.k (.bool false)))])<|.seq (.reg [.set 2 (.M 4 (.P 8 (.binI .geq) [.P 7 (.call 215) [.W 0 5,.W 1 6],.I 0]))])<|.ret
def s202:SFn:=.src 115 [0,1,2,4,5,6,14] [.tmp 3]<|.seq (.reg [.set 2 (.P 2 (.box 0) [.V 0]),.set 3 (.M 4 (.k (.bool false)))])<|.seq (.reg [.set 4 (.M 5 (.P 9 .lenL [.P 8 .load1 [.P 7 (.fadr 3) [.V 2]]]))])<|.seq (.reg [.set 5 (.M 6 (.P 12 (.binI .eql) [.P 11 .load1 [.P 10 (.fadr 2) [.V 2]],.I 0]))])<|.seq (.seq (.reg [.set 6 (.P 14 .load1 [.P 13 (.fadr 0) [.V 2]])])<|.block 0<|.ifr [] (.M 15 (.P 16 (.binI .eql) [.V 6,.I 0])) (.seq (.reg [.set 3 (.M 4 (.and 22 26 (.and 18 21 (.W 5 17) (.P 20 (.binI .eql) [.W 4 19,.I 0])) (.P 25 (.call 41) [.P 24 .load1 [.P 23 (.fadr 1) [.V 2]]])))])<|.ret) (.ifr [] (.M 27 (.P 28 (.binI .eql) [.V 6,.I 1])) (.seq (.reg [.set 3 (.M 4 (.and 34 40 (.and 30 33 (.W 5 29) (.P 32 (.binI .eql) [.W 4 31,.I 0])) (.P 39 (.call 30) [.P 36 .load1 [.P 35 (.fadr 1) [.V 2]],.I 0,.P 38 (.binI .sub) [.W 1 37,.I 1]])))])<|.ret) (.ifr [] (.M 41 (.P 42 (.binI .eql) [.V 6,.I 2])) (.seq (.reg [.set 3 (.M 4 (.and 48 52 (.and 44 47 (.W 5 43) (.P 46 (.binI .leq) [.W 4 45,.I 3])) (.P 51 (.call 30) [.P 50 .load1 [.P 49 (.fadr 1) [.V 2]],.I 0,.I 7])))])<|.ret) (.ifr [] (.M 53 (.P 54 (.binI .eql) [.V 6,.I 3])) (.seq (.reg [.set 3 (.M 4 (.and 60 64 (.and 56 59 (.W 5 55) (.P 58 (.binI .leq) [.W 4 57,.I 3])) (.P 63 (.call 30) [.P 62 .load1 [.P 61 (.fadr 1) [.V 2]],.I 0,.I 99])))])<|.ret) (.ifr [] (.M 65 (.P 66 (.binI .eql) [.V 6,.I 4])) (.seq (.reg [.set 3 (.M 4 (.and 72 76 (.and 68 71 (.W 5 67) (.P 70 (.binI .eql) [.W 4 69,.I 2])) (.P 75 (.call 30) [.P 74 .load1 [.P 73 (.fadr 1) [.V 2]],.I 0,.I 4])))])<|.ret) (.ifr [] (.M 77 (.P 78 (.binI .eql) [.V 6,.I 5])) (.seq (.reg [.set 3 (.M 4 (.and 86 90 (.and 81 85 (.P 80 (.binI .eql) [.W 4 79,.I 3]) (.P 84 (.call 30) [.P 83 .load1 [.P 82 (.fadr 1) [.V 2]],.I 0,.I 99])) (.P 89 (.call 30) [.P 88 .load1 [.P 87 (.fadr 2) [.V 2]],.I 0,.I 3])))])<|.ret) (.ifr [] (.M 91 (.P 92 (.binI .eql) [.V 6,.I 6])) (.seq (.reg [.set 3 (.M 4 (.and 98 102 (.and 94 97 (.W 5 93) (.P 96 (.binI .eql) [.W 4 95,.I 2])) (.P 101 (.binI .eql) [.P 100 .load1 [.P 99 (.fadr 1) [.V 2]],.I 0])))])<|.ret) (.ifr [] (.M 103 (.P 104 (.binI .eql) [.V 6,.I 7])) (.seq (.reg [.set 3 (.M 4 (.and 110 114 (.and 106 109 (.W 5 105) (.P 108 (.binI .eql) [.W 4 107,.I 0])) (.P 113 (.binI .eql) [.P 112 .load1 [.P 111 (.fadr 1) [.V 2]],.I 0])))])<|.ret) .skip))))))))<|.seq (.reg [.set 3 (.M 4 (.k (.bool false)))])<|.ret
def s203:SFn:=.src 21 [0,1,2,4] [.tmp 3]<|.seq (.reg [.set 2 (.P 2 (.box 0) [.V 0]),.set 3 (.M 4 (.I 0))])<|.seq (.ifr [] (.and 7 11 (.P 6 (.binI .eql) [.W 1 5,.I 1]) (.P 10 (.binI .eql) [.P 9 .load1 [.P 8 (.fadr 0) [.V 2]],.I 5])) (.seq (.reg [.set 3 (.M 4 (.P 13 .load1 [.P 12 (.fadr 2) [.V 2]]))])<|.ret) .skip)<|.seq (.ifr [] (.and 16 20 (.P 15 (.binI .eql) [.W 1 14,.I 1]) (.P 19 (.binI .eql) [.P 18 .load1 [.P 17 (.fadr 0) [.V 2]],.I 6])) (.seq (.reg [.set 3 (.M 4 (.I 1))])<|.ret) .skip)<|.seq (.reg [.set 3 (.M 4 (.I 0))])<|.ret
def s212:SFn:=.src 12 [0,1,4] [.tmp 2]<|.seq (.reg [.set 2 (.M 4 (.k (.bool false)))])<|.seq (.reg [.set 2 (.M 4 (.and 7 11 (.P 6 (.binI .geq) [.W 0 5,.I 0]) (.P 10 (.binI .leq) [.W 0 8,.W 1 9])))])<|.ret
def s213:SFn:=.src 99 [0,1,4,8] [.tmp 2]<|.seq (.reg [.set 2 (.M 4 (.k (.bool false)))])<|.seq (.seq (.reg [.set 3 (.P 8 .load1 [.P 7 (.fadr 0) [.P 6 .nilCheck [.W 0 5]]])])<|.block 0<|.ifr [] (.M 9 (.P 10 (.binI .eql) [.V 3,.I 0])) (.seq (.reg [.set 2 (.M 4 (.and 16 19 (.P 15 (.call 28) [.P 14 .load1 [.P 13 (.fadr 1) [.P 12 .nilCheck [.W 0 11]]]]) (.P 18 (.call 229) [.W 0 17,.I 0,.I 0,.I 0])))])<|.ret) (.ifr [] (.M 20 (.P 21 (.binI .eql) [.V 3,.I 1])) (.seq (.reg [.set 2 (.M 4 (.and 29 32 (.P 28 (.call 212) [.P 25 .load1 [.P 24 (.fadr 1) [.P 23 .nilCheck [.W 0 22]]],.P 27 (.binI .sub) [.W 1 26,.I 1]]) (.P 31 (.call 229) [.W 0 30,.I 0,.I 0,.I 0])))])<|.ret) (.ifr [] (.M 33 (.P 34 (.binI .eql) [.V 3,.I 2])) (.seq (.reg [.set 2 (.M 4 (.and 40 43 (.P 39 (.call 212) [.P 38 .load1 [.P 37 (.fadr 1) [.P 36 .nilCheck [.W 0 35]]],.I 7]) (.P 42 (.call 229) [.W 0 41,.I 0,.I 0,.I 3])))])<|.ret) (.ifr [] (.M 44 (.P 45 (.binI .eql) [.V 3,.I 3])) (.seq (.reg [.set 2 (.M 4 (.and 51 54 (.P 50 (.call 212) [.P 49 .load1 [.P 48 (.fadr 1) [.P 47 .nilCheck [.W 0 46]]],.I 99]) (.P 53 (.call 229) [.W 0 52,.I 0,.I 0,.I 3])))])<|.ret) (.ifr [] (.M 55 (.P 56 (.binI .eql) [.V 3,.I 4])) (.seq (.reg [.set 2 (.M 4 (.and 62 65 (.P 61 (.call 212) [.P 60 .load1 [.P 59 (.fadr 1) [.P 58 .nilCheck [.W 0 57]]],.I 4]) (.P 64 (.call 229) [.W 0 63,.I 0,.I 2,.I 2])))])<|.ret) (.ifr [] (.M 66 (.P 67 (.binI .eql) [.V 3,.I 5])) (.seq (.reg [.set 2 (.M 4 (.and 73 76 (.P 72 (.call 212) [.P 71 .load1 [.P 70 (.fadr 1) [.P 69 .nilCheck [.W 0 68]]],.I 99]) (.P 75 (.call 229) [.W 0 74,.I 3,.I 3,.I 3])))])<|.ret) (.ifr [] (.M 77 (.P 78 (.binI .eql) [.V 3,.I 6])) (.seq (.reg [.set 2 (.M 4 (.and 84 87 (.P 83 (.binI .eql) [.P 82 .load1 [.P 81 (.fadr 1) [.P 80 .nilCheck [.W 0 79]]],.I 0]) (.P 86 (.call 229) [.W 0 85,.I 0,.I 2,.I 2])))])<|.ret) (.ifr [] (.M 88 (.P 89 (.binI .eql) [.V 3,.I 7])) (.seq (.reg [.set 2 (.M 4 (.and 95 98 (.P 94 (.binI .eql) [.P 93 .load1 [.P 92 (.fadr 1) [.P 91 .nilCheck [.W 0 90]]],.I 0]) (.P 97 (.call 229) [.W 0 96,.I 0,.I 0,.I 0])))])<|.ret) .skip))))))))<|.seq (.reg [.set 2 (.M 4 (.k (.bool false)))])<|.ret
def s214:SFn:=.src 24 [0,1,4] [.tmp 2]<|.seq (.reg [.set 2 (.M 4 (.I 0))])<|.seq (.block 0<|.ifr [] (.M 5 (.P 7 (.binI .neq) [.W 1 6,.I 1])) (.seq (.reg [.set 2 (.M 4 (.I 0))])<|.ret) (.ifr [] (.M 8 (.P 13 (.binI .eql) [.P 12 .load1 [.P 11 (.fadr 0) [.P 10 .nilCheck [.W 0 9]]],.I 5])) (.seq (.reg [.set 2 (.M 4 (.P 17 .load1 [.P 16 (.fadr 2) [.P 15 .nilCheck [.W 0 14]]]))])<|.ret) (.ifr [] (.M 18 (.P 23 (.binI .eql) [.P 22 .load1 [.P 21 (.fadr 0) [.P 20 .nilCheck [.W 0 19]]],.I 6])) (.seq (.reg [.set 2 (.M 4 (.I 1))])<|.ret) .skip)))<|.seq (.reg [.set 2 (.M 4 (.I 0))])<|.ret
def s215:SFn:=.src 19 [0,1,4,5,7,8,9] [.tmp 2]<|.seq (.reg [.set 2 (.M 4 (.I 0))])<|.seq (.seq (.reg [.set 4 (.P 7 .lenL [.W 0 6]),.set 5 (.M 8 (.I 0))])<|.block 0<|.loop [0,1,4,5]<|.seq (.reg [.set 6 (.P 9 (.binI .lss) [.V 5,.V 4])])<|.seq (.cond (.t 6) .skip (.exit 0))<|.seq (.block 1<|.seq (.reg [.set 3 (.M 5 (.W 5 10))])<|.ifr [] (.P 16 .callv [.W 1 11,.P 15 (.loadN 4) [.P 14 (.iadr 4) [.W 0 12,.W 3 13]]]) (.seq (.reg [.set 2 (.M 4 (.W 3 17))])<|.ret) .skip)<|.reg [.set 5 (.M 8 (.P 18 (.binI .add) [.V 5,.I 1]))])<|.seq (.reg [.set 2 (.M 4 (.I (-1)))])<|.ret
def s229:SFn:=.src 40 [0,1,2,3,8] [.tmp 4]<|.seq (.reg [.set 4 (.M 8 (.k (.bool false)))])<|.seq (.reg [.set 4 (.M 8 (.and 31 39 (.and 22 30 (.and 14 21 (.P 13 (.binI .geq) [.P 12 .load1 [.P 11 (.fadr 2) [.P 10 .nilCheck [.W 0 9]]],.I 0]) (.P 20 (.binI .leq) [.P 18 .load1 [.P 17 (.fadr 2) [.P 16 .nilCheck [.W 0 15]]],.W 1 19])) (.P 29 (.binI .geq) [.P 27 .lenL [.P 26 .load1 [.P 25 (.fadr 3) [.P 24 .nilCheck [.W 0 23]]]],.W 2 28])) (.P 38 (.binI .leq) [.P 36 .lenL [.P 35 .load1 [.P 34 (.fadr 3) [.P 33 .nilCheck [.W 0 32]]]],.W 3 37])))])<|.ret
def s261:SFn:=.src 19 [0,2,3,5,6,7] [.tmp 1]<|.seq (.reg [.set 1 (.M 2 (.k (.bool false)))])<|.seq (.seq (.reg [.set 3 (.P 5 .lenL [.W 0 4]),.set 4 (.M 6 (.I 0))])<|.block 0<|.loop [0,3,4]<|.seq (.reg [.set 5 (.P 7 (.binI .lss) [.V 4,.V 3])])<|.seq (.cond (.t 5) .skip (.exit 0))<|.seq (.block 1<|.seq (.reg [.set 2 (.M 3 (.W 4 8))])<|.ifr [] (.P 14 .notB [.P 13 (.call 270) [.P 11 (.iadr 4) [.W 0 9,.W 2 10],.W 2 12]]) (.seq (.reg [.set 1 (.M 2 (.k (.bool false)))])<|.ret) .skip)<|.reg [.set 4 (.M 6 (.P 15 (.binI .add) [.V 4,.I 1]))])<|.seq (.reg [.set 1 (.M 2 (.P 18 (.binI .gtr) [.P 17 .lenL [.W 0 16],.I 0]))])<|.ret
def s262:SFn:=.src 26 [0,1,2,4,5] [.tmp 3]<|.seq (.reg [.set 2 (.P 2 (.box 0) [.V 0]),.set 3 (.M 4 (.k (.bool false)))])<|.seq (.reg [.set 4 (.M 5 (.P 6 (.mkfn 271) [.V 2]))])<|.seq (.reg [.set 3 (.M 4 (.and 20 25 (.and 13 19 (.and 9 12 (.P 8 (.call 157) [.P 7 (.loadN 1) [.V 2]]) (.P 11 (.call 261) [.W 1 10])) (.P 18 (.binI .eql) [.P 17 .load1 [.P 16 (.fadr 0) [.P 15 (.iadr 4) [.W 1 14,.I 0]]],.I 0])) (.P 24 .notB [.P 23 (.call 272) [.W 1 21,.W 4 22]])))])<|.ret
def s270:SFn:=.src 39 [0,1,4,5] [.tmp 2]<|.seq (.reg [.set 2 (.M 4 (.k (.bool false)))])<|.seq (.reg [.set 3 (.M 5 (.or 19 29 (.and 11 18 (.P 10 (.binI .geq) [.P 9 .load1 [.P 8 (.fadr 1) [.P 7 .nilCheck [.W 0 6]]],.I 0]) (.P 17 (.binI .lss) [.P 15 .load1 [.P 14 (.fadr 1) [.P 13 .nilCheck [.W 0 12]]],.W 1 16])) (.and 22 28 (.P 21 (.binI .eql) [.W 1 20,.I 0]) (.P 27 (.binI .eql) [.P 26 .load1 [.P 25 (.fadr 1) [.P 24 .nilCheck [.W 0 23]]],.I (-1)]))))])<|.seq (.reg [.set 2 (.M 4 (.and 35 38 (.and 32 34 (.P 31 (.binI .lss) [.W 1 30,.I 512]) (.W 3 33)) (.P 37 (.call 269) [.W 0 36])))])<|.ret
def s271:SFn:=.src 23 [0,1,2,3] [.tmp 3]<|.seq (.reg [.set 2 (.P 2 (.box 0) [.V 0]),.set 3 (.M 3 (.k (.bool false)))])<|.seq (.dreg [4,5,6,7,8,9,10,11,12,13,14,15,16,17,18,19,20,21,22] [⟨ (some 4),.fadr 0,[.t 2],none⟩,⟨ (some 5),.load1,[.t 4],none⟩,⟨ (some 6),.fadr 0,[.t 1],none⟩,⟨ (some 7),.load1,[.t 6],none⟩,⟨ (some 8),.lenL,[.t 7],none⟩,⟨ (some 9),.binI .geq,[.t 5,.t 8],none⟩,⟨ (some 10),.mov,[.t 9],none⟩,⟨ (some 11),.fadr 2,[.t 2],(some (10 ,false)) ⟩,⟨ (some 12),.load1,[.t 11],(some (10 ,false)) ⟩,⟨ (some 13),.lenL,[.t 12],(some (10 ,false)) ⟩,⟨ (some 14),.fadr 0,[.t 1],(some (10 ,false)) ⟩,⟨ (some 15),.load1,[.t 14],(some (10 ,false)) ⟩,⟨ (some 16),.fadr 0,[.t 2],(some (10 ,false)) ⟩,⟨ (some 17),.load1,[.t 16],(some (10 ,false)) ⟩,⟨ (some 18),.iadr 2,[.t 15,.t 17],(some (10 ,false)) ⟩,⟨ (some 19),.fadr 0,[.t 18],(some (10 ,false)) ⟩,⟨ (some 20),.load1,[.t 19],(some (10 ,false)) ⟩,⟨ (some 21),.binI .neq,[.t 13,.t 20],(some (10 ,false)) ⟩,⟨ (some 22),.pick,[.t 10,.c (.bool true),.t 21],none⟩,⟨ (some 3),.mov,[.t 22],none⟩] [.op 0,.op 1,.op 2,.op 3,.op 4,.op 5,.op 6,.op 7,.op 8,.op 9,.op 10,.op 11,.op 12,.op 13,.op 14,.op 15,.op 16,.op 17,.op 18,.op 19])<|.ret
def s272:SFn:=.src 9 [0,1,4] [.tmp 2]<|.seq (.reg [.set 2 (.M 4 (.k (.bool false)))])<|.seq (.reg [.set 2 (.M 4 (.P 8 (.binI .geq) [.P 7 (.call 276) [.W 0 5,.W 1 6],.I 0]))])<|.ret
def s276:SFn:=.src 19 [0,1,4,5,7,8,9] [.tmp 2]<|.seq (.reg [.set 2 (.M 4 (.I 0))])<|.seq (.seq (.reg [.set 4 (.P 7 .lenL [.W 0 6]),.set 5 (.M 8 (.I 0))])<|.block 0<|.loop [0,1,4,5]<|.seq (.reg [.set 6 (.P 9 (.binI .lss) [.V 5,.V 4])])<|.seq (.cond (.t 6) .skip (.exit 0))<|.seq (.block 1<|.seq (.reg [.set 3 (.M 5 (.W 5 10))])<|.ifr [] (.P 16 .callv [.W 1 11,.P 15 (.loadN 4) [.P 14 (.iadr 4) [.W 0 12,.W 3 13]]]) (.seq (.reg [.set 2 (.M 4 (.W 3 17))])<|.ret) .skip)<|.reg [.set 5 (.M 8 (.P 18 (.binI .add) [.V 5,.I 1]))])<|.seq (.reg [.set 2 (.M 4 (.I (-1)))])<|.ret
end Am.T
end
section
namespace Am.F
open Go Am
noncomputable section
variable {β:Type} (I:FI) (N:Nat) (call:zi β) (a:List AV) (h:H) (k:K β)
def f149_J2{β:Type}(k:K β)(x0 x1 x2 x3 x4 x5 x6 x7:AV)(h:H):Option β :=
 k (.bool true) h
def f149_J5{β:Type}(l3:Cur β 8)(x0 x1 x2 x3 x4 x5 x6 x7:AV)(h:H):Option β :=
 qAdd x3 (.int .i64 1)<|.mk λv6=>
 l3 x0 x1 x2 v6 x4 x5 x6 x7 h
def f149_J10{β:Type}(l8:Cur β 8)(x0 x1 x2 x3 x4 x5 x6 x7:AV)(h:H):Option β :=
 qAdd x4 (.int .i64 1)<|.mk λv11=>
 l8 x0 x1 x2 x3 v11 x5 x6 x7 h
def f149_J9{β:Type}(k:K β)(l8:Cur β 8)(x0 x1 x2 x3 x4 x5 x6 x7:AV)(h:H):Option β :=
 zx 8 (.mk (
 f149_J10 l8))<|.mk λj10=>
 zd 0 x1<|.mk λv12=>
 za v12 h<|.mk λv13=>
 zO 2 v13 x3<|.mk λv14=>
 zd 1 v14<|.mk λv15=>
 za v15 h<|.mk λv16=>
 zO 4 v16 x4<|.mk λv17=>
 zM 4 v17 h<|.mk λv18=>
 zaJ 0 [(.int .i64 0),(.int .i64 0),(.int .i64 0),.nils] h<|.mk λv19 h=>
 zu 4 v19 v18 h<|.mk λh=>
 zd 0 v19<|.mk λv20=>
 za v20 h<|.mk λv21=>
 qEql v21 (.int .i64 2)<|.mk λv22=>
 qGrd v22 true h (.mk λh k=>
 zd 1 v19<|.mk λv23=>
 k v23 h)<|.mk λv24 h=>
 qGrd v22 true h (.mk λh k=>
 za v24 h<|.mk λv25=>
 k v25 h)<|.mk λv26 h=>
 qGrd v22 true h (.mk λh k=>
 zd 0 x1<|.mk λv27=>
 k v27 h)<|.mk λv28 h=>
 qGrd v22 true h (.mk λh k=>
 za v28 h<|.mk λv29=>
 k v29 h)<|.mk λv30 h=>
 qGrd v22 true h (.mk λh k=>
 qLenL v30<|.mk λv31=>
 k v31 h)<|.mk λv32 h=>
 qGrd v22 true h (.mk λh k=>
 qGeq v26 v32<|.mk λv33=>
 k v33 h)<|.mk λv34 h=>
 qGrd v22 true h (.mk λh k=>
 k v34 h)<|.mk λv35 h=>
 qGrd v35 false h (.mk λh k=>
 zd 3 v19<|.mk λv36=>
 k v36 h)<|.mk λv37 h=>
 qGrd v35 false h (.mk λh k=>
 za v37 h<|.mk λv38=>
 k v38 h)<|.mk λv39 h=>
 qGrd v35 false h (.mk λh k=>
 qLenL v39<|.mk λv40=>
 k v40 h)<|.mk λv41 h=>
 qGrd v35 false h (.mk λh k=>
 zd 0 x1<|.mk λv42=>
 k v42 h)<|.mk λv43 h=>
 qGrd v35 false h (.mk λh k=>
 za v43 h<|.mk λv44=>
 k v44 h)<|.mk λv45 h=>
 qGrd v35 false h (.mk λh k=>
 zd 1 v19<|.mk λv46=>
 k v46 h)<|.mk λv47 h=>
 qGrd v35 false h (.mk λh k=>
 za v47 h<|.mk λv48=>
 k v48 h)<|.mk λv49 h=>
 qGrd v35 false h (.mk λh k=>
 zO 2 v45 v49<|.mk λv50=>
 k v50 h)<|.mk λv51 h=>
 qGrd v35 false h (.mk λh k=>
 zd 0 v51<|.mk λv52=>
 k v52 h)<|.mk λv53 h=>
 qGrd v35 false h (.mk λh k=>
 za v53 h<|.mk λv54=>
 k v54 h)<|.mk λv55 h=>
 qGrd v35 false h (.mk λh k=>
 qNeq v41 v55<|.mk λv56=>
 k v56 h)<|.mk λv57 h=>
 qGrd v22 true h (.mk λh k=>
 zd0 v35 (.bool true) v57<|.mk λv58=>
 k v58 h)<|.mk λv59 h=>
 zd0 v22 v59 (.bool false)<|.mk λv60=>
 qIf v60 (.mk (
 k (.bool false) h))<|.mk (
 j10 x0 x1 x2 x3 x4 v19 v18 v60 h)
def f149_L8{β:Type}(k:K β)(j5:Cur β 8)(l8:Cur β 8)(x0 x1 x2 x3 x4 x5 x6 x7:AV)(h:H):Option β :=
 zx 8 (.mk (
 f149_J9 k l8))<|.mk λj9=>
 zd 0 x1<|.mk λv61=>
 za v61 h<|.mk λv62=>
 zO 2 v62 x3<|.mk λv63=>
 zd 1 v63<|.mk λv64=>
 za v64 h<|.mk λv65=>
 qLenL v65<|.mk λv66=>
 qLss x4 v66<|.mk λv67=>
 qIf v67 (.mk (
 j9 .any x1 .any x3 x4 .any .any .any h))<|.mk (
 j5 .any x1 .any x3 x4 .any .any .any h)
def f149_J7{β:Type}(N:Nat)(k:K β)(j5:Cur β 8)(x0 x1 x2 x3 x4 x5 x6 x7:AV)(h:H):Option β :=
 (zaR 8 N<|.mk (
 f149_L8 k j5)) x0 x1 x2 x3 (.int .i64 0) x5 x6 x7 h
def f149_J4{β:Type}(N:Nat)(call:zi β)(k:K β)(l3:Cur β 8)(x0 x1 x2 x3 x4 x5 x6 x7:AV)(h:H):Option β :=
 zx 8 (.mk (
 f149_J5 l3))<|.mk λj5=>
 zx 8 (.mk (
 f149_J7 N k j5))<|.mk λj7=>
 zd 0 x1<|.mk λv68=>
 za v68 h<|.mk λv69=>
 zO 2 v69 x3<|.mk λv70=>
 zM 2 v70 h<|.mk λv71=>
 qCall call (.fn 179 []) [v71] h<|.mk λv72 h=>
 qNot v72<|.mk λv73=>
 qIf v73 (.mk (
 k (.bool false) h))<|.mk (
 j7 x0 x1 x2 x3 x4 x5 x6 x7 h)
def f149_L3{β:Type}(N:Nat)(call:zi β)(k:K β)(j2:Cur β 8)(l3:Cur β 8)(x0 x1 x2 x3 x4 x5 x6 x7:AV)(h:H):Option β :=
 zx 8 (.mk (
 f149_J4 N call k l3))<|.mk λj4=>
 zd 0 x1<|.mk λv74=>
 za v74 h<|.mk λv75=>
 qLenL v75<|.mk λv76=>
 qLss x3 v76<|.mk λv77=>
 qIf v77 (.mk (
 j4 .any x1 .any x3 .any .any .any .any h))<|.mk (
 j2 .any x1 .any x3 .any .any .any .any h)
def f149_J1{β:Type}(N:Nat)(call:zi β)(k:K β)(x0 x1 x2 x3 x4 x5 x6 x7:AV)(h:H):Option β :=
 zx 8 (.mk (
 f149_J2 k))<|.mk λj2=>
 (zaR 8 N<|.mk (
 f149_L3 N call k j2)) x0 x1 x2 (.int .i64 0) x4 x5 x6 x7 h
def f149{β:Type}(N:Nat)(call:zi β)(a:List AV)(h:H)(k:K β):Option β :=
 qBox 0 (nth a 0) h<|.mk λv0 h=>
 zx 8 (.mk (
 f149_J1 N call k))<|.mk λj1=>
 zd 0 v0<|.mk λv78=>
 za v78 h<|.mk λv79=>
 qLenL v79<|.mk λv80=>
 qCall call (.fn 30 []) [v80,(.int .i64 1),(.int .i64 8)] h<|.mk λv81 h=>
 qNot v81<|.mk λv82=>
 qOr v82 h (.mk λh k=>
 zd 0 v0<|.mk λv83=>
 za v83 h<|.mk λv84=>
 zO 2 v84 (.int .i64 0)<|.mk λv85=>
 zd 0 v85<|.mk λv86=>
 za v86 h<|.mk λv87=>
 qNeq v87 (.int .i64 0)<|.mk λv88=>
 k v88 h)<|.mk λv89 h=>
 qIf v89 (.mk (
 k (.bool false) h))<|.mk (
 j1 (nth a 0) v0 (.bool false) (nth a 3) (nth a 4) (nth a 5) (nth a 52) (nth a 76) h)
theorem y149:zah I 149 T.s149 N call a h k=f149 N call a h k:=by kernel_rfl
def f157_J2{β:Type}(k:K β)(x0 x1 x2 x3 x4 x5 x6 x7 x8 x9:AV)(h:H):Option β :=
 k (.bool true) h
def f157_J9{β:Type}(l6:Cur β 10)(x0 x1 x2 x3 x4 x5 x6 x7 x8 x9:AV)(h:H):Option β :=
 qAdd x7 (.int .i64 1)<|.mk λv10=>
 l6 x0 x1 x2 x3 x4 x5 x6 v10 x8 x9 h
def f157_J8{β:Type}(call:zi β)(k:K β)(l6:Cur β 10)(x0 x1 x2 x3 x4 x5 x6 x7 x8 x9:AV)(h:H):Option β :=
 zx 10 (.mk (
 f157_J9 l6))<|.mk λj9=>
 zO 2 x5 x7<|.mk λv11=>
 zM 2 v11 h<|.mk λv12=>
 zaJ 0 [(.int .i64 0),.nils] h<|.mk λv13 h=>
 zu 2 v13 v12 h<|.mk λh=>
 zM 2 v13 h<|.mk λv14=>
 qCall call (.fn 187 []) [v14] h<|.mk λv15 h=>
 qNot v15<|.mk λv16=>
 qOr v16 h (.mk λh k=>
 zd 1 v13<|.mk λv17=>
 za v17 h<|.mk λv18=>
 qCall call (.fn 188 []) [v18,x3] h<|.mk λv19 h=>
 k v19 h)<|.mk λv20 h=>
 qIf v20 (.mk (
 k (.bool false) h))<|.mk (
 j9 x0 x1 x2 x3 v13 x5 x6 x7 x8 v12 h)
def f157_L6{β:Type}(call:zi β)(k:K β)(j2:Cur β 10)(l6:Cur β 10)(x0 x1 x2 x3 x4 x5 x6 x7 x8 x9:AV)(h:H):Option β :=
 qLss x7 x6<|.mk λv7=>
 zx 10 (.mk (
 f157_J8 call k l6))<|.mk λj8=>
 qIf v7 (.mk (
 j8 .any .any .any x3 .any x5 x6 x7 v7 .any h))<|.mk (
 j2 .any .any .any x3 .any x5 x6 x7 v7 .any h)
def f157_J1{β:Type}(N:Nat)(call:zi β)(k:K β)(x0 x1 x2 x3 x4 x5 x6 x7 x8 x9:AV)(h:H):Option β :=
 zx 10 (.mk (
 f157_J2 k))<|.mk λj2=>
 zd 0 x1<|.mk λv3=>
 za v3 h<|.mk λv4=>
 qLenL v4<|.mk λv5=>
 (zaR 10 N<|.mk (
 f157_L6 call k j2)) x0 x1 x2 (.fn 186 [x1]) x4 v4 v5 (.int .i64 0) x8 x9 h
def f157{β:Type}(N:Nat)(call:zi β)(a:List AV)(h:H)(k:K β):Option β :=
 qBox 0 (nth a 0) h<|.mk λv0 h=>
 zx 10 (.mk (
 f157_J1 N call k))<|.mk λj1=>
 zd 0 v0<|.mk λv21=>
 za v21 h<|.mk λv22=>
 qLenL v22<|.mk λv23=>
 qEql v23 (.int .i64 0)<|.mk λv24=>
 qOr v24 h (.mk λh k=>
 zd 0 v0<|.mk λv25=>
 za v25 h<|.mk λv26=>
 qLenL v26<|.mk λv27=>
 qGtr v27 (.int .i64 8)<|.mk λv28=>
 k v28 h)<|.mk λv29 h=>
 qOr v29 h (.mk λh k=>
 zd 0 v0<|.mk λv30=>
 za v30 h<|.mk λv31=>
 zO 2 v31 (.int .i64 0)<|.mk λv32=>
 zd 0 v32<|.mk λv33=>
 za v33 h<|.mk λv34=>
 qNeq v34 (.int .i64 0)<|.mk λv35=>
 k v35 h)<|.mk λv36 h=>
 qIf v36 (.mk (
 k (.bool false) h))<|.mk (
 j1 (nth a 0) v0 (.bool false) (nth a 3) (nth a 5) (nth a 26) (nth a 27) (nth a 28) (nth a 29) (nth a 31) h)
theorem y157:zah I 157 T.s157 N call a h k=f157 N call a h k:=by kernel_rfl
def f179_J12{β:Type}(k:K β)(x0 x1 x2 x3 x4 x5 x6 x7 x8 x9 x10 x11 x12:AV)(h:H):Option β :=
 k (.bool true) h
def f179_J19{β:Type}(l17:Cur β 13)(x0 x1 x2 x3 x4 x5 x6 x7 x8 x9 x10 x11 x12:AV)(h:H):Option β :=
 qSub x4 (.int .i64 1)<|.mk λv20=>
 l17 x0 x1 x2 x3 v20 x5 x6 x7 x8 x9 x10 x11 x12 h
def f179_J29{β:Type}(l27:Cur β 13)(x0 x1 x2 x3 x4 x5 x6 x7 x8 x9 x10 x11 x12:AV)(h:H):Option β :=
 qAdd x6 (.int .i64 1)<|.mk λv30=>
 l27 x0 x1 x2 x3 x4 x5 v30 x7 x8 x9 x10 x11 x12 h
def f179_J35{β:Type}(call:zi β)(j29:Cur β 13)(x0 x1 x2 x3 x4 x5 x6 x7 x8 x9 x10 x11 x12:AV)(h:H):Option β :=
 zO 1 x3 x4<|.mk λv36=>
 za v36 h<|.mk λv37=>
 zM 4 x5 h<|.mk λv38=>
 qCall call (.fn 203 []) [v38,x6] h<|.mk λv39 h=>
 za v36 h<|.mk λv40=>
 qChk v40 v37<|.mk (
 qAdd v37 v39<|.mk λv41=>
 zO 1 x3 x7<|.mk λv42=>
 zu 1 v42 v41 h<|.mk λh=>
 j29 x0 x1 x2 x3 x4 x5 x6 x7 x8 x9 x10 x11 x12 h)
def f179_J28{β:Type}(call:zi β)(k:K β)(l27:Cur β 13)(x0 x1 x2 x3 x4 x5 x6 x7 x8 x9 x10 x11 x12:AV)(h:H):Option β :=
 zx 13 (.mk (
 f179_J29 l27))<|.mk λj29=>
 zd 3 x5<|.mk λv31=>
 za v31 h<|.mk λv32=>
 zO 1 v32 x6<|.mk λv33=>
 za v33 h<|.mk λv34=>
 zx 13 (.mk (
 f179_J35 call j29))<|.mk λj35=>
 qSub x4 (.int .i64 1)<|.mk λv43=>
 qCall call (.fn 30 []) [v34,(.int .i64 0),v43] h<|.mk λv44 h=>
 qNot v44<|.mk λv45=>
 qOr v45 h (.mk λh k=>
 zO 1 x3 v34<|.mk λv46=>
 za v46 h<|.mk λv47=>
 qNeq v47 (.int .i64 0)<|.mk λv48=>
 k v48 h)<|.mk λv49 h=>
 qIf v49 (.mk (
 k (.bool false) h))<|.mk (
 j35 x0 x1 x2 x3 x4 x5 x6 v34 x8 x9 x10 x11 x12 h)
def f179_L27{β:Type}(call:zi β)(k:K β)(j19:Cur β 13)(l27:Cur β 13)(x0 x1 x2 x3 x4 x5 x6 x7 x8 x9 x10 x11 x12:AV)(h:H):Option β :=
 zx 13 (.mk (
 f179_J28 call k l27))<|.mk λj28=>
 zd 3 x5<|.mk λv50=>
 za v50 h<|.mk λv51=>
 qLenL v51<|.mk λv52=>
 qLss x6 v52<|.mk λv53=>
 qIf v53 (.mk (
 j28 .any x1 .any x3 x4 x5 x6 .any .any .any .any .any .any h))<|.mk (
 j19 .any x1 .any x3 x4 x5 x6 .any .any .any .any .any .any h)
def f179_J26{β:Type}(N:Nat)(call:zi β)(k:K β)(j19:Cur β 13)(x0 x1 x2 x3 x4 x5 x6 x7 x8 x9 x10 x11 x12:AV)(h:H):Option β :=
 (zaR 13 N<|.mk (
 f179_L27 call k j19)) x0 x1 x2 x3 x4 x5 (.int .i64 0) x7 x8 x9 x10 x11 x12 h
def f179_J18{β:Type}(N:Nat)(call:zi β)(k:K β)(l17:Cur β 13)(x0 x1 x2 x3 x4 x5 x6 x7 x8 x9 x10 x11 x12:AV)(h:H):Option β :=
 zx 13 (.mk (
 f179_J19 l17))<|.mk λj19=>
 zd 1 x1<|.mk λv21=>
 za v21 h<|.mk λv22=>
 zO 4 v22 x4<|.mk λv23=>
 zM 4 v23 h<|.mk λv24=>
 zaJ 0 [(.int .i64 0),(.int .i64 0),(.int .i64 0),.nils] h<|.mk λv25 h=>
 zu 4 v25 v24 h<|.mk λh=>
 zx 13 (.mk (
 f179_J26 N call k j19))<|.mk λj26=>
 zO 1 x3 x4<|.mk λv54=>
 za v54 h<|.mk λv55=>
 qEql v55 (.int .i64 0)<|.mk λv56=>
 qGrd v56 false h (.mk λh k=>
 k x3 h)<|.mk λv57 h=>
 qGrd v56 false h (.mk λh k=>
 k x4 h)<|.mk λv58 h=>
 qGrd v56 false h (.mk λh k=>
 zO 1 v57 v58<|.mk λv59=>
 k v59 h)<|.mk λv60 h=>
 qGrd v56 false h (.mk λh k=>
 za v60 h<|.mk λv61=>
 k v61 h)<|.mk λv62 h=>
 qGrd v56 false h (.mk λh k=>
 qSub v62 (.int .i64 1)<|.mk λv63=>
 k v63 h)<|.mk λv64 h=>
 qGrd v56 false h (.mk λh k=>
 qGtr v64 (.int .i64 8)<|.mk λv65=>
 k v65 h)<|.mk λv66 h=>
 zd0 v56 (.bool true) v66<|.mk λv67=>
 qGrd v67 false h (.mk λh k=>
 zM 4 v25 h<|.mk λv68=>
 k v68 h)<|.mk λv69 h=>
 qGrd v67 false h (.mk λh k=>
 k x3 h)<|.mk λv70 h=>
 qGrd v67 false h (.mk λh k=>
 k x4 h)<|.mk λv71 h=>
 qGrd v67 false h (.mk λh k=>
 zO 1 v70 v71<|.mk λv72=>
 k v72 h)<|.mk λv73 h=>
 qGrd v67 false h (.mk λh k=>
 za v73 h<|.mk λv74=>
 k v74 h)<|.mk λv75 h=>
 qGrd v67 false h (.mk λh k=>
 qSub v75 (.int .i64 1)<|.mk λv76=>
 k v76 h)<|.mk λv77 h=>
 qGrd v67 false h (.mk λh k=>
 qCall call (.fn 202 []) [v69,v77] h<|.mk λv78 h=>
 k v78 h)<|.mk λv79 h=>
 qGrd v67 false h (.mk λh k=>
 qNot v79<|.mk λv80=>
 k v80 h)<|.mk λv81 h=>
 zd0 v67 (.bool true) v81<|.mk λv82=>
 qIf v82 (.mk (
 k (.bool false) h))<|.mk (
 j26 x0 x1 x2 x3 x4 v25 x6 x7 x8 x9 x10 v24 v82 h)
def f179_L17{β:Type}(N:Nat)(call:zi β)(k:K β)(j12:Cur β 13)(l17:Cur β 13)(x0 x1 x2 x3 x4 x5 x6 x7 x8 x9 x10 x11 x12:AV)(h:H):Option β :=
 zx 13 (.mk (
 f179_J18 N call k l17))<|.mk λj18=>
 qGeq x4 (.int .i64 0)<|.mk λv83=>
 qIf v83 (.mk (
 j18 .any x1 .any x3 x4 .any .any .any .any .any .any .any .any h))<|.mk (
 j12 .any x1 .any x3 x4 .any .any .any .any .any .any .any .any h)
def f179_J1{β:Type}(N:Nat)(call:zi β)(k:K β)(x0 x1 x2 x3 x4 x5 x6 x7 x8 x9 x10 x11 x12:AV)(h:H):Option β :=
 zd 1 x1<|.mk λv2=>
 za v2 h<|.mk λv3=>
 qLenL v3<|.mk λv4=>
 zfc 0 [(.int .i64 0)] 8 v4 v4 h<|.mk λv5 h=>
 qLenL v5<|.mk λv6=>
 qSub v6 (.int .i64 1)<|.mk λv7=>
 zd 0 x1<|.mk λv8=>
 za v8 h<|.mk λv9=>
 qAdd v9 (.int .i64 1)<|.mk λv10=>
 zO 1 v5 v7<|.mk λv11=>
 zu 1 v11 v10 h<|.mk λh=>
 zx 13 (.mk (
 f179_J12 k))<|.mk λj12=>
 zd 1 x1<|.mk λv13=>
 za v13 h<|.mk λv14=>
 qLenL v14<|.mk λv15=>
 qSub v15 (.int .i64 1)<|.mk λv16=>
 (zaR 13 N<|.mk (
 f179_L17 N call k j12)) x0 x1 x2 v5 v16 x5 x6 x7 v4 v5 v7 x11 x12 h
def f179{β:Type}(N:Nat)(call:zi β)(a:List AV)(h:H)(k:K β):Option β :=
 qBox 0 (nth a 0) h<|.mk λv0 h=>
 zx 13 (.mk (
 f179_J1 N call k))<|.mk λj1=>
 zd 0 v0<|.mk λv84=>
 za v84 h<|.mk λv85=>
 qCall call (.fn 30 []) [v85,(.int .i64 0),(.int .i64 3)] h<|.mk λv86 h=>
 qNot v86<|.mk λv87=>
 qOr v87 h (.mk λh k=>
 zd 1 v0<|.mk λv88=>
 za v88 h<|.mk λv89=>
 qLenL v89<|.mk λv90=>
 qCall call (.fn 30 []) [v90,(.int .i64 1),(.int .i64 24)] h<|.mk λv91 h=>
 qNot v91<|.mk λv92=>
 k v92 h)<|.mk λv93 h=>
 qIf v93 (.mk (
 k (.bool false) h))<|.mk (
 j1 (nth a 0) v0 (.bool false) (nth a 3) (nth a 4) (nth a 5) (nth a 6) (nth a 7) (nth a 21) (nth a 23) (nth a 26) (nth a 43) (nth a 66) h)
theorem y179:zah I 179 T.s179 N call a h k=f179 N call a h k:=by kernel_rfl
def f186{β:Type}(N:Nat)(call:zi β)(a:List AV)(h:H)(k:K β):Option β :=
 qBox 0 (nth a 0) h<|.mk λv0 h=>
 zd 0 v0<|.mk λv1=>
 za v1 h<|.mk λv2=>
 qEql v2 (.int .i64 2)<|.mk λv3=>
 qGrd v3 true h (.mk λh k=>
 zd 1 v0<|.mk λv4=>
 k v4 h)<|.mk λv5 h=>
 qGrd v3 true h (.mk λh k=>
 za v5 h<|.mk λv6=>
 k v6 h)<|.mk λv7 h=>
 qGrd v3 true h (.mk λh k=>
 zd 0 (nth a 1)<|.mk λv8=>
 k v8 h)<|.mk λv9 h=>
 qGrd v3 true h (.mk λh k=>
 za v9 h<|.mk λv10=>
 k v10 h)<|.mk λv11 h=>
 qGrd v3 true h (.mk λh k=>
 qLenL v11<|.mk λv12=>
 k v12 h)<|.mk λv13 h=>
 qGrd v3 true h (.mk λh k=>
 qGeq v7 v13<|.mk λv14=>
 k v14 h)<|.mk λv15 h=>
 qGrd v3 true h (.mk λh k=>
 k v15 h)<|.mk λv16 h=>
 qGrd v16 false h (.mk λh k=>
 zd 3 v0<|.mk λv17=>
 k v17 h)<|.mk λv18 h=>
 qGrd v16 false h (.mk λh k=>
 za v18 h<|.mk λv19=>
 k v19 h)<|.mk λv20 h=>
 qGrd v16 false h (.mk λh k=>
 qLenL v20<|.mk λv21=>
 k v21 h)<|.mk λv22 h=>
 qGrd v16 false h (.mk λh k=>
 zd 0 (nth a 1)<|.mk λv23=>
 k v23 h)<|.mk λv24 h=>
 qGrd v16 false h (.mk λh k=>
 za v24 h<|.mk λv25=>
 k v25 h)<|.mk λv26 h=>
 qGrd v16 false h (.mk λh k=>
 zd 1 v0<|.mk λv27=>
 k v27 h)<|.mk λv28 h=>
 qGrd v16 false h (.mk λh k=>
 za v28 h<|.mk λv29=>
 k v29 h)<|.mk λv30 h=>
 qGrd v16 false h (.mk λh k=>
 zO 2 v26 v30<|.mk λv31=>
 k v31 h)<|.mk λv32 h=>
 qGrd v16 false h (.mk λh k=>
 zd 0 v32<|.mk λv33=>
 k v33 h)<|.mk λv34 h=>
 qGrd v16 false h (.mk λh k=>
 za v34 h<|.mk λv35=>
 k v35 h)<|.mk λv36 h=>
 qGrd v16 false h (.mk λh k=>
 qNeq v22 v36<|.mk λv37=>
 k v37 h)<|.mk λv38 h=>
 qGrd v3 true h (.mk λh k=>
 zd0 v16 (.bool true) v38<|.mk λv39=>
 k v39 h)<|.mk λv40 h=>
 zd0 v3 v40 (.bool false)<|.mk λv41=>
 k v41 h
theorem y186:zah I 186 T.s186 N call a h k=f186 N call a h k:=by kernel_rfl
def f187_J14{β:Type}(k:K β)(x0 x1 x2 x3 x4 x5 x6 x7 x8 x9 x10 x11 x12 x13 x14 x15 x16 x17 x18 x19 x20 x21:AV)(h:H):Option β :=
 k (.bool true) h
def f187_J17{β:Type}(l15:Cur β 22)(x0 x1 x2 x3 x4 x5 x6 x7 x8 x9 x10 x11 x12 x13 x14 x15 x16 x17 x18 x19 x20 x21:AV)(h:H):Option β :=
 qSub x6 (.int .i64 1)<|.mk λv18=>
 l15 x0 x1 x2 x3 x4 x5 v18 x7 x8 x9 x10 x11 x12 x13 x14 x15 x16 x17 x18 x19 x20 x21 h
def f187_J30{β:Type}(l27:Cur β 22)(x0 x1 x2 x3 x4 x5 x6 x7 x8 x9 x10 x11 x12 x13 x14 x15 x16 x17 x18 x19 x20 x21:AV)(h:H):Option β :=
 qAdd x18 (.int .i64 1)<|.mk λv31=>
 l27 x0 x1 x2 x3 x4 x5 x6 x7 x8 x9 x10 x11 x12 x13 x14 x15 x16 x17 v31 x19 x20 x21 h
def f187_J34{β:Type}(call:zi β)(j30:Cur β 22)(x0 x1 x2 x3 x4 x5 x6 x7 x8 x9 x10 x11 x12 x13 x14 x15 x16 x17 x18 x19 x20 x21:AV)(h:H):Option β :=
 zO 1 x4 x6<|.mk λv35=>
 za v35 h<|.mk λv36=>
 qCall call (.fn 214 []) [x7,x8] h<|.mk λv37 h=>
 za v35 h<|.mk λv38=>
 qChk v38 v36<|.mk (
 qAdd v36 v37<|.mk λv39=>
 zO 1 x4 x9<|.mk λv40=>
 zu 1 v40 v39 h<|.mk λh=>
 j30 x0 x1 x2 x3 x4 x5 x6 x7 x8 x9 x10 x11 x12 x13 x14 x15 x16 x17 x18 x19 x20 x21 h)
def f187_J29{β:Type}(call:zi β)(k:K β)(l27:Cur β 22)(x0 x1 x2 x3 x4 x5 x6 x7 x8 x9 x10 x11 x12 x13 x14 x15 x16 x17 x18 x19 x20 x21:AV)(h:H):Option β :=
 zx 22 (.mk (
 f187_J30 l27))<|.mk λj30=>
 zO 1 x16 x18<|.mk λv32=>
 za v32 h<|.mk λv33=>
 zx 22 (.mk (
 f187_J34 call j30))<|.mk λj34=>
 qLss v33 (.int .i64 0)<|.mk λv41=>
 qOr v41 h (.mk λh k=>
 qGeq v33 x6<|.mk λv42=>
 k v42 h)<|.mk λv43 h=>
 qOr v43 h (.mk λh k=>
 zO 1 x4 v33<|.mk λv44=>
 za v44 h<|.mk λv45=>
 qNeq v45 (.int .i64 (-1))<|.mk λv46=>
 k v46 h)<|.mk λv47 h=>
 qIf v47 (.mk (
 k (.bool false) h))<|.mk (
 j34 x0 x1 x2 x3 x4 x5 x6 x7 x18 v33 x10 x11 x12 x13 x14 x15 x16 x17 x18 x19 x18 v33 h)
def f187_L27{β:Type}(call:zi β)(k:K β)(j17:Cur β 22)(l27:Cur β 22)(x0 x1 x2 x3 x4 x5 x6 x7 x8 x9 x10 x11 x12 x13 x14 x15 x16 x17 x18 x19 x20 x21:AV)(h:H):Option β :=
 qLss x18 x17<|.mk λv28=>
 zx 22 (.mk (
 f187_J29 call k l27))<|.mk λj29=>
 qIf v28 (.mk (
 j29 .any x1 .any .any x4 .any x6 x7 .any .any .any .any .any .any .any .any x16 x17 x18 v28 .any .any h))<|.mk (
 j17 .any x1 .any .any x4 .any x6 x7 .any .any .any .any .any .any .any .any x16 x17 x18 v28 .any .any h)
def f187_J22{β:Type}(N:Nat)(call:zi β)(k:K β)(j17:Cur β 22)(x0 x1 x2 x3 x4 x5 x6 x7 x8 x9 x10 x11 x12 x13 x14 x15 x16 x17 x18 x19 x20 x21:AV)(h:H):Option β :=
 qNil x7<|.mk λv23=>
 zd 3 v23<|.mk λv24=>
 za v24 h<|.mk λv25=>
 qLenL v25<|.mk λv26=>
 (zaR 22 N<|.mk (
 f187_L27 call k j17)) x0 x1 x2 x3 x4 x5 x6 x7 x8 x9 x10 x11 x12 x13 x14 x15 v25 v26 (.int .i64 0) x19 x20 x21 h
def f187_J16{β:Type}(N:Nat)(call:zi β)(k:K β)(l15:Cur β 22)(x0 x1 x2 x3 x4 x5 x6 x7 x8 x9 x10 x11 x12 x13 x14 x15 x16 x17 x18 x19 x20 x21:AV)(h:H):Option β :=
 zx 22 (.mk (
 f187_J17 l15))<|.mk λj17=>
 zd 1 x1<|.mk λv19=>
 za v19 h<|.mk λv20=>
 zO 4 v20 x6<|.mk λv21=>
 zx 22 (.mk (
 f187_J22 N call k j17))<|.mk λj22=>
 zO 1 x4 x6<|.mk λv48=>
 za v48 h<|.mk λv49=>
 qEql v49 (.int .i64 (-1))<|.mk λv50=>
 qOr v50 h (.mk λh k=>
 zO 1 x4 x6<|.mk λv51=>
 za v51 h<|.mk λv52=>
 qGtr v52 (.int .i64 8)<|.mk λv53=>
 k v53 h)<|.mk λv54 h=>
 qOr v54 h (.mk λh k=>
 zO 1 x4 x6<|.mk λv55=>
 za v55 h<|.mk λv56=>
 qCall call (.fn 213 []) [v21,v56] h<|.mk λv57 h=>
 qNot v57<|.mk λv58=>
 k v58 h)<|.mk λv59 h=>
 qIf v59 (.mk (
 k (.bool false) h))<|.mk (
 j22 x0 x1 x2 x3 x4 x5 x6 v21 x8 x9 x10 x11 x12 x13 x14 x15 x16 x17 x18 x19 x20 x21 h)
def f187_L15{β:Type}(N:Nat)(call:zi β)(k:K β)(j14:Cur β 22)(l15:Cur β 22)(x0 x1 x2 x3 x4 x5 x6 x7 x8 x9 x10 x11 x12 x13 x14 x15 x16 x17 x18 x19 x20 x21:AV)(h:H):Option β :=
 zx 22 (.mk (
 f187_J16 N call k l15))<|.mk λj16=>
 qGeq x6 (.int .i64 0)<|.mk λv60=>
 qIf v60 (.mk (
 j16 .any x1 .any .any x4 .any x6 .any .any .any .any .any .any .any .any .any .any .any .any .any .any .any h))<|.mk (
 j14 .any x1 .any .any x4 .any x6 .any .any .any .any .any .any .any .any .any .any .any .any .any .any .any h)
def f187_J10{β:Type}(N:Nat)(call:zi β)(k:K β)(x0 x1 x2 x3 x4 x5 x6 x7 x8 x9 x10 x11 x12 x13 x14 x15 x16 x17 x18 x19 x20 x21:AV)(h:H):Option β :=
 zd 0 x1<|.mk λv11=>
 za v11 h<|.mk λv12=>
 zO 1 x4 x3<|.mk λv13=>
 zu 1 v13 v12 h<|.mk λh=>
 zx 22 (.mk (
 f187_J14 k))<|.mk λj14=>
 (zaR 22 N<|.mk (
 f187_L15 N call k j14)) x0 x1 x2 x3 x4 x5 x3 x7 x8 x9 x10 x11 x12 x13 x4 x3 x16 x17 x18 x19 x20 x21 h
def f187_J64{β:Type}(l61:Cur β 22)(x0 x1 x2 x3 x4 x5 x6 x7 x8 x9 x10 x11 x12 x13 x14 x15 x16 x17 x18 x19 x20 x21:AV)(h:H):Option β :=
 qAdd x12 (.int .i64 1)<|.mk λv65=>
 l61 x0 x1 x2 x3 x4 x5 x6 x7 x8 x9 x10 x11 v65 x13 x14 x15 x16 x17 x18 x19 x20 x21 h
def f187_J63{β:Type}(l61:Cur β 22)(x0 x1 x2 x3 x4 x5 x6 x7 x8 x9 x10 x11 x12 x13 x14 x15 x16 x17 x18 x19 x20 x21:AV)(h:H):Option β :=
 zx 22 (.mk (
 f187_J64 l61))<|.mk λj64=>
 zO 1 x4 x12<|.mk λv66=>
 zu 1 v66 (.int .i64 (-1)) h<|.mk λh=>
 j64 x0 x1 x2 x3 x4 x12 x6 x7 x8 x9 x10 x11 x12 x13 x14 x15 x16 x17 x18 x19 x20 x21 h
def f187_L61{β:Type}(j10:Cur β 22)(l61:Cur β 22)(x0 x1 x2 x3 x4 x5 x6 x7 x8 x9 x10 x11 x12 x13 x14 x15 x16 x17 x18 x19 x20 x21:AV)(h:H):Option β :=
 qLss x12 x11<|.mk λv62=>
 zx 22 (.mk (
 f187_J63 l61))<|.mk λj63=>
 qIf v62 (.mk (
 j63 .any x1 .any x3 x4 .any .any .any .any .any .any x11 x12 v62 .any .any .any .any .any .any .any .any h))<|.mk (
 j10 .any x1 .any x3 x4 .any .any .any .any .any .any x11 x12 v62 .any .any .any .any .any .any .any .any h)
def f187_J5{β:Type}(N:Nat)(call:zi β)(k:K β)(x0 x1 x2 x3 x4 x5 x6 x7 x8 x9 x10 x11 x12 x13 x14 x15 x16 x17 x18 x19 x20 x21:AV)(h:H):Option β :=
 zd 1 x1<|.mk λv6=>
 za v6 h<|.mk λv7=>
 qLenL v7<|.mk λv8=>
 zfc 0 [(.int .i64 0)] 8 v8 v8 h<|.mk λv9 h=>
 zx 22 (.mk (
 f187_J10 N call k))<|.mk λj10=>
 (zaR 22 N<|.mk (
 f187_L61 j10)) x0 x1 x2 x3 v9 x5 x6 x7 x8 x9 v8 x3 (.int .i64 0) x13 x14 x15 x16 x17 x18 x19 x20 x21 h
def f187{β:Type}(N:Nat)(call:zi β)(a:List AV)(h:H)(k:K β):Option β :=
 qBox 0 (nth a 0) h<|.mk λv0 h=>
 zd 1 v0<|.mk λv1=>
 za v1 h<|.mk λv2=>
 qLenL v2<|.mk λv3=>
 qSub v3 (.int .i64 1)<|.mk λv4=>
 zx 22 (.mk (
 f187_J5 N call k))<|.mk λj5=>
 zd 0 v0<|.mk λv67=>
 za v67 h<|.mk λv68=>
 qCall call (.fn 212 []) [v68,(.int .i64 3)] h<|.mk λv69 h=>
 qNot v69<|.mk λv70=>
 qOr v70 h (.mk λh k=>
 qCall call (.fn 212 []) [v4,(.int .i64 23)] h<|.mk λv71 h=>
 qNot v71<|.mk λv72=>
 k v72 h)<|.mk λv73 h=>
 qIf v73 (.mk (
 k (.bool false) h))<|.mk (
 j5 (nth a 0) v0 (.bool false) v4 (nth a 4) (nth a 5) (nth a 6) (nth a 7) (nth a 8) (nth a 9) (nth a 25) (nth a 27) (nth a 28) (nth a 29) (nth a 35) (nth a 36) (nth a 73) (nth a 74) (nth a 75) (nth a 76) (nth a 77) (nth a 79) h)
theorem y187:zah I 187 T.s187 N call a h k=f187 N call a h k:=by kernel_rfl
def f188{β:Type}(N:Nat)(call:zi β)(a:List AV)(h:H)(k:K β):Option β :=
 qCall call (.fn 215 []) [(nth a 0),(nth a 1)] h<|.mk λv0 h=>
 qGeq v0 (.int .i64 0)<|.mk λv1=>
 k v1 h
theorem y188:zah I 188 T.s188 N call a h k=f188 N call a h k:=by kernel_rfl
def f202_J7{β:Type}(k:K β)(x0 x1 x2 x3 x4 x5 x6:AV)(h:H):Option β :=
 k (.bool false) h
def f202{β:Type}(N:Nat)(call:zi β)(a:List AV)(h:H)(k:K β):Option β :=
 qBox 0 (nth a 0) h<|.mk λv0 h=>
 zd 3 v0<|.mk λv1=>
 za v1 h<|.mk λv2=>
 qLenL v2<|.mk λv3=>
 zd 2 v0<|.mk λv4=>
 za v4 h<|.mk λv5=>
 qEql v5 (.int .i64 0)<|.mk λv6=>
 zx 7 (.mk (
 f202_J7 k))<|.mk λj7=>
 zd 0 v0<|.mk λv8=>
 za v8 h<|.mk λv9=>
 qEql v9 (.int .i64 0)<|.mk λv10=>
 qIf v10 (.mk (
 qAnd v6 h (.mk λh k=>
 qEql v3 (.int .i64 0)<|.mk λv11=>
 k v11 h)<|.mk λv12 h=>
 qAnd v12 h (.mk λh k=>
 zd 1 v0<|.mk λv13=>
 za v13 h<|.mk λv14=>
 qCall call (.fn 41 []) [v14] h<|.mk λv15 h=>
 k v15 h)<|.mk λv16 h=>
 k v16 h))<|.mk (
 qEql v9 (.int .i64 1)<|.mk λv17=>
 qIf v17 (.mk (
 qAnd v6 h (.mk λh k=>
 qEql v3 (.int .i64 0)<|.mk λv18=>
 k v18 h)<|.mk λv19 h=>
 qAnd v19 h (.mk λh k=>
 zd 1 v0<|.mk λv20=>
 za v20 h<|.mk λv21=>
 qSub (nth a 1) (.int .i64 1)<|.mk λv22=>
 qCall call (.fn 30 []) [v21,(.int .i64 0),v22] h<|.mk λv23 h=>
 k v23 h)<|.mk λv24 h=>
 k v24 h))<|.mk (
 qEql v9 (.int .i64 2)<|.mk λv25=>
 qIf v25 (.mk (
 qAnd v6 h (.mk λh k=>
 qLeq v3 (.int .i64 3)<|.mk λv26=>
 k v26 h)<|.mk λv27 h=>
 qAnd v27 h (.mk λh k=>
 zd 1 v0<|.mk λv28=>
 za v28 h<|.mk λv29=>
 qCall call (.fn 30 []) [v29,(.int .i64 0),(.int .i64 7)] h<|.mk λv30 h=>
 k v30 h)<|.mk λv31 h=>
 k v31 h))<|.mk (
 qEql v9 (.int .i64 3)<|.mk λv32=>
 qIf v32 (.mk (
 qAnd v6 h (.mk λh k=>
 qLeq v3 (.int .i64 3)<|.mk λv33=>
 k v33 h)<|.mk λv34 h=>
 qAnd v34 h (.mk λh k=>
 zd 1 v0<|.mk λv35=>
 za v35 h<|.mk λv36=>
 qCall call (.fn 30 []) [v36,(.int .i64 0),(.int .i64 99)] h<|.mk λv37 h=>
 k v37 h)<|.mk λv38 h=>
 k v38 h))<|.mk (
 qEql v9 (.int .i64 4)<|.mk λv39=>
 qIf v39 (.mk (
 qAnd v6 h (.mk λh k=>
 qEql v3 (.int .i64 2)<|.mk λv40=>
 k v40 h)<|.mk λv41 h=>
 qAnd v41 h (.mk λh k=>
 zd 1 v0<|.mk λv42=>
 za v42 h<|.mk λv43=>
 qCall call (.fn 30 []) [v43,(.int .i64 0),(.int .i64 4)] h<|.mk λv44 h=>
 k v44 h)<|.mk λv45 h=>
 k v45 h))<|.mk (
 qEql v9 (.int .i64 5)<|.mk λv46=>
 qIf v46 (.mk (
 qEql v3 (.int .i64 3)<|.mk λv47=>
 qAnd v47 h (.mk λh k=>
 zd 1 v0<|.mk λv48=>
 za v48 h<|.mk λv49=>
 qCall call (.fn 30 []) [v49,(.int .i64 0),(.int .i64 99)] h<|.mk λv50 h=>
 k v50 h)<|.mk λv51 h=>
 qAnd v51 h (.mk λh k=>
 zd 2 v0<|.mk λv52=>
 za v52 h<|.mk λv53=>
 qCall call (.fn 30 []) [v53,(.int .i64 0),(.int .i64 3)] h<|.mk λv54 h=>
 k v54 h)<|.mk λv55 h=>
 k v55 h))<|.mk (
 qEql v9 (.int .i64 6)<|.mk λv56=>
 qIf v56 (.mk (
 qAnd v6 h (.mk λh k=>
 qEql v3 (.int .i64 2)<|.mk λv57=>
 k v57 h)<|.mk λv58 h=>
 qAnd v58 h (.mk λh k=>
 zd 1 v0<|.mk λv59=>
 za v59 h<|.mk λv60=>
 qEql v60 (.int .i64 0)<|.mk λv61=>
 k v61 h)<|.mk λv62 h=>
 k v62 h))<|.mk (
 qEql v9 (.int .i64 7)<|.mk λv63=>
 qIf v63 (.mk (
 qAnd v6 h (.mk λh k=>
 qEql v3 (.int .i64 0)<|.mk λv64=>
 k v64 h)<|.mk λv65 h=>
 qAnd v65 h (.mk λh k=>
 zd 1 v0<|.mk λv66=>
 za v66 h<|.mk λv67=>
 qEql v67 (.int .i64 0)<|.mk λv68=>
 k v68 h)<|.mk λv69 h=>
 k v69 h))<|.mk (
 j7 (nth a 0) (nth a 1) v0 (.bool false) v3 v6 v9 h))))))))
theorem y202:zah I 202 T.s202 N call a h k=f202 N call a h k:=by kernel_rfl
def f203_J2{β:Type}(k:K β)(x0 x1 x2 x3:AV)(h:H):Option β :=
 k (.int .i64 0) h
def f203_J1{β:Type}(k:K β)(x0 x1 x2 x3:AV)(h:H):Option β :=
 zx 4 (.mk (
 f203_J2 k))<|.mk λj2=>
 qEql x1 (.int .i64 1)<|.mk λv3=>
 qAnd v3 h (.mk λh k=>
 zd 0 x2<|.mk λv4=>
 za v4 h<|.mk λv5=>
 qEql v5 (.int .i64 6)<|.mk λv6=>
 k v6 h)<|.mk λv7 h=>
 qIf v7 (.mk (
 k (.int .i64 1) h))<|.mk (
 j2 x0 x1 x2 x3 h)
def f203{β:Type}(N:Nat)(call:zi β)(a:List AV)(h:H)(k:K β):Option β :=
 qBox 0 (nth a 0) h<|.mk λv0 h=>
 zx 4 (.mk (
 f203_J1 k))<|.mk λj1=>
 qEql (nth a 1) (.int .i64 1)<|.mk λv8=>
 qAnd v8 h (.mk λh k=>
 zd 0 v0<|.mk λv9=>
 za v9 h<|.mk λv10=>
 qEql v10 (.int .i64 5)<|.mk λv11=>
 k v11 h)<|.mk λv12 h=>
 qIf v12 (.mk (
 zd 2 v0<|.mk λv13=>
 za v13 h<|.mk λv14=>
 k v14 h))<|.mk (
 j1 (nth a 0) (nth a 1) v0 (.int .i64 0) h)
theorem y203:zah I 203 T.s203 N call a h k=f203 N call a h k:=by kernel_rfl
def f212{β:Type}(N:Nat)(call:zi β)(a:List AV)(h:H)(k:K β):Option β :=
 qGeq (nth a 0) (.int .i64 0)<|.mk λv0=>
 qAnd v0 h (.mk λh k=>
 qLeq (nth a 0) (nth a 1)<|.mk λv1=>
 k v1 h)<|.mk λv2 h=>
 k v2 h
theorem y212:zah I 212 T.s212 N call a h k=f212 N call a h k:=by kernel_rfl
def f213_J0{β:Type}(k:K β)(x0 x1 x2 x3:AV)(h:H):Option β :=
 k (.bool false) h
def f213{β:Type}(N:Nat)(call:zi β)(a:List AV)(h:H)(k:K β):Option β :=
 zx 4 (.mk (
 f213_J0 k))<|.mk λj0=>
 qNil (nth a 0)<|.mk λv1=>
 zd 0 v1<|.mk λv2=>
 za v2 h<|.mk λv3=>
 qEql v3 (.int .i64 0)<|.mk λv4=>
 qIf v4 (.mk (
 qNil (nth a 0)<|.mk λv5=>
 zd 1 v5<|.mk λv6=>
 za v6 h<|.mk λv7=>
 qCall call (.fn 28 []) [v7] h<|.mk λv8 h=>
 qAnd v8 h (.mk λh k=>
 qCall call (.fn 229 []) [(nth a 0),(.int .i64 0),(.int .i64 0),(.int .i64 0)] h<|.mk λv9 h=>
 k v9 h)<|.mk λv10 h=>
 k v10 h))<|.mk (
 qEql v3 (.int .i64 1)<|.mk λv11=>
 qIf v11 (.mk (
 qNil (nth a 0)<|.mk λv12=>
 zd 1 v12<|.mk λv13=>
 za v13 h<|.mk λv14=>
 qSub (nth a 1) (.int .i64 1)<|.mk λv15=>
 qCall call (.fn 212 []) [v14,v15] h<|.mk λv16 h=>
 qAnd v16 h (.mk λh k=>
 qCall call (.fn 229 []) [(nth a 0),(.int .i64 0),(.int .i64 0),(.int .i64 0)] h<|.mk λv17 h=>
 k v17 h)<|.mk λv18 h=>
 k v18 h))<|.mk (
 qEql v3 (.int .i64 2)<|.mk λv19=>
 qIf v19 (.mk (
 qNil (nth a 0)<|.mk λv20=>
 zd 1 v20<|.mk λv21=>
 za v21 h<|.mk λv22=>
 qCall call (.fn 212 []) [v22,(.int .i64 7)] h<|.mk λv23 h=>
 qAnd v23 h (.mk λh k=>
 qCall call (.fn 229 []) [(nth a 0),(.int .i64 0),(.int .i64 0),(.int .i64 3)] h<|.mk λv24 h=>
 k v24 h)<|.mk λv25 h=>
 k v25 h))<|.mk (
 qEql v3 (.int .i64 3)<|.mk λv26=>
 qIf v26 (.mk (
 qNil (nth a 0)<|.mk λv27=>
 zd 1 v27<|.mk λv28=>
 za v28 h<|.mk λv29=>
 qCall call (.fn 212 []) [v29,(.int .i64 99)] h<|.mk λv30 h=>
 qAnd v30 h (.mk λh k=>
 qCall call (.fn 229 []) [(nth a 0),(.int .i64 0),(.int .i64 0),(.int .i64 3)] h<|.mk λv31 h=>
 k v31 h)<|.mk λv32 h=>
 k v32 h))<|.mk (
 qEql v3 (.int .i64 4)<|.mk λv33=>
 qIf v33 (.mk (
 qNil (nth a 0)<|.mk λv34=>
 zd 1 v34<|.mk λv35=>
 za v35 h<|.mk λv36=>
 qCall call (.fn 212 []) [v36,(.int .i64 4)] h<|.mk λv37 h=>
 qAnd v37 h (.mk λh k=>
 qCall call (.fn 229 []) [(nth a 0),(.int .i64 0),(.int .i64 2),(.int .i64 2)] h<|.mk λv38 h=>
 k v38 h)<|.mk λv39 h=>
 k v39 h))<|.mk (
 qEql v3 (.int .i64 5)<|.mk λv40=>
 qIf v40 (.mk (
 qNil (nth a 0)<|.mk λv41=>
 zd 1 v41<|.mk λv42=>
 za v42 h<|.mk λv43=>
 qCall call (.fn 212 []) [v43,(.int .i64 99)] h<|.mk λv44 h=>
 qAnd v44 h (.mk λh k=>
 qCall call (.fn 229 []) [(nth a 0),(.int .i64 3),(.int .i64 3),(.int .i64 3)] h<|.mk λv45 h=>
 k v45 h)<|.mk λv46 h=>
 k v46 h))<|.mk (
 qEql v3 (.int .i64 6)<|.mk λv47=>
 qIf v47 (.mk (
 qNil (nth a 0)<|.mk λv48=>
 zd 1 v48<|.mk λv49=>
 za v49 h<|.mk λv50=>
 qEql v50 (.int .i64 0)<|.mk λv51=>
 qAnd v51 h (.mk λh k=>
 qCall call (.fn 229 []) [(nth a 0),(.int .i64 0),(.int .i64 2),(.int .i64 2)] h<|.mk λv52 h=>
 k v52 h)<|.mk λv53 h=>
 k v53 h))<|.mk (
 qEql v3 (.int .i64 7)<|.mk λv54=>
 qIf v54 (.mk (
 qNil (nth a 0)<|.mk λv55=>
 zd 1 v55<|.mk λv56=>
 za v56 h<|.mk λv57=>
 qEql v57 (.int .i64 0)<|.mk λv58=>
 qAnd v58 h (.mk λh k=>
 qCall call (.fn 229 []) [(nth a 0),(.int .i64 0),(.int .i64 0),(.int .i64 0)] h<|.mk λv59 h=>
 k v59 h)<|.mk λv60 h=>
 k v60 h))<|.mk (
 j0 (nth a 0) (nth a 1) (.bool false) v3 h))))))))
theorem y213:zah I 213 T.s213 N call a h k=f213 N call a h k:=by kernel_rfl
def f214_J0{β:Type}(k:K β)(x0 x1 x2:AV)(h:H):Option β :=
 k (.int .i64 0) h
def f214{β:Type}(N:Nat)(call:zi β)(a:List AV)(h:H)(k:K β):Option β :=
 zx 3 (.mk (
 f214_J0 k))<|.mk λj0=>
 qNeq (nth a 1) (.int .i64 1)<|.mk λv1=>
 qIf v1 (.mk (
 k (.int .i64 0) h))<|.mk (
 qNil (nth a 0)<|.mk λv2=>
 zd 0 v2<|.mk λv3=>
 za v3 h<|.mk λv4=>
 qEql v4 (.int .i64 5)<|.mk λv5=>
 qIf v5 (.mk (
 qNil (nth a 0)<|.mk λv6=>
 zd 2 v6<|.mk λv7=>
 za v7 h<|.mk λv8=>
 k v8 h))<|.mk (
 qNil (nth a 0)<|.mk λv9=>
 zd 0 v9<|.mk λv10=>
 za v10 h<|.mk λv11=>
 qEql v11 (.int .i64 6)<|.mk λv12=>
 qIf v12 (.mk (
 k (.int .i64 1) h))<|.mk (
 j0 (nth a 0) (nth a 1) (.int .i64 0) h)))
theorem y214:zah I 214 T.s214 N call a h k=f214 N call a h k:=by kernel_rfl
def f215_J0{β:Type}(k:K β)(x0 x1 x2 x3 x4 x5 x6:AV)(h:H):Option β :=
 k (.int .i64 (-1)) h
def f215_J5{β:Type}(l2:Cur β 7)(x0 x1 x2 x3 x4 x5 x6:AV)(h:H):Option β :=
 qAdd x5 (.int .i64 1)<|.mk λv6=>
 l2 x0 x1 x2 x3 x4 v6 x6 h
def f215_J4{β:Type}(call:zi β)(k:K β)(l2:Cur β 7)(x0 x1 x2 x3 x4 x5 x6:AV)(h:H):Option β :=
 zx 7 (.mk (
 f215_J5 l2))<|.mk λj5=>
 zO 4 x0 x5<|.mk λv7=>
 zM 4 v7 h<|.mk λv8=>
 qCall call x1 [v8] h<|.mk λv9 h=>
 qIf v9 (.mk (
 k x5 h))<|.mk (
 j5 x0 x1 x2 x5 x4 x5 x6 h)
def f215_L2{β:Type}(call:zi β)(k:K β)(j0:Cur β 7)(l2:Cur β 7)(x0 x1 x2 x3 x4 x5 x6:AV)(h:H):Option β :=
 qLss x5 x4<|.mk λv3=>
 zx 7 (.mk (
 f215_J4 call k l2))<|.mk λj4=>
 qIf v3 (.mk (
 j4 x0 x1 .any .any x4 x5 v3 h))<|.mk (
 j0 x0 x1 .any .any x4 x5 v3 h)
def f215{β:Type}(N:Nat)(call:zi β)(a:List AV)(h:H)(k:K β):Option β :=
 zx 7 (.mk (
 f215_J0 k))<|.mk λj0=>
 qLenL (nth a 0)<|.mk λv1=>
 (zaR 7 N<|.mk (
 f215_L2 call k j0)) (nth a 0) (nth a 1) (.int .i64 0) (nth a 5) v1 (.int .i64 0) (nth a 9) h
theorem y215:zah I 215 T.s215 N call a h k=f215 N call a h k:=by kernel_rfl
def f229{β:Type}(N:Nat)(call:zi β)(a:List AV)(h:H)(k:K β):Option β :=
 qNil (nth a 0)<|.mk λv0=>
 zd 2 v0<|.mk λv1=>
 za v1 h<|.mk λv2=>
 qGeq v2 (.int .i64 0)<|.mk λv3=>
 qAnd v3 h (.mk λh k=>
 qNil (nth a 0)<|.mk λv4=>
 zd 2 v4<|.mk λv5=>
 za v5 h<|.mk λv6=>
 qLeq v6 (nth a 1)<|.mk λv7=>
 k v7 h)<|.mk λv8 h=>
 qAnd v8 h (.mk λh k=>
 qNil (nth a 0)<|.mk λv9=>
 zd 3 v9<|.mk λv10=>
 za v10 h<|.mk λv11=>
 qLenL v11<|.mk λv12=>
 qGeq v12 (nth a 2)<|.mk λv13=>
 k v13 h)<|.mk λv14 h=>
 qAnd v14 h (.mk λh k=>
 qNil (nth a 0)<|.mk λv15=>
 zd 3 v15<|.mk λv16=>
 za v16 h<|.mk λv17=>
 qLenL v17<|.mk λv18=>
 qLeq v18 (nth a 3)<|.mk λv19=>
 k v19 h)<|.mk λv20 h=>
 k v20 h
theorem y229:zah I 229 T.s229 N call a h k=f229 N call a h k:=by kernel_rfl
def e149:Ent:=⟨149,T.s149,λ_ _=>f149,λ_=>y149⟩
def e157:Ent:=⟨157,T.s157,λ_ _=>f157,λ_=>y157⟩
def e179:Ent:=⟨179,T.s179,λ_ _=>f179,λ_=>y179⟩
def e186:Ent:=⟨186,T.s186,λ_ _=>f186,λ_=>y186⟩
def e187:Ent:=⟨187,T.s187,λ_ _=>f187,λ_=>y187⟩
def e188:Ent:=⟨188,T.s188,λ_ _=>f188,λ_=>y188⟩
def e202:Ent:=⟨202,T.s202,λ_ _=>f202,λ_=>y202⟩
def e203:Ent:=⟨203,T.s203,λ_ _=>f203,λ_=>y203⟩
def e212:Ent:=⟨212,T.s212,λ_ _=>f212,λ_=>y212⟩
def e213:Ent:=⟨213,T.s213,λ_ _=>f213,λ_=>y213⟩
def e214:Ent:=⟨214,T.s214,λ_ _=>f214,λ_=>y214⟩
def e215:Ent:=⟨215,T.s215,λ_ _=>f215,λ_=>y215⟩
def e229:Ent:=⟨229,T.s229,λ_ _=>f229,λ_=>y229⟩
structure GC (t:ETree):Prop where
 g149:t.get 149=some e149
 g157:t.get 157=some e157
 g179:t.get 179=some e179
 g186:t.get 186=some e186
 g187:t.get 187=some e187
 g188:t.get 188=some e188
 g202:t.get 202=some e202
 g203:t.get 203=some e203
 g212:t.get 212=some e212
 g213:t.get 213=some e213
 g214:t.get 214=some e214
 g215:t.get 215=some e215
 g229:t.get 229=some e229
section
variable {β:Type} {t:ETree} {I:FI} (n:Nat) (a:List AV) (h:H) (k:K β)
theorem GC.c149(T:GC t):ze t I (n+1) (.fn 149 []) a h k=f149 n (ze t I n) a h k:=by rw[cRule T.g149];rfl
theorem GC.c157(T:GC t):ze t I (n+1) (.fn 157 []) a h k=f157 n (ze t I n) a h k:=by rw[cRule T.g157];rfl
theorem GC.c179(T:GC t):ze t I (n+1) (.fn 179 []) a h k=f179 n (ze t I n) a h k:=by rw[cRule T.g179];rfl
theorem GC.c186(T:GC t)(n:Nat)(caps a:List AV)(h:H)(k:K β):ze t I (n+1) (.fn 186 caps) a h k=f186 n (ze t I n) (a++caps) h k:=by rw[zj t I n 186 caps a h k T.g186];rfl
theorem GC.c187(T:GC t):ze t I (n+1) (.fn 187 []) a h k=f187 n (ze t I n) a h k:=by rw[cRule T.g187];rfl
theorem GC.c188(T:GC t):ze t I (n+1) (.fn 188 []) a h k=f188 n (ze t I n) a h k:=by rw[cRule T.g188];rfl
theorem GC.c202(T:GC t):ze t I (n+1) (.fn 202 []) a h k=f202 n (ze t I n) a h k:=by rw[cRule T.g202];rfl
theorem GC.c203(T:GC t):ze t I (n+1) (.fn 203 []) a h k=f203 n (ze t I n) a h k:=by rw[cRule T.g203];rfl
theorem GC.c212(T:GC t):ze t I (n+1) (.fn 212 []) a h k=f212 n (ze t I n) a h k:=by rw[cRule T.g212];rfl
theorem GC.c213(T:GC t):ze t I (n+1) (.fn 213 []) a h k=f213 n (ze t I n) a h k:=by rw[cRule T.g213];rfl
theorem GC.c214(T:GC t):ze t I (n+1) (.fn 214 []) a h k=f214 n (ze t I n) a h k:=by rw[cRule T.g214];rfl
theorem GC.c215(T:GC t):ze t I (n+1) (.fn 215 []) a h k=f215 n (ze t I n) a h k:=by rw[cRule T.g215];rfl
theorem GC.c229(T:GC t):ze t I (n+1) (.fn 229 []) a h k=f229 n (ze t I n) a h k:=by rw[cRule T.g229];rfl
theorem GC.q212(T:GC t):qCall (ze t I (n+1)) (.fn 212 []) a h (.mk k)=f212 n (ze t I n) a h k:=GC.c212 n a h k T
theorem GC.q213(T:GC t):qCall (ze t I (n+1)) (.fn 213 []) a h (.mk k)=f213 n (ze t I n) a h k:=GC.c213 n a h k T
theorem GC.q214(T:GC t):qCall (ze t I (n+1)) (.fn 214 []) a h (.mk k)=f214 n (ze t I n) a h k:=GC.c214 n a h k T
theorem GC.q229(T:GC t):qCall (ze t I (n+1)) (.fn 229 []) a h (.mk k)=f229 n (ze t I n) a h k:=GC.c229 n a h k T
end
end
end Am.F
end
section
namespace Am.T
open Go
def s166:SFn:=.src 31 [0,1,2,3,4] [.tmp 4]<|.seq (.reg [.set 2 (.P 2 (.box 0) [.V 0]),.set 3 (.P 3 (.box 0) [.V 1]),.set 4 (.M 4 (.k (.bool false)))])<|.seq (.reg [.set 4 (.M 4 (.and 24 30 (.and 17 23 (.and 10 16 (.P 9 (.binI .eql) [.P 6 .load1 [.P 5 (.fadr 0) [.V 2]],.P 8 .load1 [.P 7 (.fadr 0) [.V 3]]]) (.P 15 (.binI .eql) [.P 12 .load1 [.P 11 (.fadr 1) [.V 2]],.P 14 .load1 [.P 13 (.fadr 1) [.V 3]]])) (.P 22 (.call 15) [.P 19 .load1 [.P 18 (.fadr 2) [.V 2]],.P 21 .load1 [.P 20 (.fadr 2) [.V 3]]])) (.P 29 (.binS .eql) [.P 26 .load1 [.P 25 (.fadr 3) [.V 2]],.P 28 .load1 [.P 27 (.fadr 3) [.V 3]]])))])<|.ret
def s244:SFn:=.src 26 [0,2,3,4,5,15] [.tmp 1]<|.seq (.reg [.set 1 (.M 2 (.k .nils))])<|.seq (.reg [.set 2 (.M 3 (.k .nils))])<|.seq (.seq (.reg [.set 3 (.M 4 (.I 0))])<|.block 0<|.loop [0,2,3]<|.seq (.ifr [] (.P 9 (.binI .lss) [.W 3 6,.P 8 .lenL [.W 0 7]]) .skip (.exit 0))<|.seq (.block 1<|.seq (.reg [.set 5 (.P 15 (.loadN 4) [.P 14 (.iadr 4) [.W 0 12,.W 3 13]]),.set 4 (.P 5 (.alloc 0 [.int .i64 0,.int .i64 0,.nils,.str []]) []),.ef (.op none (.store 4) [.V 4,.V 5])])<|.seq (.reg [.ef (.opr none (.store 1) (.P 20 (.fadr 2) [.V 4]) (.P 19 (.app 0 1 16) [.P 16 (.bslice 0 [] 0 []) [],.P 18 .load1 [.P 17 (.fadr 2) [.V 4]]]))])<|.reg [.set 2 (.M 3 (.P 24 (.app 0 4 56) [.W 2 21,.P 23 (.bslice 0 [.int .i64 0,.int .i64 0,.nils,.str []] 1 [(0 ,4)]) [.P 22 (.loadN 4) [.V 4]]]))])<|.reg [.set 3 (.M 4 (.P 11 (.binI .add) [.W 3 10,.I 1]))])<|.seq (.reg [.set 1 (.M 2 (.W 2 25))])<|.ret
def s258:SFn:=.src 21 [0,1,2,3,4] [.tmp 2,.tmp 3]<|.seq (.reg [.set 1 (.P 1 (.box 0) [.V 0]),.set 2 (.M 2 (.k (.str []))),.set 3 (.M 3 (.I 0))])<|.seq (.ifr [] (.P 6 .notB [.P 5 (.call 269) [.V 1]]) (.seq (.reg [.set 2 (.M 2 (.k (.str []))),.set 3 (.M 3 (.I 1400))])<|.ret) .skip)<|.seq (.dreg [7,8,9,10,11,12,13,14] [⟨ (some 5),.fadr 0,[.t 1],none⟩,⟨ (some 6),.load1,[.t 5],none⟩,⟨ (some 7),.call 29,[.t 6],none⟩,⟨ (some 8),.binS .add,[.c (.str [102]),.t 7],none⟩,⟨ (some 9),.bslice 0 [.str []] 1 [(0 ,1)],[.t 8],none⟩,⟨ (some 10),.fadr 2,[.t 1],none⟩,⟨ (some 11),.load1,[.t 10],none⟩,⟨ (some 12),.app 0 1 16,[.t 9,.t 11],none⟩,⟨ (some 4),.mov,[.t 12],none⟩] [.op 0,.op 1,.op 5,.op 6,.op 2,.chk 6,.op 3,.op 4,.chk 6,.op 7,.op 8])<|.seq (.reg [.set 2 (.M 2 (.P 20 (.call 42) [.P 19 (.app 0 1 16) [.W 4 15,.P 18 (.bslice 0 [.str [],.str []] 2 [(0 ,1),(1 ,1)]) [.k (.str [61]),.P 17 .load1 [.P 16 (.fadr 3) [.V 1]]]],.k (.str [32])])),.set 3 (.M 3 (.I 0))])<|.ret
def s269:SFn:=.src 37 [0,2] [.tmp 1]<|.seq (.reg [.set 1 (.M 2 (.k (.bool false)))])<|.seq (.reg [.set 1 (.M 2 (.and 30 36 (.and 23 29 (.and 15 22 (.and 8 14 (.P 7 (.binI .geq) [.P 6 .load1 [.P 5 (.fadr 0) [.P 4 .nilCheck [.W 0 3]]],.I 0]) (.P 13 (.binI .lss) [.P 12 .load1 [.P 11 (.fadr 0) [.P 10 .nilCheck [.W 0 9]]],.I 8])) (.P 21 (.binI .leq) [.P 20 .lenL [.P 19 .load1 [.P 18 (.fadr 2) [.P 17 .nilCheck [.W 0 16]]]],.I 3])) (.P 28 (.call 26) [.P 27 .load1 [.P 26 (.fadr 2) [.P 25 .nilCheck [.W 0 24]]]])) (.P 35 (.call 17) [.P 34 .load1 [.P 33 (.fadr 3) [.P 32 .nilCheck [.W 0 31]]]])))])<|.ret
def s295:SFn:=.src 33 [0,1,2,3,4,5] [.tmp 2,.tmp 3]<|.seq (.reg [.set 1 (.P 1 (.box 0) [.V 0]),.set 2 (.M 2 (.k (.str []))),.set 3 (.M 3 (.I 0))])<|.seq (.ifr [] (.P 8 .notB [.P 7 (.call 296) [.P 6 (.loadN 4) [.V 1]]]) (.seq (.reg [.set 2 (.M 2 (.k (.str []))),.set 3 (.M 3 (.I 1400))])<|.ret) .skip)<|.seq (.reg [.set 4 (.M 4 (.P 12 (.binS .add) [.k (.str [102]),.P 11 (.call 22) [.P 10 .load1 [.P 9 (.fadr 0) [.V 1]]]]))])<|.seq (.seq (.reg [.set 5 (.M 5 (.I 0))])<|.block 0<|.loop [1,4,5]<|.seq (.ifr [] (.P 17 (.binI .lss) [.W 5 13,.P 16 .lenL [.P 15 .load1 [.P 14 (.fadr 2) [.V 1]]]]) .skip (.exit 0))<|.seq (.block 1<|.reg [.set 4 (.M 4 (.P 27 (.binS .add) [.P 21 (.binS .add) [.W 4 20,.k (.str [32])],.P 26 .load1 [.P 25 (.iadr 1) [.P 23 .load1 [.P 22 (.fadr 2) [.V 1]],.W 5 24]]]))])<|.reg [.set 5 (.M 5 (.P 19 (.binI .add) [.W 5 18,.I 1]))])<|.seq (.reg [.set 2 (.M 2 (.P 32 (.binS .add) [.P 29 (.binS .add) [.W 4 28,.k (.str [32,61,32])],.P 31 .load1 [.P 30 (.fadr 3) [.V 1]]])),.set 3 (.M 3 (.I 0))])<|.ret
def s296:SFn:=.src 32 [0,1,2,3] [.tmp 2]<|.seq (.reg [.set 1 (.P 1 (.box 0) [.V 0]),.set 2 (.M 2 (.k (.bool false)))])<|.seq (.seq (.reg [.set 3 (.M 3 (.I 0))])<|.block 0<|.loop [1,3]<|.seq (.ifr [] (.P 8 (.binI .lss) [.W 3 4,.P 7 .lenL [.P 6 .load1 [.P 5 (.fadr 2) [.V 1]]]]) .skip (.exit 0))<|.seq (.block 1<|.ifr [] (.P 17 .notB [.P 16 (.call 18) [.P 15 .load1 [.P 14 (.iadr 1) [.P 12 .load1 [.P 11 (.fadr 2) [.V 1]],.W 3 13]]]]) (.seq (.reg [.set 2 (.M 2 (.k (.bool false)))])<|.ret) .skip)<|.reg [.set 3 (.M 3 (.P 10 (.binI .add) [.W 3 9,.I 1]))])<|.seq (.reg [.set 2 (.M 2 (.and 27 31 (.and 21 26 (.P 20 (.call 297) [.P 19 .load1 [.P 18 (.fadr 0) [.V 1]],.I 0,.I 7]) (.P 25 (.binI .leq) [.P 24 .lenL [.P 23 .load1 [.P 22 (.fadr 2) [.V 1]]],.I 3])) (.P 30 (.call 18) [.P 29 .load1 [.P 28 (.fadr 3) [.V 1]]])))])<|.ret
def s297:SFn:=.src 15 [0,1,2,6] [.tmp 3]<|.seq (.reg [.set 3 (.M 6 (.k (.bool false)))])<|.seq (.reg [.set 3 (.M 6 (.and 10 14 (.P 9 (.binI .geq) [.W 0 7,.W 1 8]) (.P 13 (.binI .leq) [.W 0 11,.W 2 12])))])<|.ret
end Am.T
end
section
namespace Am.F
open Go Am
noncomputable section
variable {β:Type} (I:FI) (N:Nat) (call:zi β) (a:List AV) (h:H) (k:K β)
def f166{β:Type}(N:Nat)(call:zi β)(a:List AV)(h:H)(k:K β):Option β :=
 qBox 0 (nth a 0) h<|.mk λv0 h=>
 qBox 0 (nth a 1) h<|.mk λv1 h=>
 zd 0 v0<|.mk λv2=>
 za v2 h<|.mk λv3=>
 zd 0 v1<|.mk λv4=>
 za v4 h<|.mk λv5=>
 qEql v3 v5<|.mk λv6=>
 qAnd v6 h (.mk λh k=>
 zd 1 v0<|.mk λv7=>
 za v7 h<|.mk λv8=>
 zd 1 v1<|.mk λv9=>
 za v9 h<|.mk λv10=>
 qEql v8 v10<|.mk λv11=>
 k v11 h)<|.mk λv12 h=>
 qAnd v12 h (.mk λh k=>
 zd 2 v0<|.mk λv13=>
 za v13 h<|.mk λv14=>
 zd 2 v1<|.mk λv15=>
 za v15 h<|.mk λv16=>
 qCall call (.fn 15 []) [v14,v16] h<|.mk λv17 h=>
 k v17 h)<|.mk λv18 h=>
 qAnd v18 h (.mk λh k=>
 zd 3 v0<|.mk λv19=>
 za v19 h<|.mk λv20=>
 zd 3 v1<|.mk λv21=>
 za v21 h<|.mk λv22=>
 qSEql v20 v22<|.mk λv23=>
 k v23 h)<|.mk λv24 h=>
 k v24 h
theorem y166:zah I 166 T.s166 N call a h k=f166 N call a h k:=by kernel_rfl
def e166:Ent:=⟨166,T.s166,λ_ _=>f166,λ_=>y166⟩
structure GB (t:ETree):Prop where
 g166:t.get 166=some e166
section
variable {β:Type} {t:ETree} {I:FI} (n:Nat) (a:List AV) (h:H) (k:K β)
theorem GB.c166(T:GB t):ze t I (n+1) (.fn 166 []) a h k=f166 n (ze t I n) a h k:=by rw[cRule T.g166];rfl
end
end
end Am.F
end
section
namespace Am.F
open Go Am
structure Nd where
 fn:Int
 parent:Int
 args:List (List UInt8)
 res:List UInt8
def NdAt(h:H)(a:AV)(x:Nd):Prop:=∃v,a = .agg [.int .i64 x.fn,.int .i64 x.parent,v,.str x.res]/\SlAt h v (strs x.args)
def NdIn(h:H)(b:Nat)(v:AV)(x:Nd):Prop:=(h.get b).cells=some [.int .i64 x.fn,.int .i64 x.parent,v,.str x.res]/\b<h.n/\SlAt h v (strs x.args)
theorem NdAt.ext{h h':H}{a:AV}{x:Nd}(hs:NdAt h a x)(e:Ext h h'):NdAt h' a x:=let ⟨v,h1,h2⟩:=hs;⟨v,h1,h2.ext e⟩
theorem NdIn.ext{h h':H}{b:Nat}{v:AV}{x:Nd}(hs:NdIn h b v x)(e:Ext h h'):NdIn h' b v x:=⟨by rw[e.get b hs.2.1];exact hs.1,Nat.lt_of_lt_of_le hs.2.1 e.n,hs.2.2.ext e⟩
def eqMay(x:Nd):Bool:=decide ((0<=x.fn/\x.fn<8)/\x.args.length<=3)&&x.args.all mayP&&mayP x.res
theorem za0{β:Type}(b o:Nat)(k:VK β):qNil (.ptr b o) (.mk k)=k (.ptr b o):=rfl
section
variable {β:Type} {t:ETree}
end
end Am.F
end
section
namespace Am
open Go Go.RowKit F
def zch:Ty:=.st [.int .i64,.int .i64,.sl .str,.str]
theorem zaQ{us:List AV}{a:AV}(h:us.take 1=[a]):us=a::us.drop 1:=by
 cases us with
 | nil=>cases h
 | cons b r=>simp only[List.take_succ_cons,List.take_zero,List.cons.injEq,and_true] at h;rw[h];rfl
theorem Rep.node{S:St}{h:F.H}{us:List AV}{x:Dat}(ha:F.Abs h S)(hr:Rep S zch us x):∃(y:Nd) (no:Bool) (sp:List Dat),NdAt h (.agg us) y/\x = .st [.int y.fn,.int y.parent,.sl no (y.args.map Dat.str) sp,.str y.res] /\
  (no=true->y.args=[])/\(∀z ∈ y.args,z.length<=maxLen)/\y.res.length<=maxLen/\y.args.length<=maxLen:=by
 unfold zch at hr;simp only[Rep,Reps,Ty.size] at hr;obtain⟨ds,rfl,d0,r0,rfl,⟨f,e0,rfl,_⟩,d1,r1,rfl,⟨p,e1,rfl,_⟩,d2,r2,rfl,h2,d3,r3,rfl,⟨s,e3,rfl,hs⟩,e4,rfl⟩:=hr;have u0:=zaQ e0;have u1:=zaQ e1;have u3:=zaQ e3;have hsl:Rep S (.sl .str) ((us.drop 1).drop 1 |>.take 1) d2:=by simp only[Rep,Ty.size];exact h2
 have hone:∃a,((us.drop 1).drop 1).take 1=[a]:=by
  rcases h2 with⟨h,_⟩|⟨_,_,_,_,h,_⟩
  ·exact⟨_,h⟩
  ·exact⟨_,h⟩
 obtain⟨a,e2⟩:=hone;have u2:=zaQ e2;rw[e2] at hsl;obtain⟨no,kids,sp,k1,rfl,k2,k3,k4⟩:=Rep.texts ha hsl;refine⟨⟨f,p,kids,s⟩,no,sp,⟨a,?_,k1⟩,rfl,k2,k3,hs,k4⟩;rw[u0,u1,u2,u3,e4]
end Am
end
section
namespace Am.F
open Go Am
section
variable {β:Type} {t:ETree}
theorem nodeB(f p:Int)(v:AV)(r:List UInt8)(tg:Nat)(h:H)(k:K β):qBox tg (.agg [.int .i64 f,.int .i64 p,v,.str r]) h (.mk k)=k (.ptr h.n 0) (h.push (.own tg [.int .i64 f,.int .i64 p,v,.str r])):=zr tg _ h k
end
end Am.F
end
section
namespace Am.F
open Go Am
theorem zeh{β:Type}{h:H}{lo hi es bytes n:Nat}{v x:AV}{cs new:List AV}{k:K β}{R:Option β}(ho:zbA h lo hi es v cs)(hh:hi<=h.n)(hs:∀c:Nat->List AV->Option β,fSrc es x h c=c n new)
  (hl:new.length=n*es) (hr:cs.length+n<room) (hes:0<es) (hb:bytes<=1024) (hn:n≠0)
  (H1:∀l h',h'.get h.n = .own 0 (cs++new)->h'.n=h.n+1->(cs++new).length=l*es->(∀i,i<h.n->(i<lo\/hi<=i)->h'.get i=h.get i)->k (.sl h.n 0 l l (some es)) h'=R):fApp 0 es bytes v x h k=R:=by
 unfold fApp;rw[hs];rcases ho with⟨rfl,rfl⟩|⟨b,l,rfl,h4,h5,h6,h7,h8⟩
 ·show cond (Nat.beq n 0) _ (cond (Nat.ble (Nat.succ n) room) (cond (Nat.ble bytes 1024) (newB h (.own 0 new) λb h=>k (.sl b 0 n n (some es)) h) none) none)=R;rw[beq_eq,decide_eq_false hn,ble_eq,decide_eq_true (by simp at hr;omega),ble_eq,decide_eq_true hb,zeO];exact H1 n _ (by rw[zf rfl];rfl) (by rw[H.n_push]) (by simpa using hl) λi hi _=>zc (by omega)
 ·have hle:l<=cs.length:=by rw[h7];exact Nat.le_mul_of_pos_right l hes
  simp (disch:=omega) only [zdl,aSl,zW,ble_eq,beq_eq,za9,zbm,Nat.add_eq,Nat.mul_eq,Nat.zero_add,Nat.succ_eq_add_one,zax,zd1,h6,zeo,zcY,zbj,zA,zeO];have e:appF (zbq (l*es) (zbZ 0 cs)) new=cs++new:=by
   rw[za5,zX,zab,List.drop_zero,List.take_of_length_le (by show cs.length<=l*es;omega)]
  rw[e];have:=H1 (l+n) ((h.set b .dead).push (.own 0 (cs++new))) (by rw[zf (by rw[H.n_set])]) (by rw[H.n_push,H.n_set]) (by rw[List.length_append,h7,hl,Nat.add_mul]) λi hi hw=>by
   rw[zc (by rw[H.n_set];omega),zg (by omega)]
  simp only[decide_true,cond_true];exact this
def zhh(x:Nd)(w:AV):List AV:=[.int .i64 x.fn,.int .i64 x.parent,w,.str x.res]
def zgK(h:H)(v:AV)(xs:List Nd):Prop:=(v = .nils/\xs=[])\/∃b o m g us,v = .sl b o xs.length m g/\b<h.n/\(h.get b).cells=some us/\o+xs.length*4<=us.length /\
 ∀j x,xs[j]?=some x->∃w,(us.drop (o+j*4)).take 4=zhh x w/\SlAt h w (strs x.args)
theorem zgK.ext{h h':H}{v:AV}{xs:List Nd}(hs:zgK h v xs)(e:Ext h h'):zgK h' v xs:=by
 rcases hs with hs|⟨b,o,m,g,us,h1,h2,h3,h4,h5⟩
 ·exact .inl hs
 ·refine .inr ⟨b,o,m,g,us,h1,Nat.lt_of_lt_of_le h2 e.n,by rw[e.get b h2];exact h3,h4,λj x hx=>?_⟩;obtain⟨w,h6,h7⟩:=h5 j x hx;exact⟨w,h6,h7.ext e⟩
section
variable {β:Type} {t:ETree}
def zdW(x y:Nd):Bool:=decide (x.fn=y.fn)&&decide (x.parent=y.parent)&&decide (x.args=y.args)&&decide (x.res=y.res)
theorem GB.w166(TB:GB t)(T:GA t)(n:Nat){h:H}{a b:AV}{x y:Nd}(hx:NdAt h a x)(hy:NdAt h b y)(hl:x.args.length<=9223372036854775807)(hn:x.args.length+4<=n) :
  Sp (β:=β) (ze t stdI n (.fn 166 []) [a,b] h) λu h'=>Ext h h'/\u = .bool (zdW x y):=by
 intro k R hk;obtain⟨m,rfl⟩:∃m,n=m+1:=⟨n-1,by omega⟩
 obtain⟨v,rfl,hv⟩:=hx;obtain⟨w,rfl,hw⟩:=hy;rw[TB.c166];unfold f166;simp (disch:=first|omega|simp only[zD]<;>omega|assumption) only[↓zR,↓zRM,zR,zRM,reduceAdd,reduceMul,reduceToNat,nodeB];have e0:Ext h ((h.push (.own 0 [.int .i64 x.fn,.int .i64 x.parent,v,.str x.res])).push (.own 0 [.int .i64 y.fn,.int .i64 y.parent,w,.str y.res])):=((Ext.refl h).push _).push _;have hs15:=λkk:K β=>T.w15 m (hv.ext e0) (hw.ext e0) (by omega) (by omega) kk
 by_cases c1:x.fn=y.fn
 ·by_cases c2:x.parent=y.parent
  ·simp (disch:=first|omega|simp only[zD]<;>omega|assumption) only[↓zR,↓zRM,zR,zRM,reduceAdd,reduceMul,reduceToNat,eq_true c1,eq_true c2,hs15]
   by_cases c3:x.args=y.args
   ·simp (disch:=first|omega|simp only[zD]<;>omega|assumption) only[↓zR,↓zRM,zR,zRM,reduceAdd,reduceMul,reduceToNat,eq_true c3];exact hk _ _ ⟨e0,by unfold zdW;simp[c1,c2,c3]⟩
   ·simp (disch:=first|omega|simp only[zD]<;>omega|assumption) only[↓zR,↓zRM,zR,zRM,reduceAdd,reduceMul,reduceToNat,c3];exact hk _ _ ⟨e0,by unfold zdW;simp[c1,c2,c3]⟩
  ·simp (disch:=first|omega|simp only[zD]<;>omega|assumption) only[↓zR,↓zRM,zR,zRM,reduceAdd,reduceMul,reduceToNat,eq_true c1,c2];exact hk _ _ ⟨e0,by unfold zdW;simp[c1,c2]⟩
 ·simp (disch:=first|omega|simp only[zD]<;>omega|assumption) only[↓zR,↓zRM,zR,zRM,reduceAdd,reduceMul,reduceToNat,c1];exact hk _ _ ⟨e0,by unfold zdW;simp[c1]⟩
theorem zgK.len{h:H}{v:AV}{xs:List Nd}(hs:zgK h v xs)(k:VK β):qLenL v (.mk k)=k (.int .i64 (xs.length:Int)):=by
 rcases hs with⟨rfl,rfl⟩|⟨b,o,m,g,us,rfl,_⟩
 ·exact zdY k
 ·exact zdh _ _ _ _ _ k
end
end Am.F
end
section
namespace Am.F
open Go Am
def LAt{α:Type}(es:Nat)(C:H->List AV->α->Prop)(h:H)(v:AV)(xs:List α):Prop :=
 (v = .nils/\xs=[])\/∃b o m g us,v = .sl b o xs.length m g/\b<h.n/\(h.get b).cells=some us/\o+xs.length*es<=us.length/\∀j x,xs[j]?=some x->C h ((us.drop (o+j*es)).take es) x
def zjl{α:Type}(C:H->List AV->α->Prop):Prop:=∀(h h':H) (cs:List AV) (x:α),C h cs x->Ext h h'->C h' cs x
theorem LAt.ext{α:Type}{es:Nat}{C:H->List AV->α->Prop}(hC:zjl C){h h':H}{v:AV}{xs:List α}(hs:LAt es C h v xs)(e:Ext h h'):LAt es C h' v xs:=by
 rcases hs with hs|⟨b,o,m,g,us,h1,h2,h3,h4,h5⟩
 ·exact .inl hs
 ·exact .inr ⟨b,o,m,g,us,h1,Nat.lt_of_lt_of_le h2 e.n,by rw[e.get b h2];exact h3,h4,λj x hx=>hC _ _ _ _ (h5 j x hx) e⟩
theorem LAt.len{β α:Type}{es:Nat}{C:H->List AV->α->Prop}{h:H}{v:AV}{xs:List α}(hs:LAt es C h v xs)(k:VK β):qLenL v (.mk k)=k (.int .i64 (xs.length:Int)):=by
 rcases hs with⟨rfl,rfl⟩|⟨b,o,m,g,us,rfl,_⟩<;>rfl
theorem LAt.sc{α:Type}{es:Nat}{C:H->List AV->α->Prop}{h:H}{v:AV}{xs:List α}(hs:LAt es C h v xs):v.sc=true:=by
 rcases hs with⟨rfl,_⟩|⟨b,o,m,g,us,rfl,_⟩<;>rfl
def InAt(es:Nat)(h:H)(b o:Nat)(cs:List AV):Prop:=b<h.n/\∃us,(h.get b).cells=some us/\o+es<=us.length/\(us.drop o).take es=cs
theorem InAt.ext{es:Nat}{h h':H}{b o:Nat}{cs:List AV}(hs:InAt es h b o cs)(e:Ext h h'):InAt es h' b o cs:=by
 obtain⟨h1,us,h2,h3⟩:=hs;exact⟨Nat.lt_of_lt_of_le h1 e.n,us,by rw[e.get b h1];exact h2,h3⟩
theorem InAt.own{h:H}{b tag:Nat}{cs:List AV}(hb:b<h.n)(hg:h.get b = .own tag cs):InAt cs.length h b 0 cs:=⟨hb,cs,by rw[hg];rfl,by omega,by rw[List.drop_zero,List.take_length]⟩
theorem InAt.get{es:Nat}{h:H}{b o:Nat}{cs:List AV}(hs:InAt es h b o cs):∃us,(h.get b).cells=some us/\o+es<=us.length/\(us.drop o).take es=cs/\∀i v,cs[i]?=some v->us[o+i]?=some v:=by
 obtain⟨h1,us,h2,h3,rfl⟩:=hs;refine⟨us,h2,h3,rfl,λi v hv=>?_⟩;rw[List.getElem?_take] at hv
 by_cases hi:i<es
 ·rw[if_pos hi,List.getElem?_drop] at hv;exact hv
 ·rw[if_neg hi] at hv;cases hv
theorem LAt.at{β α:Type}{es:Nat}{C:H->List AV->α->Prop}{h:H}{v:AV}{xs:List α}(hs:LAt es C h v xs){j:Nat}{x:α}(hx:xs[j]?=some x) :
  ∃b o cs,(∀k:VK β,zO es v (.int .i64 (j:Int)) (.mk k)=k (.ptr b o))/\InAt es h b o cs/\C h cs x:=by
 rcases hs with⟨_,rfl⟩|⟨b,o,m,g,us,rfl,h2,h3,h4,h5⟩
 ·simp at hx
 ·have hj:=(List.getElem?_eq_some_iff.1 hx).1;have hm:(j+1)*es<=xs.length*es:=Nat.mul_le_mul_right _ hj;rw[Nat.add_mul] at hm;exact⟨b,o+j*es,_,λk=>by rw[zdZ (by omega) (by omega),Int.toNat_natCast],⟨h2,us,h3,by omega,rfl⟩,h5 j x hx⟩
def ints(xs:List Int):List AV:=xs.map (.int .i64)
theorem zL(xs:List Int):(ints xs).length=xs.length:=List.length_map ..
theorem zaT{xs:List Int}{j:Nat}(hj:j<xs.length):(ints xs)[j]?=some (.int .i64 (xs.getD j 0)):=by simp[ints,List.getD_eq_getElem?_getD,hj]
theorem zcl{xs:List Int}{j:Nat}(hj:j<xs.length):(ints xs).getD j (.tup []) = .int .i64 (xs.getD j 0):=by rw[List.getD_eq_getElem?_getD,zaT hj];rfl
theorem zdG(xs:List Int)(j:Nat)(x:Int):(ints xs).set j (.int .i64 x)=ints (xs.set j x):=by simp[ints,List.map_set]
structure Ex where
 kind:Int
 num:Int
 bind:Int
 kids:List Int
deriving DecidableEq
structure Df where
 params:Int
 body:List Ex
deriving DecidableEq
def zG(e:Ex)(w:AV):List AV:=[.int .i64 e.kind,.int .i64 e.num,.int .i64 e.bind,w]
def ExC(h:H)(cs:List AV)(e:Ex):Prop:=∃w,cs=zG e w/\SlAt h w (ints e.kids)
def DfC(h:H)(cs:List AV)(d:Df):Prop:=∃w,cs=[.int .i64 d.params,w]/\LAt 4 ExC h w d.body
def PgAt(h:H)(a:AV)(p:List Df):Prop:=∃v,a = .agg [v]/\LAt 2 DfC h v p
theorem ExC.stays:zjl ExC:=λ_ _ _ _ ⟨w,h1,h2⟩ e=>⟨w,h1,h2.ext e⟩
theorem DfC.stays:zjl DfC:=λ_ _ _ _ ⟨w,h1,h2⟩ e=>⟨w,h1,h2.ext ExC.stays e⟩
theorem PgAt.ext{h h':H}{a:AV}{p:List Df}(hs:PgAt h a p)(e:Ext h h'):PgAt h' a p:=let ⟨v,h1,h2⟩:=hs;⟨v,h1,h2.ext DfC.stays e⟩
def ExIn(h:H)(b o:Nat)(w:AV)(e:Ex):Prop:=InAt 4 h b o (zG e w)/\SlAt h w (ints e.kids)
theorem ExIn.ext{h h':H}{b o:Nat}{w:AV}{e:Ex}(hs:ExIn h b o w e)(x:Ext h h'):ExIn h' b o w e:=⟨hs.1.ext x,hs.2.ext x⟩
theorem ExIn.get{h:H}{b o:Nat}{w:AV}{e:Ex}(hs:ExIn h b o w e)(β:Type):∃us,(h.get b).cells=some us/\(o+4<=us.length)/\(us.drop o).take 4=zG e w /\
  us[o]?=some (.int .i64 e.kind)/\us[o+1]?=some (.int .i64 e.num)/\us[o+2]?=some (.int .i64 e.bind)/\us[o+3]?=some w/\∀k:VK β,qLenL w (.mk k)=k (.int .i64 (e.kids.length:Int)):=by
 obtain⟨us,h1,h2,h3,h4⟩:=hs.1.get;exact⟨us,h1,h2,h3,h4 0 _ rfl,h4 1 _ rfl,h4 2 _ rfl,h4 3 _ rfl,λk=>by rw[hs.2.len,zL]⟩
def Plain(e:Ex)(bind least most:Int):Prop:=0<=e.bind/\e.bind<=bind/\least<=(e.kids.length:Int)/\(e.kids.length:Int)<=most
instance (e:Ex) (b l m:Int):Decidable (Plain e b l m):=by unfold Plain;infer_instance
def zq(e:Ex)(lv:Int):Prop :=
 (e.kind=0/\(-32768<=e.num/\e.num<=32767)/\Plain e 0 0 0)\/(e.kind=1/\(0<=e.num/\e.num<=lv-1)/\Plain e 0 0 0)\/(e.kind=2/\(0<=e.num/\e.num<=7)/\Plain e 0 0 3) \/
 (e.kind=3/\(0<=e.num/\e.num<=99)/\Plain e 0 0 3)\/(e.kind=4/\(0<=e.num/\e.num<=4)/\Plain e 0 2 2)\/(e.kind=5/\(0<=e.num/\e.num<=99)/\Plain e 3 3 3) \/
 (e.kind=6/\e.num=0/\Plain e 0 2 2)\/(e.kind=7/\e.num=0/\Plain e 0 0 0)
instance (e:Ex) (lv:Int):Decidable (zq e lv):=by unfold zq;infer_instance
def more(e:Ex)(k:Int):Int:=if k=1 then (if e.kind=5 then e.bind else if e.kind=6 then 1 else 0) else 0
section
variable {β:Type} {t:ETree}
theorem GC.w212(T:GC t)(n:Nat)(x m:Int)(h:H)(k:K β):qCall (ze t stdI (n+1)) (.fn 212 []) [.int .i64 x,.int .i64 m] h (.mk k)=k (.bool (decide (0<=x/\x<=m))) h:=by
 rw[T.q212];unfold f212
 by_cases h1:0<=x<;>simp (disch:=first|omega|simp only[zD]<;>omega|assumption) only[↓zR,↓zRM,zR,zRM,reduceAdd,reduceMul,reduceToNat,h1]
theorem GC.w229(T:GC t)(n:Nat){h:H}{b o:Nat}{w:AV}{e:Ex}(hx:ExIn h b o w e)(bd ls ms:Int)(k:K β) :
  qCall (ze t stdI (n+1)) (.fn 229 []) [.ptr b o,.int .i64 bd,.int .i64 ls,.int .i64 ms] h (.mk k)=k (.bool (decide (Plain e bd ls ms))) h:=by
 rw[T.q229];unfold f229 Plain;obtain⟨us,fx⟩:=hx.get β
 by_cases h1:0<=e.bind
 ·by_cases h2:e.bind<=bd
  ·by_cases h3:ls<=(e.kids.length:Int)
   ·simp (disch:=first|omega|simp only[zD]<;>omega|assumption) only[↓zR,↓zRM,zR,zRM,reduceAdd,reduceMul,reduceToNat,za0,fx,eq_true h1,eq_true h2,eq_true h3]
   ·simp (disch:=first|omega|simp only[zD]<;>omega|assumption) only[↓zR,↓zRM,zR,zRM,reduceAdd,reduceMul,reduceToNat,za0,fx,eq_true h1,eq_true h2,eq_false h3]
  ·simp (disch:=first|omega|simp only[zD]<;>omega|assumption) only[↓zR,↓zRM,zR,zRM,reduceAdd,reduceMul,reduceToNat,za0,fx,eq_true h1,eq_false h2]
 ·simp (disch:=first|omega|simp only[zD]<;>omega|assumption) only[↓zR,↓zRM,zR,zRM,reduceAdd,reduceMul,reduceToNat,za0,fx,eq_false h1]
theorem GC.w214(T:GC t)(n:Nat){h:H}{b o:Nat}{w:AV}{e:Ex}(hx:ExIn h b o w e)(i:Int)(k:K β) :
  qCall (ze t stdI (n+1)) (.fn 214 []) [.ptr b o,.int .i64 i] h (.mk k)=k (.int .i64 (more e i)) h:=by
 rw[T.q214];unfold f214 more;obtain⟨us,fx⟩:=hx.get β
 by_cases h1:i=1
 ·by_cases h2:e.kind=5
  ·simp (disch:=first|omega|simp only[zD]<;>omega|assumption) only[↓zR,↓zRM,zR,zRM,reduceAdd,reduceMul,reduceToNat,↓f214_J0,za0,fx,eq_true h1,eq_true h2]
  ·by_cases h3:e.kind=6
   ·simp (disch:=first|omega|simp only[zD]<;>omega|assumption) only[↓zR,↓zRM,zR,zRM,reduceAdd,reduceMul,reduceToNat,↓f214_J0,za0,fx,eq_true h1,eq_false h2,eq_true h3]
   ·simp (disch:=first|omega|simp only[zD]<;>omega|assumption) only[↓zR,↓zRM,zR,zRM,reduceAdd,reduceMul,reduceToNat,↓f214_J0,za0,fx,eq_true h1,eq_false h2,eq_false h3]
 ·simp (disch:=first|omega|simp only[zD]<;>omega|assumption) only[↓zR,↓zRM,zR,zRM,reduceAdd,reduceMul,reduceToNat,↓f214_J0,za0,fx,eq_false h1]
end
end Am.F
end
section
namespace Am.F
open Go Am
section
variable {β:Type} {t:ETree}
theorem GC.w213_0(TC:GC t)(T:GA t)(n:Nat){h:H}{b o:Nat}{w:AV}{e:Ex}(hx:ExIn h b o w e)(lv:Int)(hlv:-1<=lv/\lv<=100)(k:K β)  (c0:(e.kind=0)=True) :
  qCall (ze t stdI (n+2)) (.fn 213 []) [.ptr b o,.int .i64 lv] h (.mk k)=k (.bool (decide (zq e lv))) h:=by
 have q:decide (zq e lv)=(decide (-32768<=e.num/\e.num<=32767)&&decide (Plain e 0 0 0)):=by
  rw[Bool.eq_iff_iff,Bool.and_eq_true,decide_eq_true_iff,decide_eq_true_iff,decide_eq_true_iff];unfold zq;simp[of_eq_true c0]
 have hp:∀(a b1 c:Int) (kk:K β),qCall (ze t stdI (n+1)) (.fn 229 []) [.ptr b o,.int .i64 a,.int .i64 b1,.int .i64 c] h (.mk kk)=kk (.bool (decide (Plain e a b1 c))) h:=λa b1 c kk=>TC.w229 n hx a b1 c kk
 obtain⟨us,fx⟩:=hx.get β;rw[TC.q213,q];clear q;unfold f213
 by_cases d:-32768<=e.num/\e.num<=32767
 ·simp (disch:=first|omega|simp only[zD]<;>omega|assumption) only[↓zR,↓zRM,zR,zRM,reduceAdd,reduceMul,reduceToNat,↓f213_J0,za0,fx,c0,T.w28,hp,eq_true d]
 ·simp (disch:=first|omega|simp only[zD]<;>omega|assumption) only[↓zR,↓zRM,zR,zRM,reduceAdd,reduceMul,reduceToNat,↓f213_J0,za0,fx,c0,T.w28,hp,eq_false d]
theorem GC.w213_1(TC:GC t)(T:GA t)(n:Nat){h:H}{b o:Nat}{w:AV}{e:Ex}(hx:ExIn h b o w e)(lv:Int)(hlv:-1<=lv/\lv<=100)(k:K β)(c0:(e.kind=0)=False)(c1:(e.kind=1)=True) :
  qCall (ze t stdI (n+2)) (.fn 213 []) [.ptr b o,.int .i64 lv] h (.mk k)=k (.bool (decide (zq e lv))) h:=by
 have q:decide (zq e lv)=(decide (0<=e.num/\e.num<=lv-1)&&decide (Plain e 0 0 0)):=by
  rw[Bool.eq_iff_iff,Bool.and_eq_true,decide_eq_true_iff,decide_eq_true_iff,decide_eq_true_iff];unfold zq;simp[of_eq_true c1]
 have hp:∀(a b1 c:Int) (kk:K β),qCall (ze t stdI (n+1)) (.fn 229 []) [.ptr b o,.int .i64 a,.int .i64 b1,.int .i64 c] h (.mk kk)=kk (.bool (decide (Plain e a b1 c))) h:=λa b1 c kk=>TC.w229 n hx a b1 c kk
 obtain⟨us,fx⟩:=hx.get β;rw[TC.q213,q];clear q;unfold f213
 by_cases d:0<=e.num/\e.num<=lv-1
 ·simp (disch:=first|omega|simp only[zD]<;>omega|assumption) only[↓zR,↓zRM,zR,zRM,reduceAdd,reduceMul,reduceToNat,↓f213_J0,za0,fx,c0,c1,TC.w212,hp,eq_true d]
 ·simp (disch:=first|omega|simp only[zD]<;>omega|assumption) only[↓zR,↓zRM,zR,zRM,reduceAdd,reduceMul,reduceToNat,↓f213_J0,za0,fx,c0,c1,TC.w212,hp,eq_false d]
theorem GC.w213_2(TC:GC t)(T:GA t)(n:Nat){h:H}{b o:Nat}{w:AV}{e:Ex}(hx:ExIn h b o w e)(lv:Int)(hlv:-1<=lv/\lv<=100)(k:K β)(c0:(e.kind=0)=False)(c1:(e.kind=1)=False)(c2:(e.kind=2)=True) :
  qCall (ze t stdI (n+2)) (.fn 213 []) [.ptr b o,.int .i64 lv] h (.mk k)=k (.bool (decide (zq e lv))) h:=by
 have q:decide (zq e lv)=(decide (0<=e.num/\e.num<=7)&&decide (Plain e 0 0 3)):=by
  rw[Bool.eq_iff_iff,Bool.and_eq_true,decide_eq_true_iff,decide_eq_true_iff,decide_eq_true_iff];unfold zq;simp[of_eq_true c2]
 have hp:∀(a b1 c:Int) (kk:K β),qCall (ze t stdI (n+1)) (.fn 229 []) [.ptr b o,.int .i64 a,.int .i64 b1,.int .i64 c] h (.mk kk)=kk (.bool (decide (Plain e a b1 c))) h:=λa b1 c kk=>TC.w229 n hx a b1 c kk
 obtain⟨us,fx⟩:=hx.get β;rw[TC.q213,q];clear q;unfold f213
 by_cases d:0<=e.num/\e.num<=7
 ·simp (disch:=first|omega|simp only[zD]<;>omega|assumption) only[↓zR,↓zRM,zR,zRM,reduceAdd,reduceMul,reduceToNat,↓f213_J0,za0,fx,c0,c1,c2,TC.w212,hp,eq_true d]
 ·simp (disch:=first|omega|simp only[zD]<;>omega|assumption) only[↓zR,↓zRM,zR,zRM,reduceAdd,reduceMul,reduceToNat,↓f213_J0,za0,fx,c0,c1,c2,TC.w212,hp,eq_false d]
theorem GC.w213_3(TC:GC t)(T:GA t)(n:Nat){h:H}{b o:Nat}{w:AV}{e:Ex}(hx:ExIn h b o w e)(lv:Int)(hlv:-1<=lv/\lv<=100)(k:K β)(c0:(e.kind=0)=False)(c1:(e.kind=1)=False)(c2:(e.kind=2)=False)(c3:(e.kind=3)=True) :
  qCall (ze t stdI (n+2)) (.fn 213 []) [.ptr b o,.int .i64 lv] h (.mk k)=k (.bool (decide (zq e lv))) h:=by
 have q:decide (zq e lv)=(decide (0<=e.num/\e.num<=99)&&decide (Plain e 0 0 3)):=by
  rw[Bool.eq_iff_iff,Bool.and_eq_true,decide_eq_true_iff,decide_eq_true_iff,decide_eq_true_iff];unfold zq;simp[of_eq_true c3]
 have hp:∀(a b1 c:Int) (kk:K β),qCall (ze t stdI (n+1)) (.fn 229 []) [.ptr b o,.int .i64 a,.int .i64 b1,.int .i64 c] h (.mk kk)=kk (.bool (decide (Plain e a b1 c))) h:=λa b1 c kk=>TC.w229 n hx a b1 c kk
 obtain⟨us,fx⟩:=hx.get β;rw[TC.q213,q];clear q;unfold f213
 by_cases d:0<=e.num/\e.num<=99
 ·simp (disch:=first|omega|simp only[zD]<;>omega|assumption) only[↓zR,↓zRM,zR,zRM,reduceAdd,reduceMul,reduceToNat,↓f213_J0,za0,fx,c0,c1,c2,c3,TC.w212,hp,eq_true d]
 ·simp (disch:=first|omega|simp only[zD]<;>omega|assumption) only[↓zR,↓zRM,zR,zRM,reduceAdd,reduceMul,reduceToNat,↓f213_J0,za0,fx,c0,c1,c2,c3,TC.w212,hp,eq_false d]
theorem GC.w213_4(TC:GC t)(T:GA t)(n:Nat){h:H}{b o:Nat}{w:AV}{e:Ex}(hx:ExIn h b o w e)(lv:Int)(hlv:-1<=lv/\lv<=100)(k:K β)(c0:(e.kind=0)=False)(c1:(e.kind=1)=False)(c2:(e.kind=2)=False)(c3:(e.kind=3)=False)(c4:(e.kind=4)=True) :
  qCall (ze t stdI (n+2)) (.fn 213 []) [.ptr b o,.int .i64 lv] h (.mk k)=k (.bool (decide (zq e lv))) h:=by
 have q:decide (zq e lv)=(decide (0<=e.num/\e.num<=4)&&decide (Plain e 0 2 2)):=by
  rw[Bool.eq_iff_iff,Bool.and_eq_true,decide_eq_true_iff,decide_eq_true_iff,decide_eq_true_iff];unfold zq;simp[of_eq_true c4]
 have hp:∀(a b1 c:Int) (kk:K β),qCall (ze t stdI (n+1)) (.fn 229 []) [.ptr b o,.int .i64 a,.int .i64 b1,.int .i64 c] h (.mk kk)=kk (.bool (decide (Plain e a b1 c))) h:=λa b1 c kk=>TC.w229 n hx a b1 c kk
 obtain⟨us,fx⟩:=hx.get β;rw[TC.q213,q];clear q;unfold f213
 by_cases d:0<=e.num/\e.num<=4
 ·simp (disch:=first|omega|simp only[zD]<;>omega|assumption) only[↓zR,↓zRM,zR,zRM,reduceAdd,reduceMul,reduceToNat,↓f213_J0,za0,fx,c0,c1,c2,c3,c4,TC.w212,hp,eq_true d]
 ·simp (disch:=first|omega|simp only[zD]<;>omega|assumption) only[↓zR,↓zRM,zR,zRM,reduceAdd,reduceMul,reduceToNat,↓f213_J0,za0,fx,c0,c1,c2,c3,c4,TC.w212,hp,eq_false d]
theorem GC.w213_5(TC:GC t)(T:GA t)(n:Nat){h:H}{b o:Nat}{w:AV}{e:Ex}(hx:ExIn h b o w e)(lv:Int)(hlv:-1<=lv/\lv<=100)(k:K β)(c0:(e.kind=0)=False)(c1:(e.kind=1)=False)(c2:(e.kind=2)=False)(c3:(e.kind=3)=False)(c4:(e.kind=4)=False)(c5:(e.kind=5)=True) :
  qCall (ze t stdI (n+2)) (.fn 213 []) [.ptr b o,.int .i64 lv] h (.mk k)=k (.bool (decide (zq e lv))) h:=by
 have q:decide (zq e lv)=(decide (0<=e.num/\e.num<=99)&&decide (Plain e 3 3 3)):=by
  rw[Bool.eq_iff_iff,Bool.and_eq_true,decide_eq_true_iff,decide_eq_true_iff,decide_eq_true_iff];unfold zq;simp[of_eq_true c5]
 have hp:∀(a b1 c:Int) (kk:K β),qCall (ze t stdI (n+1)) (.fn 229 []) [.ptr b o,.int .i64 a,.int .i64 b1,.int .i64 c] h (.mk kk)=kk (.bool (decide (Plain e a b1 c))) h:=λa b1 c kk=>TC.w229 n hx a b1 c kk
 obtain⟨us,fx⟩:=hx.get β;rw[TC.q213,q];clear q;unfold f213
 by_cases d:0<=e.num/\e.num<=99
 ·simp (disch:=first|omega|simp only[zD]<;>omega|assumption) only[↓zR,↓zRM,zR,zRM,reduceAdd,reduceMul,reduceToNat,↓f213_J0,za0,fx,c0,c1,c2,c3,c4,c5,TC.w212,hp,eq_true d]
 ·simp (disch:=first|omega|simp only[zD]<;>omega|assumption) only[↓zR,↓zRM,zR,zRM,reduceAdd,reduceMul,reduceToNat,↓f213_J0,za0,fx,c0,c1,c2,c3,c4,c5,TC.w212,hp,eq_false d]
theorem GC.w213_6(TC:GC t)(T:GA t)(n:Nat){h:H}{b o:Nat}{w:AV}{e:Ex}(hx:ExIn h b o w e)(lv:Int)(hlv:-1<=lv/\lv<=100)(k:K β)(c0:(e.kind=0)=False)(c1:(e.kind=1)=False)(c2:(e.kind=2)=False)(c3:(e.kind=3)=False)(c4:(e.kind=4)=False)(c5:(e.kind=5)=False)(c6:(e.kind=6)=True) :
  qCall (ze t stdI (n+2)) (.fn 213 []) [.ptr b o,.int .i64 lv] h (.mk k)=k (.bool (decide (zq e lv))) h:=by
 have q:decide (zq e lv)=(decide (e.num=0)&&decide (Plain e 0 2 2)):=by
  rw[Bool.eq_iff_iff,Bool.and_eq_true,decide_eq_true_iff,decide_eq_true_iff,decide_eq_true_iff];unfold zq;simp[of_eq_true c6]
 have hp:∀(a b1 c:Int) (kk:K β),qCall (ze t stdI (n+1)) (.fn 229 []) [.ptr b o,.int .i64 a,.int .i64 b1,.int .i64 c] h (.mk kk)=kk (.bool (decide (Plain e a b1 c))) h:=λa b1 c kk=>TC.w229 n hx a b1 c kk
 obtain⟨us,fx⟩:=hx.get β;rw[TC.q213,q];clear q;unfold f213
 by_cases d:e.num=0
 ·simp (disch:=first|omega|simp only[zD]<;>omega|assumption) only[↓zR,↓zRM,zR,zRM,reduceAdd,reduceMul,reduceToNat,↓f213_J0,za0,fx,c0,c1,c2,c3,c4,c5,c6,hp,eq_true d]
 ·simp (disch:=first|omega|simp only[zD]<;>omega|assumption) only[↓zR,↓zRM,zR,zRM,reduceAdd,reduceMul,reduceToNat,↓f213_J0,za0,fx,c0,c1,c2,c3,c4,c5,c6,hp,eq_false d]
theorem GC.w213_7(TC:GC t)(T:GA t)(n:Nat){h:H}{b o:Nat}{w:AV}{e:Ex}(hx:ExIn h b o w e)(lv:Int)(hlv:-1<=lv/\lv<=100)(k:K β)(c0:(e.kind=0)=False)(c1:(e.kind=1)=False)(c2:(e.kind=2)=False)(c3:(e.kind=3)=False)(c4:(e.kind=4)=False)(c5:(e.kind=5)=False)(c6:(e.kind=6)=False)(c7:(e.kind=7)=True) :
  qCall (ze t stdI (n+2)) (.fn 213 []) [.ptr b o,.int .i64 lv] h (.mk k)=k (.bool (decide (zq e lv))) h:=by
 have q:decide (zq e lv)=(decide (e.num=0)&&decide (Plain e 0 0 0)):=by
  rw[Bool.eq_iff_iff,Bool.and_eq_true,decide_eq_true_iff,decide_eq_true_iff,decide_eq_true_iff];unfold zq;simp[of_eq_true c7]
 have hp:∀(a b1 c:Int) (kk:K β),qCall (ze t stdI (n+1)) (.fn 229 []) [.ptr b o,.int .i64 a,.int .i64 b1,.int .i64 c] h (.mk kk)=kk (.bool (decide (Plain e a b1 c))) h:=λa b1 c kk=>TC.w229 n hx a b1 c kk
 obtain⟨us,fx⟩:=hx.get β;rw[TC.q213,q];clear q;unfold f213
 by_cases d:e.num=0
 ·simp (disch:=first|omega|simp only[zD]<;>omega|assumption) only[↓zR,↓zRM,zR,zRM,reduceAdd,reduceMul,reduceToNat,↓f213_J0,za0,fx,c0,c1,c2,c3,c4,c5,c6,c7,hp,eq_true d]
 ·simp (disch:=first|omega|simp only[zD]<;>omega|assumption) only[↓zR,↓zRM,zR,zRM,reduceAdd,reduceMul,reduceToNat,↓f213_J0,za0,fx,c0,c1,c2,c3,c4,c5,c6,c7,hp,eq_false d]
theorem GC.w213_8(TC:GC t)(T:GA t)(n:Nat){h:H}{b o:Nat}{w:AV}{e:Ex}(hx:ExIn h b o w e)(lv:Int)(hlv:-1<=lv/\lv<=100)(k:K β)(c0:(e.kind=0)=False)(c1:(e.kind=1)=False)(c2:(e.kind=2)=False)(c3:(e.kind=3)=False)(c4:(e.kind=4)=False)(c5:(e.kind=5)=False)(c6:(e.kind=6)=False)(c7:(e.kind=7)=False) :
  qCall (ze t stdI (n+2)) (.fn 213 []) [.ptr b o,.int .i64 lv] h (.mk k)=k (.bool (decide (zq e lv))) h:=by
 have q:decide (zq e lv)=false:=by
  rw[decide_eq_false_iff_not];unfold zq;simp only[c0,c1,c2,c3,c4,c5,c6,c7,false_and,or_false,not_false_eq_true]
 obtain⟨us,fx⟩:=hx.get β;rw[TC.q213,q];clear q;unfold f213;simp (disch:=first|omega|simp only[zD]<;>omega|assumption) only[↓zR,↓zRM,zR,zRM,reduceAdd,reduceMul,reduceToNat,↓f213_J0,za0,fx,c0,c1,c2,c3,c4,c5,c6,c7]
theorem GC.w213(TC:GC t)(T:GA t)(n:Nat){h:H}{b o:Nat}{w:AV}{e:Ex}(hx:ExIn h b o w e)(lv:Int)(hlv:-1<=lv/\lv<=100)(k:K β) :
  qCall (ze t stdI (n+2)) (.fn 213 []) [.ptr b o,.int .i64 lv] h (.mk k)=k (.bool (decide (zq e lv))) h:=by
 by_cases c0:e.kind=0
 ·exact TC.w213_0 T n hx lv hlv k  (eq_true c0)
 by_cases c1:e.kind=1
 ·exact TC.w213_1 T n hx lv hlv k (eq_false c0) (eq_true c1)
 by_cases c2:e.kind=2
 ·exact TC.w213_2 T n hx lv hlv k (eq_false c0) (eq_false c1) (eq_true c2)
 by_cases c3:e.kind=3
 ·exact TC.w213_3 T n hx lv hlv k (eq_false c0) (eq_false c1) (eq_false c2) (eq_true c3)
 by_cases c4:e.kind=4
 ·exact TC.w213_4 T n hx lv hlv k (eq_false c0) (eq_false c1) (eq_false c2) (eq_false c3) (eq_true c4)
 by_cases c5:e.kind=5
 ·exact TC.w213_5 T n hx lv hlv k (eq_false c0) (eq_false c1) (eq_false c2) (eq_false c3) (eq_false c4) (eq_true c5)
 by_cases c6:e.kind=6
 ·exact TC.w213_6 T n hx lv hlv k (eq_false c0) (eq_false c1) (eq_false c2) (eq_false c3) (eq_false c4) (eq_false c5) (eq_true c6)
 by_cases c7:e.kind=7
 ·exact TC.w213_7 T n hx lv hlv k (eq_false c0) (eq_false c1) (eq_false c2) (eq_false c3) (eq_false c4) (eq_false c5) (eq_false c6) (eq_true c7)
 exact TC.w213_8 T n hx lv hlv k (eq_false c0) (eq_false c1) (eq_false c2) (eq_false c3) (eq_false c4) (eq_false c5) (eq_false c6) (eq_false c7)
theorem GC.w203(TC:GC t)(n:Nat){h:H}{w:AV}{e:Ex}(i:Int) :
  Sp (β:=β) (ze t stdI (n+1) (.fn 203 []) [.agg (zG e w),.int .i64 i] h) λu h'=>Ext h h'/\u = .int .i64 (more e i):=by
 intro k R hk;rw[TC.c203];unfold f203 zG;have hb:∀(a b c w:AV) (hh:H) (kk:K β),qBox 0 (.agg [a,b,c,w]) hh (.mk kk)=kk (.ptr hh.n 0) (hh.push (.own 0 [a,b,c,w])):=λa b c w hh kk=>zr 0 _ hh kk
 by_cases h1:i=1
 ·by_cases h2:e.kind=5
  ·simp (disch:=first|omega|simp only[zD]<;>omega|assumption) only[↓zR,↓zRM,zR,zRM,reduceAdd,reduceMul,reduceToNat,↓f203_J2,↓f203_J1,hb,eq_true h1,eq_true h2];exact hk _ _ ⟨(Ext.refl h).push _,by unfold more;rw[if_pos h1,if_pos h2]⟩
  ·by_cases h3:e.kind=6
   ·simp (disch:=first|omega|simp only[zD]<;>omega|assumption) only[↓zR,↓zRM,zR,zRM,reduceAdd,reduceMul,reduceToNat,↓f203_J2,↓f203_J1,hb,eq_true h1,eq_false h2,eq_true h3];exact hk _ _ ⟨(Ext.refl h).push _,by unfold more;rw[if_pos h1,if_neg h2,if_pos h3]⟩
   ·simp (disch:=first|omega|simp only[zD]<;>omega|assumption) only[↓zR,↓zRM,zR,zRM,reduceAdd,reduceMul,reduceToNat,↓f203_J2,↓f203_J1,hb,eq_true h1,eq_false h2,eq_false h3];exact hk _ _ ⟨(Ext.refl h).push _,by unfold more;rw[if_pos h1,if_neg h2,if_neg h3]⟩
 ·simp (disch:=first|omega|simp only[zD]<;>omega|assumption) only[↓zR,↓zRM,zR,zRM,reduceAdd,reduceMul,reduceToNat,↓f203_J2,↓f203_J1,hb,eq_false h1];exact hk _ _ ⟨(Ext.refl h).push _,by unfold more;rw[if_neg h1]⟩
theorem GC.w202_0(TC:GC t)(T:GA t)(n:Nat){h:H}{w:AV}{e:Ex}(hx:SlAt h w (ints e.kids))(lv:Int)(hlv:-1<=lv/\lv<=100)  (c0:(e.kind=0)=True) :
  Sp (β:=β) (ze t stdI (n+3) (.fn 202 []) [.agg (zG e w),.int .i64 lv] h) λu h'=>Ext h h'/\u = .bool (decide (zq e lv)):=by
 intro k R hk;have hb:∀(a b c w:AV) (hh:H) (kk:K β),qBox 0 (.agg [a,b,c,w]) hh (.mk kk)=kk (.ptr hh.n 0) (hh.push (.own 0 [a,b,c,w])):=λa b c w hh kk=>zr 0 _ hh kk
 have ln:∀kk:VK β,qLenL w (.mk kk)=kk (.int .i64 (e.kids.length:Int)):=λkk=>by rw[hx.len,zL]
 have q:zq e lv↔(-32768<=e.num/\e.num<=32767)/\Plain e 0 0 0:=by
  unfold zq;simp[of_eq_true c0]
 unfold Plain at q;rw[TC.c202];unfold f202 zG
 by_cases d0:e.bind=0
 ·by_cases d1:(e.kids.length:Int)=0
  ·simp (disch:=first|omega|simp only[zD]<;>omega|assumption) only[↓zR,↓zRM,zR,zRM,reduceAdd,reduceMul,reduceToNat,↓f202_J7,hb,ln,c0,T.w41,eq_true d0,eq_true d1];refine hk _ _ ⟨(Ext.refl h).push _,congrArg AV.bool ?_⟩
   first|(refine (decide_eq_true (q.2 ?_)).symm;omega)|(refine (decide_eq_false (λhh=>?_)).symm;have:=q.1 hh;omega)|(refine decide_eq_decide.2 (Iff.trans ?_ q.symm);omega)
  ·simp (disch:=first|omega|simp only[zD]<;>omega|assumption) only[↓zR,↓zRM,zR,zRM,reduceAdd,reduceMul,reduceToNat,↓f202_J7,hb,ln,c0,T.w41,eq_true d0,eq_false d1];refine hk _ _ ⟨(Ext.refl h).push _,congrArg AV.bool ?_⟩
   first|(refine (decide_eq_true (q.2 ?_)).symm;omega)|(refine (decide_eq_false (λhh=>?_)).symm;have:=q.1 hh;omega)|(refine decide_eq_decide.2 (Iff.trans ?_ q.symm);omega)
 ·by_cases d1:(e.kids.length:Int)=0
  ·simp (disch:=first|omega|simp only[zD]<;>omega|assumption) only[↓zR,↓zRM,zR,zRM,reduceAdd,reduceMul,reduceToNat,↓f202_J7,hb,ln,c0,T.w41,eq_false d0,eq_true d1];refine hk _ _ ⟨(Ext.refl h).push _,congrArg AV.bool ?_⟩
   first|(refine (decide_eq_true (q.2 ?_)).symm;omega)|(refine (decide_eq_false (λhh=>?_)).symm;have:=q.1 hh;omega)|(refine decide_eq_decide.2 (Iff.trans ?_ q.symm);omega)
  ·simp (disch:=first|omega|simp only[zD]<;>omega|assumption) only[↓zR,↓zRM,zR,zRM,reduceAdd,reduceMul,reduceToNat,↓f202_J7,hb,ln,c0,T.w41,eq_false d0,eq_false d1];refine hk _ _ ⟨(Ext.refl h).push _,congrArg AV.bool ?_⟩
   first|(refine (decide_eq_true (q.2 ?_)).symm;omega)|(refine (decide_eq_false (λhh=>?_)).symm;have:=q.1 hh;omega)|(refine decide_eq_decide.2 (Iff.trans ?_ q.symm);omega)
theorem GC.w202_1(TC:GC t)(T:GA t)(n:Nat){h:H}{w:AV}{e:Ex}(hx:SlAt h w (ints e.kids))(lv:Int)(hlv:-1<=lv/\lv<=100)(c0:(e.kind=0)=False)(c1:(e.kind=1)=True) :
  Sp (β:=β) (ze t stdI (n+3) (.fn 202 []) [.agg (zG e w),.int .i64 lv] h) λu h'=>Ext h h'/\u = .bool (decide (zq e lv)):=by
 intro k R hk;have hb:∀(a b c w:AV) (hh:H) (kk:K β),qBox 0 (.agg [a,b,c,w]) hh (.mk kk)=kk (.ptr hh.n 0) (hh.push (.own 0 [a,b,c,w])):=λa b c w hh kk=>zr 0 _ hh kk
 have ln:∀kk:VK β,qLenL w (.mk kk)=kk (.int .i64 (e.kids.length:Int)):=λkk=>by rw[hx.len,zL]
 have q:zq e lv↔(0<=e.num/\e.num<=lv-1)/\Plain e 0 0 0:=by
  unfold zq;simp[of_eq_true c1]
 unfold Plain at q;rw[TC.c202];unfold f202 zG
 by_cases d0:e.bind=0
 ·by_cases d1:(e.kids.length:Int)=0
  ·simp (disch:=first|omega|simp only[zD]<;>omega|assumption) only[↓zR,↓zRM,zR,zRM,reduceAdd,reduceMul,reduceToNat,↓f202_J7,hb,ln,c0,c1,T.w30,eq_true d0,eq_true d1];refine hk _ _ ⟨(Ext.refl h).push _,congrArg AV.bool ?_⟩
   first|(refine (decide_eq_true (q.2 ?_)).symm;omega)|(refine (decide_eq_false (λhh=>?_)).symm;have:=q.1 hh;omega)|(refine decide_eq_decide.2 (Iff.trans ?_ q.symm);omega)
  ·simp (disch:=first|omega|simp only[zD]<;>omega|assumption) only[↓zR,↓zRM,zR,zRM,reduceAdd,reduceMul,reduceToNat,↓f202_J7,hb,ln,c0,c1,T.w30,eq_true d0,eq_false d1];refine hk _ _ ⟨(Ext.refl h).push _,congrArg AV.bool ?_⟩
   first|(refine (decide_eq_true (q.2 ?_)).symm;omega)|(refine (decide_eq_false (λhh=>?_)).symm;have:=q.1 hh;omega)|(refine decide_eq_decide.2 (Iff.trans ?_ q.symm);omega)
 ·by_cases d1:(e.kids.length:Int)=0
  ·simp (disch:=first|omega|simp only[zD]<;>omega|assumption) only[↓zR,↓zRM,zR,zRM,reduceAdd,reduceMul,reduceToNat,↓f202_J7,hb,ln,c0,c1,T.w30,eq_false d0,eq_true d1];refine hk _ _ ⟨(Ext.refl h).push _,congrArg AV.bool ?_⟩
   first|(refine (decide_eq_true (q.2 ?_)).symm;omega)|(refine (decide_eq_false (λhh=>?_)).symm;have:=q.1 hh;omega)|(refine decide_eq_decide.2 (Iff.trans ?_ q.symm);omega)
  ·simp (disch:=first|omega|simp only[zD]<;>omega|assumption) only[↓zR,↓zRM,zR,zRM,reduceAdd,reduceMul,reduceToNat,↓f202_J7,hb,ln,c0,c1,T.w30,eq_false d0,eq_false d1];refine hk _ _ ⟨(Ext.refl h).push _,congrArg AV.bool ?_⟩
   first|(refine (decide_eq_true (q.2 ?_)).symm;omega)|(refine (decide_eq_false (λhh=>?_)).symm;have:=q.1 hh;omega)|(refine decide_eq_decide.2 (Iff.trans ?_ q.symm);omega)
theorem GC.w202_2(TC:GC t)(T:GA t)(n:Nat){h:H}{w:AV}{e:Ex}(hx:SlAt h w (ints e.kids))(lv:Int)(hlv:-1<=lv/\lv<=100)(c0:(e.kind=0)=False)(c1:(e.kind=1)=False)(c2:(e.kind=2)=True) :
  Sp (β:=β) (ze t stdI (n+3) (.fn 202 []) [.agg (zG e w),.int .i64 lv] h) λu h'=>Ext h h'/\u = .bool (decide (zq e lv)):=by
 intro k R hk;have hb:∀(a b c w:AV) (hh:H) (kk:K β),qBox 0 (.agg [a,b,c,w]) hh (.mk kk)=kk (.ptr hh.n 0) (hh.push (.own 0 [a,b,c,w])):=λa b c w hh kk=>zr 0 _ hh kk
 have ln:∀kk:VK β,qLenL w (.mk kk)=kk (.int .i64 (e.kids.length:Int)):=λkk=>by rw[hx.len,zL]
 have q:zq e lv↔(0<=e.num/\e.num<=7)/\Plain e 0 0 3:=by
  unfold zq;simp[of_eq_true c2]
 unfold Plain at q;rw[TC.c202];unfold f202 zG
 by_cases d0:e.bind=0
 ·by_cases d1:(e.kids.length:Int)<=3
  ·simp (disch:=first|omega|simp only[zD]<;>omega|assumption) only[↓zR,↓zRM,zR,zRM,reduceAdd,reduceMul,reduceToNat,↓f202_J7,hb,ln,c0,c1,c2,T.w30,eq_true d0,eq_true d1];refine hk _ _ ⟨(Ext.refl h).push _,congrArg AV.bool ?_⟩
   first|(refine (decide_eq_true (q.2 ?_)).symm;omega)|(refine (decide_eq_false (λhh=>?_)).symm;have:=q.1 hh;omega)|(refine decide_eq_decide.2 (Iff.trans ?_ q.symm);omega)
  ·simp (disch:=first|omega|simp only[zD]<;>omega|assumption) only[↓zR,↓zRM,zR,zRM,reduceAdd,reduceMul,reduceToNat,↓f202_J7,hb,ln,c0,c1,c2,T.w30,eq_true d0,eq_false d1];refine hk _ _ ⟨(Ext.refl h).push _,congrArg AV.bool ?_⟩
   first|(refine (decide_eq_true (q.2 ?_)).symm;omega)|(refine (decide_eq_false (λhh=>?_)).symm;have:=q.1 hh;omega)|(refine decide_eq_decide.2 (Iff.trans ?_ q.symm);omega)
 ·by_cases d1:(e.kids.length:Int)<=3
  ·simp (disch:=first|omega|simp only[zD]<;>omega|assumption) only[↓zR,↓zRM,zR,zRM,reduceAdd,reduceMul,reduceToNat,↓f202_J7,hb,ln,c0,c1,c2,T.w30,eq_false d0,eq_true d1];refine hk _ _ ⟨(Ext.refl h).push _,congrArg AV.bool ?_⟩
   first|(refine (decide_eq_true (q.2 ?_)).symm;omega)|(refine (decide_eq_false (λhh=>?_)).symm;have:=q.1 hh;omega)|(refine decide_eq_decide.2 (Iff.trans ?_ q.symm);omega)
  ·simp (disch:=first|omega|simp only[zD]<;>omega|assumption) only[↓zR,↓zRM,zR,zRM,reduceAdd,reduceMul,reduceToNat,↓f202_J7,hb,ln,c0,c1,c2,T.w30,eq_false d0,eq_false d1];refine hk _ _ ⟨(Ext.refl h).push _,congrArg AV.bool ?_⟩
   first|(refine (decide_eq_true (q.2 ?_)).symm;omega)|(refine (decide_eq_false (λhh=>?_)).symm;have:=q.1 hh;omega)|(refine decide_eq_decide.2 (Iff.trans ?_ q.symm);omega)
theorem GC.w202_3(TC:GC t)(T:GA t)(n:Nat){h:H}{w:AV}{e:Ex}(hx:SlAt h w (ints e.kids))(lv:Int)(hlv:-1<=lv/\lv<=100)(c0:(e.kind=0)=False)(c1:(e.kind=1)=False)(c2:(e.kind=2)=False)(c3:(e.kind=3)=True) :
  Sp (β:=β) (ze t stdI (n+3) (.fn 202 []) [.agg (zG e w),.int .i64 lv] h) λu h'=>Ext h h'/\u = .bool (decide (zq e lv)):=by
 intro k R hk;have hb:∀(a b c w:AV) (hh:H) (kk:K β),qBox 0 (.agg [a,b,c,w]) hh (.mk kk)=kk (.ptr hh.n 0) (hh.push (.own 0 [a,b,c,w])):=λa b c w hh kk=>zr 0 _ hh kk
 have ln:∀kk:VK β,qLenL w (.mk kk)=kk (.int .i64 (e.kids.length:Int)):=λkk=>by rw[hx.len,zL]
 have q:zq e lv↔(0<=e.num/\e.num<=99)/\Plain e 0 0 3:=by
  unfold zq;simp[of_eq_true c3]
 unfold Plain at q;rw[TC.c202];unfold f202 zG
 by_cases d0:e.bind=0
 ·by_cases d1:(e.kids.length:Int)<=3
  ·simp (disch:=first|omega|simp only[zD]<;>omega|assumption) only[↓zR,↓zRM,zR,zRM,reduceAdd,reduceMul,reduceToNat,↓f202_J7,hb,ln,c0,c1,c2,c3,T.w30,eq_true d0,eq_true d1];refine hk _ _ ⟨(Ext.refl h).push _,congrArg AV.bool ?_⟩
   first|(refine (decide_eq_true (q.2 ?_)).symm;omega)|(refine (decide_eq_false (λhh=>?_)).symm;have:=q.1 hh;omega)|(refine decide_eq_decide.2 (Iff.trans ?_ q.symm);omega)
  ·simp (disch:=first|omega|simp only[zD]<;>omega|assumption) only[↓zR,↓zRM,zR,zRM,reduceAdd,reduceMul,reduceToNat,↓f202_J7,hb,ln,c0,c1,c2,c3,T.w30,eq_true d0,eq_false d1];refine hk _ _ ⟨(Ext.refl h).push _,congrArg AV.bool ?_⟩
   first|(refine (decide_eq_true (q.2 ?_)).symm;omega)|(refine (decide_eq_false (λhh=>?_)).symm;have:=q.1 hh;omega)|(refine decide_eq_decide.2 (Iff.trans ?_ q.symm);omega)
 ·by_cases d1:(e.kids.length:Int)<=3
  ·simp (disch:=first|omega|simp only[zD]<;>omega|assumption) only[↓zR,↓zRM,zR,zRM,reduceAdd,reduceMul,reduceToNat,↓f202_J7,hb,ln,c0,c1,c2,c3,T.w30,eq_false d0,eq_true d1];refine hk _ _ ⟨(Ext.refl h).push _,congrArg AV.bool ?_⟩
   first|(refine (decide_eq_true (q.2 ?_)).symm;omega)|(refine (decide_eq_false (λhh=>?_)).symm;have:=q.1 hh;omega)|(refine decide_eq_decide.2 (Iff.trans ?_ q.symm);omega)
  ·simp (disch:=first|omega|simp only[zD]<;>omega|assumption) only[↓zR,↓zRM,zR,zRM,reduceAdd,reduceMul,reduceToNat,↓f202_J7,hb,ln,c0,c1,c2,c3,T.w30,eq_false d0,eq_false d1];refine hk _ _ ⟨(Ext.refl h).push _,congrArg AV.bool ?_⟩
   first|(refine (decide_eq_true (q.2 ?_)).symm;omega)|(refine (decide_eq_false (λhh=>?_)).symm;have:=q.1 hh;omega)|(refine decide_eq_decide.2 (Iff.trans ?_ q.symm);omega)
theorem GC.w202_4(TC:GC t)(T:GA t)(n:Nat){h:H}{w:AV}{e:Ex}(hx:SlAt h w (ints e.kids))(lv:Int)(hlv:-1<=lv/\lv<=100)(c0:(e.kind=0)=False)(c1:(e.kind=1)=False)(c2:(e.kind=2)=False)(c3:(e.kind=3)=False)(c4:(e.kind=4)=True) :
  Sp (β:=β) (ze t stdI (n+3) (.fn 202 []) [.agg (zG e w),.int .i64 lv] h) λu h'=>Ext h h'/\u = .bool (decide (zq e lv)):=by
 intro k R hk;have hb:∀(a b c w:AV) (hh:H) (kk:K β),qBox 0 (.agg [a,b,c,w]) hh (.mk kk)=kk (.ptr hh.n 0) (hh.push (.own 0 [a,b,c,w])):=λa b c w hh kk=>zr 0 _ hh kk
 have ln:∀kk:VK β,qLenL w (.mk kk)=kk (.int .i64 (e.kids.length:Int)):=λkk=>by rw[hx.len,zL]
 have q:zq e lv↔(0<=e.num/\e.num<=4)/\Plain e 0 2 2:=by
  unfold zq;simp[of_eq_true c4]
 unfold Plain at q;rw[TC.c202];unfold f202 zG
 by_cases d0:e.bind=0
 ·by_cases d1:(e.kids.length:Int)=2
  ·simp (disch:=first|omega|simp only[zD]<;>omega|assumption) only[↓zR,↓zRM,zR,zRM,reduceAdd,reduceMul,reduceToNat,↓f202_J7,hb,ln,c0,c1,c2,c3,c4,T.w30,eq_true d0,eq_true d1];refine hk _ _ ⟨(Ext.refl h).push _,congrArg AV.bool ?_⟩
   first|(refine (decide_eq_true (q.2 ?_)).symm;omega)|(refine (decide_eq_false (λhh=>?_)).symm;have:=q.1 hh;omega)|(refine decide_eq_decide.2 (Iff.trans ?_ q.symm);omega)
  ·simp (disch:=first|omega|simp only[zD]<;>omega|assumption) only[↓zR,↓zRM,zR,zRM,reduceAdd,reduceMul,reduceToNat,↓f202_J7,hb,ln,c0,c1,c2,c3,c4,T.w30,eq_true d0,eq_false d1];refine hk _ _ ⟨(Ext.refl h).push _,congrArg AV.bool ?_⟩
   first|(refine (decide_eq_true (q.2 ?_)).symm;omega)|(refine (decide_eq_false (λhh=>?_)).symm;have:=q.1 hh;omega)|(refine decide_eq_decide.2 (Iff.trans ?_ q.symm);omega)
 ·by_cases d1:(e.kids.length:Int)=2
  ·simp (disch:=first|omega|simp only[zD]<;>omega|assumption) only[↓zR,↓zRM,zR,zRM,reduceAdd,reduceMul,reduceToNat,↓f202_J7,hb,ln,c0,c1,c2,c3,c4,T.w30,eq_false d0,eq_true d1];refine hk _ _ ⟨(Ext.refl h).push _,congrArg AV.bool ?_⟩
   first|(refine (decide_eq_true (q.2 ?_)).symm;omega)|(refine (decide_eq_false (λhh=>?_)).symm;have:=q.1 hh;omega)|(refine decide_eq_decide.2 (Iff.trans ?_ q.symm);omega)
  ·simp (disch:=first|omega|simp only[zD]<;>omega|assumption) only[↓zR,↓zRM,zR,zRM,reduceAdd,reduceMul,reduceToNat,↓f202_J7,hb,ln,c0,c1,c2,c3,c4,T.w30,eq_false d0,eq_false d1];refine hk _ _ ⟨(Ext.refl h).push _,congrArg AV.bool ?_⟩
   first|(refine (decide_eq_true (q.2 ?_)).symm;omega)|(refine (decide_eq_false (λhh=>?_)).symm;have:=q.1 hh;omega)|(refine decide_eq_decide.2 (Iff.trans ?_ q.symm);omega)
theorem GC.w202_5(TC:GC t)(T:GA t)(n:Nat){h:H}{w:AV}{e:Ex}(hx:SlAt h w (ints e.kids))(lv:Int)(hlv:-1<=lv/\lv<=100)(c0:(e.kind=0)=False)(c1:(e.kind=1)=False)(c2:(e.kind=2)=False)(c3:(e.kind=3)=False)(c4:(e.kind=4)=False)(c5:(e.kind=5)=True) :
  Sp (β:=β) (ze t stdI (n+3) (.fn 202 []) [.agg (zG e w),.int .i64 lv] h) λu h'=>Ext h h'/\u = .bool (decide (zq e lv)):=by
 intro k R hk;have hb:∀(a b c w:AV) (hh:H) (kk:K β),qBox 0 (.agg [a,b,c,w]) hh (.mk kk)=kk (.ptr hh.n 0) (hh.push (.own 0 [a,b,c,w])):=λa b c w hh kk=>zr 0 _ hh kk
 have ln:∀kk:VK β,qLenL w (.mk kk)=kk (.int .i64 (e.kids.length:Int)):=λkk=>by rw[hx.len,zL]
 have q:zq e lv↔(0<=e.num/\e.num<=99)/\Plain e 3 3 3:=by
  unfold zq;simp[of_eq_true c5]
 unfold Plain at q;rw[TC.c202];unfold f202 zG
 by_cases d0:(e.kids.length:Int)=3
 ·by_cases d1:0<=e.num/\e.num<=99
  ·simp (disch:=first|omega|simp only[zD]<;>omega|assumption) only[↓zR,↓zRM,zR,zRM,reduceAdd,reduceMul,reduceToNat,↓f202_J7,hb,ln,c0,c1,c2,c3,c4,c5,T.w30,eq_true d0,eq_true d1];refine hk _ _ ⟨(Ext.refl h).push _,congrArg AV.bool ?_⟩
   first|(refine (decide_eq_true (q.2 ?_)).symm;omega)|(refine (decide_eq_false (λhh=>?_)).symm;have:=q.1 hh;omega)|(refine decide_eq_decide.2 (Iff.trans ?_ q.symm);omega)
  ·simp (disch:=first|omega|simp only[zD]<;>omega|assumption) only[↓zR,↓zRM,zR,zRM,reduceAdd,reduceMul,reduceToNat,↓f202_J7,hb,ln,c0,c1,c2,c3,c4,c5,T.w30,eq_true d0,eq_false d1];refine hk _ _ ⟨(Ext.refl h).push _,congrArg AV.bool ?_⟩
   first|(refine (decide_eq_true (q.2 ?_)).symm;omega)|(refine (decide_eq_false (λhh=>?_)).symm;have:=q.1 hh;omega)|(refine decide_eq_decide.2 (Iff.trans ?_ q.symm);omega)
 ·by_cases d1:0<=e.num/\e.num<=99
  ·simp (disch:=first|omega|simp only[zD]<;>omega|assumption) only[↓zR,↓zRM,zR,zRM,reduceAdd,reduceMul,reduceToNat,↓f202_J7,hb,ln,c0,c1,c2,c3,c4,c5,T.w30,eq_false d0,eq_true d1];refine hk _ _ ⟨(Ext.refl h).push _,congrArg AV.bool ?_⟩
   first|(refine (decide_eq_true (q.2 ?_)).symm;omega)|(refine (decide_eq_false (λhh=>?_)).symm;have:=q.1 hh;omega)|(refine decide_eq_decide.2 (Iff.trans ?_ q.symm);omega)
  ·simp (disch:=first|omega|simp only[zD]<;>omega|assumption) only[↓zR,↓zRM,zR,zRM,reduceAdd,reduceMul,reduceToNat,↓f202_J7,hb,ln,c0,c1,c2,c3,c4,c5,T.w30,eq_false d0,eq_false d1];refine hk _ _ ⟨(Ext.refl h).push _,congrArg AV.bool ?_⟩
   first|(refine (decide_eq_true (q.2 ?_)).symm;omega)|(refine (decide_eq_false (λhh=>?_)).symm;have:=q.1 hh;omega)|(refine decide_eq_decide.2 (Iff.trans ?_ q.symm);omega)
theorem GC.w202_6(TC:GC t)(T:GA t)(n:Nat){h:H}{w:AV}{e:Ex}(hx:SlAt h w (ints e.kids))(lv:Int)(hlv:-1<=lv/\lv<=100)(c0:(e.kind=0)=False)(c1:(e.kind=1)=False)(c2:(e.kind=2)=False)(c3:(e.kind=3)=False)(c4:(e.kind=4)=False)(c5:(e.kind=5)=False)(c6:(e.kind=6)=True) :
  Sp (β:=β) (ze t stdI (n+3) (.fn 202 []) [.agg (zG e w),.int .i64 lv] h) λu h'=>Ext h h'/\u = .bool (decide (zq e lv)):=by
 intro k R hk;have hb:∀(a b c w:AV) (hh:H) (kk:K β),qBox 0 (.agg [a,b,c,w]) hh (.mk kk)=kk (.ptr hh.n 0) (hh.push (.own 0 [a,b,c,w])):=λa b c w hh kk=>zr 0 _ hh kk
 have ln:∀kk:VK β,qLenL w (.mk kk)=kk (.int .i64 (e.kids.length:Int)):=λkk=>by rw[hx.len,zL]
 have q:zq e lv↔(e.num=0)/\Plain e 0 2 2:=by
  unfold zq;simp[of_eq_true c6]
 unfold Plain at q;rw[TC.c202];unfold f202 zG
 by_cases d0:e.bind=0
 ·by_cases d1:(e.kids.length:Int)=2
  ·by_cases d2:e.num=0
   ·simp (disch:=first|omega|simp only[zD]<;>omega|assumption) only[↓zR,↓zRM,zR,zRM,reduceAdd,reduceMul,reduceToNat,↓f202_J7,hb,ln,c0,c1,c2,c3,c4,c5,c6,T.w30,eq_true d0,eq_true d1,eq_true d2];refine hk _ _ ⟨(Ext.refl h).push _,congrArg AV.bool ?_⟩
    first|(refine (decide_eq_true (q.2 ?_)).symm;omega)|(refine (decide_eq_false (λhh=>?_)).symm;have:=q.1 hh;omega)|(refine decide_eq_decide.2 (Iff.trans ?_ q.symm);omega)
   ·simp (disch:=first|omega|simp only[zD]<;>omega|assumption) only[↓zR,↓zRM,zR,zRM,reduceAdd,reduceMul,reduceToNat,↓f202_J7,hb,ln,c0,c1,c2,c3,c4,c5,c6,T.w30,eq_true d0,eq_true d1,eq_false d2];refine hk _ _ ⟨(Ext.refl h).push _,congrArg AV.bool ?_⟩
    first|(refine (decide_eq_true (q.2 ?_)).symm;omega)|(refine (decide_eq_false (λhh=>?_)).symm;have:=q.1 hh;omega)|(refine decide_eq_decide.2 (Iff.trans ?_ q.symm);omega)
  ·by_cases d2:e.num=0
   ·simp (disch:=first|omega|simp only[zD]<;>omega|assumption) only[↓zR,↓zRM,zR,zRM,reduceAdd,reduceMul,reduceToNat,↓f202_J7,hb,ln,c0,c1,c2,c3,c4,c5,c6,T.w30,eq_true d0,eq_false d1,eq_true d2];refine hk _ _ ⟨(Ext.refl h).push _,congrArg AV.bool ?_⟩
    first|(refine (decide_eq_true (q.2 ?_)).symm;omega)|(refine (decide_eq_false (λhh=>?_)).symm;have:=q.1 hh;omega)|(refine decide_eq_decide.2 (Iff.trans ?_ q.symm);omega)
   ·simp (disch:=first|omega|simp only[zD]<;>omega|assumption) only[↓zR,↓zRM,zR,zRM,reduceAdd,reduceMul,reduceToNat,↓f202_J7,hb,ln,c0,c1,c2,c3,c4,c5,c6,T.w30,eq_true d0,eq_false d1,eq_false d2];refine hk _ _ ⟨(Ext.refl h).push _,congrArg AV.bool ?_⟩
    first|(refine (decide_eq_true (q.2 ?_)).symm;omega)|(refine (decide_eq_false (λhh=>?_)).symm;have:=q.1 hh;omega)|(refine decide_eq_decide.2 (Iff.trans ?_ q.symm);omega)
 ·by_cases d1:(e.kids.length:Int)=2
  ·by_cases d2:e.num=0
   ·simp (disch:=first|omega|simp only[zD]<;>omega|assumption) only[↓zR,↓zRM,zR,zRM,reduceAdd,reduceMul,reduceToNat,↓f202_J7,hb,ln,c0,c1,c2,c3,c4,c5,c6,T.w30,eq_false d0,eq_true d1,eq_true d2];refine hk _ _ ⟨(Ext.refl h).push _,congrArg AV.bool ?_⟩
    first|(refine (decide_eq_true (q.2 ?_)).symm;omega)|(refine (decide_eq_false (λhh=>?_)).symm;have:=q.1 hh;omega)|(refine decide_eq_decide.2 (Iff.trans ?_ q.symm);omega)
   ·simp (disch:=first|omega|simp only[zD]<;>omega|assumption) only[↓zR,↓zRM,zR,zRM,reduceAdd,reduceMul,reduceToNat,↓f202_J7,hb,ln,c0,c1,c2,c3,c4,c5,c6,T.w30,eq_false d0,eq_true d1,eq_false d2];refine hk _ _ ⟨(Ext.refl h).push _,congrArg AV.bool ?_⟩
    first|(refine (decide_eq_true (q.2 ?_)).symm;omega)|(refine (decide_eq_false (λhh=>?_)).symm;have:=q.1 hh;omega)|(refine decide_eq_decide.2 (Iff.trans ?_ q.symm);omega)
  ·by_cases d2:e.num=0
   ·simp (disch:=first|omega|simp only[zD]<;>omega|assumption) only[↓zR,↓zRM,zR,zRM,reduceAdd,reduceMul,reduceToNat,↓f202_J7,hb,ln,c0,c1,c2,c3,c4,c5,c6,T.w30,eq_false d0,eq_false d1,eq_true d2];refine hk _ _ ⟨(Ext.refl h).push _,congrArg AV.bool ?_⟩
    first|(refine (decide_eq_true (q.2 ?_)).symm;omega)|(refine (decide_eq_false (λhh=>?_)).symm;have:=q.1 hh;omega)|(refine decide_eq_decide.2 (Iff.trans ?_ q.symm);omega)
   ·simp (disch:=first|omega|simp only[zD]<;>omega|assumption) only[↓zR,↓zRM,zR,zRM,reduceAdd,reduceMul,reduceToNat,↓f202_J7,hb,ln,c0,c1,c2,c3,c4,c5,c6,T.w30,eq_false d0,eq_false d1,eq_false d2];refine hk _ _ ⟨(Ext.refl h).push _,congrArg AV.bool ?_⟩
    first|(refine (decide_eq_true (q.2 ?_)).symm;omega)|(refine (decide_eq_false (λhh=>?_)).symm;have:=q.1 hh;omega)|(refine decide_eq_decide.2 (Iff.trans ?_ q.symm);omega)
theorem GC.w202_7(TC:GC t)(T:GA t)(n:Nat){h:H}{w:AV}{e:Ex}(hx:SlAt h w (ints e.kids))(lv:Int)(hlv:-1<=lv/\lv<=100)(c0:(e.kind=0)=False)(c1:(e.kind=1)=False)(c2:(e.kind=2)=False)(c3:(e.kind=3)=False)(c4:(e.kind=4)=False)(c5:(e.kind=5)=False)(c6:(e.kind=6)=False)(c7:(e.kind=7)=True) :
  Sp (β:=β) (ze t stdI (n+3) (.fn 202 []) [.agg (zG e w),.int .i64 lv] h) λu h'=>Ext h h'/\u = .bool (decide (zq e lv)):=by
 intro k R hk;have hb:∀(a b c w:AV) (hh:H) (kk:K β),qBox 0 (.agg [a,b,c,w]) hh (.mk kk)=kk (.ptr hh.n 0) (hh.push (.own 0 [a,b,c,w])):=λa b c w hh kk=>zr 0 _ hh kk
 have ln:∀kk:VK β,qLenL w (.mk kk)=kk (.int .i64 (e.kids.length:Int)):=λkk=>by rw[hx.len,zL]
 have q:zq e lv↔(e.num=0)/\Plain e 0 0 0:=by
  unfold zq;simp[of_eq_true c7]
 unfold Plain at q;rw[TC.c202];unfold f202 zG
 by_cases d0:e.bind=0
 ·by_cases d1:(e.kids.length:Int)=0
  ·by_cases d2:e.num=0
   ·simp (disch:=first|omega|simp only[zD]<;>omega|assumption) only[↓zR,↓zRM,zR,zRM,reduceAdd,reduceMul,reduceToNat,↓f202_J7,hb,ln,c0,c1,c2,c3,c4,c5,c6,c7,T.w30,eq_true d0,eq_true d1,eq_true d2];refine hk _ _ ⟨(Ext.refl h).push _,congrArg AV.bool ?_⟩
    first|(refine (decide_eq_true (q.2 ?_)).symm;omega)|(refine (decide_eq_false (λhh=>?_)).symm;have:=q.1 hh;omega)|(refine decide_eq_decide.2 (Iff.trans ?_ q.symm);omega)
   ·simp (disch:=first|omega|simp only[zD]<;>omega|assumption) only[↓zR,↓zRM,zR,zRM,reduceAdd,reduceMul,reduceToNat,↓f202_J7,hb,ln,c0,c1,c2,c3,c4,c5,c6,c7,T.w30,eq_true d0,eq_true d1,eq_false d2];refine hk _ _ ⟨(Ext.refl h).push _,congrArg AV.bool ?_⟩
    first|(refine (decide_eq_true (q.2 ?_)).symm;omega)|(refine (decide_eq_false (λhh=>?_)).symm;have:=q.1 hh;omega)|(refine decide_eq_decide.2 (Iff.trans ?_ q.symm);omega)
  ·by_cases d2:e.num=0
   ·simp (disch:=first|omega|simp only[zD]<;>omega|assumption) only[↓zR,↓zRM,zR,zRM,reduceAdd,reduceMul,reduceToNat,↓f202_J7,hb,ln,c0,c1,c2,c3,c4,c5,c6,c7,T.w30,eq_true d0,eq_false d1,eq_true d2];refine hk _ _ ⟨(Ext.refl h).push _,congrArg AV.bool ?_⟩
    first|(refine (decide_eq_true (q.2 ?_)).symm;omega)|(refine (decide_eq_false (λhh=>?_)).symm;have:=q.1 hh;omega)|(refine decide_eq_decide.2 (Iff.trans ?_ q.symm);omega)
   ·simp (disch:=first|omega|simp only[zD]<;>omega|assumption) only[↓zR,↓zRM,zR,zRM,reduceAdd,reduceMul,reduceToNat,↓f202_J7,hb,ln,c0,c1,c2,c3,c4,c5,c6,c7,T.w30,eq_true d0,eq_false d1,eq_false d2];refine hk _ _ ⟨(Ext.refl h).push _,congrArg AV.bool ?_⟩
    first|(refine (decide_eq_true (q.2 ?_)).symm;omega)|(refine (decide_eq_false (λhh=>?_)).symm;have:=q.1 hh;omega)|(refine decide_eq_decide.2 (Iff.trans ?_ q.symm);omega)
 ·by_cases d1:(e.kids.length:Int)=0
  ·by_cases d2:e.num=0
   ·simp (disch:=first|omega|simp only[zD]<;>omega|assumption) only[↓zR,↓zRM,zR,zRM,reduceAdd,reduceMul,reduceToNat,↓f202_J7,hb,ln,c0,c1,c2,c3,c4,c5,c6,c7,T.w30,eq_false d0,eq_true d1,eq_true d2];refine hk _ _ ⟨(Ext.refl h).push _,congrArg AV.bool ?_⟩
    first|(refine (decide_eq_true (q.2 ?_)).symm;omega)|(refine (decide_eq_false (λhh=>?_)).symm;have:=q.1 hh;omega)|(refine decide_eq_decide.2 (Iff.trans ?_ q.symm);omega)
   ·simp (disch:=first|omega|simp only[zD]<;>omega|assumption) only[↓zR,↓zRM,zR,zRM,reduceAdd,reduceMul,reduceToNat,↓f202_J7,hb,ln,c0,c1,c2,c3,c4,c5,c6,c7,T.w30,eq_false d0,eq_true d1,eq_false d2];refine hk _ _ ⟨(Ext.refl h).push _,congrArg AV.bool ?_⟩
    first|(refine (decide_eq_true (q.2 ?_)).symm;omega)|(refine (decide_eq_false (λhh=>?_)).symm;have:=q.1 hh;omega)|(refine decide_eq_decide.2 (Iff.trans ?_ q.symm);omega)
  ·by_cases d2:e.num=0
   ·simp (disch:=first|omega|simp only[zD]<;>omega|assumption) only[↓zR,↓zRM,zR,zRM,reduceAdd,reduceMul,reduceToNat,↓f202_J7,hb,ln,c0,c1,c2,c3,c4,c5,c6,c7,T.w30,eq_false d0,eq_false d1,eq_true d2];refine hk _ _ ⟨(Ext.refl h).push _,congrArg AV.bool ?_⟩
    first|(refine (decide_eq_true (q.2 ?_)).symm;omega)|(refine (decide_eq_false (λhh=>?_)).symm;have:=q.1 hh;omega)|(refine decide_eq_decide.2 (Iff.trans ?_ q.symm);omega)
   ·simp (disch:=first|omega|simp only[zD]<;>omega|assumption) only[↓zR,↓zRM,zR,zRM,reduceAdd,reduceMul,reduceToNat,↓f202_J7,hb,ln,c0,c1,c2,c3,c4,c5,c6,c7,T.w30,eq_false d0,eq_false d1,eq_false d2];refine hk _ _ ⟨(Ext.refl h).push _,congrArg AV.bool ?_⟩
    first|(refine (decide_eq_true (q.2 ?_)).symm;omega)|(refine (decide_eq_false (λhh=>?_)).symm;have:=q.1 hh;omega)|(refine decide_eq_decide.2 (Iff.trans ?_ q.symm);omega)
theorem GC.w202_8(TC:GC t)(T:GA t)(n:Nat){h:H}{w:AV}{e:Ex}(hx:SlAt h w (ints e.kids))(lv:Int)(hlv:-1<=lv/\lv<=100)(c0:(e.kind=0)=False)(c1:(e.kind=1)=False)(c2:(e.kind=2)=False)(c3:(e.kind=3)=False)(c4:(e.kind=4)=False)(c5:(e.kind=5)=False)(c6:(e.kind=6)=False)(c7:(e.kind=7)=False) :
  Sp (β:=β) (ze t stdI (n+3) (.fn 202 []) [.agg (zG e w),.int .i64 lv] h) λu h'=>Ext h h'/\u = .bool (decide (zq e lv)):=by
 intro k R hk;have hb:∀(a b c w:AV) (hh:H) (kk:K β),qBox 0 (.agg [a,b,c,w]) hh (.mk kk)=kk (.ptr hh.n 0) (hh.push (.own 0 [a,b,c,w])):=λa b c w hh kk=>zr 0 _ hh kk
 have ln:∀kk:VK β,qLenL w (.mk kk)=kk (.int .i64 (e.kids.length:Int)):=λkk=>by rw[hx.len,zL]
 have q:zq e lv↔False:=by
  unfold zq;simp only[c0,c1,c2,c3,c4,c5,c6,c7,false_and,or_false]
 rw[TC.c202];unfold f202 zG
 by_cases d0:e.bind=0
 ·simp (disch:=first|omega|simp only[zD]<;>omega|assumption) only[↓zR,↓zRM,zR,zRM,reduceAdd,reduceMul,reduceToNat,↓f202_J7,hb,ln,c0,c1,c2,c3,c4,c5,c6,c7,T.w30,eq_true d0];exact hk _ _ ⟨(Ext.refl h).push _,congrArg AV.bool (decide_eq_false q.1).symm⟩
 ·simp (disch:=first|omega|simp only[zD]<;>omega|assumption) only[↓zR,↓zRM,zR,zRM,reduceAdd,reduceMul,reduceToNat,↓f202_J7,hb,ln,c0,c1,c2,c3,c4,c5,c6,c7,T.w30,eq_false d0];exact hk _ _ ⟨(Ext.refl h).push _,congrArg AV.bool (decide_eq_false q.1).symm⟩
theorem GC.w202(TC:GC t)(T:GA t)(n:Nat){h:H}{w:AV}{e:Ex}(hx:SlAt h w (ints e.kids))(lv:Int)(hlv:-1<=lv/\lv<=100) :
  Sp (β:=β) (ze t stdI (n+3) (.fn 202 []) [.agg (zG e w),.int .i64 lv] h) λu h'=>Ext h h'/\u = .bool (decide (zq e lv)):=by
 by_cases c0:e.kind=0
 ·exact TC.w202_0 T n hx lv hlv  (eq_true c0)
 by_cases c1:e.kind=1
 ·exact TC.w202_1 T n hx lv hlv (eq_false c0) (eq_true c1)
 by_cases c2:e.kind=2
 ·exact TC.w202_2 T n hx lv hlv (eq_false c0) (eq_false c1) (eq_true c2)
 by_cases c3:e.kind=3
 ·exact TC.w202_3 T n hx lv hlv (eq_false c0) (eq_false c1) (eq_false c2) (eq_true c3)
 by_cases c4:e.kind=4
 ·exact TC.w202_4 T n hx lv hlv (eq_false c0) (eq_false c1) (eq_false c2) (eq_false c3) (eq_true c4)
 by_cases c5:e.kind=5
 ·exact TC.w202_5 T n hx lv hlv (eq_false c0) (eq_false c1) (eq_false c2) (eq_false c3) (eq_false c4) (eq_true c5)
 by_cases c6:e.kind=6
 ·exact TC.w202_6 T n hx lv hlv (eq_false c0) (eq_false c1) (eq_false c2) (eq_false c3) (eq_false c4) (eq_false c5) (eq_true c6)
 by_cases c7:e.kind=7
 ·exact TC.w202_7 T n hx lv hlv (eq_false c0) (eq_false c1) (eq_false c2) (eq_false c3) (eq_false c4) (eq_false c5) (eq_false c6) (eq_true c7)
 exact TC.w202_8 T n hx lv hlv (eq_false c0) (eq_false c1) (eq_false c2) (eq_false c3) (eq_false c4) (eq_false c5) (eq_false c6) (eq_false c7)
end
end Am.F
end
section
namespace Am.F
open Go Am
def zbG(i:Nat)(e:Ex):Nat->List Int->List Int->Option (List Int)
 | _,[],lv=>some lv
 | k,kid::ks,lv=>if 0<=kid/\kid<(i:Int)/\lv.getD kid.toNat 0 = -1 then zbG i e (k+1) ks (lv.set kid.toNat (lv.getD i 0+more e k)) else none
def zbk(body:List Ex):Nat->List Int->Bool
 | 0,_=>true
 | i+1,lv=>match body[i]? with
  | none=>false
  | some e=>if lv.getD i 0 = -1\/8<lv.getD i 0\/¬ zq e (lv.getD i 0) then false else
   match zbG i e 0 e.kids lv with
   | none=>false
   | some lv'=>zbk body i lv'
def zap(body:List Ex)(i:Nat):Option (List Int)->Bool
 | none=>false
 | some lv=>zbk body i lv
def zau(d:Df):List Int:=List.replicate (d.body.length-1) (-1)++[d.params]
def zU(d:Df):Bool:=decide ((0<=d.params/\d.params<=3)/\1<=d.body.length/\d.body.length<=24)&&zbk d.body d.body.length (zau d)
def LvOk(n:Nat)(lv:List Int):Prop:=lv.length=n/\∀q,-1<=lv.getD q 0/\lv.getD q 0<=11
theorem getD_set_eq(xs:List Int){i:Nat}(x:Int)(hi:i<xs.length):(xs.set i x).getD i 0=x:=by simp[List.getD_eq_getElem?_getD,hi]
theorem getD_set_ne(xs:List Int){i j:Nat}(x:Int)(hi:i≠j):(xs.set i x).getD j 0=xs.getD j 0:=by simp[List.getD_eq_getElem?_getD,List.getElem?_set_ne hi]
theorem LvOk.set{n:Nat}{lv:List Int}(h:LvOk n lv){i:Nat}{x:Int}(hx:-1<=x/\x<=11):LvOk n (lv.set i x):=by
 refine⟨by rw[List.length_set];exact h.1,λq=>?_⟩
 by_cases hq:i=q
 ·subst hq
  by_cases hi:i<lv.length
  ·rw[getD_set_eq _ _ hi];exact hx
  ·rw[List.set_eq_of_length_le (by omega)];exact h.2 i
 ·rw[getD_set_ne _ _ hq];exact h.2 q
theorem zq.bind{e:Ex}{lv:Int}(h:zq e lv):0<=e.bind/\e.bind<=3:=by
 unfold zq Plain at h;rcases h with h|h|h|h|h|h|h|h<;>omega
theorem zhk{e:Ex}(h:0<=e.bind/\e.bind<=3)(k:Int):0<=more e k/\more e k<=3:=by
 unfold more;split<;>(try split)<;>(try split)<;>omega
theorem zfC(body:List Ex)(i:Nat)(lv:List Int){e:Ex}(he:body[i]?=some e)(h1:¬ lv.getD i 0 = -1)(h2:¬ 8<lv.getD i 0)(h3:zq e (lv.getD i 0)) :
  zbk body (i+1) lv=zap body i (zbG i e 0 e.kids lv):=by
 show (match body[i]? with|none=>false|some e=>_)=_;rw[he];show (if _ then _ else _)=_;rw[if_neg (by simp only[h1,h2,h3,not_true_eq_false,or_self,not_false_eq_true])];cases zbG i e 0 e.kids lv<;>rfl
theorem zbn(body:List Ex)(i:Nat)(lv:List Int){e:Ex}(he:body[i]?=some e)(h:lv.getD i 0 = -1\/8<lv.getD i 0\/¬ zq e (lv.getD i 0)):zbk body (i+1) lv=false:=by
 show (match body[i]? with|none=>false|some e=>_)=_;rw[he];show (if _ then _ else _)=_;rw[if_pos h]
theorem rep_ints(n:Nat):rep n [.int .i64 0]=ints (List.replicate n 0):=by
 induction n with
 | zero=>rfl
 | succ n ih=>show _::rep n [.int .i64 0]=_;rw[ih];rfl
theorem zf8{β:Type}{l:Nat}(hl:l<room)(h:H)(k:K β):zfc 0 [.int .i64 0] 8 (.int .i64 (l:Int)) (.int .i64 (l:Int)) h (.mk k)=k (.sl h.n 0 l l none) (h.push (.own 0 (ints (List.replicate l 0)))):=by
 have hn:∀c:Nat->Option β,aNat (.int .i64 (l:Int)) c=c l:=λc=>by show frc l c=c l;rw[zW]
 show zdJ 0 [.int .i64 0] 8 (.int .i64 (l:Int)) (.int .i64 (l:Int)) h k=_;unfold zdJ;rw[hn,hn,ble_eq,ble_eq,ble_eq,decide_eq_true (Nat.le_refl _),decide_eq_true (by omega),decide_eq_true (by omega),zeO,rep_ints];rfl
end Am.F
end
section
namespace Am.F
open Go Am
def DMem(h h':H)(bx:List AV)(lv:List Int):Prop:=h.n+2<=h'.n/\(∀q,q<h.n->h'.get q=h.get q)/\h'.get h.n = .own 0 bx/\h'.get (h.n+1) = .own 0 (ints lv)
theorem DMem.base{h h':H}{bx:List AV}{lv:List Int}(d:DMem h h' bx lv):Ext h h':=⟨by have:=d.1;omega,d.2.1⟩
theorem DMem.ext{h h' h'':H}{bx:List AV}{lv:List Int}(d:DMem h h' bx lv)(e:Ext h' h''):DMem h h'' bx lv:=by
 obtain⟨d1,d2,d3,d4⟩:=d;refine⟨by have:=e.n;omega,λq hq=>by rw[e.get q (by omega),d2 q hq],by rw[e.get _ (by omega),d3],by rw[e.get _ (by omega),d4]⟩
theorem DMem.set{h h':H}{bx:List AV}{lv:List Int}(d:DMem h h' bx lv)(lv':List Int):DMem h (h'.set (h.n+1) (.own 0 (ints lv'))) bx lv':=by
 obtain⟨d1,d2,d3,d4⟩:=d;refine⟨by rw[H.n_set];exact d1,λq hq=>by rw[zg (by omega),d2 q hq],by rw[zg (by omega),d3],zB rfl⟩
theorem DMem.mk{h:H}(bx:List AV)(lv:List Int):DMem h ((h.push (.own 0 bx)).push (.own 0 (ints lv))) bx lv :=
 ⟨by rw[H.n_push,H.n_push];omega,λq hq=>by rw[zc (by rw[H.n_push];omega),zc (by omega)],by rw[zc (by rw[H.n_push];omega),zf rfl],zf (by rw[H.n_push])⟩
theorem zij(k:Nat):AV.int .i64 ((k:Int)+1)=AV.int .i64 ((k+1:Nat):Int):=rfl
theorem DMem.facts{h h':H}{bx:List AV}{lv:List Int}(d:DMem h h' bx lv):(h'.get h.n).cells=some bx/\(h'.get (h.n+1)).cells=some (ints lv)/\zaG (h'.get (h.n+1))=some (0,ints lv):=by
 obtain⟨d1,d2,d3,d4⟩:=d;exact⟨by rw[d3];rfl,by rw[d4];rfl,by rw[d4];rfl⟩
section
variable {β:Type} {t:ETree}
theorem GC.w187(TC:GC t)(T:GA t)(n:Nat)(hn:40<=n){h:H}{w:AV}{d:Df}(hw:LAt 4 ExC h w d.body)(hl:d.body.length<=9223372036854775807) :
  Sp (β:=β) (ze t stdI n (.fn 187 []) [.agg [.int .i64 d.params,w]] h) λu h'=>Ext h h'/\u = .bool (zU d):=by
 intro k R hk;obtain⟨m,rfl⟩:∃m,n=m+3:=⟨n-3,by omega⟩
 have wl:=hw.len (β:=β);have hsc:=hw.sc;have hroom:room=68719476736:=rfl;have hb:∀(v w:AV) (hh:H) (kk:K β),qBox 0 (.agg [v,w]) hh (.mk kk)=kk (.ptr hh.n 0) (hh.push (.own 0 [v,w])):=λv w hh kk=>zr 0 _ hh kk
 have h212:=λ(x y:Int) (hh:H) (kk:K β)=>TC.w212 (m+1) x y hh kk
 by_cases c1:0<=d.params/\d.params<=3
 case neg=>
  rw[TC.c187];unfold f187;simp (disch:=first|omega|simp only[zD]<;>omega|assumption) only[↓zR,↓zRM,zR,zRM,reduceAdd,reduceMul,reduceToNat,↓hb,wl,h212,eq_false c1];exact hk _ _ ⟨(Ext.refl h).push _,by unfold zU;rw[decide_eq_false (by omega)];rfl⟩
 by_cases c2:0<=(d.body.length:Int)-1/\(d.body.length:Int)-1<=23
 case neg=>
  rw[TC.c187];unfold f187;simp (disch:=first|omega|simp only[zD]<;>omega|assumption) only[↓zR,↓zRM,zR,zRM,reduceAdd,reduceMul,reduceToNat,↓hb,wl,h212,eq_true c1,eq_false c2];exact hk _ _ ⟨(Ext.refl h).push _,by unfold zU;rw[decide_eq_false (by omega)];rfl⟩
 have tn:((d.body.length:Int)-1).toNat=d.body.length-1:=by omega
 have hmk:=λ(hh:H) (kk:K β)=>zf8 (β:=β) (l:=d.body.length) (by omega) hh kk
 have d0:zU d=zbk d.body d.body.length (zau d):=by unfold zU;rw[decide_eq_true (by omega)];rfl
 have inner:∀(i:Nat) (e:Ex) (hi:d.body[i]?=some e) (hk3:e.kids.length<=3) (j17:Cur β 22),
   (∀lv,LvOk d.body.length lv->zbk d.body i lv=zU d->∀x0 x1 x2 x3 x4 x5 x6 x7 x8 x9 x10 x11 x12 x13 x14 x15 x16 x17 x18 x19 x20 x21 h',DMem h h' [.int .i64 d.params,w] lv->x1 = .ptr h.n 0->x4 = .sl (h.n+1) 0 d.body.length d.body.length none->x6 = .int .i64 (i:Int)->j17 x0 x1 x2 x3 x4 x5 x6 x7 x8 x9 x10 x11 x12 x13 x14 x15 x16 x17 x18 x19 x20 x21 h'=R) ->
   ∀(kn:Nat),kn<m+2->∀x0 x1 x2 x3 x4 x5 x6 x7 x8 x9 x10 x11 x12 x13 x14 x15 x16 x17 x18 x19 x20 x21 h',(∃(b o:Nat) (w':AV) (kk:Nat) (lv:List Int),x1 = .ptr h.n 0/\x4 = .sl (h.n+1) 0 d.body.length d.body.length none/\x6 = .int .i64 (i:Int)/\x7 = .ptr b o/\ExIn h b o w' e/\x16=w'/\x17 = .int .i64 (e.kids.length:Int)/\x18 = .int .i64 (kk:Int) /\
    kk+kn=e.kids.length/\DMem h h' [.int .i64 d.params,w] lv/\LvOk d.body.length lv/\(¬ lv.getD i 0 = -1/\¬ 8<lv.getD i 0)/\(0<=e.bind/\e.bind<=3)/\zap d.body i (zbG i e kk (e.kids.drop kk) lv)=zU d) ->
   zaR 22 (m+2) (.mk (f187_L27 (ze t stdI (m+2)) k j17)) x0 x1 x2 x3 x4 x5 x6 x7 x8 x9 x10 x11 x12 x13 x14 x15 x16 x17 x18 x19 x20 x21 h'=R:=by
  intro i e hi hk3 j17 hj kn hkn;refine zaa 22 (m+2) _ _ (λkn x0 x1 x2 x3 x4 x5 x6 x7 x8 x9 x10 x11 x12 x13 x14 x15 x16 x17 x18 x19 x20 x21 h'=>∃(b o:Nat) (w':AV) (kk:Nat) (lv:List Int),x1 = .ptr h.n 0/\x4 = .sl (h.n+1) 0 d.body.length d.body.length none/\x6 = .int .i64 (i:Int)/\x7 = .ptr b o/\ExIn h b o w' e/\x16=w'/\x17 = .int .i64 (e.kids.length:Int)/\x18 = .int .i64 (kk:Int) /\
    kk+kn=e.kids.length/\DMem h h' [.int .i64 d.params,w] lv/\LvOk d.body.length lv/\(¬ lv.getD i 0 = -1/\¬ 8<lv.getD i 0)/\(0<=e.bind/\e.bind<=3)/\zap d.body i (zbG i e kk (e.kids.drop kk) lv)=zU d) kn hkn ?_
  intro l kn ih x0 x1 x2 x3 x4 x5 x6 x7 x8 x9 x10 x11 x12 x13 x14 x15 x16 x17 x18 x19 x20 x21 h' ⟨b,o,w',kk,lv,q1,q2,q3,q4,q5,q6,q7,q8,q9,q10,q11,q12,q13,q14⟩;subst q1 q2 q3 q4 q6 q7 q8;have hil:i<d.body.length:=(List.getElem?_eq_some_iff.1 hi).1;cases kn with
  | zero=>
   have hk':kk=e.kids.length:=by omega
   subst hk';rw[List.drop_length] at q14;simp (disch:=first|omega|simp only[zD]<;>omega|assumption) only[↓zR,↓zRM,zR,zRM,reduceAdd,reduceMul,reduceToNat,↓f187_J14,↓f187_J17,↓f187_J30,↓f187_J34,↓f187_J29,↓f187_L27,↓f187_J22,↓f187_J16,↓f187_L15,↓f187_J10,↓f187_J64,↓f187_J63,↓f187_L61,↓f187_J5];exact hj lv q11 q14 _ _ _ _ _ _ _ _ _ _ _ _ _ _ _ _ _ _ _ _ _ _ _ q10 rfl rfl rfl
  | succ kn=>
   have hkl:kk<e.kids.length:=by omega
   obtain⟨f1,f2,f3⟩:=q10.facts;have q5':=q5.ext q10.base;have hld:=λ(kc:VK β)=>q5'.2.load (β:=β) (i:=(kk:Int)) (kd:=.i64) (by omega) (by rw[zL];omega) kc
   rw[Int.toNat_natCast,zcl hkl] at hld;have hdr:e.kids.drop kk=e.kids.getD kk 0::e.kids.drop (kk+1):=by
    rw[List.drop_eq_getElem_cons hkl,List.getD_eq_getElem?_getD,List.getElem?_eq_getElem hkl];rfl
   rw[hdr] at q14;generalize e.kids.getD kk 0=kid at hld q14
   by_cases k1:kid<0
   ·have:zU d=false:=by rw[<- q14];show zap _ _ (if _ then _ else _)=_;rw[if_neg (by omega)];rfl
    simp (disch:=first|omega|simp only[zD]<;>omega|assumption) only[↓zR,↓zRM,zR,zRM,reduceAdd,reduceMul,reduceToNat,↓f187_J14,↓f187_J17,↓f187_J30,↓f187_J34,↓f187_J29,↓f187_L27,↓f187_J22,↓f187_J16,↓f187_L15,↓f187_J10,↓f187_J64,↓f187_J63,↓f187_L61,↓f187_J5,hld,eq_true k1];exact hk _ _ ⟨q10.base,by rw[this]⟩
   by_cases k2:(i:Int)<=kid
   ·have:zU d=false:=by rw[<- q14];show zap _ _ (if _ then _ else _)=_;rw[if_neg (by omega)];rfl
    simp (disch:=first|omega|simp only[zD]<;>omega|assumption) only[↓zR,↓zRM,zR,zRM,reduceAdd,reduceMul,reduceToNat,↓f187_J14,↓f187_J17,↓f187_J30,↓f187_J34,↓f187_J29,↓f187_L27,↓f187_J22,↓f187_J16,↓f187_L15,↓f187_J10,↓f187_J64,↓f187_J63,↓f187_L61,↓f187_J5,hld,eq_false k1,eq_true k2];exact hk _ _ ⟨q10.base,by rw[this]⟩
   obtain⟨kd,rfl⟩:=Int.eq_ofNat_of_zero_le (show 0<=kid by omega);have hkd:kd<d.body.length:=by omega
   have g1:=zaT (xs:=lv) (j:=kd) (by rw[q11.1];exact hkd);have g2:=zaT (xs:=lv) (j:=i) (by rw[q11.1];exact hil)
   by_cases k3:lv.getD kd 0 = -1
   case neg=>
    have:zU d=false:=by rw[<- q14];show zap _ _ (if _ then _ else _)=_;rw[Int.toNat_natCast,if_neg (by omega)];rfl
    simp (disch:=first|omega|simp only[zD]<;>omega|assumption) only[↓zR,↓zRM,zR,zRM,reduceAdd,reduceMul,reduceToNat,↓f187_J14,↓f187_J17,↓f187_J30,↓f187_J34,↓f187_J29,↓f187_L27,↓f187_J22,↓f187_J16,↓f187_L15,↓f187_J10,↓f187_J64,↓f187_J63,↓f187_L61,↓f187_J5,hld,eq_false k1,eq_false k2,f1,f2,g1,eq_false k3];exact hk _ _ ⟨q10.base,by rw[this]⟩
   have h214:=λ(kc:K β)=>TC.w214 (m+1) q5' (kk:Int) kc
   have hm:=zhk q13 (kk:Int);have hlv:=q11.2 i;have hch:∀(x:Int) (c:Option β),qChk (.int .i64 x) (.int .i64 x) (.mk c)=c:=λx c=>by
    show cond (AV.beq _ _) c none=c;have:AV.beq (.int .i64 x) (.int .i64 x)=true:=by simp[AV.beq]
    rw[this];rfl
   simp (disch:=first|omega|simp only[zD]<;>omega|assumption) only[↓zR,↓zRM,zR,zRM,reduceAdd,reduceMul,reduceToNat,↓f187_J14,↓f187_J17,↓f187_J30,↓f187_J34,↓f187_J29,↓f187_L27,↓f187_J22,↓f187_J16,↓f187_L15,↓f187_J10,↓f187_J64,↓f187_J63,↓f187_L61,↓f187_J5,hld,eq_false k1,eq_false k2,f1,f2,f3,g1,g2,eq_true k3,h214,hch,zdG,zL,q11.1];have hb2:-1<=lv.getD i 0+more e (kk:Int)/\lv.getD i 0+more e (kk:Int)<=11:=by omega
   refine ih kn (by omega) _ _ _ _ _ _ _ _ _ _ _ _ _ _ _ _ _ _ _ _ _ _ _ ⟨b,o,_,kk+1,lv.set kd (lv.getD i 0+more e (kk:Int)),rfl,rfl,rfl,rfl,q5,rfl,rfl,zij kk,by omega,q10.set _,q11.set hb2,?_,q13,?_⟩
   ·rw[getD_set_ne _ _ (by omega)];exact q12
   ·rw[<- q14];show _=zap _ _ (if _ then _ else _);rw[Int.toNat_natCast,if_pos ⟨by omega,by omega,k3⟩]
 have outer:∀(i:Nat),i<=d.body.length->∀x0 x1 x2 x3 x4 x5 x6 x7 x8 x9 x10 x11 x12 x13 x14 x15 x16 x17 x18 x19 x20 x21 h',(i<=d.body.length/\∃lv,x1 = .ptr h.n 0/\x4 = .sl (h.n+1) 0 d.body.length d.body.length none/\x6 = .int .i64 ((i:Int)-1)/\DMem h h' [.int .i64 d.params,w] lv/\LvOk d.body.length lv/\zbk d.body i lv=zU d) ->
   zaR 22 (m+2) (.mk (f187_L15 (m+2) (ze t stdI (m+2)) k (f187_J14 k))) x0 x1 x2 x3 x4 x5 x6 x7 x8 x9 x10 x11 x12 x13 x14 x15 x16 x17 x18 x19 x20 x21 h'=R:=by
  intro i hi0;refine zaa 22 (m+2) _ _ (λi x0 x1 x2 x3 x4 x5 x6 x7 x8 x9 x10 x11 x12 x13 x14 x15 x16 x17 x18 x19 x20 x21 h'=>i<=d.body.length/\∃lv,x1 = .ptr h.n 0/\x4 = .sl (h.n+1) 0 d.body.length d.body.length none/\x6 = .int .i64 ((i:Int)-1)/\DMem h h' [.int .i64 d.params,w] lv/\LvOk d.body.length lv/\zbk d.body i lv=zU d) i (by omega) ?_;intro l i ih x0 x1 x2 x3 x4 x5 x6 x7 x8 x9 x10 x11 x12 x13 x14 x15 x16 x17 x18 x19 x20 x21 h' ⟨hi,lv,q1,q2,q3,q4,q5,q6⟩;subst q1 q2 q3;obtain⟨f1,f2,f3⟩:=q4.facts;cases i with
  | zero=>
   simp (disch:=first|omega|simp only[zD]<;>omega|assumption) only[↓zR,↓zRM,zR,zRM,reduceAdd,reduceMul,reduceToNat,↓f187_J14,↓f187_J17,↓f187_J30,↓f187_J34,↓f187_J29,↓f187_L27,↓f187_J22,↓f187_J16,↓f187_L15,↓f187_J10,↓f187_J64,↓f187_J63,↓f187_L61,↓f187_J5];exact hk _ _ ⟨q4.base,by rw[<- q6];rfl⟩
  | succ i=>
   have hil:i<d.body.length:=by omega
   obtain⟨e,he⟩:∃e,d.body[i]?=some e:=⟨_,List.getElem?_eq_getElem hil⟩
   obtain⟨b,o,cs,a1,a2,w',rfl,a3⟩:=hw.at (β:=β) he;have hx0:ExIn h b o w' e:=⟨a2,a3⟩
   have hx:=hx0.ext q4.base;obtain⟨us,fx⟩:=hx.get β;have en:((i+1:Nat):Int)-1=(i:Int):=by omega
   have g2:=zaT (xs:=lv) (j:=i) (by rw[q5.1];exact hil);have hlv:=q5.2 i;have h213:=λ(kc:K β)=>TC.w213 T m hx (lv.getD i 0) ⟨by omega,by omega⟩ kc
   by_cases k1:lv.getD i 0 = -1
   ·have:=zbn d.body i lv he (.inl k1)
    simp (disch:=first|omega|simp only[zD]<;>omega|assumption) only[↓zR,↓zRM,zR,zRM,reduceAdd,reduceMul,reduceToNat,↓f187_J14,↓f187_J17,↓f187_J30,↓f187_J34,↓f187_J29,↓f187_L27,↓f187_J22,↓f187_J16,↓f187_L15,↓f187_J10,↓f187_J64,↓f187_J63,↓f187_L61,↓f187_J5,en,f1,f2,a1,g2,eq_true k1];exact hk _ _ ⟨q4.base,by rw[<- q6,this]⟩
   by_cases k2:8<lv.getD i 0
   ·have:=zbn d.body i lv he (.inr (.inl k2))
    simp (disch:=first|omega|simp only[zD]<;>omega|assumption) only[↓zR,↓zRM,zR,zRM,reduceAdd,reduceMul,reduceToNat,↓f187_J14,↓f187_J17,↓f187_J30,↓f187_J34,↓f187_J29,↓f187_L27,↓f187_J22,↓f187_J16,↓f187_L15,↓f187_J10,↓f187_J64,↓f187_J63,↓f187_L61,↓f187_J5,en,f1,f2,a1,g2,eq_false k1,eq_true k2];exact hk _ _ ⟨q4.base,by rw[<- q6,this]⟩
   by_cases k3:zq e (lv.getD i 0)
   case neg=>
    have:=zbn d.body i lv he (.inr (.inr k3))
    simp (disch:=first|omega|simp only[zD]<;>omega|assumption) only[↓zR,↓zRM,zR,zRM,reduceAdd,reduceMul,reduceToNat,↓f187_J14,↓f187_J17,↓f187_J30,↓f187_J34,↓f187_J29,↓f187_L27,↓f187_J22,↓f187_J16,↓f187_L15,↓f187_J10,↓f187_J64,↓f187_J63,↓f187_L61,↓f187_J5,en,f1,f2,a1,g2,eq_false k1,eq_false k2,h213,eq_false k3];exact hk _ _ ⟨q4.base,by rw[<- q6,this]⟩
   have hs:=zfC d.body i lv he k1 k2 k3;have hkl:e.kids.length<=3:=by
    unfold zq Plain at k3;rcases k3 with h|h|h|h|h|h|h|h<;>omega
   simp (disch:=first|omega|simp only[zD]<;>omega|assumption) only[↓zR,↓zRM,zR,zRM,reduceAdd,reduceMul,reduceToNat,↓f187_J14,↓f187_J17,↓f187_J30,↓f187_J34,↓f187_J29,↓f187_L27,↓f187_J22,↓f187_J16,↓f187_L15,↓f187_J10,↓f187_J64,↓f187_J63,↓f187_L61,↓f187_J5,en,f1,f2,a1,g2,eq_false k1,eq_false k2,h213,eq_true k3,za0,fx];refine inner i e he hkl _ ?_ e.kids.length (by omega) _ _ _ _ _ _ _ _ _ _ _ _ _ _ _ _ _ _ _ _ _ _ _ ⟨b,o,_,0,lv,rfl,rfl,rfl,rfl,hx0,rfl,rfl,rfl,by omega,q4,q5,⟨k1,k2⟩,k3.bind,by rw[<- q6,hs];rfl⟩;intro lv' g3 g4 x0 x1 x2 x3 x4 x5 x6 x7 x8 x9 x10 x11 x12 x13 x14 x15 x16 x17 x18 x19 x20 x21 h'' g5 g6 g7 g8;subst g6 g7 g8;simp (disch:=first|omega|simp only[zD]<;>omega|assumption) only[↓zR,↓zRM,zR,zRM,reduceAdd,reduceMul,reduceToNat,↓f187_J14,↓f187_J17,↓f187_J30,↓f187_J34,↓f187_J29,↓f187_L27,↓f187_J22,↓f187_J16,↓f187_L15,↓f187_J10,↓f187_J64,↓f187_J63,↓f187_L61,↓f187_J5];exact ih i (by omega) _ _ _ _ _ _ _ _ _ _ _ _ _ _ _ _ _ _ _ _ _ _ _ ⟨by omega,lv',rfl,rfl,rfl,g5,g3,g4⟩
 rw[TC.c187];unfold f187;simp (disch:=first|omega|simp only[zD]<;>omega|assumption) only[↓zR,↓zRM,zR,zRM,reduceAdd,reduceMul,reduceToNat,↓f187_J14,↓f187_J17,↓f187_J30,↓f187_J34,↓f187_J29,↓f187_L27,↓f187_J22,↓f187_J16,↓f187_L15,↓f187_J10,↓f187_J64,↓f187_J63,↓f187_L61,↓f187_J5,↓hb,wl,h212,eq_true c1,eq_true c2,hmk];refine zaa 22 (m+2) _ _ (λi x0 x1 x2 x3 x4 x5 x6 x7 x8 x9 x10 x11 x12 x13 x14 x15 x16 x17 x18 x19 x20 x21 h'=>∃(j:Nat) (lv:List Int),x1 = .ptr h.n 0/\x3 = .int .i64 ((d.body.length:Int)-1)/\x4 = .sl (h.n+1) 0 d.body.length d.body.length none/\x11 = .int .i64 ((d.body.length:Int)-1) /\
  x12 = .int .i64 (j:Int)/\j+i=d.body.length-1/\DMem h h' [.int .i64 d.params,w] lv/\lv.length=d.body.length/\∀q,q<j->lv.getD q 0 = -1) (d.body.length-1) (by omega) ?_ _ _ _ _ _ _ _ _ _ _ _ _ _ _ _ _ _ _ _ _ _ _ _
  ⟨0,List.replicate d.body.length 0,rfl,rfl,rfl,rfl,rfl,by omega,DMem.mk _ _,List.length_replicate ..,λq hq=>absurd hq (by omega)⟩
 intro l i ih x0 x1 x2 x3 x4 x5 x6 x7 x8 x9 x10 x11 x12 x13 x14 x15 x16 x17 x18 x19 x20 x21 h' ⟨j,lv,q1,q2,q3,q4,q5,q6,q7,q8,q9⟩;subst q1 q2 q3 q4 q5;obtain⟨f1,f2,f3⟩:=q7.facts;cases i with
 | zero=>
  have hj:j=d.body.length-1:=by omega
  have hle:¬ (j:Int)<(d.body.length:Int)-1:=by omega
  have hlast:lv.set (d.body.length-1) d.params=zau d:=by
   unfold zau;refine List.ext_getElem? λq=>?_
   rcases Nat.lt_trichotomy q (d.body.length-1) with hq|hq|hq
   ·rw[List.getElem?_set_ne (by omega),List.getElem?_append_left (by rw[List.length_replicate];exact hq),List.getElem?_replicate,if_pos hq];have:=q9 q (by omega)
    rw[List.getD_eq_getElem?_getD,List.getElem?_eq_getElem (by omega)] at this;rw[List.getElem?_eq_getElem (by omega)];exact congrArg some this
   ·subst hq;rw[List.getElem?_set_self (by omega),List.getElem?_append_right (by rw[List.length_replicate];omega),List.length_replicate,Nat.sub_self];rfl
   ·rw[List.getElem?_eq_none (by rw[List.length_set];omega),List.getElem?_eq_none (by rw[List.length_append,List.length_replicate];simp;omega)]
  simp (disch:=first|omega|simp only[zD]<;>omega|assumption) only[↓zR,↓zRM,zR,zRM,reduceAdd,reduceMul,reduceToNat,↓f187_J14,↓f187_J17,↓f187_J30,↓f187_J34,↓f187_J29,↓f187_L27,↓f187_J22,↓f187_J16,↓f187_L15,↓f187_J10,↓f187_J64,↓f187_J63,↓f187_L61,↓f187_J5,eq_false hle,f1,tn,f3,zdG,zL,q8,hlast];refine outer d.body.length (Nat.le_refl _) _ _ _ _ _ _ _ _ _ _ _ _ _ _ _ _ _ _ _ _ _ _ _ ⟨Nat.le_refl _,zau d,rfl,rfl,rfl,q7.set _,⟨by unfold zau;rw[List.length_append,List.length_replicate];simp;omega,λq=>?_⟩,d0.symm⟩;rw[<- hlast]
  by_cases hq:d.body.length-1=q
  ·subst hq;rw[getD_set_eq _ _ (by omega)];omega
  ·rw[getD_set_ne _ _ hq]
   by_cases hq2:q<j
   ·rw[q9 q hq2];omega
   ·rw[List.getD_eq_getElem?_getD,List.getElem?_eq_none (by omega)];simp
 | succ i=>
  have hj:(j:Int)<(d.body.length:Int)-1:=by omega
  simp (disch:=first|omega|simp only[zD]<;>omega|assumption) only[↓zR,↓zRM,zR,zRM,reduceAdd,reduceMul,reduceToNat,↓f187_J14,↓f187_J17,↓f187_J30,↓f187_J34,↓f187_J29,↓f187_L27,↓f187_J22,↓f187_J16,↓f187_L15,↓f187_J10,↓f187_J64,↓f187_J63,↓f187_L61,↓f187_J5,eq_true hj,f3,zdG,zL,q8];refine ih i (by omega) _ _ _ _ _ _ _ _ _ _ _ _ _ _ _ _ _ _ _ _ _ _ _ ⟨j+1,_,rfl,rfl,rfl,rfl,congrArg (AV.int .i64) (by omega),by omega,q7.set _,by rw[List.length_set];exact q8,λq hq=>?_⟩
  by_cases hq2:j=q
  ·subst hq2;rw[getD_set_eq _ _ (by omega)]
  ·rw[getD_set_ne _ _ hq2];exact q9 q (by omega)
end
end Am.F
end
section
namespace Am.F
open Go Am
def up(lv:List Int):List Int:=lv.map (·+1)
theorem up_len(lv:List Int):(up lv).length=lv.length:=List.length_map ..
theorem up_getD{lv:List Int}{j:Nat}(hj:j<lv.length):(up lv).getD j 0=lv.getD j 0+1:=by simp[up,List.getD_eq_getElem?_getD,hj]
theorem zjn{lv:List Int}{j:Nat}(hj:j<lv.length):(ints (up lv))[j]?=some (.int .i64 (lv.getD j 0+1)):=by rw[zaT (by rw[up_len];exact hj),up_getD hj]
theorem up_set(lv:List Int)(j:Nat)(x:Int):(ints (up lv)).set j (.int .i64 (x+1))=ints (up (lv.set j x)):=by rw[zdG];simp[up,List.map_set]
section
variable {β:Type} {t:ETree}
theorem GC.w179(TC:GC t)(T:GA t)(n:Nat)(hn:40<=n){h:H}{w:AV}{d:Df}(hw:LAt 4 ExC h w d.body)(hl:d.body.length<=9223372036854775807) :
  Sp (β:=β) (ze t stdI n (.fn 179 []) [.agg [.int .i64 d.params,w]] h) λu h'=>Ext h h'/\u = .bool (zU d):=by
 intro k R hk;obtain⟨m,rfl⟩:∃m,n=m+4:=⟨n-4,by omega⟩
 have wl:=hw.len (β:=β);have hsc:=hw.sc;have hroom:room=68719476736:=rfl;have hb:∀(v w:AV) (hh:H) (kk:K β),qBox 0 (.agg [v,w]) hh (.mk kk)=kk (.ptr hh.n 0) (hh.push (.own 0 [v,w])):=λv w hh kk=>zr 0 _ hh kk
 have h30:=λ(x y z:Int) (hh:H) (kk:K β)=>T.w30 (m+2) x y z hh kk
 have hch:∀(x:Int) (c:Option β),qChk (.int .i64 x) (.int .i64 x) (.mk c)=c:=λx c=>by
  show cond (AV.beq _ _) c none=c;have:AV.beq (.int .i64 x) (.int .i64 x)=true:=by simp[AV.beq]
  rw[this];rfl
 by_cases c1:0<=d.params/\d.params<=3
 case neg=>
  rw[TC.c179];unfold f179;simp (disch:=first|omega|simp only[zD]<;>omega|assumption) only[↓zR,↓zRM,zR,zRM,reduceAdd,reduceMul,reduceToNat,↓hb,wl,h30,eq_false c1];exact hk _ _ ⟨(Ext.refl h).push _,by unfold zU;rw[decide_eq_false (by omega)];rfl⟩
 by_cases c2:1<=(d.body.length:Int)/\(d.body.length:Int)<=24
 case neg=>
  rw[TC.c179];unfold f179;simp (disch:=first|omega|simp only[zD]<;>omega|assumption) only[↓zR,↓zRM,zR,zRM,reduceAdd,reduceMul,reduceToNat,↓hb,wl,h30,eq_true c1,eq_false c2];exact hk _ _ ⟨(Ext.refl h).push _,by unfold zU;rw[decide_eq_false (by omega)];rfl⟩
 have tn:((d.body.length:Int)-1).toNat=d.body.length-1:=by omega
 have hmk:=λ(hh:H) (kk:K β)=>zf8 (β:=β) (l:=d.body.length) (by omega) hh kk
 have d0:zU d=zbk d.body d.body.length (zau d):=by unfold zU;rw[decide_eq_true (by omega)];rfl
 have inner:∀(i:Nat) (e:Ex) (hi:d.body[i]?=some e) (hk3:e.kids.length<=3) (j17:Cur β 13),
   (∀lv,LvOk d.body.length lv->zbk d.body i lv=zU d->∀x0 x1 x2 x3 x4 x5 x6 x7 x8 x9 x10 x11 x12 h',DMem h h' [.int .i64 d.params,w] (up lv)->x1 = .ptr h.n 0->x3 = .sl (h.n+1) 0 d.body.length d.body.length none->x4 = .int .i64 (i:Int)->j17 x0 x1 x2 x3 x4 x5 x6 x7 x8 x9 x10 x11 x12 h'=R) ->
   ∀(kn:Nat),kn<m+3->∀x0 x1 x2 x3 x4 x5 x6 x7 x8 x9 x10 x11 x12 h',(∃(b:Nat) (w':AV) (kk:Nat) (lv:List Int),x1 = .ptr h.n 0/\x3 = .sl (h.n+1) 0 d.body.length d.body.length none/\x4 = .int .i64 (i:Int)/\x5 = .ptr b 0/\h'.get b = .own 0 (zG e w')/\b<h'.n/\h.n+2<=b/\SlAt h w' (ints e.kids)/\x6 = .int .i64 (kk:Int) /\
    kk+kn=e.kids.length/\DMem h h' [.int .i64 d.params,w] (up lv)/\LvOk d.body.length lv/\(¬ lv.getD i 0 = -1/\¬ 8<lv.getD i 0)/\(0<=e.bind/\e.bind<=3)/\zap d.body i (zbG i e kk (e.kids.drop kk) lv)=zU d) ->
   zaR 13 (m+3) (.mk (f179_L27 (ze t stdI (m+3)) k j17)) x0 x1 x2 x3 x4 x5 x6 x7 x8 x9 x10 x11 x12 h'=R:=by
  intro i e hi hk3 j17 hj kn hkn;refine zaa 13 (m+3) _ _ (λkn x0 x1 x2 x3 x4 x5 x6 x7 x8 x9 x10 x11 x12 h'=>∃(b:Nat) (w':AV) (kk:Nat) (lv:List Int),x1 = .ptr h.n 0/\x3 = .sl (h.n+1) 0 d.body.length d.body.length none/\x4 = .int .i64 (i:Int)/\x5 = .ptr b 0/\h'.get b = .own 0 (zG e w')/\b<h'.n/\h.n+2<=b/\SlAt h w' (ints e.kids)/\x6 = .int .i64 (kk:Int) /\
    kk+kn=e.kids.length/\DMem h h' [.int .i64 d.params,w] (up lv)/\LvOk d.body.length lv/\(¬ lv.getD i 0 = -1/\¬ 8<lv.getD i 0)/\(0<=e.bind/\e.bind<=3)/\zap d.body i (zbG i e kk (e.kids.drop kk) lv)=zU d) kn hkn ?_
  intro l kn ih x0 x1 x2 x3 x4 x5 x6 x7 x8 x9 x10 x11 x12 h' ⟨b,w',kk,lv,q1,q2,q3,q4,p1,p2,p3,p4,q8,q9,q10,q11,q12,q13,q14⟩;subst q1 q2 q3 q4 q8;have hil:i<d.body.length:=(List.getElem?_eq_some_iff.1 hi).1;have pc:(h'.get b).cells=some [.int .i64 e.kind,.int .i64 e.num,.int .i64 e.bind,w']:=by rw[p1];rfl
  have lw:∀kc:VK β,qLenL w' (.mk kc)=kc (.int .i64 (e.kids.length:Int)):=λkc=>by rw[p4.len,zL]
  cases kn with
  | zero=>
   have hk':kk=e.kids.length:=by omega
   subst hk';rw[List.drop_length] at q14;simp (disch:=first|omega|simp only[zD]<;>omega|assumption) only[↓zR,↓zRM,zR,zRM,reduceAdd,reduceMul,reduceToNat,↓f179_J12,↓f179_J19,↓f179_J29,↓f179_J35,↓f179_J28,↓f179_L27,↓f179_J26,↓f179_J18,↓f179_L17,↓f179_J1,pc,lw];exact hj lv q11 q14 _ _ _ _ _ _ _ _ _ _ _ _ _ _ q10 rfl rfl rfl
  | succ kn=>
   have hkl:kk<e.kids.length:=by omega
   obtain⟨f1,f2,f3⟩:=q10.facts;have hld:=λ(kc:VK β)=>(p4.ext q10.base).load (β:=β) (i:=(kk:Int)) (kd:=.i64) (by omega) (by rw[zL];omega) kc
   rw[Int.toNat_natCast,zcl hkl] at hld;have hdr:e.kids.drop kk=e.kids.getD kk 0::e.kids.drop (kk+1):=by
    rw[List.drop_eq_getElem_cons hkl,List.getD_eq_getElem?_getD,List.getElem?_eq_getElem hkl];rfl
   rw[hdr] at q14;generalize e.kids.getD kk 0=kid at hld q14
   by_cases k1:0<=kid/\kid<=(i:Int)-1
   case neg=>
    have:zU d=false:=by rw[<- q14];show zap _ _ (if _ then _ else _)=_;rw[if_neg (by omega)];rfl
    simp (disch:=first|omega|simp only[zD]<;>omega|assumption) only[↓zR,↓zRM,zR,zRM,reduceAdd,reduceMul,reduceToNat,↓f179_J12,↓f179_J19,↓f179_J29,↓f179_J35,↓f179_J28,↓f179_L27,↓f179_J26,↓f179_J18,↓f179_L17,↓f179_J1,pc,lw,hld,h30,eq_false k1];exact hk _ _ ⟨q10.base,by rw[this]⟩
   obtain⟨kd,rfl⟩:=Int.eq_ofNat_of_zero_le (show 0<=kid by omega);have hkd:kd<d.body.length:=by omega
   have g1:=zjn (lv:=lv) (j:=kd) (by rw[q11.1];exact hkd);have g2:=zjn (lv:=lv) (j:=i) (by rw[q11.1];exact hil)
   by_cases k3:lv.getD kd 0+1=0
   case neg=>
    have:zU d=false:=by rw[<- q14];show zap _ _ (if _ then _ else _)=_;rw[Int.toNat_natCast,if_neg (by omega)];rfl
    simp (disch:=first|omega|simp only[zD]<;>omega|assumption) only[↓zR,↓zRM,zR,zRM,reduceAdd,reduceMul,reduceToNat,↓f179_J12,↓f179_J19,↓f179_J29,↓f179_J35,↓f179_J28,↓f179_L27,↓f179_J26,↓f179_J18,↓f179_L17,↓f179_J1,pc,lw,hld,h30,eq_true k1,f1,f2,g1,eq_false k3];exact hk _ _ ⟨q10.base,by rw[this]⟩
   have hm:=zhk q13 (kk:Int);have hlv:=q11.2 i;simp (disch:=first|omega|simp only[zD]<;>omega|assumption) only[↓zR,↓zRM,zR,zRM,reduceAdd,reduceMul,reduceToNat,↓f179_J12,↓f179_J19,↓f179_J29,↓f179_J35,↓f179_J28,↓f179_L27,↓f179_J26,↓f179_J18,↓f179_L17,↓f179_J1,pc,lw,hld,h30,eq_true k1,f1,f2,g1,g2,eq_true k3];refine TC.w203 (m+2) (e:=e) (w:=w') (kk:Int) _ _ ?_;intro u h2 ⟨e1,e2⟩;subst e2;have q10':=q10.ext e1;obtain⟨f1',f2',f3'⟩:=q10'.facts;have hs:=up_set lv kd (lv.getD i 0+more e (kk:Int));rw[show lv.getD i 0+more e (kk:Int)+1=lv.getD i 0+1+more e (kk:Int) by omega] at hs;simp (disch:=first|omega|simp only[zD]<;>omega|assumption) only[↓zR,↓zRM,zR,zRM,reduceAdd,reduceMul,reduceToNat,↓f179_J12,↓f179_J19,↓f179_J29,↓f179_J35,↓f179_J28,↓f179_L27,↓f179_J26,↓f179_J18,↓f179_L17,↓f179_J1,f2',f3',g2,hch,hs,zL,up_len,q11.1];have hb2:-1<=lv.getD i 0+more e (kk:Int)/\lv.getD i 0+more e (kk:Int)<=11:=by omega
   refine ih kn (by omega) _ _ _ _ _ _ _ _ _ _ _ _ _ _ ⟨b,_,kk+1,lv.set kd (lv.getD i 0+more e (kk:Int)),rfl,rfl,rfl,rfl,by rw[zg (by omega),e1.get b p2];exact p1,by rw[H.n_set];have:=e1.n;omega,p3,p4,zij kk,by omega,q10'.set _,q11.set hb2,?_,q13,?_⟩
   ·rw[getD_set_ne _ _ (by omega)];exact q12
   ·rw[<- q14];show _=zap _ _ (if _ then _ else _);rw[Int.toNat_natCast,if_pos ⟨by omega,by omega,by omega⟩]
 have outer:∀(i:Nat),i<=d.body.length->∀x0 x1 x2 x3 x4 x5 x6 x7 x8 x9 x10 x11 x12 h',(i<=d.body.length/\∃lv,x1 = .ptr h.n 0/\x3 = .sl (h.n+1) 0 d.body.length d.body.length none/\x4 = .int .i64 ((i:Int)-1)/\DMem h h' [.int .i64 d.params,w] (up lv)/\LvOk d.body.length lv/\zbk d.body i lv=zU d) ->
   zaR 13 (m+3) (.mk (f179_L17 (m+3) (ze t stdI (m+3)) k (f179_J12 k))) x0 x1 x2 x3 x4 x5 x6 x7 x8 x9 x10 x11 x12 h'=R:=by
  intro i hi0;refine zaa 13 (m+3) _ _ (λi x0 x1 x2 x3 x4 x5 x6 x7 x8 x9 x10 x11 x12 h'=>i<=d.body.length/\∃lv,x1 = .ptr h.n 0/\x3 = .sl (h.n+1) 0 d.body.length d.body.length none/\x4 = .int .i64 ((i:Int)-1)/\DMem h h' [.int .i64 d.params,w] (up lv)/\LvOk d.body.length lv/\zbk d.body i lv=zU d) i (by omega) ?_;intro l i ih x0 x1 x2 x3 x4 x5 x6 x7 x8 x9 x10 x11 x12 h' ⟨hi,lv,q1,q2,q3,q4,q5,q6⟩;subst q1 q2 q3;obtain⟨f1,f2,f3⟩:=q4.facts;cases i with
  | zero=>
   simp (disch:=first|omega|simp only[zD]<;>omega|assumption) only[↓zR,↓zRM,zR,zRM,reduceAdd,reduceMul,reduceToNat,↓f179_J12,↓f179_J19,↓f179_J29,↓f179_J35,↓f179_J28,↓f179_L27,↓f179_J26,↓f179_J18,↓f179_L17,↓f179_J1];exact hk _ _ ⟨q4.base,by rw[<- q6];rfl⟩
  | succ i=>
   have hil:i<d.body.length:=by omega
   obtain⟨e,he⟩:∃e,d.body[i]?=some e:=⟨_,List.getElem?_eq_getElem hil⟩
   obtain⟨b,o,cs,a1,a2,w',rfl,a3⟩:=hw.at (β:=β) he;have hx0:ExIn h b o w' e:=⟨a2,a3⟩
   have hx:=hx0.ext q4.base;obtain⟨us,fx⟩:=hx.get β;unfold zG at fx;have en:((i+1:Nat):Int)-1=(i:Int):=by omega
   have g2:=zjn (lv:=lv) (j:=i) (by rw[q5.1];exact hil);have hlv:=q5.2 i;have e0:Ext h' ((h'.push (.own 0 [.int .i64 0,.int .i64 0,.int .i64 0,.nils])).set h'.n (.own 0 [.int .i64 e.kind,.int .i64 e.num,.int .i64 e.bind,w'])):=((Ext.refl h').push _).set (Nat.le_refl _) _;have q4':=q4.ext e0;obtain⟨f1',f2',f3'⟩:=q4'.facts;have hn1:h.n+2<=h'.n:=q4.1
   by_cases k1:lv.getD i 0+1=0
   ·have:=zbn d.body i lv he (.inl (by omega))
    simp (disch:=first|omega|simp only[zD]<;>omega|assumption) only[↓zR,↓zRM,zR,zRM,reduceAdd,reduceMul,reduceToNat,↓f179_J12,↓f179_J19,↓f179_J29,↓f179_J35,↓f179_J28,↓f179_L27,↓f179_J26,↓f179_J18,↓f179_L17,↓f179_J1,en,f1,f2,a1,g2,fx,eq_true k1];exact hk _ _ ⟨q4.base.trans e0,by rw[<- q6,this]⟩
   by_cases k2:8<lv.getD i 0+1-1
   ·have:=zbn d.body i lv he (.inr (.inl (by omega)))
    simp (disch:=first|omega|simp only[zD]<;>omega|assumption) only[↓zR,↓zRM,zR,zRM,reduceAdd,reduceMul,reduceToNat,↓f179_J12,↓f179_J19,↓f179_J29,↓f179_J35,↓f179_J28,↓f179_L27,↓f179_J26,↓f179_J18,↓f179_L17,↓f179_J1,en,f1,f2,a1,g2,fx,eq_false k1,eq_true k2];exact hk _ _ ⟨q4.base.trans e0,by rw[<- q6,this]⟩
   simp (disch:=first|omega|simp only[zD]<;>omega|assumption) only[↓zR,↓zRM,zR,zRM,reduceAdd,reduceMul,reduceToNat,↓f179_J12,↓f179_J19,↓f179_J29,↓f179_J35,↓f179_J28,↓f179_L27,↓f179_J26,↓f179_J18,↓f179_L17,↓f179_J1,en,f1,f2,a1,g2,fx,eq_false k1,eq_false k2];refine TC.w202 T m (e:=e) (w:=w') (hx.2.ext e0) (lv.getD i 0+1-1) ⟨by omega,by omega⟩ _ _ ?_;intro u h2 ⟨e1,e2⟩;subst e2;rw[show lv.getD i 0+1-1=lv.getD i 0 by omega];have q4'':=q4'.ext e1
   by_cases k3:zq e (lv.getD i 0)
   case neg=>
    have:=zbn d.body i lv he (.inr (.inr k3))
    simp (disch:=first|omega|simp only[zD]<;>omega|assumption) only[↓zR,↓zRM,zR,zRM,reduceAdd,reduceMul,reduceToNat,↓f179_J12,↓f179_J19,↓f179_J29,↓f179_J35,↓f179_J28,↓f179_L27,↓f179_J26,↓f179_J18,↓f179_L17,↓f179_J1,eq_false k3];exact hk _ _ ⟨q4''.base,by rw[<- q6,this]⟩
   have hs:=zfC d.body i lv he (by omega) (by omega) k3;have hkl:e.kids.length<=3:=by
    unfold zq Plain at k3;rcases k3 with h|h|h|h|h|h|h|h<;>omega
   simp (disch:=first|omega|simp only[zD]<;>omega|assumption) only[↓zR,↓zRM,zR,zRM,reduceAdd,reduceMul,reduceToNat,↓f179_J12,↓f179_J19,↓f179_J29,↓f179_J35,↓f179_J28,↓f179_L27,↓f179_J26,↓f179_J18,↓f179_L17,↓f179_J1,eq_true k3];refine inner i e he hkl _ ?_ e.kids.length (by omega) _ _ _ _ _ _ _ _ _ _ _ _ _ _ ⟨h'.n,w',0,lv,rfl,rfl,congrArg (AV.int .i64) en,rfl,by rw[e1.get _ (by rw[H.n_set,H.n_push];omega),zB rfl];rfl,by have:=e1.n;rw[H.n_set,H.n_push] at this;omega,hn1,hx0.2,rfl,by omega,q4'',q5,⟨by omega,by omega⟩,k3.bind,by rw[<- q6,hs];rfl⟩;intro lv' g3 g4 x0 x1 x2 x3 x4 x5 x6 x7 x8 x9 x10 x11 x12 h'' g5 g6 g7 g8;subst g6 g7 g8;simp (disch:=first|omega|simp only[zD]<;>omega|assumption) only[↓zR,↓zRM,zR,zRM,reduceAdd,reduceMul,reduceToNat,↓f179_J12,↓f179_J19,↓f179_J29,↓f179_J35,↓f179_J28,↓f179_L27,↓f179_J26,↓f179_J18,↓f179_L17,↓f179_J1];exact ih i (by omega) _ _ _ _ _ _ _ _ _ _ _ _ _ _ ⟨by omega,lv',rfl,rfl,rfl,g5,g3,g4⟩
 rw[TC.c179];unfold f179;have z1:=DMem.mk (h:=h) [.int .i64 d.params,w] (List.replicate d.body.length 0);obtain⟨f1,f2,f3⟩:=z1.facts;have hrep:List.replicate d.body.length (0:Int)=up (List.replicate d.body.length (-1)):=by simp[up]
 have hus:=up_set (List.replicate d.body.length (-1)) (d.body.length-1) d.params;have hfl:(List.replicate d.body.length (-1:Int)).set (d.body.length-1) d.params=zau d:=by
  unfold zau;refine List.ext_getElem? λq=>?_
  rcases Nat.lt_trichotomy q (d.body.length-1) with hq|hq|hq
  ·rw[List.getElem?_set_ne (by omega),List.getElem?_append_left (by rw[List.length_replicate];exact hq),List.getElem?_replicate,List.getElem?_replicate,if_pos (by omega),if_pos hq]
  ·subst hq;rw[List.getElem?_set_self (by rw[List.length_replicate];omega),List.getElem?_append_right (by rw[List.length_replicate];omega),List.length_replicate,Nat.sub_self];rfl
  ·rw[List.getElem?_eq_none (by rw[List.length_set,List.length_replicate];omega),List.getElem?_eq_none (by rw[List.length_append,List.length_replicate];simp;omega)]
 rw[hfl,<- hrep] at hus;simp (disch:=first|omega|simp only[zD]<;>omega|assumption) only[↓zR,↓zRM,zR,zRM,reduceAdd,reduceMul,reduceToNat,↓f179_J12,↓f179_J19,↓f179_J29,↓f179_J35,↓f179_J28,↓f179_L27,↓f179_J26,↓f179_J18,↓f179_L17,↓f179_J1,↓hb,wl,h30,eq_true c1,eq_true c2,hmk,tn,f1,f2,f3,hus,zL,List.length_replicate];refine outer d.body.length (Nat.le_refl _) _ _ _ _ _ _ _ _ _ _ _ _ _ _ ⟨Nat.le_refl _,zau d,rfl,rfl,rfl,z1.set _,⟨by unfold zau;rw[List.length_append,List.length_replicate];simp;omega,λq=>?_⟩,d0.symm⟩;rw[<- hfl]
 by_cases hq:d.body.length-1=q
 ·subst hq;rw[getD_set_eq _ _ (by rw[List.length_replicate];omega)];omega
 ·rw[getD_set_ne _ _ hq,List.getD_eq_getElem?_getD,List.getElem?_replicate];split<;>simp
end
end Am.F
end
section
namespace Am.F
open Go Am
def zE(p:List Df)(j:Int):Int:=((p[j.toNat]?).map Df.params).getD 0
def Odd(p:List Df)(e:Ex):Prop:=e.kind=2/\((p.length:Int)<=e.num\/¬ (e.kids.length:Int)=zE p e.num)
instance (p:List Df) (e:Ex):Decidable (Odd p e):=by unfold Odd;infer_instance
def zdb(p:List Df)(d:Df):Bool:=zU d&&d.body.all λe=>!decide (Odd p e)
def zo(p:List Df):Bool:=decide ((1<=p.length/\p.length<=8)/\zE p 0=0)&&p.all (zdb p)
theorem zer(body:List Ex):∀(i:Nat) (lv:List Int),zbk body i lv=true->∀j e,j<i->body[j]?=some e->∃l,zq e l
 | 0,_,_,j,e,hj,_=>absurd hj (by omega)
 | i+1,lv,h,j,e,hj,he=>by
  unfold zbk at h;cases hb:body[i]? with
  | none=>rw[hb] at h;cases h
  | some e'=>
   rw[hb] at h;simp only at h;split at h
   ·cases h
   ·rename_i hc;cases hk:zbG i e' 0 e'.kids lv with
    | none=>rw[hk] at h;cases h
    | some lv'=>
     rw[hk] at h;rcases Nat.lt_or_ge j i with hji|hji
     ·exact zer body i lv' h j e hji he
     ·have:j=i:=by omega
      subst this;rw[hb] at he;cases he;exact⟨_,Classical.byContradiction λhn=>hc (.inr (.inr hn))⟩
theorem zel{d:Df}(h:zU d=true){e:Ex}(he:e ∈ d.body):∃l,zq e l:=by
 unfold zU at h;rw[Bool.and_eq_true] at h;obtain⟨j,hj,hje⟩:=List.getElem_of_mem he;exact zer _ _ _ h.2 j e hj (by rw[List.getElem?_eq_getElem hj,hje])
theorem zq.call{e:Ex}{l:Int}(h:zq e l)(h2:e.kind=2):0<=e.num/\e.num<=7:=by
 unfold zq at h;rcases h with h|h|h|h|h|h|h|h<;>omega
theorem zaK{d:Df}(h:zU d=true):d.body.length<=24/\1<=d.body.length:=by
 unfold zU at h;rw[Bool.and_eq_true] at h;have:=of_decide_eq_true h.1
 omega
theorem zq.kids{e:Ex}{l:Int}(h:zq e l):e.kids.length<=3:=by
 unfold zq Plain at h;rcases h with h|h|h|h|h|h|h|h<;>omega
theorem exBox{β:Type}(e:Ex)(w:AV)(hh:H)(kk:K β):qBox 0 (.agg (zG e w)) hh (.mk kk)=kk (.ptr hh.n 0) (hh.push (.own 0 (zG e w))):=zr 0 _ hh kk
theorem zkP{β:Type}{h:H}{v:AV}{p:List Df}(hp:LAt 2 DfC h v p){j:Int}(h0:0<=j)(h1:j<p.length):∃b o us,(∀k:VK β,zO 2 v (.int .i64 j) (.mk k)=k (.ptr b o))/\(h.get b).cells=some us/\us[o]?=some (.int .i64 (zE p j)):=by
 obtain⟨j,rfl⟩:=Int.eq_ofNat_of_zero_le h0;obtain⟨d,hd⟩:∃d,p[j]?=some d:=⟨_,List.getElem?_eq_getElem (by omega)⟩
 obtain⟨b,o,cs,a1,a2,w,rfl,a3⟩:=hp.at (β:=β) hd;obtain⟨us,b1,b2,b3,b4⟩:=a2.get;refine⟨b,o,us,a1,b1,?_⟩;have:=b4 0 _ rfl
 rw[Nat.add_zero] at this;rw[this];unfold zE;rw[Int.toNat_natCast,hd];rfl
section
variable {β:Type} {t:ETree}
theorem GC.w186(TC:GC t)(n:Nat){h:H}{pb:Nat}{v w:AV}{p:List Df}{e:Ex}(hb:pb<h.n)(hg:(h.get pb).cells=some [v])(hp:LAt 2 DfC h v p)(hw:SlAt h w (ints e.kids))(he:e.kind=2->0<=e.num) :
  Sp (β:=β) (ze t stdI (n+1) (.fn 186 [.ptr pb 0]) [.agg (zG e w)] h) λu h'=>Ext h h'/\u = .bool (decide (Odd p e)):=by
 intro k R hk;have lw:∀kc:VK β,qLenL w (.mk kc)=kc (.int .i64 (e.kids.length:Int)):=λkc=>by rw[hw.len,zL]
 have lp:=hp.len (β:=β);have fin:∀b:Bool,(b=true↔Odd p e)->k (.bool b) (h.push (.own 0 (zG e w)))=R:=λb hbb=>hk _ _ ⟨(Ext.refl h).push _,by congr 1;rw[Bool.eq_iff_iff,hbb];simp⟩
 have hg1:((h.push (.own 0 (zG e w))).get pb)=h.get pb:=zc (by omega);have hx:=exBox (β:=β) e w
 by_cases c1:e.kind=2
 case neg=>
  rw[TC.c186];unfold f186;unfold zG at *;simp (disch:=first|omega|simp only[zD]<;>omega|assumption) only[↓zR,↓zRM,zR,zRM,reduceAdd,reduceMul,reduceToNat,List.cons_append,List.nil_append,↓hx,hg1,hg,eq_false c1];exact fin _ (by unfold Odd;simp[c1])
 by_cases c2:(p.length:Int)<=e.num
 ·rw[TC.c186];unfold f186;unfold zG at *;simp (disch:=first|omega|simp only[zD]<;>omega|assumption) only[↓zR,↓zRM,zR,zRM,reduceAdd,reduceMul,reduceToNat,List.cons_append,List.nil_append,↓hx,hg1,hg,eq_true c1,lp,eq_true c2];exact fin _ (by unfold Odd;simp[c1,c2])
 obtain⟨b,o,us,a1,a2,a3⟩:=zkP (β:=β) (hp.ext DfC.stays ((Ext.refl h).push (.own 0 (zG e w)))) (he c1) (by omega);rw[TC.c186];unfold f186;unfold zG at *;simp (disch:=first|omega|simp only[zD]<;>omega|assumption) only[↓zR,↓zRM,zR,zRM,reduceAdd,reduceMul,reduceToNat,List.cons_append,List.nil_append,↓hx,hg1,hg,eq_true c1,lp,lw,eq_false c2,a1,a2,a3];exact fin _ (by unfold Odd;simp[c1,c2])
def zci(p:List Df)(body:List Ex):Bool:=body.any λe=>decide (Odd p e)
theorem GC.w215(TC:GC t)(n:Nat){h:H}{pb:Nat}{v w:AV}{p:List Df}{body:List Ex}(hb:pb<h.n)(hg:(h.get pb).cells=some [v])(hp:LAt 2 DfC h v p)(hw:LAt 4 ExC h w body)(hn:body.length+3<=n)(hl:body.length<=9223372036854775807)
  (he:∀e ∈ body,e.kind=2->0<=e.num) :
  Sp (β:=β) (ze t stdI n (.fn 215 []) [w,.fn 186 [.ptr pb 0]] h) λu h'=>Ext h h'/\∃r:Int,u = .int .i64 r/\decide (0<=r)=zci p body:=by
 intro k R hk;obtain⟨m,rfl⟩:∃m,n=m+2:=⟨n-2,by omega⟩
 have wl:=hw.len (β:=β);rw[TC.c215];unfold f215;simp (disch:=first|omega|simp only[zD]<;>omega|assumption) only[↓zR,↓zRM,zR,zRM,reduceAdd,reduceMul,reduceToNat,↓f215_J0,↓f215_J5,↓f215_J4,↓f215_L2,wl];refine zaa 7 (m+1) _ _ (λi x0 x1 x2 x3 x4 x5 x6 h'=>∃j:Nat,x0=w/\x1 = .fn 186 [.ptr pb 0]/\x4 = .int .i64 (body.length:Int)/\x5 = .int .i64 (j:Int)/\j+i=body.length/\Ext h h'/\zci p (body.take j)=false) body.length (by omega) ?_ _ _ _ _ _ _ _ _
  ⟨0,rfl,rfl,rfl,rfl,by omega,Ext.refl h,rfl⟩
 intro l i ih x0 x1 x2 x3 x4 x5 x6 h' ⟨j,q1,q2,q3,q4,q5,q6,q7⟩;subst q1 q2 q3 q4;cases i with
 | zero=>
  have hj:j=body.length:=by omega
  subst hj;rw[List.take_length] at q7;simp (disch:=first|omega|simp only[zD]<;>omega|assumption) only[↓zR,↓zRM,zR,zRM,reduceAdd,reduceMul,reduceToNat,↓f215_J0,↓f215_J5,↓f215_J4,↓f215_L2];exact hk _ _ ⟨q6,-1,rfl,by rw[q7];rfl⟩
 | succ i=>
  have hj:j<body.length:=by omega
  obtain⟨e,hje⟩:∃e,body[j]?=some e:=⟨_,List.getElem?_eq_getElem hj⟩
  obtain⟨b,o,cs,a1,a2,w',rfl,a3⟩:=hw.at (β:=β) hje;obtain⟨us,b1,b2,b3,b4⟩:=(a2.ext q6).get;have hmem:e ∈ body:=List.mem_of_getElem? hje;have htk:body.take (j+1)=body.take j++[e]:=by rw[List.take_add_one,hje];rfl
  have hod:zci p (body.take (j+1))=decide (Odd p e):=by
   unfold zci at q7 ⊢;rw[htk,List.any_append,q7];simp
  simp (disch:=first|omega|simp only[zD]<;>omega|assumption) only[↓zR,↓zRM,zR,zRM,reduceAdd,reduceMul,reduceToNat,↓f215_J0,↓f215_J5,↓f215_J4,↓f215_L2,a1,b1,b2,b3];refine TC.w186 m (by have:=q6.n;omega) (by rw[q6.get _ hb];exact hg) (hp.ext DfC.stays q6) (a3.ext q6) (he e hmem) _ _ ?_;intro u h2 ⟨e1,e2⟩;subst e2
  by_cases c:Odd p e
  ·simp (disch:=first|omega|simp only[zD]<;>omega|assumption) only[↓zR,↓zRM,zR,zRM,reduceAdd,reduceMul,reduceToNat,↓f215_J0,↓f215_J5,↓f215_J4,↓f215_L2,eq_true c];refine hk _ _ ⟨q6.trans e1,j,rfl,?_⟩;rw[decide_eq_true (by omega)];refine (List.any_eq_true.2 ⟨e,hmem,?_⟩).symm;exact decide_eq_true c
  ·simp (disch:=first|omega|simp only[zD]<;>omega|assumption) only[↓zR,↓zRM,zR,zRM,reduceAdd,reduceMul,reduceToNat,↓f215_J0,↓f215_J5,↓f215_J4,↓f215_L2,eq_false c];exact ih i (by omega) _ _ _ _ _ _ _ _ ⟨j+1,rfl,rfl,rfl,rfl,by omega,q6.trans e1,by rw[hod];exact decide_eq_false c⟩
theorem GC.w188(TC:GC t)(n:Nat){h:H}{pb:Nat}{v w:AV}{p:List Df}{body:List Ex}(hb:pb<h.n)(hg:(h.get pb).cells=some [v])(hp:LAt 2 DfC h v p)(hw:LAt 4 ExC h w body)(hn:body.length+4<=n)(hl:body.length<=9223372036854775807)
  (he:∀e ∈ body,e.kind=2->0<=e.num) :
  Sp (β:=β) (ze t stdI n (.fn 188 []) [w,.fn 186 [.ptr pb 0]] h) λu h'=>Ext h h'/\u = .bool (zci p body):=by
 intro k R hk;obtain⟨m,rfl⟩:∃m,n=m+1:=⟨n-1,by omega⟩
 rw[TC.c188];unfold f188;simp (disch:=first|omega|simp only[zD]<;>omega|assumption) only[↓zR,↓zRM,zR,zRM,reduceAdd,reduceMul,reduceToNat];refine TC.w215 m hb hg hp hw (by omega) hl he _ _ ?_;intro u h2 ⟨e1,r,e2,e3⟩;subst e2;simp (disch:=first|omega|simp only[zD]<;>omega|assumption) only[↓zR,↓zRM,zR,zRM,reduceAdd,reduceMul,reduceToNat];exact hk _ _ ⟨e1,by rw[e3]⟩
theorem zda(p:List Df)(d:Df):zdb p d=(zU d&&!zci p d.body):=by
 unfold zdb zci;congr 1;rw[List.not_any_eq_all_not]
theorem zaC{p:List Df}(h:zo p=true):(1<=p.length/\p.length<=8)/\zE p 0=0/\∀d ∈ p,zU d=true/\zci p d.body=false:=by
 unfold zo at h;rw[Bool.and_eq_true,List.all_eq_true] at h;refine⟨(of_decide_eq_true h.1).1,(of_decide_eq_true h.1).2,λd hd=>?_⟩;have:=h.2 d hd
 rw[zda,Bool.and_eq_true] at this;exact⟨this.1,by simpa using this.2⟩
theorem GC.w157(TC:GC t)(T:GA t)(n:Nat)(hn:60<=n){h:H}{a:AV}{p:List Df}(hp:PgAt h a p)(hl:p.length<=9223372036854775807)(hl2:∀d ∈ p,d.body.length<=9223372036854775807) :
  Sp (β:=β) (ze t stdI n (.fn 157 []) [a] h) λu h'=>Ext h h'/\u = .bool (zo p):=by
 intro k R hk;obtain⟨m,rfl⟩:∃m,n=m+1:=⟨n-1,by omega⟩
 obtain⟨v,rfl,hv⟩:=hp;have hb:∀(v:AV) (hh:H) (kk:K β),qBox 0 (.agg [v]) hh (.mk kk)=kk (.ptr hh.n 0) (hh.push (.own 0 [v])):=λv hh kk=>zr 0 _ hh kk
 have lv:=hv.len (β:=β);have e0:Ext h (h.push (.own 0 [v])):=(Ext.refl h).push _;have n0:h.n<(h.push (.own 0 [v])).n:=by rw[H.n_push];omega
 have hbx:(h.push (.own 0 [v])).get h.n = .own 0 [v]:=zf rfl
 by_cases c1:(p.length:Int)=0
 ·rw[TC.c157];unfold f157;simp (disch:=first|omega|simp only[zD]<;>omega|assumption) only[↓zR,↓zRM,zR,zRM,reduceAdd,reduceMul,reduceToNat,↓f157_J2,↓f157_J9,↓f157_J8,↓f157_L6,↓f157_J1,↓hb,lv,eq_true c1];exact hk _ _ ⟨e0,by unfold zo;rw[decide_eq_false (by omega)];rfl⟩
 by_cases c2:(8:Int)<p.length
 ·rw[TC.c157];unfold f157;simp (disch:=first|omega|simp only[zD]<;>omega|assumption) only[↓zR,↓zRM,zR,zRM,reduceAdd,reduceMul,reduceToNat,↓f157_J2,↓f157_J9,↓f157_J8,↓f157_L6,↓f157_J1,↓hb,lv,eq_false c1,eq_true c2];exact hk _ _ ⟨e0,by unfold zo;rw[decide_eq_false (by omega)];rfl⟩
 obtain⟨b,o,us,a1,a2,a3⟩:=zkP (β:=β) (hv.ext DfC.stays e0) (Int.le_refl 0) (by omega)
 by_cases c3:zE p 0=0
 case neg=>
  rw[TC.c157];unfold f157;simp (disch:=first|omega|simp only[zD]<;>omega|assumption) only[↓zR,↓zRM,zR,zRM,reduceAdd,reduceMul,reduceToNat,↓f157_J2,↓f157_J9,↓f157_J8,↓f157_L6,↓f157_J1,↓hb,lv,eq_false c1,eq_false c2,a1,a2,a3,eq_false c3];exact hk _ _ ⟨e0,by unfold zo;rw[decide_eq_false (by omega)];rfl⟩
 have hpm:zo p=p.all (zdb p):=by unfold zo;rw[decide_eq_true ⟨⟨by omega,by omega⟩,c3⟩];rfl
 rw[TC.c157];unfold f157;simp (disch:=first|omega|simp only[zD]<;>omega|assumption) only[↓zR,↓zRM,zR,zRM,reduceAdd,reduceMul,reduceToNat,↓f157_J2,↓f157_J9,↓f157_J8,↓f157_L6,↓f157_J1,↓hb,lv,eq_false c1,eq_false c2,a1,a2,a3,eq_true c3];refine zaa 10 m _ _ (λi x0 x1 x2 x3 x4 x5 x6 x7 x8 x9 h'=>∃j:Nat,x3 = .fn 186 [.ptr h.n 0]/\x5=v/\x6 = .int .i64 (p.length:Int)/\x7 = .int .i64 (j:Int)/\j+i=p.length/\Ext (h.push (.own 0 [v])) h'/\(p.take j).all (zdb p)=true) p.length (by omega) ?_ _ _ _ _ _ _ _ _ _ _ _
  ⟨0,rfl,rfl,rfl,rfl,by omega,Ext.refl _,rfl⟩
 intro l i ih x0 x1 x2 x3 x4 x5 x6 x7 x8 x9 h' ⟨j,q1,q2,q3,q4,q5,q6,q7⟩;subst q1 q2 q3 q4;cases i with
 | zero=>
  have hj:j=p.length:=by omega
  subst hj;rw[List.take_length] at q7;simp (disch:=first|omega|simp only[zD]<;>omega|assumption) only[↓zR,↓zRM,zR,zRM,reduceAdd,reduceMul,reduceToNat,↓f157_J2,↓f157_J9,↓f157_J8,↓f157_L6,↓f157_J1];exact hk _ _ ⟨e0.trans q6,by rw[hpm,q7]⟩
 | succ i=>
  have hj:j<p.length:=by omega
  obtain⟨d,hd⟩:∃d,p[j]?=some d:=⟨_,List.getElem?_eq_getElem hj⟩
  have hdm:d ∈ p:=List.mem_of_getElem? hd;have hvx:=hv.ext DfC.stays e0;obtain⟨b',o',cs,s1,s2,w,rfl,s3⟩:=hvx.at (β:=β) hd;obtain⟨us',b1,b2,b3,b4⟩:=(s2.ext q6).get;have htk:p.take (j+1)=p.take j++[d]:=by rw[List.take_add_one,hd];rfl
  have hall:(p.take (j+1)).all (zdb p)=zdb p d:=by rw[htk,List.all_append,q7];simp
  have hff:zdb p d=false->zo p=false:=λhf=>by
   rw[hpm];refine Bool.eq_false_iff.2 λhh=>?_
   rw[List.all_eq_true] at hh;rw[hh d hdm] at hf;cases hf
  have e1:Ext h' ((h'.push (.own 0 [.int .i64 0,.nils])).set h'.n (.own 0 [.int .i64 d.params,w])):=((Ext.refl h').push _).set (Nat.le_refl _) _;have ws:=s3.sc;simp (disch:=first|omega|simp only[zD]<;>omega|assumption) only[↓zR,↓zRM,zR,zRM,reduceAdd,reduceMul,reduceToNat,↓f157_J2,↓f157_J9,↓f157_J8,↓f157_L6,↓f157_J1,s1,b1,b2,b3];refine TC.w187 T m (by omega) (d:=d) (s3.ext ExC.stays (q6.trans e1)) (hl2 d hdm) _ _ ?_;intro u h2 ⟨e2,e3⟩;subst e3;cases c:zU d with
  | false=>
   simp (disch:=first|omega|simp only[zD]<;>omega|assumption) only[↓zR,↓zRM,zR,zRM,reduceAdd,reduceMul,reduceToNat,↓f157_J2,↓f157_J9,↓f157_J8,↓f157_L6,↓f157_J1];exact hk _ _ ⟨(e0.trans q6).trans (e1.trans e2),by rw[hff (by rw[zda,c];rfl)]⟩
  | true=>
   have hcell:(h2.get h'.n).cells=some [.int .i64 d.params,w]:=by rw[e2.get _ (by rw[H.n_set,H.n_push];omega),zB rfl];rfl
   simp (disch:=first|omega|simp only[zD]<;>omega|assumption) only[↓zR,↓zRM,zR,zRM,reduceAdd,reduceMul,reduceToNat,↓f157_J2,↓f157_J9,↓f157_J8,↓f157_L6,↓f157_J1,hcell];have ee:=q6.trans (e1.trans e2);refine TC.w188 m (pb:=h.n) (p:=p) (body:=d.body) (by have:=ee.n;omega) (by rw[ee.get _ n0,hbx];rfl) (hvx.ext DfC.stays ee) (s3.ext ExC.stays ee) (by have:=zaK c;omega) (hl2 d hdm) (λe he h2=>by obtain⟨l,hl⟩:=zel c he;exact (hl.call h2).1) _ _ ?_;intro u h3 ⟨e4,e5⟩;subst e5;cases c4:zci p d.body with
   | true=>
    simp (disch:=first|omega|simp only[zD]<;>omega|assumption) only[↓zR,↓zRM,zR,zRM,reduceAdd,reduceMul,reduceToNat,↓f157_J2,↓f157_J9,↓f157_J8,↓f157_L6,↓f157_J1];exact hk _ _ ⟨(e0.trans ee).trans e4,by rw[hff (by rw[zda,c4,c];rfl)]⟩
   | false=>
    simp (disch:=first|omega|simp only[zD]<;>omega|assumption) only[↓zR,↓zRM,zR,zRM,reduceAdd,reduceMul,reduceToNat,↓f157_J2,↓f157_J9,↓f157_J8,↓f157_L6,↓f157_J1];exact ih i (by omega) _ _ _ _ _ _ _ _ _ _ _ ⟨j+1,rfl,rfl,rfl,rfl,by omega,ee.trans e4,by rw[hall,zda,c,c4];rfl⟩
end
end Am.F
end
section
namespace Am.F
open Go Am
section
variable {β:Type} {t:ETree}
theorem GC.w149(TC:GC t)(T:GA t)(n:Nat)(hn:60<=n){h:H}{a:AV}{p:List Df}(hp:PgAt h a p)(hl:p.length<=9223372036854775807)(hl2:∀d ∈ p,d.body.length<=9223372036854775807) :
  Sp (β:=β) (ze t stdI n (.fn 149 []) [a] h) λu h'=>Ext h h'/\u = .bool (zo p):=by
 intro k R hk;obtain⟨m,rfl⟩:∃m,n=m+2:=⟨n-2,by omega⟩
 obtain⟨v,rfl,hv⟩:=hp;have hb:∀(v:AV) (hh:H) (kk:K β),qBox 0 (.agg [v]) hh (.mk kk)=kk (.ptr hh.n 0) (hh.push (.own 0 [v])):=λv hh kk=>zr 0 _ hh kk
 have lv:=hv.len (β:=β);have e0:Ext h (h.push (.own 0 [v])):=(Ext.refl h).push _;have n0:h.n<(h.push (.own 0 [v])).n:=by rw[H.n_push];omega
 have hbx:(h.push (.own 0 [v])).get h.n = .own 0 [v]:=zf rfl;have h30:=λ(x y z:Int) (hh:H) (kk:K β)=>T.w30 m x y z hh kk
 by_cases c1:1<=(p.length:Int)/\(p.length:Int)<=8
 case neg=>
  rw[TC.c149];unfold f149;simp (disch:=first|omega|simp only[zD]<;>omega|assumption) only[↓zR,↓zRM,zR,zRM,reduceAdd,reduceMul,reduceToNat,↓f149_J2,↓f149_J5,↓f149_J10,↓f149_J9,↓f149_L8,↓f149_J7,↓f149_J4,↓f149_L3,↓f149_J1,↓hb,lv,h30,eq_false c1];exact hk _ _ ⟨e0,by unfold zo;rw[decide_eq_false (by omega)];rfl⟩
 obtain⟨b,o,us,a1,a2,a3⟩:=zkP (β:=β) (hv.ext DfC.stays e0) (Int.le_refl 0) (by omega)
 by_cases c3:zE p 0=0
 case neg=>
  rw[TC.c149];unfold f149;simp (disch:=first|omega|simp only[zD]<;>omega|assumption) only[↓zR,↓zRM,zR,zRM,reduceAdd,reduceMul,reduceToNat,↓f149_J2,↓f149_J5,↓f149_J10,↓f149_J9,↓f149_L8,↓f149_J7,↓f149_J4,↓f149_L3,↓f149_J1,↓hb,lv,h30,eq_true c1,a1,a2,a3,eq_false c3];exact hk _ _ ⟨e0,by unfold zo;rw[decide_eq_false (by omega)];rfl⟩
 have hpm:zo p=p.all (zdb p):=by unfold zo;rw[decide_eq_true ⟨⟨by omega,by omega⟩,c3⟩];rfl
 have hvx:=hv.ext DfC.stays e0;clear a1 a2 a3;have inner:∀(i:Nat) (d:Df) (hd:p[i]?=some d) (hm:zU d=true) (j5:Cur β 8) (hj:∀x0 x1 x2 x3 x4 x5 x6 x7 h',x1 = .ptr h.n 0->x3 = .int .i64 (i:Int)->Ext (h.push (.own 0 [v])) h'->zci p d.body=false->j5 x0 x1 x2 x3 x4 x5 x6 x7 h'=R),
   ∀x0 x1 x2 x3 x4 x5 x6 x7 h',(∃kk:Nat,x1 = .ptr h.n 0/\x3 = .int .i64 (i:Int)/\x4 = .int .i64 (kk:Int)/\kk+d.body.length=d.body.length/\Ext (h.push (.own 0 [v])) h'/\zci p (d.body.take kk)=false) ->
    zaR 8 (m+1) (.mk (f149_L8 k j5)) x0 x1 x2 x3 x4 x5 x6 x7 h'=R:=by
  intro i d hd hm j5 hj;have hil:i<p.length:=(List.getElem?_eq_some_iff.1 hd).1;have hdm:d ∈ p:=List.mem_of_getElem? hd;have hdl:=zaK hm;refine zaa 8 (m+1) _ _ (λkn x0 x1 x2 x3 x4 x5 x6 x7 h'=>∃kk:Nat,x1 = .ptr h.n 0/\x3 = .int .i64 (i:Int)/\x4 = .int .i64 (kk:Int)/\kk+kn=d.body.length/\Ext (h.push (.own 0 [v])) h'/\zci p (d.body.take kk)=false) d.body.length (by omega) ?_;intro l kn ih x0 x1 x2 x3 x4 x5 x6 x7 h' ⟨kk,q1,q2,q3,q4,q5,q6⟩;subst q1 q2 q3;have hc:(h'.get h.n).cells=some [v]:=by rw[q5.get _ n0,hbx];rfl
  obtain⟨b',o',cs,s1,s2,w,rfl,s3⟩:=hvx.at (β:=β) hd;obtain⟨us',b1,b2,b3,b4⟩:=(s2.ext q5).get;have b5:=b4 1 _ rfl;have lw:=s3.len (β:=β);cases kn with
  | zero=>
   have hk':kk=d.body.length:=by omega
   subst hk';rw[List.take_length] at q6;simp (disch:=first|omega|simp only[zD]<;>omega|assumption) only[↓zR,↓zRM,zR,zRM,reduceAdd,reduceMul,reduceToNat,↓f149_J2,↓f149_J5,↓f149_J10,↓f149_J9,↓f149_L8,↓f149_J7,↓f149_J4,↓f149_L3,↓f149_J1,hc,s1,b1,b5,lw];exact hj _ _ _ _ _ _ _ _ _ rfl rfl q5 q6
  | succ kn=>
   have hkl:kk<d.body.length:=by omega
   obtain⟨e,hje⟩:∃e,d.body[kk]?=some e:=⟨_,List.getElem?_eq_getElem hkl⟩
   have hmem:e ∈ d.body:=List.mem_of_getElem? hje;obtain⟨be,oe,cs,r1,r2,w',rfl,r3⟩:=s3.at (β:=β) hje;obtain⟨ue,t1,t2,t3,t4⟩:=(r2.ext q5).get;obtain⟨pl,hpl⟩:=zel hm hmem;have htk:d.body.take (kk+1)=d.body.take kk++[e]:=by rw[List.take_add_one,hje];rfl
   have hod:zci p (d.body.take (kk+1))=decide (Odd p e):=by
    unfold zci at q6 ⊢;rw[htk,List.any_append,q6];simp
   have hfp:Odd p e->zo p=false:=λho=>by
    refine Bool.eq_false_iff.2 λhh=>?_
    have:=(zaC hh).2.2 d hdm
    unfold zci at this;rw[List.any_eq_false] at this;exact this.2 e hmem (decide_eq_true ho)
   unfold zG at t3;have e1:Ext h' ((h'.push (.own 0 [.int .i64 0,.int .i64 0,.int .i64 0,.nils])).set h'.n (.own 0 [.int .i64 e.kind,.int .i64 e.num,.int .i64 e.bind,w'])):=((Ext.refl h').push _).set (Nat.le_refl _) _;have hc':(((h'.push (.own 0 [.int .i64 0,.int .i64 0,.int .i64 0,.nils])).set h'.n (.own 0 [.int .i64 e.kind,.int .i64 e.num,.int .i64 e.bind,w'])).get h.n).cells=some [v]:=by rw[e1.get _ (by have:=q5.n;omega)];exact hc
   have lw':∀kc:VK β,qLenL w' (.mk kc)=kc (.int .i64 (e.kids.length:Int)):=λkc=>by rw[r3.len,zL]
   have goOn:¬ Odd p e->∀x0 x1 x2 x3 x4 x5 x6 x7,x1 = .ptr h.n 0->x3 = .int .i64 (i:Int)->x4 = .int .i64 ((kk:Int)+1)->l x0 x1 x2 x3 x4 x5 x6 x7 ((h'.push (.own 0 [.int .i64 0,.int .i64 0,.int .i64 0,.nils])).set h'.n (.own 0 [.int .i64 e.kind,.int .i64 e.num,.int .i64 e.bind,w']))=R:=by
    intro ho x0 x1 x2 x3 x4 x5 x6 x7 y1 y3 y4;exact ih kn (by omega) x0 x1 x2 x3 x4 x5 x6 x7 _ ⟨kk+1,y1,y3,y4,by omega,q5.trans e1,by rw[hod];exact decide_eq_false ho⟩
   by_cases k1:e.kind=2
   case neg=>
    simp (disch:=first|omega|simp only[zD]<;>omega|assumption) only[↓zR,↓zRM,zR,zRM,reduceAdd,reduceMul,reduceToNat,↓f149_J2,↓f149_J5,↓f149_J10,↓f149_J9,↓f149_L8,↓f149_J7,↓f149_J4,↓f149_L3,↓f149_J1,hc,s1,b1,b5,lw,r1,t1,t2,t3,eq_false k1];exact goOn (by unfold Odd;simp[k1]) _ _ _ _ _ _ _ _ rfl rfl rfl
   by_cases k2:(p.length:Int)<=e.num
   ·simp (disch:=first|omega|simp only[zD]<;>omega|assumption) only[↓zR,↓zRM,zR,zRM,reduceAdd,reduceMul,reduceToNat,↓f149_J2,↓f149_J5,↓f149_J10,↓f149_J9,↓f149_L8,↓f149_J7,↓f149_J4,↓f149_L3,↓f149_J1,hc,hc',s1,b1,b5,lw,r1,t1,t2,t3,eq_true k1,lv,eq_true k2];exact hk _ _ ⟨e0.trans (q5.trans e1),by rw[hfp (by unfold Odd;simp[k1,k2])]⟩
   obtain⟨bd,od,ud,a1,a2,a3⟩:=zkP (β:=β) (hvx.ext DfC.stays (q5.trans e1)) (hpl.call k1).1 (by omega)
   by_cases k3:(e.kids.length:Int)=zE p e.num
   ·simp (disch:=first|omega|simp only[zD]<;>omega|assumption) only[↓zR,↓zRM,zR,zRM,reduceAdd,reduceMul,reduceToNat,↓f149_J2,↓f149_J5,↓f149_J10,↓f149_J9,↓f149_L8,↓f149_J7,↓f149_J4,↓f149_L3,↓f149_J1,hc,hc',s1,b1,b5,lw,r1,t1,t2,t3,eq_true k1,lv,eq_false k2,lw',a1,a2,a3,eq_true k3];exact goOn (by unfold Odd;simp[k1,k2,k3]) _ _ _ _ _ _ _ _ rfl rfl rfl
   ·simp (disch:=first|omega|simp only[zD]<;>omega|assumption) only[↓zR,↓zRM,zR,zRM,reduceAdd,reduceMul,reduceToNat,↓f149_J2,↓f149_J5,↓f149_J10,↓f149_J9,↓f149_L8,↓f149_J7,↓f149_J4,↓f149_L3,↓f149_J1,hc,hc',s1,b1,b5,lw,r1,t1,t2,t3,eq_true k1,lv,eq_false k2,lw',a1,a2,a3,eq_false k3];exact hk _ _ ⟨e0.trans (q5.trans e1),by rw[hfp (by unfold Odd;simp[k1,k2,k3])]⟩
 obtain⟨b,o,us,a1,a2,a3⟩:=zkP (β:=β) hvx (Int.le_refl 0) (by omega);rw[TC.c149];unfold f149;simp (disch:=first|omega|simp only[zD]<;>omega|assumption) only[↓zR,↓zRM,zR,zRM,reduceAdd,reduceMul,reduceToNat,↓f149_J2,↓f149_J5,↓f149_J10,↓f149_J9,↓f149_L8,↓f149_J7,↓f149_J4,↓f149_L3,↓f149_J1,↓hb,lv,h30,eq_true c1,a1,a2,a3,eq_true c3];refine zaa 8 (m+1) _ _ (λi x0 x1 x2 x3 x4 x5 x6 x7 h'=>∃j:Nat,x1 = .ptr h.n 0/\x3 = .int .i64 (j:Int)/\j+i=p.length/\Ext (h.push (.own 0 [v])) h'/\(p.take j).all (zdb p)=true) p.length (by omega) ?_ _ _ _ _ _ _ _ _ _
  ⟨0,rfl,rfl,by omega,Ext.refl _,rfl⟩
 intro l i ih x0 x1 x2 x3 x4 x5 x6 x7 h' ⟨j,q1,q2,q5,q6,q7⟩;subst q1 q2;have hc:(h'.get h.n).cells=some [v]:=by rw[q6.get _ n0,hbx];rfl
 cases i with
 | zero=>
  have hj:j=p.length:=by omega
  subst hj;rw[List.take_length] at q7;simp (disch:=first|omega|simp only[zD]<;>omega|assumption) only[↓zR,↓zRM,zR,zRM,reduceAdd,reduceMul,reduceToNat,↓f149_J2,↓f149_J5,↓f149_J10,↓f149_J9,↓f149_L8,↓f149_J7,↓f149_J4,↓f149_L3,↓f149_J1,hc,lv];exact hk _ _ ⟨e0.trans q6,by rw[hpm,q7]⟩
 | succ i=>
  have hj:j<p.length:=by omega
  obtain⟨d,hd⟩:∃d,p[j]?=some d:=⟨_,List.getElem?_eq_getElem hj⟩
  have hdm:d ∈ p:=List.mem_of_getElem? hd;obtain⟨b',o',cs,s1,s2,w,rfl,s3⟩:=hvx.at (β:=β) hd;obtain⟨us',b1,b2,b3,b4⟩:=(s2.ext q6).get;have htk:p.take (j+1)=p.take j++[d]:=by rw[List.take_add_one,hd];rfl
  have hall:(p.take (j+1)).all (zdb p)=zdb p d:=by rw[htk,List.all_append,q7];simp
  simp (disch:=first|omega|simp only[zD]<;>omega|assumption) only[↓zR,↓zRM,zR,zRM,reduceAdd,reduceMul,reduceToNat,↓f149_J2,↓f149_J5,↓f149_J10,↓f149_J9,↓f149_L8,↓f149_J7,↓f149_J4,↓f149_L3,↓f149_J1,hc,lv,s1,b1,b2,b3];refine TC.w179 T (m+1) (by omega) (d:=d) (s3.ext ExC.stays q6) (hl2 d hdm) _ _ ?_;intro u h2 ⟨e2,e3⟩;subst e3;cases c:zU d with
  | false=>
   simp (disch:=first|omega|simp only[zD]<;>omega|assumption) only[↓zR,↓zRM,zR,zRM,reduceAdd,reduceMul,reduceToNat,↓f149_J2,↓f149_J5,↓f149_J10,↓f149_J9,↓f149_L8,↓f149_J7,↓f149_J4,↓f149_L3,↓f149_J1];refine hk _ _ ⟨e0.trans (q6.trans e2),congrArg AV.bool (Eq.symm (Bool.eq_false_iff.2 λhh=>?_))⟩;have:=(zaC hh).2.2 d hdm
   rw[c] at this;cases this.1
  | true=>
   simp (disch:=first|omega|simp only[zD]<;>omega|assumption) only[↓zR,↓zRM,zR,zRM,reduceAdd,reduceMul,reduceToNat,↓f149_J2,↓f149_J5,↓f149_J10,↓f149_J9,↓f149_L8,↓f149_J7,↓f149_J4,↓f149_L3,↓f149_J1];refine inner j d hd c _ ?_ _ _ _ _ _ _ _ _ _ ⟨0,rfl,rfl,rfl,by omega,q6.trans e2,rfl⟩;intro x0 x1 x2 x3 x4 x5 x6 x7 h4 y1 y2 y3 y4;subst y1 y2;simp (disch:=first|omega|simp only[zD]<;>omega|assumption) only[↓zR,↓zRM,zR,zRM,reduceAdd,reduceMul,reduceToNat,↓f149_J2,↓f149_J5,↓f149_J10,↓f149_J9,↓f149_L8,↓f149_J7,↓f149_J4,↓f149_L3,↓f149_J1];exact ih i (by omega) _ _ _ _ _ _ _ _ _ ⟨j+1,rfl,rfl,by omega,y3,by rw[hall,zda,c,y4];rfl⟩
end
end Am.F
end
