/- Texts that belong together: no condition. -/
import Derived.Test.YtlidemdbimpkaaaDoorAmJc
import Derived.Test.YtlidemdbimpkaaaDoorAmJg
import Derived.Test.YtlidemdbimpkaaaDoorAmOpen
open Nat (reduceAdd reduceMul)
open Int (reduceToNat)
set_option maxRecDepth 100000
set_option linter.unusedVariables false
set_option linter.unusedSimpArgs false
set_option linter.defProp false
section
namespace Am.T
open Go
def s149:SFn:=.src 77 [0,1,2,3,4,5,52,76] [.tmp 2]<|.seq (.reg [.set 1 (.P 1 (.box 0) [.V 0]),.set 2 (.M 2 (.k (.bool false)))])<|.seq (.ifr [] (.or 11 18 (.P 10 .notB [.P 9 (.call 30) [.P 8 .lenL [.P 7 .load1 [.P 6 (.fadr 0) [.V 1]]],.I 1,.I 8]]) (.P 17 (.binI .neq) [.P 16 .load1 [.P 15 (.fadr 0) [.P 14 (.iadr 2) [.P 13 .load1 [.P 12 (.fadr 0) [.V 1]],.I 0]]],.I 0])) (.seq (.reg [.set 2 (.M 2 (.k (.bool false)))])<|.ret) .skip)<|.seq (.seq (.reg [.set 3 (.M 3 (.I 0))])<|.block 0<|.loop [1,3]<|.seq (.ifr [] (.P 23 (.binI .lss) [.W 3 19,.P 22 .lenL [.P 21 .load1 [.P 20 (.fadr 0) [.V 1]]]]) .skip (.exit 0))<|.seq (.block 1<|.seq (.ifr [] (.P 32 .notB [.P 31 (.call 179) [.P 30 (.loadN 2) [.P 29 (.iadr 2) [.P 27 .load1 [.P 26 (.fadr 0) [.V 1]],.W 3 28]]]]) (.seq (.reg [.set 2 (.M 2 (.k (.bool false)))])<|.ret) .skip)<|.seq (.reg [.set 4 (.M 4 (.I 0))])<|.block 2<|.loop [1,3,4]<|.seq (.ifr [] (.P 41 (.binI .lss) [.W 4 33,.P 40 .lenL [.P 39 .load1 [.P 38 (.fadr 1) [.P 37 (.iadr 2) [.P 35 .load1 [.P 34 (.fadr 0) [.V 1]],.W 3 36]]]]]) .skip (.exit 2))<|.seq (.block 3<|.seq (.reg [.set 6 (.P 52 (.loadN 4) [.P 51 (.iadr 4) [.P 49 .load1 [.P 48 (.fadr 1) [.P 47 (.iadr 2) [.P 45 .load1 [.P 44 (.fadr 0) [.V 1]],.W 3 46]]],.W 4 50]]),.set 5 (.P 5 (.alloc 0 [.int .i64 0,.int .i64 0,.int .i64 0,.nils]) []),.ef (.op none (.store 4) [.V 5,.V 6])])<|.seq (.dreg [53,54,55,56,57,58,59,60,61,62,63,64,65,66,67,68,69,70,71,72,73,74,75] [⟨ (some 8),.fadr 0,[.t 5],none⟩,⟨ (some 9),.load1,[.t 8],none⟩,⟨ (some 10),.binI .eql,[.t 9,.c (.int .i64 2)],none⟩,⟨ (some 11),.mov,[.t 10],none⟩,⟨ (some 12),.fadr 1,[.t 5],(some (11 ,true)) ⟩,⟨ (some 13),.load1,[.t 12],(some (11 ,true)) ⟩,⟨ (some 14),.fadr 0,[.t 1],(some (11 ,true)) ⟩,⟨ (some 15),.load1,[.t 14],(some (11 ,true)) ⟩,⟨ (some 16),.lenL,[.t 15],(some (11 ,true)) ⟩,⟨ (some 17),.binI .geq,[.t 13,.t 16],(some (11 ,true)) ⟩,⟨ (some 18),.mov,[.t 17],(some (11 ,true)) ⟩,⟨ (some 19),.fadr 3,[.t 5],(some (18 ,false)) ⟩,⟨ (some 20),.load1,[.t 19],(some (18 ,false)) ⟩,⟨ (some 21),.lenL,[.t 20],(some (18 ,false)) ⟩,⟨ (some 22),.fadr 0,[.t 1],(some (18 ,false)) ⟩,⟨ (some 23),.load1,[.t 22],(some (18 ,false)) ⟩,⟨ (some 24),.fadr 1,[.t 5],(some (18 ,false)) ⟩,⟨ (some 25),.load1,[.t 24],(some (18 ,false)) ⟩,⟨ (some 26),.iadr 2,[.t 23,.t 25],(some (18 ,false)) ⟩,⟨ (some 27),.fadr 0,[.t 26],(some (18 ,false)) ⟩,⟨ (some 28),.load1,[.t 27],(some (18 ,false)) ⟩,⟨ (some 29),.binI .neq,[.t 21,.t 28],(some (18 ,false)) ⟩,⟨ (some 30),.pick,[.t 18,.c (.bool true),.t 29],(some (11 ,true)) ⟩,⟨ (some 7),.pick,[.t 11,.t 30,.c (.bool false)],none⟩] [.op 0,.op 1,.op 2,.op 3,.op 4,.op 5,.op 6,.op 7,.op 8,.op 9,.op 10,.op 11,.op 12,.op 13,.op 14,.op 15,.op 16,.op 17,.op 18,.op 19,.op 20,.op 21,.op 22,.op 23])<|.cond (.t 7) (.seq (.reg [.set 2 (.M 2 (.k (.bool false)))])<|.ret) .skip)<|.reg [.set 4 (.M 4 (.P 43 (.binI .add) [.W 4 42,.I 1]))])<|.reg [.set 3 (.M 3 (.P 25 (.binI .add) [.W 3 24,.I 1]))])<|.seq (.reg [.set 2 (.M 2 (.k (.bool true)))])<|.ret
def s157:SFn:=.src 42 [0,1,2,3,5,26,27,28,29,31] [.tmp 2]<|.seq (.reg [.set 1 (.P 1 (.box 0) [.V 0]),.set 2 (.M 2 (.k (.bool false)))])<|.seq (.ifr [] (.or 16 23 (.or 10 15 (.P 9 (.binI .eql) [.P 8 .lenL [.P 7 .load1 [.P 6 (.fadr 0) [.V 1]]],.I 0]) (.P 14 (.binI .gtr) [.P 13 .lenL [.P 12 .load1 [.P 11 (.fadr 0) [.V 1]]],.I 8])) (.P 22 (.binI .neq) [.P 21 .load1 [.P 20 (.fadr 0) [.P 19 (.iadr 2) [.P 18 .load1 [.P 17 (.fadr 0) [.V 1]],.I 0]]],.I 0])) (.seq (.reg [.set 2 (.M 2 (.k (.bool false)))])<|.ret) .skip)<|.seq (.reg [.set 3 (.M 3 (.P 24 (.mkfn 186) [.V 1]))])<|.seq (.seq (.reg [.set 5 (.P 26 .load1 [.P 25 (.fadr 0) [.V 1]]),.set 6 (.P 27 .lenL [.V 5]),.set 7 (.M 28 (.I 0))])<|.block 0<|.loop [3,5,6,7]<|.seq (.reg [.set 8 (.P 29 (.binI .lss) [.V 7,.V 6])])<|.seq (.cond (.t 8) .skip (.exit 0))<|.seq (.block 1<|.seq (.reg [.set 9 (.P 31 (.loadN 2) [.P 30 (.iadr 2) [.V 5,.V 7]]),.set 4 (.P 5 (.alloc 0 [.int .i64 0,.nils]) []),.ef (.op none (.store 2) [.V 4,.V 9])])<|.ifr [] (.or 35 40 (.P 34 .notB [.P 33 (.call 187) [.P 32 (.loadN 2) [.V 4]]]) (.P 39 (.call 188) [.P 37 .load1 [.P 36 (.fadr 1) [.V 4]],.W 3 38])) (.seq (.reg [.set 2 (.M 2 (.k (.bool false)))])<|.ret) .skip)<|.reg [.set 7 (.M 28 (.P 41 (.binI .add) [.V 7,.I 1]))])<|.seq (.reg [.set 2 (.M 2 (.k (.bool true)))])<|.ret
def s179:SFn:=.src 102 [0,1,2,3,4,5,6,7,21,23,26,43,66] [.tmp 2]<|.seq (.reg [.set 1 (.P 1 (.box 0) [.V 0]),.set 2 (.M 2 (.k (.bool false)))])<|.seq (.ifr [] (.or 12 18 (.P 11 .notB [.P 10 (.call 30) [.P 9 .load1 [.P 8 (.fadr 0) [.V 1]],.I 0,.I 3]]) (.P 17 .notB [.P 16 (.call 30) [.P 15 .lenL [.P 14 .load1 [.P 13 (.fadr 1) [.V 1]]],.I 1,.I 24]])) (.seq (.reg [.set 2 (.M 2 (.k (.bool false)))])<|.ret) .skip)<|.seq (.reg [.set 8 (.P 21 .lenL [.P 20 .load1 [.P 19 (.fadr 1) [.V 1]]]),.set 3 (.M 3 (.P 22 (.mkslice 0 [.int .i64 0] 8) [.V 8,.V 8]))])<|.seq (.reg [.set 9 (.M 23 (.V 3)),.set 10 (.P 26 (.binI .sub) [.P 25 .lenL [.W 3 24],.I 1]),.ef (.opr none (.store 1) (.P 30 (.iadr 1) [.V 9,.V 10]) (.P 29 (.binI .add) [.P 28 .load1 [.P 27 (.fadr 0) [.V 1]],.I 1]))])<|.seq (.seq (.reg [.set 4 (.M 4 (.P 34 (.binI .sub) [.P 33 .lenL [.P 32 .load1 [.P 31 (.fadr 1) [.V 1]]],.I 1]))])<|.block 0<|.loop [1,3,4]<|.seq (.ifr [] (.P 36 (.binI .geq) [.W 4 35,.I 0]) .skip (.exit 0))<|.seq (.block 1<|.seq (.reg [.set 11 (.P 43 (.loadN 4) [.P 42 (.iadr 4) [.P 40 .load1 [.P 39 (.fadr 1) [.V 1]],.W 4 41]]),.set 5 (.P 5 (.alloc 0 [.int .i64 0,.int .i64 0,.int .i64 0,.nils]) []),.ef (.op none (.store 4) [.V 5,.V 11])])<|.seq (.seq (.dreg [44,45,46,47,48,49,50,51,52,53,54,55,56,57,58,59,60,61,62,63,64,65] [⟨ (some 13),.mov,[.t 3],none⟩,⟨ (some 14),.mov,[.t 4],none⟩,⟨ (some 15),.iadr 1,[.t 13,.t 14],none⟩,⟨ (some 16),.load1,[.t 15],none⟩,⟨ (some 17),.binI .eql,[.t 16,.c (.int .i64 0)],none⟩,⟨ (some 18),.mov,[.t 17],none⟩,⟨ (some 19),.mov,[.t 3],(some (18 ,false)) ⟩,⟨ (some 20),.mov,[.t 4],(some (18 ,false)) ⟩,⟨ (some 21),.iadr 1,[.t 19,.t 20],(some (18 ,false)) ⟩,⟨ (some 22),.load1,[.t 21],(some (18 ,false)) ⟩,⟨ (some 23),.binI .sub,[.t 22,.c (.int .i64 1)],(some (18 ,false)) ⟩,⟨ (some 24),.binI .gtr,[.t 23,.c (.int .i64 8)],(some (18 ,false)) ⟩,⟨ (some 25),.pick,[.t 18,.c (.bool true),.t 24],none⟩,⟨ (some 26),.mov,[.t 25],none⟩,⟨ (some 27),.loadN 4,[.t 5],(some (26 ,false)) ⟩,⟨ (some 28),.mov,[.t 3],(some (26 ,false)) ⟩,⟨ (some 29),.mov,[.t 4],(some (26 ,false)) ⟩,⟨ (some 30),.iadr 1,[.t 28,.t 29],(some (26 ,false)) ⟩,⟨ (some 31),.load1,[.t 30],(some (26 ,false)) ⟩,⟨ (some 32),.binI .sub,[.t 31,.c (.int .i64 1)],(some (26 ,false)) ⟩,⟨ (some 33),.call 202,[.t 27,.t 32],(some (26 ,false)) ⟩,⟨ (some 34),.notB,[.t 33],(some (26 ,false)) ⟩,⟨ (some 12),.pick,[.t 26,.c (.bool true),.t 34],none⟩] [.op 0,.op 1,.op 2,.op 3,.op 4,.op 5,.op 6,.op 7,.op 8,.op 9,.op 10,.op 11,.op 12,.op 13,.op 14,.op 15,.op 16,.op 17,.op 18,.op 19,.op 20,.op 21,.op 22])<|.cond (.t 12) (.seq (.reg [.set 2 (.M 2 (.k (.bool false)))])<|.ret) .skip)<|.seq (.reg [.set 6 (.M 6 (.I 0))])<|.block 2<|.loop [1,3,4,5,6]<|.seq (.ifr [] (.P 71 (.binI .lss) [.W 6 67,.P 70 .lenL [.P 69 .load1 [.P 68 (.fadr 3) [.V 5]]]]) .skip (.exit 2))<|.seq (.block 3<|.seq (.reg [.set 7 (.M 7 (.P 78 .load1 [.P 77 (.iadr 1) [.P 75 .load1 [.P 74 (.fadr 3) [.V 5]],.W 6 76]]))])<|.seq (.ifr [] (.or 84 90 (.P 83 .notB [.P 82 (.call 30) [.W 7 79,.I 0,.P 81 (.binI .sub) [.W 4 80,.I 1]]]) (.P 89 (.binI .neq) [.P 88 .load1 [.P 87 (.iadr 1) [.W 3 85,.W 7 86]],.I 0])) (.seq (.reg [.set 2 (.M 2 (.k (.bool false)))])<|.ret) .skip)<|.dreg [91,92,93,94,95,96,97,98,99,100,101] [⟨ (some 13),.mov,[.t 3],none⟩,⟨ (some 14),.mov,[.t 7],none⟩,⟨ (some 15),.mov,[.t 3],none⟩,⟨ (some 16),.mov,[.t 4],none⟩,⟨ (some 17),.iadr 1,[.t 15,.t 16],none⟩,⟨ (some 18),.load1,[.t 17],none⟩,⟨ (some 19),.loadN 4,[.t 5],none⟩,⟨ (some 20),.mov,[.t 6],none⟩,⟨ (some 21),.call 203,[.t 19,.t 20],none⟩,⟨ (some 22),.binI .add,[.t 18,.t 21],none⟩,⟨ (some 23),.iadr 1,[.t 13,.t 14],none⟩,⟨none,.store 1,[.t 23,.t 22],none⟩] [.op 0,.op 1,.op 2,.op 3,.op 4,.op 5,.op 6,.op 7,.op 8,.chk 5,.op 9,.op 10,.op 11])<|.reg [.set 6 (.M 6 (.P 73 (.binI .add) [.W 6 72,.I 1]))])<|.reg [.set 4 (.M 4 (.P 38 (.binI .sub) [.W 4 37,.I 1]))])<|.seq (.reg [.set 2 (.M 2 (.k (.bool true)))])<|.ret
def s186:SFn:=.src 28 [0,1,2,3] [.tmp 3]<|.seq (.reg [.set 2 (.P 2 (.box 0) [.V 0]),.set 3 (.M 3 (.k (.bool false)))])<|.seq (.dreg [4,5,6,7,8,9,10,11,12,13,14,15,16,17,18,19,20,21,22,23,24,25,26,27] [⟨ (some 4),.fadr 0,[.t 2],none⟩,⟨ (some 5),.load1,[.t 4],none⟩,⟨ (some 6),.binI .eql,[.t 5,.c (.int .i64 2)],none⟩,⟨ (some 7),.mov,[.t 6],none⟩,⟨ (some 8),.fadr 1,[.t 2],(some (7 ,true)) ⟩,⟨ (some 9),.load1,[.t 8],(some (7 ,true)) ⟩,⟨ (some 10),.fadr 0,[.t 1],(some (7 ,true)) ⟩,⟨ (some 11),.load1,[.t 10],(some (7 ,true)) ⟩,⟨ (some 12),.lenL,[.t 11],(some (7 ,true)) ⟩,⟨ (some 13),.binI .geq,[.t 9,.t 12],(some (7 ,true)) ⟩,⟨ (some 14),.mov,[.t 13],(some (7 ,true)) ⟩,⟨ (some 15),.fadr 3,[.t 2],(some (14 ,false)) ⟩,⟨ (some 16),.load1,[.t 15],(some (14 ,false)) ⟩,⟨ (some 17),.lenL,[.t 16],(some (14 ,false)) ⟩,⟨ (some 18),.fadr 0,[.t 1],(some (14 ,false)) ⟩,⟨ (some 19),.load1,[.t 18],(some (14 ,false)) ⟩,⟨ (some 20),.fadr 1,[.t 2],(some (14 ,false)) ⟩,⟨ (some 21),.load1,[.t 20],(some (14 ,false)) ⟩,⟨ (some 22),.iadr 2,[.t 19,.t 21],(some (14 ,false)) ⟩,⟨ (some 23),.fadr 0,[.t 22],(some (14 ,false)) ⟩,⟨ (some 24),.load1,[.t 23],(some (14 ,false)) ⟩,⟨ (some 25),.binI .neq,[.t 17,.t 24],(some (14 ,false)) ⟩,⟨ (some 26),.pick,[.t 14,.c (.bool true),.t 25],(some (7 ,true)) ⟩,⟨ (some 27),.pick,[.t 7,.t 26,.c (.bool false)],none⟩,⟨ (some 3),.mov,[.t 27],none⟩] [.op 0,.op 1,.op 2,.op 3,.op 4,.op 5,.op 6,.op 7,.op 8,.op 9,.op 10,.op 11,.op 12,.op 13,.op 14,.op 15,.op 16,.op 17,.op 18,.op 19,.op 20,.op 21,.op 22,.op 23,.op 24])<|.ret
def s187:SFn:=.src 106 [0,1,2,3,4,5,6,7,8,9,25,27,28,29,35,36,73,74,75,76,77,79] [.tmp 2]<|.seq (.reg [.set 1 (.P 1 (.box 0) [.V 0]),.set 2 (.M 2 (.k (.bool false)))])<|.seq (.reg [.set 3 (.M 3 (.P 13 (.binI .sub) [.P 12 .lenL [.P 11 .load1 [.P 10 (.fadr 1) [.V 1]]],.I 1]))])<|.seq (.ifr [] (.or 18 22 (.P 17 .notB [.P 16 (.call 212) [.P 15 .load1 [.P 14 (.fadr 0) [.V 1]],.I 3]]) (.P 21 .notB [.P 20 (.call 212) [.W 3 19,.I 23]])) (.seq (.reg [.set 2 (.M 2 (.k (.bool false)))])<|.ret) .skip)<|.seq (.reg [.set 10 (.P 25 .lenL [.P 24 .load1 [.P 23 (.fadr 1) [.V 1]]]),.set 4 (.M 4 (.P 26 (.mkslice 0 [.int .i64 0] 8) [.V 10,.V 10]))])<|.seq (.seq (.reg [.set 11 (.M 27 (.V 3)),.set 12 (.M 28 (.I 0))])<|.block 0<|.loop [1,3,4,11,12]<|.seq (.reg [.set 13 (.P 29 (.binI .lss) [.V 12,.V 11])])<|.seq (.cond (.t 13) .skip (.exit 0))<|.seq (.block 1<|.seq (.reg [.set 5 (.M 5 (.W 12 30))])<|.reg [.ef (.op none (.store 1) [.P 33 (.iadr 1) [.W 4 31,.W 5 32],.I (-1)])])<|.reg [.set 12 (.M 28 (.P 34 (.binI .add) [.V 12,.I 1]))])<|.seq (.reg [.set 14 (.M 35 (.V 4)),.set 15 (.M 36 (.V 3)),.ef (.opr none (.store 1) (.P 39 (.iadr 1) [.V 14,.V 15]) (.P 38 .load1 [.P 37 (.fadr 0) [.V 1]]))])<|.seq (.seq (.reg [.set 6 (.M 6 (.W 3 40))])<|.block 2<|.loop [1,4,6]<|.seq (.ifr [] (.P 42 (.binI .geq) [.W 6 41,.I 0]) .skip (.exit 2))<|.seq (.block 3<|.seq (.reg [.set 7 (.M 7 (.P 48 (.iadr 4) [.P 46 .load1 [.P 45 (.fadr 1) [.V 1]],.W 6 47]))])<|.seq (.ifr [] (.or 61 69 (.or 54 60 (.P 53 (.binI .eql) [.P 52 .load1 [.P 51 (.iadr 1) [.W 4 49,.W 6 50]],.I (-1)]) (.P 59 (.binI .gtr) [.P 58 .load1 [.P 57 (.iadr 1) [.W 4 55,.W 6 56]],.I 8])) (.P 68 .notB [.P 67 (.call 213) [.W 7 62,.P 66 .load1 [.P 65 (.iadr 1) [.W 4 63,.W 6 64]]]])) (.seq (.reg [.set 2 (.M 2 (.k (.bool false)))])<|.ret) .skip)<|.seq (.reg [.set 16 (.P 73 .load1 [.P 72 (.fadr 3) [.P 71 .nilCheck [.W 7 70]]]),.set 17 (.P 74 .lenL [.V 16]),.set 18 (.M 75 (.I 0))])<|.block 4<|.loop [1,4,6,7,16,17,18]<|.seq (.reg [.set 19 (.P 76 (.binI .lss) [.V 18,.V 17])])<|.seq (.cond (.t 19) .skip (.exit 4))<|.seq (.block 5<|.seq (.reg [.set 20 (.M 77 (.V 18)),.set 21 (.P 79 .load1 [.P 78 (.iadr 1) [.V 16,.V 18]]),.set 8 (.M 8 (.V 20)),.set 9 (.M 9 (.V 21))])<|.seq (.ifr [] (.or 87 93 (.or 82 86 (.P 81 (.binI .lss) [.W 9 80,.I 0]) (.P 85 (.binI .geq) [.W 9 83,.W 6 84])) (.P 92 (.binI .neq) [.P 91 .load1 [.P 90 (.iadr 1) [.W 4 88,.W 9 89]],.I (-1)])) (.seq (.reg [.set 2 (.M 2 (.k (.bool false)))])<|.ret) .skip)<|.dreg [94,95,96,97,98,99,100,101,102,103,104] [⟨ (some 22),.mov,[.t 4],none⟩,⟨ (some 23),.mov,[.t 9],none⟩,⟨ (some 24),.mov,[.t 4],none⟩,⟨ (some 25),.mov,[.t 6],none⟩,⟨ (some 26),.iadr 1,[.t 24,.t 25],none⟩,⟨ (some 27),.load1,[.t 26],none⟩,⟨ (some 28),.mov,[.t 7],none⟩,⟨ (some 29),.mov,[.t 8],none⟩,⟨ (some 30),.call 214,[.t 28,.t 29],none⟩,⟨ (some 31),.binI .add,[.t 27,.t 30],none⟩,⟨ (some 32),.iadr 1,[.t 22,.t 23],none⟩,⟨none,.store 1,[.t 32,.t 31],none⟩] [.op 0,.op 1,.op 2,.op 3,.op 4,.op 5,.op 6,.op 7,.op 8,.chk 5,.op 9,.op 10,.op 11])<|.reg [.set 18 (.M 75 (.P 105 (.binI .add) [.V 18,.I 1]))])<|.reg [.set 6 (.M 6 (.P 44 (.binI .sub) [.W 6 43,.I 1]))])<|.seq (.reg [.set 2 (.M 2 (.k (.bool true)))])<|.ret
def s188:SFn:=.src 9 [0,1,4] [.tmp 2]<|.seq (.reg [.set 2 (.M 4 (.k (.bool false)))])<|.seq (.reg [.set 2 (.M 4 (.P 8 (.binI .geq) [.P 7 (.call 215) [.W 0 5,.W 1 6],.I 0]))])<|.ret
def s202:SFn:=.src 115 [0,1,2,4,5,6,14] [.tmp 3]<|.seq (.reg [.set 2 (.P 2 (.box 0) [.V 0]),.set 3 (.M 4 (.k (.bool false)))])<|.seq (.reg [.set 4 (.M 5 (.P 9 .lenL [.P 8 .load1 [.P 7 (.fadr 3) [.V 2]]]))])<|.seq (.reg [.set 5 (.M 6 (.P 12 (.binI .eql) [.P 11 .load1 [.P 10 (.fadr 2) [.V 2]],.I 0]))])<|.seq (.seq (.reg [.set 6 (.P 14 .load1 [.P 13 (.fadr 0) [.V 2]])])<|.block 0<|.ifr [] (.M 15 (.P 16 (.binI .eql) [.V 6,.I 0])) (.seq (.reg [.set 3 (.M 4 (.and 22 26 (.and 18 21 (.W 5 17) (.P 20 (.binI .eql) [.W 4 19,.I 0])) (.P 25 (.call 41) [.P 24 .load1 [.P 23 (.fadr 1) [.V 2]]])))])<|.ret) (.ifr [] (.M 27 (.P 28 (.binI .eql) [.V 6,.I 1])) (.seq (.reg [.set 3 (.M 4 (.and 34 40 (.and 30 33 (.W 5 29) (.P 32 (.binI .eql) [.W 4 31,.I 0])) (.P 39 (.call 30) [.P 36 .load1 [.P 35 (.fadr 1) [.V 2]],.I 0,.P 38 (.binI .sub) [.W 1 37,.I 1]])))])<|.ret) (.ifr [] (.M 41 (.P 42 (.binI .eql) [.V 6,.I 2])) (.seq (.reg [.set 3 (.M 4 (.and 48 52 (.and 44 47 (.W 5 43) (.P 46 (.binI .leq) [.W 4 45,.I 3])) (.P 51 (.call 30) [.P 50 .load1 [.P 49 (.fadr 1) [.V 2]],.I 0,.I 7])))])<|.ret) (.ifr [] (.M 53 (.P 54 (.binI .eql) [.V 6,.I 3])) (.seq (.reg [.set 3 (.M 4 (.and 60 64 (.and 56 59 (.W 5 55) (.P 58 (.binI .leq) [.W 4 57,.I 3])) (.P 63 (.call 30) [.P 62 .load1 [.P 61 (.fadr 1) [.V 2]],.I 0,.I 99])))])<|.ret) (.ifr [] (.M 65 (.P 66 (.binI .eql) [.V 6,.I 4])) (.seq (.reg [.set 3 (.M 4 (.and 72 76 (.and 68 71 (.W 5 67) (.P 70 (.binI .eql) [.W 4 69,.I 2])) (.P 75 (.call 30) [.P 74 .load1 [.P 73 (.fadr 1) [.V 2]],.I 0,.I 4])))])<|.ret) (.ifr [] (.M 77 (.P 78 (.binI .eql) [.V 6,.I 5])) (.seq (.reg [.set 3 (.M 4 (.and 86 90 (.and 81 85 (.P 80 (.binI .eql) [.W 4 79,.I 3]) (.P 84 (.call 30) [.P 83 .load1 [.P 82 (.fadr 1) [.V 2]],.I 0,.I 99])) (.P 89 (.call 30) [.P 88 .load1 [.P 87 (.fadr 2) [.V 2]],.I 0,.I 3])))])<|.ret) (.ifr [] (.M 91 (.P 92 (.binI .eql) [.V 6,.I 6])) (.seq (.reg [.set 3 (.M 4 (.and 98 102 (.and 94 97 (.W 5 93) (.P 96 (.binI .eql) [.W 4 95,.I 2])) (.P 101 (.binI .eql) [.P 100 .load1 [.P 99 (.fadr 1) [.V 2]],.I 0])))])<|.ret) (.ifr [] (.M 103 (.P 104 (.binI .eql) [.V 6,.I 7])) (.seq (.reg [.set 3 (.M 4 (.and 110 114 (.and 106 109 (.W 5 105) (.P 108 (.binI .eql) [.W 4 107,.I 0])) (.P 113 (.binI .eql) [.P 112 .load1 [.P 111 (.fadr 1) [.V 2]],.I 0])))])<|.ret) .skip))))))))<|.seq (.reg [.set 3 (.M 4 (.k (.bool false)))])<|.ret
def s203:SFn:=.src 21 [0,1,2,4] [.tmp 3]<|.seq (.reg [.set 2 (.P 2 (.box 0) [.V 0]),.set 3 (.M 4 (.I 0))])<|.seq (.ifr [] (.and 7 11 (.P 6 (.binI .eql) [.W 1 5,.I 1]) (.P 10 (.binI .eql) [.P 9 .load1 [.P 8 (.fadr 0) [.V 2]],.I 5])) (.seq (.reg [.set 3 (.M 4 (.P 13 .load1 [.P 12 (.fadr 2) [.V 2]]))])<|.ret) .skip)<|.seq (.ifr [] (.and 16 20 (.P 15 (.binI .eql) [.W 1 14,.I 1]) (.P 19 (.binI .eql) [.P 18 .load1 [.P 17 (.fadr 0) [.V 2]],.I 6])) (.seq (.reg [.set 3 (.M 4 (.I 1))])<|.ret) .skip)<|.seq (.reg [.set 3 (.M 4 (.I 0))])<|.ret
def s212:SFn:=.src 12 [0,1,4] [.tmp 2]<|.seq (.reg [.set 2 (.M 4 (.k (.bool false)))])<|.seq (.reg [.set 2 (.M 4 (.and 7 11 (.P 6 (.binI .geq) [.W 0 5,.I 0]) (.P 10 (.binI .leq) [.W 0 8,.W 1 9])))])<|.ret
def s213:SFn:=.src 99 [0,1,4,8] [.tmp 2]<|.seq (.reg [.set 2 (.M 4 (.k (.bool false)))])<|.seq (.seq (.reg [.set 3 (.P 8 .load1 [.P 7 (.fadr 0) [.P 6 .nilCheck [.W 0 5]]])])<|.block 0<|.ifr [] (.M 9 (.P 10 (.binI .eql) [.V 3,.I 0])) (.seq (.reg [.set 2 (.M 4 (.and 16 19 (.P 15 (.call 28) [.P 14 .load1 [.P 13 (.fadr 1) [.P 12 .nilCheck [.W 0 11]]]]) (.P 18 (.call 229) [.W 0 17,.I 0,.I 0,.I 0])))])<|.ret) (.ifr [] (.M 20 (.P 21 (.binI .eql) [.V 3,.I 1])) (.seq (.reg [.set 2 (.M 4 (.and 29 32 (.P 28 (.call 212) [.P 25 .load1 [.P 24 (.fadr 1) [.P 23 .nilCheck [.W 0 22]]],.P 27 (.binI .sub) [.W 1 26,.I 1]]) (.P 31 (.call 229) [.W 0 30,.I 0,.I 0,.I 0])))])<|.ret) (.ifr [] (.M 33 (.P 34 (.binI .eql) [.V 3,.I 2])) (.seq (.reg [.set 2 (.M 4 (.and 40 43 (.P 39 (.call 212) [.P 38 .load1 [.P 37 (.fadr 1) [.P 36 .nilCheck [.W 0 35]]],.I 7]) (.P 42 (.call 229) [.W 0 41,.I 0,.I 0,.I 3])))])<|.ret) (.ifr [] (.M 44 (.P 45 (.binI .eql) [.V 3,.I 3])) (.seq (.reg [.set 2 (.M 4 (.and 51 54 (.P 50 (.call 212) [.P 49 .load1 [.P 48 (.fadr 1) [.P 47 .nilCheck [.W 0 46]]],.I 99]) (.P 53 (.call 229) [.W 0 52,.I 0,.I 0,.I 3])))])<|.ret) (.ifr [] (.M 55 (.P 56 (.binI .eql) [.V 3,.I 4])) (.seq (.reg [.set 2 (.M 4 (.and 62 65 (.P 61 (.call 212) [.P 60 .load1 [.P 59 (.fadr 1) [.P 58 .nilCheck [.W 0 57]]],.I 4]) (.P 64 (.call 229) [.W 0 63,.I 0,.I 2,.I 2])))])<|.ret) (.ifr [] (.M 66 (.P 67 (.binI .eql) [.V 3,.I 5])) (.seq (.reg [.set 2 (.M 4 (.and 73 76 (.P 72 (.call 212) [.P 71 .load1 [.P 70 (.fadr 1) [.P 69 .nilCheck [.W 0 68]]],.I 99]) (.P 75 (.call 229) [.W 0 74,.I 3,.I 3,.I 3])))])<|.ret) (.ifr [] (.M 77 (.P 78 (.binI .eql) [.V 3,.I 6])) (.seq (.reg [.set 2 (.M 4 (.and 84 87 (.P 83 (.binI .eql) [.P 82 .load1 [.P 81 (.fadr 1) [.P 80 .nilCheck [.W 0 79]]],.I 0]) (.P 86 (.call 229) [.W 0 85,.I 0,.I 2,.I 2])))])<|.ret) (.ifr [] (.M 88 (.P 89 (.binI .eql) [.V 3,.I 7])) (.seq (.reg [.set 2 (.M 4 (.and 95 98 (.P 94 (.binI .eql) [.P 93 .load1 [.P 92 (.fadr 1) [.P 91 .nilCheck [.W 0 90]]],.I 0]) (.P 97 (.call 229) [.W 0 96,.I 0,.I 0,.I 0])))])<|.ret) .skip))))))))<|.seq (.reg [.set 2 (.M 4 (.k (.bool false)))])<|.ret
def s214:SFn:=.src 24 [0,1,4] [.tmp 2]<|.seq (.reg [.set 2 (.M 4 (.I 0))])<|.seq (.block 0<|.ifr [] (.M 5 (.P 7 (.binI .neq) [.W 1 6,.I 1])) (.seq (.reg [.set 2 (.M 4 (.I 0))])<|.ret) (.ifr [] (.M 8 (.P 13 (.binI .eql) [.P 12 .load1 [.P 11 (.fadr 0) [.P 10 .nilCheck [.W 0 9]]],.I 5])) (.seq (.reg [.set 2 (.M 4 (.P 17 .load1 [.P 16 (.fadr 2) [.P 15 .nilCheck [.W 0 14]]]))])<|.ret) (.ifr [] (.M 18 (.P 23 (.binI .eql) [.P 22 .load1 [.P 21 (.fadr 0) [.P 20 .nilCheck [.W 0 19]]],.I 6])) (.seq (.reg [.set 2 (.M 4 (.I 1))])<|.ret) .skip)))<|.seq (.reg [.set 2 (.M 4 (.I 0))])<|.ret
def s215:SFn:=.src 19 [0,1,4,5,7,8,9] [.tmp 2]<|.seq (.reg [.set 2 (.M 4 (.I 0))])<|.seq (.seq (.reg [.set 4 (.P 7 .lenL [.W 0 6]),.set 5 (.M 8 (.I 0))])<|.block 0<|.loop [0,1,4,5]<|.seq (.reg [.set 6 (.P 9 (.binI .lss) [.V 5,.V 4])])<|.seq (.cond (.t 6) .skip (.exit 0))<|.seq (.block 1<|.seq (.reg [.set 3 (.M 5 (.W 5 10))])<|.ifr [] (.P 16 .callv [.W 1 11,.P 15 (.loadN 4) [.P 14 (.iadr 4) [.W 0 12,.W 3 13]]]) (.seq (.reg [.set 2 (.M 4 (.W 3 17))])<|.ret) .skip)<|.reg [.set 5 (.M 8 (.P 18 (.binI .add) [.V 5,.I 1]))])<|.seq (.reg [.set 2 (.M 4 (.I (-1)))])<|.ret
def s229:SFn:=.src 40 [0,1,2,3,8] [.tmp 4]<|.seq (.reg [.set 4 (.M 8 (.k (.bool false)))])<|.seq (.reg [.set 4 (.M 8 (.and 31 39 (.and 22 30 (.and 14 21 (.P 13 (.binI .geq) [.P 12 .load1 [.P 11 (.fadr 2) [.P 10 .nilCheck [.W 0 9]]],.I 0]) (.P 20 (.binI .leq) [.P 18 .load1 [.P 17 (.fadr 2) [.P 16 .nilCheck [.W 0 15]]],.W 1 19])) (.P 29 (.binI .geq) [.P 27 .lenL [.P 26 .load1 [.P 25 (.fadr 3) [.P 24 .nilCheck [.W 0 23]]]],.W 2 28])) (.P 38 (.binI .leq) [.P 36 .lenL [.P 35 .load1 [.P 34 (.fadr 3) [.P 33 .nilCheck [.W 0 32]]]],.W 3 37])))])<|.ret
def s261:SFn:=.src 19 [0,2,3,5,6,7] [.tmp 1]<|.seq (.reg [.set 1 (.M 2 (.k (.bool false)))])<|.seq (.seq (.reg [.set 3 (.P 5 .lenL [.W 0 4]),.set 4 (.M 6 (.I 0))])<|.block 0<|.loop [0,3,4]<|.seq (.reg [.set 5 (.P 7 (.binI .lss) [.V 4,.V 3])])<|.seq (.cond (.t 5) .skip (.exit 0))<|.seq (.block 1<|.seq (.reg [.set 2 (.M 3 (.W 4 8))])<|.ifr [] (.P 14 .notB [.P 13 (.call 270) [.P 11 (.iadr 4) [.W 0 9,.W 2 10],.W 2 12]]) (.seq (.reg [.set 1 (.M 2 (.k (.bool false)))])<|.ret) .skip)<|.reg [.set 4 (.M 6 (.P 15 (.binI .add) [.V 4,.I 1]))])<|.seq (.reg [.set 1 (.M 2 (.P 18 (.binI .gtr) [.P 17 .lenL [.W 0 16],.I 0]))])<|.ret
def s262:SFn:=.src 26 [0,1,2,4,5] [.tmp 3]<|.seq (.reg [.set 2 (.P 2 (.box 0) [.V 0]),.set 3 (.M 4 (.k (.bool false)))])<|.seq (.reg [.set 4 (.M 5 (.P 6 (.mkfn 271) [.V 2]))])<|.seq (.reg [.set 3 (.M 4 (.and 20 25 (.and 13 19 (.and 9 12 (.P 8 (.call 157) [.P 7 (.loadN 1) [.V 2]]) (.P 11 (.call 261) [.W 1 10])) (.P 18 (.binI .eql) [.P 17 .load1 [.P 16 (.fadr 0) [.P 15 (.iadr 4) [.W 1 14,.I 0]]],.I 0])) (.P 24 .notB [.P 23 (.call 272) [.W 1 21,.W 4 22]])))])<|.ret
def s270:SFn:=.src 39 [0,1,4,5] [.tmp 2]<|.seq (.reg [.set 2 (.M 4 (.k (.bool false)))])<|.seq (.reg [.set 3 (.M 5 (.or 19 29 (.and 11 18 (.P 10 (.binI .geq) [.P 9 .load1 [.P 8 (.fadr 1) [.P 7 .nilCheck [.W 0 6]]],.I 0]) (.P 17 (.binI .lss) [.P 15 .load1 [.P 14 (.fadr 1) [.P 13 .nilCheck [.W 0 12]]],.W 1 16])) (.and 22 28 (.P 21 (.binI .eql) [.W 1 20,.I 0]) (.P 27 (.binI .eql) [.P 26 .load1 [.P 25 (.fadr 1) [.P 24 .nilCheck [.W 0 23]]],.I (-1)]))))])<|.seq (.reg [.set 2 (.M 4 (.and 35 38 (.and 32 34 (.P 31 (.binI .lss) [.W 1 30,.I 512]) (.W 3 33)) (.P 37 (.call 269) [.W 0 36])))])<|.ret
def s271:SFn:=.src 23 [0,1,2,3] [.tmp 3]<|.seq (.reg [.set 2 (.P 2 (.box 0) [.V 0]),.set 3 (.M 3 (.k (.bool false)))])<|.seq (.dreg [4,5,6,7,8,9,10,11,12,13,14,15,16,17,18,19,20,21,22] [⟨ (some 4),.fadr 0,[.t 2],none⟩,⟨ (some 5),.load1,[.t 4],none⟩,⟨ (some 6),.fadr 0,[.t 1],none⟩,⟨ (some 7),.load1,[.t 6],none⟩,⟨ (some 8),.lenL,[.t 7],none⟩,⟨ (some 9),.binI .geq,[.t 5,.t 8],none⟩,⟨ (some 10),.mov,[.t 9],none⟩,⟨ (some 11),.fadr 2,[.t 2],(some (10 ,false)) ⟩,⟨ (some 12),.load1,[.t 11],(some (10 ,false)) ⟩,⟨ (some 13),.lenL,[.t 12],(some (10 ,false)) ⟩,⟨ (some 14),.fadr 0,[.t 1],(some (10 ,false)) ⟩,⟨ (some 15),.load1,[.t 14],(some (10 ,false)) ⟩,⟨ (some 16),.fadr 0,[.t 2],(some (10 ,false)) ⟩,⟨ (some 17),.load1,[.t 16],(some (10 ,false)) ⟩,⟨ (some 18),.iadr 2,[.t 15,.t 17],(some (10 ,false)) ⟩,⟨ (some 19),.fadr 0,[.t 18],(some (10 ,false)) ⟩,⟨ (some 20),.load1,[.t 19],(some (10 ,false)) ⟩,⟨ (some 21),.binI .neq,[.t 13,.t 20],(some (10 ,false)) ⟩,⟨ (some 22),.pick,[.t 10,.c (.bool true),.t 21],none⟩,⟨ (some 3),.mov,[.t 22],none⟩] [.op 0,.op 1,.op 2,.op 3,.op 4,.op 5,.op 6,.op 7,.op 8,.op 9,.op 10,.op 11,.op 12,.op 13,.op 14,.op 15,.op 16,.op 17,.op 18,.op 19])<|.ret
def s272:SFn:=.src 9 [0,1,4] [.tmp 2]<|.seq (.reg [.set 2 (.M 4 (.k (.bool false)))])<|.seq (.reg [.set 2 (.M 4 (.P 8 (.binI .geq) [.P 7 (.call 276) [.W 0 5,.W 1 6],.I 0]))])<|.ret
def s276:SFn:=.src 19 [0,1,4,5,7,8,9] [.tmp 2]<|.seq (.reg [.set 2 (.M 4 (.I 0))])<|.seq (.seq (.reg [.set 4 (.P 7 .lenL [.W 0 6]),.set 5 (.M 8 (.I 0))])<|.block 0<|.loop [0,1,4,5]<|.seq (.reg [.set 6 (.P 9 (.binI .lss) [.V 5,.V 4])])<|.seq (.cond (.t 6) .skip (.exit 0))<|.seq (.block 1<|.seq (.reg [.set 3 (.M 5 (.W 5 10))])<|.ifr [] (.P 16 .callv [.W 1 11,.P 15 (.loadN 4) [.P 14 (.iadr 4) [.W 0 12,.W 3 13]]]) (.seq (.reg [.set 2 (.M 4 (.W 3 17))])<|.ret) .skip)<|.reg [.set 5 (.M 8 (.P 18 (.binI .add) [.V 5,.I 1]))])<|.seq (.reg [.set 2 (.M 4 (.I (-1)))])<|.ret
end Am.T
end
section
namespace Am.F
open Go Am
noncomputable section
variable {β:Type} (I:FI) (N:Nat) (call:zh β) (a:List AV) (h:H) (k:K β)
def f157_J2{β:Type}(k:K β)(x0 x1 x2 x3 x4 x5 x6 x7 x8 x9:AV)(h:H):Option β :=
 k (.bool true) h
def f157_J9{β:Type}(l6:Cur β 10)(x0 x1 x2 x3 x4 x5 x6 x7 x8 x9:AV)(h:H):Option β :=
 qAdd x7 (.int .i64 1)<|.mk λv10=>
 l6 x0 x1 x2 x3 x4 x5 x6 v10 x8 x9 h
def f157_J8{β:Type}(call:zh β)(k:K β)(l6:Cur β 10)(x0 x1 x2 x3 x4 x5 x6 x7 x8 x9:AV)(h:H):Option β :=
 zq 10 (.mk (
 f157_J9 l6))<|.mk λj9=>
 zM 2 x5 x7<|.mk λv11=>
 zF 2 v11 h<|.mk λv12=>
 zao 0 [(.int .i64 0),.nils] h<|.mk λv13 h=>
 zr 2 v13 v12 h<|.mk λh=>
 zF 2 v13 h<|.mk λv14=>
 qCall call (.fn 187 []) [v14] h<|.mk λv15 h=>
 qNot v15<|.mk λv16=>
 qOr v16 h (.mk λh k=>
 zg 1 v13<|.mk λv17=>
 za v17 h<|.mk λv18=>
 qCall call (.fn 188 []) [v18,x3] h<|.mk λv19 h=>
 k v19 h)<|.mk λv20 h=>
 qIf v20 (.mk (
 k (.bool false) h))<|.mk (
 j9 x0 x1 x2 x3 v13 x5 x6 x7 x8 v12 h)
def f157_L6{β:Type}(call:zh β)(k:K β)(j2:Cur β 10)(l6:Cur β 10)(x0 x1 x2 x3 x4 x5 x6 x7 x8 x9:AV)(h:H):Option β :=
 qLss x7 x6<|.mk λv7=>
 zq 10 (.mk (
 f157_J8 call k l6))<|.mk λj8=>
 qIf v7 (.mk (
 j8 .any .any .any x3 .any x5 x6 x7 v7 .any h))<|.mk (
 j2 .any .any .any x3 .any x5 x6 x7 v7 .any h)
def f157_J1{β:Type}(N:Nat)(call:zh β)(k:K β)(x0 x1 x2 x3 x4 x5 x6 x7 x8 x9:AV)(h:H):Option β :=
 zq 10 (.mk (
 f157_J2 k))<|.mk λj2=>
 zg 0 x1<|.mk λv3=>
 za v3 h<|.mk λv4=>
 qLenL v4<|.mk λv5=>
 (zaE 10 N<|.mk (
 f157_L6 call k j2)) x0 x1 x2 (.fn 186 [x1]) x4 v4 v5 (.int .i64 0) x8 x9 h
def f157{β:Type}(N:Nat)(call:zh β)(a:List AV)(h:H)(k:K β):Option β :=
 qBox 0 (nth a 0) h<|.mk λv0 h=>
 zq 10 (.mk (
 f157_J1 N call k))<|.mk λj1=>
 zg 0 v0<|.mk λv21=>
 za v21 h<|.mk λv22=>
 qLenL v22<|.mk λv23=>
 qEql v23 (.int .i64 0)<|.mk λv24=>
 qOr v24 h (.mk λh k=>
 zg 0 v0<|.mk λv25=>
 za v25 h<|.mk λv26=>
 qLenL v26<|.mk λv27=>
 qGtr v27 (.int .i64 8)<|.mk λv28=>
 k v28 h)<|.mk λv29 h=>
 qOr v29 h (.mk λh k=>
 zg 0 v0<|.mk λv30=>
 za v30 h<|.mk λv31=>
 zM 2 v31 (.int .i64 0)<|.mk λv32=>
 zg 0 v32<|.mk λv33=>
 za v33 h<|.mk λv34=>
 qNeq v34 (.int .i64 0)<|.mk λv35=>
 k v35 h)<|.mk λv36 h=>
 qIf v36 (.mk (
 k (.bool false) h))<|.mk (
 j1 (nth a 0) v0 (.bool false) (nth a 3) (nth a 5) (nth a 26) (nth a 27) (nth a 28) (nth a 29) (nth a 31) h)
theorem y157:zS I 157 T.s157 N call a h k=f157 N call a h k:=by kernel_rfl
def f186{β:Type}(N:Nat)(call:zh β)(a:List AV)(h:H)(k:K β):Option β :=
 qBox 0 (nth a 0) h<|.mk λv0 h=>
 zg 0 v0<|.mk λv1=>
 za v1 h<|.mk λv2=>
 qEql v2 (.int .i64 2)<|.mk λv3=>
 qGrd v3 true h (.mk λh k=>
 zg 1 v0<|.mk λv4=>
 k v4 h)<|.mk λv5 h=>
 qGrd v3 true h (.mk λh k=>
 za v5 h<|.mk λv6=>
 k v6 h)<|.mk λv7 h=>
 qGrd v3 true h (.mk λh k=>
 zg 0 (nth a 1)<|.mk λv8=>
 k v8 h)<|.mk λv9 h=>
 qGrd v3 true h (.mk λh k=>
 za v9 h<|.mk λv10=>
 k v10 h)<|.mk λv11 h=>
 qGrd v3 true h (.mk λh k=>
 qLenL v11<|.mk λv12=>
 k v12 h)<|.mk λv13 h=>
 qGrd v3 true h (.mk λh k=>
 qGeq v7 v13<|.mk λv14=>
 k v14 h)<|.mk λv15 h=>
 qGrd v3 true h (.mk λh k=>
 k v15 h)<|.mk λv16 h=>
 qGrd v16 false h (.mk λh k=>
 zg 3 v0<|.mk λv17=>
 k v17 h)<|.mk λv18 h=>
 qGrd v16 false h (.mk λh k=>
 za v18 h<|.mk λv19=>
 k v19 h)<|.mk λv20 h=>
 qGrd v16 false h (.mk λh k=>
 qLenL v20<|.mk λv21=>
 k v21 h)<|.mk λv22 h=>
 qGrd v16 false h (.mk λh k=>
 zg 0 (nth a 1)<|.mk λv23=>
 k v23 h)<|.mk λv24 h=>
 qGrd v16 false h (.mk λh k=>
 za v24 h<|.mk λv25=>
 k v25 h)<|.mk λv26 h=>
 qGrd v16 false h (.mk λh k=>
 zg 1 v0<|.mk λv27=>
 k v27 h)<|.mk λv28 h=>
 qGrd v16 false h (.mk λh k=>
 za v28 h<|.mk λv29=>
 k v29 h)<|.mk λv30 h=>
 qGrd v16 false h (.mk λh k=>
 zM 2 v26 v30<|.mk λv31=>
 k v31 h)<|.mk λv32 h=>
 qGrd v16 false h (.mk λh k=>
 zg 0 v32<|.mk λv33=>
 k v33 h)<|.mk λv34 h=>
 qGrd v16 false h (.mk λh k=>
 za v34 h<|.mk λv35=>
 k v35 h)<|.mk λv36 h=>
 qGrd v16 false h (.mk λh k=>
 qNeq v22 v36<|.mk λv37=>
 k v37 h)<|.mk λv38 h=>
 qGrd v3 true h (.mk λh k=>
 zhn v16 (.bool true) v38<|.mk λv39=>
 k v39 h)<|.mk λv40 h=>
 zhn v3 v40 (.bool false)<|.mk λv41=>
 k v41 h
theorem y186:zS I 186 T.s186 N call a h k=f186 N call a h k:=by kernel_rfl
def f187_J14{β:Type}(k:K β)(x0 x1 x2 x3 x4 x5 x6 x7 x8 x9 x10 x11 x12 x13 x14 x15 x16 x17 x18 x19 x20 x21:AV)(h:H):Option β :=
 k (.bool true) h
def f187_J17{β:Type}(l15:Cur β 22)(x0 x1 x2 x3 x4 x5 x6 x7 x8 x9 x10 x11 x12 x13 x14 x15 x16 x17 x18 x19 x20 x21:AV)(h:H):Option β :=
 qSub x6 (.int .i64 1)<|.mk λv18=>
 l15 x0 x1 x2 x3 x4 x5 v18 x7 x8 x9 x10 x11 x12 x13 x14 x15 x16 x17 x18 x19 x20 x21 h
def f187_J30{β:Type}(l27:Cur β 22)(x0 x1 x2 x3 x4 x5 x6 x7 x8 x9 x10 x11 x12 x13 x14 x15 x16 x17 x18 x19 x20 x21:AV)(h:H):Option β :=
 qAdd x18 (.int .i64 1)<|.mk λv31=>
 l27 x0 x1 x2 x3 x4 x5 x6 x7 x8 x9 x10 x11 x12 x13 x14 x15 x16 x17 v31 x19 x20 x21 h
def f187_J34{β:Type}(call:zh β)(j30:Cur β 22)(x0 x1 x2 x3 x4 x5 x6 x7 x8 x9 x10 x11 x12 x13 x14 x15 x16 x17 x18 x19 x20 x21:AV)(h:H):Option β :=
 zM 1 x4 x6<|.mk λv35=>
 za v35 h<|.mk λv36=>
 qCall call (.fn 214 []) [x7,x8] h<|.mk λv37 h=>
 za v35 h<|.mk λv38=>
 qChk v38 v36<|.mk (
 qAdd v36 v37<|.mk λv39=>
 zM 1 x4 x9<|.mk λv40=>
 zr 1 v40 v39 h<|.mk λh=>
 j30 x0 x1 x2 x3 x4 x5 x6 x7 x8 x9 x10 x11 x12 x13 x14 x15 x16 x17 x18 x19 x20 x21 h)
def f187_J29{β:Type}(call:zh β)(k:K β)(l27:Cur β 22)(x0 x1 x2 x3 x4 x5 x6 x7 x8 x9 x10 x11 x12 x13 x14 x15 x16 x17 x18 x19 x20 x21:AV)(h:H):Option β :=
 zq 22 (.mk (
 f187_J30 l27))<|.mk λj30=>
 zM 1 x16 x18<|.mk λv32=>
 za v32 h<|.mk λv33=>
 zq 22 (.mk (
 f187_J34 call j30))<|.mk λj34=>
 qLss v33 (.int .i64 0)<|.mk λv41=>
 qOr v41 h (.mk λh k=>
 qGeq v33 x6<|.mk λv42=>
 k v42 h)<|.mk λv43 h=>
 qOr v43 h (.mk λh k=>
 zM 1 x4 v33<|.mk λv44=>
 za v44 h<|.mk λv45=>
 qNeq v45 (.int .i64 (-1))<|.mk λv46=>
 k v46 h)<|.mk λv47 h=>
 qIf v47 (.mk (
 k (.bool false) h))<|.mk (
 j34 x0 x1 x2 x3 x4 x5 x6 x7 x18 v33 x10 x11 x12 x13 x14 x15 x16 x17 x18 x19 x18 v33 h)
def f187_L27{β:Type}(call:zh β)(k:K β)(j17:Cur β 22)(l27:Cur β 22)(x0 x1 x2 x3 x4 x5 x6 x7 x8 x9 x10 x11 x12 x13 x14 x15 x16 x17 x18 x19 x20 x21:AV)(h:H):Option β :=
 qLss x18 x17<|.mk λv28=>
 zq 22 (.mk (
 f187_J29 call k l27))<|.mk λj29=>
 qIf v28 (.mk (
 j29 .any x1 .any .any x4 .any x6 x7 .any .any .any .any .any .any .any .any x16 x17 x18 v28 .any .any h))<|.mk (
 j17 .any x1 .any .any x4 .any x6 x7 .any .any .any .any .any .any .any .any x16 x17 x18 v28 .any .any h)
def f187_J22{β:Type}(N:Nat)(call:zh β)(k:K β)(j17:Cur β 22)(x0 x1 x2 x3 x4 x5 x6 x7 x8 x9 x10 x11 x12 x13 x14 x15 x16 x17 x18 x19 x20 x21:AV)(h:H):Option β :=
 qNil x7<|.mk λv23=>
 zg 3 v23<|.mk λv24=>
 za v24 h<|.mk λv25=>
 qLenL v25<|.mk λv26=>
 (zaE 22 N<|.mk (
 f187_L27 call k j17)) x0 x1 x2 x3 x4 x5 x6 x7 x8 x9 x10 x11 x12 x13 x14 x15 v25 v26 (.int .i64 0) x19 x20 x21 h
def f187_J16{β:Type}(N:Nat)(call:zh β)(k:K β)(l15:Cur β 22)(x0 x1 x2 x3 x4 x5 x6 x7 x8 x9 x10 x11 x12 x13 x14 x15 x16 x17 x18 x19 x20 x21:AV)(h:H):Option β :=
 zq 22 (.mk (
 f187_J17 l15))<|.mk λj17=>
 zg 1 x1<|.mk λv19=>
 za v19 h<|.mk λv20=>
 zM 4 v20 x6<|.mk λv21=>
 zq 22 (.mk (
 f187_J22 N call k j17))<|.mk λj22=>
 zM 1 x4 x6<|.mk λv48=>
 za v48 h<|.mk λv49=>
 qEql v49 (.int .i64 (-1))<|.mk λv50=>
 qOr v50 h (.mk λh k=>
 zM 1 x4 x6<|.mk λv51=>
 za v51 h<|.mk λv52=>
 qGtr v52 (.int .i64 8)<|.mk λv53=>
 k v53 h)<|.mk λv54 h=>
 qOr v54 h (.mk λh k=>
 zM 1 x4 x6<|.mk λv55=>
 za v55 h<|.mk λv56=>
 qCall call (.fn 213 []) [v21,v56] h<|.mk λv57 h=>
 qNot v57<|.mk λv58=>
 k v58 h)<|.mk λv59 h=>
 qIf v59 (.mk (
 k (.bool false) h))<|.mk (
 j22 x0 x1 x2 x3 x4 x5 x6 v21 x8 x9 x10 x11 x12 x13 x14 x15 x16 x17 x18 x19 x20 x21 h)
def f187_L15{β:Type}(N:Nat)(call:zh β)(k:K β)(j14:Cur β 22)(l15:Cur β 22)(x0 x1 x2 x3 x4 x5 x6 x7 x8 x9 x10 x11 x12 x13 x14 x15 x16 x17 x18 x19 x20 x21:AV)(h:H):Option β :=
 zq 22 (.mk (
 f187_J16 N call k l15))<|.mk λj16=>
 qGeq x6 (.int .i64 0)<|.mk λv60=>
 qIf v60 (.mk (
 j16 .any x1 .any .any x4 .any x6 .any .any .any .any .any .any .any .any .any .any .any .any .any .any .any h))<|.mk (
 j14 .any x1 .any .any x4 .any x6 .any .any .any .any .any .any .any .any .any .any .any .any .any .any .any h)
def f187_J10{β:Type}(N:Nat)(call:zh β)(k:K β)(x0 x1 x2 x3 x4 x5 x6 x7 x8 x9 x10 x11 x12 x13 x14 x15 x16 x17 x18 x19 x20 x21:AV)(h:H):Option β :=
 zg 0 x1<|.mk λv11=>
 za v11 h<|.mk λv12=>
 zM 1 x4 x3<|.mk λv13=>
 zr 1 v13 v12 h<|.mk λh=>
 zq 22 (.mk (
 f187_J14 k))<|.mk λj14=>
 (zaE 22 N<|.mk (
 f187_L15 N call k j14)) x0 x1 x2 x3 x4 x5 x3 x7 x8 x9 x10 x11 x12 x13 x4 x3 x16 x17 x18 x19 x20 x21 h
def f187_J64{β:Type}(l61:Cur β 22)(x0 x1 x2 x3 x4 x5 x6 x7 x8 x9 x10 x11 x12 x13 x14 x15 x16 x17 x18 x19 x20 x21:AV)(h:H):Option β :=
 qAdd x12 (.int .i64 1)<|.mk λv65=>
 l61 x0 x1 x2 x3 x4 x5 x6 x7 x8 x9 x10 x11 v65 x13 x14 x15 x16 x17 x18 x19 x20 x21 h
def f187_J63{β:Type}(l61:Cur β 22)(x0 x1 x2 x3 x4 x5 x6 x7 x8 x9 x10 x11 x12 x13 x14 x15 x16 x17 x18 x19 x20 x21:AV)(h:H):Option β :=
 zq 22 (.mk (
 f187_J64 l61))<|.mk λj64=>
 zM 1 x4 x12<|.mk λv66=>
 zr 1 v66 (.int .i64 (-1)) h<|.mk λh=>
 j64 x0 x1 x2 x3 x4 x12 x6 x7 x8 x9 x10 x11 x12 x13 x14 x15 x16 x17 x18 x19 x20 x21 h
def f187_L61{β:Type}(j10:Cur β 22)(l61:Cur β 22)(x0 x1 x2 x3 x4 x5 x6 x7 x8 x9 x10 x11 x12 x13 x14 x15 x16 x17 x18 x19 x20 x21:AV)(h:H):Option β :=
 qLss x12 x11<|.mk λv62=>
 zq 22 (.mk (
 f187_J63 l61))<|.mk λj63=>
 qIf v62 (.mk (
 j63 .any x1 .any x3 x4 .any .any .any .any .any .any x11 x12 v62 .any .any .any .any .any .any .any .any h))<|.mk (
 j10 .any x1 .any x3 x4 .any .any .any .any .any .any x11 x12 v62 .any .any .any .any .any .any .any .any h)
def f187_J5{β:Type}(N:Nat)(call:zh β)(k:K β)(x0 x1 x2 x3 x4 x5 x6 x7 x8 x9 x10 x11 x12 x13 x14 x15 x16 x17 x18 x19 x20 x21:AV)(h:H):Option β :=
 zg 1 x1<|.mk λv6=>
 za v6 h<|.mk λv7=>
 qLenL v7<|.mk λv8=>
 zie 0 [(.int .i64 0)] 8 v8 v8 h<|.mk λv9 h=>
 zq 22 (.mk (
 f187_J10 N call k))<|.mk λj10=>
 (zaE 22 N<|.mk (
 f187_L61 j10)) x0 x1 x2 x3 v9 x5 x6 x7 x8 x9 v8 x3 (.int .i64 0) x13 x14 x15 x16 x17 x18 x19 x20 x21 h
def f187{β:Type}(N:Nat)(call:zh β)(a:List AV)(h:H)(k:K β):Option β :=
 qBox 0 (nth a 0) h<|.mk λv0 h=>
 zg 1 v0<|.mk λv1=>
 za v1 h<|.mk λv2=>
 qLenL v2<|.mk λv3=>
 qSub v3 (.int .i64 1)<|.mk λv4=>
 zq 22 (.mk (
 f187_J5 N call k))<|.mk λj5=>
 zg 0 v0<|.mk λv67=>
 za v67 h<|.mk λv68=>
 qCall call (.fn 212 []) [v68,(.int .i64 3)] h<|.mk λv69 h=>
 qNot v69<|.mk λv70=>
 qOr v70 h (.mk λh k=>
 qCall call (.fn 212 []) [v4,(.int .i64 23)] h<|.mk λv71 h=>
 qNot v71<|.mk λv72=>
 k v72 h)<|.mk λv73 h=>
 qIf v73 (.mk (
 k (.bool false) h))<|.mk (
 j5 (nth a 0) v0 (.bool false) v4 (nth a 4) (nth a 5) (nth a 6) (nth a 7) (nth a 8) (nth a 9) (nth a 25) (nth a 27) (nth a 28) (nth a 29) (nth a 35) (nth a 36) (nth a 73) (nth a 74) (nth a 75) (nth a 76) (nth a 77) (nth a 79) h)
theorem y187:zS I 187 T.s187 N call a h k=f187 N call a h k:=by kernel_rfl
def f188{β:Type}(N:Nat)(call:zh β)(a:List AV)(h:H)(k:K β):Option β :=
 qCall call (.fn 215 []) [(nth a 0),(nth a 1)] h<|.mk λv0 h=>
 qGeq v0 (.int .i64 0)<|.mk λv1=>
 k v1 h
theorem y188:zS I 188 T.s188 N call a h k=f188 N call a h k:=by kernel_rfl
def f212{β:Type}(N:Nat)(call:zh β)(a:List AV)(h:H)(k:K β):Option β :=
 qGeq (nth a 0) (.int .i64 0)<|.mk λv0=>
 qAnd v0 h (.mk λh k=>
 qLeq (nth a 0) (nth a 1)<|.mk λv1=>
 k v1 h)<|.mk λv2 h=>
 k v2 h
theorem y212:zS I 212 T.s212 N call a h k=f212 N call a h k:=by kernel_rfl
def f213_J0{β:Type}(k:K β)(x0 x1 x2 x3:AV)(h:H):Option β :=
 k (.bool false) h
def f213{β:Type}(N:Nat)(call:zh β)(a:List AV)(h:H)(k:K β):Option β :=
 zq 4 (.mk (
 f213_J0 k))<|.mk λj0=>
 qNil (nth a 0)<|.mk λv1=>
 zg 0 v1<|.mk λv2=>
 za v2 h<|.mk λv3=>
 qEql v3 (.int .i64 0)<|.mk λv4=>
 qIf v4 (.mk (
 qNil (nth a 0)<|.mk λv5=>
 zg 1 v5<|.mk λv6=>
 za v6 h<|.mk λv7=>
 qCall call (.fn 28 []) [v7] h<|.mk λv8 h=>
 qAnd v8 h (.mk λh k=>
 qCall call (.fn 229 []) [(nth a 0),(.int .i64 0),(.int .i64 0),(.int .i64 0)] h<|.mk λv9 h=>
 k v9 h)<|.mk λv10 h=>
 k v10 h))<|.mk (
 qEql v3 (.int .i64 1)<|.mk λv11=>
 qIf v11 (.mk (
 qNil (nth a 0)<|.mk λv12=>
 zg 1 v12<|.mk λv13=>
 za v13 h<|.mk λv14=>
 qSub (nth a 1) (.int .i64 1)<|.mk λv15=>
 qCall call (.fn 212 []) [v14,v15] h<|.mk λv16 h=>
 qAnd v16 h (.mk λh k=>
 qCall call (.fn 229 []) [(nth a 0),(.int .i64 0),(.int .i64 0),(.int .i64 0)] h<|.mk λv17 h=>
 k v17 h)<|.mk λv18 h=>
 k v18 h))<|.mk (
 qEql v3 (.int .i64 2)<|.mk λv19=>
 qIf v19 (.mk (
 qNil (nth a 0)<|.mk λv20=>
 zg 1 v20<|.mk λv21=>
 za v21 h<|.mk λv22=>
 qCall call (.fn 212 []) [v22,(.int .i64 7)] h<|.mk λv23 h=>
 qAnd v23 h (.mk λh k=>
 qCall call (.fn 229 []) [(nth a 0),(.int .i64 0),(.int .i64 0),(.int .i64 3)] h<|.mk λv24 h=>
 k v24 h)<|.mk λv25 h=>
 k v25 h))<|.mk (
 qEql v3 (.int .i64 3)<|.mk λv26=>
 qIf v26 (.mk (
 qNil (nth a 0)<|.mk λv27=>
 zg 1 v27<|.mk λv28=>
 za v28 h<|.mk λv29=>
 qCall call (.fn 212 []) [v29,(.int .i64 99)] h<|.mk λv30 h=>
 qAnd v30 h (.mk λh k=>
 qCall call (.fn 229 []) [(nth a 0),(.int .i64 0),(.int .i64 0),(.int .i64 3)] h<|.mk λv31 h=>
 k v31 h)<|.mk λv32 h=>
 k v32 h))<|.mk (
 qEql v3 (.int .i64 4)<|.mk λv33=>
 qIf v33 (.mk (
 qNil (nth a 0)<|.mk λv34=>
 zg 1 v34<|.mk λv35=>
 za v35 h<|.mk λv36=>
 qCall call (.fn 212 []) [v36,(.int .i64 4)] h<|.mk λv37 h=>
 qAnd v37 h (.mk λh k=>
 qCall call (.fn 229 []) [(nth a 0),(.int .i64 0),(.int .i64 2),(.int .i64 2)] h<|.mk λv38 h=>
 k v38 h)<|.mk λv39 h=>
 k v39 h))<|.mk (
 qEql v3 (.int .i64 5)<|.mk λv40=>
 qIf v40 (.mk (
 qNil (nth a 0)<|.mk λv41=>
 zg 1 v41<|.mk λv42=>
 za v42 h<|.mk λv43=>
 qCall call (.fn 212 []) [v43,(.int .i64 99)] h<|.mk λv44 h=>
 qAnd v44 h (.mk λh k=>
 qCall call (.fn 229 []) [(nth a 0),(.int .i64 3),(.int .i64 3),(.int .i64 3)] h<|.mk λv45 h=>
 k v45 h)<|.mk λv46 h=>
 k v46 h))<|.mk (
 qEql v3 (.int .i64 6)<|.mk λv47=>
 qIf v47 (.mk (
 qNil (nth a 0)<|.mk λv48=>
 zg 1 v48<|.mk λv49=>
 za v49 h<|.mk λv50=>
 qEql v50 (.int .i64 0)<|.mk λv51=>
 qAnd v51 h (.mk λh k=>
 qCall call (.fn 229 []) [(nth a 0),(.int .i64 0),(.int .i64 2),(.int .i64 2)] h<|.mk λv52 h=>
 k v52 h)<|.mk λv53 h=>
 k v53 h))<|.mk (
 qEql v3 (.int .i64 7)<|.mk λv54=>
 qIf v54 (.mk (
 qNil (nth a 0)<|.mk λv55=>
 zg 1 v55<|.mk λv56=>
 za v56 h<|.mk λv57=>
 qEql v57 (.int .i64 0)<|.mk λv58=>
 qAnd v58 h (.mk λh k=>
 qCall call (.fn 229 []) [(nth a 0),(.int .i64 0),(.int .i64 0),(.int .i64 0)] h<|.mk λv59 h=>
 k v59 h)<|.mk λv60 h=>
 k v60 h))<|.mk (
 j0 (nth a 0) (nth a 1) (.bool false) v3 h))))))))
theorem y213:zS I 213 T.s213 N call a h k=f213 N call a h k:=by kernel_rfl
def f214_J0{β:Type}(k:K β)(x0 x1 x2:AV)(h:H):Option β :=
 k (.int .i64 0) h
def f214{β:Type}(N:Nat)(call:zh β)(a:List AV)(h:H)(k:K β):Option β :=
 zq 3 (.mk (
 f214_J0 k))<|.mk λj0=>
 qNeq (nth a 1) (.int .i64 1)<|.mk λv1=>
 qIf v1 (.mk (
 k (.int .i64 0) h))<|.mk (
 qNil (nth a 0)<|.mk λv2=>
 zg 0 v2<|.mk λv3=>
 za v3 h<|.mk λv4=>
 qEql v4 (.int .i64 5)<|.mk λv5=>
 qIf v5 (.mk (
 qNil (nth a 0)<|.mk λv6=>
 zg 2 v6<|.mk λv7=>
 za v7 h<|.mk λv8=>
 k v8 h))<|.mk (
 qNil (nth a 0)<|.mk λv9=>
 zg 0 v9<|.mk λv10=>
 za v10 h<|.mk λv11=>
 qEql v11 (.int .i64 6)<|.mk λv12=>
 qIf v12 (.mk (
 k (.int .i64 1) h))<|.mk (
 j0 (nth a 0) (nth a 1) (.int .i64 0) h)))
theorem y214:zS I 214 T.s214 N call a h k=f214 N call a h k:=by kernel_rfl
def f215_J0{β:Type}(k:K β)(x0 x1 x2 x3 x4 x5 x6:AV)(h:H):Option β :=
 k (.int .i64 (-1)) h
def f215_J5{β:Type}(l2:Cur β 7)(x0 x1 x2 x3 x4 x5 x6:AV)(h:H):Option β :=
 qAdd x5 (.int .i64 1)<|.mk λv6=>
 l2 x0 x1 x2 x3 x4 v6 x6 h
def f215_J4{β:Type}(call:zh β)(k:K β)(l2:Cur β 7)(x0 x1 x2 x3 x4 x5 x6:AV)(h:H):Option β :=
 zq 7 (.mk (
 f215_J5 l2))<|.mk λj5=>
 zM 4 x0 x5<|.mk λv7=>
 zF 4 v7 h<|.mk λv8=>
 qCall call x1 [v8] h<|.mk λv9 h=>
 qIf v9 (.mk (
 k x5 h))<|.mk (
 j5 x0 x1 x2 x5 x4 x5 x6 h)
def f215_L2{β:Type}(call:zh β)(k:K β)(j0:Cur β 7)(l2:Cur β 7)(x0 x1 x2 x3 x4 x5 x6:AV)(h:H):Option β :=
 qLss x5 x4<|.mk λv3=>
 zq 7 (.mk (
 f215_J4 call k l2))<|.mk λj4=>
 qIf v3 (.mk (
 j4 x0 x1 .any .any x4 x5 v3 h))<|.mk (
 j0 x0 x1 .any .any x4 x5 v3 h)
def f215{β:Type}(N:Nat)(call:zh β)(a:List AV)(h:H)(k:K β):Option β :=
 zq 7 (.mk (
 f215_J0 k))<|.mk λj0=>
 qLenL (nth a 0)<|.mk λv1=>
 (zaE 7 N<|.mk (
 f215_L2 call k j0)) (nth a 0) (nth a 1) (.int .i64 0) (nth a 5) v1 (.int .i64 0) (nth a 9) h
theorem y215:zS I 215 T.s215 N call a h k=f215 N call a h k:=by kernel_rfl
def f229{β:Type}(N:Nat)(call:zh β)(a:List AV)(h:H)(k:K β):Option β :=
 qNil (nth a 0)<|.mk λv0=>
 zg 2 v0<|.mk λv1=>
 za v1 h<|.mk λv2=>
 qGeq v2 (.int .i64 0)<|.mk λv3=>
 qAnd v3 h (.mk λh k=>
 qNil (nth a 0)<|.mk λv4=>
 zg 2 v4<|.mk λv5=>
 za v5 h<|.mk λv6=>
 qLeq v6 (nth a 1)<|.mk λv7=>
 k v7 h)<|.mk λv8 h=>
 qAnd v8 h (.mk λh k=>
 qNil (nth a 0)<|.mk λv9=>
 zg 3 v9<|.mk λv10=>
 za v10 h<|.mk λv11=>
 qLenL v11<|.mk λv12=>
 qGeq v12 (nth a 2)<|.mk λv13=>
 k v13 h)<|.mk λv14 h=>
 qAnd v14 h (.mk λh k=>
 qNil (nth a 0)<|.mk λv15=>
 zg 3 v15<|.mk λv16=>
 za v16 h<|.mk λv17=>
 qLenL v17<|.mk λv18=>
 qLeq v18 (nth a 3)<|.mk λv19=>
 k v19 h)<|.mk λv20 h=>
 k v20 h
theorem y229:zS I 229 T.s229 N call a h k=f229 N call a h k:=by kernel_rfl
def e157:Ent:=⟨157,T.s157,λ_ _=>f157,λ_=>y157⟩
def e186:Ent:=⟨186,T.s186,λ_ _=>f186,λ_=>y186⟩
def e187:Ent:=⟨187,T.s187,λ_ _=>f187,λ_=>y187⟩
def e188:Ent:=⟨188,T.s188,λ_ _=>f188,λ_=>y188⟩
def e212:Ent:=⟨212,T.s212,λ_ _=>f212,λ_=>y212⟩
def e213:Ent:=⟨213,T.s213,λ_ _=>f213,λ_=>y213⟩
def e214:Ent:=⟨214,T.s214,λ_ _=>f214,λ_=>y214⟩
def e215:Ent:=⟨215,T.s215,λ_ _=>f215,λ_=>y215⟩
def e229:Ent:=⟨229,T.s229,λ_ _=>f229,λ_=>y229⟩
structure GC (t:ETree):Prop where
 g157:t.get 157=some e157
 g186:t.get 186=some e186
 g187:t.get 187=some e187
 g188:t.get 188=some e188
 g212:t.get 212=some e212
 g213:t.get 213=some e213
 g214:t.get 214=some e214
 g215:t.get 215=some e215
 g229:t.get 229=some e229
section
variable {β:Type} {t:ETree} {I:FI} (n:Nat) (a:List AV) (h:H) (k:K β)
theorem GC.c157(T:GC t):zd t I (n+1) (.fn 157 []) a h k=f157 n (zd t I n) a h k:=by rw[cRule T.g157];rfl
theorem GC.c186(T:GC t)(n:Nat)(caps a:List AV)(h:H)(k:K β):zd t I (n+1) (.fn 186 caps) a h k=f186 n (zd t I n) (a++caps) h k:=by rw[zi t I n 186 caps a h k T.g186];rfl
theorem GC.c187(T:GC t):zd t I (n+1) (.fn 187 []) a h k=f187 n (zd t I n) a h k:=by rw[cRule T.g187];rfl
theorem GC.c188(T:GC t):zd t I (n+1) (.fn 188 []) a h k=f188 n (zd t I n) a h k:=by rw[cRule T.g188];rfl
theorem GC.c212(T:GC t):zd t I (n+1) (.fn 212 []) a h k=f212 n (zd t I n) a h k:=by rw[cRule T.g212];rfl
theorem GC.c213(T:GC t):zd t I (n+1) (.fn 213 []) a h k=f213 n (zd t I n) a h k:=by rw[cRule T.g213];rfl
theorem GC.c214(T:GC t):zd t I (n+1) (.fn 214 []) a h k=f214 n (zd t I n) a h k:=by rw[cRule T.g214];rfl
theorem GC.c215(T:GC t):zd t I (n+1) (.fn 215 []) a h k=f215 n (zd t I n) a h k:=by rw[cRule T.g215];rfl
theorem GC.c229(T:GC t):zd t I (n+1) (.fn 229 []) a h k=f229 n (zd t I n) a h k:=by rw[cRule T.g229];rfl
theorem GC.q212(T:GC t):qCall (zd t I (n+1)) (.fn 212 []) a h (.mk k)=f212 n (zd t I n) a h k:=GC.c212 n a h k T
theorem GC.q213(T:GC t):qCall (zd t I (n+1)) (.fn 213 []) a h (.mk k)=f213 n (zd t I n) a h k:=GC.c213 n a h k T
theorem GC.q214(T:GC t):qCall (zd t I (n+1)) (.fn 214 []) a h (.mk k)=f214 n (zd t I n) a h k:=GC.c214 n a h k T
theorem GC.q229(T:GC t):qCall (zd t I (n+1)) (.fn 229 []) a h (.mk k)=f229 n (zd t I n) a h k:=GC.c229 n a h k T
end
end
end Am.F
end
section
namespace Am.T
open Go
def s166:SFn:=.src 31 [0,1,2,3,4] [.tmp 4]<|.seq (.reg [.set 2 (.P 2 (.box 0) [.V 0]),.set 3 (.P 3 (.box 0) [.V 1]),.set 4 (.M 4 (.k (.bool false)))])<|.seq (.reg [.set 4 (.M 4 (.and 24 30 (.and 17 23 (.and 10 16 (.P 9 (.binI .eql) [.P 6 .load1 [.P 5 (.fadr 0) [.V 2]],.P 8 .load1 [.P 7 (.fadr 0) [.V 3]]]) (.P 15 (.binI .eql) [.P 12 .load1 [.P 11 (.fadr 1) [.V 2]],.P 14 .load1 [.P 13 (.fadr 1) [.V 3]]])) (.P 22 (.call 15) [.P 19 .load1 [.P 18 (.fadr 2) [.V 2]],.P 21 .load1 [.P 20 (.fadr 2) [.V 3]]])) (.P 29 (.binS .eql) [.P 26 .load1 [.P 25 (.fadr 3) [.V 2]],.P 28 .load1 [.P 27 (.fadr 3) [.V 3]]])))])<|.ret
end Am.T
end
section
namespace Am.F
open Go Am
noncomputable section
variable {β:Type} (I:FI) (N:Nat) (call:zh β) (a:List AV) (h:H) (k:K β)
def f166{β:Type}(N:Nat)(call:zh β)(a:List AV)(h:H)(k:K β):Option β :=
 qBox 0 (nth a 0) h<|.mk λv0 h=>
 qBox 0 (nth a 1) h<|.mk λv1 h=>
 zg 0 v0<|.mk λv2=>
 za v2 h<|.mk λv3=>
 zg 0 v1<|.mk λv4=>
 za v4 h<|.mk λv5=>
 qEql v3 v5<|.mk λv6=>
 qAnd v6 h (.mk λh k=>
 zg 1 v0<|.mk λv7=>
 za v7 h<|.mk λv8=>
 zg 1 v1<|.mk λv9=>
 za v9 h<|.mk λv10=>
 qEql v8 v10<|.mk λv11=>
 k v11 h)<|.mk λv12 h=>
 qAnd v12 h (.mk λh k=>
 zg 2 v0<|.mk λv13=>
 za v13 h<|.mk λv14=>
 zg 2 v1<|.mk λv15=>
 za v15 h<|.mk λv16=>
 qCall call (.fn 15 []) [v14,v16] h<|.mk λv17 h=>
 k v17 h)<|.mk λv18 h=>
 qAnd v18 h (.mk λh k=>
 zg 3 v0<|.mk λv19=>
 za v19 h<|.mk λv20=>
 zg 3 v1<|.mk λv21=>
 za v21 h<|.mk λv22=>
 zge v20 v22<|.mk λv23=>
 k v23 h)<|.mk λv24 h=>
 k v24 h
theorem y166:zS I 166 T.s166 N call a h k=f166 N call a h k:=by kernel_rfl
def e166:Ent:=⟨166,T.s166,λ_ _=>f166,λ_=>y166⟩
section
variable {β:Type} {t:ETree} {I:FI} (n:Nat) (a:List AV) (h:H) (k:K β)
end
end
end Am.F
end
section
namespace Am.F
open Go Am
structure Nd where
 fn:Int
 parent:Int
 args:List (List UInt8)
 res:List UInt8
def NdAt(h:H)(a:AV)(x:Nd):Prop:=∃v,a = .agg [.int .i64 x.fn,.int .i64 x.parent,v,.str x.res]/\SlAt h v (strs x.args)
def NdIn(h:H)(b:Nat)(v:AV)(x:Nd):Prop:=(h.get b).cells=some [.int .i64 x.fn,.int .i64 x.parent,v,.str x.res]/\b<h.n/\SlAt h v (strs x.args)
theorem NdAt.ext{h h':H}{a:AV}{x:Nd}(hs:NdAt h a x)(e:Ext h h'):NdAt h' a x:=let ⟨v,h1,h2⟩:=hs;⟨v,h1,h2.ext e⟩
theorem NdIn.ext{h h':H}{b:Nat}{v:AV}{x:Nd}(hs:NdIn h b v x)(e:Ext h h'):NdIn h' b v x:=⟨by rw[e.get b hs.2.1];exact hs.1,Nat.lt_of_lt_of_le hs.2.1 e.n,hs.2.2.ext e⟩
def eqMay(x:Nd):Bool:=decide ((0<=x.fn/\x.fn<8)/\x.args.length<=3)&&x.args.all mayP&&mayP x.res
theorem zaW{β:Type}(b o:Nat)(k:VK β):qNil (.ptr b o) (.mk k)=k (.ptr b o):=rfl
section
variable {β:Type} {t:ETree}
end
end Am.F
end
section
namespace Am
open Go Go.RowKit F
def zco:Ty:=.st [.int .i64,.int .i64,.sl .str,.str]
theorem zaR{us:List AV}{a:AV}(h:us.take 1=[a]):us=a::us.drop 1:=by
 cases us with
 | nil=>cases h
 | cons b r=>simp only[List.take_succ_cons,List.take_zero,List.cons.injEq,and_true] at h;rw[h];rfl
theorem Rep.node{S:St}{h:F.H}{us:List AV}{x:Dat}(ha:F.Abs h S)(hr:Rep S zco us x):∃(y:Nd) (no:Bool) (sp:List Dat),NdAt h (.agg us) y/\x = .st [.int y.fn,.int y.parent,.sl no (y.args.map Dat.str) sp,.str y.res] /\
  (no=true->y.args=[])/\(∀z ∈ y.args,z.length<=maxLen)/\y.res.length<=maxLen/\y.args.length<=maxLen:=by
 unfold zco at hr;simp only[Rep,Reps,Ty.size] at hr;obtain⟨ds,rfl,d0,r0,rfl,⟨f,e0,rfl,_⟩,d1,r1,rfl,⟨p,e1,rfl,_⟩,d2,r2,rfl,h2,d3,r3,rfl,⟨s,e3,rfl,hs⟩,e4,rfl⟩:=hr;have u0:=zaR e0;have u1:=zaR e1;have u3:=zaR e3;have hsl:Rep S (.sl .str) ((us.drop 1).drop 1 |>.take 1) d2:=by simp only[Rep,Ty.size];exact h2
 have hone:∃a,((us.drop 1).drop 1).take 1=[a]:=by
  rcases h2 with⟨h,_⟩|⟨_,_,_,_,h,_⟩
  ·exact⟨_,h⟩
  ·exact⟨_,h⟩
 obtain⟨a,e2⟩:=hone;have u2:=zaR e2;rw[e2] at hsl;obtain⟨no,kids,sp,k1,rfl,k2,k3,k4⟩:=Rep.texts ha hsl;refine⟨⟨f,p,kids,s⟩,no,sp,⟨a,?_,k1⟩,rfl,k2,k3,hs,k4⟩;rw[u0,u1,u2,u3,e4]
end Am
end
section
namespace Am.F
open Go Am
section
variable {β:Type} {t:ETree}
end
end Am.F
end
section
namespace Am.F
open Go Am
theorem zdy{β:Type}{h:H}{lo hi es bytes n:Nat}{v x:AV}{cs new:List AV}{k:K β}{R:Option β}(ho:zat h lo hi es v cs)(hh:hi<=h.n)(hs:∀c:Nat->List AV->Option β,fSrc es x h c=c n new)
  (hl:new.length=n*es) (hr:cs.length+n<room) (hes:0<es) (hb:bytes<=1024) (hn:n≠0)
  (H1:∀l h',h'.get h.n = .own 0 (cs++new)->h'.n=h.n+1->(cs++new).length=l*es->(∀i,i<h.n->(i<lo\/hi<=i)->h'.get i=h.get i)->k (.sl h.n 0 l l (some es)) h'=R):fApp 0 es bytes v x h k=R:=by
 unfold fApp;rw[hs];rcases ho with⟨rfl,rfl⟩|⟨b,l,rfl,h4,h5,h6,h7,h8⟩
 ·show cond (Nat.beq n 0) _ (cond (Nat.ble (Nat.succ n) room) (cond (Nat.ble bytes 1024) (newB h (.own 0 new) λb h=>k (.sl b 0 n n (some es)) h) none) none)=R;rw[beq_eq,decide_eq_false hn,ble_eq,decide_eq_true (by simp at hr;omega),ble_eq,decide_eq_true hb,zdJ];exact H1 n _ (by rw[zf rfl];rfl) (by rw[H.n_push]) (by simpa using hl) λi hi _=>zc (by omega)
 ·have hle:l<=cs.length:=by rw[h7];exact Nat.le_mul_of_pos_right l hes
  simp (disch:=omega) only [zcT,aSl,zP,ble_eq,beq_eq,zaT,zba,Nat.add_eq,Nat.mul_eq,Nat.zero_add,Nat.succ_eq_add_one,zaA,zel,h6,zeH,zdb,zbk,zu,zdJ];have e:appF (zbn (l*es) (zbS 0 cs)) new=cs++new:=by
   rw[zaU,zN,zT,List.drop_zero,List.take_of_length_le (by show cs.length<=l*es;omega)]
  rw[e];have:=H1 (l+n) ((h.set b .dead).push (.own 0 (cs++new))) (by rw[zf (by rw[H.n_set])]) (by rw[H.n_push,H.n_set]) (by rw[List.length_append,h7,hl,Nat.add_mul]) λi hi hw=>by
   rw[zc (by rw[H.n_set];omega),ze (by omega)]
  simp only[decide_true,cond_true];exact this
def zhy(x:Nd)(w:AV):List AV:=[.int .i64 x.fn,.int .i64 x.parent,w,.str x.res]
def zg1(h:H)(v:AV)(xs:List Nd):Prop:=(v = .nils/\xs=[])\/∃b o m g us,v = .sl b o xs.length m g/\b<h.n/\(h.get b).cells=some us/\o+xs.length*4<=us.length /\
 ∀j x,xs[j]?=some x->∃w,(us.drop (o+j*4)).take 4=zhy x w/\SlAt h w (strs x.args)
theorem zg1.ext{h h':H}{v:AV}{xs:List Nd}(hs:zg1 h v xs)(e:Ext h h'):zg1 h' v xs:=by
 rcases hs with hs|⟨b,o,m,g,us,h1,h2,h3,h4,h5⟩
 ·exact .inl hs
 ·refine .inr ⟨b,o,m,g,us,h1,Nat.lt_of_lt_of_le h2 e.n,by rw[e.get b h2];exact h3,h4,λj x hx=>?_⟩;obtain⟨w,h6,h7⟩:=h5 j x hx;exact⟨w,h6,h7.ext e⟩
section
variable {β:Type} {t:ETree}
theorem zg1.len{h:H}{v:AV}{xs:List Nd}(hs:zg1 h v xs)(k:VK β):qLenL v (.mk k)=k (.int .i64 (xs.length:Int)):=by
 rcases hs with⟨rfl,rfl⟩|⟨b,o,m,g,us,rfl,_⟩
 ·exact zeh k
 ·exact zdt _ _ _ _ _ k
end
end Am.F
end
section
namespace Am.F
open Go Am
def LAt{α:Type}(es:Nat)(C:H->List AV->α->Prop)(h:H)(v:AV)(xs:List α):Prop :=
 (v = .nils/\xs=[])\/∃b o m g us,v = .sl b o xs.length m g/\b<h.n/\(h.get b).cells=some us/\o+xs.length*es<=us.length/\∀j x,xs[j]?=some x->C h ((us.drop (o+j*es)).take es) x
def zjM{α:Type}(C:H->List AV->α->Prop):Prop:=∀(h h':H) (cs:List AV) (x:α),C h cs x->Ext h h'->C h' cs x
theorem LAt.ext{α:Type}{es:Nat}{C:H->List AV->α->Prop}(hC:zjM C){h h':H}{v:AV}{xs:List α}(hs:LAt es C h v xs)(e:Ext h h'):LAt es C h' v xs:=by
 rcases hs with hs|⟨b,o,m,g,us,h1,h2,h3,h4,h5⟩
 ·exact .inl hs
 ·exact .inr ⟨b,o,m,g,us,h1,Nat.lt_of_lt_of_le h2 e.n,by rw[e.get b h2];exact h3,h4,λj x hx=>hC _ _ _ _ (h5 j x hx) e⟩
theorem LAt.len{β α:Type}{es:Nat}{C:H->List AV->α->Prop}{h:H}{v:AV}{xs:List α}(hs:LAt es C h v xs)(k:VK β):qLenL v (.mk k)=k (.int .i64 (xs.length:Int)):=by
 rcases hs with⟨rfl,rfl⟩|⟨b,o,m,g,us,rfl,_⟩<;>rfl
theorem LAt.sc{α:Type}{es:Nat}{C:H->List AV->α->Prop}{h:H}{v:AV}{xs:List α}(hs:LAt es C h v xs):v.sc=true:=by
 rcases hs with⟨rfl,_⟩|⟨b,o,m,g,us,rfl,_⟩<;>rfl
def InAt(es:Nat)(h:H)(b o:Nat)(cs:List AV):Prop:=b<h.n/\∃us,(h.get b).cells=some us/\o+es<=us.length/\(us.drop o).take es=cs
theorem InAt.ext{es:Nat}{h h':H}{b o:Nat}{cs:List AV}(hs:InAt es h b o cs)(e:Ext h h'):InAt es h' b o cs:=by
 obtain⟨h1,us,h2,h3⟩:=hs;exact⟨Nat.lt_of_lt_of_le h1 e.n,us,by rw[e.get b h1];exact h2,h3⟩
theorem InAt.own{h:H}{b tag:Nat}{cs:List AV}(hb:b<h.n)(hg:h.get b = .own tag cs):InAt cs.length h b 0 cs:=⟨hb,cs,by rw[hg];rfl,by omega,by rw[List.drop_zero,List.take_length]⟩
theorem InAt.get{es:Nat}{h:H}{b o:Nat}{cs:List AV}(hs:InAt es h b o cs):∃us,(h.get b).cells=some us/\o+es<=us.length/\(us.drop o).take es=cs/\∀i v,cs[i]?=some v->us[o+i]?=some v:=by
 obtain⟨h1,us,h2,h3,rfl⟩:=hs;refine⟨us,h2,h3,rfl,λi v hv=>?_⟩;rw[List.getElem?_take] at hv
 by_cases hi:i<es
 ·rw[if_pos hi,List.getElem?_drop] at hv;exact hv
 ·rw[if_neg hi] at hv;cases hv
theorem LAt.at{β α:Type}{es:Nat}{C:H->List AV->α->Prop}{h:H}{v:AV}{xs:List α}(hs:LAt es C h v xs){j:Nat}{x:α}(hx:xs[j]?=some x) :
  ∃b o cs,(∀k:VK β,zM es v (.int .i64 (j:Int)) (.mk k)=k (.ptr b o))/\InAt es h b o cs/\C h cs x:=by
 rcases hs with⟨_,rfl⟩|⟨b,o,m,g,us,rfl,h2,h3,h4,h5⟩
 ·simp at hx
 ·have hj:=(List.getElem?_eq_some_iff.1 hx).1;have hm:(j+1)*es<=xs.length*es:=Nat.mul_le_mul_right _ hj;rw[Nat.add_mul] at hm;exact⟨b,o+j*es,_,λk=>by rw[zej (by omega) (by omega),Int.toNat_natCast],⟨h2,us,h3,by omega,rfl⟩,h5 j x hx⟩
def ints(xs:List Int):List AV:=xs.map (.int .i64)
theorem zaq(xs:List Int):(ints xs).length=xs.length:=List.length_map ..
theorem za8{xs:List Int}{j:Nat}(hj:j<xs.length):(ints xs)[j]?=some (.int .i64 (xs.getD j 0)):=by simp[ints,List.getD_eq_getElem?_getD,hj]
theorem zdh{xs:List Int}{j:Nat}(hj:j<xs.length):(ints xs).getD j (.tup []) = .int .i64 (xs.getD j 0):=by rw[List.getD_eq_getElem?_getD,za8 hj];rfl
theorem zfD(xs:List Int)(j:Nat)(x:Int):(ints xs).set j (.int .i64 x)=ints (xs.set j x):=by simp[ints,List.map_set]
structure Ex where
 kind:Int
 num:Int
 bind:Int
 kids:List Int
deriving DecidableEq
structure Df where
 params:Int
 body:List Ex
deriving DecidableEq
def zaJ(e:Ex)(w:AV):List AV:=[.int .i64 e.kind,.int .i64 e.num,.int .i64 e.bind,w]
def ExC(h:H)(cs:List AV)(e:Ex):Prop:=∃w,cs=zaJ e w/\SlAt h w (ints e.kids)
def DfC(h:H)(cs:List AV)(d:Df):Prop:=∃w,cs=[.int .i64 d.params,w]/\LAt 4 ExC h w d.body
def PgAt(h:H)(a:AV)(p:List Df):Prop:=∃v,a = .agg [v]/\LAt 2 DfC h v p
theorem ExC.stays:zjM ExC:=λ_ _ _ _ ⟨w,h1,h2⟩ e=>⟨w,h1,h2.ext e⟩
theorem DfC.stays:zjM DfC:=λ_ _ _ _ ⟨w,h1,h2⟩ e=>⟨w,h1,h2.ext ExC.stays e⟩
theorem PgAt.ext{h h':H}{a:AV}{p:List Df}(hs:PgAt h a p)(e:Ext h h'):PgAt h' a p:=let ⟨v,h1,h2⟩:=hs;⟨v,h1,h2.ext DfC.stays e⟩
def ExIn(h:H)(b o:Nat)(w:AV)(e:Ex):Prop:=InAt 4 h b o (zaJ e w)/\SlAt h w (ints e.kids)
theorem ExIn.ext{h h':H}{b o:Nat}{w:AV}{e:Ex}(hs:ExIn h b o w e)(x:Ext h h'):ExIn h' b o w e:=⟨hs.1.ext x,hs.2.ext x⟩
theorem ExIn.get{h:H}{b o:Nat}{w:AV}{e:Ex}(hs:ExIn h b o w e)(β:Type):∃us,(h.get b).cells=some us/\(o+4<=us.length)/\(us.drop o).take 4=zaJ e w /\
  us[o]?=some (.int .i64 e.kind)/\us[o+1]?=some (.int .i64 e.num)/\us[o+2]?=some (.int .i64 e.bind)/\us[o+3]?=some w/\∀k:VK β,qLenL w (.mk k)=k (.int .i64 (e.kids.length:Int)):=by
 obtain⟨us,h1,h2,h3,h4⟩:=hs.1.get;exact⟨us,h1,h2,h3,h4 0 _ rfl,h4 1 _ rfl,h4 2 _ rfl,h4 3 _ rfl,λk=>by rw[hs.2.len,zaq]⟩
def Plain(e:Ex)(bind least most:Int):Prop:=0<=e.bind/\e.bind<=bind/\least<=(e.kids.length:Int)/\(e.kids.length:Int)<=most
instance (e:Ex) (b l m:Int):Decidable (Plain e b l m):=by unfold Plain;infer_instance
def zE(e:Ex)(lv:Int):Prop :=
 (e.kind=0/\(-32768<=e.num/\e.num<=32767)/\Plain e 0 0 0)\/(e.kind=1/\(0<=e.num/\e.num<=lv-1)/\Plain e 0 0 0)\/(e.kind=2/\(0<=e.num/\e.num<=7)/\Plain e 0 0 3) \/
 (e.kind=3/\(0<=e.num/\e.num<=99)/\Plain e 0 0 3)\/(e.kind=4/\(0<=e.num/\e.num<=4)/\Plain e 0 2 2)\/(e.kind=5/\(0<=e.num/\e.num<=99)/\Plain e 3 3 3) \/
 (e.kind=6/\e.num=0/\Plain e 0 2 2)\/(e.kind=7/\e.num=0/\Plain e 0 0 0)
instance (e:Ex) (lv:Int):Decidable (zE e lv):=by unfold zE;infer_instance
def more(e:Ex)(k:Int):Int:=if k=1 then (if e.kind=5 then e.bind else if e.kind=6 then 1 else 0) else 0
section
variable {β:Type} {t:ETree}
theorem GC.w212(T:GC t)(n:Nat)(x m:Int)(h:H)(k:K β):qCall (zd t stdI (n+1)) (.fn 212 []) [.int .i64 x,.int .i64 m] h (.mk k)=k (.bool (decide (0<=x/\x<=m))) h:=by
 rw[T.q212];unfold f212
 by_cases h1:0<=x<;>simp (disch:=first|omega|simp only[zD]<;>omega|assumption) only[↓zR,↓zRM,zR,zRM,reduceAdd,reduceMul,reduceToNat,h1]
theorem GC.w229(T:GC t)(n:Nat){h:H}{b o:Nat}{w:AV}{e:Ex}(hx:ExIn h b o w e)(bd ls ms:Int)(k:K β) :
  qCall (zd t stdI (n+1)) (.fn 229 []) [.ptr b o,.int .i64 bd,.int .i64 ls,.int .i64 ms] h (.mk k)=k (.bool (decide (Plain e bd ls ms))) h:=by
 rw[T.q229];unfold f229 Plain;obtain⟨us,fx⟩:=hx.get β
 by_cases h1:0<=e.bind
 ·by_cases h2:e.bind<=bd
  ·by_cases h3:ls<=(e.kids.length:Int)
   ·simp (disch:=first|omega|simp only[zD]<;>omega|assumption) only[↓zR,↓zRM,zR,zRM,reduceAdd,reduceMul,reduceToNat,zaW,fx,eq_true h1,eq_true h2,eq_true h3]
   ·simp (disch:=first|omega|simp only[zD]<;>omega|assumption) only[↓zR,↓zRM,zR,zRM,reduceAdd,reduceMul,reduceToNat,zaW,fx,eq_true h1,eq_true h2,eq_false h3]
  ·simp (disch:=first|omega|simp only[zD]<;>omega|assumption) only[↓zR,↓zRM,zR,zRM,reduceAdd,reduceMul,reduceToNat,zaW,fx,eq_true h1,eq_false h2]
 ·simp (disch:=first|omega|simp only[zD]<;>omega|assumption) only[↓zR,↓zRM,zR,zRM,reduceAdd,reduceMul,reduceToNat,zaW,fx,eq_false h1]
theorem GC.w214(T:GC t)(n:Nat){h:H}{b o:Nat}{w:AV}{e:Ex}(hx:ExIn h b o w e)(i:Int)(k:K β) :
  qCall (zd t stdI (n+1)) (.fn 214 []) [.ptr b o,.int .i64 i] h (.mk k)=k (.int .i64 (more e i)) h:=by
 rw[T.q214];unfold f214 more;obtain⟨us,fx⟩:=hx.get β
 by_cases h1:i=1
 ·by_cases h2:e.kind=5
  ·simp (disch:=first|omega|simp only[zD]<;>omega|assumption) only[↓zR,↓zRM,zR,zRM,reduceAdd,reduceMul,reduceToNat,↓f214_J0,zaW,fx,eq_true h1,eq_true h2]
  ·by_cases h3:e.kind=6
   ·simp (disch:=first|omega|simp only[zD]<;>omega|assumption) only[↓zR,↓zRM,zR,zRM,reduceAdd,reduceMul,reduceToNat,↓f214_J0,zaW,fx,eq_true h1,eq_false h2,eq_true h3]
   ·simp (disch:=first|omega|simp only[zD]<;>omega|assumption) only[↓zR,↓zRM,zR,zRM,reduceAdd,reduceMul,reduceToNat,↓f214_J0,zaW,fx,eq_true h1,eq_false h2,eq_false h3]
 ·simp (disch:=first|omega|simp only[zD]<;>omega|assumption) only[↓zR,↓zRM,zR,zRM,reduceAdd,reduceMul,reduceToNat,↓f214_J0,zaW,fx,eq_false h1]
end
end Am.F
end
section
namespace Am.F
open Go Am
section
variable {β:Type} {t:ETree}
theorem GC.w213_0(TC:GC t)(T:GA t)(n:Nat){h:H}{b o:Nat}{w:AV}{e:Ex}(hx:ExIn h b o w e)(lv:Int)(hlv:-1<=lv/\lv<=100)(k:K β)  (c0:(e.kind=0)=True) :
  qCall (zd t stdI (n+2)) (.fn 213 []) [.ptr b o,.int .i64 lv] h (.mk k)=k (.bool (decide (zE e lv))) h:=by
 have q:decide (zE e lv)=(decide (-32768<=e.num/\e.num<=32767)&&decide (Plain e 0 0 0)):=by
  rw[Bool.eq_iff_iff,Bool.and_eq_true,decide_eq_true_iff,decide_eq_true_iff,decide_eq_true_iff];unfold zE;simp[of_eq_true c0]
 have hp:∀(a b1 c:Int) (kk:K β),qCall (zd t stdI (n+1)) (.fn 229 []) [.ptr b o,.int .i64 a,.int .i64 b1,.int .i64 c] h (.mk kk)=kk (.bool (decide (Plain e a b1 c))) h:=λa b1 c kk=>TC.w229 n hx a b1 c kk
 obtain⟨us,fx⟩:=hx.get β;rw[TC.q213,q];clear q;unfold f213
 by_cases d:-32768<=e.num/\e.num<=32767
 ·simp (disch:=first|omega|simp only[zD]<;>omega|assumption) only[↓zR,↓zRM,zR,zRM,reduceAdd,reduceMul,reduceToNat,↓f213_J0,zaW,fx,c0,T.w28,hp,eq_true d]
 ·simp (disch:=first|omega|simp only[zD]<;>omega|assumption) only[↓zR,↓zRM,zR,zRM,reduceAdd,reduceMul,reduceToNat,↓f213_J0,zaW,fx,c0,T.w28,hp,eq_false d]
theorem GC.w213_1(TC:GC t)(T:GA t)(n:Nat){h:H}{b o:Nat}{w:AV}{e:Ex}(hx:ExIn h b o w e)(lv:Int)(hlv:-1<=lv/\lv<=100)(k:K β)(c0:(e.kind=0)=False)(c1:(e.kind=1)=True) :
  qCall (zd t stdI (n+2)) (.fn 213 []) [.ptr b o,.int .i64 lv] h (.mk k)=k (.bool (decide (zE e lv))) h:=by
 have q:decide (zE e lv)=(decide (0<=e.num/\e.num<=lv-1)&&decide (Plain e 0 0 0)):=by
  rw[Bool.eq_iff_iff,Bool.and_eq_true,decide_eq_true_iff,decide_eq_true_iff,decide_eq_true_iff];unfold zE;simp[of_eq_true c1]
 have hp:∀(a b1 c:Int) (kk:K β),qCall (zd t stdI (n+1)) (.fn 229 []) [.ptr b o,.int .i64 a,.int .i64 b1,.int .i64 c] h (.mk kk)=kk (.bool (decide (Plain e a b1 c))) h:=λa b1 c kk=>TC.w229 n hx a b1 c kk
 obtain⟨us,fx⟩:=hx.get β;rw[TC.q213,q];clear q;unfold f213
 by_cases d:0<=e.num/\e.num<=lv-1
 ·simp (disch:=first|omega|simp only[zD]<;>omega|assumption) only[↓zR,↓zRM,zR,zRM,reduceAdd,reduceMul,reduceToNat,↓f213_J0,zaW,fx,c0,c1,TC.w212,hp,eq_true d]
 ·simp (disch:=first|omega|simp only[zD]<;>omega|assumption) only[↓zR,↓zRM,zR,zRM,reduceAdd,reduceMul,reduceToNat,↓f213_J0,zaW,fx,c0,c1,TC.w212,hp,eq_false d]
theorem GC.w213_2(TC:GC t)(T:GA t)(n:Nat){h:H}{b o:Nat}{w:AV}{e:Ex}(hx:ExIn h b o w e)(lv:Int)(hlv:-1<=lv/\lv<=100)(k:K β)(c0:(e.kind=0)=False)(c1:(e.kind=1)=False)(c2:(e.kind=2)=True) :
  qCall (zd t stdI (n+2)) (.fn 213 []) [.ptr b o,.int .i64 lv] h (.mk k)=k (.bool (decide (zE e lv))) h:=by
 have q:decide (zE e lv)=(decide (0<=e.num/\e.num<=7)&&decide (Plain e 0 0 3)):=by
  rw[Bool.eq_iff_iff,Bool.and_eq_true,decide_eq_true_iff,decide_eq_true_iff,decide_eq_true_iff];unfold zE;simp[of_eq_true c2]
 have hp:∀(a b1 c:Int) (kk:K β),qCall (zd t stdI (n+1)) (.fn 229 []) [.ptr b o,.int .i64 a,.int .i64 b1,.int .i64 c] h (.mk kk)=kk (.bool (decide (Plain e a b1 c))) h:=λa b1 c kk=>TC.w229 n hx a b1 c kk
 obtain⟨us,fx⟩:=hx.get β;rw[TC.q213,q];clear q;unfold f213
 by_cases d:0<=e.num/\e.num<=7
 ·simp (disch:=first|omega|simp only[zD]<;>omega|assumption) only[↓zR,↓zRM,zR,zRM,reduceAdd,reduceMul,reduceToNat,↓f213_J0,zaW,fx,c0,c1,c2,TC.w212,hp,eq_true d]
 ·simp (disch:=first|omega|simp only[zD]<;>omega|assumption) only[↓zR,↓zRM,zR,zRM,reduceAdd,reduceMul,reduceToNat,↓f213_J0,zaW,fx,c0,c1,c2,TC.w212,hp,eq_false d]
theorem GC.w213_3(TC:GC t)(T:GA t)(n:Nat){h:H}{b o:Nat}{w:AV}{e:Ex}(hx:ExIn h b o w e)(lv:Int)(hlv:-1<=lv/\lv<=100)(k:K β)(c0:(e.kind=0)=False)(c1:(e.kind=1)=False)(c2:(e.kind=2)=False)(c3:(e.kind=3)=True) :
  qCall (zd t stdI (n+2)) (.fn 213 []) [.ptr b o,.int .i64 lv] h (.mk k)=k (.bool (decide (zE e lv))) h:=by
 have q:decide (zE e lv)=(decide (0<=e.num/\e.num<=99)&&decide (Plain e 0 0 3)):=by
  rw[Bool.eq_iff_iff,Bool.and_eq_true,decide_eq_true_iff,decide_eq_true_iff,decide_eq_true_iff];unfold zE;simp[of_eq_true c3]
 have hp:∀(a b1 c:Int) (kk:K β),qCall (zd t stdI (n+1)) (.fn 229 []) [.ptr b o,.int .i64 a,.int .i64 b1,.int .i64 c] h (.mk kk)=kk (.bool (decide (Plain e a b1 c))) h:=λa b1 c kk=>TC.w229 n hx a b1 c kk
 obtain⟨us,fx⟩:=hx.get β;rw[TC.q213,q];clear q;unfold f213
 by_cases d:0<=e.num/\e.num<=99
 ·simp (disch:=first|omega|simp only[zD]<;>omega|assumption) only[↓zR,↓zRM,zR,zRM,reduceAdd,reduceMul,reduceToNat,↓f213_J0,zaW,fx,c0,c1,c2,c3,TC.w212,hp,eq_true d]
 ·simp (disch:=first|omega|simp only[zD]<;>omega|assumption) only[↓zR,↓zRM,zR,zRM,reduceAdd,reduceMul,reduceToNat,↓f213_J0,zaW,fx,c0,c1,c2,c3,TC.w212,hp,eq_false d]
theorem GC.w213_4(TC:GC t)(T:GA t)(n:Nat){h:H}{b o:Nat}{w:AV}{e:Ex}(hx:ExIn h b o w e)(lv:Int)(hlv:-1<=lv/\lv<=100)(k:K β)(c0:(e.kind=0)=False)(c1:(e.kind=1)=False)(c2:(e.kind=2)=False)(c3:(e.kind=3)=False)(c4:(e.kind=4)=True) :
  qCall (zd t stdI (n+2)) (.fn 213 []) [.ptr b o,.int .i64 lv] h (.mk k)=k (.bool (decide (zE e lv))) h:=by
 have q:decide (zE e lv)=(decide (0<=e.num/\e.num<=4)&&decide (Plain e 0 2 2)):=by
  rw[Bool.eq_iff_iff,Bool.and_eq_true,decide_eq_true_iff,decide_eq_true_iff,decide_eq_true_iff];unfold zE;simp[of_eq_true c4]
 have hp:∀(a b1 c:Int) (kk:K β),qCall (zd t stdI (n+1)) (.fn 229 []) [.ptr b o,.int .i64 a,.int .i64 b1,.int .i64 c] h (.mk kk)=kk (.bool (decide (Plain e a b1 c))) h:=λa b1 c kk=>TC.w229 n hx a b1 c kk
 obtain⟨us,fx⟩:=hx.get β;rw[TC.q213,q];clear q;unfold f213
 by_cases d:0<=e.num/\e.num<=4
 ·simp (disch:=first|omega|simp only[zD]<;>omega|assumption) only[↓zR,↓zRM,zR,zRM,reduceAdd,reduceMul,reduceToNat,↓f213_J0,zaW,fx,c0,c1,c2,c3,c4,TC.w212,hp,eq_true d]
 ·simp (disch:=first|omega|simp only[zD]<;>omega|assumption) only[↓zR,↓zRM,zR,zRM,reduceAdd,reduceMul,reduceToNat,↓f213_J0,zaW,fx,c0,c1,c2,c3,c4,TC.w212,hp,eq_false d]
theorem GC.w213_5(TC:GC t)(T:GA t)(n:Nat){h:H}{b o:Nat}{w:AV}{e:Ex}(hx:ExIn h b o w e)(lv:Int)(hlv:-1<=lv/\lv<=100)(k:K β)(c0:(e.kind=0)=False)(c1:(e.kind=1)=False)(c2:(e.kind=2)=False)(c3:(e.kind=3)=False)(c4:(e.kind=4)=False)(c5:(e.kind=5)=True) :
  qCall (zd t stdI (n+2)) (.fn 213 []) [.ptr b o,.int .i64 lv] h (.mk k)=k (.bool (decide (zE e lv))) h:=by
 have q:decide (zE e lv)=(decide (0<=e.num/\e.num<=99)&&decide (Plain e 3 3 3)):=by
  rw[Bool.eq_iff_iff,Bool.and_eq_true,decide_eq_true_iff,decide_eq_true_iff,decide_eq_true_iff];unfold zE;simp[of_eq_true c5]
 have hp:∀(a b1 c:Int) (kk:K β),qCall (zd t stdI (n+1)) (.fn 229 []) [.ptr b o,.int .i64 a,.int .i64 b1,.int .i64 c] h (.mk kk)=kk (.bool (decide (Plain e a b1 c))) h:=λa b1 c kk=>TC.w229 n hx a b1 c kk
 obtain⟨us,fx⟩:=hx.get β;rw[TC.q213,q];clear q;unfold f213
 by_cases d:0<=e.num/\e.num<=99
 ·simp (disch:=first|omega|simp only[zD]<;>omega|assumption) only[↓zR,↓zRM,zR,zRM,reduceAdd,reduceMul,reduceToNat,↓f213_J0,zaW,fx,c0,c1,c2,c3,c4,c5,TC.w212,hp,eq_true d]
 ·simp (disch:=first|omega|simp only[zD]<;>omega|assumption) only[↓zR,↓zRM,zR,zRM,reduceAdd,reduceMul,reduceToNat,↓f213_J0,zaW,fx,c0,c1,c2,c3,c4,c5,TC.w212,hp,eq_false d]
theorem GC.w213_6(TC:GC t)(T:GA t)(n:Nat){h:H}{b o:Nat}{w:AV}{e:Ex}(hx:ExIn h b o w e)(lv:Int)(hlv:-1<=lv/\lv<=100)(k:K β)(c0:(e.kind=0)=False)(c1:(e.kind=1)=False)(c2:(e.kind=2)=False)(c3:(e.kind=3)=False)(c4:(e.kind=4)=False)(c5:(e.kind=5)=False)(c6:(e.kind=6)=True) :
  qCall (zd t stdI (n+2)) (.fn 213 []) [.ptr b o,.int .i64 lv] h (.mk k)=k (.bool (decide (zE e lv))) h:=by
 have q:decide (zE e lv)=(decide (e.num=0)&&decide (Plain e 0 2 2)):=by
  rw[Bool.eq_iff_iff,Bool.and_eq_true,decide_eq_true_iff,decide_eq_true_iff,decide_eq_true_iff];unfold zE;simp[of_eq_true c6]
 have hp:∀(a b1 c:Int) (kk:K β),qCall (zd t stdI (n+1)) (.fn 229 []) [.ptr b o,.int .i64 a,.int .i64 b1,.int .i64 c] h (.mk kk)=kk (.bool (decide (Plain e a b1 c))) h:=λa b1 c kk=>TC.w229 n hx a b1 c kk
 obtain⟨us,fx⟩:=hx.get β;rw[TC.q213,q];clear q;unfold f213
 by_cases d:e.num=0
 ·simp (disch:=first|omega|simp only[zD]<;>omega|assumption) only[↓zR,↓zRM,zR,zRM,reduceAdd,reduceMul,reduceToNat,↓f213_J0,zaW,fx,c0,c1,c2,c3,c4,c5,c6,hp,eq_true d]
 ·simp (disch:=first|omega|simp only[zD]<;>omega|assumption) only[↓zR,↓zRM,zR,zRM,reduceAdd,reduceMul,reduceToNat,↓f213_J0,zaW,fx,c0,c1,c2,c3,c4,c5,c6,hp,eq_false d]
theorem GC.w213_7(TC:GC t)(T:GA t)(n:Nat){h:H}{b o:Nat}{w:AV}{e:Ex}(hx:ExIn h b o w e)(lv:Int)(hlv:-1<=lv/\lv<=100)(k:K β)(c0:(e.kind=0)=False)(c1:(e.kind=1)=False)(c2:(e.kind=2)=False)(c3:(e.kind=3)=False)(c4:(e.kind=4)=False)(c5:(e.kind=5)=False)(c6:(e.kind=6)=False)(c7:(e.kind=7)=True) :
  qCall (zd t stdI (n+2)) (.fn 213 []) [.ptr b o,.int .i64 lv] h (.mk k)=k (.bool (decide (zE e lv))) h:=by
 have q:decide (zE e lv)=(decide (e.num=0)&&decide (Plain e 0 0 0)):=by
  rw[Bool.eq_iff_iff,Bool.and_eq_true,decide_eq_true_iff,decide_eq_true_iff,decide_eq_true_iff];unfold zE;simp[of_eq_true c7]
 have hp:∀(a b1 c:Int) (kk:K β),qCall (zd t stdI (n+1)) (.fn 229 []) [.ptr b o,.int .i64 a,.int .i64 b1,.int .i64 c] h (.mk kk)=kk (.bool (decide (Plain e a b1 c))) h:=λa b1 c kk=>TC.w229 n hx a b1 c kk
 obtain⟨us,fx⟩:=hx.get β;rw[TC.q213,q];clear q;unfold f213
 by_cases d:e.num=0
 ·simp (disch:=first|omega|simp only[zD]<;>omega|assumption) only[↓zR,↓zRM,zR,zRM,reduceAdd,reduceMul,reduceToNat,↓f213_J0,zaW,fx,c0,c1,c2,c3,c4,c5,c6,c7,hp,eq_true d]
 ·simp (disch:=first|omega|simp only[zD]<;>omega|assumption) only[↓zR,↓zRM,zR,zRM,reduceAdd,reduceMul,reduceToNat,↓f213_J0,zaW,fx,c0,c1,c2,c3,c4,c5,c6,c7,hp,eq_false d]
theorem GC.w213_8(TC:GC t)(T:GA t)(n:Nat){h:H}{b o:Nat}{w:AV}{e:Ex}(hx:ExIn h b o w e)(lv:Int)(hlv:-1<=lv/\lv<=100)(k:K β)(c0:(e.kind=0)=False)(c1:(e.kind=1)=False)(c2:(e.kind=2)=False)(c3:(e.kind=3)=False)(c4:(e.kind=4)=False)(c5:(e.kind=5)=False)(c6:(e.kind=6)=False)(c7:(e.kind=7)=False) :
  qCall (zd t stdI (n+2)) (.fn 213 []) [.ptr b o,.int .i64 lv] h (.mk k)=k (.bool (decide (zE e lv))) h:=by
 have q:decide (zE e lv)=false:=by
  rw[decide_eq_false_iff_not];unfold zE;simp only[c0,c1,c2,c3,c4,c5,c6,c7,false_and,or_false,not_false_eq_true]
 obtain⟨us,fx⟩:=hx.get β;rw[TC.q213,q];clear q;unfold f213;simp (disch:=first|omega|simp only[zD]<;>omega|assumption) only[↓zR,↓zRM,zR,zRM,reduceAdd,reduceMul,reduceToNat,↓f213_J0,zaW,fx,c0,c1,c2,c3,c4,c5,c6,c7]
theorem GC.w213(TC:GC t)(T:GA t)(n:Nat){h:H}{b o:Nat}{w:AV}{e:Ex}(hx:ExIn h b o w e)(lv:Int)(hlv:-1<=lv/\lv<=100)(k:K β) :
  qCall (zd t stdI (n+2)) (.fn 213 []) [.ptr b o,.int .i64 lv] h (.mk k)=k (.bool (decide (zE e lv))) h:=by
 by_cases c0:e.kind=0
 ·exact TC.w213_0 T n hx lv hlv k  (eq_true c0)
 by_cases c1:e.kind=1
 ·exact TC.w213_1 T n hx lv hlv k (eq_false c0) (eq_true c1)
 by_cases c2:e.kind=2
 ·exact TC.w213_2 T n hx lv hlv k (eq_false c0) (eq_false c1) (eq_true c2)
 by_cases c3:e.kind=3
 ·exact TC.w213_3 T n hx lv hlv k (eq_false c0) (eq_false c1) (eq_false c2) (eq_true c3)
 by_cases c4:e.kind=4
 ·exact TC.w213_4 T n hx lv hlv k (eq_false c0) (eq_false c1) (eq_false c2) (eq_false c3) (eq_true c4)
 by_cases c5:e.kind=5
 ·exact TC.w213_5 T n hx lv hlv k (eq_false c0) (eq_false c1) (eq_false c2) (eq_false c3) (eq_false c4) (eq_true c5)
 by_cases c6:e.kind=6
 ·exact TC.w213_6 T n hx lv hlv k (eq_false c0) (eq_false c1) (eq_false c2) (eq_false c3) (eq_false c4) (eq_false c5) (eq_true c6)
 by_cases c7:e.kind=7
 ·exact TC.w213_7 T n hx lv hlv k (eq_false c0) (eq_false c1) (eq_false c2) (eq_false c3) (eq_false c4) (eq_false c5) (eq_false c6) (eq_true c7)
 exact TC.w213_8 T n hx lv hlv k (eq_false c0) (eq_false c1) (eq_false c2) (eq_false c3) (eq_false c4) (eq_false c5) (eq_false c6) (eq_false c7)
end
end Am.F
end
section
namespace Am.F
open Go Am
def zcp(i:Nat)(e:Ex):Nat->List Int->List Int->Option (List Int)
 | _,[],lv=>some lv
 | k,kid::ks,lv=>if 0<=kid/\kid<(i:Int)/\lv.getD kid.toNat 0 = -1 then zcp i e (k+1) ks (lv.set kid.toNat (lv.getD i 0+more e k)) else none
def zcq(body:List Ex):Nat->List Int->Bool
 | 0,_=>true
 | i+1,lv=>match body[i]? with
  | none=>false
  | some e=>if lv.getD i 0 = -1\/8<lv.getD i 0\/¬ zE e (lv.getD i 0) then false else
   match zcp i e 0 e.kids lv with
   | none=>false
   | some lv'=>zcq body i lv'
def zbD(body:List Ex)(i:Nat):Option (List Int)->Bool
 | none=>false
 | some lv=>zcq body i lv
def zbm(d:Df):List Int:=List.replicate (d.body.length-1) (-1)++[d.params]
def zax(d:Df):Bool:=decide ((0<=d.params/\d.params<=3)/\1<=d.body.length/\d.body.length<=24)&&zcq d.body d.body.length (zbm d)
def LvOk(n:Nat)(lv:List Int):Prop:=lv.length=n/\∀q,-1<=lv.getD q 0/\lv.getD q 0<=11
theorem getD_set_eq(xs:List Int){i:Nat}(x:Int)(hi:i<xs.length):(xs.set i x).getD i 0=x:=by simp[List.getD_eq_getElem?_getD,hi]
theorem getD_set_ne(xs:List Int){i j:Nat}(x:Int)(hi:i≠j):(xs.set i x).getD j 0=xs.getD j 0:=by simp[List.getD_eq_getElem?_getD,List.getElem?_set_ne hi]
theorem LvOk.set{n:Nat}{lv:List Int}(h:LvOk n lv){i:Nat}{x:Int}(hx:-1<=x/\x<=11):LvOk n (lv.set i x):=by
 refine⟨by rw[List.length_set];exact h.1,λq=>?_⟩
 by_cases hq:i=q
 ·subst hq
  by_cases hi:i<lv.length
  ·rw[getD_set_eq _ _ hi];exact hx
  ·rw[List.set_eq_of_length_le (by omega)];exact h.2 i
 ·rw[getD_set_ne _ _ hq];exact h.2 q
theorem zE.bind{e:Ex}{lv:Int}(h:zE e lv):0<=e.bind/\e.bind<=3:=by
 unfold zE Plain at h;rcases h with h|h|h|h|h|h|h|h<;>omega
theorem zkU{e:Ex}(h:0<=e.bind/\e.bind<=3)(k:Int):0<=more e k/\more e k<=3:=by
 unfold more;split<;>(try split)<;>(try split)<;>omega
theorem ziX(body:List Ex)(i:Nat)(lv:List Int){e:Ex}(he:body[i]?=some e)(h1:¬ lv.getD i 0 = -1)(h2:¬ 8<lv.getD i 0)(h3:zE e (lv.getD i 0)) :
  zcq body (i+1) lv=zbD body i (zcp i e 0 e.kids lv):=by
 show (match body[i]? with|none=>false|some e=>_)=_;rw[he];show (if _ then _ else _)=_;rw[if_neg (by simp only[h1,h2,h3,not_true_eq_false,or_self,not_false_eq_true])];cases zcp i e 0 e.kids lv<;>rfl
theorem zcJ(body:List Ex)(i:Nat)(lv:List Int){e:Ex}(he:body[i]?=some e)(h:lv.getD i 0 = -1\/8<lv.getD i 0\/¬ zE e (lv.getD i 0)):zcq body (i+1) lv=false:=by
 show (match body[i]? with|none=>false|some e=>_)=_;rw[he];show (if _ then _ else _)=_;rw[if_pos h]
theorem rep_ints(n:Nat):rep n [.int .i64 0]=ints (List.replicate n 0):=by
 induction n with
 | zero=>rfl
 | succ n ih=>show _::rep n [.int .i64 0]=_;rw[ih];rfl
theorem zkV{β:Type}{l:Nat}(hl:l<room)(h:H)(k:K β):zie 0 [.int .i64 0] 8 (.int .i64 (l:Int)) (.int .i64 (l:Int)) h (.mk k)=k (.sl h.n 0 l l none) (h.push (.own 0 (ints (List.replicate l 0)))):=by
 have hn:∀c:Nat->Option β,aNat (.int .i64 (l:Int)) c=c l:=λc=>by show frc l c=c l;rw[zP]
 show zd1 0 [.int .i64 0] 8 (.int .i64 (l:Int)) (.int .i64 (l:Int)) h k=_;unfold zd1;rw[hn,hn,ble_eq,ble_eq,ble_eq,decide_eq_true (Nat.le_refl _),decide_eq_true (by omega),decide_eq_true (by omega),zdJ,rep_ints];rfl
end Am.F
end
section
namespace Am.F
open Go Am
def DMem(h h':H)(bx:List AV)(lv:List Int):Prop:=h.n+2<=h'.n/\(∀q,q<h.n->h'.get q=h.get q)/\h'.get h.n = .own 0 bx/\h'.get (h.n+1) = .own 0 (ints lv)
theorem DMem.base{h h':H}{bx:List AV}{lv:List Int}(d:DMem h h' bx lv):Ext h h':=⟨by have:=d.1;omega,d.2.1⟩
theorem DMem.ext{h h' h'':H}{bx:List AV}{lv:List Int}(d:DMem h h' bx lv)(e:Ext h' h''):DMem h h'' bx lv:=by
 obtain⟨d1,d2,d3,d4⟩:=d;refine⟨by have:=e.n;omega,λq hq=>by rw[e.get q (by omega),d2 q hq],by rw[e.get _ (by omega),d3],by rw[e.get _ (by omega),d4]⟩
theorem DMem.set{h h':H}{bx:List AV}{lv:List Int}(d:DMem h h' bx lv)(lv':List Int):DMem h (h'.set (h.n+1) (.own 0 (ints lv'))) bx lv':=by
 obtain⟨d1,d2,d3,d4⟩:=d;refine⟨by rw[H.n_set];exact d1,λq hq=>by rw[ze (by omega),d2 q hq],by rw[ze (by omega),d3],zn rfl⟩
theorem DMem.mk{h:H}(bx:List AV)(lv:List Int):DMem h ((h.push (.own 0 bx)).push (.own 0 (ints lv))) bx lv :=
 ⟨by rw[H.n_push,H.n_push];omega,λq hq=>by rw[zc (by rw[H.n_push];omega),zc (by omega)],by rw[zc (by rw[H.n_push];omega),zf rfl],zf (by rw[H.n_push])⟩
theorem zfE(k:Nat):AV.int .i64 ((k:Int)+1)=AV.int .i64 ((k+1:Nat):Int):=rfl
theorem DMem.facts{h h':H}{bx:List AV}{lv:List Int}(d:DMem h h' bx lv):(h'.get h.n).cells=some bx/\(h'.get (h.n+1)).cells=some (ints lv)/\zG (h'.get (h.n+1))=some (0,ints lv):=by
 obtain⟨d1,d2,d3,d4⟩:=d;exact⟨by rw[d3];rfl,by rw[d4];rfl,by rw[d4];rfl⟩
section
variable {β:Type} {t:ETree}
theorem GC.w187(TC:GC t)(T:GA t)(n:Nat)(hn:40<=n){h:H}{w:AV}{d:Df}(hw:LAt 4 ExC h w d.body)(hl:d.body.length<=9223372036854775807) :
  Sp (β:=β) (zd t stdI n (.fn 187 []) [.agg [.int .i64 d.params,w]] h) λu h'=>Ext h h'/\u = .bool (zax d):=by
 intro k R hk;obtain⟨m,rfl⟩:∃m,n=m+3:=⟨n-3,by omega⟩
 have wl:=hw.len (β:=β);have hsc:=hw.sc;have hroom:room=68719476736:=rfl;have hb:∀(v w:AV) (hh:H) (kk:K β),qBox 0 (.agg [v,w]) hh (.mk kk)=kk (.ptr hh.n 0) (hh.push (.own 0 [v,w])):=λv w hh kk=>zU 0 _ hh kk
 have h212:=λ(x y:Int) (hh:H) (kk:K β)=>TC.w212 (m+1) x y hh kk
 by_cases c1:0<=d.params/\d.params<=3
 case neg=>
  rw[TC.c187];unfold f187;simp (disch:=first|omega|simp only[zD]<;>omega|assumption) only[↓zR,↓zRM,zR,zRM,reduceAdd,reduceMul,reduceToNat,↓hb,wl,h212,eq_false c1];exact hk _ _ ⟨(Ext.refl h).push _,by unfold zax;rw[decide_eq_false (by omega)];rfl⟩
 by_cases c2:0<=(d.body.length:Int)-1/\(d.body.length:Int)-1<=23
 case neg=>
  rw[TC.c187];unfold f187;simp (disch:=first|omega|simp only[zD]<;>omega|assumption) only[↓zR,↓zRM,zR,zRM,reduceAdd,reduceMul,reduceToNat,↓hb,wl,h212,eq_true c1,eq_false c2];exact hk _ _ ⟨(Ext.refl h).push _,by unfold zax;rw[decide_eq_false (by omega)];rfl⟩
 have tn:((d.body.length:Int)-1).toNat=d.body.length-1:=by omega
 have hmk:=λ(hh:H) (kk:K β)=>zkV (β:=β) (l:=d.body.length) (by omega) hh kk
 have d0:zax d=zcq d.body d.body.length (zbm d):=by unfold zax;rw[decide_eq_true (by omega)];rfl
 have inner:∀(i:Nat) (e:Ex) (hi:d.body[i]?=some e) (hk3:e.kids.length<=3) (j17:Cur β 22),
   (∀lv,LvOk d.body.length lv->zcq d.body i lv=zax d->∀x0 x1 x2 x3 x4 x5 x6 x7 x8 x9 x10 x11 x12 x13 x14 x15 x16 x17 x18 x19 x20 x21 h',DMem h h' [.int .i64 d.params,w] lv->x1 = .ptr h.n 0->x4 = .sl (h.n+1) 0 d.body.length d.body.length none->x6 = .int .i64 (i:Int)->j17 x0 x1 x2 x3 x4 x5 x6 x7 x8 x9 x10 x11 x12 x13 x14 x15 x16 x17 x18 x19 x20 x21 h'=R) ->
   ∀(kn:Nat),kn<m+2->∀x0 x1 x2 x3 x4 x5 x6 x7 x8 x9 x10 x11 x12 x13 x14 x15 x16 x17 x18 x19 x20 x21 h',(∃(b o:Nat) (w':AV) (kk:Nat) (lv:List Int),x1 = .ptr h.n 0/\x4 = .sl (h.n+1) 0 d.body.length d.body.length none/\x6 = .int .i64 (i:Int)/\x7 = .ptr b o/\ExIn h b o w' e/\x16=w'/\x17 = .int .i64 (e.kids.length:Int)/\x18 = .int .i64 (kk:Int) /\
    kk+kn=e.kids.length/\DMem h h' [.int .i64 d.params,w] lv/\LvOk d.body.length lv/\(¬ lv.getD i 0 = -1/\¬ 8<lv.getD i 0)/\(0<=e.bind/\e.bind<=3)/\zbD d.body i (zcp i e kk (e.kids.drop kk) lv)=zax d) ->
   zaE 22 (m+2) (.mk (f187_L27 (zd t stdI (m+2)) k j17)) x0 x1 x2 x3 x4 x5 x6 x7 x8 x9 x10 x11 x12 x13 x14 x15 x16 x17 x18 x19 x20 x21 h'=R:=by
  intro i e hi hk3 j17 hj kn hkn;refine zal 22 (m+2) _ _ (λkn x0 x1 x2 x3 x4 x5 x6 x7 x8 x9 x10 x11 x12 x13 x14 x15 x16 x17 x18 x19 x20 x21 h'=>∃(b o:Nat) (w':AV) (kk:Nat) (lv:List Int),x1 = .ptr h.n 0/\x4 = .sl (h.n+1) 0 d.body.length d.body.length none/\x6 = .int .i64 (i:Int)/\x7 = .ptr b o/\ExIn h b o w' e/\x16=w'/\x17 = .int .i64 (e.kids.length:Int)/\x18 = .int .i64 (kk:Int) /\
    kk+kn=e.kids.length/\DMem h h' [.int .i64 d.params,w] lv/\LvOk d.body.length lv/\(¬ lv.getD i 0 = -1/\¬ 8<lv.getD i 0)/\(0<=e.bind/\e.bind<=3)/\zbD d.body i (zcp i e kk (e.kids.drop kk) lv)=zax d) kn hkn ?_
  intro l kn ih x0 x1 x2 x3 x4 x5 x6 x7 x8 x9 x10 x11 x12 x13 x14 x15 x16 x17 x18 x19 x20 x21 h' ⟨b,o,w',kk,lv,q1,q2,q3,q4,q5,q6,q7,q8,q9,q10,q11,q12,q13,q14⟩;subst q1 q2 q3 q4 q6 q7 q8;have hil:i<d.body.length:=(List.getElem?_eq_some_iff.1 hi).1;cases kn with
  | zero=>
   have hk':kk=e.kids.length:=by omega
   subst hk';rw[List.drop_length] at q14;simp (disch:=first|omega|simp only[zD]<;>omega|assumption) only[↓zR,↓zRM,zR,zRM,reduceAdd,reduceMul,reduceToNat,↓f187_J14,↓f187_J17,↓f187_J30,↓f187_J34,↓f187_J29,↓f187_L27,↓f187_J22,↓f187_J16,↓f187_L15,↓f187_J10,↓f187_J64,↓f187_J63,↓f187_L61,↓f187_J5];exact hj lv q11 q14 _ _ _ _ _ _ _ _ _ _ _ _ _ _ _ _ _ _ _ _ _ _ _ q10 rfl rfl rfl
  | succ kn=>
   have hkl:kk<e.kids.length:=by omega
   obtain⟨f1,f2,f3⟩:=q10.facts;have q5':=q5.ext q10.base;have hld:=λ(kc:VK β)=>q5'.2.load (β:=β) (i:=(kk:Int)) (kd:=.i64) (by omega) (by rw[zaq];omega) kc
   rw[Int.toNat_natCast,zdh hkl] at hld;have hdr:e.kids.drop kk=e.kids.getD kk 0::e.kids.drop (kk+1):=by
    rw[List.drop_eq_getElem_cons hkl,List.getD_eq_getElem?_getD,List.getElem?_eq_getElem hkl];rfl
   rw[hdr] at q14;generalize e.kids.getD kk 0=kid at hld q14
   by_cases k1:kid<0
   ·have:zax d=false:=by rw[<- q14];show zbD _ _ (if _ then _ else _)=_;rw[if_neg (by omega)];rfl
    simp (disch:=first|omega|simp only[zD]<;>omega|assumption) only[↓zR,↓zRM,zR,zRM,reduceAdd,reduceMul,reduceToNat,↓f187_J14,↓f187_J17,↓f187_J30,↓f187_J34,↓f187_J29,↓f187_L27,↓f187_J22,↓f187_J16,↓f187_L15,↓f187_J10,↓f187_J64,↓f187_J63,↓f187_L61,↓f187_J5,hld,eq_true k1];exact hk _ _ ⟨q10.base,by rw[this]⟩
   by_cases k2:(i:Int)<=kid
   ·have:zax d=false:=by rw[<- q14];show zbD _ _ (if _ then _ else _)=_;rw[if_neg (by omega)];rfl
    simp (disch:=first|omega|simp only[zD]<;>omega|assumption) only[↓zR,↓zRM,zR,zRM,reduceAdd,reduceMul,reduceToNat,↓f187_J14,↓f187_J17,↓f187_J30,↓f187_J34,↓f187_J29,↓f187_L27,↓f187_J22,↓f187_J16,↓f187_L15,↓f187_J10,↓f187_J64,↓f187_J63,↓f187_L61,↓f187_J5,hld,eq_false k1,eq_true k2];exact hk _ _ ⟨q10.base,by rw[this]⟩
   obtain⟨kd,rfl⟩:=Int.eq_ofNat_of_zero_le (show 0<=kid by omega);have hkd:kd<d.body.length:=by omega
   have g1:=za8 (xs:=lv) (j:=kd) (by rw[q11.1];exact hkd);have g2:=za8 (xs:=lv) (j:=i) (by rw[q11.1];exact hil)
   by_cases k3:lv.getD kd 0 = -1
   case neg=>
    have:zax d=false:=by rw[<- q14];show zbD _ _ (if _ then _ else _)=_;rw[Int.toNat_natCast,if_neg (by omega)];rfl
    simp (disch:=first|omega|simp only[zD]<;>omega|assumption) only[↓zR,↓zRM,zR,zRM,reduceAdd,reduceMul,reduceToNat,↓f187_J14,↓f187_J17,↓f187_J30,↓f187_J34,↓f187_J29,↓f187_L27,↓f187_J22,↓f187_J16,↓f187_L15,↓f187_J10,↓f187_J64,↓f187_J63,↓f187_L61,↓f187_J5,hld,eq_false k1,eq_false k2,f1,f2,g1,eq_false k3];exact hk _ _ ⟨q10.base,by rw[this]⟩
   have h214:=λ(kc:K β)=>TC.w214 (m+1) q5' (kk:Int) kc
   have hm:=zkU q13 (kk:Int);have hlv:=q11.2 i;have hch:∀(x:Int) (c:Option β),qChk (.int .i64 x) (.int .i64 x) (.mk c)=c:=λx c=>by
    show cond (AV.beq _ _) c none=c;have:AV.beq (.int .i64 x) (.int .i64 x)=true:=by simp[AV.beq]
    rw[this];rfl
   simp (disch:=first|omega|simp only[zD]<;>omega|assumption) only[↓zR,↓zRM,zR,zRM,reduceAdd,reduceMul,reduceToNat,↓f187_J14,↓f187_J17,↓f187_J30,↓f187_J34,↓f187_J29,↓f187_L27,↓f187_J22,↓f187_J16,↓f187_L15,↓f187_J10,↓f187_J64,↓f187_J63,↓f187_L61,↓f187_J5,hld,eq_false k1,eq_false k2,f1,f2,f3,g1,g2,eq_true k3,h214,hch,zfD,zaq,q11.1];have hb2:-1<=lv.getD i 0+more e (kk:Int)/\lv.getD i 0+more e (kk:Int)<=11:=by omega
   refine ih kn (by omega) _ _ _ _ _ _ _ _ _ _ _ _ _ _ _ _ _ _ _ _ _ _ _ ⟨b,o,_,kk+1,lv.set kd (lv.getD i 0+more e (kk:Int)),rfl,rfl,rfl,rfl,q5,rfl,rfl,zfE kk,by omega,q10.set _,q11.set hb2,?_,q13,?_⟩
   ·rw[getD_set_ne _ _ (by omega)];exact q12
   ·rw[<- q14];show _=zbD _ _ (if _ then _ else _);rw[Int.toNat_natCast,if_pos ⟨by omega,by omega,k3⟩]
 have outer:∀(i:Nat),i<=d.body.length->∀x0 x1 x2 x3 x4 x5 x6 x7 x8 x9 x10 x11 x12 x13 x14 x15 x16 x17 x18 x19 x20 x21 h',(i<=d.body.length/\∃lv,x1 = .ptr h.n 0/\x4 = .sl (h.n+1) 0 d.body.length d.body.length none/\x6 = .int .i64 ((i:Int)-1)/\DMem h h' [.int .i64 d.params,w] lv/\LvOk d.body.length lv/\zcq d.body i lv=zax d) ->
   zaE 22 (m+2) (.mk (f187_L15 (m+2) (zd t stdI (m+2)) k (f187_J14 k))) x0 x1 x2 x3 x4 x5 x6 x7 x8 x9 x10 x11 x12 x13 x14 x15 x16 x17 x18 x19 x20 x21 h'=R:=by
  intro i hi0;refine zal 22 (m+2) _ _ (λi x0 x1 x2 x3 x4 x5 x6 x7 x8 x9 x10 x11 x12 x13 x14 x15 x16 x17 x18 x19 x20 x21 h'=>i<=d.body.length/\∃lv,x1 = .ptr h.n 0/\x4 = .sl (h.n+1) 0 d.body.length d.body.length none/\x6 = .int .i64 ((i:Int)-1)/\DMem h h' [.int .i64 d.params,w] lv/\LvOk d.body.length lv/\zcq d.body i lv=zax d) i (by omega) ?_;intro l i ih x0 x1 x2 x3 x4 x5 x6 x7 x8 x9 x10 x11 x12 x13 x14 x15 x16 x17 x18 x19 x20 x21 h' ⟨hi,lv,q1,q2,q3,q4,q5,q6⟩;subst q1 q2 q3;obtain⟨f1,f2,f3⟩:=q4.facts;cases i with
  | zero=>
   simp (disch:=first|omega|simp only[zD]<;>omega|assumption) only[↓zR,↓zRM,zR,zRM,reduceAdd,reduceMul,reduceToNat,↓f187_J14,↓f187_J17,↓f187_J30,↓f187_J34,↓f187_J29,↓f187_L27,↓f187_J22,↓f187_J16,↓f187_L15,↓f187_J10,↓f187_J64,↓f187_J63,↓f187_L61,↓f187_J5];exact hk _ _ ⟨q4.base,by rw[<- q6];rfl⟩
  | succ i=>
   have hil:i<d.body.length:=by omega
   obtain⟨e,he⟩:∃e,d.body[i]?=some e:=⟨_,List.getElem?_eq_getElem hil⟩
   obtain⟨b,o,cs,a1,a2,w',rfl,a3⟩:=hw.at (β:=β) he;have hx0:ExIn h b o w' e:=⟨a2,a3⟩
   have hx:=hx0.ext q4.base;obtain⟨us,fx⟩:=hx.get β;have en:((i+1:Nat):Int)-1=(i:Int):=by omega
   have g2:=za8 (xs:=lv) (j:=i) (by rw[q5.1];exact hil);have hlv:=q5.2 i;have h213:=λ(kc:K β)=>TC.w213 T m hx (lv.getD i 0) ⟨by omega,by omega⟩ kc
   by_cases k1:lv.getD i 0 = -1
   ·have:=zcJ d.body i lv he (.inl k1)
    simp (disch:=first|omega|simp only[zD]<;>omega|assumption) only[↓zR,↓zRM,zR,zRM,reduceAdd,reduceMul,reduceToNat,↓f187_J14,↓f187_J17,↓f187_J30,↓f187_J34,↓f187_J29,↓f187_L27,↓f187_J22,↓f187_J16,↓f187_L15,↓f187_J10,↓f187_J64,↓f187_J63,↓f187_L61,↓f187_J5,en,f1,f2,a1,g2,eq_true k1];exact hk _ _ ⟨q4.base,by rw[<- q6,this]⟩
   by_cases k2:8<lv.getD i 0
   ·have:=zcJ d.body i lv he (.inr (.inl k2))
    simp (disch:=first|omega|simp only[zD]<;>omega|assumption) only[↓zR,↓zRM,zR,zRM,reduceAdd,reduceMul,reduceToNat,↓f187_J14,↓f187_J17,↓f187_J30,↓f187_J34,↓f187_J29,↓f187_L27,↓f187_J22,↓f187_J16,↓f187_L15,↓f187_J10,↓f187_J64,↓f187_J63,↓f187_L61,↓f187_J5,en,f1,f2,a1,g2,eq_false k1,eq_true k2];exact hk _ _ ⟨q4.base,by rw[<- q6,this]⟩
   by_cases k3:zE e (lv.getD i 0)
   case neg=>
    have:=zcJ d.body i lv he (.inr (.inr k3))
    simp (disch:=first|omega|simp only[zD]<;>omega|assumption) only[↓zR,↓zRM,zR,zRM,reduceAdd,reduceMul,reduceToNat,↓f187_J14,↓f187_J17,↓f187_J30,↓f187_J34,↓f187_J29,↓f187_L27,↓f187_J22,↓f187_J16,↓f187_L15,↓f187_J10,↓f187_J64,↓f187_J63,↓f187_L61,↓f187_J5,en,f1,f2,a1,g2,eq_false k1,eq_false k2,h213,eq_false k3];exact hk _ _ ⟨q4.base,by rw[<- q6,this]⟩
   have hs:=ziX d.body i lv he k1 k2 k3;have hkl:e.kids.length<=3:=by
    unfold zE Plain at k3;rcases k3 with h|h|h|h|h|h|h|h<;>omega
   simp (disch:=first|omega|simp only[zD]<;>omega|assumption) only[↓zR,↓zRM,zR,zRM,reduceAdd,reduceMul,reduceToNat,↓f187_J14,↓f187_J17,↓f187_J30,↓f187_J34,↓f187_J29,↓f187_L27,↓f187_J22,↓f187_J16,↓f187_L15,↓f187_J10,↓f187_J64,↓f187_J63,↓f187_L61,↓f187_J5,en,f1,f2,a1,g2,eq_false k1,eq_false k2,h213,eq_true k3,zaW,fx];refine inner i e he hkl _ ?_ e.kids.length (by omega) _ _ _ _ _ _ _ _ _ _ _ _ _ _ _ _ _ _ _ _ _ _ _ ⟨b,o,_,0,lv,rfl,rfl,rfl,rfl,hx0,rfl,rfl,rfl,by omega,q4,q5,⟨k1,k2⟩,k3.bind,by rw[<- q6,hs];rfl⟩;intro lv' g3 g4 x0 x1 x2 x3 x4 x5 x6 x7 x8 x9 x10 x11 x12 x13 x14 x15 x16 x17 x18 x19 x20 x21 h'' g5 g6 g7 g8;subst g6 g7 g8;simp (disch:=first|omega|simp only[zD]<;>omega|assumption) only[↓zR,↓zRM,zR,zRM,reduceAdd,reduceMul,reduceToNat,↓f187_J14,↓f187_J17,↓f187_J30,↓f187_J34,↓f187_J29,↓f187_L27,↓f187_J22,↓f187_J16,↓f187_L15,↓f187_J10,↓f187_J64,↓f187_J63,↓f187_L61,↓f187_J5];exact ih i (by omega) _ _ _ _ _ _ _ _ _ _ _ _ _ _ _ _ _ _ _ _ _ _ _ ⟨by omega,lv',rfl,rfl,rfl,g5,g3,g4⟩
 rw[TC.c187];unfold f187;simp (disch:=first|omega|simp only[zD]<;>omega|assumption) only[↓zR,↓zRM,zR,zRM,reduceAdd,reduceMul,reduceToNat,↓f187_J14,↓f187_J17,↓f187_J30,↓f187_J34,↓f187_J29,↓f187_L27,↓f187_J22,↓f187_J16,↓f187_L15,↓f187_J10,↓f187_J64,↓f187_J63,↓f187_L61,↓f187_J5,↓hb,wl,h212,eq_true c1,eq_true c2,hmk];refine zal 22 (m+2) _ _ (λi x0 x1 x2 x3 x4 x5 x6 x7 x8 x9 x10 x11 x12 x13 x14 x15 x16 x17 x18 x19 x20 x21 h'=>∃(j:Nat) (lv:List Int),x1 = .ptr h.n 0/\x3 = .int .i64 ((d.body.length:Int)-1)/\x4 = .sl (h.n+1) 0 d.body.length d.body.length none/\x11 = .int .i64 ((d.body.length:Int)-1) /\
  x12 = .int .i64 (j:Int)/\j+i=d.body.length-1/\DMem h h' [.int .i64 d.params,w] lv/\lv.length=d.body.length/\∀q,q<j->lv.getD q 0 = -1) (d.body.length-1) (by omega) ?_ _ _ _ _ _ _ _ _ _ _ _ _ _ _ _ _ _ _ _ _ _ _ _
  ⟨0,List.replicate d.body.length 0,rfl,rfl,rfl,rfl,rfl,by omega,DMem.mk _ _,List.length_replicate ..,λq hq=>absurd hq (by omega)⟩
 intro l i ih x0 x1 x2 x3 x4 x5 x6 x7 x8 x9 x10 x11 x12 x13 x14 x15 x16 x17 x18 x19 x20 x21 h' ⟨j,lv,q1,q2,q3,q4,q5,q6,q7,q8,q9⟩;subst q1 q2 q3 q4 q5;obtain⟨f1,f2,f3⟩:=q7.facts;cases i with
 | zero=>
  have hj:j=d.body.length-1:=by omega
  have hle:¬ (j:Int)<(d.body.length:Int)-1:=by omega
  have hlast:lv.set (d.body.length-1) d.params=zbm d:=by
   unfold zbm;refine List.ext_getElem? λq=>?_
   rcases Nat.lt_trichotomy q (d.body.length-1) with hq|hq|hq
   ·rw[List.getElem?_set_ne (by omega),List.getElem?_append_left (by rw[List.length_replicate];exact hq),List.getElem?_replicate,if_pos hq];have:=q9 q (by omega)
    rw[List.getD_eq_getElem?_getD,List.getElem?_eq_getElem (by omega)] at this;rw[List.getElem?_eq_getElem (by omega)];exact congrArg some this
   ·subst hq;rw[List.getElem?_set_self (by omega),List.getElem?_append_right (by rw[List.length_replicate];omega),List.length_replicate,Nat.sub_self];rfl
   ·rw[List.getElem?_eq_none (by rw[List.length_set];omega),List.getElem?_eq_none (by rw[List.length_append,List.length_replicate];simp;omega)]
  simp (disch:=first|omega|simp only[zD]<;>omega|assumption) only[↓zR,↓zRM,zR,zRM,reduceAdd,reduceMul,reduceToNat,↓f187_J14,↓f187_J17,↓f187_J30,↓f187_J34,↓f187_J29,↓f187_L27,↓f187_J22,↓f187_J16,↓f187_L15,↓f187_J10,↓f187_J64,↓f187_J63,↓f187_L61,↓f187_J5,eq_false hle,f1,tn,f3,zfD,zaq,q8,hlast];refine outer d.body.length (Nat.le_refl _) _ _ _ _ _ _ _ _ _ _ _ _ _ _ _ _ _ _ _ _ _ _ _ ⟨Nat.le_refl _,zbm d,rfl,rfl,rfl,q7.set _,⟨by unfold zbm;rw[List.length_append,List.length_replicate];simp;omega,λq=>?_⟩,d0.symm⟩;rw[<- hlast]
  by_cases hq:d.body.length-1=q
  ·subst hq;rw[getD_set_eq _ _ (by omega)];omega
  ·rw[getD_set_ne _ _ hq]
   by_cases hq2:q<j
   ·rw[q9 q hq2];omega
   ·rw[List.getD_eq_getElem?_getD,List.getElem?_eq_none (by omega)];simp
 | succ i=>
  have hj:(j:Int)<(d.body.length:Int)-1:=by omega
  simp (disch:=first|omega|simp only[zD]<;>omega|assumption) only[↓zR,↓zRM,zR,zRM,reduceAdd,reduceMul,reduceToNat,↓f187_J14,↓f187_J17,↓f187_J30,↓f187_J34,↓f187_J29,↓f187_L27,↓f187_J22,↓f187_J16,↓f187_L15,↓f187_J10,↓f187_J64,↓f187_J63,↓f187_L61,↓f187_J5,eq_true hj,f3,zfD,zaq,q8];refine ih i (by omega) _ _ _ _ _ _ _ _ _ _ _ _ _ _ _ _ _ _ _ _ _ _ _ ⟨j+1,_,rfl,rfl,rfl,rfl,congrArg (AV.int .i64) (by omega),by omega,q7.set _,by rw[List.length_set];exact q8,λq hq=>?_⟩
  by_cases hq2:j=q
  ·subst hq2;rw[getD_set_eq _ _ (by omega)]
  ·rw[getD_set_ne _ _ hq2];exact q9 q (by omega)
end
end Am.F
end
section
namespace Am.F
open Go Am
def up(lv:List Int):List Int:=lv.map (·+1)
section
variable {β:Type} {t:ETree}
end
end Am.F
end
section
namespace Am.F
open Go Am
def zan(p:List Df)(j:Int):Int:=((p[j.toNat]?).map Df.params).getD 0
def Odd(p:List Df)(e:Ex):Prop:=e.kind=2/\((p.length:Int)<=e.num\/¬ (e.kids.length:Int)=zan p e.num)
instance (p:List Df) (e:Ex):Decidable (Odd p e):=by unfold Odd;infer_instance
def zgO(p:List Df)(d:Df):Bool:=zax d&&d.body.all λe=>!decide (Odd p e)
def zt(p:List Df):Bool:=decide ((1<=p.length/\p.length<=8)/\zan p 0=0)&&p.all (zgO p)
theorem zeK(body:List Ex):∀(i:Nat) (lv:List Int),zcq body i lv=true->∀j e,j<i->body[j]?=some e->∃l,zE e l
 | 0,_,_,j,e,hj,_=>absurd hj (by omega)
 | i+1,lv,h,j,e,hj,he=>by
  unfold zcq at h;cases hb:body[i]? with
  | none=>rw[hb] at h;cases h
  | some e'=>
   rw[hb] at h;simp only at h;split at h
   ·cases h
   ·rename_i hc;cases hk:zcp i e' 0 e'.kids lv with
    | none=>rw[hk] at h;cases h
    | some lv'=>
     rw[hk] at h;rcases Nat.lt_or_ge j i with hji|hji
     ·exact zeK body i lv' h j e hji he
     ·have:j=i:=by omega
      subst this;rw[hb] at he;cases he;exact⟨_,Classical.byContradiction λhn=>hc (.inr (.inr hn))⟩
theorem zhP{d:Df}(h:zax d=true){e:Ex}(he:e ∈ d.body):∃l,zE e l:=by
 unfold zax at h;rw[Bool.and_eq_true] at h;obtain⟨j,hj,hje⟩:=List.getElem_of_mem he;exact zeK _ _ _ h.2 j e hj (by rw[List.getElem?_eq_getElem hj,hje])
theorem zE.call{e:Ex}{l:Int}(h:zE e l)(h2:e.kind=2):0<=e.num/\e.num<=7:=by
 unfold zE at h;rcases h with h|h|h|h|h|h|h|h<;>omega
theorem zbr{d:Df}(h:zax d=true):d.body.length<=24/\1<=d.body.length:=by
 unfold zax at h;rw[Bool.and_eq_true] at h;have:=of_decide_eq_true h.1
 omega
theorem zE.kids{e:Ex}{l:Int}(h:zE e l):e.kids.length<=3:=by
 unfold zE Plain at h;rcases h with h|h|h|h|h|h|h|h<;>omega
theorem exBox{β:Type}(e:Ex)(w:AV)(hh:H)(kk:K β):qBox 0 (.agg (zaJ e w)) hh (.mk kk)=kk (.ptr hh.n 0) (hh.push (.own 0 (zaJ e w))):=zU 0 _ hh kk
theorem defAt{β:Type}{h:H}{v:AV}{p:List Df}(hp:LAt 2 DfC h v p){j:Int}(h0:0<=j)(h1:j<p.length):∃b o us,(∀k:VK β,zM 2 v (.int .i64 j) (.mk k)=k (.ptr b o))/\(h.get b).cells=some us/\us[o]?=some (.int .i64 (zan p j)):=by
 obtain⟨j,rfl⟩:=Int.eq_ofNat_of_zero_le h0;obtain⟨d,hd⟩:∃d,p[j]?=some d:=⟨_,List.getElem?_eq_getElem (by omega)⟩
 obtain⟨b,o,cs,a1,a2,w,rfl,a3⟩:=hp.at (β:=β) hd;obtain⟨us,b1,b2,b3,b4⟩:=a2.get;refine⟨b,o,us,a1,b1,?_⟩;have:=b4 0 _ rfl
 rw[Nat.add_zero] at this;rw[this];unfold zan;rw[Int.toNat_natCast,hd];rfl
section
variable {β:Type} {t:ETree}
theorem GC.w186(TC:GC t)(n:Nat){h:H}{pb:Nat}{v w:AV}{p:List Df}{e:Ex}(hb:pb<h.n)(hg:(h.get pb).cells=some [v])(hp:LAt 2 DfC h v p)(hw:SlAt h w (ints e.kids))(he:e.kind=2->0<=e.num) :
  Sp (β:=β) (zd t stdI (n+1) (.fn 186 [.ptr pb 0]) [.agg (zaJ e w)] h) λu h'=>Ext h h'/\u = .bool (decide (Odd p e)):=by
 intro k R hk;have lw:∀kc:VK β,qLenL w (.mk kc)=kc (.int .i64 (e.kids.length:Int)):=λkc=>by rw[hw.len,zaq]
 have lp:=hp.len (β:=β);have fin:∀b:Bool,(b=true↔Odd p e)->k (.bool b) (h.push (.own 0 (zaJ e w)))=R:=λb hbb=>hk _ _ ⟨(Ext.refl h).push _,by congr 1;rw[Bool.eq_iff_iff,hbb];simp⟩
 have hg1:((h.push (.own 0 (zaJ e w))).get pb)=h.get pb:=zc (by omega);have hx:=exBox (β:=β) e w
 by_cases c1:e.kind=2
 case neg=>
  rw[TC.c186];unfold f186;unfold zaJ at *;simp (disch:=first|omega|simp only[zD]<;>omega|assumption) only[↓zR,↓zRM,zR,zRM,reduceAdd,reduceMul,reduceToNat,List.cons_append,List.nil_append,↓hx,hg1,hg,eq_false c1];exact fin _ (by unfold Odd;simp[c1])
 by_cases c2:(p.length:Int)<=e.num
 ·rw[TC.c186];unfold f186;unfold zaJ at *;simp (disch:=first|omega|simp only[zD]<;>omega|assumption) only[↓zR,↓zRM,zR,zRM,reduceAdd,reduceMul,reduceToNat,List.cons_append,List.nil_append,↓hx,hg1,hg,eq_true c1,lp,eq_true c2];exact fin _ (by unfold Odd;simp[c1,c2])
 obtain⟨b,o,us,a1,a2,a3⟩:=defAt (β:=β) (hp.ext DfC.stays ((Ext.refl h).push (.own 0 (zaJ e w)))) (he c1) (by omega);rw[TC.c186];unfold f186;unfold zaJ at *;simp (disch:=first|omega|simp only[zD]<;>omega|assumption) only[↓zR,↓zRM,zR,zRM,reduceAdd,reduceMul,reduceToNat,List.cons_append,List.nil_append,↓hx,hg1,hg,eq_true c1,lp,lw,eq_false c2,a1,a2,a3];exact fin _ (by unfold Odd;simp[c1,c2])
def zep(p:List Df)(body:List Ex):Bool:=body.any λe=>decide (Odd p e)
theorem GC.w215(TC:GC t)(n:Nat){h:H}{pb:Nat}{v w:AV}{p:List Df}{body:List Ex}(hb:pb<h.n)(hg:(h.get pb).cells=some [v])(hp:LAt 2 DfC h v p)(hw:LAt 4 ExC h w body)(hn:body.length+3<=n)(hl:body.length<=9223372036854775807)
  (he:∀e ∈ body,e.kind=2->0<=e.num) :
  Sp (β:=β) (zd t stdI n (.fn 215 []) [w,.fn 186 [.ptr pb 0]] h) λu h'=>Ext h h'/\∃r:Int,u = .int .i64 r/\decide (0<=r)=zep p body:=by
 intro k R hk;obtain⟨m,rfl⟩:∃m,n=m+2:=⟨n-2,by omega⟩
 have wl:=hw.len (β:=β);rw[TC.c215];unfold f215;simp (disch:=first|omega|simp only[zD]<;>omega|assumption) only[↓zR,↓zRM,zR,zRM,reduceAdd,reduceMul,reduceToNat,↓f215_J0,↓f215_J5,↓f215_J4,↓f215_L2,wl];refine zal 7 (m+1) _ _ (λi x0 x1 x2 x3 x4 x5 x6 h'=>∃j:Nat,x0=w/\x1 = .fn 186 [.ptr pb 0]/\x4 = .int .i64 (body.length:Int)/\x5 = .int .i64 (j:Int)/\j+i=body.length/\Ext h h'/\zep p (body.take j)=false) body.length (by omega) ?_ _ _ _ _ _ _ _ _
  ⟨0,rfl,rfl,rfl,rfl,by omega,Ext.refl h,rfl⟩
 intro l i ih x0 x1 x2 x3 x4 x5 x6 h' ⟨j,q1,q2,q3,q4,q5,q6,q7⟩;subst q1 q2 q3 q4;cases i with
 | zero=>
  have hj:j=body.length:=by omega
  subst hj;rw[List.take_length] at q7;simp (disch:=first|omega|simp only[zD]<;>omega|assumption) only[↓zR,↓zRM,zR,zRM,reduceAdd,reduceMul,reduceToNat,↓f215_J0,↓f215_J5,↓f215_J4,↓f215_L2];exact hk _ _ ⟨q6,-1,rfl,by rw[q7];rfl⟩
 | succ i=>
  have hj:j<body.length:=by omega
  obtain⟨e,hje⟩:∃e,body[j]?=some e:=⟨_,List.getElem?_eq_getElem hj⟩
  obtain⟨b,o,cs,a1,a2,w',rfl,a3⟩:=hw.at (β:=β) hje;obtain⟨us,b1,b2,b3,b4⟩:=(a2.ext q6).get;have hmem:e ∈ body:=List.mem_of_getElem? hje;have htk:body.take (j+1)=body.take j++[e]:=by rw[List.take_add_one,hje];rfl
  have hod:zep p (body.take (j+1))=decide (Odd p e):=by
   unfold zep at q7 ⊢;rw[htk,List.any_append,q7];simp
  simp (disch:=first|omega|simp only[zD]<;>omega|assumption) only[↓zR,↓zRM,zR,zRM,reduceAdd,reduceMul,reduceToNat,↓f215_J0,↓f215_J5,↓f215_J4,↓f215_L2,a1,b1,b2,b3];refine TC.w186 m (by have:=q6.n;omega) (by rw[q6.get _ hb];exact hg) (hp.ext DfC.stays q6) (a3.ext q6) (he e hmem) _ _ ?_;intro u h2 ⟨e1,e2⟩;subst e2
  by_cases c:Odd p e
  ·simp (disch:=first|omega|simp only[zD]<;>omega|assumption) only[↓zR,↓zRM,zR,zRM,reduceAdd,reduceMul,reduceToNat,↓f215_J0,↓f215_J5,↓f215_J4,↓f215_L2,eq_true c];refine hk _ _ ⟨q6.trans e1,j,rfl,?_⟩;rw[decide_eq_true (by omega)];refine (List.any_eq_true.2 ⟨e,hmem,?_⟩).symm;exact decide_eq_true c
  ·simp (disch:=first|omega|simp only[zD]<;>omega|assumption) only[↓zR,↓zRM,zR,zRM,reduceAdd,reduceMul,reduceToNat,↓f215_J0,↓f215_J5,↓f215_J4,↓f215_L2,eq_false c];exact ih i (by omega) _ _ _ _ _ _ _ _ ⟨j+1,rfl,rfl,rfl,rfl,by omega,q6.trans e1,by rw[hod];exact decide_eq_false c⟩
theorem GC.w188(TC:GC t)(n:Nat){h:H}{pb:Nat}{v w:AV}{p:List Df}{body:List Ex}(hb:pb<h.n)(hg:(h.get pb).cells=some [v])(hp:LAt 2 DfC h v p)(hw:LAt 4 ExC h w body)(hn:body.length+4<=n)(hl:body.length<=9223372036854775807)
  (he:∀e ∈ body,e.kind=2->0<=e.num) :
  Sp (β:=β) (zd t stdI n (.fn 188 []) [w,.fn 186 [.ptr pb 0]] h) λu h'=>Ext h h'/\u = .bool (zep p body):=by
 intro k R hk;obtain⟨m,rfl⟩:∃m,n=m+1:=⟨n-1,by omega⟩
 rw[TC.c188];unfold f188;simp (disch:=first|omega|simp only[zD]<;>omega|assumption) only[↓zR,↓zRM,zR,zRM,reduceAdd,reduceMul,reduceToNat];refine TC.w215 m hb hg hp hw (by omega) hl he _ _ ?_;intro u h2 ⟨e1,r,e2,e3⟩;subst e2;simp (disch:=first|omega|simp only[zD]<;>omega|assumption) only[↓zR,↓zRM,zR,zRM,reduceAdd,reduceMul,reduceToNat];exact hk _ _ ⟨e1,by rw[e3]⟩
theorem zd2(p:List Df)(d:Df):zgO p d=(zax d&&!zep p d.body):=by
 unfold zgO zep;congr 1;rw[List.not_any_eq_all_not]
theorem zc6{p:List Df}(h:zt p=true):(1<=p.length/\p.length<=8)/\zan p 0=0/\∀d ∈ p,zax d=true/\zep p d.body=false:=by
 unfold zt at h;rw[Bool.and_eq_true,List.all_eq_true] at h;refine⟨(of_decide_eq_true h.1).1,(of_decide_eq_true h.1).2,λd hd=>?_⟩;have:=h.2 d hd
 rw[zd2,Bool.and_eq_true] at this;exact⟨this.1,by simpa using this.2⟩
theorem GC.w157(TC:GC t)(T:GA t)(n:Nat)(hn:60<=n){h:H}{a:AV}{p:List Df}(hp:PgAt h a p)(hl:p.length<=9223372036854775807)(hl2:∀d ∈ p,d.body.length<=9223372036854775807) :
  Sp (β:=β) (zd t stdI n (.fn 157 []) [a] h) λu h'=>Ext h h'/\u = .bool (zt p):=by
 intro k R hk;obtain⟨m,rfl⟩:∃m,n=m+1:=⟨n-1,by omega⟩
 obtain⟨v,rfl,hv⟩:=hp;have hb:∀(v:AV) (hh:H) (kk:K β),qBox 0 (.agg [v]) hh (.mk kk)=kk (.ptr hh.n 0) (hh.push (.own 0 [v])):=λv hh kk=>zU 0 _ hh kk
 have lv:=hv.len (β:=β);have e0:Ext h (h.push (.own 0 [v])):=(Ext.refl h).push _;have n0:h.n<(h.push (.own 0 [v])).n:=by rw[H.n_push];omega
 have hbx:(h.push (.own 0 [v])).get h.n = .own 0 [v]:=zf rfl
 by_cases c1:(p.length:Int)=0
 ·rw[TC.c157];unfold f157;simp (disch:=first|omega|simp only[zD]<;>omega|assumption) only[↓zR,↓zRM,zR,zRM,reduceAdd,reduceMul,reduceToNat,↓f157_J2,↓f157_J9,↓f157_J8,↓f157_L6,↓f157_J1,↓hb,lv,eq_true c1];exact hk _ _ ⟨e0,by unfold zt;rw[decide_eq_false (by omega)];rfl⟩
 by_cases c2:(8:Int)<p.length
 ·rw[TC.c157];unfold f157;simp (disch:=first|omega|simp only[zD]<;>omega|assumption) only[↓zR,↓zRM,zR,zRM,reduceAdd,reduceMul,reduceToNat,↓f157_J2,↓f157_J9,↓f157_J8,↓f157_L6,↓f157_J1,↓hb,lv,eq_false c1,eq_true c2];exact hk _ _ ⟨e0,by unfold zt;rw[decide_eq_false (by omega)];rfl⟩
 obtain⟨b,o,us,a1,a2,a3⟩:=defAt (β:=β) (hv.ext DfC.stays e0) (Int.le_refl 0) (by omega)
 by_cases c3:zan p 0=0
 case neg=>
  rw[TC.c157];unfold f157;simp (disch:=first|omega|simp only[zD]<;>omega|assumption) only[↓zR,↓zRM,zR,zRM,reduceAdd,reduceMul,reduceToNat,↓f157_J2,↓f157_J9,↓f157_J8,↓f157_L6,↓f157_J1,↓hb,lv,eq_false c1,eq_false c2,a1,a2,a3,eq_false c3];exact hk _ _ ⟨e0,by unfold zt;rw[decide_eq_false (by omega)];rfl⟩
 have hpm:zt p=p.all (zgO p):=by unfold zt;rw[decide_eq_true ⟨⟨by omega,by omega⟩,c3⟩];rfl
 rw[TC.c157];unfold f157;simp (disch:=first|omega|simp only[zD]<;>omega|assumption) only[↓zR,↓zRM,zR,zRM,reduceAdd,reduceMul,reduceToNat,↓f157_J2,↓f157_J9,↓f157_J8,↓f157_L6,↓f157_J1,↓hb,lv,eq_false c1,eq_false c2,a1,a2,a3,eq_true c3];refine zal 10 m _ _ (λi x0 x1 x2 x3 x4 x5 x6 x7 x8 x9 h'=>∃j:Nat,x3 = .fn 186 [.ptr h.n 0]/\x5=v/\x6 = .int .i64 (p.length:Int)/\x7 = .int .i64 (j:Int)/\j+i=p.length/\Ext (h.push (.own 0 [v])) h'/\(p.take j).all (zgO p)=true) p.length (by omega) ?_ _ _ _ _ _ _ _ _ _ _ _
  ⟨0,rfl,rfl,rfl,rfl,by omega,Ext.refl _,rfl⟩
 intro l i ih x0 x1 x2 x3 x4 x5 x6 x7 x8 x9 h' ⟨j,q1,q2,q3,q4,q5,q6,q7⟩;subst q1 q2 q3 q4;cases i with
 | zero=>
  have hj:j=p.length:=by omega
  subst hj;rw[List.take_length] at q7;simp (disch:=first|omega|simp only[zD]<;>omega|assumption) only[↓zR,↓zRM,zR,zRM,reduceAdd,reduceMul,reduceToNat,↓f157_J2,↓f157_J9,↓f157_J8,↓f157_L6,↓f157_J1];exact hk _ _ ⟨e0.trans q6,by rw[hpm,q7]⟩
 | succ i=>
  have hj:j<p.length:=by omega
  obtain⟨d,hd⟩:∃d,p[j]?=some d:=⟨_,List.getElem?_eq_getElem hj⟩
  have hdm:d ∈ p:=List.mem_of_getElem? hd;have hvx:=hv.ext DfC.stays e0;obtain⟨b',o',cs,s1,s2,w,rfl,s3⟩:=hvx.at (β:=β) hd;obtain⟨us',b1,b2,b3,b4⟩:=(s2.ext q6).get;have htk:p.take (j+1)=p.take j++[d]:=by rw[List.take_add_one,hd];rfl
  have hall:(p.take (j+1)).all (zgO p)=zgO p d:=by rw[htk,List.all_append,q7];simp
  have hff:zgO p d=false->zt p=false:=λhf=>by
   rw[hpm];refine Bool.eq_false_iff.2 λhh=>?_
   rw[List.all_eq_true] at hh;rw[hh d hdm] at hf;cases hf
  have e1:Ext h' ((h'.push (.own 0 [.int .i64 0,.nils])).set h'.n (.own 0 [.int .i64 d.params,w])):=((Ext.refl h').push _).set (Nat.le_refl _) _;have ws:=s3.sc;simp (disch:=first|omega|simp only[zD]<;>omega|assumption) only[↓zR,↓zRM,zR,zRM,reduceAdd,reduceMul,reduceToNat,↓f157_J2,↓f157_J9,↓f157_J8,↓f157_L6,↓f157_J1,s1,b1,b2,b3];refine TC.w187 T m (by omega) (d:=d) (s3.ext ExC.stays (q6.trans e1)) (hl2 d hdm) _ _ ?_;intro u h2 ⟨e2,e3⟩;subst e3;cases c:zax d with
  | false=>
   simp (disch:=first|omega|simp only[zD]<;>omega|assumption) only[↓zR,↓zRM,zR,zRM,reduceAdd,reduceMul,reduceToNat,↓f157_J2,↓f157_J9,↓f157_J8,↓f157_L6,↓f157_J1];exact hk _ _ ⟨(e0.trans q6).trans (e1.trans e2),by rw[hff (by rw[zd2,c];rfl)]⟩
  | true=>
   have hcell:(h2.get h'.n).cells=some [.int .i64 d.params,w]:=by rw[e2.get _ (by rw[H.n_set,H.n_push];omega),zn rfl];rfl
   simp (disch:=first|omega|simp only[zD]<;>omega|assumption) only[↓zR,↓zRM,zR,zRM,reduceAdd,reduceMul,reduceToNat,↓f157_J2,↓f157_J9,↓f157_J8,↓f157_L6,↓f157_J1,hcell];have ee:=q6.trans (e1.trans e2);refine TC.w188 m (pb:=h.n) (p:=p) (body:=d.body) (by have:=ee.n;omega) (by rw[ee.get _ n0,hbx];rfl) (hvx.ext DfC.stays ee) (s3.ext ExC.stays ee) (by have:=zbr c;omega) (hl2 d hdm) (λe he h2=>by obtain⟨l,hl⟩:=zhP c he;exact (hl.call h2).1) _ _ ?_;intro u h3 ⟨e4,e5⟩;subst e5;cases c4:zep p d.body with
   | true=>
    simp (disch:=first|omega|simp only[zD]<;>omega|assumption) only[↓zR,↓zRM,zR,zRM,reduceAdd,reduceMul,reduceToNat,↓f157_J2,↓f157_J9,↓f157_J8,↓f157_L6,↓f157_J1];exact hk _ _ ⟨(e0.trans ee).trans e4,by rw[hff (by rw[zd2,c4,c];rfl)]⟩
   | false=>
    simp (disch:=first|omega|simp only[zD]<;>omega|assumption) only[↓zR,↓zRM,zR,zRM,reduceAdd,reduceMul,reduceToNat,↓f157_J2,↓f157_J9,↓f157_J8,↓f157_L6,↓f157_J1];exact ih i (by omega) _ _ _ _ _ _ _ _ _ _ _ ⟨j+1,rfl,rfl,rfl,rfl,by omega,ee.trans e4,by rw[hall,zd2,c,c4];rfl⟩
end
end Am.F
end
section
namespace Am.F
open Go Am
section
variable {β:Type} {t:ETree}
end
end Am.F
end
