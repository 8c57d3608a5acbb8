/- Texts that belong together: no condition. -/
import Derived.Test.YtginckfdokjjpaaDoorAmJc
import Derived.Test.YtginckfdokjjpaaDoorAmJg
import Derived.Test.YtginckfdokjjpaaDoorAmOpen
set_option maxRecDepth 100000
set_option linter.unusedVariables false
set_option linter.unusedSimpArgs false
set_option linter.defProp false
section
namespace Am.T
open Go
def s149:SFn:=.src 77 [0,1,2,3,4,5,52,76] [.tmp 2]<|.seq (.reg [.set 1 (.P 1 (.box 0) [.V 0]),.set 2 (.M 2 (.k (.bool false)))])<|.seq (.ifr [] (.or 11 18 (.P 10 .notB [.P 9 (.call 30) [.P 8 .lenL [.P 7 .load1 [.P 6 (.fadr 0) [.V 1]]],.I 1,.I 8]]) (.P 17 (.binI .neq) [.P 16 .load1 [.P 15 (.fadr 0) [.P 14 (.iadr 2) [.P 13 .load1 [.P 12 (.fadr 0) [.V 1]],.I 0]]],.I 0])) (.seq (.reg [.set 2 (.M 2 (.k (.bool false)))])<|.ret) .skip)<|.seq (.seq (.reg [.set 3 (.M 3 (.I 0))])<|.block 0<|.loop [1,3]<|.seq (.ifr [] (.P 23 (.binI .lss) [.W 3 19,.P 22 .lenL [.P 21 .load1 [.P 20 (.fadr 0) [.V 1]]]]) .skip (.exit 0))<|.seq (.block 1<|.seq (.ifr [] (.P 32 .notB [.P 31 (.call 179) [.P 30 (.loadN 2) [.P 29 (.iadr 2) [.P 27 .load1 [.P 26 (.fadr 0) [.V 1]],.W 3 28]]]]) (.seq (.reg [.set 2 (.M 2 (.k (.bool false)))])<|.ret) .skip)<|.seq (.reg [.set 4 (.M 4 (.I 0))])<|.block 2<|.loop [1,3,4]<|.seq (.ifr [] (.P 41 (.binI .lss) [.W 4 33,.P 40 .lenL [.P 39 .load1 [.P 38 (.fadr 1) [.P 37 (.iadr 2) [.P 35 .load1 [.P 34 (.fadr 0) [.V 1]],.W 3 36]]]]]) .skip (.exit 2))<|.seq (.block 3<|.seq (.reg [.set 6 (.P 52 (.loadN 4) [.P 51 (.iadr 4) [.P 49 .load1 [.P 48 (.fadr 1) [.P 47 (.iadr 2) [.P 45 .load1 [.P 44 (.fadr 0) [.V 1]],.W 3 46]]],.W 4 50]]),.set 5 (.P 5 (.alloc 0 [.int .i64 0,.int .i64 0,.int .i64 0,.nils]) []),.ef (.op none (.store 4) [.V 5,.V 6])])<|.seq (.dreg [53,54,55,56,57,58,59,60,61,62,63,64,65,66,67,68,69,70,71,72,73,74,75] [⟨ (some 8),.fadr 0,[.t 5],none⟩,⟨ (some 9),.load1,[.t 8],none⟩,⟨ (some 10),.binI .eql,[.t 9,.c (.int .i64 2)],none⟩,⟨ (some 11),.mov,[.t 10],none⟩,⟨ (some 12),.fadr 1,[.t 5],(some (11 ,true)) ⟩,⟨ (some 13),.load1,[.t 12],(some (11 ,true)) ⟩,⟨ (some 14),.fadr 0,[.t 1],(some (11 ,true)) ⟩,⟨ (some 15),.load1,[.t 14],(some (11 ,true)) ⟩,⟨ (some 16),.lenL,[.t 15],(some (11 ,true)) ⟩,⟨ (some 17),.binI .geq,[.t 13,.t 16],(some (11 ,true)) ⟩,⟨ (some 18),.mov,[.t 17],(some (11 ,true)) ⟩,⟨ (some 19),.fadr 3,[.t 5],(some (18 ,false)) ⟩,⟨ (some 20),.load1,[.t 19],(some (18 ,false)) ⟩,⟨ (some 21),.lenL,[.t 20],(some (18 ,false)) ⟩,⟨ (some 22),.fadr 0,[.t 1],(some (18 ,false)) ⟩,⟨ (some 23),.load1,[.t 22],(some (18 ,false)) ⟩,⟨ (some 24),.fadr 1,[.t 5],(some (18 ,false)) ⟩,⟨ (some 25),.load1,[.t 24],(some (18 ,false)) ⟩,⟨ (some 26),.iadr 2,[.t 23,.t 25],(some (18 ,false)) ⟩,⟨ (some 27),.fadr 0,[.t 26],(some (18 ,false)) ⟩,⟨ (some 28),.load1,[.t 27],(some (18 ,false)) ⟩,⟨ (some 29),.binI .neq,[.t 21,.t 28],(some (18 ,false)) ⟩,⟨ (some 30),.pick,[.t 18,.c (.bool true),.t 29],(some (11 ,true)) ⟩,⟨ (some 7),.pick,[.t 11,.t 30,.c (.bool false)],none⟩] [.op 0,.op 1,.op 2,.op 3,.op 4,.op 5,.op 6,.op 7,.op 8,.op 9,.op 10,.op 11,.op 12,.op 13,.op 14,.op 15,.op 16,.op 17,.op 18,.op 19,.op 20,.op 21,.op 22,.op 23])<|.cond (.t 7) (.seq (.reg [.set 2 (.M 2 (.k (.bool false)))])<|.ret) .skip)<|.reg [.set 4 (.M 4 (.P 43 (.binI .add) [.W 4 42,.I 1]))])<|.reg [.set 3 (.M 3 (.P 25 (.binI .add) [.W 3 24,.I 1]))])<|.seq (.reg [.set 2 (.M 2 (.k (.bool true)))])<|.ret
def s157:SFn:=.src 42 [0,1,2,3,5,26,27,28,29,31] [.tmp 2]<|.seq (.reg [.set 1 (.P 1 (.box 0) [.V 0]),.set 2 (.M 2 (.k (.bool false)))])<|.seq (.ifr [] (.or 16 23 (.or 10 15 (.P 9 (.binI .eql) [.P 8 .lenL [.P 7 .load1 [.P 6 (.fadr 0) [.V 1]]],.I 0]) (.P 14 (.binI .gtr) [.P 13 .lenL [.P 12 .load1 [.P 11 (.fadr 0) [.V 1]]],.I 8])) (.P 22 (.binI .neq) [.P 21 .load1 [.P 20 (.fadr 0) [.P 19 (.iadr 2) [.P 18 .load1 [.P 17 (.fadr 0) [.V 1]],.I 0]]],.I 0])) (.seq (.reg [.set 2 (.M 2 (.k (.bool false)))])<|.ret) .skip)<|.seq (.reg [.set 3 (.M 3 (.P 24 (.mkfn 186) [.V 1]))])<|.seq (.seq (.reg [.set 5 (.P 26 .load1 [.P 25 (.fadr 0) [.V 1]]),.set 6 (.P 27 .lenL [.V 5]),.set 7 (.M 28 (.I 0))])<|.block 0<|.loop [3,5,6,7]<|.seq (.reg [.set 8 (.P 29 (.binI .lss) [.V 7,.V 6])])<|.seq (.cond (.t 8) .skip (.exit 0))<|.seq (.block 1<|.seq (.reg [.set 9 (.P 31 (.loadN 2) [.P 30 (.iadr 2) [.V 5,.V 7]]),.set 4 (.P 5 (.alloc 0 [.int .i64 0,.nils]) []),.ef (.op none (.store 2) [.V 4,.V 9])])<|.ifr [] (.or 35 40 (.P 34 .notB [.P 33 (.call 187) [.P 32 (.loadN 2) [.V 4]]]) (.P 39 (.call 188) [.P 37 .load1 [.P 36 (.fadr 1) [.V 4]],.W 3 38])) (.seq (.reg [.set 2 (.M 2 (.k (.bool false)))])<|.ret) .skip)<|.reg [.set 7 (.M 28 (.P 41 (.binI .add) [.V 7,.I 1]))])<|.seq (.reg [.set 2 (.M 2 (.k (.bool true)))])<|.ret
def s179:SFn:=.src 102 [0,1,2,3,4,5,6,7,21,23,26,43,66] [.tmp 2]<|.seq (.reg [.set 1 (.P 1 (.box 0) [.V 0]),.set 2 (.M 2 (.k (.bool false)))])<|.seq (.ifr [] (.or 12 18 (.P 11 .notB [.P 10 (.call 30) [.P 9 .load1 [.P 8 (.fadr 0) [.V 1]],.I 0,.I 3]]) (.P 17 .notB [.P 16 (.call 30) [.P 15 .lenL [.P 14 .load1 [.P 13 (.fadr 1) [.V 1]]],.I 1,.I 24]])) (.seq (.reg [.set 2 (.M 2 (.k (.bool false)))])<|.ret) .skip)<|.seq (.reg [.set 8 (.P 21 .lenL [.P 20 .load1 [.P 19 (.fadr 1) [.V 1]]]),.set 3 (.M 3 (.P 22 (.mkslice 0 [.int .i64 0] 8) [.V 8,.V 8]))])<|.seq (.reg [.set 9 (.M 23 (.V 3)),.set 10 (.P 26 (.binI .sub) [.P 25 .lenL [.W 3 24],.I 1]),.ef (.opr none (.store 1) (.P 30 (.iadr 1) [.V 9,.V 10]) (.P 29 (.binI .add) [.P 28 .load1 [.P 27 (.fadr 0) [.V 1]],.I 1]))])<|.seq (.seq (.reg [.set 4 (.M 4 (.P 34 (.binI .sub) [.P 33 .lenL [.P 32 .load1 [.P 31 (.fadr 1) [.V 1]]],.I 1]))])<|.block 0<|.loop [1,3,4]<|.seq (.ifr [] (.P 36 (.binI .geq) [.W 4 35,.I 0]) .skip (.exit 0))<|.seq (.block 1<|.seq (.reg [.set 11 (.P 43 (.loadN 4) [.P 42 (.iadr 4) [.P 40 .load1 [.P 39 (.fadr 1) [.V 1]],.W 4 41]]),.set 5 (.P 5 (.alloc 0 [.int .i64 0,.int .i64 0,.int .i64 0,.nils]) []),.ef (.op none (.store 4) [.V 5,.V 11])])<|.seq (.seq (.dreg [44,45,46,47,48,49,50,51,52,53,54,55,56,57,58,59,60,61,62,63,64,65] [⟨ (some 13),.mov,[.t 3],none⟩,⟨ (some 14),.mov,[.t 4],none⟩,⟨ (some 15),.iadr 1,[.t 13,.t 14],none⟩,⟨ (some 16),.load1,[.t 15],none⟩,⟨ (some 17),.binI .eql,[.t 16,.c (.int .i64 0)],none⟩,⟨ (some 18),.mov,[.t 17],none⟩,⟨ (some 19),.mov,[.t 3],(some (18 ,false)) ⟩,⟨ (some 20),.mov,[.t 4],(some (18 ,false)) ⟩,⟨ (some 21),.iadr 1,[.t 19,.t 20],(some (18 ,false)) ⟩,⟨ (some 22),.load1,[.t 21],(some (18 ,false)) ⟩,⟨ (some 23),.binI .sub,[.t 22,.c (.int .i64 1)],(some (18 ,false)) ⟩,⟨ (some 24),.binI .gtr,[.t 23,.c (.int .i64 8)],(some (18 ,false)) ⟩,⟨ (some 25),.pick,[.t 18,.c (.bool true),.t 24],none⟩,⟨ (some 26),.mov,[.t 25],none⟩,⟨ (some 27),.loadN 4,[.t 5],(some (26 ,false)) ⟩,⟨ (some 28),.mov,[.t 3],(some (26 ,false)) ⟩,⟨ (some 29),.mov,[.t 4],(some (26 ,false)) ⟩,⟨ (some 30),.iadr 1,[.t 28,.t 29],(some (26 ,false)) ⟩,⟨ (some 31),.load1,[.t 30],(some (26 ,false)) ⟩,⟨ (some 32),.binI .sub,[.t 31,.c (.int .i64 1)],(some (26 ,false)) ⟩,⟨ (some 33),.call 202,[.t 27,.t 32],(some (26 ,false)) ⟩,⟨ (some 34),.notB,[.t 33],(some (26 ,false)) ⟩,⟨ (some 12),.pick,[.t 26,.c (.bool true),.t 34],none⟩] [.op 0,.op 1,.op 2,.op 3,.op 4,.op 5,.op 6,.op 7,.op 8,.op 9,.op 10,.op 11,.op 12,.op 13,.op 14,.op 15,.op 16,.op 17,.op 18,.op 19,.op 20,.op 21,.op 22])<|.cond (.t 12) (.seq (.reg [.set 2 (.M 2 (.k (.bool false)))])<|.ret) .skip)<|.seq (.reg [.set 6 (.M 6 (.I 0))])<|.block 2<|.loop [1,3,4,5,6]<|.seq (.ifr [] (.P 71 (.binI .lss) [.W 6 67,.P 70 .lenL [.P 69 .load1 [.P 68 (.fadr 3) [.V 5]]]]) .skip (.exit 2))<|.seq (.block 3<|.seq (.reg [.set 7 (.M 7 (.P 78 .load1 [.P 77 (.iadr 1) [.P 75 .load1 [.P 74 (.fadr 3) [.V 5]],.W 6 76]]))])<|.seq (.ifr [] (.or 84 90 (.P 83 .notB [.P 82 (.call 30) [.W 7 79,.I 0,.P 81 (.binI .sub) [.W 4 80,.I 1]]]) (.P 89 (.binI .neq) [.P 88 .load1 [.P 87 (.iadr 1) [.W 3 85,.W 7 86]],.I 0])) (.seq (.reg [.set 2 (.M 2 (.k (.bool false)))])<|.ret) .skip)<|.dreg [91,92,93,94,95,96,97,98,99,100,101] [⟨ (some 13),.mov,[.t 3],none⟩,⟨ (some 14),.mov,[.t 7],none⟩,⟨ (some 15),.mov,[.t 3],none⟩,⟨ (some 16),.mov,[.t 4],none⟩,⟨ (some 17),.iadr 1,[.t 15,.t 16],none⟩,⟨ (some 18),.load1,[.t 17],none⟩,⟨ (some 19),.loadN 4,[.t 5],none⟩,⟨ (some 20),.mov,[.t 6],none⟩,⟨ (some 21),.call 203,[.t 19,.t 20],none⟩,⟨ (some 22),.binI .add,[.t 18,.t 21],none⟩,⟨ (some 23),.iadr 1,[.t 13,.t 14],none⟩,⟨none,.store 1,[.t 23,.t 22],none⟩] [.op 0,.op 1,.op 2,.op 3,.op 4,.op 5,.op 6,.op 7,.op 8,.chk 5,.op 9,.op 10,.op 11])<|.reg [.set 6 (.M 6 (.P 73 (.binI .add) [.W 6 72,.I 1]))])<|.reg [.set 4 (.M 4 (.P 38 (.binI .sub) [.W 4 37,.I 1]))])<|.seq (.reg [.set 2 (.M 2 (.k (.bool true)))])<|.ret
def s186:SFn:=.src 28 [0,1,2,3] [.tmp 3]<|.seq (.reg [.set 2 (.P 2 (.box 0) [.V 0]),.set 3 (.M 3 (.k (.bool false)))])<|.seq (.dreg [4,5,6,7,8,9,10,11,12,13,14,15,16,17,18,19,20,21,22,23,24,25,26,27] [⟨ (some 4),.fadr 0,[.t 2],none⟩,⟨ (some 5),.load1,[.t 4],none⟩,⟨ (some 6),.binI .eql,[.t 5,.c (.int .i64 2)],none⟩,⟨ (some 7),.mov,[.t 6],none⟩,⟨ (some 8),.fadr 1,[.t 2],(some (7 ,true)) ⟩,⟨ (some 9),.load1,[.t 8],(some (7 ,true)) ⟩,⟨ (some 10),.fadr 0,[.t 1],(some (7 ,true)) ⟩,⟨ (some 11),.load1,[.t 10],(some (7 ,true)) ⟩,⟨ (some 12),.lenL,[.t 11],(some (7 ,true)) ⟩,⟨ (some 13),.binI .geq,[.t 9,.t 12],(some (7 ,true)) ⟩,⟨ (some 14),.mov,[.t 13],(some (7 ,true)) ⟩,⟨ (some 15),.fadr 3,[.t 2],(some (14 ,false)) ⟩,⟨ (some 16),.load1,[.t 15],(some (14 ,false)) ⟩,⟨ (some 17),.lenL,[.t 16],(some (14 ,false)) ⟩,⟨ (some 18),.fadr 0,[.t 1],(some (14 ,false)) ⟩,⟨ (some 19),.load1,[.t 18],(some (14 ,false)) ⟩,⟨ (some 20),.fadr 1,[.t 2],(some (14 ,false)) ⟩,⟨ (some 21),.load1,[.t 20],(some (14 ,false)) ⟩,⟨ (some 22),.iadr 2,[.t 19,.t 21],(some (14 ,false)) ⟩,⟨ (some 23),.fadr 0,[.t 22],(some (14 ,false)) ⟩,⟨ (some 24),.load1,[.t 23],(some (14 ,false)) ⟩,⟨ (some 25),.binI .neq,[.t 17,.t 24],(some (14 ,false)) ⟩,⟨ (some 26),.pick,[.t 14,.c (.bool true),.t 25],(some (7 ,true)) ⟩,⟨ (some 27),.pick,[.t 7,.t 26,.c (.bool false)],none⟩,⟨ (some 3),.mov,[.t 27],none⟩] [.op 0,.op 1,.op 2,.op 3,.op 4,.op 5,.op 6,.op 7,.op 8,.op 9,.op 10,.op 11,.op 12,.op 13,.op 14,.op 15,.op 16,.op 17,.op 18,.op 19,.op 20,.op 21,.op 22,.op 23,.op 24])<|.ret
def s187:SFn:=.src 106 [0,1,2,3,4,5,6,7,8,9,25,27,28,29,35,36,73,74,75,76,77,79] [.tmp 2]<|.seq (.reg [.set 1 (.P 1 (.box 0) [.V 0]),.set 2 (.M 2 (.k (.bool false)))])<|.seq (.reg [.set 3 (.M 3 (.P 13 (.binI .sub) [.P 12 .lenL [.P 11 .load1 [.P 10 (.fadr 1) [.V 1]]],.I 1]))])<|.seq (.ifr [] (.or 18 22 (.P 17 .notB [.P 16 (.call 212) [.P 15 .load1 [.P 14 (.fadr 0) [.V 1]],.I 3]]) (.P 21 .notB [.P 20 (.call 212) [.W 3 19,.I 23]])) (.seq (.reg [.set 2 (.M 2 (.k (.bool false)))])<|.ret) .skip)<|.seq (.reg [.set 10 (.P 25 .lenL [.P 24 .load1 [.P 23 (.fadr 1) [.V 1]]]),.set 4 (.M 4 (.P 26 (.mkslice 0 [.int .i64 0] 8) [.V 10,.V 10]))])<|.seq (.seq (.reg [.set 11 (.M 27 (.V 3)),.set 12 (.M 28 (.I 0))])<|.block 0<|.loop [1,3,4,11,12]<|.seq (.reg [.set 13 (.P 29 (.binI .lss) [.V 12,.V 11])])<|.seq (.cond (.t 13) .skip (.exit 0))<|.seq (.block 1<|.seq (.reg [.set 5 (.M 5 (.W 12 30))])<|.reg [.ef (.op none (.store 1) [.P 33 (.iadr 1) [.W 4 31,.W 5 32],.I (-1)])])<|.reg [.set 12 (.M 28 (.P 34 (.binI .add) [.V 12,.I 1]))])<|.seq (.reg [.set 14 (.M 35 (.V 4)),.set 15 (.M 36 (.V 3)),.ef (.opr none (.store 1) (.P 39 (.iadr 1) [.V 14,.V 15]) (.P 38 .load1 [.P 37 (.fadr 0) [.V 1]]))])<|.seq (.seq (.reg [.set 6 (.M 6 (.W 3 40))])<|.block 2<|.loop [1,4,6]<|.seq (.ifr [] (.P 42 (.binI .geq) [.W 6 41,.I 0]) .skip (.exit 2))<|.seq (.block 3<|.seq (.reg [.set 7 (.M 7 (.P 48 (.iadr 4) [.P 46 .load1 [.P 45 (.fadr 1) [.V 1]],.W 6 47]))])<|.seq (.ifr [] (.or 61 69 (.or 54 60 (.P 53 (.binI .eql) [.P 52 .load1 [.P 51 (.iadr 1) [.W 4 49,.W 6 50]],.I (-1)]) (.P 59 (.binI .gtr) [.P 58 .load1 [.P 57 (.iadr 1) [.W 4 55,.W 6 56]],.I 8])) (.P 68 .notB [.P 67 (.call 213) [.W 7 62,.P 66 .load1 [.P 65 (.iadr 1) [.W 4 63,.W 6 64]]]])) (.seq (.reg [.set 2 (.M 2 (.k (.bool false)))])<|.ret) .skip)<|.seq (.reg [.set 16 (.P 73 .load1 [.P 72 (.fadr 3) [.P 71 .nilCheck [.W 7 70]]]),.set 17 (.P 74 .lenL [.V 16]),.set 18 (.M 75 (.I 0))])<|.block 4<|.loop [1,4,6,7,16,17,18]<|.seq (.reg [.set 19 (.P 76 (.binI .lss) [.V 18,.V 17])])<|.seq (.cond (.t 19) .skip (.exit 4))<|.seq (.block 5<|.seq (.reg [.set 20 (.M 77 (.V 18)),.set 21 (.P 79 .load1 [.P 78 (.iadr 1) [.V 16,.V 18]]),.set 8 (.M 8 (.V 20)),.set 9 (.M 9 (.V 21))])<|.seq (.ifr [] (.or 87 93 (.or 82 86 (.P 81 (.binI .lss) [.W 9 80,.I 0]) (.P 85 (.binI .geq) [.W 9 83,.W 6 84])) (.P 92 (.binI .neq) [.P 91 .load1 [.P 90 (.iadr 1) [.W 4 88,.W 9 89]],.I (-1)])) (.seq (.reg [.set 2 (.M 2 (.k (.bool false)))])<|.ret) .skip)<|.dreg [94,95,96,97,98,99,100,101,102,103,104] [⟨ (some 22),.mov,[.t 4],none⟩,⟨ (some 23),.mov,[.t 9],none⟩,⟨ (some 24),.mov,[.t 4],none⟩,⟨ (some 25),.mov,[.t 6],none⟩,⟨ (some 26),.iadr 1,[.t 24,.t 25],none⟩,⟨ (some 27),.load1,[.t 26],none⟩,⟨ (some 28),.mov,[.t 7],none⟩,⟨ (some 29),.mov,[.t 8],none⟩,⟨ (some 30),.call 214,[.t 28,.t 29],none⟩,⟨ (some 31),.binI .add,[.t 27,.t 30],none⟩,⟨ (some 32),.iadr 1,[.t 22,.t 23],none⟩,⟨none,.store 1,[.t 32,.t 31],none⟩] [.op 0,.op 1,.op 2,.op 3,.op 4,.op 5,.op 6,.op 7,.op 8,.chk 5,.op 9,.op 10,.op 11])<|.reg [.set 18 (.M 75 (.P 105 (.binI .add) [.V 18,.I 1]))])<|.reg [.set 6 (.M 6 (.P 44 (.binI .sub) [.W 6 43,.I 1]))])<|.seq (.reg [.set 2 (.M 2 (.k (.bool true)))])<|.ret
def s188:SFn:=.src 9 [0,1,4] [.tmp 2]<|.seq (.reg [.set 2 (.M 4 (.k (.bool false)))])<|.seq (.reg [.set 2 (.M 4 (.P 8 (.binI .geq) [.P 7 (.call 215) [.W 0 5,.W 1 6],.I 0]))])<|.ret
def s202:SFn:=.src 115 [0,1,2,4,5,6,14] [.tmp 3]<|.seq (.reg [.set 2 (.P 2 (.box 0) [.V 0]),.set 3 (.M 4 (.k (.bool false)))])<|.seq (.reg [.set 4 (.M 5 (.P 9 .lenL [.P 8 .load1 [.P 7 (.fadr 3) [.V 2]]]))])<|.seq (.reg [.set 5 (.M 6 (.P 12 (.binI .eql) [.P 11 .load1 [.P 10 (.fadr 2) [.V 2]],.I 0]))])<|.seq (.seq (.reg [.set 6 (.P 14 .load1 [.P 13 (.fadr 0) [.V 2]])])<|.block 0<|.ifr [] (.M 15 (.P 16 (.binI .eql) [.V 6,.I 0])) (.seq (.reg [.set 3 (.M 4 (.and 22 26 (.and 18 21 (.W 5 17) (.P 20 (.binI .eql) [.W 4 19,.I 0])) (.P 25 (.call 41) [.P 24 .load1 [.P 23 (.fadr 1) [.V 2]]])))])<|.ret) (.ifr [] (.M 27 (.P 28 (.binI .eql) [.V 6,.I 1])) (.seq (.reg [.set 3 (.M 4 (.and 34 40 (.and 30 33 (.W 5 29) (.P 32 (.binI .eql) [.W 4 31,.I 0])) (.P 39 (.call 30) [.P 36 .load1 [.P 35 (.fadr 1) [.V 2]],.I 0,.P 38 (.binI .sub) [.W 1 37,.I 1]])))])<|.ret) (.ifr [] (.M 41 (.P 42 (.binI .eql) [.V 6,.I 2])) (.seq (.reg [.set 3 (.M 4 (.and 48 52 (.and 44 47 (.W 5 43) (.P 46 (.binI .leq) [.W 4 45,.I 3])) (.P 51 (.call 30) [.P 50 .load1 [.P 49 (.fadr 1) [.V 2]],.I 0,.I 7])))])<|.ret) (.ifr [] (.M 53 (.P 54 (.binI .eql) [.V 6,.I 3])) (.seq (.reg [.set 3 (.M 4 (.and 60 64 (.and 56 59 (.W 5 55) (.P 58 (.binI .leq) [.W 4 57,.I 3])) (.P 63 (.call 30) [.P 62 .load1 [.P 61 (.fadr 1) [.V 2]],.I 0,.I 99])))])<|.ret) (.ifr [] (.M 65 (.P 66 (.binI .eql) [.V 6,.I 4])) (.seq (.reg [.set 3 (.M 4 (.and 72 76 (.and 68 71 (.W 5 67) (.P 70 (.binI .eql) [.W 4 69,.I 2])) (.P 75 (.call 30) [.P 74 .load1 [.P 73 (.fadr 1) [.V 2]],.I 0,.I 4])))])<|.ret) (.ifr [] (.M 77 (.P 78 (.binI .eql) [.V 6,.I 5])) (.seq (.reg [.set 3 (.M 4 (.and 86 90 (.and 81 85 (.P 80 (.binI .eql) [.W 4 79,.I 3]) (.P 84 (.call 30) [.P 83 .load1 [.P 82 (.fadr 1) [.V 2]],.I 0,.I 99])) (.P 89 (.call 30) [.P 88 .load1 [.P 87 (.fadr 2) [.V 2]],.I 0,.I 3])))])<|.ret) (.ifr [] (.M 91 (.P 92 (.binI .eql) [.V 6,.I 6])) (.seq (.reg [.set 3 (.M 4 (.and 98 102 (.and 94 97 (.W 5 93) (.P 96 (.binI .eql) [.W 4 95,.I 2])) (.P 101 (.binI .eql) [.P 100 .load1 [.P 99 (.fadr 1) [.V 2]],.I 0])))])<|.ret) (.ifr [] (.M 103 (.P 104 (.binI .eql) [.V 6,.I 7])) (.seq (.reg [.set 3 (.M 4 (.and 110 114 (.and 106 109 (.W 5 105) (.P 108 (.binI .eql) [.W 4 107,.I 0])) (.P 113 (.binI .eql) [.P 112 .load1 [.P 111 (.fadr 1) [.V 2]],.I 0])))])<|.ret) .skip))))))))<|.seq (.reg [.set 3 (.M 4 (.k (.bool false)))])<|.ret
def s203:SFn:=.src 21 [0,1,2,4] [.tmp 3]<|.seq (.reg [.set 2 (.P 2 (.box 0) [.V 0]),.set 3 (.M 4 (.I 0))])<|.seq (.ifr [] (.and 7 11 (.P 6 (.binI .eql) [.W 1 5,.I 1]) (.P 10 (.binI .eql) [.P 9 .load1 [.P 8 (.fadr 0) [.V 2]],.I 5])) (.seq (.reg [.set 3 (.M 4 (.P 13 .load1 [.P 12 (.fadr 2) [.V 2]]))])<|.ret) .skip)<|.seq (.ifr [] (.and 16 20 (.P 15 (.binI .eql) [.W 1 14,.I 1]) (.P 19 (.binI .eql) [.P 18 .load1 [.P 17 (.fadr 0) [.V 2]],.I 6])) (.seq (.reg [.set 3 (.M 4 (.I 1))])<|.ret) .skip)<|.seq (.reg [.set 3 (.M 4 (.I 0))])<|.ret
def s212:SFn:=.src 12 [0,1,4] [.tmp 2]<|.seq (.reg [.set 2 (.M 4 (.k (.bool false)))])<|.seq (.reg [.set 2 (.M 4 (.and 7 11 (.P 6 (.binI .geq) [.W 0 5,.I 0]) (.P 10 (.binI .leq) [.W 0 8,.W 1 9])))])<|.ret
def s213:SFn:=.src 99 [0,1,4,8] [.tmp 2]<|.seq (.reg [.set 2 (.M 4 (.k (.bool false)))])<|.seq (.seq (.reg [.set 3 (.P 8 .load1 [.P 7 (.fadr 0) [.P 6 .nilCheck [.W 0 5]]])])<|.block 0<|.ifr [] (.M 9 (.P 10 (.binI .eql) [.V 3,.I 0])) (.seq (.reg [.set 2 (.M 4 (.and 16 19 (.P 15 (.call 28) [.P 14 .load1 [.P 13 (.fadr 1) [.P 12 .nilCheck [.W 0 11]]]]) (.P 18 (.call 229) [.W 0 17,.I 0,.I 0,.I 0])))])<|.ret) (.ifr [] (.M 20 (.P 21 (.binI .eql) [.V 3,.I 1])) (.seq (.reg [.set 2 (.M 4 (.and 29 32 (.P 28 (.call 212) [.P 25 .load1 [.P 24 (.fadr 1) [.P 23 .nilCheck [.W 0 22]]],.P 27 (.binI .sub) [.W 1 26,.I 1]]) (.P 31 (.call 229) [.W 0 30,.I 0,.I 0,.I 0])))])<|.ret) (.ifr [] (.M 33 (.P 34 (.binI .eql) [.V 3,.I 2])) (.seq (.reg [.set 2 (.M 4 (.and 40 43 (.P 39 (.call 212) [.P 38 .load1 [.P 37 (.fadr 1) [.P 36 .nilCheck [.W 0 35]]],.I 7]) (.P 42 (.call 229) [.W 0 41,.I 0,.I 0,.I 3])))])<|.ret) (.ifr [] (.M 44 (.P 45 (.binI .eql) [.V 3,.I 3])) (.seq (.reg [.set 2 (.M 4 (.and 51 54 (.P 50 (.call 212) [.P 49 .load1 [.P 48 (.fadr 1) [.P 47 .nilCheck [.W 0 46]]],.I 99]) (.P 53 (.call 229) [.W 0 52,.I 0,.I 0,.I 3])))])<|.ret) (.ifr [] (.M 55 (.P 56 (.binI .eql) [.V 3,.I 4])) (.seq (.reg [.set 2 (.M 4 (.and 62 65 (.P 61 (.call 212) [.P 60 .load1 [.P 59 (.fadr 1) [.P 58 .nilCheck [.W 0 57]]],.I 4]) (.P 64 (.call 229) [.W 0 63,.I 0,.I 2,.I 2])))])<|.ret) (.ifr [] (.M 66 (.P 67 (.binI .eql) [.V 3,.I 5])) (.seq (.reg [.set 2 (.M 4 (.and 73 76 (.P 72 (.call 212) [.P 71 .load1 [.P 70 (.fadr 1) [.P 69 .nilCheck [.W 0 68]]],.I 99]) (.P 75 (.call 229) [.W 0 74,.I 3,.I 3,.I 3])))])<|.ret) (.ifr [] (.M 77 (.P 78 (.binI .eql) [.V 3,.I 6])) (.seq (.reg [.set 2 (.M 4 (.and 84 87 (.P 83 (.binI .eql) [.P 82 .load1 [.P 81 (.fadr 1) [.P 80 .nilCheck [.W 0 79]]],.I 0]) (.P 86 (.call 229) [.W 0 85,.I 0,.I 2,.I 2])))])<|.ret) (.ifr [] (.M 88 (.P 89 (.binI .eql) [.V 3,.I 7])) (.seq (.reg [.set 2 (.M 4 (.and 95 98 (.P 94 (.binI .eql) [.P 93 .load1 [.P 92 (.fadr 1) [.P 91 .nilCheck [.W 0 90]]],.I 0]) (.P 97 (.call 229) [.W 0 96,.I 0,.I 0,.I 0])))])<|.ret) .skip))))))))<|.seq (.reg [.set 2 (.M 4 (.k (.bool false)))])<|.ret
def s214:SFn:=.src 24 [0,1,4] [.tmp 2]<|.seq (.reg [.set 2 (.M 4 (.I 0))])<|.seq (.block 0<|.ifr [] (.M 5 (.P 7 (.binI .neq) [.W 1 6,.I 1])) (.seq (.reg [.set 2 (.M 4 (.I 0))])<|.ret) (.ifr [] (.M 8 (.P 13 (.binI .eql) [.P 12 .load1 [.P 11 (.fadr 0) [.P 10 .nilCheck [.W 0 9]]],.I 5])) (.seq (.reg [.set 2 (.M 4 (.P 17 .load1 [.P 16 (.fadr 2) [.P 15 .nilCheck [.W 0 14]]]))])<|.ret) (.ifr [] (.M 18 (.P 23 (.binI .eql) [.P 22 .load1 [.P 21 (.fadr 0) [.P 20 .nilCheck [.W 0 19]]],.I 6])) (.seq (.reg [.set 2 (.M 4 (.I 1))])<|.ret) .skip)))<|.seq (.reg [.set 2 (.M 4 (.I 0))])<|.ret
def s215:SFn:=.src 19 [0,1,4,5,7,8,9] [.tmp 2]<|.seq (.reg [.set 2 (.M 4 (.I 0))])<|.seq (.seq (.reg [.set 4 (.P 7 .lenL [.W 0 6]),.set 5 (.M 8 (.I 0))])<|.block 0<|.loop [0,1,4,5]<|.seq (.reg [.set 6 (.P 9 (.binI .lss) [.V 5,.V 4])])<|.seq (.cond (.t 6) .skip (.exit 0))<|.seq (.block 1<|.seq (.reg [.set 3 (.M 5 (.W 5 10))])<|.ifr [] (.P 16 .callv [.W 1 11,.P 15 (.loadN 4) [.P 14 (.iadr 4) [.W 0 12,.W 3 13]]]) (.seq (.reg [.set 2 (.M 4 (.W 3 17))])<|.ret) .skip)<|.reg [.set 5 (.M 8 (.P 18 (.binI .add) [.V 5,.I 1]))])<|.seq (.reg [.set 2 (.M 4 (.I (-1)))])<|.ret
def s229:SFn:=.src 40 [0,1,2,3,8] [.tmp 4]<|.seq (.reg [.set 4 (.M 8 (.k (.bool false)))])<|.seq (.reg [.set 4 (.M 8 (.and 31 39 (.and 22 30 (.and 14 21 (.P 13 (.binI .geq) [.P 12 .load1 [.P 11 (.fadr 2) [.P 10 .nilCheck [.W 0 9]]],.I 0]) (.P 20 (.binI .leq) [.P 18 .load1 [.P 17 (.fadr 2) [.P 16 .nilCheck [.W 0 15]]],.W 1 19])) (.P 29 (.binI .geq) [.P 27 .lenL [.P 26 .load1 [.P 25 (.fadr 3) [.P 24 .nilCheck [.W 0 23]]]],.W 2 28])) (.P 38 (.binI .leq) [.P 36 .lenL [.P 35 .load1 [.P 34 (.fadr 3) [.P 33 .nilCheck [.W 0 32]]]],.W 3 37])))])<|.ret
def s261:SFn:=.src 19 [0,2,3,5,6,7] [.tmp 1]<|.seq (.reg [.set 1 (.M 2 (.k (.bool false)))])<|.seq (.seq (.reg [.set 3 (.P 5 .lenL [.W 0 4]),.set 4 (.M 6 (.I 0))])<|.block 0<|.loop [0,3,4]<|.seq (.reg [.set 5 (.P 7 (.binI .lss) [.V 4,.V 3])])<|.seq (.cond (.t 5) .skip (.exit 0))<|.seq (.block 1<|.seq (.reg [.set 2 (.M 3 (.W 4 8))])<|.ifr [] (.P 14 .notB [.P 13 (.call 270) [.P 11 (.iadr 4) [.W 0 9,.W 2 10],.W 2 12]]) (.seq (.reg [.set 1 (.M 2 (.k (.bool false)))])<|.ret) .skip)<|.reg [.set 4 (.M 6 (.P 15 (.binI .add) [.V 4,.I 1]))])<|.seq (.reg [.set 1 (.M 2 (.P 18 (.binI .gtr) [.P 17 .lenL [.W 0 16],.I 0]))])<|.ret
def s262:SFn:=.src 26 [0,1,2,4,5] [.tmp 3]<|.seq (.reg [.set 2 (.P 2 (.box 0) [.V 0]),.set 3 (.M 4 (.k (.bool false)))])<|.seq (.reg [.set 4 (.M 5 (.P 6 (.mkfn 271) [.V 2]))])<|.seq (.reg [.set 3 (.M 4 (.and 20 25 (.and 13 19 (.and 9 12 (.P 8 (.call 157) [.P 7 (.loadN 1) [.V 2]]) (.P 11 (.call 261) [.W 1 10])) (.P 18 (.binI .eql) [.P 17 .load1 [.P 16 (.fadr 0) [.P 15 (.iadr 4) [.W 1 14,.I 0]]],.I 0])) (.P 24 .notB [.P 23 (.call 272) [.W 1 21,.W 4 22]])))])<|.ret
def s270:SFn:=.src 39 [0,1,4,5] [.tmp 2]<|.seq (.reg [.set 2 (.M 4 (.k (.bool false)))])<|.seq (.reg [.set 3 (.M 5 (.or 19 29 (.and 11 18 (.P 10 (.binI .geq) [.P 9 .load1 [.P 8 (.fadr 1) [.P 7 .nilCheck [.W 0 6]]],.I 0]) (.P 17 (.binI .lss) [.P 15 .load1 [.P 14 (.fadr 1) [.P 13 .nilCheck [.W 0 12]]],.W 1 16])) (.and 22 28 (.P 21 (.binI .eql) [.W 1 20,.I 0]) (.P 27 (.binI .eql) [.P 26 .load1 [.P 25 (.fadr 1) [.P 24 .nilCheck [.W 0 23]]],.I (-1)]))))])<|.seq (.reg [.set 2 (.M 4 (.and 35 38 (.and 32 34 (.P 31 (.binI .lss) [.W 1 30,.I 512]) (.W 3 33)) (.P 37 (.call 269) [.W 0 36])))])<|.ret
def s271:SFn:=.src 23 [0,1,2,3] [.tmp 3]<|.seq (.reg [.set 2 (.P 2 (.box 0) [.V 0]),.set 3 (.M 3 (.k (.bool false)))])<|.seq (.dreg [4,5,6,7,8,9,10,11,12,13,14,15,16,17,18,19,20,21,22] [⟨ (some 4),.fadr 0,[.t 2],none⟩,⟨ (some 5),.load1,[.t 4],none⟩,⟨ (some 6),.fadr 0,[.t 1],none⟩,⟨ (some 7),.load1,[.t 6],none⟩,⟨ (some 8),.lenL,[.t 7],none⟩,⟨ (some 9),.binI .geq,[.t 5,.t 8],none⟩,⟨ (some 10),.mov,[.t 9],none⟩,⟨ (some 11),.fadr 2,[.t 2],(some (10 ,false)) ⟩,⟨ (some 12),.load1,[.t 11],(some (10 ,false)) ⟩,⟨ (some 13),.lenL,[.t 12],(some (10 ,false)) ⟩,⟨ (some 14),.fadr 0,[.t 1],(some (10 ,false)) ⟩,⟨ (some 15),.load1,[.t 14],(some (10 ,false)) ⟩,⟨ (some 16),.fadr 0,[.t 2],(some (10 ,false)) ⟩,⟨ (some 17),.load1,[.t 16],(some (10 ,false)) ⟩,⟨ (some 18),.iadr 2,[.t 15,.t 17],(some (10 ,false)) ⟩,⟨ (some 19),.fadr 0,[.t 18],(some (10 ,false)) ⟩,⟨ (some 20),.load1,[.t 19],(some (10 ,false)) ⟩,⟨ (some 21),.binI .neq,[.t 13,.t 20],(some (10 ,false)) ⟩,⟨ (some 22),.pick,[.t 10,.c (.bool true),.t 21],none⟩,⟨ (some 3),.mov,[.t 22],none⟩] [.op 0,.op 1,.op 2,.op 3,.op 4,.op 5,.op 6,.op 7,.op 8,.op 9,.op 10,.op 11,.op 12,.op 13,.op 14,.op 15,.op 16,.op 17,.op 18,.op 19])<|.ret
def s272:SFn:=.src 9 [0,1,4] [.tmp 2]<|.seq (.reg [.set 2 (.M 4 (.k (.bool false)))])<|.seq (.reg [.set 2 (.M 4 (.P 8 (.binI .geq) [.P 7 (.call 276) [.W 0 5,.W 1 6],.I 0]))])<|.ret
def s276:SFn:=.src 19 [0,1,4,5,7,8,9] [.tmp 2]<|.seq (.reg [.set 2 (.M 4 (.I 0))])<|.seq (.seq (.reg [.set 4 (.P 7 .lenL [.W 0 6]),.set 5 (.M 8 (.I 0))])<|.block 0<|.loop [0,1,4,5]<|.seq (.reg [.set 6 (.P 9 (.binI .lss) [.V 5,.V 4])])<|.seq (.cond (.t 6) .skip (.exit 0))<|.seq (.block 1<|.seq (.reg [.set 3 (.M 5 (.W 5 10))])<|.ifr [] (.P 16 .callv [.W 1 11,.P 15 (.loadN 4) [.P 14 (.iadr 4) [.W 0 12,.W 3 13]]]) (.seq (.reg [.set 2 (.M 4 (.W 3 17))])<|.ret) .skip)<|.reg [.set 5 (.M 8 (.P 18 (.binI .add) [.V 5,.I 1]))])<|.seq (.reg [.set 2 (.M 4 (.I (-1)))])<|.ret
end Am.T
end
section
namespace Am.F
open Go Am
noncomputable section
variable {β:Type} (I:FI) (N:Nat) (call:zc β) (a:List AV) (h:H) (k:K β)
def f261_J0{β:Type}(k:K β)(x0 x1 x2 x3 x4 x5:AV)(h:H):Option β :=
 qLenL x0<|.mk λv1=>
 qGtr v1 (.int .i64 0)<|.mk λv2=>
 k v2 h
def f261_J7{β:Type}(l4:Cur β 6)(x0 x1 x2 x3 x4 x5:AV)(h:H):Option β :=
 qAdd x4 (.int .i64 1)<|.mk λv8=>
 l4 x0 x1 x2 x3 v8 x5 h
def f261_J6{β:Type}(call:zc β)(k:K β)(l4:Cur β 6)(x0 x1 x2 x3 x4 x5:AV)(h:H):Option β :=
 zaj 6 (.mk (
 f261_J7 l4))<|.mk λj7=>
 zdf 4 x0 x4<|.mk λv9=>
 zz call (.fn 270 []) [v9,x4] h<|.mk λv10 h=>
 qNot v10<|.mk λv11=>
 qIf v11 (.mk (
 k (.bool false) h))<|.mk (
 j7 x0 x1 x4 x3 x4 x5 h)
def f261_L4{β:Type}(call:zc β)(k:K β)(j0:Cur β 6)(l4:Cur β 6)(x0 x1 x2 x3 x4 x5:AV)(h:H):Option β :=
 qLss x4 x3<|.mk λv5=>
 zaj 6 (.mk (
 f261_J6 call k l4))<|.mk λj6=>
 qIf v5 (.mk (
 j6 x0 .any .any x3 x4 v5 h))<|.mk (
 j0 x0 .any .any x3 x4 v5 h)
def f261{β:Type}(N:Nat)(call:zc β)(a:List AV)(h:H)(k:K β):Option β :=
 zaj 6 (.mk (
 f261_J0 k))<|.mk λj0=>
 qLenL (nth a 0)<|.mk λv3=>
 (zgF 6 N<|.mk (
 f261_L4 call k j0)) (nth a 0) (.bool false) (nth a 3) v3 (.int .i64 0) (nth a 7) h
theorem y261:zad I 261 T.s261 N call a h k=f261 N call a h k:=by kernel_rfl
def f270{β:Type}(N:Nat)(call:zc β)(a:List AV)(h:H)(k:K β):Option β :=
 qNil (nth a 0)<|.mk λv0=>
 zbc 1 v0<|.mk λv1=>
 zJ v1 h<|.mk λv2=>
 qGeq v2 (.int .i64 0)<|.mk λv3=>
 qAnd v3 h (.mk λh k=>
 qNil (nth a 0)<|.mk λv4=>
 zbc 1 v4<|.mk λv5=>
 zJ v5 h<|.mk λv6=>
 qLss v6 (nth a 1)<|.mk λv7=>
 k v7 h)<|.mk λv8 h=>
 qOr v8 h (.mk λh k=>
 qEql (nth a 1) (.int .i64 0)<|.mk λv9=>
 qAnd v9 h (.mk λh k=>
 qNil (nth a 0)<|.mk λv10=>
 zbc 1 v10<|.mk λv11=>
 zJ v11 h<|.mk λv12=>
 qEql v12 (.int .i64 (-1))<|.mk λv13=>
 k v13 h)<|.mk λv14 h=>
 k v14 h)<|.mk λv15 h=>
 qLss (nth a 1) (.int .i64 512)<|.mk λv16=>
 qAnd v16 h (.mk λh k=>
 k v15 h)<|.mk λv17 h=>
 qAnd v17 h (.mk λh k=>
 zz call (.fn 269 []) [(nth a 0)] h<|.mk λv18 h=>
 k v18 h)<|.mk λv19 h=>
 k v19 h
theorem y270:zad I 270 T.s270 N call a h k=f270 N call a h k:=by kernel_rfl
def e261:Ent:=⟨261,T.s261,λ_ _=>f261,λ_=>y261⟩
def e270:Ent:=⟨270,T.s270,λ_ _=>f270,λ_=>y270⟩
structure GC (t:ETree):Prop where
 g261:t.get 261=some e261
 g270:t.get 270=some e270
section
variable {β:Type} {t:ETree} {I:FI} (n:Nat) (a:List AV) (h:H) (k:K β)
end
end
end Am.F
end
section
namespace Am.T
open Go
def s258:SFn:=.src 21 [0,1,2,3,4] [.tmp 2,.tmp 3]<|.seq (.reg [.set 1 (.P 1 (.box 0) [.V 0]),.set 2 (.M 2 (.k (.str []))),.set 3 (.M 3 (.I 0))])<|.seq (.ifr [] (.P 6 .notB [.P 5 (.call 269) [.V 1]]) (.seq (.reg [.set 2 (.M 2 (.k (.str []))),.set 3 (.M 3 (.I 1400))])<|.ret) .skip)<|.seq (.dreg [7,8,9,10,11,12,13,14] [⟨ (some 5),.fadr 0,[.t 1],none⟩,⟨ (some 6),.load1,[.t 5],none⟩,⟨ (some 7),.call 29,[.t 6],none⟩,⟨ (some 8),.binS .add,[.c (.str [102]),.t 7],none⟩,⟨ (some 9),.bslice 0 [.str []] 1 [(0 ,1)],[.t 8],none⟩,⟨ (some 10),.fadr 2,[.t 1],none⟩,⟨ (some 11),.load1,[.t 10],none⟩,⟨ (some 12),.app 0 1 16,[.t 9,.t 11],none⟩,⟨ (some 4),.mov,[.t 12],none⟩] [.op 0,.op 1,.op 5,.op 6,.op 2,.chk 6,.op 3,.op 4,.chk 6,.op 7,.op 8])<|.seq (.reg [.set 2 (.M 2 (.P 20 (.call 42) [.P 19 (.app 0 1 16) [.W 4 15,.P 18 (.bslice 0 [.str [],.str []] 2 [(0 ,1),(1 ,1)]) [.k (.str [61]),.P 17 .load1 [.P 16 (.fadr 3) [.V 1]]]],.k (.str [32])])),.set 3 (.M 3 (.I 0))])<|.ret
def s269:SFn:=.src 37 [0,2] [.tmp 1]<|.seq (.reg [.set 1 (.M 2 (.k (.bool false)))])<|.seq (.reg [.set 1 (.M 2 (.and 30 36 (.and 23 29 (.and 15 22 (.and 8 14 (.P 7 (.binI .geq) [.P 6 .load1 [.P 5 (.fadr 0) [.P 4 .nilCheck [.W 0 3]]],.I 0]) (.P 13 (.binI .lss) [.P 12 .load1 [.P 11 (.fadr 0) [.P 10 .nilCheck [.W 0 9]]],.I 8])) (.P 21 (.binI .leq) [.P 20 .lenL [.P 19 .load1 [.P 18 (.fadr 2) [.P 17 .nilCheck [.W 0 16]]]],.I 3])) (.P 28 (.call 26) [.P 27 .load1 [.P 26 (.fadr 2) [.P 25 .nilCheck [.W 0 24]]]])) (.P 35 (.call 17) [.P 34 .load1 [.P 33 (.fadr 3) [.P 32 .nilCheck [.W 0 31]]]])))])<|.ret
end Am.T
end
section
namespace Am.F
open Go Am
noncomputable section
variable {β:Type} (I:FI) (N:Nat) (call:zc β) (a:List AV) (h:H) (k:K β)
def f258_J1{β:Type}(call:zc β)(k:K β)(x0 x1 x2 x3 x4:AV)(h:H):Option β :=
 zbc 0 x1<|.mk λv2=>
 zJ v2 h<|.mk λv3=>
 zbc 2 x1<|.mk λv4=>
 zJ v4 h<|.mk λv5=>
 zz call (.fn 29 []) [v3] h<|.mk λv6 h=>
 zJ v4 h<|.mk λv7=>
 qChk v7 v5<|.mk (
 qSAdd (.str [102]) v6<|.mk λv8=>
 zaN 0 [(.str [])] 1 [(0,1)] [v8] h<|.mk λv9 h=>
 zJ v4 h<|.mk λv10=>
 qChk v10 v5<|.mk (
 qApp 0 1 16 v9 v5 h<|.mk λv11 h=>
 zbc 3 x1<|.mk λv12=>
 zJ v12 h<|.mk λv13=>
 zaN 0 [(.str []),(.str [])] 2 [(0,1),(1,1)] [(.str [61]),v13] h<|.mk λv14 h=>
 qApp 0 1 16 v11 v14 h<|.mk λv15 h=>
 zz call (.fn 42 []) [v15,(.str [32])] h<|.mk λv16 h=>
 k (.tup [v16,(.int .i64 0)]) h))
def f258{β:Type}(N:Nat)(call:zc β)(a:List AV)(h:H)(k:K β):Option β :=
 qBox 0 (nth a 0) h<|.mk λv0 h=>
 zaj 5 (.mk (
 f258_J1 call k))<|.mk λj1=>
 zz call (.fn 269 []) [v0] h<|.mk λv17 h=>
 qNot v17<|.mk λv18=>
 qIf v18 (.mk (
 k (.tup [(.str []),(.int .i64 1400)]) h))<|.mk (
 j1 (nth a 0) v0 (.str []) (.int .i64 0) (nth a 4) h)
theorem y258:zad I 258 T.s258 N call a h k=f258 N call a h k:=by kernel_rfl
def f269{β:Type}(N:Nat)(call:zc β)(a:List AV)(h:H)(k:K β):Option β :=
 qNil (nth a 0)<|.mk λv0=>
 zbc 0 v0<|.mk λv1=>
 zJ v1 h<|.mk λv2=>
 qGeq v2 (.int .i64 0)<|.mk λv3=>
 qAnd v3 h (.mk λh k=>
 qNil (nth a 0)<|.mk λv4=>
 zbc 0 v4<|.mk λv5=>
 zJ v5 h<|.mk λv6=>
 qLss v6 (.int .i64 8)<|.mk λv7=>
 k v7 h)<|.mk λv8 h=>
 qAnd v8 h (.mk λh k=>
 qNil (nth a 0)<|.mk λv9=>
 zbc 2 v9<|.mk λv10=>
 zJ v10 h<|.mk λv11=>
 qLenL v11<|.mk λv12=>
 qLeq v12 (.int .i64 3)<|.mk λv13=>
 k v13 h)<|.mk λv14 h=>
 qAnd v14 h (.mk λh k=>
 qNil (nth a 0)<|.mk λv15=>
 zbc 2 v15<|.mk λv16=>
 zJ v16 h<|.mk λv17=>
 zz call (.fn 26 []) [v17] h<|.mk λv18 h=>
 k v18 h)<|.mk λv19 h=>
 qAnd v19 h (.mk λh k=>
 qNil (nth a 0)<|.mk λv20=>
 zbc 3 v20<|.mk λv21=>
 zJ v21 h<|.mk λv22=>
 zz call (.fn 17 []) [v22] h<|.mk λv23 h=>
 k v23 h)<|.mk λv24 h=>
 k v24 h
theorem y269:zad I 269 T.s269 N call a h k=f269 N call a h k:=by kernel_rfl
def e258:Ent:=⟨258,T.s258,λ_ _=>f258,λ_=>y258⟩
def e269:Ent:=⟨269,T.s269,λ_ _=>f269,λ_=>y269⟩
section
variable {β:Type} {t:ETree} {I:FI} (n:Nat) (a:List AV) (h:H) (k:K β)
end
end
end Am.F
end
section
namespace Am.F
open Go Am
structure Nd where
 fn:Int
 parent:Int
 args:List (List UInt8)
 res:List UInt8
def NdAt(h:H)(a:AV)(x:Nd):Prop:=∃v,a = .agg [.int .i64 x.fn,.int .i64 x.parent,v,.str x.res]/\SlAt h v (strs x.args)
def NdIn(h:H)(b:Nat)(v:AV)(x:Nd):Prop:=(h.get b).cells=some [.int .i64 x.fn,.int .i64 x.parent,v,.str x.res]/\b<h.n/\SlAt h v (strs x.args)
theorem NdAt.ext{h h':H}{a:AV}{x:Nd}(hs:NdAt h a x)(e:Ext h h'):NdAt h' a x:=let ⟨v,h1,h2⟩:=hs;⟨v,h1,h2.ext e⟩
theorem NdIn.ext{h h':H}{b:Nat}{v:AV}{x:Nd}(hs:NdIn h b v x)(e:Ext h h'):NdIn h' b v x:=⟨by rw[e.get b hs.2.1];exact hs.1,Nat.lt_of_lt_of_le hs.2.1 e.n,hs.2.2.ext e⟩
def eqMay(x:Nd):Bool:=decide ((0<=x.fn/\x.fn<8)/\x.args.length<=3)&&x.args.all mayP&&mayP x.res
section
variable {β:Type} {t:ETree}
end
end Am.F
end
section
namespace Am
open Go Go.RowKit F
def tyNode:Ty:=.st [.int .i64,.int .i64,.sl .str,.str]
theorem zcf{us:List AV}{a:AV}(h:us.take 1=[a]):us=a::us.drop 1:=by
 cases us with
 | nil=>cases h
 | cons b r=>simp only[List.take_succ_cons,List.take_zero,List.cons.injEq,and_true] at h;rw[h];rfl
theorem Rep.node{S:St}{h:F.H}{us:List AV}{x:Dat}(ha:F.Abs h S)(hr:Rep S tyNode us x):∃(y:Nd) (no:Bool) (sp:List Dat),NdAt h (.agg us) y/\x = .st [.int y.fn,.int y.parent,.sl no (y.args.map Dat.str) sp,.str y.res] /\
  (no=true->y.args=[])/\(∀z ∈ y.args,z.length<=maxLen)/\y.res.length<=maxLen/\y.args.length<=maxLen:=by
 unfold tyNode at hr;simp only[Rep,Reps,Ty.size] at hr;obtain⟨ds,rfl,d0,r0,rfl,⟨f,e0,rfl,_⟩,d1,r1,rfl,⟨p,e1,rfl,_⟩,d2,r2,rfl,h2,d3,r3,rfl,⟨s,e3,rfl,hs⟩,e4,rfl⟩:=hr;have u0:=zcf e0;have u1:=zcf e1;have u3:=zcf e3;have hsl:Rep S (.sl .str) ((us.drop 1).drop 1 |>.take 1) d2:=by simp only[Rep,Ty.size];exact h2
 have hone:∃a,((us.drop 1).drop 1).take 1=[a]:=by
  rcases h2 with⟨h,_⟩|⟨_,_,_,_,h,_⟩
  ·exact⟨_,h⟩
  ·exact⟨_,h⟩
 obtain⟨a,e2⟩:=hone;have u2:=zcf e2;rw[e2] at hsl;obtain⟨no,kids,sp,k1,rfl,k2,k3,k4⟩:=Rep.texts ha hsl;refine⟨⟨f,p,kids,s⟩,no,sp,⟨a,?_,k1⟩,rfl,k2,k3,hs,k4⟩;rw[u0,u1,u2,u3,e4]
end Am
end
section
namespace Am.F
open Go Am
section
variable {β:Type} {t:ETree}
end
end Am.F
end
section
namespace Am.F
open Go Am
def zg7(x:Nd)(w:AV):List AV:=[.int .i64 x.fn,.int .i64 x.parent,w,.str x.res]
def zhJ(h:H)(v:AV)(xs:List Nd):Prop:=(v = .nils/\xs=[])\/∃b o m g us,v = .sl b o xs.length m g/\b<h.n/\(h.get b).cells=some us/\o+xs.length*4<=us.length /\
 ∀j x,xs[j]?=some x->∃w,(us.drop (o+j*4)).take 4=zg7 x w/\SlAt h w (strs x.args)
theorem zhJ.ext{h h':H}{v:AV}{xs:List Nd}(hs:zhJ h v xs)(e:Ext h h'):zhJ h' v xs:=by
 rcases hs with hs|⟨b,o,m,g,us,h1,h2,h3,h4,h5⟩
 ·exact .inl hs
 ·refine .inr ⟨b,o,m,g,us,h1,Nat.lt_of_lt_of_le h2 e.n,by rw[e.get b h2];exact h3,h4,λj x hx=>?_⟩;obtain⟨w,h6,h7⟩:=h5 j x hx;exact⟨w,h6,h7.ext e⟩
section
variable {β:Type} {t:ETree}
theorem zhJ.len{h:H}{v:AV}{xs:List Nd}(hs:zhJ h v xs)(k:VK β):qLenL v (.mk k)=k (.int .i64 (xs.length:Int)):=by
 rcases hs with⟨rfl,rfl⟩|⟨b,o,m,g,us,rfl,_⟩
 ·exact zct k
 ·exact zcX _ _ _ _ _ k
end
end Am.F
end
section
namespace Am.F
open Go Am
def LAt{α:Type}(es:Nat)(C:H->List AV->α->Prop)(h:H)(v:AV)(xs:List α):Prop :=
 (v = .nils/\xs=[])\/∃b o m g us,v = .sl b o xs.length m g/\b<h.n/\(h.get b).cells=some us/\o+xs.length*es<=us.length/\∀j x,xs[j]?=some x->C h ((us.drop (o+j*es)).take es) x
def zgr{α:Type}(C:H->List AV->α->Prop):Prop:=∀(h h':H) (cs:List AV) (x:α),C h cs x->Ext h h'->C h' cs x
theorem LAt.ext{α:Type}{es:Nat}{C:H->List AV->α->Prop}(hC:zgr C){h h':H}{v:AV}{xs:List α}(hs:LAt es C h v xs)(e:Ext h h'):LAt es C h' v xs:=by
 rcases hs with hs|⟨b,o,m,g,us,h1,h2,h3,h4,h5⟩
 ·exact .inl hs
 ·exact .inr ⟨b,o,m,g,us,h1,Nat.lt_of_lt_of_le h2 e.n,by rw[e.get b h2];exact h3,h4,λj x hx=>hC _ _ _ _ (h5 j x hx) e⟩
theorem LAt.len{β α:Type}{es:Nat}{C:H->List AV->α->Prop}{h:H}{v:AV}{xs:List α}(hs:LAt es C h v xs)(k:VK β):qLenL v (.mk k)=k (.int .i64 (xs.length:Int)):=by
 rcases hs with⟨rfl,rfl⟩|⟨b,o,m,g,us,rfl,_⟩<;>rfl
theorem LAt.sc{α:Type}{es:Nat}{C:H->List AV->α->Prop}{h:H}{v:AV}{xs:List α}(hs:LAt es C h v xs):v.sc=true:=by
 rcases hs with⟨rfl,_⟩|⟨b,o,m,g,us,rfl,_⟩<;>rfl
def InAt(es:Nat)(h:H)(b o:Nat)(cs:List AV):Prop:=b<h.n/\∃us,(h.get b).cells=some us/\o+es<=us.length/\(us.drop o).take es=cs
theorem InAt.ext{es:Nat}{h h':H}{b o:Nat}{cs:List AV}(hs:InAt es h b o cs)(e:Ext h h'):InAt es h' b o cs:=by
 obtain⟨h1,us,h2,h3⟩:=hs;exact⟨Nat.lt_of_lt_of_le h1 e.n,us,by rw[e.get b h1];exact h2,h3⟩
theorem InAt.own{h:H}{b tag:Nat}{cs:List AV}(hb:b<h.n)(hg:h.get b = .own tag cs):InAt cs.length h b 0 cs:=⟨hb,cs,by rw[hg];rfl,by omega,by rw[List.drop_zero,List.take_length]⟩
theorem InAt.get{es:Nat}{h:H}{b o:Nat}{cs:List AV}(hs:InAt es h b o cs):∃us,(h.get b).cells=some us/\o+es<=us.length/\(us.drop o).take es=cs/\∀i v,cs[i]?=some v->us[o+i]?=some v:=by
 obtain⟨h1,us,h2,h3,rfl⟩:=hs;refine⟨us,h2,h3,rfl,λi v hv=>?_⟩;rw[List.getElem?_take] at hv
 by_cases hi:i<es
 ·rw[if_pos hi,List.getElem?_drop] at hv;exact hv
 ·rw[if_neg hi] at hv;cases hv
theorem LAt.at{β α:Type}{es:Nat}{C:H->List AV->α->Prop}{h:H}{v:AV}{xs:List α}(hs:LAt es C h v xs){j:Nat}{x:α}(hx:xs[j]?=some x) :
  ∃b o cs,(∀k:VK β,zdf es v (.int .i64 (j:Int)) (.mk k)=k (.ptr b o))/\InAt es h b o cs/\C h cs x:=by
 rcases hs with⟨_,rfl⟩|⟨b,o,m,g,us,rfl,h2,h3,h4,h5⟩
 ·simp at hx
 ·have hj:=(List.getElem?_eq_some_iff.1 hx).1;have hm:(j+1)*es<=xs.length*es:=Nat.mul_le_mul_right _ hj;rw[Nat.add_mul] at hm;exact⟨b,o+j*es,_,λk=>by rw[zcu (by omega) (by omega),Int.toNat_natCast],⟨h2,us,h3,by omega,rfl⟩,h5 j x hx⟩
def ints(xs:List Int):List AV:=xs.map (.int .i64)
theorem ints_len(xs:List Int):(ints xs).length=xs.length:=List.length_map ..
structure Ex where
 kind:Int
 num:Int
 bind:Int
 kids:List Int
deriving DecidableEq
structure Df where
 params:Int
 body:List Ex
deriving DecidableEq
def ze3(e:Ex)(w:AV):List AV:=[.int .i64 e.kind,.int .i64 e.num,.int .i64 e.bind,w]
def ExC(h:H)(cs:List AV)(e:Ex):Prop:=∃w,cs=ze3 e w/\SlAt h w (ints e.kids)
def DfC(h:H)(cs:List AV)(d:Df):Prop:=∃w,cs=[.int .i64 d.params,w]/\LAt 4 ExC h w d.body
def PgAt(h:H)(a:AV)(p:List Df):Prop:=∃v,a = .agg [v]/\LAt 2 DfC h v p
theorem ExC.stays:zgr ExC:=λ_ _ _ _ ⟨w,h1,h2⟩ e=>⟨w,h1,h2.ext e⟩
theorem DfC.stays:zgr DfC:=λ_ _ _ _ ⟨w,h1,h2⟩ e=>⟨w,h1,h2.ext ExC.stays e⟩
theorem PgAt.ext{h h':H}{a:AV}{p:List Df}(hs:PgAt h a p)(e:Ext h h'):PgAt h' a p:=let ⟨v,h1,h2⟩:=hs;⟨v,h1,h2.ext DfC.stays e⟩
def ExIn(h:H)(b o:Nat)(w:AV)(e:Ex):Prop:=InAt 4 h b o (ze3 e w)/\SlAt h w (ints e.kids)
theorem ExIn.ext{h h':H}{b o:Nat}{w:AV}{e:Ex}(hs:ExIn h b o w e)(x:Ext h h'):ExIn h' b o w e:=⟨hs.1.ext x,hs.2.ext x⟩
theorem ExIn.get{h:H}{b o:Nat}{w:AV}{e:Ex}(hs:ExIn h b o w e)(β:Type):∃us,(h.get b).cells=some us/\(o+4<=us.length)/\(us.drop o).take 4=ze3 e w /\
  us[o]?=some (.int .i64 e.kind)/\us[o+1]?=some (.int .i64 e.num)/\us[o+2]?=some (.int .i64 e.bind)/\us[o+3]?=some w/\∀k:VK β,qLenL w (.mk k)=k (.int .i64 (e.kids.length:Int)):=by
 obtain⟨us,h1,h2,h3,h4⟩:=hs.1.get;exact⟨us,h1,h2,h3,h4 0 _ rfl,h4 1 _ rfl,h4 2 _ rfl,h4 3 _ rfl,λk=>by rw[hs.2.len,ints_len]⟩
def Plain(e:Ex)(bind least most:Int):Prop:=0<=e.bind/\e.bind<=bind/\least<=(e.kids.length:Int)/\(e.kids.length:Int)<=most
instance (e:Ex) (b l m:Int):Decidable (Plain e b l m):=by unfold Plain;infer_instance
def zbd(e:Ex)(lv:Int):Prop :=
 (e.kind=0/\(-32768<=e.num/\e.num<=32767)/\Plain e 0 0 0)\/(e.kind=1/\(0<=e.num/\e.num<=lv-1)/\Plain e 0 0 0)\/(e.kind=2/\(0<=e.num/\e.num<=7)/\Plain e 0 0 3) \/
 (e.kind=3/\(0<=e.num/\e.num<=99)/\Plain e 0 0 3)\/(e.kind=4/\(0<=e.num/\e.num<=4)/\Plain e 0 2 2)\/(e.kind=5/\(0<=e.num/\e.num<=99)/\Plain e 3 3 3) \/
 (e.kind=6/\e.num=0/\Plain e 0 2 2)\/(e.kind=7/\e.num=0/\Plain e 0 0 0)
instance (e:Ex) (lv:Int):Decidable (zbd e lv):=by unfold zbd;infer_instance
def more(e:Ex)(k:Int):Int:=if k=1 then (if e.kind=5 then e.bind else if e.kind=6 then 1 else 0) else 0
section
variable {β:Type} {t:ETree}
end
end Am.F
end
section
namespace Am.F
open Go Am
section
variable {β:Type} {t:ETree}
end
end Am.F
end
section
namespace Am.F
open Go Am
def zbO(i:Nat)(e:Ex):Nat->List Int->List Int->Option (List Int)
 | _,[],lv=>some lv
 | k,kid::ks,lv=>if 0<=kid/\kid<(i:Int)/\lv.getD kid.toNat 0 = -1 then zbO i e (k+1) ks (lv.set kid.toNat (lv.getD i 0+more e k)) else none
def zc7(body:List Ex):Nat->List Int->Bool
 | 0,_=>true
 | i+1,lv=>match body[i]? with
  | none=>false
  | some e=>if lv.getD i 0 = -1\/8<lv.getD i 0\/¬ zbd e (lv.getD i 0) then false else
   match zbO i e 0 e.kids lv with
   | none=>false
   | some lv'=>zc7 body i lv'
def zhF(body:List Ex)(i:Nat):Option (List Int)->Bool
 | none=>false
 | some lv=>zc7 body i lv
def zby(d:Df):List Int:=List.replicate (d.body.length-1) (-1)++[d.params]
def zcJ(d:Df):Bool:=decide ((0<=d.params/\d.params<=3)/\1<=d.body.length/\d.body.length<=24)&&zc7 d.body d.body.length (zby d)
def LvOk(n:Nat)(lv:List Int):Prop:=lv.length=n/\∀q,-1<=lv.getD q 0/\lv.getD q 0<=11
theorem getD_set_eq(xs:List Int){i:Nat}(x:Int)(hi:i<xs.length):(xs.set i x).getD i 0=x:=by simp[List.getD_eq_getElem?_getD,hi]
theorem getD_set_ne(xs:List Int){i j:Nat}(x:Int)(hi:i≠j):(xs.set i x).getD j 0=xs.getD j 0:=by simp[List.getD_eq_getElem?_getD,List.getElem?_set_ne hi]
theorem LvOk.set{n:Nat}{lv:List Int}(h:LvOk n lv){i:Nat}{x:Int}(hx:-1<=x/\x<=11):LvOk n (lv.set i x):=by
 refine⟨by rw[List.length_set];exact h.1,λq=>?_⟩
 by_cases hq:i=q
 ·subst hq
  by_cases hi:i<lv.length
  ·rw[getD_set_eq _ _ hi];exact hx
  ·rw[List.set_eq_of_length_le (by omega)];exact h.2 i
 ·rw[getD_set_ne _ _ hq];exact h.2 q
theorem zbd.bind{e:Ex}{lv:Int}(h:zbd e lv):0<=e.bind/\e.bind<=3:=by
 unfold zbd Plain at h;rcases h with h|h|h|h|h|h|h|h<;>omega
theorem more_le{e:Ex}(h:0<=e.bind/\e.bind<=3)(k:Int):0<=more e k/\more e k<=3:=by
 unfold more;split<;>(try split)<;>(try split)<;>omega
theorem bodyGo_s(body:List Ex)(i:Nat)(lv:List Int){e:Ex}(he:body[i]?=some e)(h1:¬ lv.getD i 0 = -1)(h2:¬ 8<lv.getD i 0)(h3:zbd e (lv.getD i 0)) :
  zc7 body (i+1) lv=zhF body i (zbO i e 0 e.kids lv):=by
 show (match body[i]? with|none=>false|some e=>_)=_;rw[he];show (if _ then _ else _)=_;rw[if_neg (by simp only[h1,h2,h3,not_true_eq_false,or_self,not_false_eq_true])];cases zbO i e 0 e.kids lv<;>rfl
theorem zdw(body:List Ex)(i:Nat)(lv:List Int){e:Ex}(he:body[i]?=some e)(h:lv.getD i 0 = -1\/8<lv.getD i 0\/¬ zbd e (lv.getD i 0)):zc7 body (i+1) lv=false:=by
 show (match body[i]? with|none=>false|some e=>_)=_;rw[he];show (if _ then _ else _)=_;rw[if_pos h]
end Am.F
end
section
namespace Am.F
open Go Am
def DMem(h h':H)(bx:List AV)(lv:List Int):Prop:=h.n+2<=h'.n/\(∀q,q<h.n->h'.get q=h.get q)/\h'.get h.n = .own 0 bx/\h'.get (h.n+1) = .own 0 (ints lv)
theorem DMem.base{h h':H}{bx:List AV}{lv:List Int}(d:DMem h h' bx lv):Ext h h':=⟨by have:=d.1;omega,d.2.1⟩
theorem DMem.ext{h h' h'':H}{bx:List AV}{lv:List Int}(d:DMem h h' bx lv)(e:Ext h' h''):DMem h h'' bx lv:=by
 obtain⟨d1,d2,d3,d4⟩:=d;refine⟨by have:=e.n;omega,λq hq=>by rw[e.get q (by omega),d2 q hq],by rw[e.get _ (by omega),d3],by rw[e.get _ (by omega),d4]⟩
theorem DMem.set{h h':H}{bx:List AV}{lv:List Int}(d:DMem h h' bx lv)(lv':List Int):DMem h (h'.set (h.n+1) (.own 0 (ints lv'))) bx lv':=by
 obtain⟨d1,d2,d3,d4⟩:=d;refine⟨by rw[H.n_set];exact d1,λq hq=>by rw[zaa (by omega),d2 q hq],by rw[zaa (by omega),d3],zc4 rfl⟩
theorem DMem.mk{h:H}(bx:List AV)(lv:List Int):DMem h ((h.push (.own 0 bx)).push (.own 0 (ints lv))) bx lv :=
 ⟨by rw[H.n_push,H.n_push];omega,λq hq=>by rw[zy (by rw[H.n_push];omega),zy (by omega)],by rw[zy (by rw[H.n_push];omega),zaw rfl],zaw (by rw[H.n_push])⟩
section
variable {β:Type} {t:ETree}
end
end Am.F
end
section
namespace Am.F
open Go Am
def up(lv:List Int):List Int:=lv.map (·+1)
section
variable {β:Type} {t:ETree}
end
end Am.F
end
section
namespace Am.F
open Go Am
def zbI(p:List Df)(j:Int):Int:=((p[j.toNat]?).map Df.params).getD 0
def Odd(p:List Df)(e:Ex):Prop:=e.kind=2/\((p.length:Int)<=e.num\/¬ (e.kids.length:Int)=zbI p e.num)
instance (p:List Df) (e:Ex):Decidable (Odd p e):=by unfold Odd;infer_instance
def defIn(p:List Df)(d:Df):Bool:=zcJ d&&d.body.all λe=>!decide (Odd p e)
def zeG(p:List Df):Bool:=decide ((1<=p.length/\p.length<=8)/\zbI p 0=0)&&p.all (defIn p)
theorem zbd.call{e:Ex}{l:Int}(h:zbd e l)(h2:e.kind=2):0<=e.num/\e.num<=7:=by
 unfold zbd at h;rcases h with h|h|h|h|h|h|h|h<;>omega
theorem zc5{d:Df}(h:zcJ d=true):d.body.length<=24/\1<=d.body.length:=by
 unfold zcJ at h;rw[Bool.and_eq_true] at h;have:=of_decide_eq_true h.1
 omega
theorem zbd.kids{e:Ex}{l:Int}(h:zbd e l):e.kids.length<=3:=by
 unfold zbd Plain at h;rcases h with h|h|h|h|h|h|h|h<;>omega
section
variable {β:Type} {t:ETree}
def oddIn(p:List Df)(body:List Ex):Bool:=body.any λe=>decide (Odd p e)
theorem defIn_eq(p:List Df)(d:Df):defIn p d=(zcJ d&&!oddIn p d.body):=by
 unfold defIn oddIn;congr 1;rw[List.not_any_eq_all_not]
theorem zgK{p:List Df}(h:zeG p=true):(1<=p.length/\p.length<=8)/\zbI p 0=0/\∀d ∈ p,zcJ d=true/\oddIn p d.body=false:=by
 unfold zeG at h;rw[Bool.and_eq_true,List.all_eq_true] at h;refine⟨(of_decide_eq_true h.1).1,(of_decide_eq_true h.1).2,λd hd=>?_⟩;have:=h.2 d hd
 rw[defIn_eq,Bool.and_eq_true] at this;exact⟨this.1,by simpa using this.2⟩
end
end Am.F
end
section
namespace Am.F
open Go Am
section
variable {β:Type} {t:ETree}
end
end Am.F
end
