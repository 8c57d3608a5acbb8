/- Texts that belong together: no condition. -/
import Derived.Test.YtanhngcjijbodaaDoorAmJc
import Derived.Test.YtanhngcjijbodaaDoorAmJg
import Derived.Test.YtanhngcjijbodaaDoorAmOpen
set_option maxRecDepth 100000
set_option linter.unusedVariables false
set_option linter.unusedSimpArgs false
set_option linter.defProp false
section
namespace Am.T
open Go
def s149:SFn:=.src 77 [0,1,2,3,4,5,52,76] [.tmp 2]<|.seq (.reg [.set 1 (.P 1 (.box 0) [.V 0]),.set 2 (.M 2 (.k (.bool false)))])<|.seq (.ifr [] (.or 11 18 (.P 10 .notB [.P 9 (.call 30) [.P 8 .lenL [.P 7 .load1 [.P 6 (.fadr 0) [.V 1]]],.I 1,.I 8]]) (.P 17 (.binI .neq) [.P 16 .load1 [.P 15 (.fadr 0) [.P 14 (.iadr 2) [.P 13 .load1 [.P 12 (.fadr 0) [.V 1]],.I 0]]],.I 0])) (.seq (.reg [.set 2 (.M 2 (.k (.bool false)))])<|.ret) .skip)<|.seq (.seq (.reg [.set 3 (.M 3 (.I 0))])<|.block 0<|.loop [1,3]<|.seq (.ifr [] (.P 23 (.binI .lss) [.W 3 19,.P 22 .lenL [.P 21 .load1 [.P 20 (.fadr 0) [.V 1]]]]) .skip (.exit 0))<|.seq (.block 1<|.seq (.ifr [] (.P 32 .notB [.P 31 (.call 179) [.P 30 (.loadN 2) [.P 29 (.iadr 2) [.P 27 .load1 [.P 26 (.fadr 0) [.V 1]],.W 3 28]]]]) (.seq (.reg [.set 2 (.M 2 (.k (.bool false)))])<|.ret) .skip)<|.seq (.reg [.set 4 (.M 4 (.I 0))])<|.block 2<|.loop [1,3,4]<|.seq (.ifr [] (.P 41 (.binI .lss) [.W 4 33,.P 40 .lenL [.P 39 .load1 [.P 38 (.fadr 1) [.P 37 (.iadr 2) [.P 35 .load1 [.P 34 (.fadr 0) [.V 1]],.W 3 36]]]]]) .skip (.exit 2))<|.seq (.block 3<|.seq (.reg [.set 6 (.P 52 (.loadN 4) [.P 51 (.iadr 4) [.P 49 .load1 [.P 48 (.fadr 1) [.P 47 (.iadr 2) [.P 45 .load1 [.P 44 (.fadr 0) [.V 1]],.W 3 46]]],.W 4 50]]),.set 5 (.P 5 (.alloc 0 [.int .i64 0,.int .i64 0,.int .i64 0,.nils]) []),.ef (.op none (.store 4) [.V 5,.V 6])])<|.seq (.dreg [53,54,55,56,57,58,59,60,61,62,63,64,65,66,67,68,69,70,71,72,73,74,75] [⟨ (some 8),.fadr 0,[.t 5],none⟩,⟨ (some 9),.load1,[.t 8],none⟩,⟨ (some 10),.binI .eql,[.t 9,.c (.int .i64 2)],none⟩,⟨ (some 11),.mov,[.t 10],none⟩,⟨ (some 12),.fadr 1,[.t 5],(some (11 ,true)) ⟩,⟨ (some 13),.load1,[.t 12],(some (11 ,true)) ⟩,⟨ (some 14),.fadr 0,[.t 1],(some (11 ,true)) ⟩,⟨ (some 15),.load1,[.t 14],(some (11 ,true)) ⟩,⟨ (some 16),.lenL,[.t 15],(some (11 ,true)) ⟩,⟨ (some 17),.binI .geq,[.t 13,.t 16],(some (11 ,true)) ⟩,⟨ (some 18),.mov,[.t 17],(some (11 ,true)) ⟩,⟨ (some 19),.fadr 3,[.t 5],(some (18 ,false)) ⟩,⟨ (some 20),.load1,[.t 19],(some (18 ,false)) ⟩,⟨ (some 21),.lenL,[.t 20],(some (18 ,false)) ⟩,⟨ (some 22),.fadr 0,[.t 1],(some (18 ,false)) ⟩,⟨ (some 23),.load1,[.t 22],(some (18 ,false)) ⟩,⟨ (some 24),.fadr 1,[.t 5],(some (18 ,false)) ⟩,⟨ (some 25),.load1,[.t 24],(some (18 ,false)) ⟩,⟨ (some 26),.iadr 2,[.t 23,.t 25],(some (18 ,false)) ⟩,⟨ (some 27),.fadr 0,[.t 26],(some (18 ,false)) ⟩,⟨ (some 28),.load1,[.t 27],(some (18 ,false)) ⟩,⟨ (some 29),.binI .neq,[.t 21,.t 28],(some (18 ,false)) ⟩,⟨ (some 30),.pick,[.t 18,.c (.bool true),.t 29],(some (11 ,true)) ⟩,⟨ (some 7),.pick,[.t 11,.t 30,.c (.bool false)],none⟩] [.op 0,.op 1,.op 2,.op 3,.op 4,.op 5,.op 6,.op 7,.op 8,.op 9,.op 10,.op 11,.op 12,.op 13,.op 14,.op 15,.op 16,.op 17,.op 18,.op 19,.op 20,.op 21,.op 22,.op 23])<|.cond (.t 7) (.seq (.reg [.set 2 (.M 2 (.k (.bool false)))])<|.ret) .skip)<|.reg [.set 4 (.M 4 (.P 43 (.binI .add) [.W 4 42,.I 1]))])<|.reg [.set 3 (.M 3 (.P 25 (.binI .add) [.W 3 24,.I 1]))])<|.seq (.reg [.set 2 (.M 2 (.k (.bool true)))])<|.ret
def s157:SFn:=.src 42 [0,1,2,3,5,26,27,28,29,31] [.tmp 2]<|.seq (.reg [.set 1 (.P 1 (.box 0) [.V 0]),.set 2 (.M 2 (.k (.bool false)))])<|.seq (.ifr [] (.or 16 23 (.or 10 15 (.P 9 (.binI .eql) [.P 8 .lenL [.P 7 .load1 [.P 6 (.fadr 0) [.V 1]]],.I 0]) (.P 14 (.binI .gtr) [.P 13 .lenL [.P 12 .load1 [.P 11 (.fadr 0) [.V 1]]],.I 8])) (.P 22 (.binI .neq) [.P 21 .load1 [.P 20 (.fadr 0) [.P 19 (.iadr 2) [.P 18 .load1 [.P 17 (.fadr 0) [.V 1]],.I 0]]],.I 0])) (.seq (.reg [.set 2 (.M 2 (.k (.bool false)))])<|.ret) .skip)<|.seq (.reg [.set 3 (.M 3 (.P 24 (.mkfn 186) [.V 1]))])<|.seq (.seq (.reg [.set 5 (.P 26 .load1 [.P 25 (.fadr 0) [.V 1]]),.set 6 (.P 27 .lenL [.V 5]),.set 7 (.M 28 (.I 0))])<|.block 0<|.loop [3,5,6,7]<|.seq (.reg [.set 8 (.P 29 (.binI .lss) [.V 7,.V 6])])<|.seq (.cond (.t 8) .skip (.exit 0))<|.seq (.block 1<|.seq (.reg [.set 9 (.P 31 (.loadN 2) [.P 30 (.iadr 2) [.V 5,.V 7]]),.set 4 (.P 5 (.alloc 0 [.int .i64 0,.nils]) []),.ef (.op none (.store 2) [.V 4,.V 9])])<|.ifr [] (.or 35 40 (.P 34 .notB [.P 33 (.call 187) [.P 32 (.loadN 2) [.V 4]]]) (.P 39 (.call 188) [.P 37 .load1 [.P 36 (.fadr 1) [.V 4]],.W 3 38])) (.seq (.reg [.set 2 (.M 2 (.k (.bool false)))])<|.ret) .skip)<|.reg [.set 7 (.M 28 (.P 41 (.binI .add) [.V 7,.I 1]))])<|.seq (.reg [.set 2 (.M 2 (.k (.bool true)))])<|.ret
def s179:SFn:=.src 102 [0,1,2,3,4,5,6,7,21,23,26,43,66] [.tmp 2]<|.seq (.reg [.set 1 (.P 1 (.box 0) [.V 0]),.set 2 (.M 2 (.k (.bool false)))])<|.seq (.ifr [] (.or 12 18 (.P 11 .notB [.P 10 (.call 30) [.P 9 .load1 [.P 8 (.fadr 0) [.V 1]],.I 0,.I 3]]) (.P 17 .notB [.P 16 (.call 30) [.P 15 .lenL [.P 14 .load1 [.P 13 (.fadr 1) [.V 1]]],.I 1,.I 24]])) (.seq (.reg [.set 2 (.M 2 (.k (.bool false)))])<|.ret) .skip)<|.seq (.reg [.set 8 (.P 21 .lenL [.P 20 .load1 [.P 19 (.fadr 1) [.V 1]]]),.set 3 (.M 3 (.P 22 (.mkslice 0 [.int .i64 0] 8) [.V 8,.V 8]))])<|.seq (.reg [.set 9 (.M 23 (.V 3)),.set 10 (.P 26 (.binI .sub) [.P 25 .lenL [.W 3 24],.I 1]),.ef (.opr none (.store 1) (.P 30 (.iadr 1) [.V 9,.V 10]) (.P 29 (.binI .add) [.P 28 .load1 [.P 27 (.fadr 0) [.V 1]],.I 1]))])<|.seq (.seq (.reg [.set 4 (.M 4 (.P 34 (.binI .sub) [.P 33 .lenL [.P 32 .load1 [.P 31 (.fadr 1) [.V 1]]],.I 1]))])<|.block 0<|.loop [1,3,4]<|.seq (.ifr [] (.P 36 (.binI .geq) [.W 4 35,.I 0]) .skip (.exit 0))<|.seq (.block 1<|.seq (.reg [.set 11 (.P 43 (.loadN 4) [.P 42 (.iadr 4) [.P 40 .load1 [.P 39 (.fadr 1) [.V 1]],.W 4 41]]),.set 5 (.P 5 (.alloc 0 [.int .i64 0,.int .i64 0,.int .i64 0,.nils]) []),.ef (.op none (.store 4) [.V 5,.V 11])])<|.seq (.seq (.dreg [44,45,46,47,48,49,50,51,52,53,54,55,56,57,58,59,60,61,62,63,64,65] [⟨ (some 13),.mov,[.t 3],none⟩,⟨ (some 14),.mov,[.t 4],none⟩,⟨ (some 15),.iadr 1,[.t 13,.t 14],none⟩,⟨ (some 16),.load1,[.t 15],none⟩,⟨ (some 17),.binI .eql,[.t 16,.c (.int .i64 0)],none⟩,⟨ (some 18),.mov,[.t 17],none⟩,⟨ (some 19),.mov,[.t 3],(some (18 ,false)) ⟩,⟨ (some 20),.mov,[.t 4],(some (18 ,false)) ⟩,⟨ (some 21),.iadr 1,[.t 19,.t 20],(some (18 ,false)) ⟩,⟨ (some 22),.load1,[.t 21],(some (18 ,false)) ⟩,⟨ (some 23),.binI .sub,[.t 22,.c (.int .i64 1)],(some (18 ,false)) ⟩,⟨ (some 24),.binI .gtr,[.t 23,.c (.int .i64 8)],(some (18 ,false)) ⟩,⟨ (some 25),.pick,[.t 18,.c (.bool true),.t 24],none⟩,⟨ (some 26),.mov,[.t 25],none⟩,⟨ (some 27),.loadN 4,[.t 5],(some (26 ,false)) ⟩,⟨ (some 28),.mov,[.t 3],(some (26 ,false)) ⟩,⟨ (some 29),.mov,[.t 4],(some (26 ,false)) ⟩,⟨ (some 30),.iadr 1,[.t 28,.t 29],(some (26 ,false)) ⟩,⟨ (some 31),.load1,[.t 30],(some (26 ,false)) ⟩,⟨ (some 32),.binI .sub,[.t 31,.c (.int .i64 1)],(some (26 ,false)) ⟩,⟨ (some 33),.call 202,[.t 27,.t 32],(some (26 ,false)) ⟩,⟨ (some 34),.notB,[.t 33],(some (26 ,false)) ⟩,⟨ (some 12),.pick,[.t 26,.c (.bool true),.t 34],none⟩] [.op 0,.op 1,.op 2,.op 3,.op 4,.op 5,.op 6,.op 7,.op 8,.op 9,.op 10,.op 11,.op 12,.op 13,.op 14,.op 15,.op 16,.op 17,.op 18,.op 19,.op 20,.op 21,.op 22])<|.cond (.t 12) (.seq (.reg [.set 2 (.M 2 (.k (.bool false)))])<|.ret) .skip)<|.seq (.reg [.set 6 (.M 6 (.I 0))])<|.block 2<|.loop [1,3,4,5,6]<|.seq (.ifr [] (.P 71 (.binI .lss) [.W 6 67,.P 70 .lenL [.P 69 .load1 [.P 68 (.fadr 3) [.V 5]]]]) .skip (.exit 2))<|.seq (.block 3<|.seq (.reg [.set 7 (.M 7 (.P 78 .load1 [.P 77 (.iadr 1) [.P 75 .load1 [.P 74 (.fadr 3) [.V 5]],.W 6 76]]))])<|.seq (.ifr [] (.or 84 90 (.P 83 .notB [.P 82 (.call 30) [.W 7 79,.I 0,.P 81 (.binI .sub) [.W 4 80,.I 1]]]) (.P 89 (.binI .neq) [.P 88 .load1 [.P 87 (.iadr 1) [.W 3 85,.W 7 86]],.I 0])) (.seq (.reg [.set 2 (.M 2 (.k (.bool false)))])<|.ret) .skip)<|.dreg [91,92,93,94,95,96,97,98,99,100,101] [⟨ (some 13),.mov,[.t 3],none⟩,⟨ (some 14),.mov,[.t 7],none⟩,⟨ (some 15),.mov,[.t 3],none⟩,⟨ (some 16),.mov,[.t 4],none⟩,⟨ (some 17),.iadr 1,[.t 15,.t 16],none⟩,⟨ (some 18),.load1,[.t 17],none⟩,⟨ (some 19),.loadN 4,[.t 5],none⟩,⟨ (some 20),.mov,[.t 6],none⟩,⟨ (some 21),.call 203,[.t 19,.t 20],none⟩,⟨ (some 22),.binI .add,[.t 18,.t 21],none⟩,⟨ (some 23),.iadr 1,[.t 13,.t 14],none⟩,⟨none,.store 1,[.t 23,.t 22],none⟩] [.op 0,.op 1,.op 2,.op 3,.op 4,.op 5,.op 6,.op 7,.op 8,.chk 5,.op 9,.op 10,.op 11])<|.reg [.set 6 (.M 6 (.P 73 (.binI .add) [.W 6 72,.I 1]))])<|.reg [.set 4 (.M 4 (.P 38 (.binI .sub) [.W 4 37,.I 1]))])<|.seq (.reg [.set 2 (.M 2 (.k (.bool true)))])<|.ret
def s186:SFn:=.src 28 [0,1,2,3] [.tmp 3]<|.seq (.reg [.set 2 (.P 2 (.box 0) [.V 0]),.set 3 (.M 3 (.k (.bool false)))])<|.seq (.dreg [4,5,6,7,8,9,10,11,12,13,14,15,16,17,18,19,20,21,22,23,24,25,26,27] [⟨ (some 4),.fadr 0,[.t 2],none⟩,⟨ (some 5),.load1,[.t 4],none⟩,⟨ (some 6),.binI .eql,[.t 5,.c (.int .i64 2)],none⟩,⟨ (some 7),.mov,[.t 6],none⟩,⟨ (some 8),.fadr 1,[.t 2],(some (7 ,true)) ⟩,⟨ (some 9),.load1,[.t 8],(some (7 ,true)) ⟩,⟨ (some 10),.fadr 0,[.t 1],(some (7 ,true)) ⟩,⟨ (some 11),.load1,[.t 10],(some (7 ,true)) ⟩,⟨ (some 12),.lenL,[.t 11],(some (7 ,true)) ⟩,⟨ (some 13),.binI .geq,[.t 9,.t 12],(some (7 ,true)) ⟩,⟨ (some 14),.mov,[.t 13],(some (7 ,true)) ⟩,⟨ (some 15),.fadr 3,[.t 2],(some (14 ,false)) ⟩,⟨ (some 16),.load1,[.t 15],(some (14 ,false)) ⟩,⟨ (some 17),.lenL,[.t 16],(some (14 ,false)) ⟩,⟨ (some 18),.fadr 0,[.t 1],(some (14 ,false)) ⟩,⟨ (some 19),.load1,[.t 18],(some (14 ,false)) ⟩,⟨ (some 20),.fadr 1,[.t 2],(some (14 ,false)) ⟩,⟨ (some 21),.load1,[.t 20],(some (14 ,false)) ⟩,⟨ (some 22),.iadr 2,[.t 19,.t 21],(some (14 ,false)) ⟩,⟨ (some 23),.fadr 0,[.t 22],(some (14 ,false)) ⟩,⟨ (some 24),.load1,[.t 23],(some (14 ,false)) ⟩,⟨ (some 25),.binI .neq,[.t 17,.t 24],(some (14 ,false)) ⟩,⟨ (some 26),.pick,[.t 14,.c (.bool true),.t 25],(some (7 ,true)) ⟩,⟨ (some 27),.pick,[.t 7,.t 26,.c (.bool false)],none⟩,⟨ (some 3),.mov,[.t 27],none⟩] [.op 0,.op 1,.op 2,.op 3,.op 4,.op 5,.op 6,.op 7,.op 8,.op 9,.op 10,.op 11,.op 12,.op 13,.op 14,.op 15,.op 16,.op 17,.op 18,.op 19,.op 20,.op 21,.op 22,.op 23,.op 24])<|.ret
def s187:SFn:=.src 106 [0,1,2,3,4,5,6,7,8,9,25,27,28,29,35,36,73,74,75,76,77,79] [.tmp 2]<|.seq (.reg [.set 1 (.P 1 (.box 0) [.V 0]),.set 2 (.M 2 (.k (.bool false)))])<|.seq (.reg [.set 3 (.M 3 (.P 13 (.binI .sub) [.P 12 .lenL [.P 11 .load1 [.P 10 (.fadr 1) [.V 1]]],.I 1]))])<|.seq (.ifr [] (.or 18 22 (.P 17 .notB [.P 16 (.call 212) [.P 15 .load1 [.P 14 (.fadr 0) [.V 1]],.I 3]]) (.P 21 .notB [.P 20 (.call 212) [.W 3 19,.I 23]])) (.seq (.reg [.set 2 (.M 2 (.k (.bool false)))])<|.ret) .skip)<|.seq (.reg [.set 10 (.P 25 .lenL [.P 24 .load1 [.P 23 (.fadr 1) [.V 1]]]),.set 4 (.M 4 (.P 26 (.mkslice 0 [.int .i64 0] 8) [.V 10,.V 10]))])<|.seq (.seq (.reg [.set 11 (.M 27 (.V 3)),.set 12 (.M 28 (.I 0))])<|.block 0<|.loop [1,3,4,11,12]<|.seq (.reg [.set 13 (.P 29 (.binI .lss) [.V 12,.V 11])])<|.seq (.cond (.t 13) .skip (.exit 0))<|.seq (.block 1<|.seq (.reg [.set 5 (.M 5 (.W 12 30))])<|.reg [.ef (.op none (.store 1) [.P 33 (.iadr 1) [.W 4 31,.W 5 32],.I (-1)])])<|.reg [.set 12 (.M 28 (.P 34 (.binI .add) [.V 12,.I 1]))])<|.seq (.reg [.set 14 (.M 35 (.V 4)),.set 15 (.M 36 (.V 3)),.ef (.opr none (.store 1) (.P 39 (.iadr 1) [.V 14,.V 15]) (.P 38 .load1 [.P 37 (.fadr 0) [.V 1]]))])<|.seq (.seq (.reg [.set 6 (.M 6 (.W 3 40))])<|.block 2<|.loop [1,4,6]<|.seq (.ifr [] (.P 42 (.binI .geq) [.W 6 41,.I 0]) .skip (.exit 2))<|.seq (.block 3<|.seq (.reg [.set 7 (.M 7 (.P 48 (.iadr 4) [.P 46 .load1 [.P 45 (.fadr 1) [.V 1]],.W 6 47]))])<|.seq (.ifr [] (.or 61 69 (.or 54 60 (.P 53 (.binI .eql) [.P 52 .load1 [.P 51 (.iadr 1) [.W 4 49,.W 6 50]],.I (-1)]) (.P 59 (.binI .gtr) [.P 58 .load1 [.P 57 (.iadr 1) [.W 4 55,.W 6 56]],.I 8])) (.P 68 .notB [.P 67 (.call 213) [.W 7 62,.P 66 .load1 [.P 65 (.iadr 1) [.W 4 63,.W 6 64]]]])) (.seq (.reg [.set 2 (.M 2 (.k (.bool false)))])<|.ret) .skip)<|.seq (.reg [.set 16 (.P 73 .load1 [.P 72 (.fadr 3) [.P 71 .nilCheck [.W 7 70]]]),.set 17 (.P 74 .lenL [.V 16]),.set 18 (.M 75 (.I 0))])<|.block 4<|.loop [1,4,6,7,16,17,18]<|.seq (.reg [.set 19 (.P 76 (.binI .lss) [.V 18,.V 17])])<|.seq (.cond (.t 19) .skip (.exit 4))<|.seq (.block 5<|.seq (.reg [.set 20 (.M 77 (.V 18)),.set 21 (.P 79 .load1 [.P 78 (.iadr 1) [.V 16,.V 18]]),.set 8 (.M 8 (.V 20)),.set 9 (.M 9 (.V 21))])<|.seq (.ifr [] (.or 87 93 (.or 82 86 (.P 81 (.binI .lss) [.W 9 80,.I 0]) (.P 85 (.binI .geq) [.W 9 83,.W 6 84])) (.P 92 (.binI .neq) [.P 91 .load1 [.P 90 (.iadr 1) [.W 4 88,.W 9 89]],.I (-1)])) (.seq (.reg [.set 2 (.M 2 (.k (.bool false)))])<|.ret) .skip)<|.dreg [94,95,96,97,98,99,100,101,102,103,104] [⟨ (some 22),.mov,[.t 4],none⟩,⟨ (some 23),.mov,[.t 9],none⟩,⟨ (some 24),.mov,[.t 4],none⟩,⟨ (some 25),.mov,[.t 6],none⟩,⟨ (some 26),.iadr 1,[.t 24,.t 25],none⟩,⟨ (some 27),.load1,[.t 26],none⟩,⟨ (some 28),.mov,[.t 7],none⟩,⟨ (some 29),.mov,[.t 8],none⟩,⟨ (some 30),.call 214,[.t 28,.t 29],none⟩,⟨ (some 31),.binI .add,[.t 27,.t 30],none⟩,⟨ (some 32),.iadr 1,[.t 22,.t 23],none⟩,⟨none,.store 1,[.t 32,.t 31],none⟩] [.op 0,.op 1,.op 2,.op 3,.op 4,.op 5,.op 6,.op 7,.op 8,.chk 5,.op 9,.op 10,.op 11])<|.reg [.set 18 (.M 75 (.P 105 (.binI .add) [.V 18,.I 1]))])<|.reg [.set 6 (.M 6 (.P 44 (.binI .sub) [.W 6 43,.I 1]))])<|.seq (.reg [.set 2 (.M 2 (.k (.bool true)))])<|.ret
def s188:SFn:=.src 9 [0,1,4] [.tmp 2]<|.seq (.reg [.set 2 (.M 4 (.k (.bool false)))])<|.seq (.reg [.set 2 (.M 4 (.P 8 (.binI .geq) [.P 7 (.call 215) [.W 0 5,.W 1 6],.I 0]))])<|.ret
def s202:SFn:=.src 115 [0,1,2,4,5,6,14] [.tmp 3]<|.seq (.reg [.set 2 (.P 2 (.box 0) [.V 0]),.set 3 (.M 4 (.k (.bool false)))])<|.seq (.reg [.set 4 (.M 5 (.P 9 .lenL [.P 8 .load1 [.P 7 (.fadr 3) [.V 2]]]))])<|.seq (.reg [.set 5 (.M 6 (.P 12 (.binI .eql) [.P 11 .load1 [.P 10 (.fadr 2) [.V 2]],.I 0]))])<|.seq (.seq (.reg [.set 6 (.P 14 .load1 [.P 13 (.fadr 0) [.V 2]])])<|.block 0<|.ifr [] (.M 15 (.P 16 (.binI .eql) [.V 6,.I 0])) (.seq (.reg [.set 3 (.M 4 (.and 22 26 (.and 18 21 (.W 5 17) (.P 20 (.binI .eql) [.W 4 19,.I 0])) (.P 25 (.call 41) [.P 24 .load1 [.P 23 (.fadr 1) [.V 2]]])))])<|.ret) (.ifr [] (.M 27 (.P 28 (.binI .eql) [.V 6,.I 1])) (.seq (.reg [.set 3 (.M 4 (.and 34 40 (.and 30 33 (.W 5 29) (.P 32 (.binI .eql) [.W 4 31,.I 0])) (.P 39 (.call 30) [.P 36 .load1 [.P 35 (.fadr 1) [.V 2]],.I 0,.P 38 (.binI .sub) [.W 1 37,.I 1]])))])<|.ret) (.ifr [] (.M 41 (.P 42 (.binI .eql) [.V 6,.I 2])) (.seq (.reg [.set 3 (.M 4 (.and 48 52 (.and 44 47 (.W 5 43) (.P 46 (.binI .leq) [.W 4 45,.I 3])) (.P 51 (.call 30) [.P 50 .load1 [.P 49 (.fadr 1) [.V 2]],.I 0,.I 7])))])<|.ret) (.ifr [] (.M 53 (.P 54 (.binI .eql) [.V 6,.I 3])) (.seq (.reg [.set 3 (.M 4 (.and 60 64 (.and 56 59 (.W 5 55) (.P 58 (.binI .leq) [.W 4 57,.I 3])) (.P 63 (.call 30) [.P 62 .load1 [.P 61 (.fadr 1) [.V 2]],.I 0,.I 99])))])<|.ret) (.ifr [] (.M 65 (.P 66 (.binI .eql) [.V 6,.I 4])) (.seq (.reg [.set 3 (.M 4 (.and 72 76 (.and 68 71 (.W 5 67) (.P 70 (.binI .eql) [.W 4 69,.I 2])) (.P 75 (.call 30) [.P 74 .load1 [.P 73 (.fadr 1) [.V 2]],.I 0,.I 4])))])<|.ret) (.ifr [] (.M 77 (.P 78 (.binI .eql) [.V 6,.I 5])) (.seq (.reg [.set 3 (.M 4 (.and 86 90 (.and 81 85 (.P 80 (.binI .eql) [.W 4 79,.I 3]) (.P 84 (.call 30) [.P 83 .load1 [.P 82 (.fadr 1) [.V 2]],.I 0,.I 99])) (.P 89 (.call 30) [.P 88 .load1 [.P 87 (.fadr 2) [.V 2]],.I 0,.I 3])))])<|.ret) (.ifr [] (.M 91 (.P 92 (.binI .eql) [.V 6,.I 6])) (.seq (.reg [.set 3 (.M 4 (.and 98 102 (.and 94 97 (.W 5 93) (.P 96 (.binI .eql) [.W 4 95,.I 2])) (.P 101 (.binI .eql) [.P 100 .load1 [.P 99 (.fadr 1) [.V 2]],.I 0])))])<|.ret) (.ifr [] (.M 103 (.P 104 (.binI .eql) [.V 6,.I 7])) (.seq (.reg [.set 3 (.M 4 (.and 110 114 (.and 106 109 (.W 5 105) (.P 108 (.binI .eql) [.W 4 107,.I 0])) (.P 113 (.binI .eql) [.P 112 .load1 [.P 111 (.fadr 1) [.V 2]],.I 0])))])<|.ret) .skip))))))))<|.seq (.reg [.set 3 (.M 4 (.k (.bool false)))])<|.ret
def s203:SFn:=.src 21 [0,1,2,4] [.tmp 3]<|.seq (.reg [.set 2 (.P 2 (.box 0) [.V 0]),.set 3 (.M 4 (.I 0))])<|.seq (.ifr [] (.and 7 11 (.P 6 (.binI .eql) [.W 1 5,.I 1]) (.P 10 (.binI .eql) [.P 9 .load1 [.P 8 (.fadr 0) [.V 2]],.I 5])) (.seq (.reg [.set 3 (.M 4 (.P 13 .load1 [.P 12 (.fadr 2) [.V 2]]))])<|.ret) .skip)<|.seq (.ifr [] (.and 16 20 (.P 15 (.binI .eql) [.W 1 14,.I 1]) (.P 19 (.binI .eql) [.P 18 .load1 [.P 17 (.fadr 0) [.V 2]],.I 6])) (.seq (.reg [.set 3 (.M 4 (.I 1))])<|.ret) .skip)<|.seq (.reg [.set 3 (.M 4 (.I 0))])<|.ret
def s212:SFn:=.src 12 [0,1,4] [.tmp 2]<|.seq (.reg [.set 2 (.M 4 (.k (.bool false)))])<|.seq (.reg [.set 2 (.M 4 (.and 7 11 (.P 6 (.binI .geq) [.W 0 5,.I 0]) (.P 10 (.binI .leq) [.W 0 8,.W 1 9])))])<|.ret
def s213:SFn:=.src 99 [0,1,4,8] [.tmp 2]<|.seq (.reg [.set 2 (.M 4 (.k (.bool false)))])<|.seq (.seq (.reg [.set 3 (.P 8 .load1 [.P 7 (.fadr 0) [.P 6 .nilCheck [.W 0 5]]])])<|.block 0<|.ifr [] (.M 9 (.P 10 (.binI .eql) [.V 3,.I 0])) (.seq (.reg [.set 2 (.M 4 (.and 16 19 (.P 15 (.call 28) [.P 14 .load1 [.P 13 (.fadr 1) [.P 12 .nilCheck [.W 0 11]]]]) (.P 18 (.call 229) [.W 0 17,.I 0,.I 0,.I 0])))])<|.ret) (.ifr [] (.M 20 (.P 21 (.binI .eql) [.V 3,.I 1])) (.seq (.reg [.set 2 (.M 4 (.and 29 32 (.P 28 (.call 212) [.P 25 .load1 [.P 24 (.fadr 1) [.P 23 .nilCheck [.W 0 22]]],.P 27 (.binI .sub) [.W 1 26,.I 1]]) (.P 31 (.call 229) [.W 0 30,.I 0,.I 0,.I 0])))])<|.ret) (.ifr [] (.M 33 (.P 34 (.binI .eql) [.V 3,.I 2])) (.seq (.reg [.set 2 (.M 4 (.and 40 43 (.P 39 (.call 212) [.P 38 .load1 [.P 37 (.fadr 1) [.P 36 .nilCheck [.W 0 35]]],.I 7]) (.P 42 (.call 229) [.W 0 41,.I 0,.I 0,.I 3])))])<|.ret) (.ifr [] (.M 44 (.P 45 (.binI .eql) [.V 3,.I 3])) (.seq (.reg [.set 2 (.M 4 (.and 51 54 (.P 50 (.call 212) [.P 49 .load1 [.P 48 (.fadr 1) [.P 47 .nilCheck [.W 0 46]]],.I 99]) (.P 53 (.call 229) [.W 0 52,.I 0,.I 0,.I 3])))])<|.ret) (.ifr [] (.M 55 (.P 56 (.binI .eql) [.V 3,.I 4])) (.seq (.reg [.set 2 (.M 4 (.and 62 65 (.P 61 (.call 212) [.P 60 .load1 [.P 59 (.fadr 1) [.P 58 .nilCheck [.W 0 57]]],.I 4]) (.P 64 (.call 229) [.W 0 63,.I 0,.I 2,.I 2])))])<|.ret) (.ifr [] (.M 66 (.P 67 (.binI .eql) [.V 3,.I 5])) (.seq (.reg [.set 2 (.M 4 (.and 73 76 (.P 72 (.call 212) [.P 71 .load1 [.P 70 (.fadr 1) [.P 69 .nilCheck [.W 0 68]]],.I 99]) (.P 75 (.call 229) [.W 0 74,.I 3,.I 3,.I 3])))])<|.ret) (.ifr [] (.M 77 (.P 78 (.binI .eql) [.V 3,.I 6])) (.seq (.reg [.set 2 (.M 4 (.and 84 87 (.P 83 (.binI .eql) [.P 82 .load1 [.P 81 (.fadr 1) [.P 80 .nilCheck [.W 0 79]]],.I 0]) (.P 86 (.call 229) [.W 0 85,.I 0,.I 2,.I 2])))])<|.ret) (.ifr [] (.M 88 (.P 89 (.binI .eql) [.V 3,.I 7])) (.seq (.reg [.set 2 (.M 4 (.and 95 98 (.P 94 (.binI .eql) [.P 93 .load1 [.P 92 (.fadr 1) [.P 91 .nilCheck [.W 0 90]]],.I 0]) (.P 97 (.call 229) [.W 0 96,.I 0,.I 0,.I 0])))])<|.ret) .skip))))))))<|.seq (.reg [.set 2 (.M 4 (.k (.bool false)))])<|.ret
def s214:SFn:=.src 24 [0,1,4] [.tmp 2]<|.seq (.reg [.set 2 (.M 4 (.I 0))])<|.seq (.block 0<|.ifr [] (.M 5 (.P 7 (.binI .neq) [.W 1 6,.I 1])) (.seq (.reg [.set 2 (.M 4 (.I 0))])<|.ret) (.ifr [] (.M 8 (.P 13 (.binI .eql) [.P 12 .load1 [.P 11 (.fadr 0) [.P 10 .nilCheck [.W 0 9]]],.I 5])) (.seq (.reg [.set 2 (.M 4 (.P 17 .load1 [.P 16 (.fadr 2) [.P 15 .nilCheck [.W 0 14]]]))])<|.ret) (.ifr [] (.M 18 (.P 23 (.binI .eql) [.P 22 .load1 [.P 21 (.fadr 0) [.P 20 .nilCheck [.W 0 19]]],.I 6])) (.seq (.reg [.set 2 (.M 4 (.I 1))])<|.ret) .skip)))<|.seq (.reg [.set 2 (.M 4 (.I 0))])<|.ret
def s215:SFn:=.src 19 [0,1,4,5,7,8,9] [.tmp 2]<|.seq (.reg [.set 2 (.M 4 (.I 0))])<|.seq (.seq (.reg [.set 4 (.P 7 .lenL [.W 0 6]),.set 5 (.M 8 (.I 0))])<|.block 0<|.loop [0,1,4,5]<|.seq (.reg [.set 6 (.P 9 (.binI .lss) [.V 5,.V 4])])<|.seq (.cond (.t 6) .skip (.exit 0))<|.seq (.block 1<|.seq (.reg [.set 3 (.M 5 (.W 5 10))])<|.ifr [] (.P 16 .callv [.W 1 11,.P 15 (.loadN 4) [.P 14 (.iadr 4) [.W 0 12,.W 3 13]]]) (.seq (.reg [.set 2 (.M 4 (.W 3 17))])<|.ret) .skip)<|.reg [.set 5 (.M 8 (.P 18 (.binI .add) [.V 5,.I 1]))])<|.seq (.reg [.set 2 (.M 4 (.I (-1)))])<|.ret
def s229:SFn:=.src 40 [0,1,2,3,8] [.tmp 4]<|.seq (.reg [.set 4 (.M 8 (.k (.bool false)))])<|.seq (.reg [.set 4 (.M 8 (.and 31 39 (.and 22 30 (.and 14 21 (.P 13 (.binI .geq) [.P 12 .load1 [.P 11 (.fadr 2) [.P 10 .nilCheck [.W 0 9]]],.I 0]) (.P 20 (.binI .leq) [.P 18 .load1 [.P 17 (.fadr 2) [.P 16 .nilCheck [.W 0 15]]],.W 1 19])) (.P 29 (.binI .geq) [.P 27 .lenL [.P 26 .load1 [.P 25 (.fadr 3) [.P 24 .nilCheck [.W 0 23]]]],.W 2 28])) (.P 38 (.binI .leq) [.P 36 .lenL [.P 35 .load1 [.P 34 (.fadr 3) [.P 33 .nilCheck [.W 0 32]]]],.W 3 37])))])<|.ret
end Am.T
end
section
namespace Am.F
open Go Am
noncomputable section
variable {β:Type} (I:FI) (N:Nat) (call:zc β) (a:List AV) (h:H) (k:K β)
def f149_J2{β:Type}(k:K β)(x0 x1 x2 x3 x4 x5 x6 x7:AV)(h:H):Option β :=
 k (.bool true) h
def f149_J5{β:Type}(l3:Cur β 8)(x0 x1 x2 x3 x4 x5 x6 x7:AV)(h:H):Option β :=
 qAdd x3 (.int .i64 1)<|.mk λv6=>
 l3 x0 x1 x2 v6 x4 x5 x6 x7 h
def f149_J10{β:Type}(l8:Cur β 8)(x0 x1 x2 x3 x4 x5 x6 x7:AV)(h:H):Option β :=
 qAdd x4 (.int .i64 1)<|.mk λv11=>
 l8 x0 x1 x2 x3 v11 x5 x6 x7 h
def f149_J9{β:Type}(k:K β)(l8:Cur β 8)(x0 x1 x2 x3 x4 x5 x6 x7:AV)(h:H):Option β :=
 zt 8 (.mk (
 f149_J10 l8))<|.mk λj10=>
 ze 0 x1<|.mk λv12=>
 za v12 h<|.mk λv13=>
 zN 2 v13 x3<|.mk λv14=>
 ze 1 v14<|.mk λv15=>
 za v15 h<|.mk λv16=>
 zN 4 v16 x4<|.mk λv17=>
 zax 4 v17 h<|.mk λv18=>
 zb6 0 [(.int .i64 0),(.int .i64 0),(.int .i64 0),.nils] h<|.mk λv19 h=>
 zaJ 4 v19 v18 h<|.mk λh=>
 ze 0 v19<|.mk λv20=>
 za v20 h<|.mk λv21=>
 qEql v21 (.int .i64 2)<|.mk λv22=>
 qGrd v22 true h (.mk λh k=>
 ze 1 v19<|.mk λv23=>
 k v23 h)<|.mk λv24 h=>
 qGrd v22 true h (.mk λh k=>
 za v24 h<|.mk λv25=>
 k v25 h)<|.mk λv26 h=>
 qGrd v22 true h (.mk λh k=>
 ze 0 x1<|.mk λv27=>
 k v27 h)<|.mk λv28 h=>
 qGrd v22 true h (.mk λh k=>
 za v28 h<|.mk λv29=>
 k v29 h)<|.mk λv30 h=>
 qGrd v22 true h (.mk λh k=>
 qLenL v30<|.mk λv31=>
 k v31 h)<|.mk λv32 h=>
 qGrd v22 true h (.mk λh k=>
 qGeq v26 v32<|.mk λv33=>
 k v33 h)<|.mk λv34 h=>
 qGrd v22 true h (.mk λh k=>
 k v34 h)<|.mk λv35 h=>
 qGrd v35 false h (.mk λh k=>
 ze 3 v19<|.mk λv36=>
 k v36 h)<|.mk λv37 h=>
 qGrd v35 false h (.mk λh k=>
 za v37 h<|.mk λv38=>
 k v38 h)<|.mk λv39 h=>
 qGrd v35 false h (.mk λh k=>
 qLenL v39<|.mk λv40=>
 k v40 h)<|.mk λv41 h=>
 qGrd v35 false h (.mk λh k=>
 ze 0 x1<|.mk λv42=>
 k v42 h)<|.mk λv43 h=>
 qGrd v35 false h (.mk λh k=>
 za v43 h<|.mk λv44=>
 k v44 h)<|.mk λv45 h=>
 qGrd v35 false h (.mk λh k=>
 ze 1 v19<|.mk λv46=>
 k v46 h)<|.mk λv47 h=>
 qGrd v35 false h (.mk λh k=>
 za v47 h<|.mk λv48=>
 k v48 h)<|.mk λv49 h=>
 qGrd v35 false h (.mk λh k=>
 zN 2 v45 v49<|.mk λv50=>
 k v50 h)<|.mk λv51 h=>
 qGrd v35 false h (.mk λh k=>
 ze 0 v51<|.mk λv52=>
 k v52 h)<|.mk λv53 h=>
 qGrd v35 false h (.mk λh k=>
 za v53 h<|.mk λv54=>
 k v54 h)<|.mk λv55 h=>
 qGrd v35 false h (.mk λh k=>
 qNeq v41 v55<|.mk λv56=>
 k v56 h)<|.mk λv57 h=>
 qGrd v22 true h (.mk λh k=>
 zeA v35 (.bool true) v57<|.mk λv58=>
 k v58 h)<|.mk λv59 h=>
 zeA v22 v59 (.bool false)<|.mk λv60=>
 qIf v60 (.mk (
 k (.bool false) h))<|.mk (
 j10 x0 x1 x2 x3 x4 v19 v18 v60 h)
def f149_L8{β:Type}(k:K β)(j5:Cur β 8)(l8:Cur β 8)(x0 x1 x2 x3 x4 x5 x6 x7:AV)(h:H):Option β :=
 zt 8 (.mk (
 f149_J9 k l8))<|.mk λj9=>
 ze 0 x1<|.mk λv61=>
 za v61 h<|.mk λv62=>
 zN 2 v62 x3<|.mk λv63=>
 ze 1 v63<|.mk λv64=>
 za v64 h<|.mk λv65=>
 qLenL v65<|.mk λv66=>
 qLss x4 v66<|.mk λv67=>
 qIf v67 (.mk (
 j9 .any x1 .any x3 x4 .any .any .any h))<|.mk (
 j5 .any x1 .any x3 x4 .any .any .any h)
def f149_J7{β:Type}(N:Nat)(k:K β)(j5:Cur β 8)(x0 x1 x2 x3 x4 x5 x6 x7:AV)(h:H):Option β :=
 (zcy 8 N<|.mk (
 f149_L8 k j5)) x0 x1 x2 x3 (.int .i64 0) x5 x6 x7 h
def f149_J4{β:Type}(N:Nat)(call:zc β)(k:K β)(l3:Cur β 8)(x0 x1 x2 x3 x4 x5 x6 x7:AV)(h:H):Option β :=
 zt 8 (.mk (
 f149_J5 l3))<|.mk λj5=>
 zt 8 (.mk (
 f149_J7 N k j5))<|.mk λj7=>
 ze 0 x1<|.mk λv68=>
 za v68 h<|.mk λv69=>
 zN 2 v69 x3<|.mk λv70=>
 zax 2 v70 h<|.mk λv71=>
 zp call (.fn 179 []) [v71] h<|.mk λv72 h=>
 qNot v72<|.mk λv73=>
 qIf v73 (.mk (
 k (.bool false) h))<|.mk (
 j7 x0 x1 x2 x3 x4 x5 x6 x7 h)
def f149_L3{β:Type}(N:Nat)(call:zc β)(k:K β)(j2:Cur β 8)(l3:Cur β 8)(x0 x1 x2 x3 x4 x5 x6 x7:AV)(h:H):Option β :=
 zt 8 (.mk (
 f149_J4 N call k l3))<|.mk λj4=>
 ze 0 x1<|.mk λv74=>
 za v74 h<|.mk λv75=>
 qLenL v75<|.mk λv76=>
 qLss x3 v76<|.mk λv77=>
 qIf v77 (.mk (
 j4 .any x1 .any x3 .any .any .any .any h))<|.mk (
 j2 .any x1 .any x3 .any .any .any .any h)
def f149_J1{β:Type}(N:Nat)(call:zc β)(k:K β)(x0 x1 x2 x3 x4 x5 x6 x7:AV)(h:H):Option β :=
 zt 8 (.mk (
 f149_J2 k))<|.mk λj2=>
 (zcy 8 N<|.mk (
 f149_L3 N call k j2)) x0 x1 x2 (.int .i64 0) x4 x5 x6 x7 h
def f149{β:Type}(N:Nat)(call:zc β)(a:List AV)(h:H)(k:K β):Option β :=
 qBox 0 (nth a 0) h<|.mk λv0 h=>
 zt 8 (.mk (
 f149_J1 N call k))<|.mk λj1=>
 ze 0 v0<|.mk λv78=>
 za v78 h<|.mk λv79=>
 qLenL v79<|.mk λv80=>
 zp call (.fn 30 []) [v80,(.int .i64 1),(.int .i64 8)] h<|.mk λv81 h=>
 qNot v81<|.mk λv82=>
 qOr v82 h (.mk λh k=>
 ze 0 v0<|.mk λv83=>
 za v83 h<|.mk λv84=>
 zN 2 v84 (.int .i64 0)<|.mk λv85=>
 ze 0 v85<|.mk λv86=>
 za v86 h<|.mk λv87=>
 qNeq v87 (.int .i64 0)<|.mk λv88=>
 k v88 h)<|.mk λv89 h=>
 qIf v89 (.mk (
 k (.bool false) h))<|.mk (
 j1 (nth a 0) v0 (.bool false) (nth a 3) (nth a 4) (nth a 5) (nth a 52) (nth a 76) h)
theorem y149:z8 I 149 T.s149 N call a h k=f149 N call a h k:=by kernel_rfl
def f157_J2{β:Type}(k:K β)(x0 x1 x2 x3 x4 x5 x6 x7 x8 x9:AV)(h:H):Option β :=
 k (.bool true) h
def f157_J9{β:Type}(l6:Cur β 10)(x0 x1 x2 x3 x4 x5 x6 x7 x8 x9:AV)(h:H):Option β :=
 qAdd x7 (.int .i64 1)<|.mk λv10=>
 l6 x0 x1 x2 x3 x4 x5 x6 v10 x8 x9 h
def f157_J8{β:Type}(call:zc β)(k:K β)(l6:Cur β 10)(x0 x1 x2 x3 x4 x5 x6 x7 x8 x9:AV)(h:H):Option β :=
 zt 10 (.mk (
 f157_J9 l6))<|.mk λj9=>
 zN 2 x5 x7<|.mk λv11=>
 zax 2 v11 h<|.mk λv12=>
 zb6 0 [(.int .i64 0),.nils] h<|.mk λv13 h=>
 zaJ 2 v13 v12 h<|.mk λh=>
 zax 2 v13 h<|.mk λv14=>
 zp call (.fn 187 []) [v14] h<|.mk λv15 h=>
 qNot v15<|.mk λv16=>
 qOr v16 h (.mk λh k=>
 ze 1 v13<|.mk λv17=>
 za v17 h<|.mk λv18=>
 zp call (.fn 188 []) [v18,x3] h<|.mk λv19 h=>
 k v19 h)<|.mk λv20 h=>
 qIf v20 (.mk (
 k (.bool false) h))<|.mk (
 j9 x0 x1 x2 x3 v13 x5 x6 x7 x8 v12 h)
def f157_L6{β:Type}(call:zc β)(k:K β)(j2:Cur β 10)(l6:Cur β 10)(x0 x1 x2 x3 x4 x5 x6 x7 x8 x9:AV)(h:H):Option β :=
 qLss x7 x6<|.mk λv7=>
 zt 10 (.mk (
 f157_J8 call k l6))<|.mk λj8=>
 qIf v7 (.mk (
 j8 .any .any .any x3 .any x5 x6 x7 v7 .any h))<|.mk (
 j2 .any .any .any x3 .any x5 x6 x7 v7 .any h)
def f157_J1{β:Type}(N:Nat)(call:zc β)(k:K β)(x0 x1 x2 x3 x4 x5 x6 x7 x8 x9:AV)(h:H):Option β :=
 zt 10 (.mk (
 f157_J2 k))<|.mk λj2=>
 ze 0 x1<|.mk λv3=>
 za v3 h<|.mk λv4=>
 qLenL v4<|.mk λv5=>
 (zcy 10 N<|.mk (
 f157_L6 call k j2)) x0 x1 x2 (.fn 186 [x1]) x4 v4 v5 (.int .i64 0) x8 x9 h
def f157{β:Type}(N:Nat)(call:zc β)(a:List AV)(h:H)(k:K β):Option β :=
 qBox 0 (nth a 0) h<|.mk λv0 h=>
 zt 10 (.mk (
 f157_J1 N call k))<|.mk λj1=>
 ze 0 v0<|.mk λv21=>
 za v21 h<|.mk λv22=>
 qLenL v22<|.mk λv23=>
 qEql v23 (.int .i64 0)<|.mk λv24=>
 qOr v24 h (.mk λh k=>
 ze 0 v0<|.mk λv25=>
 za v25 h<|.mk λv26=>
 qLenL v26<|.mk λv27=>
 qGtr v27 (.int .i64 8)<|.mk λv28=>
 k v28 h)<|.mk λv29 h=>
 qOr v29 h (.mk λh k=>
 ze 0 v0<|.mk λv30=>
 za v30 h<|.mk λv31=>
 zN 2 v31 (.int .i64 0)<|.mk λv32=>
 ze 0 v32<|.mk λv33=>
 za v33 h<|.mk λv34=>
 qNeq v34 (.int .i64 0)<|.mk λv35=>
 k v35 h)<|.mk λv36 h=>
 qIf v36 (.mk (
 k (.bool false) h))<|.mk (
 j1 (nth a 0) v0 (.bool false) (nth a 3) (nth a 5) (nth a 26) (nth a 27) (nth a 28) (nth a 29) (nth a 31) h)
theorem y157:z8 I 157 T.s157 N call a h k=f157 N call a h k:=by kernel_rfl
def f179_J12{β:Type}(k:K β)(x0 x1 x2 x3 x4 x5 x6 x7 x8 x9 x10 x11 x12:AV)(h:H):Option β :=
 k (.bool true) h
def f179_J19{β:Type}(l17:Cur β 13)(x0 x1 x2 x3 x4 x5 x6 x7 x8 x9 x10 x11 x12:AV)(h:H):Option β :=
 qSub x4 (.int .i64 1)<|.mk λv20=>
 l17 x0 x1 x2 x3 v20 x5 x6 x7 x8 x9 x10 x11 x12 h
def f179_J29{β:Type}(l27:Cur β 13)(x0 x1 x2 x3 x4 x5 x6 x7 x8 x9 x10 x11 x12:AV)(h:H):Option β :=
 qAdd x6 (.int .i64 1)<|.mk λv30=>
 l27 x0 x1 x2 x3 x4 x5 v30 x7 x8 x9 x10 x11 x12 h
def f179_J35{β:Type}(call:zc β)(j29:Cur β 13)(x0 x1 x2 x3 x4 x5 x6 x7 x8 x9 x10 x11 x12:AV)(h:H):Option β :=
 zN 1 x3 x4<|.mk λv36=>
 za v36 h<|.mk λv37=>
 zax 4 x5 h<|.mk λv38=>
 zp call (.fn 203 []) [v38,x6] h<|.mk λv39 h=>
 za v36 h<|.mk λv40=>
 qChk v40 v37<|.mk (
 qAdd v37 v39<|.mk λv41=>
 zN 1 x3 x7<|.mk λv42=>
 zaJ 1 v42 v41 h<|.mk λh=>
 j29 x0 x1 x2 x3 x4 x5 x6 x7 x8 x9 x10 x11 x12 h)
def f179_J28{β:Type}(call:zc β)(k:K β)(l27:Cur β 13)(x0 x1 x2 x3 x4 x5 x6 x7 x8 x9 x10 x11 x12:AV)(h:H):Option β :=
 zt 13 (.mk (
 f179_J29 l27))<|.mk λj29=>
 ze 3 x5<|.mk λv31=>
 za v31 h<|.mk λv32=>
 zN 1 v32 x6<|.mk λv33=>
 za v33 h<|.mk λv34=>
 zt 13 (.mk (
 f179_J35 call j29))<|.mk λj35=>
 qSub x4 (.int .i64 1)<|.mk λv43=>
 zp call (.fn 30 []) [v34,(.int .i64 0),v43] h<|.mk λv44 h=>
 qNot v44<|.mk λv45=>
 qOr v45 h (.mk λh k=>
 zN 1 x3 v34<|.mk λv46=>
 za v46 h<|.mk λv47=>
 qNeq v47 (.int .i64 0)<|.mk λv48=>
 k v48 h)<|.mk λv49 h=>
 qIf v49 (.mk (
 k (.bool false) h))<|.mk (
 j35 x0 x1 x2 x3 x4 x5 x6 v34 x8 x9 x10 x11 x12 h)
def f179_L27{β:Type}(call:zc β)(k:K β)(j19:Cur β 13)(l27:Cur β 13)(x0 x1 x2 x3 x4 x5 x6 x7 x8 x9 x10 x11 x12:AV)(h:H):Option β :=
 zt 13 (.mk (
 f179_J28 call k l27))<|.mk λj28=>
 ze 3 x5<|.mk λv50=>
 za v50 h<|.mk λv51=>
 qLenL v51<|.mk λv52=>
 qLss x6 v52<|.mk λv53=>
 qIf v53 (.mk (
 j28 .any x1 .any x3 x4 x5 x6 .any .any .any .any .any .any h))<|.mk (
 j19 .any x1 .any x3 x4 x5 x6 .any .any .any .any .any .any h)
def f179_J26{β:Type}(N:Nat)(call:zc β)(k:K β)(j19:Cur β 13)(x0 x1 x2 x3 x4 x5 x6 x7 x8 x9 x10 x11 x12:AV)(h:H):Option β :=
 (zcy 13 N<|.mk (
 f179_L27 call k j19)) x0 x1 x2 x3 x4 x5 (.int .i64 0) x7 x8 x9 x10 x11 x12 h
def f179_J18{β:Type}(N:Nat)(call:zc β)(k:K β)(l17:Cur β 13)(x0 x1 x2 x3 x4 x5 x6 x7 x8 x9 x10 x11 x12:AV)(h:H):Option β :=
 zt 13 (.mk (
 f179_J19 l17))<|.mk λj19=>
 ze 1 x1<|.mk λv21=>
 za v21 h<|.mk λv22=>
 zN 4 v22 x4<|.mk λv23=>
 zax 4 v23 h<|.mk λv24=>
 zb6 0 [(.int .i64 0),(.int .i64 0),(.int .i64 0),.nils] h<|.mk λv25 h=>
 zaJ 4 v25 v24 h<|.mk λh=>
 zt 13 (.mk (
 f179_J26 N call k j19))<|.mk λj26=>
 zN 1 x3 x4<|.mk λv54=>
 za v54 h<|.mk λv55=>
 qEql v55 (.int .i64 0)<|.mk λv56=>
 qGrd v56 false h (.mk λh k=>
 k x3 h)<|.mk λv57 h=>
 qGrd v56 false h (.mk λh k=>
 k x4 h)<|.mk λv58 h=>
 qGrd v56 false h (.mk λh k=>
 zN 1 v57 v58<|.mk λv59=>
 k v59 h)<|.mk λv60 h=>
 qGrd v56 false h (.mk λh k=>
 za v60 h<|.mk λv61=>
 k v61 h)<|.mk λv62 h=>
 qGrd v56 false h (.mk λh k=>
 qSub v62 (.int .i64 1)<|.mk λv63=>
 k v63 h)<|.mk λv64 h=>
 qGrd v56 false h (.mk λh k=>
 qGtr v64 (.int .i64 8)<|.mk λv65=>
 k v65 h)<|.mk λv66 h=>
 zeA v56 (.bool true) v66<|.mk λv67=>
 qGrd v67 false h (.mk λh k=>
 zax 4 v25 h<|.mk λv68=>
 k v68 h)<|.mk λv69 h=>
 qGrd v67 false h (.mk λh k=>
 k x3 h)<|.mk λv70 h=>
 qGrd v67 false h (.mk λh k=>
 k x4 h)<|.mk λv71 h=>
 qGrd v67 false h (.mk λh k=>
 zN 1 v70 v71<|.mk λv72=>
 k v72 h)<|.mk λv73 h=>
 qGrd v67 false h (.mk λh k=>
 za v73 h<|.mk λv74=>
 k v74 h)<|.mk λv75 h=>
 qGrd v67 false h (.mk λh k=>
 qSub v75 (.int .i64 1)<|.mk λv76=>
 k v76 h)<|.mk λv77 h=>
 qGrd v67 false h (.mk λh k=>
 zp call (.fn 202 []) [v69,v77] h<|.mk λv78 h=>
 k v78 h)<|.mk λv79 h=>
 qGrd v67 false h (.mk λh k=>
 qNot v79<|.mk λv80=>
 k v80 h)<|.mk λv81 h=>
 zeA v67 (.bool true) v81<|.mk λv82=>
 qIf v82 (.mk (
 k (.bool false) h))<|.mk (
 j26 x0 x1 x2 x3 x4 v25 x6 x7 x8 x9 x10 v24 v82 h)
def f179_L17{β:Type}(N:Nat)(call:zc β)(k:K β)(j12:Cur β 13)(l17:Cur β 13)(x0 x1 x2 x3 x4 x5 x6 x7 x8 x9 x10 x11 x12:AV)(h:H):Option β :=
 zt 13 (.mk (
 f179_J18 N call k l17))<|.mk λj18=>
 qGeq x4 (.int .i64 0)<|.mk λv83=>
 qIf v83 (.mk (
 j18 .any x1 .any x3 x4 .any .any .any .any .any .any .any .any h))<|.mk (
 j12 .any x1 .any x3 x4 .any .any .any .any .any .any .any .any h)
def f179_J1{β:Type}(N:Nat)(call:zc β)(k:K β)(x0 x1 x2 x3 x4 x5 x6 x7 x8 x9 x10 x11 x12:AV)(h:H):Option β :=
 ze 1 x1<|.mk λv2=>
 za v2 h<|.mk λv3=>
 qLenL v3<|.mk λv4=>
 zff 0 [(.int .i64 0)] 8 v4 v4 h<|.mk λv5 h=>
 qLenL v5<|.mk λv6=>
 qSub v6 (.int .i64 1)<|.mk λv7=>
 ze 0 x1<|.mk λv8=>
 za v8 h<|.mk λv9=>
 qAdd v9 (.int .i64 1)<|.mk λv10=>
 zN 1 v5 v7<|.mk λv11=>
 zaJ 1 v11 v10 h<|.mk λh=>
 zt 13 (.mk (
 f179_J12 k))<|.mk λj12=>
 ze 1 x1<|.mk λv13=>
 za v13 h<|.mk λv14=>
 qLenL v14<|.mk λv15=>
 qSub v15 (.int .i64 1)<|.mk λv16=>
 (zcy 13 N<|.mk (
 f179_L17 N call k j12)) x0 x1 x2 v5 v16 x5 x6 x7 v4 v5 v7 x11 x12 h
def f179{β:Type}(N:Nat)(call:zc β)(a:List AV)(h:H)(k:K β):Option β :=
 qBox 0 (nth a 0) h<|.mk λv0 h=>
 zt 13 (.mk (
 f179_J1 N call k))<|.mk λj1=>
 ze 0 v0<|.mk λv84=>
 za v84 h<|.mk λv85=>
 zp call (.fn 30 []) [v85,(.int .i64 0),(.int .i64 3)] h<|.mk λv86 h=>
 qNot v86<|.mk λv87=>
 qOr v87 h (.mk λh k=>
 ze 1 v0<|.mk λv88=>
 za v88 h<|.mk λv89=>
 qLenL v89<|.mk λv90=>
 zp call (.fn 30 []) [v90,(.int .i64 1),(.int .i64 24)] h<|.mk λv91 h=>
 qNot v91<|.mk λv92=>
 k v92 h)<|.mk λv93 h=>
 qIf v93 (.mk (
 k (.bool false) h))<|.mk (
 j1 (nth a 0) v0 (.bool false) (nth a 3) (nth a 4) (nth a 5) (nth a 6) (nth a 7) (nth a 21) (nth a 23) (nth a 26) (nth a 43) (nth a 66) h)
theorem y179:z8 I 179 T.s179 N call a h k=f179 N call a h k:=by kernel_rfl
def f186{β:Type}(N:Nat)(call:zc β)(a:List AV)(h:H)(k:K β):Option β :=
 qBox 0 (nth a 0) h<|.mk λv0 h=>
 ze 0 v0<|.mk λv1=>
 za v1 h<|.mk λv2=>
 qEql v2 (.int .i64 2)<|.mk λv3=>
 qGrd v3 true h (.mk λh k=>
 ze 1 v0<|.mk λv4=>
 k v4 h)<|.mk λv5 h=>
 qGrd v3 true h (.mk λh k=>
 za v5 h<|.mk λv6=>
 k v6 h)<|.mk λv7 h=>
 qGrd v3 true h (.mk λh k=>
 ze 0 (nth a 1)<|.mk λv8=>
 k v8 h)<|.mk λv9 h=>
 qGrd v3 true h (.mk λh k=>
 za v9 h<|.mk λv10=>
 k v10 h)<|.mk λv11 h=>
 qGrd v3 true h (.mk λh k=>
 qLenL v11<|.mk λv12=>
 k v12 h)<|.mk λv13 h=>
 qGrd v3 true h (.mk λh k=>
 qGeq v7 v13<|.mk λv14=>
 k v14 h)<|.mk λv15 h=>
 qGrd v3 true h (.mk λh k=>
 k v15 h)<|.mk λv16 h=>
 qGrd v16 false h (.mk λh k=>
 ze 3 v0<|.mk λv17=>
 k v17 h)<|.mk λv18 h=>
 qGrd v16 false h (.mk λh k=>
 za v18 h<|.mk λv19=>
 k v19 h)<|.mk λv20 h=>
 qGrd v16 false h (.mk λh k=>
 qLenL v20<|.mk λv21=>
 k v21 h)<|.mk λv22 h=>
 qGrd v16 false h (.mk λh k=>
 ze 0 (nth a 1)<|.mk λv23=>
 k v23 h)<|.mk λv24 h=>
 qGrd v16 false h (.mk λh k=>
 za v24 h<|.mk λv25=>
 k v25 h)<|.mk λv26 h=>
 qGrd v16 false h (.mk λh k=>
 ze 1 v0<|.mk λv27=>
 k v27 h)<|.mk λv28 h=>
 qGrd v16 false h (.mk λh k=>
 za v28 h<|.mk λv29=>
 k v29 h)<|.mk λv30 h=>
 qGrd v16 false h (.mk λh k=>
 zN 2 v26 v30<|.mk λv31=>
 k v31 h)<|.mk λv32 h=>
 qGrd v16 false h (.mk λh k=>
 ze 0 v32<|.mk λv33=>
 k v33 h)<|.mk λv34 h=>
 qGrd v16 false h (.mk λh k=>
 za v34 h<|.mk λv35=>
 k v35 h)<|.mk λv36 h=>
 qGrd v16 false h (.mk λh k=>
 qNeq v22 v36<|.mk λv37=>
 k v37 h)<|.mk λv38 h=>
 qGrd v3 true h (.mk λh k=>
 zeA v16 (.bool true) v38<|.mk λv39=>
 k v39 h)<|.mk λv40 h=>
 zeA v3 v40 (.bool false)<|.mk λv41=>
 k v41 h
theorem y186:z8 I 186 T.s186 N call a h k=f186 N call a h k:=by kernel_rfl
def f187_J14{β:Type}(k:K β)(x0 x1 x2 x3 x4 x5 x6 x7 x8 x9 x10 x11 x12 x13 x14 x15 x16 x17 x18 x19 x20 x21:AV)(h:H):Option β :=
 k (.bool true) h
def f187_J17{β:Type}(l15:Cur β 22)(x0 x1 x2 x3 x4 x5 x6 x7 x8 x9 x10 x11 x12 x13 x14 x15 x16 x17 x18 x19 x20 x21:AV)(h:H):Option β :=
 qSub x6 (.int .i64 1)<|.mk λv18=>
 l15 x0 x1 x2 x3 x4 x5 v18 x7 x8 x9 x10 x11 x12 x13 x14 x15 x16 x17 x18 x19 x20 x21 h
def f187_J30{β:Type}(l27:Cur β 22)(x0 x1 x2 x3 x4 x5 x6 x7 x8 x9 x10 x11 x12 x13 x14 x15 x16 x17 x18 x19 x20 x21:AV)(h:H):Option β :=
 qAdd x18 (.int .i64 1)<|.mk λv31=>
 l27 x0 x1 x2 x3 x4 x5 x6 x7 x8 x9 x10 x11 x12 x13 x14 x15 x16 x17 v31 x19 x20 x21 h
def f187_J34{β:Type}(call:zc β)(j30:Cur β 22)(x0 x1 x2 x3 x4 x5 x6 x7 x8 x9 x10 x11 x12 x13 x14 x15 x16 x17 x18 x19 x20 x21:AV)(h:H):Option β :=
 zN 1 x4 x6<|.mk λv35=>
 za v35 h<|.mk λv36=>
 zp call (.fn 214 []) [x7,x8] h<|.mk λv37 h=>
 za v35 h<|.mk λv38=>
 qChk v38 v36<|.mk (
 qAdd v36 v37<|.mk λv39=>
 zN 1 x4 x9<|.mk λv40=>
 zaJ 1 v40 v39 h<|.mk λh=>
 j30 x0 x1 x2 x3 x4 x5 x6 x7 x8 x9 x10 x11 x12 x13 x14 x15 x16 x17 x18 x19 x20 x21 h)
def f187_J29{β:Type}(call:zc β)(k:K β)(l27:Cur β 22)(x0 x1 x2 x3 x4 x5 x6 x7 x8 x9 x10 x11 x12 x13 x14 x15 x16 x17 x18 x19 x20 x21:AV)(h:H):Option β :=
 zt 22 (.mk (
 f187_J30 l27))<|.mk λj30=>
 zN 1 x16 x18<|.mk λv32=>
 za v32 h<|.mk λv33=>
 zt 22 (.mk (
 f187_J34 call j30))<|.mk λj34=>
 qLss v33 (.int .i64 0)<|.mk λv41=>
 qOr v41 h (.mk λh k=>
 qGeq v33 x6<|.mk λv42=>
 k v42 h)<|.mk λv43 h=>
 qOr v43 h (.mk λh k=>
 zN 1 x4 v33<|.mk λv44=>
 za v44 h<|.mk λv45=>
 qNeq v45 (.int .i64 (-1))<|.mk λv46=>
 k v46 h)<|.mk λv47 h=>
 qIf v47 (.mk (
 k (.bool false) h))<|.mk (
 j34 x0 x1 x2 x3 x4 x5 x6 x7 x18 v33 x10 x11 x12 x13 x14 x15 x16 x17 x18 x19 x18 v33 h)
def f187_L27{β:Type}(call:zc β)(k:K β)(j17:Cur β 22)(l27:Cur β 22)(x0 x1 x2 x3 x4 x5 x6 x7 x8 x9 x10 x11 x12 x13 x14 x15 x16 x17 x18 x19 x20 x21:AV)(h:H):Option β :=
 qLss x18 x17<|.mk λv28=>
 zt 22 (.mk (
 f187_J29 call k l27))<|.mk λj29=>
 qIf v28 (.mk (
 j29 .any x1 .any .any x4 .any x6 x7 .any .any .any .any .any .any .any .any x16 x17 x18 v28 .any .any h))<|.mk (
 j17 .any x1 .any .any x4 .any x6 x7 .any .any .any .any .any .any .any .any x16 x17 x18 v28 .any .any h)
def f187_J22{β:Type}(N:Nat)(call:zc β)(k:K β)(j17:Cur β 22)(x0 x1 x2 x3 x4 x5 x6 x7 x8 x9 x10 x11 x12 x13 x14 x15 x16 x17 x18 x19 x20 x21:AV)(h:H):Option β :=
 qNil x7<|.mk λv23=>
 ze 3 v23<|.mk λv24=>
 za v24 h<|.mk λv25=>
 qLenL v25<|.mk λv26=>
 (zcy 22 N<|.mk (
 f187_L27 call k j17)) x0 x1 x2 x3 x4 x5 x6 x7 x8 x9 x10 x11 x12 x13 x14 x15 v25 v26 (.int .i64 0) x19 x20 x21 h
def f187_J16{β:Type}(N:Nat)(call:zc β)(k:K β)(l15:Cur β 22)(x0 x1 x2 x3 x4 x5 x6 x7 x8 x9 x10 x11 x12 x13 x14 x15 x16 x17 x18 x19 x20 x21:AV)(h:H):Option β :=
 zt 22 (.mk (
 f187_J17 l15))<|.mk λj17=>
 ze 1 x1<|.mk λv19=>
 za v19 h<|.mk λv20=>
 zN 4 v20 x6<|.mk λv21=>
 zt 22 (.mk (
 f187_J22 N call k j17))<|.mk λj22=>
 zN 1 x4 x6<|.mk λv48=>
 za v48 h<|.mk λv49=>
 qEql v49 (.int .i64 (-1))<|.mk λv50=>
 qOr v50 h (.mk λh k=>
 zN 1 x4 x6<|.mk λv51=>
 za v51 h<|.mk λv52=>
 qGtr v52 (.int .i64 8)<|.mk λv53=>
 k v53 h)<|.mk λv54 h=>
 qOr v54 h (.mk λh k=>
 zN 1 x4 x6<|.mk λv55=>
 za v55 h<|.mk λv56=>
 zp call (.fn 213 []) [v21,v56] h<|.mk λv57 h=>
 qNot v57<|.mk λv58=>
 k v58 h)<|.mk λv59 h=>
 qIf v59 (.mk (
 k (.bool false) h))<|.mk (
 j22 x0 x1 x2 x3 x4 x5 x6 v21 x8 x9 x10 x11 x12 x13 x14 x15 x16 x17 x18 x19 x20 x21 h)
def f187_L15{β:Type}(N:Nat)(call:zc β)(k:K β)(j14:Cur β 22)(l15:Cur β 22)(x0 x1 x2 x3 x4 x5 x6 x7 x8 x9 x10 x11 x12 x13 x14 x15 x16 x17 x18 x19 x20 x21:AV)(h:H):Option β :=
 zt 22 (.mk (
 f187_J16 N call k l15))<|.mk λj16=>
 qGeq x6 (.int .i64 0)<|.mk λv60=>
 qIf v60 (.mk (
 j16 .any x1 .any .any x4 .any x6 .any .any .any .any .any .any .any .any .any .any .any .any .any .any .any h))<|.mk (
 j14 .any x1 .any .any x4 .any x6 .any .any .any .any .any .any .any .any .any .any .any .any .any .any .any h)
def f187_J10{β:Type}(N:Nat)(call:zc β)(k:K β)(x0 x1 x2 x3 x4 x5 x6 x7 x8 x9 x10 x11 x12 x13 x14 x15 x16 x17 x18 x19 x20 x21:AV)(h:H):Option β :=
 ze 0 x1<|.mk λv11=>
 za v11 h<|.mk λv12=>
 zN 1 x4 x3<|.mk λv13=>
 zaJ 1 v13 v12 h<|.mk λh=>
 zt 22 (.mk (
 f187_J14 k))<|.mk λj14=>
 (zcy 22 N<|.mk (
 f187_L15 N call k j14)) x0 x1 x2 x3 x4 x5 x3 x7 x8 x9 x10 x11 x12 x13 x4 x3 x16 x17 x18 x19 x20 x21 h
def f187_J64{β:Type}(l61:Cur β 22)(x0 x1 x2 x3 x4 x5 x6 x7 x8 x9 x10 x11 x12 x13 x14 x15 x16 x17 x18 x19 x20 x21:AV)(h:H):Option β :=
 qAdd x12 (.int .i64 1)<|.mk λv65=>
 l61 x0 x1 x2 x3 x4 x5 x6 x7 x8 x9 x10 x11 v65 x13 x14 x15 x16 x17 x18 x19 x20 x21 h
def f187_J63{β:Type}(l61:Cur β 22)(x0 x1 x2 x3 x4 x5 x6 x7 x8 x9 x10 x11 x12 x13 x14 x15 x16 x17 x18 x19 x20 x21:AV)(h:H):Option β :=
 zt 22 (.mk (
 f187_J64 l61))<|.mk λj64=>
 zN 1 x4 x12<|.mk λv66=>
 zaJ 1 v66 (.int .i64 (-1)) h<|.mk λh=>
 j64 x0 x1 x2 x3 x4 x12 x6 x7 x8 x9 x10 x11 x12 x13 x14 x15 x16 x17 x18 x19 x20 x21 h
def f187_L61{β:Type}(j10:Cur β 22)(l61:Cur β 22)(x0 x1 x2 x3 x4 x5 x6 x7 x8 x9 x10 x11 x12 x13 x14 x15 x16 x17 x18 x19 x20 x21:AV)(h:H):Option β :=
 qLss x12 x11<|.mk λv62=>
 zt 22 (.mk (
 f187_J63 l61))<|.mk λj63=>
 qIf v62 (.mk (
 j63 .any x1 .any x3 x4 .any .any .any .any .any .any x11 x12 v62 .any .any .any .any .any .any .any .any h))<|.mk (
 j10 .any x1 .any x3 x4 .any .any .any .any .any .any x11 x12 v62 .any .any .any .any .any .any .any .any h)
def f187_J5{β:Type}(N:Nat)(call:zc β)(k:K β)(x0 x1 x2 x3 x4 x5 x6 x7 x8 x9 x10 x11 x12 x13 x14 x15 x16 x17 x18 x19 x20 x21:AV)(h:H):Option β :=
 ze 1 x1<|.mk λv6=>
 za v6 h<|.mk λv7=>
 qLenL v7<|.mk λv8=>
 zff 0 [(.int .i64 0)] 8 v8 v8 h<|.mk λv9 h=>
 zt 22 (.mk (
 f187_J10 N call k))<|.mk λj10=>
 (zcy 22 N<|.mk (
 f187_L61 j10)) x0 x1 x2 x3 v9 x5 x6 x7 x8 x9 v8 x3 (.int .i64 0) x13 x14 x15 x16 x17 x18 x19 x20 x21 h
def f187{β:Type}(N:Nat)(call:zc β)(a:List AV)(h:H)(k:K β):Option β :=
 qBox 0 (nth a 0) h<|.mk λv0 h=>
 ze 1 v0<|.mk λv1=>
 za v1 h<|.mk λv2=>
 qLenL v2<|.mk λv3=>
 qSub v3 (.int .i64 1)<|.mk λv4=>
 zt 22 (.mk (
 f187_J5 N call k))<|.mk λj5=>
 ze 0 v0<|.mk λv67=>
 za v67 h<|.mk λv68=>
 zp call (.fn 212 []) [v68,(.int .i64 3)] h<|.mk λv69 h=>
 qNot v69<|.mk λv70=>
 qOr v70 h (.mk λh k=>
 zp call (.fn 212 []) [v4,(.int .i64 23)] h<|.mk λv71 h=>
 qNot v71<|.mk λv72=>
 k v72 h)<|.mk λv73 h=>
 qIf v73 (.mk (
 k (.bool false) h))<|.mk (
 j5 (nth a 0) v0 (.bool false) v4 (nth a 4) (nth a 5) (nth a 6) (nth a 7) (nth a 8) (nth a 9) (nth a 25) (nth a 27) (nth a 28) (nth a 29) (nth a 35) (nth a 36) (nth a 73) (nth a 74) (nth a 75) (nth a 76) (nth a 77) (nth a 79) h)
theorem y187:z8 I 187 T.s187 N call a h k=f187 N call a h k:=by kernel_rfl
def f188{β:Type}(N:Nat)(call:zc β)(a:List AV)(h:H)(k:K β):Option β :=
 zp call (.fn 215 []) [(nth a 0),(nth a 1)] h<|.mk λv0 h=>
 qGeq v0 (.int .i64 0)<|.mk λv1=>
 k v1 h
theorem y188:z8 I 188 T.s188 N call a h k=f188 N call a h k:=by kernel_rfl
def f202_J7{β:Type}(k:K β)(x0 x1 x2 x3 x4 x5 x6:AV)(h:H):Option β :=
 k (.bool false) h
def f202{β:Type}(N:Nat)(call:zc β)(a:List AV)(h:H)(k:K β):Option β :=
 qBox 0 (nth a 0) h<|.mk λv0 h=>
 ze 3 v0<|.mk λv1=>
 za v1 h<|.mk λv2=>
 qLenL v2<|.mk λv3=>
 ze 2 v0<|.mk λv4=>
 za v4 h<|.mk λv5=>
 qEql v5 (.int .i64 0)<|.mk λv6=>
 zt 7 (.mk (
 f202_J7 k))<|.mk λj7=>
 ze 0 v0<|.mk λv8=>
 za v8 h<|.mk λv9=>
 qEql v9 (.int .i64 0)<|.mk λv10=>
 qIf v10 (.mk (
 qAnd v6 h (.mk λh k=>
 qEql v3 (.int .i64 0)<|.mk λv11=>
 k v11 h)<|.mk λv12 h=>
 qAnd v12 h (.mk λh k=>
 ze 1 v0<|.mk λv13=>
 za v13 h<|.mk λv14=>
 zp call (.fn 41 []) [v14] h<|.mk λv15 h=>
 k v15 h)<|.mk λv16 h=>
 k v16 h))<|.mk (
 qEql v9 (.int .i64 1)<|.mk λv17=>
 qIf v17 (.mk (
 qAnd v6 h (.mk λh k=>
 qEql v3 (.int .i64 0)<|.mk λv18=>
 k v18 h)<|.mk λv19 h=>
 qAnd v19 h (.mk λh k=>
 ze 1 v0<|.mk λv20=>
 za v20 h<|.mk λv21=>
 qSub (nth a 1) (.int .i64 1)<|.mk λv22=>
 zp call (.fn 30 []) [v21,(.int .i64 0),v22] h<|.mk λv23 h=>
 k v23 h)<|.mk λv24 h=>
 k v24 h))<|.mk (
 qEql v9 (.int .i64 2)<|.mk λv25=>
 qIf v25 (.mk (
 qAnd v6 h (.mk λh k=>
 qLeq v3 (.int .i64 3)<|.mk λv26=>
 k v26 h)<|.mk λv27 h=>
 qAnd v27 h (.mk λh k=>
 ze 1 v0<|.mk λv28=>
 za v28 h<|.mk λv29=>
 zp call (.fn 30 []) [v29,(.int .i64 0),(.int .i64 7)] h<|.mk λv30 h=>
 k v30 h)<|.mk λv31 h=>
 k v31 h))<|.mk (
 qEql v9 (.int .i64 3)<|.mk λv32=>
 qIf v32 (.mk (
 qAnd v6 h (.mk λh k=>
 qLeq v3 (.int .i64 3)<|.mk λv33=>
 k v33 h)<|.mk λv34 h=>
 qAnd v34 h (.mk λh k=>
 ze 1 v0<|.mk λv35=>
 za v35 h<|.mk λv36=>
 zp call (.fn 30 []) [v36,(.int .i64 0),(.int .i64 99)] h<|.mk λv37 h=>
 k v37 h)<|.mk λv38 h=>
 k v38 h))<|.mk (
 qEql v9 (.int .i64 4)<|.mk λv39=>
 qIf v39 (.mk (
 qAnd v6 h (.mk λh k=>
 qEql v3 (.int .i64 2)<|.mk λv40=>
 k v40 h)<|.mk λv41 h=>
 qAnd v41 h (.mk λh k=>
 ze 1 v0<|.mk λv42=>
 za v42 h<|.mk λv43=>
 zp call (.fn 30 []) [v43,(.int .i64 0),(.int .i64 4)] h<|.mk λv44 h=>
 k v44 h)<|.mk λv45 h=>
 k v45 h))<|.mk (
 qEql v9 (.int .i64 5)<|.mk λv46=>
 qIf v46 (.mk (
 qEql v3 (.int .i64 3)<|.mk λv47=>
 qAnd v47 h (.mk λh k=>
 ze 1 v0<|.mk λv48=>
 za v48 h<|.mk λv49=>
 zp call (.fn 30 []) [v49,(.int .i64 0),(.int .i64 99)] h<|.mk λv50 h=>
 k v50 h)<|.mk λv51 h=>
 qAnd v51 h (.mk λh k=>
 ze 2 v0<|.mk λv52=>
 za v52 h<|.mk λv53=>
 zp call (.fn 30 []) [v53,(.int .i64 0),(.int .i64 3)] h<|.mk λv54 h=>
 k v54 h)<|.mk λv55 h=>
 k v55 h))<|.mk (
 qEql v9 (.int .i64 6)<|.mk λv56=>
 qIf v56 (.mk (
 qAnd v6 h (.mk λh k=>
 qEql v3 (.int .i64 2)<|.mk λv57=>
 k v57 h)<|.mk λv58 h=>
 qAnd v58 h (.mk λh k=>
 ze 1 v0<|.mk λv59=>
 za v59 h<|.mk λv60=>
 qEql v60 (.int .i64 0)<|.mk λv61=>
 k v61 h)<|.mk λv62 h=>
 k v62 h))<|.mk (
 qEql v9 (.int .i64 7)<|.mk λv63=>
 qIf v63 (.mk (
 qAnd v6 h (.mk λh k=>
 qEql v3 (.int .i64 0)<|.mk λv64=>
 k v64 h)<|.mk λv65 h=>
 qAnd v65 h (.mk λh k=>
 ze 1 v0<|.mk λv66=>
 za v66 h<|.mk λv67=>
 qEql v67 (.int .i64 0)<|.mk λv68=>
 k v68 h)<|.mk λv69 h=>
 k v69 h))<|.mk (
 j7 (nth a 0) (nth a 1) v0 (.bool false) v3 v6 v9 h))))))))
theorem y202:z8 I 202 T.s202 N call a h k=f202 N call a h k:=by kernel_rfl
def f203_J2{β:Type}(k:K β)(x0 x1 x2 x3:AV)(h:H):Option β :=
 k (.int .i64 0) h
def f203_J1{β:Type}(k:K β)(x0 x1 x2 x3:AV)(h:H):Option β :=
 zt 4 (.mk (
 f203_J2 k))<|.mk λj2=>
 qEql x1 (.int .i64 1)<|.mk λv3=>
 qAnd v3 h (.mk λh k=>
 ze 0 x2<|.mk λv4=>
 za v4 h<|.mk λv5=>
 qEql v5 (.int .i64 6)<|.mk λv6=>
 k v6 h)<|.mk λv7 h=>
 qIf v7 (.mk (
 k (.int .i64 1) h))<|.mk (
 j2 x0 x1 x2 x3 h)
def f203{β:Type}(N:Nat)(call:zc β)(a:List AV)(h:H)(k:K β):Option β :=
 qBox 0 (nth a 0) h<|.mk λv0 h=>
 zt 4 (.mk (
 f203_J1 k))<|.mk λj1=>
 qEql (nth a 1) (.int .i64 1)<|.mk λv8=>
 qAnd v8 h (.mk λh k=>
 ze 0 v0<|.mk λv9=>
 za v9 h<|.mk λv10=>
 qEql v10 (.int .i64 5)<|.mk λv11=>
 k v11 h)<|.mk λv12 h=>
 qIf v12 (.mk (
 ze 2 v0<|.mk λv13=>
 za v13 h<|.mk λv14=>
 k v14 h))<|.mk (
 j1 (nth a 0) (nth a 1) v0 (.int .i64 0) h)
theorem y203:z8 I 203 T.s203 N call a h k=f203 N call a h k:=by kernel_rfl
def f212{β:Type}(N:Nat)(call:zc β)(a:List AV)(h:H)(k:K β):Option β :=
 qGeq (nth a 0) (.int .i64 0)<|.mk λv0=>
 qAnd v0 h (.mk λh k=>
 qLeq (nth a 0) (nth a 1)<|.mk λv1=>
 k v1 h)<|.mk λv2 h=>
 k v2 h
theorem y212:z8 I 212 T.s212 N call a h k=f212 N call a h k:=by kernel_rfl
def f213_J0{β:Type}(k:K β)(x0 x1 x2 x3:AV)(h:H):Option β :=
 k (.bool false) h
def f213{β:Type}(N:Nat)(call:zc β)(a:List AV)(h:H)(k:K β):Option β :=
 zt 4 (.mk (
 f213_J0 k))<|.mk λj0=>
 qNil (nth a 0)<|.mk λv1=>
 ze 0 v1<|.mk λv2=>
 za v2 h<|.mk λv3=>
 qEql v3 (.int .i64 0)<|.mk λv4=>
 qIf v4 (.mk (
 qNil (nth a 0)<|.mk λv5=>
 ze 1 v5<|.mk λv6=>
 za v6 h<|.mk λv7=>
 zp call (.fn 28 []) [v7] h<|.mk λv8 h=>
 qAnd v8 h (.mk λh k=>
 zp call (.fn 229 []) [(nth a 0),(.int .i64 0),(.int .i64 0),(.int .i64 0)] h<|.mk λv9 h=>
 k v9 h)<|.mk λv10 h=>
 k v10 h))<|.mk (
 qEql v3 (.int .i64 1)<|.mk λv11=>
 qIf v11 (.mk (
 qNil (nth a 0)<|.mk λv12=>
 ze 1 v12<|.mk λv13=>
 za v13 h<|.mk λv14=>
 qSub (nth a 1) (.int .i64 1)<|.mk λv15=>
 zp call (.fn 212 []) [v14,v15] h<|.mk λv16 h=>
 qAnd v16 h (.mk λh k=>
 zp call (.fn 229 []) [(nth a 0),(.int .i64 0),(.int .i64 0),(.int .i64 0)] h<|.mk λv17 h=>
 k v17 h)<|.mk λv18 h=>
 k v18 h))<|.mk (
 qEql v3 (.int .i64 2)<|.mk λv19=>
 qIf v19 (.mk (
 qNil (nth a 0)<|.mk λv20=>
 ze 1 v20<|.mk λv21=>
 za v21 h<|.mk λv22=>
 zp call (.fn 212 []) [v22,(.int .i64 7)] h<|.mk λv23 h=>
 qAnd v23 h (.mk λh k=>
 zp call (.fn 229 []) [(nth a 0),(.int .i64 0),(.int .i64 0),(.int .i64 3)] h<|.mk λv24 h=>
 k v24 h)<|.mk λv25 h=>
 k v25 h))<|.mk (
 qEql v3 (.int .i64 3)<|.mk λv26=>
 qIf v26 (.mk (
 qNil (nth a 0)<|.mk λv27=>
 ze 1 v27<|.mk λv28=>
 za v28 h<|.mk λv29=>
 zp call (.fn 212 []) [v29,(.int .i64 99)] h<|.mk λv30 h=>
 qAnd v30 h (.mk λh k=>
 zp call (.fn 229 []) [(nth a 0),(.int .i64 0),(.int .i64 0),(.int .i64 3)] h<|.mk λv31 h=>
 k v31 h)<|.mk λv32 h=>
 k v32 h))<|.mk (
 qEql v3 (.int .i64 4)<|.mk λv33=>
 qIf v33 (.mk (
 qNil (nth a 0)<|.mk λv34=>
 ze 1 v34<|.mk λv35=>
 za v35 h<|.mk λv36=>
 zp call (.fn 212 []) [v36,(.int .i64 4)] h<|.mk λv37 h=>
 qAnd v37 h (.mk λh k=>
 zp call (.fn 229 []) [(nth a 0),(.int .i64 0),(.int .i64 2),(.int .i64 2)] h<|.mk λv38 h=>
 k v38 h)<|.mk λv39 h=>
 k v39 h))<|.mk (
 qEql v3 (.int .i64 5)<|.mk λv40=>
 qIf v40 (.mk (
 qNil (nth a 0)<|.mk λv41=>
 ze 1 v41<|.mk λv42=>
 za v42 h<|.mk λv43=>
 zp call (.fn 212 []) [v43,(.int .i64 99)] h<|.mk λv44 h=>
 qAnd v44 h (.mk λh k=>
 zp call (.fn 229 []) [(nth a 0),(.int .i64 3),(.int .i64 3),(.int .i64 3)] h<|.mk λv45 h=>
 k v45 h)<|.mk λv46 h=>
 k v46 h))<|.mk (
 qEql v3 (.int .i64 6)<|.mk λv47=>
 qIf v47 (.mk (
 qNil (nth a 0)<|.mk λv48=>
 ze 1 v48<|.mk λv49=>
 za v49 h<|.mk λv50=>
 qEql v50 (.int .i64 0)<|.mk λv51=>
 qAnd v51 h (.mk λh k=>
 zp call (.fn 229 []) [(nth a 0),(.int .i64 0),(.int .i64 2),(.int .i64 2)] h<|.mk λv52 h=>
 k v52 h)<|.mk λv53 h=>
 k v53 h))<|.mk (
 qEql v3 (.int .i64 7)<|.mk λv54=>
 qIf v54 (.mk (
 qNil (nth a 0)<|.mk λv55=>
 ze 1 v55<|.mk λv56=>
 za v56 h<|.mk λv57=>
 qEql v57 (.int .i64 0)<|.mk λv58=>
 qAnd v58 h (.mk λh k=>
 zp call (.fn 229 []) [(nth a 0),(.int .i64 0),(.int .i64 0),(.int .i64 0)] h<|.mk λv59 h=>
 k v59 h)<|.mk λv60 h=>
 k v60 h))<|.mk (
 j0 (nth a 0) (nth a 1) (.bool false) v3 h))))))))
theorem y213:z8 I 213 T.s213 N call a h k=f213 N call a h k:=by kernel_rfl
def f214_J0{β:Type}(k:K β)(x0 x1 x2:AV)(h:H):Option β :=
 k (.int .i64 0) h
def f214{β:Type}(N:Nat)(call:zc β)(a:List AV)(h:H)(k:K β):Option β :=
 zt 3 (.mk (
 f214_J0 k))<|.mk λj0=>
 qNeq (nth a 1) (.int .i64 1)<|.mk λv1=>
 qIf v1 (.mk (
 k (.int .i64 0) h))<|.mk (
 qNil (nth a 0)<|.mk λv2=>
 ze 0 v2<|.mk λv3=>
 za v3 h<|.mk λv4=>
 qEql v4 (.int .i64 5)<|.mk λv5=>
 qIf v5 (.mk (
 qNil (nth a 0)<|.mk λv6=>
 ze 2 v6<|.mk λv7=>
 za v7 h<|.mk λv8=>
 k v8 h))<|.mk (
 qNil (nth a 0)<|.mk λv9=>
 ze 0 v9<|.mk λv10=>
 za v10 h<|.mk λv11=>
 qEql v11 (.int .i64 6)<|.mk λv12=>
 qIf v12 (.mk (
 k (.int .i64 1) h))<|.mk (
 j0 (nth a 0) (nth a 1) (.int .i64 0) h)))
theorem y214:z8 I 214 T.s214 N call a h k=f214 N call a h k:=by kernel_rfl
def f215_J0{β:Type}(k:K β)(x0 x1 x2 x3 x4 x5 x6:AV)(h:H):Option β :=
 k (.int .i64 (-1)) h
def f215_J5{β:Type}(l2:Cur β 7)(x0 x1 x2 x3 x4 x5 x6:AV)(h:H):Option β :=
 qAdd x5 (.int .i64 1)<|.mk λv6=>
 l2 x0 x1 x2 x3 x4 v6 x6 h
def f215_J4{β:Type}(call:zc β)(k:K β)(l2:Cur β 7)(x0 x1 x2 x3 x4 x5 x6:AV)(h:H):Option β :=
 zt 7 (.mk (
 f215_J5 l2))<|.mk λj5=>
 zN 4 x0 x5<|.mk λv7=>
 zax 4 v7 h<|.mk λv8=>
 zp call x1 [v8] h<|.mk λv9 h=>
 qIf v9 (.mk (
 k x5 h))<|.mk (
 j5 x0 x1 x2 x5 x4 x5 x6 h)
def f215_L2{β:Type}(call:zc β)(k:K β)(j0:Cur β 7)(l2:Cur β 7)(x0 x1 x2 x3 x4 x5 x6:AV)(h:H):Option β :=
 qLss x5 x4<|.mk λv3=>
 zt 7 (.mk (
 f215_J4 call k l2))<|.mk λj4=>
 qIf v3 (.mk (
 j4 x0 x1 .any .any x4 x5 v3 h))<|.mk (
 j0 x0 x1 .any .any x4 x5 v3 h)
def f215{β:Type}(N:Nat)(call:zc β)(a:List AV)(h:H)(k:K β):Option β :=
 zt 7 (.mk (
 f215_J0 k))<|.mk λj0=>
 qLenL (nth a 0)<|.mk λv1=>
 (zcy 7 N<|.mk (
 f215_L2 call k j0)) (nth a 0) (nth a 1) (.int .i64 0) (nth a 5) v1 (.int .i64 0) (nth a 9) h
theorem y215:z8 I 215 T.s215 N call a h k=f215 N call a h k:=by kernel_rfl
def f229{β:Type}(N:Nat)(call:zc β)(a:List AV)(h:H)(k:K β):Option β :=
 qNil (nth a 0)<|.mk λv0=>
 ze 2 v0<|.mk λv1=>
 za v1 h<|.mk λv2=>
 qGeq v2 (.int .i64 0)<|.mk λv3=>
 qAnd v3 h (.mk λh k=>
 qNil (nth a 0)<|.mk λv4=>
 ze 2 v4<|.mk λv5=>
 za v5 h<|.mk λv6=>
 qLeq v6 (nth a 1)<|.mk λv7=>
 k v7 h)<|.mk λv8 h=>
 qAnd v8 h (.mk λh k=>
 qNil (nth a 0)<|.mk λv9=>
 ze 3 v9<|.mk λv10=>
 za v10 h<|.mk λv11=>
 qLenL v11<|.mk λv12=>
 qGeq v12 (nth a 2)<|.mk λv13=>
 k v13 h)<|.mk λv14 h=>
 qAnd v14 h (.mk λh k=>
 qNil (nth a 0)<|.mk λv15=>
 ze 3 v15<|.mk λv16=>
 za v16 h<|.mk λv17=>
 qLenL v17<|.mk λv18=>
 qLeq v18 (nth a 3)<|.mk λv19=>
 k v19 h)<|.mk λv20 h=>
 k v20 h
theorem y229:z8 I 229 T.s229 N call a h k=f229 N call a h k:=by kernel_rfl
def e149:Ent:=⟨149,T.s149,λ_ _=>f149,λ_=>y149⟩
def e157:Ent:=⟨157,T.s157,λ_ _=>f157,λ_=>y157⟩
def e179:Ent:=⟨179,T.s179,λ_ _=>f179,λ_=>y179⟩
def e186:Ent:=⟨186,T.s186,λ_ _=>f186,λ_=>y186⟩
def e187:Ent:=⟨187,T.s187,λ_ _=>f187,λ_=>y187⟩
def e188:Ent:=⟨188,T.s188,λ_ _=>f188,λ_=>y188⟩
def e202:Ent:=⟨202,T.s202,λ_ _=>f202,λ_=>y202⟩
def e203:Ent:=⟨203,T.s203,λ_ _=>f203,λ_=>y203⟩
def e212:Ent:=⟨212,T.s212,λ_ _=>f212,λ_=>y212⟩
def e213:Ent:=⟨213,T.s213,λ_ _=>f213,λ_=>y213⟩
def e214:Ent:=⟨214,T.s214,λ_ _=>f214,λ_=>y214⟩
def e215:Ent:=⟨215,T.s215,λ_ _=>f215,λ_=>y215⟩
def e229:Ent:=⟨229,T.s229,λ_ _=>f229,λ_=>y229⟩
section
variable {β:Type} {t:ETree} {I:FI} (n:Nat) (a:List AV) (h:H) (k:K β)
end
end
end Am.F
end
section
namespace Am.T
open Go
end Am.T
end
section
namespace Am.F
open Go Am
section
variable {β:Type} {t:ETree} {I:FI} (n:Nat) (a:List AV) (h:H) (k:K β)
end
end Am.F
end
section
namespace Am.F
open Go Am
structure Nd where
 fn:Int
 parent:Int
 args:List (List UInt8)
 res:List UInt8
def NdAt(h:H)(a:AV)(x:Nd):Prop:=∃v,a = .agg [.int .i64 x.fn,.int .i64 x.parent,v,.str x.res]/\SlAt h v (strs x.args)
def NdIn(h:H)(b:Nat)(v:AV)(x:Nd):Prop:=(h.get b).cells=some [.int .i64 x.fn,.int .i64 x.parent,v,.str x.res]/\b<h.n/\SlAt h v (strs x.args)
theorem NdAt.ext{h h':H}{a:AV}{x:Nd}(hs:NdAt h a x)(e:Ext h h'):NdAt h' a x:=let ⟨v,h1,h2⟩:=hs;⟨v,h1,h2.ext e⟩
theorem NdIn.ext{h h':H}{b:Nat}{v:AV}{x:Nd}(hs:NdIn h b v x)(e:Ext h h'):NdIn h' b v x:=⟨by rw[e.get b hs.2.1];exact hs.1,Nat.lt_of_lt_of_le hs.2.1 e.n,hs.2.2.ext e⟩
def eqMay(x:Nd):Bool:=decide ((0<=x.fn/\x.fn<8)/\x.args.length<=3)&&x.args.all mayP&&mayP x.res
section
variable {β:Type} {t:ETree}
end
end Am.F
end
section
namespace Am
open Go Go.RowKit F
def tyNode:Ty:=.st [.int .i64,.int .i64,.sl .str,.str]
theorem zci{us:List AV}{a:AV}(h:us.take 1=[a]):us=a::us.drop 1:=by
 cases us with
 | nil=>cases h
 | cons b r=>simp only[List.take_succ_cons,List.take_zero,List.cons.injEq,and_true] at h;rw[h];rfl
theorem Rep.node{S:St}{h:F.H}{us:List AV}{x:Dat}(ha:F.Abs h S)(hr:Rep S tyNode us x):∃(y:Nd) (no:Bool) (sp:List Dat),NdAt h (.agg us) y/\x = .st [.int y.fn,.int y.parent,.sl no (y.args.map Dat.str) sp,.str y.res] /\
  (no=true->y.args=[])/\(∀z ∈ y.args,z.length<=maxLen)/\y.res.length<=maxLen/\y.args.length<=maxLen:=by
 unfold tyNode at hr;simp only[Rep,Reps,Ty.size] at hr;obtain⟨ds,rfl,d0,r0,rfl,⟨f,e0,rfl,_⟩,d1,r1,rfl,⟨p,e1,rfl,_⟩,d2,r2,rfl,h2,d3,r3,rfl,⟨s,e3,rfl,hs⟩,e4,rfl⟩:=hr;have u0:=zci e0;have u1:=zci e1;have u3:=zci e3;have hsl:Rep S (.sl .str) ((us.drop 1).drop 1 |>.take 1) d2:=by simp only[Rep,Ty.size];exact h2
 have hone:∃a,((us.drop 1).drop 1).take 1=[a]:=by
  rcases h2 with⟨h,_⟩|⟨_,_,_,_,h,_⟩
  ·exact⟨_,h⟩
  ·exact⟨_,h⟩
 obtain⟨a,e2⟩:=hone;have u2:=zci e2;rw[e2] at hsl;obtain⟨no,kids,sp,k1,rfl,k2,k3,k4⟩:=Rep.texts ha hsl;refine⟨⟨f,p,kids,s⟩,no,sp,⟨a,?_,k1⟩,rfl,k2,k3,hs,k4⟩;rw[u0,u1,u2,u3,e4]
end Am
end
section
namespace Am.F
open Go Am
section
variable {β:Type} {t:ETree}
end
end Am.F
end
section
namespace Am.F
open Go Am
def zgW(x:Nd)(w:AV):List AV:=[.int .i64 x.fn,.int .i64 x.parent,w,.str x.res]
def zhu(h:H)(v:AV)(xs:List Nd):Prop:=(v = .nils/\xs=[])\/∃b o m g us,v = .sl b o xs.length m g/\b<h.n/\(h.get b).cells=some us/\o+xs.length*4<=us.length /\
 ∀j x,xs[j]?=some x->∃w,(us.drop (o+j*4)).take 4=zgW x w/\SlAt h w (strs x.args)
theorem zhu.ext{h h':H}{v:AV}{xs:List Nd}(hs:zhu h v xs)(e:Ext h h'):zhu h' v xs:=by
 rcases hs with hs|⟨b,o,m,g,us,h1,h2,h3,h4,h5⟩
 ·exact .inl hs
 ·refine .inr ⟨b,o,m,g,us,h1,Nat.lt_of_lt_of_le h2 e.n,by rw[e.get b h2];exact h3,h4,λj x hx=>?_⟩;obtain⟨w,h6,h7⟩:=h5 j x hx;exact⟨w,h6,h7.ext e⟩
section
variable {β:Type} {t:ETree}
theorem zhu.len{h:H}{v:AV}{xs:List Nd}(hs:zhu h v xs)(k:VK β):qLenL v (.mk k)=k (.int .i64 (xs.length:Int)):=by
 rcases hs with⟨rfl,rfl⟩|⟨b,o,m,g,us,rfl,_⟩
 ·exact zcw k
 ·exact zc0 _ _ _ _ _ k
end
end Am.F
end
section
namespace Am.F
open Go Am
def LAt{α:Type}(es:Nat)(C:H->List AV->α->Prop)(h:H)(v:AV)(xs:List α):Prop :=
 (v = .nils/\xs=[])\/∃b o m g us,v = .sl b o xs.length m g/\b<h.n/\(h.get b).cells=some us/\o+xs.length*es<=us.length/\∀j x,xs[j]?=some x->C h ((us.drop (o+j*es)).take es) x
def zgg{α:Type}(C:H->List AV->α->Prop):Prop:=∀(h h':H) (cs:List AV) (x:α),C h cs x->Ext h h'->C h' cs x
theorem LAt.ext{α:Type}{es:Nat}{C:H->List AV->α->Prop}(hC:zgg C){h h':H}{v:AV}{xs:List α}(hs:LAt es C h v xs)(e:Ext h h'):LAt es C h' v xs:=by
 rcases hs with hs|⟨b,o,m,g,us,h1,h2,h3,h4,h5⟩
 ·exact .inl hs
 ·exact .inr ⟨b,o,m,g,us,h1,Nat.lt_of_lt_of_le h2 e.n,by rw[e.get b h2];exact h3,h4,λj x hx=>hC _ _ _ _ (h5 j x hx) e⟩
theorem LAt.len{β α:Type}{es:Nat}{C:H->List AV->α->Prop}{h:H}{v:AV}{xs:List α}(hs:LAt es C h v xs)(k:VK β):qLenL v (.mk k)=k (.int .i64 (xs.length:Int)):=by
 rcases hs with⟨rfl,rfl⟩|⟨b,o,m,g,us,rfl,_⟩<;>rfl
theorem LAt.sc{α:Type}{es:Nat}{C:H->List AV->α->Prop}{h:H}{v:AV}{xs:List α}(hs:LAt es C h v xs):v.sc=true:=by
 rcases hs with⟨rfl,_⟩|⟨b,o,m,g,us,rfl,_⟩<;>rfl
def InAt(es:Nat)(h:H)(b o:Nat)(cs:List AV):Prop:=b<h.n/\∃us,(h.get b).cells=some us/\o+es<=us.length/\(us.drop o).take es=cs
theorem InAt.ext{es:Nat}{h h':H}{b o:Nat}{cs:List AV}(hs:InAt es h b o cs)(e:Ext h h'):InAt es h' b o cs:=by
 obtain⟨h1,us,h2,h3⟩:=hs;exact⟨Nat.lt_of_lt_of_le h1 e.n,us,by rw[e.get b h1];exact h2,h3⟩
theorem InAt.own{h:H}{b tag:Nat}{cs:List AV}(hb:b<h.n)(hg:h.get b = .own tag cs):InAt cs.length h b 0 cs:=⟨hb,cs,by rw[hg];rfl,by omega,by rw[List.drop_zero,List.take_length]⟩
theorem InAt.get{es:Nat}{h:H}{b o:Nat}{cs:List AV}(hs:InAt es h b o cs):∃us,(h.get b).cells=some us/\o+es<=us.length/\(us.drop o).take es=cs/\∀i v,cs[i]?=some v->us[o+i]?=some v:=by
 obtain⟨h1,us,h2,h3,rfl⟩:=hs;refine⟨us,h2,h3,rfl,λi v hv=>?_⟩;rw[List.getElem?_take] at hv
 by_cases hi:i<es
 ·rw[if_pos hi,List.getElem?_drop] at hv;exact hv
 ·rw[if_neg hi] at hv;cases hv
theorem LAt.at{β α:Type}{es:Nat}{C:H->List AV->α->Prop}{h:H}{v:AV}{xs:List α}(hs:LAt es C h v xs){j:Nat}{x:α}(hx:xs[j]?=some x) :
  ∃b o cs,(∀k:VK β,zN es v (.int .i64 (j:Int)) (.mk k)=k (.ptr b o))/\InAt es h b o cs/\C h cs x:=by
 rcases hs with⟨_,rfl⟩|⟨b,o,m,g,us,rfl,h2,h3,h4,h5⟩
 ·simp at hx
 ·have hj:=(List.getElem?_eq_some_iff.1 hx).1;have hm:(j+1)*es<=xs.length*es:=Nat.mul_le_mul_right _ hj;rw[Nat.add_mul] at hm;exact⟨b,o+j*es,_,λk=>by rw[zcx (by omega) (by omega),Int.toNat_natCast],⟨h2,us,h3,by omega,rfl⟩,h5 j x hx⟩
def ints(xs:List Int):List AV:=xs.map (.int .i64)
theorem ints_len(xs:List Int):(ints xs).length=xs.length:=List.length_map ..
structure Ex where
 kind:Int
 num:Int
 bind:Int
 kids:List Int
deriving DecidableEq
structure Df where
 params:Int
 body:List Ex
deriving DecidableEq
def zeW(e:Ex)(w:AV):List AV:=[.int .i64 e.kind,.int .i64 e.num,.int .i64 e.bind,w]
def ExC(h:H)(cs:List AV)(e:Ex):Prop:=∃w,cs=zeW e w/\SlAt h w (ints e.kids)
def DfC(h:H)(cs:List AV)(d:Df):Prop:=∃w,cs=[.int .i64 d.params,w]/\LAt 4 ExC h w d.body
def PgAt(h:H)(a:AV)(p:List Df):Prop:=∃v,a = .agg [v]/\LAt 2 DfC h v p
theorem ExC.stays:zgg ExC:=λ_ _ _ _ ⟨w,h1,h2⟩ e=>⟨w,h1,h2.ext e⟩
theorem DfC.stays:zgg DfC:=λ_ _ _ _ ⟨w,h1,h2⟩ e=>⟨w,h1,h2.ext ExC.stays e⟩
theorem PgAt.ext{h h':H}{a:AV}{p:List Df}(hs:PgAt h a p)(e:Ext h h'):PgAt h' a p:=let ⟨v,h1,h2⟩:=hs;⟨v,h1,h2.ext DfC.stays e⟩
def ExIn(h:H)(b o:Nat)(w:AV)(e:Ex):Prop:=InAt 4 h b o (zeW e w)/\SlAt h w (ints e.kids)
theorem ExIn.ext{h h':H}{b o:Nat}{w:AV}{e:Ex}(hs:ExIn h b o w e)(x:Ext h h'):ExIn h' b o w e:=⟨hs.1.ext x,hs.2.ext x⟩
theorem ExIn.get{h:H}{b o:Nat}{w:AV}{e:Ex}(hs:ExIn h b o w e)(β:Type):∃us,(h.get b).cells=some us/\(o+4<=us.length)/\(us.drop o).take 4=zeW e w /\
  us[o]?=some (.int .i64 e.kind)/\us[o+1]?=some (.int .i64 e.num)/\us[o+2]?=some (.int .i64 e.bind)/\us[o+3]?=some w/\∀k:VK β,qLenL w (.mk k)=k (.int .i64 (e.kids.length:Int)):=by
 obtain⟨us,h1,h2,h3,h4⟩:=hs.1.get;exact⟨us,h1,h2,h3,h4 0 _ rfl,h4 1 _ rfl,h4 2 _ rfl,h4 3 _ rfl,λk=>by rw[hs.2.len,ints_len]⟩
def Plain(e:Ex)(bind least most:Int):Prop:=0<=e.bind/\e.bind<=bind/\least<=(e.kids.length:Int)/\(e.kids.length:Int)<=most
instance (e:Ex) (b l m:Int):Decidable (Plain e b l m):=by unfold Plain;infer_instance
def zbg(e:Ex)(lv:Int):Prop :=
 (e.kind=0/\(-32768<=e.num/\e.num<=32767)/\Plain e 0 0 0)\/(e.kind=1/\(0<=e.num/\e.num<=lv-1)/\Plain e 0 0 0)\/(e.kind=2/\(0<=e.num/\e.num<=7)/\Plain e 0 0 3) \/
 (e.kind=3/\(0<=e.num/\e.num<=99)/\Plain e 0 0 3)\/(e.kind=4/\(0<=e.num/\e.num<=4)/\Plain e 0 2 2)\/(e.kind=5/\(0<=e.num/\e.num<=99)/\Plain e 3 3 3) \/
 (e.kind=6/\e.num=0/\Plain e 0 2 2)\/(e.kind=7/\e.num=0/\Plain e 0 0 0)
instance (e:Ex) (lv:Int):Decidable (zbg e lv):=by unfold zbg;infer_instance
def more(e:Ex)(k:Int):Int:=if k=1 then (if e.kind=5 then e.bind else if e.kind=6 then 1 else 0) else 0
section
variable {β:Type} {t:ETree}
end
end Am.F
end
section
namespace Am.F
open Go Am
section
variable {β:Type} {t:ETree}
end
end Am.F
end
section
namespace Am.F
open Go Am
def zbQ(i:Nat)(e:Ex):Nat->List Int->List Int->Option (List Int)
 | _,[],lv=>some lv
 | k,kid::ks,lv=>if 0<=kid/\kid<(i:Int)/\lv.getD kid.toNat 0 = -1 then zbQ i e (k+1) ks (lv.set kid.toNat (lv.getD i 0+more e k)) else none
def zc8(body:List Ex):Nat->List Int->Bool
 | 0,_=>true
 | i+1,lv=>match body[i]? with
  | none=>false
  | some e=>if lv.getD i 0 = -1\/8<lv.getD i 0\/¬ zbg e (lv.getD i 0) then false else
   match zbQ i e 0 e.kids lv with
   | none=>false
   | some lv'=>zc8 body i lv'
def zhq(body:List Ex)(i:Nat):Option (List Int)->Bool
 | none=>false
 | some lv=>zc8 body i lv
def zbA(d:Df):List Int:=List.replicate (d.body.length-1) (-1)++[d.params]
def zcM(d:Df):Bool:=decide ((0<=d.params/\d.params<=3)/\1<=d.body.length/\d.body.length<=24)&&zc8 d.body d.body.length (zbA d)
def LvOk(n:Nat)(lv:List Int):Prop:=lv.length=n/\∀q,-1<=lv.getD q 0/\lv.getD q 0<=11
theorem getD_set_eq(xs:List Int){i:Nat}(x:Int)(hi:i<xs.length):(xs.set i x).getD i 0=x:=by simp[List.getD_eq_getElem?_getD,hi]
theorem getD_set_ne(xs:List Int){i j:Nat}(x:Int)(hi:i≠j):(xs.set i x).getD j 0=xs.getD j 0:=by simp[List.getD_eq_getElem?_getD,List.getElem?_set_ne hi]
theorem LvOk.set{n:Nat}{lv:List Int}(h:LvOk n lv){i:Nat}{x:Int}(hx:-1<=x/\x<=11):LvOk n (lv.set i x):=by
 refine⟨by rw[List.length_set];exact h.1,λq=>?_⟩
 by_cases hq:i=q
 ·subst hq
  by_cases hi:i<lv.length
  ·rw[getD_set_eq _ _ hi];exact hx
  ·rw[List.set_eq_of_length_le (by omega)];exact h.2 i
 ·rw[getD_set_ne _ _ hq];exact h.2 q
theorem zbg.bind{e:Ex}{lv:Int}(h:zbg e lv):0<=e.bind/\e.bind<=3:=by
 unfold zbg Plain at h;rcases h with h|h|h|h|h|h|h|h<;>omega
theorem more_le{e:Ex}(h:0<=e.bind/\e.bind<=3)(k:Int):0<=more e k/\more e k<=3:=by
 unfold more;split<;>(try split)<;>(try split)<;>omega
theorem bodyGo_s(body:List Ex)(i:Nat)(lv:List Int){e:Ex}(he:body[i]?=some e)(h1:¬ lv.getD i 0 = -1)(h2:¬ 8<lv.getD i 0)(h3:zbg e (lv.getD i 0)) :
  zc8 body (i+1) lv=zhq body i (zbQ i e 0 e.kids lv):=by
 show (match body[i]? with|none=>false|some e=>_)=_;rw[he];show (if _ then _ else _)=_;rw[if_neg (by simp only[h1,h2,h3,not_true_eq_false,or_self,not_false_eq_true])];cases zbQ i e 0 e.kids lv<;>rfl
theorem zdv(body:List Ex)(i:Nat)(lv:List Int){e:Ex}(he:body[i]?=some e)(h:lv.getD i 0 = -1\/8<lv.getD i 0\/¬ zbg e (lv.getD i 0)):zc8 body (i+1) lv=false:=by
 show (match body[i]? with|none=>false|some e=>_)=_;rw[he];show (if _ then _ else _)=_;rw[if_pos h]
end Am.F
end
section
namespace Am.F
open Go Am
def DMem(h h':H)(bx:List AV)(lv:List Int):Prop:=h.n+2<=h'.n/\(∀q,q<h.n->h'.get q=h.get q)/\h'.get h.n = .own 0 bx/\h'.get (h.n+1) = .own 0 (ints lv)
theorem DMem.base{h h':H}{bx:List AV}{lv:List Int}(d:DMem h h' bx lv):Ext h h':=⟨by have:=d.1;omega,d.2.1⟩
theorem DMem.ext{h h' h'':H}{bx:List AV}{lv:List Int}(d:DMem h h' bx lv)(e:Ext h' h''):DMem h h'' bx lv:=by
 obtain⟨d1,d2,d3,d4⟩:=d;refine⟨by have:=e.n;omega,λq hq=>by rw[e.get q (by omega),d2 q hq],by rw[e.get _ (by omega),d3],by rw[e.get _ (by omega),d4]⟩
theorem DMem.set{h h':H}{bx:List AV}{lv:List Int}(d:DMem h h' bx lv)(lv':List Int):DMem h (h'.set (h.n+1) (.own 0 (ints lv'))) bx lv':=by
 obtain⟨d1,d2,d3,d4⟩:=d;refine⟨by rw[H.n_set];exact d1,λq hq=>by rw[zae (by omega),d2 q hq],by rw[zae (by omega),d3],zc4 rfl⟩
theorem DMem.mk{h:H}(bx:List AV)(lv:List Int):DMem h ((h.push (.own 0 bx)).push (.own 0 (ints lv))) bx lv :=
 ⟨by rw[H.n_push,H.n_push];omega,λq hq=>by rw[zDq9 (by rw[H.n_push];omega),zDq9 (by omega)],by rw[zDq9 (by rw[H.n_push];omega),zay rfl],zay (by rw[H.n_push])⟩
section
variable {β:Type} {t:ETree}
end
end Am.F
end
section
namespace Am.F
open Go Am
def up(lv:List Int):List Int:=lv.map (·+1)
section
variable {β:Type} {t:ETree}
end
end Am.F
end
section
namespace Am.F
open Go Am
def zbK(p:List Df)(j:Int):Int:=((p[j.toNat]?).map Df.params).getD 0
def Odd(p:List Df)(e:Ex):Prop:=e.kind=2/\((p.length:Int)<=e.num\/¬ (e.kids.length:Int)=zbK p e.num)
instance (p:List Df) (e:Ex):Decidable (Odd p e):=by unfold Odd;infer_instance
def defIn(p:List Df)(d:Df):Bool:=zcM d&&d.body.all λe=>!decide (Odd p e)
def zeE(p:List Df):Bool:=decide ((1<=p.length/\p.length<=8)/\zbK p 0=0)&&p.all (defIn p)
theorem zbg.call{e:Ex}{l:Int}(h:zbg e l)(h2:e.kind=2):0<=e.num/\e.num<=7:=by
 unfold zbg at h;rcases h with h|h|h|h|h|h|h|h<;>omega
theorem zc6{d:Df}(h:zcM d=true):d.body.length<=24/\1<=d.body.length:=by
 unfold zcM at h;rw[Bool.and_eq_true] at h;have:=of_decide_eq_true h.1
 omega
theorem zbg.kids{e:Ex}{l:Int}(h:zbg e l):e.kids.length<=3:=by
 unfold zbg Plain at h;rcases h with h|h|h|h|h|h|h|h<;>omega
section
variable {β:Type} {t:ETree}
def oddIn(p:List Df)(body:List Ex):Bool:=body.any λe=>decide (Odd p e)
theorem defIn_eq(p:List Df)(d:Df):defIn p d=(zcM d&&!oddIn p d.body):=by
 unfold defIn oddIn;congr 1;rw[List.not_any_eq_all_not]
theorem zgA{p:List Df}(h:zeE p=true):(1<=p.length/\p.length<=8)/\zbK p 0=0/\∀d ∈ p,zcM d=true/\oddIn p d.body=false:=by
 unfold zeE at h;rw[Bool.and_eq_true,List.all_eq_true] at h;refine⟨(of_decide_eq_true h.1).1,(of_decide_eq_true h.1).2,λd hd=>?_⟩;have:=h.2 d hd
 rw[defIn_eq,Bool.and_eq_true] at this;exact⟨this.1,by simpa using this.2⟩
end
end Am.F
end
section
namespace Am.F
open Go Am
section
variable {β:Type} {t:ETree}
end
end Am.F
end
