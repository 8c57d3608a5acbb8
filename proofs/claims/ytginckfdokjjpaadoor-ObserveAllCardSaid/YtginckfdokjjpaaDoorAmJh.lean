/- Texts that belong together: no condition. -/
import Derived.Test.YtginckfdokjjpaaDoorAmJc
import Derived.Test.YtginckfdokjjpaaDoorAmJg
import Derived.Test.YtginckfdokjjpaaDoorAmOpen
open Nat (reduceAdd reduceMul)
open Int (reduceToNat)
set_option maxRecDepth 100000
set_option linter.unusedVariables false
set_option linter.unusedSimpArgs false
set_option linter.defProp false
section
namespace Am.T
open Go
def s149:SFn:=.src 77 [0,1,2,3,4,5,52,76] [.tmp 2]<|.seq (.reg [.set 1 (.P 1 (.box 0) [.V 0]),.set 2 (.M 2 (.k (.bool false)))])<|.seq (.ifr [] (.or 11 18 (.P 10 .notB [.P 9 (.call 30) [.P 8 .lenL [.P 7 .load1 [.P 6 (.fadr 0) [.V 1]]],.I 1,.I 8]]) (.P 17 (.binI .neq) [.P 16 .load1 [.P 15 (.fadr 0) [.P 14 (.iadr 2) [.P 13 .load1 [.P 12 (.fadr 0) [.V 1]],.I 0]]],.I 0])) (.seq (.reg [.set 2 (.M 2 (.k (.bool false)))])<|.ret) .skip)<|.seq (.seq (.reg [.set 3 (.M 3 (.I 0))])<|.block 0<|.loop [1,3]<|.seq (.ifr [] (.P 23 (.binI .lss) [.W 3 19,.P 22 .lenL [.P 21 .load1 [.P 20 (.fadr 0) [.V 1]]]]) .skip (.exit 0))<|.seq (.block 1<|.seq (.ifr [] (.P 32 .notB [.P 31 (.call 179) [.P 30 (.loadN 2) [.P 29 (.iadr 2) [.P 27 .load1 [.P 26 (.fadr 0) [.V 1]],.W 3 28]]]]) (.seq (.reg [.set 2 (.M 2 (.k (.bool false)))])<|.ret) .skip)<|.seq (.reg [.set 4 (.M 4 (.I 0))])<|.block 2<|.loop [1,3,4]<|.seq (.ifr [] (.P 41 (.binI .lss) [.W 4 33,.P 40 .lenL [.P 39 .load1 [.P 38 (.fadr 1) [.P 37 (.iadr 2) [.P 35 .load1 [.P 34 (.fadr 0) [.V 1]],.W 3 36]]]]]) .skip (.exit 2))<|.seq (.block 3<|.seq (.reg [.set 6 (.P 52 (.loadN 4) [.P 51 (.iadr 4) [.P 49 .load1 [.P 48 (.fadr 1) [.P 47 (.iadr 2) [.P 45 .load1 [.P 44 (.fadr 0) [.V 1]],.W 3 46]]],.W 4 50]]),.set 5 (.P 5 (.alloc 0 [.int .i64 0,.int .i64 0,.int .i64 0,.nils]) []),.ef (.op none (.store 4) [.V 5,.V 6])])<|.seq (.dreg [53,54,55,56,57,58,59,60,61,62,63,64,65,66,67,68,69,70,71,72,73,74,75] [⟨ (some 8),.fadr 0,[.t 5],none⟩,⟨ (some 9),.load1,[.t 8],none⟩,⟨ (some 10),.binI .eql,[.t 9,.c (.int .i64 2)],none⟩,⟨ (some 11),.mov,[.t 10],none⟩,⟨ (some 12),.fadr 1,[.t 5],(some (11 ,true)) ⟩,⟨ (some 13),.load1,[.t 12],(some (11 ,true)) ⟩,⟨ (some 14),.fadr 0,[.t 1],(some (11 ,true)) ⟩,⟨ (some 15),.load1,[.t 14],(some (11 ,true)) ⟩,⟨ (some 16),.lenL,[.t 15],(some (11 ,true)) ⟩,⟨ (some 17),.binI .geq,[.t 13,.t 16],(some (11 ,true)) ⟩,⟨ (some 18),.mov,[.t 17],(some (11 ,true)) ⟩,⟨ (some 19),.fadr 3,[.t 5],(some (18 ,false)) ⟩,⟨ (some 20),.load1,[.t 19],(some (18 ,false)) ⟩,⟨ (some 21),.lenL,[.t 20],(some (18 ,false)) ⟩,⟨ (some 22),.fadr 0,[.t 1],(some (18 ,false)) ⟩,⟨ (some 23),.load1,[.t 22],(some (18 ,false)) ⟩,⟨ (some 24),.fadr 1,[.t 5],(some (18 ,false)) ⟩,⟨ (some 25),.load1,[.t 24],(some (18 ,false)) ⟩,⟨ (some 26),.iadr 2,[.t 23,.t 25],(some (18 ,false)) ⟩,⟨ (some 27),.fadr 0,[.t 26],(some (18 ,false)) ⟩,⟨ (some 28),.load1,[.t 27],(some (18 ,false)) ⟩,⟨ (some 29),.binI .neq,[.t 21,.t 28],(some (18 ,false)) ⟩,⟨ (some 30),.pick,[.t 18,.c (.bool true),.t 29],(some (11 ,true)) ⟩,⟨ (some 7),.pick,[.t 11,.t 30,.c (.bool false)],none⟩] [.op 0,.op 1,.op 2,.op 3,.op 4,.op 5,.op 6,.op 7,.op 8,.op 9,.op 10,.op 11,.op 12,.op 13,.op 14,.op 15,.op 16,.op 17,.op 18,.op 19,.op 20,.op 21,.op 22,.op 23])<|.cond (.t 7) (.seq (.reg [.set 2 (.M 2 (.k (.bool false)))])<|.ret) .skip)<|.reg [.set 4 (.M 4 (.P 43 (.binI .add) [.W 4 42,.I 1]))])<|.reg [.set 3 (.M 3 (.P 25 (.binI .add) [.W 3 24,.I 1]))])<|.seq (.reg [.set 2 (.M 2 (.k (.bool true)))])<|.ret
def s157:SFn:=.src 42 [0,1,2,3,5,26,27,28,29,31] [.tmp 2]<|.seq (.reg [.set 1 (.P 1 (.box 0) [.V 0]),.set 2 (.M 2 (.k (.bool false)))])<|.seq (.ifr [] (.or 16 23 (.or 10 15 (.P 9 (.binI .eql) [.P 8 .lenL [.P 7 .load1 [.P 6 (.fadr 0) [.V 1]]],.I 0]) (.P 14 (.binI .gtr) [.P 13 .lenL [.P 12 .load1 [.P 11 (.fadr 0) [.V 1]]],.I 8])) (.P 22 (.binI .neq) [.P 21 .load1 [.P 20 (.fadr 0) [.P 19 (.iadr 2) [.P 18 .load1 [.P 17 (.fadr 0) [.V 1]],.I 0]]],.I 0])) (.seq (.reg [.set 2 (.M 2 (.k (.bool false)))])<|.ret) .skip)<|.seq (.reg [.set 3 (.M 3 (.P 24 (.mkfn 186) [.V 1]))])<|.seq (.seq (.reg [.set 5 (.P 26 .load1 [.P 25 (.fadr 0) [.V 1]]),.set 6 (.P 27 .lenL [.V 5]),.set 7 (.M 28 (.I 0))])<|.block 0<|.loop [3,5,6,7]<|.seq (.reg [.set 8 (.P 29 (.binI .lss) [.V 7,.V 6])])<|.seq (.cond (.t 8) .skip (.exit 0))<|.seq (.block 1<|.seq (.reg [.set 9 (.P 31 (.loadN 2) [.P 30 (.iadr 2) [.V 5,.V 7]]),.set 4 (.P 5 (.alloc 0 [.int .i64 0,.nils]) []),.ef (.op none (.store 2) [.V 4,.V 9])])<|.ifr [] (.or 35 40 (.P 34 .notB [.P 33 (.call 187) [.P 32 (.loadN 2) [.V 4]]]) (.P 39 (.call 188) [.P 37 .load1 [.P 36 (.fadr 1) [.V 4]],.W 3 38])) (.seq (.reg [.set 2 (.M 2 (.k (.bool false)))])<|.ret) .skip)<|.reg [.set 7 (.M 28 (.P 41 (.binI .add) [.V 7,.I 1]))])<|.seq (.reg [.set 2 (.M 2 (.k (.bool true)))])<|.ret
def s179:SFn:=.src 102 [0,1,2,3,4,5,6,7,21,23,26,43,66] [.tmp 2]<|.seq (.reg [.set 1 (.P 1 (.box 0) [.V 0]),.set 2 (.M 2 (.k (.bool false)))])<|.seq (.ifr [] (.or 12 18 (.P 11 .notB [.P 10 (.call 30) [.P 9 .load1 [.P 8 (.fadr 0) [.V 1]],.I 0,.I 3]]) (.P 17 .notB [.P 16 (.call 30) [.P 15 .lenL [.P 14 .load1 [.P 13 (.fadr 1) [.V 1]]],.I 1,.I 24]])) (.seq (.reg [.set 2 (.M 2 (.k (.bool false)))])<|.ret) .skip)<|.seq (.reg [.set 8 (.P 21 .lenL [.P 20 .load1 [.P 19 (.fadr 1) [.V 1]]]),.set 3 (.M 3 (.P 22 (.mkslice 0 [.int .i64 0] 8) [.V 8,.V 8]))])<|.seq (.reg [.set 9 (.M 23 (.V 3)),.set 10 (.P 26 (.binI .sub) [.P 25 .lenL [.W 3 24],.I 1]),.ef (.opr none (.store 1) (.P 30 (.iadr 1) [.V 9,.V 10]) (.P 29 (.binI .add) [.P 28 .load1 [.P 27 (.fadr 0) [.V 1]],.I 1]))])<|.seq (.seq (.reg [.set 4 (.M 4 (.P 34 (.binI .sub) [.P 33 .lenL [.P 32 .load1 [.P 31 (.fadr 1) [.V 1]]],.I 1]))])<|.block 0<|.loop [1,3,4]<|.seq (.ifr [] (.P 36 (.binI .geq) [.W 4 35,.I 0]) .skip (.exit 0))<|.seq (.block 1<|.seq (.reg [.set 11 (.P 43 (.loadN 4) [.P 42 (.iadr 4) [.P 40 .load1 [.P 39 (.fadr 1) [.V 1]],.W 4 41]]),.set 5 (.P 5 (.alloc 0 [.int .i64 0,.int .i64 0,.int .i64 0,.nils]) []),.ef (.op none (.store 4) [.V 5,.V 11])])<|.seq (.seq (.dreg [44,45,46,47,48,49,50,51,52,53,54,55,56,57,58,59,60,61,62,63,64,65] [⟨ (some 13),.mov,[.t 3],none⟩,⟨ (some 14),.mov,[.t 4],none⟩,⟨ (some 15),.iadr 1,[.t 13,.t 14],none⟩,⟨ (some 16),.load1,[.t 15],none⟩,⟨ (some 17),.binI .eql,[.t 16,.c (.int .i64 0)],none⟩,⟨ (some 18),.mov,[.t 17],none⟩,⟨ (some 19),.mov,[.t 3],(some (18 ,false)) ⟩,⟨ (some 20),.mov,[.t 4],(some (18 ,false)) ⟩,⟨ (some 21),.iadr 1,[.t 19,.t 20],(some (18 ,false)) ⟩,⟨ (some 22),.load1,[.t 21],(some (18 ,false)) ⟩,⟨ (some 23),.binI .sub,[.t 22,.c (.int .i64 1)],(some (18 ,false)) ⟩,⟨ (some 24),.binI .gtr,[.t 23,.c (.int .i64 8)],(some (18 ,false)) ⟩,⟨ (some 25),.pick,[.t 18,.c (.bool true),.t 24],none⟩,⟨ (some 26),.mov,[.t 25],none⟩,⟨ (some 27),.loadN 4,[.t 5],(some (26 ,false)) ⟩,⟨ (some 28),.mov,[.t 3],(some (26 ,false)) ⟩,⟨ (some 29),.mov,[.t 4],(some (26 ,false)) ⟩,⟨ (some 30),.iadr 1,[.t 28,.t 29],(some (26 ,false)) ⟩,⟨ (some 31),.load1,[.t 30],(some (26 ,false)) ⟩,⟨ (some 32),.binI .sub,[.t 31,.c (.int .i64 1)],(some (26 ,false)) ⟩,⟨ (some 33),.call 202,[.t 27,.t 32],(some (26 ,false)) ⟩,⟨ (some 34),.notB,[.t 33],(some (26 ,false)) ⟩,⟨ (some 12),.pick,[.t 26,.c (.bool true),.t 34],none⟩] [.op 0,.op 1,.op 2,.op 3,.op 4,.op 5,.op 6,.op 7,.op 8,.op 9,.op 10,.op 11,.op 12,.op 13,.op 14,.op 15,.op 16,.op 17,.op 18,.op 19,.op 20,.op 21,.op 22])<|.cond (.t 12) (.seq (.reg [.set 2 (.M 2 (.k (.bool false)))])<|.ret) .skip)<|.seq (.reg [.set 6 (.M 6 (.I 0))])<|.block 2<|.loop [1,3,4,5,6]<|.seq (.ifr [] (.P 71 (.binI .lss) [.W 6 67,.P 70 .lenL [.P 69 .load1 [.P 68 (.fadr 3) [.V 5]]]]) .skip (.exit 2))<|.seq (.block 3<|.seq (.reg [.set 7 (.M 7 (.P 78 .load1 [.P 77 (.iadr 1) [.P 75 .load1 [.P 74 (.fadr 3) [.V 5]],.W 6 76]]))])<|.seq (.ifr [] (.or 84 90 (.P 83 .notB [.P 82 (.call 30) [.W 7 79,.I 0,.P 81 (.binI .sub) [.W 4 80,.I 1]]]) (.P 89 (.binI .neq) [.P 88 .load1 [.P 87 (.iadr 1) [.W 3 85,.W 7 86]],.I 0])) (.seq (.reg [.set 2 (.M 2 (.k (.bool false)))])<|.ret) .skip)<|.dreg [91,92,93,94,95,96,97,98,99,100,101] [⟨ (some 13),.mov,[.t 3],none⟩,⟨ (some 14),.mov,[.t 7],none⟩,⟨ (some 15),.mov,[.t 3],none⟩,⟨ (some 16),.mov,[.t 4],none⟩,⟨ (some 17),.iadr 1,[.t 15,.t 16],none⟩,⟨ (some 18),.load1,[.t 17],none⟩,⟨ (some 19),.loadN 4,[.t 5],none⟩,⟨ (some 20),.mov,[.t 6],none⟩,⟨ (some 21),.call 203,[.t 19,.t 20],none⟩,⟨ (some 22),.binI .add,[.t 18,.t 21],none⟩,⟨ (some 23),.iadr 1,[.t 13,.t 14],none⟩,⟨none,.store 1,[.t 23,.t 22],none⟩] [.op 0,.op 1,.op 2,.op 3,.op 4,.op 5,.op 6,.op 7,.op 8,.chk 5,.op 9,.op 10,.op 11])<|.reg [.set 6 (.M 6 (.P 73 (.binI .add) [.W 6 72,.I 1]))])<|.reg [.set 4 (.M 4 (.P 38 (.binI .sub) [.W 4 37,.I 1]))])<|.seq (.reg [.set 2 (.M 2 (.k (.bool true)))])<|.ret
def s186:SFn:=.src 28 [0,1,2,3] [.tmp 3]<|.seq (.reg [.set 2 (.P 2 (.box 0) [.V 0]),.set 3 (.M 3 (.k (.bool false)))])<|.seq (.dreg [4,5,6,7,8,9,10,11,12,13,14,15,16,17,18,19,20,21,22,23,24,25,26,27] [⟨ (some 4),.fadr 0,[.t 2],none⟩,⟨ (some 5),.load1,[.t 4],none⟩,⟨ (some 6),.binI .eql,[.t 5,.c (.int .i64 2)],none⟩,⟨ (some 7),.mov,[.t 6],none⟩,⟨ (some 8),.fadr 1,[.t 2],(some (7 ,true)) ⟩,⟨ (some 9),.load1,[.t 8],(some (7 ,true)) ⟩,⟨ (some 10),.fadr 0,[.t 1],(some (7 ,true)) ⟩,⟨ (some 11),.load1,[.t 10],(some (7 ,true)) ⟩,⟨ (some 12),.lenL,[.t 11],(some (7 ,true)) ⟩,⟨ (some 13),.binI .geq,[.t 9,.t 12],(some (7 ,true)) ⟩,⟨ (some 14),.mov,[.t 13],(some (7 ,true)) ⟩,⟨ (some 15),.fadr 3,[.t 2],(some (14 ,false)) ⟩,⟨ (some 16),.load1,[.t 15],(some (14 ,false)) ⟩,⟨ (some 17),.lenL,[.t 16],(some (14 ,false)) ⟩,⟨ (some 18),.fadr 0,[.t 1],(some (14 ,false)) ⟩,⟨ (some 19),.load1,[.t 18],(some (14 ,false)) ⟩,⟨ (some 20),.fadr 1,[.t 2],(some (14 ,false)) ⟩,⟨ (some 21),.load1,[.t 20],(some (14 ,false)) ⟩,⟨ (some 22),.iadr 2,[.t 19,.t 21],(some (14 ,false)) ⟩,⟨ (some 23),.fadr 0,[.t 22],(some (14 ,false)) ⟩,⟨ (some 24),.load1,[.t 23],(some (14 ,false)) ⟩,⟨ (some 25),.binI .neq,[.t 17,.t 24],(some (14 ,false)) ⟩,⟨ (some 26),.pick,[.t 14,.c (.bool true),.t 25],(some (7 ,true)) ⟩,⟨ (some 27),.pick,[.t 7,.t 26,.c (.bool false)],none⟩,⟨ (some 3),.mov,[.t 27],none⟩] [.op 0,.op 1,.op 2,.op 3,.op 4,.op 5,.op 6,.op 7,.op 8,.op 9,.op 10,.op 11,.op 12,.op 13,.op 14,.op 15,.op 16,.op 17,.op 18,.op 19,.op 20,.op 21,.op 22,.op 23,.op 24])<|.ret
def s187:SFn:=.src 106 [0,1,2,3,4,5,6,7,8,9,25,27,28,29,35,36,73,74,75,76,77,79] [.tmp 2]<|.seq (.reg [.set 1 (.P 1 (.box 0) [.V 0]),.set 2 (.M 2 (.k (.bool false)))])<|.seq (.reg [.set 3 (.M 3 (.P 13 (.binI .sub) [.P 12 .lenL [.P 11 .load1 [.P 10 (.fadr 1) [.V 1]]],.I 1]))])<|.seq (.ifr [] (.or 18 22 (.P 17 .notB [.P 16 (.call 212) [.P 15 .load1 [.P 14 (.fadr 0) [.V 1]],.I 3]]) (.P 21 .notB [.P 20 (.call 212) [.W 3 19,.I 23]])) (.seq (.reg [.set 2 (.M 2 (.k (.bool false)))])<|.ret) .skip)<|.seq (.reg [.set 10 (.P 25 .lenL [.P 24 .load1 [.P 23 (.fadr 1) [.V 1]]]),.set 4 (.M 4 (.P 26 (.mkslice 0 [.int .i64 0] 8) [.V 10,.V 10]))])<|.seq (.seq (.reg [.set 11 (.M 27 (.V 3)),.set 12 (.M 28 (.I 0))])<|.block 0<|.loop [1,3,4,11,12]<|.seq (.reg [.set 13 (.P 29 (.binI .lss) [.V 12,.V 11])])<|.seq (.cond (.t 13) .skip (.exit 0))<|.seq (.block 1<|.seq (.reg [.set 5 (.M 5 (.W 12 30))])<|.reg [.ef (.op none (.store 1) [.P 33 (.iadr 1) [.W 4 31,.W 5 32],.I (-1)])])<|.reg [.set 12 (.M 28 (.P 34 (.binI .add) [.V 12,.I 1]))])<|.seq (.reg [.set 14 (.M 35 (.V 4)),.set 15 (.M 36 (.V 3)),.ef (.opr none (.store 1) (.P 39 (.iadr 1) [.V 14,.V 15]) (.P 38 .load1 [.P 37 (.fadr 0) [.V 1]]))])<|.seq (.seq (.reg [.set 6 (.M 6 (.W 3 40))])<|.block 2<|.loop [1,4,6]<|.seq (.ifr [] (.P 42 (.binI .geq) [.W 6 41,.I 0]) .skip (.exit 2))<|.seq (.block 3<|.seq (.reg [.set 7 (.M 7 (.P 48 (.iadr 4) [.P 46 .load1 [.P 45 (.fadr 1) [.V 1]],.W 6 47]))])<|.seq (.ifr [] (.or 61 69 (.or 54 60 (.P 53 (.binI .eql) [.P 52 .load1 [.P 51 (.iadr 1) [.W 4 49,.W 6 50]],.I (-1)]) (.P 59 (.binI .gtr) [.P 58 .load1 [.P 57 (.iadr 1) [.W 4 55,.W 6 56]],.I 8])) (.P 68 .notB [.P 67 (.call 213) [.W 7 62,.P 66 .load1 [.P 65 (.iadr 1) [.W 4 63,.W 6 64]]]])) (.seq (.reg [.set 2 (.M 2 (.k (.bool false)))])<|.ret) .skip)<|.seq (.reg [.set 16 (.P 73 .load1 [.P 72 (.fadr 3) [.P 71 .nilCheck [.W 7 70]]]),.set 17 (.P 74 .lenL [.V 16]),.set 18 (.M 75 (.I 0))])<|.block 4<|.loop [1,4,6,7,16,17,18]<|.seq (.reg [.set 19 (.P 76 (.binI .lss) [.V 18,.V 17])])<|.seq (.cond (.t 19) .skip (.exit 4))<|.seq (.block 5<|.seq (.reg [.set 20 (.M 77 (.V 18)),.set 21 (.P 79 .load1 [.P 78 (.iadr 1) [.V 16,.V 18]]),.set 8 (.M 8 (.V 20)),.set 9 (.M 9 (.V 21))])<|.seq (.ifr [] (.or 87 93 (.or 82 86 (.P 81 (.binI .lss) [.W 9 80,.I 0]) (.P 85 (.binI .geq) [.W 9 83,.W 6 84])) (.P 92 (.binI .neq) [.P 91 .load1 [.P 90 (.iadr 1) [.W 4 88,.W 9 89]],.I (-1)])) (.seq (.reg [.set 2 (.M 2 (.k (.bool false)))])<|.ret) .skip)<|.dreg [94,95,96,97,98,99,100,101,102,103,104] [⟨ (some 22),.mov,[.t 4],none⟩,⟨ (some 23),.mov,[.t 9],none⟩,⟨ (some 24),.mov,[.t 4],none⟩,⟨ (some 25),.mov,[.t 6],none⟩,⟨ (some 26),.iadr 1,[.t 24,.t 25],none⟩,⟨ (some 27),.load1,[.t 26],none⟩,⟨ (some 28),.mov,[.t 7],none⟩,⟨ (some 29),.mov,[.t 8],none⟩,⟨ (some 30),.call 214,[.t 28,.t 29],none⟩,⟨ (some 31),.binI .add,[.t 27,.t 30],none⟩,⟨ (some 32),.iadr 1,[.t 22,.t 23],none⟩,⟨none,.store 1,[.t 32,.t 31],none⟩] [.op 0,.op 1,.op 2,.op 3,.op 4,.op 5,.op 6,.op 7,.op 8,.chk 5,.op 9,.op 10,.op 11])<|.reg [.set 18 (.M 75 (.P 105 (.binI .add) [.V 18,.I 1]))])<|.reg [.set 6 (.M 6 (.P 44 (.binI .sub) [.W 6 43,.I 1]))])<|.seq (.reg [.set 2 (.M 2 (.k (.bool true)))])<|.ret
def s188:SFn:=.src 9 [0,1,4] [.tmp 2]<|.seq (.reg [.set 2 (.M 4 (.k (.bool false)))])<|.seq (.reg [.set 2 (.M 4 (.P 8 (.binI .geq) [.P 7 (.call 215) [.W 0 5,.W 1 6],.I 0]))])<|.ret
def s202:SFn:=.src 115 [0,1,2,4,5,6,14] [.tmp 3]<|.seq (.reg [.set 2 (.P 2 (.box 0) [.V 0]),.set 3 (.M 4 (.k (.bool false)))])<|.seq (.reg [.set 4 (.M 5 (.P 9 .lenL [.P 8 .load1 [.P 7 (.fadr 3) [.V 2]]]))])<|.seq (.reg [.set 5 (.M 6 (.P 12 (.binI .eql) [.P 11 .load1 [.P 10 (.fadr 2) [.V 2]],.I 0]))])<|.seq (.seq (.reg [.set 6 (.P 14 .load1 [.P 13 (.fadr 0) [.V 2]])])<|.block 0<|.ifr [] (.M 15 (.P 16 (.binI .eql) [.V 6,.I 0])) (.seq (.reg [.set 3 (.M 4 (.and 22 26 (.and 18 21 (.W 5 17) (.P 20 (.binI .eql) [.W 4 19,.I 0])) (.P 25 (.call 41) [.P 24 .load1 [.P 23 (.fadr 1) [.V 2]]])))])<|.ret) (.ifr [] (.M 27 (.P 28 (.binI .eql) [.V 6,.I 1])) (.seq (.reg [.set 3 (.M 4 (.and 34 40 (.and 30 33 (.W 5 29) (.P 32 (.binI .eql) [.W 4 31,.I 0])) (.P 39 (.call 30) [.P 36 .load1 [.P 35 (.fadr 1) [.V 2]],.I 0,.P 38 (.binI .sub) [.W 1 37,.I 1]])))])<|.ret) (.ifr [] (.M 41 (.P 42 (.binI .eql) [.V 6,.I 2])) (.seq (.reg [.set 3 (.M 4 (.and 48 52 (.and 44 47 (.W 5 43) (.P 46 (.binI .leq) [.W 4 45,.I 3])) (.P 51 (.call 30) [.P 50 .load1 [.P 49 (.fadr 1) [.V 2]],.I 0,.I 7])))])<|.ret) (.ifr [] (.M 53 (.P 54 (.binI .eql) [.V 6,.I 3])) (.seq (.reg [.set 3 (.M 4 (.and 60 64 (.and 56 59 (.W 5 55) (.P 58 (.binI .leq) [.W 4 57,.I 3])) (.P 63 (.call 30) [.P 62 .load1 [.P 61 (.fadr 1) [.V 2]],.I 0,.I 99])))])<|.ret) (.ifr [] (.M 65 (.P 66 (.binI .eql) [.V 6,.I 4])) (.seq (.reg [.set 3 (.M 4 (.and 72 76 (.and 68 71 (.W 5 67) (.P 70 (.binI .eql) [.W 4 69,.I 2])) (.P 75 (.call 30) [.P 74 .load1 [.P 73 (.fadr 1) [.V 2]],.I 0,.I 4])))])<|.ret) (.ifr [] (.M 77 (.P 78 (.binI .eql) [.V 6,.I 5])) (.seq (.reg [.set 3 (.M 4 (.and 86 90 (.and 81 85 (.P 80 (.binI .eql) [.W 4 79,.I 3]) (.P 84 (.call 30) [.P 83 .load1 [.P 82 (.fadr 1) [.V 2]],.I 0,.I 99])) (.P 89 (.call 30) [.P 88 .load1 [.P 87 (.fadr 2) [.V 2]],.I 0,.I 3])))])<|.ret) (.ifr [] (.M 91 (.P 92 (.binI .eql) [.V 6,.I 6])) (.seq (.reg [.set 3 (.M 4 (.and 98 102 (.and 94 97 (.W 5 93) (.P 96 (.binI .eql) [.W 4 95,.I 2])) (.P 101 (.binI .eql) [.P 100 .load1 [.P 99 (.fadr 1) [.V 2]],.I 0])))])<|.ret) (.ifr [] (.M 103 (.P 104 (.binI .eql) [.V 6,.I 7])) (.seq (.reg [.set 3 (.M 4 (.and 110 114 (.and 106 109 (.W 5 105) (.P 108 (.binI .eql) [.W 4 107,.I 0])) (.P 113 (.binI .eql) [.P 112 .load1 [.P 111 (.fadr 1) [.V 2]],.I 0])))])<|.ret) .skip))))))))<|.seq (.reg [.set 3 (.M 4 (.k (.bool false)))])<|.ret
def s203:SFn:=.src 21 [0,1,2,4] [.tmp 3]<|.seq (.reg [.set 2 (.P 2 (.box 0) [.V 0]),.set 3 (.M 4 (.I 0))])<|.seq (.ifr [] (.and 7 11 (.P 6 (.binI .eql) [.W 1 5,.I 1]) (.P 10 (.binI .eql) [.P 9 .load1 [.P 8 (.fadr 0) [.V 2]],.I 5])) (.seq (.reg [.set 3 (.M 4 (.P 13 .load1 [.P 12 (.fadr 2) [.V 2]]))])<|.ret) .skip)<|.seq (.ifr [] (.and 16 20 (.P 15 (.binI .eql) [.W 1 14,.I 1]) (.P 19 (.binI .eql) [.P 18 .load1 [.P 17 (.fadr 0) [.V 2]],.I 6])) (.seq (.reg [.set 3 (.M 4 (.I 1))])<|.ret) .skip)<|.seq (.reg [.set 3 (.M 4 (.I 0))])<|.ret
def s212:SFn:=.src 12 [0,1,4] [.tmp 2]<|.seq (.reg [.set 2 (.M 4 (.k (.bool false)))])<|.seq (.reg [.set 2 (.M 4 (.and 7 11 (.P 6 (.binI .geq) [.W 0 5,.I 0]) (.P 10 (.binI .leq) [.W 0 8,.W 1 9])))])<|.ret
def s213:SFn:=.src 99 [0,1,4,8] [.tmp 2]<|.seq (.reg [.set 2 (.M 4 (.k (.bool false)))])<|.seq (.seq (.reg [.set 3 (.P 8 .load1 [.P 7 (.fadr 0) [.P 6 .nilCheck [.W 0 5]]])])<|.block 0<|.ifr [] (.M 9 (.P 10 (.binI .eql) [.V 3,.I 0])) (.seq (.reg [.set 2 (.M 4 (.and 16 19 (.P 15 (.call 28) [.P 14 .load1 [.P 13 (.fadr 1) [.P 12 .nilCheck [.W 0 11]]]]) (.P 18 (.call 229) [.W 0 17,.I 0,.I 0,.I 0])))])<|.ret) (.ifr [] (.M 20 (.P 21 (.binI .eql) [.V 3,.I 1])) (.seq (.reg [.set 2 (.M 4 (.and 29 32 (.P 28 (.call 212) [.P 25 .load1 [.P 24 (.fadr 1) [.P 23 .nilCheck [.W 0 22]]],.P 27 (.binI .sub) [.W 1 26,.I 1]]) (.P 31 (.call 229) [.W 0 30,.I 0,.I 0,.I 0])))])<|.ret) (.ifr [] (.M 33 (.P 34 (.binI .eql) [.V 3,.I 2])) (.seq (.reg [.set 2 (.M 4 (.and 40 43 (.P 39 (.call 212) [.P 38 .load1 [.P 37 (.fadr 1) [.P 36 .nilCheck [.W 0 35]]],.I 7]) (.P 42 (.call 229) [.W 0 41,.I 0,.I 0,.I 3])))])<|.ret) (.ifr [] (.M 44 (.P 45 (.binI .eql) [.V 3,.I 3])) (.seq (.reg [.set 2 (.M 4 (.and 51 54 (.P 50 (.call 212) [.P 49 .load1 [.P 48 (.fadr 1) [.P 47 .nilCheck [.W 0 46]]],.I 99]) (.P 53 (.call 229) [.W 0 52,.I 0,.I 0,.I 3])))])<|.ret) (.ifr [] (.M 55 (.P 56 (.binI .eql) [.V 3,.I 4])) (.seq (.reg [.set 2 (.M 4 (.and 62 65 (.P 61 (.call 212) [.P 60 .load1 [.P 59 (.fadr 1) [.P 58 .nilCheck [.W 0 57]]],.I 4]) (.P 64 (.call 229) [.W 0 63,.I 0,.I 2,.I 2])))])<|.ret) (.ifr [] (.M 66 (.P 67 (.binI .eql) [.V 3,.I 5])) (.seq (.reg [.set 2 (.M 4 (.and 73 76 (.P 72 (.call 212) [.P 71 .load1 [.P 70 (.fadr 1) [.P 69 .nilCheck [.W 0 68]]],.I 99]) (.P 75 (.call 229) [.W 0 74,.I 3,.I 3,.I 3])))])<|.ret) (.ifr [] (.M 77 (.P 78 (.binI .eql) [.V 3,.I 6])) (.seq (.reg [.set 2 (.M 4 (.and 84 87 (.P 83 (.binI .eql) [.P 82 .load1 [.P 81 (.fadr 1) [.P 80 .nilCheck [.W 0 79]]],.I 0]) (.P 86 (.call 229) [.W 0 85,.I 0,.I 2,.I 2])))])<|.ret) (.ifr [] (.M 88 (.P 89 (.binI .eql) [.V 3,.I 7])) (.seq (.reg [.set 2 (.M 4 (.and 95 98 (.P 94 (.binI .eql) [.P 93 .load1 [.P 92 (.fadr 1) [.P 91 .nilCheck [.W 0 90]]],.I 0]) (.P 97 (.call 229) [.W 0 96,.I 0,.I 0,.I 0])))])<|.ret) .skip))))))))<|.seq (.reg [.set 2 (.M 4 (.k (.bool false)))])<|.ret
def s214:SFn:=.src 24 [0,1,4] [.tmp 2]<|.seq (.reg [.set 2 (.M 4 (.I 0))])<|.seq (.block 0<|.ifr [] (.M 5 (.P 7 (.binI .neq) [.W 1 6,.I 1])) (.seq (.reg [.set 2 (.M 4 (.I 0))])<|.ret) (.ifr [] (.M 8 (.P 13 (.binI .eql) [.P 12 .load1 [.P 11 (.fadr 0) [.P 10 .nilCheck [.W 0 9]]],.I 5])) (.seq (.reg [.set 2 (.M 4 (.P 17 .load1 [.P 16 (.fadr 2) [.P 15 .nilCheck [.W 0 14]]]))])<|.ret) (.ifr [] (.M 18 (.P 23 (.binI .eql) [.P 22 .load1 [.P 21 (.fadr 0) [.P 20 .nilCheck [.W 0 19]]],.I 6])) (.seq (.reg [.set 2 (.M 4 (.I 1))])<|.ret) .skip)))<|.seq (.reg [.set 2 (.M 4 (.I 0))])<|.ret
def s215:SFn:=.src 19 [0,1,4,5,7,8,9] [.tmp 2]<|.seq (.reg [.set 2 (.M 4 (.I 0))])<|.seq (.seq (.reg [.set 4 (.P 7 .lenL [.W 0 6]),.set 5 (.M 8 (.I 0))])<|.block 0<|.loop [0,1,4,5]<|.seq (.reg [.set 6 (.P 9 (.binI .lss) [.V 5,.V 4])])<|.seq (.cond (.t 6) .skip (.exit 0))<|.seq (.block 1<|.seq (.reg [.set 3 (.M 5 (.W 5 10))])<|.ifr [] (.P 16 .callv [.W 1 11,.P 15 (.loadN 4) [.P 14 (.iadr 4) [.W 0 12,.W 3 13]]]) (.seq (.reg [.set 2 (.M 4 (.W 3 17))])<|.ret) .skip)<|.reg [.set 5 (.M 8 (.P 18 (.binI .add) [.V 5,.I 1]))])<|.seq (.reg [.set 2 (.M 4 (.I (-1)))])<|.ret
def s229:SFn:=.src 40 [0,1,2,3,8] [.tmp 4]<|.seq (.reg [.set 4 (.M 8 (.k (.bool false)))])<|.seq (.reg [.set 4 (.M 8 (.and 31 39 (.and 22 30 (.and 14 21 (.P 13 (.binI .geq) [.P 12 .load1 [.P 11 (.fadr 2) [.P 10 .nilCheck [.W 0 9]]],.I 0]) (.P 20 (.binI .leq) [.P 18 .load1 [.P 17 (.fadr 2) [.P 16 .nilCheck [.W 0 15]]],.W 1 19])) (.P 29 (.binI .geq) [.P 27 .lenL [.P 26 .load1 [.P 25 (.fadr 3) [.P 24 .nilCheck [.W 0 23]]]],.W 2 28])) (.P 38 (.binI .leq) [.P 36 .lenL [.P 35 .load1 [.P 34 (.fadr 3) [.P 33 .nilCheck [.W 0 32]]]],.W 3 37])))])<|.ret
def s261:SFn:=.src 19 [0,2,3,5,6,7] [.tmp 1]<|.seq (.reg [.set 1 (.M 2 (.k (.bool false)))])<|.seq (.seq (.reg [.set 3 (.P 5 .lenL [.W 0 4]),.set 4 (.M 6 (.I 0))])<|.block 0<|.loop [0,3,4]<|.seq (.reg [.set 5 (.P 7 (.binI .lss) [.V 4,.V 3])])<|.seq (.cond (.t 5) .skip (.exit 0))<|.seq (.block 1<|.seq (.reg [.set 2 (.M 3 (.W 4 8))])<|.ifr [] (.P 14 .notB [.P 13 (.call 270) [.P 11 (.iadr 4) [.W 0 9,.W 2 10],.W 2 12]]) (.seq (.reg [.set 1 (.M 2 (.k (.bool false)))])<|.ret) .skip)<|.reg [.set 4 (.M 6 (.P 15 (.binI .add) [.V 4,.I 1]))])<|.seq (.reg [.set 1 (.M 2 (.P 18 (.binI .gtr) [.P 17 .lenL [.W 0 16],.I 0]))])<|.ret
def s262:SFn:=.src 26 [0,1,2,4,5] [.tmp 3]<|.seq (.reg [.set 2 (.P 2 (.box 0) [.V 0]),.set 3 (.M 4 (.k (.bool false)))])<|.seq (.reg [.set 4 (.M 5 (.P 6 (.mkfn 271) [.V 2]))])<|.seq (.reg [.set 3 (.M 4 (.and 20 25 (.and 13 19 (.and 9 12 (.P 8 (.call 157) [.P 7 (.loadN 1) [.V 2]]) (.P 11 (.call 261) [.W 1 10])) (.P 18 (.binI .eql) [.P 17 .load1 [.P 16 (.fadr 0) [.P 15 (.iadr 4) [.W 1 14,.I 0]]],.I 0])) (.P 24 .notB [.P 23 (.call 272) [.W 1 21,.W 4 22]])))])<|.ret
def s270:SFn:=.src 39 [0,1,4,5] [.tmp 2]<|.seq (.reg [.set 2 (.M 4 (.k (.bool false)))])<|.seq (.reg [.set 3 (.M 5 (.or 19 29 (.and 11 18 (.P 10 (.binI .geq) [.P 9 .load1 [.P 8 (.fadr 1) [.P 7 .nilCheck [.W 0 6]]],.I 0]) (.P 17 (.binI .lss) [.P 15 .load1 [.P 14 (.fadr 1) [.P 13 .nilCheck [.W 0 12]]],.W 1 16])) (.and 22 28 (.P 21 (.binI .eql) [.W 1 20,.I 0]) (.P 27 (.binI .eql) [.P 26 .load1 [.P 25 (.fadr 1) [.P 24 .nilCheck [.W 0 23]]],.I (-1)]))))])<|.seq (.reg [.set 2 (.M 4 (.and 35 38 (.and 32 34 (.P 31 (.binI .lss) [.W 1 30,.I 512]) (.W 3 33)) (.P 37 (.call 269) [.W 0 36])))])<|.ret
def s271:SFn:=.src 23 [0,1,2,3] [.tmp 3]<|.seq (.reg [.set 2 (.P 2 (.box 0) [.V 0]),.set 3 (.M 3 (.k (.bool false)))])<|.seq (.dreg [4,5,6,7,8,9,10,11,12,13,14,15,16,17,18,19,20,21,22] [⟨ (some 4),.fadr 0,[.t 2],none⟩,⟨ (some 5),.load1,[.t 4],none⟩,⟨ (some 6),.fadr 0,[.t 1],none⟩,⟨ (some 7),.load1,[.t 6],none⟩,⟨ (some 8),.lenL,[.t 7],none⟩,⟨ (some 9),.binI .geq,[.t 5,.t 8],none⟩,⟨ (some 10),.mov,[.t 9],none⟩,⟨ (some 11),.fadr 2,[.t 2],(some (10 ,false)) ⟩,⟨ (some 12),.load1,[.t 11],(some (10 ,false)) ⟩,⟨ (some 13),.lenL,[.t 12],(some (10 ,false)) ⟩,⟨ (some 14),.fadr 0,[.t 1],(some (10 ,false)) ⟩,⟨ (some 15),.load1,[.t 14],(some (10 ,false)) ⟩,⟨ (some 16),.fadr 0,[.t 2],(some (10 ,false)) ⟩,⟨ (some 17),.load1,[.t 16],(some (10 ,false)) ⟩,⟨ (some 18),.iadr 2,[.t 15,.t 17],(some (10 ,false)) ⟩,⟨ (some 19),.fadr 0,[.t 18],(some (10 ,false)) ⟩,⟨ (some 20),.load1,[.t 19],(some (10 ,false)) ⟩,⟨ (some 21),.binI .neq,[.t 13,.t 20],(some (10 ,false)) ⟩,⟨ (some 22),.pick,[.t 10,.c (.bool true),.t 21],none⟩,⟨ (some 3),.mov,[.t 22],none⟩] [.op 0,.op 1,.op 2,.op 3,.op 4,.op 5,.op 6,.op 7,.op 8,.op 9,.op 10,.op 11,.op 12,.op 13,.op 14,.op 15,.op 16,.op 17,.op 18,.op 19])<|.ret
def s272:SFn:=.src 9 [0,1,4] [.tmp 2]<|.seq (.reg [.set 2 (.M 4 (.k (.bool false)))])<|.seq (.reg [.set 2 (.M 4 (.P 8 (.binI .geq) [.P 7 (.call 276) [.W 0 5,.W 1 6],.I 0]))])<|.ret
def s276:SFn:=.src 19 [0,1,4,5,7,8,9] [.tmp 2]<|.seq (.reg [.set 2 (.M 4 (.I 0))])<|.seq (.seq (.reg [.set 4 (.P 7 .lenL [.W 0 6]),.set 5 (.M 8 (.I 0))])<|.block 0<|.loop [0,1,4,5]<|.seq (.reg [.set 6 (.P 9 (.binI .lss) [.V 5,.V 4])])<|.seq (.cond (.t 6) .skip (.exit 0))<|.seq (.block 1<|.seq (.reg [.set 3 (.M 5 (.W 5 10))])<|.ifr [] (.P 16 .callv [.W 1 11,.P 15 (.loadN 4) [.P 14 (.iadr 4) [.W 0 12,.W 3 13]]]) (.seq (.reg [.set 2 (.M 4 (.W 3 17))])<|.ret) .skip)<|.reg [.set 5 (.M 8 (.P 18 (.binI .add) [.V 5,.I 1]))])<|.seq (.reg [.set 2 (.M 4 (.I (-1)))])<|.ret
end Am.T
end
section
namespace Am.F
open Go Am
noncomputable section
variable {β:Type} (I:FI) (N:Nat) (call:zf β) (a:List AV) (h:H) (k:K β)
def f261_J0{β:Type}(k:K β)(x0 x1 x2 x3 x4 x5:AV)(h:H):Option β :=
 qLenL x0<|.mk λv1=>
 qGtr v1 (.int .i64 0)<|.mk λv2=>
 k v2 h
def f261_J7{β:Type}(l4:Cur β 6)(x0 x1 x2 x3 x4 x5:AV)(h:H):Option β :=
 qAdd x4 (.int .i64 1)<|.mk λv8=>
 l4 x0 x1 x2 x3 v8 x5 h
def f261_J6{β:Type}(call:zf β)(k:K β)(l4:Cur β 6)(x0 x1 x2 x3 x4 x5:AV)(h:H):Option β :=
 zp 6 (.mk (
 f261_J7 l4))<|.mk λj7=>
 zbD 4 x0 x4<|.mk λv9=>
 zg call (.fn 270 []) [v9,x4] h<|.mk λv10 h=>
 qNot v10<|.mk λv11=>
 qIf v11 (.mk (
 k (.bool false) h))<|.mk (
 j7 x0 x1 x4 x3 x4 x5 h)
def f261_L4{β:Type}(call:zf β)(k:K β)(j0:Cur β 6)(l4:Cur β 6)(x0 x1 x2 x3 x4 x5:AV)(h:H):Option β :=
 qLss x4 x3<|.mk λv5=>
 zp 6 (.mk (
 f261_J6 call k l4))<|.mk λj6=>
 qIf v5 (.mk (
 j6 x0 .any .any x3 x4 v5 h))<|.mk (
 j0 x0 .any .any x3 x4 v5 h)
def f261{β:Type}(N:Nat)(call:zf β)(a:List AV)(h:H)(k:K β):Option β :=
 zp 6 (.mk (
 f261_J0 k))<|.mk λj0=>
 qLenL (nth a 0)<|.mk λv3=>
 (zcg 6 N<|.mk (
 f261_L4 call k j0)) (nth a 0) (.bool false) (nth a 3) v3 (.int .i64 0) (nth a 7) h
theorem y261:zN I 261 T.s261 N call a h k=f261 N call a h k:=by kernel_rfl
def f270{β:Type}(N:Nat)(call:zf β)(a:List AV)(h:H)(k:K β):Option β :=
 qNil (nth a 0)<|.mk λv0=>
 zF 1 v0<|.mk λv1=>
 zi v1 h<|.mk λv2=>
 qGeq v2 (.int .i64 0)<|.mk λv3=>
 qAnd v3 h (.mk λh k=>
 qNil (nth a 0)<|.mk λv4=>
 zF 1 v4<|.mk λv5=>
 zi v5 h<|.mk λv6=>
 qLss v6 (nth a 1)<|.mk λv7=>
 k v7 h)<|.mk λv8 h=>
 qOr v8 h (.mk λh k=>
 qEql (nth a 1) (.int .i64 0)<|.mk λv9=>
 qAnd v9 h (.mk λh k=>
 qNil (nth a 0)<|.mk λv10=>
 zF 1 v10<|.mk λv11=>
 zi v11 h<|.mk λv12=>
 qEql v12 (.int .i64 (-1))<|.mk λv13=>
 k v13 h)<|.mk λv14 h=>
 k v14 h)<|.mk λv15 h=>
 qLss (nth a 1) (.int .i64 512)<|.mk λv16=>
 qAnd v16 h (.mk λh k=>
 k v15 h)<|.mk λv17 h=>
 qAnd v17 h (.mk λh k=>
 zg call (.fn 269 []) [(nth a 0)] h<|.mk λv18 h=>
 k v18 h)<|.mk λv19 h=>
 k v19 h
theorem y270:zN I 270 T.s270 N call a h k=f270 N call a h k:=by kernel_rfl
def e261:Ent:=⟨261,T.s261,λ_ _=>f261,λ_=>y261⟩
def e270:Ent:=⟨270,T.s270,λ_ _=>f270,λ_=>y270⟩
structure GC (t:ETree):Prop where
 g261:t.get 261=some e261
 g270:t.get 270=some e270
section
variable {β:Type} {t:ETree} {I:FI} (n:Nat) (a:List AV) (h:H) (k:K β)
theorem GC.c261(T:GC t):za t I (n+1) (.fn 261 []) a h k=f261 n (za t I n) a h k:=by rw[cRule T.g261];rfl
theorem GC.c270(T:GC t):za t I (n+1) (.fn 270 []) a h k=f270 n (za t I n) a h k:=by rw[cRule T.g270];rfl
end
end
end Am.F
end
section
namespace Am.T
open Go
def s166:SFn:=.src 31 [0,1,2,3,4] [.tmp 4]<|.seq (.reg [.set 2 (.P 2 (.box 0) [.V 0]),.set 3 (.P 3 (.box 0) [.V 1]),.set 4 (.M 4 (.k (.bool false)))])<|.seq (.reg [.set 4 (.M 4 (.and 24 30 (.and 17 23 (.and 10 16 (.P 9 (.binI .eql) [.P 6 .load1 [.P 5 (.fadr 0) [.V 2]],.P 8 .load1 [.P 7 (.fadr 0) [.V 3]]]) (.P 15 (.binI .eql) [.P 12 .load1 [.P 11 (.fadr 1) [.V 2]],.P 14 .load1 [.P 13 (.fadr 1) [.V 3]]])) (.P 22 (.call 15) [.P 19 .load1 [.P 18 (.fadr 2) [.V 2]],.P 21 .load1 [.P 20 (.fadr 2) [.V 3]]])) (.P 29 (.binS .eql) [.P 26 .load1 [.P 25 (.fadr 3) [.V 2]],.P 28 .load1 [.P 27 (.fadr 3) [.V 3]]])))])<|.ret
def s244:SFn:=.src 26 [0,2,3,4,5,15] [.tmp 1]<|.seq (.reg [.set 1 (.M 2 (.k .nils))])<|.seq (.reg [.set 2 (.M 3 (.k .nils))])<|.seq (.seq (.reg [.set 3 (.M 4 (.I 0))])<|.block 0<|.loop [0,2,3]<|.seq (.ifr [] (.P 9 (.binI .lss) [.W 3 6,.P 8 .lenL [.W 0 7]]) .skip (.exit 0))<|.seq (.block 1<|.seq (.reg [.set 5 (.P 15 (.loadN 4) [.P 14 (.iadr 4) [.W 0 12,.W 3 13]]),.set 4 (.P 5 (.alloc 0 [.int .i64 0,.int .i64 0,.nils,.str []]) []),.ef (.op none (.store 4) [.V 4,.V 5])])<|.seq (.reg [.ef (.opr none (.store 1) (.P 20 (.fadr 2) [.V 4]) (.P 19 (.app 0 1 16) [.P 16 (.bslice 0 [] 0 []) [],.P 18 .load1 [.P 17 (.fadr 2) [.V 4]]]))])<|.reg [.set 2 (.M 3 (.P 24 (.app 0 4 56) [.W 2 21,.P 23 (.bslice 0 [.int .i64 0,.int .i64 0,.nils,.str []] 1 [(0 ,4)]) [.P 22 (.loadN 4) [.V 4]]]))])<|.reg [.set 3 (.M 4 (.P 11 (.binI .add) [.W 3 10,.I 1]))])<|.seq (.reg [.set 1 (.M 2 (.W 2 25))])<|.ret
def s258:SFn:=.src 21 [0,1,2,3,4] [.tmp 2,.tmp 3]<|.seq (.reg [.set 1 (.P 1 (.box 0) [.V 0]),.set 2 (.M 2 (.k (.str []))),.set 3 (.M 3 (.I 0))])<|.seq (.ifr [] (.P 6 .notB [.P 5 (.call 269) [.V 1]]) (.seq (.reg [.set 2 (.M 2 (.k (.str []))),.set 3 (.M 3 (.I 1400))])<|.ret) .skip)<|.seq (.dreg [7,8,9,10,11,12,13,14] [⟨ (some 5),.fadr 0,[.t 1],none⟩,⟨ (some 6),.load1,[.t 5],none⟩,⟨ (some 7),.call 29,[.t 6],none⟩,⟨ (some 8),.binS .add,[.c (.str [102]),.t 7],none⟩,⟨ (some 9),.bslice 0 [.str []] 1 [(0 ,1)],[.t 8],none⟩,⟨ (some 10),.fadr 2,[.t 1],none⟩,⟨ (some 11),.load1,[.t 10],none⟩,⟨ (some 12),.app 0 1 16,[.t 9,.t 11],none⟩,⟨ (some 4),.mov,[.t 12],none⟩] [.op 0,.op 1,.op 5,.op 6,.op 2,.chk 6,.op 3,.op 4,.chk 6,.op 7,.op 8])<|.seq (.reg [.set 2 (.M 2 (.P 20 (.call 42) [.P 19 (.app 0 1 16) [.W 4 15,.P 18 (.bslice 0 [.str [],.str []] 2 [(0 ,1),(1 ,1)]) [.k (.str [61]),.P 17 .load1 [.P 16 (.fadr 3) [.V 1]]]],.k (.str [32])])),.set 3 (.M 3 (.I 0))])<|.ret
def s269:SFn:=.src 37 [0,2] [.tmp 1]<|.seq (.reg [.set 1 (.M 2 (.k (.bool false)))])<|.seq (.reg [.set 1 (.M 2 (.and 30 36 (.and 23 29 (.and 15 22 (.and 8 14 (.P 7 (.binI .geq) [.P 6 .load1 [.P 5 (.fadr 0) [.P 4 .nilCheck [.W 0 3]]],.I 0]) (.P 13 (.binI .lss) [.P 12 .load1 [.P 11 (.fadr 0) [.P 10 .nilCheck [.W 0 9]]],.I 8])) (.P 21 (.binI .leq) [.P 20 .lenL [.P 19 .load1 [.P 18 (.fadr 2) [.P 17 .nilCheck [.W 0 16]]]],.I 3])) (.P 28 (.call 26) [.P 27 .load1 [.P 26 (.fadr 2) [.P 25 .nilCheck [.W 0 24]]]])) (.P 35 (.call 17) [.P 34 .load1 [.P 33 (.fadr 3) [.P 32 .nilCheck [.W 0 31]]]])))])<|.ret
def s295:SFn:=.src 33 [0,1,2,3,4,5] [.tmp 2,.tmp 3]<|.seq (.reg [.set 1 (.P 1 (.box 0) [.V 0]),.set 2 (.M 2 (.k (.str []))),.set 3 (.M 3 (.I 0))])<|.seq (.ifr [] (.P 8 .notB [.P 7 (.call 296) [.P 6 (.loadN 4) [.V 1]]]) (.seq (.reg [.set 2 (.M 2 (.k (.str []))),.set 3 (.M 3 (.I 1400))])<|.ret) .skip)<|.seq (.reg [.set 4 (.M 4 (.P 12 (.binS .add) [.k (.str [102]),.P 11 (.call 22) [.P 10 .load1 [.P 9 (.fadr 0) [.V 1]]]]))])<|.seq (.seq (.reg [.set 5 (.M 5 (.I 0))])<|.block 0<|.loop [1,4,5]<|.seq (.ifr [] (.P 17 (.binI .lss) [.W 5 13,.P 16 .lenL [.P 15 .load1 [.P 14 (.fadr 2) [.V 1]]]]) .skip (.exit 0))<|.seq (.block 1<|.reg [.set 4 (.M 4 (.P 27 (.binS .add) [.P 21 (.binS .add) [.W 4 20,.k (.str [32])],.P 26 .load1 [.P 25 (.iadr 1) [.P 23 .load1 [.P 22 (.fadr 2) [.V 1]],.W 5 24]]]))])<|.reg [.set 5 (.M 5 (.P 19 (.binI .add) [.W 5 18,.I 1]))])<|.seq (.reg [.set 2 (.M 2 (.P 32 (.binS .add) [.P 29 (.binS .add) [.W 4 28,.k (.str [32,61,32])],.P 31 .load1 [.P 30 (.fadr 3) [.V 1]]])),.set 3 (.M 3 (.I 0))])<|.ret
def s296:SFn:=.src 32 [0,1,2,3] [.tmp 2]<|.seq (.reg [.set 1 (.P 1 (.box 0) [.V 0]),.set 2 (.M 2 (.k (.bool false)))])<|.seq (.seq (.reg [.set 3 (.M 3 (.I 0))])<|.block 0<|.loop [1,3]<|.seq (.ifr [] (.P 8 (.binI .lss) [.W 3 4,.P 7 .lenL [.P 6 .load1 [.P 5 (.fadr 2) [.V 1]]]]) .skip (.exit 0))<|.seq (.block 1<|.ifr [] (.P 17 .notB [.P 16 (.call 18) [.P 15 .load1 [.P 14 (.iadr 1) [.P 12 .load1 [.P 11 (.fadr 2) [.V 1]],.W 3 13]]]]) (.seq (.reg [.set 2 (.M 2 (.k (.bool false)))])<|.ret) .skip)<|.reg [.set 3 (.M 3 (.P 10 (.binI .add) [.W 3 9,.I 1]))])<|.seq (.reg [.set 2 (.M 2 (.and 27 31 (.and 21 26 (.P 20 (.call 297) [.P 19 .load1 [.P 18 (.fadr 0) [.V 1]],.I 0,.I 7]) (.P 25 (.binI .leq) [.P 24 .lenL [.P 23 .load1 [.P 22 (.fadr 2) [.V 1]]],.I 3])) (.P 30 (.call 18) [.P 29 .load1 [.P 28 (.fadr 3) [.V 1]]])))])<|.ret
def s297:SFn:=.src 15 [0,1,2,6] [.tmp 3]<|.seq (.reg [.set 3 (.M 6 (.k (.bool false)))])<|.seq (.reg [.set 3 (.M 6 (.and 10 14 (.P 9 (.binI .geq) [.W 0 7,.W 1 8]) (.P 13 (.binI .leq) [.W 0 11,.W 2 12])))])<|.ret
end Am.T
end
section
namespace Am.F
open Go Am
noncomputable section
variable {β:Type} (I:FI) (N:Nat) (call:zf β) (a:List AV) (h:H) (k:K β)
def f258_J1{β:Type}(call:zf β)(k:K β)(x0 x1 x2 x3 x4:AV)(h:H):Option β :=
 zF 0 x1<|.mk λv2=>
 zi v2 h<|.mk λv3=>
 zF 2 x1<|.mk λv4=>
 zi v4 h<|.mk λv5=>
 zg call (.fn 29 []) [v3] h<|.mk λv6 h=>
 zi v4 h<|.mk λv7=>
 qChk v7 v5<|.mk (
 qSAdd (.str [102]) v6<|.mk λv8=>
 zam 0 [(.str [])] 1 [(0,1)] [v8] h<|.mk λv9 h=>
 zi v4 h<|.mk λv10=>
 qChk v10 v5<|.mk (
 qApp 0 1 16 v9 v5 h<|.mk λv11 h=>
 zF 3 x1<|.mk λv12=>
 zi v12 h<|.mk λv13=>
 zam 0 [(.str []),(.str [])] 2 [(0,1),(1,1)] [(.str [61]),v13] h<|.mk λv14 h=>
 qApp 0 1 16 v11 v14 h<|.mk λv15 h=>
 zg call (.fn 42 []) [v15,(.str [32])] h<|.mk λv16 h=>
 k (.tup [v16,(.int .i64 0)]) h))
def f258{β:Type}(N:Nat)(call:zf β)(a:List AV)(h:H)(k:K β):Option β :=
 qBox 0 (nth a 0) h<|.mk λv0 h=>
 zp 5 (.mk (
 f258_J1 call k))<|.mk λj1=>
 zg call (.fn 269 []) [v0] h<|.mk λv17 h=>
 qNot v17<|.mk λv18=>
 qIf v18 (.mk (
 k (.tup [(.str []),(.int .i64 1400)]) h))<|.mk (
 j1 (nth a 0) v0 (.str []) (.int .i64 0) (nth a 4) h)
theorem y258:zN I 258 T.s258 N call a h k=f258 N call a h k:=by kernel_rfl
def f269{β:Type}(N:Nat)(call:zf β)(a:List AV)(h:H)(k:K β):Option β :=
 qNil (nth a 0)<|.mk λv0=>
 zF 0 v0<|.mk λv1=>
 zi v1 h<|.mk λv2=>
 qGeq v2 (.int .i64 0)<|.mk λv3=>
 qAnd v3 h (.mk λh k=>
 qNil (nth a 0)<|.mk λv4=>
 zF 0 v4<|.mk λv5=>
 zi v5 h<|.mk λv6=>
 qLss v6 (.int .i64 8)<|.mk λv7=>
 k v7 h)<|.mk λv8 h=>
 qAnd v8 h (.mk λh k=>
 qNil (nth a 0)<|.mk λv9=>
 zF 2 v9<|.mk λv10=>
 zi v10 h<|.mk λv11=>
 qLenL v11<|.mk λv12=>
 qLeq v12 (.int .i64 3)<|.mk λv13=>
 k v13 h)<|.mk λv14 h=>
 qAnd v14 h (.mk λh k=>
 qNil (nth a 0)<|.mk λv15=>
 zF 2 v15<|.mk λv16=>
 zi v16 h<|.mk λv17=>
 zg call (.fn 26 []) [v17] h<|.mk λv18 h=>
 k v18 h)<|.mk λv19 h=>
 qAnd v19 h (.mk λh k=>
 qNil (nth a 0)<|.mk λv20=>
 zF 3 v20<|.mk λv21=>
 zi v21 h<|.mk λv22=>
 zg call (.fn 17 []) [v22] h<|.mk λv23 h=>
 k v23 h)<|.mk λv24 h=>
 k v24 h
theorem y269:zN I 269 T.s269 N call a h k=f269 N call a h k:=by kernel_rfl
def f295_J6{β:Type}(k:K β)(x0 x1 x2 x3 x4 x5:AV)(h:H):Option β :=
 qSAdd x4 (.str [32,61,32])<|.mk λv7=>
 zF 3 x1<|.mk λv8=>
 zi v8 h<|.mk λv9=>
 qSAdd v7 v9<|.mk λv10=>
 k (.tup [v10,(.int .i64 0)]) h
def f295_J13{β:Type}(l11:Cur β 6)(x0 x1 x2 x3 x4 x5:AV)(h:H):Option β :=
 qAdd x5 (.int .i64 1)<|.mk λv14=>
 l11 x0 x1 x2 x3 x4 v14 h
def f295_J12{β:Type}(l11:Cur β 6)(x0 x1 x2 x3 x4 x5:AV)(h:H):Option β :=
 zp 6 (.mk (
 f295_J13 l11))<|.mk λj13=>
 qSAdd x4 (.str [32])<|.mk λv15=>
 zF 2 x1<|.mk λv16=>
 zi v16 h<|.mk λv17=>
 zbD 1 v17 x5<|.mk λv18=>
 zi v18 h<|.mk λv19=>
 qSAdd v15 v19<|.mk λv20=>
 j13 x0 x1 x2 x3 v20 x5 h
def f295_L11{β:Type}(j6:Cur β 6)(l11:Cur β 6)(x0 x1 x2 x3 x4 x5:AV)(h:H):Option β :=
 zp 6 (.mk (
 f295_J12 l11))<|.mk λj12=>
 zF 2 x1<|.mk λv21=>
 zi v21 h<|.mk λv22=>
 qLenL v22<|.mk λv23=>
 qLss x5 v23<|.mk λv24=>
 qIf v24 (.mk (
 j12 .any x1 .any .any x4 x5 h))<|.mk (
 j6 .any x1 .any .any x4 x5 h)
def f295_J1{β:Type}(N:Nat)(call:zf β)(k:K β)(x0 x1 x2 x3 x4 x5:AV)(h:H):Option β :=
 zF 0 x1<|.mk λv2=>
 zi v2 h<|.mk λv3=>
 zg call (.fn 22 []) [v3] h<|.mk λv4 h=>
 qSAdd (.str [102]) v4<|.mk λv5=>
 zp 6 (.mk (
 f295_J6 k))<|.mk λj6=>
 (zcg 6 N<|.mk (
 f295_L11 j6)) x0 x1 x2 x3 v5 (.int .i64 0) h
def f295{β:Type}(N:Nat)(call:zf β)(a:List AV)(h:H)(k:K β):Option β :=
 qBox 0 (nth a 0) h<|.mk λv0 h=>
 zp 6 (.mk (
 f295_J1 N call k))<|.mk λj1=>
 zM 4 v0 h<|.mk λv25=>
 zg call (.fn 296 []) [v25] h<|.mk λv26 h=>
 qNot v26<|.mk λv27=>
 qIf v27 (.mk (
 k (.tup [(.str []),(.int .i64 1400)]) h))<|.mk (
 j1 (nth a 0) v0 (.str []) (.int .i64 0) (nth a 4) (nth a 5) h)
theorem y295:zN I 295 T.s295 N call a h k=f295 N call a h k:=by kernel_rfl
def f296_J1{β:Type}(call:zf β)(k:K β)(x0 x1 x2 x3:AV)(h:H):Option β :=
 zF 0 x1<|.mk λv2=>
 zi v2 h<|.mk λv3=>
 zg call (.fn 297 []) [v3,(.int .i64 0),(.int .i64 7)] h<|.mk λv4 h=>
 qAnd v4 h (.mk λh k=>
 zF 2 x1<|.mk λv5=>
 zi v5 h<|.mk λv6=>
 qLenL v6<|.mk λv7=>
 qLeq v7 (.int .i64 3)<|.mk λv8=>
 k v8 h)<|.mk λv9 h=>
 qAnd v9 h (.mk λh k=>
 zF 3 x1<|.mk λv10=>
 zi v10 h<|.mk λv11=>
 zg call (.fn 18 []) [v11] h<|.mk λv12 h=>
 k v12 h)<|.mk λv13 h=>
 k v13 h
def f296_J16{β:Type}(l14:Cur β 4)(x0 x1 x2 x3:AV)(h:H):Option β :=
 qAdd x3 (.int .i64 1)<|.mk λv17=>
 l14 x0 x1 x2 v17 h
def f296_J15{β:Type}(call:zf β)(k:K β)(l14:Cur β 4)(x0 x1 x2 x3:AV)(h:H):Option β :=
 zp 4 (.mk (
 f296_J16 l14))<|.mk λj16=>
 zF 2 x1<|.mk λv18=>
 zi v18 h<|.mk λv19=>
 zbD 1 v19 x3<|.mk λv20=>
 zi v20 h<|.mk λv21=>
 zg call (.fn 18 []) [v21] h<|.mk λv22 h=>
 qNot v22<|.mk λv23=>
 qIf v23 (.mk (
 k (.bool false) h))<|.mk (
 j16 x0 x1 x2 x3 h)
def f296_L14{β:Type}(call:zf β)(k:K β)(j1:Cur β 4)(l14:Cur β 4)(x0 x1 x2 x3:AV)(h:H):Option β :=
 zp 4 (.mk (
 f296_J15 call k l14))<|.mk λj15=>
 zF 2 x1<|.mk λv24=>
 zi v24 h<|.mk λv25=>
 qLenL v25<|.mk λv26=>
 qLss x3 v26<|.mk λv27=>
 qIf v27 (.mk (
 j15 .any x1 .any x3 h))<|.mk (
 j1 .any x1 .any x3 h)
def f296{β:Type}(N:Nat)(call:zf β)(a:List AV)(h:H)(k:K β):Option β :=
 qBox 0 (nth a 0) h<|.mk λv0 h=>
 zp 4 (.mk (
 f296_J1 call k))<|.mk λj1=>
 (zcg 4 N<|.mk (
 f296_L14 call k j1)) (nth a 0) v0 (.bool false) (.int .i64 0) h
theorem y296:zN I 296 T.s296 N call a h k=f296 N call a h k:=by kernel_rfl
def f297{β:Type}(N:Nat)(call:zf β)(a:List AV)(h:H)(k:K β):Option β :=
 qGeq (nth a 0) (nth a 1)<|.mk λv0=>
 qAnd v0 h (.mk λh k=>
 qLeq (nth a 0) (nth a 2)<|.mk λv1=>
 k v1 h)<|.mk λv2 h=>
 k v2 h
theorem y297:zN I 297 T.s297 N call a h k=f297 N call a h k:=by kernel_rfl
def e258:Ent:=⟨258,T.s258,λ_ _=>f258,λ_=>y258⟩
def e269:Ent:=⟨269,T.s269,λ_ _=>f269,λ_=>y269⟩
def e295:Ent:=⟨295,T.s295,λ_ _=>f295,λ_=>y295⟩
def e296:Ent:=⟨296,T.s296,λ_ _=>f296,λ_=>y296⟩
def e297:Ent:=⟨297,T.s297,λ_ _=>f297,λ_=>y297⟩
structure GB (t:ETree):Prop where
 g258:t.get 258=some e258
 g269:t.get 269=some e269
 g295:t.get 295=some e295
 g296:t.get 296=some e296
 g297:t.get 297=some e297
section
variable {β:Type} {t:ETree} {I:FI} (n:Nat) (a:List AV) (h:H) (k:K β)
theorem GB.c258(T:GB t):za t I (n+1) (.fn 258 []) a h k=f258 n (za t I n) a h k:=by rw[cRule T.g258];rfl
theorem GB.c269(T:GB t):za t I (n+1) (.fn 269 []) a h k=f269 n (za t I n) a h k:=by rw[cRule T.g269];rfl
theorem GB.c295(T:GB t):za t I (n+1) (.fn 295 []) a h k=f295 n (za t I n) a h k:=by rw[cRule T.g295];rfl
theorem GB.c296(T:GB t):za t I (n+1) (.fn 296 []) a h k=f296 n (za t I n) a h k:=by rw[cRule T.g296];rfl
theorem GB.c297(T:GB t):za t I (n+1) (.fn 297 []) a h k=f297 n (za t I n) a h k:=by rw[cRule T.g297];rfl
theorem GB.q297(T:GB t):zg (za t I (n+1)) (.fn 297 []) a h (.mk k)=f297 n (za t I n) a h k:=GB.c297 n a h k T
end
end
end Am.F
end
section
namespace Am.F
open Go Am
structure Nd where
 fn:Int
 parent:Int
 args:List (List UInt8)
 res:List UInt8
def NdAt(h:H)(a:AV)(x:Nd):Prop:=∃v,a = .agg [.int .i64 x.fn,.int .i64 x.parent,v,.str x.res]/\SlAt h v (strs x.args)
def NdIn(h:H)(b:Nat)(v:AV)(x:Nd):Prop:=(h.get b).cells=some [.int .i64 x.fn,.int .i64 x.parent,v,.str x.res]/\b<h.n/\SlAt h v (strs x.args)
theorem NdAt.ext{h h':H}{a:AV}{x:Nd}(hs:NdAt h a x)(e:Ext h h'):NdAt h' a x:=let ⟨v,h1,h2⟩:=hs;⟨v,h1,h2.ext e⟩
theorem NdIn.ext{h h':H}{b:Nat}{v:AV}{x:Nd}(hs:NdIn h b v x)(e:Ext h h'):NdIn h' b v x:=⟨by rw[e.get b hs.2.1];exact hs.1,Nat.lt_of_lt_of_le hs.2.1 e.n,hs.2.2.ext e⟩
def zah(x:Nd):Bool:=decide ((0<=x.fn/\x.fn<8)/\x.args.length<=3)&&x.args.all mayP&&mayP x.res
def zT(x:Nd):List UInt8:=Lib.join ((102::Lib.itoa x.fn)::(x.args++[[61],x.res])) [32]
theorem zhp{β:Type}{h:H}{lo bytes:Nat}{v x:AV}{cs new:List AV}{k:K β}{R:Option β}(hv:zjI h lo v cs)(hlo:lo<=h.n)(hx:SlAt h x new)(hr:cs.length+new.length<room/\bytes<=1024)
  (H1:∀v' h',zjI h' lo v' (cs++new)->h.n<=h'.n->(∀i,i<lo->h'.get i=h.get i)->k v' h'=R):fApp 0 1 bytes v x h k=R:=by
 obtain⟨b,h1,h2,h3,rfl|⟨rfl,hne⟩⟩:=hv
 ·refine zdq h3 rfl hx hr ?_ ?_
  ·intro hn;subst hn;refine H1 _ _ ⟨b,h1,h2,by rw[List.append_nil];exact h3,.inl (by rw[List.append_nil])⟩ (Nat.le_refl _) λ_ _=>rfl
  ·intro hn;refine H1 _ _ ⟨h.n,hlo,(by first|omega|(simp only[H.n_push,H.n_set];omega)),zc rfl,.inr ⟨by rw[List.length_append],by simp[hn]⟩⟩ (by first|omega|(simp only[H.n_push,H.n_set];omega)) λi hi=>by rw[zd (by omega)]
 ·refine zho (lo:=lo) (hi:=h.n) (cs:=cs) (.inr ⟨b,_,rfl,h1,h2,h3,by rw[Nat.mul_one],List.length_pos_iff.2 hne⟩) (Nat.le_refl _) hlo (λc=>hx.src c) (by rw[Nat.mul_one]) hr.1 (by omega) hr.2 ?_;intro v' h' o1 o2 o3;rcases o1 with⟨_,q⟩|⟨b',l,rfl,o4,o5,o6,o7,o8⟩
  ·exact absurd (List.append_eq_nil_iff.1 q).1 hne
  ·rw[Nat.mul_one] at o7;subst o7;exact H1 _ _ ⟨b',o4,o5,o6,.inr ⟨rfl,by simp[hne]⟩⟩ o2 λi hi=>o3 i (by omega) (.inl hi)
theorem zbe{β:Type}(b o:Nat)(k:VK β):qNil (.ptr b o) (.mk k)=k (.ptr b o):=rfl
theorem chk_p{β:Type}{h:H}{v:AV}{cs:List AV}(hv:SlAt h v cs)(c:Option β):qChk v v (.mk c)=c:=by
 show cond (AV.beq v v) c none=c;rcases hv with⟨rfl,_⟩|⟨b,o,m,g,us,rfl,_⟩
 ·rfl
 ·have:AV.beq (.sl b o cs.length m g) (.sl b o cs.length m g)=true:=by simp[AV.beq]
  rw[this];rfl
section
variable {β:Type} {t:ETree}
theorem GB.w297(T:GB t)(n:Nat)(x a b:Int)(h:H)(k:K β):zg (za t stdI (n+1)) (.fn 297 []) [.int .i64 x,.int .i64 a,.int .i64 b] h (.mk k)=k (.bool (decide (a<=x/\x<=b))) h:=by
 rw[T.q297];unfold f297
 by_cases h1:a<=x<;>simp (disch:=first|omega|simp only[zD]<;>omega|assumption) only[↓zR,↓zRM,zR,zRM,reduceAdd,reduceMul,reduceToNat,h1]
theorem GB.w269(TB:GB t)(T:GA t)(L:GI t)(n:Nat)(hn:1060<=n){h:H}{b:Nat}{v:AV}{x:Nd}(hx:NdIn h b v x)(hl:x.args.length<=9223372036854775807) :
  Sp (β:=β) (za t stdI n (.fn 269 []) [.ptr b 0] h) λu h'=>Ext h h'/\u = .bool (zah x):=by
 intro k R hk;obtain⟨m,rfl⟩:∃m,n=m+1:=⟨n-1,by omega⟩
 have hx0:=hx.1;have hlen:=hx.2.2.len (β:=β);rw[TB.c269];unfold f269
 by_cases c1:0<=x.fn
 ·by_cases c2:x.fn<8
  ·by_cases c3:x.args.length<=3
   ·simp (disch:=first|omega|simp only[zD]<;>omega|assumption) only[↓zR,↓zRM,zR,zRM,reduceAdd,reduceMul,reduceToNat,zbe,hx0,hlen];refine T.w26 L m x.args v h hx.2.2 (by omega) (by omega) _ _ ?_;intro u h1 ⟨e1,e2⟩;subst e2;have hx1:=(hx.ext e1).1;cases c4:x.args.all mayP with
    | false=>
     simp (disch:=first|omega|simp only[zD]<;>omega|assumption) only[↓zR,↓zRM,zR,zRM,reduceAdd,reduceMul,reduceToNat];exact hk _ _ ⟨e1,by unfold zah;rw[c4];simp⟩
    | true=>
     simp (disch:=first|omega|simp only[zD]<;>omega|assumption) only[↓zR,↓zRM,zR,zRM,reduceAdd,reduceMul,reduceToNat,zbe,hx1];refine T.w17 L m (by omega) _ _ _ _ ?_;intro u h2 ⟨e3,e4⟩;subst e4;exact hk _ _ ⟨e1.trans e3,by unfold zah;rw[c4,decide_eq_true ⟨⟨c1,c2⟩,c3⟩];rfl⟩
   ·simp (disch:=first|omega|simp only[zD]<;>omega|assumption) only[↓zR,↓zRM,zR,zRM,reduceAdd,reduceMul,reduceToNat,zbe,hx0,hlen];exact hk _ _ ⟨Ext.refl h,by unfold zah;rw[decide_eq_false (by omega)];rfl⟩
  ·simp (disch:=first|omega|simp only[zD]<;>omega|assumption) only[↓zR,↓zRM,zR,zRM,reduceAdd,reduceMul,reduceToNat,zbe,hx0,hlen];exact hk _ _ ⟨Ext.refl h,by unfold zah;rw[decide_eq_false (by omega)];rfl⟩
 ·simp (disch:=first|omega|simp only[zD]<;>omega|assumption) only[↓zR,↓zRM,zR,zRM,reduceAdd,reduceMul,reduceToNat,zbe,hx0,hlen];exact hk _ _ ⟨Ext.refl h,by unfold zah;rw[decide_eq_false (by omega)];rfl⟩
end
end Am.F
end
section
namespace Am
open Go Go.RowKit F
def za9:Ty:=.st [.int .i64,.int .i64,.sl .str,.str]
theorem zal{us:List AV}{a:AV}(h:us.take 1=[a]):us=a::us.drop 1:=by
 cases us with
 | nil=>cases h
 | cons b r=>simp only[List.take_succ_cons,List.take_zero,List.cons.injEq,and_true] at h;rw[h];rfl
theorem Rep.node{S:St}{h:F.H}{us:List AV}{x:Dat}(ha:F.Abs h S)(hr:Rep S za9 us x):∃(y:Nd) (no:Bool) (sp:List Dat),NdAt h (.agg us) y/\x = .st [.int y.fn,.int y.parent,.sl no (y.args.map Dat.str) sp,.str y.res] /\
  (no=true->y.args=[])/\(∀z ∈ y.args,z.length<=maxLen)/\y.res.length<=maxLen/\y.args.length<=maxLen:=by
 unfold za9 at hr;simp only[Rep,Reps,Ty.size] at hr;obtain⟨ds,rfl,d0,r0,rfl,⟨f,e0,rfl,_⟩,d1,r1,rfl,⟨p,e1,rfl,_⟩,d2,r2,rfl,h2,d3,r3,rfl,⟨s,e3,rfl,hs⟩,e4,rfl⟩:=hr;have u0:=zal e0;have u1:=zal e1;have u3:=zal e3;have hsl:Rep S (.sl .str) ((us.drop 1).drop 1 |>.take 1) d2:=by simp only[Rep,Ty.size];exact h2
 have hone:∃a,((us.drop 1).drop 1).take 1=[a]:=by
  rcases h2 with⟨h,_⟩|⟨_,_,_,_,h,_⟩
  ·exact⟨_,h⟩
  ·exact⟨_,h⟩
 obtain⟨a,e2⟩:=hone;have u2:=zal e2;rw[e2] at hsl;obtain⟨no,kids,sp,k1,rfl,k2,k3,k4⟩:=Rep.texts ha hsl;refine⟨⟨f,p,kids,s⟩,no,sp,⟨a,?_,k1⟩,rfl,k2,k3,hs,k4⟩;rw[u0,u1,u2,u3,e4]
end Am
end
section
namespace Am.F
open Go Am
theorem zbT{x:Nd}(h:zah x=true):(0<=x.fn/\x.fn<8)/\x.args.length<=3/\(∀y ∈ x.args,mayP y=true/\y.length<=1024)/\mayP x.res=true/\x.res.length<=1024:=by
 unfold zah at h;rw[Bool.and_eq_true,Bool.and_eq_true] at h;obtain⟨⟨h1,h2⟩,h3⟩:=h;have h1:=of_decide_eq_true h1;have hm:∀y,mayP y=true->y.length<=1024:=λy hy=>by
  obtain⟨u,hu⟩:=(mayP_iff y).1 hy;exact (tP_some hu).1
 exact⟨h1.1,h1.2,λy hy=>⟨List.all_eq_true.1 h2 y hy,hm y (List.all_eq_true.1 h2 y hy)⟩,h3,hm _ h3⟩
theorem za5(sep:List UInt8)(hs:sep.length<=1):∀xs:List (List UInt8),(∀y ∈ xs,y.length<=1100)->(Lib.joinTail sep xs).length<=1101*xs.length
 | [],_=>by simp[Lib.joinTail]
 | x::r,h=>by
  have ih:=za5 sep hs r λz hz=>h z (by simp[hz])
  have:=h x (by simp)
  simp only[Lib.joinTail,List.map_cons,List.flatten_cons,List.length_append,List.length_cons] at ih ⊢;omega
theorem zh1(sep:List UInt8)(hs:sep.length<=1)(xs:List (List UInt8))(h:∀y ∈ xs,y.length<=1100):(Lib.join xs sep).length<=1101*xs.length:=by
 cases xs with
 | nil=>rw[Lib.join_nil];simp
 | cons x r=>
  rw[Lib.join_cons,List.length_append,List.length_cons];have:=za5 sep hs r λz hz=>h z (by simp[hz])
  have:=h x (by simp)
  omega
theorem zcL(sep:List UInt8)(xs ys:List (List UInt8)):Lib.joinTail sep (xs++ys)=Lib.joinTail sep xs++Lib.joinTail sep ys:=by simp[Lib.joinTail]
theorem zjr(x:Nd):zT x=(102::Lib.itoa x.fn)++Lib.joinTail [32] x.args++[32,61,32]++x.res:=by
 unfold zT;rw[Lib.join_cons,zcL];simp[Lib.joinTail,List.append_assoc]
section
variable {β:Type} {t:ETree}
theorem nodeB(f p:Int)(v:AV)(r:List UInt8)(tg:Nat)(h:H)(k:K β):qBox tg (.agg [.int .i64 f,.int .i64 p,v,.str r]) h (.mk k)=k (.ptr h.n 0) (h.push (.own tg [.int .i64 f,.int .i64 p,v,.str r])):=zbR tg _ h k
theorem GB.w258(TB:GB t)(T:GA t)(L:GI t)(n:Nat)(hn:1070<=n){h:H}{a:AV}{x:Nd}(hx:NdAt h a x)(hl:x.args.length<=9223372036854775807) :
  Sp (β:=β) (za t stdI n (.fn 258 []) [a] h) λu h'=>Ext h h'/\u=if zah x=true then .tup [.str (zT x),.int .i64 0] else .tup [.str [],.int .i64 1400]:=by
 intro k R hk;obtain⟨m,rfl⟩:∃m,n=m+1:=⟨n-1,by omega⟩
 obtain⟨v,rfl,hv⟩:=hx;rw[TB.c258];unfold f258;simp (disch:=first|omega|simp only[zD]<;>omega|assumption) only[↓zR,↓zRM,zR,zRM,reduceAdd,reduceMul,reduceToNat,nodeB];have e0:Ext h (h.push (.own 0 [.int .i64 x.fn,.int .i64 x.parent,v,.str x.res])):=(Ext.refl h).push _;have hin:NdIn (h.push (.own 0 [.int .i64 x.fn,.int .i64 x.parent,v,.str x.res])) h.n v x:=⟨by rw[zc rfl];rfl,(by first|omega|(simp only[H.n_push,H.n_set];omega)),hv.ext e0⟩
 generalize hg:h.push (.own 0 [.int .i64 x.fn,.int .i64 x.parent,v,.str x.res])=hb at e0 hin ⊢;refine TB.w269 T L m (by omega) hin hl _ _ ?_;intro u h1 ⟨e1,e2⟩;subst e2;have hin1:=hin.ext e1;cases hm:zah x with
 | false=>
  simp (disch:=first|omega|simp only[zD]<;>omega|assumption) only[↓zR,↓zRM,zR,zRM,reduceAdd,reduceMul,reduceToNat];exact hk _ _ ⟨e0.trans e1,by rw[hm];rfl⟩
 | true=>
  obtain⟨⟨p1,p2⟩,p3,p4,p5,p6⟩:=zbT hm;have hx1:=hin1.1;have hs1:=hin1.2.2;have hi:=zeA (x:=x.fn) (by omega) (by omega);simp (disch:=first|omega|simp only[zD]<;>omega|assumption) only[↓zR,↓zRM,zR,zRM,reduceAdd,reduceMul,reduceToNat];unfold f258_J1;have hw29:=λkk:K β=>L.w29 (m-1) x.fn (by omega) (by omega) h1 kk
  rw[show m-1+1=m by omega] at hw29;have hlt:h.n<h1.n:=hin1.2.1;have hg1:∀b,(h1.push b).get h.n=h1.get h.n:=λb=>zd (by omega)
  simp (disch:=first|omega|simp only[zD]<;>omega|assumption) only[↓zR,↓zRM,zR,zRM,reduceAdd,reduceMul,reduceToNat,hx1,hw29,chk_p hs1,hg1];have hsn:SlAt (h1.push (.own 0 [.str ([102]++Lib.itoa x.fn)])) v (strs x.args):=hs1.ext ((Ext.refl h1).push _);refine zhp (lo:=h1.n) (cs:=strs [[102]++Lib.itoa x.fn]) ⟨h1.n,Nat.le_refl _,(by first|omega|(simp only[H.n_push,H.n_set];omega)),zc rfl,.inl rfl⟩ (by first|omega|(simp only[H.n_push,H.n_set];omega)) hsn ⟨by rw[zZ,zZ];simp only[room,List.length_cons,List.length_nil];omega,by omega⟩ ?_;intro v11 h2 f1 f2 f3;rw[H.n_push] at f2;have hc2:(h2.get h.n).cells=some [.int .i64 x.fn,.int .i64 x.parent,v,.str x.res]:=by rw[f3 _ hlt,hg1];exact hx1
  have hbs:∀(w:List UInt8) (hh:H) (kk:K β),zam 0 [.str [],.str []] 2 [(0,1),(1,1)] [.str [61],.str w] hh (.mk kk)=kk (.sl hh.n 0 2 2 none) (hh.push (.own 0 [.str [61],.str w])) :=
   λw hh kk=>fBslice_n (λ_=>rfl) hh kk
  simp (disch:=first|omega|simp only[zD]<;>omega|assumption) only[↓zR,↓zRM,zR,zRM,reduceAdd,reduceMul,reduceToNat,hc2,↓hbs];have hx2:SlAt (h2.push (.own 0 [.str [61],.str x.res])) (.sl h2.n 0 2 2 none) (strs [[61],x.res]):=.inr ⟨h2.n,0,2,none,_,rfl,(by first|omega|(simp only[H.n_push,H.n_set];omega)),by rw[zc rfl];rfl,rfl,by simp[strs]⟩;obtain⟨b2,g1,g2,g3,g4⟩:=f1;have f1':zjI (h2.push (.own 0 [.str [61],.str x.res])) h1.n v11 (strs [[102]++Lib.itoa x.fn]++strs x.args):=⟨b2,g1,(by first|omega|(simp only[H.n_push,H.n_set];omega)),by rw[zd (by omega)];exact g3,g4⟩
  refine zhp f1' (by first|omega|(simp only[H.n_push,H.n_set];omega)) hx2 ⟨by rw[List.length_append,zZ,zZ,zZ];simp only[room,List.length_cons,List.length_nil];omega,by omega⟩ ?_;intro v15 h3 i1 i2 i3;rw[H.n_push] at i2;have hcs:strs [[102]++Lib.itoa x.fn]++strs x.args++strs [[61],x.res]=strs ((102::Lib.itoa x.fn)::(x.args++[[61],x.res])):=by simp[strs]
  rw[hcs] at i1;have hj:(Lib.join ((102::Lib.itoa x.fn)::(x.args++[[61],x.res])) [32]).length<=140737488355328:=by
   refine Nat.le_trans (zh1 [32] (by simp) _ ?_) ?_
   ·intro y hy;rcases List.mem_cons.1 hy with rfl|hy
    ·simp only[List.length_cons];omega
    ·rcases List.mem_append.1 hy with hy|hy
     ·have:=(p4 y hy).2;omega
     ·rcases List.mem_cons.1 hy with rfl|hy
      ·simp
      ·rw[List.mem_singleton] at hy;rw[hy];omega
   ·simp only[List.length_cons,List.length_append,List.length_nil];omega
  have hw42:=λkk:K β=>L.w42 (m-1) i1.sl [32] (by simp only[List.length_cons,List.length_append,List.length_nil];omega) hj kk
  rw[show m-1+1=m by omega] at hw42;simp (disch:=first|omega|simp only[zD]<;>omega|assumption) only[↓zR,↓zRM,zR,zRM,reduceAdd,reduceMul,reduceToNat,hw42];refine hk _ _ ⟨(e0.trans e1).trans ⟨by omega,λi hi=>by rw[i3 i (by omega),zd (by omega),f3 i (by omega),zd (by omega)]⟩,by rw[hm];rfl⟩
theorem GB.w296(TB:GB t)(T:GA t)(n:Nat){h:H}{a:AV}{x:Nd}(hx:NdAt h a x)(hl:∀y ∈ x.args,y.length<=9223372036854775807)(hr:x.res.length<=9223372036854775807)(hL:x.args.length<=9223372036854775807)(hn:x.args.length+2100<=n) :
  Sp (β:=β) (za t stdI n (.fn 296 []) [a] h) λu h'=>Ext h h'/\u = .bool (zah x):=by
 intro k R hk;obtain⟨m,rfl⟩:∃m,n=m+2:=⟨n-2,by omega⟩
 obtain⟨v,rfl,hv⟩:=hx;rw[TB.c296];unfold f296;simp (disch:=first|omega|simp only[zD]<;>omega|assumption) only[↓zR,↓zRM,zR,zRM,reduceAdd,reduceMul,reduceToNat,nodeB];have e0:Ext h (h.push (.own 0 [.int .i64 x.fn,.int .i64 x.parent,v,.str x.res])):=(Ext.refl h).push _;have hin:NdIn (h.push (.own 0 [.int .i64 x.fn,.int .i64 x.parent,v,.str x.res])) h.n v x:=⟨by rw[zc rfl];rfl,(by first|omega|(simp only[H.n_push,H.n_set];omega)),hv.ext e0⟩
 generalize hg:h.push (.own 0 [.int .i64 x.fn,.int .i64 x.parent,v,.str x.res])=hb at e0 hin ⊢;refine zae 4 (m+1) _ _ (λi x0 x1 x2 x3 h'=>Ext hb h'/\x1 = .ptr h.n 0/\∃j:Nat,x3 = .int .i64 (j:Int)/\j+i=x.args.length/\(x.args.take j).all mayP=true) x.args.length (by omega) ?_ _ _ _ _ _ ⟨Ext.refl _,rfl,0,rfl,by omega,rfl⟩;intro l i ih x0 x1 x2 x3 h' ⟨e1,q1,j,q3,e2,e3⟩;subst q1 q3;have hin':=hin.ext e1;have hc:=hin'.1;have hs:=hin'.2.2;cases i with
 | zero=>
  have hj:j=x.args.length:=by omega
  subst hj;rw[List.take_length] at e3
  by_cases c1:0<=x.fn/\x.fn<=7
  ·by_cases c2:x.args.length<=3
   ·simp (disch:=first|omega|simp only[zD]<;>omega|assumption) only[↓zR,↓zRM,zR,zRM,reduceAdd,reduceMul,reduceToNat,↓f296_J1,↓f296_J16,↓f296_J15,↓f296_L14,hc,hs.len,TB.w297,c1];refine T.w18 (m+1) (by omega) _ hr _ _ _ ?_;intro u h1 ⟨e4,e5⟩;rw[zfn] at e5;subst e5;exact hk _ _ ⟨(e0.trans e1).trans e4,by unfold zah;rw[e3,decide_eq_true (by omega)];rfl⟩
   ·simp (disch:=first|omega|simp only[zD]<;>omega|assumption) only[↓zR,↓zRM,zR,zRM,reduceAdd,reduceMul,reduceToNat,↓f296_J1,↓f296_J16,↓f296_J15,↓f296_L14,hc,hs.len,TB.w297,c1];exact hk _ _ ⟨e0.trans e1,by unfold zah;rw[decide_eq_false (by omega)];rfl⟩
  ·simp (disch:=first|omega|simp only[zD]<;>omega|assumption) only[↓zR,↓zRM,zR,zRM,reduceAdd,reduceMul,reduceToNat,↓f296_J1,↓f296_J16,↓f296_J15,↓f296_L14,hc,hs.len,TB.w297,c1];exact hk _ _ ⟨e0.trans e1,by unfold zah;rw[decide_eq_false (by omega)];rfl⟩
 | succ i=>
  have hj:j<x.args.length:=by omega
  have hmem:x.args.getD j [] ∈ x.args:=by simp[List.getD_eq_getElem?_getD,hj]
  have htk:(x.args.take (j+1)).all mayP=(mayP (x.args.getD j [])):=by
   rw[List.take_add_one,List.all_append,e3,List.getD_eq_getElem?_getD,List.getElem?_eq_getElem hj];simp
  simp (disch:=first|omega|simp only[zD]<;>omega|assumption) only[↓zR,↓zRM,zR,zRM,reduceAdd,reduceMul,reduceToNat,↓f296_J1,↓f296_J16,↓f296_J15,↓f296_L14,hc,hs.len,hs.loadS];refine T.w18 (m+1) (by omega) _ (hl _ hmem) _ _ _ ?_;intro u h1 ⟨e4,e5⟩;rw[zfn] at e5;subst e5;cases hm:mayP (x.args.getD j []) with
  | false=>
   simp (disch:=first|omega|simp only[zD]<;>omega|assumption) only[↓zR,↓zRM,zR,zRM,reduceAdd,reduceMul,reduceToNat,↓f296_J1,↓f296_J16,↓f296_J15,↓f296_L14];have:x.args.all mayP=false:=by
    rw[Bool.eq_false_iff];intro h;rw[List.all_eq_true.1 h _ hmem] at hm;cases hm
   exact hk _ _ ⟨(e0.trans e1).trans e4,by unfold zah;rw[this];simp⟩
  | true=>
   simp (disch:=first|omega|simp only[zD]<;>omega|assumption) only[↓zR,↓zRM,zR,zRM,reduceAdd,reduceMul,reduceToNat,↓f296_J1,↓f296_J16,↓f296_J15,↓f296_L14];exact ih i (by omega) _ _ _ _ _ ⟨e1.trans e4,rfl,j+1,congrArg (AV.int .i64) (by omega),by omega,by rw[htk];exact hm⟩
theorem GB.w295(TB:GB t)(T:GA t)(n:Nat){h:H}{a:AV}{x:Nd}(hx:NdAt h a x)(hl:∀y ∈ x.args,y.length<=9223372036854775807)(hr:x.res.length<=9223372036854775807)(hL:x.args.length<=9223372036854775807)(hn:x.args.length+2200<=n) :
  Sp (β:=β) (za t stdI n (.fn 295 []) [a] h) λu h'=>Ext h h'/\u=if zah x=true then .tup [.str (zT x),.int .i64 0] else .tup [.str [],.int .i64 1400]:=by
 intro k R hk;obtain⟨m,rfl⟩:∃m,n=m+2:=⟨n-2,by omega⟩
 obtain⟨v,rfl,hv⟩:=hx;rw[TB.c295];unfold f295;simp (disch:=first|omega|simp only[zD]<;>omega|assumption) only[↓zR,↓zRM,zR,zRM,reduceAdd,reduceMul,reduceToNat,nodeB];have e0:Ext h (h.push (.own 0 [.int .i64 x.fn,.int .i64 x.parent,v,.str x.res])):=(Ext.refl h).push _;have hin:NdIn (h.push (.own 0 [.int .i64 x.fn,.int .i64 x.parent,v,.str x.res])) h.n v x:=⟨by rw[zc rfl];rfl,(by first|omega|(simp only[H.n_push,H.n_set];omega)),hv.ext e0⟩
 generalize hg:h.push (.own 0 [.int .i64 x.fn,.int .i64 x.parent,v,.str x.res])=hb at e0 hin ⊢;refine TB.w296 T (m+1) (x:=x) ⟨v,rfl,hin.2.2⟩ hl hr hL (by omega) _ _ ?_;intro u h1 ⟨e1,e2⟩;subst e2;cases hm:zah x with
 | false=>
  simp (disch:=first|omega|simp only[zD]<;>omega|assumption) only[↓zR,↓zRM,zR,zRM,reduceAdd,reduceMul,reduceToNat];exact hk _ _ ⟨e0.trans e1,by rw[hm];rfl⟩
 | true=>
  obtain⟨⟨p1,p2⟩,p3,p4,p5,p6⟩:=zbT hm;have hin1:=hin.ext e1;have hx1:=hin1.1;have hi:=zeA (x:=x.fn) (by omega) (by omega);simp (disch:=first|omega|simp only[zD]<;>omega|assumption) only[↓zR,↓zRM,zR,zRM,reduceAdd,reduceMul,reduceToNat];unfold f295_J1;simp (disch:=first|omega|simp only[zD]<;>omega|assumption) only[↓zR,↓zRM,zR,zRM,reduceAdd,reduceMul,reduceToNat,hx1];refine T.w22 (m+1) (by omega) _ (by omega) (by omega) _ _ _ ?_;intro u h2 ⟨e3,e4⟩;subst e4;simp (disch:=first|omega|simp only[zD]<;>omega|assumption) only[↓zR,↓zRM,zR,zRM,reduceAdd,reduceMul,reduceToNat];refine zae 6 (m+1) _ _ (λi x0 x1 x2 x3 x4 x5 h'=>h'=h2/\x1 = .ptr h.n 0/\∃j:Nat,x4 = .str ((102::Lib.itoa x.fn)++Lib.joinTail [32] (x.args.take j))/\x5 = .int .i64 (j:Int)/\j+i=x.args.length) x.args.length (by omega) ?_ _ _ _ _ _ _ _ ⟨rfl,rfl,0,by simp[Lib.joinTail],rfl,by omega⟩;intro l i ih x0 x1 x2 x3 x4 x5 h' ⟨q0,q1,j,q4,q5,e5⟩;subst q0 q1 q4 q5;have hin2:=hin1.ext e3;have hc:=hin2.1;have hs:=hin2.2.2;have hj3:=za5 [32] (by simp) (x.args.take j) (λy hy=>by have:=(p4 y (List.mem_of_mem_take hy)).2;omega);have hj4:(x.args.take j).length<=3:=by rw[List.length_take];omega
  cases i with
  | zero=>
   have hj:j=x.args.length:=by omega
   subst hj;rw[List.take_length] at hj3 ⊢;have hll:x.args.length<=3:=p3;have hbig:(102::Lib.itoa x.fn++Lib.joinTail [32] x.args).length<=4000:=by simp only[List.length_append,List.length_cons];rw[List.take_length] at hj4;omega
   simp (disch:=first|omega|simp only[zD]<;>omega|assumption) only[↓zR,↓zRM,zR,zRM,reduceAdd,reduceMul,reduceToNat,↓f295_J6,↓f295_J13,↓f295_J12,↓f295_L11,↓f295_J1,hc,hs.len];refine hk _ _ ⟨(e0.trans e1).trans e3,?_⟩;rw[hm,zjr];rfl
  | succ i=>
   have hj:j<x.args.length:=by omega
   have hmem:x.args.getD j [] ∈ x.args:=by simp[List.getD_eq_getElem?_getD,hj]
   have hml:=(p4 _ hmem).2;have hbig:(102::Lib.itoa x.fn++Lib.joinTail [32] (x.args.take j)).length<=4000:=by simp only[List.length_append,List.length_cons];omega
   have htk:Lib.joinTail [32] (x.args.take (j+1))=Lib.joinTail [32] (x.args.take j)++[32]++x.args.getD j []:=by
    rw[List.take_add_one,zcL,List.getD_eq_getElem?_getD,List.getElem?_eq_getElem hj];simp[Lib.joinTail]
   simp (disch:=first|omega|simp only[zD]<;>omega|assumption) only[↓zR,↓zRM,zR,zRM,reduceAdd,reduceMul,reduceToNat,↓f295_J6,↓f295_J13,↓f295_J12,↓f295_L11,↓f295_J1,hc,hs.len,hs.loadS];exact ih i (by omega) _ _ _ _ _ _ _ ⟨rfl,rfl,j+1,by rw[htk];simp only[List.append_assoc],congrArg (AV.int .i64) (by omega),by omega⟩
end
end Am.F
end
section
namespace Am.F
open Go Am
def zu(x:Nd)(w:AV):List AV:=[.int .i64 x.fn,.int .i64 x.parent,w,.str x.res]
def zjJ(h:H)(v:AV)(xs:List Nd):Prop:=(v = .nils/\xs=[])\/∃b o m g us,v = .sl b o xs.length m g/\b<h.n/\(h.get b).cells=some us/\o+xs.length*4<=us.length /\
 ∀j x,xs[j]?=some x->∃w,(us.drop (o+j*4)).take 4=zu x w/\SlAt h w (strs x.args)
theorem zjJ.ext{h h':H}{v:AV}{xs:List Nd}(hs:zjJ h v xs)(e:Ext h h'):zjJ h' v xs:=by
 rcases hs with hs|⟨b,o,m,g,us,h1,h2,h3,h4,h5⟩
 ·exact .inl hs
 ·refine .inr ⟨b,o,m,g,us,h1,Nat.lt_of_lt_of_le h2 e.n,by rw[e.get b h2];exact h3,h4,λj x hx=>?_⟩;obtain⟨w,h6,h7⟩:=h5 j x hx;exact⟨w,h6,h7.ext e⟩
section
variable {β:Type} {t:ETree}
theorem zjJ.len{h:H}{v:AV}{xs:List Nd}(hs:zjJ h v xs)(k:VK β):qLenL v (.mk k)=k (.int .i64 (xs.length:Int)):=by
 rcases hs with⟨rfl,rfl⟩|⟨b,o,m,g,us,rfl,_⟩
 ·exact zc8 k
 ·exact zdT _ _ _ _ _ k
end
end Am.F
end
section
namespace Am.F
open Go Am
def LAt{α:Type}(es:Nat)(C:H->List AV->α->Prop)(h:H)(v:AV)(xs:List α):Prop :=
 (v = .nils/\xs=[])\/∃b o m g us,v = .sl b o xs.length m g/\b<h.n/\(h.get b).cells=some us/\o+xs.length*es<=us.length/\∀j x,xs[j]?=some x->C h ((us.drop (o+j*es)).take es) x
def zic{α:Type}(C:H->List AV->α->Prop):Prop:=∀(h h':H) (cs:List AV) (x:α),C h cs x->Ext h h'->C h' cs x
theorem LAt.ext{α:Type}{es:Nat}{C:H->List AV->α->Prop}(hC:zic C){h h':H}{v:AV}{xs:List α}(hs:LAt es C h v xs)(e:Ext h h'):LAt es C h' v xs:=by
 rcases hs with hs|⟨b,o,m,g,us,h1,h2,h3,h4,h5⟩
 ·exact .inl hs
 ·exact .inr ⟨b,o,m,g,us,h1,Nat.lt_of_lt_of_le h2 e.n,by rw[e.get b h2];exact h3,h4,λj x hx=>hC _ _ _ _ (h5 j x hx) e⟩
theorem LAt.len{β α:Type}{es:Nat}{C:H->List AV->α->Prop}{h:H}{v:AV}{xs:List α}(hs:LAt es C h v xs)(k:VK β):qLenL v (.mk k)=k (.int .i64 (xs.length:Int)):=by
 rcases hs with⟨rfl,rfl⟩|⟨b,o,m,g,us,rfl,_⟩<;>rfl
theorem LAt.sc{α:Type}{es:Nat}{C:H->List AV->α->Prop}{h:H}{v:AV}{xs:List α}(hs:LAt es C h v xs):v.sc=true:=by
 rcases hs with⟨rfl,_⟩|⟨b,o,m,g,us,rfl,_⟩<;>rfl
def InAt(es:Nat)(h:H)(b o:Nat)(cs:List AV):Prop:=b<h.n/\∃us,(h.get b).cells=some us/\o+es<=us.length/\(us.drop o).take es=cs
theorem InAt.ext{es:Nat}{h h':H}{b o:Nat}{cs:List AV}(hs:InAt es h b o cs)(e:Ext h h'):InAt es h' b o cs:=by
 obtain⟨h1,us,h2,h3⟩:=hs;exact⟨Nat.lt_of_lt_of_le h1 e.n,us,by rw[e.get b h1];exact h2,h3⟩
theorem InAt.own{h:H}{b tag:Nat}{cs:List AV}(hb:b<h.n)(hg:h.get b = .own tag cs):InAt cs.length h b 0 cs:=⟨hb,cs,by rw[hg];rfl,by omega,by rw[List.drop_zero,List.take_length]⟩
theorem InAt.get{es:Nat}{h:H}{b o:Nat}{cs:List AV}(hs:InAt es h b o cs):∃us,(h.get b).cells=some us/\o+es<=us.length/\(us.drop o).take es=cs/\∀i v,cs[i]?=some v->us[o+i]?=some v:=by
 obtain⟨h1,us,h2,h3,rfl⟩:=hs;refine⟨us,h2,h3,rfl,λi v hv=>?_⟩;rw[List.getElem?_take] at hv
 by_cases hi:i<es
 ·rw[if_pos hi,List.getElem?_drop] at hv;exact hv
 ·rw[if_neg hi] at hv;cases hv
theorem LAt.at{β α:Type}{es:Nat}{C:H->List AV->α->Prop}{h:H}{v:AV}{xs:List α}(hs:LAt es C h v xs){j:Nat}{x:α}(hx:xs[j]?=some x) :
  ∃b o cs,(∀k:VK β,zbD es v (.int .i64 (j:Int)) (.mk k)=k (.ptr b o))/\InAt es h b o cs/\C h cs x:=by
 rcases hs with⟨_,rfl⟩|⟨b,o,m,g,us,rfl,h2,h3,h4,h5⟩
 ·simp at hx
 ·have hj:=(List.getElem?_eq_some_iff.1 hx).1;have hm:(j+1)*es<=xs.length*es:=Nat.mul_le_mul_right _ hj;rw[Nat.add_mul] at hm;exact⟨b,o+j*es,_,λk=>by rw[zc9 (by omega) (by omega),Int.toNat_natCast],⟨h2,us,h3,by omega,rfl⟩,h5 j x hx⟩
def ints(xs:List Int):List AV:=xs.map (.int .i64)
theorem zcs(xs:List Int):(ints xs).length=xs.length:=List.length_map ..
theorem ints_get{xs:List Int}{j:Nat}(hj:j<xs.length):(ints xs)[j]?=some (.int .i64 (xs.getD j 0)):=by simp[ints,List.getD_eq_getElem?_getD,hj]
structure Ex where
 kind:Int
 num:Int
 bind:Int
 kids:List Int
deriving DecidableEq
structure Df where
 params:Int
 body:List Ex
deriving DecidableEq
def zgD(e:Ex)(w:AV):List AV:=[.int .i64 e.kind,.int .i64 e.num,.int .i64 e.bind,w]
def ExC(h:H)(cs:List AV)(e:Ex):Prop:=∃w,cs=zgD e w/\SlAt h w (ints e.kids)
def DfC(h:H)(cs:List AV)(d:Df):Prop:=∃w,cs=[.int .i64 d.params,w]/\LAt 4 ExC h w d.body
def PgAt(h:H)(a:AV)(p:List Df):Prop:=∃v,a = .agg [v]/\LAt 2 DfC h v p
theorem ExC.stays:zic ExC:=λ_ _ _ _ ⟨w,h1,h2⟩ e=>⟨w,h1,h2.ext e⟩
theorem DfC.stays:zic DfC:=λ_ _ _ _ ⟨w,h1,h2⟩ e=>⟨w,h1,h2.ext ExC.stays e⟩
theorem PgAt.ext{h h':H}{a:AV}{p:List Df}(hs:PgAt h a p)(e:Ext h h'):PgAt h' a p:=let ⟨v,h1,h2⟩:=hs;⟨v,h1,h2.ext DfC.stays e⟩
def ExIn(h:H)(b o:Nat)(w:AV)(e:Ex):Prop:=InAt 4 h b o (zgD e w)/\SlAt h w (ints e.kids)
theorem ExIn.ext{h h':H}{b o:Nat}{w:AV}{e:Ex}(hs:ExIn h b o w e)(x:Ext h h'):ExIn h' b o w e:=⟨hs.1.ext x,hs.2.ext x⟩
theorem ExIn.get{h:H}{b o:Nat}{w:AV}{e:Ex}(hs:ExIn h b o w e)(β:Type):∃us,(h.get b).cells=some us/\(o+4<=us.length)/\(us.drop o).take 4=zgD e w /\
  us[o]?=some (.int .i64 e.kind)/\us[o+1]?=some (.int .i64 e.num)/\us[o+2]?=some (.int .i64 e.bind)/\us[o+3]?=some w/\∀k:VK β,qLenL w (.mk k)=k (.int .i64 (e.kids.length:Int)):=by
 obtain⟨us,h1,h2,h3,h4⟩:=hs.1.get;exact⟨us,h1,h2,h3,h4 0 _ rfl,h4 1 _ rfl,h4 2 _ rfl,h4 3 _ rfl,λk=>by rw[hs.2.len,zcs]⟩
def Plain(e:Ex)(bind least most:Int):Prop:=0<=e.bind/\e.bind<=bind/\least<=(e.kids.length:Int)/\(e.kids.length:Int)<=most
instance (e:Ex) (b l m:Int):Decidable (Plain e b l m):=by unfold Plain;infer_instance
def zbC(e:Ex)(lv:Int):Prop :=
 (e.kind=0/\(-32768<=e.num/\e.num<=32767)/\Plain e 0 0 0)\/(e.kind=1/\(0<=e.num/\e.num<=lv-1)/\Plain e 0 0 0)\/(e.kind=2/\(0<=e.num/\e.num<=7)/\Plain e 0 0 3) \/
 (e.kind=3/\(0<=e.num/\e.num<=99)/\Plain e 0 0 3)\/(e.kind=4/\(0<=e.num/\e.num<=4)/\Plain e 0 2 2)\/(e.kind=5/\(0<=e.num/\e.num<=99)/\Plain e 3 3 3) \/
 (e.kind=6/\e.num=0/\Plain e 0 2 2)\/(e.kind=7/\e.num=0/\Plain e 0 0 0)
instance (e:Ex) (lv:Int):Decidable (zbC e lv):=by unfold zbC;infer_instance
def more(e:Ex)(k:Int):Int:=if k=1 then (if e.kind=5 then e.bind else if e.kind=6 then 1 else 0) else 0
section
variable {β:Type} {t:ETree}
end
end Am.F
end
section
namespace Am.F
open Go Am
section
variable {β:Type} {t:ETree}
end
end Am.F
end
section
namespace Am.F
open Go Am
def zcr(i:Nat)(e:Ex):Nat->List Int->List Int->Option (List Int)
 | _,[],lv=>some lv
 | k,kid::ks,lv=>if 0<=kid/\kid<(i:Int)/\lv.getD kid.toNat 0 = -1 then zcr i e (k+1) ks (lv.set kid.toNat (lv.getD i 0+more e k)) else none
def zea(body:List Ex):Nat->List Int->Bool
 | 0,_=>true
 | i+1,lv=>match body[i]? with
  | none=>false
  | some e=>if lv.getD i 0 = -1\/8<lv.getD i 0\/¬ zbC e (lv.getD i 0) then false else
   match zcr i e 0 e.kids lv with
   | none=>false
   | some lv'=>zea body i lv'
def zjF(body:List Ex)(i:Nat):Option (List Int)->Bool
 | none=>false
 | some lv=>zea body i lv
def zb5(d:Df):List Int:=List.replicate (d.body.length-1) (-1)++[d.params]
def zdv(d:Df):Bool:=decide ((0<=d.params/\d.params<=3)/\1<=d.body.length/\d.body.length<=24)&&zea d.body d.body.length (zb5 d)
def LvOk(n:Nat)(lv:List Int):Prop:=lv.length=n/\∀q,-1<=lv.getD q 0/\lv.getD q 0<=11
theorem getD_set_eq(xs:List Int){i:Nat}(x:Int)(hi:i<xs.length):(xs.set i x).getD i 0=x:=by simp[List.getD_eq_getElem?_getD,hi]
theorem getD_set_ne(xs:List Int){i j:Nat}(x:Int)(hi:i≠j):(xs.set i x).getD j 0=xs.getD j 0:=by simp[List.getD_eq_getElem?_getD,List.getElem?_set_ne hi]
theorem LvOk.set{n:Nat}{lv:List Int}(h:LvOk n lv){i:Nat}{x:Int}(hx:-1<=x/\x<=11):LvOk n (lv.set i x):=by
 refine⟨by rw[List.length_set];exact h.1,λq=>?_⟩
 by_cases hq:i=q
 ·subst hq
  by_cases hi:i<lv.length
  ·rw[getD_set_eq _ _ hi];exact hx
  ·rw[List.set_eq_of_length_le (by omega)];exact h.2 i
 ·rw[getD_set_ne _ _ hq];exact h.2 q
theorem zbC.bind{e:Ex}{lv:Int}(h:zbC e lv):0<=e.bind/\e.bind<=3:=by
 unfold zbC Plain at h;rcases h with h|h|h|h|h|h|h|h<;>omega
theorem more_le{e:Ex}(h:0<=e.bind/\e.bind<=3)(k:Int):0<=more e k/\more e k<=3:=by
 unfold more;split<;>(try split)<;>(try split)<;>omega
theorem bodyGo_s(body:List Ex)(i:Nat)(lv:List Int){e:Ex}(he:body[i]?=some e)(h1:¬ lv.getD i 0 = -1)(h2:¬ 8<lv.getD i 0)(h3:zbC e (lv.getD i 0)) :
  zea body (i+1) lv=zjF body i (zcr i e 0 e.kids lv):=by
 show (match body[i]? with|none=>false|some e=>_)=_;rw[he];show (if _ then _ else _)=_;rw[if_neg (by simp only[h1,h2,h3,not_true_eq_false,or_self,not_false_eq_true])];cases zcr i e 0 e.kids lv<;>rfl
theorem zeR(body:List Ex)(i:Nat)(lv:List Int){e:Ex}(he:body[i]?=some e)(h:lv.getD i 0 = -1\/8<lv.getD i 0\/¬ zbC e (lv.getD i 0)):zea body (i+1) lv=false:=by
 show (match body[i]? with|none=>false|some e=>_)=_;rw[he];show (if _ then _ else _)=_;rw[if_pos h]
end Am.F
end
section
namespace Am.F
open Go Am
def DMem(h h':H)(bx:List AV)(lv:List Int):Prop:=h.n+2<=h'.n/\(∀q,q<h.n->h'.get q=h.get q)/\h'.get h.n = .own 0 bx/\h'.get (h.n+1) = .own 0 (ints lv)
theorem DMem.base{h h':H}{bx:List AV}{lv:List Int}(d:DMem h h' bx lv):Ext h h':=⟨by have:=d.1;omega,d.2.1⟩
theorem DMem.ext{h h' h'':H}{bx:List AV}{lv:List Int}(d:DMem h h' bx lv)(e:Ext h' h''):DMem h h'' bx lv:=by
 obtain⟨d1,d2,d3,d4⟩:=d;refine⟨by have:=e.n;omega,λq hq=>by rw[e.get q (by omega),d2 q hq],by rw[e.get _ (by omega),d3],by rw[e.get _ (by omega),d4]⟩
theorem DMem.set{h h':H}{bx:List AV}{lv:List Int}(d:DMem h h' bx lv)(lv':List Int):DMem h (h'.set (h.n+1) (.own 0 (ints lv'))) bx lv':=by
 obtain⟨d1,d2,d3,d4⟩:=d;refine⟨by rw[H.n_set];exact d1,λq hq=>by rw[zk (by omega),d2 q hq],by rw[zk (by omega),d3],zaj rfl⟩
theorem DMem.mk{h:H}(bx:List AV)(lv:List Int):DMem h ((h.push (.own 0 bx)).push (.own 0 (ints lv))) bx lv :=
 ⟨by rw[H.n_push,H.n_push];omega,λq hq=>by rw[zd (by rw[H.n_push];omega),zd (by omega)],by rw[zd (by rw[H.n_push];omega),zc rfl],zc (by rw[H.n_push])⟩
section
variable {β:Type} {t:ETree}
end
end Am.F
end
section
namespace Am.F
open Go Am
section
variable {β:Type} {t:ETree}
end
end Am.F
end
section
namespace Am.F
open Go Am
def zcj(p:List Df)(j:Int):Int:=((p[j.toNat]?).map Df.params).getD 0
def Odd(p:List Df)(e:Ex):Prop:=e.kind=2/\((p.length:Int)<=e.num\/¬ (e.kids.length:Int)=zcj p e.num)
instance (p:List Df) (e:Ex):Decidable (Odd p e):=by unfold Odd;infer_instance
def defIn(p:List Df)(d:Df):Bool:=zdv d&&d.body.all λe=>!decide (Odd p e)
def zgl(p:List Df):Bool:=decide ((1<=p.length/\p.length<=8)/\zcj p 0=0)&&p.all (defIn p)
theorem zbC.call{e:Ex}{l:Int}(h:zbC e l)(h2:e.kind=2):0<=e.num/\e.num<=7:=by
 unfold zbC at h;rcases h with h|h|h|h|h|h|h|h<;>omega
theorem zd6{d:Df}(h:zdv d=true):d.body.length<=24/\1<=d.body.length:=by
 unfold zdv at h;rw[Bool.and_eq_true] at h;have:=of_decide_eq_true h.1
 omega
theorem zbC.kids{e:Ex}{l:Int}(h:zbC e l):e.kids.length<=3:=by
 unfold zbC Plain at h;rcases h with h|h|h|h|h|h|h|h<;>omega
section
variable {β:Type} {t:ETree}
def oddIn(p:List Df)(body:List Ex):Bool:=body.any λe=>decide (Odd p e)
theorem defIn_eq(p:List Df)(d:Df):defIn p d=(zdv d&&!oddIn p d.body):=by
 unfold defIn oddIn;congr 1;rw[List.not_any_eq_all_not]
theorem ziI{p:List Df}(h:zgl p=true):(1<=p.length/\p.length<=8)/\zcj p 0=0/\∀d ∈ p,zdv d=true/\oddIn p d.body=false:=by
 unfold zgl at h;rw[Bool.and_eq_true,List.all_eq_true] at h;refine⟨(of_decide_eq_true h.1).1,(of_decide_eq_true h.1).2,λd hd=>?_⟩;have:=h.2 d hd
 rw[defIn_eq,Bool.and_eq_true] at this;exact⟨this.1,by simpa using this.2⟩
end
end Am.F
end
section
namespace Am.F
open Go Am
section
variable {β:Type} {t:ETree}
end
end Am.F
end
