/- Texts that belong together: no condition. -/
import Derived.Test.YtginckfdokjjpaaDoorAmJc
set_option maxRecDepth 100000
set_option linter.unusedVariables false
set_option linter.unusedSimpArgs false
set_option linter.defProp false
section
namespace Am.T
open Go
def s10:SFn:=.src 12 [0,2,3] [.tmp 1]<|.seq (.reg [.set 1 (.M 2 (.k .nils))])<|.seq (.reg [.set 2 (.M 3 (.P 7 (.app 0 1 16) [.P 5 (.call 23) [.W 0 4],.P 6 (.bslice 0 [.str [],.str []] 2 [(0 ,1),(1 ,1)]) [.k (.str [126,114,111,111,109]),.k (.str [126,98,101,104,105,110,100])]]))])<|.seq (.reg [.set 1 (.M 2 (.P 11 (.slL 1 false true false) [.W 2 8,.P 10 .lenL [.W 0 9]]))])<|.ret
def s11:SFn:=.src 25 [0,2,3,4,5,6,7,8,14,17,18,19,20,21,22,23,24] [.tmp 1,.tmp 2,.tmp 3,.tmp 4]<|.seq (.reg [.set 1 (.M 2 (.I 0)),.set 2 (.M 3 (.I 0)),.set 3 (.M 4 (.k .nils)),.set 4 (.M 5 (.I 0))])<|.seq (.ifr [] (.P 13 .notB [.P 12 (.call 17) [.W 0 11]]) (.seq (.reg [.set 1 (.M 2 (.I 0)),.set 2 (.M 3 (.I 0)),.set 3 (.M 4 (.k .nils)),.set 4 (.M 5 (.I 200))])<|.ret) .skip)<|.seq (.reg [.set 8 (.M 14 (.P 16 (.call 24) [.W 0 15])),.set 9 (.P 17 (.ext 0) [.V 8]),.set 10 (.P 18 (.ext 1) [.V 8]),.set 11 (.P 19 (.ext 2) [.V 8]),.set 12 (.P 20 (.ext 3) [.V 8]),.set 13 (.P 21 (.ext 4) [.V 8]),.set 5 (.M 6 (.V 9)),.set 6 (.M 7 (.V 10)),.set 7 (.M 8 (.V 11)),.ef (.W 12 9),.ef (.W 13 10)])<|.seq (.reg [.set 14 (.M 22 (.V 5)),.set 15 (.M 23 (.V 6)),.set 16 (.M 24 (.V 7)),.set 1 (.M 2 (.V 14)),.set 2 (.M 3 (.V 15)),.set 3 (.M 4 (.V 16)),.set 4 (.M 5 (.I 0))])<|.ret
def s12:SFn:=.src 23 [0,2,3,4,5,6,11] [.tmp 1,.tmp 2,.tmp 3,.tmp 4]<|.seq (.reg [.set 1 (.M 2 (.I 0)),.set 2 (.M 3 (.I 0)),.set 3 (.M 4 (.k .nils)),.set 4 (.M 5 (.I 0))])<|.seq (.ifr [] (.P 9 (.binI .gtr) [.P 8 .lenS [.W 0 7],.I 1024]) (.seq (.reg [.set 1 (.M 2 (.I 0)),.set 2 (.M 3 (.I 0)),.set 3 (.M 4 (.k .nils)),.set 4 (.M 5 (.I 200))])<|.ret) .skip)<|.seq (.reg [.set 6 (.P 11 (.call 25) [.W 0 10,.I 0]),.set 5 (.P 6 (.alloc 0 [.int .i64 0,.int .i64 0,.nils,.int .i64 0]) []),.ef (.op none (.store 4) [.V 5,.V 6])])<|.seq (.ifr [] (.P 16 (.binI .neq) [.P 13 .load1 [.P 12 (.fadr 3) [.V 5]],.P 15 .lenS [.W 0 14]]) (.seq (.reg [.set 1 (.M 2 (.I 0)),.set 2 (.M 3 (.I 0)),.set 3 (.M 4 (.k .nils)),.set 4 (.M 5 (.I 200))])<|.ret) .skip)<|.seq (.dreg [17,18,19,20,21,22] [⟨ (some 7),.fadr 0,[.t 5],none⟩,⟨ (some 8),.load1,[.t 7],none⟩,⟨ (some 9),.fadr 1,[.t 5],none⟩,⟨ (some 10),.load1,[.t 9],none⟩,⟨ (some 11),.fadr 2,[.t 5],none⟩,⟨ (some 12),.load1,[.t 11],none⟩,⟨ (some 1),.mov,[.t 8],none⟩,⟨ (some 2),.mov,[.t 10],none⟩,⟨ (some 3),.mov,[.t 12],none⟩,⟨ (some 4),.mov,[.c (.int .i64 0)],none⟩] [.op 0,.op 1,.op 2,.op 3,.op 4,.op 5,.op 6,.op 7,.op 8,.op 9])<|.ret
def s13:SFn:=.src 63 [0,1,2,6,7,8] [.tmp 3,.tmp 4]<|.seq (.reg [.set 3 (.M 6 (.k (.str []))),.set 4 (.M 7 (.I 0))])<|.seq (.reg [.set 5 (.M 8 (.k (.str [])))])<|.seq (.block 0<|.ifr [] (.M 9 (.and 25 28 (.and 20 24 (.and 16 19 (.and 12 15 (.P 11 (.binI .eql) [.W 0 10,.I 2]) (.P 14 (.binI .geq) [.W 1 13,.I 0])) (.P 18 (.binI .leq) [.W 1 17,.I 99])) (.P 23 (.binI .leq) [.P 22 .lenL [.W 2 21],.I 3])) (.P 27 (.call 26) [.W 2 26]))) (.reg [.set 5 (.M 8 (.P 31 (.call 27) [.W 1 29,.W 2 30]))]) (.ifr [] (.M 32 (.P 35 (.binI .gtr) [.P 34 .lenL [.W 2 33],.I 0])) .skip (.ifr [] (.M 36 (.and 39 42 (.P 38 (.binI .eql) [.W 0 37,.I 0]) (.P 41 (.binI .eql) [.W 1 40,.I 0]))) (.reg [.set 5 (.M 8 (.k (.str [95])))]) (.ifr [] (.M 43 (.and 46 49 (.P 45 (.binI .eql) [.W 0 44,.I 3]) (.P 48 (.binI .eql) [.W 1 47,.I 0]))) (.reg [.set 5 (.M 8 (.k (.str [33])))]) (.ifr [] (.M 50 (.and 53 56 (.P 52 (.binI .eql) [.W 0 51,.I 1]) (.P 55 (.call 28) [.W 1 54]))) (.reg [.set 5 (.M 8 (.P 58 (.call 29) [.W 1 57]))]) .skip)))))<|.seq (.ifr [] (.P 61 .notB [.P 60 (.call 17) [.W 5 59]]) (.seq (.reg [.set 3 (.M 6 (.k (.str []))),.set 4 (.M 7 (.I 200))])<|.ret) .skip)<|.seq (.reg [.set 3 (.M 6 (.W 5 62)),.set 4 (.M 7 (.I 0))])<|.ret
def s14:SFn:=.src 70 [0,1,2,6,7,8,9,10,11,12,21,44,47,48,49,50] [.tmp 3,.tmp 4]<|.seq (.reg [.set 3 (.M 6 (.k (.str []))),.set 4 (.M 7 (.I 0))])<|.seq (.ifr [] (.or 16 20 (.P 15 (.binI .gtr) [.P 14 .lenL [.W 2 13],.I 3]) (.P 19 .notB [.P 18 (.call 30) [.W 1 17,.I (-32768),.I 32767]])) (.seq (.reg [.set 3 (.M 6 (.k (.str []))),.set 4 (.M 7 (.I 200))])<|.ret) .skip)<|.seq (.reg [.set 5 (.M 8 (.k (.str [])))])<|.seq (.seq (.reg [.set 10 (.M 21 (.V 0))])<|.block 0<|.ifr [] (.M 22 (.P 23 (.binI .eql) [.V 10,.I 0])) (.reg [.set 5 (.M 8 (.k (.str [95])))]) (.ifr [] (.M 24 (.P 25 (.binI .eql) [.V 10,.I 3])) (.reg [.set 5 (.M 8 (.k (.str [33])))]) (.ifr [] (.M 26 (.P 27 (.binI .eql) [.V 10,.I 1])) (.reg [.set 5 (.M 8 (.P 29 (.call 22) [.W 1 28]))]) (.ifr [] (.M 30 (.P 31 (.binI .eql) [.V 10,.I 2])) (.seq (.reg [.set 5 (.M 8 (.P 34 (.binS .add) [.k (.str [64]),.P 33 (.call 22) [.W 1 32]]))])<|.ifr [] (.P 37 (.binI .gtr) [.P 36 .lenL [.W 2 35],.I 0]) (.reg [.set 5 (.M 8 (.P 43 (.binS .add) [.P 42 (.binS .add) [.P 39 (.binS .add) [.W 5 38,.k (.str [40])],.P 41 (.call 31) [.W 2 40]],.k (.str [41])]))]) .skip) .skip))))<|.seq (.reg [.set 11 (.M 44 (.P 46 (.call 12) [.W 5 45])),.set 12 (.P 47 (.ext 0) [.V 11]),.set 13 (.P 48 (.ext 1) [.V 11]),.set 14 (.P 49 (.ext 2) [.V 11]),.set 15 (.P 50 (.ext 3) [.V 11]),.set 6 (.M 9 (.V 12)),.set 7 (.M 10 (.V 13)),.set 8 (.M 11 (.V 14)),.set 9 (.M 12 (.V 15))])<|.seq (.ifr [] (.or 63 68 (.or 58 62 (.or 53 57 (.P 52 (.binI .neq) [.W 9 51,.I 0]) (.P 56 (.binI .neq) [.W 6 54,.W 0 55])) (.P 61 (.binI .neq) [.W 7 59,.W 1 60])) (.P 67 .notB [.P 66 (.call 32) [.W 8 64,.W 2 65]])) (.seq (.reg [.set 3 (.M 6 (.k (.str []))),.set 4 (.M 7 (.I 200))])<|.ret) .skip)<|.seq (.reg [.set 3 (.M 6 (.W 5 69)),.set 4 (.M 7 (.I 0))])<|.ret
def s15:SFn:=.src 26 [0,1,4,5,25] [.tmp 2]<|.seq (.reg [.set 2 (.M 4 (.k (.bool false)))])<|.seq (.ifr [] (.P 10 (.binI .neq) [.P 7 .lenL [.W 0 6],.P 9 .lenL [.W 1 8]]) (.seq (.reg [.set 2 (.M 4 (.k (.bool false)))])<|.ret) .skip)<|.seq (.seq (.reg [.set 3 (.M 5 (.I 0))])<|.block 0<|.loop [0,1,3]<|.seq (.ifr [] (.P 14 (.binI .lss) [.W 3 11,.P 13 .lenL [.W 0 12]]) .skip (.exit 0))<|.seq (.block 1<|.seq (.dreg [17,18,19,20,21,22,23,24] [⟨ (some 5),.mov,[.t 0],none⟩,⟨ (some 6),.mov,[.t 3],none⟩,⟨ (some 7),.iadr 1,[.t 5,.t 6],none⟩,⟨ (some 8),.load1,[.t 7],none⟩,⟨ (some 9),.mov,[.t 1],none⟩,⟨ (some 10),.mov,[.t 3],none⟩,⟨ (some 11),.iadr 1,[.t 9,.t 10],none⟩,⟨ (some 12),.load1,[.t 11],none⟩,⟨ (some 4),.binS .neq,[.t 8,.t 12],none⟩] [.op 0,.op 1,.op 2,.op 3,.op 4,.op 5,.op 6,.op 7,.op 8])<|.cond (.t 4) (.seq (.reg [.set 2 (.M 4 (.k (.bool false)))])<|.ret) .skip)<|.reg [.set 3 (.M 5 (.P 16 (.binI .add) [.W 3 15,.I 1]))])<|.seq (.reg [.set 2 (.M 4 (.k (.bool true)))])<|.ret
def s16:SFn:=.src 4 [0,2] [.tmp 1]<|.seq (.reg [.set 1 (.M 2 (.I 0))])<|.seq (.reg [.set 1 (.M 2 (.W 0 3))])<|.ret
def s17:SFn:=.src 24 [0,2,6,7,11,14,15,16,17,18] [.tmp 1]<|.seq (.reg [.set 1 (.M 2 (.k (.bool false)))])<|.seq (.ifr [] (.P 10 (.binI .gtr) [.P 9 .lenS [.W 0 8],.I 1024]) (.seq (.reg [.set 1 (.M 2 (.k (.bool false)))])<|.ret) .skip)<|.seq (.reg [.set 4 (.M 11 (.P 13 (.call 24) [.W 0 12])),.set 5 (.P 14 (.ext 0) [.V 4]),.set 6 (.P 15 (.ext 1) [.V 4]),.set 7 (.P 16 (.ext 2) [.V 4]),.set 8 (.P 17 (.ext 3) [.V 4]),.set 9 (.P 18 (.ext 4) [.V 4]),.ef (.W 5 3),.ef (.W 6 4),.ef (.W 7 5),.set 2 (.M 6 (.V 8)),.set 3 (.M 7 (.V 9))])<|.seq (.reg [.set 1 (.M 2 (.and 20 23 (.W 3 19) (.P 22 (.binS .eql) [.W 2 21,.k (.str [])])))])<|.ret
def s18:SFn:=.src 16 [0,2,6,7,10,11,12,13] [.tmp 1]<|.seq (.reg [.set 1 (.M 2 (.k (.bool false)))])<|.seq (.reg [.set 3 (.M 7 (.P 9 (.call 12) [.W 0 8])),.set 4 (.P 10 (.ext 0) [.V 3]),.set 5 (.P 11 (.ext 1) [.V 3]),.set 6 (.P 12 (.ext 2) [.V 3]),.set 7 (.P 13 (.ext 3) [.V 3]),.ef (.W 4 3),.ef (.W 5 4),.ef (.W 6 5),.set 2 (.M 6 (.V 7))])<|.seq (.reg [.set 1 (.M 2 (.P 15 (.binI .eql) [.W 2 14,.I 0]))])<|.ret
def s19:SFn:=.src 17 [0,2,9,10] []<|.seq (.reg [.set 1 (.M 2 (.I 0))])<|.block 0<|.loop [0,1]<|.seq (.ifr [] (.P 6 (.binI .lss) [.W 1 3,.P 5 .lenL [.W 0 4]]) .skip (.exit 0))<|.seq (.block 1<|.reg [.set 2 (.M 9 (.V 0)),.set 3 (.M 10 (.V 1)),.ef (.opr none (.store 1) (.P 16 (.iadr 1) [.V 2,.V 3]) (.P 15 (.binS .add) [.k (.str [126]),.P 14 .load1 [.P 13 (.iadr 1) [.W 0 11,.W 1 12]]]))])<|.reg [.set 1 (.M 2 (.P 8 (.binI .add) [.W 1 7,.I 1]))]
def s20:SFn:=.src 31 [0,1,4,5] [.tmp 2]<|.seq (.reg [.set 2 (.M 4 (.k (.bool false)))])<|.seq (.reg [.set 3 (.M 5 (.P 10 (.slL 1 false true false) [.W 0 6,.P 9 (.binI .add) [.P 8 .lenL [.W 0 7],.I 2]]))])<|.seq (.reg [.set 2 (.M 4 (.and 22 30 (.and 14 21 (.P 13 (.call 15) [.W 0 11,.W 1 12]) (.P 20 (.binS .eql) [.P 19 .load1 [.P 18 (.iadr 1) [.W 3 15,.P 17 .lenL [.W 1 16]]],.k (.str [126,114,111,111,109])])) (.P 29 (.binS .eql) [.P 28 .load1 [.P 27 (.iadr 1) [.W 3 23,.P 26 (.binI .add) [.P 25 .lenL [.W 1 24],.I 1]]],.k (.str [126,98,101,104,105,110,100])])))])<|.ret
def s22:SFn:=.src 37 [0,2,3,4] [.tmp 1]<|.seq (.reg [.set 1 (.M 2 (.k (.str [])))])<|.seq (.reg [.set 2 (.M 3 (.P 6 (.conv .u64) [.W 0 5]))])<|.seq (.ifr [] (.P 8 (.binI .lss) [.W 0 7,.I 0]) (.reg [.set 2 (.M 3 (.P 13 (.binI .add) [.P 12 (.conv .u64) [.P 11 .negI [.P 10 (.binI .add) [.W 0 9,.I 1]]],.k (.int .u64 1)]))]) .skip)<|.seq (.reg [.set 3 (.M 4 (.k .nils))])<|.seq (.block 0<|.loop [0,2,3]<|.seq (.ifr [] (.or 16 20 (.P 15 (.binI .gtr) [.W 2 14,.k (.int .u64 0)]) (.P 19 (.binI .eql) [.P 18 .lenL [.W 3 17],.I 0])) .skip (.exit 0))<|.block 1<|.seq (.reg [.set 3 (.M 4 (.P 27 (.app 0 1 1) [.P 25 (.bslice 0 [.int .u8 0] 1 [(0 ,1)]) [.P 24 (.conv .u8) [.P 23 (.binI .add) [.k (.int .u64 48),.P 22 (.binI .rem) [.W 2 21,.k (.int .u64 10)]]]],.W 3 26]))])<|.reg [.set 2 (.M 3 (.P 29 (.binI .quo) [.W 2 28,.k (.int .u64 10)]))])<|.seq (.ifr [] (.P 31 (.binI .lss) [.W 0 30,.I 0]) (.reg [.set 3 (.M 4 (.P 34 (.app 0 1 1) [.P 32 (.bslice 0 [.int .u8 0] 1 [(0 ,1)]) [.k (.int .u8 45)],.W 3 33]))]) .skip)<|.seq (.reg [.set 1 (.M 2 (.P 36 .b2s [.W 3 35]))])<|.ret
def s23:SFn:=.src 6 [0,2] [.tmp 1]<|.seq (.reg [.set 1 (.M 2 (.k .nils))])<|.seq (.reg [.set 1 (.M 2 (.P 5 (.app 0 1 16) [.P 3 (.bslice 0 [] 0 []) [],.W 0 4]))])<|.ret
def s24:SFn:=.src 94 [0,2,3,4,5,6,7,8,9,10,11,12,13,14,18,19,20,21,22,25,26,29,32,33,36,37,39,40,41,44,45,53,54,55,61,64,65,66,67,68,80,81,85,88,89,90,91,92,93] [.tmp 1,.tmp 2,.tmp 3,.tmp 4,.tmp 5]<|.seq (.reg [.set 1 (.M 2 (.I 0)),.set 2 (.M 3 (.I 0)),.set 3 (.M 4 (.k .nils)),.set 4 (.M 5 (.k (.str []))),.set 5 (.M 6 (.k (.bool false)))])<|.seq (.reg [.set 18 (.M 22 (.P 24 (.call 33) [.W 0 23])),.set 19 (.P 25 (.ext 0) [.V 18]),.set 20 (.P 26 (.ext 1) [.V 18]),.set 6 (.M 7 (.V 19)),.set 7 (.M 8 (.V 20))])<|.seq (.ifr [] (.P 28 (.binS .eql) [.W 6 27,.k (.str [95])]) (.seq (.reg [.set 21 (.M 29 (.V 7)),.set 1 (.M 2 (.I 0)),.set 2 (.M 3 (.I 0)),.set 3 (.M 4 (.k .nils)),.set 4 (.M 5 (.V 21)),.set 5 (.M 6 (.k (.bool true)))])<|.ret) .skip)<|.seq (.ifr [] (.P 31 (.binS .eql) [.W 6 30,.k (.str [33])]) (.seq (.reg [.set 22 (.M 32 (.V 7)),.set 1 (.M 2 (.I 3)),.set 2 (.M 3 (.I 0)),.set 3 (.M 4 (.k .nils)),.set 4 (.M 5 (.V 22)),.set 5 (.M 6 (.k (.bool true)))])<|.ret) .skip)<|.seq (.seq (.reg [.set 23 (.M 33 (.P 35 (.call 34) [.W 6 34])),.set 24 (.P 36 (.ext 0) [.V 23]),.set 25 (.P 37 (.ext 1) [.V 23]),.set 8 (.M 9 (.V 24)),.set 9 (.M 10 (.V 25))])<|.ifr [] (.W 9 38) (.seq (.reg [.set 26 (.M 39 (.V 8)),.set 27 (.M 40 (.V 7)),.set 1 (.M 2 (.I 1)),.set 2 (.M 3 (.V 26)),.set 3 (.M 4 (.k .nils)),.set 4 (.M 5 (.V 27)),.set 5 (.M 6 (.k (.bool true)))])<|.ret) .skip)<|.seq (.reg [.set 28 (.M 41 (.P 43 (.call 35) [.W 6 42])),.set 29 (.P 44 (.ext 0) [.V 28]),.set 30 (.P 45 (.ext 1) [.V 28]),.set 10 (.M 11 (.V 29)),.set 11 (.M 12 (.V 30))])<|.seq (.ifr [] (.or 48 52 (.P 47 .notB [.W 11 46]) (.P 51 .notB [.P 50 (.call 36) [.W 7 49,.k (.str [40])]])) (.seq (.reg [.set 31 (.M 53 (.V 10)),.set 32 (.M 54 (.V 7)),.set 33 (.M 55 (.V 11)),.set 1 (.M 2 (.I 2)),.set 2 (.M 3 (.V 31)),.set 3 (.M 4 (.k .nils)),.set 4 (.M 5 (.V 32)),.set 5 (.M 6 (.V 33))])<|.ret) .skip)<|.seq (.reg [.set 12 (.M 13 (.k .nils))])<|.seq (.block 0<|.loop [7,10,12]<|.seq (.ifr [] (.P 58 (.binI .lss) [.P 57 .lenL [.W 12 56],.I 3]) .skip (.exit 0))<|.block 1<|.seq (.reg [.set 13 (.M 14 (.P 60 (.slS true false) [.W 7 59,.I 1]))])<|.seq (.reg [.set 34 (.M 61 (.P 63 (.call 24) [.W 13 62])),.set 35 (.P 64 (.ext 0) [.V 34]),.set 36 (.P 65 (.ext 1) [.V 34]),.set 37 (.P 66 (.ext 2) [.V 34]),.set 38 (.P 67 (.ext 3) [.V 34]),.set 39 (.P 68 (.ext 4) [.V 34]),.ef (.W 35 15),.ef (.W 36 16),.ef (.W 37 17),.set 14 (.M 18 (.V 38)),.set 15 (.M 19 (.V 39))])<|.seq (.ifr [] (.P 70 .notB [.W 15 69]) (.seq (.reg [.set 1 (.M 2 (.I 0)),.set 2 (.M 3 (.I 0)),.set 3 (.M 4 (.k .nils)),.set 4 (.M 5 (.k (.str []))),.set 5 (.M 6 (.k (.bool false)))])<|.ret) .skip)<|.seq (.reg [.set 40 (.P 80 (.app 0 1 16) [.W 12 71,.P 79 (.bslice 0 [.str []] 1 [(0 ,1)]) [.P 78 (.slS false true) [.W 13 72,.P 77 (.binI .sub) [.P 74 .lenS [.W 13 73],.P 76 .lenS [.W 14 75]]]]]),.set 41 (.M 81 (.V 14)),.set 12 (.M 13 (.V 40)),.set 7 (.M 8 (.V 41))])<|.ifr [] (.P 84 .notB [.P 83 (.call 36) [.W 7 82,.k (.str [32])]]) (.exit 0) .skip)<|.seq (.reg [.set 42 (.M 85 (.P 87 (.call 37) [.W 7 86,.k (.str [41])])),.set 43 (.P 88 (.ext 0) [.V 42]),.set 44 (.P 89 (.ext 1) [.V 42]),.set 16 (.M 20 (.V 43)),.set 17 (.M 21 (.V 44))])<|.seq (.reg [.set 45 (.M 90 (.V 10)),.set 46 (.M 91 (.V 12)),.set 47 (.M 92 (.V 16)),.set 48 (.M 93 (.V 17)),.set 1 (.M 2 (.I 2)),.set 2 (.M 3 (.V 45)),.set 3 (.M 4 (.V 46)),.set 4 (.M 5 (.V 47)),.set 5 (.M 6 (.V 48))])<|.ret
def s25:SFn:=.src 122 [0,1,4,5,6,7,8,9,10,11,19,32,38,39,52,74,80,81,102,107,108] [.cellN 2 4]<|.seq (.reg [.set 2 (.P 4 (.alloc 0 [.int .i64 0,.int .i64 0,.nils,.int .i64 0]) [])])<|.seq (.ifr [] (.P 15 (.binI .geq) [.W 1 12,.P 14 .lenS [.W 0 13]]) (.seq (.reg [.ef (.op none (.store 4) [.V 2,.P 16 (.call 38) []])])<|.ret) .skip)<|.seq (.seq (.reg [.set 10 (.P 19 .idxS [.W 0 17,.W 1 18])])<|.block 0<|.ifr [] (.M 20 (.P 21 (.binI .eql) [.V 10,.k (.int .u8 95)])) (.seq (.reg [.ef (.op none (.store 4) [.V 2,.P 24 (.build [.int .i64 0,.int .i64 0,.nils,.int .i64 0] [(0 ,1),(3 ,1)]) [.I 0,.P 23 (.binI .add) [.W 1 22,.I 1]]])])<|.ret) (.ifr [] (.M 25 (.P 26 (.binI .eql) [.V 10,.k (.int .u8 33)])) (.seq (.reg [.ef (.op none (.store 4) [.V 2,.P 29 (.build [.int .i64 0,.int .i64 0,.nils,.int .i64 0] [(0 ,1),(3 ,1)]) [.I 3,.P 28 (.binI .add) [.W 1 27,.I 1]]])])<|.ret) (.ifr [] (.M 30 (.P 31 (.binI .eql) [.V 10,.k (.int .u8 64)])) (.seq (.reg [.set 11 (.M 32 (.P 37 (.call 39) [.P 36 (.slS true false) [.W 0 33,.P 35 (.binI .add) [.W 1 34,.I 1]]])),.set 12 (.P 38 (.ext 0) [.V 11]),.set 13 (.P 39 (.ext 1) [.V 11]),.set 3 (.M 5 (.V 12)),.set 4 (.M 6 (.V 13))])<|.seq (.ifr [] (.or 42 45 (.P 41 (.binI .eql) [.W 4 40,.I 0]) (.P 44 (.binI .gtr) [.W 3 43,.I 99])) (.seq (.reg [.ef (.op none (.store 4) [.V 2,.P 46 (.call 38) []])])<|.ret) .skip)<|.seq (.reg [.set 14 (.P 52 (.build [.int .i64 0,.int .i64 0,.nils,.int .i64 0] [(0 ,1),(1 ,1),(3 ,1)]) [.I 2,.W 3 47,.P 51 (.binI .add) [.P 49 (.binI .add) [.W 1 48,.I 1],.W 4 50]]),.set 5 (.P 7 (.alloc 0 [.int .i64 0,.int .i64 0,.nils,.int .i64 0]) []),.ef (.op none (.store 4) [.V 5,.V 14])])<|.seq (.ifr [] (.and 58 64 (.P 57 (.binI .lss) [.P 54 .load1 [.P 53 (.fadr 3) [.V 5]],.P 56 .lenS [.W 0 55]]) (.P 63 (.binI .eql) [.P 62 .idxS [.W 0 59,.P 61 .load1 [.P 60 (.fadr 3) [.V 5]]],.k (.int .u8 40)])) (.seq (.reg [.ef (.op none (.store 4) [.V 2,.P 70 (.call 40) [.W 0 65,.P 66 (.loadN 4) [.V 5],.P 69 (.binI .add) [.P 68 .load1 [.P 67 (.fadr 3) [.V 5]],.I 1]]])])<|.ret) .skip)<|.seq (.reg [.ef (.op none (.store 4) [.V 2,.P 71 (.loadN 4) [.V 5]])])<|.ret) (.ifr [] (.M 72 (.P 73 (.binI .eql) [.V 10,.k (.int .u8 45)])) (.seq (.reg [.set 15 (.M 74 (.P 79 (.call 39) [.P 78 (.slS true false) [.W 0 75,.P 77 (.binI .add) [.W 1 76,.I 1]]])),.set 16 (.P 80 (.ext 0) [.V 15]),.set 17 (.P 81 (.ext 1) [.V 15]),.set 6 (.M 8 (.V 16)),.set 7 (.M 9 (.V 17))])<|.seq (.ifr [] (.or 88 93 (.or 84 87 (.P 83 (.binI .eql) [.W 7 82,.I 0]) (.P 86 (.binI .eql) [.W 6 85,.I 0])) (.P 92 .notB [.P 91 (.call 41) [.P 90 .negI [.W 6 89]]])) (.seq (.reg [.ef (.op none (.store 4) [.V 2,.P 94 (.call 38) []])])<|.ret) .skip)<|.seq (.reg [.ef (.op none (.store 4) [.V 2,.P 101 (.build [.int .i64 0,.int .i64 0,.nils,.int .i64 0] [(0 ,1),(1 ,1),(3 ,1)]) [.I 1,.P 96 .negI [.W 6 95],.P 100 (.binI .add) [.P 98 (.binI .add) [.W 1 97,.I 1],.W 7 99]]])])<|.ret) .skip))))<|.seq (.reg [.set 18 (.M 102 (.P 106 (.call 39) [.P 105 (.slS true false) [.W 0 103,.W 1 104]])),.set 19 (.P 107 (.ext 0) [.V 18]),.set 20 (.P 108 (.ext 1) [.V 18]),.set 8 (.M 10 (.V 19)),.set 9 (.M 11 (.V 20))])<|.seq (.ifr [] (.or 111 115 (.P 110 (.binI .eql) [.W 9 109,.I 0]) (.P 114 .notB [.P 113 (.call 41) [.W 8 112]])) (.seq (.reg [.ef (.op none (.store 4) [.V 2,.P 116 (.call 38) []])])<|.ret) .skip)<|.seq (.reg [.ef (.op none (.store 4) [.V 2,.P 121 (.build [.int .i64 0,.int .i64 0,.nils,.int .i64 0] [(0 ,1),(1 ,1),(3 ,1)]) [.I 1,.W 8 117,.P 120 (.binI .add) [.W 1 118,.W 9 119]]])])<|.ret
def s26:SFn:=.src 15 [0,2,4,5,6,7,8] [.tmp 1]<|.seq (.reg [.set 1 (.M 2 (.k (.bool false)))])<|.seq (.seq (.reg [.set 3 (.M 5 (.V 0)),.set 4 (.P 6 .lenL [.V 3]),.set 5 (.M 7 (.I 0))])<|.block 0<|.loop [3,4,5]<|.seq (.reg [.set 6 (.P 8 (.binI .lss) [.V 5,.V 4])])<|.seq (.cond (.t 6) .skip (.exit 0))<|.seq (.block 1<|.seq (.reg [.set 2 (.M 4 (.P 10 .load1 [.P 9 (.iadr 1) [.V 3,.V 5]]))])<|.ifr [] (.P 13 .notB [.P 12 (.call 17) [.W 2 11]]) (.seq (.reg [.set 1 (.M 2 (.k (.bool false)))])<|.ret) .skip)<|.reg [.set 5 (.M 7 (.P 14 (.binI .add) [.V 5,.I 1]))])<|.seq (.reg [.set 1 (.M 2 (.k (.bool true)))])<|.ret
def s27:SFn:=.src 19 [0,1,4,5] [.tmp 2]<|.seq (.reg [.set 2 (.M 4 (.k (.str [])))])<|.seq (.reg [.set 3 (.M 5 (.P 8 (.binS .add) [.k (.str [64]),.P 7 (.call 29) [.W 0 6]]))])<|.seq (.ifr [] (.P 11 (.binI .gtr) [.P 10 .lenL [.W 1 9],.I 0]) (.reg [.set 3 (.M 5 (.P 17 (.binS .add) [.W 3 12,.P 16 (.binS .add) [.P 15 (.binS .add) [.k (.str [40]),.P 14 (.call 42) [.W 1 13,.k (.str [32])]],.k (.str [41])]]))]) .skip)<|.seq (.reg [.set 2 (.M 4 (.W 3 18))])<|.ret
def s28:SFn:=.src 9 [0,2] [.tmp 1]<|.seq (.reg [.set 1 (.M 2 (.k (.bool false)))])<|.seq (.reg [.set 1 (.M 2 (.and 5 8 (.P 4 (.binI .geq) [.W 0 3,.I (-32768)]) (.P 7 (.binI .leq) [.W 0 6,.I 32767])))])<|.ret
def s30:SFn:=.src 15 [0,1,2,6] [.tmp 3]<|.seq (.reg [.set 3 (.M 6 (.k (.bool false)))])<|.seq (.reg [.set 3 (.M 6 (.and 10 14 (.P 9 (.binI .geq) [.W 0 7,.W 1 8]) (.P 13 (.binI .leq) [.W 0 11,.W 2 12])))])<|.ret
def s31:SFn:=.src 22 [0,2,3,4] [.tmp 1]<|.seq (.reg [.set 1 (.M 2 (.k (.str [])))])<|.seq (.reg [.set 2 (.M 3 (.k (.str [])))])<|.seq (.seq (.reg [.set 3 (.M 4 (.I 0))])<|.block 0<|.loop [0,2,3]<|.seq (.ifr [] (.P 8 (.binI .lss) [.W 3 5,.P 7 .lenL [.W 0 6]]) .skip (.exit 0))<|.seq (.block 1<|.seq (.ifr [] (.P 12 (.binI .gtr) [.W 3 11,.I 0]) (.reg [.set 2 (.M 3 (.P 14 (.binS .add) [.W 2 13,.k (.str [32])]))]) .skip)<|.reg [.set 2 (.M 3 (.P 20 (.binS .add) [.W 2 15,.P 19 .load1 [.P 18 (.iadr 1) [.W 0 16,.W 3 17]]]))])<|.reg [.set 3 (.M 4 (.P 10 (.binI .add) [.W 3 9,.I 1]))])<|.seq (.reg [.set 1 (.M 2 (.W 2 21))])<|.ret
def s32:SFn:=.src 26 [0,1,4,5,25] [.tmp 2]<|.seq (.reg [.set 2 (.M 4 (.k (.bool false)))])<|.seq (.ifr [] (.P 10 (.binI .neq) [.P 7 .lenL [.W 0 6],.P 9 .lenL [.W 1 8]]) (.seq (.reg [.set 2 (.M 4 (.k (.bool false)))])<|.ret) .skip)<|.seq (.seq (.reg [.set 3 (.M 5 (.I 0))])<|.block 0<|.loop [0,1,3]<|.seq (.ifr [] (.P 14 (.binI .lss) [.W 3 11,.P 13 .lenL [.W 0 12]]) .skip (.exit 0))<|.seq (.block 1<|.seq (.dreg [17,18,19,20,21,22,23,24] [⟨ (some 5),.mov,[.t 0],none⟩,⟨ (some 6),.mov,[.t 3],none⟩,⟨ (some 7),.iadr 1,[.t 5,.t 6],none⟩,⟨ (some 8),.load1,[.t 7],none⟩,⟨ (some 9),.mov,[.t 1],none⟩,⟨ (some 10),.mov,[.t 3],none⟩,⟨ (some 11),.iadr 1,[.t 9,.t 10],none⟩,⟨ (some 12),.load1,[.t 11],none⟩,⟨ (some 4),.binS .neq,[.t 8,.t 12],none⟩] [.op 0,.op 1,.op 2,.op 3,.op 4,.op 5,.op 6,.op 7,.op 8])<|.cond (.t 4) (.seq (.reg [.set 2 (.M 4 (.k (.bool false)))])<|.ret) .skip)<|.reg [.set 3 (.M 5 (.P 16 (.binI .add) [.W 3 15,.I 1]))])<|.seq (.reg [.set 2 (.M 4 (.k (.bool true)))])<|.ret
def s33:SFn:=.src 17 [0,2,3,4] [.tmp 1,.tmp 2]<|.seq (.reg [.set 1 (.M 2 (.k (.str []))),.set 2 (.M 3 (.k (.str [])))])<|.seq (.reg [.set 3 (.M 4 (.P 6 (.call 44) [.W 0 5,.k (.str [32,40,41])]))])<|.seq (.ifr [] (.P 8 (.binI .lss) [.W 3 7,.I 0]) (.reg [.set 3 (.M 4 (.P 10 .lenS [.W 0 9]))]) .skip)<|.seq (.dreg [11,12,13,14,15,16] [⟨ (some 4),.mov,[.t 0],none⟩,⟨ (some 5),.mov,[.t 3],none⟩,⟨ (some 6),.slS false true,[.t 4,.t 5],none⟩,⟨ (some 7),.mov,[.t 0],none⟩,⟨ (some 8),.mov,[.t 3],none⟩,⟨ (some 9),.slS true false,[.t 7,.t 8],none⟩,⟨ (some 1),.mov,[.t 6],none⟩,⟨ (some 2),.mov,[.t 9],none⟩] [.op 0,.op 1,.op 2,.op 3,.op 4,.op 5,.op 6,.op 7])<|.ret
def s34:SFn:=.src 24 [0,2,3,4,5,6,9,10,11,23] [.tmp 1,.tmp 2]<|.seq (.reg [.set 1 (.M 2 (.I 0)),.set 2 (.M 3 (.k (.bool false)))])<|.seq (.reg [.set 5 (.M 6 (.P 8 (.call 45) [.W 0 7])),.set 6 (.P 9 (.ext 0) [.V 5]),.set 7 (.P 10 (.ext 1) [.V 5]),.set 3 (.M 4 (.V 6)),.set 4 (.M 5 (.V 7))])<|.seq (.reg [.set 8 (.M 11 (.V 3)),.set 9 (.and 18 23 (.and 14 17 (.P 13 (.isNil .ifc false) [.W 4 12]) (.P 16 (.call 28) [.W 3 15])) (.P 22 (.binS .eql) [.P 20 (.call 29) [.W 3 19],.W 0 21])),.set 1 (.M 2 (.V 8)),.set 2 (.M 3 (.V 9))])<|.ret
def s35:SFn:=.src 23 [0,2,3,4,5,6,7,8,11,12,13,16,17,18,22] [.tmp 1,.tmp 2]<|.seq (.reg [.set 1 (.M 2 (.I 0)),.set 2 (.M 3 (.k (.bool false)))])<|.seq (.reg [.set 7 (.M 8 (.P 10 (.call 37) [.W 0 9,.k (.str [64])])),.set 8 (.P 11 (.ext 0) [.V 7]),.set 9 (.P 12 (.ext 1) [.V 7]),.set 3 (.M 4 (.V 8)),.set 4 (.M 5 (.V 9))])<|.seq (.reg [.set 10 (.M 13 (.P 15 (.call 46) [.W 3 14,.I 99])),.set 11 (.P 16 (.ext 0) [.V 10]),.set 12 (.P 17 (.ext 1) [.V 10]),.set 5 (.M 6 (.V 11)),.set 6 (.M 7 (.V 12))])<|.seq (.reg [.set 13 (.M 18 (.V 5)),.set 14 (.and 20 22 (.W 4 19) (.W 6 21)),.set 1 (.M 2 (.V 13)),.set 2 (.M 3 (.V 14))])<|.ret
def s36:SFn:=.src 8 [0,1,4] [.tmp 2]<|.seq (.reg [.set 2 (.M 4 (.k (.bool false)))])<|.seq (.reg [.set 2 (.M 4 (.P 7 (.call 47) [.W 0 5,.W 1 6]))])<|.ret
def s37:SFn:=.src 11 [0,1,4,5,8,9,10] [.tmp 2,.tmp 3]<|.seq (.reg [.set 2 (.M 4 (.k (.str []))),.set 3 (.M 5 (.k (.bool false)))])<|.seq (.reg [.set 4 (.P 8 (.call 48) [.W 0 6,.W 1 7]),.set 5 (.P 9 (.ext 0) [.V 4]),.set 6 (.P 10 (.ext 1) [.V 4]),.set 2 (.M 4 (.V 5)),.set 3 (.M 5 (.V 6))])<|.ret
def s38:SFn:=.src 2 [0] [.cellN 0 4]<|.seq (.reg [.set 0 (.P 0 (.alloc 0 [.int .i64 0,.int .i64 0,.nils,.int .i64 0]) [])])<|.seq (.reg [.ef (.op none (.store 4) [.V 0,.P 1 (.build [.int .i64 0,.int .i64 0,.nils,.int .i64 0] [(3 ,1)]) [.I (-1)]])])<|.ret
def s39:SFn:=.src 47 [0,2,3,4,5,45,46] [.tmp 1,.tmp 2]<|.seq (.reg [.set 1 (.M 2 (.I 0)),.set 2 (.M 3 (.I 0))])<|.seq (.reg [.set 3 (.M 4 (.I 0)),.set 4 (.M 5 (.I 0))])<|.seq (.block 0<|.loop [0,3,4]<|.seq (.ifr [] (.and 26 34 (.and 20 25 (.and 14 19 (.and 10 13 (.P 9 (.binI .lss) [.W 4 6,.P 8 .lenS [.W 0 7]]) (.P 12 (.binI .lss) [.W 4 11,.I 6])) (.P 18 (.binI .geq) [.P 17 .idxS [.W 0 15,.W 4 16],.k (.int .u8 48)])) (.P 24 (.binI .leq) [.P 23 .idxS [.W 0 21,.W 4 22],.k (.int .u8 57)])) (.or 29 33 (.P 28 (.binI .eql) [.W 4 27,.I 0]) (.P 32 (.binI .neq) [.P 31 .idxS [.W 0 30,.I 0],.k (.int .u8 48)]))) .skip (.exit 0))<|.block 1<|.seq (.reg [.set 3 (.M 4 (.P 42 (.binI .add) [.P 36 (.binI .mul) [.I 10,.W 3 35],.P 41 (.conv .i64) [.P 40 (.binI .sub) [.P 39 .idxS [.W 0 37,.W 4 38],.k (.int .u8 48)]]]))])<|.reg [.set 4 (.M 5 (.P 44 (.binI .add) [.W 4 43,.I 1]))])<|.seq (.reg [.set 5 (.M 45 (.V 3)),.set 6 (.M 46 (.V 4)),.set 1 (.M 2 (.V 5)),.set 2 (.M 3 (.V 6))])<|.ret
def s40:SFn:=.src 56 [0,1,2,4,6,7,14] [.cellN 4 4]<|.seq (.reg [.set 3 (.P 4 (.box 0) [.V 1]),.set 4 (.P 6 (.alloc 0 [.int .i64 0,.int .i64 0,.nils,.int .i64 0]) [])])<|.seq (.block 0<|.loop [0,2,3,4]<|.seq (.ifr [] (.P 11 (.binI .lss) [.P 10 .lenL [.P 9 .load1 [.P 8 (.fadr 2) [.V 3]]],.I 3]) .skip (.exit 0))<|.block 1<|.seq (.reg [.set 6 (.P 14 (.call 25) [.W 0 12,.W 2 13]),.set 5 (.P 7 (.alloc 0 [.int .i64 0,.int .i64 0,.nils,.int .i64 0]) []),.ef (.op none (.store 4) [.V 5,.V 6])])<|.seq (.ifr [] (.or 18 24 (.P 17 (.binI .lss) [.P 16 .load1 [.P 15 (.fadr 3) [.V 5]],.I 0]) (.P 23 (.binI .geq) [.P 20 .load1 [.P 19 (.fadr 3) [.V 5]],.P 22 .lenS [.W 0 21]])) (.seq (.reg [.ef (.op none (.store 4) [.V 4,.P 25 (.call 38) []])])<|.ret) .skip)<|.seq (.dreg [26,27,28,29,30,31,32,33,34,35] [⟨ (some 7),.fadr 2,[.t 3],none⟩,⟨ (some 8),.load1,[.t 7],none⟩,⟨ (some 9),.mov,[.t 0],none⟩,⟨ (some 10),.mov,[.t 2],none⟩,⟨ (some 11),.fadr 3,[.t 5],none⟩,⟨ (some 12),.load1,[.t 11],none⟩,⟨ (some 13),.slS true true,[.t 9,.t 10,.t 12],none⟩,⟨ (some 14),.bslice 0 [.str []] 1 [(0 ,1)],[.t 13],none⟩,⟨ (some 15),.app 0 1 16,[.t 8,.t 14],none⟩,⟨ (some 16),.fadr 2,[.t 3],none⟩,⟨none,.store 1,[.t 16,.t 15],none⟩] [.op 0,.op 1,.op 2,.op 3,.op 4,.op 5,.op 6,.op 7,.chk 1,.op 8,.op 9,.op 10])<|.seq (.ifr [] (.P 40 (.binI .eql) [.P 39 .idxS [.W 0 36,.P 38 .load1 [.P 37 (.fadr 3) [.V 5]]],.k (.int .u8 41)]) (.seq (.reg [.ef (.opr none (.store 1) (.P 44 (.fadr 3) [.V 3]) (.P 43 (.binI .add) [.P 42 .load1 [.P 41 (.fadr 3) [.V 5]],.I 1]))])<|.seq (.reg [.ef (.op none (.store 4) [.V 4,.P 45 (.loadN 4) [.V 3]])])<|.ret) .skip)<|.seq (.ifr [] (.P 50 (.binI .neq) [.P 49 .idxS [.W 0 46,.P 48 .load1 [.P 47 (.fadr 3) [.V 5]]],.k (.int .u8 32)]) (.seq (.reg [.ef (.op none (.store 4) [.V 4,.P 51 (.call 38) []])])<|.ret) .skip)<|.reg [.set 2 (.M 2 (.P 54 (.binI .add) [.P 53 .load1 [.P 52 (.fadr 3) [.V 5]],.I 1]))])<|.seq (.reg [.ef (.op none (.store 4) [.V 4,.P 55 (.call 38) []])])<|.ret
def s41:SFn:=.src 5 [0,2] [.tmp 1]<|.seq (.reg [.set 1 (.M 2 (.k (.bool false)))])<|.seq (.reg [.set 1 (.M 2 (.P 4 (.call 30) [.W 0 3,.I (-32768),.I 32767]))])<|.ret
def s46:SFn:=.src 31 [0,1,4,5,6,7,8,11,12,13,30] [.tmp 2,.tmp 3]<|.seq (.reg [.set 2 (.M 4 (.I 0)),.set 3 (.M 5 (.k (.bool false)))])<|.seq (.reg [.set 6 (.M 8 (.P 10 (.call 45) [.W 0 9])),.set 7 (.P 11 (.ext 0) [.V 6]),.set 8 (.P 12 (.ext 1) [.V 6]),.set 4 (.M 6 (.V 7)),.set 5 (.M 7 (.V 8))])<|.seq (.reg [.set 9 (.M 13 (.V 4)),.set 10 (.and 25 30 (.and 20 24 (.and 16 19 (.P 15 (.isNil .ifc false) [.W 5 14]) (.P 18 (.binI .geq) [.W 4 17,.I 0])) (.P 23 (.binI .leq) [.W 4 21,.W 1 22])) (.P 29 (.binS .eql) [.P 27 (.call 29) [.W 4 26],.W 0 28])),.set 2 (.M 4 (.V 9)),.set 3 (.M 5 (.V 10))])<|.ret
def s47:SFn:=.src 18 [0,1,4] [.tmp 2]<|.seq (.reg [.set 2 (.M 4 (.k (.bool false)))])<|.seq (.reg [.set 2 (.M 4 (.and 10 17 (.P 9 (.binI .geq) [.P 6 .lenS [.W 0 5],.P 8 .lenS [.W 1 7]]) (.P 16 (.binS .eql) [.P 14 (.slS false true) [.W 0 11,.P 13 .lenS [.W 1 12]],.W 1 15])))])<|.ret
def s48:SFn:=.src 15 [0,1,4,5] [.tmp 2,.tmp 3]<|.seq (.reg [.set 2 (.M 4 (.k (.str []))),.set 3 (.M 5 (.k (.bool false)))])<|.seq (.ifr [] (.P 9 .notB [.P 8 (.call 47) [.W 0 6,.W 1 7]]) (.seq (.reg [.set 2 (.M 4 (.W 0 10)),.set 3 (.M 5 (.k (.bool false)))])<|.ret) .skip)<|.seq (.reg [.set 2 (.M 4 (.P 14 (.slS true false) [.W 0 11,.P 13 .lenS [.W 1 12]])),.set 3 (.M 5 (.k (.bool true)))])<|.ret
end Am.T
end
section
namespace Am.F
open Go Am
noncomputable section
variable {β:Type} (I:FI) (N:Nat) (call:zc β) (a:List AV) (h:H) (k:K β)
def f15_J1{β:Type}(k:K β)(x0 x1 x2 x3 x4:AV)(h:H):Option β :=
 k (.bool true) h
def f15_J4{β:Type}(l2:Cur β 5)(x0 x1 x2 x3 x4:AV)(h:H):Option β :=
 qAdd x3 (.int .i64 1)<|.mk λv5=>
 l2 x0 x1 x2 v5 x4 h
def f15_J3{β:Type}(k:K β)(l2:Cur β 5)(x0 x1 x2 x3 x4:AV)(h:H):Option β :=
 zaj 5 (.mk (
 f15_J4 l2))<|.mk λj4=>
 zdf 1 x0 x3<|.mk λv6=>
 zJ v6 h<|.mk λv7=>
 zdf 1 x1 x3<|.mk λv8=>
 zJ v8 h<|.mk λv9=>
 qSNeq v7 v9<|.mk λv10=>
 qIf v10 (.mk (
 k (.bool false) h))<|.mk (
 j4 x0 x1 x2 x3 v10 h)
def f15_L2{β:Type}(k:K β)(j1:Cur β 5)(l2:Cur β 5)(x0 x1 x2 x3 x4:AV)(h:H):Option β :=
 zaj 5 (.mk (
 f15_J3 k l2))<|.mk λj3=>
 qLenL x0<|.mk λv11=>
 qLss x3 v11<|.mk λv12=>
 qIf v12 (.mk (
 j3 x0 x1 .any x3 .any h))<|.mk (
 j1 x0 x1 .any x3 .any h)
def f15_J0{β:Type}(N:Nat)(k:K β)(x0 x1 x2 x3 x4:AV)(h:H):Option β :=
 zaj 5 (.mk (
 f15_J1 k))<|.mk λj1=>
 (zgF 5 N<|.mk (
 f15_L2 k j1)) x0 x1 x2 (.int .i64 0) x4 h
def f15{β:Type}(N:Nat)(call:zc β)(a:List AV)(h:H)(k:K β):Option β :=
 zaj 5 (.mk (
 f15_J0 N k))<|.mk λj0=>
 qLenL (nth a 0)<|.mk λv13=>
 qLenL (nth a 1)<|.mk λv14=>
 qNeq v13 v14<|.mk λv15=>
 qIf v15 (.mk (
 k (.bool false) h))<|.mk (
 j0 (nth a 0) (nth a 1) (.bool false) (nth a 5) (nth a 25) h)
theorem y15:zad I 15 T.s15 N call a h k=f15 N call a h k:=by kernel_rfl
def f16{β:Type}(N:Nat)(call:zc β)(a:List AV)(h:H)(k:K β):Option β :=
 k (nth a 0) h
theorem y16:zad I 16 T.s16 N call a h k=f16 N call a h k:=by kernel_rfl
def f17_J0{β:Type}(call:zc β)(k:K β)(x0 x1 x2 x3 x4 x5 x6 x7 x8 x9:AV)(h:H):Option β :=
 zz call (.fn 24 []) [x0] h<|.mk λv1 h=>
 qExt 0 v1<|.mk λv2=>
 qExt 1 v1<|.mk λv3=>
 qExt 2 v1<|.mk λv4=>
 qExt 3 v1<|.mk λv5=>
 qExt 4 v1<|.mk λv6=>
 qAnd v6 h (.mk λh k=>
 zeC v5 (.str [])<|.mk λv7=>
 k v7 h)<|.mk λv8 h=>
 k v8 h
def f17{β:Type}(N:Nat)(call:zc β)(a:List AV)(h:H)(k:K β):Option β :=
 zaj 10 (.mk (
 f17_J0 call k))<|.mk λj0=>
 qLenS (nth a 0)<|.mk λv9=>
 qGtr v9 (.int .i64 1024)<|.mk λv10=>
 qIf v10 (.mk (
 k (.bool false) h))<|.mk (
 j0 (nth a 0) (.bool false) (nth a 6) (nth a 7) (nth a 11) (nth a 14) (nth a 15) (nth a 16) (nth a 17) (nth a 18) h)
theorem y17:zad I 17 T.s17 N call a h k=f17 N call a h k:=by kernel_rfl
def f24_J10{β:Type}(call:zc β)(k:K β)(x0 x1 x2 x3 x4 x5 x6 x7 x8 x9 x10 x11 x12 x13 x14 x15 x16 x17 x18 x19 x20 x21 x22 x23 x24 x25 x26 x27 x28 x29 x30 x31 x32 x33 x34 x35 x36 x37 x38 x39 x40 x41 x42 x43 x44 x45 x46 x47 x48:AV)(h:H):Option β :=
 zz call (.fn 37 []) [x7,(.str [41])] h<|.mk λv11 h=>
 qExt 0 v11<|.mk λv12=>
 qExt 1 v11<|.mk λv13=>
 k (.tup [(.int .i64 2),x10,x12,v12,v13]) h
def f24_J23{β:Type}(call:zc β)(j10:Cur β 49)(l14:Cur β 49)(x0 x1 x2 x3 x4 x5 x6 x7 x8 x9 x10 x11 x12 x13 x14 x15 x16 x17 x18 x19 x20 x21 x22 x23 x24 x25 x26 x27 x28 x29 x30 x31 x32 x33 x34 x35 x36 x37 x38 x39 x40 x41 x42 x43 x44 x45 x46 x47 x48:AV)(h:H):Option β :=
 qLenS x13<|.mk λv24=>
 qLenS x14<|.mk λv25=>
 qSub v24 v25<|.mk λv26=>
 qSlS false true x13 [v26]<|.mk λv27=>
 zaN 0 [(.str [])] 1 [(0,1)] [v27] h<|.mk λv28 h=>
 qApp 0 1 16 x12 v28 h<|.mk λv29 h=>
 zz call (.fn 36 []) [x14,(.str [32])] h<|.mk λv30 h=>
 qNot v30<|.mk λv31=>
 qIf v31 (.mk (
 j10 x0 x1 x2 x3 x4 x5 x6 x14 x8 x9 x10 x11 v29 x13 x14 x15 x16 x17 x18 x19 x20 x21 x22 x23 x24 x25 x26 x27 x28 x29 x30 x31 x32 x33 x34 x35 x36 x37 x38 x39 v29 x14 x42 x43 x44 x45 x46 x47 x48 h))<|.mk (
 l14 x0 x1 x2 x3 x4 x5 x6 x14 x8 x9 x10 x11 v29 x13 x14 x15 x16 x17 x18 x19 x20 x21 x22 x23 x24 x25 x26 x27 x28 x29 x30 x31 x32 x33 x34 x35 x36 x37 x38 x39 v29 x14 x42 x43 x44 x45 x46 x47 x48 h)
def f24_J15{β:Type}(call:zc β)(k:K β)(j10:Cur β 49)(l14:Cur β 49)(x0 x1 x2 x3 x4 x5 x6 x7 x8 x9 x10 x11 x12 x13 x14 x15 x16 x17 x18 x19 x20 x21 x22 x23 x24 x25 x26 x27 x28 x29 x30 x31 x32 x33 x34 x35 x36 x37 x38 x39 x40 x41 x42 x43 x44 x45 x46 x47 x48:AV)(h:H):Option β :=
 qSlS true false x7 [(.int .i64 1)]<|.mk λv16=>
 zz call (.fn 24 []) [v16] h<|.mk λv17 h=>
 qExt 0 v17<|.mk λv18=>
 qExt 1 v17<|.mk λv19=>
 qExt 2 v17<|.mk λv20=>
 qExt 3 v17<|.mk λv21=>
 qExt 4 v17<|.mk λv22=>
 zaj 49 (.mk (
 f24_J23 call j10 l14))<|.mk λj23=>
 qNot v22<|.mk λv32=>
 qIf v32 (.mk (
 k (.tup [(.int .i64 0),(.int .i64 0),.nils,(.str []),(.bool false)]) h))<|.mk (
 j23 x0 x1 x2 x3 x4 x5 x6 x7 x8 x9 x10 x11 x12 v16 v21 v22 x16 x17 x18 x19 x20 x21 x22 x23 x24 x25 x26 x27 x28 x29 x30 x31 x32 x33 v17 v18 v19 v20 v21 v22 x40 x41 x42 x43 x44 x45 x46 x47 x48 h)
def f24_L14{β:Type}(call:zc β)(k:K β)(j10:Cur β 49)(l14:Cur β 49)(x0 x1 x2 x3 x4 x5 x6 x7 x8 x9 x10 x11 x12 x13 x14 x15 x16 x17 x18 x19 x20 x21 x22 x23 x24 x25 x26 x27 x28 x29 x30 x31 x32 x33 x34 x35 x36 x37 x38 x39 x40 x41 x42 x43 x44 x45 x46 x47 x48:AV)(h:H):Option β :=
 zaj 49 (.mk (
 f24_J15 call k j10 l14))<|.mk λj15=>
 qLenL x12<|.mk λv33=>
 qLss v33 (.int .i64 3)<|.mk λv34=>
 qIf v34 (.mk (
 j15 .any .any .any .any .any .any .any x7 .any .any x10 .any x12 .any .any .any .any .any .any .any .any .any .any .any .any .any .any .any .any .any .any .any .any .any .any .any .any .any .any .any .any .any .any .any .any .any .any .any .any h))<|.mk (
 j10 .any .any .any .any .any .any .any x7 .any .any x10 .any x12 .any .any .any .any .any .any .any .any .any .any .any .any .any .any .any .any .any .any .any .any .any .any .any .any .any .any .any .any .any .any .any .any .any .any .any .any h)
def f24_J9{β:Type}(N:Nat)(call:zc β)(k:K β)(x0 x1 x2 x3 x4 x5 x6 x7 x8 x9 x10 x11 x12 x13 x14 x15 x16 x17 x18 x19 x20 x21 x22 x23 x24 x25 x26 x27 x28 x29 x30 x31 x32 x33 x34 x35 x36 x37 x38 x39 x40 x41 x42 x43 x44 x45 x46 x47 x48:AV)(h:H):Option β :=
 zaj 49 (.mk (
 f24_J10 call k))<|.mk λj10=>
 (zgF 49 N<|.mk (
 f24_L14 call k j10)) x0 x1 x2 x3 x4 x5 x6 x7 x8 x9 x10 x11 .nils x13 x14 x15 x16 x17 x18 x19 x20 x21 x22 x23 x24 x25 x26 x27 x28 x29 x30 x31 x32 x33 x34 x35 x36 x37 x38 x39 x40 x41 x42 x43 x44 x45 x46 x47 x48 h
def f24_J5{β:Type}(N:Nat)(call:zc β)(k:K β)(x0 x1 x2 x3 x4 x5 x6 x7 x8 x9 x10 x11 x12 x13 x14 x15 x16 x17 x18 x19 x20 x21 x22 x23 x24 x25 x26 x27 x28 x29 x30 x31 x32 x33 x34 x35 x36 x37 x38 x39 x40 x41 x42 x43 x44 x45 x46 x47 x48:AV)(h:H):Option β :=
 zz call (.fn 35 []) [x6] h<|.mk λv6 h=>
 qExt 0 v6<|.mk λv7=>
 qExt 1 v6<|.mk λv8=>
 zaj 49 (.mk (
 f24_J9 N call k))<|.mk λj9=>
 qNot v8<|.mk λv35=>
 qOr v35 h (.mk λh k=>
 zz call (.fn 36 []) [x7,(.str [40])] h<|.mk λv36 h=>
 qNot v36<|.mk λv37=>
 k v37 h)<|.mk λv38 h=>
 qIf v38 (.mk (
 k (.tup [(.int .i64 2),v7,.nils,x7,v8]) h))<|.mk (
 j9 x0 x1 x2 x3 x4 x5 x6 x7 x8 x9 v7 v8 x12 x13 x14 x15 x16 x17 x18 x19 x20 x21 x22 x23 x24 x25 x26 x27 v6 v7 v8 x31 x32 x33 x34 x35 x36 x37 x38 x39 x40 x41 x42 x43 x44 x45 x46 x47 x48 h)
def f24_J4{β:Type}(N:Nat)(call:zc β)(k:K β)(x0 x1 x2 x3 x4 x5 x6 x7 x8 x9 x10 x11 x12 x13 x14 x15 x16 x17 x18 x19 x20 x21 x22 x23 x24 x25 x26 x27 x28 x29 x30 x31 x32 x33 x34 x35 x36 x37 x38 x39 x40 x41 x42 x43 x44 x45 x46 x47 x48:AV)(h:H):Option β :=
 zaj 49 (.mk (
 f24_J5 N call k))<|.mk λj5=>
 zz call (.fn 34 []) [x6] h<|.mk λv39 h=>
 qExt 0 v39<|.mk λv40=>
 qExt 1 v39<|.mk λv41=>
 qIf v41 (.mk (
 k (.tup [(.int .i64 1),v40,.nils,x7,(.bool true)]) h))<|.mk (
 j5 x0 x1 x2 x3 x4 x5 x6 x7 v40 v41 x10 x11 x12 x13 x14 x15 x16 x17 x18 x19 x20 x21 x22 v39 v40 v41 x26 x27 x28 x29 x30 x31 x32 x33 x34 x35 x36 x37 x38 x39 x40 x41 x42 x43 x44 x45 x46 x47 x48 h)
def f24_J3{β:Type}(N:Nat)(call:zc β)(k:K β)(x0 x1 x2 x3 x4 x5 x6 x7 x8 x9 x10 x11 x12 x13 x14 x15 x16 x17 x18 x19 x20 x21 x22 x23 x24 x25 x26 x27 x28 x29 x30 x31 x32 x33 x34 x35 x36 x37 x38 x39 x40 x41 x42 x43 x44 x45 x46 x47 x48:AV)(h:H):Option β :=
 zaj 49 (.mk (
 f24_J4 N call k))<|.mk λj4=>
 zeC x6 (.str [33])<|.mk λv42=>
 qIf v42 (.mk (
 k (.tup [(.int .i64 3),(.int .i64 0),.nils,x7,(.bool true)]) h))<|.mk (
 j4 x0 x1 x2 x3 x4 x5 x6 x7 x8 x9 x10 x11 x12 x13 x14 x15 x16 x17 x18 x19 x20 x21 x22 x23 x24 x25 x26 x27 x28 x29 x30 x31 x32 x33 x34 x35 x36 x37 x38 x39 x40 x41 x42 x43 x44 x45 x46 x47 x48 h)
def f24{β:Type}(N:Nat)(call:zc β)(a:List AV)(h:H)(k:K β):Option β :=
 zz call (.fn 33 []) [(nth a 0)] h<|.mk λv0 h=>
 qExt 0 v0<|.mk λv1=>
 qExt 1 v0<|.mk λv2=>
 zaj 49 (.mk (
 f24_J3 N call k))<|.mk λj3=>
 zeC v1 (.str [95])<|.mk λv43=>
 qIf v43 (.mk (
 k (.tup [(.int .i64 0),(.int .i64 0),.nils,v2,(.bool true)]) h))<|.mk (
 j3 (nth a 0) (.int .i64 0) (.int .i64 0) .nils (.str []) (.bool false) v1 v2 (nth a 9) (nth a 10) (nth a 11) (nth a 12) (nth a 13) (nth a 14) (nth a 18) (nth a 19) (nth a 20) (nth a 21) v0 v1 v2 (nth a 29) (nth a 32) (nth a 33) (nth a 36) (nth a 37) (nth a 39) (nth a 40) (nth a 41) (nth a 44) (nth a 45) (nth a 53) (nth a 54) (nth a 55) (nth a 61) (nth a 64) (nth a 65) (nth a 66) (nth a 67) (nth a 68) (nth a 80) (nth a 81) (nth a 85) (nth a 88) (nth a 89) (nth a 90) (nth a 91) (nth a 92) (nth a 93) h)
theorem y24:zad I 24 T.s24 N call a h k=f24 N call a h k:=by kernel_rfl
def f26_J0{β:Type}(k:K β)(x0 x1 x2 x3 x4 x5 x6:AV)(h:H):Option β :=
 k (.bool true) h
def f26_J5{β:Type}(l2:Cur β 7)(x0 x1 x2 x3 x4 x5 x6:AV)(h:H):Option β :=
 qAdd x5 (.int .i64 1)<|.mk λv6=>
 l2 x0 x1 x2 x3 x4 v6 x6 h
def f26_J4{β:Type}(call:zc β)(k:K β)(l2:Cur β 7)(x0 x1 x2 x3 x4 x5 x6:AV)(h:H):Option β :=
 zaj 7 (.mk (
 f26_J5 l2))<|.mk λj5=>
 zdf 1 x3 x5<|.mk λv7=>
 zJ v7 h<|.mk λv8=>
 zz call (.fn 17 []) [v8] h<|.mk λv9 h=>
 qNot v9<|.mk λv10=>
 qIf v10 (.mk (
 k (.bool false) h))<|.mk (
 j5 x0 x1 v8 x3 x4 x5 x6 h)
def f26_L2{β:Type}(call:zc β)(k:K β)(j0:Cur β 7)(l2:Cur β 7)(x0 x1 x2 x3 x4 x5 x6:AV)(h:H):Option β :=
 qLss x5 x4<|.mk λv3=>
 zaj 7 (.mk (
 f26_J4 call k l2))<|.mk λj4=>
 qIf v3 (.mk (
 j4 .any .any .any x3 x4 x5 v3 h))<|.mk (
 j0 .any .any .any x3 x4 x5 v3 h)
def f26{β:Type}(N:Nat)(call:zc β)(a:List AV)(h:H)(k:K β):Option β :=
 zaj 7 (.mk (
 f26_J0 k))<|.mk λj0=>
 qLenL (nth a 0)<|.mk λv1=>
 (zgF 7 N<|.mk (
 f26_L2 call k j0)) (nth a 0) (.bool false) (nth a 4) (nth a 0) v1 (.int .i64 0) (nth a 8) h
theorem y26:zad I 26 T.s26 N call a h k=f26 N call a h k:=by kernel_rfl
def f28{β:Type}(N:Nat)(call:zc β)(a:List AV)(h:H)(k:K β):Option β :=
 qGeq (nth a 0) (.int .i64 (-32768))<|.mk λv0=>
 qAnd v0 h (.mk λh k=>
 qLeq (nth a 0) (.int .i64 32767)<|.mk λv1=>
 k v1 h)<|.mk λv2 h=>
 k v2 h
theorem y28:zad I 28 T.s28 N call a h k=f28 N call a h k:=by kernel_rfl
def f33_J1{β:Type}(k:K β)(x0 x1 x2 x3:AV)(h:H):Option β :=
 qSlS false true x0 [x3]<|.mk λv2=>
 qSlS true false x0 [x3]<|.mk λv3=>
 k (.tup [v2,v3]) h
def f33{β:Type}(N:Nat)(call:zc β)(a:List AV)(h:H)(k:K β):Option β :=
 zz call (.fn 44 []) [(nth a 0),(.str [32,40,41])] h<|.mk λv0 h=>
 zaj 4 (.mk (
 f33_J1 k))<|.mk λj1=>
 qLss v0 (.int .i64 0)<|.mk λv4=>
 qIf v4 (.mk (
 qLenS (nth a 0)<|.mk λv5=>
 j1 (nth a 0) (.str []) (.str []) v5 h))<|.mk (
 j1 (nth a 0) (.str []) (.str []) v0 h)
theorem y33:zad I 33 T.s33 N call a h k=f33 N call a h k:=by kernel_rfl
def f34{β:Type}(N:Nat)(call:zc β)(a:List AV)(h:H)(k:K β):Option β :=
 zz call (.fn 45 []) [(nth a 0)] h<|.mk λv0 h=>
 qExt 0 v0<|.mk λv1=>
 qExt 1 v0<|.mk λv2=>
 zcY .ifc false v2<|.mk λv3=>
 qAnd v3 h (.mk λh k=>
 zz call (.fn 28 []) [v1] h<|.mk λv4 h=>
 k v4 h)<|.mk λv5 h=>
 qAnd v5 h (.mk λh k=>
 zz call (.fn 29 []) [v1] h<|.mk λv6 h=>
 zeC v6 (nth a 0)<|.mk λv7=>
 k v7 h)<|.mk λv8 h=>
 k (.tup [v1,v8]) h
theorem y34:zad I 34 T.s34 N call a h k=f34 N call a h k:=by kernel_rfl
def f35{β:Type}(N:Nat)(call:zc β)(a:List AV)(h:H)(k:K β):Option β :=
 zz call (.fn 37 []) [(nth a 0),(.str [64])] h<|.mk λv0 h=>
 qExt 0 v0<|.mk λv1=>
 qExt 1 v0<|.mk λv2=>
 zz call (.fn 46 []) [v1,(.int .i64 99)] h<|.mk λv3 h=>
 qExt 0 v3<|.mk λv4=>
 qExt 1 v3<|.mk λv5=>
 qAnd v2 h (.mk λh k=>
 k v5 h)<|.mk λv6 h=>
 k (.tup [v4,v6]) h
theorem y35:zad I 35 T.s35 N call a h k=f35 N call a h k:=by kernel_rfl
def f36{β:Type}(N:Nat)(call:zc β)(a:List AV)(h:H)(k:K β):Option β :=
 zz call (.fn 47 []) [(nth a 0),(nth a 1)] h<|.mk λv0 h=>
 k v0 h
theorem y36:zad I 36 T.s36 N call a h k=f36 N call a h k:=by kernel_rfl
def f37{β:Type}(N:Nat)(call:zc β)(a:List AV)(h:H)(k:K β):Option β :=
 zz call (.fn 48 []) [(nth a 0),(nth a 1)] h<|.mk λv0 h=>
 qExt 0 v0<|.mk λv1=>
 qExt 1 v0<|.mk λv2=>
 k (.tup [v1,v2]) h
theorem y37:zad I 37 T.s37 N call a h k=f37 N call a h k:=by kernel_rfl
def f46{β:Type}(N:Nat)(call:zc β)(a:List AV)(h:H)(k:K β):Option β :=
 zz call (.fn 45 []) [(nth a 0)] h<|.mk λv0 h=>
 qExt 0 v0<|.mk λv1=>
 qExt 1 v0<|.mk λv2=>
 zcY .ifc false v2<|.mk λv3=>
 qAnd v3 h (.mk λh k=>
 qGeq v1 (.int .i64 0)<|.mk λv4=>
 k v4 h)<|.mk λv5 h=>
 qAnd v5 h (.mk λh k=>
 qLeq v1 (nth a 1)<|.mk λv6=>
 k v6 h)<|.mk λv7 h=>
 qAnd v7 h (.mk λh k=>
 zz call (.fn 29 []) [v1] h<|.mk λv8 h=>
 zeC v8 (nth a 0)<|.mk λv9=>
 k v9 h)<|.mk λv10 h=>
 k (.tup [v1,v10]) h
theorem y46:zad I 46 T.s46 N call a h k=f46 N call a h k:=by kernel_rfl
def f47{β:Type}(N:Nat)(call:zc β)(a:List AV)(h:H)(k:K β):Option β :=
 qLenS (nth a 0)<|.mk λv0=>
 qLenS (nth a 1)<|.mk λv1=>
 qGeq v0 v1<|.mk λv2=>
 qAnd v2 h (.mk λh k=>
 qLenS (nth a 1)<|.mk λv3=>
 qSlS false true (nth a 0) [v3]<|.mk λv4=>
 zeC v4 (nth a 1)<|.mk λv5=>
 k v5 h)<|.mk λv6 h=>
 k v6 h
theorem y47:zad I 47 T.s47 N call a h k=f47 N call a h k:=by kernel_rfl
def f48_J0{β:Type}(k:K β)(x0 x1 x2 x3:AV)(h:H):Option β :=
 qLenS x1<|.mk λv1=>
 qSlS true false x0 [v1]<|.mk λv2=>
 k (.tup [v2,(.bool true)]) h
def f48{β:Type}(N:Nat)(call:zc β)(a:List AV)(h:H)(k:K β):Option β :=
 zaj 4 (.mk (
 f48_J0 k))<|.mk λj0=>
 zz call (.fn 47 []) [(nth a 0),(nth a 1)] h<|.mk λv3 h=>
 qNot v3<|.mk λv4=>
 qIf v4 (.mk (
 k (.tup [(nth a 0),(.bool false)]) h))<|.mk (
 j0 (nth a 0) (nth a 1) (.str []) (.bool false) h)
theorem y48:zad I 48 T.s48 N call a h k=f48 N call a h k:=by kernel_rfl
def e15:Ent:=⟨15,T.s15,λ_ _=>f15,λ_=>y15⟩
def e16:Ent:=⟨16,T.s16,λ_ _=>f16,λ_=>y16⟩
def e17:Ent:=⟨17,T.s17,λ_ _=>f17,λ_=>y17⟩
def e24:Ent:=⟨24,T.s24,λ_ _=>f24,λ_=>y24⟩
def e26:Ent:=⟨26,T.s26,λ_ _=>f26,λ_=>y26⟩
def e28:Ent:=⟨28,T.s28,λ_ _=>f28,λ_=>y28⟩
def e33:Ent:=⟨33,T.s33,λ_ _=>f33,λ_=>y33⟩
def e34:Ent:=⟨34,T.s34,λ_ _=>f34,λ_=>y34⟩
def e35:Ent:=⟨35,T.s35,λ_ _=>f35,λ_=>y35⟩
def e36:Ent:=⟨36,T.s36,λ_ _=>f36,λ_=>y36⟩
def e37:Ent:=⟨37,T.s37,λ_ _=>f37,λ_=>y37⟩
def e46:Ent:=⟨46,T.s46,λ_ _=>f46,λ_=>y46⟩
def e47:Ent:=⟨47,T.s47,λ_ _=>f47,λ_=>y47⟩
def e48:Ent:=⟨48,T.s48,λ_ _=>f48,λ_=>y48⟩
structure GA (t:ETree):Prop where
 g15:t.get 15=some e15
 g16:t.get 16=some e16
 g17:t.get 17=some e17
 g24:t.get 24=some e24
 g26:t.get 26=some e26
 g28:t.get 28=some e28
 g33:t.get 33=some e33
 g34:t.get 34=some e34
 g35:t.get 35=some e35
 g36:t.get 36=some e36
 g37:t.get 37=some e37
 g46:t.get 46=some e46
 g47:t.get 47=some e47
 g48:t.get 48=some e48
section
variable {β:Type} {t:ETree} {I:FI} (n:Nat) (a:List AV) (h:H) (k:K β)
end
end
end Am.F
end
