/- Texts that belong together: no condition. -/
import Derived.Test.YtddiafpckjhadaaGreatDoorAmJc
import Derived.Test.YtddiafpckjhadaaGreatDoorAmJi
import Derived.Test.YtddiafpckjhadaaGreatDoorAmJg
import Derived.Test.YtddiafpckjhadaaGreatDoorAmJd
import Derived.Test.YtddiafpckjhadaaGreatDoorAmJh
import Derived.Test.YtddiafpckjhadaaGreatDoorAmJj
open Nat (reduceAdd reduceMul)
open Int (reduceToNat)
set_option maxRecDepth 100000
set_option linter.unusedVariables false
set_option linter.unusedSimpArgs false
set_option linter.defProp false
section
namespace Am.T
open Go
def s145:SFn:=.src 61 [0,1,2,3,4,8,9,10,11,12,13,14,31,51,58,59] [.tmp 5,.tmp 6]<|.seq (.reg [.set 4 (.P 4 (.box 0) [.V 0]),.set 5 (.M 8 (.k (.str []))),.set 6 (.M 9 (.I 0))])<|.seq (.ifr [] (.P 21 .notB [.P 20 (.call 168) [.P 16 (.loadN 1) [.V 4],.W 1 17,.W 2 18,.W 3 19]]) (.seq (.reg [.set 5 (.M 8 (.k (.str []))),.set 6 (.M 9 (.I 900))])<|.ret) .skip)<|.seq (.reg [.set 7 (.M 10 (.P 25 (.box 0) [.P 24 (.build [.nils,.int .i64 0,.int .i64 0] [(0 ,1),(1 ,1)]) [.P 22 (.loadN 1) [.V 4],.W 3 23]]))])<|.seq (.reg [.set 12 (.P 31 (.call 172) [.W 7 26,.P 30 (.call 170) [.P 27 (.loadN 1) [.V 4],.W 1 28,.W 2 29]]),.set 8 (.P 11 (.alloc 0 [.int .i64 0,.int .i64 0,.nils]) []),.ef (.op none (.store 3) [.V 8,.V 12])])<|.seq (.ifr [] (.P 36 (.binI .neq) [.P 35 .load1 [.P 34 (.fadr 2) [.P 33 .nilCheck [.W 7 32]]],.I 0]) (.seq (.dreg [37,38,39,40] [⟨ (some 16),.mov,[.t 7],none⟩,⟨ (some 17),.nilCheck,[.t 16],none⟩,⟨ (some 18),.fadr 2,[.t 17],none⟩,⟨ (some 19),.load1,[.t 18],none⟩,⟨ (some 5),.mov,[.c (.str [])],none⟩,⟨ (some 6),.mov,[.t 19],none⟩] [.op 0,.op 1,.op 2,.op 3,.op 4,.op 5])<|.ret) .skip)<|.seq (.reg [.set 9 (.M 12 (.k .nils))])<|.seq (.seq (.reg [.set 10 (.M 13 (.I 0))])<|.block 0<|.loop [8,9,10]<|.seq (.ifr [] (.P 45 (.binI .lss) [.W 10 41,.P 44 .lenL [.P 43 .load1 [.P 42 (.fadr 2) [.V 8]]]]) .skip (.exit 0))<|.seq (.block 1<|.reg [.set 9 (.M 12 (.P 50 (.app 0 1 16) [.W 9 48,.P 49 (.bslice 0 [.str []] 1 [(0 ,1)]) [.k (.str [95])]]))])<|.reg [.set 10 (.M 13 (.P 47 (.binI .add) [.W 10 46,.I 1]))])<|.seq (.reg [.set 13 (.M 51 (.P 57 (.call 14) [.P 53 .load1 [.P 52 (.fadr 0) [.V 8]],.P 55 .load1 [.P 54 (.fadr 1) [.V 8]],.W 9 56])),.set 14 (.P 58 (.ext 0) [.V 13]),.set 15 (.P 59 (.ext 1) [.V 13]),.set 11 (.M 14 (.V 14)),.ef (.W 15 15)])<|.seq (.reg [.set 5 (.M 8 (.W 11 60)),.set 6 (.M 9 (.I 0))])<|.ret
def s147:SFn:=.src 53 [0,1,2,6,7,8,22] [.tmp 3,.tmp 4]<|.seq (.reg [.set 3 (.M 6 (.I 0)),.set 4 (.M 7 (.I 0))])<|.seq (.ifr [] (.or 17 21 (.or 12 16 (.P 11 .notB [.P 10 (.call 30) [.W 0 9,.I 0,.I 4]]) (.P 15 .notB [.P 14 (.call 41) [.W 1 13]])) (.P 20 .notB [.P 19 (.call 41) [.W 2 18]])) (.seq (.reg [.set 3 (.M 6 (.I 0)),.set 4 (.M 7 (.I 100))])<|.ret) .skip)<|.seq (.reg [.set 5 (.M 8 (.I 0))])<|.seq (.seq (.reg [.set 6 (.M 22 (.V 0))])<|.block 0<|.ifr [] (.M 27 (.P 28 (.binI .eql) [.V 6,.I 0])) (.reg [.set 5 (.M 8 (.P 31 (.binI .add) [.W 1 29,.W 2 30]))]) (.ifr [] (.M 32 (.P 33 (.binI .eql) [.V 6,.I 1])) (.reg [.set 5 (.M 8 (.P 36 (.binI .sub) [.W 1 34,.W 2 35]))]) (.ifr [] (.M 37 (.P 38 (.binI .eql) [.V 6,.I 2])) (.reg [.set 5 (.M 8 (.P 41 (.binI .mul) [.W 1 39,.W 2 40]))]) (.ifr [] (.M 42 (.P 43 (.binI .eql) [.V 6,.I 3])) (.reg [.set 5 (.M 8 (.P 47 (.call 174) [.P 46 (.binI .eql) [.W 1 44,.W 2 45]]))]) (.reg [.set 5 (.M 8 (.P 26 (.call 174) [.P 25 (.binI .lss) [.W 1 23,.W 2 24]]))])))))<|.seq (.reg [.set 3 (.M 6 (.P 52 (.conv .i64) [.P 51 (.conv .i16) [.P 50 (.conv .u16) [.P 49 (.binI .and) [.W 5 48,.I 65535]]]])),.set 4 (.M 7 (.I 0))])<|.ret
def s168:SFn:=.src 55 [0,1,2,3,4,8,9] [.tmp 5]<|.seq (.reg [.set 4 (.P 4 (.box 0) [.V 0]),.set 5 (.M 8 (.k (.bool false)))])<|.seq (.ifr [] (.or 39 42 (.or 35 38 (.or 24 34 (.or 17 23 (.or 13 16 (.P 12 .notB [.P 11 (.call 149) [.P 10 (.loadN 1) [.V 4]]]) (.P 15 (.binI .lss) [.W 1 14,.I 0])) (.P 22 (.binI .geq) [.W 1 18,.P 21 .lenL [.P 20 .load1 [.P 19 (.fadr 0) [.V 4]]]])) (.P 33 (.binI .neq) [.P 26 .lenL [.W 2 25],.P 32 .load1 [.P 31 (.fadr 0) [.P 30 (.iadr 2) [.P 28 .load1 [.P 27 (.fadr 0) [.V 4]],.W 1 29]]]])) (.P 37 (.binI .lss) [.W 3 36,.I 0])) (.P 41 (.binI .gtr) [.W 3 40,.I 400])) (.seq (.reg [.set 5 (.M 8 (.k (.bool false)))])<|.ret) .skip)<|.seq (.seq (.reg [.set 6 (.M 9 (.I 0))])<|.block 0<|.loop [2,6]<|.seq (.ifr [] (.P 46 (.binI .lss) [.W 6 43,.P 45 .lenL [.W 2 44]]) .skip (.exit 0))<|.seq (.block 1<|.ifr [] (.P 54 .notB [.P 53 (.call 18) [.P 52 .load1 [.P 51 (.iadr 1) [.W 2 49,.W 6 50]]]]) (.seq (.reg [.set 5 (.M 8 (.k (.bool false)))])<|.ret) .skip)<|.reg [.set 6 (.M 9 (.P 48 (.binI .add) [.W 6 47,.I 1]))])<|.seq (.reg [.set 5 (.M 8 (.k (.bool true)))])<|.ret
def s170:SFn:=.src 36 [0,1,2,3,6,7,8,18] [.cellN 4 5]<|.seq (.reg [.set 3 (.P 3 (.box 0) [.V 0]),.set 4 (.P 6 (.alloc 0 [.bool false,.str [],.int .i64 0,.int .i64 0,.nils]) [])])<|.seq (.reg [.set 7 (.P 18 (.build [.bool false,.str [],.int .i64 0,.int .i64 0,.nils] [(2 ,1),(3 ,1)]) [.W 1 9,.P 17 (.binI .sub) [.P 16 .lenL [.P 15 .load1 [.P 14 (.fadr 1) [.P 13 (.iadr 2) [.P 11 .load1 [.P 10 (.fadr 0) [.V 3]],.W 1 12]]]],.I 1]]),.set 5 (.P 7 (.alloc 0 [.bool false,.str [],.int .i64 0,.int .i64 0,.nils]) []),.ef (.op none (.store 5) [.V 5,.V 7])])<|.seq (.seq (.reg [.set 6 (.M 8 (.I 0))])<|.block 0<|.loop [2,4,5,6]<|.seq (.ifr [] (.P 22 (.binI .lss) [.W 6 19,.P 21 .lenL [.W 2 20]]) .skip (.exit 0))<|.seq (.block 1<|.dreg [25,26,27,28,29,30,31,32,33,34] [⟨ (some 8),.fadr 4,[.t 5],none⟩,⟨ (some 9),.load1,[.t 8],none⟩,⟨ (some 10),.mov,[.t 2],none⟩,⟨ (some 11),.mov,[.t 6],none⟩,⟨ (some 12),.iadr 1,[.t 10,.t 11],none⟩,⟨ (some 13),.load1,[.t 12],none⟩,⟨ (some 14),.build [.bool false,.str [],.int .i64 0,.int .i64 0,.nils] [(0 ,1),(1 ,1)],[.c (.bool true),.t 13],none⟩,⟨ (some 15),.bslice 0 [.bool false,.str [],.int .i64 0,.int .i64 0,.nils] 1 [(0 ,5)],[.t 14],none⟩,⟨ (some 16),.app 0 5 64,[.t 9,.t 15],none⟩,⟨ (some 17),.fadr 4,[.t 5],none⟩,⟨none,.store 1,[.t 17,.t 16],none⟩] [.op 0,.op 1,.op 2,.op 3,.op 4,.op 5,.op 6,.op 7,.chk 1,.op 8,.op 9,.op 10])<|.reg [.set 6 (.M 8 (.P 24 (.binI .add) [.W 6 23,.I 1]))])<|.seq (.reg [.ef (.op none (.store 5) [.V 4,.P 35 (.loadN 5) [.V 5]])])<|.ret
def s172:SFn:=.src 211 [0,1,3,4,5,6,7,8,9,10,11,27,53,101,117,135] [.cellN 3 3]<|.seq (.reg [.set 2 (.P 3 (.box 0) [.V 1]),.set 3 (.P 4 (.alloc 0 [.int .i64 0,.int .i64 0,.nils]) [])])<|.seq (.ifr [] (.P 13 .load1 [.P 12 (.fadr 0) [.V 2]]) (.seq (.reg [.ef (.op none (.store 3) [.V 3,.P 17 (.call 195) [.W 0 14,.P 16 .load1 [.P 15 (.fadr 1) [.V 2]]]])])<|.ret) .skip)<|.seq (.ifr [] (.P 22 (.binI .eql) [.P 21 .load1 [.P 20 (.fadr 1) [.P 19 .nilCheck [.W 0 18]]],.I 0]) (.seq (.reg [.ef (.op none (.store 1) [.P 25 (.fadr 2) [.P 24 .nilCheck [.W 0 23]],.I 901])])<|.seq (.reg [.ef (.op none (.store 3) [.V 3,.P 26 (.call 196) []])])<|.ret) .skip)<|.seq (.reg [.set 11 (.M 27 (.V 0)),.ef (.opr none (.store 1) (.P 33 (.fadr 1) [.P 32 .nilCheck [.V 11]]) (.P 31 (.binI .sub) [.P 30 .load1 [.P 29 (.fadr 1) [.P 28 .nilCheck [.V 11]]],.I 1]))])<|.seq (.dreg [34,35,36,37,38,39,40,41,42,43,44,45,46,47] [⟨ (some 16),.mov,[.t 0],none⟩,⟨ (some 17),.nilCheck,[.t 16],none⟩,⟨ (some 18),.fadr 0,[.t 17],none⟩,⟨ (some 19),.fadr 0,[.t 18],none⟩,⟨ (some 20),.load1,[.t 19],none⟩,⟨ (some 21),.fadr 2,[.t 2],none⟩,⟨ (some 22),.load1,[.t 21],none⟩,⟨ (some 23),.iadr 2,[.t 20,.t 22],none⟩,⟨ (some 24),.fadr 1,[.t 23],none⟩,⟨ (some 25),.load1,[.t 24],none⟩,⟨ (some 26),.fadr 3,[.t 2],none⟩,⟨ (some 27),.load1,[.t 26],none⟩,⟨ (some 28),.iadr 4,[.t 25,.t 27],none⟩,⟨ (some 29),.loadN 4,[.t 28],none⟩,⟨ (some 4),.alloc 0 [.int .i64 0,.int .i64 0,.int .i64 0,.nils],[],none⟩,⟨none,.store 4,[.t 4,.t 29],none⟩] [.op 0,.op 1,.op 2,.op 3,.op 4,.op 5,.op 6,.op 7,.op 8,.op 9,.op 10,.op 11,.op 12,.op 13,.op 14,.chk 13,.chk 11,.chk 9,.chk 6,.chk 4,.op 15])<|.seq (.reg [.set 5 (.M 6 (.P 51 (.call 197) [.P 48 (.loadN 5) [.V 2],.P 50 .load1 [.P 49 (.fadr 3) [.V 4]]]))])<|.seq (.seq (.reg [.set 12 (.P 53 .load1 [.P 52 (.fadr 0) [.V 4]])])<|.block 0<|.ifr [] (.M 54 (.P 55 (.binI .eql) [.V 12,.I 0])) (.seq (.reg [.ef (.op none (.store 3) [.V 3,.P 58 (.build [.int .i64 0,.int .i64 0,.nils] [(0 ,1),(1 ,1)]) [.I 1,.P 57 .load1 [.P 56 (.fadr 1) [.V 4]]]])])<|.ret) (.ifr [] (.M 59 (.P 60 (.binI .eql) [.V 12,.I 1])) (.seq (.reg [.ef (.op none (.store 3) [.V 3,.P 68 (.call 172) [.W 0 61,.P 67 (.loadN 5) [.P 66 (.iadr 5) [.P 63 .load1 [.P 62 (.fadr 4) [.V 2]],.P 65 .load1 [.P 64 (.fadr 1) [.V 4]]]]]])])<|.ret) (.ifr [] (.M 69 (.P 70 (.binI .eql) [.V 12,.I 2])) (.seq (.dreg [71,72,73,74,75,76,77,78,79,80,81,82,83,84,85,86,87,88] [⟨ (some 16),.mov,[.t 0],none⟩,⟨ (some 17),.fadr 1,[.t 4],none⟩,⟨ (some 18),.load1,[.t 17],none⟩,⟨ (some 19),.mov,[.t 0],none⟩,⟨ (some 20),.nilCheck,[.t 19],none⟩,⟨ (some 21),.fadr 0,[.t 20],none⟩,⟨ (some 22),.fadr 0,[.t 21],none⟩,⟨ (some 23),.load1,[.t 22],none⟩,⟨ (some 24),.fadr 1,[.t 4],none⟩,⟨ (some 25),.load1,[.t 24],none⟩,⟨ (some 26),.iadr 2,[.t 23,.t 25],none⟩,⟨ (some 27),.fadr 1,[.t 26],none⟩,⟨ (some 28),.load1,[.t 27],none⟩,⟨ (some 29),.lenL,[.t 28],none⟩,⟨ (some 30),.binI .sub,[.t 29,.c (.int .i64 1)],none⟩,⟨ (some 31),.mov,[.t 5],none⟩,⟨ (some 32),.build [.bool false,.str [],.int .i64 0,.int .i64 0,.nils] [(2 ,1),(3 ,1),(4 ,1)],[.t 18,.t 30,.t 31],none⟩,⟨ (some 33),.call 172,[.t 16,.t 32],none⟩,⟨none,.store 3,[.t 3,.t 33],none⟩] [.op 0,.op 1,.op 2,.op 3,.op 4,.op 5,.op 6,.op 7,.op 8,.op 9,.op 10,.op 11,.op 12,.op 13,.op 14,.op 15,.op 16,.op 17,.op 18])<|.ret) (.ifr [] (.M 89 (.P 90 (.binI .eql) [.V 12,.I 3])) (.seq (.reg [.ef (.op none (.store 3) [.V 3,.P 94 (.build [.int .i64 0,.int .i64 0,.nils] [(0 ,1),(1 ,1),(2 ,1)]) [.I 2,.P 92 .load1 [.P 91 (.fadr 1) [.V 4]],.W 5 93]])])<|.ret) (.ifr [] (.M 95 (.P 96 (.binI .eql) [.V 12,.I 4])) (.seq (.reg [.set 13 (.P 101 (.call 172) [.W 0 97,.P 100 (.loadN 5) [.P 99 (.iadr 5) [.W 5 98,.I 0]]]),.set 6 (.P 7 (.alloc 0 [.int .i64 0,.int .i64 0,.nils]) []),.ef (.op none (.store 3) [.V 6,.V 13])])<|.seq (.ifr [] (.or 107 111 (.P 106 (.binI .neq) [.P 105 .load1 [.P 104 (.fadr 2) [.P 103 .nilCheck [.W 0 102]]],.I 0]) (.P 110 (.binI .neq) [.P 109 .load1 [.P 108 (.fadr 0) [.V 6]],.I 1])) (.seq (.reg [.ef (.op none (.store 3) [.V 3,.P 112 (.call 196) []])])<|.ret) .skip)<|.seq (.reg [.set 14 (.P 117 (.call 172) [.W 0 113,.P 116 (.loadN 5) [.P 115 (.iadr 5) [.W 5 114,.I 1]]]),.set 7 (.P 8 (.alloc 0 [.int .i64 0,.int .i64 0,.nils]) []),.ef (.op none (.store 3) [.V 7,.V 14])])<|.seq (.ifr [] (.P 122 (.binI .neq) [.P 121 .load1 [.P 120 (.fadr 2) [.P 119 .nilCheck [.W 0 118]]],.I 0]) (.seq (.reg [.ef (.op none (.store 3) [.V 3,.P 123 (.call 196) []])])<|.ret) .skip)<|.seq (.reg [.ef (.op none (.store 3) [.V 3,.P 128 (.call 198) [.P 125 .load1 [.P 124 (.fadr 1) [.V 4]],.P 126 (.loadN 3) [.V 6],.P 127 (.loadN 3) [.V 7]]])])<|.ret) (.ifr [] (.M 129 (.P 130 (.binI .eql) [.V 12,.I 5])) (.seq (.reg [.set 15 (.P 135 (.call 172) [.W 0 131,.P 134 (.loadN 5) [.P 133 (.iadr 5) [.W 5 132,.I 0]]]),.set 8 (.P 9 (.alloc 0 [.int .i64 0,.int .i64 0,.nils]) []),.ef (.op none (.store 3) [.V 8,.V 15])])<|.seq (.ifr [] (.or 141 145 (.P 140 (.binI .neq) [.P 139 .load1 [.P 138 (.fadr 2) [.P 137 .nilCheck [.W 0 136]]],.I 0]) (.P 144 (.binI .eql) [.P 143 .load1 [.P 142 (.fadr 0) [.V 8]],.I 3])) (.seq (.reg [.ef (.op none (.store 3) [.V 3,.P 146 (.call 196) []])])<|.ret) .skip)<|.seq (.ifr [] (.or 157 164 (.or 150 156 (.P 149 (.binI .neq) [.P 148 .load1 [.P 147 (.fadr 0) [.V 8]],.I 2]) (.P 155 (.binI .neq) [.P 152 .load1 [.P 151 (.fadr 1) [.V 8]],.P 154 .load1 [.P 153 (.fadr 1) [.V 4]]])) (.P 163 (.binI .neq) [.P 160 .lenL [.P 159 .load1 [.P 158 (.fadr 2) [.V 8]]],.P 162 .load1 [.P 161 (.fadr 2) [.V 4]]])) (.seq (.reg [.ef (.op none (.store 3) [.V 3,.P 169 (.call 172) [.W 0 165,.P 168 (.loadN 5) [.P 167 (.iadr 5) [.W 5 166,.I 2]]]])])<|.ret) .skip)<|.seq (.reg [.set 9 (.M 10 (.P 173 (.app 0 5 64) [.P 170 (.bslice 0 [] 0 []) [],.P 172 .load1 [.P 171 (.fadr 4) [.V 2]]]))])<|.seq (.reg [.set 9 (.M 10 (.P 177 (.app 0 5 64) [.W 9 174,.P 176 .load1 [.P 175 (.fadr 2) [.V 8]]]))])<|.seq (.dreg [178,179,180,181,182,183,184,185,186,187] [⟨ (some 16),.mov,[.t 0],none⟩,⟨ (some 17),.fadr 2,[.t 2],none⟩,⟨ (some 18),.load1,[.t 17],none⟩,⟨ (some 19),.fadr 3,[.t 4],none⟩,⟨ (some 20),.load1,[.t 19],none⟩,⟨ (some 21),.iadr 1,[.t 20,.c (.int .i64 1)],none⟩,⟨ (some 22),.load1,[.t 21],none⟩,⟨ (some 23),.mov,[.t 9],none⟩,⟨ (some 24),.build [.bool false,.str [],.int .i64 0,.int .i64 0,.nils] [(2 ,1),(3 ,1),(4 ,1)],[.t 18,.t 22,.t 23],none⟩,⟨ (some 25),.call 172,[.t 16,.t 24],none⟩,⟨none,.store 3,[.t 3,.t 25],none⟩] [.op 0,.op 1,.op 2,.op 3,.op 4,.op 5,.op 6,.op 7,.op 8,.op 9,.op 10])<|.ret) (.ifr [] (.M 188 (.P 189 (.binI .eql) [.V 12,.I 6])) (.seq (.reg [.set 10 (.M 11 (.P 193 (.app 0 5 64) [.P 190 (.bslice 0 [] 0 []) [],.P 192 .load1 [.P 191 (.fadr 4) [.V 2]]]))])<|.seq (.reg [.set 10 (.M 11 (.P 199 (.app 0 5 64) [.W 10 194,.P 198 (.bslice 0 [.bool false,.str [],.int .i64 0,.int .i64 0,.nils] 1 [(0 ,5)]) [.P 197 (.loadN 5) [.P 196 (.iadr 5) [.W 5 195,.I 0]]]]))])<|.seq (.dreg [200,201,202,203,204,205,206,207,208,209] [⟨ (some 16),.mov,[.t 0],none⟩,⟨ (some 17),.fadr 2,[.t 2],none⟩,⟨ (some 18),.load1,[.t 17],none⟩,⟨ (some 19),.fadr 3,[.t 4],none⟩,⟨ (some 20),.load1,[.t 19],none⟩,⟨ (some 21),.iadr 1,[.t 20,.c (.int .i64 1)],none⟩,⟨ (some 22),.load1,[.t 21],none⟩,⟨ (some 23),.mov,[.t 10],none⟩,⟨ (some 24),.build [.bool false,.str [],.int .i64 0,.int .i64 0,.nils] [(2 ,1),(3 ,1),(4 ,1)],[.t 18,.t 22,.t 23],none⟩,⟨ (some 25),.call 172,[.t 16,.t 24],none⟩,⟨none,.store 3,[.t 3,.t 25],none⟩] [.op 0,.op 1,.op 2,.op 3,.op 4,.op 5,.op 6,.op 7,.op 8,.op 9,.op 10])<|.ret) .skip)))))))<|.seq (.reg [.ef (.op none (.store 3) [.V 3,.P 210 (.call 196) []])])<|.ret
def s174:SFn:=.src 4 [0,2] [.tmp 1]<|.seq (.reg [.set 1 (.M 2 (.I 0))])<|.seq (.ifr [] (.W 0 3) (.seq (.reg [.set 1 (.M 2 (.I 1))])<|.ret) .skip)<|.seq (.reg [.set 1 (.M 2 (.I 0))])<|.ret
def s195:SFn:=.src 44 [0,1,4,5,6,7,9,10,11,14,15,16,17,26] [.cellN 2 3]<|.seq (.reg [.set 2 (.P 4 (.alloc 0 [.int .i64 0,.int .i64 0,.nils]) [])])<|.seq (.reg [.set 8 (.M 11 (.P 13 (.call 12) [.W 1 12])),.set 9 (.P 14 (.ext 0) [.V 8]),.set 10 (.P 15 (.ext 1) [.V 8]),.set 11 (.P 16 (.ext 2) [.V 8]),.set 12 (.P 17 (.ext 3) [.V 8]),.set 3 (.M 5 (.V 9)),.set 4 (.M 6 (.V 10)),.set 5 (.M 7 (.V 11)),.ef (.W 12 8)])<|.seq (.ifr [] (.P 19 (.binI .eql) [.W 3 18,.I 0]) (.seq (.reg [.ef (.op none (.store 1) [.P 22 (.fadr 2) [.P 21 .nilCheck [.W 0 20]],.I 902])])<|.seq (.reg [.ef (.op none (.store 3) [.V 2,.P 23 (.call 196) []])])<|.ret) .skip)<|.seq (.reg [.set 13 (.P 26 (.build [.int .i64 0,.int .i64 0,.nils] [(0 ,1),(1 ,1)]) [.W 3 24,.W 4 25]),.set 6 (.P 9 (.alloc 0 [.int .i64 0,.int .i64 0,.nils]) []),.ef (.op none (.store 3) [.V 6,.V 13])])<|.seq (.seq (.reg [.set 7 (.M 10 (.I 0))])<|.block 0<|.loop [2,5,6,7]<|.seq (.ifr [] (.P 30 (.binI .lss) [.W 7 27,.P 29 .lenL [.W 5 28]]) .skip (.exit 0))<|.seq (.block 1<|.dreg [33,34,35,36,37,38,39,40,41,42] [⟨ (some 14),.fadr 2,[.t 6],none⟩,⟨ (some 15),.load1,[.t 14],none⟩,⟨ (some 16),.mov,[.t 5],none⟩,⟨ (some 17),.mov,[.t 7],none⟩,⟨ (some 18),.iadr 1,[.t 16,.t 17],none⟩,⟨ (some 19),.load1,[.t 18],none⟩,⟨ (some 20),.build [.bool false,.str [],.int .i64 0,.int .i64 0,.nils] [(0 ,1),(1 ,1)],[.c (.bool true),.t 19],none⟩,⟨ (some 21),.bslice 0 [.bool false,.str [],.int .i64 0,.int .i64 0,.nils] 1 [(0 ,5)],[.t 20],none⟩,⟨ (some 22),.app 0 5 64,[.t 15,.t 21],none⟩,⟨ (some 23),.fadr 2,[.t 6],none⟩,⟨none,.store 1,[.t 23,.t 22],none⟩] [.op 0,.op 1,.op 2,.op 3,.op 4,.op 5,.op 6,.op 7,.chk 1,.op 8,.op 9,.op 10])<|.reg [.set 7 (.M 10 (.P 32 (.binI .add) [.W 7 31,.I 1]))])<|.seq (.reg [.ef (.op none (.store 3) [.V 2,.P 43 (.loadN 3) [.V 6]])])<|.ret
def s196:SFn:=.src 2 [0] [.cellN 0 3]<|.seq (.reg [.set 0 (.P 0 (.alloc 0 [.int .i64 0,.int .i64 0,.nils]) [])])<|.seq (.reg [.ef (.op none (.store 3) [.V 0,.P 1 (.build [.int .i64 0,.int .i64 0,.nils] [(0 ,1)]) [.I 3]])])<|.ret
def s197:SFn:=.src 26 [0,1,2,4,5,6] [.tmp 3]<|.seq (.reg [.set 2 (.P 2 (.box 0) [.V 0]),.set 3 (.M 4 (.k .nils))])<|.seq (.reg [.set 4 (.M 5 (.k .nils))])<|.seq (.seq (.reg [.set 5 (.M 6 (.I 0))])<|.block 0<|.loop [1,2,4,5]<|.seq (.ifr [] (.P 10 (.binI .lss) [.W 5 7,.P 9 .lenL [.W 1 8]]) .skip (.exit 0))<|.seq (.block 1<|.dreg [13,14,15,16,17,18,19,20,21,22,23,24] [⟨ (some 6),.mov,[.t 4],none⟩,⟨ (some 7),.fadr 2,[.t 2],none⟩,⟨ (some 8),.load1,[.t 7],none⟩,⟨ (some 9),.mov,[.t 1],none⟩,⟨ (some 10),.mov,[.t 5],none⟩,⟨ (some 11),.iadr 1,[.t 9,.t 10],none⟩,⟨ (some 12),.load1,[.t 11],none⟩,⟨ (some 13),.fadr 4,[.t 2],none⟩,⟨ (some 14),.load1,[.t 13],none⟩,⟨ (some 15),.build [.bool false,.str [],.int .i64 0,.int .i64 0,.nils] [(2 ,1),(3 ,1),(4 ,1)],[.t 8,.t 12,.t 14],none⟩,⟨ (some 16),.bslice 0 [.bool false,.str [],.int .i64 0,.int .i64 0,.nils] 1 [(0 ,5)],[.t 15],none⟩,⟨ (some 17),.app 0 5 64,[.t 6,.t 16],none⟩,⟨ (some 4),.mov,[.t 17],none⟩] [.op 0,.op 1,.op 2,.op 3,.op 4,.op 5,.op 6,.op 7,.op 8,.op 9,.op 10,.op 11,.op 12])<|.reg [.set 5 (.M 6 (.P 12 (.binI .add) [.W 5 11,.I 1]))])<|.seq (.reg [.set 3 (.M 4 (.W 4 25))])<|.ret
def s198:SFn:=.src 29 [0,1,2,4,5,6,7,18,25,26] [.cellN 5 3]<|.seq (.reg [.set 3 (.P 4 (.box 0) [.V 1]),.set 4 (.P 5 (.box 0) [.V 2]),.set 5 (.P 6 (.alloc 0 [.int .i64 0,.int .i64 0,.nils]) [])])<|.seq (.ifr [] (.or 12 16 (.P 11 (.binI .neq) [.P 10 .load1 [.P 9 (.fadr 0) [.V 3]],.I 1]) (.P 15 (.binI .neq) [.P 14 .load1 [.P 13 (.fadr 0) [.V 4]],.I 1])) (.seq (.reg [.ef (.op none (.store 3) [.V 5,.P 17 (.call 196) []])])<|.ret) .skip)<|.seq (.reg [.set 7 (.M 18 (.P 24 (.call 147) [.W 0 19,.P 21 .load1 [.P 20 (.fadr 1) [.V 3]],.P 23 .load1 [.P 22 (.fadr 1) [.V 4]]])),.set 8 (.P 25 (.ext 0) [.V 7]),.set 9 (.P 26 (.ext 1) [.V 7]),.set 6 (.M 7 (.V 8)),.ef (.W 9 8)])<|.seq (.reg [.ef (.op none (.store 3) [.V 5,.P 28 (.build [.int .i64 0,.int .i64 0,.nils] [(0 ,1),(1 ,1)]) [.I 1,.W 6 27]])])<|.ret
end Am.T
end
section
namespace Am.F
open Go Am
noncomputable section
variable {β:Type} (I:FI) (N:Nat) (call:zh β) (a:List AV) (h:H) (k:K β)
def f147_J1{β:Type}(k:K β)(x0 x1 x2 x3 x4 x5 x6:AV)(h:H):Option β :=
 qBin .and x5 (.int .i64 65535)<|.mk λv2=>
 zd1 .u16 v2<|.mk λv3=>
 zd1 .i16 v3<|.mk λv4=>
 zd1 .i64 v4<|.mk λv5=>
 k (.tup [v5,(.int .i64 0)]) h
def f147_J0{β:Type}(call:zh β)(k:K β)(x0 x1 x2 x3 x4 x5 x6:AV)(h:H):Option β :=
 zl 7 (.mk (
 f147_J1 k))<|.mk λj1=>
 qEql x0 (.int .i64 0)<|.mk λv6=>
 qIf v6 (.mk (
 qAdd x1 x2<|.mk λv7=>
 j1 x0 x1 x2 x3 x4 v7 x0 h))<|.mk (
 qEql x0 (.int .i64 1)<|.mk λv8=>
 qIf v8 (.mk (
 qSub x1 x2<|.mk λv9=>
 j1 x0 x1 x2 x3 x4 v9 x0 h))<|.mk (
 qEql x0 (.int .i64 2)<|.mk λv10=>
 qIf v10 (.mk (
 qMul x1 x2<|.mk λv11=>
 j1 x0 x1 x2 x3 x4 v11 x0 h))<|.mk (
 qEql x0 (.int .i64 3)<|.mk λv12=>
 qIf v12 (.mk (
 qEql x1 x2<|.mk λv13=>
 qCall call (.fn 174 []) [v13] h<|.mk λv14 h=>
 j1 x0 x1 x2 x3 x4 v14 x0 h))<|.mk (
 qLss x1 x2<|.mk λv15=>
 qCall call (.fn 174 []) [v15] h<|.mk λv16 h=>
 j1 x0 x1 x2 x3 x4 v16 x0 h))))
def f147{β:Type}(N:Nat)(call:zh β)(a:List AV)(h:H)(k:K β):Option β :=
 zl 7 (.mk (
 f147_J0 call k))<|.mk λj0=>
 qCall call (.fn 30 []) [(nth a 0),(.int .i64 0),(.int .i64 4)] h<|.mk λv17 h=>
 qNot v17<|.mk λv18=>
 qOr v18 h (.mk λh k=>
 qCall call (.fn 41 []) [(nth a 1)] h<|.mk λv19 h=>
 qNot v19<|.mk λv20=>
 k v20 h)<|.mk λv21 h=>
 qOr v21 h (.mk λh k=>
 qCall call (.fn 41 []) [(nth a 2)] h<|.mk λv22 h=>
 qNot v22<|.mk λv23=>
 k v23 h)<|.mk λv24 h=>
 qIf v24 (.mk (
 k (.tup [(.int .i64 0),(.int .i64 100)]) h))<|.mk (
 j0 (nth a 0) (nth a 1) (nth a 2) (.int .i64 0) (.int .i64 0) (nth a 8) (nth a 22) h)
theorem y147:zF I 147 T.s147 N call a h k=f147 N call a h k:=by kernel_rfl
def f168_J2{β:Type}(k:K β)(x0 x1 x2 x3 x4 x5 x6:AV)(h:H):Option β :=
 k (.bool true) h
def f168_J5{β:Type}(l3:Cur β 7)(x0 x1 x2 x3 x4 x5 x6:AV)(h:H):Option β :=
 qAdd x6 (.int .i64 1)<|.mk λv6=>
 l3 x0 x1 x2 x3 x4 x5 v6 h
def f168_J4{β:Type}(call:zh β)(k:K β)(l3:Cur β 7)(x0 x1 x2 x3 x4 x5 x6:AV)(h:H):Option β :=
 zl 7 (.mk (
 f168_J5 l3))<|.mk λj5=>
 zr 1 x2 x6<|.mk λv7=>
 za v7 h<|.mk λv8=>
 qCall call (.fn 18 []) [v8] h<|.mk λv9 h=>
 qNot v9<|.mk λv10=>
 qIf v10 (.mk (
 k (.bool false) h))<|.mk (
 j5 x0 x1 x2 x3 x4 x5 x6 h)
def f168_L3{β:Type}(call:zh β)(k:K β)(j2:Cur β 7)(l3:Cur β 7)(x0 x1 x2 x3 x4 x5 x6:AV)(h:H):Option β :=
 zl 7 (.mk (
 f168_J4 call k l3))<|.mk λj4=>
 qLenL x2<|.mk λv11=>
 qLss x6 v11<|.mk λv12=>
 qIf v12 (.mk (
 j4 .any .any x2 .any .any .any x6 h))<|.mk (
 j2 .any .any x2 .any .any .any x6 h)
def f168_J1{β:Type}(N:Nat)(call:zh β)(k:K β)(x0 x1 x2 x3 x4 x5 x6:AV)(h:H):Option β :=
 zl 7 (.mk (
 f168_J2 k))<|.mk λj2=>
 (zae 7 N<|.mk (
 f168_L3 call k j2)) x0 x1 x2 x3 x4 x5 (.int .i64 0) h
def f168{β:Type}(N:Nat)(call:zh β)(a:List AV)(h:H)(k:K β):Option β :=
 qBox 0 (nth a 0) h<|.mk λv0 h=>
 zl 7 (.mk (
 f168_J1 N call k))<|.mk λj1=>
 zi 1 v0 h<|.mk λv13=>
 qCall call (.fn 149 []) [v13] h<|.mk λv14 h=>
 qNot v14<|.mk λv15=>
 qOr v15 h (.mk λh k=>
 qLss (nth a 1) (.int .i64 0)<|.mk λv16=>
 k v16 h)<|.mk λv17 h=>
 qOr v17 h (.mk λh k=>
 zg 0 v0<|.mk λv18=>
 za v18 h<|.mk λv19=>
 qLenL v19<|.mk λv20=>
 qGeq (nth a 1) v20<|.mk λv21=>
 k v21 h)<|.mk λv22 h=>
 qOr v22 h (.mk λh k=>
 qLenL (nth a 2)<|.mk λv23=>
 zg 0 v0<|.mk λv24=>
 za v24 h<|.mk λv25=>
 zr 2 v25 (nth a 1)<|.mk λv26=>
 zg 0 v26<|.mk λv27=>
 za v27 h<|.mk λv28=>
 qNeq v23 v28<|.mk λv29=>
 k v29 h)<|.mk λv30 h=>
 qOr v30 h (.mk λh k=>
 qLss (nth a 3) (.int .i64 0)<|.mk λv31=>
 k v31 h)<|.mk λv32 h=>
 qOr v32 h (.mk λh k=>
 qGtr (nth a 3) (.int .i64 400)<|.mk λv33=>
 k v33 h)<|.mk λv34 h=>
 qIf v34 (.mk (
 k (.bool false) h))<|.mk (
 j1 (nth a 0) (nth a 1) (nth a 2) (nth a 3) v0 (.bool false) (nth a 9) h)
theorem y168:zF I 168 T.s168 N call a h k=f168 N call a h k:=by kernel_rfl
def f170_J11{β:Type}(k:K β)(x0 x1 x2 x3 x4 x5 x6 x7:AV)(h:H):Option β :=
 zi 5 x5 h<|.mk λv12=>
 zj 5 x4 v12 h<|.mk λh=>
 zi 5 x4 h<|.mk λv13=>
 k v13 h
def f170_J16{β:Type}(l14:Cur β 8)(x0 x1 x2 x3 x4 x5 x6 x7:AV)(h:H):Option β :=
 qAdd x6 (.int .i64 1)<|.mk λv17=>
 l14 x0 x1 x2 x3 x4 x5 v17 x7 h
def f170_J15{β:Type}(l14:Cur β 8)(x0 x1 x2 x3 x4 x5 x6 x7:AV)(h:H):Option β :=
 zl 8 (.mk (
 f170_J16 l14))<|.mk λj16=>
 zg 4 x5<|.mk λv18=>
 za v18 h<|.mk λv19=>
 zr 1 x2 x6<|.mk λv20=>
 za v20 h<|.mk λv21=>
 zo [(.bool false),(.str []),(.int .i64 0),(.int .i64 0),.nils] [(0,1),(1,1)] [(.bool true),v21]<|.mk λv22=>
 zs 0 [(.bool false),(.str []),(.int .i64 0),(.int .i64 0),.nils] 1 [(0,5)] [v22] h<|.mk λv23 h=>
 za v18 h<|.mk λv24=>
 zaH v24 v19<|.mk λ_=>
 qApp 0 5 64 v19 v23 h<|.mk λv25 h=>
 zg 4 x5<|.mk λv26=>
 zj 1 v26 v25 h<|.mk λh=>
 j16 x0 x1 x2 x3 x4 x5 x6 x7 h
def f170_L14{β:Type}(j11:Cur β 8)(l14:Cur β 8)(x0 x1 x2 x3 x4 x5 x6 x7:AV)(h:H):Option β :=
 zl 8 (.mk (
 f170_J15 l14))<|.mk λj15=>
 qLenL x2<|.mk λv27=>
 qLss x6 v27<|.mk λv28=>
 qIf v28 (.mk (
 j15 .any .any x2 .any x4 x5 x6 .any h))<|.mk (
 j11 .any .any x2 .any x4 x5 x6 .any h)
def f170{β:Type}(N:Nat)(call:zh β)(a:List AV)(h:H)(k:K β):Option β :=
 qBox 0 (nth a 0) h<|.mk λv0 h=>
 zK 0 [(.bool false),(.str []),(.int .i64 0),(.int .i64 0),.nils] h<|.mk λv1 h=>
 zg 0 v0<|.mk λv2=>
 za v2 h<|.mk λv3=>
 zr 2 v3 (nth a 1)<|.mk λv4=>
 zg 1 v4<|.mk λv5=>
 za v5 h<|.mk λv6=>
 qLenL v6<|.mk λv7=>
 qSub v7 (.int .i64 1)<|.mk λv8=>
 zo [(.bool false),(.str []),(.int .i64 0),(.int .i64 0),.nils] [(2,1),(3,1)] [(nth a 1),v8]<|.mk λv9=>
 zK 0 [(.bool false),(.str []),(.int .i64 0),(.int .i64 0),.nils] h<|.mk λv10 h=>
 zj 5 v10 v9 h<|.mk λh=>
 zl 8 (.mk (
 f170_J11 k))<|.mk λj11=>
 (zae 8 N<|.mk (
 f170_L14 j11)) (nth a 0) (nth a 1) (nth a 2) v0 v1 v10 (.int .i64 0) v9 h
theorem y170:zF I 170 T.s170 N call a h k=f170 N call a h k:=by kernel_rfl
def f172_J33{β:Type}(call:zh β)(k:K β)(x0 x1 x2 x3 x4 x5 x6 x7 x8 x9 x10 x11 x12 x13 x14 x15:AV)(h:H):Option β :=
 qCall call (.fn 196 []) [] h<|.mk λv34 h=>
 zj 3 x3 v34 h<|.mk λh=>
 zi 3 x3 h<|.mk λv35=>
 k v35 h
def f172_J84{β:Type}(call:zh β)(k:K β)(x0 x1 x2 x3 x4 x5 x6 x7 x8 x9 x10 x11 x12 x13 x14 x15:AV)(h:H):Option β :=
 zg 1 x4<|.mk λv85=>
 za v85 h<|.mk λv86=>
 zi 3 x6 h<|.mk λv87=>
 zi 3 x7 h<|.mk λv88=>
 qCall call (.fn 198 []) [v86,v87,v88] h<|.mk λv89 h=>
 zj 3 x3 v89 h<|.mk λh=>
 zi 3 x3 h<|.mk λv90=>
 k v90 h
def f172_J79{β:Type}(call:zh β)(k:K β)(x0 x1 x2 x3 x4 x5 x6 x7 x8 x9 x10 x11 x12 x13 x14 x15:AV)(h:H):Option β :=
 zr 5 x5 (.int .i64 1)<|.mk λv80=>
 zi 5 v80 h<|.mk λv81=>
 qCall call (.fn 172 []) [x0,v81] h<|.mk λv82 h=>
 zK 0 [(.int .i64 0),(.int .i64 0),.nils] h<|.mk λv83 h=>
 zj 3 v83 v82 h<|.mk λh=>
 zl 16 (.mk (
 f172_J84 call k))<|.mk λj84=>
 qNil x0<|.mk λv91=>
 zg 2 v91<|.mk λv92=>
 za v92 h<|.mk λv93=>
 qNeq v93 (.int .i64 0)<|.mk λv94=>
 qIf v94 (.mk (
 qCall call (.fn 196 []) [] h<|.mk λv95 h=>
 zj 3 x3 v95 h<|.mk λh=>
 zi 3 x3 h<|.mk λv96=>
 k v96 h))<|.mk (
 j84 x0 x1 x2 x3 x4 x5 x6 v83 x8 x9 x10 x11 x12 x13 v82 x15 h)
def f172_J113{β:Type}(call:zh β)(k:K β)(x0 x1 x2 x3 x4 x5 x6 x7 x8 x9 x10 x11 x12 x13 x14 x15:AV)(h:H):Option β :=
 zs 0 [] 0 [] [] h<|.mk λv114 h=>
 zg 4 x2<|.mk λv115=>
 za v115 h<|.mk λv116=>
 qApp 0 5 64 v114 v116 h<|.mk λv117 h=>
 zg 2 x8<|.mk λv118=>
 za v118 h<|.mk λv119=>
 qApp 0 5 64 v117 v119 h<|.mk λv120 h=>
 zg 2 x2<|.mk λv121=>
 za v121 h<|.mk λv122=>
 zg 3 x4<|.mk λv123=>
 za v123 h<|.mk λv124=>
 zr 1 v124 (.int .i64 1)<|.mk λv125=>
 za v125 h<|.mk λv126=>
 zo [(.bool false),(.str []),(.int .i64 0),(.int .i64 0),.nils] [(2,1),(3,1),(4,1)] [v122,v126,v120]<|.mk λv127=>
 qCall call (.fn 172 []) [x0,v127] h<|.mk λv128 h=>
 zj 3 x3 v128 h<|.mk λh=>
 zi 3 x3 h<|.mk λv129=>
 k v129 h
def f172_J112{β:Type}(call:zh β)(k:K β)(x0 x1 x2 x3 x4 x5 x6 x7 x8 x9 x10 x11 x12 x13 x14 x15:AV)(h:H):Option β :=
 zl 16 (.mk (
 f172_J113 call k))<|.mk λj113=>
 zg 0 x8<|.mk λv130=>
 za v130 h<|.mk λv131=>
 qNeq v131 (.int .i64 2)<|.mk λv132=>
 qOr v132 h (.mk λh k=>
 zg 1 x8<|.mk λv133=>
 za v133 h<|.mk λv134=>
 zg 1 x4<|.mk λv135=>
 za v135 h<|.mk λv136=>
 qNeq v134 v136<|.mk λv137=>
 k v137 h)<|.mk λv138 h=>
 qOr v138 h (.mk λh k=>
 zg 2 x8<|.mk λv139=>
 za v139 h<|.mk λv140=>
 qLenL v140<|.mk λv141=>
 zg 2 x4<|.mk λv142=>
 za v142 h<|.mk λv143=>
 qNeq v141 v143<|.mk λv144=>
 k v144 h)<|.mk λv145 h=>
 qIf v145 (.mk (
 zr 5 x5 (.int .i64 2)<|.mk λv146=>
 zi 5 v146 h<|.mk λv147=>
 qCall call (.fn 172 []) [x0,v147] h<|.mk λv148 h=>
 zj 3 x3 v148 h<|.mk λh=>
 zi 3 x3 h<|.mk λv149=>
 k v149 h))<|.mk (
 j113 x0 x1 x2 x3 x4 x5 x6 x7 x8 x9 x10 x11 x12 x13 x14 x15 h)
def f172_J3{β:Type}(call:zh β)(k:K β)(x0 x1 x2 x3 x4 x5 x6 x7 x8 x9 x10 x11 x12 x13 x14 x15:AV)(h:H):Option β :=
 qNil x0<|.mk λv4=>
 zg 1 v4<|.mk λv5=>
 za v5 h<|.mk λv6=>
 qSub v6 (.int .i64 1)<|.mk λv7=>
 qNil x0<|.mk λv8=>
 zg 1 v8<|.mk λv9=>
 zj 1 v9 v7 h<|.mk λh=>
 qNil x0<|.mk λv10=>
 zg 0 v10<|.mk λv11=>
 zg 0 v11<|.mk λv12=>
 za v12 h<|.mk λv13=>
 zg 2 x2<|.mk λv14=>
 za v14 h<|.mk λv15=>
 zr 2 v13 v15<|.mk λv16=>
 zg 1 v16<|.mk λv17=>
 za v17 h<|.mk λv18=>
 zg 3 x2<|.mk λv19=>
 za v19 h<|.mk λv20=>
 zr 4 v18 v20<|.mk λv21=>
 zi 4 v21 h<|.mk λv22=>
 zK 0 [(.int .i64 0),(.int .i64 0),(.int .i64 0),.nils] h<|.mk λv23 h=>
 zi 4 v21 h<|.mk λv24=>
 zaH v24 v22<|.mk λ_=>
 za v19 h<|.mk λv25=>
 zaH v25 v20<|.mk λ_=>
 za v17 h<|.mk λv26=>
 zaH v26 v18<|.mk λ_=>
 za v14 h<|.mk λv27=>
 zaH v27 v15<|.mk λ_=>
 za v12 h<|.mk λv28=>
 zaH v28 v13<|.mk λ_=>
 zj 4 v23 v22 h<|.mk λh=>
 zi 5 x2 h<|.mk λv29=>
 zg 3 v23<|.mk λv30=>
 za v30 h<|.mk λv31=>
 qCall call (.fn 197 []) [v29,v31] h<|.mk λv32 h=>
 zl 16 (.mk (
 f172_J33 call k))<|.mk λj33=>
 zg 0 v23<|.mk λv36=>
 za v36 h<|.mk λv37=>
 qEql v37 (.int .i64 0)<|.mk λv38=>
 qIf v38 (.mk (
 zg 1 v23<|.mk λv39=>
 za v39 h<|.mk λv40=>
 zo [(.int .i64 0),(.int .i64 0),.nils] [(0,1),(1,1)] [(.int .i64 1),v40]<|.mk λv41=>
 zj 3 x3 v41 h<|.mk λh=>
 zi 3 x3 h<|.mk λv42=>
 k v42 h))<|.mk (
 qEql v37 (.int .i64 1)<|.mk λv43=>
 qIf v43 (.mk (
 zg 4 x2<|.mk λv44=>
 za v44 h<|.mk λv45=>
 zg 1 v23<|.mk λv46=>
 za v46 h<|.mk λv47=>
 zr 5 v45 v47<|.mk λv48=>
 zi 5 v48 h<|.mk λv49=>
 qCall call (.fn 172 []) [x0,v49] h<|.mk λv50 h=>
 zj 3 x3 v50 h<|.mk λh=>
 zi 3 x3 h<|.mk λv51=>
 k v51 h))<|.mk (
 qEql v37 (.int .i64 2)<|.mk λv52=>
 qIf v52 (.mk (
 zg 1 v23<|.mk λv53=>
 za v53 h<|.mk λv54=>
 qNil x0<|.mk λv55=>
 zg 0 v55<|.mk λv56=>
 zg 0 v56<|.mk λv57=>
 za v57 h<|.mk λv58=>
 zg 1 v23<|.mk λv59=>
 za v59 h<|.mk λv60=>
 zr 2 v58 v60<|.mk λv61=>
 zg 1 v61<|.mk λv62=>
 za v62 h<|.mk λv63=>
 qLenL v63<|.mk λv64=>
 qSub v64 (.int .i64 1)<|.mk λv65=>
 zo [(.bool false),(.str []),(.int .i64 0),(.int .i64 0),.nils] [(2,1),(3,1),(4,1)] [v54,v65,v32]<|.mk λv66=>
 qCall call (.fn 172 []) [x0,v66] h<|.mk λv67 h=>
 zj 3 x3 v67 h<|.mk λh=>
 zi 3 x3 h<|.mk λv68=>
 k v68 h))<|.mk (
 qEql v37 (.int .i64 3)<|.mk λv69=>
 qIf v69 (.mk (
 zg 1 v23<|.mk λv70=>
 za v70 h<|.mk λv71=>
 zo [(.int .i64 0),(.int .i64 0),.nils] [(0,1),(1,1),(2,1)] [(.int .i64 2),v71,v32]<|.mk λv72=>
 zj 3 x3 v72 h<|.mk λh=>
 zi 3 x3 h<|.mk λv73=>
 k v73 h))<|.mk (
 qEql v37 (.int .i64 4)<|.mk λv74=>
 qIf v74 (.mk (
 zr 5 v32 (.int .i64 0)<|.mk λv75=>
 zi 5 v75 h<|.mk λv76=>
 qCall call (.fn 172 []) [x0,v76] h<|.mk λv77 h=>
 zK 0 [(.int .i64 0),(.int .i64 0),.nils] h<|.mk λv78 h=>
 zj 3 v78 v77 h<|.mk λh=>
 zl 16 (.mk (
 f172_J79 call k))<|.mk λj79=>
 qNil x0<|.mk λv97=>
 zg 2 v97<|.mk λv98=>
 za v98 h<|.mk λv99=>
 qNeq v99 (.int .i64 0)<|.mk λv100=>
 qOr v100 h (.mk λh k=>
 zg 0 v78<|.mk λv101=>
 za v101 h<|.mk λv102=>
 qNeq v102 (.int .i64 1)<|.mk λv103=>
 k v103 h)<|.mk λv104 h=>
 qIf v104 (.mk (
 qCall call (.fn 196 []) [] h<|.mk λv105 h=>
 zj 3 x3 v105 h<|.mk λh=>
 zi 3 x3 h<|.mk λv106=>
 k v106 h))<|.mk (
 j79 x0 x1 x2 x3 v23 v32 v78 x7 x8 x9 x10 x0 v37 v77 x14 x15 h)))<|.mk (
 qEql v37 (.int .i64 5)<|.mk λv107=>
 qIf v107 (.mk (
 zr 5 v32 (.int .i64 0)<|.mk λv108=>
 zi 5 v108 h<|.mk λv109=>
 qCall call (.fn 172 []) [x0,v109] h<|.mk λv110 h=>
 zK 0 [(.int .i64 0),(.int .i64 0),.nils] h<|.mk λv111 h=>
 zj 3 v111 v110 h<|.mk λh=>
 zl 16 (.mk (
 f172_J112 call k))<|.mk λj112=>
 qNil x0<|.mk λv150=>
 zg 2 v150<|.mk λv151=>
 za v151 h<|.mk λv152=>
 qNeq v152 (.int .i64 0)<|.mk λv153=>
 qOr v153 h (.mk λh k=>
 zg 0 v111<|.mk λv154=>
 za v154 h<|.mk λv155=>
 qEql v155 (.int .i64 3)<|.mk λv156=>
 k v156 h)<|.mk λv157 h=>
 qIf v157 (.mk (
 qCall call (.fn 196 []) [] h<|.mk λv158 h=>
 zj 3 x3 v158 h<|.mk λh=>
 zi 3 x3 h<|.mk λv159=>
 k v159 h))<|.mk (
 j112 x0 x1 x2 x3 v23 v32 x6 x7 v111 x9 x10 x0 v37 x13 x14 v110 h)))<|.mk (
 qEql v37 (.int .i64 6)<|.mk λv160=>
 qIf v160 (.mk (
 zs 0 [] 0 [] [] h<|.mk λv161 h=>
 zg 4 x2<|.mk λv162=>
 za v162 h<|.mk λv163=>
 qApp 0 5 64 v161 v163 h<|.mk λv164 h=>
 zr 5 v32 (.int .i64 0)<|.mk λv165=>
 zi 5 v165 h<|.mk λv166=>
 zs 0 [(.bool false),(.str []),(.int .i64 0),(.int .i64 0),.nils] 1 [(0,5)] [v166] h<|.mk λv167 h=>
 qApp 0 5 64 v164 v167 h<|.mk λv168 h=>
 zg 2 x2<|.mk λv169=>
 za v169 h<|.mk λv170=>
 zg 3 v23<|.mk λv171=>
 za v171 h<|.mk λv172=>
 zr 1 v172 (.int .i64 1)<|.mk λv173=>
 za v173 h<|.mk λv174=>
 zo [(.bool false),(.str []),(.int .i64 0),(.int .i64 0),.nils] [(2,1),(3,1),(4,1)] [v170,v174,v168]<|.mk λv175=>
 qCall call (.fn 172 []) [x0,v175] h<|.mk λv176 h=>
 zj 3 x3 v176 h<|.mk λh=>
 zi 3 x3 h<|.mk λv177=>
 k v177 h))<|.mk (
 j33 x0 x1 x2 x3 v23 v32 x6 x7 x8 x9 x10 x0 v37 x13 x14 x15 h)))))))
def f172_J2{β:Type}(call:zh β)(k:K β)(x0 x1 x2 x3 x4 x5 x6 x7 x8 x9 x10 x11 x12 x13 x14 x15:AV)(h:H):Option β :=
 zl 16 (.mk (
 f172_J3 call k))<|.mk λj3=>
 qNil x0<|.mk λv178=>
 zg 1 v178<|.mk λv179=>
 za v179 h<|.mk λv180=>
 qEql v180 (.int .i64 0)<|.mk λv181=>
 qIf v181 (.mk (
 qNil x0<|.mk λv182=>
 zg 2 v182<|.mk λv183=>
 zj 1 v183 (.int .i64 901) h<|.mk λh=>
 qCall call (.fn 196 []) [] h<|.mk λv184 h=>
 zj 3 x3 v184 h<|.mk λh=>
 zi 3 x3 h<|.mk λv185=>
 k v185 h))<|.mk (
 j3 x0 x1 x2 x3 x4 x5 x6 x7 x8 x9 x10 x11 x12 x13 x14 x15 h)
def f172{β:Type}(N:Nat)(call:zh β)(a:List AV)(h:H)(k:K β):Option β :=
 qBox 0 (nth a 1) h<|.mk λv0 h=>
 zK 0 [(.int .i64 0),(.int .i64 0),.nils] h<|.mk λv1 h=>
 zl 16 (.mk (
 f172_J2 call k))<|.mk λj2=>
 zg 0 v0<|.mk λv186=>
 za v186 h<|.mk λv187=>
 qIf v187 (.mk (
 zg 1 v0<|.mk λv188=>
 za v188 h<|.mk λv189=>
 qCall call (.fn 195 []) [(nth a 0),v189] h<|.mk λv190 h=>
 zj 3 v1 v190 h<|.mk λh=>
 zi 3 v1 h<|.mk λv191=>
 k v191 h))<|.mk (
 j2 (nth a 0) (nth a 1) v0 v1 (nth a 5) (nth a 6) (nth a 7) (nth a 8) (nth a 9) (nth a 10) (nth a 11) (nth a 27) (nth a 53) (nth a 101) (nth a 117) (nth a 135) h)
theorem y172:zF I 172 T.s172 N call a h k=f172 N call a h k:=by kernel_rfl
def f174_J0{β:Type}(k:K β)(x0 x1:AV)(h:H):Option β :=
 k (.int .i64 0) h
def f174{β:Type}(N:Nat)(call:zh β)(a:List AV)(h:H)(k:K β):Option β :=
 zl 2 (.mk (
 f174_J0 k))<|.mk λj0=>
 qIf (nth a 0) (.mk (
 k (.int .i64 1) h))<|.mk (
 j0 (nth a 0) (.int .i64 0) h)
theorem y174:zF I 174 T.s174 N call a h k=f174 N call a h k:=by kernel_rfl
def f195_J9{β:Type}(k:K β)(x0 x1 x2 x3 x4 x5 x6 x7 x8 x9 x10 x11 x12 x13:AV)(h:H):Option β :=
 zi 3 x6 h<|.mk λv10=>
 zj 3 x2 v10 h<|.mk λh=>
 zi 3 x2 h<|.mk λv11=>
 k v11 h
def f195_J14{β:Type}(l12:Cur β 14)(x0 x1 x2 x3 x4 x5 x6 x7 x8 x9 x10 x11 x12 x13:AV)(h:H):Option β :=
 qAdd x7 (.int .i64 1)<|.mk λv15=>
 l12 x0 x1 x2 x3 x4 x5 x6 v15 x8 x9 x10 x11 x12 x13 h
def f195_J13{β:Type}(l12:Cur β 14)(x0 x1 x2 x3 x4 x5 x6 x7 x8 x9 x10 x11 x12 x13:AV)(h:H):Option β :=
 zl 14 (.mk (
 f195_J14 l12))<|.mk λj14=>
 zg 2 x6<|.mk λv16=>
 za v16 h<|.mk λv17=>
 zr 1 x5 x7<|.mk λv18=>
 za v18 h<|.mk λv19=>
 zo [(.bool false),(.str []),(.int .i64 0),(.int .i64 0),.nils] [(0,1),(1,1)] [(.bool true),v19]<|.mk λv20=>
 zs 0 [(.bool false),(.str []),(.int .i64 0),(.int .i64 0),.nils] 1 [(0,5)] [v20] h<|.mk λv21 h=>
 za v16 h<|.mk λv22=>
 zaH v22 v17<|.mk λ_=>
 qApp 0 5 64 v17 v21 h<|.mk λv23 h=>
 zg 2 x6<|.mk λv24=>
 zj 1 v24 v23 h<|.mk λh=>
 j14 x0 x1 x2 x3 x4 x5 x6 x7 x8 x9 x10 x11 x12 x13 h
def f195_L12{β:Type}(j9:Cur β 14)(l12:Cur β 14)(x0 x1 x2 x3 x4 x5 x6 x7 x8 x9 x10 x11 x12 x13:AV)(h:H):Option β :=
 zl 14 (.mk (
 f195_J13 l12))<|.mk λj13=>
 qLenL x5<|.mk λv25=>
 qLss x7 v25<|.mk λv26=>
 qIf v26 (.mk (
 j13 .any .any x2 .any .any x5 x6 x7 .any .any .any .any .any .any h))<|.mk (
 j9 .any .any x2 .any .any x5 x6 x7 .any .any .any .any .any .any h)
def f195_J6{β:Type}(N:Nat)(k:K β)(x0 x1 x2 x3 x4 x5 x6 x7 x8 x9 x10 x11 x12 x13:AV)(h:H):Option β :=
 zo [(.int .i64 0),(.int .i64 0),.nils] [(0,1),(1,1)] [x3,x4]<|.mk λv7=>
 zK 0 [(.int .i64 0),(.int .i64 0),.nils] h<|.mk λv8 h=>
 zj 3 v8 v7 h<|.mk λh=>
 zl 14 (.mk (
 f195_J9 k))<|.mk λj9=>
 (zae 14 N<|.mk (
 f195_L12 j9)) x0 x1 x2 x3 x4 x5 v8 (.int .i64 0) x8 x9 x10 x11 x12 v7 h
def f195{β:Type}(N:Nat)(call:zh β)(a:List AV)(h:H)(k:K β):Option β :=
 zK 0 [(.int .i64 0),(.int .i64 0),.nils] h<|.mk λv0 h=>
 qCall call (.fn 12 []) [(nth a 1)] h<|.mk λv1 h=>
 qExt 0 v1<|.mk λv2=>
 qExt 1 v1<|.mk λv3=>
 qExt 2 v1<|.mk λv4=>
 qExt 3 v1<|.mk λv5=>
 zl 14 (.mk (
 f195_J6 N k))<|.mk λj6=>
 qEql v2 (.int .i64 0)<|.mk λv27=>
 qIf v27 (.mk (
 qNil (nth a 0)<|.mk λv28=>
 zg 2 v28<|.mk λv29=>
 zj 1 v29 (.int .i64 902) h<|.mk λh=>
 qCall call (.fn 196 []) [] h<|.mk λv30 h=>
 zj 3 v0 v30 h<|.mk λh=>
 zi 3 v0 h<|.mk λv31=>
 k v31 h))<|.mk (
 j6 (nth a 0) (nth a 1) v0 v2 v3 v4 (nth a 9) (nth a 10) v1 v2 v3 v4 v5 (nth a 26) h)
theorem y195:zF I 195 T.s195 N call a h k=f195 N call a h k:=by kernel_rfl
def f196{β:Type}(N:Nat)(call:zh β)(a:List AV)(h:H)(k:K β):Option β :=
 zK 0 [(.int .i64 0),(.int .i64 0),.nils] h<|.mk λv0 h=>
 zo [(.int .i64 0),(.int .i64 0),.nils] [(0,1)] [(.int .i64 3)]<|.mk λv1=>
 zj 3 v0 v1 h<|.mk λh=>
 zi 3 v0 h<|.mk λv2=>
 k v2 h
theorem y196:zF I 196 T.s196 N call a h k=f196 N call a h k:=by kernel_rfl
def f197_J1{β:Type}(k:K β)(x0 x1 x2 x3 x4 x5:AV)(h:H):Option β :=
 k x4 h
def f197_J4{β:Type}(l2:Cur β 6)(x0 x1 x2 x3 x4 x5:AV)(h:H):Option β :=
 qAdd x5 (.int .i64 1)<|.mk λv5=>
 l2 x0 x1 x2 x3 x4 v5 h
def f197_J3{β:Type}(l2:Cur β 6)(x0 x1 x2 x3 x4 x5:AV)(h:H):Option β :=
 zl 6 (.mk (
 f197_J4 l2))<|.mk λj4=>
 zg 2 x2<|.mk λv6=>
 za v6 h<|.mk λv7=>
 zr 1 x1 x5<|.mk λv8=>
 za v8 h<|.mk λv9=>
 zg 4 x2<|.mk λv10=>
 za v10 h<|.mk λv11=>
 zo [(.bool false),(.str []),(.int .i64 0),(.int .i64 0),.nils] [(2,1),(3,1),(4,1)] [v7,v9,v11]<|.mk λv12=>
 zs 0 [(.bool false),(.str []),(.int .i64 0),(.int .i64 0),.nils] 1 [(0,5)] [v12] h<|.mk λv13 h=>
 qApp 0 5 64 x4 v13 h<|.mk λv14 h=>
 j4 x0 x1 x2 x3 v14 x5 h
def f197_L2{β:Type}(j1:Cur β 6)(l2:Cur β 6)(x0 x1 x2 x3 x4 x5:AV)(h:H):Option β :=
 zl 6 (.mk (
 f197_J3 l2))<|.mk λj3=>
 qLenL x1<|.mk λv15=>
 qLss x5 v15<|.mk λv16=>
 qIf v16 (.mk (
 j3 .any x1 x2 .any x4 x5 h))<|.mk (
 j1 .any x1 x2 .any x4 x5 h)
def f197{β:Type}(N:Nat)(call:zh β)(a:List AV)(h:H)(k:K β):Option β :=
 qBox 0 (nth a 0) h<|.mk λv0 h=>
 zl 6 (.mk (
 f197_J1 k))<|.mk λj1=>
 (zae 6 N<|.mk (
 f197_L2 j1)) (nth a 0) (nth a 1) v0 .nils .nils (.int .i64 0) h
theorem y197:zF I 197 T.s197 N call a h k=f197 N call a h k:=by kernel_rfl
def f198_J3{β:Type}(call:zh β)(k:K β)(x0 x1 x2 x3 x4 x5 x6 x7 x8 x9:AV)(h:H):Option β :=
 zg 1 x3<|.mk λv4=>
 za v4 h<|.mk λv5=>
 zg 1 x4<|.mk λv6=>
 za v6 h<|.mk λv7=>
 qCall call (.fn 147 []) [x0,v5,v7] h<|.mk λv8 h=>
 qExt 0 v8<|.mk λv9=>
 qExt 1 v8<|.mk λv10=>
 zo [(.int .i64 0),(.int .i64 0),.nils] [(0,1),(1,1)] [(.int .i64 1),v9]<|.mk λv11=>
 zj 3 x5 v11 h<|.mk λh=>
 zi 3 x5 h<|.mk λv12=>
 k v12 h
def f198{β:Type}(N:Nat)(call:zh β)(a:List AV)(h:H)(k:K β):Option β :=
 qBox 0 (nth a 1) h<|.mk λv0 h=>
 qBox 0 (nth a 2) h<|.mk λv1 h=>
 zK 0 [(.int .i64 0),(.int .i64 0),.nils] h<|.mk λv2 h=>
 zl 10 (.mk (
 f198_J3 call k))<|.mk λj3=>
 zg 0 v0<|.mk λv13=>
 za v13 h<|.mk λv14=>
 qNeq v14 (.int .i64 1)<|.mk λv15=>
 qOr v15 h (.mk λh k=>
 zg 0 v1<|.mk λv16=>
 za v16 h<|.mk λv17=>
 qNeq v17 (.int .i64 1)<|.mk λv18=>
 k v18 h)<|.mk λv19 h=>
 qIf v19 (.mk (
 qCall call (.fn 196 []) [] h<|.mk λv20 h=>
 zj 3 v2 v20 h<|.mk λh=>
 zi 3 v2 h<|.mk λv21=>
 k v21 h))<|.mk (
 j3 (nth a 0) (nth a 1) (nth a 2) v0 v1 v2 (nth a 7) (nth a 18) (nth a 25) (nth a 26) h)
theorem y198:zF I 198 T.s198 N call a h k=f198 N call a h k:=by kernel_rfl
def e147:Ent:=⟨147,T.s147,λ_ _=>f147,λ_=>y147⟩
def e168:Ent:=⟨168,T.s168,λ_ _=>f168,λ_=>y168⟩
def e170:Ent:=⟨170,T.s170,λ_ _=>f170,λ_=>y170⟩
def e172:Ent:=⟨172,T.s172,λ_ _=>f172,λ_=>y172⟩
def e174:Ent:=⟨174,T.s174,λ_ _=>f174,λ_=>y174⟩
def e195:Ent:=⟨195,T.s195,λ_ _=>f195,λ_=>y195⟩
def e196:Ent:=⟨196,T.s196,λ_ _=>f196,λ_=>y196⟩
def e197:Ent:=⟨197,T.s197,λ_ _=>f197,λ_=>y197⟩
def e198:Ent:=⟨198,T.s198,λ_ _=>f198,λ_=>y198⟩
structure GR9 (t:ETree):Prop where
 g147:t.get 147=some e147
 g168:t.get 168=some e168
 g170:t.get 170=some e170
 g172:t.get 172=some e172
 g174:t.get 174=some e174
 g195:t.get 195=some e195
 g196:t.get 196=some e196
 g197:t.get 197=some e197
 g198:t.get 198=some e198
section
variable {β:Type} {t:ETree} {I:FI} (n:Nat) (a:List AV) (h:H) (k:K β)
theorem GR9.c147(T:GR9 t):zc t I (n+1) (.fn 147 []) a h k=f147 n (zc t I n) a h k:=by rw[cRule T.g147];rfl
theorem GR9.c168(T:GR9 t):zc t I (n+1) (.fn 168 []) a h k=f168 n (zc t I n) a h k:=by rw[cRule T.g168];rfl
theorem GR9.c170(T:GR9 t):zc t I (n+1) (.fn 170 []) a h k=f170 n (zc t I n) a h k:=by rw[cRule T.g170];rfl
theorem GR9.c172(T:GR9 t):zc t I (n+1) (.fn 172 []) a h k=f172 n (zc t I n) a h k:=by rw[cRule T.g172];rfl
theorem GR9.c174(T:GR9 t):zc t I (n+1) (.fn 174 []) a h k=f174 n (zc t I n) a h k:=by rw[cRule T.g174];rfl
theorem GR9.c195(T:GR9 t):zc t I (n+1) (.fn 195 []) a h k=f195 n (zc t I n) a h k:=by rw[cRule T.g195];rfl
theorem GR9.c196(T:GR9 t):zc t I (n+1) (.fn 196 []) a h k=f196 n (zc t I n) a h k:=by rw[cRule T.g196];rfl
theorem GR9.c197(T:GR9 t):zc t I (n+1) (.fn 197 []) a h k=f197 n (zc t I n) a h k:=by rw[cRule T.g197];rfl
theorem GR9.c198(T:GR9 t):zc t I (n+1) (.fn 198 []) a h k=f198 n (zc t I n) a h k:=by rw[cRule T.g198];rfl
theorem GR9.q147(T:GR9 t):qCall (zc t I (n+1)) (.fn 147 []) a h (.mk k)=f147 n (zc t I n) a h k:=GR9.c147 n a h k T
theorem GR9.q174(T:GR9 t):qCall (zc t I (n+1)) (.fn 174 []) a h (.mk k)=f174 n (zc t I n) a h k:=GR9.c174 n a h k T
end
end
end Am.F
end
section
namespace Am.F
open Go Am
def zcE(_:H)(cs x:List AV):Prop:=cs=x/\x.length=5
theorem zcE.stays:zhn zcE:=λ_ _ _ _ h _=>h
theorem zcE.staysU:zey zcE:=λ_ _ _ _ h _=>h
theorem LAt.rows5{α:Type}{C:H->List AV->α->Prop}{h:H}{v:AV}{xs:List α}(hs:LAt 5 C h v xs):∃rows:List (List AV),LAt 5 zcE h v rows/\rows.length=xs.length/\∀(j:Nat) (r:List AV) (x:α),rows[j]?=some r->xs[j]?=some x->C h r x:=by
 rcases hs with⟨rfl,rfl⟩|⟨b,o,m,g,us,rfl,h2,h3,h4,h5⟩
 ·exact⟨[],.inl ⟨rfl,rfl⟩,rfl,λj r x hr=>by simp at hr⟩
 ·have hget:∀(j:Nat) (r:List AV),((List.range xs.length).map λj=>(us.drop (o+j*5)).take 5)[j]?=some r->j<xs.length/\r=(us.drop (o+j*5)).take 5:=by
   intro j r hr;rw[List.getElem?_map] at hr;rcases Nat.lt_or_ge j xs.length with hj|hj
   ·rw[List.getElem?_range hj] at hr;cases hr;exact⟨hj,rfl⟩
   ·rw[List.getElem?_eq_none (by rw[List.length_range];exact hj)] at hr;cases hr
  refine⟨(List.range xs.length).map λj=>(us.drop (o+j*5)).take 5,.inr ⟨b,o,m,g,us,by simp,h2,h3,by simpa using h4,λj r hr=>?_⟩,by simp,λj r x hr hx=>?_⟩
  ·obtain⟨hj,rfl⟩:=hget j r hr;refine⟨rfl,?_⟩;rw[List.length_take,List.length_drop];omega
  ·obtain⟨hj,rfl⟩:=hget j r hr;exact h5 j x hx
theorem ze1:∀(rows:List (List AV)) (W:List AV),W.length=rows.length*5->(∀(j:Nat) (r:List AV),rows[j]?=some r->(W.drop (j*5)).take 5=r)->W=rows.flatten
 | [],W,hl,_=>by
  have:W=[]:=List.eq_nil_of_length_eq_zero (by simpa using hl)
  rw[this];rfl
 | r::rows,W,hl,hr=>by
  have h0:=hr 0 r rfl;rw[Nat.zero_mul,List.drop_zero] at h0;have ih:=ze1 rows (W.drop 5) (by rw[List.length_drop,hl,List.length_cons];omega) λj x hx=>by
   have:=hr (j+1) x hx
   rw[List.drop_drop];rw[show 5+j*5=(j+1)*5 by omega];exact this
  rw[List.flatten_cons,<- ih,<- h0,List.take_append_drop]
theorem LAt.src5{β:Type}{h:H}{v:AV}{rows:List (List AV)}(hs:LAt 5 zcE h v rows)(c:Nat->List AV->Option β):fSrc 5 v h c=c rows.length rows.flatten:=by
 rcases hs with⟨rfl,rfl⟩|⟨b,o,m,g,us,rfl,h2,h3,h4,h5⟩
 ·rfl
 ·show (cells h b λcs=>cond (Nat.ble (Nat.add o (Nat.mul rows.length 5)) (lenF cs)) (c rows.length (zaK (Nat.mul rows.length 5) (za3 o cs))) none)=_;rw[z7,h3,zav,zq,zJ,zL,ble_eq,decide_eq_true (by exact h4)];have:(us.drop o).take (rows.length*5)=rows.flatten:=by
   refine ze1 _ _ (by rw[List.length_take,List.length_drop];omega) λj r hr=>?_
   have hj:=(List.getElem?_eq_some_iff.1 hr).1;have:=(h5 j r hr).1
   rw[<- this,List.drop_take,List.drop_drop,List.take_take,Nat.min_eq_left (by omega)]
  show c rows.length ((us.drop o).take (rows.length*5))=_;rw[this]
theorem zay:∀(rows:List (List AV)),(∀r ∈ rows,r.length=5)->rows.flatten.length=rows.length*5
 | [],_=>rfl
 | r::rows,h=>by
  rw[List.flatten_cons,List.length_append,h r List.mem_cons_self,zay rows λx hx=>h x (List.mem_cons_of_mem _ hx),List.length_cons];omega
theorem LAt.row5{h:H}{v:AV}{rows:List (List AV)}(hs:LAt 5 zcE h v rows):∀r ∈ rows,r.length=5:=by
 intro r hr;obtain⟨j,hj⟩:=List.mem_iff_getElem?.1 hr;rcases hs with⟨rfl,rfl⟩|⟨b,o,m,g,us,rfl,h2,h3,h4,h5⟩
 ·simp at hj
 ·exact (h5 j r hj).2
def zaD(h h':H)(w:AV)(rows:List (List AV)):Prop:=(w = .nils/\rows=[])\/∃b N g,w = .sl b 0 rows.length N g/\h.n<=b/\b<h'.n/\h'.get b = .own 0 rows.flatten
theorem zaD.sc{h h':H}{w:AV}{rows:List (List AV)}(hn:zaD h h' w rows):w.sc=true:=by
 rcases hn with⟨rfl,_⟩|⟨b,N,g,rfl,_⟩<;>rfl
theorem ze2:∀(rows:List (List AV)) (j:Nat) (r:List AV),(∀x ∈ rows,x.length=5)->rows[j]?=some r->(rows.flatten.drop (j*5)).take 5=r
 | [],j,r,_,h=>by simp at h
 | x::rows,0,r,h4,h=>by
  cases h;rw[Nat.zero_mul,List.drop_zero,List.flatten_cons,<- h4 x List.mem_cons_self,List.take_left]
 | x::rows,j+1,r,h4,h=>by
  have:=ze2 rows j r (λy hy=>h4 y (List.mem_cons_of_mem _ hy)) h
  rw[List.flatten_cons,show (j+1)*5=x.length+j*5 by rw[h4 x List.mem_cons_self];omega,<- List.drop_drop,List.drop_left];exact this
theorem zaD.lat{α:Type}{C:H->List AV->α->Prop}{h h' g:H}{w:AV}{rows:List (List AV)}{xs:List α}(hn:zaD h h' w rows)(h4:∀r ∈ rows,r.length=5)(hl:rows.length=xs.length)(hg:h'.n<=g.n)(ha:∀i,h.n<=i->i<h'.n->g.get i=h'.get i)
  (hc:∀(j:Nat) (r:List AV) (x:α),rows[j]?=some r->xs[j]?=some x->C g r x):LAt 5 C g w xs:=by
 rcases hn with⟨rfl,rfl⟩|⟨b,N,gg,rfl,h1,h2,h3⟩
 ·exact .inl ⟨rfl,List.eq_nil_of_length_eq_zero hl.symm⟩
 ·refine .inr ⟨b,0,N,gg,rows.flatten,by rw[hl],by omega,by rw[ha b h1 h2,h3];rfl,by rw[zay _ h4];omega,λj x hx=>?_⟩;have hj:=(List.getElem?_eq_some_iff.1 hx).1;have hr:rows[j]?=some rows[j]:=List.getElem?_eq_getElem (by omega);rw[Nat.zero_add,ze2 rows j _ h4 hr];exact hc j _ x hr hx
inductive RPC (h:H):List AV->Thg->Prop
 | term (s:List UInt8):RPC h [.bool true,.str s,.int .i64 0,.int .i64 0,.nils] (.term s)
 | part {d a:Nat} {tv:AV} {env:List Thg} (rows:List (List AV)) (hr:LAt 5 zcE h tv rows) (hl:rows.length=env.length)
   (he:∀(j:Nat) (r:List AV) (x:Thg),rows[j]?=some r->env[j]?=some x->RPC h r x):RPC h [.bool false,.str [],.int .i64 (d:Int),.int .i64 (a:Int),tv] (.part d a env)
theorem RPC.un{g h:H}(u:Un g h){cs:List AV}{x:Thg}(ht:RPC g cs x):RPC h cs x:=by
 induction ht with
 | term s=>exact .term s
 | part rows hr hl he ih=>exact .part rows (hr.un zcE.staysU u) hl ih
theorem RPC.staysU:zey RPC:=λ_ _ _ _ h u=>h.un u
theorem RPC.len{h:H}{cs:List AV}{x:Thg}(ht:RPC h cs x):cs.length=5:=by cases ht<;>rfl
def zai(s:List UInt8):List AV:=[.bool true,.str s,.int .i64 0,.int .i64 0,.nils]
def zce(d:Nat)(tv:AV)(kid:Int):List AV:=[.bool false,.str [],.int .i64 (d:Int),.int .i64 kid,tv]
def zbD(h h1:H)(v:AV)(rows:List (List AV)):Prop:=(v = .nils/\rows=[])\/∃b g,v = .sl b 0 rows.length rows.length g/\h.n<=b/\b<h1.n/\h1.get b = .own 0 rows.flatten/\((g=none/\rows=[])\/(g=some 5/\rows≠[]))
theorem zbD.sc{h h':H}{w:AV}{rows:List (List AV)}(hn:zbD h h' w rows):w.sc=true:=by
 rcases hn with⟨rfl,_⟩|⟨b,g,rfl,_⟩<;>rfl
theorem zbD.rows{h h':H}{w:AV}{rows:List (List AV)}(hn:zbD h h' w rows):zaD h h' w rows:=by
 rcases hn with h|⟨b,g,rfl,h1,h2,h3,_⟩
 ·exact .inl h
 ·exact .inr ⟨b,_,g,rfl,h1,h2,h3⟩
theorem zbD.app{β:Type}{h h1:H}{v x:AV}{r1 r2:List (List AV)}{k:K β}{R:Option β}(hf:zbD h h1 v r1)(hx:LAt 5 zcE h1 x r2)(hN:r1.length+r2.length<=1000)(h4:∀r ∈ r1,r.length=5)(hh:h.n<=h1.n)
  (H1:∀v' h2,zbD h h2 v' (r1++r2)->h1.n<=h2.n->(∀i,i<h.n->h2.get i=h1.get i)->k v' h2=R):qApp 0 5 64 v x h1 (.mk k)=R:=by
 show fApp 0 5 64 v x h1 k=R;unfold fApp;rw[hx.src5];have hroom:room=68719476736:=rfl;have h4':=hx.row5;have hfl:=zay r2 h4';have hfl1:=zay r1 h4
 by_cases h0:r2.length=0
 ·have hr2:r2=[]:=List.eq_nil_of_length_eq_zero h0;subst hr2;have H2:=H1 v h1 (by rw[List.append_nil];exact hf) (Nat.le_refl _) λ_ _=>rfl
  rcases hf with⟨rfl,rfl⟩|⟨b,g,rfl,f1,f2,f3,f4⟩
  ·exact H2
  ·simp (disch:=omega) only [zcC,aSl,zO,ble_eq,beq_eq,zaC,zaM,Nat.add_eq,List.length_nil,Nat.add_zero];exact H2
 ·have hne:r1++r2≠[]:=λhh=>h0 (by rw[(List.append_eq_nil_iff.1 hh).2];rfl)
  rcases hf with⟨rfl,rfl⟩|⟨b,g,rfl,f1,f2,f3,f4⟩
  ·show cond (Nat.beq r2.length 0) _ (cond (Nat.ble (Nat.succ r2.length) room) (cond (Nat.ble 64 1024) (newB h1 (.own 0 r2.flatten) λb h=>k (.sl b 0 r2.length r2.length (some 5)) h) none) none)=R;rw[beq_eq,decide_eq_false h0,ble_eq,decide_eq_true (by simp at hN;omega),ble_eq,decide_eq_true (by omega),zcG];exact H1 _ _ (.inr ⟨h1.n,some 5,rfl,by omega,by rw[H.n_push];omega,by rw[zd rfl];rfl,.inr ⟨rfl,hne⟩⟩) (by rw[H.n_push];omega) λi hi=>zb (by omega)
  ·rcases f4 with⟨rfl,rfl⟩|⟨rfl,hr1⟩
   ·have c0:((h1.get b).cells)=some []:=by rw[f3];rfl
    simp (disch:=(first|omega|(simp only[List.length_nil] at hN ⊢;omega))) only [zcC,aSl,zO,ble_eq,beq_eq,zaC,zaM,Nat.add_eq,Nat.mul_eq,Nat.zero_add,z7,c0,zav,zq,zJ,zL,zaN,zcG,Nat.succ_eq_add_one,List.length_nil,Nat.zero_mul,List.take_zero,List.nil_append];exact H1 _ _ (.inr ⟨h1.n,some 5,rfl,by omega,by rw[H.n_push];omega,by rw[zd rfl];rfl,.inr ⟨rfl,hne⟩⟩) (by rw[H.n_push];omega) λi hi=>zb (by omega)
   ·have c0:((h1.get b).cells)=some r1.flatten:=by rw[f3];rfl
    have hl:r1.length*5=r1.flatten.length:=hfl1.symm;have tk:List.take r1.flatten.length (List.drop 0 r1.flatten)=r1.flatten:=by rw[List.drop_zero,List.take_length]
    simp (disch:=omega) only [zcC,aSl,zO,ble_eq,beq_eq,zaC,zaM,Nat.add_eq,Nat.mul_eq,Nat.zero_add,z7,c0,zav,zq,zJ,zL,zaN,zcG,Nat.succ_eq_add_one,hl,tk,zdm,f3,zcm,zav,zcf,H.n_set,decide_true,cond_true];exact H1 (.sl h1.n 0 (r1.length+r2.length) (r1.length+r2.length) (some 5)) ((h1.set b .dead).push (.own 0 (r1.flatten++r2.flatten))) (.inr ⟨h1.n,some 5,by rw[List.length_append],by omega,by rw[H.n_push,H.n_set];omega,by rw[zd (by rw[H.n_set]),List.flatten_append],.inr ⟨rfl,hne⟩⟩) (by rw[H.n_push,H.n_set];omega) λi hi=>by rw[zb (by rw[H.n_set];omega),ze (by omega)]
end Am.F
end
section
namespace Am.F
open Go Am
section
variable {β:Type} {t:ETree}
theorem row5(a b c d e:AV)(hh:H)(kk:K β):zs 0 [.bool false,.str [],.int .i64 0,.int .i64 0,.nils] 1 [(0,5)] [.agg [a,b,c,d,e]] hh (.mk kk)=kk (.sl hh.n 0 1 1 none) (hh.push (.own 0 [a,b,c,d,e])):=fBslice_n (λ_=>rfl) hh kk
theorem zfe(r:List AV)(h5:r.length=5)(h3:H)(c:Nat->List AV->Option β):fSrc 5 (.sl h3.n 0 1 1 none) (h3.push (.own 0 r)) c=c 1 r:=by
 have:((h3.push (.own 0 r)).get h3.n).cells=some r:=by rw[zd rfl];rfl
 show (cells _ h3.n λcs=>cond (Nat.ble (Nat.add 0 (Nat.mul 1 5)) (lenF cs)) (c 1 (zaK (Nat.mul 1 5) (za3 0 cs))) none)=_;rw[z7,this,zav,zq,h5,zJ,zL,List.drop_zero];show c 1 (r.take 5)=_;rw[List.take_of_length_le (by omega)]
theorem GR9.w196(TR:GR9 t)(n:Nat)(h:H):Sp (β:=β) (zc t stdI (n+1) (.fn 196 []) [] h) λu h'=>Ext h h'/\u = .agg [.int .i64 3,.int .i64 0,.nils]:=by
 intro k R hk;have bz:∀kc:VK β,zo [.int .i64 0,.int .i64 0,.nils] [(0,1)] [.int .i64 3] (.mk kc)=kc (.agg [.int .i64 3,.int .i64 0,.nils]):=λkc=>rfl
 rw[TR.c196];unfold f196;simp (disch:=first|omega|simp only[zD]<;>omega|assumption) only[↓zR,↓zRM,zR,zRM,reduceAdd,reduceMul,reduceToNat,↓bz];exact hk _ _ ⟨((Ext.refl h).push _).set (Nat.le_refl _) _,rfl⟩
theorem GR9.w174(TR:GR9 t)(n:Nat)(b:Bool)(h:H)(k:K β):qCall (zc t stdI (n+1)) (.fn 174 []) [.bool b] h (.mk k)=k (.int .i64 (if b=true then 1 else 0)) h:=by
 rw[TR.q174];unfold f174;cases b
 ·simp (disch:=first|omega|simp only[zD]<;>omega|assumption) only[↓zR,↓zRM,zR,zRM,reduceAdd,reduceMul,reduceToNat,↓f174_J0]
  try rfl
 ·simp (disch:=first|omega|simp only[zD]<;>omega|assumption) only[↓zR,↓zRM,zR,zRM,reduceAdd,reduceMul,reduceToNat,↓f174_J0]
  try rfl
theorem zjE(x:Int):IntKind.i64.wrap (IntKind.i16.wrap (IntKind.u16.wrap (x%65536)))=IntKind.i16.wrap x:=by
 have e1:IntKind.u16.wrap (x%65536)=x%65536:=by
  unfold IntKind.wrap;simp only[show IntKind.u16.bits=16 from rfl,show IntKind.u16.signed=false from rfl,Bool.false_and];show (x%65536)%((2 ^ 16:Nat):Int)=_;rw[show ((2 ^ 16:Nat):Int)=65536 by decide];omega
 rw[e1];have e2:IntKind.i16.wrap (x%65536)=IntKind.i16.wrap x:=by
  unfold IntKind.wrap;simp only[show IntKind.i16.bits=16 from rfl,show IntKind.i16.signed=true from rfl,Bool.true_and];have e:x%65536%2 ^ 16=x%2 ^ 16:=by rw[show (2:Int) ^ 16=65536 by decide];omega
  rw[e]
 rw[e2];have:=zed x
 exact zcr (by omega) (by omega)
theorem GR9.w147(TR:GR9 t)(T:GA t)(n:Nat)(op a b:Int)(ho:0<=op/\op<=4)(h1:-32768<=a/\a<=32767)(h2:-32768<=b/\b<=32767)(h:H)(k:K β)(R:Option β)(hk:k (.tup [.int .i64 (doV op a b),.int .i64 0]) h=R):qCall (zc t stdI (n+4)) (.fn 147 []) [.int .i64 op,.int .i64 a,.int .i64 b] h (.mk k)=R:=by
 have hd:doV op a b=IntKind.i16.wrap (if op=0 then a+b else if op=1 then a-b else if op=2 then a*b else if op=3 then (if a=b then 1 else 0) else if op=4 then (if a<b then 1 else 0) else 0):=by
  unfold doV;rw[if_pos ⟨h1,h2⟩]
 have hm:-9223372036854775808<=a*b/\a*b<9223372036854775808:=by
  have q1:(a*b).natAbs<=32768*32768:=by rw[Int.natAbs_mul];exact Nat.mul_le_mul (by omega) (by omega)
  omega
 have hand:∀(x:Int) (kk:VK β),qBin .and (.int .i64 x) (.int .i64 65535) (.mk kk)=kk (.int .i64 (x%65536)):=λx kk=>pBin_and 65535 16 rfl (by omega) x kk
 have hc1:∀(x:Int) (kk:VK β),zd1 .u16 (.int .i64 x) (.mk kk)=kk (.int .u16 (IntKind.u16.wrap x)):=λx kk=>zc3 _ _ _ kk
 have hc2:∀(x:Int) (kk:VK β),zd1 .i16 (.int .u16 x) (.mk kk)=kk (.int .i16 (IntKind.i16.wrap x)):=λx kk=>zc3 _ _ _ kk
 have hc3:∀(x:Int) (kk:VK β),zd1 .i64 (.int .i16 x) (.mk kk)=kk (.int .i64 (IntKind.i64.wrap x)):=λx kk=>zc3 _ _ _ kk
 have ho':op=0\/op=1\/op=2\/op=3\/op=4:=by omega
 have hw:=λ(c:Bool) (kk:K β)=>TR.w174 (n+2) c h kk
 rw[TR.q147];unfold f147;rw[hd] at hk;rcases ho' with rfl|rfl|rfl|rfl|rfl
 ·simp (disch:=first|omega|simp only[zD]<;>omega|assumption) only[↓zR,↓zRM,zR,zRM,reduceAdd,reduceMul,reduceToNat,↓f147_J1,↓f147_J0,T.w30,T.w41,eq_true h1,eq_true h2,hand,↓hc1,↓hc2,↓hc3,zjE,Int.reduceEq,Int.reduceLE];exact hk
 ·simp (disch:=first|omega|simp only[zD]<;>omega|assumption) only[↓zR,↓zRM,zR,zRM,reduceAdd,reduceMul,reduceToNat,↓f147_J1,↓f147_J0,T.w30,T.w41,eq_true h1,eq_true h2,hand,↓hc1,↓hc2,↓hc3,zjE,Int.reduceEq,Int.reduceLE];exact hk
 ·simp (disch:=first|omega|simp only[zD]<;>omega|assumption) only[↓zR,↓zRM,zR,zRM,reduceAdd,reduceMul,reduceToNat,↓f147_J1,↓f147_J0,T.w30,T.w41,eq_true h1,eq_true h2,hand,↓hc1,↓hc2,↓hc3,zjE,Int.reduceEq,Int.reduceLE,hm];exact hk
 ·simp (disch:=first|omega|simp only[zD]<;>omega|assumption) only[↓zR,↓zRM,zR,zRM,reduceAdd,reduceMul,reduceToNat,↓f147_J1,↓f147_J0,T.w30,T.w41,eq_true h1,eq_true h2,hand,↓hc1,↓hc2,↓hc3,zjE,Int.reduceEq,Int.reduceLE,hw,decide_eq_true_eq];exact hk
 ·simp (disch:=first|omega|simp only[zD]<;>omega|assumption) only[↓zR,↓zRM,zR,zRM,reduceAdd,reduceMul,reduceToNat,↓f147_J1,↓f147_J0,T.w30,T.w41,eq_true h1,eq_true h2,hand,↓hc1,↓hc2,↓hc3,zjE,Int.reduceEq,Int.reduceLE,hw,decide_eq_true_eq];exact hk
theorem GR9.w198(TR:GR9 t)(T:GA t)(n:Nat)(op:Int)(f g:Fnd)(wf wg:AV)(ho:0<=op/\op<=4)(h1:-32768<=f.num/\f.num<=32767)(h2:-32768<=g.num/\g.num<=32767)(hf:f.kind=1)(h:H) :
  Sp (β:=β) (zc t stdI (n+5) (.fn 198 []) [.int .i64 op,.agg [.int .i64 f.kind,.int .i64 f.num,wf],.agg [.int .i64 g.kind,.int .i64 g.num,wg]] h) λu h'=>Ext h h'/\u=if g.kind=1 then .agg [.int .i64 1,.int .i64 (doV op f.num g.num),.nils] else .agg [.int .i64 3,.int .i64 0,.nils]:=by
 intro k R hk;obtain⟨fk,fn,fp⟩:=f;obtain⟨gk,gn,gp⟩:=g;simp only at hf h1 h2 hk ⊢;subst hf;have bxA:∀(hh:H) (kk:K β),qBox 0 (.agg [.int .i64 1,.int .i64 fn,wf]) hh (.mk kk)=kk (.ptr hh.n 0) (hh.push (.own 0 [.int .i64 1,.int .i64 fn,wf])):=λhh kk=>zm 0 _ hh kk
 have bxB:∀(hh:H) (kk:K β),qBox 0 (.agg [.int .i64 gk,.int .i64 gn,wg]) hh (.mk kk)=kk (.ptr hh.n 0) (hh.push (.own 0 [.int .i64 gk,.int .i64 gn,wg])):=λhh kk=>zm 0 _ hh kk
 have bz2:∀(x y:Int) (kc:VK β),zo [.int .i64 0,.int .i64 0,.nils] [(0,1),(1,1)] [.int .i64 x,.int .i64 y] (.mk kc)=kc (.agg [.int .i64 x,.int .i64 y,.nils]):=λx y kc=>rfl
 by_cases hg:gk=1
 ·subst hg;rw[if_pos rfl] at hk;rw[TR.c198];unfold f198;simp (disch:=first|omega|simp only[zD]<;>omega|assumption) only[↓zR,↓zRM,zR,zRM,reduceAdd,reduceMul,reduceToNat,↓f198_J3,↓bxA,↓bxB];refine TR.w147 T n op fn gn ho h1 h2 _ _ _ ?_;simp (disch:=first|omega|simp only[zD]<;>omega|assumption) only[↓zR,↓zRM,zR,zRM,reduceAdd,reduceMul,reduceToNat,↓f198_J3,↓bz2];exact hk _ _ ⟨((((Ext.refl h).push _).push _).push _).set (by omega) _,rfl⟩
 ·rw[if_neg hg] at hk;rw[TR.c198];unfold f198;simp (disch:=first|omega|simp only[zD]<;>omega|assumption) only[↓zR,↓zRM,zR,zRM,reduceAdd,reduceMul,reduceToNat,↓f198_J3,↓bxA,↓bxB,eq_false hg];refine TR.w196 (n+3) _ _ _ ?_;intro u h3 ⟨e1,eu⟩;subst eu;have ow:zt (h3.get (h.n+1+1))=some (0,[.int .i64 0,.int .i64 0,.nils]):=by
   rw[e1.get _ (by simp only[H.n_push];omega),zd (by simp only[H.n_push])];rfl
  simp (disch:=first|omega|simp only[zD]<;>omega|assumption) only[↓zR,↓zRM,zR,zRM,reduceAdd,reduceMul,reduceToNat,↓f198_J3,ow];exact hk _ _ ⟨((((((Ext.refl h).push _).push _).push _)).trans e1).set (by omega) _,rfl⟩
theorem GR9.w197(TR:GR9 t)(n:Nat)(hn:10<=n){h:H}{d:Nat}{a tv kv:AV}{ks:List Int}(htv:tv.sc=true)(hk:SlAt h kv (ints ks))(hl:ks.length<=3) :
  Sp (β:=β) (zc t stdI n (.fn 197 []) [.agg [.bool false,.str [],.int .i64 (d:Int),a,tv],kv] h) λu h'=>Ext h h'/\zaD h h' u (ks.map (zce d tv)):=by
 intro k R hkk;obtain⟨m,rfl⟩:∃m,n=m+1:=⟨n-1,by omega⟩
 have hroom:room=68719476736:=rfl;have bxA:∀(hh:H) (kk:K β),qBox 0 (.agg [.bool false,.str [],.int .i64 (d:Int),a,tv]) hh (.mk kk)=kk (.ptr hh.n 0) (hh.push (.own 0 [.bool false,.str [],.int .i64 (d:Int),a,tv])):=λhh kk=>zm 0 _ hh kk
 have lk:∀kc:VK β,qLenL kv (.mk kc)=kc (.int .i64 (ks.length:Int)):=λkc=>by rw[hk.len,zx]
 have hrows:∀(xs:List Int),∀r ∈ xs.map (zce d tv),r.length=5:=λxs r hr=>by
  obtain⟨y,_,rfl⟩:=List.mem_map.1 hr;rfl
 rw[TR.c197];unfold f197;simp (disch:=first|omega|simp only[zD]<;>omega|assumption) only[↓zR,↓zRM,zR,zRM,reduceAdd,reduceMul,reduceToNat,↓bxA];refine zH 6 m _ _ (λi x0 x1 x2 x3 x4 x5 h'=>Ext h h'/\x1=kv/\x2 = .ptr h.n 0/\h'.get h.n = .own 0 [.bool false,.str [],.int .i64 (d:Int),a,tv]/\∃(j lo hi:Nat) (cs:List AV),x5 = .int .i64 (j:Int)/\j+i=ks.length/\h.n+1<=lo/\lo<=hi/\hi<=h'.n/\zN h' lo hi 5 x4 cs/\cs=((ks.take j).map (zce d tv)).flatten) ks.length (by omega) ?_ _ _ _ _ _ _ _
  ⟨(Ext.refl h).push _,rfl,rfl,zd rfl,0,h.n+1,h.n+1,[],rfl,by omega,Nat.le_refl _,Nat.le_refl _,by rw[H.n_push];omega,zN.nil _ _ _ _,rfl⟩
 intro l i ih x0 x1 x2 x3 x4 x5 h' ⟨f1,p1,p2,f0,j,lo,hi,cs,p5,f2,f3,f4,f5,f7,f8⟩;subst p1 p2 p5;have nn:=f1.n;have csc:=f7.sc;have cb:(h'.get h.n).cells=some [.bool false,.str [],.int .i64 (d:Int),a,tv]:=by rw[f0];rfl
 cases i with
 | zero=>
  have hj:j=ks.length:=by omega
  subst hj;rw[List.take_length] at f8;simp (disch:=first|omega|simp only[zD]<;>omega|assumption) only[↓zR,↓zRM,zR,zRM,reduceAdd,reduceMul,reduceToNat,↓f197_J1,↓f197_J4,↓f197_J3,↓f197_L2,lk];refine hkk _ _ ⟨f1,?_⟩;rcases f7 with⟨q1,q2⟩|⟨b,l',q1,q2,q3,q4,q5,q6⟩
  ·refine .inl ⟨q1,?_⟩;have:=zay _ (hrows ks)
   rw[<- f8,q2,List.length_nil] at this;exact List.eq_nil_of_length_eq_zero (by omega)
  ·have hl':l'=(ks.map (zce d tv)).length:=by
    have:=zay _ (hrows ks)
    rw[<- f8,q5] at this;omega
   rw[hl'] at q1;exact .inr ⟨b,_,_,q1,by omega,by omega,by rw[q4,f8]⟩
 | succ i=>
  have hj:j<ks.length:=by omega
  have hkq:ks[j]?=some (ks.getD j 0):=by rw[List.getD_eq_getElem?_getD,List.getElem?_eq_getElem hj];rfl
  have hld:=λkc:VK β=>(hk.ext f1).load (i:=(j:Int)) (kd:=.i64) (by omega) (by rw[zx];omega) kc
  rw[Int.toNat_natCast,zch hj] at hld;generalize hky:ks.getD j 0=y at hkq hld;have bu:∀kc:VK β,zo [.bool false,.str [],.int .i64 0,.int .i64 0,.nils] [(2,1),(3,1),(4,1)] [.int .i64 (d:Int),.int .i64 y,tv] (.mk kc)=kc (.agg (zce d tv y)):=λkc=>by
   rw[zB _ _ _ _ _ _ (by simp),zB _ _ _ _ _ _ (by simp),zU _ _ _ _ htv _ (by simp),zV];rfl
  have hrow:=λ(hh:H) (kc:K β)=>row5 (β:=β) (.bool false) (.str []) (.int .i64 (d:Int)) (.int .i64 y) tv hh kc
  unfold zce at bu;have cj:(j:Int)<(ks.length:Int):=by omega
  simp (disch:=first|omega|simp only[zD]<;>omega|assumption) only[↓zR,↓zRM,zR,zRM,reduceAdd,reduceMul,reduceToNat,↓f197_J1,↓f197_J4,↓f197_J3,↓f197_L2,lk,cb,hld,↓bu,↓hrow,eq_true cj];have hpu:∀i,i<h'.n->(h'.push (.own 0 (zce d tv y))).get i=h'.get i:=λi hi=>zb (by omega)
  have hcl:cs.length=j*5:=by rw[f8,zay _ (hrows _),List.length_map,List.length_take];omega
  refine zb1 (lo:=lo) (hi:=hi) (cs:=cs) (f7.mono (Nat.le_refl _) (Nat.le_refl _) λi p1 p2=>hpu i (by omega)) (by rw[H.n_push];omega) (zfe (zce d tv y) rfl h') rfl (by omega) (by omega) (by omega) (by omega) ?_;intro L' h4 z1 z2 z3 z4;rw[H.n_push] at z1 z2 z4;have hL:L'=j+1:=by rw[List.length_append,hcl] at z3;simp only[zce,List.length_cons,List.length_nil] at z3;omega
  subst hL;have z5:∀i,i<h'.n->(i<lo\/hi<=i)->h4.get i=h'.get i:=λi p1 p2=>(z4 i (by omega) p2).trans (hpu i p1)
  simp (disch:=first|omega|simp only[zD]<;>omega|assumption) only[↓zR,↓zRM,zR,zRM,reduceAdd,reduceMul,reduceToNat,↓f197_J1,↓f197_J4,↓f197_J3,↓f197_L2];refine ih i (by omega) _ _ _ _ _ _ _ ⟨⟨by omega,λi hi=>by rw[z5 i (by omega) (.inl (by omega))];exact f1.get i hi⟩,rfl,rfl,by rw[z5 _ (by omega) (.inl (by omega))];exact f0,j+1,h'.n+1,h'.n+2,cs++zce d tv y,zaB j,by omega,by omega,by omega,by omega,
   .inr ⟨h'.n+1,j+1,rfl,by omega,by omega,z1,z3,by omega⟩,?_⟩
  rw[f8,List.take_add_one,hkq,List.map_append,List.flatten_append];rfl
end
end Am.F
end
section
namespace Am.F
open Go Am
section
variable {β:Type} {t:ETree}
theorem zcs:∀(xs:List (List UInt8)),∀r ∈ xs.map zai,r.length=5:=λxs r hr=>by
 obtain⟨y,_,rfl⟩:=List.mem_map.1 hr;rfl
theorem zdT{g:H}{xs:List (List UInt8)}:∀(q:Nat) (r:List AV) (x:Thg),(xs.map zai)[q]?=some r->(xs.map Thg.term)[q]?=some x->RPC g r x:=λq r x hr hx=>by
 rw[List.getElem?_map] at hr hx;cases hq:xs[q]? with
 | none=>rw[hq] at hr;cases hr
 | some y=>rw[hq] at hr hx;cases hr;cases hx;exact .term y
theorem zfZ{h h':H}{lo hi:Nat}{cur:AV}{cs:List AV}{rows:List (List AV)}(ho:zN h' lo hi 5 cur cs)(h8:cs=rows.flatten)(h5:∀r ∈ rows,r.length=5)(h1:h.n<=lo)(h2:hi<=h'.n):zaD h h' cur rows:=by
 have hfl:=zay _ h5;rcases ho with⟨q1,q2⟩|⟨b,l',q1,q2,q3,q4,q5,q6⟩
 ·refine .inl ⟨q1,?_⟩;rw[<- h8,q2,List.length_nil] at hfl;exact List.eq_nil_of_length_eq_zero (by omega)
 ·have hl':l'=rows.length:=by rw[<- h8,q5] at hfl;omega
  rw[hl'] at q1;exact .inr ⟨b,_,_,q1,by omega,by omega,by rw[q4,h8]⟩
theorem GR9.w195(TR:GR9 t)(T:GA t)(n:Nat)(hn:2080<=n){h:H}{lb:Nat}{pv lf cd:AV}(hlb:lb<h.n)(hl:h.get lb = .own 0 [pv,lf,cd]){s:List UInt8}{u:Tm}(hs:tP s=some u) :
  Sp (β:=β) (zc t stdI n (.fn 195 []) [.ptr lb 0,.str s] h) λv h'=>h.n<=h'.n/\(∀i,i<h.n->i≠lb->h'.get i=h.get i)/\if u.kind=0 then v = .agg [.int .i64 3,.int .i64 0,.nils]/\h'.get lb = .own 0 [pv,lf,.int .i64 902] else
   ∃w,v = .agg [.int .i64 u.kind,.int .i64 u.num,w]/\h'.get lb = .own 0 [pv,lf,cd]/\zaD h h' w (u.kids.map zai):=by
 intro kk R hkk;obtain⟨m,rfl⟩:∃m,n=m+2:=⟨n-2,by omega⟩
 have hroom:room=68719476736:=rfl;have hlen:=(zdl hs).1;have hkl:=(zcX hs).2.1;have hrf:refP s=some (toC s u):=by rw[zgN,hs];rfl
 have bz:∀kc:VK β,zo [.int .i64 0,.int .i64 0,.nils] [] [] (.mk kc)=kc (.agg [.int .i64 0,.int .i64 0,.nils]):=λkc=>rfl
 have bk:∀(x y:Int) (kc:VK β),zo [.int .i64 0,.int .i64 0,.nils] [(0,1),(1,1)] [.int .i64 x,.int .i64 y] (.mk kc)=kc (.agg [.int .i64 x,.int .i64 y,.nils]):=λx y kc=>rfl
 obtain⟨h0,hh0⟩:∃h0,h0=h.push (.own 0 [.int .i64 0,.int .i64 0,.nils]):=⟨_,rfl⟩
 have e0:Ext h h0:=by rw[hh0];exact (Ext.refl h).push _
 have n0:h0.n=h.n+1:=by rw[hh0,H.n_push]
 have g0:h0.get h.n = .own 0 [.int .i64 0,.int .i64 0,.nils]:=by rw[hh0];exact zd rfl
 have hp0:h.push (.own 0 [.int .i64 0,.int .i64 0,.nils])=h0:=hh0.symm;rw[TR.c195];unfold f195;simp (disch:=first|omega|simp only[zD]<;>omega|assumption) only[↓zR,↓zRM,zR,zRM,reduceAdd,reduceMul,reduceToNat,hp0];refine T.w12 (m+1) (by omega) s (by omega) h0 _ _ ?_;intro v h1 ⟨e1,e2⟩;rw[hrf] at e2;obtain⟨c,e3,e4⟩:=e2;have tk:(toC s u).kind=u.kind:=rfl;have tn:(toC s u).num=u.num:=rfl;have tkk:(toC s u).kids=u.kids:=rfl;rw[tk,tn] at e3;rw[tkk] at e4;subst e3;have n1:=e1.n;have o1:zt (h1.get h.n)=some (0,[.int .i64 0,.int .i64 0,.nils]):=by rw[e1.get _ (by omega),g0];rfl
 have ol:h1.get lb = .own 0 [pv,lf,cd]:=by rw[e1.get _ (by omega),e0.get _ hlb,hl]
 have ol':zt (h1.get lb)=some (0,[pv,lf,cd]):=by rw[ol];rfl
 by_cases hk0:u.kind=0
 ·simp (disch:=first|omega|simp only[zD]<;>omega|assumption) only[↓zR,↓zRM,zR,zRM,reduceAdd,reduceMul,reduceToNat,↓f195_J6,eq_true hk0,zaa,ol'];refine TR.w196 m _ _ _ ?_;intro v h2 ⟨e5,ev⟩;subst ev;have n5:=e5.n;rw[H.n_set] at n5;have o2:zt (h2.get h.n)=some (0,[.int .i64 0,.int .i64 0,.nils]):=by rw[e5.get _ (by rw[H.n_set];omega),ze (by omega)];exact o1
  simp (disch:=first|omega|simp only[zD]<;>omega|assumption) only[↓zR,↓zRM,zR,zRM,reduceAdd,reduceMul,reduceToNat,o2];refine hkk _ _ ⟨by rw[H.n_set];omega,λi hi hne=>by rw[ze (by omega),e5.get i (by rw[H.n_set];omega),ze (by omega),e1.get i (by omega),e0.get i hi],?_⟩;rw[if_pos hk0];exact⟨rfl,by rw[ze (by omega),e5.get _ (by rw[H.n_set];omega),zk rfl]⟩
 have hc:SlAt h1 c (strs u.kids):=e4.sl (Nat.le_refl _);have lc:∀kc:VK β,qLenL c (.mk kc)=kc (.int .i64 (u.kids.length:Int)):=λkc=>by rw[hc.len,zag]
 simp (disch:=first|omega|simp only[zD]<;>omega|assumption) only[↓zR,↓zRM,zR,zRM,reduceAdd,reduceMul,reduceToNat,↓f195_J9,↓f195_J14,↓f195_J13,↓f195_L12,↓f195_J6,eq_false hk0,↓bk,lc];refine zH 14 (m+1) _ _ (λi x0 x1 x2 x3 x4 x5 x6 x7 x8 x9 x10 x11 x12 x13 h'=>Ext h1 h'/\x2 = .ptr h.n 0/\x5=c/\x6 = .ptr h1.n 0/\∃(j lo hi:Nat) (cur:AV) (cs:List AV),x7 = .int .i64 (j:Int)/\j+i=u.kids.length/\h1.n+1<=lo/\lo<=hi/\hi<=h'.n /\
  h'.get h1.n = .own 0 [.int .i64 u.kind,.int .i64 u.num,cur]/\zN h' lo hi 5 cur cs/\cs=((u.kids.take j).map zai).flatten) u.kids.length (by omega) ?_ _ _ _ _ _ _ _ _ _ _ _ _ _ _ _
  ⟨((Ext.refl h1).push _).set (Nat.le_refl _) _,rfl,rfl,rfl,0,h1.n+1,h1.n+1,.nils,[],rfl,by omega,Nat.le_refl _,Nat.le_refl _,by rw[H.n_set,H.n_push];omega,zk rfl,zN.nil _ _ _ _,rfl⟩
 intro l i ih x0 x1 x2 x3 x4 x5 x6 x7 x8 x9 x10 x11 x12 x13 h' ⟨f1,p1,p2,p3,j,lo,hi,cur,cs,p5,f2,f3,f4,f5,f6,f7,f8⟩;subst p1 p2 p3 p5;have nn:=f1.n;have cb:(h'.get h1.n).cells=some [.int .i64 u.kind,.int .i64 u.num,cur]:=by rw[f6];rfl
 have csc:=f7.sc;cases i with
 | zero=>
  have hj:j=u.kids.length:=by omega
  subst hj;rw[List.take_length] at f8;have o1':zt (h'.get h.n)=some (0,[.int .i64 0,.int .i64 0,.nils]):=by rw[f1.get _ (by omega)];exact o1
  simp (disch:=first|omega|simp only[zD]<;>omega|assumption) only[↓zR,↓zRM,zR,zRM,reduceAdd,reduceMul,reduceToNat,↓f195_J9,↓f195_J14,↓f195_J13,↓f195_L12,↓f195_J6,lc,cb,o1'];refine hkk _ _ ⟨by rw[H.n_set];omega,λi hi hne=>by rw[ze (by omega),f1.get i (by omega),e1.get i (by omega),e0.get i hi],?_⟩;rw[if_neg hk0];refine⟨cur,rfl,by rw[ze (by omega),f1.get _ (by omega)];exact ol,?_⟩;refine zfZ (lo:=lo) (hi:=hi) (cs:=cs) (f7.mono (Nat.le_refl _) (Nat.le_refl _) λi p q=>ze (by omega)) f8 (zcs _) (by omega) (by rw[H.n_set];omega)
 | succ i=>
  have hj:j<u.kids.length:=by omega
  have hkq:u.kids[j]?=some (u.kids.getD j []):=by rw[List.getD_eq_getElem?_getD,List.getElem?_eq_getElem hj];rfl
  have hld:=λkc:VK β=>(hc.ext f1).loadS (i:=(j:Int)) (kd:=.i64) (by omega) (by omega) kc
  rw[Int.toNat_natCast] at hld;generalize hky:u.kids.getD j []=y at hkq hld;have bu:∀kc:VK β,zo [.bool false,.str [],.int .i64 0,.int .i64 0,.nils] [(0,1),(1,1)] [.bool true,.str y] (.mk kc)=kc (.agg [.bool true,.str y,.int .i64 0,.int .i64 0,.nils]):=λkc=>rfl
  have hrow:=λ(hh:H) (kc:K β)=>row5 (β:=β) (.bool true) (.str y) (.int .i64 0) (.int .i64 0) .nils hh kc
  have hch:=f7.chk (β:=β);have cj:(j:Int)<(u.kids.length:Int):=by omega
  simp (disch:=first|omega|simp only[zD]<;>omega|assumption) only[↓zR,↓zRM,zR,zRM,reduceAdd,reduceMul,reduceToNat,↓f195_J9,↓f195_J14,↓f195_J13,↓f195_L12,↓f195_J6,lc,cb,hld,↓bu,↓hrow,hch,eq_true cj];have hpu:∀i,i<h'.n->(h'.push (.own 0 (zai y))).get i=h'.get i:=λi hi=>zb (by omega)
  have hcl:cs.length=j*5:=by rw[f8,zay _ (zcs _),List.length_map,List.length_take];omega
  refine zb1 (lo:=lo) (hi:=hi) (cs:=cs) (f7.mono (Nat.le_refl _) (Nat.le_refl _) λi p1 p2=>hpu i (by omega)) (by rw[H.n_push];omega) (zfe (zai y) rfl h') rfl (by omega) (by omega) (by omega) (by omega) ?_;intro L' h4 z1 z2 z3 z4;rw[H.n_push] at z1 z2 z4;have hL:L'=j+1:=by rw[List.length_append,hcl] at z3;simp only[zai,List.length_cons,List.length_nil] at z3;omega
  subst hL;have z5:∀i,i<h'.n->(i<lo\/hi<=i)->h4.get i=h'.get i:=λi p1 p2=>(z4 i (by omega) p2).trans (hpu i p1)
  have o4:zt (h4.get h1.n)=some (0,[.int .i64 u.kind,.int .i64 u.num,cur]):=by rw[z5 _ (by omega) (.inl (by omega)),f6];rfl
  simp (disch:=first|omega|simp only[zD]<;>omega|assumption) only[↓zR,↓zRM,zR,zRM,reduceAdd,reduceMul,reduceToNat,↓f195_J9,↓f195_J14,↓f195_J13,↓f195_L12,↓f195_J6,o4];refine ih i (by omega) _ _ _ _ _ _ _ _ _ _ _ _ _ _ _ ⟨⟨by rw[H.n_set];omega,λi hi=>by rw[ze (by omega),z5 i (by omega) (.inl (by omega))];exact f1.get i hi⟩,rfl,rfl,rfl,j+1,h'.n+1,h'.n+2,.sl (h'.n+1) 0 (j+1) (j+1) (some 5),cs++zai y,zaB j,by omega,by omega,by omega,by rw[H.n_set];omega,zk rfl,
   .inr ⟨h'.n+1,j+1,rfl,by omega,by omega,by rw[ze (by omega)];exact z1,z3,by omega⟩,?_⟩
  rw[f8,List.take_add_one,hkq,List.map_append,List.flatten_append];rfl
theorem GR9.w170(TR:GR9 t)(n:Nat)(hn:20<=n){h:H}{pv:AV}{p:List Df}(hp:LAt 2 DfC h pv p){f:Nat}{df:Df}(hf:p[f]?=some df)(hbl:1<=df.body.length)(hbl2:df.body.length<=9223372036854775807){av:AV}{args:List (List UInt8)}(ha:SlAt h av (strs args))(hal:args.length<=10) :
  Sp (β:=β) (zc t stdI n (.fn 170 []) [.agg [pv],.int .i64 (f:Int),av] h) λu h'=>Ext h h'/\∃w,u = .agg [.bool false,.str [],.int .i64 (f:Int),.int .i64 ((df.body.length-1:Nat):Int),w]/\zaD h h' w (args.map zai):=by
 intro kk R hkk;obtain⟨m,rfl⟩:∃m,n=m+1:=⟨n-1,by omega⟩
 have hroom:room=68719476736:=rfl;obtain⟨b,o,cs0,a1,a2,bv,rfl,a3⟩:=hp.at (β:=β) hf;obtain⟨us,b1,b2,b3,b4⟩:=a2.get;have g1:=b4 1 _ rfl;have hb:=a2.1;have lbv:=a3.len (β:=β);have e:(df.body.length:Int)-1=((df.body.length-1:Nat):Int):=by omega
 have hbx:∀(hh:H) (kk:K β),qBox 0 (.agg [pv]) hh (.mk kk)=kk (.ptr hh.n 0) (hh.push (.own 0 [pv])):=λhh kk=>zm 0 _ hh kk
 have la:∀kc:VK β,qLenL av (.mk kc)=kc (.int .i64 (args.length:Int)):=λkc=>by rw[ha.len,zag]
 have bu2:∀kc:VK β,zo [.bool false,.str [],.int .i64 0,.int .i64 0,.nils] [(2,1),(3,1)] [.int .i64 (f:Int),.int .i64 ((df.body.length:Int)-1)] (.mk kc)=kc (.agg [.bool false,.str [],.int .i64 (f:Int),.int .i64 ((df.body.length:Int)-1),.nils]):=λkc=>rfl
 rw[TR.c170];unfold f170;simp (disch:=first|omega|simp only[zD]<;>omega|assumption) only[↓zR,↓zRM,zR,zRM,reduceAdd,reduceMul,reduceToNat,↓hbx,a1,b1,g1,lbv,↓bu2];refine zH 8 m _ _ (λi x0 x1 x2 x3 x4 x5 x6 x7 h'=>Ext h h'/\x2=av/\x4 = .ptr (h.n+1) 0/\x5 = .ptr (h.n+2) 0/\h'.get (h.n+1) = .own 0 [.bool false,.str [],.int .i64 0,.int .i64 0,.nils]/\∃(j lo hi:Nat) (cur:AV) (cs:List AV),x6 = .int .i64 (j:Int)/\j+i=args.length/\h.n+3<=lo/\lo<=hi/\hi<=h'.n /\
  h'.get (h.n+2) = .own 0 [.bool false,.str [],.int .i64 (f:Int),.int .i64 ((df.body.length:Int)-1),cur]/\zN h' lo hi 5 cur cs/\cs=((args.take j).map zai).flatten) args.length (by omega) ?_ _ _ _ _ _ _ _ _ _
  ⟨((((Ext.refl h).push _).push _).push _).set (by omega) _,rfl,rfl,rfl,by rw[ze (by omega),zb (by simp only[H.n_push];omega),zd (by rw[H.n_push])],0,h.n+3,h.n+3,.nils,[],rfl,by omega,Nat.le_refl _,Nat.le_refl _,by simp only[H.n_set,H.n_push];omega,zk rfl,zN.nil _ _ _ _,rfl⟩
 intro l i ih x0 x1 x2 x3 x4 x5 x6 x7 h' ⟨f1,p1,p2,p3,f0,j,lo,hi,cur,cs,p5,f2,f3,f4,f5,f6,f7,f8⟩;subst p1 p2 p3 p5;have nn:=f1.n;have cb:(h'.get (h.n+2)).cells=some [.bool false,.str [],.int .i64 (f:Int),.int .i64 ((df.body.length:Int)-1),cur]:=by rw[f6];rfl
 have csc:=f7.sc;cases i with
 | zero=>
  have hj:j=args.length:=by omega
  subst hj;rw[List.take_length] at f8;have o1':zt (h'.get (h.n+1))=some (0,[.bool false,.str [],.int .i64 0,.int .i64 0,.nils]):=by rw[f0];rfl
  simp (disch:=first|omega|simp only[zD]<;>omega|assumption) only[↓zR,↓zRM,zR,zRM,reduceAdd,reduceMul,reduceToNat,↓f170_J11,↓f170_J16,↓f170_J15,↓f170_L14,la,cb,o1'];rw[e];refine hkk _ _ ⟨f1.set (by omega) _,cur,rfl,?_⟩;refine zfZ (lo:=lo) (hi:=hi) (cs:=cs) (f7.mono (Nat.le_refl _) (Nat.le_refl _) λi p q=>ze (by omega)) f8 (zcs _) (by omega) (by rw[H.n_set];omega)
 | succ i=>
  have hj:j<args.length:=by omega
  have hkq:args[j]?=some (args.getD j []):=by rw[List.getD_eq_getElem?_getD,List.getElem?_eq_getElem hj];rfl
  have hld:=λkc:VK β=>(ha.ext f1).loadS (i:=(j:Int)) (kd:=.i64) (by omega) (by omega) kc
  rw[Int.toNat_natCast] at hld;generalize hky:args.getD j []=y at hkq hld;have bu:∀kc:VK β,zo [.bool false,.str [],.int .i64 0,.int .i64 0,.nils] [(0,1),(1,1)] [.bool true,.str y] (.mk kc)=kc (.agg [.bool true,.str y,.int .i64 0,.int .i64 0,.nils]):=λkc=>rfl
  have hrow:=λ(hh:H) (kc:K β)=>row5 (β:=β) (.bool true) (.str y) (.int .i64 0) (.int .i64 0) .nils hh kc
  have hch:=f7.chk (β:=β);have cj:(j:Int)<(args.length:Int):=by omega
  simp (disch:=first|omega|simp only[zD]<;>omega|assumption) only[↓zR,↓zRM,zR,zRM,reduceAdd,reduceMul,reduceToNat,↓f170_J11,↓f170_J16,↓f170_J15,↓f170_L14,la,cb,hld,↓bu,↓hrow,hch,eq_true cj];have hpu:∀i,i<h'.n->(h'.push (.own 0 (zai y))).get i=h'.get i:=λi hi=>zb (by omega)
  have hcl:cs.length=j*5:=by rw[f8,zay _ (zcs _),List.length_map,List.length_take];omega
  refine zb1 (lo:=lo) (hi:=hi) (cs:=cs) (f7.mono (Nat.le_refl _) (Nat.le_refl _) λi p1 p2=>hpu i (by omega)) (by rw[H.n_push];omega) (zfe (zai y) rfl h') rfl (by omega) (by omega) (by omega) (by omega) ?_;intro L' h4 z1 z2 z3 z4;rw[H.n_push] at z1 z2 z4;have hL:L'=j+1:=by rw[List.length_append,hcl] at z3;simp only[zai,List.length_cons,List.length_nil] at z3;omega
  subst hL;have z5:∀i,i<h'.n->(i<lo\/hi<=i)->h4.get i=h'.get i:=λi p1 p2=>(z4 i (by omega) p2).trans (hpu i p1)
  have o4:zt (h4.get (h.n+2))=some (0,[.bool false,.str [],.int .i64 (f:Int),.int .i64 ((df.body.length:Int)-1),cur]):=by rw[z5 _ (by omega) (.inl (by omega)),f6];rfl
  simp (disch:=first|omega|simp only[zD]<;>omega|assumption) only[↓zR,↓zRM,zR,zRM,reduceAdd,reduceMul,reduceToNat,↓f170_J11,↓f170_J16,↓f170_J15,↓f170_L14,o4];refine ih i (by omega) _ _ _ _ _ _ _ _ _ ⟨⟨by rw[H.n_set];omega,λi hi=>by rw[ze (by omega),z5 i (by omega) (.inl (by omega))];exact f1.get i hi⟩,rfl,rfl,rfl,by rw[ze (by omega),z5 _ (by omega) (.inl (by omega))];exact f0,j+1,h'.n+1,h'.n+2,.sl (h'.n+1) 0 (j+1) (j+1) (some 5),cs++zai y,zaB j,by omega,by omega,by omega,by rw[H.n_set];omega,zk rfl,
   .inr ⟨h'.n+1,j+1,rfl,by omega,by omega,by rw[ze (by omega)];exact z1,z3,by omega⟩,?_⟩
  rw[f8,List.take_add_one,hkq,List.map_append,List.flatten_append];rfl
end
end Am.F
end
section
namespace Am.F
open Go Am
def zfH(p:List Df)(r:Rs × Nat)(n0:Nat)(g h:H)(lb:Nat)(pv:AV)(u:AV)(h':H):Prop :=
 ∃g',Gh g g'/\Un g' h'/\g'.n=h'.n/\h.n<=h'.n/\(∀i,i<n0->i≠lb->h'.get i=h.get i) /\
  match r.1 with
  | .bad c=>u = .agg [.int .i64 3,.int .i64 0,.nils]/\(c=901\/c=902)/\h'.get lb = .own 0 [pv,.int .i64 (r.2:Int),.int .i64 c]
  | .ok f=>∃w,u = .agg [.int .i64 f.kind,.int .i64 f.num,w]/\w.sc=true/\LAt 5 RPC g' w f.parts/\h'.get lb = .own 0 [pv,.int .i64 (r.2:Int),.int .i64 0]
def EvOk(t:ETree)(p:List Df)(N n:Nat):Prop:=∀{β:Type} {g h:H} {lb:Nat} {pv:AV} {left:Nat} {cs:List AV} {th:Thg},Un g h->g.n=h.n->lb<h.n->(g.get lb).cells=none->h.get lb = .own 0 [pv,.int .i64 (left:Int),.int .i64 0]->LAt 2 DfC g pv p->RPC g cs th->WF p th->left<N->left<=1000 ->
 Sp (β:=β) (zc t stdI n (.fn 172 []) [.ptr lb 0,.agg cs] h) λu h'=>zfH p (zp p N left th) h.n g h lb pv u h'
structure RS (p:List Df) (n0 lb b3:Nat) (pv:AV) (left:Nat) (c:Int) (g h:H):Prop where
 un:Un g h
 gn:g.n=h.n
 i0:lb<n0
 i3:n0<=b3
 j3:b3<h.n
 ll:h.get lb = .own 0 [pv,.int .i64 (left:Int),.int .i64 c]
 l3:h.get b3 = .own 0 [.int .i64 0,.int .i64 0,.nils]
 dl:(g.get lb).cells=none
 d3:(g.get b3).cells=none
 lat:LAt 2 DfC g pv p
theorem Un.grow'{g h h':H}(u:Un g h)(hn:g.n=h.n)(hle:h.n<=h'.n)(e:∀i,i<h.n->(g.get i).cells≠none->h'.get i=h.get i):∃g',Gh g g'/\Un g' h'/\g'.n=h'.n/\∀i,h.n<=i->i<h'.n->g'.get i=h'.get i:=by
 obtain⟨g',a,b,c⟩:=zef (h'.n-g.n) g h' (by omega);refine⟨g',⟨⟨by omega,λi p q=>b i p⟩,λi p q=>by rw[b i p];exact q⟩,⟨by omega,λi p q=>?_⟩,a,λi p q=>c i (by omega) q⟩
 by_cases hi:i<g.n
 ·rw[b i hi] at q ⊢;rw[e i (by omega) q];exact u.get i hi q
 ·exact (c i (by omega) (by omega)).symm
theorem SlAt.beq{h:H}{v:AV}{cs:List AV}(hs:SlAt h v cs):AV.beq v v=true:=by
 rcases hs with⟨rfl,_⟩|⟨b,o,m,g,us,rfl,_⟩<;>simp[AV.beq]
theorem chk_ex{β:Type}{h:H}{w:AV}{cs:List AV}(hs:SlAt h w cs)(a b c:Int)(k:VK β):zaH (.agg [.int .i64 a,.int .i64 b,.int .i64 c,w]) (.agg [.int .i64 a,.int .i64 b,.int .i64 c,w]) (.mk k)=k (.agg [.int .i64 a,.int .i64 b,.int .i64 c,w]):=by
 show cond (AV.beq _ _) (k _) none=_;have:AV.beq (.agg [.int .i64 a,.int .i64 b,.int .i64 c,w]) (.agg [.int .i64 a,.int .i64 b,.int .i64 c,w])=true:=by simp[AV.beq,AV.beqs,hs.beq]
 rw[this];rfl
theorem LAt.thg{β:Type}{g:H}{v:AV}{xs:List Thg}(hs:LAt 5 RPC g v xs){j:Nat}{x:Thg}(hx:xs[j]?=some x) :
  ∃b o cs,(∀k:VK β,zr 5 v (.int .i64 (j:Int)) (.mk k)=k (.ptr b o))/\RPC g cs x/\b<g.n/\(g.get b).cells≠none/\∀(h:H) (k:VK β),h.get b=g.get b->zi 5 (.ptr b o) h (.mk k)=k (.agg cs):=by
 obtain⟨b,o,cs,q1,⟨q2,us,q3,q4,q5⟩,q6⟩:=hs.at (β:=β) hx;refine⟨b,o,cs,q1,q6,q2,by rw[q3];simp,λh k hh=>?_⟩;rw[zfl,hh,q3,zgQ,zd2 q4,q5]
theorem zbD.ext{h h1 h2:H}{v:AV}{rows:List (List AV)}(hf:zbD h h1 v rows)(e:Ext h1 h2):zbD h h2 v rows:=by
 rcases hf with hf|⟨b,g,f0,f1,f2,f3,f4⟩
 ·exact .inl hf
 ·exact .inr ⟨b,g,f0,f1,by have:=e.n;omega,by rw[e.get b f2];exact f3,f4⟩
theorem RPC.of_rows{g h h':H}{w:AV}{rows:List (List AV)}{env:List Thg}{d:Nat}{kid:Int}(hn:zaD h h' w rows)(h5:∀r ∈ rows,r.length=5)(hl:rows.length=env.length)(hg:h'.n<=g.n)(ha:∀i,h.n<=i->i<h'.n->g.get i=h'.get i)(hk:0<=kid)
  (hc:∀(j:Nat) (r:List AV) (x:Thg),rows[j]?=some r->env[j]?=some x->RPC g r x):RPC g [.bool false,.str [],.int .i64 (d:Int),.int .i64 kid,w] (.part d kid.toNat env):=by
 obtain⟨rr,v1,v2,v3⟩:=(hn.lat (C:=RPC) (g:=g) h5 hl hg ha hc).rows5;have:kid=((kid.toNat:Nat):Int):=by omega
 rw[this];exact .part rr v1 v2 v3
theorem RPC.of_lat{g:H}{w:AV}{env:List Thg}{d:Nat}{kid:Int}(hn:LAt 5 RPC g w env)(hk:0<=kid):RPC g [.bool false,.str [],.int .i64 (d:Int),.int .i64 kid,w] (.part d kid.toNat env):=by
 obtain⟨rr,v1,v2,v3⟩:=hn.rows5;have:kid=((kid.toNat:Nat):Int):=by omega
 rw[this];exact .part rr v1 v2 v3
section
variable {β:Type} {t:ETree}
theorem box3{h:H}{b3:Nat}(l3:h.get b3 = .own 0 [.int .i64 0,.int .i64 0,.nils])(x y w:AV)(k:K β) :
  (zj 3 (.ptr b3 0) (.agg [x,y,w]) h<|.mk λh=>zi 3 (.ptr b3 0) h<|.mk λv=>k v h)=k (.agg [x,y,w]) (h.set b3 (.own 0 [x,y,w])):=by
 have o3:zt (h.get b3)=some (0,[.int .i64 0,.int .i64 0,.nils]):=by rw[l3];rfl
 simp (disch:=first|omega|simp only[zD]<;>omega|assumption) only[↓zR,↓zRM,zR,zRM,reduceAdd,reduceMul,reduceToNat,o3]
variable {p:List Df} {n0 lb b3:Nat} {pv:AV} {left:Nat} {c:Int} {g h g0 h0:H} {k:K β} {R:Option β}
theorem RS.fin(S:RS p n0 lb b3 pv left 0 g h)(st:Lst n0 lb g0 h0 g h){r:Rs × Nat}{f:Fnd}(hr:r=(.ok f,left))(hk:∀u h',zfH p r n0 g0 h0 lb pv u h'->k u h'=R){w:AV}(hw:w.sc=true)(hp:LAt 5 RPC g w f.parts) :
  k (.agg [.int .i64 f.kind,.int .i64 f.num,w]) (h.set b3 (.own 0 [.int .i64 f.kind,.int .i64 f.num,w]))=R:=by
 have j:=S.i0;have j3:=S.i3
 refine hk _ _ ⟨g,st.gh,S.un.set S.d3 _,by rw[H.n_set];exact S.gn,by rw[H.n_set];exact st.n,λi hi hne=>by rw[ze (by omega)];exact st.same i hi hne,?_⟩;rw[hr];exact⟨w,rfl,hw,hp,by rw[ze (by omega)];exact S.ll⟩
theorem RS.call{N n:Nat}(ev:EvOk t p N n)(S:RS p n0 lb b3 pv left 0 g h)(st:Lst n0 lb g0 h0 g h){cs:List AV}{th:Thg}(tc:RPC g cs th)(wf:WF p th)(hN:left<N)(hl:left<=1000){r:Rs × Nat}(hr:r=zp p N left th)(hk:∀u h',zfH p r n0 g0 h0 lb pv u h'->k u h'=R) :
  (qCall (zc t stdI n) (.fn 172 []) [.ptr lb 0,.agg cs] h<|.mk λv h=>zj 3 (.ptr b3 0) v h<|.mk λh=>zi 3 (.ptr b3 0) h<|.mk λv=>k v h)=R:=by
 have i0:=S.i0;have i3:=S.i3;have j3:=S.j3
 refine ev S.un S.gn (by omega) S.dl S.ll S.lat tc wf hN hl _ _ ?_;intro u h' ⟨g',q1,q2,q3,q4,q5,q6⟩;have l3':h'.get b3 = .own 0 [.int .i64 0,.int .i64 0,.nils]:=by rw[q5 b3 j3 (by omega)];exact S.l3
 have d3':=q1.hid b3 (by have:=S.gn;omega) S.d3;have base:∀x y w,∃gx,gx=g'/\Gh g0 gx/\Un gx (h'.set b3 (.own 0 [x,y,w]))/\gx.n=(h'.set b3 (.own 0 [x,y,w])).n/\h0.n<=(h'.set b3 (.own 0 [x,y,w])).n/\(∀i,i<n0->i≠lb->(h'.set b3 (.own 0 [x,y,w])).get i=h0.get i)/\(h'.set b3 (.own 0 [x,y,w])).get lb=h'.get lb:=λx y w=>
  ⟨g',rfl,st.gh.trans q1,q2.set d3' _,by rw[H.n_set];exact q3,by rw[H.n_set];exact Nat.le_trans st.n q4,λi hi hne=>by rw[ze (by omega),q5 i (by omega) hne];exact st.same i hi hne,ze (by omega)⟩
 subst hr;cases hre:(zp p N left th).1 with
 | bad c=>
  rw[hre] at q6;obtain⟨rfl,hc,q7⟩:=q6;show (zj 3 (.ptr b3 0) (.agg [.int .i64 3,.int .i64 0,.nils]) h'<|.mk λh=>zi 3 (.ptr b3 0) h<|.mk λv=>k v h)=R;rw[box3 l3'];obtain⟨gx,rfl,b1,b2,b3',b4,b5,b6⟩:=base (.int .i64 3) (.int .i64 0) .nils;refine hk _ _ ⟨gx,b1,b2,b3',b4,b5,?_⟩;rw[hre];exact⟨rfl,hc,by rw[b6];exact q7⟩
 | ok f=>
  rw[hre] at q6;obtain⟨w,rfl,hw,hp,q7⟩:=q6;show (zj 3 (.ptr b3 0) (.agg [.int .i64 f.kind,.int .i64 f.num,w]) h'<|.mk λh=>zi 3 (.ptr b3 0) h<|.mk λv=>k v h)=R;rw[box3 l3'];obtain⟨gx,rfl,b1,b2,b3',b4,b5,b6⟩:=base (.int .i64 f.kind) (.int .i64 f.num) w;refine hk _ _ ⟨gx,b1,b2,b3',b4,b5,?_⟩;rw[hre];exact⟨w,rfl,hw,hp,by rw[b6];exact q7⟩
theorem RS.fail(TR:GR9 t){n:Nat}(hn:1<=n)(S:RS p n0 lb b3 pv left c g h)(st:Lst n0 lb g0 h0 g h){r:Rs × Nat}(hr:(c=0/\r=(.ok zbb,left))\/((c=901\/c=902)/\r=(.bad c,left)))(hk:∀u h',zfH p r n0 g0 h0 lb pv u h'->k u h'=R) :
  (qCall (zc t stdI n) (.fn 196 []) [] h<|.mk λv h=>zj 3 (.ptr b3 0) v h<|.mk λh=>zi 3 (.ptr b3 0) h<|.mk λv=>k v h)=R:=by
 obtain⟨n,rfl⟩:∃m,n=m+1:=⟨n-1,by omega⟩
 have i0:=S.i0;have i3:=S.i3;have j3:=S.j3
 refine TR.w196 n h _ _ ?_;intro u h' ⟨e1,eu⟩;subst eu;obtain⟨g',q1,q2,q3,_⟩:=S.un.grow S.gn e1;have:=e1.n
 show (zj 3 (.ptr b3 0) (.agg [.int .i64 3,.int .i64 0,.nils]) h'<|.mk λh=>zi 3 (.ptr b3 0) h<|.mk λv=>k v h)=R;rw[box3 (by rw[e1.get _ j3];exact S.l3)];have d3':=q1.hid b3 (by have:=S.gn;omega) S.d3;refine hk _ _ ⟨g',st.gh.trans q1,q2.set d3' _,by rw[H.n_set];exact q3,by rw[H.n_set];have:=st.n;omega,λi hi hne=>by rw[ze (by omega),e1.get i (by omega)];exact st.same i hi hne,?_⟩;have hll:(h'.set b3 (.own 0 [.int .i64 3,.int .i64 0,.nils])).get lb = .own 0 [pv,.int .i64 (left:Int),.int .i64 c]:=by rw[ze (by omega),e1.get _ (by omega)];exact S.ll
 rcases hr with⟨rfl,rfl⟩|⟨hc,rfl⟩
 ·exact⟨.nils,rfl,rfl,.inl ⟨rfl,rfl⟩,hll⟩
 ·exact⟨rfl,hc,hll⟩
theorem RS.after(S:RS p n0 lb b3 pv left 0 g h){r:Rs × Nat}{u:AV}{h1:H}(ep:zfH p r h.n g h lb pv u h1) :
  ∃(g':H) (x y c:Int) (w:AV),u = .agg [.int .i64 x,.int .i64 y,w]/\RS p n0 lb b3 pv r.2 c g' ((h1.push (.own 0 [.int .i64 0,.int .i64 0,.nils])).set h1.n (.own 0 [.int .i64 x,.int .i64 y,w]))/\Lst n0 lb g h g' ((h1.push (.own 0 [.int .i64 0,.int .i64 0,.nils])).set h1.n (.own 0 [.int .i64 x,.int .i64 y,w])) /\
   (∀i,i<h.n->i≠lb->((h1.push (.own 0 [.int .i64 0,.int .i64 0,.nils])).set h1.n (.own 0 [.int .i64 x,.int .i64 y,w])).get i=h.get i)/\h.n<=h1.n/\(g'.get h1.n).cells=none /\
   match r.1 with
   | .bad c'=>c'=c/\(c=901\/c=902)
   | .ok f=>c=0/\x=f.kind/\y=f.num/\LAt 5 RPC g' w f.parts:=by
 obtain⟨g',q1,q2,q3,q4,q5,q6⟩:=ep;have i0:=S.i0;have i3:=S.i3;have j3:=S.j3
 have mk:∀(x y c:Int) (w:AV),h1.get lb = .own 0 [pv,.int .i64 (r.2:Int),.int .i64 c] ->
   RS p n0 lb b3 pv r.2 c (g'.push .dead) ((h1.push (.own 0 [.int .i64 0,.int .i64 0,.nils])).set h1.n (.own 0 [.int .i64 x,.int .i64 y,w]))/\Lst n0 lb g h (g'.push .dead) ((h1.push (.own 0 [.int .i64 0,.int .i64 0,.nils])).set h1.n (.own 0 [.int .i64 x,.int .i64 y,w])) /\
   (∀i,i<h.n->i≠lb->((h1.push (.own 0 [.int .i64 0,.int .i64 0,.nils])).set h1.n (.own 0 [.int .i64 x,.int .i64 y,w])).get i=h.get i)/\((g'.push .dead).get h1.n).cells=none/\Gh g' (g'.push .dead):=by
  intro x y c w hll;obtain⟨a1,a2,a3,a4⟩:=q2.box q3 (.own 0 [.int .i64 0,.int .i64 0,.nils]) (.own 0 [.int .i64 x,.int .i64 y,w]);have gg:=q1.trans a1;refine⟨⟨a2,a3,i0,i3,by rw[H.n_set,H.n_push];omega,by rw[a4 _ (by omega)];exact hll,by rw[a4 _ (by omega),q5 _ j3 (by omega)];exact S.l3,gg.hid _ (by have:=S.gn;omega) S.dl,gg.hid _ (by have:=S.gn;omega) S.d3,S.lat.un DfC.staysU gg.un⟩,
   ⟨gg,by rw[H.n_set,H.n_push];omega,λi hi hne=>by rw[a4 _ (by omega),q5 i (by omega) hne]⟩,λi hi hne=>by rw[a4 _ (by omega),q5 i hi hne],?_,a1⟩
  rw[zd q3];rfl
 cases hre:r.1 with
 | bad c=>
  rw[hre] at q6;obtain⟨rfl,hc,q7⟩:=q6;obtain⟨m1,m2,m3,m4,m5⟩:=mk 3 0 c .nils q7;exact⟨_,3,0,c,.nils,rfl,m1,m2,m3,q4,m4,rfl,hc⟩
 | ok f=>
  rw[hre] at q6;obtain⟨w,rfl,hw,hp,q7⟩:=q6;obtain⟨m1,m2,m3,m4,m5⟩:=mk f.kind f.num 0 w q7;exact⟨_,f.kind,f.num,0,w,rfl,m1,m2,m3,q4,m4,rfl,rfl,rfl,hp.un RPC.staysU m5.un⟩
theorem RS.askBad{N n:Nat}(ev:EvOk t p N n)(S:RS p n0 lb b3 pv left 0 g h){cs:List AV}{th:Thg}(tc:RPC g cs th)(wf:WF p th)(hN:left<N)(hl:left<=1000){cc:Int}{l1:Nat}(hr:zp p N left th=(.bad cc,l1)){K:K β}
  (hK:∀(h1 g':H),RS p n0 lb b3 pv l1 cc g' ((h1.push (.own 0 [.int .i64 0,.int .i64 0,.nils])).set h1.n (.own 0 [.int .i64 3,.int .i64 0,.nils]))->Lst n0 lb g h g' ((h1.push (.own 0 [.int .i64 0,.int .i64 0,.nils])).set h1.n (.own 0 [.int .i64 3,.int .i64 0,.nils])) ->
   (∀i,i<h.n->i≠lb->h1.get i=h.get i)->h.n<=h1.n->h1.get lb = .own 0 [pv,.int .i64 (l1:Int),.int .i64 cc]->(cc=901\/cc=902)->K (.agg [.int .i64 3,.int .i64 0,.nils]) h1=R) :
  qCall (zc t stdI n) (.fn 172 []) [.ptr lb 0,.agg cs] h (.mk K)=R:=by
 have i0:=S.i0;have i3:=S.i3;have j3:=S.j3
 refine ev S.un S.gn (by omega) S.dl S.ll S.lat tc wf hN hl _ _ ?_;intro u h1 ep;have ep0:=ep;obtain⟨g',q1,q2,q3,q4,q5,q6⟩:=ep;rw[hr] at q6;obtain⟨rfl,hc,q7⟩:=q6;obtain⟨g2,x,y,c2,w,hu,S2,st2,k2,n2,_,m2⟩:=S.after ep0;rw[hr] at m2;obtain⟨rfl,_⟩:=m2;cases hu;rw[hr] at S2;exact hK h1 g2 S2 st2 (λi hi hne=>q5 i hi hne) q4 q7 hc
theorem RS.askOk{N n:Nat}(ev:EvOk t p N n)(S:RS p n0 lb b3 pv left 0 g h){cs:List AV}{th:Thg}(tc:RPC g cs th)(wf:WF p th)(hN:left<N)(hl:left<=1000){f:Fnd}{l1:Nat}(hr:zp p N left th=(.ok f,l1)){K:K β}
  (hK:∀(h1 g':H) (w:AV),RS p n0 lb b3 pv l1 0 g' ((h1.push (.own 0 [.int .i64 0,.int .i64 0,.nils])).set h1.n (.own 0 [.int .i64 f.kind,.int .i64 f.num,w]))->Lst n0 lb g h g' ((h1.push (.own 0 [.int .i64 0,.int .i64 0,.nils])).set h1.n (.own 0 [.int .i64 f.kind,.int .i64 f.num,w])) ->
   (∀i,i<h.n->i≠lb->h1.get i=h.get i)->h.n<=h1.n->h1.get lb = .own 0 [pv,.int .i64 (l1:Int),.int .i64 0]->w.sc=true->LAt 5 RPC g' w f.parts->K (.agg [.int .i64 f.kind,.int .i64 f.num,w]) h1=R) :
  qCall (zc t stdI n) (.fn 172 []) [.ptr lb 0,.agg cs] h (.mk K)=R:=by
 have i0:=S.i0;have i3:=S.i3;have j3:=S.j3
 refine ev S.un S.gn (by omega) S.dl S.ll S.lat tc wf hN hl _ _ ?_;intro u h1 ep;have ep0:=ep;obtain⟨g',q1,q2,q3,q4,q5,q6⟩:=ep;rw[hr] at q6;obtain⟨w0,hu0,hw0,_,q7⟩:=q6;obtain⟨g2,x,y,c2,w,hu,S2,st2,k2,n2,_,m2⟩:=S.after ep0;rw[hr] at m2;obtain⟨rfl,rfl,rfl,m3⟩:=m2;have hww:w0=w:=by rw[hu0] at hu;cases hu;rfl
 subst hww;subst hu;rw[hr] at S2;exact hK h1 g2 w0 S2 st2 (λi hi hne=>q5 i hi hne) q4 q7 hw0 m3
theorem zcy{v:AV}{xs:List Thg}(hs:LAt 5 RPC g v xs)(un:Un g h){j:Nat}{x:Thg}(hx:xs[j]?=some x){i:Int}(hi:i=(j:Int)){K:VK β}(hK:∀cs,RPC g cs x->K (.agg cs)=R) :
  (zr 5 v (.int .i64 i)<|.mk λv75=>zi 5 v75 h<|.mk K)=R:=by
 obtain⟨b,o,cs,q1,q2,q3,q4,q5⟩:=hs.thg (β:=β) hx;rw[hi,q1,q5 h K (un.get b q3 q4)];exact hK cs q2
theorem RS.ext(S:RS p n0 lb b3 pv left c g h){h':H}(e:Ext h h'):∃g',RS p n0 lb b3 pv left c g' h'/\Lst n0 lb g h g' h'/\∀i,h.n<=i->i<h'.n->g'.get i=h'.get i:=by
 have i0:=S.i0;have i3:=S.i3;have j3:=S.j3
 obtain⟨g',q1,q2,q3,q4⟩:=S.un.grow S.gn e;have:=e.n
 exact⟨g',⟨q2,q3,i0,i3,by omega,by rw[e.get _ (by omega)];exact S.ll,by rw[e.get _ j3];exact S.l3,q1.hid _ (by have:=S.gn;omega) S.dl,q1.hid _ (by have:=S.gn;omega) S.d3,S.lat.un DfC.staysU q1.un⟩,⟨q1,e.n,λi hi hne=>e.get i (by omega)⟩,q4⟩
theorem RS.prim(TR:GR9 t)(T:GA t){n:Nat}(hn:5<=n)(S:RS p n0 lb b3 pv left 0 g h)(st:Lst n0 lb g0 h0 g h){op:Int}{f q:Fnd}{wf wg:AV}(ho:0<=op/\op<=4)(h1:-32768<=f.num/\f.num<=32767)(h2:-32768<=q.num/\q.num<=32767)(hf:f.kind=1){r:Rs × Nat}
  (hr:r=if q.kind=1 then (.ok ⟨1,doV op f.num q.num,[]⟩,left) else (.ok zbb,left)) (hk:∀u h',zfH p r n0 g0 h0 lb pv u h'->k u h'=R) :
  (qCall (zc t stdI n) (.fn 198 []) [.int .i64 op,.agg [.int .i64 f.kind,.int .i64 f.num,wf],.agg [.int .i64 q.kind,.int .i64 q.num,wg]] h<|.mk λv h=>zj 3 (.ptr b3 0) v h<|.mk λh=>zi 3 (.ptr b3 0) h<|.mk λv=>k v h)=R:=by
 obtain⟨n,rfl⟩:∃m,n=m+5:=⟨n-5,by omega⟩
 refine TR.w198 T n op f q wf wg ho h1 h2 hf h _ _ ?_;intro u h' ⟨e1,eu⟩;obtain⟨g',S',st',_⟩:=S.ext e1
 by_cases hq:q.kind=1
 ·rw[if_pos hq] at hr eu;subst eu;refine (box3 S'.l3 _ _ _ _).trans ?_;exact S'.fin (st.trans st') (f:=⟨1,doV op f.num q.num,[]⟩) hr hk rfl (.inl ⟨rfl,rfl⟩)
 ·rw[if_neg hq] at hr eu;subst eu;refine (box3 S'.l3 _ _ _ _).trans ?_;exact S'.fin (st.trans st') (f:=zbb) hr hk rfl (.inl ⟨rfl,rfl⟩)
theorem LAt.of5{v:AV}{rows:List (List AV)}{env:List Thg}(hr:LAt 5 zcE g v rows)(hl:rows.length=env.length)(he:∀(j:Nat) (r:List AV) (x:Thg),rows[j]?=some r->env[j]?=some x->RPC g r x):LAt 5 RPC g v env:=by
 rcases hr with⟨rfl,rfl⟩|⟨b,o,m,gg,us,rfl,h2,h3,h4,h5⟩
 ·exact .inl ⟨rfl,List.eq_nil_of_length_eq_zero hl.symm⟩
 ·refine .inr ⟨b,o,m,gg,us,by rw[hl],h2,h3,by rw[<- hl];exact h4,λj x hx=>?_⟩;have hj:=(List.getElem?_eq_some_iff.1 hx).1;have hrr:rows[j]?=some rows[j]:=List.getElem?_eq_getElem (by omega);rw[(h5 j _ hrr).1];exact he j _ x hrr hx
theorem zd9{v:AV}{xs:List Thg}(lt:LAt 5 RPC g v xs):∃rows,LAt 5 zcE g v rows/\rows.length=xs.length/\(∀(j:Nat) (r:List AV) (x:Thg),rows[j]?=some r->xs[j]?=some x->RPC g r x):=by
 obtain⟨r,a,b,c⟩:=lt.rows5;exact⟨r,a,b,c⟩
theorem RS.envTwo(S:RS p n0 lb b3 pv left c g h){tv w2 a b:AV}{env parts:List Thg}(lt:LAt 5 RPC g tv env)(hs:env.length+parts.length<=1000){bx:Nat}(hbx:bx<h.n)(cbx:(h.get bx).cells=some [a,b,w2])(lw:LAt 5 RPC g w2 parts){K:K β}
  (hK:∀(v:AV) (h' g':H),RS p n0 lb b3 pv left c g' h'->Lst n0 lb g h g' h'->Ext h h'->(∀(d:Nat) (kid:Int),0<=kid->RPC g' [.bool false,.str [],.int .i64 (d:Int),.int .i64 kid,v] (.part d kid.toNat (env++parts)))->v.sc=true->K v h'=R) :
  (qApp 0 5 64 (.sl h.n 0 0 0 none) tv (h.push (.own 0 []))<|.mk λv117 h'=>zg 2 (.ptr bx 0)<|.mk λv118=>za v118 h'<|.mk λv119=>qApp 0 5 64 v117 v119 h' (.mk K))=R:=by
 obtain⟨r1,a1,a2,a3⟩:=zd9 lt;obtain⟨r2,b1,b2,b3'⟩:=zd9 lw;have u0:Un g (h.push (.own 0 [])):=S.un.ext ((Ext.refl h).push _);refine zbD.app (h:=h) (r1:=[]) (.inr ⟨h.n,none,rfl,Nat.le_refl _,by rw[H.n_push];omega,zd rfl,.inl ⟨rfl,rfl⟩⟩) (a1.un zcE.staysU u0) (by rw[List.length_nil];omega) (λr hr=>by simp at hr) (by rw[H.n_push];omega) ?_;intro v1 h5 f1 n5 k5;rw[H.n_push] at n5;rw[List.nil_append] at f1;have e5:Ext h h5:=⟨by omega,λi hi=>by rw[k5 i hi,zb (by omega)]⟩
 have cb5:(h5.get bx).cells=some [a,b,w2]:=by rw[e5.get _ hbx];exact cbx
 simp (disch:=first|omega|simp only[zD]<;>omega|assumption) only[↓zR,↓zRM,zR,zRM,reduceAdd,reduceMul,reduceToNat,cb5];refine zbD.app (h:=h) f1 (b1.un zcE.staysU (S.un.ext e5)) (by omega) a1.row5 (by omega) ?_;intro v2 h6 f2 n6 k6;have e6:Ext h h6:=⟨by omega,λi hi=>by rw[k6 i hi];exact e5.get i hi⟩
 obtain⟨g6,S6,st6,new6⟩:=S.ext e6;refine hK v2 h6 g6 S6 st6 e6 (λd kid hkid=>?_) f2.sc;refine RPC.of_rows f2.rows (λr hr=>?_) (by rw[List.length_append,List.length_append,a2,b2]) (by rw[S6.gn];exact Nat.le_refl _) new6 hkid λj r x hr hx=>?_
 ·rcases List.mem_append.1 hr with hr|hr
  ·exact a1.row5 r hr
  ·exact b1.row5 r hr
 ·rcases Nat.lt_or_ge j r1.length with hj|hj
  ·rw[List.getElem?_append_left hj] at hr;rw[List.getElem?_append_left (by omega)] at hx;exact (a3 j r x hr hx).un st6.gh.un
  ·rw[List.getElem?_append_right hj] at hr;rw[List.getElem?_append_right (by omega),<- a2] at hx;exact (b3' _ r x hr hx).un st6.gh.un
theorem RS.envOne(S:RS p n0 lb b3 pv left c g h){tv v32:AV}{env ks:List Thg}{x0:Thg}(lt:LAt 5 RPC g tv env)(hs:env.length+1<=1000)(lk:LAt 5 RPC g v32 ks)(hx0:ks[0]?=some x0){Q:K β}
  (hK:∀(v:AV) (h' g':H),RS p n0 lb b3 pv left c g' h'->Lst n0 lb g h g' h'->Ext h h'->(∀(d:Nat) (kid:Int),0<=kid->RPC g' [.bool false,.str [],.int .i64 (d:Int),.int .i64 kid,v] (.part d kid.toNat (env++[x0])))->v.sc=true->Q v h'=R) :
  (qApp 0 5 64 (.sl h.n 0 0 0 none) tv (h.push (.own 0 []))<|.mk λv164 h'=>zr 5 v32 (.int .i64 0)<|.mk λv165=>zi 5 v165 h'<|.mk λv166=>zs 0 [.bool false,.str [],.int .i64 0,.int .i64 0,.nils] 1 [(0,5)] [v166] h'<|.mk λv167 h'=>qApp 0 5 64 v164 v167 h' (.mk Q))=R:=by
 obtain⟨r1,a1,a2,a3⟩:=zd9 lt;have u0:Un g (h.push (.own 0 [])):=S.un.ext ((Ext.refl h).push _);refine zbD.app (h:=h) (r1:=[]) (.inr ⟨h.n,none,rfl,Nat.le_refl _,by rw[H.n_push];omega,zd rfl,.inl ⟨rfl,rfl⟩⟩) (a1.un zcE.staysU u0) (by rw[List.length_nil];omega) (λr hr=>by simp at hr) (by rw[H.n_push];omega) ?_;intro v1 h5 f1 n5 k5;rw[H.n_push] at n5;rw[List.nil_append] at f1;have e5:Ext h h5:=⟨by omega,λi hi=>by rw[k5 i hi,zb (by omega)]⟩
 refine zcy lk (S.un.ext e5) hx0 rfl (λcs hcs=>?_);have c5:=hcs.len;obtain⟨c0,c1,c2,c3,c4,rfl⟩:∃c0 c1 c2 c3 c4,cs=[c0,c1,c2,c3,c4]:=by
  match cs,c5 with
  | [c0,c1,c2,c3,c4],_=>exact⟨_,_,_,_,_,rfl⟩
 have hrow:∀(hh:H) (kk:K β),zs 0 [.bool false,.str [],.int .i64 0,.int .i64 0,.nils] 1 [(0,5)] [.agg [c0,c1,c2,c3,c4]] hh (.mk kk)=kk (.sl hh.n 0 1 1 none) (hh.push (.own 0 [c0,c1,c2,c3,c4])):=λhh kk=>fBslice_n (λ_=>rfl) hh kk
 rw[hrow];have e5':Ext h5 (h5.push (.own 0 [c0,c1,c2,c3,c4])):=(Ext.refl h5).push _;refine zbD.app (h:=h) (r1:=r1) (r2:=[[c0,c1,c2,c3,c4]]) (f1.ext e5') (.inr ⟨h5.n,0,1,none,[c0,c1,c2,c3,c4],rfl,by rw[H.n_push];omega,by rw[zd rfl];rfl,by simp,λj x hx=>?_⟩) (by simp;omega) a1.row5 (by rw[H.n_push];omega) ?_
 ·cases j with
  | zero=>cases hx;exact⟨rfl,rfl⟩
  | succ j=>simp at hx
 intro v2 h6 f2 n6 k6;rw[H.n_push] at n6;have e6:Ext h h6:=⟨by omega,λi hi=>by rw[k6 i hi,zb (by omega)];exact e5.get i hi⟩
 obtain⟨g6,S6,st6,new6⟩:=S.ext e6;refine hK v2 h6 g6 S6 st6 e6 (λd kid hkid=>?_) f2.sc;refine RPC.of_rows f2.rows (λr hr=>?_) (by rw[List.length_append,List.length_append,a2];rfl) (by rw[S6.gn];exact Nat.le_refl _) new6 hkid λj r x hr hx=>?_
 ·rcases List.mem_append.1 hr with hr|hr
  ·exact a1.row5 r hr
  ·rw[List.mem_singleton] at hr;rw[hr];rfl
 ·rcases Nat.lt_or_ge j r1.length with hj|hj
  ·rw[List.getElem?_append_left hj] at hr;rw[List.getElem?_append_left (by omega)] at hx;exact (a3 j r x hr hx).un st6.gh.un
  ·rw[List.getElem?_append_right hj] at hr;rw[List.getElem?_append_right (by omega),<- a2] at hx;cases hq:j-r1.length with
   | zero=>rw[hq] at hr hx;cases hr;cases hx;exact hcs.un st6.gh.un
   | succ q=>rw[hq] at hr;simp at hr
theorem zhI{w:AV}{ks:List Int}(hw:SlAt h w (ints ks))(hl:2<=ks.length)(kc:VK β):zr 1 w (.int .i64 1) (.mk λq=>za q h (.mk kc))=kc (.int .i64 (ks.getD 1 0)):=by
 have:=hw.load (i:=1) (kd:=.i64) (by omega) (by rw[zx];omega) kc
 rw[show (1:Int).toNat=1 from rfl,zch (by omega)] at this;exact this
end
end Am.F
end
section
namespace Am.F
open Go Am
noncomputable def restE{β:Type}(call:zh β)(k:K β)(x0 x1 x2 x3 x4 x5 x6 x7 x8 x9 x10 x11 x12 x13 x14 x15 v23 v32:AV)(h:H):Option β :=
 zl 16 (.mk (
 f172_J33 call k))<|.mk λj33=>
 zg 0 v23<|.mk λv36=>
 za v36 h<|.mk λv37=>
 qEql v37 (.int .i64 0)<|.mk λv38=>
 qIf v38 (.mk (
 zg 1 v23<|.mk λv39=>
 za v39 h<|.mk λv40=>
 zo [(.int .i64 0),(.int .i64 0),.nils] [(0,1),(1,1)] [(.int .i64 1),v40]<|.mk λv41=>
 zj 3 x3 v41 h<|.mk λh=>
 zi 3 x3 h<|.mk λv42=>
 k v42 h))<|.mk (
 qEql v37 (.int .i64 1)<|.mk λv43=>
 qIf v43 (.mk (
 zg 4 x2<|.mk λv44=>
 za v44 h<|.mk λv45=>
 zg 1 v23<|.mk λv46=>
 za v46 h<|.mk λv47=>
 zr 5 v45 v47<|.mk λv48=>
 zi 5 v48 h<|.mk λv49=>
 qCall call (.fn 172 []) [x0,v49] h<|.mk λv50 h=>
 zj 3 x3 v50 h<|.mk λh=>
 zi 3 x3 h<|.mk λv51=>
 k v51 h))<|.mk (
 qEql v37 (.int .i64 2)<|.mk λv52=>
 qIf v52 (.mk (
 zg 1 v23<|.mk λv53=>
 za v53 h<|.mk λv54=>
 qNil x0<|.mk λv55=>
 zg 0 v55<|.mk λv56=>
 zg 0 v56<|.mk λv57=>
 za v57 h<|.mk λv58=>
 zg 1 v23<|.mk λv59=>
 za v59 h<|.mk λv60=>
 zr 2 v58 v60<|.mk λv61=>
 zg 1 v61<|.mk λv62=>
 za v62 h<|.mk λv63=>
 qLenL v63<|.mk λv64=>
 qSub v64 (.int .i64 1)<|.mk λv65=>
 zo [(.bool false),(.str []),(.int .i64 0),(.int .i64 0),.nils] [(2,1),(3,1),(4,1)] [v54,v65,v32]<|.mk λv66=>
 qCall call (.fn 172 []) [x0,v66] h<|.mk λv67 h=>
 zj 3 x3 v67 h<|.mk λh=>
 zi 3 x3 h<|.mk λv68=>
 k v68 h))<|.mk (
 qEql v37 (.int .i64 3)<|.mk λv69=>
 qIf v69 (.mk (
 zg 1 v23<|.mk λv70=>
 za v70 h<|.mk λv71=>
 zo [(.int .i64 0),(.int .i64 0),.nils] [(0,1),(1,1),(2,1)] [(.int .i64 2),v71,v32]<|.mk λv72=>
 zj 3 x3 v72 h<|.mk λh=>
 zi 3 x3 h<|.mk λv73=>
 k v73 h))<|.mk (
 qEql v37 (.int .i64 4)<|.mk λv74=>
 qIf v74 (.mk (
 zr 5 v32 (.int .i64 0)<|.mk λv75=>
 zi 5 v75 h<|.mk λv76=>
 qCall call (.fn 172 []) [x0,v76] h<|.mk λv77 h=>
 zK 0 [(.int .i64 0),(.int .i64 0),.nils] h<|.mk λv78 h=>
 zj 3 v78 v77 h<|.mk λh=>
 zl 16 (.mk (
 f172_J79 call k))<|.mk λj79=>
 qNil x0<|.mk λv97=>
 zg 2 v97<|.mk λv98=>
 za v98 h<|.mk λv99=>
 qNeq v99 (.int .i64 0)<|.mk λv100=>
 qOr v100 h (.mk λh k=>
 zg 0 v78<|.mk λv101=>
 za v101 h<|.mk λv102=>
 qNeq v102 (.int .i64 1)<|.mk λv103=>
 k v103 h)<|.mk λv104 h=>
 qIf v104 (.mk (
 qCall call (.fn 196 []) [] h<|.mk λv105 h=>
 zj 3 x3 v105 h<|.mk λh=>
 zi 3 x3 h<|.mk λv106=>
 k v106 h))<|.mk (
 j79 x0 x1 x2 x3 v23 v32 v78 x7 x8 x9 x10 x0 v37 v77 x14 x15 h)))<|.mk (
 qEql v37 (.int .i64 5)<|.mk λv107=>
 qIf v107 (.mk (
 zr 5 v32 (.int .i64 0)<|.mk λv108=>
 zi 5 v108 h<|.mk λv109=>
 qCall call (.fn 172 []) [x0,v109] h<|.mk λv110 h=>
 zK 0 [(.int .i64 0),(.int .i64 0),.nils] h<|.mk λv111 h=>
 zj 3 v111 v110 h<|.mk λh=>
 zl 16 (.mk (
 f172_J112 call k))<|.mk λj112=>
 qNil x0<|.mk λv150=>
 zg 2 v150<|.mk λv151=>
 za v151 h<|.mk λv152=>
 qNeq v152 (.int .i64 0)<|.mk λv153=>
 qOr v153 h (.mk λh k=>
 zg 0 v111<|.mk λv154=>
 za v154 h<|.mk λv155=>
 qEql v155 (.int .i64 3)<|.mk λv156=>
 k v156 h)<|.mk λv157 h=>
 qIf v157 (.mk (
 qCall call (.fn 196 []) [] h<|.mk λv158 h=>
 zj 3 x3 v158 h<|.mk λh=>
 zi 3 x3 h<|.mk λv159=>
 k v159 h))<|.mk (
 j112 x0 x1 x2 x3 v23 v32 x6 x7 v111 x9 x10 x0 v37 x13 x14 v110 h)))<|.mk (
 qEql v37 (.int .i64 6)<|.mk λv160=>
 qIf v160 (.mk (
 zs 0 [] 0 [] [] h<|.mk λv161 h=>
 zg 4 x2<|.mk λv162=>
 za v162 h<|.mk λv163=>
 qApp 0 5 64 v161 v163 h<|.mk λv164 h=>
 zr 5 v32 (.int .i64 0)<|.mk λv165=>
 zi 5 v165 h<|.mk λv166=>
 zs 0 [(.bool false),(.str []),(.int .i64 0),(.int .i64 0),.nils] 1 [(0,5)] [v166] h<|.mk λv167 h=>
 qApp 0 5 64 v164 v167 h<|.mk λv168 h=>
 zg 2 x2<|.mk λv169=>
 za v169 h<|.mk λv170=>
 zg 3 v23<|.mk λv171=>
 za v171 h<|.mk λv172=>
 zr 1 v172 (.int .i64 1)<|.mk λv173=>
 za v173 h<|.mk λv174=>
 zo [(.bool false),(.str []),(.int .i64 0),(.int .i64 0),.nils] [(2,1),(3,1),(4,1)] [v170,v174,v168]<|.mk λv175=>
 qCall call (.fn 172 []) [x0,v175] h<|.mk λv176 h=>
 zj 3 x3 v176 h<|.mk λh=>
 zi 3 x3 h<|.mk λv177=>
 k v177 h))<|.mk (
 j33 x0 x1 x2 x3 v23 v32 x6 x7 x8 x9 x10 x0 v37 x13 x14 x15 h)))))))
section
variable {t:ETree}
theorem GR9.eval_term(TR:GR9 t)(T:GA t)(n:Nat)(hn:2200<=n){p:List Df}{N:Nat}{β:Type}{g h:H}{lb:Nat}{pv:AV}{left:Nat}{s:List UInt8}(ug:Un g h)(gn:g.n=h.n)(hlb:lb<h.n)(dl:(g.get lb).cells=none)(ll:h.get lb = .own 0 [pv,.int .i64 (left:Int),.int .i64 0])(lat:LAt 2 DfC g pv p)
  (hm:mayP s=true):Sp (β:=β) (zc t stdI (n+1) (.fn 172 []) [.ptr lb 0,.agg (zai s)] h) λu h'=>zfH p (zp p (N+1) left (.term s)) h.n g h lb pv u h':=by
 intro k R hk;obtain⟨u,hu⟩:∃u,tP s=some u:=by
  unfold mayP at hm;rw[zct] at hm;exact Option.isSome_iff_exists.1 hm
 have hev:zp p (N+1) left (.term s)=(zfg s,left):=by unfold zp;rfl
 have hrd:zfg s=if u.kind=0 then .bad 902 else .ok ⟨u.kind,u.num,u.kids.map .term⟩:=by unfold zfg;rw[hu]
 rw[hev,hrd] at hk;obtain⟨gA,uA,nA,dA⟩:=ug.hide gn (.own 0 (zai s));obtain⟨gB,uB,nB,dB⟩:=uA.hide nA (.own 0 [.int .i64 0,.int .i64 0,.nils]);have GG:=gA.trans gB;obtain⟨hA,ehA⟩:∃hA,hA=(h.push (.own 0 (zai s))).push (.own 0 [.int .i64 0,.int .i64 0,.nils]):=⟨_,rfl⟩
 have nhA:hA.n=h.n+2:=by rw[ehA];simp only[H.n_push]
 have l3:hA.get (h.n+1) = .own 0 [.int .i64 0,.int .i64 0,.nils]:=by rw[ehA,zd (by rw[H.n_push])]
 have llA:hA.get lb = .own 0 [pv,.int .i64 (left:Int),.int .i64 0]:=by rw[ehA,zb (by rw[H.n_push];omega),zb (by omega)];exact ll
 have kA:∀i,i<h.n->hA.get i=h.get i:=λi hi=>by rw[ehA,zb (by rw[H.n_push];omega),zb (by omega)]
 rw[<- ehA] at uB nB;have bxA:∀(hh:H) (kk:K β),qBox 0 (.agg (zai s)) hh (.mk kk)=kk (.ptr hh.n 0) (hh.push (.own 0 (zai s))):=λhh kk=>zm 0 _ hh kk
 have tA:(h.push (.own 0 (zai s))).push (.own 0 [.int .i64 0,.int .i64 0,.nils])=hA:=ehA.symm;have cA:(hA.get h.n).cells=some (zai s):=by rw[ehA,zb (by rw[H.n_push];omega),zd rfl];rfl
 unfold zai at bxA tA cA;have W:=TR.w195 (β:=β) T n (by omega) (h:=hA) (lb:=lb) (by omega) llA hu;rw[TR.c172];unfold f172 zai;simp (disch:=first|omega|simp only[zD]<;>omega|assumption) only[↓zR,↓zRM,zR,zRM,reduceAdd,reduceMul,reduceToNat,↓bxA,tA,cA];refine W _ _ ?_;intro v h2 ⟨n2,s2,hv⟩;have d3:((((g.push .dead).push .dead)).get (h.n+1)).cells=none:=by
  have:=dB;rw[H.n_push] at this;exact this
 have hidl:=GG.hid lb (by omega) dl;obtain⟨g2,q1,q2,q3,q4⟩:=uB.grow' nB n2 (λi hi hne=>s2 i hi (λhh=>hne (by rw[hh];exact hidl)));have l32:h2.get (h.n+1) = .own 0 [.int .i64 0,.int .i64 0,.nils]:=by rw[s2 _ (by omega) (by omega)];exact l3
 have d32:=q1.hid (h.n+1) (by omega) d3;have hst:∀x y w,(h2.set (h.n+1) (.own 0 [x,y,w])).get lb=h2.get lb:=λx y w=>ze (by omega)
 have G2:=GG.trans q1
 by_cases hu0:u.kind=0
 ·rw[if_pos hu0] at hv hk;obtain⟨rfl,hl2⟩:=hv;refine (box3 l32 _ _ _ _).trans ?_;exact hk _ _ ⟨g2,G2,q2.set d32 _,by rw[H.n_set];exact q3,by rw[H.n_set];omega,λi hi hne=>by rw[ze (by omega),s2 i (by omega) hne,kA i hi],rfl,.inr rfl,by rw[hst];exact hl2⟩
 ·rw[if_neg hu0] at hv hk;obtain⟨w,rfl,hl2,hw⟩:=hv;refine (box3 l32 _ _ _ _).trans ?_;refine hk _ _ ⟨g2,G2,q2.set d32 _,by rw[H.n_set];exact q3,by rw[H.n_set];omega,λi hi hne=>by rw[ze (by omega),s2 i (by omega) hne,kA i hi],w,rfl,?_,?_,by rw[hst];exact hl2⟩
  ·rcases hw with⟨rfl,_⟩|⟨_,_,_,rfl,_⟩<;>rfl
  ·exact hw.lat (zcs _) (by rw[List.length_map,List.length_map]) (by omega) q4 zdT
set_option maxHeartbeats 2000000 in
theorem GR9.eval_zero(TR:GR9 t)(T:GA t)(n:Nat)(hn:2200<=n){p:List Df}(hpm:zP p=true){N:Nat}(ev:EvOk t p N n){β:Type}{g h:H}{lb:Nat}{pv:AV}  {cs:List AV} {d a:Nat} {env:List Thg} (ug:Un g h) (gn:g.n=h.n) (hlb:lb<h.n) (dl:(g.get lb).cells=none) (ll:h.get lb = .own 0 [pv,.int .i64 ((0:Nat):Int),.int .i64 0]) (lat:LAt 2 DfC g pv p)
  (rpc:RPC g cs (.part d a env)) (wf:WF p (.part d a env)) :Sp (β:=β) (zc t stdI (n+1) (.fn 172 []) [.ptr lb 0,.agg cs] h) λu h'=>zfH p (zp p (N+1) 0 (.part d a env)) h.n g h lb pv u h':=by
 intro k R hk;have rpc0:=rpc;cases rpc with
 | part rows hr hl hen=>
 rename_i tv;have htv:=hr.sc;obtain⟨gA,uA,nA,dA⟩:=ug.hide gn (.own 0 [.bool false,.str [],.int .i64 (d:Int),.int .i64 (a:Int),tv]);obtain⟨gB,uB,nB,dB⟩:=uA.hide nA (.own 0 [.int .i64 0,.int .i64 0,.nils]);have GG:=gA.trans gB;obtain⟨hA,ehA⟩:∃hA,hA=(h.push (.own 0 [.bool false,.str [],.int .i64 (d:Int),.int .i64 (a:Int),tv])).push (.own 0 [.int .i64 0,.int .i64 0,.nils]):=⟨_,rfl⟩
 have nhA:hA.n=h.n+2:=by rw[ehA];simp only[H.n_push]
 have kA:∀i,i<h.n->hA.get i=h.get i:=λi hi=>by rw[ehA,zb (by rw[H.n_push];omega),zb (by omega)]
 rw[<- ehA] at uB nB;have bxA:∀(hh:H) (kk:K β),qBox 0 (.agg [.bool false,.str [],.int .i64 (d:Int),.int .i64 (a:Int),tv]) hh (.mk kk)=kk (.ptr hh.n 0) (hh.push (.own 0 [.bool false,.str [],.int .i64 (d:Int),.int .i64 (a:Int),tv])):=λhh kk=>zm 0 _ hh kk
 have tA:(h.push (.own 0 [.bool false,.str [],.int .i64 (d:Int),.int .i64 (a:Int),tv])).push (.own 0 [.int .i64 0,.int .i64 0,.nils])=hA:=ehA.symm;have cA:(hA.get h.n).cells=some [.bool false,.str [],.int .i64 (d:Int),.int .i64 (a:Int),tv]:=by rw[ehA,zb (by rw[H.n_push];omega),zd rfl];rfl
 have d3B:(((g.push .dead).push .dead).get (h.n+1)).cells=none:=by
  have:=dB;rw[H.n_push] at this;exact this
 have SA:RS p h.n lb (h.n+1) pv 0 0 ((g.push .dead).push .dead) hA:=⟨uB,nB,hlb,Nat.le_succ _,by omega,by rw[kA _ hlb];exact ll,by rw[ehA,zd (by rw[H.n_push])],GG.hid lb (by omega) dl,d3B,lat.un DfC.staysU GG.un⟩
 have stA:Lst h.n lb g h ((g.push .dead).push .dead) hA:=⟨GG,by omega,λi hi hne=>kA i hi⟩
 have clA:(hA.get lb).cells=some [pv,.int .i64 ((0:Nat):Int),.int .i64 0]:=by rw[SA.ll];rfl
 have olA:zt (hA.get lb)=some (0,[pv,.int .i64 ((0:Nat):Int),.int .i64 0]):=by rw[SA.ll];rfl
 have hev:zp p (N+1) 0 (.part d a env)=(.bad 901,0):=by unfold zp;rfl
 obtain⟨n,rfl⟩:∃m,n=m+1:=⟨n-1,by omega⟩
 have SB:RS p h.n lb (h.n+1) pv 0 901 ((g.push .dead).push .dead) (hA.set lb (.own 0 [pv,.int .i64 0,.int .i64 901])):=⟨SA.un.set SA.dl _,by rw[H.n_set];exact SA.gn,SA.i0,SA.i3,by rw[H.n_set];exact SA.j3,zk rfl,by rw[ze (by omega)];exact SA.l3,SA.dl,SA.d3,SA.lat⟩
 have stB:Lst h.n lb g h ((g.push .dead).push .dead) (hA.set lb (.own 0 [pv,.int .i64 0,.int .i64 901])):=⟨GG,by rw[H.n_set];omega,λi hi hne=>by rw[ze (by omega)];exact kA i hi⟩
 have W:=SB.fail TR (n:=n+1) (by omega) stB (k:=k) (R:=R) (r:=(.bad 901,0)) (.inr ⟨.inl rfl,rfl⟩) (by rw[<- hev];exact hk);have clA0:(hA.get lb).cells=some [pv,.int .i64 0,.int .i64 0]:=clA;have olA0:zt (hA.get lb)=some (0,[pv,.int .i64 0,.int .i64 0]):=olA;rw[TR.c172];unfold f172;have clh0:(h.get lb).cells=some [pv,.int .i64 0,.int .i64 0]:=by rw[ll];rfl
 have olh0:zt (h.get lb)=some (0,[pv,.int .i64 0,.int .i64 0]):=by rw[ll];rfl
 simp (disch:=first|omega|simp only[zD]<;>omega|assumption) only[↓zR,↓zRM,zR,zRM,reduceAdd,reduceMul,reduceToNat,↓f172_J2,↓bxA,tA,cA,zaa,clA0,olA0,clh0,olh0];exact W
set_option maxHeartbeats 4000000 in
theorem GR9.eval_pre(TR:GR9 t)(T:GA t)(n:Nat)(hn:2200<=n){p:List Df}    {β:Type} {g h:H} {lb:Nat} {pv:AV} {left:Nat} {cs:List AV} {d a:Nat} {env:List Thg} (ug:Un g h) (gn:g.n=h.n) (hlb:lb<h.n) (dl:(g.get lb).cells=none) (ll:h.get lb = .own 0 [pv,.int .i64 ((left+1:Nat):Int),.int .i64 0]) (lat:LAt 2 DfC g pv p)
  (rpc:RPC g cs (.part d a env)) (h1000:left+1<=1000) {df:Df} {lv:List Int} {e:Ex} (s:Stand p d a env df lv e) {k:K β} {R:Option β} (hK:∀(u:AV) (h3 g3:H) (w tv:AV) (x1 x4 x5 x6 x7 x8 x9 x10 x11 x12 x13 x14 x15:AV),RS p h.n lb (h.n+1) pv left 0 g3 h3->Lst h.n lb g h g3 h3->LAt 5 RPC g3 u (zu d env e.kids)->h.n+3<=h3.n->(h3.get h.n).cells=some [.bool false,.str [],.int .i64 (d:Int),.int .i64 (a:Int),tv]->(h3.get (h.n+2)).cells=some [.int .i64 e.kind,.int .i64 e.num,.int .i64 e.bind,w]->SlAt g w (ints e.kids)->LAt 5 RPC g tv env ->
   restE (zc t stdI n) k (.ptr lb 0) x1 (.ptr h.n 0) (.ptr (h.n+1) 0) x4 x5 x6 x7 x8 x9 x10 x11 x12 x13 x14 x15 (.ptr (h.n+2) 0) u h3=R):zc t stdI (n+1) (.fn 172 []) [.ptr lb 0,.agg cs] h k=R:=by
 have rpc0:=rpc;cases rpc with
 | part rows hr hl hen=>
 rename_i tv;have htv:=hr.sc;obtain⟨gA,uA,nA,dA⟩:=ug.hide gn (.own 0 [.bool false,.str [],.int .i64 (d:Int),.int .i64 (a:Int),tv]);obtain⟨gB,uB,nB,dB⟩:=uA.hide nA (.own 0 [.int .i64 0,.int .i64 0,.nils]);have GG:=gA.trans gB;obtain⟨hA,ehA⟩:∃hA,hA=(h.push (.own 0 [.bool false,.str [],.int .i64 (d:Int),.int .i64 (a:Int),tv])).push (.own 0 [.int .i64 0,.int .i64 0,.nils]):=⟨_,rfl⟩
 have nhA:hA.n=h.n+2:=by rw[ehA];simp only[H.n_push]
 have kA:∀i,i<h.n->hA.get i=h.get i:=λi hi=>by rw[ehA,zb (by rw[H.n_push];omega),zb (by omega)]
 rw[<- ehA] at uB nB;have bxA:∀(hh:H) (kk:K β),qBox 0 (.agg [.bool false,.str [],.int .i64 (d:Int),.int .i64 (a:Int),tv]) hh (.mk kk)=kk (.ptr hh.n 0) (hh.push (.own 0 [.bool false,.str [],.int .i64 (d:Int),.int .i64 (a:Int),tv])):=λhh kk=>zm 0 _ hh kk
 have tA:(h.push (.own 0 [.bool false,.str [],.int .i64 (d:Int),.int .i64 (a:Int),tv])).push (.own 0 [.int .i64 0,.int .i64 0,.nils])=hA:=ehA.symm;have cA:(hA.get h.n).cells=some [.bool false,.str [],.int .i64 (d:Int),.int .i64 (a:Int),tv]:=by rw[ehA,zb (by rw[H.n_push];omega),zd rfl];rfl
 have d3B:(((g.push .dead).push .dead).get (h.n+1)).cells=none:=by
  have:=dB;rw[H.n_push] at this;exact this
 have SA:RS p h.n lb (h.n+1) pv (left+1) 0 ((g.push .dead).push .dead) hA:=⟨uB,nB,hlb,Nat.le_succ _,by omega,by rw[kA _ hlb];exact ll,by rw[ehA,zd (by rw[H.n_push])],GG.hid lb (by omega) dl,d3B,lat.un DfC.staysU GG.un⟩
 have stA:Lst h.n lb g h ((g.push .dead).push .dead) hA:=⟨GG,by omega,λi hi hne=>kA i hi⟩
 have clA:(hA.get lb).cells=some [pv,.int .i64 ((left+1:Nat):Int),.int .i64 0]:=by rw[SA.ll];rfl
 have olA:zt (hA.get lb)=some (0,[pv,.int .i64 ((left+1:Nat):Int),.int .i64 0]):=by rw[SA.ll];rfl
 have es:((left+1:Nat):Int)-1=(left:Int):=by omega
 have hne0:¬ ((left+1:Nat):Int)=0:=by omega
 obtain⟨hB,ehB⟩:∃hB,hB=hA.set lb (.own 0 [pv,.int .i64 (left:Int),.int .i64 0]):=⟨_,rfl⟩
 have tB:hA.set lb (.own 0 [pv,.int .i64 (left:Int),.int .i64 0])=hB:=ehB.symm;have uB':Un ((g.push .dead).push .dead) hB:=by rw[ehB];exact SA.un.set SA.dl _
 have nB':((g.push .dead).push .dead).n=hB.n:=by rw[ehB,H.n_set];exact SA.gn
 have nhB:hB.n=h.n+2:=by rw[ehB,H.n_set];exact nhA
 have kB:∀i,i≠lb->hB.get i=hA.get i:=λi hi=>by rw[ehB,ze (by omega)]
 have clB:(hB.get lb).cells=some [pv,.int .i64 (left:Int),.int .i64 0]:=by rw[ehB,zk rfl];rfl
 have cB:(hB.get h.n).cells=some [.bool false,.str [],.int .i64 (d:Int),.int .i64 (a:Int),tv]:=by rw[kB _ (by omega)];exact cA
 obtain⟨db,dO,dcs,q1,q2,bv,rfl,q3⟩:=lat.at (β:=β) s.hd;obtain⟨dus,r1,_,_,r4⟩:=q2.get;have rg:=r4 1 _ rfl;obtain⟨eb,eo,ecs,q4,q5,w,rfl,q6⟩:=q3.at (β:=β) s.he;have q50:=q5;obtain⟨us,b1,b2,b3,b4⟩:=q5.get;have b3:List.take 4 (List.drop eo us)=[.int .i64 e.kind,.int .i64 e.num,.int .i64 e.bind,w]:=b3;have seeA:∀i us,i<g.n->(g.get i).cells=some us->(hA.get i).cells=some us/\i≠lb/\i<h.n:=λi us hi hc=>by
  refine⟨by rw[kA i (by omega),ug.get i hi (by rw[hc];simp)];exact hc,λhh=>(by rw[hh,dl] at hc;cases hc),by omega⟩
 obtain⟨da1,da2,da3⟩:=seeA db dus q2.1 r1;obtain⟨ea1,ea2,ea3⟩:=seeA eb us q50.1 b1;have dB1:(hB.get db).cells=some dus:=by rw[kB _ da2];exact da1
 have eB1:(hB.get eb).cells=some us:=by rw[kB _ ea2];exact ea1
 have eh1:(h.get eb).cells=some us:=by rw[<- kA _ ea3];exact ea1
 have dh1:(h.get db).cells=some dus:=by rw[<- kA _ da3];exact da1
 have clh:(h.get lb).cells=some [pv,.int .i64 ((left+1:Nat):Int),.int .i64 0]:=by rw[ll];rfl
 have olh:zt (h.get lb)=some (0,[pv,.int .i64 ((left+1:Nat):Int),.int .i64 0]):=by rw[ll];rfl
 have ld4:∀(hh:H) (kc:VK β),(hh.get eb).cells=some us->zi 4 (.ptr eb eo) hh (.mk kc)=kc (.agg [.int .i64 e.kind,.int .i64 e.num,.int .i64 e.bind,w]):=λhh kc hc=>by
  rw[zfl,hc,zgQ,zd2 b2,b3]
 obtain⟨gC,uC,nC,dC⟩:=uB'.hide nB' (.own 0 [.int .i64 0,.int .i64 0,.int .i64 0,.nils]);obtain⟨hC,ehC⟩:∃hC,hC=hB.push (.own 0 [.int .i64 0,.int .i64 0,.int .i64 0,.nils]):=⟨_,rfl⟩
 have tC:hB.push (.own 0 [.int .i64 0,.int .i64 0,.int .i64 0,.nils])=hC:=ehC.symm;have nhC:hC.n=h.n+3:=by rw[ehC,H.n_push];omega
 have kC:∀i,i<hB.n->hC.get i=hB.get i:=λi hi=>by rw[ehC,zb (by omega)]
 have oC:zt (hC.get (h.n+2))=some (0,[.int .i64 0,.int .i64 0,.int .i64 0,.nils]):=by rw[ehC,zd nhB];rfl
 obtain⟨hD,ehD⟩:∃hD,hD=hC.set (h.n+2) (.own 0 [.int .i64 e.kind,.int .i64 e.num,.int .i64 e.bind,w]):=⟨_,rfl⟩
 have tD:hC.set (h.n+1+1) (.own 0 [.int .i64 e.kind,.int .i64 e.num,.int .i64 e.bind,w])=hD:=ehD.symm;have nhD:hD.n=h.n+3:=by rw[ehD,H.n_set];exact nhC
 have dC':(((((g.push .dead).push .dead)).push .dead).get (h.n+2)).cells=none:=by rw[<- nhB];exact dC
 rw[<- ehC] at uC nC;have uD:Un ((((g.push .dead).push .dead)).push .dead) hD:=by rw[ehD];exact uC.set dC' _
 have nD:((((g.push .dead).push .dead)).push .dead).n=hD.n:=by rw[ehD,H.n_set];exact nC
 have kD:∀i,i<h.n+2->hD.get i=hB.get i:=λi hi=>by rw[ehD,ze (by omega),kC i (by omega)]
 have cD:(hD.get h.n).cells=some [.bool false,.str [],.int .i64 (d:Int),.int .i64 (a:Int),tv]:=by rw[kD _ (by omega)];exact cB
 have xD:(hD.get (h.n+2)).cells=some [.int .i64 e.kind,.int .i64 e.num,.int .i64 e.bind,w]:=by rw[ehD,zk rfl];rfl
 have cC:(hC.get h.n).cells=some [.bool false,.str [],.int .i64 (d:Int),.int .i64 (a:Int),tv]:=by rw[kC _ (by omega)];exact cB
 have clC:(hC.get lb).cells=some [pv,.int .i64 (left:Int),.int .i64 0]:=by rw[kC _ (by omega)];exact clB
 have dC1:(hC.get db).cells=some dus:=by rw[kC _ (by omega)];exact dB1
 have eC1:(hC.get eb).cells=some us:=by rw[kC _ (by omega)];exact eB1
 have ldB:=λkc:VK β=>ld4 hB kc eB1
 have ldC:=λkc:VK β=>ld4 hC kc eC1
 have chE:=λkc:VK β=>chk_ex q6 e.kind e.num e.bind kc
 have chB:=q3.chk (β:=β);have chP:=lat.chk (β:=β);have GD:Gh g ((((g.push .dead).push .dead)).push .dead):=GG.trans gC;have bk:=s.part.kidsLen;have hwD:SlAt hD w (ints e.kids):=(q6.un GD.un).un uD;have W:=TR.w197 (β:=β) n (by omega) (h:=hD) (d:=d) (a:=.int .i64 (a:Int)) htv hwD bk.2.2.2.1;have pre:∀(K:K β),(∀u h3 g3,RS p h.n lb (h.n+1) pv left 0 g3 h3->Lst h.n lb g h g3 h3->LAt 5 RPC g3 u (zu d env e.kids)->h.n+3<=h3.n->(∀i,i<hD.n->h3.get i=hD.get i)->(h3.get h.n).cells=some [.bool false,.str [],.int .i64 (d:Int),.int .i64 (a:Int),tv]->(h3.get (h.n+2)).cells=some [.int .i64 e.kind,.int .i64 e.num,.int .i64 e.bind,w]->K u h3=R) ->
   qCall (zc t stdI n) (.fn 197 []) [.agg [.bool false,.str [],.int .i64 (d:Int),.int .i64 (a:Int),tv],w] hD (.mk K)=R:=by
  intro K hK;refine W _ _ ?_;intro u h3 ⟨e1,e2⟩;obtain⟨g3,G3,U3,N3,new3⟩:=uD.grow nD e1;have n3:=e1.n;have G:=GD.trans G3;have wh:∀i,i<h.n->i≠lb->h3.get i=h.get i:=λi hi hne=>by rw[e1.get i (by omega),kD i (by omega),kB i hne,kA i hi]
  refine hK u h3 g3 ⟨U3,N3,hlb,Nat.le_succ _,by omega,by rw[e1.get _ (by omega),kD _ (by omega),ehB,zk rfl],by rw[e1.get _ (by omega),kD _ (by omega),kB _ (by omega)];exact SA.l3,G.hid lb (by omega) dl,(gC.trans G3).hid _ (by omega) d3B,lat.un DfC.staysU G.un⟩
   ⟨G,by omega,wh⟩ ?_ (by omega) (λi hi=>e1.get i hi) (by rw[e1.get _ (by omega)];exact cD) (by rw[e1.get _ (by omega)];exact xD)
  refine e2.lat (λr hr=>?_) (by unfold zu;rw[List.length_map,List.length_map]) (by omega) new3 λj r x hr' hx=>?_
  ·obtain⟨y,_,rfl⟩:=List.mem_map.1 hr;rfl
  ·unfold zu at hx;rw[List.getElem?_map] at hr' hx;cases hq:e.kids[j]? with
   | none=>rw[hq] at hr';cases hr'
   | some kid=>
    rw[hq] at hr' hx;cases hr';cases hx;have hk0:=((s.hlv.part a e s.he).2.2 j kid hq).1.1;have hkt:kid=((kid.toNat:Nat):Int):=by omega
    unfold zce;rw[hkt];exact .part rows (hr.un zcE.staysU G.un) hl λq r x hr hx=>(hen q r x hr hx).un G.un
 rw[TR.c172];unfold f172;simp (disch:=first|omega|simp only[zD]<;>omega|assumption) only[↓zR,↓zRM,zR,zRM,reduceAdd,reduceMul,reduceToNat,↓f172_J2,↓f172_J3,↓bxA,tA,zaa,clh,olh,clA,olA,eq_false hne0,es,tB,clB,cB,q1,dh1,dB1,rg,q4,eh1,eB1,b3,tC,ldB,ldC,chE,clC,cC,dC1,eC1,chB,chP,zhk,oC,tD,cD,xD];refine pre _ ?_;intro u h3 g3 S st kat n3 k3 c3 x3;exact hK u h3 g3 w tv _ .any .any _ _ _ _ _ .any .any _ _ _ S st kat n3 c3 x3 q6 (LAt.of5 hr hl hen)
structure EvS (t:ETree) (p:List Df) (n N:Nat) (g h:H) (lb:Nat) (pv:AV) (left:Nat) (cs:List AV) (d a:Nat) (env:List Thg) (df:Df) (lv:List Int) (e:Ex):Prop where
 TR:GR9 t
 T:GA t
 hn:2200<=n
 hpm:zP p=true
 ev:EvOk t p N n
 ug:Un g h
 gn:g.n=h.n
 hlb:lb<h.n
 dl:(g.get lb).cells=none
 ll:h.get lb = .own 0 [pv,.int .i64 ((left+1:Nat):Int),.int .i64 0]
 lat:LAt 2 DfC g pv p
 rpc:RPC g cs (.part d a env)
 wf:WF p (.part d a env)
 hN:left<N
 h1000:left+1<=1000
 s:Stand p d a env df lv e
def EvG(β:Type)(t:ETree)(p:List Df)(n N:Nat)(g h:H)(lb:Nat)(pv:AV)(left:Nat)(cs:List AV)(d a:Nat)(env:List Thg):Prop :=
 Sp (β:=β) (zc t stdI (n+1) (.fn 172 []) [.ptr lb 0,.agg cs] h) λu h'=>zfH p (zp p (N+1) (left+1) (.part d a env)) h.n g h lb pv u h'
end
end Am.F
end
section
namespace Am.F
open Go Am
section
variable {t:ETree} {p:List Df} {n N:Nat} {g h:H} {lb:Nat} {pv:AV} {left:Nat} {cs:List AV} {d a:Nat} {env:List Thg} {df:Df} {lv:List Int} {e:Ex} {β:Type}
set_option maxHeartbeats 4000000 in
theorem EvS.k0(X:EvS t p n N g h lb pv left cs d a env df lv e)(hq:e.kind=0):EvG β t p n N g h lb pv left cs d a env:=by
 intro k R hk;obtain⟨TR,T,hn,hpm,ev,ug,gn,hlb,dl,ll,lat,rpc,wf,hN,h1000,s⟩:=X;have hev:=zDq9 (N:=N) (left:=left) s;have bk:=s.part.kidsLen;have hev:zp p (N+1) (left+1) (.part d a env)=(.ok ⟨1,e.num,[]⟩,left):=by rw[hev];simp only;rw[if_pos hq]
 have bz2:∀(x y:Int) (kc:VK β),zo [.int .i64 0,.int .i64 0,.nils] [(0,1),(1,1)] [.int .i64 x,.int .i64 y] (.mk kc)=kc (.agg [.int .i64 x,.int .i64 y,.nils]):=λx y kc=>rfl
 refine TR.eval_pre T n hn ug gn hlb dl ll lat rpc h1000 s ?_;intro u h3 g3 w tv x1 x4 x5 x6 x7 x8 x9 x10 x11 x12 x13 x14 x15 S st kat n3 c3 x3 q6 latT;unfold restE;have o3:zt (h3.get (h.n+1))=some (0,[.int .i64 0,.int .i64 0,.nils]):=by rw[S.l3];rfl
 simp (disch:=first|omega|simp only[zD]<;>omega|assumption) only[↓zR,↓zRM,zR,zRM,reduceAdd,reduceMul,reduceToNat,↓bz2,c3,x3,eq_true hq,o3];exact S.fin st (f:=⟨1,e.num,[]⟩) hev hk rfl (.inl ⟨rfl,rfl⟩)
set_option maxHeartbeats 4000000 in
theorem EvS.k1(X:EvS t p n N g h lb pv left cs d a env df lv e)(hq:e.kind=1):EvG β t p n N g h lb pv left cs d a env:=by
 intro k R hk;obtain⟨TR,T,hn,hpm,ev,ug,gn,hlb,dl,ll,lat,rpc,wf,hN,h1000,s⟩:=X;have hev:=zDq9 (N:=N) (left:=left) s;have bk:=s.part.kidsLen;have hev:zp p (N+1) (left+1) (.part d a env)=zp p N left (env.getD e.num.toNat default):=by rw[hev];simp only;rw[if_neg (by omega),if_pos hq]
 obtain⟨y0,y1⟩:=bk.2.2.2.2.1 hq;have hl2:=s.hl;obtain⟨j,hj⟩:∃j:Nat,e.num=j:=⟨e.num.toNat,by omega⟩
 have hjt:e.num.toNat=j:=by omega
 obtain⟨x,hx⟩:∃x,env[j]?=some x:=⟨_,List.getElem?_eq_getElem (by omega)⟩
 have hgd:env.getD e.num.toNat default=x:=by rw[hjt,List.getD_eq_getElem?_getD,hx];rfl
 rw[hgd] at hev;refine TR.eval_pre T n hn ug gn hlb dl ll lat rpc h1000 s ?_;intro u h3 g3 w tv x1 x4 x5 x6 x7 x8 x9 x10 x11 x12 x13 x14 x15 S st kat n3 c3 x3 q6 latT;unfold restE;have usc:=kat.sc;have o3:zt (h3.get (h.n+1))=some (0,[.int .i64 0,.int .i64 0,.nils]):=by rw[S.l3];rfl
 have cl3:(h3.get lb).cells=some [pv,.int .i64 (left:Int),.int .i64 0]:=by rw[S.ll];rfl
 simp (disch:=first|omega|simp only[zD]<;>omega|assumption) only[↓zR,↓zRM,zR,zRM,reduceAdd,reduceMul,reduceToNat,c3,x3,eq_false (show ¬ e.kind=0 by omega),eq_true hq];refine zcy (latT.un RPC.staysU st.gh.un) S.un hx hj (λcs hcs=>?_);exact S.call ev st hcs (s.wf x (List.mem_of_getElem? hx)) hN (by omega) hev hk
set_option maxHeartbeats 4000000 in
theorem EvS.k2(X:EvS t p n N g h lb pv left cs d a env df lv e)(hq:e.kind=2):EvG β t p n N g h lb pv left cs d a env:=by
 intro k R hk;obtain⟨TR,T,hn,hpm,ev,ug,gn,hlb,dl,ll,lat,rpc,wf,hN,h1000,s⟩:=X;have hev:=zDq9 (N:=N) (left:=left) s;have bk:=s.part.kidsLen;obtain⟨df',hd',hn0,hb1,hb24,wfc,hbod⟩:=s.call hpm hq;have hev:zp p (N+1) (left+1) (.part d a env)=zp p N left (.part e.num.toNat (df'.body.length-1) (zu d env e.kids)):=by rw[hev];simp only;rw[if_neg (by omega),if_neg (by omega),if_pos hq,hbod]
 obtain⟨db2,dO2,dcs2,p1,p2,bv2,rfl,p3⟩:=lat.at (β:=β) hd';obtain⟨dus2,t1,_,_,t4⟩:=p2.get;have tg:=t4 1 _ rfl;have hnum:e.num=((e.num.toNat:Nat):Int):=by omega
 rw[<- hnum] at p1;have lbv2:=p3.len (β:=β);refine TR.eval_pre T n hn ug gn hlb dl ll lat rpc h1000 s ?_;intro u h3 g3 w tv x1 x4 x5 x6 x7 x8 x9 x10 x11 x12 x13 x14 x15 S st kat n3 c3 x3 q6 latT;unfold restE;have usc:=kat.sc;have o3:zt (h3.get (h.n+1))=some (0,[.int .i64 0,.int .i64 0,.nils]):=by rw[S.l3];rfl
 have cl3:(h3.get lb).cells=some [pv,.int .i64 (left:Int),.int .i64 0]:=by rw[S.ll];rfl
 have db3:(h3.get db2).cells=some dus2:=by rw[(st.gh.un.trans S.un).get db2 p2.1 (by rw[t1];simp)];exact t1
 have bu:∀(x:Int) (kc:VK β),zo [.bool false,.str [],.int .i64 0,.int .i64 0,.nils] [(2,1),(3,1),(4,1)] [.int .i64 e.num,.int .i64 x,u] (.mk kc)=kc (.agg [.bool false,.str [],.int .i64 e.num,.int .i64 x,u]):=λx kc=>by
  rw[zB _ _ _ _ _ _ (by simp),zB _ _ _ _ _ _ (by simp),zU _ _ _ _ usc _ (by simp),zV];rfl
 have tc:RPC g3 [.bool false,.str [],.int .i64 e.num,.int .i64 ((df'.body.length:Int)-1),u] (.part e.num.toNat (df'.body.length-1) (zu d env e.kids)):=by
  have h9:=RPC.of_lat (d:=e.num.toNat) (kid:=(df'.body.length:Int)-1) kat (by omega);rw[<- hnum,show ((df'.body.length:Int)-1).toNat=df'.body.length-1 by omega] at h9;exact h9
 simp (disch:=first|omega|simp only[zD]<;>omega|assumption) only[↓zR,↓zRM,zR,zRM,reduceAdd,reduceMul,reduceToNat,c3,x3,eq_false (show ¬ e.kind=0 by omega),eq_false (show ¬ e.kind=1 by omega),eq_true hq,zaa,cl3,p1,db3,tg,lbv2,↓bu];exact S.call ev st tc wfc hN (by omega) hev hk
set_option maxHeartbeats 4000000 in
theorem EvS.k3(X:EvS t p n N g h lb pv left cs d a env df lv e)(hq:e.kind=3):EvG β t p n N g h lb pv left cs d a env:=by
 intro k R hk;obtain⟨TR,T,hn,hpm,ev,ug,gn,hlb,dl,ll,lat,rpc,wf,hN,h1000,s⟩:=X;have hev:=zDq9 (N:=N) (left:=left) s;have bk:=s.part.kidsLen;have hev:zp p (N+1) (left+1) (.part d a env)=(.ok ⟨2,e.num,zu d env e.kids⟩,left):=by rw[hev];simp only;rw[if_neg (by omega),if_neg (by omega),if_neg (by omega),if_pos hq]
 refine TR.eval_pre T n hn ug gn hlb dl ll lat rpc h1000 s ?_;intro u h3 g3 w tv x1 x4 x5 x6 x7 x8 x9 x10 x11 x12 x13 x14 x15 S st kat n3 c3 x3 q6 latT;unfold restE;have usc:=kat.sc;have o3:zt (h3.get (h.n+1))=some (0,[.int .i64 0,.int .i64 0,.nils]):=by rw[S.l3];rfl
 have cl3:(h3.get lb).cells=some [pv,.int .i64 (left:Int),.int .i64 0]:=by rw[S.ll];rfl
 have bz3:∀(x y:Int) (kc:VK β),zo [.int .i64 0,.int .i64 0,.nils] [(0,1),(1,1),(2,1)] [.int .i64 x,.int .i64 y,u] (.mk kc)=kc (.agg [.int .i64 x,.int .i64 y,u]):=λx y kc=>by
  rw[zB _ _ _ _ _ _ (by simp),zB _ _ _ _ _ _ (by simp),zU _ _ _ _ usc _ (by simp),zV];rfl
 simp (disch:=first|omega|simp only[zD]<;>omega|assumption) only[↓zR,↓zRM,zR,zRM,reduceAdd,reduceMul,reduceToNat,↓bz3,c3,x3,eq_false (show ¬ e.kind=0 by omega),eq_false (show ¬ e.kind=1 by omega),eq_false (show ¬ e.kind=2 by omega),eq_true hq,o3];exact S.fin st (f:=⟨2,e.num,zu d env e.kids⟩) hev hk usc kat
set_option maxHeartbeats 4000000 in
theorem EvS.k4a(X:EvS t p n N g h lb pv left cs d a env df lv e)(hq:e.kind=4){cc:Int}{l1:Nat}(hr1:zp p N left (.part d (e.kids.getD 0 0).toNat env)=(.bad cc,l1)):EvG β t p n N g h lb pv left cs d a env:=by
 intro k R hk;obtain⟨TR,T,hn,hpm,ev,ug,gn,hlb,dl,ll,lat,rpc,wf,hN,h1000,s⟩:=X;have hev:=zDq9 (N:=N) (left:=left) s;have bk:=s.part.kidsLen;have hk2:=bk.1 hq;have hka0:e.kids[0]?=some (e.kids.getD 0 0):=getD_some (by omega);have hkt0:(zu d env e.kids)[0]?=some (.part d (e.kids.getD 0 0).toNat env):=by unfold zu;rw[List.getElem?_map,hka0];rfl
 have hw0:=(s.kid0 hka0 (by unfold more;simp[hq])).2;have hka1:e.kids[1]?=some (e.kids.getD 1 0):=getD_some (by omega);have hkt1:(zu d env e.kids)[1]?=some (.part d (e.kids.getD 1 0).toNat env):=by unfold zu;rw[List.getElem?_map,hka1];rfl
 have hw1:=(s.kid0 hka1 (by unfold more;simp[hq])).2;rw[if_neg (by omega),if_neg (by omega),if_neg (by omega),if_neg (by omega),if_pos hq] at hev;have hop:=bk.2.2.2.2.2.2.2 hq;rw[hr1] at hev;refine TR.eval_pre T n hn ug gn hlb dl ll lat rpc h1000 s ?_;intro u h3 g3 w tv x1 x4 x5 x6 x7 x8 x9 x10 x11 x12 x13 x14 x15 S st kat n3 c3 x3 q6 latT;unfold restE;have usc:=kat.sc;have o3:zt (h3.get (h.n+1))=some (0,[.int .i64 0,.int .i64 0,.nils]):=by rw[S.l3];rfl
 have cl3:(h3.get lb).cells=some [pv,.int .i64 (left:Int),.int .i64 0]:=by rw[S.ll];rfl
 simp (disch:=first|omega|simp only[zD]<;>omega|assumption) only[↓zR,↓zRM,zR,zRM,reduceAdd,reduceMul,reduceToNat,c3,x3,eq_false (show ¬ e.kind=0 by omega),eq_false (show ¬ e.kind=1 by omega),eq_false (show ¬ e.kind=2 by omega),eq_false (show ¬ e.kind=3 by omega),eq_true hq,o3];refine zcy kat S.un hkt0 rfl (λcs hcs=>?_);refine S.askBad ev hcs hw0 hN (by omega) hr1 ?_;intro h1 g' S2 st2 k1 n1 l1c hc;have lc1:(h1.get lb).cells=some [pv,.int .i64 (l1:Int),.int .i64 cc]:=by rw[l1c];rfl
 have c0:¬ cc=0:=by omega
 simp (disch:=first|omega|simp only[zD]<;>omega|assumption) only[↓zR,↓zRM,zR,zRM,reduceAdd,reduceMul,reduceToNat,zaa,lc1,eq_false c0];exact S2.fail TR (by omega) (st.trans st2) (.inr ⟨hc,hev⟩) hk
set_option maxHeartbeats 4000000 in
theorem EvS.k4b(X:EvS t p n N g h lb pv left cs d a env df lv e)(hq:e.kind=4){f:Fnd}{l1:Nat}(hr1:zp p N left (.part d (e.kids.getD 0 0).toNat env)=(.ok f,l1))(hf:¬ f.kind=1):EvG β t p n N g h lb pv left cs d a env:=by
 intro k R hk;obtain⟨TR,T,hn,hpm,ev,ug,gn,hlb,dl,ll,lat,rpc,wf,hN,h1000,s⟩:=X;have hev:=zDq9 (N:=N) (left:=left) s;have bk:=s.part.kidsLen;have hk2:=bk.1 hq;have hka0:e.kids[0]?=some (e.kids.getD 0 0):=getD_some (by omega);have hkt0:(zu d env e.kids)[0]?=some (.part d (e.kids.getD 0 0).toNat env):=by unfold zu;rw[List.getElem?_map,hka0];rfl
 have hw0:=(s.kid0 hka0 (by unfold more;simp[hq])).2;have hka1:e.kids[1]?=some (e.kids.getD 1 0):=getD_some (by omega);have hkt1:(zu d env e.kids)[1]?=some (.part d (e.kids.getD 1 0).toNat env):=by unfold zu;rw[List.getElem?_map,hka1];rfl
 have hw1:=(s.kid0 hka1 (by unfold more;simp[hq])).2;rw[if_neg (by omega),if_neg (by omega),if_neg (by omega),if_neg (by omega),if_pos hq] at hev;have hop:=bk.2.2.2.2.2.2.2 hq;rw[hr1] at hev;simp only at hev;rw[if_neg hf] at hev;refine TR.eval_pre T n hn ug gn hlb dl ll lat rpc h1000 s ?_;intro u h3 g3 w tv x1 x4 x5 x6 x7 x8 x9 x10 x11 x12 x13 x14 x15 S st kat n3 c3 x3 q6 latT;unfold restE;have usc:=kat.sc;have o3:zt (h3.get (h.n+1))=some (0,[.int .i64 0,.int .i64 0,.nils]):=by rw[S.l3];rfl
 have cl3:(h3.get lb).cells=some [pv,.int .i64 (left:Int),.int .i64 0]:=by rw[S.ll];rfl
 simp (disch:=first|omega|simp only[zD]<;>omega|assumption) only[↓zR,↓zRM,zR,zRM,reduceAdd,reduceMul,reduceToNat,c3,x3,eq_false (show ¬ e.kind=0 by omega),eq_false (show ¬ e.kind=1 by omega),eq_false (show ¬ e.kind=2 by omega),eq_false (show ¬ e.kind=3 by omega),eq_true hq,o3];refine zcy kat S.un hkt0 rfl (λcs hcs=>?_);refine S.askOk ev hcs hw0 hN (by omega) hr1 ?_;intro h1 g' w2 S2 st2 k1 n1 l1c wsc lat2;have lc1:(h1.get lb).cells=some [pv,.int .i64 (l1:Int),.int .i64 0]:=by rw[l1c];rfl
 simp (disch:=first|omega|simp only[zD]<;>omega|assumption) only[↓zR,↓zRM,zR,zRM,reduceAdd,reduceMul,reduceToNat,zaa,lc1,eq_false hf];exact S2.fail TR (by omega) (st.trans st2) (.inl ⟨rfl,hev⟩) hk
set_option maxHeartbeats 4000000 in
theorem EvS.k4c(X:EvS t p n N g h lb pv left cs d a env df lv e)(hq:e.kind=4){f:Fnd}{l1:Nat}(hr1:zp p N left (.part d (e.kids.getD 0 0).toNat env)=(.ok f,l1))(hf:f.kind=1){cc:Int}{l2:Nat}(hr2:zp p N l1 (.part d (e.kids.getD 1 0).toNat env)=(.bad cc,l2)):EvG β t p n N g h lb pv left cs d a env:=by
 intro k R hk;obtain⟨TR,T,hn,hpm,ev,ug,gn,hlb,dl,ll,lat,rpc,wf,hN,h1000,s⟩:=X;have hev:=zDq9 (N:=N) (left:=left) s;have bk:=s.part.kidsLen;have hk2:=bk.1 hq;have hka0:e.kids[0]?=some (e.kids.getD 0 0):=getD_some (by omega);have hkt0:(zu d env e.kids)[0]?=some (.part d (e.kids.getD 0 0).toNat env):=by unfold zu;rw[List.getElem?_map,hka0];rfl
 have hw0:=(s.kid0 hka0 (by unfold more;simp[hq])).2;have hka1:e.kids[1]?=some (e.kids.getD 1 0):=getD_some (by omega);have hkt1:(zu d env e.kids)[1]?=some (.part d (e.kids.getD 1 0).toNat env):=by unfold zu;rw[List.getElem?_map,hka1];rfl
 have hw1:=(s.kid0 hka1 (by unfold more;simp[hq])).2;rw[if_neg (by omega),if_neg (by omega),if_neg (by omega),if_neg (by omega),if_pos hq] at hev;have hop:=bk.2.2.2.2.2.2.2 hq;rw[hr1] at hev;simp only at hev;rw[if_pos hf,hr2] at hev;refine TR.eval_pre T n hn ug gn hlb dl ll lat rpc h1000 s ?_;intro u h3 g3 w tv x1 x4 x5 x6 x7 x8 x9 x10 x11 x12 x13 x14 x15 S st kat n3 c3 x3 q6 latT;unfold restE;have usc:=kat.sc;have o3:zt (h3.get (h.n+1))=some (0,[.int .i64 0,.int .i64 0,.nils]):=by rw[S.l3];rfl
 have cl3:(h3.get lb).cells=some [pv,.int .i64 (left:Int),.int .i64 0]:=by rw[S.ll];rfl
 simp (disch:=first|omega|simp only[zD]<;>omega|assumption) only[↓zR,↓zRM,zR,zRM,reduceAdd,reduceMul,reduceToNat,c3,x3,eq_false (show ¬ e.kind=0 by omega),eq_false (show ¬ e.kind=1 by omega),eq_false (show ¬ e.kind=2 by omega),eq_false (show ¬ e.kind=3 by omega),eq_true hq,o3];refine zcy kat S.un hkt0 rfl (λcs hcs=>?_);refine S.askOk ev hcs hw0 hN (by omega) hr1 ?_;intro h1 g' w2 S2 st2 k1 n1 l1c wsc lat2;have lc1:(h1.get lb).cells=some [pv,.int .i64 (l1:Int),.int .i64 0]:=by rw[l1c];rfl
 have hle:=zaL p N left (.part d (e.kids.getD 0 0).toNat env);rw[hr1] at hle;have hle:l1<=left:=hle;simp (disch:=first|omega|simp only[zD]<;>omega|assumption) only[↓zR,↓zRM,zR,zRM,reduceAdd,reduceMul,reduceToNat,↓f172_J79,zaa,lc1,eq_true hf];refine zcy (kat.un RPC.staysU st2.gh.un) S2.un hkt1 rfl (λcs2 hcs2=>?_);refine S2.askBad ev hcs2 hw1 (by omega) (by omega) hr2 ?_;intro h2 g'' S4 st4 k4 n4 l4c hc;have lc4:(h2.get lb).cells=some [pv,.int .i64 (l2:Int),.int .i64 cc]:=by rw[l4c];rfl
 have c0:¬ cc=0:=by omega
 rw[H.n_set,H.n_push] at n4;simp (disch:=first|omega|simp only[zD]<;>omega|assumption) only[↓zR,↓zRM,zR,zRM,reduceAdd,reduceMul,reduceToNat,zaa,lc4,eq_false c0];exact S4.fail TR (by omega) ((st.trans st2).trans st4) (.inr ⟨hc,hev⟩) hk
set_option maxHeartbeats 4000000 in
theorem EvS.k4d(X:EvS t p n N g h lb pv left cs d a env df lv e)(hq:e.kind=4){f:Fnd}{l1:Nat}(hr1:zp p N left (.part d (e.kids.getD 0 0).toNat env)=(.ok f,l1))(hf:f.kind=1){q:Fnd}{l2:Nat}(hr2:zp p N l1 (.part d (e.kids.getD 1 0).toNat env)=(.ok q,l2))(hfn:-32768<=f.num/\f.num<=32767)(hqn:-32768<=q.num/\q.num<=32767):EvG β t p n N g h lb pv left cs d a env:=by
 intro k R hk;obtain⟨TR,T,hn,hpm,ev,ug,gn,hlb,dl,ll,lat,rpc,wf,hN,h1000,s⟩:=X;have hev:=zDq9 (N:=N) (left:=left) s;have bk:=s.part.kidsLen;have hk2:=bk.1 hq;have hka0:e.kids[0]?=some (e.kids.getD 0 0):=getD_some (by omega);have hkt0:(zu d env e.kids)[0]?=some (.part d (e.kids.getD 0 0).toNat env):=by unfold zu;rw[List.getElem?_map,hka0];rfl
 have hw0:=(s.kid0 hka0 (by unfold more;simp[hq])).2;have hka1:e.kids[1]?=some (e.kids.getD 1 0):=getD_some (by omega);have hkt1:(zu d env e.kids)[1]?=some (.part d (e.kids.getD 1 0).toNat env):=by unfold zu;rw[List.getElem?_map,hka1];rfl
 have hw1:=(s.kid0 hka1 (by unfold more;simp[hq])).2;rw[if_neg (by omega),if_neg (by omega),if_neg (by omega),if_neg (by omega),if_pos hq] at hev;have hop:=bk.2.2.2.2.2.2.2 hq;rw[hr1] at hev;simp only at hev;rw[if_pos hf,hr2] at hev;simp only at hev;refine TR.eval_pre T n hn ug gn hlb dl ll lat rpc h1000 s ?_;intro u h3 g3 w tv x1 x4 x5 x6 x7 x8 x9 x10 x11 x12 x13 x14 x15 S st kat n3 c3 x3 q6 latT;unfold restE;have usc:=kat.sc;have o3:zt (h3.get (h.n+1))=some (0,[.int .i64 0,.int .i64 0,.nils]):=by rw[S.l3];rfl
 have cl3:(h3.get lb).cells=some [pv,.int .i64 (left:Int),.int .i64 0]:=by rw[S.ll];rfl
 simp (disch:=first|omega|simp only[zD]<;>omega|assumption) only[↓zR,↓zRM,zR,zRM,reduceAdd,reduceMul,reduceToNat,c3,x3,eq_false (show ¬ e.kind=0 by omega),eq_false (show ¬ e.kind=1 by omega),eq_false (show ¬ e.kind=2 by omega),eq_false (show ¬ e.kind=3 by omega),eq_true hq,o3];refine zcy kat S.un hkt0 rfl (λcs hcs=>?_);refine S.askOk ev hcs hw0 hN (by omega) hr1 ?_;intro h1 g' w2 S2 st2 k1 n1 l1c wsc lat2;have lc1:(h1.get lb).cells=some [pv,.int .i64 (l1:Int),.int .i64 0]:=by rw[l1c];rfl
 have hle:=zaL p N left (.part d (e.kids.getD 0 0).toNat env);rw[hr1] at hle;have hle:l1<=left:=hle;simp (disch:=first|omega|simp only[zD]<;>omega|assumption) only[↓zR,↓zRM,zR,zRM,reduceAdd,reduceMul,reduceToNat,↓f172_J79,zaa,lc1,eq_true hf];refine zcy (kat.un RPC.staysU st2.gh.un) S2.un hkt1 rfl (λcs2 hcs2=>?_);refine S2.askOk ev hcs2 hw1 (by omega) (by omega) hr2 ?_;intro h2 g'' w4 S4 st4 k4 n4 l4c wsc4 lat4;have lc4:(h2.get lb).cells=some [pv,.int .i64 (l2:Int),.int .i64 0]:=by rw[l4c];rfl
 rw[H.n_set,H.n_push] at n4 k4;have x4:(h2.get (h.n+2)).cells=some [.int .i64 e.kind,.int .i64 e.num,.int .i64 e.bind,w]:=by
  rw[k4 _ (by omega) (by omega),ze (by omega),zb (by omega),k1 _ (by omega) (by omega)];exact x3
 have y4:(h2.get h1.n).cells=some [.int .i64 f.kind,.int .i64 f.num,w2]:=by
  rw[k4 _ (by omega) (by omega),zk rfl];rfl
 simp (disch:=first|omega|simp only[zD]<;>omega|assumption) only[↓zR,↓zRM,zR,zRM,reduceAdd,reduceMul,reduceToNat,↓f172_J84,zaa,lc4,x4,y4];exact S4.prim TR T (by omega) ((st.trans st2).trans st4) hop hfn hqn hf hev hk
end
end Am.F
end
section
namespace Am.F
open Go Am
section
variable {t:ETree} {p:List Df} {n N:Nat} {g h:H} {lb:Nat} {pv:AV} {left:Nat} {cs:List AV} {d a:Nat} {env:List Thg} {df:Df} {lv:List Int} {e:Ex} {β:Type}
set_option maxHeartbeats 4000000 in
theorem EvS.k7(X:EvS t p n N g h lb pv left cs d a env df lv e)(hq:e.kind=7):EvG β t p n N g h lb pv left cs d a env:=by
 intro k R hk;obtain⟨TR,T,hn,hpm,ev,ug,gn,hlb,dl,ll,lat,rpc,wf,hN,h1000,s⟩:=X;have hev:=zDq9 (N:=N) (left:=left) s;have bk:=s.part.kidsLen;have hev:zp p (N+1) (left+1) (.part d a env)=(.ok zbb,left):=by rw[hev];simp only;rw[if_neg (by omega),if_neg (by omega),if_neg (by omega),if_neg (by omega),if_neg (by omega),if_neg (by omega),if_neg (by omega)]
 refine TR.eval_pre T n hn ug gn hlb dl ll lat rpc h1000 s ?_;intro u h3 g3 w tv x1 x4 x5 x6 x7 x8 x9 x10 x11 x12 x13 x14 x15 S st kat n3 c3 x3 q6 latT;unfold restE;have usc:=kat.sc;have o3:zt (h3.get (h.n+1))=some (0,[.int .i64 0,.int .i64 0,.nils]):=by rw[S.l3];rfl
 have cl3:(h3.get lb).cells=some [pv,.int .i64 (left:Int),.int .i64 0]:=by rw[S.ll];rfl
 simp (disch:=first|omega|simp only[zD]<;>omega|assumption) only[↓zR,↓zRM,zR,zRM,reduceAdd,reduceMul,reduceToNat,↓f172_J33,c3,x3,eq_false (show ¬ e.kind=0 by omega),eq_false (show ¬ e.kind=1 by omega),eq_false (show ¬ e.kind=2 by omega),eq_false (show ¬ e.kind=3 by omega),eq_false (show ¬ e.kind=4 by omega),eq_false (show ¬ e.kind=5 by omega),eq_false (show ¬ e.kind=6 by omega)];exact S.fail TR (by omega) st (.inl ⟨rfl,hev⟩) hk
set_option maxHeartbeats 4000000 in
theorem EvS.k5a(X:EvS t p n N g h lb pv left cs d a env df lv e)(hq:e.kind=5){cc:Int}{l1:Nat}(hr1:zp p N left (.part d (e.kids.getD 0 0).toNat env)=(.bad cc,l1)):EvG β t p n N g h lb pv left cs d a env:=by
 intro k R hk;obtain⟨TR,T,hn,hpm,ev,ug,gn,hlb,dl,ll,lat,rpc,wf,hN,h1000,s⟩:=X;have hev:=zDq9 (N:=N) (left:=left) s;have bk:=s.part.kidsLen;have hk3:=bk.2.1 hq;have hka0:e.kids[0]?=some (e.kids.getD 0 0):=getD_some (by omega);have hkt0:(zu d env e.kids)[0]?=some (.part d (e.kids.getD 0 0).toNat env):=by unfold zu;rw[List.getElem?_map,hka0];rfl
 have hw0:=(s.kid0 hka0 (by unfold more;simp[hq])).2;have hka2:e.kids[2]?=some (e.kids.getD 2 0):=getD_some (by omega);have hkt2:(zu d env e.kids)[2]?=some (.part d (e.kids.getD 2 0).toNat env):=by unfold zu;rw[List.getElem?_map,hka2];rfl
 have hw2:=(s.kid0 hka2 (by unfold more;simp[hq])).2;have hkb1:e.kids[1]?=some (e.kids.getD 1 0):=getD_some (by omega);have hb1:0<=e.kids.getD 1 0:=((s.hlv.part a e s.he).2.2 1 _ hkb1).1.1;rw[if_neg (by omega),if_neg (by omega),if_neg (by omega),if_neg (by omega),if_neg (by omega),if_pos hq] at hev;rw[hr1] at hev;refine TR.eval_pre T n hn ug gn hlb dl ll lat rpc h1000 s ?_;intro u h3 g3 w tv x1 x4 x5 x6 x7 x8 x9 x10 x11 x12 x13 x14 x15 S st kat n3 c3 x3 q6 latT;unfold restE;have usc:=kat.sc;have o3:zt (h3.get (h.n+1))=some (0,[.int .i64 0,.int .i64 0,.nils]):=by rw[S.l3];rfl
 have cl3:(h3.get lb).cells=some [pv,.int .i64 (left:Int),.int .i64 0]:=by rw[S.ll];rfl
 simp (disch:=first|omega|simp only[zD]<;>omega|assumption) only[↓zR,↓zRM,zR,zRM,reduceAdd,reduceMul,reduceToNat,c3,x3,eq_false (show ¬ e.kind=0 by omega),eq_false (show ¬ e.kind=1 by omega),eq_false (show ¬ e.kind=2 by omega),eq_false (show ¬ e.kind=3 by omega),eq_false (show ¬ e.kind=4 by omega),eq_true hq,o3];refine zcy kat S.un hkt0 rfl (λcs hcs=>?_);refine S.askBad ev hcs hw0 hN (by omega) hr1 ?_;intro h1 g' S2 st2 k1 n1 l1c hc;have lc1:(h1.get lb).cells=some [pv,.int .i64 (l1:Int),.int .i64 cc]:=by rw[l1c];rfl
 have c0:¬ cc=0:=by omega
 simp (disch:=first|omega|simp only[zD]<;>omega|assumption) only[↓zR,↓zRM,zR,zRM,reduceAdd,reduceMul,reduceToNat,zaa,lc1,eq_false c0];exact S2.fail TR (by omega) (st.trans st2) (.inr ⟨hc,hev⟩) hk
set_option maxHeartbeats 4000000 in
theorem EvS.k5b(X:EvS t p n N g h lb pv left cs d a env df lv e)(hq:e.kind=5){f:Fnd}{l1:Nat}(hr1:zp p N left (.part d (e.kids.getD 0 0).toNat env)=(.ok f,l1))(hf:f.kind=3)(hff:f=zbb):EvG β t p n N g h lb pv left cs d a env:=by
 intro k R hk;obtain⟨TR,T,hn,hpm,ev,ug,gn,hlb,dl,ll,lat,rpc,wf,hN,h1000,s⟩:=X;have hev:=zDq9 (N:=N) (left:=left) s;have bk:=s.part.kidsLen;have hk3:=bk.2.1 hq;have hka0:e.kids[0]?=some (e.kids.getD 0 0):=getD_some (by omega);have hkt0:(zu d env e.kids)[0]?=some (.part d (e.kids.getD 0 0).toNat env):=by unfold zu;rw[List.getElem?_map,hka0];rfl
 have hw0:=(s.kid0 hka0 (by unfold more;simp[hq])).2;have hka2:e.kids[2]?=some (e.kids.getD 2 0):=getD_some (by omega);have hkt2:(zu d env e.kids)[2]?=some (.part d (e.kids.getD 2 0).toNat env):=by unfold zu;rw[List.getElem?_map,hka2];rfl
 have hw2:=(s.kid0 hka2 (by unfold more;simp[hq])).2;have hkb1:e.kids[1]?=some (e.kids.getD 1 0):=getD_some (by omega);have hb1:0<=e.kids.getD 1 0:=((s.hlv.part a e s.he).2.2 1 _ hkb1).1.1;rw[if_neg (by omega),if_neg (by omega),if_neg (by omega),if_neg (by omega),if_neg (by omega),if_pos hq] at hev;rw[hr1] at hev;simp only at hev;rw[if_pos hf,hff] at hev;refine TR.eval_pre T n hn ug gn hlb dl ll lat rpc h1000 s ?_;intro u h3 g3 w tv x1 x4 x5 x6 x7 x8 x9 x10 x11 x12 x13 x14 x15 S st kat n3 c3 x3 q6 latT;unfold restE;have usc:=kat.sc;have o3:zt (h3.get (h.n+1))=some (0,[.int .i64 0,.int .i64 0,.nils]):=by rw[S.l3];rfl
 have cl3:(h3.get lb).cells=some [pv,.int .i64 (left:Int),.int .i64 0]:=by rw[S.ll];rfl
 simp (disch:=first|omega|simp only[zD]<;>omega|assumption) only[↓zR,↓zRM,zR,zRM,reduceAdd,reduceMul,reduceToNat,c3,x3,eq_false (show ¬ e.kind=0 by omega),eq_false (show ¬ e.kind=1 by omega),eq_false (show ¬ e.kind=2 by omega),eq_false (show ¬ e.kind=3 by omega),eq_false (show ¬ e.kind=4 by omega),eq_true hq,o3];refine zcy kat S.un hkt0 rfl (λcs hcs=>?_);refine S.askOk ev hcs hw0 hN (by omega) hr1 ?_;intro h1 g' w2 S2 st2 k1 n1 l1c wsc lat2;have lc1:(h1.get lb).cells=some [pv,.int .i64 (l1:Int),.int .i64 0]:=by rw[l1c];rfl
 have hle:=zaL p N left (.part d (e.kids.getD 0 0).toNat env);rw[hr1] at hle;have hle:l1<=left:=hle;have x4:(h1.get (h.n+2)).cells=some [.int .i64 e.kind,.int .i64 e.num,.int .i64 e.bind,w]:=by rw[k1 _ (by omega) (by omega)];exact x3
 have c4:(h1.get h.n).cells=some [.bool false,.str [],.int .i64 (d:Int),.int .i64 (a:Int),tv]:=by rw[k1 _ (by omega) (by omega)];exact c3
 have lw:=lat2.len (β:=β);simp (disch:=first|omega|simp only[zD]<;>omega|assumption) only[↓zR,↓zRM,zR,zRM,reduceAdd,reduceMul,reduceToNat,zaa,lc1,eq_true hf];exact S2.fail TR (by omega) (st.trans st2) (.inl ⟨rfl,hev⟩) hk
set_option maxHeartbeats 4000000 in
theorem EvS.k5c(X:EvS t p n N g h lb pv left cs d a env df lv e)(hq:e.kind=5){f:Fnd}{l1:Nat}(hr1:zp p N left (.part d (e.kids.getD 0 0).toNat env)=(.ok f,l1))(hf:¬ f.kind=3)(hno:¬ (f.kind=2/\f.num=e.num/\(f.parts.length:Int)=e.bind)):EvG β t p n N g h lb pv left cs d a env:=by
 intro k R hk;obtain⟨TR,T,hn,hpm,ev,ug,gn,hlb,dl,ll,lat,rpc,wf,hN,h1000,s⟩:=X;have hev:=zDq9 (N:=N) (left:=left) s;have bk:=s.part.kidsLen;have hk3:=bk.2.1 hq;have hka0:e.kids[0]?=some (e.kids.getD 0 0):=getD_some (by omega);have hkt0:(zu d env e.kids)[0]?=some (.part d (e.kids.getD 0 0).toNat env):=by unfold zu;rw[List.getElem?_map,hka0];rfl
 have hw0:=(s.kid0 hka0 (by unfold more;simp[hq])).2;have hka2:e.kids[2]?=some (e.kids.getD 2 0):=getD_some (by omega);have hkt2:(zu d env e.kids)[2]?=some (.part d (e.kids.getD 2 0).toNat env):=by unfold zu;rw[List.getElem?_map,hka2];rfl
 have hw2:=(s.kid0 hka2 (by unfold more;simp[hq])).2;have hkb1:e.kids[1]?=some (e.kids.getD 1 0):=getD_some (by omega);have hb1:0<=e.kids.getD 1 0:=((s.hlv.part a e s.he).2.2 1 _ hkb1).1.1;rw[if_neg (by omega),if_neg (by omega),if_neg (by omega),if_neg (by omega),if_neg (by omega),if_pos hq] at hev;rw[hr1] at hev;simp only at hev;rw[if_neg hf,if_neg hno] at hev;refine TR.eval_pre T n hn ug gn hlb dl ll lat rpc h1000 s ?_;intro u h3 g3 w tv x1 x4 x5 x6 x7 x8 x9 x10 x11 x12 x13 x14 x15 S st kat n3 c3 x3 q6 latT;unfold restE;have usc:=kat.sc;have o3:zt (h3.get (h.n+1))=some (0,[.int .i64 0,.int .i64 0,.nils]):=by rw[S.l3];rfl
 have cl3:(h3.get lb).cells=some [pv,.int .i64 (left:Int),.int .i64 0]:=by rw[S.ll];rfl
 simp (disch:=first|omega|simp only[zD]<;>omega|assumption) only[↓zR,↓zRM,zR,zRM,reduceAdd,reduceMul,reduceToNat,c3,x3,eq_false (show ¬ e.kind=0 by omega),eq_false (show ¬ e.kind=1 by omega),eq_false (show ¬ e.kind=2 by omega),eq_false (show ¬ e.kind=3 by omega),eq_false (show ¬ e.kind=4 by omega),eq_true hq,o3];refine zcy kat S.un hkt0 rfl (λcs hcs=>?_);refine S.askOk ev hcs hw0 hN (by omega) hr1 ?_;intro h1 g' w2 S2 st2 k1 n1 l1c wsc lat2;have lc1:(h1.get lb).cells=some [pv,.int .i64 (l1:Int),.int .i64 0]:=by rw[l1c];rfl
 have hle:=zaL p N left (.part d (e.kids.getD 0 0).toNat env);rw[hr1] at hle;have hle:l1<=left:=hle;have x4:(h1.get (h.n+2)).cells=some [.int .i64 e.kind,.int .i64 e.num,.int .i64 e.bind,w]:=by rw[k1 _ (by omega) (by omega)];exact x3
 have c4:(h1.get h.n).cells=some [.bool false,.str [],.int .i64 (d:Int),.int .i64 (a:Int),tv]:=by rw[k1 _ (by omega) (by omega)];exact c3
 have lw:=lat2.len (β:=β);have fin:∀cs2,RPC g' cs2 (.part d (e.kids.getD 2 0).toNat env)->(qCall (zc t stdI n) (.fn 172 []) [.ptr lb 0,.agg cs2] ((h1.push (.own 0 [.int .i64 0,.int .i64 0,.nils])).set h1.n (.own 0 [.int .i64 f.kind,.int .i64 f.num,w2]))<|.mk λv h'=>zj 3 (.ptr (h.n+1) 0) v h'<|.mk λh'=>zi 3 (.ptr (h.n+1) 0) h'<|.mk λv=>k v h')=R:=λcs2 hcs2=>
  S2.call ev (st.trans st2) hcs2 hw2 (by omega) (by omega) hev hk
 by_cases y1:f.kind=2
 ·by_cases y2:f.num=e.num
  ·have y3:¬ (f.parts.length:Int)=e.bind:=λhh=>hno ⟨y1,y2,hh⟩
   simp (disch:=first|omega|simp only[zD]<;>omega|assumption) only[↓zR,↓zRM,zR,zRM,reduceAdd,reduceMul,reduceToNat,↓f172_J112,zaa,lc1,eq_false hf,eq_true y1,eq_true y2,eq_false y3,x4,lw];exact zcy (kat.un RPC.staysU st2.gh.un) S2.un hkt2 rfl fin
  ·simp (disch:=first|omega|simp only[zD]<;>omega|assumption) only[↓zR,↓zRM,zR,zRM,reduceAdd,reduceMul,reduceToNat,↓f172_J112,zaa,lc1,eq_false hf,eq_true y1,eq_false y2,x4];exact zcy (kat.un RPC.staysU st2.gh.un) S2.un hkt2 rfl fin
 ·simp (disch:=first|omega|simp only[zD]<;>omega|assumption) only[↓zR,↓zRM,zR,zRM,reduceAdd,reduceMul,reduceToNat,↓f172_J112,zaa,lc1,eq_false hf,eq_false y1,x4];exact zcy (kat.un RPC.staysU st2.gh.un) S2.un hkt2 rfl fin
set_option maxHeartbeats 4000000 in
theorem EvS.k5d(X:EvS t p n N g h lb pv left cs d a env df lv e)(hq:e.kind=5){f:Fnd}{l1:Nat}(hr1:zp p N left (.part d (e.kids.getD 0 0).toNat env)=(.ok f,l1))(hf:¬ f.kind=3)(hyes:f.kind=2/\f.num=e.num/\(f.parts.length:Int)=e.bind)(hfw:∀x ∈ f.parts,WF p x)(hfl:f.parts.length<=3):EvG β t p n N g h lb pv left cs d a env:=by
 intro k R hk;obtain⟨TR,T,hn,hpm,ev,ug,gn,hlb,dl,ll,lat,rpc,wf,hN,h1000,s⟩:=X;have hev:=zDq9 (N:=N) (left:=left) s;have bk:=s.part.kidsLen;have hk3:=bk.2.1 hq;have hka0:e.kids[0]?=some (e.kids.getD 0 0):=getD_some (by omega);have hkt0:(zu d env e.kids)[0]?=some (.part d (e.kids.getD 0 0).toNat env):=by unfold zu;rw[List.getElem?_map,hka0];rfl
 have hw0:=(s.kid0 hka0 (by unfold more;simp[hq])).2;have hka2:e.kids[2]?=some (e.kids.getD 2 0):=getD_some (by omega);have hkt2:(zu d env e.kids)[2]?=some (.part d (e.kids.getD 2 0).toNat env):=by unfold zu;rw[List.getElem?_map,hka2];rfl
 have hw2:=(s.kid0 hka2 (by unfold more;simp[hq])).2;have hkb1:e.kids[1]?=some (e.kids.getD 1 0):=getD_some (by omega);have hb1:0<=e.kids.getD 1 0:=((s.hlv.part a e s.he).2.2 1 _ hkb1).1.1;rw[if_neg (by omega),if_neg (by omega),if_neg (by omega),if_neg (by omega),if_neg (by omega),if_pos hq] at hev;rw[hr1] at hev;simp only at hev;rw[if_neg hf,if_pos hyes] at hev;obtain⟨y1,y2,y3⟩:=hyes;have hwk:=(s.kid hkb1 (more':=f.parts) (by unfold more;simp[hq];exact y3) hfw).2;have be:=s.env8;have emp:∀(hh:H) (kk:K β),zs 0 [] 0 [] [] hh (.mk kk)=kk (.sl hh.n 0 0 0 none) (hh.push (.own 0 [])):=λhh kk=>fBslice_n (λ_=>rfl) hh kk
 refine TR.eval_pre T n hn ug gn hlb dl ll lat rpc h1000 s ?_;intro u h3 g3 w tv x1 x4 x5 x6 x7 x8 x9 x10 x11 x12 x13 x14 x15 S st kat n3 c3 x3 q6 latT;unfold restE;have usc:=kat.sc;have o3:zt (h3.get (h.n+1))=some (0,[.int .i64 0,.int .i64 0,.nils]):=by rw[S.l3];rfl
 have cl3:(h3.get lb).cells=some [pv,.int .i64 (left:Int),.int .i64 0]:=by rw[S.ll];rfl
 simp (disch:=first|omega|simp only[zD]<;>omega|assumption) only[↓zR,↓zRM,zR,zRM,reduceAdd,reduceMul,reduceToNat,c3,x3,eq_false (show ¬ e.kind=0 by omega),eq_false (show ¬ e.kind=1 by omega),eq_false (show ¬ e.kind=2 by omega),eq_false (show ¬ e.kind=3 by omega),eq_false (show ¬ e.kind=4 by omega),eq_true hq,o3];refine zcy kat S.un hkt0 rfl (λcs hcs=>?_);refine S.askOk ev hcs hw0 hN (by omega) hr1 ?_;intro h1 g' w2 S2 st2 k1 n1 l1c wsc lat2;have lc1:(h1.get lb).cells=some [pv,.int .i64 (l1:Int),.int .i64 0]:=by rw[l1c];rfl
 have hle:=zaL p N left (.part d (e.kids.getD 0 0).toNat env);rw[hr1] at hle;have hle:l1<=left:=hle;have x4:(h1.get (h.n+2)).cells=some [.int .i64 e.kind,.int .i64 e.num,.int .i64 e.bind,w]:=by rw[k1 _ (by omega) (by omega)];exact x3
 have c4:(h1.get h.n).cells=some [.bool false,.str [],.int .i64 (d:Int),.int .i64 (a:Int),tv]:=by rw[k1 _ (by omega) (by omega)];exact c3
 have lw:=lat2.len (β:=β);have cE:(((h1.push (.own 0 [.int .i64 0,.int .i64 0,.nils])).set h1.n (.own 0 [.int .i64 f.kind,.int .i64 f.num,w2])).get h1.n).cells=some [.int .i64 f.kind,.int .i64 f.num,w2]:=by rw[zk rfl];rfl
 simp (disch:=first|omega|simp only[zD]<;>omega|assumption) only[↓zR,↓zRM,zR,zRM,reduceAdd,reduceMul,reduceToNat,↓f172_J112,↓f172_J113,zaa,lc1,eq_false hf,eq_true y1,eq_true y2,eq_true y3,x4,c4,lw,↓emp];refine S2.envTwo (latT.un RPC.staysU (st.trans st2).gh.un) (by omega) (bx:=h1.n) (by rw[H.n_set,H.n_push];omega) cE lat2 ?_;intro v h6 g6 S6 st6 e6 tc vsc;have c6:(h6.get h.n).cells=some [.bool false,.str [],.int .i64 (d:Int),.int .i64 (a:Int),tv]:=by rw[e6.get _ (by rw[H.n_set,H.n_push];omega),ze (by omega),zb (by omega)];exact c4
 have x6:(h6.get (h.n+2)).cells=some [.int .i64 e.kind,.int .i64 e.num,.int .i64 e.bind,w]:=by rw[e6.get _ (by rw[H.n_set,H.n_push];omega),ze (by omega),zb (by omega)];exact x4
 have hkw:=λkc:VK β=>zhI (β:=β) ((q6.un ((st.trans st2).trans st6).gh.un).un S6.un) (by omega) kc
 have bu:∀(x y:Int) (kc:VK β),zo [.bool false,.str [],.int .i64 0,.int .i64 0,.nils] [(2,1),(3,1),(4,1)] [.int .i64 x,.int .i64 y,v] (.mk kc)=kc (.agg [.bool false,.str [],.int .i64 x,.int .i64 y,v]):=λx y kc=>by
  rw[zB _ _ _ _ _ _ (by simp),zB _ _ _ _ _ _ (by simp),zU _ _ _ _ vsc _ (by simp),zV];rfl
 simp (disch:=first|omega|simp only[zD]<;>omega|assumption) only[↓zR,↓zRM,zR,zRM,reduceAdd,reduceMul,reduceToNat,c6,x6,hkw,↓bu];exact S6.call ev ((st.trans st2).trans st6) (tc d _ hb1) hwk (by omega) (by omega) hev hk
set_option maxHeartbeats 4000000 in
theorem EvS.k6(X:EvS t p n N g h lb pv left cs d a env df lv e)(hq:e.kind=6):EvG β t p n N g h lb pv left cs d a env:=by
 intro k R hk;obtain⟨TR,T,hn,hpm,ev,ug,gn,hlb,dl,ll,lat,rpc,wf,hN,h1000,s⟩:=X;have hev:=zDq9 (N:=N) (left:=left) s;have bk:=s.part.kidsLen;have hk2:=bk.2.2.1 hq;have hka0:e.kids[0]?=some (e.kids.getD 0 0):=getD_some (by omega);have hkt0:(zu d env e.kids)[0]?=some (.part d (e.kids.getD 0 0).toNat env):=by unfold zu;rw[List.getElem?_map,hka0];rfl
 have hw0:=(s.kid0 hka0 (by unfold more;simp[hq])).2;have hkb1:e.kids[1]?=some (e.kids.getD 1 0):=getD_some (by omega);have hb1:0<=e.kids.getD 1 0:=((s.hlv.part a e s.he).2.2 1 _ hkb1).1.1;rw[if_neg (by omega),if_neg (by omega),if_neg (by omega),if_neg (by omega),if_neg (by omega),if_neg (by omega),if_pos hq] at hev;have hwk:=(s.kid hkb1 (more':=[.part d (e.kids.getD 0 0).toNat env]) (by unfold more;simp[hq]) (λx hx=>by rw[List.mem_singleton] at hx;rw[hx];exact hw0)).2;have be:=s.env8;have emp:∀(hh:H) (kk:K β),zs 0 [] 0 [] [] hh (.mk kk)=kk (.sl hh.n 0 0 0 none) (hh.push (.own 0 [])):=λhh kk=>fBslice_n (λ_=>rfl) hh kk
 refine TR.eval_pre T n hn ug gn hlb dl ll lat rpc h1000 s ?_;intro u h3 g3 w tv x1 x4 x5 x6 x7 x8 x9 x10 x11 x12 x13 x14 x15 S st kat n3 c3 x3 q6 latT;unfold restE;have usc:=kat.sc;have o3:zt (h3.get (h.n+1))=some (0,[.int .i64 0,.int .i64 0,.nils]):=by rw[S.l3];rfl
 have cl3:(h3.get lb).cells=some [pv,.int .i64 (left:Int),.int .i64 0]:=by rw[S.ll];rfl
 simp (disch:=first|omega|simp only[zD]<;>omega|assumption) only[↓zR,↓zRM,zR,zRM,reduceAdd,reduceMul,reduceToNat,↓emp,c3,x3,eq_false (show ¬ e.kind=0 by omega),eq_false (show ¬ e.kind=1 by omega),eq_false (show ¬ e.kind=2 by omega),eq_false (show ¬ e.kind=3 by omega),eq_false (show ¬ e.kind=4 by omega),eq_false (show ¬ e.kind=5 by omega),eq_true hq,o3];refine S.envOne (latT.un RPC.staysU st.gh.un) (by omega) kat hkt0 ?_;intro v h6 g6 S6 st6 e6 tc vsc;have c6:(h6.get h.n).cells=some [.bool false,.str [],.int .i64 (d:Int),.int .i64 (a:Int),tv]:=by rw[e6.get _ (by omega)];exact c3
 have x6:(h6.get (h.n+2)).cells=some [.int .i64 e.kind,.int .i64 e.num,.int .i64 e.bind,w]:=by rw[e6.get _ (by omega)];exact x3
 have hkw:=λkc:VK β=>zhI (β:=β) ((q6.un (st.trans st6).gh.un).un S6.un) (by omega) kc
 have bu:∀(x y:Int) (kc:VK β),zo [.bool false,.str [],.int .i64 0,.int .i64 0,.nils] [(2,1),(3,1),(4,1)] [.int .i64 x,.int .i64 y,v] (.mk kc)=kc (.agg [.bool false,.str [],.int .i64 x,.int .i64 y,v]):=λx y kc=>by
  rw[zB _ _ _ _ _ _ (by simp),zB _ _ _ _ _ _ (by simp),zU _ _ _ _ vsc _ (by simp),zV];rfl
 simp (disch:=first|omega|simp only[zD]<;>omega|assumption) only[↓zR,↓zRM,zR,zRM,reduceAdd,reduceMul,reduceToNat,c6,x6,hkw,↓bu];exact S6.call ev (st.trans st6) (tc d _ hb1) hwk hN (by omega) hev hk
end
end Am.F
end
section
namespace Am.F
open Go Am
section
variable {t:ETree}
theorem GR9.evalOk(TR:GR9 t)(T:GA t){p:List Df}(hpm:zP p=true)(N:Nat):∀n:Nat,2200+N<=n->EvOk t p N n:=by
 induction N with
 | zero=>intro n _ β g h lb pv left cs th _ _ _ _ _ _ _ _ hN _;exact absurd hN (by omega)
 | succ N ihN=>
  intro n hn;obtain⟨n,rfl⟩:∃m,n=m+1:=⟨n-1,by omega⟩
  have ev:EvOk t p N n:=ihN n (by omega);intro β g h lb pv left cs th ug gn hlb dl ll lat rpc wf hN h1000;cases th with
  | term s=>
   have hcs:cs=zai s:=by cases rpc;rfl
   have hm:mayP s=true:=by
    cases wf with
    | term h=>exact h
   subst hcs;exact TR.eval_term T n (by omega) ug gn hlb dl ll lat hm
  | part d a env=>
   cases left with
   | zero=>exact TR.eval_zero T n (by omega) hpm ev ug gn hlb dl ll lat rpc wf
   | succ left=>
    obtain⟨df,lv,e,s⟩:=wf.stand;have hk:=s.part.kidsLen;have k07:=hk.2.2.2.2.2.1;have c07:e.kind=0\/e.kind=1\/e.kind=2\/e.kind=3\/e.kind=4\/e.kind=5\/e.kind=6\/e.kind=7:=by omega
    have X:EvS t p n N g h lb pv left cs d a env df lv e:=⟨TR,T,by omega,hpm,ev,ug,gn,hlb,dl,ll,lat,rpc,wf,by omega,h1000,s⟩
    rcases c07 with q|q|q|q|q|q|q|q
    ·exact X.k0 q
    ·exact X.k1 q
    ·exact X.k2 q
    ·exact X.k3 q
    ·have l2:=hk.1 q;have w0:=(s.kid0 (getD_some (xs:=e.kids) (k:=0) (by omega)) (by unfold more;simp)).2;have w1:=(s.kid0 (getD_some (xs:=e.kids) (k:=1) (by omega)) (by unfold more;simp[q])).2;have o1:=zb2 hpm N left _ w0;obtain⟨rs,l1,hr1⟩:∃rs l1,zp p N left (.part d (e.kids.getD 0 0).toNat env)=(rs,l1):=⟨_,_,rfl⟩
     rw[hr1] at o1;cases rs with
     | bad c=>exact X.k4a q hr1
     | ok f=>
      by_cases hf:f.kind=1
      ·have o2:=zb2 hpm N l1 _ w1;obtain⟨rs,l2,hr2⟩:∃rs l2,zp p N l1 (.part d (e.kids.getD 1 0).toNat env)=(rs,l2):=⟨_,_,rfl⟩
       rw[hr2] at o2;cases rs with
       | bad c=>exact X.k4c q hr1 hf hr2
       | ok g'=>exact X.k4d q hr1 hf hr2 o1.2.2.2.2.1 o2.2.2.2.2.1
      ·exact X.k4b q hr1 hf
    ·have l3:=hk.2.1 q;have w0:=(s.kid0 (getD_some (xs:=e.kids) (k:=0) (by omega)) (by unfold more;simp)).2;have o1:=zb2 hpm N left _ w0;obtain⟨rs,l1,hr1⟩:∃rs l1,zp p N left (.part d (e.kids.getD 0 0).toNat env)=(rs,l1):=⟨_,_,rfl⟩
     rw[hr1] at o1;cases rs with
     | bad c=>exact X.k5a q hr1
     | ok f=>
      by_cases hf:f.kind=3
      ·exact X.k5b q hr1 hf (o1.2.1 hf)
      ·by_cases hy:f.kind=2/\f.num=e.num/\(f.parts.length:Int)=e.bind
       ·exact X.k5d q hr1 hf hy o1.1 o1.2.2.1
       ·exact X.k5c q hr1 hf hy
    ·exact X.k6 q
    ·exact X.k7 q
variable {β:Type}
theorem GR9.w168(TR:GR9 t)(TC:GC t)(T:GA t)(n:Nat){h:H}{pv:AV}{p:List Df}(hp:LAt 2 DfC h pv p)(hl:p.length<=9223372036854775807)(hl2:∀d ∈ p,d.body.length<=9223372036854775807){av:AV}{args:List (List UInt8)}(ha:SlAt h av (strs args))(hal:∀x ∈ args,x.length<=9223372036854775807)(hn:args.length+2080<=n)(f fuel:Int) :
  Sp (β:=β) (zc t stdI n (.fn 168 []) [.agg [pv],.int .i64 f,av,.int .i64 fuel] h) λu h'=>Ext h h'/\u = .bool (decide (zat p f args fuel)):=by
 intro k R hk;obtain⟨m,rfl⟩:∃m,n=m+1:=⟨n-1,by omega⟩
 have hbx:∀(hh:H) (kk:K β),qBox 0 (.agg [pv]) hh (.mk kk)=kk (.ptr hh.n 0) (hh.push (.own 0 [pv])):=λhh kk=>zm 0 _ hh kk
 have lp:=hp.len (β:=β);have la:∀kc:VK β,qLenL av (.mk kc)=kc (.int .i64 (args.length:Int)):=λkc=>by rw[ha.len,zag]
 have W:=TC.w149 (β:=β) T m (by omega) (h:=h.push (.own 0 [pv])) (a:=.agg [pv]) ⟨pv,rfl,hp.ext DfC.stays ((Ext.refl h).push _)⟩ hl hl2;have no:∀h',Ext h h'->¬ zat p f args fuel->k (.bool false) h'=R:=λh' e hno=>hk _ _ ⟨e,by rw[decide_eq_false hno]⟩
 have c0:((h.push (.own 0 [pv])).get h.n).cells=some [pv]:=by rw[zd rfl];rfl
 cases hpm:zP p with
 | false=>
  rw[TR.c168];unfold f168;simp (disch:=first|omega|simp only[zD]<;>omega|assumption) only[↓zR,↓zRM,zR,zRM,reduceAdd,reduceMul,reduceToNat,↓hbx];refine W _ _ ?_;intro u h1 ⟨e1,eu⟩;subst eu;simp (disch:=first|omega|simp only[zD]<;>omega|assumption) only[↓zR,↓zRM,zR,zRM,reduceAdd,reduceMul,reduceToNat,hpm];exact no h1 (((Ext.refl h).push _).trans e1) (λhh=>by rw[hh.1] at hpm;cases hpm)
 | true=>
 by_cases h1:0<=f
 case neg=>
  rw[TR.c168];unfold f168;simp (disch:=first|omega|simp only[zD]<;>omega|assumption) only[↓zR,↓zRM,zR,zRM,reduceAdd,reduceMul,reduceToNat,↓hbx];refine W _ _ ?_;intro u h1' ⟨e1,eu⟩;subst eu;have h1f:f<0:=by omega
  simp (disch:=first|omega|simp only[zD]<;>omega|assumption) only[↓zR,↓zRM,zR,zRM,reduceAdd,reduceMul,reduceToNat,hpm,eq_true h1f];exact no h1' (((Ext.refl h).push _).trans e1) (λhh=>h1 hh.2.1)
 have h1f:¬ f<0:=by omega
 by_cases h2:f<(p.length:Int)
 case neg=>
  rw[TR.c168];unfold f168;simp (disch:=first|omega|simp only[zD]<;>omega|assumption) only[↓zR,↓zRM,zR,zRM,reduceAdd,reduceMul,reduceToNat,↓hbx];refine W _ _ ?_;intro u h1' ⟨e1,eu⟩;subst eu;have c1:(h1'.get h.n).cells=some [pv]:=by rw[e1.get _ (by rw[H.n_push];omega)];exact c0
  have h2f:(p.length:Int)<=f:=by omega
  simp (disch:=first|omega|simp only[zD]<;>omega|assumption) only[↓zR,↓zRM,zR,zRM,reduceAdd,reduceMul,reduceToNat,hpm,eq_false h1f,c1,lp,eq_true h2f];exact no h1' (((Ext.refl h).push _).trans e1) (λhh=>h2 hh.2.2.1)
 have h2f:¬ (p.length:Int)<=f:=by omega
 obtain⟨df,hd⟩:∃df,p[f.toNat]?=some df:=⟨_,List.getElem?_eq_getElem (by omega)⟩
 have hpar:=zcM hd;have hnum:f=((f.toNat:Nat):Int):=by omega
 obtain⟨db,dO,dcs,q1,q2,bv,rfl,q3⟩:=hp.at (β:=β) hd;rw[<- hnum] at q1;obtain⟨dus,r1,_,_,r4⟩:=q2.get;have rg:dus[dO]?=some (.int .i64 df.params):=r4 0 _ rfl;have hdb:=q2.1
 by_cases h3:(args.length:Int)=df.params
 case neg=>
  rw[TR.c168];unfold f168;simp (disch:=first|omega|simp only[zD]<;>omega|assumption) only[↓zR,↓zRM,zR,zRM,reduceAdd,reduceMul,reduceToNat,↓hbx];refine W _ _ ?_;intro u h1' ⟨e1,eu⟩;subst eu;have c1:(h1'.get h.n).cells=some [pv]:=by rw[e1.get _ (by rw[H.n_push];omega)];exact c0
  have d1:(h1'.get db).cells=some dus:=by rw[e1.get _ (by rw[H.n_push];omega),zb (by omega)];exact r1
  simp (disch:=first|omega|simp only[zD]<;>omega|assumption) only[↓zR,↓zRM,zR,zRM,reduceAdd,reduceMul,reduceToNat,hpm,eq_false h1f,c1,lp,eq_false h2f,q1,d1,rg,la,eq_false h3];exact no h1' (((Ext.refl h).push _).trans e1) (λhh=>h3 (by rw[<- hpar];exact hh.2.2.2.1))
 have hal2:args.length<9223372036854775807:=by have:=zfY hpm hd;omega
 by_cases h5:0<=fuel/\fuel<=400
 case neg=>
  have no5:¬ zat p f args fuel:=λhh=>h5 ⟨hh.2.2.2.2.2.1,hh.2.2.2.2.2.2⟩
  by_cases h6:fuel<0
  ·rw[TR.c168];unfold f168;simp (disch:=first|omega|simp only[zD]<;>omega|assumption) only[↓zR,↓zRM,zR,zRM,reduceAdd,reduceMul,reduceToNat,↓hbx];refine W _ _ ?_;intro u h1' ⟨e1,eu⟩;subst eu;have c1:(h1'.get h.n).cells=some [pv]:=by rw[e1.get _ (by rw[H.n_push];omega)];exact c0
   have d1:(h1'.get db).cells=some dus:=by rw[e1.get _ (by rw[H.n_push];omega),zb (by omega)];exact r1
   simp (disch:=first|omega|simp only[zD]<;>omega|assumption) only[↓zR,↓zRM,zR,zRM,reduceAdd,reduceMul,reduceToNat,hpm,eq_false h1f,c1,lp,eq_false h2f,q1,d1,rg,la,eq_true h3,eq_true h6];exact no h1' (((Ext.refl h).push _).trans e1) no5
  ·have h7:400<fuel:=by omega
   rw[TR.c168];unfold f168;simp (disch:=first|omega|simp only[zD]<;>omega|assumption) only[↓zR,↓zRM,zR,zRM,reduceAdd,reduceMul,reduceToNat,↓hbx];refine W _ _ ?_;intro u h1' ⟨e1,eu⟩;subst eu;have c1:(h1'.get h.n).cells=some [pv]:=by rw[e1.get _ (by rw[H.n_push];omega)];exact c0
   have d1:(h1'.get db).cells=some dus:=by rw[e1.get _ (by rw[H.n_push];omega),zb (by omega)];exact r1
   simp (disch:=first|omega|simp only[zD]<;>omega|assumption) only[↓zR,↓zRM,zR,zRM,reduceAdd,reduceMul,reduceToNat,hpm,eq_false h1f,c1,lp,eq_false h2f,q1,d1,rg,la,eq_true h3,eq_false h6,eq_true h7];exact no h1' (((Ext.refl h).push _).trans e1) no5
 have h6:¬ fuel<0:=by omega
 have h7:¬ 400<fuel:=by omega
 rw[TR.c168];unfold f168;simp (disch:=first|omega|simp only[zD]<;>omega|assumption) only[↓zR,↓zRM,zR,zRM,reduceAdd,reduceMul,reduceToNat,↓hbx];refine W _ _ ?_;intro u h1' ⟨e1,eu⟩;subst eu;have c1:(h1'.get h.n).cells=some [pv]:=by rw[e1.get _ (by rw[H.n_push];omega)];exact c0
 have d1:(h1'.get db).cells=some dus:=by rw[e1.get _ (by rw[H.n_push];omega),zb (by omega)];exact r1
 simp (disch:=first|omega|simp only[zD]<;>omega|assumption) only[↓zR,↓zRM,zR,zRM,reduceAdd,reduceMul,reduceToNat,↓f168_J1,hpm,eq_false h1f,c1,lp,eq_false h2f,q1,d1,rg,la,eq_true h3,eq_false h6,eq_false h7];have ee:Ext h h1':=((Ext.refl h).push _).trans e1;refine zH 7 m _ _ (λi x0 x1 x2 x3 x4 x5 x6 h'=>Ext h h'/\∃j:Nat,x2=av/\x6 = .int .i64 (j:Int)/\j+i=args.length/\args.all mayP=(args.drop j).all mayP) args.length (by omega) ?_ _ _ _ _ _ _ _ _
  ⟨ee,0,rfl,rfl,by omega,rfl⟩
 intro l i ih x0 x1 x2 x3 x4 x5 x6 h' ⟨e1,j,q3,q5,e2,e3⟩;subst q3 q5;have hs':=ha.ext e1;cases i with
 | zero=>
  have cj:¬ (j:Int)<(args.length:Int):=by omega
  simp (disch:=first|omega|simp only[zD]<;>omega|assumption) only[↓zR,↓zRM,zR,zRM,reduceAdd,reduceMul,reduceToNat,↓f168_J2,↓f168_J5,↓f168_J4,↓f168_L3,↓f168_J1,la,eq_false cj];refine hk _ _ ⟨e1,?_⟩;rw[decide_eq_true];exact⟨hpm,h1,h2,by rw[hpar];exact h3,by rw[e3,List.drop_eq_nil_of_le (by omega)];rfl,h5.1,h5.2⟩
 | succ i=>
  have hj:j<args.length:=by omega
  have hd:args.drop j=args.getD j []::args.drop (j+1):=by rw[List.drop_eq_getElem_cons hj];simp[List.getD_eq_getElem?_getD,hj]
  rw[hd,List.all_cons] at e3;have cj:(j:Int)<(args.length:Int):=by omega
  have hmem:args.getD j [] ∈ args:=by rw[List.getD_eq_getElem?_getD,List.getElem?_eq_getElem hj];exact List.getElem_mem hj
  simp (disch:=first|omega|simp only[zD]<;>omega|assumption) only[↓zR,↓zRM,zR,zRM,reduceAdd,reduceMul,reduceToNat,↓f168_J2,↓f168_J5,↓f168_J4,↓f168_L3,↓f168_J1,la,eq_true cj,hs'.loadS];refine T.w18 m (by omega) _ (hal _ hmem) h' _ _ ?_;intro u h2 ⟨e4,e5⟩;rw[zd8] at e5;subst e5;cases c1:mayP (args.getD j [])
  ·rw[c1,Bool.false_and] at e3;simp (disch:=first|omega|simp only[zD]<;>omega|assumption) only[↓zR,↓zRM,zR,zRM,reduceAdd,reduceMul,reduceToNat,↓f168_J2,↓f168_J5,↓f168_J4,↓f168_L3,↓f168_J1,c1];exact no h2 (e1.trans e4) (λhh=>by have:=hh.2.2.2.2.1;rw[e3] at this;cases this)
  ·rw[c1,Bool.true_and] at e3;simp (disch:=first|omega|simp only[zD]<;>omega|assumption) only[↓zR,↓zRM,zR,zRM,reduceAdd,reduceMul,reduceToNat,↓f168_J2,↓f168_J5,↓f168_J4,↓f168_L3,↓f168_J1,c1];exact ih i (by omega) _ _ _ _ _ _ _ _ ⟨e1.trans e4,j+1,rfl,rfl,by omega,e3⟩
end
end Am.F
end
