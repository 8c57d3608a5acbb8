/- Functions of the program,as the abstract machine has them. -/
import Derived.Test.YtddiafpckjhadaaGreatDoorAmJc
namespace Am.T
open Go
def s245:SFn:=.src 13 [0,2,3,5,10,11] [.cellN 1 1]<|.seq (.reg [.set 1 (.P 2 (.alloc 0 [.nils]) [])])<|.seq (.reg [.set 3 (.M 5 (.P 9 (.call 148) [.P 8 (.binS .add) [.P 7 (.binS .add) [.k (.str [40,100,101,102,32,48,32]),.W 0 6],.k (.str [41,10,40,100,101,102,32,50,32,40,99,97,115,101,32,36,48,32,64,55,32,50,32,40,43,32,36,51,32,36,49,41,32,40,43,32,36,48,32,36,49,41,41,41,10,40,100,101,102,32,49,32,40,102,50,32,36,48,41,41,10,40,100,101,102,32,50,32,36,49,41,10])]])),.set 4 (.P 10 (.ext 0) [.V 3]),.set 5 (.P 11 (.ext 1) [.V 3]),.set 2 (.P 3 (.alloc 0 [.nils]) []),.ef (.op none (.store 1) [.V 2,.V 4]),.ef (.W 5 4)])<|.seq (.reg [.ef (.op none (.store 1) [.V 1,.P 12 (.loadN 1) [.V 2]])])<|.ret
end Am.T
