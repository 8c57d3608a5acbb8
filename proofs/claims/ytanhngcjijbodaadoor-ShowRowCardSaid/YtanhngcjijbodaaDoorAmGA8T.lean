/- Functions of the program,as the abstract machine has them. -/
import Derived.Test.YtanhngcjijbodaaDoorAmJc
namespace Am.T
open Go
def s252:SFn:=.src 28 [0,1,2,4,5,8,9,10,13,14] [.tmp 0]<|.seq (.reg [.set 0 (.M 0 (.k (.bool false)))])<|.seq (.reg [.set 4 (.M 5 (.P 7 (.call 254) [.P 6 (.call 253) []])),.set 5 (.P 8 (.ext 0) [.V 4]),.set 6 (.P 9 (.ext 1) [.V 4]),.set 1 (.M 1 (.V 5)),.set 2 (.M 2 (.V 6))])<|.seq (.reg [.set 7 (.M 10 (.P 12 (.call 254) [.P 11 (.build [.nils] []) []])),.set 8 (.P 13 (.ext 0) [.V 7]),.set 9 (.P 14 (.ext 1) [.V 7]),.ef (.W 8 3),.set 3 (.M 4 (.V 9))])<|.seq (.reg [.set 0 (.M 0 (.and 23 27 (.and 18 22 (.P 17 (.binS .eql) [.W 1 15,.P 16 (.call 255) []]) (.P 21 (.binI .eql) [.P 20 (.call 16) [.W 2 19],.I 0])) (.P 26 (.binI .eql) [.P 25 (.call 16) [.W 3 24],.I 800])))])<|.ret
end Am.T
