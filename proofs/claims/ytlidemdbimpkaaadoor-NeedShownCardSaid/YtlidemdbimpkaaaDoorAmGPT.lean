/- Functions of the program,as the abstract machine has them. -/
import Derived.Test.YtlidemdbimpkaaaDoorAmJc
namespace Am.T
open Go
def s138:SFn:=.src 27 [0,1,4,5,26] [.tmp 2]<|.seq (.reg [.set 2 (.M 4 (.k (.bool false)))])<|.seq (.ifr [] (.P 10 (.binI .neq) [.P 7 .lenL [.W 0 6],.P 9 .lenL [.W 1 8]]) (.seq (.reg [.set 2 (.M 4 (.k (.bool false)))])<|.ret) .skip)<|.seq (.seq (.reg [.set 3 (.M 5 (.I 0))])<|.block 0<|.loop [0,1,3]<|.seq (.ifr [] (.P 14 (.binI .lss) [.W 3 11,.P 13 .lenL [.W 0 12]]) .skip (.exit 0))<|.seq (.block 1<|.seq (.dreg [17,18,19,20,21,22,23,24,25] [⟨ (some 5),.mov,[.t 0],none⟩,⟨ (some 6),.mov,[.t 3],none⟩,⟨ (some 7),.iadr 4,[.t 5,.t 6],none⟩,⟨ (some 8),.loadN 4,[.t 7],none⟩,⟨ (some 9),.mov,[.t 1],none⟩,⟨ (some 10),.mov,[.t 3],none⟩,⟨ (some 11),.iadr 4,[.t 9,.t 10],none⟩,⟨ (some 12),.loadN 4,[.t 11],none⟩,⟨ (some 13),.call 166,[.t 8,.t 12],none⟩,⟨ (some 4),.notB,[.t 13],none⟩] [.op 0,.op 1,.op 2,.op 3,.op 4,.op 5,.op 6,.op 7,.op 8,.op 9])<|.cond (.t 4) (.seq (.reg [.set 2 (.M 4 (.k (.bool false)))])<|.ret) .skip)<|.reg [.set 3 (.M 5 (.P 16 (.binI .add) [.W 3 15,.I 1]))])<|.seq (.reg [.set 2 (.M 4 (.k (.bool true)))])<|.ret
end Am.T
