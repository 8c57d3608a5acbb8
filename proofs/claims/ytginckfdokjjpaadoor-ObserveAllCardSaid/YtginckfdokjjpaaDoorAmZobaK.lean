/- The numbers of the functions;what is asked of the memory. -/
import Derived.Test.YtginckfdokjjpaaDoorAmJd
namespace Am.L
open Go
def GG(P:Program):Base->Prop:=λB=>GTab P B/\GVar P "strconv.ErrSyntax" zjd B/\GVar P "strconv.ErrRange" zjd B
theorem zhf{P:Program}:zca (GG P):=zh4.and (zd5.and zd5)
def keys:List Nat:=[0,0,0,0,0,305,0,266,0,15,16,0,0,264,265,299,295,261,258,274,297,0,0,301,296,22,270,269,29,42,18,26,17,0,0,0,0,12,24,0,0,0,25,33,34,35,36,37,0,0,0,0,0,0,38,39,40,41,44,45,28,46,47,48,0,0,0,0,0,30,0,0,0,0,0,0,0,0,0,0,0,0,0,0,0,0,0,0,0,0,0,0,0,0,0,0,0,0,0,0,0,0,0,0,0,0,0,0,0,0,0,0,0,0,0,0,0,0,0,0,0,0,0]
def kf(f:Nat):Nat:=keys.getD f 0
def kt(_:Nat):Nat:=0
end Am.L
