/- The numbers of the functions;what is asked of the memory. -/
import Derived.Test.YtddiafpckjhadaaGreatDoorAmJd
namespace Am.L
open Go
def GG(P:Program):Base->Prop:=λB=>GTab P B/\GVar P "strconv.ErrSyntax" zi7 B/\GVar P "strconv.ErrRange" zi7 B
theorem zg4{P:Program}:zcz (GG P):=zhS.and (zeo.and zeo)
def keys:List Nat:=[0,0,0,0,239,0,0,0,155,0,16,0,0,153,245,0,0,0,0,0,0,0,181,184,185,0,0,0,0,0,0,154,148,17,0,0,0,0,157,26,204,205,206,207,208,209,210,29,27,211,149,0,0,0,0,30,0,0,12,0,0,183,175,176,177,178,24,11,0,186,187,188,226,227,0,42,228,179,0,25,0,39,199,200,201,33,34,35,36,37,212,213,214,215,28,230,231,0,0,0,0,232,233,202,203,41,0,38,40,224,225,44,45,46,47,48,229,0,0,0,0,0,0,0,0,0,0,0,0,0,0,0,0,0,0,0,0,0,0,0,0,0,0,0,0,0,0,0,0,0,0,0,0,0,0,0,0,0,0,0,0,0,0,0,0,0,0,0,0,0,0,0,0,0,0,0,0,0,0,0,0,0,0]
def kf(f:Nat):Nat:=keys.getD f 0
def kt(_:Nat):Nat:=0
end Am.L
