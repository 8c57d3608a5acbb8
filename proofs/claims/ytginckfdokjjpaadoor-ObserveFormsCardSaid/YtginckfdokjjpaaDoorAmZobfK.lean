/- The numbers of the functions;what is asked of the memory. -/
import Derived.Test.YtginckfdokjjpaaDoorAmJd
namespace Am.L
open Go
def GG(P:Program):Base->Prop:=λB=>GTab P B/\GVar P "strconv.ErrSyntax" zhg B/\GVar P "strconv.ErrRange" zhg B
theorem gg_keeps{P:Program}:zb5 (GG P):=zgl.and (zc3.and zc3)
def keys:List Nat:=[0,0,0,0,251,0,0,266,0,15,16,0,0,264,265,0,0,261,258,274,0,0,0,0,0,0,270,269,29,42,0,26,17,0,0,0,0,0,24,0,0,0,0,33,34,35,36,37,0,0,0,0,0,0,0,0,0,0,44,45,28,46,47,48,0,0,0,0,0,0,0,0,0,0,0,0,0,0,0,0,0,0,0,0,0,0,0,0,0,0,0,0,0,0,0,0,0,0,0,0,0,0,0,0,0,0,0,0,0,0,0,0,0,0,0,0,0,0,0,0,0,0,0]
def kf(f:Nat):Nat:=keys.getD f 0
def kt(_:Nat):Nat:=0
end Am.L
