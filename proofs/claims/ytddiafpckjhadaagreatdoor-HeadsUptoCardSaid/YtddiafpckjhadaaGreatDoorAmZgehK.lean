/- The numbers of the functions;what is asked of the memory. -/
import Derived.Test.YtddiafpckjhadaaGreatDoorAmJd
namespace Am.L
open Go
def GG(P:Program):Base->Prop:=λB=>GTab P B/\GVar P "strconv.ErrSyntax" zke B/\GVar P "strconv.ErrRange" zke B
theorem zia{P:Program}:zc3 (GG P):=zi0.and (zfa.and zfa)
def keys:List Nat:=[0,0,0,237,0,0,135,10,155,145,16,140,20,153,0,0,0,0,0,0,156,23,181,184,185,168,172,170,14,167,15,154,0,17,0,18,0,0,157,26,204,205,206,207,208,209,210,29,27,211,149,195,196,197,198,30,22,31,12,32,194,183,0,0,0,0,24,11,0,186,187,188,226,227,0,42,228,179,147,25,223,39,0,0,0,33,34,35,36,37,212,213,214,215,28,230,231,0,0,0,0,232,233,202,203,41,174,38,40,0,0,44,45,46,47,48,229,0,0,0,0,0,0,0,0,0,0,0,0,0,0,0,0,0,0,0,0,0,0,0,0,0,0,0,0,0,0,0,0,0,0,0,0,0,0,0,0,0,0,0,0,0,0,0,0,0,0,0,0,0,0,0,0,0,0,0,0,0,0,0,0,0,0]
def kf(f:Nat):Nat:=keys.getD f 0
def kt(_:Nat):Nat:=0
end Am.L
