/- The numbers of the functions;what is asked of the memory. -/
import Derived.Test.YtddiafpckjhadaaGreatDoorAmJd
namespace Am.L
open Go
def GG(P:Program):Base->Prop:=λB=>GTab P B/\GVar P "strconv.ErrSyntax" zjM B/\GVar P "strconv.ErrRange" zjM B
theorem zhM{P:Program}:zcU (GG P):=ziA.and (ze0.and ze0)
def keys:List Nat:=[0,0,0,0,0,234,135,0,0,0,16,140,0,0,0,244,152,142,166,150,156,0,181,184,0,168,172,170,0,167,15,0,0,17,182,18,169,151,157,26,204,205,206,207,208,209,210,29,0,0,149,195,196,197,198,30,0,0,12,0,194,0,0,0,0,0,24,11,180,186,187,188,226,227,0,0,0,179,147,25,223,39,0,0,0,33,34,35,36,37,212,213,214,215,28,230,231,0,0,0,0,0,0,202,203,41,174,38,40,0,0,44,45,46,47,48,229,0,0,0,0,0,0,0,0,0,0,0,0,0,0,0,0,0,0,0,0,0,0,0,0,0,0,0,0,0,0,0,0,0,0,0,0,0,0,0,0,0,0,0,0,0,0,0,0,0,0,0,0,0,0,0,0,0,0,0,0,0,0,0,0,0,0]
def kf(f:Nat):Nat:=keys.getD f 0
def kt(_:Nat):Nat:=0
end Am.L
