/- The numbers of the functions;what is asked of the memory. -/
import Derived.Test.YtlidemdbimpkaaaDoorAmJd
namespace Am.L
open Go
def GG(P:Program):Base->Prop:=λB=>GTab P B
theorem zik{P:Program}:zdd (GG P):=zjb
def keys:List Nat:=[0,0,0,0,0,0,0,0,0,0,129,0,136,0,138,16,0,0,141,0,0,0,0,0,0,0,149,143,0,157,158,159,160,161,162,0,0,0,166,0,0,0,0,0,0,0,0,0,0,30,41,0,179,171,186,187,188,189,190,191,29,27,0,0,0,15,0,0,0,0,0,0,0,0,0,0,0,202,203,212,213,214,215,216,217,218,219,0,42,0,0,0,0,0,0,0,0,0,0,28,229,226,0,0,0,0,0,0,230,0,0,0,0,0,0,0,0,0,0,0,0,0,0,0,0,0,0,0,0,0,0,0,0,0,0,0,0,0,0,0,0,0,0,0,0,0,0,0]
def kf(f:Nat):Nat:=keys.getD f 0
def kt(_:Nat):Nat:=0
end Am.L
