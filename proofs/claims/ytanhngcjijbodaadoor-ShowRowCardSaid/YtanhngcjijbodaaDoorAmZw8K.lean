/- The numbers of the functions;what is asked of the memory. -/
import Derived.Test.YtanhngcjijbodaaDoorAmJd
namespace Am.L
open Go
def GG(P:Program):Base->Prop:=λB=>GTab P B
theorem gg_keeps{P:Program}:zch (GG P):=zgb
def keys:List Nat:=[0,0,0,0,247,0,254,0,16,0,252,0,253,149,255,0,157,29,268,0,0,0,0,0,0,0,267,30,179,186,187,188,0,275,42,0,0,0,0,0,0,0,202,203,212,213,214,215,0,277,0,0,0,0,0,0,0,41,28,229,0,0,0,0,0,0,0,0,0,0,0,0,0,0,0,0,0,0,0,0,0,0,0,0,0,0,0,0,0,0,0,0,0,0,0,0,0,0,0,0,0,0,0,0,0,0,0,0,0,0,0,0,0,0,0,0,0,0]
def kf(f:Nat):Nat:=keys.getD f 0
def kt(_:Nat):Nat:=0
end Am.L
