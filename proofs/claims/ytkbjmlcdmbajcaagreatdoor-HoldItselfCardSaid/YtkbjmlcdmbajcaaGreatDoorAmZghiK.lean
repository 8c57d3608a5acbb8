/- The numbers of the functions;what is asked of the memory. -/
import Derived.Test.YtkbjmlcdmbajcaaGreatDoorAmJd
namespace Am.L
open Go
def GG(P:Program):Base->Prop:=λB=>GTab P B/\GVar P "strconv.ErrSyntax" zf1 B/\GVar P "strconv.ErrRange" zf1 B
theorem gg_keeps{P:Program}:zcV (GG P):=zfA.and (zcP.and zcP)
def keys:List Nat:=[0,0,0,0,0,236,0,0,152,142,16,0,0,150,0,146,0,181,17,182,168,18,169,170,0,0,151,172,0,173,157,26,204,205,24,11,184,149,12,0,180,195,196,197,198,30,0,0,0,186,187,188,33,34,35,36,37,206,207,208,209,210,179,25,0,147,212,213,214,215,44,45,28,29,46,47,48,226,227,202,203,38,39,40,41,174,229,0,0,0,0,0,0,0,230,231,0,0,0,0,0,0,0,0,0,0,0,0,0,0,0,0,0,0,0,0,0,0,0,0,0,0,0,0,0,0,0,0,0,0,0,0,0,0,0,0,0,0,0,0,0,0,0,0,0,0,0,0,0,0,0,0]
def kf(f:Nat):Nat:=keys.getD f 0
def kt(_:Nat):Nat:=0
end Am.L
