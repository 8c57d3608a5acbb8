/- Texts that belong together: no condition. -/
import Derived.Test.YtanhngcjijbodaaDoorAmJd
import Derived.Test.YtanhngcjijbodaaDoorAmJe
set_option maxRecDepth 100000
set_option linter.unusedVariables false
set_option linter.unusedSimpArgs false
set_option linter.defProp false
section
namespace Am.F
open Go Am
def stop(b:UInt8):Bool:=b==32||b==40||b==41
def wA(s:List UInt8):List UInt8:=s.takeWhile λb=>!stop b
def wB(s:List UInt8):List UInt8:=s.dropWhile λb=>!stop b
def numX(w:List UInt8):Int:=match Lib.atoiAll w with
 | .ok x=>x
 | .range=>Lib.atoiSat w
 | _=>0
def okX(w:List UInt8):Bool:=match Lib.atoiAll w with
 | .ok _=>true
 | _=>false
def numP(w:List UInt8):Bool:=decide (okX w=true/\(-32768<=numX w/\numX w<=32767)/\Lib.itoa (numX w)=w)
def digP(most:Int)(w:List UInt8):Bool:=decide (okX w=true/\(0<=numX w/\numX w<=most)/\Lib.itoa (numX w)=w)
def tagP(w:List UInt8):Bool:=decide ([64] <+: w)&&digP 99 (w.drop 1)
def tagX(w:List UInt8):Int:=numX (if [64] <+: w then w.drop 1 else w)
structure Tm where
 kind:Int
 num:Int
 kids:List (List UInt8)
 rest:List UInt8
def closeP(x:Int)(kids:List (List UInt8))(r:List UInt8):Option Tm:=if [41] <+: r then some ⟨2,x,kids,r.drop 1⟩ else none
def cutK(cut:List UInt8->Option Tm)(x:Int):Nat->List (List UInt8)->List UInt8->Option Tm
 | 0,kids,r=>closeP x kids r
 | m+1,kids,r=>match cut (r.drop 1) with
  | none=>none
  | some t=>if [32] <+: t.rest then cutK cut x m (kids++[(r.drop 1).take ((r.drop 1).length-t.rest.length)]) t.rest
   else closeP x (kids++[(r.drop 1).take ((r.drop 1).length-t.rest.length)]) t.rest
def cutP:Nat->List UInt8->Option Tm
 | 0,_=>none
 | f+1,s=>
  if wA s=[95] then some ⟨0,0,[],wB s⟩
  else if wA s=[33] then some ⟨3,0,[],wB s⟩
  else if numP (wA s)=true then some ⟨1,numX (wA s),[],wB s⟩
  else if tagP (wA s)=true then (if [40] <+: wB s then cutK (cutP f) (tagX (wA s)) 3 [] (wB s) else some ⟨2,tagX (wA s),[],wB s⟩)
  else none
section
variable {β:Type} {t:ETree}
end
end Am.F
end
section
namespace Am.F
open Go Am
def termP(s:List UInt8):Option Tm:=if s.length<=1024 then (match cutP (s.length+1) s with
 | some t=>if t.rest=[] then some t else none
 | none=>none) else none
def mayP(s:List UInt8):Bool:=(termP s).isSome
def conP(x:Int)(kids:List (List UInt8)):List UInt8:=[64]++Lib.itoa x++(if 0<kids.length then [40]++Lib.join kids [32]++[41] else [])
section
variable {β:Type} {t:ETree}
end
end Am.F
end
section
namespace Am.F
open Go Am
def digC(s:List UInt8)(k:Nat):Prop:=k<s.length/\k<6/\48<=bt s k/\bt s k<=57/\(k=0\/bt s 0≠48)
instance (s:List UInt8) (k:Nat):Decidable (digC s k):=by unfold digC;infer_instance
def digF(s:List UInt8):Nat->Nat->Nat->Nat × Nat
 | 0,x,k=>(x,k)
 | f+1,x,k=>if digC s k then digF s f (10*x+(bt s k-48)) (k+1) else (x,k)
def dig(s:List UInt8):Nat × Nat:=digF s 7 0 0
structure Ct where
 kind:Int
 num:Int
 kids:List (List UInt8)
 to:Nat
section
variable {β:Type} {t:ETree}
end
end Am.F
end
section
namespace Am.F
open Go Am
section
variable {β:Type}
theorem zbp:∀s:List UInt8,zah (zK s)=some s
 | []=>rfl
 | b::s=>by
  show (zah (zK s)).map (UInt8.ofNat (b.toNat:Int).toNat::·)=_;rw[zbp s,Int.toNat_natCast];simp
theorem SlAt.b2s{h:H}{v:AV}{s:List UInt8}(hs:SlAt h v (zK s))(k:VK β):qB2s v h (.mk k)=k (.str s):=by
 rcases hs with⟨rfl,h1⟩|⟨b,o,m,g,us,rfl,h2,h3,h4,h5⟩
 ·cases s with
  | nil=>rfl
  | cons b s=>cases h1
 ·show (cells h b λcs=>cond (Nat.ble (Nat.add o (zK s).length) (lenF cs)) (zP (zah (zbi (zK s).length (zbU o cs))) λs=>k (.str s)) none)=_;rw[zbV,h3,zbz,zg,ble_eq,decide_eq_true (by show o+(zK s).length<=_;omega),zA,zL,h4,zbp];rfl
theorem SlAt.src{h:H}{v:AV}{cs:List AV}(hs:SlAt h v cs)(c:Nat->List AV->Option β):fSrc 1 v h c=c cs.length cs:=by
 rcases hs with⟨rfl,rfl⟩|⟨b,o,m,g,us,rfl,h2,h3,h4,h5⟩
 ·rfl
 ·show (cells h b λus=>cond (Nat.ble (Nat.add o (Nat.mul cs.length 1)) (lenF us)) (c cs.length (zbi (Nat.mul cs.length 1) (zbU o us))) none)=_;rw[zbV,h3,zbz,zg,ble_eq,Nat.mul_eq,Nat.mul_one,decide_eq_true (by show o+cs.length<=_;omega),zA,zL,h4];rfl
variable {t:ETree}
def NewAt(h:H)(lo:Nat)(v:AV)(cs:List AV):Prop:=∃b,lo<=b/\b<h.n/\h.get b = .own 0 cs/\(v = .sl b 0 cs.length cs.length none\/v = .sl b 0 cs.length cs.length (some 1)/\cs≠[])
theorem NewAt.sl{h:H}{lo:Nat}{v:AV}{cs:List AV}(hs:NewAt h lo v cs):SlAt h v cs:=by
 obtain⟨b,h1,h2,h3,rfl|⟨rfl,_⟩⟩:=hs
 ·exact .inr ⟨b,0,_,_,cs,rfl,h2,by rw[h3];rfl,by simp,by simp⟩
 ·exact .inr ⟨b,0,_,_,cs,rfl,h2,by rw[h3];rfl,by simp,by simp⟩
def LentAt(h:H)(lo:Nat)(v:AV)(xs:List (List UInt8)):Prop :=
 ∃b,lo<=b/\b<h.n/\v = .sl b 0 xs.length (xs.length+2) (some 1)/\h.get b = .own 0 (strs xs++[.str [126,114,111,111,109],.str [126,98,101,104,105,110,100]])
theorem LentAt.sl{h:H}{lo:Nat}{v:AV}{xs:List (List UInt8)}(hs:LentAt h lo v xs):SlAt h v (strs xs):=by
 obtain⟨b,h1,h2,rfl,h3⟩:=hs;refine .inr ⟨b,0,_,_,_,by rw[ze8],h2,by rw[h3];rfl,by simp,by simp[ze8]⟩
end
end Am.F
end
