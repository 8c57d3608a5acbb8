/- Texts that belong together: no condition. -/
import Derived.Test.YtlidemdbimpkaaaDoorAmJd
import Derived.Test.YtlidemdbimpkaaaDoorAmJe
open Nat (reduceAdd reduceMul)
open Int (reduceToNat)
set_option maxRecDepth 100000
set_option linter.unusedVariables false
set_option linter.unusedSimpArgs false
set_option linter.defProp false
section
namespace Am.F
open Go Am
def stop(b:UInt8):Bool:=b==32||b==40||b==41
def wA(s:List UInt8):List UInt8:=s.takeWhile λb=>!stop b
def wB(s:List UInt8):List UInt8:=s.dropWhile λb=>!stop b
theorem wA_wB(s:List UInt8):wA s++wB s=s:=List.takeWhile_append_dropWhile
def numX(w:List UInt8):Int:=match Lib.atoiAll w with
 | .ok x=>x
 | .range=>Lib.atoiSat w
 | _=>0
def okX(w:List UInt8):Bool:=match Lib.atoiAll w with
 | .ok _=>true
 | _=>false
def numP(w:List UInt8):Bool:=decide (okX w=true/\(-32768<=numX w/\numX w<=32767)/\Lib.itoa (numX w)=w)
def digP(most:Int)(w:List UInt8):Bool:=decide (okX w=true/\(0<=numX w/\numX w<=most)/\Lib.itoa (numX w)=w)
def tagP(w:List UInt8):Bool:=decide ([64] <+: w)&&digP 99 (w.drop 1)
def tagX(w:List UInt8):Int:=numX (if [64] <+: w then w.drop 1 else w)
structure Tm where
 kind:Int
 num:Int
 kids:List (List UInt8)
 rest:List UInt8
def zeU(x:Int)(kids:List (List UInt8))(r:List UInt8):Option Tm:=if [41] <+: r then some ⟨2,x,kids,r.drop 1⟩ else none
def cutK(cut:List UInt8->Option Tm)(x:Int):Nat->List (List UInt8)->List UInt8->Option Tm
 | 0,kids,r=>zeU x kids r
 | m+1,kids,r=>match cut (r.drop 1) with
  | none=>none
  | some t=>if [32] <+: t.rest then cutK cut x m (kids++[(r.drop 1).take ((r.drop 1).length-t.rest.length)]) t.rest
   else zeU x (kids++[(r.drop 1).take ((r.drop 1).length-t.rest.length)]) t.rest
def cutP:Nat->List UInt8->Option Tm
 | 0,_=>none
 | f+1,s=>
  if wA s=[95] then some ⟨0,0,[],wB s⟩
  else if wA s=[33] then some ⟨3,0,[],wB s⟩
  else if numP (wA s)=true then some ⟨1,numX (wA s),[],wB s⟩
  else if tagP (wA s)=true then (if [40] <+: wB s then cutK (cutP f) (tagX (wA s)) 3 [] (wB s) else some ⟨2,tagX (wA s),[],wB s⟩)
  else none
section
variable {β:Type} {t:ETree}
theorem GA.w28(T:GA t)(n:Nat)(x:Int)(h:H)(k:K β):qCall (ze t stdI (n+1)) (.fn 28 []) [.int .i64 x] h (.mk k)=k (.bool (decide (-32768<=x/\x<=32767))) h:=by
 rw[T.q28];unfold f28
 by_cases h1:-32768<=x
 ·simp (disch:=first|omega|simp only[zD]<;>omega|assumption) only[↓zR,↓zRM,zR,zRM,reduceAdd,reduceMul,reduceToNat,h1,true_and]
 ·simp (disch:=first|omega|simp only[zD]<;>omega|assumption) only[↓zR,↓zRM,zR,zRM,reduceAdd,reduceMul,reduceToNat,h1,false_and,decide_false]
end
end Am.F
end
section
namespace Am.F
open Go Am
def termP(s:List UInt8):Option Tm:=if s.length<=1024 then (match cutP (s.length+1) s with
 | some t=>if t.rest=[] then some t else none
 | none=>none) else none
def mayP(s:List UInt8):Bool:=(termP s).isSome
def conP(x:Int)(kids:List (List UInt8)):List UInt8:=[64]++Lib.itoa x++(if 0<kids.length then [40]++Lib.join kids [32]++[41] else [])
theorem zaw:∀(k u:Nat),u<10 ^ (k+1)->(Lib.decDigits u).length<=k+1
 | 0,u,h=>by rw[Lib.decDigits,dif_pos (by simpa using h)];simp
 | k+1,u,h=>by
  rw[Lib.decDigits];split
  ·simp
  ·rw[List.length_append];have:=zaw k (u / 10) (by rw[Nat.pow_succ] at h;omega)
   simp only[List.length_cons,List.length_nil];omega
theorem zfm{x:Int}(h0:-9223372036854775808<=x)(h1:x<=9223372036854775807):(Lib.itoa x).length<=20:=by
 unfold Lib.itoa;split
 ·have:=zaw 18 x.natAbs (by omega)
  simp only[List.length_cons];omega
 ·have:=zaw 18 x.toNat (by omega)
  omega
section
variable {β:Type} {t:ETree}
theorem GA.w27(T:GA t)(L:GI t)(n:Nat)(x:Int)(kids:List (List UInt8))(v:AV)(h:H)(hs:SlAt h v (strs kids))(h0:-9223372036854775808<=x)(h1:x<=9223372036854775807)(h2:kids.length<=140737488355328)(h3:(Lib.join kids [32]).length<=140737488355328)(k:K β) :
  qCall (ze t stdI (n+2)) (.fn 27 []) [.int .i64 x,v] h (.mk k)=k (.str (conP x kids)) h:=by
 rw[T.q27];unfold f27 conP;have hi:=zfm h0 h1
 by_cases c1:0<kids.length
 ·rw[if_pos c1];simp (disch:=first|omega|simp only[zD]<;>omega|assumption) only[↓zR,↓zRM,zR,zRM,reduceAdd,reduceMul,reduceToNat,↓f27_J2,L.w29,hs.len,L.w42 n hs]
 ·rw[if_neg c1,List.append_nil];simp (disch:=first|omega|simp only[zD]<;>omega|assumption) only[↓zR,↓zRM,zR,zRM,reduceAdd,reduceMul,reduceToNat,↓f27_J2,L.w29,hs.len]
end
end Am.F
end
section
namespace Am.F
open Go Am
def digC(s:List UInt8)(k:Nat):Prop:=k<s.length/\k<6/\48<=bt s k/\bt s k<=57/\(k=0\/bt s 0≠48)
instance (s:List UInt8) (k:Nat):Decidable (digC s k):=by unfold digC;infer_instance
def digF(s:List UInt8):Nat->Nat->Nat->Nat × Nat
 | 0,x,k=>(x,k)
 | f+1,x,k=>if digC s k then digF s f (10*x+(bt s k-48)) (k+1) else (x,k)
def dig(s:List UInt8):Nat × Nat:=digF s 7 0 0
theorem zkM(s:List UInt8):∀(f x k:Nat),k<=6->k<=s.length->x<10 ^ k->(digF s f x k).2<=6/\(digF s f x k).2<=s.length/\(digF s f x k).1<10 ^ (digF s f x k).2
 | 0,x,k,h1,h2,h3=>⟨h1,h2,h3⟩
 | f+1,x,k,h1,h2,h3=>by
  unfold digF;split
  ·rename_i hc;obtain⟨c1,c2,c3,c4,_⟩:=hc;exact zkM s f _ _ (by omega) (by omega) (by rw[Nat.pow_succ];omega)
  ·exact⟨h1,h2,h3⟩
theorem dig_bd(s:List UInt8):(dig s).2<=6/\(dig s).2<=s.length/\(dig s).1<1000000:=by
 obtain⟨h1,h2,h3⟩:=zkM s 7 0 0 (by omega) (by omega) (by decide);refine⟨h1,h2,Nat.lt_of_lt_of_le h3 ?_⟩;exact Nat.pow_le_pow_right (by decide) h1
structure Ct where
 kind:Int
 num:Int
 kids:List (List UInt8)
 to:Nat
section
variable {β:Type} {t:ETree}
theorem GA.w30(T:GA t)(n:Nat)(x a b:Int)(h:H)(k:K β):qCall (ze t stdI (n+1)) (.fn 30 []) [.int .i64 x,.int .i64 a,.int .i64 b] h (.mk k)=k (.bool (decide (a<=x/\x<=b))) h:=by
 rw[T.q30];unfold f30
 by_cases h1:a<=x<;>simp (disch:=first|omega|simp only[zD]<;>omega|assumption) only[↓zR,↓zRM,zR,zRM,reduceAdd,reduceMul,reduceToNat,h1]
theorem GA.w41(T:GA t)(n:Nat)(x:Int)(h:H)(k:K β):qCall (ze t stdI (n+2)) (.fn 41 []) [.int .i64 x] h (.mk k)=k (.bool (decide (-32768<=x/\x<=32767))) h:=by
 rw[T.q41];unfold f41;simp (disch:=first|omega|simp only[zD]<;>omega|assumption) only[↓zR,↓zRM,zR,zRM,reduceAdd,reduceMul,reduceToNat,T.w30]
end
end Am.F
end
section
namespace Am.F
open Go Am
section
variable {β:Type}
theorem zcq:∀s:List UInt8,za4 (zak s)=some s
 | []=>rfl
 | b::s=>by
  show (za4 (zak s)).map (UInt8.ofNat (b.toNat:Int).toNat::·)=_;rw[zcq s,Int.toNat_natCast];simp
theorem SlAt.b2s{h:H}{v:AV}{s:List UInt8}(hs:SlAt h v (zak s))(k:VK β):qB2s v h (.mk k)=k (.str s):=by
 rcases hs with⟨rfl,h1⟩|⟨b,o,m,g,us,rfl,h2,h3,h4,h5⟩
 ·cases s with
  | nil=>rfl
  | cons b s=>cases h1
 ·show (cells h b λcs=>cond (Nat.ble (Nat.add o (zak s).length) (lenF cs)) (zav (za4 (zbq (zak s).length (zbZ o cs))) λs=>k (.str s)) none)=_;rw[zax,h3,zbj,zA,ble_eq,decide_eq_true (by show o+(zak s).length<=_;omega),zX,zab,h4,zcq];rfl
theorem SlAt.src{h:H}{v:AV}{cs:List AV}(hs:SlAt h v cs)(c:Nat->List AV->Option β):fSrc 1 v h c=c cs.length cs:=by
 rcases hs with⟨rfl,rfl⟩|⟨b,o,m,g,us,rfl,h2,h3,h4,h5⟩
 ·rfl
 ·show (cells h b λus=>cond (Nat.ble (Nat.add o (Nat.mul cs.length 1)) (lenF us)) (c cs.length (zbq (Nat.mul cs.length 1) (zbZ o us))) none)=_;rw[zax,h3,zbj,zA,ble_eq,Nat.mul_eq,Nat.mul_one,decide_eq_true (by show o+cs.length<=_;omega),zX,zab,h4];rfl
variable {t:ETree}
theorem zeH{xs:List (List UInt8)}{j:Nat}(hj:j<xs.length):xs.take (j+1)=xs.take j++[xs.getD j []]:=by
 rw[List.take_succ_eq_append_getElem hj];simp[List.getD_eq_getElem?_getD,hj]
theorem GA.w15(T:GA t)(n:Nat){xs ys:List (List UInt8)}{v u:AV}{h:H}(hs:SlAt h v (strs xs))(hu:SlAt h u (strs ys))(hn:xs.length+2<=n)(hl:xs.length<=9223372036854775807)(k:K β):qCall (ze t stdI n) (.fn 15 []) [v,u] h (.mk k)=k (.bool (decide (xs=ys))) h:=by
 obtain⟨m,rfl⟩:∃m,n=m+1:=⟨n-1,by omega⟩
 rw[T.q15];unfold f15
 by_cases hlen:xs.length=ys.length
 ·simp (disch:=first|omega|simp only[zD]<;>omega|assumption) only[↓zR,↓zRM,zR,zRM,reduceAdd,reduceMul,reduceToNat,↓f15_J1,↓f15_J4,↓f15_J3,↓f15_L2,↓f15_J0,hs.len,hu.len];refine zaa 5 m _ _ (λi x0 x1 x2 x3 x4 h'=>h'=h/\x0=v/\x1=u/\∃j:Nat,x3 = .int .i64 (j:Int)/\j+i=xs.length/\xs.take j=ys.take j) xs.length (by omega) ?_ _ _ _ _ _ _ ⟨rfl,rfl,rfl,0,rfl,by omega,rfl⟩;intro l i ih x0 x1 x2 x3 x4 h' ⟨e0,q0,q1,j,q3,e1,e2⟩;subst e0 q0 q1 q3;cases i with
  | zero=>
   have e3:xs=ys:=by rw[List.take_of_length_le (by omega),List.take_of_length_le (by omega)] at e2;exact e2
   simp (disch:=first|omega|simp only[zD]<;>omega|assumption) only[↓zR,↓zRM,zR,zRM,reduceAdd,reduceMul,reduceToNat,↓f15_J1,↓f15_J4,↓f15_J3,↓f15_L2,↓f15_J0,hs.len,e3]
  | succ i=>
   have hj:j<xs.length:=by omega
   by_cases c1:xs.getD j []=ys.getD j []
   ·simp (disch:=first|omega|simp only[zD]<;>omega|assumption) only[↓zR,↓zRM,zR,zRM,reduceAdd,reduceMul,reduceToNat,↓f15_J1,↓f15_J4,↓f15_J3,↓f15_L2,↓f15_J0,hs.len,hs.loadS,hu.loadS,c1];exact ih i (by omega) _ _ _ _ _ _ ⟨rfl,rfl,rfl,j+1,congrArg (AV.int .i64) (by omega),by omega,by rw[zeH hj,zeH (xs:=ys) (j:=j) (by omega),e2,c1]⟩
   ·have e3:¬ xs=ys:=λq=>c1 (by rw[q])
    simp (disch:=first|omega|simp only[zD]<;>omega|assumption) only[↓zR,↓zRM,zR,zRM,reduceAdd,reduceMul,reduceToNat,↓f15_J1,↓f15_J4,↓f15_J3,↓f15_L2,↓f15_J0,hs.len,hs.loadS,hu.loadS,c1,e3]
 ·have e3:¬ xs=ys:=λq=>hlen (by rw[q])
  simp (disch:=first|omega|simp only[zD]<;>omega|assumption) only[↓zR,↓zRM,zR,zRM,reduceAdd,reduceMul,reduceToNat,↓f15_J1,↓f15_J4,↓f15_J3,↓f15_L2,↓f15_J0,hs.len,hu.len,e3]
theorem GA.w16(T:GA t)(n:Nat)(x:Int)(h:H)(k:K β):qCall (ze t stdI (n+1)) (.fn 16 []) [.int .i64 x] h (.mk k)=k (.int .i64 x) h:=by
 rw[T.q16];unfold f16;simp (disch:=first|omega|simp only[zD]<;>omega|assumption) only[↓zR,↓zRM,zR,zRM,reduceAdd,reduceMul,reduceToNat]
def NewAt(h:H)(lo:Nat)(v:AV)(cs:List AV):Prop:=∃b,lo<=b/\b<h.n/\h.get b = .own 0 cs/\(v = .sl b 0 cs.length cs.length none\/v = .sl b 0 cs.length cs.length (some 1)/\cs≠[])
theorem NewAt.sl{h:H}{lo:Nat}{v:AV}{cs:List AV}(hs:NewAt h lo v cs):SlAt h v cs:=by
 obtain⟨b,h1,h2,h3,rfl|⟨rfl,_⟩⟩:=hs
 ·exact .inr ⟨b,0,_,_,cs,rfl,h2,by rw[h3];rfl,by simp,by simp⟩
 ·exact .inr ⟨b,0,_,_,cs,rfl,h2,by rw[h3];rfl,by simp,by simp⟩
def zgL(h:H)(lo:Nat)(v:AV)(xs:List (List UInt8)):Prop :=
 ∃b,lo<=b/\b<h.n/\v = .sl b 0 xs.length (xs.length+2) (some 1)/\h.get b = .own 0 (strs xs++[.str [126,114,111,111,109],.str [126,98,101,104,105,110,100]])
theorem zgL.sl{h:H}{lo:Nat}{v:AV}{xs:List (List UInt8)}(hs:zgL h lo v xs):SlAt h v (strs xs):=by
 obtain⟨b,h1,h2,rfl,h3⟩:=hs;refine .inr ⟨b,0,_,_,_,by rw[zb4],h2,by rw[h3];rfl,by simp,by simp[zb4]⟩
theorem zgL.keep{h h':H}{lo:Nat}{v:AV}{xs:List (List UInt8)}(hs:zgL h lo v xs)(hn:h.n<=h'.n)(hg:∀i,lo<=i->i<h.n->h'.get i=h.get i):zgL h' lo v xs:=by
 obtain⟨b,h1,h2,h3,h4⟩:=hs;exact⟨b,h1,by omega,h3,by rw[hg b h1 h2];exact h4⟩
end
end Am.F
end
