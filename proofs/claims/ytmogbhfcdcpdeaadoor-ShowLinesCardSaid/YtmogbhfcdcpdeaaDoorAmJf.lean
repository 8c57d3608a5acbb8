/- Texts that belong together: no condition. -/
import Derived.Test.YtmogbhfcdcpdeaaDoorAmJd
import Derived.Test.YtmogbhfcdcpdeaaDoorAmJe
open Nat (reduceAdd reduceMul)
open Int (reduceToNat)
set_option maxRecDepth 100000
set_option linter.unusedVariables false
set_option linter.unusedSimpArgs false
set_option linter.defProp false
section
namespace Am.F
open Go Am
def stop(b:UInt8):Bool:=b==32||b==40||b==41
def wA(s:List UInt8):List UInt8:=s.takeWhile λb=>!stop b
def wB(s:List UInt8):List UInt8:=s.dropWhile λb=>!stop b
def numX(w:List UInt8):Int:=match Lib.atoiAll w with
 | .ok x=>x
 | .range=>Lib.atoiSat w
 | _=>0
def okX(w:List UInt8):Bool:=match Lib.atoiAll w with
 | .ok _=>true
 | _=>false
def numP(w:List UInt8):Bool:=decide (okX w=true/\(-32768<=numX w/\numX w<=32767)/\Lib.itoa (numX w)=w)
def digP(most:Int)(w:List UInt8):Bool:=decide (okX w=true/\(0<=numX w/\numX w<=most)/\Lib.itoa (numX w)=w)
def tagP(w:List UInt8):Bool:=decide ([64] <+: w)&&digP 99 (w.drop 1)
def tagX(w:List UInt8):Int:=numX (if [64] <+: w then w.drop 1 else w)
structure Tm where
 kind:Int
 num:Int
 kids:List (List UInt8)
 rest:List UInt8
def closeP(x:Int)(kids:List (List UInt8))(r:List UInt8):Option Tm:=if [41] <+: r then some ⟨2,x,kids,r.drop 1⟩ else none
def cutK(cut:List UInt8->Option Tm)(x:Int):Nat->List (List UInt8)->List UInt8->Option Tm
 | 0,kids,r=>closeP x kids r
 | m+1,kids,r=>match cut (r.drop 1) with
  | none=>none
  | some t=>if [32] <+: t.rest then cutK cut x m (kids++[(r.drop 1).take ((r.drop 1).length-t.rest.length)]) t.rest
   else closeP x (kids++[(r.drop 1).take ((r.drop 1).length-t.rest.length)]) t.rest
def cutP:Nat->List UInt8->Option Tm
 | 0,_=>none
 | f+1,s=>
  if wA s=[95] then some ⟨0,0,[],wB s⟩
  else if wA s=[33] then some ⟨3,0,[],wB s⟩
  else if numP (wA s)=true then some ⟨1,numX (wA s),[],wB s⟩
  else if tagP (wA s)=true then (if [40] <+: wB s then cutK (cutP f) (tagX (wA s)) 3 [] (wB s) else some ⟨2,tagX (wA s),[],wB s⟩)
  else none
section
variable {β:Type} {t:ETree}
theorem pSlS_hi{s:List UInt8}{kd:IntKind}{i:Int}(h0:0<=i)(h1:i<=s.length)(k:VK β):pSlS false true (.str s) [.int kd i] k=k (.str (s.take i.toNat)):=by
 obtain⟨j,rfl⟩:=Int.eq_ofNat_of_zero_le h0;have hb:zRq9 false true false [.int kd (j:Int)] s.length s.length=some (0,j,s.length):=by
  simp only[zRq9,zJ,if_pos h0,Option.bind_some,Int.toNat_natCast];rw[if_pos (by omega)]
 simp only[pSlS,aStr,bnd,zf,hb,zG,zA,zE,List.drop_zero,Int.toNat_natCast]
theorem pSlS_lo{s:List UInt8}{kd:IntKind}{i:Int}(h0:0<=i)(h1:i<=s.length)(k:VK β):pSlS true false (.str s) [.int kd i] k=k (.str (s.drop i.toNat)):=by
 obtain⟨j,rfl⟩:=Int.eq_ofNat_of_zero_le h0;have hb:zRq9 true false false [.int kd (j:Int)] s.length s.length=some (j,s.length,s.length):=by
  simp only[zRq9,zJ,if_pos h0,Option.bind_some,Int.toNat_natCast];rw[if_pos (by omega)]
 simp only[pSlS,aStr,bnd,zf,hb,zG,zA,zE,List.take_length,Int.toNat_natCast]
theorem pSlS_lh{s:List UInt8}{kd kd':IntKind}{i i':Int}(h0:0<=i)(h1:i<=i')(h2:i'<=s.length)(k:VK β):pSlS true true (.str s) [.int kd i,.int kd' i'] k=k (.str ((s.take i'.toNat).drop i.toNat)):=by
 obtain⟨j,rfl⟩:=Int.eq_ofNat_of_zero_le h0;obtain⟨j',rfl⟩:=Int.eq_ofNat_of_zero_le (show 0<=i' by omega);have hb:zRq9 true true false [.int kd (j:Int),.int kd' (j':Int)] s.length s.length=some (j,j',s.length):=by
  simp only[zRq9,zJ,if_pos h0,if_pos (show (0:Int)<=(j':Int) by omega),Option.bind_some,Int.toNat_natCast];rw[if_pos (by omega)]
 simp only[pSlS,aStr,bnd,zf,hb,zG,zA,zE,Int.toNat_natCast]
theorem sls{β:Type}:(∀{s:List UInt8} {kd:IntKind} {i:Int},0<=i->i<=s.length->∀k:VK β,qSlS false true (.str s) [.int kd i] (.mk k)=k (.str (s.take i.toNat))) /\
  (∀{s:List UInt8} {kd:IntKind} {i:Int},0<=i->i<=s.length->∀k:VK β,qSlS true false (.str s) [.int kd i] (.mk k)=k (.str (s.drop i.toNat))) /\
  ∀{s:List UInt8} {kd kd':IntKind} {i i':Int},0<=i->i<=i'->i'<=s.length->∀k:VK β,qSlS true true (.str s) [.int kd i,.int kd' i'] (.mk k)=k (.str ((s.take i'.toNat).drop i.toNat)) :=
 ⟨pSlS_hi,pSlS_lo,pSlS_lh⟩
theorem GA.w28(T:GA t)(n:Nat)(x:Int)(h:H)(k:K β):qCall (zc t stdI (n+1)) (.fn 28 []) [.int .i64 x] h (.mk k)=k (.bool (decide (-32768<=x/\x<=32767))) h:=by
 rw[T.q28];unfold f28
 by_cases h1:-32768<=x
 ·simp (disch:=first|omega|simp only[zD]<;>omega|assumption) only[↓zR,↓zRM,zR,zRM,reduceAdd,reduceMul,reduceToNat,h1,true_and]
 ·simp (disch:=first|omega|simp only[zD]<;>omega|assumption) only[↓zR,↓zRM,zR,zRM,reduceAdd,reduceMul,reduceToNat,h1,false_and,decide_false]
end
end Am.F
end
section
namespace Am.F
open Go Am
def termP(s:List UInt8):Option Tm:=if s.length<=1024 then (match cutP (s.length+1) s with
 | some t=>if t.rest=[] then some t else none
 | none=>none) else none
def mayP(s:List UInt8):Bool:=(termP s).isSome
def conP(x:Int)(kids:List (List UInt8)):List UInt8:=[64]++Lib.itoa x++(if 0<kids.length then [40]++Lib.join kids [32]++[41] else [])
theorem zaM:∀(k u:Nat),u<10 ^ (k+1)->(Lib.decDigits u).length<=k+1
 | 0,u,h=>by rw[Lib.decDigits,dif_pos (by simpa using h)];simp
 | k+1,u,h=>by
  rw[Lib.decDigits];split
  ·simp
  ·rw[List.length_append];have:=zaM k (u / 10) (by rw[Nat.pow_succ] at h;omega)
   simp only[List.length_cons,List.length_nil];omega
theorem zaL{x:Int}(h0:-9223372036854775808<=x)(h1:x<=9223372036854775807):(Lib.itoa x).length<=20:=by
 unfold Lib.itoa;split
 ·have:=zaM 18 x.natAbs (by omega)
  simp only[List.length_cons];omega
 ·have:=zaM 18 x.toNat (by omega)
  omega
section
variable {β:Type} {t:ETree}
end
end Am.F
end
section
namespace Am.F
open Go Am
def digC(s:List UInt8)(k:Nat):Prop:=k<s.length/\k<6/\48<=bt s k/\bt s k<=57/\(k=0\/bt s 0≠48)
instance (s:List UInt8) (k:Nat):Decidable (digC s k):=by unfold digC;infer_instance
def digF(s:List UInt8):Nat->Nat->Nat->Nat × Nat
 | 0,x,k=>(x,k)
 | f+1,x,k=>if digC s k then digF s f (10*x+(bt s k-48)) (k+1) else (x,k)
def dig(s:List UInt8):Nat × Nat:=digF s 7 0 0
structure Ct where
 kind:Int
 num:Int
 kids:List (List UInt8)
 to:Nat
section
variable {β:Type} {t:ETree}
theorem GA.w30(T:GA t)(n:Nat)(x a b:Int)(h:H)(k:K β):qCall (zc t stdI (n+1)) (.fn 30 []) [.int .i64 x,.int .i64 a,.int .i64 b] h (.mk k)=k (.bool (decide (a<=x/\x<=b))) h:=by
 rw[T.q30];unfold f30
 by_cases h1:a<=x<;>simp (disch:=first|omega|simp only[zD]<;>omega|assumption) only[↓zR,↓zRM,zR,zRM,reduceAdd,reduceMul,reduceToNat,h1]
theorem GA.w41(T:GA t)(n:Nat)(x:Int)(h:H)(k:K β):qCall (zc t stdI (n+2)) (.fn 41 []) [.int .i64 x] h (.mk k)=k (.bool (decide (-32768<=x/\x<=32767))) h:=by
 rw[T.q41];unfold f41;simp (disch:=first|omega|simp only[zD]<;>omega|assumption) only[↓zR,↓zRM,zR,zRM,reduceAdd,reduceMul,reduceToNat,T.w30]
end
end Am.F
end
section
namespace Am.F
open Go Am
theorem zbR{x:Int}(h:0<=x)(h':x<18446744073709551616):IntKind.u64.wrap x=x:=by
 unfold IntKind.wrap;simp only[show IntKind.u64.bits=64 from rfl,show IntKind.u64.signed=false from rfl];have:x%18446744073709551616=x:=Int.emod_eq_of_lt h h'
 simpa using this
section
variable {β:Type}
theorem zgV(u:Nat)(k:VK β):qBin .rem (.int .u64 (u:Int)) (.int .u64 10) (.mk k)=k (.int .u64 ((u%10:Nat):Int)):=by
 show pBin .rem _ _ k=_;simp only[pBin,aInt,zN,beq_self_eq_true,cond_true,binI];rw[if_neg (by decide)];show k _=_;congr 2
theorem zdV{u:Nat}(hu:u<18446744073709551616)(k:VK β):qBin .quo (.int .u64 (u:Int)) (.int .u64 10) (.mk k)=k (.int .u64 ((u / 10:Nat):Int)):=by
 show pBin .quo _ _ k=_;simp only[pBin,aInt,zN,beq_self_eq_true,cond_true,binI];rw[if_neg (by decide)];show k (.int .u64 (IntKind.u64.wrap ((u:Int).tdiv 10)))=_;rw[show (u:Int).tdiv 10=((u / 10:Nat):Int) from rfl,zbR (by omega) (by omega)]
theorem zbN:∀s:List UInt8,zav (zp s)=some s
 | []=>rfl
 | b::s=>by
  show (zav (zp s)).map (UInt8.ofNat (b.toNat:Int).toNat::·)=_;rw[zbN s,Int.toNat_natCast];simp
theorem zU(s:List UInt8):(zp s).length=s.length:=by simp[zp]
theorem SlAt.b2s{h:H}{v:AV}{s:List UInt8}(hs:SlAt h v (zp s))(k:VK β):qB2s v h (.mk k)=k (.str s):=by
 rcases hs with⟨rfl,h1⟩|⟨b,o,m,g,us,rfl,h2,h3,h4,h5⟩
 ·cases s with
  | nil=>rfl
  | cons b s=>cases h1
 ·show (cells h b λcs=>cond (Nat.ble (Nat.add o (zp s).length) (lenF cs)) (z7 (zav (zbs (zp s).length (zbZ o cs))) λs=>k (.str s)) none)=_;rw[zbb,h3,zbf,zf,ble_eq,decide_eq_true (by show o+(zp s).length<=_;omega),zA,zE,h4,zbN];rfl
theorem SlAt.src{h:H}{v:AV}{cs:List AV}(hs:SlAt h v cs)(c:Nat->List AV->Option β):fSrc 1 v h c=c cs.length cs:=by
 rcases hs with⟨rfl,rfl⟩|⟨b,o,m,g,us,rfl,h2,h3,h4,h5⟩
 ·rfl
 ·show (cells h b λus=>cond (Nat.ble (Nat.add o (Nat.mul cs.length 1)) (lenF us)) (c cs.length (zbs (Nat.mul cs.length 1) (zbZ o us))) none)=_;rw[zbb,h3,zbf,zf,ble_eq,Nat.mul_eq,Nat.mul_one,decide_eq_true (by show o+cs.length<=_;omega),zA,zE,h4];rfl
theorem zdt{h:H}{b m bytes:Nat}{x:AV}{cs new:List AV}{k:K β}{R:Option β}(hb:h.get b = .own 0 cs)(hm:cs.length=m)(hx:SlAt h x new)(hr:cs.length+new.length<room/\bytes<=1024)
  (H0:new=[]->k (.sl b 0 m m none) h=R)
  (H1:new≠[]->k (.sl h.n 0 (m+new.length) (m+new.length) (some 1)) (h.push (.own 0 (cs++new)))=R):fApp 0 1 bytes (.sl b 0 m m none) x h k=R:=by
 unfold fApp;rw[hx.src]
 by_cases hn:new=[]
 ·subst hn;simp (disch:=omega) only [zdI,aSl,zG,ble_eq,beq_eq,zbA,zbW,Nat.add_eq,List.length_nil,Nat.add_zero];exact H0 rfl
 ·have hl:0<new.length:=List.length_pos_iff.2 hn;obtain⟨hr1,hr2⟩:=hr;have e:appF (zbs m (zbZ 0 cs)) new=cs++new:=by
   rw[zaw,zA,zE,List.drop_zero,List.take_of_length_le (by omega)]
  simp (disch:=omega) only [zdI,aSl,zG,ble_eq,beq_eq,zbA,zbW,Nat.add_eq,Nat.mul_eq,Nat.mul_one,Nat.zero_add,Nat.succ_eq_add_one,zbb,hb,zdy,zbf,zf,zgh,e];exact H1 hn
variable {t:ETree}
theorem zeV(b:UInt8)(s:List UInt8):zp (b::s) = .int .u8 b.toNat::zp s:=rfl
theorem GA.w22(T:GA t)(n:Nat)(hn:24<=n)(x:Int)(h0:-9223372036854775808<=x)(h1:x<9223372036854775808)(h:H):Sp (β:=β) (zc t stdI n (.fn 22 []) [.int .i64 x] h) λv h'=>Ext h h'/\v = .str (Lib.itoa x):=by
 intro k R hk;obtain⟨m,rfl⟩:∃m,n=m+1:=⟨n-1,by omega⟩
 have key:∀(u:Nat),u<10 ^ 20->u<18446744073709551616->Lib.itoa x=(if x<0 then 45::Lib.decDigits u else Lib.decDigits u)->∀x1 x3,f22_J1 m k (.int .i64 x) x1 (.int .u64 (u:Int)) x3 h=R:=by
  intro u hu hu' hx x1 x3;simp (disch:=first|omega|simp only[zD]<;>omega|assumption) only[↓zR,↓zRM,zR,zRM,reduceAdd,reduceMul,reduceToNat,↓f22_J3,↓f22_J2,↓f22_J9,↓f22_L8,↓f22_J1];refine z6 4 m _ _ (λi x0 x1 x2 x3 h'=>Ext h h'/\x0 = .int .i64 x/\∃(w:Nat) (bs:List UInt8),x2 = .int .u64 (w:Int)/\SlAt h' x3 (zp bs)/\bs.length+i=20/\w<10 ^ i/\w<=u /\
   Lib.decDigits u=if 0<w\/bs=[] then Lib.decDigits w++bs else bs) 20 (by omega) ?_ _ _ _ _ _ ⟨Ext.refl _,rfl,u,[],rfl,SlAt.nil _,rfl,hu,Nat.le_refl _,by rw[if_pos (.inr rfl),List.append_nil]⟩
  intro l i ih x0 x1 x2 x3 h' ⟨e1,q0,w,bs,q2,e2,e3,e4,e5,e6⟩;subst q0 q2;have hlen:=e2.len (β:=β)
  by_cases hc:0<w\/bs=[]
  ·rw[if_pos hc] at e6;obtain⟨i,rfl⟩:∃i',i=i'+1:=by
    cases i with
    | zero=>
     exfalso
     have:w=0:=by simpa using e4
     rcases hc with hc|hc
     ·omega
     ·subst hc;simp at e3
    | succ i=>exact⟨i,rfl⟩
   have hd:(UInt8.ofNat (48+w%10)).toNat=48+w%10:=by
    rw[UInt8.toNat_ofNat'];omega
   have hgo:l (.int .i64 x) .any (.int .u64 (w:Int)) x3 h'=R->True:=λ_=>trivial
   have hround:f22_J9 l (.int .i64 x) .any (.int .u64 (w:Int)) x3 h'=R:=by
    have hw1:IntKind.u64.wrap (48+((w%10:Nat):Int))=48+((w%10:Nat):Int):=zbR (by omega) (by omega);have hw2:IntKind.u8.wrap (48+((w%10:Nat):Int))=48+((w%10:Nat):Int):=wrap_u8 (by omega) (by omega);simp (disch:=omega) only [↓f22_J9,↓zgV,↓zdU,↓hw1];have hcv:∀(kk:VK β),zfH .u8 (.int .u64 (48+((w%10:Nat):Int))) (.mk kk)=kk (.int .u8 (48+((w%10:Nat):Int))):=λkk=>by
     show zed _ _ _=_;rw[zde,hw2]
    simp only[↓hcv];simp (disch:=first|omega|simp only[zD]<;>omega|assumption) only[↓zR,↓zRM,zR,zRM,reduceAdd,reduceMul,reduceToNat];have e7:SlAt (h'.push (.own 0 [.int .u8 (48+((w%10:Nat):Int))])) x3 (zp bs):=e2.ext ((Ext.refl _).push _);have e8:Lib.decDigits u=if 0<w / 10\/(UInt8.ofNat (48+w%10)::bs)=[] then Lib.decDigits (w / 10)++UInt8.ofNat (48+w%10)::bs else UInt8.ofNat (48+w%10)::bs:=by
     rw[e6,Lib.decDigits]
     by_cases h10:w<10
     ·rw[dif_pos h10,if_neg (by simp;omega),Nat.mod_eq_of_lt h10];rfl
     ·rw[dif_neg h10,if_pos (.inl (by omega)),List.append_assoc];rfl
    have e9:[AV.int .u8 (48+((w%10:Nat):Int))]++zp bs=zp (UInt8.ofNat (48+w%10)::bs):=by
     rw[zeV,hd];congr 2
    refine zdt (cs:=[.int .u8 (48+((w%10:Nat):Int))]) (zg rfl) rfl e7 ?_ ?_ ?_
    ·rw[zU];simp only[List.length_cons,List.length_nil];unfold room;omega
    ·intro hnil;have:bs=[]:=by cases bs with|nil=>rfl|cons=>cases hnil
     subst this;simp (disch:=omega) only [↓zdV];exact ih i (by omega) _ _ _ _ _ ⟨(by repeat (first|exact Ext.refl _|assumption|refine Ext.push ?_ _|refine Ext.set ?_ (by first|omega|(simp only[H.n_push,H.n_set];omega)) _)),rfl,_,_,rfl,.inr ⟨h'.n,0,1,none,[.int .u8 (48+((w%10:Nat):Int))],rfl,(by first|omega|(simp only[H.n_push,H.n_set];omega)),by rw[zg rfl];rfl,by rw[<- e9];rfl,by rw[<- e9];exact Nat.le_refl _⟩,by simp at e3 ⊢;omega,by rw[Nat.pow_succ] at e4;omega,by omega,e8⟩
    ·intro hne;simp (disch:=omega) only [↓zdV];rw[e9];exact ih i (by omega) _ _ _ _ _ ⟨(by repeat (first|exact Ext.refl _|assumption|refine Ext.push ?_ _|refine Ext.set ?_ (by first|omega|(simp only[H.n_push,H.n_set];omega)) _)),rfl,_,_,rfl,.inr ⟨h'.n+1,0,1+(zp bs).length,some 1,_,by rw[H.n_push,zU,zU,List.length_cons,Nat.add_comm bs.length 1],by rw[H.n_push,H.n_push];omega,by rw[zg (by rw[H.n_push])];rfl,by simp,by simp⟩,by rw[List.length_cons];omega,by rw[Nat.pow_succ] at e4;omega,by omega,e8⟩
   by_cases hw:0<w
   ·simp (disch:=first|omega|simp only[zD]<;>omega|assumption) only[↓zR,↓zRM,zR,zRM,reduceAdd,reduceMul,reduceToNat,↓f22_L8];exact hround
   ·have hb:bs=[]:=by rcases hc with hc|hc;exact absurd hc hw;exact hc
    subst hb;simp (disch:=first|omega|simp only[zD]<;>omega|assumption) only[↓zR,↓zRM,zR,zRM,reduceAdd,reduceMul,reduceToNat,↓f22_L8,hlen,zU];exact hround
  ·rw[if_neg hc] at e6;have hw:w=0:=by omega
   have hbn:bs≠[]:=λq=>hc (.inr q)
   have hbl:0<bs.length:=List.length_pos_iff.2 hbn;rw[e6] at hx
   by_cases hneg:x<0
   ·rw[if_pos hneg] at hx;simp (disch:=first|omega|simp only[zD]<;>omega|assumption) only[↓zR,↓zRM,zR,zRM,reduceAdd,reduceMul,reduceToNat,↓f22_J3,↓f22_J2,↓f22_J9,↓f22_L8,↓f22_J1,hlen,zU];have e7:SlAt (h'.push (.own 0 [.int .u8 45])) x3 (zp bs):=e2.ext ((Ext.refl _).push _);refine zdt (cs:=[.int .u8 45]) (zg rfl) rfl e7 ?_ ?_ ?_
    ·rw[zU];simp only[List.length_cons,List.length_nil];unfold room;omega
    ·intro hnil;cases bs with
     | nil=>exact absurd rfl hbn
     | cons=>cases hnil
    ·intro _;have e9:[AV.int .u8 45]++zp bs=zp (45::bs):=rfl;rw[e9];have e10:SlAt ((h'.push (.own 0 [.int .u8 45])).push (.own 0 (zp (45::bs)))) (.sl (h'.n+1) 0 (1+(zp bs).length) (1+(zp bs).length) (some 1)) (zp (45::bs)) :=
      .inr ⟨_,0,_,_,_,by rw[zU,zU,List.length_cons,Nat.add_comm bs.length 1],(by first|omega|(simp only[H.n_push,H.n_set];omega)),by rw[zg (by rw[H.n_push])];rfl,by simp,by simp⟩
     simp (disch:=first|omega|simp only[zD]<;>omega|assumption) only[↓zR,↓zRM,zR,zRM,reduceAdd,reduceMul,reduceToNat,↓f22_J3,↓f22_J2,↓f22_J9,↓f22_L8,↓f22_J1,e10.b2s];exact hk _ _ ⟨(by repeat (first|exact Ext.refl _|assumption|refine Ext.push ?_ _|refine Ext.set ?_ (by first|omega|(simp only[H.n_push,H.n_set];omega)) _)),by rw[hx]⟩
   ·rw[if_neg hneg] at hx;simp (disch:=first|omega|simp only[zD]<;>omega|assumption) only[↓zR,↓zRM,zR,zRM,reduceAdd,reduceMul,reduceToNat,↓f22_J3,↓f22_J2,↓f22_J9,↓f22_L8,↓f22_J1,hlen,zU,e2.b2s];exact hk _ _ ⟨e1,by rw[hx]⟩
 rw[T.c22];unfold f22
 by_cases hneg:x<0
 ·have k1:=key x.natAbs (by omega) (by omega) (by rw[Lib.itoa,if_pos hneg,if_pos hneg]);have w1:IntKind.u64.wrap (-(x+1)) = -(x+1):=zbR (by omega) (by omega);have w2:IntKind.u64.wrap (-(x+1)+1) = -(x+1)+1:=zbR (by omega) (by omega);have w3:-(x+1)+1=(x.natAbs:Int):=by omega
  have hcv:∀(z:Int) (kk:VK β),zfH .u64 (.int .i64 z) (.mk kk)=kk (.int .u64 (IntKind.u64.wrap z)):=λz kk=>by
   show zed _ _ _=_;rw[zde]
  simp (disch:=omega) only [↓zR,↓zRM,zR,zRM,hcv,w1];have w4:IntKind.u64.wrap (x.natAbs:Int)=(x.natAbs:Int):=zbR (by omega) (by omega);simp only[↓zdU,w3,w4,nth0,nthS,nthN];exact k1 _ _
 ·have k1:=key x.toNat (by omega) (by omega) (by rw[Lib.itoa,if_neg hneg,if_neg hneg]);have w1:IntKind.u64.wrap x=(x.toNat:Int):=by rw[zbR (by omega) (by omega)];omega
  have hcv:∀(z:Int) (kk:VK β),zfH .u64 (.int .i64 z) (.mk kk)=kk (.int .u64 (IntKind.u64.wrap z)):=λz kk=>by
   show zed _ _ _=_;rw[zde]
  simp (disch:=omega) only [↓zR,↓zRM,zR,zRM,hcv,w1];exact k1 _ _
theorem GA.w16(T:GA t)(n:Nat)(x:Int)(h:H)(k:K β):qCall (zc t stdI (n+1)) (.fn 16 []) [.int .i64 x] h (.mk k)=k (.int .i64 x) h:=by
 rw[T.q16];unfold f16;simp (disch:=first|omega|simp only[zD]<;>omega|assumption) only[↓zR,↓zRM,zR,zRM,reduceAdd,reduceMul,reduceToNat]
def zcX(h:H)(lo:Nat)(v:AV)(cs:List AV):Prop:=∃b,lo<=b/\b<h.n/\h.get b = .own 0 cs/\(v = .sl b 0 cs.length cs.length none\/v = .sl b 0 cs.length cs.length (some 1)/\cs≠[])
theorem zcX.sl{h:H}{lo:Nat}{v:AV}{cs:List AV}(hs:zcX h lo v cs):SlAt h v cs:=by
 obtain⟨b,h1,h2,h3,rfl|⟨rfl,_⟩⟩:=hs
 ·exact .inr ⟨b,0,_,_,cs,rfl,h2,by rw[h3];rfl,by simp,by simp⟩
 ·exact .inr ⟨b,0,_,_,cs,rfl,h2,by rw[h3];rfl,by simp,by simp⟩
def LentAt(h:H)(lo:Nat)(v:AV)(xs:List (List UInt8)):Prop :=
 ∃b,lo<=b/\b<h.n/\v = .sl b 0 xs.length (xs.length+2) (some 1)/\h.get b = .own 0 (strs xs++[.str [126,114,111,111,109],.str [126,98,101,104,105,110,100]])
theorem LentAt.sl{h:H}{lo:Nat}{v:AV}{xs:List (List UInt8)}(hs:LentAt h lo v xs):SlAt h v (strs xs):=by
 obtain⟨b,h1,h2,rfl,h3⟩:=hs;refine .inr ⟨b,0,_,_,_,by rw[zaJ],h2,by rw[h3];rfl,by simp,by simp[zaJ]⟩
end
end Am.F
end
