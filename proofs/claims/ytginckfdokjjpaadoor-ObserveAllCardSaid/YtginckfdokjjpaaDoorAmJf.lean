/- Texts that belong together: no condition. -/
import Derived.Test.YtginckfdokjjpaaDoorAmJd
import Derived.Test.YtginckfdokjjpaaDoorAmJe
open Nat (reduceAdd reduceMul)
open Int (reduceToNat)
set_option maxRecDepth 100000
set_option linter.unusedVariables false
set_option linter.unusedSimpArgs false
set_option linter.defProp false
section
namespace Am.F
open Go Am
def stop(b:UInt8):Bool:=b==32||b==40||b==41
def wA(s:List UInt8):List UInt8:=s.takeWhile λb=>!stop b
def wB(s:List UInt8):List UInt8:=s.dropWhile λb=>!stop b
theorem zif(s:List UInt8):wA s++wB s=s:=List.takeWhile_append_dropWhile
theorem zih(s:List UInt8):(wA s).length<=s.length:=by
 have:=congrArg List.length (zif s);rw[List.length_append] at this;omega
theorem wB_len(s:List UInt8):(wB s).length<=s.length:=by
 have:=congrArg List.length (zif s);rw[List.length_append] at this;omega
theorem zig(s:List UInt8):s.take (wA s).length=wA s:=by
 conv=>lhs;arg 2;rw[<- zif s]
 exact List.take_left
theorem zie(s:List UInt8):s.drop (wA s).length=wB s:=by
 conv=>lhs;arg 2;rw[<- zif s]
 exact List.drop_left
theorem zd4:∀s:List UInt8,Lib.indexAny s [32,40,41]=if (wA s).length<s.length then ((wA s).length:Int) else -1
 | []=>rfl
 | b::s=>by
  have ih:=zd4 s;have hc:[32,40,41].contains b=stop b:=by simp only[stop,List.contains_cons,List.contains_nil,Bool.or_false,Bool.or_assoc]
  rw[Lib.indexAny,hc];cases hb:stop b with
  | true=>simp[wA,hb]
  | false=>
   have:(wA (b::s)).length=(wA s).length+1:=by simp[wA,hb]
   rw[this,ih];have:=zih s
   by_cases h1:(wA s).length<s.length
   ·have h3:¬ (((wA s).length:Int) = -1):=by omega
    simp[h1,h3]
   ·simp[h1]
def numX(w:List UInt8):Int:=match Lib.atoiAll w with
 | .ok x=>x
 | .range=>Lib.atoiSat w
 | _=>0
def okX(w:List UInt8):Bool:=match Lib.atoiAll w with
 | .ok _=>true
 | _=>false
def numP(w:List UInt8):Bool:=decide (okX w=true/\(-32768<=numX w/\numX w<=32767)/\Lib.itoa (numX w)=w)
def digP(most:Int)(w:List UInt8):Bool:=decide (okX w=true/\(0<=numX w/\numX w<=most)/\Lib.itoa (numX w)=w)
def tagP(w:List UInt8):Bool:=decide ([64] <+: w)&&digP 99 (w.drop 1)
def tagX(w:List UInt8):Int:=numX (if [64] <+: w then w.drop 1 else w)
theorem zhx(w:List UInt8):∃e,zdD w = .tup [.int .i64 (numX w),e]/\((okX w=true/\e = .nili)\/(okX w=false/\e = .opq)):=by
 unfold zdD numX okX;cases Lib.atoiAll w<;>exact⟨_,rfl,by simp⟩
theorem zi1(w:List UInt8):-9223372036854775808<=numX w/\numX w<=9223372036854775807:=by
 unfold numX;cases h:Lib.atoiAll w with
 | ok x=>
  show -9223372036854775808<=x/\x<=9223372036854775807;cases w with
  | nil=>cases h
  | cons c r=>
   simp only[Lib.atoiAll] at h;split at h
   ·cases h
   ·cases h
   ·rename_i u hu;split at h
    ·cases h
    ·split at h
     ·cases h
     ·cases h;split<;>omega
 | range=>show -9223372036854775808<=Lib.atoiSat w/\Lib.atoiSat w<=9223372036854775807;unfold Lib.atoiSat;split<;>omega
 | _=>show (-9223372036854775808:Int)<=0/\(0:Int)<=9223372036854775807;omega
structure Tm where
 kind:Int
 num:Int
 kids:List (List UInt8)
 rest:List UInt8
def zbZ(x:Int)(kids:List (List UInt8))(r:List UInt8):Option Tm:=if [41] <+: r then some ⟨2,x,kids,r.drop 1⟩ else none
def cutK(cut:List UInt8->Option Tm)(x:Int):Nat->List (List UInt8)->List UInt8->Option Tm
 | 0,kids,r=>zbZ x kids r
 | m+1,kids,r=>match cut (r.drop 1) with
  | none=>none
  | some t=>if [32] <+: t.rest then cutK cut x m (kids++[(r.drop 1).take ((r.drop 1).length-t.rest.length)]) t.rest
   else zbZ x (kids++[(r.drop 1).take ((r.drop 1).length-t.rest.length)]) t.rest
def cutP:Nat->List UInt8->Option Tm
 | 0,_=>none
 | f+1,s=>
  if wA s=[95] then some ⟨0,0,[],wB s⟩
  else if wA s=[33] then some ⟨3,0,[],wB s⟩
  else if numP (wA s)=true then some ⟨1,numX (wA s),[],wB s⟩
  else if tagP (wA s)=true then (if [40] <+: wB s then cutK (cutP f) (tagX (wA s)) 3 [] (wB s) else some ⟨2,tagX (wA s),[],wB s⟩)
  else none
theorem zdx{x:Int}{kids:List (List UInt8)}{r:List UInt8}{t:Tm}(h:zbZ x kids r=some t):t.rest.length<=r.length:=by
 unfold zbZ at h;split at h
 ·cases h;simp
 ·cases h
theorem zfP{cut:List UInt8->Option Tm}(hc:∀s t,cut s=some t->t.rest.length<=s.length){x:Int}:∀(m:Nat) {kids:List (List UInt8)} {r:List UInt8} {t:Tm},cutK cut x m kids r=some t->t.rest.length<=r.length
 | 0,kids,r,t,h=>zdx h
 | m+1,kids,r,t,h=>by
  simp only[cutK] at h;split at h
  ·cases h
  ·rename_i u hu;have h1:=hc _ _ hu;rw[List.length_drop] at h1;split at h
   ·have:=zfP hc m h;omega
   ·have:=zdx h;omega
theorem zfO:∀(f:Nat) {s:List UInt8} {t:Tm},cutP f s=some t->t.rest.length<=s.length
 | 0,s,t,h=>by cases h
 | f+1,s,t,h=>by
  have h0:=wB_len s;simp only[cutP] at h;split at h
  ·cases h;exact h0
  split at h
  ·cases h;exact h0
  split at h
  ·cases h;exact h0
  split at h
  ·split at h
   ·have:=zfP (λs t h=>zfO f h) 3 h;omega
   ·cases h;exact h0
  ·cases h
def CutAt(h:H)(lo:Nat)(v:AV):Option Tm->Prop
 | none=>∃a b c d,v = .tup [a,b,c,.str d,.bool false]
 | some t=>∃c,v = .tup [.int .i64 t.kind,.int .i64 t.num,c,.str t.rest,.bool true]/\zL h lo h.n 1 c (strs t.kids)
section
variable {β:Type} {t:ETree}
theorem isPre_b(s p:List UInt8):decide (p <+: s)=(decide (p.length<=s.length)&&decide (s.take p.length=p)):=by
 rw[Bool.eq_iff_iff];simp only[Bool.and_eq_true,decide_eq_true_eq,List.prefix_iff_eq_take];constructor
 ·intro h;exact⟨by have:=congrArg List.length h;rw[List.length_take] at this;omega,h.symm⟩
 ·intro h;exact h.2.symm
theorem pSlS_hi{s:List UInt8}{kd:IntKind}{i:Int}(h0:0<=i)(h1:i<=s.length)(k:VK β):pSlS false true (.str s) [.int kd i] k=k (.str (s.take i.toNat)):=by
 obtain⟨j,rfl⟩:=Int.eq_ofNat_of_zero_le h0;have hb:zQ false true false [.int kd (j:Int)] s.length s.length=some (0,j,s.length):=by
  simp only[zQ,zDq9,if_pos h0,Option.bind_some,Int.toNat_natCast];rw[if_pos (by omega)]
 simp only[pSlS,aStr,bnd,zh,hb,zC,zr,zz,List.drop_zero,Int.toNat_natCast]
theorem pSlS_lo{s:List UInt8}{kd:IntKind}{i:Int}(h0:0<=i)(h1:i<=s.length)(k:VK β):pSlS true false (.str s) [.int kd i] k=k (.str (s.drop i.toNat)):=by
 obtain⟨j,rfl⟩:=Int.eq_ofNat_of_zero_le h0;have hb:zQ true false false [.int kd (j:Int)] s.length s.length=some (j,s.length,s.length):=by
  simp only[zQ,zDq9,if_pos h0,Option.bind_some,Int.toNat_natCast];rw[if_pos (by omega)]
 simp only[pSlS,aStr,bnd,zh,hb,zC,zr,zz,List.take_length,Int.toNat_natCast]
theorem pSlS_lh{s:List UInt8}{kd kd':IntKind}{i i':Int}(h0:0<=i)(h1:i<=i')(h2:i'<=s.length)(k:VK β):pSlS true true (.str s) [.int kd i,.int kd' i'] k=k (.str ((s.take i'.toNat).drop i.toNat)):=by
 obtain⟨j,rfl⟩:=Int.eq_ofNat_of_zero_le h0;obtain⟨j',rfl⟩:=Int.eq_ofNat_of_zero_le (show 0<=i' by omega);have hb:zQ true true false [.int kd (j:Int),.int kd' (j':Int)] s.length s.length=some (j,j',s.length):=by
  simp only[zQ,zDq9,if_pos h0,if_pos (show (0:Int)<=(j':Int) by omega),Option.bind_some,Int.toNat_natCast];rw[if_pos (by omega)]
 simp only[pSlS,aStr,bnd,zh,hb,zC,zr,zz,Int.toNat_natCast]
theorem sls{β:Type}:(∀{s:List UInt8} {kd:IntKind} {i:Int},0<=i->i<=s.length->∀k:VK β,qSlS false true (.str s) [.int kd i] (.mk k)=k (.str (s.take i.toNat))) /\
  (∀{s:List UInt8} {kd:IntKind} {i:Int},0<=i->i<=s.length->∀k:VK β,qSlS true false (.str s) [.int kd i] (.mk k)=k (.str (s.drop i.toNat))) /\
  ∀{s:List UInt8} {kd kd':IntKind} {i i':Int},0<=i->i<=i'->i'<=s.length->∀k:VK β,qSlS true true (.str s) [.int kd i,.int kd' i'] (.mk k)=k (.str ((s.take i'.toNat).drop i.toNat)) :=
 ⟨pSlS_hi,pSlS_lo,pSlS_lh⟩
theorem GA.w47(T:GA t)(n:Nat)(s p:List UInt8)(h:H)(k:K β):zg (za t stdI (n+1)) (.fn 47 []) [.str s,.str p] h (.mk k)=k (.bool (decide (p <+: s))) h:=by
 rw[T.q47,isPre_b];unfold f47
 by_cases h1:p.length<=s.length
 ·simp (disch:=first|omega|simp only[zD]<;>omega|assumption) only[↓zR,↓zRM,zR,zRM,reduceAdd,reduceMul,reduceToNat,sls,h1,decide_true,Bool.true_and]
 ·simp (disch:=first|omega|simp only[zD]<;>omega|assumption) only[↓zR,↓zRM,zR,zRM,reduceAdd,reduceMul,reduceToNat,sls,h1,decide_false,Bool.false_and]
theorem GA.w36(T:GA t)(n:Nat)(s p:List UInt8)(h:H)(k:K β):zg (za t stdI (n+2)) (.fn 36 []) [.str s,.str p] h (.mk k)=k (.bool (decide (p <+: s))) h:=by
 rw[T.q36];unfold f36;simp (disch:=first|omega|simp only[zD]<;>omega|assumption) only[↓zR,↓zRM,zR,zRM,reduceAdd,reduceMul,reduceToNat,T.w47]
theorem GA.w48(T:GA t)(n:Nat)(s p:List UInt8)(h:H)(k:K β):zg (za t stdI (n+2)) (.fn 48 []) [.str s,.str p] h (.mk k)=k (.tup [.str (if p <+: s then s.drop p.length else s),.bool (decide (p <+: s))]) h:=by
 rw[T.q48];unfold f48
 by_cases h1:p <+: s
 ·have:=h1.length_le
  simp (disch:=first|omega|simp only[zD]<;>omega|assumption) only[↓zR,↓zRM,zR,zRM,reduceAdd,reduceMul,reduceToNat,↓f48_J0,T.w47,h1,sls,decide_true,if_true]
 ·simp (disch:=first|omega|simp only[zD]<;>omega|assumption) only[↓zR,↓zRM,zR,zRM,reduceAdd,reduceMul,reduceToNat,↓f48_J0,T.w47,h1,sls,decide_false,if_false]
theorem GA.w37(T:GA t)(n:Nat)(s p:List UInt8)(h:H)(k:K β):zg (za t stdI (n+3)) (.fn 37 []) [.str s,.str p] h (.mk k)=k (.tup [.str (if p <+: s then s.drop p.length else s),.bool (decide (p <+: s))]) h:=by
 rw[T.q37];unfold f37;simp (disch:=first|omega|simp only[zD]<;>omega|assumption) only[↓zR,↓zRM,zR,zRM,reduceAdd,reduceMul,reduceToNat,T.w48]
theorem GA.w28(T:GA t)(n:Nat)(x:Int)(h:H)(k:K β):zg (za t stdI (n+1)) (.fn 28 []) [.int .i64 x] h (.mk k)=k (.bool (decide (-32768<=x/\x<=32767))) h:=by
 rw[T.q28];unfold f28
 by_cases h1:-32768<=x
 ·simp (disch:=first|omega|simp only[zD]<;>omega|assumption) only[↓zR,↓zRM,zR,zRM,reduceAdd,reduceMul,reduceToNat,h1,true_and]
 ·simp (disch:=first|omega|simp only[zD]<;>omega|assumption) only[↓zR,↓zRM,zR,zRM,reduceAdd,reduceMul,reduceToNat,h1,false_and,decide_false]
theorem GA.w33(T:GA t)(L:GI t)(n:Nat)(s:List UInt8)(hs:s.length<4294967281)(h:H)(k:K β):zg (za t stdI (n+2)) (.fn 33 []) [.str s] h (.mk k)=k (.tup [.str (wA s),.str (wB s)]) h:=by
 rw[T.q33];unfold f33;have hl:=zih s;simp only[nth0,nthS];rw[L.w44 n s hs,zd4]
 by_cases h1:(wA s).length<s.length
 ·rw[if_pos h1];simp (disch:=first|omega|simp only[zD]<;>omega|assumption) only[↓zR,↓zRM,zR,zRM,reduceAdd,reduceMul,reduceToNat,↓f33_J1,sls,zig,zie]
 ·rw[if_neg h1];have h2:(wA s).length=s.length:=by omega
  have h3:=zig s;have h4:=zie s
  rw[h2] at h3 h4;simp (disch:=first|omega|simp only[zD]<;>omega|assumption) only[↓zR,↓zRM,zR,zRM,reduceAdd,reduceMul,reduceToNat,↓f33_J1,sls,h3,h4]
theorem GA.w34(T:GA t)(L:GI t)(n:Nat)(s:List UInt8)(hs:s.length<4294967281)(h:H)(k:K β):zg (za t stdI (n+2)) (.fn 34 []) [.str s] h (.mk k)=k (.tup [.int .i64 (numX s),.bool (numP s)]) h:=by
 rw[T.q34];unfold f34;simp only[nth0,nthS];rw[L.w45 n s (by omega)];obtain⟨e,h1,h2⟩:=zhx s;obtain⟨h3,h4⟩:=zi1 s;rw[h1];unfold numP;rcases h2 with⟨h2,rfl⟩|⟨h2,rfl⟩
 ·by_cases h5:-32768<=numX s/\numX s<=32767
  ·simp (disch:=first|omega|simp only[zD]<;>omega|assumption) only[↓zR,↓zRM,zR,zRM,reduceAdd,reduceMul,reduceToNat,T.w28,L.w29,Bool.not_false,h2,h5,true_and,decide_true]
  ·simp (disch:=first|omega|simp only[zD]<;>omega|assumption) only[↓zR,↓zRM,zR,zRM,reduceAdd,reduceMul,reduceToNat,T.w28,L.w29,Bool.not_false,h2,h5,false_and,and_false,decide_false,decide_true]
 ·simp (disch:=first|omega|simp only[zD]<;>omega|assumption) only[↓zR,↓zRM,zR,zRM,reduceAdd,reduceMul,reduceToNat,h2,Bool.false_eq_true,false_and,decide_false]
theorem GA.w46(T:GA t)(L:GI t)(n:Nat)(s:List UInt8)(hs:s.length<4294967281)(most:Int)(h:H)(k:K β):zg (za t stdI (n+2)) (.fn 46 []) [.str s,.int .i64 most] h (.mk k)=k (.tup [.int .i64 (numX s),.bool (digP most s)]) h:=by
 rw[T.q46];unfold f46;simp only[nth0,nthS];rw[L.w45 n s (by omega)];obtain⟨e,h1,h2⟩:=zhx s;obtain⟨h3,h4⟩:=zi1 s;rw[h1];unfold digP;rcases h2 with⟨h2,rfl⟩|⟨h2,rfl⟩
 ·by_cases h5:0<=numX s
  ·by_cases h6:numX s<=most
   ·simp (disch:=first|omega|simp only[zD]<;>omega|assumption) only[↓zR,↓zRM,zR,zRM,reduceAdd,reduceMul,reduceToNat,L.w29,Bool.not_false,h2,h5,h6,true_and,and_true,decide_true]
   ·simp (disch:=first|omega|simp only[zD]<;>omega|assumption) only[↓zR,↓zRM,zR,zRM,reduceAdd,reduceMul,reduceToNat,L.w29,Bool.not_false,h2,h5,h6,false_and,and_false,decide_false,decide_true]
  ·simp (disch:=first|omega|simp only[zD]<;>omega|assumption) only[↓zR,↓zRM,zR,zRM,reduceAdd,reduceMul,reduceToNat,L.w29,Bool.not_false,h2,h5,false_and,and_false,decide_false,decide_true]
 ·simp (disch:=first|omega|simp only[zD]<;>omega|assumption) only[↓zR,↓zRM,zR,zRM,reduceAdd,reduceMul,reduceToNat,h2,Bool.false_eq_true,false_and,decide_false]
theorem GA.w35(T:GA t)(L:GI t)(n:Nat)(s:List UInt8)(hs:s.length<4294967281)(h:H)(k:K β):zg (za t stdI (n+4)) (.fn 35 []) [.str s] h (.mk k)=k (.tup [.int .i64 (tagX s),.bool (tagP s)]) h:=by
 rw[T.q35];unfold f35;simp only[nth0,nthS];rw[T.w37];unfold tagX tagP;have hd:(s.drop 1).length<4294967281:=by rw[List.length_drop];omega
 by_cases h1:[64] <+: s
 ·rw[if_pos h1];simp (disch:=first|omega|simp only[zD]<;>omega|assumption) only[↓zR,↓zRM,zR,zRM,reduceAdd,reduceMul,reduceToNat,T.w46 L,h1,decide_true,Bool.true_and]
 ·rw[if_neg h1];simp (disch:=first|omega|simp only[zD]<;>omega|assumption) only[↓zR,↓zRM,zR,zRM,reduceAdd,reduceMul,reduceToNat,T.w46 L,h1,decide_false,Bool.false_and]
theorem GA.w24(T:GA t)(L:GI t):∀(f n:Nat) (s:List UInt8) (h:H),s.length<f->s.length<4294967281->f+8<=n ->
  Sp (β:=β) (za t stdI n (.fn 24 []) [.str s] h) λv h'=>Ext h h'/\CutAt h' h.n v (cutP f s)
 | 0,n,s,h,h1,h2,h3=>by omega
 | f+1,n,s,h,h1,h2,h3=>by
  intro k R hk;obtain⟨m,rfl⟩:∃m,n=m+9:=⟨n-9,by omega⟩
  have ha:=zih s;have hb:=wB_len s;simp only[cutP] at hk
  by_cases c1:wA s=[95]
  ·rw[if_pos c1] at hk;rw[T.c24];unfold f24;simp (disch:=first|omega|simp only[zD]<;>omega|assumption) only[↓zR,↓zRM,zR,zRM,reduceAdd,reduceMul,reduceToNat,↓f24_J10,↓f24_J23,↓f24_J15,↓f24_L14,↓f24_J9,↓f24_J5,↓f24_J4,↓f24_J3,T.w33 L,c1];exact hk _ _ ⟨Ext.refl _,_,rfl,zL.nil _ _ _ _⟩
  rw[if_neg c1] at hk
  by_cases c2:wA s=[33]
  ·rw[if_pos c2] at hk;rw[T.c24];unfold f24;simp (disch:=first|omega|simp only[zD]<;>omega|assumption) only[↓zR,↓zRM,zR,zRM,reduceAdd,reduceMul,reduceToNat,↓f24_J10,↓f24_J23,↓f24_J15,↓f24_L14,↓f24_J9,↓f24_J5,↓f24_J4,↓f24_J3,T.w33 L,c1,c2];exact hk _ _ ⟨Ext.refl _,_,rfl,zL.nil _ _ _ _⟩
  rw[if_neg c2] at hk
  by_cases c3:numP (wA s)=true
  ·rw[if_pos c3] at hk;rw[T.c24];unfold f24;simp (disch:=first|omega|simp only[zD]<;>omega|assumption) only[↓zR,↓zRM,zR,zRM,reduceAdd,reduceMul,reduceToNat,↓f24_J10,↓f24_J23,↓f24_J15,↓f24_L14,↓f24_J9,↓f24_J5,↓f24_J4,↓f24_J3,T.w33 L,T.w34 L,c1,c2,c3];exact hk _ _ ⟨Ext.refl _,_,rfl,zL.nil _ _ _ _⟩
  rw[if_neg c3] at hk;rw[Bool.not_eq_true] at c3
  by_cases c4:tagP (wA s)=true
  ·rw[if_pos c4] at hk
   by_cases c5:[40] <+: wB s
   ·rw[if_pos c5] at hk;generalize hz:cutK (cutP f) (tagX (wA s)) 3 [] (wB s)=z at hk;rw[T.c24];unfold f24;simp (disch:=first|omega|simp only[zD]<;>omega|assumption) only[↓zR,↓zRM,zR,zRM,reduceAdd,reduceMul,reduceToNat,↓f24_J10,↓f24_J23,↓f24_J15,↓f24_L14,↓f24_J9,↓f24_J5,↓f24_J4,↓f24_J3,T.w33 L,T.w34 L,T.w35 L,T.w36,c1,c2,c3,c4,c5];have hcl:∀(kids:List (List UInt8)) (r:List UInt8) (c:AV) (h':H),Ext h h'->zL h' h.n h'.n 1 c (strs kids)->z=zbZ (tagX (wA s)) kids r ->
      k (.tup [.int .i64 2,.int .i64 (tagX (wA s)),c,.str (if [41] <+: r then r.drop 1 else r),.bool (decide ([41] <+: r))]) h'=R:=by
     intro kids r c h' q1 q2 q3;refine hk _ _ ⟨q1,?_⟩;rw[q3];unfold zbZ
     by_cases q4:[41] <+: r
     ·rw[if_pos q4,if_pos q4,decide_eq_true q4];exact⟨_,rfl,q2⟩
     ·rw[if_neg q4,if_neg q4,decide_eq_false q4];exact⟨_,_,_,_,rfl⟩
    refine zae 49 (m+8) _ _ (λi x0 x1 x2 x3 x4 x5 x6 x7 x8 x9 x10 x11 x12 x13 x14 x15 x16 x17 x18 x19 x20 x21 x22 x23 x24 x25 x26 x27 x28 x29 x30 x31 x32 x33 x34 x35 x36 x37 x38 x39 x40 x41 x42 x43 x44 x45 x46 x47 x48 h'=>Ext h h'/\∃(kids:List (List UInt8)) (r:List UInt8),x7 = .str r/\x10 = .int .i64 (tagX (wA s))/\zL h' h.n h'.n 1 x12 (strs kids)/\kids.length+i=3 /\
     1<=r.length/\r.length<=s.length/\z=cutK (cutP f) (tagX (wA s)) i kids r) 3 (by omega) ?_ _ _ _ _ _ _ _ _ _ _ _ _ _ _ _ _ _ _ _ _ _ _ _ _ _ _ _ _ _ _ _ _ _ _ _ _ _ _ _ _ _ _ _ _ _ _ _ _ _ _ ⟨Ext.refl _,[],wB s,rfl,rfl,zL.nil _ _ _ _,rfl,c5.length_le,hb,hz.symm⟩
    intro l i ih x0 x1 x2 x3 x4 x5 x6 x7 x8 x9 x10 x11 x12 x13 x14 x15 x16 x17 x18 x19 x20 x21 x22 x23 x24 x25 x26 x27 x28 x29 x30 x31 x32 x33 x34 x35 x36 x37 x38 x39 x40 x41 x42 x43 x44 x45 x46 x47 x48 h' ⟨e1,kids,r,q7,q10,e2,e3,e4,e5,e6⟩;subst q7 q10;have hs:=e2.sl (Nat.le_refl _);have hn:=e1.n;cases i with
    | zero=>
     have q2:=hcl kids r x12 h' e1 e2 e6;simp (disch:=first|omega|simp only[zD]<;>omega|assumption) only[↓zR,↓zRM,zR,zRM,reduceAdd,reduceMul,reduceToNat,↓f24_J10,↓f24_J23,↓f24_J15,↓f24_L14,↓f24_J9,↓f24_J5,↓f24_J4,↓f24_J3,hs.len,T.w37,q2]
    | succ i=>
     have hd:(r.drop 1).length=r.length-1:=by rw[List.length_drop]
     simp (disch:=first|omega|simp only[zD]<;>omega|assumption) only[↓zR,↓zRM,zR,zRM,reduceAdd,reduceMul,reduceToNat,↓f24_J10,↓f24_J23,↓f24_J15,↓f24_L14,↓f24_J9,↓f24_J5,↓f24_J4,↓f24_J3,hs.len,sls];refine GA.w24 T L f (m+8) (r.drop 1) h' (by omega) (by omega) (by omega) _ _ ?_;intro v h2 ⟨e7,e8⟩;simp only[cutK] at e6;cases hc:cutP f (r.drop 1) with
     | none=>
      rw[hc] at e8 e6;obtain⟨a,b,c,d,rfl⟩:=e8;simp (disch:=first|omega|simp only[zD]<;>omega|assumption) only[↓zR,↓zRM,zR,zRM,reduceAdd,reduceMul,reduceToNat,↓f24_J10,↓f24_J23,↓f24_J15,↓f24_L14,↓f24_J9,↓f24_J5,↓f24_J4,↓f24_J3];exact hk _ _ ⟨e1.trans e7,by rw[e6];exact⟨_,_,_,_,rfl⟩⟩
     | some u=>
      rw[hc] at e8 e6;obtain⟨c,rfl,e9⟩:=e8;have hu:=zfO f hc;have he7:=e7.n;simp (disch:=first|omega|simp only[zD]<;>omega|assumption) only[↓zR,↓zRM,zR,zRM,reduceAdd,reduceMul,reduceToNat,↓f24_J10,↓f24_J23,↓f24_J15,↓f24_L14,↓f24_J9,↓f24_J5,↓f24_J4,↓f24_J3,sls];refine zeJ (lo:=h.n) (hi:=h'.n) (cs:=strs kids) ?_ (zc rfl) ?_ ?_
      ·exact e2.mono (Nat.le_refl _) (Nat.le_refl _) λi h1 h2=>by rw[zd (by omega),e7.get i h2]
      ·rw[H.n_push,zZ];unfold room;omega
      intro v' h3 o3 hle hget;rw[H.n_push] at hle hget;have e10:Ext h h3:=⟨by omega,λi hi=>by rw[hget i (by omega) (.inl hi),zd (by omega),e7.get i (by omega),e1.get i hi]⟩
      have e11:((r.drop 1).length-u.rest.length:Int).toNat=(r.drop 1).length-u.rest.length:=by omega
      rw[e11,<- zeZ] at o3
      by_cases c6:[32] <+: u.rest
      ·simp only[if_pos c6] at e6;simp (disch:=first|omega|simp only[zD]<;>omega|assumption) only[↓zR,↓zRM,zR,zRM,reduceAdd,reduceMul,reduceToNat,↓f24_J10,↓f24_J23,↓f24_J15,↓f24_L14,↓f24_J9,↓f24_J5,↓f24_J4,↓f24_J3,T.w36,c6];exact ih i (by omega) _ _ _ _ _ _ _ _ _ _ _ _ _ _ _ _ _ _ _ _ _ _ _ _ _ _ _ _ _ _ _ _ _ _ _ _ _ _ _ _ _ _ _ _ _ _ _ _ _ _ ⟨e10,_,_,rfl,rfl,o3,by rw[List.length_append];simp only[List.length_cons,List.length_nil];omega,c6.length_le,by omega,e6⟩
      ·simp only[if_neg c6] at e6;have q2:=hcl _ _ _ _ e10 o3 e6;simp (disch:=first|omega|simp only[zD]<;>omega|assumption) only[↓zR,↓zRM,zR,zRM,reduceAdd,reduceMul,reduceToNat,↓f24_J10,↓f24_J23,↓f24_J15,↓f24_L14,↓f24_J9,↓f24_J5,↓f24_J4,↓f24_J3,T.w36,T.w37,c6,q2]
   ·rw[if_neg c5] at hk;rw[T.c24];unfold f24;simp (disch:=first|omega|simp only[zD]<;>omega|assumption) only[↓zR,↓zRM,zR,zRM,reduceAdd,reduceMul,reduceToNat,↓f24_J10,↓f24_J23,↓f24_J15,↓f24_L14,↓f24_J9,↓f24_J5,↓f24_J4,↓f24_J3,T.w33 L,T.w34 L,T.w35 L,T.w36,c1,c2,c3,c4,c5];exact hk _ _ ⟨Ext.refl _,_,rfl,zL.nil _ _ _ _⟩
  ·rw[if_neg c4] at hk;rw[Bool.not_eq_true] at c4;rw[T.c24];unfold f24;simp (disch:=first|omega|simp only[zD]<;>omega|assumption) only[↓zR,↓zRM,zR,zRM,reduceAdd,reduceMul,reduceToNat,↓f24_J10,↓f24_J23,↓f24_J15,↓f24_L14,↓f24_J9,↓f24_J5,↓f24_J4,↓f24_J3,T.w33 L,T.w34 L,T.w35 L,T.w36,c1,c2,c3,c4];exact hk _ _ ⟨Ext.refl _,_,_,_,_,rfl⟩
end
end Am.F
end
section
namespace Am.F
open Go Am
def termP(s:List UInt8):Option Tm:=if s.length<=1024 then (match cutP (s.length+1) s with
 | some t=>if t.rest=[] then some t else none
 | none=>none) else none
def mayP(s:List UInt8):Bool:=(termP s).isSome
def conP(x:Int)(kids:List (List UInt8)):List UInt8:=[64]++Lib.itoa x++(if 0<kids.length then [40]++Lib.join kids [32]++[41] else [])
theorem z6:∀(k u:Nat),u<10 ^ (k+1)->(Lib.decDigits u).length<=k+1
 | 0,u,h=>by rw[Lib.decDigits,dif_pos (by simpa using h)];simp
 | k+1,u,h=>by
  rw[Lib.decDigits];split
  ·simp
  ·rw[List.length_append];have:=z6 k (u / 10) (by rw[Nat.pow_succ] at h;omega)
   simp only[List.length_cons,List.length_nil];omega
theorem zeA{x:Int}(h0:-9223372036854775808<=x)(h1:x<=9223372036854775807):(Lib.itoa x).length<=20:=by
 unfold Lib.itoa;split
 ·have:=z6 18 x.natAbs (by omega)
  simp only[List.length_cons];omega
 ·have:=z6 18 x.toNat (by omega)
  omega
section
variable {β:Type} {t:ETree}
theorem GA.w17(T:GA t)(L:GI t)(n:Nat)(hn:1040<=n)(s:List UInt8)(h:H):Sp (β:=β) (za t stdI n (.fn 17 []) [.str s] h) λv h'=>Ext h h'/\v = .bool (mayP s):=by
 intro k R hk;obtain⟨m,rfl⟩:∃m,n=m+1:=⟨n-1,by omega⟩
 rw[T.c17];unfold f17;unfold mayP termP at hk
 by_cases c1:s.length<=1024
 ·rw[if_pos c1] at hk;simp (disch:=first|omega|simp only[zD]<;>omega|assumption) only[↓zR,↓zRM,zR,zRM,reduceAdd,reduceMul,reduceToNat,↓f17_J0];refine T.w24 L (s.length+1) _ s h (by omega) (by omega) (by omega) _ _ ?_;intro v h' ⟨e1,e2⟩;cases hc:cutP (s.length+1) s with
  | none=>
   rw[hc] at e2 hk;obtain⟨a,b,c,d,rfl⟩:=e2;simp (disch:=first|omega|simp only[zD]<;>omega|assumption) only[↓zR,↓zRM,zR,zRM,reduceAdd,reduceMul,reduceToNat,↓f17_J0];exact hk _ _ ⟨e1,rfl⟩
  | some u=>
   rw[hc] at e2 hk;obtain⟨c,rfl,e3⟩:=e2
   by_cases c2:u.rest=[]
   ·simp (disch:=first|omega|simp only[zD]<;>omega|assumption) only[↓zR,↓zRM,zR,zRM,reduceAdd,reduceMul,reduceToNat,↓f17_J0,c2];exact hk _ _ ⟨e1,by simp[c2]⟩
   ·simp (disch:=first|omega|simp only[zD]<;>omega|assumption) only[↓zR,↓zRM,zR,zRM,reduceAdd,reduceMul,reduceToNat,↓f17_J0,c2];exact hk _ _ ⟨e1,by simp[c2]⟩
 ·rw[if_neg c1] at hk;simp (disch:=first|omega|simp only[zD]<;>omega|assumption) only[↓zR,↓zRM,zR,zRM,reduceAdd,reduceMul,reduceToNat,↓f17_J0];exact hk _ _ ⟨Ext.refl _,rfl⟩
theorem GA.w26(T:GA t)(L:GI t)(n:Nat)(xs:List (List UInt8))(v:AV)(h:H)(hs:SlAt h v (strs xs))(hn:xs.length+1041<=n)(hl:xs.length<9223372036854775807) :
  Sp (β:=β) (za t stdI n (.fn 26 []) [v] h) λu h'=>Ext h h'/\u = .bool (xs.all mayP):=by
 intro k R hk;obtain⟨m,rfl⟩:∃m,n=m+1:=⟨n-1,by omega⟩
 rw[T.c26];unfold f26;simp (disch:=first|omega|simp only[zD]<;>omega|assumption) only[↓zR,↓zRM,zR,zRM,reduceAdd,reduceMul,reduceToNat,↓f26_J0,↓f26_J5,↓f26_J4,↓f26_L2,hs.len];refine zae 7 _ _ _ (λi x0 x1 x2 x3 x4 x5 x6 h'=>Ext h h'/\∃j:Nat,x3=v/\x4 = .int .i64 (xs.length:Int)/\x5 = .int .i64 (j:Int)/\j+i=xs.length/\xs.all mayP=(xs.drop j).all mayP) xs.length (by omega) ?_ _ _ _ _ _ _ _ _
  ⟨Ext.refl _,0,rfl,rfl,rfl,by omega,rfl⟩
 intro l i ih x0 x1 x2 x3 x4 x5 x6 h' ⟨e1,j,q3,q4,q5,e2,e3⟩;subst q3 q4 q5;have hs':=hs.ext e1;cases i with
 | zero=>
  simp (disch:=first|omega|simp only[zD]<;>omega|assumption) only[↓zR,↓zRM,zR,zRM,reduceAdd,reduceMul,reduceToNat,↓f26_J0,↓f26_J5,↓f26_J4,↓f26_L2];exact hk _ _ ⟨e1,by rw[e3,List.drop_eq_nil_of_le (by omega)];rfl⟩
 | succ i=>
  have hj:j<xs.length:=by omega
  have hd:xs.drop j=xs.getD j []::xs.drop (j+1):=by rw[List.drop_eq_getElem_cons hj];simp[List.getD_eq_getElem?_getD,hj]
  rw[hd,List.all_cons] at e3;simp (disch:=first|omega|simp only[zD]<;>omega|assumption) only[↓zR,↓zRM,zR,zRM,reduceAdd,reduceMul,reduceToNat,↓f26_J0,↓f26_J5,↓f26_J4,↓f26_L2,hs'.loadS];refine T.w17 L m (by omega) _ h' _ _ ?_;intro u h2 ⟨e4,e5⟩;subst e5;cases c1:mayP (xs.getD j [])
  ·rw[c1,Bool.false_and] at e3;simp (disch:=first|omega|simp only[zD]<;>omega|assumption) only[↓zR,↓zRM,zR,zRM,reduceAdd,reduceMul,reduceToNat,↓f26_J0,↓f26_J5,↓f26_J4,↓f26_L2,c1];exact hk _ _ ⟨e1.trans e4,by rw[e3]⟩
  ·rw[c1,Bool.true_and] at e3;simp (disch:=first|omega|simp only[zD]<;>omega|assumption) only[↓zR,↓zRM,zR,zRM,reduceAdd,reduceMul,reduceToNat,↓f26_J0,↓f26_J5,↓f26_J4,↓f26_L2,c1];exact ih i (by omega) _ _ _ _ _ _ _ _ ⟨e1.trans e4,j+1,rfl,rfl,rfl,by omega,e3⟩
end
end Am.F
end
section
namespace Am.F
open Go Am
def digC(s:List UInt8)(k:Nat):Prop:=k<s.length/\k<6/\48<=bt s k/\bt s k<=57/\(k=0\/bt s 0≠48)
instance (s:List UInt8) (k:Nat):Decidable (digC s k):=by unfold digC;infer_instance
def digF(s:List UInt8):Nat->Nat->Nat->Nat × Nat
 | 0,x,k=>(x,k)
 | f+1,x,k=>if digC s k then digF s f (10*x+(bt s k-48)) (k+1) else (x,k)
def dig(s:List UInt8):Nat × Nat:=digF s 7 0 0
theorem zjs(s:List UInt8):∀(f x k:Nat),k<=6->k<=s.length->x<10 ^ k->(digF s f x k).2<=6/\(digF s f x k).2<=s.length/\(digF s f x k).1<10 ^ (digF s f x k).2
 | 0,x,k,h1,h2,h3=>⟨h1,h2,h3⟩
 | f+1,x,k,h1,h2,h3=>by
  unfold digF;split
  ·rename_i hc;obtain⟨c1,c2,c3,c4,_⟩:=hc;exact zjs s f _ _ (by omega) (by omega) (by rw[Nat.pow_succ];omega)
  ·exact⟨h1,h2,h3⟩
theorem zdu(s:List UInt8):(dig s).2<=6/\(dig s).2<=s.length/\(dig s).1<1000000:=by
 obtain⟨h1,h2,h3⟩:=zjs s 7 0 0 (by omega) (by omega) (by decide);refine⟨h1,h2,Nat.lt_of_lt_of_le h3 ?_⟩;exact Nat.pow_le_pow_right (by decide) h1
structure Ct where
 kind:Int
 num:Int
 kids:List (List UInt8)
 to:Nat
def zc7(rt:Nat->Option Ct)(s:List UInt8)(x:Int):Nat->List (List UInt8)->Nat->Option Ct
 | 0,_,_=>none
 | m+1,kids,i=>match rt i with
  | none=>none
  | some c=>if s.length<=c.to then none
   else if bt s c.to=41 then some ⟨2,x,kids++[(s.take c.to).drop i],c.to+1⟩
   else if bt s c.to=32 then zc7 rt s x m (kids++[(s.take c.to).drop i]) (c.to+1)
   else none
def zc6(s:List UInt8):Nat->Nat->Option Ct
 | 0,_=>none
 | f+1,i=>
  if s.length<=i then none
  else if bt s i=95 then some ⟨0,0,[],i+1⟩
  else if bt s i=33 then some ⟨3,0,[],i+1⟩
  else if bt s i=64 then
   (if (dig (s.drop (i+1))).2=0\/99<(dig (s.drop (i+1))).1 then none
   else if i+1+(dig (s.drop (i+1))).2<s.length/\bt s (i+1+(dig (s.drop (i+1))).2)=40 then zc7 (zc6 s f) s (dig (s.drop (i+1))).1 3 [] (i+1+(dig (s.drop (i+1))).2+1)
   else some ⟨2,(dig (s.drop (i+1))).1,[],i+1+(dig (s.drop (i+1))).2⟩)
  else if bt s i=45 then
   (if (dig (s.drop (i+1))).2=0\/(dig (s.drop (i+1))).1=0\/32768<(dig (s.drop (i+1))).1 then none
   else some ⟨1,-(dig (s.drop (i+1))).1,[],i+1+(dig (s.drop (i+1))).2⟩)
  else if (dig (s.drop i)).2=0\/32767<(dig (s.drop i)).1 then none
  else some ⟨1,(dig (s.drop i)).1,[],i+(dig (s.drop i)).2⟩
def Fwd(s:List UInt8)(rt:Nat->Option Ct):Prop:=∀i c,rt i=some c->i<c.to/\c.to<=s.length
theorem ze6{s:List UInt8}{rt:Nat->Option Ct}(hr:Fwd s rt){x:Int}:∀(m:Nat) {kids:List (List UInt8)} {i:Nat} {c:Ct},zc7 rt s x m kids i=some c->i<c.to/\c.to<=s.length
 | 0,kids,i,c,h=>by cases h
 | m+1,kids,i,c,h=>by
  simp only[zc7] at h;split at h
  ·cases h
  ·rename_i u hu;have h1:=hr _ _ hu;split at h
   ·cases h
   split at h
   ·cases h;simp only;omega
   split at h
   ·have:=ze6 hr m h;omega
   ·cases h
theorem ze5(s:List UInt8):∀f,Fwd s (zc6 s f)
 | 0,i,c,h=>by cases h
 | f+1,i,c,h=>by
  have ih:=ze5 s f;have hd:=zdu (s.drop (i+1));have hd':=zdu (s.drop i);rw[List.length_drop] at hd hd';simp only[zc6] at h;split at h
  ·cases h
  split at h
  ·cases h;simp only;omega
  split at h
  ·cases h;simp only;omega
  split at h
  ·split at h
   ·cases h
   split at h
   ·have:=ze6 ih 3 h;omega
   ·cases h;simp only;omega
  split at h
  ·split at h
   ·cases h
   ·cases h;simp only;omega
  split at h
  ·cases h
  ·cases h;simp only;omega
def CrAt(h:H)(lo:Nat)(v:AV):Option Ct->Prop
 | none=>∃a b c,v = .agg [a,b,c,.int .i64 (-1)]
 | some t=>∃c,v = .agg [.int .i64 t.kind,.int .i64 t.num,c,.int .i64 (t.to:Int)]/\zL h lo h.n 1 c (strs t.kids)
section
variable {β:Type} {t:ETree}
theorem GA.w30(T:GA t)(n:Nat)(x a b:Int)(h:H)(k:K β):zg (za t stdI (n+1)) (.fn 30 []) [.int .i64 x,.int .i64 a,.int .i64 b] h (.mk k)=k (.bool (decide (a<=x/\x<=b))) h:=by
 rw[T.q30];unfold f30
 by_cases h1:a<=x<;>simp (disch:=first|omega|simp only[zD]<;>omega|assumption) only[↓zR,↓zRM,zR,zRM,reduceAdd,reduceMul,reduceToNat,h1]
theorem GA.w41(T:GA t)(n:Nat)(x:Int)(h:H)(k:K β):zg (za t stdI (n+2)) (.fn 41 []) [.int .i64 x] h (.mk k)=k (.bool (decide (-32768<=x/\x<=32767))) h:=by
 rw[T.q41];unfold f41;simp (disch:=first|omega|simp only[zD]<;>omega|assumption) only[↓zR,↓zRM,zR,zRM,reduceAdd,reduceMul,reduceToNat,T.w30]
theorem GA.w38(T:GA t)(n:Nat)(h:H):Sp (β:=β) (za t stdI (n+1) (.fn 38 []) [] h) λv h'=>Ext h h'/\v = .agg [.int .i64 0,.int .i64 0,.nils,.int .i64 (-1)]:=by
 intro k R hk;rw[T.c38];unfold f38;simp (disch:=first|omega|simp only[zD]<;>omega|assumption) only[↓zR,↓zRM,zR,zRM,reduceAdd,reduceMul,reduceToNat];exact hk _ _ ⟨((Ext.refl h).push _).set (Nat.le_refl _) _,rfl⟩
theorem GA.w39(T:GA t)(n:Nat)(s:List UInt8)(hs:s.length<=9223372036854775807)(h:H)(k:K β):zg (za t stdI (n+9)) (.fn 39 []) [.str s] h (.mk k)=k (.tup [.int .i64 (dig s).1,.int .i64 (dig s).2]) h:=by
 rw[T.q39];unfold f39;simp (disch:=first|omega|simp only[zD]<;>omega|assumption) only[↓zR,↓zRM,zR,zRM,reduceAdd,reduceMul,reduceToNat,↓f39_J0,↓f39_J2,↓f39_L1];refine zae 7 (n+8) _ _ (λi x0 _ _ x3 x4 _ _ h'=>h'=h/\x0 = .str s/\∃x j:Nat,x3 = .int .i64 x/\x4 = .int .i64 j/\digF s i x j=dig s/\i+j=7/\x<10 ^ j) 7 (by omega) ?_ _ _ _ _ _ _ _ _ ⟨rfl,rfl,0,0,rfl,rfl,rfl,rfl,by decide⟩;intro l i ih x0 x1 x2 x3 x4 x5 x6 h' ⟨e0,e1,x,j,e2,e3,e4,e5,e6⟩;subst e0 e1 e2 e3;have hp:10 ^ j<=10 ^ 7:=Nat.pow_le_pow_right (by omega) (by omega);have hb:=bt_lt s j;have hj:j<9223372036854775807:=by omega
 by_cases hc:digC s j
 ·obtain⟨h1,h2,h3,h4,h5⟩:=id hc;have hw:IntKind.u8.wrap (bt s j-48:Int)=(bt s j-48:Int):=zid (by omega) (by omega);obtain⟨i,rfl⟩:∃i',i=i'+1:=⟨i-1,by omega⟩
  simp only[digF,if_pos hc] at e4;have hgo:=ih i (by omega) (.str s) .any .any (.int .i64 ((10*x+(bt s j-48):Nat):Int)) (.int .i64 ((j+1:Nat):Int)) .any .any h' ⟨rfl,rfl,_,_,rfl,rfl,e4,by omega,by rw[Nat.pow_succ];omega⟩;have q1:(10*(x:Int)+((bt s j:Int)-48))=((10*x+(bt s j-48):Nat):Int):=by omega
  by_cases hj0:j=0
  ·simp (disch:=first|omega|simp only[zD]<;>omega|assumption) only[↓zR,↓zRM,zR,zRM,reduceAdd,reduceMul,reduceToNat,↓f39_J0,↓f39_J2,↓f39_L1,zdS,hw];rw[q1];exact hgo
  ·simp (disch:=first|omega|simp only[zD]<;>omega|assumption) only[↓zR,↓zRM,zR,zRM,reduceAdd,reduceMul,reduceToNat,↓f39_J0,↓f39_J2,↓f39_L1,zdS,hw];rw[q1];exact hgo
 ·have e7:dig s=(x,j):=by
   rw[<- e4];cases i with
   | zero=>rfl
   | succ i=>simp only[digF,if_neg hc]
  rw[e7];unfold digC at hc
  by_cases c1:j<s.length
  ·by_cases c2:j<6
   ·by_cases c3:48<=bt s j
    ·by_cases c4:bt s j<=57
     ·simp (disch:=first|omega|simp only[zD]<;>omega|assumption) only[↓zR,↓zRM,zR,zRM,reduceAdd,reduceMul,reduceToNat,↓f39_J0,↓f39_J2,↓f39_L1]
     ·simp (disch:=first|omega|simp only[zD]<;>omega|assumption) only[↓zR,↓zRM,zR,zRM,reduceAdd,reduceMul,reduceToNat,↓f39_J0,↓f39_J2,↓f39_L1]
    ·simp (disch:=first|omega|simp only[zD]<;>omega|assumption) only[↓zR,↓zRM,zR,zRM,reduceAdd,reduceMul,reduceToNat,↓f39_J0,↓f39_J2,↓f39_L1]
   ·simp (disch:=first|omega|simp only[zD]<;>omega|assumption) only[↓zR,↓zRM,zR,zRM,reduceAdd,reduceMul,reduceToNat,↓f39_J0,↓f39_J2,↓f39_L1]
  ·simp (disch:=first|omega|simp only[zD]<;>omega|assumption) only[↓zR,↓zRM,zR,zRM,reduceAdd,reduceMul,reduceToNat,↓f39_J0,↓f39_J2,↓f39_L1]
theorem chk_sl{h:H}{v:AV}{cs:List AV}(hs:SlAt h v cs)(c:Option β):qChk v v (.mk c)=c:=by
 show fChk v v c=c;rcases hs with⟨rfl,_⟩|⟨b,o,m,g,us,rfl,_⟩
 ·rfl
 ·unfold fChk;rw[show AV.beq (.sl b o cs.length m g) (.sl b o cs.length m g)=true by simp[AV.beq]];rfl
theorem GA.w40(T:GA t)(m:Nat)(s:List UInt8)(hs:s.length<=9223372036854775807)(rt:Nat->Option Ct)(hf:Fwd s rt)(x to0:Int)(i0:Nat)(h:H)(hi0:i0<=s.length)
  (ht:∀(i:Nat) (h:H),i0<=i->i<=s.length->Sp (β:=β) (za t stdI (m+4) (.fn 25 []) [.str s,.int .i64 (i:Int)] h) λv h'=>Ext h h'/\CrAt h' h.n v (rt i)) :
  Sp (β:=β) (za t stdI (m+5) (.fn 40 []) [.str s,.agg [.int .i64 2,.int .i64 x,.nils,.int .i64 to0],.int .i64 (i0:Int)] h) λv h'=>Ext h h'/\CrAt h' h.n v (zc7 rt s x 3 [] i0):=by
 intro k R hk;generalize hz:zc7 rt s x 3 [] i0=z at hk;rw[T.c40];unfold f40;simp (disch:=first|omega|simp only[zD]<;>omega|assumption) only[↓zR,↓zRM,zR,zRM,reduceAdd,reduceMul,reduceToNat,↓f40_J2,↓f40_J20,↓f40_J19,↓f40_J9,↓f40_J6,↓f40_L5];refine zae 7 (m+4) _ _ (λi x0 x1 x2 x3 x4 x5 x6 h'=>Ext h h'/\h.n+2<=h'.n/\x0 = .str s/\x3 = .ptr h.n 0/\x4 = .ptr (h.n+1) 0/\∃(kv a b c d:AV) (kids:List (List UInt8)) (j:Nat),
  x2 = .int .i64 (j:Int)/\h'.get h.n = .own 0 [.int .i64 2,.int .i64 x,kv,.int .i64 to0]/\h'.get (h.n+1) = .own 0 [a,b,c,d]/\zL h' (h.n+2) h'.n 1 kv (strs kids)/\kids.length+i=3/\i0<=j/\j<=s.length/\z=zc7 rt s x i kids j)
  3 (by omega) ?_ _ _ _ _ _ _ _ _ ⟨((Ext.refl h).push _).push _,by simp only[H.n_push];omega,rfl,rfl,rfl,_,_,_,_,_,[],i0,rfl,by rw[zd (by rw[H.n_push];omega),zc rfl],by rw[zc (by rw[H.n_push])],zL.nil _ _ _ _,rfl,Nat.le_refl _,hi0,hz.symm⟩
 intro l i ih x0 x1 x2 x3 x4 x5 x6 h' ⟨e1,en,q0,q3,q4,kv,a,b,c,d,kids,j,q2,g0,g1,e2,e3,e4,e5,e6⟩;subst q0 q2 q3 q4;have hsl:=e2.sl (Nat.le_refl _);cases i with
 | zero=>
  simp (disch:=first|omega|simp only[zD]<;>omega|assumption) only[↓zR,↓zRM,zR,zRM,reduceAdd,reduceMul,reduceToNat,↓f40_J2,↓f40_J20,↓f40_J19,↓f40_J9,↓f40_J6,↓f40_L5,g0,hsl.len];refine T.w38 (m+3) h' _ _ ?_;intro v h2 ⟨e7,e8⟩;subst e8;have g2:=e7.get (h.n+1) (by omega);rw[g1] at g2;have:=e7.n
  simp (disch:=first|omega|simp only[zD]<;>omega|assumption) only[↓zR,↓zRM,zR,zRM,reduceAdd,reduceMul,reduceToNat,↓f40_J2,↓f40_J20,↓f40_J19,↓f40_J9,↓f40_J6,↓f40_L5,g2];exact hk _ _ ⟨(e1.trans e7).set (by omega) _,by rw[e6];exact⟨_,_,_,rfl⟩⟩
 | succ i=>
  simp (disch:=first|omega|simp only[zD]<;>omega|assumption) only[↓zR,↓zRM,zR,zRM,reduceAdd,reduceMul,reduceToNat,↓f40_J2,↓f40_J20,↓f40_J19,↓f40_J9,↓f40_J6,↓f40_L5,g0,hsl.len];refine ht j h' e4 e5 _ _ ?_;intro v h2 ⟨e7,e8⟩;have g2:=e7.get (h.n+1) (by omega);rw[g1] at g2;have g3:=e7.get h.n (by omega);rw[g0] at g3;have hn2:=e7.n;simp only[zc7] at e6;cases hc:rt j with
  | none=>
   rw[hc] at e8 e6;obtain⟨a',b',c',rfl⟩:=e8;simp (disch:=first|omega|simp only[zD]<;>omega|assumption) only[↓zR,↓zRM,zR,zRM,reduceAdd,reduceMul,reduceToNat,↓f40_J2,↓f40_J20,↓f40_J19,↓f40_J9,↓f40_J6,↓f40_L5];refine T.w38 (m+3) _ _ _ ?_;intro v h3 ⟨e9,e10⟩;subst e10;have g4:=e9.get (h.n+1) (by rw[H.n_set,H.n_push];omega);rw[zk (by omega),zd (by omega),g2] at g4;simp (disch:=first|omega|simp only[zD]<;>omega|assumption) only[↓zR,↓zRM,zR,zRM,reduceAdd,reduceMul,reduceToNat,↓f40_J2,↓f40_J20,↓f40_J19,↓f40_J9,↓f40_J6,↓f40_L5,g4];exact hk _ _ ⟨(((((e1.trans e7).push _).set (by omega) _).trans e9).set (by omega) _),by rw[e6];exact⟨_,_,_,rfl⟩⟩
  | some u=>
   rw[hc] at e8 e6;obtain⟨c',rfl,e9⟩:=e8;have hfw:=hf _ _ hc;simp only at e6
   by_cases c1:s.length<=u.to
   ·rw[if_pos c1] at e6;simp (disch:=first|omega|simp only[zD]<;>omega|assumption) only[↓zR,↓zRM,zR,zRM,reduceAdd,reduceMul,reduceToNat,↓f40_J2,↓f40_J20,↓f40_J19,↓f40_J9,↓f40_J6,↓f40_L5];refine T.w38 (m+3) _ _ _ ?_;intro v h3 ⟨e10,e11⟩;subst e11;have g4:=e10.get (h.n+1) (by rw[H.n_set,H.n_push];omega);rw[zk (by omega),zd (by omega),g2] at g4;simp (disch:=first|omega|simp only[zD]<;>omega|assumption) only[↓zR,↓zRM,zR,zRM,reduceAdd,reduceMul,reduceToNat,↓f40_J2,↓f40_J20,↓f40_J19,↓f40_J9,↓f40_J6,↓f40_L5,g4];exact hk _ _ ⟨(((((e1.trans e7).push _).set (by omega) _).trans e10).set (by omega) _),by rw[e6];exact⟨_,_,_,rfl⟩⟩
   ·rw[if_neg c1] at e6;have hto:u.to<9223372036854775807:=by omega
    simp (disch:=first|omega|simp only[zD]<;>omega|assumption) only[↓zR,↓zRM,zR,zRM,reduceAdd,reduceMul,reduceToNat,↓f40_J2,↓f40_J20,↓f40_J19,↓f40_J9,↓f40_J6,↓f40_L5,sls,g3,chk_sl (hsl.ext e7)];refine zeJ (lo:=h.n+2) (hi:=h'.n) (cs:=strs kids) ?_ (zc rfl) ?_ ?_
    ·exact e2.mono (Nat.le_refl _) (Nat.le_refl _) λi h1 h2=>by rw[zd (by rw[H.n_set,H.n_push];omega),zk (by omega),zd (by omega),e7.get i h2]
    ·rw[H.n_push,H.n_set,H.n_push,zZ];unfold room;omega
    intro v' h3 o3 hle hget;rw[H.n_push,H.n_set,H.n_push] at hle hget;have g4:=hget h.n (by omega) (.inl (by omega));rw[zd (by rw[H.n_set,H.n_push];omega),zk (by omega),zd (by omega),g3] at g4;have g5:=hget (h.n+1) (by omega) (.inl (by omega));rw[zd (by rw[H.n_set,H.n_push];omega),zk (by omega),zd (by omega),g2] at g5;have g6:=hget h2.n (by omega) (.inr (by omega));rw[zd (by rw[H.n_set,H.n_push];omega),zaj rfl] at g6;have e10:Ext h h3:=⟨by omega,λi hi=>by
     rw[hget i (by omega) (.inl (by omega)),zd (by rw[H.n_set,H.n_push];omega),zk (by omega),zd (by omega),e7.get i (by omega),e1.get i hi]⟩
    rw[<- zeZ] at o3;have o4:=o3.sl (Nat.le_refl _);have hsc:=o3.sc
    by_cases c2:bt s u.to=41
    ·rw[if_pos c2] at e6;simp (disch:=first|omega|simp only[zD]<;>omega|assumption) only[↓zR,↓zRM,zR,zRM,reduceAdd,reduceMul,reduceToNat,↓f40_J2,↓f40_J20,↓f40_J19,↓f40_J9,↓f40_J6,↓f40_L5,g4,g5,g6];exact hk _ _ ⟨(((e10.set (Nat.le_refl _) _).set (Nat.le_refl _) _).set (by omega) _),by
      rw[e6];exact⟨v',rfl,(((o3.set (.inl (by omega)) _).set (.inl (by omega)) _).set (.inl (by omega)) _).mono (by omega) (by simp only[H.n_set];exact Nat.le_refl _) (λ_ _ _=>rfl)⟩⟩
    ·rw[if_neg c2] at e6
     by_cases c3:bt s u.to=32
     ·rw[if_pos c3] at e6;simp (disch:=first|omega|simp only[zD]<;>omega|assumption) only[↓zR,↓zRM,zR,zRM,reduceAdd,reduceMul,reduceToNat,↓f40_J2,↓f40_J20,↓f40_J19,↓f40_J9,↓f40_J6,↓f40_L5,g4,g5,g6];exact ih i (by omega) _ _ _ _ _ _ _ _ ⟨e10.set (Nat.le_refl _) _,by rw[H.n_set];omega,rfl,rfl,rfl,v',_,_,_,_,_,u.to+1,congrArg (AV.int .i64) (by omega),zaj rfl,by rw[zk (by omega)];exact g5,
       (o3.set (.inl (by omega)) _).mono (Nat.le_refl _) (by rw[H.n_set];exact Nat.le_refl _) (λ_ _ _=>rfl),by rw[List.length_append];simp only[List.length_cons,List.length_nil];omega,by omega,by omega,e6⟩
     ·rw[if_neg c3] at e6;simp (disch:=first|omega|simp only[zD]<;>omega|assumption) only[↓zR,↓zRM,zR,zRM,reduceAdd,reduceMul,reduceToNat,↓f40_J2,↓f40_J20,↓f40_J19,↓f40_J9,↓f40_J6,↓f40_L5,g4,g5,g6];refine T.w38 (m+3) _ _ _ ?_;intro v h4 ⟨e11,e12⟩;subst e12;have g7:=e11.get (h.n+1) (by rw[H.n_set];omega);rw[zk (by omega),g5] at g7;simp (disch:=first|omega|simp only[zD]<;>omega|assumption) only[↓zR,↓zRM,zR,zRM,reduceAdd,reduceMul,reduceToNat,↓f40_J2,↓f40_J20,↓f40_J19,↓f40_J9,↓f40_J6,↓f40_L5,g7];exact hk _ _ ⟨(((e10.set (Nat.le_refl _) _).trans e11).set (by omega) _),by rw[e6];exact⟨_,_,_,rfl⟩⟩
theorem GA.w25(T:GA t)(s:List UInt8)(hs:s.length<=9223372036854775807):∀(f n i:Nat) (h:H),s.length-i<f->i<=s.length->2*f+12<=n ->
  Sp (β:=β) (za t stdI n (.fn 25 []) [.str s,.int .i64 (i:Int)] h) λv h'=>Ext h h'/\CrAt h' h.n v (zc6 s f i)
 | 0,n,i,h,h1,h2,h3=>by omega
 | f+1,n,i,h,h1,h2,h3=>by
  intro k R hk;obtain⟨m,rfl⟩:∃m,n=m+10:=⟨n-10,by omega⟩
  have hd:=zdu (s.drop (i+1));have hd':=zdu (s.drop i);rw[List.length_drop] at hd hd';have hl:(s.drop (i+1)).length<=9223372036854775807:=by rw[List.length_drop];omega
  have hl':(s.drop i).length<=9223372036854775807:=by rw[List.length_drop];omega
  have hit:((i:Int)+1).toNat=i+1:=by omega
  have hb:=bt_lt s i;simp only[zc6] at hk;have hbad:∀(h2:H),Ext h h2->h.n<h2.n->(∃cs:List AV,cs.length=4/\h2.get h.n = .own 0 cs)->(∀v h',Ext h h'/\CrAt h' h.n v none->k v h'=R) ->
    (zg (za t stdI (m+9)) (.fn 38 []) [] h2<|.mk λv3 h_1=>zP 4 (.ptr h.n 0) v3 h_1<|.mk λh_2=>zM 4 (.ptr h.n 0) h_2<|.mk λv4=>k v4 h_2)=R:=by
   intro h2 e1 e2 ⟨cs,e3,e4⟩ hk;refine T.w38 (m+8) _ _ _ ?_;intro v h3 ⟨e5,e6⟩;subst e6;have g:=e5.get h.n e2;rw[e4] at g
   match cs,e3 with
   | [a,b,c,d],_=>
    simp (disch:=first|omega|simp only[zD]<;>omega|assumption) only[↓zR,↓zRM,zR,zRM,reduceAdd,reduceMul,reduceToNat,↓f25_J7,↓f25_J2,↓f25_J37,↓f25_J32,↓f25_J66,↓f25_J1,g];exact hk _ _ ⟨(e1.trans e5).set (Nat.le_refl _) _,⟨_,_,_,rfl⟩⟩
  by_cases c0:s.length<=i
  ·rw[if_pos c0] at hk;rw[T.c25];unfold f25;simp (disch:=first|omega|simp only[zD]<;>omega|assumption) only[↓zR,↓zRM,zR,zRM,reduceAdd,reduceMul,reduceToNat,↓f25_J7,↓f25_J2,↓f25_J37,↓f25_J32,↓f25_J66,↓f25_J1];exact hbad _ ((Ext.refl h).push _) (by first|omega|(simp only[H.n_push,H.n_set];omega)) ⟨_,rfl,zc rfl⟩ hk
  rw[if_neg c0] at hk
  by_cases c1:bt s i=95
  ·rw[if_pos c1] at hk;rw[T.c25];unfold f25;simp (disch:=first|omega|simp only[zD]<;>omega|assumption) only[↓zR,↓zRM,zR,zRM,reduceAdd,reduceMul,reduceToNat,↓f25_J7,↓f25_J2,↓f25_J37,↓f25_J32,↓f25_J66,↓f25_J1];exact hk _ _ ⟨((Ext.refl h).push _).set (Nat.le_refl _) _,_,rfl,zL.nil _ _ _ _⟩
  rw[if_neg c1] at hk
  by_cases c2:bt s i=33
  ·rw[if_pos c2] at hk;rw[T.c25];unfold f25;simp (disch:=first|omega|simp only[zD]<;>omega|assumption) only[↓zR,↓zRM,zR,zRM,reduceAdd,reduceMul,reduceToNat,↓f25_J7,↓f25_J2,↓f25_J37,↓f25_J32,↓f25_J66,↓f25_J1];exact hk _ _ ⟨((Ext.refl h).push _).set (Nat.le_refl _) _,_,rfl,zL.nil _ _ _ _⟩
  rw[if_neg c2] at hk
  by_cases c3:bt s i=64
  ·rw[if_pos c3] at hk
   by_cases c4:(dig (s.drop (i+1))).2=0\/99<(dig (s.drop (i+1))).1
   ·rw[if_pos c4] at hk;rw[T.c25];unfold f25
    by_cases c5:(dig (s.drop (i+1))).2=0
    ·simp (disch:=first|omega|simp only[zD]<;>omega|assumption) only[↓zR,↓zRM,zR,zRM,reduceAdd,reduceMul,reduceToNat,↓f25_J7,↓f25_J2,↓f25_J37,↓f25_J32,↓f25_J66,↓f25_J1,sls,T.w39,hit];exact hbad _ ((Ext.refl h).push _) (by first|omega|(simp only[H.n_push,H.n_set];omega)) ⟨_,rfl,zc rfl⟩ hk
    ·simp (disch:=first|omega|simp only[zD]<;>omega|assumption) only[↓zR,↓zRM,zR,zRM,reduceAdd,reduceMul,reduceToNat,↓f25_J7,↓f25_J2,↓f25_J37,↓f25_J32,↓f25_J66,↓f25_J1,sls,T.w39,hit];exact hbad _ ((Ext.refl h).push _) (by first|omega|(simp only[H.n_push,H.n_set];omega)) ⟨_,rfl,zc rfl⟩ hk
   ·rw[if_neg c4] at hk;have hto:((i:Int)+1+((dig (s.drop (i+1))).2:Int)).toNat=i+1+(dig (s.drop (i+1))).2:=by omega
    by_cases c5:i+1+(dig (s.drop (i+1))).2<s.length
    ·by_cases c6:bt s (i+1+(dig (s.drop (i+1))).2)=40
     ·rw[if_pos ⟨c5,c6⟩] at hk;rw[T.c25];unfold f25;simp (disch:=first|omega|simp only[zD]<;>omega|assumption) only[↓zR,↓zRM,zR,zRM,reduceAdd,reduceMul,reduceToNat,↓f25_J7,↓f25_J2,↓f25_J37,↓f25_J32,↓f25_J66,↓f25_J1,sls,T.w39,hit,hto];rw[show ((i:Int)+1+((dig (s.drop (i+1))).2:Int)+1)=((i+1+(dig (s.drop (i+1))).2+1:Nat):Int) by omega];refine T.w40 (m+4) s hs (zc6 s f) (ze5 s f) _ _ _ _ (by omega) (λi' h' q1 q2=>T.w25 s hs f (m+8) i' h' (by omega) q2 (by omega)) _ _ ?_;intro v h2 ⟨e1,e2⟩;have g:=e1.get h.n (by first|omega|(simp only[H.n_push,H.n_set];omega));rw[zk (by first|omega|(simp only[H.n_push,H.n_set];omega)),zd (by first|omega|(simp only[H.n_push,H.n_set];omega)),zc rfl] at g;have e3:Ext h h2:=Ext.trans (by repeat (first|exact Ext.refl _|assumption|refine Ext.push ?_ _|refine Ext.set ?_ (by first|omega|(simp only[H.n_push,H.n_set];omega)) _)) e1
      revert hk e2
      cases zc7 (zc6 s f) s (dig (s.drop (i+1))).1 3 [] (i+1+(dig (s.drop (i+1))).2+1) with
      | none=>
       rintro hk ⟨a,b,c,rfl⟩
       simp (disch:=first|omega|simp only[zD]<;>omega|assumption) only[↓zR,↓zRM,zR,zRM,reduceAdd,reduceMul,reduceToNat,↓f25_J7,↓f25_J2,↓f25_J37,↓f25_J32,↓f25_J66,↓f25_J1,g];exact hk _ _ ⟨e3.set (Nat.le_refl _) _,⟨_,_,_,rfl⟩⟩
      | some u=>
       rintro hk ⟨c,rfl,e4⟩
       simp (disch:=first|omega|simp only[zD]<;>omega|assumption) only[↓zR,↓zRM,zR,zRM,reduceAdd,reduceMul,reduceToNat,↓f25_J7,↓f25_J2,↓f25_J37,↓f25_J32,↓f25_J66,↓f25_J1,g];exact hk _ _ ⟨e3.set (Nat.le_refl _) _,c,rfl,(e4.set (.inl (by first|omega|(simp only[H.n_push,H.n_set];omega))) _).mono (by first|omega|(simp only[H.n_push,H.n_set];omega)) (by rw[H.n_set];exact Nat.le_refl _) λ_ _ _=>rfl⟩
     ·rw[if_neg (λq=>c6 q.2)] at hk;rw[T.c25];unfold f25;simp (disch:=first|omega|simp only[zD]<;>omega|assumption) only[↓zR,↓zRM,zR,zRM,reduceAdd,reduceMul,reduceToNat,↓f25_J7,↓f25_J2,↓f25_J37,↓f25_J32,↓f25_J66,↓f25_J1,sls,T.w39,hit,hto];exact hk _ _ ⟨(by repeat (first|exact Ext.refl _|assumption|refine Ext.push ?_ _|refine Ext.set ?_ (by first|omega|(simp only[H.n_push,H.n_set];omega)) _)),_,rfl,zL.nil _ _ _ _⟩
    ·rw[if_neg (λq=>c5 q.1)] at hk;rw[T.c25];unfold f25;simp (disch:=first|omega|simp only[zD]<;>omega|assumption) only[↓zR,↓zRM,zR,zRM,reduceAdd,reduceMul,reduceToNat,↓f25_J7,↓f25_J2,↓f25_J37,↓f25_J32,↓f25_J66,↓f25_J1,sls,T.w39,hit,hto];exact hk _ _ ⟨(by repeat (first|exact Ext.refl _|assumption|refine Ext.push ?_ _|refine Ext.set ?_ (by first|omega|(simp only[H.n_push,H.n_set];omega)) _)),_,rfl,zL.nil _ _ _ _⟩
  rw[if_neg c3] at hk
  by_cases c4:bt s i=45
  ·rw[if_pos c4] at hk
   by_cases c5:(dig (s.drop (i+1))).2=0\/(dig (s.drop (i+1))).1=0\/32768<(dig (s.drop (i+1))).1
   ·rw[if_pos c5] at hk
    by_cases c6:(dig (s.drop (i+1))).2=0
    ·rw[T.c25];unfold f25;simp (disch:=first|omega|simp only[zD]<;>omega|assumption) only[↓zR,↓zRM,zR,zRM,reduceAdd,reduceMul,reduceToNat,↓f25_J7,↓f25_J2,↓f25_J37,↓f25_J32,↓f25_J66,↓f25_J1,sls,T.w39,T.w41,hit];exact hbad _ (by repeat (first|exact Ext.refl _|assumption|refine Ext.push ?_ _|refine Ext.set ?_ (by first|omega|(simp only[H.n_push,H.n_set];omega)) _)) (by first|omega|(simp only[H.n_push,H.n_set];omega)) ⟨_,rfl,zc rfl⟩ hk
    by_cases c7:(dig (s.drop (i+1))).1=0
    ·rw[T.c25];unfold f25;simp (disch:=first|omega|simp only[zD]<;>omega|assumption) only[↓zR,↓zRM,zR,zRM,reduceAdd,reduceMul,reduceToNat,↓f25_J7,↓f25_J2,↓f25_J37,↓f25_J32,↓f25_J66,↓f25_J1,sls,T.w39,T.w41,hit];exact hbad _ (by repeat (first|exact Ext.refl _|assumption|refine Ext.push ?_ _|refine Ext.set ?_ (by first|omega|(simp only[H.n_push,H.n_set];omega)) _)) (by first|omega|(simp only[H.n_push,H.n_set];omega)) ⟨_,rfl,zc rfl⟩ hk
    ·rw[T.c25];unfold f25;simp (disch:=first|omega|simp only[zD]<;>omega|assumption) only[↓zR,↓zRM,zR,zRM,reduceAdd,reduceMul,reduceToNat,↓f25_J7,↓f25_J2,↓f25_J37,↓f25_J32,↓f25_J66,↓f25_J1,sls,T.w39,T.w41,hit];exact hbad _ (by repeat (first|exact Ext.refl _|assumption|refine Ext.push ?_ _|refine Ext.set ?_ (by first|omega|(simp only[H.n_push,H.n_set];omega)) _)) (by first|omega|(simp only[H.n_push,H.n_set];omega)) ⟨_,rfl,zc rfl⟩ hk
   ·rw[if_neg c5] at hk;rw[T.c25];unfold f25;simp (disch:=first|omega|simp only[zD]<;>omega|assumption) only[↓zR,↓zRM,zR,zRM,reduceAdd,reduceMul,reduceToNat,↓f25_J7,↓f25_J2,↓f25_J37,↓f25_J32,↓f25_J66,↓f25_J1,sls,T.w39,T.w41,hit];exact hk _ _ ⟨(by repeat (first|exact Ext.refl _|assumption|refine Ext.push ?_ _|refine Ext.set ?_ (by first|omega|(simp only[H.n_push,H.n_set];omega)) _)),_,rfl,zL.nil _ _ _ _⟩
  rw[if_neg c4] at hk
  by_cases c5:(dig (s.drop i)).2=0\/32767<(dig (s.drop i)).1
  ·rw[if_pos c5] at hk
   by_cases c6:(dig (s.drop i)).2=0
   ·rw[T.c25];unfold f25;simp (disch:=first|omega|simp only[zD]<;>omega|assumption) only[↓zR,↓zRM,zR,zRM,reduceAdd,reduceMul,reduceToNat,↓f25_J7,↓f25_J2,↓f25_J37,↓f25_J32,↓f25_J66,↓f25_J1,sls,T.w39,T.w41,hit];exact hbad _ (by repeat (first|exact Ext.refl _|assumption|refine Ext.push ?_ _|refine Ext.set ?_ (by first|omega|(simp only[H.n_push,H.n_set];omega)) _)) (by first|omega|(simp only[H.n_push,H.n_set];omega)) ⟨_,rfl,zc rfl⟩ hk
   ·rw[T.c25];unfold f25;simp (disch:=first|omega|simp only[zD]<;>omega|assumption) only[↓zR,↓zRM,zR,zRM,reduceAdd,reduceMul,reduceToNat,↓f25_J7,↓f25_J2,↓f25_J37,↓f25_J32,↓f25_J66,↓f25_J1,sls,T.w39,T.w41,hit];exact hbad _ (by repeat (first|exact Ext.refl _|assumption|refine Ext.push ?_ _|refine Ext.set ?_ (by first|omega|(simp only[H.n_push,H.n_set];omega)) _)) (by first|omega|(simp only[H.n_push,H.n_set];omega)) ⟨_,rfl,zc rfl⟩ hk
  ·rw[if_neg c5] at hk;rw[T.c25];unfold f25;simp (disch:=first|omega|simp only[zD]<;>omega|assumption) only[↓zR,↓zRM,zR,zRM,reduceAdd,reduceMul,reduceToNat,↓f25_J7,↓f25_J2,↓f25_J37,↓f25_J32,↓f25_J66,↓f25_J1,sls,T.w39,T.w41,hit];exact hk _ _ ⟨(by repeat (first|exact Ext.refl _|assumption|refine Ext.push ?_ _|refine Ext.set ?_ (by first|omega|(simp only[H.n_push,H.n_set];omega)) _)),_,rfl,zL.nil _ _ _ _⟩
end
end Am.F
end
section
namespace Am.F
open Go Am
theorem zbP{x:Int}(h:0<=x)(h':x<18446744073709551616):IntKind.u64.wrap x=x:=by
 unfold IntKind.wrap;simp only[show IntKind.u64.bits=64 from rfl,show IntKind.u64.signed=false from rfl];have:x%18446744073709551616=x:=Int.emod_eq_of_lt h h'
 simpa using this
section
variable {β:Type}
theorem zhQ(u:Nat)(k:VK β):qBin .rem (.int .u64 (u:Int)) (.int .u64 10) (.mk k)=k (.int .u64 ((u%10:Nat):Int)):=by
 show pBin .rem _ _ k=_;simp only[pBin,aInt,zH,beq_self_eq_true,cond_true,binI];rw[if_neg (by decide)];show k _=_;congr 2
theorem zdW{u:Nat}(hu:u<18446744073709551616)(k:VK β):qBin .quo (.int .u64 (u:Int)) (.int .u64 10) (.mk k)=k (.int .u64 ((u / 10:Nat):Int)):=by
 show pBin .quo _ _ k=_;simp only[pBin,aInt,zH,beq_self_eq_true,cond_true,binI];rw[if_neg (by decide)];show k (.int .u64 (IntKind.u64.wrap ((u:Int).tdiv 10)))=_;rw[show (u:Int).tdiv 10=((u / 10:Nat):Int) from rfl,zbP (by omega) (by omega)]
theorem zbK:∀s:List UInt8,zau (zo s)=some s
 | []=>rfl
 | b::s=>by
  show (zau (zo s)).map (UInt8.ofNat (b.toNat:Int).toNat::·)=_;rw[zbK s,Int.toNat_natCast];simp
theorem zRq9(s:List UInt8):(zo s).length=s.length:=by simp[zo]
theorem SlAt.b2s{h:H}{v:AV}{s:List UInt8}(hs:SlAt h v (zo s))(k:VK β):qB2s v h (.mk k)=k (.str s):=by
 rcases hs with⟨rfl,h1⟩|⟨b,o,m,g,us,rfl,h2,h3,h4,h5⟩
 ·cases s with
  | nil=>rfl
  | cons b s=>cases h1
 ·show (cells h b λcs=>cond (Nat.ble (Nat.add o (zo s).length) (lenF cs)) (zX (zau (zba (zo s).length (zbG o cs))) λs=>k (.str s)) none)=_;rw[zaK,h3,za4,zh,ble_eq,decide_eq_true (by show o+(zo s).length<=_;omega),zr,zz,h4,zbK];rfl
theorem SlAt.src{h:H}{v:AV}{cs:List AV}(hs:SlAt h v cs)(c:Nat->List AV->Option β):fSrc 1 v h c=c cs.length cs:=by
 rcases hs with⟨rfl,rfl⟩|⟨b,o,m,g,us,rfl,h2,h3,h4,h5⟩
 ·rfl
 ·show (cells h b λus=>cond (Nat.ble (Nat.add o (Nat.mul cs.length 1)) (lenF us)) (c cs.length (zba (Nat.mul cs.length 1) (zbG o us))) none)=_;rw[zaK,h3,za4,zh,ble_eq,Nat.mul_eq,Nat.mul_one,decide_eq_true (by show o+cs.length<=_;omega),zr,zz,h4];rfl
theorem zdq{h:H}{b m bytes:Nat}{x:AV}{cs new:List AV}{k:K β}{R:Option β}(hb:h.get b = .own 0 cs)(hm:cs.length=m)(hx:SlAt h x new)(hr:cs.length+new.length<room/\bytes<=1024)
  (H0:new=[]->k (.sl b 0 m m none) h=R)
  (H1:new≠[]->k (.sl h.n 0 (m+new.length) (m+new.length) (some 1)) (h.push (.own 0 (cs++new)))=R):fApp 0 1 bytes (.sl b 0 m m none) x h k=R:=by
 unfold fApp;rw[hx.src]
 by_cases hn:new=[]
 ·subst hn;simp (disch:=omega) only [zdJ,aSl,zC,ble_eq,beq_eq,zby,zbU,Nat.add_eq,List.length_nil,Nat.add_zero];exact H0 rfl
 ·have hl:0<new.length:=List.length_pos_iff.2 hn;obtain⟨hr1,hr2⟩:=hr;have e:appF (zba m (zbG 0 cs)) new=cs++new:=by
   rw[zav,zr,zz,List.drop_zero,List.take_of_length_le (by omega)]
  simp (disch:=omega) only [zdJ,aSl,zC,ble_eq,beq_eq,zby,zbU,Nat.add_eq,Nat.mul_eq,Nat.mul_one,Nat.zero_add,Nat.succ_eq_add_one,zaK,hb,zdy,za4,zh,zi4,e];exact H1 hn
variable {t:ETree}
theorem zfl(b:UInt8)(s:List UInt8):zo (b::s) = .int .u8 b.toNat::zo s:=rfl
theorem GA.w22(T:GA t)(n:Nat)(hn:24<=n)(x:Int)(h0:-9223372036854775808<=x)(h1:x<9223372036854775808)(h:H):Sp (β:=β) (za t stdI n (.fn 22 []) [.int .i64 x] h) λv h'=>Ext h h'/\v = .str (Lib.itoa x):=by
 intro k R hk;obtain⟨m,rfl⟩:∃m,n=m+1:=⟨n-1,by omega⟩
 have key:∀(u:Nat),u<10 ^ 20->u<18446744073709551616->Lib.itoa x=(if x<0 then 45::Lib.decDigits u else Lib.decDigits u)->∀x1 x3,f22_J1 m k (.int .i64 x) x1 (.int .u64 (u:Int)) x3 h=R:=by
  intro u hu hu' hx x1 x3;simp (disch:=first|omega|simp only[zD]<;>omega|assumption) only[↓zR,↓zRM,zR,zRM,reduceAdd,reduceMul,reduceToNat,↓f22_J3,↓f22_J2,↓f22_J9,↓f22_L8,↓f22_J1];refine zae 4 m _ _ (λi x0 x1 x2 x3 h'=>Ext h h'/\x0 = .int .i64 x/\∃(w:Nat) (bs:List UInt8),x2 = .int .u64 (w:Int)/\SlAt h' x3 (zo bs)/\bs.length+i=20/\w<10 ^ i/\w<=u /\
   Lib.decDigits u=if 0<w\/bs=[] then Lib.decDigits w++bs else bs) 20 (by omega) ?_ _ _ _ _ _ ⟨Ext.refl _,rfl,u,[],rfl,SlAt.nil _,rfl,hu,Nat.le_refl _,by rw[if_pos (.inr rfl),List.append_nil]⟩
  intro l i ih x0 x1 x2 x3 h' ⟨e1,q0,w,bs,q2,e2,e3,e4,e5,e6⟩;subst q0 q2;have hlen:=e2.len (β:=β)
  by_cases hc:0<w\/bs=[]
  ·rw[if_pos hc] at e6;obtain⟨i,rfl⟩:∃i',i=i'+1:=by
    cases i with
    | zero=>
     exfalso
     have:w=0:=by simpa using e4
     rcases hc with hc|hc
     ·omega
     ·subst hc;simp at e3
    | succ i=>exact⟨i,rfl⟩
   have hd:(UInt8.ofNat (48+w%10)).toNat=48+w%10:=by
    rw[UInt8.toNat_ofNat'];omega
   have hgo:l (.int .i64 x) .any (.int .u64 (w:Int)) x3 h'=R->True:=λ_=>trivial
   have hround:f22_J9 l (.int .i64 x) .any (.int .u64 (w:Int)) x3 h'=R:=by
    have hw1:IntKind.u64.wrap (48+((w%10:Nat):Int))=48+((w%10:Nat):Int):=zbP (by omega) (by omega);have hw2:IntKind.u8.wrap (48+((w%10:Nat):Int))=48+((w%10:Nat):Int):=zid (by omega) (by omega);simp (disch:=omega) only [↓f22_J9,↓zhQ,↓zdU,↓hw1];have hcv:∀(kk:VK β),zfc .u8 (.int .u64 (48+((w%10:Nat):Int))) (.mk kk)=kk (.int .u8 (48+((w%10:Nat):Int))):=λkk=>by
     show zes _ _ _=_;rw[zda,hw2]
    simp only[↓hcv];simp (disch:=first|omega|simp only[zD]<;>omega|assumption) only[↓zR,↓zRM,zR,zRM,reduceAdd,reduceMul,reduceToNat];have e7:SlAt (h'.push (.own 0 [.int .u8 (48+((w%10:Nat):Int))])) x3 (zo bs):=e2.ext ((Ext.refl _).push _);have e8:Lib.decDigits u=if 0<w / 10\/(UInt8.ofNat (48+w%10)::bs)=[] then Lib.decDigits (w / 10)++UInt8.ofNat (48+w%10)::bs else UInt8.ofNat (48+w%10)::bs:=by
     rw[e6,Lib.decDigits]
     by_cases h10:w<10
     ·rw[dif_pos h10,if_neg (by simp;omega),Nat.mod_eq_of_lt h10];rfl
     ·rw[dif_neg h10,if_pos (.inl (by omega)),List.append_assoc];rfl
    have e9:[AV.int .u8 (48+((w%10:Nat):Int))]++zo bs=zo (UInt8.ofNat (48+w%10)::bs):=by
     rw[zfl,hd];congr 2
    refine zdq (cs:=[.int .u8 (48+((w%10:Nat):Int))]) (zc rfl) rfl e7 ?_ ?_ ?_
    ·rw[zRq9];simp only[List.length_cons,List.length_nil];unfold room;omega
    ·intro hnil;have:bs=[]:=by cases bs with|nil=>rfl|cons=>cases hnil
     subst this;simp (disch:=omega) only [↓zdW];exact ih i (by omega) _ _ _ _ _ ⟨(by repeat (first|exact Ext.refl _|assumption|refine Ext.push ?_ _|refine Ext.set ?_ (by first|omega|(simp only[H.n_push,H.n_set];omega)) _)),rfl,_,_,rfl,.inr ⟨h'.n,0,1,none,[.int .u8 (48+((w%10:Nat):Int))],rfl,(by first|omega|(simp only[H.n_push,H.n_set];omega)),by rw[zc rfl];rfl,by rw[<- e9];rfl,by rw[<- e9];exact Nat.le_refl _⟩,by simp at e3 ⊢;omega,by rw[Nat.pow_succ] at e4;omega,by omega,e8⟩
    ·intro hne;simp (disch:=omega) only [↓zdW];rw[e9];exact ih i (by omega) _ _ _ _ _ ⟨(by repeat (first|exact Ext.refl _|assumption|refine Ext.push ?_ _|refine Ext.set ?_ (by first|omega|(simp only[H.n_push,H.n_set];omega)) _)),rfl,_,_,rfl,.inr ⟨h'.n+1,0,1+(zo bs).length,some 1,_,by rw[H.n_push,zRq9,zRq9,List.length_cons,Nat.add_comm bs.length 1],by rw[H.n_push,H.n_push];omega,by rw[zc (by rw[H.n_push])];rfl,by simp,by simp⟩,by rw[List.length_cons];omega,by rw[Nat.pow_succ] at e4;omega,by omega,e8⟩
   by_cases hw:0<w
   ·simp (disch:=first|omega|simp only[zD]<;>omega|assumption) only[↓zR,↓zRM,zR,zRM,reduceAdd,reduceMul,reduceToNat,↓f22_L8];exact hround
   ·have hb:bs=[]:=by rcases hc with hc|hc;exact absurd hc hw;exact hc
    subst hb;simp (disch:=first|omega|simp only[zD]<;>omega|assumption) only[↓zR,↓zRM,zR,zRM,reduceAdd,reduceMul,reduceToNat,↓f22_L8,hlen,zRq9];exact hround
  ·rw[if_neg hc] at e6;have hw:w=0:=by omega
   have hbn:bs≠[]:=λq=>hc (.inr q)
   have hbl:0<bs.length:=List.length_pos_iff.2 hbn;rw[e6] at hx
   by_cases hneg:x<0
   ·rw[if_pos hneg] at hx;simp (disch:=first|omega|simp only[zD]<;>omega|assumption) only[↓zR,↓zRM,zR,zRM,reduceAdd,reduceMul,reduceToNat,↓f22_J3,↓f22_J2,↓f22_J9,↓f22_L8,↓f22_J1,hlen,zRq9];have e7:SlAt (h'.push (.own 0 [.int .u8 45])) x3 (zo bs):=e2.ext ((Ext.refl _).push _);refine zdq (cs:=[.int .u8 45]) (zc rfl) rfl e7 ?_ ?_ ?_
    ·rw[zRq9];simp only[List.length_cons,List.length_nil];unfold room;omega
    ·intro hnil;cases bs with
     | nil=>exact absurd rfl hbn
     | cons=>cases hnil
    ·intro _;have e9:[AV.int .u8 45]++zo bs=zo (45::bs):=rfl;rw[e9];have e10:SlAt ((h'.push (.own 0 [.int .u8 45])).push (.own 0 (zo (45::bs)))) (.sl (h'.n+1) 0 (1+(zo bs).length) (1+(zo bs).length) (some 1)) (zo (45::bs)) :=
      .inr ⟨_,0,_,_,_,by rw[zRq9,zRq9,List.length_cons,Nat.add_comm bs.length 1],(by first|omega|(simp only[H.n_push,H.n_set];omega)),by rw[zc (by rw[H.n_push])];rfl,by simp,by simp⟩
     simp (disch:=first|omega|simp only[zD]<;>omega|assumption) only[↓zR,↓zRM,zR,zRM,reduceAdd,reduceMul,reduceToNat,↓f22_J3,↓f22_J2,↓f22_J9,↓f22_L8,↓f22_J1,e10.b2s];exact hk _ _ ⟨(by repeat (first|exact Ext.refl _|assumption|refine Ext.push ?_ _|refine Ext.set ?_ (by first|omega|(simp only[H.n_push,H.n_set];omega)) _)),by rw[hx]⟩
   ·rw[if_neg hneg] at hx;simp (disch:=first|omega|simp only[zD]<;>omega|assumption) only[↓zR,↓zRM,zR,zRM,reduceAdd,reduceMul,reduceToNat,↓f22_J3,↓f22_J2,↓f22_J9,↓f22_L8,↓f22_J1,hlen,zRq9,e2.b2s];exact hk _ _ ⟨e1,by rw[hx]⟩
 rw[T.c22];unfold f22
 by_cases hneg:x<0
 ·have k1:=key x.natAbs (by omega) (by omega) (by rw[Lib.itoa,if_pos hneg,if_pos hneg]);have w1:IntKind.u64.wrap (-(x+1)) = -(x+1):=zbP (by omega) (by omega);have w2:IntKind.u64.wrap (-(x+1)+1) = -(x+1)+1:=zbP (by omega) (by omega);have w3:-(x+1)+1=(x.natAbs:Int):=by omega
  have hcv:∀(z:Int) (kk:VK β),zfc .u64 (.int .i64 z) (.mk kk)=kk (.int .u64 (IntKind.u64.wrap z)):=λz kk=>by
   show zes _ _ _=_;rw[zda]
  simp (disch:=omega) only [↓zR,↓zRM,zR,zRM,hcv,w1];have w4:IntKind.u64.wrap (x.natAbs:Int)=(x.natAbs:Int):=zbP (by omega) (by omega);simp only[↓zdU,w3,w4,nth0,nthS,nthN];exact k1 _ _
 ·have k1:=key x.toNat (by omega) (by omega) (by rw[Lib.itoa,if_neg hneg,if_neg hneg]);have w1:IntKind.u64.wrap x=(x.toNat:Int):=by rw[zbP (by omega) (by omega)];omega
  have hcv:∀(z:Int) (kk:VK β),zfc .u64 (.int .i64 z) (.mk kk)=kk (.int .u64 (IntKind.u64.wrap z)):=λz kk=>by
   show zes _ _ _=_;rw[zda]
  simp (disch:=omega) only [↓zR,↓zRM,zR,zRM,hcv,w1];exact k1 _ _
def refP(s:List UInt8):Option Ct:=if s.length<=1024 then (match zc6 s (s.length+1) 0 with
 | some c=>if c.to=s.length then some c else none
 | none=>none) else none
theorem GA.w12(T:GA t)(n:Nat)(hn:2070<=n)(s:List UInt8)(hs:s.length<=9223372036854775807)(h:H):Sp (β:=β) (za t stdI n (.fn 12 []) [.str s] h) λv h'=>Ext h h' /\
  match refP s with
  | some u=>∃c,v = .tup [.int .i64 u.kind,.int .i64 u.num,c,.int .i64 0]/\zL h' h.n h'.n 1 c (strs u.kids)
  | none=>v = .tup [.int .i64 0,.int .i64 0,.nils,.int .i64 200]:=by
 intro k R hk;obtain⟨m,rfl⟩:∃m,n=m+1:=⟨n-1,by omega⟩
 unfold refP at hk;rw[T.c12];unfold f12
 by_cases c1:s.length<=1024
 ·rw[if_pos c1] at hk;simp (disch:=first|omega|simp only[zD]<;>omega|assumption) only[↓zR,↓zRM,zR,zRM,reduceAdd,reduceMul,reduceToNat,↓f12_J3,↓f12_J0];refine T.w25 s hs (s.length+1) m 0 h (by omega) (by omega) (by omega) _ _ ?_;intro v h1 ⟨e1,e2⟩
  revert hk e2
  cases zc6 s (s.length+1) 0 with
  | none=>
   rintro hk ⟨a,b,c,rfl⟩
   simp (disch:=first|omega|simp only[zD]<;>omega|assumption) only[↓zR,↓zRM,zR,zRM,reduceAdd,reduceMul,reduceToNat,↓f12_J3,↓f12_J0];exact hk _ _ ⟨Ext.set (Ext.push e1 _) e1.n _,rfl⟩
  | some u=>
   rintro hk ⟨c,rfl,e3⟩
   by_cases c2:u.to=s.length
   ·simp only[if_pos c2] at hk;simp (disch:=first|omega|simp only[zD]<;>omega|assumption) only[↓zR,↓zRM,zR,zRM,reduceAdd,reduceMul,reduceToNat,↓f12_J3,↓f12_J0,c2];exact hk _ _ ⟨Ext.set (Ext.push e1 _) e1.n _,c,rfl,e3.mono (Nat.le_refl _) (by first|omega|(simp only[H.n_push,H.n_set];omega)) λi h2 h3=>by rw[zk (by omega),zd (by omega)]⟩
   ·simp only[if_neg c2] at hk;simp (disch:=first|omega|simp only[zD]<;>omega|assumption) only[↓zR,↓zRM,zR,zRM,reduceAdd,reduceMul,reduceToNat,↓f12_J3,↓f12_J0,c2];exact hk _ _ ⟨Ext.set (Ext.push e1 _) e1.n _,rfl⟩
 ·rw[if_neg c1] at hk;simp (disch:=first|omega|simp only[zD]<;>omega|assumption) only[↓zR,↓zRM,zR,zRM,reduceAdd,reduceMul,reduceToNat,↓f12_J3,↓f12_J0];exact hk _ _ ⟨Ext.refl _,rfl⟩
theorem GA.w18(T:GA t)(n:Nat)(hn:2071<=n)(s:List UInt8)(hs:s.length<=9223372036854775807)(h:H):Sp (β:=β) (za t stdI n (.fn 18 []) [.str s] h) λv h'=>Ext h h'/\v = .bool (refP s).isSome:=by
 intro k R hk;obtain⟨m,rfl⟩:∃m,n=m+1:=⟨n-1,by omega⟩
 rw[T.c18];unfold f18;simp (disch:=first|omega|simp only[zD]<;>omega|assumption) only[↓zR,↓zRM,zR,zRM,reduceAdd,reduceMul,reduceToNat];refine T.w12 m (by omega) s hs h _ _ ?_;intro v h1 ⟨e1,e2⟩
 revert hk e2
 cases refP s with
 | none=>
  rintro hk rfl
  simp (disch:=first|omega|simp only[zD]<;>omega|assumption) only[↓zR,↓zRM,zR,zRM,reduceAdd,reduceMul,reduceToNat];exact hk _ _ ⟨e1,rfl⟩
 | some u=>
  rintro hk ⟨c,rfl,e3⟩
  simp (disch:=first|omega|simp only[zD]<;>omega|assumption) only[↓zR,↓zRM,zR,zRM,reduceAdd,reduceMul,reduceToNat];exact hk _ _ ⟨e1,rfl⟩
theorem GA.w16(T:GA t)(n:Nat)(x:Int)(h:H)(k:K β):zg (za t stdI (n+1)) (.fn 16 []) [.int .i64 x] h (.mk k)=k (.int .i64 x) h:=by
 rw[T.q16];unfold f16;simp (disch:=first|omega|simp only[zD]<;>omega|assumption) only[↓zR,↓zRM,zR,zRM,reduceAdd,reduceMul,reduceToNat]
def zjI(h:H)(lo:Nat)(v:AV)(cs:List AV):Prop:=∃b,lo<=b/\b<h.n/\h.get b = .own 0 cs/\(v = .sl b 0 cs.length cs.length none\/v = .sl b 0 cs.length cs.length (some 1)/\cs≠[])
theorem zjI.sl{h:H}{lo:Nat}{v:AV}{cs:List AV}(hs:zjI h lo v cs):SlAt h v cs:=by
 obtain⟨b,h1,h2,h3,rfl|⟨rfl,_⟩⟩:=hs
 ·exact .inr ⟨b,0,_,_,cs,rfl,h2,by rw[h3];rfl,by simp,by simp⟩
 ·exact .inr ⟨b,0,_,_,cs,rfl,h2,by rw[h3];rfl,by simp,by simp⟩
def LentAt(h:H)(lo:Nat)(v:AV)(xs:List (List UInt8)):Prop :=
 ∃b,lo<=b/\b<h.n/\v = .sl b 0 xs.length (xs.length+2) (some 1)/\h.get b = .own 0 (strs xs++[.str [126,114,111,111,109],.str [126,98,101,104,105,110,100]])
theorem LentAt.sl{h:H}{lo:Nat}{v:AV}{xs:List (List UInt8)}(hs:LentAt h lo v xs):SlAt h v (strs xs):=by
 obtain⟨b,h1,h2,rfl,h3⟩:=hs;refine .inr ⟨b,0,_,_,_,by rw[zZ],h2,by rw[h3];rfl,by simp,by simp[zZ]⟩
end
end Am.F
end
