/- Texts that belong together: no condition. -/
import Derived.Test.YtlidemdbimpkaaaDoorAmJd
import Derived.Test.YtlidemdbimpkaaaDoorAmJe
open Nat (reduceAdd reduceMul)
open Int (reduceToNat)
set_option maxRecDepth 100000
set_option linter.unusedVariables false
set_option linter.unusedSimpArgs false
set_option linter.defProp false
section
namespace Am.F
open Go Am
def stop(b:UInt8):Bool:=b==32||b==40||b==41
def wA(s:List UInt8):List UInt8:=s.takeWhile λb=>!stop b
def wB(s:List UInt8):List UInt8:=s.dropWhile λb=>!stop b
theorem zjP(s:List UInt8):wA s++wB s=s:=List.takeWhile_append_dropWhile
theorem zjR(s:List UInt8):(wA s).length<=s.length:=by
 have:=congrArg List.length (zjP s);rw[List.length_append] at this;omega
theorem wB_len(s:List UInt8):(wB s).length<=s.length:=by
 have:=congrArg List.length (zjP s);rw[List.length_append] at this;omega
theorem zjQ(s:List UInt8):s.take (wA s).length=wA s:=by
 conv=>lhs;arg 2;rw[<- zjP s]
 exact List.take_left
theorem zjO(s:List UInt8):s.drop (wA s).length=wB s:=by
 conv=>lhs;arg 2;rw[<- zjP s]
 exact List.drop_left
theorem zfa:∀s:List UInt8,Lib.indexAny s [32,40,41]=if (wA s).length<s.length then ((wA s).length:Int) else -1
 | []=>rfl
 | b::s=>by
  have ih:=zfa s;have hc:[32,40,41].contains b=stop b:=by simp only[stop,List.contains_cons,List.contains_nil,Bool.or_false,Bool.or_assoc]
  rw[Lib.indexAny,hc];cases hb:stop b with
  | true=>simp[wA,hb]
  | false=>
   have:(wA (b::s)).length=(wA s).length+1:=by simp[wA,hb]
   rw[this,ih];have:=zjR s
   by_cases h1:(wA s).length<s.length
   ·have h3:¬ (((wA s).length:Int) = -1):=by omega
    simp[h1,h3]
   ·simp[h1]
def numX(w:List UInt8):Int:=match Lib.atoiAll w with
 | .ok x=>x
 | .range=>Lib.atoiSat w
 | _=>0
def okX(w:List UInt8):Bool:=match Lib.atoiAll w with
 | .ok _=>true
 | _=>false
def numP(w:List UInt8):Bool:=decide (okX w=true/\(-32768<=numX w/\numX w<=32767)/\Lib.itoa (numX w)=w)
def digP(most:Int)(w:List UInt8):Bool:=decide (okX w=true/\(0<=numX w/\numX w<=most)/\Lib.itoa (numX w)=w)
def tagP(w:List UInt8):Bool:=decide ([64] <+: w)&&digP 99 (w.drop 1)
def tagX(w:List UInt8):Int:=numX (if [64] <+: w then w.drop 1 else w)
theorem ziY(w:List UInt8):∃e,zjL w = .tup [.int .i64 (numX w),e]/\((okX w=true/\e = .nili)\/(okX w=false/\e = .opq)):=by
 unfold zjL numX okX;cases Lib.atoiAll w<;>exact⟨_,rfl,by simp⟩
theorem zkP(w:List UInt8):-9223372036854775808<=numX w/\numX w<=9223372036854775807:=by
 unfold numX;cases h:Lib.atoiAll w with
 | ok x=>
  show -9223372036854775808<=x/\x<=9223372036854775807;cases w with
  | nil=>cases h
  | cons c r=>
   simp only[Lib.atoiAll] at h;split at h
   ·cases h
   ·cases h
   ·rename_i u hu;split at h
    ·cases h
    ·split at h
     ·cases h
     ·cases h;split<;>omega
 | range=>show -9223372036854775808<=Lib.atoiSat w/\Lib.atoiSat w<=9223372036854775807;unfold Lib.atoiSat;split<;>omega
 | _=>show (-9223372036854775808:Int)<=0/\(0:Int)<=9223372036854775807;omega
structure Tm where
 kind:Int
 num:Int
 kids:List (List UInt8)
 rest:List UInt8
def zcP(x:Int)(kids:List (List UInt8))(r:List UInt8):Option Tm:=if [41] <+: r then some ⟨2,x,kids,r.drop 1⟩ else none
def cutK(cut:List UInt8->Option Tm)(x:Int):Nat->List (List UInt8)->List UInt8->Option Tm
 | 0,kids,r=>zcP x kids r
 | m+1,kids,r=>match cut (r.drop 1) with
  | none=>none
  | some t=>if [32] <+: t.rest then cutK cut x m (kids++[(r.drop 1).take ((r.drop 1).length-t.rest.length)]) t.rest
   else zcP x (kids++[(r.drop 1).take ((r.drop 1).length-t.rest.length)]) t.rest
def cutP:Nat->List UInt8->Option Tm
 | 0,_=>none
 | f+1,s=>
  if wA s=[95] then some ⟨0,0,[],wB s⟩
  else if wA s=[33] then some ⟨3,0,[],wB s⟩
  else if numP (wA s)=true then some ⟨1,numX (wA s),[],wB s⟩
  else if tagP (wA s)=true then (if [40] <+: wB s then cutK (cutP f) (tagX (wA s)) 3 [] (wB s) else some ⟨2,tagX (wA s),[],wB s⟩)
  else none
theorem zeG{x:Int}{kids:List (List UInt8)}{r:List UInt8}{t:Tm}(h:zcP x kids r=some t):t.rest.length<=r.length:=by
 unfold zcP at h;split at h
 ·cases h;simp
 ·cases h
theorem zgQ{cut:List UInt8->Option Tm}(hc:∀s t,cut s=some t->t.rest.length<=s.length){x:Int}:∀(m:Nat) {kids:List (List UInt8)} {r:List UInt8} {t:Tm},cutK cut x m kids r=some t->t.rest.length<=r.length
 | 0,kids,r,t,h=>zeG h
 | m+1,kids,r,t,h=>by
  simp only[cutK] at h;split at h
  ·cases h
  ·rename_i u hu;have h1:=hc _ _ hu;rw[List.length_drop] at h1;split at h
   ·have:=zgQ hc m h;omega
   ·have:=zeG h;omega
theorem zgP:∀(f:Nat) {s:List UInt8} {t:Tm},cutP f s=some t->t.rest.length<=s.length
 | 0,s,t,h=>by cases h
 | f+1,s,t,h=>by
  have h0:=wB_len s;simp only[cutP] at h;split at h
  ·cases h;exact h0
  split at h
  ·cases h;exact h0
  split at h
  ·cases h;exact h0
  split at h
  ·split at h
   ·have:=zgQ (λs t h=>zgP f h) 3 h;omega
   ·cases h;exact h0
  ·cases h
def CutAt(h:H)(lo:Nat)(v:AV):Option Tm->Prop
 | none=>∃a b c d,v = .tup [a,b,c,.str d,.bool false]
 | some t=>∃c,v = .tup [.int .i64 t.kind,.int .i64 t.num,c,.str t.rest,.bool true]/\zat h lo h.n 1 c (strs t.kids)
section
variable {β:Type} {t:ETree}
theorem isPre_b(s p:List UInt8):decide (p <+: s)=(decide (p.length<=s.length)&&decide (s.take p.length=p)):=by
 rw[Bool.eq_iff_iff];simp only[Bool.and_eq_true,decide_eq_true_eq,List.prefix_iff_eq_take];constructor
 ·intro h;exact⟨by have:=congrArg List.length h;rw[List.length_take] at this;omega,h.symm⟩
 ·intro h;exact h.2.symm
theorem pSlS_hi{s:List UInt8}{kd:IntKind}{i:Int}(h0:0<=i)(h1:i<=s.length)(k:VK β):pSlS false true (.str s) [.int kd i] k=k (.str (s.take i.toNat)):=by
 obtain⟨j,rfl⟩:=Int.eq_ofNat_of_zero_le h0;have hb:zak false true false [.int kd (j:Int)] s.length s.length=some (0,j,s.length):=by
  simp only[zak,zab,if_pos h0,Option.bind_some,Int.toNat_natCast];rw[if_pos (by omega)]
 simp only[pSlS,aStr,bnd,zu,hb,zP,zN,zT,List.drop_zero,Int.toNat_natCast]
theorem pSlS_lo{s:List UInt8}{kd:IntKind}{i:Int}(h0:0<=i)(h1:i<=s.length)(k:VK β):pSlS true false (.str s) [.int kd i] k=k (.str (s.drop i.toNat)):=by
 obtain⟨j,rfl⟩:=Int.eq_ofNat_of_zero_le h0;have hb:zak true false false [.int kd (j:Int)] s.length s.length=some (j,s.length,s.length):=by
  simp only[zak,zab,if_pos h0,Option.bind_some,Int.toNat_natCast];rw[if_pos (by omega)]
 simp only[pSlS,aStr,bnd,zu,hb,zP,zN,zT,List.take_length,Int.toNat_natCast]
theorem pSlS_lh{s:List UInt8}{kd kd':IntKind}{i i':Int}(h0:0<=i)(h1:i<=i')(h2:i'<=s.length)(k:VK β):pSlS true true (.str s) [.int kd i,.int kd' i'] k=k (.str ((s.take i'.toNat).drop i.toNat)):=by
 obtain⟨j,rfl⟩:=Int.eq_ofNat_of_zero_le h0;obtain⟨j',rfl⟩:=Int.eq_ofNat_of_zero_le (show 0<=i' by omega);have hb:zak true true false [.int kd (j:Int),.int kd' (j':Int)] s.length s.length=some (j,j',s.length):=by
  simp only[zak,zab,if_pos h0,if_pos (show (0:Int)<=(j':Int) by omega),Option.bind_some,Int.toNat_natCast];rw[if_pos (by omega)]
 simp only[pSlS,aStr,bnd,zu,hb,zP,zN,zT,Int.toNat_natCast]
theorem sls{β:Type}:(∀{s:List UInt8} {kd:IntKind} {i:Int},0<=i->i<=s.length->∀k:VK β,qSlS false true (.str s) [.int kd i] (.mk k)=k (.str (s.take i.toNat))) /\
  (∀{s:List UInt8} {kd:IntKind} {i:Int},0<=i->i<=s.length->∀k:VK β,qSlS true false (.str s) [.int kd i] (.mk k)=k (.str (s.drop i.toNat))) /\
  ∀{s:List UInt8} {kd kd':IntKind} {i i':Int},0<=i->i<=i'->i'<=s.length->∀k:VK β,qSlS true true (.str s) [.int kd i,.int kd' i'] (.mk k)=k (.str ((s.take i'.toNat).drop i.toNat)) :=
 ⟨pSlS_hi,pSlS_lo,pSlS_lh⟩
theorem GA.w47(T:GA t)(n:Nat)(s p:List UInt8)(h:H)(k:K β):qCall (zd t stdI (n+1)) (.fn 47 []) [.str s,.str p] h (.mk k)=k (.bool (decide (p <+: s))) h:=by
 rw[T.q47,isPre_b];unfold f47
 by_cases h1:p.length<=s.length
 ·simp (disch:=first|omega|simp only[zD]<;>omega|assumption) only[↓zR,↓zRM,zR,zRM,reduceAdd,reduceMul,reduceToNat,sls,h1,decide_true,Bool.true_and]
 ·simp (disch:=first|omega|simp only[zD]<;>omega|assumption) only[↓zR,↓zRM,zR,zRM,reduceAdd,reduceMul,reduceToNat,sls,h1,decide_false,Bool.false_and]
theorem GA.w36(T:GA t)(n:Nat)(s p:List UInt8)(h:H)(k:K β):qCall (zd t stdI (n+2)) (.fn 36 []) [.str s,.str p] h (.mk k)=k (.bool (decide (p <+: s))) h:=by
 rw[T.q36];unfold f36;simp (disch:=first|omega|simp only[zD]<;>omega|assumption) only[↓zR,↓zRM,zR,zRM,reduceAdd,reduceMul,reduceToNat,T.w47]
theorem GA.w48(T:GA t)(n:Nat)(s p:List UInt8)(h:H)(k:K β):qCall (zd t stdI (n+2)) (.fn 48 []) [.str s,.str p] h (.mk k)=k (.tup [.str (if p <+: s then s.drop p.length else s),.bool (decide (p <+: s))]) h:=by
 rw[T.q48];unfold f48
 by_cases h1:p <+: s
 ·have:=h1.length_le
  simp (disch:=first|omega|simp only[zD]<;>omega|assumption) only[↓zR,↓zRM,zR,zRM,reduceAdd,reduceMul,reduceToNat,↓f48_J0,T.w47,h1,sls,decide_true,if_true]
 ·simp (disch:=first|omega|simp only[zD]<;>omega|assumption) only[↓zR,↓zRM,zR,zRM,reduceAdd,reduceMul,reduceToNat,↓f48_J0,T.w47,h1,sls,decide_false,if_false]
theorem GA.w37(T:GA t)(n:Nat)(s p:List UInt8)(h:H)(k:K β):qCall (zd t stdI (n+3)) (.fn 37 []) [.str s,.str p] h (.mk k)=k (.tup [.str (if p <+: s then s.drop p.length else s),.bool (decide (p <+: s))]) h:=by
 rw[T.q37];unfold f37;simp (disch:=first|omega|simp only[zD]<;>omega|assumption) only[↓zR,↓zRM,zR,zRM,reduceAdd,reduceMul,reduceToNat,T.w48]
theorem GA.w28(T:GA t)(n:Nat)(x:Int)(h:H)(k:K β):qCall (zd t stdI (n+1)) (.fn 28 []) [.int .i64 x] h (.mk k)=k (.bool (decide (-32768<=x/\x<=32767))) h:=by
 rw[T.q28];unfold f28
 by_cases h1:-32768<=x
 ·simp (disch:=first|omega|simp only[zD]<;>omega|assumption) only[↓zR,↓zRM,zR,zRM,reduceAdd,reduceMul,reduceToNat,h1,true_and]
 ·simp (disch:=first|omega|simp only[zD]<;>omega|assumption) only[↓zR,↓zRM,zR,zRM,reduceAdd,reduceMul,reduceToNat,h1,false_and,decide_false]
theorem GA.w33(T:GA t)(L:GI t)(n:Nat)(s:List UInt8)(hs:s.length<4294967281)(h:H)(k:K β):qCall (zd t stdI (n+2)) (.fn 33 []) [.str s] h (.mk k)=k (.tup [.str (wA s),.str (wB s)]) h:=by
 rw[T.q33];unfold f33;have hl:=zjR s;simp only[nth0,nthS];rw[L.w44 n s hs,zfa]
 by_cases h1:(wA s).length<s.length
 ·rw[if_pos h1];simp (disch:=first|omega|simp only[zD]<;>omega|assumption) only[↓zR,↓zRM,zR,zRM,reduceAdd,reduceMul,reduceToNat,↓f33_J1,sls,zjQ,zjO]
 ·rw[if_neg h1];have h2:(wA s).length=s.length:=by omega
  have h3:=zjQ s;have h4:=zjO s
  rw[h2] at h3 h4;simp (disch:=first|omega|simp only[zD]<;>omega|assumption) only[↓zR,↓zRM,zR,zRM,reduceAdd,reduceMul,reduceToNat,↓f33_J1,sls,h3,h4]
theorem GA.w34(T:GA t)(L:GI t)(n:Nat)(s:List UInt8)(hs:s.length<4294967281)(h:H)(k:K β):qCall (zd t stdI (n+2)) (.fn 34 []) [.str s] h (.mk k)=k (.tup [.int .i64 (numX s),.bool (numP s)]) h:=by
 rw[T.q34];unfold f34;simp only[nth0,nthS];rw[L.w45 n s (by omega)];obtain⟨e,h1,h2⟩:=ziY s;obtain⟨h3,h4⟩:=zkP s;rw[h1];unfold numP;rcases h2 with⟨h2,rfl⟩|⟨h2,rfl⟩
 ·by_cases h5:-32768<=numX s/\numX s<=32767
  ·simp (disch:=first|omega|simp only[zD]<;>omega|assumption) only[↓zR,↓zRM,zR,zRM,reduceAdd,reduceMul,reduceToNat,T.w28,L.w29,Bool.not_false,h2,h5,true_and,decide_true]
  ·simp (disch:=first|omega|simp only[zD]<;>omega|assumption) only[↓zR,↓zRM,zR,zRM,reduceAdd,reduceMul,reduceToNat,T.w28,L.w29,Bool.not_false,h2,h5,false_and,and_false,decide_false,decide_true]
 ·simp (disch:=first|omega|simp only[zD]<;>omega|assumption) only[↓zR,↓zRM,zR,zRM,reduceAdd,reduceMul,reduceToNat,h2,Bool.false_eq_true,false_and,decide_false]
theorem GA.w46(T:GA t)(L:GI t)(n:Nat)(s:List UInt8)(hs:s.length<4294967281)(most:Int)(h:H)(k:K β):qCall (zd t stdI (n+2)) (.fn 46 []) [.str s,.int .i64 most] h (.mk k)=k (.tup [.int .i64 (numX s),.bool (digP most s)]) h:=by
 rw[T.q46];unfold f46;simp only[nth0,nthS];rw[L.w45 n s (by omega)];obtain⟨e,h1,h2⟩:=ziY s;obtain⟨h3,h4⟩:=zkP s;rw[h1];unfold digP;rcases h2 with⟨h2,rfl⟩|⟨h2,rfl⟩
 ·by_cases h5:0<=numX s
  ·by_cases h6:numX s<=most
   ·simp (disch:=first|omega|simp only[zD]<;>omega|assumption) only[↓zR,↓zRM,zR,zRM,reduceAdd,reduceMul,reduceToNat,L.w29,Bool.not_false,h2,h5,h6,true_and,and_true,decide_true]
   ·simp (disch:=first|omega|simp only[zD]<;>omega|assumption) only[↓zR,↓zRM,zR,zRM,reduceAdd,reduceMul,reduceToNat,L.w29,Bool.not_false,h2,h5,h6,false_and,and_false,decide_false,decide_true]
  ·simp (disch:=first|omega|simp only[zD]<;>omega|assumption) only[↓zR,↓zRM,zR,zRM,reduceAdd,reduceMul,reduceToNat,L.w29,Bool.not_false,h2,h5,false_and,and_false,decide_false,decide_true]
 ·simp (disch:=first|omega|simp only[zD]<;>omega|assumption) only[↓zR,↓zRM,zR,zRM,reduceAdd,reduceMul,reduceToNat,h2,Bool.false_eq_true,false_and,decide_false]
theorem GA.w35(T:GA t)(L:GI t)(n:Nat)(s:List UInt8)(hs:s.length<4294967281)(h:H)(k:K β):qCall (zd t stdI (n+4)) (.fn 35 []) [.str s] h (.mk k)=k (.tup [.int .i64 (tagX s),.bool (tagP s)]) h:=by
 rw[T.q35];unfold f35;simp only[nth0,nthS];rw[T.w37];unfold tagX tagP;have hd:(s.drop 1).length<4294967281:=by rw[List.length_drop];omega
 by_cases h1:[64] <+: s
 ·rw[if_pos h1];simp (disch:=first|omega|simp only[zD]<;>omega|assumption) only[↓zR,↓zRM,zR,zRM,reduceAdd,reduceMul,reduceToNat,T.w46 L,h1,decide_true,Bool.true_and]
 ·rw[if_neg h1];simp (disch:=first|omega|simp only[zD]<;>omega|assumption) only[↓zR,↓zRM,zR,zRM,reduceAdd,reduceMul,reduceToNat,T.w46 L,h1,decide_false,Bool.false_and]
theorem GA.w24(T:GA t)(L:GI t):∀(f n:Nat) (s:List UInt8) (h:H),s.length<f->s.length<4294967281->f+8<=n ->
  Sp (β:=β) (zd t stdI n (.fn 24 []) [.str s] h) λv h'=>Ext h h'/\CutAt h' h.n v (cutP f s)
 | 0,n,s,h,h1,h2,h3=>by omega
 | f+1,n,s,h,h1,h2,h3=>by
  intro k R hk;obtain⟨m,rfl⟩:∃m,n=m+9:=⟨n-9,by omega⟩
  have ha:=zjR s;have hb:=wB_len s;simp only[cutP] at hk
  by_cases c1:wA s=[95]
  ·rw[if_pos c1] at hk;rw[T.c24];unfold f24;simp (disch:=first|omega|simp only[zD]<;>omega|assumption) only[↓zR,↓zRM,zR,zRM,reduceAdd,reduceMul,reduceToNat,↓f24_J10,↓f24_J23,↓f24_J15,↓f24_L14,↓f24_J9,↓f24_J5,↓f24_J4,↓f24_J3,T.w33 L,c1];exact hk _ _ ⟨Ext.refl _,_,rfl,zat.nil _ _ _ _⟩
  rw[if_neg c1] at hk
  by_cases c2:wA s=[33]
  ·rw[if_pos c2] at hk;rw[T.c24];unfold f24;simp (disch:=first|omega|simp only[zD]<;>omega|assumption) only[↓zR,↓zRM,zR,zRM,reduceAdd,reduceMul,reduceToNat,↓f24_J10,↓f24_J23,↓f24_J15,↓f24_L14,↓f24_J9,↓f24_J5,↓f24_J4,↓f24_J3,T.w33 L,c1,c2];exact hk _ _ ⟨Ext.refl _,_,rfl,zat.nil _ _ _ _⟩
  rw[if_neg c2] at hk
  by_cases c3:numP (wA s)=true
  ·rw[if_pos c3] at hk;rw[T.c24];unfold f24;simp (disch:=first|omega|simp only[zD]<;>omega|assumption) only[↓zR,↓zRM,zR,zRM,reduceAdd,reduceMul,reduceToNat,↓f24_J10,↓f24_J23,↓f24_J15,↓f24_L14,↓f24_J9,↓f24_J5,↓f24_J4,↓f24_J3,T.w33 L,T.w34 L,c1,c2,c3];exact hk _ _ ⟨Ext.refl _,_,rfl,zat.nil _ _ _ _⟩
  rw[if_neg c3] at hk;rw[Bool.not_eq_true] at c3
  by_cases c4:tagP (wA s)=true
  ·rw[if_pos c4] at hk
   by_cases c5:[40] <+: wB s
   ·rw[if_pos c5] at hk;generalize hz:cutK (cutP f) (tagX (wA s)) 3 [] (wB s)=z at hk;rw[T.c24];unfold f24;simp (disch:=first|omega|simp only[zD]<;>omega|assumption) only[↓zR,↓zRM,zR,zRM,reduceAdd,reduceMul,reduceToNat,↓f24_J10,↓f24_J23,↓f24_J15,↓f24_L14,↓f24_J9,↓f24_J5,↓f24_J4,↓f24_J3,T.w33 L,T.w34 L,T.w35 L,T.w36,c1,c2,c3,c4,c5];have hcl:∀(kids:List (List UInt8)) (r:List UInt8) (c:AV) (h':H),Ext h h'->zat h' h.n h'.n 1 c (strs kids)->z=zcP (tagX (wA s)) kids r ->
      k (.tup [.int .i64 2,.int .i64 (tagX (wA s)),c,.str (if [41] <+: r then r.drop 1 else r),.bool (decide ([41] <+: r))]) h'=R:=by
     intro kids r c h' q1 q2 q3;refine hk _ _ ⟨q1,?_⟩;rw[q3];unfold zcP
     by_cases q4:[41] <+: r
     ·rw[if_pos q4,if_pos q4,decide_eq_true q4];exact⟨_,rfl,q2⟩
     ·rw[if_neg q4,if_neg q4,decide_eq_false q4];exact⟨_,_,_,_,rfl⟩
    refine zal 49 (m+8) _ _ (λi x0 x1 x2 x3 x4 x5 x6 x7 x8 x9 x10 x11 x12 x13 x14 x15 x16 x17 x18 x19 x20 x21 x22 x23 x24 x25 x26 x27 x28 x29 x30 x31 x32 x33 x34 x35 x36 x37 x38 x39 x40 x41 x42 x43 x44 x45 x46 x47 x48 h'=>Ext h h'/\∃(kids:List (List UInt8)) (r:List UInt8),x7 = .str r/\x10 = .int .i64 (tagX (wA s))/\zat h' h.n h'.n 1 x12 (strs kids)/\kids.length+i=3 /\
     1<=r.length/\r.length<=s.length/\z=cutK (cutP f) (tagX (wA s)) i kids r) 3 (by omega) ?_ _ _ _ _ _ _ _ _ _ _ _ _ _ _ _ _ _ _ _ _ _ _ _ _ _ _ _ _ _ _ _ _ _ _ _ _ _ _ _ _ _ _ _ _ _ _ _ _ _ _ ⟨Ext.refl _,[],wB s,rfl,rfl,zat.nil _ _ _ _,rfl,c5.length_le,hb,hz.symm⟩
    intro l i ih x0 x1 x2 x3 x4 x5 x6 x7 x8 x9 x10 x11 x12 x13 x14 x15 x16 x17 x18 x19 x20 x21 x22 x23 x24 x25 x26 x27 x28 x29 x30 x31 x32 x33 x34 x35 x36 x37 x38 x39 x40 x41 x42 x43 x44 x45 x46 x47 x48 h' ⟨e1,kids,r,q7,q10,e2,e3,e4,e5,e6⟩;subst q7 q10;have hs:=e2.sl (Nat.le_refl _);have hn:=e1.n;cases i with
    | zero=>
     have q2:=hcl kids r x12 h' e1 e2 e6;simp (disch:=first|omega|simp only[zD]<;>omega|assumption) only[↓zR,↓zRM,zR,zRM,reduceAdd,reduceMul,reduceToNat,↓f24_J10,↓f24_J23,↓f24_J15,↓f24_L14,↓f24_J9,↓f24_J5,↓f24_J4,↓f24_J3,hs.len,T.w37,q2]
    | succ i=>
     have hd:(r.drop 1).length=r.length-1:=by rw[List.length_drop]
     simp (disch:=first|omega|simp only[zD]<;>omega|assumption) only[↓zR,↓zRM,zR,zRM,reduceAdd,reduceMul,reduceToNat,↓f24_J10,↓f24_J23,↓f24_J15,↓f24_L14,↓f24_J9,↓f24_J5,↓f24_J4,↓f24_J3,hs.len,sls];refine GA.w24 T L f (m+8) (r.drop 1) h' (by omega) (by omega) (by omega) _ _ ?_;intro v h2 ⟨e7,e8⟩;simp only[cutK] at e6;cases hc:cutP f (r.drop 1) with
     | none=>
      rw[hc] at e8 e6;obtain⟨a,b,c,d,rfl⟩:=e8;simp (disch:=first|omega|simp only[zD]<;>omega|assumption) only[↓zR,↓zRM,zR,zRM,reduceAdd,reduceMul,reduceToNat,↓f24_J10,↓f24_J23,↓f24_J15,↓f24_L14,↓f24_J9,↓f24_J5,↓f24_J4,↓f24_J3];exact hk _ _ ⟨e1.trans e7,by rw[e6];exact⟨_,_,_,_,rfl⟩⟩
     | some u=>
      rw[hc] at e8 e6;obtain⟨c,rfl,e9⟩:=e8;have hu:=zgP f hc;have he7:=e7.n;simp (disch:=first|omega|simp only[zD]<;>omega|assumption) only[↓zR,↓zRM,zR,zRM,reduceAdd,reduceMul,reduceToNat,↓f24_J10,↓f24_J23,↓f24_J15,↓f24_L14,↓f24_J9,↓f24_J5,↓f24_J4,↓f24_J3,sls];refine fApp_one (lo:=h.n) (hi:=h'.n) (cs:=strs kids) ?_ (zf rfl) ?_ ?_
      ·exact e2.mono (Nat.le_refl _) (Nat.le_refl _) λi h1 h2=>by rw[zc (by omega),e7.get i h2]
      ·rw[H.n_push,zbo];unfold room;omega
      intro v' h3 o3 hle hget;rw[H.n_push] at hle hget;have e10:Ext h h3:=⟨by omega,λi hi=>by rw[hget i (by omega) (.inl hi),zc (by omega),e7.get i (by omega),e1.get i hi]⟩
      have e11:((r.drop 1).length-u.rest.length:Int).toNat=(r.drop 1).length-u.rest.length:=by omega
      rw[e11,<- zf4] at o3
      by_cases c6:[32] <+: u.rest
      ·simp only[if_pos c6] at e6;simp (disch:=first|omega|simp only[zD]<;>omega|assumption) only[↓zR,↓zRM,zR,zRM,reduceAdd,reduceMul,reduceToNat,↓f24_J10,↓f24_J23,↓f24_J15,↓f24_L14,↓f24_J9,↓f24_J5,↓f24_J4,↓f24_J3,T.w36,c6];exact ih i (by omega) _ _ _ _ _ _ _ _ _ _ _ _ _ _ _ _ _ _ _ _ _ _ _ _ _ _ _ _ _ _ _ _ _ _ _ _ _ _ _ _ _ _ _ _ _ _ _ _ _ _ ⟨e10,_,_,rfl,rfl,o3,by rw[List.length_append];simp only[List.length_cons,List.length_nil];omega,c6.length_le,by omega,e6⟩
      ·simp only[if_neg c6] at e6;have q2:=hcl _ _ _ _ e10 o3 e6;simp (disch:=first|omega|simp only[zD]<;>omega|assumption) only[↓zR,↓zRM,zR,zRM,reduceAdd,reduceMul,reduceToNat,↓f24_J10,↓f24_J23,↓f24_J15,↓f24_L14,↓f24_J9,↓f24_J5,↓f24_J4,↓f24_J3,T.w36,T.w37,c6,q2]
   ·rw[if_neg c5] at hk;rw[T.c24];unfold f24;simp (disch:=first|omega|simp only[zD]<;>omega|assumption) only[↓zR,↓zRM,zR,zRM,reduceAdd,reduceMul,reduceToNat,↓f24_J10,↓f24_J23,↓f24_J15,↓f24_L14,↓f24_J9,↓f24_J5,↓f24_J4,↓f24_J3,T.w33 L,T.w34 L,T.w35 L,T.w36,c1,c2,c3,c4,c5];exact hk _ _ ⟨Ext.refl _,_,rfl,zat.nil _ _ _ _⟩
  ·rw[if_neg c4] at hk;rw[Bool.not_eq_true] at c4;rw[T.c24];unfold f24;simp (disch:=first|omega|simp only[zD]<;>omega|assumption) only[↓zR,↓zRM,zR,zRM,reduceAdd,reduceMul,reduceToNat,↓f24_J10,↓f24_J23,↓f24_J15,↓f24_L14,↓f24_J9,↓f24_J5,↓f24_J4,↓f24_J3,T.w33 L,T.w34 L,T.w35 L,T.w36,c1,c2,c3,c4];exact hk _ _ ⟨Ext.refl _,_,_,_,_,rfl⟩
end
end Am.F
end
section
namespace Am.F
open Go Am
def zfo(s:List UInt8):Option Tm:=if s.length<=1024 then (match cutP (s.length+1) s with
 | some t=>if t.rest=[] then some t else none
 | none=>none) else none
def mayP(s:List UInt8):Bool:=(zfo s).isSome
def conP(x:Int)(kids:List (List UInt8)):List UInt8:=[64]++Lib.itoa x++(if 0<kids.length then [40]++Lib.join kids [32]++[41] else [])
theorem zaz:∀(k u:Nat),u<10 ^ (k+1)->(Lib.decDigits u).length<=k+1
 | 0,u,h=>by rw[Lib.decDigits,dif_pos (by simpa using h)];simp
 | k+1,u,h=>by
  rw[Lib.decDigits];split
  ·simp
  ·rw[List.length_append];have:=zaz k (u / 10) (by rw[Nat.pow_succ] at h;omega)
   simp only[List.length_cons,List.length_nil];omega
theorem ziA{x:Int}(h0:-9223372036854775808<=x)(h1:x<=9223372036854775807):(Lib.itoa x).length<=20:=by
 unfold Lib.itoa;split
 ·have:=zaz 18 x.natAbs (by omega)
  simp only[List.length_cons];omega
 ·have:=zaz 18 x.toNat (by omega)
  omega
theorem mayP_len{s:List UInt8}(h:mayP s=true):s.length<=1024:=by
 unfold mayP zfo at h;split at h
 ·assumption
 ·cases h
section
variable {β:Type} {t:ETree}
theorem GA.w17(T:GA t)(L:GI t)(n:Nat)(hn:1040<=n)(s:List UInt8)(h:H):Sp (β:=β) (zd t stdI n (.fn 17 []) [.str s] h) λv h'=>Ext h h'/\v = .bool (mayP s):=by
 intro k R hk;obtain⟨m,rfl⟩:∃m,n=m+1:=⟨n-1,by omega⟩
 rw[T.c17];unfold f17;unfold mayP zfo at hk
 by_cases c1:s.length<=1024
 ·rw[if_pos c1] at hk;simp (disch:=first|omega|simp only[zD]<;>omega|assumption) only[↓zR,↓zRM,zR,zRM,reduceAdd,reduceMul,reduceToNat,↓f17_J0];refine T.w24 L (s.length+1) _ s h (by omega) (by omega) (by omega) _ _ ?_;intro v h' ⟨e1,e2⟩;cases hc:cutP (s.length+1) s with
  | none=>
   rw[hc] at e2 hk;obtain⟨a,b,c,d,rfl⟩:=e2;simp (disch:=first|omega|simp only[zD]<;>omega|assumption) only[↓zR,↓zRM,zR,zRM,reduceAdd,reduceMul,reduceToNat,↓f17_J0];exact hk _ _ ⟨e1,rfl⟩
  | some u=>
   rw[hc] at e2 hk;obtain⟨c,rfl,e3⟩:=e2
   by_cases c2:u.rest=[]
   ·simp (disch:=first|omega|simp only[zD]<;>omega|assumption) only[↓zR,↓zRM,zR,zRM,reduceAdd,reduceMul,reduceToNat,↓f17_J0,c2];exact hk _ _ ⟨e1,by simp[c2]⟩
   ·simp (disch:=first|omega|simp only[zD]<;>omega|assumption) only[↓zR,↓zRM,zR,zRM,reduceAdd,reduceMul,reduceToNat,↓f17_J0,c2];exact hk _ _ ⟨e1,by simp[c2]⟩
 ·rw[if_neg c1] at hk;simp (disch:=first|omega|simp only[zD]<;>omega|assumption) only[↓zR,↓zRM,zR,zRM,reduceAdd,reduceMul,reduceToNat,↓f17_J0];exact hk _ _ ⟨Ext.refl _,rfl⟩
theorem GA.w11(T:GA t)(L:GI t)(n:Nat)(hn:1041<=n)(s:List UInt8)(h:H):Sp (β:=β) (zd t stdI n (.fn 11 []) [.str s] h) λv h'=>Ext h h' /\
  match zfo s with
  | some u=>∃c,v = .tup [.int .i64 u.kind,.int .i64 u.num,c,.int .i64 0]/\zat h' h.n h'.n 1 c (strs u.kids)
  | none=>v = .tup [.int .i64 0,.int .i64 0,.nils,.int .i64 200]:=by
 intro k R hk;obtain⟨m,rfl⟩:∃m,n=m+1:=⟨n-1,by omega⟩
 rw[T.c11];unfold f11;simp (disch:=first|omega|simp only[zD]<;>omega|assumption) only[↓zR,↓zRM,zR,zRM,reduceAdd,reduceMul,reduceToNat,↓f11_J0];refine T.w17 L m (by omega) s h _ _ ?_;intro u h1 ⟨e1,e2⟩;subst e2;unfold mayP;cases ht:zfo s with
 | none=>
  rw[ht] at hk;simp (disch:=first|omega|simp only[zD]<;>omega|assumption) only[↓zR,↓zRM,zR,zRM,reduceAdd,reduceMul,reduceToNat,↓f11_J0,Option.isSome_none];exact hk _ _ ⟨e1,rfl⟩
 | some u=>
  rw[ht] at hk;have hx:s.length<=1024:=mayP_len (by unfold mayP;rw[ht];rfl);simp (disch:=first|omega|simp only[zD]<;>omega|assumption) only[↓zR,↓zRM,zR,zRM,reduceAdd,reduceMul,reduceToNat,↓f11_J0,Option.isSome_some];refine T.w24 L (s.length+1) _ s h1 (by omega) (by omega) (by omega) _ _ ?_;intro v h2 ⟨e3,e4⟩;unfold zfo at ht;rw[if_pos hx] at ht;cases hc:cutP (s.length+1) s with
  | none=>rw[hc] at ht;cases ht
  | some u'=>
   rw[hc] at ht e4;simp only at ht;split at ht
   ·cases ht;obtain⟨c,rfl,e5⟩:=e4;simp (disch:=first|omega|simp only[zD]<;>omega|assumption) only[↓zR,↓zRM,zR,zRM,reduceAdd,reduceMul,reduceToNat,↓f11_J0];exact hk _ _ ⟨e1.trans e3,c,rfl,e5.mono e1.n (Nat.le_refl _) λ_ _ _=>rfl⟩
   ·cases ht
theorem GA.w27(T:GA t)(L:GI t)(n:Nat)(x:Int)(kids:List (List UInt8))(v:AV)(h:H)(hs:SlAt h v (strs kids))(h0:-9223372036854775808<=x)(h1:x<=9223372036854775807)(h2:kids.length<=140737488355328)(h3:(Lib.join kids [32]).length<=140737488355328)(k:K β) :
  qCall (zd t stdI (n+2)) (.fn 27 []) [.int .i64 x,v] h (.mk k)=k (.str (conP x kids)) h:=by
 rw[T.q27];unfold f27 conP;have hi:=ziA h0 h1
 by_cases c1:0<kids.length
 ·rw[if_pos c1];simp (disch:=first|omega|simp only[zD]<;>omega|assumption) only[↓zR,↓zRM,zR,zRM,reduceAdd,reduceMul,reduceToNat,↓f27_J2,L.w29,hs.len,L.w42 n hs]
 ·rw[if_neg c1,List.append_nil];simp (disch:=first|omega|simp only[zD]<;>omega|assumption) only[↓zR,↓zRM,zR,zRM,reduceAdd,reduceMul,reduceToNat,↓f27_J2,L.w29,hs.len]
end
end Am.F
end
section
namespace Am.F
open Go Am
def digC(s:List UInt8)(k:Nat):Prop:=k<s.length/\k<6/\48<=bt s k/\bt s k<=57/\(k=0\/bt s 0≠48)
instance (s:List UInt8) (k:Nat):Decidable (digC s k):=by unfold digC;infer_instance
def digF(s:List UInt8):Nat->Nat->Nat->Nat × Nat
 | 0,x,k=>(x,k)
 | f+1,x,k=>if digC s k then digF s f (10*x+(bt s k-48)) (k+1) else (x,k)
def dig(s:List UInt8):Nat × Nat:=digF s 7 0 0
theorem zlf(s:List UInt8):∀(f x k:Nat),k<=6->k<=s.length->x<10 ^ k->(digF s f x k).2<=6/\(digF s f x k).2<=s.length/\(digF s f x k).1<10 ^ (digF s f x k).2
 | 0,x,k,h1,h2,h3=>⟨h1,h2,h3⟩
 | f+1,x,k,h1,h2,h3=>by
  unfold digF;split
  ·rename_i hc;obtain⟨c1,c2,c3,c4,_⟩:=hc;exact zlf s f _ _ (by omega) (by omega) (by rw[Nat.pow_succ];omega)
  ·exact⟨h1,h2,h3⟩
theorem dig_bd(s:List UInt8):(dig s).2<=6/\(dig s).2<=s.length/\(dig s).1<1000000:=by
 obtain⟨h1,h2,h3⟩:=zlf s 7 0 0 (by omega) (by omega) (by decide);refine⟨h1,h2,Nat.lt_of_lt_of_le h3 ?_⟩;exact Nat.pow_le_pow_right (by decide) h1
structure Ct where
 kind:Int
 num:Int
 kids:List (List UInt8)
 to:Nat
section
variable {β:Type} {t:ETree}
end
end Am.F
end
section
namespace Am.F
open Go Am
section
variable {β:Type}
theorem zcx:∀s:List UInt8,za5 (zap s)=some s
 | []=>rfl
 | b::s=>by
  show (za5 (zap s)).map (UInt8.ofNat (b.toNat:Int).toNat::·)=_;rw[zcx s,Int.toNat_natCast];simp
theorem SlAt.b2s{h:H}{v:AV}{s:List UInt8}(hs:SlAt h v (zap s))(k:VK β):qB2s v h (.mk k)=k (.str s):=by
 rcases hs with⟨rfl,h1⟩|⟨b,o,m,g,us,rfl,h2,h3,h4,h5⟩
 ·cases s with
  | nil=>rfl
  | cons b s=>cases h1
 ·show (cells h b λcs=>cond (Nat.ble (Nat.add o (zap s).length) (lenF cs)) (zay (za5 (zbn (zap s).length (zbS o cs))) λs=>k (.str s)) none)=_;rw[zaA,h3,zbk,zu,ble_eq,decide_eq_true (by show o+(zap s).length<=_;omega),zN,zT,h4,zcx];rfl
theorem SlAt.src{h:H}{v:AV}{cs:List AV}(hs:SlAt h v cs)(c:Nat->List AV->Option β):fSrc 1 v h c=c cs.length cs:=by
 rcases hs with⟨rfl,rfl⟩|⟨b,o,m,g,us,rfl,h2,h3,h4,h5⟩
 ·rfl
 ·show (cells h b λus=>cond (Nat.ble (Nat.add o (Nat.mul cs.length 1)) (lenF us)) (c cs.length (zbn (Nat.mul cs.length 1) (zbS o us))) none)=_;rw[zaA,h3,zbk,zu,ble_eq,Nat.mul_eq,Nat.mul_one,decide_eq_true (by show o+cs.length<=_;omega),zN,zT,h4];rfl
variable {t:ETree}
theorem GA.w16(T:GA t)(n:Nat)(x:Int)(h:H)(k:K β):qCall (zd t stdI (n+1)) (.fn 16 []) [.int .i64 x] h (.mk k)=k (.int .i64 x) h:=by
 rw[T.q16];unfold f16;simp (disch:=first|omega|simp only[zD]<;>omega|assumption) only[↓zR,↓zRM,zR,zRM,reduceAdd,reduceMul,reduceToNat]
def NewAt(h:H)(lo:Nat)(v:AV)(cs:List AV):Prop:=∃b,lo<=b/\b<h.n/\h.get b = .own 0 cs/\(v = .sl b 0 cs.length cs.length none\/v = .sl b 0 cs.length cs.length (some 1)/\cs≠[])
theorem NewAt.sl{h:H}{lo:Nat}{v:AV}{cs:List AV}(hs:NewAt h lo v cs):SlAt h v cs:=by
 obtain⟨b,h1,h2,h3,rfl|⟨rfl,_⟩⟩:=hs
 ·exact .inr ⟨b,0,_,_,cs,rfl,h2,by rw[h3];rfl,by simp,by simp⟩
 ·exact .inr ⟨b,0,_,_,cs,rfl,h2,by rw[h3];rfl,by simp,by simp⟩
def zg2(h:H)(lo:Nat)(v:AV)(xs:List (List UInt8)):Prop :=
 ∃b,lo<=b/\b<h.n/\v = .sl b 0 xs.length (xs.length+2) (some 1)/\h.get b = .own 0 (strs xs++[.str [126,114,111,111,109],.str [126,98,101,104,105,110,100]])
theorem zg2.sl{h:H}{lo:Nat}{v:AV}{xs:List (List UInt8)}(hs:zg2 h lo v xs):SlAt h v (strs xs):=by
 obtain⟨b,h1,h2,rfl,h3⟩:=hs;refine .inr ⟨b,0,_,_,_,by rw[zbo],h2,by rw[h3];rfl,by simp,by simp[zbo]⟩
theorem zg2.keep{h h':H}{lo:Nat}{v:AV}{xs:List (List UInt8)}(hs:zg2 h lo v xs)(hn:h.n<=h'.n)(hg:∀i,lo<=i->i<h.n->h'.get i=h.get i):zg2 h' lo v xs:=by
 obtain⟨b,h1,h2,h3,h4⟩:=hs;exact⟨b,h1,by omega,h3,by rw[hg b h1 h2];exact h4⟩
theorem pSlL_hi{es b o l m:Nat}{g:Option Nat}{kd:IntKind}{i:Int}(hg:g=none\/g=some es)(h0:0<=i)(h1:i<=m)(k:VK β):qSlL es false true false (.sl b o l m g) [.int kd i] (.mk k)=k (.sl b o i.toNat m g):=by
 obtain⟨j,rfl⟩:=Int.eq_ofNat_of_zero_le h0;have hb:zak false true false [.int kd (j:Int)] l m=some (0,j,m):=by
  simp only[zak,zab,if_pos h0,Option.bind_some,Int.toNat_natCast];rw[if_pos (by omega)]
 show pSlL es false true false (.sl b o l m g) [.int kd (j:Int)] k=_;simp only[pSlL,aSl,bnd,hb,zP,Nat.add_eq,Nat.mul_eq,Nat.zero_mul,Nat.add_zero,Nat.sub_eq,Nat.sub_zero,Int.toNat_natCast];rcases hg with rfl|rfl
 ·rfl
 ·simp only[beq_eq,decide_true,cond_true,cond_false]
end
end Am.F
end
