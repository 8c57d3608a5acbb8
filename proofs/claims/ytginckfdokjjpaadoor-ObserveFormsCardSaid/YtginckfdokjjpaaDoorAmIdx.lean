/- strings.IndexRune,strings.IndexAny where the text is of any bytes. -/
import Derived.Shelf.Strings.IndexAnyAll
import Derived.Shelf.Small.Utf8
import Derived.Lib.SpaceUEq
import Derived.Lib.QuoteLoop
import Derived.Lib.OthersKept
import Derived.Deep.QuietTactic
import Derived.BigQuiet
import Derived.Laws.Runes
import Derived.WalkMore
import Derived.Deep.DeepBigQuietO
set_option linter.unusedVariables false
namespace Go.Proofs
open Go.Shelf Go.RowKit Go.Lib
variable {P:Program} {ρ:Ren}
theorem zhi(L:Lays.n137 P ρ)(s:ByteArray)(c:Int)(w:World)(h:Lib.indexByte s.data.toList c.toNat.toUInt8 = -1):Calls P (ρ.f 137) #[.string s,.int .u8 c] w λe w'=>e = .returned (.int .i64 (-1))/\w'=w :=
 (Any.strings_IndexByte L s c w).mono λ_ _ hh=>by rw[h] at hh;exact hh
theorem chr3:∀(i:Nat) (h:i<3),((⟨#[32,40,41]⟩:ByteArray)[i]'h).toNat<42
 | 0,_=>by show (32:UInt8).toNat<42;decide
 | 1,_=>by show (40:UInt8).toNat<42;decide
 | 2,_=>by show (41:UInt8).toNat<42;decide
 | n+3,h=>absurd h (by omega)
set_option maxHeartbeats 4000000 in
set_option maxRecDepth 1000000 in
theorem zd2(L:Lays.n152 P ρ)(r:Int)(w:World)(h0:65536<=r)(h1:r<=1114111) :
  Calls P (ρ.f 152) #[.string ⟨#[32,40,41]⟩,.int .i32 r] w λe w'=>e = .returned (.int .i64 (-1))/\w'=w:=by
 have mixed:=L.mixed;have t3:=L.t3;have a3:=L.a3;have z3:=L.z3;have v3:=L.v3
 have t4:=L.t4;have a4:=L.a4;have z4:=L.z4;have v4:=L.v4
 have t5:=L.t5;have a5:=L.a5;have z5:=L.z5;have v5:=L.v5
 have t9:=L.t9;have a9:=L.a9;have z9:=L.z9;have v9:=L.v9
 have t21:=L.t21;have a21:=L.a21;have z21:=L.z21;have v21:=L.v21
 have e119:∀args w,(callFunc (ρ.f 119) args).run P w = .ok (.enter (ρ.f 119) args) w:=enters_of L.f119 (by kernel_rfl) rfl;have e137:∀args w,(callFunc (ρ.f 137) args).run P w = .ok (.enter (ρ.f 137) args) w:=enters_of L.f137 (by kernel_rfl) rfl;have hv:Lib.validRune r=true:=by unfold Lib.validRune;exact decide_eq_true (by omega)
 have henc:∃x0 x1 x2 x3,Utf8.encode r=⟨#[x0,x1,x2,x3]⟩:=by
  unfold Utf8.encode;have:Utf8.valid r=true:=by unfold Utf8.valid;simp;omega
  simp only[this,if_true];rw[if_neg (by omega),if_neg (by omega),if_neg (by omega)];exact⟨_,_,_,_,rfl⟩
 obtain⟨x0,x1,x2,x3,henc⟩:=henc;have hcv:∀w,(convert (ρ.t 21) (ρ.t 9) (.int .i32 r)).run P w = .ok (.string ⟨#[x0,x1,x2,x3]⟩) w:=λw=>by rw[<- henc];exact run_convert_int_string w _ _ _ _ (by rw[t21];rfl) t9
 go_enter L.f152,Body.n152_ntmps ρ
 go_wp2_with ((go_at_fn (ρ.f 119);refine (Any.utf8_ValidRune { L with } _ _).mono ?_;rintro e w' ⟨rfl,hw⟩;rw[hw,hv]))
 go_step3
 go_wp2
 go_loop [9,10] (λi f=>i = .int .i64 3/\f = .int .i64 0) (λ_ _=>0)
 case atStart=>exact⟨rfl,rfl⟩
 case round=>
  obtain⟨rfl,rfl⟩:=hrel
  go_wp2
  go_ret
  exact⟨rfl,rfl⟩
set_option maxHeartbeats 4000000 in
set_option maxRecDepth 1000000 in
theorem zeU(L:Lays.n152 P ρ)(r:Int)(w:World)(h0:128<=r)(h1:r<=2047) :
  Calls P (ρ.f 152) #[.string ⟨#[32,40,41]⟩,.int .i32 r] w λe w'=>e = .returned (.int .i64 (-1))/\∃k,w'=w.drewN k:=by
 have mixed:=L.mixed;have t3:=L.t3;have a3:=L.a3;have z3:=L.z3;have v3:=L.v3
 have t4:=L.t4;have a4:=L.a4;have z4:=L.z4;have v4:=L.v4
 have t5:=L.t5;have a5:=L.a5;have z5:=L.z5;have v5:=L.v5
 have t9:=L.t9;have a9:=L.a9;have z9:=L.z9;have v9:=L.v9
 have t21:=L.t21;have a21:=L.a21;have z21:=L.z21;have v21:=L.v21
 have e119:∀args w,(callFunc (ρ.f 119) args).run P w = .ok (.enter (ρ.f 119) args) w:=enters_of L.f119 (by kernel_rfl) rfl;have e137:∀args w,(callFunc (ρ.f 137) args).run P w = .ok (.enter (ρ.f 137) args) w:=enters_of L.f137 (by kernel_rfl) rfl;have hv:Lib.validRune r=true:=by unfold Lib.validRune;exact decide_eq_true (by omega)
 have henc:∃x0 x1,Utf8.encode r=⟨#[x0,x1]⟩/\128<=x1.toNat:=by
  unfold Utf8.encode;have:Utf8.valid r=true:=by unfold Utf8.valid;simp;omega
  simp only[this,if_true];rw[if_neg (by omega),if_pos (by omega)];exact⟨_,_,rfl,by simp;omega⟩
 obtain⟨x0,x1,henc,hlast⟩:=henc;have hcv:∀w,(convert (ρ.t 21) (ρ.t 9) (.int .i32 r)).run P w = .ok (.string ⟨#[x0,x1]⟩) w:=λw=>by rw[<- henc];exact run_convert_int_string w _ _ _ _ (by rw[t21];rfl) t9
 have hlt:=x1.toNat_lt;have hq1:((40:Int)==(x1.toNat:Int))=false:=beq_eq_false_iff_ne.2 (by omega);have hq2:((((⟨#[32,40,41]⟩:ByteArray)[1]'(by decide)).toNat:Int) != (((⟨#[x0,x1]⟩:ByteArray)[1]'(by simp[ByteArray.size])).toNat:Int))=true:=by show ((40:Int) != (x1.toNat:Int))=true;rw[bne,hq1];rfl
 clear hq1;have hwr:IntKind.i64.wrap 2=2:=by decide
 have HB:Aside (((x1.toNat:Int)).toNat.toUInt8=x1):=by show ((x1.toNat:Int)).toNat.toUInt8=x1;simp
 have HI:Aside (Lib.indexByte [41] x1 = -1):=by
  have:¬ (41:UInt8)=x1:=λq=>by rw[<- q] at hlast;exact absurd hlast (by decide)
  show Lib.indexByte [41] x1 = -1;simp[Lib.indexByte,this]
 clear hlast hlt
 go_enter L.f152,Body.n152_ntmps ρ
 go_wp2_with ((go_at_fn (ρ.f 119);refine (Any.utf8_ValidRune { L with } _ _).mono ?_;rintro e w' ⟨rfl,hw⟩;rw[hw,hv]))
 go_step3
 go_wp2
 go_loop [9,10] (λi f=>i = .int .i64 1/\f = .int .i64 0) (λ_ _=>0)
 case atStart=>exact⟨rfl,rfl⟩
 case round=>
  obtain⟨rfl,rfl⟩:=hrel
  go_wp2
  go_step3
  go_wp2
  go_big_quiet_o (fail)
  go_wp2
  go_big_quiet_o ((go_at_fn (ρ.f 137);refine (zhi { L with } _ _ _ ?_).mono λ_ _ hh=>⟨hh.1,_,hh.2⟩;show Lib.indexByte [41] (((x1.toNat:Int)).toNat.toUInt8) = -1;rw[HB.out];exact HI.out))
  go_wp2
  rw[Exit.noGoto_ret];simp (config:={ zetaDelta:=true }) only [go_sem]
  go_ret
  exact⟨rfl,_,rfl⟩
set_option maxHeartbeats 4000000 in
set_option maxRecDepth 1000000 in
theorem zdk(L:Lays.n152 P ρ)(r:Int)(w:World)(h0:(2048<=r/\r<55296)\/(57343<r/\r<=65535))(h1:r≠65533) :
  Calls P (ρ.f 152) #[.string ⟨#[32,40,41]⟩,.int .i32 r] w λe w'=>e = .returned (.int .i64 (-1))/\∃k,w'=w.drewN k:=by
 have mixed:=L.mixed;have t3:=L.t3;have a3:=L.a3;have z3:=L.z3;have v3:=L.v3
 have t4:=L.t4;have a4:=L.a4;have z4:=L.z4;have v4:=L.v4
 have t5:=L.t5;have a5:=L.a5;have z5:=L.z5;have v5:=L.v5
 have t9:=L.t9;have a9:=L.a9;have z9:=L.z9;have v9:=L.v9
 have t21:=L.t21;have a21:=L.a21;have z21:=L.z21;have v21:=L.v21
 have e119:∀args w,(callFunc (ρ.f 119) args).run P w = .ok (.enter (ρ.f 119) args) w:=enters_of L.f119 (by kernel_rfl) rfl;have e137:∀args w,(callFunc (ρ.f 137) args).run P w = .ok (.enter (ρ.f 137) args) w:=enters_of L.f137 (by kernel_rfl) rfl;have hv:Lib.validRune r=true:=by unfold Lib.validRune;exact decide_eq_true (by omega)
 have henc:∃x0 x1 x2,Utf8.encode r=⟨#[x0,x1,x2]⟩/\128<=x2.toNat:=by
  unfold Utf8.encode;have:Utf8.valid r=true:=by unfold Utf8.valid;simp;omega
  simp only[this,if_true];rw[if_neg (by omega),if_neg (by omega),if_pos (by omega)];exact⟨_,_,_,rfl,by simp;omega⟩
 obtain⟨x0,x1,x2,henc,hlast⟩:=henc;have hcv:∀w,(convert (ρ.t 21) (ρ.t 9) (.int .i32 r)).run P w = .ok (.string ⟨#[x0,x1,x2]⟩) w:=λw=>by rw[<- henc];exact run_convert_int_string w _ _ _ _ (by rw[t21];rfl) t9
 have hlt:=x2.toNat_lt;have hq1:((41:Int)==(x2.toNat:Int))=false:=beq_eq_false_iff_ne.2 (by omega);have hq2:((((⟨#[32,40,41]⟩:ByteArray)[2]'(by decide)).toNat:Int) != (((⟨#[x0,x1,x2]⟩:ByteArray)[2]'(by simp[ByteArray.size])).toNat:Int))=true:=by show ((41:Int) != (x2.toNat:Int))=true;rw[bne,hq1];rfl
 clear hq1;have hwr:IntKind.i64.wrap 3=3:=by decide
 have HB:Aside (((x2.toNat:Int)).toNat.toUInt8=x2):=by show ((x2.toNat:Int)).toNat.toUInt8=x2;simp
 clear hlast hlt
 go_enter L.f152,Body.n152_ntmps ρ
 go_wp2_with ((go_at_fn (ρ.f 119);refine (Any.utf8_ValidRune { L with } _ _).mono ?_;rintro e w' ⟨rfl,hw⟩;rw[hw,hv]))
 go_step3
 go_wp2
 go_loop [9,10] (λi f=>i = .int .i64 2/\f = .int .i64 0) (λ_ _=>0)
 case atStart=>exact⟨rfl,rfl⟩
 case round=>
  obtain⟨rfl,rfl⟩:=hrel
  go_wp2
  go_step3
  go_wp2
  go_big_quiet_o (fail)
  go_wp2
  go_big_quiet_o ((go_at_fn (ρ.f 137);refine (zhi { L with } _ _ _ ?_).mono λ_ _ hh=>⟨hh.1,_,hh.2⟩;rfl))
  go_wp2
  rw[Exit.noGoto_ret];simp (config:={ zetaDelta:=true }) only [go_sem]
  go_ret
  exact⟨rfl,_,rfl⟩
set_option maxHeartbeats 4000000 in
set_option maxRecDepth 1000000 in
theorem zeV(L:Lays.n152 P ρ)(w:World) :
  Calls P (ρ.f 152) #[.string ⟨#[32,40,41]⟩,.int .i32 65533] w λe w'=>e = .returned (.int .i64 (-1))/\∃k,w'=w.iter ⟨#[32,40,41]⟩ k:=by
 have mixed:=L.mixed;have t3:=L.t3;have a3:=L.a3;have z3:=L.z3;have v3:=L.v3
 have t4:=L.t4;have a4:=L.a4;have z4:=L.z4;have v4:=L.v4
 have t5:=L.t5;have a5:=L.a5;have z5:=L.z5;have v5:=L.v5
 have t9:=L.t9;have a9:=L.a9;have z9:=L.z9;have v9:=L.v9
 have t21:=L.t21;have a21:=L.a21;have z21:=L.z21;have v21:=L.v21
 go_enter L.f152,Body.n152_ntmps ρ
 go_wp2
 go_loopg [5,6] 3 (λg _ _ wx=>∃i:Nat,i+g=3/\wx=w.iter ⟨#[32,40,41]⟩ i)
 case atStart=>exact⟨0,by omega,rfl⟩
 case round=>
  obtain⟨i,hig,rfl⟩:=hrel;cases gk with
  | zero=>
   obtain rfl:i=3:=by omega
   have hnx:=run_next_end (P:=P) w ⟨#[32,40,41]⟩ 3
   go_wp2
   go_ret
   exact⟨rfl,_,rfl⟩
  | succ g=>
   have hi:i<3:=by omega
   have hsz:(⟨#[32,40,41]⟩:ByteArray).size=3:=rfl;obtain⟨x,hx,hx41⟩:∃x:UInt8,((⟨#[32,40,41]⟩:ByteArray)[i]'(by rw[hsz];exact hi))=x/\x.toNat<42:=by
    exact⟨_,rfl,chr3 i hi⟩
   have hnx:=λty=>run_next_ascii (P:=P) w ⟨#[32,40,41]⟩ i ty (by rw[hsz];exact hi) (by rw[hx];omega)
   rw[hx] at hnx;have hne:((x.toNat:Int)==65533)=false:=beq_eq_false_iff_ne.2 (by omega);clear hsz hx
   go_wp2
   go_roundg g
   case measure=>omega
   case rel=>exact⟨i+1,by omega,rfl⟩
theorem zgk(L:Lays.n152 P ρ)(r:Int)(w:World)(h0:128<=r)(h1:r<55296\/(57343<r/\r<=1114111)) :
  Calls P (ρ.f 152) #[.string ⟨#[32,40,41]⟩,.int .i32 r] w λe w'=>e = .returned (.int .i64 (-1))/\Below w.heap.size w w':=by
 by_cases h2:r<=2047
 ·exact (zeU L r w h0 h2).mono λ_ _ ⟨a,k,b⟩=>⟨a,b ▸ ⟨rfl,rfl,rfl,Nat.le_refl _,λ_ _=>rfl⟩⟩
 by_cases h3:r=65533
 ·subst h3;exact (zeV L w).mono λ_ _ ⟨a,k,b⟩=>⟨a,b ▸ (Below.refl _ w).alloc (Nat.le_refl _) _⟩
 by_cases h4:r<=65535
 ·exact (zdk L r w (by omega) h3).mono λ_ _ ⟨a,k,b⟩=>⟨a,b ▸ ⟨rfl,rfl,rfl,Nat.le_refl _,λ_ _=>rfl⟩⟩
 ·exact (zd2 L r w (by omega) (by omega)).mono λ_ _ ⟨a,b⟩=>⟨a,b ▸ Below.refl _ _⟩
theorem zgq(n b0 b1 b2 b3:Nat)(h0:128<=b0)(h0':b0<256):128<=(decodeN n b0 b1 b2 b3).1:=by
 unfold decodeN
 repeat' split
 all_goals (simp only;omega)
theorem ze5(s:ByteArray)(i:Nat)(hi:i<s.size)(hx:128<=(s.data.toList.getD i 0).toNat) :
  ∃c wd:Nat,Utf8.decode s i=(c,wd)/\128<=c/\(c<55296\/(57343<c/\c<=1114111))/\1<=wd/\i+wd<=s.size/\∀j,i<=j->j<i+wd->128<=(s.data.toList.getD j 0).toNat:=by
 have hsz:=Lib.size_eq s;have hd:=decode_N s i;generalize hb0:(s.data.toList.getD i 0).toNat=b0 at hd hx;generalize hb1:(s.data.toList.getD (i+1) 0).toNat=b1 at hd;generalize hb2:(s.data.toList.getD (i+2) 0).toNat=b2 at hd;generalize hb3:(s.data.toList.getD (i+3) 0).toNat=b3 at hd;have hlt:b0<256:=by rw[<- hb0];exact (s.data.toList.getD i 0).toNat_lt
 have h1:=zgq (s.data.toList.length-i) b0 b1 b2 b3 hx hlt;have h2:=decodeN_valid (s.data.toList.length-i) b0 b1 b2 b3 hlt;have h3:=decodeN_conts (s.data.toList.length-i) b0 b1 b2 b3;have h4:=decodeN_ge1 (s.data.toList.length-i) b0 b1 b2 b3;have h5:=decodeN_width_le (s.data.toList.length-i) b0 b1 b2 b3 (by omega);generalize decodeN (s.data.toList.length-i) b0 b1 b2 b3=p at hd h1 h2 h3 h4 h5;obtain⟨c,wd⟩:=p;simp only at h1 h2 h3 h4 h5;refine⟨c,wd,hd,h1,h2,h4,by omega,?_⟩;intro j hj1 hj2;obtain⟨c2,c3,c4,c5⟩:=h3;have:j=i\/j=i+1\/j=i+2\/j=i+3:=by omega
 rcases this with rfl|rfl|rfl|rfl
 ·rw[hb0];exact hx
 ·rw[hb1];have:=c2 (by omega);omega
 ·rw[hb2];have:=c3 (by omega);omega
 ·rw[hb3];have:=c4 (by omega);omega
set_option maxHeartbeats 8000000 in
set_option maxRecDepth 1000000 in
theorem zdl(L:Lays.n153 P ρ)(s:ByteArray)(w:World)(h8:s.size<=8) :
  Calls P (ρ.f 153) #[.string s,.string ⟨#[32,40,41]⟩] w λe w'=>e = .returned (.int .i64 (Lib.indexAny s.data.toList [32,40,41]))/\Below w.heap.size w w':=by
 have h8z:decide ((8:Int)<(s.size:Int))=false:=decide_eq_false (by omega);have t3:=L.t3;have a3:=L.a3;have z3:=L.z3;have v3:=L.v3
 have t4:=L.t4;have a4:=L.a4;have z4:=L.z4;have v4:=L.v4
 have t5:=L.t5;have a5:=L.a5;have z5:=L.z5;have v5:=L.v5
 have t9:=L.t9;have a9:=L.a9;have z9:=L.z9;have v9:=L.v9
 have t21:=L.t21;have a21:=L.a21;have z21:=L.z21;have v21:=L.v21
 have e152:∀args w,(callFunc (ρ.f 152) args).run P w = .ok (.enter (ρ.f 152) args) w:=enters_of L.f152 (by kernel_rfl) rfl;have e226:∀args w,(callFunc (ρ.f 226) args).run P w = .ok (.enter (ρ.f 226) args) w:=enters_of L.f226 (by kernel_rfl) rfl
 go_enter L.f153,Body.n153_ntmps ρ
 go_wp2_with (go_at_fn (ρ.f 226);refine (Any.strings_shouldUseASCIISet { L with } _ _).mono ?_;rintro e w' ⟨rfl,hw⟩;rw[hw,h8z])
 go_loopg [9,10] s.size (λg _ _ wx=>∃i:Nat,i+g=s.size/\wx.heap[w.heap.size]?=some (.stringIter s i)/\Below w.heap.size w wx/\Lib.NoAny s.data.toList [32,40,41] i)
 case atStart=>exact⟨0,by omega,World.iter_heap w s 0,(Below.refl _ w).alloc (Nat.le_refl _) _,Lib.NoAny.zero _ _⟩
 case round=>
  rename World=>wx
  obtain⟨i,hig,hit,hbw,hno⟩:=hrel;have HN:Aside (Lib.NoAny s.data.toList [32,40,41] i):=hno;clear hno;cases gk with
  | zero=>
   obtain rfl:i=s.size:=by omega
   have hnx:=λty=>Lib.run_next_end_at (P:=P) wx w.heap.size s s.size ty hit (by omega)
   have HW:Aside (Below w.heap.size w wx):=hbw;clear hbw hit
   go_wp2
   go_ret
   exact⟨by rw[Lib.indexAny_none (by rw[<- Lib.size_eq];exact HN.out)];rfl,HW.out⟩
  | succ g=>
   have hi:i<s.size:=by omega
   obtain⟨x,hx⟩:∃x:UInt8,s[i]'hi=x:=⟨_,rfl⟩
   have hxl:s.data.toList[i]?=some x:=by rw[<- hx];exact Lib.data_getElem? s i hi
   have hxg:s.data.toList.getD i 0=x:=by rw[List.getD_eq_getElem?_getD,hxl];rfl
   by_cases hx128:x.toNat<128
   ·have hnx:=λty=>Lib.run_next_ascii_at (P:=P) wx w.heap.size s i ty hit hi (by rw[hx];exact hx128)
    rw[hx] at hnx;have hit2:=Lib.iterAt_heap wx w.heap.size s i (i+1) hit;have hbw2:=Lib.below_iterAt hbw (k:=w.heap.size) (Nat.le_refl _) s (i+1);obtain⟨W1,hW1⟩:∃W1,W1=wx.iterAt w.heap.size s (i+1):=⟨_,rfl⟩
    rw[<- hW1] at hnx hit2 hbw2;have HS:Aside (W1.heap[w.heap.size]?=some (.stringIter s (i+1))/\Below w.heap.size w W1):=⟨hit2,hbw2⟩
    have Hx:Aside (s.data.toList[i]?=some x):=hxl;clear hxl hx hxg hW1 hit2 hbw2 hit hbw;have hcon:=Lib.contains_iff_indexByte [32,40,41] x;have hback:((x.toNat:Int)).toNat.toUInt8=x:=by simp
    cases hin:([32,40,41]:List UInt8).contains x
    ·rw[hin] at hcon;have hlt:¬ ((0:Int)<=Lib.indexByte [32,40,41] x):=of_decide_eq_false hcon.symm;clear hcon
     go_wp2_with (go_at_fn (ρ.f 152);refine (Any.strings_IndexRune_ascii { L with } _ _ _ (by omega) (by omega)).mono ?_;rintro e w' ⟨rfl,hw⟩;rw[hw,hback])
     go_roundg g
     case measure=>omega
     case rel=>exact⟨i+1,by omega,HS.out.1,HS.out.2,HN.out.succ Hx.out hin⟩
    ·rw[hin] at hcon;have hge:(0:Int)<=Lib.indexByte [32,40,41] x:=of_decide_eq_true hcon.symm;clear hcon
     go_wp2_with (go_at_fn (ρ.f 152);refine (Any.strings_IndexRune_ascii { L with } _ _ _ (by omega) (by omega)).mono ?_;rintro e w' ⟨rfl,hw⟩;rw[hw,hback])
     go_ret
     exact⟨by rw[Lib.indexAny_hit HN.out Hx.out hin];rfl,HS.out.2⟩
   ·obtain⟨c,wd,hd,c1,c2,d1,d2,d3⟩:=ze5 s i hi (by rw[hxg];omega);have hnx:=λty=>Lib.run_next_any_at (P:=P) wx w.heap.size s i ty hit hi
    rw[hd] at hnx;simp only at hnx;have hit2:=Lib.iterAt_heap wx w.heap.size s i (i+wd) hit;have hbw2:=Lib.below_iterAt hbw (k:=w.heap.size) (Nat.le_refl _) s (i+wd);have hno2:Lib.NoAny s.data.toList [32,40,41] (i+wd):=by
     intro j b hj hb
     by_cases hji:j<i
     ·exact HN.out j b hji hb
     ·have:=d3 j (by omega) hj
      rw[List.getD_eq_getElem?_getD,hb] at this;have h3:128<=b.toNat:=this;have e:∀q:UInt8,q.toNat<128->(b==q)=false:=λq hq=>beq_eq_false_iff_ne.2 λe=>by subst e;omega
      simp only[List.contains_cons,List.contains_nil,e 32 (by decide),e 40 (by decide),e 41 (by decide),Bool.or_self]
    obtain⟨W1,hW1⟩:∃W1,W1=wx.iterAt w.heap.size s (i+wd):=⟨_,rfl⟩
    rw[<- hW1] at hnx hit2 hbw2;have HS:Aside (W1.heap[w.heap.size]?=some (.stringIter s (i+wd))/\Below w.heap.size w W1/\Lib.NoAny s.data.toList [32,40,41] (i+wd)):=⟨hit2,hbw2,hno2⟩
    clear hxl hx hxg hW1 hit2 hbw2 hit hbw hno2 d3 hd
    go_wp2_with (go_at_fn (ρ.f 152);refine (zgk { L with } _ _ (by omega) (by omega)).mono ?_;rintro e w' ⟨rfl,hw⟩;have HW:Aside (Below W1.heap.size W1 w'):=hw;clear hw)
    go_roundg (s.size-(i+wd))
    case measure=>omega
    case rel=>
     have hl:w.heap.size<W1.heap.size:=(Array.getElem?_eq_some_iff.1 HS.out.1).1;exact⟨i+wd,by omega,by rw[HW.out.block _ hl];exact HS.out.1,HS.out.2.1.trans (HW.out.mono (by omega)),HS.out.2.2⟩
end Go.Proofs
