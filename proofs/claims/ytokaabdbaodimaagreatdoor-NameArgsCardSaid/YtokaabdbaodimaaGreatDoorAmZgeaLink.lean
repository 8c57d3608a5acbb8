/- Each function is what the compiler gives of the program. -/
import Derived.Test.YtokaabdbaodimaaGreatDoorAmZgeaTab
import Derived.Test.YtokaabdbaodimaaGreatDoorAmZgeaK
import Derived.Test.YtokaabdbaodimaaGreatDoorAmZgeaShelf
import Derived.Test.YtokaabdbaodimaaGreatDoorAmIdx
import Derived.Test.YtokaabdbaodimaaGreatDoorAmAwk
set_option maxRecDepth 100000
namespace Am.L
open Go Go.Proofs Go.RowKit
theorem nonesAt{p:Nat->Prop}{i:Nat}:∀m:Nat,AllN p i->(∀k,i<=k->k<i+m->p k)->AllN p (i+m)
 | 0,h,_=>h
 | m+1,h,hk=>⟨nonesAt m h λk h1 h2=>hk k h1 (Nat.lt_succ_of_lt h2),hk (i+m) (Nat.le_add_right _ _) (Nat.lt_succ_self _)⟩
abbrev x_A (k:Nat):Prop:=AtF Tryz.prog kf kt (GG Tryz.prog) F.tab0 k
theorem x_S{f:Nat}(s:SFn)(ls:List (List Nat)){fn:Func}(h:Tryz.prog.funcs[f]?=some fn)(h1:F.tab0.T (kf f)=some s:=by kernel_rfl)(h2:zfk s=true:=by kernel_rfl)(h3:(fn.name=="runtime.NumGoroutine")=false:=by kernel_rfl)(h4:zdd Tryz.prog kf kt ls fn=some s.fl:=by kernel_rfl):x_A f:=.src h1 h2 h h3 h4
theorem x_N{i:Nat}(m:Nat)(p:AllN x_A i)(h:((List.range' i m).all λk=>match F.tab0.T (kf k) with|some _=>false|none=>true)=true:=by kernel_rfl):AllN x_A (i+m):=nonesAt m p λk h1 h2=>.none (by
 have:=List.all_eq_true.1 h k (List.mem_range'_1.2 ⟨h1,h2⟩)
 revert this
 cases F.tab0.T (kf k) with
 | some x=>intro hx;cases hx
 | none=>intro _;rfl)
theorem x_a46:x_A 46:=.whole (g:=zcH) (by kernel_rfl) (zbl.weaken (G:=GTab Tryz.prog) (zca ⟨Tryz.f46,Tryz.func46,by kernel_rfl,by kernel_rfl⟩ λn h0 h1 w htab=>(Tryz.strconv_Itoa n h0 h1 w htab).mono (by
   rintro e w' ⟨rfl,k,os,rfl⟩
   refine⟨rfl,⟨rfl,rfl,rfl,?_,λi hi=>?_⟩⟩
   ·show w.heap.size<=(w.heap++os).size;rw[Array.size_append];omega
   ·show (w.heap++os)[i]?=w.heap[i]?;rw[Array.getElem?_append_left hi])) λB hB=>hB.1)
theorem x_a72:x_A 72:=.whole (g:=zcG) (by kernel_rfl) (zb9 ⟨Tryz.f72,Tryz.func72,by kernel_rfl,by kernel_rfl⟩ (λa c sep w=>Tryz.strings_Join_none a c sep w) λbk o c xs sep w h1 h2 h3 h4 h5=>Tryz.strings_Join bk o c xs sep w h1 h2 h3 h4 h5)
theorem x_a111:x_A 111:=.whole (g:=zal) (by kernel_rfl) (zaV ⟨Tryz.f111,Tryz.func111,by kernel_rfl,by kernel_rfl⟩ λs w hs=>by
   rcases Nat.lt_or_ge 8 s.size with h8|h8
   ·refine (Tryz.strings_IndexAny_long (zero_of_info (t:=192) (n:=256) (by kernel_rfl)).1 s ⟨#[32,40,41]⟩ w (by decide) h8 hs (by decide) ?_).mono ?_
    ·intro j b hb;rcases j with _|_|_|j
     ·cases hb;decide
     ·cases hb;decide
     ·cases hb;decide
     ·cases hb
    ·rintro e w' ⟨rfl,rfl⟩
     exact⟨rfl,zch _ _ _⟩
   ·exact zaD Tryz.lays153 s w h8)
theorem x_a112:x_A 112:=.whole (g:=zcQ) (by kernel_rfl) (zci ⟨Tryz.f112,Tryz.func112,by kernel_rfl,by kernel_rfl⟩
   (λB hB w ht=>by
    obtain⟨_,h1,h2⟩:=hB;obtain⟨cs,h3,tp,p,rfl⟩:=h1.at_ ht;obtain⟨cs',h4,tp',p',rfl⟩:=h2.at_ ht;exact⟨⟨tp,p,h3⟩,tp',p',h4⟩)
   (λs h1 v h2 w=>(Tryz.strconv_Atoi_ok s h1 v h2 w).mono (by
    rintro e w' ⟨rfl,h|⟨t,h⟩⟩
    ·subst h;exact⟨rfl,Below.refl _ _⟩
    ·subst h;exact⟨rfl,zai w 5 t⟩))
   (λs h1 h2 h2' tp p w h3=>(Tryz.strconv_Atoi_syntax_var s h1 h2 h2' tp p w h3).mono (by
    rintro e w' ⟨N,rfl,_,_,hb⟩
    exact⟨⟨_,_,rfl⟩,hb⟩))
   λs h1 h2 tp p w h3=>(Tryz.strconv_Atoi_range_var s h1 h2 tp p w h3).mono (by
    rintro e w' ⟨N,rfl,_,_,hb⟩
    exact⟨⟨_,_,rfl⟩,hb⟩))
theorem x_l0:AllN x_A 7:=x_N (i:=0) 7 trivial
theorem x_l1:AllN x_A 8:=⟨x_l0,x_S T.s243 [[5,6,7,12,13,14]] Tryz.func7⟩
theorem x_l2:AllN x_A 10:=x_N (i:=8) 2 x_l1
theorem x_l3:AllN x_A 11:=⟨x_l2,x_S T.s155 [] Tryz.func10⟩
theorem x_l4:AllN x_A 12:=x_N (i:=11) 1 x_l3
theorem x_l5:AllN x_A 13:=⟨x_l4,x_S T.s16 [] Tryz.func12⟩
theorem x_l6:AllN x_A 15:=x_N (i:=13) 2 x_l5
theorem x_l7:AllN x_A 16:=⟨x_l6,x_S T.s153 [] Tryz.func15⟩
theorem x_l8:AllN x_A 18:=x_N (i:=16) 2 x_l7
theorem x_l9:AllN x_A 20:=⟨⟨x_l8,x_S T.s12 [] Tryz.func18⟩,x_S T.s14 [] Tryz.func19⟩
theorem x_l10:AllN x_A 22:=x_N (i:=20) 2 x_l9
theorem x_l11:AllN x_A 25:=⟨⟨⟨x_l10,x_S T.s181 [[1,9,11,12,59,60,61]] Tryz.func22⟩,x_S T.s184 [[0,3,4]] Tryz.func23⟩,x_S T.s185 [] Tryz.func24⟩
theorem x_l12:AllN x_A 30:=x_N (i:=25) 5 x_l11
theorem x_l13:AllN x_A 31:=⟨x_l12,x_S T.s154 [] Tryz.func30⟩
theorem x_l14:AllN x_A 32:=x_N (i:=31) 1 x_l13
theorem x_l15:AllN x_A 44:=⟨⟨⟨⟨⟨⟨⟨⟨⟨⟨⟨⟨x_l14,x_S T.s25 [] Tryz.func32⟩,x_S T.s30 [] Tryz.func33⟩,x_S T.s22 [[0,3,4]] Tryz.func34⟩,x_S T.s31 [[0,3,4]] Tryz.func35⟩,x_S T.s32 [[0,1,5]] Tryz.func36⟩,x_S T.s157 [[3,26,27,28]] Tryz.func37⟩,x_S T.s26 [[5,6,7]] Tryz.func38⟩,x_S T.s204 [] Tryz.func39⟩,x_S T.s205 [] Tryz.func40⟩,x_S T.s206 [[0,3,16,17]] Tryz.func41⟩,x_S T.s207 [[0,1,8,10,19,20,21]] Tryz.func42⟩,x_S T.s208 [] Tryz.func43⟩
theorem x_l16:AllN x_A 49:=⟨⟨⟨⟨⟨x_l15,x_S T.s209 [] Tryz.func44⟩,x_S T.s210 [[4,10,26,27,28]] Tryz.func45⟩,x_a46⟩,x_S T.s27 [] Tryz.func47⟩,x_S T.s211 [[7,8]] Tryz.func48⟩
theorem x_l17:AllN x_A 55:=x_N (i:=49) 6 x_l16
theorem x_l18:AllN x_A 56:=⟨x_l17,x_S T.s183 [] Tryz.func55⟩
theorem x_l19:AllN x_A 60:=x_N (i:=56) 4 x_l18
theorem x_l20:AllN x_A 71:=⟨⟨⟨⟨⟨⟨⟨⟨⟨⟨⟨x_l19,x_S T.s38 [] Tryz.func60⟩,x_S T.s39 [[0,4,5]] Tryz.func61⟩,x_S T.s40 [[0,2,4,6]] Tryz.func62⟩,x_S T.s41 [] Tryz.func63⟩,x_S T.s186 [] Tryz.func64⟩,x_S T.s187 [[1,3,4,27,28],[1,4,6],[1,4,6,7,73,74,75]] Tryz.func65⟩,x_S T.s188 [] Tryz.func66⟩,x_S T.s17 [] Tryz.func67⟩,x_S T.s226 [] Tryz.func68⟩,x_S T.s227 [[0,3,9,10,11],[6,25,26,27]] Tryz.func69⟩,x_S T.s11 [] Tryz.func70⟩
theorem x_l21:AllN x_A 72:=x_N (i:=71) 1 x_l20
theorem x_l22:AllN x_A 74:=⟨⟨x_l21,x_a72⟩,x_S T.s228 [] Tryz.func73⟩
theorem x_l23:AllN x_A 80:=x_N (i:=74) 6 x_l22
theorem x_l24:AllN x_A 88:=⟨⟨⟨⟨⟨⟨⟨⟨x_l23,x_S T.s212 [] Tryz.func80⟩,x_S T.s213 [] Tryz.func81⟩,x_S T.s214 [] Tryz.func82⟩,x_S T.s215 [[0,1,7,8]] Tryz.func83⟩,x_S T.s24 [[8,11,13]] Tryz.func84⟩,x_S T.s28 [] Tryz.func85⟩,x_S T.s230 [] Tryz.func86⟩,x_S T.s231 [] Tryz.func87⟩
theorem x_l25:AllN x_A 92:=x_N (i:=88) 4 x_l24
theorem x_l26:AllN x_A 94:=⟨⟨x_l25,x_S T.s232 [] Tryz.func92⟩,x_S T.s233 [] Tryz.func93⟩
theorem x_l27:AllN x_A 99:=x_N (i:=94) 5 x_l26
theorem x_l28:AllN x_A 105:=⟨⟨⟨⟨⟨⟨x_l27,x_S T.s229 [] Tryz.func99⟩,x_S T.s33 [] Tryz.func100⟩,x_S T.s34 [] Tryz.func101⟩,x_S T.s35 [] Tryz.func102⟩,x_S T.s36 [] Tryz.func103⟩,x_S T.s37 [] Tryz.func104⟩
theorem x_l29:AllN x_A 111:=x_N (i:=105) 6 x_l28
theorem x_l30:AllN x_A 116:=⟨⟨⟨⟨⟨x_l29,x_a111⟩,x_a112⟩,x_S T.s46 [] Tryz.func113⟩,x_S T.s47 [] Tryz.func114⟩,x_S T.s48 [] Tryz.func115⟩
theorem x_l31:AllN x_A 176:=x_N (i:=116) 60 x_l30
theorem x_alls:AllN x_A 176:=x_l31
theorem x_kf_out(f:Nat)(h:176<=f):F.tab0.T (kf f)=none:=by
   have:kf f=0:=by
    unfold kf;rw[List.getD_eq_getElem?_getD,List.getElem?_eq_none (by show keys.length<=f;exact h)];rfl
   rw[this];exact F.tab0_0
theorem x_link:Link Tryz.prog kf kt (GG Tryz.prog) λk=>(F.tab0.T k).map SFn.fl:=zd0 x_alls x_kf_out
theorem x_oks:∀k f,F.tab0.T k=some f->f.ok=true:=F.ETree.ok_of F.tab0_ok
theorem awake_true:F.zc F.tab0 F.stdI 4000 (.fn (kf 15) []) [] F.H.emp (λv _=>some v)=some (.bool true):=by kernel_rfl
abbrev A (k:Nat):Prop:=AtF Tryz.prog kf kt (GG Tryz.prog) F.tab k
theorem S{f:Nat}(s:SFn)(ls:List (List Nat)){fn:Func}(h:Tryz.prog.funcs[f]?=some fn)(h1:F.tab.T (kf f)=some s:=by kernel_rfl)(h2:zfk s=true:=by kernel_rfl)(h3:(fn.name=="runtime.NumGoroutine")=false:=by kernel_rfl)(h4:zdd Tryz.prog kf kt ls fn=some s.fl:=by kernel_rfl):A f:=.src h1 h2 h h3 h4
theorem N{i:Nat}(m:Nat)(p:AllN A i)(h:((List.range' i m).all λk=>match F.tab.T (kf k) with|some _=>false|none=>true)=true:=by kernel_rfl):AllN A (i+m):=nonesAt m p λk h1 h2=>.none (by
 have:=List.all_eq_true.1 h k (List.mem_range'_1.2 ⟨h1,h2⟩)
 revert this
 cases F.tab.T (kf k) with
 | some x=>intro hx;cases hx
 | none=>intro _;rfl)
theorem a15:A 15:=.whole (g:=F.awkG) (by kernel_rfl) (zgk gg_keeps x_link x_oks F.iok0 4000 awake_true)
theorem a46:A 46:=.whole (g:=zcH) (by kernel_rfl) (zbl.weaken (G:=GTab Tryz.prog) (zca ⟨Tryz.f46,Tryz.func46,by kernel_rfl,by kernel_rfl⟩ λn h0 h1 w htab=>(Tryz.strconv_Itoa n h0 h1 w htab).mono (by
   rintro e w' ⟨rfl,k,os,rfl⟩
   refine⟨rfl,⟨rfl,rfl,rfl,?_,λi hi=>?_⟩⟩
   ·show w.heap.size<=(w.heap++os).size;rw[Array.size_append];omega
   ·show (w.heap++os)[i]?=w.heap[i]?;rw[Array.getElem?_append_left hi])) λB hB=>hB.1)
theorem a72:A 72:=.whole (g:=zcG) (by kernel_rfl) (zb9 ⟨Tryz.f72,Tryz.func72,by kernel_rfl,by kernel_rfl⟩ (λa c sep w=>Tryz.strings_Join_none a c sep w) λbk o c xs sep w h1 h2 h3 h4 h5=>Tryz.strings_Join bk o c xs sep w h1 h2 h3 h4 h5)
theorem a111:A 111:=.whole (g:=zal) (by kernel_rfl) (zaV ⟨Tryz.f111,Tryz.func111,by kernel_rfl,by kernel_rfl⟩ λs w hs=>by
   rcases Nat.lt_or_ge 8 s.size with h8|h8
   ·refine (Tryz.strings_IndexAny_long (zero_of_info (t:=192) (n:=256) (by kernel_rfl)).1 s ⟨#[32,40,41]⟩ w (by decide) h8 hs (by decide) ?_).mono ?_
    ·intro j b hb;rcases j with _|_|_|j
     ·cases hb;decide
     ·cases hb;decide
     ·cases hb;decide
     ·cases hb
    ·rintro e w' ⟨rfl,rfl⟩
     exact⟨rfl,zch _ _ _⟩
   ·exact zaD Tryz.lays153 s w h8)
theorem a112:A 112:=.whole (g:=zcQ) (by kernel_rfl) (zci ⟨Tryz.f112,Tryz.func112,by kernel_rfl,by kernel_rfl⟩
   (λB hB w ht=>by
    obtain⟨_,h1,h2⟩:=hB;obtain⟨cs,h3,tp,p,rfl⟩:=h1.at_ ht;obtain⟨cs',h4,tp',p',rfl⟩:=h2.at_ ht;exact⟨⟨tp,p,h3⟩,tp',p',h4⟩)
   (λs h1 v h2 w=>(Tryz.strconv_Atoi_ok s h1 v h2 w).mono (by
    rintro e w' ⟨rfl,h|⟨t,h⟩⟩
    ·subst h;exact⟨rfl,Below.refl _ _⟩
    ·subst h;exact⟨rfl,zai w 5 t⟩))
   (λs h1 h2 h2' tp p w h3=>(Tryz.strconv_Atoi_syntax_var s h1 h2 h2' tp p w h3).mono (by
    rintro e w' ⟨N,rfl,_,_,hb⟩
    exact⟨⟨_,_,rfl⟩,hb⟩))
   λs h1 h2 tp p w h3=>(Tryz.strconv_Atoi_range_var s h1 h2 tp p w h3).mono (by
    rintro e w' ⟨N,rfl,_,_,hb⟩
    exact⟨⟨_,_,rfl⟩,hb⟩))
theorem l0:AllN A 7:=N (i:=0) 7 trivial
theorem l1:AllN A 8:=⟨l0,S T.s243 [[5,6,7,12,13,14]] Tryz.func7⟩
theorem l2:AllN A 10:=N (i:=8) 2 l1
theorem l3:AllN A 11:=⟨l2,S T.s155 [] Tryz.func10⟩
theorem l4:AllN A 12:=N (i:=11) 1 l3
theorem l5:AllN A 13:=⟨l4,S T.s16 [] Tryz.func12⟩
theorem l6:AllN A 15:=N (i:=13) 2 l5
theorem l7:AllN A 16:=⟨l6,a15⟩
theorem l8:AllN A 18:=N (i:=16) 2 l7
theorem l9:AllN A 20:=⟨⟨l8,S T.s12 [] Tryz.func18⟩,S T.s14 [] Tryz.func19⟩
theorem l10:AllN A 22:=N (i:=20) 2 l9
theorem l11:AllN A 25:=⟨⟨⟨l10,S T.s181 [[1,9,11,12,59,60,61]] Tryz.func22⟩,S T.s184 [[0,3,4]] Tryz.func23⟩,S T.s185 [] Tryz.func24⟩
theorem l12:AllN A 32:=N (i:=25) 7 l11
theorem l13:AllN A 44:=⟨⟨⟨⟨⟨⟨⟨⟨⟨⟨⟨⟨l12,S T.s25 [] Tryz.func32⟩,S T.s30 [] Tryz.func33⟩,S T.s22 [[0,3,4]] Tryz.func34⟩,S T.s31 [[0,3,4]] Tryz.func35⟩,S T.s32 [[0,1,5]] Tryz.func36⟩,S T.s157 [[3,26,27,28]] Tryz.func37⟩,S T.s26 [[5,6,7]] Tryz.func38⟩,S T.s204 [] Tryz.func39⟩,S T.s205 [] Tryz.func40⟩,S T.s206 [[0,3,16,17]] Tryz.func41⟩,S T.s207 [[0,1,8,10,19,20,21]] Tryz.func42⟩,S T.s208 [] Tryz.func43⟩
theorem l14:AllN A 49:=⟨⟨⟨⟨⟨l13,S T.s209 [] Tryz.func44⟩,S T.s210 [[4,10,26,27,28]] Tryz.func45⟩,a46⟩,S T.s27 [] Tryz.func47⟩,S T.s211 [[7,8]] Tryz.func48⟩
theorem l15:AllN A 60:=N (i:=49) 11 l14
theorem l16:AllN A 71:=⟨⟨⟨⟨⟨⟨⟨⟨⟨⟨⟨l15,S T.s38 [] Tryz.func60⟩,S T.s39 [[0,4,5]] Tryz.func61⟩,S T.s40 [[0,2,4,6]] Tryz.func62⟩,S T.s41 [] Tryz.func63⟩,S T.s186 [] Tryz.func64⟩,S T.s187 [[1,3,4,27,28],[1,4,6],[1,4,6,7,73,74,75]] Tryz.func65⟩,S T.s188 [] Tryz.func66⟩,S T.s17 [] Tryz.func67⟩,S T.s226 [] Tryz.func68⟩,S T.s227 [[0,3,9,10,11],[6,25,26,27]] Tryz.func69⟩,S T.s11 [] Tryz.func70⟩
theorem l17:AllN A 72:=N (i:=71) 1 l16
theorem l18:AllN A 74:=⟨⟨l17,a72⟩,S T.s228 [] Tryz.func73⟩
theorem l19:AllN A 80:=N (i:=74) 6 l18
theorem l20:AllN A 88:=⟨⟨⟨⟨⟨⟨⟨⟨l19,S T.s212 [] Tryz.func80⟩,S T.s213 [] Tryz.func81⟩,S T.s214 [] Tryz.func82⟩,S T.s215 [[0,1,7,8]] Tryz.func83⟩,S T.s24 [[8,11,13]] Tryz.func84⟩,S T.s28 [] Tryz.func85⟩,S T.s230 [] Tryz.func86⟩,S T.s231 [] Tryz.func87⟩
theorem l21:AllN A 92:=N (i:=88) 4 l20
theorem l22:AllN A 94:=⟨⟨l21,S T.s232 [] Tryz.func92⟩,S T.s233 [] Tryz.func93⟩
theorem l23:AllN A 99:=N (i:=94) 5 l22
theorem l24:AllN A 105:=⟨⟨⟨⟨⟨⟨l23,S T.s229 [] Tryz.func99⟩,S T.s33 [] Tryz.func100⟩,S T.s34 [] Tryz.func101⟩,S T.s35 [] Tryz.func102⟩,S T.s36 [] Tryz.func103⟩,S T.s37 [] Tryz.func104⟩
theorem l25:AllN A 111:=N (i:=105) 6 l24
theorem l26:AllN A 116:=⟨⟨⟨⟨⟨l25,a111⟩,a112⟩,S T.s46 [] Tryz.func113⟩,S T.s47 [] Tryz.func114⟩,S T.s48 [] Tryz.func115⟩
theorem l27:AllN A 176:=N (i:=116) 60 l26
theorem alls:AllN A 176:=l27
theorem kf_out(f:Nat)(h:176<=f):F.tab.T (kf f)=none:=by
   have:kf f=0:=by
    unfold kf;rw[List.getD_eq_getElem?_getD,List.getElem?_eq_none (by show keys.length<=f;exact h)];rfl
   rw[this];exact F.tab_0
theorem link:Link Tryz.prog kf kt (GG Tryz.prog) λk=>(F.tab.T k).map SFn.fl:=zd0 alls kf_out
theorem oks:∀k f,F.tab.T k=some f->f.ok=true:=F.ETree.ok_of F.tab_ok
  end Am.L
