/- Each function is what the compiler gives of the program. -/
import Derived.Test.YtginckfdokjjpaaDoorAmZobaTab
import Derived.Test.YtginckfdokjjpaaDoorAmZobaK
import Derived.Test.YtginckfdokjjpaaDoorAmZobaShelf
import Derived.Test.YtginckfdokjjpaaDoorAmIdx
import Derived.Test.YtginckfdokjjpaaDoorAmAwk
set_option maxRecDepth 100000
namespace Am.L
open Go Go.Proofs Go.RowKit
theorem zgr{p:Nat->Prop}{i:Nat}:∀m:Nat,AllN p i->(∀k,i<=k->k<i+m->p k)->AllN p (i+m)
 | 0,h,_=>h
 | m+1,h,hk=>⟨zgr m h λk h1 h2=>hk k h1 (Nat.lt_succ_of_lt h2),hk (i+m) (Nat.le_add_right _ _) (Nat.lt_succ_self _)⟩
abbrev x_A (k:Nat):Prop:=AtF Tryd.prog kf kt (GG Tryd.prog) F.tab0 k
theorem x_S{f:Nat}(s:SFn)(ls:List (List Nat)){fn:Func}(h:Tryd.prog.funcs[f]?=some fn)(h1:F.tab0.T (kf f)=some s:=by kernel_rfl)(h2:zh2 s=true:=by kernel_rfl)(h3:(fn.name=="runtime.NumGoroutine")=false:=by kernel_rfl)(h4:zd8 Tryd.prog kf kt ls fn=some s.fl:=by kernel_rfl):x_A f:=.src h1 h2 h h3 h4
theorem x_N{i:Nat}(m:Nat)(p:AllN x_A i)(h:((List.range' i m).all λk=>match F.tab0.T (kf k) with|some _=>false|none=>true)=true:=by kernel_rfl):AllN x_A (i+m):=zgr m p λk h1 h2=>.none (by
 have:=List.all_eq_true.1 h k (List.mem_range'_1.2 ⟨h1,h2⟩)
 revert this
 cases F.tab0.T (kf k) with
 | some x=>intro hx;cases hx
 | none=>intro _;rfl)
theorem x_a28:x_A 28:=.whole (g:=zeB) (by kernel_rfl) (zbn.weaken (G:=GTab Tryd.prog) (zfu ⟨Tryd.f28,Tryd.func28,by kernel_rfl,by kernel_rfl⟩ λn h0 h1 w htab=>(Tryd.strconv_Itoa n h0 h1 w htab).mono (by
   rintro e w' ⟨rfl,k,os,rfl⟩
   refine⟨rfl,⟨rfl,rfl,rfl,?_,λi hi=>?_⟩⟩
   ·show w.heap.size<=(w.heap++os).size;rw[Array.size_append];omega
   ·show (w.heap++os)[i]?=w.heap[i]?;rw[Array.getElem?_append_left hi])) λB hB=>hB.1)
theorem x_a29:x_A 29:=.whole (g:=zez) (by kernel_rfl) (zfs ⟨Tryd.f29,Tryd.func29,by kernel_rfl,by kernel_rfl⟩ (λa c sep w=>Tryd.strings_Join_none a c sep w) λbk o c xs sep w h1 h2 h3 h4 h5=>Tryd.strings_Join bk o c xs sep w h1 h2 h3 h4 h5)
theorem x_a58:x_A 58:=.whole (g:=zaJ) (by kernel_rfl) (zcM ⟨Tryd.f58,Tryd.func58,by kernel_rfl,by kernel_rfl⟩ λs w hs=>by
   rcases Nat.lt_or_ge 8 s.size with h8|h8
   ·refine (Tryd.strings_IndexAny_long (zero_of_info (t:=114) (n:=256) (by kernel_rfl)).1 s ⟨#[32,40,41]⟩ w (by decide) h8 hs (by decide) ?_).mono ?_
    ·intro j b hb;rcases j with _|_|_|j
     ·cases hb;decide
     ·cases hb;decide
     ·cases hb;decide
     ·cases hb
    ·rintro e w' ⟨rfl,rfl⟩
     exact⟨rfl,zfU _ _ _⟩
   ·exact zct Tryd.lays153 s w h8)
theorem x_a59:x_A 59:=.whole (g:=zeT) (by kernel_rfl) (zfW ⟨Tryd.f59,Tryd.func59,by kernel_rfl,by kernel_rfl⟩
   (λB hB w ht=>by
    obtain⟨_,h1,h2⟩:=hB;obtain⟨cs,h3,tp,p,rfl⟩:=h1.at_ ht;obtain⟨cs',h4,tp',p',rfl⟩:=h2.at_ ht;exact⟨⟨tp,p,h3⟩,tp',p',h4⟩)
   (λs h1 v h2 w=>(Tryd.strconv_Atoi_ok s h1 v h2 w).mono (by
    rintro e w' ⟨rfl,h|⟨t,h⟩⟩
    ·subst h;exact⟨rfl,Below.refl _ _⟩
    ·subst h;exact⟨rfl,zbB w 5 t⟩))
   (λs h1 h2 h2' tp p w h3=>(Tryd.strconv_Atoi_syntax_var s h1 h2 h2' tp p w h3).mono (by
    rintro e w' ⟨N,rfl,_,_,hb⟩
    exact⟨⟨_,_,rfl⟩,hb⟩))
   λs h1 h2 tp p w h3=>(Tryd.strconv_Atoi_range_var s h1 h2 tp p w h3).mono (by
    rintro e w' ⟨N,rfl,_,_,hb⟩
    exact⟨⟨_,_,rfl⟩,hb⟩))
theorem x_l0:AllN x_A 5:=x_N (i:=0) 5 trivial
theorem x_l1:AllN x_A 6:=⟨x_l0,x_S T.s305 [[0,5,6,7,8,9],[0,5,6,7,8,9,10,12,13]] Tryd.func5⟩
theorem x_l2:AllN x_A 7:=x_N (i:=6) 1 x_l1
theorem x_l3:AllN x_A 8:=⟨x_l2,x_S T.s266 [[1,6,25,26,27]] Tryd.func7⟩
theorem x_l4:AllN x_A 9:=x_N (i:=8) 1 x_l3
theorem x_l5:AllN x_A 11:=⟨⟨x_l4,x_S T.s15 [[0,1,5]] Tryd.func9⟩,x_S T.s16 [] Tryd.func10⟩
theorem x_l6:AllN x_A 13:=x_N (i:=11) 2 x_l5
theorem x_l7:AllN x_A 21:=⟨⟨⟨⟨⟨⟨⟨⟨x_l6,x_S T.s264 [] Tryd.func13⟩,x_S T.s265 [] Tryd.func14⟩,x_S T.s299 [[0,3]] Tryd.func15⟩,x_S T.s295 [[1,4,5]] Tryd.func16⟩,x_S T.s261 [[0,5,6]] Tryd.func17⟩,x_S T.s258 [] Tryd.func18⟩,x_S T.s274 [] Tryd.func19⟩,x_S T.s297 [] Tryd.func20⟩
theorem x_l8:AllN x_A 23:=x_N (i:=21) 2 x_l7
theorem x_l9:AllN x_A 33:=⟨⟨⟨⟨⟨⟨⟨⟨⟨⟨x_l8,x_S T.s301 [] Tryd.func23⟩,x_S T.s296 [[1,3]] Tryd.func24⟩,x_S T.s22 [[0,3,4]] Tryd.func25⟩,x_S T.s270 [] Tryd.func26⟩,x_S T.s269 [] Tryd.func27⟩,x_a28⟩,x_a29⟩,x_S T.s18 [] Tryd.func30⟩,x_S T.s26 [[5,6,7]] Tryd.func31⟩,x_S T.s17 [] Tryd.func32⟩
theorem x_l10:AllN x_A 37:=x_N (i:=33) 4 x_l9
theorem x_l11:AllN x_A 39:=⟨⟨x_l10,x_S T.s12 [] Tryd.func37⟩,x_S T.s24 [[8,11,13]] Tryd.func38⟩
theorem x_l12:AllN x_A 42:=x_N (i:=39) 3 x_l11
theorem x_l13:AllN x_A 48:=⟨⟨⟨⟨⟨⟨x_l12,x_S T.s25 [] Tryd.func42⟩,x_S T.s33 [] Tryd.func43⟩,x_S T.s34 [] Tryd.func44⟩,x_S T.s35 [] Tryd.func45⟩,x_S T.s36 [] Tryd.func46⟩,x_S T.s37 [] Tryd.func47⟩
theorem x_l14:AllN x_A 54:=x_N (i:=48) 6 x_l13
theorem x_l15:AllN x_A 64:=⟨⟨⟨⟨⟨⟨⟨⟨⟨⟨x_l14,x_S T.s38 [] Tryd.func54⟩,x_S T.s39 [[0,4,5]] Tryd.func55⟩,x_S T.s40 [[0,2,4,6]] Tryd.func56⟩,x_S T.s41 [] Tryd.func57⟩,x_a58⟩,x_a59⟩,x_S T.s28 [] Tryd.func60⟩,x_S T.s46 [] Tryd.func61⟩,x_S T.s47 [] Tryd.func62⟩,x_S T.s48 [] Tryd.func63⟩
theorem x_l16:AllN x_A 69:=x_N (i:=64) 5 x_l15
theorem x_l17:AllN x_A 70:=⟨x_l16,x_S T.s30 [] Tryd.func69⟩
theorem x_l18:AllN x_A 123:=x_N (i:=70) 53 x_l17
theorem x_alls:AllN x_A 123:=x_l18
theorem x_kf_out(f:Nat)(h:123<=f):F.tab0.T (kf f)=none:=by
   have:kf f=0:=by
    unfold kf;rw[List.getD_eq_getElem?_getD,List.getElem?_eq_none (by show keys.length<=f;exact h)];rfl
   rw[this];exact F.tab0_0
theorem x_link:Link Tryd.prog kf kt (GG Tryd.prog) λk=>(F.tab0.T k).map SFn.fl:=zi6 x_alls x_kf_out
theorem x_oks:∀k f,F.tab0.T k=some f->f.ok=true:=F.ETree.ok_of F.tab0_ok
theorem zib:F.za F.tab0 F.stdI 4000 (.fn (kf 13) []) [] F.H.emp (λv _=>some v)=some (.bool true):=by kernel_rfl
abbrev A (k:Nat):Prop:=AtF Tryd.prog kf kt (GG Tryd.prog) F.tab k
theorem S{f:Nat}(s:SFn)(ls:List (List Nat)){fn:Func}(h:Tryd.prog.funcs[f]?=some fn)(h1:F.tab.T (kf f)=some s:=by kernel_rfl)(h2:zh2 s=true:=by kernel_rfl)(h3:(fn.name=="runtime.NumGoroutine")=false:=by kernel_rfl)(h4:zd8 Tryd.prog kf kt ls fn=some s.fl:=by kernel_rfl):A f:=.src h1 h2 h h3 h4
theorem N{i:Nat}(m:Nat)(p:AllN A i)(h:((List.range' i m).all λk=>match F.tab.T (kf k) with|some _=>false|none=>true)=true:=by kernel_rfl):AllN A (i+m):=zgr m p λk h1 h2=>.none (by
 have:=List.all_eq_true.1 h k (List.mem_range'_1.2 ⟨h1,h2⟩)
 revert this
 cases F.tab.T (kf k) with
 | some x=>intro hx;cases hx
 | none=>intro _;rfl)
theorem a13:A 13:=.whole (g:=F.awkG) (by kernel_rfl) (awk_intr zhf x_link x_oks F.iok0 4000 zib)
theorem a28:A 28:=.whole (g:=zeB) (by kernel_rfl) (zbn.weaken (G:=GTab Tryd.prog) (zfu ⟨Tryd.f28,Tryd.func28,by kernel_rfl,by kernel_rfl⟩ λn h0 h1 w htab=>(Tryd.strconv_Itoa n h0 h1 w htab).mono (by
   rintro e w' ⟨rfl,k,os,rfl⟩
   refine⟨rfl,⟨rfl,rfl,rfl,?_,λi hi=>?_⟩⟩
   ·show w.heap.size<=(w.heap++os).size;rw[Array.size_append];omega
   ·show (w.heap++os)[i]?=w.heap[i]?;rw[Array.getElem?_append_left hi])) λB hB=>hB.1)
theorem a29:A 29:=.whole (g:=zez) (by kernel_rfl) (zfs ⟨Tryd.f29,Tryd.func29,by kernel_rfl,by kernel_rfl⟩ (λa c sep w=>Tryd.strings_Join_none a c sep w) λbk o c xs sep w h1 h2 h3 h4 h5=>Tryd.strings_Join bk o c xs sep w h1 h2 h3 h4 h5)
theorem a58:A 58:=.whole (g:=zaJ) (by kernel_rfl) (zcM ⟨Tryd.f58,Tryd.func58,by kernel_rfl,by kernel_rfl⟩ λs w hs=>by
   rcases Nat.lt_or_ge 8 s.size with h8|h8
   ·refine (Tryd.strings_IndexAny_long (zero_of_info (t:=114) (n:=256) (by kernel_rfl)).1 s ⟨#[32,40,41]⟩ w (by decide) h8 hs (by decide) ?_).mono ?_
    ·intro j b hb;rcases j with _|_|_|j
     ·cases hb;decide
     ·cases hb;decide
     ·cases hb;decide
     ·cases hb
    ·rintro e w' ⟨rfl,rfl⟩
     exact⟨rfl,zfU _ _ _⟩
   ·exact zct Tryd.lays153 s w h8)
theorem a59:A 59:=.whole (g:=zeT) (by kernel_rfl) (zfW ⟨Tryd.f59,Tryd.func59,by kernel_rfl,by kernel_rfl⟩
   (λB hB w ht=>by
    obtain⟨_,h1,h2⟩:=hB;obtain⟨cs,h3,tp,p,rfl⟩:=h1.at_ ht;obtain⟨cs',h4,tp',p',rfl⟩:=h2.at_ ht;exact⟨⟨tp,p,h3⟩,tp',p',h4⟩)
   (λs h1 v h2 w=>(Tryd.strconv_Atoi_ok s h1 v h2 w).mono (by
    rintro e w' ⟨rfl,h|⟨t,h⟩⟩
    ·subst h;exact⟨rfl,Below.refl _ _⟩
    ·subst h;exact⟨rfl,zbB w 5 t⟩))
   (λs h1 h2 h2' tp p w h3=>(Tryd.strconv_Atoi_syntax_var s h1 h2 h2' tp p w h3).mono (by
    rintro e w' ⟨N,rfl,_,_,hb⟩
    exact⟨⟨_,_,rfl⟩,hb⟩))
   λs h1 h2 tp p w h3=>(Tryd.strconv_Atoi_range_var s h1 h2 tp p w h3).mono (by
    rintro e w' ⟨N,rfl,_,_,hb⟩
    exact⟨⟨_,_,rfl⟩,hb⟩))
theorem l0:AllN A 5:=N (i:=0) 5 trivial
theorem l1:AllN A 6:=⟨l0,S T.s305 [[0,5,6,7,8,9],[0,5,6,7,8,9,10,12,13]] Tryd.func5⟩
theorem l2:AllN A 7:=N (i:=6) 1 l1
theorem l3:AllN A 8:=⟨l2,S T.s266 [[1,6,25,26,27]] Tryd.func7⟩
theorem l4:AllN A 9:=N (i:=8) 1 l3
theorem l5:AllN A 11:=⟨⟨l4,S T.s15 [[0,1,5]] Tryd.func9⟩,S T.s16 [] Tryd.func10⟩
theorem l6:AllN A 13:=N (i:=11) 2 l5
theorem l7:AllN A 14:=⟨l6,a13⟩
theorem l8:AllN A 15:=N (i:=14) 1 l7
theorem l9:AllN A 21:=⟨⟨⟨⟨⟨⟨l8,S T.s299 [[0,3]] Tryd.func15⟩,S T.s295 [[1,4,5]] Tryd.func16⟩,S T.s261 [[0,5,6]] Tryd.func17⟩,S T.s258 [] Tryd.func18⟩,S T.s274 [] Tryd.func19⟩,S T.s297 [] Tryd.func20⟩
theorem l10:AllN A 23:=N (i:=21) 2 l9
theorem l11:AllN A 33:=⟨⟨⟨⟨⟨⟨⟨⟨⟨⟨l10,S T.s301 [] Tryd.func23⟩,S T.s296 [[1,3]] Tryd.func24⟩,S T.s22 [[0,3,4]] Tryd.func25⟩,S T.s270 [] Tryd.func26⟩,S T.s269 [] Tryd.func27⟩,a28⟩,a29⟩,S T.s18 [] Tryd.func30⟩,S T.s26 [[5,6,7]] Tryd.func31⟩,S T.s17 [] Tryd.func32⟩
theorem l12:AllN A 37:=N (i:=33) 4 l11
theorem l13:AllN A 39:=⟨⟨l12,S T.s12 [] Tryd.func37⟩,S T.s24 [[8,11,13]] Tryd.func38⟩
theorem l14:AllN A 42:=N (i:=39) 3 l13
theorem l15:AllN A 48:=⟨⟨⟨⟨⟨⟨l14,S T.s25 [] Tryd.func42⟩,S T.s33 [] Tryd.func43⟩,S T.s34 [] Tryd.func44⟩,S T.s35 [] Tryd.func45⟩,S T.s36 [] Tryd.func46⟩,S T.s37 [] Tryd.func47⟩
theorem l16:AllN A 54:=N (i:=48) 6 l15
theorem l17:AllN A 64:=⟨⟨⟨⟨⟨⟨⟨⟨⟨⟨l16,S T.s38 [] Tryd.func54⟩,S T.s39 [[0,4,5]] Tryd.func55⟩,S T.s40 [[0,2,4,6]] Tryd.func56⟩,S T.s41 [] Tryd.func57⟩,a58⟩,a59⟩,S T.s28 [] Tryd.func60⟩,S T.s46 [] Tryd.func61⟩,S T.s47 [] Tryd.func62⟩,S T.s48 [] Tryd.func63⟩
theorem l18:AllN A 69:=N (i:=64) 5 l17
theorem l19:AllN A 70:=⟨l18,S T.s30 [] Tryd.func69⟩
theorem l20:AllN A 123:=N (i:=70) 53 l19
theorem alls:AllN A 123:=l20
theorem kf_out(f:Nat)(h:123<=f):F.tab.T (kf f)=none:=by
   have:kf f=0:=by
    unfold kf;rw[List.getD_eq_getElem?_getD,List.getElem?_eq_none (by show keys.length<=f;exact h)];rfl
   rw[this];exact F.tab_0
theorem link:Link Tryd.prog kf kt (GG Tryd.prog) λk=>(F.tab.T k).map SFn.fl:=zi6 alls kf_out
theorem oks:∀k f,F.tab.T k=some f->f.ok=true:=F.ETree.ok_of F.tab_ok
  end Am.L
