/- Each function is what the compiler gives of the program. -/
import Derived.Test.YtginckfdokjjpaaDoorAmZobfTab
import Derived.Test.YtginckfdokjjpaaDoorAmZobfK
import Derived.Test.YtginckfdokjjpaaDoorAmZobfShelf
import Derived.Test.YtginckfdokjjpaaDoorAmIdx
set_option maxRecDepth 100000
namespace Am.L
open Go Go.Proofs Go.RowKit
theorem zg6{p:Nat->Prop}{i:Nat}:∀m:Nat,AllN p i->(∀k,i<=k->k<i+m->p k)->AllN p (i+m)
 | 0,h,_=>h
 | m+1,h,hk=>⟨zg6 m h λk h1 h2=>hk k h1 (Nat.lt_succ_of_lt h2),hk (i+m) (Nat.le_add_right _ _) (Nat.lt_succ_self _)⟩
abbrev A (k:Nat):Prop:=AtF Tryd.prog kf kt (GG Tryd.prog) F.tab k
theorem S{f:Nat}(s:SFn)(ls:List (List Nat)){fn:Func}(h:Tryd.prog.funcs[f]?=some fn)(h1:F.tab.T (kf f)=some s:=by kernel_rfl)(h2:zhf s=true:=by kernel_rfl)(h3:(fn.name=="runtime.NumGoroutine")=false:=by kernel_rfl)(h4:zeh Tryd.prog kf kt ls fn=some s.fl:=by kernel_rfl):A f:=.src h1 h2 h h3 h4
theorem N{i:Nat}(m:Nat)(p:AllN A i)(h:((List.range' i m).all λk=>match F.tab.T (kf k) with|some _=>false|none=>true)=true:=by kernel_rfl):AllN A (i+m):=zg6 m p λk h1 h2=>.none (by
 have:=List.all_eq_true.1 h k (List.mem_range'_1.2 ⟨h1,h2⟩)
 revert this
 cases F.tab.T (kf k) with
 | some x=>intro hx;cases hx
 | none=>intro _;rfl)
theorem a28:A 28:=.whole (g:=zeT) (by kernel_rfl) (zbu.weaken (G:=GTab Tryd.prog) (zhc ⟨Tryd.f28,Tryd.func28,by kernel_rfl,by kernel_rfl⟩ λn h0 h1 w htab=>(Tryd.strconv_Itoa n h0 h1 w htab).mono (by
   rintro e w' ⟨rfl,k,os,rfl⟩
   refine⟨rfl,⟨rfl,rfl,rfl,?_,λi hi=>?_⟩⟩
   ·show w.heap.size<=(w.heap++os).size;rw[Array.size_append];omega
   ·show (w.heap++os)[i]?=w.heap[i]?;rw[Array.getElem?_append_left hi])) λB hB=>hB.1)
theorem a29:A 29:=.whole (g:=zeS) (by kernel_rfl) (zhb ⟨Tryd.f29,Tryd.func29,by kernel_rfl,by kernel_rfl⟩ (λa c sep w=>Tryd.strings_Join_none a c sep w) λbk o c xs sep w h1 h2 h3 h4 h5=>Tryd.strings_Join bk o c xs sep w h1 h2 h3 h4 h5)
theorem a58:A 58:=.whole (g:=za8) (by kernel_rfl) (zd3 ⟨Tryd.f58,Tryd.func58,by kernel_rfl,by kernel_rfl⟩ λs w hs=>by
   rcases Nat.lt_or_ge 8 s.size with h8|h8
   ·refine (Tryd.strings_IndexAny_long (zero_of_info (t:=114) (n:=256) (by kernel_rfl)).1 s ⟨#[32,40,41]⟩ w (by decide) h8 hs (by decide) ?_).mono ?_
    ·intro j b hb;rcases j with _|_|_|j
     ·cases hb;decide
     ·cases hb;decide
     ·cases hb;decide
     ·cases hb
    ·rintro e w' ⟨rfl,rfl⟩
     exact⟨rfl,zhC _ _ _⟩
   ·exact zdl Tryd.lays153 s w h8)
theorem a59:A 59:=.whole (g:=zfb) (by kernel_rfl) (zhD ⟨Tryd.f59,Tryd.func59,by kernel_rfl,by kernel_rfl⟩
   (λB hB w ht=>by
    obtain⟨_,h1,h2⟩:=hB;obtain⟨cs,h3,tp,p,rfl⟩:=h1.at_ ht;obtain⟨cs',h4,tp',p',rfl⟩:=h2.at_ ht;exact⟨⟨tp,p,h3⟩,tp',p',h4⟩)
   (λs h1 v h2 w=>(Tryd.strconv_Atoi_ok s h1 v h2 w).mono (by
    rintro e w' ⟨rfl,h|⟨t,h⟩⟩
    ·subst h;exact⟨rfl,Below.refl _ _⟩
    ·subst h;exact⟨rfl,zce w 5 t⟩))
   (λs h1 h2 h2' tp p w h3=>(Tryd.strconv_Atoi_syntax_var s h1 h2 h2' tp p w h3).mono (by
    rintro e w' ⟨N,rfl,_,_,hb⟩
    exact⟨⟨_,_,rfl⟩,hb⟩))
   λs h1 h2 tp p w h3=>(Tryd.strconv_Atoi_range_var s h1 h2 tp p w h3).mono (by
    rintro e w' ⟨N,rfl,_,_,hb⟩
    exact⟨⟨_,_,rfl⟩,hb⟩))
theorem l0:AllN A 4:=N (i:=0) 4 trivial
theorem l1:AllN A 5:=⟨l0,S T.s251 [] Tryd.func4⟩
theorem l2:AllN A 7:=N (i:=5) 2 l1
theorem l3:AllN A 8:=⟨l2,S T.s266 [[1,6,25,26,27]] Tryd.func7⟩
theorem l4:AllN A 9:=N (i:=8) 1 l3
theorem l5:AllN A 11:=⟨⟨l4,S T.s15 [[0,1,5]] Tryd.func9⟩,S T.s16 [] Tryd.func10⟩
theorem l6:AllN A 13:=N (i:=11) 2 l5
theorem l7:AllN A 15:=⟨⟨l6,S T.s264 [] Tryd.func13⟩,S T.s265 [] Tryd.func14⟩
theorem l8:AllN A 17:=N (i:=15) 2 l7
theorem l9:AllN A 20:=⟨⟨⟨l8,S T.s261 [[0,5,6]] Tryd.func17⟩,S T.s258 [] Tryd.func18⟩,S T.s274 [] Tryd.func19⟩
theorem l10:AllN A 26:=N (i:=20) 6 l9
theorem l11:AllN A 30:=⟨⟨⟨⟨l10,S T.s270 [] Tryd.func26⟩,S T.s269 [] Tryd.func27⟩,a28⟩,a29⟩
theorem l12:AllN A 31:=N (i:=30) 1 l11
theorem l13:AllN A 33:=⟨⟨l12,S T.s26 [[5,6,7]] Tryd.func31⟩,S T.s17 [] Tryd.func32⟩
theorem l14:AllN A 38:=N (i:=33) 5 l13
theorem l15:AllN A 39:=⟨l14,S T.s24 [[8,11,13]] Tryd.func38⟩
theorem l16:AllN A 43:=N (i:=39) 4 l15
theorem l17:AllN A 48:=⟨⟨⟨⟨⟨l16,S T.s33 [] Tryd.func43⟩,S T.s34 [] Tryd.func44⟩,S T.s35 [] Tryd.func45⟩,S T.s36 [] Tryd.func46⟩,S T.s37 [] Tryd.func47⟩
theorem l18:AllN A 58:=N (i:=48) 10 l17
theorem l19:AllN A 64:=⟨⟨⟨⟨⟨⟨l18,a58⟩,a59⟩,S T.s28 [] Tryd.func60⟩,S T.s46 [] Tryd.func61⟩,S T.s47 [] Tryd.func62⟩,S T.s48 [] Tryd.func63⟩
theorem l20:AllN A 123:=N (i:=64) 59 l19
theorem alls:AllN A 123:=l20
theorem kf_out(f:Nat)(h:123<=f):F.tab.T (kf f)=none:=by
   have:kf f=0:=by
    unfold kf;rw[List.getD_eq_getElem?_getD,List.getElem?_eq_none (by show keys.length<=f;exact h)];rfl
   rw[this];exact F.tab_0
theorem link:Link Tryd.prog kf kt (GG Tryd.prog) λk=>(F.tab.T k).map SFn.fl:=link_of alls kf_out
theorem oks:∀k f,F.tab.T k=some f->f.ok=true:=F.ETree.ok_of F.tab_ok
  end Am.L
