/- Each function is what the compiler gives of the program. -/
import Derived.Test.YtkbjmlcdmbajcaaGreatDoorAmZghiTab
import Derived.Test.YtkbjmlcdmbajcaaGreatDoorAmZghiK
import Derived.Test.YtkbjmlcdmbajcaaGreatDoorAmZghiShelf
import Derived.Test.YtkbjmlcdmbajcaaGreatDoorAmIdx
import Derived.Test.YtkbjmlcdmbajcaaGreatDoorAmAwk
set_option maxRecDepth 100000
namespace Am.L
open Go Go.Proofs Go.RowKit
theorem nonesAt{p:Nat->Prop}{i:Nat}:∀m:Nat,AllN p i->(∀k,i<=k->k<i+m->p k)->AllN p (i+m)
 | 0,h,_=>h
 | m+1,h,hk=>⟨nonesAt m h λk h1 h2=>hk k h1 (Nat.lt_succ_of_lt h2),hk (i+m) (Nat.le_add_right _ _) (Nat.lt_succ_self _)⟩
abbrev x_A (k:Nat):Prop:=AtF Tryz.prog kf kt (GG Tryz.prog) F.tab0 k
theorem x_S{f:Nat}(s:SFn)(ls:List (List Nat)){fn:Func}(h:Tryz.prog.funcs[f]?=some fn)(h1:F.tab0.T (kf f)=some s:=by kernel_rfl)(h2:zgQ s=true:=by kernel_rfl)(h3:(fn.name=="runtime.NumGoroutine")=false:=by kernel_rfl)(h4:zdZ Tryz.prog kf kt ls fn=some s.fl:=by kernel_rfl):x_A f:=.src h1 h2 h h3 h4
theorem x_N{i:Nat}(m:Nat)(p:AllN x_A i)(h:((List.range' i m).all λk=>match F.tab0.T (kf k) with|some _=>false|none=>true)=true:=by kernel_rfl):AllN x_A (i+m):=nonesAt m p λk h1 h2=>.none (by
 have:=List.all_eq_true.1 h k (List.mem_range'_1.2 ⟨h1,h2⟩)
 revert this
 cases F.tab0.T (kf k) with
 | some x=>intro hx;cases hx
 | none=>intro _;rfl)
theorem x_a70:x_A 70:=.whole (g:=zaz) (by kernel_rfl) (zbL ⟨Tryz.f70,Tryz.func70,by kernel_rfl,by kernel_rfl⟩ λs w hs=>by
   rcases Nat.lt_or_ge 8 s.size with h8|h8
   ·refine (Tryz.strings_IndexAny_long (zero_of_info (t:=152) (n:=256) (by kernel_rfl)).1 s ⟨#[32,40,41]⟩ w (by decide) h8 hs (by decide) ?_).mono ?_
    ·intro j b hb;rcases j with _|_|_|j
     ·cases hb;decide
     ·cases hb;decide
     ·cases hb;decide
     ·cases hb
    ·rintro e w' ⟨rfl,rfl⟩
     exact⟨rfl,zdD _ _ _⟩
   ·exact zbr Tryz.lays153 s w h8)
theorem x_a71:x_A 71:=.whole (g:=zdQ) (by kernel_rfl) (zdE ⟨Tryz.f71,Tryz.func71,by kernel_rfl,by kernel_rfl⟩
   (λB hB w ht=>by
    obtain⟨_,h1,h2⟩:=hB;obtain⟨cs,h3,tp,p,rfl⟩:=h1.at_ ht;obtain⟨cs',h4,tp',p',rfl⟩:=h2.at_ ht;exact⟨⟨tp,p,h3⟩,tp',p',h4⟩)
   (λs h1 v h2 w=>(Tryz.strconv_Atoi_ok s h1 v h2 w).mono (by
    rintro e w' ⟨rfl,h|⟨t,h⟩⟩
    ·subst h;exact⟨rfl,Below.refl _ _⟩
    ·subst h;exact⟨rfl,zaO w 5 t⟩))
   (λs h1 h2 h2' tp p w h3=>(Tryz.strconv_Atoi_syntax_var s h1 h2 h2' tp p w h3).mono (by
    rintro e w' ⟨N,rfl,_,_,hb⟩
    exact⟨⟨_,_,rfl⟩,hb⟩))
   λs h1 h2 tp p w h3=>(Tryz.strconv_Atoi_range_var s h1 h2 tp p w h3).mono (by
    rintro e w' ⟨N,rfl,_,_,hb⟩
    exact⟨⟨_,_,rfl⟩,hb⟩))
theorem x_a73:x_A 73:=.whole (g:=zdL) (by kernel_rfl) (zbQ.weaken (G:=GTab Tryz.prog) (zdw ⟨Tryz.f73,Tryz.func73,by kernel_rfl,by kernel_rfl⟩ λn h0 h1 w htab=>(Tryz.strconv_Itoa n h0 h1 w htab).mono (by
   rintro e w' ⟨rfl,k,os,rfl⟩
   refine⟨rfl,⟨rfl,rfl,rfl,?_,λi hi=>?_⟩⟩
   ·show w.heap.size<=(w.heap++os).size;rw[Array.size_append];omega
   ·show (w.heap++os)[i]?=w.heap[i]?;rw[Array.getElem?_append_left hi])) λB hB=>hB.1)
theorem x_l0:AllN x_A 5:=x_N (i:=0) 5 trivial
theorem x_l1:AllN x_A 6:=⟨x_l0,x_S T.s236 [] Tryz.func5⟩
theorem x_l2:AllN x_A 8:=x_N (i:=6) 2 x_l1
theorem x_l3:AllN x_A 11:=⟨⟨⟨x_l2,x_S T.s152 [] Tryz.func8⟩,x_S T.s142 [] Tryz.func9⟩,x_S T.s16 [] Tryz.func10⟩
theorem x_l4:AllN x_A 13:=x_N (i:=11) 2 x_l3
theorem x_l5:AllN x_A 14:=⟨x_l4,x_S T.s150 [] Tryz.func13⟩
theorem x_l6:AllN x_A 15:=x_N (i:=14) 1 x_l5
theorem x_l7:AllN x_A 16:=⟨x_l6,x_S T.s146 [] Tryz.func15⟩
theorem x_l8:AllN x_A 17:=x_N (i:=16) 1 x_l7
theorem x_l9:AllN x_A 24:=⟨⟨⟨⟨⟨⟨⟨x_l8,x_S T.s181 [[1,9,11,12,59,60,61]] Tryz.func17⟩,x_S T.s17 [] Tryz.func18⟩,x_S T.s182 [[0,12,59,60,61]] Tryz.func19⟩,x_S T.s168 [[2,9]] Tryz.func20⟩,x_S T.s18 [] Tryz.func21⟩,x_S T.s169 [[0,9,11,12]] Tryz.func22⟩,x_S T.s170 [[2,6,7,8]] Tryz.func23⟩
theorem x_l10:AllN x_A 26:=x_N (i:=24) 2 x_l9
theorem x_l11:AllN x_A 28:=⟨⟨x_l10,x_S T.s151 [] Tryz.func26⟩,x_S T.s172 [] Tryz.func27⟩
theorem x_l12:AllN x_A 29:=x_N (i:=28) 1 x_l11
theorem x_l13:AllN x_A 39:=⟨⟨⟨⟨⟨⟨⟨⟨⟨⟨x_l12,x_S T.s173 [[7,11,13]] Tryz.func29⟩,x_S T.s157 [[3,26,27,28]] Tryz.func30⟩,x_S T.s26 [[5,6,7]] Tryz.func31⟩,x_S T.s204 [] Tryz.func32⟩,x_S T.s205 [] Tryz.func33⟩,x_S T.s24 [[8,11,13]] Tryz.func34⟩,x_S T.s11 [] Tryz.func35⟩,x_S T.s184 [[0,3,4]] Tryz.func36⟩,x_S T.s149 [[1,3],[1,3,4]] Tryz.func37⟩,x_S T.s12 [] Tryz.func38⟩
theorem x_l14:AllN x_A 40:=x_N (i:=39) 1 x_l13
theorem x_l15:AllN x_A 46:=⟨⟨⟨⟨⟨⟨x_l14,x_S T.s180 [] Tryz.func40⟩,x_S T.s195 [[4,7,9,10]] Tryz.func41⟩,x_S T.s196 [] Tryz.func42⟩,x_S T.s197 [[1,2,5,6]] Tryz.func43⟩,x_S T.s198 [] Tryz.func44⟩,x_S T.s30 [] Tryz.func45⟩
theorem x_l16:AllN x_A 49:=x_N (i:=46) 3 x_l15
theorem x_l17:AllN x_A 61:=⟨⟨⟨⟨⟨⟨⟨⟨⟨⟨⟨⟨x_l16,x_S T.s186 [] Tryz.func49⟩,x_S T.s187 [[1,3,4,27,28],[1,4,6],[1,4,6,7,73,74,75]] Tryz.func50⟩,x_S T.s188 [] Tryz.func51⟩,x_S T.s33 [] Tryz.func52⟩,x_S T.s34 [] Tryz.func53⟩,x_S T.s35 [] Tryz.func54⟩,x_S T.s36 [] Tryz.func55⟩,x_S T.s37 [] Tryz.func56⟩,x_S T.s206 [[0,3,16,17]] Tryz.func57⟩,x_S T.s207 [[0,1,8,10,19,20,21]] Tryz.func58⟩,x_S T.s208 [] Tryz.func59⟩,x_S T.s209 [] Tryz.func60⟩
theorem x_l18:AllN x_A 64:=⟨⟨⟨x_l17,x_S T.s210 [[4,10,26,27,28]] Tryz.func61⟩,x_S T.s179 [[1,3,4],[1,3,4,5,6]] Tryz.func62⟩,x_S T.s25 [] Tryz.func63⟩
theorem x_l19:AllN x_A 65:=x_N (i:=64) 1 x_l18
theorem x_l20:AllN x_A 77:=⟨⟨⟨⟨⟨⟨⟨⟨⟨⟨⟨⟨x_l19,x_S T.s147 [] Tryz.func65⟩,x_S T.s212 [] Tryz.func66⟩,x_S T.s213 [] Tryz.func67⟩,x_S T.s214 [] Tryz.func68⟩,x_S T.s215 [[0,1,7,8]] Tryz.func69⟩,x_a70⟩,x_a71⟩,x_S T.s28 [] Tryz.func72⟩,x_a73⟩,x_S T.s46 [] Tryz.func74⟩,x_S T.s47 [] Tryz.func75⟩,x_S T.s48 [] Tryz.func76⟩
theorem x_l21:AllN x_A 87:=⟨⟨⟨⟨⟨⟨⟨⟨⟨⟨x_l20,x_S T.s226 [] Tryz.func77⟩,x_S T.s227 [[0,3,9,10,11],[6,25,26,27]] Tryz.func78⟩,x_S T.s202 [] Tryz.func79⟩,x_S T.s203 [] Tryz.func80⟩,x_S T.s38 [] Tryz.func81⟩,x_S T.s39 [[0,4,5]] Tryz.func82⟩,x_S T.s40 [[0,2,4,6]] Tryz.func83⟩,x_S T.s41 [] Tryz.func84⟩,x_S T.s174 [] Tryz.func85⟩,x_S T.s229 [] Tryz.func86⟩
theorem x_l22:AllN x_A 94:=x_N (i:=87) 7 x_l21
theorem x_l23:AllN x_A 96:=⟨⟨x_l22,x_S T.s230 [] Tryz.func94⟩,x_S T.s231 [] Tryz.func95⟩
theorem x_l24:AllN x_A 152:=x_N (i:=96) 56 x_l23
theorem x_alls:AllN x_A 152:=x_l24
theorem x_kf_out(f:Nat)(h:152<=f):F.tab0.T (kf f)=none:=by
   have:kf f=0:=by
    unfold kf;rw[List.getD_eq_getElem?_getD,List.getElem?_eq_none (by show keys.length<=f;exact h)];rfl
   rw[this];exact F.tab0_0
theorem x_link:Link Tryz.prog kf kt (GG Tryz.prog) λk=>(F.tab0.T k).map SFn.fl:=zfZ x_alls x_kf_out
theorem x_oks:∀k f,F.tab0.T k=some f->f.ok=true:=F.ETree.ok_of F.tab0_ok
theorem awake_true:F.zc F.tab0 F.stdI 4000 (.fn (kf 13) []) [] F.H.emp (λv _=>some v)=some (.bool true):=by kernel_rfl
abbrev A (k:Nat):Prop:=AtF Tryz.prog kf kt (GG Tryz.prog) F.tab k
theorem S{f:Nat}(s:SFn)(ls:List (List Nat)){fn:Func}(h:Tryz.prog.funcs[f]?=some fn)(h1:F.tab.T (kf f)=some s:=by kernel_rfl)(h2:zgQ s=true:=by kernel_rfl)(h3:(fn.name=="runtime.NumGoroutine")=false:=by kernel_rfl)(h4:zdZ Tryz.prog kf kt ls fn=some s.fl:=by kernel_rfl):A f:=.src h1 h2 h h3 h4
theorem N{i:Nat}(m:Nat)(p:AllN A i)(h:((List.range' i m).all λk=>match F.tab.T (kf k) with|some _=>false|none=>true)=true:=by kernel_rfl):AllN A (i+m):=nonesAt m p λk h1 h2=>.none (by
 have:=List.all_eq_true.1 h k (List.mem_range'_1.2 ⟨h1,h2⟩)
 revert this
 cases F.tab.T (kf k) with
 | some x=>intro hx;cases hx
 | none=>intro _;rfl)
theorem a13:A 13:=.whole (g:=F.awkG) (by kernel_rfl) (ziI gg_keeps x_link x_oks F.iok0 4000 awake_true)
theorem a70:A 70:=.whole (g:=zaz) (by kernel_rfl) (zbL ⟨Tryz.f70,Tryz.func70,by kernel_rfl,by kernel_rfl⟩ λs w hs=>by
   rcases Nat.lt_or_ge 8 s.size with h8|h8
   ·refine (Tryz.strings_IndexAny_long (zero_of_info (t:=152) (n:=256) (by kernel_rfl)).1 s ⟨#[32,40,41]⟩ w (by decide) h8 hs (by decide) ?_).mono ?_
    ·intro j b hb;rcases j with _|_|_|j
     ·cases hb;decide
     ·cases hb;decide
     ·cases hb;decide
     ·cases hb
    ·rintro e w' ⟨rfl,rfl⟩
     exact⟨rfl,zdD _ _ _⟩
   ·exact zbr Tryz.lays153 s w h8)
theorem a71:A 71:=.whole (g:=zdQ) (by kernel_rfl) (zdE ⟨Tryz.f71,Tryz.func71,by kernel_rfl,by kernel_rfl⟩
   (λB hB w ht=>by
    obtain⟨_,h1,h2⟩:=hB;obtain⟨cs,h3,tp,p,rfl⟩:=h1.at_ ht;obtain⟨cs',h4,tp',p',rfl⟩:=h2.at_ ht;exact⟨⟨tp,p,h3⟩,tp',p',h4⟩)
   (λs h1 v h2 w=>(Tryz.strconv_Atoi_ok s h1 v h2 w).mono (by
    rintro e w' ⟨rfl,h|⟨t,h⟩⟩
    ·subst h;exact⟨rfl,Below.refl _ _⟩
    ·subst h;exact⟨rfl,zaO w 5 t⟩))
   (λs h1 h2 h2' tp p w h3=>(Tryz.strconv_Atoi_syntax_var s h1 h2 h2' tp p w h3).mono (by
    rintro e w' ⟨N,rfl,_,_,hb⟩
    exact⟨⟨_,_,rfl⟩,hb⟩))
   λs h1 h2 tp p w h3=>(Tryz.strconv_Atoi_range_var s h1 h2 tp p w h3).mono (by
    rintro e w' ⟨N,rfl,_,_,hb⟩
    exact⟨⟨_,_,rfl⟩,hb⟩))
theorem a73:A 73:=.whole (g:=zdL) (by kernel_rfl) (zbQ.weaken (G:=GTab Tryz.prog) (zdw ⟨Tryz.f73,Tryz.func73,by kernel_rfl,by kernel_rfl⟩ λn h0 h1 w htab=>(Tryz.strconv_Itoa n h0 h1 w htab).mono (by
   rintro e w' ⟨rfl,k,os,rfl⟩
   refine⟨rfl,⟨rfl,rfl,rfl,?_,λi hi=>?_⟩⟩
   ·show w.heap.size<=(w.heap++os).size;rw[Array.size_append];omega
   ·show (w.heap++os)[i]?=w.heap[i]?;rw[Array.getElem?_append_left hi])) λB hB=>hB.1)
theorem l0:AllN A 5:=N (i:=0) 5 trivial
theorem l1:AllN A 6:=⟨l0,S T.s236 [] Tryz.func5⟩
theorem l2:AllN A 8:=N (i:=6) 2 l1
theorem l3:AllN A 11:=⟨⟨⟨l2,S T.s152 [] Tryz.func8⟩,S T.s142 [] Tryz.func9⟩,S T.s16 [] Tryz.func10⟩
theorem l4:AllN A 13:=N (i:=11) 2 l3
theorem l5:AllN A 14:=⟨l4,a13⟩
theorem l6:AllN A 15:=N (i:=14) 1 l5
theorem l7:AllN A 16:=⟨l6,S T.s146 [] Tryz.func15⟩
theorem l8:AllN A 17:=N (i:=16) 1 l7
theorem l9:AllN A 24:=⟨⟨⟨⟨⟨⟨⟨l8,S T.s181 [[1,9,11,12,59,60,61]] Tryz.func17⟩,S T.s17 [] Tryz.func18⟩,S T.s182 [[0,12,59,60,61]] Tryz.func19⟩,S T.s168 [[2,9]] Tryz.func20⟩,S T.s18 [] Tryz.func21⟩,S T.s169 [[0,9,11,12]] Tryz.func22⟩,S T.s170 [[2,6,7,8]] Tryz.func23⟩
theorem l10:AllN A 26:=N (i:=24) 2 l9
theorem l11:AllN A 28:=⟨⟨l10,S T.s151 [] Tryz.func26⟩,S T.s172 [] Tryz.func27⟩
theorem l12:AllN A 29:=N (i:=28) 1 l11
theorem l13:AllN A 39:=⟨⟨⟨⟨⟨⟨⟨⟨⟨⟨l12,S T.s173 [[7,11,13]] Tryz.func29⟩,S T.s157 [[3,26,27,28]] Tryz.func30⟩,S T.s26 [[5,6,7]] Tryz.func31⟩,S T.s204 [] Tryz.func32⟩,S T.s205 [] Tryz.func33⟩,S T.s24 [[8,11,13]] Tryz.func34⟩,S T.s11 [] Tryz.func35⟩,S T.s184 [[0,3,4]] Tryz.func36⟩,S T.s149 [[1,3],[1,3,4]] Tryz.func37⟩,S T.s12 [] Tryz.func38⟩
theorem l14:AllN A 40:=N (i:=39) 1 l13
theorem l15:AllN A 46:=⟨⟨⟨⟨⟨⟨l14,S T.s180 [] Tryz.func40⟩,S T.s195 [[4,7,9,10]] Tryz.func41⟩,S T.s196 [] Tryz.func42⟩,S T.s197 [[1,2,5,6]] Tryz.func43⟩,S T.s198 [] Tryz.func44⟩,S T.s30 [] Tryz.func45⟩
theorem l16:AllN A 49:=N (i:=46) 3 l15
theorem l17:AllN A 61:=⟨⟨⟨⟨⟨⟨⟨⟨⟨⟨⟨⟨l16,S T.s186 [] Tryz.func49⟩,S T.s187 [[1,3,4,27,28],[1,4,6],[1,4,6,7,73,74,75]] Tryz.func50⟩,S T.s188 [] Tryz.func51⟩,S T.s33 [] Tryz.func52⟩,S T.s34 [] Tryz.func53⟩,S T.s35 [] Tryz.func54⟩,S T.s36 [] Tryz.func55⟩,S T.s37 [] Tryz.func56⟩,S T.s206 [[0,3,16,17]] Tryz.func57⟩,S T.s207 [[0,1,8,10,19,20,21]] Tryz.func58⟩,S T.s208 [] Tryz.func59⟩,S T.s209 [] Tryz.func60⟩
theorem l18:AllN A 64:=⟨⟨⟨l17,S T.s210 [[4,10,26,27,28]] Tryz.func61⟩,S T.s179 [[1,3,4],[1,3,4,5,6]] Tryz.func62⟩,S T.s25 [] Tryz.func63⟩
theorem l19:AllN A 65:=N (i:=64) 1 l18
theorem l20:AllN A 77:=⟨⟨⟨⟨⟨⟨⟨⟨⟨⟨⟨⟨l19,S T.s147 [] Tryz.func65⟩,S T.s212 [] Tryz.func66⟩,S T.s213 [] Tryz.func67⟩,S T.s214 [] Tryz.func68⟩,S T.s215 [[0,1,7,8]] Tryz.func69⟩,a70⟩,a71⟩,S T.s28 [] Tryz.func72⟩,a73⟩,S T.s46 [] Tryz.func74⟩,S T.s47 [] Tryz.func75⟩,S T.s48 [] Tryz.func76⟩
theorem l21:AllN A 87:=⟨⟨⟨⟨⟨⟨⟨⟨⟨⟨l20,S T.s226 [] Tryz.func77⟩,S T.s227 [[0,3,9,10,11],[6,25,26,27]] Tryz.func78⟩,S T.s202 [] Tryz.func79⟩,S T.s203 [] Tryz.func80⟩,S T.s38 [] Tryz.func81⟩,S T.s39 [[0,4,5]] Tryz.func82⟩,S T.s40 [[0,2,4,6]] Tryz.func83⟩,S T.s41 [] Tryz.func84⟩,S T.s174 [] Tryz.func85⟩,S T.s229 [] Tryz.func86⟩
theorem l22:AllN A 94:=N (i:=87) 7 l21
theorem l23:AllN A 96:=⟨⟨l22,S T.s230 [] Tryz.func94⟩,S T.s231 [] Tryz.func95⟩
theorem l24:AllN A 152:=N (i:=96) 56 l23
theorem alls:AllN A 152:=l24
theorem kf_out(f:Nat)(h:152<=f):F.tab.T (kf f)=none:=by
   have:kf f=0:=by
    unfold kf;rw[List.getD_eq_getElem?_getD,List.getElem?_eq_none (by show keys.length<=f;exact h)];rfl
   rw[this];exact F.tab_0
theorem link:Link Tryz.prog kf kt (GG Tryz.prog) λk=>(F.tab.T k).map SFn.fl:=zfZ alls kf_out
theorem oks:∀k f,F.tab.T k=some f->f.ok=true:=F.ETree.ok_of F.tab_ok
  end Am.L
