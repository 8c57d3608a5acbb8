/- Each function is what the compiler gives of the program. -/
import Derived.Test.YtddiafpckjhadaaGreatDoorAmZgehTab
import Derived.Test.YtddiafpckjhadaaGreatDoorAmZgehK
import Derived.Test.YtddiafpckjhadaaGreatDoorAmZgehShelf
import Derived.Test.YtddiafpckjhadaaGreatDoorAmIdx
import Derived.Test.YtddiafpckjhadaaGreatDoorAmAwk
set_option maxRecDepth 100000
namespace Am.L
open Go Go.Proofs Go.RowKit
theorem zhl{p:Nat->Prop}{i:Nat}:∀m:Nat,AllN p i->(∀k,i<=k->k<i+m->p k)->AllN p (i+m)
 | 0,h,_=>h
 | m+1,h,hk=>⟨zhl m h λk h1 h2=>hk k h1 (Nat.lt_succ_of_lt h2),hk (i+m) (Nat.le_add_right _ _) (Nat.lt_succ_self _)⟩
abbrev x_A (k:Nat):Prop:=AtF Tryz.prog kf kt (GG Tryz.prog) F.tab0 k
theorem x_S{f:Nat}(s:SFn)(ls:List (List Nat)){fn:Func}(h:Tryz.prog.funcs[f]?=some fn)(h1:F.tab0.T (kf f)=some s:=by kernel_rfl)(h2:ziY s=true:=by kernel_rfl)(h3:(fn.name=="runtime.NumGoroutine")=false:=by kernel_rfl)(h4:zfe Tryz.prog kf kt ls fn=some s.fl:=by kernel_rfl):x_A f:=.src h1 h2 h h3 h4
theorem x_N{i:Nat}(m:Nat)(p:AllN x_A i)(h:((List.range' i m).all λk=>match F.tab0.T (kf k) with|some _=>false|none=>true)=true:=by kernel_rfl):AllN x_A (i+m):=zhl m p λk h1 h2=>.none (by
 have:=List.all_eq_true.1 h k (List.mem_range'_1.2 ⟨h1,h2⟩)
 revert this
 cases F.tab0.T (kf k) with
 | some x=>intro hx;cases hx
 | none=>intro _;rfl)
theorem x_a47:x_A 47:=.whole (g:=zfE) (by kernel_rfl) (zb3.weaken (G:=GTab Tryz.prog) (zgr ⟨Tryz.f47,Tryz.func47,by kernel_rfl,by kernel_rfl⟩ λn h0 h1 w htab=>(Tryz.strconv_Itoa n h0 h1 w htab).mono (by
   rintro e w' ⟨rfl,k,os,rfl⟩
   refine⟨rfl,⟨rfl,rfl,rfl,?_,λi hi=>?_⟩⟩
   ·show w.heap.size<=(w.heap++os).size;rw[Array.size_append];omega
   ·show (w.heap++os)[i]?=w.heap[i]?;rw[Array.getElem?_append_left hi])) λB hB=>hB.1)
theorem x_a75:x_A 75:=.whole (g:=zfD) (by kernel_rfl) (zgp ⟨Tryz.f75,Tryz.func75,by kernel_rfl,by kernel_rfl⟩ (λa c sep w=>Tryz.strings_Join_none a c sep w) λbk o c xs sep w h1 h2 h3 h4 h5=>Tryz.strings_Join bk o c xs sep w h1 h2 h3 h4 h5)
theorem x_a111:x_A 111:=.whole (g:=zbj) (by kernel_rfl) (zdG ⟨Tryz.f111,Tryz.func111,by kernel_rfl,by kernel_rfl⟩ λs w hs=>by
   rcases Nat.lt_or_ge 8 s.size with h8|h8
   ·refine (Tryz.strings_IndexAny_long (zero_of_info (t:=194) (n:=256) (by kernel_rfl)).1 s ⟨#[32,40,41]⟩ w (by decide) h8 hs (by decide) ?_).mono ?_
    ·intro j b hb;rcases j with _|_|_|j
     ·cases hb;decide
     ·cases hb;decide
     ·cases hb;decide
     ·cases hb
    ·rintro e w' ⟨rfl,rfl⟩
     exact⟨rfl,zgP _ _ _⟩
   ·exact zdj Tryz.lays153 s w h8)
theorem x_a112:x_A 112:=.whole (g:=zfS) (by kernel_rfl) (zgR ⟨Tryz.f112,Tryz.func112,by kernel_rfl,by kernel_rfl⟩
   (λB hB w ht=>by
    obtain⟨_,h1,h2⟩:=hB;obtain⟨cs,h3,tp,p,rfl⟩:=h1.at_ ht;obtain⟨cs',h4,tp',p',rfl⟩:=h2.at_ ht;exact⟨⟨tp,p,h3⟩,tp',p',h4⟩)
   (λs h1 v h2 w=>(Tryz.strconv_Atoi_ok s h1 v h2 w).mono (by
    rintro e w' ⟨rfl,h|⟨t,h⟩⟩
    ·subst h;exact⟨rfl,Below.refl _ _⟩
    ·subst h;exact⟨rfl,zci w 5 t⟩))
   (λs h1 h2 h2' tp p w h3=>(Tryz.strconv_Atoi_syntax_var s h1 h2 h2' tp p w h3).mono (by
    rintro e w' ⟨N,rfl,_,_,hb⟩
    exact⟨⟨_,_,rfl⟩,hb⟩))
   λs h1 h2 tp p w h3=>(Tryz.strconv_Atoi_range_var s h1 h2 tp p w h3).mono (by
    rintro e w' ⟨N,rfl,_,_,hb⟩
    exact⟨⟨_,_,rfl⟩,hb⟩))
theorem x_l0:AllN x_A 3:=x_N (i:=0) 3 trivial
theorem x_l1:AllN x_A 4:=⟨x_l0,x_S T.s237 [] Tryz.func3⟩
theorem x_l2:AllN x_A 6:=x_N (i:=4) 2 x_l1
theorem x_l3:AllN x_A 14:=⟨⟨⟨⟨⟨⟨⟨⟨x_l2,x_S T.s135 [[1,2,3,4]] Tryz.func6⟩,x_S T.s10 [] Tryz.func7⟩,x_S T.s155 [] Tryz.func8⟩,x_S T.s145 [[11,12,13]] Tryz.func9⟩,x_S T.s16 [] Tryz.func10⟩,x_S T.s140 [[2,3,5]] Tryz.func11⟩,x_S T.s20 [] Tryz.func12⟩,x_S T.s153 [] Tryz.func13⟩
theorem x_l4:AllN x_A 20:=x_N (i:=14) 6 x_l3
theorem x_l5:AllN x_A 32:=⟨⟨⟨⟨⟨⟨⟨⟨⟨⟨⟨⟨x_l4,x_S T.s156 [[1,2,3,4]] Tryz.func20⟩,x_S T.s23 [] Tryz.func21⟩,x_S T.s181 [[1,9,11,12,59,60,61]] Tryz.func22⟩,x_S T.s184 [[0,3,4]] Tryz.func23⟩,x_S T.s185 [] Tryz.func24⟩,x_S T.s168 [[2,9]] Tryz.func25⟩,x_S T.s172 [] Tryz.func26⟩,x_S T.s170 [[2,6,7,8]] Tryz.func27⟩,x_S T.s14 [] Tryz.func28⟩,x_S T.s167 [] Tryz.func29⟩,x_S T.s15 [[0,1,5]] Tryz.func30⟩,x_S T.s154 [] Tryz.func31⟩
theorem x_l6:AllN x_A 33:=x_N (i:=32) 1 x_l5
theorem x_l7:AllN x_A 34:=⟨x_l6,x_S T.s17 [] Tryz.func33⟩
theorem x_l8:AllN x_A 35:=x_N (i:=34) 1 x_l7
theorem x_l9:AllN x_A 36:=⟨x_l8,x_S T.s18 [] Tryz.func35⟩
theorem x_l10:AllN x_A 38:=x_N (i:=36) 2 x_l9
theorem x_l11:AllN x_A 50:=⟨⟨⟨⟨⟨⟨⟨⟨⟨⟨⟨⟨x_l10,x_S T.s157 [[3,26,27,28]] Tryz.func38⟩,x_S T.s26 [[5,6,7]] Tryz.func39⟩,x_S T.s204 [] Tryz.func40⟩,x_S T.s205 [] Tryz.func41⟩,x_S T.s206 [[0,3,16,17]] Tryz.func42⟩,x_S T.s207 [[0,1,8,10,19,20,21]] Tryz.func43⟩,x_S T.s208 [] Tryz.func44⟩,x_S T.s209 [] Tryz.func45⟩,x_S T.s210 [[4,10,26,27,28]] Tryz.func46⟩,x_a47⟩,x_S T.s27 [] Tryz.func48⟩,x_S T.s211 [[7,8]] Tryz.func49⟩
theorem x_l12:AllN x_A 62:=⟨⟨⟨⟨⟨⟨⟨⟨⟨⟨⟨⟨x_l11,x_S T.s149 [[1,3],[1,3,4]] Tryz.func50⟩,x_S T.s195 [[4,7,9,10]] Tryz.func51⟩,x_S T.s196 [] Tryz.func52⟩,x_S T.s197 [[1,2,5,6]] Tryz.func53⟩,x_S T.s198 [] Tryz.func54⟩,x_S T.s30 [] Tryz.func55⟩,x_S T.s22 [[0,3,4]] Tryz.func56⟩,x_S T.s31 [[0,3,4]] Tryz.func57⟩,x_S T.s12 [] Tryz.func58⟩,x_S T.s32 [[0,1,5]] Tryz.func59⟩,x_S T.s194 [[0,1,5]] Tryz.func60⟩,x_S T.s183 [] Tryz.func61⟩
theorem x_l13:AllN x_A 66:=x_N (i:=62) 4 x_l12
theorem x_l14:AllN x_A 68:=⟨⟨x_l13,x_S T.s24 [[8,11,13]] Tryz.func66⟩,x_S T.s11 [] Tryz.func67⟩
theorem x_l15:AllN x_A 69:=x_N (i:=68) 1 x_l14
theorem x_l16:AllN x_A 74:=⟨⟨⟨⟨⟨x_l15,x_S T.s186 [] Tryz.func69⟩,x_S T.s187 [[1,3,4,27,28],[1,4,6],[1,4,6,7,73,74,75]] Tryz.func70⟩,x_S T.s188 [] Tryz.func71⟩,x_S T.s226 [] Tryz.func72⟩,x_S T.s227 [[0,3,9,10,11],[6,25,26,27]] Tryz.func73⟩
theorem x_l17:AllN x_A 75:=x_N (i:=74) 1 x_l16
theorem x_l18:AllN x_A 82:=⟨⟨⟨⟨⟨⟨⟨x_l17,x_a75⟩,x_S T.s228 [] Tryz.func76⟩,x_S T.s179 [[1,3,4],[1,3,4,5,6]] Tryz.func77⟩,x_S T.s147 [] Tryz.func78⟩,x_S T.s25 [] Tryz.func79⟩,x_S T.s223 [[0,1,5]] Tryz.func80⟩,x_S T.s39 [[0,4,5]] Tryz.func81⟩
theorem x_l19:AllN x_A 85:=x_N (i:=82) 3 x_l18
theorem x_l20:AllN x_A 97:=⟨⟨⟨⟨⟨⟨⟨⟨⟨⟨⟨⟨x_l19,x_S T.s33 [] Tryz.func85⟩,x_S T.s34 [] Tryz.func86⟩,x_S T.s35 [] Tryz.func87⟩,x_S T.s36 [] Tryz.func88⟩,x_S T.s37 [] Tryz.func89⟩,x_S T.s212 [] Tryz.func90⟩,x_S T.s213 [] Tryz.func91⟩,x_S T.s214 [] Tryz.func92⟩,x_S T.s215 [[0,1,7,8]] Tryz.func93⟩,x_S T.s28 [] Tryz.func94⟩,x_S T.s230 [] Tryz.func95⟩,x_S T.s231 [] Tryz.func96⟩
theorem x_l21:AllN x_A 101:=x_N (i:=97) 4 x_l20
theorem x_l22:AllN x_A 109:=⟨⟨⟨⟨⟨⟨⟨⟨x_l21,x_S T.s232 [] Tryz.func101⟩,x_S T.s233 [] Tryz.func102⟩,x_S T.s202 [] Tryz.func103⟩,x_S T.s203 [] Tryz.func104⟩,x_S T.s41 [] Tryz.func105⟩,x_S T.s174 [] Tryz.func106⟩,x_S T.s38 [] Tryz.func107⟩,x_S T.s40 [[0,2,4,6]] Tryz.func108⟩
theorem x_l23:AllN x_A 111:=x_N (i:=109) 2 x_l22
theorem x_l24:AllN x_A 117:=⟨⟨⟨⟨⟨⟨x_l23,x_a111⟩,x_a112⟩,x_S T.s46 [] Tryz.func113⟩,x_S T.s47 [] Tryz.func114⟩,x_S T.s48 [] Tryz.func115⟩,x_S T.s229 [] Tryz.func116⟩
theorem x_l25:AllN x_A 183:=x_N (i:=117) 66 x_l24
theorem x_alls:AllN x_A 183:=x_l25
theorem x_kf_out(f:Nat)(h:183<=f):F.tab0.T (kf f)=none:=by
   have:kf f=0:=by
    unfold kf;rw[List.getD_eq_getElem?_getD,List.getElem?_eq_none (by show keys.length<=f;exact h)];rfl
   rw[this];exact F.tab0_0
theorem x_link:Link Tryz.prog kf kt (GG Tryz.prog) λk=>(F.tab0.T k).map SFn.fl:=zj6 x_alls x_kf_out
theorem x_oks:∀k f,F.tab0.T k=some f->f.ok=true:=F.ETree.ok_of F.tab0_ok
theorem zi6:F.zc F.tab0 F.stdI 4000 (.fn (kf 13) []) [] F.H.emp (λv _=>some v)=some (.bool true):=by kernel_rfl
abbrev A (k:Nat):Prop:=AtF Tryz.prog kf kt (GG Tryz.prog) F.tab k
theorem S{f:Nat}(s:SFn)(ls:List (List Nat)){fn:Func}(h:Tryz.prog.funcs[f]?=some fn)(h1:F.tab.T (kf f)=some s:=by kernel_rfl)(h2:ziY s=true:=by kernel_rfl)(h3:(fn.name=="runtime.NumGoroutine")=false:=by kernel_rfl)(h4:zfe Tryz.prog kf kt ls fn=some s.fl:=by kernel_rfl):A f:=.src h1 h2 h h3 h4
theorem N{i:Nat}(m:Nat)(p:AllN A i)(h:((List.range' i m).all λk=>match F.tab.T (kf k) with|some _=>false|none=>true)=true:=by kernel_rfl):AllN A (i+m):=zhl m p λk h1 h2=>.none (by
 have:=List.all_eq_true.1 h k (List.mem_range'_1.2 ⟨h1,h2⟩)
 revert this
 cases F.tab.T (kf k) with
 | some x=>intro hx;cases hx
 | none=>intro _;rfl)
theorem a13:A 13:=.whole (g:=F.awkG) (by kernel_rfl) (awk_intr zia x_link x_oks F.iok0 4000 zi6)
theorem a47:A 47:=.whole (g:=zfE) (by kernel_rfl) (zb3.weaken (G:=GTab Tryz.prog) (zgr ⟨Tryz.f47,Tryz.func47,by kernel_rfl,by kernel_rfl⟩ λn h0 h1 w htab=>(Tryz.strconv_Itoa n h0 h1 w htab).mono (by
   rintro e w' ⟨rfl,k,os,rfl⟩
   refine⟨rfl,⟨rfl,rfl,rfl,?_,λi hi=>?_⟩⟩
   ·show w.heap.size<=(w.heap++os).size;rw[Array.size_append];omega
   ·show (w.heap++os)[i]?=w.heap[i]?;rw[Array.getElem?_append_left hi])) λB hB=>hB.1)
theorem a75:A 75:=.whole (g:=zfD) (by kernel_rfl) (zgp ⟨Tryz.f75,Tryz.func75,by kernel_rfl,by kernel_rfl⟩ (λa c sep w=>Tryz.strings_Join_none a c sep w) λbk o c xs sep w h1 h2 h3 h4 h5=>Tryz.strings_Join bk o c xs sep w h1 h2 h3 h4 h5)
theorem a111:A 111:=.whole (g:=zbj) (by kernel_rfl) (zdG ⟨Tryz.f111,Tryz.func111,by kernel_rfl,by kernel_rfl⟩ λs w hs=>by
   rcases Nat.lt_or_ge 8 s.size with h8|h8
   ·refine (Tryz.strings_IndexAny_long (zero_of_info (t:=194) (n:=256) (by kernel_rfl)).1 s ⟨#[32,40,41]⟩ w (by decide) h8 hs (by decide) ?_).mono ?_
    ·intro j b hb;rcases j with _|_|_|j
     ·cases hb;decide
     ·cases hb;decide
     ·cases hb;decide
     ·cases hb
    ·rintro e w' ⟨rfl,rfl⟩
     exact⟨rfl,zgP _ _ _⟩
   ·exact zdj Tryz.lays153 s w h8)
theorem a112:A 112:=.whole (g:=zfS) (by kernel_rfl) (zgR ⟨Tryz.f112,Tryz.func112,by kernel_rfl,by kernel_rfl⟩
   (λB hB w ht=>by
    obtain⟨_,h1,h2⟩:=hB;obtain⟨cs,h3,tp,p,rfl⟩:=h1.at_ ht;obtain⟨cs',h4,tp',p',rfl⟩:=h2.at_ ht;exact⟨⟨tp,p,h3⟩,tp',p',h4⟩)
   (λs h1 v h2 w=>(Tryz.strconv_Atoi_ok s h1 v h2 w).mono (by
    rintro e w' ⟨rfl,h|⟨t,h⟩⟩
    ·subst h;exact⟨rfl,Below.refl _ _⟩
    ·subst h;exact⟨rfl,zci w 5 t⟩))
   (λs h1 h2 h2' tp p w h3=>(Tryz.strconv_Atoi_syntax_var s h1 h2 h2' tp p w h3).mono (by
    rintro e w' ⟨N,rfl,_,_,hb⟩
    exact⟨⟨_,_,rfl⟩,hb⟩))
   λs h1 h2 tp p w h3=>(Tryz.strconv_Atoi_range_var s h1 h2 tp p w h3).mono (by
    rintro e w' ⟨N,rfl,_,_,hb⟩
    exact⟨⟨_,_,rfl⟩,hb⟩))
theorem l0:AllN A 3:=N (i:=0) 3 trivial
theorem l1:AllN A 4:=⟨l0,S T.s237 [] Tryz.func3⟩
theorem l2:AllN A 6:=N (i:=4) 2 l1
theorem l3:AllN A 14:=⟨⟨⟨⟨⟨⟨⟨⟨l2,S T.s135 [[1,2,3,4]] Tryz.func6⟩,S T.s10 [] Tryz.func7⟩,S T.s155 [] Tryz.func8⟩,S T.s145 [[11,12,13]] Tryz.func9⟩,S T.s16 [] Tryz.func10⟩,S T.s140 [[2,3,5]] Tryz.func11⟩,S T.s20 [] Tryz.func12⟩,a13⟩
theorem l4:AllN A 20:=N (i:=14) 6 l3
theorem l5:AllN A 31:=⟨⟨⟨⟨⟨⟨⟨⟨⟨⟨⟨l4,S T.s156 [[1,2,3,4]] Tryz.func20⟩,S T.s23 [] Tryz.func21⟩,S T.s181 [[1,9,11,12,59,60,61]] Tryz.func22⟩,S T.s184 [[0,3,4]] Tryz.func23⟩,S T.s185 [] Tryz.func24⟩,S T.s168 [[2,9]] Tryz.func25⟩,S T.s172 [] Tryz.func26⟩,S T.s170 [[2,6,7,8]] Tryz.func27⟩,S T.s14 [] Tryz.func28⟩,S T.s167 [] Tryz.func29⟩,S T.s15 [[0,1,5]] Tryz.func30⟩
theorem l6:AllN A 33:=N (i:=31) 2 l5
theorem l7:AllN A 34:=⟨l6,S T.s17 [] Tryz.func33⟩
theorem l8:AllN A 35:=N (i:=34) 1 l7
theorem l9:AllN A 36:=⟨l8,S T.s18 [] Tryz.func35⟩
theorem l10:AllN A 38:=N (i:=36) 2 l9
theorem l11:AllN A 50:=⟨⟨⟨⟨⟨⟨⟨⟨⟨⟨⟨⟨l10,S T.s157 [[3,26,27,28]] Tryz.func38⟩,S T.s26 [[5,6,7]] Tryz.func39⟩,S T.s204 [] Tryz.func40⟩,S T.s205 [] Tryz.func41⟩,S T.s206 [[0,3,16,17]] Tryz.func42⟩,S T.s207 [[0,1,8,10,19,20,21]] Tryz.func43⟩,S T.s208 [] Tryz.func44⟩,S T.s209 [] Tryz.func45⟩,S T.s210 [[4,10,26,27,28]] Tryz.func46⟩,a47⟩,S T.s27 [] Tryz.func48⟩,S T.s211 [[7,8]] Tryz.func49⟩
theorem l12:AllN A 61:=⟨⟨⟨⟨⟨⟨⟨⟨⟨⟨⟨l11,S T.s149 [[1,3],[1,3,4]] Tryz.func50⟩,S T.s195 [[4,7,9,10]] Tryz.func51⟩,S T.s196 [] Tryz.func52⟩,S T.s197 [[1,2,5,6]] Tryz.func53⟩,S T.s198 [] Tryz.func54⟩,S T.s30 [] Tryz.func55⟩,S T.s22 [[0,3,4]] Tryz.func56⟩,S T.s31 [[0,3,4]] Tryz.func57⟩,S T.s12 [] Tryz.func58⟩,S T.s32 [[0,1,5]] Tryz.func59⟩,S T.s194 [[0,1,5]] Tryz.func60⟩
theorem l13:AllN A 66:=N (i:=61) 5 l12
theorem l14:AllN A 68:=⟨⟨l13,S T.s24 [[8,11,13]] Tryz.func66⟩,S T.s11 [] Tryz.func67⟩
theorem l15:AllN A 69:=N (i:=68) 1 l14
theorem l16:AllN A 74:=⟨⟨⟨⟨⟨l15,S T.s186 [] Tryz.func69⟩,S T.s187 [[1,3,4,27,28],[1,4,6],[1,4,6,7,73,74,75]] Tryz.func70⟩,S T.s188 [] Tryz.func71⟩,S T.s226 [] Tryz.func72⟩,S T.s227 [[0,3,9,10,11],[6,25,26,27]] Tryz.func73⟩
theorem l17:AllN A 75:=N (i:=74) 1 l16
theorem l18:AllN A 82:=⟨⟨⟨⟨⟨⟨⟨l17,a75⟩,S T.s228 [] Tryz.func76⟩,S T.s179 [[1,3,4],[1,3,4,5,6]] Tryz.func77⟩,S T.s147 [] Tryz.func78⟩,S T.s25 [] Tryz.func79⟩,S T.s223 [[0,1,5]] Tryz.func80⟩,S T.s39 [[0,4,5]] Tryz.func81⟩
theorem l19:AllN A 85:=N (i:=82) 3 l18
theorem l20:AllN A 97:=⟨⟨⟨⟨⟨⟨⟨⟨⟨⟨⟨⟨l19,S T.s33 [] Tryz.func85⟩,S T.s34 [] Tryz.func86⟩,S T.s35 [] Tryz.func87⟩,S T.s36 [] Tryz.func88⟩,S T.s37 [] Tryz.func89⟩,S T.s212 [] Tryz.func90⟩,S T.s213 [] Tryz.func91⟩,S T.s214 [] Tryz.func92⟩,S T.s215 [[0,1,7,8]] Tryz.func93⟩,S T.s28 [] Tryz.func94⟩,S T.s230 [] Tryz.func95⟩,S T.s231 [] Tryz.func96⟩
theorem l21:AllN A 101:=N (i:=97) 4 l20
theorem l22:AllN A 109:=⟨⟨⟨⟨⟨⟨⟨⟨l21,S T.s232 [] Tryz.func101⟩,S T.s233 [] Tryz.func102⟩,S T.s202 [] Tryz.func103⟩,S T.s203 [] Tryz.func104⟩,S T.s41 [] Tryz.func105⟩,S T.s174 [] Tryz.func106⟩,S T.s38 [] Tryz.func107⟩,S T.s40 [[0,2,4,6]] Tryz.func108⟩
theorem l23:AllN A 111:=N (i:=109) 2 l22
theorem l24:AllN A 117:=⟨⟨⟨⟨⟨⟨l23,a111⟩,a112⟩,S T.s46 [] Tryz.func113⟩,S T.s47 [] Tryz.func114⟩,S T.s48 [] Tryz.func115⟩,S T.s229 [] Tryz.func116⟩
theorem l25:AllN A 183:=N (i:=117) 66 l24
theorem alls:AllN A 183:=l25
theorem kf_out(f:Nat)(h:183<=f):F.tab.T (kf f)=none:=by
   have:kf f=0:=by
    unfold kf;rw[List.getD_eq_getElem?_getD,List.getElem?_eq_none (by show keys.length<=f;exact h)];rfl
   rw[this];exact F.tab_0
theorem link:Link Tryz.prog kf kt (GG Tryz.prog) λk=>(F.tab.T k).map SFn.fl:=zj6 alls kf_out
theorem oks:∀k f,F.tab.T k=some f->f.ok=true:=F.ETree.ok_of F.tab_ok
  end Am.L
