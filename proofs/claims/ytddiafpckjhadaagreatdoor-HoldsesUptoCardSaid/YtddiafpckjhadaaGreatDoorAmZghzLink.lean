/- Each function is what the compiler gives of the program. -/
import Derived.Test.YtddiafpckjhadaaGreatDoorAmZghzTab
import Derived.Test.YtddiafpckjhadaaGreatDoorAmZghzK
import Derived.Test.YtddiafpckjhadaaGreatDoorAmZghzShelf
import Derived.Test.YtddiafpckjhadaaGreatDoorAmIdx
import Derived.Test.YtddiafpckjhadaaGreatDoorAmAwk
set_option maxRecDepth 100000
namespace Am.L
open Go Go.Proofs Go.RowKit
theorem zgZ{p:Nat->Prop}{i:Nat}:∀m:Nat,AllN p i->(∀k,i<=k->k<i+m->p k)->AllN p (i+m)
 | 0,h,_=>h
 | m+1,h,hk=>⟨zgZ m h λk h1 h2=>hk k h1 (Nat.lt_succ_of_lt h2),hk (i+m) (Nat.le_add_right _ _) (Nat.lt_succ_self _)⟩
abbrev x_A (k:Nat):Prop:=AtF Tryz.prog kf kt (GG Tryz.prog) F.tab0 k
theorem x_S{f:Nat}(s:SFn)(ls:List (List Nat)){fn:Func}(h:Tryz.prog.funcs[f]?=some fn)(h1:F.tab0.T (kf f)=some s:=by kernel_rfl)(h2:ziy s=true:=by kernel_rfl)(h3:(fn.name=="runtime.NumGoroutine")=false:=by kernel_rfl)(h4:ze4 Tryz.prog kf kt ls fn=some s.fl:=by kernel_rfl):x_A f:=.src h1 h2 h h3 h4
theorem x_N{i:Nat}(m:Nat)(p:AllN x_A i)(h:((List.range' i m).all λk=>match F.tab0.T (kf k) with|some _=>false|none=>true)=true:=by kernel_rfl):AllN x_A (i+m):=zgZ m p λk h1 h2=>.none (by
 have:=List.all_eq_true.1 h k (List.mem_range'_1.2 ⟨h1,h2⟩)
 revert this
 cases F.tab0.T (kf k) with
 | some x=>intro hx;cases hx
 | none=>intro _;rfl)
theorem x_a47:x_A 47:=.whole (g:=zfq) (by kernel_rfl) (zcb.weaken (G:=GTab Tryz.prog) (zf9 ⟨Tryz.f47,Tryz.func47,by kernel_rfl,by kernel_rfl⟩ λn h0 h1 w htab=>(Tryz.strconv_Itoa n h0 h1 w htab).mono (by
   rintro e w' ⟨rfl,k,os,rfl⟩
   refine⟨rfl,⟨rfl,rfl,rfl,?_,λi hi=>?_⟩⟩
   ·show w.heap.size<=(w.heap++os).size;rw[Array.size_append];omega
   ·show (w.heap++os)[i]?=w.heap[i]?;rw[Array.getElem?_append_left hi])) λB hB=>hB.1)
theorem x_a111:x_A 111:=.whole (g:=zbe) (by kernel_rfl) (zdx ⟨Tryz.f111,Tryz.func111,by kernel_rfl,by kernel_rfl⟩ λs w hs=>by
   rcases Nat.lt_or_ge 8 s.size with h8|h8
   ·refine (Tryz.strings_IndexAny_long (zero_of_info (t:=194) (n:=256) (by kernel_rfl)).1 s ⟨#[32,40,41]⟩ w (by decide) h8 hs (by decide) ?_).mono ?_
    ·intro j b hb;rcases j with _|_|_|j
     ·cases hb;decide
     ·cases hb;decide
     ·cases hb;decide
     ·cases hb
    ·rintro e w' ⟨rfl,rfl⟩
     exact⟨rfl,zgv _ _ _⟩
   ·exact zde Tryz.lays153 s w h8)
theorem x_a112:x_A 112:=.whole (g:=zfD) (by kernel_rfl) (zgx ⟨Tryz.f112,Tryz.func112,by kernel_rfl,by kernel_rfl⟩
   (λB hB w ht=>by
    obtain⟨_,h1,h2⟩:=hB;obtain⟨cs,h3,tp,p,rfl⟩:=h1.at_ ht;obtain⟨cs',h4,tp',p',rfl⟩:=h2.at_ ht;exact⟨⟨tp,p,h3⟩,tp',p',h4⟩)
   (λs h1 v h2 w=>(Tryz.strconv_Atoi_ok s h1 v h2 w).mono (by
    rintro e w' ⟨rfl,h|⟨t,h⟩⟩
    ·subst h;exact⟨rfl,Below.refl _ _⟩
    ·subst h;exact⟨rfl,zca w 5 t⟩))
   (λs h1 h2 h2' tp p w h3=>(Tryz.strconv_Atoi_syntax_var s h1 h2 h2' tp p w h3).mono (by
    rintro e w' ⟨N,rfl,_,_,hb⟩
    exact⟨⟨_,_,rfl⟩,hb⟩))
   λs h1 h2 tp p w h3=>(Tryz.strconv_Atoi_range_var s h1 h2 tp p w h3).mono (by
    rintro e w' ⟨N,rfl,_,_,hb⟩
    exact⟨⟨_,_,rfl⟩,hb⟩))
theorem x_l0:AllN x_A 5:=x_N (i:=0) 5 trivial
theorem x_l1:AllN x_A 7:=⟨⟨x_l0,x_S T.s234 [] Tryz.func5⟩,x_S T.s135 [[1,2,3,4]] Tryz.func6⟩
theorem x_l2:AllN x_A 10:=x_N (i:=7) 3 x_l1
theorem x_l3:AllN x_A 12:=⟨⟨x_l2,x_S T.s16 [] Tryz.func10⟩,x_S T.s140 [[2,3,5]] Tryz.func11⟩
theorem x_l4:AllN x_A 15:=x_N (i:=12) 3 x_l3
theorem x_l5:AllN x_A 21:=⟨⟨⟨⟨⟨⟨x_l4,x_S T.s244 [[0,3,4]] Tryz.func15⟩,x_S T.s152 [] Tryz.func16⟩,x_S T.s142 [] Tryz.func17⟩,x_S T.s166 [] Tryz.func18⟩,x_S T.s150 [] Tryz.func19⟩,x_S T.s156 [[1,2,3,4]] Tryz.func20⟩
theorem x_l6:AllN x_A 22:=x_N (i:=21) 1 x_l5
theorem x_l7:AllN x_A 24:=⟨⟨x_l6,x_S T.s181 [[1,9,11,12,59,60,61]] Tryz.func22⟩,x_S T.s184 [[0,3,4]] Tryz.func23⟩
theorem x_l8:AllN x_A 25:=x_N (i:=24) 1 x_l7
theorem x_l9:AllN x_A 28:=⟨⟨⟨x_l8,x_S T.s168 [[2,9]] Tryz.func25⟩,x_S T.s172 [] Tryz.func26⟩,x_S T.s170 [[2,6,7,8]] Tryz.func27⟩
theorem x_l10:AllN x_A 29:=x_N (i:=28) 1 x_l9
theorem x_l11:AllN x_A 31:=⟨⟨x_l10,x_S T.s167 [] Tryz.func29⟩,x_S T.s15 [[0,1,5]] Tryz.func30⟩
theorem x_l12:AllN x_A 33:=x_N (i:=31) 2 x_l11
theorem x_l13:AllN x_A 45:=⟨⟨⟨⟨⟨⟨⟨⟨⟨⟨⟨⟨x_l12,x_S T.s17 [] Tryz.func33⟩,x_S T.s182 [[0,12,59,60,61]] Tryz.func34⟩,x_S T.s18 [] Tryz.func35⟩,x_S T.s169 [[0,9,11,12]] Tryz.func36⟩,x_S T.s151 [] Tryz.func37⟩,x_S T.s157 [[3,26,27,28]] Tryz.func38⟩,x_S T.s26 [[5,6,7]] Tryz.func39⟩,x_S T.s204 [] Tryz.func40⟩,x_S T.s205 [] Tryz.func41⟩,x_S T.s206 [[0,3,16,17]] Tryz.func42⟩,x_S T.s207 [[0,1,8,10,19,20,21]] Tryz.func43⟩,x_S T.s208 [] Tryz.func44⟩
theorem x_l14:AllN x_A 48:=⟨⟨⟨x_l13,x_S T.s209 [] Tryz.func45⟩,x_S T.s210 [[4,10,26,27,28]] Tryz.func46⟩,x_a47⟩
theorem x_l15:AllN x_A 50:=x_N (i:=48) 2 x_l14
theorem x_l16:AllN x_A 56:=⟨⟨⟨⟨⟨⟨x_l15,x_S T.s149 [[1,3],[1,3,4]] Tryz.func50⟩,x_S T.s195 [[4,7,9,10]] Tryz.func51⟩,x_S T.s196 [] Tryz.func52⟩,x_S T.s197 [[1,2,5,6]] Tryz.func53⟩,x_S T.s198 [] Tryz.func54⟩,x_S T.s30 [] Tryz.func55⟩
theorem x_l17:AllN x_A 58:=x_N (i:=56) 2 x_l16
theorem x_l18:AllN x_A 59:=⟨x_l17,x_S T.s12 [] Tryz.func58⟩
theorem x_l19:AllN x_A 60:=x_N (i:=59) 1 x_l18
theorem x_l20:AllN x_A 61:=⟨x_l19,x_S T.s194 [[0,1,5]] Tryz.func60⟩
theorem x_l21:AllN x_A 66:=x_N (i:=61) 5 x_l20
theorem x_l22:AllN x_A 74:=⟨⟨⟨⟨⟨⟨⟨⟨x_l21,x_S T.s24 [[8,11,13]] Tryz.func66⟩,x_S T.s11 [] Tryz.func67⟩,x_S T.s180 [] Tryz.func68⟩,x_S T.s186 [] Tryz.func69⟩,x_S T.s187 [[1,3,4,27,28],[1,4,6],[1,4,6,7,73,74,75]] Tryz.func70⟩,x_S T.s188 [] Tryz.func71⟩,x_S T.s226 [] Tryz.func72⟩,x_S T.s227 [[0,3,9,10,11],[6,25,26,27]] Tryz.func73⟩
theorem x_l23:AllN x_A 77:=x_N (i:=74) 3 x_l22
theorem x_l24:AllN x_A 82:=⟨⟨⟨⟨⟨x_l23,x_S T.s179 [[1,3,4],[1,3,4,5,6]] Tryz.func77⟩,x_S T.s147 [] Tryz.func78⟩,x_S T.s25 [] Tryz.func79⟩,x_S T.s223 [[0,1,5]] Tryz.func80⟩,x_S T.s39 [[0,4,5]] Tryz.func81⟩
theorem x_l25:AllN x_A 85:=x_N (i:=82) 3 x_l24
theorem x_l26:AllN x_A 97:=⟨⟨⟨⟨⟨⟨⟨⟨⟨⟨⟨⟨x_l25,x_S T.s33 [] Tryz.func85⟩,x_S T.s34 [] Tryz.func86⟩,x_S T.s35 [] Tryz.func87⟩,x_S T.s36 [] Tryz.func88⟩,x_S T.s37 [] Tryz.func89⟩,x_S T.s212 [] Tryz.func90⟩,x_S T.s213 [] Tryz.func91⟩,x_S T.s214 [] Tryz.func92⟩,x_S T.s215 [[0,1,7,8]] Tryz.func93⟩,x_S T.s28 [] Tryz.func94⟩,x_S T.s230 [] Tryz.func95⟩,x_S T.s231 [] Tryz.func96⟩
theorem x_l27:AllN x_A 103:=x_N (i:=97) 6 x_l26
theorem x_l28:AllN x_A 109:=⟨⟨⟨⟨⟨⟨x_l27,x_S T.s202 [] Tryz.func103⟩,x_S T.s203 [] Tryz.func104⟩,x_S T.s41 [] Tryz.func105⟩,x_S T.s174 [] Tryz.func106⟩,x_S T.s38 [] Tryz.func107⟩,x_S T.s40 [[0,2,4,6]] Tryz.func108⟩
theorem x_l29:AllN x_A 111:=x_N (i:=109) 2 x_l28
theorem x_l30:AllN x_A 117:=⟨⟨⟨⟨⟨⟨x_l29,x_a111⟩,x_a112⟩,x_S T.s46 [] Tryz.func113⟩,x_S T.s47 [] Tryz.func114⟩,x_S T.s48 [] Tryz.func115⟩,x_S T.s229 [] Tryz.func116⟩
theorem x_l31:AllN x_A 183:=x_N (i:=117) 66 x_l30
theorem x_alls:AllN x_A 183:=x_l31
theorem x_kf_out(f:Nat)(h:183<=f):F.tab0.T (kf f)=none:=by
   have:kf f=0:=by
    unfold kf;rw[List.getD_eq_getElem?_getD,List.getElem?_eq_none (by show keys.length<=f;exact h)];rfl
   rw[this];exact F.tab0_0
theorem x_link:Link Tryz.prog kf kt (GG Tryz.prog) λk=>(F.tab0.T k).map SFn.fl:=zjF x_alls x_kf_out
theorem x_oks:∀k f,F.tab0.T k=some f->f.ok=true:=F.ETree.ok_of F.tab0_ok
theorem ziG:F.zc F.tab0 F.stdI 4000 (.fn (kf 19) []) [] F.H.emp (λv _=>some v)=some (.bool true):=by kernel_rfl
abbrev A (k:Nat):Prop:=AtF Tryz.prog kf kt (GG Tryz.prog) F.tab k
theorem S{f:Nat}(s:SFn)(ls:List (List Nat)){fn:Func}(h:Tryz.prog.funcs[f]?=some fn)(h1:F.tab.T (kf f)=some s:=by kernel_rfl)(h2:ziy s=true:=by kernel_rfl)(h3:(fn.name=="runtime.NumGoroutine")=false:=by kernel_rfl)(h4:ze4 Tryz.prog kf kt ls fn=some s.fl:=by kernel_rfl):A f:=.src h1 h2 h h3 h4
theorem N{i:Nat}(m:Nat)(p:AllN A i)(h:((List.range' i m).all λk=>match F.tab.T (kf k) with|some _=>false|none=>true)=true:=by kernel_rfl):AllN A (i+m):=zgZ m p λk h1 h2=>.none (by
 have:=List.all_eq_true.1 h k (List.mem_range'_1.2 ⟨h1,h2⟩)
 revert this
 cases F.tab.T (kf k) with
 | some x=>intro hx;cases hx
 | none=>intro _;rfl)
theorem a19:A 19:=.whole (g:=F.awkG) (by kernel_rfl) (awk_intr zhM x_link x_oks F.iok0 4000 ziG)
theorem a47:A 47:=.whole (g:=zfq) (by kernel_rfl) (zcb.weaken (G:=GTab Tryz.prog) (zf9 ⟨Tryz.f47,Tryz.func47,by kernel_rfl,by kernel_rfl⟩ λn h0 h1 w htab=>(Tryz.strconv_Itoa n h0 h1 w htab).mono (by
   rintro e w' ⟨rfl,k,os,rfl⟩
   refine⟨rfl,⟨rfl,rfl,rfl,?_,λi hi=>?_⟩⟩
   ·show w.heap.size<=(w.heap++os).size;rw[Array.size_append];omega
   ·show (w.heap++os)[i]?=w.heap[i]?;rw[Array.getElem?_append_left hi])) λB hB=>hB.1)
theorem a111:A 111:=.whole (g:=zbe) (by kernel_rfl) (zdx ⟨Tryz.f111,Tryz.func111,by kernel_rfl,by kernel_rfl⟩ λs w hs=>by
   rcases Nat.lt_or_ge 8 s.size with h8|h8
   ·refine (Tryz.strings_IndexAny_long (zero_of_info (t:=194) (n:=256) (by kernel_rfl)).1 s ⟨#[32,40,41]⟩ w (by decide) h8 hs (by decide) ?_).mono ?_
    ·intro j b hb;rcases j with _|_|_|j
     ·cases hb;decide
     ·cases hb;decide
     ·cases hb;decide
     ·cases hb
    ·rintro e w' ⟨rfl,rfl⟩
     exact⟨rfl,zgv _ _ _⟩
   ·exact zde Tryz.lays153 s w h8)
theorem a112:A 112:=.whole (g:=zfD) (by kernel_rfl) (zgx ⟨Tryz.f112,Tryz.func112,by kernel_rfl,by kernel_rfl⟩
   (λB hB w ht=>by
    obtain⟨_,h1,h2⟩:=hB;obtain⟨cs,h3,tp,p,rfl⟩:=h1.at_ ht;obtain⟨cs',h4,tp',p',rfl⟩:=h2.at_ ht;exact⟨⟨tp,p,h3⟩,tp',p',h4⟩)
   (λs h1 v h2 w=>(Tryz.strconv_Atoi_ok s h1 v h2 w).mono (by
    rintro e w' ⟨rfl,h|⟨t,h⟩⟩
    ·subst h;exact⟨rfl,Below.refl _ _⟩
    ·subst h;exact⟨rfl,zca w 5 t⟩))
   (λs h1 h2 h2' tp p w h3=>(Tryz.strconv_Atoi_syntax_var s h1 h2 h2' tp p w h3).mono (by
    rintro e w' ⟨N,rfl,_,_,hb⟩
    exact⟨⟨_,_,rfl⟩,hb⟩))
   λs h1 h2 tp p w h3=>(Tryz.strconv_Atoi_range_var s h1 h2 tp p w h3).mono (by
    rintro e w' ⟨N,rfl,_,_,hb⟩
    exact⟨⟨_,_,rfl⟩,hb⟩))
theorem l0:AllN A 5:=N (i:=0) 5 trivial
theorem l1:AllN A 7:=⟨⟨l0,S T.s234 [] Tryz.func5⟩,S T.s135 [[1,2,3,4]] Tryz.func6⟩
theorem l2:AllN A 10:=N (i:=7) 3 l1
theorem l3:AllN A 12:=⟨⟨l2,S T.s16 [] Tryz.func10⟩,S T.s140 [[2,3,5]] Tryz.func11⟩
theorem l4:AllN A 15:=N (i:=12) 3 l3
theorem l5:AllN A 21:=⟨⟨⟨⟨⟨⟨l4,S T.s244 [[0,3,4]] Tryz.func15⟩,S T.s152 [] Tryz.func16⟩,S T.s142 [] Tryz.func17⟩,S T.s166 [] Tryz.func18⟩,a19⟩,S T.s156 [[1,2,3,4]] Tryz.func20⟩
theorem l6:AllN A 22:=N (i:=21) 1 l5
theorem l7:AllN A 24:=⟨⟨l6,S T.s181 [[1,9,11,12,59,60,61]] Tryz.func22⟩,S T.s184 [[0,3,4]] Tryz.func23⟩
theorem l8:AllN A 25:=N (i:=24) 1 l7
theorem l9:AllN A 28:=⟨⟨⟨l8,S T.s168 [[2,9]] Tryz.func25⟩,S T.s172 [] Tryz.func26⟩,S T.s170 [[2,6,7,8]] Tryz.func27⟩
theorem l10:AllN A 29:=N (i:=28) 1 l9
theorem l11:AllN A 31:=⟨⟨l10,S T.s167 [] Tryz.func29⟩,S T.s15 [[0,1,5]] Tryz.func30⟩
theorem l12:AllN A 33:=N (i:=31) 2 l11
theorem l13:AllN A 45:=⟨⟨⟨⟨⟨⟨⟨⟨⟨⟨⟨⟨l12,S T.s17 [] Tryz.func33⟩,S T.s182 [[0,12,59,60,61]] Tryz.func34⟩,S T.s18 [] Tryz.func35⟩,S T.s169 [[0,9,11,12]] Tryz.func36⟩,S T.s151 [] Tryz.func37⟩,S T.s157 [[3,26,27,28]] Tryz.func38⟩,S T.s26 [[5,6,7]] Tryz.func39⟩,S T.s204 [] Tryz.func40⟩,S T.s205 [] Tryz.func41⟩,S T.s206 [[0,3,16,17]] Tryz.func42⟩,S T.s207 [[0,1,8,10,19,20,21]] Tryz.func43⟩,S T.s208 [] Tryz.func44⟩
theorem l14:AllN A 48:=⟨⟨⟨l13,S T.s209 [] Tryz.func45⟩,S T.s210 [[4,10,26,27,28]] Tryz.func46⟩,a47⟩
theorem l15:AllN A 50:=N (i:=48) 2 l14
theorem l16:AllN A 56:=⟨⟨⟨⟨⟨⟨l15,S T.s149 [[1,3],[1,3,4]] Tryz.func50⟩,S T.s195 [[4,7,9,10]] Tryz.func51⟩,S T.s196 [] Tryz.func52⟩,S T.s197 [[1,2,5,6]] Tryz.func53⟩,S T.s198 [] Tryz.func54⟩,S T.s30 [] Tryz.func55⟩
theorem l17:AllN A 58:=N (i:=56) 2 l16
theorem l18:AllN A 59:=⟨l17,S T.s12 [] Tryz.func58⟩
theorem l19:AllN A 60:=N (i:=59) 1 l18
theorem l20:AllN A 61:=⟨l19,S T.s194 [[0,1,5]] Tryz.func60⟩
theorem l21:AllN A 66:=N (i:=61) 5 l20
theorem l22:AllN A 74:=⟨⟨⟨⟨⟨⟨⟨⟨l21,S T.s24 [[8,11,13]] Tryz.func66⟩,S T.s11 [] Tryz.func67⟩,S T.s180 [] Tryz.func68⟩,S T.s186 [] Tryz.func69⟩,S T.s187 [[1,3,4,27,28],[1,4,6],[1,4,6,7,73,74,75]] Tryz.func70⟩,S T.s188 [] Tryz.func71⟩,S T.s226 [] Tryz.func72⟩,S T.s227 [[0,3,9,10,11],[6,25,26,27]] Tryz.func73⟩
theorem l23:AllN A 77:=N (i:=74) 3 l22
theorem l24:AllN A 82:=⟨⟨⟨⟨⟨l23,S T.s179 [[1,3,4],[1,3,4,5,6]] Tryz.func77⟩,S T.s147 [] Tryz.func78⟩,S T.s25 [] Tryz.func79⟩,S T.s223 [[0,1,5]] Tryz.func80⟩,S T.s39 [[0,4,5]] Tryz.func81⟩
theorem l25:AllN A 85:=N (i:=82) 3 l24
theorem l26:AllN A 97:=⟨⟨⟨⟨⟨⟨⟨⟨⟨⟨⟨⟨l25,S T.s33 [] Tryz.func85⟩,S T.s34 [] Tryz.func86⟩,S T.s35 [] Tryz.func87⟩,S T.s36 [] Tryz.func88⟩,S T.s37 [] Tryz.func89⟩,S T.s212 [] Tryz.func90⟩,S T.s213 [] Tryz.func91⟩,S T.s214 [] Tryz.func92⟩,S T.s215 [[0,1,7,8]] Tryz.func93⟩,S T.s28 [] Tryz.func94⟩,S T.s230 [] Tryz.func95⟩,S T.s231 [] Tryz.func96⟩
theorem l27:AllN A 103:=N (i:=97) 6 l26
theorem l28:AllN A 109:=⟨⟨⟨⟨⟨⟨l27,S T.s202 [] Tryz.func103⟩,S T.s203 [] Tryz.func104⟩,S T.s41 [] Tryz.func105⟩,S T.s174 [] Tryz.func106⟩,S T.s38 [] Tryz.func107⟩,S T.s40 [[0,2,4,6]] Tryz.func108⟩
theorem l29:AllN A 111:=N (i:=109) 2 l28
theorem l30:AllN A 117:=⟨⟨⟨⟨⟨⟨l29,a111⟩,a112⟩,S T.s46 [] Tryz.func113⟩,S T.s47 [] Tryz.func114⟩,S T.s48 [] Tryz.func115⟩,S T.s229 [] Tryz.func116⟩
theorem l31:AllN A 183:=N (i:=117) 66 l30
theorem alls:AllN A 183:=l31
theorem kf_out(f:Nat)(h:183<=f):F.tab.T (kf f)=none:=by
   have:kf f=0:=by
    unfold kf;rw[List.getD_eq_getElem?_getD,List.getElem?_eq_none (by show keys.length<=f;exact h)];rfl
   rw[this];exact F.tab_0
theorem link:Link Tryz.prog kf kt (GG Tryz.prog) λk=>(F.tab.T k).map SFn.fl:=zjF alls kf_out
theorem oks:∀k f,F.tab.T k=some f->f.ok=true:=F.ETree.ok_of F.tab_ok
  end Am.L
