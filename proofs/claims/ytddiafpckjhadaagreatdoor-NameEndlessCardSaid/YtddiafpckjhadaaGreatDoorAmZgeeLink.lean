/- Each function is what the compiler gives of the program. -/
import Derived.Test.YtddiafpckjhadaaGreatDoorAmZgeeTab
import Derived.Test.YtddiafpckjhadaaGreatDoorAmZgeeK
import Derived.Test.YtddiafpckjhadaaGreatDoorAmZgeeShelf
import Derived.Test.YtddiafpckjhadaaGreatDoorAmIdx
import Derived.Test.YtddiafpckjhadaaGreatDoorAmAwk
set_option maxRecDepth 100000
namespace Am.L
open Go Go.Proofs Go.RowKit
theorem zgn{p:Nat->Prop}{i:Nat}:∀m:Nat,AllN p i->(∀k,i<=k->k<i+m->p k)->AllN p (i+m)
 | 0,h,_=>h
 | m+1,h,hk=>⟨zgn m h λk h1 h2=>hk k h1 (Nat.lt_succ_of_lt h2),hk (i+m) (Nat.le_add_right _ _) (Nat.lt_succ_self _)⟩
abbrev x_A (k:Nat):Prop:=AtF Tryz.prog kf kt (GG Tryz.prog) F.tab0 k
theorem x_S{f:Nat}(s:SFn)(ls:List (List Nat)){fn:Func}(h:Tryz.prog.funcs[f]?=some fn)(h1:F.tab0.T (kf f)=some s:=by kernel_rfl)(h2:zhQ s=true:=by kernel_rfl)(h3:(fn.name=="runtime.NumGoroutine")=false:=by kernel_rfl)(h4:zeq Tryz.prog kf kt ls fn=some s.fl:=by kernel_rfl):x_A f:=.src h1 h2 h h3 h4
theorem x_N{i:Nat}(m:Nat)(p:AllN x_A i)(h:((List.range' i m).all λk=>match F.tab0.T (kf k) with|some _=>false|none=>true)=true:=by kernel_rfl):AllN x_A (i+m):=zgn m p λk h1 h2=>.none (by
 have:=List.all_eq_true.1 h k (List.mem_range'_1.2 ⟨h1,h2⟩)
 revert this
 cases F.tab0.T (kf k) with
 | some x=>intro hx;cases hx
 | none=>intro _;rfl)
theorem x_a47:x_A 47:=.whole (g:=zeK) (by kernel_rfl) (zbO.weaken (G:=GTab Tryz.prog) (zfo ⟨Tryz.f47,Tryz.func47,by kernel_rfl,by kernel_rfl⟩ λn h0 h1 w htab=>(Tryz.strconv_Itoa n h0 h1 w htab).mono (by
   rintro e w' ⟨rfl,k,os,rfl⟩
   refine⟨rfl,⟨rfl,rfl,rfl,?_,λi hi=>?_⟩⟩
   ·show w.heap.size<=(w.heap++os).size;rw[Array.size_append];omega
   ·show (w.heap++os)[i]?=w.heap[i]?;rw[Array.getElem?_append_left hi])) λB hB=>hB.1)
theorem x_a75:x_A 75:=.whole (g:=zeJ) (by kernel_rfl) (zfm ⟨Tryz.f75,Tryz.func75,by kernel_rfl,by kernel_rfl⟩ (λa c sep w=>Tryz.strings_Join_none a c sep w) λbk o c xs sep w h1 h2 h3 h4 h5=>Tryz.strings_Join bk o c xs sep w h1 h2 h3 h4 h5)
theorem x_a111:x_A 111:=.whole (g:=za5) (by kernel_rfl) (zdb ⟨Tryz.f111,Tryz.func111,by kernel_rfl,by kernel_rfl⟩ λs w hs=>by
   rcases Nat.lt_or_ge 8 s.size with h8|h8
   ·refine (Tryz.strings_IndexAny_long (zero_of_info (t:=194) (n:=256) (by kernel_rfl)).1 s ⟨#[32,40,41]⟩ w (by decide) h8 hs (by decide) ?_).mono ?_
    ·intro j b hb;rcases j with _|_|_|j
     ·cases hb;decide
     ·cases hb;decide
     ·cases hb;decide
     ·cases hb
    ·rintro e w' ⟨rfl,rfl⟩
     exact⟨rfl,zfR _ _ _⟩
   ·exact zcR Tryz.lays153 s w h8)
theorem x_a112:x_A 112:=.whole (g:=zeY) (by kernel_rfl) (zfU ⟨Tryz.f112,Tryz.func112,by kernel_rfl,by kernel_rfl⟩
   (λB hB w ht=>by
    obtain⟨_,h1,h2⟩:=hB;obtain⟨cs,h3,tp,p,rfl⟩:=h1.at_ ht;obtain⟨cs',h4,tp',p',rfl⟩:=h2.at_ ht;exact⟨⟨tp,p,h3⟩,tp',p',h4⟩)
   (λs h1 v h2 w=>(Tryz.strconv_Atoi_ok s h1 v h2 w).mono (by
    rintro e w' ⟨rfl,h|⟨t,h⟩⟩
    ·subst h;exact⟨rfl,Below.refl _ _⟩
    ·subst h;exact⟨rfl,zb5 w 5 t⟩))
   (λs h1 h2 h2' tp p w h3=>(Tryz.strconv_Atoi_syntax_var s h1 h2 h2' tp p w h3).mono (by
    rintro e w' ⟨N,rfl,_,_,hb⟩
    exact⟨⟨_,_,rfl⟩,hb⟩))
   λs h1 h2 tp p w h3=>(Tryz.strconv_Atoi_range_var s h1 h2 tp p w h3).mono (by
    rintro e w' ⟨N,rfl,_,_,hb⟩
    exact⟨⟨_,_,rfl⟩,hb⟩))
theorem x_l0:AllN x_A 4:=x_N (i:=0) 4 trivial
theorem x_l1:AllN x_A 5:=⟨x_l0,x_S T.s239 [] Tryz.func4⟩
theorem x_l2:AllN x_A 8:=x_N (i:=5) 3 x_l1
theorem x_l3:AllN x_A 9:=⟨x_l2,x_S T.s155 [] Tryz.func8⟩
theorem x_l4:AllN x_A 10:=x_N (i:=9) 1 x_l3
theorem x_l5:AllN x_A 11:=⟨x_l4,x_S T.s16 [] Tryz.func10⟩
theorem x_l6:AllN x_A 13:=x_N (i:=11) 2 x_l5
theorem x_l7:AllN x_A 15:=⟨⟨x_l6,x_S T.s153 [] Tryz.func13⟩,x_S T.s245 [] Tryz.func14⟩
theorem x_l8:AllN x_A 22:=x_N (i:=15) 7 x_l7
theorem x_l9:AllN x_A 25:=⟨⟨⟨x_l8,x_S T.s181 [[1,9,11,12,59,60,61]] Tryz.func22⟩,x_S T.s184 [[0,3,4]] Tryz.func23⟩,x_S T.s185 [] Tryz.func24⟩
theorem x_l10:AllN x_A 31:=x_N (i:=25) 6 x_l9
theorem x_l11:AllN x_A 34:=⟨⟨⟨x_l10,x_S T.s154 [] Tryz.func31⟩,x_S T.s148 [[2,6,7]] Tryz.func32⟩,x_S T.s17 [] Tryz.func33⟩
theorem x_l12:AllN x_A 38:=x_N (i:=34) 4 x_l11
theorem x_l13:AllN x_A 50:=⟨⟨⟨⟨⟨⟨⟨⟨⟨⟨⟨⟨x_l12,x_S T.s157 [[3,26,27,28]] Tryz.func38⟩,x_S T.s26 [[5,6,7]] Tryz.func39⟩,x_S T.s204 [] Tryz.func40⟩,x_S T.s205 [] Tryz.func41⟩,x_S T.s206 [[0,3,16,17]] Tryz.func42⟩,x_S T.s207 [[0,1,8,10,19,20,21]] Tryz.func43⟩,x_S T.s208 [] Tryz.func44⟩,x_S T.s209 [] Tryz.func45⟩,x_S T.s210 [[4,10,26,27,28]] Tryz.func46⟩,x_a47⟩,x_S T.s27 [] Tryz.func48⟩,x_S T.s211 [[7,8]] Tryz.func49⟩
theorem x_l14:AllN x_A 51:=⟨x_l13,x_S T.s149 [[1,3],[1,3,4]] Tryz.func50⟩
theorem x_l15:AllN x_A 55:=x_N (i:=51) 4 x_l14
theorem x_l16:AllN x_A 56:=⟨x_l15,x_S T.s30 [] Tryz.func55⟩
theorem x_l17:AllN x_A 58:=x_N (i:=56) 2 x_l16
theorem x_l18:AllN x_A 59:=⟨x_l17,x_S T.s12 [] Tryz.func58⟩
theorem x_l19:AllN x_A 61:=x_N (i:=59) 2 x_l18
theorem x_l20:AllN x_A 68:=⟨⟨⟨⟨⟨⟨⟨x_l19,x_S T.s183 [] Tryz.func61⟩,x_S T.s175 [[0,4],[0,5,6,7],[0,5,6,7,8]] Tryz.func62⟩,x_S T.s176 [] Tryz.func63⟩,x_S T.s177 [] Tryz.func64⟩,x_S T.s178 [] Tryz.func65⟩,x_S T.s24 [[8,11,13]] Tryz.func66⟩,x_S T.s11 [] Tryz.func67⟩
theorem x_l21:AllN x_A 69:=x_N (i:=68) 1 x_l20
theorem x_l22:AllN x_A 74:=⟨⟨⟨⟨⟨x_l21,x_S T.s186 [] Tryz.func69⟩,x_S T.s187 [[1,3,4,27,28],[1,4,6],[1,4,6,7,73,74,75]] Tryz.func70⟩,x_S T.s188 [] Tryz.func71⟩,x_S T.s226 [] Tryz.func72⟩,x_S T.s227 [[0,3,9,10,11],[6,25,26,27]] Tryz.func73⟩
theorem x_l23:AllN x_A 75:=x_N (i:=74) 1 x_l22
theorem x_l24:AllN x_A 78:=⟨⟨⟨x_l23,x_a75⟩,x_S T.s228 [] Tryz.func76⟩,x_S T.s179 [[1,3,4],[1,3,4,5,6]] Tryz.func77⟩
theorem x_l25:AllN x_A 79:=x_N (i:=78) 1 x_l24
theorem x_l26:AllN x_A 80:=⟨x_l25,x_S T.s25 [] Tryz.func79⟩
theorem x_l27:AllN x_A 81:=x_N (i:=80) 1 x_l26
theorem x_l28:AllN x_A 93:=⟨⟨⟨⟨⟨⟨⟨⟨⟨⟨⟨⟨x_l27,x_S T.s39 [[0,4,5]] Tryz.func81⟩,x_S T.s199 [] Tryz.func82⟩,x_S T.s200 [] Tryz.func83⟩,x_S T.s201 [] Tryz.func84⟩,x_S T.s33 [] Tryz.func85⟩,x_S T.s34 [] Tryz.func86⟩,x_S T.s35 [] Tryz.func87⟩,x_S T.s36 [] Tryz.func88⟩,x_S T.s37 [] Tryz.func89⟩,x_S T.s212 [] Tryz.func90⟩,x_S T.s213 [] Tryz.func91⟩,x_S T.s214 [] Tryz.func92⟩
theorem x_l29:AllN x_A 97:=⟨⟨⟨⟨x_l28,x_S T.s215 [[0,1,7,8]] Tryz.func93⟩,x_S T.s28 [] Tryz.func94⟩,x_S T.s230 [] Tryz.func95⟩,x_S T.s231 [] Tryz.func96⟩
theorem x_l30:AllN x_A 101:=x_N (i:=97) 4 x_l29
theorem x_l31:AllN x_A 106:=⟨⟨⟨⟨⟨x_l30,x_S T.s232 [] Tryz.func101⟩,x_S T.s233 [] Tryz.func102⟩,x_S T.s202 [] Tryz.func103⟩,x_S T.s203 [] Tryz.func104⟩,x_S T.s41 [] Tryz.func105⟩
theorem x_l32:AllN x_A 107:=x_N (i:=106) 1 x_l31
theorem x_l33:AllN x_A 117:=⟨⟨⟨⟨⟨⟨⟨⟨⟨⟨x_l32,x_S T.s38 [] Tryz.func107⟩,x_S T.s40 [[0,2,4,6]] Tryz.func108⟩,x_S T.s224 [[0,3,4]] Tryz.func109⟩,x_S T.s225 [[0,1,5]] Tryz.func110⟩,x_a111⟩,x_a112⟩,x_S T.s46 [] Tryz.func113⟩,x_S T.s47 [] Tryz.func114⟩,x_S T.s48 [] Tryz.func115⟩,x_S T.s229 [] Tryz.func116⟩
theorem x_l34:AllN x_A 183:=x_N (i:=117) 66 x_l33
theorem x_alls:AllN x_A 183:=x_l34
theorem x_kf_out(f:Nat)(h:183<=f):F.tab0.T (kf f)=none:=by
   have:kf f=0:=by
    unfold kf;rw[List.getD_eq_getElem?_getD,List.getElem?_eq_none (by show keys.length<=f;exact h)];rfl
   rw[this];exact F.tab0_0
theorem x_link:Link Tryz.prog kf kt (GG Tryz.prog) λk=>(F.tab0.T k).map SFn.fl:=ziZ x_alls x_kf_out
theorem x_oks:∀k f,F.tab0.T k=some f->f.ok=true:=F.ETree.ok_of F.tab0_ok
theorem zhY:F.zb F.tab0 F.stdI 4000 (.fn (kf 13) []) [] F.H.emp (λv _=>some v)=some (.bool true):=by kernel_rfl
abbrev A (k:Nat):Prop:=AtF Tryz.prog kf kt (GG Tryz.prog) F.tab k
theorem S{f:Nat}(s:SFn)(ls:List (List Nat)){fn:Func}(h:Tryz.prog.funcs[f]?=some fn)(h1:F.tab.T (kf f)=some s:=by kernel_rfl)(h2:zhQ s=true:=by kernel_rfl)(h3:(fn.name=="runtime.NumGoroutine")=false:=by kernel_rfl)(h4:zeq Tryz.prog kf kt ls fn=some s.fl:=by kernel_rfl):A f:=.src h1 h2 h h3 h4
theorem N{i:Nat}(m:Nat)(p:AllN A i)(h:((List.range' i m).all λk=>match F.tab.T (kf k) with|some _=>false|none=>true)=true:=by kernel_rfl):AllN A (i+m):=zgn m p λk h1 h2=>.none (by
 have:=List.all_eq_true.1 h k (List.mem_range'_1.2 ⟨h1,h2⟩)
 revert this
 cases F.tab.T (kf k) with
 | some x=>intro hx;cases hx
 | none=>intro _;rfl)
theorem a13:A 13:=.whole (g:=F.awkG) (by kernel_rfl) (awk_intr zg4 x_link x_oks F.iok0 4000 zhY)
theorem a47:A 47:=.whole (g:=zeK) (by kernel_rfl) (zbO.weaken (G:=GTab Tryz.prog) (zfo ⟨Tryz.f47,Tryz.func47,by kernel_rfl,by kernel_rfl⟩ λn h0 h1 w htab=>(Tryz.strconv_Itoa n h0 h1 w htab).mono (by
   rintro e w' ⟨rfl,k,os,rfl⟩
   refine⟨rfl,⟨rfl,rfl,rfl,?_,λi hi=>?_⟩⟩
   ·show w.heap.size<=(w.heap++os).size;rw[Array.size_append];omega
   ·show (w.heap++os)[i]?=w.heap[i]?;rw[Array.getElem?_append_left hi])) λB hB=>hB.1)
theorem a75:A 75:=.whole (g:=zeJ) (by kernel_rfl) (zfm ⟨Tryz.f75,Tryz.func75,by kernel_rfl,by kernel_rfl⟩ (λa c sep w=>Tryz.strings_Join_none a c sep w) λbk o c xs sep w h1 h2 h3 h4 h5=>Tryz.strings_Join bk o c xs sep w h1 h2 h3 h4 h5)
theorem a111:A 111:=.whole (g:=za5) (by kernel_rfl) (zdb ⟨Tryz.f111,Tryz.func111,by kernel_rfl,by kernel_rfl⟩ λs w hs=>by
   rcases Nat.lt_or_ge 8 s.size with h8|h8
   ·refine (Tryz.strings_IndexAny_long (zero_of_info (t:=194) (n:=256) (by kernel_rfl)).1 s ⟨#[32,40,41]⟩ w (by decide) h8 hs (by decide) ?_).mono ?_
    ·intro j b hb;rcases j with _|_|_|j
     ·cases hb;decide
     ·cases hb;decide
     ·cases hb;decide
     ·cases hb
    ·rintro e w' ⟨rfl,rfl⟩
     exact⟨rfl,zfR _ _ _⟩
   ·exact zcR Tryz.lays153 s w h8)
theorem a112:A 112:=.whole (g:=zeY) (by kernel_rfl) (zfU ⟨Tryz.f112,Tryz.func112,by kernel_rfl,by kernel_rfl⟩
   (λB hB w ht=>by
    obtain⟨_,h1,h2⟩:=hB;obtain⟨cs,h3,tp,p,rfl⟩:=h1.at_ ht;obtain⟨cs',h4,tp',p',rfl⟩:=h2.at_ ht;exact⟨⟨tp,p,h3⟩,tp',p',h4⟩)
   (λs h1 v h2 w=>(Tryz.strconv_Atoi_ok s h1 v h2 w).mono (by
    rintro e w' ⟨rfl,h|⟨t,h⟩⟩
    ·subst h;exact⟨rfl,Below.refl _ _⟩
    ·subst h;exact⟨rfl,zb5 w 5 t⟩))
   (λs h1 h2 h2' tp p w h3=>(Tryz.strconv_Atoi_syntax_var s h1 h2 h2' tp p w h3).mono (by
    rintro e w' ⟨N,rfl,_,_,hb⟩
    exact⟨⟨_,_,rfl⟩,hb⟩))
   λs h1 h2 tp p w h3=>(Tryz.strconv_Atoi_range_var s h1 h2 tp p w h3).mono (by
    rintro e w' ⟨N,rfl,_,_,hb⟩
    exact⟨⟨_,_,rfl⟩,hb⟩))
theorem l0:AllN A 4:=N (i:=0) 4 trivial
theorem l1:AllN A 5:=⟨l0,S T.s239 [] Tryz.func4⟩
theorem l2:AllN A 8:=N (i:=5) 3 l1
theorem l3:AllN A 9:=⟨l2,S T.s155 [] Tryz.func8⟩
theorem l4:AllN A 10:=N (i:=9) 1 l3
theorem l5:AllN A 11:=⟨l4,S T.s16 [] Tryz.func10⟩
theorem l6:AllN A 13:=N (i:=11) 2 l5
theorem l7:AllN A 15:=⟨⟨l6,a13⟩,S T.s245 [] Tryz.func14⟩
theorem l8:AllN A 22:=N (i:=15) 7 l7
theorem l9:AllN A 25:=⟨⟨⟨l8,S T.s181 [[1,9,11,12,59,60,61]] Tryz.func22⟩,S T.s184 [[0,3,4]] Tryz.func23⟩,S T.s185 [] Tryz.func24⟩
theorem l10:AllN A 32:=N (i:=25) 7 l9
theorem l11:AllN A 34:=⟨⟨l10,S T.s148 [[2,6,7]] Tryz.func32⟩,S T.s17 [] Tryz.func33⟩
theorem l12:AllN A 38:=N (i:=34) 4 l11
theorem l13:AllN A 50:=⟨⟨⟨⟨⟨⟨⟨⟨⟨⟨⟨⟨l12,S T.s157 [[3,26,27,28]] Tryz.func38⟩,S T.s26 [[5,6,7]] Tryz.func39⟩,S T.s204 [] Tryz.func40⟩,S T.s205 [] Tryz.func41⟩,S T.s206 [[0,3,16,17]] Tryz.func42⟩,S T.s207 [[0,1,8,10,19,20,21]] Tryz.func43⟩,S T.s208 [] Tryz.func44⟩,S T.s209 [] Tryz.func45⟩,S T.s210 [[4,10,26,27,28]] Tryz.func46⟩,a47⟩,S T.s27 [] Tryz.func48⟩,S T.s211 [[7,8]] Tryz.func49⟩
theorem l14:AllN A 51:=⟨l13,S T.s149 [[1,3],[1,3,4]] Tryz.func50⟩
theorem l15:AllN A 55:=N (i:=51) 4 l14
theorem l16:AllN A 56:=⟨l15,S T.s30 [] Tryz.func55⟩
theorem l17:AllN A 58:=N (i:=56) 2 l16
theorem l18:AllN A 59:=⟨l17,S T.s12 [] Tryz.func58⟩
theorem l19:AllN A 62:=N (i:=59) 3 l18
theorem l20:AllN A 68:=⟨⟨⟨⟨⟨⟨l19,S T.s175 [[0,4],[0,5,6,7],[0,5,6,7,8]] Tryz.func62⟩,S T.s176 [] Tryz.func63⟩,S T.s177 [] Tryz.func64⟩,S T.s178 [] Tryz.func65⟩,S T.s24 [[8,11,13]] Tryz.func66⟩,S T.s11 [] Tryz.func67⟩
theorem l21:AllN A 69:=N (i:=68) 1 l20
theorem l22:AllN A 74:=⟨⟨⟨⟨⟨l21,S T.s186 [] Tryz.func69⟩,S T.s187 [[1,3,4,27,28],[1,4,6],[1,4,6,7,73,74,75]] Tryz.func70⟩,S T.s188 [] Tryz.func71⟩,S T.s226 [] Tryz.func72⟩,S T.s227 [[0,3,9,10,11],[6,25,26,27]] Tryz.func73⟩
theorem l23:AllN A 75:=N (i:=74) 1 l22
theorem l24:AllN A 78:=⟨⟨⟨l23,a75⟩,S T.s228 [] Tryz.func76⟩,S T.s179 [[1,3,4],[1,3,4,5,6]] Tryz.func77⟩
theorem l25:AllN A 79:=N (i:=78) 1 l24
theorem l26:AllN A 80:=⟨l25,S T.s25 [] Tryz.func79⟩
theorem l27:AllN A 81:=N (i:=80) 1 l26
theorem l28:AllN A 93:=⟨⟨⟨⟨⟨⟨⟨⟨⟨⟨⟨⟨l27,S T.s39 [[0,4,5]] Tryz.func81⟩,S T.s199 [] Tryz.func82⟩,S T.s200 [] Tryz.func83⟩,S T.s201 [] Tryz.func84⟩,S T.s33 [] Tryz.func85⟩,S T.s34 [] Tryz.func86⟩,S T.s35 [] Tryz.func87⟩,S T.s36 [] Tryz.func88⟩,S T.s37 [] Tryz.func89⟩,S T.s212 [] Tryz.func90⟩,S T.s213 [] Tryz.func91⟩,S T.s214 [] Tryz.func92⟩
theorem l29:AllN A 97:=⟨⟨⟨⟨l28,S T.s215 [[0,1,7,8]] Tryz.func93⟩,S T.s28 [] Tryz.func94⟩,S T.s230 [] Tryz.func95⟩,S T.s231 [] Tryz.func96⟩
theorem l30:AllN A 101:=N (i:=97) 4 l29
theorem l31:AllN A 106:=⟨⟨⟨⟨⟨l30,S T.s232 [] Tryz.func101⟩,S T.s233 [] Tryz.func102⟩,S T.s202 [] Tryz.func103⟩,S T.s203 [] Tryz.func104⟩,S T.s41 [] Tryz.func105⟩
theorem l32:AllN A 107:=N (i:=106) 1 l31
theorem l33:AllN A 117:=⟨⟨⟨⟨⟨⟨⟨⟨⟨⟨l32,S T.s38 [] Tryz.func107⟩,S T.s40 [[0,2,4,6]] Tryz.func108⟩,S T.s224 [[0,3,4]] Tryz.func109⟩,S T.s225 [[0,1,5]] Tryz.func110⟩,a111⟩,a112⟩,S T.s46 [] Tryz.func113⟩,S T.s47 [] Tryz.func114⟩,S T.s48 [] Tryz.func115⟩,S T.s229 [] Tryz.func116⟩
theorem l34:AllN A 183:=N (i:=117) 66 l33
theorem alls:AllN A 183:=l34
theorem kf_out(f:Nat)(h:183<=f):F.tab.T (kf f)=none:=by
   have:kf f=0:=by
    unfold kf;rw[List.getD_eq_getElem?_getD,List.getElem?_eq_none (by show keys.length<=f;exact h)];rfl
   rw[this];exact F.tab_0
theorem link:Link Tryz.prog kf kt (GG Tryz.prog) λk=>(F.tab.T k).map SFn.fl:=ziZ alls kf_out
theorem oks:∀k f,F.tab.T k=some f->f.ok=true:=F.ETree.ok_of F.tab_ok
  end Am.L
