/- Each function is what the compiler gives of the program. -/
import Derived.Test.YtlidemdbimpkaaaDoorAmZibaTab
import Derived.Test.YtlidemdbimpkaaaDoorAmZibaK
import Derived.Test.YtlidemdbimpkaaaDoorAmZibaShelf
import Derived.Test.YtlidemdbimpkaaaDoorAmIdx
import Derived.Test.YtlidemdbimpkaaaDoorAmAwk
set_option maxRecDepth 100000
namespace Am.L
open Go Go.Proofs Go.RowKit
theorem zhg{p:Nat->Prop}{i:Nat}:∀m:Nat,AllN p i->(∀k,i<=k->k<i+m->p k)->AllN p (i+m)
 | 0,h,_=>h
 | m+1,h,hk=>⟨zhg m h λk h1 h2=>hk k h1 (Nat.lt_succ_of_lt h2),hk (i+m) (Nat.le_add_right _ _) (Nat.lt_succ_self _)⟩
abbrev x_A (k:Nat):Prop:=AtF Tryd.prog kf kt (GG Tryd.prog) F.tab0 k
theorem x_S{f:Nat}(s:SFn)(ls:List (List Nat)){fn:Func}(h:Tryd.prog.funcs[f]?=some fn)(h1:F.tab0.T (kf f)=some s:=by kernel_rfl)(h2:zja s=true:=by kernel_rfl)(h3:(fn.name=="runtime.NumGoroutine")=false:=by kernel_rfl)(h4:zeT Tryd.prog kf kt ls fn=some s.fl:=by kernel_rfl):x_A f:=.src h1 h2 h h3 h4
theorem x_N{i:Nat}(m:Nat)(p:AllN x_A i)(h:((List.range' i m).all λk=>match F.tab0.T (kf k) with|some _=>false|none=>true)=true:=by kernel_rfl):AllN x_A (i+m):=zhg m p λk h1 h2=>.none (by
 have:=List.all_eq_true.1 h k (List.mem_range'_1.2 ⟨h1,h2⟩)
 revert this
 cases F.tab0.T (kf k) with
 | some x=>intro hx;cases hx
 | none=>intro _;rfl)
theorem x_a60:x_A 60:=.whole (g:=zfn) (by kernel_rfl) (zcu.weaken (G:=GTab Tryd.prog) (zgg ⟨Tryd.f60,Tryd.func60,by kernel_rfl,by kernel_rfl⟩ λn h0 h1 w htab=>(Tryd.strconv_Itoa n h0 h1 w htab).mono (by
   rintro e w' ⟨rfl,k,os,rfl⟩
   refine⟨rfl,⟨rfl,rfl,rfl,?_,λi hi=>?_⟩⟩
   ·show w.heap.size<=(w.heap++os).size;rw[Array.size_append];omega
   ·show (w.heap++os)[i]?=w.heap[i]?;rw[Array.getElem?_append_left hi])) λB hB=>hB)
theorem x_a88:x_A 88:=.whole (g:=zfl) (by kernel_rfl) (zge ⟨Tryd.f88,Tryd.func88,by kernel_rfl,by kernel_rfl⟩ (λa c sep w=>Tryd.strings_Join_none a c sep w) λbk o c xs sep w h1 h2 h3 h4 h5=>Tryd.strings_Join bk o c xs sep w h1 h2 h3 h4 h5)
theorem x_l0:AllN x_A 10:=x_N (i:=0) 10 trivial
theorem x_l1:AllN x_A 11:=⟨x_l0,x_S T.s129 [] Tryd.func10⟩
theorem x_l2:AllN x_A 12:=x_N (i:=11) 1 x_l1
theorem x_l3:AllN x_A 13:=⟨x_l2,x_S T.s136 [[7,51,52,53]] Tryd.func12⟩
theorem x_l4:AllN x_A 14:=x_N (i:=13) 1 x_l3
theorem x_l5:AllN x_A 16:=⟨⟨x_l4,x_S T.s138 [[0,1,5]] Tryd.func14⟩,x_S T.s16 [] Tryd.func15⟩
theorem x_l6:AllN x_A 18:=x_N (i:=16) 2 x_l5
theorem x_l7:AllN x_A 19:=⟨x_l6,x_S T.s141 [] Tryd.func18⟩
theorem x_l8:AllN x_A 26:=x_N (i:=19) 7 x_l7
theorem x_l9:AllN x_A 28:=⟨⟨x_l8,x_S T.s149 [[1,3],[1,3,4]] Tryd.func26⟩,x_S T.s143 [] Tryd.func27⟩
theorem x_l10:AllN x_A 29:=x_N (i:=28) 1 x_l9
theorem x_l11:AllN x_A 35:=⟨⟨⟨⟨⟨⟨x_l10,x_S T.s157 [[3,26,27,28]] Tryd.func29⟩,x_S T.s158 [] Tryd.func30⟩,x_S T.s159 [[0,31,32,33]] Tryd.func31⟩,x_S T.s160 [[25,26,27]] Tryd.func32⟩,x_S T.s161 [[3,6,7,8]] Tryd.func33⟩,x_S T.s162 [] Tryd.func34⟩
theorem x_l12:AllN x_A 38:=x_N (i:=35) 3 x_l11
theorem x_l13:AllN x_A 39:=⟨x_l12,x_S T.s166 [] Tryd.func38⟩
theorem x_l14:AllN x_A 49:=x_N (i:=39) 10 x_l13
theorem x_l15:AllN x_A 51:=⟨⟨x_l14,x_S T.s30 [] Tryd.func49⟩,x_S T.s41 [] Tryd.func50⟩
theorem x_l16:AllN x_A 52:=x_N (i:=51) 1 x_l15
theorem x_l17:AllN x_A 62:=⟨⟨⟨⟨⟨⟨⟨⟨⟨⟨x_l16,x_S T.s179 [[1,3,4],[1,3,4,5,6]] Tryd.func52⟩,x_S T.s171 [] Tryd.func53⟩,x_S T.s186 [] Tryd.func54⟩,x_S T.s187 [[1,3,4,27,28],[1,4,6],[1,4,6,7,73,74,75]] Tryd.func55⟩,x_S T.s188 [] Tryd.func56⟩,x_S T.s189 [[0,1,2,6]] Tryd.func57⟩,x_S T.s190 [] Tryd.func58⟩,x_S T.s191 [[0,20,21,22]] Tryd.func59⟩,x_a60⟩,x_S T.s27 [] Tryd.func61⟩
theorem x_l18:AllN x_A 65:=x_N (i:=62) 3 x_l17
theorem x_l19:AllN x_A 66:=⟨x_l18,x_S T.s15 [[0,1,5]] Tryd.func65⟩
theorem x_l20:AllN x_A 77:=x_N (i:=66) 11 x_l19
theorem x_l21:AllN x_A 87:=⟨⟨⟨⟨⟨⟨⟨⟨⟨⟨x_l20,x_S T.s202 [] Tryd.func77⟩,x_S T.s203 [] Tryd.func78⟩,x_S T.s212 [] Tryd.func79⟩,x_S T.s213 [] Tryd.func80⟩,x_S T.s214 [] Tryd.func81⟩,x_S T.s215 [[0,1,7,8]] Tryd.func82⟩,x_S T.s216 [[0,5,8,9,10]] Tryd.func83⟩,x_S T.s217 [[0,1,2,6,7,16,17,18]] Tryd.func84⟩,x_S T.s218 [] Tryd.func85⟩,x_S T.s219 [] Tryd.func86⟩
theorem x_l22:AllN x_A 88:=x_N (i:=87) 1 x_l21
theorem x_l23:AllN x_A 89:=⟨x_l22,x_a88⟩
theorem x_l24:AllN x_A 99:=x_N (i:=89) 10 x_l23
theorem x_l25:AllN x_A 102:=⟨⟨⟨x_l24,x_S T.s28 [] Tryd.func99⟩,x_S T.s229 [] Tryd.func100⟩,x_S T.s226 [] Tryd.func101⟩
theorem x_l26:AllN x_A 108:=x_N (i:=102) 6 x_l25
theorem x_l27:AllN x_A 109:=⟨x_l26,x_S T.s230 [] Tryd.func108⟩
theorem x_l28:AllN x_A 148:=x_N (i:=109) 39 x_l27
theorem x_alls:AllN x_A 148:=x_l28
theorem x_kf_out(f:Nat)(h:148<=f):F.tab0.T (kf f)=none:=by
   have:kf f=0:=by
    unfold kf;rw[List.getD_eq_getElem?_getD,List.getElem?_eq_none (by show keys.length<=f;exact h)];rfl
   rw[this];exact F.tab0_0
theorem x_link:Link Tryd.prog kf kt (GG Tryd.prog) λk=>(F.tab0.T k).map SFn.fl:=zkt x_alls x_kf_out
theorem x_oks:∀k f,F.tab0.T k=some f->f.ok=true:=F.ETree.ok_of F.tab0_ok
theorem zjk:F.ze F.tab0 F.stdI 4000 (.fn (kf 18) []) [] F.H.emp (λv _=>some v)=some (.bool true):=by kernel_rfl
abbrev A (k:Nat):Prop:=AtF Tryd.prog kf kt (GG Tryd.prog) F.tab k
theorem S{f:Nat}(s:SFn)(ls:List (List Nat)){fn:Func}(h:Tryd.prog.funcs[f]?=some fn)(h1:F.tab.T (kf f)=some s:=by kernel_rfl)(h2:zja s=true:=by kernel_rfl)(h3:(fn.name=="runtime.NumGoroutine")=false:=by kernel_rfl)(h4:zeT Tryd.prog kf kt ls fn=some s.fl:=by kernel_rfl):A f:=.src h1 h2 h h3 h4
theorem N{i:Nat}(m:Nat)(p:AllN A i)(h:((List.range' i m).all λk=>match F.tab.T (kf k) with|some _=>false|none=>true)=true:=by kernel_rfl):AllN A (i+m):=zhg m p λk h1 h2=>.none (by
 have:=List.all_eq_true.1 h k (List.mem_range'_1.2 ⟨h1,h2⟩)
 revert this
 cases F.tab.T (kf k) with
 | some x=>intro hx;cases hx
 | none=>intro _;rfl)
theorem a18:A 18:=.whole (g:=F.awkG) (by kernel_rfl) (awk_intr zik x_link x_oks F.iok0 4000 zjk)
theorem a60:A 60:=.whole (g:=zfn) (by kernel_rfl) (zcu.weaken (G:=GTab Tryd.prog) (zgg ⟨Tryd.f60,Tryd.func60,by kernel_rfl,by kernel_rfl⟩ λn h0 h1 w htab=>(Tryd.strconv_Itoa n h0 h1 w htab).mono (by
   rintro e w' ⟨rfl,k,os,rfl⟩
   refine⟨rfl,⟨rfl,rfl,rfl,?_,λi hi=>?_⟩⟩
   ·show w.heap.size<=(w.heap++os).size;rw[Array.size_append];omega
   ·show (w.heap++os)[i]?=w.heap[i]?;rw[Array.getElem?_append_left hi])) λB hB=>hB)
theorem a88:A 88:=.whole (g:=zfl) (by kernel_rfl) (zge ⟨Tryd.f88,Tryd.func88,by kernel_rfl,by kernel_rfl⟩ (λa c sep w=>Tryd.strings_Join_none a c sep w) λbk o c xs sep w h1 h2 h3 h4 h5=>Tryd.strings_Join bk o c xs sep w h1 h2 h3 h4 h5)
theorem l0:AllN A 10:=N (i:=0) 10 trivial
theorem l1:AllN A 11:=⟨l0,S T.s129 [] Tryd.func10⟩
theorem l2:AllN A 12:=N (i:=11) 1 l1
theorem l3:AllN A 13:=⟨l2,S T.s136 [[7,51,52,53]] Tryd.func12⟩
theorem l4:AllN A 14:=N (i:=13) 1 l3
theorem l5:AllN A 16:=⟨⟨l4,S T.s138 [[0,1,5]] Tryd.func14⟩,S T.s16 [] Tryd.func15⟩
theorem l6:AllN A 18:=N (i:=16) 2 l5
theorem l7:AllN A 19:=⟨l6,a18⟩
theorem l8:AllN A 26:=N (i:=19) 7 l7
theorem l9:AllN A 28:=⟨⟨l8,S T.s149 [[1,3],[1,3,4]] Tryd.func26⟩,S T.s143 [] Tryd.func27⟩
theorem l10:AllN A 29:=N (i:=28) 1 l9
theorem l11:AllN A 35:=⟨⟨⟨⟨⟨⟨l10,S T.s157 [[3,26,27,28]] Tryd.func29⟩,S T.s158 [] Tryd.func30⟩,S T.s159 [[0,31,32,33]] Tryd.func31⟩,S T.s160 [[25,26,27]] Tryd.func32⟩,S T.s161 [[3,6,7,8]] Tryd.func33⟩,S T.s162 [] Tryd.func34⟩
theorem l12:AllN A 38:=N (i:=35) 3 l11
theorem l13:AllN A 39:=⟨l12,S T.s166 [] Tryd.func38⟩
theorem l14:AllN A 49:=N (i:=39) 10 l13
theorem l15:AllN A 51:=⟨⟨l14,S T.s30 [] Tryd.func49⟩,S T.s41 [] Tryd.func50⟩
theorem l16:AllN A 52:=N (i:=51) 1 l15
theorem l17:AllN A 62:=⟨⟨⟨⟨⟨⟨⟨⟨⟨⟨l16,S T.s179 [[1,3,4],[1,3,4,5,6]] Tryd.func52⟩,S T.s171 [] Tryd.func53⟩,S T.s186 [] Tryd.func54⟩,S T.s187 [[1,3,4,27,28],[1,4,6],[1,4,6,7,73,74,75]] Tryd.func55⟩,S T.s188 [] Tryd.func56⟩,S T.s189 [[0,1,2,6]] Tryd.func57⟩,S T.s190 [] Tryd.func58⟩,S T.s191 [[0,20,21,22]] Tryd.func59⟩,a60⟩,S T.s27 [] Tryd.func61⟩
theorem l18:AllN A 65:=N (i:=62) 3 l17
theorem l19:AllN A 66:=⟨l18,S T.s15 [[0,1,5]] Tryd.func65⟩
theorem l20:AllN A 77:=N (i:=66) 11 l19
theorem l21:AllN A 87:=⟨⟨⟨⟨⟨⟨⟨⟨⟨⟨l20,S T.s202 [] Tryd.func77⟩,S T.s203 [] Tryd.func78⟩,S T.s212 [] Tryd.func79⟩,S T.s213 [] Tryd.func80⟩,S T.s214 [] Tryd.func81⟩,S T.s215 [[0,1,7,8]] Tryd.func82⟩,S T.s216 [[0,5,8,9,10]] Tryd.func83⟩,S T.s217 [[0,1,2,6,7,16,17,18]] Tryd.func84⟩,S T.s218 [] Tryd.func85⟩,S T.s219 [] Tryd.func86⟩
theorem l22:AllN A 88:=N (i:=87) 1 l21
theorem l23:AllN A 89:=⟨l22,a88⟩
theorem l24:AllN A 99:=N (i:=89) 10 l23
theorem l25:AllN A 102:=⟨⟨⟨l24,S T.s28 [] Tryd.func99⟩,S T.s229 [] Tryd.func100⟩,S T.s226 [] Tryd.func101⟩
theorem l26:AllN A 108:=N (i:=102) 6 l25
theorem l27:AllN A 109:=⟨l26,S T.s230 [] Tryd.func108⟩
theorem l28:AllN A 148:=N (i:=109) 39 l27
theorem alls:AllN A 148:=l28
theorem kf_out(f:Nat)(h:148<=f):F.tab.T (kf f)=none:=by
   have:kf f=0:=by
    unfold kf;rw[List.getD_eq_getElem?_getD,List.getElem?_eq_none (by show keys.length<=f;exact h)];rfl
   rw[this];exact F.tab_0
theorem link:Link Tryd.prog kf kt (GG Tryd.prog) λk=>(F.tab.T k).map SFn.fl:=zkt alls kf_out
theorem oks:∀k f,F.tab.T k=some f->f.ok=true:=F.ETree.ok_of F.tab_ok
  end Am.L
