/- Each function is what the compiler gives of the program. -/
import Derived.Test.YtmogbhfcdcpdeaaDoorAmZslTab
import Derived.Test.YtmogbhfcdcpdeaaDoorAmZslK
import Derived.Test.YtmogbhfcdcpdeaaDoorAmZslShelf
import Derived.Test.YtmogbhfcdcpdeaaDoorAmSplit
import Derived.Test.YtmogbhfcdcpdeaaDoorAmIdx
import Derived.Test.YtmogbhfcdcpdeaaDoorAmAwk
set_option maxRecDepth 100000
namespace Am.L
open Go Go.Proofs Go.RowKit
theorem zfP{p:Nat->Prop}{i:Nat}:∀m:Nat,AllN p i->(∀k,i<=k->k<i+m->p k)->AllN p (i+m)
 | 0,h,_=>h
 | m+1,h,hk=>⟨zfP m h λk h1 h2=>hk k h1 (Nat.lt_succ_of_lt h2),hk (i+m) (Nat.le_add_right _ _) (Nat.lt_succ_self _)⟩
abbrev x_A (k:Nat):Prop:=AtF Tryd.prog kf kt (GG Tryd.prog) F.tab0 k
theorem x_S{f:Nat}(s:SFn)(ls:List (List Nat)){fn:Func}(h:Tryd.prog.funcs[f]?=some fn)(h1:F.tab0.T (kf f)=some s:=by kernel_rfl)(h2:zg7 s=true:=by kernel_rfl)(h3:(fn.name=="runtime.NumGoroutine")=false:=by kernel_rfl)(h4:zd1 Tryd.prog kf kt ls fn=some s.fl:=by kernel_rfl):x_A f:=.src h1 h2 h h3 h4
theorem x_N{i:Nat}(m:Nat)(p:AllN x_A i)(h:((List.range' i m).all λk=>match F.tab0.T (kf k) with|some _=>false|none=>true)=true:=by kernel_rfl):AllN x_A (i+m):=zfP m p λk h1 h2=>.none (by
 have:=List.all_eq_true.1 h k (List.mem_range'_1.2 ⟨h1,h2⟩)
 revert this
 cases F.tab0.T (kf k) with
 | some x=>intro hx;cases hx
 | none=>intro _;rfl)
theorem x_a20:x_A 20:=.whole (g:=zej) (by kernel_rfl) (zbF.weaken (G:=GTab Tryd.prog) (ze4 ⟨Tryd.f20,Tryd.func20,by kernel_rfl,by kernel_rfl⟩ λn h0 h1 w htab=>(Tryd.strconv_Itoa n h0 h1 w htab).mono (by
   rintro e w' ⟨rfl,k,os,rfl⟩
   refine⟨rfl,⟨rfl,rfl,rfl,?_,λi hi=>?_⟩⟩
   ·show w.heap.size<=(w.heap++os).size;rw[Array.size_append];omega
   ·show (w.heap++os)[i]?=w.heap[i]?;rw[Array.getElem?_append_left hi])) λB hB=>hB)
theorem x_a36:x_A 36:=.whole (g:=zei) (by kernel_rfl) (ze3 ⟨Tryd.f36,Tryd.func36,by kernel_rfl,by kernel_rfl⟩ (λa c sep w=>Tryd.strings_Join_none a c sep w) λbk o c xs sep w h1 h2 h3 h4 h5=>Tryd.strings_Join bk o c xs sep w h1 h2 h3 h4 h5)
theorem x_a51:x_A 51:=.whole (g:=F.zcf) (by kernel_rfl) (zdQ (kf:=kf) ⟨Tryd.f51,Tryd.func51,by kernel_rfl,by kernel_rfl⟩ λs w hs=>zdP Tryd.lays146 (by kernel_rfl) s 32 w hs)
theorem x_l0:AllN x_A 6:=x_N (i:=0) 6 trivial
theorem x_l1:AllN x_A 7:=⟨x_l0,x_S T.s303 [[1,3,5,6,7]] Tryd.func6⟩
theorem x_l2:AllN x_A 8:=x_N (i:=7) 1 x_l1
theorem x_l3:AllN x_A 9:=⟨x_l2,x_S T.s254 [[4,11,12,13]] Tryd.func8⟩
theorem x_l4:AllN x_A 10:=x_N (i:=9) 1 x_l3
theorem x_l5:AllN x_A 11:=⟨x_l4,x_S T.s16 [] Tryd.func10⟩
theorem x_l6:AllN x_A 12:=x_N (i:=11) 1 x_l5
theorem x_l7:AllN x_A 13:=⟨x_l6,x_S T.s252 [] Tryd.func12⟩
theorem x_l8:AllN x_A 14:=x_N (i:=13) 1 x_l7
theorem x_l9:AllN x_A 18:=⟨⟨⟨⟨x_l8,x_S T.s253 [] Tryd.func14⟩,x_S T.s149 [[1,3],[1,3,4]] Tryd.func15⟩,x_S T.s255 [] Tryd.func16⟩,x_S T.s22 [[0,3,4]] Tryd.func17⟩
theorem x_l10:AllN x_A 19:=x_N (i:=18) 1 x_l9
theorem x_l11:AllN x_A 22:=⟨⟨⟨x_l10,x_S T.s157 [[3,26,27,28]] Tryd.func19⟩,x_a20⟩,x_S T.s268 [[0,5,6,7,68,69,70]] Tryd.func21⟩
theorem x_l12:AllN x_A 28:=x_N (i:=22) 6 x_l11
theorem x_l13:AllN x_A 34:=⟨⟨⟨⟨⟨⟨x_l12,x_S T.s267 [] Tryd.func28⟩,x_S T.s30 [] Tryd.func29⟩,x_S T.s179 [[1,3,4],[1,3,4,5,6]] Tryd.func30⟩,x_S T.s186 [] Tryd.func31⟩,x_S T.s187 [[1,3,4,27,28],[1,4,6],[1,4,6,7,73,74,75]] Tryd.func32⟩,x_S T.s188 [] Tryd.func33⟩
theorem x_l14:AllN x_A 35:=x_N (i:=34) 1 x_l13
theorem x_l15:AllN x_A 37:=⟨⟨x_l14,x_S T.s275 [] Tryd.func35⟩,x_a36⟩
theorem x_l16:AllN x_A 44:=x_N (i:=37) 7 x_l15
theorem x_l17:AllN x_A 50:=⟨⟨⟨⟨⟨⟨x_l16,x_S T.s202 [] Tryd.func44⟩,x_S T.s203 [] Tryd.func45⟩,x_S T.s212 [] Tryd.func46⟩,x_S T.s213 [] Tryd.func47⟩,x_S T.s214 [] Tryd.func48⟩,x_S T.s215 [[0,1,7,8]] Tryd.func49⟩
theorem x_l18:AllN x_A 51:=x_N (i:=50) 1 x_l17
theorem x_l19:AllN x_A 52:=⟨x_l18,x_a51⟩
theorem x_l20:AllN x_A 59:=x_N (i:=52) 7 x_l19
theorem x_l21:AllN x_A 62:=⟨⟨⟨x_l20,x_S T.s41 [] Tryd.func59⟩,x_S T.s28 [] Tryd.func60⟩,x_S T.s229 [] Tryd.func61⟩
theorem x_l22:AllN x_A 120:=x_N (i:=62) 58 x_l21
theorem x_alls:AllN x_A 120:=x_l22
theorem x_kf_out(f:Nat)(h:120<=f):F.tab0.T (kf f)=none:=by
   have:kf f=0:=by
    unfold kf;rw[List.getD_eq_getElem?_getD,List.getElem?_eq_none (by show keys.length<=f;exact h)];rfl
   rw[this];exact F.tab0_0
theorem x_link:Link Tryd.prog kf kt (GG Tryd.prog) λk=>(F.tab0.T k).map SFn.fl:=zh0 x_alls x_kf_out
theorem x_oks:∀k f,F.tab0.T k=some f->f.ok=true:=F.ETree.ok_of F.tab0_ok
theorem zhd:F.zc F.tab0 F.stdI 4000 (.fn (kf 12) []) [] F.H.emp (λv _=>some v)=some (.bool true):=by kernel_rfl
abbrev A (k:Nat):Prop:=AtF Tryd.prog kf kt (GG Tryd.prog) F.tab k
theorem S{f:Nat}(s:SFn)(ls:List (List Nat)){fn:Func}(h:Tryd.prog.funcs[f]?=some fn)(h1:F.tab.T (kf f)=some s:=by kernel_rfl)(h2:zg7 s=true:=by kernel_rfl)(h3:(fn.name=="runtime.NumGoroutine")=false:=by kernel_rfl)(h4:zd1 Tryd.prog kf kt ls fn=some s.fl:=by kernel_rfl):A f:=.src h1 h2 h h3 h4
theorem N{i:Nat}(m:Nat)(p:AllN A i)(h:((List.range' i m).all λk=>match F.tab.T (kf k) with|some _=>false|none=>true)=true:=by kernel_rfl):AllN A (i+m):=zfP m p λk h1 h2=>.none (by
 have:=List.all_eq_true.1 h k (List.mem_range'_1.2 ⟨h1,h2⟩)
 revert this
 cases F.tab.T (kf k) with
 | some x=>intro hx;cases hx
 | none=>intro _;rfl)
theorem a12:A 12:=.whole (g:=F.awkG) (by kernel_rfl) (awk_intr zgq x_link x_oks F.iok0 4000 zhd)
theorem a20:A 20:=.whole (g:=zej) (by kernel_rfl) (zbF.weaken (G:=GTab Tryd.prog) (ze4 ⟨Tryd.f20,Tryd.func20,by kernel_rfl,by kernel_rfl⟩ λn h0 h1 w htab=>(Tryd.strconv_Itoa n h0 h1 w htab).mono (by
   rintro e w' ⟨rfl,k,os,rfl⟩
   refine⟨rfl,⟨rfl,rfl,rfl,?_,λi hi=>?_⟩⟩
   ·show w.heap.size<=(w.heap++os).size;rw[Array.size_append];omega
   ·show (w.heap++os)[i]?=w.heap[i]?;rw[Array.getElem?_append_left hi])) λB hB=>hB)
theorem a36:A 36:=.whole (g:=zei) (by kernel_rfl) (ze3 ⟨Tryd.f36,Tryd.func36,by kernel_rfl,by kernel_rfl⟩ (λa c sep w=>Tryd.strings_Join_none a c sep w) λbk o c xs sep w h1 h2 h3 h4 h5=>Tryd.strings_Join bk o c xs sep w h1 h2 h3 h4 h5)
theorem a51:A 51:=.whole (g:=F.zcf) (by kernel_rfl) (zdQ (kf:=kf) ⟨Tryd.f51,Tryd.func51,by kernel_rfl,by kernel_rfl⟩ λs w hs=>zdP Tryd.lays146 (by kernel_rfl) s 32 w hs)
theorem l0:AllN A 6:=N (i:=0) 6 trivial
theorem l1:AllN A 7:=⟨l0,S T.s303 [[1,3,5,6,7]] Tryd.func6⟩
theorem l2:AllN A 8:=N (i:=7) 1 l1
theorem l3:AllN A 9:=⟨l2,S T.s254 [[4,11,12,13]] Tryd.func8⟩
theorem l4:AllN A 10:=N (i:=9) 1 l3
theorem l5:AllN A 11:=⟨l4,S T.s16 [] Tryd.func10⟩
theorem l6:AllN A 12:=N (i:=11) 1 l5
theorem l7:AllN A 13:=⟨l6,a12⟩
theorem l8:AllN A 14:=N (i:=13) 1 l7
theorem l9:AllN A 18:=⟨⟨⟨⟨l8,S T.s253 [] Tryd.func14⟩,S T.s149 [[1,3],[1,3,4]] Tryd.func15⟩,S T.s255 [] Tryd.func16⟩,S T.s22 [[0,3,4]] Tryd.func17⟩
theorem l10:AllN A 19:=N (i:=18) 1 l9
theorem l11:AllN A 22:=⟨⟨⟨l10,S T.s157 [[3,26,27,28]] Tryd.func19⟩,a20⟩,S T.s268 [[0,5,6,7,68,69,70]] Tryd.func21⟩
theorem l12:AllN A 28:=N (i:=22) 6 l11
theorem l13:AllN A 34:=⟨⟨⟨⟨⟨⟨l12,S T.s267 [] Tryd.func28⟩,S T.s30 [] Tryd.func29⟩,S T.s179 [[1,3,4],[1,3,4,5,6]] Tryd.func30⟩,S T.s186 [] Tryd.func31⟩,S T.s187 [[1,3,4,27,28],[1,4,6],[1,4,6,7,73,74,75]] Tryd.func32⟩,S T.s188 [] Tryd.func33⟩
theorem l14:AllN A 35:=N (i:=34) 1 l13
theorem l15:AllN A 37:=⟨⟨l14,S T.s275 [] Tryd.func35⟩,a36⟩
theorem l16:AllN A 44:=N (i:=37) 7 l15
theorem l17:AllN A 50:=⟨⟨⟨⟨⟨⟨l16,S T.s202 [] Tryd.func44⟩,S T.s203 [] Tryd.func45⟩,S T.s212 [] Tryd.func46⟩,S T.s213 [] Tryd.func47⟩,S T.s214 [] Tryd.func48⟩,S T.s215 [[0,1,7,8]] Tryd.func49⟩
theorem l18:AllN A 51:=N (i:=50) 1 l17
theorem l19:AllN A 52:=⟨l18,a51⟩
theorem l20:AllN A 59:=N (i:=52) 7 l19
theorem l21:AllN A 62:=⟨⟨⟨l20,S T.s41 [] Tryd.func59⟩,S T.s28 [] Tryd.func60⟩,S T.s229 [] Tryd.func61⟩
theorem l22:AllN A 120:=N (i:=62) 58 l21
theorem alls:AllN A 120:=l22
theorem kf_out(f:Nat)(h:120<=f):F.tab.T (kf f)=none:=by
   have:kf f=0:=by
    unfold kf;rw[List.getD_eq_getElem?_getD,List.getElem?_eq_none (by show keys.length<=f;exact h)];rfl
   rw[this];exact F.tab_0
theorem link:Link Tryd.prog kf kt (GG Tryd.prog) λk=>(F.tab.T k).map SFn.fl:=zh0 alls kf_out
theorem oks:∀k f,F.tab.T k=some f->f.ok=true:=F.ETree.ok_of F.tab_ok
  end Am.L
