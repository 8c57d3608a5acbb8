/- Each function is what the compiler gives of the program. -/
import Derived.Test.YtmogbhfcdcpdeaaDoorAmZf8Tab
import Derived.Test.YtmogbhfcdcpdeaaDoorAmZf8K
import Derived.Test.YtmogbhfcdcpdeaaDoorAmZf8Shelf
import Derived.Test.YtmogbhfcdcpdeaaDoorAmSplit
set_option maxRecDepth 100000
namespace Am.L
open Go Go.Proofs Go.RowKit
theorem zgs{p:Nat->Prop}{i:Nat}:∀m:Nat,AllN p i->(∀k,i<=k->k<i+m->p k)->AllN p (i+m)
 | 0,h,_=>h
 | m+1,h,hk=>⟨zgs m h λk h1 h2=>hk k h1 (Nat.lt_succ_of_lt h2),hk (i+m) (Nat.le_add_right _ _) (Nat.lt_succ_self _)⟩
abbrev A (k:Nat):Prop:=AtF Tryd.prog kf kt (GG Tryd.prog) F.tab k
theorem S{f:Nat}(s:SFn)(ls:List (List Nat)){fn:Func}(h:Tryd.prog.funcs[f]?=some fn)(h1:F.tab.T (kf f)=some s:=by kernel_rfl)(h2:zgB s=true:=by kernel_rfl)(h3:(fn.name=="runtime.NumGoroutine")=false:=by kernel_rfl)(h4:zd2 Tryd.prog kf kt ls fn=some s.fl:=by kernel_rfl):A f:=.src h1 h2 h h3 h4
theorem N{i:Nat}(m:Nat)(p:AllN A i)(h:((List.range' i m).all λk=>match F.tab.T (kf k) with|some _=>false|none=>true)=true:=by kernel_rfl):AllN A (i+m):=zgs m p λk h1 h2=>.none (by
 have:=List.all_eq_true.1 h k (List.mem_range'_1.2 ⟨h1,h2⟩)
 revert this
 cases F.tab.T (kf k) with
 | some x=>intro hx;cases hx
 | none=>intro _;rfl)
theorem a20:A 20:=.whole (g:=zeD) (by kernel_rfl) (zbR.weaken (G:=GTab Tryd.prog) (zgy ⟨Tryd.f20,Tryd.func20,by kernel_rfl,by kernel_rfl⟩ λn h0 h1 w htab=>(Tryd.strconv_Itoa n h0 h1 w htab).mono (by
   rintro e w' ⟨rfl,k,os,rfl⟩
   refine⟨rfl,⟨rfl,rfl,rfl,?_,λi hi=>?_⟩⟩
   ·show w.heap.size<=(w.heap++os).size;rw[Array.size_append];omega
   ·show (w.heap++os)[i]?=w.heap[i]?;rw[Array.getElem?_append_left hi])) λB hB=>hB)
theorem a36:A 36:=.whole (g:=zeC) (by kernel_rfl) (zgx ⟨Tryd.f36,Tryd.func36,by kernel_rfl,by kernel_rfl⟩ (λa c sep w=>Tryd.strings_Join_none a c sep w) λbk o c xs sep w h1 h2 h3 h4 h5=>Tryd.strings_Join bk o c xs sep w h1 h2 h3 h4 h5)
theorem a51:A 51:=.whole (g:=F.zcm) (by kernel_rfl) (zfk (kf:=kf) ⟨Tryd.f51,Tryd.func51,by kernel_rfl,by kernel_rfl⟩ λs w hs=>zfj Tryd.lays146 (by kernel_rfl) s 32 w hs)
theorem l0:AllN A 4:=N (i:=0) 4 trivial
theorem l1:AllN A 5:=⟨l0,S T.s246 [] Tryd.func4⟩
theorem l2:AllN A 8:=N (i:=5) 3 l1
theorem l3:AllN A 9:=⟨l2,S T.s254 [[4,11,12,13]] Tryd.func8⟩
theorem l4:AllN A 10:=N (i:=9) 1 l3
theorem l5:AllN A 11:=⟨l4,S T.s16 [] Tryd.func10⟩
theorem l6:AllN A 12:=N (i:=11) 1 l5
theorem l7:AllN A 13:=⟨l6,S T.s252 [] Tryd.func12⟩
theorem l8:AllN A 14:=N (i:=13) 1 l7
theorem l9:AllN A 15:=⟨l8,S T.s253 [] Tryd.func14⟩
theorem l10:AllN A 16:=N (i:=15) 1 l9
theorem l11:AllN A 17:=⟨l10,S T.s255 [] Tryd.func16⟩
theorem l12:AllN A 19:=N (i:=17) 2 l11
theorem l13:AllN A 22:=⟨⟨⟨l12,S T.s157 [[3,26,27,28]] Tryd.func19⟩,a20⟩,S T.s268 [[0,5,6,7,68,69,70]] Tryd.func21⟩
theorem l14:AllN A 28:=N (i:=22) 6 l13
theorem l15:AllN A 29:=⟨l14,S T.s267 [] Tryd.func28⟩
theorem l16:AllN A 31:=N (i:=29) 2 l15
theorem l17:AllN A 34:=⟨⟨⟨l16,S T.s186 [] Tryd.func31⟩,S T.s187 [[1,3,4,27,28],[1,4,6],[1,4,6,7,73,74,75]] Tryd.func32⟩,S T.s188 [] Tryd.func33⟩
theorem l18:AllN A 35:=N (i:=34) 1 l17
theorem l19:AllN A 37:=⟨⟨l18,S T.s275 [] Tryd.func35⟩,a36⟩
theorem l20:AllN A 46:=N (i:=37) 9 l19
theorem l21:AllN A 50:=⟨⟨⟨⟨l20,S T.s212 [] Tryd.func46⟩,S T.s213 [] Tryd.func47⟩,S T.s214 [] Tryd.func48⟩,S T.s215 [[0,1,7,8]] Tryd.func49⟩
theorem l22:AllN A 51:=N (i:=50) 1 l21
theorem l23:AllN A 52:=⟨l22,a51⟩
theorem l24:AllN A 60:=N (i:=52) 8 l23
theorem l25:AllN A 62:=⟨⟨l24,S T.s28 [] Tryd.func60⟩,S T.s229 [] Tryd.func61⟩
theorem l26:AllN A 120:=N (i:=62) 58 l25
theorem alls:AllN A 120:=l26
theorem kf_out(f:Nat)(h:120<=f):F.tab.T (kf f)=none:=by
   have:kf f=0:=by
    unfold kf;rw[List.getD_eq_getElem?_getD,List.getElem?_eq_none (by show keys.length<=f;exact h)];rfl
   rw[this];exact F.tab_0
theorem link:Link Tryd.prog kf kt (GG Tryd.prog) λk=>(F.tab.T k).map SFn.fl:=link_of alls kf_out
theorem oks:∀k f,F.tab.T k=some f->f.ok=true:=F.ETree.ok_of F.tab_ok
  end Am.L
