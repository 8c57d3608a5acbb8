/- Each function is what the compiler gives of the program. -/
import Derived.Test.YtanhngcjijbodaaDoorAmZw8Tab
import Derived.Test.YtanhngcjijbodaaDoorAmZw8K
import Derived.Test.YtanhngcjijbodaaDoorAmZw8Shelf
import Derived.Test.YtanhngcjijbodaaDoorAmSplit
set_option maxRecDepth 100000
namespace Am.L
open Go Go.Proofs Go.RowKit
theorem zgV{p:Nat->Prop}{i:Nat}:∀m:Nat,AllN p i->(∀k,i<=k->k<i+m->p k)->AllN p (i+m)
 | 0,h,_=>h
 | m+1,h,hk=>⟨zgV m h λk h1 h2=>hk k h1 (Nat.lt_succ_of_lt h2),hk (i+m) (Nat.le_add_right _ _) (Nat.lt_succ_self _)⟩
abbrev A (k:Nat):Prop:=AtF Tryd.prog kf kt (GG Tryd.prog) F.tab k
theorem S{f:Nat}(s:SFn)(ls:List (List Nat)){fn:Func}(h:Tryd.prog.funcs[f]?=some fn)(h1:F.tab.T (kf f)=some s:=by kernel_rfl)(h2:zg4 s=true:=by kernel_rfl)(h3:(fn.name=="runtime.NumGoroutine")=false:=by kernel_rfl)(h4:zee Tryd.prog kf kt ls fn=some s.fl:=by kernel_rfl):A f:=.src h1 h2 h h3 h4
theorem N{i:Nat}(m:Nat)(p:AllN A i)(h:((List.range' i m).all λk=>match F.tab.T (kf k) with|some _=>false|none=>true)=true:=by kernel_rfl):AllN A (i+m):=zgV m p λk h1 h2=>.none (by
 have:=List.all_eq_true.1 h k (List.mem_range'_1.2 ⟨h1,h2⟩)
 revert this
 cases F.tab.T (kf k) with
 | some x=>intro hx;cases hx
 | none=>intro _;rfl)
theorem a17:A 17:=.whole (g:=zeR) (by kernel_rfl) (zbW.weaken (G:=GTab Tryd.prog) (zg1 ⟨Tryd.f17,Tryd.func17,by kernel_rfl,by kernel_rfl⟩ λn h0 h1 w htab=>(Tryd.strconv_Itoa n h0 h1 w htab).mono (by
   rintro e w' ⟨rfl,k,os,rfl⟩
   refine⟨rfl,⟨rfl,rfl,rfl,?_,λi hi=>?_⟩⟩
   ·show w.heap.size<=(w.heap++os).size;rw[Array.size_append];omega
   ·show (w.heap++os)[i]?=w.heap[i]?;rw[Array.getElem?_append_left hi])) λB hB=>hB)
theorem a34:A 34:=.whole (g:=zeQ) (by kernel_rfl) (zg0 ⟨Tryd.f34,Tryd.func34,by kernel_rfl,by kernel_rfl⟩ (λa c sep w=>Tryd.strings_Join_none a c sep w) λbk o c xs sep w h1 h2 h3 h4 h5=>Tryd.strings_Join bk o c xs sep w h1 h2 h3 h4 h5)
theorem a49:A 49:=.whole (g:=F.zct) (by kernel_rfl) (zfM (kf:=kf) ⟨Tryd.f49,Tryd.func49,by kernel_rfl,by kernel_rfl⟩ λs w hs=>zfL Tryd.lays146 (by kernel_rfl) s 32 w hs)
theorem l0:AllN A 4:=N (i:=0) 4 trivial
theorem l1:AllN A 5:=⟨l0,S T.s247 [] Tryd.func4⟩
theorem l2:AllN A 6:=N (i:=5) 1 l1
theorem l3:AllN A 7:=⟨l2,S T.s254 [[4,11,12,13]] Tryd.func6⟩
theorem l4:AllN A 8:=N (i:=7) 1 l3
theorem l5:AllN A 9:=⟨l4,S T.s16 [] Tryd.func8⟩
theorem l6:AllN A 10:=N (i:=9) 1 l5
theorem l7:AllN A 11:=⟨l6,S T.s252 [] Tryd.func10⟩
theorem l8:AllN A 12:=N (i:=11) 1 l7
theorem l9:AllN A 15:=⟨⟨⟨l8,S T.s253 [] Tryd.func12⟩,S T.s149 [[1,3],[1,3,4]] Tryd.func13⟩,S T.s255 [] Tryd.func14⟩
theorem l10:AllN A 16:=N (i:=15) 1 l9
theorem l11:AllN A 19:=⟨⟨⟨l10,S T.s157 [[3,26,27,28]] Tryd.func16⟩,a17⟩,S T.s268 [[0,5,6,7,68,69,70]] Tryd.func18⟩
theorem l12:AllN A 26:=N (i:=19) 7 l11
theorem l13:AllN A 32:=⟨⟨⟨⟨⟨⟨l12,S T.s267 [] Tryd.func26⟩,S T.s30 [] Tryd.func27⟩,S T.s179 [[1,3,4],[1,3,4,5,6]] Tryd.func28⟩,S T.s186 [] Tryd.func29⟩,S T.s187 [[1,3,4,27,28],[1,4,6],[1,4,6,7,73,74,75]] Tryd.func30⟩,S T.s188 [] Tryd.func31⟩
theorem l14:AllN A 33:=N (i:=32) 1 l13
theorem l15:AllN A 35:=⟨⟨l14,S T.s275 [] Tryd.func33⟩,a34⟩
theorem l16:AllN A 42:=N (i:=35) 7 l15
theorem l17:AllN A 48:=⟨⟨⟨⟨⟨⟨l16,S T.s202 [] Tryd.func42⟩,S T.s203 [] Tryd.func43⟩,S T.s212 [] Tryd.func44⟩,S T.s213 [] Tryd.func45⟩,S T.s214 [] Tryd.func46⟩,S T.s215 [[0,1,7,8]] Tryd.func47⟩
theorem l18:AllN A 49:=N (i:=48) 1 l17
theorem l19:AllN A 50:=⟨l18,a49⟩
theorem l20:AllN A 57:=N (i:=50) 7 l19
theorem l21:AllN A 60:=⟨⟨⟨l20,S T.s41 [] Tryd.func57⟩,S T.s28 [] Tryd.func58⟩,S T.s229 [] Tryd.func59⟩
theorem l22:AllN A 118:=N (i:=60) 58 l21
theorem alls:AllN A 118:=l22
theorem kf_out(f:Nat)(h:118<=f):F.tab.T (kf f)=none:=by
   have:kf f=0:=by
    unfold kf;rw[List.getD_eq_getElem?_getD,List.getElem?_eq_none (by show keys.length<=f;exact h)];rfl
   rw[this];exact F.tab_0
theorem link:Link Tryd.prog kf kt (GG Tryd.prog) λk=>(F.tab.T k).map SFn.fl:=link_of alls kf_out
theorem oks:∀k f,F.tab.T k=some f->f.ok=true:=F.ETree.ok_of F.tab_ok
  end Am.L
