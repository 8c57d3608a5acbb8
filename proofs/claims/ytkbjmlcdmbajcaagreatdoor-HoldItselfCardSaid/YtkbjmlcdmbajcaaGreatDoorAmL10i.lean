/- Walks: HoldItself. -/
import Derived.Test.YtkbjmlcdmbajcaaGreatDoorAmHoM
import Derived.Test.YtkbjmlcdmbajcaaGreatDoorAmBl
import Derived.Test.YtkbjmlcdmbajcaaGreatDoorAmRfH
import Derived.Test.YtkbjmlcdmbajcaaGreatDoorAmGV10W
open Nat (reduceAdd reduceMul)
open Int (reduceToNat)
set_option linter.unusedSimpArgs false
set_option linter.unusedVariables false
namespace Am.F
open Go Am
section
variable {β:Type} {t:ETree}
set_option maxHeartbeats 2000000 in
theorem GV10.w236(TL:GV10 t)(TS:GS10 t)(TB:GBL t)(TH:GR10 t)(TN:GNM t)(TR:GR9 t)(TC:GC t)(T:GA t)(L:GI t)(hA:t.get 150=some (eAw 150))(n:Nat)(hn:4500<=n){h:H}(a b:List UInt8)(hal:a.length<=9223372036854775807)(hbl:b.length<=9223372036854775807) :
  Sp (β:=β) (zc t stdI n (.fn 236 []) [.str a,.str b] h) λu h'=>u = .bool true:=by
 intro k R hk;obtain⟨m,rfl⟩:∃m,n=m+2:=⟨n-2,by omega⟩
 have haw:=λ(hh:H) (kk:K β)=>awk_q (β:=β) (k:=150) rfl hA m hh kk
 have hb1:∀kk:VK β,zm [.int .i64 0,.int .i64 0,.int .i64 0,.nils] [] [] (.mk kk)=kk (.agg [.int .i64 0,.int .i64 0,.int .i64 0,.nils]):=λkk=>rfl
 have hb2:∀kk:VK β,zm [.int .i64 0,.int .i64 0,.int .i64 0,.nils] [(0,1)] [.int .i64 1] (.mk kk)=kk (.agg [.int .i64 1,.int .i64 0,.int .i64 0,.nils]):=λkk=>rfl
 have hb3:∀(c:Nat) (kk:VK β),zm [.int .i64 0,.nils] [(1,1)] [.sl c 0 1 1 none] (.mk kk)=kk (.agg [.int .i64 0,.sl c 0 1 1 none]):=λc kk=>rfl
 have hb4:∀(c:Nat) (kk:VK β),zm [.int .i64 0,.nils] [(0,1),(1,1)] [.int .i64 1,.sl c 0 1 1 none] (.mk kk)=kk (.agg [.int .i64 1,.sl c 0 1 1 none]):=λc kk=>rfl
 have hb5:∀(c:Nat) (kk:VK β),zm [.nils] [(0,1)] [.sl c 0 2 2 none] (.mk kk)=kk (.agg [.sl c 0 2 2 none]):=λc kk=>rfl
 have hb6:∀(c:Nat) (s:List UInt8) (kk:VK β),zm [.int .i64 0,.int .i64 0,.nils,.str []] [(0,1),(2,1),(3,1)] [.int .i64 1,.sl c 0 1 1 none,.str s] (.mk kk)=kk (.agg [.int .i64 1,.int .i64 0,.sl c 0 1 1 none,.str s]):=λc s kk=>rfl
 have hs1:∀(x y z w:AV) (hh:H) (kk:K β),zq 0 [.int .i64 0,.int .i64 0,.int .i64 0,.nils] 1 [(0,4)] [.agg [x,y,z,w]] hh (.mk kk)=kk (.sl hh.n 0 1 1 none) (hh.push (.own 0 [x,y,z,w])):=λx y z w hh kk=>fBslice_n (λ_=>rfl) hh kk
 have hs2:∀(x y z w:AV) (hh:H) (kk:K β),zq 0 [.int .i64 0,.nils,.int .i64 0,.nils] 2 [(0,2),(2,2)] [.agg [x,y],.agg [z,w]] hh (.mk kk)=kk (.sl hh.n 0 2 2 none) (hh.push (.own 0 [x,y,z,w])):=λx y z w hh kk=>fBslice_n (λ_=>rfl) hh kk
 have hs3:∀(s:List UInt8) (hh:H) (kk:K β),zq 0 [.str []] 1 [(0,1)] [.str s] hh (.mk kk)=kk (.sl hh.n 0 1 1 none) (hh.push (.own 0 [.str s])):=λs hh kk=>zdj rfl hh kk
 obtain⟨hF,ehF⟩:∃hF,hF=(((((h.push (.own 0 [.int .i64 0,.int .i64 0,.int .i64 0,.nils])).push (.own 0 [.int .i64 1,.int .i64 0,.int .i64 0,.nils])).push (.own 0 [.int .i64 0,.sl h.n 0 1 1 none,.int .i64 1,.sl (h.n+1) 0 1 1 none])).push (.own 0 [.nils])).set (h.n+3) (.own 0 [.sl (h.n+2) 0 2 2 none])).push (.own 0 [.str a]):=⟨_,rfl⟩
 have tF:(((((h.push (.own 0 [.int .i64 0,.int .i64 0,.int .i64 0,.nils])).push (.own 0 [.int .i64 1,.int .i64 0,.int .i64 0,.nils])).push (.own 0 [.int .i64 0,.sl h.n 0 1 1 none,.int .i64 1,.sl (h.n+1) 0 1 1 none])).push (.own 0 [.nils])).set (h.n+1+1+1) (.own 0 [.sl (h.n+1+1) 0 2 2 none])).push (.own 0 [.str a])=hF:=ehF.symm;have nF:hF.n=h.n+5:=by rw[ehF];simp only[H.n_set,H.n_push]
 have g1:hF.get h.n = .own 0 [.int .i64 0,.int .i64 0,.int .i64 0,.nils]:=by
  rw[ehF,zb (by simp only[H.n_set,H.n_push];omega),ze (by omega),zb (by simp only[H.n_push];omega),zb (by simp only[H.n_push];omega),zb (by simp only[H.n_push];omega),zd rfl]
 have g2:hF.get (h.n+1) = .own 0 [.int .i64 1,.int .i64 0,.int .i64 0,.nils]:=by
  rw[ehF,zb (by simp only[H.n_set,H.n_push];omega),ze (by omega),zb (by simp only[H.n_push];omega),zb (by simp only[H.n_push];omega),zd (by simp only[H.n_push])]
 have g3:hF.get (h.n+2) = .own 0 [.int .i64 0,.sl h.n 0 1 1 none,.int .i64 1,.sl (h.n+1) 0 1 1 none]:=by
  rw[ehF,zb (by simp only[H.n_set,H.n_push];omega),ze (by omega),zb (by simp only[H.n_push];omega),zd (by simp only[H.n_push])]
 have g4:(hF.get (h.n+3)).cells=some [.sl (h.n+2) 0 2 2 none]:=by
  rw[ehF,zb (by simp only[H.n_set,H.n_push];omega),zl rfl];rfl
 have g5:hF.get (h.n+4) = .own 0 [.str a]:=by rw[ehF,zd (by simp only[H.n_set,H.n_push])]
 have hsa:SlAt hF (.sl (h.n+4) 0 1 1 none) (strs [a]):=.inr ⟨h.n+4,0,1,none,_,rfl,by omega,by rw[g5];rfl,rfl,by simp[strs]⟩;have hpl:LAt 2 DfC hF (.sl (h.n+2) 0 2 2 none) zab:=by
  refine .inr ⟨h.n+2,0,2,none,_,rfl,by omega,by rw[g3];rfl,by simp[zab],λj x hx=>?_⟩
  match j,hx with
  | 0,hx=>
   cases hx;refine⟨_,rfl,.inr ⟨h.n,0,1,none,_,rfl,by omega,by rw[g1];rfl,by simp,λj x hx=>?_⟩⟩
   match j,hx with
   | 0,hx=>cases hx;exact⟨.nils,rfl,.inl ⟨rfl,rfl⟩⟩
   | j+1,hx=>simp at hx
  | 1,hx=>
   cases hx;refine⟨_,rfl,.inr ⟨h.n+1,0,1,none,_,rfl,by omega,by rw[g2];rfl,by simp,λj x hx=>?_⟩⟩
   match j,hx with
   | 0,hx=>cases hx;exact⟨.nils,rfl,.inl ⟨rfl,rfl⟩⟩
   | j+1,hx=>simp at hx
  | j+2,hx=>simp[zab] at hx
 have hdl:∀d ∈ zab,d.body.length<=9223372036854775807:=λd hd=>by
  have:d=⟨0,[⟨0,0,0,[]⟩]⟩\/d=⟨1,[⟨1,0,0,[]⟩]⟩:=by simpa [zab] using hd
  rcases this with rfl|rfl<;>simp
 have W1:=TS.w152 (β:=β) TN TC T L (m+1) hpl (by simp[zab]) hdl (f:=1) (pa:=0) (res:=b) hsa (by simp;omega) 5;have W2:=λhh=>TB.w146 (β:=β) T (m+1) b a hbl hal (by omega) hh
 have co:zt ((((h.push (.own 0 [.int .i64 0,.int .i64 0,.int .i64 0,.nils])).push (.own 0 [.int .i64 1,.int .i64 0,.int .i64 0,.nils])).push (.own 0 [.int .i64 0,.sl h.n 0 1 1 none,.int .i64 1,.sl (h.n+1) 0 1 1 none])).push (.own 0 [.nils]) |>.get (h.n+1+1+1))=some (0,[.nils]):=by
  rw[zd (by simp only[H.n_push])];rfl
 by_cases hab:mayP a=true/\mayP b=true
 case neg=>
  have hab':¬ (mayP b=true/\mayP a=true):=λhh=>hab ⟨hh.2,hh.1⟩
  rw[zkt hab] at W1;simp only[if_neg hab'] at W2;rw[TL.c236];unfold f236;simp (disch:=first|omega|simp only[zD]<;>omega|assumption) only[↓zR,↓zRM,zR,zRM,reduceAdd,reduceMul,reduceToNat,↓f236_J0,haw,hb1,hb2,hb3,hb4,hb5,hb6,↓hs1,↓hs2,↓hs3,tF,g4];refine W1 _ _ ?_;intro u h1 ⟨e1,eu⟩;subst eu;simp (disch:=first|omega|simp only[zD]<;>omega|assumption) only[↓zR,↓zRM,zR,zRM,reduceAdd,reduceMul,reduceToNat];refine W2 h1 _ _ ?_;intro u h2 ⟨e2,eu⟩;subst eu;simp (disch:=first|omega|simp only[zD]<;>omega|assumption) only[↓zR,↓zRM,zR,zRM,reduceAdd,reduceMul,reduceToNat,T.w16];exact hk _ _ rfl
 case pos=>
  have hab':mayP b=true/\mayP a=true:=⟨hab.2,hab.1⟩
  have hN:=zgT hab.1 hab.2;rw[hN] at W1;simp only[if_pos hab'] at W2;generalize zbq (b.length+1) b a=ls at hN W1 W2;have eqb:∀(x:Bool) (kk:VK β),qEqB false (.bool x) (.bool x) (.mk kk)=kk (.bool true):=λx kk=>by
   show kk (.bool ((x==x) != false))=_;cases x<;>rfl
  rw[TL.c236];unfold f236;simp (disch:=first|omega|simp only[zD]<;>omega|assumption) only[↓zR,↓zRM,zR,zRM,reduceAdd,reduceMul,reduceToNat,↓f236_J0,haw,hb1,hb2,hb3,hb4,hb5,hb6,↓hs1,↓hs2,↓hs3,tF,g4];refine W1 _ _ ?_;intro u h1 ⟨e1,eu⟩;subst eu;simp (disch:=first|omega|simp only[zD]<;>omega|assumption) only[↓zR,↓zRM,zR,zRM,reduceAdd,reduceMul,reduceToNat];refine W2 h1 _ _ ?_;intro u h2 ⟨e2,eu⟩;subst eu;have e12:=e1.trans e2;have n12:=e12.n;have c4:(h2.get (h.n+3)).cells=some [.sl (h.n+2) 0 2 2 none]:=by rw[e12.get _ (by omega)];exact g4
  have W3:=TH.w142 (β:=β) TR TC T (m+1) (h:=h2.push (.own 0 [.str a])) (hpl.ext DfC.stays (e12.push _)) (by simp[zab]) hdl (f:=1) (pa:=0) (res:=b) hbl (av:=.sl h2.n 0 1 1 none) (args:=[a]) (.inr ⟨h2.n,0,1,none,_,rfl,by rw[H.n_push];omega,by rw[zd rfl];rfl,rfl,by simp[strs]⟩) (λx hx=>by rw[List.mem_singleton] at hx;rw[hx];exact hal) (by simp;omega) 5;rw[hN] at W3;simp (disch:=first|omega|simp only[zD]<;>omega|assumption) only[↓zR,↓zRM,zR,zRM,reduceAdd,reduceMul,reduceToNat,↓f236_J19,c4,↓hs3,hb6];refine W3 _ _ ?_;intro u h3 ⟨e3,eu⟩;subst eu;simp (disch:=first|omega|simp only[zD]<;>omega|assumption) only[↓zR,↓zRM,zR,zRM,reduceAdd,reduceMul,reduceToNat,T.w16,eqb];exact hk _ _ rfl
end
end Am.F
