/- Walks: small,of chapter 11;a slice of definitions with one more. -/
import Derived.Test.YtlidemdbimpkaaaDoorAmCp
import Derived.Test.YtlidemdbimpkaaaDoorAmGS11W
import Derived.Test.YtlidemdbimpkaaaDoorAmJi
open Nat (reduceAdd reduceMul)
open Int (reduceToNat)
set_option linter.unusedSimpArgs false
set_option linter.unusedVariables false
namespace Am.F
open Go Am
section
variable {β:Type} {t:ETree}
theorem bs2i(a0 a1:Int)(hh:H)(kk:K β):zP 0 [.int .i64 0,.int .i64 0] 2 [(0,1),(1,1)] [.int .i64 a0,.int .i64 a1] hh (.mk kk)=kk (.sl hh.n 0 2 2 none) (hh.push (.own 0 [.int .i64 a0,.int .i64 a1])):=fBslice_n (λ_=>rfl) hh kk
theorem bs3i(a0 a1 a2:Int)(hh:H)(kk:K β):zP 0 [.int .i64 0,.int .i64 0,.int .i64 0] 3 [(0,1),(1,1),(2,1)] [.int .i64 a0,.int .i64 a1,.int .i64 a2] hh (.mk kk)=kk (.sl hh.n 0 3 3 none) (hh.push (.own 0 [.int .i64 a0,.int .i64 a1,.int .i64 a2])):=fBslice_n (λ_=>rfl) hh kk
theorem bs5x(a0 b0 c0 d0 a1 b1 c1 d1 a2 b2 c2 d2 a3 b3 c3 d3 a4 b4 c4 d4:AV)(hh:H)(kk:K β):zP 0 [.int .i64 0,.int .i64 0,.int .i64 0,.nils,.int .i64 0,.int .i64 0,.int .i64 0,.nils,.int .i64 0,.int .i64 0,.int .i64 0,.nils,.int .i64 0,.int .i64 0,.int .i64 0,.nils,.int .i64 0,.int .i64 0,.int .i64 0,.nils] 5 [(0,4),(4,4),(8,4),(12,4),(16,4)] [.agg [a0,b0,c0,d0],.agg [a1,b1,c1,d1],.agg [a2,b2,c2,d2],.agg [a3,b3,c3,d3],.agg [a4,b4,c4,d4]] hh (.mk kk)=kk (.sl hh.n 0 5 5 none) (hh.push (.own 0 [a0,b0,c0,d0,a1,b1,c1,d1,a2,b2,c2,d2,a3,b3,c3,d3,a4,b4,c4,d4])):=fBslice_n (λ_=>rfl) hh kk
theorem bs8x(a0 b0 c0 d0 a1 b1 c1 d1 a2 b2 c2 d2 a3 b3 c3 d3 a4 b4 c4 d4 a5 b5 c5 d5 a6 b6 c6 d6 a7 b7 c7 d7:AV)(hh:H)(kk:K β):zP 0 [.int .i64 0,.int .i64 0,.int .i64 0,.nils,.int .i64 0,.int .i64 0,.int .i64 0,.nils,.int .i64 0,.int .i64 0,.int .i64 0,.nils,.int .i64 0,.int .i64 0,.int .i64 0,.nils,.int .i64 0,.int .i64 0,.int .i64 0,.nils,.int .i64 0,.int .i64 0,.int .i64 0,.nils,.int .i64 0,.int .i64 0,.int .i64 0,.nils,.int .i64 0,.int .i64 0,.int .i64 0,.nils] 8 [(0,4),(4,4),(8,4),(12,4),(16,4),(20,4),(24,4),(28,4)] [.agg [a0,b0,c0,d0],.agg [a1,b1,c1,d1],.agg [a2,b2,c2,d2],.agg [a3,b3,c3,d3],.agg [a4,b4,c4,d4],.agg [a5,b5,c5,d5],.agg [a6,b6,c6,d6],.agg [a7,b7,c7,d7]] hh (.mk kk)=kk (.sl hh.n 0 8 8 none) (hh.push (.own 0 [a0,b0,c0,d0,a1,b1,c1,d1,a2,b2,c2,d2,a3,b3,c3,d3,a4,b4,c4,d4,a5,b5,c5,d5,a6,b6,c6,d6,a7,b7,c7,d7])):=fBslice_n (λ_=>rfl) hh kk
theorem bs2d(a0 b0 a1 b1:AV)(hh:H)(kk:K β):zP 0 [.int .i64 0,.nils,.int .i64 0,.nils] 2 [(0,2),(2,2)] [.agg [a0,b0],.agg [a1,b1]] hh (.mk kk)=kk (.sl hh.n 0 2 2 none) (hh.push (.own 0 [a0,b0,a1,b1])):=fBslice_n (λ_=>rfl) hh kk
theorem chk2(u:AV)(hu:u.sc=true)(a:Int)(b o l m:Nat)(g:Option Nat)(c:Option β):qChk (.agg [.int .i64 a,.sl b o l m g]) (.agg [.int .i64 a,.sl b o l m g]) (.mk c)=c:=by
 show cond (AV.beq _ _) c none=c;have:AV.beq (.agg [.int .i64 a,.sl b o l m g]) (.agg [.int .i64 a,.sl b o l m g])=true:=by simp[AV.beq,AV.beqs]
 rw[this];rfl
theorem GS11.w171(TS:GS11 t)(n:Nat)(h:H):Sp (β:=β) (ze t stdI (n+1) (.fn 171 []) [] h) λu h'=>Ext h h'/\∃b,u = .agg [.int .i64 2,.sl b 0 8 8 none]:=by
 intro k R hk;rw[TS.c171];unfold f171;simp (disch:=first|omega|simp only[zD]<;>omega|assumption) only[↓zR,↓zRM,zR,zRM,reduceAdd,reduceMul,reduceToNat,↓bs2i,↓bs3i,↓bs8x];exact hk _ _ ⟨(by repeat (first|exact Ext.refl _|assumption|refine Ext.push ?_ _|refine Ext.set ?_ (by first|omega|(simp only[H.n_push,H.n_set];omega)) _)),_,rfl⟩
theorem GS11.w143(TS:GS11 t)(n:Nat)(h:H):Sp (β:=β) (ze t stdI (n+2) (.fn 143 []) [] h) λu h'=>Ext h h'/\∃b,u = .agg [.sl b 0 2 2 none]:=by
 intro k R hk;rw[TS.c143];unfold f143;simp (disch:=first|omega|simp only[zD]<;>omega|assumption) only[↓zR,↓zRM,zR,zRM,reduceAdd,reduceMul,reduceToNat,↓bs2i,↓bs5x];refine GS11.w171 TS n _ _ _ ?_;intro u h2 ⟨e2,b,eu⟩;subst eu;have en:=e2.n;simp only[H.n_push,H.n_set] at en;have c:(h2.get (h.n+1+1+1+1)).cells=some [.int .i64 0,.sl (h.n+1+1+1) 0 5 5 none]:=by
  rw[e2.get _ (by simp only[H.n_push,H.n_set];omega),zB rfl];rfl
 have c0:zaG (h2.get h.n)=some (0,[.nils]):=by
  rw[e2.get _ (by simp only[H.n_push,H.n_set];omega),zg (by omega),zc (by simp only[H.n_push];omega),zc (by simp only[H.n_push];omega),zc (by simp only[H.n_push];omega),zc (by simp only[H.n_push];omega),zf rfl];rfl
 have ch:=λ(cc:Option β)=>chk2 (β:=β) .nils rfl 0 (h.n+1+1+1) 0 5 5 none cc
 have e02:Ext h h2:=(by
  refine Ext.trans ?_ e2;exact (by repeat (first|exact Ext.refl _|assumption|refine Ext.push ?_ _|refine Ext.set ?_ (by first|omega|(simp only[H.n_push,H.n_set];omega)) _)))
 simp (disch:=first|omega|simp only[zD]<;>omega|assumption) only[↓zR,↓zRM,zR,zRM,reduceAdd,reduceMul,reduceToNat,c,c0,↓bs2d,chk2 .nils rfl];exact hk _ _ ⟨(by repeat (first|exact Ext.refl _|assumption|refine Ext.push ?_ _|refine Ext.set ?_ (by first|omega|(simp only[H.n_push,H.n_set];omega)) _)),_,rfl⟩
end
end Am.F
