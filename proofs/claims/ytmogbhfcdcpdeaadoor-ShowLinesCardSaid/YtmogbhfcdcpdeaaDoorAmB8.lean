/- Walks: the small program of chapter 8's laws. -/
import Derived.Test.YtmogbhfcdcpdeaaDoorAmJd
import Derived.Test.YtmogbhfcdcpdeaaDoorAmGB8W
open Nat (reduceAdd reduceMul)
open Int (reduceToNat)
set_option linter.unusedSimpArgs false
set_option linter.unusedVariables false
namespace Am.F
open Go Am
section
variable {β:Type} {t:ETree}
theorem GB8.w267(TB:GB8 t)(n:Nat)(hn:2<=n)(h:H):Sp (β:=β) (zc t stdI n (.fn 267 []) [] h) λu h'=>Ext h h'/\∃c,u = .agg [.int .i64 2,.sl c 0 8 8 none]:=by
 intro k R hk;obtain⟨m,rfl⟩:∃m,n=m+1:=⟨n-1,by omega⟩
 have hb267_0:∀(kk:VK β),zx [.int .i64 0,.int .i64 0,.int .i64 0,.nils] [(0,1)] [.int .i64 1] (.mk kk)=kk (.agg [.int .i64 1,.int .i64 0,.int .i64 0,.nils]):=λkk=>rfl
 have hb267_1:∀(kk:VK β),zx [.int .i64 0,.int .i64 0,.int .i64 0,.nils] [(0,1),(1,1)] [.int .i64 1,.int .i64 3] (.mk kk)=kk (.agg [.int .i64 1,.int .i64 3,.int .i64 0,.nils]):=λkk=>rfl
 have hb267_2:∀(kk:VK β),zx [.int .i64 0,.int .i64 0,.int .i64 0,.nils] [(0,1),(1,1)] [.int .i64 1,.int .i64 1] (.mk kk)=kk (.agg [.int .i64 1,.int .i64 1,.int .i64 0,.nils]):=λkk=>rfl
 have hb267_3:∀(hh:H) (kk:K β),zDq9 0 [.int .i64 0,.int .i64 0] 2 [(0,1),(1,1)] [.int .i64 1,.int .i64 2] hh (.mk kk)=kk (.sl hh.n 0 2 2 none) (hh.push (.own 0 [.int .i64 1,.int .i64 2])):=λhh kk=>fBslice_n (λ_=>rfl) hh kk
 have hb267_4:∀(c704:Nat) (kk:VK β),zx [.int .i64 0,.int .i64 0,.int .i64 0,.nils] [(0,1),(3,1)] [.int .i64 4,.sl c704 0 2 2 none] (.mk kk)=kk (.agg [.int .i64 4,.int .i64 0,.int .i64 0,.sl c704 0 2 2 none]):=λc704 kk=>rfl
 have hb267_5:∀(kk:VK β),zx [.int .i64 0,.int .i64 0,.int .i64 0,.nils] [(0,1)] [.int .i64 1] (.mk kk)=kk (.agg [.int .i64 1,.int .i64 0,.int .i64 0,.nils]):=λkk=>rfl
 have hb267_6:∀(kk:VK β),zx [.int .i64 0,.int .i64 0,.int .i64 0,.nils] [(0,1),(1,1)] [.int .i64 1,.int .i64 1] (.mk kk)=kk (.agg [.int .i64 1,.int .i64 1,.int .i64 0,.nils]):=λkk=>rfl
 have hb267_7:∀(hh:H) (kk:K β),zDq9 0 [.int .i64 0,.int .i64 0] 2 [(0,1),(1,1)] [.int .i64 4,.int .i64 5] hh (.mk kk)=kk (.sl hh.n 0 2 2 none) (hh.push (.own 0 [.int .i64 4,.int .i64 5])):=λhh kk=>fBslice_n (λ_=>rfl) hh kk
 have hb267_8:∀(c708:Nat) (kk:VK β),zx [.int .i64 0,.int .i64 0,.int .i64 0,.nils] [(0,1),(3,1)] [.int .i64 4,.sl c708 0 2 2 none] (.mk kk)=kk (.agg [.int .i64 4,.int .i64 0,.int .i64 0,.sl c708 0 2 2 none]):=λc708 kk=>rfl
 have hb267_9:∀(hh:H) (kk:K β),zDq9 0 [.int .i64 0,.int .i64 0,.int .i64 0] 3 [(0,1),(1,1),(2,1)] [.int .i64 0,.int .i64 3,.int .i64 6] hh (.mk kk)=kk (.sl hh.n 0 3 3 none) (hh.push (.own 0 [.int .i64 0,.int .i64 3,.int .i64 6])):=λhh kk=>fBslice_n (λ_=>rfl) hh kk
 have hb267_10:∀(c710:Nat) (kk:VK β),zx [.int .i64 0,.int .i64 0,.int .i64 0,.nils] [(0,1),(1,1),(2,1),(3,1)] [.int .i64 5,.int .i64 7,.int .i64 2,.sl c710 0 3 3 none] (.mk kk)=kk (.agg [.int .i64 5,.int .i64 7,.int .i64 2,.sl c710 0 3 3 none]):=λc710 kk=>rfl
 have hb267_11:∀(c704 c708 c710:Nat) (hh:H) (kk:K β),zDq9 0 [.int .i64 0,.int .i64 0,.int .i64 0,.nils,.int .i64 0,.int .i64 0,.int .i64 0,.nils,.int .i64 0,.int .i64 0,.int .i64 0,.nils,.int .i64 0,.int .i64 0,.int .i64 0,.nils,.int .i64 0,.int .i64 0,.int .i64 0,.nils,.int .i64 0,.int .i64 0,.int .i64 0,.nils,.int .i64 0,.int .i64 0,.int .i64 0,.nils,.int .i64 0,.int .i64 0,.int .i64 0,.nils] 8 [(0,4),(4,4),(8,4),(12,4),(16,4),(20,4),(24,4),(28,4)] [.agg [.int .i64 1,.int .i64 0,.int .i64 0,.nils],.agg [.int .i64 1,.int .i64 3,.int .i64 0,.nils],.agg [.int .i64 1,.int .i64 1,.int .i64 0,.nils],.agg [.int .i64 4,.int .i64 0,.int .i64 0,.sl c704 0 2 2 none],.agg [.int .i64 1,.int .i64 0,.int .i64 0,.nils],.agg [.int .i64 1,.int .i64 1,.int .i64 0,.nils],.agg [.int .i64 4,.int .i64 0,.int .i64 0,.sl c708 0 2 2 none],.agg [.int .i64 5,.int .i64 7,.int .i64 2,.sl c710 0 3 3 none]] hh (.mk kk)=kk (.sl hh.n 0 8 8 none) (hh.push (.own 0 [.int .i64 1,.int .i64 0,.int .i64 0,.nils,.int .i64 1,.int .i64 3,.int .i64 0,.nils,.int .i64 1,.int .i64 1,.int .i64 0,.nils,.int .i64 4,.int .i64 0,.int .i64 0,.sl c704 0 2 2 none,.int .i64 1,.int .i64 0,.int .i64 0,.nils,.int .i64 1,.int .i64 1,.int .i64 0,.nils,.int .i64 4,.int .i64 0,.int .i64 0,.sl c708 0 2 2 none,.int .i64 5,.int .i64 7,.int .i64 2,.sl c710 0 3 3 none])):=λc704 c708 c710 hh kk=>fBslice_n (λ_=>rfl) hh kk
 have hb267_12:∀(c712:Nat) (kk:VK β),zx [.int .i64 0,.nils] [(0,1),(1,1)] [.int .i64 2,.sl c712 0 8 8 none] (.mk kk)=kk (.agg [.int .i64 2,.sl c712 0 8 8 none]):=λc712 kk=>rfl
 rw[TB.c267];unfold f267;simp (disch:=first|omega|simp only[zD]<;>omega|assumption) only[↓zR,↓zRM,zR,zRM,reduceAdd,reduceMul,reduceToNat,hb267_0,hb267_1,hb267_2,↓hb267_3,hb267_4,hb267_5,hb267_6,↓hb267_7,hb267_8,↓hb267_9,hb267_10,↓hb267_11,hb267_12];exact hk _ _ ⟨((((((Ext.refl h).push _).push _).push _).push _).push _).set (Nat.le_refl _) _,_,rfl⟩
theorem GB8.w253(TB:GB8 t)(n:Nat)(hn:3<=n)(h:H):Sp (β:=β) (zc t stdI n (.fn 253 []) [] h) λu h'=>Ext h h'/\∃c,u = .agg [.sl c 0 2 2 none]:=by
 intro k R hk;obtain⟨m,rfl⟩:∃m,n=m+1:=⟨n-1,by omega⟩
 have hb253_0:∀(kk:VK β),zx [.int .i64 0,.int .i64 0,.int .i64 0,.nils] [(0,1)] [.int .i64 7] (.mk kk)=kk (.agg [.int .i64 7,.int .i64 0,.int .i64 0,.nils]):=λkk=>rfl
 have hb253_1:∀(kk:VK β),zx [.int .i64 0,.int .i64 0,.int .i64 0,.nils] [(1,1)] [.int .i64 4] (.mk kk)=kk (.agg [.int .i64 0,.int .i64 4,.int .i64 0,.nils]):=λkk=>rfl
 have hb253_2:∀(hh:H) (kk:K β),zDq9 0 [.int .i64 0,.int .i64 0] 2 [(0,1),(1,1)] [.int .i64 0,.int .i64 1] hh (.mk kk)=kk (.sl hh.n 0 2 2 none) (hh.push (.own 0 [.int .i64 0,.int .i64 1])):=λhh kk=>fBslice_n (λ_=>rfl) hh kk
 have hb253_3:∀(c303:Nat) (kk:VK β),zx [.int .i64 0,.int .i64 0,.int .i64 0,.nils] [(0,1),(1,1),(3,1)] [.int .i64 3,.int .i64 7,.sl c303 0 2 2 none] (.mk kk)=kk (.agg [.int .i64 3,.int .i64 7,.int .i64 0,.sl c303 0 2 2 none]):=λc303 kk=>rfl
 have hb253_4:∀(kk:VK β),zx [.int .i64 0,.int .i64 0,.int .i64 0,.nils] [(1,1)] [.int .i64 5] (.mk kk)=kk (.agg [.int .i64 0,.int .i64 5,.int .i64 0,.nils]):=λkk=>rfl
 have hb253_5:∀(hh:H) (kk:K β),zDq9 0 [.int .i64 0,.int .i64 0] 2 [(0,1),(1,1)] [.int .i64 2,.int .i64 3] hh (.mk kk)=kk (.sl hh.n 0 2 2 none) (hh.push (.own 0 [.int .i64 2,.int .i64 3])):=λhh kk=>fBslice_n (λ_=>rfl) hh kk
 have hb253_6:∀(c306:Nat) (kk:VK β),zx [.int .i64 0,.int .i64 0,.int .i64 0,.nils] [(0,1),(1,1),(3,1)] [.int .i64 2,.int .i64 1,.sl c306 0 2 2 none] (.mk kk)=kk (.agg [.int .i64 2,.int .i64 1,.int .i64 0,.sl c306 0 2 2 none]):=λc306 kk=>rfl
 have hb253_7:∀(c303 c306:Nat) (hh:H) (kk:K β),zDq9 0 [.int .i64 0,.int .i64 0,.int .i64 0,.nils,.int .i64 0,.int .i64 0,.int .i64 0,.nils,.int .i64 0,.int .i64 0,.int .i64 0,.nils,.int .i64 0,.int .i64 0,.int .i64 0,.nils,.int .i64 0,.int .i64 0,.int .i64 0,.nils] 5 [(0,4),(4,4),(8,4),(12,4),(16,4)] [.agg [.int .i64 7,.int .i64 0,.int .i64 0,.nils],.agg [.int .i64 0,.int .i64 4,.int .i64 0,.nils],.agg [.int .i64 3,.int .i64 7,.int .i64 0,.sl c303 0 2 2 none],.agg [.int .i64 0,.int .i64 5,.int .i64 0,.nils],.agg [.int .i64 2,.int .i64 1,.int .i64 0,.sl c306 0 2 2 none]] hh (.mk kk)=kk (.sl hh.n 0 5 5 none) (hh.push (.own 0 [.int .i64 7,.int .i64 0,.int .i64 0,.nils,.int .i64 0,.int .i64 4,.int .i64 0,.nils,.int .i64 3,.int .i64 7,.int .i64 0,.sl c303 0 2 2 none,.int .i64 0,.int .i64 5,.int .i64 0,.nils,.int .i64 2,.int .i64 1,.int .i64 0,.sl c306 0 2 2 none])):=λc303 c306 hh kk=>fBslice_n (λ_=>rfl) hh kk
 have hb253_8:∀(c308:Nat) (kk:VK β),zx [.int .i64 0,.nils] [(1,1)] [.sl c308 0 5 5 none] (.mk kk)=kk (.agg [.int .i64 0,.sl c308 0 5 5 none]):=λc308 kk=>rfl
 have hb253_9:∀(c308 c312:Nat) (hh:H) (kk:K β),zDq9 0 [.int .i64 0,.nils,.int .i64 0,.nils] 2 [(0,2),(2,2)] [.agg [.int .i64 0,.sl c308 0 5 5 none],.agg [.int .i64 2,.sl c312 0 8 8 none]] hh (.mk kk)=kk (.sl hh.n 0 2 2 none) (hh.push (.own 0 [.int .i64 0,.sl c308 0 5 5 none,.int .i64 2,.sl c312 0 8 8 none])):=λc308 c312 hh kk=>fBslice_n (λ_=>rfl) hh kk
 have hb253_10:∀(c314:Nat) (kk:VK β),zx [.nils] [(0,1)] [.sl c314 0 2 2 none] (.mk kk)=kk (.agg [.sl c314 0 2 2 none]):=λc314 kk=>rfl
 obtain⟨hA,eA⟩:∃hA,hA=((((((h.push (.own 0 [.nils])).push (.own 0 [.int .i64 0,.int .i64 1])).push (.own 0 [.int .i64 2,.int .i64 3])).push (.own 0 [.int .i64 7,.int .i64 0,.int .i64 0,.nils,.int .i64 0,.int .i64 4,.int .i64 0,.nils,.int .i64 3,.int .i64 7,.int .i64 0,.sl (h.n+1) 0 2 2 none,.int .i64 0,.int .i64 5,.int .i64 0,.nils,.int .i64 2,.int .i64 1,.int .i64 0,.sl (h.n+1+1) 0 2 2 none])).push (.own 0 [.int .i64 0,.nils])).set (h.n+1+1+1+1) (.own 0 [.int .i64 0,.sl (h.n+1+1+1) 0 5 5 none])):=⟨_,rfl⟩
 have tA:((((((h.push (.own 0 [.nils])).push (.own 0 [.int .i64 0,.int .i64 1])).push (.own 0 [.int .i64 2,.int .i64 3])).push (.own 0 [.int .i64 7,.int .i64 0,.int .i64 0,.nils,.int .i64 0,.int .i64 4,.int .i64 0,.nils,.int .i64 3,.int .i64 7,.int .i64 0,.sl (h.n+1) 0 2 2 none,.int .i64 0,.int .i64 5,.int .i64 0,.nils,.int .i64 2,.int .i64 1,.int .i64 0,.sl (h.n+1+1) 0 2 2 none])).push (.own 0 [.int .i64 0,.nils])).set (h.n+1+1+1+1) (.own 0 [.int .i64 0,.sl (h.n+1+1+1) 0 5 5 none]))=hA:=eA.symm;have nA:hA.n=h.n+5:=by rw[eA];simp only[H.n_set,H.n_push]
 have extA:Ext h hA:=by rw[eA];exact (((((((Ext.refl h).push _).push _).push _).push _).push _).set (by omega) _)
 have g0:hA.get h.n = .own 0 [.nils]:=by
  rw[eA,zO (by omega),zj (by simp only[H.n_push];omega),zj (by simp only[H.n_push];omega),zj (by simp only[H.n_push];omega),zj (by simp only[H.n_push];omega),zg rfl]
 have g4:hA.get (h.n+1+1+1+1) = .own 0 [.int .i64 0,.sl (h.n+1+1+1) 0 5 5 none]:=by
  rw[eA,zas rfl]
 have hpn:((((h.push (.own 0 [.nils])).push (.own 0 [.int .i64 0,.int .i64 1])).push (.own 0 [.int .i64 2,.int .i64 3])).push (.own 0 [.int .i64 7,.int .i64 0,.int .i64 0,.nils,.int .i64 0,.int .i64 4,.int .i64 0,.nils,.int .i64 3,.int .i64 7,.int .i64 0,.sl (h.n+1) 0 2 2 none,.int .i64 0,.int .i64 5,.int .i64 0,.nils,.int .i64 2,.int .i64 1,.int .i64 0,.sl (h.n+1+1) 0 2 2 none])).n=h.n+1+1+1+1:=by simp only[H.n_push]
 have hck:∀(x:AV) (cc:Option β),qChk (.agg [.int .i64 0,.sl (h.n+1+1+1) 0 5 5 none]) (.agg [.int .i64 0,.sl (h.n+1+1+1) 0 5 5 none]) (.mk cc)=cc:=λx cc=>by
  show cond (AV.beq _ _) cc none=cc;have:AV.beq (.agg [.int .i64 0,.sl (h.n+1+1+1) 0 5 5 none]) (.agg [.int .i64 0,.sl (h.n+1+1+1) 0 5 5 none])=true:=by simp[AV.beq,AV.beqs]
  rw[this];rfl
 have tk:List.take 2 (List.drop 0 [AV.int .i64 0,AV.sl (h.n+1+1+1) 0 5 5 none])=[AV.int .i64 0,AV.sl (h.n+1+1+1) 0 5 5 none]:=rfl;rw[TB.c253];unfold f253;simp (disch:=first|omega|simp only[zD]<;>omega|assumption) only[↓zR,↓zRM,zR,zRM,reduceAdd,reduceMul,reduceToNat,hb253_0,hb253_1,↓hb253_2,hb253_3,hb253_4,↓hb253_5,hb253_6,↓hb253_7,hb253_8,↓hb253_9,hb253_10,tA,hpn,tk];refine TB.w267 m (by omega) hA _ _ ?_;intro u h1 ⟨e1,c312,eu⟩;subst eu;have k0:zef (h1.get h.n)=some (0,[.nils]):=by rw[e1.get _ (by omega),g0];rfl
 have k4:(h1.get (h.n+1+1+1+1)).cells=some [.int .i64 0,.sl (h.n+1+1+1) 0 5 5 none]:=by rw[e1.get _ (by omega),g4];rfl
 have hlt:=e1.n;simp (disch:=first|omega|simp only[zD]<;>omega|assumption) only[↓zR,↓zRM,zR,zRM,reduceAdd,reduceMul,reduceToNat,hb253_0,hb253_1,↓hb253_2,hb253_3,hb253_4,↓hb253_5,hb253_6,↓hb253_7,hb253_8,↓hb253_9,hb253_10,hpn,k4,k0,tk,hck .any];exact hk _ _ ⟨((extA.trans e1).push _).set (Nat.le_refl _) _,_,rfl⟩
end
end Am.F
