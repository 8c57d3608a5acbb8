/- The law ShowLines answers true: no condition. -/
import Derived.Test.YtmogbhfcdcpdeaaDoorAmZslLink
import Derived.Test.YtmogbhfcdcpdeaaDoorAmJd
import Derived.Test.YtmogbhfcdcpdeaaDoorCards
import Derived.Test.YtmogbhfcdcpdeaaDoorTie
import Derived.WalkKit
import Derived.ProofKit
import Derived.Deep.DeepHandedRow
import Derived.Test.YtmogbhfcdcpdeaaDoorAmSh2
import Derived.Test.YtmogbhfcdcpdeaaDoorAmRep
import Derived.Test.YtmogbhfcdcpdeaaDoorAmOpen
set_option linter.unusedVariables false
set_option maxRecDepth 100000
namespace Go.Proofs.YtmogbhfcdcpdeaaDoor.showLines
open Go.ChangeShapes Go.WideShapes Go.ChangeAt Go.RowKit Go.ChangeMaps
theorem own:ownKnob Tryd.prog.godebug=none:=by kernel_rfl
theorem gTab:Tryd.prog.globalNamed "internal/strconv.uint64pow10"=some 0:=by kernel_rfl
theorem gTabType:(Tryd.prog.globals[0]?).map (·.type)=some 110:=by kernel_rfl
theorem cells110:Tryd.prog.cellsOf 110=20:=by kernel_rfl
theorem cells61:Tryd.prog.cellsOf 61=1:=by kernel_rfl
theorem good{W:World}(h:laidMetH Tryd.prog Rows.showLinesRow.laid W):Am.L.GG Tryd.prog (Am.zah W):=by
 have h0:laidMet Tryd.prog Rows.showLinesRow.laid W:=cast (by kernel_rfl) h;have h1:=Am.za7 h0;have h2:=Am.za7 h1;have h3:=Am.za7 h2;have h4:=Am.za7 h3;exact Am.gtab_of gTab (Lib.tabIs_of_head gTab gTabType Tryd.underlying110 Tryd.underlying61 cells61 cells110 h2)
theorem lower{W:World}(h:Am.L.GG Tryd.prog (Am.zah W)):0<W.heap.size:=by
 have h1:Am.GTab Tryd.prog (Am.zah W):=by first|exact h.1|exact h
 obtain⟨⟨g,_,hg⟩,_⟩:=h1;exact Nat.lt_of_le_of_lt (Nat.zero_le _) hg
def shape:List Am.Ty:=[Am.zdL]
open Am Am.F in
theorem out(S:St)(h:F.H)(args:List AV)(xs:List Dat)(ha:F.Abs h S)(hr:zbQ S shape args xs)(hc:True):∃n,zc tab stdI n (.fn (L.kf 6) []) args h (λv _=>some v)=some (.bool true):=by
 obtain⟨a0,u0,x0,y0,rfl,rfl,⟨us,rfl,r0⟩,hr⟩:=hr;obtain⟨rfl,rfl⟩:=hr;obtain⟨p,⟨pv,hpv,hp⟩,pd,hpl⟩:=Am.Rep.prog ha r0;cases hpv;have hfit:=pd.fit;exact⟨2200,gL8.w303 gS8 gB8 gC gA gi gsp gaw 2200 (Nat.le_refl _) hp (Nat.le_trans hpl (by decide)) (λd hd=>Nat.le_trans (hfit d hd).1 (by decide)) _ _ λv h' e=>by rw[e]⟩
theorem fits:Am.FitsL Tryd.prog shape Tryd.f6.params.toList:=by
 rw[Tryd.params6];exact⟨24,_,rfl,⟨_,Tryd.underlying24,by kernel_rfl,⟨_,_,rfl,rfl,by kernel_rfl,⟨43,Tryd.underlying22,by kernel_rfl,by decide,⟨_,Tryd.underlying43,by kernel_rfl,⟨_,_,rfl,rfl,by kernel_rfl,Tryd.underlying3,⟨_,_,rfl,rfl,by kernel_rfl,⟨40,Tryd.underlying41,by kernel_rfl,by decide,⟨_,Tryd.underlying40,by kernel_rfl,⟨_,_,rfl,rfl,by kernel_rfl,Tryd.underlying3,⟨_,_,rfl,rfl,by kernel_rfl,Tryd.underlying3,⟨_,_,rfl,rfl,by kernel_rfl,Tryd.underlying3,⟨_,_,rfl,rfl,by kernel_rfl,⟨3,Tryd.underlying38,by kernel_rfl,by decide,Tryd.underlying3⟩,rfl⟩⟩⟩⟩⟩⟩,rfl⟩⟩⟩⟩,rfl⟩⟩,rfl⟩
theorem contract(H:Type)(enc:TypeId × Value->H)(W:World)(base:Nat)(args:Array Value)(ds gs:List (DataW H))(before:List MemPlace)
  (hval:∀(j:Nat) t v,Tryd.f6.params[j]?=some t->args[j]?=some v->Value.okWide Tryd.prog W .any base t v)
  (hW:DataW.Whole enc Tryd.prog Tryd.f6.params.toList Rows.showLinesSpec.vars false W args.toList ds gs before) (hL:laidMetH Tryd.prog Rows.showLinesRow.laid W) :
  Calls Tryd.prog 6 args W λe W'=>∃v,e = .returned v/\Rows.showLinesSpec.post enc Tryd.prog Tryd.f6 false true false false W args v W':=by
 refine Am.zer (kf:=Am.L.kf) (kt:=Am.L.kt) Am.L.zgq Am.L.link Am.L.oks Am.F.iok (tys:=shape) (cond:=λ_=>True) (rt:=4) (by kernel_rfl) Tryd.underlying4 fits (by kernel_rfl)
  (of_decide_eq_true (by rw[Tryd.params6];kernel_rfl)) rfl ?_ out hval hW (good hL) (lower (good hL)) ?_
 ·intro ds hd
  match ds,hd with
  | [_],_=>rfl
 ·exact λ_ _=>trivial
def put2(o:Obj):Obj:=match o with
 | .cells _ t frozen=>.cells #[.int .u8 0,.int .u8 1,.int .u8 28,.int .u8 2,.int .u8 29,.int .u8 14,.int .u8 24,.int .u8 3,.int .u8 30,.int .u8 22,.int .u8 20,.int .u8 15,.int .u8 25,.int .u8 17,.int .u8 4,.int .u8 8,.int .u8 31,.int .u8 27,.int .u8 13,.int .u8 23,.int .u8 21,.int .u8 19,.int .u8 16,.int .u8 7,.int .u8 26,.int .u8 12,.int .u8 18,.int .u8 6,.int .u8 11,.int .u8 5,.int .u8 10,.int .u8 9] t frozen
 | o=>o
def put3(o:Obj):Obj:=match o with
 | .cells _ t frozen=>.cells #[.int .u8 0,.int .u8 1,.int .u8 56,.int .u8 2,.int .u8 57,.int .u8 49,.int .u8 28,.int .u8 3,.int .u8 61,.int .u8 58,.int .u8 42,.int .u8 50,.int .u8 38,.int .u8 29,.int .u8 17,.int .u8 4,.int .u8 62,.int .u8 47,.int .u8 59,.int .u8 36,.int .u8 45,.int .u8 43,.int .u8 51,.int .u8 22,.int .u8 53,.int .u8 39,.int .u8 33,.int .u8 30,.int .u8 24,.int .u8 18,.int .u8 12,.int .u8 5,.int .u8 63,.int .u8 55,.int .u8 48,.int .u8 27,.int .u8 60,.int .u8 41,.int .u8 37,.int .u8 16,.int .u8 46,.int .u8 35,.int .u8 44,.int .u8 21,.int .u8 52,.int .u8 32,.int .u8 23,.int .u8 11,.int .u8 54,.int .u8 26,.int .u8 40,.int .u8 15,.int .u8 34,.int .u8 20,.int .u8 31,.int .u8 10,.int .u8 25,.int .u8 14,.int .u8 19,.int .u8 9,.int .u8 13,.int .u8 8,.int .u8 7,.int .u8 6] t frozen
 | o=>o
def put0(o:Obj):Obj:=match o with
 | .cells _ t frozen=>.cells #[.int .u64 1,.int .u64 10,.int .u64 100,.int .u64 1000,.int .u64 10000,.int .u64 100000,.int .u64 1000000,.int .u64 10000000,.int .u64 100000000,.int .u64 1000000000,.int .u64 10000000000,.int .u64 100000000000,.int .u64 1000000000000,.int .u64 10000000000000,.int .u64 100000000000000,.int .u64 1000000000000000,.int .u64 10000000000000000,.int .u64 100000000000000000,.int .u64 1000000000000000000,.int .u64 10000000000000000000] t frozen
 | o=>o
def put5(o:Obj):Obj:=match o with
 | .cells _ t frozen=>.cells #[.int .u8 128,.int .u8 191,.int .u8 160,.int .u8 191,.int .u8 128,.int .u8 159,.int .u8 144,.int .u8 191,.int .u8 128,.int .u8 143,.int .u8 0,.int .u8 0,.int .u8 0,.int .u8 0,.int .u8 0,.int .u8 0,.int .u8 0,.int .u8 0,.int .u8 0,.int .u8 0,.int .u8 0,.int .u8 0,.int .u8 0,.int .u8 0,.int .u8 0,.int .u8 0,.int .u8 0,.int .u8 0,.int .u8 0,.int .u8 0,.int .u8 0,.int .u8 0] t frozen
 | o=>o
noncomputable def put4(o:Obj):Obj:=match o with
 | .cells _ t frozen=>.cells (Go.Pinned.utf8FirstZ.map λ(n:Nat)=>Value.int .u8 (n:Int)).toArray t frozen
 | o=>o
noncomputable def laidWorld(os:Os):World :=
 { World.holding Tryd.prog os ⟨#[],#[],[]⟩ with heap:=((((((World.holding Tryd.prog os ⟨#[],#[],[]⟩).heap.modify 2 put2).modify 3 put3).modify 0 put0).modify 5 put5).modify 4 put4) }
theorem laid_met(os:Os):laidMet Tryd.prog Rows.showLinesRow.laid ((laidWorld os).forCall (λ_ _=>0) ⟨#[],#[.agg #[.slice none 0 0]],[]⟩).memory :=
 laidMet_of_run' 8 (by kernel_rfl) (by kernel_rfl)
theorem reads(os:Os){H:Type}(enc:TypeId × Value->H):∃places,DataW.whole enc Tryd.prog ((laidWorld os).forCall (λ_ _=>0) ⟨#[],#[.agg #[.slice none 0 0]],[]⟩).memory Tryd.f6.params.toList Rows.showLinesSpec.vars false #[.agg #[.slice none 0 0]].toList 8=some ([.agg [.nil]],[],places) :=
 ⟨[],by kernel_rfl⟩
theorem lifted(os:Os)(started:os.Started)(H:Type)(enc:TypeId × Value->H)(F:Stop.Interp) :
  ReturnsInHanded {} Tryd.checked os 6 .any ((OpenSpec.ofChange Rows.showLinesSpec).preRow enc Tryd.prog Tryd.f6 Rows.showLinesRow.domain false Rows.showLinesRow.laid) (((OpenSpec.ofChange Rows.showLinesSpec).at F).post enc Tryd.prog Tryd.f6 false true false false):=by
 obtain⟨places,hx⟩:=reads os enc;refine returnsInHanded_of_row (C:=Tryd.checked) (s:=(OpenSpec.ofChange Rows.showLinesSpec)) own started (by kernel_rfl) Tryd.func6
  (witness_row_at (enc:=enc) (C:=Tryd.checked) false (laidWorld os) #[.agg #[.slice none 0 0]] rfl (by kernel_rfl) (by kernel_rfl) (by kernel_rfl)
   (OpenSpec.preRow_of_cond 8 hx (by kernel_rfl) (λk hk=>by cases hk) (by kernel_rfl) (laid_met os))) ?_
 intro W base args ds gs before hval hW _ _ _ hL _ _;exact contract H enc W base args ds gs before hval hW hL
theorem said:Rows.ShowLinesSaid :=
 OpenClaim.holds_of_cond 6 Tryd.f6 rfl rfl rfl rfl rfl rfl rfl ⟨rfl,rfl,rfl,rfl,rfl⟩ rfl rfl rfl rfl rfl (by kernel_rfl) Tryd.func6 (by kernel_rfl)
  (of_decide_eq_true (by kernel_rfl)) (by unfold Func.isWrapper;first|(rw[if_pos (by decide +kernel)];kernel_rfl)|(rw[if_neg (by decide +kernel)];exact⟨rfl,rfl⟩))
  (λos started H enc _ F=>by rw[OpenClaim.pre_eq_preRow];exact lifted os started H enc F)
theorem plain(f:FuncId)(fn:Func)(hf:Tryd.pinned.checked.prog.funcNamed "sleuth/sleuthlaw8.ShowLines"=some f)(hfn:Tryd.pinned.checked.prog.funcs[f]?=some fn) :
  false=Tryd.pinned.checked.prog.looks []/\∀(j:Nat) t,fn.params[j]?=some t->Tryd.pinned.checked.prog.wantsStandIn t=false:=by
 obtain rfl:f=6:=Option.some.inj ((show Tryd.prog.funcNamed "sleuth/sleuthlaw8.ShowLines"=some 6 by kernel_rfl).symm.trans hf) |>.symm
 obtain rfl:fn=Tryd.f6:=(Option.some.inj (Tryd.func6.symm.trans hfn)).symm;refine⟨by kernel_rfl,λj t ht=>?_⟩;rw[Tryd.params6] at ht;have hm:=Array.mem_of_getElem? ht;simp only[List.mem_toArray,List.mem_cons,List.not_mem_nil,or_false] at hm;subst hm;exact (show Tryd.prog.wantsStandIn 24=false by kernel_rfl)
theorem card:Rows.ShowLinesCardSaid :=
 Claim7.holds_tied_plain_at .later [] _ _ _ _ said (λ_ h=>by cases h) (by kernel_rfl) (λ_ h=>by cases h) showLines_row_tie rfl ⟨rfl,rfl⟩ (by kernel_rfl) rfl plain (by kernel_rfl)
end Go.Proofs.YtmogbhfcdcpdeaaDoor.showLines
