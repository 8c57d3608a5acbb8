/- The law ObserveAll answers true: no condition. -/
import Derived.Test.YtginckfdokjjpaaDoorAmZobaLink
import Derived.Test.YtginckfdokjjpaaDoorAmJd
import Derived.Test.YtginckfdokjjpaaDoorCards
import Derived.Test.YtginckfdokjjpaaDoorTie
import Derived.WalkKit
import Derived.ProofKit
import Derived.Deep.DeepHandedRow
import Derived.Test.YtginckfdokjjpaaDoorAmL23
import Derived.Test.YtginckfdokjjpaaDoorAmRep
import Derived.Test.YtginckfdokjjpaaDoorAmOpen
set_option linter.unusedVariables false
set_option maxRecDepth 100000
namespace Go.Proofs.YtginckfdokjjpaaDoor.observeAll
open Go.ChangeShapes Go.WideShapes Go.ChangeAt Go.RowKit Go.ChangeMaps
theorem own:ownKnob Tryd.prog.godebug=none:=by kernel_rfl
theorem gTab:Tryd.prog.globalNamed "internal/strconv.uint64pow10"=some 0:=by kernel_rfl
theorem gTabType:(Tryd.prog.globals[0]?).map (·.type)=some 107:=by kernel_rfl
theorem cells107:Tryd.prog.cellsOf 107=20:=by kernel_rfl
theorem cells62:Tryd.prog.cellsOf 62=1:=by kernel_rfl
theorem gSyn:Tryd.prog.globalNamed "strconv.ErrSyntax"=some 4:=by kernel_rfl
theorem gRng:Tryd.prog.globalNamed "strconv.ErrRange"=some 5:=by kernel_rfl
theorem good{W:World}(h:laidMetH Tryd.prog Rows.observeAllRow.laid W):Am.L.GG Tryd.prog (Am.zab W):=by
 have h0:laidMet Tryd.prog Rows.observeAllRow.laid W:=cast (by kernel_rfl) h;have h1:=Am.zaX h0;have h2:=Am.zaX h1;have h3:=Am.zaX h2;have h4:=Am.zaX h3;obtain⟨tp,p,e1⟩:=Am.zd1 h3 gRng (t:=70) (by kernel_rfl) Tryd.underlying70;obtain⟨tp',p',e2⟩:=Am.zd1 h4 gSyn (t:=70) (by kernel_rfl) Tryd.underlying70;exact⟨Am.gtab_of gTab (Lib.tabIs_of_head gTab gTabType Tryd.underlying107 Tryd.underlying62 cells62 cells107 h2),Am.zjg gSyn e2 ⟨_,_,rfl⟩,Am.zjg gRng e1 ⟨_,_,rfl⟩⟩
theorem lower{W:World}(h:Am.L.GG Tryd.prog (Am.zab W)):0<W.heap.size:=by
 have h1:Am.GTab Tryd.prog (Am.zab W):=by first|exact h.1|exact h
 obtain⟨⟨g,_,hg⟩,_⟩:=h1;exact Nat.lt_of_le_of_lt (Nat.zero_le _) hg
def shape:List Am.Ty:=[.sl Am.za9,.int .i64]
open Am Am.F in
theorem out(S:St)(h:F.H)(args:List AV)(xs:List Dat)(ha:F.Abs h S)(hr:zbO S shape args xs)(hc:True):∃n,za tab stdI n (.fn (L.kf 5) []) args h (λv _=>some v)=some (.bool true):=by
 obtain⟨a1,u1,x1,y1,rfl,rfl,r1,hr⟩:=hr;obtain⟨a2,u2,x2,y2,rfl,rfl,r2,hr⟩:=hr;obtain⟨rfl,rfl⟩:=hr;obtain⟨ns,no,ds,sp,hv,rfl,hno,hnl,hnd,hnm,hg⟩:=Am.Rep.nodes ha r1;obtain⟨c,e2,_,_⟩:∃n,[a2]=[.int .i64 n]/\x2 = .int n/\(Lit.int .i64 n).wf=true:=r2;cases e2;have hm:maxLen=9223372036854775807:=rfl;exact⟨_,gL23.w305 gO23 gT12 gC gB gA gi gaw _ 9223372036854775807 (Nat.le_refl _) hv (λx hx=>(Am.zg8 hnd x hx).fit) (λx hx=>(Am.zg8 hnd x hx).fit.2.2) (Nat.le_refl _) (by omega) c _ _ λv h' e=>by rw[e]⟩
theorem fits:Am.FitsL Tryd.prog shape Tryd.f5.params.toList:=by
 rw[Tryd.params5];exact⟨22,_,rfl,⟨38,Tryd.underlying22,by kernel_rfl,by decide,⟨_,Tryd.underlying38,by kernel_rfl,⟨_,_,rfl,rfl,by kernel_rfl,Tryd.underlying3,⟨_,_,rfl,rfl,by kernel_rfl,Tryd.underlying3,⟨_,_,rfl,rfl,by kernel_rfl,⟨9,Tryd.underlying24,by kernel_rfl,by decide,Tryd.underlying9⟩,⟨_,_,rfl,rfl,by kernel_rfl,Tryd.underlying9,rfl⟩⟩⟩⟩⟩⟩,⟨3,_,rfl,Tryd.underlying3,rfl⟩⟩
theorem contract(H:Type)(enc:TypeId × Value->H)(W:World)(base:Nat)(args:Array Value)(ds gs:List (DataW H))(before:List MemPlace)
  (hval:∀(j:Nat) t v,Tryd.f5.params[j]?=some t->args[j]?=some v->Value.okWide Tryd.prog W .any base t v)
  (hW:DataW.Whole enc Tryd.prog Tryd.f5.params.toList Rows.observeAllSpec.vars false W args.toList ds gs before) (hL:laidMetH Tryd.prog Rows.observeAllRow.laid W) :
  Calls Tryd.prog 5 args W λe W'=>∃v,e = .returned v/\Rows.observeAllSpec.post enc Tryd.prog Tryd.f5 false true false false W args v W':=by
 refine Am.zeO (kf:=Am.L.kf) (kt:=Am.L.kt) Am.L.zhf Am.L.link Am.L.oks Am.F.iok (tys:=shape) (cond:=λ_=>True) (rt:=4) (by kernel_rfl) Tryd.underlying4 fits (by kernel_rfl)
  (of_decide_eq_true (by rw[Tryd.params5];kernel_rfl)) rfl ?_ out hval hW (good hL) (lower (good hL)) ?_
 ·intro ds hd
  match ds,hd with
  | [_,_],_=>rfl
 ·exact λ_ _=>trivial
noncomputable def lowN:Nat:=(World.holding Tryd.prog default ⟨#[],#[],[]⟩).heap.size
def put2(o:Obj):Obj:=match o with
 | .cells _ t frozen=>.cells #[.int .u8 0,.int .u8 1,.int .u8 28,.int .u8 2,.int .u8 29,.int .u8 14,.int .u8 24,.int .u8 3,.int .u8 30,.int .u8 22,.int .u8 20,.int .u8 15,.int .u8 25,.int .u8 17,.int .u8 4,.int .u8 8,.int .u8 31,.int .u8 27,.int .u8 13,.int .u8 23,.int .u8 21,.int .u8 19,.int .u8 16,.int .u8 7,.int .u8 26,.int .u8 12,.int .u8 18,.int .u8 6,.int .u8 11,.int .u8 5,.int .u8 10,.int .u8 9] t frozen
 | o=>o
def put3(o:Obj):Obj:=match o with
 | .cells _ t frozen=>.cells #[.int .u8 0,.int .u8 1,.int .u8 56,.int .u8 2,.int .u8 57,.int .u8 49,.int .u8 28,.int .u8 3,.int .u8 61,.int .u8 58,.int .u8 42,.int .u8 50,.int .u8 38,.int .u8 29,.int .u8 17,.int .u8 4,.int .u8 62,.int .u8 47,.int .u8 59,.int .u8 36,.int .u8 45,.int .u8 43,.int .u8 51,.int .u8 22,.int .u8 53,.int .u8 39,.int .u8 33,.int .u8 30,.int .u8 24,.int .u8 18,.int .u8 12,.int .u8 5,.int .u8 63,.int .u8 55,.int .u8 48,.int .u8 27,.int .u8 60,.int .u8 41,.int .u8 37,.int .u8 16,.int .u8 46,.int .u8 35,.int .u8 44,.int .u8 21,.int .u8 52,.int .u8 32,.int .u8 23,.int .u8 11,.int .u8 54,.int .u8 26,.int .u8 40,.int .u8 15,.int .u8 34,.int .u8 20,.int .u8 31,.int .u8 10,.int .u8 25,.int .u8 14,.int .u8 19,.int .u8 9,.int .u8 13,.int .u8 8,.int .u8 7,.int .u8 6] t frozen
 | o=>o
def put0(o:Obj):Obj:=match o with
 | .cells _ t frozen=>.cells #[.int .u64 1,.int .u64 10,.int .u64 100,.int .u64 1000,.int .u64 10000,.int .u64 100000,.int .u64 1000000,.int .u64 10000000,.int .u64 100000000,.int .u64 1000000000,.int .u64 10000000000,.int .u64 100000000000,.int .u64 1000000000000,.int .u64 10000000000000,.int .u64 100000000000000,.int .u64 1000000000000000,.int .u64 10000000000000000,.int .u64 100000000000000000,.int .u64 1000000000000000000,.int .u64 10000000000000000000] t frozen
 | o=>o
noncomputable def put5(o:Obj):Obj:=match o with
 | .cells _ t frozen=>.cells #[.iface 138 (.pointer (some ⟨lowN+0,0,none⟩))] t frozen
 | o=>o
noncomputable def put4(o:Obj):Obj:=match o with
 | .cells _ t frozen=>.cells #[.iface 138 (.pointer (some ⟨lowN+1,0,none⟩))] t frozen
 | o=>o
noncomputable def laidWorld(os:Os):World :=
 { World.holding Tryd.prog os ⟨#[.cells #[.string ⟨#[118,97,108,117,101,32,111,117,116,32,111,102,32,114,97,110,103,101]⟩] 140,.cells #[.string ⟨#[105,110,118,97,108,105,100,32,115,121,110,116,97,120]⟩] 140],#[],[]⟩ with heap:=((((((World.holding Tryd.prog os ⟨#[.cells #[.string ⟨#[118,97,108,117,101,32,111,117,116,32,111,102,32,114,97,110,103,101]⟩] 140,.cells #[.string ⟨#[105,110,118,97,108,105,100,32,115,121,110,116,97,120]⟩] 140],#[],[]⟩).heap.modify 2 put2).modify 3 put3).modify 0 put0).modify 5 put5).modify 4 put4) }
theorem laid_met(os:Os):laidMet Tryd.prog Rows.observeAllRow.laid ((laidWorld os).forCall (λ_ _=>0) ⟨#[],#[.slice none 0 0,.int .i64 0],[]⟩).memory :=
 laidMet_of_run' 8 (by kernel_rfl) (by kernel_rfl)
theorem reads(os:Os){H:Type}(enc:TypeId × Value->H):∃places,DataW.whole enc Tryd.prog ((laidWorld os).forCall (λ_ _=>0) ⟨#[],#[.slice none 0 0,.int .i64 0],[]⟩).memory Tryd.f5.params.toList Rows.observeAllSpec.vars false #[.slice none 0 0,.int .i64 0].toList 8=some ([.nil,.lit (.int .i64 0)],[],places) :=
 ⟨[],by kernel_rfl⟩
theorem lifted(os:Os)(started:os.Started)(H:Type)(enc:TypeId × Value->H)(F:Stop.Interp) :
  ReturnsInHanded {} Tryd.checked os 5 .any ((OpenSpec.ofChange Rows.observeAllSpec).preRow enc Tryd.prog Tryd.f5 Rows.observeAllRow.domain false Rows.observeAllRow.laid) (((OpenSpec.ofChange Rows.observeAllSpec).at F).post enc Tryd.prog Tryd.f5 false true false false):=by
 obtain⟨places,hx⟩:=reads os enc;refine returnsInHanded_of_row (C:=Tryd.checked) (s:=(OpenSpec.ofChange Rows.observeAllSpec)) own started (by kernel_rfl) Tryd.func5
  (witness_row_at (enc:=enc) (C:=Tryd.checked) false (laidWorld os) #[.slice none 0 0,.int .i64 0] rfl (by kernel_rfl) (by kernel_rfl) (by kernel_rfl)
   (OpenSpec.preRow_of_cond 8 hx (by kernel_rfl) (λk hk=>by cases hk) (by kernel_rfl) (laid_met os))) ?_
 intro W base args ds gs before hval hW _ _ _ hL _ _;exact contract H enc W base args ds gs before hval hW hL
theorem said:Rows.ObserveAllSaid :=
 OpenClaim.holds_of_cond 5 Tryd.f5 rfl rfl rfl rfl rfl rfl rfl ⟨rfl,rfl,rfl,rfl,rfl⟩ rfl rfl rfl rfl rfl (by kernel_rfl) Tryd.func5 (by kernel_rfl)
  (of_decide_eq_true (by kernel_rfl)) (by unfold Func.isWrapper;first|(rw[if_pos (by decide +kernel)];kernel_rfl)|(rw[if_neg (by decide +kernel)];exact⟨rfl,rfl⟩))
  (λos started H enc _ F=>by rw[OpenClaim.pre_eq_preRow];exact lifted os started H enc F)
theorem plain(f:FuncId)(fn:Func)(hf:Tryd.pinned.checked.prog.funcNamed "sleuth/sleuthlaw23.ObserveAll"=some f)(hfn:Tryd.pinned.checked.prog.funcs[f]?=some fn) :
  true=Tryd.pinned.checked.prog.looks []/\∀(j:Nat) t,fn.params[j]?=some t->Tryd.pinned.checked.prog.wantsStandIn t=false:=by
 obtain rfl:f=5:=Option.some.inj ((show Tryd.prog.funcNamed "sleuth/sleuthlaw23.ObserveAll"=some 5 by kernel_rfl).symm.trans hf) |>.symm
 obtain rfl:fn=Tryd.f5:=(Option.some.inj (Tryd.func5.symm.trans hfn)).symm;refine⟨by kernel_rfl,λj t ht=>?_⟩;rw[Tryd.params5] at ht;have hm:=Array.mem_of_getElem? ht;simp only[List.mem_toArray,List.mem_cons,List.not_mem_nil,or_false] at hm;rcases hm with rfl|rfl
 ·exact (show Tryd.prog.wantsStandIn 22=false by kernel_rfl)
 ·exact (show Tryd.prog.wantsStandIn 3=false by kernel_rfl)
theorem card:Rows.ObserveAllCardSaid :=
 Claim7.holds_tied_plain_at .later [] _ _ _ _ said (λ_ h=>by cases h) (by kernel_rfl) (λ_ h=>by cases h) observeAll_row_tie rfl ⟨rfl,rfl⟩ (by kernel_rfl) rfl plain (by kernel_rfl)
end Go.Proofs.YtginckfdokjjpaaDoor.observeAll
