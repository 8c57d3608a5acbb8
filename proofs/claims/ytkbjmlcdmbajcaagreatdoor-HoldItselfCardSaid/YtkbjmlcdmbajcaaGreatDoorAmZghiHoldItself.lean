/- The law HoldItself answers true: no condition. -/
import Derived.Test.YtkbjmlcdmbajcaaGreatDoorAmZghiLink
import Derived.Test.YtkbjmlcdmbajcaaGreatDoorAmJd
import Derived.Test.YtkbjmlcdmbajcaaGreatDoorCards
import Derived.Test.YtkbjmlcdmbajcaaGreatDoorTie
import Derived.WalkKit
import Derived.ProofKit
import Derived.Deep.DeepHandedRow
import Derived.Test.YtkbjmlcdmbajcaaGreatDoorAmL10i
import Derived.Test.YtkbjmlcdmbajcaaGreatDoorAmRep
import Derived.Test.YtkbjmlcdmbajcaaGreatDoorAmOpen
set_option linter.unusedVariables false
set_option maxRecDepth 100000
namespace Go.Proofs.YtkbjmlcdmbajcaaGreatDoor.holdItself
open Go.ChangeShapes Go.WideShapes Go.ChangeAt Go.RowKit Go.ChangeMaps
theorem own:ownKnob Tryz.prog.godebug=none:=by kernel_rfl
theorem gTab:Tryz.prog.globalNamed "internal/strconv.uint64pow10"=some 3:=by kernel_rfl
theorem gTabType:(Tryz.prog.globals[3]?).map (·.type)=some 186:=by kernel_rfl
theorem cells186:Tryz.prog.cellsOf 186=20:=by kernel_rfl
theorem cells123:Tryz.prog.cellsOf 123=1:=by kernel_rfl
theorem gSyn:Tryz.prog.globalNamed "strconv.ErrSyntax"=some 1:=by kernel_rfl
theorem gRng:Tryz.prog.globalNamed "strconv.ErrRange"=some 2:=by kernel_rfl
theorem good{W:World}(h:laidMetH Tryz.prog Rows.holdItselfRow.laid W):Am.L.GG Tryz.prog (Am.zaD W):=by
 have h0:laidMet Tryz.prog Rows.holdItselfRow.laid W:=cast (by kernel_rfl) h;have h1:=Am.zam h0;have h2:=Am.zam h1;have h3:=Am.zam h2;have h4:=Am.zam h3;obtain⟨tp,p,e1⟩:=Am.zcM h3 gRng (t:=131) (by kernel_rfl) Tryz.underlying131;obtain⟨tp',p',e2⟩:=Am.zcM h4 gSyn (t:=131) (by kernel_rfl) Tryz.underlying131;exact⟨Am.zku gTab (Lib.tabIs_of_head gTab gTabType Tryz.underlying186 Tryz.underlying123 cells123 cells186 h2),Am.zf3 gSyn e2 ⟨_,_,rfl⟩,Am.zf3 gRng e1 ⟨_,_,rfl⟩⟩
theorem lower{W:World}(h:Am.L.GG Tryz.prog (Am.zaD W)):0<W.heap.size:=by
 obtain⟨⟨g,_,hg⟩,_⟩:=h.1;exact Nat.lt_of_le_of_lt (Nat.zero_le _) hg
def shape:List Am.Ty:=[.str,.str]
open Am Am.F in
theorem out(S:St)(h:F.H)(args:List AV)(xs:List Dat)(ha:F.Abs h S)(hr:zcr S shape args xs)(hc:True):∃n,zc tab stdI n (.fn (L.kf 5) []) args h (λv _=>some v)=some (.bool true):=by
 obtain⟨a0,u0,x0,y0,rfl,rfl,⟨w0,e0,rfl,hw0⟩,hr⟩:=hr;cases e0;obtain⟨a1,u1,x1,y1,rfl,rfl,⟨w1,e1,rfl,hw1⟩,hr⟩:=hr;cases e1;obtain⟨rfl,rfl⟩:=hr;exact⟨4500,gV10.w236 gS10 gBL gR10 gNM gR9 gC gA gi gaw 4500 (Nat.le_refl _) w0 w1 (Nat.le_trans hw0 (by decide)) (Nat.le_trans hw1 (by decide)) _ _ λv h' e=>by rw[e]⟩
theorem fits:Am.zkZ Tryz.prog shape Tryz.f5.params.toList:=by
 rw[Tryz.params5];exact⟨9,_,rfl,Tryz.underlying9,⟨9,_,rfl,Tryz.underlying9,rfl⟩⟩
theorem contract(H:Type)(enc:TypeId × Value->H)(W:World)(base:Nat)(args:Array Value)(ds gs:List (DataW H))(before:List MemPlace)
  (hval:∀(j:Nat) t v,Tryz.f5.params[j]?=some t->args[j]?=some v->Value.okWide Tryz.prog W .any base t v)
  (hW:DataW.Whole enc Tryz.prog Tryz.f5.params.toList Rows.holdItselfSpec.vars false W args.toList ds gs before) (hL:laidMetH Tryz.prog Rows.holdItselfRow.laid W) :
  Calls Tryz.prog 5 args W λe W'=>∃v,e = .returned v/\Rows.holdItselfSpec.post enc Tryz.prog Tryz.f5 false true false false W args v W':=by
 refine Am.zdC (kf:=Am.L.kf) (kt:=Am.L.kt) Am.L.gg_keeps Am.L.link Am.L.oks Am.F.iok (tys:=shape) (cond:=λ_=>True) (rt:=4) (by kernel_rfl) Tryz.underlying4 fits (by kernel_rfl)
  (of_decide_eq_true (by rw[Tryz.params5];kernel_rfl)) rfl ?_ out hval hW (good hL) (lower (good hL)) ?_
 ·intro ds hd
  match ds,hd with
  | [_,_],_=>rfl
 ·exact λ_ _=>trivial
noncomputable def lowN:Nat:=(World.holding Tryz.prog default ⟨#[],#[],[]⟩).heap.size
def put4(o:Obj):Obj:=match o with
 | .cells _ t frozen=>.cells #[.int .u8 0,.int .u8 1,.int .u8 28,.int .u8 2,.int .u8 29,.int .u8 14,.int .u8 24,.int .u8 3,.int .u8 30,.int .u8 22,.int .u8 20,.int .u8 15,.int .u8 25,.int .u8 17,.int .u8 4,.int .u8 8,.int .u8 31,.int .u8 27,.int .u8 13,.int .u8 23,.int .u8 21,.int .u8 19,.int .u8 16,.int .u8 7,.int .u8 26,.int .u8 12,.int .u8 18,.int .u8 6,.int .u8 11,.int .u8 5,.int .u8 10,.int .u8 9] t frozen
 | o=>o
def put5(o:Obj):Obj:=match o with
 | .cells _ t frozen=>.cells #[.int .u8 0,.int .u8 1,.int .u8 56,.int .u8 2,.int .u8 57,.int .u8 49,.int .u8 28,.int .u8 3,.int .u8 61,.int .u8 58,.int .u8 42,.int .u8 50,.int .u8 38,.int .u8 29,.int .u8 17,.int .u8 4,.int .u8 62,.int .u8 47,.int .u8 59,.int .u8 36,.int .u8 45,.int .u8 43,.int .u8 51,.int .u8 22,.int .u8 53,.int .u8 39,.int .u8 33,.int .u8 30,.int .u8 24,.int .u8 18,.int .u8 12,.int .u8 5,.int .u8 63,.int .u8 55,.int .u8 48,.int .u8 27,.int .u8 60,.int .u8 41,.int .u8 37,.int .u8 16,.int .u8 46,.int .u8 35,.int .u8 44,.int .u8 21,.int .u8 52,.int .u8 32,.int .u8 23,.int .u8 11,.int .u8 54,.int .u8 26,.int .u8 40,.int .u8 15,.int .u8 34,.int .u8 20,.int .u8 31,.int .u8 10,.int .u8 25,.int .u8 14,.int .u8 19,.int .u8 9,.int .u8 13,.int .u8 8,.int .u8 7,.int .u8 6] t frozen
 | o=>o
def put3(o:Obj):Obj:=match o with
 | .cells _ t frozen=>.cells #[.int .u64 1,.int .u64 10,.int .u64 100,.int .u64 1000,.int .u64 10000,.int .u64 100000,.int .u64 1000000,.int .u64 10000000,.int .u64 100000000,.int .u64 1000000000,.int .u64 10000000000,.int .u64 100000000000,.int .u64 1000000000000,.int .u64 10000000000000,.int .u64 100000000000000,.int .u64 1000000000000000,.int .u64 10000000000000000,.int .u64 100000000000000000,.int .u64 1000000000000000000,.int .u64 10000000000000000000] t frozen
 | o=>o
noncomputable def put2(o:Obj):Obj:=match o with
 | .cells _ t frozen=>.cells #[.iface 183 (.pointer (some ⟨lowN+0,0,none⟩))] t frozen
 | o=>o
noncomputable def put1(o:Obj):Obj:=match o with
 | .cells _ t frozen=>.cells #[.iface 183 (.pointer (some ⟨lowN+1,0,none⟩))] t frozen
 | o=>o
noncomputable def laidWorld(os:Os):World :=
 { World.holding Tryz.prog os ⟨#[.cells #[.string ⟨#[118,97,108,117,101,32,111,117,116,32,111,102,32,114,97,110,103,101]⟩] 185,.cells #[.string ⟨#[105,110,118,97,108,105,100,32,115,121,110,116,97,120]⟩] 185],#[],[]⟩ with heap:=((((((World.holding Tryz.prog os ⟨#[.cells #[.string ⟨#[118,97,108,117,101,32,111,117,116,32,111,102,32,114,97,110,103,101]⟩] 185,.cells #[.string ⟨#[105,110,118,97,108,105,100,32,115,121,110,116,97,120]⟩] 185],#[],[]⟩).heap.modify 4 put4).modify 5 put5).modify 3 put3).modify 2 put2).modify 1 put1) }
theorem laid_met(os:Os):laidMet Tryz.prog Rows.holdItselfRow.laid ((laidWorld os).forCall (λ_ _=>0) ⟨#[],#[.string ⟨#[]⟩,.string ⟨#[]⟩],[]⟩).memory :=
 laidMet_of_run' 8 (by kernel_rfl) (by kernel_rfl)
theorem reads(os:Os){H:Type}(enc:TypeId × Value->H):∃places,DataW.whole enc Tryz.prog ((laidWorld os).forCall (λ_ _=>0) ⟨#[],#[.string ⟨#[]⟩,.string ⟨#[]⟩],[]⟩).memory Tryz.f5.params.toList Rows.holdItselfSpec.vars false #[.string ⟨#[]⟩,.string ⟨#[]⟩].toList 8=some ([.lit (.string []),.lit (.string [])],[],places) :=
 ⟨[],by kernel_rfl⟩
theorem lifted(os:Os)(started:os.Started)(H:Type)(enc:TypeId × Value->H)(F:Stop.Interp) :
  ReturnsInHanded {} Tryz.checked os 5 .any ((OpenSpec.ofChange Rows.holdItselfSpec).preRow enc Tryz.prog Tryz.f5 Rows.holdItselfRow.domain false Rows.holdItselfRow.laid) (((OpenSpec.ofChange Rows.holdItselfSpec).at F).post enc Tryz.prog Tryz.f5 false true false false):=by
 obtain⟨places,hx⟩:=reads os enc;refine returnsInHanded_of_row (C:=Tryz.checked) (s:=(OpenSpec.ofChange Rows.holdItselfSpec)) own started (by kernel_rfl) Tryz.func5
  (witness_row_at (enc:=enc) (C:=Tryz.checked) false (laidWorld os) #[.string ⟨#[]⟩,.string ⟨#[]⟩] rfl (by kernel_rfl) (by kernel_rfl) (by kernel_rfl)
   (OpenSpec.preRow_of_cond 8 hx (by kernel_rfl) (λk hk=>by cases hk) (by kernel_rfl) (laid_met os))) ?_
 intro W base args ds gs before hval hW _ _ _ hL _ _;exact contract H enc W base args ds gs before hval hW hL
theorem said:Rows.HoldItselfSaid :=
 OpenClaim.holds_of_cond 5 Tryz.f5 rfl rfl rfl rfl rfl rfl rfl ⟨rfl,rfl,rfl,rfl,rfl⟩ rfl rfl rfl rfl rfl (by kernel_rfl) Tryz.func5 (by kernel_rfl)
  (of_decide_eq_true (by kernel_rfl)) (by unfold Func.isWrapper;first|(rw[if_pos (by decide +kernel)];kernel_rfl)|(rw[if_neg (by decide +kernel)];exact⟨rfl,rfl⟩))
  (λos started H enc _ F=>by rw[OpenClaim.pre_eq_preRow];exact lifted os started H enc F)
theorem plain(f:FuncId)(fn:Func)(hf:Tryz.pinned.checked.prog.funcNamed "sleuth/sleuthlaw10.HoldItself"=some f)(hfn:Tryz.pinned.checked.prog.funcs[f]?=some fn) :
  true=Tryz.pinned.checked.prog.looks []/\∀(j:Nat) t,fn.params[j]?=some t->Tryz.pinned.checked.prog.wantsStandIn t=false:=by
 obtain rfl:f=5:=Option.some.inj ((show Tryz.prog.funcNamed "sleuth/sleuthlaw10.HoldItself"=some 5 by kernel_rfl).symm.trans hf) |>.symm
 obtain rfl:fn=Tryz.f5:=(Option.some.inj (Tryz.func5.symm.trans hfn)).symm;refine⟨by kernel_rfl,λj t ht=>?_⟩;rw[Tryz.params5] at ht;have hm:=Array.mem_of_getElem? ht;simp only[List.mem_toArray,List.mem_cons,List.not_mem_nil,or_false] at hm;rcases hm with rfl|rfl
 ·exact (show Tryz.prog.wantsStandIn 9=false by kernel_rfl)
 ·exact (show Tryz.prog.wantsStandIn 9=false by kernel_rfl)
theorem card:Rows.HoldItselfCardSaid :=
 Claim7.holds_tied_plain_at .later [] _ _ _ _ said (λ_ h=>by cases h) (by kernel_rfl) (λ_ h=>by cases h) holdItself_row_tie rfl ⟨rfl,rfl⟩ (by kernel_rfl) rfl plain (by kernel_rfl)
end Go.Proofs.YtkbjmlcdmbajcaaGreatDoor.holdItself
