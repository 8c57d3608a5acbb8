/- The law Observes answers true: no condition. -/
import Derived.Test.YtginckfdokjjpaaDoorAmZobsLink
import Derived.Test.YtginckfdokjjpaaDoorAmJd
import Derived.Test.YtginckfdokjjpaaDoorCards
import Derived.Test.YtginckfdokjjpaaDoorTie
import Derived.WalkKit
import Derived.ProofKit
import Derived.Deep.DeepHandedRow
import Derived.Test.YtginckfdokjjpaaDoorAmL23
import Derived.Test.YtginckfdokjjpaaDoorAmRep
import Derived.Test.YtginckfdokjjpaaDoorAmOpen
set_option linter.unusedVariables false
set_option maxRecDepth 100000
namespace Go.Proofs.YtginckfdokjjpaaDoor.observes
open Go.ChangeShapes Go.WideShapes Go.ChangeAt Go.RowKit Go.ChangeMaps
theorem own:ownKnob Tryd.prog.godebug=none:=by kernel_rfl
theorem gTab:Tryd.prog.globalNamed "internal/strconv.uint64pow10"=some 0:=by kernel_rfl
theorem gTabType:(Tryd.prog.globals[0]?).map (·.type)=some 107:=by kernel_rfl
theorem cells107:Tryd.prog.cellsOf 107=20:=by kernel_rfl
theorem cells62:Tryd.prog.cellsOf 62=1:=by kernel_rfl
theorem gSyn:Tryd.prog.globalNamed "strconv.ErrSyntax"=some 4:=by kernel_rfl
theorem gRng:Tryd.prog.globalNamed "strconv.ErrRange"=some 5:=by kernel_rfl
theorem good{W:World}(h:laidMetH Tryd.prog Rows.observesUptoRow.laid W):Am.L.GG Tryd.prog (Am.zad W):=by
 have h0:laidMet Tryd.prog Rows.observesUptoRow.laid W:=cast (by kernel_rfl) h;have h1:=Am.zaY h0;have h2:=Am.zaY h1;have h3:=Am.zaY h2;have h4:=Am.zaY h3;obtain⟨tp,p,e1⟩:=Am.zd7 h3 gRng (t:=70) (by kernel_rfl) Tryd.underlying70;obtain⟨tp',p',e2⟩:=Am.zd7 h4 gSyn (t:=70) (by kernel_rfl) Tryd.underlying70;exact⟨Am.gtab_of gTab (Lib.tabIs_of_head gTab gTabType Tryd.underlying107 Tryd.underlying62 cells62 cells107 h2),Am.zjg gSyn e2 ⟨_,_,rfl⟩,Am.zjg gRng e1 ⟨_,_,rfl⟩⟩
theorem lower{W:World}(h:Am.L.GG Tryd.prog (Am.zad W)):0<W.heap.size:=by
 have h1:Am.GTab Tryd.prog (Am.zad W):=by first|exact h.1|exact h
 obtain⟨⟨g,_,hg⟩,_⟩:=h1;exact Nat.lt_of_le_of_lt (Nat.zero_le _) hg
def shape:List Am.Ty:=[.sl Am.zba,.int .i64]
def small(H:Type)(xs:List Am.Dat):Prop:=Rows.uptoBulkAll (H:=H) (Am.toWz shape xs)<=1048576
theorem bulkOk{H:Type}:Am.Bulk (H:=H) Rows.uptoBulk Rows.uptoBulkAll :=
 ⟨λs=>by simp only[Rows.uptoBulk],λk n=>by simp only[Rows.uptoBulk],λe s=>by simp only[Rows.uptoBulk],λp=>by simp only[Rows.uptoBulk],by simp only[Rows.uptoBulkAll],λd r=>by simp only[Rows.uptoBulkAll]⟩
open Am Am.F in
theorem out(H:Type)(S:St)(h:F.H)(args:List AV)(xs:List Dat)(ha:F.Abs h S)(hr:zbP S shape args xs)(hc:small H xs):∃n,za tab stdI n (.fn (L.kf 3) []) args h (λv _=>some v)=some (.bool true):=by
 obtain⟨a1,u1,x1,y1,rfl,rfl,r1,hr⟩:=hr;obtain⟨a2,u2,x2,y2,rfl,rfl,r2,hr⟩:=hr;obtain⟨rfl,rfl⟩:=hr;obtain⟨ns,no,ds,sp,hv,rfl,hno,hnl,hnd,hnm,hg⟩:=Am.Rep.nodes ha r1;obtain⟨c,e2,_,_⟩:∃n,[a2]=[.int .i64 n]/\x2 = .int n/\(Lit.int .i64 n).wf=true:=r2;cases e2;have hm:maxLen=9223372036854775807:=rfl;simp only[small,shape,toWz,Rows.uptoBulkAll] at hc;have b2:=(bulkOk (H:=H)).nodes (sp:=sp) hno hnl hnd (N:=1048576) (by omega);exact⟨_,gL23.w304 gO23 gR23 gP gT12 gC gB gA gi gaw _ 1048576 (Nat.le_refl _) hv (λx hx=>(Am.nodes_sm hnd x hx).fit) (λx hx=>(b2.2 x hx).1) (Nat.le_refl _) b2.1 c _ _ λv h' e=>by rw[e]⟩
theorem fits:Am.FitsL Tryd.prog shape Tryd.f3.params.toList:=by
 rw[Tryd.params3];exact⟨22,_,rfl,⟨38,Tryd.underlying22,by kernel_rfl,by decide,⟨_,Tryd.underlying38,by kernel_rfl,⟨_,_,rfl,rfl,by kernel_rfl,Tryd.underlying3,⟨_,_,rfl,rfl,by kernel_rfl,Tryd.underlying3,⟨_,_,rfl,rfl,by kernel_rfl,⟨9,Tryd.underlying24,by kernel_rfl,by decide,Tryd.underlying9⟩,⟨_,_,rfl,rfl,by kernel_rfl,Tryd.underlying9,rfl⟩⟩⟩⟩⟩⟩,⟨3,_,rfl,Tryd.underlying3,rfl⟩⟩
theorem contract(H:Type)(enc:TypeId × Value->H)(W:World)(base:Nat)(args:Array Value)(ds gs:List (DataW H))(before:List MemPlace)
  (hval:∀(j:Nat) t v,Tryd.f3.params[j]?=some t->args[j]?=some v->Value.okWide Tryd.prog W .any base t v)
  (hW:DataW.Whole enc Tryd.prog Tryd.f3.params.toList Rows.observesSpec.vars false W args.toList ds gs before) (hcond:Rows.uptoSmall H (ds++gs)=true) (hL:laidMetH Tryd.prog Rows.observesUptoRow.laid W) :
  Calls Tryd.prog 3 args W λe W'=>∃v,e = .returned v/\Rows.observesSpec.post enc Tryd.prog Tryd.f3 false true false false W args v W':=by
 refine Am.zeU (kf:=Am.L.kf) (kt:=Am.L.kt) Am.L.zhk Am.L.link Am.L.oks Am.F.iok (tys:=shape) (cond:=small H) (rt:=4) (by kernel_rfl) Tryd.underlying4 fits (by kernel_rfl)
  (of_decide_eq_true (by rw[Tryd.params3];kernel_rfl)) rfl ?_ (out H) hval hW (good hL) (lower (good hL)) ?_
 ·intro ds hd
  match ds,hd with
  | [_,_],_=>rfl
 ·intro xs hx;have hg:gs=[]:=by
   obtain⟨p,q,_,hV,_⟩:=hW;exact (trodVars_none hV).1
  subst hg;rw[List.append_nil,hx] at hcond;exact of_decide_eq_true (p:=Rows.uptoBulkAll (H:=H) (Am.toWz shape xs)<=1048576) hcond
noncomputable def lowN:Nat:=(World.holding Tryd.prog default ⟨#[],#[],[]⟩).heap.size
def put2(o:Obj):Obj:=match o with
 | .cells _ t frozen=>.cells #[.int .u8 0,.int .u8 1,.int .u8 28,.int .u8 2,.int .u8 29,.int .u8 14,.int .u8 24,.int .u8 3,.int .u8 30,.int .u8 22,.int .u8 20,.int .u8 15,.int .u8 25,.int .u8 17,.int .u8 4,.int .u8 8,.int .u8 31,.int .u8 27,.int .u8 13,.int .u8 23,.int .u8 21,.int .u8 19,.int .u8 16,.int .u8 7,.int .u8 26,.int .u8 12,.int .u8 18,.int .u8 6,.int .u8 11,.int .u8 5,.int .u8 10,.int .u8 9] t frozen
 | o=>o
def put3(o:Obj):Obj:=match o with
 | .cells _ t frozen=>.cells #[.int .u8 0,.int .u8 1,.int .u8 56,.int .u8 2,.int .u8 57,.int .u8 49,.int .u8 28,.int .u8 3,.int .u8 61,.int .u8 58,.int .u8 42,.int .u8 50,.int .u8 38,.int .u8 29,.int .u8 17,.int .u8 4,.int .u8 62,.int .u8 47,.int .u8 59,.int .u8 36,.int .u8 45,.int .u8 43,.int .u8 51,.int .u8 22,.int .u8 53,.int .u8 39,.int .u8 33,.int .u8 30,.int .u8 24,.int .u8 18,.int .u8 12,.int .u8 5,.int .u8 63,.int .u8 55,.int .u8 48,.int .u8 27,.int .u8 60,.int .u8 41,.int .u8 37,.int .u8 16,.int .u8 46,.int .u8 35,.int .u8 44,.int .u8 21,.int .u8 52,.int .u8 32,.int .u8 23,.int .u8 11,.int .u8 54,.int .u8 26,.int .u8 40,.int .u8 15,.int .u8 34,.int .u8 20,.int .u8 31,.int .u8 10,.int .u8 25,.int .u8 14,.int .u8 19,.int .u8 9,.int .u8 13,.int .u8 8,.int .u8 7,.int .u8 6] t frozen
 | o=>o
def put0(o:Obj):Obj:=match o with
 | .cells _ t frozen=>.cells #[.int .u64 1,.int .u64 10,.int .u64 100,.int .u64 1000,.int .u64 10000,.int .u64 100000,.int .u64 1000000,.int .u64 10000000,.int .u64 100000000,.int .u64 1000000000,.int .u64 10000000000,.int .u64 100000000000,.int .u64 1000000000000,.int .u64 10000000000000,.int .u64 100000000000000,.int .u64 1000000000000000,.int .u64 10000000000000000,.int .u64 100000000000000000,.int .u64 1000000000000000000,.int .u64 10000000000000000000] t frozen
 | o=>o
noncomputable def put5(o:Obj):Obj:=match o with
 | .cells _ t frozen=>.cells #[.iface 138 (.pointer (some ⟨lowN+0,0,none⟩))] t frozen
 | o=>o
noncomputable def put4(o:Obj):Obj:=match o with
 | .cells _ t frozen=>.cells #[.iface 138 (.pointer (some ⟨lowN+1,0,none⟩))] t frozen
 | o=>o
noncomputable def laidWorld(os:Os):World :=
 { World.holding Tryd.prog os ⟨#[.cells #[.string ⟨#[118,97,108,117,101,32,111,117,116,32,111,102,32,114,97,110,103,101]⟩] 140,.cells #[.string ⟨#[105,110,118,97,108,105,100,32,115,121,110,116,97,120]⟩] 140],#[],[]⟩ with heap:=((((((World.holding Tryd.prog os ⟨#[.cells #[.string ⟨#[118,97,108,117,101,32,111,117,116,32,111,102,32,114,97,110,103,101]⟩] 140,.cells #[.string ⟨#[105,110,118,97,108,105,100,32,115,121,110,116,97,120]⟩] 140],#[],[]⟩).heap.modify 2 put2).modify 3 put3).modify 0 put0).modify 5 put5).modify 4 put4) }
theorem laid_met(os:Os):laidMet Tryd.prog Rows.observesUptoRow.laid ((laidWorld os).forCall (λ_ _=>0) ⟨#[],#[.slice none 0 0,.int .i64 0],[]⟩).memory :=
 laidMet_of_run' 8 (by kernel_rfl) (by kernel_rfl)
theorem reads(os:Os){H:Type}(enc:TypeId × Value->H):∃places,DataW.whole enc Tryd.prog ((laidWorld os).forCall (λ_ _=>0) ⟨#[],#[.slice none 0 0,.int .i64 0],[]⟩).memory Tryd.f3.params.toList Rows.observesSpec.vars false #[.slice none 0 0,.int .i64 0].toList 8=some ([.nil,.lit (.int .i64 0)],[],places) :=
 ⟨[],by kernel_rfl⟩
theorem lifted(os:Os)(started:os.Started)(H:Type)(enc:TypeId × Value->H)(F:Stop.Interp) :
  ReturnsInHanded {} Tryd.checked os 3 .any ((Rows.OpenSpec.upto Rows.observesSpec).preRow enc Tryd.prog Tryd.f3 Rows.observesUptoRow.domain false Rows.observesUptoRow.laid) (((Rows.OpenSpec.upto Rows.observesSpec).at F).post enc Tryd.prog Tryd.f3 false true false false):=by
 obtain⟨places,hx⟩:=reads os enc;refine returnsInHanded_of_row (C:=Tryd.checked) (s:=(Rows.OpenSpec.upto Rows.observesSpec)) own started (by kernel_rfl) Tryd.func3
  (witness_row_at (enc:=enc) (C:=Tryd.checked) false (laidWorld os) #[.slice none 0 0,.int .i64 0] rfl (by kernel_rfl) (by kernel_rfl) (by kernel_rfl)
   (OpenSpec.preRow_of_cond 8 hx (by kernel_rfl) (λk hk=>by cases hk;kernel_rfl) (by kernel_rfl) (laid_met os))) ?_
 intro W base args ds gs before hval hW _ hcond _ hL _ _;exact contract H enc W base args ds gs before hval hW (hcond _ rfl) hL
theorem said:Rows.ObservesUptoSaid :=
 OpenClaim.holds_of_cond 3 Tryd.f3 rfl rfl rfl rfl rfl rfl rfl ⟨rfl,rfl,rfl,rfl,rfl⟩ rfl rfl rfl rfl rfl (by kernel_rfl) Tryd.func3 (by kernel_rfl)
  (of_decide_eq_true (by kernel_rfl)) (by unfold Func.isWrapper;first|(rw[if_pos (by decide +kernel)];kernel_rfl)|(rw[if_neg (by decide +kernel)];exact⟨rfl,rfl⟩))
  (λos started H enc _ F=>by rw[OpenClaim.pre_eq_preRow];exact lifted os started H enc F)
theorem plain(f:FuncId)(fn:Func)(hf:Tryd.pinned.checked.prog.funcNamed "sleuth/sleuthlaw23.Observes"=some f)(hfn:Tryd.pinned.checked.prog.funcs[f]?=some fn) :
  true=Tryd.pinned.checked.prog.looks []/\∀(j:Nat) t,fn.params[j]?=some t->Tryd.pinned.checked.prog.wantsStandIn t=false:=by
 obtain rfl:f=3:=Option.some.inj ((show Tryd.prog.funcNamed "sleuth/sleuthlaw23.Observes"=some 3 by kernel_rfl).symm.trans hf) |>.symm
 obtain rfl:fn=Tryd.f3:=(Option.some.inj (Tryd.func3.symm.trans hfn)).symm;refine⟨by kernel_rfl,λj t ht=>?_⟩;rw[Tryd.params3] at ht;have hm:=Array.mem_of_getElem? ht;simp only[List.mem_toArray,List.mem_cons,List.not_mem_nil,or_false] at hm;rcases hm with rfl|rfl
 ·exact (show Tryd.prog.wantsStandIn 22=false by kernel_rfl)
 ·exact (show Tryd.prog.wantsStandIn 3=false by kernel_rfl)
theorem card:Rows.ObservesUptoCardSaid :=
 Claim7.holds_tied_plain_at .later [] _ _ _ _ said (λ_ h=>by cases h) (by kernel_rfl) (λ_ h=>by cases h) observesUpto_row_tie rfl ⟨rfl,rfl⟩ (by kernel_rfl) rfl plain (by kernel_rfl)
end Go.Proofs.YtginckfdokjjpaaDoor.observes
