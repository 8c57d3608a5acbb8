/- Texts that belong together: no condition. -/
import Derived.Test.YtanhngcjijbodaaDoorAmJc
import Derived.Lib.LaidTab
import Derived.Lib.ItoaNum
import Derived.Lib.Join
import Derived.ChangeSame
import Derived.OpenShut
import Derived.Lib.AtoiAll
import Derived.Lib.IndexAny
import Derived.Lib.ConvBytes
import Derived.Deep.WholeRow
set_option maxRecDepth 100000
set_option linter.unusedVariables false
set_option linter.unusedSimpArgs false
set_option linter.defProp false
section
namespace Am.F
open Go Am
section
variable {β:Type} {r:β}
theorem zaF{a:AV}{c:IntKind->Int->Option β}(h:aInt a c=some r):∃k n,a = .int k n/\c k n=some r:=by
 cases a<;>simp only[aInt] at h<;>first|exact⟨_,_,rfl,h⟩|cases h
theorem zaq{a:AV}{c:Nat->Option β}(h:aNat a c=some r):∃n,zu a=some n/\c n=some r:=by
 cases a<;>simp only[aNat] at h<;>try cases h
 rename_i k n;cases n with
 | ofNat m=>
  rw[show (Int.rec (motive:=λ_=>Option β) (λm=>frc m c) (λ_=>none) (Int.ofNat m):Option β)=frc m c from rfl,zH] at h;exact⟨m,by simp[zu],h⟩
 | negSucc m=>cases h
theorem zap{a:AV}{c:Nat->Nat->Option β}(h:aPtr a c=some r):∃b o,a = .ptr b o/\c b o=some r:=by
 cases a<;>simp only[aPtr] at h<;>first|exact⟨_,_,rfl,h⟩|cases h
theorem zk{a:AV}{c:List UInt8->Option β}(h:aStr a c=some r):∃s,a = .str s/\c s=some r:=by
 cases a<;>simp only[aStr] at h<;>first|exact⟨_,rfl,h⟩|cases h
theorem zaG{a:AV}{c:List AV->Option β}(h:aAgg a c=some r):∃s,a = .agg s/\c s=some r:=by
 cases a<;>simp only[aAgg] at h<;>first|exact⟨_,rfl,h⟩|cases h
theorem zai{a:AV}{c:Bool->Option β}(h:zdz a c=some r):∃s,a = .bool s/\c s=some r:=by
 cases a<;>simp only[zdz] at h<;>first|exact⟨_,rfl,h⟩|cases h
theorem zaO{a:AV}{n:Option β}{c:Nat->Nat->Nat->Nat->Option Nat->Option β}(h:aSl a n c=some r):(a = .nils/\n=some r)\/∃b o l m g,a = .sl b o l m g/\c b o l m g=some r:=by
 cases a<;>simp only[aSl] at h<;>first|exact .inr ⟨_,_,_,_,_,rfl,h⟩|exact .inl ⟨rfl,h⟩|cases h
theorem zb2{a:AV}{n:Option β}{c:List AV->Option β}(h:zdx a n c=some r):(∃us,a = .agg us/\c us=some r)\/(a.flat=some [a]/\(∀us,a ≠ .agg us)/\n=some r):=by
 cases a<;>simp only[zdx] at h<;>first|exact .inl ⟨_,rfl,h⟩|exact .inr ⟨rfl,(by intro us h;cases h),h⟩|cases h
theorem zr{α:Type}{o:Option α}{c:α->Option β}(h:zP o c=some r):∃v,o=some v/\c v=some r:=by
 cases o<;>simp only[zP] at h<;>first|exact⟨_,rfl,h⟩|cases h
theorem zb{b:Bool}{x:Option β}(h:cond b x none=some r):b=true/\x=some r:=by
 cases b
 ·cases h
 ·exact⟨rfl,h⟩
theorem zaA.{u}{α:Type u}{b:Bool}{x y z:α}(h:cond b x y=z):(b=true/\x=z)\/(b=false/\y=z):=by
 cases b
 ·exact .inr ⟨rfl,h⟩
 ·exact .inl ⟨rfl,h⟩
theorem zao{m n:Nat}(h:Nat.ble m n=true):m<=n:=Nat.ble_eq.mp h
theorem ble_f{m n:Nat}(h:Nat.ble m n=false):n<m:=by
 rcases Nat.lt_or_ge n m with h1|h1
 ·exact h1
 ·rw[Nat.ble_eq.mpr h1] at h;cases h
theorem zhn{m n:Nat}(h:Nat.ble (Nat.succ m) n=true):m<n:=Nat.ble_eq.mp h
theorem zho{a b n:Nat}(h:Nat.ble (Nat.add a b) n=true):a+b<=n:=Nat.ble_eq.mp h
theorem zbE{m n:Nat}(h:Nat.beq m n=true):m=n:=Nat.eq_of_beq_eq_true h
theorem beq_f{m n:Nat}(h:Nat.beq m n=false):m≠n:=λe=>by subst e;rw[Nat.beq_refl] at h;cases h
theorem zdw{lo hi mx:Bool}{bs:List AV}{len cap:Nat}{c:Nat->Nat->Nat->Option β}(h:bnd lo hi mx bs len cap c=some r):∃q,zZ lo hi mx bs len cap=some q/\c q.1 q.2.1 q.2.2=some r:=by
 unfold bnd at h;cases hb:zZ lo hi mx bs len cap with
 | none=>rw[hb] at h;cases h
 | some q=>rw[hb] at h;simp only[zH] at h;exact⟨q,rfl,h⟩
theorem zag{h:H}{S:St}{b:Nat}{c:List AV->Option β}(ha:Abs h S)(hc:cells h b c=some r):∃k cs,S[b]?=some k/\k.cells=some cs/\c cs=some r:=by
 unfold cells at hc;split at hc<;>first|exact⟨_,_,ha.at_ (by assumption) (by intro h;cases h),rfl,hc⟩|cases hc
theorem zbM{h:H}{S:St}{b:Nat}{c:Nat->List AV->Option β}(ha:Abs h S)(hc:ownd h b c=some r):∃tag cs,S[b]?=some (.own tag cs)/\c tag cs=some r:=by
 unfold ownd at hc;split at hc<;>first|exact⟨_,_,ha.at_ (by assumption) (by intro h;cases h),hc⟩|cases hc
theorem zdV{h:H}{S:St}{b:Nat}{c:List (List UInt8 × AV)->Nat->Option β}(ha:Abs h S)(hc:mapd h b c=some r):∃es ck,S[b]?=some (.map es ck)/\c es ck=some r:=by
 unfold mapd at hc;split at hc<;>first|exact⟨_,_,ha.at_ (by assumption) (by intro h;cases h),hc⟩|cases hc
def Goes(sem:St->Option (AV × St))(S:St)(k:K β)(r:β):Prop:=∃v S' h',sem S=some (v,S')/\Abs h' S'/\k v h'=some r
theorem Goes.here{sem:St->Option (AV × St)}{S:St}{h:H}{k:K β}{v:AV}(ha:Abs h S)(hs:sem S=some (v,S))(hk:k v h=some r):Goes sem S k r:=⟨v,S,h,hs,ha,hk⟩
theorem Goes.new{sem:St->Option (AV × St)}{S:St}{h:H}{k:K β}{v:AV}{b:Blk}(ha:Abs h S)(hs:sem S=some (v,S++[b]))(hk:k v (h.push b)=some r):Goes sem S k r:=⟨v,_,_,hs,ha.push b,hk⟩
theorem zbL:∀{ps:List (Nat × Nat)} {z vs:List AV} {k:VK β},zG z ps vs k=some r->∃cs,fill ps vs z=some cs/\k (.agg cs)=some r
 | [],z,[],k,h=>⟨z,rfl,h⟩
 | [],z,v::vs,k,h=>by cases h
 | p::ps,z,[],k,h=>by cases h
 | (off,size)::ps,z,v::vs,k,h=>by
  have h1:zG z ((off,size)::ps) (v::vs) k=zdx v (cond (Nat.beq size 1) (cond (Nat.ble (Nat.succ off) (lenF z)) (zG (putN z off v) ps vs k) none) none)
     λus=>cond (Nat.beq (lenF us) size) (cond (Nat.ble (Nat.add off size) (lenF z)) (zG (zbJ z off us) ps vs k) none) none:=rfl
  rw[h1] at h;rcases zb2 h with⟨us,rfl,h2⟩|⟨h2,h3,h4⟩
  ·obtain⟨h3,h4⟩:=zb h2;obtain⟨h5,h6⟩:=zb h4;have h3:=zbE h3;have h5:=zao h5
   simp only[zg,zam] at h3 h5 h6;obtain⟨cs,h7,h8⟩:=zbL h6;refine⟨cs,?_,h8⟩;simp only[fill,AV.flat,Option.bind_some];rw[if_pos ⟨h3,h5⟩];exact h7
  ·obtain⟨h5,h6⟩:=zb h4;obtain⟨h7,h8⟩:=zb h6;have h5:=zbE h5;have h7:=zao h7
   simp only[zg,zaQ] at h7 h8;subst h5;obtain⟨cs,h9,h10⟩:=zbL h8;refine⟨cs,?_,h10⟩;simp only[fill,h2,Option.bind_some];rw[if_pos ⟨rfl,h7⟩];exact h9
theorem zfx{tag es bytes n:Nat}{s:AV}{new:List AV}{h:H}{S:St}{k:K β}(ha:Abs h S)(hg:zge tag es bytes s n new h k=some r):Goes (grow tag es bytes s n new) S k r:=by
 unfold zge at hg;rcases zaO hg with⟨rfl,h1⟩|⟨b,o,len,cap,g,rfl,h1⟩
 ·rcases zaA h1 with⟨h2,h3⟩|⟨h2,h3⟩
  ·have h2:=zbE h2;exact .here ha (by simp[grow,h2]) h3
  ·have h2:=beq_f h2;obtain⟨h4,h5⟩:=zb h3;obtain⟨h6,h7⟩:=zb h5;have h4:=zao h4;have h6:=zao h6
   rw[zad] at h7;refine .new ha ?_ h7;simp only[grow];rw[if_neg h2,if_pos ⟨h4,h6⟩,ha.len]
 ·rw[zH] at h1;rcases zaA h1 with⟨h2,h3⟩|⟨h2,h3⟩
  ·have h2:len+n<=cap:=zao h2;rcases zaA h3 with⟨h4,h5⟩|⟨h4,h5⟩
   ·have h4:=zbE h4;exact .here ha (by simp only[grow];rw[if_pos h2,if_pos h4]) h5
   ·have h4:=beq_f h4;obtain⟨tag',cs,h6,h7⟩:=zbM ha h5;obtain⟨h8,h9⟩:=zb h7;have h8:=zao h8;simp only[zg,zam] at h8 h9;refine⟨_,_,_,?_,ha.set h6 _,h9⟩;simp only[grow];rw[if_pos h2,if_neg h4];have h8:o+len*es+new.length<=cs.length:=h8;simp only[St.storeN,h6,if_pos h8,Option.map_some];rfl
  ·have h2:=ble_f h2;obtain⟨h4,h5⟩:=zb h3;obtain⟨h6,h7⟩:=zb h5;have h4:=zao h4;have h6:=zao h6
   obtain⟨kb,cs,h8,h9,h10⟩:=zag ha h7;obtain⟨h11,h12⟩:=zb h10;have h11:=zao h11;simp only[zg] at h11;have h2:¬ len+n<=cap:=by have:cap<len+n:=h2;omega
   have h4:len+n<room:=h4;have h11:o+len*es<=cs.length:=h11;have hl:S.loadN b o (len*es)=some ((cs.drop o).take (len*es)):=by simp only[St.loadN,h8,h9,if_pos h11]
   cases g with
   | none=>
    simp only[zad,zbe,zA,zL] at h12;refine .new ha ?_ h12;simp only[grow];rw[if_neg h2,if_pos ⟨h4,h6⟩,hl];simp only[Option.bind_some,ha.len];rfl
   | some es'=>
    obtain⟨tag',cs',h13,h14⟩:=zbM ha h12;obtain⟨h15,h16⟩:=zb h14;obtain⟨h17,h18⟩:=zb h16;obtain⟨h19,h20⟩:=zb h18;have h15:=zbE h15;have h17:=zbE h17;have h19:=zbE h19
    simp only[zad,zbe,zA,zL,zg,H.n_set] at h17 h20;rw[h13] at h8;cases h8;refine⟨_,_,_,?_,(ha.set h13 .dead).push _,h20⟩;simp only[grow];rw[if_neg h2,if_pos ⟨h4,h6⟩,hl];simp only[Option.bind_some,h13,ha.len];rw[if_pos ⟨h15,h17,h19⟩];rfl
theorem zdj{S:St}{b o n:Nat}{kb:Blk}{cs:List AV}(h1:S[b]?=some kb)(h2:kb.cells=some cs)(h3:o+n<=cs.length):S.loadN b o n=some ((cs.drop o).take n):=by
 simp only[St.loadN,h1,h2,if_pos h3]
theorem zg9{es:Nat}{a:AV}{h:H}{S:St}{c:Nat->List AV->Option β}(ha:Abs h S)(hs:fSrc es a h c=some r):∃n new,zaw a=some n/\zW S es n a=some new/\c n new=some r:=by
 unfold fSrc at hs;split at hs
 ·exact⟨0,[],rfl,rfl,hs⟩
 ·obtain⟨kb,cs,h8,h9,h10⟩:=zag ha hs;obtain⟨h11,h12⟩:=zb h10;have h11:=zao h11;simp only[zg,zA,zL] at h11 h12;exact⟨_,_,rfl,zdj h8 h9 h11,h12⟩
 ·rename_i s;obtain⟨h11,h12⟩:=zb hs;have h11:=zbE h11;simp only[zH,zg] at h12;exact⟨_,_,rfl,by simp only[zW,if_pos h11,List.take_length],h12⟩
 ·cases hs
theorem zei{a:AV}{c:Nat->Option β}(h:aLen a c=some r):∃n,zaw a=some n/\c n=some r:=by
 unfold aLen at h;split at h
 ·exact⟨_,rfl,h⟩
 ·exact⟨_,rfl,h⟩
 ·simp only[zH,zg] at h;exact⟨_,rfl,h⟩
 ·cases h
theorem zgd{es m:Nat}{a:AV}{h:H}{S:St}{c:List AV->Option β}(ha:Abs h S)(hs:fSrcM es m a h c=some r):∃new,zW S es m a=some new/\c new=some r:=by
 unfold fSrcM at hs;split at hs
 ·exact⟨[],rfl,hs⟩
 ·obtain⟨kb,cs,h8,h9,h10⟩:=zag ha hs;obtain⟨h11,h12⟩:=zb h10;have h11:=zao h11;simp only[zg,zA,zL] at h11 h12;exact⟨_,zdj h8 h9 h11,h12⟩
 ·obtain⟨h11,h12⟩:=zb hs;have h11:=zbE h11;simp only[zA] at h12;exact⟨_,by simp only[zW,if_pos h11],h12⟩
 ·cases hs
theorem zhs{vs:List AV}{c:Option β}(h:a0 vs c=some r):vs=[]/\c=some r:=by
 unfold a0 at h;split at h<;>first|exact⟨rfl,h⟩|cases h
theorem zz{vs:List AV}{c:AV->Option β}(h:a1 vs c=some r):∃a,vs=[a]/\c a=some r:=by
 unfold a1 at h;split at h<;>first|exact⟨_,rfl,h⟩|cases h
theorem zE{vs:List AV}{c:AV->AV->Option β}(h:a2 vs c=some r):∃a b,vs=[a,b]/\c a b=some r:=by
 unfold a2 at h;split at h<;>first|exact⟨_,_,rfl,h⟩|cases h
theorem zhr{vs:List AV}{c:AV->AV->AV->Option β}(h:a3 vs c=some r):∃a b d,vs=[a,b,d]/\c a b d=some r:=by
 unfold a3 at h;split at h<;>first|exact⟨_,_,_,rfl,h⟩|cases h
theorem zdy{vs:List AV}{c:AV->List AV->Option β}(h:aC vs c=some r):∃a b,vs=a::b/\c a b=some r:=by
 unfold aC at h;split at h<;>first|exact⟨_,_,rfl,h⟩|cases h
theorem z6{a b:AV}{c:IntKind->Int->Int->Option β}(h:(aInt a λka x=>aInt b λkb y=>cond (kEq ka kb) (c ka x y) none)=some r) :
  ∃k x y,a = .int k x/\b = .int k y/\c k x y=some r:=by
 obtain⟨ka,x,rfl,h_1⟩:=zaF h;obtain⟨kb,y,rfl,h_2⟩:=zaF h_1;obtain⟨h1,h_3⟩:=zb h_2;simp only[zaX,decide_eq_true_eq] at h1;subst h1;exact⟨_,_,_,rfl,rfl,h_3⟩
theorem fBinI_ok{op:BinOp}{a b:AV}{k:VK β}(h:fBinI op a b k=some r):∃ka x kb y v,a = .int ka x/\b = .int kb y/\zF op ka kb=true/\binI op ka x y=some v/\k v=some r:=by
 cases op with
 | add=>obtain⟨k,x,y,rfl,rfl,h_1⟩:=z6 h;simp only[zaR,zaj] at h_1;exact⟨_,_,_,_,_,rfl,rfl,by simp[zF],rfl,h_1⟩
 | sub=>obtain⟨k,x,y,rfl,rfl,h_1⟩:=z6 h;simp only[zaR,zaj] at h_1;exact⟨_,_,_,_,_,rfl,rfl,by simp[zF],rfl,h_1⟩
 | mul=>obtain⟨k,x,y,rfl,rfl,h_1⟩:=z6 h;simp only[zaR,zaj] at h_1;exact⟨_,_,_,_,_,rfl,rfl,by simp[zF],rfl,h_1⟩
 | eql=>obtain⟨k,x,y,rfl,rfl,h_1⟩:=z6 h;exact⟨_,_,_,_,_,rfl,rfl,by simp[zF],by simp only[binI];rw[show (x==y)=eqZ x y by rw[zfA];simp[Bool.beq_eq_decide_eq]],h_1⟩
 | neq=>obtain⟨k,x,y,rfl,rfl,h_1⟩:=z6 h;exact⟨_,_,_,_,_,rfl,rfl,by simp[zF],by simp only[binI];rw[show (x != y)=not (eqZ x y) by rw[zfA];simp[bne,Bool.beq_eq_decide_eq]],h_1⟩
 | lss=>obtain⟨k,x,y,rfl,rfl,h_1⟩:=z6 h;exact⟨_,_,_,_,_,rfl,rfl,by simp[zF],by simp only[binI];rw[show decide (x<y)=ltZ x y by rw[zaV]],h_1⟩
 | leq=>obtain⟨k,x,y,rfl,rfl,h_1⟩:=z6 h;exact⟨_,_,_,_,_,rfl,rfl,by simp[zF],by simp only[binI];rw[show decide (x<=y)=not (ltZ y x) by rw[zaV,<- decide_not];congr 1;apply propext;omega],h_1⟩
 | gtr=>obtain⟨k,x,y,rfl,rfl,h_1⟩:=z6 h;exact⟨_,_,_,_,_,rfl,rfl,by simp[zF],by simp only[binI];rw[show decide (x>y)=ltZ y x by rw[zaV]],h_1⟩
 | geq=>obtain⟨k,x,y,rfl,rfl,h_1⟩:=z6 h;exact⟨_,_,_,_,_,rfl,rfl,by simp[zF],by simp only[binI];rw[show decide (x>=y)=not (ltZ x y) by rw[zaV,<- decide_not];congr 1;apply propext;omega],h_1⟩
 | _=>
  obtain⟨ka,x,rfl,h_1⟩:=zaF h;obtain⟨kb,y,rfl,h_2⟩:=zaF h_1;obtain⟨h1,h_3⟩:=zb h_2;obtain⟨v,h2,h3⟩:=zr h_3;exact⟨_,_,_,_,_,rfl,rfl,h1,h2,h3⟩
theorem fBinS_ok{op:BinOp}{a b:AV}{k:VK β}(h:fBinS op a b k=some r):∃x y v,a = .str x/\b = .str y/\binS op x y=some v/\k v=some r:=by
 cases op with
 | add=>
  obtain⟨x,rfl,h_1⟩:=zk h;obtain⟨y,rfl,h_2⟩:=zk h_1;obtain⟨h1,h_3⟩:=zb h_2;have h1:=zao h1;simp only[zg,zbe,zeT] at h1 h_3;have h1:x.length+y.length+1<=9223372036854775807:=h1;exact⟨_,_,_,rfl,rfl,by simp only[binS];rw[if_pos (by omega)],h_3⟩
 | eql=>obtain⟨x,rfl,h_1⟩:=zk h;obtain⟨y,rfl,h_2⟩:=zk h_1;rw[zbc] at h_2;exact⟨_,_,_,rfl,rfl,rfl,h_2⟩
 | neq=>obtain⟨x,rfl,h_1⟩:=zk h;obtain⟨y,rfl,h_2⟩:=zk h_1;rw[zbc] at h_2;exact⟨_,_,_,rfl,rfl,rfl,h_2⟩
 | _=>
  obtain⟨x,rfl,h_1⟩:=zk h;obtain⟨y,rfl,h_2⟩:=zk h_1;obtain⟨v,h2,h3⟩:=zr h_2;exact⟨_,_,_,rfl,rfl,h2,h3⟩
def FOk(fcall:zc β)(scall:Call):Prop:=∀f vs h k r S,fcall f vs h k=some r->Abs h S->Goes (scall f vs) S k r
theorem zd8{a:AV}{h:H}{S:St}{k:VK β}(ha:Abs h S)(hl:zT a h k=some r):∃b o v,a = .ptr b o/\S.load1 b o=some v/\k v=some r:=by
 obtain⟨b,o,rfl,hl_1⟩:=zap hl;obtain⟨kb,cs,h1,h2,h3⟩:=zag ha hl_1;obtain⟨v,h4,h5⟩:=zr h3;rw[zba] at h4;exact⟨_,_,v,rfl,by simp only[St.load1,h1,h2,h4],h5⟩
theorem zd7{n:Nat}{a:AV}{h:H}{S:St}{k:VK β}(ha:Abs h S)(hl:zm n a h k=some r):∃b o cs,a = .ptr b o/\S.loadN b o n=some cs/\k (.agg cs)=some r:=by
 obtain⟨b,o,rfl,hl_1⟩:=zap hl;obtain⟨kb,cs,h1,h2,h3⟩:=zag ha hl_1;obtain⟨h4,h5⟩:=zb h3;have h4:=zao h4;simp only[zg,zA,zL] at h4 h5;have h4:o+n<=cs.length:=h4;exact⟨_,_,_,rfl,by simp only[St.loadN,h1,h2,if_pos h4],h5⟩
theorem zg8{n:Nat}{a v:AV}{h:H}{S:St}{k:H->Option β}(ha:Abs h S)(hl:zbk n a v h k=some r) :
  ∃b o us S' h',a = .ptr b o/\v.flat=some us/\us.length=n/\S.storeN b o us=some S'/\Abs h' S'/\k h'=some r:=by
 obtain⟨b,o,rfl,hl_1⟩:=zap hl;obtain⟨tag,cs,h1,h3⟩:=zbM ha hl_1;rcases zb2 h3 with⟨us,rfl,h4⟩|⟨h4,_,h5⟩
 ·obtain⟨h5,h6⟩:=zb h4;obtain⟨h7,h8⟩:=zb h6;have h5:=zbE h5;have h7:=zao h7
  simp only[zg,zam] at h5 h7 h8;have h7:o+us.length<=cs.length:=by rw[h5];exact h7
  exact⟨_,_,us,_,_,rfl,rfl,h5,by simp only[St.storeN,h1,if_pos h7],ha.set h1 _,h8⟩
 ·obtain⟨h6,h7⟩:=zb h5;obtain⟨h8,h9⟩:=zb h7;have h6:=zbE h6;have h8:=zao h8
  simp only[zg,zaQ] at h8 h9;have h8:o+[v].length<=cs.length:=h8;exact⟨_,_,[v],_,_,rfl,h4,h6.symm,by simp only[St.storeN,h1,if_pos h8];rfl,ha.set h1 _,h9⟩
theorem zfy{fcall:zc β}{scall:Call}(hc:FOk fcall scall){f:OpK}{vs:List AV}{h:H}{k:K β}{S:St}(hf:fAp fcall f vs h k=some r)(ha:Abs h S):Goes (ap scall f vs) S k r:=by
 cases f with
 | mov=>obtain⟨a,rfl,hf_1⟩:=zz hf;exact .here ha rfl hf_1
 | mkmap=>
  obtain⟨rfl,hf_1⟩:=zhs hf;simp only[fMkmap,zad] at hf_1;exact .new ha (by simp only[ap,ha.len]) hf_1
 | lookup ok z=>
  obtain⟨a,b,rfl,hf_1⟩:=zE hf;unfold zhd at hf_1;split at hf_1
  ·obtain⟨s,rfl,hf_2⟩:=zk hf_1;refine .here (v:=if ok then .tup [z,.bool false] else z) ha rfl ?_;cases ok<;>exact hf_2
  ·rename_i m;obtain⟨s,rfl,hf_2⟩:=zk hf_1;obtain⟨es,ck,h1,h2⟩:=zdV ha hf_2;rw[zfp] at h2;cases hk:z7 s es with
   | some v=>
    rw[hk] at h2;refine .here (v:=if ok then .tup [v,.bool true] else v) ha (by simp only[ap,h1,hk]) ?_;cases ok<;>exact h2
   | none=>
    rw[hk] at h2;refine .here (v:=if ok then .tup [z,.bool false] else z) ha (by simp only[ap,h1,hk]) ?_;cases ok<;>exact h2
  ·cases hf_1
 | mapSet=>
  obtain⟨a,b,c,rfl,hf_1⟩:=zhr hf;unfold zhc at hf_1;split at hf_1
  ·rename_i m;obtain⟨s,rfl,hf_2⟩:=zk hf_1;obtain⟨hsc,hf_3⟩:=zb hf_2;obtain⟨es,ck,h1,h2⟩:=zdV ha hf_3;rw[zfb] at h2;exact⟨_,_,_,by simp only[ap,h1,hsc,if_pos],ha.set h1 _,h2⟩
  ·cases hf_1
 | pick=>
  obtain⟨a,b,c,rfl,hf_1⟩:=zhr hf;obtain⟨x,rfl,hf_2⟩:=zai hf_1;refine .here (v:=if x then b else c) ha rfl ?_;cases x<;>exact hf_2
 | alloc tag z=>
  obtain⟨rfl,hf_1⟩:=zhs hf;simp only[zc5,zad] at hf_1;exact .new ha (by simp only[ap,ha.len]) hf_1
 | box tag=>
  obtain⟨a,rfl,hf_1⟩:=zz hf;simp only[fBox,zad] at hf_1;rcases zb2 hf_1 with⟨us,rfl,hf_2⟩|⟨h1,_,hf_2⟩
  ·exact .new ha (by simp only[ap,AV.flat,Option.map_some,ha.len]) hf_2
  ·exact .new ha (by simp only[ap,h1,Option.map_some,ha.len]) hf_2
 | build z ps=>
  obtain⟨cs,h1,h2⟩:=zbL hf;exact .here ha (by simp only[ap,h1,Option.map_some]) h2
 | bslice tag z n ps=>
  obtain⟨cs,h1,h2⟩:=zbL hf;obtain⟨s,h3,h4⟩:=zaG h2;cases h3;rw[zad] at h4;exact .new ha (by simp only[ap,h1,Option.map_some,ha.len]) h4
 | load1=>
  obtain⟨a,rfl,hf_1⟩:=zz hf;obtain⟨b,o,v,rfl,h1,h2⟩:=zd8 ha hf_1;exact .here ha (by simp only[ap,h1,Option.map_some]) h2
 | loadN n=>
  obtain⟨a,rfl,hf_1⟩:=zz hf;obtain⟨b,o,v,rfl,h1,h2⟩:=zd7 ha hf_1;exact .here ha (by simp only[ap,h1,Option.map_some]) h2
 | store n=>
  obtain⟨a,v,rfl,hf_1⟩:=zE hf;obtain⟨b,o,us,S',h',rfl,h1,h2,h3,h4,h5⟩:=zg8 ha hf_1;exact⟨_,_,_,by simp only[ap,h1,Option.bind_some,if_pos h2,h3,Option.map_some],h4,h5⟩
 | nilCheck=>
  obtain⟨a,rfl,hf_1⟩:=zz hf;unfold fNil at hf_1;split at hf_1
  ·exact .here ha rfl hf_1
  ·exact .here ha rfl hf_1
  ·cases hf_1
 | binI op=>
  obtain⟨a,b,rfl,hf_1⟩:=zE hf;obtain⟨ka,x,kb,y,v,rfl,rfl,h1,h2,h3⟩:=fBinI_ok hf_1;exact .here ha (by simp only[ap,h1,if_true,h2,Option.map_some]) h3
 | binS op=>
  obtain⟨a,b,rfl,hf_1⟩:=zE hf;obtain⟨x,y,v,rfl,rfl,h2,h3⟩:=fBinS_ok hf_1;exact .here ha (by simp only[ap,h2,Option.map_some]) h3
 | eqB neg=>
  obtain⟨a,b,rfl,hf_1⟩:=zE hf;obtain⟨x,rfl,hf_2⟩:=zai hf_1;obtain⟨y,rfl,hf_3⟩:=zai hf_2;exact .here ha rfl hf_3
 | isNil c neg=>
  obtain⟨a,rfl,hf_1⟩:=zz hf;obtain⟨x,h1,hf_2⟩:=zr hf_1;exact .here ha (by simp only[ap,h1,Option.map_some]) hf_2
 | eqP neg=>
  obtain⟨a,b,rfl,hf_1⟩:=zE hf;obtain⟨x,o,rfl,hf_2⟩:=zap hf_1;obtain⟨y,o',rfl,hf_3⟩:=zap hf_2;obtain⟨h1,hf_4⟩:=zb hf_3;obtain⟨h2,hf_5⟩:=zb hf_4;exact .here ha (by simp only[ap];rw[if_pos ⟨zbE h1,zbE h2⟩]) hf_5
 | eqA ks neg=>
  obtain⟨a,b,rfl,hf_1⟩:=zE hf;obtain⟨x,rfl,hf_2⟩:=zaG hf_1;obtain⟨y,rfl,hf_3⟩:=zaG hf_2;obtain⟨v,h1,hf_4⟩:=zr hf_3;exact .here ha (by simp only[ap,h1,Option.map_some]) hf_4
 | notB=>
  obtain⟨a,rfl,hf_1⟩:=zz hf;obtain⟨x,rfl,hf_2⟩:=zai hf_1;exact .here ha rfl hf_2
 | negI=>
  obtain⟨a,rfl,hf_1⟩:=zz hf;obtain⟨kd,n,rfl,hf_2⟩:=zaF hf_1;simp only[zaR,zaj] at hf_2;exact .here ha rfl hf_2
 | conv kd=>
  obtain⟨a,rfl,hf_1⟩:=zz hf;obtain⟨kd',n,rfl,hf_2⟩:=zaF hf_1;simp only[zaR,zaj] at hf_2;exact .here ha rfl hf_2
 | b2s=>
  obtain⟨a,rfl,hf_1⟩:=zz hf;rcases zaO hf_1 with⟨rfl,hf_2⟩|⟨b,o,l,m,g,rfl,hf_2⟩
  ·exact .here ha rfl hf_2
  ·obtain⟨kb,cs,h1,h2,h3⟩:=zag ha hf_2;obtain⟨h4,h5⟩:=zb h3;have h4:=zao h4;obtain⟨s,h6,h7⟩:=zr h5;simp only[zg,zA,zL] at h4 h6;have h4:o+l<=cs.length:=h4;exact .here ha (by simp only[ap,St.loadN,h1,h2,if_pos h4,Option.bind_some,h6,Option.map_some]) h7
 | s2b tag=>
  obtain⟨a,rfl,hf_1⟩:=zz hf;obtain⟨s,rfl,hf_2⟩:=zk hf_1;simp only[zad,zH,zg] at hf_2;exact .new ha (by simp only[ap,ha.len]) hf_2
 | idS=>
  obtain⟨a,rfl,hf_1⟩:=zz hf;obtain⟨s,rfl,hf_2⟩:=zk hf_1;exact .here ha rfl hf_2
 | slS lo hi=>
  obtain⟨a,bs,rfl,hf_1⟩:=zdy hf;obtain⟨s,rfl,hf_2⟩:=zk hf_1;obtain⟨q,h1,h2⟩:=zdw hf_2;simp only[zg,zA,zL] at h1 h2;exact .here ha (by simp only[ap,h1,Option.map_some]) h2
 | slL es lo hi mx=>
  obtain⟨a,bs,rfl,hf_1⟩:=zdy hf;rcases zaO hf_1 with⟨rfl,hf_2⟩|⟨b,o,l,m,g,rfl,hf_2⟩
  ·obtain⟨q,h1,h2⟩:=zr hf_2;exact .here ha (by simp only[ap,h1,Option.map_some]) h2
  ·obtain⟨h1,hf_3⟩:=zb hf_2;obtain⟨q,h2,h3⟩:=zdw hf_3;simp only[zH] at h3;have hg:g=none\/g=some es:=by
    cases g with
    | none=>exact .inl rfl
    | some e=>exact .inr (by rw[zbE h1])
   refine .here (v:=.sl b (o+q.1*es) (q.2.1-q.1) (q.2.2-q.1) (if mx then none else g)) ha ?_ ?_
   ·simp only[ap];rw[if_pos hg,h2];rfl
   ·cases mx<;>exact h3
 | slA n es lo hi mx=>
  obtain⟨a,bs,rfl,hf_1⟩:=zdy hf;obtain⟨b,o,rfl,hf_2⟩:=zap hf_1;obtain⟨q,h2,h3⟩:=zdw hf_2;simp only[zH] at h3;exact .here ha (by simp only[ap,h2,Option.map_some];rfl) h3
 | fadr off=>
  obtain⟨a,rfl,hf_1⟩:=zz hf;obtain⟨b,o,rfl,hf_2⟩:=zap hf_1;rw[zH] at hf_2;exact .here ha rfl hf_2
 | fld1 off=>
  obtain⟨a,rfl,hf_1⟩:=zz hf;obtain⟨cs,rfl,hf_2⟩:=zaG hf_1;obtain⟨v,h1,h2⟩:=zr hf_2;rw[zba] at h1;exact .here ha (by simp only[ap,h1,Option.map_some]) h2
 | fldN n off=>
  obtain⟨a,rfl,hf_1⟩:=zz hf;obtain⟨cs,rfl,hf_2⟩:=zaG hf_1;obtain⟨h1,h2⟩:=zb hf_2;have h1:=zho h1;simp only[zg,zA,zL] at h1 h2;exact .here ha (by simp only[ap];rw[if_pos h1]) h2
 | iadr es=>
  obtain⟨a,i,rfl,hf_1⟩:=zE hf;rcases zaO hf_1 with⟨_,hf_2⟩|⟨b,o,l,m,g,rfl,hf_2⟩
  ·cases hf_2
  ·obtain⟨n,h1,hf_3⟩:=zaq hf_2;obtain⟨h2,h3⟩:=zb hf_3;have h2:=zhn h2;rw[zH] at h3;exact .here ha (by simp only[ap,h1,Option.bind_some];rw[if_pos h2];rfl) h3
 | iadrA n es=>
  obtain⟨a,i,rfl,hf_1⟩:=zE hf;obtain⟨b,o,rfl,hf_2⟩:=zap hf_1;obtain⟨n,h1,hf_3⟩:=zaq hf_2;obtain⟨h2,h3⟩:=zb hf_3;have h2:=zhn h2;rw[zH] at h3;exact .here ha (by simp only[ap,h1,Option.bind_some];rw[if_pos h2];rfl) h3
 | idxS=>
  obtain⟨a,i,rfl,hf_1⟩:=zE hf;obtain⟨s,rfl,hf_2⟩:=zk hf_1;obtain⟨n,h1,hf_3⟩:=zaq hf_2;obtain⟨c,h2,h3⟩:=zr hf_3;rw[zba] at h2;rw[zH] at h3;exact .here ha (by simp only[ap,h1,Option.bind_some,h2,Option.map_some];rfl) h3
 | idxA1 n es=>
  obtain⟨a,i,rfl,hf_1⟩:=zE hf;obtain⟨s,rfl,hf_2⟩:=zaG hf_1;obtain⟨n,h1,hf_3⟩:=zaq hf_2;obtain⟨h2,hf_4⟩:=zb hf_3;have h2:=zhn h2;obtain⟨c,h3,h4⟩:=zr hf_4;rw[zba] at h3;exact .here ha (by simp only[ap,h1,Option.bind_some];rw[if_pos h2,show s[n*es]?=some c from h3];rfl) h4
 | idxAN n es m=>
  obtain⟨a,i,rfl,hf_1⟩:=zE hf;obtain⟨s,rfl,hf_2⟩:=zaG hf_1;obtain⟨n,h1,hf_3⟩:=zaq hf_2;obtain⟨h2,hf_4⟩:=zb hf_3;have h2:=zhn h2;obtain⟨h3,h4⟩:=zb hf_4;have h3:=zho h3;simp only[zg,zA,zL] at h3 h4;exact .here ha (by simp only[ap,h1,Option.bind_some];rw[if_pos ⟨h2,h3⟩];rfl) h4
 | ext i=>
  obtain⟨a,rfl,hf_1⟩:=zz hf;unfold pExt at hf_1;split at hf_1
  ·obtain⟨v,h1,h2⟩:=zr hf_1;rw[zba] at h1;exact .here ha (by simp only[ap,h1,Option.map_some]) h2
  ·cases hf_1
 | mkfn g=>exact .here ha rfl hf
 | mkslice tag z bytes=>
  obtain⟨a,b,rfl,hf_1⟩:=zE hf;obtain⟨l,h1,hf_2⟩:=zaq hf_1;obtain⟨c,h2,hf_3⟩:=zaq hf_2;obtain⟨h3,hf_4⟩:=zb hf_3;obtain⟨h4,hf_5⟩:=zb hf_4;obtain⟨h5,hf_6⟩:=zb hf_5;have h3:=zao h3;have h4:=zao h4;have h5:=zao h5
  rw[zad] at hf_6;exact .new ha (by simp only[ap,h1,h2,Option.bind_some];rw[if_pos ⟨h3,h4,h5⟩,ha.len]) hf_6
 | lenS=>
  obtain⟨a,rfl,hf_1⟩:=zz hf;obtain⟨s,rfl,hf_2⟩:=zk hf_1;simp only[zH,zg] at hf_2;exact .here ha rfl hf_2
 | lenL=>
  obtain⟨a,rfl,hf_1⟩:=zz hf;rcases zaO hf_1 with⟨rfl,hf_2⟩|⟨b,o,l,m,g,rfl,hf_2⟩
  ·exact .here ha rfl hf_2
  ·exact .here ha rfl hf_2
 | lenC n=>
  obtain⟨a,rfl,hf_1⟩:=zz hf;exact .here ha rfl hf_1
 | capL=>
  obtain⟨a,rfl,hf_1⟩:=zz hf;rcases zaO hf_1 with⟨rfl,hf_2⟩|⟨b,o,l,m,g,rfl,hf_2⟩
  ·exact .here ha rfl hf_2
  ·cases g with
   | none=>exact .here ha rfl hf_2
   | some g=>cases hf_2
 | app tag es bytes=>
  obtain⟨a,b,rfl,hf_1⟩:=zE hf;obtain⟨n,new,h1,h2,h3⟩:=zg9 ha hf_1;obtain⟨v,S',h',h4,h5,h6⟩:=zfx ha h3;exact⟨_,_,_,by simp only[ap,h1,h2,Option.bind_some];exact h4,h5,h6⟩
 | appz tag es bytes z=>
  obtain⟨a,b,rfl,hf_1⟩:=zE hf;obtain⟨n,h1,hf_2⟩:=zaq hf_1;obtain⟨h2,hf_3⟩:=zb hf_2;obtain⟨h3,hf_4⟩:=zb hf_3;have h2:=zao h2;have h3:=zao h3
  obtain⟨v,S',h',h4,h5,h6⟩:=zfx ha hf_4;exact⟨_,_,_,by simp only[ap,h1,Option.bind_some];rw[if_pos ⟨h2,h3⟩];exact h4,h5,h6⟩
 | cpy es=>
  obtain⟨d,x,rfl,hf_1⟩:=zE hf;obtain⟨dl,h1,hf_2⟩:=zei hf_1;obtain⟨xl,h2,hf_3⟩:=zei hf_2;rw[zH] at hf_3;have hm:cond (Nat.ble xl dl) xl dl=min xl dl:=by
   cases hb:Nat.ble xl dl with
   | true=>have:=zao hb;simp only[cond_true];omega
   | false=>have:=ble_f hb;simp only[cond_false];omega
  rw[hm] at hf_3;obtain⟨us,h3,h4⟩:=zgd ha hf_3;rcases zaO h4 with⟨rfl,h4⟩|⟨b,o,l,m,g,rfl,h4⟩
  ·exact .here ha (by simp only[ap,h1,h2,h3,Option.bind_some];rfl) h4
  ·rcases zaA h4 with⟨h5,h6⟩|⟨h5,h6⟩
   ·have h5:=zbE h5;exact .here ha (by simp only[ap,h1,h2,h3,Option.bind_some,zhk];rw[if_pos h5];rfl) h6
   ·have h5:=beq_f h5;obtain⟨tag,cs,h7,h8⟩:=zbM ha h6;obtain⟨h9,h10⟩:=zb h8;have h9:=zao h9;simp only[zg,zam] at h9 h10;have h9:o+us.length<=cs.length:=h9;refine⟨_,_,_,?_,ha.set h7 _,h10⟩;simp only[ap,h1,h2,h3,Option.bind_some,zhk];rw[if_neg h5];simp only[St.storeN,h7,if_pos h9,Option.map_some];rfl
 | minI=>
  obtain⟨a,b,rfl,hf_1⟩:=zE hf;obtain⟨k,x,y,rfl,rfl,hf_2⟩:=z6 hf_1;refine .here (v:=.int k (if y<x then y else x)) ha (by simp only[ap,if_true]) ?_;simp only[zaV,Bool.cond_decide] at hf_2;exact hf_2
 | maxI=>
  obtain⟨a,b,rfl,hf_1⟩:=zE hf;obtain⟨k,x,y,rfl,rfl,hf_2⟩:=z6 hf_1;refine .here (v:=.int k (if y>x then y else x)) ha (by simp only[ap,if_true]) ?_;simp only[zaV,Bool.cond_decide] at hf_2;exact hf_2
 | call g=>exact hc _ _ _ _ _ _ hf ha
 | callv=>
  obtain⟨g,vs,rfl,hf_1⟩:=zdy hf;exact hc _ _ _ _ _ _ hf_1 ha
 | mkifc=>
  obtain⟨a,rfl,hf_1⟩:=zz hf;exact .here ha rfl hf_1
 | _=>cases hf
end
end Am.F
end
section
namespace Am.F
open Go Am
section
variable {β:Type} {r:β} {fcall:zc β} {scall:Call}
theorem zhe{v:AV}{h:H}{b:H->K β->Option β}{k:K β}(hh:fAnd v h b k=some r):(v = .bool true/\b h k=some r)\/(v = .bool false/\k (.bool false) h=some r):=by
 obtain⟨x,rfl,h1⟩:=zai hh;cases x
 ·exact .inr ⟨rfl,h1⟩
 ·exact .inl ⟨rfl,h1⟩
theorem fOr_some{v:AV}{h:H}{b:H->K β->Option β}{k:K β}(hh:fOr v h b k=some r):(v = .bool false/\b h k=some r)\/(v = .bool true/\k (.bool true) h=some r):=by
 obtain⟨x,rfl,h1⟩:=zai hh;cases x
 ·exact .inl ⟨rfl,h1⟩
 ·exact .inr ⟨rfl,h1⟩
theorem zfw{v:AV}{a b:Option β}(hh:fIf v a b=some r):(v = .bool true/\a=some r)\/(v = .bool false/\b=some r):=by
 obtain⟨x,rfl,h1⟩:=zai hh;cases x
 ·exact .inr ⟨rfl,h1⟩
 ·exact .inl ⟨rfl,h1⟩
mutual
theorem zcV(hc:FOk fcall scall){ce:Env}:∀(e:SE) {h:H} {k:K β} {S:St},fE fcall e ce h k=some r->Abs h S->Goes (evE scall ce e) S k r
 | .v x m,h,k,S,hf,ha=>by
  have hf:k (nth ce x) h=some r:=hf;rw[zbP] at hf;exact .here ha (by simp only[evE]) hf
 | .k c,h,k,S,hf,ha=>.here ha (by simp only[evE]) hf
 | .op d f args,h,k,S,hf,ha=>by
  have hf:fEs fcall args ce h (λvs h=>fAp fcall f vs h k)=some r:=hf;obtain⟨vs,S1,h1,h2,h3,h4⟩:=fEs_ok hc args hf ha;obtain⟨v,S2,h',h5,h6,h7⟩:=zfy hc h4 h3;exact⟨v,S2,h',by simp only[evE,h2,Option.bind_some];exact h5,h6,h7⟩
 | .opr d f a b,h,k,S,hf,ha=>by
  have hf:fE fcall b ce h (λvb h=>fE fcall a ce h λva h=>fAp fcall f [va,vb] h k)=some r:=hf;obtain⟨vb,S1,h1,h2,h3,h4⟩:=zcV hc b hf ha;obtain⟨va,S2,h5,h6,h7,h8⟩:=zcV hc a h4 h3;obtain⟨v,S3,h',h9,h10,h11⟩:=zfy hc h8 h7;exact⟨v,S3,h',by simp only[evE,h2,h6,Option.bind_some];exact h9,h10,h11⟩
 | .and m p a b,h,k,S,hf,ha=>by
  have hf:fE fcall a ce h (λv h=>fAnd v h (λh k=>fE fcall b ce h k) k)=some r:=hf;obtain⟨va,S1,h1,h2,h3,h4⟩:=zcV hc a hf ha;rcases zhe h4 with⟨rfl,h5⟩|⟨rfl,h5⟩
  ·obtain⟨v,S2,h',h6,h7,h8⟩:=zcV hc b h5 h3;exact⟨v,S2,h',by simp only[evE,h2,Option.bind_some];exact h6,h7,h8⟩
  ·exact⟨_,_,_,by simp only[evE,h2,Option.bind_some],h3,h5⟩
 | .or m p a b,h,k,S,hf,ha=>by
  have hf:fE fcall a ce h (λv h=>fOr v h (λh k=>fE fcall b ce h k) k)=some r:=hf;obtain⟨va,S1,h1,h2,h3,h4⟩:=zcV hc a hf ha;rcases fOr_some h4 with⟨rfl,h5⟩|⟨rfl,h5⟩
  ·obtain⟨v,S2,h',h6,h7,h8⟩:=zcV hc b h5 h3;exact⟨v,S2,h',by simp only[evE,h2,Option.bind_some];exact h6,h7,h8⟩
  ·exact⟨_,_,_,by simp only[evE,h2,Option.bind_some],h3,h5⟩
theorem fEs_ok(hc:FOk fcall scall){ce:Env}:∀(es:List SE) {h:H} {k:List AV->H->Option β} {S:St},fEs fcall es ce h k=some r->Abs h S ->
  ∃vs S' h',evEs scall ce es S=some (vs,S')/\Abs h' S'/\k vs h'=some r
 | [],h,k,S,hf,ha=>⟨[],S,h,by simp only[evEs],ha,hf⟩
 | e::es,h,k,S,hf,ha=>by
  have hf:fE fcall e ce h (λv h=>fEs fcall es ce h λvs h=>k (v::vs) h)=some r:=hf;obtain⟨v,S1,h1,h2,h3,h4⟩:=zcV hc e hf ha;obtain⟨vs,S2,h',h5,h6,h7⟩:=fEs_ok hc es h4 h3;exact⟨v::vs,S2,h',by simp only[evEs,h2,h5,Option.bind_some,Option.map_some],h6,h7⟩
end
theorem zfr(hc:FOk fcall scall):∀(ss:List SS) {ce:Env} {h:H} {k:Env->H->Option β} {S:St},fSS fcall ss ce h k=some r->Abs h S ->
  ∃ce' S' h',exSS scall ss ce S=some (ce',S')/\Abs h' S'/\k ce' h'=some r/\ce'.length=ce.length
 | [],ce,h,k,S,hf,ha=>⟨ce,S,h,by simp only[exSS],ha,hf,rfl⟩
 | .set x e::ss,ce,h,k,S,hf,ha=>by
  have hf:fE fcall e ce h (λv h=>fSS fcall ss (putN ce x v) h k)=some r:=hf;obtain⟨v,S1,h1,h2,h3,h4⟩:=zcV hc e hf ha;simp only[zaQ] at h4;obtain⟨ce',S2,h',h5,h6,h7,h8⟩:=zfr hc ss h4 h3;exact⟨ce',S2,h',by simp only[exSS,h2,h5,Option.bind_some],h6,h7,by simpa using h8⟩
 | .ef e::ss,ce,h,k,S,hf,ha=>by
  have hf:fE fcall e ce h (λv h=>fSS fcall ss ce h k)=some r:=hf;obtain⟨v,S1,h1,h2,h3,h4⟩:=zcV hc e hf ha;obtain⟨ce',S2,h',h5,h6,h7,h8⟩:=zfr hc ss h4 h3;exact⟨ce',S2,h',by simp only[exSS,h2,h5,Option.bind_some],h6,h7,h8⟩
theorem zhb(ce:Env)(p:Opd):fOpd ce p=p.ev ce:=by
 cases p with
 | t i=>exact zbP ce i
 | c v=>rfl
theorem fOp_ok(hc:FOk fcall scall){o:IOp}{ce:Env}{h:H}{k:K β}{S:St}(hf:fOp fcall o ce h k=some r)(ha:Abs h S):Goes (exOp scall o ce) S k r:=by
 have hm:o.args.map (fOpd ce)=o.args.map (·.ev ce):=List.map_congr_left λp _=>zhb ce p
 unfold fOp at hf;split at hf
 ·rename_i hg;rw[hm] at hf;obtain⟨v,S',h',h1,h2,h3⟩:=zfy hc hf ha;exact⟨v,S',h',by simp only[exOp,hg,wanted];exact h1,h2,h3⟩
 ·rename_i g hg;rw[hm,zbP] at hf;unfold fGrd at hf;obtain⟨t,w⟩:=g;split at hf
  ·rename_i b hb;have hb:ce.getD t (.tup []) = .bool b:=hb;have hcs:(b=w/\fAp fcall o.k (o.args.map (·.ev ce)) h k=some r)\/(b≠w/\k (.tup []) h=some r):=by
    cases b<;>cases w<;>first|exact .inl ⟨rfl,hf⟩|exact .inr ⟨by decide,hf⟩
   rcases hcs with⟨h0,hf⟩|⟨h0,hf⟩
   ·obtain⟨v,S',h',h1,h2,h3⟩:=zfy hc hf ha;exact⟨v,S',h',by simp only[exOp,hg,wanted,hb,h0,beq_self_eq_true];exact h1,h2,h3⟩
   ·exact .here ha (by
     have:(b==w)=false:=by simpa using h0
     simp only[exOp,hg,wanted,hb,this]) hf
  ·rename_i us hb;have hb:ce.getD t (.tup []) = .tup us:=hb;exact .here ha (by simp only[exOp,hg,wanted,hb]) hf
  ·cases hf
theorem fPut_eq(d:Option Nat)(ce:Env)(v:AV):fPut d ce v=setD ce d v:=by
 cases d with
 | none=>rfl
 | some d=>exact zaQ ce d v
theorem setD_len(d:Option Nat)(ce:Env)(v:AV):(setD ce d v).length=ce.length:=by
 cases d<;>simp[setD]
theorem fNone_ok:FOk (β:=β) (λ_ _ _ _=>none) (λ_ _ _=>none):=λ_ _ _ _ _ _ h _=>by cases h
theorem zeU(hc:FOk fcall scall){ops:List IOp}:∀(its:List DItem) {ce:Env} {h:H} {k:Env->H->Option β} {S:St},fIts fcall ops its ce h k=some r->Abs h S ->
  ∃ce' S' h',zj scall ops its ce S=some (ce',S')/\Abs h' S'/\k ce' h'=some r/\ce'.length=ce.length
 | [],ce,h,k,S,hf,ha=>⟨ce,S,h,rfl,ha,hf,rfl⟩
 | .op i::its,ce,h,k,S,hf,ha=>by
  have hf:(match ops[i]? with
    | some o=>fOp fcall o ce h λv h=>fIts fcall ops its (fPut o.dst ce v) h k
    | none=>none)=some r:=hf
  split at hf
  ·rename_i o ho;obtain⟨v,S1,h1,h2,h3,h4⟩:=fOp_ok hc hf ha;simp only[fPut_eq] at h4;obtain⟨ce',S2,h',h5,h6,h7,h8⟩:=zeU hc its h4 h3;exact⟨ce',S2,h',by simp only[zj,ho,h2,Option.bind_some];exact h5,h6,h7,by rw[h8,setD_len]⟩
  ·cases hf
 | .chk i::its,ce,h,k,S,hf,ha=>by
  have hf:(match ops[i]? with
    | some o=>(match o.dst with
     | some d=>fOp (λ_ _ _ _=>none) o ce h λv _=>fChk v (nth ce d) (fIts fcall ops its ce h k)
     | none=>none)
    | none=>none)=some r:=hf
  split at hf
  ·rename_i o ho;split at hf
   ·rename_i d hd;obtain⟨v,S1,h1,h2,h3,h4⟩:=fOp_ok fNone_ok hf ha;obtain⟨h5,h6⟩:=zb h4;rw[zbP] at h5;obtain⟨ce',S2,h',h7,h8,h9,h10⟩:=zeU hc its h6 ha;exact⟨ce',S2,h',by simp only[zj,ho,hd,h2,Option.bind_some,h5,if_true];exact h7,h8,h9,h10⟩
   ·cases hf
  ·cases hf
theorem zfv(live:List Nat):∀(ce:Env) (i:Nat),zdo live ce i=ce.mapIdx λj v=>if live.contains (i+j) then v else .any
 | [],i=>by simp[zdo]
 | v::ce,i=>by
  have h1:zdo live (v::ce) i=cond (live.contains i) v .any::zdo live ce (Nat.succ i):=rfl;rw[h1,zfv live ce,List.mapIdx_cons];congr 1
  ·cases live.contains (i+0)<;>rfl
  ·apply List.mapIdx_eq_mapIdx_iff.2;intro j hj;rw[show i.succ+j=i+(j+1) by omega]
theorem fKeep_eq(live:List Nat)(ce:Env):zdo live ce 0=zB live ce:=by
 rw[zfv];simp only[zB,Nat.zero_add]
theorem zdY(live:List Nat)(ce:Env):(zB live ce).length=ce.length:=by simp[zB]
theorem za5:∀(n:Nat) {f:Env->H->Option β} {ce:Env} {h:H},zcr n (zds n f) ce h=some r->f ce h=some r/\ce.length=n
 | 0,f,[],h,hu=>⟨hu,rfl⟩
 | 0,f,x::ce,h,hu=>by cases hu
 | n+1,f,[],h,hu=>by cases hu
 | n+1,f,x::ce,h,hu=>by
  have:=za5 n (f:=λxs=>f (x::xs)) (ce:=ce) (h:=h) hu
  exact⟨this.1,by simp[this.2]⟩
def Ends(kn kr:Env->H->Option β)(kx:Nat->Env->H->Option β)(r:β)(x:Ex)(ce:Env)(h:H):Prop:=match x with
 | .normal=>kn ce h=some r
 | .ret=>kr ce h=some r
 | .exit id=>kx id ce h=some r
theorem fC_ok(hc:FOk fcall scall){N nv:Nat}:∀(c:SC) {ce:Env} {h:H} {kn kr:Env->H->Option β} {kx:Nat->Env->H->Option β} {S:St},
  fC fcall N nv c ce h kn kr kx=some r->ce.length=nv->Abs h S->∃x ce' S' h',exS scall N c ce S=some (x,ce',S')/\ce'.length=nv/\Abs h' S'/\Ends kn kr kx r x ce' h':=by
 intro c
 induction c with
 | skip=>intro ce h kn kr kx S hf hl ha;exact⟨.normal,ce,S,h,rfl,hl,ha,hf⟩
 | ret=>intro ce h kn kr kx S hf hl ha;exact⟨.ret,ce,S,h,rfl,hl,ha,hf⟩
 | exit id=>intro ce h kn kr kx S hf hl ha;exact⟨.exit id,ce,S,h,rfl,hl,ha,hf⟩
 | reg ss=>
  intro ce h kn kr kx S hf hl ha;obtain⟨ce',S',h',h1,h2,h3,h4⟩:=zfr hc ss hf ha;exact⟨.normal,ce',S',h',by simp only[exS,h1,Option.map_some],h4.trans hl,h2,h3⟩
 | dreg lv ops its=>
  intro ce h kn kr kx S hf hl ha;have hf:fIts fcall ops its (appF ce (List.replicate lv.length (.tup []))) h (λce h=>kn (zbi nv ce) h)=some r:=hf;rw[zbe] at hf;obtain⟨ce',S',h',h1,h2,h3,h4⟩:=zeU hc its hf ha;rw[zA] at h3;refine⟨.normal,ce'.take ce.length,S',h',by simp only[exS,h1,Option.map_some],?_,h2,by rw[hl];exact h3⟩;rw[List.length_take,h4,List.length_append];omega
 | seq a b iha ihb=>
  intro ce h kn kr kx S hf hl ha;have hf:cond (br a) (zdp nv (zds nv λce h=>fC fcall N nv b ce h kn kr kx) λj=>fC fcall N nv a ce h (zcr nv j) kr kx) (fC fcall N nv a ce h (λce h=>fC fcall N nv b ce h kn kr kx) kr kx)=some r:=hf;have key:∃x ce' S' h',exS scall N a ce S=some (x,ce',S')/\ce'.length=nv/\Abs h' S'/\Ends (λce h=>fC fcall N nv b ce h kn kr kx) kr kx r x ce' h':=by
   rcases zaA hf with⟨_,hf⟩|⟨_,hf⟩
   ·obtain⟨x,ce',S',h',h1,h2,h3,h4⟩:=iha hf hl ha;refine⟨x,ce',S',h',h1,h2,h3,?_⟩;cases x with
    | normal=>exact (za5 nv h4).1
    | ret=>exact h4
    | exit id=>exact h4
   ·exact iha hf hl ha
  obtain⟨x,ce',S',h',h1,h2,h3,h4⟩:=key;cases x with
  | normal=>
   obtain⟨x,ce2,S2,h2',h5,h6,h7,h8⟩:=ihb h4 h2 h3;exact⟨x,ce2,S2,h2',by simp only[exS,h1];exact h5,h6,h7,h8⟩
  | ret=>exact⟨.ret,ce',S',h',by simp only[exS,h1],h2,h3,h4⟩
  | exit id=>exact⟨.exit id,ce',S',h',by simp only[exS,h1],h2,h3,h4⟩
 | cond c a b iha ihb=>
  intro ce h kn kr kx S hf hl ha;have hf:fIf (fOpd ce c) (fC fcall N nv a ce h kn kr kx) (fC fcall N nv b ce h kn kr kx)=some r:=hf;rw[zhb] at hf;rcases zfw hf with⟨hv,hf⟩|⟨hv,hf⟩
  ·obtain⟨x,ce2,S2,h2',h5,h6,h7,h8⟩:=iha hf hl ha;exact⟨x,ce2,S2,h2',by simp only[exS,hv];exact h5,h6,h7,h8⟩
  ·obtain⟨x,ce2,S2,h2',h5,h6,h7,h8⟩:=ihb hf hl ha;exact⟨x,ce2,S2,h2',by simp only[exS,hv];exact h5,h6,h7,h8⟩
 | ifr ss e a b iha ihb=>
  intro ce h kn kr kx S hf hl ha;have hf:fSS fcall ss ce h (λce h=>fE fcall e ce h λv h=>fIf v (fC fcall N nv a ce h kn kr kx) (fC fcall N nv b ce h kn kr kx))=some r:=hf;obtain⟨ce1,S1,h1',h1,h2,h3,h4⟩:=zfr hc ss hf ha;obtain⟨v,S2,h2',h5,h6,h7⟩:=zcV hc e h3 h2;rcases zfw h7 with⟨rfl,hf⟩|⟨rfl,hf⟩
  ·obtain⟨x,ce3,S3,h3',h8,h9,h10,h11⟩:=iha hf (h4.trans hl) h6;exact⟨x,ce3,S3,h3',by simp only[exS,h1,h5,Option.bind_some];exact h8,h9,h10,h11⟩
  ·obtain⟨x,ce3,S3,h3',h8,h9,h10,h11⟩:=ihb hf (h4.trans hl) h6;exact⟨x,ce3,S3,h3',by simp only[exS,h1,h5,Option.bind_some];exact h8,h9,h10,h11⟩
 | block id c ih=>
  intro ce h kn kr kx S hf hl ha;have hf:fC fcall N nv c ce h kn kr (λid' ce h=>cond (Nat.beq id' id) (kn ce h) (kx id' ce h))=some r:=hf;obtain⟨x,ce',S',h',h1,h2,h3,h4⟩:=ih hf hl ha;cases x with
  | normal=>exact⟨.normal,ce',S',h',by simp only[exS,h1],h2,h3,h4⟩
  | ret=>exact⟨.ret,ce',S',h',by simp only[exS,h1],h2,h3,h4⟩
  | exit id'=>
   have h4:cond (Nat.beq id' id) (kn ce' h') (kx id' ce' h')=some r:=h4;rw[zbd] at h4
   by_cases hid:id'=id
   ·rw[if_pos hid] at h4;exact⟨.normal,ce',S',h',by simp only[exS,h1,if_pos hid],h2,h3,h4⟩
   ·rw[if_neg hid] at h4;exact⟨.exit id',ce',S',h',by simp only[exS,h1,if_neg hid],h2,h3,h4⟩
 | loop live c ih=>
  intro ce h kn kr kx S hf hl ha;have key:∀(M:Nat) (ce:Env) (h:H) (S:St),zcr nv (fLoop nv M λagain=>zds nv λce h=>fC fcall N nv c (zdo live ce 0) h (zcr nv again) kr kx) ce h=some r->ce.length=nv->Abs h S ->
    ∃x ce' S' h',iter (λce S=>exS scall N c (zB live ce) S) M ce S=some (x,ce',S')/\ce'.length=nv/\Abs h' S'/\Ends kn kr kx r x ce' h':=by
   intro M
   induction M with
   | zero=>
    intro ce h S hf hl ha;have hf:zcr nv (zds nv λ_ _=>none) ce h=some r:=hf;cases (za5 nv hf).1
   | succ M ihM=>
    intro ce h S hf hl ha;have hf:zcr nv (zds nv λce h=>fC fcall N nv c (zdo live ce 0) h (zcr nv (fLoop nv M λagain=>zds nv λce h=>fC fcall N nv c (zdo live ce 0) h (zcr nv again) kr kx)) kr kx) ce h=some r:=hf;have hf:=(za5 nv hf).1;rw[fKeep_eq] at hf;obtain⟨x,ce',S',h',h1,h2,h3,h4⟩:=ih hf ((zdY live ce).trans hl) ha;cases x with
    | normal=>
     obtain⟨x,ce2,S2,h2',h5,h6,h7,h8⟩:=ihM _ _ _ h4 h2 h3;exact⟨x,ce2,S2,h2',by simp only[iter,h1];exact h5,h6,h7,h8⟩
    | ret=>exact⟨.ret,ce',S',h',by simp only[iter,h1],h2,h3,h4⟩
    | exit id=>exact⟨.exit id,ce',S',h',by simp only[iter,h1],h2,h3,h4⟩
  exact key N ce h S hf hl ha
theorem zcJ{h:H}{S:St}(ha:Abs h S){ce:Env}:∀(res:List IRes) {k:List AV->Option β},fRes res ce h k=some r->∃vs,zbB ce S res=some vs/\k vs=some r
 | [],k,hf=>⟨[],rfl,hf⟩
 | .tmp t::rs,k,hf=>by
  have hf:fRes rs ce h (λvs=>k (nth ce t::vs))=some r:=hf;obtain⟨vs,h1,h2⟩:=zcJ ha rs hf;rw[zbP] at h2;exact⟨_,by simp only[zbB,h1,Option.bind_some,Option.map_some],h2⟩
 | .cell1 t::rs,k,hf=>by
  have hf:zT (nth ce t) h (λv=>fRes rs ce h λvs=>k (v::vs))=some r:=hf;obtain⟨b,o,v,h1,h2,h3⟩:=zd8 ha hf;obtain⟨vs,h4,h5⟩:=zcJ ha rs h3;rw[zbP] at h1;exact⟨_,by simp only[zbB,h1,h2,h4,Option.bind_some,Option.map_some],h5⟩
 | .cellN t n::rs,k,hf=>by
  have hf:zm n (nth ce t) h (λv=>fRes rs ce h λvs=>k (v::vs))=some r:=hf;obtain⟨b,o,v,h1,h2,h3⟩:=zd7 ha hf;obtain⟨vs,h4,h5⟩:=zcJ ha rs h3;rw[zbP] at h1;exact⟨_,by simp only[zbB,h1,h2,h4,Option.bind_some,Option.map_some],h5⟩
def IOk(T:Nat->Option SFn)(I:FI):Prop:=∀g f,T g=some (.intr f)->∀args h v h' S,I g args h=some (v,h')->Abs h S->∃S',f args S=some (v,S')/\Abs h' S'
theorem zha{T:Nat->Option SFn}{I:FI}(hI:IOk T I):∀n,FOk (β:=β) (fRun T I n) (runS T n)
 | 0=>λf vs h k r S hf ha=>by cases hf
 | n+1=>λf vs h k r S hf ha=>by
  have ih:=zha hI n;cases f with
  | fn g caps=>
   have hf:(match T g with
    | some fn=>z8 I g fn n (fRun T I n) (appF vs caps) h k
    | none=>none)=some r:=hf
   rw[zbe] at hf;split at hf
   ·rename_i fn hT;cases fn with
    | intr f=>
     have hf:fInt I g (vs++caps) h k=some r:=hf;obtain⟨q,h1,h2⟩:=zr hf;obtain⟨S',h3,h4⟩:=hI g f hT _ _ _ _ _ h1 ha;refine⟨q.1,S',q.2,?_,h4,h2⟩;unfold runS;simp only[hT,h3]
    | src nt vm res body=>
     have hf:fC (fRun T I n) n (lenF vm) body (vm.map (nth (vs++caps))) h (λce h=>fRes res ce h λvs=>k (one vs) h) (λce h=>fRes res ce h λvs=>k (one vs) h) (λ_ _ _=>none)=some r:=hf;obtain⟨x,ce',S',h',h1,h2,h3,h4⟩:=fC_ok ih body hf (by simp[zg]) ha;have hvm:vm.map (nth (vs++caps))=vm.map λt=>(vs++caps).getD t (.tup []):=List.map_congr_left λt _=>zbP _ t
     rw[hvm] at h1;cases x with
     | normal=>
      obtain⟨us,h5,h6⟩:=zcJ h3 res h4;refine⟨_,S',h',?_,h3,h6⟩;unfold runS;simp only[hT,h1,h5,Option.map_some]
     | ret=>
      obtain⟨us,h5,h6⟩:=zcJ h3 res h4;refine⟨_,S',h',?_,h3,h6⟩;unfold runS;simp only[hT,h1,h5,Option.map_some]
     | exit id=>cases h4
   ·cases hf
  | _=>cases hf
theorem fRunS_ok{t:ETree}{I:FI}(hI:IOk t.T I){n:Nat}{f:AV}{vs:List AV}{h:H}{k:K β}{S:St}(hf:zcg t I n f vs h k=some r)(ha:Abs h S):Goes (runS t.T n f vs) S k r:=by
 rw[zfs] at hf;exact zha hI n _ _ _ _ _ _ hf ha
end
end Am.F
end
section
namespace Am
open Go Go.RowKit
section
variable {kf kt:Nat->Nat} {w0:Base} {P:Program} {fm:FM} {S:St} {w:World}
def zbW(P:Program)(kf kt:Nat->Nat)(G:Base->Prop)(f:FuncId)(g:List AV->St->Option (AV × St)):Prop :=
 ∀(args:List AV) (S:St) (v:AV) (S':St),g args S=some (v,S') ->
  ∀(w0:Base),G w0->∀(fm:FM) (w:World) (us:List Value),R kf kt w0 fm S w->VRs kf fm args us->zcc P f/\CallsIn (FR none) 0 P f us.toArray w (zgh kf kt w0 fm v S')
theorem VRs.one{a:AV}{us:List Value}(h:VRs kf fm [a] us):∃u,us=[u]/\VR kf fm a u:=by
 simp only[VRs] at h;obtain⟨u,_,rfl,h1,rfl⟩:=h;exact⟨u,rfl,h1⟩
theorem VRs.two{a b:AV}{us:List Value}(h:VRs kf fm [a,b] us):∃u v,us=[u,v]/\VR kf fm a u/\VR kf fm b v:=by
 simp only[VRs] at h;obtain⟨u,_,rfl,h1,v,_,rfl,h2,rfl⟩:=h;exact⟨u,v,rfl,h1,h2⟩
theorem zbu{f:FuncId}{us:List Value}{v:AV}{u:Value}(hR:R kf kt w0 fm S w)(hv:VR kf fm v u)
  (hc:Calls P f us.toArray w λe w'=>e = .returned u/\Below w.heap.size w w'):CallsIn (FR none) 0 P f us.toArray w (zgh kf kt w0 fm v S):=by
 refine callsIn_wide.2 (hc.mono ?_)
 rintro e w' ⟨rfl,hb⟩
 exact⟨[],u,rfl,by rw[List.append_nil];exact hR.grown hb,by rw[List.append_nil];exact hv⟩
def GTab(P:Program)(B:Base):Prop :=
 (∃g,P.globalNamed "internal/strconv.uint64pow10"=some g/\B.K g)/\Lib.TabIs P B.w "internal/strconv.uint64pow10" .u64 Lib.pow10Tab
theorem GTab.at_{B:Base}(h:GTab P B)(ht:Turned B B.w w):Lib.TabIs P w "internal/strconv.uint64pow10" .u64 Lib.pow10Tab:=by
 obtain⟨⟨g,h1,h2⟩,h3⟩:=h;unfold Lib.TabIs World.var? at h3 ⊢;simp only[h1,Option.bind_some] at h3 ⊢;rw[ht.block g h2];exact h3
theorem zgb:zch (GTab P):=by
 intro B w X hX hs ht h;obtain⟨⟨g,h1,h2⟩,h3⟩:=h;exact⟨⟨g,h1,.inl h2⟩,GTab.at_ ⟨⟨g,h1,h2⟩,h3⟩ ht⟩
def zeR(args:List AV)(S:St):Option (AV × St):=match args with
 | [.int .i64 n]=>if -9223372036854775808<=n/\n<=9223372036854775807 then some (.str (Lib.itoa n),S) else none
 | _=>none
theorem zg1{f:FuncId}(hE:zcc P f)
  (hI:∀(n:Int),-9223372036854775808<=n->n<=9223372036854775807->∀(w:World),Lib.TabIs P w "internal/strconv.uint64pow10" .u64 Lib.pow10Tab ->
   Calls P f #[.int .i64 n] w λe w'=>e = .returned (.string ⟨(Lib.itoa n).toArray⟩)/\Below w.heap.size w w'):zbW P kf kt (GTab P) f zeR:=by
 intro args S v S' hg w0 hG fm w us hR hv;refine⟨hE,?_⟩;unfold zeR at hg;split at hg
 ·rename_i n;split at hg
  ·rename_i hn;cases hg;obtain⟨u,rfl,hu⟩:=hv.one;simp only[VR] at hu;subst hu;refine zbu hR (u:=.string ⟨(Lib.itoa n).toArray⟩) (by simp only[VR];exact⟨_,rfl,by simp⟩) ?_;exact hI n hn.1 hn.2 w (hG.at_ hR.below)
  ·cases hg
 ·cases hg
def zb3:List AV->Option (List (List UInt8))
 | []=>some []
 | .str s::vs=>(zb3 vs).map (s::·)
 | _=>none
def zeQ(args:List AV)(S:St):Option (AV × St):=match args with
 | [.nils,.str _]=>some (.str [],S)
 | [.sl b o len _ _,.str sep]=>(S.loadN b o len).bind λcs=>(zb3 cs).bind λxs=>
  if xs.length<=140737488355328/\(Lib.join xs sep).length<=140737488355328 then some (.str (Lib.join xs sep),S) else none
 | _=>none
theorem R.cell(hR:R kf kt w0 fm S w){b:Nat}{k:Blk}{cs:List AV}{p:Addr × Nat}(hb:S[b]?=some k)(hc:k.cells=some cs)(hp:fm[b]?=some p){i:Nat}{u:AV}(hu:cs[i]?=some u) :
  ∃v,w.cell? (p.1.add i)=some v/\VR kf fm u v:=by
 have h:=hR.blk b k p hb hp;cases k with
 | own tag cs'=>
  simp only[Blk.cells,Option.some.injEq] at hc;subst hc;obtain⟨hs,⟨c,elem,fr,h1,_,_,_,h2⟩,_⟩:=h;obtain⟨_,v,h3,h4⟩:=h2 i u hu;refine⟨v,?_,h4⟩;rw[zV hs];simp only[World.cell?,h1];simpa using h3
 | ro cs'=>
  simp only[Blk.cells,Option.some.injEq] at hc;subst hc;exact (h.2 i u hu).2
 | _=>cases hc
theorem zeg{a:Addr}{v:Value}(h:w.cell? a=some v):a.spot=none/\a.block<w.heap.size:=by
 unfold World.cell? at h;split at h
 ·rename_i hh;split at h
  ·cases h
  ·rename_i hs;refine⟨by cases ha:a.spot<;>simp_all,?_⟩;rcases Nat.lt_or_ge a.block w.heap.size with h1|h1
   ·exact h1
   ·rw[Array.getElem?_eq_none h1] at hh;cases hh
 ·cases h
theorem zcX:∀{cs:List AV} {xs:List (List UInt8)},zb3 cs=some xs->cs=xs.map .str
 | [],xs,h=>by simp only[zb3,Option.some.injEq] at h;subst h;rfl
 | c::cs,xs,h=>by
  unfold zb3 at h;split at h
  ·rename_i h0;cases h0
  ·rename_i s vs h0;cases h0;simp only[Option.map_eq_some_iff] at h;obtain⟨ys,h1,rfl⟩:=h;rw[zcX h1];rfl
  ·cases h
theorem zg0{f:FuncId}{G:Base->Prop}(hE:zcc P f)
  (hN:∀(a:Option Addr) (c:Nat) (sep:ByteArray) (w:World),Calls P f #[.slice a 0 c,.string sep] w λe w'=>e = .returned (.string ⟨#[]⟩)/\w'=w)
  (hJ:∀(bk o c:Nat) (xs:List ByteArray) (sep:ByteArray) (w:World),(∀(j:Nat) x,xs[j]?=some x->w.cell? ⟨bk,o+j,none⟩=some (.string x))->bk<w.heap.size->xs.length<=140737488355328->xs.length<=c ->
   (Lib.join (xs.map (·.data.toList)) sep.data.toList).length<=140737488355328 ->
   Calls P f #[.slice (some ⟨bk,o,none⟩) xs.length c,.string sep] w λe w'=>e = .returned (.string ⟨(Lib.join (xs.map (·.data.toList)) sep.data.toList).toArray⟩)/\Below w.heap.size w w'):zbW P kf kt G f zeQ:=by
 intro args S v S' hg w0 hG fm w us hR hv;refine⟨hE,?_⟩;unfold zeQ at hg;split at hg
 ·rename_i sep;cases hg;obtain⟨u,u',rfl,hu,hu'⟩:=hv.two;simp only[VR] at hu hu';subst hu;obtain⟨bs,rfl,_⟩:=hu';refine zbu hR (u:=.string ⟨#[]⟩) (by simp only[VR];exact⟨_,rfl,rfl⟩) ((hN none 0 bs w).mono ?_)
  rintro e w' ⟨rfl,rfl⟩
  exact⟨rfl,Below.refl _ _⟩
 ·rename_i b o len cap g sep;simp only[Option.bind_eq_some_iff] at hg;obtain⟨cs,h1,xs,h2,h3⟩:=hg;split at h3
  ·rename_i hle;cases h3;obtain⟨u,u',rfl,hu,hu'⟩:=hv.two;simp only[VR] at hu hu';obtain⟨p,rc,ra,hp,rfl,hc1,hc2,hc3,hra,_,_⟩:=hu;obtain⟨bs,rfl,hbs⟩:=hu';have hcs:=zcX h2;unfold St.loadN at h1;split at h1
   ·rename_i k hk;split at h1
    ·rename_i kc hkc;split at h1
     ·rename_i hlen;cases h1;have hxl:xs.length=len:=by
       have:=congrArg List.length hcs
       simp only[List.length_take,List.length_drop,List.length_map] at this;omega
      have hget:∀(j:Nat) (x:List UInt8),xs[j]?=some x->∃y:ByteArray,w.cell? (p.1.add (o+j))=some (.string y)/\y.data.toList=x:=by
       intro j x hx;have hj:j<len:=by rw[<- hxl];exact (List.getElem?_eq_some_iff.1 hx).1
       have hu:kc[o+j]?=some (.str x):=by
        have h5:=congrArg (·[j]?) hcs;simp only[List.getElem?_take,hj,if_true,List.getElem?_drop,List.getElem?_map,hx,Option.map_some] at h5;exact h5
       obtain⟨v,h6,h7⟩:=hR.cell hk hkc hp hu;simp only[VR] at h7;obtain⟨y,rfl,h8⟩:=h7;exact⟨y,h6,h8⟩
      by_cases h0:len=0
      ·subst h0;have hx0:xs=[]:=List.eq_nil_of_length_eq_zero hxl;subst hx0;refine zbu hR (u:=.string ⟨#[]⟩) (by simp only[VR];exact⟨_,rfl,by rw[Lib.join_nil]⟩) ((hN (some ra) rc bs w).mono ?_)
       rintro e w' ⟨rfl,rfl⟩
       exact⟨rfl,Below.refl _ _⟩
      ·have hra':ra=p.1.add o:=by
        rcases hra with h|h
        ·exact h
        ·omega
       obtain⟨ys,hys1,hys2⟩:∃ys:List ByteArray,ys.map (·.data.toList)=xs/\∀(j:Nat) y,ys[j]?=some y->w.cell? (p.1.add (o+j))=some (.string y):=by
        have key:∀(zs:List (List UInt8)) (m:Nat),(∀(j:Nat) (x:List UInt8),zs[j]?=some x->∃y:ByteArray,w.cell? (p.1.add (m+j))=some (.string y)/\y.data.toList=x) ->
          ∃ys:List ByteArray,ys.map (·.data.toList)=zs/\∀(j:Nat) y,ys[j]?=some y->w.cell? (p.1.add (m+j))=some (.string y):=by
         intro zs
         induction zs with
         | nil=>intro m _;exact⟨[],rfl,λj y h=>by simp at h⟩
         | cons z zs ih=>
          intro m hz;obtain⟨y,h1,h2⟩:=hz 0 z rfl;obtain⟨ys,h3,h4⟩:=ih (m+1) λj x hx=>by
           have:=hz (j+1) x (by simpa using hx)
           rw[show m+1+j=m+(j+1) by omega];exact this
          refine⟨y::ys,by simp[h2,h3],λj y' hy=>?_⟩;cases j with
          | zero=>simp at hy;subst hy;exact h1
          | succ j=>
           have:=h4 j y' (by simpa using hy)
           rw[show m+(j+1)=m+1+j by omega];exact this
        exact key xs o hget
       have hyl:ys.length=len:=by rw[<- hxl,<- hys1,List.length_map]
       have hsp:(p.1.add o).spot=none/\(p.1.add o).block<w.heap.size:=by
        have h5:0<ys.length:=by omega
        exact zeg (hys2 0 ys[0] (List.getElem?_eq_getElem h5))
       have hadd:∀j,p.1.add (o+j)=⟨(p.1.add o).block,(p.1.add o).off+j,none⟩:=λj=>by rw[<- zaS,zV hsp.1]
       have hra2:ra=⟨(p.1.add o).block,(p.1.add o).off,none⟩:=by
        have:=hadd 0
        rw[hra'];simpa using this
       have hb:bs.data.toList=sep:=hbs;have hcall:=hJ (p.1.add o).block (p.1.add o).off rc ys bs w (λj x hx=>by rw[<- hadd j];exact hys2 j x hx) hsp.2 (by rw[hyl,<- hxl];exact hle.1) (by omega) (by rw[hys1,hb];exact hle.2);rw[hys1,hb,hyl,<- hra2] at hcall;exact zbu hR (by simp only[VR];exact⟨_,rfl,by simp⟩) hcall
     ·cases h1
    ·cases h1
   ·cases h1
  ·cases h3
 ·cases hg
end
end Am
namespace Am.F
open Go Am
noncomputable def zbC(f:Nat)(u:Nat)(acc:List UInt8):List UInt8 :=
 Nat.rec (motive:=λ_=>Nat->List UInt8->List UInt8) (λ_ acc=>acc) (λ_ ih u acc=>cond (Nat.ble 10 u) (ih (Nat.div u 10) (UInt8.ofNat (Nat.add 48 (Nat.mod u 10))::acc)) (UInt8.ofNat (Nat.add 48 u)::acc)) f u acc
noncomputable def itoaF(n:Int):List UInt8:=Int.rec (motive:=λ_=>List UInt8) (λm=>zbC 20 m []) (λm=>45::zbC 20 (Nat.succ m) []) n
theorem zb0:∀(f u:Nat) (acc:List UInt8),u<10 ^ (f+1)->zbC (f+1) u acc=Lib.decDigits u++acc
 | f,u,acc,h=>by
  have h1:zbC (f+1) u acc=cond (Nat.ble 10 u) (zbC f (u / 10) (UInt8.ofNat (48+u%10)::acc)) (UInt8.ofNat (48+u)::acc):=rfl;rw[h1]
  by_cases hu:u<10
  ·have:Nat.ble 10 u=false:=Bool.eq_false_iff.mpr λhb=>by have:=Nat.ble_eq.mp hb;omega
   rw[this,Lib.decDigits,dif_pos hu];rfl
  ·rw[show Nat.ble 10 u=true from Nat.ble_eq.mpr (by omega),Lib.decDigits,dif_neg hu,cond_true];cases f with
   | zero=>simp at h;omega
   | succ f=>
    rw[zb0 f (u / 10) _ (by rw[Nat.pow_succ] at h;omega)];simp
theorem itoaF_eq{n:Int}(h1:-9223372036854775808<=n)(h2:n<=9223372036854775807):itoaF n=Lib.itoa n:=by
 cases n with
 | ofNat m=>
  show zbC (19+1) m []=_;rw[zb0 19 m [] (by simp only[Int.ofNat_eq_natCast] at h2;omega),Lib.itoa,if_neg (by simp only[Int.ofNat_eq_natCast];omega)];simp
 | negSucc m=>
  show 45::zbC (19+1) (m+1) []=_;rw[zb0 19 (m+1) [] (by simp only[Int.negSucc_eq] at h1;omega),Lib.itoa,if_pos (by simp only[Int.negSucc_eq];omega)];simp[Int.natAbs]
noncomputable def joinF(sep:List UInt8)(vs:List AV):Option (List (List UInt8) × List UInt8) :=
 List.rec (motive:=λ_=>Option (List (List UInt8) × List UInt8)) (some ([],[]))
  (λv vs ih=>aStr v λs=>zP ih λr=>some (s::r.1,List.rec (motive:=λ_=>List UInt8) s (λ_ _ _=>appF s (appF sep r.2)) vs)) vs
theorem zc3{sep:List UInt8}:∀{vs:List AV} {r:List (List UInt8) × List UInt8},joinF sep vs=some r->zb3 vs=some r.1/\r.2=Lib.join r.1 sep
 | [],r,h=>by cases h;exact⟨rfl,rfl⟩
 | v::vs,r,h=>by
  have h:aStr v (λs=>zP (joinF sep vs) λr=>some (s::r.1,List.rec (motive:=λ_=>List UInt8) s (λ_ _ _=>appF s (appF sep r.2)) vs))=some r:=h;obtain⟨s,rfl,h1⟩:=zk h;obtain⟨q,h2,h3⟩:=zr h1;obtain⟨h4,h5⟩:=zc3 h2;cases h3;refine⟨by simp only[zb3,h4,Option.map_some],?_⟩;cases vs with
  | nil=>
   cases h2;show s=_;rw[Lib.join_one]
  | cons v vs=>
   show appF s (appF sep q.2)=_;simp only[zbe];have hne:∃y ys,q.1=y::ys:=by
    unfold zb3 at h4;split at h4
    ·rename_i h0;cases h0
    ·simp only[Option.map_eq_some_iff] at h4;obtain⟨ys,_,h6⟩:=h4;exact⟨_,_,h6.symm⟩
    ·cases h4
   obtain⟨y,ys,hy⟩:=hne;rw[h5,hy,Lib.join_cons,Lib.join_cons];simp[Lib.joinTail,List.append_assoc]
noncomputable def itoaI(args:List AV)(h:H):Option (AV × H):=a1 args λa=>aInt a λk n=>cond (kEq k .i64) (cond (ltZ n (-9223372036854775808)) none (cond (ltZ 9223372036854775807 n) none (some (.str (itoaF n),h)))) none
noncomputable def joinI(args:List AV)(h:H):Option (AV × H):=a2 args λa b=>aStr b λsep=>aSl a (some (.str [],h)) λb o len _ _=>cells h b λcs=>
 cond (Nat.ble (Nat.add o len) (lenF cs)) (zP (joinF sep (zbi len (zbU o cs))) λs=>cond (Nat.ble (lenF s.1) 140737488355328) (cond (Nat.ble (lenF s.2) 140737488355328) (some (.str s.2,h)) none) none) none
theorem itoaI_ok{args:List AV}{h h':H}{v:AV}{S:St}(hi:itoaI args h=some (v,h'))(ha:Abs h S):∃S',zeR args S=some (v,S')/\Abs h' S':=by
 obtain⟨a,rfl,h1⟩:=zz hi;obtain⟨k,n,rfl,h2⟩:=zaF h1;obtain⟨h3,h4⟩:=zb h2;simp only[zaX,decide_eq_true_eq] at h3;subst h3;rcases zaA h4 with⟨_,h5⟩|⟨h5,h6⟩
 ·cases h5
 ·rcases zaA h6 with⟨_,h7⟩|⟨h7,h8⟩
  ·cases h7
  ·simp only[zaV,decide_eq_false_iff_not,Int.not_lt] at h5 h7;cases h8;refine⟨S,?_,ha⟩;simp only[zeR];rw[if_pos ⟨h5,h7⟩,itoaF_eq h5 h7]
theorem joinI_ok{args:List AV}{h h':H}{v:AV}{S:St}(hi:joinI args h=some (v,h'))(ha:Abs h S):∃S',zeQ args S=some (v,S')/\Abs h' S':=by
 obtain⟨a,b,rfl,h1⟩:=zE hi;obtain⟨sep,rfl,h2⟩:=zk h1;rcases zaO h2 with⟨rfl,h3⟩|⟨b,o,l,m,g,rfl,h3⟩
 ·cases h3;exact⟨S,rfl,ha⟩
 ·obtain⟨k,cs,h4,h5,h6⟩:=zag ha h3;obtain⟨h7,h8⟩:=zb h6;obtain⟨q,h9,h10⟩:=zr h8;obtain⟨h11,h12⟩:=zb h10;obtain⟨h13,h14⟩:=zb h12;have h7:=zho h7;have h11:=zao h11;have h13:=zao h13
  simp only[zg,zA,zL] at h7 h9 h11 h13;obtain⟨h15,h16⟩:=zc3 h9;cases h14;refine⟨S,?_,ha⟩;simp only[zeQ,zdj h4 h5 h7,Option.bind_some,h15];rw[if_pos ⟨h11,by rw[<- h16];exact h13⟩,h16]
end Am.F
end
section
namespace Am
open Go Go.RowKit Go.ChangeShapes Go.WideShapes
def zaD(W:World):Base where
 w:=W
 K:=λk=>k<W.heap.size
 O:=λk=>k<W.heap.size
 wf:=λ_ h=>h
 sub:=λ_ h=>h
theorem zen(W:World):Turned (zaD W) W W:=⟨rfl,rfl,rfl,Nat.le_refl _,λ_ _=>rfl⟩
theorem R.start{kf kt:Nat->Nat}(W:World):R kf kt (zaD W) [] [] W where
 len:=rfl
 below:=zen W
 blk:=λb k p hs _=>by simp at hs
 low:=λb k p hs _ _=>by simp at hs
 sep:=λb b' k k' p p' hs _ _ _ _ _ _=>by simp at hs
theorem am_callR{P:Program}{kf kt:Nat->Nat}{G:Base->Prop}(hGm:zch G){t:F.ETree}{I:F.FI}(hL:Link P kf kt G λk=>(t.T k).map SFn.fl)(hok:∀k f,t.T k=some f->f.ok=true)(hI:F.IOk t.T I)
  {n:Nat} {f:FuncId} {args:List AV} {us:List Value} {β:Type} {K:F.K β} {r:β} {h:F.H} {S:St} (hrun:F.zcg t I n (.fn (kf f) []) args h K=some r) (ha:F.Abs h S)
  {w0:Base} (hG:G w0) {fm:FM} {w:World} (hR:R kf kt w0 fm S w) (hv:VRs kf fm args us) :
  zcc P f/\∃v S' h',F.Abs h' S'/\K v h'=some r/\CallsIn (FR none) 0 P f us.toArray w (zgh kf kt w0 fm v S'):=by
 obtain⟨v,S',h',h1,h2,h3⟩:=F.fRunS_ok hI hrun ha;have h4:=zfd hok n _ _ _ _ h1;obtain⟨h5,h6⟩:=(run_ok hGm hL n).fn (kf f) [] args S v S' h4 w0 hG fm w f us hR rfl (by rw[List.append_nil];exact hv);exact⟨h5,v,S',h',h2,h3,h6⟩
theorem am_call{P:Program}{kf kt:Nat->Nat}{G:Base->Prop}(hGm:zch G){t:F.ETree}{I:F.FI}(hL:Link P kf kt G λk=>(t.T k).map SFn.fl)(hok:∀k f,t.T k=some f->f.ok=true)(hI:F.IOk t.T I)
  {n:Nat} {f:FuncId} {args:List AV} {us:List Value} {v:AV} (hrun:F.zcg t I n (.fn (kf f) []) args F.H.emp (λv _=>some v)=some v)
  {W:World} (hG:G (zaD W)) (hv:VRs kf [] args us):Calls P f us.toArray W λe W'=>(∃ext u,e = .returned u/\VR kf ext v u)/\Turned (zaD W) W W':=by
 obtain⟨_,v',S',h',_,h2,h3⟩:=am_callR hGm hL hok hI hrun F.Abs.emp hG (R.start W) hv;cases h2;refine (callsIn_wide.1 h3).mono ?_
 rintro e W' ⟨ext,u,h4,h5,h6⟩
 exact⟨⟨_,u,h4,h6⟩,h5.below⟩
section
variable {H:Type} {enc:TypeId × Value->H} {P:Program}
theorem zbY{W W':World}(ht:Turned (zaD W) W W')(may:MemPlace->Prop):W.keptBut W' may:=by
 refine⟨ht.os,ht.output,λi hi=>?_⟩;rw[ht.block i hi];split
 ·rename_i c t fr c' t' fr' h1 h2;rw[h1] at h2;cases h2;exact⟨rfl,rfl,rfl,λ_ _=>rfl⟩
 ·rename_i es clock es' clock' h1 h2;rw[h1] at h2;cases h2;exact .inr ⟨rfl,rfl⟩
 ·rfl
theorem zeF{f:Func}{s:ChangeSpec}{apart fresh handsOn:Bool}{W W':World}{args:Array Value}{v:Value}{ds gs:List (DataW H)}{before pa pv:List MemPlace}
  (hW:DataW.Whole enc P f.params.toList s.vars apart W args.toList ds gs before)
  (hres:∀(b:Nat) (sp:Nat->Bool) (hd:Bool),DataW.TrodAll enc P W' b sp hd f.resultTypes.toList (v.resultList f.resultTypes.size) (s.fn H (ds++gs)).results [])
  (hargs:∀sp:Nat->Bool,(∀p ∈ before,sp p.block=true)->DataW.TrodAll enc P W' 0 sp true f.params.toList args.toList (s.fn H (ds++gs)).args pa)
  (hvars:∀sp:Nat->Bool,(∀p ∈ before,sp p.block=true)->DataW.TrodVars enc P W' sp s.vars (s.fn H (ds++gs)).vars pv)
  (ht:Turned (zaD W) W W'):s.post enc P f apart fresh handsOn false W args v W':=by
 have hold:∀p ∈ before,(λb=>decide (b<W.heap.size)) p.block=true:=λp hp=>by simpa using hW.lt p hp
 exact⟨ds,gs,before,[],pa,pv,hW,hres _ _ _,hargs _ hold,hvars _ hold,zbY ht _,λh=>by cases h⟩
end
theorem zb8{P:Program}{W:World}{x:String × DataW Unit}{rest:List (String × DataW Unit)}(h:laidMet P (x::rest) W):laidMet P rest W:=by
 obtain⟨ps,⟨g,t,cs,fuel,p,q,_,_,_,_,hr,rfl⟩,hn,hb⟩:=h;exact⟨q,hr,(List.nodup_append.1 hn).2.1,λb off hm=>hb b off (List.mem_append_right _ hm)⟩
theorem gtab_of{P:Program}{W:World}{g:Nat}(hg:P.globalNamed "internal/strconv.uint64pow10"=some g)(h:Lib.TabIs P W "internal/strconv.uint64pow10" .u64 Lib.pow10Tab):GTab P (zaD W):=by
 refine⟨⟨g,hg,?_⟩,h⟩;unfold Lib.TabIs World.var? at h;simp only[hg,Option.bind_some] at h;show g<W.heap.size;rcases Nat.lt_or_ge g W.heap.size with h1|h1
 ·exact h1
 ·rw[Array.getElem?_eq_none h1] at h;cases h
namespace F
variable {β:Type}
end F
end Am
end
section
namespace Am
open Go Go.RowKit
def zg4:SFn->Bool
 | .src ..=>true
 | .intr _=>false
section
variable {P:Program} {kf kt:Nat->Nat} {G:Base->Prop} {t:F.ETree} {f:FuncId}
structure AtF (P:Program) (kf kt:Nat->Nat) (G:Base->Prop) (t:F.ETree) (f:FuncId):Prop where
 code:∀(nt:Nat) (res:List IRes) (body:ICode),(t.T (kf f)).map SFn.fl=some (.code nt res body)->∃fn ls,P.funcs[f]?=some fn/\(fn.name=="runtime.NumGoroutine")=false/\zee P kf kt ls fn=some (.code nt res body)
 intr:∀g,(t.T (kf f)).map SFn.fl=some (.intr g)->zbW P kf kt G f g
theorem AtF.none(hT:t.T (kf f)=none):AtF P kf kt G t f:=⟨λ_ _ _ h=>(by rw[hT] at h;cases h),λ_ h=>(by rw[hT] at h;cases h)⟩
theorem AtF.src{s:SFn}{fn:Func}{ls:List (List Nat)}(hT:t.T (kf f)=some s)(hs:zg4 s=true)(hfn:P.funcs[f]?=some fn)(hn:(fn.name=="runtime.NumGoroutine")=false)(hc:zee P kf kt ls fn=some s.fl):AtF P kf kt G t f where
 code:=λnt res body h=>by rw[hT] at h;exact⟨fn,ls,hfn,hn,hc.trans h⟩
 intr:=λg h=>by
  rw[hT] at h;cases s with
  | src nt vm res body=>cases h
  | intr g'=>cases hs
theorem AtF.whole{g:List AV->St->Option (AV × St)}(hT:t.T (kf f)=some (.intr g))(h:zbW P kf kt G f g):AtF P kf kt G t f where
 code:=λnt res body h=>by rw[hT] at h;cases h
 intr:=λg' h'=>by rw[hT] at h';cases h';exact h
def AllN(p:Nat->Prop):Nat->Prop
 | 0=>True
 | n+1=>AllN p n/\p n
theorem AllN.get{p:Nat->Prop}:∀{n:Nat},AllN p n->∀i,i<n->p i
 | n+1,h,i,hi=>by
  by_cases h1:i=n
  ·exact h1 ▸ h.2
  ·exact h.1.get i (by omega)
theorem link_of{n:Nat}(h:AllN (AtF P kf kt G t) n)(hb:∀f,n<=f->t.T (kf f)=none):Link P kf kt G λk=>(t.T k).map SFn.fl:=by
 have h':∀f,AtF P kf kt G t f:=λf=>by
  rcases Nat.lt_or_ge f n with h1|h1
  ·exact h.get f h1
  ·exact .none (hb f h1)
 exact⟨λf nt res body hx=>(h' f).code nt res body hx,λf g hx=>(h' f).intr g hx⟩
end
namespace F
def ETree.okB:ETree->Bool
 | .leaf=>true
 | .node e l r=>e.s.ok&&(l.okB&&r.okB)
theorem ETree.ok_get:∀{t:ETree},t.okB=true->∀{k:Nat} {e:Ent},t.get k=some e->e.s.ok=true
 | .leaf,_,k,e,h=>by cases h
 | .node e' l r,hb,k,e,h=>by
  simp only[ETree.okB,Bool.and_eq_true] at hb;have h:cond (Nat.beq k e'.g) (some e') (cond (Nat.ble k e'.g) (l.get k) (r.get k))=some e:=h;rcases zaA h with⟨_,h1⟩|⟨_,h1⟩
  ·cases h1;exact hb.1
  ·rcases zaA h1 with⟨_,h2⟩|⟨_,h2⟩
   ·exact ok_get hb.2.1 h2
   ·exact ok_get hb.2.2 h2
theorem ETree.ok_of{t:ETree}(h:t.okB=true):∀k f,t.T k=some f->f.ok=true:=by
 intro k f hf;simp only[ETree.T,Option.map_eq_some_iff] at hf;obtain⟨e,h1,rfl⟩:=hf;exact ok_get h h1
def ETree.among(ks:List Nat):ETree->Bool
 | .leaf=>true
 | .node e l r=>(zg4 e.s||ks.contains e.g)&&(l.among ks&&r.among ks)
theorem ETree.among_get{ks:List Nat}:∀{t:ETree},t.among ks=true->∀{k:Nat} {e:Ent},t.get k=some e->(zg4 e.s||ks.contains e.g)=true
 | .leaf,_,k,e,h=>by cases h
 | .node e' l r,hb,k,e,h=>by
  simp only[ETree.among,Bool.and_eq_true] at hb;have h:cond (Nat.beq k e'.g) (some e') (cond (Nat.ble k e'.g) (l.get k) (r.get k))=some e:=h;rcases zaA h with⟨_,h1⟩|⟨_,h1⟩
  ·cases h1;exact hb.1
  ·rcases zaA h1 with⟨_,h2⟩|⟨_,h2⟩
   ·exact among_get hb.2.1 h2
   ·exact among_get hb.2.2 h2
def IAt(I:FI)(g:Nat)(f:List AV->St->Option (AV × St)):Prop:=∀args h v h' S,I g args h=some (v,h')->Abs h S->∃S',f args S=some (v,S')/\Abs h' S'
theorem iok_of{t:ETree}{I:FI}{ks:List Nat}(h:t.among ks=true)(hk:∀k ∈ ks,∃f,t.T k=some (.intr f)/\IAt I k f):IOk t.T I:=by
 intro g f hf args h0 v h' S hi ha;have hf':=hf;simp only[ETree.T,Option.map_eq_some_iff] at hf';obtain⟨e,h1,h2⟩:=hf';have h3:=ETree.among_get h h1;rw[h2] at h3;simp only[zg4,Bool.false_or,List.contains_iff_mem] at h3;rw[ETree.get_g h1] at h3;obtain⟨f',h4,h5⟩:=hk g h3;rw[hf] at h4;cases h4;exact h5 _ _ _ _ _ hi ha
end F
end Am
end
section
namespace Am
open Go
theorem and_mask(k:Nat)(hk:k<=62)(i:Int):(BitVec.ofInt 64 i &&& BitVec.ofInt 64 ((2 ^ k-1:Nat):Int)).toNat=(i%(2 ^ k:Nat)).toNat:=by
 have h2:(2:Nat) ^ k ∣ 2 ^ 64:=Nat.pow_dvd_pow 2 (by omega);have h3:(2:Nat) ^ k<=2 ^ 62:=Nat.pow_le_pow_right (by omega) hk;have h4:(2:Nat) ^ 62<2 ^ 64:=by decide
 have h5:0<(2:Nat) ^ k:=Nat.pow_pos (by omega);rw[BitVec.toNat_and,BitVec.toNat_ofInt,BitVec.toNat_ofInt];have e1:(((2 ^ k-1:Nat):Int)%((2:Nat) ^ 64:Nat)).toNat=2 ^ k-1:=by
  rw[Int.emod_eq_of_lt (by omega) (by exact_mod_cast (by omega:2 ^ k-1<2 ^ 64))];simp
 rw[e1,Nat.and_two_pow_sub_one_eq_mod];obtain⟨c,hc⟩:=h2;have h6:i%((2 ^ k:Nat):Int)=(i%((2 ^ 64:Nat):Int))%((2 ^ k:Nat):Int):=(Int.emod_emod_of_dvd i ⟨(c:Int),by exact_mod_cast hc⟩).symm;rw[h6];have h7:0<=i%((2 ^ 64:Nat):Int):=Int.emod_nonneg _ (by simp);obtain⟨m,hm⟩:=Int.eq_ofNat_of_zero_le h7;rw[hm];show m%2 ^ k=_;have h8:((m:Int)%((2 ^ k:Nat):Int)).toNat=m%2 ^ k:=by rw[<- Int.natCast_emod];rfl
 exact h8.symm
namespace F
variable {β:Type}
theorem zcj(m:Int)(k:Nat)(hm:m=((2 ^ k-1:Nat):Int))(hk:k<=62)(x:Int)(c:VK β):pBin .and (.int .i64 x) (.int .i64 m) c=c (.int .i64 (x%(2 ^ k:Nat))):=by
 have h3:(2:Nat) ^ k<=2 ^ 62:=Nat.pow_le_pow_right (by omega) hk;have h5:0<(2:Nat) ^ k:=Nat.pow_pos (by omega);simp only[pBin,aInt,zF,beq_self_eq_true,cond_true,binI,zP];have e:(BitVec.ofInt IntKind.i64.bits x &&& BitVec.ofInt IntKind.i64.bits m).toNat=(x%(2 ^ k:Nat)).toNat:=by rw[hm];exact and_mask k hk x
 rw[e];have h8:0<=x%((2 ^ k:Nat):Int):=Int.emod_nonneg _ (by omega);have h9:x%((2 ^ k:Nat):Int)<((2 ^ k:Nat):Int):=Int.emod_lt_of_pos _ (by omega);rw[Int.toNat_of_nonneg h8,zas (by omega) (by have:((2 ^ k:Nat):Int)<=2 ^ 62:=(by exact_mod_cast h3);omega)]
end F
end Am
end
section
namespace Am
open Go Go.RowKit
section
variable {kf kt:Nat->Nat} {P:Program} {w:World}
theorem zbW.weaken{G G':Base->Prop}{f:FuncId}{g:List AV->St->Option (AV × St)}(h:zbW P kf kt G f g)(hG:∀B,G' B->G B):zbW P kf kt G' f g :=
 λargs S v S' hg w0 hw=>h args S v S' hg w0 (hG w0 hw)
def GVar(P:Program)(name:String)(good:Array Value->Prop)(B:Base):Prop :=
 (∃g,P.globalNamed name=some g/\B.K g)/\∃cs,B.w.var? P name=some cs/\good cs
theorem GVar.at_{name:String}{good:Array Value->Prop}{B:Base}(h:GVar P name good B)(ht:Turned B B.w w):∃cs,w.var? P name=some cs/\good cs:=by
 obtain⟨⟨g,h1,h2⟩,cs,h3,h4⟩:=h;refine⟨cs,?_,h4⟩;unfold World.var? at h3 ⊢;simp only[h1,Option.bind_some] at h3 ⊢;rw[ht.block g h2];exact h3
theorem zch.and{G G':Base->Prop}(h:zch G)(h':zch G'):zch λB=>G B/\G' B :=
 λB w X hX hs ht hG=>⟨h B w X hX hs ht hG.1,h' B w X hX hs ht hG.2⟩
def atoiV(s:List UInt8):AV:=match Lib.atoiAll s with
 | .ok v=>.tup [.int .i64 v,.nili]
 | .range=>.tup [.int .i64 (Lib.atoiSat s),.opq]
 | _=>.tup [.int .i64 0,.opq]
def atoiG(args:List AV)(S:St):Option (AV × St):=match args with
 | [.str s]=>if s.length<=281474976710656 then some (atoiV s,S) else none
 | _=>none
theorem zep(s:ByteArray):s.size=s.data.toList.length:=by cases s;simp[ByteArray.size]
end
namespace F
noncomputable def atoiI(args:List AV)(h:H):Option (AV × H):=a1 args λa=>aStr a λs=>cond (Nat.ble (lenF s) 281474976710656) (some (atoiV s,h)) none
theorem atoiI_ok{args:List AV}{h h':H}{v:AV}{S:St}(hi:atoiI args h=some (v,h'))(ha:Abs h S):∃S',atoiG args S=some (v,S')/\Abs h' S':=by
 obtain⟨a,rfl,h1⟩:=zz hi;obtain⟨s,rfl,h2⟩:=zk h1;obtain⟨h3,h4⟩:=zb h2;have h3:=zao h3;rw[zg] at h3;cases h4;exact⟨S,by simp only[atoiG,if_pos h3],ha⟩
noncomputable def memF(b:UInt8)(cs:List UInt8):Bool:=List.rec (motive:=λ_=>Bool) false (λc _ ih=>cond (Nat.beq b.toNat c.toNat) true ih) cs
noncomputable def idxF(cs s:List UInt8)(i:Nat):Int:=List.rec (motive:=λ_=>Nat->Int) (λ_=>.negSucc 0) (λb _ ih i=>cond (memF b cs) (.ofNat i) (ih (Nat.succ i))) s i
theorem zgX(b:UInt8):∀(cs:List UInt8),memF b cs=cs.contains b
 | []=>rfl
 | c::cs=>by
  have h:memF b (c::cs)=cond (Nat.beq b.toNat c.toNat) true (memF b cs):=rfl;rw[h,zgX b cs,zbd,List.contains_cons]
  by_cases hb:b=c
  ·subst hb;simp
  ·have:¬ b.toNat=c.toNat:=λh=>hb (UInt8.toNat_inj.mp h)
   simp[this,hb]
theorem zg5(cs:List UInt8):∀(s:List UInt8) (i:Nat),idxF cs s i=if Lib.indexAny s cs = -1 then -1 else Lib.indexAny s cs+i
 | [],i=>rfl
 | b::s,i=>by
  have h:idxF cs (b::s) i=cond (memF b cs) (.ofNat i) (idxF cs s (i+1)):=rfl;rw[h,zgX,zg5 cs s,Lib.indexAny];cases hc:cs.contains b with
  | true=>simp
  | false=>
   have hge:=Lib.indexAny_ge cs s
   by_cases h1:Lib.indexAny s cs = -1
   ·simp[h1]
   ·have h2:¬ (Lib.indexAny s cs+1 = -1):=by omega
    have h3:(Lib.indexAny s cs == -1)=false:=by simpa using h1
    simp only[cond_false,if_neg h1,h3,Bool.false_eq_true,if_false,if_neg h2];omega
end F
end Am
end
section
namespace Am
open Go Go.RowKit
inductive Ty where
 | int (k:IntKind)
 | str
 | bool
 | sl (e:Ty)
 | st (fs:List Ty)
inductive Dat where
 | int (n:Int)
 | str (s:List UInt8)
 | bool (b:Bool)
 | sl (no:Bool) (es sp:List Dat)
 | st (ds:List Dat)
mutual
def Ty.size:Ty->Nat
 | .st fs=>Ty.sizes fs
 | _=>1
def Ty.sizes:List Ty->Nat
 | []=>0
 | t::ts=>t.size+Ty.sizes ts
end
mutual
def Rep(S:St):Ty->List AV->Dat->Prop
 | .int k,us,d=>∃n,us=[.int k n]/\d = .int n/\(Lit.int k n).wf=true
 | .str,us,d=>∃s,us=[.str s]/\d = .str s/\s.length<=maxLen
 | .bool,us,d=>∃b,us=[.bool b]/\d = .bool b
 | .sl e,us,d=>(us=[.nils]/\d = .sl true [] [])\/∃b cs es sp,us=[.sl b 0 es.length (es.length+sp.length) none]/\d = .sl false es sp/\S[b]?=some (.ro cs) /\
   cs.length=(es.length+sp.length)*e.size/\es.length+sp.length<=maxLen/\∀i x,(es++sp)[i]?=some x->Rep S e ((cs.drop (i*e.size)).take e.size) x
 | .st fs,us,d=>∃ds,d = .st ds/\Reps S fs us ds
def Reps(S:St):List Ty->List AV->List Dat->Prop
 | [],us,ds=>us=[]/\ds=[]
 | f::fs,us,ds=>∃d ds',ds=d::ds'/\Rep S f (us.take f.size) d/\Reps S fs (us.drop f.size) ds'
end
mutual
def toW{H:Type}:Ty->Dat->DataW H
 | .int k,.int n=>.lit (.int k n)
 | .str,.str s=>.lit (.string s)
 | .bool,.bool b=>.lit (.bool b)
 | .sl e,.sl no es sp=>if no then .nil else .slice (toWs e es) (toWs e sp)
 | .st fs,.st ds=>.agg (toWz fs ds)
 | _,_=>.nil
def toWs{H:Type}:Ty->List Dat->List (DataW H)
 | _,[]=>[]
 | e,d::ds=>toW e d::toWs e ds
def toWz{H:Type}:List Ty->List Dat->List (DataW H)
 | f::fs,d::ds=>toW f d::toWz fs ds
 | _,_=>[]
end
theorem toWs_map{H:Type}(e:Ty)(ds:List Dat):toWs (H:=H) e ds=ds.map (toW e):=by
 induction ds with
 | nil=>simp[toWs]
 | cons d ds ih=>simp[toWs,ih]
mutual
def Fits(P:Program):Ty->TypeId->Prop
 | .int k,t=>P.underlying t=some (.int k)
 | .str,t=>P.underlying t=some .string
 | .bool,t=>P.underlying t=some .bool
 | .sl e,t=>∃te,P.underlying t=some (.slice te)/\P.cellsOf te=e.size/\0<e.size/\Fits P e te
 | .st fs,t=>∃fds:Array Field,P.underlying t=some (.struct fds)/\P.cellsOf t=Ty.sizes fs/\zcS P 0 fs fds.toList
def zcS(P:Program):Nat->List Ty->List Field->Prop
 | _,[],fds=>fds=[]
 | off,f::fs,fds=>∃fd fds',fds=fd::fds'/\fd.offset=off/\P.cellsOf fd.type=f.size/\Fits P f fd.type/\zcS P (off+f.size) fs fds'
end
mutual
theorem Rep.mono{S T:St}:∀{t:Ty} {us:List AV} {d:Dat},Rep S t us d->Rep (S++T) t us d
 | .int _,_,_,h=>by simpa only [Rep] using h
 | .str,_,_,h=>by simpa only [Rep] using h
 | .bool,_,_,h=>by simpa only [Rep] using h
 | .sl e,us,d,h=>by
  simp only[Rep] at h⊢;rcases h with h|⟨b,cs,es,sp,h1,h2,h3,h4,h5,h6⟩
  ·exact .inl h
  ·exact .inr ⟨b,cs,es,sp,h1,h2,by rw[List.getElem?_append_left (List.getElem?_eq_some_iff.1 h3).1];exact h3,h4,h5,λi x hx=>Rep.mono (h6 i x hx)⟩
 | .st fs,us,d,h=>by
  simp only[Rep] at h⊢;obtain⟨ds,h1,h2⟩:=h;exact⟨ds,h1,Reps.mono h2⟩
theorem Reps.mono{S T:St}:∀{fs:List Ty} {us:List AV} {ds:List Dat},Reps S fs us ds->Reps (S++T) fs us ds
 | [],_,_,h=>by simpa only [Reps] using h
 | f::fs,us,ds,h=>by
  simp only[Reps] at h⊢;obtain⟨d,ds',h1,h2,h3⟩:=h;exact⟨d,ds',h1,Rep.mono h2,Reps.mono h3⟩
end
section
variable {kf kt:Nat->Nat} {P:Program} {W:World} {fm:FM} {S:St}
theorem R.ro{w0:Base}{w:World}(h:R kf kt w0 fm S w){p:Addr × Nat}{cs:List AV}(hO:w0.O p.1.block)(hc:∀i u,cs[i]?=some u->u.sc=true/\∃v,w.cell? (p.1.add i)=some v/\VR kf fm u v) :
  R kf kt w0 (fm++[p]) (S++[.ro cs]) w where
 len:=by simp[h.len]
 below:=h.below
 blk:=λb k q hs hq=>by
  rw[zo] at hs hq;have hl:=h.len
  by_cases h1:b<S.length
  ·rw[if_pos h1] at hs;rw[if_pos (by omega)] at hq;exact BR.kept rfl (h.blk b k q hs hq)
  ·rw[if_neg h1] at hs;rw[if_neg (by omega)] at hq
   by_cases h2:b=S.length
   ·rw[if_pos h2] at hs;rw[if_pos (by omega)] at hq;cases hs;cases hq;exact⟨hO,λi u hu=>let ⟨h3,v,h4,h5⟩:=hc i u hu;⟨h3,v,h4,h5.mono⟩⟩
   ·rw[if_neg h2] at hs;cases hs
 low:=λb k q hs hq he=>by
  rw[zo] at hs hq;have hl:=h.len
  by_cases h1:b<S.length
  ·rw[if_pos h1] at hs;rw[if_pos (by omega)] at hq;exact h.low b k q hs hq he
  ·rw[if_neg h1] at hs
   by_cases h2:b=S.length
   ·rw[if_pos h2] at hs;cases hs;cases he
   ·rw[if_neg h2] at hs;cases hs
 sep:=λb b' k k' q q' hs hs' hq hq' he he' hne=>by
  rw[zo] at hs hs' hq hq';have hl:=h.len;have key:∀{b:Nat} {k:Blk},(if b<S.length then S[b]? else if b=S.length then some (Blk.ro cs) else none)=some k->k.excl=true->b<S.length:=by
   intro b k hs he
   by_cases h1:b<S.length
   ·exact h1
   ·rw[if_neg h1] at hs
    by_cases h2:b=S.length
    ·rw[if_pos h2] at hs;cases hs;cases he
    ·rw[if_neg h2] at hs;cases hs
  have h1:=key hs he;have h2:=key hs' he';rw[if_pos h1] at hs;rw[if_pos h2] at hs';rw[if_pos (by omega)] at hq hq';exact h.sep b b' k k' q q' hs hs' hq hq' he he' hne
structure Got {H:Type} (kf kt:Nat->Nat) (W:World) (fm:FM) (S:St) (t:Ty) (cs:List Value) (w:DataW H):Prop where
 ex:∃T ext us d,R kf kt (zaD W) (fm++ext) (S++T) W/\VRs kf (fm++ext) us cs/\(∀u ∈ us,u.sc=true)/\us.length=t.size/\Rep (S++T) t us d/\w=toW t d
theorem zhl{base:Nat}{a:Addr}{n:Nat}{cs:List Value}(h:W.cells? base a n=some cs):cs.length=n/\∀j v,cs[j]?=some v->W.cell? (a.add j)=some v:=by
 unfold World.cells? at h;split at h
 ·have hl:=Lib.mapM_length h;refine⟨by simpa using hl,λj v hv=>?_⟩;have hj:j<n:=by have:=(List.getElem?_eq_some_iff.1 hv).1;simp only[List.length_range] at hl;omega
  obtain⟨b,h1,h2⟩:=Lib.mapM_at h j j (by simp[hj]);rw[hv] at h1;cases h1;exact h2
 ·cases h
theorem VRs.snoc0{u:AV}{v:Value}(h:VR kf fm u v):VRs kf fm [u] [v]:=by simp only[VRs];exact⟨_,_,rfl,h,rfl⟩
theorem zcU{α:Type}{xs ys:List α}{i n:Nat}(h:i+n<=xs.length):((xs++ys).drop i).take n=(xs.drop i).take n:=by
 rw[List.drop_append_of_le_length (by omega),List.take_append_of_le_length (by rw[List.length_drop];omega)]
theorem read{H:Type}{enc:TypeId × Value->H}{held:Bool}(hw:0<W.heap.size):∀(fuel:Nat) (ty:Ty) (t:TypeId) (cs:List Value) (x:DataW H × List MemPlace) (fm:FM) (S:St),
  DataW.trod enc P W 0 (λ_=>true) held fuel t cs=some x->Fits P ty t->R kf kt (zaD W) fm S W->Got kf kt W fm S ty cs x.1
 | 0,_,_,_,_,_,_,h,_,_=>by simp[DataW.trod] at h
 | fuel+1,.int k,t,cs,x,fm,S,h,hf,hR=>by
  simp only[Fits] at hf;unfold DataW.trod at h;rw[hf] at h;split at h<;>rename_i heq<;>first|(cases heq;done)|skip
  ·rename_i k1 k2 n;cases heq;split at h
   ·rename_i hc;obtain⟨rfl,hwf⟩:=hc;cases h;exact⟨[],[],[.int k2 n],.int n,by simpa using hR,VRs.snoc0 (by simp[VR]),by simp[AV.sc],rfl,by simp only[Rep];exact⟨n,rfl,rfl,hwf⟩,by simp[toW]⟩
   ·cases h
  ·cases h
 | fuel+1,.str,t,cs,x,fm,S,h,hf,hR=>by
  simp only[Fits] at hf;unfold DataW.trod at h;rw[hf] at h;split at h<;>rename_i heq<;>first|(cases heq;done)|skip
  ·rename_i s;split at h
   ·rename_i hc;cases h;exact⟨[],[],[.str s.data.toList],.str s.data.toList,by simpa using hR,VRs.snoc0 (by simp only[VR];exact⟨s,rfl,rfl⟩),by simp[AV.sc],rfl,by
     simp only[Rep];exact⟨_,rfl,rfl,by rw[<- zep];exact hc⟩,by simp[toW]⟩
   ·cases h
  ·cases h
 | fuel+1,.bool,t,cs,x,fm,S,h,hf,hR=>by
  simp only[Fits] at hf;unfold DataW.trod at h;rw[hf] at h;split at h<;>rename_i heq<;>first|(cases heq;done)|skip
  ·rename_i b;cases h;exact⟨[],[],[.bool b],.bool b,by simpa using hR,VRs.snoc0 (by simp[VR]),by simp[AV.sc],rfl,by simp only[Rep];exact⟨b,rfl,rfl⟩,by simp[toW]⟩
  ·cases h
 | fuel+1,.sl e,t,cs,x,fm,S,h,hf,hR=>by
  simp only[Fits] at hf;obtain⟨te,hf,hce,hpos,hfe⟩:=hf;unfold DataW.trod at h;rw[hf] at h;split at h<;>rename_i heq<;>first|(cases heq;done)|skip
  ·cases h;exact⟨[],[],[.nils],.sl true [] [],by simpa using hR,VRs.snoc0 (by simp[VR]),by simp[AV.sc],rfl,by unfold Rep;exact .inl ⟨rfl,rfl⟩,by simp[toW]⟩
  ·rename_i e' a len cap;cases heq;simp only at h;split at h
   ·rename_i hc;obtain⟨_,hlc,hcm⟩:=hc;simp only[Option.bind_eq_some_iff,if_true,Option.map_eq_some_iff] at h;obtain⟨el,h1,rs,h2,hx⟩:=h;have hell:=Lib.mapM_length h1;have hrsl:=Lib.mapM_length h2;rw[List.length_range] at hell hrsl;have hel:∀i,i<cap->∃y,(el++rs)[i]?=some y/\(W.cells? 0 (a.add (i*P.cellsOf te)) (P.cellsOf te)).bind (DataW.trod enc P W 0 (λ_=>true) held fuel te)=some y:=by
     intro i hi
     by_cases hil:i<len
     ·obtain⟨b,h4,h3⟩:=Lib.mapM_at h1 i i (List.getElem?_range hil);exact⟨b,by rw[List.getElem?_append_left (by omega)];exact h4,h3⟩
     ·obtain⟨b,h4,h3⟩:=Lib.mapM_at h2 (i-len) (i-len) (List.getElem?_range (by omega));rw[show len+(i-len)=i by omega] at h3;exact⟨b,by rw[List.getElem?_append_right (by omega),hell];exact h4,h3⟩
    rw[hce] at hel;have key:∀n,n<=cap->∃(T:St) (ext:FM) (cells:List AV) (dats:List Dat),R kf kt (zaD W) (fm++ext) (S++T) W/\cells.length=n*e.size /\
      (∀j u,cells[j]?=some u->u.sc=true/\∃v,W.cell? (a.add j)=some v/\VR kf (fm++ext) u v)/\dats.length=n/\(∀i d,dats[i]?=some d->Rep (S++T) e ((cells.drop (i*e.size)).take e.size) d)/\∀(i:Nat) (d:Dat),dats[i]?=some d->∃y:DataW H × List MemPlace,(el++rs)[i]?=some y/\y.1=toW e d:=by
     intro n
     induction n with
     | zero=>intro _;exact⟨[],[],[],[],by simpa using hR,by simp,λj u hu=>by simp at hu,rfl,λi d hd=>by simp at hd,λi d hd=>by simp at hd⟩
     | succ n ih=>
      intro hn;obtain⟨T,ext,cells,dats,h3,h4,h5,h6,h7,h7'⟩:=ih (by omega);obtain⟨y,hyn,hy⟩:=hel n (by omega);simp only[Option.bind_eq_some_iff] at hy;obtain⟨cs',h8,h9⟩:=hy;obtain⟨h10,h11⟩:=zhl h8;obtain⟨T',ext',us,d,h12,h13,h14,h15,h16,h16'⟩:=(read hw fuel e te cs' y _ _ h9 hfe h3).ex;refine⟨T++T',ext++ext',cells++us,dats++[d],by rw[<- List.append_assoc,<- List.append_assoc];exact h12,by rw[List.length_append,h4,h15,Nat.succ_mul],?_,by simp[h6],?_,?_⟩
      ·intro j u hu;rw[List.getElem?_append] at hu;split at hu
       ·obtain⟨h17,v,h18,h19⟩:=h5 j u hu;exact⟨h17,v,h18,by rw[<- List.append_assoc];exact h19.mono⟩
       ·rename_i hj;obtain⟨v,h17,h18⟩:=h13.get hu;refine⟨h14 u (List.mem_of_getElem? hu),v,?_,by rw[<- List.append_assoc];exact h18⟩;have:=h11 _ v h17
        rw[zaS,<- h4,show cells.length+(j-cells.length)=j by omega] at this;exact this
      ·intro i d' hd';rw[List.getElem?_append] at hd';split at hd'
       ·rename_i hi;have hin:i*e.size+e.size<=cells.length:=by
         rw[h4,<- Nat.succ_mul];exact Nat.mul_le_mul_right _ (by omega)
        rw[zcU hin,<- List.append_assoc];exact (h7 i d' hd').mono
       ·rename_i hi;have hi0:i=n:=by
         have:=(List.getElem?_eq_some_iff.1 hd').1
         simp only[List.length_singleton] at this;omega
        subst hi0;rw[show i-dats.length=0 by omega] at hd';simp only[List.getElem?_cons_zero,Option.some.injEq] at hd';subst hd';rw[<- h4,List.drop_left,List.take_of_length_le (by omega),<- List.append_assoc];exact h16
      ·intro i d' hd';rw[List.getElem?_append] at hd';split at hd'
       ·exact h7' i d' hd'
       ·rename_i hi;have hi0:i=n:=by
         have:=(List.getElem?_eq_some_iff.1 hd').1
         simp only[List.length_singleton] at this;omega
        subst hi0;rw[show i-dats.length=0 by omega] at hd';simp only[List.getElem?_cons_zero,Option.some.injEq] at hd';subst hd';exact⟨y,hyn,h16'⟩
    obtain⟨T,ext,cells,dats,h3,h4,h5,h6,h7,h7'⟩:=key cap (Nat.le_refl _);have hall:(el++rs).map (·.1)=dats.map (toW e):=by
     apply List.ext_getElem?;intro i;rw[List.getElem?_map,List.getElem?_map];cases hd:dats[i]? with
     | some d=>obtain⟨y,h8,h9⟩:=h7' i d hd;rw[h8];exact congrArg some h9
     | none=>
      rw[List.getElem?_eq_none (by have:=List.getElem?_eq_none_iff.1 hd;rw[List.length_append];omega)];rfl
    have hel':el.map (·.1)=(dats.take len).map (toW e):=by
     rw[List.map_take,<- hall,List.map_append,List.take_left' (by rw[List.length_map];exact hell)]
    have hrs':rs.map (·.1)=(dats.drop len).map (toW e):=by
     rw[List.map_drop,<- hall,List.map_append,List.drop_left' (by rw[List.length_map];exact hell)]
    have hlen:(S++T).length=(fm++ext).length:=h3.len.symm;have hd1:(dats.take len).length=len:=by rw[List.length_take];omega
    have hd2:(dats.take len).length+(dats.drop len).length=cap:=by rw[hd1,List.length_drop];omega
    have hsl:∀(p:Addr × Nat),(p.1=a\/cap=0)->R kf kt (zaD W) (fm++ext++[p]) (S++T++[.ro cells]) W->Got kf kt W fm S (.sl e) [.slice (some a) len cap] x.1:=by
     intro p hp hRp;refine⟨T++[.ro cells],ext++[p],[.sl (S++T).length 0 len cap none],.sl false (dats.take len) (dats.drop len),by rw[<- List.append_assoc,<- List.append_assoc];exact hRp,VRs.snoc0 ?_,by simp[AV.sc],rfl,?_,by rw[<- hx];simp only[toW,toWs_map,hel',hrs'];simp⟩
     ·simp only[VR];refine⟨p,cap,a,?_,rfl,hlc,Nat.le_refl _,hlc,?_,λ_=>rfl,λes h=>by cases h⟩
      ·rw[<- List.append_assoc,hlen,List.getElem?_append_right (Nat.le_refl _)];simp
      ·rcases hp with hp|hp
       ·left;rw[hp,zC]
       ·exact .inr hp
     ·simp only[Rep];refine .inr ⟨(S++T).length,cells,dats.take len,dats.drop len,by rw[hd1,<- hd2,hd1],rfl,?_,by rw[hd2];exact h4,by rw[hd2];exact hcm,?_⟩
      ·rw[<- List.append_assoc,List.getElem?_append_right (Nat.le_refl _)];simp
      ·intro i x hx;rw[List.take_append_drop] at hx;rw[<- List.append_assoc];exact (h7 i x hx).mono
    by_cases h0:cap=0
    ·refine hsl (⟨0,0,none⟩,0) (.inr h0) (h3.ro (by show 0<W.heap.size;exact hw) ?_);intro i u hu;have:cells=[]:=List.eq_nil_of_length_eq_zero (by rw[h4,h0,Nat.zero_mul])
     rw[this] at hu;simp at hu
    ·refine hsl (a,cap*e.size) (.inl rfl) (h3.ro ?_ h5);have hpos2:0<cells.length:=by rw[h4];exact Nat.mul_pos (by omega) hpos
     obtain⟨_,v,h8,_⟩:=h5 0 cells[0] (List.getElem?_eq_getElem hpos2);rw[zC] at h8;exact (zeg h8).2
   ·cases h
  ·cases h
 | fuel+1,.st fs,t,cs,x,fm,S,h,hf,hR=>by
  simp only[Fits] at hf;obtain⟨fds,hf,hct,hfa⟩:=hf;unfold DataW.trod at h;simp only[hf] at h
  ·split at h
   ·rename_i hlen;simp only[Option.map_eq_some_iff] at h;obtain⟨xs,h1,hx⟩:=h;have key:∀(fs:List Ty) (off:Nat) (fds:List Field) (xs:List (DataW H × List MemPlace)) (fm:FM) (S:St),R kf kt (zaD W) fm S W->zcS P off fs fds->off+Ty.sizes fs=cs.length ->
      (fds.mapM λf=>DataW.trod enc P W 0 (λ_=>true) held fuel f.type ((cs.drop f.offset).take (P.cellsOf f.type)))=some xs ->
      ∃T ext us ds,R kf kt (zaD W) (fm++ext) (S++T) W/\VRs kf (fm++ext) us (cs.drop off)/\(∀u ∈ us,u.sc=true)/\us.length=Ty.sizes fs/\Reps (S++T) fs us ds/\xs.map (·.1)=toWz fs ds:=by
     intro fs
     induction fs with
     | nil=>
      intro off fds xs fm S hR hfa hl hm;simp only[Ty.sizes] at hl;simp only[zcS] at hfa;subst hfa;cases hm;exact⟨[],[],[],[],by simpa using hR,by rw[List.drop_eq_nil_of_le (by omega)];simp[VRs],by simp,rfl,by simp[Reps],by simp[toWz]⟩
     | cons f fs ih=>
      intro off fds xs fm S hR hfa hl hm;simp only[zcS] at hfa;obtain⟨fd,fds',rfl,h2,h3,h4,h5⟩:=hfa;simp only[List.mapM_cons,Option.bind_eq_bind,Option.bind_eq_some_iff,Option.pure_def,Option.some.injEq] at hm;obtain⟨y,h6,ys,h7,rfl⟩:=hm;rw[h2,h3] at h6;obtain⟨T,ext,us,d,h8,h9,h10,h11,h12,h12'⟩:=(read hw fuel f fd.type _ y fm S h6 h4 hR).ex;simp only[Ty.sizes] at hl;obtain⟨T',ext',us',ds,h13,h14,h15,h16,h17,h17'⟩:=ih (off+f.size) fds' ys _ _ h8 h5 (by omega) h7;refine⟨T++T',ext++ext',us++us',d::ds,by rw[<- List.append_assoc,<- List.append_assoc];exact h13,?_,?_,by simp[Ty.sizes,h11,h16],?_,by simp only[List.map_cons,toWz,h12',h17']⟩
      ·rw[<- List.append_assoc];have h18:=(h9.mono (ext:=ext')).append h14;rw[<- List.drop_drop,List.take_append_drop] at h18;exact h18
      ·intro u hu;rcases List.mem_append.1 hu with hu|hu
       ·exact h10 u hu
       ·exact h15 u hu
      ·simp only[Reps];refine⟨d,ds,rfl,?_,?_⟩
       ·rw[<- h11,List.take_left,<- List.append_assoc];exact h12.mono
       ·rw[<- h11,List.drop_left,<- List.append_assoc];exact h17
    obtain⟨T,ext,us,ds,h2,h3,h4,h5,h6,h6'⟩:=key fs 0 fds.toList xs fm S hR hfa (by rw[Nat.zero_add,<- hct];exact hlen.symm) h1;exact⟨T,ext,us,.st ds,h2,by simpa using h3,h4,by simpa [Ty.size] using h5,by simp only[Rep];exact⟨ds,rfl,h6⟩,by rw[<- hx];simp only[toW,h6']⟩
   ·cases h
end
end Am
end
section
namespace Am.F
open Go Am
section
variable {β:Type}
theorem ble_eq(a b:Nat):Nat.ble a b=decide (a<=b):=by rw[Bool.eq_iff_iff];simp
theorem beq_eq(a b:Nat):Nat.beq a b=decide (a=b):=by rw[Bool.eq_iff_iff];simp
theorem zbF{x:Int}(h:-9223372036854775808<=x)(h':x<9223372036854775808):IntKind.i64.wrap x=x:=zas h h'
theorem zbz{α:Type}(v:α)(c:α->Option β):zP (some v) c=c v:=rfl
theorem pAdd_fit{x y:Int}(h:-9223372036854775808<=x+y)(h':x+y<9223372036854775808)(k:VK β):pAdd (.int .i64 x) (.int .i64 y) k=k (.int .i64 (x+y)):=by
 simp only[pAdd,aInt,zaX,decide_true,cond_true,zaR,zaj];rw[show Int.add x y=x+y from rfl,zbF h h']
theorem pSub_fit{x y:Int}(h:-9223372036854775808<=x-y)(h':x-y<9223372036854775808)(k:VK β):pSub (.int .i64 x) (.int .i64 y) k=k (.int .i64 (x-y)):=by
 simp only[pSub,aInt,zaX,decide_true,cond_true,zaR,zaj];rw[show Int.sub x y=x-y from rfl,zbF h h']
theorem pMul_fit{x y:Int}(h:-9223372036854775808<=x*y)(h':x*y<9223372036854775808)(k:VK β):pMul (.int .i64 x) (.int .i64 y) k=k (.int .i64 (x*y)):=by
 simp only[pMul,aInt,zaX,decide_true,cond_true,zaR,zaj];rw[show Int.mul x y=x*y from rfl,zbF h h']
theorem pNeg_fit{x:Int}(h:-9223372036854775808<=-x)(h':-x<9223372036854775808)(k:VK β):pNeg (.int .i64 x) k=k (.int .i64 (-x)):=by
 simp only[pNeg,aInt,zaR,zaj];rw[show Int.sub 0 x = -x by show (0:Int)-x = -x;omega,zbF h h']
theorem zgH{kd:IntKind}{x:Int}(h:-9223372036854775808<=x)(h':x<9223372036854775808)(k:VK β):pConv .i64 (.int kd x) k=k (.int .i64 x):=by
 simp only[pConv,aInt,zaR,zaj,zbF h h']
theorem pEql_i(kd:IntKind)(x y:Int)(k:VK β):pEql (.int kd x) (.int kd y) k=k (.bool (decide (x=y))):=by simp only[pEql,aInt,zaX,decide_true,cond_true,zfA]
theorem pNeq_i(kd:IntKind)(x y:Int)(k:VK β):pNeq (.int kd x) (.int kd y) k=k (.bool (decide (¬ x=y))):=by simp only[pNeq,aInt,zaX,decide_true,cond_true,zfA,decide_not]
theorem pLss_i(kd:IntKind)(x y:Int)(k:VK β):pLss (.int kd x) (.int kd y) k=k (.bool (decide (x<y))):=by simp only[pLss,aInt,zaX,decide_true,cond_true,zaV]
theorem pGtr_i(kd:IntKind)(x y:Int)(k:VK β):pGtr (.int kd x) (.int kd y) k=k (.bool (decide (y<x))):=by simp only[pGtr,aInt,zaX,decide_true,cond_true,zaV]
theorem zcC(x y:Int):(!decide (y<x))=decide (x<=y):=by rw[Bool.eq_iff_iff];simp
theorem pLeq_i(kd:IntKind)(x y:Int)(k:VK β):pLeq (.int kd x) (.int kd y) k=k (.bool (decide (x<=y))):=by simp only[pLeq,aInt,zaX,decide_true,cond_true,zaV,<- zcC]
theorem pGeq_i(kd:IntKind)(x y:Int)(k:VK β):pGeq (.int kd x) (.int kd y) k=k (.bool (decide (y<=x))):=by simp only[pGeq,aInt,zaX,decide_true,cond_true,zaV,<- zcC]
theorem pMin_i(kd:IntKind)(x y:Int)(k:VK β):pMin (.int kd x) (.int kd y) k=k (.int kd (min x y)):=by
 simp only[pMin,aInt,zaX,decide_true,cond_true,zaV]
 by_cases h:y<x
 ·simp only[h,decide_true,cond_true];rw[show min x y=y by omega]
 ·simp only[h,decide_false,cond_false];rw[show min x y=x by omega]
theorem pMax_i(kd:IntKind)(x y:Int)(k:VK β):pMax (.int kd x) (.int kd y) k=k (.int kd (max x y)):=by
 simp only[pMax,aInt,zaX,decide_true,cond_true,zaV]
 by_cases h:x<y
 ·simp only[h,decide_true,cond_true];rw[show max x y=y by omega]
 ·simp only[h,decide_false,cond_false];rw[show max x y=x by omega]
theorem pSEql_s(x y:List UInt8)(k:VK β):zgC (.str x) (.str y) k=k (.bool (decide (x=y))):=by
 simp only[zgC,aStr,zbc];rw[show (x==y)=decide (x=y) by rw[Bool.eq_iff_iff];simp]
theorem pSNeq_s(x y:List UInt8)(k:VK β):pSNeq (.str x) (.str y) k=k (.bool (decide (¬ x=y))):=by
 simp only[pSNeq,aStr,zbc,decide_not];rw[show (x==y)=decide (x=y) by rw[Bool.eq_iff_iff];simp]
theorem pSAdd_s{x y:List UInt8}(h:x.length+y.length<9223372036854775807)(k:VK β):pSAdd (.str x) (.str y) k=k (.str (x++y)):=by
 simp only[pSAdd,aStr,zg,zbe,zeT,ble_eq];rw[decide_eq_true (by show x.length+y.length+1<=_;omega)];rfl
theorem pNot_b(b:Bool)(k:VK β):pNot (.bool b) k=k (.bool (!b)):=rfl
theorem pLenS_s(s:List UInt8)(k:VK β):pLenS (.str s) k=k (.int .i64 (s.length:Int)):=by simp only[pLenS,aStr,zH,zg];rfl
theorem zgD(k:VK β):pLenL .nils k=k (.int .i64 0):=rfl
theorem pLenL_sl(b o l m:Nat)(g:Option Nat)(k:VK β):pLenL (.sl b o l m g) k=k (.int .i64 (l:Int)):=rfl
theorem zgI(k:VK β):pCapL .nils k=k (.int .i64 0):=rfl
theorem pCapL_sl(b o l m:Nat)(k:VK β):pCapL (.sl b o l m none) k=k (.int .i64 (m:Int)):=rfl
def bt(s:List UInt8)(i:Nat):Nat:=(s.getD i 0).toNat
theorem pIdxS_s{s:List UInt8}{kd:IntKind}{i:Int}(h:0<=i)(h':i<s.length)(k:VK β):pIdxS (.str s) (.int kd i) k=k (.int .u8 (bt s i.toNat:Int)):=by
 obtain⟨j,rfl⟩:=Int.eq_ofNat_of_zero_le h;have hj:j<s.length:=by omega
 have e:nthO s j=some s[j]:=by rw[zba,List.getElem?_eq_getElem hj]
 show frc j (λi=>zP (nthO s i) λc=>frc c.toNat λm=>k (.int .u8 (.ofNat m)))=_;rw[zH,e,zbz,zH,bt,List.getD_eq_getElem?_getD,Int.toNat_natCast,List.getElem?_eq_getElem hj];rfl
theorem pExt_0(v:AV)(vs:List AV)(k:VK β):pExt 0 (.tup (v::vs)) k=k v:=rfl
theorem pExt_S(i:Nat)(v:AV)(vs:List AV)(k:VK β):pExt (i+1) (.tup (v::vs)) k=pExt i (.tup vs) k:=rfl
theorem pFadr_p(off b o:Nat)(k:VK β):zcf off (.ptr b o) k=k (.ptr b (o+off)):=by simp only[zcf,aPtr,zH];rfl
theorem zgF{es b o l m:Nat}{g:Option Nat}{kd:IntKind}{i:Int}(h:0<=i)(h':i<l)(k:VK β):zbw es (.sl b o l m g) (.int kd i) k=k (.ptr b (o+i.toNat*es)):=by
 obtain⟨j,rfl⟩:=Int.eq_ofNat_of_zero_le h;have hj:j<l:=by omega
 show frc j (λi=>cond (Nat.ble (Nat.succ i) l) (frc (Nat.add o (Nat.mul i es)) λo'=>k (.ptr b o')) none)=_;rw[zH,zH,ble_eq,decide_eq_true (by omega)];rfl
theorem pIadrA_p{n es b o:Nat}{kd:IntKind}{i:Int}(h:0<=i)(h':i<n)(k:VK β):zgG n es (.ptr b o) (.int kd i) k=k (.ptr b (o+i.toNat*es)):=by
 obtain⟨j,rfl⟩:=Int.eq_ofNat_of_zero_le h;have hj:j<n:=by omega
 show frc j (λi=>cond (Nat.ble (Nat.succ i) n) (frc (Nat.add o (Nat.mul i es)) λo'=>k (.ptr b o')) none)=_;rw[zH,zH,ble_eq,decide_eq_true (by omega)];rfl
theorem fIf_b(b:Bool)(x y:Option β):fIf (.bool b) x y=cond b x y:=by cases b<;>rfl
theorem fAnd_b(b:Bool)(h:H)(f:H->K β->Option β)(k:K β):fAnd (.bool b) h f k=cond b (f h k) (k (.bool false) h):=by cases b<;>rfl
theorem fOr_b(b:Bool)(h:H)(f:H->K β->Option β)(k:K β):fOr (.bool b) h f k=cond b (k (.bool true) h) (f h k):=by cases b<;>rfl
theorem zfB{p:Prop}[Decidable p]{α:Type}{x y:α}(h:p):cond (decide p) x y=x:=by rw[decide_eq_true h];rfl
theorem zfC{p:Prop}[Decidable p]{α:Type}{x y:α}(h:¬ p):cond (decide p) x y=y:=by rw[decide_eq_false h];rfl
theorem zgE(b o l m:Nat)(g:Option Nat)(neg:Bool)(k:VK β):zc2 .sl neg (.sl b o l m g) k=k (.bool neg):=by cases neg<;>rfl
theorem zeG(neg:Bool)(k:VK β):zc2 .sl neg .nils k=k (.bool (!neg)):=by cases neg<;>rfl
theorem zeH(neg:Bool)(k:VK β):zc2 .ifc neg .nili k=k (.bool (!neg)):=by cases neg<;>rfl
theorem zf2(neg:Bool)(k:VK β):zc2 .ifc neg .opq k=k (.bool neg):=by cases neg<;>rfl
theorem pFld1_a(off:Nat)(cs:List AV)(k:VK β):pFld1 off (.agg cs) k=zP cs[off]? k:=by simp only[pFld1,aAgg,zba]
theorem zf4(z:List AV)(k:VK β):zG z [] [] k=k (.agg z):=rfl
theorem zf5(z:List AV)(off:Nat)(ps:List (Nat × Nat))(kd:IntKind)(n:Int)(vs:List AV)(h:off<z.length)(k:VK β):zG z ((off,1)::ps) (.int kd n::vs) k=zG (z.set off (.int kd n)) ps vs k:=by
 show cond (Nat.beq 1 1) (cond (Nat.ble (Nat.succ off) (lenF z)) (zG (putN z off (.int kd n)) ps vs k) none) none=_;rw[zg,ble_eq,decide_eq_true (by omega),zaQ];rfl
theorem zf3(z:List AV)(off:Nat)(ps:List (Nat × Nat))(s:List UInt8)(vs:List AV)(h:off<z.length)(k:VK β):zG z ((off,1)::ps) (.str s::vs) k=zG (z.set off (.str s)) ps vs k:=by
 show cond (Nat.beq 1 1) (cond (Nat.ble (Nat.succ off) (lenF z)) (zG (putN z off (.str s)) ps vs k) none) none=_;rw[zg,ble_eq,decide_eq_true (by omega),zaQ];rfl
theorem zdO(z:List AV)(off:Nat)(ps:List (Nat × Nat))(v:AV)(hv:v.sc=true)(vs:List AV)(h:off<z.length)(k:VK β):zG z ((off,1)::ps) (v::vs) k=zG (z.set off v) ps vs k:=by
 have:zG z ((off,1)::ps) (v::vs) k=cond (Nat.beq 1 1) (cond (Nat.ble (Nat.succ off) (lenF z)) (zG (putN z off v) ps vs k) none) none:=by
  cases v<;>first|rfl|(simp[AV.sc] at hv)
 rw[this,zg,ble_eq,decide_eq_true (by omega),zaQ];rfl
theorem zf6(z:List AV)(off n:Nat)(ps:List (Nat × Nat))(us vs:List AV)(hn:us.length=n)(h:off+n<=z.length)(k:VK β):zG z ((off,n)::ps) (.agg us::vs) k=zG (zaI z off us) ps vs k:=by
 show cond (Nat.beq (lenF us) n) (cond (Nat.ble (Nat.add off n) (lenF z)) (zG (zbJ z off us) ps vs k) none) none=_;rw[zg,zg,beq_eq,ble_eq,decide_eq_true hn,decide_eq_true (by show off+n<=_;omega),zam];rfl
theorem fAlloc_n(tag:Nat)(z:List AV)(h:H)(k:K β):zc5 tag z h k=k (.ptr h.n 0) (h.push (.own tag z)):=by simp only[zc5,zad]
theorem fBox_sc{v:AV}(hv:v.sc=true)(tag:Nat)(h:H)(k:K β):fBox tag v h k=k (.ptr h.n 0) (h.push (.own tag [v])):=by
 cases v<;>first|(simp only[fBox,zdx,zad];done)|(simp[AV.sc] at hv)
theorem fBox_agg(tag:Nat)(us:List AV)(h:H)(k:K β):fBox tag (.agg us) h k=k (.ptr h.n 0) (h.push (.own tag us)):=by simp only[fBox,zdx,zad]
theorem fBslice_n{tag n:Nat}{z vs cs:List AV}{ps:List (Nat × Nat)}(hb:∀k:VK β,zG z ps vs k=k (.agg cs))(h:H)(k:K β):zar tag z n ps vs h k=k (.sl h.n 0 n n none) (h.push (.own tag cs)):=by
 simp only[zar,hb,aAgg,zad]
theorem zeV{tag:Nat}{z:AV}{v:AV}(hv:v.sc=true)(h:H)(k:K β):zar tag [z] 1 [(0,1)] [v] h k=k (.sl h.n 0 1 1 none) (h.push (.own tag [v])) :=
 fBslice_n (λk=>by rw[zdO _ _ _ _ hv _ (by simp)];rfl) h k
theorem zbV(h:H)(b:Nat)(c:List AV->Option β):cells h b c=zP (h.get b).cells c:=by unfold cells;cases h.get b<;>rfl
theorem zfu(b o:Nat)(h:H)(k:VK β):zT (.ptr b o) h k=zP (h.get b).cells λcs=>zP cs[o]? k:=by simp only[zT,aPtr,zbV,zba]
theorem fLoadN_p(n b o:Nat)(h:H)(k:VK β):zm n (.ptr b o) h k=zP (h.get b).cells λcs=>if o+n<=cs.length then k (.agg ((cs.drop o).take n)) else none:=by
 simp only[zm,aPtr,zbV,zg,zA,zL,ble_eq,cond_eq_ite,decide_eq_true_eq];rfl
def zeJ:Blk->Option (Nat × List AV)
 | .own t cs=>some (t,cs)
 | _=>none
theorem zgJ(t:Nat)(cs:List AV):zeJ (.own t cs)=some (t,cs):=rfl
theorem zeI(h:H)(b:Nat)(c:Nat->List AV->Option β):ownd h b c=zP (zeJ (h.get b)) λr=>c r.1 r.2:=by unfold ownd;cases h.get b<;>rfl
theorem fStore_1{v:AV}(hv:v.sc=true)(b o:Nat)(h:H)(k:H->Option β):zbk 1 (.ptr b o) v h k=zP (zeJ (h.get b)) λr=>if o<r.2.length then k (h.set b (.own r.1 (r.2.set o v))) else none:=by
 have:zbk 1 (.ptr b o) v h k=zP (zeJ (h.get b)) λr=>cond (Nat.ble (Nat.succ o) (lenF r.2)) (k (h.set b (.own r.1 (putN r.2 o v)))) none:=by
  simp only[zbk,aPtr,zeI];cases v<;>first|rfl|(simp[AV.sc] at hv)
 rw[this];congr 1;funext r;rw[zg,ble_eq,zaQ,cond_eq_ite];simp only[decide_eq_true_eq];rfl
theorem fStore_n(n b o:Nat)(us:List AV)(h:H)(k:H->Option β):zbk n (.ptr b o) (.agg us) h k=zP (zeJ (h.get b)) λr=>if us.length=n then (if o+n<=r.2.length then k (h.set b (.own r.1 (zaI r.2 o us))) else none) else none:=by
 simp only[zbk,aPtr,zeI,zdx,zg,beq_eq,ble_eq,zam,cond_eq_ite,decide_eq_true_eq];rfl
theorem zay{h:H}{b:Blk}{j:Nat}(hj:h.n=j):(h.push b).get j=b:=by rw[H.get_push,if_pos hj]
theorem zc4{h:H}{i j:Nat}{b:Blk}(hj:i=j):(h.set i b).get j=b:=by rw[H.get_set,if_pos hj]
theorem zDq9{h:H}{b:Blk}{j:Nat}(hj:¬ h.n=j):(h.push b).get j=h.get j:=by rw[H.get_push,if_neg hj]
theorem zae{h:H}{i j:Nat}{b:Blk}(hj:¬ i=j):(h.set i b).get j=h.get j:=by rw[H.get_set,if_neg hj]
structure Ext (h h':H):Prop where
 n:h.n<=h'.n
 get:∀i,i<h.n->h'.get i=h.get i
theorem Ext.refl(h:H):Ext h h:=⟨Nat.le_refl _,λ_ _=>rfl⟩
theorem Ext.trans{h h' h'':H}(a:Ext h h')(b:Ext h' h''):Ext h h'':=⟨Nat.le_trans a.n b.n,λi hi=>by have:=a.n;rw[b.get i (by omega),a.get i hi]⟩
theorem Ext.push{h h':H}(a:Ext h h')(b:Blk):Ext h (h'.push b) :=
 ⟨by have:=a.n;rw[H.n_push];omega,λi hi=>by have:=a.n;rw[zDq9 (by omega),a.get i hi]⟩
theorem Ext.set{h h':H}(a:Ext h h'){i:Nat}(hi:h.n<=i)(b:Blk):Ext h (h'.set i b) :=
 ⟨by rw[H.n_set];exact a.n,λj hj=>by rw[zae (by omega),a.get j hj]⟩
def strs(xs:List (List UInt8)):List AV:=xs.map .str
theorem ze8(xs:List (List UInt8)):(strs xs).length=xs.length:=List.length_map ..
def SlAt(h:H)(v:AV)(cs:List AV):Prop :=
 (v = .nils/\cs=[])\/∃b o m g us,v = .sl b o cs.length m g/\b<h.n/\(h.get b).cells=some us/\(us.drop o).take cs.length=cs/\o+cs.length<=us.length
theorem SlAt.ext{h h':H}{v:AV}{cs:List AV}(hs:SlAt h v cs)(e:Ext h h'):SlAt h' v cs:=by
 rcases hs with hs|⟨b,o,m,g,us,h1,h2,h3,h4⟩
 ·exact .inl hs
 ·exact .inr ⟨b,o,m,g,us,h1,by have:=e.n;omega,by rw[e.get b h2];exact h3,h4⟩
theorem SlAt.sc{h:H}{v:AV}{cs:List AV}(hs:SlAt h v cs):v.sc=true:=by
 rcases hs with⟨rfl,_⟩|⟨b,o,m,g,us,rfl,_⟩<;>rfl
theorem SlAt.nil(h:H):SlAt h .nils []:=.inl ⟨rfl,rfl⟩
theorem SlAt.len{h:H}{v:AV}{cs:List AV}(hs:SlAt h v cs)(k:VK β):qLenL v (.mk k)=k (.int .i64 (cs.length:Int)):=by
 rcases hs with⟨rfl,rfl⟩|⟨b,o,m,g,us,rfl,_⟩<;>rfl
theorem SlAt.load{h:H}{v:AV}{cs:List AV}(hs:SlAt h v cs){kd:IntKind}{i:Int}(h0:0<=i)(h1:i<cs.length)(k:VK β):zN 1 v (.int kd i) (.mk λp=>za p h (.mk k))=k (cs.getD i.toNat (.tup [])):=by
 show (zbw 1 v (.int kd i) λp=>zT p h k)=_;rcases hs with⟨rfl,rfl⟩|⟨b,o,m,g,us,rfl,h2,h3,h4,h5⟩
 ·simp at h1;omega
 ·obtain⟨j,rfl⟩:=Int.eq_ofNat_of_zero_le h0;have hj:j<cs.length:=by omega
  rw[zgF h0 h1,zfu,h3,zbz,Int.toNat_natCast,Nat.mul_one];have:us[o+j]?=some (cs.getD j (.tup [])):=by
   rw[List.getD_eq_getElem?_getD,<- h4,List.getElem?_take,if_pos hj,List.getElem?_drop];cases hx:us[o+j]? with
   | some x=>rfl
   | none=>
    exfalso
    have hl:=congrArg List.length h4;rw[List.length_take,List.length_drop] at hl;rw[List.getElem?_eq_none_iff] at hx;omega
  rw[this,zbz]
def zbr(h:H)(lo hi es:Nat)(v:AV)(cs:List AV):Prop :=
 (v = .nils/\cs=[])\/∃b l,v = .sl b 0 l l (some es)/\lo<=b/\b<hi/\h.get b = .own 0 cs/\cs.length=l*es/\0<l
theorem zbr.nil(h:H)(lo hi es:Nat):zbr h lo hi es .nils []:=.inl ⟨rfl,rfl⟩
theorem zbr.sc{h:H}{lo hi es:Nat}{v:AV}{cs:List AV}(ho:zbr h lo hi es v cs):v.sc=true:=by
 rcases ho with⟨rfl,_⟩|⟨b,l,rfl,_⟩<;>rfl
theorem zbr.mono{h h':H}{lo hi lo' hi' es:Nat}{v:AV}{cs:List AV}(ho:zbr h lo hi es v cs)(h1:lo'<=lo)(h2:hi<=hi')(hg:∀i,lo<=i->i<hi->h'.get i=h.get i):zbr h' lo' hi' es v cs:=by
 rcases ho with ho|⟨b,l,h3,h4,h5,h6,h7⟩
 ·exact .inl ho
 ·exact .inr ⟨b,l,h3,by omega,by omega,by rw[hg b h4 h5];exact h6,h7⟩
theorem zbr.sl{h:H}{lo hi:Nat}{v:AV}{cs:List AV}(ho:zbr h lo hi 1 v cs)(hh:hi<=h.n):SlAt h v cs:=by
 rcases ho with ho|⟨b,l,h3,h4,h5,h6,h7,h8⟩
 ·exact .inl ho
 ·rw[Nat.mul_one] at h7;exact .inr ⟨b,0,l,_,cs,by rw[h3,h7],by omega,by rw[h6];rfl,by simp,by omega⟩
theorem zbr.set{h:H}{lo hi es:Nat}{v:AV}{cs:List AV}(ho:zbr h lo hi es v cs){i:Nat}(hi':i<lo\/hi<=i)(b:Blk):zbr (h.set i b) lo hi es v cs :=
 ho.mono (Nat.le_refl _) (Nat.le_refl _) λj h1 h2=>zae (by omega)
theorem zbr.ext{h h':H}{lo hi es:Nat}{v:AV}{cs:List AV}(ho:zbr h lo hi es v cs)(e:Ext h h')(hh:hi<=h.n):zbr h' lo hi es v cs :=
 ho.mono (Nat.le_refl _) (Nat.le_refl _) λj h1 h2=>e.get j (by omega)
theorem zf0(cs:List AV)(o:Nat)(v:AV)(vs:List AV):zaI cs o (v::vs)=zaI (cs.set o v) (o+1) vs:=rfl
theorem zfW{x y:Int}(h:-9223372036854775808<=x+y)(h':x+y<9223372036854775808)(k:VK β):qAdd (.int .i64 x) (.int .i64 y) (.mk k)=k (.int .i64 (x+y)):=by apply pAdd_fit<;>assumption
theorem zfR{x y:Int}(h:-9223372036854775808<=x-y)(h':x-y<9223372036854775808)(k:VK β):qSub (.int .i64 x) (.int .i64 y) (.mk k)=k (.int .i64 (x-y)):=by apply pSub_fit<;>assumption
theorem zfT{x y:Int}(h:-9223372036854775808<=x*y)(h':x*y<9223372036854775808)(k:VK β):qMul (.int .i64 x) (.int .i64 y) (.mk k)=k (.int .i64 (x*y)):=by apply pMul_fit<;>assumption
theorem zfS{x:Int}(h:-9223372036854775808<=-x)(h':-x<9223372036854775808)(k:VK β):qNeg (.int .i64 x) (.mk k)=k (.int .i64 (-x)):=by apply pNeg_fit<;>assumption
theorem zew{kd:IntKind}{x:Int}(h:-9223372036854775808<=x)(h':x<9223372036854775808)(k:VK β):qConv .i64 (.int kd x) (.mk k)=k (.int .i64 x):=by apply zgH<;>assumption
theorem q_pEql_i(kd:IntKind)(x y:Int)(k:VK β):qEql (.int kd x) (.int kd y) (.mk k)=k (.bool (decide (x=y))):=by apply pEql_i<;>assumption
theorem q_pNeq_i(kd:IntKind)(x y:Int)(k:VK β):qNeq (.int kd x) (.int kd y) (.mk k)=k (.bool (decide (¬ x=y))):=by apply pNeq_i<;>assumption
theorem q_pLss_i(kd:IntKind)(x y:Int)(k:VK β):qLss (.int kd x) (.int kd y) (.mk k)=k (.bool (decide (x<y))):=by apply pLss_i<;>assumption
theorem q_pGtr_i(kd:IntKind)(x y:Int)(k:VK β):qGtr (.int kd x) (.int kd y) (.mk k)=k (.bool (decide (y<x))):=by apply pGtr_i<;>assumption
theorem q_pLeq_i(kd:IntKind)(x y:Int)(k:VK β):qLeq (.int kd x) (.int kd y) (.mk k)=k (.bool (decide (x<=y))):=by apply pLeq_i<;>assumption
theorem q_pGeq_i(kd:IntKind)(x y:Int)(k:VK β):qGeq (.int kd x) (.int kd y) (.mk k)=k (.bool (decide (y<=x))):=by apply pGeq_i<;>assumption
theorem q_pMin_i(kd:IntKind)(x y:Int)(k:VK β):qMin (.int kd x) (.int kd y) (.mk k)=k (.int kd (min x y)):=by apply pMin_i<;>assumption
theorem q_pMax_i(kd:IntKind)(x y:Int)(k:VK β):qMax (.int kd x) (.int kd y) (.mk k)=k (.int kd (max x y)):=by apply pMax_i<;>assumption
theorem zgr(x y:List UInt8)(k:VK β):qSEql (.str x) (.str y) (.mk k)=k (.bool (decide (x=y))):=by apply pSEql_s<;>assumption
theorem zgq(x y:List UInt8)(k:VK β):qSNeq (.str x) (.str y) (.mk k)=k (.bool (decide (¬ x=y))):=by apply pSNeq_s<;>assumption
theorem zgs{x y:List UInt8}(h:x.length+y.length<9223372036854775807)(k:VK β):qSAdd (.str x) (.str y) (.mk k)=k (.str (x++y)):=by apply pSAdd_s<;>assumption
theorem q_pNot_b(b:Bool)(k:VK β):qNot (.bool b) (.mk k)=k (.bool (!b)):=by apply pNot_b<;>assumption
theorem zgt(s:List UInt8)(k:VK β):qLenS (.str s) (.mk k)=k (.int .i64 (s.length:Int)):=by apply pLenS_s<;>assumption
theorem zcw(k:VK β):qLenL .nils (.mk k)=k (.int .i64 0):=by apply zgD<;>assumption
theorem zc0(b o l m:Nat)(g:Option Nat)(k:VK β):qLenL (.sl b o l m g) (.mk k)=k (.int .i64 (l:Int)):=by apply pLenL_sl<;>assumption
theorem zex(k:VK β):qCapL .nils (.mk k)=k (.int .i64 0):=by apply zgI<;>assumption
theorem zfV(b o l m:Nat)(k:VK β):qCapL (.sl b o l m none) (.mk k)=k (.int .i64 (m:Int)):=by apply pCapL_sl<;>assumption
theorem zgu{s:List UInt8}{kd:IntKind}{i:Int}(h:0<=i)(h':i<s.length)(k:VK β):qIdxS (.str s) (.int kd i) (.mk k)=k (.int .u8 (bt s i.toNat:Int)):=by apply pIdxS_s<;>assumption
theorem q_pExt_0(v:AV)(vs:List AV)(k:VK β):qExt 0 (.tup (v::vs)) (.mk k)=k v:=by apply pExt_0<;>assumption
theorem q_pExt_S(i:Nat)(v:AV)(vs:List AV)(k:VK β):qExt (i+1) (.tup (v::vs)) (.mk k)=qExt i (.tup vs) (.mk k):=by apply pExt_S<;>assumption
theorem zgv(off b o:Nat)(k:VK β):ze off (.ptr b o) (.mk k)=k (.ptr b (o+off)):=by apply pFadr_p<;>assumption
theorem zcx{es b o l m:Nat}{g:Option Nat}{kd:IntKind}{i:Int}(h:0<=i)(h':i<l)(k:VK β):zN es (.sl b o l m g) (.int kd i) (.mk k)=k (.ptr b (o+i.toNat*es)):=by apply zgF<;>assumption
theorem zfU{n es b o:Nat}{kd:IntKind}{i:Int}(h:0<=i)(h':i<n)(k:VK β):qIadrA n es (.ptr b o) (.int kd i) (.mk k)=k (.ptr b (o+i.toNat*es)):=by apply pIadrA_p<;>assumption
theorem zev(b o l m:Nat)(g:Option Nat)(neg:Bool)(k:VK β):zfg .sl neg (.sl b o l m g) (.mk k)=k (.bool neg):=by apply zgE<;>assumption
theorem zdd(neg:Bool)(k:VK β):zfg .sl neg .nils (.mk k)=k (.bool (!neg)):=by apply zeG<;>assumption
theorem zde(neg:Bool)(k:VK β):zfg .ifc neg .nili (.mk k)=k (.bool (!neg)):=by apply zeH<;>assumption
theorem zdH(neg:Bool)(k:VK β):zfg .ifc neg .opq (.mk k)=k (.bool neg):=by apply zf2<;>assumption
theorem zdJ(z:List AV)(k:VK β):zJ z [] [] (.mk k)=k (.agg z):=by apply zf4<;>assumption
theorem zdK(z:List AV)(off:Nat)(ps:List (Nat × Nat))(kd:IntKind)(n:Int)(vs:List AV)(h:off<z.length)(k:VK β):zJ z ((off,1)::ps) (.int kd n::vs) (.mk k)=zJ (z.set off (.int kd n)) ps vs (.mk k):=by apply zf5<;>assumption
theorem zdI(z:List AV)(off:Nat)(ps:List (Nat × Nat))(s:List UInt8)(vs:List AV)(h:off<z.length)(k:VK β):zJ z ((off,1)::ps) (.str s::vs) (.mk k)=zJ (z.set off (.str s)) ps vs (.mk k):=by apply zf3<;>assumption
theorem zey(z:List AV)(off:Nat)(ps:List (Nat × Nat))(v:AV)(hv:v.sc=true)(vs:List AV)(h:off<z.length)(k:VK β):zJ z ((off,1)::ps) (v::vs) (.mk k)=zJ (z.set off v) ps vs (.mk k):=by apply zdO<;>assumption
theorem zdL(z:List AV)(off n:Nat)(ps:List (Nat × Nat))(us vs:List AV)(hn:us.length=n)(h:off+n<=z.length)(k:VK β):zJ z ((off,n)::ps) (.agg us::vs) (.mk k)=zJ (zaI z off us) ps vs (.mk k):=by apply zf6<;>assumption
theorem zfY(tag:Nat)(z:List AV)(h:H)(k:K β):zb6 tag z h (.mk k)=k (.ptr h.n 0) (h.push (.own tag z)):=by apply fAlloc_n<;>assumption
theorem zgw{v:AV}(hv:v.sc=true)(tag:Nat)(h:H)(k:K β):qBox tag v h (.mk k)=k (.ptr h.n 0) (h.push (.own tag [v])):=by apply fBox_sc<;>assumption
theorem zfX(tag:Nat)(us:List AV)(h:H)(k:K β):qBox tag (.agg us) h (.mk k)=k (.ptr h.n 0) (h.push (.own tag us)):=by apply fBox_agg<;>assumption
theorem zdf{tag:Nat}{z:AV}{v:AV}(hv:v.sc=true)(h:H)(k:K β):zQ tag [z] 1 [(0,1)] [v] h (.mk k)=k (.sl h.n 0 1 1 none) (h.push (.own tag [v])):=by apply zeV<;>assumption
theorem qIf_b(b:Bool)(x y:Option β):qIf (.bool b) (.mk x) (.mk y)=zbI b (.mk x) (.mk y):=fIf_b b x y
theorem qAnd_b(b:Bool)(h:H)(f:H->K β->Option β)(k:K β):qAnd (.bool b) h (.mk f) (.mk k)=zbI b (.mk (f h k)) (.mk (k (.bool false) h)):=fAnd_b b h f k
theorem qOr_b(b:Bool)(h:H)(f:H->K β->Option β)(k:K β):qOr (.bool b) h (.mk f) (.mk k)=zbI b (.mk (k (.bool true) h)) (.mk (f h k)):=fOr_b b h f k
theorem qGrd_b(b want:Bool)(h:H)(act:H->K β->Option β)(k:K β):qGrd (.bool b) want h (.mk act) (.mk k)=zbI (b==want) (.mk (act h k)) (.mk (k (.tup []) h)):=by cases b<;>cases want<;>rfl
theorem qGrd_t(want:Bool)(vs:List AV)(h:H)(act:H->K β->Option β)(k:K β):qGrd (.tup vs) want h (.mk act) (.mk k)=k (.tup []) h:=rfl
theorem qPick_b(b:Bool)(x y:AV)(k:VK β):zeA (.bool b) x y (.mk k)=zbI b (.mk (k x)) (.mk (k y)):=rfl
theorem qCond_t(x y:Option β):zbI true (.mk x) (.mk y)=x:=rfl
theorem qCond_f(x y:Option β):zbI false (.mk x) (.mk y)=y:=rfl
theorem qCond_n(b:Bool)(x y:Option β):zbI (!b) (.mk x) (.mk y)=zbI b (.mk y) (.mk x):=by cases b<;>rfl
theorem zgx{p:Prop}[Decidable p]{x y:Option β}(h:p):zbI (decide p) (.mk x) (.mk y)=x:=by rw[decide_eq_true h];rfl
theorem zgy{p:Prop}[Decidable p]{x y:Option β}(h:¬ p):zbI (decide p) (.mk x) (.mk y)=y:=by rw[decide_eq_false h];rfl
theorem qSome_v{α:Type}(v:α)(c:α->Option β):zez (some v) (.mk c)=c v:=rfl
theorem qJoin_eq(n:Nat){j:Cur β n}{b:Cur β n->Option β}(w:Wr j)(w':Wr b):zt n w w'=b j:=rfl
theorem qFld1_a(off:Nat)(cs:List AV)(k:VK β):qFld1 off (.agg cs) (.mk k)=zez cs[off]? (.mk k):=pFld1_a off cs k
theorem qLoad1_p(b o:Nat)(h:H)(k:VK β):za (.ptr b o) h (.mk k)=zez (h.get b).cells (.mk λcs=>zez cs[o]? (.mk k)):=zfu b o h k
theorem qLoadN_p(n b o:Nat)(h:H)(k:VK β):zax n (.ptr b o) h (.mk k)=zez (h.get b).cells (.mk λcs=>zbI (decide (o+n<=cs.length)) (.mk (k (.agg ((cs.drop o).take n)))) (.mk none)):=by
 refine (fLoadN_p n b o h k).trans ?_;show _=zP _ _;congr 1;funext cs;show _=cond _ _ _;rw[cond_eq_ite];simp only[decide_eq_true_eq]
theorem qStore_1{v:AV}(hv:v.sc=true)(b o:Nat)(h:H)(k:H->Option β):zaJ 1 (.ptr b o) v h (.mk k)=zez (zeJ (h.get b)) (.mk λr=>zbI (decide (o<r.2.length)) (.mk (k (h.set b (.own r.1 (r.2.set o v))))) (.mk none)):=by
 refine (fStore_1 hv b o h k).trans ?_;show _=zP _ _;congr 1;funext cs;show _=cond _ _ _;rw[cond_eq_ite];simp only[decide_eq_true_eq]
theorem qStore_n(n b o:Nat)(us:List AV)(h:H)(k:H->Option β):zaJ n (.ptr b o) (.agg us) h (.mk k)=zez (zeJ (h.get b)) (.mk λr=>zbI (decide (us.length=n/\o+n<=r.2.length)) (.mk (k (h.set b (.own r.1 (zaI r.2 o us))))) (.mk none)):=by
 refine (fStore_n n b o us h k).trans ?_;show _=zP _ _;congr 1;funext cs;show _=cond _ _ _;rw[cond_eq_ite];simp only[decide_eq_true_eq]
 by_cases h1:us.length=n<;>simp[h1]
noncomputable def zR{β:Type}:=And.intro (@zfW β) (And.intro (@zfR β) (And.intro (@zfT β) (And.intro (@zfS β) (And.intro (@zew β) (And.intro (@q_pEql_i β) (And.intro (@q_pNeq_i β) (And.intro (@q_pLss_i β) (And.intro (@q_pGtr_i β) (And.intro (@q_pLeq_i β) (And.intro (@q_pGeq_i β) (And.intro (@q_pMin_i β) (And.intro (@q_pMax_i β) (And.intro (@zgr β) (And.intro (@zgq β) (And.intro (@zgs β) (And.intro (@q_pNot_b β) (And.intro (@zgt β) (And.intro (@zcw β) (And.intro (@zc0 β) (And.intro (@zex β) (And.intro (@zfV β) (And.intro (@zgu β) (And.intro (@q_pExt_0 β) (And.intro (@q_pExt_S β) (And.intro (@zgv β) (And.intro (@zcx β) (And.intro (@zfU β) (And.intro (@zev β) (And.intro (@zdd β) (And.intro (@zde β) (And.intro (@zdH β) (And.intro (@zdJ β) (And.intro (@zdK β) (And.intro (@zdI β) (And.intro (@zey β) (And.intro (@zdL β) (And.intro (@zfY β) (And.intro (@zgw β) (And.intro (@zfX β) (And.intro (@zdf β) (And.intro (@qIf_b β) (And.intro (@qAnd_b β) (And.intro (@qOr_b β) (And.intro (@qGrd_b β) (And.intro (@qGrd_t β) (And.intro (@qPick_b β) (And.intro (@qCond_t β) (And.intro (@qCond_f β) (And.intro (@qCond_n β) (And.intro (@zgx β) (And.intro (@zgy β) (And.intro (@qSome_v β) (And.intro (@qJoin_eq β) (And.intro (@qFld1_a β) (And.intro (@qLoad1_p β) (And.intro (@qLoadN_p β) (And.intro (@qStore_1 β) ((@qStore_n β)))))))))))))))))))))))))))))))))))))))))))))))))))))))))))
end
end Am.F
end
section
namespace Am
open Go Go.RowKit
def zcl(args:List AV)(S:St):Option (AV × St):=match args with
 | [.str s,.str cs]=>if s.length<4294967281/\cs=[32,40,41] then some (.int .i64 (Lib.indexAny s [32,40,41]),S) else none
 | _=>none
namespace F
variable {β:Type}
noncomputable def zdk(args:List AV)(h:H):Option (AV × H):=a2 args λa b=>aStr a λs=>aStr b λcs=>
 cond (Nat.ble (Nat.succ (lenF s)) 4294967281) (cond (eqSF cs [32,40,41]) (some (.int .i64 (idxF [32,40,41] s 0),h)) none) none
theorem zeS{args:List AV}{h h':H}{v:AV}{S:St}(hi:zdk args h=some (v,h'))(ha:Abs h S):∃S',zcl args S=some (v,S')/\Abs h' S':=by
 obtain⟨a,b,rfl,h1⟩:=zE hi;obtain⟨s,rfl,h2⟩:=zk h1;obtain⟨cs,rfl,h3⟩:=zk h2;obtain⟨h4,h5⟩:=zb h3;obtain⟨h6,h7⟩:=zb h5;have h4:=zhn h4;rw[zg] at h4;rw[zbc,beq_iff_eq] at h6;cases h7;refine⟨S,?_,ha⟩;simp only[zcl];rw[if_pos ⟨h4,h6⟩,zg5];congr 4;split<;>omega
def zdC:List AV:=[.str [43],.str [45],.str [42],.str [61],.str [60]]
def zct(args:List AV)(S:St):Option (AV × St):=match args with
 | [.str s,.str cs]=>if s=[43,32,45,32,42,32,61,32,60]/\cs=[32] then some (.sl S.length 0 5 5 none,S++[.own 0 zdC]) else none
 | _=>none
noncomputable def zgk(args:List AV)(h:H):Option (AV × H):=a2 args λa b=>aStr a λs=>aStr b λcs=>
 cond (eqSF s [43,32,45,32,42,32,61,32,60]) (cond (eqSF cs [32]) (some (.sl h.n 0 5 5 none,h.push (.own 0 zdC))) none) none
theorem zgj{args:List AV}{h h':H}{v:AV}{S:St}(hi:zgk args h=some (v,h'))(ha:Abs h S):∃S',zct args S=some (v,S')/\Abs h' S':=by
 obtain⟨a,b,rfl,h1⟩:=zE hi;obtain⟨s,rfl,h2⟩:=zk h1;obtain⟨cs,rfl,h3⟩:=zk h2;obtain⟨h4,h5⟩:=zb h3;obtain⟨h6,h7⟩:=zb h5;rw[zbc,beq_iff_eq] at h4 h6;cases h7;refine⟨S++[.own 0 zdC],?_,ha.push _⟩;simp only[zct];rw[if_pos ⟨h4,h6⟩,ha.len]
def awkI(args:List AV)(h:H):Option (AV × H):=match args with
 | []=>some (.bool true,h)
 | _::_=>none
noncomputable def stdI:FI:=λg args h=>(cond (Nat.beq g 45) (atoiI args h) (cond (Nat.beq g 44) (zdk args h) (cond (Nat.beq g 42) (joinI args h) (cond (Nat.beq g 29) (itoaI args h) (cond (Nat.beq g 277) (zgk args h) (awkI args h))))))
theorem stdI_29(args:List AV)(h:H):stdI 29 args h=itoaI args h:=rfl
theorem stdI_42(args:List AV)(h:H):stdI 42 args h=joinI args h:=rfl
theorem stdI_44(args:List AV)(h:H):stdI 44 args h=zdk args h:=rfl
theorem stdI_45(args:List AV)(h:H):stdI 45 args h=atoiI args h:=rfl
theorem stdI_277(args:List AV)(h:H):stdI 277 args h=zgk args h:=rfl
noncomputable def e29:Ent:=⟨29,.intr zeR,λ_ I _ _ a h k=>fInt I 29 a h k,λ_ _ _ _ _ _ _=>rfl⟩
noncomputable def e42:Ent:=⟨42,.intr zeQ,λ_ I _ _ a h k=>fInt I 42 a h k,λ_ _ _ _ _ _ _=>rfl⟩
noncomputable def e44:Ent:=⟨44,.intr zcl,λ_ I _ _ a h k=>fInt I 44 a h k,λ_ _ _ _ _ _ _=>rfl⟩
noncomputable def e45:Ent:=⟨45,.intr atoiG,λ_ I _ _ a h k=>fInt I 45 a h k,λ_ _ _ _ _ _ _=>rfl⟩
noncomputable def e277:Ent:=⟨277,.intr zct,λ_ I _ _ a h k=>fInt I 277 a h k,λ_ _ _ _ _ _ _=>rfl⟩
section
variable {t:ETree}
end
end F
end Am
end
