/- Texts that belong together: no condition. -/
import GoSem.Step
import Derived.Below
import Derived.Laws.Sem
import Derived.Laws.Cells
import Derived.Laws.Entries
import GoSem.Dispatch
import Derived.Laws.StructEq
import Derived.Laws.Strings
import Derived.Laws.BytesString
set_option maxRecDepth 100000
set_option linter.unusedVariables false
set_option linter.unusedSimpArgs false
set_option linter.defProp false
section
namespace Am
open Go (IntKind BinOp)
inductive AV where
 | any
 | bool (b:Bool)
 | int (k:IntKind) (n:Int)
 | str (s:List UInt8)
 | ptr (b o:Nat)
 | nilp
 | sl (b o len cap:Nat) (g:Option Nat)
 | nils
 | agg (cs:List AV)
 | tup (vs:List AV)
 | fn (k:Nat) (caps:List AV)
 | yld (l:Nat)
 | nilf
 | mp (b:Nat)
 | nilm
 | nili
 | opq
 deriving Repr,Inhabited
inductive Opd where
 | t (i:Nat)
 | c (v:AV)
 deriving Repr,Inhabited
inductive NK where
 | ptr|sl|mp|fn|ifc
 deriving Repr,Inhabited,DecidableEq
inductive FK where
 | int|bool|str
 deriving Repr,Inhabited,DecidableEq
inductive OpK where
 | mov
 | pick
 | alloc (tag:Nat) (z:List AV)
 | box (tag:Nat)
 | build (z:List AV) (ps:List (Nat × Nat))
 | bslice (tag:Nat) (z:List AV) (n:Nat) (ps:List (Nat × Nat))
 | load1
 | loadN (n:Nat)
 | store (n:Nat)
 | nilCheck
 | binI (op:BinOp)
 | binS (op:BinOp)
 | eqB (neg:Bool)
 | isNil (c:NK) (neg:Bool)
 | eqP (neg:Bool)
 | eqA (ks:List FK) (neg:Bool)
 | notB
 | negI
 | xorI
 | conv (k:IntKind)
 | b2s
 | s2b (tag:Nat)
 | idS
 | idP
 | slS (lo hi:Bool)
 | slL (es:Nat) (lo hi mx:Bool)
 | slA (n es:Nat) (lo hi mx:Bool)
 | fadr (off:Nat)
 | fld1 (off:Nat)
 | fldN (n off:Nat)
 | iadr (es:Nat)
 | iadrA (n es:Nat)
 | idxS
 | idxA1 (n es:Nat)
 | idxAN (n es m:Nat)
 | ext (i:Nat)
 | mkfn (k:Nat)
 | mkslice (tag:Nat) (z:List AV) (bytes:Nat)
 | lenS
 | lenL
 | lenM
 | lenC (n:Nat)
 | capL
 | app (tag es bytes:Nat)
 | appz (tag es bytes:Nat) (z:List AV)
 | cpy (es:Nat)
 | minI
 | maxI
 | call (k:Nat)
 | callv
 | mkifc
 | mkmap
 | lookup (ok:Bool) (z:AV)
 | mapSet
 | rngS
 | nxtS
 | bad
 deriving Repr,Inhabited
structure IOp where
 dst:Option Nat
 k:OpK
 args:List Opd
 guard:Option (Nat × Bool)
 deriving Repr,Inhabited
inductive DItem where
 | op (i:Nat)
 | chk (i:Nat)
 deriving Repr,Inhabited
inductive ICode where
 | skip
 | ret
 | bad
 | reg (ops:List IOp)
 | dreg (ops:List IOp) (its:List DItem)
 | seq (a b:ICode)
 | cond (c:Opd) (a b:ICode)
 | block (id:Nat) (c:ICode)
 | loop (live:List Nat) (c:ICode)
 | exit (id:Nat)
 | rf (f:Opd) (params:List Nat) (asg body:ICode)
 deriving Repr,Inhabited
inductive IRes where
 | tmp (t:Nat)
 | cell1 (t:Nat)
 | cellN (t n:Nat)
 deriving Repr,Inhabited
inductive Jmp where
 | ret
 | exit (id:Nat)
 deriving Repr,Inhabited
inductive LSt where
 | ready|busy|done|exhausted
 deriving Repr,Inhabited,DecidableEq
inductive Blk where
 | dead
 | own (tag:Nat) (cs:List AV)
 | ro (cs:List AV)
 | map (es:List (List UInt8 × AV)) (clock:Nat)
 | iter (s:List UInt8) (pos:Nat)
 | dfr
 | loop (e:List AV) (params:List Nat) (asg body:ICode) (st:LSt) (pend:Option Jmp) (d:Nat)
 deriving Inhabited
abbrev St:=List Blk
abbrev Env:=List AV
def Opd.ev(e:Env):Opd->AV
 | .t i=>e.getD i (.tup [])
 | .c v=>v
def Blk.cells:Blk->Option (List AV)
 | .own _ cs=>some cs
 | .ro cs=>some cs
 | _=>none
def St.load1(S:St)(b o:Nat):Option AV :=
 match S[b]? with
 | some k=>match k.cells with
  | some cs=>cs[o]?
  | none=>none
 | none=>none
def St.loadN(S:St)(b o n:Nat):Option (List AV) :=
 match S[b]? with
 | some k=>match k.cells with
  | some cs=>if o+n<=cs.length then some ((cs.drop o).take n) else none
  | none=>none
 | none=>none
def zaI(cs:List AV)(o:Nat):List AV->List AV
 | []=>cs
 | v::vs=>zaI (cs.set o v) (o+1) vs
def St.storeN(S:St)(b o:Nat)(vs:List AV):Option St :=
 match S[b]? with
 | some (.own tag cs)=>if o+vs.length<=cs.length then some (S.set b (.own tag (zaI cs o vs))) else none
 | _=>none
def AV.sc:AV->Bool
 | .tup _=>false
 | .agg _=>false
 | .any=>false
 | _=>true
def AV.flat:AV->Option (List AV)
 | .agg cs=>some cs
 | .tup _=>none
 | .any=>none
 | v=>some [v]
def binI(op:BinOp)(k:IntKind)(x y:Int):Option AV :=
 match op with
 | .add=>some (.int k (k.wrap (x+y)))
 | .sub=>some (.int k (k.wrap (x-y)))
 | .mul=>some (.int k (k.wrap (x*y)))
 | .quo=>if y=0 then none else some (.int k (k.wrap (x.tdiv y)))
 | .rem=>if y=0 then none else some (.int k (x.tmod y))
 | .and=>some (.int k (k.wrap (BitVec.ofInt k.bits x &&& BitVec.ofInt k.bits y).toNat))
 | .or=>some (.int k (k.wrap (BitVec.ofInt k.bits x ||| BitVec.ofInt k.bits y).toNat))
 | .xor=>some (.int k (k.wrap (BitVec.ofInt k.bits x ^^^ BitVec.ofInt k.bits y).toNat))
 | .andNot=>some (.int k (k.wrap (BitVec.ofInt k.bits x &&& ~~~ BitVec.ofInt k.bits y).toNat))
 | .shl=>if y<0 then none else some (.int k (k.wrap (x*2 ^ (min y.toNat k.bits))))
 | .shr=>if y<0 then none else some (.int k (x.fdiv (2 ^ (min y.toNat k.bits))))
 | .eql=>some (.bool (x==y))
 | .neq=>some (.bool (x != y))
 | .lss=>some (.bool (decide (x<y)))
 | .leq=>some (.bool (decide (x<=y)))
 | .gtr=>some (.bool (decide (x>y)))
 | .geq=>some (.bool (decide (x>=y)))
def zF(op:BinOp)(k k':IntKind):Bool :=
 match op with
 | .shl|.shr=>true
 | _=>k==k'
def binS(op:BinOp)(x y:List UInt8):Option AV :=
 match op with
 | .add=>if x.length+y.length<9223372036854775808 then some (.str (x++y)) else none
 | .eql=>some (.bool (x==y))
 | .neq=>some (.bool (x != y))
 | .lss=>some (.bool (Go.Op.bytesLess x y))
 | .leq=>some (.bool (Go.Op.bytesLess x y||x==y))
 | .gtr=>some (.bool (!(Go.Op.bytesLess x y||x==y)))
 | .geq=>some (.bool (!(Go.Op.bytesLess x y)))
 | _=>none
def zRq9:List FK->List AV->List AV->Option Bool
 | [],[],[]=>some true
 | .int::ks,.int k a::xs,.int k' b::ys=>if k=k' then (if a==b then zRq9 ks xs ys else some false) else none
 | .bool::ks,.bool a::xs,.bool b::ys=>if a==b then zRq9 ks xs ys else some false
 | .str::ks,.str a::xs,.str b::ys=>if a==b then zRq9 ks xs ys else some false
 | _,_,_=>none
def fill:List (Nat × Nat)->List AV->List AV->Option (List AV)
 | [],[],cs=>some cs
 | (off,size)::ps,v::vs,cs=>
  v.flat.bind λus=>if us.length=size/\off+size<=cs.length then fill ps vs (zaI cs off us) else none
 | _,_,_=>none
def zah:List AV->Option (List UInt8)
 | []=>some []
 | .int .u8 n::vs=>(zah vs).map (UInt8.ofNat n.toNat::·)
 | _=>none
def zK(s:List UInt8):List AV:=s.map λb=>.int .u8 b.toNat
def rep:Nat->List AV->List AV
 | 0,_=>[]
 | n+1,z=>z++rep n z
def zu:AV->Option Nat
 | .int _ n=>if 0<=n then some n.toNat else none
 | _=>none
def zZ(lo hi mx:Bool)(args:List AV)(len cap:Nat):Option (Nat × Nat × Nat) :=
 match lo,hi,mx,args with
 | false,false,false,[]=>some (0,len,cap)
 | true,false,false,[l]=>(zu l).bind λl=>if l<=len then some (l,len,cap) else none
 | false,true,false,[h]=>(zu h).bind λh=>if h<=cap then some (0,h,cap) else none
 | true,true,false,[l,h]=>(zu l).bind λl=>(zu h).bind λh=>if l<=h/\h<=cap then some (l,h,cap) else none
 | false,true,true,[h,m]=>(zu h).bind λh=>(zu m).bind λm=>if h<=m/\m<=cap then some (0,h,m) else none
 | true,true,true,[l,h,m]=>(zu l).bind λl=>(zu h).bind λh=>(zu m).bind λm=>if l<=h/\h<=m/\m<=cap then some (l,h,m) else none
 | _,_,_,_=>none
def room:Nat:=68719476736
def zW(S:St)(es m:Nat):AV->Option (List AV)
 | .nils=>some []
 | .sl b o _ _ _=>S.loadN b o (m*es)
 | .str s=>if es=1 then some (zK (s.take m)) else none
 | _=>none
def zaw:AV->Option Nat
 | .nils=>some 0
 | .sl _ _ len _ _=>some len
 | .str s=>some s.length
 | _=>none
def grow(tag es bytes:Nat)(s:AV)(n:Nat)(new:List AV)(S:St):Option (AV × St) :=
 match s with
 | .nils=>
  if n=0 then some (.nils,S)
  else if n<room/\bytes<=1024 then some (.sl S.length 0 n n (some es),S++[.own tag new]) else none
 | .sl b o len cap g=>
  if len+n<=cap then
   if n=0 then some (s,S)
   else (S.storeN b (o+len*es) new).map λS'=>(.sl b o (len+n) cap g,S')
  else if len+n<room/\bytes<=1024 then
   (S.loadN b o (len*es)).bind λold=>
    match g with
    | none=>some (.sl S.length 0 (len+n) (len+n) (some es),S++[.own tag (old++new)])
    | some es'=>
     match S[b]? with
     | some (.own tag' cs)=>
      if es'=es/\o+len*es=cs.length/\tag'=tag then
       some (.sl S.length 0 (len+n) (len+n) (some es),S.set b .dead++[.own tag (old++new)])
      else none
     | _=>none
  else none
 | _=>none
def zhk(S:St)(cs:List AV)(n:Nat):AV->Option (AV × St)
 | .sl b o _ _ _=>if n=0 then some (.int .i64 0,S) else (S.storeN b o cs).map (.int .i64 n,·)
 | .nils=>some (.int .i64 0,S)
 | _=>none
def z7(k:List UInt8):List (List UInt8 × AV)->Option AV
 | []=>none
 | (k',v)::es=>if k==k' then some v else z7 k es
def zbf(k:List UInt8)(v:AV):List (List UInt8 × AV)->List (List UInt8 × AV)
 | []=>[(k,v)]
 | (k',v')::es=>if k==k' then (k',v)::es else (k',v')::zbf k v es
def zdT:NK->AV->Option Bool
 | .ptr,.nilp=>some true
 | .ptr,.ptr _ _=>some false
 | .sl,.nils=>some true
 | .sl,.sl ..=>some false
 | .mp,.nilm=>some true
 | .mp,.mp _=>some false
 | .fn,.nilf=>some true
 | .fn,.fn _ _=>some false
 | .fn,.yld _=>some false
 | .ifc,.nili=>some true
 | .ifc,.opq=>some false
 | _,_=>none
def ap(call:AV->List AV->St->Option (AV × St)):OpK->List AV->St->Option (AV × St)
 | .mov,[x],S=>some (x,S)
 | .pick,[.bool c,a,b],S=>some (if c then a else b,S)
 | .alloc tag z,[],S=>some (.ptr S.length 0,S++[.own tag z])
 | .box tag,[v],S=>v.flat.map λcs=>(.ptr S.length 0,S++[.own tag cs])
 | .build z ps,vs,S=>(fill ps vs z).map λcs=>(.agg cs,S)
 | .bslice tag z n ps,vs,S=>(fill ps vs z).map λcs=>(.sl S.length 0 n n none,S++[.own tag cs])
 | .load1,[.ptr b o],S=>(S.load1 b o).map (·,S)
 | .loadN n,[.ptr b o],S=>(S.loadN b o n).map λcs=>(.agg cs,S)
 | .store n,[.ptr b o,v],S=>v.flat.bind λcs=>if cs.length=n then (S.storeN b o cs).map (.tup [],·) else none
 | .nilCheck,[.ptr b o],S=>some (.ptr b o,S)
 | .nilCheck,[.fn k cs],S=>some (.fn k cs,S)
 | .nilCheck,[.yld l],S=>some (.yld l,S)
 | .binI op,[.int k x,.int k' y],S=>if zF op k k' then (binI op k x y).map (·,S) else none
 | .binS op,[.str x,.str y],S=>(binS op x y).map (·,S)
 | .eqB neg,[.bool x,.bool y],S=>some (.bool ((x==y) != neg),S)
 | .isNil c neg,[x],S=>(zdT c x).map λr=>(.bool (r != neg),S)
 | .eqP neg,[.ptr b o,.ptr b' o'],S=>if b=b'/\o=o' then some (.bool (!neg),S) else none
 | .eqA ks neg,[.agg xs,.agg ys],S=>(zRq9 ks xs ys).map λr=>(.bool (r != neg),S)
 | .notB,[.bool b],S=>some (.bool (!b),S)
 | .negI,[.int k n],S=>some (.int k (k.wrap (0-n)),S)
 | .xorI,[.int k n],S=>some (.int k (k.wrap (BitVec.ofInt k.bits (if k.signed then -1 else k.max) ^^^ BitVec.ofInt k.bits n).toNat),S)
 | .conv k,[.int _ n],S=>some (.int k (k.wrap n),S)
 | .b2s,[.nils],S=>some (.str [],S)
 | .b2s,[.sl b o len _ _],S=>(S.loadN b o len).bind λcs=>(zah cs).map λs=>(.str s,S)
 | .s2b tag,[.str s],S=>some (.sl S.length 0 s.length s.length (some 1),S++[.own tag (zK s)])
 | .idS,[.str s],S=>some (.str s,S)
 | .slS lo hi,.str s::bs,S=>(zZ lo hi false bs s.length s.length).map λ(l,h,_)=>(.str ((s.take h).drop l),S)
 | .slL es lo hi mx,.sl b o len cap g::bs,S=>
  if g=none\/g=some es then (zZ lo hi mx bs len cap).map λ(l,h,m)=>(.sl b (o+l*es) (h-l) (m-l) (if mx then none else g),S) else none
 | .slL _ lo hi mx,.nils::bs,S=>(zZ lo hi mx bs 0 0).map λ_=>(.nils,S)
 | .slA n es lo hi mx,.ptr b o::bs,S=>(zZ lo hi mx bs n n).map λ(l,h,m)=>(.sl b (o+l*es) (h-l) (m-l) none,S)
 | .fadr off,[.ptr b o],S=>some (.ptr b (o+off),S)
 | .fld1 off,[.agg cs],S=>(cs[off]?).map (·,S)
 | .fldN n off,[.agg cs],S=>if off+n<=cs.length then some (.agg ((cs.drop off).take n),S) else none
 | .iadr es,[.sl b o len _ _,i],S=>(zu i).bind λi=>if i<len then some (.ptr b (o+i*es),S) else none
 | .iadrA n es,[.ptr b o,i],S=>(zu i).bind λi=>if i<n then some (.ptr b (o+i*es),S) else none
 | .idxS,[.str s,i],S=>(zu i).bind λi=>(s[i]?).map λc=>(.int .u8 c.toNat,S)
 | .idxA1 n es,[.agg cs,i],S=>(zu i).bind λi=>if i<n then (cs[i*es]?).map (·,S) else none
 | .idxAN n es m,[.agg cs,i],S=>(zu i).bind λi=>if i<n/\i*es+m<=cs.length then some (.agg ((cs.drop (i*es)).take m),S) else none
 | .ext i,[.tup vs],S=>(vs[i]?).map (·,S)
 | .mkfn k,vs,S=>some (.fn k vs,S)
 | .mkslice tag z bytes,[l,c],S=>
  (zu l).bind λl=>(zu c).bind λc=>
   if l<=c/\c<room/\bytes<=1024 then some (.sl S.length 0 l c none,S++[.own tag (rep c z)]) else none
 | .lenS,[.str s],S=>some (.int .i64 s.length,S)
 | .lenL,[.sl _ _ len _ _],S=>some (.int .i64 len,S)
 | .lenL,[.nils],S=>some (.int .i64 0,S)
 | .lenM,[.nilm],S=>some (.int .i64 0,S)
 | .lenM,[.mp b],S=>match S[b]? with
  | some (.map es _)=>some (.int .i64 es.length,S)
  | _=>none
 | .lenC n,[_],S=>some (.int .i64 n,S)
 | .capL,[.sl _ _ _ cap none],S=>some (.int .i64 cap,S)
 | .capL,[.nils],S=>some (.int .i64 0,S)
 | .app tag es bytes,[s,x],S=>(zaw x).bind λn=>(zW S es n x).bind λnew=>grow tag es bytes s n new S
 | .appz tag es bytes z,[s,n],S=>(zu n).bind λn=>if n<room/\bytes<=1024 then grow tag es bytes s n (rep n z) S else none
 | .cpy es,[d,x],S=>
  (zaw d).bind λdl=>(zaw x).bind λxl=>(zW S es (min xl dl) x).bind λcs=>zhk S cs (min xl dl) d
 | .minI,[.int k x,.int k' y],S=>if k=k' then some (.int k (if y<x then y else x),S) else none
 | .maxI,[.int k x,.int k' y],S=>if k=k' then some (.int k (if y>x then y else x),S) else none
 | .call k,vs,S=>call (.fn k []) vs S
 | .callv,f::vs,S=>call f vs S
 | .mkifc,[_],S=>some (.opq,S)
 | .mkmap,[],S=>some (.mp S.length,S++[.map [] 0])
 | .lookup ok z,[.nilm,.str _],S=>some (if ok then .tup [z,.bool false] else z,S)
 | .lookup ok z,[.mp b,.str k],S=>match S[b]? with
  | some (.map es _)=>match z7 k es with
   | some v=>some (if ok then .tup [v,.bool true] else v,S)
   | none=>some (if ok then .tup [z,.bool false] else z,S)
  | _=>none
 | .mapSet,[.mp b,.str k,v],S=>if v.sc=true then match S[b]? with
  | some (.map es clock)=>some (.tup [],S.set b (.map (zbf k v es) clock))
  | _=>none else none
 | .rngS,[.str s],S=>some (.ptr S.length 0,S++[.iter s 0])
 | .nxtS,[.ptr b 0],S=>match S[b]? with
  | some (.iter s pos)=>
   if pos<s.length then
    match Go.Utf8.decode ⟨s.toArray⟩ pos with
    | (c,width)=>some (.tup [.bool true,.int .i64 pos,.int .i32 c],S.set b (.iter s (pos+width)))
   else some (.tup [.bool false],S)
  | _=>none
 | _,_,_=>none
def setD(e:Env):Option Nat->AV->Env
 | some d,v=>e.set d v
 | none,_=>e
def wanted(e:Env):Option (Nat × Bool)->Option Bool
 | none=>some true
 | some (t,want)=>match e.getD t (.tup []) with
  | .bool b=>some (b==want)
  | .tup _=>some false
  | _=>none
def exOp(call:AV->List AV->St->Option (AV × St))(o:IOp)(e:Env)(S:St):Option (AV × St) :=
 match wanted e o.guard with
 | some true=>ap call o.k (o.args.map (·.ev e)) S
 | some false=>some (.tup [],S)
 | none=>none
def zX(call:AV->List AV->St->Option (AV × St)):List IOp->Env->St->Option (Env × St)
 | [],e,S=>some (e,S)
 | o::os,e,S=>(exOp call o e S).bind λ(v,S')=>zX call os (setD e o.dst v) S'
mutual
def AV.beq:AV->AV->Bool
 | .bool a,.bool b=>a==b
 | .int k a,.int k' b=>k==k'&&a==b
 | .str a,.str b=>a==b
 | .ptr b o,.ptr b' o'=>b==b'&&o==o'
 | .nilp,.nilp=>true
 | .sl b o l c g,.sl b' o' l' c' g'=>b==b'&&o==o'&&l==l'&&c==c'&&g==g'
 | .nils,.nils=>true
 | .agg xs,.agg ys=>AV.beqs xs ys
 | .fn k xs,.fn k' ys=>k==k'&&AV.beqs xs ys
 | .nilf,.nilf=>true
 | .mp a,.mp b=>a==b
 | .nilm,.nilm=>true
 | .nili,.nili=>true
 | .tup xs,.tup ys=>AV.beqs xs ys
 | _,_=>false
def AV.beqs:List AV->List AV->Bool
 | [],[]=>true
 | x::xs,y::ys=>AV.beq x y&&AV.beqs xs ys
 | _,_=>false
end
def zj(call:AV->List AV->St->Option (AV × St))(ops:List IOp):List DItem->Env->St->Option (Env × St)
 | [],e,S=>some (e,S)
 | .op i::its,e,S=>match ops[i]? with
  | some o=>(exOp call o e S).bind λ(v,S')=>zj call ops its (setD e o.dst v) S'
  | none=>none
 | .chk i::its,e,S=>match ops[i]? with
  | some o=>match o.dst with
   | some d=>(exOp (λ_ _ _=>none) o e S).bind λ(v,_)=>if AV.beq v (e.getD d (.tup [])) then zj call ops its e S else none
   | none=>none
  | none=>none
inductive Ex where
 | normal
 | ret
 | exit (id:Nat)
 deriving Repr,Inhabited,DecidableEq
structure Loc where
 e:Env
 ds:List Nat:=[]
 rd:Option Nat:=none
 deriving Repr,Inhabited
def zB(live:List Nat)(e:Env):Env:=e.mapIdx λi v=>if live.contains i then v else .any
def iter{α:Type}(f:α->St->Option (Ex × α × St)):Nat->α->St->Option (Ex × α × St)
 | 0,_,_=>none
 | n+1,l,S=>match f l S with
  | some (.normal,l',S')=>iter f n l' S'
  | r=>r
def exC(call:AV->List AV->St->Option (AV × St))(N:Nat):ICode->Loc->St->Option (Ex × Loc × St)
 | .skip,l,S=>some (.normal,l,S)
 | .ret,l,S=>some (.ret,l,S)
 | .bad,_,_=>none
 | .reg ops,l,S=>(zX call ops l.e S).map λ(e,S')=>(.normal,{ l with e },S')
 | .dreg ops its,l,S=>(zj call ops its l.e S).map λ(e,S')=>(.normal,{ l with e },S')
 | .seq a b,l,S=>match exC call N a l S with
  | some (.normal,l',S')=>exC call N b l' S'
  | r=>r
 | .cond c a b,l,S=>match c.ev l.e with
  | .bool true=>exC call N a l S
  | .bool false=>exC call N b l S
  | _=>none
 | .block id c,l,S=>match exC call N c l S with
  | some (.exit id',l',S')=>if id'=id then some (.normal,l',S') else some (.exit id',l',S')
  | r=>r
 | .loop live c,l,S=>iter (λl S=>exC call N c { l with e:=zB live l.e } S) N l S
 | .exit id,l,S=>some (.exit id,l,S)
 | .rf f ps asg body,l,S=>
  match l.rd with
  | none=>
   let d:=S.length
   let r:=S.length+1
   match call (f.ev l.e) [.yld r] (S++[.dfr,.loop l.e ps asg body .ready none d]) with
   | some (_,S')=>match S'[r]? with
    | some (.loop e' ps' a' b' st pend d')=>
     if st = .busy then none else
     let S'':=S'.set r (.loop e' ps' a' b' .exhausted pend d')
     match pend with
     | none=>some (.normal,{ l with ds:=d::l.ds },S'')
     | some .ret=>some (.ret,{ l with ds:=d::l.ds },S'')
     | some (.exit id)=>some (.exit id,{ l with ds:=d::l.ds },S'')
    | _=>none
   | none=>none
  | some r0=>match S[r0]? with
   | some (.loop _ _ _ _ _ _ d)=>
    let r:=S.length
    match call (f.ev l.e) [.yld r] (S++[.loop l.e ps asg body .ready none d]) with
    | some (_,S')=>match S'[r]? with
     | some (.loop e' ps' a' b' st pend d')=>
      if st = .busy then none else
      let S'':=S'.set r (.loop e' ps' a' b' .exhausted pend d')
      match pend with
      | none=>some (.normal,l,S'')
      | some .ret=>some (.ret,l,S'')
      | some (.exit id)=>some (.exit id,l,S'')
     | _=>none
    | none=>none
   | _=>none
def zbB(e:Env)(S:St):List IRes->Option (List AV)
  | []=>some []
  | r::rs=>
    (match r with
     | .tmp t=>some (e.getD t (.tup []))
     | .cell1 t=>match e.getD t (.tup []) with|.ptr b o=>S.load1 b o|_=>none
     | .cellN t n=>match e.getD t (.tup []) with|.ptr b o=>(S.loadN b o n).map .agg|_=>none).bind λv=>(zbB e S rs).map (v::·)
def one:List AV->AV
 | [v]=>v
 | vs=>.tup vs
inductive IFn where
 | code (nt:Nat) (res:List IRes) (body:ICode)
 | intr (g:List AV->St->Option (AV × St))
def pads(nt:Nat)(args:List AV):Env:=args++List.replicate (nt-args.length) (.tup [])
def zgY:List Nat->St->St
 | [],S=>S
 | d::ds,S=>zgY ds (S.set d .dead)
def zdD:List Nat->List AV->Env->Env
 | p::ps,v::vs,e=>zdD ps vs (e.set p v)
 | _,_,e=>e
def jmpOf:Ex->Option Jmp
 | .normal=>none
 | .ret=>some .ret
 | .exit id=>some (.exit id)
def run(IP:Nat->Option IFn):Nat->AV->List AV->St->Option (AV × St)
 | 0,_,_,_=>none
 | n+1,.fn k caps,args,S=>match IP k with
  | some (.code nt res body)=>
   match exC (run IP n) n body { e:=pads nt (args++caps) } S with
   | some (.exit _,_,_)=>none
   | some (_,l,S')=>(zbB l.e (zgY l.ds S') res).map λvs=>(one vs,zgY l.ds S')
   | none=>none
  | some (.intr g)=>g (args++caps) S
  | none=>none
 | n+1,.yld r,args,S=>match S[r]? with
  | some (.loop e ps asg body .ready _ _)=>
   if args.length=ps.length then
    match exC (run IP n) n asg { e:=zdD ps args e,rd:=some r } S with
    | some (.normal,l1,S1)=>
     match S1[r]? with
     | some (.loop e1 ps1 asg1 body1 .ready pend1 d1)=>
      match exC (run IP n) n body l1 (S1.set r (.loop e1 ps1 asg1 body1 .busy pend1 d1)) with
      | some (x,_,S2)=>match S2[r]? with
       | some (.loop e2 ps2 asg2 body2 _ _ d2)=>
        some (.bool (jmpOf x).isNone,S2.set r (.loop e2 ps2 asg2 body2 (if (jmpOf x).isNone then .ready else .done) (jmpOf x) d2))
       | _=>none
      | none=>none
     | _=>none
    | _=>none
   else none
  | _=>none
 | _+1,_,_,_=>none
end Am
end
section
namespace Am
open Go
def zbG(kf:FuncId->Nat):Value->Option AV
 | .bool b=>some (.bool b)
 | .int k n=>some (.int k n)
 | .string s=>some (.str s.data.toList)
 | .pointer none=>some .nilp
 | .slice none 0 0=>some .nils
 | .map none=>some .nilm
 | .nilFunc=>some .nilf
 | .nilIface=>some .nili
 | .func (.func f) first caps=>if first.size=0/\caps.size=0 then some (.fn (kf f) []) else none
 | _=>none
def mapO{α β:Type}(f:α->Option β):List α->Option (List β)
 | []=>some []
 | x::xs=>(f x).bind λy=>(mapO f xs).map (y::·)
def toAV(kf:FuncId->Nat):Value->Option AV
 | .agg cs=>(mapO (zbG kf) cs.toList).map .agg
 | .tuple cs=>(mapO (zbG kf) cs.toList).map .tup
 | v=>zbG kf v
def cv(kf:FuncId->Nat):Operand->Option Opd
 | .tmp t=>some (.t t)
 | .const v=>(toAV kf v).map .c
 | .global _=>none
 | .func f=>some (.c (.fn (kf f) []))
def aggT(P:Program)(t:TypeId):Option Bool :=
 match P.underlying t with
 | some (.struct _)|some (.array _ _)=>some true
 | some _=>some false
 | none=>none
def zx(P:Program)(t:TypeId):Option Nat:=(P.info? t).map (·.size)
def zaH(P:Program)(kf:FuncId->Nat)(t:TypeId):Option (List AV) :=
 match P.info? t with
 | some i=>match i.zero with
  | some z=>match mapO (zbG kf) z.cells.toList with
   | some cs=>if cs.length=i.size then some cs else none
   | none=>none
  | none=>none
 | none=>none
def zbb:TypeDesc->Operand->Option NK
 | .pointer _,.const (.pointer none)=>some .ptr
 | .slice _,.const (.slice none 0 0)=>some .sl
 | .map _ _,.const (.map none)=>some .mp
 | .func _ _ _,.const .nilFunc=>some .fn
 | .interface _,.const .nilIface=>some .ifc
 | _,_=>none
def za0(P:Program)(f:Field):Option FK :=
 if f.name="_" then none else
 match P.underlying f.type with
 | some (.int _)=>some .int
 | some .bool=>some .bool
 | some .string=>some .str
 | _=>none
def za8(P:Program)(t:TypeId)(fs:Array Field):Option (List FK) :=
 if P.stoodInHeld t=false/\P.eqGuardType P.depth t=false/\fs.toList.map (·.offset)=List.range fs.size then mapO (za0 P) fs.toList else none
def zfi(P:Program)(fs:Array Field):Option (List (Nat × Nat)):=mapO (λf=>(zx P f.type).map λn=>(f.offset,n)) fs.toList
def zcz(lo hi mx:Option Operand):List Operand:=lo.toList++hi.toList++mx.toList
def zaB(P:Program)(kf kt:Nat->Nat)(b:Builtin)(ts:Array TypeId)(args:List Operand):Option (OpK × List Operand) :=
 match b,args with
 | .len,[x]=>match (ts[0]?).bind P.underlying with
  | some .string=>some (.lenS,[x])
  | some (.slice _)=>some (.lenL,[x])
  | some (.array n _)=>some (.lenC n,[x])
  | _=>none
 | .cap,[x]=>match (ts[0]?).bind P.underlying with
  | some (.slice _)=>some (.capL,[x])
  | _=>none
 | .append,[s,x]=>match (ts[0]?).bind P.underlying,(ts[1]?).bind P.underlying with
  | some (.slice e),some d=>(P.info? e).bind λi=>(zaH P kf e).bind λz=>
   if i.size=0\/i.bytes=0 then none else
   match d with
   | .int _=>some (.appz (kt e) i.size i.bytes z,[s,x])
   | _=>some (.app (kt e) i.size i.bytes,[s,x])
  | _,_=>none
 | .copy,[d,x]=>match (ts[0]?).bind P.underlying with
  | some (.slice e)=>(zx P e).map λn=>(.cpy n,[d,x])
  | _=>none
 | .min,[x,y]=>some (.minI,[x,y])
 | .max,[x,y]=>some (.maxI,[x,y])
 | _,_=>none
def zdt(P:Program)(op:BinOp)(t:TypeId)(x y:Operand):Option (OpK × List Operand) :=
 match P.underlying t with
 | some (.int _)=>some (.binI op,[x,y])
 | some .string=>some (.binS op,[x,y])
 | some .bool=>match op with
  | .eql=>some (.eqB false,[x,y])
  | .neq=>some (.eqB true,[x,y])
  | _=>none
 | some (.struct fs)=>(za8 P t fs).bind λks=>match op with
  | .eql=>some (.eqA ks false,[x,y])
  | .neq=>some (.eqA ks true,[x,y])
  | _=>none
 | some d=>match zbb d y,op with
  | some c,.eql=>some (.isNil c false,[x])
  | some c,.neq=>some (.isNil c true,[x])
  | _,_=>none
 | none=>none
def zco(P:Program)(kt:Nat->Nat)(src dst:TypeId)(x:Operand):Option (OpK × List Operand) :=
 match P.underlying src,P.underlying dst with
 | some (.int _),some (.int k)=>some (.conv k,[x])
 | some .string,some .string=>some (.idS,[x])
 | some (.slice e),some .string=>match P.underlying e with
  | some (.int .u8)=>some (.b2s,[x])
  | _=>none
 | some .string,some (.slice e)=>match P.underlying e with
  | some (.int .u8)=>some (.s2b (kt e),[x])
  | _=>none
 | _,_=>none
def zd1(P:Program)(t:TypeId):Bool:=match P.underlying t with
 | some (.map k _)=>match P.underlying k with
  | some .string=>true
  | _=>false
 | _=>false
def zero1(P:Program)(kf:FuncId->Nat)(t:TypeId):Option AV:=match P.underlying t with
 | some (.map _ e)=>match P.info? e with
  | some i=>match i.zero with
   | some z=>zbG kf z
   | none=>none
  | none=>none
 | _=>none
def ze1(P:Program)(kf kt:Nat->Nat):Op->Option (OpK × List Operand)
 | .move x|.assign x=>some (.mov,[x])
 | .pick c a b=>some (.pick,[c,a,b])
 | .alloc e=>(zaH P kf e).map λz=>(.alloc (kt e) z,[])
 | .box e v=>some (.box (kt e),[v])
 | .build t ps=>match P.underlying t with
  | some (.struct fs)=>(zaH P kf t).bind λz=>(zfi P fs).bind λpl=>
   (mapO (λ(p:Nat × Operand)=>pl[p.1]?) ps.toList).map λl=>(.build z l,ps.toList.map (·.2))
  | some (.array _ e)=>(zaH P kf t).bind λz=>(zx P e).map λn=>
   (.build z (ps.toList.map λp=>(p.1*n,n)),ps.toList.map (·.2))
  | _=>none
 | .buildSlice t len ps=>match P.underlying t with
  | some (.slice e)=>(zaH P kf e).bind λz=>if len*z.length>2 ^ 24 then none else
   some (.bslice (kt e) (rep len z) len (ps.toList.map λp=>(p.1*z.length,z.length)),ps.toList.map (·.2))
  | _=>none
 | .load t a=>match aggT P t with
  | some true=>(zx P t).map λn=>(.loadN n,[a])
  | some false=>some (.load1,[a])
  | none=>none
 | .store t a v=>(zx P t).map λn=>(.store n,[a,v])
 | .nilCheck x=>some (.nilCheck,[x])
 | .binOp op t x y _=>zdt P op t x y
 | .unOp op _ x=>match op with
  | .not=>some (.notB,[x])
  | .neg=>some (.negI,[x])
  | .xor=>some (.xorI,[x])
  | _=>none
 | .convert src dst x=>zco P kt src dst x
 | .makeInterface t x=>match P.underlying t with
  | some (.interface _)=>none
  | some _=>some (.mkifc,[x])
  | none=>none
 | .makeFunc (.func f) first caps=>if first.size=0 then some (.mkfn (kf f),caps.toList) else none
 | .makeSlice t l c=>match P.underlying t with
  | some (.slice e)=>(P.info? e).bind λi=>(zaH P kf e).map λz=>(.mkslice (kt e) z i.bytes,[l,c])
  | _=>none
 | .slice t x lo hi mx=>match P.underlying t with
  | some .string=>if mx.isSome then none else some (.slS lo.isSome hi.isSome,x::zcz lo hi none)
  | some (.slice e)=>(zx P e).map λn=>(.slL n lo.isSome hi.isSome mx.isSome,x::zcz lo hi mx)
  | some (.array m e)=>(zx P e).map λn=>(.slA m n lo.isSome hi.isSome mx.isSome,x::zcz lo hi mx)
  | some (.pointer a)=>match P.underlying a with
   | some (.array m e)=>(zx P e).map λn=>(.slA m n lo.isSome hi.isSome mx.isSome,x::zcz lo hi mx)
   | _=>none
  | _=>none
 | .fieldAddr s x f=>match P.underlying s with
  | some (.struct fs)=>match fs[f]? with
   | some fd=>match zx P fd.type with
    | some (_+1)=>some (.fadr fd.offset,[x])
    | _=>none
   | none=>none
  | _=>none
 | .field t x f=>match P.underlying t with
  | some (.struct fs)=>match fs[f]? with
   | some fd=>match aggT P fd.type with
    | some true=>(zx P fd.type).map λn=>(.fldN n fd.offset,[x])
    | some false=>some (.fld1 fd.offset,[x])
    | none=>none
   | none=>none
  | _=>none
 | .indexAddr t x i=>match P.underlying t with
  | some (.slice e)=>(zx P e).map λn=>(.iadr n,[x,i])
  | some (.array m e)=>(zx P e).map λn=>(.iadrA m n,[x,i])
  | _=>none
 | .index t x i=>match P.underlying t with
  | some .string=>some (.idxS,[x,i])
  | some (.array m e)=>match aggT P e with
   | some true=>(zx P e).map λn=>(.idxAN m n n,[x,i])
   | some false=>(zx P e).map λn=>(.idxA1 m n,[x,i])
   | none=>none
  | _=>none
 | .makeMap t none=>if zd1 P t then some (.mkmap,[]) else none
 | .lookup t x i ok=>if zd1 P t then (zero1 P kf t).map λz=>(.lookup ok z,[x,i]) else none
 | .mapUpdate t m k v=>if zd1 P t then some (.mapSet,[m,k,v]) else none
 | .extract t i=>some (.ext i,[t])
 | .call c=>match c.callee with
  | .builtin b=>zaB P kf kt b c.argTypes c.args.toList
  | .value (.func f)=>some (.call (kf f),c.args.toList)
  | .value f=>some (.callv,f::c.args.toList)
  | .invoke _ _=>none
 | _=>none
def zU:IOp:={ dst:=none,k:=.bad,args:=[],guard:=none }
def zbn(ops:Array Oper):Option (Nat × Bool)->Option (Option (Nat × Bool))
 | none=>some none
 | some (j,want)=>match (ops[j]?).bind (·.dst) with
  | some t=>some (some (t,want))
  | none=>none
def zed(P:Program)(kf kt:Nat->Nat)(op:Op):OpK × List Opd :=
 match ze1 P kf kt op with
 | some (k,xs)=>match mapO (cv kf) xs with
  | some args=>(k,args)
  | none=>(.bad,[])
 | none=>(.bad,[])
def zcb(P:Program)(kf kt:Nat->Nat)(ops:Array Oper)(o:Oper):Option IOp :=
 (zbn ops o.guard).map λg=>{ dst:=o.dst,k:=(zed P kf kt o.op).1,args:=(zed P kf kt o.op).2,guard:=g }
def zd0:OpK->Bool
 | .mov|.pick|.build ..|.nilCheck|.binI _|.binS _|.eqB _|.isNil ..|.eqP _|.eqA ..|.notB|.negI|.xorI|.conv _|.idS|.idP
 | .slS ..|.slL ..|.slA ..|.fadr _|.fld1 _|.fldN ..|.iadr _|.iadrA ..|.idxS|.idxA1 ..|.idxAN ..|.ext _|.mkfn _
 | .lenS|.lenL|.lenC _|.capL|.minI|.maxI|.mkifc=>true
 | _=>false
def zaY:OpK->Bool
 | .load1|.loadN _|.b2s|.lenM|.lookup ..=>true
 | _=>false
def zl(k:OpK):Bool:=zd0 k||zaY k
def zy(o:Oper):List Nat:=(o.after.toList.filter (Region.binds .any)).map (·.on)
def insN(acc:List Nat)(x:Nat):List Nat:=if acc.contains x then acc else x::acc
def zaE(acc:List (List Nat))(ps:List Nat):List Nat:=(ps++ps.flatMap λp=>acc.getD p []).foldl insN []
def ancs:List (List Nat)->List (List Nat)->List (List Nat)
 | acc,[]=>acc
 | acc,ps::rest=>ancs (acc++[zaE acc ps]) rest
mutual
def AV.belowB(n:Nat):AV->Bool
 | .ptr b _=>decide (b<n)
 | .sl b _ _ _ _=>decide (b<n)
 | .agg cs=>AV.belowsB n cs
 | .tup cs=>AV.belowsB n cs
 | .fn _ cs=>AV.belowsB n cs
 | .yld b=>decide (b<n)
 | .mp b=>decide (b<n)
 | _=>true
def AV.belowsB(n:Nat):List AV->Bool
 | []=>true
 | c::cs=>AV.belowB n c&&AV.belowsB n cs
end
def IOp.floats(o:IOp):Bool :=
 o.dst.isSome&&o.guard.isNone&&(o.args.all fun|.c v=>AV.belowB 0 v|.t _=>true)&&match o.k with
  | .alloc _ z=>AV.belowsB 0 z
  | .box _=>true
  | .bslice _ z _ _=>AV.belowsB 0 z
  | _=>false
def zer(iops:List IOp)(pr an:List (List Nat)):Nat->List Nat->List DItem
 | 0,_=>[]
 | n+1,done=>
  let ready:=(List.range iops.length).filter λi=>!done.contains i&&(pr.getD i []).all done.contains
  let small (i:Nat):Bool:=zl (iops.getD i zU).k
  match ready.find? small with
  | some i=>.op i::zer iops pr an n (i::done)
  | none=>match ready.filter (λi=>!(iops.getD i zU).floats)++ready with
   | b::_=>.op b::(done.filter λj=>zaY (iops.getD j zU).k&&!(an.getD b []).contains j).map .chk++zer iops pr an n (b::done)
   | []=>[]
def sched(iops:List IOp)(pr:List (List Nat)):List DItem:=zer iops pr (ancs [] pr) iops.length []
def IOp.reads(o:IOp):List Nat :=
 (o.args.filterMap fun|.t i=>some i|.c _=>none)++(match o.guard with|some (t,_)=>[t]|none=>[])
def zdR(an:List (List Nat))(i d:Nat)(j:Nat)(o':IOp):Bool :=
 if i=j then !(zaY o'.k&&o'.reads.contains d)
 else o'.dst != some d&&(!(o'.reads).contains d||(!zaY o'.k&&(an.getD i []).contains j)||(an.getD j []).contains i)
def okSSA(iops:List IOp)(pr an:List (List Nat)):Bool :=
 pr.length==iops.length &&
 (pr.zipIdx.all λ(ps,i)=>ps.all (·<i)) &&
 iops.zipIdx.all λ(o,i)=>match o.dst with
  | none=>true
  | some d=>iops.zipIdx.all λ(o',j)=>zdR an i d j o'
def zdS(iops:List IOp)(an:List (List Nat)):List Nat->Bool
 | []=>true
 | b::bs=>bs.all (λc=>(an.getD c []).contains b||(iops.getD c zU).floats)&&zdS iops an bs
def zbm(iops:List IOp)(an:List (List Nat))(b y:Nat):Bool:=(an.getD y []).contains b&&match (iops.getD y zU).k,(iops.getD y zU).args with
 | .iadr _,.t tb::_=>(iops.getD b zU).dst==some tb
 | _,_=>false
def zeY(iops:List IOp)(y:Nat):Bool:=match (iops.getD y zU).k with
 | .load1|.binS _=>true
 | _=>false
def folOk(iops:List IOp)(an:List (List Nat))(vs:List (Nat × Nat))(j b x:Nat):Bool :=
 (iops.getD x zU).guard.isNone&&((iops.getD x zU).args.all fun|.c v=>AV.belowB 0 v|.t _=>true)&&match (iops.getD x zU).k,(iops.getD x zU).args with
  | .iadr _,[_,_]=>true
  | .load1,[.t t]=>vs.contains (x,j+1)&&(an.getD x []).any λy=>(iops.getD y zU).dst==some t&&zbm iops an b y&&decide (y<iops.length)
  | .build z _,_=>AV.belowsB 0 z
  | .binS _,args=>args.all fun|.c _=>true|.t t=>(List.range iops.length).all λy=>!((iops.getD y zU).dst==some t)||(y != b&&(!(an.getD y []).contains b||zeY iops y))
  | _,_=>false
def zeX(iops:List IOp)(an:List (List Nat))(bigs:List Nat)(j b x:Nat):Bool:=(iops.getD b zU).floats&&(an.getD x []).contains b&&!(bigs.take j).all (an.getD x []).contains
def zck(iops:List IOp)(an:List (List Nat))(vs:List (Nat × Nat))(bigs:List Nat):Bool :=
 (List.range iops.length).all λx=>bigs.zipIdx.all λ(b,j)=>!zeX iops an bigs j b x||(folOk iops an vs j b x&&bigs.zipIdx.all λ(b',j')=>j==j'||!zeX iops an bigs j' b' x)
def zd(iops:List IOp):List DItem->List Nat
 | []=>[]
 | .op i::its=>if zl (iops.getD i zU).k then zd iops its else i::zd iops its
 | .chk _::its=>zd iops its
def zac:List DItem->List Nat
 | []=>[]
 | .op i::its=>i::zac its
 | .chk _::its=>zac its
def zI(iops:List IOp):Nat->List DItem->List (Nat × Nat)
 | _,[]=>[]
 | m,.op i::its=>(i,m)::zI iops (if zl (iops.getD i zU).k then m else m+1) its
 | m,.chk i::its=>(i,m)::zI iops m its
def zbX(iops:List IOp)(pr:List (List Nat)):List Nat->List DItem->Bool
 | _,[]=>true
 | done,.op i::rest=>(iops[i]?).isSome&&!done.contains i&&(pr.getD i []).all done.contains&&zbX iops pr (i::done) rest
 | done,.chk i::rest=>(match iops[i]? with|some o=>zaY o.k&&o.dst.isSome|none=>false)&&done.contains i&&zbX iops pr done rest
def zeL(iops:List IOp)(an:List (List Nat))(bigs:List Nat)(vs:List (Nat × Nat)):Bool :=
 iops.zipIdx.all λ(o,i)=>!zaY o.k ||
  ((List.range (bigs.length+1)).all λm=>
   !(((bigs.take m).all λb=>!(an.getD b []).contains i)&&((bigs.drop m).all λb=>!(an.getD i []).contains b))||vs.contains (i,m))
def zeK(iops:List IOp)(pr:List (List Nat))(its:List DItem):Bool :=
 let an:=ancs [] pr
 let bigs:=zd iops its
 okSSA iops pr an&&zbX iops pr [] its&&(List.range iops.length).all (zac its).contains &&
 zdS iops an bigs&&zck iops an (zI iops 0 its) bigs&&zeL iops an bigs (zI iops 0 its)
def zeZ(P:Program)(kf kt:Nat->Nat)(ops:Array Oper)(draw:Bool):ICode :=
 match mapO (zcb P kf kt ops) ops.toList with
 | none=>.bad
 | some iops=>
  if draw then
   let pr:=ops.toList.map zy
   let its:=sched iops pr
   if zeK iops pr its&&P.follows .mixedOrders then .dreg iops its else .bad
  else .reg iops
def zan(P:Program)(kf kt:Nat->Nat):Code->List (List Nat)->ICode × List (List Nat)
 | .skip,ls=>(.skip,ls)
 | .label _,ls=>(.skip,ls)
 | .region _ ops draw,ls=>(zeZ P kf kt ops draw,ls)
 | .seq a b,ls=>
  let r:=zan P kf kt a ls
  let s:=zan P kf kt b r.2
  (.seq r.1 s.1,s.2)
 | .cond c a b,ls=>
  let r:=zan P kf kt a ls
  let s:=zan P kf kt b r.2
  (match cv kf c with|some c=>.cond c r.1 s.1|none=>.bad,s.2)
 | .block id c,ls=>let r:=zan P kf kt c ls;(.block id r.1,r.2)
 | .loop c,ls=>let r:=zan P kf kt c ls.tail;(.loop (ls.headD []) r.1,r.2)
 | .exit id,ls=>(.exit id,ls)
 | .ret,ls=>(.ret,ls)
 | _,ls=>(.bad,ls)
def zbD(P:Program):ResultVar->Option IRes
 | .tmp t=>some (.tmp t)
 | .cell a t=>match aggT P t with
  | some true=>(zx P t).map (.cellN a)
  | some false=>some (.cell1 a)
  | none=>none
def zee(P:Program)(kf kt:Nat->Nat)(ls:List (List Nat))(fn:Func):Option IFn :=
 match fn.body,mapO (zbD P) fn.results.toList with
 | some c,some rs=>some (.code fn.ntmps rs (zan P kf kt c ls).1)
 | _,_=>none
end Am
end
section
namespace Am
open Go Go.RowKit
abbrev FM:=List (Addr × Nat)
mutual
def VR(kf:FuncId->Nat)(fm:FM):AV->Value->Prop
 | .any,_=>True
 | .bool b,v=>v = .bool b
 | .int k n,v=>v = .int k n
 | .str s,v=>∃bs:ByteArray,v = .string bs/\bs.data.toList=s
 | .ptr b o,v=>∃p,fm[b]?=some p/\v = .pointer (some (p.1.add o))
 | .nilp,v=>v = .pointer none
 | .sl b o len cap g,v=>∃p rc ra,fm[b]?=some p/\v = .slice (some ra) len rc/\len<=rc/\cap<=rc/\len<=cap/\(ra=p.1.add o\/rc=0) /\
   (g=none->rc=cap)/\(∀es,g=some es->o+rc*es<=p.2)
 | .nils,v=>v = .slice none 0 0
 | .agg cs,v=>∃ws:Array Value,v = .agg ws/\(∀c ∈ cs,c.sc=true)/\VRs kf fm cs ws.toList
 | .tup vs,v=>∃ws:Array Value,v = .tuple ws/\VRs kf fm vs ws.toList
 | .fn k cs,v=>∃f ws,v = .func (.func f) #[] ws/\kf f=k/\VRs kf fm cs ws.toList
 | .yld l,v=>∃p,fm[l]?=some p/\v = .func (.yield p.1.block) #[] #[]
 | .nilf,v=>v = .nilFunc
 | .mp b,v=>∃p,fm[b]?=some p/\v = .map (some p.1.block)
 | .nilm,v=>v = .map none
 | .nili,v=>v = .nilIface
 | .opq,v=>∃t u,v = .iface t u
def VRs(kf:FuncId->Nat)(fm:FM):List AV->List Value->Prop
 | [],ws=>ws=[]
 | c::cs,ws=>∃u us,ws=u::us/\VR kf fm c u/\VRs kf fm cs us
end
section
variable {kf:FuncId->Nat} {fm:FM}
theorem VRs.length:∀{cs:List AV} {ws:List Value},VRs kf fm cs ws->ws.length=cs.length
 | [],ws,h=>by simp[VRs] at h;simp[h]
 | c::cs,ws,h=>by
  simp only[VRs] at h;obtain⟨u,us,rfl,_,h⟩:=h;simp[VRs.length h]
theorem VRs.get:∀{cs:List AV} {ws:List Value},VRs kf fm cs ws->∀{i:Nat} {c:AV},cs[i]?=some c->∃u,ws[i]?=some u/\VR kf fm c u
 | [],ws,_,i,c,hc=>by simp at hc
 | x::cs,ws,h,i,c,hc=>by
  simp only[VRs] at h;obtain⟨u,us,rfl,h1,h2⟩:=h;cases i with
  | zero=>simp at hc;subst hc;exact⟨u,rfl,h1⟩
  | succ i=>simp at hc;obtain⟨y,hy,hv⟩:=VRs.get h2 hc;exact⟨y,by simpa using hy,hv⟩
theorem VRs.of_get:∀{cs:List AV} {ws:List Value},ws.length=cs.length->(∀(i:Nat) (c:AV),cs[i]?=some c->∃u,ws[i]?=some u/\VR kf fm c u)->VRs kf fm cs ws
 | [],ws,hl,_=>by simp[VRs];simpa using hl
 | c::cs,[],hl,_=>by simp at hl
 | c::cs,w::ws,hl,h=>by
  simp only[VRs];refine⟨w,ws,rfl,?_,VRs.of_get (by simpa using hl) λi c' hc=>?_⟩
  ·obtain⟨u,hu,hv⟩:=h 0 c (by simp);simp at hu;subst hu;exact hv
  ·obtain⟨u,hu,hv⟩:=h (i+1) c' (by simpa using hc);exact⟨u,by simpa using hu,hv⟩
theorem VRs.append{cs cs':List AV}{ws ws':List Value}(h:VRs kf fm cs ws)(h':VRs kf fm cs' ws'):VRs kf fm (cs++cs') (ws++ws'):=by
 induction cs generalizing ws with
 | nil=>simp[VRs] at h;subst h;simpa using h'
 | cons c cs ih=>
  simp only[VRs] at h;obtain⟨u,us,rfl,h1,h2⟩:=h;simp only[List.cons_append,VRs];exact⟨u,us++ws',rfl,h1,ih h2⟩
theorem VRs.take{cs:List AV}{ws:List Value}(h:VRs kf fm cs ws)(n:Nat):VRs kf fm (cs.take n) (ws.take n):=by
 have hl:=h.length;refine VRs.of_get (by simp[hl]) λi c hc=>?_
 rw[List.getElem?_take] at hc ⊢;split at hc
 ·rename_i hi;rw[if_pos hi];exact h.get hc
 ·cases hc
theorem VRs.drop{cs:List AV}{ws:List Value}(h:VRs kf fm cs ws)(n:Nat):VRs kf fm (cs.drop n) (ws.drop n):=by
 have hl:=h.length;refine VRs.of_get (by simp[hl]) λi c hc=>?_
 rw[List.getElem?_drop] at hc ⊢;exact h.get hc
theorem VRs.set{cs:List AV}{ws:List Value}(h:VRs kf fm cs ws)(n:Nat){c:AV}{u:Value}(hv:VR kf fm c u):VRs kf fm (cs.set n c) (ws.set n u):=by
 have hl:=h.length;refine VRs.of_get (by simp[hl]) λi c' hc=>?_
 rw[List.getElem?_set] at hc ⊢;split at hc
 ·rename_i hi;subst hi;split at hc
  ·rename_i hn;simp at hc;subst hc;rw[if_pos rfl,if_pos (by omega)];exact⟨u,rfl,hv⟩
  ·cases hc
 ·rename_i hi;rw[if_neg hi];exact h.get hc
mutual
theorem VR.mono{ext:FM}:∀{c:AV} {v:Value},VR kf fm c v->VR kf (fm++ext) c v
 | .any,_,_=>by simp[VR]
 | .bool _,_,h=>by simpa [VR] using h
 | .int _ _,_,h=>by simpa [VR] using h
 | .str _,_,h=>by simpa [VR] using h
 | .ptr b o,v,h=>by
  simp only[VR] at h⊢;obtain⟨p,hp,hv⟩:=h;exact⟨p,by rw[List.getElem?_append_left (List.getElem?_eq_some_iff.1 hp).1];exact hp,hv⟩
 | .nilp,_,h=>by simpa [VR] using h
 | .sl b o len cap g,v,h=>by
  simp only[VR] at h⊢;obtain⟨p,rc,ra,hp,hv⟩:=h;exact⟨p,rc,ra,by rw[List.getElem?_append_left (List.getElem?_eq_some_iff.1 hp).1];exact hp,hv⟩
 | .nils,_,h=>by simpa [VR] using h
 | .agg cs,v,h=>by
  simp only[VR] at h⊢;obtain⟨ws,hv,hs,hw⟩:=h;exact⟨ws,hv,hs,VRs.mono hw⟩
 | .tup cs,v,h=>by
  simp only[VR] at h⊢;obtain⟨ws,hv,hw⟩:=h;exact⟨ws,hv,VRs.mono hw⟩
 | .fn k cs,v,h=>by
  simp only[VR] at h⊢;obtain⟨f,ws,hv,hk,hw⟩:=h;exact⟨f,ws,hv,hk,VRs.mono hw⟩
 | .yld l,v,h=>by
  simp only[VR] at h⊢;obtain⟨p,hp,hv⟩:=h;exact⟨p,by rw[List.getElem?_append_left (List.getElem?_eq_some_iff.1 hp).1];exact hp,hv⟩
 | .nilf,_,h=>by simpa [VR] using h
 | .mp b,v,h=>by
  simp only[VR] at h⊢;obtain⟨p,hp,hv⟩:=h;exact⟨p,by rw[List.getElem?_append_left (List.getElem?_eq_some_iff.1 hp).1];exact hp,hv⟩
 | .nilm,_,h=>by simpa [VR] using h
 | .nili,_,h=>by simpa [VR] using h
 | .opq,_,h=>by simpa [VR] using h
theorem VRs.mono{ext:FM}:∀{cs:List AV} {ws:List Value},VRs kf fm cs ws->VRs kf (fm++ext) cs ws
 | [],_,h=>by simpa [VRs] using h
 | c::cs,ws,h=>by
  simp only[VRs] at h⊢;obtain⟨u,us,rfl,h1,h2⟩:=h;exact⟨u,us,rfl,VR.mono h1,VRs.mono h2⟩
end
end
theorem zaS(a:Addr)(m n:Nat):(a.add m).add n=a.add (m+n):=by
 unfold Addr.add
 by_cases hm:m=0
 ·subst hm;simp
 ·by_cases hn:n=0
  ·subst hn;simp[hm]
  ·rw[if_neg hm,if_neg hn,if_neg (by omega)];simp[Nat.add_assoc]
theorem zC(a:Addr):a.add 0=a:=by simp[Addr.add]
theorem zV{a:Addr}(h:a.spot=none)(n:Nat):a.add n=⟨a.block,a.off+n,none⟩:=by
 unfold Addr.add;split
 ·rename_i hn;subst hn;cases a;simp at h;subst h;rfl
 ·rfl
theorem zbq(a:Addr)(n:Nat):(a.add n).block=a.block:=by unfold Addr.add;split<;>rfl
structure Base where
 w:World
 K:Nat->Prop
 O:Nat->Prop
 wf:∀k,K k->k<w.heap.size
 sub:∀k,O k->K k
structure Turned (B:Base) (w w':World):Prop where
 os:w'.os=w.os
 tape:w'.tape=w.tape
 output:w'.output=w.output
 size:w.heap.size<=w'.heap.size
 block:∀k,B.K k->w'.heap[k]?=w.heap[k]?
theorem Turned.trans{B:Base}{w w' w'':World}(h:Turned B w w')(h':Turned B w' w''):Turned B w w'' :=
 ⟨h'.os.trans h.os,h'.tape.trans h.tape,h'.output.trans h.output,Nat.le_trans h.size h'.size,λk hk=>(h'.block k hk).trans (h.block k hk)⟩
structure RowAt (kf kt:Nat->Nat) (fm:FM) (w:World) (tag:Nat) (cs:List AV) (p:Addr × Nat):Prop where
 spot:p.1.spot=none
 row:∃(c:Array Value) (elem:TypeId) (fr:Nat × Nat),w.heap[p.1.block]?=some (.cells c elem fr)/\kt elem=tag/\p.1.off+p.2<=c.size /\
  (∀i,i<c.size->¬ (fr.1<=i/\i<fr.2)) /\
  (∀i u,cs[i]?=some u->u.sc=true/\∃v,c[p.1.off+i]?=some v/\VR kf fm u v)
 fits:cs.length<=p.2
def MapR(kf:Nat->Nat)(fm:FM):List (List UInt8 × AV)->List MapEntry->Prop
 | [],es=>es=[]
 | (k,v)::r,es=>∃e es',es=e::es'/\(∃bs:ByteArray,e.key = .string bs/\bs.data.toList=k)/\v.sc=true/\VR kf fm v e.val/\MapR kf fm r es'
theorem MapR.mono{kf:Nat->Nat}{fm ext:FM}:∀{r:List (List UInt8 × AV)} {es:List MapEntry},MapR kf fm r es->MapR kf (fm++ext) r es
 | [],_,h=>h
 | (k,v)::r,es,h=>by
  obtain⟨e,es',h1,h2,h3,h4,h5⟩:=h;exact⟨e,es',h1,h2,h3,h4.mono,MapR.mono h5⟩
def BR(kf kt:Nat->Nat)(w0:Base)(fm:FM)(w:World):Blk->Addr × Nat->Prop
 | .dead,_=>True
 | .own tag cs,p=>RowAt kf kt fm w tag cs p
 | .ro cs,p=>w0.O p.1.block/\∀i u,cs[i]?=some u->u.sc=true/\∃v,w.cell? (p.1.add i)=some v/\VR kf fm u v
 | .map es _,p=>∃(ents:Array MapEntry) (clock:Nat),w.heap[p.1.block]?=some (.map ents clock)/\MapR kf fm es ents.toList
 | .iter _ _,_=>False
 | .dfr,_=>False
 | .loop ..,_=>False
def Blk.excl:Blk->Bool
 | .dead=>false
 | .ro _=>false
 | _=>true
structure R (kf kt:Nat->Nat) (w0:Base) (fm:FM) (S:St) (w:World):Prop where
 len:fm.length=S.length
 below:Turned w0 w0.w w
 blk:∀(b:Nat) (k:Blk) (p:Addr × Nat),S[b]?=some k->fm[b]?=some p->BR kf kt w0 fm w k p
 low:∀(b:Nat) (k:Blk) (p:Addr × Nat),S[b]?=some k->fm[b]?=some p->k.excl=true->¬ w0.K p.1.block/\p.1.block<w.heap.size
 sep:∀(b b':Nat) (k k':Blk) (p p':Addr × Nat),S[b]?=some k->S[b']?=some k'->fm[b]?=some p->fm[b']?=some p'->k.excl=true->k'.excl=true->b≠b'->p.1.block≠p'.1.block
section
variable {kf kt:Nat->Nat} {w0:Base} {fm:FM} {S:St} {w:World}
theorem R.get(h:R kf kt w0 fm S w){b:Nat}{k:Blk}(hb:S[b]?=some k):∃p,fm[b]?=some p/\BR kf kt w0 fm w k p:=by
 have hlt:=(List.getElem?_eq_some_iff.1 hb).1;have hl:b<fm.length:=by rw[h.len];exact hlt
 exact⟨fm[b],List.getElem?_eq_getElem hl,h.blk b k _ hb (List.getElem?_eq_getElem hl)⟩
theorem R.load1(h:R kf kt w0 fm S w){b o:Nat}{u:AV}{p:Addr × Nat}(hl:S.load1 b o=some u)(hp:fm[b]?=some p) :
  u.sc=true/\∃v,w.cell? (p.1.add o)=some v/\VR kf fm u v:=by
 unfold St.load1 at hl;split at hl
 ·rename_i k hb;obtain⟨p',hp',hk⟩:=h.get hb;rw[hp] at hp';cases hp';cases k with
  | own tag cs=>
   simp only[Blk.cells] at hl;have hk:RowAt kf kt fm w tag cs p:=hk;obtain⟨c,elem,fr,hw,_,hsz,_,hc⟩:=hk.row;obtain⟨hsc,v,hv,hr⟩:=hc o u hl;refine⟨hsc,v,?_,hr⟩;rw[zV hk.spot];simp[World.cell?,hw,hv]
  | ro cs=>
   simp only[Blk.cells] at hl;exact hk.2 o u hl
  | _=>simp[Blk.cells] at hl
 ·cases hl
theorem zaW{b o n:Nat}{us:List AV}(hl:S.loadN b o n=some us) :
  us.length=n/\∀i u,us[i]?=some u->S.load1 b (o+i)=some u:=by
 unfold St.loadN at hl;split at hl
 ·rename_i k hb;split at hl
  ·rename_i cs hcs;split at hl
   ·rename_i hle;simp at hl;subst hl;refine⟨by simp;omega,λi u hu=>?_⟩;simp only[St.load1,hb,hcs];rw[List.getElem?_take] at hu;split at hu
    ·rwa [List.getElem?_drop] at hu
    ·cases hu
   ·cases hl
  ·cases hl
 ·cases hl
theorem R.loadN(h:R kf kt w0 fm S w){P:Program}{b o n:Nat}{us:List AV}{p:Addr × Nat}(hl:S.loadN b o n=some us)(hp:fm[b]?=some p) :
  ∃vs:List Value,(loadCells (p.1.add o) n).run P w = .ok vs.toArray w/\VRs kf fm us vs/\(∀u ∈ us,u.sc=true):=by
 obtain⟨hlen,hget⟩:=zaW hl;have hex:∀i:Nat,∃v,∀u,us[i]?=some u->w.cell? ((p.1.add o).add i)=some v/\VR kf fm u v:=by
  intro i;cases hu:us[i]? with
  | none=>exact⟨undef,λu hu'=>by cases hu'⟩
  | some u=>
   obtain⟨_,v,hv,hr⟩:=h.load1 (hget i u hu) hp;exact⟨v,λu' hu'=>by cases hu';rw[zaS];exact⟨hv,hr⟩⟩
 refine⟨(List.range n).map λi=>(hex i).choose,?_,?_,?_⟩
 ·refine run_loadCells w _ n (λi=>(hex i).choose) λj hj=>?_
  have hj':us[j]?=some (us[j]'(by omega)):=List.getElem?_eq_getElem (by omega);exact ((hex j).choose_spec _ hj').1
 ·refine VRs.of_get (by simp[hlen]) λi c hc=>?_
  have hi:i<n:=by rw[<- hlen];exact (List.getElem?_eq_some_iff.1 hc).1
  refine⟨(hex i).choose,by simp[hi],((hex i).choose_spec _ hc).2⟩
 ·intro u hu;obtain⟨i,hi⟩:=List.getElem?_of_mem hu;exact (h.load1 (hget i u hi) hp).1
theorem BR.heap{w':World}(hh:w'.heap=w.heap){k:Blk}{p:Addr × Nat}(h:BR kf kt w0 fm w k p):BR kf kt w0 fm w' k p:=by
 cases k with
 | own tag cs=>obtain⟨h1,h2,h3⟩:=h;exact⟨h1,by rw[hh];exact h2,h3⟩
 | ro cs=>
  refine⟨h.1,λi u hu=>?_⟩;obtain⟨hs,v,hv,hr⟩:=h.2 i u hu;exact⟨hs,v,by simpa [World.cell?,hh] using hv,hr⟩
 | map es c=>
  obtain⟨ents,clock,h1,h2⟩:=h;exact⟨ents,clock,by rw[hh];exact h1,h2⟩
 | _=>exact h
theorem R.heap{w':World}(h:R kf kt w0 fm S w)(hh:w'.heap=w.heap)(ho:w'.os=w.os)(ht:w'.tape=w.tape)(hu:w'.output=w.output):R kf kt w0 fm S w' where
 len:=h.len
 below:=⟨ho.trans h.below.os,ht.trans h.below.tape,hu.trans h.below.output,by rw[hh];exact h.below.size,λk hk=>by rw[hh];exact h.below.block k hk⟩
 blk:=λb k p hb hp=>(h.blk b k p hb hp).heap hh
 low:=λb k p hb hp he=>by rw[hh];exact h.low b k p hb hp he
 sep:=h.sep
theorem R.drawn(h:R kf kt w0 fm S w)(n:Nat):R kf kt w0 fm S { w with drawn:=n }:=h.heap rfl rfl rfl rfl
theorem BR.kept{w':World}{ext:FM}{k:Blk}{p:Addr × Nat}(hk:w'.heap[p.1.block]?=w.heap[p.1.block]?)(h:BR kf kt w0 fm w k p):BR kf kt w0 (fm++ext) w' k p:=by
 cases k with
 | own tag cs=>
  obtain⟨h1,⟨c,elem,fr,hw,ht,hs,hf,hc⟩,h3⟩:=h;exact⟨h1,⟨c,elem,fr,hk.trans hw,ht,hs,hf,λi u hu=>⟨(hc i u hu).1,let ⟨v,hv,hr⟩:=(hc i u hu).2;⟨v,hv,hr.mono⟩⟩⟩,h3⟩
 | ro cs=>
  refine⟨h.1,λi u hu=>?_⟩;obtain⟨hs,v,hv,hr⟩:=h.2 i u hu;refine⟨hs,v,?_,hr.mono⟩;rw[World.cell?_of_block (w:=w) (by rw[zbq];exact hk)];exact hv
 | map es c=>
  obtain⟨ents,clock,h1,h2⟩:=h;exact⟨ents,clock,hk.trans h1,h2.mono⟩
 | _=>exact h
theorem R.grown{w':World}(h:R kf kt w0 fm S w)(hb:Below w.heap.size w w'):R kf kt w0 fm S w' where
 len:=h.len
 below:=h.below.trans ⟨hb.os,hb.tape,hb.output,hb.size,λk hk=>hb.block k (Nat.lt_of_lt_of_le (w0.wf k hk) h.below.size)⟩
 blk:=λb k p hs hp=>by
  have hk:=h.blk b k p hs hp;have:∀(r:Nat),p.1.block=r->r<w.heap.size->BR kf kt w0 fm w' k p:=λr hr hlt=>by
   have:=BR.kept (ext:=[]) (w':=w') (hb.block p.1.block (by omega)) hk
   simpa using this
  cases k with
  | dead=>trivial
  | ro cs=>exact this _ rfl (Nat.lt_of_lt_of_le (w0.wf _ (w0.sub _ hk.1)) h.below.size)
  | _=>exact this _ rfl (h.low b _ p hs hp rfl).2
 low:=λb k p hs hp he=>let ⟨h1,h2⟩:=h.low b k p hs hp he;⟨h1,Nat.lt_of_lt_of_le h2 hb.size⟩
 sep:=h.sep
theorem zo{α:Type}(l:List α)(x:α)(i:Nat):(l++[x])[i]?=if i<l.length then l[i]? else if i=l.length then some x else none:=by
 rw[List.getElem?_append];split
 ·rfl
 ·rename_i h;split
  ·rename_i h';subst h';simp
  ·rename_i h';rw[List.getElem?_eq_none];simp;omega
theorem R.push(h:R kf kt w0 fm S w){c:Array Value}{elem:TypeId}{fr:Nat × Nat}{tag:Nat}{cs:List AV}{lim:Nat}(ht:kt elem=tag)
  (hf:∀i,i<c.size->¬ (fr.1<=i/\i<fr.2)) (hl:lim<=c.size) (hc:cs.length<=lim)
  (hv:∀(i:Nat) (u:AV),cs[i]?=some u->u.sc=true/\∃v,c[i]?=some v/\VR kf fm u v) :
  R kf kt w0 (fm++[(⟨w.heap.size,0,none⟩,lim)]) (S++[.own tag cs]) { w with heap:=w.heap.push (.cells c elem fr) }:=by
 have hold:∀r,r<w.heap.size->(w.heap.push (.cells c elem fr))[r]?=w.heap[r]?:=λr hr=>by rw[Array.getElem?_push,if_neg (by omega)]
 have hsz:=h.below.size;have split:∀{b:Nat} {k:Blk} {p:Addr × Nat},(S++[Blk.own tag cs])[b]?=some k->(fm++[((⟨w.heap.size,0,none⟩:Addr),lim)])[b]?=some p ->
   (S[b]?=some k/\fm[b]?=some p)\/(b=S.length/\k = .own tag cs/\p=(⟨w.heap.size,0,none⟩,lim)):=by
  intro b k p hb hp;rw[zo] at hb hp;rw[h.len] at hp
  by_cases hlt:b<S.length
  ·rw[if_pos hlt] at hb hp;exact .inl ⟨hb,hp⟩
  ·rw[if_neg hlt] at hb hp;split at hb
   ·rename_i he;rw[if_pos he] at hp;cases hb;cases hp;exact .inr ⟨he,rfl,rfl⟩
   ·cases hb
 refine⟨by simp[h.len],?_,?_,?_,?_⟩
 ·exact h.below.trans ⟨rfl,rfl,rfl,by simp,λk hk=>hold k (by have:=w0.wf k hk;omega)⟩
 ·intro b k p hb hp;rcases split hb hp with⟨hb,hp⟩|⟨rfl,rfl,rfl⟩
  ·have hk:=h.blk b k p hb hp;cases k with
   | dead=>trivial
   | ro cs'=>exact BR.kept (hold _ (Nat.lt_of_lt_of_le (w0.wf _ (w0.sub _ hk.1)) hsz)) hk
   | _=>exact BR.kept (hold _ (h.low b _ p hb hp rfl).2) hk
  ·refine⟨rfl,⟨c,elem,fr,by simp,ht,by simpa using hl,hf,λi u hu=>?_⟩,hc⟩;obtain⟨hs,v,hv,hr⟩:=hv i u hu;exact⟨hs,v,by simpa using hv,hr.mono⟩
 ·intro b k p hb hp he;rcases split hb hp with⟨hb,hp⟩|⟨rfl,rfl,rfl⟩
  ·have:=h.low b k p hb hp he;exact⟨this.1,by simp;omega⟩
  ·exact⟨λhk=>by have:=w0.wf _ hk;simp at this;omega,by simp⟩
 ·intro b b' k k' p p' hb hb' hp hp' he he' hne;rcases split hb hp with⟨hb,hp⟩|⟨rfl,rfl,rfl⟩<;>rcases split hb' hp' with⟨hb',hp'⟩|⟨rfl,rfl,rfl⟩
  ·exact h.sep b b' k k' p p' hb hb' hp hp' he he' hne
  ·have:=(h.low b k p hb hp he).2;simp;omega
  ·have:=(h.low b' k' p' hb' hp' he').2;simp;omega
  ·exact absurd rfl hne
theorem R.kill(h:R kf kt w0 fm S w)(b:Nat):R kf kt w0 fm (S.set b .dead) w:=by
 have split:∀{i:Nat} {k:Blk},(S.set b .dead)[i]?=some k->(i≠b/\S[i]?=some k)\/(i=b/\k = .dead):=by
  intro i k hi;rw[List.getElem?_set] at hi;split at hi
  ·rename_i he;split at hi
   ·cases hi;exact .inr ⟨he.symm,rfl⟩
   ·cases hi
  ·rename_i he;exact .inl ⟨λe=>he e.symm,hi⟩
 refine⟨by simp[h.len],h.below,?_,?_,?_⟩
 ·intro i k p hb hp;rcases split hb with⟨_,hb⟩|⟨rfl,rfl⟩
  ·exact h.blk i k p hb hp
  ·trivial
 ·intro i k p hb hp he;rcases split hb with⟨_,hb⟩|⟨rfl,rfl⟩
  ·exact h.low i k p hb hp he
  ·cases he
 ·intro i i' k k' p p' hb hb' hp hp' he he' hne;rcases split hb with⟨_,hb⟩|⟨rfl,rfl⟩<;>rcases split hb' with⟨_,hb'⟩|⟨rfl,rfl⟩
  ·exact h.sep i i' k k' p p' hb hb' hp hp' he he' hne
  ·cases he'
  ·cases he
  ·cases he
theorem R.turn(h:R kf kt w0 fm S w){b:Nat}{k0 k1:Blk}{p:Addr × Nat}{w':World}(hb:S[b]?=some k0)(hp:fm[b]?=some p)(he0:k0.excl=true)
  (hw:∀r,r≠p.1.block->w'.heap[r]?=w.heap[r]?) (hsz:w'.heap.size=w.heap.size) (ho:w'.os=w.os) (ht:w'.tape=w.tape) (hu:w'.output=w.output)
  (hnew:BR kf kt w0 fm w' k1 p):R kf kt w0 fm (S.set b k1) w':=by
 have split:∀{i:Nat} {k:Blk},(S.set b k1)[i]?=some k->(i≠b/\S[i]?=some k)\/(i=b/\k=k1):=by
  intro i k hi;rw[List.getElem?_set] at hi;split at hi
  ·rename_i he;split at hi
   ·cases hi;exact .inr ⟨he.symm,rfl⟩
   ·cases hi
  ·rename_i he;exact .inl ⟨λe=>he e.symm,hi⟩
 have hlow:=h.low b k0 p hb hp he0;refine⟨by simp[h.len],?_,?_,?_,?_⟩
 ·exact h.below.trans ⟨ho,ht,hu,by omega,λk hk=>hw k λe=>hlow.1 (e ▸ hk)⟩
 ·intro i k q hi hq;rcases split hi with⟨hne,hi⟩|⟨rfl,rfl⟩
  ·have hk:=h.blk i k q hi hq;cases k with
   | dead=>trivial
   | ro cs=>
    have:=BR.kept (ext:=[]) (w':=w') (hw q.1.block λe=>hlow.1 (e ▸ w0.sub _ hk.1)) hk
    simpa using this
   | own tag cs=>
    have:=BR.kept (ext:=[]) (w':=w') (hw q.1.block (h.sep i b _ k0 q p hi hb hq hp rfl he0 hne)) hk
    simpa using this
   | map es c=>
    have:=BR.kept (ext:=[]) (w':=w') (hw q.1.block (h.sep i b _ k0 q p hi hb hq hp rfl he0 hne)) hk
    simpa using this
   | _=>exact hk
  ·rw[hp] at hq;cases hq;exact hnew
 ·intro i k q hi hq he;rcases split hi with⟨_,hi⟩|⟨rfl,rfl⟩
  ·rw[hsz];exact h.low i k q hi hq he
  ·rw[hp] at hq;cases hq;rw[hsz];exact hlow
 ·intro i i' k k' q q' hi hi' hq hq' he he' hne;rcases split hi with⟨_,hi1⟩|⟨rfl,rfl⟩<;>rcases split hi' with⟨_,hi2⟩|⟨rfl,rfl⟩
  ·exact h.sep i i' k k' q q' hi1 hi2 hq hq' he he' hne
  ·rw[hp] at hq';cases hq';exact h.sep i i' k k0 q p hi1 hb hq hp he he0 hne
  ·rw[hp] at hq;cases hq;exact h.sep i i' k0 k' p q' hb hi2 hp hq' he0 he' hne
  ·exact absurd rfl hne
theorem R.pushMap(h:R kf kt w0 fm S w):R kf kt w0 (fm++[(⟨w.heap.size,0,none⟩,0)]) (S++[.map [] 0]) { w with heap:=w.heap.push (.map #[] 0) }:=by
 have hold:∀r,r<w.heap.size->(w.heap.push (.map #[] 0))[r]?=w.heap[r]?:=λr hr=>by rw[Array.getElem?_push,if_neg (by omega)]
 have hsz:=h.below.size;have split:∀{b:Nat} {k:Blk} {p:Addr × Nat},(S++[Blk.map [] 0])[b]?=some k->(fm++[((⟨w.heap.size,0,none⟩:Addr),0)])[b]?=some p ->
   (S[b]?=some k/\fm[b]?=some p)\/(b=S.length/\k = .map [] 0/\p=(⟨w.heap.size,0,none⟩,0)):=by
  intro b k p hb hp;rw[zo] at hb hp;rw[h.len] at hp
  by_cases hlt:b<S.length
  ·rw[if_pos hlt] at hb hp;exact .inl ⟨hb,hp⟩
  ·rw[if_neg hlt] at hb hp;split at hb
   ·rename_i he;rw[if_pos he] at hp;cases hb;cases hp;exact .inr ⟨he,rfl,rfl⟩
   ·cases hb
 refine⟨by simp[h.len],?_,?_,?_,?_⟩
 ·exact h.below.trans ⟨rfl,rfl,rfl,by simp,λk hk=>hold k (by have:=w0.wf k hk;omega)⟩
 ·intro b k p hb hp;rcases split hb hp with⟨hb,hp⟩|⟨rfl,rfl,rfl⟩
  ·have hk:=h.blk b k p hb hp;cases k with
   | dead=>trivial
   | ro cs'=>exact BR.kept (hold _ (Nat.lt_of_lt_of_le (w0.wf _ (w0.sub _ hk.1)) hsz)) hk
   | _=>exact BR.kept (hold _ (h.low b _ p hb hp rfl).2) hk
  ·exact⟨#[],0,by simp,rfl⟩
 ·intro b k p hb hp he;rcases split hb hp with⟨hb,hp⟩|⟨rfl,rfl,rfl⟩
  ·have:=h.low b k p hb hp he;exact⟨this.1,by simp;omega⟩
  ·exact⟨λhk=>by have:=w0.wf _ hk;simp at this;omega,by simp⟩
 ·intro b b' k k' p p' hb hb' hp hp' he he' hne;rcases split hb hp with⟨hb,hp⟩|⟨rfl,rfl,rfl⟩<;>rcases split hb' hp' with⟨hb',hp'⟩|⟨rfl,rfl,rfl⟩
  ·exact h.sep b b' k k' p p' hb hb' hp hp' he he' hne
  ·have:=(h.low b k p hb hp he).2;simp;omega
  ·have:=(h.low b' k' p' hb' hp' he').2;simp;omega
  ·exact absurd rfl hne
end
end Am
end
section
namespace Am
open Go Go.RowKit
def putV(cs:List Value)(o:Nat):List Value->List Value
 | []=>cs
 | v::vs=>putV (cs.set o v) (o+1) vs
theorem zab:∀(vs:List Value) (cs:List Value) (o:Nat),(putV cs o vs).length=cs.length
 | [],_,_=>rfl
 | v::vs,cs,o=>by simp[putV,zab vs]
theorem zaK:∀(vs:List AV) (cs:List AV) (o:Nat),(zaI cs o vs).length=cs.length
 | [],_,_=>rfl
 | v::vs,cs,o=>by simp[zaI,zaK vs]
theorem zaP(P:Program)(a:Addr)(ha:a.spot=none)(elem:TypeId)(fr:Nat × Nat) :
  ∀(vs:List Value) (i:Nat) (w:World) (c:Array Value),w.heap[a.block]?=some (.cells c elem fr)->(vs≠[]->a.off+i+vs.length<=c.size) ->
   (∀i,i<c.size->¬ (fr.1<=i/\i<fr.2))->(∀v ∈ vs,v.oneCell'=true) ->
   ∃w',(storeCells a vs i).run P w = .ok () w'/\w'.heap.size=w.heap.size/\w'.os=w.os/\w'.tape=w.tape/\w'.output=w.output /\
    (∀r,r≠a.block->w'.heap[r]?=w.heap[r]?)/\w'.heap[a.block]?=some (.cells (putV c.toList (a.off+i) vs).toArray elem fr)
 | [],i,w,c,hg,_,_,_=>⟨w,rfl,rfl,rfl,rfl,rfl,λ_ _=>rfl,by simpa [putV] using hg⟩
 | v::rest,i,w,c,hg,hl,hf,h1=>by
  have hl':=hl (by simp);simp only[List.length_cons] at hl';have hi:a.off+i<c.size:=by omega
  have hadd:a.add i=⟨a.block,a.off+i,none⟩:=zV ha i;have hcell:w.cell? ⟨a.block,a.off+i,none⟩=some c[a.off+i]:=by simp[World.cell?,hg,hi]
  have hfro:w.frozen? ⟨a.block,a.off+i,none⟩=false:=by
   have:=hf (a.off+i) hi
   simp only[World.frozen?,hg];simp only[Bool.and_eq_false_iff,decide_eq_false_iff_not]
   by_cases hh:fr.1<=a.off+i
   ·exact .inr λh=>this ⟨hh,h⟩
   ·exact .inl hh
  have hst:(store (a.add i) v).run P w = .ok () (w.setCell ⟨a.block,a.off+i,none⟩ v):=by
   rw[hadd,run_store P w _ v _ (h1 v (by simp)),hcell];simp[hfro]
  have hg1:(w.setCell ⟨a.block,a.off+i,none⟩ v).heap[a.block]?=some (.cells (c.setIfInBounds (a.off+i) v) elem fr):=by
   simp[World.setCell,Array.getElem?_modify,hg]
  obtain⟨w',hr,h2,h3,h4,h5,h6,h7⟩:=zaP P a ha elem fr rest (i+1) (w.setCell ⟨a.block,a.off+i,none⟩ v) _ hg1
   (λ_=>by simp;omega) (by simpa using hf) (λx hx=>h1 x (by simp[hx]))
  refine⟨w',?_,?_,h3,h4,h5,λr hr'=>?_,?_⟩
  ·simp only[storeCells,Sem.run_bind,hst,Result.andThen_ok,hr]
  ·rw[h2];simp[World.setCell]
  ·rw[h6 r hr'];exact Below.heap_setCell w ⟨a.block,a.off+i,none⟩ v r hr'
  ·rw[h7];simp[putV,Nat.add_assoc]
section
variable {kf kt:Nat->Nat} {w0:Base} {fm:FM} {S:St} {w:World}
theorem VR.oneCell{u:AV}{v:Value}(h:VR kf fm u v)(hs:u.sc=true):v.oneCell'=true:=by
 cases u<;>simp[AV.sc] at hs<;>simp only[VR] at h
 case bool=>subst h;rfl
 case int=>subst h;rfl
 case str=>obtain⟨bs,rfl,_⟩:=h;rfl
 case ptr=>obtain⟨p,_,rfl⟩:=h;rfl
 case nilp=>subst h;rfl
 case sl=>obtain⟨p,rc,ra,_,rfl,_⟩:=h;rfl
 case nils=>subst h;rfl
 case fn=>obtain⟨f,ws,rfl,_⟩:=h;rfl
 case yld=>obtain⟨p,_,rfl⟩:=h;rfl
 case nilf=>subst h;rfl
 case mp=>obtain⟨p,_,rfl⟩:=h;rfl
 case nilm=>subst h;rfl
 case nili=>subst h;rfl
 case opq=>obtain⟨t,u,rfl⟩:=h;rfl
theorem zeB:∀(us:List AV) (vs:List Value) (cs:List AV) (c:List Value) (off o:Nat),VRs kf fm us vs->(∀u ∈ us,u.sc=true)->off+o+us.length<=c.length ->
  (∀(i:Nat) (u:AV),cs[i]?=some u->u.sc=true/\∃v,c[off+i]?=some v/\VR kf fm u v) ->
  ∀(i:Nat) (u:AV),(zaI cs o us)[i]?=some u->u.sc=true/\∃v,(putV c (off+o) vs)[off+i]?=some v/\VR kf fm u v
 | [],vs,cs,c,off,o,hv,_,_,hc=>by
  simp[VRs] at hv;subst hv;exact hc
 | u::us,vs,cs,c,off,o,hv,hs,hl,hc=>by
  simp only[VRs] at hv;obtain⟨v,vs',rfl,h1,h2⟩:=hv;simp only[zaI,putV];simp only[List.length_cons] at hl;refine zeB us vs' (cs.set o u) (c.set (off+o) v) off (o+1) h2 (λx hx=>hs x (by simp[hx])) (by simp;omega) λi x hx=>?_
  rw[List.getElem?_set] at hx;split at hx
  ·rename_i he;subst he;split at hx
   ·cases hx;exact⟨hs _ (by simp),v,by rw[List.getElem?_set];rw[if_pos rfl,if_pos (by omega)],h1⟩
   ·cases hx
  ·rename_i he;obtain⟨h3,y,hy,h4⟩:=hc i x hx;exact⟨h3,y,by rw[List.getElem?_set,if_neg (by omega)];exact hy,h4⟩
theorem R.store(h:R kf kt w0 fm S w){P:Program}{b o:Nat}{us:List AV}{vs:List Value}{S':St}{p:Addr × Nat}(hst:S.storeN b o us=some S')(hp:fm[b]?=some p)
  (hv:VRs kf fm us vs) (hs:∀u ∈ us,u.sc=true):∃w',(storeCells (p.1.add o) vs).run P w = .ok () w'/\R kf kt w0 fm S' w':=by
 unfold St.storeN at hst;split at hst
 ·rename_i tag cs hb;split at hst
  ·rename_i hle;cases hst;obtain⟨p',hp',hk⟩:=h.get hb;rw[hp] at hp';cases hp';have hk:RowAt kf kt fm w tag cs p:=hk;obtain⟨c,elem,fr,hw,ht,hsz,hf,hc⟩:=hk.row;have hfit:=hk.fits;have hlen:=hv.length;have hone:∀v ∈ vs,v.oneCell'=true:=λv hvm=>by
    obtain⟨i,hi⟩:=List.getElem?_of_mem hvm;have hi':i<us.length:=by rw[<- hlen];exact (List.getElem?_eq_some_iff.1 hi).1
    obtain⟨v',hv',hr⟩:=hv.get (List.getElem?_eq_getElem hi');rw[hi] at hv';cases hv';exact hr.oneCell (hs _ (List.getElem_mem hi'))
   have hsp:(p.1.add o).spot=none:=by rw[zV hk.spot]
   have hoff:(p.1.add o).off=p.1.off+o:=by rw[zV hk.spot]
   have hblk:=zbq p.1 o;obtain⟨w',hr,h1,h2,h3,h4,h5,h6⟩:=zaP P (p.1.add o) hsp elem fr vs 0 w c (by rw[hblk];exact hw) (λ_=>by rw[hoff];omega) hf hone;rw[hblk] at h5 h6;refine⟨w',hr,h.turn hb hp rfl h5 h1 h2 h3 h4 ?_⟩;refine⟨hk.spot,⟨_,elem,fr,h6,ht,?_,?_,λi u hu=>?_⟩,?_⟩
   ·simp[zab];omega
   ·simpa [zab] using hf
   ·have:=zeB us vs cs c.toList p.1.off o hv hs (by simp;omega) (λi u hu=>by
     obtain⟨h1,v,h2,h3⟩:=hc i u hu;exact⟨h1,v,by simpa using h2,h3⟩) i u hu
    obtain⟨h1,v,h2,h3⟩:=this;exact⟨h1,v,by simpa [hoff] using h2,h3⟩
   ·rw[zaK];exact hfit
  ·cases hst
 ·cases hst
end
end Am
end
section
namespace Am
open Go Go.RowKit
def Ok1(kf kt:Nat->Nat)(w0:Base)(fm:FM)(w:World)(P:Program)(s:Sem Value)(v:AV)(S':St):Prop :=
 ∃ext u w',s.run P w = .ok u w'/\R kf kt w0 (fm++ext) S' w'/\VR kf (fm++ext) v u
section
variable {kf kt:Nat->Nat} {w0:Base} {fm:FM} {S:St} {w:World} {P:Program}
theorem Ok1.mk{s:Sem Value}{v:AV}{u:Value}(h:R kf kt w0 fm S w)(hr:s.run P w = .ok u w)(hv:VR kf fm v u):Ok1 kf kt w0 fm w P s v S :=
 ⟨[],u,w,hr,by simpa using h,by simpa using hv⟩
theorem zcs{v:Value}{u:AV}(h:zbG kf v=some u):VR kf fm u v/\u.sc=true:=by
 unfold zbG at h;split at h
 case h_9 f first caps=>
  split at h
  ·rename_i hh;cases h;refine⟨?_,by simp[AV.sc]⟩;simp only[VR,VRs];have h1:first=#[]:=Array.eq_empty_of_size_eq_zero hh.1
   have h2:caps=#[]:=Array.eq_empty_of_size_eq_zero hh.2;exact⟨_,caps,by rw[h1],rfl,by rw[h2]⟩
  ·cases h
 all_goals (cases h;try (constructor<;>simp[VR,AV.sc];done))
theorem zau:∀{vs:List Value} {us:List AV},mapO (zbG kf) vs=some us->VRs kf fm us vs/\∀u ∈ us,u.sc=true
 | [],us,h=>by simp[mapO] at h;subst h;simp[VRs]
 | v::vs,us,h=>by
  simp only[mapO] at h;cases h1:zbG kf v with
  | none=>simp[h1] at h
  | some u=>
   cases h2:mapO (zbG kf) vs with
   | none=>simp[h1,h2] at h
   | some us'=>
    simp[h1,h2] at h;subst h;obtain⟨h3,h4⟩:=zcs (fm:=fm) h1;obtain⟨h5,h6⟩:=zau (vs:=vs) (us:=us') h2;refine⟨by simp only[VRs];exact⟨v,vs,rfl,h3,h5⟩,λx hx=>?_⟩;rcases List.mem_cons.1 hx with rfl|hx
    ·exact h4
    ·exact h6 x hx
theorem toAV_rel{v:Value}{u:AV}(h:toAV kf v=some u):VR kf fm u v:=by
 unfold toAV at h;split at h
 ·rename_i cs;cases h1:mapO (zbG kf) cs.toList with
  | none=>simp[h1] at h
  | some us=>simp[h1] at h;subst h;obtain⟨h2,h3⟩:=zau (fm:=fm) h1;simp only[VR];exact⟨cs,rfl,h3,h2⟩
 ·rename_i cs;cases h1:mapO (zbG kf) cs.toList with
  | none=>simp[h1] at h
  | some us=>simp[h1] at h;subst h;obtain⟨h2,h3⟩:=zau (fm:=fm) h1;simp only[VR];exact⟨cs,rfl,h2⟩
 ·exact (zcs h).1
theorem zdn{u:AV}{v:Value}{us:List AV}(h:VR kf fm u v)(hf:u.flat=some us):VRs kf fm us v.cells.toList/\∀x ∈ us,x.sc=true:=by
 cases u<;>simp[AV.flat] at hf<;>(try subst hf)
 case agg cs=>
  simp only[VR] at h;obtain⟨ws,rfl,hs,hw⟩:=h;exact⟨hw,hs⟩
 all_goals
  refine⟨?_,by simp[AV.sc]⟩;have h1:=VR.oneCell h rfl;have:v.cells=#[v]:=by cases v<;>simp_all [Value.cells,Value.oneCell']
  rw[this];simp only[VRs];exact⟨v,[],rfl,h,rfl⟩
theorem zak{t:TypeId}{i:TypeInfo}(h:P.info? t=some i)(w:World):(typeInfo t).run P w = .ok i w:=by simp[typeInfo,h]
theorem za6{t:TypeId}{i:TypeInfo}(h:P.info? t=some i)(w:World):(Go.sizeOf t).run P w = .ok i.size w:=by simp[Go.sizeOf,zak h]
theorem zfO{t:TypeId}{n:Nat}(h:zx P t=some n):∃i,P.info? t=some i/\i.size=n:=by
 unfold zx at h;cases hi:P.info? t with
 | none=>simp[hi] at h
 | some i=>simp[hi] at h;exact⟨i,rfl,h⟩
theorem zn{t:TypeId}{n:Nat}(h:zx P t=some n)(w:World):(Go.sizeOf t).run P w = .ok n w:=by
 obtain⟨i,hi,rfl⟩:=zfO h;exact za6 hi w
theorem zY{t:TypeId}{z:List AV}(h:zaH P kf t=some z) :
  ∃i zv,P.info? t=some i/\i.zero=some zv/\mapO (zbG kf) zv.cells.toList=some z/\z.length=i.size:=by
 unfold zaH at h;cases hi:P.info? t with
 | none=>simp[hi] at h
 | some i=>
  cases hz:i.zero with
  | none=>simp[hi,hz] at h
  | some zv=>
   cases hm:mapO (zbG kf) zv.cells.toList with
   | none=>simp[hi,hz,hm] at h
   | some cs=>
    simp[hi,hz,hm] at h;obtain⟨h1,rfl⟩:=h;exact⟨i,zv,rfl,hz,hm,h1⟩
theorem zat{t:TypeId}{i:TypeInfo}{zv:Value}(hi:P.info? t=some i)(hz:i.zero=some zv)(w:World):(zeroValue t).run P w = .ok zv w:=by
 simp[zeroValue,zak hi,hz]
theorem zcR{t:TypeId}(h:aggT P t=some true)(w:World):(isAgg t).run P w = .ok true w:=by
 unfold aggT at h;cases hu:P.underlying t with
 | none=>simp[hu] at h
 | some d=>cases d<;>simp[hu] at h<;>simp[isAgg,run_underlying hu]
theorem za4{t:TypeId}(h:aggT P t=some false)(w:World):(isAgg t).run P w = .ok false w:=by
 unfold aggT at h;cases hu:P.underlying t with
 | none=>simp[hu] at h
 | some d=>cases d<;>simp[hu] at h<;>simp[isAgg,run_underlying hu]
theorem ok_load1{t:TypeId}{b o:Nat}{u:AV}{a:Value}(h:R kf kt w0 fm S w)(ht:aggT P t=some false)(ha:VR kf fm (.ptr b o) a)(hl:S.load1 b o=some u) :
  Ok1 kf kt w0 fm w P (Instr.loadAt t a) u S:=by
 simp only[VR] at ha;obtain⟨p,hp,rfl⟩:=ha;obtain⟨_,v,hv,hr⟩:=h.load1 hl hp;refine Ok1.mk h ?_ hr;simp[Instr.loadAt,Instr.sureAddr,loadVar,za4 ht,hv]
theorem ok_loadN{t:TypeId}{b o n:Nat}{us:List AV}{a:Value}(h:R kf kt w0 fm S w)(ht:aggT P t=some true)(hn:zx P t=some n)(ha:VR kf fm (.ptr b o) a)(hl:S.loadN b o n=some us) :
  Ok1 kf kt w0 fm w P (Instr.loadAt t a) (.agg us) S:=by
 simp only[VR] at ha;obtain⟨p,hp,rfl⟩:=ha;obtain⟨vs,hv,hr,hs⟩:=h.loadN (P:=P) hl hp;refine Ok1.mk h (u:=.agg vs.toArray) ?_ (by simp only[VR];exact⟨_,rfl,hs,by simpa using hr⟩);simp[Instr.loadAt,Instr.sureAddr,loadVar,zcR ht,zn hn,hv]
theorem ok_store{t:TypeId}{b o n:Nat}{v:AV}{us:List AV}{a u:Value}{S':St}(h:R kf kt w0 fm S w)(hn:zx P t=some n)(ha:VR kf fm (.ptr b o) a)(hv:VR kf fm v u)
  (hf:v.flat=some us) (hl:us.length=n) (hst:S.storeN b o us=some S') :
  ∃w',(Instr.storeAt t a u).run P w = .ok () w'/\R kf kt w0 fm S' w':=by
 simp only[VR] at ha;obtain⟨p,hp,rfl⟩:=ha;obtain⟨h1,h2⟩:=zdn hv hf;obtain⟨w',hr,h'⟩:=h.store (P:=P) hst hp h1 h2;refine⟨w',?_,h'⟩;have hlen:=h1.length;have:u.cells.size=n:=by rw[<- hl];simpa using hlen
 simp[Instr.storeAt,Instr.sureAddr,storeVar,zn hn,this,hr]
theorem zbO{elem:TypeId}{tag:Nat}{c:Array Value}{cs:List AV}{lim:Nat}(h:R kf kt w0 fm S w)(ht:kt elem=tag)(hl:lim<=c.size)(hc:cs.length<=lim)
  (hv:∀(i:Nat) (u:AV),cs[i]?=some u->u.sc=true/\∃v,c[i]?=some v/\VR kf fm u v) :
  ∃w',(newRow elem c).run P w = .ok ⟨w.heap.size,0,none⟩ w'/\R kf kt w0 (fm++[(⟨w.heap.size,0,none⟩,lim)]) (S++[.own tag cs]) w':=by
 refine⟨{ w with heap:=w.heap.push (.cells c elem) },by simp[newRow],?_⟩;exact h.push ht (λi _=>by simp) hl hc hv
theorem VRs.cellsOf{us:List AV}{c:Array Value}(h:VRs kf fm us c.toList)(hs:∀u ∈ us,u.sc=true) :
  ∀(i:Nat) (u:AV),us[i]?=some u->u.sc=true/\∃v,c[i]?=some v/\VR kf fm u v:=λi u hu=>by
 obtain⟨v,hv,hr⟩:=h.get hu;exact⟨hs u (List.mem_of_getElem? hu),v,by simpa using hv,hr⟩
theorem zca(h:R kf kt w0 fm S w)(q:Addr × Nat):(fm++[q])[S.length]?=some q:=by rw[<- h.len];simp
theorem zdP{elem:TypeId}{v:Value}{us:List AV}(h:R kf kt w0 fm S w)(hv:VRs kf fm us v.cells.toList)(hs:∀u ∈ us,u.sc=true) :
  ∃w',(newVar elem v).run P w = .ok ⟨w.heap.size,0,none⟩ w'/\R kf kt w0 (fm++[(⟨w.heap.size,0,none⟩,us.length)]) (S++[.own (kt elem) us]) w':=by
 have hl:=hv.length;exact zbO (P:=P) h rfl (by simp at hl;omega) (Nat.le_refl _) (VRs.cellsOf hv hs)
theorem ok_alloc{elem:TypeId}{z:List AV}(h:R kf kt w0 fm S w)(hz:zaH P kf elem=some z) :
  Ok1 kf kt w0 fm w P (Instr.alloc elem true (.tuple #[])) (.ptr S.length 0) (S++[.own (kt elem) z]):=by
 obtain⟨i,zv,hi,hz1,hm,_⟩:=zY hz;obtain⟨h1,h2⟩:=zau (fm:=fm) hm;obtain⟨w',hr,h'⟩:=zdP (P:=P) (elem:=elem) h h1 h2;refine⟨_,.pointer (some ⟨w.heap.size,0,none⟩),w',?_,h',?_⟩
 ·simp[Instr.alloc,zat hi hz1,hr]
 ·simp only[VR];exact⟨_,zca h _,by rw[zC]⟩
theorem ok_box{elem:TypeId}{v:AV}{u:Value}{us:List AV}(h:R kf kt w0 fm S w)(hv:VR kf fm v u)(hf:v.flat=some us) :
  Ok1 kf kt w0 fm w P (Instr.box elem u) (.ptr S.length 0) (S++[.own (kt elem) us]):=by
 obtain⟨h1,h2⟩:=zdn hv hf;obtain⟨w',hr,h'⟩:=zdP (P:=P) (elem:=elem) h h1 h2;refine⟨_,.pointer (some ⟨w.heap.size,0,none⟩),w',?_,h',?_⟩
 ·simp[Instr.box,hr]
 ·simp only[VR];exact⟨_,zca h _,by rw[zC]⟩
theorem zg6(vs:Array Value)(off:Nat)(cs:Array Value) :
  (vs.zipIdx.foldl (λcs (x:Value × Nat)=>cs.setIfInBounds (off+x.2) x.1) cs).toList=putV cs.toList off vs.toList:=by
 have key:∀(l:List Value) (k:Nat) (cs:Array Value),((l.zipIdx k).foldl (λcs (x:Value × Nat)=>cs.setIfInBounds (off+x.2) x.1) cs).toList=putV cs.toList (off+k) l:=by
  intro l
  induction l with
  | nil=>intro k cs;rfl
  | cons v l ih=>intro k cs;simp only[List.zipIdx_cons,List.foldl_cons,putV];rw[ih];simp[Nat.add_assoc]
 have:=key vs.toList 0 cs
 rw[<- Array.foldl_toList];simpa using this
theorem zcn(place:Nat->Option (Nat × Nat)):∀(ps:List (Nat × Nat)) (vs:List AV) (parts:List (Nat × Value)) (z cs:List AV) (zw:Array Value),
  fill ps vs z=some cs->VRs kf fm z zw.toList->(∀u ∈ z,u.sc=true)->VRs kf fm vs (parts.map (·.2))->parts.map (λp=>place p.1)=ps.map some ->
  ∃cw,Instr.fill place zw parts=some cw/\VRs kf fm cs cw.toList/\(∀u ∈ cs,u.sc=true)/\cs.length=z.length
 | [],vs,parts,z,cs,zw,hf,hz,hs,hv,hp=>by
  cases parts with
  | nil=>cases vs<;>simp[fill] at hf;subst hf;exact⟨zw,rfl,hz,hs,rfl⟩
  | cons p parts=>simp at hp
 | (off,size)::ps,[],parts,z,cs,zw,hf,_,_,_,_=>by simp[fill] at hf
 | (off,size)::ps,v::vs,parts,z,cs,zw,hf,hz,hs,hv,hp=>by
  cases parts with
  | nil=>simp at hp
  | cons p parts=>
   obtain⟨j,x⟩:=p;simp only[List.map_cons,List.cons.injEq] at hp;obtain⟨hp1,hp2⟩:=hp;simp only[List.map_cons,VRs] at hv;obtain⟨u,us,he,hv1,hv2⟩:=hv;cases he;simp only[fill] at hf;cases hfl:v.flat with
   | none=>simp[hfl] at hf
   | some fs=>
    simp only[hfl,Option.bind_some] at hf;split at hf
    ·rename_i hc;obtain⟨h1,h2⟩:=zdn hv1 hfl;have hl1:=h1.length;have hlz:=hz.length;have hsz:x.cells.size=size:=by rw[<- hc.1];simpa using hl1
     have hzz:zw.size=z.length:=by simpa using hlz
     have hput:=zeB fs x.cells.toList z zw.toList 0 off h1 h2 (by simp;omega) (λi u hu=>by
      obtain⟨v',hv',hr'⟩:=hz.get hu;exact⟨hs u (List.mem_of_getElem? hu),v',by simpa using hv',hr'⟩)
     simp only[Nat.zero_add] at hput;obtain⟨cw,h3,h4,h5,h6⟩:=zcn place ps vs parts (zaI z off fs) cs
      (x.cells.zipIdx.foldl (λcs (y:Value × Nat)=>cs.setIfInBounds (off+y.2) y.1) zw) hf
      (by
       rw[zg6];refine VRs.of_get (by rw[zab,zaK];simpa using hlz) λi c hcc=>?_
       obtain⟨_,v',hv',hr'⟩:=hput i c hcc;exact⟨v',by simpa using hv',hr'⟩)
      (λu hu=>by
       obtain⟨i,hi⟩:=List.getElem?_of_mem hu;exact (hput i u hi).1) hv2 hp2
     refine⟨cw,?_,h4,h5,by rw[h6,zaK]⟩;simp only[Instr.fill,hp1];rw[if_neg (by simp;omega)];exact h3
    ·cases hf
theorem zf1{fs:Array Field}{pl:List (Nat × Nat)}(h:zfi P fs=some pl)(w:World) :
  (fs.mapM (λf=>Prod.mk f.offset <$> Go.sizeOf f.type)).run P w = .ok pl.toArray w:=by
 have key:∀(l:List Field) (pl:List (Nat × Nat)),mapO (λf=>(zx P f.type).map λn=>(f.offset,n)) l=some pl ->
   (l.mapM (λf=>Prod.mk f.offset <$> Go.sizeOf f.type)).run P w = .ok pl w:=by
  intro l
  induction l with
  | nil=>intro pl h;simp[mapO] at h;subst h;rfl
  | cons f l ih=>
   intro pl h;simp only[mapO] at h;cases hs:zx P f.type with
   | none=>simp[hs] at h
   | some n=>
    cases hr:mapO (λf=>(zx P f.type).map λn=>(f.offset,n)) l with
    | none=>simp[hr] at h
    | some pl'=>
     simp[hs,hr] at h;subst h;have:=ih pl' hr
     simp only[List.mapM_cons,Sem.run_bind,Sem.run_map,zn hs,Result.andThen_ok,Sem.run_pure,this]
 have h1:=key fs.toList pl h;rw[Array.mapM_eq_mapM_toList];simp only[Sem.run_map,h1,Result.andThen_ok]
theorem zdW{α β:Type}{f:α->Option β}:∀{l:List α} {r:List β},mapO f l=some r->l.map f=r.map some
 | [],r,h=>by simp[mapO] at h;subst h;rfl
 | x::l,r,h=>by
  simp only[mapO] at h;cases hx:f x with
  | none=>simp[hx] at h
  | some y=>
   cases hl:mapO f l with
   | none=>simp[hx,hl] at h
   | some r'=>simp[hx,hl] at h;subst h;simp[hx,zdW hl]
theorem zgQ{t:TypeId}{fs:Array Field}{z:List AV}{pl ps:List (Nat × Nat)}{parts:Array (Nat × Value)}{vs cs:List AV}(h:R kf kt w0 fm S w)
  (hu:P.underlying t=some (.struct fs)) (hz:zaH P kf t=some z) (hpl:zfi P fs=some pl) (hps:parts.toList.map (λp=>pl[p.1]?)=ps.map some)
  (hv:VRs kf fm vs (parts.toList.map (·.2))) (hf:fill ps vs z=some cs):Ok1 kf kt w0 fm w P (Instr.build t parts) (.agg cs) S:=by
 obtain⟨i,zv,hi,hz1,hm,_⟩:=zY hz;obtain⟨h1,h2⟩:=zau (fm:=fm) hm;obtain⟨cw,h3,h4,h5,_⟩:=zcn (kf:=kf) (fm:=fm) (λi=>pl[i]?) ps vs parts.toList z cs zv.cells hf h1 h2 hv hps;refine Ok1.mk h (u:=.agg cw) ?_ (by simp only[VR];exact⟨_,rfl,h5,h4⟩);simp[Instr.build,zat hi hz1,run_underlying hu,zf1 hpl,h3]
theorem zgR{t e:TypeId}{m n:Nat}{z:List AV}{ps:List (Nat × Nat)}{parts:Array (Nat × Value)}{vs cs:List AV}(h:R kf kt w0 fm S w)
  (hu:P.underlying t=some (.array m e)) (hz:zaH P kf t=some z) (hn:zx P e=some n) (hps:ps=parts.toList.map λp=>(p.1*n,n))
  (hv:VRs kf fm vs (parts.toList.map (·.2))) (hf:fill ps vs z=some cs):Ok1 kf kt w0 fm w P (Instr.build t parts) (.agg cs) S:=by
 obtain⟨i,zv,hi,hz1,hm,_⟩:=zY hz;obtain⟨h1,h2⟩:=zau (fm:=fm) hm;obtain⟨cw,h3,h4,h5,_⟩:=zcn (kf:=kf) (fm:=fm) (λi=>some (i*n,n)) ps vs parts.toList z cs zv.cells hf h1 h2 hv (by rw[hps];simp);refine Ok1.mk h (u:=.agg cw) ?_ (by simp only[VR];exact⟨_,rfl,h5,h4⟩);simp[Instr.build,zat hi hz1,run_underlying hu,zn hn,h3]
theorem zbs(n:Nat)(z:List AV):(rep n z).length=n*z.length:=by
 induction n with
 | zero=>simp[rep]
 | succ n ih=>simp[rep,ih,Nat.succ_mul];omega
theorem zgp:∀(n:Nat) (z:List AV) (i:Nat),i<n*z.length->(rep n z)[i]?=z[i%z.length]?
 | 0,z,i,h=>by simp at h
 | n+1,z,i,h=>by
  simp only[rep]
  by_cases hlt:i<z.length
  ·rw[List.getElem?_append_left hlt,Nat.mod_eq_of_lt hlt]
  ·rw[List.getElem?_append_right (by omega),zgp n z (i-z.length) (by rw[Nat.succ_mul] at h;omega)];congr 1;exact (Nat.mod_eq_sub_mod (by omega)).symm
theorem zgo{n:Nat}{z:List AV}(h:∀u ∈ z,u.sc=true):∀u ∈ rep n z,u.sc=true:=by
 induction n with
 | zero=>simp[rep]
 | succ n ih=>intro u hu;simp[rep] at hu;rcases hu with hu|hu;exact h u hu;exact ih u hu
theorem zeu{n:Nat}{z:List AV}{zv:Array Value}(h:VRs kf fm z zv.toList):VRs kf fm (rep n z) ((Array.range (n*zv.size)).map (λi=>zv[i%zv.size]!)).toList:=by
 have hl:=h.length;have hsz:zv.size=z.length:=by simpa using hl
 refine VRs.of_get (by simp[zbs,hsz]) λi c hc=>?_
 have hi:i<n*z.length:=by rw[<- zbs];exact (List.getElem?_eq_some_iff.1 hc).1
 rw[zgp n z i hi] at hc;obtain⟨v,hv,hr⟩:=h.get hc;refine⟨v,?_,hr⟩;have hv':zv[i%z.length]?=some v:=by simpa using hv
 simp only[Array.toList_map,Array.toList_range,List.getElem?_map,List.getElem?_range (hsz ▸ hi),Option.map_some];rw[hsz,getElem!_def,hv']
theorem zgS{t e:TypeId}{n:Nat}{z:List AV}{ps:List (Nat × Nat)}{parts:Array (Nat × Value)}{vs cs:List AV}(h:R kf kt w0 fm S w)
  (hu:P.underlying t=some (.slice e)) (hz:zaH P kf e=some z) (hbig:¬ n*z.length>2 ^ 24) (hps:ps=parts.toList.map λp=>(p.1*z.length,z.length))
  (hv:VRs kf fm vs (parts.toList.map (·.2))) (hf:fill ps vs (rep n z)=some cs) :
  Ok1 kf kt w0 fm w P (Instr.buildSlice t n parts) (.sl S.length 0 n n none) (S++[.own (kt e) cs]):=by
 obtain⟨i,zv,hi,hz1,hm,hlen⟩:=zY hz;obtain⟨h1,h2⟩:=zau (fm:=fm) hm;have hl1:=h1.length;have hzs:zv.cells.size=z.length:=by simpa using hl1
 obtain⟨cw,h3,h4,h5,h6⟩:=zcn (kf:=kf) (fm:=fm) (λi=>some (i*z.length,z.length)) ps vs parts.toList (rep n z) cs _ hf (zeu (n:=n) h1) (zgo h2) hv (by rw[hps];simp);have hcl:=h4.length;obtain⟨w',hr,h'⟩:=zbO (P:=P) (elem:=e) (c:=cw) (cs:=cs) (lim:=cs.length) h rfl (by simp at hcl;omega) (Nat.le_refl _) (VRs.cellsOf h4 h5);refine⟨_,.slice (some ⟨w.heap.size,0,none⟩) n n,w',?_,h',?_⟩
 ·have hsz:(Go.sizeOf e).run P w = .ok z.length w:=by rw[za6 hi];rw[hlen]
  simp only[Instr.buildSlice,Sem.run_bind,run_underlying hu,Result.andThen_ok,hsz];rw[if_neg hbig];rw[hzs] at h3
  by_cases h0:n*z.length=0
  ·rw[if_pos h0];have h3':Instr.fill (λi=>some (i*z.length,z.length)) (Array.map (λx=>(#[]:Array Value)[x%(#[]:Array Value).size]!) (Array.range (n*z.length))) parts.toList=some cw:=by
    have e0:∀f:Nat->Value,Array.map f (Array.range 0)=#[]:=λf=>by rw[show Array.range 0=#[] from by simp[Array.range]];simp
    rw[<- h3,h0,e0,e0]
   simp only[Sem.run_bind,Sem.run_pure,Result.andThen_ok,h3',hr]
  ·rw[if_neg h0];simp only[Sem.run_bind,Sem.run_pure,Result.andThen_ok,zat hi hz1,hzs,h3,hr]
 ·simp only[VR];exact⟨_,n,_,zca h _,rfl,Nat.le_refl _,Nat.le_refl _,Nat.le_refl _,.inl (by rw[zC]),λ_=>rfl,λes he=>by cases he⟩
end
end Am
end
section
namespace Am
open Go Go.RowKit
section
variable {kf kt:Nat->Nat} {w0:Base} {fm:FM} {S:St} {w:World} {P:Program}
theorem ok_pick{c:Bool}{a b:AV}{uc ua ub:Value}(h:R kf kt w0 fm S w)(hc:VR kf fm (.bool c) uc)(ha:VR kf fm a ua)(hb:VR kf fm b ub) :
  Ok1 kf kt w0 fm w P (do pure (if ← asBool uc then ua else ub)) (if c then a else b) S:=by
 simp only[VR] at hc;subst hc;cases c
 ·exact Ok1.mk h (by simp[asBool]) hb
 ·exact Ok1.mk h (by simp[asBool]) ha
theorem Ok1.int{s:Sem Value}{k:IntKind}{n:Int}(h:R kf kt w0 fm S w)(hr:s.run P w = .ok (.int k n) w):Ok1 kf kt w0 fm w P s (.int k n) S:=Ok1.mk h hr (by simp[VR])
theorem Ok1.bool{s:Sem Value}{b:Bool}(h:R kf kt w0 fm S w)(hr:s.run P w = .ok (.bool b) w):Ok1 kf kt w0 fm w P s (.bool b) S:=Ok1.mk h hr (by simp[VR])
theorem Ok1.str{s:Sem Value}{bs:ByteArray}{l:List UInt8}(h:R kf kt w0 fm S w)(hr:s.run P w = .ok (.string bs) w)(hl:bs.data.toList=l):Ok1 kf kt w0 fm w P s (.str l) S :=
 Ok1.mk h hr (by simp only[VR];exact⟨_,rfl,hl⟩)
theorem ok_binI{op:BinOp}{t:TypeId}{ox oy:Operand}{k k':IntKind}{x y:Int}{a b:Value}{v:AV}(h:R kf kt w0 fm S w)(ha:VR kf fm (.int k x) a)(hb:VR kf fm (.int k' y) b)
  (hk:zF op k k'=true) (hv:binI op k x y=some v):Ok1 kf kt w0 fm w P (do eqGuard op t ox oy a b;Go.binOp op t a b) v S:=by
 simp only[VR] at ha hb;subst ha;subst hb;cases op<;>simp only[zF,beq_iff_eq] at hk<;>simp only[binI] at hv
 case shl=>split at hv;cases hv;cases hv;rename_i hy;exact Ok1.int h (by simp[eqGuard,Go.binOp,Op.shift,hy])
 case shr=>split at hv;cases hv;cases hv;rename_i hy;exact Ok1.int h (by simp[eqGuard,Go.binOp,Op.shift,hy])
 case quo=>subst hk;split at hv;cases hv;cases hv;rename_i hy;exact Ok1.int h (by simp[eqGuard,Go.binOp,Op.intDiv,hy])
 case rem=>subst hk;split at hv;cases hv;cases hv;rename_i hy;exact Ok1.int h (by simp[eqGuard,Go.binOp,Op.intDiv,hy])
 case add=>subst hk;cases hv;exact Ok1.int h (by simp[eqGuard,Go.binOp,Op.intArith])
 case sub=>subst hk;cases hv;exact Ok1.int h (by simp[eqGuard,Go.binOp,Op.intArith])
 case mul=>subst hk;cases hv;exact Ok1.int h (by simp[eqGuard,Go.binOp,Op.intArith])
 case and=>subst hk;cases hv;exact Ok1.int h (by simp[eqGuard,Go.binOp,Op.intBits])
 case or=>subst hk;cases hv;exact Ok1.int h (by simp[eqGuard,Go.binOp,Op.intBits])
 case xor=>subst hk;cases hv;exact Ok1.int h (by simp[eqGuard,Go.binOp,Op.intBits])
 case andNot=>subst hk;cases hv;exact Ok1.int h (by simp[eqGuard,Go.binOp,Op.intBits])
 all_goals (subst hk;cases hv;exact Ok1.bool h (by simp[eqGuard,Go.binOp,Op.intCmp]))
theorem ok_binS{op:BinOp}{t:TypeId}{ox oy:Operand}{x y:List UInt8}{a b:Value}{v:AV}(h:R kf kt w0 fm S w)(ha:VR kf fm (.str x) a)(hb:VR kf fm (.str y) b)
  (hv:binS op x y=some v):Ok1 kf kt w0 fm w P (do eqGuard op t ox oy a b;Go.binOp op t a b) v S:=by
 simp only[VR] at ha hb;obtain⟨bx,rfl,rfl⟩:=ha;obtain⟨bt,rfl,rfl⟩:=hb;cases op<;>simp only[binS] at hv<;>(try (cases hv;done))
 case add=>
  split at hv
  ·cases hv;rename_i hl;refine Ok1.str h (bs:=bx++bt) ?_ (by simp);have h1:bx.size=bx.data.toList.length:=by rw[Array.length_toList];rfl
   have h2:bt.size=bt.data.toList.length:=by rw[Array.length_toList];rfl
   have:¬ ((bx.size+bt.size:Nat):Int)>IntKind.i64.max:=by
    simp only[show IntKind.i64.max=9223372036854775807 from rfl];omega
   simp only[eqGuard,Go.binOp,Op.stringOp,Sem.run_bind];rw[if_neg this];simp
  ·cases hv
 all_goals
  cases hv;refine Ok1.bool h ?_;simp[eqGuard,Go.binOp,Op.stringOp,ByteArray.toList_eq,bne]
theorem ok_notB{b:Bool}{a:Value}(h:R kf kt w0 fm S w)(ha:VR kf fm (.bool b) a):Ok1 kf kt w0 fm w P (Op.unary .not a) (.bool (!b)) S:=by
 simp only[VR] at ha;subst ha;exact Ok1.bool h (by simp[Op.unary])
theorem ok_negI{k:IntKind}{n:Int}{a:Value}(h:R kf kt w0 fm S w)(ha:VR kf fm (.int k n) a):Ok1 kf kt w0 fm w P (Op.unary .neg a) (.int k (k.wrap (0-n))) S:=by
 simp only[VR] at ha;subst ha;exact Ok1.int h (by simp[Op.unary,Op.intArith])
theorem ok_xorI{k:IntKind}{n:Int}{a:Value}(h:R kf kt w0 fm S w)(ha:VR kf fm (.int k n) a) :
  Ok1 kf kt w0 fm w P (Op.unary .xor a) (.int k (k.wrap (BitVec.ofInt k.bits (if k.signed then -1 else k.max) ^^^ BitVec.ofInt k.bits n).toNat)) S:=by
 simp only[VR] at ha;subst ha;exact Ok1.int h (by simp[Op.unary,Op.intBits])
theorem ok_eqB{neg:Bool}{op:BinOp}{t:TypeId}{ox oy:Operand}{x y:Bool}{a b:Value}(h:R kf kt w0 fm S w)(ht:P.underlying t=some .bool)(hop:op=if neg then .neq else .eql)
  (ha:VR kf fm (.bool x) a) (hb:VR kf fm (.bool y) b):Ok1 kf kt w0 fm w P (do eqGuard op t ox oy a b;Go.binOp op t a b) (.bool ((x==y) != neg)) S:=by
 simp only[VR] at ha hb;subst ha;subst hb;subst hop;have he:(Op.equalIn 10000 t (.bool x) (.bool y)).run P w = .ok (x==y) w:=by
  exact run_equalIn_bool' w 9999 t x y ht
 cases neg
 ·refine Ok1.bool h ?_;simp[eqGuard,Go.binOp,Op.equal,Op.maxDepth,he]
 ·refine Ok1.bool h ?_;simp[eqGuard,Go.binOp,Op.equal,Op.maxDepth,he]
theorem zce{n:Nat}{d:TypeDesc}{t:TypeId}{oy:Operand}{c:NK}{x:AV}{a b:Value}{r:Bool}(ht:P.underlying t=some d)(hn:zbb d oy=some c)(hb:oy = .const b)
  (ha:VR kf fm x a) (hr:zdT c x=some r):(Op.equalIn (n+1) t a b).run P w = .ok r w:=by
 subst hb;unfold zbb at hn;split at hn<;>(try (cases hn;done))<;>rename_i heq<;>cases heq<;>cases hn<;>cases x<;>simp only[zdT] at hr<;>(try (cases hr;done))<;>cases hr<;>simp only[VR] at ha
 all_goals (first|subst ha|obtain⟨p,_,rfl⟩:=ha|obtain⟨p,rc,ra,_,rfl,_⟩:=ha|obtain⟨f,ws,rfl,_⟩:=ha|obtain⟨t',u',rfl⟩:=ha)
 all_goals simp[Op.equalIn,run_underlying ht]
theorem zcv{d:TypeDesc}{t:TypeId}{ox oy:Operand}{c:NK}{x:AV}{a b:Value}{r:Bool}(ht:P.underlying t=some d)(hn:zbb d oy=some c)(hb:oy = .const b)
  (ha:VR kf fm x a) (hr:zdT c x=some r) (op:BinOp) :
  (Op.equalIn 10000 t a b).run P w = .ok r w/\(eqGuard op t ox oy a b).run P w = .ok () w/\(∀k n,a ≠ .int k n)/\(∀s,a ≠ .string s)/\(∀k n,a ≠ .float k n)/\(∀k n m,a ≠ .complex k n m):=by
 have h1:=zce (w:=w) (n:=9999) ht hn hb ha hr;refine⟨h1,?_⟩;clear h1;subst hb;unfold zbb at hn;split at hn<;>(try (cases hn;done))<;>rename_i heq<;>cases heq<;>cases hn<;>cases x<;>simp only[zdT] at hr<;>(try (cases hr;done))<;>cases hr<;>simp only[VR] at ha
 all_goals (first|subst ha|obtain⟨p,_,rfl⟩:=ha|obtain⟨p,rc,ra,_,rfl,_⟩:=ha|obtain⟨f,ws,rfl,_⟩:=ha|obtain⟨t',u',rfl⟩:=ha)
 all_goals
  refine⟨?_,by simp,by simp,by simp,by simp⟩;cases op<;>simp[eqGuard]
theorem zfk{neg:Bool}{op:BinOp}{d:TypeDesc}{t:TypeId}{ox oy:Operand}{c:NK}{x:AV}{a b:Value}{r:Bool}(h:R kf kt w0 fm S w)(ht:P.underlying t=some d)
  (hn:zbb d oy=some c) (hb:oy = .const b) (hop:op=if neg then .neq else .eql) (ha:VR kf fm x a) (hr:zdT c x=some r) :
  Ok1 kf kt w0 fm w P (do eqGuard op t ox oy a b;Go.binOp op t a b) (.bool (r != neg)) S:=by
 obtain⟨h1,h2,h3,h4,h5,h6⟩:=zcv (w:=w) (ox:=ox) ht hn hb ha hr op;have h7:(∀k n,b ≠ .int k n):=by subst hb;unfold zbb at hn;split at hn<;>simp_all
 subst hop;refine Ok1.bool h ?_;simp only[Sem.run_bind,h2,Result.andThen_ok];have hq:(Op.equal t a b).run P w = .ok r w:=h1;cases neg
 ·have:Go.binOp .eql t a b=(do pure (.bool (← Op.equal t a b))):=by
   unfold Go.binOp;split<;>simp_all
  simp[this,hq]
 ·have:Go.binOp .neq t a b=(do pure (.bool (!(← Op.equal t a b)))):=by
   unfold Go.binOp;split<;>simp_all
  simp[this,hq]
theorem ok_conv{src dst:TypeId}{k k':IntKind}{n:Int}{a:Value}(h:R kf kt w0 fm S w){d:TypeDesc}(hs:P.underlying src=some d)(hd:P.underlying dst=some (.int k))
  (ha:VR kf fm (.int k' n) a):Ok1 kf kt w0 fm w P (convert src dst a) (.int k (k.wrap n)) S:=by
 simp only[VR] at ha;subst ha;refine Ok1.int h ?_;cases d<;>simp[convert,run_underlying hs,run_underlying hd,Conv.intToInt]
theorem ok_idS{src dst:TypeId}{s:List UInt8}{a:Value}(h:R kf kt w0 fm S w)(hs:P.underlying src=some .string)(hd:P.underlying dst=some .string)
  (ha:VR kf fm (.str s) a):Ok1 kf kt w0 fm w P (convert src dst a) (.str s) S:=by
 simp only[VR] at ha;obtain⟨bs,rfl,hbs⟩:=ha;exact Ok1.str h (bs:=bs) (by simp[convert,run_underlying hs,run_underlying hd]) hbs
theorem ok_ext{vs:List AV}{v:AV}{i:Nat}{a:Value}(h:R kf kt w0 fm S w)(ha:VR kf fm (.tup vs) a)(hv:vs[i]?=some v):Ok1 kf kt w0 fm w P (Instr.extract a i) v S:=by
 simp only[VR] at ha;obtain⟨ws,rfl,hw⟩:=ha;obtain⟨u,hu,hr⟩:=hw.get hv;have hu':ws[i]?=some u:=by simpa using hu
 exact Ok1.mk h (by simp[Instr.extract,hu']) hr
theorem ok_mkifc{t:TypeId}{d:TypeDesc}{x:AV}{a:Value}(h:R kf kt w0 fm S w)(ht:P.underlying t=some d)(hd:∀ms,d ≠ .interface ms)(_:VR kf fm x a) :
  Ok1 kf kt w0 fm w P (Instr.makeInterface t a) .opq S:=by
 refine Ok1.mk h (u:=.iface t a) ?_ (by simp[VR]);cases d<;>simp_all [Instr.makeInterface,run_underlying ht]
theorem ok_mkfn{f:FuncId}{caps:Array Value}{vs:List AV}(h:R kf kt w0 fm S w)(hv:VRs kf fm vs caps.toList):Ok1 kf kt w0 fm w P (Instr.makeFunc (.func f) #[] caps) (.fn (kf f) vs) S :=
 Ok1.mk h (u:=.func (.func f) #[] caps) rfl (by simp only[VR];exact⟨f,caps,rfl,rfl,hv⟩)
theorem zdN{t:TypeId}{cs:List AV}{ws:Array Value}{off:Nat}{v:AV}(ht:aggT P t=some false)(hw:VRs kf fm cs ws.toList)(hv:cs[off]?=some v) :
  ∃u,(part t ws off).run P w = .ok u w/\VR kf fm v u:=by
 obtain⟨u,hu,hr⟩:=hw.get hv;have hu':ws[off]?=some u:=by simpa using hu
 exact⟨u,by simp[part,za4 ht,hu'],hr⟩
theorem zdM{t:TypeId}{cs:List AV}{ws:Array Value}{off n:Nat}(ht:aggT P t=some true)(hn:zx P t=some n)(hw:VRs kf fm cs ws.toList)(hs:∀c ∈ cs,c.sc=true) :
  ∃u,(part t ws off).run P w = .ok u w/\VR kf fm (.agg ((cs.drop off).take n)) u:=by
 refine⟨.agg (ws.extract off (off+n)),by simp[part,zcR ht,zn hn],?_⟩;simp only[VR];refine⟨_,rfl,λc hc=>hs c (List.mem_of_mem_drop (List.mem_of_mem_take hc)),?_⟩;have:(ws.extract off (off+n)).toList=(ws.toList.drop off).take n:=by
  rw[Array.toList_extract,List.extract_eq_take_drop];congr 1;omega
 rw[this];exact (hw.drop off).take n
theorem ok_fld1{t:TypeId}{fs:Array Field}{f:Nat}{fd:Field}{cs:List AV}{v:AV}{a:Value}(h:R kf kt w0 fm S w)(ht:P.underlying t=some (.struct fs))(hf:fs[f]?=some fd)
  (hg:aggT P fd.type=some false) (ha:VR kf fm (.agg cs) a) (hv:cs[fd.offset]?=some v):Ok1 kf kt w0 fm w P (Instr.field t a f) v S:=by
 simp only[VR] at ha;obtain⟨ws,rfl,_,hw⟩:=ha;obtain⟨u,hu,hr⟩:=zdN (w:=w) (P:=P) hg hw hv;exact Ok1.mk h (by simp[Instr.field,run_underlying ht,hf,asAgg,hu]) hr
theorem ok_fldN{t:TypeId}{fs:Array Field}{f n:Nat}{fd:Field}{cs:List AV}{a:Value}(h:R kf kt w0 fm S w)(ht:P.underlying t=some (.struct fs))(hf:fs[f]?=some fd)
  (hg:aggT P fd.type=some true) (hn:zx P fd.type=some n) (ha:VR kf fm (.agg cs) a):Ok1 kf kt w0 fm w P (Instr.field t a f) (.agg ((cs.drop fd.offset).take n)) S:=by
 simp only[VR] at ha;obtain⟨ws,rfl,hs,hw⟩:=ha;obtain⟨u,hu,hr⟩:=zdM (w:=w) (P:=P) (off:=fd.offset) hg hn hw hs;exact Ok1.mk h (by simp[Instr.field,run_underlying ht,hf,asAgg,hu]) hr
theorem zq{i:AV}{n:Nat}{a:Value}(hn:zu i=some n)(ha:VR kf fm i a):∃k,a = .int k n:=by
 cases i<;>simp[zu] at hn
 simp only[VR] at ha;subst ha;obtain⟨h1,rfl⟩:=hn;exact⟨_,by congr 1;omega⟩
theorem ok_idxS{t:TypeId}{s:List UInt8}{i:AV}{n:Nat}{c:UInt8}{a b:Value}(h:R kf kt w0 fm S w)(ht:P.underlying t=some .string)(ha:VR kf fm (.str s) a)(hb:VR kf fm i b)
  (hn:zu i=some n) (hc:s[n]?=some c):Ok1 kf kt w0 fm w P (Instr.index t a b) (.int .u8 c.toNat) S:=by
 simp only[VR] at ha;obtain⟨bs,rfl,rfl⟩:=ha;obtain⟨k,rfl⟩:=zq hn hb;have hlt:n<bs.size:=by have:=(List.getElem?_eq_some_iff.1 hc).1;rw[Array.length_toList] at this;exact this
 have hcc:bs[n]=c:=by
  have:=(List.getElem?_eq_some_iff.1 hc).2
  show bs.data[n]=c;simpa using this
 refine Ok1.int h ?_;have h0:(0:Int)<=(n:Int):=by omega
 simp[Instr.index,asIntOf,run_underlying ht,hlt,hcc]
theorem ok_idxA1{t e:TypeId}{m n es:Nat}{cs:List AV}{i v:AV}{a b:Value}(h:R kf kt w0 fm S w)(ht:P.underlying t=some (.array m e))(hg:aggT P e=some false)(hs:zx P e=some es)
  (ha:VR kf fm (.agg cs) a) (hb:VR kf fm i b) (hn:zu i=some n) (hlt:n<m) (hv:cs[n*es]?=some v):Ok1 kf kt w0 fm w P (Instr.index t a b) v S:=by
 simp only[VR] at ha;obtain⟨ws,rfl,_,hw⟩:=ha;obtain⟨k,rfl⟩:=zq hn hb;obtain⟨u,hu,hr⟩:=zdN (w:=w) (P:=P) hg hw hv;exact Ok1.mk h (by simp[Instr.index,asIntOf,run_underlying ht,hlt,zn hs,hu]) hr
theorem ok_idxAN{t e:TypeId}{m n es:Nat}{cs:List AV}{i:AV}{a b:Value}(h:R kf kt w0 fm S w)(ht:P.underlying t=some (.array m e))(hg:aggT P e=some true)(hs:zx P e=some es)
  (ha:VR kf fm (.agg cs) a) (hb:VR kf fm i b) (hn:zu i=some n) (hlt:n<m):Ok1 kf kt w0 fm w P (Instr.index t a b) (.agg ((cs.drop (n*es)).take es)) S:=by
 simp only[VR] at ha;obtain⟨ws,rfl,hsc,hw⟩:=ha;obtain⟨k,rfl⟩:=zq hn hb;obtain⟨u,hu,hr⟩:=zdM (w:=w) (P:=P) (off:=n*es) hg hs hw hsc;exact Ok1.mk h (by simp[Instr.index,asIntOf,run_underlying ht,hlt,zn hs,hu]) hr
theorem ok_fadr{s:TypeId}{fs:Array Field}{f n b o:Nat}{fd:Field}{a:Value}(h:R kf kt w0 fm S w)(ht:P.underlying s=some (.struct fs))(hf:fs[f]?=some fd)
  (hn:zx P fd.type=some (n+1)) (ha:VR kf fm (.ptr b o) a):Ok1 kf kt w0 fm w P (Instr.fieldAt s a f) (.ptr b (o+fd.offset)) S:=by
 simp only[VR] at ha;obtain⟨p,hp,rfl⟩:=ha;refine Ok1.mk h (u:=.pointer (some (p.1.add (o+fd.offset)))) ?_ (by simp only[VR];exact⟨p,hp,rfl⟩);simp[Instr.fieldAt,run_underlying ht,hf,Instr.sureAddr,fieldPlace,zn hn,zaS]
theorem ok_iadr{t e:TypeId}{b o len cap es n:Nat}{g:Option Nat}{i:AV}{a c:Value}(h:R kf kt w0 fm S w)(ht:P.underlying t=some (.slice e))(hs:zx P e=some es)
  (ha:VR kf fm (.sl b o len cap g) a) (hb:VR kf fm i c) (hn:zu i=some n) (hlt:n<len):Ok1 kf kt w0 fm w P (Instr.indexAt t a c) (.ptr b (o+n*es)) S:=by
 simp only[VR] at ha;obtain⟨p,rc,ra,hp,rfl,h1,h2,h3,h4,h5,h6⟩:=ha;obtain⟨k,rfl⟩:=zq hn hb;have hra:ra=p.1.add o:=h4.resolve_right (by omega);subst hra;refine Ok1.mk h (u:=.pointer (some (p.1.add (o+n*es)))) ?_ (by simp only[VR];exact⟨p,hp,rfl⟩);simp[Instr.indexAt,asIntOf,run_underlying ht,hlt,zn hs,zaS]
theorem ok_iadrA{t e:TypeId}{m b o es n:Nat}{i:AV}{a c:Value}(h:R kf kt w0 fm S w)(ht:P.underlying t=some (.array m e))(hs:zx P e=some es)
  (ha:VR kf fm (.ptr b o) a) (hb:VR kf fm i c) (hn:zu i=some n) (hlt:n<m):Ok1 kf kt w0 fm w P (Instr.indexAt t a c) (.ptr b (o+n*es)) S:=by
 simp only[VR] at ha;obtain⟨p,hp,rfl⟩:=ha;obtain⟨k,rfl⟩:=zq hn hb;refine Ok1.mk h (u:=.pointer (some (p.1.add (o+n*es)))) ?_ (by simp only[VR];exact⟨p,hp,rfl⟩);simp[Instr.indexAt,asIntOf,run_underlying ht,Instr.sureAddr,hlt,zn hs,zaS]
theorem zby{x:AV}{a:Value}(ha:VR kf fm x a)(hx:(∃b o,x = .ptr b o)\/(∃k cs,x = .fn k cs)\/∃l,x = .yld l)(ρ:Operand->Value)(ox:Operand)(hρ:ρ ox=a)
  (dst:Option Tmp) (ty:TypeId) (pos:String) (after:Array Edge) (guard:Option (Nat × Bool)) :
  (execOp ρ { dst,op:=.nilCheck ox,type:=ty,pos,after,guard }).run P w = .ok (.value a) w:=by
 subst hρ;rcases hx with⟨b,o,rfl⟩|⟨k,cs,rfl⟩|⟨l,rfl⟩<;>simp only[VR] at ha
 ·obtain⟨p,_,hv⟩:=ha;simp[execOp,hv]
 ·obtain⟨f,ws,hv,_⟩:=ha;simp[execOp,hv]
 ·obtain⟨p,_,hv⟩:=ha;simp[execOp,hv]
theorem ok_lenS{ts:Array TypeId}{t ty:TypeId}{s:List UInt8}{a:Value}(h:R kf kt w0 fm S w)(h0:ts[0]?=some t)(ht:P.underlying t=some .string)(ha:VR kf fm (.str s) a) :
  Ok1 kf kt w0 fm w P (Builtin.len_ ts ty #[a]) (.int .i64 s.length) S:=by
 simp only[VR] at ha;obtain⟨bs,rfl,rfl⟩:=ha;refine Ok1.int h ?_;simp[Builtin.len_,h0,run_underlying ht,goInt]
theorem ok_lenL{ts:Array TypeId}{t ty e:TypeId}{b o len cap:Nat}{g:Option Nat}{a:Value}(h:R kf kt w0 fm S w)(h0:ts[0]?=some t)(ht:P.underlying t=some (.slice e))(ha:VR kf fm (.sl b o len cap g) a) :
  Ok1 kf kt w0 fm w P (Builtin.len_ ts ty #[a]) (.int .i64 len) S:=by
 simp only[VR] at ha;obtain⟨p,rc,ra,hp,rfl,_⟩:=ha;refine Ok1.int h ?_;simp[Builtin.len_,h0,run_underlying ht,goInt]
theorem zgN{ts:Array TypeId}{t ty e:TypeId}{a:Value}(h:R kf kt w0 fm S w)(h0:ts[0]?=some t)(ht:P.underlying t=some (.slice e))(ha:VR kf fm .nils a) :
  Ok1 kf kt w0 fm w P (Builtin.len_ ts ty #[a]) (.int .i64 0) S:=by
 simp only[VR] at ha;subst ha;refine Ok1.int h ?_;simp[Builtin.len_,h0,run_underlying ht,goInt]
theorem ok_lenC{ts:Array TypeId}{t ty e:TypeId}{n:Nat}{a:Value}(h:R kf kt w0 fm S w)(h0:ts[0]?=some t)(ht:P.underlying t=some (.array n e)) :
  Ok1 kf kt w0 fm w P (Builtin.len_ ts ty #[a]) (.int .i64 n) S:=by
 refine Ok1.int h ?_;simp[Builtin.len_,h0,run_underlying ht,goInt]
theorem ok_capL{ts:Array TypeId}{t ty e:TypeId}{b o len cap:Nat}{a:Value}(h:R kf kt w0 fm S w)(h0:ts[0]?=some t)(ht:P.underlying t=some (.slice e))(ha:VR kf fm (.sl b o len cap none) a) :
  Ok1 kf kt w0 fm w P (Builtin.cap_ ts ty #[a]) (.int .i64 cap) S:=by
 simp only[VR] at ha;obtain⟨p,rc,ra,hp,rfl,_,_,_,_,h5,_⟩:=ha;refine Ok1.int h ?_;simp[Builtin.cap_,h0,run_underlying ht,goInt,h5 trivial]
theorem zgP{ts:Array TypeId}{t ty e:TypeId}{a:Value}(h:R kf kt w0 fm S w)(h0:ts[0]?=some t)(ht:P.underlying t=some (.slice e))(ha:VR kf fm .nils a) :
  Ok1 kf kt w0 fm w P (Builtin.cap_ ts ty #[a]) (.int .i64 0) S:=by
 simp only[VR] at ha;subst ha;refine Ok1.int h ?_;simp[Builtin.cap_,h0,run_underlying ht,goInt]
theorem ok_minI{ts:Array TypeId}{ty:TypeId}{k:IntKind}{x y:Int}{a b:Value}(h:R kf kt w0 fm S w)(ha:VR kf fm (.int k x) a)(hb:VR kf fm (.int k y) b) :
  Ok1 kf kt w0 fm w P (Builtin.min_ ts ty #[a,b]) (.int k (if y<x then y else x)) S:=by
 simp only[VR] at ha hb;subst ha;subst hb;exact Ok1.int h (by simp[Builtin.min_,Builtin.min2])
theorem ok_maxI{ts:Array TypeId}{ty:TypeId}{k:IntKind}{x y:Int}{a b:Value}(h:R kf kt w0 fm S w)(ha:VR kf fm (.int k x) a)(hb:VR kf fm (.int k y) b) :
  Ok1 kf kt w0 fm w P (Builtin.max_ ts ty #[a,b]) (.int k (if y>x then y else x)) S:=by
 simp only[VR] at ha hb;subst ha;subst hb;exact Ok1.int h (by simp[Builtin.max_,Builtin.max2])
end
end Am
end
section
namespace Am
open Go Go.RowKit
section
variable {kf kt:Nat->Nat} {w0:Base} {fm:FM} {S:St} {w:World} {P:Program}
theorem zS(k:IntKind)(n y:Nat)(code:BoundsCode)(h:n<=y):(Instr.sliceBound (.int k n) y code).run P w = .ok n w:=by
 simp[Instr.sliceBound,asIntOf,h]
theorem za3{lo hi mx:Bool}{as:List AV}{len cap l h m:Nat}(hb:zZ lo hi mx as len cap=some (l,h,m)){vlo vhi vmx:Option Value}
  (hv:VRs kf fm as (vlo.toList++vhi.toList++vmx.toList)) (hlo:vlo.isSome=lo) (hhi:vhi.isSome=hi) (hmx:vmx.isSome=mx) (isS:Bool) {rc:Nat} (hrc:cap<=rc) (hlen:len<=cap) :
  (Instr.sliceBounds isS len rc vlo vhi vmx).run P w = .ok (l,h,if mx then m else rc) w/\l<=h/\h<=m/\m<=cap/\(mx=false->m=cap):=by
 unfold zZ at hb;split at hb
 ·-- none
  cases hb;cases vlo<;>simp at hlo
  cases vhi<;>simp at hhi
  cases vmx<;>simp at hmx
  exact⟨by simp[Instr.sliceBounds],by omega,hlen,Nat.le_refl _,λ_=>rfl⟩
 ·rename_i x;cases vlo with
  | none=>simp at hlo
  | some vl=>
   cases vhi<;>simp at hhi
   cases vmx<;>simp at hmx
   simp[VRs] at hv;cases hn:zu x with
   | none=>simp[hn] at hb
   | some n=>
    simp only[hn,Option.bind_some] at hb;split at hb
    ·cases hb;obtain⟨k,rfl⟩:=zq hn hv;exact⟨by simp[Instr.sliceBounds,zS, *],by omega,hlen,Nat.le_refl _,λ_=>rfl⟩
    ·cases hb
 ·rename_i x;cases vhi with
  | none=>simp at hhi
  | some vh=>
   cases vlo<;>simp at hlo
   cases vmx<;>simp at hmx
   simp[VRs] at hv;cases hn:zu x with
   | none=>simp[hn] at hb
   | some n=>
    simp only[hn,Option.bind_some] at hb;split at hb
    ·rename_i hle;cases hb;obtain⟨k,rfl⟩:=zq hn hv;have:h<=rc:=by omega
     exact⟨by simp[Instr.sliceBounds,zS, *],by omega,hle,Nat.le_refl _,λ_=>rfl⟩
    ·cases hb
 ·rename_i x y;cases vhi with
  | none=>simp at hhi
  | some vh=>
   cases vlo with
   | none=>simp at hlo
   | some vl=>
    cases vmx<;>simp at hmx
    simp only[VRs,Option.toList,List.append_nil,List.nil_append,List.cons_append] at hv;obtain⟨_,_,he1,hv1,_,_,he2,hv2,_⟩:=hv;cases he1;cases he2;cases hn:zu x with
    | none=>simp[hn] at hb
    | some n=>
     cases hn2:zu y with
     | none=>simp[hn,hn2] at hb
     | some n2=>
      simp only[hn,hn2,Option.bind_some] at hb;split at hb
      ·rename_i hle;cases hb;obtain⟨k,rfl⟩:=zq hn hv1;obtain⟨k2,rfl⟩:=zq hn2 hv2;have:h<=rc:=by omega
       have h2:=hle.1;exact⟨by simp[Instr.sliceBounds,zS, *],hle.1,hle.2,Nat.le_refl _,λ_=>rfl⟩
      ·cases hb
 ·rename_i x y;cases vhi with
  | none=>simp at hhi
  | some vh=>
   cases vmx with
   | none=>simp at hmx
   | some vm=>
    cases vlo<;>simp at hlo
    simp only[VRs,Option.toList,List.nil_append,List.cons_append] at hv;obtain⟨_,_,he1,hv1,_,_,he2,hv2,_⟩:=hv;cases he1;cases he2;cases hn:zu x with
    | none=>simp[hn] at hb
    | some n=>
     cases hn2:zu y with
     | none=>simp[hn,hn2] at hb
     | some n2=>
      simp only[hn,hn2,Option.bind_some] at hb;split at hb
      ·rename_i hle;cases hb;obtain⟨k,rfl⟩:=zq hn hv1;obtain⟨k2,rfl⟩:=zq hn2 hv2;have:m<=rc:=by omega
       have h2:=hle.1;exact⟨by simp[Instr.sliceBounds,zS, *],by omega,hle.1,hle.2,λhh=>by cases hh⟩
      ·cases hb
 ·rename_i x y z;cases vhi with
  | none=>simp at hhi
  | some vh=>
   cases vmx with
   | none=>simp at hmx
   | some vm=>
    cases vlo with
    | none=>simp at hlo
    | some vl=>
     simp only[VRs,Option.toList,List.nil_append,List.cons_append] at hv;obtain⟨_,_,he1,hv1,_,_,he2,hv2,_,_,he3,hv3,_⟩:=hv;cases he1;cases he2;cases he3;cases hn:zu x with
     | none=>simp[hn] at hb
     | some n=>
      cases hn2:zu y with
      | none=>simp[hn,hn2] at hb
      | some n2=>
       cases hn3:zu z with
       | none=>simp[hn,hn2,hn3] at hb
       | some n3=>
        simp only[hn,hn2,hn3,Option.bind_some] at hb;split at hb
        ·rename_i hle;cases hb;obtain⟨k,rfl⟩:=zq hn hv1;obtain⟨k2,rfl⟩:=zq hn2 hv2;obtain⟨k3,rfl⟩:=zq hn3 hv3;have:m<=rc:=by omega
         have h2:=hle.1;have h3:=hle.2.1;exact⟨by simp[Instr.sliceBounds,zS, *],hle.1,hle.2.1,hle.2.2,λhh=>by cases hh⟩
        ·cases hb
 ·cases hb
theorem ok_slS{t:TypeId}{lo hi:Bool}{s:List UInt8}{as:List AV}{l h m:Nat}{a:Value}{vlo vhi:Option Value}(hR:R kf kt w0 fm S w)(ht:P.underlying t=some .string)
  (ha:VR kf fm (.str s) a) (hb:zZ lo hi false as s.length s.length=some (l,h,m)) (hv:VRs kf fm as (vlo.toList++vhi.toList)) (hlo:vlo.isSome=lo) (hhi:vhi.isSome=hi) :
  Ok1 kf kt w0 fm w P (Instr.sliceAt t a vlo vhi none) (.str ((s.take h).drop l)) S:=by
 simp only[VR] at ha;obtain⟨bs,rfl,rfl⟩:=ha;have hsz:bs.data.toList.length=bs.size:=by rw[Array.length_toList];rfl
 rw[hsz] at hb;obtain⟨h1,h2,h3,h4,_⟩:=za3 (P:=P) (w:=w) hb (vmx:=none) (by simpa using hv) hlo hhi rfl false (Nat.le_refl _) (Nat.le_refl _);refine Ok1.str hR (bs:=bs.extract l h) ?_ ?_
 ·simp only[Instr.sliceAt,Sem.run_bind,run_underlying ht,Result.andThen_ok,Instr.slice];simp[h1]
 ·rw[ByteArray.data_extract,Array.toList_extract,List.extract_eq_take_drop];rw[List.drop_take]
theorem ok_slL{t e:TypeId}{es:Nat}{lo hi mx:Bool}{b o len cap:Nat}{g:Option Nat}{as:List AV}{l h m:Nat}{a:Value}{vlo vhi vmx:Option Value}(hR:R kf kt w0 fm S w)
  (ht:P.underlying t=some (.slice e)) (hs:zx P e=some es)
  (ha:VR kf fm (.sl b o len cap g) a) (hb:zZ lo hi mx as len cap=some (l,h,m)) (hv:VRs kf fm as (vlo.toList++vhi.toList++vmx.toList)) (hlo:vlo.isSome=lo) (hhi:vhi.isSome=hi) (hmx:vmx.isSome=mx)
  (hg:g=none\/g=some es) :
  Ok1 kf kt w0 fm w P (Instr.sliceAt t a vlo vhi vmx) (.sl b (o+l*es) (h-l) (m-l) (if mx then none else g)) S:=by
 simp only[VR] at ha;obtain⟨p,rc,ra,hp,rfl,g1,g2,g3,g4,g5,g6⟩:=ha;obtain⟨h1,h2,h3,h4,h5⟩:=za3 (P:=P) (w:=w) hb hv hlo hhi hmx true g2 g3;refine Ok1.mk hR (u:=.slice (if (if mx then m else rc)=l then some ra else (some ra).map (·.add (l*es))) (h-l) ((if mx then m else rc)-l)) ?_ ?_
 ·simp only[Instr.sliceAt,Sem.run_bind,run_underlying ht,Result.andThen_ok,Instr.slice];simp[h1,zn hs]
 ·simp only[VR];refine⟨p,(if mx then m else rc)-l,if (if mx then m else rc)=l then ra else ra.add (l*es),hp,?_,?_,?_,by omega,?_,?_,?_⟩
  ·generalize (if mx then m else rc)=q;by_cases hq:q=l<;>simp[hq]
  ·cases mx<;>simp<;>omega
  ·cases mx<;>simp<;>omega
  ·by_cases he:(if mx then m else rc)=l
   ·right;omega
   ·left;rw[if_neg he];rcases g4 with rfl|h0
    ·rw[zaS]
    ·exfalso;apply he;cases mx<;>simp<;>omega
  ·intro hn;cases mx
   ·simp at hn;have:=g5 hn;have:=h5 rfl;simp;omega
   ·simp
  ·intro es' he;cases mx
   ·simp at he;have h6:=g6 es' he;have:es'=es:=by rcases hg with hg|hg<;>rw[hg] at he<;>cases he;rfl
    subst this;simp;rw[Nat.sub_mul];have:l*es'<=rc*es':=Nat.mul_le_mul_right _ (by omega)
    omega
   ·simp at he
theorem ok_slNil{t e:TypeId}{es:Nat}{lo hi mx:Bool}{as:List AV}{l h m:Nat}{a:Value}{vlo vhi vmx:Option Value}(hR:R kf kt w0 fm S w)
  (ht:P.underlying t=some (.slice e)) (hs:zx P e=some es)
  (ha:VR kf fm .nils a) (hb:zZ lo hi mx as 0 0=some (l,h,m)) (hv:VRs kf fm as (vlo.toList++vhi.toList++vmx.toList)) (hlo:vlo.isSome=lo) (hhi:vhi.isSome=hi) (hmx:vmx.isSome=mx) :
  Ok1 kf kt w0 fm w P (Instr.sliceAt t a vlo vhi vmx) .nils S:=by
 simp only[VR] at ha;subst ha;obtain⟨h1,h2,h3,h4,h5⟩:=za3 (P:=P) (w:=w) hb hv hlo hhi hmx true (Nat.le_refl _) (Nat.le_refl _);obtain rfl:m=0:=by omega
 obtain rfl:h=0:=by omega
 obtain rfl:l=0:=by omega
 refine Ok1.mk hR (u:=.slice none 0 0) ?_ (by simp[VR]);simp only[Instr.sliceAt,Sem.run_bind,run_underlying ht,Result.andThen_ok,Instr.slice];simp[h1,zn hs]
theorem zdB{b o l h m es:Nat}{p:Addr × Nat}(hp:fm[b]?=some p)(h2:l<=h)(h3:h<=m) :
  VR kf fm (.sl b (o+l*es) (h-l) (m-l) none) (.slice (some (if m=l then p.1.add o else (p.1.add o).add (l*es))) (h-l) (m-l)):=by
 simp only[VR];refine⟨p,_,_,hp,rfl,by omega,Nat.le_refl _,by omega,?_,λ_=>rfl,λes' he=>by cases he⟩
 by_cases he:m=l
 ·right;omega
 ·left;rw[if_neg he,zaS]
theorem ok_slA{t e:TypeId}{n es:Nat}{lo hi mx:Bool}{b o:Nat}{as:List AV}{l h m:Nat}{a:Value}{vlo vhi vmx:Option Value}(hR:R kf kt w0 fm S w)
  (ht:P.underlying t=some (.array n e)) (hs:zx P e=some es)
  (ha:VR kf fm (.ptr b o) a) (hb:zZ lo hi mx as n n=some (l,h,m)) (hv:VRs kf fm as (vlo.toList++vhi.toList++vmx.toList)) (hlo:vlo.isSome=lo) (hhi:vhi.isSome=hi) (hmx:vmx.isSome=mx) :
  Ok1 kf kt w0 fm w P (Instr.sliceAt t a vlo vhi vmx) (.sl b (o+l*es) (h-l) (m-l) none) S:=by
 simp only[VR] at ha;obtain⟨p,hp,rfl⟩:=ha;obtain⟨h1,h2,h3,h4,h5⟩:=za3 (P:=P) (w:=w) hb hv hlo hhi hmx false (Nat.le_refl _) (Nat.le_refl _);have hm:(if mx then m else n)=m:=by cases mx<;>simp_all
 rw[hm] at h1;refine Ok1.mk hR ?_ (zdB hp h2 h3);simp only[Instr.sliceAt,Sem.run_bind,run_underlying ht,Result.andThen_ok,Instr.sureAddr,Sem.run_pure,h1,zn hs]
theorem ok_slP{t t' e:TypeId}{n es:Nat}{lo hi mx:Bool}{b o:Nat}{as:List AV}{l h m:Nat}{a:Value}{vlo vhi vmx:Option Value}(hR:R kf kt w0 fm S w)
  (ht:P.underlying t=some (.pointer t')) (ht':P.underlying t'=some (.array n e)) (hs:zx P e=some es)
  (ha:VR kf fm (.ptr b o) a) (hb:zZ lo hi mx as n n=some (l,h,m)) (hv:VRs kf fm as (vlo.toList++vhi.toList++vmx.toList)) (hlo:vlo.isSome=lo) (hhi:vhi.isSome=hi) (hmx:vmx.isSome=mx) :
  Ok1 kf kt w0 fm w P (Instr.sliceAt t a vlo vhi vmx) (.sl b (o+l*es) (h-l) (m-l) none) S:=by
 simp only[VR] at ha;obtain⟨p,hp,rfl⟩:=ha;obtain⟨h1,h2,h3,h4,h5⟩:=za3 (P:=P) (w:=w) hb hv hlo hhi hmx false (Nat.le_refl _) (Nat.le_refl _);have hm:(if mx then m else n)=m:=by cases mx<;>simp_all
 rw[hm] at h1;refine Ok1.mk hR ?_ (zdB hp h2 h3);simp only[Instr.sliceAt,Instr.slice,Sem.run_bind,run_underlying ht,run_underlying ht',Result.andThen_ok,asAddr,Sem.run_pure,h1,zn hs]
end
end Am
end
section
namespace Am
open Go Go.RowKit
section
variable {kf kt:Nat->Nat} {w0:Base} {fm:FM} {S:St} {w:World} {P:Program}
theorem zas{n:Int}(h1:-9223372036854775808<=n)(h2:n<9223372036854775808):IntKind.i64.wrap n=n:=by
 unfold IntKind.wrap;simp only[show IntKind.i64.signed=true from rfl,show IntKind.i64.bits=64 from rfl,Bool.true_and]
 by_cases h:n%2 ^ 64>=2 ^ (64-1)
 ·rw[if_pos (by simpa using h)];omega
 ·rw[if_neg (by simpa using h)];omega
theorem zeN{α:Type}(xs:Array α)(x:α)(f:α->α):(xs.push x).modify xs.size f=xs.push (f x):=by
 apply Array.ext_getElem?;intro i;rw[Array.getElem?_modify,Array.getElem?_push,Array.getElem?_push]
 by_cases h:i=xs.size
 ·subst h;simp
 ·simp[h,Ne.symm h]
theorem VRs.bytes:∀{cs:List AV} {vs:List Value} {s:List UInt8},VRs kf fm cs vs->zah cs=some s->∃ns:List Int,vs=ns.map (Value.int .u8)/\s=ns.map λn=>UInt8.ofNat n.toNat
 | [],vs,s,h,hb=>by simp[VRs] at h;simp[zah] at hb;subst h;subst hb;exact⟨[],rfl,rfl⟩
 | c::cs,vs,s,h,hb=>by
  simp only[VRs] at h;obtain⟨u,us,rfl,h1,h2⟩:=h;cases c with
  | int k n=>
   cases k<;>simp only[zah] at hb<;>(try (cases hb;done))
   cases hr:zah cs with
   | none=>simp[hr] at hb
   | some s'=>
    simp[hr] at hb;subst hb;obtain⟨ns,h3,h4⟩:=VRs.bytes h2 hr;simp only[VR] at h1;subst h1;subst h3;subst h4;exact⟨n::ns,rfl,rfl⟩
  | _=>simp[zah] at hb
theorem zcG:∀(ns:List Int) (s:ByteArray),(ns.foldl (λr n=>r.push (UInt8.ofNat n.toNat)) s).data.toList=s.data.toList++ns.map λn=>UInt8.ofNat n.toNat
 | [],s=>by simp
 | n::ns,s=>by simp only[List.foldl_cons,zcG ns,List.map_cons];simp
theorem zcN{src dst e:TypeId}{a:Value}{x:AV}(hs:P.underlying src=some (.slice e))(he:P.underlying e=some (.int .u8))(hd:P.underlying dst=some .string)
  (ha:VR kf fm x a) (hx:x = .nils\/∃b o len cap g,x = .sl b o len cap g):(convert src dst a).run P w=(Conv.bytesToString a).run P w:=by
 rcases hx with rfl|⟨b,o,len,cap,g,rfl⟩<;>simp only[VR] at ha
 ·subst ha;exact run_convert_bytes_string w src dst e _ _ _ hs he hd
 ·obtain⟨p,rc,ra,_,rfl,_⟩:=ha;exact run_convert_bytes_string w src dst e _ _ _ hs he hd
theorem zbH(a:Addr):(loadCells a 0).run P w = .ok #[] w:=by simp[loadCells,loadCellsFrom]
theorem R.slice(h:R kf kt w0 fm S w){b o len cap n:Nat}{g:Option Nat}{us:List AV}{a:Value}(ha:VR kf fm (.sl b o len cap g) a)(hl:S.loadN b o n=some us)(hn:0<n->0<len) :
  ∃ra rc,a = .slice (some ra) len rc/\∃vs:List Value,(loadCells ra n).run P w = .ok vs.toArray w/\VRs kf fm us vs/\(∀u ∈ us,u.sc=true):=by
 simp only[VR] at ha;obtain⟨p,rc,ra,hp,rfl,g1,g2,g3,g4,g5,g6⟩:=ha;refine⟨ra,rc,rfl,?_⟩;rcases g4 with rfl|h0
 ·exact h.loadN hl hp
 ·have hlen:us.length=n:=(zaW hl).1;have:n=0:=by
   rcases Nat.eq_zero_or_pos n with h|h
   ·exact h
   ·have:=hn h;omega
  subst this;have:us=[]:=List.length_eq_zero_iff.1 hlen
  subst this;exact⟨[],zbH ra,by simp[VRs],by simp⟩
theorem ok_b2s{src dst e:TypeId}{b o len cap:Nat}{g:Option Nat}{cs:List AV}{s:List UInt8}{a:Value}(h:R kf kt w0 fm S w)(hs:P.underlying src=some (.slice e))
  (he:P.underlying e=some (.int .u8)) (hd:P.underlying dst=some .string) (ha:VR kf fm (.sl b o len cap g) a) (hl:S.loadN b o len=some cs) (hb:zah cs=some s) :
  Ok1 kf kt w0 fm w P (convert src dst a) (.str s) S:=by
 have hc:=zcN (w:=w) hs he hd ha (.inr ⟨_,_,_,_,_,rfl⟩);obtain⟨ra,rc,rfl,vs,hr,hv,_⟩:=h.slice (P:=P) ha hl (λh=>h);obtain⟨ns,rfl,rfl⟩:=hv.bytes hb;refine Ok1.str h (bs:=ns.foldl (λr n=>r.push (UInt8.ofNat n.toNat)) ByteArray.empty) ?_ (by rw[zcG];simp);rw[hc];exact run_bytesToString w ra len rc ns hr
theorem zgT{src dst e:TypeId}{a:Value}(h:R kf kt w0 fm S w)(hs:P.underlying src=some (.slice e))
  (he:P.underlying e=some (.int .u8)) (hd:P.underlying dst=some .string) (ha:VR kf fm .nils a):Ok1 kf kt w0 fm w P (convert src dst a) (.str []) S:=by
 have hc:=zcN (w:=w) hs he hd ha (.inl rfl);simp only[VR] at ha;subst ha;exact Ok1.str h (bs:=.empty) (by rw[hc];simp[Conv.bytesToString]) (by rfl)
theorem zcB(bs:ByteArray):VRs kf fm (zK bs.data.toList) (bs.data.map λb=>Value.int .u8 b.toNat).toList/\∀u ∈ zK bs.data.toList,u.sc=true:=by
 constructor
 ·refine VRs.of_get (by simp[zK]) λi c hc=>?_
  simp only[zK,List.getElem?_map] at hc;cases hb:bs.data.toList[i]? with
  | none=>simp[hb] at hc
  | some x=>simp[hb] at hc;subst hc;refine⟨.int .u8 x.toNat,?_,by simp[VR]⟩;simp only[Array.toList_map,List.getElem?_map,hb];rfl
 ·intro u hu;simp[zK] at hu;obtain⟨x,_,rfl⟩:=hu;rfl
theorem ok_s2b{src dst e:TypeId}{s:List UInt8}{a:Value}(h:R kf kt w0 fm S w)(hs:P.underlying src=some .string)(hd:P.underlying dst=some (.slice e))
  (he:P.underlying e=some (.int .u8)) (ha:VR kf fm (.str s) a) :
  Ok1 kf kt w0 fm w P (convert src dst a) (.sl S.length 0 s.length s.length (some 1)) (S++[.own (kt e) (zK s)]):=by
 simp only[VR] at ha;obtain⟨bs,rfl,rfl⟩:=ha;obtain⟨h1,h2⟩:=zcB (kf:=kf) (fm:=fm) bs;have hsz:bs.data.toList.length=bs.size:=by rw[Array.length_toList];rfl
 generalize hq:(Question.appendCap bs.size 0 e).cut (w.tape w.drawn (.appendCap bs.size 0 e))=cap;have hcap:bs.size<=cap:=by rw[<- hq];simp[Question.cut]
 generalize hc:(bs.data.map λb=>Value.int .u8 b.toNat)++Array.replicate (cap-bs.size) (.int .u8 0)=c;have hcs:c.size=cap:=by rw[<- hc];simp;have:bs.data.size=bs.size:=rfl;omega
 let w1:World:={ w with drawn:=w.drawn+1 }
 have hR1:R kf kt w0 fm S w1:=h.drawn _;refine⟨[(⟨w.heap.size,0,none⟩,cap)],.slice (some ⟨w.heap.size,0,none⟩) bs.size cap,{ w1 with heap:=w1.heap.push (.cells c e (cap,cap+1)) },?_,?_,?_⟩
 ·simp only[convert,Sem.run_bind,run_underlying hs,run_underlying hd,Result.andThen_ok,run_underlying he];simp only[Conv.stringToBytes,Sem.run_bind,run_choose,Question.forced,Bool.false_eq_true,if_false,hq,Result.andThen_ok,hc];have hfz:({ w1 with heap:=w1.heap.push (.cells c e) }:World).freeze ⟨w.heap.size,cap,none⟩ 1={ w1 with heap:=w1.heap.push (.cells c e (cap,cap+1)) }:=by
   simp only[World.freeze,w1];rw[if_neg (by omega),zeN];rfl
  simp only[newRow,Sem.run_bind,run_newObj,Result.andThen_ok,Sem.run_pure,markStringish,run_shape,World.shape?,Array.getElem?_push_size,run_freeze,hcs];exact congrArg (Result.ok _) hfz
 ·rw[hsz.symm] at hcap;refine hR1.push rfl (λi hi=>by simp;omega) (by omega) (by simp[zK];simpa using hcap) λi u hu=>?_
  obtain⟨v,hv,hr⟩:=h1.get hu;refine⟨h2 u (List.mem_of_getElem? hu),v,?_,hr⟩;rw[<- hc,Array.getElem?_append_left]
  ·simpa using hv
  ·have:=(List.getElem?_eq_some_iff.1 hv).1;simpa using this
 ·simp only[VR];exact⟨_,cap,_,zca h _,by rw[hsz],by omega,by omega,Nat.le_refl _,.inl (by rw[zC]),(λhh=>by cases hh),λes he=>by cases he;simp⟩
theorem zf7{t e:TypeId}{i:TypeInfo}{z:List AV}{l c:AV}{nl nc:Nat}{a b:Value}(h:R kf kt w0 fm S w)(ht:P.underlying t=some (.slice e))(hi:P.info? e=some i)(hz:zaH P kf e=some z)
  (ha:VR kf fm l a) (hb:VR kf fm c b) (hl:zu l=some nl) (hc:zu c=some nc) (hle:nl<=nc) (hroom:nc<room) (hbytes:i.bytes<=1024) :
  Ok1 kf kt w0 fm w P (Instr.makeSlice t a b) (.sl S.length 0 nl nc none) (S++[.own (kt e) (rep nc z)]):=by
 obtain⟨k1,rfl⟩:=zq hl ha;obtain⟨k2,rfl⟩:=zq hc hb;obtain⟨i',zv,hi',hz1,hm,hlen⟩:=zY hz;rw[hi] at hi';cases hi';obtain⟨h1,h2⟩:=zau (fm:=fm) hm;have hl1:=h1.length;have hzs:zv.cells.size=z.length:=by simpa using hl1
 have hrr:=zeu (n:=nc) h1;obtain⟨w',hr,h'⟩:=zbO (P:=P) (elem:=e) (c:=(Array.range (nc*zv.cells.size)).map λi=>zv.cells[i%zv.cells.size]!) (cs:=rep nc z) (lim:=(rep nc z).length) h rfl
  (by simp[zbs,hzs]) (Nat.le_refl _) (VRs.cellsOf hrr (zgo h2))
 have hrm:nc<68719476736:=hroom;have hw1:IntKind.i64.wrap nl=nl:=zas (by omega) (by omega);have hw2:IntKind.i64.wrap nc=nc:=zas (by omega) (by omega);refine⟨_,.slice (some ⟨w.heap.size,0,none⟩) nl nc,w',?_,h',?_⟩
 ·have hbig:decide ((i.bytes:Int)*(nc:Int)>2 ^ 48)=false:=by
   have h3:i.bytes*nc<=1024*68719476736:=Nat.mul_le_mul hbytes (by omega);have h4:((i.bytes*nc:Nat):Int)<=((1024*68719476736:Nat):Int):=Int.ofNat_le.2 h3;rw[Int.natCast_mul] at h4;have h5:((1024*68719476736:Nat):Int)=2 ^ 46:=by rfl
   rw[h5] at h4;have h6:(2:Int) ^ 46<=2 ^ 48:=by decide
   simp only[decide_eq_false_iff_not];exact λhc=>absurd (Int.lt_of_lt_of_le hc h4) (Int.not_lt.2 h6)
  have hneg:decide ((nc:Int)<0)=false:=by simp
  have hneg1:decide ((nl:Int)<0)=false:=by simp
  have hgt:decide ((nl:Int)>(nc:Int))=false:=by simp;omega
  have hsz:(Go.sizeOf e).run P w = .ok z.length w:=by rw[za6 hi,hlen]
  simp only[Instr.makeSlice,Sem.run_bind,run_underlying ht,Result.andThen_ok,asInt,asIntOf,Sem.run_pure,zak hi,hw1,hw2,hbig,hneg,hneg1,hgt,Bool.or_self,Bool.false_or,Bool.false_eq_true,if_false,run_askRoom,hsz,Int.toNat_natCast]
  by_cases h0:nc*z.length=0
  ·rw[if_pos h0];have e0:∀f:Nat->Value,Array.map f (Array.range 0)=#[]:=λf=>by rw[show Array.range 0=#[] from by simp[Array.range]];simp
   rw[hzs,h0,e0] at hr;simp only[Sem.run_bind,Sem.run_pure,Result.andThen_ok,h0,e0,hr]
  ·rw[if_neg h0];rw[hzs] at hr;simp only[Sem.run_bind,Sem.run_pure,Result.andThen_ok,zat hi hz1,hzs,hr]
 ·simp only[VR];exact⟨_,nc,_,zca h _,rfl,hle,Nat.le_refl _,hle,.inl (by rw[zC]),λ_=>rfl,λes he=>by cases he⟩
end
end Am
end
section
namespace Am
open Go Go.RowKit
section
variable {kf kt:Nat->Nat} {w0:Base} {fm:FM} {S:St} {w:World} {P:Program}
theorem R.loose(h:R kf kt w0 fm S w){r:Nat}{w':World}(hlo:¬ w0.K r)(hfree:∀(b:Nat) (k:Blk) (p:Addr × Nat),S[b]?=some k->fm[b]?=some p->k.excl=true->p.1.block≠r)
  (hw:∀r',r'≠r->w'.heap[r']?=w.heap[r']?) (hsz:w'.heap.size=w.heap.size) (ho:w'.os=w.os) (ht:w'.tape=w.tape) (hu:w'.output=w.output):R kf kt w0 fm S w' where
 len:=h.len
 below:=h.below.trans ⟨ho,ht,hu,by omega,λk hk=>hw k λe=>hlo (e ▸ hk)⟩
 blk:=λb k p hb hp=>by
  have hk:=h.blk b k p hb hp;cases k with
  | dead=>trivial
  | ro cs=>
   have:=BR.kept (ext:=[]) (w':=w') (hw p.1.block λe=>hlo (e ▸ w0.sub _ hk.1)) hk
   simpa using this
  | own tag cs=>
   have:=BR.kept (ext:=[]) (w':=w') (hw p.1.block (hfree b _ p hb hp rfl)) hk
   simpa using this
  | map es c=>
   have:=BR.kept (ext:=[]) (w':=w') (hw p.1.block (hfree b _ p hb hp rfl)) hk
   simpa using this
  | _=>exact hk
 low:=λb k p hb hp he=>by rw[hsz];exact h.low b k p hb hp he
 sep:=h.sep
theorem R.adopt(h:R kf kt w0 fm S w){q:Addr × Nat}{tag:Nat}{cs:List AV}(hlo:¬ w0.K q.1.block)(hhi:q.1.block<w.heap.size)
  (hfree:∀(b:Nat) (k:Blk) (p:Addr × Nat),S[b]?=some k->fm[b]?=some p->k.excl=true->p.1.block≠q.1.block)
  (hrow:RowAt kf kt (fm++[q]) w tag cs q):R kf kt w0 (fm++[q]) (S++[.own tag cs]) w:=by
 have split:∀{b:Nat} {k:Blk} {p:Addr × Nat},(S++[Blk.own tag cs])[b]?=some k->(fm++[q])[b]?=some p ->
   (S[b]?=some k/\fm[b]?=some p)\/(b=S.length/\k = .own tag cs/\p=q):=by
  intro b k p hb hp;rw[zo] at hb hp;rw[h.len] at hp
  by_cases hlt:b<S.length
  ·rw[if_pos hlt] at hb hp;exact .inl ⟨hb,hp⟩
  ·rw[if_neg hlt] at hb hp;split at hb
   ·rename_i he;rw[if_pos he] at hp;cases hb;cases hp;exact .inr ⟨he,rfl,rfl⟩
   ·cases hb
 refine⟨by simp[h.len],h.below,?_,?_,?_⟩
 ·intro b k p hb hp;rcases split hb hp with⟨hb,hp⟩|⟨rfl,rfl,rfl⟩
  ·exact BR.kept rfl (h.blk b k p hb hp)
  ·exact hrow
 ·intro b k p hb hp he;rcases split hb hp with⟨hb,hp⟩|⟨rfl,rfl,rfl⟩
  ·exact h.low b k p hb hp he
  ·exact⟨hlo,hhi⟩
 ·intro b b' k k' p p' hb hb' hp hp' he he' hne;rcases split hb hp with⟨hb1,hp1⟩|⟨rfl,rfl,rfl⟩<;>rcases split hb' hp' with⟨hb2,hp2⟩|⟨rfl,rfl,rfl⟩
  ·exact h.sep b b' k k' p p' hb1 hb2 hp1 hp2 he he' hne
  ·exact hfree b k p hb1 hp1 he
  ·exact (hfree b' k' p' hb2 hp2 he').symm
  ·exact absurd rfl hne
theorem zf9(n c:Nat)(h:c<n):Builtin.nextslicecap n c<=2*n+1024:=by
 unfold Builtin.nextslicecap;split
 ·omega
 ·split
  ·omega
  ·have key:∀(r x:Nat),x<=2*n+1024->Builtin.growBy n r x<=2*n+1024:=by
    intro r
    induction r with
    | zero=>intro x hx;exact hx
    | succ r ih=>
     intro x hx;unfold Builtin.growBy;split
     ·exact hx
     ·exact ih _ (by omega)
   exact key 4 c (by omega)
theorem zgm{need c b:Nat}(h:c<need)(hn:need<room)(hb:b<=1024):¬ Builtin.nextslicecap need c*b>2 ^ 48:=by
 have h1:=zf9 need c h;have h2:need<68719476736:=hn;have h3:Builtin.nextslicecap need c*b<=(2*68719476736+1024)*1024:=Nat.mul_le_mul (by omega) hb;have h4:(2*68719476736+1024)*1024<=2 ^ 48:=by decide
 omega
theorem zcT(z:Array Value)(n:Nat):(Builtin.zeroCells z n).size=n*z.size:=by simp[Builtin.zeroCells]
theorem zdh{e:TypeId}{i:TypeInfo}{zv:Value}{old new:List AV}{vo vn:List Value}{need cap:Nat}(h:R kf kt w0 fm S w)(hi:zv.cells.size=i.size)
  (ho:VRs kf fm old vo) (hn:VRs kf fm new vn) (hso:∀u ∈ old,u.sc=true) (hsn:∀u ∈ new,u.sc=true) (hlen:old.length+new.length=need*i.size) (hcap:need<=cap) :
  ∃w',(newRow e (vo.toArray++vn.toArray++Builtin.zeroCells zv.cells (cap-need))).run P w = .ok ⟨w.heap.size,0,none⟩ w' /\
   R kf kt w0 (fm++[(⟨w.heap.size,0,none⟩,cap*i.size)]) (S++[.own (kt e) (old++new)]) w' /\
   VR kf (fm++[(⟨w.heap.size,0,none⟩,cap*i.size)]) (.sl S.length 0 need need (some i.size)) (.slice (some ⟨w.heap.size,0,none⟩) need cap):=by
 have l1:=ho.length;have l2:=hn.length;have hmul:need*i.size+(cap-need)*i.size=cap*i.size:=by rw[<- Nat.add_mul];congr 1;omega
 have hall:=ho.append hn;obtain⟨w',hr,h'⟩:=zbO (P:=P) (elem:=e) (tag:=kt e) (c:=vo.toArray++vn.toArray++Builtin.zeroCells zv.cells (cap-need)) (cs:=old++new) (lim:=cap*i.size) h rfl
  (by simp[zcT,hi,l1,l2];omega)
  (by simp;rw[hlen];exact Nat.mul_le_mul_right _ hcap)
  (λj u hu=>by
   obtain⟨v,hv,hr⟩:=hall.get hu;refine⟨?_,v,?_,hr⟩
   ·have:=List.mem_of_getElem? hu
    rcases List.mem_append.1 this with hm|hm
    ·exact hso u hm
    ·exact hsn u hm
   ·rw[Array.getElem?_append_left (by have:=(List.getElem?_eq_some_iff.1 hv).1;simpa using this)];simpa using hv)
 refine⟨w',hr,h',?_⟩;simp only[VR];exact⟨_,cap,_,zca h _,rfl,hcap,hcap,Nat.le_refl _,.inl (by rw[zC]),(λhh=>by cases hh),λes he=>by cases he;simp⟩
theorem zeo{es n m:Nat}{x:AV}{a:Value}{us:List AV}(h:R kf kt w0 fm S w)(ha:VR kf fm x a)(hn:zaw x=some n)(hm:m<=n)(hs:zW S es m x=some us) :
  (Builtin.lenOf a).run P w = .ok n w/\us.length=m*es/\(∀u ∈ us,u.sc=true) /\
   ∃vs:List Value,VRs kf fm us vs/\(Builtin.firstCells es m a).run P w = .ok vs.toArray w:=by
 cases x<;>simp only[zW,zaw] at hs hn<;>(try (cases hs;done))<;>(try (cases hn;done))<;>cases hn
 case str s=>
  split at hs
  case isFalse=>cases hs
  rename_i hes;subst hes;cases hs;simp only[VR] at ha;obtain⟨bs,rfl,rfl⟩:=ha;have hsz:bs.data.toList.length=bs.size:=by rw[Array.length_toList];rfl
  obtain⟨h1,h2⟩:=zcB (kf:=kf) (fm:=fm) (bs.extract 0 m);have he:(bs.extract 0 m).data.toList=bs.data.toList.take m:=by
   rw[ByteArray.data_extract,Array.toList_extract,List.extract_eq_take_drop];simp
  rw[he] at h1 h2;refine⟨by simp[Builtin.lenOf,hsz],by rw[hsz] at hm;simp[zK];exact Nat.min_eq_left hm,h2,_,h1,?_⟩;simp only[Builtin.firstCells,Sem.run_pure,Array.toArray_toList]
 case sl b o cap g=>
  have hl:=(zaW hs).1;obtain⟨ra,rc,rfl,vs,hr,hv,hsc⟩:=h.slice (P:=P) ha hs (λh0=>by have:=Nat.pos_of_mul_pos_right h0;omega);exact⟨by simp[Builtin.lenOf],hl,hsc,vs,hv,by simpa [Builtin.firstCells] using hr⟩
 case nils=>
  cases hs;simp only[VR] at ha;subst ha;obtain rfl:m=0:=by omega
  exact⟨by simp[Builtin.lenOf],by simp,by simp,[],by simp[VRs],by simp[Builtin.firstCells]⟩
section run
variable {ts:Array TypeId} {t t1 e ty:TypeId} {d:TypeDesc} {i:TypeInfo} {zv vx:Value} {base:Option Addr} {sLen sCap n:Nat}
theorem app_in(h0:ts[0]?=some t)(h1:ts[1]?=some t1)(ht:P.underlying t=some (.slice e))(ht1:P.underlying t1=some d)(hd:∀k,d ≠ .int k)(hi:P.info? e=some i)
  (hn:(Builtin.lenOf vx).run P w = .ok n w) {vn:List Value} (hv:(Builtin.firstCells i.size n vx).run P w = .ok vn.toArray w) (hle:sLen+n<=sCap) {w':World}
  (hst:∀a,base=some a->(storeCells (a.add (sLen*i.size)) vn).run P w = .ok () w') (hnil:base=none->w'=w) :
  (Builtin.append_ ts ty #[.slice base sLen sCap,vx]).run P w = .ok (.slice base (sLen+n) sCap) w':=by
 unfold Builtin.append_;simp only[h0,h1,List.getElem?_toArray,List.getElem?_cons_zero,List.getElem?_cons_succ,Sem.run_bind,run_underlying ht,za6 hi,Result.andThen_ok,run_underlying ht1,Sem.run_pure];simp only[Bool.false_eq_true,if_false,Sem.run_bind,hn,Result.andThen_ok];rw[if_pos hle];simp only[Bool.not_false,if_true,Sem.run_bind,hv,Result.andThen_ok];cases base with
 | none=>obtain rfl:=hnil rfl;rfl
 | some a=>simp only[Sem.run_bind,hst a rfl,Result.andThen_ok,Sem.run_pure]
theorem app_out(h0:ts[0]?=some t)(h1:ts[1]?=some t1)(ht:P.underlying t=some (.slice e))(ht1:P.underlying t1=some d)(hd:∀k,d ≠ .int k)(hi:P.info? e=some i)(hzv:i.zero=some zv)
  (hn:(Builtin.lenOf vx).run P w = .ok n w) {vo vn:List Value} (hv:(Builtin.firstCells i.size n vx).run P { w with drawn:=w.drawn+1 } = .ok vn.toArray { w with drawn:=w.drawn+1 })
  (ho:(Builtin.firstCells i.size sLen (.slice base sLen sCap)).run P { w with drawn:=w.drawn+1 } = .ok vo.toArray { w with drawn:=w.drawn+1 })
  (hgt:sCap<sLen+n) (hb:i.bytes≠0) (hr2:¬ Builtin.nextslicecap (sLen+n) sCap*i.bytes>2 ^ 48) :
  ∃cap,sLen+n<=cap/\∀(w':World) (a:Addr),(newRow e (vo.toArray++vn.toArray++Builtin.zeroCells zv.cells (cap-(sLen+n)))).run P { w with drawn:=w.drawn+1 } = .ok a w' ->
   (Builtin.append_ ts ty #[.slice base sLen sCap,vx]).run P w = .ok (.slice (some a) (sLen+n) cap) w':=by
 refine⟨(Question.appendCap (sLen+n) sCap e).cut (w.tape w.drawn (.appendCap (sLen+n) sCap e)),by simp[Question.cut],λw' a hr=>?_⟩;have hnle:¬ sLen+n<=sCap:=by omega
 have hzero:=zat (P:=P) hi hzv { w with drawn:=w.drawn+1 };have hinfo:=zak (P:=P) hi { w with drawn:=w.drawn+1 };have hforced:(Question.appendCap (sLen+n) sCap e).forced=false:=rfl;unfold Builtin.append_;simp only[h0,h1,List.getElem?_toArray,List.getElem?_cons_zero,List.getElem?_cons_succ,Sem.run_bind,run_underlying ht,za6 hi,Result.andThen_ok,run_underlying ht1,Sem.run_pure];simp only[Bool.false_eq_true,if_false,Sem.run_bind,hn,Result.andThen_ok];rw[if_neg hnle];simp only[Sem.run_bind,zak hi,Result.andThen_ok,false_or,hb,and_false,if_false];rw[if_neg hr2];simp only[Sem.run_bind,run_choose,hforced,Bool.false_eq_true,if_false,Result.andThen_ok,hinfo,run_askRoom,ho,Bool.not_false,if_true,hv,hzero,hr,Sem.run_pure]
theorem zgU(z:Array Value)(hz:n*z.size=n*i.size)(hi:P.info? e=some i)(hzv:i.zero=some zv)(he:z=zv.cells)(w:World) :
  ((if n*i.size=0 then pure #[] else do pure (Builtin.zeroCells (← zeroValue e).cells n):Sem (Array Value)).run P w) = .ok (Builtin.zeroCells z n) w:=by
 subst he;split
 ·rename_i h0;rw[<- hz] at h0;have:Builtin.zeroCells zv.cells n=#[]:=by simp only[Builtin.zeroCells,h0];rw[show Array.range 0=#[] from by simp[Array.range]];simp
  rw[this];rfl
 ·simp[zat hi hzv]
theorem appz_in{k kk:IntKind}(h0:ts[0]?=some t)(h1:ts[1]?=some t1)(ht:P.underlying t=some (.slice e))(ht1:P.underlying t1=some (.int k))(hi:P.info? e=some i)(hzv:i.zero=some zv)(hzs:zv.cells.size=i.size)
  (hroom:n<room) (hbytes:i.bytes<=1024) (hle:sLen+n<=sCap) {w':World}
  (hst:∀a,base=some a->(storeCells (a.add (sLen*i.size)) (Builtin.zeroCells zv.cells n).toList).run P w = .ok () w') (hnil:base=none->w'=w) :
  (Builtin.append_ ts ty #[.slice base sLen sCap,.int kk n]).run P w = .ok (.slice base (sLen+n) sCap) w':=by
 have hrm:n<68719476736:=hroom;have hw:IntKind.i64.wrap n=n:=zas (by omega) (by omega);have hneg:¬ ((n:Int)<0):=by omega
 have hbig:¬ ((n:Int)*(i.bytes:Int)>2 ^ 48):=by
  have h3:n*i.bytes<=68719476736*1024:=Nat.mul_le_mul (by omega) hbytes;have h4:((n*i.bytes:Nat):Int)<=((68719476736*1024:Nat):Int):=Int.ofNat_le.2 h3;rw[Int.natCast_mul] at h4;have h5:((68719476736*1024:Nat):Int)=2 ^ 46:=by rfl
  rw[h5] at h4;have h6:(2:Int) ^ 46<=2 ^ 48:=by decide
  exact λhc=>absurd (Int.lt_of_lt_of_le hc h4) (Int.not_lt.2 h6)
 have hno:=zgU (P:=P) (n:=n) zv.cells (by rw[hzs]) hi hzv rfl w;unfold Builtin.append_;simp only[h0,h1,List.getElem?_toArray,List.getElem?_cons_zero,List.getElem?_cons_succ,Sem.run_bind,run_underlying ht,za6 hi,Result.andThen_ok,run_underlying ht1,Sem.run_pure,if_true,asInt,asIntOf,hw];rw[if_neg hneg];simp only[Sem.run_bind,zak hi,Result.andThen_ok];rw[if_neg hbig];simp only[Sem.run_bind,Sem.run_pure,Result.andThen_ok,Int.toNat_natCast];rw[if_pos hle];simp only[Bool.not_true,Bool.false_eq_true,if_false,Sem.run_bind,hno,Result.andThen_ok];cases base with
 | none=>obtain rfl:=hnil rfl;rfl
 | some a=>simp only[Sem.run_bind,hst a rfl,Result.andThen_ok,Sem.run_pure]
theorem appz_out{k kk:IntKind}(h0:ts[0]?=some t)(h1:ts[1]?=some t1)(ht:P.underlying t=some (.slice e))(ht1:P.underlying t1=some (.int k))(hi:P.info? e=some i)(hzv:i.zero=some zv)(hzs:zv.cells.size=i.size)
  (hroom:sLen+n<room) (hbytes:i.bytes<=1024) {vo:List Value}
  (ho:(Builtin.firstCells i.size sLen (.slice base sLen sCap)).run P { w with drawn:=w.drawn+1 } = .ok vo.toArray { w with drawn:=w.drawn+1 })
  (hgt:sCap<sLen+n) (hr2:¬ Builtin.nextslicecap (sLen+n) sCap*i.bytes>2 ^ 48) :
  ∃cap,sLen+n<=cap/\∀(w':World) (a:Addr),(newRow e (vo.toArray++(Builtin.zeroCells zv.cells n)++Builtin.zeroCells zv.cells (cap-(sLen+n)))).run P { w with drawn:=w.drawn+1 } = .ok a w' ->
   (Builtin.append_ ts ty #[.slice base sLen sCap,.int kk n]).run P w = .ok (.slice (some a) (sLen+n) cap) w':=by
 refine⟨(Question.appendCap (sLen+n) sCap e).cut (w.tape w.drawn (.appendCap (sLen+n) sCap e)),by simp[Question.cut],λw' a hr=>?_⟩;have hnle:¬ sLen+n<=sCap:=by omega
 have hrm:sLen+n<68719476736:=hroom;have hw:IntKind.i64.wrap n=n:=zas (by omega) (by omega);have hneg:¬ ((n:Int)<0):=by omega
 have hbig:¬ ((n:Int)*(i.bytes:Int)>2 ^ 48):=by
  have h3:n*i.bytes<=68719476736*1024:=Nat.mul_le_mul (by omega) hbytes;have h4:((n*i.bytes:Nat):Int)<=((68719476736*1024:Nat):Int):=Int.ofNat_le.2 h3;rw[Int.natCast_mul] at h4;have h5:((68719476736*1024:Nat):Int)=2 ^ 46:=by rfl
  rw[h5] at h4;have h6:(2:Int) ^ 46<=2 ^ 48:=by decide
  exact λhc=>absurd (Int.lt_of_lt_of_le hc h4) (Int.not_lt.2 h6)
 have hmax:¬ (((sLen+n:Nat):Int)>IntKind.i64.max):=by simp only[show IntKind.i64.max=9223372036854775807 from rfl];omega
 have hzero:=zat (P:=P) hi hzv { w with drawn:=w.drawn+1 };have hinfo:=zak (P:=P) hi { w with drawn:=w.drawn+1 };have hno:=zgU (P:=P) (n:=n) zv.cells (by rw[hzs]) hi hzv rfl { w with drawn:=w.drawn+1 };have hforced:(Question.appendCap (sLen+n) sCap e).forced=false:=rfl;unfold Builtin.append_;simp only[h0,h1,List.getElem?_toArray,List.getElem?_cons_zero,List.getElem?_cons_succ,Sem.run_bind,run_underlying ht,za6 hi,Result.andThen_ok,run_underlying ht1,Sem.run_pure,if_true,asInt,asIntOf,hw];rw[if_neg hneg];simp only[Sem.run_bind,zak hi,Result.andThen_ok];rw[if_neg hbig];simp only[Sem.run_bind,Sem.run_pure,Result.andThen_ok,Int.toNat_natCast];rw[if_neg hnle];simp only[Sem.run_bind,zak hi,Result.andThen_ok,true_or,and_true];rw[if_neg hmax];simp only[Sem.run_bind,zak hi,Result.andThen_ok];rw[if_neg hr2];simp only[Sem.run_bind,run_choose,hforced,Bool.false_eq_true,if_false,Result.andThen_ok,hinfo,run_askRoom,ho,Bool.not_true,hno,hzero,hr,Sem.run_pure]
end run
end
end Am
end
