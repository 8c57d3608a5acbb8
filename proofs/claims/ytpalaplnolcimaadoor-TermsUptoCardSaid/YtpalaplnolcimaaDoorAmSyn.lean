/- The abstract machine: a small functional reading of a Go program's structured code: its values, its memory, its operations, its runs. Nothing here is trusted: AmSim proves that a run here is a run of the model. -/
import GoSem.Step
namespace Am
open Go (IntKind BinOp)

/-- A value: as the model's, an address as an abstract block and a place in it. -/
inductive AV where
  | any
  | bool (b : Bool)
  | int (k : IntKind) (n : Int)
  | str (s : List UInt8)
  | ptr (b o : Nat)
  | nilp
  | sl (b o len cap : Nat) (g : Option Nat)
  | nils
  | agg (cs : List AV)
  | tup (vs : List AV)
  | fn (k : Nat) (caps : List AV)
  | yld (l : Nat)
  | nilf
  | mp (b : Nat)
  | nilm
  | nili
  | opq
  deriving Repr, Inhabited

inductive Opd where
  | t (i : Nat)
  | c (v : AV)
  deriving Repr, Inhabited

/-- Of which kind a nil is. -/
inductive NK where
  | ptr | sl | mp | fn | ifc
  deriving Repr, Inhabited, DecidableEq

/-- Of which kind a plain field is. -/
inductive FK where
  | int | bool | str
  deriving Repr, Inhabited, DecidableEq

/-- What an operation does with its operands' values. -/
inductive OpK where
  | mov
  | pick
  | alloc (tag : Nat) (z : List AV)
  | box (tag : Nat)
  | build (z : List AV) (ps : List (Nat × Nat))
  | bslice (tag : Nat) (z : List AV) (n : Nat) (ps : List (Nat × Nat))
  | load1
  | loadN (n : Nat)
  | store (n : Nat)
  | nilCheck
  | binI (op : BinOp)
  | binS (op : BinOp)
  | eqB (neg : Bool)
  | isNil (c : NK) (neg : Bool)
  | eqP (neg : Bool)
  | eqA (ks : List FK) (neg : Bool)
  | notB
  | negI
  | xorI
  | conv (k : IntKind)
  | b2s
  | s2b (tag : Nat)
  | idS
  | idP
  | slS (lo hi : Bool)
  | slL (es : Nat) (lo hi mx : Bool)
  | slA (n es : Nat) (lo hi mx : Bool)
  | fadr (off : Nat)
  | fld1 (off : Nat)
  | fldN (n off : Nat)
  | iadr (es : Nat)
  | iadrA (n es : Nat)
  | idxS
  | idxA1 (n es : Nat)
  | idxAN (n es m : Nat)
  | ext (i : Nat)
  | mkfn (k : Nat)
  | mkslice (tag : Nat) (z : List AV) (bytes : Nat)
  | lenS
  | lenL
  | lenM
  | lenC (n : Nat)
  | capL
  | app (tag es bytes : Nat)
  | appz (tag es bytes : Nat) (z : List AV)
  | cpy (es : Nat)
  | minI
  | maxI
  | call (k : Nat)
  | callv
  | mkifc
  | mkmap
  | lookup (ok : Bool) (z : AV)
  | mapSet
  | rngS
  | nxtS
  | bad
  deriving Repr, Inhabited

structure IOp where
  dst : Option Nat
  k : OpK
  args : List Opd
  guard : Option (Nat × Bool)
  deriving Repr, Inhabited

/-- An item of a region that draws its order: an operation (by its place in the text), or one more look at what a load gave. -/
inductive DItem where
  | op (i : Nat)
  | chk (i : Nat)
  deriving Repr, Inhabited

inductive ICode where
  | skip
  | ret
  | bad
  | reg (ops : List IOp)
  | dreg (ops : List IOp) (its : List DItem)
  | seq (a b : ICode)
  | cond (c : Opd) (a b : ICode)
  | block (id : Nat) (c : ICode)
  | loop (live : List Nat) (c : ICode)
  | exit (id : Nat)
  | rf (f : Opd) (params : List Nat) (asg body : ICode)
  deriving Repr, Inhabited

inductive IRes where
  | tmp (t : Nat)
  | cell1 (t : Nat)
  | cellN (t n : Nat)
  deriving Repr, Inhabited

/-- How a round of a range over a function was left. -/
inductive Jmp where
  | ret
  | exit (id : Nat)
  deriving Repr, Inhabited

inductive LSt where
  | ready | busy | done | exhausted
  deriving Repr, Inhabited, DecidableEq

/-- A block of memory. -/
inductive Blk where
  | dead
  | own (tag : Nat) (cs : List AV)
  | ro (cs : List AV)
  | map (es : List (List UInt8 × AV)) (clock : Nat)
  | iter (s : List UInt8) (pos : Nat)
  | dfr
  | loop (e : List AV) (params : List Nat) (asg body : ICode) (st : LSt) (pend : Option Jmp) (d : Nat)
  deriving Inhabited

abbrev St := List Blk
abbrev Env := List AV

def Opd.ev (e : Env) : Opd → AV
  | .t i => e.getD i (.tup [])
  | .c v => v

/-! ### Memory -/

def Blk.cells : Blk → Option (List AV)
  | .own _ cs => some cs
  | .ro cs => some cs
  | _ => none

def St.load1 (S : St) (b o : Nat) : Option AV :=
  match S[b]? with
  | some k => match k.cells with
    | some cs => cs[o]?
    | none => none
  | none => none

def St.loadN (S : St) (b o n : Nat) : Option (List AV) :=
  match S[b]? with
  | some k => match k.cells with
    | some cs => if o + n ≤ cs.length then some ((cs.drop o).take n) else none
    | none => none
  | none => none

/-- Some cells laid over others, from a place on. -/
def putAt (cs : List AV) (o : Nat) : List AV → List AV
  | [] => cs
  | v :: vs => putAt (cs.set o v) (o + 1) vs

def St.storeN (S : St) (b o : Nat) (vs : List AV) : Option St :=
  match S[b]? with
  | some (.own tag cs) => if o + vs.length ≤ cs.length then some (S.set b (.own tag (putAt cs o vs))) else none
  | _ => none

/-- Is it the value of one cell? -/
def AV.sc : AV → Bool
  | .tup _ => false
  | .agg _ => false
  | .any => false
  | _ => true

/-- The cells of a value: an aggregate's, or the one. -/
def AV.flat : AV → Option (List AV)
  | .agg cs => some cs
  | .tup _ => none
  | .any => none
  | v => some [v]

/-! ### Numbers -/

def binI (op : BinOp) (k : IntKind) (x y : Int) : Option AV :=
  match op with
  | .add => some (.int k (k.wrap (x + y)))
  | .sub => some (.int k (k.wrap (x - y)))
  | .mul => some (.int k (k.wrap (x * y)))
  | .quo => if y = 0 then none else some (.int k (k.wrap (x.tdiv y)))
  | .rem => if y = 0 then none else some (.int k (x.tmod y))
  | .and => some (.int k (k.wrap (BitVec.ofInt k.bits x &&& BitVec.ofInt k.bits y).toNat))
  | .or => some (.int k (k.wrap (BitVec.ofInt k.bits x ||| BitVec.ofInt k.bits y).toNat))
  | .xor => some (.int k (k.wrap (BitVec.ofInt k.bits x ^^^ BitVec.ofInt k.bits y).toNat))
  | .andNot => some (.int k (k.wrap (BitVec.ofInt k.bits x &&& ~~~ BitVec.ofInt k.bits y).toNat))
  | .shl => if y < 0 then none else some (.int k (k.wrap (x * 2 ^ (min y.toNat k.bits))))
  | .shr => if y < 0 then none else some (.int k (x.fdiv (2 ^ (min y.toNat k.bits))))
  | .eql => some (.bool (x == y))
  | .neq => some (.bool (x != y))
  | .lss => some (.bool (decide (x < y)))
  | .leq => some (.bool (decide (x ≤ y)))
  | .gtr => some (.bool (decide (x > y)))
  | .geq => some (.bool (decide (x ≥ y)))

/-- Are the two's kinds fit for the operation? -/
def kindsFit (op : BinOp) (k k' : IntKind) : Bool :=
  match op with
  | .shl | .shr => true
  | _ => k == k'

def binS (op : BinOp) (x y : List UInt8) : Option AV :=
  match op with
  | .add => if x.length + y.length < 9223372036854775808 then some (.str (x ++ y)) else none
  | .eql => some (.bool (x == y))
  | .neq => some (.bool (x != y))
  | .lss => some (.bool (Go.Op.bytesLess x y))
  | .leq => some (.bool (Go.Op.bytesLess x y || x == y))
  | .gtr => some (.bool (!(Go.Op.bytesLess x y || x == y)))
  | .geq => some (.bool (!(Go.Op.bytesLess x y)))
  | _ => none

/-- Are two rows of plain cells alike? -/
def eqCells : List FK → List AV → List AV → Option Bool
  | [], [], [] => some true
  | .int :: ks, .int k a :: xs, .int k' b :: ys => if k = k' then (if a == b then eqCells ks xs ys else some false) else none
  | .bool :: ks, .bool a :: xs, .bool b :: ys => if a == b then eqCells ks xs ys else some false
  | .str :: ks, .str a :: xs, .str b :: ys => if a == b then eqCells ks xs ys else some false
  | _, _, _ => none

/-- Parts laid into cells. -/
def fill : List (Nat × Nat) → List AV → List AV → Option (List AV)
  | [], [], cs => some cs
  | (off, size) :: ps, v :: vs, cs =>
    v.flat.bind fun us => if us.length = size ∧ off + size ≤ cs.length then fill ps vs (putAt cs off us) else none
  | _, _, _ => none

def bytesOf : List AV → Option (List UInt8)
  | [] => some []
  | .int .u8 n :: vs => (bytesOf vs).map (UInt8.ofNat n.toNat :: ·)
  | _ => none

def ofBytes (s : List UInt8) : List AV := s.map fun b => .int .u8 b.toNat

/-- n times some cells. -/
def rep : Nat → List AV → List AV
  | 0, _ => []
  | n + 1, z => z ++ rep n z

def natOf : AV → Option Nat
  | .int _ n => if 0 ≤ n then some n.toNat else none
  | _ => none

/-- The bounds of a slice expression: low, high, max; the operands that are there, in their row. -/
def bounds (lo hi mx : Bool) (args : List AV) (len cap : Nat) : Option (Nat × Nat × Nat) :=
  match lo, hi, mx, args with
  | false, false, false, [] => some (0, len, cap)
  | true, false, false, [l] => (natOf l).bind fun l => if l ≤ len then some (l, len, cap) else none
  | false, true, false, [h] => (natOf h).bind fun h => if h ≤ cap then some (0, h, cap) else none
  | true, true, false, [l, h] => (natOf l).bind fun l => (natOf h).bind fun h => if l ≤ h ∧ h ≤ cap then some (l, h, cap) else none
  | false, true, true, [h, m] => (natOf h).bind fun h => (natOf m).bind fun m => if h ≤ m ∧ m ≤ cap then some (0, h, m) else none
  | true, true, true, [l, h, m] => (natOf l).bind fun l => (natOf h).bind fun h => (natOf m).bind fun m => if l ≤ h ∧ h ≤ m ∧ m ≤ cap then some (l, h, m) else none
  | _, _, _, _ => none

/-- The greatest number of elements that an append or a make is let have here. -/
def room : Nat := 68719476736

/-- What the first m elements of a slice or a string are, as cells. -/
def srcCells (S : St) (es m : Nat) : AV → Option (List AV)
  | .nils => some []
  | .sl b o _ _ _ => S.loadN b o (m * es)
  | .str s => if es = 1 then some (ofBytes (s.take m)) else none
  | _ => none

def srcLen : AV → Option Nat
  | .nils => some 0
  | .sl _ _ len _ _ => some len
  | .str s => some s.length
  | _ => none

/-- append: n elements more, 'new' their cells. -/
def grow (tag es bytes : Nat) (s : AV) (n : Nat) (new : List AV) (S : St) : Option (AV × St) :=
  match s with
  | .nils =>
    if n = 0 then some (.nils, S)
    else if n < room ∧ bytes ≤ 1024 then some (.sl S.length 0 n n (some es), S ++ [.own tag new]) else none
  | .sl b o len cap g =>
    if len + n ≤ cap then
      if n = 0 then some (s, S)
      else (S.storeN b (o + len * es) new).map fun S' => (.sl b o (len + n) cap g, S')
    else if len + n < room ∧ bytes ≤ 1024 then
      (S.loadN b o (len * es)).bind fun old =>
        match g with
        | none => some (.sl S.length 0 (len + n) (len + n) (some es), S ++ [.own tag (old ++ new)])
        | some es' =>
          match S[b]? with
          | some (.own tag' cs) =>
            if es' = es ∧ o + len * es = cs.length ∧ tag' = tag then
              some (.sl S.length 0 (len + n) (len + n) (some es), S.set b .dead ++ [.own tag (old ++ new)])
            else none
          | _ => none
    else none
  | _ => none

/-- copy: so many elements, their cells. -/
def cpyTo (S : St) (cs : List AV) (n : Nat) : AV → Option (AV × St)
  | .sl b o _ _ _ => if n = 0 then some (.int .i64 0, S) else (S.storeN b o cs).map (.int .i64 n, ·)
  | .nils => some (.int .i64 0, S)
  | _ => none

def findKey (k : List UInt8) : List (List UInt8 × AV) → Option AV
  | [] => none
  | (k', v) :: es => if k == k' then some v else findKey k es

def setKey (k : List UInt8) (v : AV) : List (List UInt8 × AV) → List (List UInt8 × AV)
  | [] => [(k, v)]
  | (k', v') :: es => if k == k' then (k', v) :: es else (k', v') :: setKey k v es

/-- Is it nil? -/
def nilIs : NK → AV → Option Bool
  | .ptr, .nilp => some true
  | .ptr, .ptr _ _ => some false
  | .sl, .nils => some true
  | .sl, .sl .. => some false
  | .mp, .nilm => some true
  | .mp, .mp _ => some false
  | .fn, .nilf => some true
  | .fn, .fn _ _ => some false
  | .fn, .yld _ => some false
  | .ifc, .nili => some true
  | .ifc, .opq => some false
  | _, _ => none

/-! ### Operations -/

/-- One operation. 'call': what a call of a function's value comes to. -/
def ap (call : AV → List AV → St → Option (AV × St)) : OpK → List AV → St → Option (AV × St)
  | .mov, [x], S => some (x, S)
  | .pick, [.bool c, a, b], S => some (if c then a else b, S)
  | .alloc tag z, [], S => some (.ptr S.length 0, S ++ [.own tag z])
  | .box tag, [v], S => v.flat.map fun cs => (.ptr S.length 0, S ++ [.own tag cs])
  | .build z ps, vs, S => (fill ps vs z).map fun cs => (.agg cs, S)
  | .bslice tag z n ps, vs, S => (fill ps vs z).map fun cs => (.sl S.length 0 n n none, S ++ [.own tag cs])
  | .load1, [.ptr b o], S => (S.load1 b o).map (·, S)
  | .loadN n, [.ptr b o], S => (S.loadN b o n).map fun cs => (.agg cs, S)
  | .store n, [.ptr b o, v], S => v.flat.bind fun cs => if cs.length = n then (S.storeN b o cs).map (.tup [], ·) else none
  | .nilCheck, [.ptr b o], S => some (.ptr b o, S)
  | .nilCheck, [.fn k cs], S => some (.fn k cs, S)
  | .nilCheck, [.yld l], S => some (.yld l, S)
  | .binI op, [.int k x, .int k' y], S => if kindsFit op k k' then (binI op k x y).map (·, S) else none
  | .binS op, [.str x, .str y], S => (binS op x y).map (·, S)
  | .eqB neg, [.bool x, .bool y], S => some (.bool ((x == y) != neg), S)
  | .isNil c neg, [x], S => (nilIs c x).map fun r => (.bool (r != neg), S)
  | .eqP neg, [.ptr b o, .ptr b' o'], S => if b = b' ∧ o = o' then some (.bool (!neg), S) else none
  | .eqA ks neg, [.agg xs, .agg ys], S => (eqCells ks xs ys).map fun r => (.bool (r != neg), S)
  | .notB, [.bool b], S => some (.bool (!b), S)
  | .negI, [.int k n], S => some (.int k (k.wrap (0 - n)), S)
  | .xorI, [.int k n], S => some (.int k (k.wrap (BitVec.ofInt k.bits (if k.signed then -1 else k.max) ^^^ BitVec.ofInt k.bits n).toNat), S)
  | .conv k, [.int _ n], S => some (.int k (k.wrap n), S)
  | .b2s, [.nils], S => some (.str [], S)
  | .b2s, [.sl b o len _ _], S => (S.loadN b o len).bind fun cs => (bytesOf cs).map fun s => (.str s, S)
  | .s2b tag, [.str s], S => some (.sl S.length 0 s.length s.length (some 1), S ++ [.own tag (ofBytes s)])
  | .idS, [.str s], S => some (.str s, S)
  | .slS lo hi, .str s :: bs, S => (bounds lo hi false bs s.length s.length).map fun (l, h, _) => (.str ((s.take h).drop l), S)
  | .slL es lo hi mx, .sl b o len cap g :: bs, S =>
    if g = none ∨ g = some es then (bounds lo hi mx bs len cap).map fun (l, h, m) => (.sl b (o + l * es) (h - l) (m - l) (if mx then none else g), S) else none
  | .slL _ lo hi mx, .nils :: bs, S => (bounds lo hi mx bs 0 0).map fun _ => (.nils, S)
  | .slA n es lo hi mx, .ptr b o :: bs, S => (bounds lo hi mx bs n n).map fun (l, h, m) => (.sl b (o + l * es) (h - l) (m - l) none, S)
  | .fadr off, [.ptr b o], S => some (.ptr b (o + off), S)
  | .fld1 off, [.agg cs], S => (cs[off]?).map (·, S)
  | .fldN n off, [.agg cs], S => if off + n ≤ cs.length then some (.agg ((cs.drop off).take n), S) else none
  | .iadr es, [.sl b o len _ _, i], S => (natOf i).bind fun i => if i < len then some (.ptr b (o + i * es), S) else none
  | .iadrA n es, [.ptr b o, i], S => (natOf i).bind fun i => if i < n then some (.ptr b (o + i * es), S) else none
  | .idxS, [.str s, i], S => (natOf i).bind fun i => (s[i]?).map fun c => (.int .u8 c.toNat, S)
  | .idxA1 n es, [.agg cs, i], S => (natOf i).bind fun i => if i < n then (cs[i * es]?).map (·, S) else none
  | .idxAN n es m, [.agg cs, i], S => (natOf i).bind fun i => if i < n ∧ i * es + m ≤ cs.length then some (.agg ((cs.drop (i * es)).take m), S) else none
  | .ext i, [.tup vs], S => (vs[i]?).map (·, S)
  | .mkfn k, vs, S => some (.fn k vs, S)
  | .mkslice tag z bytes, [l, c], S =>
    (natOf l).bind fun l => (natOf c).bind fun c =>
      if l ≤ c ∧ c < room ∧ bytes ≤ 1024 then some (.sl S.length 0 l c none, S ++ [.own tag (rep c z)]) else none
  | .lenS, [.str s], S => some (.int .i64 s.length, S)
  | .lenL, [.sl _ _ len _ _], S => some (.int .i64 len, S)
  | .lenL, [.nils], S => some (.int .i64 0, S)
  | .lenM, [.nilm], S => some (.int .i64 0, S)
  | .lenM, [.mp b], S => match S[b]? with
    | some (.map es _) => some (.int .i64 es.length, S)
    | _ => none
  | .lenC n, [_], S => some (.int .i64 n, S)
  | .capL, [.sl _ _ _ cap none], S => some (.int .i64 cap, S)
  | .capL, [.nils], S => some (.int .i64 0, S)
  | .app tag es bytes, [s, x], S => (srcLen x).bind fun n => (srcCells S es n x).bind fun new => grow tag es bytes s n new S
  | .appz tag es bytes z, [s, n], S => (natOf n).bind fun n => if n < room ∧ bytes ≤ 1024 then grow tag es bytes s n (rep n z) S else none
  | .cpy es, [d, x], S =>
    (srcLen d).bind fun dl => (srcLen x).bind fun xl => (srcCells S es (min xl dl) x).bind fun cs => cpyTo S cs (min xl dl) d
  | .minI, [.int k x, .int k' y], S => if k = k' then some (.int k (if y < x then y else x), S) else none
  | .maxI, [.int k x, .int k' y], S => if k = k' then some (.int k (if y > x then y else x), S) else none
  | .call k, vs, S => call (.fn k []) vs S
  | .callv, f :: vs, S => call f vs S
  | .mkifc, [_], S => some (.opq, S)
  | .mkmap, [], S => some (.mp S.length, S ++ [.map [] 0])
  | .lookup ok z, [.nilm, .str _], S => some (if ok then .tup [z, .bool false] else z, S)
  | .lookup ok z, [.mp b, .str k], S => match S[b]? with
    | some (.map es _) => match findKey k es with
      | some v => some (if ok then .tup [v, .bool true] else v, S)
      | none => some (if ok then .tup [z, .bool false] else z, S)
    | _ => none
  | .mapSet, [.mp b, .str k, v], S => match S[b]? with
    | some (.map es clock) => some (.tup [], S.set b (.map (setKey k v es) (if (findKey k es).isSome then clock else clock + 1)))
    | _ => none
  | .rngS, [.str s], S => some (.ptr S.length 0, S ++ [.iter s 0])
  | .nxtS, [.ptr b 0], S => match S[b]? with
    | some (.iter s pos) =>
      if pos < s.length then
        match Go.Utf8.decode ⟨s.toArray⟩ pos with
        | (c, width) => some (.tup [.bool true, .int .i64 pos, .int .i32 c], S.set b (.iter s (pos + width)))
      else some (.tup [.bool false], S)
    | _ => none
  | _, _, _ => none

def setD (e : Env) : Option Nat → AV → Env
  | some d, v => e.set d v
  | none, _ => e

/-- Is an operation wanted? none: that can't be told. -/
def wanted (e : Env) : Option (Nat × Bool) → Option Bool
  | none => some true
  | some (t, want) => match e.getD t (.tup []) with
    | .bool b => some (b == want)
    | .tup _ => some false
    | _ => none

def exOp (call : AV → List AV → St → Option (AV × St)) (o : IOp) (e : Env) (S : St) : Option (AV × St) :=
  match wanted e o.guard with
  | some true => ap call o.k (o.args.map (·.ev e)) S
  | some false => some (.tup [], S)
  | none => none

def exOps (call : AV → List AV → St → Option (AV × St)) : List IOp → Env → St → Option (Env × St)
  | [], e, S => some (e, S)
  | o :: os, e, S => (exOp call o e S).bind fun (v, S') => exOps call os (setD e o.dst v) S'

mutual
def AV.beq : AV → AV → Bool
  | .bool a, .bool b => a == b
  | .int k a, .int k' b => k == k' && a == b
  | .str a, .str b => a == b
  | .ptr b o, .ptr b' o' => b == b' && o == o'
  | .nilp, .nilp => true
  | .sl b o l c g, .sl b' o' l' c' g' => b == b' && o == o' && l == l' && c == c' && g == g'
  | .nils, .nils => true
  | .agg xs, .agg ys => AV.beqs xs ys
  | .fn k xs, .fn k' ys => k == k' && AV.beqs xs ys
  | .nilf, .nilf => true
  | .mp a, .mp b => a == b
  | .nilm, .nilm => true
  | .nili, .nili => true
  | .tup xs, .tup ys => AV.beqs xs ys
  | _, _ => false
def AV.beqs : List AV → List AV → Bool
  | [], [] => true
  | x :: xs, y :: ys => AV.beq x y && AV.beqs xs ys
  | _, _ => false
end

/-- The items of a region that draws. -/
def exItems (call : AV → List AV → St → Option (AV × St)) (ops : List IOp) : List DItem → Env → St → Option (Env × St)
  | [], e, S => some (e, S)
  | .op i :: its, e, S => match ops[i]? with
    | some o => (exOp call o e S).bind fun (v, S') => exItems call ops its (setD e o.dst v) S'
    | none => none
  | .chk i :: its, e, S => match ops[i]? with
    | some o => match o.dst with
      | some d => (exOp (fun _ _ _ => none) o e S).bind fun (v, _) => if AV.beq v (e.getD d (.tup [])) then exItems call ops its e S else none
      | none => none
    | none => none

inductive Ex where
  | normal
  | ret
  | exit (id : Nat)
  deriving Repr, Inhabited, DecidableEq

/-- A frame's own: its temporaries, its marks of deferred calls, the round that it is. -/
structure Loc where
  e : Env
  ds : List Nat := []
  rd : Option Nat := none
  deriving Repr, Inhabited

def keepLive (live : List Nat) (e : Env) : Env := e.mapIdx fun i v => if live.contains i then v else .any

def iter {α : Type} (f : α → St → Option (Ex × α × St)) : Nat → α → St → Option (Ex × α × St)
  | 0, _, _ => none
  | n + 1, l, S => match f l S with
    | some (.normal, l', S') => iter f n l' S'
    | r => r

def exC (call : AV → List AV → St → Option (AV × St)) (N : Nat) : ICode → Loc → St → Option (Ex × Loc × St)
  | .skip, l, S => some (.normal, l, S)
  | .ret, l, S => some (.ret, l, S)
  | .bad, _, _ => none
  | .reg ops, l, S => (exOps call ops l.e S).map fun (e, S') => (.normal, { l with e }, S')
  | .dreg ops its, l, S => (exItems call ops its l.e S).map fun (e, S') => (.normal, { l with e }, S')
  | .seq a b, l, S => match exC call N a l S with
    | some (.normal, l', S') => exC call N b l' S'
    | r => r
  | .cond c a b, l, S => match c.ev l.e with
    | .bool true => exC call N a l S
    | .bool false => exC call N b l S
    | _ => none
  | .block id c, l, S => match exC call N c l S with
    | some (.exit id', l', S') => if id' = id then some (.normal, l', S') else some (.exit id', l', S')
    | r => r
  | .loop live c, l, S => iter (fun l S => exC call N c { l with e := keepLive live l.e } S) N l S
  | .exit id, l, S => some (.exit id, l, S)
  | .rf f ps asg body, l, S =>
    match l.rd with
    | none =>
      let d := S.length
      let r := S.length + 1
      match call (f.ev l.e) [.yld r] (S ++ [.dfr, .loop l.e ps asg body .ready none d]) with
      | some (_, S') => match S'[r]? with
        | some (.loop e' ps' a' b' st pend d') =>
          if st = .busy then none else
          let S'' := S'.set r (.loop e' ps' a' b' .exhausted pend d')
          match pend with
          | none => some (.normal, { l with ds := d :: l.ds }, S'')
          | some .ret => some (.ret, { l with ds := d :: l.ds }, S'')
          | some (.exit id) => some (.exit id, { l with ds := d :: l.ds }, S'')
        | _ => none
      | none => none
    | some r0 => match S[r0]? with
      | some (.loop _ _ _ _ _ _ d) =>
        let r := S.length
        match call (f.ev l.e) [.yld r] (S ++ [.loop l.e ps asg body .ready none d]) with
        | some (_, S') => match S'[r]? with
          | some (.loop e' ps' a' b' st pend d') =>
            if st = .busy then none else
            let S'' := S'.set r (.loop e' ps' a' b' .exhausted pend d')
            match pend with
            | none => some (.normal, l, S'')
            | some .ret => some (.ret, l, S'')
            | some (.exit id) => some (.exit id, l, S'')
          | _ => none
        | none => none
      | _ => none

def exRes (e : Env) (S : St) : List IRes → Option (List AV)
  | [] => some []
  | r :: rs =>
    (match r with
     | .tmp t => some (e.getD t (.tup []))
     | .cell1 t => match e.getD t (.tup []) with | .ptr b o => S.load1 b o | _ => none
     | .cellN t n => match e.getD t (.tup []) with | .ptr b o => (S.loadN b o n).map .agg | _ => none).bind fun v => (exRes e S rs).map (v :: ·)

def one : List AV → AV
  | [v] => v
  | vs => .tup vs

inductive IFn where
  | code (nt : Nat) (res : List IRes) (body : ICode)
  | intr (g : List AV → St → Option (AV × St))

def pads (nt : Nat) (args : List AV) : Env := args ++ List.replicate (nt - args.length) (.tup [])

/-- The deferred marks are let go. -/
def letGo : List Nat → St → St
  | [], S => S
  | d :: ds, S => letGo ds (S.set d .dead)

def setParams : List Nat → List AV → Env → Env
  | p :: ps, v :: vs, e => setParams ps vs (e.set p v)
  | _, _, e => e

def jmpOf : Ex → Option Jmp
  | .normal => none
  | .ret => some .ret
  | .exit id => some (.exit id)

def run (IP : Nat → Option IFn) : Nat → AV → List AV → St → Option (AV × St)
  | 0, _, _, _ => none
  | n + 1, .fn k caps, args, S => match IP k with
    | some (.code nt res body) =>
      match exC (run IP n) n body { e := pads nt (args ++ caps) } S with
      | some (.exit _, _, _) => none
      | some (_, l, S') => (exRes l.e (letGo l.ds S') res).map fun vs => (one vs, letGo l.ds S')
      | none => none
    | some (.intr g) => g (args ++ caps) S
    | none => none
  | n + 1, .yld r, args, S => match S[r]? with
    | some (.loop e ps asg body .ready _ _) =>
      if args.length = ps.length then
        match exC (run IP n) n asg { e := setParams ps args e, rd := some r } S with
        | some (.normal, l1, S1) =>
          match S1[r]? with
          | some (.loop e1 ps1 asg1 body1 .ready pend1 d1) =>
            match exC (run IP n) n body l1 (S1.set r (.loop e1 ps1 asg1 body1 .busy pend1 d1)) with
            | some (x, _, S2) => match S2[r]? with
              | some (.loop e2 ps2 asg2 body2 _ _ d2) =>
                some (.bool (jmpOf x).isNone, S2.set r (.loop e2 ps2 asg2 body2 (if (jmpOf x).isNone then .ready else .done) (jmpOf x) d2))
              | _ => none
            | none => none
          | _ => none
        | _ => none
      else none
    | _ => none
  | _ + 1, _, _, _ => none

end Am
