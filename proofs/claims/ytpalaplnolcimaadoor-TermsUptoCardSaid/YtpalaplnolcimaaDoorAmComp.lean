/- From the model's code to the abstract machine's: what AmSim proves right, and what each seat's texts ask of the kernel, function by function. -/
import Derived.Test.YtpalaplnolcimaaDoorAmSyn
namespace Am
open Go

/-! ### Constants, operands -/

def toAV1 (kf : FuncId → Nat) : Value → Option AV
  | .bool b => some (.bool b)
  | .int k n => some (.int k n)
  | .string s => some (.str s.data.toList)
  | .pointer none => some .nilp
  | .slice none 0 0 => some .nils
  | .map none => some .nilm
  | .nilFunc => some .nilf
  | .nilIface => some .nili
  | .func (.func f) first caps => if first.size = 0 ∧ caps.size = 0 then some (.fn (kf f) []) else none
  | _ => none

def mapO {α β : Type} (f : α → Option β) : List α → Option (List β)
  | [] => some []
  | x :: xs => (f x).bind fun y => (mapO f xs).map (y :: ·)

def toAV (kf : FuncId → Nat) : Value → Option AV
  | .agg cs => (mapO (toAV1 kf) cs.toList).map .agg
  | .tuple cs => (mapO (toAV1 kf) cs.toList).map .tup
  | v => toAV1 kf v

def cv (kf : FuncId → Nat) : Operand → Option Opd
  | .tmp t => some (.t t)
  | .const v => (toAV kf v).map .c
  | .global _ => none
  | .func f => some (.c (.fn (kf f) []))

/-! ### Types -/

def aggT (P : Program) (t : TypeId) : Option Bool :=
  match P.underlying t with
  | some (.struct _) | some (.array _ _) => some true
  | some _ => some false
  | none => none

def sizeT (P : Program) (t : TypeId) : Option Nat := (P.info? t).map (·.size)

/-- The cells of a type's zero value: as many as the type's size says, each of them plain. -/
def zeroT (P : Program) (kf : FuncId → Nat) (t : TypeId) : Option (List AV) :=
  match P.info? t with
  | some i => match i.zero with
    | some z => match mapO (toAV1 kf) z.cells.toList with
      | some cs => if cs.length = i.size then some cs else none
      | none => none
    | none => none
  | none => none

/-- Of which kind a type's nil is, where the operand is just that. -/
def nilKind : TypeDesc → Operand → Option NK
  | .pointer _, .const (.pointer none) => some .ptr
  | .slice _, .const (.slice none 0 0) => some .sl
  | .map _ _, .const (.map none) => some .mp
  | .func _ _ _, .const .nilFunc => some .fn
  | .interface _, .const .nilIface => some .ifc
  | _, _ => none

def fieldKind (P : Program) (f : Field) : Option FK :=
  if f.name = "_" then none else
  match P.underlying f.type with
  | some (.int _) => some .int
  | some .bool => some .bool
  | some .string => some .str
  | _ => none

/-- A struct whose fields are plain cells, in their row: their kinds. -/
def plainStruct (P : Program) (t : TypeId) (fs : Array Field) : Option (List FK) :=
  if P.stoodInHeld t = false ∧ P.eqGuardType P.depth t = false ∧ fs.toList.map (·.offset) = List.range fs.size then mapO (fieldKind P) fs.toList else none

/-! ### One operation -/

def partsT (P : Program) (fs : Array Field) : Option (List (Nat × Nat)) := mapO (fun f => (sizeT P f.type).map fun n => (f.offset, n)) fs.toList

def optArgs (lo hi mx : Option Operand) : List Operand := lo.toList ++ hi.toList ++ mx.toList

def compBuiltin (P : Program) (kf kt : Nat → Nat) (b : Builtin) (ts : Array TypeId) (args : List Operand) : Option (OpK × List Operand) :=
  match b, args with
  | .len, [x] => match (ts[0]?).bind P.underlying with
    | some .string => some (.lenS, [x])
    | some (.slice _) => some (.lenL, [x])
    | some (.array n _) => some (.lenC n, [x])
    | _ => none
  | .cap, [x] => match (ts[0]?).bind P.underlying with
    | some (.slice _) => some (.capL, [x])
    | _ => none
  | .append, [s, x] => match (ts[0]?).bind P.underlying, (ts[1]?).bind P.underlying with
    | some (.slice e), some d => (P.info? e).bind fun i => (zeroT P kf e).bind fun z =>
      if i.size = 0 ∨ i.bytes = 0 then none else
      match d with
      | .int _ => some (.appz (kt e) i.size i.bytes z, [s, x])
      | _ => some (.app (kt e) i.size i.bytes, [s, x])
    | _, _ => none
  | .copy, [d, x] => match (ts[0]?).bind P.underlying with
    | some (.slice e) => (sizeT P e).map fun n => (.cpy n, [d, x])
    | _ => none
  | .min, [x, y] => some (.minI, [x, y])
  | .max, [x, y] => some (.maxI, [x, y])
  | _, _ => none

def compBin (P : Program) (op : BinOp) (t : TypeId) (x y : Operand) : Option (OpK × List Operand) :=
  match P.underlying t with
  | some (.int _) => some (.binI op, [x, y])
  | some .string => some (.binS op, [x, y])
  | some .bool => match op with
    | .eql => some (.eqB false, [x, y])
    | .neq => some (.eqB true, [x, y])
    | _ => none
  | some (.struct fs) => (plainStruct P t fs).bind fun ks => match op with
    | .eql => some (.eqA ks false, [x, y])
    | .neq => some (.eqA ks true, [x, y])
    | _ => none
  | some d => match nilKind d y, op with
    | some c, .eql => some (.isNil c false, [x])
    | some c, .neq => some (.isNil c true, [x])
    | _, _ => none
  | none => none

def compConv (P : Program) (kt : Nat → Nat) (src dst : TypeId) (x : Operand) : Option (OpK × List Operand) :=
  match P.underlying src, P.underlying dst with
  | some (.int _), some (.int k) => some (.conv k, [x])
  | some .string, some .string => some (.idS, [x])
  | some (.slice e), some .string => match P.underlying e with
    | some (.int .u8) => some (.b2s, [x])
    | _ => none
  | some .string, some (.slice e) => match P.underlying e with
    | some (.int .u8) => some (.s2b (kt e), [x])
    | _ => none
  | _, _ => none

def compK (P : Program) (kf kt : Nat → Nat) : Op → Option (OpK × List Operand)
  | .move x | .assign x => some (.mov, [x])
  | .pick c a b => some (.pick, [c, a, b])
  | .alloc e => (zeroT P kf e).map fun z => (.alloc (kt e) z, [])
  | .box e v => some (.box (kt e), [v])
  | .build t ps => match P.underlying t with
    | some (.struct fs) => (zeroT P kf t).bind fun z => (partsT P fs).bind fun pl =>
      (mapO (fun (p : Nat × Operand) => pl[p.1]?) ps.toList).map fun l => (.build z l, ps.toList.map (·.2))
    | some (.array _ e) => (zeroT P kf t).bind fun z => (sizeT P e).map fun n =>
      (.build z (ps.toList.map fun p => (p.1 * n, n)), ps.toList.map (·.2))
    | _ => none
  | .buildSlice t len ps => match P.underlying t with
    | some (.slice e) => (zeroT P kf e).bind fun z => if len * z.length > 2 ^ 24 then none else
      some (.bslice (kt e) (rep len z) len (ps.toList.map fun p => (p.1 * z.length, z.length)), ps.toList.map (·.2))
    | _ => none
  | .load t a => match aggT P t with
    | some true => (sizeT P t).map fun n => (.loadN n, [a])
    | some false => some (.load1, [a])
    | none => none
  | .store t a v => (sizeT P t).map fun n => (.store n, [a, v])
  | .nilCheck x => some (.nilCheck, [x])
  | .binOp op t x y _ => compBin P op t x y
  | .unOp op _ x => match op with
    | .not => some (.notB, [x])
    | .neg => some (.negI, [x])
    | .xor => some (.xorI, [x])
    | _ => none
  | .convert src dst x => compConv P kt src dst x
  | .makeInterface t x => match P.underlying t with
    | some (.interface _) => none
    | some _ => some (.mkifc, [x])
    | none => none
  | .makeFunc (.func f) first caps => if first.size = 0 then some (.mkfn (kf f), caps.toList) else none
  | .makeSlice t l c => match P.underlying t with
    | some (.slice e) => (P.info? e).bind fun i => (zeroT P kf e).map fun z => (.mkslice (kt e) z i.bytes, [l, c])
    | _ => none
  | .slice t x lo hi mx => match P.underlying t with
    | some .string => if mx.isSome then none else some (.slS lo.isSome hi.isSome, x :: optArgs lo hi none)
    | some (.slice e) => (sizeT P e).map fun n => (.slL n lo.isSome hi.isSome mx.isSome, x :: optArgs lo hi mx)
    | some (.array m e) => (sizeT P e).map fun n => (.slA m n lo.isSome hi.isSome mx.isSome, x :: optArgs lo hi mx)
    | some (.pointer a) => match P.underlying a with
      | some (.array m e) => (sizeT P e).map fun n => (.slA m n lo.isSome hi.isSome mx.isSome, x :: optArgs lo hi mx)
      | _ => none
    | _ => none
  | .fieldAddr s x f => match P.underlying s with
    | some (.struct fs) => match fs[f]? with
      | some fd => match sizeT P fd.type with
        | some (_ + 1) => some (.fadr fd.offset, [x])
        | _ => none
      | none => none
    | _ => none
  | .field t x f => match P.underlying t with
    | some (.struct fs) => match fs[f]? with
      | some fd => match aggT P fd.type with
        | some true => (sizeT P fd.type).map fun n => (.fldN n fd.offset, [x])
        | some false => some (.fld1 fd.offset, [x])
        | none => none
      | none => none
    | _ => none
  | .indexAddr t x i => match P.underlying t with
    | some (.slice e) => (sizeT P e).map fun n => (.iadr n, [x, i])
    | some (.array m e) => (sizeT P e).map fun n => (.iadrA m n, [x, i])
    | _ => none
  | .index t x i => match P.underlying t with
    | some .string => some (.idxS, [x, i])
    | some (.array m e) => match aggT P e with
      | some true => (sizeT P e).map fun n => (.idxAN m n n, [x, i])
      | some false => (sizeT P e).map fun n => (.idxA1 m n, [x, i])
      | none => none
    | _ => none
  | .extract t i => some (.ext i, [t])
  | .call c => match c.callee with
    | .builtin b => compBuiltin P kf kt b c.argTypes c.args.toList
    | .value (.func f) => some (.call (kf f), c.args.toList)
    | .value f => some (.callv, f :: c.args.toList)
    | .invoke _ _ => none
  | _ => none

def badOp : IOp := { dst := none, k := .bad, args := [], guard := none }

def compGuard (ops : Array Oper) : Option (Nat × Bool) → Option (Option (Nat × Bool))
  | none => some none
  | some (j, want) => match (ops[j]?).bind (·.dst) with
    | some t => some (some (t, want))
    | none => none

/-- What an operation does, of what: an operation that is not covered may stand there, if it is never come to. -/
def compKA (P : Program) (kf kt : Nat → Nat) (op : Op) : OpK × List Opd :=
  match compK P kf kt op with
  | some (k, xs) => match mapO (cv kf) xs with
    | some args => (k, args)
    | none => (.bad, [])
  | none => (.bad, [])

def compOp (P : Program) (kf kt : Nat → Nat) (ops : Array Oper) (o : Oper) : Option IOp :=
  (compGuard ops o.guard).map fun g => { dst := o.dst, k := (compKA P kf kt o.op).1, args := (compKA P kf kt o.op).2, guard := g }

/-! ### A region that draws its order -/

def isPure : OpK → Bool
  | .mov | .pick | .build .. | .nilCheck | .binI _ | .binS _ | .eqB _ | .isNil .. | .eqP _ | .eqA .. | .notB | .negI | .xorI | .conv _ | .idS | .idP
  | .slS .. | .slL .. | .slA .. | .fadr _ | .fld1 _ | .fldN .. | .iadr _ | .iadrA .. | .idxS | .idxA1 .. | .idxAN .. | .ext _ | .mkfn _
  | .lenS | .lenL | .lenC _ | .capL | .minI | .maxI | .mkifc => true
  | _ => false

def isRead : OpK → Bool
  | .load1 | .loadN _ | .b2s | .lenM | .lookup .. => true
  | _ => false

def isSmall (k : OpK) : Bool := isPure k || isRead k

/-- The operations ahead of each, by the edges that always bind. -/
def preds (o : Oper) : List Nat := (o.after.toList.filter (Region.binds .any)).map (·.on)

/-- All that are ahead of each one, by what was reckoned for those before it. -/
def ancStep (acc : List (List Nat)) (ps : List Nat) : List Nat := ps ++ ps.flatMap fun p => acc.getD p []

def ancs : List (List Nat) → List (List Nat) → List (List Nat)
  | acc, [] => acc
  | acc, ps :: rest => ancs (acc ++ [ancStep acc ps]) rest

mutual
/-- Does a value speak of blocks below so many alone? -/
def AV.belowB (n : Nat) : AV → Bool
  | .ptr b _ => decide (b < n)
  | .sl b _ _ _ _ => decide (b < n)
  | .agg cs => AV.belowsB n cs
  | .tup cs => AV.belowsB n cs
  | .fn _ cs => AV.belowsB n cs
  | .yld b => decide (b < n)
  | .mp b => decide (b < n)
  | _ => true
def AV.belowsB (n : Nat) : List AV → Bool
  | [] => true
  | c :: cs => AV.belowB n c && AV.belowsB n cs
end

/-- An operation that makes a block and looks at none: it may come early. -/
def IOp.floats (o : IOp) : Bool :=
  o.dst.isSome && o.guard.isNone && (o.args.all fun | .c v => AV.belowB 0 v | .t _ => true) && match o.k with
    | .alloc _ z => AV.belowsB 0 z
    | .box _ => true
    | .bslice _ z _ _ => AV.belowsB 0 z
    | _ => false

def schedGo (iops : List IOp) (pr an : List (List Nat)) : Nat → List Nat → List DItem
  | 0, _ => []
  | n + 1, done =>
    let ready := (List.range iops.length).filter fun i => !done.contains i && (pr.getD i []).all done.contains
    let small (i : Nat) : Bool := isSmall (iops.getD i badOp).k
    match ready.find? small with
    | some i => .op i :: schedGo iops pr an n (i :: done)
    | none => match ready.filter (fun i => !(iops.getD i badOp).floats) ++ ready with
      | b :: _ => .op b :: (done.filter fun j => isRead (iops.getD j badOp).k && !(an.getD b []).contains j).map .chk ++ schedGo iops pr an n (b :: done)
      | [] => []

def sched (iops : List IOp) (pr : List (List Nat)) : List DItem := schedGo iops pr (ancs [] pr) iops.length []

/-- The temporaries that an operation looks at. -/
def IOp.reads (o : IOp) : List Nat :=
  (o.args.filterMap fun | .t i => some i | .c _ => none) ++ (match o.guard with | some (t, _) => [t] | none => [])

/-- Whoever reads what another one writes is ahead of it or behind it (behind it, if it reads memory); nothing is written twice; edges lead back. -/
def okPair (an : List (List Nat)) (i d : Nat) (j : Nat) (o' : IOp) : Bool :=
  if i = j then !(isRead o'.k && o'.reads.contains d)
  else o'.dst != some d && (!(o'.reads).contains d || (!isRead o'.k && (an.getD i []).contains j) || (an.getD j []).contains i)

def okSSA (iops : List IOp) (pr an : List (List Nat)) : Bool :=
  pr.length == iops.length &&
  (pr.zipIdx.all fun (ps, i) => ps.all (· < i)) &&
  iops.zipIdx.all fun (o, i) => match o.dst with
    | none => true
    | some d => iops.zipIdx.all fun (o', j) => okPair an i d j o'

/-- Each big one is ahead of the next, or the next one floats. -/
def okBigs (iops : List IOp) (an : List (List Nat)) : List Nat → Bool
  | [] => true
  | b :: bs => bs.all (fun c => (an.getD c []).contains b || (iops.getD c badOp).floats) && okBigs iops an bs

/-- Whatever comes behind one that floats comes behind all big ones that are ahead of that one in the row. -/
def okFloats (iops : List IOp) (an : List (List Nat)) : List Nat → List Nat → Bool
  | _, [] => true
  | seen, b :: bs => (!(iops.getD b badOp).floats || ((List.range iops.length).all fun x => !(an.getD x []).contains b || seen.all (an.getD x []).contains)) && okFloats iops an (b :: seen) bs

def bigsOf (iops : List IOp) : List DItem → List Nat
  | [] => []
  | .op i :: its => if isSmall (iops.getD i badOp).k then bigsOf iops its else i :: bigsOf iops its
  | .chk _ :: its => bigsOf iops its

def opsOf : List DItem → List Nat
  | [] => []
  | .op i :: its => i :: opsOf its
  | .chk _ :: its => opsOf its

/-- At which of the states (behind so many big ones) each operation is looked at. -/
def visits (iops : List IOp) : Nat → List DItem → List (Nat × Nat)
  | _, [] => []
  | m, .op i :: its => (i, m) :: visits iops (if isSmall (iops.getD i badOp).k then m else m + 1) its
  | m, .chk i :: its => (i, m) :: visits iops m its

/-- A row of items in which each operation stands behind what is ahead of it, each look behind its operation. -/
def okRow (iops : List IOp) (pr : List (List Nat)) : List Nat → List DItem → Bool
  | _, [] => true
  | done, .op i :: rest => (iops[i]?).isSome && !done.contains i && (pr.getD i []).all done.contains && okRow iops pr (i :: done) rest
  | done, .chk i :: rest => (match iops[i]? with | some o => isRead o.k && o.dst.isSome | none => false) && done.contains i && okRow iops pr done rest

/-- Each load is looked at in every state in which it may come. -/
def okReads (iops : List IOp) (an : List (List Nat)) (bigs : List Nat) (vs : List (Nat × Nat)) : Bool :=
  iops.zipIdx.all fun (o, i) => !isRead o.k ||
    ((List.range (bigs.length + 1)).all fun m =>
      -- state m: the first m big ones have been done: can the load come there?
      !(((bigs.take m).all fun b => !(an.getD b []).contains i) && ((bigs.drop m).all fun b => !(an.getD i []).contains b)) || vs.contains (i, m))

def okSched (iops : List IOp) (pr : List (List Nat)) (its : List DItem) : Bool :=
  let an := ancs [] pr
  let bigs := bigsOf iops its
  okSSA iops pr an && okRow iops pr [] its && (List.range iops.length).all (opsOf its).contains &&
  okBigs iops an bigs && okFloats iops an [] bigs && okReads iops an bigs (visits iops 0 its)

def compReg (P : Program) (kf kt : Nat → Nat) (ops : Array Oper) (draw : Bool) : ICode :=
  match mapO (compOp P kf kt ops) ops.toList with
  | none => .bad
  | some iops =>
    if draw then
      let pr := ops.toList.map preds
      let its := sched iops pr
      if okSched iops pr its && P.follows .mixedOrders then .dreg iops its else .bad
    else .reg iops

/-! ### Code -/

def compC (P : Program) (kf kt : Nat → Nat) : Code → List (List Nat) → ICode × List (List Nat)
  | .skip, ls => (.skip, ls)
  | .label _, ls => (.skip, ls)
  | .region _ ops draw, ls => (compReg P kf kt ops draw, ls)
  | .seq a b, ls =>
    let r := compC P kf kt a ls
    let s := compC P kf kt b r.2
    (.seq r.1 s.1, s.2)
  | .cond c a b, ls =>
    let r := compC P kf kt a ls
    let s := compC P kf kt b r.2
    (match cv kf c with | some c => .cond c r.1 s.1 | none => .bad, s.2)
  | .block id c, ls => let r := compC P kf kt c ls; (.block id r.1, r.2)
  | .loop c, ls => let r := compC P kf kt c ls.tail; (.loop (ls.headD []) r.1, r.2)
  | .exit id, ls => (.exit id, ls)
  | .ret, ls => (.ret, ls)
  | _, ls => (.bad, ls)

def compRes (P : Program) : ResultVar → Option IRes
  | .tmp t => some (.tmp t)
  | .cell a t => match aggT P t with
    | some true => (sizeT P t).map (.cellN a)
    | some false => some (.cell1 a)
    | none => none

def compFn (P : Program) (kf kt : Nat → Nat) (ls : List (List Nat)) (fn : Func) : Option IFn :=
  match fn.body, mapO (compRes P) fn.results.toList with
  | some c, some rs => some (.code fn.ntmps rs (compC P kf kt c ls).1)
  | _, _ => none

end Am
