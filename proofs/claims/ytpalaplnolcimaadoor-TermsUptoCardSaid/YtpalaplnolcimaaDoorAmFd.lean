/- The evaluator by continuations: expressions, statements, functions. -/
import Derived.Test.YtpalaplnolcimaaDoorAmF
namespace Am.F
open Go Am

section
variable {β : Type}

/-! ### Joins, rounds -/

/-- What goes on with so many values, and a memory. -/
abbrev Cur (β : Type) (n : Nat) : Type := Nat.rec (H → Option β) (fun _ ih => AV → ih) n

noncomputable abbrev curry (n : Nat) : (Env → H → Option β) → Cur β n :=
  Nat.rec (motive := fun n => (Env → H → Option β) → Cur β n) (fun f => f []) (fun _ ih f x => ih fun xs => f (x :: xs)) n
noncomputable abbrev uncur (n : Nat) : Cur β n → Env → H → Option β :=
  Nat.rec (motive := fun n => Cur β n → Env → H → Option β) (fun j ce h => match ce with | [] => j h | _ => none) (fun _ ih j ce h => match ce with | x :: xs => ih (j x) xs h | [] => none) n

def fJoin (n : Nat) (j : Cur β n) (b : Cur β n → Option β) : Option β := b j
noncomputable def fLoop (n N : Nat) (F : Cur β n → Cur β n) : Cur β n := Nat.rec (motive := fun _ => Cur β n) (curry n fun _ _ => none) (fun _ ih => F ih) N
noncomputable def fIf (v : AV) (a b : Option β) : Option β := aBool v fun x => cond x a b
noncomputable def fAnd (v : AV) (h : H) (b : H → K β → Option β) (k : K β) : Option β := aBool v fun x => cond x (b h k) (k (.bool false) h)
noncomputable def fOr (v : AV) (h : H) (b : H → K β → Option β) (k : K β) : Option β := aBool v fun x => cond x (k (.bool true) h) (b h k)
noncomputable def fGrd (v : AV) (want : Bool) (h : H) (act : H → K β → Option β) (k : K β) : Option β := match v with
  | .bool b => cond b (cond want (act h k) (k (.tup []) h)) (cond want (k (.tup []) h) (act h k))
  | .tup _ => k (.tup []) h
  | _ => none

noncomputable def fChk (v w : AV) (c : Option β) : Option β := cond (AV.beq v w) c none

/-! ### Code -/

noncomputable abbrev fE (call : FCall β) (e : SE) : Env → H → K β → Option β :=
  SE.rec (motive_1 := fun _ => Env → H → K β → Option β) (motive_2 := fun _ => Env → H → (List AV → H → Option β) → Option β)
    (fun x _ ce h k => k (nth ce x) h)
    (fun c _ h k => k c h)
    (fun _ f _ ih ce h k => ih ce h fun vs h => fAp call f vs h k)
    (fun _ f _ _ iha ihb ce h k => ihb ce h fun vb h => iha ce h fun va h => fAp call f [va, vb] h k)
    (fun _ _ _ _ iha ihb ce h k => iha ce h fun v h => fAnd v h (fun h k => ihb ce h k) k)
    (fun _ _ _ _ iha ihb ce h k => iha ce h fun v h => fOr v h (fun h k => ihb ce h k) k)
    (fun _ h k => k [] h)
    (fun _ _ ihx ihs ce h k => ihx ce h fun v h => ihs ce h fun vs h => k (v :: vs) h) e

noncomputable abbrev fEs (call : FCall β) (es : List SE) : Env → H → (List AV → H → Option β) → Option β :=
  SE.rec_1 (motive_1 := fun _ => Env → H → K β → Option β) (motive_2 := fun _ => Env → H → (List AV → H → Option β) → Option β)
    (fun x _ ce h k => k (nth ce x) h)
    (fun c _ h k => k c h)
    (fun _ f _ ih ce h k => ih ce h fun vs h => fAp call f vs h k)
    (fun _ f _ _ iha ihb ce h k => ihb ce h fun vb h => iha ce h fun va h => fAp call f [va, vb] h k)
    (fun _ _ _ _ iha ihb ce h k => iha ce h fun v h => fAnd v h (fun h k => ihb ce h k) k)
    (fun _ _ _ _ iha ihb ce h k => iha ce h fun v h => fOr v h (fun h k => ihb ce h k) k)
    (fun _ h k => k [] h)
    (fun _ _ ihx ihs ce h k => ihx ce h fun v h => ihs ce h fun vs h => k (v :: vs) h) es

noncomputable abbrev fS1 (call : FCall β) (s : SS) (ce : Env) (h : H) (k : Env → H → Option β) : Option β := match s with
  | .set x e => fE call e ce h fun v h => k (putN ce x v) h
  | .ef e => fE call e ce h fun _ h => k ce h

noncomputable abbrev fSS (call : FCall β) (ss : List SS) : Env → H → (Env → H → Option β) → Option β :=
  List.rec (motive := fun _ => Env → H → (Env → H → Option β) → Option β) (fun ce h k => k ce h)
    (fun s _ ih ce h k => fS1 call s ce h fun ce h => ih ce h k) ss

noncomputable abbrev fKeep (live : List Nat) (ce : Env) (i : Nat) : Env :=
  List.rec (motive := fun _ => Nat → Env) (fun _ => []) (fun v _ ih i => cond (live.contains i) v .any :: ih (Nat.succ i)) ce i

noncomputable abbrev fOpd (ce : Env) (p : Opd) : AV := match p with | .t i => nth ce i | .c v => v

noncomputable abbrev fOp (call : FCall β) (o : IOp) (ce : Env) (h : H) (k : K β) : Option β :=
  match o.guard with
  | none => fAp call o.k (o.args.map (fOpd ce)) h k
  | some g => fGrd (nth ce g.1) g.2 h (fun h k => fAp call o.k (o.args.map (fOpd ce)) h k) k

noncomputable abbrev fPut (d : Option Nat) (ce : Env) (v : AV) : Env := match d with | some d => putN ce d v | none => ce

noncomputable abbrev fIts (call : FCall β) (ops : List IOp) (its : List DItem) : Env → H → (Env → H → Option β) → Option β :=
  List.rec (motive := fun _ => Env → H → (Env → H → Option β) → Option β) (fun ce h k => k ce h)
    (fun it _ ih ce h k => match it with
      | .op i => (match ops[i]? with
        | some o => fOp call o ce h fun v h => ih (fPut o.dst ce v) h k
        | none => none)
      | .chk i => (match ops[i]? with
        | some o => (match o.dst with
          | some d => fOp (fun _ _ _ _ => none) o ce h fun v _ => fChk v (nth ce d) (ih ce h k)
          | none => none)
        | none => none)) its

/-- Does control part in it? -/
abbrev br : SC → Bool
  | .skip | .ret | .reg _ | .dreg _ _ _ | .exit _ => false
  | .seq a b => br a || br b
  | _ => true

noncomputable abbrev fC (call : FCall β) (N nv : Nat) (c : SC) : Env → H → (Env → H → Option β) → (Env → H → Option β) → (Nat → Env → H → Option β) → Option β :=
  SC.rec (motive := fun _ => Env → H → (Env → H → Option β) → (Env → H → Option β) → (Nat → Env → H → Option β) → Option β)
    (fun ce h kn _ _ => kn ce h)
    (fun ce h _ kr _ => kr ce h)
    (fun ss ce h kn _ _ => fSS call ss ce h kn)
    (fun lv ops its ce h kn _ _ => fIts call ops its (appF ce (List.replicate lv.length (.tup []))) h fun ce h => kn (takeF nv ce) h)
    (fun a _ iha ihb ce h kn kr kx => cond (br a) (fJoin nv (curry nv fun ce h => ihb ce h kn kr kx) fun j => iha ce h (uncur nv j) kr kx) (iha ce h (fun ce h => ihb ce h kn kr kx) kr kx))
    (fun c _ _ iha ihb ce h kn kr kx => fIf (fOpd ce c) (iha ce h kn kr kx) (ihb ce h kn kr kx))
    (fun ss e _ _ iha ihb ce h kn kr kx => fSS call ss ce h fun ce h => fE call e ce h fun v h => fIf v (iha ce h kn kr kx) (ihb ce h kn kr kx))
    (fun id _ ih ce h kn kr kx => ih ce h kn kr fun id' ce h => cond (Nat.beq id' id) (kn ce h) (kx id' ce h))
    (fun live _ ih ce h _ kr kx => uncur nv (fLoop nv N fun again => curry nv fun ce h => ih (fKeep live ce 0) h (uncur nv again) kr kx) ce h)
    (fun id ce h _ _ kx => kx id ce h) c

noncomputable abbrev fRes (res : List IRes) (ce : Env) (h : H) (k : List AV → Option β) : Option β :=
  List.rec (motive := fun _ => (List AV → Option β) → Option β) (fun k => k [])
    (fun r _ ih k => match r with
      | .tmp t => ih fun vs => k (nth ce t :: vs)
      | .cell1 t => fLoad1 (nth ce t) h fun v => ih fun vs => k (v :: vs)
      | .cellN t n => fLoadN n (nth ce t) h fun v => ih fun vs => k (v :: vs)) res k

abbrev FI : Type := Nat → List AV → H → Option (AV × H)

noncomputable def fInt (I : FI) (g : Nat) (args : List AV) (h : H) (k : K β) : Option β := oSome (I g args h) fun r => k r.1 r.2

noncomputable abbrev fBody (I : FI) (g : Nat) (fn : SFn) (N : Nat) (call : FCall β) (args : List AV) (h : H) (k : K β) : Option β := match fn with
  | .src _ vm res body => fC call N (lenF vm) body (vm.map (nth args)) h (fun ce h => fRes res ce h fun vs => k (one vs) h) (fun ce h => fRes res ce h fun vs => k (one vs) h) fun _ _ _ => none
  | .intr _ => fInt I g args h k

noncomputable def fRun (T : Nat → Option SFn) (I : FI) (n : Nat) : FCall β :=
  Nat.rec (motive := fun _ => FCall β) (fun _ _ _ _ => none)
    (fun n call f args h k => match f with
      | .fn g caps => (match T g with
        | some fn => fBody I g fn n call (appF args caps) h k
        | none => none)
      | _ => none) n
end
end Am.F
