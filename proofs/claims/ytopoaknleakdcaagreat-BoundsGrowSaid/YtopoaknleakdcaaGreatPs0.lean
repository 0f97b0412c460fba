/- A part of the evaluator over typed open values for any program, and of the proof that it is sound. No condition. -/
import GoSem.Step
import Derived.Test.YtopoaknleakdcaaGreatPp0
import Derived.Test.YtopoaknleakdcaaGreatPp4
set_option linter.unusedVariables false
namespace Go.Proofs.YtopoaknleakdcaaGreat.Sv
/-! Words of a decompiled function: every one a plain Lean function. -/
section
variable {α β γ : Type}
/-- go on if c holds, else fail -/
def gd (c : Bool) (k : Unit → Option β) : Option β := bif c then k () else none
def br (c : Bool) (a b : Unit → Option β) : Option β := bif c then a () else b ()
def ix (l : List α) (i : Nat) (k : α → Option β) : Option β := match l[i]? with
  | some x => k x
  | none => none
/-- a number that is not negative -/
def nat (n : Int) (k : Nat → Option β) : Option β := bif decide (0 ≤ n) then k n.toNat else none
def bd (m : Option α) (k : α → Option β) : Option β := match m with
  | some x => k x
  | none => none
inductive LR (α β : Type) where
  | nx (s : α)
  | dn (x : β)
def loopN : Nat → (α → Option (LR α β)) → α → Option β
  | 0, _, _ => none
  | n + 1, f, s => match f s with
    | none => none
    | some (.nx s) => loopN n f s
    | some (.dn x) => some x
def loop (f : α → Option (LR α β)) (s : α) : Option β := loopN 18446744073709551616 f s

/-- code that goes on, or ends otherwise: each comes together again -/
def jn {δ : Type} (f : α → Option (LR δ γ)) (s : α) (k : δ → Option β) (k2 : γ → Option β) : Option β := match f s with
  | none => none
  | some (.nx x) => k x
  | some (.dn x) => k2 x

def iadd (k : IntKind) (a b : Int) : Int := k.wrap (a + b)
def isub (k : IntKind) (a b : Int) : Int := k.wrap (a - b)
def imul (k : IntKind) (a b : Int) : Int := k.wrap (a * b)
def iquo (k : IntKind) (a b : Int) : Int := k.wrap (a.tdiv b)
def irem (_ : IntKind) (a b : Int) : Int := a.tmod b
def iand (k : IntKind) (a b : Int) : Int := k.wrap (BitVec.ofInt k.bits a &&& BitVec.ofInt k.bits b).toNat
def ior (k : IntKind) (a b : Int) : Int := k.wrap (BitVec.ofInt k.bits a ||| BitVec.ofInt k.bits b).toNat
def ixor (k : IntKind) (a b : Int) : Int := k.wrap (BitVec.ofInt k.bits a ^^^ BitVec.ofInt k.bits b).toNat
def ishl (k : IntKind) (a b : Int) : Int := k.wrap (a * 2 ^ (min b.toNat k.bits))
def ishr (k : IntKind) (a b : Int) : Int := a.fdiv (2 ^ (min b.toNat k.bits))
def ineg (k : IntKind) (a : Int) : Int := k.wrap (0 - a)
def icv (k : IntKind) (a : Int) : Int := k.wrap a
def ieq (a b : Int) : Bool := a == b
def ine (a b : Int) : Bool := a != b
def ilt (a b : Int) : Bool := decide (a < b)
def ile (a b : Int) : Bool := decide (a ≤ b)
def igt (a b : Int) : Bool := decide (a > b)
def ige (a b : Int) : Bool := decide (a ≥ b)
def imx (a b : Int) : Int := if b > a then b else a
def imn (a b : Int) : Int := if b < a then b else a
def bnot (a : Bool) : Bool := !a
def band (a b : Bool) : Bool := a && b
def beq (a b : Bool) : Bool := a == b
def nti (n : Nat) : Int := n
def nadd (a b : Nat) : Nat := a + b
def nsub (a b : Nat) : Nat := a - b
def nle (a b : Nat) : Bool := Nat.ble a b
def nlt (a b : Nat) : Bool := Nat.blt a b
def neq (a b : Nat) : Bool := Nat.beq a b
def nmin (a b : Nat) : Nat := Nat.min a b
def slen (l : List UInt8) : Nat := l.length
def sapp (a b : List UInt8) : List UInt8 := a ++ b
def seq (a b : List UInt8) : Bool := a == b
def slt (a b : List UInt8) : Bool := Op.bytesLess a b
def ssub (l : List UInt8) (lo hi : Nat) : List UInt8 := (l.drop lo).take (hi - lo)
def u8i (b : UInt8) : Int := b.toNat
def llen (l : List α) : Nat := l.length
def lapp (a b : List α) : List α := a ++ b
def lsub (l : List α) (lo hi : Nat) : List α := (l.drop lo).take (hi - lo)
def lset (l : List α) (i : Nat) (x : α) : List α := l.set i x
def lrep (n : Nat) (x : α) : List α := List.replicate n x
/-- x's first n entries over l, from off on -/
def lcpy (l : List α) (off : Nat) (x : List α) (n : Nat) : List α := l.take off ++ (x.take n ++ l.drop (off + (x.take n).length))
def mget (e : γ → γ → Bool) : List (γ × α) → γ → Option α
  | [], _ => none
  | (k, v) :: l, x => bif e x k then some v else mget e l x
def mput (e : γ → γ → Bool) : List (γ × α) → γ → α → List (γ × α)
  | [], x, y => [(x, y)]
  | (k, v) :: l, x, y => bif e x k then (x, y) :: l else (k, v) :: mput e l x y
def mdel (e : γ → γ → Bool) : List (γ × α) → γ → List (γ × α)
  | [], _ => []
  | (k, v) :: l, x => bif e x k then l else (k, v) :: mdel e l x
def oget (o : Option α) (z : α) : α := o.getD z
def ois (o : Option α) : Bool := o.isSome
end
end Go.Proofs.YtopoaknleakdcaaGreat.Sv
namespace Go.Proofs.YtopoaknleakdcaaGreat.Sv
open Go.Proofs.YtopoaknleakdcaaGreat.Pi (PV T DF UM PE lget)
/-! Values with a known shape whose numbers, strings and lists are open terms. -/
inductive Ty where
  | int (k : IntKind)
  | bool
  | str
  | unit
  | pair (a b : Ty)
  | sl (g : Bool) (c : Ty)
  deriving DecidableEq
@[reducible] def Ty.den : Ty → Type
  | .int _ => Int
  | .bool => Bool
  | .str => List UInt8
  | .unit => Unit
  | .pair a b => a.den × b.den
  | .sl _ c => List c.den

inductive V where
  | bool (b : Bool)
  | int (k : IntKind) (n : Int)
  | str (l : List UInt8)
  | nilp | nils | nilm | nilf | nili
  | agg (cs : List V)
  | tup (vs : List V)
  | lf (full g : Bool) (c : Ty) (l : List c.den)
  | exl (full : Bool) (es : List V)
  | ow (id : Nat)
  | own (id off len : Nat)
  | ptr (id off : Nat)
  | ept (id i off : Nat)
  | view (cs : List V)
  | fn (f : Fn) (first captured : List V)
  | yl (id : Nat)
  | ifc (t : TypeId) (v : V)
  | mp (id : Nat)

structure PEA where
  v : V
  recovered : Bool
inductive UMA where
  | ret
  | pan (ch : List PEA)
inductive DFA where
  | call (f : V) (args : List V)
  | bi (b : Builtin) (ats : Array TypeId) (ty : TypeId) (args : List V)
  | col (id : Nat)
inductive ExA where
  | normal
  | exit (id : Nat)
  | goto (l : Nat)
  | ret
  | panic (v : V)
inductive BA where
  | box (cs : List V) (fz lk : Bool)
  | row (g : Bool) (c : Ty) (l : List c.den) (ex fz lk : Bool)
  | mp (k : Ty) (g : Bool) (c : Ty) (l : List (k.den × c.den)) (lk : Bool)
  | lp (st : Nat) (pend : Option Code) (nt : Nat) (t : T V) (ps : List Nat) (asg body : Code) (d : Nat)
  | df (ds : Option (List DFA))
  | dead
abbrev H := T BA
structure FrA where
  t : T V
  nt : Nat
  ds : List DFA
  up : Option UMA
  ro : Option Nat
inductive OutA where
  | ret (v : V)
  | pan (ch : List PEA)

def V.cells : V → List V
  | .agg cs => cs
  | .tup _ => []
  | v => [v]
def cells : (c : Ty) → c.den → List V
  | .int k, n => [.int k n]
  | .bool, b => [.bool b]
  | .str, s => [.str s]
  | .unit, _ => []
  | .pair a b, x => cells a x.1 ++ cells b x.2
  | .sl g c, l => [.lf false g c l]
def elV (g : Bool) (c : Ty) (x : c.den) : V := bif g then .agg (cells c x) else match cells c x with
  | [v] => v
  | _ => .nilp
def zeroT : (c : Ty) → c.den
  | .int _ => (0 : Int)
  | .bool => false
  | .str => []
  | .unit => ()
  | .pair a b => (zeroT a, zeroT b)
  | .sl _ _ => []
def Ty.depth : Ty → Nat
  | .pair a b => Nat.max a.depth b.depth
  | .sl _ c => c.depth + 1
  | _ => 0
/-- how many cells -/
def Ty.wd : Ty → Nat
  | .unit => 0
  | .pair a b => a.wd + b.wd
  | _ => 1
def Ty.hasSl : Ty → Bool
  | .pair a b => a.hasSl || b.hasSl
  | .sl _ _ => true
  | _ => false
/-- the code of a type: is it a struct or array, its cells -/
def tyOf (P : Program) : Nat → TypeId → Option (Bool × Ty)
  | 0, _ => none
  | d + 1, t => match P.underlying t with
    | some (.int k) => some (false, .int k)
    | some .bool => some (false, .bool)
    | some .string => some (false, .str)
    | some (.slice e) => (tyOf P d e).map fun (g, c) => (false, .sl g c)
    | some (.struct fs) => (go d fs.toList).map fun c => (true, c)
    | some (.array n e) => (tyOf P d e).map fun (_, c) => (true, rep n c)
    | _ => none
where
  go (d : Nat) : List Field → Option Ty
    | [] => some .unit
    | [f] => (tyOf P d f.type).map (·.2)
    | f :: fs => match tyOf P d f.type, go d fs with
      | some (_, c), some r => some (.pair c r)
      | _, _ => none
  rep : Nat → Ty → Ty
    | 0, _ => .unit
    | 1, c => c
    | n + 1, c => .pair c (rep n c)
def tyD : Nat := 14

section
variable {β : Type}
def castK {c c' : Ty} (l : List c.den) (K : List c'.den → Option β) : Option β := if e : c = c' then K (e ▸ l) else none
def castM {k c k' c' : Ty} (l : List (k.den × c.den)) (K : List (k'.den × c'.den) → Option β) : Option β :=
  if e : k = k' then if e2 : c = c' then K (e ▸ e2 ▸ l) else none else none
/-- each entry of a list by d -/
def decEs {α : Type} (d : V → (α → Option β) → Option β) : List V → (List α → Option β) → Option β
  | [], K => K []
  | v :: vs, K => d v fun x => decEs d vs fun l => K (x :: l)
/-- typed cells out of values; what is left over is handed on -/
def decC (h : H) : (c : Ty) → List V → (c.den → List V → Option β) → Option β
  | .int k, vs, K => match vs with
    | .int k' n :: r => bif k == k' then K n r else none
    | _ => none
  | .bool, vs, K => match vs with
    | .bool b :: r => K b r
    | _ => none
  | .str, vs, K => match vs with
    | .str s :: r => K s r
    | _ => none
  | .unit, vs, K => K () vs
  | .pair a b, vs, K => decC h a vs fun x r => decC h b r fun y r => K (x, y) r
  | .sl g c, vs, K => match vs with
    | .nils :: r => K [] r
    | .lf _ g' _ l :: r => bif g == g' then castK l fun l => K l r else none
    | .exl _ es :: r => decEs (fun v K => bif g then (match v with
        | .agg cs => decC h c cs fun x q => match q with
          | [] => K x
          | _ => none
        | _ => none) else decC h c [v] fun x q => match q with
          | [] => K x
          | _ => none) es fun l => K l r
    | .ow id :: r => match h.get id with
      | some (.row g' _ l _ _ _) => bif g == g' then castK l fun l => K l r else none
      | _ => none
    | .own id off len :: r => match h.get id with
      | some (.row g' _ l _ _ _) => bif g == g' then gd (nle (nadd off len) (llen l)) fun _ => castK (lsub l off (nadd off len)) fun l => K l r else none
      | _ => none
    | _ => none
def decE (h : H) (g : Bool) (c : Ty) (v : V) (K : c.den → Option β) : Option β := bif g then (match v with
    | .agg cs => decC h c cs fun x q => match q with
      | [] => K x
      | _ => none
    | _ => none) else decC h c [v] fun x q => match q with
      | [] => K x
      | _ => none
end

def cellOfA : Value → Option V
  | .bool b => some (.bool b)
  | .int k n => some (.int k n)
  | .string s => some (.str s.data.toList)
  | .pointer none => some .nilp
  | .slice none 0 0 => some .nils
  | .map none => some .nilm
  | .nilFunc => some .nilf
  | .nilIface => some .nili
  | .func (.func f) first cap => if first.isEmpty && cap.isEmpty then some (.fn (.func f) [] []) else none
  | _ => none
def cellsOfA : List Value → Option (List V)
  | [] => some []
  | v :: l => match cellOfA v, cellsOfA l with
    | some p, some ps => some (p :: ps)
    | _, _ => none
def ofValA : Value → Option V
  | .agg cs => (cellsOfA cs.toList).map .agg
  | .tuple vs => bif vs.isEmpty then some (.tup []) else none
  | .iface t v => match cellOfA v with
    | some p => some (.ifc t p)
    | none => none
  | v => cellOfA v
def zeroCellsA (P : Program) (t : TypeId) : Option (List V) := match P.info? t with
  | some i => match i.zero with
    | some z => cellsOfA z.cells.toList
    | none => none
  | none => none
def zeroElA (P : Program) (e : TypeId) : Option V := match P.info? e with
  | some i => match i.zero with
    | some z => ofValA z
    | none => none
  | none => none
/-- the value of type t in the first cells -/
def partA (P : Program) (t : TypeId) (cs : List V) : Option V := match Pi.tagg P t, Pi.tsize P t with
  | some true, some n => bif Nat.ble n cs.length then some (.agg (cs.take n)) else none
  | some false, some _ => match cs with
    | c :: _ => some c
    | [] => none
  | _, _ => none
def hput (h : H) (id : Nat) (b : BA) : H := T.put 20 h id b
def fputL (cs : List V) (off : Nat) (x : List V) : List V := cs.take off ++ (x ++ cs.drop (off + x.length))

inductive RA where
  | val (v : V) (h : H)
  | skip (h : H)
  | call (f : FuncId) (args : List V)
  | yield (id : Nat) (args : List V)
  | pan (v : V)
  | rcv
  | dfr (d : DFA)

section
variable {β : Type}
def opt {α : Type} (o : Option α) (K : α → Option β) : Option β := match o with
  | some x => K x
  | none => none
def evsA (t : T V) (o : Operand) (K : V → Option β) : Option β := match o with
  | .tmp k => opt (t.get k) K
  | .const v => opt (ofValA v) K
  | .func f => K (.fn (.func f) [] [])
  | .global _ => none
def evlA (t : T V) : List Operand → (List V → Option β) → Option β
  | [], K => K []
  | o :: l, K => evsA t o fun v => evlA t l fun vs => K (v :: vs)
def evoA (t : T V) (o : Option Operand) (K : Option V → Option β) : Option β := match o with
  | none => K none
  | some o => evsA t o fun v => K (some v)
def natV (v : V) (K : Nat → Option β) : Option β := match v with
  | .int _ n => nat n K
  | _ => none
def natOrV (d : Nat) (o : Option V) (K : Nat → Option β) : Option β := match o with
  | none => K d
  | some v => natV v K
def nat64V (v : V) (K : Nat → Option β) : Option β := match v with
  | .int .i64 n => nat n K
  | _ => none

def intA (op : BinOp) (k : IntKind) (a b : Int) (K : V → Option β) : Option β := match op with
  | .add => K (.int k (iadd k a b))
  | .sub => K (.int k (isub k a b))
  | .mul => K (.int k (imul k a b))
  | .quo => gd (ine b 0) fun _ => K (.int k (iquo k a b))
  | .rem => gd (ine b 0) fun _ => K (.int k (irem k a b))
  | .eql => K (.bool (ieq a b))
  | .neq => K (.bool (ine a b))
  | .lss => K (.bool (ilt a b))
  | .leq => K (.bool (ile a b))
  | .gtr => K (.bool (igt a b))
  | .geq => K (.bool (ige a b))
  | .and => K (.int k (iand k a b))
  | .or => K (.int k (ior k a b))
  | .xor => K (.int k (ixor k a b))
  | _ => none
def shiftA (op : BinOp) (k : IntKind) (a b : Int) (K : V → Option β) : Option β := match op with
  | .shl => gd (ige b 0) fun _ => K (.int k (ishl k a b))
  | .shr => gd (ige b 0) fun _ => K (.int k (ishr k a b))
  | _ => none
def strA (op : BinOp) (a b : List UInt8) (K : V → Option β) : Option β := match op with
  | .add => gd (nle (nadd (slen a) (slen b)) 1000000000) fun _ => K (.str (sapp a b))
  | .eql => K (.bool (seq a b))
  | .neq => K (.bool (bnot (seq a b)))
  | .lss => K (.bool (slt a b))
  | .leq => K (.bool (bnot (slt b a)))
  | .gtr => K (.bool (slt b a))
  | .geq => K (.bool (bnot (slt a b)))
  | _ => none
end
mutual
/-- '==' at a type -/
def eqT (P : Program) : Nat → TypeId → V → V → Option Bool
  | 0, _, _, _ => none
  | d + 1, t, x, y => match P.underlying t with
    | some .bool => match x, y with
      | .bool a, .bool b => some (beq a b)
      | _, _ => none
    | some (.int _) => match x, y with
      | .int k a, .int k' b => bif k == k' then some (ieq a b) else none
      | _, _ => none
    | some .string => match x, y with
      | .str a, .str b => some (seq a b)
      | _, _ => none
    | some (.pointer _) => match x, y with
      | .nilp, .nilp => some true
      | .nilp, .ptr _ _ | .nilp, .view _ | .nilp, .ept _ _ _ | .ptr _ _, .nilp | .view _, .nilp | .ept _ _ _, .nilp => some false
      | _, _ => none
    | some (.slice _) => match x, y with
      | .nils, .nils => some true
      | _, _ => none
    | some (.func _ _ _) => match x, y with
      | .nilf, .nilf => some true
      | .nilf, .fn _ _ _ | .fn _ _ _, .nilf => some false
      | _, _ => none
    | some (.interface _) => match x, y with
      | .nili, .nili => some true
      | .nili, .ifc _ _ | .ifc _ _, .nili => some false
      | .ifc t a, .ifc t' b => bif Nat.beq t t' then (match P.info? t with
          | some i => bif i.comparable then eqT P d t a b else none
          | none => none) else some false
      | _, _ => none
    | some (.struct fs) => match x, y with
      | .agg a, .agg b => bif P.stoodInHeld t then none else eqTs P d fs.toList a b
      | _, _ => none
    | some (.array n e) => match x, y with
      | .agg a, .agg b => bif (Pi.tsize P e).isSome then eqTa P d n e a b else none
      | _, _ => none
    | _ => none
def eqTs (P : Program) : Nat → List Field → List V → List V → Option Bool
  | 0, _, _, _ => none
  | _ + 1, [], _, _ => some true
  | d + 1, f :: fs, a, b => bif f.name == "_" then eqTs P d fs a b else match partA P f.type (a.drop f.offset), partA P f.type (b.drop f.offset) with
    | some x, some y => (match eqT P d f.type x y, eqTs P d fs a b with
      | some c, some r => some (band c r)
      | _, _ => none)
    | _, _ => none
def eqTa (P : Program) : Nat → Nat → TypeId → List V → List V → Option Bool
  | 0, _, _, _, _ => none
  | _ + 1, 0, _, _, _ => some true
  | d + 1, n + 1, e, a, b => match Pi.tsize P e, partA P e a, partA P e b with
    | some s, some x, some y => (match eqT P d e x y, eqTa P d n e (a.drop s) (b.drop s) with
      | some c, some r => some (band c r)
      | _, _ => none)
    | _, _, _ => none
end
section
variable {β : Type}
def binA (P : Program) (op : BinOp) (ty : TypeId) (x y : Operand) (a b : V) (K : V → Option β) : Option β := match a, b with
  | .int k a, .int k' b => match op with
    | .shl | .shr => shiftA op k a b K
    | _ => bif k == k' then intA op k a b K else none
  | .str a, .str b => strA op a b K
  | .nili, .nili => bif Pi.isConstO x || Pi.isConstO y then opt (eqT P 64 ty .nili .nili) fun c => (match op with
    | .eql => K (.bool c)
    | .neq => K (.bool (bnot c))
    | _ => none) else none
  | .agg a, .agg b => bif P.eqGuardType P.depth ty then none else opt (eqT P 64 ty (.agg a) (.agg b)) fun c => (match op with
    | .eql => K (.bool c)
    | .neq => K (.bool (bnot c))
    | _ => none)
  | a, b => opt (eqT P 64 ty a b) fun c => match op with
    | .eql => K (.bool c)
    | .neq => K (.bool (bnot c))
    | _ => none
def unA (op : UnOp) (a : V) (K : V → Option β) : Option β := match a with
  | .bool b => match op with
    | .not => K (.bool (bnot b))
    | _ => none
  | .int k n => match op with
    | .neg => K (.int k (ineg k n))
    | _ => none
  | _ => none

/-- frozen values: what is own becomes data; the blocks that were met -/
def purA (h : H) : Nat → V → (V → List Nat → Option β) → Option β
  | 0, _, _ => none
  | n + 1, v, K => match v with
    | .agg cs => purAs (purA h n) cs fun x l => K (.agg x) l
    | .tup cs => purAs (purA h n) cs fun x l => K (.tup x) l
    | .ifc t x => purA h n x fun x l => K (.ifc t x) l
    | .fn f a b => purAs (purA h n) a fun a l => purAs (purA h n) b fun b m => K (.fn f a b) (l ++ m)
    | .lf _ g c l => bif Nat.ble (2 * c.depth + 3) (n + 7) then K (.lf false g c l) [] else none
    | .ow id => match h.get id with
      | some (.row g c l _ _ _) => bif Nat.ble (2 * c.depth + 3) (n + 7) then K (.lf false g c l) [id] else none
      | _ => none
    | .own id off len => match h.get id with
      | some (.row g c l _ _ _) => bif Nat.ble (2 * c.depth + 3) (n + 7) then gd (nle (nadd off len) (llen l)) fun _ => K (.lf false g c (lsub l off (nadd off len))) [id] else none
      | _ => none
    | .ptr _ _ | .view _ | .ept _ _ _ | .yl _ | .mp _ => none
    | v => K v []
where
  purAs (p : V → (V → List Nat → Option β) → Option β) : List V → (List V → List Nat → Option β) → Option β
    | [], K => K [] []
    | v :: vs, K => p v fun x l => purAs p vs fun xs m => K (x :: xs) (l ++ m)
def pursA (h : H) : List V → (List V → List Nat → Option β) → Option β
  | [], K => K [] []
  | v :: vs, K => purA h 6 v fun x l => pursA h vs fun xs m => K (x :: xs) (l ++ m)
end
def freezeA (h : H) : List Nat → Option H
  | [] => some h
  | id :: l => match h.get id with
    | some (.row g c x ex fz lk) => bif fz then freezeA h l else bif lk then none else freezeA (hput h id (.row g c x ex true false)) l
    | _ => none

def fillPA (cs : List V) : List (Nat × Nat × List V) → Option (List V)
  | [] => some cs
  | (off, n, x) :: r => bif Nat.beq x.length n && Nat.ble (off + n) cs.length then fillPA (fputL cs off x) r else none
def fillEA (size : Nat) (es : List V) : List (Nat × V) → Option (List V)
  | [] => some es
  | (i, v) :: r => bif Nat.beq v.cells.length size && Nat.blt i es.length then fillEA size (Pi.lset es i v) r else none
def placesOfA (P : Program) (fs : Array Field) : List (Nat × V) → Option (List (Nat × Nat × List V))
  | [] => some []
  | (i, p) :: l => match fs[i]?, placesOfA P fs l with
    | some f, some r => (match Pi.tsize P f.type with
      | some n => bif Nat.blt 0 n then some ((f.offset, n, p.cells) :: r) else none
      | none => none)
    | _, _ => none
def placesArrA (size : Nat) : List (Nat × V) → List (Nat × Nat × List V)
  | [] => []
  | (i, p) :: l => (i * size, size, p.cells) :: placesArrA size l
def mkElA (isAgg : Bool) (cs : List V) : Option V :=
  bif isAgg then some (.agg cs) else match cs with
    | [c] => some c
    | _ => none
/-- the code of a slice's entries -/
def elTy (P : Program) (st : TypeId) : Option (Bool × Ty) := match P.underlying st with
  | some (.slice e) => tyOf P tyD e
  | _ => none
def keq : (k : Ty) → Option (k.den → k.den → Bool)
  | .int _ => some (fun (a b : Int) => ieq a b)
  | .bool => some (fun (a b : Bool) => beq a b)
  | .str => some (fun (a b : List UInt8) => seq a b)
  | _ => none

section
variable {β : Type}
def partsOfA (t : T V) : List (Nat × Operand) → (List (Nat × V) → Option β) → Option β
  | [], K => K []
  | (i, o) :: l, K => evsA t o fun v => partsOfA t l fun r => K ((i, v) :: r)
/-- k stands for one of the n numbers from i on -/
def pickN (k : Nat) : Nat → Nat → (Nat → Option β) → Option β
  | 0, _, _ => none
  | 1, i, K => gd (neq k i) fun _ => K i
  | n + 1, i, K => br (neq k i) (fun _ => K i) fun _ => pickN k n (i + 1) K

/-- the entries that a slice holds, typed -/
def elemsA (h : H) (g : Bool) (c : Ty) (v : V) (K : List c.den → Option β) : Option β := decC h (.sl g c) [v] fun l _ => K l
/-- the sizes of a slice's entries are as append asks -/
def elOkA (P : Program) (st : TypeId) (c : Ty) : Bool := match P.underlying st with
  | some (.slice e) => (match P.info? e, Pi.zeroCells P e with
    | some ti, some z => Nat.beq ti.size c.wd && Nat.ble ti.bytes 1048576 && Nat.beq z.length ti.size && Nat.blt 0 ti.size
    | _, _ => false)
  | _ => false
def appA (P : Program) (h : H) (id : Nat) (st : TypeId) (s x : V) (K : RA → Option β) : Option β :=
  opt (elTy P st) fun (g, c) => bif elOkA P st c then elemsA h g c x fun new => match s with
    | .nils => gd (nle (llen new) 1048576) fun _ => K (.val (.ow id) (hput h id (.row g c new false false false)))
    | .lf true g' _ l => bif g == g' then gd (nle (nadd (llen l) (llen new)) 1048576) fun _ => castK l fun l => (match x with
      | .exl _ (_ :: _) => K (.val (.ow id) (hput h id (.row g c (lapp l new) false false false)))
      | _ => none) else none
    | .exl true [] => gd (nle (llen new) 1048576) fun _ => K (.val (.ow id) (hput h id (.row g c new false true false)))
    | .ow j => match h.get j with
      | some (.row g' _ l ex fz lk) => bif !(g == g') || lk then none else castK l fun l => gd (nle (nadd (llen l) (llen new)) 1048576) fun _ =>
        bif ex then (match x with
          | .exl _ (_ :: _) => K (.val (.ow id) (hput h id (.row g c (lapp l new) false false false)))
          | _ => none)
        else K (.val (.ow id) (hput (hput h j .dead) id (.row g c (lapp l new) false fz false)))
      | _ => none
    | _ => none
  else none
def lenA (P : Program) (h : H) (t : TypeId) (v : V) (K : Int → Option β) : Option β := match P.underlying t, v with
  | some (.map _ _), .mp j => (match h.get j with
    | some (.mp _ _ _ l _) => K (nti (llen l))
    | _ => none)
  | some (.map _ _), .nilm => K 0
  | some (.array n _), _ => K n
  | some (.slice _), .nils => K 0
  | some (.slice _), .lf _ _ _ l => K (nti (llen l))
  | some (.slice _), .exl _ es => K es.length
  | some (.slice _), .ow j => (match h.get j with
    | some (.row _ _ l _ _ _) => K (nti (llen l))
    | _ => none)
  | some (.slice _), .own _ _ len => K (nti len)
  | some .string, .str l => K (nti (slen l))
  | _, _ => none
def foldA (f : Int → Int → Int) (k : IntKind) : Int → List V → (Int → Option β) → Option β
  | m, [], K => K m
  | m, .int k' y :: l, K => bif k == k' then foldA f k (f m y) l K else none
  | _, _, _ => none
def keyOk : Ty → TypeDesc → Bool
  | .int _, .int _ => true
  | .bool, .bool => true
  | .str, .string => true
  | _, _ => false
def keyA (P : Program) (ty : TypeId) (m v : V) (h : H) (K : (j : Nat) → (k : Ty) → (g : Bool) → (c : Ty) → List (k.den × c.den) → Bool → (k.den → k.den → Bool) → k.den → Option β) : Option β :=
  match P.underlying ty, m with
  | some (.map kt _), .mp j => match P.underlying kt, h.get j with
    | some d, some (.mp k g c l lk) => bif keyOk k d then opt (keq k) fun e => decC .lf k [v] fun x q => (match q with
      | [] => K j k g c l lk e x
      | _ => none) else none
    | _, _ => none
  | _, _ => none
def builtinA (P : Program) (h : H) (id : Nat) (b : Builtin) (ats : Array TypeId) (args : List V) (K : RA → Option β) : Option β :=
  match b with
  | .len => match args, ats[0]? with
    | [x], some t => lenA P h t x fun n => K (.val (.int .i64 n) h)
    | _, _ => none
  | .cap => match args, ats[0]? with
    | [x], some t => match P.underlying t, x with
      | some (.slice _), .ow j => (match h.get j with
        | some (.row _ _ l true _ _) => K (.val (.int .i64 (nti (llen l))) h)
        | _ => none)
      | some (.slice _), .own j off _ => (match h.get j with
        | some (.row _ _ l true _ _) => K (.val (.int .i64 (nti (nsub (llen l) off))) h)
        | _ => none)
      | some (.slice _), .nils => K (.val (.int .i64 0) h)
      | _, _ => none
    | _, _ => none
  | .append => match args, ats.toList with
    | [s, x], [t, t'] => bif Nat.beq t t' then appA P h id t s x K else none
    | _, _ => none
  | .copy => match args, ats[0]? with
    | [d, x], some t => opt (elTy P t) fun (g, c) => bif !elOkA P t c then none else elemsA h g c x fun new => match d with
      | .ow j => (match h.get j with
        | some (.row g' _ l true false false) => bif g == g' then castK l fun l => K (.val (.int .i64 (nti (nmin (llen new) (llen l)))) (hput h j (.row g c (lcpy l 0 new (llen l)) true false false))) else none
        | _ => none)
      | .own j off len => (match h.get j with
        | some (.row g' _ l ex false false) => bif g == g' then castK l fun l => gd (nle (nadd off len) (llen l)) fun _ => K (.val (.int .i64 (nti (nmin (llen new) len))) (hput h j (.row g c (lcpy l off new len) ex false false))) else none
        | _ => none)
      | _ => none
    | _, _ => none
  | .clear => match args, ats[0]? with
    | [.mp j], some t => match P.underlying t, h.get j with
      | some (.map _ _), some (.mp k g c _ false) => K (.val (.tup []) (hput h j (.mp k g c [] false)))
      | _, _ => none
    | _, _ => none
  | .delete => match args, ats[0]? with
    | [m, v], some t => keyA P t m v h fun j k g c l lk e x => bif lk then none else K (.val (.tup []) (hput h j (.mp k g c (mdel e l x) false)))
    | _, _ => none
  | .max => match args with
    | .int k a :: r => foldA imx k a r fun m => K (.val (.int k m) h)
    | _ => none
  | .min => match args with
    | .int k a :: r => foldA imn k a r fun m => K (.val (.int k m) h)
    | _ => none
  | .panic => match args with
    | [.ifc t v] => K (.pan (.ifc t v))
    | _ => none
  | .recover => K .rcv
  | _ => none

def invokeA (P : Program) (f : Fn) (first cap args : List V) (K : RA → Option β) : Option β := match f with
  | .func g => match P.funcs[g]? with
    | some fn => bif fn.body.isSome && !(fn.name == "runtime.NumGoroutine") then K (.call g (first ++ args ++ cap)) else none
    | none => none
  | .method name => match first ++ args with
    | .ifc t v :: rest => match P.info? t with
      | some i => match i.methods.find? (·.name == name) with
        | some m => match m.path.isEmpty, m.func, P.underlying t with
          | true, some (g, true), some (.pointer _) => bif (match P.funcs[g]? with | some fn => fn.body.isSome && !(fn.name == "runtime.NumGoroutine") | none => false) then K (.call g (v :: rest)) else none
          | true, some (_, false), some (.pointer _) => none
          | true, some (g, false), some _ => bif (match P.funcs[g]? with | some fn => fn.body.isSome && !(fn.name == "runtime.NumGoroutine") | none => false) then K (.call g (v :: rest)) else none
          | _, _, _ => none
        | none => none
      | none => none
    | _ => none
  | _ => none

def loadA (P : Program) (h : H) (ty : TypeId) (p : V) (K : V → Option β) : Option β := match p with
  | .ptr j off => match h.get j with
    | some (.box cs _ _) => opt (partA P ty (cs.drop off)) K
    | _ => none
  | .view cs => opt (partA P ty cs) K
  | .ept j i off => match h.get j with
    | some (.row g c l _ _ _) => ix l i fun x => opt (partA P ty ((elV g c x).cells.drop off)) K
    | _ => none
  | _ => none
def storeA (P : Program) (h : H) (ty : TypeId) (p v : V) (K : H → Option β) : Option β := opt (Pi.tsize P ty) fun n =>
  bif !Nat.blt 0 n || !Nat.beq v.cells.length n then none else match p with
  | .ptr j off => match h.get j with
    | some (.box cs false false) => bif Nat.ble (off + n) cs.length then K (hput h j (.box (fputL cs off v.cells) false false)) else none
    | _ => none
  | .ept j i off => match h.get j with
    | some (.row g c l ex false false) => ix l i fun x => bif Nat.ble (off + n) (cells c x).length then
        decC .lf c (fputL (cells c x) off v.cells) fun y q => match q with
          | [] => K (hput h j (.row g c (lset l i y) ex false false))
          | _ => none
      else none
    | _ => none
  | _ => none
def buildA (P : Program) (ty : TypeId) (ps : List (Nat × V)) (K : V → Option β) : Option β :=
  match zeroCellsA P ty, P.underlying ty with
  | some z, some (.struct fs) => bif fs.toList.all fun f => (Pi.tsize P f.type).isSome then
      (match placesOfA P fs ps with
      | some pl => opt (fillPA z pl) fun cs => K (.agg cs)
      | none => none) else none
  | some z, some (.array _ e) => match Pi.tsize P e with
    | some n => bif Nat.blt 0 n then opt (fillPA z (placesArrA n ps)) fun cs => K (.agg cs) else none
    | none => none
  | _, _ => none
def buildSliceA (P : Program) (h : H) (ty : TypeId) (len : Nat) (ps : List (Nat × V)) (K : RA → Option β) : Option β :=
  match P.underlying ty with
  | some (.slice e) => match Pi.tsize P e, Pi.tagg P e, zeroCellsA P e with
    | some n, some ag, some z => match mkElA ag z with
      | some z1 => bif !Nat.blt 0 n || !Nat.ble (len * n) 16777216 || !Nat.beq z.length n then none else
        opt (fillEA n (List.replicate len z1) ps) fun es => pursA h es fun es l => opt (freezeA h l) fun h => K (.val (.exl true es) h)
      | none => none
    | _, _, _ => none
  | _ => none
def nilA (p : V) (K : V → Option β) : Option β := match p with
  | .ptr a b => K (.ptr a b)
  | .ept a b c => K (.ept a b c)
  | .view cs => K (.view cs)
  | .ifc ty v => K (.ifc ty v)
  | .yl i => K (.yl i)
  | .fn (.func f) a b => K (.fn (.func f) a b)
  | _ => none
def convertA (P : Program) (src dst : TypeId) (x : V) (K : V → Option β) : Option β := match x, P.underlying src, P.underlying dst with
  | .int _ n, some _, some (.int k) => K (.int k (icv k n))
  | .str l, some .string, some .string => K (.str l)
  | _, _, _ => none
def ifcA (P : Program) (ty : TypeId) (v : V) (K : V → Option β) : Option β := match P.underlying ty with
  | some (.interface _) => none
  | some _ => K (.ifc ty v)
  | none => none
def makeA (P : Program) (h : H) (id : Nat) (ty : TypeId) (same : Bool) (l c : V) (K : RA → Option β) : Option β := match P.underlying ty with
  | some (.slice e) => match Pi.tsize P e, Pi.tagg P e, zeroCellsA P e, P.info? e with
    | some n, some ag, some z, some ti => opt (tyOf P tyD e) fun (g, ct) => bif Nat.ble ti.bytes 1048576 && Nat.blt 0 n && Nat.beq z.length n then opt (mkElA ag z) fun z => decE .lf g ct z fun z => nat64V l fun l => nat64V c fun c =>
        bif same then gd (nle c 1048576) fun _ => K (.val (.ow id) (hput h id (.row g ct (lrep c z) true false false)))
        else gd (nle l c) fun _ => gd (nle c 1048576) fun _ => K (.val (.own id 0 l) (hput h id (.row g ct (lrep c z) true false false)))
      else none
    | _, _, _, _ => none
  | _ => none
def makeMapA (P : Program) (h : H) (id : Nat) (ty : TypeId) (K : RA → Option β) : Option β := match P.underlying ty with
  | some (.map kt e) => match tyOf P tyD kt, tyOf P tyD e with
    | some (false, k), some (g, c) => K (.val (.mp id) (hput h id (.mp k g c [] false)))
    | _, _ => none
  | _ => none
def sliceA (P : Program) (h : H) (ty : TypeId) (x : V) (lo hi mx : Option V) (K : V → Option β) : Option β := match P.underlying ty, x with
  | some .string, .str s => match mx with
    | none => natOrV (slen s) hi fun hh => natOrV 0 lo fun l => gd (nle hh (slen s)) fun _ => gd (nle l hh) fun _ => K (.str (ssub s l hh))
    | _ => none
  | some (.slice e), .nils => opt (Pi.tsize P e) fun _ => match mx with
    | none => natOrV 0 hi fun hh => natOrV 0 lo fun l => gd (neq hh 0) fun _ => gd (neq l 0) fun _ => K .nils
    | some m => bif hi.isNone then none else natOrV 0 hi fun hh => natOrV 0 lo fun l => natV m fun m => gd (neq hh 0) fun _ => gd (neq l 0) fun _ => gd (neq m 0) fun _ => K .nils
  | some (.slice e), .lf _ g c es => opt (Pi.tsize P e) fun n => bif !Nat.beq n c.wd then none else natOrV 0 lo fun l => natOrV (llen es) hi fun hh => (match mx with
    | none => gd (nle hh (llen es)) fun _ => gd (nle l hh) fun _ => K (.lf false g c (lsub es l hh))
    | some m => bif hi.isNone || !Nat.ble c.depth 4 then none else natV m fun m => gd (nle hh (llen es)) fun _ => gd (neq hh m) fun _ => gd (nle l hh) fun _ => K (.lf true g c (lsub es l hh)))
  | some (.slice e), .ow j => (match h.get j with
    | some (.row g c es _ false _) => opt (Pi.tsize P e) fun n => bif !Nat.beq n c.wd then none else natOrV 0 lo fun l => natOrV (llen es) hi fun hh => (match mx with
      | none => gd (nle hh (llen es)) fun _ => gd (nle l hh) fun _ => br (nlt l (llen es)) (fun _ => K (.own j l (nsub hh l))) fun _ => K (.lf false g c [])
      | some _ => none)
    | _ => none)
  | some (.slice e), .own j off len => (match h.get j with
    | some (.row g c es _ _ _) => opt (Pi.tsize P e) fun n => bif !Nat.beq n c.wd then none else natOrV 0 lo fun l => natOrV len hi fun hh => (match mx with
      | none => gd (nle (nadd off hh) (llen es)) fun _ => gd (nle l hh) fun _ => br (nlt (nadd off l) (llen es)) (fun _ => K (.own j (nadd off l) (nsub hh l))) fun _ => K (.lf false g c [])
      | some _ => none)
    | _ => none)
  | _, _ => none
def fieldAddrA (P : Program) (sty : TypeId) (x : V) (f : Nat) (K : V → Option β) : Option β := match P.underlying sty with
  | some (.struct fs) => match fs[f]? with
    | some fd => match Pi.tsize P fd.type with
      | some n => bif Nat.beq n 0 then none else (match x with
        | .ptr j off => K (.ptr j (off + fd.offset))
        | .ept j i off => K (.ept j i (off + fd.offset))
        | .view cs => K (.view (cs.drop fd.offset))
        | _ => none)
      | none => none
    | none => none
  | _ => none
def fieldA (P : Program) (ty : TypeId) (x : V) (f : Nat) (K : V → Option β) : Option β := match P.underlying ty, x with
  | some (.struct fs), .agg cs => match fs[f]? with
    | some fd => opt (partA P fd.type (cs.drop fd.offset)) K
    | none => none
  | _, _ => none
def indexAddrA (P : Program) (h : H) (ty : TypeId) (x i : V) (K : V → Option β) : Option β := match P.underlying ty with
  | some (.slice e) => opt (Pi.tsize P e) fun n => natV i fun k => match x with
      | .lf _ g c es => ix es k fun el => bif Nat.beq (elV g c el).cells.length n then K (.view (elV g c el).cells) else none
      | .exl _ es => pickN k es.length 0 fun k => opt (lget es k) fun el => bif Nat.beq el.cells.length n then K (.view el.cells) else none
      | .ow j => (match h.get j with
        | some (.row _ c es _ false _) => gd (nlt k (llen es)) fun _ => bif Nat.beq c.wd n then K (.ept j k 0) else none
        | _ => none)
      | .own j off len => gd (nlt k len) fun _ => (match h.get j with
        | some (.row _ c es _ _ _) => gd (nlt (nadd off k) (llen es)) fun _ => bif Nat.beq c.wd n then K (.ept j (nadd off k) 0) else none
        | _ => none)
      | _ => none
  | some (.array len e) => opt (Pi.tsize P e) fun n => natV i fun k => pickN k len 0 fun k => match x with
      | .ptr j off => K (.ptr j (off + k * n))
      | .ept j i off => K (.ept j i (off + k * n))
      | .view cs => K (.view (cs.drop (k * n)))
      | _ => none
  | _ => none
def indexA (P : Program) (ty : TypeId) (x i : V) (K : V → Option β) : Option β := match P.underlying ty, x with
  | some (.array len e), .agg cs => opt (Pi.tsize P e) fun n => natV i fun k => pickN k len 0 fun k => opt (partA P e (cs.drop (k * n))) K
  | some .string, .str l => natV i fun k => ix l k fun b => K (.int .u8 (u8i b))
  | _, _ => none
def lookupA (P : Program) (h : H) (ty : TypeId) (m k : V) (ok : Bool) (K : V → Option β) : Option β := match m with
  | .nilm => match P.underlying ty with
    | some (.map kt e) => match P.underlying kt, zeroElA P e with
      | some d, some z => bif Pi.keyDesc d then K (bif ok then .tup [z, .bool false] else z) else none
      | _, _ => none
    | _ => none
  | m => keyA P ty m k h fun _ _ g c l _ e x => match P.underlying ty with
    | some (.map _ et) => opt (zeroElA P et) fun z => decE .lf g c z fun z =>
        K (bif ok then .tup [elV g c (oget (mget e l x) z), .bool (ois (mget e l x))] else elV g c (oget (mget e l x) z))
    | _ => none
def mapUpdateA (P : Program) (h : H) (ty : TypeId) (m k v : V) (K : H → Option β) : Option β :=
  keyA P ty m k h fun j kt g c l lk e x => bif lk then none else decE .lf g c v fun y => K (hput h j (.mp kt g c (mput e l x y) false))
def assertedA (ok : Bool) (v : V) : V := bif ok then .tup [v, .bool true] else v
def assertA (P : Program) (ty : TypeId) (v : V) (ok : Bool) (K : V → Option β) : Option β := match P.underlying ty with
  | some (.interface want) => match v with
    | .ifc u a => match P.info? u with
      | some i => match Instr.missingMethod want i.methods with
        | none => K (assertedA ok (.ifc u a))
        | some _ => bif ok then opt (zeroElA P ty) fun z => K (.tup [z, .bool false]) else none
      | none => none
    | .nili => bif ok then opt (zeroElA P ty) fun z => K (.tup [z, .bool false]) else none
    | _ => none
  | some _ => match v with
    | .ifc u a => bif Nat.beq u ty then K (assertedA ok a) else bif ok then opt (zeroElA P ty) fun z => K (.tup [z, .bool false]) else none
    | .nili => bif ok then opt (zeroElA P ty) fun z => K (.tup [z, .bool false]) else none
    | _ => none
  | none => none

def sameTmp : Operand → Operand → Bool
  | .tmp a, .tmp b => Nat.beq a b
  | _, _ => false
def vlA (h : H) (K : RA → Option β) (v : V) : Option β := K (.val v h)
def evA (P : Program) (t : T V) (h : H) (id : Nat) (o : Oper) (K : RA → Option β) : Option β :=
  match o.op with
  | .move x => evsA t x (vlA h K)
  | .assign x => evsA t x (vlA h K)
  | .pick c a b => evsA t c fun c => evsA t a fun a => evsA t b fun b => match c with
    | .bool c => br c (fun _ => vlA h K a) (fun _ => vlA h K b)
    | _ => none
  | .alloc e => opt (zeroCellsA P e) fun cs => K (.val (.ptr id 0) (hput h id (.box cs false false)))
  | .box _ x => evsA t x fun v => match v with
    | .tup _ => none
    | v => K (.val (.ptr id 0) (hput h id (.box v.cells false false)))
  | .build ty parts => partsOfA t parts.toList fun ps => buildA P ty ps (vlA h K)
  | .buildSlice ty len parts => partsOfA t parts.toList fun ps => buildSliceA P h ty len ps K
  | .load ty a => evsA t a fun a => loadA P h ty a (vlA h K)
  | .store ty a x => evsA t a fun a => evsA t x fun x => storeA P h ty a x fun h => K (.skip h)
  | .nilCheck x => evsA t x fun x => nilA x (vlA h K)
  | .binOp op ty x y _ => evsA t x fun a => evsA t y fun b => binA P op ty x y a b (vlA h K)
  | .unOp op _ x => evsA t x fun a => unA op a (vlA h K)
  | .convert src dst x => evsA t x fun a => convertA P src dst a (vlA h K)
  | .makeInterface ty x => evsA t x fun a => ifcA P ty a (vlA h K)
  | .makeFunc f first cap => evlA t first.toList fun a => evlA t cap.toList fun b => match f with
    | .yield _ => none
    | f => K (.val (.fn f a b) h)
  | .makeMap ty none => makeMapA P h id ty K
  | .makeSlice ty l c => evsA t l fun x => evsA t c fun y => makeA P h id ty (sameTmp l c) x y K
  | .slice ty x lo hi mx => evoA t lo fun lo => evoA t hi fun hi => evoA t mx fun mx => evsA t x fun x => sliceA P h ty x lo hi mx (vlA h K)
  | .fieldAddr s x f => evsA t x fun x => fieldAddrA P s x f (vlA h K)
  | .field ty x f => evsA t x fun x => fieldA P ty x f (vlA h K)
  | .indexAddr ty x i => evsA t x fun x => evsA t i fun i => indexAddrA P h ty x i (vlA h K)
  | .index ty x i => evsA t x fun x => evsA t i fun i => indexA P ty x i (vlA h K)
  | .lookup ty x k ok => evsA t x fun m => evsA t k fun k => lookupA P h ty m k ok (vlA h K)
  | .mapUpdate ty x k v => evsA t x fun x => evsA t k fun k => evsA t v fun v => mapUpdateA P h ty x k v fun h => K (.skip h)
  | .insert ty x k v => evsA t x fun x => evsA t k fun k => evsA t v fun v => mapUpdateA P h ty x k v fun h => K (.skip h)
  | .typeAssert x _ ty ok => evsA t x fun v => assertA P ty v ok (vlA h K)
  | .extract x i => evsA t x fun x => match x with
    | .tup vs => opt (lget vs i) (vlA h K)
    | _ => none
  | .panic x => evsA t x fun x => match x with
    | .ifc ty v => K (.pan (.ifc ty v))
    | _ => none
  | .call c => evlA t c.args.toList fun args => match c.callee with
    | .builtin b => builtinA P h id b c.argTypes args K
    | .value f => evsA t f fun f => match f with
      | .fn f a b => invokeA P f a b args K
      | .yl l => K (.yield l args)
      | _ => none
    | .invoke recv name => evsA t recv fun r => invokeA P (.method name) [r] [] args K
  | .defer c => evlA t c.args.toList fun args => match c.callee with
    | .builtin b => K (.dfr (.bi b c.argTypes o.type args))
    | .value f => evsA t f fun f => match f with
      | .fn (.func g) a b => K (.dfr (.call (.fn (.func g) a b) args))
      | _ => none
    | .invoke _ _ => none
  | _ => none
end
end Go.Proofs.YtopoaknleakdcaaGreat.Sv
namespace Go.Proofs.YtopoaknleakdcaaGreat.Sv
open Go.Proofs.YtopoaknleakdcaaGreat.Pi (T lget idx)
/-! The evaluator: code, calls, loops. -/
@[reducible] def domDen : List (Bool × Ty) → Type
  | [] => Unit
  | [p] => p.2.den
  | p :: q :: r => p.2.den × domDen (q :: r)
structure Sg where
  dom : List (Bool × Ty)
  cod : List (Bool × Ty)
  fn : domDen dom → Option (domDen cod)
/-- none: it runs in its caller's heap (it is inlined); some none: pure, but not known; some sg: pure and known -/
abbrev Tab := FuncId → Option (Option Sg)
def valsOf : (l : List (Bool × Ty)) → domDen l → List V
  | [], _ => []
  | [p], x => [elV p.1 p.2 x]
  | p :: q :: r, x => elV p.1 p.2 x.1 :: valsOf (q :: r) x.2
def valR (l : List (Bool × Ty)) (x : domDen l) : V := match valsOf l x with
  | [v] => v
  | vs => .tup vs
/-- a part of a box: typed cells, or one cell that holds an own row -/
inductive Sgm where
  | lf (c : Ty)
  | ow (g : Bool) (c : Ty) (ex : Bool)
@[reducible] def Sgm.den : Sgm → Type
  | .lf c => c.den
  | .ow _ c _ => List c.den
@[reducible] def sgDen : List Sgm → Type
  | [] => Unit
  | [p] => p.den
  | p :: q :: r => p.den × sgDen (q :: r)
/-- a place whose contents turn in a loop -/
inductive Pl where
  | slot (k : Nat) (g : Bool) (c : Ty)
  | srow (k : Nat) (g : Bool) (c : Ty) (ex : Bool)
  | box (id : Nat) (sg : List Sgm)
  | map (id : Nat) (k : Ty) (g : Bool) (c : Ty)
@[reducible] def Pl.den : Pl → Type
  | .slot _ _ c => c.den
  | .srow _ _ c _ => List c.den
  | .box _ sg => sgDen sg
  | .map _ k _ c => List (k.den × c.den)
@[reducible] def plDen : List Pl → Type
  | [] => Unit
  | [p] => p.den
  | p :: q :: r => p.den × plDen (q :: r)
inductive ExK where
  | exit (id : Nat)
  | ret
  | pan (t : TypeId) (g : Bool) (c : Ty)
structure Tm where
  keep : List Nat
  kb : List Nat
  pl : List Pl
  ex : List (ExK × List (Nat × Nat × Option Code))
  pay : Ty
/-- code whose ends come together: what is kept, the places ahead of it and behind it -/
structure Jn where
  keep : List Nat
  kb : List Nat
  pl0 : List Pl
  pl1 : List Pl
  ex : List (ExK × List (Nat × Nat × Option Code))
  pay : Ty
inductive An where
  | loop (tm : Tm)
  | join (j : Jn)
abbrev Ann := FuncId → Nat → Nat → Option An

section
variable {β : Type}
def decArgs (h : H) : (l : List (Bool × Ty)) → List V → (domDen l → Option β) → Option β
  | [], vs, K => match vs with
    | [] => K ()
    | _ => none
  | [p], vs, K => match vs with
    | [v] => decE h p.1 p.2 v K
    | _ => none
  | p :: q :: r, vs, K => match vs with
    | v :: vs => decE h p.1 p.2 v fun x => decArgs h (q :: r) vs fun y => K (x, y)
    | _ => none
def idsC : List V → List Nat
  | [] => []
  | .ow id :: l => id :: idsC l
  | .own id _ _ :: l => id :: idsC l
  | _ :: l => idsC l
def idsOf (l : List V) : List Nat := l.flatMap fun v => idsC v.cells
def codSl : List (Bool × Ty) → Bool
  | [] => false
  | p :: l => p.2.hasSl || codSl l
def Ty.leaf : Ty → Bool
  | .unit | .pair _ _ => false
  | _ => true
def domOk (l : List (Bool × Ty)) : Bool := l.all fun p => Nat.ble p.2.depth 4 && (p.1 || p.2.leaf)
def callT (h : H) (sg : Sg) (args : List V) (K : V → H → Option β) : Option β :=
  bif !domOk sg.dom || !domOk sg.cod then none else decArgs h sg.dom args fun x => opt (bif codSl sg.cod then freezeA h (idsOf args) else some h) fun h => bd (sg.fn x) fun y => K (valR sg.cod y) h

inductive TgA where
  | fn (f : FuncId)
  | yl (id : Nat)
abbrev RecA := (β : Type) → TgA → Option UMA → List V → H → Nat → (OutA → Option UMA → H → Nat → Option β) → Option β
abbrev KA (β : Type) := ExA → FrA → H → Nat → Option β
def putA (fr : FrA) (dst : Option Nat) (v : V) (K : FrA → Option β) : Option β := match dst with
  | none => K fr
  | some d => bif Nat.blt d fr.nt then K { fr with t := T.put 20 fr.t d v } else none
def guardA (ops : List Oper) (t : T V) (g : Option (Nat × Bool)) (yes no : T V → Option β) : Option β := match g with
  | none => yes t
  | some (j, want) => match lget ops j with
    | some o => match o.dst with
      | some d => match t.get d with
        | some (.bool b) => br b (fun _ => bif want then yes (T.put 20 t d (.bool true)) else no (T.put 20 t d (.bool true))) (fun _ => bif want then no (T.put 20 t d (.bool false)) else yes (T.put 20 t d (.bool false)))
        | some (.tup []) => no t
        | _ => none
      | none => none
    | none => none
def runOpsA (P : Program) (tab : Tab) (rec : RecA) (base : Nat) (ops : List Oper) : List (Nat × Oper) → FrA → H → Nat → KA β → Option β
  | [], fr, h, nx, K => K .normal fr h nx
  | (i, o) :: r, fr, h, nx, K => guardA ops fr.t o.guard
    (fun t => evA P t h (base + i) o fun
      | .val v h => putA { fr with t } o.dst v fun fr => runOpsA P tab rec base ops r fr h nx K
      | .skip h => putA { fr with t } o.dst (.tup []) fun fr => runOpsA P tab rec base ops r fr h nx K
      | .dfr d => match fr.ro with
        | none => putA { fr with t, ds := d :: fr.ds } o.dst (.tup []) fun fr => runOpsA P tab rec base ops r fr h nx K
        | some _ => none
      | .call f args => match tab f with
        | some none => none
        | some (some sg) => callT h sg args fun v h => putA { fr with t } o.dst v fun fr => runOpsA P tab rec base ops r fr h nx K
        | none => rec β (.fn f) none args h nx fun o' _ h nx => match o' with
          | .ret v => putA { fr with t } o.dst v fun fr => runOpsA P tab rec base ops r fr h nx K
          | .pan [{ v, recovered := false }] => K (.panic v) { fr with t } h nx
          | _ => none
      | .yield l args => rec β (.yl l) none args h nx fun o' _ h nx => match o' with
          | .ret v => putA { fr with t } o.dst v fun fr => runOpsA P tab rec base ops r fr h nx K
          | _ => none
      | .pan v => K (.panic v) { fr with t } h nx
      | .rcv => match fr.ro with
        | some _ => none
        | none => match fr.up with
          | some (.pan ({ v, recovered := false } :: older)) => putA { fr with t, up := some (.pan ({ v, recovered := true } :: older)) } o.dst v fun fr => runOpsA P tab rec base ops r fr h nx K
          | _ => putA { fr with t } o.dst .nili fun fr => runOpsA P tab rec base ops r fr h nx K)
    (fun t => putA { fr with t } o.dst (.tup []) fun fr => runOpsA P tab rec base ops r fr h nx K)

/-! Regions whose order is drawn: the operations in the order of the text; classes of operations tell which pairs must be ordered by an edge. -/
/-- 0: no heap; 1: reads; 2: a new block; 3: writes; 9: not served -/
def clsOp : Op → Nat
  | .move _ | .assign _ | .pick _ _ _ | .build _ _ | .nilCheck _ | .binOp _ _ _ _ _ | .unOp _ _ _ | .convert _ _ _ | .makeInterface _ _ | .makeFunc _ _ _ | .fieldAddr _ _ _ | .field _ _ _ | .index _ _ _ | .typeAssert _ _ _ _ | .extract _ _ => 0
  | .load _ _ | .indexAddr _ _ _ => 1
  | .slice _ _ _ _ none => 1
  | .call c => match c.callee with
    | .builtin b => match b with
      | .len | .cap | .max | .min => 1
      | _ => 9
    | _ => 9
  | .alloc _ | .box _ _ | .makeMap _ none | .makeSlice _ _ _ => 2
  | .store _ _ _ => 3
  | _ => 9
def liveI (h : H) (id : Nat) : Bool := match h.get id with
  | some .dead => false
  | some _ => true
  | none => false
def liveV (h : H) : V → Bool
  | .ow id | .own id _ _ | .ptr id _ | .ept id _ _ | .mp id => liveI h id
  | _ => true
def liveO (h : H) (t : T V) : List Operand → Bool
  | [] => true
  | .tmp k :: l => (match t.get k with
    | some v => liveV h v
    | none => false) && liveO h t l
  | _ :: l => liveO h t l
def ordOk (bef c : Nat) : List (Nat × Nat) → Bool
  | [] => true
  | (j, d) :: l => (Pi.bit bef j || (Nat.beq c 0 || (Nat.beq c 2 || (Nat.beq d 0 || (Nat.beq c 1 && Nat.beq d 1))))) && ordOk bef c l
/-- a call of a function -/
def callOp : Op → Bool
  | .call c => match c.callee with
    | .builtin _ => false
    | _ => true
  | _ => false
def putT (t : T V) (nt : Nat) (dst : Option Nat) (v : V) (K : T V → Option β) : Option β := match dst with
  | some d => bif Nat.blt d nt then K (T.put 20 t d v) else none
  | none => K t
def drawnGoA (P : Program) (tab : Tab) (base nt : Nat) (ops : List Oper) : Nat → List Oper → List Pi.Mk → List (Nat × Nat) → T V → H → (T V → H → Option β) → Option β
  | i, o :: l, m :: ms, past, t, h, K => guardA ops t o.guard
    (fun t => bif !Pi.drawable o.op then none else
      evA P t h (base + i) o fun
        | .val v h1 => bif Nat.ble (clsOp o.op) 2 && (liveO h t (Pi.opnds o.op) && ordOk m.bef (clsOp o.op) past) then putT t nt o.dst v fun t => drawnGoA P tab base nt ops (i + 1) l ms ((i, clsOp o.op) :: past) t h1 K else none
        | .skip h1 => bif Nat.beq (clsOp o.op) 3 && (liveO h t (Pi.opnds o.op) && ordOk m.bef 3 past) then putT t nt o.dst (.tup []) fun t => drawnGoA P tab base nt ops (i + 1) l ms ((i, 3) :: past) t h1 K else none
        | .call f args => match tab f with
          | some (some sg) => bif codSl sg.cod || (!callOp o.op || !ordOk m.bef 1 past) then none else callT h sg args fun v h1 => putT t nt o.dst v fun t => drawnGoA P tab base nt ops (i + 1) l ms ((i, 1) :: past) t h1 K
          | _ => none
        | _ => none)
    (fun t => putT t nt o.dst (.tup []) fun t => drawnGoA P tab base nt ops (i + 1) l ms past t h K)
  | _, [], _, _, t, h, K => K t h
  | _, _, _, _, _, _, _ => none
def drawnA (P : Program) (tab : Tab) (base : Nat) (ops : List Oper) (fr : FrA) (h : H) (K : FrA → H → Option β) : Option β :=
  opt (Pi.marksOf ops 0 ops []) fun ms => drawnGoA P tab base fr.nt ops 0 ops ms [] fr.t h fun t h => K { fr with t } h
end

/-! Loops -/
def BA.locked : BA → Bool
  | .box _ _ lk => lk
  | .row _ _ _ _ _ lk => lk
  | .mp _ _ _ _ lk => lk
  | _ => false

def keepT (t : T V) : List Nat → T V
  | [] => .lf
  | k :: l => match t.get k with
    | some v => T.put 20 (keepT t l) k v
    | none => keepT t l
def lockB : BA → BA
  | .box cs fz _ => .box cs fz true
  | .row g c l ex fz _ => .row g c l ex fz true
  | .mp k g c l _ => .mp k g c l true
  | b => b
def keepH (h : H) (f : BA → BA) : List Nat → H
  | [] => .lf
  | k :: l => match h.get k with
    | some .dead => keepH h f l
    | some b => T.put 20 (keepH h f l) k (f b)
    | none => keepH h f l
section
variable {β : Type}
def rowOf (h : H) (g : Bool) (c : Ty) (ex : Bool) (v : V) (K : List c.den → Option β) : Option β := match v with
  | .nils => bif ex then none else K []
  | .ow id => match h.get id with
    | some (.row g' _ l ex' false false) => bif g == g' && ex == ex' then castK l K else none
    | _ => none
  | _ => none
def decSg (h : H) : (l : List Sgm) → List V → (sgDen l → Option β) → Option β
  | [], cs, K => match cs with
    | [] => K ()
    | _ => none
  | [.lf c], cs, K => decC .lf c cs fun x r => match r with
    | [] => K x
    | _ => none
  | [.ow g c ex], cs, K => match cs with
    | [v] => rowOf h g c ex v K
    | _ => none
  | .lf c :: q :: r, cs, K => decC .lf c cs fun x cs => decSg h (q :: r) cs fun y => K (x, y)
  | .ow g c ex :: q :: r, cs, K => match cs with
    | v :: cs => rowOf h g c ex v fun x => decSg h (q :: r) cs fun y => K (x, y)
    | _ => none
def decPl (t : T V) (h : H) : (p : Pl) → (p.den → Option β) → Option β
  | .slot k g c, K => opt (t.get k) fun v => decE .lf g c v K
  | .srow k g c ex, K => opt (t.get k) fun v => rowOf h g c ex v K
  | .box id sg, K => match h.get id with
    | some (.box cs false false) => decSg h sg cs K
    | _ => none
  | .map id k g c, K => match h.get id with
    | some (.mp _ g' _ l false) => bif g == g' then castM l K else none
    | _ => none
def decPls (t : T V) (h : H) : (l : List Pl) → (plDen l → Option β) → Option β
  | [], K => K ()
  | [p], K => decPl t h p K
  | p :: q :: r, K => decPl t h p fun x => decPls t h (q :: r) fun y => K (x, y)
end
/-- a box's cells with its contents laid; own rows take ids from nx on -/
def laySg (h : H) (nx : Nat) : (l : List Sgm) → sgDen l → List V × H × Nat
  | [], _ => ([], h, nx)
  | [.lf c], x => (cells c x, h, nx)
  | [.ow g c ex], l => ([.ow nx], hput h nx (.row g c l ex false false), nx + 1)
  | .lf c :: q :: r, x => match laySg h nx (q :: r) x.2 with
    | (cs, h, nx) => (cells c x.1 ++ cs, h, nx)
  | .ow g c ex :: q :: r, x => match laySg (hput h nx (.row g c x.1 ex false false)) (nx + 1) (q :: r) x.2 with
    | (cs, h, n') => (.ow nx :: cs, h, n')
def layPl (t : T V) (h : H) (nx : Nat) : (p : Pl) → p.den → T V × H × Nat
  | .slot k g c, x => (T.put 20 t k (elV g c x), h, nx)
  | .srow k g c ex, l => (T.put 20 t k (.ow nx), hput h nx (.row g c l ex false false), nx + 1)
  | .box id sg, x => match laySg h nx sg x with
    | (cs, h, nx) => (t, hput h id (.box cs false false), nx)
  | .map id k g c, l => (t, hput h id (.mp k g c l false), nx)
def layPls (t : T V) (h : H) (nx : Nat) : (l : List Pl) → plDen l → T V × H × Nat
  | [], _ => (t, h, nx)
  | [p], x => layPl t h nx p x
  | p :: q :: r, x => match layPl t h nx p x.1 with
    | (t, h, nx) => layPls t h nx (q :: r) x.2
/-- the boxes and maps among the places -/
def plIds : List Pl → List Nat
  | [] => []
  | .box id _ :: l | .map id _ _ _ :: l => id :: plIds l
  | _ :: l => plIds l
def rowIdV : V → List Nat
  | .ow id => [id]
  | _ => []
def sgRows : List Sgm → List V → List Nat
  | [], _ => []
  | .lf c :: r, cs => sgRows r (cs.drop c.wd)
  | .ow _ _ _ :: r, cs => (match cs with
    | v :: _ => rowIdV v
    | [] => []) ++ sgRows r (cs.drop 1)
/-- the blocks that the places speak of -/
def plSrc (t : T V) (h : H) : List Pl → List Nat
  | [] => []
  | .slot _ _ _ :: l => plSrc t h l
  | .map id _ _ _ :: l => id :: plSrc t h l
  | .srow k _ _ _ :: l => (match t.get k with
    | some v => rowIdV v
    | none => []) ++ plSrc t h l
  | .box id sg :: l => (match h.get id with
    | some (.box cs _ _) => sgRows sg cs
    | _ => []) ++ id :: plSrc t h l
def distinct : List Nat → Bool
  | [] => true
  | a :: l => !l.any (Nat.beq a) && distinct l
def slotsOk (nt : Nat) : List Pl → Bool
  | [] => true
  | .slot k _ _ :: l | .srow k _ _ _ :: l => Nat.blt k nt && slotsOk nt l
  | _ :: l => slotsOk nt l
/-- what is kept: what is named, and what is locked -/
def kbOf (h : H) (n : Nat) (l : List Nat) : List Nat := l ++ (List.range n).filter fun i => (match h.get i with
  | some c => c.locked
  | none => false) && !l.any (Nat.beq i)
def firstReg : Code → Option Nat
  | .region id _ _ => some id
  | .seq a b => match firstReg a with
    | some i => some i
    | none => firstReg b
  | .cond _ a b => match firstReg a with
    | some i => some i
    | none => firstReg b
  | .block _ b | .loop b | .scope b => firstReg b
  | .rangeFunc _ _ a b => match firstReg a with
    | some i => some i
    | none => firstReg b
  | _ => none
def lastReg : Code → Option Nat
  | .region id _ _ => some id
  | .seq a b => match lastReg b with
    | some i => some i
    | none => lastReg a
  | .cond _ a b => match lastReg b with
    | some i => some i
    | none => lastReg a
  | .block _ b | .loop b | .scope b => lastReg b
  | .rangeFunc _ _ a b => match lastReg b with
    | some i => some i
    | none => lastReg a
  | _ => none
/-- a name for code that stands ahead of other code -/
def seqKey (x : Code) : Nat := match firstReg x, lastReg x with
  | some i, some k => 1000000 + (i * 1000 + k)
  | _, _ => 0
def writesC : Code → List Nat
  | .region _ ops _ => ops.toList.filterMap (·.dst)
  | .seq a b | .cond _ a b => writesC a ++ writesC b
  | .block _ b | .loop b | .scope b => writesC b
  | _ => []
/-- deferred lists that are kept: without entries -/
def dfsOk (h : H) : List Nat → Bool
  | [] => true
  | id :: l => (match h.get id with
    | some (.df (some [])) => true
    | some (.df _) => false
    | _ => true) && dfsOk h l
def dfIds (h : H) : List Nat → List Nat
  | [] => []
  | id :: l => match h.get id with
    | some (.df _) => id :: dfIds h l
    | _ => dfIds h l
def dfsAre (h : H) : List Nat → Bool
  | [] => true
  | id :: l => (match h.get id with
    | some (.df (some [])) => true
    | _ => false) && dfsAre h l
def lpsOk (h : H) : List (Nat × Nat × Option Code) → Bool
  | [] => true
  | (id, st, pd) :: l => (match h.get id with
    | some (.lp st' pd' _ _ _ _ _ _) => Nat.beq st st' && (match pd, pd' with
      | none, none => true
      | some .ret, some .ret => true
      | some (.exit i), some (.exit j) => Nat.beq i j
      | some (.goto i), some (.goto j) => Nat.beq i j
      | _, _ => false)
    | _ => false) && lpsOk h l
def lpsSet (h : H) : List (Nat × Nat × Option Code) → H
  | [] => h
  | (id, st, pd) :: l => match h.get id with
    | some (.lp _ _ nt t ps asg body d) => hput (lpsSet h l) id (.lp st pd nt t ps asg body d)
    | _ => lpsSet h l
/-- the lp blocks among kb, as they are -/
def lpsOf (h : H) : List Nat → List (Nat × Nat × Option Code)
  | [] => []
  | id :: l => match h.get id with
    | some (.lp st pd _ _ _ _ _ _) => (id, st, pd) :: lpsOf h l
    | _ => lpsOf h l
section
variable {β : Type}
def exOk (h : H) (ex : ExA) (pay : Ty) : ExK → (pay.den → Option β) → Option β
  | .exit i, K => match ex with
    | .exit j => bif Nat.beq i j then K (zeroT pay) else none
    | _ => none
  | .ret, K => match ex with
    | .ret => K (zeroT pay)
    | _ => none
  | .pan t g c, K => match ex with
    | .panic (.ifc t' v) => bif Nat.beq t t' then (if e : c = pay then decE .lf g c v fun x => K (e ▸ x) else none) else none
    | _ => none
def isEx (ex : ExA) : ExK → Bool
  | .exit i => match ex with
    | .exit j => Nat.beq i j
    | _ => false
  | .ret => match ex with
    | .ret => true
    | _ => false
  | .pan t _ _ => match ex with
    | .panic (.ifc t' _) => Nat.beq t t'
    | _ => false
/-- which of the ends this is -/
def findEx (h : H) (ids : List Nat) (ex : ExA) (pay : Ty) : Nat → List (ExK × List (Nat × Nat × Option Code)) → (Nat → pay.den → Option β) → Option β
  | _, [], _ => none
  | i, (k, lp) :: l, K => bif isEx ex k && (lpsOk h lp && (lp.map (·.1)) == ids) then exOk h ex pay k (K i) else findEx h ids ex pay (i + 1) l K
def exOf (pay : Ty) (x : pay.den) : ExK → ExA
  | .exit i => .exit i
  | .ret => .ret
  | .pan t g c => if e : c = pay then .panic (.ifc t (elV g c (e ▸ x))) else .normal
/-- go on behind the end that has this number -/
def selEx (pay : Ty) (x : pay.den) (n : Nat) : Nat → List (ExK × List (Nat × Nat × Option Code)) → (ExA → List (Nat × Nat × Option Code) → Option β) → Option β
  | _, [], _ => none
  | _, [(k, lp)], K => K (exOf pay x k) lp
  | i, (k, lp) :: e :: l, K => br (neq n i) (fun _ => K (exOf pay x k) lp) fun _ => selEx pay x n (i + 1) (e :: l) K
end

def setArgsA : Nat → List V → T V → T V
  | _, [], t => t
  | i, a :: l, t => setArgsA (i + 1) l (T.put 20 t i a)
def setParamsA (nt : Nat) : List Nat → List V → T V → Option (T V)
  | [], [], t => some t
  | p :: ps, a :: l, t => bif Nat.blt p nt then setParamsA nt ps l (T.put 20 t p a) else none
  | _, _, _ => none
section
variable {β : Type}
def exA (P : Program) (tab : Tab) (ann : Ann) (f : FuncId) (rec : RecA) : Nat → (β : Type) → Nat → Code → FrA → H → Nat → KA β → Option β
  | 0, _, _, _, _, _, _, _ => none
  | n + 1, β, b, c, fr, h, nx, K => match c with
    | .skip | .label _ => K .normal fr h nx
    | .seq x y => match ann f (seqKey x) nx with
      | some (.join j) =>
        let ids := plIds j.pl0 ++ plIds j.pl1
        let kb := kbOf h nx j.kb
        bif fr.up.isSome || !slotsOk fr.nt j.pl0 || !slotsOk fr.nt j.pl1 || !j.keep.all (fun k => Nat.blt k 1048575) || (writesC x).any (fun k => j.keep.any (Nat.beq k)) || !distinct (plSrc fr.t h j.pl0 ++ kb) || !(kb ++ ids).all (fun i => Nat.blt i nx) || !dfsOk h kb || kb.any (fun i => ids.any (Nat.beq i)) then none else
        let lps := lpsOf h kb
        let dfs := dfIds h kb
        decPls fr.t h j.pl0 fun s0 =>
        jn (α := plDen j.pl0) (β := β) (γ := Nat × plDen j.pl1 × j.pay.den) (δ := plDen j.pl1) (fun s =>
            match layPls (keepT fr.t j.keep) (keepH h lockB kb) nx j.pl0 s with
            | (t1, h1, nx1) => bif !Nat.ble nx1 1048575 then none else exA P tab ann f rec n (LR (plDen j.pl1) (Nat × plDen j.pl1 × j.pay.den)) nx1 x { fr with t := t1 } h1 nx1 fun e fr' h' _ =>
              bif !Nat.beq fr'.ds.length fr.ds.length || !distinct (plSrc fr'.t h' j.pl1 ++ kb) || !dfsAre h' dfs then none else match e with
              | .normal => bif lpsOk h' lps then decPls fr'.t h' j.pl1 fun s' => some (.nx s') else none
              | e => findEx h' (lps.map (·.1)) e j.pay 0 j.ex fun i p => decPls fr'.t h' j.pl1 fun s' => some (.dn (i, s', p))) s0
          (fun s => match layPls (keepT fr.t j.keep) (lpsSet (keepH h (fun b => b) kb) lps) nx j.pl1 s with
            | (t1, h1, nx1) => bif !Nat.ble nx1 1048575 then none else exA P tab ann f rec n β b y { fr with t := t1 } h1 nx1 K)
          (fun x => selEx j.pay x.2.2 x.1 0 j.ex fun e lp => match layPls (keepT fr.t j.keep) (lpsSet (keepH h (fun b => b) kb) lp) nx j.pl1 x.2.1 with
            | (t1, h1, nx1) => bif !Nat.ble nx1 1048575 then none else K e { fr with t := t1 } h1 nx1)
      | _ => exA P tab ann f rec n β b x fr h nx fun e fr h nx => match e with
        | .normal => exA P tab ann f rec n β b y fr h nx K
        | e => K e fr h nx
    | .cond c x y => evsA fr.t c fun v => match v with
      | .bool c => br c (fun _ => exA P tab ann f rec n β b x fr h nx K) (fun _ => exA P tab ann f rec n β b y fr h nx K)
      | _ => none
    | .block id x => exA P tab ann f rec n β b x fr h nx fun e fr h nx => match e with
      | .exit j => bif Nat.beq j id then K .normal fr h nx else K (.exit j) fr h nx
      | e => K e fr h nx
    | .loop x => match (match firstReg x with
        | some i => ann f i nx
        | none => none) with
      | some (.loop tm) =>
        let ids := plIds tm.pl
        let kb := kbOf h nx tm.kb
        bif fr.up.isSome || !slotsOk fr.nt tm.pl || !tm.keep.all (fun k => Nat.blt k 1048575) || (writesC x).any (fun k => tm.keep.any (Nat.beq k)) || !distinct (plSrc fr.t h tm.pl ++ kb) || !(kb ++ ids).all (fun i => Nat.blt i nx) || !dfsOk h kb then none else
        let lps := lpsOf h kb
        let dfs := dfIds h kb
        decPls fr.t h tm.pl fun s0 =>
        bd (loop (α := plDen tm.pl) (β := Nat × plDen tm.pl × tm.pay.den) (fun s =>
            match layPls (keepT fr.t tm.keep) (keepH h lockB kb) nx tm.pl s with
            | (t1, h1, nx1) => bif !Nat.ble nx1 1048575 then none else exA P tab ann f rec n (LR (plDen tm.pl) (Nat × plDen tm.pl × tm.pay.den)) nx1 x { fr with t := t1 } h1 nx1 fun e fr' h' _ =>
              bif !Nat.beq fr'.ds.length fr.ds.length || !distinct (plSrc fr'.t h' tm.pl ++ kb) || !dfsAre h' dfs then none else match e with
              | .normal => bif lpsOk h' lps then decPls fr'.t h' tm.pl fun s' => some (.nx s') else none
              | e => findEx h' (lps.map (·.1)) e tm.pay 0 tm.ex fun i p => decPls fr'.t h' tm.pl fun s' => some (.dn (i, s', p))) s0) fun x =>
        selEx tm.pay x.2.2 x.1 0 tm.ex fun e lp => match layPls (keepT fr.t tm.keep) (lpsSet (keepH h (fun b => b) kb) lp) nx tm.pl x.2.1 with
        | (t1, h1, nx1) => bif !Nat.ble nx1 1048575 then none else K e { fr with t := t1 } h1 nx1
      | _ => exA P tab ann f rec n β b x fr h nx fun e fr h nx => match e with
        | .normal => exA P tab ann f rec n β b (.loop x) fr h nx K
        | e => K e fr h nx
    | .scope x => exA P tab ann f rec n β b x fr h nx fun e fr h nx => match e with
      | .goto _ => none
      | e => K e fr h nx
    | .exit id => K (.exit id) fr h nx
    | .goto l => K (.goto l) fr h nx
    | .ret => K .ret fr h nx
    | .refuse _ => none
    | .region _ ops draw => bif !Nat.ble (nx + ops.size) 1048575 || !(ops.toList.all fun o => match o.dst with
        | some d => Nat.blt d fr.nt
        | none => true) then none else
        bif draw then (bif P.follows .mixedOrders || !Region.departs ops then drawnA P tab nx ops.toList fr h fun fr h => K .normal fr h (nx + ops.size) else none)
        else runOpsA P tab rec nx ops.toList (idx 0 ops.toList) fr h (nx + ops.size) K
    | .rangeFunc g ps asg body => bif !Nat.ble (nx + 2) 1048575 then none else evsA fr.t g fun v => match v with
      | .fn g a1 b1 =>
        match (match fr.ro with
          | none => some (nx, [DFA.col nx], hput h nx (.df (some [])))
          | some l0 => (match h.get l0 with
            | some (.lp _ _ _ _ _ _ _ d0) => some (d0, [], h)
            | _ => none)) with
        | some (d, mark, h) => invokeA P g a1 b1 [.yl (nx + 1)] fun r => match r with
          | .call g args => rec β (.fn g) none args (hput h (nx + 1) (.lp 0 none fr.nt fr.t ps.toList asg body d)) (nx + 2) fun o _ h nx' => match o with
            | .ret _ => (match h.get (nx + 1) with
              | some (.lp st pend nt t ps asg body d) => bif Nat.beq st 1 then none else
                let h := hput h (nx + 1) (.lp 3 pend nt t ps asg body d)
                (match pend with
                | none => K .normal { fr with ds := mark ++ fr.ds } h nx'
                | some .ret => K .ret { fr with ds := mark ++ fr.ds } h nx'
                | some (.exit id) => K (.exit id) { fr with ds := mark ++ fr.ds } h nx'
                | some (.goto id) => K (.goto id) { fr with ds := mark ++ fr.ds } h nx'
                | _ => none)
              | _ => none)
            | _ => none
          | _ => none
        | none => none
      | _ => none

def reslA (P : Program) (h : H) (t : T V) : List ResultVar → (List V → Option β) → Option β
  | [], K => K []
  | .tmp k :: l, K => opt (t.get k) fun v => reslA P h t l fun vs => K (v :: vs)
  | .cell a ty :: l, K => match t.get a with
    | some (.ptr j off) => match h.get j with
      | some (.box cs _ _) => opt (partA P ty (cs.drop off)) fun v => reslA P h t l fun vs => K (v :: vs)
      | _ => none
    | _ => none
def settleA : UMA → UMA
  | .pan ({ v := _, recovered := true } :: _) => .ret
  | u => u
def leaveA (P : Program) (rec : RecA) (fn : Func) (β : Type) : Nat → List DFA → UMA → T V → H → Nat → (OutA → H → Nat → Option β) → Option β
  | 0, _, _, _, _, _, _ => none
  | n + 1, ds, u, t, h, nx, K => match ds with
    | [] => match u with
      | .ret => reslA P h t fn.results.toList fun vs => K (.ret (match vs with
        | [v] => v
        | vs => .tup vs)) h nx
      | .pan ch => K (.pan ch) h nx
    | .col id :: ds => match h.get id with
      | some (.df (some l)) => leaveA P rec fn β n (l ++ ds) u t (hput h id (.df none)) nx K
      | _ => none
    | .bi _ _ _ _ :: _ => none
    | .call f args :: ds => match f with
      | .fn (.func g) a b => invokeA P (.func g) a b args fun r => match r with
        | .call g args => rec β (.fn g) (some u) args h nx fun o up h nx => match o, up with
          | .ret _, some u => leaveA P rec fn β n ds (settleA u) t h nx K
          | _, _ => none
        | _ => none
      | _ => none
def roundEndA (h : H) (nx : Nat) (l : Nat) (jump : Option Code) (K : OutA → Option UMA → H → Nat → Option β) : Option β := match h.get l with
  | some (.lp _ _ nt t ps asg body d) => K (.ret (.bool jump.isNone)) none (hput h l (.lp (match jump with | none => 0 | some _ => 2) jump nt t ps asg body d)) nx
  | _ => none
def doA (P : Program) (tab : Tab) (ann : Ann) (F : Nat) : Nat → RecA
  | 0 => fun _ _ _ _ _ _ _ => none
  | n + 1 => fun β tg up args h nx K => match tg with
    | .fn f => opt P.funcs[f]? fun fn => opt fn.body fun c =>
      bif Nat.ble args.length fn.ntmps && Nat.blt fn.ntmps 1048575 then
        exA P tab ann f (doA P tab ann F n) F β nx c { t := setArgsA 0 args .lf, nt := fn.ntmps, ds := [], up, ro := none } h nx fun e fr h nx => match e with
          | .normal => leaveA P (doA P tab ann F n) fn β F fr.ds .ret fr.t h nx fun o h nx => K o fr.up h nx
          | .ret => leaveA P (doA P tab ann F n) fn β F fr.ds .ret fr.t h nx fun o h nx => K o fr.up h nx
          | .panic e => leaveA P (doA P tab ann F n) fn β F fr.ds (.pan [{ v := e, recovered := false }]) fr.t h nx fun o h nx => K o fr.up h nx
          | _ => none
      else none
    | .yl l => match h.get l with
      | some (.lp _ _ nt t ps asg body0 _) => opt (setParamsA nt ps args t) fun t =>
        exA P tab ann 0 (doA P tab ann F n) F β nx asg { t, nt, ds := [], up := none, ro := some l } h nx fun e fr h nx => match e with
          | .normal => (match h.get l with
            | some (.lp 0 pend nt t ps asg body d) => exA P tab ann 0 (doA P tab ann F n) F β nx body0 fr (hput h l (.lp 1 pend nt t ps asg body d)) nx fun e _ h nx => match e with
                | .normal => roundEndA h nx l none K
                | .ret => roundEndA h nx l (some .ret) K
                | .exit id => roundEndA h nx l (some (.exit id)) K
                | .goto id => roundEndA h nx l (some (.goto id)) K
                | _ => none
            | _ => none)
          | _ => none
      | _ => none
/-- a function at typed arguments -/
def runA (P : Program) (tab : Tab) (ann : Ann) (F n : Nat) (f : FuncId) (dom cod : List (Bool × Ty)) (x : domDen dom) : Option (domDen cod) :=
  doA P tab ann F n (domDen cod) (.fn f) none (valsOf dom x) .lf 0 fun o _ h _ => match o with
    | .ret v => decArgs h cod (match cod with
      | [_] => [v]
      | _ => match v with
        | .tup vs => vs
        | v => [v]) some
    | _ => none
end
def tabGet : List (FuncId × Sg) → FuncId → Option Sg
  | [], _ => none
  | (g, sg) :: l, f => bif Nat.beq f g then some sg else tabGet l f
/-- pu: what runs pure; L: what is known -/
def mkTab (pu : FuncId → Bool) (L : List (FuncId × Sg)) : Tab := fun f => bif pu f then some (tabGet L f) else none
/-- templates out of a list: function, region, next number -/
def annGet : List (Nat × Nat × Nat × An) → Ann
  | [], _, _, _ => none
  | (a, b, c, tm) :: l, f, i, nx => bif Nat.beq f a && (Nat.beq i b && Nat.beq nx c) then some tm else annGet l f i nx
end Go.Proofs.YtopoaknleakdcaaGreat.Sv
namespace Go.Proofs.YtopoaknleakdcaaGreat.Sv
open Go.Proofs.YtopoaknleakdcaaGreat.Pi (PV T Hp Blk DF UM PE)
/-! What known shapes stand for: the elder evaluator's values. -/
inductive L2 {α β : Type} (R : α → β → Prop) : List α → List β → Prop where
  | nil : L2 R [] []
  | cons {a : α} {b : β} {l : List α} {m : List β} (h : R a b) (t : L2 R l m) : L2 R (a :: l) (b :: m)
namespace L2
variable {α β : Type} {R S : α → β → Prop}
theorem length {l : List α} {m : List β} (h : L2 R l m) : l.length = m.length := by
  induction h with
  | nil => rfl
  | cons _ _ ih => simp [ih]
theorem mono {l : List α} {m : List β} (h : L2 R l m) (f : ∀ a b, R a b → S a b) : L2 S l m := by
  induction h with
  | nil => exact .nil
  | cons x _ ih => exact .cons (f _ _ x) ih
theorem append {l l' : List α} {m m' : List β} (h : L2 R l m) (k : L2 R l' m') : L2 R (l ++ l') (m ++ m') := by
  induction h with
  | nil => exact k
  | cons x _ ih => exact .cons x ih
theorem take {l : List α} {m : List β} (h : L2 R l m) : ∀ n, L2 R (l.take n) (m.take n) := by
  induction h with
  | nil => intro n; simp; exact .nil
  | cons x _ ih => intro n; cases n with
    | zero => simp; exact .nil
    | succ n => exact .cons x (ih n)
theorem drop {l : List α} {m : List β} (h : L2 R l m) : ∀ n, L2 R (l.drop n) (m.drop n) := by
  induction h with
  | nil => intro n; simp; exact .nil
  | cons x t ih => intro n; cases n with
    | zero => exact .cons x t
    | succ n => exact ih n
theorem get {l : List α} {m : List β} (h : L2 R l m) : ∀ {i : Nat} {a : α}, l[i]? = some a → ∃ b, m[i]? = some b ∧ R a b := by
  induction h with
  | nil => intro i a h; simp at h
  | cons x _ ih => intro i a h; cases i with
    | zero => simp at h; subst h; exact ⟨_, rfl, x⟩
    | succ i => simp at h; obtain ⟨b, h1, h2⟩ := ih h; exact ⟨b, by simpa using h1, h2⟩
theorem set {l : List α} {m : List β} (h : L2 R l m) : ∀ (i : Nat) {a : α} {b : β}, R a b → L2 R (l.set i a) (m.set i b) := by
  induction h with
  | nil => intro i a b h; exact .nil
  | cons x t ih => intro i a b h; cases i with
    | zero => exact .cons h t
    | succ i => exact .cons x (ih i h)
theorem replicate {a : α} {b : β} (h : R a b) : ∀ n, L2 R (List.replicate n a) (List.replicate n b)
  | 0 => .nil
  | n + 1 => .cons h (replicate h n)
theorem nil_inv {m : List β} (h : L2 R [] m) : m = [] := by cases h; rfl
theorem nil_inv' {l : List α} (h : L2 R l []) : l = [] := by cases h; rfl
theorem cons_inv {a : α} {l : List α} {m : List β} (h : L2 R (a :: l) m) : ∃ b t, m = b :: t ∧ R a b ∧ L2 R l t := by
  cases h with
  | cons x t => exact ⟨_, _, rfl, x, t⟩
theorem split {l l' : List α} {m : List β} (h : L2 R (l ++ l') m) : ∃ p q, m = p ++ q ∧ L2 R l p ∧ L2 R l' q := by
  induction l generalizing m with
  | nil => exact ⟨[], m, rfl, .nil, h⟩
  | cons a l ih =>
    obtain ⟨b, t, rfl, h1, h2⟩ := cons_inv h
    obtain ⟨p, q, rfl, h3, h4⟩ := ih h2
    exact ⟨b :: p, q, rfl, .cons h1 h3, h4⟩
end L2

/-- an entry: a struct's cells, or one cell -/
def EP {α : Type} (g : Bool) (D : α → List PV → Prop) (x : α) (e : PV) : Prop := match g with
  | true => ∃ cs, e = .agg cs ∧ D x cs
  | false => D x [e]
/-- typed data against frozen cells -/
def DP : (c : Ty) → c.den → List PV → Prop
  | .int k, n, ps => ps = [.int k n]
  | .bool, b, ps => ps = [.bool b]
  | .str, s, ps => ps = [.str s]
  | .unit, _, ps => ps = []
  | .pair a b, x, ps => ∃ p q, ps = p ++ q ∧ DP a x.1 p ∧ DP b x.2 q
  | .sl g c, l, ps => ∃ p, ps = [p] ∧ ((p = .nils ∧ l = []) ∨ ∃ f es, p = .lst f es ∧ L2 (EP g (DP c)) l es)
/-- typed data against cells, rows that Q allows among them -/
def DR (h : Hp) (Q : Nat → Prop) : (c : Ty) → c.den → List PV → Prop
  | .int k, n, ps => ps = [.int k n]
  | .bool, b, ps => ps = [.bool b]
  | .str, s, ps => ps = [.str s]
  | .unit, _, ps => ps = []
  | .pair a b, x, ps => ∃ p q, ps = p ++ q ∧ DR h Q a x.1 p ∧ DR h Q b x.2 q
  | .sl g c, l, ps => ∃ p, ps = [p] ∧ ((p = .nils ∧ l = []) ∨ (∃ f es, p = .lst f es ∧ L2 (EP g (DP c)) l es) ∨
      ∃ pid off len es ex fz, p = .own pid off len ∧ Q pid ∧ h.get pid = some (.row es ex fz) ∧ off + len ≤ es.length ∧ Pi.elOk c.wd es = true ∧ L2 (EP g (DR h Q c)) l ((es.drop off).take len))
theorem EP.mono {α : Type} {g : Bool} {D E : α → List PV → Prop} (f : ∀ x ps, D x ps → E x ps) {x : α} {e : PV} (h : EP g D x e) : EP g E x e := by
  cases g with
  | true => obtain ⟨cs, h1, h2⟩ := h; exact ⟨cs, h1, f _ _ h2⟩
  | false => exact f _ _ h
theorem DP.up {h : Hp} {Q : Nat → Prop} : ∀ {c : Ty} {x : c.den} {ps : List PV}, DP c x ps → DR h Q c x ps
  | .int _, _, _, e => e
  | .bool, _, _, e => e
  | .str, _, _, e => e
  | .unit, _, _, e => e
  | .pair _ _, _, _, ⟨p, q, e, h1, h2⟩ => ⟨p, q, e, DP.up h1, DP.up h2⟩
  | .sl _ _, _, _, ⟨p, e, h⟩ => ⟨p, e, h.elim .inl fun h => .inr (.inl h)⟩
/-- rows stay, but for the mark -/
def Rows (h h' : Hp) (Q Q' : Nat → Prop) : Prop := ∀ pid es ex fz, Q pid → h.get pid = some (.row es ex fz) → (∃ fz', h'.get pid = some (.row es ex fz')) ∧ Q' pid
theorem DR.mono {h h' : Hp} {Q Q' : Nat → Prop} (hr : Rows h h' Q Q') : ∀ {c : Ty} {x : c.den} {ps : List PV}, DR h Q c x ps → DR h' Q' c x ps
  | .int _, _, _, e => e
  | .bool, _, _, e => e
  | .str, _, _, e => e
  | .unit, _, _, e => e
  | .pair _ _, _, _, ⟨p, q, e, h1, h2⟩ => ⟨p, q, e, DR.mono hr h1, DR.mono hr h2⟩
  | .sl _ _, _, _, ⟨p, e, h⟩ => ⟨p, e, by
    rcases h with h | h | ⟨pid, off, len, es, ex, fz, h1, h2, h3, h4, h8, h5⟩
    · exact .inl h
    · exact .inr (.inl h)
    · obtain ⟨⟨fz', h6⟩, h7⟩ := hr _ _ _ _ h2 h3
      exact .inr (.inr ⟨pid, off, len, es, ex, fz', h1, h7, h6, h4, h8, h5.mono fun _ _ k => k.mono fun _ _ k => DR.mono hr k⟩)⟩

/-- where an own block lies: a block, or a value that is none -/
inductive At where
  | blk (pid len : Nat)
  | nil
  | fz (es : List PV)
abbrev Mp := Nat → Option At
def mp0 : Mp := fun _ => none
def hp0 : Hp := { m := .lf, nx := 0 }
structure Cx where
  π : Mp
  h : Hp
  O : Nat → Prop
/-- nothing own -/
def Cx.pure : Cx := { π := mp0, h := hp0, O := fun _ => True }
def Cx.Q (X : Cx) (pid : Nat) : Prop := ¬ X.O pid
mutual
def VR (X : Cx) : V → PV → Prop
  | .bool b, p => p = .bool b
  | .int k n, p => p = .int k n
  | .str s, p => p = .str s
  | .nilp, p => p = .nilp
  | .nils, p => p = .nils
  | .nilm, p => p = .nilm
  | .nilf, p => p = .nilf
  | .nili, p => p = .nili
  | .agg cs, p => ∃ ps, p = .agg ps ∧ VRL X cs ps
  | .tup cs, p => ∃ ps, p = .tup ps ∧ VRL X cs ps
  | .lf full g c l, p => (p = .nils ∧ l = []) ∨ (∃ f es, p = .lst f es ∧ (full = true → f = true) ∧ L2 (EP g (DP c)) l es) ∨
      ∃ pid off len es ex fz, p = .own pid off len ∧ (full = true → ex = true ∧ off + len = es.length) ∧ X.Q pid ∧ X.h.get pid = some (.row es ex fz) ∧ off + len ≤ es.length ∧ Pi.elOk c.wd es = true ∧ L2 (EP g (DR X.h X.Q c)) l ((es.drop off).take len)
  | .exl full es, p => ∃ f ps, p = .lst f ps ∧ (full = true → f = true) ∧ VRL Cx.pure es ps
  | .ow id, p => match X.π id with
    | some (.blk pid len) => p = .own pid 0 len
    | some .nil => p = .nils
    | some (.fz es) => p = .lst true es
    | none => False
  | .own id off len, p => ∃ pid n, X.π id = some (.blk pid n) ∧ p = .own pid off len
  | .ptr id off, p => ∃ pid n, X.π id = some (.blk pid n) ∧ p = .ptr pid off
  | .ept id i off, p => ∃ pid n, X.π id = some (.blk pid n) ∧ p = .ept pid i off
  | .view cs, p => (∃ ps, p = .view ps ∧ VRL Cx.pure cs ps) ∨ ∃ pid i off es ex fz e, p = .ept pid i off ∧ X.Q pid ∧ X.h.get pid = some (.row es ex fz) ∧ es[i]? = some e ∧ VRL X cs (e.cells.drop off)
  | .fn f a b, p => ∃ a' b', p = .fn f a' b' ∧ VRL X a a' ∧ VRL X b b'
  | .yl id, p => ∃ pid n, X.π id = some (.blk pid n) ∧ p = .yl pid
  | .ifc t v, p => ∃ q, p = .ifc t q ∧ VR X v q
  | .mp id, p => ∃ pid n, X.π id = some (.blk pid n) ∧ p = .mp pid
def VRL (X : Cx) : List V → List PV → Prop
  | [], ps => ps = []
  | v :: vs, ps => ∃ p qs, ps = p :: qs ∧ VR X v p ∧ VRL X vs qs
end
/-- what holds in X holds in Y -/
structure Up (X Y : Cx) : Prop where
  pi : ∀ id a, X.π id = some a → Y.π id = some a
  rows : Rows X.h Y.h X.Q Y.Q
theorem Up.refl (X : Cx) : Up X X := ⟨fun _ _ h => h, fun _ _ _ _ h k => ⟨⟨_, k⟩, h⟩⟩
theorem Up.trans {X Y Z : Cx} (a : Up X Y) (b : Up Y Z) : Up X Z := ⟨fun id x h => b.pi _ _ (a.pi _ _ h), fun pid es ex fz h k => by
  obtain ⟨⟨fz', h1⟩, h2⟩ := a.rows _ _ _ _ h k
  exact b.rows _ _ _ _ h2 h1⟩
theorem hp0_get (pid : Nat) : hp0.get pid = none := rfl
theorem Up.pure (X : Cx) : Up Cx.pure X := ⟨fun _ _ h => (by cases h), fun _ _ _ _ h => absurd trivial h⟩
mutual
theorem VR.mono {X Y : Cx} (u : Up X Y) : ∀ {v : V} {p : PV}, VR X v p → VR Y v p
  | .bool _, _, h | .int _ _, _, h | .str _, _, h | .nilp, _, h | .nils, _, h | .nilm, _, h | .nilf, _, h | .nili, _, h => by
    simp only [VR] at h ⊢; exact h
  | .agg cs, _, h => by
    simp only [VR] at h ⊢
    obtain ⟨ps, h1, h2⟩ := h
    exact ⟨ps, h1, VRL.mono u h2⟩
  | .tup cs, _, h => by
    simp only [VR] at h ⊢
    obtain ⟨ps, h1, h2⟩ := h
    exact ⟨ps, h1, VRL.mono u h2⟩
  | .lf full g c l, _, h => by
    simp only [VR] at h ⊢
    rcases h with h | h | ⟨pid, off, len, es, ex, fz, h1, h0, h2, h3, h4, h8, h5⟩
    · exact .inl h
    · exact .inr (.inl h)
    · obtain ⟨⟨fz', h6⟩, h7⟩ := u.rows _ _ _ _ h2 h3
      exact .inr (.inr ⟨pid, off, len, es, ex, fz', h1, h0, h7, h6, h4, h8, h5.mono fun _ _ k => k.mono fun _ _ k => DR.mono u.rows k⟩)
  | .exl full es, _, h => by simp only [VR] at h ⊢; exact h
  | .ow id, p, h => by
    simp only [VR] at h ⊢
    cases hx : X.π id with
    | none => rw [hx] at h; exact h.elim
    | some a => rw [hx] at h; rw [u.pi _ _ hx]; exact h
  | .own id off len, _, h => by
    simp only [VR] at h ⊢
    obtain ⟨pid, n, h1, h2⟩ := h; exact ⟨pid, n, u.pi _ _ h1, h2⟩
  | .ptr id off, _, h => by
    simp only [VR] at h ⊢
    obtain ⟨pid, n, h1, h2⟩ := h; exact ⟨pid, n, u.pi _ _ h1, h2⟩
  | .ept id i off, _, h => by
    simp only [VR] at h ⊢
    obtain ⟨pid, n, h1, h2⟩ := h; exact ⟨pid, n, u.pi _ _ h1, h2⟩
  | .view cs, _, h => by
    simp only [VR] at h ⊢
    rcases h with h | ⟨pid, i, off, es, ex, fz, e, h1, h2, h3, h4, h5⟩
    · exact .inl h
    · obtain ⟨⟨fz', h6⟩, h7⟩ := u.rows _ _ _ _ h2 h3
      exact .inr ⟨pid, i, off, es, ex, fz', e, h1, h7, h6, h4, VRL.mono u h5⟩
  | .fn f a b, _, h => by
    simp only [VR] at h ⊢
    obtain ⟨a', b', h1, h2, h3⟩ := h
    exact ⟨a', b', h1, VRL.mono u h2, VRL.mono u h3⟩
  | .yl id, _, h => by
    simp only [VR] at h ⊢
    obtain ⟨pid, n, h1, h2⟩ := h; exact ⟨pid, n, u.pi _ _ h1, h2⟩
  | .ifc t v, _, h => by
    simp only [VR] at h ⊢
    obtain ⟨q, h1, h2⟩ := h
    exact ⟨q, h1, VR.mono u h2⟩
  | .mp id, _, h => by
    simp only [VR] at h ⊢
    obtain ⟨pid, n, h1, h2⟩ := h; exact ⟨pid, n, u.pi _ _ h1, h2⟩
theorem VRL.mono {X Y : Cx} (u : Up X Y) : ∀ {vs : List V} {ps : List PV}, VRL X vs ps → VRL Y vs ps
  | [], _, h => by simp only [VRL] at h ⊢; exact h
  | v :: vs, _, h => by
    simp only [VRL] at h ⊢
    obtain ⟨p, qs, h1, h2, h3⟩ := h
    exact ⟨p, qs, h1, VR.mono u h2, VRL.mono u h3⟩
end
section
variable {X : Cx}
theorem VRL.nil : VRL X [] [] := by simp [VRL]
theorem VRL.cons {v : V} {p : PV} {vs : List V} {ps : List PV} (h : VR X v p) (t : VRL X vs ps) : VRL X (v :: vs) (p :: ps) := by
  simp only [VRL]; exact ⟨p, ps, rfl, h, t⟩
theorem VRL.nil_inv {ps : List PV} (h : VRL X [] ps) : ps = [] := by simpa [VRL] using h
theorem VRL.cons_inv {v : V} {vs : List V} {ps : List PV} (h : VRL X (v :: vs) ps) : ∃ p qs, ps = p :: qs ∧ VR X v p ∧ VRL X vs qs := by simpa only [VRL] using h
theorem VRL.length : ∀ {vs : List V} {ps : List PV}, VRL X vs ps → vs.length = ps.length
  | [], _, h => by rw [h.nil_inv]; rfl
  | v :: vs, _, h => by obtain ⟨p, qs, rfl, _, h2⟩ := h.cons_inv; simp [h2.length]
theorem VRL.append : ∀ {vs ws : List V} {ps qs : List PV}, VRL X vs ps → VRL X ws qs → VRL X (vs ++ ws) (ps ++ qs)
  | [], _, _, _, h, k => by rw [h.nil_inv]; exact k
  | v :: vs, _, _, _, h, k => by obtain ⟨p, qs, rfl, h1, h2⟩ := h.cons_inv; exact .cons h1 (h2.append k)
theorem VRL.take : ∀ {vs : List V} {ps : List PV} (_ : VRL X vs ps) (n : Nat), VRL X (vs.take n) (ps.take n)
  | [], _, h, n => by rw [h.nil_inv]; simpa using VRL.nil
  | v :: vs, _, h, 0 => by simpa using VRL.nil
  | v :: vs, _, h, n + 1 => by obtain ⟨p, qs, rfl, h1, h2⟩ := h.cons_inv; exact .cons h1 (h2.take n)
theorem VRL.drop : ∀ {vs : List V} {ps : List PV} (_ : VRL X vs ps) (n : Nat), VRL X (vs.drop n) (ps.drop n)
  | [], _, h, n => by rw [h.nil_inv]; simpa using VRL.nil
  | v :: vs, _, h, 0 => by simpa using h
  | v :: vs, _, h, n + 1 => by obtain ⟨p, qs, rfl, h1, h2⟩ := h.cons_inv; exact h2.drop n
theorem VRL.lget : ∀ {vs : List V} {ps : List PV} (_ : VRL X vs ps) {i : Nat} {v : V}, Pi.lget vs i = some v → ∃ p, Pi.lget ps i = some p ∧ VR X v p
  | [], _, h, i, v, e => by simp [Pi.lget] at e
  | w :: vs, _, h, i, v, e => by
    obtain ⟨p, qs, rfl, h1, h2⟩ := h.cons_inv
    unfold Pi.lget at e ⊢
    cases hb : Nat.beq i 0 with
    | true => rw [hb] at e; simp at e; subst e; exact ⟨p, rfl, h1⟩
    | false => rw [hb] at e; simp only [cond_false] at e ⊢; exact h2.lget e
theorem VRL.lset : ∀ {vs : List V} {ps : List PV} (_ : VRL X vs ps) (i : Nat) {v : V} {p : PV}, VR X v p → VRL X (Pi.lset vs i v) (Pi.lset ps i p)
  | [], _, h, i, v, p, _ => by rw [h.nil_inv]; exact .nil
  | w :: vs, _, h, i, v, p, hv => by
    obtain ⟨q, qs, rfl, h1, h2⟩ := h.cons_inv
    unfold Pi.lset
    cases hb : Nat.beq i 0 with
    | true => exact .cons hv h2
    | false => exact .cons h1 (h2.lset _ hv)
theorem VRL.fput {vs xs : List V} {ps qs : List PV} (h : VRL X vs ps) (k : VRL X xs qs) (off : Nat) : VRL X (fputL vs off xs) (Pi.lput ps off qs) := by
  unfold fputL Pi.lput
  rw [← k.length]
  exact (h.take off).append (k.append (h.drop _))
theorem VRL.rep {v : V} {p : PV} (h : VR X v p) : ∀ n, VRL X (List.replicate n v) (List.replicate n p)
  | 0 => .nil
  | n + 1 => .cons h (VRL.rep h n)
/-- cells -/
theorem VR.cells {v : V} {p : PV} (h : VR X v p) : VRL X v.cells p.cells := by
  have one : ∀ (v : V) (p : PV), VR X v p → v.cells = [v] → p.cells = [p] → VRL X v.cells p.cells := by
    intro v p h h1 h2; rw [h1, h2]; exact .cons h .nil
  cases v with
  | bool b => simp only [VR] at h; subst h; exact one _ _ (by simp [VR]) rfl rfl
  | int k n => simp only [VR] at h; subst h; exact one _ _ (by simp [VR]) rfl rfl
  | str k => simp only [VR] at h; subst h; exact one _ _ (by simp [VR]) rfl rfl
  | nilp => simp only [VR] at h; subst h; exact one _ _ (by simp [VR]) rfl rfl
  | nils => simp only [VR] at h; subst h; exact one _ _ (by simp [VR]) rfl rfl
  | nilm => simp only [VR] at h; subst h; exact one _ _ (by simp [VR]) rfl rfl
  | nilf => simp only [VR] at h; subst h; exact one _ _ (by simp [VR]) rfl rfl
  | nili => simp only [VR] at h; subst h; exact one _ _ (by simp [VR]) rfl rfl
  | agg cs => simp only [VR] at h; obtain ⟨ps, rfl, h2⟩ := h; exact h2
  | tup cs => simp only [VR] at h; obtain ⟨ps, rfl, h2⟩ := h; exact .nil
  | lf f g c l =>
    refine one _ _ h rfl ?_
    simp only [VR] at h
    rcases h with ⟨rfl, _⟩ | ⟨f, es, rfl, _⟩ | ⟨pid, off, len, es, ex, fz, rfl, _⟩ <;> rfl
  | exl f es =>
    refine one _ _ h rfl ?_
    simp only [VR] at h
    obtain ⟨f, ps, rfl, _⟩ := h; rfl
  | own id off len => refine one _ _ h rfl ?_; simp only [VR] at h; obtain ⟨_, _, _, rfl⟩ := h; rfl
  | ptr id off => refine one _ _ h rfl ?_; simp only [VR] at h; obtain ⟨_, _, _, rfl⟩ := h; rfl
  | ept id i off => refine one _ _ h rfl ?_; simp only [VR] at h; obtain ⟨_, _, _, rfl⟩ := h; rfl
  | view cs =>
    refine one _ _ h rfl ?_
    simp only [VR] at h
    rcases h with ⟨ps, rfl, _⟩ | ⟨_, _, _, _, _, _, _, rfl, _⟩ <;> rfl
  | fn f a b => refine one _ _ h rfl ?_; simp only [VR] at h; obtain ⟨_, _, rfl, _⟩ := h; rfl
  | yl id => refine one _ _ h rfl ?_; simp only [VR] at h; obtain ⟨_, _, _, rfl⟩ := h; rfl
  | ifc t v => refine one _ _ h rfl ?_; simp only [VR] at h; obtain ⟨_, rfl, _⟩ := h; rfl
  | mp id => refine one _ _ h rfl ?_; simp only [VR] at h; obtain ⟨_, _, _, rfl⟩ := h; rfl
  | ow id =>
    refine one _ _ h rfl ?_
    simp only [VR] at h
    split at h
    · subst h; rfl
    · subst h; rfl
    · subst h; rfl
    · exact h.elim
end
end Go.Proofs.YtopoaknleakdcaaGreat.Sv
namespace Go.Proofs.YtopoaknleakdcaaGreat.Sv
open Go.Proofs.YtopoaknleakdcaaGreat.Pi (PV T Hp Blk DF UM PE)
section
variable {β α : Type}
theorem opt_some {o : Option α} {K : α → Option β} {x : β} (e : opt o K = some x) : ∃ y, o = some y ∧ K y = some x := by
  cases o with
  | none => cases e
  | some y => exact ⟨y, rfl, e⟩
theorem gd_some {c : Bool} {K : Unit → Option β} {x : β} (e : gd c K = some x) : c = true ∧ K () = some x := by
  cases c with
  | false => cases e
  | true => exact ⟨rfl, e⟩
theorem br_some {c : Bool} {a b : Unit → Option β} {x : β} (e : br c a b = some x) : (c = true ∧ a () = some x) ∨ (c = false ∧ b () = some x) := by
  cases c with
  | false => exact .inr ⟨rfl, e⟩
  | true => exact .inl ⟨rfl, e⟩
theorem ix_some {l : List α} {i : Nat} {K : α → Option β} {x : β} (e : ix l i K = some x) : ∃ y, l[i]? = some y ∧ K y = some x := by
  unfold ix at e
  split at e
  · rename_i y hy; exact ⟨y, hy, e⟩
  · cases e
theorem nat_some {n : Int} {K : Nat → Option β} {x : β} (e : nat n K = some x) : 0 ≤ n ∧ K n.toNat = some x := by
  unfold nat at e
  cases h : decide (0 ≤ n) with
  | false => rw [h] at e; cases e
  | true => rw [h] at e; exact ⟨of_decide_eq_true h, e⟩
theorem bd_some {m : Option α} {K : α → Option β} {x : β} (e : bd m K = some x) : ∃ y, m = some y ∧ K y = some x := by
  cases m with
  | none => cases e
  | some y => exact ⟨y, rfl, e⟩
theorem castK_some {c c' : Ty} {l : List c.den} {K : List c'.den → Option β} {x : β} (e : castK l K = some x) : ∃ h : c = c', K (h ▸ l) = some x := by
  unfold castK at e
  split at e
  · rename_i h; exact ⟨h, e⟩
  · cases e
theorem bifT' {c : Bool} {a b : α} {x : α} (e : (bif c then a else b) = x) : (c = true ∧ a = x) ∨ (c = false ∧ b = x) := by
  cases c with
  | false => exact .inr ⟨rfl, e⟩
  | true => exact .inl ⟨rfl, e⟩
theorem bifN {c : Bool} {b : Option α} {x : α} (e : (bif c then none else b) = some x) : c = false ∧ b = some x := by
  cases c with
  | false => exact ⟨rfl, e⟩
  | true => cases e
theorem bifY {c : Bool} {a : Option α} {x : α} (e : (bif c then a else none) = some x) : c = true ∧ a = some x := by
  cases c with
  | true => exact ⟨rfl, e⟩
  | false => cases e
end
section
variable {X : Cx} {β : Type} {x : β}
/-! Constants. -/
theorem cellOfA_ok {v : Value} {a : V} (e : cellOfA v = some a) : ∃ p, Pi.cellOf v = some p ∧ VR X a p := by
  unfold cellOfA at e
  unfold Pi.cellOf
  split at e
  all_goals first
    | (cases e; exact ⟨_, rfl, by simp [VR]⟩)
    | (split at e
       · rename_i h; cases e; exact ⟨.fn (.func _) [] [], if_pos h, by simp [VR, VRL]⟩
       · cases e)
    | cases e
theorem cellsOfA_ok : ∀ {vs : List Value} {as : List V}, cellsOfA vs = some as → ∃ ps, Pi.cellsOf vs = some ps ∧ VRL X as ps
  | [], as, e => by cases e; exact ⟨[], rfl, .nil⟩
  | v :: l, as, e => by
    unfold cellsOfA at e
    split at e
    · rename_i a as' h1 h2
      cases e
      obtain ⟨p, e1, r1⟩ := cellOfA_ok (X := X) h1
      obtain ⟨ps, e2, r2⟩ := cellsOfA_ok h2
      exact ⟨p :: ps, by unfold Pi.cellsOf; rw [e1, e2], .cons r1 r2⟩
    · cases e
theorem ofValA_ok {v : Value} {a : V} (e : ofValA v = some a) : ∃ p, Pi.ofVal v = some p ∧ VR X a p := by
  unfold ofValA at e
  split at e
  · rename_i cs
    cases h : cellsOfA cs.toList with
    | none => rw [h] at e; cases e
    | some as =>
      rw [h] at e; cases e
      obtain ⟨ps, e2, r2⟩ := cellsOfA_ok (X := X) h
      exact ⟨.agg ps, by simp only [Pi.ofVal, e2]; rfl, by simp only [VR]; exact ⟨ps, rfl, r2⟩⟩
  · rename_i vs
    replace e := bifY e; obtain ⟨h, e⟩ := e
    cases e
    exact ⟨.tup [], by simp [Pi.ofVal, h], by simp [VR, VRL]⟩
  · rename_i t v
    split at e
    · rename_i p hp
      cases e
      obtain ⟨q, e2, r2⟩ := cellOfA_ok (X := X) hp
      exact ⟨.ifc t q, by simp only [Pi.ofVal, e2], by simp only [VR]; exact ⟨q, rfl, r2⟩⟩
    · cases e
  · rename_i h1 h2 h3
    obtain ⟨p, e2, r2⟩ := cellOfA_ok (X := X) e
    refine ⟨p, ?_, r2⟩
    unfold Pi.ofVal
    split
    · exact absurd rfl (h1 _)
    · exact absurd rfl (h2 _)
    · exact absurd rfl (h3 _ _)
    · exact e2
theorem zeroCellsA_ok {P : Program} {t : TypeId} {as : List V} (e : zeroCellsA P t = some as) : ∃ ps, Pi.zeroCells P t = some ps ∧ VRL X as ps := by
  unfold zeroCellsA at e
  split at e
  · rename_i i hi
    split at e
    · rename_i z hz
      obtain ⟨ps, h, r⟩ := cellsOfA_ok (X := X) e
      exact ⟨ps, by simp only [Pi.zeroCells, hi, hz]; exact h, r⟩
    · cases e
  · cases e
theorem zeroElA_ok {P : Program} {t : TypeId} {a : V} (e : zeroElA P t = some a) : ∃ p, Pi.zeroEl P t = some p ∧ VR X a p := by
  unfold zeroElA at e
  split at e
  · rename_i i hi
    split at e
    · rename_i z hz
      obtain ⟨ps, h, r⟩ := ofValA_ok (X := X) e
      exact ⟨ps, by simp only [Pi.zeroEl, hi, hz]; exact h, r⟩
    · cases e
  · cases e

/-! Slots. -/
def TR (X : Cx) (t : T V) (tP : T PV) : Prop := ∀ k v, t.get k = some v → ∃ p, tP.get k = some p ∧ VR X v p
theorem TR.mono {Y : Cx} {t : T V} {tP : T PV} (h : TR X t tP) (u : Up X Y) : TR Y t tP := fun k v e => by
  obtain ⟨p, h1, h2⟩ := h k v e; exact ⟨p, h1, h2.mono u⟩
theorem TR.put {t : T V} {tP : T PV} (h : TR X t tP) {d : Nat} (hd : d < 1048575) {v : V} {p : PV} (hv : VR X v p) : TR X (T.put 20 t d v) (T.put 20 tP d p) := by
  have hp : (2 : Nat) ^ 20 - 1 = 1048575 := by decide
  intro k w e
  rw [T.get_put 20 t d v k (by omega)] at e
  rw [T.get_put 20 tP d p k (by omega)]
  by_cases hk : k = d
  · rw [if_pos hk] at e ⊢; cases e; exact ⟨p, rfl, hv⟩
  · rw [if_neg hk] at e ⊢; exact h k w e
variable {t : T V} {tP : T PV}
theorem evsA_ok (ht : TR X t tP) {o : Operand} {K : V → Option β} (e : evsA t o K = some x) : ∃ v p, K v = some x ∧ Pi.evs tP o = some p ∧ VR X v p := by
  unfold evsA at e
  unfold Pi.evs
  split at e
  · obtain ⟨v, h1, h2⟩ := opt_some e
    obtain ⟨p, h3, h4⟩ := ht _ _ h1
    exact ⟨v, p, h2, by simp [h3], h4⟩
  · obtain ⟨v, h1, h2⟩ := opt_some e
    obtain ⟨p, h3, h4⟩ := ofValA_ok (X := X) h1
    exact ⟨v, p, h2, h3, h4⟩
  · exact ⟨_, _, e, rfl, by simp [VR, VRL]⟩
  · cases e
theorem evlA_ok (ht : TR X t tP) : ∀ {os : List Operand} {K : List V → Option β}, evlA t os K = some x → ∃ vs ps, K vs = some x ∧ Pi.evl tP os = some ps ∧ VRL X vs ps
  | [], K, e => ⟨[], [], e, rfl, .nil⟩
  | o :: l, K, e => by
    obtain ⟨v, p, e1, h1, r1⟩ := evsA_ok ht e
    obtain ⟨vs, ps, e2, h2, r2⟩ := evlA_ok ht e1
    exact ⟨v :: vs, p :: ps, e2, by unfold Pi.evl; rw [h1, h2], .cons r1 r2⟩
def VRO (X : Cx) : Option V → Option PV → Prop
  | none, o => o = none
  | some v, o => ∃ p, o = some p ∧ VR X v p
theorem evoA_ok (ht : TR X t tP) {o : Option Operand} {K : Option V → Option β} (e : evoA t o K = some x) : ∃ v p, K v = some x ∧ Pi.evo tP o = some p ∧ VRO X v p := by
  cases o with
  | none => exact ⟨none, none, e, rfl, rfl⟩
  | some o =>
    obtain ⟨v, p, e1, h1, r1⟩ := evsA_ok ht e
    exact ⟨some v, some p, e1, by show (Pi.evs tP o).map some = _; rw [h1]; rfl, p, rfl, r1⟩
def VRI (X : Cx) : List (Nat × V) → List (Nat × PV) → Prop := L2 fun a b => a.1 = b.1 ∧ VR X a.2 b.2
theorem partsOfA_ok (ht : TR X t tP) : ∀ {os : List (Nat × Operand)} {K : List (Nat × V) → Option β}, partsOfA t os K = some x → ∃ vs ps, K vs = some x ∧ Pi.partsOf tP os = some ps ∧ VRI X vs ps
  | [], K, e => ⟨[], [], e, rfl, .nil⟩
  | (i, o) :: l, K, e => by
    obtain ⟨v, p, e1, h1, r1⟩ := evsA_ok ht e
    obtain ⟨vs, ps, e2, h2, r2⟩ := partsOfA_ok ht e1
    exact ⟨(i, v) :: vs, (i, p) :: ps, e2, by unfold Pi.partsOf; rw [h1, h2], .cons ⟨rfl, r1⟩ r2⟩

/-! Numbers. -/
theorem natV_ok {v : V} {p : PV} {K : Nat → Option β} (hv : VR X v p) (e : natV v K = some x) : ∃ n, K n = some x ∧ Pi.asNat p = some n := by
  unfold natV at e
  split at e
  · simp only [VR] at hv; subst hv
    obtain ⟨h1, h2⟩ := nat_some e
    exact ⟨_, h2, by simp [Pi.asNat, h1]⟩
  · cases e
theorem nat64V_ok {v : V} {p : PV} {K : Nat → Option β} (hv : VR X v p) (e : nat64V v K = some x) : ∃ n, K n = some x ∧ Pi.asInt64 p = some n := by
  unfold nat64V at e
  split at e
  · simp only [VR] at hv; subst hv
    obtain ⟨h1, h2⟩ := nat_some e
    exact ⟨_, h2, by simp [Pi.asInt64, h1]⟩
  · cases e
theorem natOrV_ok {d : Nat} {v : Option V} {p : Option PV} {K : Nat → Option β} (hv : VRO X v p) (e : natOrV d v K = some x) : ∃ n, K n = some x ∧ Pi.natOr d p = some n := by
  cases v with
  | none => cases hv; exact ⟨d, e, rfl⟩
  | some v => obtain ⟨p, rfl, hv⟩ := hv; exact natV_ok hv e
theorem intA_ok {op : BinOp} {k : IntKind} {a b : Int} {K : V → Option β} (e : intA op k a b K = some x) : ∃ v p, K v = some x ∧ Pi.pint op k a b = some p ∧ VR X v p := by
  cases op <;> simp only [intA] at e
  all_goals first
    | (exact ⟨_, _, e, rfl, by simp only [VR]; rfl⟩)
    | (obtain ⟨h1, h2⟩ := gd_some e
       refine ⟨_, _, h2, ?_, by simp only [VR]; rfl⟩
       have hb : (b == 0) = false := by simpa [ine] using h1
       simp only [Pi.pint, hb, cond_false]; rfl)
    | cases e
theorem shiftA_ok {op : BinOp} {k : IntKind} {a b : Int} {K : V → Option β} (e : shiftA op k a b K = some x) : ∃ v p, K v = some x ∧ Pi.pshift op k a b = some p ∧ VR X v p := by
  cases op <;> simp only [shiftA] at e
  all_goals first
    | (obtain ⟨h1, h2⟩ := gd_some e
       refine ⟨_, _, h2, ?_, by simp only [VR]; rfl⟩
       have hb : decide (b < 0) = false := by simpa [ige] using h1
       simp only [Pi.pshift, hb, cond_false]; rfl)
    | cases e
theorem u8_irrefl (a : UInt8) : (decide (a < a)) = false := by simp
theorem bytesLess_total : ∀ (a b : List UInt8), (Op.bytesLess a b || a == b) = !Op.bytesLess b a
  | [], [] => rfl
  | [], _ :: _ => rfl
  | _ :: _, [] => rfl
  | a :: l, b :: m => by
    have ih := bytesLess_total l m
    simp only [Op.bytesLess]
    by_cases h1 : a < b
    · have h2 : ¬ b < a := by rw [UInt8.lt_iff_toNat_lt] at h1 ⊢; omega
      have h3 : (b == a) = false := by
        rw [beq_eq_false_iff_ne]; intro h; subst h; exact h2 h1
      simp [h1, h2, h3]
    · by_cases h2 : b < a
      · have h3 : (a == b) = false := by
          rw [beq_eq_false_iff_ne]; intro h; subst h; exact h1 h2
        have h4 : (a :: l == b :: m) = false := by
          rw [List.cons_beq_cons, h3]; rfl
        simp [h1, h2, h3, h4]
      · have h3 : a = b := by
          apply UInt8.toNat_inj.1
          rw [UInt8.lt_iff_toNat_lt] at h1 h2; omega
        subst h3
        rw [List.cons_beq_cons]
        simp only [h1, decide_false, Bool.false_or, beq_self_eq_true, Bool.true_and]
        exact ih
theorem strA_ok {op : BinOp} {a b : List UInt8} {K : V → Option β} (e : strA op a b K = some x) : ∃ v p, K v = some x ∧ Pi.pstr op a b = some p ∧ VR X v p := by
  cases op <;> simp only [strA] at e
  all_goals first
    | (refine ⟨_, _, e, rfl, ?_⟩; simp only [VR]; rfl)
    | (refine ⟨_, _, e, rfl, ?_⟩; simp only [VR]; rw [bytesLess_total]; rfl)
    | (refine ⟨_, _, e, rfl, ?_⟩; simp only [VR]; rw [bytesLess_total]; simp [slt])
    | (obtain ⟨h1, h2⟩ := gd_some e
       refine ⟨_, _, h2, ?_, by simp only [VR]; rfl⟩
       simp only [nle, nadd, slen] at h1
       simp only [Pi.pstr, h1, cond_true]; rfl)
    | cases e
end
end Go.Proofs.YtopoaknleakdcaaGreat.Sv
namespace Go.Proofs.YtopoaknleakdcaaGreat.Sv
open Go.Proofs.YtopoaknleakdcaaGreat.Pi (PV T Hp Blk DF UM PE)
section
variable {X : Cx} {β : Type} {x : β} {P : Program}
theorem partA_ok {t : TypeId} {cs : List V} {ps : List PV} {v : V} (h : VRL X cs ps) (e : partA P t cs = some v) : ∃ p, Pi.part P t ps = some p ∧ VR X v p := by
  unfold partA at e
  split at e
  · rename_i n h1 h2
    replace e := bifY e; obtain ⟨hn, e⟩ := e
    cases e
    refine ⟨.agg (ps.take n), ?_, by simp only [VR]; exact ⟨_, rfl, h.take n⟩⟩
    unfold Pi.part; simp only [h1, h2]; rw [← h.length, hn]; rfl
  · rename_i h1 h2
    split at e
    · cases e
      obtain ⟨p, qs, rfl, r, _⟩ := h.cons_inv
      exact ⟨p, by unfold Pi.part; simp only [h1, h2], r⟩
    · cases e
  · cases e
theorem VR.agg_inv {cs : List V} {p : PV} (h : VR X (.agg cs) p) : ∃ ps, p = .agg ps ∧ VRL X cs ps := by simpa only [VR] using h
mutual
theorem eqT_ok : ∀ (d : Nat) {t : TypeId} {a b : V} {c : Bool} {p q : PV}, VR X a p → VR X b q → eqT P d t a b = some c → Pi.peq P d t p q = some c
  | 0, _, _, _, _, _, _, _, _, e => by simp [eqT] at e
  | d + 1, t, a, b, c, p, q, ha, hb, e => by
    unfold eqT at e
    unfold Pi.peq
    split at e
    all_goals (try simp only [*])
    · split at e
      · simp only [VR] at ha hb; subst ha; subst hb; exact e
      · cases e
    · split at e
      · simp only [VR] at ha hb; subst ha; subst hb; exact e
      · cases e
    · split at e
      · simp only [VR] at ha hb; subst ha; subst hb; exact e
      · cases e
    · split at e
      all_goals first
        | (simp only [VR] at ha hb; subst ha; subst hb; exact e)
        | (simp only [VR] at ha hb; obtain ⟨_, _, _, rfl⟩ := ha; subst hb; exact e)
        | (simp only [VR] at ha hb; obtain ⟨_, _, _, rfl⟩ := hb; subst ha; exact e)
        | (simp only [VR] at ha hb; subst ha; rcases hb with ⟨_, rfl, _⟩ | ⟨_, _, _, _, _, _, _, rfl, _⟩ <;> exact e)
        | (simp only [VR] at ha hb; subst hb; rcases ha with ⟨_, rfl, _⟩ | ⟨_, _, _, _, _, _, _, rfl, _⟩ <;> exact e)
        | cases e
    · split at e
      · simp only [VR] at ha hb; subst ha; subst hb; exact e
      · cases e
    · split at e
      all_goals first
        | (simp only [VR] at ha hb; subst ha; subst hb; exact e)
        | (simp only [VR] at ha hb; obtain ⟨_, _, rfl, _⟩ := ha; subst hb; exact e)
        | (simp only [VR] at ha hb; obtain ⟨_, _, rfl, _⟩ := hb; subst ha; exact e)
        | cases e
    · split at e
      · simp only [VR] at ha hb; subst ha; subst hb; exact e
      · simp only [VR] at ha hb; subst ha; obtain ⟨_, rfl, _⟩ := hb; exact e
      · simp only [VR] at ha hb; subst hb; obtain ⟨_, rfl, _⟩ := ha; exact e
      · simp only [VR] at ha hb
        obtain ⟨a', rfl, ha⟩ := ha; obtain ⟨b', rfl, hb⟩ := hb
        rcases bifT' e with ⟨h, e⟩ | ⟨h, e⟩
        · simp only [h, cond_true]
          split at e
          · rename_i i hi
            replace e := bifY e; obtain ⟨h2, e⟩ := e
            simp only [hi, h2, cond_true]
            exact eqT_ok d ha hb e
          · cases e
        · simp only [h, cond_false]; exact e
      · cases e
    · split at e
      · obtain ⟨ps, rfl, ha'⟩ := ha.agg_inv; obtain ⟨qs, rfl, hb'⟩ := hb.agg_inv
        replace e := bifN e; obtain ⟨h, e⟩ := e
        simp only [h, cond_false]
        exact eqTs_ok d ha' hb' e
      · cases e
    · split at e
      · obtain ⟨ps, rfl, ha'⟩ := ha.agg_inv; obtain ⟨qs, rfl, hb'⟩ := hb.agg_inv
        replace e := bifY e; obtain ⟨h, e⟩ := e
        simp only [h, cond_true]
        exact eqTa_ok d ha' hb' e
      · cases e
theorem eqTs_ok : ∀ (d : Nat) {fs : List Field} {a b : List V} {c : Bool} {p q : List PV}, VRL X a p → VRL X b q → eqTs P d fs a b = some c → Pi.peqs P d fs p q = some c
  | 0, _, _, _, _, _, _, _, _, e => by simp [eqTs] at e
  | d + 1, [], _, _, _, _, _, _, _, e => by simpa [eqTs, Pi.peqs] using e
  | d + 1, f :: fs, a, b, c, p, q, ha, hb, e => by
    unfold eqTs at e
    unfold Pi.peqs
    rcases bifT' e with ⟨h, e⟩ | ⟨h, e⟩
    · simp only [h, cond_true]; exact eqTs_ok d ha hb e
    · simp only [h, cond_false]
      split at e
      · rename_i u v hu hv
        obtain ⟨u', h1, r1⟩ := partA_ok (ha.drop f.offset) hu
        obtain ⟨v', h2, r2⟩ := partA_ok (hb.drop f.offset) hv
        split at e
        · rename_i c1 c2 e1 e2
          simp only [h1, h2, eqT_ok d r1 r2 e1]
          cases e
          cases c1 with
          | true => simpa [band] using eqTs_ok d ha hb e2
          | false => simp [band]
        · cases e
      · cases e
theorem eqTa_ok : ∀ (d : Nat) {n : Nat} {t : TypeId} {a b : List V} {c : Bool} {p q : List PV}, VRL X a p → VRL X b q → eqTa P d n t a b = some c → Pi.peqa P d n t p q = some c
  | 0, _, _, _, _, _, _, _, _, _, e => by simp [eqTa] at e
  | d + 1, 0, _, _, _, _, _, _, _, _, e => by simpa [eqTa, Pi.peqa] using e
  | d + 1, n + 1, t, a, b, c, p, q, ha, hb, e => by
    unfold eqTa at e
    unfold Pi.peqa
    split at e
    · rename_i s u v hs hu hv
      obtain ⟨u', h1, r1⟩ := partA_ok ha hu
      obtain ⟨v', h2, r2⟩ := partA_ok hb hv
      split at e
      · rename_i c1 c2 e1 e2
        simp only [hs, h1, h2, eqT_ok d r1 r2 e1]
        cases e
        cases c1 with
        | true => simpa [band] using eqTa_ok d (ha.drop s) (hb.drop s) e2
        | false => simp [band]
      · cases e
    · cases e
end
theorem eql_some {op : BinOp} {c : Bool} {K : V → Option β} (e : (match op with
    | .eql => K (.bool c)
    | .neq => K (.bool (bnot c))
    | _ => none) = some x) {o : Option Bool} (ho : o = some c) : ∃ v p, K v = some x ∧ (match op with
    | .eql => o.map .bool
    | .neq => o.map fun r => .bool (!r)
    | _ => none) = some p ∧ VR X v p := by
  subst ho
  cases op <;> simp only at e ⊢
  all_goals first
    | (exact ⟨_, _, e, rfl, by simp [VR, bnot]⟩)
    | cases e
theorem pbin_other {op : BinOp} {ty : TypeId} {p q : PV} (h1 : ∀ k n k' m, ¬(p = .int k n ∧ q = .int k' m)) (h2 : ∀ a b, ¬(p = .str a ∧ q = .str b)) : Pi.pbin P op ty p q = (match op with
    | .eql => (Pi.peq P Pi.eqDepth ty p q).map .bool
    | .neq => (Pi.peq P Pi.eqDepth ty p q).map fun r => .bool (!r)
    | _ => none) := by
  unfold Pi.pbin
  split
  · exact absurd ⟨rfl, rfl⟩ (h1 _ _ _ _)
  · exact absurd ⟨rfl, rfl⟩ (h2 _ _)
  · rfl
theorem VR.inv {v : V} {p : PV} (h : VR X v p) : (∀ k n, p = .int k n → v = .int k n) ∧ (∀ l, p = .str l → v = .str l) ∧ (p = .nili → v = .nili) ∧ (∀ cs, p = .agg cs → ∃ as, v = .agg as) := by
  cases v with
  | agg cs => exact ⟨fun _ _ e => by simp [VR, e] at h, fun _ e => by simp [VR, e] at h, fun e => by simp [VR, e] at h, fun _ _ => ⟨_, rfl⟩⟩
  | ow id =>
    simp only [VR] at h
    split at h
    · subst h; simp
    · subst h; simp
    · subst h; simp
    · exact h.elim
  | lf f g c l =>
    simp only [VR] at h
    rcases h with ⟨rfl, _⟩ | ⟨_, _, rfl, _⟩ | ⟨_, _, _, _, _, _, rfl, _⟩ <;> simp
  | view cs =>
    simp only [VR] at h
    rcases h with ⟨_, rfl, _⟩ | ⟨_, _, _, _, _, _, _, rfl, _⟩ <;> simp
  | tup cs => simp only [VR] at h; obtain ⟨_, rfl, _⟩ := h; simp
  | exl f cs => simp only [VR] at h; obtain ⟨_, _, rfl, _⟩ := h; simp
  | own a b c => simp only [VR] at h; obtain ⟨_, _, _, rfl⟩ := h; simp
  | ptr a b => simp only [VR] at h; obtain ⟨_, _, _, rfl⟩ := h; simp
  | ept a b c => simp only [VR] at h; obtain ⟨_, _, _, rfl⟩ := h; simp
  | fn a b c => simp only [VR] at h; obtain ⟨_, _, rfl, _⟩ := h; simp
  | yl a => simp only [VR] at h; obtain ⟨_, _, _, rfl⟩ := h; simp
  | mp a => simp only [VR] at h; obtain ⟨_, _, _, rfl⟩ := h; simp
  | ifc a b => simp only [VR] at h; obtain ⟨_, rfl, _⟩ := h; simp
  | _ => simp only [VR] at h; subst h; simp
theorem vl_some {o : Option PV} {h : Hp} {p : PV} (e : o = some p) : Pi.vl o h = some (.val p h) := by rw [e]; rfl
theorem binA_ok {h : Hp} {op : BinOp} {ty : TypeId} {ox oy : Operand} {a b : V} {p q : PV} {K : V → Option β} (ha : VR X a p) (hb : VR X b q) (e : binA P op ty ox oy a b K = some x) :
    ∃ v r, K v = some x ∧ Pi.evBin P h op ty ox oy p q = some (.val r h) ∧ VR X v r := by
  unfold binA at e
  split at e
  · simp only [VR] at ha hb; subst ha; subst hb
    split at e
    · obtain ⟨v, r, h1, h2, h3⟩ := shiftA_ok (X := X) e
      exact ⟨v, r, h1, vl_some (by simpa [Pi.pbin] using h2), h3⟩
    · obtain ⟨v, r, h1, h2, h3⟩ := shiftA_ok (X := X) e
      exact ⟨v, r, h1, vl_some (by simpa [Pi.pbin] using h2), h3⟩
    · rename_i n1 n2
      replace e := bifY e; obtain ⟨hk, e⟩ := e
      obtain ⟨v, r, h1, h2, h3⟩ := intA_ok (X := X) e
      refine ⟨v, r, h1, vl_some ?_, h3⟩
      unfold Pi.pbin
      cases op <;> first | exact absurd rfl n1 | exact absurd rfl n2 | (simp only [hk, cond_true]; exact h2)
  · simp only [VR] at ha hb; subst ha; subst hb
    obtain ⟨v, r, h1, h2, h3⟩ := strA_ok (X := X) e
    exact ⟨v, r, h1, vl_some h2, h3⟩
  · replace e := bifY e; obtain ⟨hc, e⟩ := e
    obtain ⟨c, h1, e⟩ := opt_some e
    obtain ⟨v, r, e1, h2, h3⟩ := eql_some (X := X) e (eqT_ok 64 ha hb h1)
    simp only [VR] at ha hb; subst ha; subst hb
    refine ⟨v, r, e1, ?_, h3⟩
    unfold Pi.evBin
    simp only [hc, cond_true]
    exact vl_some (by rw [pbin_other (by simp) (by simp)]; exact h2)
  · rename_i as bs
    replace e := bifN e; obtain ⟨hc, e⟩ := e
    obtain ⟨c, h1, e⟩ := opt_some e
    obtain ⟨v, r, e1, h2, h3⟩ := eql_some (X := X) e (eqT_ok 64 ha hb h1)
    obtain ⟨ps, rfl, ha'⟩ := ha.agg_inv; obtain ⟨qs, rfl, hb'⟩ := hb.agg_inv
    refine ⟨v, r, e1, ?_, h3⟩
    unfold Pi.evBin
    simp only [hc, cond_false]
    exact vl_some (by rw [pbin_other (by simp) (by simp)]; exact h2)
  · rename_i n1 n2 n3 n4
    obtain ⟨c, h1, e⟩ := opt_some e
    obtain ⟨v, r, e1, h2, h3⟩ := eql_some (X := X) e (eqT_ok 64 ha hb h1)
    refine ⟨v, r, e1, ?_, h3⟩
    have i1 := ha.inv; have i2 := hb.inv
    unfold Pi.evBin
    split
    · exact absurd (i2.2.2.1 rfl) (n3 (i1.2.2.1 rfl))
    · obtain ⟨_, j1⟩ := i1.2.2.2 _ rfl
      obtain ⟨_, j2⟩ := i2.2.2.2 _ rfl
      exact absurd j2 (n4 _ _ j1)
    · refine vl_some ?_
      rw [pbin_other (fun k n k' m hh => n1 _ _ _ _ (i1.1 _ _ hh.1) (i2.1 _ _ hh.2)) (fun l m hh => n2 _ _ (i1.2.1 _ hh.1) (i2.2.1 _ hh.2))]
      exact h2
theorem unA_ok {op : UnOp} {a : V} {p : PV} {K : V → Option β} (ha : VR X a p) (e : unA op a K = some x) : ∃ v r, K v = some x ∧ Pi.pun op p = some r ∧ VR X v r := by
  unfold unA at e
  split at e
  · simp only [VR] at ha; subst ha
    split at e
    · exact ⟨_, _, e, rfl, by simp [VR, bnot]⟩
    · cases e
  · simp only [VR] at ha; subst ha
    split at e
    · exact ⟨_, _, e, rfl, by simp [VR, ineg]⟩
    · cases e
  · cases e
theorem convertA_ok {h : Hp} {s d : TypeId} {a : V} {p : PV} {K : V → Option β} (ha : VR X a p) (e : convertA P s d a K = some x) : ∃ v r, K v = some x ∧ Pi.evConvert P h s d p = some (.val r h) ∧ VR X v r := by
  unfold convertA at e
  unfold Pi.evConvert
  split at e
  · rename_i h1 h2
    simp only [VR] at ha; subst ha
    exact ⟨_, _, e, by simp only [h1, h2]; rfl, by simp [VR, icv]⟩
  · rename_i h1 h2
    simp only [VR] at ha; subst ha
    exact ⟨_, _, e, by simp only [h1, h2]; rfl, by simp [VR]⟩
  · cases e
theorem ifcA_ok {h : Hp} {ty : TypeId} {a : V} {p : PV} {K : V → Option β} (ha : VR X a p) (e : ifcA P ty a K = some x) : ∃ v r, K v = some x ∧ Pi.evIfc P h ty p = some (.val r h) ∧ VR X v r := by
  unfold ifcA at e
  unfold Pi.evIfc
  split at e
  · cases e
  · rename_i u hu hh
    refine ⟨_, .ifc ty p, e, ?_, by simp only [VR]; exact ⟨p, rfl, ha⟩⟩
    rw [hh]
    cases u <;> first | exact absurd rfl (hu _) | rfl
  · cases e
theorem nilA_ok {h : Hp} {a : V} {p : PV} {K : V → Option β} (ha : VR X a p) (e : nilA a K = some x) : ∃ v r, K v = some x ∧ Pi.evNil h p = some (.val r h) ∧ VR X v r := by
  unfold nilA at e
  split at e
  · refine ⟨_, p, e, ?_, ha⟩; simp only [VR] at ha; obtain ⟨_, _, _, rfl⟩ := ha; rfl
  · refine ⟨_, p, e, ?_, ha⟩; simp only [VR] at ha; obtain ⟨_, _, _, rfl⟩ := ha; rfl
  · refine ⟨_, p, e, ?_, ha⟩; simp only [VR] at ha; rcases ha with ⟨_, rfl, _⟩ | ⟨_, _, _, _, _, _, _, rfl, _⟩ <;> rfl
  · refine ⟨_, p, e, ?_, ha⟩; simp only [VR] at ha; obtain ⟨_, rfl, _⟩ := ha; rfl
  · refine ⟨_, p, e, ?_, ha⟩; simp only [VR] at ha; obtain ⟨_, _, _, rfl⟩ := ha; rfl
  · refine ⟨_, p, e, ?_, ha⟩; simp only [VR] at ha; obtain ⟨_, _, rfl, _⟩ := ha; rfl
  · cases e
theorem fieldA_ok {h : Hp} {ty : TypeId} {a : V} {p : PV} {f : Nat} {K : V → Option β} (ha : VR X a p) (e : fieldA P ty a f K = some x) : ∃ v r, K v = some x ∧ Pi.evField P h ty p f = some (.val r h) ∧ VR X v r := by
  unfold fieldA at e
  split at e
  · rename_i fs cs hu
    obtain ⟨ps, rfl, ha'⟩ := ha.agg_inv
    split at e
    · rename_i fd hf
      obtain ⟨v, h1, e⟩ := opt_some e
      obtain ⟨r, h2, h3⟩ := partA_ok (ha'.drop fd.offset) h1
      exact ⟨v, r, e, by unfold Pi.evField; simp only [hu, hf]; exact vl_some h2, h3⟩
    · cases e
  · cases e
end
end Go.Proofs.YtopoaknleakdcaaGreat.Sv
namespace Go.Proofs.YtopoaknleakdcaaGreat.Sv
open Go.Proofs.YtopoaknleakdcaaGreat.Pi (PV T Hp Blk DF UM PE)
/-! The known heap against the elder evaluator's. -/
def DFR (X : Cx) : DFA → DF → Prop
  | .call f args, d => ∃ fP ps, d = .call fP ps ∧ VR X f fP ∧ VRL X args ps
  | .bi b ats ty args, d => ∃ ps, d = .bi b ats ty ps ∧ VRL X args ps
  | .col id, d => ∃ pid n, X.π id = some (.blk pid n) ∧ d = .col pid
theorem DFR.mono {X Y : Cx} (u : Up X Y) : ∀ {a : DFA} {d : DF}, DFR X a d → DFR Y a d
  | .call _ _, _, ⟨fP, ps, h1, h2, h3⟩ => ⟨fP, ps, h1, h2.mono u, h3.mono u⟩
  | .bi _ _ _ _, _, ⟨ps, h1, h2⟩ => ⟨ps, h1, h2.mono u⟩
  | .col _, _, ⟨pid, n, h1, h2⟩ => ⟨pid, n, u.pi _ _ h1, h2⟩
/-- an entry of a map -/
def MR (X : Cx) (k : Ty) (g : Bool) (c : Ty) (u : k.den × c.den) (w : PV × PV) : Prop := DP k u.1 [w.1] ∧ EP g (DR X.h X.Q c) u.2 w.2
def BR (X : Cx) : BA → Option At → Prop
  | .box cs fz _, a => ∃ pid n ps fz', a = some (.blk pid n) ∧ X.O pid ∧ X.h.get pid = some (.box ps fz') ∧ (fz = false → fz' = false) ∧ VRL X cs ps
  | .row g c l ex fz _, a => (∃ pid len es fz', a = some (.blk pid len) ∧ X.O pid ∧ X.h.get pid = some (.row es ex fz') ∧ (fz = false → fz' = false) ∧ es.length = len ∧ (ex = false → 0 < len) ∧ L2 (EP g (DR X.h X.Q c)) l es) ∨
      (a = some .nil ∧ ex = false ∧ l = []) ∨ ∃ es, a = some (.fz es) ∧ ex = false ∧ fz = true ∧ L2 (EP g (DP c)) l es
  | .mp k g c l _, a => ∃ pid n es, a = some (.blk pid n) ∧ X.O pid ∧ X.h.get pid = some (.mp es) ∧ L2 (MR X k g c) l es
  | .lp st pend nt t ps asg body d, a => ∃ pid n tP dP m, a = some (.blk pid n) ∧ X.O pid ∧ X.h.get pid = some (.lp st pend nt tP ps asg body dP) ∧ TR X t tP ∧ X.π d = some (.blk dP m) ∧ nt < 1048575
  | .df ds, a => ∃ pid n dsP, a = some (.blk pid n) ∧ X.O pid ∧ X.h.get pid = some (.df dsP) ∧ (match ds, dsP with
    | none, none => True
    | some l, some m => L2 (DFR X) l m
    | _, _ => False)
  | .dead, _ => True
theorem EDR.mono {X Y : Cx} (u : Up X Y) {g : Bool} {c : Ty} {l : List c.den} {es : List PV} (h : L2 (EP g (DR X.h X.Q c)) l es) : L2 (EP g (DR Y.h Y.Q c)) l es :=
  h.mono fun _ _ k => k.mono fun _ _ k => DR.mono u.rows k
/-- a block that stays -/
theorem BR.keep {X Y : Cx} (u : Up X Y) {b : BA} {a : Option At} (h : BR X b a) (k : ∀ pid n, a = some (.blk pid n) → X.O pid → Y.h.get pid = X.h.get pid ∧ Y.O pid) : BR Y b a := by
  cases b with
  | box cs fz lk =>
    obtain ⟨pid, n, ps, fz', h1, h2, h3, h4, h5⟩ := h
    obtain ⟨k1, k2⟩ := k _ _ h1 h2
    exact ⟨pid, n, ps, fz', h1, k2, by rw [k1, h3], h4, h5.mono u⟩
  | row g c l ex fz lk =>
    rcases h with ⟨pid, len, es, fz', h1, h2, h3, h4, h5, h7, h6⟩ | h | h
    · obtain ⟨k1, k2⟩ := k _ _ h1 h2
      exact .inl ⟨pid, len, es, fz', h1, k2, by rw [k1, h3], h4, h5, h7, EDR.mono u h6⟩
    · exact .inr (.inl h)
    · exact .inr (.inr h)
  | mp kk g c l lk =>
    obtain ⟨pid, n, es, h1, h2, h3, h4⟩ := h
    obtain ⟨k1, k2⟩ := k _ _ h1 h2
    exact ⟨pid, n, es, h1, k2, by rw [k1, h3], h4.mono fun _ _ m => ⟨m.1, m.2.mono fun _ _ k => DR.mono u.rows k⟩⟩
  | lp st pend nt t ps asg body d =>
    obtain ⟨pid, n, tP, dP, m, h1, h2, h3, h4, h5, h6⟩ := h
    obtain ⟨k1, k2⟩ := k _ _ h1 h2
    exact ⟨pid, n, tP, dP, m, h1, k2, by rw [k1, h3], h4.mono u, u.pi _ _ h5, h6⟩
  | df ds =>
    obtain ⟨pid, n, dsP, h1, h2, h3, h4⟩ := h
    obtain ⟨k1, k2⟩ := k _ _ h1 h2
    refine ⟨pid, n, dsP, h1, k2, by rw [k1, h3], ?_⟩
    split at h4
    · trivial
    · exact h4.mono fun _ _ m => m.mono u
    · exact h4.elim
  | dead => trivial
def BA.live : BA → Prop
  | .dead => False
  | _ => True
theorem BR.own {X : Cx} {b : BA} {pid n : Nat} (h : BR X b (some (.blk pid n))) (hl : b.live) : X.O pid := by
  cases b with
  | box cs fz lk => obtain ⟨_, _, _, _, h1, h2, _⟩ := h; cases h1; exact h2
  | row g c l ex fz lk =>
    rcases h with ⟨_, _, _, _, h1, h2, _⟩ | ⟨h1, _⟩ | ⟨_, h1, _⟩
    · cases h1; exact h2
    · cases h1
    · cases h1
  | mp kk g c l lk => obtain ⟨_, _, _, h1, h2, _⟩ := h; cases h1; exact h2
  | lp st pend nt t ps asg body d => obtain ⟨_, _, _, _, _, h1, h2, _⟩ := h; cases h1; exact h2
  | df ds => obtain ⟨_, _, _, h1, h2, _⟩ := h; cases h1; exact h2
  | dead => exact hl.elim
structure RH (X : Cx) (h : H) (n : Nat) : Prop where
  blk : ∀ id b, h.get id = some b → BR X b (X.π id)
  inj : ∀ id id' b b' pid m m', h.get id = some b → h.get id' = some b' → b.live → b'.live → X.π id = some (.blk pid m) → X.π id' = some (.blk pid m') → id = id'
  dom : ∀ id a, X.π id = some a → id < n
  fresh : ∀ pid, X.h.nx ≤ pid → X.h.get pid = none
  ob : ∀ q, X.O q → X.h.get q ≠ none
theorem hput_get {h : H} {id : Nat} (hid : id < 1048575) {b : BA} {k : Nat} : (hput h id b).get k = if k = id then some b else h.get k := by
  have hp : (2 : Nat) ^ 20 - 1 = 1048575 := by decide
  exact T.get_put 20 h id b k (by omega)
/-- one operation's change -/
structure St (X : Cx) (h : H) (id idP : Nat) (Y : Cx) (h' : H) : Prop where
  up : Up X Y
  nx : Y.h.nx = X.h.nx
  pin : ∀ j, j ≠ id → X.π j = none → Y.π j = none
  hpn : ∀ q, q ≠ idP → X.h.get q = none → Y.h.get q = none
  lk : ∀ j b, h.get j = some b → b.locked = true → h'.get j = some b
  lps : ∀ q st pe nt t ps asg body d, X.h.get q = some (.lp st pe nt t ps asg body d) → Y.h.get q = some (.lp st pe nt t ps asg body d)
set_option linter.unusedVariables false
theorem St.refl (X : Cx) (h : H) (id idP : Nat) : St X h id idP X h := ⟨Up.refl X, rfl, fun _ _ h => h, fun _ _ h => h, fun _ _ h _ => h, fun _ _ _ _ _ _ _ _ _ h => h⟩
theorem St.trans {X Y Z : Cx} {h h' h'' : H} {id idP : Nat} (a : St X h id idP Y h') (b : St Y h' id idP Z h'') : St X h id idP Z h'' :=
  ⟨a.up.trans b.up, b.nx.trans a.nx, fun j hj k => b.pin j hj (a.pin j hj k), fun j hj k => b.hpn j hj (a.hpn j hj k), fun j x k l => b.lk j x (a.lk j x k l) l,
    fun q st pe nt t ps asg body d k => b.lps _ _ _ _ _ _ _ _ _ (a.lps _ _ _ _ _ _ _ _ _ k)⟩
def upd {α : Type} (f : Nat → α) (i : Nat) (a : α) : Nat → α := fun j => if j = i then a else f j
section
variable {X : Cx} {h : H} {n : Nat}
/-- a block that is there turns -/
theorem RH.set (r : RH X h n) {id pid m : Nat} {b b' : BA} {bP bP0 : Blk} {hP : Hp} (hid : id < 1048575) (e0 : h.get id = some b) (hl : b.live) (hk : b.locked = false) (hp : X.π id = some (.blk pid m)) (hb0 : X.h.get pid = some bP0)
    (hnl : ∀ st pe nt t ps asg body d, bP0 ≠ .lp st pe nt t ps asg body d)
    (e : X.h.set pid bP = some hP) (hb : ∀ Y : Cx, Y.π = X.π → Y.h = hP → Y.O = X.O → Up X Y → BR Y b' (X.π id)) (idQ : Nat) :
    ∃ Y : Cx, Y.π = X.π ∧ Y.h = hP ∧ Y.O = X.O ∧ RH Y (hput h id b') n ∧ ∀ i, St X h i idQ Y (hput h id b') := by
  obtain ⟨g1, g2⟩ := Hp.get_set e
  have hO : X.O pid := (hp ▸ r.blk _ _ e0).own hl
  let Y : Cx := { π := X.π, h := hP, O := X.O }
  have u : Up X Y := ⟨fun _ _ h => h, fun q es ex fz hq hg => ⟨⟨fz, by
    show hP.get q = _
    rw [g1, if_neg (by intro hh; subst hh; exact hq hO), hg]⟩, hq⟩⟩
  refine ⟨Y, rfl, rfl, rfl, ⟨fun i bb hi => ?_, fun i i' bb bb' q m1 m2 hi hi' l1 l2 => ?_, r.dom, fun q hq => ?_, fun q hq => by
    show hP.get q ≠ none
    rw [g1]; split
    · simp
    · exact r.ob _ hq⟩, fun i => ⟨u, g2, fun _ _ h => h, fun q hq hn => ?_, fun j bb hj hlk => ?_, fun q st pe nt t ps asg body d hq => ?_⟩⟩
  · rw [hput_get hid] at hi
    by_cases hii : i = id
    · rw [if_pos hii] at hi; cases hi; subst hii; exact hb Y rfl rfl rfl u
    · rw [if_neg hii] at hi
      by_cases hlv : bb.live
      · refine (r.blk _ _ hi).keep u fun q m' hq hO' => ⟨?_, hO'⟩
        show hP.get q = _
        rw [g1, if_neg]
        intro hh; subst hh
        exact hii (r.inj _ _ _ _ _ _ _ hi e0 hlv hl hq hp)
      · cases bb with
        | dead => trivial
        | _ => exact absurd trivial hlv
  · rw [hput_get hid] at hi hi'
    by_cases h1 : i = id
    · by_cases h2 : i' = id
      · intro _ _; rw [h1, h2]
      · rw [if_neg h2] at hi'
        subst h1
        intro a1 a2
        exact r.inj _ _ _ _ _ _ _ e0 hi' hl l2 a1 a2
    · rw [if_neg h1] at hi
      by_cases h2 : i' = id
      · subst h2
        intro a1 a2
        exact r.inj _ _ _ _ _ _ _ hi e0 l1 hl a1 a2
      · rw [if_neg h2] at hi'
        exact r.inj _ _ _ _ _ _ _ hi hi' l1 l2
  · show hP.get q = none
    have hq' : X.h.nx ≤ q := by rw [← g2]; exact hq
    rw [g1, if_neg (by intro hh; subst hh; rw [r.fresh _ hq'] at hb0; cases hb0)]
    exact r.fresh _ hq'
  · show hP.get q = none
    rw [g1, if_neg (by intro hh; subst hh; rw [hn] at hb0; cases hb0)]; exact hn
  · rw [hput_get hid]
    rw [if_neg (by intro hh; subst hh; rw [e0] at hj; cases hj; rw [hk] at hlk; cases hlk)]; exact hj
  · show hP.get q = _
    rw [g1, if_neg (by intro hh; subst hh; rw [hb0] at hq; exact hnl _ _ _ _ _ _ _ _ (Option.some.inj hq))]; exact hq
/-- a new block -/
theorem RH.new (r : RH X h n) {id pid m : Nat} {b : BA} {bP : Blk} {hP : Hp} (hid : id < 1048575) (hn : id < n) (hp : X.π id = none) (hlt : pid < X.h.nx)
    (e : X.h.new pid bP = some hP) (hb : ∀ Y : Cx, Y.π = Sv.upd X.π id (some (.blk pid m)) → Y.h = hP → (∀ q, Y.O q ↔ X.O q ∨ q = pid) → Up X Y → BR Y b (some (.blk pid m))) :
    ∃ Y : Cx, Y.π = Sv.upd X.π id (some (.blk pid m)) ∧ Y.h = hP ∧ RH Y (hput h id b) n ∧ St X h id pid Y (hput h id b) := by
  obtain ⟨g0, g1, g2⟩ := Hp.get_new e
  let Y : Cx := { π := Sv.upd X.π id (some (.blk pid m)), h := hP, O := fun q => X.O q ∨ q = pid }
  have hpi : ∀ j, j ≠ id → Y.π j = X.π j := fun j hj => if_neg hj
  have hpi0 : Y.π id = some (.blk pid m) := if_pos rfl
  have u : Up X Y := ⟨fun j a hj => by
    rw [hpi j (by intro hh; subst hh; rw [hp] at hj; cases hj)]; exact hj, fun q es ex fz hq hg => by
    have hne : q ≠ pid := by intro hh; subst hh; rw [g0] at hg; cases hg
    exact ⟨⟨fz, by show hP.get q = _; rw [g1, if_neg hne, hg]⟩, fun hO => hO.elim hq hne⟩⟩
  have hnone : h.get id = none ∨ ∃ bb, h.get id = some bb ∧ ¬ bb.live := by
    cases hg : h.get id with
    | none => exact .inl rfl
    | some bb =>
      refine .inr ⟨bb, rfl, fun hl => ?_⟩
      have := r.blk _ _ hg
      rw [hp] at this
      cases bb <;> first | exact hl | (simp [BR] at this)
  have other : ∀ {i : Nat} {bb : BA} {m1 : Nat}, h.get i = some bb → bb.live → X.π i = some (.blk pid m1) → False := by
    intro i bb m1 hg hl hpp
    have := r.blk _ _ hg
    rw [hpp] at this
    cases bb with
    | dead => exact hl
    | box cs fz lk => obtain ⟨_, _, _, _, h1, _, h3, _⟩ := this; cases h1; rw [g0] at h3; cases h3
    | row g c l ex fz lk =>
      rcases this with ⟨_, _, _, _, h1, _, h3, _⟩ | ⟨h1, _⟩ | ⟨_, h1, _⟩
      · cases h1; rw [g0] at h3; cases h3
      · cases h1
      · cases h1
    | mp kk g c l lk => obtain ⟨_, _, _, h1, _, h3, _⟩ := this; cases h1; rw [g0] at h3; cases h3
    | lp st pend nt t ps asg body d => obtain ⟨_, _, _, _, _, h1, _, h3, _⟩ := this; cases h1; rw [g0] at h3; cases h3
    | df ds => obtain ⟨_, _, _, h1, _, h3, _⟩ := this; cases h1; rw [g0] at h3; cases h3
  refine ⟨Y, rfl, rfl, ⟨fun i bb hi => ?_, fun i i' bb bb' q m1 m2 hi hi' l1 l2 a1 a2 => ?_, fun i a hi => ?_, fun q hq => ?_, fun q hq => by
    show hP.get q ≠ none
    rw [g1]; split
    · simp
    · rcases hq with hq | hq
      · exact r.ob _ hq
      · exact absurd hq ‹_›⟩, ⟨u, g2, fun j hj k => by rw [hpi j hj]; exact k, fun q hq hn => ?_, fun j bb hj hlk => ?_, fun q st pe nt t ps asg body d hq => ?_⟩⟩
  · rw [hput_get hid] at hi
    by_cases hii : i = id
    · rw [if_pos hii] at hi; cases hi; subst hii; rw [hpi0]; exact hb Y rfl rfl (fun q => Iff.rfl) u
    · rw [if_neg hii] at hi
      rw [hpi i hii]
      by_cases hlv : bb.live
      · refine (r.blk _ _ hi).keep u fun q m' hq hO' => ⟨?_, .inl hO'⟩
        show hP.get q = _
        rw [g1, if_neg]
        intro hh; subst hh
        exact other hi hlv hq
      · cases bb with
        | dead => trivial
        | _ => exact absurd trivial hlv
  · rw [hput_get hid] at hi hi'
    by_cases h1 : i = id
    · by_cases h2 : i' = id
      · rw [h1, h2]
      · rw [if_neg h2] at hi'
        subst h1
        rw [hpi0] at a1; cases a1
        exact (other hi' l2 (hpi _ h2 ▸ a2)).elim
    · rw [if_neg h1] at hi
      by_cases h2 : i' = id
      · subst h2
        rw [hpi0] at a2; cases a2
        exact (other hi l1 (hpi _ h1 ▸ a1)).elim
      · rw [if_neg h2] at hi'
        rw [hpi _ h1] at a1; rw [hpi _ h2] at a2
        exact r.inj _ _ _ _ _ _ _ hi hi' l1 l2 a1 a2
  · by_cases hii : i = id
    · rw [hii]; exact hn
    · rw [hpi i hii] at hi; exact r.dom _ _ hi
  · show hP.get q = none
    have hq' : X.h.nx ≤ q := by rw [← g2]; exact hq
    rw [g1, if_neg (by omega)]
    exact r.fresh _ hq'
  · show hP.get q = none
    rw [g1, if_neg hq]; exact hn
  · rw [hput_get hid, if_neg]
    · exact hj
    · intro hh; subst hh
      rcases hnone with hg | ⟨b0, hg, hl⟩
      · rw [hg] at hj; cases hj
      · rw [hg] at hj; cases hj
        cases bb with
        | dead => cases hlk
        | _ => exact absurd trivial hl
  · show hP.get q = _
    rw [g1, if_neg (by intro hh; subst hh; rw [g0] at hq; cases hq)]; exact hq
end
end Go.Proofs.YtopoaknleakdcaaGreat.Sv
