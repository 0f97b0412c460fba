/- A part of the evaluator of the model's code and of its soundness, for any program. No condition. -/
import GoSem.Step
namespace Go.Proofs.YtfecnejgdafbcaaGreatDoor.Pi
/-! Plain values: what a run computes with, memory that does not turn any more being data. -/
inductive PV where
  | bool (b : Bool)
  | int (k : IntKind) (n : Int)
  | str (l : List UInt8)
  | nilp | nils | nilm | nilf | nili
  | agg (cs : List PV)
  | tup (vs : List PV)
  | lst (full : Bool) (es : List PV)
  | own (id off len : Nat)
  | ptr (id off : Nat)
  | ept (id i off : Nat)
  | view (cs : List PV)
  | fn (f : Fn) (first captured : List PV)
  | yl (id : Nat)
  | ifc (t : TypeId) (v : PV)
  | mp (id : Nat)
  | gk (n : Nat)
  | adr (b off : Nat)

/-- functions that are answered as a whole: errors.Is, errors.As, strings.Compare (targets' types and what they point to), over dynamic types without methods of their own for these -/
inductive Pr where
  | is (same : List TypeId)
  | as (tt : List (TypeId × TypeId)) (plain : List TypeId)
  | cmp
/-- what package-level variables hold, and the functions that are answered as a whole -/
class Gl where
  g : Nat → Option (List PV)
  pr : FuncId → Option Pr
set_option linter.all false
variable [Gl]

structure PE where
  v : PV
  recovered : Bool
inductive UM where
  | ret
  | pan (ch : List PE)
inductive DF where
  | call (f : PV) (args : List PV)
  | bi (b : Builtin) (ats : Array TypeId) (ty : TypeId) (args : List PV)
  | col (id : Nat)
inductive Ex where
  | normal
  | exit (id : Nat)
  | goto (l : Nat)
  | ret
  | panic (v : PV)

/-- a tree of slots -/
inductive T (α : Type) where
  | lf
  | nd (l : T α) (v : Option α) (r : T α)
def T.get {α : Type} : T α → Nat → Option α
  | .lf, _ => none
  | .nd l v r, k => bif Nat.beq k 0 then v else bif Nat.beq (k % 2) 1 then l.get (k / 2) else r.get (k / 2 - 1)
def T.put {α : Type} : Nat → T α → Nat → α → T α
  | 0, t, _, _ => t
  | n + 1, .lf, k, x => bif Nat.beq k 0 then .nd .lf (some x) .lf else bif Nat.beq (k % 2) 1 then .nd (T.put n .lf (k / 2) x) none .lf else .nd .lf none (T.put n .lf (k / 2 - 1) x)
  | n + 1, .nd l v r, k, x => bif Nat.beq k 0 then .nd l (some x) r else bif Nat.beq (k % 2) 1 then .nd (T.put n l (k / 2) x) v r else .nd l v (T.put n r (k / 2 - 1) x)

inductive Blk where
  | box (cs : List PV) (fz : Bool)
  | row (es : List PV) (exact fz : Bool)
  | mp (es : List (PV × PV))
  | lp (st : Nat) (pend : Option Code) (nt : Nat) (t : T PV) (ps : List Nat) (asg body : Code) (d : Nat)
  | df (ds : Option (List DF))
  | dead

structure Hp where
  m : T Blk
  nx : Nat
def Hp.get (h : Hp) (id : Nat) : Option Blk := h.m.get id
def Hp.set (h : Hp) (id : Nat) (b : Blk) : Option Hp := bif Nat.blt id (id + 1) then some { h with m := T.put (id + 1) h.m id b } else none
structure Fr where
  t : T PV
  nt : Nat
  ds : List DF
  up : Option UM
  ro : Option Nat

/-- a new block -/
def Hp.new (h : Hp) (id : Nat) (b : Blk) : Option Hp := match h.m.get id with
  | none => h.set id b
  | some _ => none

def lget {α : Type} : List α → Nat → Option α
  | [], _ => none
  | a :: l, k => bif Nat.beq k 0 then some a else lget l (k - 1)
def lset {α : Type} : List α → Nat → α → List α
  | [], _, _ => []
  | a :: l, k, x => bif Nat.beq k 0 then x :: l else a :: lset l (k - 1) x
/-- cells x written over cs from off on -/
def lput (cs : List PV) (off : Nat) (x : List PV) : List PV := cs.take off ++ (x ++ cs.drop (off + x.length))

def PV.cells : PV → List PV
  | .agg cs => cs
  | .tup _ => []
  | v => [v]
def mkEl (isAgg : Bool) (cs : List PV) : Option PV :=
  bif isAgg then some (.agg cs) else match cs with
    | [c] => some c
    | _ => none

def cellOf : Value → Option PV
  | .bool b => some (.bool b)
  | .int k n => some (.int k n)
  | .string s => some (.str s.data.toList)
  | .pointer none => some .nilp
  | .slice none 0 0 => some .nils
  | .map none => some .nilm
  | .nilFunc => some .nilf
  | .nilIface => some .nili
  | .func (.func f) first cap => if first.isEmpty && cap.isEmpty then some (.fn (.func f) [] []) else none
  | _ => none
def cellsOf : List Value → Option (List PV)
  | [] => some []
  | v :: l => match cellOf v, cellsOf l with
    | some p, some ps => some (p :: ps)
    | _, _ => none
def ofVal : Value → Option PV
  | .agg cs => (cellsOf cs.toList).map .agg
  | .tuple vs => bif vs.isEmpty then some (.tup []) else none
  | .iface t v => match cellOf v with
    | some p => some (.ifc t p)
    | none => none
  | v => cellOf v

section
variable (P : Program)
def tinfo (t : TypeId) : Option TypeInfo := P.info? t
def tsize (t : TypeId) : Option Nat := (P.info? t).map (·.size)
def tagg (t : TypeId) : Option Bool := match P.underlying t with
  | some (.struct _) | some (.array _ _) => some true
  | some _ => some false
  | none => none
def zeroCells (t : TypeId) : Option (List PV) := match P.info? t with
  | some i => match i.zero with
    | some z => cellsOf z.cells.toList
    | none => none
  | none => none
/-- the value of type t in the first cells -/
def part (t : TypeId) (cs : List PV) : Option PV := match tagg P t, tsize P t with
  | some true, some n => bif Nat.ble n cs.length then some (.agg (cs.take n)) else none
  | some false, some _ => match cs with
    | c :: _ => some c
    | [] => none
  | _, _ => none
end

def evs (t : T PV) : Operand → Option PV
  | .tmp k => some ((t.get k).getD (.tup []))
  | .const v => ofVal v
  | .func f => some (.fn (.func f) [] [])
  | .global g => (Gl.g g).map .view
def evl (t : T PV) : List Operand → Option (List PV)
  | [] => some []
  | o :: l => match evs t o, evl t l with
    | some p, some ps => some (p :: ps)
    | _, _ => none

def pint (op : BinOp) (k : IntKind) (a b : Int) : Option PV := match op with
  | .add => some (.int k (k.wrap (a + b)))
  | .sub => some (.int k (k.wrap (a - b)))
  | .mul => some (.int k (k.wrap (a * b)))
  | .quo => bif b == 0 then none else some (.int k (k.wrap (a.tdiv b)))
  | .rem => bif b == 0 then none else some (.int k (a.tmod b))
  | .eql => some (.bool (a == b))
  | .neq => some (.bool (a != b))
  | .lss => some (.bool (decide (a < b)))
  | .leq => some (.bool (decide (a ≤ b)))
  | .gtr => some (.bool (decide (a > b)))
  | .geq => some (.bool (decide (a ≥ b)))
  | .and => some (.int k (k.wrap (BitVec.ofInt k.bits a &&& BitVec.ofInt k.bits b).toNat))
  | .or => some (.int k (k.wrap (BitVec.ofInt k.bits a ||| BitVec.ofInt k.bits b).toNat))
  | .xor => some (.int k (k.wrap (BitVec.ofInt k.bits a ^^^ BitVec.ofInt k.bits b).toNat))
  | _ => none
def pshift (op : BinOp) (k : IntKind) (a b : Int) : Option PV := bif decide (b < 0) then none else match op with
  | .shl => some (.int k (k.wrap (a * 2 ^ (min b.toNat k.bits))))
  | .shr => some (.int k (a.fdiv (2 ^ (min b.toNat k.bits))))
  | _ => none
def pstr (op : BinOp) (a b : List UInt8) : Option PV := match op with
  | .add => bif Nat.ble (a.length + b.length) 1000000000 then some (.str (a ++ b)) else none
  | .eql => some (.bool (a == b))
  | .neq => some (.bool (!(a == b)))
  | .lss => some (.bool (Op.bytesLess a b))
  | .leq => some (.bool (Op.bytesLess a b || a == b))
  | .gtr => some (.bool (!(Op.bytesLess a b || a == b)))
  | .geq => some (.bool (!Op.bytesLess a b))
  | _ => none
/-- '==' on cells that hold a number, a bool, a string. -/
def ceq : PV → PV → Option Bool
  | .bool a, .bool b => some (a == b)
  | .int k a, .int k' b => bif k == k' then some (a == b) else none
  | .str a, .str b => some (a == b)
  | _, _ => none
mutual
/-- '==' at a type, on values whose parts are numbers, bools, strings (nil and values in interfaces too). -/
def peq (P : Program) : Nat → TypeId → PV → PV → Option Bool
  | 0, _, _, _ => none
  | d + 1, t, x, y => match P.underlying t with
    | some .bool => match x, y with
      | .bool a, .bool b => some (a == b)
      | _, _ => none
    | some (.int _) => match x, y with
      | .int k a, .int k' b => bif k == k' then some (a == b) else none
      | _, _ => none
    | some .string => match x, y with
      | .str a, .str b => some (a == b)
      | _, _ => none
    | some (.pointer el) => match x, y with
      | .nilp, .nilp => some true
      | .nilp, .ptr _ _ | .nilp, .view _ | .nilp, .ept _ _ _ | .ptr _ _, .nilp | .view _, .nilp | .ept _ _ _, .nilp => some false
      | .gk a, .gk b => bif Nat.beq a b && (tsize P el).isSome then some true else none
      | .ptr a i, .ptr b j => bif (Nat.beq a b && Nat.beq i j) && (tsize P el).isSome then some true else none
      | _, _ => none
    | some (.slice _) => match x, y with
      | .nils, .nils => some true
      | .nils, .lst _ _ | .lst _ _, .nils | .nils, .own _ _ _ | .own _ _ _, .nils => some false
      | _, _ => none
    | some (.func _ _ _) => match x, y with
      | .nilf, .nilf => some true
      | .nilf, .fn _ _ _ | .fn _ _ _, .nilf => some false
      | _, _ => none
    | some (.interface _) => match x, y with
      | .nili, .nili => some true
      | .nili, .ifc _ _ | .ifc _ _, .nili => some false
      | .ifc t a, .ifc t' b => bif Nat.beq t t' then (match P.info? t with
          | some i => bif i.comparable then peq P d t a b else none
          | none => none) else some false
      | _, _ => none
    | some (.struct fs) => match x, y with
      | .agg a, .agg b => bif P.stoodInHeld t then none else peqs P d fs.toList a b
      | _, _ => none
    | some (.array n e) => match x, y with
      | .agg a, .agg b => bif (tsize P e).isSome then peqa P d n e a b else none
      | _, _ => none
    | _ => none
def peqs (P : Program) : Nat → List Field → List PV → List PV → Option Bool
  | 0, _, _, _ => none
  | _ + 1, [], _, _ => some true
  | d + 1, f :: fs, a, b => bif f.name == "_" then peqs P d fs a b else match part P f.type (a.drop f.offset), part P f.type (b.drop f.offset) with
    | some x, some y => (match peq P d f.type x y with
      | some true => peqs P d fs a b
      | r => r)
    | _, _ => none
def peqa (P : Program) : Nat → Nat → TypeId → List PV → List PV → Option Bool
  | 0, _, _, _, _ => none
  | _ + 1, 0, _, _, _ => some true
  | d + 1, n + 1, e, a, b => match tsize P e, part P e a, part P e b with
    | some s, some x, some y => (match peq P d e x y with
      | some true => peqa P d n e (a.drop s) (b.drop s)
      | r => r)
    | _, _, _ => none
end
def eqDepth : Nat := 64
def pbin (P : Program) (op : BinOp) (ty : TypeId) (x y : PV) : Option PV := match x, y with
  | .int k a, .int k' b => match op with
    | .shl | .shr => pshift op k a b
    | _ => bif k == k' then pint op k a b else none
  | .str a, .str b => pstr op a b
  | x, y => match op with
    | .eql => (peq P eqDepth ty x y).map .bool
    | .neq => (peq P eqDepth ty x y).map fun r => .bool (!r)
    | _ => none
def pun (op : UnOp) : PV → Option PV
  | .bool b => match op with
    | .not => some (.bool (!b))
    | _ => none
  | .int k n => match op with
    | .neg => some (.int k (k.wrap (0 - n)))
    | _ => none
  | _ => none

def mapPur (f : PV → Option (PV × List Nat)) : List PV → Option (List PV × List Nat)
  | [] => some ([], [])
  | p :: ps => match f p, mapPur f ps with
    | some (q, a), some (qs, b) => some (q :: qs, a ++ b)
    | _, _ => none
/-- frozen data out of a value: (value, the blocks that were met) -/
def pur (h : Hp) : Nat → PV → Option (PV × List Nat)
  | 0, _ => none
  | n + 1, v => match v with
    | .agg cs => (mapPur (pur h n) cs).map fun (x, l) => (.agg x, l)
    | .tup cs => (mapPur (pur h n) cs).map fun (x, l) => (.tup x, l)
    | .ifc t x => (pur h n x).map fun (x, l) => (.ifc t x, l)
    | .fn f a b => match mapPur (pur h n) a, mapPur (pur h n) b with
      | some (a, l), some (b, m) => some (.fn f a b, l ++ m)
      | _, _ => none
    | .own id off len => match h.get id with
      | some (.row es _ _) => bif Nat.ble (off + len) es.length then (mapPur (pur h n) ((es.drop off).take len)).map fun (x, l) => (.lst false x, id :: l) else none
      | _ => none
    | .ptr id off => match h.get id with
      | some (.box cs _) => bif Nat.blt off cs.length then (mapPur (pur h n) (cs.drop off)).map fun (x, l) => (.view x, id :: l) else none
      | _ => none
    | .ept id i off => match h.get id with
      | some (.row es _ _) => match lget es i with
        | some e => bif Nat.blt off e.cells.length then (mapPur (pur h n) (e.cells.drop off)).map fun (x, l) => (.view x, id :: l) else none
        | none => none
      | _ => none
    | .yl _ | .mp _ => none
    | v => some (v, [])
def purDepth : Nat := 12
def purl (h : Hp) : List PV → Option (List PV × List Nat)
  | [] => some ([], [])
  | p :: ps => match pur h purDepth p, purl h ps with
    | some (q, a), some (qs, b) => some (q :: qs, a ++ b)
    | _, _ => none
def freeze (h : Hp) : List Nat → Option Hp
  | [] => some h
  | id :: l => match h.get id with
    | some (.box cs _) => match h.set id (.box cs true) with
      | some h => freeze h l
      | none => none
    | some (.row es ex _) => match h.set id (.row es ex true) with
      | some h => freeze h l
      | none => none
    | _ => none
mutual
def flat : PV → Bool
  | .agg cs => flatl cs
  | .tup cs => flatl cs
  | .ifc _ v => flat v
  | .lst _ es => es.isEmpty
  | .view _ | .fn _ _ _ | .own _ _ _ | .ptr _ _ | .ept _ _ _ | .yl _ | .mp _ | .gk _ => false
  | _ => true
def flatl : List PV → Bool
  | [] => true
  | p :: ps => flat p && flatl ps
end

/-- what an operation comes to -/
inductive R where
  | val (v : PV) (h : Hp)
  | skip (h : Hp)
  | call (f : FuncId) (args : List PV)
  | yield (id : Nat) (args : List PV)
  | pan (v : PV)
  | rcv
  | dfr (d : DF)

def fillP (cs : List PV) : List (Nat × Nat × List PV) → Option (List PV)
  | [] => some cs
  | (off, n, x) :: r => bif Nat.beq x.length n && Nat.ble (off + n) cs.length then fillP (lput cs off x) r else none
def fillE (size : Nat) (es : List PV) : List (Nat × PV) → Option (List PV)
  | [] => some es
  | (i, v) :: r => bif Nat.beq v.cells.length size && Nat.blt i es.length then fillE size (lset es i v) r else none
def partsOf (t : T PV) : List (Nat × Operand) → Option (List (Nat × PV))
  | [] => some []
  | (i, o) :: l => match evs t o, partsOf t l with
    | some p, some ps => some ((i, p) :: ps)
    | _, _ => none
def placesOf (P : Program) (fs : Array Field) : List (Nat × PV) → Option (List (Nat × Nat × List PV))
  | [] => some []
  | (i, p) :: l => match fs[i]?, placesOf P fs l with
    | some f, some r => (match tsize P f.type with
      | some n => bif Nat.blt 0 n then some ((f.offset, n, p.cells) :: r) else none
      | none => none)
    | _, _ => none
def placesArr (size : Nat) : List (Nat × PV) → List (Nat × Nat × List PV)
  | [] => []
  | (i, p) :: l => (i * size, size, p.cells) :: placesArr size l

def asNat : PV → Option Nat
  | .int _ n => bif decide (0 ≤ n) then some n.toNat else none
  | _ => none
def asInt64 : PV → Option Nat
  | .int .i64 n => bif decide (0 ≤ n) then some n.toNat else none
  | _ => none
/-- the elements that a slice or string holds, as data (own memory is read) -/
def elemsOf (h : Hp) : PV → Option (List PV)
  | .nils => some []
  | .lst _ es => some es
  | .own id off len => match h.get id with
    | some (.row es _ _) => bif Nat.ble (off + len) es.length then some ((es.drop off).take len) else none
    | _ => none
  | _ => none
def slenUnused : PV → Option Nat
  | .nils => some 0
  | .lst _ es => some es.length
  | .own _ _ len => some len
  | .str l => some l.length
  | _ => none
/-- '==' of keys at a type -/
def kceq : TypeDesc → PV → PV → Option Bool
  | .bool, .bool a, .bool b => some (a == b)
  | .int _, .int k a, .int k' b => bif k == k' then some (a == b) else none
  | .string, .str a, .str b => some (a == b)
  | _, _, _ => none
def mfind (d : TypeDesc) : List (PV × PV) → PV → Option (Option PV)
  | [], _ => some none
  | (k, v) :: l, x => match kceq d x k with
    | some true => some (some v)
    | some false => mfind d l x
    | none => none
def mput (d : TypeDesc) : List (PV × PV) → PV → PV → Option (List (PV × PV))
  | [], x, y => some [(x, y)]
  | (k, v) :: l, x, y => match kceq d x k with
    | some true => some ((x, y) :: l)
    | some false => match mput d l x y with
      | some l => some ((k, v) :: l)
      | none => none
    | none => none
def mdel (d : TypeDesc) : List (PV × PV) → PV → Option (List (PV × PV))
  | [], _ => some []
  | (k, v) :: l, x => match kceq d x k with
    | some true => some l
    | some false => match mdel d l x with
      | some l => some ((k, v) :: l)
      | none => none
    | none => none
def keyDesc : TypeDesc → Bool
  | .int _ | .string | .bool => true
  | _ => false

def vl (o : Option PV) (h : Hp) : Option R := o.map (R.val · h)
def smallN : Nat := 1048576

def elOk (n : Nat) : List PV → Bool
  | [] => true
  | e :: _ => Nat.beq e.cells.length n
def papp (P : Program) (h : Hp) (id : Nat) (st : TypeId) (s x : PV) : Option R :=
  match P.underlying st with
  | some (.slice e) => match tsize P e, P.info? e, elemsOf h x, zeroCells P e with
    | some sz, some ti, some new, some z =>
      bif !(new.all fun v => Nat.beq v.cells.length sz) || !Nat.ble ti.bytes smallN || !Nat.beq z.length sz || !Nat.blt 0 sz then none else
      match s with
      | .nils => bif new.isEmpty then some (.val .nils h) else bif Nat.ble new.length smallN then (h.new id (.row new false false)).map fun h => .val (.own id 0 new.length) h else none
      | .lst true es => bif new.isEmpty then some (.val (.lst true es) h) else bif Nat.ble (es.length + new.length) smallN && elOk sz es then (h.new id (.row (es ++ new) false false)).map fun h => .val (.own id 0 (es.length + new.length)) h else none
      | .own j off len => match h.get j with
        | some (.row es ex fz) =>
          bif !Nat.ble (len + new.length) smallN || !Nat.ble (off + len) es.length || !elOk sz es then none else
          bif ex then
            bif new.isEmpty then some (.val (.own j off len) h) else bif Nat.ble (off + len + new.length) es.length then
              (bif fz then none else (h.set j (.row (lput es (off + len) new) true false)).map fun h => .val (.own j off (len + new.length)) h)
            else (h.new id (.row ((es.drop off).take len ++ new) false false)).map fun h => .val (.own id 0 (len + new.length)) h
          else bif Nat.beq len es.length && Nat.beq off 0 && Nat.blt 0 len then
            match h.set j .dead with
            | some h => (h.new id (.row (es ++ new) false fz)).map fun h => .val (.own id 0 (len + new.length)) h
            | none => none
          else none
        | _ => none
      | _ => none
    | _, _, _, _ => none
  | _ => none

def foldInt (f : Int → Int → Int) : Int → List PV → IntKind → Option Int
  | m, [], _ => some m
  | m, .int k y :: l, k' => bif k == k' then foldInt f (f m y) l k' else none
  | _, _, _ => none
def pbuiltin (P : Program) (h : Hp) (id : Nat) (b : Builtin) (ats : Array TypeId) (args : List PV) : Option R :=
  match b with
  | .len => match args, ats[0]? with
    | [x], some t => match P.underlying t, x with
      | some (.map _ _), .mp j => (match h.get j with
        | some (.mp es) => some (.val (.int .i64 es.length) h)
        | _ => none)
      | some (.map _ _), .nilm => some (.val (.int .i64 0) h)
      | some (.array n _), _ => some (.val (.int .i64 n) h)
      | some (.slice _), .nils => some (.val (.int .i64 0) h)
      | some (.slice _), .lst _ es => some (.val (.int .i64 es.length) h)
      | some (.slice _), .own _ _ len => some (.val (.int .i64 len) h)
      | some .string, .str l => some (.val (.int .i64 l.length) h)
      | _, _ => none
    | _, _ => none
  | .cap => match args, ats[0]? with
    | [x], some t => match P.underlying t, x with
      | some (.slice _), .own j off _ => (match h.get j with
        | some (.row es true _) => some (.val (.int .i64 (es.length - off : Nat)) h)
        | _ => none)
      | some (.slice _), .nils => some (.val (.int .i64 0) h)
      | _, _ => none
    | _, _ => none
  | .append => match args, ats.toList with
    | [s, x], [t, t'] => bif Nat.beq t t' then papp P h id t s x else none
    | _, _ => none
  | .copy => match args, ats[0]? with
    | [.own j off len, x], some t => match P.underlying t, h.get j, elemsOf h x with
      | some (.slice e), some (.row es ex false), some new => match tsize P e with
        | some sz => bif !(new.all fun v => Nat.beq v.cells.length sz) || !Nat.ble (off + len) es.length || !Nat.blt 0 sz || !elOk sz es then none else
          (h.set j (.row (lput es off (new.take len)) ex false)).map fun h => .val (.int .i64 (Nat.min new.length len : Nat)) h
        | none => none
      | _, _, _ => none
    | _, _ => none
  | .clear => match args, ats[0]? with
    | [.mp j], some t => match P.underlying t, h.get j with
      | some (.map _ _), some (.mp _) => (h.set j (.mp [])).map fun h => .val (.tup []) h
      | _, _ => none
    | _, _ => none
  | .delete => match args, ats[0]? with
    | [.mp j, k], some t => match P.underlying t, h.get j with
      | some (.map kt _), some (.mp es) => match P.underlying kt with
        | some d => bif !keyDesc d then none else match mdel d es k with
          | some es => (h.set j (.mp es)).map fun h => .val (.tup []) h
          | none => none
        | none => none
      | _, _ => none
    | _, _ => none
  | .max => match args with
    | .int k a :: r => (foldInt (fun m y => if y > m then y else m) a r k).map fun m => .val (.int k m) h
    | [.str a, .str b] => some (.val (.str (bif !Op.bytesLess a b then a else b)) h)
    | _ => none
  | .min => match args with
    | .int k a :: r => (foldInt (fun m y => if y < m then y else m) a r k).map fun m => .val (.int k m) h
    | [.str a, .str b] => some (.val (.str (bif Op.bytesLess a b || a == b then a else b)) h)
    | _ => none
  | .panic => match args with
    | [.ifc t v] => some (.pan (.ifc t v))
    | _ => none
  | .recover => some .rcv
  | _ => none

def pinvoke (P : Program) (f : Fn) (first cap args : List PV) : Option R := match f with
  | .func g => match P.funcs[g]? with
    | some fn => bif fn.body.isSome && !(fn.name == "runtime.NumGoroutine") then some (.call g (first ++ args ++ cap)) else none
    | none => none
  | .method name => match first ++ args with
    | .ifc t v :: rest => match P.info? t with
      | some i => match i.methods.find? (·.name == name) with
        | some m => match m.path.isEmpty, m.func, P.underlying t with
          | true, some (g, true), some (.pointer _) => bif (match P.funcs[g]? with | some fn => fn.body.isSome && !(fn.name == "runtime.NumGoroutine") | none => false) then some (.call g (v :: rest)) else none
          | true, some (_, false), some (.pointer _) => none
          | true, some (g, false), some _ => bif (match P.funcs[g]? with | some fn => fn.body.isSome && !(fn.name == "runtime.NumGoroutine") | none => false) then some (.call g (v :: rest)) else none
          | _, _, _ => none
        | none => none
      | none => none
    | _ => none
  | _ => none

def evo (t : T PV) : Option Operand → Option (Option PV)
  | none => some none
  | some o => (evs t o).map some
def natOr (d : Nat) : Option PV → Option Nat
  | none => some d
  | some p => asNat p

def evPick (h : Hp) (c a b : PV) : Option R := match c with
  | .bool true => some (.val a h)
  | .bool false => some (.val b h)
  | _ => none
def evAlloc (P : Program) (h : Hp) (id : Nat) (e : TypeId) : Option R := match zeroCells P e with
  | some cs => (h.new id (.box cs false)).map fun h => .val (.ptr id 0) h
  | none => none
def evBox (h : Hp) (id : Nat) (v : PV) : Option R := match v with
  | .tup _ => none
  | v => (h.new id (.box v.cells false)).map fun h => .val (.ptr id 0) h
def evBuild (P : Program) (h : Hp) (ty : TypeId) (ps : List (Nat × PV)) : Option R :=
  match zeroCells P ty, P.underlying ty with
  | some z, some (.struct fs) => bif fs.toList.all fun f => (tsize P f.type).isSome then
      (match placesOf P fs ps with
      | some pl => (fillP z pl).map fun cs => .val (.agg cs) h
      | none => none) else none
  | some z, some (.array _ e) => match tsize P e with
    | some n => bif Nat.blt 0 n then (fillP z (placesArr n ps)).map fun cs => .val (.agg cs) h else none
    | none => none
  | _, _ => none
def evBuildSlice (P : Program) (h : Hp) (ty : TypeId) (len : Nat) (ps : List (Nat × PV)) : Option R :=
  match P.underlying ty with
  | some (.slice e) => match tsize P e, tagg P e, zeroCells P e with
    | some n, some ag, some z => match mkEl ag z with
      | some z1 => bif !Nat.blt 0 n || !Nat.ble (len * n) 16777216 || !Nat.beq z.length n then none else
        (match fillE n (List.replicate len z1) ps with
        | some es => match purl h es with
          | some (es, l) => (freeze h l).map fun h => .val (.lst true es) h
          | none => none
        | none => none)
      | none => none
    | _, _, _ => none
  | _ => none
def evLoad (P : Program) (h : Hp) (ty : TypeId) (p : PV) : Option R := match p with
  | .ptr j off => match h.get j with
    | some (.box cs _) => vl (part P ty (cs.drop off)) h
    | _ => none
  | .view cs => vl (part P ty cs) h
  | .ept j i off => match h.get j with
    | some (.row es _ _) => match lget es i with
      | some e => vl (part P ty (e.cells.drop off)) h
      | none => none
    | _ => none
  | _ => none
def evStore (P : Program) (h : Hp) (ty : TypeId) (p v : PV) : Option R := match tsize P ty with
  | some n => bif !Nat.blt 0 n || !Nat.beq v.cells.length n then none else match p with
    | .ptr j off => match h.get j with
      | some (.box cs false) => bif Nat.ble (off + n) cs.length then (h.set j (.box (lput cs off v.cells) false)).map .skip else none
      | _ => none
    | .ept j i off => match h.get j with
      | some (.row es ex false) => match lget es i with
        | some e => bif Nat.ble (off + n) e.cells.length then
            (match e with
            | .agg cs => (h.set j (.row (lset es i (.agg (lput cs off v.cells))) ex false)).map .skip
            | _ => (match v.cells with
              | [c] => bif Nat.beq off 0 && Nat.beq e.cells.length 1 then (match c with
                | .agg _ => none
                | .tup _ => none
                | c => (h.set j (.row (lset es i c) ex false)).map .skip) else none
              | _ => none)) else none
        | none => none
      | _ => none
    | _ => none
  | none => none
def evNil (h : Hp) (p : PV) : Option R := match p with
  | .ptr a b => some (.val (.ptr a b) h)
  | .ept a b c => some (.val (.ept a b c) h)
  | .view cs => some (.val (.view cs) h)
  | .ifc ty v => some (.val (.ifc ty v) h)
  | .yl i => some (.val (.yl i) h)
  | .fn (.func f) a b => some (.val (.fn (.func f) a b) h)
  | _ => none
def isConstO : Operand → Bool
  | .const _ => true
  | _ => false
def evBin (P : Program) (h : Hp) (op : BinOp) (ty : TypeId) (x y : Operand) (a b : PV) : Option R := match a, b with
  | .nili, .nili => bif isConstO x || isConstO y then vl (pbin P op ty .nili .nili) h else none
  | .agg cs, .agg ds => bif P.eqGuardType P.depth ty then none else vl (pbin P op ty (.agg cs) (.agg ds)) h
  | a, b => vl (pbin P op ty a b) h
def u8s : List PV → Option (List UInt8)
  | [] => some []
  | .int .u8 n :: l => (u8s l).map (UInt8.ofNat n.toNat :: ·)
  | _ => none
def evConvert (P : Program) (h : Hp) (src dst : TypeId) (x : PV) : Option R := match x, P.underlying src, P.underlying dst with
  | .int _ n, some _, some (.int k) => some (.val (.int k (k.wrap n)) h)
  | .str l, some .string, some .string => some (.val (.str l) h)
  | .lst _ es, some (.slice e), some .string => match P.underlying e, u8s es with
    | some (.int .u8), some bs => some (.val (.str bs) h)
    | _, _ => none
  | _, _, _ => none
def evIfc (P : Program) (h : Hp) (ty : TypeId) (v : PV) : Option R := match P.underlying ty with
  | some (.interface _) => none
  | some _ => some (.val (.ifc ty v) h)
  | none => none
def evMake (P : Program) (h : Hp) (id : Nat) (ty : TypeId) (l c : PV) : Option R := match P.underlying ty, asInt64 l, asInt64 c with
  | some (.slice e), some l, some c => match tsize P e, tagg P e, zeroCells P e, P.info? e with
    | some n, some ag, some z, some ti => match mkEl ag z with
      | some z1 => bif Nat.ble l c && Nat.ble c smallN && Nat.ble ti.bytes smallN && Nat.blt 0 n && Nat.beq z.length n then
          (h.new id (.row (List.replicate c z1) true false)).map fun h => .val (.own id 0 l) h else none
      | none => none
    | _, _, _, _ => none
  | _, _, _ => none
def cutData (h : Hp) (j off len : Nat) : Option R := match pur h purDepth (.own j off len) with
  | some (.lst _ xs, ids) => (freeze h ids).map fun h => .val (.lst true xs) h
  | _ => none
def evSlice (P : Program) (h : Hp) (ty : TypeId) (x : PV) (lo hi mx : Option PV) : Option R := match P.underlying ty, x with
  | some .string, .str s => match mx, natOr s.length hi, natOr 0 lo with
    | none, some hh, some l => bif Nat.ble hh s.length && Nat.ble l hh then some (.val (.str ((s.drop l).take (hh - l))) h) else none
    | _, _, _ => none
  | some (.slice e), x => match tsize P e with
    | none => none
    | some n => match x with
      | .nils => match natOr 0 lo, natOr 0 hi, natOr 0 mx with
        | some 0, some 0, some 0 => bif mx.isSome && !hi.isSome then none else some (.val .nils h)
        | _, _, _ => none
      | .lst full es => bif !elOk n es then none else match natOr 0 lo, natOr es.length hi with
        | some l, some hh => (match mx with
          | none => bif Nat.ble hh es.length && Nat.ble l hh then some (.val (.lst (full && Nat.beq hh es.length) ((es.drop l).take (hh - l))) h) else none
          | some m => match asNat m with
            | some m => bif Nat.ble m es.length && Nat.ble hh m && Nat.ble l hh && hi.isSome then some (.val (.lst (Nat.beq hh m) ((es.drop l).take (hh - l))) h) else none
            | none => none)
        | _, _ => none
      | .own j off len => match h.get j with
        | some (.row es ex _) => bif !elOk n es then none else match natOr 0 lo, natOr len hi with
          | some l, some hh => bif !Nat.ble l hh || !Nat.ble (off + hh) es.length then none else
            (match mx with
            | none => bif Nat.blt (off + l) es.length then some (.val (.own j (off + l) (hh - l)) h) else some (.val (.lst false []) h)
            | some m => match asNat m with
              | some m => bif hi.isSome && Nat.ble hh m && ex && Nat.beq (off + m) es.length then
                  (bif Nat.blt (off + l) es.length then some (.val (.own j (off + l) (hh - l)) h) else some (.val (.lst true []) h))
                else bif hi.isSome && Nat.beq m hh then cutData h j (off + l) (hh - l) else none
              | none => none)
          | _, _ => none
        | _ => none
      | _ => none
  | _, _ => none
def evFieldAddr (P : Program) (h : Hp) (sty : TypeId) (x : PV) (f : Nat) : Option R := match P.underlying sty with
  | some (.struct fs) => match fs[f]? with
    | some fd => match tsize P fd.type with
      | some n => bif Nat.beq n 0 then none else (match x with
        | .ptr j off => some (.val (.ptr j (off + fd.offset)) h)
        | .ept j i off => some (.val (.ept j i (off + fd.offset)) h)
        | .view cs => some (.val (.view (cs.drop fd.offset)) h)
        | _ => none)
      | none => none
    | none => none
  | _ => none
def evField (P : Program) (h : Hp) (ty : TypeId) (x : PV) (f : Nat) : Option R := match P.underlying ty, x with
  | some (.struct fs), .agg cs => match fs[f]? with
    | some fd => vl (part P fd.type (cs.drop fd.offset)) h
    | none => none
  | _, _ => none
def evIndexAddr (P : Program) (h : Hp) (ty : TypeId) (x i : PV) : Option R := match P.underlying ty, asNat i with
  | some (.slice e), some k => match tsize P e with
    | some n => match x with
      | .lst _ es => (match lget es k with
        | some el => bif Nat.beq el.cells.length n then some (.val (.view el.cells) h) else none
        | none => none)
      | .own j off len => bif Nat.blt k len then (match h.get j with
        | some (.row es _ _) => (match lget es (off + k) with
          | some el => bif Nat.beq el.cells.length n then some (.val (.ept j (off + k) 0) h) else none
          | none => none)
        | _ => none) else none
      | _ => none
    | none => none
  | some (.array len e), some k => match tsize P e with
    | some n => bif Nat.blt k len then (match x with
      | .ptr j off => some (.val (.ptr j (off + k * n)) h)
      | .ept j i off => some (.val (.ept j i (off + k * n)) h)
      | .view cs => some (.val (.view (cs.drop (k * n))) h)
      | _ => none) else none
    | none => none
  | _, _ => none
def evIndex (P : Program) (h : Hp) (ty : TypeId) (x i : PV) : Option R := match P.underlying ty, x, asNat i with
  | some (.array len e), .agg cs, some k => bif Nat.blt k len then (match tsize P e with
    | some n => vl (part P e (cs.drop (k * n))) h
    | none => none) else none
  | some .string, .str l, some k => match lget l k with
    | some b => some (.val (.int .u8 b.toNat) h)
    | none => none
  | _, _, _ => none
def zeroEl (P : Program) (e : TypeId) : Option PV := match P.info? e with
  | some i => match i.zero with
    | some z => ofVal z
    | none => none
  | none => none
def mapOf (h : Hp) : PV → Option (List (PV × PV))
  | .nilm => some []
  | .mp j => match h.get j with
    | some (.mp es) => some es
    | _ => none
  | _ => none
def evLookup (P : Program) (h : Hp) (ty : TypeId) (m k : PV) (ok : Bool) : Option R := match P.underlying ty, mapOf h m with
  | some (.map kt e), some es => match P.underlying kt with
    | some d => bif !keyDesc d then none else match mfind d es k with
      | some r => match (match r with
          | some v => some v
          | none => zeroEl P e) with
        | some v => some (.val (bif ok then .tup [v, .bool r.isSome] else v) h)
        | none => none
      | none => none
    | none => none
  | _, _ => none
def evMapUpdate (P : Program) (h : Hp) (ty : TypeId) (m k v : PV) : Option R := match P.underlying ty, m with
  | some (.map kt _), .mp j => match P.underlying kt with
    | some d => bif !keyDesc d then none else match h.get j with
      | some (.mp es) => match mput d es k v with
        | some es => (h.set j (.mp es)).map .skip
        | none => none
      | _ => none
    | none => none
  | _, _ => none
def asserted (ok : Bool) (v : PV) : PV := bif ok then .tup [v, .bool true] else v
def evAssert (P : Program) (h : Hp) (ty : TypeId) (v : PV) (ok : Bool) : Option R := match P.underlying ty with
  | some (.interface want) => match v with
    | .ifc u a => match P.info? u with
      | some i => match Instr.missingMethod want i.methods with
        | none => some (.val (asserted ok (.ifc u a)) h)
        | some _ => bif ok then (match zeroEl P ty with
          | some z => some (.val (.tup [z, .bool false]) h)
          | none => none) else none
      | none => none
    | .nili => bif ok then (match zeroEl P ty with
      | some z => some (.val (.tup [z, .bool false]) h)
      | none => none) else none
    | _ => none
  | some _ => match v with
    | .ifc u a => bif Nat.beq u ty then some (.val (asserted ok a) h) else bif ok then (match zeroEl P ty with
      | some z => some (.val (.tup [z, .bool false]) h)
      | none => none) else none
    | .nili => bif ok then (match zeroEl P ty with
      | some z => some (.val (.tup [z, .bool false]) h)
      | none => none) else none
    | _ => none
  | none => none
def evExtract (h : Hp) (x : PV) (i : Nat) : Option R := match x with
  | .tup vs => vl (lget vs i) h
  | _ => none
def evPanic (x : PV) : Option R := match x with
  | .ifc ty v => some (.pan (.ifc ty v))
  | _ => none
def evCallV (P : Program) (f : PV) (args : List PV) : Option R := match f with
  | .fn f a b => pinvoke P f a b args
  | .yl l => some (.yield l args)
  | _ => none
def evMakeFunc (h : Hp) (f : Fn) (a b : List PV) : Option R := match f with
  | .yield _ => none
  | f => some (.val (.fn f a b) h)

def e1 (t : T PV) (x : Operand) (k : PV → Option R) : Option R := match evs t x with
  | some a => k a
  | none => none
def e2 (t : T PV) (x y : Operand) (k : PV → PV → Option R) : Option R := match evs t x, evs t y with
  | some a, some b => k a b
  | _, _ => none
def e3 (t : T PV) (x y z : Operand) (k : PV → PV → PV → Option R) : Option R := match evs t x, evs t y, evs t z with
  | some a, some b, some c => k a b c
  | _, _, _ => none

def evalOp (P : Program) (t : T PV) (h : Hp) (id : Nat) (o : Oper) : Option R :=
  match o.op with
  | .move x => vl (evs t x) h
  | .assign x => vl (evs t x) h
  | .pick c a b => e3 t c a b (evPick h)
  | .alloc e => evAlloc P h id e
  | .box _ x => e1 t x (evBox h id)
  | .build ty parts => match partsOf t parts.toList with
    | some ps => evBuild P h ty ps
    | none => none
  | .buildSlice ty len parts => match partsOf t parts.toList with
    | some ps => evBuildSlice P h ty len ps
    | none => none
  | .load ty a => e1 t a (evLoad P h ty)
  | .store ty a x => e2 t a x (evStore P h ty)
  | .nilCheck x => e1 t x (evNil h)
  | .binOp op ty x y _ => e2 t x y (evBin P h op ty x y)
  | .unOp op _ x => e1 t x fun a => vl (pun op a) h
  | .convert src dst x => e1 t x (evConvert P h src dst)
  | .makeInterface ty x => e1 t x (evIfc P h ty)
  | .makeFunc f first cap => match evl t first.toList, evl t cap.toList with
    | some a, some b => evMakeFunc h f a b
    | _, _ => none
  | .makeMap _ none => (h.new id (.mp [])).map fun h => .val (.mp id) h
  | .makeSlice ty l c => e2 t l c (evMake P h id ty)
  | .slice ty x lo hi mx => match evo t lo, evo t hi, evo t mx with
    | some lo, some hi, some mx => e1 t x fun x => evSlice P h ty x lo hi mx
    | _, _, _ => none
  | .fieldAddr s x f => e1 t x fun x => evFieldAddr P h s x f
  | .field ty x f => e1 t x fun x => evField P h ty x f
  | .indexAddr ty x i => e2 t x i (evIndexAddr P h ty)
  | .index ty x i => e2 t x i (evIndex P h ty)
  | .lookup ty x k ok => e2 t x k fun m k => evLookup P h ty m k ok
  | .mapUpdate ty x k v => e3 t x k v (evMapUpdate P h ty)
  | .insert ty x k v => e3 t x k v (evMapUpdate P h ty)
  | .typeAssert x _ ty ok => e1 t x fun v => evAssert P h ty v ok
  | .extract x i => e1 t x fun x => evExtract h x i
  | .panic x => e1 t x evPanic
  | .call c => match evl t c.args.toList with
    | some args => match c.callee with
      | .builtin b => pbuiltin P h id b c.argTypes args
      | .value f => e1 t f fun f => evCallV P f args
      | .invoke recv name => e1 t recv fun r => pinvoke P (.method name) [r] [] args
    | none => none
  | .defer c => match evl t c.args.toList with
    | some args => match c.callee with
      | .builtin b => some (.dfr (.bi b c.argTypes o.type args))
      | .value f => e1 t f fun f => match f with
        | .fn (.func g) a b => some (.dfr (.call (.fn (.func g) a b) args))
        | _ => none
      | .invoke _ _ => none
    | none => none
  | _ => none

inductive Out where
  | ret (v : PV)
  | pan (ch : List PE)
inductive Tg where
  | fn (f : FuncId)
  | yl (id : Nat)
def Fr.put (fr : Fr) (dst : Option Nat) (v : PV) : Option Fr := match dst with
  | none => some fr
  | some d => bif Nat.blt d fr.nt then some { fr with t := T.put 20 fr.t d v } else none

/-- the rest of the machine, as the code's evaluator calls it: a call, the caller's mode behind it, the heap behind it -/
abbrev Rec := Tg → Option UM → List PV → Hp → Option (Out × Option UM × Hp)

def wantedP (ops : List Oper) (t : T PV) : Option (Nat × Bool) → Bool
  | none => true
  | some (j, want) => match lget ops j with
    | some o => match o.dst with
      | some d => match t.get d with
        | some (.bool b) => b == want
        | _ => false
      | none => false
    | none => false

/-- what a pure call hands back: a fresh row that is its own, else data -/
def handBack (id : Nat) (l : List Nat) (h h' : Hp) (r : PV) : Option (PV × Hp) :=
  match (match r with
    | .own j 0 len => (match h'.get j with
      | some (.row es ex false) => (match purl h' es with
        | some (qs, l2) => bif l2.any (Nat.beq j) then none else some (len, qs, ex)
        | none => none)
      | _ => none)
    | _ => none) with
  | some (len, qs, ex) => match (bif flatl qs then some h else freeze h l) with
    | some h => (h.new id (.row qs ex false)).map fun h => (.own id 0 len, h)
    | none => none
  | none => match pur h' purDepth r with
    | some (q, _) => bif flat q then some (q, h) else (freeze h l).map fun h => (q, h)
    | none => none
def doCall (sh : FuncId → Bool) (rec : Rec) (id : Nat) (f : FuncId) (args : List PV) (h : Hp) : Option (Out × Hp) :=
  bif sh f then match rec (.fn f) none args h with
    | some (o, _, h) => some (o, h)
    | none => none
  else match purl h args with
    | some (as, l) => match rec (.fn f) none as { m := .lf, nx := 0 } with
      | some (.ret r, _, h') => (handBack id l h h' r).map fun (q, h) => (.ret q, h)
      | some (.pan [{ v := e, recovered := rc }], _, h') => match pur h' purDepth e with
        | some (e, _) => bif flat e then some (.pan [{ v := e, recovered := rc }], h) else none
        | none => none
      | _ => none
    | none => none

def runOps (P : Program) (sh : FuncId → Bool) (rec : Rec) (base : Nat) (ops : List Oper) : List (Nat × Oper) → Fr → Hp → Option (Ex × Fr × Hp)
  | [], fr, h => some (.normal, fr, h)
  | (i, o) :: r, fr, h =>
    bif wantedP ops fr.t o.guard then
      match evalOp P fr.t h (base + i) o with
      | some (.val v h) => match fr.put o.dst v with
        | some fr => runOps P sh rec base ops r fr h
        | none => none
      | some (.skip h) => match fr.put o.dst (.tup []) with
        | some fr => runOps P sh rec base ops r fr h
        | none => none
      | some (.dfr d) => match fr.ro with
        | none => (match ({ fr with ds := d :: fr.ds } : Fr).put o.dst (.tup []) with
          | some fr => runOps P sh rec base ops r fr h
          | none => none)
        | some _ => none
      | some (.call f args) => match doCall sh rec (base + i) f args h with
        | some (.ret v, h) => (match fr.put o.dst v with
          | some fr => runOps P sh rec base ops r fr h
          | none => none)
        | some (.pan [{ v := e, recovered := false }], h) => some (.panic e, fr, h)
        | _ => none
      | some (.yield l args) => match rec (.yl l) none args h with
        | some (.ret v, _, h) => (match fr.put o.dst v with
          | some fr => runOps P sh rec base ops r fr h
          | none => none)
        | _ => none
      | some (.pan v) => some (.panic v, fr, h)
      | some .rcv => match fr.ro with
        | some _ => none
        | none => match fr.up with
          | some (.pan ({ v, recovered := false } :: older)) => (match ({ fr with up := some (.pan ({ v, recovered := true } :: older)) } : Fr).put o.dst v with
            | some fr => runOps P sh rec base ops r fr h
            | none => none)
          | _ => (match fr.put o.dst .nili with
            | some fr => runOps P sh rec base ops r fr h
            | none => none)
      | none => none
    else match fr.put o.dst (.tup []) with
      | some fr => runOps P sh rec base ops r fr h
      | none => none
def idx {α : Type} : Nat → List α → List (Nat × α)
  | _, [] => []
  | n, a :: l => (n, a) :: idx (n + 1) l

/-! Regions whose order is drawn: the operations in the order of the text, each on no more of the heap than it names; whatever interferes must be ordered by the region's own edges. -/
def footV : PV → List Nat
  | .own id _ _ => [id]
  | .ptr id _ => [id]
  | .ept id _ _ => [id]
  | .mp id => [id]
  | _ => []
def footO (t : T PV) : List Operand → List Nat
  | [] => []
  | o :: l => match evs t o with
    | some p => footV p ++ footO t l
    | none => footO t l
def deepO (t : T PV) (h : Hp) : List Operand → List Nat
  | [] => []
  | o :: l => match evs t o with
    | some p => match pur h purDepth p with
      | some (_, m) => m ++ deepO t h l
      | none => deepO t h l
    | none => deepO t h l
def restr (h : Hp) : List Nat → T Blk → T Blk
  | [], m => m
  | id :: l, m => match h.get id with
    | some b => bif Nat.blt id (id + 1) then restr h l (T.put (id + 1) m id b) else restr h l m
    | none => restr h l m
def Hp.cut (h : Hp) (l : List Nat) : Hp := { m := restr h l .lf, nx := h.nx }
/-- the blocks of l, as they are in h', into h -/
def over (h' : Hp) : List Nat → Hp → Option Hp
  | [], h => some h
  | id :: l, h => match h'.get id with
    | some b => match h.set id b with
      | some h => over h' l h
      | none => none
    | none => over h' l h
def opnds : Op → List Operand
  | .move x | .assign x | .box _ x | .load _ x | .nilCheck x | .unOp _ _ x | .convert _ _ x | .makeInterface _ x | .fieldAddr _ x _ | .field _ x _ | .typeAssert x _ _ _ | .extract x _ | .panic x => [x]
  | .pick c a b => [c, a, b]
  | .build _ parts | .buildSlice _ _ parts => parts.toList.map (·.2)
  | .store _ a x => [a, x]
  | .binOp _ _ x y _ => [x, y]
  | .makeFunc _ a b => a.toList ++ b.toList
  | .makeSlice _ l c => [l, c]
  | .slice _ x lo hi mx => x :: (lo.toList ++ (hi.toList ++ mx.toList))
  | .indexAddr _ x i | .index _ x i => [x, i]
  | .lookup _ x k _ => [x, k]
  | .mapUpdate _ x k v | .insert _ x k v => [x, k, v]
  | .call c => match c.callee with
    | .builtin _ => c.args.toList
    | .value f => f :: c.args.toList
    | .invoke r _ => r :: c.args.toList
  | _ => []
def footM : PV → List Nat
  | .mp id => [id]
  | _ => []
def footMO (t : T PV) : List Operand → List Nat
  | [] => []
  | o :: l => match evs t o with
    | some p => footM p ++ footMO t l
    | none => footMO t l
def foot (t : T PV) (h : Hp) (o : Op) : List Nat := match o with
  | .buildSlice _ _ _ => deepO t h (opnds o)
  | .slice _ x _ _ mx => bif mx.isSome then deepO t h [x] else footO t [x]
  | .load _ _ | .indexAddr _ _ _ | .lookup _ _ _ _ | .store _ _ _ | .mapUpdate _ _ _ _ | .insert _ _ _ _ => footO t (opnds o)
  | .call c => match c.callee with
    | .builtin b => (match b with
      | .len => footMO t c.args.toList
      | _ => footO t c.args.toList)
    | _ => []
  | _ => []
/-- it leaves the heap as it is -/
def quiet (o : Op) : Bool := match o with
  | .buildSlice _ _ _ | .store _ _ _ | .mapUpdate _ _ _ _ | .insert _ _ _ _ | .alloc _ | .box _ _ | .makeMap _ _ | .makeSlice _ _ _ => false
  | .slice _ _ _ _ mx => mx.isNone
  | .call c => match c.callee with
    | .builtin b => match b with
      | .len | .cap | .max | .min => true
      | _ => false
    | _ => false
  | _ => true
/-- it is taken in a region whose order is drawn -/
def drawable (o : Op) : Bool := match o with
  | .lookup _ _ _ _ | .mapUpdate _ _ _ _ | .insert _ _ _ _ | .defer _ | .panic _ => false
  | .call c => match c.callee with
    | .builtin b => match b with
      | .len | .cap | .append | .copy | .max | .min => true
      | _ => false
    | _ => true
  | _ => true
def tmpBit : Operand → Nat
  | .tmp k => Nat.pow 2 k
  | _ => 0
def tmpBits : List Operand → Nat
  | [] => 0
  | o :: l => Nat.lor (tmpBit o) (tmpBits l)
def dstBit : Option Nat → Nat
  | some d => Nat.pow 2 d
  | none => 0
def guardBit (ops : List Oper) : Option (Nat × Bool) → Nat
  | none => 0
  | some (j, _) => match lget ops j with
    | some o => dstBit o.dst
    | none => 0
structure Mk where
  rd : Nat
  wr : Nat
  bef : Nat
def edgeBits (acc : List Mk) : List Edge → Nat
  | [] => 0
  | e :: l => bif Region.binds .any e then Nat.lor (Nat.lor (Nat.pow 2 e.on) (match lget acc e.on with | some m => m.bef | none => 0)) (edgeBits acc l) else edgeBits acc l
def bit (m j : Nat) : Bool := !Nat.beq (Nat.land m (Nat.pow 2 j)) 0
def apart (a b : Nat) : Bool := Nat.beq (Nat.land a b) 0
/-- no clash of temporaries that no edge orders -/
def marksOk (m : Mk) : Nat → List Mk → Bool
  | _, [] => true
  | j, x :: l => (bit m.bef j || (apart x.wr (Nat.lor m.rd m.wr) && apart x.rd m.wr)) && marksOk m (j + 1) l
def edgesOk (i : Nat) : List Edge → Bool
  | [] => true
  | e :: l => (!Region.binds .any e || Nat.blt e.on i) && edgesOk i l
def marksOf (ops : List Oper) : Nat → List Oper → List Mk → Option (List Mk)
  | _, [], acc => some acc
  | i, o :: l, acc =>
    let m : Mk := { rd := Nat.lor (tmpBits (opnds o.op)) (guardBit ops o.guard), wr := dstBit o.dst, bef := edgeBits acc o.after.toList }
    bif edgesOk i o.after.toList && marksOk m 0 acc then marksOf ops (i + 1) l (acc ++ [m]) else none
def meets : List Nat → List Nat → Bool
  | [], _ => false
  | x :: l, m => m.any (Nat.beq x) || meets l m
/-- no clash of blocks that no edge orders -/
def heapOk (bef : Nat) (rd wr : List Nat) : List (Nat × List Nat × List Nat) → Bool
  | [] => true
  | (j, r, w) :: l => (bit bef j || !(meets w rd || meets wr r)) && heapOk bef rd wr l
def unfrozen (h : Hp) : List Nat → List Nat
  | [] => []
  | id :: l => match h.get id with
    | some (.box _ true) | some (.row _ _ true) => unfrozen h l
    | _ => id :: unfrozen h l
def isApp : Op → Bool
  | .call c => match c.callee with
    | .builtin .append => true
    | _ => false
  | _ => false
/-- one operation: the value, the heap, the blocks that were read, those that were written -/
def drawnOp (P : Program) (rec : Rec) (t : T PV) (h : Hp) (id : Nat) (o : Oper) : Option (PV × Hp × List Nat × List Nat) :=
  let rd := id :: foot t h o.op
  bif !drawable o.op || !Nat.blt id (id + 1) then none else
  match evalOp P t (h.cut rd) id o with
  | some (.val v h1) => bif quiet o.op then some (v, h, rd, []) else (over h1 rd h).map fun h2 => (v, h2, rd, bif isApp o.op then rd else unfrozen h rd)
  | some (.skip h1) => bif quiet o.op || isApp o.op then none else (over h1 rd h).map fun h2 => (.tup [], h2, rd, unfrozen h rd)
  | some (.call f args) => match purl h args with
    | some (_, l) => match doCall (fun _ => false) rec id f args (h.cut (id :: l)) with
      | some (.ret v, h1) => bif flat v then some (v, h, rd ++ l, []) else (over h1 (id :: l) h).map fun h2 => (v, h2, rd ++ l, unfrozen h (id :: l))
      | _ => none
    | none => none
  | _ => none
def drawnGo (P : Program) (rec : Rec) (base nt : Nat) (ops : List Oper) : Nat → List Oper → List Mk → List (Nat × List Nat × List Nat) → T PV → Hp → Option (T PV × Hp)
  | i, o :: l, m :: ms, past, t, h => bif wantedP ops t o.guard then
      match drawnOp P rec t h (base + i) o with
      | some (v, h, rd, wr) => bif heapOk m.bef rd wr past then
          match o.dst with
          | some d => bif Nat.blt d nt then drawnGo P rec base nt ops (i + 1) l ms ((i, rd, wr) :: past) (T.put 20 t d v) h else none
          | none => drawnGo P rec base nt ops (i + 1) l ms ((i, rd, wr) :: past) t h
        else none
      | none => none
    else match o.dst with
      | some d => bif Nat.blt d nt then drawnGo P rec base nt ops (i + 1) l ms past (T.put 20 t d (.tup [])) h else none
      | none => drawnGo P rec base nt ops (i + 1) l ms past t h
  | _, [], _, _, t, h => some (t, h)
  | _, _, _, _, _, _ => none
def drawn (P : Program) (rec : Rec) (base : Nat) (ops : List Oper) (fr : Fr) (h : Hp) : Option (Fr × Hp) :=
  match marksOf ops 0 ops [] with
  | some ms => match drawnGo P rec base fr.nt ops 0 ops ms [] fr.t h with
    | some (t, h) => some ({ fr with t := t }, h)
    | none => none
  | none => none

def exec (P : Program) (sh : FuncId → Bool) (rec : Rec) : Nat → Code → Fr → Hp → Option (Ex × Fr × Hp)
  | 0, _, _, _ => none
  | n + 1, c, fr, h => match c with
    | .skip | .label _ => some (.normal, fr, h)
    | .seq a b => match exec P sh rec n a fr h with
      | some (.normal, fr, h) => exec P sh rec n b fr h
      | r => r
    | .cond c a b => match evs fr.t c with
      | some (.bool true) => exec P sh rec n a fr h
      | some (.bool false) => exec P sh rec n b fr h
      | _ => none
    | .block id b => match exec P sh rec n b fr h with
      | some (.exit j, fr, h) => bif Nat.beq j id then some (.normal, fr, h) else some (.exit j, fr, h)
      | r => r
    | .loop b => match exec P sh rec n b fr h with
      | some (.normal, fr, h) => exec P sh rec n (.loop b) fr h
      | r => r
    | .scope b => match exec P sh rec n b fr h with
      | some (.goto _, _, _) => none
      | r => r
    | .exit id => some (.exit id, fr, h)
    | .goto l => some (.goto l, fr, h)
    | .ret => some (.ret, fr, h)
    | .refuse _ => none
    | .region _ ops draw => bif draw then (bif P.follows .mixedOrders || !Region.departs ops then
          (match drawn P rec h.nx ops.toList fr { h with nx := h.nx + ops.size } with
          | some (fr, h) => some (.normal, fr, h)
          | none => none) else none)
        else runOps P sh rec h.nx ops.toList (idx 0 ops.toList) fr { h with nx := h.nx + ops.size }
    | .rangeFunc g ps asg body => match evs fr.t g with
      | some (.fn f a b) =>
        let d := h.nx
        let l := h.nx + 1
        match (match fr.ro with
          | none => (match h.new d (.df (some [])) with
            | some h => some (d, [DF.col d], h)
            | none => none)
          | some l0 => (match h.get l0 with
            | some (.lp _ _ _ _ _ _ _ d0) => some (d0, [], h)
            | _ => none)) with
        | some (d, mark, h) => match h.new l (.lp 0 none fr.nt fr.t ps.toList asg body d) with
          | some h => match pinvoke P f a b [.yl l] with
            | some (.call f args) => match rec (.fn f) none args { h with nx := l + 1 } with
              | some (.ret _, _, h) => (match h.get l with
                | some (.lp st pend nt t ps asg body d) => bif Nat.beq st 1 then none else
                  (match h.set l (.lp 3 pend nt t ps asg body d) with
                  | some h => match pend with
                    | none => some (.normal, { fr with ds := mark ++ fr.ds }, h)
                    | some .ret => some (.ret, { fr with ds := mark ++ fr.ds }, h)
                    | some (.exit id) => some (.exit id, { fr with ds := mark ++ fr.ds }, h)
                    | some (.goto id) => some (.goto id, { fr with ds := mark ++ fr.ds }, h)
                    | _ => none
                  | none => none)
                | _ => none)
              | _ => none
            | _ => none
          | none => none
        | none => none
      | _ => none

def setArgs : Nat → List PV → T PV → T PV
  | _, [], t => t
  | i, a :: l, t => setArgs (i + 1) l (T.put 20 t i a)
def setParams (nt : Nat) : List Nat → List PV → T PV → Option (T PV)
  | [], [], t => some t
  | p :: ps, a :: l, t => bif Nat.blt p nt then setParams nt ps l (T.put 20 t p a) else none
  | _, _, _ => none
def resv (P : Program) (h : Hp) (t : T PV) : ResultVar → Option PV
  | .tmp k => some ((t.get k).getD (.tup []))
  | .cell a ty => match t.get a with
    | some (.ptr j off) => match h.get j with
      | some (.box cs _) => part P ty (cs.drop off)
      | _ => none
    | _ => none
def resl (P : Program) (h : Hp) (t : T PV) : List ResultVar → Option (List PV)
  | [] => some []
  | r :: l => match resv P h t r, resl P h t l with
    | some p, some ps => some (p :: ps)
    | _, _ => none
def results (P : Program) (fn : Func) (h : Hp) (t : T PV) : Option PV := match resl P h t fn.results.toList with
  | some [v] => some v
  | some vs => some (.tup vs)
  | none => none
def settleP : UM → UM
  | .pan ({ v := _, recovered := true } :: _) => .ret
  | u => u
/-- a frame on its way out: its deferred calls -/
def leave (P : Program) (rec : Rec) (fn : Func) : Nat → List DF → UM → T PV → Hp → Option (Out × Hp)
  | 0, _, _, _, _ => none
  | n + 1, ds, u, t, h => match ds with
    | [] => match u with
      | .ret => match results P fn h t with
        | some v => some (.ret v, h)
        | none => none
      | .pan ch => some (.pan ch, h)
    | .col id :: ds => match h.get id with
      | some (.df (some l)) => match h.set id (.df none) with
        | some h => leave P rec fn n (l ++ ds) u t h
        | none => none
      | _ => none
    | .bi b ats _ args :: ds => match b with
      | .clear => match pbuiltin P h 0 .clear ats args with
        | some (.val _ h) => leave P rec fn n ds u t h
        | _ => none
      | _ => none
    | .call f args :: ds => match f with
      | .fn (.func g) a b => match pinvoke P (.func g) a b args with
        | some (.call g args) => match rec (.fn g) (some u) args h with
          | some (.ret _, some u, h) => leave P rec fn n ds (settleP u) t h
          | _ => none
        | _ => none
      | _ => none

def roundEnd (h : Hp) (l : Nat) (jump : Option Code) : Option (Out × Option UM × Hp) := match h.get l with
  | some (.lp _ _ nt t ps asg body d) => match h.set l (.lp (match jump with | none => 0 | some _ => 2) jump nt t ps asg body d) with
    | some h => some (.ret (.bool jump.isNone), none, h)
    | none => none
  | _ => none

/-- errors.Is of a sentinel that is the target itself -/
def prIs (same : List TypeId) : PV → PV → Option Bool
  | .ifc u (.gk a), .ifc v (.gk b) => bif (Nat.beq u v && Nat.beq a b) && same.any (Nat.beq u) then some true else none
  | _, _ => none
def prTo : List (TypeId × TypeId) → TypeId → Option TypeId
  | [], _ => none
  | (a, b) :: l, t => bif Nat.beq a t then some b else prTo l t
/-- errors.As -/
def prAs (P : Program) (tt : List (TypeId × TypeId)) (plain : List TypeId) (e t : PV) (h : Hp) : Option (Bool × Hp) := match e with
  | .nili => some (false, h)
  | .ifc u a => match t with
    | .ifc pt (.ptr id off) => match prTo tt pt with
      | some T => bif Nat.beq u T then (match a, evStore P h T (.ptr id off) a with
          | .agg [_], some (.skip h) => some (true, h)
          | _, _ => none)
        else bif plain.any (Nat.beq u) then some (false, h) else none
      | none => none
    | _ => none
  | _ => none
/-- strings.Compare -/
def prCmp : PV → PV → Option Int
  | .str a, .str b => some (bif Op.bytesLess a b then -1 else bif a == b then 0 else 1)
  | _, _ => none
/-- a function that is answered as a whole -/
def prDo (P : Program) : Pr → List PV → Hp → Option (PV × Hp)
  | .is same, [e, t], h => (prIs same e t).map fun b => (.bool b, h)
  | .as tt plain, [e, t], h => (prAs P tt plain e t h).map fun (b, h) => (.bool b, h)
  | .cmp, [a, b], h => (prCmp a b).map fun n => (.int .i64 n, h)
  | _, _, _ => none
def doS (P : Program) (sh : FuncId → Bool) (F : Nat) (rec : Rec) : Rec := fun tg up args h => match tg with
    | .fn f => match Gl.pr f with
      | some p => (match up with
        | none => (prDo P p args h).map fun (v, h) => (.ret v, none, h)
        | some _ => none)
      | none => match P.funcs[f]? with
      | some fn => match fn.body with
        | some c => match (bif Nat.ble args.length fn.ntmps && Nat.blt fn.ntmps 1048575 then exec P sh rec F c { t := setArgs 0 args .lf, nt := fn.ntmps, ds := [], up, ro := none } h else none) with
          | some (.normal, fr, h) | some (.ret, fr, h) => (match leave P rec fn F fr.ds .ret fr.t h with
            | some (o, h) => some (o, fr.up, h)
            | none => none)
          | some (.panic e, fr, h) => (match leave P rec fn F fr.ds (.pan [{ v := e, recovered := false }]) fr.t h with
            | some (o, h) => some (o, fr.up, h)
            | none => none)
          | _ => none
        | none => none
      | none => none
    | .yl l => match h.get l with
      | some (.lp _ _ nt t ps asg body0 _) => match setParams nt ps args t with
        | some t => match exec P sh rec F asg { t, nt, ds := [], up := none, ro := some l } h with
          | some (.normal, fr, h) => (match h.get l with
            | some (.lp 0 pend nt t ps asg body d) => (match h.set l (.lp 1 pend nt t ps asg body d) with
              | some h => match exec P sh rec F body0 fr h with
                | some (.normal, _, h) => roundEnd h l none
                | some (.ret, _, h) => roundEnd h l (some .ret)
                | some (.exit id, _, h) => roundEnd h l (some (.exit id))
                | some (.goto id, _, h) => roundEnd h l (some (.goto id))
                | _ => none
              | none => none)
            | _ => none)
          | _ => none
        | none => none
      | _ => none
def doN (P : Program) (sh : FuncId → Bool) (F : Nat) : Nat → Rec
  | 0 => fun _ _ _ _ => none
  | n + 1 => doS P sh F (doN P sh F n)
def pcall (P : Program) (sh : FuncId → Bool) (F n : Nat) (f : FuncId) (args : List PV) : Option PV :=
  match doN P sh F n (.fn f) none args { m := .lf, nx := 0 } with
  | some (.ret r, _, h) => (pur h purDepth r).map (·.1)
  | _ => none
end Go.Proofs.YtfecnejgdafbcaaGreatDoor.Pi
