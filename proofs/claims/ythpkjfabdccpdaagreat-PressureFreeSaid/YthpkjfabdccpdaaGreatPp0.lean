/- A part of the evaluator of the model's code for any program, and of the proof that it is sound. No condition. -/
import GoSem.Step
import Derived.WalkKit
import Derived.Laws.BytesString
namespace Go.Proofs.YthpkjfabdccpdaaGreat.Pi
inductive PV where
 | bool (b:Bool)
 | int (k:IntKind) (n:Int)
 | str (l:List UInt8)
 | nilp | nils | nilm | nilf | nili
 | agg (cs:List PV)
 | tup (vs:List PV)
 | lst (full:Bool) (es:List PV)
 | own (id off len:Nat)
 | ptr (id off:Nat)
 | ept (id i off:Nat)
 | view (cs:List PV)
 | fn (f:Fn) (first captured:List PV)
 | yl (id:Nat)
 | ifc (t:TypeId) (v:PV)
 | mp (id:Nat)
structure PE where
 v:PV
 recovered:Bool
inductive UM where
 | ret
 | pan (ch:List PE)
inductive DF where
 | call (f:PV) (args:List PV)
 | bi (b:Builtin) (ats:Array TypeId) (ty:TypeId) (args:List PV)
 | col (id:Nat)
inductive Ex where
 | normal
 | exit (id:Nat)
 | goto (l:Nat)
 | ret
 | panic (v:PV)
inductive T (α:Type) where
 | lf
 | nd (l:T α) (v:Option α) (r:T α)
def T.get {α:Type}:T α->Nat->Option α
 | .lf,_=>none
 | .nd l v r,k=>bif Nat.beq k 0 then v else bif Nat.beq (k % 2) 1 then l.get (k / 2) else r.get (k / 2-1)
def T.put {α:Type}:Nat->T α->Nat->α->T α
 | 0,t,_,_=>t
 | n+1,.lf,k,x=>bif Nat.beq k 0 then .nd .lf (some x) .lf else bif Nat.beq (k % 2) 1 then .nd (T.put n .lf (k / 2) x) none .lf else .nd .lf none (T.put n .lf (k / 2-1) x)
 | n+1,.nd l v r,k,x=>bif Nat.beq k 0 then .nd l (some x) r else bif Nat.beq (k % 2) 1 then .nd (T.put n l (k / 2) x) v r else .nd l v (T.put n r (k / 2-1) x)
inductive Blk where
 | box (cs:List PV) (fz:Bool)
 | row (es:List PV) (exact fz:Bool)
 | mp (es:List (PV×PV))
 | lp (st:Nat) (pend:Option Code) (nt:Nat) (t:T PV) (ps:List Nat) (asg body:Code) (d:Nat)
 | df (ds:Option (List DF))
 | dead
structure Hp where
 m:T Blk
 nx:Nat
def Hp.get (h:Hp) (id:Nat):Option Blk:=h.m.get id
def Hp.set (h:Hp) (id:Nat) (b:Blk):Option Hp:=bif Nat.blt id (id+1) then some { h with m:=T.put (id+1) h.m id b } else none
structure Fr where
 t:T PV
 nt:Nat
 ds:List DF
 up:Option UM
 ro:Option Nat
def Hp.new (h:Hp) (id:Nat) (b:Blk):Option Hp:=match h.m.get id with
 | none=>h.set id b
 | some _=>none
def lget {α:Type}:List α->Nat->Option α
 | [],_=>none
 | a::l,k=>bif Nat.beq k 0 then some a else lget l (k-1)
def lset {α:Type}:List α->Nat->α->List α
 | [],_,_=>[]
 | a::l,k,x=>bif Nat.beq k 0 then x::l else a::lset l (k-1) x
def Em (cs:List PV) (off:Nat) (x:List PV):List PV:=cs.take off++(x++cs.drop (off+x.length))
def PV.cells:PV->List PV
 | .agg cs=>cs
 | .tup _=>[]
 | v=>[v]
def Rd (isAgg:Bool) (cs:List PV):Option PV :=
 bif isAgg then some (.agg cs) else match cs with
  | [c]=>some c
  | _=>none
def Gr:Value->Option PV
 | .bool b=>some (.bool b)
 | .int k n=>some (.int k n)
 | .string s=>some (.str s.data.toList)
 | .pointer none=>some .nilp
 | .slice none 0 0=>some .nils
 | .map none=>some .nilm
 | .nilFunc=>some .nilf
 | .nilIface=>some .nili
 | .func (.func f) first cap=>if first.isEmpty&&cap.isEmpty then some (.fn (.func f) [] []) else none
 | _=>none
def cellsOf:List Value->Option (List PV)
 | []=>some []
 | v::l=>match Gr v,cellsOf l with
  | some p,some ps=>some (p::ps)
  | _,_=>none
def H6:Value->Option PV
 | .agg cs=>(cellsOf cs.toList).map .agg
 | .tuple vs=>bif vs.isEmpty then some (.tup []) else none
 | .iface t v=>match Gr v with
  | some p=>some (.ifc t p)
  | none=>none
 | v=>Gr v
section
variable (P:Program)
def BV (t:TypeId):Option Nat:=(P.info? t).map (·.size)
def Re (t:TypeId):Option Bool:=match P.underlying t with
 | some (.struct _) | some (.array _ _)=>some true
 | some _=>some false
 | none=>none
def zeroCells (t:TypeId):Option (List PV):=match P.info? t with
 | some i=>match i.zero with
  | some z=>cellsOf z.cells.toList
  | none=>none
 | none=>none
def part (t:TypeId) (cs:List PV):Option PV:=match Re P t,BV P t with
 | some true,some n=>bif Nat.ble n cs.length then some (.agg (cs.take n)) else none
 | some false,some _=>match cs with
  | c::_=>some c
  | []=>none
 | _,_=>none
end
def GI (t:T PV):Operand->Option PV
 | .tmp k=>some ((t.get k).getD (.tup []))
 | .const v=>H6 v
 | .func f=>some (.fn (.func f) [] [])
 | .global _=>none
def TQ (t:T PV):List Operand->Option (List PV)
 | []=>some []
 | o::l=>match GI t o,TQ t l with
  | some p,some ps=>some (p::ps)
  | _,_=>none
def WT (op:BinOp) (k:IntKind) (a b:Int):Option PV:=match op with
 | .add=>some (.int k (k.wrap (a+b)))
 | .sub=>some (.int k (k.wrap (a-b)))
 | .mul=>some (.int k (k.wrap (a*b)))
 | .quo=>bif b == 0 then none else some (.int k (k.wrap (a.tdiv b)))
 | .rem=>bif b == 0 then none else some (.int k (a.tmod b))
 | .eql=>some (.bool (a == b))
 | .neq=>some (.bool (a != b))
 | .lss=>some (.bool (decide (a<b)))
 | .leq=>some (.bool (decide (a<=b)))
 | .gtr=>some (.bool (decide (a>b)))
 | .geq=>some (.bool (decide (a>=b)))
 | .and=>some (.int k (k.wrap (BitVec.ofInt k.bits a &&& BitVec.ofInt k.bits b).toNat))
 | .or=>some (.int k (k.wrap (BitVec.ofInt k.bits a ||| BitVec.ofInt k.bits b).toNat))
 | .xor=>some (.int k (k.wrap (BitVec.ofInt k.bits a ^^^ BitVec.ofInt k.bits b).toNat))
 | _=>none
def MI (op:BinOp) (k:IntKind) (a b:Int):Option PV:=bif decide (b<0) then none else match op with
 | .shl=>some (.int k (k.wrap (a*2 ^ (min b.toNat k.bits))))
 | .shr=>some (.int k (a.fdiv (2 ^ (min b.toNat k.bits))))
 | _=>none
def YG (op:BinOp) (a b:List UInt8):Option PV:=match op with
 | .add=>bif Nat.ble (a.length+b.length) 1000000000 then some (.str (a++b)) else none
 | .eql=>some (.bool (a == b))
 | .neq=>some (.bool (!(a == b)))
 | .lss=>some (.bool (Op.bytesLess a b))
 | .leq=>some (.bool (Op.bytesLess a b||a == b))
 | .gtr=>some (.bool (!(Op.bytesLess a b||a == b)))
 | .geq=>some (.bool (!Op.bytesLess a b))
 | _=>none
def pK:PV->PV->Option Bool
 | .bool a,.bool b=>some (a == b)
 | .int k a,.int k' b=>bif k == k' then some (a == b) else none
 | .str a,.str b=>some (a == b)
 | _,_=>none
mutual
def VW (P:Program):Nat->TypeId->PV->PV->Option Bool
 | 0,_,_,_=>none
 | d+1,t,x,y=>match P.underlying t with
  | some .bool=>match x,y with
   | .bool a,.bool b=>some (a == b)
   | _,_=>none
  | some (.int _)=>match x,y with
   | .int k a,.int k' b=>bif k == k' then some (a == b) else none
   | _,_=>none
  | some .string=>match x,y with
   | .str a,.str b=>some (a == b)
   | _,_=>none
  | some (.pointer _)=>match x,y with
   | .nilp,.nilp=>some true
   | .nilp,.ptr _ _ | .nilp,.view _ | .nilp,.ept _ _ _ | .ptr _ _,.nilp | .view _,.nilp | .ept _ _ _,.nilp=>some false
   | _,_=>none
  | some (.slice _)=>match x,y with
   | .nils,.nils=>some true
   | .nils,.lst _ _ | .lst _ _,.nils | .nils,.own _ _ _ | .own _ _ _,.nils=>some false
   | _,_=>none
  | some (.func _ _ _)=>match x,y with
   | .nilf,.nilf=>some true
   | .nilf,.fn _ _ _ | .fn _ _ _,.nilf=>some false
   | _,_=>none
  | some (.interface _)=>match x,y with
   | .nili,.nili=>some true
   | .nili,.ifc _ _ | .ifc _ _,.nili=>some false
   | .ifc t a,.ifc t' b=>bif Nat.beq t t' then (match P.info? t with
     | some i=>bif i.comparable then VW P d t a b else none
     | none=>none) else some false
   | _,_=>none
  | some (.struct fs)=>match x,y with
   | .agg a,.agg b=>bif P.stoodInHeld t then none else O2 P d fs.toList a b
   | _,_=>none
  | some (.array n e)=>match x,y with
   | .agg a,.agg b=>bif (BV P e).isSome then QS P d n e a b else none
   | _,_=>none
  | _=>none
def O2 (P:Program):Nat->List Field->List PV->List PV->Option Bool
 | 0,_,_,_=>none
 | _+1,[],_,_=>some true
 | d + 1, f :: fs, a, b => bif f.name == "_" then O2 P d fs a b else match part P f.type (a.drop f.offset), part P f.type (b.drop f.offset) with
  | some x,some y=>(match VW P d f.type x y with
   | some true=>O2 P d fs a b
   | r=>r)
  | _,_=>none
def QS (P:Program):Nat->Nat->TypeId->List PV->List PV->Option Bool
 | 0,_,_,_,_=>none
 | _+1,0,_,_,_=>some true
 | d+1,n+1,e,a,b=>match BV P e,part P e a,part P e b with
  | some s,some x,some y=>(match VW P d e x y with
   | some true=>QS P d n e (a.drop s) (b.drop s)
   | r=>r)
  | _,_,_=>none
end
def Jr:Nat:=64
def O3 (P:Program) (op:BinOp) (ty:TypeId) (x y:PV):Option PV:=match x,y with
 | .int k a,.int k' b=>match op with
  | .shl | .shr=>MI op k a b
  | _=>bif k == k' then WT op k a b else none
 | .str a,.str b=>YG op a b
 | x,y=>match op with
  | .eql=>(VW P Jr ty x y).map .bool
  | .neq=>(VW P Jr ty x y).map λr => .bool (!r)
  | _=>none
def lA (op:UnOp):PV->Option PV
 | .bool b=>match op with
  | .not=>some (.bool (!b))
  | _=>none
 | .int k n=>match op with
  | .neg=>some (.int k (k.wrap (0-n)))
  | _=>none
 | _=>none
def AM (f:PV->Option (PV×List Nat)):List PV->Option (List PV×List Nat)
 | []=>some ([],[])
 | p::ps=>match f p,AM f ps with
  | some (q,a),some (qs,b)=>some (q::qs,a++b)
  | _,_=>none
def BO (h:Hp):Nat->PV->Option (PV×List Nat)
 | 0,_=>none
 | n+1,v=>match v with
  | .agg cs=>(AM (BO h n) cs).map λ(x,l)=>(.agg x,l)
  | .tup cs=>(AM (BO h n) cs).map λ(x,l)=>(.tup x,l)
  | .ifc t x=>(BO h n x).map λ(x,l)=>(.ifc t x,l)
  | .fn f a b=>match AM (BO h n) a,AM (BO h n) b with
   | some (a,l),some (b,m)=>some (.fn f a b,l++m)
   | _,_=>none
  | .own id off len=>match h.get id with
   | some (.row es _ _)=>bif Nat.ble (off+len) es.length then (AM (BO h n) ((es.drop off).take len)).map λ(x,l)=>(.lst false x,id::l) else none
   | _=>none
  | .ptr id off=>match h.get id with
   | some (.box cs _)=>bif Nat.blt off cs.length then (AM (BO h n) (cs.drop off)).map λ(x,l)=>(.view x,id::l) else none
   | _=>none
  | .ept id i off=>match h.get id with
   | some (.row es _ _)=>match lget es i with
    | some e=>bif Nat.blt off e.cells.length then (AM (BO h n) (e.cells.drop off)).map λ(x,l)=>(.view x,id::l) else none
    | none=>none
   | _=>none
  | .yl _ | .mp _=>none
  | v=>some (v,[])
def BI:Nat:=12
def By (h:Hp):List PV->Option (List PV×List Nat)
 | []=>some ([],[])
 | p::ps=>match BO h BI p,By h ps with
  | some (q,a),some (qs,b)=>some (q::qs,a++b)
  | _,_=>none
def freeze (h:Hp):List Nat->Option Hp
 | []=>some h
 | id::l=>match h.get id with
  | some (.box cs _)=>match h.set id (.box cs true) with
   | some h=>freeze h l
   | none=>none
  | some (.row es ex _)=>match h.set id (.row es ex true) with
   | some h=>freeze h l
   | none=>none
  | _=>none
mutual
def flat:PV->Bool
 | .agg cs=>DI cs
 | .tup cs=>DI cs
 | .ifc _ v=>flat v
 | .lst _ es=>es.isEmpty
 | .view _ | .fn _ _ _ | .own _ _ _ | .ptr _ _ | .ept _ _ _ | .yl _ | .mp _=>false
 | _=>true
def DI:List PV->Bool
 | []=>true
 | p::ps=>flat p&&DI ps
end
inductive R where
 | val (v:PV) (h:Hp)
 | skip (h:Hp)
 | call (f:FuncId) (args:List PV)
 | yield (id:Nat) (args:List PV)
 | pan (v:PV)
 | rcv
 | dfr (d:DF)
def KU (cs:List PV):List (Nat×Nat×List PV)->Option (List PV)
 | []=>some cs
 | (off,n,x)::r=>bif Nat.beq x.length n&&Nat.ble (off+n) cs.length then KU (Em cs off x) r else none
def KV (size:Nat) (es:List PV):List (Nat×PV)->Option (List PV)
 | []=>some es
 | (i,v)::r=>bif Nat.beq v.cells.length size&&Nat.blt i es.length then KV size (lset es i v) r else none
def FN (t:T PV):List (Nat×Operand)->Option (List (Nat×PV))
 | []=>some []
 | (i,o)::l=>match GI t o,FN t l with
  | some p,some ps=>some ((i,p)::ps)
  | _,_=>none
def H7 (P:Program) (fs:Array Field):List (Nat×PV)->Option (List (Nat×Nat×List PV))
 | []=>some []
 | (i,p)::l=>match fs[i]?,H7 P fs l with
  | some f,some r=>(match BV P f.type with
   | some n=>bif Nat.blt 0 n then some ((f.offset,n,p.cells)::r) else none
   | none=>none)
  | _,_=>none
def Js (size:Nat):List (Nat×PV)->List (Nat×Nat×List PV)
 | []=>[]
 | (i,p)::l=>(i*size,size,p.cells)::Js size l
def KW:PV->Option Nat
 | .int _ n=>bif decide (0<=n) then some n.toNat else none
 | _=>none
def Jt:PV->Option Nat
 | .int .i64 n=>bif decide (0<=n) then some n.toNat else none
 | _=>none
def Dv (h:Hp):PV->Option (List PV)
 | .nils=>some []
 | .lst _ es=>some es
 | .own id off len=>match h.get id with
  | some (.row es _ _)=>bif Nat.ble (off+len) es.length then some ((es.drop off).take len) else none
  | _=>none
 | _=>none
def QT:TypeDesc->PV->PV->Option Bool
 | .bool,.bool a,.bool b=>some (a == b)
 | .int _,.int k a,.int k' b=>bif k == k' then some (a == b) else none
 | .string,.str a,.str b=>some (a == b)
 | _,_,_=>none
def NB (d:TypeDesc):List (PV×PV)->PV->Option (Option PV)
 | [],_=>some none
 | (k,v)::l,x=>match QT d x k with
  | some true=>some (some v)
  | some false=>NB d l x
  | none=>none
def HW (d:TypeDesc):List (PV×PV)->PV->PV->Option (List (PV×PV))
 | [],x,y=>some [(x,y)]
 | (k,v)::l,x,y=>match QT d x k with
  | some true=>some ((x,y)::l)
  | some false=>match HW d l x y with
   | some l=>some ((k,v)::l)
   | none=>none
  | none=>none
def JG (d:TypeDesc):List (PV×PV)->PV->Option (List (PV×PV))
 | [],_=>some []
 | (k,v)::l,x=>match QT d x k with
  | some true=>some l
  | some false=>match JG d l x with
   | some l=>some ((k,v)::l)
   | none=>none
  | none=>none
def Ga:TypeDesc->Bool
 | .int _ | .string | .bool=>true
 | _=>false
def vl (o:Option PV) (h:Hp):Option R:=o.map (R.val · h)
def Dw:Nat:=1048576
def GJ (n:Nat):List PV->Bool
 | []=>true
 | e::_=>Nat.beq e.cells.length n
def JD (P:Program) (h:Hp) (id:Nat) (st:TypeId) (s x:PV):Option R :=
 match P.underlying st with
 | some (.slice e)=>match BV P e,P.info? e,Dv h x,zeroCells P e with
  | some sz,some ti,some new,some z =>
   bif !(new.all λv=>Nat.beq v.cells.length sz) || !Nat.ble ti.bytes Dw || !Nat.beq z.length sz || !Nat.blt 0 sz then none else
   match s with
   | .nils=>bif new.isEmpty then some (.val .nils h) else bif Nat.ble new.length Dw then (h.new id (.row new false false)).map λh => .val (.own id 0 new.length) h else none
   | .lst true es=>bif new.isEmpty then some (.val (.lst true es) h) else bif Nat.ble (es.length+new.length) Dw&&GJ sz es then (h.new id (.row (es++new) false false)).map λh => .val (.own id 0 (es.length+new.length)) h else none
   | .own j off len=>match h.get j with
    | some (.row es ex fz) =>
     bif !Nat.ble (len+new.length) Dw || !Nat.ble (off+len) es.length || !GJ sz es then none else
     bif ex then
      bif new.isEmpty then some (.val (.own j off len) h) else bif Nat.ble (off+len+new.length) es.length then
       (bif fz then none else (h.set j (.row (Em es (off+len) new) true false)).map λh => .val (.own j off (len+new.length)) h)
      else (h.new id (.row ((es.drop off).take len++new) false false)).map λh => .val (.own id 0 (len+new.length)) h
     else bif Nat.beq len es.length&&Nat.beq off 0&&Nat.blt 0 len then
      match h.set j .dead with
      | some h=>(h.new id (.row (es++new) false fz)).map λh => .val (.own id 0 (len+new.length)) h
      | none=>none
     else none
    | _=>none
   | _=>none
  | _,_,_,_=>none
 | _=>none
def FO (f:Int->Int->Int):Int->List PV->IntKind->Option Int
 | m,[],_=>some m
 | m,.int k y::l,k'=>bif k == k' then FO f (f m y) l k' else none
 | _,_,_=>none
def Af (P:Program) (h:Hp) (id:Nat) (b:Builtin) (ats:Array TypeId) (args:List PV):Option R :=
 match b with
 | .len=>match args,ats[0]? with
  | [x],some t=>match P.underlying t,x with
   | some (.map _ _),.mp j=>(match h.get j with
    | some (.mp es)=>some (.val (.int .i64 es.length) h)
    | _=>none)
   | some (.map _ _),.nilm=>some (.val (.int .i64 0) h)
   | some (.array n _),_=>some (.val (.int .i64 n) h)
   | some (.slice _),.nils=>some (.val (.int .i64 0) h)
   | some (.slice _),.lst _ es=>some (.val (.int .i64 es.length) h)
   | some (.slice _),.own _ _ len=>some (.val (.int .i64 len) h)
   | some .string,.str l=>some (.val (.int .i64 l.length) h)
   | _,_=>none
  | _,_=>none
 | .cap=>match args,ats[0]? with
  | [x],some t=>match P.underlying t,x with
   | some (.slice _),.own j off _=>(match h.get j with
    | some (.row es true _)=>some (.val (.int .i64 (es.length-off:Nat)) h)
    | _=>none)
   | some (.slice _),.nils=>some (.val (.int .i64 0) h)
   | _,_=>none
  | _,_=>none
 | .append=>match args,ats.toList with
  | [s,x],[t,t']=>bif Nat.beq t t' then JD P h id t s x else none
  | _,_=>none
 | .copy=>match args,ats[0]? with
  | [.own j off len,x],some t=>match P.underlying t,h.get j,Dv h x with
   | some (.slice e),some (.row es ex false),some new=>match BV P e with
    | some sz=>bif !(new.all λv=>Nat.beq v.cells.length sz) || !Nat.ble (off+len) es.length || !Nat.blt 0 sz || !GJ sz es then none else
     (h.set j (.row (Em es off (new.take len)) ex false)).map λh => .val (.int .i64 (Nat.min new.length len:Nat)) h
    | none=>none
   | _,_,_=>none
  | _,_=>none
 | .clear=>match args,ats[0]? with
  | [.mp j],some t=>match P.underlying t,h.get j with
   | some (.map _ _),some (.mp _)=>(h.set j (.mp [])).map λh => .val (.tup []) h
   | _,_=>none
  | _,_=>none
 | .delete=>match args,ats[0]? with
  | [.mp j,k],some t=>match P.underlying t,h.get j with
   | some (.map kt _),some (.mp es)=>match P.underlying kt with
    | some d=>bif !Ga d then none else match JG d es k with
     | some es=>(h.set j (.mp es)).map λh => .val (.tup []) h
     | none=>none
    | none=>none
   | _,_=>none
  | _,_=>none
 | .max=>match args with
  | .int k a::r=>(FO (λm y=>if y>m then y else m) a r k).map λm => .val (.int k m) h
  | [.str a,.str b]=>some (.val (.str (bif !Op.bytesLess a b then a else b)) h)
  | _=>none
 | .min=>match args with
  | .int k a::r=>(FO (λm y=>if y<m then y else m) a r k).map λm => .val (.int k m) h
  | [.str a,.str b]=>some (.val (.str (bif Op.bytesLess a b||a == b then a else b)) h)
  | _=>none
 | .panic=>match args with
  | [.ifc t v]=>some (.pan (.ifc t v))
  | _=>none
 | .recover=>some .rcv
 | _=>none
def FP (P:Program) (f:Fn) (first cap args:List PV):Option R:=match f with
 | .func g=>match P.funcs[g]? with
  | some fn => bif fn.body.isSome && !(fn.name == "runtime.NumGoroutine") then some (.call g (first ++ args ++ cap)) else none
  | none=>none
 | .method name=>match first++args with
  | .ifc t v::rest=>match P.info? t with
   | some i=>match i.methods.find? (·.name == name) with
    | some m=>match m.path.isEmpty,m.func,P.underlying t with
     | true, some (g, true), some (.pointer _) => bif (match P.funcs[g]? with | some fn => fn.body.isSome && !(fn.name == "runtime.NumGoroutine") | none => false) then some (.call g (v :: rest)) else none
     | true,some (_,false),some (.pointer _)=>none
     | true, some (g, false), some _ => bif (match P.funcs[g]? with | some fn => fn.body.isSome && !(fn.name == "runtime.NumGoroutine") | none => false) then some (.call g (v :: rest)) else none
     | _,_,_=>none
    | none=>none
   | none=>none
  | _=>none
 | _=>none
def eP (t:T PV):Option Operand->Option (Option PV)
 | none=>some none
 | some o=>(GI t o).map some
def Fg (d:Nat):Option PV->Option Nat
 | none=>some d
 | some p=>KW p
def Hs (h:Hp) (c a b:PV):Option R:=match c with
 | .bool true=>some (.val a h)
 | .bool false=>some (.val b h)
 | _=>none
def Gb (P:Program) (h:Hp) (id:Nat) (e:TypeId):Option R:=match zeroCells P e with
 | some cs=>(h.new id (.box cs false)).map λh => .val (.ptr id 0) h
 | none=>none
def KX (h:Hp) (id:Nat) (v:PV):Option R:=match v with
 | .tup _=>none
 | v=>(h.new id (.box v.cells false)).map λh => .val (.ptr id 0) h
def En (P:Program) (h:Hp) (ty:TypeId) (ps:List (Nat×PV)):Option R :=
 match zeroCells P ty,P.underlying ty with
 | some z,some (.struct fs)=>bif fs.toList.all λf=>(BV P f.type).isSome then
   (match H7 P fs ps with
   | some pl=>(KU z pl).map λcs => .val (.agg cs) h
   | none=>none) else none
 | some z,some (.array _ e)=>match BV P e with
  | some n=>bif Nat.blt 0 n then (KU z (Js n ps)).map λcs => .val (.agg cs) h else none
  | none=>none
 | _,_=>none
def Bi (P:Program) (h:Hp) (ty:TypeId) (len:Nat) (ps:List (Nat×PV)):Option R :=
 match P.underlying ty with
 | some (.slice e)=>match BV P e,Re P e,zeroCells P e with
  | some n,some ag,some z=>match Rd ag z with
   | some z1=>bif !Nat.blt 0 n || !Nat.ble (len*n) 16777216 || !Nat.beq z.length n then none else
    (match KV n (List.replicate len z1) ps with
    | some es=>match By h es with
     | some (es,l)=>(freeze h l).map λh => .val (.lst true es) h
     | none=>none
    | none=>none)
   | none=>none
  | _,_,_=>none
 | _=>none
def Fh (P:Program) (h:Hp) (ty:TypeId) (p:PV):Option R:=match p with
 | .ptr j off=>match h.get j with
  | some (.box cs _)=>vl (part P ty (cs.drop off)) h
  | _=>none
 | .view cs=>vl (part P ty cs) h
 | .ept j i off=>match h.get j with
  | some (.row es _ _)=>match lget es i with
   | some e=>vl (part P ty (e.cells.drop off)) h
   | none=>none
  | _=>none
 | _=>none
def Dd (P:Program) (h:Hp) (ty:TypeId) (p v:PV):Option R:=match BV P ty with
 | some n=>bif !Nat.blt 0 n || !Nat.beq v.cells.length n then none else match p with
  | .ptr j off=>match h.get j with
   | some (.box cs false)=>bif Nat.ble (off+n) cs.length then (h.set j (.box (Em cs off v.cells) false)).map .skip else none
   | _=>none
  | .ept j i off=>match h.get j with
   | some (.row es ex false)=>match lget es i with
    | some e=>bif Nat.ble (off+n) e.cells.length then
      (match e with
      | .agg cs=>(h.set j (.row (lset es i (.agg (Em cs off v.cells))) ex false)).map .skip
      | _=>(match v.cells with
       | [c]=>bif Nat.beq off 0&&Nat.beq e.cells.length 1 then (match c with
        | .agg _=>none
        | .tup _=>none
        | c=>(h.set j (.row (lset es i c) ex false)).map .skip) else none
       | _=>none)) else none
    | none=>none
   | _=>none
  | _=>none
 | none=>none
def JH (h:Hp) (p:PV):Option R:=match p with
 | .ptr a b=>some (.val (.ptr a b) h)
 | .ept a b c=>some (.val (.ept a b c) h)
 | .view cs=>some (.val (.view cs) h)
 | .ifc ty v=>some (.val (.ifc ty v) h)
 | .yl i=>some (.val (.yl i) h)
 | .fn (.func f) a b=>some (.val (.fn (.func f) a b) h)
 | _=>none
def Fi:Operand->Bool
 | .const _=>true
 | _=>false
def HZ (P:Program) (h:Hp) (op:BinOp) (ty:TypeId) (x y:Operand) (a b:PV):Option R:=match a,b with
 | .nili,.nili=>bif Fi x||Fi y then vl (O3 P op ty .nili .nili) h else none
 | .agg cs,.agg ds=>bif P.eqGuardType P.depth ty then none else vl (O3 P op ty (.agg cs) (.agg ds)) h
 | a,b=>vl (O3 P op ty a b) h
def iB:List PV->Option (List UInt8)
 | []=>some []
 | .int .u8 n::l=>(iB l).map (UInt8.ofNat n.toNat::·)
 | _=>none
def DE (P:Program) (h:Hp) (src dst:TypeId) (x:PV):Option R:=match x,P.underlying src,P.underlying dst with
 | .int _ n,some _,some (.int k)=>some (.val (.int k (k.wrap n)) h)
 | .str l,some .string,some .string=>some (.val (.str l) h)
 | .lst _ es,some (.slice e),some .string=>match P.underlying e,iB es with
  | some (.int .u8),some bs=>some (.val (.str bs) h)
  | _,_=>none
 | _,_,_=>none
def I6 (P:Program) (h:Hp) (ty:TypeId) (v:PV):Option R:=match P.underlying ty with
 | some (.interface _)=>none
 | some _=>some (.val (.ifc ty v) h)
 | none=>none
def Gs (P:Program) (h:Hp) (id:Nat) (ty:TypeId) (l c:PV):Option R:=match P.underlying ty,Jt l,Jt c with
 | some (.slice e),some l,some c=>match BV P e,Re P e,zeroCells P e,P.info? e with
  | some n,some ag,some z,some ti=>match Rd ag z with
   | some z1=>bif Nat.ble l c&&Nat.ble c Dw&&Nat.ble ti.bytes Dw&&Nat.blt 0 n&&Nat.beq z.length n then
     (h.new id (.row (List.replicate c z1) true false)).map λh => .val (.own id 0 l) h else none
   | none=>none
  | _,_,_,_=>none
 | _,_,_=>none
def Ha (h:Hp) (j off len:Nat):Option R:=match BO h BI (.own j off len) with
 | some (.lst _ xs,ids)=>(freeze h ids).map λh => .val (.lst true xs) h
 | _=>none
def Bq (P:Program) (h:Hp) (ty:TypeId) (x:PV) (lo hi mx:Option PV):Option R:=match P.underlying ty,x with
 | some .string,.str s=>match mx,Fg s.length hi,Fg 0 lo with
  | none,some hh,some l=>bif Nat.ble hh s.length&&Nat.ble l hh then some (.val (.str ((s.drop l).take (hh-l))) h) else none
  | _,_,_=>none
 | some (.slice e),x=>match BV P e with
  | none=>none
  | some n=>match x with
   | .nils=>match Fg 0 lo,Fg 0 hi,Fg 0 mx with
    | some 0,some 0,some 0=>bif mx.isSome && !hi.isSome then none else some (.val .nils h)
    | _,_,_=>none
   | .lst full es=>bif !GJ n es then none else match Fg 0 lo,Fg es.length hi with
    | some l,some hh=>(match mx with
     | none=>bif Nat.ble hh es.length&&Nat.ble l hh then some (.val (.lst (full&&Nat.beq hh es.length) ((es.drop l).take (hh-l))) h) else none
     | some m=>match KW m with
      | some m=>bif Nat.ble m es.length&&Nat.ble hh m&&Nat.ble l hh&&hi.isSome then some (.val (.lst (Nat.beq hh m) ((es.drop l).take (hh-l))) h) else none
      | none=>none)
    | _,_=>none
   | .own j off len=>match h.get j with
    | some (.row es ex _)=>bif !GJ n es then none else match Fg 0 lo,Fg len hi with
     | some l,some hh=>bif !Nat.ble l hh || !Nat.ble (off+hh) es.length then none else
      (match mx with
      | none=>bif Nat.blt (off+l) es.length then some (.val (.own j (off+l) (hh-l)) h) else some (.val (.lst false []) h)
      | some m=>match KW m with
       | some m=>bif hi.isSome&&Nat.ble hh m&&ex&&Nat.beq (off+m) es.length then
         (bif Nat.blt (off+l) es.length then some (.val (.own j (off+l) (hh-l)) h) else some (.val (.lst true []) h))
        else bif hi.isSome&&Nat.beq m hh then Ha h j (off+l) (hh-l) else none
       | none=>none)
     | _,_=>none
    | _=>none
   | _=>none
 | _,_=>none
def CG (P:Program) (h:Hp) (sty:TypeId) (x:PV) (f:Nat):Option R:=match P.underlying sty with
 | some (.struct fs)=>match fs[f]? with
  | some fd=>match BV P fd.type with
   | some n=>bif Nat.beq n 0 then none else (match x with
    | .ptr j off=>some (.val (.ptr j (off+fd.offset)) h)
    | .ept j i off=>some (.val (.ept j i (off+fd.offset)) h)
    | .view cs=>some (.val (.view (cs.drop fd.offset)) h)
    | _=>none)
   | none=>none
  | none=>none
 | _=>none
def FQ (P:Program) (h:Hp) (ty:TypeId) (x:PV) (f:Nat):Option R:=match P.underlying ty,x with
 | some (.struct fs),.agg cs=>match fs[f]? with
  | some fd=>vl (part P fd.type (cs.drop fd.offset)) h
  | none=>none
 | _,_=>none
def B0 (P:Program) (h:Hp) (ty:TypeId) (x i:PV):Option R:=match P.underlying ty,KW i with
 | some (.slice e),some k=>match BV P e with
  | some n=>match x with
   | .lst _ es=>(match lget es k with
    | some el=>bif Nat.beq el.cells.length n then some (.val (.view el.cells) h) else none
    | none=>none)
   | .own j off len=>bif Nat.blt k len then (match h.get j with
    | some (.row es _ _)=>(match lget es (off+k) with
     | some el=>bif Nat.beq el.cells.length n then some (.val (.ept j (off+k) 0) h) else none
     | none=>none)
    | _=>none) else none
   | _=>none
  | none=>none
 | some (.array len e),some k=>match BV P e with
  | some n=>bif Nat.blt k len then (match x with
   | .ptr j off=>some (.val (.ptr j (off+k*n)) h)
   | .ept j i off=>some (.val (.ept j i (off+k*n)) h)
   | .view cs=>some (.val (.view (cs.drop (k*n))) h)
   | _=>none) else none
  | none=>none
 | _,_=>none
def Eo (P:Program) (h:Hp) (ty:TypeId) (x i:PV):Option R:=match P.underlying ty,x,KW i with
 | some (.array len e),.agg cs,some k=>bif Nat.blt k len then (match BV P e with
  | some n=>vl (part P e (cs.drop (k*n))) h
  | none=>none) else none
 | some .string,.str l,some k=>match lget l k with
  | some b=>some (.val (.int .u8 b.toNat) h)
  | none=>none
 | _,_,_=>none
def EW (P:Program) (e:TypeId):Option PV:=match P.info? e with
 | some i=>match i.zero with
  | some z=>H6 z
  | none=>none
 | none=>none
def Rf (h:Hp):PV->Option (List (PV×PV))
 | .nilm=>some []
 | .mp j=>match h.get j with
  | some (.mp es)=>some es
  | _=>none
 | _=>none
def HD (P:Program) (h:Hp) (ty:TypeId) (m k:PV) (ok:Bool):Option R:=match P.underlying ty,Rf h m with
 | some (.map kt e),some es=>match P.underlying kt with
  | some d=>bif !Ga d then none else match NB d es k with
   | some r=>match (match r with
     | some v=>some v
     | none=>EW P e) with
    | some v=>some (.val (bif ok then .tup [v,.bool r.isSome] else v) h)
    | none=>none
   | none=>none
  | none=>none
 | _,_=>none
def FY (P:Program) (h:Hp) (ty:TypeId) (m k v:PV):Option R:=match P.underlying ty,m with
 | some (.map kt _),.mp j=>match P.underlying kt with
  | some d=>bif !Ga d then none else match h.get j with
   | some (.mp es)=>match HW d es k v with
    | some es=>(h.set j (.mp es)).map .skip
    | none=>none
   | _=>none
  | none=>none
 | _,_=>none
def H8 (ok:Bool) (v:PV):PV:=bif ok then .tup [v,.bool true] else v
def DJ (P:Program) (h:Hp) (ty:TypeId) (v:PV) (ok:Bool):Option R:=match P.underlying ty with
 | some (.interface want)=>match v with
  | .ifc u a=>match P.info? u with
   | some i=>match Instr.missingMethod want i.methods with
    | none=>some (.val (H8 ok (.ifc u a)) h)
    | some _=>bif ok then (match EW P ty with
     | some z=>some (.val (.tup [z,.bool false]) h)
     | none=>none) else none
   | none=>none
  | .nili=>bif ok then (match EW P ty with
   | some z=>some (.val (.tup [z,.bool false]) h)
   | none=>none) else none
  | _=>none
 | some _=>match v with
  | .ifc u a=>bif Nat.beq u ty then some (.val (H8 ok a) h) else bif ok then (match EW P ty with
   | some z=>some (.val (.tup [z,.bool false]) h)
   | none=>none) else none
  | .nili=>bif ok then (match EW P ty with
   | some z=>some (.val (.tup [z,.bool false]) h)
   | none=>none) else none
  | _=>none
 | none=>none
def EE (h:Hp) (x:PV) (i:Nat):Option R:=match x with
 | .tup vs=>vl (lget vs i) h
 | _=>none
def QU (x:PV):Option R:=match x with
 | .ifc ty v=>some (.pan (.ifc ty v))
 | _=>none
def Nc (P:Program) (f:PV) (args:List PV):Option R:=match f with
 | .fn f a b=>FP P f a b args
 | .yl l=>some (.yield l args)
 | _=>none
def C1 (h:Hp) (f:Fn) (a b:List PV):Option R:=match f with
 | .yield _=>none
 | f=>some (.val (.fn f a b) h)
def e1 (t:T PV) (x:Operand) (k:PV->Option R):Option R:=match GI t x with
 | some a=>k a
 | none=>none
def e2 (t:T PV) (x y:Operand) (k:PV->PV->Option R):Option R:=match GI t x,GI t y with
 | some a,some b=>k a b
 | _,_=>none
def e3 (t:T PV) (x y z:Operand) (k:PV->PV->PV->Option R):Option R:=match GI t x,GI t y,GI t z with
 | some a,some b,some c=>k a b c
 | _,_,_=>none
def A0 (P:Program) (t:T PV) (h:Hp) (id:Nat) (o:Oper):Option R :=
 match o.op with
 | .move x=>vl (GI t x) h
 | .assign x=>vl (GI t x) h
 | .pick c a b=>e3 t c a b (Hs h)
 | .alloc e=>Gb P h id e
 | .box _ x=>e1 t x (KX h id)
 | .build ty parts=>match FN t parts.toList with
  | some ps=>En P h ty ps
  | none=>none
 | .buildSlice ty len parts=>match FN t parts.toList with
  | some ps=>Bi P h ty len ps
  | none=>none
 | .load ty a=>e1 t a (Fh P h ty)
 | .store ty a x=>e2 t a x (Dd P h ty)
 | .nilCheck x=>e1 t x (JH h)
 | .binOp op ty x y _=>e2 t x y (HZ P h op ty x y)
 | .unOp op _ x=>e1 t x λa=>vl (lA op a) h
 | .convert src dst x=>e1 t x (DE P h src dst)
 | .makeInterface ty x=>e1 t x (I6 P h ty)
 | .makeFunc f first cap=>match TQ t first.toList,TQ t cap.toList with
  | some a,some b=>C1 h f a b
  | _,_=>none
 | .makeMap _ none=>(h.new id (.mp [])).map λh => .val (.mp id) h
 | .makeSlice ty l c=>e2 t l c (Gs P h id ty)
 | .slice ty x lo hi mx=>match eP t lo,eP t hi,eP t mx with
  | some lo,some hi,some mx=>e1 t x λx=>Bq P h ty x lo hi mx
  | _,_,_=>none
 | .fieldAddr s x f=>e1 t x λx=>CG P h s x f
 | .field ty x f=>e1 t x λx=>FQ P h ty x f
 | .indexAddr ty x i=>e2 t x i (B0 P h ty)
 | .index ty x i=>e2 t x i (Eo P h ty)
 | .lookup ty x k ok=>e2 t x k λm k=>HD P h ty m k ok
 | .mapUpdate ty x k v=>e3 t x k v (FY P h ty)
 | .insert ty x k v=>e3 t x k v (FY P h ty)
 | .typeAssert x _ ty ok=>e1 t x λv=>DJ P h ty v ok
 | .extract x i=>e1 t x λx=>EE h x i
 | .panic x=>e1 t x QU
 | .call c=>match TQ t c.args.toList with
  | some args=>match c.callee with
   | .builtin b=>Af P h id b c.argTypes args
   | .value f=>e1 t f λf=>Nc P f args
   | .invoke recv name=>e1 t recv λr=>FP P (.method name) [r] [] args
  | none=>none
 | .defer c=>match TQ t c.args.toList with
  | some args=>match c.callee with
   | .builtin b=>some (.dfr (.bi b c.argTypes o.type args))
   | .value f=>e1 t f λf=>match f with
    | .fn (.func g) a b=>some (.dfr (.call (.fn (.func g) a b) args))
    | _=>none
   | .invoke _ _=>none
  | none=>none
 | _=>none
inductive Out where
 | ret (v:PV)
 | pan (ch:List PE)
inductive Tg where
 | fn (f:FuncId)
 | yl (id:Nat)
def Fr.put (fr:Fr) (dst:Option Nat) (v:PV):Option Fr:=match dst with
 | none=>some fr
 | some d=>bif Nat.blt d fr.nt then some { fr with t:=T.put 20 fr.t d v } else none
abbrev Np:=Tg->Option UM->List PV->Hp->Option (Out×Option UM×Hp)
def Cd (ops:List Oper) (t:T PV):Option (Nat×Bool)->Bool
 | none=>true
 | some (j,want)=>match lget ops j with
  | some o=>match o.dst with
   | some d=>match t.get d with
    | some (.bool b)=>b == want
    | _=>false
   | none=>false
  | none=>false
def B8 (id:Nat) (l:List Nat) (h h':Hp) (r:PV):Option (PV×Hp) :=
 match (match r with
  | .own j 0 len=>(match h'.get j with
   | some (.row es ex false)=>(match By h' es with
    | some (qs,l2)=>bif l2.any (Nat.beq j) then none else some (len,qs,ex)
    | none=>none)
   | _=>none)
  | _=>none) with
 | some (len,qs,ex)=>match (bif DI qs then some h else freeze h l) with
  | some h=>(h.new id (.row qs ex false)).map λh=>(.own id 0 len,h)
  | none=>none
 | none=>match BO h' BI r with
  | some (q,_)=>bif flat q then some (q,h) else (freeze h l).map λh=>(q,h)
  | none=>none
def Cj (sh:FuncId->Bool) (rec:Np) (id:Nat) (f:FuncId) (args:List PV) (h:Hp):Option (Out×Hp) :=
 bif sh f then match rec (.fn f) none args h with
  | some (o,_,h)=>some (o,h)
  | none=>none
 else match By h args with
  | some (as,l)=>match rec (.fn f) none as { m:=.lf,nx:=0 } with
   | some (.ret r,_,h')=>(B8 id l h h' r).map λ(q,h)=>(.ret q,h)
   | some (.pan [{ v:=e,recovered:=rc }],_,h')=>match BO h' BI e with
    | some (e,_)=>bif flat e then some (.pan [{ v:=e,recovered:=rc }],h) else none
    | none=>none
   | _=>none
  | none=>none
def BW (P:Program) (sh:FuncId->Bool) (rec:Np) (base:Nat) (ops:List Oper):List (Nat×Oper)->Fr->Hp->Option (Ex×Fr×Hp)
 | [],fr,h=>some (.normal,fr,h)
 | (i,o)::r,fr,h =>
  bif Cd ops fr.t o.guard then
   match A0 P fr.t h (base+i) o with
   | some (.val v h)=>match fr.put o.dst v with
    | some fr=>BW P sh rec base ops r fr h
    | none=>none
   | some (.skip h)=>match fr.put o.dst (.tup []) with
    | some fr=>BW P sh rec base ops r fr h
    | none=>none
   | some (.dfr d)=>match fr.ro with
    | none=>(match ({ fr with ds:=d::fr.ds }:Fr).put o.dst (.tup []) with
     | some fr=>BW P sh rec base ops r fr h
     | none=>none)
    | some _=>none
   | some (.call f args)=>match Cj sh rec (base+i) f args h with
    | some (.ret v,h)=>(match fr.put o.dst v with
     | some fr=>BW P sh rec base ops r fr h
     | none=>none)
    | some (.pan [{ v:=e,recovered:=false }],h)=>some (.panic e,fr,h)
    | _=>none
   | some (.yield l args)=>match rec (.yl l) none args h with
    | some (.ret v,_,h)=>(match fr.put o.dst v with
     | some fr=>BW P sh rec base ops r fr h
     | none=>none)
    | _=>none
   | some (.pan v)=>some (.panic v,fr,h)
   | some .rcv=>match fr.ro with
    | some _=>none
    | none=>match fr.up with
     | some (.pan ({ v,recovered:=false }::older))=>(match ({ fr with up:=some (.pan ({ v,recovered:=true }::older)) }:Fr).put o.dst v with
      | some fr=>BW P sh rec base ops r fr h
      | none=>none)
     | _=>(match fr.put o.dst .nili with
      | some fr=>BW P sh rec base ops r fr h
      | none=>none)
   | none=>none
  else match fr.put o.dst (.tup []) with
   | some fr=>BW P sh rec base ops r fr h
   | none=>none
def MJ {α:Type}:Nat->List α->List (Nat×α)
 | _,[]=>[]
 | n,a::l=>(n,a)::MJ (n+1) l
def AW:PV->List Nat
 | .own id _ _=>[id]
 | .ptr id _=>[id]
 | .ept id _ _=>[id]
 | .mp id=>[id]
 | _=>[]
def De (t:T PV):List Operand->List Nat
 | []=>[]
 | o::l=>match GI t o with
  | some p=>AW p++De t l
  | none=>De t l
def I7 (t:T PV) (h:Hp):List Operand->List Nat
 | []=>[]
 | o::l=>match GI t o with
  | some p=>match BO h BI p with
   | some (_,m)=>m++I7 t h l
   | none=>I7 t h l
  | none=>I7 t h l
def NC (h:Hp):List Nat->T Blk->T Blk
 | [],m=>m
 | id::l,m=>match h.get id with
  | some b=>bif Nat.blt id (id+1) then NC h l (T.put (id+1) m id b) else NC h l m
  | none=>NC h l m
def Hp.cut (h:Hp) (l:List Nat):Hp:={ m:=NC h l .lf,nx:=h.nx }
def over (h':Hp):List Nat->Hp->Option Hp
 | [],h=>some h
 | id::l,h=>match h'.get id with
  | some b=>match h.set id b with
   | some h=>over h' l h
   | none=>none
  | none=>over h' l h
def CN:Op->List Operand
 | .move x | .assign x | .box _ x | .load _ x | .nilCheck x | .unOp _ _ x | .convert _ _ x | .makeInterface _ x | .fieldAddr _ x _ | .field _ x _ | .typeAssert x _ _ _ | .extract x _ | .panic x=>[x]
 | .pick c a b=>[c,a,b]
 | .build _ parts | .buildSlice _ _ parts=>parts.toList.map (·.2)
 | .store _ a x=>[a,x]
 | .binOp _ _ x y _=>[x,y]
 | .makeFunc _ a b=>a.toList++b.toList
 | .makeSlice _ l c=>[l,c]
 | .slice _ x lo hi mx=>x::(lo.toList++(hi.toList++mx.toList))
 | .indexAddr _ x i | .index _ x i=>[x,i]
 | .lookup _ x k _=>[x,k]
 | .mapUpdate _ x k v | .insert _ x k v=>[x,k,v]
 | .call c=>match c.callee with
  | .builtin _=>c.args.toList
  | .value f=>f::c.args.toList
  | .invoke r _=>r::c.args.toList
 | _=>[]
def LP:PV->List Nat
 | .mp id=>[id]
 | _=>[]
def HE (t:T PV):List Operand->List Nat
 | []=>[]
 | o::l=>match GI t o with
  | some p=>LP p++HE t l
  | none=>HE t l
def B9 (t:T PV) (h:Hp) (o:Op):List Nat:=match o with
 | .buildSlice _ _ _=>I7 t h (CN o)
 | .slice _ x _ _ mx=>bif mx.isSome then I7 t h [x] else De t [x]
 | .load _ _ | .indexAddr _ _ _ | .lookup _ _ _ _ | .store _ _ _ | .mapUpdate _ _ _ _ | .insert _ _ _ _=>De t (CN o)
 | .call c=>match c.callee with
  | .builtin b=>(match b with
   | .len=>HE t c.args.toList
   | _=>De t c.args.toList)
  | _=>[]
 | _=>[]
def Gz (o:Op):Bool:=match o with
 | .buildSlice _ _ _ | .store _ _ _ | .mapUpdate _ _ _ _ | .insert _ _ _ _ | .alloc _ | .box _ _ | .makeMap _ _ | .makeSlice _ _ _=>false
 | .slice _ _ _ _ mx=>mx.isNone
 | .call c=>match c.callee with
  | .builtin b=>match b with
   | .len | .cap | .max | .min=>true
   | _=>false
  | _=>false
 | _=>true
def CA (o:Op):Bool:=match o with
 | .lookup _ _ _ _ | .mapUpdate _ _ _ _ | .insert _ _ _ _ | .defer _ | .panic _=>false
 | .call c=>match c.callee with
  | .builtin b=>match b with
   | .len | .cap | .append | .copy | .max | .min=>true
   | _=>false
  | _=>true
 | _=>true
def YH:Operand->Nat
 | .tmp k=>Nat.pow 2 k
 | _=>0
def IW:List Operand->Nat
 | []=>0
 | o::l=>Nat.lor (YH o) (IW l)
def Kj:Option Nat->Nat
 | some d=>Nat.pow 2 d
 | none=>0
def H9 (ops:List Oper):Option (Nat×Bool)->Nat
 | none=>0
 | some (j,_)=>match lget ops j with
  | some o=>Kj o.dst
  | none=>0
structure Mk where
 rd:Nat
 wr:Nat
 bef:Nat
def Gj (acc:List Mk):List Edge->Nat
 | []=>0
 | e::l=>bif Region.binds .any e then Nat.lor (Nat.lor (Nat.pow 2 e.on) (match lget acc e.on with | some m=>m.bef | none=>0)) (Gj acc l) else Gj acc l
def Kk (m j:Nat):Bool := !Nat.beq (Nat.land m (Nat.pow 2 j)) 0
def ND (a b:Nat):Bool:=Nat.beq (Nat.land a b) 0
def LQ (m:Mk):Nat->List Mk->Bool
 | _,[]=>true
 | j,x::l=>(Kk m.bef j||(ND x.wr (Nat.lor m.rd m.wr)&&ND x.rd m.wr))&&LQ m (j+1) l
def LS (i:Nat):List Edge->Bool
 | []=>true
 | e::l=>(!Region.binds .any e||Nat.blt e.on i)&&LS i l
def Ju (ops:List Oper):Nat->List Oper->List Mk->Option (List Mk)
 | _,[],acc=>some acc
 | i,o::l,acc =>
  let m:Mk:={ rd:=Nat.lor (IW (CN o.op)) (H9 ops o.guard),wr:=Kj o.dst,bef:=Gj acc o.after.toList }
  bif LS i o.after.toList&&LQ m 0 acc then Ju ops (i+1) l (acc++[m]) else none
def GH:List Nat->List Nat->Bool
 | [],_=>false
 | x::l,m=>m.any (Nat.beq x)||GH l m
def Kl (bef:Nat) (rd wr:List Nat):List (Nat×List Nat×List Nat)->Bool
 | []=>true
 | (j,r,w)::l=>(Kk bef j || !(GH w rd||GH wr r))&&Kl bef rd wr l
def Co (h:Hp):List Nat->List Nat
 | []=>[]
 | id::l=>match h.get id with
  | some (.box _ true) | some (.row _ _ true)=>Co h l
  | _=>id::Co h l
def I8:Op->Bool
 | .call c=>match c.callee with
  | .builtin .append=>true
  | _=>false
 | _=>false
def CL (P:Program) (rec:Np) (t:T PV) (h:Hp) (id:Nat) (o:Oper):Option (PV×Hp×List Nat×List Nat) :=
 let rd:=id::B9 t h o.op
 bif !CA o.op || !Nat.blt id (id+1) then none else
 match A0 P t (h.cut rd) id o with
 | some (.val v h1)=>bif Gz o.op then some (v,h,rd,[]) else (over h1 rd h).map λh2=>(v,h2,rd,bif I8 o.op then rd else Co h rd)
 | some (.skip h1)=>bif Gz o.op||I8 o.op then none else (over h1 rd h).map λh2=>(.tup [],h2,rd,Co h rd)
 | some (.call f args)=>match By h args with
  | some (_,l)=>match Cj (λ_=>false) rec id f args (h.cut (id::l)) with
   | some (.ret v,h1)=>bif flat v then some (v,h,rd++l,[]) else (over h1 (id::l) h).map λh2=>(v,h2,rd++l,Co h (id::l))
   | _=>none
  | none=>none
 | _=>none
def BP (P:Program) (rec:Np) (base nt:Nat) (ops:List Oper):Nat->List Oper->List Mk->List (Nat×List Nat×List Nat)->T PV->Hp->Option (T PV×Hp)
 | i,o::l,m::ms,past,t,h=>bif Cd ops t o.guard then
   match CL P rec t h (base+i) o with
   | some (v,h,rd,wr)=>bif Kl m.bef rd wr past then
     match o.dst with
     | some d=>bif Nat.blt d nt then BP P rec base nt ops (i+1) l ms ((i,rd,wr)::past) (T.put 20 t d v) h else none
     | none=>BP P rec base nt ops (i+1) l ms ((i,rd,wr)::past) t h
    else none
   | none=>none
  else match o.dst with
   | some d=>bif Nat.blt d nt then BP P rec base nt ops (i+1) l ms past (T.put 20 t d (.tup [])) h else none
   | none=>BP P rec base nt ops (i+1) l ms past t h
 | _,[],_,_,t,h=>some (t,h)
 | _,_,_,_,_,_=>none
def drawn (P:Program) (rec:Np) (base:Nat) (ops:List Oper) (fr:Fr) (h:Hp):Option (Fr×Hp) :=
 match Ju ops 0 ops [] with
 | some ms=>match BP P rec base fr.nt ops 0 ops ms [] fr.t h with
  | some (t,h)=>some ({ fr with t:=t },h)
  | none=>none
 | none=>none
def exec (P:Program) (sh:FuncId->Bool) (rec:Np):Nat->Code->Fr->Hp->Option (Ex×Fr×Hp)
 | 0,_,_,_=>none
 | n+1,c,fr,h=>match c with
  | .skip | .label _=>some (.normal,fr,h)
  | .seq a b=>match exec P sh rec n a fr h with
   | some (.normal,fr,h)=>exec P sh rec n b fr h
   | r=>r
  | .cond c a b=>match GI fr.t c with
   | some (.bool true)=>exec P sh rec n a fr h
   | some (.bool false)=>exec P sh rec n b fr h
   | _=>none
  | .block id b=>match exec P sh rec n b fr h with
   | some (.exit j,fr,h)=>bif Nat.beq j id then some (.normal,fr,h) else some (.exit j,fr,h)
   | r=>r
  | .loop b=>match exec P sh rec n b fr h with
   | some (.normal,fr,h)=>exec P sh rec n (.loop b) fr h
   | r=>r
  | .scope b=>match exec P sh rec n b fr h with
   | some (.goto _,_,_)=>none
   | r=>r
  | .exit id=>some (.exit id,fr,h)
  | .goto l=>some (.goto l,fr,h)
  | .ret=>some (.ret,fr,h)
  | .refuse _=>none
  | .region _ ops draw=>bif draw then (bif P.follows .mixedOrders || !Region.departs ops then
     (match drawn P rec h.nx ops.toList fr { h with nx:=h.nx+ops.size } with
     | some (fr,h)=>some (.normal,fr,h)
     | none=>none) else none)
    else BW P sh rec h.nx ops.toList (MJ 0 ops.toList) fr { h with nx:=h.nx+ops.size }
  | .rangeFunc g ps asg body=>match GI fr.t g with
   | some (.fn f a b) =>
    let d:=h.nx
    let l:=h.nx+1
    match (match fr.ro with
     | none=>(match h.new d (.df (some [])) with
      | some h=>some (d,[DF.col d],h)
      | none=>none)
     | some l0=>(match h.get l0 with
      | some (.lp _ _ _ _ _ _ _ d0)=>some (d0,[],h)
      | _=>none)) with
    | some (d,mark,h)=>match h.new l (.lp 0 none fr.nt fr.t ps.toList asg body d) with
     | some h=>match FP P f a b [.yl l] with
      | some (.call f args)=>match rec (.fn f) none args { h with nx:=l+1 } with
       | some (.ret _,_,h)=>(match h.get l with
        | some (.lp st pend nt t ps asg body d)=>bif Nat.beq st 1 then none else
         (match h.set l (.lp 3 pend nt t ps asg body d) with
         | some h=>match pend with
          | none=>some (.normal,{ fr with ds:=mark++fr.ds },h)
          | some .ret=>some (.ret,{ fr with ds:=mark++fr.ds },h)
          | some (.exit id)=>some (.exit id,{ fr with ds:=mark++fr.ds },h)
          | some (.goto id)=>some (.goto id,{ fr with ds:=mark++fr.ds },h)
          | _=>none
         | none=>none)
        | _=>none)
       | _=>none
      | _=>none
     | none=>none
    | none=>none
   | _=>none
def EO:Nat->List PV->T PV->T PV
 | _,[],t=>t
 | i,a::l,t=>EO (i+1) l (T.put 20 t i a)
def Ep (nt:Nat):List Nat->List PV->T PV->Option (T PV)
 | [],[],t=>some t
 | p::ps,a::l,t=>bif Nat.blt p nt then Ep nt ps l (T.put 20 t p a) else none
 | _,_,_=>none
def YI (P:Program) (h:Hp) (t:T PV):ResultVar->Option PV
 | .tmp k=>some ((t.get k).getD (.tup []))
 | .cell a ty=>match t.get a with
  | some (.ptr j off)=>match h.get j with
   | some (.box cs _)=>part P ty (cs.drop off)
   | _=>none
  | _=>none
def O4 (P:Program) (h:Hp) (t:T PV):List ResultVar->Option (List PV)
 | []=>some []
 | r::l=>match YI P h t r,O4 P h t l with
  | some p,some ps=>some (p::ps)
  | _,_=>none
def results (P:Program) (fn:Func) (h:Hp) (t:T PV):Option PV:=match O4 P h t fn.results.toList with
 | some [v]=>some v
 | some vs=>some (.tup vs)
 | none=>none
def QV:UM->UM
 | .pan ({ v:=_,recovered:=true }::_) => .ret
 | u=>u
def leave (P:Program) (rec:Np) (fn:Func):Nat->List DF->UM->T PV->Hp->Option (Out×Hp)
 | 0,_,_,_,_=>none
 | n+1,ds,u,t,h=>match ds with
  | []=>match u with
   | .ret=>match results P fn h t with
    | some v=>some (.ret v,h)
    | none=>none
   | .pan ch=>some (.pan ch,h)
  | .col id::ds=>match h.get id with
   | some (.df (some l))=>match h.set id (.df none) with
    | some h=>leave P rec fn n (l++ds) u t h
    | none=>none
   | _=>none
  | .bi b ats _ args::ds=>match b with
   | .clear=>match Af P h 0 .clear ats args with
    | some (.val _ h)=>leave P rec fn n ds u t h
    | _=>none
   | _=>none
  | .call f args::ds=>match f with
   | .fn (.func g) a b=>match FP P (.func g) a b args with
    | some (.call g args)=>match rec (.fn g) (some u) args h with
     | some (.ret _,some u,h)=>leave P rec fn n ds (QV u) t h
     | _=>none
    | _=>none
   | _=>none
def Cp (h:Hp) (l:Nat) (jump:Option Code):Option (Out×Option UM×Hp):=match h.get l with
 | some (.lp _ _ nt t ps asg body d)=>match h.set l (.lp (match jump with | none=>0 | some _=>2) jump nt t ps asg body d) with
  | some h=>some (.ret (.bool jump.isNone),none,h)
  | none=>none
 | _=>none
def EQ (P:Program) (sh:FuncId->Bool) (F:Nat):Nat->Np
 | 0=>λ_ _ _ _=>none
 | n+1=>λtg up args h=>match tg with
  | .fn f=>match P.funcs[f]? with
   | some fn=>match fn.body with
    | some c=>match (bif Nat.ble args.length fn.ntmps&&Nat.blt fn.ntmps 1048575 then exec P sh (EQ P sh F n) F c { t:=EO 0 args .lf,nt:=fn.ntmps,ds:=[],up,ro:=none } h else none) with
     | some (.normal,fr,h) | some (.ret,fr,h)=>(match leave P (EQ P sh F n) fn F fr.ds .ret fr.t h with
      | some (o,h)=>some (o,fr.up,h)
      | none=>none)
     | some (.panic e,fr,h)=>(match leave P (EQ P sh F n) fn F fr.ds (.pan [{ v:=e,recovered:=false }]) fr.t h with
      | some (o,h)=>some (o,fr.up,h)
      | none=>none)
     | _=>none
    | none=>none
   | none=>none
  | .yl l=>match h.get l with
   | some (.lp _ _ nt t ps asg body0 _)=>match Ep nt ps args t with
    | some t=>match exec P sh (EQ P sh F n) F asg { t,nt,ds:=[],up:=none,ro:=some l } h with
     | some (.normal,fr,h)=>(match h.get l with
      | some (.lp 0 pend nt t ps asg body d)=>(match h.set l (.lp 1 pend nt t ps asg body d) with
       | some h=>match exec P sh (EQ P sh F n) F body0 fr h with
        | some (.normal,_,h)=>Cp h l none
        | some (.ret,_,h)=>Cp h l (some .ret)
        | some (.exit id,_,h)=>Cp h l (some (.exit id))
        | some (.goto id,_,h)=>Cp h l (some (.goto id))
        | _=>none
       | none=>none)
      | _=>none)
     | _=>none
    | none=>none
   | _=>none
end Go.Proofs.YthpkjfabdccpdaaGreat.Pi
namespace Go.Proofs.YthpkjfabdccpdaaGreat.Pi
abbrev B5:=Addr->Option Value
structure Bk where
 b:Nat
 base:Nat
 esz:Nat
 cap:Nat
abbrev Mu:=Nat->Option Bk
def mu0:Mu:=λ_=>none
inductive Rep (M:B5):Mu->PV->Value->Prop
 | bool (μ:Mu) (b:Bool):Rep M μ (.bool b) (.bool b)
 | int (μ:Mu) (k:IntKind) (n:Int):Rep M μ (.int k n) (.int k n)
 | str (μ:Mu) (s:ByteArray):Rep M μ (.str s.data.toList) (.string s)
 | nilp (μ:Mu):Rep M μ .nilp (.pointer none)
 | nils (μ:Mu):Rep M μ .nils (.slice none 0 0)
 | nilm (μ:Mu):Rep M μ .nilm (.map none)
 | nilf (μ:Mu):Rep M μ .nilf .nilFunc
 | nili (μ:Mu):Rep M μ .nili .nilIface
 | agg (μ:Mu) (cs:List PV) (vs:Array Value) (hl:cs.length=vs.size)
   (h1 : ∀ (i:Nat) (v:Value),vs[i]? = some v->v.oneCell'=true)
   (h : ∀ (i:Nat) (c:PV) (v:Value),cs[i]? = some c->vs[i]? = some v->Rep M μ c v):Rep M μ (.agg cs) (.agg vs)
 | tup (μ:Mu) (cs:List PV) (vs:Array Value) (hl:cs.length=vs.size)
   (h : ∀ (i:Nat) (c:PV) (v:Value),cs[i]? = some c->vs[i]? = some v->Rep M μ c v):Rep M μ (.tup cs) (.tuple vs)
 | lst0 (μ:Mu) (full:Bool) (a:Addr) (cap:Nat) (hf:full=true->cap=0):Rep M μ (.lst full []) (.slice (some a) 0 cap)
 | lst (μ:Mu) (full:Bool) (es:List PV) (b off esz cap:Nat) (x:Nat->Nat->Value) (hf:full=true->cap=es.length) (hc:es.length<=cap)
   (hs : ∀ (i:Nat) (e:PV),es[i]? = some e->e.cells.length=esz)
   (hm : ∀ (i:Nat) (e:PV) (j:Nat) (c:PV),es[i]? = some e->e.cells[j]? = some c->M ⟨b,off+i*esz+j,none⟩=some (x i j))
   (h1 : ∀ (i:Nat) (e:PV) (j:Nat) (c:PV),es[i]? = some e->e.cells[j]? = some c->(x i j).oneCell'=true)
   (h : ∀ (i:Nat) (e:PV) (j:Nat) (c:PV),es[i]? = some e->e.cells[j]? = some c->Rep M mu0 c (x i j)):Rep M μ (.lst full es) (.slice (some ⟨b,off,none⟩) es.length cap)
 | own (μ:Mu) (id off len:Nat) (r:Bk) (hr:μ id=some r) (hc:off+len<=r.cap):Rep M μ (.own id off len) (.slice (some ⟨r.b,r.base+off*r.esz,none⟩) len (r.cap-off))
 | ptr (μ:Mu) (id off:Nat) (r:Bk) (hr:μ id=some r):Rep M μ (.ptr id off) (.pointer (some ⟨r.b,r.base+off,none⟩))
 | ept (μ:Mu) (id i off:Nat) (r:Bk) (hr:μ id=some r):Rep M μ (.ept id i off) (.pointer (some ⟨r.b,r.base+i*r.esz+off,none⟩))
 | view (μ:Mu) (cs:List PV) (b off:Nat) (x:Nat->Value)
   (hm : ∀ (j:Nat) (c:PV),cs[j]? = some c->M ⟨b,off+j,none⟩=some (x j))
   (h1 : ∀ (j:Nat) (c:PV),cs[j]? = some c->(x j).oneCell'=true)
   (h : ∀ (j:Nat) (c:PV),cs[j]? = some c->Rep M mu0 c (x j)):Rep M μ (.view cs) (.pointer (some ⟨b,off,none⟩))
 | fn (μ:Mu) (f:Fn) (a b:List PV) (va vb:Array Value) (hf : ∀ l,f ≠ .yield l) (hla:a.length=va.size) (hlb:b.length=vb.size)
   (ha : ∀ (i:Nat) (c:PV) (v:Value),a[i]? = some c->va[i]? = some v->Rep M μ c v)
   (hb : ∀ (i:Nat) (c:PV) (v:Value),b[i]? = some c->vb[i]? = some v->Rep M μ c v):Rep M μ (.fn f a b) (.func f va vb)
 | yl (μ:Mu) (id:Nat) (r:Bk) (hr:μ id=some r):Rep M μ (.yl id) (.func (.yield r.b) #[] #[])
 | ifc (μ:Mu) (t:TypeId) (p:PV) (v:Value) (h:Rep M μ p v):Rep M μ (.ifc t p) (.iface t v)
 | mp (μ:Mu) (id:Nat) (r:Bk) (hr:μ id=some r):Rep M μ (.mp id) (.map (some r.b))
theorem Rep.lst0' {M:B5} {μ:Mu} {full:Bool} {a:Option Addr} {cap:Nat} (ha:a≠none) (hf:full=true->cap=0):Rep M μ (.lst full []) (.slice a 0 cap):=by
 cases a with
 | none=>exact absurd rfl ha
 | some a=>exact .lst0 _ _ _ _ hf
def MLe (M M':B5):Prop := ∀ a v,M a=some v->M' a=some v
def MuLe (μ μ':Mu):Prop := ∀ id r,μ id=some r->μ' id=some r
theorem MLe.refl (M:B5):MLe M M:=λ_ _ h=>h
theorem MLe.trans {A B C:B5} (h:MLe A B) (k:MLe B C):MLe A C:=λa v x=>k a v (h a v x)
theorem MuLe.refl (M:Mu):MuLe M M:=λ_ _ h=>h
theorem MuLe.trans {A B C:Mu} (h:MuLe A B) (k:MuLe B C):MuLe A C:=λa v x=>k a v (h a v x)
theorem MuLe.mu0 (μ:Mu):MuLe mu0 μ:=λ_ _ h=>by simp [Pi.mu0] at h
theorem Rep.mono {M M':B5} {μ:Mu} {p:PV} {v:Value} (h:Rep M μ p v) (hM:MLe M M') : ∀ {μ':Mu},MuLe μ μ'->Rep M' μ' p v:=by
 induction h with
 | bool | int | str | nilp | nils | nilm | nilf | nili=>intros;constructor
 | agg μ cs vs hl h1 _ ih=>intro μ' hμ;exact .agg _ _ _ hl h1 λi c v a b=>ih i c v a b hμ
 | tup μ cs vs hl _ ih=>intro μ' hμ;exact .tup _ _ _ hl λi c v a b=>ih i c v a b hμ
 | lst0 μ full a cap hf=>intro μ' _;exact .lst0 _ _ _ _ hf
 | lst μ full es b off esz cap x hf hc hs hm h1 _ ih=>intro μ' _;exact .lst _ _ _ _ _ esz _ x hf hc hs (λi e j c a k=>hM _ _ (hm i e j c a k)) h1 λi e j c a k=>ih i e j c a k (MuLe.refl _)
 | own μ id off len r hr hc=>intro μ' hμ;exact .own _ _ _ _ r (hμ _ _ hr) hc
 | ptr μ id off r hr=>intro μ' hμ;exact .ptr _ _ _ r (hμ _ _ hr)
 | ept μ id i off r hr=>intro μ' hμ;exact .ept _ _ _ _ r (hμ _ _ hr)
 | view μ cs b off x hm h1 _ ih=>intro μ' _;exact .view _ _ _ _ x (λj c a=>hM _ _ (hm j c a)) h1 λj c a=>ih j c a (MuLe.refl _)
 | fn μ f a b va vb hf hla hlb _ _ iha ihb=>intro μ' hμ;exact .fn _ _ _ _ _ _ hf hla hlb (λi c v x y=>iha i c v x y hμ) (λi c v x y=>ihb i c v x y hμ)
 | yl μ id r hr=>intro μ' hμ;exact .yl _ _ r (hμ _ _ hr)
 | ifc μ t p v _ ih=>intro μ' hμ;exact .ifc _ _ _ _ (ih hμ)
 | mp μ id r hr=>intro μ' hμ;exact .mp _ _ r (hμ _ _ hr)
def RepL (M:B5) (μ:Mu) (ps:List PV) (vs:List Value):Prop :=
 ps.length=vs.length /\ ∀ (i:Nat) (p:PV) (v:Value),ps[i]? = some p->vs[i]? = some v->Rep M μ p v
theorem RepL.nil (M:B5) (μ:Mu):RepL M μ [] []:=⟨rfl,λi p v h=>by simp at h⟩
theorem RepL.cons {M:B5} {μ:Mu} {p:PV} {v:Value} {ps:List PV} {vs:List Value} (h:Rep M μ p v) (t:RepL M μ ps vs):RepL M μ (p::ps) (v::vs):=by
 refine ⟨by simp [t.1],λi q x hq hx => ?_⟩;cases i with
 | zero=>simp at hq hx;subst hq;subst hx;exact h
 | succ i=>simp at hq hx;exact t.2 i q x hq hx
theorem RepL.mono {M M':B5} {μ μ':Mu} {ps:List PV} {vs:List Value} (h:RepL M μ ps vs) (hM:MLe M M') (hμ:MuLe μ μ'):RepL M' μ' ps vs :=
 ⟨h.1,λi p v a b=>(h.2 i p v a b).mono hM hμ⟩
theorem RepL.append {M:B5} {μ:Mu} {ps qs:List PV} {vs ws:List Value} (h:RepL M μ ps vs) (k:RepL M μ qs ws):RepL M μ (ps++qs) (vs++ws):=by
 refine ⟨by simp [h.1,k.1],λi p v hp hv => ?_⟩;rw [List.getElem?_append] at hp hv;by_cases hi:i<ps.length
 ·rw [if_pos hi] at hp;rw [if_pos (h.1 ▸ hi)] at hv;exact h.2 i p v hp hv
 ·rw [if_neg hi] at hp;rw [if_neg (h.1 ▸ hi)] at hv;rw [<- h.1] at hv;exact k.2 _ p v hp hv
theorem RepL.get {M:B5} {μ:Mu} {ps:List PV} {vs:List Value} (h:RepL M μ ps vs) {i:Nat} {p:PV} (hp:ps[i]? = some p) : ∃ v,vs[i]? = some v/\Rep M μ p v:=by
 have hi:i<vs.length:=by rw [<- h.1];exact (List.getElem?_eq_some_iff.1 hp).1
 exact ⟨vs[i],List.getElem?_eq_getElem hi,h.2 i p _ hp (List.getElem?_eq_getElem hi)⟩
theorem RepL.cons_inv {M:B5} {μ:Mu} {p:PV} {ps:List PV} {vs:List Value} (h:RepL M μ (p::ps) vs) : ∃ v ws,vs=v::ws/\Rep M μ p v/\RepL M μ ps ws:=by
 cases vs with
 | nil=>exact absurd h.1 (by simp)
 | cons v ws=>exact ⟨v,ws,rfl,h.2 0 p v rfl rfl,by simpa using h.1,λi q x hq hx=>h.2 (i+1) q x (by simpa using hq) (by simpa using hx)⟩
theorem RepL.nil_inv {M:B5} {μ:Mu} {vs:List Value} (h:RepL M μ [] vs):vs=[]:=by
 cases vs with
 | nil=>rfl
 | cons v ws=>exact absurd h.1 (by simp)
theorem RepL.drop {M:B5} {μ:Mu} {ps:List PV} {vs:List Value} (h:RepL M μ ps vs) (n:Nat):RepL M μ (ps.drop n) (vs.drop n) :=
 ⟨by simp [h.1],λi p v hp hv=>h.2 (n+i) p v (by simpa using hp) (by simpa using hv)⟩
theorem RepL.take {M:B5} {μ:Mu} {ps:List PV} {vs:List Value} (h:RepL M μ ps vs) (n:Nat):RepL M μ (ps.take n) (vs.take n):=by
 refine ⟨by simp [h.1],λi p v hp hv => ?_⟩;rw [List.getElem?_take] at hp hv;by_cases hi:i<n
 ·rw [if_pos hi] at hp hv;exact h.2 i p v hp hv
 ·rw [if_neg hi] at hp;cases hp
theorem Rep.cells {M:B5} {μ:Mu} {p:PV} {v:Value} (h:Rep M μ p v) (hp : ∀ cs,p ≠ .tup cs) :
  RepL M μ p.cells v.cells.toList /\ ∀ (i:Nat) (x:Value),v.cells[i]? = some x->x.oneCell'=true:=by
 have one : ∀ (q:PV) (x:Value),Rep M μ q x->x.oneCell'=true->q.cells=[q]->x.cells = #[x]->RepL M μ q.cells x.cells.toList /\ ∀ (i:Nat) (y:Value),x.cells[i]? = some y->y.oneCell'=true:=by
  intro q x hq h1 hc hv;rw [hc,hv];refine ⟨RepL.cons hq (RepL.nil _ _),λi y hy => ?_⟩;cases i with
  | zero=>simp at hy;exact hy ▸ h1
  | succ i=>simp at hy
 cases h with
 | agg _ cs vs hl h1 h=>exact ⟨⟨by simpa [PV.cells,Value.cells] using hl,λi c x hc hx=>h i c x hc (by simpa [Value.cells] using hx)⟩,λi x hx=>h1 i x hx⟩
 | tup _ cs vs hl h=>exact absurd rfl (hp cs)
 | lst0 _ full a cap hf=>exact one _ _ (.lst0 _ _ _ _ hf) rfl rfl rfl
 | lst _ full es b off esz cap x hf hc hs hm h1 h=>exact one _ _ (.lst _ _ _ _ _ esz _ x hf hc hs hm h1 h) rfl rfl rfl
 | own _ id off len r hr hc=>exact one _ _ (.own _ _ _ _ r hr hc) rfl rfl rfl
 | ptr _ id off r hr=>exact one _ _ (.ptr _ _ _ r hr) rfl rfl rfl
 | ept _ id i off r hr=>exact one _ _ (.ept _ _ _ _ r hr) rfl rfl rfl
 | view _ cs b off x hm h1 h=>exact one _ _ (.view _ _ _ _ x hm h1 h) rfl rfl rfl
 | fn _ f a b va vb hf hla hlb ha hb=>exact one _ _ (.fn _ _ _ _ _ _ hf hla hlb ha hb) rfl rfl rfl
 | yl _ id r hr=>exact one _ _ (.yl _ _ r hr) rfl rfl rfl
 | ifc _ t p v h=>exact one _ _ (.ifc _ _ _ _ h) rfl rfl rfl
 | mp _ id r hr=>exact one _ _ (.mp _ _ r hr) rfl rfl rfl
 | bool _ b=>exact one _ _ (.bool _ b) rfl rfl rfl
 | int _ k n=>exact one _ _ (.int _ k n) rfl rfl rfl
 | str _ s=>exact one _ _ (.str _ s) rfl rfl rfl
 | nilp _=>exact one _ _ (.nilp _) rfl rfl rfl
 | nils _=>exact one _ _ (.nils _) rfl rfl rfl
 | nilm _=>exact one _ _ (.nilm _) rfl rfl rfl
 | nilf _=>exact one _ _ (.nilf _) rfl rfl rfl
 | nili _=>exact one _ _ (.nili _) rfl rfl rfl
section tables
variable {P:Program}
theorem Bn {t:TypeId} {n:Nat} (h:BV P t=some n) (w:World):(sizeOf t).run P w = .ok n w:=by
 unfold BV at h;cases hi:P.info? t with
 | none=>rw [hi] at h;cases h
 | some i=>rw [hi] at h;simp at h;simp [sizeOf,typeInfo,hi,h]
theorem Nd {t:TypeId} {b:Bool} (h:Re P t=some b) (w:World):(isAgg t).run P w = .ok b w:=by
 unfold Re at h;split at h<;>simp_all [isAgg,underlying]<;>(subst h;split<;>simp_all)
theorem Ab {t:TypeId} {d:TypeDesc} (h:P.underlying t=some d) (w:World):(underlying t).run P w = .ok d w:=by
 simp [underlying,h]
theorem Jv {t:TypeId} {d:TypeInfo} (h:P.info? t=some d) (w:World):(typeInfo t).run P w = .ok d w:=by
 simp [typeInfo,h]
theorem MK {v : Value} {p : PV} (h : Gr v = some p) (M : B5) (μ : Mu) : Rep M μ p v /\ v.oneCell' = true /\ (∀ cs, p ≠ .tup cs) := by
  unfold Gr at h
  split at h <;> first
    | (cases h; exact ⟨by constructor, rfl, by intro cs hc; cases hc⟩)
    | (split at h
       · rename_i hc
         cases h;simp at hc;obtain ⟨rfl, rfl⟩ := hc;exact ⟨.fn _ _ [] [] #[] #[] (by intro l hl; cases hl) rfl rfl (fun i c v h => by simp at h) (fun i c v h => by simp at h), rfl, by intro cs hc; cases hc⟩
       · cases h)
    | cases h
theorem Km : ∀ {vs:List Value} {ps:List PV},cellsOf vs=some ps -> ∀ (M:B5) (μ:Mu),RepL M μ ps vs /\ ∀ v∈vs,v.oneCell'=true
 | [],ps,h,M,μ=>by cases h;exact ⟨RepL.nil _ _,by simp⟩
 | v::vs,ps,h,M,μ=>by
  unfold cellsOf at h;split at h
  ·rename_i p q hp hq;cases h;have h1:=MK hp M μ;have h2:=Km hq M μ;refine ⟨RepL.cons h1.1 h2.1,?_⟩;intro x hx;rcases List.mem_cons.1 hx with rfl | hx
   ·exact h1.2.1
   ·exact h2.2 x hx
  ·cases h
theorem Rg {v:Value} {p:PV} (h:H6 v=some p) (M:B5) (μ:Mu):Rep M μ p v:=by
 unfold H6 at h;split at h
 ·rename_i cs;cases hc:cellsOf cs.toList with
  | none=>rw [hc] at h;cases h
  | some ps =>
   rw [hc] at h;cases h;have:=Km hc M μ;refine .agg _ _ _ (by simpa using this.1.1) (λi v hv=>this.2 v ?_) (λi c v hc hv=>this.1.2 i c v hc (by simpa using hv));exact Array.mem_toList_iff.2 (Array.mem_of_getElem? hv)
 ·rename_i vs;cases he:vs.isEmpty with
  | false=>rw [he] at h;cases h
  | true=>rw [he] at h;cases h;simp at he;subst he;exact .tup _ _ _ rfl (λi c v h=>by simp at h)
 ·rename_i t v;split at h
  ·rename_i p hp;cases h;exact .ifc _ _ _ _ (MK hp M μ).1
  ·cases h
 ·exact (MK h M μ).1
theorem Er {t:TypeId} {cs:List PV} (h:zeroCells P t=some cs) (M:B5) (μ:Mu) (w:World) :
  ∃ z i,P.info? t=some i/\i.zero=some z/\(zeroValue t).run P w = .ok z w/\RepL M μ cs z.cells.toList /\ ∀ v∈z.cells.toList,v.oneCell'=true:=by
 unfold zeroCells at h;split at h
 ·rename_i i hi;split at h
  ·rename_i z hz;have:=Km h M μ;exact ⟨z,i,hi,hz,by simp [zeroValue,typeInfo,hi,hz],this⟩
  ·cases h
 ·cases h
theorem Jw {t:TypeId} {cs:List PV} {p:PV} (h:Pi.part P t cs=some p) {M:B5} {μ:Mu} {vs:Array Value} {off:Nat}
  (hl:RepL M μ cs (vs.toList.drop off)) (h1 : ∀ (i:Nat) (v:Value),vs[i]? = some v->v.oneCell'=true) (w:World) :
  ∃ v,(Go.part t vs off).run P w = .ok v w/\Rep M μ p v/\(∀ cs,p ≠ .tup cs\/True):=by
 unfold Pi.part at h;split at h
 ·rename_i n hag hsz;cases hb:Nat.ble n cs.length with
  | false=>rw [hb] at h;cases h
  | true =>
   rw [hb] at h;cases h;have hn:n<=cs.length:=Nat.le_of_ble_eq_true hb;refine ⟨.agg (vs.extract off (off+n)),?_,?_,λ_ => .inr trivial⟩
   ·simp [Go.part,Nd hag,Bn hsz]
   ·have hlen:cs.length=vs.size-off:=by simpa using hl.1
    refine .agg _ _ _ (by simp;omega) (λi v hv => ?_) (λi c v hc hv => ?_)
    ·rw [Array.getElem?_extract] at hv;split at hv
     ·exact h1 _ v hv
     ·cases hv
    ·rw [Array.getElem?_extract] at hv;rw [List.getElem?_take] at hc;split at hv
     ·split at hc
      ·exact hl.2 i c v hc (by simpa using hv)
      ·cases hc
     ·cases hv
 ·rename_i n hag hsz;split at h
  ·rename_i c cs';cases h;obtain ⟨v,hv,hr⟩:=hl.get (i:=0) (p:=p) rfl;have hv':vs[off]? = some v:=by simpa using hv
   exact ⟨v,by simp [Go.part,Nd hag,hv'],hr,λ_ => .inr trivial⟩
  ·cases h
 ·cases h
end tables
end Go.Proofs.YthpkjfabdccpdaaGreat.Pi
namespace Go.Proofs.YthpkjfabdccpdaaGreat.Pi
theorem KY {a b:Nat} (h:a≠b):Nat.beq a b=false:=by
 cases e:Nat.beq a b with
 | false=>rfl
 | true=>exact absurd (Nat.eq_of_beq_eq_true e) h
theorem gZ {a b:Nat} (h:a=b):Nat.beq a b=true:=by subst h;simp
theorem T.get_put {α:Type} : ∀ (n:Nat) (t:T α) (k:Nat) (v:α) (k':Nat),k<2 ^ n-1->(T.put n t k v).get k'=if k'=k then some v else t.get k'
 | 0,t,k,v,k',h=>by simp at h
 | n+1,t,k,v,k',h=>by
  have hp:2 ^ (n+1)=2*2 ^ n:=by rw [Nat.pow_succ,Nat.mul_comm]
  have key : ∀ (l:T α) (x:Option α) (r:T α),((bif Nat.beq k 0 then T.nd l (some v) r else bif Nat.beq (k % 2) 1 then .nd (T.put n l (k / 2) v) x r else .nd l x (T.put n r (k / 2-1) v)):T α).get k'=if k'=k then some v else (T.nd l x r).get k':=by
   intro l x r;by_cases h0:k=0
   ·subst h0;simp only [show Nat.beq 0 0=true from rfl,cond_true,T.get];by_cases hk:k'=0
    ·subst hk;simp
    ·have:Nat.beq k' 0=false:=KY hk;simp [this,hk]
   ·have e0:Nat.beq k 0=false:=KY h0;by_cases h1:k % 2=1
    ·have e1:Nat.beq (k % 2) 1=true:=by simpa using h1
     simp only [e0,e1,cond_true,cond_false,T.get];by_cases hk:k'=0
     ·subst hk;simp [Ne.symm h0]
     ·have e2:Nat.beq k' 0=false:=KY hk;simp only [e2,cond_false];by_cases hk1:k' % 2=1
      ·have e3:Nat.beq (k' % 2) 1=true:=by simpa using hk1
       simp only [e3,cond_true];rw [T.get_put n l (k / 2) v (k' / 2) (by omega)];by_cases hkk:k'=k
       ·subst hkk;simp
       ·rw [if_neg (by omega),if_neg hkk]
      ·have e3:Nat.beq (k' % 2) 1=false:=KY hk1;simp only [e3,cond_false];rw [if_neg (by omega)]
    ·have e1:Nat.beq (k % 2) 1=false:=KY h1;simp only [e0,e1,cond_false,T.get];by_cases hk:k'=0
     ·subst hk;simp [Ne.symm h0]
     ·have e2:Nat.beq k' 0=false:=KY hk;simp only [e2,cond_false];by_cases hk1:k' % 2=1
      ·have e3:Nat.beq (k' % 2) 1=true:=by simpa using hk1
       simp only [e3,cond_true];rw [if_neg (by omega)]
      ·have e3:Nat.beq (k' % 2) 1=false:=KY hk1;simp only [e3,cond_false];rw [T.get_put n r (k / 2-1) v (k' / 2-1) (by omega)];by_cases hkk:k'=k
       ·subst hkk;simp
       ·rw [if_neg (by omega),if_neg hkk]
  cases t with
  | lf =>
   have:=key .lf none .lf;simp only [T.put];rw [this]
   have hl:(T.nd (T.lf:T α) none T.lf).get k'=(T.lf:T α).get k':=by
    simp only [T.get];cases Nat.beq k' 0<;>cases Nat.beq (k' % 2) 1<;>rfl
   rw [hl]
  | nd l x r=>exact key l x r
theorem YJ (k:Nat):k<2 ^ (k+1)-1:=by
 have := @Nat.lt_two_pow_self k;rw [Nat.pow_succ];omega
theorem Hp.get_set {h h':Hp} {id:Nat} {b:Blk} (e:h.set id b=some h'):(∀ k,h'.get k=if k=id then some b else h.get k)/\h'.nx=h.nx:=by
 unfold Hp.set at e;cases hb:Nat.blt id (id+1) with
 | false=>rw [hb] at e;cases e
 | true =>
  rw [hb] at e;simp at e;subst e;refine ⟨λk => ?_,rfl⟩;simp only [Hp.get];exact T.get_put (id+1) h.m id b k (YJ id)
theorem Hp.get_new {h h':Hp} {id:Nat} {b:Blk} (e:h.new id b=some h'):h.get id=none/\(∀ k,h'.get k=if k=id then some b else h.get k)/\h'.nx=h.nx:=by
 unfold Hp.new at e;split at e
 ·rename_i hn;exact ⟨hn,Hp.get_set e⟩
 ·cases e
def Blk.live:Blk->Prop
 | .dead=>False
 | _=>True
def DefRep (M:B5) (μ:Mu):DF->Deferred->Prop
 | .call f args,d => ∃ (fv:Fn) (first:List PV) (cap:List PV) (vf vc va:List Value),f = .fn fv first cap/\(∀ l,fv ≠ .yield l)/\d.target = .fn fv vc.toArray/\d.args=(vf++va).toArray/\RepL M μ first vf/\RepL M μ cap vc/\RepL M μ args va
 | .bi b ats ty args,d => ∃ (cs:Array Bool) (va:List Value),d.target = .builtin b ats ty cs/\d.args=va.toArray/\RepL M μ args va
 | .col id,d => ∃ r,μ id=some r/\d.target = .collected r.b/\d.args = #[]
def DefsRep (M:B5) (μ:Mu):List DF->List Deferred->Prop
 | [],[]=>True
 | a::l,b::m=>DefRep M μ a b/\DefsRep M μ l m
 | _,_=>False
def TmpsRep (M:B5) (μ:Mu) (t:T PV) (nt:Nat) (tmps:Array Value):Prop :=
 nt<1048575/\tmps.size=nt /\ ∀ k,Rep M μ ((t.get k).getD (.tup [])) (tmps.getD k undef)
def lH:Nat->LoopState
 | 0 => .ready
 | 1 => .busy
 | 2 => .done
 | _ => .exhausted
def BlkAt (M:B5) (μ:Mu) (r:Bk) (o:Option Obj):Blk->Prop
 | .box cs _=>r.base=0 /\ ∃ (arr:Array Value) (ty:TypeId),o=some (.cells arr ty (0,0))/\arr.size=cs.length/\(∀ (i:Nat) (v:Value),arr[i]? = some v->v.oneCell'=true) /\ ∀ (i:Nat) (c:PV) (v:Value),cs[i]? = some c->arr[i]? = some v->Rep M μ c v
 | .row es ex _ => ∃ (arr:Array Value) (ty:TypeId),o=some (.cells arr ty (0,0))/\r.base+r.cap*r.esz<=arr.size/\es.length<=r.cap/\(ex=true->es.length=r.cap)/\0<r.esz/\(∀ (i:Nat) (e:PV),es[i]? = some e->e.cells.length=r.esz) /\ ∀ (i:Nat) (e:PV) (j:Nat) (c:PV) (v:Value),es[i]? = some e->e.cells[j]? = some c->arr[r.base+i*r.esz+j]? = some v->v.oneCell'=true/\Rep M μ c v
 | .mp es => ∃ (ents:Array MapEntry) (clock:Nat),o=some (.map ents clock)/\ents.size=es.length /\ ∀ (i:Nat) (k v:PV) (e:MapEntry),es[i]? = some (k,v)->ents[i]? = some e->Rep M μ k e.key/\Rep M μ v e.val
 | .lp st pend nt t ps asg body d => ∃ (l:Loop) (rd:Bk),o=some (.loop l)/\l.state=lH st/\st<4/\l.pending=pend/\TmpsRep M μ t nt l.tmps/\l.params=ps.toArray/\l.assign=asg/\l.body=body/\μ d=some rd/\l.defers=rd.b
 | .df ds => ∃ dd:Option (List Deferred),o=some (.deferred dd)/\(match ds,dd with
  | none,none=>True
  | some a,some b=>DefsRep M μ a b
  | _,_=>False)
 | .dead=>True
def Rh (r:Bk) (a:Addr):Blk->Prop
 | .box _ fz=>fz=true
 | .row es _ fz=>fz=true/\a.off<r.base+es.length*r.esz
 | _=>True
theorem DefRep.mono {M M':B5} {μ μ':Mu} (hM:MLe M M') (hμ:MuLe μ μ') : ∀ {a:DF} {d:Deferred},DefRep M μ a d->DefRep M' μ' a d
 | .call _ _,_,⟨fv,a,b,x,y,z,h1,h2,h3,h4,h5,h6,h7⟩=>⟨fv,a,b,x,y,z,h1,h2,h3,h4,h5.mono hM hμ,h6.mono hM hμ,h7.mono hM hμ⟩
 | .bi _ _ _ _,_,⟨cs,va,h1,h2,h3⟩=>⟨cs,va,h1,h2,h3.mono hM hμ⟩
 | .col _,_,⟨r,h1,h2,h3⟩=>⟨r,hμ _ _ h1,h2,h3⟩
theorem DefsRep.mono {M M':B5} {μ μ':Mu} (hM:MLe M M') (hμ:MuLe μ μ') : ∀ {a:List DF} {d:List Deferred},DefsRep M μ a d->DefsRep M' μ' a d
 | [],[],_=>trivial
 | _::_,_::_,⟨h,k⟩=>⟨h.mono hM hμ,DefsRep.mono hM hμ k⟩
theorem TmpsRep.mono {M M':B5} {μ μ':Mu} (hM:MLe M M') (hμ:MuLe μ μ') {t:T PV} {n:Nat} {a:Array Value} (h:TmpsRep M μ t n a):TmpsRep M' μ' t n a :=
 ⟨h.1,h.2.1,λk=>(h.2.2 k).mono hM hμ⟩
theorem BlkAt.mono {M M':B5} {μ μ':Mu} (hM:MLe M M') (hμ:MuLe μ μ') {r:Bk} {o:Option Obj} : ∀ {b:Blk},BlkAt M μ r o b->BlkAt M' μ' r o b
 | .box _ _,⟨h0,arr,ty,h1,h2,h3,h4⟩=>⟨h0,arr,ty,h1,h2,h3,λi c v a b=>(h4 i c v a b).mono hM hμ⟩
 | .row _ _ _,⟨arr,ty,h1,h2,h3,h4,h5,h6,h7⟩=>⟨arr,ty,h1,h2,h3,h4,h5,h6,λi e j c v x y z=>⟨(h7 i e j c v x y z).1,(h7 i e j c v x y z).2.mono hM hμ⟩⟩
 | .mp _,⟨ents,clock,h1,h2,h3⟩=>⟨ents,clock,h1,h2,λi k v e x y=>⟨(h3 i k v e x y).1.mono hM hμ,(h3 i k v e x y).2.mono hM hμ⟩⟩
 | .lp _ _ _ _ _ _ _ _,⟨l,rd,h1,h2,h2',h3,h4,h5,h6,h7,h8,h9⟩=>⟨l,rd,h1,h2,h2',h3,h4.mono hM hμ,h5,h6,h7,hμ _ _ h8,h9⟩
 | .df ds,⟨dd,h1,h2⟩=>⟨dd,h1,by
   cases ds<;>cases dd<;>first | trivial | exact h2.elim | exact DefsRep.mono hM hμ h2⟩
 | .dead,_=>trivial
structure Sim (M:B5) (μ:Mu) (h:Hp) (w:World):Prop where
 mem : ∀ (a:Addr) (v:Value),M a=some v->a.spot=none/\w.cell? a=some v
 blk : ∀ (id:Nat) (b:Blk),h.get id=some b -> ∃ r,μ id=some r/\BlkAt M μ r w.heap[r.b]? b
 use : ∀ (id:Nat) (r:Bk),μ id=some r->h.get id≠none/\r.b<w.heap.size
 inj : ∀ (id id':Nat) (r r':Bk) (b b':Blk),μ id=some r->μ id'=some r'->h.get id=some b->h.get id'=some b'->b.live->b'.live->r.b=r'.b->id=id'
 sep : ∀ (id:Nat) (r:Bk) (b:Blk) (a:Addr) (v:Value),h.get id=some b->μ id=some r->b.live->M a=some v->a.block=r.b->Rh r a b
structure Grow (M:B5) (μ:Mu) (w:World) (M':B5) (μ':Mu) (w':World):Prop where
 m:MLe M M'
 u:MuLe μ μ'
 only : ∀ (a:Addr) (v:Value),M' a=some v->M a=some v\/(∃ id r,μ id=some r/\r.b=a.block)\/w.heap.size<=a.block
 fresh : ∀ (id:Nat) (r:Bk),μ' id=some r->(∃ id0 r0,μ id0=some r0/\r0.b=r.b)\/w.heap.size<=r.b
 size:w.heap.size<=w'.heap.size
 keep : ∀ b,b<w.heap.size->(∀ id r,μ id=some r->r.b≠b)->w'.heap[b]? = w.heap[b]?
 os:w'.os=w.os
 output:w'.output=w.output
 tape:w'.tape=w.tape
 nf : ∀ (b:Nat) (arr:Array Value) (ty:TypeId) (f:Nat×Nat),w'.heap[b]? = some (.cells arr ty f)->f=(0,0) \/ ∃ arr0,w.heap[b]? = some (.cells arr0 ty f)
theorem Grow.refl (M:B5) (μ:Mu) (w:World):Grow M μ w M μ w :=
 ⟨.refl _,.refl _,λ_ _ h => .inl h,λid r h => .inl ⟨id,r,h,rfl⟩,Nat.le_refl _,λ_ _ _=>rfl,rfl,rfl,rfl,λ_ arr _ _ h => .inr ⟨arr,h⟩⟩
theorem Grow.trans {M M1 M2:B5} {μ μ1 μ2:Mu} {w w1 w2:World} (h:Grow M μ w M1 μ1 w1) (k:Grow M1 μ1 w1 M2 μ2 w2):Grow M μ w M2 μ2 w2 where
 m:=h.m.trans k.m
 u:=h.u.trans k.u
 only a v hv:=by
  rcases k.only a v hv with h1 | ⟨id0,r0,h0,e0⟩ | hl
  ·exact h.only a v h1
  ·rcases h.fresh id0 r0 h0 with ⟨id1,r1,h1,e1⟩ | hl
   ·exact .inr (.inl ⟨id1,r1,h1,e1.trans e0⟩)
   ·exact .inr (.inr (e0 ▸ hl))
  ·exact .inr (.inr (Nat.le_trans h.size hl))
 fresh id r hr:=by
  rcases k.fresh id r hr with ⟨id0,r0,h0,e0⟩ | hl
  ·rcases h.fresh id0 r0 h0 with ⟨id1,r1,h1,e1⟩ | hl
   ·exact .inl ⟨id1,r1,h1,e1.trans e0⟩
   ·exact .inr (e0 ▸ hl)
  ·exact .inr (Nat.le_trans h.size hl)
 size:=Nat.le_trans h.size k.size
 keep b hb hn:=by
  rw [k.keep b (Nat.lt_of_lt_of_le hb h.size) ?_,h.keep b hb hn];intro id r hr e;rcases h.fresh id r hr with ⟨id0,r0,h0,e0⟩ | hl
  ·exact hn id0 r0 h0 (e0.trans e)
  ·omega
 os:=k.os.trans h.os
 output:=k.output.trans h.output
 tape:=k.tape.trans h.tape
 nf b arr ty f hb:=by
  rcases k.nf b arr ty f hb with e | ⟨arr0,h0⟩
  ·exact .inl e
  ·exact h.nf b arr0 ty f h0
theorem Sim.drawn {M:B5} {μ:Mu} {h:Hp} {w w':World} (s:Sim M μ h w) (e:w'.heap=w.heap):Sim M μ h w' where
 mem a v hm:=by
  have:=s.mem a v hm;refine ⟨this.1,?_⟩;rw [<- this.2];simp only [World.cell?,e]
 blk id b hb:=by rw [e];exact s.blk id b hb
 use id r hr:=by rw [e];exact s.use id r hr
 inj:=s.inj
 sep:=s.sep
theorem Grow.drawn {M:B5} {μ:Mu} {w w':World} (e:w'.heap=w.heap) (e1:w'.os=w.os) (e2:w'.output=w.output) (e3:w'.tape=w.tape):Grow M μ w M μ w' :=
 ⟨.refl _,.refl _,λ_ _ h => .inl h,λid r h => .inl ⟨id,r,h,rfl⟩,by rw [e];exact Nat.le_refl _,λ_ _ _=>by rw [e],e1,e2,e3,λ_ arr _ _ h => .inr ⟨arr,by rw [<- e];exact h⟩⟩
theorem Sim.nx {M:B5} {μ:Mu} {h h':Hp} {w:World} (s:Sim M μ h w) (e : ∀ k,h'.get k=h.get k):Sim M μ h' w where
 mem:=s.mem
 blk id b hb:=s.blk id b (by rw [<- e];exact hb)
 use id r hr:=by rw [e];exact s.use id r hr
 inj id id' r r' b b' a1 a2 a3 a4 a5 a6 a7:=s.inj id id' r r' b b' a1 a2 (by rw [<- e];exact a3) (by rw [<- e];exact a4) a5 a6 a7
 sep id r b a v a1 a2 a3 a4 a5:=s.sep id r b a v (by rw [<- e];exact a1) a2 a3 a4 a5
theorem cell?_eq {w:World} {a:Addr} {arr:Array Value} {ty:TypeId} {f:Nat×Nat} (h:w.heap[a.block]? = some (.cells arr ty f)) (hs:a.spot=none):w.cell? a=arr[a.off]? := by
 simp [World.cell?,h,hs]
theorem cell?_congr {w w':World} {a:Addr} (h:w'.heap[a.block]? = w.heap[a.block]?):w'.cell? a=w.cell? a:=by
 simp only [World.cell?,h]
theorem Sim.mem_lt {M:B5} {μ:Mu} {h:Hp} {w:World} (s:Sim M μ h w) {a:Addr} {v:Value} (hm:M a=some v):a.block<w.heap.size :=
 block_lt_of_cell (s.mem a v hm).2
theorem Sim.update {M:B5} {μ:Mu} {h h':Hp} {w w':World} {id:Nat} {b b':Blk} {r:Bk} (s:Sim M μ h w)
  (hb:h.get id=some b) (hr:μ id=some r) (hlive:b.live)
  (he : ∀ k,h'.get k=if k=id then some b' else h.get k)
  (hw : ∀ k,k≠r.b->w'.heap[k]? = w.heap[k]?) (hsz:w'.heap.size=w.heap.size)
  (hat:BlkAt M μ r w'.heap[r.b]? b')
  (hmem : ∀ (a:Addr) (v:Value),M a=some v->a.block=r.b->w'.cell? a=some v/\Rh r a b'):Sim M μ h' w' where
 mem a v hm:=by
  have h1:=s.mem a v hm;by_cases e:a.block=r.b
  ·exact ⟨h1.1,(hmem a v hm e).1⟩
  ·exact ⟨h1.1,by rw [cell?_congr (hw _ e)];exact h1.2⟩
 blk k bk hk:=by
  rw [he] at hk;by_cases e:k=id
  ·rw [if_pos e] at hk;cases hk;subst e;exact ⟨r,hr,hat⟩
  ·rw [if_neg e] at hk;obtain ⟨rk,hrk,hatk⟩:=s.blk k bk hk;refine ⟨rk,hrk,?_⟩;by_cases hd:bk.live
   ·rw [hw rk.b λe2=>e (s.inj k id rk r bk b hrk hr hk hb hd hlive e2)];exact hatk
   ·cases bk<;>first | exact absurd trivial hd | trivial
 use k rk hk:=by
  have:=s.use k rk hk;refine ⟨?_,by rw [hsz];exact this.2⟩;rw [he];split<;>simp_all
 inj k k' rk rk' bk bk' a1 a2 a3 a4 a5 a6 a7:=by
  rw [he] at a3 a4;by_cases e:k=id
  ·by_cases e':k'=id
   ·exact e.trans e'.symm
   ·rw [if_neg e'] at a4;subst e;exact s.inj _ _ rk rk' b bk' a1 a2 hb a4 hlive a6 a7
  ·rw [if_neg e] at a3;by_cases e':k'=id
   ·subst e';exact s.inj _ _ rk rk' bk b a1 a2 a3 hb a5 hlive a7
   ·rw [if_neg e'] at a4;exact s.inj _ _ rk rk' bk bk' a1 a2 a3 a4 a5 a6 a7
 sep k rk bk a v a1 a2 a3 a4 a5:=by
  rw [he] at a1;by_cases e:k=id
  ·rw [if_pos e] at a1;cases a1;subst e;obtain rfl:r=rk:=by rw [hr] at a2;exact Option.some.inj a2
   exact (hmem a v a4 a5).2
  ·rw [if_neg e] at a1;exact s.sep k rk bk a v a1 a2 a3 a4 a5
theorem Grow.update {M:B5} {μ:Mu} {w w':World} {id:Nat} {r:Bk} (hr:μ id=some r)
  (hw : ∀ k,k≠r.b->w'.heap[k]? = w.heap[k]?) (hsz:w'.heap.size=w.heap.size) (e1:w'.os=w.os) (e2:w'.output=w.output) (e3:w'.tape=w.tape) (hnf : ∀ arr ty f,w'.heap[r.b]? = some (.cells arr ty f)->f=(0,0)):Grow M μ w M μ w' :=
 ⟨.refl _,.refl _,λ_ _ h => .inl h,λid r h => .inl ⟨id,r,h,rfl⟩,by omega,λb _ hn=>hw b λe=>hn id r hr e.symm,e1,e2,e3,λb arr ty f h=>by
  by_cases e:b=r.b
  ·subst e;exact .inl (hnf arr ty f h)
  ·exact .inr ⟨arr,by rw [<- hw b e];exact h⟩⟩
def HX (μ:Mu) (id:Nat) (r:Bk):Mu:=λk=>if k=id then some r else μ k
theorem Ht {μ:Mu} {id:Nat} {r:Bk} (h:μ id=none):MuLe μ (HX μ id r):=λk x hk=>by
 unfold HX;split
 ·rename_i e;subst e;rw [h] at hk;cases hk
 ·exact hk
theorem Sim.fresh {M:B5} {μ:Mu} {h h':Hp} {w w':World} {id:Nat} {b:Blk} {r:Bk} {o:Obj} (s:Sim M μ h w)
  (hn:h.get id=none) (he : ∀ k,h'.get k=if k=id then some b else h.get k) (hw:w'.heap=w.heap.push o) (hrb:r.b=w.heap.size)
  (hat:BlkAt M (HX μ id r) r (some o) b):Sim M (HX μ id r) h' w'/\μ id=none:=by
 have hμ:μ id=none:=by
  cases hm:μ id with
  | none=>rfl
  | some x=>exact absurd hn (s.use id x hm).1
 have hle:=Ht (r:=r) hμ;have hold : ∀ k,k<w.heap.size->w'.heap[k]? = w.heap[k]? := λk hk=>by rw [hw,Array.getElem?_push,if_neg (by omega)]
 have hnew:w'.heap[r.b]? = some o:=by rw [hw,hrb];simp
 have hsz:w'.heap.size=w.heap.size+1:=by rw [hw];simp
 have hup : ∀ k x,HX μ id r k=some x->(k=id/\x=r)\/(k≠id/\μ k=some x):=by
  intro k x hk;unfold HX at hk;by_cases e:k=id
  ·rw [if_pos e] at hk;exact .inl ⟨e,(Option.some.inj hk).symm⟩
  ·rw [if_neg e] at hk;exact .inr ⟨e,hk⟩
 refine ⟨?_,hμ⟩;constructor
 ·intro a v hm;have h1:=s.mem a v hm;exact ⟨h1.1,by rw [cell?_congr (hold _ (s.mem_lt hm))];exact h1.2⟩
 ·intro k bk hk;rw [he] at hk;by_cases e:k=id
  ·rw [if_pos e] at hk;cases hk;exact ⟨r,by simp [HX,e],by rw [hnew];exact hat⟩
  ·rw [if_neg e] at hk;obtain ⟨rk,hrk,hatk⟩:=s.blk k bk hk;exact ⟨rk,hle _ _ hrk,by rw [hold _ (s.use k rk hrk).2];exact hatk.mono (.refl _) hle⟩
 ·intro k rk hk;rcases hup k rk hk with ⟨e,rfl⟩ | ⟨e,hk⟩
  ·exact ⟨by rw [he,if_pos e];simp,by omega⟩
  ·have:=s.use k rk hk;exact ⟨by rw [he,if_neg e];exact this.1,by omega⟩
 ·intro k k' rk rk' bk bk' a1 a2 a3 a4 a5 a6 a7;rw [he] at a3 a4;rcases hup k rk a1 with ⟨e,hx⟩ | ⟨e,a1⟩
  ·rcases hup k' rk' a2 with ⟨e',hx'⟩ | ⟨e',a2⟩
   ·exact e.trans e'.symm
   ·have:=(s.use k' rk' a2).2;rw [<- a7,hx] at this;omega
  ·rcases hup k' rk' a2 with ⟨e',hx'⟩ | ⟨e',a2⟩
   ·have:=(s.use k rk a1).2;rw [a7,hx'] at this;omega
   ·rw [if_neg e] at a3;rw [if_neg e'] at a4;exact s.inj k k' rk rk' bk bk' a1 a2 a3 a4 a5 a6 a7
 ·intro k rk bk a v a1 a2 a3 a4 a5;rw [he] at a1;rcases hup k rk a2 with ⟨e,hx⟩ | ⟨e,a2⟩
  ·have:=s.mem_lt a4;rw [a5,hx] at this;omega
  ·rw [if_neg e] at a1;exact s.sep k rk bk a v a1 a2 a3 a4 a5
theorem Grow.newBlk {M:B5} {μ:Mu} {w w':World} {id:Nat} {r:Bk} {o:Obj} (hμ:μ id=none) (hw:w'.heap=w.heap.push o) (hrb:r.b=w.heap.size)
  (e1:w'.os=w.os) (e2:w'.output=w.output) (e3:w'.tape=w.tape) (hnf : ∀ arr ty f,o = .cells arr ty f->f=(0,0)):Grow M μ w M (HX μ id r) w' where
 m:=.refl _
 u:=Ht hμ
 only _ _ h:=.inl h
 fresh k x hk:=by
  unfold HX at hk;by_cases e:k=id
  ·rw [if_pos e] at hk;cases hk;exact .inr (by omega)
  ·rw [if_neg e] at hk;exact .inl ⟨k,x,hk,rfl⟩
 size:=by rw [hw];simp
 keep b hb _:=by rw [hw,Array.getElem?_push,if_neg (by omega)]
 os:=e1
 output:=e2
 tape:=e3
 nf b arr ty f h:=by
  rw [hw,Array.getElem?_push] at h;split at h
  ·exact .inl (hnf arr ty f (Option.some.inj h))
  ·exact .inr ⟨arr,h⟩
def Hu (M:B5) (b:Nat) (arr:Array Value):B5:=λa=>if a.block=b then (if a.spot=none then arr[a.off]? else none) else M a
theorem Sim.data {M:B5} {μ:Mu} {h:Hp} {w w':World} {arr:Array Value} {ty:TypeId} (s:Sim M μ h w) (hw:w'.heap=w.heap.push (.cells arr ty (0,0))) :
  Sim (Hu M w.heap.size arr) μ h w'/\MLe M (Hu M w.heap.size arr):=by
 have hold : ∀ k,k<w.heap.size->w'.heap[k]? = w.heap[k]? := λk hk=>by rw [hw,Array.getElem?_push,if_neg (by omega)]
 have hnew:w'.heap[w.heap.size]? = some (.cells arr ty (0,0)):=by rw [hw];simp
 have hle:MLe M (Hu M w.heap.size arr):=λa v hm=>by
  unfold Hu;rw [if_neg (by have:=s.mem_lt hm;omega)];exact hm
 refine ⟨?_,hle⟩;constructor
 ·intro a v hm;unfold Hu at hm;by_cases e:a.block=w.heap.size
  ·rw [if_pos e] at hm;by_cases hs:a.spot=none
   ·rw [if_pos hs] at hm;exact ⟨hs,by rw [cell?_eq (by rw [e];exact hnew) hs];exact hm⟩
   ·rw [if_neg hs] at hm;cases hm
  ·rw [if_neg e] at hm;have h1:=s.mem a v hm;exact ⟨h1.1,by rw [cell?_congr (hold _ (s.mem_lt hm))];exact h1.2⟩
 ·intro k bk hk;obtain ⟨rk,hrk,hatk⟩:=s.blk k bk hk;exact ⟨rk,hrk,by rw [hold _ (s.use k rk hrk).2];exact hatk.mono hle (.refl _)⟩
 ·intro k rk hk;have:=s.use k rk hk;exact ⟨this.1,by rw [hw];simp;omega⟩
 ·exact s.inj
 ·intro k rk bk a v a1 a2 a3 a4 a5;unfold Hu at a4;rw [if_neg (by rw [a5];have:=(s.use k rk a2).2;omega)] at a4;exact s.sep k rk bk a v a1 a2 a3 a4 a5
theorem Grow.data {M:B5} {μ:Mu} {w w':World} {o:Obj} {arr:Array Value} (hM:MLe M (Hu M w.heap.size arr)) (hw:w'.heap=w.heap.push o) (e1:w'.os=w.os) (e2:w'.output=w.output) (e3:w'.tape=w.tape) (hnf : ∀ arr ty f,o = .cells arr ty f->f=(0,0)):Grow M μ w (Hu M w.heap.size arr) μ w' :=
 ⟨hM,.refl _,λa v h=>by
   unfold Hu at h;split at h
   ·exact .inr (.inr (by omega))
   ·exact .inl h,λid r h => .inl ⟨id,r,h,rfl⟩,by rw [hw];simp,λb hb _=>by rw [hw,Array.getElem?_push,if_neg (by omega)],e1,e2,e3,λb arr ty f h=>by
    rw [hw,Array.getElem?_push] at h;split at h
    ·exact .inl (hnf arr ty f (Option.some.inj h))
    ·exact .inr ⟨arr,h⟩⟩
end Go.Proofs.YthpkjfabdccpdaaGreat.Pi
namespace Go.Proofs.YthpkjfabdccpdaaGreat.Pi
section
variable {P:Program} {M:B5} {μ:Mu} {h:Hp} {w:World}
theorem Fj {t:T PV} {nt:Nat} {a:Act} {o:Operand} {p:PV} (ht:TmpsRep M μ t nt a.tmps) (e:GI t o=some p):Rep M μ p (a.eval o):=by
 cases o with
 | tmp k=>simp only [GI,Option.some.injEq] at e;subst e;exact ht.2.2 k
 | const v=>exact Rg e M μ
 | global g=>cases e
 | func f =>
  simp only [GI,Option.some.injEq] at e;subst e;exact .fn _ _ [] [] #[] #[] (by intro l hl;cases hl) rfl rfl (λi c v h=>by simp at h) (λi c v h=>by simp at h)
theorem Nq {t:T PV} {nt:Nat} {a:Act} (ht:TmpsRep M μ t nt a.tmps) : ∀ {l:List Operand} {ps:List PV},TQ t l=some ps->RepL M μ ps (l.map a.eval)
 | [],ps,e=>by cases e;exact RepL.nil _ _
 | o::l,ps,e=>by
  unfold TQ at e;split at e
  ·rename_i p q hp hq;cases e;exact RepL.cons (Fj ht hp) (Nq ht hq)
  ·cases e
def Nf (M:B5) (μ:Mu) (w:World) (b off:Nat) (cs:List PV):Prop :=
 ∀ (j:Nat) (c:PV),cs[j]? = some c -> ∃ x,w.cell? ⟨b,off+j,none⟩=some x/\x.oneCell'=true/\Rep M μ c x
theorem EX (b off n:Nat):(⟨b,off,none⟩:Addr).add n=⟨b,off+n,none⟩:=by
 unfold Addr.add;split<;>simp_all
theorem IX {ty:TypeId} {b off:Nat} {cs:List PV} {p:PV} (hc:Nf M μ w b off cs) (e:Pi.part P ty cs=some p) :
  ∃ v,(loadVar ty ⟨b,off,none⟩).run P w = .ok v w/\Rep M μ p v:=by
 unfold Pi.part at e;split at e
 ·rename_i n hag hsz;cases hb:Nat.ble n cs.length with
  | false=>rw [hb] at e;cases e
  | true =>
   rw [hb] at e;cases e;have hn:n<=cs.length:=Nat.le_of_ble_eq_true hb
   have hex : ∃ f:Nat->Value,∀ j,j<n->w.cell? ⟨b,off+j,none⟩=some (f j)/\(f j).oneCell'=true /\ ∀ c,cs[j]? = some c->Rep M μ c (f j):=by
    have : ∀ j,∃ x:Value,j<n->w.cell? ⟨b,off+j,none⟩=some x/\x.oneCell'=true /\ ∀ c,cs[j]? = some c->Rep M μ c x:=by
     intro j;by_cases hj:j<n
     ·obtain ⟨x,h1,h2,h3⟩:=hc j cs[j] (List.getElem?_eq_getElem (by omega));exact ⟨x,λ_=>⟨h1,h2,λc hcj=>by rw [List.getElem?_eq_getElem (by omega)] at hcj;cases hcj;exact h3⟩⟩
     ·exact ⟨undef,λh=>absurd h hj⟩
    exact ⟨λj=>Classical.choose (this j),λj hj=>Classical.choose_spec (this j) hj⟩
   obtain ⟨f,hf⟩:=hex;refine ⟨.agg ((List.range n).map f).toArray,?_,?_⟩
   ·have hl:=run_loadCells (P:=P) w ⟨b,off,none⟩ n f (λj hj=>by rw [EX];exact (hf j hj).1);simp [loadVar,Nd hag,Bn hsz,hl]
   ·refine .agg _ _ _ (by simp;omega) (λi v hv => ?_) (λi c v hci hv => ?_)
    ·simp at hv;obtain ⟨k,hk,rfl⟩:=hv;obtain ⟨h1,rfl⟩:=List.getElem?_eq_some_iff.1 hk;simp at h1;simpa using (hf _ (by simpa using h1)).2.1
    ·simp at hv;obtain ⟨k,hk,rfl⟩:=hv;obtain ⟨h1,rfl⟩:=List.getElem?_eq_some_iff.1 hk;simp at h1;rw [List.getElem?_take,if_pos h1] at hci;simpa using (hf _ h1).2.2 c hci
 ·rename_i n hag hsz;split at e
  ·rename_i c cs';cases e;obtain ⟨x,h1,_,h3⟩:=hc 0 p rfl;exact ⟨x,by simp [loadVar,Nd hag];simp only [Nat.add_zero] at h1;simp [h1],h3⟩
  ·cases e
 ·cases e
theorem Hv {b:Nat} {ty:TypeId} (vs:List Value) : ∀ (w:World) (arr:Array Value) (off i:Nat),w.heap[b]? = some (.cells arr ty (0,0))->off+i+vs.length<=arr.size->(∀ v∈vs,v.oneCell'=true) ->
  ∃ w' arr',(storeCells ⟨b,off,none⟩ vs i).run P w = .ok () w'/\w'.heap[b]? = some (.cells arr' ty (0,0))/\arr'.size=arr.size /\
   (∀ j,arr'[j]? = if off+i<=j/\j<off+i+vs.length then vs[j-(off+i)]? else arr[j]?)/\(∀ k,k≠b->w'.heap[k]? = w.heap[k]?)/\w'.heap.size=w.heap.size /\
   w'.os=w.os/\w'.output=w.output/\w'.tape=w.tape/\w'.drawn=w.drawn:=by
 induction vs with
 | nil =>
  intro w arr off i hb _ _;exact ⟨w,arr,by simp [storeCells],hb,rfl,λj=>by simp;intro a b;omega,λ_ _=>rfl,rfl,rfl,rfl,rfl,rfl⟩
 | cons v vs ih =>
  intro w arr off i hb hle h1;simp only [List.length_cons] at hle;have hin:off+i<arr.size:=by omega
  have hcell:w.cell? ⟨b,off+i,none⟩=some arr[off+i]:=by
   rw [cell?_eq (a:=⟨b,off+i,none⟩) hb rfl];exact Array.getElem?_eq_getElem hin
  have hfr:w.frozen? ⟨b,off+i,none⟩=false:=by simp [World.frozen?,hb]
  have hv1:v.oneCell'=true:=h1 v (by simp)
  have hst:(store ⟨b,off+i,none⟩ v).run P w = .ok () (w.setCell ⟨b,off+i,none⟩ v):=by
   rw [run_store _ _ _ _ _ hv1,hcell];simp [hfr]
  have hb':(w.setCell ⟨b,off+i,none⟩ v).heap[b]? = some (.cells (arr.setIfInBounds (off+i) v) ty (0,0)):=heap_setCell_same w b (off+i) arr ty v hb;obtain ⟨w',arr',hr,h2,h3,h4,h5,h6,h7,h8,h9,h10⟩:=ih (w.setCell ⟨b,off+i,none⟩ v) _ off (i+1) hb' (by simp;omega) (λx hx=>h1 x (by simp [hx]));refine ⟨w',arr',?_,h2,by rw [h3];simp,λj => ?_,λk hk => ?_,by rw [h6];simp,by rw [h7];rfl,by rw [h8];rfl,by rw [h9];rfl,by rw [h10];rfl⟩
  ·simp only [storeCells,Sem.run_bind,EX,hst,Result.andThen,hr]
  ·rw [h4 j];by_cases hj:off+(i+1)<=j/\j<off+(i+1)+vs.length
   ·rw [if_pos hj,if_pos (by simp;omega)];have:j-(off+i)=(j-(off+(i+1)))+1:=by omega
    rw [this,List.getElem?_cons_succ]
   ·rw [if_neg hj,Array.getElem?_setIfInBounds];by_cases hji:off+i=j
    ·rw [if_pos hji,if_pos (by omega),if_pos (by simp;omega)];subst hji;simp
    ·rw [if_neg hji,if_neg (by simp;omega)]
  ·rw [h5 k hk];exact heap_setCell_other w _ k v (by simpa using hk)
theorem Nr (cs:List PV) (off:Nat) (x:List PV) (hle:off+x.length<=cs.length) (j:Nat) :
  (Em cs off x)[j]? = if off<=j/\j<off+x.length then x[j-off]? else cs[j]? := by
 unfold Em;rw [List.getElem?_append,List.length_take,Nat.min_eq_left (by omega)];by_cases h1:j<off
 ·rw [if_pos h1,if_neg (by omega),List.getElem?_take,if_pos h1]
 ·rw [if_neg h1,List.getElem?_append];by_cases h2:j-off<x.length
  ·rw [if_pos h2,if_pos (by omega)]
  ·rw [if_neg h2,if_neg (by omega),List.getElem?_drop];congr 1;omega
theorem JI (cs:List PV) (off:Nat) (x:List PV) (hle:off+x.length<=cs.length):(Em cs off x).length=cs.length:=by
 unfold Em;simp;omega
theorem Au {α:Type} : ∀ (l:List α) (k:Nat),lget l k=l[k]?
 | [],k=>by simp [lget]
 | a::l,0=>by simp [lget]
 | a::l,k+1=>by simp [lget,KY (Nat.succ_ne_zero k),Au l k]
theorem A8 {α:Type} : ∀ (l:List α) (k:Nat) (x:α),lset l k x=l.set k x
 | [],k,x=>by simp [lset]
 | a::l,0,x=>by simp [lset]
 | a::l,k+1,x=>by simp [lset,KY (Nat.succ_ne_zero k),A8 l k x]
theorem PO (s:Sim M μ h w) {j off:Nat} {cs:List PV} {fz:Bool} (hb:h.get j=some (.box cs fz)) : ∃ r,μ j=some r/\Nf M μ w r.b (r.base+off) (cs.drop off):=by
 obtain ⟨r,hr,h0,arr,ty,h1,h2,h3,h4⟩:=s.blk j _ hb;refine ⟨r,hr,λk c hk => ?_⟩;rw [List.getElem?_drop] at hk;have hlt:off+k<arr.size:=by rw [h2];exact (List.getElem?_eq_some_iff.1 hk).1
 refine ⟨arr[off+k],?_,h3 _ _ (Array.getElem?_eq_getElem hlt),h4 _ _ _ hk (Array.getElem?_eq_getElem hlt)⟩;rw [cell?_eq (a:=⟨r.b,r.base+off+k,none⟩) h1 rfl,h0,Nat.zero_add];exact Array.getElem?_eq_getElem hlt
theorem ML {r:Bk} {es:List PV} {i:Nat} {e:PV} {j n:Nat} (hcap:es.length<=r.cap) (hn:r.base+r.cap*r.esz<=n) (he:es[i]? = some e) (hl:e.cells.length=r.esz) (hj:j<e.cells.length):r.base+i*r.esz+j<n:=by
 have hi:i<es.length:=(List.getElem?_eq_some_iff.1 he).1;have:(i+1)*r.esz<=r.cap*r.esz:=Nat.mul_le_mul_right _ (by omega);rw [Nat.add_mul] at this;omega
theorem WU (s:Sim M μ h w) {j i off:Nat} {es:List PV} {ex fz:Bool} {e:PV} (hb:h.get j=some (.row es ex fz)) (he:es[i]? = some e) : ∃ r,μ j=some r/\Nf M μ w r.b (r.base+i*r.esz+off) (e.cells.drop off):=by
 obtain ⟨r,hr,arr,ty,h1,h2,h3,h4,h5,h6,h7⟩:=s.blk j _ hb;refine ⟨r,hr,λk c hk => ?_⟩;rw [List.getElem?_drop] at hk;have hk':=(List.getElem?_eq_some_iff.1 hk).1;have hlt:r.base+i*r.esz+(off+k)<arr.size:=ML h3 h2 he (h6 i e he) hk';have hg:=Array.getElem?_eq_getElem hlt;have:=h7 i e (off+k) c _ he hk hg;refine ⟨_,?_,this.1,this.2⟩;rw [cell?_eq (a:=⟨r.b,r.base+i*r.esz+off+k,none⟩) h1 rfl,Nat.add_assoc (r.base+i*r.esz) off k];exact hg
theorem TU (s:Sim M μ h w) {cs:List PV} {b off:Nat} {x:Nat->Value}
  (hm : ∀ (j:Nat) (c:PV),cs[j]? = some c->M ⟨b,off+j,none⟩=some (x j)) (h1 : ∀ (j:Nat) (c:PV),cs[j]? = some c->(x j).oneCell'=true)
  (hr : ∀ (j:Nat) (c:PV),cs[j]? = some c->Rep M mu0 c (x j)):Nf M μ w b off cs :=
 λj c hj=>⟨x j,(s.mem _ _ (hm j c hj)).2,h1 j c hj,(hr j c hj).mono (.refl _) (.mu0 _)⟩
end
end Go.Proofs.YthpkjfabdccpdaaGreat.Pi
namespace Go.Proofs.YthpkjfabdccpdaaGreat.Pi
section
variable {P:Program} {M:B5} {μ:Mu} {h:Hp} {w:World}
def EY (P:Program) (M:B5) (μ:Mu) (w:World) (res:Result Next):R->Prop
 | .val v h' => ∃ M' μ' w' x,res = .ok (.value x) w'/\Sim M' μ' h' w'/\Grow M μ w M' μ' w'/\Rep M' μ' v x
 | .skip h' => ∃ M' μ' w',res = .ok .skip w'/\Sim M' μ' h' w'/\Grow M μ w M' μ' w'
 | .call f args => ∃ vs:List Value,res = .ok (.enter f vs.toArray) w/\RepL M μ args vs /\ ∃ fn c,P.funcs[f]? = some fn/\fn.body=some c
 | .yield id args => ∃ (vs:List Value) (r:Bk),μ id=some r/\res=(Instr.yield r.b vs.toArray).run P w/\RepL M μ args vs
 | .pan v => ∃ x,res = .halt (.panic x) w/\Rep M μ v x
 | .rcv=>res = .ok .recover w
 | .dfr d => ∃ D,res = .ok (.defer D) w/\DefRep M μ d D
theorem AQ (s:Sim M μ h w) {v:PV} {x:Value} {sem:Sem Value} (e:sem.run P w = .ok x w) (hr:Rep M μ v x) :
  EY P M μ w ((do pure (.value (<- sem)):Sem Next).run P w) (.val v h) :=
 ⟨M,μ,w,x,by simp [e],s,.refl _ _ _,hr⟩
theorem Hb {o:Option PV} {r:R} (e:vl o h=some r) : ∃ v,o=some v/\r = .val v h:=by
 unfold vl at e;cases o with
 | none=>cases e
 | some v=>cases e;exact ⟨v,rfl,rfl⟩
theorem eQ (s:Sim M μ h w) {ty:TypeId} {p:PV} {x:Value} (hx:Rep M μ p x) {r:R}
  (e:Fh P h ty p=some r):EY P M μ w ((do pure (.value (<- Instr.loadAt ty x)):Sem Next).run P w) r:=by
 unfold Fh at e;split at e
 ·rename_i j off;split at e
  ·rename_i cs fz hb;obtain ⟨v,hv,rfl⟩:=Hb e;cases hx with
   | ptr _ _ _ r hr =>
    obtain ⟨r',hr',hc⟩:=PO s (off:=off) hb;rw [hr] at hr';cases hr';obtain ⟨y,hy,hry⟩:=IX hc hv;exact AQ s (by simp [Instr.loadAt,Instr.sureAddr,hy]) hry
  ·cases e
 ·rename_i cs;obtain ⟨v,hv,rfl⟩:=Hb e;cases hx with
  | view _ _ b off x hm h1 hr =>
   obtain ⟨y,hy,hry⟩:=IX (TU s hm h1 hr) hv;exact AQ s (by simp [Instr.loadAt,Instr.sureAddr,hy]) hry
 ·rename_i j i off;split at e
  ·rename_i es ex fz hb;split at e
   ·rename_i el he;rw [Au] at he;obtain ⟨v,hv,rfl⟩:=Hb e;cases hx with
    | ept _ _ _ _ r hr =>
     obtain ⟨r',hr',hc⟩:=WU s (off:=off) hb he;rw [hr] at hr';cases hr';obtain ⟨y,hy,hry⟩:=IX hc hv;exact AQ s (by simp [Instr.loadAt,Instr.sureAddr,hy]) hry
   ·cases e
  ·cases e
 ·cases e
theorem Gc {v:PV} {n:Nat} (h:v.cells.length=n) (hn:0<n) : ∀ cs,v ≠ .tup cs:=by
 intro cs e;subst e;simp [PV.cells] at h;omega
theorem WV (s:Sim M μ h w) {j off:Nat} {cs:List PV} {v:PV} {x:Value} {ty n:Nat} {h':Hp} {r:Bk} (hr:μ j=some r) (hb:h.get j=some (.box cs false))
  (hx:Rep M μ v x) (hsz:BV P ty=some n) (hn:v.cells.length=n) (hn0:0<n) (hle:off+n<=cs.length) (hs:h.set j (.box (Em cs off v.cells) false)=some h') :
  EY P M μ w ((do Instr.storeAt ty (.pointer (some ⟨r.b,r.base+off,none⟩)) x;pure .skip:Sem Next).run P w) (.skip h'):=by
 obtain ⟨r',hr',h0,arr,ety,h1,h2,h3,h4⟩:=s.blk j _ hb;rw [hr] at hr';cases hr';obtain ⟨hc,hone⟩:=hx.cells (Gc hn hn0);have hlen:x.cells.toList.length=n:=by rw [<- hc.1];exact hn
 have hlen':x.cells.size=n:=by simpa using hlen
 obtain ⟨w',arr',hrun,k1,k2,k3,k4,k5,k6,k7,k8,k9⟩:=Hv (P:=P) (ty:=ety) x.cells.toList w arr off 0 h1 (by rw [hlen,h2];omega)
  (λy hy=>by obtain ⟨i,hi⟩:=List.mem_iff_getElem?.1 hy;exact hone i y (by simpa using hi))
 refine ⟨M,μ,w',?_,?_,Grow.update hr k4 k5 k6 k7 k8 (λarr ty f h=>by rw [k1] at h;cases h;rfl)⟩
 ·simp only [h0,Nat.zero_add];simp [Instr.storeAt,Instr.sureAddr,storeVar,Bn hsz,hlen',hrun]
 ·refine s.update hb hr trivial (Hp.get_set hs).1 k4 k5 ?_ ?_
  ·refine ⟨h0,arr',ety,k1,?_,?_,?_⟩
   ·rw [k2,h2,JI];rw [hn];omega
   ·intro i y hy;rw [k3] at hy;split at hy
    ·exact hone _ y (by simpa using hy)
    ·exact h3 i y hy
   ·intro i c y hi hy;rw [Nr _ _ _ (by rw [hn];omega)] at hi;rw [k3] at hy;rw [hlen] at hy;rw [hn] at hi;simp only [Nat.add_zero] at hy;by_cases hin:off<=i/\i<off+n
    ·rw [if_pos hin] at hi hy;exact hc.2 _ c y hi hy
    ·rw [if_neg hin] at hi hy;exact h4 i c y hi hy
  ·intro a y hm ha;have:=s.sep j r _ a y hb hr trivial hm ha;exact absurd this (by simp [Rh])
theorem Ko {i k j j' z:Nat} (hj:j<z) (hj':j'<z) (e:i*z+j=k*z+j'):i=k/\j=j':=by
 have hz:0<z:=by omega
 have h1:(i*z+j) / z=i:=by rw [Nat.mul_comm,Nat.mul_add_div hz];simp [Nat.div_eq_of_lt hj]
 have h2:(k*z+j') / z=k:=by rw [Nat.mul_comm,Nat.mul_add_div hz];simp [Nat.div_eq_of_lt hj']
 rw [e,h2] at h1;subst h1;exact ⟨rfl,by omega⟩
theorem PP (s:Sim M μ h w) {j i off:Nat} {es:List PV} {ex:Bool} {el el':PV} {v:PV} {x:Value} {ty n:Nat} {h':Hp} {r:Bk} (hr:μ j=some r) (hb:h.get j=some (.row es ex false))
  (he:es[i]? = some el) (hel':el'.cells=Em el.cells off v.cells)
  (hx:Rep M μ v x) (hsz:BV P ty=some n) (hn:v.cells.length=n) (hn0:0<n) (hle:off+n<=el.cells.length) (hs:h.set j (.row (lset es i el') ex false)=some h') :
  EY P M μ w ((do Instr.storeAt ty (.pointer (some ⟨r.b,r.base+i*r.esz+off,none⟩)) x;pure .skip:Sem Next).run P w) (.skip h'):=by
 obtain ⟨r',hr',arr,ety,h1,h2,h3,h4,h5,h6,h7⟩:=s.blk j _ hb;rw [hr] at hr';cases hr';obtain ⟨hc,hone⟩:=hx.cells (Gc hn hn0);have hlen:x.cells.toList.length=n:=by rw [<- hc.1];exact hn
 have hlen':x.cells.size=n:=by simpa using hlen
 have hi:i<es.length:=(List.getElem?_eq_some_iff.1 he).1;have hesz:=h6 i el he;have hin:r.base+i*r.esz+(off+n-1)<arr.size:=ML h3 h2 he hesz (by omega)
 obtain ⟨w',arr',hrun,k1,k2,k3,k4,k5,k6,k7,k8,k9⟩:=Hv (P:=P) (ty:=ety) x.cells.toList w arr (r.base+i*r.esz+off) 0 h1 (by rw [hlen];omega)
  (λy hy=>by obtain ⟨i,hi⟩:=List.mem_iff_getElem?.1 hy;exact hone i y (by simpa using hi))
 have hl':el'.cells.length=el.cells.length:=by rw [hel',JI];omega
 refine ⟨M,μ,w',?_,?_,Grow.update hr k4 k5 k6 k7 k8 (λarr ty f h=>by rw [k1] at h;cases h;rfl)⟩
 ·simp [Instr.storeAt,Instr.sureAddr,storeVar,Bn hsz,hlen',hrun]
 ·refine s.update hb hr trivial (Hp.get_set hs).1 k4 k5 ?_ ?_
  ·refine ⟨arr',ety,k1,by omega,by simpa [A8] using h3,by simpa [A8] using h4,h5,?_,?_⟩
   ·intro k e hk;rw [A8,List.getElem?_set] at hk;by_cases hik:i=k
    ·rw [if_pos hik,if_pos hi] at hk;cases hk;rw [hl'];exact hesz
    ·rw [if_neg hik] at hk;exact h6 k e hk
   ·intro k e m c y hk hc2 hy
    have hm:m<r.esz:=by
     rw [A8,List.getElem?_set] at hk;have:=(List.getElem?_eq_some_iff.1 hc2).1;by_cases hik:i=k
     ·rw [if_pos hik,if_pos hi] at hk;cases hk;omega
     ·rw [if_neg hik] at hk;have:=h6 k e hk;omega
    rw [A8,List.getElem?_set] at hk;rw [k3,hlen] at hy;simp only [Nat.add_zero] at hy;by_cases hik:i=k
    ·rw [if_pos hik,if_pos hi] at hk;cases hk;subst hik;rw [hel',Nr _ _ _ (by omega),hn] at hc2;by_cases hin2:off<=m/\m<off+n
     ·rw [if_pos hin2] at hc2;rw [if_pos (by omega)] at hy;have e1:r.base+i*r.esz+m-(r.base+i*r.esz+off)=m-off:=by omega
      rw [e1] at hy;exact ⟨hone (m-off) y (by simpa using hy),hc.2 _ c y hc2 hy⟩
     ·rw [if_neg hin2] at hc2;rw [if_neg (by omega)] at hy;exact h7 i el m c y he hc2 hy
    ·rw [if_neg hik] at hk;rw [if_neg ?_] at hy
     ·exact h7 k e m c y hk hc2 hy
     ·intro hcon;have hd : ∃ d,d<r.esz/\r.base+k*r.esz+m=r.base+i*r.esz+d:=⟨r.base+k*r.esz+m-(r.base+i*r.esz),by omega,by omega⟩;obtain ⟨d,hd1,hd2⟩:=hd;exact hik (Ko (i:=k) (k:=i) hm hd1 (by omega)).1.symm
  ·intro a y hm ha;have:=s.sep j r _ a y hb hr trivial hm ha;exact absurd this (by simp [Rh])
theorem PQ (s:Sim M μ h w) {id:Nat} {cs:List PV} {arr:Array Value} {ty:TypeId} {h':Hp} (hr:RepL M μ cs arr.toList) (h1 : ∀ (i:Nat) (v:Value),arr[i]? = some v->v.oneCell'=true)
  (hn:h.new id (.box cs false)=some h') :
  EY P M μ w ((do pure (.value (<- (do pure (.pointer (some (<- newRow ty arr))):Sem Value))):Sem Next).run P w) (.val (.ptr id 0) h'):=by
 obtain ⟨hget,hset,_⟩:=Hp.get_new hn
 have hμ:μ id=none:=by
  cases hm:μ id with
  | none=>rfl
  | some x=>exact absurd hget (s.use id x hm).1
 have hS:=s.fresh (w':=w.alloc (.cells arr ty)) (r:=⟨w.heap.size,0,0,0⟩) (o:=.cells arr ty (0,0)) hget hset rfl rfl
  ⟨rfl,arr,ty,rfl,by simpa using hr.1.symm,h1,λi c v hc hv=>(hr.2 i c v hc (by simpa using hv)).mono (.refl _) (Ht hμ)⟩
 refine ⟨M,HX μ id ⟨w.heap.size,0,0,0⟩,w.alloc (.cells arr ty),.pointer (some ⟨w.heap.size,0,none⟩),?_,hS.1,Grow.newBlk hμ rfl rfl rfl rfl rfl (λ_ _ _ h=>by cases h;rfl),?_⟩
 ·simp [newRow]
 ·exact .ptr _ _ _ ⟨w.heap.size,0,0,0⟩ (by simp [HX])
theorem MM (x:Array Value) (off:Nat) : ∀ (n:Nat) (l:List (Value×Nat)) (cells:Array Value),(∀ i v,l[i]? = some v->v.2=n+i) ->
  (l.foldl (λcs (p:Value×Nat)=>cs.setIfInBounds (off+p.2) p.1) cells).size=cells.size /\
  ∀ k,off+n+l.length<=cells.size->(l.foldl (λcs (p:Value×Nat)=>cs.setIfInBounds (off+p.2) p.1) cells)[k]? = if off+n<=k/\k<off+n+l.length then (l[k-(off+n)]?).map (·.1) else cells[k]?
 | n,[],cells,_=>⟨rfl,λk _=>by simp;intro a b;omega⟩
 | n,p::l,cells,hl=>by
  have h0:=hl 0 p rfl;have ih:=MM x off (n+1) l (cells.setIfInBounds (off+p.2) p.1) (λi v hv=>by have:=hl (i+1) v (by simpa using hv);omega);simp only [List.foldl_cons];refine ⟨by rw [ih.1];simp,λk hk => ?_⟩;simp only [List.length_cons] at hk ⊢;rw [ih.2 k (by simp;omega)];by_cases h1:off+(n+1)<=k/\k<off+(n+1)+l.length
  ·rw [if_pos h1,if_pos (by omega)];have:k-(off+n)=(k-(off+(n+1)))+1:=by omega
   rw [this,List.getElem?_cons_succ]
  ·rw [if_neg h1,Array.getElem?_setIfInBounds,h0];by_cases h2:off+(n+0)=k
   ·rw [if_pos h2,if_pos (by omega),if_pos (by omega)];subst h2;simp
   ·rw [if_neg h2,if_neg (by omega)]
theorem JJ (x:Array Value) (off:Nat) (cells:Array Value) (hle:off+x.size<=cells.size) (k:Nat) :
  (x.zipIdx.foldl (λcs (p:Value×Nat)=>cs.setIfInBounds (off+p.2) p.1) cells)[k]? = if off<=k/\k<off+x.size then x[k-off]? else cells[k]? := by
 rw [<- Array.foldl_toList];have:=(MM x off 0 x.zipIdx.toList cells (λi v hv=>by simp at hv;obtain ⟨a,ha,rfl⟩:=hv;simp)).2 k (by simp;omega);rw [this];simp;split
 ·cases x[k-off]? <;> rfl
 ·rfl
theorem IA (x:Array Value) (off:Nat) (cells:Array Value) :
  (x.zipIdx.foldl (λcs (p:Value×Nat)=>cs.setIfInBounds (off+p.2) p.1) cells).size=cells.size:=by
 rw [<- Array.foldl_toList];exact (MM x off 0 x.zipIdx.toList cells (λi v hv=>by simp at hv;obtain ⟨a,ha,rfl⟩:=hv;simp)).1
inductive PartsAt (M:B5) (μ:Mu) (place:Nat->Option (Nat×Nat)):List (Nat×Value)->List (Nat×Nat×List PV)->Prop
 | nil:PartsAt M μ place [] []
 | cons (i:Nat) (v:Value) (p:PV) (off n:Nat) (l:List (Nat×Value)) (m:List (Nat×Nat×List PV)) (hp:place i=some (off,n)) (hr:Rep M μ p v) (hn:0<n)
   (h:PartsAt M μ place l m):PartsAt M μ place ((i,v)::l) ((off,n,p.cells)::m)
theorem VX {place:Nat->Option (Nat×Nat)} {l:List (Nat×Value)} {m:List (Nat×Nat×List PV)} (hp:PartsAt M μ place l m) :
  ∀ {cs cs':List PV} {cells:Array Value},RepL M μ cs cells.toList->(∀ (i:Nat) (v:Value),cells[i]? = some v->v.oneCell'=true)->KU cs m=some cs' ->
   ∃ cells',Instr.fill place cells l=some cells'/\RepL M μ cs' cells'.toList/\(∀ (i:Nat) (v:Value),cells'[i]? = some v->v.oneCell'=true):=by
 induction hp with
 | nil=>intro cs cs' cells hr h1 e;simp [KU] at e;subst e;exact ⟨cells,by simp [Instr.fill],hr,h1⟩
 | cons i v p off n l m hpl hrp hn0 _ ih =>
  intro cs cs' cells hr h1 e;unfold KU at e;cases hc:(Nat.beq p.cells.length n&&Nat.ble (off+n) cs.length) with
  | false=>rw [hc] at e;cases e
  | true =>
   rw [hc] at e;simp at hc;obtain ⟨hc1,hc2⟩:=hc;obtain ⟨hcl,hone⟩:=hrp.cells (Gc hc1 hn0);have hsz:v.cells.size=n:=by have:=hcl.1;rw [hc1] at this;simpa using this.symm
   have hcells:cells.size=cs.length:=by simpa using hr.1.symm
   have hle:off+v.cells.size<=cells.size:=by omega
   have a1:RepL M μ (Em cs off p.cells) (v.cells.zipIdx.foldl (λcs (p:Value×Nat)=>cs.setIfInBounds (off+p.2) p.1) cells).toList:=by
    refine ⟨?_,λk c y hk hy => ?_⟩
    ·rw [JI _ _ _ (by omega)];exact hcells.symm.trans ((IA v.cells off cells).symm.trans (Array.length_toList (xs:=_)).symm)
    ·rw [Nr _ _ _ (by omega)] at hk;simp only [Array.getElem?_toList] at hy;rw [JJ _ _ _ hle,hsz] at hy;rw [hc1] at hk;by_cases hin:off<=k/\k<off+n
     ·rw [if_pos hin] at hk hy;exact hcl.2 _ c y hk (by simpa using hy)
     ·rw [if_neg hin] at hk hy;exact hr.2 k c y hk (by simpa using hy)
   have a2 : ∀ (i:Nat) (y:Value),(v.cells.zipIdx.foldl (λcs (p:Value×Nat)=>cs.setIfInBounds (off+p.2) p.1) cells)[i]? = some y->y.oneCell'=true:=by
    intro k y hy;rw [JJ _ _ _ hle] at hy;split at hy
    ·exact hone _ y hy
    ·exact h1 k y hy
   obtain ⟨cells',hf,hr',h1'⟩:=ih a1 a2 e;refine ⟨cells',?_,hr',h1'⟩;unfold Instr.fill;rw [hpl];simp only [hsz];rw [if_neg (by simp;omega)];exact hf
end
end Go.Proofs.YthpkjfabdccpdaaGreat.Pi
namespace Go.Proofs.YthpkjfabdccpdaaGreat.Pi
section
variable {P:Program} {M:B5} {μ:Mu} {h:Hp} {w:World}
def QW (r:Bk) (a:Addr):Blk->Prop
 | .box _ _=>True
 | .row es _ _=>a.off<r.base+es.length*r.esz
 | _=>False
def VY (h:Hp) (μ:Mu) (L:List Nat) (a:Addr):Prop := ∃ id∈L,∃ r b,μ id=some r/\h.get id=some b/\a.block=r.b/\a.spot=none/\QW r a b
def QX (r:Bk) (a:Addr):Blk->Bool
 | .box _ _=>true
 | .row es _ _=>Nat.blt a.off (r.base+es.length*r.esz)
 | _=>false
def YK (h:Hp) (μ:Mu) (L:List Nat) (a:Addr):Bool:=L.any λid=>match μ id,h.get id with
 | some r,some b=>Nat.beq a.block r.b&&a.spot.isNone&&QX r a b
 | _,_=>false
theorem NE {r:Bk} {a:Addr} {b:Blk}:QX r a b=true<->QW r a b:=by
 cases b<;>simp [QX,QW]
theorem PR {h:Hp} {μ:Mu} {L:List Nat} {a:Addr}:YK h μ L a=true<->VY h μ L a:=by
 unfold YK VY;rw [List.any_eq_true];constructor
 ·rintro ⟨id,hid,hx⟩;split at hx
  ·rename_i r b hr hb;simp only [Bool.and_eq_true,Nat.beq_eq] at hx;exact ⟨id,hid,r,b,hr,hb,hx.1.1,by simpa using hx.1.2,NE.1 hx.2⟩
  ·cases hx
 ·rintro ⟨id,hid,r,b,hr,hb,h1,h2,h3⟩;refine ⟨id,hid,?_⟩;simp only [hr,hb,Bool.and_eq_true,Nat.beq_eq];exact ⟨⟨h1,by rw [h2];rfl⟩,NE.2 h3⟩
def NF (M:B5) (h:Hp) (μ:Mu) (w:World) (L:List Nat):B5:=λa=>match M a with
 | some v=>some v
 | none=>if YK h μ L a then w.cell? a else none
theorem Hw (L:List Nat):MLe M (NF M h μ w L):=λa v e=>by simp [NF,e]
theorem Ns (s:Sim M μ h w) {L:List Nat} {a:Addr} {v:Value} (hi:VY h μ L a) (hc:w.cell? a=some v):NF M h μ w L a=some v:=by
 unfold NF;cases e:M a with
 | some x=>have:=(s.mem a x e).2;rw [hc] at this;simp [this]
 | none=>simp [PR.2 hi,hc]
theorem Hc {L:List Nat} {a:Addr} {v:Value} (e:NF M h μ w L a=some v):M a=some v\/(VY h μ L a/\w.cell? a=some v):=by
 unfold NF at e;cases hm:M a with
 | some x=>rw [hm] at e;exact .inl e
 | none =>
  rw [hm] at e;simp only at e;split at e
  ·rename_i hi;exact .inr ⟨PR.1 hi,e⟩
  ·cases e
theorem QY (s:Sim M μ h w) {L:List Nat} {a:Addr} {v:Value} (e:NF M h μ w L a=some v):a.spot=none/\w.cell? a=some v:=by
 rcases Hc e with e | ⟨⟨_,_,_,_,_,_,_,hs,_⟩,hc⟩
 ·exact s.mem a v e
 ·exact ⟨hs,hc⟩
theorem G7 {f:PV->Option (PV×List Nat)} : ∀ {ps qs:List PV} {l:List Nat},AM f ps=some (qs,l) ->
  qs.length=ps.length /\ ∀ (i:Nat) (p:PV),ps[i]? = some p -> ∃ q l',f p=some (q,l')/\qs[i]? = some q /\ ∀ x∈l',x∈l
 | [],qs,l,e=>by
  simp [AM] at e;obtain ⟨rfl,rfl⟩:=e;exact ⟨rfl,λi p hp=>by simp at hp⟩
 | p::ps,qs,l,e=>by
  unfold AM at e;split at e
  ·rename_i q a qs' b h1 h2;cases e;obtain ⟨k1,k2⟩:=G7 h2;refine ⟨by simp [k1],λi x hx => ?_⟩;cases i with
   | zero=>simp at hx;subst hx;exact ⟨q,a,h1,rfl,λy hy=>List.mem_append_left _ hy⟩
   | succ i =>
    obtain ⟨q',l',h3,h4,h5⟩:=k2 i x (by simpa using hx);exact ⟨q',l',h3,by simpa using h4,λy hy=>List.mem_append_right _ (h5 y hy)⟩
  ·cases e
theorem Fa {n:Nat} {p q:PV} {l:List Nat} (e:BO h n p=some (q,l)) :
  q.cells.length=p.cells.length /\ ∀ (j:Nat) (c:PV),p.cells[j]? = some c -> ∃ n' c' l',n'<=n/\BO h n' c=some (c',l')/\q.cells[j]? = some c' /\ ∀ x∈l',x∈l:=by
 have single:p.cells=[p]->q.cells=[q]->q.cells.length=p.cells.length /\ ∀ (j:Nat) (c:PV),p.cells[j]? = some c -> ∃ n' c' l',n'<=n/\BO h n' c=some (c',l')/\q.cells[j]? = some c' /\ ∀ x∈l',x∈l:=by
  intro h1 h2;rw [h1,h2];refine ⟨rfl,λj c hc => ?_⟩;cases j with
  | zero=>simp at hc;subst hc;exact ⟨n,q,l,Nat.le_refl _,e,rfl,λ_ h=>h⟩
  | succ j=>simp at hc
 cases n with
 | zero=>simp [BO] at e
 | succ n =>
  cases p with
  | agg cs =>
   unfold BO at e;cases hm:AM (BO h n) cs with
   | none=>simp [hm] at e
   | some x =>
    obtain ⟨y,l0⟩:=x;simp [hm] at e;obtain ⟨rfl,rfl⟩:=e;obtain ⟨k1,k2⟩:=G7 hm;refine ⟨k1,λj c hc => ?_⟩;obtain ⟨q,l',h1,h2,h3⟩:=k2 j c hc;exact ⟨n,q,l',by omega,h1,h2,h3⟩
  | tup cs =>
   unfold BO at e;cases hm:AM (BO h n) cs with
   | none=>simp [hm] at e
   | some x=>simp [hm] at e;obtain ⟨rfl,rfl⟩:=e;exact ⟨rfl,λj c hc=>by simp [PV.cells] at hc⟩
  | bool | int | str | nilp | nils | nilm | nilf | nili | lst | view=>unfold BO at e;simp at e;obtain ⟨rfl,rfl⟩:=e;exact single rfl rfl
  | yl | mp=>simp [BO] at e
  | own id off len =>
   refine single rfl ?_;unfold BO at e;simp only at e;split at e
   ·rename_i es ex fz hb;cases hc:Nat.ble (off+len) es.length with
    | false=>simp [hc] at e
    | true=>simp [hc] at e;obtain ⟨a,b,_,rfl,_⟩:=e;rfl
   ·cases e
  | ptr id off =>
   refine single rfl ?_;unfold BO at e;simp only at e;split at e
   ·rename_i cs fz hb;cases hc:Nat.blt off cs.length with
    | false=>simp [hc] at e
    | true=>simp [hc] at e;obtain ⟨a,b,_,rfl,_⟩:=e;rfl
   ·cases e
  | ept id i off =>
   refine single rfl ?_;unfold BO at e;simp only at e;split at e
   ·split at e
    ·rename_i el hel;cases hc:Nat.blt off el.cells.length with
     | false=>simp [hc] at e
     | true=>simp [hc] at e;obtain ⟨a,b,_,rfl,_⟩:=e;rfl
    ·cases e
   ·cases e
  | fn f a b =>
   refine single rfl ?_;unfold BO at e;simp only at e;split at e
   ·cases e;rfl
   ·cases e
  | ifc t x =>
   refine single rfl ?_;unfold BO at e;cases hm:BO h n x with
   | none=>simp [hm] at e
   | some y=>simp [hm] at e;obtain ⟨rfl,_⟩:=e;rfl
theorem Kq (s:Sim M μ h w) (L:List Nat) : ∀ (n:Nat) (p q:PV) (l:List Nat) (v:Value),BO h n p=some (q,l)->Rep M μ p v->(∀ x∈l,x∈L)->Rep (NF M h μ w L) mu0 q v:=by
 intro n
 induction n using Nat.strongRecOn with
 | ind n ih =>
  intro p q l v e hx hL;cases n with
  | zero=>simp [BO] at e
  | succ n =>
   have many : ∀ {cs qs:List PV} {l0:List Nat} {vs:Array Value},AM (BO h n) cs=some (qs,l0)->(∀ x∈l0,x∈L)->cs.length=vs.size ->
     (∀ (i:Nat) (c:PV) (v:Value),cs[i]? = some c->vs[i]? = some v->Rep M μ c v) ->
     qs.length=vs.size /\ ∀ (i:Nat) (c:PV) (v:Value),qs[i]? = some c->vs[i]? = some v->Rep (NF M h μ w L) mu0 c v:=by
    intro cs qs l0 vs hm hl0 hlen hr;obtain ⟨k1,k2⟩:=G7 hm;refine ⟨k1.trans hlen,λi c y hc hy => ?_⟩;have hi:i<cs.length:=by rw [<- k1];exact (List.getElem?_eq_some_iff.1 hc).1
    obtain ⟨q',l',h1,h2,h3⟩:=k2 i cs[i] (List.getElem?_eq_getElem hi);rw [hc] at h2;cases h2;exact ih n (by omega) _ _ l' y h1 (hr i _ y (List.getElem?_eq_getElem hi) hy) λx hx=>hl0 x (h3 x hx)
   cases p with
   | agg cs =>
    unfold BO at e;cases hm:AM (BO h n) cs with
    | none=>simp [hm] at e
    | some x =>
     obtain ⟨y,l0⟩:=x;simp [hm] at e;obtain ⟨rfl,rfl⟩:=e;cases hx with
     | agg _ _ vs hl h1 hr=>obtain ⟨a,b⟩:=many hm hL hl hr;exact .agg _ _ _ a h1 b
   | tup cs =>
    unfold BO at e;cases hm:AM (BO h n) cs with
    | none=>simp [hm] at e
    | some x =>
     obtain ⟨y,l0⟩:=x;simp [hm] at e;obtain ⟨rfl,rfl⟩:=e;cases hx with
     | tup _ _ vs hl hr=>obtain ⟨a,b⟩:=many hm hL hl hr;exact .tup _ _ _ a b
   | bool | int | str | nilp | nils | nilm | nilf | nili=>unfold BO at e;simp at e;obtain ⟨rfl,rfl⟩:=e;cases hx;constructor
   | lst full es =>
    unfold BO at e;simp at e;obtain ⟨rfl,rfl⟩:=e;cases hx with
    | lst0 _ _ a cap hf=>exact .lst0 _ _ _ _ hf
    | lst _ _ _ b off esz cap x hf hc hs hm h1 hr=>exact .lst _ _ _ _ _ esz _ x hf hc hs (λi e j c a k=>Hw L _ _ (hm i e j c a k)) h1 λi e j c a k=>(hr i e j c a k).mono (Hw L) (.refl _)
   | view cs =>
    unfold BO at e;simp at e;obtain ⟨rfl,rfl⟩:=e;cases hx with
    | view _ _ b off x hm h1 hr=>exact .view _ _ _ _ x (λj c a=>Hw L _ _ (hm j c a)) h1 λj c a=>(hr j c a).mono (Hw L) (.refl _)
   | yl | mp=>simp [BO] at e
   | own id off len =>
    unfold BO at e;simp only at e;split at e
    ·rename_i es ex fz hb;cases hc:Nat.ble (off+len) es.length with
     | false=>simp [hc] at e
     | true =>
      simp [hc] at e;obtain ⟨qs,l0,hm,rfl,rfl⟩:=e;have hle:off+len<=es.length:=Nat.le_of_ble_eq_true hc;cases hx with
      | own _ _ _ _ r hr hcap =>
       obtain ⟨r',hr',arr,ety,h1,h2,h3,h4,h5,h6,h7⟩:=s.blk id _ hb;rw [hr] at hr';cases hr';obtain ⟨k1,k2⟩:=G7 hm;have hqlen:qs.length=len:=by rw [k1];simp;omega
       have elem : ∀ (i:Nat) (qe:PV),qs[i]? = some qe -> ∃ el l',es[off+i]? = some el/\BO h n el=some (qe,l')/\(∀ x∈l',x∈l0):=by
        intro i qe hqe;have hi:i<len:=by rw [<- hqlen];exact (List.getElem?_eq_some_iff.1 hqe).1
        have hes:((es.drop off).take len)[i]? = some es[off+i]:=by
         rw [List.getElem?_take,if_pos hi,List.getElem?_drop];exact List.getElem?_eq_getElem (by omega)
        obtain ⟨q',l',a1,a2,a3⟩:=k2 i _ hes;rw [hqe] at a2;cases a2;exact ⟨_,l',List.getElem?_eq_getElem (by omega),a1,a3⟩
       rw [<- hqlen];refine .lst _ _ _ _ _ r.esz _ (λi j=>(arr[r.base+(off+i)*r.esz+j]?).getD undef) (by intro h;cases h) (by omega) ?_ ?_ ?_ ?_
       ·intro i qe hqe;obtain ⟨el,l',a1,a2,_⟩:=elem i qe hqe;rw [(Fa a2).1];exact h6 _ _ a1
       all_goals
        intro i qe j c hqe hcj;obtain ⟨el,l',a1,a2,a3⟩:=elem i qe hqe;have hcl:=Fa a2;have hj:j<el.cells.length:=by rw [<- hcl.1];exact (List.getElem?_eq_some_iff.1 hcj).1
        have hlt:r.base+(off+i)*r.esz+j<arr.size:=ML h3 h2 a1 (h6 _ _ a1) hj;obtain ⟨n',c',l'',b1,b2,b3,b4⟩:=hcl.2 j _ (List.getElem?_eq_getElem hj);rw [hcj] at b3;cases b3;have hv:=h7 (off+i) el j _ _ a1 (List.getElem?_eq_getElem hj) (Array.getElem?_eq_getElem hlt);simp only [Array.getElem?_eq_getElem hlt,Option.getD_some]
       ·have e1:r.base+off*r.esz+i*r.esz+j=r.base+(off+i)*r.esz+j:=by rw [Nat.add_mul];omega
        rw [e1];refine Ns s ⟨id,hL id (by simp),r,_,hr,hb,rfl,rfl,?_⟩ (by rw [cell?_eq (a:=⟨r.b,r.base+(off+i)*r.esz+j,none⟩) h1 rfl];exact Array.getElem?_eq_getElem hlt);have:=ML (i:=off+i) (es:=es) (r:={ r with cap:=es.length }) (n:=r.base+es.length*r.esz) (Nat.le_refl _) (Nat.le_refl _) a1 (h6 _ _ a1) hj
        exact this
       ·exact hv.1
       ·exact ih n' (by omega) _ _ l'' _ b2 hv.2 λx hx=>hL x (by simp [a3 x (b4 x hx)])
    ·cases e
   | ptr id off =>
    unfold BO at e;simp only at e;split at e
    ·rename_i cs fz hb;cases hc:Nat.blt off cs.length with
     | false=>simp [hc] at e
     | true =>
      simp [hc] at e;obtain ⟨qs,l0,hm,rfl,rfl⟩:=e;cases hx with
      | ptr _ _ _ r hr =>
       obtain ⟨r',hr',h0,arr,ety,h1,h2,h3,h4⟩:=s.blk id _ hb;rw [hr] at hr';cases hr';obtain ⟨k1,k2⟩:=G7 hm;refine .view _ _ _ _ (λj=>(arr[off+j]?).getD undef) ?_ ?_ ?_
       all_goals
        intro j c hcj;have hj:j<(cs.drop off).length:=by rw [<- k1];exact (List.getElem?_eq_some_iff.1 hcj).1
        have hj':off+j<cs.length:=by simp at hj;omega
        obtain ⟨c',l',b1,b2,b3⟩:=k2 j _ (List.getElem?_eq_getElem hj);rw [hcj] at b2;cases b2;have hlt:off+j<arr.size:=by omega
        simp only [Array.getElem?_eq_getElem hlt,Option.getD_some]
       ·refine Ns s ⟨id,hL id (by simp),r,_,hr,hb,rfl,rfl,trivial⟩ ?_;rw [cell?_eq (a:=⟨r.b,r.base+off+j,none⟩) h1 rfl,h0,Nat.zero_add];exact Array.getElem?_eq_getElem hlt
       ·exact h3 _ _ (Array.getElem?_eq_getElem hlt)
       ·refine ih n (by omega) _ _ l' _ b1 (h4 (off+j) _ _ ?_ (Array.getElem?_eq_getElem hlt)) λx hx=>hL x (by simp [b3 x hx]);rw [List.getElem_drop];exact List.getElem?_eq_getElem hj'
    ·cases e
   | ept id i off =>
    unfold BO at e;simp only at e;split at e
    ·rename_i es ex fz hb;split at e
     ·rename_i el hel;rw [Au] at hel;cases hc:Nat.blt off el.cells.length with
      | false=>simp [hc] at e
      | true =>
       simp [hc] at e;obtain ⟨qs,l0,hm,rfl,rfl⟩:=e;cases hx with
       | ept _ _ _ _ r hr =>
        obtain ⟨r',hr',arr,ety,h1,h2,h3,h4,h5,h6,h7⟩:=s.blk id _ hb;rw [hr] at hr';cases hr';obtain ⟨k1,k2⟩:=G7 hm;refine .view _ _ _ _ (λj=>(arr[r.base+i*r.esz+(off+j)]?).getD undef) ?_ ?_ ?_
        all_goals
         intro j c hcj;have hj:j<(el.cells.drop off).length:=by rw [<- k1];exact (List.getElem?_eq_some_iff.1 hcj).1
         have hj':off+j<el.cells.length:=by simp at hj;omega
         obtain ⟨c',l',b1,b2,b3⟩:=k2 j _ (List.getElem?_eq_getElem hj);rw [hcj] at b2;cases b2;have hlt:r.base+i*r.esz+(off+j)<arr.size:=ML h3 h2 hel (h6 _ _ hel) hj';have hv:=h7 i el (off+j) _ _ hel (List.getElem?_eq_getElem hj') (Array.getElem?_eq_getElem hlt);simp only [Array.getElem?_eq_getElem hlt,Option.getD_some]
        ·have e1:r.base+i*r.esz+off+j=r.base+i*r.esz+(off+j):=by omega
         rw [e1];refine Ns s ⟨id,hL id (by simp),r,_,hr,hb,rfl,rfl,?_⟩ (by rw [cell?_eq (a:=⟨r.b,r.base+i*r.esz+(off+j),none⟩) h1 rfl];exact Array.getElem?_eq_getElem hlt);exact ML (i:=i) (es:=es) (r:={ r with cap:=es.length }) (n:=r.base+es.length*r.esz) (Nat.le_refl _) (Nat.le_refl _) hel (h6 _ _ hel) hj'
        ·exact hv.1
        ·refine ih n (by omega) _ _ l' _ b1 ?_ λx hx=>hL x (by simp [b3 x hx]);rw [List.getElem_drop];exact hv.2
     ·cases e
    ·cases e
   | fn f a b =>
    unfold BO at e;simp only at e;split at e
    ·rename_i qa la qb lb ha hb;cases e;cases hx with
     | fn _ _ _ _ va vb hf hla hlb hra hrb =>
      obtain ⟨a1,a2⟩:=many ha (λx hx=>hL x (List.mem_append_left _ hx)) hla hra;obtain ⟨b1,b2⟩:=many hb (λx hx=>hL x (List.mem_append_right _ hx)) hlb hrb;exact .fn _ _ _ _ _ _ hf a1 b1 a2 b2
    ·cases e
   | ifc t x =>
    unfold BO at e;cases hm:BO h n x with
    | none=>simp [hm] at e
    | some y =>
     obtain ⟨y,l0⟩:=y;simp [hm] at e;obtain ⟨rfl,rfl⟩:=e;cases hx with
     | ifc _ _ _ v hr=>exact .ifc _ _ _ _ (ih n (by omega) _ _ l0 _ hm hr hL)
theorem VZ (s:Sim M μ h w) (L:List Nat) : ∀ {ps qs:List PV} {l:List Nat} {vs:List Value},By h ps=some (qs,l)->RepL M μ ps vs->(∀ x∈l,x∈L)->RepL (NF M h μ w L) mu0 qs vs
 | [],qs,l,vs,e,hr,_=>by simp [By] at e;obtain ⟨rfl,rfl⟩:=e;rw [hr.nil_inv];exact RepL.nil _ _
 | p::ps,qs,l,vs,e,hr,hL=>by
  unfold By at e;split at e
  ·rename_i q a qs' b h1 h2;cases e;obtain ⟨v,ws,rfl,r1,r2⟩:=hr.cons_inv;exact RepL.cons (Kq s L _ _ _ _ _ h1 r1 λx hx=>hL x (List.mem_append_left _ hx)) (VZ s L h2 r2 λx hx=>hL x (List.mem_append_right _ hx))
  ·cases e
theorem eR (s:Sim M μ h w) {id:Nat} {b b':Blk} {h':Hp} (hb:h.get id=some b) (hs:h.set id b'=some h')
  (hk:(∃ cs fz,b = .box cs fz/\b' = .box cs true) \/ ∃ es ex fz,b = .row es ex fz/\b' = .row es ex true):Sim (NF M h μ w [id]) μ h' w:=by
 obtain ⟨r,hr,hat⟩:=s.blk id b hb;have hget:=(Hp.get_set hs).1;have hle:=Hw (M:=M) (h:=h) (μ:=μ) (w:=w) [id];have hlive:b.live:=by rcases hk with ⟨_,_,rfl,_⟩ | ⟨_,_,_,rfl,_⟩<;>trivial
 constructor
 ·intro a v e;exact QY s e
 ·intro k bk hkk;rw [hget] at hkk;by_cases ek:k=id
  ·rw [if_pos ek] at hkk;cases hkk;subst ek;refine ⟨r,hr,BlkAt.mono hle (.refl _) ?_⟩;rcases hk with ⟨_,_,rfl,rfl⟩ | ⟨_,_,_,rfl,rfl⟩<;>exact hat
  ·rw [if_neg ek] at hkk;obtain ⟨rk,hrk,hatk⟩:=s.blk k bk hkk;exact ⟨rk,hrk,hatk.mono hle (.refl _)⟩
 ·intro k rk hkr;have:=s.use k rk hkr;refine ⟨?_,this.2⟩;rw [hget];split<;>simp_all
 ·intro k k' rk rk' bk bk' a1 a2 a3 a4 a5 a6 a7;rw [hget] at a3 a4;by_cases e:k=id
  ·by_cases e':k'=id
   ·exact e.trans e'.symm
   ·rw [if_neg e'] at a4;subst e;exact s.inj _ _ rk rk' b bk' a1 a2 hb a4 hlive a6 a7
  ·rw [if_neg e] at a3;by_cases e':k'=id
   ·subst e';exact s.inj _ _ rk rk' bk b a1 a2 a3 hb a5 hlive a7
   ·rw [if_neg e'] at a4;exact s.inj _ _ rk rk' bk bk' a1 a2 a3 a4 a5 a6 a7
 ·intro k rk bk a v a1 a2 a3 a4 a5;rw [hget] at a1;by_cases e:k=id
  ·subst e;rw [if_pos rfl] at a1;cases a1;rw [hr] at a2;cases a2;rcases Hc a4 with a4 | ⟨⟨id0,hid,r0,b0,hr0,hb0,hab,_,hfc⟩,_⟩
   ·have:=s.sep k r b a v hb hr hlive a4 a5;rcases hk with ⟨_,_,rfl,rfl⟩ | ⟨_,_,_,rfl,rfl⟩
    ·rfl
    ·exact ⟨rfl,this.2⟩
   ·simp at hid;subst hid;rw [hr] at hr0;cases hr0;rw [hb] at hb0;cases hb0;rcases hk with ⟨_,_,rfl,rfl⟩ | ⟨_,_,_,rfl,rfl⟩
    ·rfl
    ·exact ⟨rfl,hfc⟩
  ·rw [if_neg e] at a1;rcases Hc a4 with a4 | ⟨⟨id0,hid,r0,b0,hr0,hb0,hab,_,hfc⟩,_⟩
   ·exact s.sep k rk bk a v a1 a2 a3 a4 a5
   ·simp at hid;subst hid;exact absurd (s.inj k id0 rk r0 bk b0 a2 hr0 a1 hb0 a3 (by cases b0<;>first | trivial | exact hfc.elim) (a5.symm.trans hab)) e
theorem EF : ∀ (L:List Nat) {M:B5} {h h':Hp},Sim M μ h w->freeze h L=some h' -> ∃ M',MLe (NF M h μ w L) M'/\Sim M' μ h' w/\(∀ a v,M' a=some v->M a=some v \/ ∃ id r,μ id=some r/\r.b=a.block)/\h'.nx=h.nx
 | [],M,h,h',s,e=>by
  simp [freeze] at e;subst e;refine ⟨M,λa v hv => ?_,s,λa v hv => .inl hv,rfl⟩;rcases Hc hv with hv | ⟨⟨_,hm,_⟩,_⟩
  ·exact hv
  ·simp at hm
 | id::L,M,h,h',s,e=>by
  have key : ∀ (b b':Blk) (h1:Hp),h.get id=some b->h.set id b'=some h1->((∃ cs fz,b = .box cs fz/\b' = .box cs true) \/ ∃ es ex fz,b = .row es ex fz/\b' = .row es ex true)->freeze h1 L=some h' ->
    ∃ M',MLe (NF M h μ w (id::L)) M'/\Sim M' μ h' w/\(∀ a v,M' a=some v->M a=some v \/ ∃ id r,μ id=some r/\r.b=a.block)/\h'.nx=h.nx:=by
   intro b b' h1 hb hs hk hf;have s1:=eR s hb hs hk;obtain ⟨M',m1,m2,m3,m4⟩:=EF L s1 hf;have hget:=(Hp.get_set hs).1;refine ⟨M',λa v hv=>m1 a v ?_,m2,λa v hv => ?_,m4.trans (Hp.get_set hs).2⟩
   ·rcases Hc hv with hv | ⟨⟨id0,hm,r0,b0,hr0,hb0,hab,hsp,hfc⟩,hc⟩
    ·exact Hw L _ _ (Hw [id] _ _ hv)
    ·rcases List.mem_cons.1 hm with rfl | hm
     ·exact Hw L _ _ (Ns s ⟨id0,by simp,r0,b0,hr0,hb0,hab,hsp,hfc⟩ hc)
     ·refine Ns s1 ⟨id0,hm,r0,?_⟩ hc;by_cases e0:id0=id
      ·subst e0;rw [hb] at hb0;cases hb0;refine ⟨b',hr0,by rw [hget,if_pos rfl],hab,hsp,?_⟩;rcases hk with ⟨_,_,rfl,rfl⟩ | ⟨_,_,_,rfl,rfl⟩<;>exact hfc
      ·exact ⟨b0,hr0,by rw [hget,if_neg e0];exact hb0,hab,hsp,hfc⟩
   ·rcases m3 a v hv with hv | hv
    ·rcases Hc hv with hv | ⟨⟨id0,_,r0,b0,hr0,_,hab,_⟩,_⟩
     ·exact .inl hv
     ·exact .inr ⟨id0,r0,hr0,hab.symm⟩
    ·exact .inr hv
  unfold freeze at e;split at e
  ·rename_i cs fz hb;split at e
   ·rename_i h1 hs;exact key _ _ h1 hb hs (.inl ⟨cs,fz,rfl,rfl⟩) e
   ·cases e
  ·rename_i es ex fz hb;split at e
   ·rename_i h1 hs;exact key _ _ h1 hb hs (.inr ⟨es,ex,fz,rfl,rfl⟩) e
   ·cases e
  ·cases e
theorem NG {L:List Nat} {M':B5} (hM:MLe (NF M h μ w L) M') (hM' : ∀ a v,M' a=some v->M a=some v \/ ∃ id r,μ id=some r/\r.b=a.block):Grow M μ w M' μ w :=
 ⟨(Hw L).trans hM,.refl _,λa v hv=>(hM' a v hv).imp id .inl,λid r h => .inl ⟨id,r,h,rfl⟩,Nat.le_refl _,λ_ _ _=>rfl,rfl,rfl,rfl,λ_ arr _ _ h => .inr ⟨arr,h⟩⟩
end
end Go.Proofs.YthpkjfabdccpdaaGreat.Pi
namespace Go.Proofs.YthpkjfabdccpdaaGreat.Pi
section
variable {P:Program} {M:B5} {μ:Mu} {h:Hp} {w:World}
theorem AL {α β:Type} {o:Option α} {f:α->β} {b:β} (e:o.map f=some b) : ∃ a,o=some a/\f a=b:=by
 cases o with
 | none=>cases e
 | some a=>exact ⟨a,rfl,by simpa using e⟩
theorem Be {α:Type} {c:Bool} {a:α} {x:Option α} (e:(bif c then x else none)=some a):c=true/\x=some a:=by
 cases c with
 | false=>cases e
 | true=>exact ⟨rfl,e⟩
theorem EZ {α:Type} {c:Bool} {a:α} {x:Option α} (e:(bif c then none else x)=some a):c=false/\x=some a:=by
 cases c with
 | true=>cases e
 | false=>exact ⟨rfl,e⟩
theorem YL (s:Sim M μ h w) {ty:TypeId} {p v:PV} {x y:Value} (hx:Rep M μ p x) (hy:Rep M μ v y) {r:R}
  (e:Dd P h ty p v=some r):EY P M μ w ((do Instr.storeAt ty x y;pure .skip:Sem Next).run P w) r:=by
 unfold Dd at e;split at e
 ·rename_i n hsz;obtain ⟨hc,e⟩:=EZ e;simp at hc;obtain ⟨hn0,hn⟩:=hc;split at e
  ·rename_i j off;split at e
   ·rename_i cs hb;obtain ⟨hle,e⟩:=Be e;obtain ⟨h',hs,rfl⟩:=AL e;cases hx with
    | ptr _ _ _ r hr=>exact WV s hr hb hy hsz hn hn0 (by simpa using hle) hs
   ·cases e
  ·rename_i j i off;split at e
   ·rename_i es ex hb;split at e
    ·rename_i el he;rw [Au] at he;obtain ⟨hle,e⟩:=Be e;cases hx with
     | ept _ _ _ _ r hr =>
      split at e
      ·rename_i cs;obtain ⟨h',hs,rfl⟩:=AL e;exact PP s hr hb he rfl hy hsz hn hn0 (by simpa using hle) hs
      ·split at e
       ·rename_i c hvc;obtain ⟨h0,e'⟩:=Be e;clear e;simp at h0;obtain ⟨rfl,h1⟩:=h0
        have hel' : ∀ c':PV,(∀ cs,c' ≠ .agg cs)->(∀ cs,c' ≠ .tup cs)->c'=c->c'.cells=Em el.cells 0 v.cells:=by
         rintro c' ha ht rfl;rw [hvc];have:c'.cells=[c']:=by cases c'<;>first | rfl | exact absurd rfl (ha _) | exact absurd rfl (ht _)
         rw [this];obtain ⟨a,ha⟩ : ∃ a,el.cells=[a]:=List.length_eq_one_iff.1 h1;rw [ha];rfl
        split at e'
        ·cases e'
        ·cases e'
        ·rename_i ha ht;obtain ⟨h',hs,rfl⟩:=AL e';exact PP s hr hb he (hel' _ (λcs=>ha cs) (λcs=>ht cs) rfl) hy hsz hn hn0 (by simpa using hle) hs
       ·cases e
    ·cases e
   ·cases e
  ·cases e
 ·cases e
theorem iC (s:Sim M μ h w) {p:PV} {x:Value} (hx:Rep M μ p x) {r:R} (e:JH h p=some r) :
  EY P M μ w ((match (generalizing:=false) x with
  | .pointer none | .nilIface | .nilFunc=>runtimePanic .nilDeref
  | .func (.method name) first captured =>
   match (first[0]? : Option Value) with
   | some .nilIface=>runtimePanic .nilDeref
   | some (.iface t w)=>do
    if (<- nilAhead ((<- program).types.size+Made.depth) t w name) != some false then
     unsupported (.noEntry "op/nilCheck.the method's receiver behind this interface value is a nil pointer, or cannot be seen to be none, and the arguments act or may panic (ledger 612)")
    pure (.value (.func (.method name) first captured))
   | _=>pure (.value (.func (.method name) first captured))
  | x=>pure (.value x):Sem Next).run P w) r:=by
 unfold JH at e;split at e<;>(try (cases e;done))<;>cases e
 ·cases hx with | ptr _ _ _ r hr=>exact ⟨M,μ,w,_,rfl,s,.refl _ _ _,.ptr _ _ _ r hr⟩
 ·cases hx with | ept _ _ _ _ r hr=>exact ⟨M,μ,w,_,rfl,s,.refl _ _ _,.ept _ _ _ _ r hr⟩
 ·cases hx with | view _ _ b off x hm h1 hr=>exact ⟨M,μ,w,_,rfl,s,.refl _ _ _,.view _ _ _ _ x hm h1 hr⟩
 ·cases hx with | ifc _ _ _ v hr=>exact ⟨M,μ,w,_,rfl,s,.refl _ _ _,.ifc _ _ _ _ hr⟩
 ·cases hx with | yl _ _ r hr=>exact ⟨M,μ,w,_,rfl,s,.refl _ _ _,.yl _ _ r hr⟩
 ·cases hx with | fn _ _ _ _ va vb hf hla hlb ha hb=>exact ⟨M,μ,w,_,rfl,s,.refl _ _ _,.fn _ _ _ _ _ _ hf hla hlb ha hb⟩
theorem Ri {α β:Type} (g:α->Sem β) (f:α->β) : ∀ (l:List α),(∀ x∈l,(g x).run P w = .ok (f x) w)->(l.mapM g).run P w = .ok (l.map f) w
 | [],_=>by simp
 | a::l,hl=>by
  have h1:=hl a (by simp);have h2:=Ri g f l λx hx=>hl x (by simp [hx]);simp [List.mapM_cons,h1,h2]
def Rj (P:Program) (f:Field):Nat:=(BV P f.type).getD 0
theorem YM {fs:Array Field} (hall:fs.toList.all (λf=>(BV P f.type).isSome)=true) :
  (fs.mapM (λf=>(do pure (f.offset,<- sizeOf f.type):Sem (Nat×Nat)))).run P w = .ok (fs.map λf=>(f.offset,Rj P f)) w:=by
 rw [Array.mapM_eq_mapM_toList];have:=Ri (P:=P) (w:=w) (λf:Field=>(do pure (f.offset,<- sizeOf f.type):Sem (Nat×Nat))) (λf=>(f.offset,Rj P f)) fs.toList ?_
 ·simp only [Sem.run_map,this,Result.andThen]
  congr 1
  apply Array.ext';simp
 ·intro f hf;have:=List.all_eq_true.1 hall f hf;obtain ⟨n,hn⟩:=Option.isSome_iff_exists.1 this;simp [Bn hn,Rj,hn]
end
end Go.Proofs.YthpkjfabdccpdaaGreat.Pi
namespace Go.Proofs.YthpkjfabdccpdaaGreat.Pi
section
variable {P:Program} {M:B5} {μ:Mu} {h:Hp} {w:World}
inductive PsRep (M:B5) (μ:Mu):List (Nat×PV)->List (Nat×Value)->Prop
 | nil:PsRep M μ [] []
 | cons (i:Nat) (p:PV) (v:Value) (ps:List (Nat×PV)) (vs:List (Nat×Value)) (h:Rep M μ p v) (t:PsRep M μ ps vs):PsRep M μ ((i,p)::ps) ((i,v)::vs)
theorem Kr {t:T PV} {nt:Nat} {a:Act} (ht:TmpsRep M μ t nt a.tmps) : ∀ {l:List (Nat×Operand)} {ps:List (Nat×PV)},FN t l=some ps->PsRep M μ ps (l.map λ(i,x)=>(i,a.eval x))
 | [],ps,e=>by cases e;exact .nil
 | (i,o)::l,ps,e=>by
  unfold FN at e;split at e
  ·rename_i p q hp hq;cases e;exact .cons _ _ _ _ _ (Fj ht hp) (Kr ht hq)
  ·cases e
theorem WW {fs:Array Field} {ps:List (Nat×PV)} {vs:List (Nat×Value)} (hps:PsRep M μ ps vs) : ∀ {pl:List (Nat×Nat×List PV)},H7 P fs ps=some pl ->
  PartsAt M μ (λi=>(fs.map λf=>(f.offset,Rj P f))[i]?) vs pl:=by
 induction hps with
 | nil=>intro pl e;cases e;exact .nil
 | cons i p v ps vs hr _ ih =>
  intro pl e;unfold H7 at e;split at e
  ·rename_i f r hf hr';split at e
   ·rename_i n hn;obtain ⟨hn0,e⟩:=Be e;cases e;refine .cons _ _ _ _ _ _ _ ?_ hr (by simpa using hn0) (ih hr');simp [hf,Rj,hn]
   ·cases e
  ·cases e
theorem QZ {n:Nat} (hn:0<n) {ps:List (Nat×PV)} {vs:List (Nat×Value)} (hps:PsRep M μ ps vs):PartsAt M μ (λi=>some (i*n,n)) vs (Js n ps):=by
 induction hps with
 | nil=>exact .nil
 | cons i p v ps vs hr _ ih=>exact .cons _ _ _ _ _ _ _ rfl hr hn ih
theorem Qa {vs:Array Value} (h : ∀ v∈vs.toList,v.oneCell'=true) : ∀ (i:Nat) (v:Value),vs[i]? = some v->v.oneCell'=true :=
 λ_ v hv=>h v (Array.mem_toList_iff.2 (Array.mem_of_getElem? hv))
theorem YN (s:Sim M μ h w) {ty:TypeId} {ps:List (Nat×PV)} {parts:Array (Nat×Value)} (hps:PsRep M μ ps parts.toList) {r:R} (e:En P h ty ps=some r) :
  EY P M μ w ((do pure (.value (<- Instr.build ty parts)):Sem Next).run P w) r:=by
 unfold En at e;split at e
 ·rename_i z fs hz hu;obtain ⟨hall,e⟩:=Be e;split at e
  ·rename_i pl hpl;obtain ⟨cs,hcs,rfl⟩:=AL e;obtain ⟨zv,i,hi,hiz,hrun,hr,h1⟩:=Er hz M μ w;obtain ⟨cells',hf,hr',h1'⟩:=VX (WW hps hpl) hr (Qa h1) hcs;refine AQ s (x:=.agg cells') ?_ (.agg _ _ _ (by simpa using hr'.1) h1' λi c v hc hv=>hr'.2 i c v hc (by simpa using hv));simp only [Instr.build,Sem.run_bind,hrun,Result.andThen,Ab hu,Sem.run_pure,YM hall,hf]
  ·cases e
 ·rename_i z n el hz hu;split at e
  ·rename_i n hn;obtain ⟨hn0,e⟩:=Be e;obtain ⟨cs,hcs,rfl⟩:=AL e;obtain ⟨zv,i,hi,hiz,hrun,hr,h1⟩:=Er hz M μ w;obtain ⟨cells',hf,hr',h1'⟩:=VX (QZ (by simpa using hn0) hps) hr (Qa h1) hcs;refine AQ s (x:=.agg cells') ?_ (.agg _ _ _ (by simpa using hr'.1) h1' λi c v hc hv=>hr'.2 i c v hc (by simpa using hv));simp only [Instr.build,Sem.run_bind,hrun,Result.andThen,Ab hu,Sem.run_pure,Bn hn,hf]
  ·cases e
 ·cases e
def FlatRep (M:B5) (μ:Mu) (n:Nat) (es:List PV) (arr:Array Value):Prop :=
 arr.size=es.length*n/\(∀ (i:Nat) (e:PV),es[i]? = some e->e.cells.length=n) /\
  ∀ (i:Nat) (e:PV) (j:Nat) (c:PV),es[i]? = some e->e.cells[j]? = some c -> ∃ v,arr[i*n+j]? = some v/\v.oneCell'=true/\Rep M μ c v
theorem O5 {c:PV} {v:Value} (hr:Rep M μ c v) (h1:v.oneCell'=true):c.cells=[c]:=by
 cases hr<;>first | rfl | (simp [Value.oneCell'] at h1)
theorem TV {ag:Bool} {z:List PV} {z1:PV} (e:Rd ag z=some z1) {vs:List Value} (hr:RepL M μ z vs) (h1 : ∀ v∈vs,v.oneCell'=true):z1.cells=z:=by
 unfold Rd at e;cases ag with
 | true=>simp at e;subst e;rfl
 | false =>
  simp at e;split at e
  ·rename_i c;cases e;obtain ⟨v,hv,hrv⟩:=hr.get (i:=0) rfl;exact O5 hrv (h1 v (List.mem_of_getElem? hv))
  ·cases e
theorem eU (z:Array Value) (n k:Nat) (hk:k<n):((Array.range n).map (z[· % z.size]!))[k]? = some (z[k % z.size]!):=by
 simp [hk]
theorem PS {z:List PV} {zv:Array Value} {n len:Nat} {ag:Bool} {z1:PV} (hr:RepL M μ z zv.toList) (h1 : ∀ v∈zv.toList,v.oneCell'=true) (hn:z.length=n) (_hn0:0<n) (e:Rd ag z=some z1) :
  FlatRep M μ n (List.replicate len z1) ((Array.range (len*n)).map (zv[· % zv.size]!)):=by
 have hc:=TV e hr h1;have hs:zv.size=n:=by rw [<- hn];simpa using hr.1.symm
 refine ⟨by simp,λi el hel => ?_,λi el j c hel hcj => ?_⟩
 ·obtain ⟨_,rfl⟩:=List.getElem?_eq_some_iff.1 hel;simp [hc,hn]
 ·obtain ⟨hi,rfl⟩:=List.getElem?_eq_some_iff.1 hel;simp only [List.getElem_replicate,List.length_replicate] at hcj hi;rw [hc] at hcj;have hj:j<n:=by rw [<- hn];exact (List.getElem?_eq_some_iff.1 hcj).1
  have hlt:i*n+j<len*n:=by
   have:(i+1)*n<=len*n:=Nat.mul_le_mul_right _ (by omega);rw [Nat.add_mul] at this;omega
  have hmod:(i*n+j) % n=j:=by rw [Nat.mul_comm,Nat.mul_add_mod];exact Nat.mod_eq_of_lt hj
  refine ⟨_,eU zv _ _ hlt,?_⟩;rw [hs,hmod];have hz:zv[j]? = some zv[j]! := by rw [Array.getElem?_eq_getElem (by omega)];simp [hs,hj]
  exact ⟨Qa h1 j _ hz,hr.2 j c _ hcj (by simpa using hz)⟩
theorem YO {n:Nat} {es:List PV} {arr:Array Value} {i:Nat} {p:PV} {v:Value} (hf:FlatRep M μ n es arr) (hn0:0<n) (hr:Rep M μ p v) (hp:p.cells.length=n) (hi:i<es.length) :
  v.cells.size=n/\i*n+n<=arr.size/\FlatRep M μ n (lset es i p) (v.cells.zipIdx.foldl (λcs (p:Value×Nat)=>cs.setIfInBounds (i*n+p.2) p.1) arr):=by
 obtain ⟨hc,hone⟩:=hr.cells (Gc hp hn0);have hs:v.cells.size=n:=by rw [<- hp];simpa using hc.1.symm
 have hle:i*n+n<=arr.size:=by
  rw [hf.1];have:(i+1)*n<=es.length*n:=Nat.mul_le_mul_right _ (by omega);rw [Nat.add_mul] at this;omega
 refine ⟨hs,hle,?_,?_,?_⟩
 ·rw [IA,hf.1];simp [A8]
 ·intro k e hk;rw [A8,List.getElem?_set] at hk;by_cases hik:i=k
  ·rw [if_pos hik,if_pos hi] at hk;cases hk;exact hp
  ·rw [if_neg hik] at hk;exact hf.2.1 k e hk
 ·intro k e j c hk hcj
  have hj:j<n:=by
   have:=(List.getElem?_eq_some_iff.1 hcj).1;rw [A8,List.getElem?_set] at hk;by_cases hik:i=k
   ·rw [if_pos hik,if_pos hi] at hk;cases hk;omega
   ·rw [if_neg hik] at hk;have:=hf.2.1 k e hk;omega
  rw [JJ _ _ _ (by omega),hs];rw [A8,List.getElem?_set] at hk;by_cases hik:i=k
  ·rw [if_pos hik,if_pos hi] at hk;cases hk;subst hik;rw [if_pos (by omega),show i*n+j-i*n=j by omega];obtain ⟨y,hy,hry⟩:=hc.get hcj;exact ⟨y,by simpa using hy,hone j y (by simpa using hy),hry⟩
  ·rw [if_neg hik] at hk;rw [if_neg ?_]
   ·exact hf.2.2 k e j c hk hcj
   ·intro hcon;exact hik (Ko (i:=k) (k:=i) (j':=k*n+j-i*n) hj (by omega) (by omega)).1.symm
theorem YP {n:Nat} (hn0:0<n) {ps:List (Nat×PV)} {vs:List (Nat×Value)} (hps:PsRep M μ ps vs) : ∀ {es es':List PV} {arr:Array Value},FlatRep M μ n es arr->KV n es ps=some es' ->
  ∃ arr',Instr.fill (λi=>some (i*n,n)) arr vs=some arr'/\FlatRep M μ n es' arr'/\es'.length=es.length:=by
 induction hps with
 | nil=>intro es es' arr hf e;simp [KV] at e;subst e;exact ⟨arr,by simp [Instr.fill],hf,rfl⟩
 | cons i p v ps vs hr _ ih =>
  intro es es' arr hf e;unfold KV at e;obtain ⟨hc,e⟩:=Be e;simp at hc;obtain ⟨a,b,c⟩:=YO hf hn0 hr hc.1 hc.2;obtain ⟨arr',h1,h2,h3⟩:=ih c e;refine ⟨arr',?_,h2,h3.trans (by simp [A8])⟩;unfold Instr.fill;simp only [a];rw [if_neg (by simp;omega)];exact h1
theorem LU : ∀ {ps qs:List PV} {l:List Nat},By h ps=some (qs,l)->qs.length=ps.length /\ ∀ (i:Nat) (p:PV),ps[i]? = some p -> ∃ q l',BO h BI p=some (q,l')/\qs[i]? = some q /\ ∀ x∈l',x∈l
 | [],qs,l,e=>by simp [By] at e;obtain ⟨rfl,rfl⟩:=e;exact ⟨rfl,λi p hp=>by simp at hp⟩
 | p::ps,qs,l,e=>by
  unfold By at e;split at e
  ·rename_i q a qs' b h1 h2;cases e;obtain ⟨k1,k2⟩:=LU h2;refine ⟨by simp [k1],λi x hx => ?_⟩;cases i with
   | zero=>simp at hx;subst hx;exact ⟨q,a,h1,rfl,λy hy=>List.mem_append_left _ hy⟩
   | succ i =>
    obtain ⟨q',l',h3,h4,h5⟩:=k2 i x (by simpa using hx);exact ⟨q',l',h3,by simpa using h4,λy hy=>List.mem_append_right _ (h5 y hy)⟩
  ·cases e
theorem WX (s:Sim M μ h w) {n:Nat} {es qs:List PV} {ids:List Nat} {arr:Array Value} (hf:FlatRep M μ n es arr) (e:By h es=some (qs,ids)) (L:List Nat) (hL : ∀ x∈ids,x∈L):FlatRep (NF M h μ w L) mu0 n qs arr:=by
 obtain ⟨k1,k2⟩:=LU e
 have get : ∀ (i:Nat) (q:PV),qs[i]? = some q -> ∃ el l',es[i]? = some el/\BO h BI el=some (q,l') /\ ∀ x∈l',x∈ids:=by
  intro i q hq;have hi:i<es.length:=by rw [<- k1];exact (List.getElem?_eq_some_iff.1 hq).1
  obtain ⟨q',l',a1,a2,a3⟩:=k2 i _ (List.getElem?_eq_getElem hi);rw [hq] at a2;cases a2;exact ⟨_,l',List.getElem?_eq_getElem hi,a1,a3⟩
 refine ⟨by rw [hf.1,k1],λi q hq => ?_,λi q j c hq hcj => ?_⟩
 ·obtain ⟨el,l',a1,a2,_⟩:=get i q hq;rw [(Fa a2).1];exact hf.2.1 i el a1
 ·obtain ⟨el,l',a1,a2,a3⟩:=get i q hq;have hcl:=Fa a2;have hj:j<el.cells.length:=by rw [<- hcl.1];exact (List.getElem?_eq_some_iff.1 hcj).1
  obtain ⟨n',c',l'',b1,b2,b3,b4⟩:=hcl.2 j _ (List.getElem?_eq_getElem hj);rw [hcj] at b3;cases b3;obtain ⟨v,c1,c2,c3⟩:=hf.2.2 i el j _ a1 (List.getElem?_eq_getElem hj);exact ⟨v,c1,c2,Kq s L n' _ _ l'' v b2 c3 λx hx=>hL x (a3 x (b4 x hx))⟩
theorem FlatRep.mono {M':B5} {μ':Mu} {n:Nat} {es:List PV} {arr:Array Value} (hf:FlatRep M μ n es arr) (hM:MLe M M') (hμ:MuLe μ μ'):FlatRep M' μ' n es arr :=
 ⟨hf.1,hf.2.1,λi e j c a b=>let ⟨v,h1,h2,h3⟩:=hf.2.2 i e j c a b;⟨v,h1,h2,h3.mono hM hμ⟩⟩
theorem Rk {M':B5} {n:Nat} {es:List PV} {arr:Array Value} {b off:Nat} (hf:FlatRep M' mu0 n es arr) (hM : ∀ (k:Nat) (v:Value),arr[k]? = some v->M' ⟨b,off+k,none⟩=some v) (μ:Mu) (full:Bool) (cap:Nat) (hc:es.length<=cap) (hfull:full=true->cap=es.length) :
  Rep M' μ (.lst full es) (.slice (some ⟨b,off,none⟩) es.length cap):=by
 refine .lst _ _ _ _ _ n _ (λi j=>(arr[i*n+j]?).getD undef) hfull hc hf.2.1 ?_ ?_ ?_
 all_goals
  intro i e j c hi hj;obtain ⟨v,h1,h2,h3⟩:=hf.2.2 i e j c hi hj;simp only [h1,Option.getD_some]
 ·rw [Nat.add_assoc];exact hM _ _ h1
 ·exact h2
 ·exact h3
theorem O6 (s:Sim M μ h w) {ty:TypeId} {len:Nat} {ps:List (Nat×PV)} {parts:Array (Nat×Value)} (hps:PsRep M μ ps parts.toList) {r:R} (e:Bi P h ty len ps=some r) :
  EY P M μ w ((do pure (.value (<- Instr.buildSlice ty len parts)):Sem Next).run P w) r:=by
 unfold Bi at e;split at e
 ·rename_i el hu;split at e
  ·rename_i n ag z hn hag hz;split at e
   ·rename_i z1 hz1;obtain ⟨hc,e⟩:=EZ e;simp at hc;obtain ⟨⟨hn0,hle⟩,hzl⟩:=hc;split at e
    ·rename_i es hes;split at e
     ·rename_i qs ids hpur;obtain ⟨h',hfr,rfl⟩:=AL e;obtain ⟨zv,i,hi,hiz,hrun,hr,h1⟩:=Er hz M μ w;obtain ⟨arr',hf,hflat,hlen⟩:=YP hn0 hps (PS (len:=len) hr h1 hzl hn0 hz1) hes;obtain ⟨M',m1,m2,m3,_⟩:=EF ids s hfr;have hq:=(WX s hflat hpur ids (λ_ h=>h)).mono m1 (.refl _);have hd:=m2.data (w':=w.alloc (.cells arr' el)) (arr:=arr') (ty:=el) rfl;have hql:qs.length=len:=by rw [(LU hpur).1,hlen];simp
      refine ⟨_,μ,w.alloc (.cells arr' el),.slice (some ⟨w.heap.size,0,none⟩) len len,?_,hd.1,(NG m1 m3).trans (Grow.data hd.2 rfl rfl rfl rfl (λ_ _ _ h=>by cases h;rfl)),?_⟩
      ·have hsmall : ¬ (2 ^ 24<len*n):=by simpa using hle
       by_cases h0:len*n=0
       ·have hl0:len=0:=by rcases Nat.mul_eq_zero.1 h0 with h | h<;>omega
        have hzero:(Array.range (len*n)).map (zv.cells[· % zv.cells.size]!)=(Array.range (len*n)).map ((#[]:Array Value)[· % (#[]:Array Value).size]!):=by simp [h0]
        rw [hzero] at hf;simp [h0] at hf;simp [Instr.buildSlice,Ab hu,Bn hn,h0,hf,newRow]
       ·simp [Instr.buildSlice,Ab hu,Bn hn,h0,hrun,hsmall,hf,newRow]
      ·rw [<- hql];refine Rk (arr:=arr') (hq.mono hd.2 (.refl _)) (λk v hk => ?_) μ true _ (Nat.le_refl _) (λ_=>rfl);simp [Hu,hk]
     ·cases e
    ·cases e
   ·cases e
  ·cases e
 ·cases e
theorem JK {p:PV} {n:Nat} {v:Value} (e:KW p=some n) (hr:Rep M μ p v) : ∃ k i,p = .int k i/\v = .int k i/\0<=i/\i.toNat=n:=by
 unfold KW at e;split at e
 ·rename_i k i;obtain ⟨h0,e⟩:=Be e;cases e;cases hr;exact ⟨k,i,rfl,rfl,by simpa using h0,rfl⟩
 ·cases e
theorem Nt {p:PV} {n:Nat} {v:Value} (e:Jt p=some n) (hr:Rep M μ p v) : ∃ i,v = .int .i64 i/\0<=i/\i.toNat=n:=by
 unfold Jt at e;split at e
 ·rename_i i;obtain ⟨h0,e⟩:=Be e;cases e;cases hr;exact ⟨i,rfl,by simpa using h0,rfl⟩
 ·cases e
theorem Nu (i:Int) (h0:0<=i) (h1:i<9223372036854775808):IntKind.i64.wrap i=i:=by
 unfold IntKind.wrap
 have e:i % (2 ^ IntKind.i64.bits:Int)=i:=by
  have:(2 ^ IntKind.i64.bits:Int)=18446744073709551616:=by decide
  rw [this];omega
 simp only [e]
 have e2 : ¬ (i>=(2 ^ (IntKind.i64.bits-1):Int)):=by
  have:(2 ^ (IntKind.i64.bits-1):Int)=9223372036854775808:=by decide
  rw [this];omega
 simp [e2]
theorem eV (s:Sim M μ h w) {id:Nat} {ty:TypeId} {l c:PV} {x y:Value} (hx:Rep M μ l x) (hy:Rep M μ c y) {r:R} (e:Gs P h id ty l c=some r) :
  EY P M μ w ((do pure (.value (<- Instr.makeSlice ty x y)):Sem Next).run P w) r:=by
 unfold Gs at e;split at e
 ·rename_i el ln cn hu hl hc;split at e
  ·rename_i n ag z ti hn hag hz hti;split at e
   ·rename_i z1 hz1;obtain ⟨hcond,e⟩:=Be e;simp [Dw] at hcond;obtain ⟨⟨⟨⟨hlc,hcs⟩,hb⟩,hn0⟩,hzl⟩:=hcond;obtain ⟨h',hnew,rfl⟩:=AL e;obtain ⟨li,rfl,hl0,rfl⟩:=Nt hl hx;obtain ⟨ci,rfl,hc0,rfl⟩:=Nt hc hy;obtain ⟨zv,i,hi,hiz,hrun,hr,h1⟩:=Er hz M μ w;obtain ⟨hget,hset,_⟩:=Hp.get_new hnew;have hflat:=PS (len:=ci.toNat) hr h1 hzl hn0 hz1
    have hμ:μ id=none:=by
     cases hm:μ id with
     | none=>rfl
     | some x=>exact absurd hget (s.use id x hm).1
    have hS:=s.fresh (w':=w.alloc (.cells ((Array.range (ci.toNat*n)).map (zv.cells[· % zv.cells.size]!)) el)) (r:=⟨w.heap.size,0,n,ci.toNat⟩) (o:=.cells _ el (0,0)) hget hset rfl rfl
     ⟨_,el,rfl,by simp,by simp,by simp,hn0,λi e he=>hflat.2.1 i e he,λi e j c v a b hv=>by
      obtain ⟨v',c1,c2,c3⟩:=hflat.2.2 i e j c a b;simp only [Nat.zero_add] at hv;rw [hv] at c1;cases c1
      exact ⟨c2,c3.mono (.refl _) (Ht hμ)⟩⟩
    refine ⟨M,_,_,.slice (some ⟨w.heap.size,0,none⟩) li.toNat ci.toNat,?_,hS.1,Grow.newBlk hμ rfl rfl rfl rfl rfl (λ_ _ _ h=>by cases h;rfl),?_⟩
    ·have w1:=Nu li hl0 (by omega);have w2:=Nu ci hc0 (by omega)
     have hbytes : ¬ ((281474976710656:Int)<ti.bytes*ci):=by
      have:(ti.bytes:Int)*ci<=1048576*1048576:=Int.mul_le_mul (by omega) (by omega) hc0 (by omega);omega
     have hneg : ¬ (ci<0):=by omega
     have hneg2 : ¬ (li<0):=by omega
     have iv : ¬ (ci<li):=by omega
     have hti':i=ti:=by rw [hti] at hi;exact (Option.some.inj hi).symm
     by_cases h0:ci.toNat*n=0
     ·have hz0:(Array.range (ci.toNat*n)).map (zv.cells[· % zv.cells.size]!)=(Array.range (ci.toNat*n)).map ((#[]:Array Value)[· % (#[]:Array Value).size]!):=by simp [h0]
      rw [hz0];simp [Instr.makeSlice,Ab hu,asInt,asIntOf,Jv hti,w1,w2,hbytes,hneg,hneg2,iv,Bn hn,h0,newRow]
     ·simp [Instr.makeSlice,Ab hu,asInt,asIntOf,Jv hti,w1,w2,hbytes,hneg,hneg2,iv,Bn hn,h0,hrun,newRow]
    ·have:=Rep.own (M:=M) (HX μ id ⟨w.heap.size,0,n,ci.toNat⟩) id 0 li.toNat ⟨w.heap.size,0,n,ci.toNat⟩ (by simp [HX]) (by simp;omega);simpa using this
   ·cases e
  ·cases e
 ·cases e
end
end Go.Proofs.YthpkjfabdccpdaaGreat.Pi
namespace Go.Proofs.YthpkjfabdccpdaaGreat.Pi
section
variable {P:Program} {M:B5} {μ:Mu} {h:Hp} {w:World}
def Rl (M:B5) (μ:Mu):Option PV->Option Value->Prop
 | none,none=>True
 | some p,some v=>Rep M μ p v
 | _,_=>False
theorem TW {t:T PV} {nt:Nat} {a:Act} (ht:TmpsRep M μ t nt a.tmps) {o:Option Operand} {p:Option PV} (e:eP t o=some p):Rl M μ p (o.map a.eval):=by
 cases o with
 | none=>cases e;trivial
 | some o =>
  simp only [eP] at e;cases hp:GI t o with
  | none=>rw [hp] at e;cases e
  | some q=>rw [hp] at e;cases e;exact Fj ht hp
theorem CS {k:IntKind} {i:Int} {y:Nat} (h0:0<=i) (hle:i.toNat<=y) (c:BoundsCode):(Instr.sliceBound (.int k i) y c).run P w = .ok i.toNat w:=by
 have:0<=i/\i<=(y:Int):=⟨h0,by omega⟩;simp [Instr.sliceBound,asIntOf,this]
theorem IB {d n:Nat} {p:Option PV} {v:Option Value} (e:Fg d p=some n) (hr:Rl M μ p v):(p=none/\v=none/\n=d) \/ ∃ k i,v=some (.int k i)/\p.isSome=true/\0<=i/\i.toNat=n:=by
 cases p with
 | none=>cases v with
  | none=>cases e;exact .inl ⟨rfl,rfl,rfl⟩
  | some v=>exact hr.elim
 | some p=>cases v with
  | none=>exact hr.elim
  | some v=>obtain ⟨k,i,_,rfl,h0,h1⟩:=JK e hr;exact .inr ⟨k,i,rfl,rfl,h0,h1⟩
theorem GK {isS:Bool} {len cap l hh m:Nat} {lo hi mx:Option PV} {vlo vhi vmx:Option Value} (rlo:Rl M μ lo vlo) (rhi:Rl M μ hi vhi) (rmx:Rl M μ mx vmx)
  (elo:Fg 0 lo=some l) (ehi:Fg len hi=some hh) (emx:Fg cap mx=some m) (hm:m<=cap) (hhm:hh<=m) (hl:l<=hh) (hmx:mx.isSome=true->hi.isSome=true) :
  (Instr.sliceBounds isS len cap vlo vhi vmx).run P w = .ok (l,hh,m) w:=by
 rcases IB emx rmx with ⟨rfl,rfl,rfl⟩ | ⟨k,i,rfl,hs,h0,rfl⟩
 ·rcases IB ehi rhi with ⟨_,rfl,rfl⟩ | ⟨k',i',rfl,_,h0',rfl⟩
  ·rcases IB elo rlo with ⟨_,rfl,rfl⟩ | ⟨k2,i2,rfl,_,h02,rfl⟩
   ·simp only [Instr.sliceBounds,Sem.run_bind,Sem.run_pure,Result.andThen]
   ·simp only [Instr.sliceBounds,Sem.run_bind,Sem.run_pure,Result.andThen,CS h02 hl]
  ·rcases IB elo rlo with ⟨_,rfl,rfl⟩ | ⟨k2,i2,rfl,_,h02,rfl⟩
   ·simp only [Instr.sliceBounds,Sem.run_bind,Sem.run_pure,Result.andThen,CS h0' hhm]
   ·simp only [Instr.sliceBounds,Sem.run_bind,Sem.run_pure,Result.andThen,CS h0' hhm,CS h02 hl]
 ·have hhi:=hmx hs;rcases IB ehi rhi with ⟨rfl,_,_⟩ | ⟨k',i',rfl,_,h0',rfl⟩
  ·cases hhi
  ·rcases IB elo rlo with ⟨_,rfl,rfl⟩ | ⟨k2,i2,rfl,_,h02,rfl⟩
   ·simp only [Instr.sliceBounds,Sem.run_bind,Sem.run_pure,Result.andThen,CS h0' hhm,CS h0 hm]
   ·simp only [Instr.sliceBounds,Sem.run_bind,Sem.run_pure,Result.andThen,CS h0' hhm,CS h0 hm,CS h02 hl]
theorem ga {a b:Nat} (e:Nat.blt a b=false):b<=a:=by
 by_cases h:a<b
 ·have:Nat.blt a b=true:=by simpa using h
  rw [this] at e;cases e
 ·omega
theorem YQ {l:List UInt8} {s:ByteArray} (e:s.data.toList=l) (μ:Mu):Rep M μ (.str l) (.string s):=by subst e;exact .str _ s
theorem Va {full full':Bool} {es:List PV} {a:Option Addr} {len cap l hh m n:Nat} (hr:Rep M μ (.lst full es) (.slice a len cap)) (hl:l<=hh) (hh':hh<=es.length) (hm:hh<=m) (_hmc:m<=cap) (hel:GJ n es=true)
  (hf:full'=true->m=hh):Rep M μ (.lst full' ((es.drop l).take (hh-l))) (.slice (if m=l then a else a.map (·.add (l*n))) (hh-l) (m-l)):=by
 have hlen:((es.drop l).take (hh-l)).length=hh-l:=by simp;omega
 by_cases h0:hh=l
 ·subst h0;have:(es.drop hh).take (hh-hh)=[]:=by simp
  rw [this,Nat.sub_self];refine .lst0' ?_ λhx=>by have:=hf hx;omega
  have:a≠none:=by cases hr<;>(intro h;cases h)
  cases a with
  | none=>exact absurd rfl this
  | some a=>split<;>(intro h;cases h)
 ·cases hr with
  | lst0=>simp at hh';omega
  | lst _ _ _ b off esz _ x hfull hc hs hmem h1 hrep =>
   have hz:esz=n:=by
    cases es with
    | nil=>simp at hh';omega
    | cons e es=>have:=hs 0 e rfl;simp [GJ] at hel;omega
   subst hz;rw [if_neg (by omega)];simp only [Option.map_some,EX]
   have:Rep M μ (.lst full' ((es.drop l).take (hh-l))) (.slice (some ⟨b,off+l*esz,none⟩) ((es.drop l).take (hh-l)).length (m-l)):=by
    have hget : ∀ (i:Nat) (e:PV),((es.drop l).take (hh-l))[i]? = some e->es[l+i]? = some e:=by
     intro i e he;rw [List.getElem?_take] at he;split at he
     ·rwa [List.getElem?_drop] at he
     ·cases he
    refine .lst _ _ _ _ _ esz _ (λi j=>x (l+i) j) (λhx=>by have:=hf hx;omega) (by omega) (λi e he=>hs _ e (hget i e he)) (λi e j c he hc => ?_) (λi e j c he hc=>h1 _ e j c (hget i e he) hc) (λi e j c he hc=>hrep _ e j c (hget i e he) hc);have:=hmem _ e j c (hget i e he) hc;rw [Nat.add_mul] at this;rw [show off+l*esz+i*esz+j=off+(l*esz+i*esz)+j by omega];exact this
   rwa [hlen] at this
theorem WY {full:Bool} {es:List PV} {a:Option Addr} {len cap:Nat} (hr:Rep M μ (.lst full es) (.slice a len cap)):Rep M μ (.lst true es) (.slice a len len):=by
 cases hr with
 | lst0=>exact .lst0 _ _ _ _ λ_=>rfl
 | lst _ _ _ b off esz _ x hfull hc hs hmem h1 hrep=>exact .lst _ _ _ _ _ esz _ x (λ_=>rfl) (Nat.le_refl _) hs hmem h1 hrep
theorem eW {full:Bool} {es:List PV} {a:Option Addr} {n c:Nat} (hr:Rep M μ (.lst full es) (.slice a n c)):es.length=n:=by
 cases hr<;>rfl
theorem Dr {ty el n len cap l hh m:Nat} {a:Option Addr} {vlo vhi vmx:Option Value} (hu:P.underlying ty=some (.slice el)) (hn:BV P el=some n)
  (hb:(Instr.sliceBounds true len cap vlo vhi vmx).run P w = .ok (l,hh,m) w) :
  (Instr.sliceAt ty (.slice a len cap) vlo vhi vmx).run P w = .ok (.slice (if m=l then a else a.map (·.add (l*n))) (hh-l) (m-l)) w:=by
 simp only [Instr.sliceAt,Instr.slice,Sem.run_bind,Ab hu,Result.andThen,hb,Bn hn,Sem.run_pure]
theorem YR (s:Sim M μ h w) {ty:TypeId} {p:PV} {x:Value} {lo hi mx:Option PV} {vlo vhi vmx:Option Value} (hx:Rep M μ p x) (rlo:Rl M μ lo vlo) (rhi:Rl M μ hi vhi) (rmx:Rl M μ mx vmx) {r:R}
  (e:Bq P h ty p lo hi mx=some r):EY P M μ w ((do pure (.value (<- Instr.sliceAt ty x vlo vhi vmx)):Sem Next).run P w) r:=by
 unfold Bq at e;split at e
 ·rename_i l0 hu;split at e
  ·rename_i hh l ehi elo;replace e:=Be e;obtain ⟨hc,e⟩:=e;cases e;simp at hc;cases hx with
   | str _ sb =>
    cases vmx with
    | some v=>exact rmx.elim
    | none =>
     have hsz:sb.size=sb.data.toList.length:=by simp
     have hb:=GK (P:=P) (w:=w) (isS:=false) (len:=sb.size) (cap:=sb.size) rlo rhi (mx:=none) (vmx:=none) trivial elo (by rw [hsz];exact ehi) rfl (Nat.le_refl _) (by rw [hsz];exact hc.1) hc.2 (by intro h;cases h);refine AQ s (x:=.string (sb.extract l hh)) ?_ (YQ ?_ μ)
     ·simp [Instr.sliceAt,Instr.slice,Ab hu,hb]
     ·rw [<- ByteArray.toList_eq,ByteArray.toList_eq,ByteArray.data_extract];simp [List.extract_eq_take_drop]
  ·cases e
 ·rename_i el p' hu;split at e
  ·cases e
  ·rename_i n hn;split at e
   ·split at e
    ·rename_i e1 e2 e3;replace e:=EZ e;obtain ⟨hc,e⟩:=e;cases e;cases hx
     have hb:=GK (P:=P) (w:=w) (isS:=true) (len:=0) (cap:=0) rlo rhi rmx e1 e2 e3 (Nat.le_refl _) (Nat.le_refl _) (Nat.le_refl _) (by
      intro hs;cases hi with
      | none=>simp [hs] at hc
      | some _=>rfl)
     exact AQ s (Dr (a:=none) hu hn hb) (by simpa using Rep.nils (M:=M) μ)
    ·cases e
   ·rename_i full es;replace e:=EZ e;obtain ⟨hel,e⟩:=e;simp at hel;split at e
    ·rename_i l hh elo ehi
     have hsl : ∃ a cap,x = .slice a es.length cap/\es.length<=cap/\(full=true->cap=es.length):=by
      cases hx with
      | lst0 _ _ a cap hf=>exact ⟨some a,cap,rfl,by simp,hf⟩
      | lst _ _ _ b off esz cap x hf hc hs hm h1 hr=>exact ⟨_,_,rfl,hc,hf⟩
     obtain ⟨a,cap,rfl,hcap,hfull⟩:=hsl;split at e
     ·replace e:=Be e;obtain ⟨hc,e⟩:=e;cases e;simp at hc;cases vmx with
      | some v=>exact rmx.elim
      | none =>
       have hb:=GK (P:=P) (w:=w) (isS:=true) (len:=es.length) (cap:=cap) rlo rhi (mx:=none) (vmx:=none) trivial elo ehi rfl (Nat.le_refl _) (by omega) hc.2 (by intro h;cases h);refine AQ s (Dr hu hn hb) (Va hx hc.2 hc.1 (by omega) (Nat.le_refl _) hel ?_);intro hf;simp at hf;have:=hfull hf.1;omega
     ·rename_i mp;split at e
      ·rename_i m em;replace e:=Be e;obtain ⟨hc,e⟩:=e;cases e;simp at hc;obtain ⟨⟨⟨hc1,hc2⟩,hc3⟩,hc4⟩:=hc;have hb:=GK (P:=P) (w:=w) (isS:=true) (len:=es.length) (cap:=cap) rlo rhi rmx elo ehi (show Fg cap (some mp)=some m from em) (by omega) hc2 hc3 (λ_=>hc4);refine AQ s (Dr hu hn hb) (Va hx hc3 (by omega) hc2 (by omega) hel ?_);intro hf;simp at hf;omega
      ·cases e
    ·cases e
   ·rename_i j off len;split at e
    ·rename_i es ex fz hb0;replace e:=EZ e;obtain ⟨hel,e⟩:=e;simp at hel;split at e
     ·rename_i l hh elo ehi;replace e:=EZ e;obtain ⟨hc,e⟩:=e;simp at hc;obtain ⟨hc1,hc2⟩:=hc;cases hx with
      | own _ _ _ _ r hr hcap =>
       obtain ⟨r',hr',arr,ety,h1,h2,h3,h4,h5,h6,h7⟩:=s.blk j _ hb0;rw [hr] at hr';cases hr'
       have addr : ∀ m,l<m->off+l<es.length->(if m=l then some (⟨r.b,r.base+off*r.esz,none⟩:Addr) else (some ⟨r.b,r.base+off*r.esz,none⟩:Option Addr).map (·.add (l*n)))=some ⟨r.b,r.base+(off+l)*r.esz,none⟩:=by
        intro m hm hlt;rw [if_neg (by omega)]
        have:n=r.esz:=by
         cases es with
         | nil=>simp at hlt
         | cons e0 es=>have:=h6 0 e0 rfl;simp [GJ] at hel;omega
        simp only [Option.map_some,EX,this,Nat.add_mul]
        congr 2;omega
       split at e
       ·cases vmx with
        | some v=>exact rmx.elim
        | none =>
         have hb:=GK (P:=P) (w:=w) (isS:=true) (len:=len) (cap:=r.cap-off) rlo rhi (mx:=none) (vmx:=none) trivial elo ehi rfl (Nat.le_refl _) (by omega) hc1 (by intro h;cases h);cases hlt:Nat.blt (off+l) es.length with
         | true =>
          rw [hlt] at e;cases e;simp at hlt;refine AQ s (Dr hu hn hb) ?_;rw [addr _ (by omega) hlt];have:=Rep.own (M:=M) μ j (off+l) (hh-l) r hr (by omega)
          rwa [show r.cap-(off+l)=r.cap-off-l by omega] at this
         | false =>
          rw [hlt] at e;cases e;have hge:es.length<=off+l:=ga hlt;refine AQ s (Dr hu hn hb) ?_;rw [show hh-l=0 by omega];exact .lst0' (by first | (split<;>(intro h;cases h)) | (intro h;cases h)) (by intro h;cases h)
       ·rename_i mp;split at e
        ·rename_i m em;cases hA:(hi.isSome&&Nat.ble hh m&&ex&&Nat.beq (off+m) es.length) with
         | true =>
          rw [hA] at e;simp at hA;obtain ⟨⟨⟨a1,a2⟩,rfl⟩,a4⟩:=hA;have hcapE:=h4 rfl;have hb:=GK (P:=P) (w:=w) (isS:=true) (len:=len) (cap:=r.cap-off) rlo rhi rmx elo ehi (show Fg (r.cap-off) (some mp)=some m from em) (by omega) a2 hc1 (λ_=>a1);cases hlt:Nat.blt (off+l) es.length with
          | true =>
           rw [hlt] at e;cases e;simp at hlt;refine AQ s (Dr hu hn hb) ?_;rw [addr _ (by omega) hlt];have:=Rep.own (M:=M) μ j (off+l) (hh-l) r hr (by omega)
           rwa [show r.cap-(off+l)=m-l by omega] at this
          | false =>
           rw [hlt] at e;cases e;have hge:es.length<=off+l:=ga hlt;refine AQ s (Dr hu hn hb) ?_;rw [show hh-l=0 by omega,show m-l=0 by omega];exact .lst0' (by first | (split<;>(intro h;cases h)) | (intro h;cases h)) (λ_=>rfl)
         | false =>
          rw [hA] at e;simp only [cond_false] at e;replace e:=Be e;obtain ⟨hB,e⟩:=e;simp at hB;obtain ⟨b1,rfl⟩:=hB;have hb:=GK (P:=P) (w:=w) (isS:=true) (len:=len) (cap:=r.cap-off) rlo rhi rmx elo ehi (show Fg (r.cap-off) (some mp)=some m from em) (by omega) (Nat.le_refl _) hc1 (λ_=>b1);unfold Ha at e;split at e
          ·rename_i f xs ids hp;obtain ⟨h',hfr,rfl⟩:=AL e;obtain ⟨M',m1,m2,m3,_⟩:=EF ids s hfr;have hq:=(Kq s ids _ _ _ _ _ hp (Rep.own μ j (off+l) (m-l) r hr (by omega)) (λ_ h=>h)).mono m1 (.refl _);have hfin:=(WY hq).mono (.refl _) (.mu0 μ);refine ⟨M',μ,w,_,by simp only [Sem.run_bind,Dr hu hn hb,Result.andThen,Sem.run_pure];rfl,m2,NG m1 m3,?_⟩;by_cases hlm:m=l
           ·subst hlm;rw [Nat.sub_self] at hfin ⊢;have:xs=[]:=List.eq_nil_of_length_eq_zero (eW hfin);subst this;exact .lst0' (by first | (split<;>(intro h;cases h)) | (intro h;cases h)) (λ_=>rfl)
           ·rw [addr _ (by omega) (by omega)];exact hfin
          ·cases e
        ·cases e
     ·cases e
    ·cases e
   ·cases e
 ·cases e
end
end Go.Proofs.YthpkjfabdccpdaaGreat.Pi
namespace Go.Proofs.YthpkjfabdccpdaaGreat.Pi
section
variable {P:Program} {M:B5} {μ:Mu} {h:Hp} {w:World}
theorem Hx {b off:Nat} {fd:Field} {n:Nat} (hn:BV P fd.type=some n) (h0:n≠0):(fieldPlace ⟨b,off,none⟩ fd).run P w = .ok ⟨b,off+fd.offset,none⟩ w:=by
 simp [fieldPlace,Bn hn,h0,EX]
theorem Qb (s:Sim M μ h w) {sty:TypeId} {p:PV} {x:Value} {f:Nat} (hx:Rep M μ p x) {r:R} (e:CG P h sty p f=some r) :
  EY P M μ w ((do pure (.value (<- Instr.fieldAt sty x f)):Sem Next).run P w) r:=by
 unfold CG at e;split at e
 ·rename_i fs hu;split at e
  ·rename_i fd hfd;split at e
   ·rename_i n hn;replace e:=EZ e;obtain ⟨h0,e⟩:=e;have h0':n≠0:=by intro hc;subst hc;simp at h0
    split at e
    ·rename_i j off;cases e;cases hx with
     | ptr _ _ _ r hr =>
      refine AQ s (x:=.pointer (some ⟨r.b,r.base+off+fd.offset,none⟩)) ?_ ?_
      ·simp [Instr.fieldAt,Ab hu,hfd,Instr.sureAddr,Hx hn h0']
      ·rw [Nat.add_assoc];exact .ptr _ _ _ r hr
    ·rename_i j i off;cases e;cases hx with
     | ept _ _ _ _ r hr =>
      refine AQ s (x:=.pointer (some ⟨r.b,r.base+i*r.esz+off+fd.offset,none⟩)) ?_ ?_
      ·simp [Instr.fieldAt,Ab hu,hfd,Instr.sureAddr,Hx hn h0']
      ·rw [Nat.add_assoc (r.base+i*r.esz)];exact .ept _ _ _ _ r hr
    ·rename_i cs;cases e;cases hx with
     | view _ _ b off x hm h1 hr =>
      refine AQ s (x:=.pointer (some ⟨b,off+fd.offset,none⟩)) ?_ ?_
      ·simp [Instr.fieldAt,Ab hu,hfd,Instr.sureAddr,Hx hn h0']
      ·refine .view _ _ _ _ (λj=>x (fd.offset+j)) (λj c hj => ?_) (λj c hj=>h1 _ c (by simpa using hj)) (λj c hj=>hr _ c (by simpa using hj));rw [Nat.add_assoc];exact hm _ c (by simpa using hj)
    ·cases e
   ·cases e
  ·cases e
 ·cases e
theorem YS (s:Sim M μ h w) {ty:TypeId} {p:PV} {x:Value} {f:Nat} (hx:Rep M μ p x) {r:R} (e:FQ P h ty p f=some r) :
  EY P M μ w ((do pure (.value (<- Instr.field ty x f)):Sem Next).run P w) r:=by
 unfold FQ at e;split at e
 ·rename_i fs cs hu;split at e
  ·rename_i fd hfd;obtain ⟨v,hv,rfl⟩:=Hb e;cases hx with
   | agg _ _ vs hl h1 hr =>
    obtain ⟨y,hy,hry,_⟩:=Jw (P:=P) hv (M:=M) (μ:=μ) (vs:=vs) (off:=fd.offset) (RepL.drop ⟨by simpa using hl,λi c v a b=>hr i c v a (by simpa using b)⟩ fd.offset) h1 w;exact AQ s (by simp [Instr.field,Ab hu,hfd,asAgg,hy]) hry
  ·cases e
 ·cases e
theorem Qc (s:Sim M μ h w) {ty:TypeId} {p q:PV} {x y:Value} (hx:Rep M μ p x) (hy:Rep M μ q y) {r:R} (e:B0 P h ty p q=some r) :
  EY P M μ w ((do pure (.value (<- Instr.indexAt ty x y)):Sem Next).run P w) r:=by
 unfold B0 at e;split at e
 ·rename_i el k hu hk;obtain ⟨kk,i,rfl,rfl,hi0,rfl⟩:=JK hk hy;split at e
  ·rename_i n hn;split at e
   ·rename_i full es;split at e
    ·rename_i e1 he1;rw [Au] at he1;replace e:=Be e;obtain ⟨hl,e⟩:=e;cases e;simp at hl;have hi:i.toNat<es.length:=(List.getElem?_eq_some_iff.1 he1).1;cases hx with
     | lst0=>simp at hi
     | lst _ _ _ b off esz cap x hf hc hs hm h1 hr =>
      have hz:esz=n:=by rw [<- hl];exact (hs _ _ he1).symm
      subst hz;refine AQ s (x:=.pointer (some ⟨b,off+i.toNat*esz,none⟩)) ?_ ?_
      ·have hb:0<=i/\i<(es.length:Int):=⟨hi0,by omega⟩;simp [Instr.indexAt,asIntOf,Ab hu,hb,Bn hn,EX]
      ·exact .view _ _ _ _ (x i.toNat) (λj c hj=>hm _ _ j c he1 hj) (λj c hj=>h1 _ _ j c he1 hj) (λj c hj=>hr _ _ j c he1 hj)
    ·cases e
   ·rename_i j off len;replace e:=Be e;obtain ⟨hlt,e⟩:=e;simp at hlt;split at e
    ·rename_i es ex fz hb0;split at e
     ·rename_i e1 he1;rw [Au] at he1;replace e:=Be e;obtain ⟨hl,e⟩:=e;cases e;simp at hl;cases hx with
      | own _ _ _ _ r hr hcap =>
       obtain ⟨r',hr',arr,ety,h1,h2,h3,h4,h5,h6,h7⟩:=s.blk j _ hb0;rw [hr] at hr';cases hr';have hz:n=r.esz:=by rw [<- hl];exact h6 _ _ he1
       refine AQ s (x:=.pointer (some ⟨r.b,r.base+off*r.esz+i.toNat*n,none⟩)) ?_ ?_
       ·have hb:0<=i/\i<(len:Int):=⟨hi0,by omega⟩;simp [Instr.indexAt,asIntOf,Ab hu,hb,Bn hn,EX]
       ·have:=Rep.ept (M:=M) μ j (off+i.toNat) 0 r hr;rw [hz]
        rwa [Nat.add_mul,Nat.add_zero,<- Nat.add_assoc] at this
     ·cases e
    ·cases e
   ·cases e
  ·cases e
 ·rename_i len el k hu hk;obtain ⟨kk,i,rfl,rfl,hi0,rfl⟩:=JK hk hy;split at e
  ·rename_i n hn;replace e:=Be e;obtain ⟨hlt,e⟩:=e;simp at hlt;have hb:0<=i/\i<(len:Int):=⟨hi0,by omega⟩;split at e
   ·rename_i j off;cases e;cases hx with
    | ptr _ _ _ r hr =>
     refine AQ s (x:=.pointer (some ⟨r.b,r.base+off+i.toNat*n,none⟩)) ?_ ?_
     ·simp [Instr.indexAt,asIntOf,Ab hu,hb,Bn hn,EX,Instr.sureAddr]
     ·rw [Nat.add_assoc];exact .ptr _ _ _ r hr
   ·rename_i j i' off;cases e;cases hx with
    | ept _ _ _ _ r hr =>
     refine AQ s (x:=.pointer (some ⟨r.b,r.base+i'*r.esz+off+i.toNat*n,none⟩)) ?_ ?_
     ·simp [Instr.indexAt,asIntOf,Ab hu,hb,Bn hn,EX,Instr.sureAddr]
     ·rw [Nat.add_assoc (r.base+i'*r.esz)];exact .ept _ _ _ _ r hr
   ·rename_i cs;cases e;cases hx with
    | view _ _ b off x hm h1 hr =>
     refine AQ s (x:=.pointer (some ⟨b,off+i.toNat*n,none⟩)) ?_ ?_
     ·simp [Instr.indexAt,asIntOf,Ab hu,hb,Bn hn,EX,Instr.sureAddr]
     ·refine .view _ _ _ _ (λj=>x (i.toNat*n+j)) (λj c hj => ?_) (λj c hj=>h1 _ c (by simpa using hj)) (λj c hj=>hr _ c (by simpa using hj));rw [Nat.add_assoc];exact hm _ c (by simpa using hj)
   ·cases e
  ·cases e
 ·cases e
theorem WZ (s:ByteArray) (k:Nat):s[k]? = s.data.toList[k]? := by
 by_cases hk:k<s.size
 ·rw [ByteArray.getElem?_lt' s k hk];have:k<s.data.toList.length:=by simpa using hk
  rw [List.getElem?_eq_getElem this];rfl
 ·rw [ByteArray.getElem?_ge' s k hk,List.getElem?_eq_none];simpa using hk
theorem YT (s:Sim M μ h w) {ty:TypeId} {p q:PV} {x y:Value} (hx:Rep M μ p x) (hy:Rep M μ q y) {r:R} (e:Eo P h ty p q=some r) :
  EY P M μ w ((do pure (.value (<- Instr.index ty x y)):Sem Next).run P w) r:=by
 unfold Eo at e;split at e
 ·rename_i len el cs k hu hk;obtain ⟨kk,i,rfl,rfl,hi0,rfl⟩:=JK hk hy;replace e:=Be e;obtain ⟨hlt,e⟩:=e;simp at hlt;split at e
  ·rename_i n hn;obtain ⟨v,hv,rfl⟩:=Hb e;cases hx with
   | agg _ _ vs hl h1 hr =>
    obtain ⟨z,hz,hrz,_⟩:=Jw (P:=P) hv (M:=M) (μ:=μ) (vs:=vs) (off:=i.toNat*n) (RepL.drop ⟨by simpa using hl,λi c v a b=>hr i c v a (by simpa using b)⟩ _) h1 w;have hb:0<=i/\i<(len:Int):=⟨hi0,by omega⟩;exact AQ s (by simp [Instr.index,asIntOf,Ab hu,hb,Bn hn,hz]) hrz
  ·cases e
 ·rename_i l k hu hk;obtain ⟨kk,i,rfl,rfl,hi0,rfl⟩:=JK hk hy;split at e
  ·rename_i b hb;cases e;rw [Au] at hb;cases hx with
   | str _ sb =>
    have hg:sb[i.toNat]? = some b:=by rw [WZ];exact hb
    refine AQ s (x:=.int .u8 b.toNat) ?_ (.int _ _ _);simp [Instr.index,asIntOf,Ab hu,hi0,hg]
  ·cases e
 ·cases e
theorem TX (s:Sim M μ h w) {p:PV} {x:Value} {i:Nat} (hx:Rep M μ p x) {r:R} (e:EE h p i=some r) :
  EY P M μ w ((do pure (.value (<- Instr.extract x i)):Sem Next).run P w) r:=by
 unfold EE at e;split at e
 ·rename_i vs;obtain ⟨v,hv,rfl⟩:=Hb e;rw [Au] at hv;cases hx with
  | tup _ _ va hl hr =>
   have hi:i<va.size:=by rw [<- hl];exact (List.getElem?_eq_some_iff.1 hv).1
   have hg:=Array.getElem?_eq_getElem hi;exact AQ s (x:=va[i]) (by simp [Instr.extract,hg]) (hr _ _ _ hv hg)
 ·cases e
theorem PT {ty:TypeId} {z:PV} (e:EW P ty=some z) (M:B5) (μ:Mu) (w:World) : ∃ zv,(zeroValue ty).run P w = .ok zv w/\Rep M μ z zv:=by
 unfold EW at e;split at e
 ·rename_i i hi;split at e
  ·rename_i zv hz;exact ⟨zv,by simp [zeroValue,typeInfo,hi,hz],Rg e M μ⟩
  ·cases e
 ·cases e
theorem Qd {a b:PV} {x y:Value} (ha:Rep M μ a x) (hb:Rep M μ b y):Rep M μ (.tup [a,b]) (.tuple #[x,y]) :=
 .tup _ _ _ rfl λi c v hc hv=>by
  match i with
  | 0=>simp at hc hv;subst hc;subst hv;exact ha
  | 1=>simp at hc hv;subst hc;subst hv;exact hb
  | i+2=>simp at hc
theorem Wa (s:Sim M μ h w) {xty ty:TypeId} {p:PV} {x:Value} {ok:Bool} (hx:Rep M μ p x) {r:R} (e:DJ P h ty p ok=some r) :
  EY P M μ w ((do pure (.value (<- Instr.typeAssert x xty ty ok)):Sem Next).run P w) r:=by
 have holds : ∀ {q:PV} {v:Value},Rep M μ q v->Rep M μ (H8 ok q) (if ok then .tuple #[v,.bool true] else v):=by
  intro q v hq;cases ok with
  | true=>exact Qd hq (.bool _ _)
  | false=>exact hq
 have fails : ∀ {z:PV},ok=true->EW P ty=some z -> ∃ zv,(zeroValue ty).run P w = .ok zv w/\Rep M μ (.tup [z,.bool false]) (.tuple #[zv,.bool false]):=by
  intro z _ hz;obtain ⟨zv,h1,h2⟩:=PT hz M μ w;exact ⟨zv,h1,Qd h2 (.bool _ _)⟩
 unfold DJ at e;split at e
 ·rename_i want hu;split at e
  ·rename_i u a;split at e
   ·rename_i i hi;cases hx with
    | ifc _ _ _ v hr =>
     split at e
     ·rename_i hm;cases e;refine AQ s (x:=if ok then .tuple #[.iface u v,.bool true] else .iface u v) ?_ (holds (.ifc _ _ _ _ hr))
      simp [Instr.typeAssert,Ab hu,Jv hi,hm]
     ·rename_i mm hm;replace e:=Be e;obtain ⟨rfl,e⟩:=e;split at e
      ·rename_i z hz;cases e;obtain ⟨zv,h1,h2⟩:=fails rfl hz;exact AQ s (by simp [Instr.typeAssert,Ab hu,Jv hi,hm,h1]) h2
      ·cases e
   ·cases e
  ·replace e:=Be e;obtain ⟨rfl,e⟩:=e;cases hx;split at e
   ·rename_i z hz;cases e;obtain ⟨zv,h1,h2⟩:=fails rfl hz;exact AQ s (by simp [Instr.typeAssert,Ab hu,h1]) h2
   ·cases e
  ·cases e
 ·rename_i d hnot hu;have hni : ∀ ms,d ≠ .interface ms:=λms hc=>hnot ms hc;split at e
  ·rename_i u a;cases hx with
   | ifc _ _ _ v hr =>
    cases hut:Nat.beq u ty with
    | true =>
     rw [hut] at e;cases e;have hut':u=ty:=by simpa using hut
     subst hut';refine AQ s (x:=if ok then .tuple #[v,.bool true] else v) ?_ (holds hr)
     cases d<;>first | exact absurd rfl (hni _) | simp [Instr.typeAssert,Ab hu]
    | false =>
     rw [hut] at e;simp only [cond_false] at e;have hut':u≠ty:=by intro hc;rw [gZ hc] at hut;cases hut
     replace e:=Be e;obtain ⟨rfl,e⟩:=e;split at e
     ·rename_i z hz;cases e;obtain ⟨zv,h1,h2⟩:=fails rfl hz;refine AQ s (x:=.tuple #[zv,.bool false]) ?_ h2;cases d<;>first | exact absurd rfl (hni _) | simp [Instr.typeAssert,Ab hu,hut',h1]
     ·cases e
  ·replace e:=Be e;obtain ⟨rfl,e⟩:=e;cases hx;split at e
   ·rename_i z hz;cases e;obtain ⟨zv,h1,h2⟩:=fails rfl hz;refine AQ s (x:=.tuple #[zv,.bool false]) ?_ h2;cases d<;>first | exact absurd rfl (hni _) | simp [Instr.typeAssert,Ab hu,h1]
   ·cases e
  ·cases e
 ·cases e
theorem iD (s:Sim M μ h w) {ty:TypeId} {p:PV} {x:Value} (hx:Rep M μ p x) {r:R} (e:I6 P h ty p=some r) :
  EY P M μ w ((do pure (.value (<- Instr.makeInterface ty x)):Sem Next).run P w) r:=by
 unfold I6 at e;split at e
 ·cases e
 ·rename_i d hnot hu;cases e;have hni : ∀ ms,d ≠ .interface ms:=λms hc=>hnot ms hc;refine AQ s (x:=.iface ty x) ?_ (.ifc _ _ _ _ hx);cases d<;>first | exact absurd rfl (hni _) | simp [Instr.makeInterface,Ab hu]
 ·cases e
theorem Vb : ∀ {es:List PV} {bs:List UInt8},iB es=some bs -> ∃ ns:List Int,es=ns.map (PV.int .u8)/\bs=ns.map λn=>UInt8.ofNat n.toNat
 | [],bs,e=>by cases e;exact ⟨[],rfl,rfl⟩
 | v::l,bs,e=>by
  unfold iB at e;split at e
  ·rename_i h;cases h
  ·rename_i n l' h;cases h;cases hl:iB l with
   | none=>rw [hl] at e;cases e
   | some b =>
    rw [hl] at e;cases e;obtain ⟨ns,rfl,rfl⟩:=Vb hl;exact ⟨n::ns,rfl,rfl⟩
  ·cases e
theorem PU : ∀ (ns:List Int) (s:ByteArray),(ns.foldl (λr n=>r.push (UInt8.ofNat n.toNat)) s).data.toList=s.data.toList++ns.map λn=>UInt8.ofNat n.toNat
 | [],s=>by simp
 | n::ns,s=>by
  rw [List.foldl_cons,PU ns];simp [ByteArray.push]
theorem TY (s:Sim M μ h w) {src dst:TypeId} {p:PV} {x:Value} (hx:Rep M μ p x) {r:R} (e:DE P h src dst p=some r) :
  EY P M μ w ((do pure (.value (<- convert src dst x)):Sem Next).run P w) r:=by
 unfold DE at e;split at e
 ·rename_i k0 n d k h1 h2;cases e;cases hx;refine AQ s (x:=.int k (k.wrap n)) ?_ (.int _ _ _);simp [convert,Ab h1,Ab h2,Conv.intToInt]
 ·rename_i l h1 h2;cases e;cases hx with
  | str _ sb =>
   refine AQ s (x:=.string sb) ?_ (.str _ _);simp [convert,Ab h1,Ab h2]
 ·rename_i full es et h1 h2;split at e
  ·rename_i bs hu hb;cases e;obtain ⟨ns,he,rfl⟩:=Vb hb
   have fin : ∀ (a:Addr) (len cap:Nat),x = .slice (some a) len cap->(loadCells a len).run P w = .ok (ns.map (Value.int .u8)).toArray w ->
     EY P M μ w ((do pure (.value (<- convert src dst x)):Sem Next).run P w) (.val (.str (ns.map λn=>UInt8.ofNat n.toNat)) h):=by
    intro a len cap hx hl;subst hx;refine AQ s (x:=.string (ns.foldl (λr n=>r.push (UInt8.ofNat n.toNat)) ByteArray.empty)) ?_ ?_
    ·have:=run_convert_bytes_string (P:=P) w src dst et (some a) len cap h1 hu h2;rw [run_bytesToString w a len cap ns hl] at this;simp [this]
    ·have:=Rep.str (M:=M) μ (ns.foldl (λr n=>r.push (UInt8.ofNat n.toNat)) ByteArray.empty);rw [PU] at this;simpa using this
   cases hx with
   | lst0 _ _ a cap hf =>
    have hn:ns=[]:=by cases ns with
     | nil=>rfl
     | cons n ns=>cases he
    subst hn;have hl:=run_loadCells_list (P:=P) w a ([]:List Value) (λj v hv=>by simp at hv);exact fin a 0 cap rfl hl
   | lst _ _ _ b off esz cap xs hf hc hs hm k1 hr =>
    subst he
    have hl:=run_loadCells_list (P:=P) w ⟨b,off,none⟩ (ns.map (Value.int .u8)) (λj v hv=>by
     rw [List.getElem?_map] at hv;cases hj:ns[j]? with
     | none=>rw [hj] at hv;cases hv
     | some n =>
      rw [hj] at hv;cases hv;have hje:(ns.map (PV.int .u8))[j]? = some (.int .u8 n):=by rw [List.getElem?_map,hj];rfl
      have hsz:=hs j _ hje;have hm1:=hm j _ 0 (.int .u8 n) hje rfl;have hr1:=hr j _ 0 (.int .u8 n) hje rfl;have hes:esz=1:=hsz.symm;subst hes;have hc1:=(s.mem _ _ hm1).2;rw [EX]
      have hx0:xs j 0 = .int .u8 n:=by
       generalize xs j 0=vv at hr1;cases hr1;rfl
      rw [hx0] at hc1
      simpa using hc1)
    rw [List.length_map] at hl;exact fin ⟨b,off,none⟩ _ cap rfl (by simpa using hl)
  ·cases e
 ·cases e
end
end Go.Proofs.YthpkjfabdccpdaaGreat.Pi
namespace Go.Proofs.YthpkjfabdccpdaaGreat.Pi
section
variable {P:Program} {M:B5} {μ:Mu} {h:Hp} {w:World}
theorem Jx {cs:List PV} {x:Value} (hx:Rep M μ (.agg cs) x) : ∃ vs,x = .agg vs/\RepL M μ cs vs.toList /\ ∀ (i:Nat) (v:Value),vs[i]? = some v->v.oneCell'=true:=by
 cases hx with
 | agg _ _ vs hl h1 hr=>exact ⟨vs,rfl,⟨by simpa using hl,λi c v a b=>hr i c v a (by simpa using b)⟩,h1⟩
theorem NH {t:TypeId} {fs:Array Field} (h:P.underlying t=some (.struct fs)):P.fieldsOf t=fs:=by simp [Program.fieldsOf,h]
theorem TZ (s1 s2:ByteArray):(s1 == s2)=(s1.data.toList == s2.data.toList):=by rw [beq_toListBytes,ByteArray.toList_eq,ByteArray.toList_eq]
def Hd (d:Nat) (e:TypeId) (n:Nat) (xs ys:Array Value):List Nat->Sem Bool
 | []=>pure true
 | i::l=>do
  let a <- Go.part e xs (i*n)
  let b <- Go.part e ys (i*n)
  let r <- Op.equalIn d e a b
  if (!r)=true then pure false else Hd d e n xs ys l
theorem LV (d:Nat) (t e:TypeId) (len n:Nat) (xs ys:Array Value) (ht:P.underlying t=some (.array len e)) (hn:BV P e=some n) :
  (Op.equalIn (d+1) t (.agg xs) (.agg ys)).run P w=(Hd d e n xs ys (List.range' 0 len)).run P w:=by
 simp only [Op.equalIn,Sem.run_bind,Ab ht,Result.andThen,Bn hn];rw [Std.Legacy.Range.forIn_eq_forIn_range'];simp only [Std.Legacy.Range.size,Nat.sub_zero,Nat.add_sub_cancel,Nat.div_one];generalize List.range' 0 len=l
 induction l generalizing w with
 | nil=>simp [Hd]
 | cons i l ih =>
  simp only [List.forIn_cons,Hd,Sem.run_bind,Sem.run_ite];generalize (Go.part e xs (i*n)).run P w=r1;cases r1 with
  | ok a w1 =>
   simp only [Result.andThen_ok];generalize (Go.part e ys (i*n)).run P w1=r2;cases r2 with
   | ok b w2 =>
    simp only [Result.andThen_ok];generalize (Op.equalIn d e a b).run P w2=r3;cases r3 with
    | ok r w3 =>
     cases r
     ·simp only [Result.andThen_ok,Bool.not_false,if_true,Sem.run_pure]
     ·simp only [Result.andThen_ok,Bool.not_true,Bool.false_eq_true,if_false,Sem.run_pure];exact ih
    | halt x w3=>simp [Result.andThen]
   | halt x w2=>simp [Result.andThen]
  | halt x w1=>simp [Result.andThen]
def Qe (vs:Array Value):Prop := ∀ (i:Nat) (v:Value),vs[i]? = some v->v.oneCell'=true
set_option maxHeartbeats 4000000 in
theorem YU : ∀ (d:Nat),
  (∀ (t:TypeId) (p q:PV) (b:Bool) (x y:Value) (D:Nat),VW P d t p q=some b->Rep M μ p x->Rep M μ q y->d<=D->(Op.equalIn D t x y).run P w = .ok b w) /\
  (∀ (fs:List Field) (a c:List PV) (r:Bool) (xs ys:Array Value) (D:Nat),O2 P d fs a c=some r->RepL M μ a xs.toList->RepL M μ c ys.toList ->
   Qe xs->Qe ys->d<=D->(Op.eqFields D xs ys fs).run P w = .ok r w) /\
  (∀ (n i z:Nat) (e:TypeId) (a c:List PV) (r:Bool) (xs ys:Array Value) (D:Nat),QS P d n e a c=some r->BV P e=some z->RepL M μ a (xs.toList.drop (i*z))->RepL M μ c (ys.toList.drop (i*z)) ->
   Qe xs->Qe ys->d<=D->(Hd D e z xs ys (List.range' i n)).run P w = .ok r w):=by
 intro d
 induction d with
 | zero=>exact ⟨λt p q b x y D e=>by simp [VW] at e,λfs a c r xs ys D e=>by simp [O2] at e,λn i z t a c r xs ys D e=>by simp [QS] at e⟩
 | succ d ih =>
  refine ⟨?_,?_,?_⟩
  ·intro t p q b x y D e hx hy hD;obtain ⟨D,rfl⟩ : ∃ D',D=D'+1:=⟨D-1,by omega⟩;have hD':d<=D:=by omega
   unfold VW at e;split at e
   ·rename_i hu;split at e
    ·cases e;cases hx;cases hy;simp [Op.equalIn,Ab hu]
    ·cases e
   ·rename_i k0 hu;split at e
    ·rename_i k a k' c;replace e:=Be e;obtain ⟨hk,e⟩:=e;have:k=k':=by simpa using hk
     subst this;cases e;cases hx;cases hy;simp [Op.equalIn,Ab hu]
    ·cases e
   ·rename_i hu;split at e
    ·cases e;cases hx with
     | str _ s1=>cases hy with
      | str _ s2=>simp [Op.equalIn,Ab hu,TZ]
    ·cases e
   ·rename_i el hu;split at e<;>(try (cases e;done))<;>(cases e;cases hx;cases hy;simp [Op.equalIn,Ab hu])
   ·rename_i el hu;split at e<;>(try (cases e;done))<;>(cases e;cases hx<;>cases hy<;>simp [Op.equalIn,Ab hu])
   ·rename_i a1 a2 a3 hu;split at e<;>(try (cases e;done))<;>(cases e;cases hx;cases hy;simp [Op.equalIn,Ab hu])
   ·rename_i ms hu;split at e
    ·cases e;cases hx;cases hy;simp [Op.equalIn,Ab hu]
    ·cases e;cases hx;cases hy;simp [Op.equalIn,Ab hu]
    ·cases e;cases hx;cases hy;simp [Op.equalIn,Ab hu]
    ·rename_i t1 a t2 c;cases hx with
     | ifc _ _ _ v1 hr1=>cases hy with
      | ifc _ _ _ v2 hr2 =>
       cases ht:Nat.beq t1 t2 with
       | false =>
        rw [ht] at e;cases e;have:t1≠t2:=by intro hc;rw [gZ hc] at ht;cases ht
        simp [Op.equalIn,Ab hu,this]
       | true =>
        rw [ht] at e;simp only [cond_true] at e;have:t1=t2:=by simpa using ht
        subst this;split at e
        ·rename_i i hi;replace e:=Be e;obtain ⟨hcmp,e⟩:=e;have:=ih.1 t1 a c b v1 v2 D e hr1 hr2 hD';simp [Op.equalIn,Ab hu,Jv hi,hcmp,this]
        ·cases e
    ·cases e
   ·rename_i fs hu;split at e
    ·rename_i a c;replace e:=EZ e;obtain ⟨hp,e⟩:=e;obtain ⟨xs,rfl,hra,h1⟩:=Jx hx;obtain ⟨ys,rfl,hrc,h2⟩:=Jx hy;have hu':P.underlying t=some (.struct (P.fieldsOf t)):=by rw [NH hu];exact hu
     rw [run_equalIn_struct w D t xs ys hu' hp,NH hu];exact ih.2.1 fs.toList a c b xs ys D e hra hrc h1 h2 hD'
    ·cases e
   ·rename_i n el hu;split at e
    ·rename_i a c;obtain ⟨xs,rfl,hra,h1⟩:=Jx hx;obtain ⟨ys,rfl,hrc,h2⟩:=Jx hy;replace e:=Be e;obtain ⟨hz,e⟩:=e;obtain ⟨z,hz⟩:=Option.isSome_iff_exists.1 hz;rw [LV D t el n z xs ys hu hz];exact ih.2.2 n 0 z el a c b xs ys D e hz (by simpa using hra) (by simpa using hrc) h1 h2 hD'
    ·cases e
   ·cases e
  ·intro fs a c r xs ys D e hra hrc h1 h2 hD;have hD':d<=D:=by omega
   cases fs with
   | nil=>simp [O2] at e;subst e;simp [Op.eqFields]
   | cons f fs =>
    unfold O2 at e
    cases hn : (f.name == "_") with
    | true =>
     rw [hn] at e;simp only [cond_true] at e
     have hn' : f.name = "_" := by simpa using hn
     have:=ih.2.1 fs a c r xs ys D e hra hrc h1 h2 hD';simp [Op.eqFields,hn',this]
    | false =>
     rw [hn] at e;simp only [cond_false] at e
     have hn' : f.name ≠ "_" := by intro hc; rw [hc] at hn; simp at hn
     split at e
     ·rename_i x y hpx hpy;obtain ⟨vx,hvx,hrx,_⟩:=Jw (P:=P) hpx (M:=M) (μ:=μ) (vs:=xs) (off:=f.offset) (hra.drop _) h1 w;obtain ⟨vy,hvy,hry,_⟩:=Jw (P:=P) hpy (M:=M) (μ:=μ) (vs:=ys) (off:=f.offset) (hrc.drop _) h2 w;split at e
      ·rename_i ht;have k1:=ih.1 f.type x y true vx vy D ht hrx hry hD';have k2:=ih.2.1 fs a c r xs ys D e hra hrc h1 h2 hD';simp [Op.eqFields,hn',hvx,hvy,k1,k2]
      ·rename_i o hne;cases hq:VW P d f.type x y with
       | none=>rw [hq] at e;cases e
       | some b =>
        rw [hq] at e;cases e;have k1:=ih.1 f.type x y r vx vy D hq hrx hry hD';cases r with
        | true=>exact absurd hq hne
        | false=>simp [Op.eqFields,hn',hvx,hvy,k1]
     ·cases e
  ·intro n i z el a c r xs ys D e hz hra hrc h1 h2 hD;have hD':d<=D:=by omega
   cases n with
   | zero=>simp [QS] at e;subst e;simp [Hd]
   | succ n =>
    unfold QS at e;rw [hz] at e;split at e
    ·rename_i s x y hs hpx hpy;cases hs;obtain ⟨vx,hvx,hrx,_⟩:=Jw (P:=P) hpx (M:=M) (μ:=μ) (vs:=xs) (off:=i*z) hra h1 w;obtain ⟨vy,hvy,hry,_⟩:=Jw (P:=P) hpy (M:=M) (μ:=μ) (vs:=ys) (off:=i*z) hrc h2 w;have hra':RepL M μ (a.drop z) (xs.toList.drop ((i+1)*z)):=by have:=hra.drop z;rwa [List.drop_drop,<- Nat.succ_mul] at this
     have hrc':RepL M μ (c.drop z) (ys.toList.drop ((i+1)*z)):=by have:=hrc.drop z;rwa [List.drop_drop,<- Nat.succ_mul] at this
     rw [List.range'_succ];split at e
     ·rename_i ht;have k1:=ih.1 el x y true vx vy D ht hrx hry hD';have k2:=ih.2.2 n (i+1) z el _ _ r xs ys D e hz hra' hrc' h1 h2 hD';simp [Hd,hvx,hvy,k1,k2]
     ·rename_i o hne;cases hq:VW P d el x y with
      | none=>rw [hq] at e;cases e
      | some b =>
       rw [hq] at e;cases e;have k1:=ih.1 el x y r vx vy D hq hrx hry hD';cases r with
       | true=>exact absurd hq hne
       | false=>simp [Hd,hvx,hvy,k1]
    ·cases e
end
end Go.Proofs.YthpkjfabdccpdaaGreat.Pi
namespace Go.Proofs.YthpkjfabdccpdaaGreat.Pi
section
variable {P:Program} {M:B5} {μ:Mu} {h:Hp} {w:World}
def YF:Value->Nat
 | .int _ _=>1
 | .float _ _=>2
 | .complex _ _ _=>3
 | .string _=>4
 | _=>0
def jN:PV->Nat
 | .int _ _=>1
 | .str _=>4
 | _=>0
theorem Vc {p:PV} {x:Value} (hx:Rep M μ p x):YF x=jN p:=by cases hx<;>rfl
theorem Ta (t:TypeId) (x y:Value) (hn : ¬ (YF x=YF y/\YF x≠0)):binOp .eql t x y=(do pure (.bool (<- Op.equal t x y))):=by
 cases x<;>cases y<;>first | rfl | (simp [YF] at hn)
theorem Tb (t:TypeId) (x y:Value) (hn : ¬ (YF x=YF y/\YF x≠0)):binOp .neq t x y=(do pure (.bool (!(<- Op.equal t x y)))):=by
 cases x<;>cases y<;>first | rfl | (simp [YF] at hn)
theorem O7 {op:BinOp} {t:TypeId} {k k':IntKind} {a b:Int} {v:PV} (e:(match op with
  | .shl | .shr=>MI op k a b
  | _=>bif k == k' then WT op k a b else none)=some v) : ∃ z,(binOp op t (.int k a) (.int k' b)).run P w = .ok z w/\Rep M μ v z:=by
 have sh : ∀ op:BinOp,(op = .shl\/op = .shr)->MI op k a b=some v -> ∃ z,(Op.shift op k a k' b).run P w = .ok z w/\Rep M μ v z:=by
  intro op hop e;unfold MI at e;replace e:=EZ e;obtain ⟨h0,e⟩:=e;have h0' : ¬ (b<0):=by simpa using h0
  rcases hop with rfl | rfl
  ·cases e;exact ⟨.int k (k.wrap (a*2 ^ (min b.toNat k.bits))),by simp only [Op.shift,if_neg h0'];rfl,.int _ _ _⟩
  ·cases e;exact ⟨.int k (a.fdiv (2 ^ (min b.toNat k.bits))),by simp only [Op.shift,if_neg h0'];rfl,.int _ _ _⟩
 have co : ∀ op:BinOp,op ≠ .shl->op ≠ .shr->(bif k == k' then WT op k a b else none)=some v->k=k'/\WT op k a b=some v:=by
  intro op _ _ e;replace e:=Be e;exact ⟨by simpa using e.1,e.2⟩
 cases op with
 | shl=>exact sh _ (.inl rfl) e
 | shr=>exact sh _ (.inr rfl) e
 | add=>obtain ⟨rfl,e2⟩:=co .add (by decide) (by decide) e;clear e;cases e2;exact ⟨.int k (k.wrap (a+b)),by simp only [binOp,ne_eq,not_true_eq_false,if_false];rfl,.int _ _ _⟩
 | sub=>obtain ⟨rfl,e2⟩:=co .sub (by decide) (by decide) e;clear e;cases e2;exact ⟨.int k (k.wrap (a-b)),by simp only [binOp,ne_eq,not_true_eq_false,if_false];rfl,.int _ _ _⟩
 | mul=>obtain ⟨rfl,e2⟩:=co .mul (by decide) (by decide) e;clear e;cases e2;exact ⟨.int k (k.wrap (a*b)),by simp only [binOp,ne_eq,not_true_eq_false,if_false];rfl,.int _ _ _⟩
 | quo =>
  obtain ⟨rfl,e2⟩:=co .quo (by decide) (by decide) e;have e':=EZ e2;have hb:b≠0:=by intro hc;have:=e'.1;subst hc;simp at this
  have:=e'.2;cases this;exact ⟨.int k (k.wrap (a.tdiv b)),by simp only [binOp,ne_eq,not_true_eq_false,if_false,Op.intDiv,if_neg hb];rfl,.int _ _ _⟩
 | rem =>
  obtain ⟨rfl,e2⟩:=co .rem (by decide) (by decide) e;have e':=EZ e2;have hb:b≠0:=by intro hc;have:=e'.1;subst hc;simp at this
  have:=e'.2;cases this;exact ⟨.int k (a.tmod b),by simp only [binOp,ne_eq,not_true_eq_false,if_false,Op.intDiv,if_neg hb];rfl,.int _ _ _⟩
 | and=>obtain ⟨rfl,e2⟩:=co .and (by decide) (by decide) e;clear e;cases e2;exact ⟨.int k (k.wrap (BitVec.ofInt k.bits a &&& BitVec.ofInt k.bits b).toNat),by simp only [binOp,ne_eq,not_true_eq_false,if_false];rfl,.int _ _ _⟩
 | or=>obtain ⟨rfl,e2⟩:=co .or (by decide) (by decide) e;clear e;cases e2;exact ⟨.int k (k.wrap (BitVec.ofInt k.bits a ||| BitVec.ofInt k.bits b).toNat),by simp only [binOp,ne_eq,not_true_eq_false,if_false];rfl,.int _ _ _⟩
 | xor=>obtain ⟨rfl,e2⟩:=co .xor (by decide) (by decide) e;clear e;cases e2;exact ⟨.int k (k.wrap (BitVec.ofInt k.bits a ^^^ BitVec.ofInt k.bits b).toNat),by simp only [binOp,ne_eq,not_true_eq_false,if_false];rfl,.int _ _ _⟩
 | andNot=>obtain ⟨rfl,e2⟩:=co .andNot (by decide) (by decide) e;clear e;cases e2
 | eql=>obtain ⟨rfl,e2⟩:=co .eql (by decide) (by decide) e;clear e;cases e2;exact ⟨.bool (a == b),by simp only [binOp,ne_eq,not_true_eq_false,if_false];rfl,.bool _ _⟩
 | neq=>obtain ⟨rfl,e2⟩:=co .neq (by decide) (by decide) e;clear e;cases e2;exact ⟨.bool (a != b),by simp only [binOp,ne_eq,not_true_eq_false,if_false];rfl,.bool _ _⟩
 | lss=>obtain ⟨rfl,e2⟩:=co .lss (by decide) (by decide) e;clear e;cases e2;exact ⟨.bool (decide (a<b)),by simp only [binOp,ne_eq,not_true_eq_false,if_false];rfl,.bool _ _⟩
 | leq=>obtain ⟨rfl,e2⟩:=co .leq (by decide) (by decide) e;clear e;cases e2;exact ⟨.bool (decide (a<=b)),by simp only [binOp,ne_eq,not_true_eq_false,if_false];rfl,.bool _ _⟩
 | gtr=>obtain ⟨rfl,e2⟩:=co .gtr (by decide) (by decide) e;clear e;cases e2;exact ⟨.bool (decide (a>b)),by simp only [binOp,ne_eq,not_true_eq_false,if_false];rfl,.bool _ _⟩
 | geq=>obtain ⟨rfl,e2⟩:=co .geq (by decide) (by decide) e;clear e;cases e2;exact ⟨.bool (decide (a>=b)),by simp only [binOp,ne_eq,not_true_eq_false,if_false];rfl,.bool _ _⟩
theorem O8 {op:BinOp} {t:TypeId} {a b:List UInt8} {x y:ByteArray} {v:PV} (ha:x.data.toList=a) (hb:y.data.toList=b) (e:YG op a b=some v) :
  ∃ z,(binOp op t (.string x) (.string y)).run P w = .ok z w/\Rep M μ v z:=by
 have ex:x.toList=a:=by rw [ByteArray.toList_eq,ha]
 have ey:y.toList=b:=by rw [ByteArray.toList_eq,hb]
 unfold YG at e;cases op with
 | add =>
  have e':=Be e;obtain ⟨hl,e2⟩:=e';cases e2;refine ⟨.string (x++y),?_,YQ (by rw [ByteArray.data_append];simp [ha,hb]) μ⟩
  have hs : ¬ (((x.size+y.size:Nat):Int)>IntKind.i64.max):=by
   have h1:x.size=a.length:=by rw [<- ha];simp
   have h2:y.size=b.length:=by rw [<- hb];simp
   have h3:IntKind.i64.max=9223372036854775807:=by decide
   have h4:a.length+b.length<=1000000000:=by simpa using hl
   rw [h3];omega
  show (Op.stringOp .add x y).run P w=_;simp only [Op.stringOp];rw [if_neg hs];rfl
 | eql=>cases e;exact ⟨.bool (a == b),by simp only [binOp,Op.stringOp,ex,ey];rfl,.bool _ _⟩
 | neq=>cases e;exact ⟨.bool (!(a == b)),by simp only [binOp,Op.stringOp,ex,ey];rfl,.bool _ _⟩
 | lss=>cases e;exact ⟨.bool (Op.bytesLess a b),by simp only [binOp,Op.stringOp,ex,ey];rfl,.bool _ _⟩
 | leq=>cases e;exact ⟨.bool (Op.bytesLess a b||a == b),by simp only [binOp,Op.stringOp,ex,ey];rfl,.bool _ _⟩
 | gtr=>cases e;exact ⟨.bool (!(Op.bytesLess a b||a == b)),by simp only [binOp,Op.stringOp,ex,ey];rfl,.bool _ _⟩
 | geq=>cases e;exact ⟨.bool (!Op.bytesLess a b),by simp only [binOp,Op.stringOp,ex,ey];rfl,.bool _ _⟩
 | sub=>cases e
 | mul=>cases e
 | quo=>cases e
 | rem=>cases e
 | and=>cases e
 | or=>cases e
 | xor=>cases e
 | shl=>cases e
 | shr=>cases e
 | andNot=>cases e
theorem Qf {op:BinOp} {ty:TypeId} {p q v:PV} {x y:Value} (e:O3 P op ty p q=some v) (hx:Rep M μ p x) (hy:Rep M μ q y) :
  ∃ z,(binOp op ty x y).run P w = .ok z w/\Rep M μ v z:=by
 unfold O3 at e;split at e
 ·cases hx;cases hy;exact O7 e
 ·cases hx;cases hy;exact O8 rfl rfl e
 ·rename_i n1 n2
  have hn : ¬ (YF x=YF y/\YF x≠0):=by
   rw [Vc hx,Vc hy];rintro ⟨h1,h2⟩
   cases p<;>(try (exact h2 rfl))<;>cases q<;>first
    | (simp [jN] at h1;done)
    | exact n1 _ _ _ _ rfl rfl
    | exact n2 _ _ rfl rfl
  split at e
  ·obtain ⟨b,hb,rfl⟩:=AL e;have:=(YU (P:=P) (w:=w) (M:=M) (μ:=μ) Jr).1 ty p q b x y 10000 hb hx hy (by decide);refine ⟨.bool b,?_,.bool _ _⟩;rw [Ta ty x y hn];simp [Op.equal,Op.maxDepth,this]
  ·obtain ⟨b,hb,rfl⟩:=AL e;have:=(YU (P:=P) (w:=w) (M:=M) (μ:=μ) Jr).1 ty p q b x y 10000 hb hx hy (by decide);refine ⟨.bool (!b),?_,.bool _ _⟩;rw [Tb ty x y hn];simp [Op.equal,Op.maxDepth,this]
  ·cases e
theorem Rm (op:BinOp) (t:TypeId) (x y:Operand) (a b:Value) (h1 : ¬ (a = .nilIface/\b = .nilIface)) (h2 : ∀ u v,¬ (a = .agg u/\b = .agg v)):(eqGuard op t x y a b).run P w = .ok () w:=by
 cases op<;>simp [eqGuard]<;>(cases a<;>cases b<;>first | rfl | exact absurd ⟨rfl,rfl⟩ h1 | exact absurd ⟨rfl,rfl⟩ (h2 _ _))
theorem Wb (op:BinOp) (t:TypeId) (x y:Operand) (hc:(Fi x||Fi y)=true):(eqGuard op t x y .nilIface .nilIface).run P w = .ok () w:=by
 cases x<;>cases y<;>first | (simp [Fi] at hc;done) | (cases op<;>simp [eqGuard])
theorem iE (s:Sim M μ h w) {op:BinOp} {ty:TypeId} {x y:Operand} {p q:PV} {vx vy:Value} (hx:Rep M μ p vx) (hy:Rep M μ q vy) {r:R} (e:HZ P h op ty x y p q=some r) :
  EY P M μ w ((do pure (.value (<- (do eqGuard op ty x y vx vy;binOp op ty vx vy))):Sem Next).run P w) r:=by
 unfold HZ at e;split at e
 ·replace e:=Be e;obtain ⟨hc,e⟩:=e;obtain ⟨v,hv,rfl⟩:=Hb e;obtain ⟨z,hz,hrz⟩:=Qf (w:=w) hv hx hy;cases hx;cases hy;exact AQ s (by simp [Wb op ty x y hc,hz]) hrz
 ·rename_i cs ds;replace e:=EZ e;obtain ⟨hc,e⟩:=e;obtain ⟨v,hv,rfl⟩:=Hb e;obtain ⟨z,hz,hrz⟩:=Qf (w:=w) hv hx hy;obtain ⟨xs,rfl,_⟩:=Jx hx;obtain ⟨ys,rfl,_⟩:=Jx hy;exact AQ s (by simp [run_eqGuard_agg w op ty x y xs ys hc,hz]) hrz
 ·rename_i n1 n2;obtain ⟨v,hv,rfl⟩:=Hb e;obtain ⟨z,hz,hrz⟩:=Qf (w:=w) hv hx hy
  have g:=Rm (P:=P) (w:=w) op ty x y vx vy (by
   rintro ⟨rfl,rfl⟩;cases hx;cases hy;exact n1 rfl rfl) (by
   rintro u v ⟨rfl,rfl⟩;cases hx;cases hy;exact n2 _ _ rfl rfl)
  exact AQ s (by simp [g,hz]) hrz
theorem jO (s:Sim M μ h w) {op:UnOp} {p:PV} {x:Value} (hx:Rep M μ p x) {r:R} (e:vl (lA op p) h=some r) :
  EY P M μ w ((do pure (.value (<- Op.unary op x)):Sem Next).run P w) r:=by
 obtain ⟨v,hv,rfl⟩:=Hb e;unfold lA at hv;split at hv
 ·cases hx;split at hv
  ·cases hv;exact AQ s (x:=.bool _) (by simp [Op.unary]) (.bool _ _)
  ·cases hv
 ·cases hx;split at hv
  ·cases hv;exact AQ s (x:=.int _ _) (by simp [Op.unary,Op.intArith]) (.int _ _ _)
  ·cases hv
 ·cases hv
end
end Go.Proofs.YthpkjfabdccpdaaGreat.Pi
namespace Go.Proofs.YthpkjfabdccpdaaGreat.Pi
section
variable {P:Program} {M:B5} {μ:Mu} {h:Hp} {w:World}
theorem Gd {d : TypeDesc} {p q : PV} {b : Bool} {x y : Value} (e : QT d p q = some b) (hx : Rep M μ p x) (hy : Rep M μ q y) :
    Instr.sameNow d x y = some b /\ (b = true -> Instr.sameBits 10000 y x = true) := by
  unfold QT at e;split at e
  · cases e; cases hx; cases hy
    rename_i a c
    exact ⟨rfl, fun hb => by have : a = c := by simpa using hb
                             subst this; simp [Instr.sameBits]⟩
  · rename_i k a k' c
    have e' := Be e;have hk : k = k' := by simpa using e'.1
    subst hk;cases e'.2; cases hx; cases hy
    exact ⟨by simp [Instr.sameNow], fun hb => by have : a = c := by simpa using hb
                                                 subst this; simp [Instr.sameBits]⟩
  · cases e
    cases hx with
    | str _ s1 => cases hy with
      | str _ s2 =>
        refine ⟨by simp [Instr.sameNow, TZ], fun hb => ?_⟩;have h1 : s1.data.toList = s2.data.toList := by simpa using hb
        have : s1 = s2 := ByteArray.ext (Array.ext' h1);subst this; rw [<- TZ] at hb; simpa [Instr.sameBits] using hb
  · cases e
def EntsRep (M:B5) (μ:Mu) (es:List (PV×PV)) (ents:List MapEntry):Prop :=
 ents.length=es.length /\ ∀ (i:Nat) (k v:PV) (e:MapEntry),es[i]? = some (k,v)->ents[i]? = some e->Rep M μ k e.key/\Rep M μ v e.val
theorem EntsRep.tail {a:PV×PV} {es:List (PV×PV)} {b:MapEntry} {ents:List MapEntry} (hr:EntsRep M μ (a::es) (b::ents)):EntsRep M μ es ents :=
 ⟨by simpa using hr.1,λi k v e h1 h2=>hr.2 (i+1) k v e (by simpa using h1) (by simpa using h2)⟩
theorem Rn {d:TypeDesc} {k:PV} {kv:Value} (hk:Rep M μ k kv) : ∀ {es:List (PV×PV)} {ents:List MapEntry} {r:Option PV} (n:Nat),EntsRep M μ es ents->NB d es k=some r ->
  ∃ o,Instr.findNow d kv ents n=some o/\(match r,o with
   | none,none=>True
   | some v,some (_,x)=>Rep M μ v x
   | _,_=>False)
 | [],ents,r,n,hr,e=>by
  cases e;cases ents with
  | nil=>exact ⟨none,rfl,trivial⟩
  | cons _ _=>simp [EntsRep] at hr
 | (k1,v1)::es,ents,r,n,hr,e=>by
  cases ents with
  | nil=>simp [EntsRep] at hr
  | cons b ents =>
   obtain ⟨hk1,hv1⟩:=hr.2 0 k1 v1 b rfl rfl;unfold NB at e;split at e
   ·rename_i hc;cases e;have:=(Gd hc hk hk1).1;exact ⟨some (n,b.val),by simp [Instr.findNow,this],hv1⟩
   ·rename_i hc;have h0:=(Gd hc hk hk1).1;obtain ⟨o,h1,h2⟩:=Rn hk (n+1) hr.tail e;exact ⟨o,by simp [Instr.findNow,h0,h1],h2⟩
   ·cases e
theorem Ea {kt:TypeId} {d:TypeDesc} (hu:P.underlying kt=some d) (hd:Ga d=true) (em:Bool) (v:Value):(Instr.checkKey em 10000 kt v).run P w = .ok () w:=by
 rw [show (10000:Nat)=9999+1 from rfl];cases d<;>simp [Ga] at hd<;>(unfold Instr.checkKey;simp [Ab hu])
theorem Eb {r:Nat} {ents:Array MapEntry} {clock:Nat} (hb:w.heap[r]? = some (.map ents clock)):(getObj r).run P w = .ok (.map ents clock) w:=by
 simp [getObj,Sem.run,hb]
theorem Wc (s:Sim M μ h w) {ty:TypeId} {m k:PV} {x y:Value} {ok:Bool} (hx:Rep M μ m x) (hy:Rep M μ k y) {r:R} (e:HD P h ty m k ok=some r) :
  EY P M μ w ((do pure (.value (<- Instr.lookup ty x y ok)):Sem Next).run P w) r:=by
 unfold HD at e;split at e
 ·rename_i kt el es hu hm;split at e
  ·rename_i d hd;have e1:=EZ e;have hkd:Ga d=true:=by simpa using e1.1
   replace e:=e1.2
   have hents : ∃ ents:Array MapEntry,EntsRep M μ es ents.toList/\((x = .map none/\ents = #[]) \/ ∃ r clock,x = .map (some r)/\w.heap[r]? = some (.map ents clock)):=by
    unfold Rf at hm;split at hm
    ·cases hm;cases hx;exact ⟨#[],⟨rfl,λi k v e h=>by simp at h⟩,.inl ⟨rfl,rfl⟩⟩
    ·rename_i j;split at hm
     ·rename_i es0 hb;cases hm;cases hx with
      | mp _ _ r hr =>
       obtain ⟨r',hr',ents,clock,h1,h2,h3⟩:=s.blk j _ hb;rw [hr] at hr';cases hr';exact ⟨ents,⟨by simpa using h2,λi k v e a b=>h3 i k v e a (by simpa using b)⟩,.inr ⟨_,clock,rfl,h1⟩⟩
     ·cases hm
    ·cases hm
   obtain ⟨ents,her,hrun⟩:=hents;split at e
   ·rename_i rr hf;obtain ⟨o,h1,h2⟩:=Rn hy 0 her hf;have fk:(Instr.findKey kt y ents.toList).run P w = .ok o w:=by simp [Instr.findKey,Ab hd,h1]
    split at e
    ·rename_i v hv;cases e
     have fin : ∀ z,Rep M μ v z->Rep M μ (bif ok then .tup [v,.bool rr.isSome] else v) (if ok then .tuple #[z,.bool rr.isSome] else z):=by
      intro z hz;cases ok with
      | true=>exact Qd hz (.bool _ _)
      | false=>exact hz
     cases rr with
     | some v' =>
      cases hv;cases o with
      | none=>exact h2.elim
      | some iz =>
       obtain ⟨i,z⟩:=iz;refine AQ s (x:=if ok then .tuple #[z,.bool true] else z) ?_ (fin z h2)
       rcases hrun with ⟨rfl,rfl⟩ | ⟨r,clock,rfl,hb⟩
       ·simp [Instr.findNow] at h1
       ·simp only [Instr.lookup,Sem.run_bind,Ab hu,Result.andThen,Eb hb,Ea hd hkd,fk,Sem.run_pure]
     | none =>
      cases o with
      | some _=>exact h2.elim
      | none =>
       obtain ⟨zv,hz,hrz⟩:=PT hv M μ w;refine AQ s (x:=if ok then .tuple #[zv,.bool false] else zv) ?_ (fin zv hrz)
       rcases hrun with ⟨rfl,rfl⟩ | ⟨r,clock,rfl,hb⟩
       ·simp only [Instr.lookup,Sem.run_bind,Ab hu,Result.andThen,Ea hd hkd,fk,Sem.run_pure,hz]
       ·simp only [Instr.lookup,Sem.run_bind,Ab hu,Result.andThen,Eb hb,Ea hd hkd,fk,Sem.run_pure,hz]
    ·cases e
   ·cases e
  ·cases e
 ·cases e
theorem LW {d:TypeDesc} {k v:PV} {kv vv:Value} (hk:Rep M μ k kv) (hv:Rep M μ v vv) : ∀ {es es':List (PV×PV)} {ents:List MapEntry} (n:Nat),EntsRep M μ es ents->HW d es k v=some es' ->
  (∃ i x old,Instr.findNow d kv ents n=some (some (n+i,x))/\ents[i]? = some old/\Instr.sameBits 10000 old.key kv=true/\EntsRep M μ es' (ents.modify i λe=>{ e with key:=kv,val:=vv })) \/
  (Instr.findNow d kv ents n=some none /\ ∀ born,EntsRep M μ es' (ents++[{ key:=kv,val:=vv,born }]))
 | [],es',ents,n,hr,e=>by
  cases e;cases ents with
  | nil =>
   refine .inr ⟨rfl,λborn=>⟨rfl,λi k v e h1 h2 => ?_⟩⟩;cases i with
   | zero=>simp at h1 h2;obtain ⟨rfl,rfl⟩:=h1;subst h2;exact ⟨hk,hv⟩
   | succ i=>simp at h1
  | cons _ _=>simp [EntsRep] at hr
 | (k1,v1)::es,es',ents,n,hr,e=>by
  cases ents with
  | nil=>simp [EntsRep] at hr
  | cons b ents =>
   obtain ⟨hk1,hv1⟩:=hr.2 0 k1 v1 b rfl rfl;unfold HW at e;split at e
   ·rename_i hc;cases e;have:=Gd hc hk hk1;refine .inl ⟨0,b.val,b,by simp [Instr.findNow,this.1],rfl,this.2 rfl,?_,λi k v e h1 h2 => ?_⟩
    ·simpa using hr.1
    ·cases i with
     | zero=>simp at h1 h2;obtain ⟨rfl,rfl⟩:=h1;subst h2;exact ⟨hk,hv⟩
     | succ i=>exact hr.2 (i+1) k v e (by simpa using h1) (by simpa using h2)
   ·rename_i hc;have h0:=(Gd hc hk hk1).1;split at e
    ·rename_i l hl;cases e
     have cons : ∀ {l:List (PV×PV)} {en:List MapEntry},EntsRep M μ l en->EntsRep M μ ((k1,v1)::l) (b::en):=by
      intro l en hle;refine ⟨by simp [hle.1],λi k v e h1 h2 => ?_⟩;cases i with
      | zero=>simp at h1 h2;obtain ⟨rfl,rfl⟩:=h1;subst h2;exact ⟨hk1,hv1⟩
      | succ i=>exact hle.2 i k v e (by simpa using h1) (by simpa using h2)
     rcases LW hk hv (n+1) hr.tail hl with ⟨i,x,old,a1,a2,a3,a4⟩ | ⟨a1,a2⟩
     ·refine .inl ⟨i+1,x,old,?_,by simpa using a2,a3,?_⟩
      ·simp [Instr.findNow,h0,a1];omega
      ·have:=cons a4;simpa using this
     ·exact .inr ⟨by simp [Instr.findNow,h0,a1],λborn=>cons (a2 born)⟩
    ·cases e
   ·cases e
theorem Dx {r:Nat} {o o':Obj} (hb:w.heap[r]? = some o) (hc : ∀ a t f,o ≠ .cells a t f):(setObj r o').run P w = .ok () { w with heap:=w.heap.setIfInBounds r o' }:=by
 unfold setObj;simp only [Sem.run,hb]
theorem Sim.object {id:Nat} {b b':Blk} {r:Bk} {o o':Obj} {h':Hp} (s:Sim M μ h w) (hb:h.get id=some b) (hr:μ id=some r) (hlive:b.live) (hs:h.set id b'=some h')
  (ho:w.heap[r.b]? = some o) (hc : ∀ a t f,o ≠ .cells a t f) (hat:BlkAt M μ r (some o') b') (hc' : ∀ a t f,o' ≠ .cells a t f:=by intro a t f hc;cases hc) :
  Sim M μ h' { w with heap:=w.heap.setIfInBounds r.b o' }/\Grow M μ w M μ { w with heap:=w.heap.setIfInBounds r.b o' }:=by
 have hlt:r.b<w.heap.size:=(s.use id r hr).2;have hw : ∀ k,k≠r.b->(w.heap.setIfInBounds r.b o')[k]? = w.heap[k]? := λk hk=>by rw [Array.getElem?_setIfInBounds,if_neg (Ne.symm hk)]
 have hat':BlkAt M μ r (w.heap.setIfInBounds r.b o')[r.b]? b':=by rw [Array.getElem?_setIfInBounds,if_pos rfl,if_pos hlt];exact hat
 refine ⟨s.update hb hr hlive (Hp.get_set hs).1 hw (by simp) hat' ?_,Grow.update hr hw (by simp) rfl rfl rfl (λarr ty f h=>by
  have h:(w.heap.setIfInBounds r.b o')[r.b]? = some (.cells arr ty f):=h;rw [Array.getElem?_setIfInBounds,if_pos rfl,if_pos hlt] at h
  exact absurd (Option.some.inj h) (hc' _ _ _))⟩
 intro a v hm ha;have:=(s.mem a v hm).2;rw [World.cell?,ha,ho] at this;cases o<;>first | (simp at this;done) | exact absurd rfl (hc _ _ _)
theorem LX (s:Sim M μ h w) {ty:TypeId} {m k v:PV} {x y z:Value} (hx:Rep M μ m x) (hy:Rep M μ k y) (hz:Rep M μ v z) {r:R} (e:FY P h ty m k v=some r) :
  EY P M μ w ((do Instr.mapUpdate ty x y z;pure .skip:Sem Next).run P w) r:=by
 unfold FY at e;split at e
 ·rename_i kt el j hu;split at e
  ·rename_i d hd;have e1:=EZ e;have hkd:Ga d=true:=by simpa using e1.1
   replace e:=e1.2;split at e
   ·rename_i es hb;split at e
    ·rename_i es' Ad;obtain ⟨h',hset,rfl⟩:=AL e;cases hx with
     | mp _ _ r hr =>
      obtain ⟨r',hr',ents,clock,h1,h2,h3⟩:=s.blk j _ hb;rw [hr] at hr';cases hr';have her:EntsRep M μ es ents.toList:=⟨by simpa using h2,λi k v e a b=>h3 i k v e a (by simpa using b)⟩;rcases LW hy hz 0 her Ad with ⟨i,xx,old,a1,a2,a3,a4⟩ | ⟨a1,a2⟩
      ·have fk:(Instr.findKey kt y ents.toList).run P w = .ok (some (i,xx)) w:=by simp [Instr.findKey,Ab hd,a1]
       have hg:ents[i]? = some old:=by simpa using a2
       have hS:=s.object (o':=.map (ents.modify i λe=>{ e with key:=y,val:=z }) clock) hb hr trivial hset h1 (by intro a t f hc;cases hc)
        ⟨_,clock,rfl,by have:=a4.1;simpa using this,λi k v e p q=>a4.2 i k v e p (by
         rw [<- Array.getElem?_toList] at q
         simpa using q)⟩
       refine ⟨M,μ,_,?_,hS.1,hS.2⟩;have so:=Dx (P:=P) (o':=.map (ents.modify i λe=>{ e with key:=y,val:=z }) clock) h1 (by intro a t f hc;cases hc)
       simp only [Instr.mapUpdate,Sem.run_bind,Ab hu,Result.andThen,Eb h1,Ea hd hkd,fk,hg,Option.map_some,Option.getD_some,Instr.keyThatStays,a3,if_true,Sem.run_pure,so]
      ·have fk:(Instr.findKey kt y ents.toList).run P w = .ok none w:=by simp [Instr.findKey,Ab hd,a1]
       have hS:=s.object (o':=.map (ents.push { key:=y,val:=z,born:=clock }) (clock+1)) hb hr trivial hset h1 (by intro a t f hc;cases hc)
        ⟨_,clock+1,rfl,by have:=(a2 clock).1;simpa using this,λi k v e p q=>(a2 clock).2 i k v e p (by
         rw [<- Array.getElem?_toList] at q
         simpa using q)⟩
       refine ⟨M,μ,_,?_,hS.1,hS.2⟩;have so:=Dx (P:=P) (o':=.map (ents.push { key:=y,val:=z,born:=clock }) (clock+1)) h1 (by intro a t f hc;cases hc);simp only [Instr.mapUpdate,Sem.run_bind,Ab hu,Result.andThen,Eb h1,Ea hd hkd,fk,so,Sem.run_pure]
    ·cases e
   ·cases e
  ·cases e
 ·cases e
end
end Go.Proofs.YthpkjfabdccpdaaGreat.Pi
