/- A part of the evaluator over typed open values for any program, and of the proof that it is sound. No condition. -/
import Derived.Test.YtfilfloanndddaaGreatPp2
import GoSem.Step
set_option linter.all false
namespace Go.Proofs.YtfilfloanndddaaGreat.Sv
section
section
variable {α β γ:Type}
def gd (c:Bool) (k:Unit->Option β):Option β:=bif c then k () else none
def br (c:Bool) (a b:Unit->Option β):Option β:=bif c then a () else b ()
def ix (l:List α) (i:Nat) (k:α->Option β):Option β:=match l[i]? with
 | some x=>k x
 | none=>none
def RX (n:Int) (k:Nat->Option β):Option β:=bif decide (0<=n) then k n.toNat else none
def bd (m:Option α) (k:α->Option β):Option β:=match m with
 | some x=>k x
 | none=>none
inductive LR (α β:Type) where
 | nx (s:α)
 | dn (x:β)
def IJ:Nat->(α->Option (LR α β))->α->Option β
 | 0,_,_=>none
 | n+1,f,s=>match f s with
  | none=>none
  | some (.nx s)=>IJ n f s
  | some (.dn x)=>some x
def loop (f:α->Option (LR α β)) (s:α):Option β:=IJ 18446744073709551616 f s
def jn {δ:Type} (f:α->Option (LR δ γ)) (s:α) (k:δ->Option β) (a:γ->Option β):Option β:=match f s with
 | none=>none
 | some (.nx x)=>k x
 | some (.dn x)=>a x
def Rl (k:IntKind) (a b:Int):Int:=k.wrap (a+b)
def Rp (k:IntKind) (a b:Int):Int:=k.wrap (a-b)
def Rm (k:IntKind) (a b:Int):Int:=k.wrap (a*b)
def SX (k:IntKind) (a b:Int):Int:=k.wrap (a.tdiv b)
def SY (_:IntKind) (a b:Int):Int:=a.tmod b
def SS (k:IntKind) (a b:Int):Int:=k.wrap (BitVec.ofInt k.bits a &&& BitVec.ofInt k.bits b).toNat
def S1 (k:IntKind) (a b:Int):Int:=k.wrap (BitVec.ofInt k.bits a ||| BitVec.ofInt k.bits b).toNat
def Sc (k:IntKind) (a b:Int):Int:=k.wrap (BitVec.ofInt k.bits a ^^^ BitVec.ofInt k.bits b).toNat
def SZ (k:IntKind) (a b:Int):Int:=k.wrap (a*2 ^ (min b.toNat k.bits))
def Sa (k:IntKind) (a b:Int):Int:=a.fdiv (2 ^ (min b.toNat k.bits))
def Rn (k:IntKind) (a:Int):Int:=k.wrap (0-a)
def Su (k:IntKind) (a:Int):Int:=k.wrap a
def RR (a b:Int):Bool:=a == b
def RT (a b:Int):Bool:=a != b
def SW (a b:Int):Bool:=decide (a<b)
def SV (a b:Int):Bool:=decide (a<=b)
def SU (a b:Int):Bool:=decide (a>b)
def RS (a b:Int):Bool:=decide (a>=b)
def S0 (a b:Int):Int:=if b>a then b else a
def Sz (a b:Int):Int:=if b<a then b else a
def Hf (a:Bool):Bool := !a
def NX (a b:Bool):Bool:=a&&b
def beq (a b:Bool):Bool:=a == b
def Kb (n:Nat):Int:=n
def BD (a b:Nat):Nat:=a+b
def PA (a b:Nat):Nat:=a-b
def CD (a b:Nat):Bool:=Nat.ble a b
def KC (a b:Nat):Bool:=Nat.blt a b
def neq (a b:Nat):Bool:=Nat.beq a b
def QL (a b:Nat):Nat:=Nat.min a b
def MW (l:List UInt8):Nat:=l.length
def Si (a b:List UInt8):List UInt8:=a++b
def seq (a b:List UInt8):Bool:=a == b
def Rz (a b:List UInt8):Bool:=Op.bytesLess a b
def R0 (l:List UInt8) (lo hi:Nat):List UInt8:=(l.drop lo).take (hi-lo)
def S4 (b:UInt8):Int:=b.toNat
def OO (l:List Int) (k:Nat):Int:=(l[k]?).getD 0
def Sw (c:Bool) (a b:Int):Int:=bif c then a else b
def Sy (n:Int):UInt8:=UInt8.ofNat n.toNat
def AS (l:List α):Nat:=l.length
def Ik (a b:List α):List α:=a++b
def Dy (l:List α) (lo hi:Nat):List α:=(l.drop lo).take (hi-lo)
def lset (l:List α) (i:Nat) (x:α):List α:=l.set i x
def Q8 (n:Nat) (x:α):List α:=List.replicate n x
def K5 (l:List α) (off:Nat) (x:List α) (n:Nat):List α:=l.take off++(x.take n++l.drop (off+(x.take n).length))
def MI (e:γ->γ->Bool):List (γ×α)->γ->Option α
 | [],_=>none
 | (k,v)::l,x=>bif e x k then some v else MI e l x
def IR (e:γ->γ->Bool):List (γ×α)->γ->α->List (γ×α)
 | [],x,y=>[(x,y)]
 | (k,v)::l,x,y=>bif e x k then (x,y)::l else (k,v)::IR e l x y
def IQ (e:γ->γ->Bool):List (γ×α)->γ->List (γ×α)
 | [],_=>[]
 | (k,v)::l,x=>bif e x k then l else (k,v)::IQ e l x
def Rt (o:Option α) (z:α):α:=o.getD z
def S3 (o:Option α):Bool:=o.isSome
end
end
section
variable [Pi.Gl]
open Go.Proofs.YtfilfloanndddaaGreat.Pi (PV T DF UM PE lget)
inductive Ty where
 | int (k:IntKind)
 | bool
 | str
 | unit
 | pair (a b:Ty)
 | sl (g:Bool) (c:Ty)
 deriving DecidableEq
@[reducible] def Ty.den:Ty->Type
 | .int _=>Int
 | .bool=>Bool
 | .str=>List UInt8
 | .unit=>Unit
 | .pair a b=>a.den×b.den
 | .sl _ c=>List c.den
inductive V where
 | bool (b:Bool)
 | int (k:IntKind) (n:Int)
 | str (l:List UInt8)
 | nilp | nils | nilm | nilf | nili
 | agg (cs:List V)
 | tup (vs:List V)
 | lf (full g:Bool) (c:Ty) (l:List c.den)
 | pl (g:Bool) (c:Ty) (l:List c.den)
 | exl (full:Bool) (es:List V)
 | ow (id:Nat)
 | own (id off len:Nat)
 | ptr (id off:Nat)
 | ept (id i off:Nat)
 | aptr (id off k n:Nat)
 | view (cs:List V)
 | pv (cs:List V)
 | fn (f:Fn) (first captured:List V)
 | yl (id:Nat)
 | ifc (t:TypeId) (v:V)
 | mp (id:Nat)
structure PEA where
 v:V
 recovered:Bool
inductive UMA where
 | ret
 | pan (ch:List PEA)
inductive DFA where
 | call (f:V) (args:List V)
 | bi (b:Builtin) (ats:Array TypeId) (ty:TypeId) (args:List V)
 | col (id:Nat)
inductive ExA where
 | normal
 | exit (id:Nat)
 | goto (l:Nat)
 | ret
 | panic (v:V)
inductive BA where
 | box (cs:List V) (fz lk:Bool)
 | row (g:Bool) (c:Ty) (l:List c.den) (ex fz lk:Bool)
 | mp (k:Ty) (g:Bool) (c:Ty) (l:List (k.den×c.den)) (lk:Bool)
 | lp (st:Nat) (pend:Option Code) (nt:Nat) (t:T V) (ps:List Nat) (asg body:Code) (d:Nat)
 | df (ds:Option (List DFA))
 | dead
abbrev H:=T BA
structure FrA where
 t:T V
 nt:Nat
 ds:List DFA
 up:Option UMA
 ro:Option Nat
inductive OutA where
 | ret (v:V)
 | pan (ch:List PEA)
def V.cells:V->List V
 | .agg cs=>cs
 | .tup _=>[]
 | v=>[v]
def cells:(c:Ty)->c.den->List V
 | .int k,n=>[.int k n]
 | .bool,b=>[.bool b]
 | .str,s=>[.str s]
 | .unit,_=>[]
 | .pair a b,x=>cells a x.1++cells b x.2
 | .sl g c,l=>[.lf false g c l]
def Gr:(c:Ty)->c.den->List V
 | .int k,n=>[.int k n]
 | .bool,b=>[.bool b]
 | .str,s=>[.str s]
 | .unit,_=>[]
 | .pair a b,x=>Gr a x.1++Gr b x.2
 | .sl g c,l=>[.pl g c l]
def elP (g:Bool) (c:Ty) (x:c.den):V:=bif g then .agg (Gr c x) else match Gr c x with
 | [v]=>v
 | _ => .nilp
def V.norm:V->V
 | .pl g c l => .lf false g c l
 | .pv cs => .view cs
 | v=>v
def Nd (g:Bool) (c:Ty) (x:c.den):V:=bif g then .agg (cells c x) else match cells c x with
 | [v]=>v
 | _ => .nilp
def NR:(c:Ty)->c.den
 | .int _=>(0:Int)
 | .bool=>false
 | .str=>[]
 | .unit=>()
 | .pair a b=>(NR a,NR b)
 | .sl _ _=>[]
def Ty.depth:Ty->Nat
 | .pair a b=>Nat.max a.depth b.depth
 | .sl _ c=>c.depth+1
 | _=>0
def Ty.wd:Ty->Nat
 | .unit=>0
 | .pair a b=>a.wd+b.wd
 | _=>1
def Ty.hasSl:Ty->Bool
 | .pair a b=>a.hasSl||b.hasSl
 | .sl _ _=>true
 | _=>false
def Ph (rec:TypeId->Option (Bool×Ty)):List Field->Option Ty
 | []=>some .unit
 | [f]=>(rec f.type).map (·.2)
 | f::fs=>match rec f.type,Ph rec fs with
  | some (_,c),some r=>some (.pair c r)
  | _,_=>none
def Qo:Nat->Ty->Ty
 | 0,_ => .unit
 | 1,c=>c
 | n+1,c => .pair c (Qo n c)
def Me (P:Program):Nat->TypeId->Option (Bool×Ty)
 | 0,_=>none
 | d+1,t=>match P.underlying t with
  | some (.int k)=>some (false,.int k)
  | some .bool=>some (false,.bool)
  | some .string=>some (false,.str)
  | some (.slice e)=>(Me P d e).map λ(g,c)=>(false,.sl g c)
  | some (.struct fs)=>(Ph (Me P d) fs.toList).map λc=>(true,c)
  | some (.array n e)=>(Me P d e).map λ(_,c)=>(true,Qo n c)
  | _=>none
def SJ:Nat:=14
section
variable {β:Type}
def DQ {c a:Ty} (l:List c.den) (K:List a.den->Option β):Option β:=if e:c=a then K (e ▸ l) else none
def Qd {k c b a:Ty} (l:List (k.den×c.den)) (K:List (b.den×a.den)->Option β):Option β :=
 if e:k=b then if e2:c=a then K (e ▸ e2 ▸ l) else none else none
def OX {α:Type} (d:V->(α->Option β)->Option β):List V->(List α->Option β)->Option β
 | [],K=>K []
 | v::vs,K=>d v λx=>OX d vs λl=>K (x::l)
def Dp (h:H):(c:Ty)->List V->(c.den->List V->Option β)->Option β
 | .int k,vs,K=>match vs with
  | .int k' n::r=>bif k == k' then K n r else none
  | _=>none
 | .bool,vs,K=>match vs with
  | .bool b::r=>K b r
  | _=>none
 | .str,vs,K=>match vs with
  | .str s::r=>K s r
  | _=>none
 | .unit,vs,K=>K () vs
 | .pair a b,vs,K=>Dp h a vs λx r=>Dp h b r λy r=>K (x,y) r
 | .sl g c,vs,K=>match vs with
  | .nils::r=>K [] r
  | .lf _ g' _ l::r=>bif g == g' then DQ l λl=>K l r else none
  | .pl g' _ l::r=>bif g == g' then DQ l λl=>K l r else none
  | .exl _ es::r=>OX (λv K=>bif g then (match v with
    | .agg cs=>Dp h c cs λx q=>match q with
     | []=>K x
     | _=>none
    | _=>none) else Dp h c [v] λx q=>match q with
     | []=>K x
     | _=>none) es λl=>K l r
  | .ow id::r=>match h.get id with
   | some (.row g' _ l _ _ _)=>bif g == g' then DQ l λl=>K l r else none
   | _=>none
  | .own id off len::r=>match h.get id with
   | some (.row g' _ l _ _ _)=>bif g == g' then gd (CD (BD off len) (AS l)) λ_=>DQ (Dy l off (BD off len)) λl=>K l r else none
   | _=>none
  | _=>none
def GH (h:H) (g:Bool) (c:Ty) (v:V) (K:c.den->Option β):Option β:=bif g then (match v with
  | .agg cs=>Dp h c cs λx q=>match q with
   | []=>K x
   | _=>none
  | _=>none) else Dp h c [v] λx q=>match q with
   | []=>K x
   | _=>none
end
def GF:Value->Option V
 | .bool b=>some (.bool b)
 | .int k n=>some (.int k n)
 | .string s=>some (.str s.data.toList)
 | .pointer none=>some .nilp
 | .slice none 0 0=>some .nils
 | .map none=>some .nilm
 | .nilFunc=>some .nilf
 | .nilIface=>some .nili
 | .func (.func f) first cap=>if first.isEmpty&&cap.isEmpty then some (.fn (.func f) [] []) else none
 | _=>none
def Dn:List Value->Option (List V)
 | []=>some []
 | v::l=>match GF v,Dn l with
  | some p,some ps=>some (p::ps)
  | _,_=>none
def KD:Value->Option V
 | .agg cs=>(Dn cs.toList).map .agg
 | .tuple vs=>bif vs.isEmpty then some (.tup []) else none
 | .iface t v=>match GF v with
  | some p=>some (.ifc t p)
  | none=>none
 | v=>GF v
def Cf (P:Program) (t:TypeId):Option (List V):=match P.info? t with
 | some i=>match i.zero with
  | some z=>Dn z.cells.toList
  | none=>none
 | none=>none
def C4 (P:Program) (e:TypeId):Option V:=match P.info? e with
 | some i=>match i.zero with
  | some z=>KD z
  | none=>none
 | none=>none
def D2 (P:Program) (t:TypeId) (cs:List V):Option V:=match Pi.KZ P t,Pi.AV P t with
 | some true,some n=>bif Nat.ble n cs.length then some (.agg (cs.take n)) else none
 | some false,some _=>match cs with
  | c::_=>some c
  | []=>none
 | _,_=>none
def AG (h:H) (id:Nat) (b:BA):H:=T.put 20 h id b
def GR (cs:List V) (off:Nat) (x:List V):List V:=cs.take off++(x++cs.drop (off+x.length))
inductive RA where
 | val (v:V) (h:H)
 | skip (h:H)
 | call (f:FuncId) (args:List V)
 | yield (id:Nat) (args:List V)
 | pan (v:V)
 | rcv
 | dfr (d:DFA)
section
variable {β:Type}
def CX {α:Type} (o:Option α) (K:α->Option β):Option β:=match o with
 | some x=>K x
 | none=>none
def BF (t:T V) (o:Operand) (K:V->Option β):Option β:=match o with
 | .tmp k=>CX (t.get k) K
 | .const v=>CX (KD v) K
 | .func f=>K (.fn (.func f) [] [])
 | .global _=>none
def Nl (t:T V):List Operand->(List V->Option β)->Option β
 | [],K=>K []
 | o::l,K=>BF t o λv=>Nl t l λvs=>K (v::vs)
def P3 (t:T V) (o:Option Operand) (K:Option V->Option β):Option β:=match o with
 | none=>K none
 | some o=>BF t o λv=>K (some v)
def IS (v:V) (K:Nat->Option β):Option β:=match v with
 | .int _ n=>RX n K
 | _=>none
def CA (d:Nat) (o:Option V) (K:Nat->Option β):Option β:=match o with
 | none=>K d
 | some v=>IS v K
def J6 (v:V) (K:Nat->Option β):Option β:=match v with
 | .int .i64 n=>RX n K
 | _=>none
def Q5 (c:BinOp) (k:IntKind) (a b:Int) (K:V->Option β):Option β:=match c with
 | .add=>K (.int k (Rl k a b))
 | .sub=>K (.int k (Rp k a b))
 | .mul=>K (.int k (Rm k a b))
 | .quo=>gd (RT b 0) λ_=>K (.int k (SX k a b))
 | .rem=>gd (RT b 0) λ_=>K (.int k (SY k a b))
 | .eql=>K (.bool (RR a b))
 | .neq=>K (.bool (RT a b))
 | .lss=>K (.bool (SW a b))
 | .leq=>K (.bool (SV a b))
 | .gtr=>K (.bool (SU a b))
 | .geq=>K (.bool (RS a b))
 | .and=>K (.int k (SS k a b))
 | .or=>K (.int k (S1 k a b))
 | .xor=>K (.int k (Sc k a b))
 | _=>none
def MV (c:BinOp) (k:IntKind) (a b:Int) (K:V->Option β):Option β:=match c with
 | .shl=>gd (RS b 0) λ_=>K (.int k (SZ k a b))
 | .shr=>gd (RS b 0) λ_=>K (.int k (Sa k a b))
 | _=>none
def RJ (c:BinOp) (a b:List UInt8) (K:V->Option β):Option β:=match c with
 | .add=>gd (CD (BD (MW a) (MW b)) 1000000000) λ_=>K (.str (Si a b))
 | .eql=>K (.bool (seq a b))
 | .neq=>K (.bool (Hf (seq a b)))
 | .lss=>K (.bool (Rz a b))
 | .leq=>K (.bool (Hf (Rz b a)))
 | .gtr=>K (.bool (Rz b a))
 | .geq=>K (.bool (Hf (Rz a b)))
 | _=>none
end
mutual
def P2 (P:Program):Nat->TypeId->V->V->Option Bool
 | 0,_,_,_=>none
 | d+1,t,x,y=>match P.underlying t with
  | some .bool=>match x,y with
   | .bool a,.bool b=>some (beq a b)
   | _,_=>none
  | some (.int _)=>match x,y with
   | .int k a,.int k' b=>bif k == k' then some (RR a b) else none
   | _,_=>none
  | some .string=>match x,y with
   | .str a,.str b=>some (seq a b)
   | _,_=>none
  | some (.pointer _)=>match x,y with
   | .nilp,.nilp=>some true
   | .nilp,.ptr _ _ | .nilp,.view _ | .nilp,.pv _ | .nilp,.ept _ _ _ | .ptr _ _,.nilp | .view _,.nilp | .pv _,.nilp | .ept _ _ _,.nilp=>some false
   | _,_=>none
  | some (.slice _)=>match x,y with
   | .nils,.nils=>some true
   | .nils,.exl _ _ | .exl _ _,.nils | .nils,.lf _ _ _ (_::_) | .lf _ _ _ (_::_),.nils | .nils,.pl _ _ (_::_) | .pl _ _ (_::_),.nils | .nils,.own _ _ _ | .own _ _ _,.nils=>some false
   | _,_=>none
  | some (.func _ _ _)=>match x,y with
   | .nilf,.nilf=>some true
   | .nilf,.fn _ _ _ | .fn _ _ _,.nilf=>some false
   | _,_=>none
  | some (.interface _)=>match x,y with
   | .nili,.nili=>some true
   | .nili,.ifc _ _ | .ifc _ _,.nili=>some false
   | .ifc t a,.ifc t' b=>bif Nat.beq t t' then (match P.info? t with
     | some i=>bif i.comparable then P2 P d t a b else none
     | none=>none) else some false
   | _,_=>none
  | some (.struct fs)=>match x,y with
   | .agg a,.agg b=>bif P.stoodInHeld t then none else L4 P d fs.toList a b
   | _,_=>none
  | some (.array n e)=>match x,y with
   | .agg a,.agg b=>bif (Pi.AV P e).isSome then Ni P d n e a b else none
   | _,_=>none
  | _=>none
def L4 (P:Program):Nat->List Field->List V->List V->Option Bool
 | 0,_,_,_=>none
 | _+1,[],_,_=>some true
 | d + 1, f :: fs, a, b => bif f.name == "_" then L4 P d fs a b else match D2 P f.type (a.drop f.offset), D2 P f.type (b.drop f.offset) with
  | some x,some y=>(match P2 P d f.type x y,L4 P d fs a b with
   | some c,some r=>some (NX c r)
   | _,_=>none)
  | _,_=>none
def Ni (P:Program):Nat->Nat->TypeId->List V->List V->Option Bool
 | 0,_,_,_,_=>none
 | _+1,0,_,_,_=>some true
 | d+1,n+1,e,a,b=>match Pi.AV P e,D2 P e a,D2 P e b with
  | some s,some x,some y=>(match P2 P d e x y,Ni P d n e (a.drop s) (b.drop s) with
   | some c,some r=>some (NX c r)
   | _,_=>none)
  | _,_,_=>none
end
section
variable {β:Type}
def Qv (P:Program) (d:BinOp) (ty:TypeId) (x y:Operand) (a b:V) (K:V->Option β):Option β:=match a,b with
 | .int k a,.int k' b=>match d with
  | .shl | .shr=>MV d k a b K
  | _=>bif k == k' then Q5 d k a b K else none
 | .str a,.str b=>RJ d a b K
 | .nili,.nili=>bif Pi.CO x||Pi.CO y then CX (P2 P 64 ty .nili .nili) λc=>(match d with
  | .eql=>K (.bool c)
  | .neq=>K (.bool (Hf c))
  | _=>none) else none
 | .agg a,.agg b=>bif P.eqGuardType P.depth ty then none else CX (P2 P 64 ty (.agg a) (.agg b)) λc=>(match d with
  | .eql=>K (.bool c)
  | .neq=>K (.bool (Hf c))
  | _=>none)
 | a,b=>CX (P2 P 64 ty a b) λc=>match d with
  | .eql=>K (.bool c)
  | .neq=>K (.bool (Hf c))
  | _=>none
def Sk (c:UnOp) (a:V) (K:V->Option β):Option β:=match a with
 | .bool b=>match c with
  | .not=>K (.bool (Hf b))
  | _=>none
 | .int k n=>match c with
  | .neg=>K (.int k (Rn k n))
  | _=>none
 | _=>none
def purA (h:H):Nat->V->(V->List Nat->Option β)->Option β
 | 0,_,_=>none
 | n+1,v,K=>match v with
  | .agg cs=>purAs (purA h n) cs λx l=>K (.agg x) l
  | .tup cs=>purAs (purA h n) cs λx l=>K (.tup x) l
  | .ifc t x=>purA h n x λx l=>K (.ifc t x) l
  | .fn f a b=>purAs (purA h n) a λa l=>purAs (purA h n) b λb m=>K (.fn f a b) (l++m)
  | .lf _ g c l=>bif Nat.ble (2*c.depth+3) (n+7) then K (.lf false g c l) [] else none
  | .pl g c l=>K (.pl g c l) []
  | .ow id=>match h.get id with
   | some (.row g c l _ _ _)=>bif Nat.ble (2*c.depth+3) (n+7) then K (.lf false g c l) [id] else none
   | _=>none
  | .own id off len=>match h.get id with
   | some (.row g c l _ _ _)=>bif Nat.ble (2*c.depth+3) (n+7) then gd (CD (BD off len) (AS l)) λ_=>K (.lf false g c (Dy l off (BD off len))) [id] else none
   | _=>none
  | .ptr _ _ | .view _ | .pv _ | .ept _ _ _ | .aptr _ _ _ _ | .yl _ | .mp _=>none
  | v=>K v []
where
 purAs (p:V->(V->List Nat->Option β)->Option β):List V->(List V->List Nat->Option β)->Option β
  | [],K=>K [] []
  | v::vs,K=>p v λx l=>purAs p vs λxs m=>K (x::xs) (l++m)
def NH (h:H):List V->(List V->List Nat->Option β)->Option β
 | [],K=>K [] []
 | v::vs,K=>purA h 6 v λx l=>NH h vs λxs m=>K (x::xs) (l++m)
end
def B5 (h:H):List Nat->Option H
 | []=>some h
 | id::l=>match h.get id with
  | some (.row g c x ex fz lk)=>bif fz then B5 h l else bif lk then none else B5 (AG h id (.row g c x ex true false)) l
  | _=>none
def IB (cs:List V):List (Nat×Nat×List V)->Option (List V)
 | []=>some cs
 | (off,n,x)::r=>bif Nat.beq x.length n&&Nat.ble (off+n) cs.length then IB (GR cs off x) r else none
def Jq (a:Nat) (es:List V):List (Nat×V)->Option (List V)
 | []=>some es
 | (i,v)::r=>bif Nat.beq v.cells.length a&&Nat.blt i es.length then Jq a (Pi.lset es i v) r else none
def FJ (P:Program) (a:Array Field):List (Nat×V)->Option (List (Nat×Nat×List V))
 | []=>some []
 | (i,p)::l=>match a[i]?,FJ P a l with
  | some f,some r=>(match Pi.AV P f.type with
   | some n=>bif Nat.blt 0 n then some ((f.offset,n,p.cells)::r) else none
   | none=>none)
  | _,_=>none
def F5 (a:Nat):List (Nat×V)->List (Nat×Nat×List V)
 | []=>[]
 | (i,p)::l=>(i*a,a,p.cells)::F5 a l
def NA (a:Bool) (cs:List V):Option V :=
 bif a then some (.agg cs) else match cs with
  | [c]=>some c
  | _=>none
def Rg (P:Program) (a:TypeId):Option (Bool×Ty):=match P.underlying a with
 | some (.slice e)=>Me P SJ e
 | _=>none
def Q7:(k:Ty)->Option (k.den->k.den->Bool)
 | .int _=>some (λ(a b:Int)=>RR a b)
 | .bool=>some (λ(a b:Bool)=>beq a b)
 | .str=>some (λ(a b:List UInt8)=>seq a b)
 | _=>none
section
variable {β:Type}
def Gb (t:T V):List (Nat×Operand)->(List (Nat×V)->Option β)->Option β
 | [],K=>K []
 | (i,o)::l,K=>BF t o λv=>Gb t l λr=>K ((i,v)::r)
def IU (k:Nat):Nat->Nat->(Nat->Option β)->Option β
 | 0,_,_=>none
 | 1,i,K=>gd (neq k i) λ_=>K i
 | n+1,i,K=>br (neq k i) (λ_=>K i) λ_=>IU k n (i+1) K
def Jh (h:H) (g:Bool) (c:Ty) (v:V) (K:List c.den->Option β):Option β:=Dp h (.sl g c) [v] λl _=>K l
def I5 (P:Program) (a:TypeId) (c:Ty):Bool:=match P.underlying a with
 | some (.slice e)=>(match P.info? e,Pi.zeroCells P e with
  | some ti,some z=>Nat.beq ti.size c.wd&&Nat.ble ti.bytes 1048576&&Nat.beq z.length ti.size&&Nat.blt 0 ti.size
  | _,_=>false)
 | _=>false
def Qr (P:Program) (h:H) (id:Nat) (a:TypeId) (s x:V) (K:RA->Option β):Option β :=
 CX (Rg P a) λ(g,c)=>bif I5 P a c then Jh h g c x λnew=>match s with
  | .nils=>gd (CD (AS new) 1048576) λ_=>K (.val (.ow id) (AG h id (.row g c new false false false)))
  | .lf true g' _ l=>bif g == g' then gd (CD (BD (AS l) (AS new)) 1048576) λ_=>DQ l λl=>(match x with
   | .exl _ (_::_)=>K (.val (.ow id) (AG h id (.row g c (Ik l new) false false false)))
   | _=>br (neq (AS new) 0) (λ_=>K (.val s h)) λ_=>K (.val (.ow id) (AG h id (.row g c (Ik l new) false false false)))) else none
  | .exl true []=>gd (CD (AS new) 1048576) λ_=>K (.val (.ow id) (AG h id (.row g c new false false false)))
  | .ow j=>match h.get j with
   | some (.row g' _ l ex fz lk)=>bif !(g == g')||lk then none else DQ l λl=>gd (CD (BD (AS l) (AS new)) 1048576) λ_ =>
    bif ex then (match x with
     | .exl _ (_::_)=>K (.val (.ow id) (AG h id (.row g c (Ik l new) false false false)))
     | _=>br (neq (AS new) 0) (λ_=>K (.val s h)) λ_=>K (.val (.ow id) (AG h id (.row g c (Ik l new) false false false))))
    else K (.val (.ow id) (AG (AG h j .dead) id (.row g c (Ik l new) false fz false)))
   | _=>none
  | .own j off len=>match h.get j with
   | some (.row g' _ l true false false)=>bif g == g' then DQ l λl=>gd (CD (BD len (AS new)) 1048576) λ_=>gd (CD (BD off len) (AS l)) λ_ =>
    br (neq (AS new) 0) (λ_=>K (.val s h)) λ_ =>
    br (CD (BD (BD off len) (AS new)) (AS l)) (λ_=>K (.val (.own j off (BD len (AS new))) (AG h j (.row g c (K5 l (BD off len) new (AS new)) true false false)))) λ_ =>
     K (.val (.ow id) (AG h id (.row g c (Ik (Dy l off (BD off len)) new) false false false))) else none
   | _=>none
  | _=>none
 else none
def Ow (P:Program) (h:H) (t:TypeId) (v:V) (K:Int->Option β):Option β:=match P.underlying t,v with
 | some (.map _ _),.mp j=>(match h.get j with
  | some (.mp _ _ _ l _)=>K (Kb (AS l))
  | _=>none)
 | some (.map _ _),.nilm=>K 0
 | some (.array n _),_=>K n
 | some (.slice _),.nils=>K 0
 | some (.slice _),.lf _ _ _ l=>K (Kb (AS l))
 | some (.slice _),.exl _ es=>K es.length
 | some (.slice _),.ow j=>(match h.get j with
  | some (.row _ _ l _ _ _)=>K (Kb (AS l))
  | _=>none)
 | some (.slice _),.own _ _ len=>K (Kb len)
 | some .string,.str l=>K (Kb (MW l))
 | _,_=>none
def Rq (P:Program) (h:H) (t:TypeId) (v:V) (K:Int->Option β):Option β:=Ow P h t v.norm K
def JD (f:Int->Int->Int) (k:IntKind):Int->List V->(Int->Option β)->Option β
 | m,[],K=>K m
 | m,.int k' y::l,K=>bif k == k' then JD f k (f m y) l K else none
 | _,_,_=>none
def Em:Ty->TypeDesc->Bool
 | .int _,.int _=>true
 | .bool,.bool=>true
 | .str,.string=>true
 | _,_=>false
def Ou (P:Program) (ty:TypeId) (m v:V) (h:H) (K:(j:Nat)->(k:Ty)->(g:Bool)->(c:Ty)->List (k.den×c.den)->Bool->(k.den->k.den->Bool)->k.den->Option β):Option β :=
 match P.underlying ty,m with
 | some (.map kt _),.mp j=>match P.underlying kt,h.get j with
  | some d,some (.mp k g c l lk)=>bif Em k d then CX (Q7 k) λe=>Dp .lf k [v] λx q=>(match q with
   | []=>K j k g c l lk e x
   | _=>none) else none
  | _,_=>none
 | _,_=>none
def H1 (P:Program) (h:H) (id:Nat) (b:Builtin) (f:Array TypeId) (args:List V) (K:RA->Option β):Option β :=
 match b with
 | .len=>match args,f[0]? with
  | [x],some t=>Rq P h t x λn=>K (.val (.int .i64 n) h)
  | _,_=>none
 | .cap=>match args,f[0]? with
  | [x],some t=>match P.underlying t,x with
   | some (.slice _),.ow j=>(match h.get j with
    | some (.row _ _ l true _ _)=>K (.val (.int .i64 (Kb (AS l))) h)
    | _=>none)
   | some (.slice _),.own j off _=>(match h.get j with
    | some (.row _ _ l true _ _)=>K (.val (.int .i64 (Kb (PA (AS l) off))) h)
    | _=>none)
   | some (.slice _),.nils=>K (.val (.int .i64 0) h)
   | _,_=>none
  | _,_=>none
 | .append=>match args,f.toList with
  | [s,x],[t,t']=>bif Nat.beq t t' then Qr P h id t s x K else none
  | _,_=>none
 | .copy=>match args,f[0]? with
  | [d,x],some t=>CX (Rg P t) λ(g,c)=>bif !I5 P t c then none else Jh h g c x λnew=>match d with
   | .ow j=>(match h.get j with
    | some (.row g' _ l true false false)=>bif g == g' then DQ l λl=>K (.val (.int .i64 (Kb (QL (AS new) (AS l)))) (AG h j (.row g c (K5 l 0 new (AS l)) true false false))) else none
    | _=>none)
   | .own j off len=>(match h.get j with
    | some (.row g' _ l ex false false)=>bif g == g' then DQ l λl=>gd (CD (BD off len) (AS l)) λ_=>K (.val (.int .i64 (Kb (QL (AS new) len))) (AG h j (.row g c (K5 l off new len) ex false false))) else none
    | _=>none)
   | _=>none
  | _,_=>none
 | .clear=>match args,f[0]? with
  | [.mp j],some t=>match P.underlying t,h.get j with
   | some (.map _ _),some (.mp k g c _ false)=>K (.val (.tup []) (AG h j (.mp k g c [] false)))
   | _,_=>none
  | _,_=>none
 | .delete=>match args,f[0]? with
  | [m,v],some t=>Ou P t m v h λj k g c l i e x=>bif i then none else K (.val (.tup []) (AG h j (.mp k g c (IQ e l x) false)))
  | _,_=>none
 | .max=>match args with
  | .int k a::r=>JD S0 k a r λm=>K (.val (.int k m) h)
  | _=>none
 | .min=>match args with
  | .int k a::r=>JD Sz k a r λm=>K (.val (.int k m) h)
  | _=>none
 | .panic=>match args with
  | [.ifc t v]=>K (.pan (.ifc t v))
  | _=>none
 | .recover=>K .rcv
 | _=>none
def FA (P:Program) (f:Fn) (first cap args:List V) (K:RA->Option β):Option β:=match f with
 | .func g=>match P.funcs[g]? with
  | some fn => bif fn.body.isSome && !(fn.name == "runtime.NumGoroutine") then K (.call g (first ++ args ++ cap)) else none
  | none=>none
 | .method name=>match first++args with
  | .ifc t v::rest=>match P.info? t with
   | some i=>match i.methods.find? (·.name == name) with
    | some m=>match m.path.isEmpty,m.func,P.underlying t with
     | true, some (g, true), some (.pointer _) => bif (match P.funcs[g]? with | some fn => fn.body.isSome && !(fn.name == "runtime.NumGoroutine") | none => false) then K (.call g (v :: rest)) else none
     | true,some (_,false),some (.pointer _)=>none
     | true, some (g, false), some _ => bif (match P.funcs[g]? with | some fn => fn.body.isSome && !(fn.name == "runtime.NumGoroutine") | none => false) then K (.call g (v :: rest)) else none
     | _,_,_=>none
    | none=>none
   | none=>none
  | _=>none
 | _=>none
def HV (a:IntKind):Nat->List V->Option (List Int)
 | 0,_=>some []
 | n+1,.int k x::l=>bif k == a then (HV a n l).map (x::·) else none
 | _+1,_=>none
def Ov:List V->Option IntKind
 | .int k _::_=>some k
 | _=>none
def MU (a:IntKind) (k:Nat) (x:Int):Nat->List Int->List V
 | _,[]=>[]
 | i,y::l => .int a (Sw (neq k i) x y)::MU a k x (i+1) l
def Qt (h:H) (n len:Nat) (x:V):Option (Nat×Nat):=match x with
 | .ptr j off=>(match h.get j with
  | some (.box cs _ _)=>(match Ov (cs.drop off) with
   | some a=>bif Nat.beq n 1&&(HV a len (cs.drop off)).isSome then some (j,off) else none
   | none=>none)
  | _=>none)
 | _=>none
def Oz (P:Program) (h:H) (ty:TypeId) (p:V) (K:V->Option β):Option β:=match p with
 | .pv cs=>CX (D2 P ty cs) K
 | .ptr j off=>match h.get j with
  | some (.box cs _ _)=>CX (D2 P ty (cs.drop off)) K
  | _=>none
 | .view cs=>CX (D2 P ty cs) K
 | .ept j i off=>match h.get j with
  | some (.row g c l _ _ _)=>ix l i λx=>CX (D2 P ty ((Nd g c x).cells.drop off)) K
  | _=>none
 | .aptr j off k n=>match h.get j with
  | some (.box cs _ _)=>(match Ov (cs.drop off),Pi.KZ P ty,Pi.AV P ty with
   | some k0,some false,some _=>CX (HV k0 n (cs.drop off)) λl=>K (.int k0 (OO l k))
   | _,_,_=>none)
  | _=>none
 | _=>none
def MZ (P:Program) (h:H) (ty:TypeId) (p v:V) (K:H->Option β):Option β:=CX (Pi.AV P ty) λn =>
 bif !Nat.blt 0 n || !Nat.beq v.cells.length n then none else match p with
 | .ptr j off=>match h.get j with
  | some (.box cs false false)=>bif Nat.ble (off+n) cs.length then K (AG h j (.box (GR cs off v.cells) false false)) else none
  | _=>none
 | .ept j i off=>match h.get j with
  | some (.row g c l ex false false)=>ix l i λx=>bif Nat.ble (off+n) (cells c x).length then
    Dp .lf c (GR (cells c x) off v.cells) λy q=>match q with
     | []=>K (AG h j (.row g c (lset l i y) ex false false))
     | _=>none
   else none
  | _=>none
 | .aptr j off k m=>match h.get j with
  | some (.box cs false false)=>(match v,Ov (cs.drop off) with
   | .int k1 x,some k0=>bif k1 == k0 then CX (HV k0 m (cs.drop off)) λl=>K (AG h j (.box (GR cs off (MU k0 k x 0 l)) false false)) else none
   | _,_=>none)
  | _=>none
 | _=>none
def Lw (P:Program) (ty:TypeId) (a:List (Nat×V)) (K:V->Option β):Option β :=
 match Cf P ty,P.underlying ty with
 | some z,some (.struct fs)=>bif fs.toList.all λf=>(Pi.AV P f.type).isSome then
   (match FJ P fs a with
   | some pl=>CX (IB z pl) λcs=>K (.agg cs)
   | none=>none) else none
 | some z,some (.array _ e)=>match Pi.AV P e with
  | some n=>bif Nat.blt 0 n then CX (IB z (F5 n a)) λcs=>K (.agg cs) else none
  | none=>none
 | _,_=>none
def Eb (P:Program) (h:H) (ty:TypeId) (len:Nat) (a:List (Nat×V)) (K:RA->Option β):Option β :=
 match P.underlying ty with
 | some (.slice e)=>match Pi.AV P e,Pi.KZ P e,Cf P e with
  | some n,some ag,some z=>match NA ag z with
   | some b=>bif !Nat.blt 0 n || !Nat.ble (len*n) 16777216 || !Nat.beq z.length n then none else
    CX (Jq n (List.replicate len b) a) λes=>NH h es λes l=>CX (B5 h l) λh=>K (.val (.exl true es) h)
   | none=>none
  | _,_,_=>none
 | _=>none
def Q9 (p:V) (K:V->Option β):Option β:=match p with
 | .pv cs=>K (.pv cs)
 | .ptr a b=>K (.ptr a b)
 | .ept a b c=>K (.ept a b c)
 | .view cs=>K (.view cs)
 | .ifc ty v=>K (.ifc ty v)
 | .yl i=>K (.yl i)
 | .fn (.func f) a b=>K (.fn (.func f) a b)
 | _=>none
def Qb:List V->(List UInt8->Option β)->Option β
 | [],K=>K []
 | .int .u8 n::l,K=>Qb l λr=>K (Sy n::r)
 | _,_=>none
def H4 (P:Program) (b a:TypeId) (x:V) (K:V->Option β):Option β:=match x,P.underlying b,P.underlying a with
 | .int _ n,some _,some (.int k)=>K (.int k (Su k n))
 | .str l,some .string,some .string=>K (.str l)
 | .exl _ es,some (.slice e),some .string=>(match P.underlying e with
  | some (.int .u8)=>Qb es λl=>K (.str l)
  | _=>none)
 | _,_,_=>none
def Q3 (P:Program) (ty:TypeId) (v:V) (K:V->Option β):Option β:=match P.underlying ty with
 | some (.interface _)=>none
 | some _=>K (.ifc ty v)
 | none=>none
def O4 (P:Program) (h:H) (id:Nat) (ty:TypeId) (same:Bool) (l c:V) (K:RA->Option β):Option β:=match P.underlying ty with
 | some (.slice e)=>match Pi.AV P e,Pi.KZ P e,Cf P e,P.info? e with
  | some n,some ag,some z,some ti=>CX (Me P SJ e) λ(g,ct)=>bif Nat.ble ti.bytes 1048576&&Nat.blt 0 n&&Nat.beq z.length n then CX (NA ag z) λz=>GH .lf g ct z λz=>J6 l λl=>J6 c λc =>
    bif same then gd (CD c 1048576) λ_=>K (.val (.ow id) (AG h id (.row g ct (Q8 c z) true false false)))
    else gd (CD l c) λ_=>gd (CD c 1048576) λ_=>K (.val (.own id 0 l) (AG h id (.row g ct (Q8 c z) true false false)))
   else none
  | _,_,_,_=>none
 | _=>none
def LB (P:Program) (h:H) (id:Nat) (ty:TypeId) (K:RA->Option β):Option β:=match P.underlying ty with
 | some (.map kt e)=>match Me P SJ kt,Me P SJ e with
  | some (false,k),some (g,c)=>K (.val (.mp id) (AG h id (.mp k g c [] false)))
  | _,_=>none
 | _=>none
def MX (P:Program) (h:H) (ty:TypeId) (x:V) (lo hi mx:Option V) (K:V->Option β):Option β:=match P.underlying ty,x with
 | some .string,.str s=>match mx with
  | none=>CA (MW s) hi λhh=>CA 0 lo λl=>gd (CD hh (MW s)) λ_=>gd (CD l hh) λ_=>K (.str (R0 s l hh))
  | _=>none
 | some (.slice e),.nils=>CX (Pi.AV P e) λ_=>match mx with
  | none=>CA 0 hi λhh=>CA 0 lo λl=>gd (neq hh 0) λ_=>gd (neq l 0) λ_=>K .nils
  | some m=>bif hi.isNone then none else CA 0 hi λhh=>CA 0 lo λl=>IS m λm=>gd (neq hh 0) λ_=>gd (neq l 0) λ_=>gd (neq m 0) λ_=>K .nils
 | some (.slice e),.lf _ g c es=>CX (Pi.AV P e) λn=>bif !Nat.beq n c.wd then none else CA 0 lo λl=>CA (AS es) hi λhh=>(match mx with
  | none=>gd (CD hh (AS es)) λ_=>gd (CD l hh) λ_=>K (.lf false g c (Dy es l hh))
  | some m=>bif hi.isNone || !Nat.ble c.depth 4 then none else IS m λm=>gd (CD hh (AS es)) λ_=>gd (neq hh m) λ_=>gd (CD l hh) λ_=>K (.lf true g c (Dy es l hh)))
 | some (.slice e),.pl g c es=>CX (Pi.AV P e) λn=>bif !Nat.beq n c.wd then none else CA 0 lo λl=>CA (AS es) hi λhh=>(match mx with
  | none=>gd (CD hh (AS es)) λ_=>gd (CD l hh) λ_=>K (.pl g c (Dy es l hh))
  | some m=>bif hi.isNone || !Nat.ble c.depth 4 then none else IS m λm=>gd (CD hh (AS es)) λ_=>gd (neq hh m) λ_=>gd (CD l hh) λ_=>K (.lf true g c (Dy es l hh)))
 | some (.slice e),.ow j=>(match h.get j with
  | some (.row g c es _ false _)=>CX (Pi.AV P e) λn=>bif !Nat.beq n c.wd then none else CA 0 lo λl=>CA (AS es) hi λhh=>(match mx with
   | none=>gd (CD hh (AS es)) λ_=>gd (CD l hh) λ_=>br (KC l (AS es)) (λ_=>K (.own j l (PA hh l))) λ_=>K (.lf false g c [])
   | some _=>none)
  | _=>none)
 | some (.slice e),.own j off len=>(match h.get j with
  | some (.row g c es ex _ _)=>CX (Pi.AV P e) λn=>bif !Nat.beq n c.wd then none else CA 0 lo λl=>CA len hi λhh=>(match mx with
   | none=>gd (CD (BD off hh) (AS es)) λ_=>gd (CD l hh) λ_=>br (KC (BD off l) (AS es)) (λ_=>K (.own j (BD off l) (PA hh l))) λ_=>K (.lf false g c [])
   | some m=>bif lo.isSome||hi.isNone || !ex then none else IS m λm=>gd (CD hh m) λ_=>gd (neq (BD off m) (AS es)) λ_=>gd (KC off (AS es)) λ_=>K (.own j off hh))
  | _=>none)
 | _,_=>none
def Fp (P:Program) (b:TypeId) (x:V) (f:Nat) (K:V->Option β):Option β:=match P.underlying b with
 | some (.struct fs)=>match fs[f]? with
  | some a=>match Pi.AV P a.type with
   | some n=>bif Nat.beq n 0 then none else (match x with
    | .ptr j off=>K (.ptr j (off+a.offset))
    | .ept j i off=>K (.ept j i (off+a.offset))
    | .view cs=>K (.view (cs.drop a.offset))
    | .pv cs=>K (.pv (cs.drop a.offset))
    | _=>none)
   | none=>none
  | none=>none
 | _=>none
def MA (P:Program) (ty:TypeId) (x:V) (f:Nat) (K:V->Option β):Option β:=match P.underlying ty,x with
 | some (.struct fs),.agg cs=>match fs[f]? with
  | some a=>CX (D2 P a.type (cs.drop a.offset)) K
  | none=>none
 | _,_=>none
def Fu (P : Program) (h : H) (ty : TypeId) (x i : V) (K : V -> Option β) : Option β := match P.underlying ty with
  | some (.slice e) => CX (Pi.AV P e) fun n => IS i fun k => match x with
      | .lf _ g c es => ix es k fun a => bif Nat.beq (Nd g c a).cells.length n then K (.view (Nd g c a).cells) else none
      | .pl g c es => ix es k fun a => bif Nat.beq (elP g c a).cells.length n then K (.pv (elP g c a).cells) else none
      | .exl _ es => IU k es.length 0 fun k => CX (lget es k) fun a => bif Nat.beq a.cells.length n then K (.view a.cells) else none
      | .ow j => (match h.get j with
        | some (.row _ c es _ false _) => gd (KC k (AS es)) fun _ => bif Nat.beq c.wd n then K (.ept j k 0) else none
        | _ => none)
      | .own j off len => gd (KC k len) fun _ => (match h.get j with
        | some (.row _ c es _ _ _) => gd (KC (BD off k) (AS es)) fun _ => bif Nat.beq c.wd n then K (.ept j (BD off k) 0) else none
        | _ => none)
      | _ => none
  | some (.array len e) => CX (Pi.AV P e) fun n => IS i fun k => match Qt h n len x with
   | some (j, off) => gd (KC k len) fun _ => K (.aptr j off k len)
   | none => IU k len 0 fun k => match x with
      | .ptr j off => K (.ptr j (off + k * n))
      | .ept j i off => K (.ept j i (off + k * n))
      | .view cs => K (.view (cs.drop (k * n)))
      | .pv cs => K (.pv (cs.drop (k * n)))
      | _ => none
  | _ => none
def ME (P:Program) (ty:TypeId) (x i:V) (K:V->Option β):Option β:=match P.underlying ty,x with
 | some (.array len e),.agg cs=>CX (Pi.AV P e) λn=>IS i λk=>IU k len 0 λk=>CX (D2 P e (cs.drop (k*n))) K
 | some .string,.str l=>IS i λk=>ix l k λb=>K (.int .u8 (S4 b))
 | _,_=>none
def J2 (P:Program) (h:H) (ty:TypeId) (m k:V) (a:Bool) (K:V->Option β):Option β:=match m with
 | .nilm=>match P.underlying ty with
  | some (.map kt e)=>match P.underlying kt,C4 P e with
   | some d,some z=>bif Pi.Cj d then K (bif a then .tup [z,.bool false] else z) else none
   | _,_=>none
  | _=>none
 | m=>Ou P ty m k h λ_ _ g c l _ e x=>match P.underlying ty with
  | some (.map _ et)=>CX (C4 P et) λz=>GH .lf g c z λz =>
    K (bif a then .tup [Nd g c (Rt (MI e l x) z),.bool (S3 (MI e l x))] else Nd g c (Rt (MI e l x) z))
  | _=>none
def EL (P:Program) (h:H) (ty:TypeId) (m k v:V) (K:H->Option β):Option β :=
 Ou P ty m k h λj a g c l b e x=>bif b then none else GH .lf g c v λy=>K (AG h j (.mp a g c (IR e l x y) false))
def E2 (a:Bool) (v:V):V:=bif a then .tup [v,.bool true] else v
def Jc (P:Program) (ty:TypeId) (v:V) (b:Bool) (K:V->Option β):Option β:=match P.underlying ty with
 | some (.interface want)=>match v with
  | .ifc u a=>match P.info? u with
   | some i=>match Instr.missingMethod want i.methods with
    | none=>K (E2 b (.ifc u a))
    | some _=>bif b then CX (C4 P ty) λz=>K (.tup [z,.bool false]) else none
   | none=>none
  | .nili=>bif b then CX (C4 P ty) λz=>K (.tup [z,.bool false]) else none
  | _=>none
 | some _=>match v with
  | .ifc u a=>bif Nat.beq u ty then K (E2 b a) else bif b then CX (C4 P ty) λz=>K (.tup [z,.bool false]) else none
  | .nili=>bif b then CX (C4 P ty) λz=>K (.tup [z,.bool false]) else none
  | _=>none
 | none=>none
def NM:Operand->Operand->Bool
 | .tmp a,.tmp b=>Nat.beq a b
 | _,_=>false
def Ka (h:H) (K:RA->Option β) (v:V):Option β:=K (.val v h)
def R7 (P:Program) (t:T V) (h:H) (id:Nat) (o:Oper) (K:RA->Option β):Option β :=
 match o.op with
 | .move x=>BF t x (Ka h K)
 | .assign x=>BF t x (Ka h K)
 | .pick c a b=>BF t c λc=>BF t a λa=>BF t b λb=>match c with
  | .bool c=>br c (λ_=>Ka h K a) (λ_=>Ka h K b)
  | _=>none
 | .alloc e=>CX (Cf P e) λcs=>K (.val (.ptr id 0) (AG h id (.box cs false false)))
 | .box _ x=>BF t x λv=>match v with
  | .tup _=>none
  | v=>K (.val (.ptr id 0) (AG h id (.box v.cells false false)))
 | .build ty d=>Gb t d.toList λu=>Lw P ty u (Ka h K)
 | .buildSlice ty len d=>Gb t d.toList λu=>Eb P h ty len u K
 | .load ty a=>BF t a λa=>Oz P h ty a (Ka h K)
 | .store ty a x=>BF t a λa=>BF t x λx=>MZ P h ty a x λh=>K (.skip h)
 | .nilCheck x=>BF t x λx=>Q9 x (Ka h K)
 | .binOp op ty x y _=>BF t x λa=>BF t y λb=>Qv P op ty x y a b (Ka h K)
 | .unOp op _ x=>BF t x λa=>Sk op a (Ka h K)
 | .convert w p x=>BF t x λa=>H4 P w p a (Ka h K)
 | .makeInterface ty x=>BF t x λa=>Q3 P ty a (Ka h K)
 | .makeFunc f first cap=>Nl t first.toList λa=>Nl t cap.toList λb=>match f with
  | .yield _=>none
  | f=>K (.val (.fn f a b) h)
 | .makeMap ty none=>LB P h id ty K
 | .makeSlice ty l c=>BF t l λx=>BF t c λy=>O4 P h id ty (NM l c) x y K
 | .slice ty x lo hi mx=>P3 t lo λlo=>P3 t hi λhi=>P3 t mx λmx=>BF t x λx=>MX P h ty x lo hi mx (Ka h K)
 | .fieldAddr s x f=>BF t x λx=>Fp P s x f (Ka h K)
 | .field ty x f=>BF t x λx=>MA P ty x f (Ka h K)
 | .indexAddr ty x i=>BF t x λx=>BF t i λi=>Fu P h ty x i (Ka h K)
 | .index ty x i=>BF t x λx=>BF t i λi=>ME P ty x i (Ka h K)
 | .lookup ty x k q=>BF t x λm=>BF t k λk=>J2 P h ty m k q (Ka h K)
 | .mapUpdate ty x k v=>BF t x λx=>BF t k λk=>BF t v λv=>EL P h ty x k v λh=>K (.skip h)
 | .insert ty x k v=>BF t x λx=>BF t k λk=>BF t v λv=>EL P h ty x k v λh=>K (.skip h)
 | .typeAssert x _ ty q=>BF t x λv=>Jc P ty v q (Ka h K)
 | .extract x i=>BF t x λx=>match x with
  | .tup vs=>CX (lget vs i) (Ka h K)
  | _=>none
 | .panic x=>BF t x λx=>match x with
  | .ifc ty v=>K (.pan (.ifc ty v))
  | _=>none
 | .call c=>Nl t c.args.toList λargs=>match c.callee with
  | .builtin b=>H1 P h id b c.argTypes args K
  | .value f=>BF t f λf=>match f with
   | .fn f a b=>FA P f a b args K
   | .yl l=>K (.yield l args)
   | _=>none
  | .invoke n j=>BF t n λr=>FA P (.method j) [r] [] args K
 | .defer c=>Nl t c.args.toList λargs=>match c.callee with
  | .builtin b=>K (.dfr (.bi b c.argTypes o.type args))
  | .value f=>BF t f λf=>match f with
   | .fn (.func g) a b=>K (.dfr (.call (.fn (.func g) a b) args))
   | _=>none
  | .invoke _ _=>none
 | _=>none
end
end
section
variable [Pi.Gl]
open Go.Proofs.YtfilfloanndddaaGreat.Pi (T lget G4)
@[reducible] def AP:List (Bool×Ty)->Type
 | []=>Unit
 | [p]=>p.2.den
 | p::q::r=>p.2.den×AP (q::r)
structure Sg where
 dom:List (Bool×Ty)
 cod:List (Bool×Ty)
 fn:AP dom->Option (AP cod)
abbrev D6:=FuncId->Option (Option Sg)
def ER:(l:List (Bool×Ty))->AP l->List V
 | [],_=>[]
 | [p],x=>[elP p.1 p.2 x]
 | p::q::r,x=>elP p.1 p.2 x.1::ER (q::r) x.2
def Pj:(l:List (Bool×Ty))->AP l->V
 | [],_ => .tup []
 | [(false,.sl g c)],x => .lf false g c x
 | [p],x=>elP p.1 p.2 x
 | p::q::r,x => .tup (ER (p::q::r) x)
inductive Cv where
 | p | m | f | i
def Cv.v:Cv->V
 | .p => .nilp
 | .m => .nilm
 | .f => .nilf
 | .i => .nili
def RU:Cv->V->Bool
 | .p,v=>match v with
  | .nilp=>true
  | _=>false
 | .m,v=>match v with
  | .nilm=>true
  | _=>false
 | .f,v=>match v with
  | .nilf=>true
  | _=>false
 | .i,v=>match v with
  | .nili=>true
  | _=>false
inductive Sgm where
 | lf (c:Ty)
 | ow (g:Bool) (c:Ty) (ex:Bool)
 | kp (id:Nat)
 | cn (c:Cv)
@[reducible] def Sgm.den:Sgm->Type
 | .lf c=>c.den
 | .ow _ c _=>List c.den
 | .kp _=>Unit
 | .cn _=>Unit
@[reducible] def Ia:List Sgm->Type
 | []=>Unit
 | [p]=>p.den
 | p::q::r=>p.den×Ia (q::r)
inductive Pl where
 | slot (k:Nat) (g:Bool) (c:Ty)
 | srow (k:Nat) (g:Bool) (c:Ty) (ex:Bool)
 | swin (k:Nat) (g:Bool) (c:Ty)
 | cn (k:Nat) (c:Cv)
 | box (id:Nat) (sg:List Sgm)
 | map (id:Nat) (k:Ty) (g:Bool) (c:Ty)
@[reducible] def Pl.den:Pl->Type
 | .slot _ _ c=>c.den
 | .srow _ _ c _=>List c.den
 | .swin _ _ c=>List c.den×Nat
 | .cn _ _=>Unit
 | .box _ sg=>Ia sg
 | .map _ k _ c=>List (k.den×c.den)
@[reducible] def BE:List Pl->Type
 | []=>Unit
 | [p]=>p.den
 | p::q::r=>p.den×BE (q::r)
inductive ExK where
 | exit (id:Nat)
 | ret
 | pan (t:TypeId) (g:Bool) (c:Ty)
structure Tm where
 keep:List Nat
 kb:List Nat
 pl:List Pl
 ex:List (ExK×List (Nat×Nat×Option Code))
 pay:Ty
 plx:List Pl:=pl
 rel:List (Nat×Nat):=[]
 relS:List Nat:=[]
structure Jn where
 keep:List Nat
 kb:List Nat
 pl0:List Pl
 pl1:List Pl
 ex:List (ExK×List (Nat×Nat×Option Code))
 pay:Ty
inductive An where
 | loop (tm:Tm)
 | join (j:Jn)
abbrev Ht:=FuncId->Nat->Nat->Option An
section
variable {β:Type}
def Bp (h:H):(l:List (Bool×Ty))->List V->(AP l->Option β)->Option β
 | [],vs,K=>match vs with
  | []=>K ()
  | _=>none
 | [p],vs,K=>match vs with
  | [v]=>GH h p.1 p.2 v K
  | _=>none
 | p::q::r,vs,K=>match vs with
  | v::vs=>GH h p.1 p.2 v λx=>Bp h (q::r) vs λy=>K (x,y)
  | _=>none
def FO:List V->List Nat
 | []=>[]
 | .ow id::l=>id::FO l
 | .own id _ _::l=>id::FO l
 | _::l=>FO l
def DJ (l:List V):List Nat:=l.flatMap λv=>FO v.cells
def Bx:List (Bool×Ty)->Bool
 | []=>false
 | p::l=>p.2.hasSl||Bx l
def Ty.leaf:Ty->Bool
 | .unit | .pair _ _=>false
 | _=>true
def Cl (l:List (Bool×Ty)):Bool:=l.all λp=>Nat.ble p.2.depth 4&&(p.1||p.2.leaf)
def DO (h:H) (sg:Sg) (args:List V) (K:V->H->Option β):Option β :=
 bif !Cl sg.dom || !Cl sg.cod then none else Bp h sg.dom args λx=>CX (bif Bx sg.cod then B5 h (DJ args) else some h) λh=>bd (sg.fn x) λy=>K (Pj sg.cod y) h
def Kl (h:H) (id:Nat):(sg:Sg)->List V->(V->H->Option β)->Option β
 | ⟨dom,[(false,.sl g c)],a⟩,args,K=>bif !Cl dom || !Nat.ble c.depth 3 then none else Bp h dom args λx=>CX (bif c.hasSl then B5 h (DJ args) else some h) λh=>bd (a x) λy=>K (.ow id) (AG h id (.row g c y false false false))
 | _,_,_=>none
def Cp:Nat:=1048576
def Cq:Nat:=2097152
def Qp (f:Nat):Nat:=bif Nat.blt f Cp then f else f-Cp
def getD (a:D6) (f:FuncId):Option Sg:=bif Nat.blt f Cp then (match a f with
 | some r=>r
 | none=>match a (f+Cp) with
  | some r=>r
  | none=>none) else none
def getR (a:D6) (f:FuncId):Option Sg:=bif Nat.blt f Cp then (match a (f+Cq) with
 | some r=>r
 | none=>none) else none
def IT:Nat:=3145728
def RV:Bool×Ty->Bool
 | (true,.pair _ .unit)=>true
 | _=>false
def getP (a:D6) (f:FuncId):Option Sg:=bif Nat.blt f Cp then (match a (f+IT) with
 | some r=>r
 | none=>none) else none
def ML:Nat:=4194304
def getL (a:D6) (f:FuncId):Option Sg:=bif Nat.blt f Cp then (match a (f+ML) with
 | some r=>r
 | none=>none) else none
def Eg (h:H):List (Bool×Ty)->List V->Option (List V×List Nat)
 | p::l,v::vs=>match Eg h l vs with
  | some a=>bif RV p then (match v with
    | .ptr j off=>(match h.get j with
     | some (.box cs _ _)=>bif Nat.blt off cs.length then some (.agg (cs.drop off)::a.1,j::a.2) else none
     | _=>none)
    | _=>none) else some (v::a.1,a.2)
  | none=>none
 | _,vs=>some (vs,[])
def Ra:V->V
 | .agg cs => .pv cs
 | v=>v
def Pk:List (Bool×Ty)->List V->List V
 | p::l,v::vs=>(bif RV p then Ra v else v)::Pk l vs
 | _,vs=>vs
inductive TgA where
 | fn (f:FuncId)
 | yl (id:Nat)
abbrev Hu:=(β:Type)->TgA->Option UMA->List V->H->Nat->(OutA->Option UMA->H->Nat->Option β)->Option β
abbrev KA (β:Type):=ExA->FrA->H->Nat->Option β
def HE (fr:FrA) (a:Option Nat) (v:V) (K:FrA->Option β):Option β:=match a with
 | none=>K fr
 | some d=>bif Nat.blt d fr.nt then K { fr with t:=T.put 20 fr.t d v } else none
def Ju (ops:List Oper) (t:T V) (g:Option (Nat×Bool)) (a c:T V->Option β):Option β:=match g with
 | none=>a t
 | some (j,want)=>match lget ops j with
  | some o=>match o.dst with
   | some d=>match t.get d with
    | some (.bool b)=>br b (λ_=>bif want then a (T.put 20 t d (.bool true)) else c (T.put 20 t d (.bool true))) (λ_=>bif want then c (T.put 20 t d (.bool false)) else a (T.put 20 t d (.bool false)))
    | some (.tup [])=>c t
    | _=>none
   | none=>none
  | none=>none
def Bd (P:Program) (a:D6) (rec:Hu) (base:Nat) (ops:List Oper):List (Nat×Oper)->FrA->H->Nat->KA β->Option β
 | [],fr,h,nx,K=>K .normal fr h nx
 | (i,o)::r,fr,h,nx,K=>Ju ops fr.t o.guard
  (λt=>R7 P t h (base+i) o fun
   | .val v h=>HE { fr with t } o.dst v λfr=>Bd P a rec base ops r fr h nx K
   | .skip h=>HE { fr with t } o.dst (.tup []) λfr=>Bd P a rec base ops r fr h nx K
   | .dfr d=>match fr.ro with
    | none=>HE { fr with t,ds:=d::fr.ds } o.dst (.tup []) λfr=>Bd P a rec base ops r fr h nx K
    | some _=>none
   | .call f args=>match a f with
    | some none=>none
    | some (some sg)=>bif !Nat.blt f Cp then none else (match getR a f with
     | some sg=>Kl h (base+i) sg args λv h=>HE { fr with t } o.dst v λfr=>Bd P a rec base ops r fr h nx K
     | none=>DO h sg args λv h=>HE { fr with t } o.dst v λfr=>Bd P a rec base ops r fr h nx K)
    | none=>rec β (.fn f) none args h nx λo' _ h nx=>match o' with
     | .ret v=>HE { fr with t } o.dst v λfr=>Bd P a rec base ops r fr h nx K
     | .pan [{ v,recovered:=false }]=>K (.panic v) { fr with t } h nx
     | _=>none
   | .yield l args=>rec β (.yl l) none args h nx λo' _ h nx=>match o' with
     | .ret v=>HE { fr with t } o.dst v λfr=>Bd P a rec base ops r fr h nx K
     | _=>none
   | .pan v=>K (.panic v) { fr with t } h nx
   | .rcv=>match fr.ro with
    | some _=>none
    | none=>match fr.up with
     | some (.pan ({ v,recovered:=false }::older))=>HE { fr with t,up:=some (.pan ({ v,recovered:=true }::older)) } o.dst v λfr=>Bd P a rec base ops r fr h nx K
     | _=>HE { fr with t } o.dst .nili λfr=>Bd P a rec base ops r fr h nx K)
  (λt=>HE { fr with t } o.dst (.tup []) λfr=>Bd P a rec base ops r fr h nx K)
def AR:Op->Nat
 | .move _ | .assign _ | .pick _ _ _ | .build _ _ | .nilCheck _ | .binOp _ _ _ _ _ | .unOp _ _ _ | .convert _ _ _ | .makeInterface _ _ | .makeFunc _ _ _ | .fieldAddr _ _ _ | .field _ _ _ | .index _ _ _ | .typeAssert _ _ _ _ | .extract _ _=>0
 | .load _ _ | .indexAddr _ _ _=>1
 | .slice _ _ _ _ none=>1
 | .slice _ _ _ _ (some _)=>4
 | .call c=>match c.callee with
  | .builtin b=>match b with
   | .len | .cap | .max | .min=>1
   | .append | .copy=>4
   | _=>9
  | _=>9
 | .buildSlice _ _ _=>4
 | .alloc _ | .box _ _ | .makeMap _ none | .makeSlice _ _ _=>2
 | .store _ _ _=>3
 | _=>9
def GV (h:H) (id:Nat):Bool:=match h.get id with
 | some .dead=>false
 | some _=>true
 | none=>false
def Qh (h:H):V->Bool
 | .ow id | .own id _ _ | .ptr id _ | .ept id _ _ | .aptr id _ _ _ | .mp id=>GV h id
 | _=>true
def GW (h:H) (t:T V):List Operand->Bool
 | []=>true
 | .tmp k::l=>(match t.get k with
  | some v=>Qh h v
  | none=>false)&&GW h t l
 | _::l=>GW h t l
def Np (t:T V):List Operand->Option (List Nat×Bool)
 | []=>some ([],false)
 | .tmp k::l=>match t.get k with
  | some (.ow id) | some (.own id _ _) | some (.ptr id _) | some (.ept id _ _) | some (.aptr id _ _ _) | some (.mp id)=>(Np t l).map λa=>(id::a.1,a.2)
  | some (.lf _ _ _ _) | some (.view _)=>(Np t l).map λa=>(a.1,true)
  | some _=>Np t l
  | none=>none
 | _::l=>Np t l
def Rj (f:V->Option (List Nat×Bool)):List V->Option (List Nat×Bool)
 | []=>some ([],false)
 | v::vs=>match f v,Rj f vs with
  | some a,some b=>some (a.1++b.1,a.2||b.2)
  | _,_=>none
def PS (h:H) (id:Nat):Bool:=match h.get id with
 | some (.row _ c _ _ _ _)=>c.hasSl
 | _=>true
def R8 (h:H):Nat->V->Option (List Nat×Bool)
 | 0,_=>none
 | n+1,v=>match v with
  | .bool _ | .int _ _ | .str _ | .nils | .pl _ _ _ | .exl _ _=>some ([],false)
  | .lf _ _ _ _=>some ([],true)
  | .ow id | .own id _ _=>bif GV h id then some ([id],PS h id) else none
  | .agg cs=>Rj (R8 h n) cs
  | _=>none
def P5 (h:H) (t:T V):List Operand->Option (List Nat×Bool)
 | []=>some ([],false)
 | .tmp k::l=>match t.get k with
  | some v=>(match R8 h 6 v,P5 h t l with
   | some a,some b=>some (a.1++b.1,a.2||b.2)
   | _,_=>none)
  | none=>none
 | _::l=>P5 h t l
def P6 (t:T V):List Operand->Option (List Nat×Bool)
 | []=>some ([],false)
 | .tmp k::l=>match t.get k with
  | some (.mp id)=>(P6 t l).map λa=>(id::a.1,a.2)
  | some _=>P6 t l
  | none=>none
 | _::l=>P6 t l
def BJ (h:H) (l:List V):Option (List Nat×Bool):=Rj (R8 h 6) l
def Ri (js:List Nat) (o:Option (List Nat×Bool)):Option (List Nat×Bool):=o.map λa=>(js++a.1,a.2)
def RC (t:T V):Op->Bool
 | .slice _ (.tmp k) _ _ (some _)=>match t.get k with
  | some (.pl _ _ _) | some .nils=>true
  | _=>false
 | .slice _ _ _ _ (some _)=>false
 | _=>true
def fp (h:H) (t:T V) (o:Op):Option (List Nat×Bool):=match o with
 | .load _ _ | .indexAddr _ _ _ | .slice _ _ _ _ none | .store _ _ _=>Np t (Pi.Aw o)
 | .slice _ x _ _ (some _)=>P5 h t [x]
 | .buildSlice _ _ parts=>P5 h t (parts.toList.map (·.2))
 | .call c=>match c.callee with
  | .builtin b=>(match b with
   | .len=>P6 t c.args.toList
   | .cap | .max | .min | .append | .copy=>Np t c.args.toList
   | _=>none)
  | _=>none
 | .alloc _ | .box _ _ | .makeMap _ none | .makeSlice _ _ _=>some ([],false)
 | _=>none
def JE (v:V):Option (List Nat×Bool)->Option (List Nat×Bool)
 | some a=>match v with
  | .ow id | .own id _ _ | .ptr id _ | .ept id _ _ | .aptr id _ _ _ | .mp id=>some (id::a.1,a.2)
  | .lf _ _ _ _ | .view _=>some (a.1,true)
  | _=>some a
 | none=>none
def LM:List (Bool×Ty)->Bool
 | [(false,.sl _ _)]=>true
 | _=>false
def K7 (h:H):List Nat->Bool
 | []=>true
 | j::l=>GV h j&&K7 h l
def LN (h:H):List Nat->Bool
 | []=>true
 | j::l=>(h.get j).isSome&&LN h l
def Rk (h:H):Option (List Nat×Bool)->Option (List Nat×Bool)->Bool
 | some a,some b => !Pi.CW a.1 b.1&&(!(a.2&&b.2)&&(K7 h a.1&&LN h b.1))
 | _,_=>false
def DL (h:H) (a c:Nat) (f:Option (List Nat×Bool)):List (Nat×Nat×Option (List Nat×Bool))->Bool
 | []=>true
 | (j,d,g)::l=>(Pi.Ff a j||(Nat.beq c 0||(Nat.beq c 2||(Nat.beq d 0||(Nat.beq c 1&&Nat.beq d 1||Rk h f g)))))&&DL h a c f l
def CH:Op->Bool
 | .call c=>match c.callee with
  | .builtin _=>false
  | _=>true
 | _=>false
def Hg (t:T V) (nt:Nat) (a:Option Nat) (v:V) (K:T V->Option β):Option β:=match a with
 | some d=>bif Nat.blt d nt then K (T.put 20 t d v) else none
 | none=>K t
def BL (P:Program) (b:D6) (base nt:Nat) (ops:List Oper):Nat->List Oper->List Pi.Mk->List (Nat×Nat×Option (List Nat×Bool))->T V->H->(T V->H->Option β)->Option β
 | i,o::l,m::ms,past,t,h,K=>Ju ops t o.guard
  (λt=>bif !Pi.Aq o.op then none else
   R7 P t h (base+i) o fun
    | .val v c=>bif (Nat.ble (AR o.op) 2||Nat.beq (AR o.op) 4)&&(RC t o.op&&(GW h t (Pi.Aw o.op)&&DL h m.bef (AR o.op) (fp h t o.op) past)) then Hg t nt o.dst v λd=>BL P b base nt ops (i+1) l ms ((i,AR o.op,bif Nat.ble (AR o.op) 1 then fp h t o.op else JE v (fp h t o.op))::past) d c K else none
    | .skip c=>bif Nat.beq (AR o.op) 3&&(GW h t (Pi.Aw o.op)&&DL h m.bef 3 (fp h t o.op) past) then Hg t nt o.dst (.tup []) λd=>BL P b base nt ops (i+1) l ms ((i,3,fp h t o.op)::past) d c K else none
    | .call f args=>match getR b f with
     | some sg=>bif !CH o.op || !DL h m.bef 4 (BJ h args) past then none else Kl h (base+i) sg args λv c=>Hg t nt o.dst v λt=>BL P b base nt ops (i+1) l ms ((i,4,JE v (BJ h args))::past) t c K
     | none=>match getL b f with
     | some sg=>bif !CH o.op then none else bif !DL h m.bef 4 (BJ h args) past then none else DO h sg args λv c=>Hg t nt o.dst v λt=>BL P b base nt ops (i+1) l ms ((i,4,BJ h args)::past) t c K
     | none=>match getD b f with
      | some sg=>bif !CH o.op then none else bif Bx sg.cod then
        (bif !DL h m.bef 4 (BJ h args) past then none else DO h sg args λv c=>Hg t nt o.dst v λt=>BL P b base nt ops (i+1) l ms ((i,4,bif LM sg.cod then JE v (BJ h args) else BJ h args)::past) t c K)
       else bif !DL h m.bef 1 (BJ h args) past then none else DO h sg args λv c=>Hg t nt o.dst v λt=>BL P b base nt ops (i+1) l ms ((i,1,BJ h args)::past) t c K
      | none=>match getP b f with
       | some sg=>bif !CH o.op||Bx sg.cod then none else CX (Eg h sg.dom args) λa=>bif !DL h m.bef 1 (Ri a.2 (BJ h a.1)) past then none else DO h sg a.1 λv c=>Hg t nt o.dst v λt=>BL P b base nt ops (i+1) l ms ((i,1,Ri a.2 (BJ h a.1))::past) t c K
       | none=>none
    | _=>none)
  (λt=>Hg t nt o.dst (.tup []) λt=>BL P b base nt ops (i+1) l ms past t h K)
 | _,[],_,_,t,h,K=>K t h
 | _,_,_,_,_,_,_=>none
def Lz (P:Program) (a:D6) (base:Nat) (ops:List Oper) (fr:FrA) (h:H) (K:FrA->H->Option β):Option β :=
 CX (Pi.FD ops 0 ops []) λb=>BL P a base fr.nt ops 0 ops b [] fr.t h λt h=>K { fr with t } h
end
def BA.locked:BA->Bool
 | .box _ _ lk=>lk
 | .row _ _ _ _ _ lk=>lk
 | .mp _ _ _ _ lk=>lk
 | _=>false
def BO (t:T V):List Nat->T V
 | [] => .lf
 | k::l=>match t.get k with
  | some v=>T.put 20 (BO t l) k v
  | none=>BO t l
def DK:BA->BA
 | .box cs fz _ => .box cs fz true
 | .row g c l ex fz _ => .row g c l ex fz true
 | .mp k g c l _ => .mp k g c l true
 | b=>b
def BN (h:H) (f:BA->BA):List Nat->H
 | [] => .lf
 | k::l=>match h.get k with
  | some .dead=>BN h f l
  | some b=>T.put 20 (BN h f l) k (f b)
  | none=>BN h f l
section
variable {β:Type}
def LW (h:H) (g:Bool) (c:Ty) (ex:Bool) (v:V) (K:List c.den->Option β):Option β:=match v with
 | .nils=>bif ex then none else K []
 | .ow id=>match h.get id with
  | some (.row g' _ l ex' false false)=>bif g == g'&&ex == ex' then DQ l K else none
  | _=>none
 | _=>none
def DA (h:H):(l:List Sgm)->List V->(Ia l->Option β)->Option β
 | [],cs,K=>match cs with
  | []=>K ()
  | _=>none
 | [.lf c],cs,K=>Dp .lf c cs λx r=>match r with
  | []=>K x
  | _=>none
 | [.ow g c ex],cs,K=>match cs with
  | [v]=>LW h g c ex v K
  | _=>none
 | .lf c::q::r,cs,K=>Dp .lf c cs λx cs=>DA h (q::r) cs λy=>K (x,y)
 | .ow g c ex::q::r,cs,K=>match cs with
  | v::cs=>LW h g c ex v λx=>DA h (q::r) cs λy=>K (x,y)
  | _=>none
 | [.kp id],cs,K=>match cs with
  | [.ow j]=>bif Nat.beq j id then K () else none
  | _=>none
 | .kp id::q::r,cs,K=>match cs with
  | .ow j::cs=>bif Nat.beq j id then DA h (q::r) cs λy=>K ((),y) else none
  | _=>none
 | [.cn c],cs,K=>match cs with
  | [v]=>bif RU c v then K () else none
  | _=>none
 | .cn c::q::r,cs,K=>match cs with
  | v::cs=>bif RU c v then DA h (q::r) cs λy=>K ((),y) else none
  | _=>none
def Pn (h:H) (g:Bool) (c:Ty) (v:V) (K:List c.den×Nat->Option β):Option β:=match v with
 | .own j off len=>match h.get j with
  | some (.row g' _ l true false false)=>bif g == g'&&Nat.beq off 0 then DQ l λl=>K (l,len) else none
  | _=>none
 | _=>none
def GJ (t:T V) (h:H):(p:Pl)->(p.den->Option β)->Option β
 | .slot k g c,K=>CX (t.get k) λv=>GH .lf g c v K
 | .srow k g c ex,K=>CX (t.get k) λv=>LW h g c ex v K
 | .swin k g c,K=>CX (t.get k) λv=>Pn h g c v K
 | .cn k c,K=>CX (t.get k) λv=>bif RU c v then K () else none
 | .box id sg,K=>match h.get id with
  | some (.box cs false false)=>DA h sg cs K
  | _=>none
 | .map id k g c,K=>match h.get id with
  | some (.mp _ g' _ l false)=>bif g == g' then Qd l K else none
  | _=>none
def CZ (t:T V) (h:H):(l:List Pl)->(BE l->Option β)->Option β
 | [],K=>K ()
 | [p],K=>GJ t h p K
 | p::q::r,K=>GJ t h p λx=>CZ t h (q::r) λy=>K (x,y)
end
def Co (h:H) (nx:Nat):(l:List Sgm)->Ia l->List V×H×Nat
 | [],_=>([],h,nx)
 | [.lf c],x=>(cells c x,h,nx)
 | [.ow g c ex],l=>([.ow nx],AG h nx (.row g c l ex false false),nx+1)
 | .lf c::q::r,x=>match Co h nx (q::r) x.2 with
  | (cs,h,nx)=>(cells c x.1++cs,h,nx)
 | .ow g c ex::q::r,x=>match Co (AG h nx (.row g c x.1 ex false false)) (nx+1) (q::r) x.2 with
  | (cs,h,n')=>(.ow nx::cs,h,n')
 | [.kp id],_=>([.ow id],h,nx)
 | .kp id::q::r,x=>match Co h nx (q::r) x.2 with
  | (cs,h,n')=>(.ow id::cs,h,n')
 | [.cn c],_=>([c.v],h,nx)
 | .cn c::q::r,x=>match Co h nx (q::r) x.2 with
  | (cs,h,n')=>(c.v::cs,h,n')
def Bz (t:T V) (h:H) (nx:Nat):(p:Pl)->p.den->T V×H×Nat
 | .slot k g c,x=>(T.put 20 t k (Nd g c x),h,nx)
 | .srow k g c ex,l=>(T.put 20 t k (.ow nx),AG h nx (.row g c l ex false false),nx+1)
 | .swin k g c,x=>(T.put 20 t k (.own nx 0 x.2),AG h nx (.row g c x.1 true false false),nx+1)
 | .cn k c,_=>(T.put 20 t k c.v,h,nx)
 | .box id sg,x=>match Co h nx sg x with
  | (cs,h,nx)=>(t,AG h id (.box cs false false),nx)
 | .map id k g c,l=>(t,AG h id (.mp k g c l false),nx)
def Ak (t:T V) (h:H) (nx:Nat):(l:List Pl)->BE l->T V×H×Nat
 | [],_=>(t,h,nx)
 | [p],x=>Bz t h nx p x
 | p::q::r,x=>match Bz t h nx p x.1 with
  | (t,h,nx)=>Ak t h nx (q::r) x.2
def AW:List Pl->List Nat
 | []=>[]
 | .box id _::l | .map id _ _ _::l=>id::AW l
 | _::l=>AW l
def Pm:V->List Nat
 | .own id _ _=>[id]
 | _=>[]
def By:V->List Nat
 | .ow id=>[id]
 | _=>[]
def Az:List Sgm->List V->List Nat
 | [],_=>[]
 | .lf c::r,cs=>Az r (cs.drop c.wd)
 | .ow _ _ _::r,cs=>(match cs with
  | v::_=>By v
  | []=>[])++Az r (cs.drop 1)
 | .kp _::r,cs=>Az r (cs.drop 1)
 | .cn _::r,cs=>Az r (cs.drop 1)
def Ay (t:T V) (h:H):List Pl->List Nat
 | []=>[]
 | .slot _ _ _::l=>Ay t h l
 | .cn _ _::l=>Ay t h l
 | .map id _ _ _::l=>id::Ay t h l
 | .srow k _ _ _::l=>(match t.get k with
  | some v=>By v
  | none=>[])++Ay t h l
 | .swin k _ _::l=>(match t.get k with
  | some v=>Pm v
  | none=>[])++Ay t h l
 | .box id sg::l=>(match h.get id with
  | some (.box cs _ _)=>Az sg cs
  | _=>[])++id::Ay t h l
def BX:List Nat->Bool
 | []=>true
 | a::l => !l.any (Nat.beq a)&&BX l
def HW (nx:Nat):List Sgm->Bool
 | []=>true
 | .kp id::l=>Nat.blt id nx&&HW nx l
 | .lf _::l | .ow _ _ _::l=>HW nx l
 | .cn _::l=>HW nx l
def Al (nt nx:Nat):List Pl->Bool
 | []=>true
 | .slot k _ _::l | .srow k _ _ _::l | .swin k _ _::l=>Nat.blt k nt&&Al nt nx l
 | .box _ sg::l=>HW nx sg&&Al nt nx l
 | .map _ _ _ _::l=>Al nt nx l
 | .cn k _::l=>Nat.blt k nt&&Al nt nx l
def Cy (h:H) (n:Nat) (l:List Nat):List Nat:=l++(List.range n).filter λi=>(match h.get i with
 | some c=>c.locked
 | none=>false) && !l.any (Nat.beq i)
def CM:Code->Option Nat
 | .region id _ _=>some id
 | .seq a b=>match CM a with
  | some i=>some i
  | none=>CM b
 | .cond _ a b=>match CM a with
  | some i=>some i
  | none=>CM b
 | .block _ b | .loop b | .scope b=>CM b
 | .rangeFunc _ _ a b=>match CM a with
  | some i=>some i
  | none=>CM b
 | _=>none
def Db:Code->Option Nat
 | .region id _ _=>some id
 | .seq a b=>match Db b with
  | some i=>some i
  | none=>Db a
 | .cond _ a b=>match Db b with
  | some i=>some i
  | none=>Db a
 | .block _ b | .loop b | .scope b=>Db b
 | .rangeFunc _ _ a b=>match Db b with
  | some i=>some i
  | none=>Db a
 | _=>none
def RG (x:Code):Nat:=match CM x,Db x with
 | some i,some k=>1000000+(i*1000+k)
 | _,_=>0
def Bu:Code->List Nat
 | .region _ ops _=>ops.toList.filterMap (·.dst)
 | .seq a b | .cond _ a b=>Bu a++Bu b
 | .block _ b | .loop b | .scope b=>Bu b
 | _=>[]
def HP (h:H):List Nat->Bool
 | []=>true
 | id::l=>(match h.get id with
  | some (.df (some []))=>true
  | some (.df _)=>false
  | _=>true)&&HP h l
def GK (h:H):List Nat->List Nat
 | []=>[]
 | id::l=>match h.get id with
  | some (.df _)=>id::GK h l
  | _=>GK h l
def Fj (h:H):List Nat->Bool
 | []=>true
 | id::l=>(match h.get id with
  | some (.df (some []))=>true
  | _=>false)&&Fj h l
def FW (h:H):List (Nat×Nat×Option Code)->Bool
 | []=>true
 | (id,st,pd)::l=>(match h.get id with
  | some (.lp st' pd' _ _ _ _ _ _)=>Nat.beq st st'&&(match pd,pd' with
   | none,none=>true
   | some .ret,some .ret=>true
   | some (.exit i),some (.exit j)=>Nat.beq i j
   | some (.goto i),some (.goto j)=>Nat.beq i j
   | _,_=>false)
  | _=>false)&&FW h l
def CQ (h:H):List (Nat×Nat×Option Code)->H
 | []=>h
 | (id,st,pd)::l=>match h.get id with
  | some (.lp _ _ nt t ps asg body d)=>AG (CQ h l) id (.lp st pd nt t ps asg body d)
  | _=>CQ h l
def BY (h:H):List Nat->List (Nat×Nat×Option Code)
 | []=>[]
 | id::l=>match h.get id with
  | some (.lp st pd _ _ _ _ _ _)=>(id,st,pd)::BY h l
  | _=>BY h l
section
variable {β:Type}
def QV (h:H) (n:Nat) (v:V) (K:V->H->Option β):Option β:=match v with
 | .ow j=>match h.get j with
  | some (.row g c l _ _ false)=>K (.lf false g c l) (BN h (λb=>b) ((List.range n).filter λi => !Nat.beq i j))
  | _=>none
 | .own j off len=>match h.get j with
  | some (.row g c l _ _ false)=>gd (CD (BD off len) (AS l)) λ_=>K (.lf false g c (Dy l off (BD off len))) (BN h (λb=>b) ((List.range n).filter λi => !Nat.beq i j))
  | _=>none
 | _=>none
def QT (n:Nat):List (Nat×Nat)->H->(H->Option β)->Option β
 | [],h,K=>K h
 | (b,i)::r,h,K=>match h.get b with
  | some (.box cs fz false)=>CX (lget cs i) λv=>QV h n v λa h'=>QT n r (AG h' b (.box (Pi.lset cs i a) fz false)) K
  | _=>none
def QU (n:Nat):List Nat->FrA->H->(FrA->H->Option β)->Option β
 | [],fr,h,K=>K fr h
 | k::r,fr,h,K=>bif Nat.blt k 1048575 then CX (fr.t.get k) λv=>QV h n v λa h'=>QU n r { fr with t:=T.put 20 fr.t k a } h' K else none
def Rh (h:H) (ex:ExA) (pay:Ty):ExK->(pay.den->Option β)->Option β
 | .exit i,K=>match ex with
  | .exit j=>bif Nat.beq i j then K (NR pay) else none
  | _=>none
 | .ret,K=>match ex with
  | .ret=>K (NR pay)
  | _=>none
 | .pan t g c,K=>match ex with
  | .panic (.ifc t' v)=>bif Nat.beq t t' then (if e:c=pay then GH .lf g c v λx=>K (e ▸ x) else none) else none
  | _=>none
def Ro (ex:ExA):ExK->Bool
 | .exit i=>match ex with
  | .exit j=>Nat.beq i j
  | _=>false
 | .ret=>match ex with
  | .ret=>true
  | _=>false
 | .pan t _ _=>match ex with
  | .panic (.ifc t' _)=>Nat.beq t t'
  | _=>false
def Gz (h:H) (a:List Nat) (ex:ExA) (pay:Ty):Nat->List (ExK×List (Nat×Nat×Option Code))->(Nat->pay.den->Option β)->Option β
 | _,[],_=>none
 | i,(k,lp)::l,K=>bif Ro ex k&&(FW h lp&&(lp.map (·.1)) == a) then Rh h ex pay k (K i) else Gz h a ex pay (i+1) l K
def Jm (pay:Ty) (x:pay.den):ExK->ExA
 | .exit i => .exit i
 | .ret => .ret
 | .pan t g c=>if e:c=pay then .panic (.ifc t (Nd g c (e ▸ x))) else .normal
def LY (pay:Ty) (x:pay.den) (n:Nat):Nat->List (ExK×List (Nat×Nat×Option Code))->(ExA->List (Nat×Nat×Option Code)->Option β)->Option β
 | _,[],_=>none
 | _,[(k,lp)],K=>K (Jm pay x k) lp
 | i,(k,lp)::e::l,K=>br (neq n i) (λ_=>K (Jm pay x k) lp) λ_=>LY pay x n (i+1) (e::l) K
end
def Gk:Nat->List V->T V->T V
 | _,[],t=>t
 | i,a::l,t=>Gk (i+1) l (T.put 20 t i a)
def EN (nt:Nat):List Nat->List V->T V->Option (T V)
 | [],[],t=>some t
 | p::ps,a::l,t=>bif Nat.blt p nt then EN nt ps l (T.put 20 t p a) else none
 | _,_,_=>none
section
variable {β:Type}
def GQ (P:Program) (a:D6) (ann:Ht) (f:FuncId) (rec:Hu):Nat->(β:Type)->Nat->Code->FrA->H->Nat->KA β->Option β
 | 0,_,_,_,_,_,_,_=>none
 | n+1,β,b,c,fr,h,nx,K=>match c with
  | .skip | .label _=>K .normal fr h nx
  | .seq x y=>match ann f (RG x) nx with
   | some (.join j) =>
    let w:=AW j.pl0++AW j.pl1
    let kb:=Cy h nx j.kb
    bif fr.up.isSome || !Al fr.nt nx j.pl0 || !Al fr.nt nx j.pl1 || !j.keep.all (λk=>Nat.blt k 1048575)||(Bu x).any (λk=>j.keep.any (Nat.beq k)) || !BX (Ay fr.t h j.pl0++kb) || !(kb++w).all (λi=>Nat.blt i nx) || !HP h kb||kb.any (λi=>w.any (Nat.beq i)) then none else
    let q:=BY h kb
    let B:=GK h kb
    CZ fr.t h j.pl0 λs0 =>
    jn (α:=BE j.pl0) (β:=β) (γ:=Nat×BE j.pl1×j.pay.den) (δ:=BE j.pl1) (λs =>
      match Ak (BO fr.t j.keep) (BN h DK kb) nx j.pl0 s with
      | (t1,h1,nx1)=>bif !Nat.ble nx1 1048575 then none else GQ P a ann f rec n (LR (BE j.pl1) (Nat×BE j.pl1×j.pay.den)) nx1 x { fr with t:=t1 } h1 nx1 λe m h' _ =>
       bif !Nat.beq m.ds.length fr.ds.length || !Fj h' B then none else match e with
       | .normal=>bif BX (Ay m.t h' j.pl1++kb)&&FW h' q then CZ m.t h' j.pl1 λs'=>some (.nx s') else none
       | e=>bif BX (Ay m.t h' j.pl1++kb) then Gz h' (q.map (·.1)) e j.pay 0 j.ex λi p=>CZ m.t h' j.pl1 λs'=>some (.dn (i,s',p)) else none) s0
     (λs=>match Ak (BO fr.t j.keep) (CQ (BN h (λb=>b) kb) q) nx j.pl1 s with
      | (t1,h1,nx1)=>bif !Nat.ble nx1 1048575 then none else GQ P a ann f rec n β b y { fr with t:=t1 } h1 nx1 K)
     (λx=>LY j.pay x.2.2 x.1 0 j.ex λe C=>match Ak (BO fr.t j.keep) (CQ (BN h (λb=>b) kb) C) nx j.pl1 x.2.1 with
      | (t1,h1,nx1)=>bif !Nat.ble nx1 1048575 then none else K e { fr with t:=t1 } h1 nx1)
   | _=>GQ P a ann f rec n β b x fr h nx λe fr h nx=>match e with
    | .normal=>GQ P a ann f rec n β b y fr h nx K
    | e=>K e fr h nx
  | .cond c x y=>BF fr.t c λv=>match v with
   | .bool c=>br c (λ_=>GQ P a ann f rec n β b x fr h nx K) (λ_=>GQ P a ann f rec n β b y fr h nx K)
   | _=>none
  | .block id x=>GQ P a ann f rec n β b x fr h nx λe fr h nx=>match e with
   | .exit j=>bif Nat.beq j id then K .normal fr h nx else K (.exit j) fr h nx
   | e=>K e fr h nx
  | .loop x=>match (match CM x with
    | some i=>ann f i nx
    | none=>none) with
   | some (.loop tm) =>
    QT nx tm.rel h λh=>QU nx tm.relS fr h λfr h =>
    let w:=AW tm.pl++AW tm.plx
    let kb:=Cy h nx tm.kb
    bif fr.up.isSome || !Al fr.nt nx tm.pl || !Al fr.nt nx tm.plx || !tm.keep.all (λk=>Nat.blt k 1048575)||(Bu x).any (λk=>tm.keep.any (Nat.beq k)) || !BX (Ay fr.t h tm.pl++kb) || !(kb++w).all (λi=>Nat.blt i nx) || !HP h kb||kb.any (λi=>(AW tm.plx).any (Nat.beq i)) then none else
    let q:=BY h kb
    let B:=GK h kb
    CZ fr.t h tm.pl λs0 =>
    bd (loop (α:=BE tm.pl) (β:=Nat×BE tm.plx×tm.pay.den) (λs =>
      match Ak (BO fr.t tm.keep) (BN h DK kb) nx tm.pl s with
      | (t1,h1,nx1)=>bif !Nat.ble nx1 1048575 then none else GQ P a ann f rec n (LR (BE tm.pl) (Nat×BE tm.plx×tm.pay.den)) nx1 x { fr with t:=t1 } h1 nx1 λe m h' _ =>
       bif !Nat.beq m.ds.length fr.ds.length || !Fj h' B then none else match e with
       | .normal=>bif BX (Ay m.t h' tm.pl++kb)&&FW h' q then CZ m.t h' tm.pl λs'=>some (.nx s') else none
       | e=>bif BX (Ay m.t h' tm.plx++kb) then Gz h' (q.map (·.1)) e tm.pay 0 tm.ex λi p=>CZ m.t h' tm.plx λs'=>some (.dn (i,s',p)) else none) s0) λx =>
    LY tm.pay x.2.2 x.1 0 tm.ex λe C=>match Ak (BO fr.t tm.keep) (CQ (BN h (λb=>b) kb) C) nx tm.plx x.2.1 with
    | (t1,h1,nx1)=>bif !Nat.ble nx1 1048575 then none else K e { fr with t:=t1 } h1 nx1
   | _=>GQ P a ann f rec n β b x fr h nx λe fr h nx=>match e with
    | .normal=>GQ P a ann f rec n β b (.loop x) fr h nx K
    | e=>K e fr h nx
  | .scope x=>GQ P a ann f rec n β b x fr h nx λe fr h nx=>match e with
   | .goto _=>none
   | e=>K e fr h nx
  | .exit id=>K (.exit id) fr h nx
  | .goto l=>K (.goto l) fr h nx
  | .ret=>K .ret fr h nx
  | .refuse _=>none
  | .region _ ops draw=>bif !Nat.ble (nx+ops.size) 1048575 || !(ops.toList.all λo=>match o.dst with
    | some d=>Nat.blt d fr.nt
    | none=>true) then none else
    bif draw then (bif P.follows .mixedOrders || !Region.departs ops then Lz P a nx ops.toList fr h λfr h=>K .normal fr h (nx+ops.size) else none)
    else Bd P a rec nx ops.toList (G4 0 ops.toList) fr h (nx+ops.size) K
  | .rangeFunc g D A u=>bif !Nat.ble (nx+2) 1048575 then none else BF fr.t g λv=>match v with
   | .fn g E F =>
    match (match fr.ro with
     | none=>some (nx,[DFA.col nx],AG h nx (.df (some [])))
     | some G=>(match h.get G with
      | some (.lp _ _ _ _ _ _ _ d0)=>some (d0,[],h)
      | _=>none)) with
    | some (d,mark,h)=>FA P g E F [.yl (nx+1)] λr=>match r with
     | .call g args=>rec β (.fn g) none args (AG h (nx+1) (.lp 0 none fr.nt fr.t D.toList A u d)) (nx+2) λo _ h z=>match o with
      | .ret _=>(match h.get (nx+1) with
       | some (.lp st pend nt t D A u d)=>bif Nat.beq st 1 then none else
        let h:=AG h (nx+1) (.lp 3 pend nt t D A u d)
        (match pend with
        | none=>K .normal { fr with ds:=mark++fr.ds } h z
        | some .ret=>K .ret { fr with ds:=mark++fr.ds } h z
        | some (.exit id)=>K (.exit id) { fr with ds:=mark++fr.ds } h z
        | some (.goto id)=>K (.goto id) { fr with ds:=mark++fr.ds } h z
        | _=>none)
       | _=>none)
      | _=>none
     | _=>none
    | none=>none
   | _=>none
def JQ (P:Program) (h:H) (t:T V):List ResultVar->(List V->Option β)->Option β
 | [],K=>K []
 | .tmp k::l,K=>CX (t.get k) λv=>JQ P h t l λvs=>K (v::vs)
 | .cell a ty::l,K=>match t.get a with
  | some (.ptr j off)=>match h.get j with
   | some (.box cs _ _)=>CX (D2 P ty (cs.drop off)) λv=>JQ P h t l λvs=>K (v::vs)
   | _=>none
  | _=>none
def NO:UMA->UMA
 | .pan ({ v:=_,recovered:=true }::_) => .ret
 | u=>u
def EF (P:Program) (rec:Hu) (d:Func) (β:Type):Nat->List DFA->UMA->T V->H->Nat->(OutA->H->Nat->Option β)->Option β
 | 0,_,_,_,_,_,_=>none
 | n+1,ds,u,t,h,nx,K=>match ds with
  | []=>match u with
   | .ret=>JQ P h t d.results.toList λvs=>K (.ret (match vs with
    | [v]=>v
    | vs => .tup vs)) h nx
   | .pan e=>K (.pan e) h nx
  | .col id::ds=>match h.get id with
   | some (.df (some l))=>EF P rec d β n (l++ds) u t (AG h id (.df none)) nx K
   | _=>none
  | .bi b ats _ args::ds=>match b,args,ats[0]? with
   | .clear,[.mp j],some ty=>(match P.underlying ty,h.get j with
    | some (.map _ _),some (.mp k g c _ false)=>EF P rec d β n ds u t (AG h j (.mp k g c [] false)) nx K
    | _,_=>none)
   | _,_,_=>none
  | .call f args::ds=>match f with
   | .fn (.func g) a b=>FA P (.func g) a b args λr=>match r with
    | .call g args=>rec β (.fn g) (some u) args h nx λo up h nx=>match o,up with
     | .ret _,some u=>EF P rec d β n ds (NO u) t h nx K
     | _,_=>none
    | _=>none
   | _=>none
def Ce (h:H) (nx:Nat) (l:Nat) (a:Option Code) (K:OutA->Option UMA->H->Nat->Option β):Option β:=match h.get l with
 | some (.lp _ _ nt t ps asg body d)=>K (.ret (.bool a.isNone)) none (AG h l (.lp (match a with | none=>0 | some _=>2) a nt t ps asg body d)) nx
 | _=>none
def Mm (P:Program) (a:D6) (ann:Ht) (F:Nat):Nat->Hu
 | 0=>λ_ _ _ _ _ _ _=>none
 | n+1=>λβ g up args h nx K=>match g with
  | .fn f=>match Pi.Gl.pr f with
   | some _=>none
   | none=>CX P.funcs[f]? λb=>CX b.body λc =>
   bif Nat.ble args.length b.ntmps&&Nat.blt b.ntmps 1048575 then
    GQ P a ann f (Mm P a ann F n) F β nx c { t:=Gk 0 args .lf,nt:=b.ntmps,ds:=[],up,ro:=none } h nx λe fr h nx=>match e with
     | .normal=>EF P (Mm P a ann F n) b β F fr.ds .ret fr.t h nx λo h nx=>K o fr.up h nx
     | .ret=>EF P (Mm P a ann F n) b β F fr.ds .ret fr.t h nx λo h nx=>K o fr.up h nx
     | .panic e=>EF P (Mm P a ann F n) b β F fr.ds (.pan [{ v:=e,recovered:=false }]) fr.t h nx λo h nx=>K o fr.up h nx
     | _=>none
   else none
  | .yl l=>match h.get l with
   | some (.lp _ _ nt t ps asg body0 _)=>CX (EN nt ps args t) λt =>
    GQ P a ann 0 (Mm P a ann F n) F β nx asg { t,nt,ds:=[],up:=none,ro:=some l } h nx λe fr h nx=>match e with
     | .normal=>(match h.get l with
      | some (.lp 0 pend nt t ps asg body d)=>GQ P a ann 0 (Mm P a ann F n) F β nx body0 fr (AG h l (.lp 1 pend nt t ps asg body d)) nx λe _ h nx=>match e with
        | .normal=>Ce h nx l none K
        | .ret=>Ce h nx l (some .ret) K
        | .exit id=>Ce h nx l (some (.exit id)) K
        | .goto id=>Ce h nx l (some (.goto id)) K
        | _=>none
      | _=>none)
     | _=>none
   | _=>none
def OE (P:Program) (b:D6) (ann:Ht) (F n:Nat) (f:FuncId) (dom a:List (Bool×Ty)) (x:AP dom):Option (AP a) :=
 Mm P b ann F n (AP a) (.fn f) none (ER dom x) .lf 0 λo _ h _=>match o with
  | .ret v=>Bp h a (match a with
   | [_]=>[v]
   | _=>match v with
    | .tup vs=>vs
    | v=>[v]) some
  | _=>none
end
def PZ (P:Program) (a:D6) (ann:Ht) (F n:Nat) (f:FuncId) (dom:List (Bool×Ty)) (g:Bool) (c:Ty) (x:AP dom):Option (List c.den) :=
 Mm P a ann F n (List c.den) (.fn f) none (ER dom x) .lf 0 λo _ h _=>match o with
  | .ret (.ow j)=>(match h.get j with
   | some (.row g' _ l false false _)=>bif g == g' then DQ l some else none
   | _=>none)
  | _=>none
def PT (P:Program) (a:D6) (ann:Ht) (F n:Nat) (f:FuncId) (dom:List (Bool×Ty)) (g:Bool) (c:Ty) (x:AP dom):Option (List c.den) :=
 Mm P a ann F n (List c.den) (.fn f) none (ER dom x) .lf 0 λo _ h _=>match o with
  | .ret v=>(match v with
   | .pl _ _ _=>GH h false (.sl g c) v some
   | .nils=>GH h false (.sl g c) v some
   | _=>none)
  | _=>none
def PW (P:Program) (b:D6) (ann:Ht) (F n:Nat) (f:FuncId) (dom a:List (Bool×Ty)) (x:AP dom):Option (AP a) :=
 Mm P b ann F n (AP a) (.fn f) none (Pk dom (ER dom x)) .lf 0 λo _ h _=>match o with
  | .ret v=>Bp h a (match a with
   | [_]=>[v]
   | _=>match v with
    | .tup vs=>vs
    | v=>[v]) some
  | _=>none
def Md:List (FuncId×Sg)->FuncId->Option Sg
 | [],_=>none
 | (g,sg)::l,f=>bif Nat.beq f g then some sg else Md l f
def Ad (a:FuncId->Bool) (L:List (FuncId×Sg)):D6:=λf=>bif a f then some (Md L f) else none
def Qq:List (Nat×Nat×Nat×An)->Ht
 | [],_,_,_=>none
 | (a,b,c,tm)::l,f,i,nx=>bif Nat.beq f a&&(Nat.beq i b&&Nat.beq nx c) then some tm else Qq l f i nx
end
section
variable [Pi.Gl]
open Go.Proofs.YtfilfloanndddaaGreat.Pi (PV T Hp Blk DF UM PE)
inductive L2 {α β:Type} (R:α->β->Prop):List α->List β->Prop where
 | nil:L2 R [] []
 | cons {a:α} {b:β} {l:List α} {m:List β} (h:R a b) (t:L2 R l m):L2 R (a::l) (b::m)
namespace L2
variable {α β:Type} {R S:α->β->Prop}
theorem length {l:List α} {m:List β} (h:L2 R l m):l.length=m.length:=by
 induction h with
 | nil=>rfl
 | cons _ _ ih=>simp [ih]
theorem mono {l:List α} {m:List β} (h:L2 R l m) (f : ∀ a b,R a b->S a b):L2 S l m:=by
 induction h with
 | nil=>exact .nil
 | cons x _ ih=>exact .cons (f _ _ x) ih
theorem append {l l':List α} {m a:List β} (h:L2 R l m) (k:L2 R l' a):L2 R (l++l') (m++a):=by
 induction h with
 | nil=>exact k
 | cons x _ ih=>exact .cons x ih
theorem take {l:List α} {m:List β} (h:L2 R l m) : ∀ n,L2 R (l.take n) (m.take n):=by
 induction h with
 | nil=>intro n;simp;exact .nil
 | cons x _ ih=>intro n;cases n with
  | zero=>simp;exact .nil
  | succ n=>exact .cons x (ih n)
theorem drop {l:List α} {m:List β} (h:L2 R l m) : ∀ n,L2 R (l.drop n) (m.drop n):=by
 induction h with
 | nil=>intro n;simp;exact .nil
 | cons x t a=>intro n;cases n with
  | zero=>exact .cons x t
  | succ n=>exact a n
theorem get {l:List α} {m:List β} (h:L2 R l m) : ∀ {i:Nat} {a:α},l[i]? = some a -> ∃ b,m[i]? = some b/\R a b:=by
 induction h with
 | nil=>intro i a h;simp at h
 | cons x _ ih=>intro i a h;cases i with
  | zero=>simp at h;subst h;exact ⟨_,rfl,x⟩
  | succ i=>simp at h;obtain ⟨b,c,d⟩:=ih h;exact ⟨b,by simpa using c,d⟩
theorem set {l:List α} {m:List β} (h:L2 R l m) : ∀ (i:Nat) {a:α} {b:β},R a b->L2 R (l.set i a) (m.set i b):=by
 induction h with
 | nil=>intro i a b h;exact .nil
 | cons x t c=>intro i a b h;cases i with
  | zero=>exact .cons h t
  | succ i=>exact .cons x (c i h)
theorem replicate {a:α} {b:β} (h:R a b) : ∀ n,L2 R (List.replicate n a) (List.replicate n b)
 | 0 => .nil
 | n+1 => .cons h (replicate h n)
theorem nil_inv {m:List β} (h:L2 R [] m):m=[]:=by cases h;rfl
theorem nil_inv' {l:List α} (h:L2 R l []):l=[]:=by cases h;rfl
theorem cons_inv {a:α} {l:List α} {m:List β} (h:L2 R (a::l) m) : ∃ b t,m=b::t/\R a b/\L2 R l t:=by
 cases h with
 | cons x t=>exact ⟨_,_,rfl,x,t⟩
theorem split {l l':List α} {m:List β} (h:L2 R (l++l') m) : ∃ p q,m=p++q/\L2 R l p/\L2 R l' q:=by
 induction l generalizing m with
 | nil=>exact ⟨[],m,rfl,.nil,h⟩
 | cons a l g =>
  obtain ⟨b,t,rfl,c,d⟩:=cons_inv h;obtain ⟨p,q,rfl,e,f⟩:=g d;exact ⟨b::p,q,rfl,.cons c e,f⟩
end L2
def EP {α:Type} (g:Bool) (D:α->List PV->Prop) (x:α) (e:PV):Prop:=match g with
 | true => ∃ cs,e = .agg cs/\D x cs
 | false=>D x [e]
def DP:(c:Ty)->c.den->List PV->Prop
 | .int k,n,ps=>ps=[.int k n]
 | .bool,b,ps=>ps=[.bool b]
 | .str,s,ps=>ps=[.str s]
 | .unit,_,ps=>ps=[]
 | .pair a b,x,ps => ∃ p q,ps=p++q/\DP a x.1 p/\DP b x.2 q
 | .sl g c,l,ps => ∃ p,ps=[p]/\((p = .nils/\l=[]) \/ ∃ f es,p = .lst f es/\L2 (EP g (DP c)) l es)
def DR (h:Hp) (Q:Nat->Prop):(c:Ty)->c.den->List PV->Prop
 | .int k,n,ps=>ps=[.int k n]
 | .bool,b,ps=>ps=[.bool b]
 | .str,s,ps=>ps=[.str s]
 | .unit,_,ps=>ps=[]
 | .pair a b,x,ps => ∃ p q,ps=p++q/\DR h Q a x.1 p/\DR h Q b x.2 q
 | .sl g c,l,ps => ∃ p,ps=[p]/\((p = .nils/\l=[])\/(∃ f es,p = .lst f es/\L2 (EP g (DP c)) l es) \/
   ∃ pid off len es ex fz,p = .own pid off len/\Q pid/\h.get pid=some (.row es ex fz)/\off+len<=es.length/\Pi.Cb c.wd es=true/\L2 (EP g (DR h Q c)) l ((es.drop off).take len))
theorem EP.mono {α:Type} {g:Bool} {D E:α->List PV->Prop} (f : ∀ x a,D x a->E x a) {x:α} {e:PV} (h:EP g D x e):EP g E x e:=by
 cases g with
 | true=>obtain ⟨cs,b,c⟩:=h;exact ⟨cs,b,f _ _ c⟩
 | false=>exact f _ _ h
theorem DP.up {h:Hp} {Q:Nat->Prop} : ∀ {c:Ty} {x:c.den} {a:List PV},DP c x a->DR h Q c x a
 | .int _,_,_,e=>e
 | .bool,_,_,e=>e
 | .str,_,_,e=>e
 | .unit,_,_,e=>e
 | .pair _ _,_,_,⟨p,q,e,b,d⟩=>⟨p,q,e,DP.up b,DP.up d⟩
 | .sl _ _,_,_,⟨p,e,h⟩=>⟨p,e,h.elim .inl λh => .inr (.inl h)⟩
def Rows (h h':Hp) (Q b:Nat->Prop):Prop := ∀ pid es ex fz,Q pid->h.get pid=some (.row es ex fz)->(∃ a,h'.get pid=some (.row es ex a))/\b pid
theorem DR.mono {h h':Hp} {Q g:Nat->Prop} (a:Rows h h' Q g) : ∀ {c:Ty} {x:c.den} {i:List PV},DR h Q c x i->DR h' g c x i
 | .int _,_,_,e=>e
 | .bool,_,_,e=>e
 | .str,_,_,e=>e
 | .unit,_,_,e=>e
 | .pair _ _,_,_,⟨p,q,e,d,f⟩=>⟨p,q,e,DR.mono a d,DR.mono a f⟩
 | .sl _ _,_,_,⟨p,e,h⟩=>⟨p,e,by
  rcases h with h | h | ⟨pid,off,len,es,ex,fz,d,f,j,l,r,m⟩
  ·exact .inl h
  ·exact .inr (.inl h)
  ·obtain ⟨⟨b,n⟩,o⟩:=a _ _ _ _ f j
   exact .inr (.inr ⟨pid,off,len,es,ex,b,d,o,n,l,r,m.mono λ_ _ k=>k.mono λ_ _ k=>DR.mono a k⟩)⟩
inductive At where
 | blk (pid len:Nat)
 | nil
 | fz (es:List PV)
abbrev Mp:=Nat->Option At
def S2:Mp:=λ_=>none
def Dg:Hp:={ m:=.lf,nx:=0 }
structure Cx where
 π:Mp
 h:Hp
 O:Nat->Prop
def Cx.pure:Cx:={ π:=S2,h:=Dg,O:=λ_=>True }
def Cx.Q (X:Cx) (pid:Nat):Prop := ¬ X.O pid
mutual
def VR (X:Cx):V->PV->Prop
 | .bool b,p=>p = .bool b
 | .int k n,p=>p = .int k n
 | .str s,p=>p = .str s
 | .nilp,p=>p = .nilp
 | .nils,p=>p = .nils
 | .nilm,p=>p = .nilm
 | .nilf,p=>p = .nilf
 | .nili,p=>p = .nili
 | .agg cs,p => ∃ d,p = .agg d/\VRL X cs d
 | .tup cs,p => ∃ d,p = .tup d/\VRL X cs d
 | .lf full g c l,p=>(p = .nils/\l=[])\/(∃ f es,p = .lst f es/\(full=true->f=true)/\L2 (EP g (DP c)) l es) \/
   ∃ pid off len es ex fz,p = .own pid off len/\(full=true->ex=true/\off+len=es.length)/\X.Q pid/\X.h.get pid=some (.row es ex fz)/\off+len<=es.length/\Pi.Cb c.wd es=true/\L2 (EP g (DR X.h X.Q c)) l ((es.drop off).take len)
 | .pl g c l,p=>(p = .nils/\l=[]) \/ ∃ f es,p = .lst f es/\L2 (EP g (DP c)) l es
 | .exl full es,p => ∃ f d,p = .lst f d/\(full=true->f=true)/\VRL Cx.pure es d
 | .ow id,p=>match X.π id with
  | some (.blk pid len)=>p = .own pid 0 len
  | some .nil=>p = .nils
  | some (.fz es)=>p = .lst true es
  | none=>False
 | .own id off len,p => ∃ pid n,X.π id=some (.blk pid n)/\p = .own pid off len
 | .ptr id off,p => ∃ pid n,X.π id=some (.blk pid n)/\p = .ptr pid off
 | .ept id i off,p => ∃ pid n,X.π id=some (.blk pid n)/\p = .ept pid i off
 | .aptr id off k len,p => ∃ pid n,X.π id=some (.blk pid n)/\p = .ptr pid (off+k)/\k<len
 | .view cs,p=>(∃ d,p = .view d/\VRL Cx.pure cs d) \/ ∃ pid i off es ex fz e,p = .ept pid i off/\X.Q pid/\X.h.get pid=some (.row es ex fz)/\es[i]? = some e/\VRL X cs (e.cells.drop off)
 | .pv cs,p => ∃ d,p = .view d/\VRL Cx.pure cs d
 | .fn f a b,p => ∃ j b',p = .fn f j b'/\VRL X a j/\VRL X b b'
 | .yl id,p => ∃ pid n,X.π id=some (.blk pid n)/\p = .yl pid
 | .ifc t v,p => ∃ q,p = .ifc t q/\VR X v q
 | .mp id,p => ∃ pid n,X.π id=some (.blk pid n)/\p = .mp pid
def VRL (X:Cx):List V->List PV->Prop
 | [],ps=>ps=[]
 | v::vs,ps => ∃ p a,ps=p::a/\VR X v p/\VRL X vs a
end
structure Up (X Y:Cx):Prop where
 pi : ∀ id a,X.π id=some a->Y.π id=some a
 rows:Rows X.h Y.h X.Q Y.Q
theorem Up.refl (X:Cx):Up X X:=⟨λ_ _ h=>h,λ_ _ _ _ h k=>⟨⟨_,k⟩,h⟩⟩
theorem Up.trans {X Y Z:Cx} (a:Up X Y) (b:Up Y Z):Up X Z:=⟨λid x h=>b.pi _ _ (a.pi _ _ h),λpid es ex fz h k=>by
 obtain ⟨⟨c,d⟩,e⟩:=a.rows _ _ _ _ h k
 exact b.rows _ _ _ _ e d⟩
theorem Up.pure (X:Cx):Up Cx.pure X:=⟨λ_ _ h=>(by cases h),λ_ _ _ _ h=>absurd trivial h⟩
mutual
theorem VR.mono {X Y:Cx} (u:Up X Y) : ∀ {v:V} {p:PV},VR X v p->VR Y v p
 | .bool _,_,h | .int _ _,_,h | .str _,_,h | .nilp,_,h | .nils,_,h | .nilm,_,h | .nilf,_,h | .nili,_,h=>by
  simp only [VR] at h ⊢;exact h
 | .agg cs,_,h=>by
  simp only [VR] at h ⊢;obtain ⟨z,d,j⟩:=h;exact ⟨z,d,VRL.mono u j⟩
 | .tup cs,_,h=>by
  simp only [VR] at h ⊢;obtain ⟨z,d,j⟩:=h;exact ⟨z,d,VRL.mono u j⟩
 | .lf full g c l,_,h=>by
  simp only [VR] at h ⊢;rcases h with h | h | ⟨pid,off,len,es,ex,fz,d,B,j,o,r,C,s⟩
  ·exact .inl h
  ·exact .inr (.inl h)
  ·obtain ⟨⟨m,w⟩,x⟩:=u.rows _ _ _ _ j o;exact .inr (.inr ⟨pid,off,len,es,ex,m,d,B,x,w,r,C,s.mono λ_ _ k=>k.mono λ_ _ k=>DR.mono u.rows k⟩)
 | .exl full es,_,h=>by simp only [VR] at h ⊢;exact h
 | .pl _ _ _,_,h=>by simp only [VR] at h ⊢;exact h
 | .pv _,_,h=>by simp only [VR] at h ⊢;exact h
 | .ow id,p,h=>by
  simp only [VR] at h ⊢;cases y:X.π id with
  | none=>rw [y] at h;exact h.elim
  | some a=>rw [y] at h;rw [u.pi _ _ y];exact h
 | .own id off len,_,h=>by
  simp only [VR] at h ⊢;obtain ⟨pid,n,d,j⟩:=h;exact ⟨pid,n,u.pi _ _ d,j⟩
 | .ptr id off,_,h=>by
  simp only [VR] at h ⊢;obtain ⟨pid,n,d,j⟩:=h;exact ⟨pid,n,u.pi _ _ d,j⟩
 | .ept id i off,_,h=>by
  simp only [VR] at h ⊢;obtain ⟨pid,n,d,j⟩:=h;exact ⟨pid,n,u.pi _ _ d,j⟩
 | .aptr id off k len,_,h=>by
  simp only [VR] at h ⊢;obtain ⟨pid,n,d,j⟩:=h;exact ⟨pid,n,u.pi _ _ d,j⟩
 | .view cs,_,h=>by
  simp only [VR] at h ⊢;rcases h with h | ⟨pid,i,off,es,ex,fz,e,d,j,o,r,s⟩
  ·exact .inl h
  ·obtain ⟨⟨m,w⟩,x⟩:=u.rows _ _ _ _ j o;exact .inr ⟨pid,i,off,es,ex,m,e,d,x,w,r,VRL.mono u s⟩
 | .fn f a b,_,h=>by
  simp only [VR] at h ⊢;obtain ⟨A,b',d,j,o⟩:=h;exact ⟨A,b',d,VRL.mono u j,VRL.mono u o⟩
 | .yl id,_,h=>by
  simp only [VR] at h ⊢;obtain ⟨pid,n,d,j⟩:=h;exact ⟨pid,n,u.pi _ _ d,j⟩
 | .ifc t v,_,h=>by
  simp only [VR] at h ⊢;obtain ⟨q,d,j⟩:=h;exact ⟨q,d,VR.mono u j⟩
 | .mp id,_,h=>by
  simp only [VR] at h ⊢;obtain ⟨pid,n,d,j⟩:=h;exact ⟨pid,n,u.pi _ _ d,j⟩
theorem VRL.mono {X Y:Cx} (u:Up X Y) : ∀ {vs:List V} {a:List PV},VRL X vs a->VRL Y vs a
 | [],_,h=>by simp only [VRL] at h ⊢;exact h
 | v::vs,_,h=>by
  simp only [VRL] at h ⊢;obtain ⟨p,e,b,c,d⟩:=h;exact ⟨p,e,b,VR.mono u c,VRL.mono u d⟩
end
section
variable {X:Cx}
theorem VRL.nil:VRL X [] []:=by simp [VRL]
theorem VRL.cons {v:V} {p:PV} {vs:List V} {a:List PV} (h:VR X v p) (t:VRL X vs a):VRL X (v::vs) (p::a):=by
 simp only [VRL];exact ⟨p,a,rfl,h,t⟩
theorem VRL.nil_inv {a:List PV} (h:VRL X [] a):a=[]:=by simpa [VRL] using h
theorem VRL.cons_inv {v:V} {vs:List V} {a:List PV} (h:VRL X (v::vs) a) : ∃ p b,a=p::b/\VR X v p/\VRL X vs b:=by simpa only [VRL] using h
theorem VRL.length : ∀ {vs:List V} {a:List PV},VRL X vs a->vs.length=a.length
 | [],_,h=>by rw [h.nil_inv];rfl
 | v::vs,_,h=>by obtain ⟨p,c,rfl,_,b⟩:=h.cons_inv;simp [b.length]
theorem VRL.append : ∀ {vs c:List V} {b a:List PV},VRL X vs b->VRL X c a->VRL X (vs++c) (b++a)
 | [],_,_,_,h,k=>by rw [h.nil_inv];exact k
 | v::vs,_,_,_,h,k=>by obtain ⟨p,a,rfl,d,e⟩:=h.cons_inv;exact .cons d (e.append k)
theorem VRL.take : ∀ {vs:List V} {a:List PV} (_:VRL X vs a) (n:Nat),VRL X (vs.take n) (a.take n)
 | [],_,h,n=>by rw [h.nil_inv];simpa using VRL.nil
 | v::vs,_,h,0=>by simpa using VRL.nil
 | v::vs,_,h,n+1=>by obtain ⟨p,d,rfl,b,c⟩:=h.cons_inv;exact .cons b (c.take n)
theorem VRL.drop : ∀ {vs:List V} {a:List PV} (_:VRL X vs a) (n:Nat),VRL X (vs.drop n) (a.drop n)
 | [],_,h,n=>by rw [h.nil_inv];simpa using VRL.nil
 | v::vs,_,h,0=>by simpa using h
 | v::vs,_,h,n+1=>by obtain ⟨p,d,rfl,c,b⟩:=h.cons_inv;exact b.drop n
theorem VRL.lget : ∀ {vs:List V} {b:List PV} (_:VRL X vs b) {i:Nat} {v:V},Pi.lget vs i=some v -> ∃ p,Pi.lget b i=some p/\VR X v p
 | [],_,h,i,v,e=>by simp [Pi.lget] at e
 | w::vs,_,h,i,v,e=>by
  obtain ⟨p,f,rfl,c,d⟩:=h.cons_inv;unfold Pi.lget at e ⊢;cases a:Nat.beq i 0 with
  | true=>rw [a] at e;simp at e;subst e;exact ⟨p,rfl,c⟩
  | false=>rw [a] at e;simp only [cond_false] at e ⊢;exact d.lget e
theorem VRL.lset : ∀ {vs:List V} {b:List PV} (_:VRL X vs b) (i:Nat) {v:V} {p:PV},VR X v p->VRL X (Pi.lset vs i v) (Pi.lset b i p)
 | [],_,h,i,v,p,_=>by rw [h.nil_inv];exact .nil
 | w::vs,_,h,i,v,p,hv=>by
  obtain ⟨q,e,rfl,c,a⟩:=h.cons_inv;unfold Pi.lset;cases d:Nat.beq i 0 with
  | true=>exact .cons hv a
  | false=>exact .cons c (a.lset _ hv)
theorem VRL.fput {vs xs:List V} {a b:List PV} (h:VRL X vs a) (k:VRL X xs b) (off:Nat):VRL X (GR vs off xs) (Pi.BP a off b):=by
 unfold GR Pi.BP;rw [<- k.length];exact (h.take off).append (k.append (h.drop _))
theorem VRL.rep {v:V} {p:PV} (h:VR X v p) : ∀ n,VRL X (List.replicate n v) (List.replicate n p)
 | 0 => .nil
 | n+1 => .cons h (VRL.rep h n)
theorem VR.cells {v:V} {p:PV} (h:VR X v p):VRL X v.cells p.cells:=by
 have d : ∀ (v:V) (p:PV),VR X v p->v.cells=[v]->p.cells=[p]->VRL X v.cells p.cells:=by
  intro v p h m e;rw [m,e];exact .cons h .nil
 cases v with
 | bool b=>simp only [VR] at h;subst h;exact d _ _ (by simp [VR]) rfl rfl
 | int k n=>simp only [VR] at h;subst h;exact d _ _ (by simp [VR]) rfl rfl
 | str k=>simp only [VR] at h;subst h;exact d _ _ (by simp [VR]) rfl rfl
 | nilp=>simp only [VR] at h;subst h;exact d _ _ (by simp [VR]) rfl rfl
 | nils=>simp only [VR] at h;subst h;exact d _ _ (by simp [VR]) rfl rfl
 | nilm=>simp only [VR] at h;subst h;exact d _ _ (by simp [VR]) rfl rfl
 | nilf=>simp only [VR] at h;subst h;exact d _ _ (by simp [VR]) rfl rfl
 | nili=>simp only [VR] at h;subst h;exact d _ _ (by simp [VR]) rfl rfl
 | agg cs=>simp only [VR] at h;obtain ⟨j,rfl,e⟩:=h;exact e
 | tup cs=>simp only [VR] at h;obtain ⟨j,rfl,e⟩:=h;exact .nil
 | lf f g c l =>
  refine d _ _ h rfl ?_;simp only [VR] at h;rcases h with ⟨rfl,_⟩ | ⟨f,es,rfl,_⟩ | ⟨pid,off,len,es,ex,fz,rfl,_⟩<;>rfl
 | pl g c l =>
  refine d _ _ h rfl ?_;simp only [VR] at h;rcases h with ⟨rfl,_⟩ | ⟨f,es,rfl,_⟩<;>rfl
 | pv cs=>refine d _ _ h rfl ?_;simp only [VR] at h;obtain ⟨_,rfl,_⟩:=h;rfl
 | exl f es =>
  refine d _ _ h rfl ?_;simp only [VR] at h;obtain ⟨f,j,rfl,_⟩:=h;rfl
 | own id off len=>refine d _ _ h rfl ?_;simp only [VR] at h;obtain ⟨_,_,_,rfl⟩:=h;rfl
 | ptr id off=>refine d _ _ h rfl ?_;simp only [VR] at h;obtain ⟨_,_,_,rfl⟩:=h;rfl
 | ept id i off=>refine d _ _ h rfl ?_;simp only [VR] at h;obtain ⟨_,_,_,rfl⟩:=h;rfl
 | aptr id off k len=>refine d _ _ h rfl ?_;simp only [VR] at h;obtain ⟨_,_,_,rfl,_⟩:=h;rfl
 | view cs =>
  refine d _ _ h rfl ?_;simp only [VR] at h;rcases h with ⟨j,rfl,_⟩ | ⟨_,_,_,_,_,_,_,rfl,_⟩<;>rfl
 | fn f a b=>refine d _ _ h rfl ?_;simp only [VR] at h;obtain ⟨_,_,rfl,_⟩:=h;rfl
 | yl id=>refine d _ _ h rfl ?_;simp only [VR] at h;obtain ⟨_,_,_,rfl⟩:=h;rfl
 | ifc t v=>refine d _ _ h rfl ?_;simp only [VR] at h;obtain ⟨_,rfl,_⟩:=h;rfl
 | mp id=>refine d _ _ h rfl ?_;simp only [VR] at h;obtain ⟨_,_,_,rfl⟩:=h;rfl
 | ow id =>
  refine d _ _ h rfl ?_;simp only [VR] at h;split at h
  ·subst h;rfl
  ·subst h;rfl
  ·subst h;rfl
  ·exact h.elim
theorem VR.norm {v:V} {p:PV} (h:VR X v p):VR X v.norm p:=by
 cases v with
 | pl g c l =>
  simp only [VR] at h;simp only [V.norm,VR];rcases h with h | ⟨f,es,a,b⟩
  ·exact .inl h
  ·exact .inr (.inl ⟨f,es,a,(λh=>by cases h),b⟩)
 | pv cs =>
  simp only [VR] at h;simp only [V.norm,VR];exact .inl h
 | _=>exact h
end
end
section
variable [Pi.Gl]
open Go.Proofs.YtfilfloanndddaaGreat.Pi (PV T Hp Blk DF UM PE)
section
variable {β α:Type}
theorem AE {o:Option α} {K:α->Option β} {x:β} (e:CX o K=some x) : ∃ y,o=some y/\K y=some x:=by
 cases o with
 | none=>cases e
 | some y=>exact ⟨y,rfl,e⟩
theorem AJ {c:Bool} {K:Unit->Option β} {x:β} (e:gd c K=some x):c=true/\K ()=some x:=by
 cases c with
 | false=>cases e
 | true=>exact ⟨rfl,e⟩
theorem Bc {c:Bool} {a b:Unit->Option β} {x:β} (e:br c a b=some x):(c=true/\a ()=some x)\/(c=false/\b ()=some x):=by
 cases c with
 | false=>exact .inr ⟨rfl,e⟩
 | true=>exact .inl ⟨rfl,e⟩
theorem GS {l:List α} {i:Nat} {K:α->Option β} {x:β} (e:ix l i K=some x) : ∃ y,l[i]? = some y/\K y=some x:=by
 unfold ix at e;split at e
 ·rename_i y a;exact ⟨y,a,e⟩
 ·cases e
theorem LK {n:Int} {K:Nat->Option β} {x:β} (e:RX n K=some x):0<=n/\K n.toNat=some x:=by
 unfold RX at e;cases h:decide (0<=n) with
 | false=>rw [h] at e;cases e
 | true=>rw [h] at e;exact ⟨of_decide_eq_true h,e⟩
theorem E3 {m:Option α} {K:α->Option β} {x:β} (e:bd m K=some x) : ∃ y,m=some y/\K y=some x:=by
 cases m with
 | none=>cases e
 | some y=>exact ⟨y,rfl,e⟩
theorem A3 {c a:Ty} {l:List c.den} {K:List a.den->Option β} {x:β} (e:DQ l K=some x) : ∃ h:c=a,K (h ▸ l)=some x:=by
 unfold DQ at e;split at e
 ·rename_i h;exact ⟨h,e⟩
 ·cases e
theorem Bw {c:Bool} {a b:α} {x:α} (e:(bif c then a else b)=x):(c=true/\a=x)\/(c=false/\b=x):=by
 cases c with
 | false=>exact .inr ⟨rfl,e⟩
 | true=>exact .inl ⟨rfl,e⟩
theorem A9 {c:Bool} {b:Option α} {x:α} (e:(bif c then none else b)=some x):c=false/\b=some x:=by
 cases c with
 | false=>exact ⟨rfl,e⟩
 | true=>cases e
theorem AO {c:Bool} {a:Option α} {x:α} (e:(bif c then a else none)=some x):c=true/\a=some x:=by
 cases c with
 | true=>exact ⟨rfl,e⟩
 | false=>cases e
end
section
variable {X:Cx} {β:Type} {x:β}
theorem Fg {v : Value} {a : V} (e : GF v = some a) : ∃ p, Pi.Ct v = some p /\ VR X a p := by
  unfold GF at e;unfold Pi.Ct;split at e
  all_goals first
    | (cases e; exact ⟨_, rfl, by simp [VR]⟩)
    | (split at e
       · rename_i h; cases e; exact ⟨.fn (.func _) [] [], if_pos h, by simp [VR, VRL]⟩
       · cases e)
    | cases e
theorem Ec : ∀ {vs:List Value} {b:List V},Dn vs=some b -> ∃ c,Pi.cellsOf vs=some c/\VRL X b c
 | [],b,e=>by cases e;exact ⟨[],rfl,.nil⟩
 | v::l,b,e=>by
  unfold Dn at e;split at e
  ·rename_i a d f g;cases e;obtain ⟨p,e1,h⟩:=Fg (X:=X) f;obtain ⟨c,e2,i⟩:=Ec g;exact ⟨p::c,by unfold Pi.cellsOf;rw [e1,e2],.cons h i⟩
  ·cases e
theorem JL {v:Value} {a:V} (e:KD v=some a) : ∃ p,Pi.D0 v=some p/\VR X a p:=by
 unfold KD at e;split at e
 ·rename_i cs;cases h:Dn cs.toList with
  | none=>rw [h] at e;cases e
  | some j =>
   rw [h] at e;cases e;obtain ⟨c,e2,b⟩:=Ec (X:=X) h;exact ⟨.agg c,by simp only [Pi.D0,e2];rfl,by simp only [VR];exact ⟨c,rfl,b⟩⟩
 ·rename_i vs;replace e:=AO e;obtain ⟨h,e⟩:=e;cases e;exact ⟨.tup [],by simp [Pi.D0,h],by simp [VR,VRL]⟩
 ·rename_i t v;split at e
  ·rename_i p i;cases e;obtain ⟨q,e2,b⟩:=Fg (X:=X) i;exact ⟨.ifc t q,by simp only [Pi.D0,e2],by simp only [VR];exact ⟨q,rfl,b⟩⟩
  ·cases e
 ·rename_i d f g;obtain ⟨p,e2,b⟩:=Fg (X:=X) e;refine ⟨p,?_,b⟩;unfold Pi.D0;split
  ·exact absurd rfl (d _)
  ·exact absurd rfl (f _)
  ·exact absurd rfl (g _ _)
  ·exact e2
theorem B0 {P:Program} {t:TypeId} {b:List V} (e:Cf P t=some b) : ∃ a,Pi.zeroCells P t=some a/\VRL X b a:=by
 unfold Cf at e;split at e
 ·rename_i i hi;split at e
  ·rename_i z c;obtain ⟨a,h,r⟩:=Ec (X:=X) e;exact ⟨a,by simp only [Pi.zeroCells,hi,c];exact h,r⟩
  ·cases e
 ·cases e
theorem F8 {P:Program} {t:TypeId} {a:V} (e:C4 P t=some a) : ∃ p,Pi.Bo P t=some p/\VR X a p:=by
 unfold C4 at e;split at e
 ·rename_i i hi;split at e
  ·rename_i z b;obtain ⟨c,h,r⟩:=JL (X:=X) e;exact ⟨c,by simp only [Pi.Bo,hi,b];exact h,r⟩
  ·cases e
 ·cases e
def TR (X:Cx) (t:T V) (a:T PV):Prop := ∀ k v,t.get k=some v -> ∃ p,a.get k=some p/\VR X v p
theorem TR.mono {Y:Cx} {t:T V} {a:T PV} (h:TR X t a) (u:Up X Y):TR Y t a:=λk v e=>by
 obtain ⟨p,b,c⟩:=h k v e;exact ⟨p,b,c.mono u⟩
theorem TR.put {t:T V} {a:T PV} (h:TR X t a) {d:Nat} (f:d<1048575) {v:V} {p:PV} (c:VR X v p):TR X (T.put 20 t d v) (T.put 20 a d p):=by
 have g:(2:Nat) ^ 20-1=1048575:=by decide
 intro k w e;rw [T.get_put 20 t d v k (by omega)] at e;rw [T.get_put 20 a d p k (by omega)];by_cases b:k=d
 ·rw [if_pos b] at e ⊢;cases e;exact ⟨p,rfl,c⟩
 ·rw [if_neg b] at e ⊢;exact h k w e
variable {t:T V} {tP:T PV}
theorem AL (f:TR X t tP) {o:Operand} {K:V->Option β} (e:BF t o K=some x) : ∃ v p,K v=some x/\Pi.CK tP o=some p/\VR X v p:=by
 unfold BF at e;unfold Pi.CK;split at e
 ·obtain ⟨v,a,b⟩:=AE e;obtain ⟨p,c,d⟩:=f _ _ a;exact ⟨v,p,b,by simp [c],d⟩
 ·obtain ⟨v,a,b⟩:=AE e;obtain ⟨p,c,d⟩:=JL (X:=X) a;exact ⟨v,p,b,c,d⟩
 ·exact ⟨_,_,e,rfl,by simp [VR,VRL]⟩
 ·cases e
theorem GP (b:TR X t tP) : ∀ {c:List Operand} {K:List V->Option β},Nl t c K=some x -> ∃ vs a,K vs=some x/\Pi.Lm tP c=some a/\VRL X vs a
 | [],K,e=>⟨[],[],e,rfl,.nil⟩
 | o::l,K,e=>by
  obtain ⟨v,p,e1,d,g⟩:=AL b e;obtain ⟨vs,a,e2,f,h⟩:=GP b e1;exact ⟨v::vs,p::a,e2,by unfold Pi.Lm;rw [d,f],.cons g h⟩
def VRO (X:Cx):Option V->Option PV->Prop
 | none,o=>o=none
 | some v,o => ∃ p,o=some p/\VR X v p
theorem Jl (b:TR X t tP) {o:Option Operand} {K:Option V->Option β} (e:P3 t o K=some x) : ∃ v p,K v=some x/\Pi.Pq tP o=some p/\VRO X v p:=by
 cases o with
 | none=>exact ⟨none,none,e,rfl,rfl⟩
 | some o =>
  obtain ⟨v,p,e1,a,c⟩:=AL b e;exact ⟨some v,some p,e1,by show (Pi.CK tP o).map some=_;rw [a];rfl,p,rfl,c⟩
def RO (X:Cx):List (Nat×V)->List (Nat×PV)->Prop:=L2 λa b=>a.1=b.1/\VR X a.2 b.2
theorem Er (b:TR X t tP) : ∀ {c:List (Nat×Operand)} {K:List (Nat×V)->Option β},Gb t c K=some x -> ∃ vs a,K vs=some x/\Pi.B6 tP c=some a/\RO X vs a
 | [],K,e=>⟨[],[],e,rfl,.nil⟩
 | (i,o)::l,K,e=>by
  obtain ⟨v,p,e1,d,g⟩:=AL b e;obtain ⟨vs,a,e2,f,h⟩:=Er b e1;exact ⟨(i,v)::vs,(i,p)::a,e2,by unfold Pi.B6;rw [d,f],.cons ⟨rfl,g⟩ h⟩
theorem C3 {v:V} {p:PV} {K:Nat->Option β} (a:VR X v p) (e:IS v K=some x) : ∃ n,K n=some x/\Pi.FP p=some n:=by
 unfold IS at e;split at e
 ·simp only [VR] at a;subst a;obtain ⟨b,c⟩:=LK e;exact ⟨_,c,by simp [Pi.FP,b]⟩
 ·cases e
theorem JJ {v:V} {p:PV} {K:Nat->Option β} (a:VR X v p) (e:J6 v K=some x) : ∃ n,K n=some x/\Pi.E1 p=some n:=by
 unfold J6 at e;split at e
 ·simp only [VR] at a;subst a;obtain ⟨b,c⟩:=LK e;exact ⟨_,c,by simp [Pi.E1,b]⟩
 ·cases e
theorem A1 {d:Nat} {v:Option V} {p:Option PV} {K:Nat->Option β} (a:VRO X v p) (e:CA d v K=some x) : ∃ n,K n=some x/\Pi.CR d p=some n:=by
 cases v with
 | none=>cases a;exact ⟨d,e,rfl⟩
 | some v=>obtain ⟨p,rfl,a⟩:=a;exact C3 a e
theorem QA {c : BinOp} {k : IntKind} {a b : Int} {K : V -> Option β} (e : Q5 c k a b K = some x) : ∃ v p, K v = some x /\ Pi.N9 c k a b = some p /\ VR X v p := by
  cases c <;> simp only [Q5] at e
  all_goals first
    | (exact ⟨_, _, e, rfl, by simp only [VR]; rfl⟩)
    | (obtain ⟨d, f⟩ := AJ e
       refine ⟨_, _, f, ?_, by simp only [VR]; rfl⟩;have g : (b == 0) = false := by simpa [RT] using d
       simp only [Pi.N9, g, cond_false]; rfl)
    | cases e
theorem JV {c : BinOp} {k : IntKind} {a b : Int} {K : V -> Option β} (e : MV c k a b K = some x) : ∃ v p, K v = some x /\ Pi.HD c k a b = some p /\ VR X v p := by
  cases c <;> simp only [MV] at e
  all_goals first
    | (obtain ⟨d, f⟩ := AJ e
       refine ⟨_, _, f, ?_, by simp only [VR]; rfl⟩;have g : decide (b < 0) = false := by simpa [RS] using d
       simp only [Pi.HD, g, cond_false]; rfl)
    | cases e
theorem Cs : ∀ (a b:List UInt8),(Op.bytesLess a b||a == b) = !Op.bytesLess b a
 | [],[]=>rfl
 | [],_::_=>rfl
 | _::_,[]=>rfl
 | a::l,b::m=>by
  have g:=Cs l m;simp only [Op.bytesLess];by_cases c:a<b
  ·have d : ¬ b<a:=by rw [UInt8.lt_iff_toNat_lt] at c ⊢;omega
   have e:(b == a)=false:=by
    rw [beq_eq_false_iff_ne];intro h;subst h;exact d c
   simp [c,d,e]
  ·by_cases d:b<a
   ·have e:(a == b)=false:=by
     rw [beq_eq_false_iff_ne];intro h;subst h;exact c d
    have f:(a::l == b::m)=false:=by
     rw [List.cons_beq_cons,e];rfl
    simp [c,d,e,f]
   ·have e:a=b:=by
     apply UInt8.toNat_inj.1;rw [UInt8.lt_iff_toNat_lt] at c d;omega
    subst e;rw [List.cons_beq_cons];simp only [c,decide_false,Bool.false_or,beq_self_eq_true,Bool.true_and];exact g
theorem QZ {c : BinOp} {a b : List UInt8} {K : V -> Option β} (e : RJ c a b K = some x) : ∃ v p, K v = some x /\ Pi.PJ c a b = some p /\ VR X v p := by
  cases c <;> simp only [RJ] at e
  all_goals first
    | (refine ⟨_, _, e, rfl, ?_⟩; simp only [VR]; rfl)
    | (refine ⟨_, _, e, rfl, ?_⟩; simp only [VR]; rw [Cs]; rfl)
    | (refine ⟨_, _, e, rfl, ?_⟩; simp only [VR]; rw [Cs]; simp [Rz])
    | (obtain ⟨d, f⟩ := AJ e
       refine ⟨_, _, f, ?_, by simp only [VR]; rfl⟩;simp only [CD, BD, MW] at d
       simp only [Pi.PJ, d, cond_true]; rfl)
    | cases e
end
end
section
variable [Pi.Gl]
open Go.Proofs.YtfilfloanndddaaGreat.Pi (PV T Hp Blk DF UM PE)
section
variable {X:Cx} {β:Type} {x:β} {P:Program}
theorem BZ {t:TypeId} {cs:List V} {c:List PV} {v:V} (h:VRL X cs c) (e:D2 P t cs=some v) : ∃ p,Pi.part P t c=some p/\VR X v p:=by
 unfold D2 at e;split at e
 ·rename_i n a b;replace e:=AO e;obtain ⟨d,e⟩:=e;cases e;refine ⟨.agg (c.take n),?_,by simp only [VR];exact ⟨_,rfl,h.take n⟩⟩;unfold Pi.part;simp only [a,b];rw [<- h.length,d];rfl
 ·rename_i a b;split at e
  ·cases e;obtain ⟨p,f,rfl,r,_⟩:=h.cons_inv;exact ⟨p,by unfold Pi.part;simp only [a,b],r⟩
  ·cases e
 ·cases e
theorem VR.agg_inv {cs:List V} {p:PV} (h:VR X (.agg cs) p) : ∃ a,p = .agg a/\VRL X cs a:=by simpa only [VR] using h
mutual
theorem Gw : ∀ (d:Nat) {t:TypeId} {a b:V} {c:Bool} {p q:PV},VR X a p->VR X b q->P2 P d t a b=some c->Pi.ND P d t p q=some c
 | 0,_,_,_,_,_,_,_,_,e=>by simp [P2] at e
 | d+1,t,a,b,c,p,q,f,g,e=>by
  unfold P2 at e;unfold Pi.ND;split at e
  all_goals (try simp only [*])
  ·split at e
   ·simp only [VR] at f g;subst f;subst g;exact e
   ·cases e
  ·split at e
   ·simp only [VR] at f g;subst f;subst g;exact e
   ·cases e
  ·split at e
   ·simp only [VR] at f g;subst f;subst g;exact e
   ·cases e
  ·split at e
   all_goals first
    | (simp only [VR] at f g;subst f;subst g;exact e)
    | (simp only [VR] at f g;obtain ⟨_,_,_,rfl⟩:=f;subst g;exact e)
    | (simp only [VR] at f g;obtain ⟨_,_,_,rfl⟩:=g;subst f;exact e)
    | (simp only [VR] at f g;subst f;rcases g with ⟨_,rfl,_⟩ | ⟨_,_,_,_,_,_,_,rfl,_⟩<;>exact e)
    | (simp only [VR] at f g;subst g;rcases f with ⟨_,rfl,_⟩ | ⟨_,_,_,_,_,_,_,rfl,_⟩<;>exact e)
    | (simp only [VR] at f g;subst f;obtain ⟨_,rfl,_⟩:=g;exact e)
    | (simp only [VR] at f g;subst g;obtain ⟨_,rfl,_⟩:=f;exact e)
    | cases e
  ·split at e
   ·simp only [VR] at f g;subst f;subst g;exact e
   ·simp only [VR] at f g;subst f;obtain ⟨_,_,rfl,_⟩:=g;exact e
   ·simp only [VR] at f g;subst g;obtain ⟨_,_,rfl,_⟩:=f;exact e
   ·simp only [VR] at f g;subst f;rcases g with ⟨_,h⟩ | ⟨_,_,rfl,_⟩ | ⟨_,_,_,_,_,_,rfl,_⟩
    ·cases h
    ·exact e
    ·exact e
   ·simp only [VR] at f g;subst g;rcases f with ⟨_,h⟩ | ⟨_,_,rfl,_⟩ | ⟨_,_,_,_,_,_,rfl,_⟩
    ·cases h
    ·exact e
    ·exact e
   ·simp only [VR] at f g;subst f;rcases g with ⟨_,h⟩ | ⟨_,_,rfl,_⟩
    ·cases h
    ·exact e
   ·simp only [VR] at f g;subst g;rcases f with ⟨_,h⟩ | ⟨_,_,rfl,_⟩
    ·cases h
    ·exact e
   ·simp only [VR] at f g;subst f;obtain ⟨_,_,_,rfl⟩:=g;exact e
   ·simp only [VR] at f g;subst g;obtain ⟨_,_,_,rfl⟩:=f;exact e
   ·cases e
  ·split at e
   all_goals first
    | (simp only [VR] at f g;subst f;subst g;exact e)
    | (simp only [VR] at f g;obtain ⟨_,_,rfl,_⟩:=f;subst g;exact e)
    | (simp only [VR] at f g;obtain ⟨_,_,rfl,_⟩:=g;subst f;exact e)
    | cases e
  ·split at e
   ·simp only [VR] at f g;subst f;subst g;exact e
   ·simp only [VR] at f g;subst f;obtain ⟨_,rfl,_⟩:=g;exact e
   ·simp only [VR] at f g;subst g;obtain ⟨_,rfl,_⟩:=f;exact e
   ·simp only [VR] at f g;obtain ⟨o,rfl,f⟩:=f;obtain ⟨b',rfl,g⟩:=g;rcases Bw e with ⟨h,e⟩ | ⟨h,e⟩
    ·simp only [h,cond_true];split at e
     ·rename_i i hi;replace e:=AO e;obtain ⟨l,e⟩:=e;simp only [hi,l,cond_true];exact Gw d f g e
     ·cases e
    ·simp only [h,cond_false];exact e
   ·cases e
  ·split at e
   ·obtain ⟨m,rfl,j⟩:=f.agg_inv;obtain ⟨n,rfl,k⟩:=g.agg_inv;replace e:=A9 e;obtain ⟨h,e⟩:=e;simp only [h,cond_false];exact Ji d j k e
   ·cases e
  ·split at e
   ·obtain ⟨m,rfl,j⟩:=f.agg_inv;obtain ⟨n,rfl,k⟩:=g.agg_inv;replace e:=AO e;obtain ⟨h,e⟩:=e;simp only [h,cond_true];exact Mo d j k e
   ·cases e
theorem Ji : ∀ (d:Nat) {g:List Field} {a b:List V} {c:Bool} {p q:List PV},VRL X a p->VRL X b q->L4 P d g a b=some c->Pi.Im P d g p q=some c
 | 0,_,_,_,_,_,_,_,_,e=>by simp [L4] at e
 | d+1,[],_,_,_,_,_,_,_,e=>by simpa [L4,Pi.Im] using e
 | d+1,f::g,a,b,c,p,q,ha,hb,e=>by
  unfold L4 at e;unfold Pi.Im;rcases Bw e with ⟨h,e⟩ | ⟨h,e⟩
  ·simp only [h,cond_true];exact Ji d ha hb e
  ·simp only [h,cond_false];split at e
   ·rename_i u v l m;obtain ⟨s,j,n⟩:=BZ (ha.drop f.offset) l;obtain ⟨t,k,o⟩:=BZ (hb.drop f.offset) m;split at e
    ·rename_i i r e1 e2;simp only [j,k,Gw d n o e1];cases e;cases i with
     | true=>simpa [NX] using Ji d ha hb e2
     | false=>simp [NX]
    ·cases e
   ·cases e
theorem Mo : ∀ (d:Nat) {n:Nat} {t:TypeId} {a b:List V} {c:Bool} {p q:List PV},VRL X a p->VRL X b q->Ni P d n t a b=some c->Pi.KK P d n t p q=some c
 | 0,_,_,_,_,_,_,_,_,_,e=>by simp [Ni] at e
 | d+1,0,_,_,_,_,_,_,_,_,e=>by simpa [Ni,Pi.KK] using e
 | d+1,n+1,t,a,b,c,p,q,ha,hb,e=>by
  unfold Ni at e;unfold Pi.KK;split at e
  ·rename_i s u v hs i j;obtain ⟨o,g,k⟩:=BZ ha i;obtain ⟨r,h,l⟩:=BZ hb j;split at e
   ·rename_i f m e1 e2;simp only [hs,g,h,Gw d k l e1];cases e;cases f with
    | true=>simpa [NX] using Mo d (ha.drop s) (hb.drop s) e2
    | false=>simp [NX]
   ·cases e
  ·cases e
end
theorem H8 {a:BinOp} {c:Bool} {K:V->Option β} (e:(match a with
  | .eql=>K (.bool c)
  | .neq=>K (.bool (Hf c))
  | _=>none)=some x) {o:Option Bool} (b:o=some c) : ∃ v p,K v=some x/\(match a with
  | .eql=>o.map .bool
  | .neq=>o.map λr => .bool (!r)
  | _=>none)=some p/\VR X v p:=by
 subst b;cases a<;>simp only at e ⊢
 all_goals first
  | (exact ⟨_,_,e,rfl,by simp [VR,Hf]⟩)
  | cases e
theorem F4 {c:BinOp} {ty:TypeId} {p q:PV} (d : ∀ k n f m,¬(p = .int k n/\q = .int f m)) (e : ∀ a b,¬(p = .str a/\q = .str b)):Pi.Il P c ty p q=(match c with
  | .eql=>(Pi.ND P Pi.E6 ty p q).map .bool
  | .neq=>(Pi.ND P Pi.E6 ty p q).map λr => .bool (!r)
  | _=>none):=by
 unfold Pi.Il;split
 ·exact absurd ⟨rfl,rfl⟩ (d _ _ _ _)
 ·exact absurd ⟨rfl,rfl⟩ (e _ _)
 ·rfl
theorem VR.inv {v:V} {p:PV} (h:VR X v p):(∀ k n,p = .int k n->v = .int k n)/\(∀ l,p = .str l->v = .str l)/\(p = .nili->v = .nili)/\(∀ cs,p = .agg cs -> ∃ i,v = .agg i):=by
 cases v with
 | agg cs=>exact ⟨λ_ _ e=>by simp [VR,e] at h,λ_ e=>by simp [VR,e] at h,λe=>by simp [VR,e] at h,λ_ _=>⟨_,rfl⟩⟩
 | ow id =>
  simp only [VR] at h;split at h
  ·subst h;simp
  ·subst h;simp
  ·subst h;simp
  ·exact h.elim
 | lf f g c l =>
  simp only [VR] at h;rcases h with ⟨rfl,_⟩ | ⟨_,_,rfl,_⟩ | ⟨_,_,_,_,_,_,rfl,_⟩<;>simp
 | view cs =>
  simp only [VR] at h;rcases h with ⟨_,rfl,_⟩ | ⟨_,_,_,_,_,_,_,rfl,_⟩<;>simp
 | pl g c l=>simp only [VR] at h;rcases h with ⟨rfl,_⟩ | ⟨_,_,rfl,_⟩<;>simp
 | pv cs=>simp only [VR] at h;obtain ⟨_,rfl,_⟩:=h;simp
 | tup cs=>simp only [VR] at h;obtain ⟨_,rfl,_⟩:=h;simp
 | exl f cs=>simp only [VR] at h;obtain ⟨_,_,rfl,_⟩:=h;simp
 | own a b c=>simp only [VR] at h;obtain ⟨_,_,_,rfl⟩:=h;simp
 | ptr a b=>simp only [VR] at h;obtain ⟨_,_,_,rfl⟩:=h;simp
 | ept a b c=>simp only [VR] at h;obtain ⟨_,_,_,rfl⟩:=h;simp
 | aptr a b c d=>simp only [VR] at h;obtain ⟨_,_,_,rfl,_⟩:=h;simp
 | fn a b c=>simp only [VR] at h;obtain ⟨_,_,rfl,_⟩:=h;simp
 | yl a=>simp only [VR] at h;obtain ⟨_,_,_,rfl⟩:=h;simp
 | mp a=>simp only [VR] at h;obtain ⟨_,_,_,rfl⟩:=h;simp
 | ifc a b=>simp only [VR] at h;obtain ⟨_,rfl,_⟩:=h;simp
 | _=>simp only [VR] at h;subst h;simp
theorem A7 {o:Option PV} {h:Hp} {p:PV} (e:o=some p):Pi.vl o h=some (.val p h):=by rw [e];rfl
theorem Py {h:Hp} {w:BinOp} {ty:TypeId} {y z:Operand} {a b:V} {p q:PV} {K:V->Option β} (i:VR X a p) (j:VR X b q) (e:Qv P w ty y z a b K=some x) :
  ∃ v r,K v=some x/\Pi.DV P h w ty y z p q=some (.val r h)/\VR X v r:=by
 unfold Qv at e;split at e
 ·simp only [VR] at i j;subst i;subst j;split at e
  ·obtain ⟨v,r,d,f,g⟩:=JV (X:=X) e;exact ⟨v,r,d,A7 (by simpa [Pi.Il] using f),g⟩
  ·obtain ⟨v,r,d,f,g⟩:=JV (X:=X) e;exact ⟨v,r,d,A7 (by simpa [Pi.Il] using f),g⟩
  ·rename_i t u;replace e:=AO e;obtain ⟨C,e⟩:=e;obtain ⟨v,r,d,f,g⟩:=QA (X:=X) e;refine ⟨v,r,d,A7 ?_,g⟩;unfold Pi.Il;cases w<;>first | exact absurd rfl t | exact absurd rfl u | (simp only [C,cond_true];exact f)
 ·simp only [VR] at i j;subst i;subst j;obtain ⟨v,r,d,f,g⟩:=QZ (X:=X) e;exact ⟨v,r,d,A7 f,g⟩
 ·replace e:=AO e;obtain ⟨hc,e⟩:=e;obtain ⟨c,d,e⟩:=AE e;obtain ⟨v,r,e1,f,g⟩:=H8 (X:=X) e (Gw 64 i j d);simp only [VR] at i j;subst i;subst j;refine ⟨v,r,e1,?_,g⟩;unfold Pi.DV;simp only [hc,cond_true];exact A7 (by rw [F4 (by simp) (by simp)];exact f)
 ·rename_i I J;replace e:=A9 e;obtain ⟨hc,e⟩:=e;obtain ⟨c,d,e⟩:=AE e;obtain ⟨v,r,e1,f,g⟩:=H8 (X:=X) e (Gw 64 i j d);obtain ⟨M,rfl,A⟩:=i.agg_inv;obtain ⟨N,rfl,B⟩:=j.agg_inv;refine ⟨v,r,e1,?_,g⟩;unfold Pi.DV;simp only [hc,cond_false];exact A7 (by rw [F4 (by simp) (by simp)];exact f)
 ·rename_i t u F G;obtain ⟨c,d,e⟩:=AE e;obtain ⟨v,r,e1,f,g⟩:=H8 (X:=X) e (Gw 64 i j d);refine ⟨v,r,e1,?_,g⟩;have o:=i.inv;have s:=j.inv;unfold Pi.DV;split
  ·exact absurd (s.2.2.1 rfl) (F (o.2.2.1 rfl))
  ·obtain ⟨_,D⟩:=o.2.2.2 _ rfl;obtain ⟨_,E⟩:=s.2.2.2 _ rfl;exact absurd E (G _ _ D)
  ·refine A7 ?_;rw [F4 (λk n L m hh=>t _ _ _ _ (o.1 _ _ hh.1) (s.1 _ _ hh.2)) (λl m hh=>u _ _ (o.2.1 _ hh.1) (s.2.1 _ hh.2))];exact f
theorem RL {c:UnOp} {a:V} {p:PV} {K:V->Option β} (b:VR X a p) (e:Sk c a K=some x) : ∃ v r,K v=some x/\Pi.SD c p=some r/\VR X v r:=by
 unfold Sk at e;split at e
 ·simp only [VR] at b;subst b;split at e
  ·exact ⟨_,_,e,rfl,by simp [VR,Hf]⟩
  ·cases e
 ·simp only [VR] at b;subst b;split at e
  ·exact ⟨_,_,e,rfl,by simp [VR,Rn]⟩
  ·cases e
 ·cases e
theorem NP : ∀ {es:List V} {a:List PV} {K:List UInt8->Option β},VRL Cx.pure es a->Qb es K=some x -> ∃ l,K l=some x/\Pi.RK a=some l
 | [],a,K,hv,e=>by
  simp only [VRL] at hv;subst hv;exact ⟨[],e,rfl⟩
 | v::es,a,K,hv,e=>by
  unfold Qb at e;split at e
  ·rename_i h;cases h
  ·rename_i n l h;cases h;obtain ⟨p,d,rfl,b,c⟩:=hv.cons_inv;simp only [VR] at b;subst b;obtain ⟨l,e1,e2⟩:=NP c e;exact ⟨_,e1,by unfold Pi.RK;rw [e2];rfl⟩
  ·cases e
theorem Ko {h:Hp} {s d:TypeId} {a:V} {p:PV} {K:V->Option β} (b:VR X a p) (e:H4 P s d a K=some x) : ∃ v r,K v=some x/\Pi.BG P h s d p=some (.val r h)/\VR X v r:=by
 unfold H4 at e;unfold Pi.BG;split at e
 ·rename_i c g;simp only [VR] at b;subst b;exact ⟨_,_,e,by simp only [c,g];rfl,by simp [VR,Su]⟩
 ·rename_i c g;simp only [VR] at b;subst b;exact ⟨_,_,e,by simp only [c,g];rfl,by simp [VR]⟩
 ·rename_i f es k c g;split at e
  ·rename_i i;simp only [VR] at b;obtain ⟨m,n,rfl,_,j⟩:=b;obtain ⟨l,e1,e2⟩:=NP j e;exact ⟨_,.str l,e1,by simp only [c,g,i,e2],by simp [VR]⟩
  ·cases e
 ·cases e
theorem P8 {h:Hp} {ty:TypeId} {a:V} {p:PV} {K:V->Option β} (b:VR X a p) (e:Q3 P ty a K=some x) : ∃ v r,K v=some x/\Pi.ET P h ty p=some (.val r h)/\VR X v r:=by
 unfold Q3 at e;unfold Pi.ET;split at e
 ·cases e
 ·rename_i u c hh;refine ⟨_,.ifc ty p,e,?_,by simp only [VR];exact ⟨p,rfl,b⟩⟩;rw [hh];cases u<;>first | exact absurd rfl (c _) | rfl
 ·cases e
theorem QJ {h:Hp} {a:V} {p:PV} {K:V->Option β} (b:VR X a p) (e:Q9 a K=some x) : ∃ v r,K v=some x/\Pi.Ej h p=some (.val r h)/\VR X v r:=by
 unfold Q9 at e;split at e
 ·refine ⟨_,p,e,?_,b⟩;simp only [VR] at b;obtain ⟨_,rfl,_⟩:=b;rfl
 ·refine ⟨_,p,e,?_,b⟩;simp only [VR] at b;obtain ⟨_,_,_,rfl⟩:=b;rfl
 ·refine ⟨_,p,e,?_,b⟩;simp only [VR] at b;obtain ⟨_,_,_,rfl⟩:=b;rfl
 ·refine ⟨_,p,e,?_,b⟩;simp only [VR] at b;rcases b with ⟨_,rfl,_⟩ | ⟨_,_,_,_,_,_,_,rfl,_⟩<;>rfl
 ·refine ⟨_,p,e,?_,b⟩;simp only [VR] at b;obtain ⟨_,rfl,_⟩:=b;rfl
 ·refine ⟨_,p,e,?_,b⟩;simp only [VR] at b;obtain ⟨_,_,_,rfl⟩:=b;rfl
 ·refine ⟨_,p,e,?_,b⟩;simp only [VR] at b;obtain ⟨_,_,rfl,_⟩:=b;rfl
 ·cases e
theorem Nm {h:Hp} {ty:TypeId} {a:V} {p:PV} {f:Nat} {K:V->Option β} (j:VR X a p) (e:MA P ty a f K=some x) : ∃ v r,K v=some x/\Pi.B2 P h ty p f=some (.val r h)/\VR X v r:=by
 unfold MA at e;split at e
 ·rename_i m cs l;obtain ⟨n,rfl,b⟩:=j.agg_inv;split at e
  ·rename_i c k;obtain ⟨v,d,e⟩:=AE e;obtain ⟨r,g,i⟩:=BZ (b.drop c.offset) d;exact ⟨v,r,e,by unfold Pi.B2;simp only [l,k];exact A7 g,i⟩
  ·cases e
 ·cases e
end
end
section
variable [Pi.Gl]
open Go.Proofs.YtfilfloanndddaaGreat.Pi (PV T Hp Blk DF UM PE)
def DFR (X:Cx):DFA->DF->Prop
 | .call f args,d => ∃ c a,d = .call c a/\VR X f c/\VRL X args a
 | .bi b ats ty args,d => ∃ a,d = .bi b ats ty a/\VRL X args a
 | .col id,d => ∃ pid n,X.π id=some (.blk pid n)/\d = .col pid
theorem DFR.mono {X Y:Cx} (u:Up X Y) : ∀ {a:DFA} {d:DF},DFR X a d->DFR Y a d
 | .call _ _,_,⟨f,e,b,c,g⟩=>⟨f,e,b,c.mono u,g.mono u⟩
 | .bi _ _ _ _,_,⟨e,b,c⟩=>⟨e,b,c.mono u⟩
 | .col _,_,⟨pid,n,b,c⟩=>⟨pid,n,u.pi _ _ b,c⟩
def MR (X:Cx) (k:Ty) (g:Bool) (c:Ty) (u:k.den×c.den) (w:PV×PV):Prop:=DP k u.1 [w.1]/\EP g (DR X.h X.Q c) u.2 w.2
def BR (X:Cx):BA->Option At->Prop
 | .box cs fz _,a => ∃ pid n f b,a=some (.blk pid n)/\X.O pid/\X.h.get pid=some (.box f b)/\(fz=false->b=false)/\VRL X cs f
 | .row g c l ex fz _,a=>(∃ pid len es b,a=some (.blk pid len)/\X.O pid/\X.h.get pid=some (.row es ex b)/\(fz=false->b=false)/\es.length=len/\(ex=false->0<len)/\L2 (EP g (DR X.h X.Q c)) l es) \/
   (a=some .nil/\ex=false/\l=[]) \/ ∃ es,a=some (.fz es)/\ex=false/\(fz=true\/l=[])/\L2 (EP g (DP c)) l es
 | .mp k g c l _,a => ∃ pid n es,a=some (.blk pid n)/\X.O pid/\X.h.get pid=some (.mp es)/\L2 (MR X k g c) l es
 | .lp st pend nt t f asg body d,a => ∃ pid n j i m,a=some (.blk pid n)/\X.O pid/\X.h.get pid=some (.lp st pend nt j f asg body i)/\TR X t j/\X.π d=some (.blk i m)/\nt<1048575
 | .df ds,a => ∃ pid n e,a=some (.blk pid n)/\X.O pid/\X.h.get pid=some (.df e)/\(match ds,e with
  | none,none=>True
  | some l,some m=>L2 (DFR X) l m
  | _,_=>False)
 | .dead,a => ∀ pid m,a=some (.blk pid m)->X.O pid/\X.h.get pid=some .dead
theorem EDR.mono {X Y:Cx} (u:Up X Y) {g:Bool} {c:Ty} {l:List c.den} {es:List PV} (h:L2 (EP g (DR X.h X.Q c)) l es):L2 (EP g (DR Y.h Y.Q c)) l es :=
 h.mono λ_ _ k=>k.mono λ_ _ k=>DR.mono u.rows k
theorem BR.keep {X Y:Cx} (u:Up X Y) {b:BA} {a:Option At} (h:BR X b a) (k : ∀ pid n,a=some (.blk pid n)->X.O pid->Y.h.get pid=X.h.get pid/\Y.O pid):BR Y b a:=by
 cases b with
 | box cs fz z =>
  obtain ⟨pid,n,B,r,f,i,q,j,s⟩:=h;obtain ⟨o,p⟩:=k _ _ f i;exact ⟨pid,n,B,r,f,p,by rw [o,q],j,s.mono u⟩
 | row g c l ex fz z =>
  rcases h with ⟨pid,len,es,r,f,i,q,j,s,E,x⟩ | h | h
  ·obtain ⟨o,p⟩:=k _ _ f i;exact .inl ⟨pid,len,es,r,f,p,by rw [o,q],j,s,E,EDR.mono u x⟩
  ·exact .inr (.inl h)
  ·exact .inr (.inr h)
 | mp I g c l z =>
  obtain ⟨pid,n,es,f,i,q,j⟩:=h;obtain ⟨o,p⟩:=k _ _ f i;exact ⟨pid,n,es,f,p,by rw [o,q],j.mono λ_ _ m=>⟨m.1,m.2.mono λ_ _ k=>DR.mono u.rows k⟩⟩
 | lp J A nt t B C y d =>
  obtain ⟨pid,n,F,D,m,f,i,q,j,s,x⟩:=h;obtain ⟨o,p⟩:=k _ _ f i;exact ⟨pid,n,F,D,m,f,p,by rw [o,q],j.mono u,u.pi _ _ s,x⟩
 | df G =>
  obtain ⟨pid,n,w,f,i,q,j⟩:=h;obtain ⟨o,p⟩:=k _ _ f i;refine ⟨pid,n,w,f,p,by rw [o,q],?_⟩;split at j
  ·trivial
  ·exact j.mono λ_ _ m=>m.mono u
  ·exact j.elim
 | dead =>
  intro pid m e;obtain ⟨f,i⟩:=h pid m e;obtain ⟨o,p⟩:=k _ _ e f;exact ⟨p,by rw [o,i]⟩
def BA.live:BA->Prop
 | .dead=>False
 | _=>True
theorem BR.own {X:Cx} {b:BA} {pid n:Nat} (h:BR X b (some (.blk pid n))) (m:b.live):X.O pid:=by
 cases b with
 | box cs fz i=>obtain ⟨_,_,_,_,a,e,_⟩:=h;cases a;exact e
 | row g c l ex fz i =>
  rcases h with ⟨_,_,_,_,a,e,_⟩ | ⟨a,_⟩ | ⟨_,a,_⟩
  ·cases a;exact e
  ·cases a
  ·cases a
 | mp p g c l i=>obtain ⟨_,_,_,a,e,_⟩:=h;cases a;exact e
 | lp r j nt t q k f d=>obtain ⟨_,_,_,_,_,a,e,_⟩:=h;cases a;exact e
 | df o=>obtain ⟨_,_,_,a,e,_⟩:=h;cases a;exact e
 | dead=>exact m.elim
theorem BR.nd {X:Cx} {b:BA} {pid n:Nat} (h:BR X b (some (.blk pid n))) (m:b.live):X.h.get pid≠some .dead:=by
 cases b with
 | box cs fz i=>obtain ⟨_,_,_,_,a,_,e,_⟩:=h;cases a;rw [e];simp
 | row g c l ex fz i =>
  rcases h with ⟨_,_,_,_,a,_,e,_⟩ | ⟨a,_⟩ | ⟨_,a,_⟩
  ·cases a;rw [e];simp
  ·cases a
  ·cases a
 | mp p g c l i=>obtain ⟨_,_,_,a,_,e,_⟩:=h;cases a;rw [e];simp
 | lp r j nt t q k f d=>obtain ⟨_,_,_,_,_,a,_,e,_⟩:=h;cases a;rw [e];simp
 | df o=>obtain ⟨_,_,_,a,_,e,_⟩:=h;cases a;rw [e];simp
 | dead=>exact m.elim
structure RH (X:Cx) (h:H) (n:Nat):Prop where
 blk : ∀ id b,h.get id=some b->BR X b (X.π id)
 inj : ∀ id id' b b' pid m m',h.get id=some b->h.get id'=some b'->b.live->b'.live->X.π id=some (.blk pid m)->X.π id'=some (.blk pid m')->id=id'
 dom : ∀ id a,X.π id=some a->id<n
 fresh : ∀ pid,X.h.nx<=pid->X.h.get pid=none
 ob : ∀ q,X.O q->X.h.get q≠none
theorem AI {h:H} {id:Nat} (a:id<1048575) {b:BA} {k:Nat}:(AG h id b).get k=if k=id then some b else h.get k:=by
 have c:(2:Nat) ^ 20-1=1048575:=by decide
 exact T.get_put 20 h id b k (by omega)
structure St (X:Cx) (h:H) (id idP:Nat) (Y:Cx) (h':H):Prop where
 up:Up X Y
 nx:Y.h.nx=X.h.nx
 pin : ∀ j,j≠id->X.π j=none->Y.π j=none
 hpn : ∀ q,q≠idP->X.h.get q=none->Y.h.get q=none
 lk : ∀ j b,h.get j=some b->b.locked=true->h'.get j=some b
 lps : ∀ q st pe nt t ps asg body d,X.h.get q=some (.lp st pe nt t ps asg body d)->Y.h.get q=some (.lp st pe nt t ps asg body d)
set_option linter.unusedVariables false
theorem St.refl (X:Cx) (h:H) (id idP:Nat):St X h id idP X h:=⟨Up.refl X,rfl,λ_ _ h=>h,λ_ _ h=>h,λ_ _ h _=>h,λ_ _ _ _ _ _ _ _ _ h=>h⟩
theorem St.trans {X Y Z:Cx} {h h' h'':H} {id idP:Nat} (a:St X h id idP Y h') (b:St Y h' id idP Z h''):St X h id idP Z h'' :=
 ⟨a.up.trans b.up,b.nx.trans a.nx,λj c k=>b.pin j c (a.pin j c k),λj c k=>b.hpn j c (a.hpn j c k),λj x k l=>b.lk j x (a.lk j x k l) l,
  λq m g nt t i f e d k=>b.lps _ _ _ _ _ _ _ _ _ (a.lps _ _ _ _ _ _ _ _ _ k)⟩
def DM {α:Type} (f:Nat->α) (i:Nat) (a:α):Nat->α:=λj=>if j=i then a else f j
section
variable {X:Cx} {h:H} {n:Nat}
theorem RH.set (r:RH X h n) {id pid m:Nat} {b b':BA} {bP x:Blk} {c:Hp} (p:id<1048575) (s:h.get id=some b) (z:b.live) (hk:b.locked=false) (L:X.π id=some (.blk pid m)) (f:X.h.get pid=some x)
  (K : ∀ st pe nt t ps w l d,x ≠ .lp st pe nt t ps w l d)
  (e:X.h.set pid bP=some c) (hb : ∀ Y:Cx,Y.π=X.π->Y.h=c->Y.O=X.O->Up X Y->BR Y b' (X.π id)) (M:Nat) :
  ∃ Y:Cx,Y.π=X.π/\Y.h=c/\Y.O=X.O/\RH Y (AG h id b') n /\ ∀ i,St X h i M Y (AG h id b'):=by
 obtain ⟨o,N⟩:=Hp.get_set e;have hO:X.O pid:=(L ▸ r.blk _ _ s).own z
 let Y:Cx:={ π:=X.π,h:=c,O:=X.O }
 have u:Up X Y:=⟨λ_ _ h=>h,λq es ex fz a hg=>⟨⟨fz,by
  show c.get q=_
  rw [o,if_neg (by intro hh;subst hh;exact a hO),hg]⟩,a⟩⟩
 refine ⟨Y,rfl,rfl,rfl,⟨λi D hi => ?_,λi S D bb' q m1 m2 hi g W Z => ?_,r.dom,λq a => ?_,λq a=>by
  show c.get q≠none;rw [o];split
  ·simp
  ·exact r.ob _ a⟩,λi=>⟨u,N,λ_ _ h=>h,λq a P => ?_,λj D J A => ?_,λq st pe nt t ps w l d a => ?_⟩⟩
 ·rw [AI p] at hi;by_cases k:i=id
  ·rw [if_pos k] at hi;cases hi;subst k;exact hb Y rfl rfl rfl u
  ·rw [if_neg k] at hi;by_cases B:D.live
   ·refine (r.blk _ _ hi).keep u λq m' a I=>⟨?_,I⟩;show c.get q=_;rw [o,if_neg];intro hh;subst hh;exact k (r.inj _ _ _ _ _ _ _ hi s B z a L)
   ·cases D with
    | dead =>
     intro q m' a;obtain ⟨k1,U⟩:=r.blk _ _ hi q m' a;refine ⟨k1,?_⟩;show c.get q=_;rw [o,if_neg]
     ·exact U
     ·intro hh;subst hh;exact (L ▸ r.blk _ _ s).nd z U
    | _=>exact absurd trivial B
 ·rw [AI p] at hi g;by_cases G:i=id
  ·by_cases y:S=id
   ·intro _ _;rw [G,y]
   ·rw [if_neg y] at g;subst G;intro E F;exact r.inj _ _ _ _ _ _ _ s g z Z E F
  ·rw [if_neg G] at hi;by_cases y:S=id
   ·subst y;intro E F;exact r.inj _ _ _ _ _ _ _ hi s W z E F
   ·rw [if_neg y] at g;exact r.inj _ _ _ _ _ _ _ hi g W Z
 ·show c.get q=none;have C:X.h.nx<=q:=by rw [<- N];exact a
  rw [o,if_neg (by intro hh;subst hh;rw [r.fresh _ C] at f;cases f)];exact r.fresh _ C
 ·show c.get q=none;rw [o,if_neg (by intro hh;subst hh;rw [P] at f;cases f)];exact P
 ·rw [AI p];rw [if_neg (by intro hh;subst hh;rw [s] at J;cases J;rw [hk] at A;cases A)];exact J
 ·show c.get q=_;rw [o,if_neg (by intro hh;subst hh;rw [f] at a;exact K _ _ _ _ _ _ _ _ (Option.some.inj a))];exact a
theorem RH.new (r:RH X h n) {id pid m:Nat} {b:BA} {bP:Blk} {z:Hp} (G:id<1048575) (Z:id<n) (hp:X.π id=none) (hlt:pid<X.h.nx)
  (e:X.h.new pid bP=some z) (hb : ∀ Y:Cx,Y.π=Sv.DM X.π id (some (.blk pid m))->Y.h=z->(∀ q,Y.O q<->X.O q\/q=pid)->Up X Y->BR Y b (some (.blk pid m))) :
  ∃ Y:Cx,Y.π=Sv.DM X.π id (some (.blk pid m))/\Y.h=z/\RH Y (AG h id b) n/\St X h id pid Y (AG h id b):=by
 obtain ⟨D,E,g2⟩:=Hp.get_new e
 let Y:Cx:={ π:=Sv.DM X.π id (some (.blk pid m)),h:=z,O:=λq=>X.O q\/q=pid }
 have o : ∀ j,j≠id->Y.π j=X.π j:=λj y=>if_neg y;have C:Y.π id=some (.blk pid m):=if_pos rfl
 have u:Up X Y:=⟨λj a y=>by
  rw [o j (by intro hh;subst hh;rw [hp] at y;cases y)];exact y,λq es ex fz hq A=>by
  have P:q≠pid:=by intro hh;subst hh;rw [D] at A;cases A
  exact ⟨⟨fz,by show z.get q=_;rw [E,if_neg P,A]⟩,λhO=>hO.elim hq P⟩⟩
 have I:h.get id=none \/ ∃ p,h.get id=some p /\ ¬ p.live:=by
  cases A:h.get id with
  | none=>exact .inl rfl
  | some p =>
   refine .inr ⟨p,rfl,λM => ?_⟩;have:=r.blk _ _ A;rw [hp] at this;cases p<;>first | exact M | (simp [BR] at this)
 have w : ∀ {i:Nat} {p:BA} {m1:Nat},h.get i=some p->p.live->X.π i=some (.blk pid m1)->False:=by
  intro i p m1 A M hpp;have:=r.blk _ _ A;rw [hpp] at this;cases p with
  | dead=>exact M
  | box cs fz lk=>obtain ⟨_,_,_,_,f,_,x,_⟩:=this;cases f;rw [D] at x;cases x
  | row g c l ex fz lk =>
   rcases this with ⟨_,_,_,_,f,_,x,_⟩ | ⟨f,_⟩ | ⟨_,f,_⟩
   ·cases f;rw [D] at x;cases x
   ·cases f
   ·cases f
  | mp kk g c l lk=>obtain ⟨_,_,_,f,_,x,_⟩:=this;cases f;rw [D] at x;cases x
  | lp st pend nt t ps S L d=>obtain ⟨_,_,_,_,_,f,_,x,_⟩:=this;cases f;rw [D] at x;cases x
  | df ds=>obtain ⟨_,_,_,f,_,x,_⟩:=this;cases f;rw [D] at x;cases x
 refine ⟨Y,rfl,rfl,⟨λi p hi => ?_,λi i' p bb' q m1 m2 hi B l1 l2 J K => ?_,λi a hi => ?_,λq hq => ?_,λq hq=>by
  show z.get q≠none;rw [E];split
  ·simp
  ·rcases hq with hq | hq
   ·exact r.ob _ hq
   ·exact absurd hq ‹_›⟩,⟨u,g2,λj y k=>by rw [o j y];exact k,λq hq Z => ?_,λj p y W => ?_,λq st pe nt t ps S L d hq => ?_⟩⟩
 ·rw [AI G] at hi;by_cases s:i=id
  ·rw [if_pos s] at hi;cases hi;subst s;rw [C];exact hb Y rfl rfl (λq=>Iff.rfl) u
  ·rw [if_neg s] at hi;rw [o i s];by_cases N:p.live
   ·refine (r.blk _ _ hi).keep u λq m' hq U=>⟨?_,.inl U⟩;show z.get q=_;rw [E,if_neg];intro hh;subst hh;exact w hi N hq
   ·cases p with
    | dead =>
     intro q m' hq;obtain ⟨k1,k2⟩:=r.blk _ _ hi q m' hq;refine ⟨.inl k1,?_⟩;show z.get q=_;rw [E,if_neg (by intro hh;subst hh;rw [D] at k2;cases k2)];exact k2
    | _=>exact absurd trivial N
 ·rw [AI G] at hi B;by_cases f:i=id
  ·by_cases F:i'=id
   ·rw [f,F]
   ·rw [if_neg F] at B;subst f;rw [C] at J;cases J;exact (w B l2 (o _ F ▸ K)).elim
  ·rw [if_neg f] at hi;by_cases F:i'=id
   ·subst F;rw [C] at K;cases K;exact (w hi l1 (o _ f ▸ J)).elim
   ·rw [if_neg F] at B;rw [o _ f] at J;rw [o _ F] at K;exact r.inj _ _ _ _ _ _ _ hi B l1 l2 J K
 ·by_cases s:i=id
  ·rw [s];exact Z
  ·rw [o i s] at hi;exact r.dom _ _ hi
 ·show z.get q=none;have hq':X.h.nx<=q:=by rw [<- g2];exact hq
  rw [E,if_neg (by omega)];exact r.fresh _ hq'
 ·show z.get q=none;rw [E,if_neg hq];exact Z
 ·rw [AI G,if_neg]
  ·exact y
  ·intro hh;subst hh;rcases I with A | ⟨b0,A,M⟩
   ·rw [A] at y;cases y
   ·rw [A] at y;cases y;cases p with
    | dead=>cases W
    | _=>exact absurd trivial M
 ·show z.get q=_;rw [E,if_neg (by intro hh;subst hh;rw [D] at hq;cases hq)];exact hq
end
end
section
variable [Pi.Gl]
open Go.Proofs.YtfilfloanndddaaGreat.Pi (PV T Hp Blk DF UM PE)
section
variable {X:Cx} {h:H} {n:Nat}
theorem RH.alias (r:RH X h n) {id:Nat} {b:BA} {a:At} (s:id<1048575) (E:id<n) (I:X.π id=none) (L : ∀ pid m,a ≠ .blk pid m) (M : ∀ Y:Cx,Up X Y->BR Y b (some a)) (F:Nat) :
  ∃ Y:Cx,Y.π=Sv.DM X.π id (some a)/\Y.h=X.h/\RH Y (AG h id b) n/\St X h id F Y (AG h id b):=by
 let Y:Cx:={ π:=Sv.DM X.π id (some a),h:=X.h,O:=X.O }
 have f : ∀ j,j≠id->Y.π j=X.π j:=λj g=>if_neg g;have o:Y.π id=some a:=if_pos rfl
 have u:Up X Y:=⟨λj a g=>by
  rw [f j (by intro hh;subst hh;rw [I] at g;cases g)];exact g,λq es ex fz x C=>⟨⟨fz,C⟩,x⟩⟩
 have w : ∀ l,h.get id=some l -> ¬ l.live:=λl C N=>by
  have:=r.blk _ _ C;rw [I] at this;cases l<;>first | exact N | (simp [BR] at this)
 refine ⟨Y,rfl,rfl,⟨λi l hi => ?_,λi U l K q Z m2 hi p P S y z => ?_,λi a hi => ?_,r.fresh,r.ob⟩,⟨u,rfl,λj g k=>by rw [f j g];exact k,λq x E=>E,λj l g D => ?_,λq st pe nt t ps J G d x=>x⟩⟩
 ·rw [AI s] at hi;by_cases c:i=id
  ·rw [if_pos c] at hi;cases hi;subst c;rw [o];exact M Y u
  ·rw [if_neg c] at hi;rw [f i c];exact (r.blk _ _ hi).keep u λq W x B=>⟨rfl,B⟩
 ·rw [AI s] at hi p
  have A : ∀ {i:Nat} {q m:Nat},Y.π i=some (.blk q m)->i≠id:=λhh e=>by
   subst e;rw [o] at hh;exact L _ _ (Option.some.inj hh)
  rw [if_neg (A y)] at hi;rw [if_neg (A z)] at p;rw [f _ (A y)] at y;rw [f _ (A z)] at z;exact r.inj _ _ _ _ _ _ _ hi p P S y z
 ·by_cases c:i=id
  ·rw [c];exact E
  ·rw [f i c] at hi;exact r.dom _ _ hi
 ·rw [AI s,if_neg]
  ·exact g
  ·intro hh;subst hh;have:=w _ g;cases l<;>first | exact absurd trivial this | cases D
theorem RH.dead (r:RH X h n) {j:Nat} {b:BA} (f:j<1048575) (A:h.get j=some b) (B:b.locked=false) (l : ∀ pid m,X.π j≠some (.blk pid m)) (o:Nat):RH X (AG h j .dead) n /\ ∀ i,St X h i o X (AG h j .dead):=by
 refine ⟨⟨λi c hi => ?_,λi E c z q F G hi g s u w x => ?_,r.dom,r.fresh,r.ob⟩,λi=>⟨Up.refl X,rfl,λ_ _ h=>h,λ_ _ h=>h,λi c hi k => ?_,λq K I nt t J y p d D=>D⟩⟩
 ·rw [AI f] at hi;by_cases a:i=j
  ·rw [if_pos a] at hi;cases hi;subst a;exact λpid m e=>absurd e (l _ _)
  ·rw [if_neg a] at hi;exact r.blk _ _ hi
 ·rw [AI f] at hi g
  have nd : ∀ {i:Nat} {c:BA},(if i=j then some BA.dead else h.get i)=some c->c.live->h.get i=some c:=fun {i c} e C=>by
   by_cases a:i=j
   ·rw [if_pos a] at e;cases e;exact C.elim
   ·rw [if_neg a] at e;exact e
  exact r.inj _ _ _ _ _ _ _ (nd hi s) (nd g u) s u w x
 ·rw [AI f,if_neg]
  ·exact hi
  ·intro hh;subst hh;rw [A] at hi;cases hi;rw [B] at k;cases k
end
def DX (h:Hp) (Q d:Nat->Prop):(c:Ty)->c.den->List PV->Prop
 | .int k,n,ps=>ps=[.int k n]
 | .bool,b,ps=>ps=[.bool b]
 | .str,s,ps=>ps=[.str s]
 | .unit,_,ps=>ps=[]
 | .pair a b,x,ps => ∃ p q,ps=p++q/\DX h Q d a x.1 p/\DX h Q d b x.2 q
 | .sl g c,l,ps => ∃ p,ps=[p]/\((p = .nils/\l=[])\/(∃ f es,p = .lst f es/\L2 (EP g (DP c)) l es) \/
   ∃ pid off len es ex fz,p = .own pid off len/\Q pid/\h.get pid=some (.row es ex fz)/\off+len<=es.length/\Pi.Cb c.wd es=true/\L2 (EP g (DR h d c)) l ((es.drop off).take len))
theorem DX.same {h:Hp} {Q:Nat->Prop} : ∀ {c:Ty} {x:c.den} {a:List PV},DX h Q Q c x a->DR h Q c x a
 | .int _,_,_,e=>e
 | .bool,_,_,e=>e
 | .str,_,_,e=>e
 | .unit,_,_,e=>e
 | .pair _ _,_,_,⟨p,q,e,b,d⟩=>⟨p,q,e,DX.same b,DX.same d⟩
 | .sl _ _,_,_,h=>h
theorem DR.pure {Q:Nat->Prop} : ∀ {c:Ty} {x:c.den} {d:List PV},DR Dg Q c x d->DP c x d
 | .int _,_,_,e=>e
 | .bool,_,_,e=>e
 | .str,_,_,e=>e
 | .unit,_,_,e=>e
 | .pair _ _,_,_,⟨p,q,e,a,b⟩=>⟨p,q,e,DR.pure a,DR.pure b⟩
 | .sl _ _,_,_,⟨p,e,h⟩=>⟨p,e,by
  rcases h with h | h | ⟨pid,off,len,es,ex,fz,a,b,f,g,i⟩
  ·exact .inl h
  ·exact .inr h
  ·cases f⟩
theorem DX.pure {Q f:Nat->Prop} : ∀ {c:Ty} {x:c.den} {d:List PV},DX Dg Q f c x d->DP c x d
 | .int _,_,_,e=>e
 | .bool,_,_,e=>e
 | .str,_,_,e=>e
 | .unit,_,_,e=>e
 | .pair _ _,_,_,⟨p,q,e,a,b⟩=>⟨p,q,e,DX.pure a,DX.pure b⟩
 | .sl _ _,_,_,⟨p,e,h⟩=>⟨p,e,by
  rcases h with h | h | ⟨pid,off,len,es,ex,fz,a,b,g,i,j⟩
  ·exact .inl h
  ·exact .inr h
  ·cases g⟩
theorem DR.leaf : ∀ {hh:Hp} {Q:Nat->Prop} {c:Ty} {y:c.den} {d:List PV},DR hh Q c y d -> ∀ p∈d,(∀ cs,p ≠ .agg cs)/\(∀ cs,p ≠ .tup cs)/\p.cells=[p]
 | _,_,.int _,_,_,e,p,hp=>by subst e;simp at hp;subst hp;simp [PV.cells]
 | _,_,.bool,_,_,e,p,hp=>by subst e;simp at hp;subst hp;simp [PV.cells]
 | _,_,.str,_,_,e,p,hp=>by subst e;simp at hp;subst hp;simp [PV.cells]
 | _,_,.unit,_,_,e,p,hp=>by subst e;simp at hp
 | _,_,.pair _ _,_,_,⟨a,b,e,g,i⟩,p,hp=>by
  subst e;rcases List.mem_append.1 hp with hp | hp
  ·exact g.leaf p hp
  ·exact i.leaf p hp
 | _,_,.sl _ _,_,_,⟨a,e,h⟩,p,hp=>by
  subst e;simp at hp;subst hp;rcases h with ⟨rfl,_⟩ | ⟨f,es,rfl,_⟩ | ⟨pid,off,len,es,ex,fz,rfl,_⟩<;>simp [PV.cells]
theorem EP.cells {g:Bool} {hh:Hp} {Q:Nat->Prop} {c:Ty} {y:c.den} {e:PV} (h:EP g (DR hh Q c) y e):DR hh Q c y e.cells:=by
 cases g with
 | true=>obtain ⟨cs,rfl,h⟩:=h;exact h
 | false =>
  have h':DR hh Q c y [e]:=h;rw [(h'.leaf e (by simp)).2.2];exact h'
theorem DR.wd : ∀ {hh:Hp} {Q:Nat->Prop} {c:Ty} {y:c.den} {d:List PV},DR hh Q c y d->d.length=c.wd
 | _,_,.int _,_,_,e=>by subst e;rfl
 | _,_,.bool,_,_,e=>by subst e;rfl
 | _,_,.str,_,_,e=>by subst e;rfl
 | _,_,.unit,_,_,e=>by subst e;rfl
 | _,_,.pair _ _,_,_,⟨a,b,e,f,g⟩=>by subst e;rw [List.length_append,f.wd,g.wd];rfl
 | _,_,.sl _ _,_,_,⟨a,e,h⟩=>by subst e;rfl
theorem EP.wd {g:Bool} {hh:Hp} {Q:Nat->Prop} {c:Ty} {y:c.den} {e:PV} (h:EP g (DR hh Q c) y e):e.cells.length=c.wd:=h.cells.wd
theorem Av {g:Bool} {hh:Hp} {Q:Nat->Prop} {c:Ty} {l:List c.den} {es:List PV} {b:Nat} (hs:b=c.wd) (h:L2 (EP g (DR hh Q c)) l es):Pi.Cb b es=true:=by
 cases h with
 | nil=>rfl
 | cons a _=>simp only [Pi.Cb,a.wd];simp [hs]
theorem EP.agg_inv {α:Type} {D:α->List PV->Prop} {x:α} {e:PV} (h:EP true D x e) : ∃ cs,e = .agg cs/\D x cs:=h
section
variable {β:Type} {x:β}
theorem Kr {α:Type} {d:V->(α->Option β)->Option β} {X:Cx} {R:α->PV->Prop} (b : ∀ {v:V} {p:PV} {K:α->Option β},VR X v p->d v K=some x -> ∃ y,K y=some x/\R y p) :
  ∀ {vs:List V} {c:List PV} {K:List α->Option β},VRL X vs c->OX d vs K=some x -> ∃ a,K a=some x/\L2 R a c
 | [],_,K,h,e=>by rw [h.nil_inv];exact ⟨[],e,.nil⟩
 | v::vs,_,K,h,e=>by
  obtain ⟨p,k,rfl,f,g⟩:=h.cons_inv;obtain ⟨y,e1,i⟩:=b f e;obtain ⟨a,e2,j⟩:=Kr b g e1;exact ⟨y::a,e2,.cons i j⟩
theorem J3 {α:Type} {R:α->PV->Prop} {l:List α} {es:List PV} (h:L2 R l es) (off len:Nat):L2 R (Dy l off (BD off len)) ((es.drop off).take len):=by
 unfold Dy BD;rw [show off+len-off=len from by omega];exact (h.drop off).take len
theorem HU : ∀ (a b:List V),FO (a++b)=FO a++FO b
 | [],b=>rfl
 | v::a,b=>by
  have c:=HU a b;cases v<;>simp [FO,c]
theorem Oo {id:Nat} {v:V} (h:id∈FO [v]):id∈FO v.cells:=by
 cases v<;>first | exact h | (simp [FO] at h)
theorem C2 : ∀ {c:Ty} {X:Cx} {h:H} {Q:Nat->Prop} {vs:List V} {A:List PV} {K:c.den->List V->Option β},
  (∀ id b a,h.get id=some b->X.π id=some a->BR X b (some a))->(∀ id b pid m,id∈FO vs->h.get id=some b->X.π id=some (.blk pid m)->Q pid)->(∀ pid,X.Q pid->Q pid) ->
  VRL X vs A->Dp h c vs K=some x -> ∃ y r p q,K y r=some x/\A=p++q/\DX X.h Q X.Q c y p/\VRL X r q /\ ∃ s,vs=s++r
 | .int k,X,h,Q,vs,A,K,hb,hq,hQ,i,e=>by
  unfold Dp at e;split at e
  ·replace e:=AO e;obtain ⟨hk,e⟩:=e;obtain ⟨p,o,rfl,d,j⟩:=i.cons_inv;simp only [VR] at d;subst d;have:=eq_of_beq hk;subst this;exact ⟨_,_,[_],o,e,rfl,rfl,j,[_],rfl⟩
  ·cases e
 | .bool,X,h,Q,vs,A,K,hb,hq,hQ,i,e=>by
  unfold Dp at e;split at e
  ·obtain ⟨p,o,rfl,d,j⟩:=i.cons_inv;simp only [VR] at d;subst d;exact ⟨_,_,[_],o,e,rfl,rfl,j,[_],rfl⟩
  ·cases e
 | .str,X,h,Q,vs,A,K,hb,hq,hQ,i,e=>by
  unfold Dp at e;split at e
  ·obtain ⟨p,o,rfl,d,j⟩:=i.cons_inv;simp only [VR] at d;subst d;exact ⟨_,_,[_],o,e,rfl,rfl,j,[_],rfl⟩
  ·cases e
 | .unit,X,h,Q,vs,A,K,hb,hq,hQ,i,e=>by
  unfold Dp at e;exact ⟨(),vs,[],A,e,rfl,rfl,i,[],rfl⟩
 | .pair a b,X,h,Q,vs,A,K,hb,hq,hQ,i,e=>by
  unfold Dp at e;obtain ⟨y,r,p,q,e1,rfl,F,D,s1,rfl⟩:=C2 hb hq hQ i e;obtain ⟨z,r',S,q',e2,rfl,U,r2,s2,rfl⟩:=C2 hb (λid b pid m hi=>hq id b pid m (by rw [HU];exact List.mem_append_right _ hi)) hQ D e1;exact ⟨(y,z),r',p++S,q',e2,by simp,⟨p,S,rfl,F,U⟩,r2,s1++s2,by simp⟩
 | .sl g c,X,h,Q,vs,A,K,hb,hq,hQ,i,e=>by
  unfold Dp at e;split at e
  ·obtain ⟨p,o,rfl,d,j⟩:=i.cons_inv;simp only [VR] at d;subst d;exact ⟨[],_,[_],o,e,rfl,⟨_,rfl,.inl ⟨rfl,rfl⟩⟩,j,[_],rfl⟩
  ·rename_i L J l r;replace e:=AO e;obtain ⟨u,e⟩:=e;have:=eq_of_beq u;subst this;obtain ⟨hc,e⟩:=A3 e;subst hc;obtain ⟨p,o,rfl,d,j⟩:=i.cons_inv;refine ⟨l,_,[p],o,e,rfl,⟨p,rfl,?_⟩,j,[_],rfl⟩;simp only [VR] at d;rcases d with d | ⟨f,es,d,_,C⟩ | ⟨pid,off,len,es,ex,fz,d,_,C,Y,I,h8,Z⟩
   ·exact .inl d
   ·exact .inr (.inl ⟨f,es,d,C⟩)
   ·exact .inr (.inr ⟨pid,off,len,es,ex,fz,d,hQ _ C,Y,I,h8,Z⟩)
  ·rename_i L J l r;replace e:=AO e;obtain ⟨u,e⟩:=e;have:=eq_of_beq u;subst this;obtain ⟨hc,e⟩:=A3 e;subst hc;obtain ⟨p,o,rfl,d,j⟩:=i.cons_inv;refine ⟨l,_,[p],o,e,rfl,⟨p,rfl,?_⟩,j,[_],rfl⟩;simp only [VR] at d;rcases d with d | ⟨f,es,d,C⟩
   ·exact .inl d
   ·exact .inr (.inl ⟨f,es,d,C⟩)
  ·rename_i f es r;obtain ⟨p,o,rfl,d,j⟩:=i.cons_inv;simp only [VR] at d;obtain ⟨W,A,rfl,_,C⟩:=d
   obtain ⟨ys,e1,D⟩:=Kr (X:=Cx.pure) (R:=EP g (DP c)) (fun {v p K'} i e=>by
    rcases Bw e with ⟨u,e⟩ | ⟨u,e⟩
    ·subst u;split at e
     ·obtain ⟨cs,rfl,N⟩:=i.agg_inv;obtain ⟨y,r,p,q,e1,rfl,F,D,_⟩:=C2 (c:=c) (Q:=λ_=>True) (λ_ _ _ _ h=>(by cases h)) (λ_ _ _ _ _ _ h=>(by cases h)) (λ_ _=>trivial) N e;split at e1
      ·rw [D.nil_inv];exact ⟨y,e1,_,rfl,by rw [List.append_nil];exact F.pure⟩
      ·cases e1
     ·cases e
    ·subst u;obtain ⟨y,r,p,q,e1,I,F,D,_⟩:=C2 (c:=c) (Q:=λ_=>True) (λ_ _ _ _ h=>(by cases h)) (λ_ _ _ _ _ _ h=>(by cases h)) (λ_ _=>trivial) (VRL.cons i .nil) e;split at e1
     ·rw [D.nil_inv,List.append_nil] at I;subst I;exact ⟨y,e1,F.pure⟩
     ·cases e1) C e
   exact ⟨ys,_,[_],o,e1,rfl,⟨_,rfl,.inr (.inl ⟨W,A,rfl,D⟩)⟩,j,[_],rfl⟩
  ·rename_i id r;split at e
   ·rename_i L J l ex fz lk n;replace e:=AO e;obtain ⟨u,e⟩:=e;have:=eq_of_beq u;subst this;obtain ⟨hc,e⟩:=A3 e;subst hc;obtain ⟨p,o,rfl,d,j⟩:=i.cons_inv;refine ⟨l,_,[p],o,e,rfl,⟨p,rfl,?_⟩,j,[_],rfl⟩;simp only [VR] at d;cases t:X.π id with
    | none=>rw [t] at d;exact d.elim
    | some a =>
     rw [t] at d;rcases hb _ _ _ n t with ⟨pid,len,es,B,w,G,O,k4,k5,k7,E⟩ | ⟨w,_,G⟩ | ⟨es,w,_,_,G⟩
     ·cases w;simp only at d;subst d;refine .inr (.inr ⟨pid,0,len,es,ex,B,rfl,hq _ _ _ _ (by simp [FO]) n t,O,by omega,Av rfl E,?_⟩);rw [List.drop_zero,List.take_of_length_le (by omega)];exact E
     ·cases w;simp only at d;exact .inl ⟨d,G⟩
     ·cases w;simp only at d;exact .inr (.inl ⟨true,es,d,G⟩)
   ·cases e
  ·rename_i id off len r;split at e
   ·rename_i L J l ex fz lk n;replace e:=AO e;obtain ⟨u,e⟩:=e;have:=eq_of_beq u;subst this;obtain ⟨M,e⟩:=AJ e;obtain ⟨hc,e⟩:=A3 e;subst hc;obtain ⟨p,o,rfl,d,j⟩:=i.cons_inv;refine ⟨_,_,[p],o,e,rfl,⟨p,rfl,?_⟩,j,[_],rfl⟩;simp only [VR] at d;obtain ⟨pid,m,t,rfl⟩:=d;rcases hb _ _ _ n t with ⟨pid,P,es,B,w,G,O,k4,k5,k7,E⟩ | ⟨w,_⟩ | ⟨es,w,_⟩
    ·cases w;refine .inr (.inr ⟨_,off,len,es,ex,B,rfl,hq _ _ _ _ (by simp [FO]) n t,O,?_,Av rfl E,?_⟩)
     ·rw [<- E.length];simpa [CD,BD,AS] using M
     ·exact J3 E off len
    ·cases w
    ·cases w
   ·cases e
  ·cases e
theorem GG {c:Ty} {X:Cx} {vs:List V} {a:List PV} {K:c.den->List V->Option β} (i:VRL X vs a) (e:Dp .lf c vs K=some x) : ∃ y r p q,K y r=some x/\a=p++q/\DR X.h X.Q c y p/\VRL X r q :=
 by
 obtain ⟨y,r,p,q,b,d,f,g,_⟩:=C2 (Q:=X.Q) (λ_ _ _ h=>(by cases h)) (λ_ _ _ _ _ h=>(by cases h)) (λ_ h=>h) i e;exact ⟨y,r,p,q,b,d,f.same,g⟩
theorem Ee {g:Bool} {c:Ty} {X:Cx} {v:V} {p:PV} {K:c.den->Option β} (j:VR X v p) (e:GH .lf g c v K=some x) : ∃ y,K y=some x/\EP g (DR X.h X.Q c) y p:=by
 unfold GH at e;rcases Bw e with ⟨b,e⟩ | ⟨b,e⟩
 ·subst b;split at e
  ·obtain ⟨cs,rfl,d⟩:=j.agg_inv;obtain ⟨y,r,p,q,e1,rfl,a,f⟩:=GG d e;split at e1
   ·rw [f.nil_inv];exact ⟨y,e1,_,rfl,by rw [List.append_nil];exact a⟩
   ·cases e1
  ·cases e
 ·subst b;obtain ⟨y,r,p,q,e1,i,a,f⟩:=GG (VRL.cons j .nil) e;split at e1
  ·rw [f.nil_inv,List.append_nil] at i;subst i;exact ⟨y,e1,a⟩
  ·cases e1
theorem GI {g:Bool} {c:Ty} {X:Cx} {h:H} {n:Nat} {Q:Nat->Prop} (r:RH X h n) {v:V} {p:PV} {K:c.den->Option β} (t : ∀ id pid m,id∈FO v.cells->X.π id=some (.blk pid m)->Q pid) (o : ∀ pid,X.Q pid->Q pid) (u:VR X v p) (e:GH h g c v K=some x) : ∃ y,K y=some x/\EP g (DX X.h Q X.Q c) y p:=by
 unfold GH at e;have s : ∀ id b a,h.get id=some b->X.π id=some a->BR X b (some a):=λid b a w z=>z ▸ r.blk _ _ w;rcases Bw e with ⟨f,e⟩ | ⟨f,e⟩
 ·subst f;split at e
  ·obtain ⟨cs,rfl,j⟩:=u.agg_inv;obtain ⟨y,r,p,q,e1,rfl,d,k,_⟩:=C2 (Q:=Q) s (λid b pid m hi _ i=>t id pid m hi i) o j e;split at e1
   ·rw [k.nil_inv];exact ⟨y,e1,_,rfl,by rw [List.append_nil];exact d⟩
   ·cases e1
  ·cases e
 ·subst f;obtain ⟨y,r,p,q,e1,l,d,k,_⟩:=C2 (Q:=Q) s (λid b pid m hi _ i=>t id pid m (Oo hi) i) o (VRL.cons u .nil) e;split at e1
  ·rw [k.nil_inv,List.append_nil] at l;subst l;exact ⟨y,e1,d⟩
  ·cases e1
theorem I6 {g:Bool} {c:Ty} {X:Cx} {h:H} {n:Nat} (r:RH X h n) {v:V} {p:PV} {K:List c.den->Option β} (y:VR X v p) (e:Jh h g c v K=some x) :
  ∃ l es,K l=some x/\Pi.BS X.h p=some es/\L2 (EP g (DR X.h X.Q c)) l es:=by
 unfold Jh at e;have w : ∀ id b a,h.get id=some b->X.π id=some a->BR X b (some a):=λid b a t u=>u ▸ r.blk _ _ t;obtain ⟨l,C,A,q,e1,i,d,B,_⟩:=C2 (Q:=λ_=>True) w (λ_ _ _ _ _ _ _=>trivial) (λ_ _=>trivial) (VRL.cons y .nil) e;obtain ⟨z,rfl,d⟩:=d
 have:p=z:=by
  cases q with
  | nil=>simpa using i
  | cons=>simp at i
 subst this;rcases d with ⟨rfl,rfl⟩ | ⟨f,es,rfl,j⟩ | ⟨pid,off,len,es,ex,fz,rfl,_,m,o,_,s⟩
 ·exact ⟨[],[],e1,rfl,.nil⟩
 ·exact ⟨l,es,e1,rfl,j.mono λ_ _ k=>k.mono λ_ _ k=>k.up⟩
 ·refine ⟨l,_,e1,?_,s⟩;unfold Pi.BS;simp only [m];have:Nat.ble (off+len) es.length=true:=by simpa using o
  rw [this];rfl
end
end
section
variable [Pi.Gl]
open Go.Proofs.YtfilfloanndddaaGreat.Pi (PV T Hp Blk DF UM PE AM AT)
section
variable {X:Cx} {h:H} {n:Nat} {β:Type} {x:β} {P:Program}
theorem C9 : ∀ {c:Ty} {y:c.den} {d:List PV},DR X.h X.Q c y d->VRL X (cells c y) d
 | .int _,_,_,e=>by subst e;exact .cons (by simp [VR]) .nil
 | .bool,_,_,e=>by subst e;exact .cons (by simp [VR]) .nil
 | .str,_,_,e=>by subst e;exact .cons (by simp [VR]) .nil
 | .unit,_,_,e=>by subst e;exact .nil
 | .pair _ _,_,_,⟨p,q,e,a,b⟩=>by subst e;exact (C9 a).append (C9 b)
 | .sl _ _,_,_,⟨p,e,h⟩=>by
  subst e;refine .cons ?_ .nil;simp only [VR];rcases h with h | ⟨f,es,a,b⟩ | ⟨pid,off,len,es,ex,fz,a,b,g,i,k,j⟩
  ·exact .inl h
  ·exact .inr (.inl ⟨f,es,a,by simp,b⟩)
  ·exact .inr (.inr ⟨pid,off,len,es,ex,fz,a,by simp,b,g,i,k,j⟩)
theorem Fo {g:Bool} {c:Ty} {y:c.den} {e:PV} (h:EP g (DR X.h X.Q c) y e):VR X (Nd g c y) e:=by
 cases g with
 | true=>obtain ⟨cs,rfl,h⟩:=h;simp only [Nd,cond_true,VR];exact ⟨cs,rfl,C9 h⟩
 | false =>
  have:=C9 (X:=X) (show DR X.h X.Q c y [e] from h);unfold Nd;simp only [cond_false];have b:=this.length;split
  ·rename_i v j;rw [j] at this;obtain ⟨p,k,f,i,_⟩:=this.cons_inv;cases f;exact i
  ·rename_i d;cases hc:cells c y with
   | nil=>rw [hc] at b;simp at b
   | cons a l=>cases l with
    | nil=>exact absurd hc (d _)
    | cons=>rw [hc] at b;simp at b
theorem E5 : ∀ {c:Ty} {y:c.den} {a:List PV},DP c y a->VRL X (Gr c y) a
 | .int _,_,_,e=>by subst e;exact .cons (by simp [VR]) .nil
 | .bool,_,_,e=>by subst e;exact .cons (by simp [VR]) .nil
 | .str,_,_,e=>by subst e;exact .cons (by simp [VR]) .nil
 | .unit,_,_,e=>by subst e;exact .nil
 | .pair _ _,_,_,⟨p,q,e,b,d⟩=>by subst e;exact (E5 b).append (E5 d)
 | .sl _ _,_,_,⟨p,e,h⟩=>by
  subst e;refine .cons ?_ .nil;simp only [VR];exact h
theorem DE {g:Bool} {c:Ty} {y:c.den} {e:PV} (h:EP g (DP c) y e):VR X (elP g c y) e:=by
 cases g with
 | true=>obtain ⟨cs,rfl,h⟩:=h;simp only [elP,cond_true,VR];exact ⟨cs,rfl,E5 h⟩
 | false =>
  have:=E5 (X:=X) (show DP c y [e] from h);unfold elP;simp only [cond_false];have b:=this.length;split
  ·rename_i v j;rw [j] at this;obtain ⟨p,k,f,i,_⟩:=this.cons_inv;cases f;exact i
  ·rename_i d;cases hc:Gr c y with
   | nil=>rw [hc] at b;simp at b
   | cons a l=>cases l with
    | nil=>exact absurd hc (d _)
    | cons=>rw [hc] at b;simp at b
theorem RH.ptr (r:RH X h n) {j off:Nat} {p:PV} {cs:List V} {fz l:Bool} (d:VR X (.ptr j off) p) (e:h.get j=some (.box cs fz l)) :
  ∃ pid m b a,X.π j=some (.blk pid m)/\p = .ptr pid off/\X.h.get pid=some (.box b a)/\(fz=false->a=false)/\VRL X cs b:=by
 simp only [VR] at d;obtain ⟨pid,m,c,rfl⟩:=d;have:=r.blk _ _ e;rw [c] at this;obtain ⟨_,_,b,a,f,o,g,i,k⟩:=this;cases f;exact ⟨pid,m,b,a,c,rfl,g,i,k⟩
theorem RH.boxAt (r:RH X h n) {j pid m:Nat} {cs:List V} {fz k:Bool} (c:X.π j=some (.blk pid m)) (e:h.get j=some (.box cs fz k)) :
  ∃ b a,X.h.get pid=some (.box b a)/\(fz=false->a=false)/\VRL X cs b:=by
 have:=r.blk _ _ e;rw [c] at this;obtain ⟨_,_,b,a,d,l,f,g,i⟩:=this;cases d;exact ⟨b,a,f,g,i⟩
theorem RH.rowAt (r:RH X h n) {j pid m:Nat} {g:Bool} {c:Ty} {l:List c.den} {ex fz q:Bool} (d:X.π j=some (.blk pid m)) (e:h.get j=some (.row g c l ex fz q)) :
  ∃ es a,X.h.get pid=some (.row es ex a)/\(fz=false->a=false)/\es.length=m/\(ex=false->0<m)/\L2 (EP g (DR X.h X.Q c)) l es:=by
 have:=r.blk _ _ e;rw [d] at this;rcases this with ⟨_,_,es,a,b,s,f,i,k,p,o⟩ | ⟨b,_⟩ | ⟨_,b,_⟩
 ·cases b;exact ⟨es,a,f,i,k,p,o⟩
 ·cases b
 ·cases b
theorem IH {c:IntKind} : ∀ {m:Nat} {vs:List V} {a:List PV} {l:List Int},VRL X vs a->HV c m vs=some l->l.length=m/\a.take m=l.map (PV.int c)/\m<=a.length
 | 0,_,_,_,_,e=>by cases e;simp
 | m+1,[],_,_,_,e=>by simp [HV] at e
 | m+1,v::vs,a,l,hv,e=>by
  unfold HV at e;split at e
  ·rename_i h;cases h
  ·rename_i s k x q f g;cases f;cases g;cases b:(k == c) with
   | false=>rw [b] at e;cases e
   | true =>
    rw [b] at e;have:=eq_of_beq b;subst this;obtain ⟨l',j,rfl⟩:=Option.map_eq_some_iff.1 e;obtain ⟨p,t,rfl,d,i⟩:=hv.cons_inv;simp only [VR] at d;subst d;obtain ⟨n,o,r⟩:=IH i j;exact ⟨by simp [n],by simp [o],by simp;omega⟩
  ·cases e
theorem O0 (r:RH X h n) {ty:TypeId} {a:V} {p:PV} {K:V->Option β} (f:VR X a p) (e:Oz P h ty a K=some x) : ∃ v q,K v=some x/\Pi.B8 P X.h ty p=some (.val q X.h)/\VR X v q:=by
 unfold Oz at e;split at e
 ·replace e:=AE e;obtain ⟨v,e1,e⟩:=e;simp only [VR] at f;obtain ⟨t,rfl,d⟩:=f;obtain ⟨q,e2,o⟩:=BZ (d.mono (Up.pure X)) e1;exact ⟨v,q,e,A7 e2,o⟩
 ·split at e
  ·rename_i cs fz J z;obtain ⟨pid,m,t,u,d,rfl,s,B,w⟩:=r.ptr f z;replace e:=AE e;obtain ⟨v,e1,e⟩:=e;obtain ⟨q,e2,o⟩:=BZ (w.drop _) e1;exact ⟨v,q,e,by unfold Pi.B8;simp only [s];exact A7 e2,o⟩
  ·cases e
 ·replace e:=AE e;obtain ⟨v,e1,e⟩:=e;simp only [VR] at f;rcases f with ⟨t,rfl,d⟩ | ⟨pid,i,off,es,ex,fz,L,rfl,d,C,s,B⟩
  ·obtain ⟨q,e2,o⟩:=BZ (d.mono (Up.pure X)) e1;exact ⟨v,q,e,A7 e2,o⟩
  ·obtain ⟨q,e2,o⟩:=BZ B e1;refine ⟨v,q,e,?_,o⟩;unfold Pi.B8;simp only [C,AM,s];exact A7 e2
 ·rename_i j i off;split at e
  ·rename_i g c l ex fz J z;replace e:=GS e;obtain ⟨y,U,e⟩:=e;replace e:=AE e;obtain ⟨v,e1,e⟩:=e;simp only [VR] at f;obtain ⟨pid,m,d,rfl⟩:=f;obtain ⟨es,u,C,s,B,Y,w⟩:=r.rowAt d z;obtain ⟨L,D,N⟩:=w.get U;obtain ⟨q,e2,o⟩:=BZ ((Fo N).cells.drop off) e1;refine ⟨v,q,e,?_,o⟩;unfold Pi.B8;simp only [C,AM,D];exact A7 e2
  ·cases e
 ·rename_i j off k m;split at e
  ·rename_i cs fz J z;split at e
   ·rename_i G sz O A F;replace e:=AE e;obtain ⟨l,S,e⟩:=e;simp only [VR] at f;obtain ⟨pid,mm,d,rfl,E⟩:=f;obtain ⟨t,u,s,B,w⟩:=r.boxAt d z;obtain ⟨Z,W,i3⟩:=IH (w.drop off) S;refine ⟨_,.int G (OO l k),e,?_,by simp [VR]⟩;unfold Pi.B8;simp only [s];refine A7 ?_;unfold Pi.part;simp only [A,F]
    have b:(t.drop (off+k))[0]? = some (.int G (OO l k)):=by
     rw [List.getElem?_drop,Nat.add_zero]
     have M:(t.drop off)[k]? = some (.int G (OO l k)):=by
      rw [<- List.getElem?_take_of_lt E,W,List.getElem?_map];have:l[k]? = some l[k]:=List.getElem?_eq_getElem (by omega);unfold OO;rw [this];rfl
     rwa [List.getElem?_drop] at M
    cases I:t.drop (off+k) with
    | nil=>rw [I] at b;cases b
    | cons c cs=>rw [I] at b;cases b;rfl
   ·cases e
  ·cases e
 ·cases e
theorem BK (h:Hp) (i:Nat) (b:Blk) : ∃ h',h.set i b=some h':=⟨{ h with m:=T.put (i+1) h.m i b },by
 unfold Pi.Hp.set;rw [show Nat.blt i (i+1)=true from by simp];rfl⟩
theorem Fy (h:Hp) (i:Nat) (b:Blk) (e:h.get i=none) : ∃ h',h.new i b=some h':=by
 unfold Pi.Hp.new Pi.Hp.get at *;rw [e];exact BK h i b
theorem Ma {hs:Hp} {pid i:Nat} {es:List PV} {ex:Bool} {a b:PV} {d:List PV} (A:List PV->Option Pi.R):(∀ cs,a ≠ .agg cs)->a.cells=[a]->d=[b]->(∀ cs,b ≠ .agg cs)->(∀ cs,b ≠ .tup cs) ->
  (match a with
   | .agg cs=>A cs
   | _=>(match d with
    | [c]=>bif Nat.beq 0 0&&Nat.beq a.cells.length 1 then (match c with
     | .agg _=>none
     | .tup _=>none
     | c=>(hs.set pid (.row (Pi.lset es i c) ex false)).map Pi.R.skip) else none
    | _=>none))=(hs.set pid (.row (Pi.lset es i b) ex false)).map .skip:=by
 intro e f g h j;subst g;have k:(Nat.beq 0 0&&Nat.beq a.cells.length 1)=true:=by rw [f];rfl
 cases a<;>first
  | exact absurd rfl (e _)
  | (simp only [k,cond_true]<;>cases b<;>first | rfl | exact absurd rfl (h _) | exact absurd rfl (j _))
def Fe (X:Cx) (h:H) (n id idP:Nat) (h':H) (a:Hp) (Y:Cx):Prop:=Y.h=a/\RH Y h' n/\St X h id idP Y h'
def LZ (a:IntKind) (k:Nat) (x:Int):Nat->List Int->List PV
 | _,[]=>[]
 | i,y::l => .int a (if k=i then x else y)::LZ a k x (i+1) l
theorem NN {a:IntKind} {k:Nat} {x:Int} : ∀ (l:List Int) (i:Nat),VRL X (MU a k x i l) (LZ a k x i l)
 | [],_=>by simp [MU,LZ,VRL]
 | y::l,i=>by
  unfold MU LZ;refine .cons ?_ (NN l (i+1));simp only [VR];unfold Sw neq;by_cases h:k=i
  ·rw [if_pos h,show Nat.beq k i=true by simpa using h];rfl
  ·rw [if_neg h,show Nat.beq k i=false by
    cases b:Nat.beq k i with
    | false=>rfl
    | true=>exact absurd (Nat.eq_of_beq_eq_true b) h];rfl
theorem La {a:IntKind} {k:Nat} {x:Int} : ∀ (l:List Int) (i:Nat),LZ a k x i l=if i<=k then (l.map (PV.int a)).set (k-i) (.int a x) else l.map (PV.int a)
 | [],i=>by simp [LZ]
 | y::l,i=>by
  unfold LZ;rw [La l (i+1)];by_cases h:k=i
  ·subst h;rw [if_pos rfl,if_neg (by omega),if_pos (Nat.le_refl _),Nat.sub_self];rfl
  ·rw [if_neg h];by_cases b:i<=k
   ·rw [if_pos (by omega),if_pos b,show k-i=(k-(i+1))+1 by omega];rfl
   ·rw [if_neg (by omega),if_neg b];rfl
theorem O2 {b:IntKind} {a:List PV} {l:List Int} {off k m:Nat} {x:Int} (n:(a.drop off).take m=l.map (PV.int b)) (o:l.length=m) (p:m<=(a.drop off).length) (q:k<m) :
  Pi.BP a off (LZ b k x 0 l)=Pi.BP a (off+k) [.int b x]:=by
 rw [La,if_pos (Nat.zero_le _),Nat.sub_zero];obtain ⟨A,d⟩ : ∃ A,A=a.take off:=⟨_,rfl⟩;obtain ⟨R,h⟩ : ∃ R,R=(a.drop off).drop m:=⟨_,rfl⟩;obtain ⟨L,f⟩ : ∃ L,L=l.map (PV.int b):=⟨_,rfl⟩;have i:off<=a.length:=by rw [List.length_drop] at p;omega
 have c:a=A++(L++R):=by rw [d,f,h,<- n,List.take_append_drop,List.take_append_drop]
 have e:A.length=off:=by rw [d];simp;omega
 have g:L.length=m:=by rw [f];simp [o]
 rw [<- f];unfold Pi.BP;have e1:a.take off=A:=d.symm;have e2:a.drop (off+(L.set k (.int b x)).length)=R:=by rw [List.length_set,g,<- List.drop_drop,<- h]
 have e3:a.take (off+k)=A++L.take k:=by
  rw [c,List.take_append,List.take_of_length_le (by omega),e,Nat.add_sub_cancel_left,List.take_append_of_le_length (by omega)]
 have j:a.drop (off+k+[PV.int b x].length)=L.drop (k+1)++R:=by
  rw [c,show off+k+[PV.int b x].length=A.length+(k+1) by simp;omega,List.drop_append,List.drop_eq_nil_of_le (by omega),Nat.add_sub_cancel_left,List.drop_append_of_le_length (by omega)];rfl
 rw [e1,e2,e3,j,List.set_eq_take_append_cons_drop,if_pos (by omega)];simp
theorem OH (r:RH X h n) (hn:n<=1048575) {ty:TypeId} {a w:V} {p q:PV} {K:H->Option β} (W:VR X a p) (hw:VR X w q) (id idP:Nat) (e:MZ P h ty a w K=some x) :
  ∃ h' d Y,K h'=some x/\Pi.BC P X.h ty p q=some (.skip d)/\Fe X h n id idP h' d Y:=by
 unfold MZ at e;replace e:=AE e;obtain ⟨sz,J,e⟩:=e;replace e:=A9 e;obtain ⟨hc,e⟩:=e;have L:=hw.cells;rw [L.length] at hc;have Nr : ∀ {j pid m:Nat},X.π j=some (.blk pid m)->j<1048575:=λhp=>by have:=r.dom _ _ hp;omega
 split at e
 ·rename_i j off;split at e
  ·rename_i cs s;replace e:=AO e;obtain ⟨z,e⟩:=e;obtain ⟨pid,m,N,S,f,rfl,F,U,D⟩:=r.ptr W s;have:=U rfl;subst this;have b : ∃ d,X.h.set pid (.box (Pi.BP N off q.cells) false)=some d:=BK _ _ _;obtain ⟨d,b⟩:=b
   obtain ⟨Y,y1,A,E,y4,y5⟩:=r.set (b':=.box (GR cs off w.cells) false false) (Nr f) s trivial rfl f F (by intros;simp) b
    (λY y1 A E u=>by
     rw [f]
     refine ⟨pid,m,_,false,rfl,by rw [E];exact (f ▸ r.blk _ _ s).own trivial,by rw [A,(Hp.get_set b).1,if_pos rfl],λ_=>rfl,(D.fput L off).mono u⟩) idP
   refine ⟨_,d,Y,e,?_,A,y4,y5 id⟩;unfold Pi.BC;simp only [J,hc,cond_false,F];rw [<- D.length,z];simp only [cond_true,b];rfl
  ·cases e
 ·rename_i j i off;split at e
  ·rename_i g c l ex s;replace e:=GS e;obtain ⟨y,hy,e⟩:=e;replace e:=AO e;obtain ⟨z,e⟩:=e;simp only [VR] at W;obtain ⟨pid,m,f,rfl⟩:=W;obtain ⟨es,S,h2,F,U,h9,D⟩:=r.rowAt f s;have:=F rfl;subst this;obtain ⟨M,hel,hE⟩:=D.get hy;have I:=C9 (X:=X) hE.cells;have hf:=I.fput L off;obtain ⟨y',r',p',q',e1,h6,d1,r1⟩:=GG hf e;split at e1
   ·rw [r1.nil_inv,List.append_nil] at h6;subst h6
    have key : ∃ B,EP g (DR X.h X.Q c) y' B/\(match M with
      | .agg cs=>(X.h.set pid (.row (Pi.lset es i (.agg (Pi.BP cs off q.cells))) ex false)).map Pi.R.skip
      | _=>(match q.cells with
       | [c]=>bif Nat.beq off 0&&Nat.beq M.cells.length 1 then (match c with
        | .agg _=>none
        | .tup _=>none
        | c=>(X.h.set pid (.row (Pi.lset es i c) ex false)).map .skip) else none
       | _=>none))=(X.h.set pid (.row (Pi.lset es i B) ex false)).map .skip:=by
     cases g with
     | true =>
      obtain ⟨cs,rfl,_⟩:=hE;exact ⟨.agg (Pi.BP cs off q.cells),⟨_,rfl,d1⟩,rfl⟩
     | false =>
      have G:DR X.h X.Q c y [M]:=hE;have o:=G.leaf M (by simp);have hlen:(cells c y).length=1:=by rw [I.length,o.2.2];rfl
      simp only [Bool.or_eq_false_iff,Bool.not_eq_false',Nat.blt_eq,Nat.beq_eq] at hc;rw [hlen] at z;have hle':off+sz<=1:=by simpa using z
      have hoff:off=0:=by omega
      have hsz1:sz=1:=by omega
      subst hoff;have C:q.cells.length=1:=by omega
      obtain ⟨O,Z⟩ : ∃ O,q.cells=[O]:=by
       cases hqq:q.cells with
       | nil=>rw [hqq] at C;simp at C
       | cons a t=>cases t with
        | nil=>exact ⟨a,rfl⟩
        | cons=>rw [hqq] at C;simp at C
      have AG:Pi.BP M.cells 0 q.cells=[O]:=by rw [o.2.2,Z];rfl
      rw [AG] at d1;have hl1:=d1.leaf O (by simp);refine ⟨O,d1,?_⟩;exact Ma _ o.1 o.2.2 Z hl1.1 hl1.2.1
    obtain ⟨B,G,hk⟩:=key;have b : ∃ d,X.h.set pid (.row (Pi.lset es i B) ex false)=some d:=BK _ _ _;obtain ⟨d,b⟩:=b
    obtain ⟨Y,y1,A,E,y4,y5⟩:=r.set (b':=.row g c (lset l i y') ex false false) (Nr f) s trivial rfl f h2 (by intros;simp) b
     (λY y1 A E u=>by
      rw [f];refine .inl ⟨pid,m,_,false,rfl,by rw [E];exact (f ▸ r.blk _ _ s).own trivial,by rw [A,(Hp.get_set b).1,if_pos rfl],λ_=>rfl,by rw [AT];simpa using U,h9,?_⟩;rw [AT]
      exact EDR.mono u (D.set i G)) idP
    refine ⟨_,d,Y,e1,?_,A,y4,y5 id⟩;unfold Pi.BC;have hle2:Nat.ble (off+sz) M.cells.length=true:=by rw [<- I.length];exact z
    simp only [J,hc,cond_false,h2,AM,hel,hle2,cond_true];rw [b] at hk;exact hk
   ·cases e1
  ·cases e
 ·rename_i j off k m;split at e
  ·rename_i cs s;split at e
   ·rename_i k1 x k0 hk0;replace e:=AO e;obtain ⟨hkk,e⟩:=e;have:=eq_of_beq hkk;subst this;replace e:=AE e;obtain ⟨l,hl,e⟩:=e;simp only [VR] at W hw;subst hw;obtain ⟨pid,mm,f,rfl,hlt⟩:=W;obtain ⟨N,S,F,U,D⟩:=r.boxAt f s;have:=U rfl;subst this;obtain ⟨i1,i2,i3⟩:=IH (D.drop off) hl;have AG:=O2 (x:=x) i2 i1 i3 hlt
    have hv:VRL X (GR cs off (MU k1 k x 0 l)) (Pi.BP N (off+k) [.int k1 x]):=by
     rw [<- AG];exact D.fput (NN l 0) off
    obtain ⟨d,b⟩:=BK X.h pid (.box (Pi.BP N (off+k) [.int k1 x]) false)
    obtain ⟨Y,y1,A,E,y4,y5⟩:=r.set (b':=.box (GR cs off (MU k1 k x 0 l)) false false) (Nr f) s trivial rfl f F (by intros;simp) b
     (λY y1 A E u=>by
      rw [f]
      refine ⟨pid,mm,_,false,rfl,by rw [E];exact (f ▸ r.blk _ _ s).own trivial,by rw [A,(Hp.get_set b).1,if_pos rfl],λ_=>rfl,hv.mono u⟩) idP
    refine ⟨_,d,Y,e,?_,A,y4,y5 id⟩
    have hs1:sz=1:=by
     simp only [Bool.or_eq_false_iff,Bool.not_eq_false',Nat.blt_eq,Nat.beq_eq] at hc;exact hc.2.symm
    subst hs1;unfold Pi.BC;simp only [J,hc,cond_false,F]
    have hb:Nat.ble (off+k+1) N.length=true:=by
     rw [List.length_drop] at i3;simp;omega
    rw [hb];show (X.h.set pid (.box (Pi.BP N (off+k) [.int k1 x]) false)).map Pi.R.skip=_;rw [b];rfl
   ·cases e
  ·cases e
 ·cases e
end
end
section
variable [Pi.Gl]
open Go.Proofs.YtfilfloanndddaaGreat.Pi (PV T Hp Blk DF UM PE AM AT)
section
variable {X:Cx} {h:H} {n:Nat} {β:Type} {x:β} {P:Program}
theorem EP.upP {g:Bool} {hh:Hp} {Q:Nat->Prop} {c:Ty} {y:c.den} {e:PV} (h:EP g (DP c) y e):EP g (DR hh Q c) y e:=h.mono λ_ _ k=>k.up
theorem Ge {k:Nat} : ∀ {m i:Nat} {K:Nat->Option β},IU k m i K=some x->K k=some x/\i<=k/\k<i+m
 | 0,_,_,e=>by cases e
 | 1,i,K,e=>by
  unfold IU at e;obtain ⟨b,a⟩:=AJ e;have:k=i:=by simpa [neq] using b
  subst this;exact ⟨a,Nat.le_refl _,by omega⟩
 | m+2,i,K,e=>by
  unfold IU at e;rcases Bc e with ⟨b,a⟩ | ⟨b,a⟩
  ·have:k=i:=by simpa [neq] using b
   subst this;exact ⟨a,Nat.le_refl _,by omega⟩
  ·obtain ⟨c,d,f⟩:=Ge a;exact ⟨c,by omega,by omega⟩
theorem Ig {s:TypeId} {a:V} {p:PV} {f:Nat} {K:V->Option β} (c:VR X a p) (e:Fp P s a f K=some x) : ∃ v q,K v=some x/\Pi.As P X.h s p f=some (.val q X.h)/\VR X v q:=by
 unfold Fp at e;unfold Pi.As;split at e
 ·rename_i u o;split at e
  ·rename_i t n;split at e
   ·rename_i w d;replace e:=A9 e;obtain ⟨hc,e⟩:=e;simp only [o,n,d,hc,cond_false];split at e
    ·simp only [VR] at c;obtain ⟨pid,m,b,rfl⟩:=c;exact ⟨_,_,e,rfl,by simp only [VR];exact ⟨pid,m,b,rfl⟩⟩
    ·simp only [VR] at c;obtain ⟨pid,m,b,rfl⟩:=c;exact ⟨_,_,e,rfl,by simp only [VR];exact ⟨pid,m,b,rfl⟩⟩
    ·simp only [VR] at c;rcases c with ⟨r,rfl,b⟩ | ⟨pid,i,off,es,ex,fz,g,rfl,b,j,k,l⟩
     ·exact ⟨_,_,e,rfl,by simp only [VR];exact .inl ⟨_,rfl,b.drop _⟩⟩
     ·refine ⟨_,_,e,rfl,?_⟩;simp only [VR];exact .inr ⟨pid,i,_,es,ex,fz,g,rfl,b,j,k,by rw [<- List.drop_drop];exact l.drop _⟩
    ·simp only [VR] at c;obtain ⟨r,rfl,b⟩:=c;exact ⟨_,_,e,rfl,by simp only [VR];exact ⟨_,rfl,b.drop _⟩⟩
    ·cases e
   ·cases e
  ·cases e
 ·cases e
theorem NV {h:H} {n len:Nat} {a:V} {j off:Nat} (e:Qt h n len a=some (j,off)):a = .ptr j off/\n=1:=by
 unfold Qt at e;split at e
 ·split at e
  ·split at e
   ·cases b:(Nat.beq n 1&&(HV _ len _).isSome) with
    | false=>rw [b] at e;cases e
    | true =>
     rw [b] at e;cases e;simp only [Bool.and_eq_true,Nat.beq_eq] at b;exact ⟨rfl,b.1⟩
   ·cases e
  ·cases e
 ·cases e
theorem Ii (r:RH X h n) {ty:TypeId} {a i:V} {p q:PV} {K:V->Option β} (l:VR X a p) (hi:VR X i q) (e:Fu P h ty a i K=some x) : ∃ v w,K v=some x/\Pi.Ap P X.h ty p q=some (.val w X.h)/\VR X v w:=by
 unfold Fu at e;split at e
 ·rename_i et S;replace e:=AE e;obtain ⟨sz,F,e⟩:=e;replace e:=C3 hi e;obtain ⟨k,e,O⟩:=e;unfold Pi.Ap;simp only [S,O,F];split at e
  ·rename_i f g c es;replace e:=GS e;obtain ⟨y,E,e⟩:=e;replace e:=AO e;obtain ⟨D,e⟩:=e;simp only [VR] at l;rcases l with ⟨rfl,rfl⟩ | ⟨Y,G,rfl,_,o⟩ | ⟨pid,off,len,G,ex,fz,rfl,_,o,h2,I,_,M⟩
   ·simp at E
   ·obtain ⟨C,b,A⟩:=o.get E;have hc:=(Fo (X:=Cx.pure) A.upP).cells;refine ⟨_,.view C.cells,e,?_,by simp only [VR];exact .inl ⟨_,rfl,hc⟩⟩;simp only [AM,b];rw [<- hc.length,D];rfl
   ·obtain ⟨C,b,A⟩:=M.get E;have hc:=(Fo A).cells
    have J:k<len:=by
     have:=(List.getElem?_eq_some_iff.1 b).1;simp at this;omega
    have u:G[off+k]? = some C:=by
     rw [List.getElem?_take_of_lt J,List.getElem?_drop] at b;exact b
    refine ⟨_,.ept pid (off+k) 0,e,?_,by simp only [VR];exact .inr ⟨pid,off+k,0,G,ex,fz,C,rfl,o,h2,u,by simpa using hc⟩⟩;have B:Nat.blt k len=true:=by simpa using J
    simp only [B,cond_true,h2,AM,u];rw [<- hc.length,D];rfl
  ·rename_i g c es;replace e:=GS e;obtain ⟨y,E,e⟩:=e;replace e:=AO e;obtain ⟨D,e⟩:=e;simp only [VR] at l;rcases l with ⟨rfl,rfl⟩ | ⟨Y,G,rfl,o⟩
   ·simp at E
   ·obtain ⟨C,b,A⟩:=o.get E;have hc:=(DE (X:=Cx.pure) A).cells;refine ⟨_,.view C.cells,e,?_,by simp only [VR];exact ⟨_,rfl,hc⟩⟩;simp only [AM,b];rw [<- hc.length,D];rfl
  ·rename_i f es;replace e:=Ge e;obtain ⟨e,_,_⟩:=e;replace e:=AE e;obtain ⟨C,b,e⟩:=e;replace e:=AO e;obtain ⟨D,e⟩:=e;simp only [VR] at l;obtain ⟨Y,G,rfl,_,o⟩:=l;obtain ⟨elP,u,A⟩:=o.lget b;refine ⟨_,.view elP.cells,e,?_,by simp only [VR];exact .inl ⟨_,rfl,A.cells⟩⟩;simp only [u];rw [<- A.cells.length,D];rfl
  ·rename_i j;split at e
   ·rename_i g c es ex lk W;replace e:=AJ e;obtain ⟨s,e⟩:=e;replace e:=AO e;obtain ⟨D,e⟩:=e;have d:k<es.length:=by simpa [KC,AS] using s
    simp only [VR] at l;have B:=r.blk _ _ W;cases z:X.π j with
    | none=>rw [z] at l;exact l.elim
    | some t =>
     rw [z] at l B;rcases B with ⟨pid,len,G,U,o,h2,I,M,Z,h7,N⟩ | ⟨o,_,h2⟩ | ⟨_,o,_,h2,_⟩
     ·cases o;simp only at l;subst l;obtain ⟨y,E⟩ : ∃ y,es[k]? = some y:=⟨es[k],List.getElem?_eq_getElem d⟩;obtain ⟨C,b,A⟩:=N.get E;refine ⟨_,.ept pid (0+k) 0,e,?_,by simp only [VR];exact ⟨pid,len,z,by simp⟩⟩;have B:Nat.blt k len=true:=by rw [<- Z,<- N.length];simpa using d
      simp only [B,cond_true,I,AM,Nat.zero_add,b];rw [A.wd,D];rfl
     ·subst h2;simp at d
     ·rcases h2 with h2 | h2
      ·cases h2
      ·subst h2;simp at d
   ·cases e
  ·rename_i j off len;replace e:=AJ e;obtain ⟨s,e⟩:=e;split at e
   ·rename_i g c es ex fz lk W;replace e:=AJ e;obtain ⟨L,e⟩:=e;replace e:=AO e;obtain ⟨D,e⟩:=e;simp only [VR] at l;obtain ⟨pid,m,z,rfl⟩:=l;obtain ⟨G,U,I,_,Z,_,N⟩:=r.rowAt z W;have d:off+k<es.length:=by simpa [KC,AS,BD] using L
    obtain ⟨y,E⟩ : ∃ y,es[off+k]? = some y:=⟨es[off+k],List.getElem?_eq_getElem d⟩;obtain ⟨C,b,A⟩:=N.get E;refine ⟨_,.ept pid (off+k) 0,e,?_,by simp only [VR];exact ⟨pid,m,z,rfl⟩⟩;have B:Nat.blt k len=true:=s;simp only [B,cond_true,I,AM,b];rw [A.wd,D];rfl
   ·cases e
  ·cases e
 ·rename_i len et S;replace e:=AE e;obtain ⟨sz,F,e⟩:=e;replace e:=C3 hi e;obtain ⟨k,e,O⟩:=e;unfold Pi.Ap;split at e
  ·rename_i j off hj;replace e:=AJ e;obtain ⟨s,e⟩:=e;obtain ⟨rfl,rfl⟩:=NV hj;have B:Nat.blt k len=true:=s;have d:k<len:=by simpa [KC] using s
   simp only [S,O,F,B,cond_true];simp only [VR] at l;obtain ⟨pid,m,o,rfl⟩:=l;exact ⟨_,_,e,rfl,by simp only [VR];exact ⟨pid,m,o,by rw [Nat.mul_one],d⟩⟩
  replace e:=Ge e;obtain ⟨e,_,s⟩:=e;have B:Nat.blt k len=true:=by simpa using s
  simp only [S,O,F,B,cond_true];split at e
  ·simp only [VR] at l;obtain ⟨pid,m,o,rfl⟩:=l;exact ⟨_,_,e,rfl,by simp only [VR];exact ⟨pid,m,o,rfl⟩⟩
  ·simp only [VR] at l;obtain ⟨pid,m,o,rfl⟩:=l;exact ⟨_,_,e,rfl,by simp only [VR];exact ⟨pid,m,o,rfl⟩⟩
  ·simp only [VR] at l;rcases l with ⟨G,rfl,o⟩ | ⟨pid,i,off,es,ex,fz,C,rfl,o,h2,I,M⟩
   ·exact ⟨_,_,e,rfl,by simp only [VR];exact .inl ⟨_,rfl,o.drop _⟩⟩
   ·refine ⟨_,_,e,rfl,?_⟩;simp only [VR];exact .inr ⟨pid,i,_,es,ex,fz,C,rfl,o,h2,I,by rw [<- List.drop_drop];exact M.drop _⟩
  ·simp only [VR] at l;obtain ⟨G,rfl,o⟩:=l;exact ⟨_,_,e,rfl,by simp only [VR];exact ⟨_,rfl,o.drop _⟩⟩
  ·cases e
 ·cases e
theorem Ns {ty:TypeId} {a i:V} {p q:PV} {K:V->Option β} (c:VR X a p) (hi:VR X i q) (e:ME P ty a i K=some x) : ∃ v w,K v=some x/\Pi.Br P X.h ty p q=some (.val w X.h)/\VR X v w:=by
 unfold ME at e;split at e
 ·rename_i len t cs n;replace e:=AE e;obtain ⟨y,m,e⟩:=e;replace e:=C3 hi e;obtain ⟨k,e,g⟩:=e;replace e:=Ge e;obtain ⟨e,_,j⟩:=e;replace e:=AE e;obtain ⟨v,s,e⟩:=e;obtain ⟨u,rfl,d⟩:=c.agg_inv;obtain ⟨w,o,r⟩:=BZ (d.drop _) s;refine ⟨v,w,e,?_,r⟩;unfold Pi.Br;have f:Nat.blt k len=true:=by simpa using j
  simp only [n,g,f,cond_true,m];exact A7 o
 ·rename_i l n;replace e:=C3 hi e;obtain ⟨k,e,g⟩:=e;replace e:=GS e;obtain ⟨b,f,e⟩:=e;simp only [VR] at c;subst c;refine ⟨_,_,e,?_,by simp only [VR];rfl⟩;unfold Pi.Br;simp only [n,g,AM,f];rfl
 ·cases e
theorem Ox (r:RH X h n) {ty:TypeId} {a:V} {p:PV} {K:Int->Option β} {q:Array TypeId} (F:q[0]? = some ty) (b:VR X a p) (e:Ow P h ty a K=some x) (id:Nat) : ∃ m,K m=some x/\Pi.AH P X.h id .len q [p]=some (.val (.int .i64 m) X.h):=by
 unfold Ow at e;unfold Pi.AH;simp only [F];split at e
 ·rename_i d;split at e
  ·rename_i k g c l G A;simp only [VR] at b;obtain ⟨pid,m,i,rfl⟩:=b;have s:=r.blk _ _ A;rw [i] at s;obtain ⟨_,_,es,o,B,y,z⟩:=s;cases o;refine ⟨_,e,?_⟩;simp only [d,y,Kb,AS,z.length]
  ·cases e
 ·rename_i d;simp only [VR] at b;subst b;exact ⟨_,e,by simp only [d]⟩
 ·rename_i d;exact ⟨_,e,by simp only [d]⟩
 ·rename_i d;simp only [VR] at b;subst b;exact ⟨_,e,by simp only [d]⟩
 ·rename_i f g c l d;simp only [VR] at b;refine ⟨_,e,?_⟩;rcases b with ⟨rfl,rfl⟩ | ⟨C,w,rfl,_,i⟩ | ⟨pid,off,len,w,ex,fz,rfl,_,i,o,B,_,y⟩
  ·simp only [d];rfl
  ·simp only [d,Kb,AS,i.length]
  ·simp only [d,Kb,AS,y.length];have:((w.drop off).take len).length=len:=by simp;omega
   rw [this]
 ·rename_i f es d;simp only [VR] at b;obtain ⟨C,w,rfl,_,i⟩:=b;exact ⟨_,e,by simp only [d,i.length]⟩
 ·rename_i j d;split at e
  ·rename_i g c l ex fz G A;simp only [VR] at b;have s:=r.blk _ _ A;cases u:X.π j with
   | none=>rw [u] at b;exact b.elim
   | some t =>
    rw [u] at b s;refine ⟨_,e,?_⟩;rcases s with ⟨pid,len,w,D,i,o,B,y,z,I,E⟩ | ⟨i,_,o⟩ | ⟨w,i,_,_,o⟩
    ·cases i;simp only at b;subst b;simp only [d,Kb,AS,E.length,z]
    ·cases i;simp only at b;subst b;subst o;simp only [d];rfl
    ·cases i;simp only at b;subst b;simp only [d,Kb,AS,o.length]
  ·cases e
 ·rename_i d;simp only [VR] at b;obtain ⟨pid,m,i,rfl⟩:=b;exact ⟨_,e,by simp only [d];rfl⟩
 ·rename_i l d;simp only [VR] at b;subst b;exact ⟨_,e,by simp only [d];rfl⟩
 ·cases e
theorem QD (r:RH X h n) {ty:TypeId} {a:V} {p:PV} {K:Int->Option β} {b:Array TypeId} (d:b[0]? = some ty) (c:VR X a p) (e:Rq P h ty a K=some x) (id:Nat) : ∃ m,K m=some x/\Pi.AH P X.h id .len b [p]=some (.val (.int .i64 m) X.h) :=
 Ox r d c.norm e id
end
end
end Go.Proofs.YtfilfloanndddaaGreat.Sv
