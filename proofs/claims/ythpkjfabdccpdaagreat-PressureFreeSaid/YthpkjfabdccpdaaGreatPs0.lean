/- A part of the evaluator over typed open values for any program, and of the proof that it is sound. No condition. -/
import Derived.Test.YthpkjfabdccpdaaGreatPp2
import GoSem.Step
set_option linter.all false
namespace Go.Proofs.YthpkjfabdccpdaaGreat.Sv
section
variable {α β γ:Type}
def gd (c:Bool) (k:Unit->Option β):Option β:=bif c then k () else none
def br (c:Bool) (a b:Unit->Option β):Option β:=bif c then a () else b ()
def ix (l:List α) (i:Nat) (k:α->Option β):Option β:=match l[i]? with
 | some x=>k x
 | none=>none
def AS (n:Int) (k:Nat->Option β):Option β:=bif decide (0<=n) then k n.toNat else none
def bd (m:Option α) (k:α->Option β):Option β:=match m with
 | some x=>k x
 | none=>none
inductive LR (α β:Type) where
 | nx (s:α)
 | dn (x:β)
def Df:Nat->(α->Option (LR α β))->α->Option β
 | 0,_,_=>none
 | n+1,f,s=>match f s with
  | none=>none
  | some (.nx s)=>Df n f s
  | some (.dn x)=>some x
def loop (f:α->Option (LR α β)) (s:α):Option β:=Df 18446744073709551616 f s
def jn {δ:Type} (f:α->Option (LR δ γ)) (s:α) (k:δ->Option β) (k2:γ->Option β):Option β:=match f s with
 | none=>none
 | some (.nx x)=>k x
 | some (.dn x)=>k2 x
def AH (k:IntKind) (a b:Int):Int:=k.wrap (a+b)
def BJ (k:IntKind) (a b:Int):Int:=k.wrap (a-b)
def Kv (k:IntKind) (a b:Int):Int:=k.wrap (a*b)
def GM (k:IntKind) (a b:Int):Int:=k.wrap (a.tdiv b)
def Wm (_:IntKind) (a b:Int):Int:=a.tmod b
def lI (k:IntKind) (a b:Int):Int:=k.wrap (BitVec.ofInt k.bits a &&& BitVec.ofInt k.bits b).toNat
def og (k:IntKind) (a b:Int):Int:=k.wrap (BitVec.ofInt k.bits a ||| BitVec.ofInt k.bits b).toNat
def lJ (k:IntKind) (a b:Int):Int:=k.wrap (BitVec.ofInt k.bits a ^^^ BitVec.ofInt k.bits b).toNat
def Tj (k:IntKind) (a b:Int):Int:=k.wrap (a*2 ^ (min b.toNat k.bits))
def Qn (k:IntKind) (a b:Int):Int:=a.fdiv (2 ^ (min b.toNat k.bits))
def jQ (k:IntKind) (a:Int):Int:=k.wrap (0-a)
def MH (k:IntKind) (a:Int):Int:=k.wrap a
def Bm (a b:Int):Bool:=a == b
def Ao (a b:Int):Bool:=a != b
def Ah (a b:Int):Bool:=decide (a<b)
def SC (a b:Int):Bool:=decide (a<=b)
def Bz (a b:Int):Bool:=decide (a>b)
def Hz (a b:Int):Bool:=decide (a>=b)
def J6 (a b:Int):Int:=if b>a then b else a
def NN (a b:Int):Int:=if b<a then b else a
def AZ (a:Bool):Bool := !a
def Bo (a b:Bool):Bool:=a&&b
def beq (a b:Bool):Bool:=a == b
def AV (n:Nat):Int:=n
def AJ (a b:Nat):Nat:=a+b
def CF (a b:Nat):Nat:=a-b
def A6 (a b:Nat):Bool:=Nat.ble a b
def B6 (a b:Nat):Bool:=Nat.blt a b
def neq (a b:Nat):Bool:=Nat.beq a b
def fA (a b:Nat):Nat:=Nat.min a b
def C2 (l:List UInt8):Nat:=l.length
def fB (a b:List UInt8):List UInt8:=a++b
def seq (a b:List UInt8):Bool:=a == b
def CJ (a b:List UInt8):Bool:=Op.bytesLess a b
def Tk (l:List UInt8) (lo hi:Nat):List UInt8:=(l.drop lo).take (hi-lo)
def SD (b:UInt8):Int:=b.toNat
def Yk (n:Int):UInt8:=UInt8.ofNat n.toNat
def AA (l:List α):Nat:=l.length
def DK (a b:List α):List α:=a++b
def B3 (l:List α) (lo hi:Nat):List α:=(l.drop lo).take (hi-lo)
def lset (l:List α) (i:Nat) (x:α):List α:=l.set i x
def CK (n:Nat) (x:α):List α:=List.replicate n x
def DB (l:List α) (off:Nat) (x:List α) (n:Nat):List α:=l.take off++(x.take n++l.drop (off+(x.take n).length))
def IE (e:γ->γ->Bool):List (γ×α)->γ->Option α
 | [],_=>none
 | (k,v)::l,x=>bif e x k then some v else IE e l x
def HW (e:γ->γ->Bool):List (γ×α)->γ->α->List (γ×α)
 | [],x,y=>[(x,y)]
 | (k,v)::l,x,y=>bif e x k then (x,y)::l else (k,v)::HW e l x y
def JG (e:γ->γ->Bool):List (γ×α)->γ->List (γ×α)
 | [],_=>[]
 | (k,v)::l,x=>bif e x k then l else (k,v)::JG e l x
def PG (o:Option α) (z:α):α:=o.getD z
def jR (o:Option α):Bool:=o.isSome
end
end Go.Proofs.YthpkjfabdccpdaaGreat.Sv
namespace Go.Proofs.YthpkjfabdccpdaaGreat.Sv
open Go.Proofs.YthpkjfabdccpdaaGreat.Pi (PV T DF UM PE lget)
inductive Ty where
 | int (k:IntKind)
 | bool
 | str
 | unit
 | pair (a b:Ty)
 | sl (g:Bool) (c:Ty)
 deriving DecidableEq
@[reducible] def Ty.den:Ty->Type
 | .int _=>Int
 | .bool=>Bool
 | .str=>List UInt8
 | .unit=>Unit
 | .pair a b=>a.den×b.den
 | .sl _ c=>List c.den
inductive V where
 | bool (b:Bool)
 | int (k:IntKind) (n:Int)
 | str (l:List UInt8)
 | nilp | nils | nilm | nilf | nili
 | agg (cs:List V)
 | tup (vs:List V)
 | lf (full g:Bool) (c:Ty) (l:List c.den)
 | pl (g:Bool) (c:Ty) (l:List c.den)
 | exl (full:Bool) (es:List V)
 | ow (id:Nat)
 | own (id off len:Nat)
 | ptr (id off:Nat)
 | ept (id i off:Nat)
 | view (cs:List V)
 | pv (cs:List V)
 | fn (f:Fn) (first captured:List V)
 | yl (id:Nat)
 | ifc (t:TypeId) (v:V)
 | mp (id:Nat)
structure PEA where
 v:V
 recovered:Bool
inductive UMA where
 | ret
 | pan (ch:List PEA)
inductive DFA where
 | call (f:V) (args:List V)
 | bi (b:Builtin) (ats:Array TypeId) (ty:TypeId) (args:List V)
 | col (id:Nat)
inductive ExA where
 | normal
 | exit (id:Nat)
 | goto (l:Nat)
 | ret
 | panic (v:V)
inductive BA where
 | box (cs:List V) (fz lk:Bool)
 | row (g:Bool) (c:Ty) (l:List c.den) (ex fz lk:Bool)
 | mp (k:Ty) (g:Bool) (c:Ty) (l:List (k.den×c.den)) (lk:Bool)
 | lp (st:Nat) (pend:Option Code) (nt:Nat) (t:T V) (ps:List Nat) (asg body:Code) (d:Nat)
 | df (ds:Option (List DFA))
 | dead
abbrev H:=T BA
structure FrA where
 t:T V
 nt:Nat
 ds:List DFA
 up:Option UMA
 ro:Option Nat
inductive OutA where
 | ret (v:V)
 | pan (ch:List PEA)
def V.cells:V->List V
 | .agg cs=>cs
 | .tup _=>[]
 | v=>[v]
def cells:(c:Ty)->c.den->List V
 | .int k,n=>[.int k n]
 | .bool,b=>[.bool b]
 | .str,s=>[.str s]
 | .unit,_=>[]
 | .pair a b,x=>cells a x.1++cells b x.2
 | .sl g c,l=>[.lf false g c l]
def MY:(c:Ty)->c.den->List V
 | .int k,n=>[.int k n]
 | .bool,b=>[.bool b]
 | .str,s=>[.str s]
 | .unit,_=>[]
 | .pair a b,x=>MY a x.1++MY b x.2
 | .sl g c,l=>[.pl g c l]
def elP (g:Bool) (c:Ty) (x:c.den):V:=bif g then .agg (MY c x) else match MY c x with
 | [v]=>v
 | _ => .nilp
def V.norm:V->V
 | .pl g c l => .lf false g c l
 | .pv cs => .view cs
 | v=>v
def Wn (g:Bool) (c:Ty) (x:c.den):V:=bif g then .agg (cells c x) else match cells c x with
 | [v]=>v
 | _ => .nilp
def Vj:(c:Ty)->c.den
 | .int _=>(0:Int)
 | .bool=>false
 | .str=>[]
 | .unit=>()
 | .pair a b=>(Vj a,Vj b)
 | .sl _ _=>[]
def Ty.depth:Ty->Nat
 | .pair a b=>Nat.max a.depth b.depth
 | .sl _ c=>c.depth+1
 | _=>0
def Ty.wd:Ty->Nat
 | .unit=>0
 | .pair a b=>a.wd+b.wd
 | _=>1
def Ty.hasSl:Ty->Bool
 | .pair a b=>a.hasSl||b.hasSl
 | .sl _ _=>true
 | _=>false
def Yl (rec:TypeId->Option (Bool×Ty)):List Field->Option Ty
 | []=>some .unit
 | [f]=>(rec f.type).map (·.2)
 | f::fs=>match rec f.type,Yl rec fs with
  | some (_,c),some r=>some (.pair c r)
  | _,_=>none
def gb:Nat->Ty->Ty
 | 0,_ => .unit
 | 1,c=>c
 | n+1,c => .pair c (gb n c)
def Tl (P:Program):Nat->TypeId->Option (Bool×Ty)
 | 0,_=>none
 | d+1,t=>match P.underlying t with
  | some (.int k)=>some (false,.int k)
  | some .bool=>some (false,.bool)
  | some .string=>some (false,.str)
  | some (.slice e)=>(Tl P d e).map λ(g,c)=>(false,.sl g c)
  | some (.struct fs)=>(Yl (Tl P d) fs.toList).map λc=>(true,c)
  | some (.array n e)=>(Tl P d e).map λ(_,c)=>(true,gb n c)
  | _=>none
def lB:Nat:=14
section
variable {β:Type}
def Hh {c c':Ty} (l:List c.den) (K:List c'.den->Option β):Option β:=if e:c=c' then K (e ▸ l) else none
def gf {k c k' c':Ty} (l:List (k.den×c.den)) (K:List (k'.den×c'.den)->Option β):Option β :=
 if e:k=k' then if e2:c=c' then K (e ▸ e2 ▸ l) else none else none
def Ym {α:Type} (d:V->(α->Option β)->Option β):List V->(List α->Option β)->Option β
 | [],K=>K []
 | v::vs,K=>d v λx=>Ym d vs λl=>K (x::l)
def IF (h:H):(c:Ty)->List V->(c.den->List V->Option β)->Option β
 | .int k,vs,K=>match vs with
  | .int k' n::r=>bif k == k' then K n r else none
  | _=>none
 | .bool,vs,K=>match vs with
  | .bool b::r=>K b r
  | _=>none
 | .str,vs,K=>match vs with
  | .str s::r=>K s r
  | _=>none
 | .unit,vs,K=>K () vs
 | .pair a b,vs,K=>IF h a vs λx r=>IF h b r λy r=>K (x,y) r
 | .sl g c,vs,K=>match vs with
  | .nils::r=>K [] r
  | .lf _ g' _ l::r=>bif g == g' then Hh l λl=>K l r else none
  | .pl g' _ l::r=>bif g == g' then Hh l λl=>K l r else none
  | .exl _ es::r=>Ym (λv K=>bif g then (match v with
    | .agg cs=>IF h c cs λx q=>match q with
     | []=>K x
     | _=>none
    | _=>none) else IF h c [v] λx q=>match q with
     | []=>K x
     | _=>none) es λl=>K l r
  | .ow id::r=>match h.get id with
   | some (.row g' _ l _ _ _)=>bif g == g' then Hh l λl=>K l r else none
   | _=>none
  | .own id off len::r=>match h.get id with
   | some (.row g' _ l _ _ _)=>bif g == g' then gd (A6 (AJ off len) (AA l)) λ_=>Hh (B3 l off (AJ off len)) λl=>K l r else none
   | _=>none
  | _=>none
def N6 (h:H) (g:Bool) (c:Ty) (v:V) (K:c.den->Option β):Option β:=bif g then (match v with
  | .agg cs=>IF h c cs λx q=>match q with
   | []=>K x
   | _=>none
  | _=>none) else IF h c [v] λx q=>match q with
   | []=>K x
   | _=>none
end
def Lj:Value->Option V
 | .bool b=>some (.bool b)
 | .int k n=>some (.int k n)
 | .string s=>some (.str s.data.toList)
 | .pointer none=>some .nilp
 | .slice none 0 0=>some .nils
 | .map none=>some .nilm
 | .nilFunc=>some .nilf
 | .nilIface=>some .nili
 | .func (.func f) first cap=>if first.isEmpty&&cap.isEmpty then some (.fn (.func f) [] []) else none
 | _=>none
def IG:List Value->Option (List V)
 | []=>some []
 | v::l=>match Lj v,IG l with
  | some p,some ps=>some (p::ps)
  | _,_=>none
def Qo:Value->Option V
 | .agg cs=>(IG cs.toList).map .agg
 | .tuple vs=>bif vs.isEmpty then some (.tup []) else none
 | .iface t v=>match Lj v with
  | some p=>some (.ifc t p)
  | none=>none
 | v=>Lj v
def GN (P:Program) (t:TypeId):Option (List V):=match P.info? t with
 | some i=>match i.zero with
  | some z=>IG z.cells.toList
  | none=>none
 | none=>none
def G1 (P:Program) (e:TypeId):Option V:=match P.info? e with
 | some i=>match i.zero with
  | some z=>Qo z
  | none=>none
 | none=>none
def IH (P:Program) (t:TypeId) (cs:List V):Option V:=match Pi.Re P t,Pi.BV P t with
 | some true,some n=>bif Nat.ble n cs.length then some (.agg (cs.take n)) else none
 | some false,some _=>match cs with
  | c::_=>some c
  | []=>none
 | _,_=>none
def Ad (h:H) (id:Nat) (b:BA):H:=T.put 20 h id b
def Pf (cs:List V) (off:Nat) (x:List V):List V:=cs.take off++(x++cs.drop (off+x.length))
inductive RA where
 | val (v:V) (h:H)
 | skip (h:H)
 | call (f:FuncId) (args:List V)
 | yield (id:Nat) (args:List V)
 | pan (v:V)
 | rcv
 | dfr (d:DFA)
section
variable {β:Type}
def Gm {α:Type} (o:Option α) (K:α->Option β):Option β:=match o with
 | some x=>K x
 | none=>none
def DD (t:T V) (o:Operand) (K:V->Option β):Option β:=match o with
 | .tmp k=>Gm (t.get k) K
 | .const v=>Gm (Qo v) K
 | .func f=>K (.fn (.func f) [] [])
 | .global _=>none
def Wo (t:T V):List Operand->(List V->Option β)->Option β
 | [],K=>K []
 | o::l,K=>DD t o λv=>Wo t l λvs=>K (v::vs)
def fC (t:T V) (o:Option Operand) (K:Option V->Option β):Option β:=match o with
 | none=>K none
 | some o=>DD t o λv=>K (some v)
def N7 (v:V) (K:Nat->Option β):Option β:=match v with
 | .int _ n=>AS n K
 | _=>none
def FV (d:Nat) (o:Option V) (K:Nat->Option β):Option β:=match o with
 | none=>K d
 | some v=>N7 v K
def Qp (v:V) (K:Nat->Option β):Option β:=match v with
 | .int .i64 n=>AS n K
 | _=>none
def iH (op:BinOp) (k:IntKind) (a b:Int) (K:V->Option β):Option β:=match op with
 | .add=>K (.int k (AH k a b))
 | .sub=>K (.int k (BJ k a b))
 | .mul=>K (.int k (Kv k a b))
 | .quo=>gd (Ao b 0) λ_=>K (.int k (GM k a b))
 | .rem=>gd (Ao b 0) λ_=>K (.int k (Wm k a b))
 | .eql=>K (.bool (Bm a b))
 | .neq=>K (.bool (Ao a b))
 | .lss=>K (.bool (Ah a b))
 | .leq=>K (.bool (SC a b))
 | .gtr=>K (.bool (Bz a b))
 | .geq=>K (.bool (Hz a b))
 | .and=>K (.int k (lI k a b))
 | .or=>K (.int k (og k a b))
 | .xor=>K (.int k (lJ k a b))
 | _=>none
def Tn (op:BinOp) (k:IntKind) (a b:Int) (K:V->Option β):Option β:=match op with
 | .shl=>gd (Hz b 0) λ_=>K (.int k (Tj k a b))
 | .shr=>gd (Hz b 0) λ_=>K (.int k (Qn k a b))
 | _=>none
def iI (op:BinOp) (a b:List UInt8) (K:V->Option β):Option β:=match op with
 | .add=>gd (A6 (AJ (C2 a) (C2 b)) 1000000000) λ_=>K (.str (fB a b))
 | .eql=>K (.bool (seq a b))
 | .neq=>K (.bool (AZ (seq a b)))
 | .lss=>K (.bool (CJ a b))
 | .leq=>K (.bool (AZ (CJ b a)))
 | .gtr=>K (.bool (CJ b a))
 | .geq=>K (.bool (AZ (CJ a b)))
 | _=>none
end
mutual
def fD (P:Program):Nat->TypeId->V->V->Option Bool
 | 0,_,_,_=>none
 | d+1,t,x,y=>match P.underlying t with
  | some .bool=>match x,y with
   | .bool a,.bool b=>some (beq a b)
   | _,_=>none
  | some (.int _)=>match x,y with
   | .int k a,.int k' b=>bif k == k' then some (Bm a b) else none
   | _,_=>none
  | some .string=>match x,y with
   | .str a,.str b=>some (seq a b)
   | _,_=>none
  | some (.pointer _)=>match x,y with
   | .nilp,.nilp=>some true
   | .nilp,.ptr _ _ | .nilp,.view _ | .nilp,.pv _ | .nilp,.ept _ _ _ | .ptr _ _,.nilp | .view _,.nilp | .pv _,.nilp | .ept _ _ _,.nilp=>some false
   | _,_=>none
  | some (.slice _)=>match x,y with
   | .nils,.nils=>some true
   | .nils,.exl _ _ | .exl _ _,.nils | .nils,.lf _ _ _ (_::_) | .lf _ _ _ (_::_),.nils | .nils,.pl _ _ (_::_) | .pl _ _ (_::_),.nils | .nils,.own _ _ _ | .own _ _ _,.nils=>some false
   | _,_=>none
  | some (.func _ _ _)=>match x,y with
   | .nilf,.nilf=>some true
   | .nilf,.fn _ _ _ | .fn _ _ _,.nilf=>some false
   | _,_=>none
  | some (.interface _)=>match x,y with
   | .nili,.nili=>some true
   | .nili,.ifc _ _ | .ifc _ _,.nili=>some false
   | .ifc t a,.ifc t' b=>bif Nat.beq t t' then (match P.info? t with
     | some i=>bif i.comparable then fD P d t a b else none
     | none=>none) else some false
   | _,_=>none
  | some (.struct fs)=>match x,y with
   | .agg a,.agg b=>bif P.stoodInHeld t then none else To P d fs.toList a b
   | _,_=>none
  | some (.array n e)=>match x,y with
   | .agg a,.agg b=>bif (Pi.BV P e).isSome then Wp P d n e a b else none
   | _,_=>none
  | _=>none
def To (P:Program):Nat->List Field->List V->List V->Option Bool
 | 0,_,_,_=>none
 | _+1,[],_,_=>some true
 | d + 1, f :: fs, a, b => bif f.name == "_" then To P d fs a b else match IH P f.type (a.drop f.offset), IH P f.type (b.drop f.offset) with
  | some x,some y=>(match fD P d f.type x y,To P d fs a b with
   | some c,some r=>some (Bo c r)
   | _,_=>none)
  | _,_=>none
def Wp (P:Program):Nat->Nat->TypeId->List V->List V->Option Bool
 | 0,_,_,_,_=>none
 | _+1,0,_,_,_=>some true
 | d+1,n+1,e,a,b=>match Pi.BV P e,IH P e a,IH P e b with
  | some s,some x,some y=>(match fD P d e x y,Wp P d n e (a.drop s) (b.drop s) with
   | some c,some r=>some (Bo c r)
   | _,_=>none)
  | _,_,_=>none
end
section
variable {β:Type}
def iJ (P:Program) (op:BinOp) (ty:TypeId) (x y:Operand) (a b:V) (K:V->Option β):Option β:=match a,b with
 | .int k a,.int k' b=>match op with
  | .shl | .shr=>Tn op k a b K
  | _=>bif k == k' then iH op k a b K else none
 | .str a,.str b=>iI op a b K
 | .nili,.nili=>bif Pi.Fi x||Pi.Fi y then Gm (fD P 64 ty .nili .nili) λc=>(match op with
  | .eql=>K (.bool c)
  | .neq=>K (.bool (AZ c))
  | _=>none) else none
 | .agg a,.agg b=>bif P.eqGuardType P.depth ty then none else Gm (fD P 64 ty (.agg a) (.agg b)) λc=>(match op with
  | .eql=>K (.bool c)
  | .neq=>K (.bool (AZ c))
  | _=>none)
 | a,b=>Gm (fD P 64 ty a b) λc=>match op with
  | .eql=>K (.bool c)
  | .neq=>K (.bool (AZ c))
  | _=>none
def lK (op:UnOp) (a:V) (K:V->Option β):Option β:=match a with
 | .bool b=>match op with
  | .not=>K (.bool (AZ b))
  | _=>none
 | .int k n=>match op with
  | .neg=>K (.int k (jQ k n))
  | _=>none
 | _=>none
def purA (h:H):Nat->V->(V->List Nat->Option β)->Option β
 | 0,_,_=>none
 | n+1,v,K=>match v with
  | .agg cs=>purAs (purA h n) cs λx l=>K (.agg x) l
  | .tup cs=>purAs (purA h n) cs λx l=>K (.tup x) l
  | .ifc t x=>purA h n x λx l=>K (.ifc t x) l
  | .fn f a b=>purAs (purA h n) a λa l=>purAs (purA h n) b λb m=>K (.fn f a b) (l++m)
  | .lf _ g c l=>bif Nat.ble (2*c.depth+3) (n+7) then K (.lf false g c l) [] else none
  | .pl g c l=>K (.pl g c l) []
  | .ow id=>match h.get id with
   | some (.row g c l _ _ _)=>bif Nat.ble (2*c.depth+3) (n+7) then K (.lf false g c l) [id] else none
   | _=>none
  | .own id off len=>match h.get id with
   | some (.row g c l _ _ _)=>bif Nat.ble (2*c.depth+3) (n+7) then gd (A6 (AJ off len) (AA l)) λ_=>K (.lf false g c (B3 l off (AJ off len))) [id] else none
   | _=>none
  | .ptr _ _ | .view _ | .pv _ | .ept _ _ _ | .yl _ | .mp _=>none
  | v=>K v []
where
 purAs (p:V->(V->List Nat->Option β)->Option β):List V->(List V->List Nat->Option β)->Option β
  | [],K=>K [] []
  | v::vs,K=>p v λx l=>purAs p vs λxs m=>K (x::xs) (l++m)
def Vk (h:H):List V->(List V->List Nat->Option β)->Option β
 | [],K=>K [] []
 | v::vs,K=>purA h 6 v λx l=>Vk h vs λxs m=>K (x::xs) (l++m)
end
def FS (h:H):List Nat->Option H
 | []=>some h
 | id::l=>match h.get id with
  | some (.row g c x ex fz lk)=>bif fz then FS h l else bif lk then none else FS (Ad h id (.row g c x ex true false)) l
  | _=>none
def N8 (cs:List V):List (Nat×Nat×List V)->Option (List V)
 | []=>some cs
 | (off,n,x)::r=>bif Nat.beq x.length n&&Nat.ble (off+n) cs.length then N8 (Pf cs off x) r else none
def Qq (size:Nat) (es:List V):List (Nat×V)->Option (List V)
 | []=>some es
 | (i,v)::r=>bif Nat.beq v.cells.length size&&Nat.blt i es.length then Qq size (Pi.lset es i v) r else none
def J7 (P:Program) (fs:Array Field):List (Nat×V)->Option (List (Nat×Nat×List V))
 | []=>some []
 | (i,p)::l=>match fs[i]?,J7 P fs l with
  | some f,some r=>(match Pi.BV P f.type with
   | some n=>bif Nat.blt 0 n then some ((f.offset,n,p.cells)::r) else none
   | none=>none)
  | _,_=>none
def Kw (size:Nat):List (Nat×V)->List (Nat×Nat×List V)
 | []=>[]
 | (i,p)::l=>(i*size,size,p.cells)::Kw size l
def Vl (isAgg:Bool) (cs:List V):Option V :=
 bif isAgg then some (.agg cs) else match cs with
  | [c]=>some c
  | _=>none
def jS (P:Program) (st:TypeId):Option (Bool×Ty):=match P.underlying st with
 | some (.slice e)=>Tl P lB e
 | _=>none
def iK:(k:Ty)->Option (k.den->k.den->Bool)
 | .int _=>some (λ(a b:Int)=>Bm a b)
 | .bool=>some (λ(a b:Bool)=>beq a b)
 | .str=>some (λ(a b:List UInt8)=>seq a b)
 | _=>none
section
variable {β:Type}
def Lk (t:T V):List (Nat×Operand)->(List (Nat×V)->Option β)->Option β
 | [],K=>K []
 | (i,o)::l,K=>DD t o λv=>Lk t l λr=>K ((i,v)::r)
def N9 (k:Nat):Nat->Nat->(Nat->Option β)->Option β
 | 0,_,_=>none
 | 1,i,K=>gd (neq k i) λ_=>K i
 | n+1,i,K=>br (neq k i) (λ_=>K i) λ_=>N9 k n (i+1) K
def Qr (h:H) (g:Bool) (c:Ty) (v:V) (K:List c.den->Option β):Option β:=IF h (.sl g c) [v] λl _=>K l
def Pg (P:Program) (st:TypeId) (c:Ty):Bool:=match P.underlying st with
 | some (.slice e)=>(match P.info? e,Pi.zeroCells P e with
  | some ti,some z=>Nat.beq ti.size c.wd&&Nat.ble ti.bytes 1048576&&Nat.beq z.length ti.size&&Nat.blt 0 ti.size
  | _,_=>false)
 | _=>false
def iL (P:Program) (h:H) (id:Nat) (st:TypeId) (s x:V) (K:RA->Option β):Option β :=
 Gm (jS P st) λ(g,c)=>bif Pg P st c then Qr h g c x λnew=>match s with
  | .nils=>gd (A6 (AA new) 1048576) λ_=>K (.val (.ow id) (Ad h id (.row g c new false false false)))
  | .lf true g' _ l=>bif g == g' then gd (A6 (AJ (AA l) (AA new)) 1048576) λ_=>Hh l λl=>(match x with
   | .exl _ (_::_)=>K (.val (.ow id) (Ad h id (.row g c (DK l new) false false false)))
   | _=>br (neq (AA new) 0) (λ_=>K (.val s h)) λ_=>K (.val (.ow id) (Ad h id (.row g c (DK l new) false false false)))) else none
  | .exl true []=>gd (A6 (AA new) 1048576) λ_=>K (.val (.ow id) (Ad h id (.row g c new false false false)))
  | .ow j=>match h.get j with
   | some (.row g' _ l ex fz lk)=>bif !(g == g')||lk then none else Hh l λl=>gd (A6 (AJ (AA l) (AA new)) 1048576) λ_ =>
    bif ex then (match x with
     | .exl _ (_::_)=>K (.val (.ow id) (Ad h id (.row g c (DK l new) false false false)))
     | _=>br (neq (AA new) 0) (λ_=>K (.val s h)) λ_=>K (.val (.ow id) (Ad h id (.row g c (DK l new) false false false))))
    else K (.val (.ow id) (Ad (Ad h j .dead) id (.row g c (DK l new) false fz false)))
   | _=>none
  | .own j off len=>match h.get j with
   | some (.row g' _ l true false false)=>bif g == g' then Hh l λl=>gd (A6 (AJ len (AA new)) 1048576) λ_=>gd (A6 (AJ off len) (AA l)) λ_ =>
    br (neq (AA new) 0) (λ_=>K (.val s h)) λ_ =>
    br (A6 (AJ (AJ off len) (AA new)) (AA l)) (λ_=>K (.val (.own j off (AJ len (AA new))) (Ad h j (.row g c (DB l (AJ off len) new (AA new)) true false false)))) λ_ =>
     K (.val (.ow id) (Ad h id (.row g c (DK (B3 l off (AJ off len)) new) false false false))) else none
   | _=>none
  | _=>none
 else none
def Yn (P:Program) (h:H) (t:TypeId) (v:V) (K:Int->Option β):Option β:=match P.underlying t,v with
 | some (.map _ _),.mp j=>(match h.get j with
  | some (.mp _ _ _ l _)=>K (AV (AA l))
  | _=>none)
 | some (.map _ _),.nilm=>K 0
 | some (.array n _),_=>K n
 | some (.slice _),.nils=>K 0
 | some (.slice _),.lf _ _ _ l=>K (AV (AA l))
 | some (.slice _),.exl _ es=>K es.length
 | some (.slice _),.ow j=>(match h.get j with
  | some (.row _ _ l _ _ _)=>K (AV (AA l))
  | _=>none)
 | some (.slice _),.own _ _ len=>K (AV len)
 | some .string,.str l=>K (AV (C2 l))
 | _,_=>none
def jT (P:Program) (h:H) (t:TypeId) (v:V) (K:Int->Option β):Option β:=Yn P h t v.norm K
def Ph (f:Int->Int->Int) (k:IntKind):Int->List V->(Int->Option β)->Option β
 | m,[],K=>K m
 | m,.int k' y::l,K=>bif k == k' then Ph f k (f m y) l K else none
 | _,_,_=>none
def JQ:Ty->TypeDesc->Bool
 | .int _,.int _=>true
 | .bool,.bool=>true
 | .str,.string=>true
 | _,_=>false
def Yo (P:Program) (ty:TypeId) (m v:V) (h:H) (K:(j:Nat)->(k:Ty)->(g:Bool)->(c:Ty)->List (k.den×c.den)->Bool->(k.den->k.den->Bool)->k.den->Option β):Option β :=
 match P.underlying ty,m with
 | some (.map kt _),.mp j=>match P.underlying kt,h.get j with
  | some d,some (.mp k g c l lk)=>bif JQ k d then Gm (iK k) λe=>IF .lf k [v] λx q=>(match q with
   | []=>K j k g c l lk e x
   | _=>none) else none
  | _,_=>none
 | _,_=>none
def OA (P:Program) (h:H) (id:Nat) (b:Builtin) (ats:Array TypeId) (args:List V) (K:RA->Option β):Option β :=
 match b with
 | .len=>match args,ats[0]? with
  | [x],some t=>jT P h t x λn=>K (.val (.int .i64 n) h)
  | _,_=>none
 | .cap=>match args,ats[0]? with
  | [x],some t=>match P.underlying t,x with
   | some (.slice _),.ow j=>(match h.get j with
    | some (.row _ _ l true _ _)=>K (.val (.int .i64 (AV (AA l))) h)
    | _=>none)
   | some (.slice _),.own j off _=>(match h.get j with
    | some (.row _ _ l true _ _)=>K (.val (.int .i64 (AV (CF (AA l) off))) h)
    | _=>none)
   | some (.slice _),.nils=>K (.val (.int .i64 0) h)
   | _,_=>none
  | _,_=>none
 | .append=>match args,ats.toList with
  | [s,x],[t,t']=>bif Nat.beq t t' then iL P h id t s x K else none
  | _,_=>none
 | .copy=>match args,ats[0]? with
  | [d,x],some t=>Gm (jS P t) λ(g,c)=>bif !Pg P t c then none else Qr h g c x λnew=>match d with
   | .ow j=>(match h.get j with
    | some (.row g' _ l true false false)=>bif g == g' then Hh l λl=>K (.val (.int .i64 (AV (fA (AA new) (AA l)))) (Ad h j (.row g c (DB l 0 new (AA l)) true false false))) else none
    | _=>none)
   | .own j off len=>(match h.get j with
    | some (.row g' _ l ex false false)=>bif g == g' then Hh l λl=>gd (A6 (AJ off len) (AA l)) λ_=>K (.val (.int .i64 (AV (fA (AA new) len))) (Ad h j (.row g c (DB l off new len) ex false false))) else none
    | _=>none)
   | _=>none
  | _,_=>none
 | .clear=>match args,ats[0]? with
  | [.mp j],some t=>match P.underlying t,h.get j with
   | some (.map _ _),some (.mp k g c _ false)=>K (.val (.tup []) (Ad h j (.mp k g c [] false)))
   | _,_=>none
  | _,_=>none
 | .delete=>match args,ats[0]? with
  | [m,v],some t=>Yo P t m v h λj k g c l lk e x=>bif lk then none else K (.val (.tup []) (Ad h j (.mp k g c (JG e l x) false)))
  | _,_=>none
 | .max=>match args with
  | .int k a::r=>Ph J6 k a r λm=>K (.val (.int k m) h)
  | _=>none
 | .min=>match args with
  | .int k a::r=>Ph NN k a r λm=>K (.val (.int k m) h)
  | _=>none
 | .panic=>match args with
  | [.ifc t v]=>K (.pan (.ifc t v))
  | _=>none
 | .recover=>K .rcv
 | _=>none
def J8 (P:Program) (f:Fn) (first cap args:List V) (K:RA->Option β):Option β:=match f with
 | .func g=>match P.funcs[g]? with
  | some fn => bif fn.body.isSome && !(fn.name == "runtime.NumGoroutine") then K (.call g (first ++ args ++ cap)) else none
  | none=>none
 | .method name=>match first++args with
  | .ifc t v::rest=>match P.info? t with
   | some i=>match i.methods.find? (·.name == name) with
    | some m=>match m.path.isEmpty,m.func,P.underlying t with
     | true, some (g, true), some (.pointer _) => bif (match P.funcs[g]? with | some fn => fn.body.isSome && !(fn.name == "runtime.NumGoroutine") | none => false) then K (.call g (v :: rest)) else none
     | true,some (_,false),some (.pointer _)=>none
     | true, some (g, false), some _ => bif (match P.funcs[g]? with | some fn => fn.body.isSome && !(fn.name == "runtime.NumGoroutine") | none => false) then K (.call g (v :: rest)) else none
     | _,_,_=>none
    | none=>none
   | none=>none
  | _=>none
 | _=>none
def Yp (P:Program) (h:H) (ty:TypeId) (p:V) (K:V->Option β):Option β:=match p with
 | .pv cs=>Gm (IH P ty cs) K
 | .ptr j off=>match h.get j with
  | some (.box cs _ _)=>Gm (IH P ty (cs.drop off)) K
  | _=>none
 | .view cs=>Gm (IH P ty cs) K
 | .ept j i off=>match h.get j with
  | some (.row g c l _ _ _)=>ix l i λx=>Gm (IH P ty ((Wn g c x).cells.drop off)) K
  | _=>none
 | _=>none
def Tp (P:Program) (h:H) (ty:TypeId) (p v:V) (K:H->Option β):Option β:=Gm (Pi.BV P ty) λn =>
 bif !Nat.blt 0 n || !Nat.beq v.cells.length n then none else match p with
 | .ptr j off=>match h.get j with
  | some (.box cs false false)=>bif Nat.ble (off+n) cs.length then K (Ad h j (.box (Pf cs off v.cells) false false)) else none
  | _=>none
 | .ept j i off=>match h.get j with
  | some (.row g c l ex false false)=>ix l i λx=>bif Nat.ble (off+n) (cells c x).length then
    IF .lf c (Pf (cells c x) off v.cells) λy q=>match q with
     | []=>K (Ad h j (.row g c (lset l i y) ex false false))
     | _=>none
   else none
  | _=>none
 | _=>none
def Tq (P:Program) (ty:TypeId) (ps:List (Nat×V)) (K:V->Option β):Option β :=
 match GN P ty,P.underlying ty with
 | some z,some (.struct fs)=>bif fs.toList.all λf=>(Pi.BV P f.type).isSome then
   (match J7 P fs ps with
   | some pl=>Gm (N8 z pl) λcs=>K (.agg cs)
   | none=>none) else none
 | some z,some (.array _ e)=>match Pi.BV P e with
  | some n=>bif Nat.blt 0 n then Gm (N8 z (Kw n ps)) λcs=>K (.agg cs) else none
  | none=>none
 | _,_=>none
def JR (P:Program) (h:H) (ty:TypeId) (len:Nat) (ps:List (Nat×V)) (K:RA->Option β):Option β :=
 match P.underlying ty with
 | some (.slice e)=>match Pi.BV P e,Pi.Re P e,GN P e with
  | some n,some ag,some z=>match Vl ag z with
   | some z1=>bif !Nat.blt 0 n || !Nat.ble (len*n) 16777216 || !Nat.beq z.length n then none else
    Gm (Qq n (List.replicate len z1) ps) λes=>Vk h es λes l=>Gm (FS h l) λh=>K (.val (.exl true es) h)
   | none=>none
  | _,_,_=>none
 | _=>none
def iM (p:V) (K:V->Option β):Option β:=match p with
 | .pv cs=>K (.pv cs)
 | .ptr a b=>K (.ptr a b)
 | .ept a b c=>K (.ept a b c)
 | .view cs=>K (.view cs)
 | .ifc ty v=>K (.ifc ty v)
 | .yl i=>K (.yl i)
 | .fn (.func f) a b=>K (.fn (.func f) a b)
 | _=>none
def fE:List V->(List UInt8->Option β)->Option β
 | [],K=>K []
 | .int .u8 n::l,K=>fE l λr=>K (Yk n::r)
 | _,_=>none
def OB (P:Program) (src dst:TypeId) (x:V) (K:V->Option β):Option β:=match x,P.underlying src,P.underlying dst with
 | .int _ n,some _,some (.int k)=>K (.int k (MH k n))
 | .str l,some .string,some .string=>K (.str l)
 | .exl _ es,some (.slice e),some .string=>(match P.underlying e with
  | some (.int .u8)=>fE es λl=>K (.str l)
  | _=>none)
 | _,_,_=>none
def iN (P:Program) (ty:TypeId) (v:V) (K:V->Option β):Option β:=match P.underlying ty with
 | some (.interface _)=>none
 | some _=>K (.ifc ty v)
 | none=>none
def Yq (P:Program) (h:H) (id:Nat) (ty:TypeId) (same:Bool) (l c:V) (K:RA->Option β):Option β:=match P.underlying ty with
 | some (.slice e)=>match Pi.BV P e,Pi.Re P e,GN P e,P.info? e with
  | some n,some ag,some z,some ti=>Gm (Tl P lB e) λ(g,ct)=>bif Nat.ble ti.bytes 1048576&&Nat.blt 0 n&&Nat.beq z.length n then Gm (Vl ag z) λz=>N6 .lf g ct z λz=>Qp l λl=>Qp c λc =>
    bif same then gd (A6 c 1048576) λ_=>K (.val (.ow id) (Ad h id (.row g ct (CK c z) true false false)))
    else gd (A6 l c) λ_=>gd (A6 c 1048576) λ_=>K (.val (.own id 0 l) (Ad h id (.row g ct (CK c z) true false false)))
   else none
  | _,_,_,_=>none
 | _=>none
def SE (P:Program) (h:H) (id:Nat) (ty:TypeId) (K:RA->Option β):Option β:=match P.underlying ty with
 | some (.map kt e)=>match Tl P lB kt,Tl P lB e with
  | some (false,k),some (g,c)=>K (.val (.mp id) (Ad h id (.mp k g c [] false)))
  | _,_=>none
 | _=>none
def Ts (P:Program) (h:H) (ty:TypeId) (x:V) (lo hi mx:Option V) (K:V->Option β):Option β:=match P.underlying ty,x with
 | some .string,.str s=>match mx with
  | none=>FV (C2 s) hi λhh=>FV 0 lo λl=>gd (A6 hh (C2 s)) λ_=>gd (A6 l hh) λ_=>K (.str (Tk s l hh))
  | _=>none
 | some (.slice e),.nils=>Gm (Pi.BV P e) λ_=>match mx with
  | none=>FV 0 hi λhh=>FV 0 lo λl=>gd (neq hh 0) λ_=>gd (neq l 0) λ_=>K .nils
  | some m=>bif hi.isNone then none else FV 0 hi λhh=>FV 0 lo λl=>N7 m λm=>gd (neq hh 0) λ_=>gd (neq l 0) λ_=>gd (neq m 0) λ_=>K .nils
 | some (.slice e),.lf _ g c es=>Gm (Pi.BV P e) λn=>bif !Nat.beq n c.wd then none else FV 0 lo λl=>FV (AA es) hi λhh=>(match mx with
  | none=>gd (A6 hh (AA es)) λ_=>gd (A6 l hh) λ_=>K (.lf false g c (B3 es l hh))
  | some m=>bif hi.isNone || !Nat.ble c.depth 4 then none else N7 m λm=>gd (A6 hh (AA es)) λ_=>gd (neq hh m) λ_=>gd (A6 l hh) λ_=>K (.lf true g c (B3 es l hh)))
 | some (.slice e),.pl g c es=>Gm (Pi.BV P e) λn=>bif !Nat.beq n c.wd then none else FV 0 lo λl=>FV (AA es) hi λhh=>(match mx with
  | none=>gd (A6 hh (AA es)) λ_=>gd (A6 l hh) λ_=>K (.pl g c (B3 es l hh))
  | some m=>bif hi.isNone || !Nat.ble c.depth 4 then none else N7 m λm=>gd (A6 hh (AA es)) λ_=>gd (neq hh m) λ_=>gd (A6 l hh) λ_=>K (.lf true g c (B3 es l hh)))
 | some (.slice e),.ow j=>(match h.get j with
  | some (.row g c es _ false _)=>Gm (Pi.BV P e) λn=>bif !Nat.beq n c.wd then none else FV 0 lo λl=>FV (AA es) hi λhh=>(match mx with
   | none=>gd (A6 hh (AA es)) λ_=>gd (A6 l hh) λ_=>br (B6 l (AA es)) (λ_=>K (.own j l (CF hh l))) λ_=>K (.lf false g c [])
   | some _=>none)
  | _=>none)
 | some (.slice e),.own j off len=>(match h.get j with
  | some (.row g c es ex _ _)=>Gm (Pi.BV P e) λn=>bif !Nat.beq n c.wd then none else FV 0 lo λl=>FV len hi λhh=>(match mx with
   | none=>gd (A6 (AJ off hh) (AA es)) λ_=>gd (A6 l hh) λ_=>br (B6 (AJ off l) (AA es)) (λ_=>K (.own j (AJ off l) (CF hh l))) λ_=>K (.lf false g c [])
   | some m=>bif lo.isSome||hi.isNone || !ex then none else N7 m λm=>gd (A6 hh m) λ_=>gd (neq (AJ off m) (AA es)) λ_=>gd (B6 off (AA es)) λ_=>K (.own j off hh))
  | _=>none)
 | _,_=>none
def Kx (P:Program) (sty:TypeId) (x:V) (f:Nat) (K:V->Option β):Option β:=match P.underlying sty with
 | some (.struct fs)=>match fs[f]? with
  | some fd=>match Pi.BV P fd.type with
   | some n=>bif Nat.beq n 0 then none else (match x with
    | .ptr j off=>K (.ptr j (off+fd.offset))
    | .ept j i off=>K (.ept j i (off+fd.offset))
    | .view cs=>K (.view (cs.drop fd.offset))
    | .pv cs=>K (.pv (cs.drop fd.offset))
    | _=>none)
   | none=>none
  | none=>none
 | _=>none
def Tu (P:Program) (ty:TypeId) (x:V) (f:Nat) (K:V->Option β):Option β:=match P.underlying ty,x with
 | some (.struct fs),.agg cs=>match fs[f]? with
  | some fd=>Gm (IH P fd.type (cs.drop fd.offset)) K
  | none=>none
 | _,_=>none
def Ky (P:Program) (h:H) (ty:TypeId) (x i:V) (K:V->Option β):Option β:=match P.underlying ty with
 | some (.slice e)=>Gm (Pi.BV P e) λn=>N7 i λk=>match x with
   | .lf _ g c es=>ix es k λel=>bif Nat.beq (Wn g c el).cells.length n then K (.view (Wn g c el).cells) else none
   | .pl g c es=>ix es k λel=>bif Nat.beq (elP g c el).cells.length n then K (.pv (elP g c el).cells) else none
   | .exl _ es=>N9 k es.length 0 λk=>Gm (lget es k) λel=>bif Nat.beq el.cells.length n then K (.view el.cells) else none
   | .ow j=>(match h.get j with
    | some (.row _ c es _ false _)=>gd (B6 k (AA es)) λ_=>bif Nat.beq c.wd n then K (.ept j k 0) else none
    | _=>none)
   | .own j off len=>gd (B6 k len) λ_=>(match h.get j with
    | some (.row _ c es _ _ _)=>gd (B6 (AJ off k) (AA es)) λ_=>bif Nat.beq c.wd n then K (.ept j (AJ off k) 0) else none
    | _=>none)
   | _=>none
 | some (.array len e)=>Gm (Pi.BV P e) λn=>N7 i λk=>N9 k len 0 λk=>match x with
   | .ptr j off=>K (.ptr j (off+k*n))
   | .ept j i off=>K (.ept j i (off+k*n))
   | .view cs=>K (.view (cs.drop (k*n)))
   | .pv cs=>K (.pv (cs.drop (k*n)))
   | _=>none
 | _=>none
def Tv (P:Program) (ty:TypeId) (x i:V) (K:V->Option β):Option β:=match P.underlying ty,x with
 | some (.array len e),.agg cs=>Gm (Pi.BV P e) λn=>N7 i λk=>N9 k len 0 λk=>Gm (IH P e (cs.drop (k*n))) K
 | some .string,.str l=>N7 i λk=>ix l k λb=>K (.int .u8 (SD b))
 | _,_=>none
def Qs (P:Program) (h:H) (ty:TypeId) (m k:V) (ok:Bool) (K:V->Option β):Option β:=match m with
 | .nilm=>match P.underlying ty with
  | some (.map kt e)=>match P.underlying kt,G1 P e with
   | some d,some z=>bif Pi.Ga d then K (bif ok then .tup [z,.bool false] else z) else none
   | _,_=>none
  | _=>none
 | m=>Yo P ty m k h λ_ _ g c l _ e x=>match P.underlying ty with
  | some (.map _ et)=>Gm (G1 P et) λz=>N6 .lf g c z λz =>
    K (bif ok then .tup [Wn g c (PG (IE e l x) z),.bool (jR (IE e l x))] else Wn g c (PG (IE e l x) z))
  | _=>none
def Ic (P:Program) (h:H) (ty:TypeId) (m k v:V) (K:H->Option β):Option β :=
 Yo P ty m k h λj kt g c l lk e x=>bif lk then none else N6 .lf g c v λy=>K (Ad h j (.mp kt g c (HW e l x y) false))
def J9 (ok:Bool) (v:V):V:=bif ok then .tup [v,.bool true] else v
def Qt (P:Program) (ty:TypeId) (v:V) (ok:Bool) (K:V->Option β):Option β:=match P.underlying ty with
 | some (.interface want)=>match v with
  | .ifc u a=>match P.info? u with
   | some i=>match Instr.missingMethod want i.methods with
    | none=>K (J9 ok (.ifc u a))
    | some _=>bif ok then Gm (G1 P ty) λz=>K (.tup [z,.bool false]) else none
   | none=>none
  | .nili=>bif ok then Gm (G1 P ty) λz=>K (.tup [z,.bool false]) else none
  | _=>none
 | some _=>match v with
  | .ifc u a=>bif Nat.beq u ty then K (J9 ok a) else bif ok then Gm (G1 P ty) λz=>K (.tup [z,.bool false]) else none
  | .nili=>bif ok then Gm (G1 P ty) λz=>K (.tup [z,.bool false]) else none
  | _=>none
 | none=>none
def Vm:Operand->Operand->Bool
 | .tmp a,.tmp b=>Nat.beq a b
 | _,_=>false
def Qu (h:H) (K:RA->Option β) (v:V):Option β:=K (.val v h)
def lC (P:Program) (t:T V) (h:H) (id:Nat) (o:Oper) (K:RA->Option β):Option β :=
 match o.op with
 | .move x=>DD t x (Qu h K)
 | .assign x=>DD t x (Qu h K)
 | .pick c a b=>DD t c λc=>DD t a λa=>DD t b λb=>match c with
  | .bool c=>br c (λ_=>Qu h K a) (λ_=>Qu h K b)
  | _=>none
 | .alloc e=>Gm (GN P e) λcs=>K (.val (.ptr id 0) (Ad h id (.box cs false false)))
 | .box _ x=>DD t x λv=>match v with
  | .tup _=>none
  | v=>K (.val (.ptr id 0) (Ad h id (.box v.cells false false)))
 | .build ty parts=>Lk t parts.toList λps=>Tq P ty ps (Qu h K)
 | .buildSlice ty len parts=>Lk t parts.toList λps=>JR P h ty len ps K
 | .load ty a=>DD t a λa=>Yp P h ty a (Qu h K)
 | .store ty a x=>DD t a λa=>DD t x λx=>Tp P h ty a x λh=>K (.skip h)
 | .nilCheck x=>DD t x λx=>iM x (Qu h K)
 | .binOp op ty x y _=>DD t x λa=>DD t y λb=>iJ P op ty x y a b (Qu h K)
 | .unOp op _ x=>DD t x λa=>lK op a (Qu h K)
 | .convert src dst x=>DD t x λa=>OB P src dst a (Qu h K)
 | .makeInterface ty x=>DD t x λa=>iN P ty a (Qu h K)
 | .makeFunc f first cap=>Wo t first.toList λa=>Wo t cap.toList λb=>match f with
  | .yield _=>none
  | f=>K (.val (.fn f a b) h)
 | .makeMap ty none=>SE P h id ty K
 | .makeSlice ty l c=>DD t l λx=>DD t c λy=>Yq P h id ty (Vm l c) x y K
 | .slice ty x lo hi mx=>fC t lo λlo=>fC t hi λhi=>fC t mx λmx=>DD t x λx=>Ts P h ty x lo hi mx (Qu h K)
 | .fieldAddr s x f=>DD t x λx=>Kx P s x f (Qu h K)
 | .field ty x f=>DD t x λx=>Tu P ty x f (Qu h K)
 | .indexAddr ty x i=>DD t x λx=>DD t i λi=>Ky P h ty x i (Qu h K)
 | .index ty x i=>DD t x λx=>DD t i λi=>Tv P ty x i (Qu h K)
 | .lookup ty x k ok=>DD t x λm=>DD t k λk=>Qs P h ty m k ok (Qu h K)
 | .mapUpdate ty x k v=>DD t x λx=>DD t k λk=>DD t v λv=>Ic P h ty x k v λh=>K (.skip h)
 | .insert ty x k v=>DD t x λx=>DD t k λk=>DD t v λv=>Ic P h ty x k v λh=>K (.skip h)
 | .typeAssert x _ ty ok=>DD t x λv=>Qt P ty v ok (Qu h K)
 | .extract x i=>DD t x λx=>match x with
  | .tup vs=>Gm (lget vs i) (Qu h K)
  | _=>none
 | .panic x=>DD t x λx=>match x with
  | .ifc ty v=>K (.pan (.ifc ty v))
  | _=>none
 | .call c=>Wo t c.args.toList λargs=>match c.callee with
  | .builtin b=>OA P h id b c.argTypes args K
  | .value f=>DD t f λf=>match f with
   | .fn f a b=>J8 P f a b args K
   | .yl l=>K (.yield l args)
   | _=>none
  | .invoke recv name=>DD t recv λr=>J8 P (.method name) [r] [] args K
 | .defer c=>Wo t c.args.toList λargs=>match c.callee with
  | .builtin b=>K (.dfr (.bi b c.argTypes o.type args))
  | .value f=>DD t f λf=>match f with
   | .fn (.func g) a b=>K (.dfr (.call (.fn (.func g) a b) args))
   | _=>none
  | .invoke _ _=>none
 | _=>none
end
end Go.Proofs.YthpkjfabdccpdaaGreat.Sv
namespace Go.Proofs.YthpkjfabdccpdaaGreat.Sv
open Go.Proofs.YthpkjfabdccpdaaGreat.Pi (T lget MJ)
@[reducible] def AG:List (Bool×Ty)->Type
 | []=>Unit
 | [p]=>p.2.den
 | p::q::r=>p.2.den×AG (q::r)
structure Sg where
 dom:List (Bool×Ty)
 cod:List (Bool×Ty)
 fn:AG dom->Option (AG cod)
abbrev Ie:=FuncId->Option (Option Sg)
def JS:(l:List (Bool×Ty))->AG l->List V
 | [],_=>[]
 | [p],x=>[elP p.1 p.2 x]
 | p::q::r,x=>elP p.1 p.2 x.1::JS (q::r) x.2
def Yr:(l:List (Bool×Ty))->AG l->V
 | [],_ => .tup []
 | [(false,.sl g c)],x => .lf false g c x
 | [p],x=>elP p.1 p.2 x
 | p::q::r,x => .tup (JS (p::q::r) x)
inductive Sgm where
 | lf (c:Ty)
 | ow (g:Bool) (c:Ty) (ex:Bool)
 | kp (id:Nat)
@[reducible] def Sgm.den:Sgm->Type
 | .lf c=>c.den
 | .ow _ c _=>List c.den
 | .kp _=>Unit
@[reducible] def OC:List Sgm->Type
 | []=>Unit
 | [p]=>p.den
 | p::q::r=>p.den×OC (q::r)
inductive Pl where
 | slot (k:Nat) (g:Bool) (c:Ty)
 | srow (k:Nat) (g:Bool) (c:Ty) (ex:Bool)
 | swin (k:Nat) (g:Bool) (c:Ty)
 | box (id:Nat) (sg:List Sgm)
 | map (id:Nat) (k:Ty) (g:Bool) (c:Ty)
@[reducible] def Pl.den:Pl->Type
 | .slot _ _ c=>c.den
 | .srow _ _ c _=>List c.den
 | .swin _ _ c=>List c.den×Nat
 | .box _ sg=>OC sg
 | .map _ k _ c=>List (k.den×c.den)
@[reducible] def DC:List Pl->Type
 | []=>Unit
 | [p]=>p.den
 | p::q::r=>p.den×DC (q::r)
inductive ExK where
 | exit (id:Nat)
 | ret
 | pan (t:TypeId) (g:Bool) (c:Ty)
structure Tm where
 keep:List Nat
 kb:List Nat
 pl:List Pl
 ex:List (ExK×List (Nat×Nat×Option Code))
 pay:Ty
 plx:List Pl:=pl
 rel:List (Nat×Nat):=[]
 relS:List Nat:=[]
structure Jn where
 keep:List Nat
 kb:List Nat
 pl0:List Pl
 pl1:List Pl
 ex:List (ExK×List (Nat×Nat×Option Code))
 pay:Ty
inductive An where
 | loop (tm:Tm)
 | join (j:Jn)
abbrev Pj:=FuncId->Nat->Nat->Option An
section
variable {β:Type}
def Et (h:H):(l:List (Bool×Ty))->List V->(AG l->Option β)->Option β
 | [],vs,K=>match vs with
  | []=>K ()
  | _=>none
 | [p],vs,K=>match vs with
  | [v]=>N6 h p.1 p.2 v K
  | _=>none
 | p::q::r,vs,K=>match vs with
  | v::vs=>N6 h p.1 p.2 v λx=>Et h (q::r) vs λy=>K (x,y)
  | _=>none
def KP:List V->List Nat
 | []=>[]
 | .ow id::l=>id::KP l
 | .own id _ _::l=>id::KP l
 | _::l=>KP l
def HH (l:List V):List Nat:=l.flatMap λv=>KP v.cells
def E6:List (Bool×Ty)->Bool
 | []=>false
 | p::l=>p.2.hasSl||E6 l
def Ty.leaf:Ty->Bool
 | .unit | .pair _ _=>false
 | _=>true
def Gn (l:List (Bool×Ty)):Bool:=l.all λp=>Nat.ble p.2.depth 4&&(p.1||p.2.leaf)
def Hi (h:H) (sg:Sg) (args:List V) (K:V->H->Option β):Option β :=
 bif !Gn sg.dom || !Gn sg.cod then none else Et h sg.dom args λx=>Gm (bif E6 sg.cod then FS h (HH args) else some h) λh=>bd (sg.fn x) λy=>K (Yr sg.cod y) h
def SF (h:H) (id:Nat):(sg:Sg)->List V->(V->H->Option β)->Option β
 | ⟨dom,[(false,.sl g c)],fn⟩,args,K=>bif !Gn dom || !Nat.ble c.depth 3 then none else Et h dom args λx=>Gm (bif c.hasSl then FS h (HH args) else some h) λh=>bd (fn x) λy=>K (.ow id) (Ad h id (.row g c y false false false))
 | _,_,_=>none
def HI:Nat:=1048576
def G2:Nat:=2097152
def gh (f:Nat):Nat:=bif Nat.blt f HI then f else f-HI
def getD (tab:Ie) (f:FuncId):Option Sg:=bif Nat.blt f HI then (match tab f with
 | some r=>r
 | none=>match tab (f+HI) with
  | some r=>r
  | none=>none) else none
def getR (tab:Ie) (f:FuncId):Option Sg:=bif Nat.blt f HI then (match tab (f+G2) with
 | some r=>r
 | none=>none) else none
def Qv:Nat:=3145728
def jJ:Bool×Ty->Bool
 | (true,.pair _ .unit)=>true
 | _=>false
def getP (tab:Ie) (f:FuncId):Option Sg:=bif Nat.blt f HI then (match tab (f+Qv) with
 | some r=>r
 | none=>none) else none
def fF:Nat:=4194304
def getL (tab:Ie) (f:FuncId):Option Sg:=bif Nat.blt f HI then (match tab (f+fF) with
 | some r=>r
 | none=>none) else none
def JT (h:H):List (Bool×Ty)->List V->Option (List V×List Nat)
 | p::l,v::vs=>match JT h l vs with
  | some a=>bif jJ p then (match v with
    | .ptr j off=>(match h.get j with
     | some (.box cs _ _)=>bif Nat.blt off cs.length then some (.agg (cs.drop off)::a.1,j::a.2) else none
     | _=>none)
    | _=>none) else some (v::a.1,a.2)
  | none=>none
 | _,vs=>some (vs,[])
def jU:V->V
 | .agg cs => .pv cs
 | v=>v
def Ys:List (Bool×Ty)->List V->List V
 | p::l,v::vs=>(bif jJ p then jU v else v)::Ys l vs
 | _,vs=>vs
inductive TgA where
 | fn (f:FuncId)
 | yl (id:Nat)
abbrev OD:=(β:Type)->TgA->Option UMA->List V->H->Nat->(OutA->Option UMA->H->Nat->Option β)->Option β
abbrev KA (β:Type):=ExA->FrA->H->Nat->Option β
def MZ (fr:FrA) (dst:Option Nat) (v:V) (K:FrA->Option β):Option β:=match dst with
 | none=>K fr
 | some d=>bif Nat.blt d fr.nt then K { fr with t:=T.put 20 fr.t d v } else none
def Qw (ops:List Oper) (t:T V) (g:Option (Nat×Bool)) (yes no:T V->Option β):Option β:=match g with
 | none=>yes t
 | some (j,want)=>match lget ops j with
  | some o=>match o.dst with
   | some d=>match t.get d with
    | some (.bool b)=>br b (λ_=>bif want then yes (T.put 20 t d (.bool true)) else no (T.put 20 t d (.bool true))) (λ_=>bif want then no (T.put 20 t d (.bool false)) else yes (T.put 20 t d (.bool false)))
    | some (.tup [])=>no t
    | _=>none
   | none=>none
  | none=>none
def ER (P:Program) (tab:Ie) (rec:OD) (base:Nat) (ops:List Oper):List (Nat×Oper)->FrA->H->Nat->KA β->Option β
 | [],fr,h,nx,K=>K .normal fr h nx
 | (i,o)::r,fr,h,nx,K=>Qw ops fr.t o.guard
  (λt=>lC P t h (base+i) o fun
   | .val v h=>MZ { fr with t } o.dst v λfr=>ER P tab rec base ops r fr h nx K
   | .skip h=>MZ { fr with t } o.dst (.tup []) λfr=>ER P tab rec base ops r fr h nx K
   | .dfr d=>match fr.ro with
    | none=>MZ { fr with t,ds:=d::fr.ds } o.dst (.tup []) λfr=>ER P tab rec base ops r fr h nx K
    | some _=>none
   | .call f args=>match tab f with
    | some none=>none
    | some (some sg)=>bif !Nat.blt f HI then none else (match getR tab f with
     | some sg=>SF h (base+i) sg args λv h=>MZ { fr with t } o.dst v λfr=>ER P tab rec base ops r fr h nx K
     | none=>Hi h sg args λv h=>MZ { fr with t } o.dst v λfr=>ER P tab rec base ops r fr h nx K)
    | none=>rec β (.fn f) none args h nx λo' _ h nx=>match o' with
     | .ret v=>MZ { fr with t } o.dst v λfr=>ER P tab rec base ops r fr h nx K
     | .pan [{ v,recovered:=false }]=>K (.panic v) { fr with t } h nx
     | _=>none
   | .yield l args=>rec β (.yl l) none args h nx λo' _ h nx=>match o' with
     | .ret v=>MZ { fr with t } o.dst v λfr=>ER P tab rec base ops r fr h nx K
     | _=>none
   | .pan v=>K (.panic v) { fr with t } h nx
   | .rcv=>match fr.ro with
    | some _=>none
    | none=>match fr.up with
     | some (.pan ({ v,recovered:=false }::older))=>MZ { fr with t,up:=some (.pan ({ v,recovered:=true }::older)) } o.dst v λfr=>ER P tab rec base ops r fr h nx K
     | _=>MZ { fr with t } o.dst .nili λfr=>ER P tab rec base ops r fr h nx K)
  (λt=>MZ { fr with t } o.dst (.tup []) λfr=>ER P tab rec base ops r fr h nx K)
def A2:Op->Nat
 | .move _ | .assign _ | .pick _ _ _ | .build _ _ | .nilCheck _ | .binOp _ _ _ _ _ | .unOp _ _ _ | .convert _ _ _ | .makeInterface _ _ | .makeFunc _ _ _ | .fieldAddr _ _ _ | .field _ _ _ | .index _ _ _ | .typeAssert _ _ _ _ | .extract _ _=>0
 | .load _ _ | .indexAddr _ _ _=>1
 | .slice _ _ _ _ none=>1
 | .slice _ _ _ _ (some _)=>4
 | .call c=>match c.callee with
  | .builtin b=>match b with
   | .len | .cap | .max | .min=>1
   | .append | .copy=>4
   | _=>9
  | _=>9
 | .buildSlice _ _ _=>4
 | .alloc _ | .box _ _ | .makeMap _ none | .makeSlice _ _ _=>2
 | .store _ _ _=>3
 | _=>9
def Ll (h:H) (id:Nat):Bool:=match h.get id with
 | some .dead=>false
 | some _=>true
 | none=>false
def gi (h:H):V->Bool
 | .ow id | .own id _ _ | .ptr id _ | .ept id _ _ | .mp id=>Ll h id
 | _=>true
def Lm (h:H) (t:T V):List Operand->Bool
 | []=>true
 | .tmp k::l=>(match t.get k with
  | some v=>gi h v
  | none=>false)&&Lm h t l
 | _::l=>Lm h t l
def Wq (t:T V):List Operand->Option (List Nat×Bool)
 | []=>some ([],false)
 | .tmp k::l=>match t.get k with
  | some (.ow id) | some (.own id _ _) | some (.ptr id _) | some (.ept id _ _) | some (.mp id)=>(Wq t l).map λa=>(id::a.1,a.2)
  | some (.lf _ _ _ _) | some (.view _)=>(Wq t l).map λa=>(a.1,true)
  | some _=>Wq t l
  | none=>none
 | _::l=>Wq t l
def jV (f:V->Option (List Nat×Bool)):List V->Option (List Nat×Bool)
 | []=>some ([],false)
 | v::vs=>match f v,jV f vs with
  | some a,some b=>some (a.1++b.1,a.2||b.2)
  | _,_=>none
def Yt (h:H) (id:Nat):Bool:=match h.get id with
 | some (.row _ c _ _ _ _)=>c.hasSl
 | _=>true
def lD (h:H):Nat->V->Option (List Nat×Bool)
 | 0,_=>none
 | n+1,v=>match v with
  | .bool _ | .int _ _ | .str _ | .nils | .pl _ _ _ | .exl _ _=>some ([],false)
  | .lf _ _ _ _=>some ([],true)
  | .ow id | .own id _ _=>bif Ll h id then some ([id],Yt h id) else none
  | .agg cs=>jV (lD h n) cs
  | _=>none
def fG (h:H) (t:T V):List Operand->Option (List Nat×Bool)
 | []=>some ([],false)
 | .tmp k::l=>match t.get k with
  | some v=>(match lD h 6 v,fG h t l with
   | some a,some b=>some (a.1++b.1,a.2||b.2)
   | _,_=>none)
  | none=>none
 | _::l=>fG h t l
def fH (t:T V):List Operand->Option (List Nat×Bool)
 | []=>some ([],false)
 | .tmp k::l=>match t.get k with
  | some (.mp id)=>(fH t l).map λa=>(id::a.1,a.2)
  | some _=>fH t l
  | none=>none
 | _::l=>fH t l
def Dg (h:H) (l:List V):Option (List Nat×Bool):=jV (lD h 6) l
def jW (js:List Nat) (o:Option (List Nat×Bool)):Option (List Nat×Bool):=o.map λa=>(js++a.1,a.2)
def iO (t:T V):Op->Bool
 | .slice _ (.tmp k) _ _ (some _)=>match t.get k with
  | some (.pl _ _ _) | some .nils=>true
  | _=>false
 | .slice _ _ _ _ (some _)=>false
 | _=>true
def fp (h:H) (t:T V) (o:Op):Option (List Nat×Bool):=match o with
 | .load _ _ | .indexAddr _ _ _ | .slice _ _ _ _ none | .store _ _ _=>Wq t (Pi.CN o)
 | .slice _ x _ _ (some _)=>fG h t [x]
 | .buildSlice _ _ parts=>fG h t (parts.toList.map (·.2))
 | .call c=>match c.callee with
  | .builtin b=>(match b with
   | .len=>fH t c.args.toList
   | .cap | .max | .min | .append | .copy=>Wq t c.args.toList
   | _=>none)
  | _=>none
 | .alloc _ | .box _ _ | .makeMap _ none | .makeSlice _ _ _=>some ([],false)
 | _=>none
def SG (v:V):Option (List Nat×Bool)->Option (List Nat×Bool)
 | some a=>match v with
  | .ow id | .own id _ _ | .ptr id _ | .ept id _ _ | .mp id=>some (id::a.1,a.2)
  | .lf _ _ _ _ | .view _=>some (a.1,true)
  | _=>some a
 | none=>none
def SH:List (Bool×Ty)->Bool
 | [(false,.sl _ _)]=>true
 | _=>false
def Pk (h:H):List Nat->Bool
 | []=>true
 | j::l=>Ll h j&&Pk h l
def SI (h:H):List Nat->Bool
 | []=>true
 | j::l=>(h.get j).isSome&&SI h l
def jX (h:H):Option (List Nat×Bool)->Option (List Nat×Bool)->Bool
 | some a,some b => !Pi.GH a.1 b.1&&(!(a.2&&b.2)&&(Pk h a.1&&SI h b.1))
 | _,_=>false
def HJ (h:H) (bef c:Nat) (f:Option (List Nat×Bool)):List (Nat×Nat×Option (List Nat×Bool))->Bool
 | []=>true
 | (j,d,g)::l=>(Pi.Kk bef j||(Nat.beq c 0||(Nat.beq c 2||(Nat.beq d 0||(Nat.beq c 1&&Nat.beq d 1||jX h f g)))))&&HJ h bef c f l
def Fp:Op->Bool
 | .call c=>match c.callee with
  | .builtin _=>false
  | _=>true
 | _=>false
def NY (t:T V) (nt:Nat) (dst:Option Nat) (v:V) (K:T V->Option β):Option β:=match dst with
 | some d=>bif Nat.blt d nt then K (T.put 20 t d v) else none
 | none=>K t
def Dh (P:Program) (tab:Ie) (base nt:Nat) (ops:List Oper):Nat->List Oper->List Pi.Mk->List (Nat×Nat×Option (List Nat×Bool))->T V->H->(T V->H->Option β)->Option β
 | i,o::l,m::ms,past,t,h,K=>Qw ops t o.guard
  (λt=>bif !Pi.CA o.op then none else
   lC P t h (base+i) o fun
    | .val v h1=>bif (Nat.ble (A2 o.op) 2||Nat.beq (A2 o.op) 4)&&(iO t o.op&&(Lm h t (Pi.CN o.op)&&HJ h m.bef (A2 o.op) (fp h t o.op) past)) then NY t nt o.dst v λt'=>Dh P tab base nt ops (i+1) l ms ((i,A2 o.op,bif Nat.ble (A2 o.op) 1 then fp h t o.op else SG v (fp h t o.op))::past) t' h1 K else none
    | .skip h1=>bif Nat.beq (A2 o.op) 3&&(Lm h t (Pi.CN o.op)&&HJ h m.bef 3 (fp h t o.op) past) then NY t nt o.dst (.tup []) λt'=>Dh P tab base nt ops (i+1) l ms ((i,3,fp h t o.op)::past) t' h1 K else none
    | .call f args=>match getR tab f with
     | some sg=>bif !Fp o.op || !HJ h m.bef 4 (Dg h args) past then none else SF h (base+i) sg args λv h1=>NY t nt o.dst v λt=>Dh P tab base nt ops (i+1) l ms ((i,4,SG v (Dg h args))::past) t h1 K
     | none=>match getL tab f with
     | some sg=>bif !Fp o.op then none else bif !HJ h m.bef 4 (Dg h args) past then none else Hi h sg args λv h1=>NY t nt o.dst v λt=>Dh P tab base nt ops (i+1) l ms ((i,4,Dg h args)::past) t h1 K
     | none=>match getD tab f with
      | some sg=>bif !Fp o.op then none else bif E6 sg.cod then
        (bif !HJ h m.bef 4 (Dg h args) past then none else Hi h sg args λv h1=>NY t nt o.dst v λt=>Dh P tab base nt ops (i+1) l ms ((i,4,bif SH sg.cod then none else Dg h args)::past) t h1 K)
       else bif !HJ h m.bef 1 (Dg h args) past then none else Hi h sg args λv h1=>NY t nt o.dst v λt=>Dh P tab base nt ops (i+1) l ms ((i,1,Dg h args)::past) t h1 K
      | none=>match getP tab f with
       | some sg=>bif !Fp o.op||E6 sg.cod then none else Gm (JT h sg.dom args) λa=>bif !HJ h m.bef 1 (jW a.2 (Dg h a.1)) past then none else Hi h sg a.1 λv h1=>NY t nt o.dst v λt=>Dh P tab base nt ops (i+1) l ms ((i,1,jW a.2 (Dg h a.1))::past) t h1 K
       | none=>none
    | _=>none)
  (λt=>NY t nt o.dst (.tup []) λt=>Dh P tab base nt ops (i+1) l ms past t h K)
 | _,[],_,_,t,h,K=>K t h
 | _,_,_,_,_,_,_=>none
def Tw (P:Program) (tab:Ie) (base:Nat) (ops:List Oper) (fr:FrA) (h:H) (K:FrA->H->Option β):Option β :=
 Gm (Pi.Ju ops 0 ops []) λms=>Dh P tab base fr.nt ops 0 ops ms [] fr.t h λt h=>K { fr with t } h
end
def BA.locked:BA->Bool
 | .box _ _ lk=>lk
 | .row _ _ _ _ _ lk=>lk
 | .mp _ _ _ _ lk=>lk
 | _=>false
def Di (t:T V):List Nat->T V
 | [] => .lf
 | k::l=>match t.get k with
  | some v=>T.put 20 (Di t l) k v
  | none=>Di t l
def HK:BA->BA
 | .box cs fz _ => .box cs fz true
 | .row g c l ex fz _ => .row g c l ex fz true
 | .mp k g c l _ => .mp k g c l true
 | b=>b
def Dj (h:H) (f:BA->BA):List Nat->H
 | [] => .lf
 | k::l=>match h.get k with
  | some .dead=>Dj h f l
  | some b=>T.put 20 (Dj h f l) k (f b)
  | none=>Dj h f l
section
variable {β:Type}
def SJ (h:H) (g:Bool) (c:Ty) (ex:Bool) (v:V) (K:List c.den->Option β):Option β:=match v with
 | .nils=>bif ex then none else K []
 | .ow id=>match h.get id with
  | some (.row g' _ l ex' false false)=>bif g == g'&&ex == ex' then Hh l K else none
  | _=>none
 | _=>none
def JA (h:H):(l:List Sgm)->List V->(OC l->Option β)->Option β
 | [],cs,K=>match cs with
  | []=>K ()
  | _=>none
 | [.lf c],cs,K=>IF .lf c cs λx r=>match r with
  | []=>K x
  | _=>none
 | [.ow g c ex],cs,K=>match cs with
  | [v]=>SJ h g c ex v K
  | _=>none
 | .lf c::q::r,cs,K=>IF .lf c cs λx cs=>JA h (q::r) cs λy=>K (x,y)
 | .ow g c ex::q::r,cs,K=>match cs with
  | v::cs=>SJ h g c ex v λx=>JA h (q::r) cs λy=>K (x,y)
  | _=>none
 | [.kp id],cs,K=>match cs with
  | [.ow j]=>bif Nat.beq j id then K () else none
  | _=>none
 | .kp id::q::r,cs,K=>match cs with
  | .ow j::cs=>bif Nat.beq j id then JA h (q::r) cs λy=>K ((),y) else none
  | _=>none
def Yu (h:H) (g:Bool) (c:Ty) (v:V) (K:List c.den×Nat->Option β):Option β:=match v with
 | .own j off len=>match h.get j with
  | some (.row g' _ l true false false)=>bif g == g'&&Nat.beq off 0 then Hh l λl=>K (l,len) else none
  | _=>none
 | _=>none
def NO (t:T V) (h:H):(p:Pl)->(p.den->Option β)->Option β
 | .slot k g c,K=>Gm (t.get k) λv=>N6 .lf g c v K
 | .srow k g c ex,K=>Gm (t.get k) λv=>SJ h g c ex v K
 | .swin k g c,K=>Gm (t.get k) λv=>Yu h g c v K
 | .box id sg,K=>match h.get id with
  | some (.box cs false false)=>JA h sg cs K
  | _=>none
 | .map id k g c,K=>match h.get id with
  | some (.mp _ g' _ l false)=>bif g == g' then gf l K else none
  | _=>none
def GO (t:T V) (h:H):(l:List Pl)->(DC l->Option β)->Option β
 | [],K=>K ()
 | [p],K=>NO t h p K
 | p::q::r,K=>NO t h p λx=>GO t h (q::r) λy=>K (x,y)
end
def G0 (h:H) (nx:Nat):(l:List Sgm)->OC l->List V×H×Nat
 | [],_=>([],h,nx)
 | [.lf c],x=>(cells c x,h,nx)
 | [.ow g c ex],l=>([.ow nx],Ad h nx (.row g c l ex false false),nx+1)
 | .lf c::q::r,x=>match G0 h nx (q::r) x.2 with
  | (cs,h,nx)=>(cells c x.1++cs,h,nx)
 | .ow g c ex::q::r,x=>match G0 (Ad h nx (.row g c x.1 ex false false)) (nx+1) (q::r) x.2 with
  | (cs,h,n')=>(.ow nx::cs,h,n')
 | [.kp id],_=>([.ow id],h,nx)
 | .kp id::q::r,x=>match G0 h nx (q::r) x.2 with
  | (cs,h,n')=>(.ow id::cs,h,n')
def FA (t:T V) (h:H) (nx:Nat):(p:Pl)->p.den->T V×H×Nat
 | .slot k g c,x=>(T.put 20 t k (Wn g c x),h,nx)
 | .srow k g c ex,l=>(T.put 20 t k (.ow nx),Ad h nx (.row g c l ex false false),nx+1)
 | .swin k g c,x=>(T.put 20 t k (.own nx 0 x.2),Ad h nx (.row g c x.1 true false false),nx+1)
 | .box id sg,x=>match G0 h nx sg x with
  | (cs,h,nx)=>(t,Ad h id (.box cs false false),nx)
 | .map id k g c,l=>(t,Ad h id (.mp k g c l false),nx)
def Bs (t:T V) (h:H) (nx:Nat):(l:List Pl)->DC l->T V×H×Nat
 | [],_=>(t,h,nx)
 | [p],x=>FA t h nx p x
 | p::q::r,x=>match FA t h nx p x.1 with
  | (t,h,nx)=>Bs t h nx (q::r) x.2
def BM:List Pl->List Nat
 | []=>[]
 | .box id _::l | .map id _ _ _::l=>id::BM l
 | _::l=>BM l
def Yv:V->List Nat
 | .own id _ _=>[id]
 | _=>[]
def E8:V->List Nat
 | .ow id=>[id]
 | _=>[]
def C3:List Sgm->List V->List Nat
 | [],_=>[]
 | .lf c::r,cs=>C3 r (cs.drop c.wd)
 | .ow _ _ _::r,cs=>(match cs with
  | v::_=>E8 v
  | []=>[])++C3 r (cs.drop 1)
 | .kp _::r,cs=>C3 r (cs.drop 1)
def Ce (t:T V) (h:H):List Pl->List Nat
 | []=>[]
 | .slot _ _ _::l=>Ce t h l
 | .map id _ _ _::l=>id::Ce t h l
 | .srow k _ _ _::l=>(match t.get k with
  | some v=>E8 v
  | none=>[])++Ce t h l
 | .swin k _ _::l=>(match t.get k with
  | some v=>Yv v
  | none=>[])++Ce t h l
 | .box id sg::l=>(match h.get id with
  | some (.box cs _ _)=>C3 sg cs
  | _=>[])++id::Ce t h l
def D6:List Nat->Bool
 | []=>true
 | a::l => !l.any (Nat.beq a)&&D6 l
def OE (nx:Nat):List Sgm->Bool
 | []=>true
 | .kp id::l=>Nat.blt id nx&&OE nx l
 | .lf _::l | .ow _ _ _::l=>OE nx l
def CB (nt nx:Nat):List Pl->Bool
 | []=>true
 | .slot k _ _::l | .srow k _ _ _::l | .swin k _ _::l=>Nat.blt k nt&&CB nt nx l
 | .box _ sg::l=>OE nx sg&&CB nt nx l
 | .map _ _ _ _::l=>CB nt nx l
def Gv (h:H) (n:Nat) (l:List Nat):List Nat:=l++(List.range n).filter λi=>(match h.get i with
 | some c=>c.locked
 | none=>false) && !l.any (Nat.beq i)
def Fq:Code->Option Nat
 | .region id _ _=>some id
 | .seq a b=>match Fq a with
  | some i=>some i
  | none=>Fq b
 | .cond _ a b=>match Fq a with
  | some i=>some i
  | none=>Fq b
 | .block _ b | .loop b | .scope b=>Fq b
 | .rangeFunc _ _ a b=>match Fq a with
  | some i=>some i
  | none=>Fq b
 | _=>none
def Hj:Code->Option Nat
 | .region id _ _=>some id
 | .seq a b=>match Hj b with
  | some i=>some i
  | none=>Hj a
 | .cond _ a b=>match Hj b with
  | some i=>some i
  | none=>Hj a
 | .block _ b | .loop b | .scope b=>Hj b
 | .rangeFunc _ _ a b=>match Hj b with
  | some i=>some i
  | none=>Hj a
 | _=>none
def iQ (x:Code):Nat:=match Fq x,Hj x with
 | some i,some k=>1000000+(i*1000+k)
 | _,_=>0
def Eu:Code->List Nat
 | .region _ ops _=>ops.toList.filterMap (·.dst)
 | .seq a b | .cond _ a b=>Eu a++Eu b
 | .block _ b | .loop b | .scope b=>Eu b
 | _=>[]
def NP (h:H):List Nat->Bool
 | []=>true
 | id::l=>(match h.get id with
  | some (.df (some []))=>true
  | some (.df _)=>false
  | _=>true)&&NP h l
def Ln (h:H):List Nat->List Nat
 | []=>[]
 | id::l=>match h.get id with
  | some (.df _)=>id::Ln h l
  | _=>Ln h l
def Kz (h:H):List Nat->Bool
 | []=>true
 | id::l=>(match h.get id with
  | some (.df (some []))=>true
  | _=>false)&&Kz h l
def KZ (h:H):List (Nat×Nat×Option Code)->Bool
 | []=>true
 | (id,st,pd)::l=>(match h.get id with
  | some (.lp st' pd' _ _ _ _ _ _)=>Nat.beq st st'&&(match pd,pd' with
   | none,none=>true
   | some .ret,some .ret=>true
   | some (.exit i),some (.exit j)=>Nat.beq i j
   | some (.goto i),some (.goto j)=>Nat.beq i j
   | _,_=>false)
  | _=>false)&&KZ h l
def Fs (h:H):List (Nat×Nat×Option Code)->H
 | []=>h
 | (id,st,pd)::l=>match h.get id with
  | some (.lp _ _ nt t ps asg body d)=>Ad (Fs h l) id (.lp st pd nt t ps asg body d)
  | _=>Fs h l
def D7 (h:H):List Nat->List (Nat×Nat×Option Code)
 | []=>[]
 | id::l=>match h.get id with
  | some (.lp st pd _ _ _ _ _ _)=>(id,st,pd)::D7 h l
  | _=>D7 h l
section
variable {β:Type}
def fI (h:H) (n:Nat) (v:V) (K:V->H->Option β):Option β:=match v with
 | .ow j=>match h.get j with
  | some (.row g c l _ _ false)=>K (.lf false g c l) (Dj h (λb=>b) ((List.range n).filter λi => !Nat.beq i j))
  | _=>none
 | .own j off len=>match h.get j with
  | some (.row g c l _ _ false)=>gd (A6 (AJ off len) (AA l)) λ_=>K (.lf false g c (B3 l off (AJ off len))) (Dj h (λb=>b) ((List.range n).filter λi => !Nat.beq i j))
  | _=>none
 | _=>none
def fJ (n:Nat):List (Nat×Nat)->H->(H->Option β)->Option β
 | [],h,K=>K h
 | (b,i)::r,h,K=>match h.get b with
  | some (.box cs fz false)=>Gm (lget cs i) λv=>fI h n v λv' h'=>fJ n r (Ad h' b (.box (Pi.lset cs i v') fz false)) K
  | _=>none
def fK (n:Nat):List Nat->FrA->H->(FrA->H->Option β)->Option β
 | [],fr,h,K=>K fr h
 | k::r,fr,h,K=>bif Nat.blt k 1048575 then Gm (fr.t.get k) λv=>fI h n v λv' h'=>fK n r { fr with t:=T.put 20 fr.t k v' } h' K else none
def jY (h:H) (ex:ExA) (pay:Ty):ExK->(pay.den->Option β)->Option β
 | .exit i,K=>match ex with
  | .exit j=>bif Nat.beq i j then K (Vj pay) else none
  | _=>none
 | .ret,K=>match ex with
  | .ret=>K (Vj pay)
  | _=>none
 | .pan t g c,K=>match ex with
  | .panic (.ifc t' v)=>bif Nat.beq t t' then (if e:c=pay then N6 .lf g c v λx=>K (e ▸ x) else none) else none
  | _=>none
def jZ (ex:ExA):ExK->Bool
 | .exit i=>match ex with
  | .exit j=>Nat.beq i j
  | _=>false
 | .ret=>match ex with
  | .ret=>true
  | _=>false
 | .pan t _ _=>match ex with
  | .panic (.ifc t' _)=>Nat.beq t t'
  | _=>false
def Ma (h:H) (ids:List Nat) (ex:ExA) (pay:Ty):Nat->List (ExK×List (Nat×Nat×Option Code))->(Nat->pay.den->Option β)->Option β
 | _,[],_=>none
 | i,(k,lp)::l,K=>bif jZ ex k&&(KZ h lp&&(lp.map (·.1)) == ids) then jY h ex pay k (K i) else Ma h ids ex pay (i+1) l K
def Qx (pay:Ty) (x:pay.den):ExK->ExA
 | .exit i => .exit i
 | .ret => .ret
 | .pan t g c=>if e:c=pay then .panic (.ifc t (Wn g c (e ▸ x))) else .normal
def SK (pay:Ty) (x:pay.den) (n:Nat):Nat->List (ExK×List (Nat×Nat×Option Code))->(ExA->List (Nat×Nat×Option Code)->Option β)->Option β
 | _,[],_=>none
 | _,[(k,lp)],K=>K (Qx pay x k) lp
 | i,(k,lp)::e::l,K=>br (neq n i) (λ_=>K (Qx pay x k) lp) λ_=>SK pay x n (i+1) (e::l) K
end
def Lo:Nat->List V->T V->T V
 | _,[],t=>t
 | i,a::l,t=>Lo (i+1) l (T.put 20 t i a)
def If (nt:Nat):List Nat->List V->T V->Option (T V)
 | [],[],t=>some t
 | p::ps,a::l,t=>bif Nat.blt p nt then If nt ps l (T.put 20 t p a) else none
 | _,_,_=>none
section
variable {β:Type}
def Lp (P:Program) (tab:Ie) (ann:Pj) (f:FuncId) (rec:OD):Nat->(β:Type)->Nat->Code->FrA->H->Nat->KA β->Option β
 | 0,_,_,_,_,_,_,_=>none
 | n+1,β,b,c,fr,h,nx,K=>match c with
  | .skip | .label _=>K .normal fr h nx
  | .seq x y=>match ann f (iQ x) nx with
   | some (.join j) =>
    let ids:=BM j.pl0++BM j.pl1
    let kb:=Gv h nx j.kb
    bif fr.up.isSome || !CB fr.nt nx j.pl0 || !CB fr.nt nx j.pl1 || !j.keep.all (λk=>Nat.blt k 1048575)||(Eu x).any (λk=>j.keep.any (Nat.beq k)) || !D6 (Ce fr.t h j.pl0++kb) || !(kb++ids).all (λi=>Nat.blt i nx) || !NP h kb||kb.any (λi=>ids.any (Nat.beq i)) then none else
    let lps:=D7 h kb
    let dfs:=Ln h kb
    GO fr.t h j.pl0 λs0 =>
    jn (α:=DC j.pl0) (β:=β) (γ:=Nat×DC j.pl1×j.pay.den) (δ:=DC j.pl1) (λs =>
      match Bs (Di fr.t j.keep) (Dj h HK kb) nx j.pl0 s with
      | (t1,h1,nx1)=>bif !Nat.ble nx1 1048575 then none else Lp P tab ann f rec n (LR (DC j.pl1) (Nat×DC j.pl1×j.pay.den)) nx1 x { fr with t:=t1 } h1 nx1 λe fr' h' _ =>
       bif !Nat.beq fr'.ds.length fr.ds.length || !Kz h' dfs then none else match e with
       | .normal=>bif D6 (Ce fr'.t h' j.pl1++kb)&&KZ h' lps then GO fr'.t h' j.pl1 λs'=>some (.nx s') else none
       | e=>bif D6 (Ce fr'.t h' j.pl1++kb) then Ma h' (lps.map (·.1)) e j.pay 0 j.ex λi p=>GO fr'.t h' j.pl1 λs'=>some (.dn (i,s',p)) else none) s0
     (λs=>match Bs (Di fr.t j.keep) (Fs (Dj h (λb=>b) kb) lps) nx j.pl1 s with
      | (t1,h1,nx1)=>bif !Nat.ble nx1 1048575 then none else Lp P tab ann f rec n β b y { fr with t:=t1 } h1 nx1 K)
     (λx=>SK j.pay x.2.2 x.1 0 j.ex λe lp=>match Bs (Di fr.t j.keep) (Fs (Dj h (λb=>b) kb) lp) nx j.pl1 x.2.1 with
      | (t1,h1,nx1)=>bif !Nat.ble nx1 1048575 then none else K e { fr with t:=t1 } h1 nx1)
   | _=>Lp P tab ann f rec n β b x fr h nx λe fr h nx=>match e with
    | .normal=>Lp P tab ann f rec n β b y fr h nx K
    | e=>K e fr h nx
  | .cond c x y=>DD fr.t c λv=>match v with
   | .bool c=>br c (λ_=>Lp P tab ann f rec n β b x fr h nx K) (λ_=>Lp P tab ann f rec n β b y fr h nx K)
   | _=>none
  | .block id x=>Lp P tab ann f rec n β b x fr h nx λe fr h nx=>match e with
   | .exit j=>bif Nat.beq j id then K .normal fr h nx else K (.exit j) fr h nx
   | e=>K e fr h nx
  | .loop x=>match (match Fq x with
    | some i=>ann f i nx
    | none=>none) with
   | some (.loop tm) =>
    fJ nx tm.rel h λh=>fK nx tm.relS fr h λfr h =>
    let ids:=BM tm.pl++BM tm.plx
    let kb:=Gv h nx tm.kb
    bif fr.up.isSome || !CB fr.nt nx tm.pl || !CB fr.nt nx tm.plx || !tm.keep.all (λk=>Nat.blt k 1048575)||(Eu x).any (λk=>tm.keep.any (Nat.beq k)) || !D6 (Ce fr.t h tm.pl++kb) || !(kb++ids).all (λi=>Nat.blt i nx) || !NP h kb||kb.any (λi=>(BM tm.plx).any (Nat.beq i)) then none else
    let lps:=D7 h kb
    let dfs:=Ln h kb
    GO fr.t h tm.pl λs0 =>
    bd (loop (α:=DC tm.pl) (β:=Nat×DC tm.plx×tm.pay.den) (λs =>
      match Bs (Di fr.t tm.keep) (Dj h HK kb) nx tm.pl s with
      | (t1,h1,nx1)=>bif !Nat.ble nx1 1048575 then none else Lp P tab ann f rec n (LR (DC tm.pl) (Nat×DC tm.plx×tm.pay.den)) nx1 x { fr with t:=t1 } h1 nx1 λe fr' h' _ =>
       bif !Nat.beq fr'.ds.length fr.ds.length || !Kz h' dfs then none else match e with
       | .normal=>bif D6 (Ce fr'.t h' tm.pl++kb)&&KZ h' lps then GO fr'.t h' tm.pl λs'=>some (.nx s') else none
       | e=>bif D6 (Ce fr'.t h' tm.plx++kb) then Ma h' (lps.map (·.1)) e tm.pay 0 tm.ex λi p=>GO fr'.t h' tm.plx λs'=>some (.dn (i,s',p)) else none) s0) λx =>
    SK tm.pay x.2.2 x.1 0 tm.ex λe lp=>match Bs (Di fr.t tm.keep) (Fs (Dj h (λb=>b) kb) lp) nx tm.plx x.2.1 with
    | (t1,h1,nx1)=>bif !Nat.ble nx1 1048575 then none else K e { fr with t:=t1 } h1 nx1
   | _=>Lp P tab ann f rec n β b x fr h nx λe fr h nx=>match e with
    | .normal=>Lp P tab ann f rec n β b (.loop x) fr h nx K
    | e=>K e fr h nx
  | .scope x=>Lp P tab ann f rec n β b x fr h nx λe fr h nx=>match e with
   | .goto _=>none
   | e=>K e fr h nx
  | .exit id=>K (.exit id) fr h nx
  | .goto l=>K (.goto l) fr h nx
  | .ret=>K .ret fr h nx
  | .refuse _=>none
  | .region _ ops draw=>bif !Nat.ble (nx+ops.size) 1048575 || !(ops.toList.all λo=>match o.dst with
    | some d=>Nat.blt d fr.nt
    | none=>true) then none else
    bif draw then (bif P.follows .mixedOrders || !Region.departs ops then Tw P tab nx ops.toList fr h λfr h=>K .normal fr h (nx+ops.size) else none)
    else ER P tab rec nx ops.toList (MJ 0 ops.toList) fr h (nx+ops.size) K
  | .rangeFunc g ps asg body=>bif !Nat.ble (nx+2) 1048575 then none else DD fr.t g λv=>match v with
   | .fn g a1 b1 =>
    match (match fr.ro with
     | none=>some (nx,[DFA.col nx],Ad h nx (.df (some [])))
     | some l0=>(match h.get l0 with
      | some (.lp _ _ _ _ _ _ _ d0)=>some (d0,[],h)
      | _=>none)) with
    | some (d,mark,h)=>J8 P g a1 b1 [.yl (nx+1)] λr=>match r with
     | .call g args=>rec β (.fn g) none args (Ad h (nx+1) (.lp 0 none fr.nt fr.t ps.toList asg body d)) (nx+2) λo _ h nx'=>match o with
      | .ret _=>(match h.get (nx+1) with
       | some (.lp st pend nt t ps asg body d)=>bif Nat.beq st 1 then none else
        let h:=Ad h (nx+1) (.lp 3 pend nt t ps asg body d)
        (match pend with
        | none=>K .normal { fr with ds:=mark++fr.ds } h nx'
        | some .ret=>K .ret { fr with ds:=mark++fr.ds } h nx'
        | some (.exit id)=>K (.exit id) { fr with ds:=mark++fr.ds } h nx'
        | some (.goto id)=>K (.goto id) { fr with ds:=mark++fr.ds } h nx'
        | _=>none)
       | _=>none)
      | _=>none
     | _=>none
    | none=>none
   | _=>none
def Pm (P:Program) (h:H) (t:T V):List ResultVar->(List V->Option β)->Option β
 | [],K=>K []
 | .tmp k::l,K=>Gm (t.get k) λv=>Pm P h t l λvs=>K (v::vs)
 | .cell a ty::l,K=>match t.get a with
  | some (.ptr j off)=>match h.get j with
   | some (.box cs _ _)=>Gm (IH P ty (cs.drop off)) λv=>Pm P h t l λvs=>K (v::vs)
   | _=>none
  | _=>none
def Vn:UMA->UMA
 | .pan ({ v:=_,recovered:=true }::_) => .ret
 | u=>u
def Ig (P:Program) (rec:OD) (fn:Func) (β:Type):Nat->List DFA->UMA->T V->H->Nat->(OutA->H->Nat->Option β)->Option β
 | 0,_,_,_,_,_,_=>none
 | n+1,ds,u,t,h,nx,K=>match ds with
  | []=>match u with
   | .ret=>Pm P h t fn.results.toList λvs=>K (.ret (match vs with
    | [v]=>v
    | vs => .tup vs)) h nx
   | .pan ch=>K (.pan ch) h nx
  | .col id::ds=>match h.get id with
   | some (.df (some l))=>Ig P rec fn β n (l++ds) u t (Ad h id (.df none)) nx K
   | _=>none
  | .bi b ats _ args::ds=>match b,args,ats[0]? with
   | .clear,[.mp j],some ty=>(match P.underlying ty,h.get j with
    | some (.map _ _),some (.mp k g c _ false)=>Ig P rec fn β n ds u t (Ad h j (.mp k g c [] false)) nx K
    | _,_=>none)
   | _,_,_=>none
  | .call f args::ds=>match f with
   | .fn (.func g) a b=>J8 P (.func g) a b args λr=>match r with
    | .call g args=>rec β (.fn g) (some u) args h nx λo up h nx=>match o,up with
     | .ret _,some u=>Ig P rec fn β n ds (Vn u) t h nx K
     | _,_=>none
    | _=>none
   | _=>none
def GP (h:H) (nx:Nat) (l:Nat) (jump:Option Code) (K:OutA->Option UMA->H->Nat->Option β):Option β:=match h.get l with
 | some (.lp _ _ nt t ps asg body d)=>K (.ret (.bool jump.isNone)) none (Ad h l (.lp (match jump with | none=>0 | some _=>2) jump nt t ps asg body d)) nx
 | _=>none
def Wr (P:Program) (tab:Ie) (ann:Pj) (F:Nat):Nat->OD
 | 0=>λ_ _ _ _ _ _ _=>none
 | n+1=>λβ tg up args h nx K=>match tg with
  | .fn f=>Gm P.funcs[f]? λfn=>Gm fn.body λc =>
   bif Nat.ble args.length fn.ntmps&&Nat.blt fn.ntmps 1048575 then
    Lp P tab ann f (Wr P tab ann F n) F β nx c { t:=Lo 0 args .lf,nt:=fn.ntmps,ds:=[],up,ro:=none } h nx λe fr h nx=>match e with
     | .normal=>Ig P (Wr P tab ann F n) fn β F fr.ds .ret fr.t h nx λo h nx=>K o fr.up h nx
     | .ret=>Ig P (Wr P tab ann F n) fn β F fr.ds .ret fr.t h nx λo h nx=>K o fr.up h nx
     | .panic e=>Ig P (Wr P tab ann F n) fn β F fr.ds (.pan [{ v:=e,recovered:=false }]) fr.t h nx λo h nx=>K o fr.up h nx
     | _=>none
   else none
  | .yl l=>match h.get l with
   | some (.lp _ _ nt t ps asg body0 _)=>Gm (If nt ps args t) λt =>
    Lp P tab ann 0 (Wr P tab ann F n) F β nx asg { t,nt,ds:=[],up:=none,ro:=some l } h nx λe fr h nx=>match e with
     | .normal=>(match h.get l with
      | some (.lp 0 pend nt t ps asg body d)=>Lp P tab ann 0 (Wr P tab ann F n) F β nx body0 fr (Ad h l (.lp 1 pend nt t ps asg body d)) nx λe _ h nx=>match e with
        | .normal=>GP h nx l none K
        | .ret=>GP h nx l (some .ret) K
        | .exit id=>GP h nx l (some (.exit id)) K
        | .goto id=>GP h nx l (some (.goto id)) K
        | _=>none
      | _=>none)
     | _=>none
   | _=>none
def Ac (P:Program) (tab:Ie) (ann:Pj) (F n:Nat) (f:FuncId) (dom cod:List (Bool×Ty)) (x:AG dom):Option (AG cod) :=
 Wr P tab ann F n (AG cod) (.fn f) none (JS dom x) .lf 0 λo _ h _=>match o with
  | .ret v=>Et h cod (match cod with
   | [_]=>[v]
   | _=>match v with
    | .tup vs=>vs
    | v=>[v]) some
  | _=>none
end
def Pn (P:Program) (tab:Ie) (ann:Pj) (F n:Nat) (f:FuncId) (dom:List (Bool×Ty)) (g:Bool) (c:Ty) (x:AG dom):Option (List c.den) :=
 Wr P tab ann F n (List c.den) (.fn f) none (JS dom x) .lf 0 λo _ h _=>match o with
  | .ret (.ow j)=>(match h.get j with
   | some (.row g' _ l false false _)=>bif g == g' then Hh l some else none
   | _=>none)
  | _=>none
def Vo (P:Program) (tab:Ie) (ann:Pj) (F n:Nat) (f:FuncId) (dom cod:List (Bool×Ty)) (x:AG dom):Option (AG cod) :=
 Wr P tab ann F n (AG cod) (.fn f) none (Ys dom (JS dom x)) .lf 0 λo _ h _=>match o with
  | .ret v=>Et h cod (match cod with
   | [_]=>[v]
   | _=>match v with
    | .tup vs=>vs
    | v=>[v]) some
  | _=>none
def Tx:List (FuncId×Sg)->FuncId->Option Sg
 | [],_=>none
 | (g,sg)::l,f=>bif Nat.beq f g then some sg else Tx l f
def AC (pu:FuncId->Bool) (L:List (FuncId×Sg)):Ie:=λf=>bif pu f then some (Tx L f) else none
def AI:List (Nat×Nat×Nat×An)->Pj
 | [],_,_,_=>none
 | (a,b,c,tm)::l,f,i,nx=>bif Nat.beq f a&&(Nat.beq i b&&Nat.beq nx c) then some tm else AI l f i nx
end Go.Proofs.YthpkjfabdccpdaaGreat.Sv
namespace Go.Proofs.YthpkjfabdccpdaaGreat.Sv
open Go.Proofs.YthpkjfabdccpdaaGreat.Pi (PV T Hp Blk DF UM PE)
inductive L2 {α β:Type} (R:α->β->Prop):List α->List β->Prop where
 | nil:L2 R [] []
 | cons {a:α} {b:β} {l:List α} {m:List β} (h:R a b) (t:L2 R l m):L2 R (a::l) (b::m)
namespace L2
variable {α β:Type} {R S:α->β->Prop}
theorem length {l:List α} {m:List β} (h:L2 R l m):l.length=m.length:=by
 induction h with
 | nil=>rfl
 | cons _ _ ih=>simp [ih]
theorem mono {l:List α} {m:List β} (h:L2 R l m) (f : ∀ a b,R a b->S a b):L2 S l m:=by
 induction h with
 | nil=>exact .nil
 | cons x _ ih=>exact .cons (f _ _ x) ih
theorem append {l l':List α} {m m':List β} (h:L2 R l m) (k:L2 R l' m'):L2 R (l++l') (m++m'):=by
 induction h with
 | nil=>exact k
 | cons x _ ih=>exact .cons x ih
theorem take {l:List α} {m:List β} (h:L2 R l m) : ∀ n,L2 R (l.take n) (m.take n):=by
 induction h with
 | nil=>intro n;simp;exact .nil
 | cons x _ ih=>intro n;cases n with
  | zero=>simp;exact .nil
  | succ n=>exact .cons x (ih n)
theorem drop {l:List α} {m:List β} (h:L2 R l m) : ∀ n,L2 R (l.drop n) (m.drop n):=by
 induction h with
 | nil=>intro n;simp;exact .nil
 | cons x t ih=>intro n;cases n with
  | zero=>exact .cons x t
  | succ n=>exact ih n
theorem get {l:List α} {m:List β} (h:L2 R l m) : ∀ {i:Nat} {a:α},l[i]? = some a -> ∃ b,m[i]? = some b/\R a b:=by
 induction h with
 | nil=>intro i a h;simp at h
 | cons x _ ih=>intro i a h;cases i with
  | zero=>simp at h;subst h;exact ⟨_,rfl,x⟩
  | succ i=>simp at h;obtain ⟨b,h1,h2⟩:=ih h;exact ⟨b,by simpa using h1,h2⟩
theorem set {l:List α} {m:List β} (h:L2 R l m) : ∀ (i:Nat) {a:α} {b:β},R a b->L2 R (l.set i a) (m.set i b):=by
 induction h with
 | nil=>intro i a b h;exact .nil
 | cons x t ih=>intro i a b h;cases i with
  | zero=>exact .cons h t
  | succ i=>exact .cons x (ih i h)
theorem replicate {a:α} {b:β} (h:R a b) : ∀ n,L2 R (List.replicate n a) (List.replicate n b)
 | 0 => .nil
 | n+1 => .cons h (replicate h n)
theorem nil_inv {m:List β} (h:L2 R [] m):m=[]:=by cases h;rfl
theorem nil_inv' {l:List α} (h:L2 R l []):l=[]:=by cases h;rfl
theorem cons_inv {a:α} {l:List α} {m:List β} (h:L2 R (a::l) m) : ∃ b t,m=b::t/\R a b/\L2 R l t:=by
 cases h with
 | cons x t=>exact ⟨_,_,rfl,x,t⟩
theorem split {l l':List α} {m:List β} (h:L2 R (l++l') m) : ∃ p q,m=p++q/\L2 R l p/\L2 R l' q:=by
 induction l generalizing m with
 | nil=>exact ⟨[],m,rfl,.nil,h⟩
 | cons a l ih =>
  obtain ⟨b,t,rfl,h1,h2⟩:=cons_inv h;obtain ⟨p,q,rfl,h3,h4⟩:=ih h2;exact ⟨b::p,q,rfl,.cons h1 h3,h4⟩
end L2
def EP {α:Type} (g:Bool) (D:α->List PV->Prop) (x:α) (e:PV):Prop:=match g with
 | true => ∃ cs,e = .agg cs/\D x cs
 | false=>D x [e]
def DP:(c:Ty)->c.den->List PV->Prop
 | .int k,n,ps=>ps=[.int k n]
 | .bool,b,ps=>ps=[.bool b]
 | .str,s,ps=>ps=[.str s]
 | .unit,_,ps=>ps=[]
 | .pair a b,x,ps => ∃ p q,ps=p++q/\DP a x.1 p/\DP b x.2 q
 | .sl g c,l,ps => ∃ p,ps=[p]/\((p = .nils/\l=[]) \/ ∃ f es,p = .lst f es/\L2 (EP g (DP c)) l es)
def DR (h:Hp) (Q:Nat->Prop):(c:Ty)->c.den->List PV->Prop
 | .int k,n,ps=>ps=[.int k n]
 | .bool,b,ps=>ps=[.bool b]
 | .str,s,ps=>ps=[.str s]
 | .unit,_,ps=>ps=[]
 | .pair a b,x,ps => ∃ p q,ps=p++q/\DR h Q a x.1 p/\DR h Q b x.2 q
 | .sl g c,l,ps => ∃ p,ps=[p]/\((p = .nils/\l=[])\/(∃ f es,p = .lst f es/\L2 (EP g (DP c)) l es) \/
   ∃ pid off len es ex fz,p = .own pid off len/\Q pid/\h.get pid=some (.row es ex fz)/\off+len<=es.length/\Pi.GJ c.wd es=true/\L2 (EP g (DR h Q c)) l ((es.drop off).take len))
theorem EP.mono {α:Type} {g:Bool} {D E:α->List PV->Prop} (f : ∀ x ps,D x ps->E x ps) {x:α} {e:PV} (h:EP g D x e):EP g E x e:=by
 cases g with
 | true=>obtain ⟨cs,h1,h2⟩:=h;exact ⟨cs,h1,f _ _ h2⟩
 | false=>exact f _ _ h
theorem DP.up {h:Hp} {Q:Nat->Prop} : ∀ {c:Ty} {x:c.den} {ps:List PV},DP c x ps->DR h Q c x ps
 | .int _,_,_,e=>e
 | .bool,_,_,e=>e
 | .str,_,_,e=>e
 | .unit,_,_,e=>e
 | .pair _ _,_,_,⟨p,q,e,h1,h2⟩=>⟨p,q,e,DP.up h1,DP.up h2⟩
 | .sl _ _,_,_,⟨p,e,h⟩=>⟨p,e,h.elim .inl λh => .inr (.inl h)⟩
def Rows (h h':Hp) (Q Q':Nat->Prop):Prop := ∀ pid es ex fz,Q pid->h.get pid=some (.row es ex fz)->(∃ fz',h'.get pid=some (.row es ex fz'))/\Q' pid
theorem DR.mono {h h':Hp} {Q Q':Nat->Prop} (hr:Rows h h' Q Q') : ∀ {c:Ty} {x:c.den} {ps:List PV},DR h Q c x ps->DR h' Q' c x ps
 | .int _,_,_,e=>e
 | .bool,_,_,e=>e
 | .str,_,_,e=>e
 | .unit,_,_,e=>e
 | .pair _ _,_,_,⟨p,q,e,h1,h2⟩=>⟨p,q,e,DR.mono hr h1,DR.mono hr h2⟩
 | .sl _ _,_,_,⟨p,e,h⟩=>⟨p,e,by
  rcases h with h | h | ⟨pid,off,len,es,ex,fz,h1,h2,h3,h4,h8,h5⟩
  ·exact .inl h
  ·exact .inr (.inl h)
  ·obtain ⟨⟨fz',h6⟩,h7⟩:=hr _ _ _ _ h2 h3
   exact .inr (.inr ⟨pid,off,len,es,ex,fz',h1,h7,h6,h4,h8,h5.mono λ_ _ k=>k.mono λ_ _ k=>DR.mono hr k⟩)⟩
inductive At where
 | blk (pid len:Nat)
 | nil
 | fz (es:List PV)
abbrev Mp:=Nat->Option At
def oh:Mp:=λ_=>none
def Hk:Hp:={ m:=.lf,nx:=0 }
structure Cx where
 π:Mp
 h:Hp
 O:Nat->Prop
def Cx.pure:Cx:={ π:=oh,h:=Hk,O:=λ_=>True }
def Cx.Q (X:Cx) (pid:Nat):Prop := ¬ X.O pid
mutual
def VR (X:Cx):V->PV->Prop
 | .bool b,p=>p = .bool b
 | .int k n,p=>p = .int k n
 | .str s,p=>p = .str s
 | .nilp,p=>p = .nilp
 | .nils,p=>p = .nils
 | .nilm,p=>p = .nilm
 | .nilf,p=>p = .nilf
 | .nili,p=>p = .nili
 | .agg cs,p => ∃ ps,p = .agg ps/\VRL X cs ps
 | .tup cs,p => ∃ ps,p = .tup ps/\VRL X cs ps
 | .lf full g c l,p=>(p = .nils/\l=[])\/(∃ f es,p = .lst f es/\(full=true->f=true)/\L2 (EP g (DP c)) l es) \/
   ∃ pid off len es ex fz,p = .own pid off len/\(full=true->ex=true/\off+len=es.length)/\X.Q pid/\X.h.get pid=some (.row es ex fz)/\off+len<=es.length/\Pi.GJ c.wd es=true/\L2 (EP g (DR X.h X.Q c)) l ((es.drop off).take len)
 | .pl g c l,p=>(p = .nils/\l=[]) \/ ∃ f es,p = .lst f es/\L2 (EP g (DP c)) l es
 | .exl full es,p => ∃ f ps,p = .lst f ps/\(full=true->f=true)/\VRL Cx.pure es ps
 | .ow id,p=>match X.π id with
  | some (.blk pid len)=>p = .own pid 0 len
  | some .nil=>p = .nils
  | some (.fz es)=>p = .lst true es
  | none=>False
 | .own id off len,p => ∃ pid n,X.π id=some (.blk pid n)/\p = .own pid off len
 | .ptr id off,p => ∃ pid n,X.π id=some (.blk pid n)/\p = .ptr pid off
 | .ept id i off,p => ∃ pid n,X.π id=some (.blk pid n)/\p = .ept pid i off
 | .view cs,p=>(∃ ps,p = .view ps/\VRL Cx.pure cs ps) \/ ∃ pid i off es ex fz e,p = .ept pid i off/\X.Q pid/\X.h.get pid=some (.row es ex fz)/\es[i]? = some e/\VRL X cs (e.cells.drop off)
 | .pv cs,p => ∃ ps,p = .view ps/\VRL Cx.pure cs ps
 | .fn f a b,p => ∃ a' b',p = .fn f a' b'/\VRL X a a'/\VRL X b b'
 | .yl id,p => ∃ pid n,X.π id=some (.blk pid n)/\p = .yl pid
 | .ifc t v,p => ∃ q,p = .ifc t q/\VR X v q
 | .mp id,p => ∃ pid n,X.π id=some (.blk pid n)/\p = .mp pid
def VRL (X:Cx):List V->List PV->Prop
 | [],ps=>ps=[]
 | v::vs,ps => ∃ p qs,ps=p::qs/\VR X v p/\VRL X vs qs
end
structure Up (X Y:Cx):Prop where
 pi : ∀ id a,X.π id=some a->Y.π id=some a
 rows:Rows X.h Y.h X.Q Y.Q
theorem Up.refl (X:Cx):Up X X:=⟨λ_ _ h=>h,λ_ _ _ _ h k=>⟨⟨_,k⟩,h⟩⟩
theorem Up.trans {X Y Z:Cx} (a:Up X Y) (b:Up Y Z):Up X Z:=⟨λid x h=>b.pi _ _ (a.pi _ _ h),λpid es ex fz h k=>by
 obtain ⟨⟨fz',h1⟩,h2⟩:=a.rows _ _ _ _ h k
 exact b.rows _ _ _ _ h2 h1⟩
theorem Up.pure (X:Cx):Up Cx.pure X:=⟨λ_ _ h=>(by cases h),λ_ _ _ _ h=>absurd trivial h⟩
mutual
theorem VR.mono {X Y:Cx} (u:Up X Y) : ∀ {v:V} {p:PV},VR X v p->VR Y v p
 | .bool _,_,h | .int _ _,_,h | .str _,_,h | .nilp,_,h | .nils,_,h | .nilm,_,h | .nilf,_,h | .nili,_,h=>by
  simp only [VR] at h ⊢;exact h
 | .agg cs,_,h=>by
  simp only [VR] at h ⊢;obtain ⟨ps,h1,h2⟩:=h;exact ⟨ps,h1,VRL.mono u h2⟩
 | .tup cs,_,h=>by
  simp only [VR] at h ⊢;obtain ⟨ps,h1,h2⟩:=h;exact ⟨ps,h1,VRL.mono u h2⟩
 | .lf full g c l,_,h=>by
  simp only [VR] at h ⊢;rcases h with h | h | ⟨pid,off,len,es,ex,fz,h1,h0,h2,h3,h4,h8,h5⟩
  ·exact .inl h
  ·exact .inr (.inl h)
  ·obtain ⟨⟨fz',h6⟩,h7⟩:=u.rows _ _ _ _ h2 h3;exact .inr (.inr ⟨pid,off,len,es,ex,fz',h1,h0,h7,h6,h4,h8,h5.mono λ_ _ k=>k.mono λ_ _ k=>DR.mono u.rows k⟩)
 | .exl full es,_,h=>by simp only [VR] at h ⊢;exact h
 | .pl _ _ _,_,h=>by simp only [VR] at h ⊢;exact h
 | .pv _,_,h=>by simp only [VR] at h ⊢;exact h
 | .ow id,p,h=>by
  simp only [VR] at h ⊢;cases hx:X.π id with
  | none=>rw [hx] at h;exact h.elim
  | some a=>rw [hx] at h;rw [u.pi _ _ hx];exact h
 | .own id off len,_,h=>by
  simp only [VR] at h ⊢;obtain ⟨pid,n,h1,h2⟩:=h;exact ⟨pid,n,u.pi _ _ h1,h2⟩
 | .ptr id off,_,h=>by
  simp only [VR] at h ⊢;obtain ⟨pid,n,h1,h2⟩:=h;exact ⟨pid,n,u.pi _ _ h1,h2⟩
 | .ept id i off,_,h=>by
  simp only [VR] at h ⊢;obtain ⟨pid,n,h1,h2⟩:=h;exact ⟨pid,n,u.pi _ _ h1,h2⟩
 | .view cs,_,h=>by
  simp only [VR] at h ⊢;rcases h with h | ⟨pid,i,off,es,ex,fz,e,h1,h2,h3,h4,h5⟩
  ·exact .inl h
  ·obtain ⟨⟨fz',h6⟩,h7⟩:=u.rows _ _ _ _ h2 h3;exact .inr ⟨pid,i,off,es,ex,fz',e,h1,h7,h6,h4,VRL.mono u h5⟩
 | .fn f a b,_,h=>by
  simp only [VR] at h ⊢;obtain ⟨a',b',h1,h2,h3⟩:=h;exact ⟨a',b',h1,VRL.mono u h2,VRL.mono u h3⟩
 | .yl id,_,h=>by
  simp only [VR] at h ⊢;obtain ⟨pid,n,h1,h2⟩:=h;exact ⟨pid,n,u.pi _ _ h1,h2⟩
 | .ifc t v,_,h=>by
  simp only [VR] at h ⊢;obtain ⟨q,h1,h2⟩:=h;exact ⟨q,h1,VR.mono u h2⟩
 | .mp id,_,h=>by
  simp only [VR] at h ⊢;obtain ⟨pid,n,h1,h2⟩:=h;exact ⟨pid,n,u.pi _ _ h1,h2⟩
theorem VRL.mono {X Y:Cx} (u:Up X Y) : ∀ {vs:List V} {ps:List PV},VRL X vs ps->VRL Y vs ps
 | [],_,h=>by simp only [VRL] at h ⊢;exact h
 | v::vs,_,h=>by
  simp only [VRL] at h ⊢;obtain ⟨p,qs,h1,h2,h3⟩:=h;exact ⟨p,qs,h1,VR.mono u h2,VRL.mono u h3⟩
end
section
variable {X:Cx}
theorem VRL.nil:VRL X [] []:=by simp [VRL]
theorem VRL.cons {v:V} {p:PV} {vs:List V} {ps:List PV} (h:VR X v p) (t:VRL X vs ps):VRL X (v::vs) (p::ps):=by
 simp only [VRL];exact ⟨p,ps,rfl,h,t⟩
theorem VRL.nil_inv {ps:List PV} (h:VRL X [] ps):ps=[]:=by simpa [VRL] using h
theorem VRL.cons_inv {v:V} {vs:List V} {ps:List PV} (h:VRL X (v::vs) ps) : ∃ p qs,ps=p::qs/\VR X v p/\VRL X vs qs:=by simpa only [VRL] using h
theorem VRL.length : ∀ {vs:List V} {ps:List PV},VRL X vs ps->vs.length=ps.length
 | [],_,h=>by rw [h.nil_inv];rfl
 | v::vs,_,h=>by obtain ⟨p,qs,rfl,_,h2⟩:=h.cons_inv;simp [h2.length]
theorem VRL.append : ∀ {vs ws:List V} {ps qs:List PV},VRL X vs ps->VRL X ws qs->VRL X (vs++ws) (ps++qs)
 | [],_,_,_,h,k=>by rw [h.nil_inv];exact k
 | v::vs,_,_,_,h,k=>by obtain ⟨p,qs,rfl,h1,h2⟩:=h.cons_inv;exact .cons h1 (h2.append k)
theorem VRL.take : ∀ {vs:List V} {ps:List PV} (_:VRL X vs ps) (n:Nat),VRL X (vs.take n) (ps.take n)
 | [],_,h,n=>by rw [h.nil_inv];simpa using VRL.nil
 | v::vs,_,h,0=>by simpa using VRL.nil
 | v::vs,_,h,n+1=>by obtain ⟨p,qs,rfl,h1,h2⟩:=h.cons_inv;exact .cons h1 (h2.take n)
theorem VRL.drop : ∀ {vs:List V} {ps:List PV} (_:VRL X vs ps) (n:Nat),VRL X (vs.drop n) (ps.drop n)
 | [],_,h,n=>by rw [h.nil_inv];simpa using VRL.nil
 | v::vs,_,h,0=>by simpa using h
 | v::vs,_,h,n+1=>by obtain ⟨p,qs,rfl,h1,h2⟩:=h.cons_inv;exact h2.drop n
theorem VRL.lget : ∀ {vs:List V} {ps:List PV} (_:VRL X vs ps) {i:Nat} {v:V},Pi.lget vs i=some v -> ∃ p,Pi.lget ps i=some p/\VR X v p
 | [],_,h,i,v,e=>by simp [Pi.lget] at e
 | w::vs,_,h,i,v,e=>by
  obtain ⟨p,qs,rfl,h1,h2⟩:=h.cons_inv;unfold Pi.lget at e ⊢;cases hb:Nat.beq i 0 with
  | true=>rw [hb] at e;simp at e;subst e;exact ⟨p,rfl,h1⟩
  | false=>rw [hb] at e;simp only [cond_false] at e ⊢;exact h2.lget e
theorem VRL.lset : ∀ {vs:List V} {ps:List PV} (_:VRL X vs ps) (i:Nat) {v:V} {p:PV},VR X v p->VRL X (Pi.lset vs i v) (Pi.lset ps i p)
 | [],_,h,i,v,p,_=>by rw [h.nil_inv];exact .nil
 | w::vs,_,h,i,v,p,hv=>by
  obtain ⟨q,qs,rfl,h1,h2⟩:=h.cons_inv;unfold Pi.lset;cases hb:Nat.beq i 0 with
  | true=>exact .cons hv h2
  | false=>exact .cons h1 (h2.lset _ hv)
theorem VRL.fput {vs xs:List V} {ps qs:List PV} (h:VRL X vs ps) (k:VRL X xs qs) (off:Nat):VRL X (Pf vs off xs) (Pi.Em ps off qs):=by
 unfold Pf Pi.Em;rw [<- k.length];exact (h.take off).append (k.append (h.drop _))
theorem VRL.rep {v:V} {p:PV} (h:VR X v p) : ∀ n,VRL X (List.replicate n v) (List.replicate n p)
 | 0 => .nil
 | n+1 => .cons h (VRL.rep h n)
theorem VR.cells {v:V} {p:PV} (h:VR X v p):VRL X v.cells p.cells:=by
 have one : ∀ (v:V) (p:PV),VR X v p->v.cells=[v]->p.cells=[p]->VRL X v.cells p.cells:=by
  intro v p h h1 h2;rw [h1,h2];exact .cons h .nil
 cases v with
 | bool b=>simp only [VR] at h;subst h;exact one _ _ (by simp [VR]) rfl rfl
 | int k n=>simp only [VR] at h;subst h;exact one _ _ (by simp [VR]) rfl rfl
 | str k=>simp only [VR] at h;subst h;exact one _ _ (by simp [VR]) rfl rfl
 | nilp=>simp only [VR] at h;subst h;exact one _ _ (by simp [VR]) rfl rfl
 | nils=>simp only [VR] at h;subst h;exact one _ _ (by simp [VR]) rfl rfl
 | nilm=>simp only [VR] at h;subst h;exact one _ _ (by simp [VR]) rfl rfl
 | nilf=>simp only [VR] at h;subst h;exact one _ _ (by simp [VR]) rfl rfl
 | nili=>simp only [VR] at h;subst h;exact one _ _ (by simp [VR]) rfl rfl
 | agg cs=>simp only [VR] at h;obtain ⟨ps,rfl,h2⟩:=h;exact h2
 | tup cs=>simp only [VR] at h;obtain ⟨ps,rfl,h2⟩:=h;exact .nil
 | lf f g c l =>
  refine one _ _ h rfl ?_;simp only [VR] at h;rcases h with ⟨rfl,_⟩ | ⟨f,es,rfl,_⟩ | ⟨pid,off,len,es,ex,fz,rfl,_⟩<;>rfl
 | pl g c l =>
  refine one _ _ h rfl ?_;simp only [VR] at h;rcases h with ⟨rfl,_⟩ | ⟨f,es,rfl,_⟩<;>rfl
 | pv cs=>refine one _ _ h rfl ?_;simp only [VR] at h;obtain ⟨_,rfl,_⟩:=h;rfl
 | exl f es =>
  refine one _ _ h rfl ?_;simp only [VR] at h;obtain ⟨f,ps,rfl,_⟩:=h;rfl
 | own id off len=>refine one _ _ h rfl ?_;simp only [VR] at h;obtain ⟨_,_,_,rfl⟩:=h;rfl
 | ptr id off=>refine one _ _ h rfl ?_;simp only [VR] at h;obtain ⟨_,_,_,rfl⟩:=h;rfl
 | ept id i off=>refine one _ _ h rfl ?_;simp only [VR] at h;obtain ⟨_,_,_,rfl⟩:=h;rfl
 | view cs =>
  refine one _ _ h rfl ?_;simp only [VR] at h;rcases h with ⟨ps,rfl,_⟩ | ⟨_,_,_,_,_,_,_,rfl,_⟩<;>rfl
 | fn f a b=>refine one _ _ h rfl ?_;simp only [VR] at h;obtain ⟨_,_,rfl,_⟩:=h;rfl
 | yl id=>refine one _ _ h rfl ?_;simp only [VR] at h;obtain ⟨_,_,_,rfl⟩:=h;rfl
 | ifc t v=>refine one _ _ h rfl ?_;simp only [VR] at h;obtain ⟨_,rfl,_⟩:=h;rfl
 | mp id=>refine one _ _ h rfl ?_;simp only [VR] at h;obtain ⟨_,_,_,rfl⟩:=h;rfl
 | ow id =>
  refine one _ _ h rfl ?_;simp only [VR] at h;split at h
  ·subst h;rfl
  ·subst h;rfl
  ·subst h;rfl
  ·exact h.elim
theorem VR.norm {v:V} {p:PV} (h:VR X v p):VR X v.norm p:=by
 cases v with
 | pl g c l =>
  simp only [VR] at h;simp only [V.norm,VR];rcases h with h | ⟨f,es,h1,h2⟩
  ·exact .inl h
  ·exact .inr (.inl ⟨f,es,h1,(λh=>by cases h),h2⟩)
 | pv cs =>
  simp only [VR] at h;simp only [V.norm,VR];exact .inl h
 | _=>exact h
end
end Go.Proofs.YthpkjfabdccpdaaGreat.Sv
namespace Go.Proofs.YthpkjfabdccpdaaGreat.Sv
open Go.Proofs.YthpkjfabdccpdaaGreat.Pi (PV T Hp Blk DF UM PE)
section
variable {β α:Type}
theorem AX {o:Option α} {K:α->Option β} {x:β} (e:Gm o K=some x) : ∃ y,o=some y/\K y=some x:=by
 cases o with
 | none=>cases e
 | some y=>exact ⟨y,rfl,e⟩
theorem Ap {c:Bool} {K:Unit->Option β} {x:β} (e:gd c K=some x):c=true/\K ()=some x:=by
 cases c with
 | false=>cases e
 | true=>exact ⟨rfl,e⟩
theorem ES {c:Bool} {a b:Unit->Option β} {x:β} (e:br c a b=some x):(c=true/\a ()=some x)\/(c=false/\b ()=some x):=by
 cases c with
 | false=>exact .inr ⟨rfl,e⟩
 | true=>exact .inl ⟨rfl,e⟩
theorem Lq {l:List α} {i:Nat} {K:α->Option β} {x:β} (e:ix l i K=some x) : ∃ y,l[i]? = some y/\K y=some x:=by
 unfold ix at e;split at e
 ·rename_i y hy;exact ⟨y,hy,e⟩
 ·cases e
theorem SL {n:Int} {K:Nat->Option β} {x:β} (e:AS n K=some x):0<=n/\K n.toNat=some x:=by
 unfold AS at e;cases h:decide (0<=n) with
 | false=>rw [h] at e;cases e
 | true=>rw [h] at e;exact ⟨of_decide_eq_true h,e⟩
theorem KC {m:Option α} {K:α->Option β} {x:β} (e:bd m K=some x) : ∃ y,m=some y/\K y=some x:=by
 cases m with
 | none=>cases e
 | some y=>exact ⟨y,rfl,e⟩
theorem Ck {c c':Ty} {l:List c.den} {K:List c'.den->Option β} {x:β} (e:Hh l K=some x) : ∃ h:c=c',K (h ▸ l)=some x:=by
 unfold Hh at e;split at e
 ·rename_i h;exact ⟨h,e⟩
 ·cases e
theorem E7 {c:Bool} {a b:α} {x:α} (e:(bif c then a else b)=x):(c=true/\a=x)\/(c=false/\b=x):=by
 cases c with
 | false=>exact .inr ⟨rfl,e⟩
 | true=>exact .inl ⟨rfl,e⟩
theorem C4 {c:Bool} {b:Option α} {x:α} (e:(bif c then none else b)=some x):c=false/\b=some x:=by
 cases c with
 | false=>exact ⟨rfl,e⟩
 | true=>cases e
theorem A3 {c:Bool} {a:Option α} {x:α} (e:(bif c then a else none)=some x):c=true/\a=some x:=by
 cases c with
 | true=>exact ⟨rfl,e⟩
 | false=>cases e
end
section
variable {X:Cx} {β:Type} {x:β}
theorem K0 {v : Value} {a : V} (e : Lj v = some a) : ∃ p, Pi.Gr v = some p /\ VR X a p := by
  unfold Lj at e;unfold Pi.Gr;split at e
  all_goals first
    | (cases e; exact ⟨_, rfl, by simp [VR]⟩)
    | (split at e
       · rename_i h; cases e; exact ⟨.fn (.func _) [] [], if_pos h, by simp [VR, VRL]⟩
       · cases e)
    | cases e
theorem JU : ∀ {vs:List Value} {as:List V},IG vs=some as -> ∃ ps,Pi.cellsOf vs=some ps/\VRL X as ps
 | [],as,e=>by cases e;exact ⟨[],rfl,.nil⟩
 | v::l,as,e=>by
  unfold IG at e;split at e
  ·rename_i a as' h1 h2;cases e;obtain ⟨p,e1,r1⟩:=K0 (X:=X) h1;obtain ⟨ps,e2,r2⟩:=JU h2;exact ⟨p::ps,by unfold Pi.cellsOf;rw [e1,e2],.cons r1 r2⟩
  ·cases e
theorem Po {v:Value} {a:V} (e:Qo v=some a) : ∃ p,Pi.H6 v=some p/\VR X a p:=by
 unfold Qo at e;split at e
 ·rename_i cs;cases h:IG cs.toList with
  | none=>rw [h] at e;cases e
  | some as =>
   rw [h] at e;cases e;obtain ⟨ps,e2,r2⟩:=JU (X:=X) h;exact ⟨.agg ps,by simp only [Pi.H6,e2];rfl,by simp only [VR];exact ⟨ps,rfl,r2⟩⟩
 ·rename_i vs;replace e:=A3 e;obtain ⟨h,e⟩:=e;cases e;exact ⟨.tup [],by simp [Pi.H6,h],by simp [VR,VRL]⟩
 ·rename_i t v;split at e
  ·rename_i p hp;cases e;obtain ⟨q,e2,r2⟩:=K0 (X:=X) hp;exact ⟨.ifc t q,by simp only [Pi.H6,e2],by simp only [VR];exact ⟨q,rfl,r2⟩⟩
  ·cases e
 ·rename_i h1 h2 h3;obtain ⟨p,e2,r2⟩:=K0 (X:=X) e;refine ⟨p,?_,r2⟩;unfold Pi.H6;split
  ·exact absurd rfl (h1 _)
  ·exact absurd rfl (h2 _)
  ·exact absurd rfl (h3 _ _)
  ·exact e2
theorem FB {P:Program} {t:TypeId} {as:List V} (e:GN P t=some as) : ∃ ps,Pi.zeroCells P t=some ps/\VRL X as ps:=by
 unfold GN at e;split at e
 ·rename_i i hi;split at e
  ·rename_i z hz;obtain ⟨ps,h,r⟩:=JU (X:=X) e;exact ⟨ps,by simp only [Pi.zeroCells,hi,hz];exact h,r⟩
  ·cases e
 ·cases e
theorem K1 {P:Program} {t:TypeId} {a:V} (e:G1 P t=some a) : ∃ p,Pi.EW P t=some p/\VR X a p:=by
 unfold G1 at e;split at e
 ·rename_i i hi;split at e
  ·rename_i z hz;obtain ⟨ps,h,r⟩:=Po (X:=X) e;exact ⟨ps,by simp only [Pi.EW,hi,hz];exact h,r⟩
  ·cases e
 ·cases e
def TR (X:Cx) (t:T V) (tP:T PV):Prop := ∀ k v,t.get k=some v -> ∃ p,tP.get k=some p/\VR X v p
theorem TR.mono {Y:Cx} {t:T V} {tP:T PV} (h:TR X t tP) (u:Up X Y):TR Y t tP:=λk v e=>by
 obtain ⟨p,h1,h2⟩:=h k v e;exact ⟨p,h1,h2.mono u⟩
theorem TR.put {t:T V} {tP:T PV} (h:TR X t tP) {d:Nat} (hd:d<1048575) {v:V} {p:PV} (hv:VR X v p):TR X (T.put 20 t d v) (T.put 20 tP d p):=by
 have hp:(2:Nat) ^ 20-1=1048575:=by decide
 intro k w e;rw [T.get_put 20 t d v k (by omega)] at e;rw [T.get_put 20 tP d p k (by omega)];by_cases hk:k=d
 ·rw [if_pos hk] at e ⊢;cases e;exact ⟨p,rfl,hv⟩
 ·rw [if_neg hk] at e ⊢;exact h k w e
variable {t:T V} {tP:T PV}
theorem Av (ht:TR X t tP) {o:Operand} {K:V->Option β} (e:DD t o K=some x) : ∃ v p,K v=some x/\Pi.GI tP o=some p/\VR X v p:=by
 unfold DD at e;unfold Pi.GI;split at e
 ·obtain ⟨v,h1,h2⟩:=AX e;obtain ⟨p,h3,h4⟩:=ht _ _ h1;exact ⟨v,p,h2,by simp [h3],h4⟩
 ·obtain ⟨v,h1,h2⟩:=AX e;obtain ⟨p,h3,h4⟩:=Po (X:=X) h1;exact ⟨v,p,h2,h3,h4⟩
 ·exact ⟨_,_,e,rfl,by simp [VR,VRL]⟩
 ·cases e
theorem Lr (ht:TR X t tP) : ∀ {os:List Operand} {K:List V->Option β},Wo t os K=some x -> ∃ vs ps,K vs=some x/\Pi.TQ tP os=some ps/\VRL X vs ps
 | [],K,e=>⟨[],[],e,rfl,.nil⟩
 | o::l,K,e=>by
  obtain ⟨v,p,e1,h1,r1⟩:=Av ht e;obtain ⟨vs,ps,e2,h2,r2⟩:=Lr ht e1;exact ⟨v::vs,p::ps,e2,by unfold Pi.TQ;rw [h1,h2],.cons r1 r2⟩
def VRO (X:Cx):Option V->Option PV->Prop
 | none,o=>o=none
 | some v,o => ∃ p,o=some p/\VR X v p
theorem Qy (ht:TR X t tP) {o:Option Operand} {K:Option V->Option β} (e:fC t o K=some x) : ∃ v p,K v=some x/\Pi.eP tP o=some p/\VRO X v p:=by
 cases o with
 | none=>exact ⟨none,none,e,rfl,rfl⟩
 | some o =>
  obtain ⟨v,p,e1,h1,r1⟩:=Av ht e;exact ⟨some v,some p,e1,by show (Pi.GI tP o).map some=_;rw [h1];rfl,p,rfl,r1⟩
def jK (X:Cx):List (Nat×V)->List (Nat×PV)->Prop:=L2 λa b=>a.1=b.1/\VR X a.2 b.2
theorem JV (ht:TR X t tP) : ∀ {os:List (Nat×Operand)} {K:List (Nat×V)->Option β},Lk t os K=some x -> ∃ vs ps,K vs=some x/\Pi.FN tP os=some ps/\jK X vs ps
 | [],K,e=>⟨[],[],e,rfl,.nil⟩
 | (i,o)::l,K,e=>by
  obtain ⟨v,p,e1,h1,r1⟩:=Av ht e;obtain ⟨vs,ps,e2,h2,r2⟩:=JV ht e1;exact ⟨(i,v)::vs,(i,p)::ps,e2,by unfold Pi.FN;rw [h1,h2],.cons ⟨rfl,r1⟩ r2⟩
theorem G3 {v:V} {p:PV} {K:Nat->Option β} (hv:VR X v p) (e:N7 v K=some x) : ∃ n,K n=some x/\Pi.KW p=some n:=by
 unfold N7 at e;split at e
 ·simp only [VR] at hv;subst hv;obtain ⟨h1,h2⟩:=SL e;exact ⟨_,h2,by simp [Pi.KW,h1]⟩
 ·cases e
theorem Pp {v:V} {p:PV} {K:Nat->Option β} (hv:VR X v p) (e:Qp v K=some x) : ∃ n,K n=some x/\Pi.Jt p=some n:=by
 unfold Qp at e;split at e
 ·simp only [VR] at hv;subst hv;obtain ⟨h1,h2⟩:=SL e;exact ⟨_,h2,by simp [Pi.Jt,h1]⟩
 ·cases e
theorem Cf {d:Nat} {v:Option V} {p:Option PV} {K:Nat->Option β} (hv:VRO X v p) (e:FV d v K=some x) : ∃ n,K n=some x/\Pi.Fg d p=some n:=by
 cases v with
 | none=>cases hv;exact ⟨d,e,rfl⟩
 | some v=>obtain ⟨p,rfl,hv⟩:=hv;exact G3 hv e
theorem fL {op : BinOp} {k : IntKind} {a b : Int} {K : V -> Option β} (e : iH op k a b K = some x) : ∃ v p, K v = some x /\ Pi.WT op k a b = some p /\ VR X v p := by
  cases op <;> simp only [iH] at e
  all_goals first
    | (exact ⟨_, _, e, rfl, by simp only [VR]; rfl⟩)
    | (obtain ⟨h1, h2⟩ := Ap e
       refine ⟨_, _, h2, ?_, by simp only [VR]; rfl⟩;have hb : (b == 0) = false := by simpa [Ao] using h1
       simp only [Pi.WT, hb, cond_false]; rfl)
    | cases e
theorem Pq {op : BinOp} {k : IntKind} {a b : Int} {K : V -> Option β} (e : Tn op k a b K = some x) : ∃ v p, K v = some x /\ Pi.MI op k a b = some p /\ VR X v p := by
  cases op <;> simp only [Tn] at e
  all_goals first
    | (obtain ⟨h1, h2⟩ := Ap e
       refine ⟨_, _, h2, ?_, by simp only [VR]; rfl⟩;have hb : decide (b < 0) = false := by simpa [Hz] using h1
       simp only [Pi.MI, hb, cond_false]; rfl)
    | cases e
theorem Gw : ∀ (a b:List UInt8),(Op.bytesLess a b||a == b) = !Op.bytesLess b a
 | [],[]=>rfl
 | [],_::_=>rfl
 | _::_,[]=>rfl
 | a::l,b::m=>by
  have ih:=Gw l m;simp only [Op.bytesLess];by_cases h1:a<b
  ·have h2 : ¬ b<a:=by rw [UInt8.lt_iff_toNat_lt] at h1 ⊢;omega
   have h3:(b == a)=false:=by
    rw [beq_eq_false_iff_ne];intro h;subst h;exact h2 h1
   simp [h1,h2,h3]
  ·by_cases h2:b<a
   ·have h3:(a == b)=false:=by
     rw [beq_eq_false_iff_ne];intro h;subst h;exact h1 h2
    have h4:(a::l == b::m)=false:=by
     rw [List.cons_beq_cons,h3];rfl
    simp [h1,h2,h3,h4]
   ·have h3:a=b:=by
     apply UInt8.toNat_inj.1;rw [UInt8.lt_iff_toNat_lt] at h1 h2;omega
    subst h3;rw [List.cons_beq_cons];simp only [h1,decide_false,Bool.false_or,beq_self_eq_true,Bool.true_and];exact ih
theorem fM {op : BinOp} {a b : List UInt8} {K : V -> Option β} (e : iI op a b K = some x) : ∃ v p, K v = some x /\ Pi.YG op a b = some p /\ VR X v p := by
  cases op <;> simp only [iI] at e
  all_goals first
    | (refine ⟨_, _, e, rfl, ?_⟩; simp only [VR]; rfl)
    | (refine ⟨_, _, e, rfl, ?_⟩; simp only [VR]; rw [Gw]; rfl)
    | (refine ⟨_, _, e, rfl, ?_⟩; simp only [VR]; rw [Gw]; simp [CJ])
    | (obtain ⟨h1, h2⟩ := Ap e
       refine ⟨_, _, h2, ?_, by simp only [VR]; rfl⟩;simp only [A6, AJ, C2] at h1
       simp only [Pi.YG, h1, cond_true]; rfl)
    | cases e
end
end Go.Proofs.YthpkjfabdccpdaaGreat.Sv
namespace Go.Proofs.YthpkjfabdccpdaaGreat.Sv
open Go.Proofs.YthpkjfabdccpdaaGreat.Pi (PV T Hp Blk DF UM PE)
section
variable {X:Cx} {β:Type} {x:β} {P:Program}
theorem D8 {t:TypeId} {cs:List V} {ps:List PV} {v:V} (h:VRL X cs ps) (e:IH P t cs=some v) : ∃ p,Pi.part P t ps=some p/\VR X v p:=by
 unfold IH at e;split at e
 ·rename_i n h1 h2;replace e:=A3 e;obtain ⟨hn,e⟩:=e;cases e;refine ⟨.agg (ps.take n),?_,by simp only [VR];exact ⟨_,rfl,h.take n⟩⟩;unfold Pi.part;simp only [h1,h2];rw [<- h.length,hn];rfl
 ·rename_i h1 h2;split at e
  ·cases e;obtain ⟨p,qs,rfl,r,_⟩:=h.cons_inv;exact ⟨p,by unfold Pi.part;simp only [h1,h2],r⟩
  ·cases e
 ·cases e
theorem VR.agg_inv {cs:List V} {p:PV} (h:VR X (.agg cs) p) : ∃ ps,p = .agg ps/\VRL X cs ps:=by simpa only [VR] using h
mutual
theorem Mb : ∀ (d:Nat) {t:TypeId} {a b:V} {c:Bool} {p q:PV},VR X a p->VR X b q->fD P d t a b=some c->Pi.VW P d t p q=some c
 | 0,_,_,_,_,_,_,_,_,e=>by simp [fD] at e
 | d+1,t,a,b,c,p,q,ha,hb,e=>by
  unfold fD at e;unfold Pi.VW;split at e
  all_goals (try simp only [*])
  ·split at e
   ·simp only [VR] at ha hb;subst ha;subst hb;exact e
   ·cases e
  ·split at e
   ·simp only [VR] at ha hb;subst ha;subst hb;exact e
   ·cases e
  ·split at e
   ·simp only [VR] at ha hb;subst ha;subst hb;exact e
   ·cases e
  ·split at e
   all_goals first
    | (simp only [VR] at ha hb;subst ha;subst hb;exact e)
    | (simp only [VR] at ha hb;obtain ⟨_,_,_,rfl⟩:=ha;subst hb;exact e)
    | (simp only [VR] at ha hb;obtain ⟨_,_,_,rfl⟩:=hb;subst ha;exact e)
    | (simp only [VR] at ha hb;subst ha;rcases hb with ⟨_,rfl,_⟩ | ⟨_,_,_,_,_,_,_,rfl,_⟩<;>exact e)
    | (simp only [VR] at ha hb;subst hb;rcases ha with ⟨_,rfl,_⟩ | ⟨_,_,_,_,_,_,_,rfl,_⟩<;>exact e)
    | (simp only [VR] at ha hb;subst ha;obtain ⟨_,rfl,_⟩:=hb;exact e)
    | (simp only [VR] at ha hb;subst hb;obtain ⟨_,rfl,_⟩:=ha;exact e)
    | cases e
  ·split at e
   ·simp only [VR] at ha hb;subst ha;subst hb;exact e
   ·simp only [VR] at ha hb;subst ha;obtain ⟨_,_,rfl,_⟩:=hb;exact e
   ·simp only [VR] at ha hb;subst hb;obtain ⟨_,_,rfl,_⟩:=ha;exact e
   ·simp only [VR] at ha hb;subst ha;rcases hb with ⟨_,h⟩ | ⟨_,_,rfl,_⟩ | ⟨_,_,_,_,_,_,rfl,_⟩
    ·cases h
    ·exact e
    ·exact e
   ·simp only [VR] at ha hb;subst hb;rcases ha with ⟨_,h⟩ | ⟨_,_,rfl,_⟩ | ⟨_,_,_,_,_,_,rfl,_⟩
    ·cases h
    ·exact e
    ·exact e
   ·simp only [VR] at ha hb;subst ha;rcases hb with ⟨_,h⟩ | ⟨_,_,rfl,_⟩
    ·cases h
    ·exact e
   ·simp only [VR] at ha hb;subst hb;rcases ha with ⟨_,h⟩ | ⟨_,_,rfl,_⟩
    ·cases h
    ·exact e
   ·simp only [VR] at ha hb;subst ha;obtain ⟨_,_,_,rfl⟩:=hb;exact e
   ·simp only [VR] at ha hb;subst hb;obtain ⟨_,_,_,rfl⟩:=ha;exact e
   ·cases e
  ·split at e
   all_goals first
    | (simp only [VR] at ha hb;subst ha;subst hb;exact e)
    | (simp only [VR] at ha hb;obtain ⟨_,_,rfl,_⟩:=ha;subst hb;exact e)
    | (simp only [VR] at ha hb;obtain ⟨_,_,rfl,_⟩:=hb;subst ha;exact e)
    | cases e
  ·split at e
   ·simp only [VR] at ha hb;subst ha;subst hb;exact e
   ·simp only [VR] at ha hb;subst ha;obtain ⟨_,rfl,_⟩:=hb;exact e
   ·simp only [VR] at ha hb;subst hb;obtain ⟨_,rfl,_⟩:=ha;exact e
   ·simp only [VR] at ha hb;obtain ⟨a',rfl,ha⟩:=ha;obtain ⟨b',rfl,hb⟩:=hb;rcases E7 e with ⟨h,e⟩ | ⟨h,e⟩
    ·simp only [h,cond_true];split at e
     ·rename_i i hi;replace e:=A3 e;obtain ⟨h2,e⟩:=e;simp only [hi,h2,cond_true];exact Mb d ha hb e
     ·cases e
    ·simp only [h,cond_false];exact e
   ·cases e
  ·split at e
   ·obtain ⟨ps,rfl,ha'⟩:=ha.agg_inv;obtain ⟨qs,rfl,hb'⟩:=hb.agg_inv;replace e:=C4 e;obtain ⟨h,e⟩:=e;simp only [h,cond_false];exact Qz d ha' hb' e
   ·cases e
  ·split at e
   ·obtain ⟨ps,rfl,ha'⟩:=ha.agg_inv;obtain ⟨qs,rfl,hb'⟩:=hb.agg_inv;replace e:=A3 e;obtain ⟨h,e⟩:=e;simp only [h,cond_true];exact Vp d ha' hb' e
   ·cases e
theorem Qz : ∀ (d:Nat) {fs:List Field} {a b:List V} {c:Bool} {p q:List PV},VRL X a p->VRL X b q->To P d fs a b=some c->Pi.O2 P d fs p q=some c
 | 0,_,_,_,_,_,_,_,_,e=>by simp [To] at e
 | d+1,[],_,_,_,_,_,_,_,e=>by simpa [To,Pi.O2] using e
 | d+1,f::fs,a,b,c,p,q,ha,hb,e=>by
  unfold To at e;unfold Pi.O2;rcases E7 e with ⟨h,e⟩ | ⟨h,e⟩
  ·simp only [h,cond_true];exact Qz d ha hb e
  ·simp only [h,cond_false];split at e
   ·rename_i u v hu hv;obtain ⟨u',h1,r1⟩:=D8 (ha.drop f.offset) hu;obtain ⟨v',h2,r2⟩:=D8 (hb.drop f.offset) hv;split at e
    ·rename_i c1 c2 e1 e2;simp only [h1,h2,Mb d r1 r2 e1];cases e;cases c1 with
     | true=>simpa [Bo] using Qz d ha hb e2
     | false=>simp [Bo]
    ·cases e
   ·cases e
theorem Vp : ∀ (d:Nat) {n:Nat} {t:TypeId} {a b:List V} {c:Bool} {p q:List PV},VRL X a p->VRL X b q->Wp P d n t a b=some c->Pi.QS P d n t p q=some c
 | 0,_,_,_,_,_,_,_,_,_,e=>by simp [Wp] at e
 | d+1,0,_,_,_,_,_,_,_,_,e=>by simpa [Wp,Pi.QS] using e
 | d+1,n+1,t,a,b,c,p,q,ha,hb,e=>by
  unfold Wp at e;unfold Pi.QS;split at e
  ·rename_i s u v hs hu hv;obtain ⟨u',h1,r1⟩:=D8 ha hu;obtain ⟨v',h2,r2⟩:=D8 hb hv;split at e
   ·rename_i c1 c2 e1 e2;simp only [hs,h1,h2,Mb d r1 r2 e1];cases e;cases c1 with
    | true=>simpa [Bo] using Vp d (ha.drop s) (hb.drop s) e2
    | false=>simp [Bo]
   ·cases e
  ·cases e
end
theorem OF {op:BinOp} {c:Bool} {K:V->Option β} (e:(match op with
  | .eql=>K (.bool c)
  | .neq=>K (.bool (AZ c))
  | _=>none)=some x) {o:Option Bool} (ho:o=some c) : ∃ v p,K v=some x/\(match op with
  | .eql=>o.map .bool
  | .neq=>o.map λr => .bool (!r)
  | _=>none)=some p/\VR X v p:=by
 subst ho;cases op<;>simp only at e ⊢
 all_goals first
  | (exact ⟨_,_,e,rfl,by simp [VR,AZ]⟩)
  | cases e
theorem K2 {op:BinOp} {ty:TypeId} {p q:PV} (h1 : ∀ k n k' m,¬(p = .int k n/\q = .int k' m)) (h2 : ∀ a b,¬(p = .str a/\q = .str b)):Pi.O3 P op ty p q=(match op with
  | .eql=>(Pi.VW P Pi.Jr ty p q).map .bool
  | .neq=>(Pi.VW P Pi.Jr ty p q).map λr => .bool (!r)
  | _=>none):=by
 unfold Pi.O3;split
 ·exact absurd ⟨rfl,rfl⟩ (h1 _ _ _ _)
 ·exact absurd ⟨rfl,rfl⟩ (h2 _ _)
 ·rfl
theorem VR.inv {v:V} {p:PV} (h:VR X v p):(∀ k n,p = .int k n->v = .int k n)/\(∀ l,p = .str l->v = .str l)/\(p = .nili->v = .nili)/\(∀ cs,p = .agg cs -> ∃ as,v = .agg as):=by
 cases v with
 | agg cs=>exact ⟨λ_ _ e=>by simp [VR,e] at h,λ_ e=>by simp [VR,e] at h,λe=>by simp [VR,e] at h,λ_ _=>⟨_,rfl⟩⟩
 | ow id =>
  simp only [VR] at h;split at h
  ·subst h;simp
  ·subst h;simp
  ·subst h;simp
  ·exact h.elim
 | lf f g c l =>
  simp only [VR] at h;rcases h with ⟨rfl,_⟩ | ⟨_,_,rfl,_⟩ | ⟨_,_,_,_,_,_,rfl,_⟩<;>simp
 | view cs =>
  simp only [VR] at h;rcases h with ⟨_,rfl,_⟩ | ⟨_,_,_,_,_,_,_,rfl,_⟩<;>simp
 | pl g c l=>simp only [VR] at h;rcases h with ⟨rfl,_⟩ | ⟨_,_,rfl,_⟩<;>simp
 | pv cs=>simp only [VR] at h;obtain ⟨_,rfl,_⟩:=h;simp
 | tup cs=>simp only [VR] at h;obtain ⟨_,rfl,_⟩:=h;simp
 | exl f cs=>simp only [VR] at h;obtain ⟨_,_,rfl,_⟩:=h;simp
 | own a b c=>simp only [VR] at h;obtain ⟨_,_,_,rfl⟩:=h;simp
 | ptr a b=>simp only [VR] at h;obtain ⟨_,_,_,rfl⟩:=h;simp
 | ept a b c=>simp only [VR] at h;obtain ⟨_,_,_,rfl⟩:=h;simp
 | fn a b c=>simp only [VR] at h;obtain ⟨_,_,rfl,_⟩:=h;simp
 | yl a=>simp only [VR] at h;obtain ⟨_,_,_,rfl⟩:=h;simp
 | mp a=>simp only [VR] at h;obtain ⟨_,_,_,rfl⟩:=h;simp
 | ifc a b=>simp only [VR] at h;obtain ⟨_,rfl,_⟩:=h;simp
 | _=>simp only [VR] at h;subst h;simp
theorem DA {o:Option PV} {h:Hp} {p:PV} (e:o=some p):Pi.vl o h=some (.val p h):=by rw [e];rfl
theorem fN {h:Hp} {op:BinOp} {ty:TypeId} {ox oy:Operand} {a b:V} {p q:PV} {K:V->Option β} (ha:VR X a p) (hb:VR X b q) (e:iJ P op ty ox oy a b K=some x) :
  ∃ v r,K v=some x/\Pi.HZ P h op ty ox oy p q=some (.val r h)/\VR X v r:=by
 unfold iJ at e;split at e
 ·simp only [VR] at ha hb;subst ha;subst hb;split at e
  ·obtain ⟨v,r,h1,h2,h3⟩:=Pq (X:=X) e;exact ⟨v,r,h1,DA (by simpa [Pi.O3] using h2),h3⟩
  ·obtain ⟨v,r,h1,h2,h3⟩:=Pq (X:=X) e;exact ⟨v,r,h1,DA (by simpa [Pi.O3] using h2),h3⟩
  ·rename_i n1 n2;replace e:=A3 e;obtain ⟨hk,e⟩:=e;obtain ⟨v,r,h1,h2,h3⟩:=fL (X:=X) e;refine ⟨v,r,h1,DA ?_,h3⟩;unfold Pi.O3;cases op<;>first | exact absurd rfl n1 | exact absurd rfl n2 | (simp only [hk,cond_true];exact h2)
 ·simp only [VR] at ha hb;subst ha;subst hb;obtain ⟨v,r,h1,h2,h3⟩:=fM (X:=X) e;exact ⟨v,r,h1,DA h2,h3⟩
 ·replace e:=A3 e;obtain ⟨hc,e⟩:=e;obtain ⟨c,h1,e⟩:=AX e;obtain ⟨v,r,e1,h2,h3⟩:=OF (X:=X) e (Mb 64 ha hb h1);simp only [VR] at ha hb;subst ha;subst hb;refine ⟨v,r,e1,?_,h3⟩;unfold Pi.HZ;simp only [hc,cond_true];exact DA (by rw [K2 (by simp) (by simp)];exact h2)
 ·rename_i as bs;replace e:=C4 e;obtain ⟨hc,e⟩:=e;obtain ⟨c,h1,e⟩:=AX e;obtain ⟨v,r,e1,h2,h3⟩:=OF (X:=X) e (Mb 64 ha hb h1);obtain ⟨ps,rfl,ha'⟩:=ha.agg_inv;obtain ⟨qs,rfl,hb'⟩:=hb.agg_inv;refine ⟨v,r,e1,?_,h3⟩;unfold Pi.HZ;simp only [hc,cond_false];exact DA (by rw [K2 (by simp) (by simp)];exact h2)
 ·rename_i n1 n2 n3 n4;obtain ⟨c,h1,e⟩:=AX e;obtain ⟨v,r,e1,h2,h3⟩:=OF (X:=X) e (Mb 64 ha hb h1);refine ⟨v,r,e1,?_,h3⟩;have i1:=ha.inv;have i2:=hb.inv;unfold Pi.HZ;split
  ·exact absurd (i2.2.2.1 rfl) (n3 (i1.2.2.1 rfl))
  ·obtain ⟨_,j1⟩:=i1.2.2.2 _ rfl;obtain ⟨_,j2⟩:=i2.2.2.2 _ rfl;exact absurd j2 (n4 _ _ j1)
  ·refine DA ?_;rw [K2 (λk n k' m hh=>n1 _ _ _ _ (i1.1 _ _ hh.1) (i2.1 _ _ hh.2)) (λl m hh=>n2 _ _ (i1.2.1 _ hh.1) (i2.2.1 _ hh.2))];exact h2
theorem iR {op:UnOp} {a:V} {p:PV} {K:V->Option β} (ha:VR X a p) (e:lK op a K=some x) : ∃ v r,K v=some x/\Pi.lA op p=some r/\VR X v r:=by
 unfold lK at e;split at e
 ·simp only [VR] at ha;subst ha;split at e
  ·exact ⟨_,_,e,rfl,by simp [VR,AZ]⟩
  ·cases e
 ·simp only [VR] at ha;subst ha;split at e
  ·exact ⟨_,_,e,rfl,by simp [VR,jQ]⟩
  ·cases e
 ·cases e
theorem Vq : ∀ {es:List V} {ps:List PV} {K:List UInt8->Option β},VRL Cx.pure es ps->fE es K=some x -> ∃ l,K l=some x/\Pi.iB ps=some l
 | [],ps,K,hv,e=>by
  simp only [VRL] at hv;subst hv;exact ⟨[],e,rfl⟩
 | v::es,ps,K,hv,e=>by
  unfold fE at e;split at e
  ·rename_i h;cases h
  ·rename_i n l h;cases h;obtain ⟨p,qs,rfl,h1,h2⟩:=hv.cons_inv;simp only [VR] at h1;subst h1;obtain ⟨l,e1,e2⟩:=Vq h2 e;exact ⟨_,e1,by unfold Pi.iB;rw [e2];rfl⟩
  ·cases e
theorem SM {h:Hp} {s d:TypeId} {a:V} {p:PV} {K:V->Option β} (ha:VR X a p) (e:OB P s d a K=some x) : ∃ v r,K v=some x/\Pi.DE P h s d p=some (.val r h)/\VR X v r:=by
 unfold OB at e;unfold Pi.DE;split at e
 ·rename_i h1 h2;simp only [VR] at ha;subst ha;exact ⟨_,_,e,by simp only [h1,h2];rfl,by simp [VR,MH]⟩
 ·rename_i h1 h2;simp only [VR] at ha;subst ha;exact ⟨_,_,e,by simp only [h1,h2];rfl,by simp [VR]⟩
 ·rename_i f es et h1 h2;split at e
  ·rename_i hu;simp only [VR] at ha;obtain ⟨f',ps,rfl,_,hv⟩:=ha;obtain ⟨l,e1,e2⟩:=Vq hv e;exact ⟨_,.str l,e1,by simp only [h1,h2,hu,e2],by simp [VR]⟩
  ·cases e
 ·cases e
theorem fO {h:Hp} {ty:TypeId} {a:V} {p:PV} {K:V->Option β} (ha:VR X a p) (e:iN P ty a K=some x) : ∃ v r,K v=some x/\Pi.I6 P h ty p=some (.val r h)/\VR X v r:=by
 unfold iN at e;unfold Pi.I6;split at e
 ·cases e
 ·rename_i u hu hh;refine ⟨_,.ifc ty p,e,?_,by simp only [VR];exact ⟨p,rfl,ha⟩⟩;rw [hh];cases u<;>first | exact absurd rfl (hu _) | rfl
 ·cases e
theorem fQ {h:Hp} {a:V} {p:PV} {K:V->Option β} (ha:VR X a p) (e:iM a K=some x) : ∃ v r,K v=some x/\Pi.JH h p=some (.val r h)/\VR X v r:=by
 unfold iM at e;split at e
 ·refine ⟨_,p,e,?_,ha⟩;simp only [VR] at ha;obtain ⟨_,rfl,_⟩:=ha;rfl
 ·refine ⟨_,p,e,?_,ha⟩;simp only [VR] at ha;obtain ⟨_,_,_,rfl⟩:=ha;rfl
 ·refine ⟨_,p,e,?_,ha⟩;simp only [VR] at ha;obtain ⟨_,_,_,rfl⟩:=ha;rfl
 ·refine ⟨_,p,e,?_,ha⟩;simp only [VR] at ha;rcases ha with ⟨_,rfl,_⟩ | ⟨_,_,_,_,_,_,_,rfl,_⟩<;>rfl
 ·refine ⟨_,p,e,?_,ha⟩;simp only [VR] at ha;obtain ⟨_,rfl,_⟩:=ha;rfl
 ·refine ⟨_,p,e,?_,ha⟩;simp only [VR] at ha;obtain ⟨_,_,_,rfl⟩:=ha;rfl
 ·refine ⟨_,p,e,?_,ha⟩;simp only [VR] at ha;obtain ⟨_,_,rfl,_⟩:=ha;rfl
 ·cases e
theorem Ws {h:Hp} {ty:TypeId} {a:V} {p:PV} {f:Nat} {K:V->Option β} (ha:VR X a p) (e:Tu P ty a f K=some x) : ∃ v r,K v=some x/\Pi.FQ P h ty p f=some (.val r h)/\VR X v r:=by
 unfold Tu at e;split at e
 ·rename_i fs cs hu;obtain ⟨ps,rfl,ha'⟩:=ha.agg_inv;split at e
  ·rename_i fd hf;obtain ⟨v,h1,e⟩:=AX e;obtain ⟨r,h2,h3⟩:=D8 (ha'.drop fd.offset) h1;exact ⟨v,r,e,by unfold Pi.FQ;simp only [hu,hf];exact DA h2,h3⟩
  ·cases e
 ·cases e
end
end Go.Proofs.YthpkjfabdccpdaaGreat.Sv
namespace Go.Proofs.YthpkjfabdccpdaaGreat.Sv
open Go.Proofs.YthpkjfabdccpdaaGreat.Pi (PV T Hp Blk DF UM PE)
def DFR (X:Cx):DFA->DF->Prop
 | .call f args,d => ∃ fP ps,d = .call fP ps/\VR X f fP/\VRL X args ps
 | .bi b ats ty args,d => ∃ ps,d = .bi b ats ty ps/\VRL X args ps
 | .col id,d => ∃ pid n,X.π id=some (.blk pid n)/\d = .col pid
theorem DFR.mono {X Y:Cx} (u:Up X Y) : ∀ {a:DFA} {d:DF},DFR X a d->DFR Y a d
 | .call _ _,_,⟨fP,ps,h1,h2,h3⟩=>⟨fP,ps,h1,h2.mono u,h3.mono u⟩
 | .bi _ _ _ _,_,⟨ps,h1,h2⟩=>⟨ps,h1,h2.mono u⟩
 | .col _,_,⟨pid,n,h1,h2⟩=>⟨pid,n,u.pi _ _ h1,h2⟩
def MR (X:Cx) (k:Ty) (g:Bool) (c:Ty) (u:k.den×c.den) (w:PV×PV):Prop:=DP k u.1 [w.1]/\EP g (DR X.h X.Q c) u.2 w.2
def BR (X:Cx):BA->Option At->Prop
 | .box cs fz _,a => ∃ pid n ps fz',a=some (.blk pid n)/\X.O pid/\X.h.get pid=some (.box ps fz')/\(fz=false->fz'=false)/\VRL X cs ps
 | .row g c l ex fz _,a=>(∃ pid len es fz',a=some (.blk pid len)/\X.O pid/\X.h.get pid=some (.row es ex fz')/\(fz=false->fz'=false)/\es.length=len/\(ex=false->0<len)/\L2 (EP g (DR X.h X.Q c)) l es) \/
   (a=some .nil/\ex=false/\l=[]) \/ ∃ es,a=some (.fz es)/\ex=false/\(fz=true\/l=[])/\L2 (EP g (DP c)) l es
 | .mp k g c l _,a => ∃ pid n es,a=some (.blk pid n)/\X.O pid/\X.h.get pid=some (.mp es)/\L2 (MR X k g c) l es
 | .lp st pend nt t ps asg body d,a => ∃ pid n tP dP m,a=some (.blk pid n)/\X.O pid/\X.h.get pid=some (.lp st pend nt tP ps asg body dP)/\TR X t tP/\X.π d=some (.blk dP m)/\nt<1048575
 | .df ds,a => ∃ pid n dsP,a=some (.blk pid n)/\X.O pid/\X.h.get pid=some (.df dsP)/\(match ds,dsP with
  | none,none=>True
  | some l,some m=>L2 (DFR X) l m
  | _,_=>False)
 | .dead,a => ∀ pid m,a=some (.blk pid m)->X.O pid/\X.h.get pid=some .dead
theorem EDR.mono {X Y:Cx} (u:Up X Y) {g:Bool} {c:Ty} {l:List c.den} {es:List PV} (h:L2 (EP g (DR X.h X.Q c)) l es):L2 (EP g (DR Y.h Y.Q c)) l es :=
 h.mono λ_ _ k=>k.mono λ_ _ k=>DR.mono u.rows k
theorem BR.keep {X Y:Cx} (u:Up X Y) {b:BA} {a:Option At} (h:BR X b a) (k : ∀ pid n,a=some (.blk pid n)->X.O pid->Y.h.get pid=X.h.get pid/\Y.O pid):BR Y b a:=by
 cases b with
 | box cs fz lk =>
  obtain ⟨pid,n,ps,fz',h1,h2,h3,h4,h5⟩:=h;obtain ⟨k1,k2⟩:=k _ _ h1 h2;exact ⟨pid,n,ps,fz',h1,k2,by rw [k1,h3],h4,h5.mono u⟩
 | row g c l ex fz lk =>
  rcases h with ⟨pid,len,es,fz',h1,h2,h3,h4,h5,h7,h6⟩ | h | h
  ·obtain ⟨k1,k2⟩:=k _ _ h1 h2;exact .inl ⟨pid,len,es,fz',h1,k2,by rw [k1,h3],h4,h5,h7,EDR.mono u h6⟩
  ·exact .inr (.inl h)
  ·exact .inr (.inr h)
 | mp kk g c l lk =>
  obtain ⟨pid,n,es,h1,h2,h3,h4⟩:=h;obtain ⟨k1,k2⟩:=k _ _ h1 h2;exact ⟨pid,n,es,h1,k2,by rw [k1,h3],h4.mono λ_ _ m=>⟨m.1,m.2.mono λ_ _ k=>DR.mono u.rows k⟩⟩
 | lp st pend nt t ps asg body d =>
  obtain ⟨pid,n,tP,dP,m,h1,h2,h3,h4,h5,h6⟩:=h;obtain ⟨k1,k2⟩:=k _ _ h1 h2;exact ⟨pid,n,tP,dP,m,h1,k2,by rw [k1,h3],h4.mono u,u.pi _ _ h5,h6⟩
 | df ds =>
  obtain ⟨pid,n,dsP,h1,h2,h3,h4⟩:=h;obtain ⟨k1,k2⟩:=k _ _ h1 h2;refine ⟨pid,n,dsP,h1,k2,by rw [k1,h3],?_⟩;split at h4
  ·trivial
  ·exact h4.mono λ_ _ m=>m.mono u
  ·exact h4.elim
 | dead =>
  intro pid m e;obtain ⟨h1,h2⟩:=h pid m e;obtain ⟨k1,k2⟩:=k _ _ e h1;exact ⟨k2,by rw [k1,h2]⟩
def BA.live:BA->Prop
 | .dead=>False
 | _=>True
theorem BR.own {X:Cx} {b:BA} {pid n:Nat} (h:BR X b (some (.blk pid n))) (hl:b.live):X.O pid:=by
 cases b with
 | box cs fz lk=>obtain ⟨_,_,_,_,h1,h2,_⟩:=h;cases h1;exact h2
 | row g c l ex fz lk =>
  rcases h with ⟨_,_,_,_,h1,h2,_⟩ | ⟨h1,_⟩ | ⟨_,h1,_⟩
  ·cases h1;exact h2
  ·cases h1
  ·cases h1
 | mp kk g c l lk=>obtain ⟨_,_,_,h1,h2,_⟩:=h;cases h1;exact h2
 | lp st pend nt t ps asg body d=>obtain ⟨_,_,_,_,_,h1,h2,_⟩:=h;cases h1;exact h2
 | df ds=>obtain ⟨_,_,_,h1,h2,_⟩:=h;cases h1;exact h2
 | dead=>exact hl.elim
theorem BR.nd {X:Cx} {b:BA} {pid n:Nat} (h:BR X b (some (.blk pid n))) (hl:b.live):X.h.get pid≠some .dead:=by
 cases b with
 | box cs fz lk=>obtain ⟨_,_,_,_,h1,_,h3,_⟩:=h;cases h1;rw [h3];simp
 | row g c l ex fz lk =>
  rcases h with ⟨_,_,_,_,h1,_,h3,_⟩ | ⟨h1,_⟩ | ⟨_,h1,_⟩
  ·cases h1;rw [h3];simp
  ·cases h1
  ·cases h1
 | mp kk g c l lk=>obtain ⟨_,_,_,h1,_,h3,_⟩:=h;cases h1;rw [h3];simp
 | lp st pend nt t ps asg body d=>obtain ⟨_,_,_,_,_,h1,_,h3,_⟩:=h;cases h1;rw [h3];simp
 | df ds=>obtain ⟨_,_,_,h1,_,h3,_⟩:=h;cases h1;rw [h3];simp
 | dead=>exact hl.elim
structure RH (X:Cx) (h:H) (n:Nat):Prop where
 blk : ∀ id b,h.get id=some b->BR X b (X.π id)
 inj : ∀ id id' b b' pid m m',h.get id=some b->h.get id'=some b'->b.live->b'.live->X.π id=some (.blk pid m)->X.π id'=some (.blk pid m')->id=id'
 dom : ∀ id a,X.π id=some a->id<n
 fresh : ∀ pid,X.h.nx<=pid->X.h.get pid=none
 ob : ∀ q,X.O q->X.h.get q≠none
theorem Al {h:H} {id:Nat} (hid:id<1048575) {b:BA} {k:Nat}:(Ad h id b).get k=if k=id then some b else h.get k:=by
 have hp:(2:Nat) ^ 20-1=1048575:=by decide
 exact T.get_put 20 h id b k (by omega)
structure St (X:Cx) (h:H) (id idP:Nat) (Y:Cx) (h':H):Prop where
 up:Up X Y
 nx:Y.h.nx=X.h.nx
 pin : ∀ j,j≠id->X.π j=none->Y.π j=none
 hpn : ∀ q,q≠idP->X.h.get q=none->Y.h.get q=none
 lk : ∀ j b,h.get j=some b->b.locked=true->h'.get j=some b
 lps : ∀ q st pe nt t ps asg body d,X.h.get q=some (.lp st pe nt t ps asg body d)->Y.h.get q=some (.lp st pe nt t ps asg body d)
set_option linter.unusedVariables false
theorem St.refl (X:Cx) (h:H) (id idP:Nat):St X h id idP X h:=⟨Up.refl X,rfl,λ_ _ h=>h,λ_ _ h=>h,λ_ _ h _=>h,λ_ _ _ _ _ _ _ _ _ h=>h⟩
theorem St.trans {X Y Z:Cx} {h h' h'':H} {id idP:Nat} (a:St X h id idP Y h') (b:St Y h' id idP Z h''):St X h id idP Z h'' :=
 ⟨a.up.trans b.up,b.nx.trans a.nx,λj hj k=>b.pin j hj (a.pin j hj k),λj hj k=>b.hpn j hj (a.hpn j hj k),λj x k l=>b.lk j x (a.lk j x k l) l,
  λq st pe nt t ps asg body d k=>b.lps _ _ _ _ _ _ _ _ _ (a.lps _ _ _ _ _ _ _ _ _ k)⟩
def HX {α:Type} (f:Nat->α) (i:Nat) (a:α):Nat->α:=λj=>if j=i then a else f j
section
variable {X:Cx} {h:H} {n:Nat}
theorem RH.set (r:RH X h n) {id pid m:Nat} {b b':BA} {bP bP0:Blk} {hP:Hp} (hid:id<1048575) (e0:h.get id=some b) (hl:b.live) (hk:b.locked=false) (hp:X.π id=some (.blk pid m)) (hb0:X.h.get pid=some bP0)
  (hnl : ∀ st pe nt t ps asg body d,bP0 ≠ .lp st pe nt t ps asg body d)
  (e:X.h.set pid bP=some hP) (hb : ∀ Y:Cx,Y.π=X.π->Y.h=hP->Y.O=X.O->Up X Y->BR Y b' (X.π id)) (idQ:Nat) :
  ∃ Y:Cx,Y.π=X.π/\Y.h=hP/\Y.O=X.O/\RH Y (Ad h id b') n /\ ∀ i,St X h i idQ Y (Ad h id b'):=by
 obtain ⟨g1,g2⟩:=Hp.get_set e;have hO:X.O pid:=(hp ▸ r.blk _ _ e0).own hl
 let Y:Cx:={ π:=X.π,h:=hP,O:=X.O }
 have u:Up X Y:=⟨λ_ _ h=>h,λq es ex fz hq hg=>⟨⟨fz,by
  show hP.get q=_
  rw [g1,if_neg (by intro hh;subst hh;exact hq hO),hg]⟩,hq⟩⟩
 refine ⟨Y,rfl,rfl,rfl,⟨λi bb hi => ?_,λi i' bb bb' q m1 m2 hi hi' l1 l2 => ?_,r.dom,λq hq => ?_,λq hq=>by
  show hP.get q≠none;rw [g1];split
  ·simp
  ·exact r.ob _ hq⟩,λi=>⟨u,g2,λ_ _ h=>h,λq hq hn => ?_,λj bb hj hlk => ?_,λq st pe nt t ps asg body d hq => ?_⟩⟩
 ·rw [Al hid] at hi;by_cases hii:i=id
  ·rw [if_pos hii] at hi;cases hi;subst hii;exact hb Y rfl rfl rfl u
  ·rw [if_neg hii] at hi;by_cases hlv:bb.live
   ·refine (r.blk _ _ hi).keep u λq m' hq hO'=>⟨?_,hO'⟩;show hP.get q=_;rw [g1,if_neg];intro hh;subst hh;exact hii (r.inj _ _ _ _ _ _ _ hi e0 hlv hl hq hp)
   ·cases bb with
    | dead =>
     intro q m' hq;obtain ⟨k1,k2⟩:=r.blk _ _ hi q m' hq;refine ⟨k1,?_⟩;show hP.get q=_;rw [g1,if_neg]
     ·exact k2
     ·intro hh;subst hh;exact (hp ▸ r.blk _ _ e0).nd hl k2
    | _=>exact absurd trivial hlv
 ·rw [Al hid] at hi hi';by_cases h1:i=id
  ·by_cases h2:i'=id
   ·intro _ _;rw [h1,h2]
   ·rw [if_neg h2] at hi';subst h1;intro a1 a2;exact r.inj _ _ _ _ _ _ _ e0 hi' hl l2 a1 a2
  ·rw [if_neg h1] at hi;by_cases h2:i'=id
   ·subst h2;intro a1 a2;exact r.inj _ _ _ _ _ _ _ hi e0 l1 hl a1 a2
   ·rw [if_neg h2] at hi';exact r.inj _ _ _ _ _ _ _ hi hi' l1 l2
 ·show hP.get q=none;have hq':X.h.nx<=q:=by rw [<- g2];exact hq
  rw [g1,if_neg (by intro hh;subst hh;rw [r.fresh _ hq'] at hb0;cases hb0)];exact r.fresh _ hq'
 ·show hP.get q=none;rw [g1,if_neg (by intro hh;subst hh;rw [hn] at hb0;cases hb0)];exact hn
 ·rw [Al hid];rw [if_neg (by intro hh;subst hh;rw [e0] at hj;cases hj;rw [hk] at hlk;cases hlk)];exact hj
 ·show hP.get q=_;rw [g1,if_neg (by intro hh;subst hh;rw [hb0] at hq;exact hnl _ _ _ _ _ _ _ _ (Option.some.inj hq))];exact hq
theorem RH.new (r:RH X h n) {id pid m:Nat} {b:BA} {bP:Blk} {hP:Hp} (hid:id<1048575) (hn:id<n) (hp:X.π id=none) (hlt:pid<X.h.nx)
  (e:X.h.new pid bP=some hP) (hb : ∀ Y:Cx,Y.π=Sv.HX X.π id (some (.blk pid m))->Y.h=hP->(∀ q,Y.O q<->X.O q\/q=pid)->Up X Y->BR Y b (some (.blk pid m))) :
  ∃ Y:Cx,Y.π=Sv.HX X.π id (some (.blk pid m))/\Y.h=hP/\RH Y (Ad h id b) n/\St X h id pid Y (Ad h id b):=by
 obtain ⟨g0,g1,g2⟩:=Hp.get_new e
 let Y:Cx:={ π:=Sv.HX X.π id (some (.blk pid m)),h:=hP,O:=λq=>X.O q\/q=pid }
 have hpi : ∀ j,j≠id->Y.π j=X.π j:=λj hj=>if_neg hj;have hpi0:Y.π id=some (.blk pid m):=if_pos rfl
 have u:Up X Y:=⟨λj a hj=>by
  rw [hpi j (by intro hh;subst hh;rw [hp] at hj;cases hj)];exact hj,λq es ex fz hq hg=>by
  have hne:q≠pid:=by intro hh;subst hh;rw [g0] at hg;cases hg
  exact ⟨⟨fz,by show hP.get q=_;rw [g1,if_neg hne,hg]⟩,λhO=>hO.elim hq hne⟩⟩
 have hnone:h.get id=none \/ ∃ bb,h.get id=some bb /\ ¬ bb.live:=by
  cases hg:h.get id with
  | none=>exact .inl rfl
  | some bb =>
   refine .inr ⟨bb,rfl,λhl => ?_⟩;have:=r.blk _ _ hg;rw [hp] at this;cases bb<;>first | exact hl | (simp [BR] at this)
 have other : ∀ {i:Nat} {bb:BA} {m1:Nat},h.get i=some bb->bb.live->X.π i=some (.blk pid m1)->False:=by
  intro i bb m1 hg hl hpp;have:=r.blk _ _ hg;rw [hpp] at this;cases bb with
  | dead=>exact hl
  | box cs fz lk=>obtain ⟨_,_,_,_,h1,_,h3,_⟩:=this;cases h1;rw [g0] at h3;cases h3
  | row g c l ex fz lk =>
   rcases this with ⟨_,_,_,_,h1,_,h3,_⟩ | ⟨h1,_⟩ | ⟨_,h1,_⟩
   ·cases h1;rw [g0] at h3;cases h3
   ·cases h1
   ·cases h1
  | mp kk g c l lk=>obtain ⟨_,_,_,h1,_,h3,_⟩:=this;cases h1;rw [g0] at h3;cases h3
  | lp st pend nt t ps asg body d=>obtain ⟨_,_,_,_,_,h1,_,h3,_⟩:=this;cases h1;rw [g0] at h3;cases h3
  | df ds=>obtain ⟨_,_,_,h1,_,h3,_⟩:=this;cases h1;rw [g0] at h3;cases h3
 refine ⟨Y,rfl,rfl,⟨λi bb hi => ?_,λi i' bb bb' q m1 m2 hi hi' l1 l2 a1 a2 => ?_,λi a hi => ?_,λq hq => ?_,λq hq=>by
  show hP.get q≠none;rw [g1];split
  ·simp
  ·rcases hq with hq | hq
   ·exact r.ob _ hq
   ·exact absurd hq ‹_›⟩,⟨u,g2,λj hj k=>by rw [hpi j hj];exact k,λq hq hn => ?_,λj bb hj hlk => ?_,λq st pe nt t ps asg body d hq => ?_⟩⟩
 ·rw [Al hid] at hi;by_cases hii:i=id
  ·rw [if_pos hii] at hi;cases hi;subst hii;rw [hpi0];exact hb Y rfl rfl (λq=>Iff.rfl) u
  ·rw [if_neg hii] at hi;rw [hpi i hii];by_cases hlv:bb.live
   ·refine (r.blk _ _ hi).keep u λq m' hq hO'=>⟨?_,.inl hO'⟩;show hP.get q=_;rw [g1,if_neg];intro hh;subst hh;exact other hi hlv hq
   ·cases bb with
    | dead =>
     intro q m' hq;obtain ⟨k1,k2⟩:=r.blk _ _ hi q m' hq;refine ⟨.inl k1,?_⟩;show hP.get q=_;rw [g1,if_neg (by intro hh;subst hh;rw [g0] at k2;cases k2)];exact k2
    | _=>exact absurd trivial hlv
 ·rw [Al hid] at hi hi';by_cases h1:i=id
  ·by_cases h2:i'=id
   ·rw [h1,h2]
   ·rw [if_neg h2] at hi';subst h1;rw [hpi0] at a1;cases a1;exact (other hi' l2 (hpi _ h2 ▸ a2)).elim
  ·rw [if_neg h1] at hi;by_cases h2:i'=id
   ·subst h2;rw [hpi0] at a2;cases a2;exact (other hi l1 (hpi _ h1 ▸ a1)).elim
   ·rw [if_neg h2] at hi';rw [hpi _ h1] at a1;rw [hpi _ h2] at a2;exact r.inj _ _ _ _ _ _ _ hi hi' l1 l2 a1 a2
 ·by_cases hii:i=id
  ·rw [hii];exact hn
  ·rw [hpi i hii] at hi;exact r.dom _ _ hi
 ·show hP.get q=none;have hq':X.h.nx<=q:=by rw [<- g2];exact hq
  rw [g1,if_neg (by omega)];exact r.fresh _ hq'
 ·show hP.get q=none;rw [g1,if_neg hq];exact hn
 ·rw [Al hid,if_neg]
  ·exact hj
  ·intro hh;subst hh;rcases hnone with hg | ⟨b0,hg,hl⟩
   ·rw [hg] at hj;cases hj
   ·rw [hg] at hj;cases hj;cases bb with
    | dead=>cases hlk
    | _=>exact absurd trivial hl
 ·show hP.get q=_;rw [g1,if_neg (by intro hh;subst hh;rw [g0] at hq;cases hq)];exact hq
end
end Go.Proofs.YthpkjfabdccpdaaGreat.Sv
namespace Go.Proofs.YthpkjfabdccpdaaGreat.Sv
open Go.Proofs.YthpkjfabdccpdaaGreat.Pi (PV T Hp Blk DF UM PE)
section
variable {X:Cx} {h:H} {n:Nat}
theorem RH.alias (r:RH X h n) {id:Nat} {b:BA} {a:At} (hid:id<1048575) (hn:id<n) (hp:X.π id=none) (ha : ∀ pid m,a ≠ .blk pid m) (hb : ∀ Y:Cx,Up X Y->BR Y b (some a)) (idQ:Nat) :
  ∃ Y:Cx,Y.π=Sv.HX X.π id (some a)/\Y.h=X.h/\RH Y (Ad h id b) n/\St X h id idQ Y (Ad h id b):=by
 let Y:Cx:={ π:=Sv.HX X.π id (some a),h:=X.h,O:=X.O }
 have hpi : ∀ j,j≠id->Y.π j=X.π j:=λj hj=>if_neg hj;have hpi0:Y.π id=some a:=if_pos rfl
 have u:Up X Y:=⟨λj a hj=>by
  rw [hpi j (by intro hh;subst hh;rw [hp] at hj;cases hj)];exact hj,λq es ex fz hq hg=>⟨⟨fz,hg⟩,hq⟩⟩
 have hnone : ∀ bb,h.get id=some bb -> ¬ bb.live:=λbb hg hl=>by
  have:=r.blk _ _ hg;rw [hp] at this;cases bb<;>first | exact hl | (simp [BR] at this)
 refine ⟨Y,rfl,rfl,⟨λi bb hi => ?_,λi i' bb bb' q m1 m2 hi hi' l1 l2 a1 a2 => ?_,λi a hi => ?_,r.fresh,r.ob⟩,⟨u,rfl,λj hj k=>by rw [hpi j hj];exact k,λq hq hn=>hn,λj bb hj hlk => ?_,λq st pe nt t ps asg body d hq=>hq⟩⟩
 ·rw [Al hid] at hi;by_cases hii:i=id
  ·rw [if_pos hii] at hi;cases hi;subst hii;rw [hpi0];exact hb Y u
  ·rw [if_neg hii] at hi;rw [hpi i hii];exact (r.blk _ _ hi).keep u λq m' hq hO'=>⟨rfl,hO'⟩
 ·rw [Al hid] at hi hi'
  have nb : ∀ {i:Nat} {q m:Nat},Y.π i=some (.blk q m)->i≠id:=λhh e=>by
   subst e;rw [hpi0] at hh;exact ha _ _ (Option.some.inj hh)
  rw [if_neg (nb a1)] at hi;rw [if_neg (nb a2)] at hi';rw [hpi _ (nb a1)] at a1;rw [hpi _ (nb a2)] at a2;exact r.inj _ _ _ _ _ _ _ hi hi' l1 l2 a1 a2
 ·by_cases hii:i=id
  ·rw [hii];exact hn
  ·rw [hpi i hii] at hi;exact r.dom _ _ hi
 ·rw [Al hid,if_neg]
  ·exact hj
  ·intro hh;subst hh;have:=hnone _ hj;cases bb<;>first | exact absurd trivial this | cases hlk
theorem RH.dead (r:RH X h n) {j:Nat} {b:BA} (hid:j<1048575) (e0:h.get j=some b) (hk:b.locked=false) (hnb : ∀ pid m,X.π j≠some (.blk pid m)) (idQ:Nat):RH X (Ad h j .dead) n /\ ∀ i,St X h i idQ X (Ad h j .dead):=by
 refine ⟨⟨λi bb hi => ?_,λi i' bb bb' q m1 m2 hi hi' l1 l2 a1 a2 => ?_,r.dom,r.fresh,r.ob⟩,λi=>⟨Up.refl X,rfl,λ_ _ h=>h,λ_ _ h=>h,λi bb hi hlk => ?_,λq st pe nt t ps asg body d hq=>hq⟩⟩
 ·rw [Al hid] at hi;by_cases hii:i=j
  ·rw [if_pos hii] at hi;cases hi;subst hii;exact λpid m e=>absurd e (hnb _ _)
  ·rw [if_neg hii] at hi;exact r.blk _ _ hi
 ·rw [Al hid] at hi hi'
  have nd : ∀ {i:Nat} {bb:BA},(if i=j then some BA.dead else h.get i)=some bb->bb.live->h.get i=some bb:=fun {i bb} e hl=>by
   by_cases hii:i=j
   ·rw [if_pos hii] at e;cases e;exact hl.elim
   ·rw [if_neg hii] at e;exact e
  exact r.inj _ _ _ _ _ _ _ (nd hi l1) (nd hi' l2) l1 l2 a1 a2
 ·rw [Al hid,if_neg]
  ·exact hi
  ·intro hh;subst hh;rw [e0] at hi;cases hi;rw [hk] at hlk;cases hlk
end
def DX (h:Hp) (Q Q':Nat->Prop):(c:Ty)->c.den->List PV->Prop
 | .int k,n,ps=>ps=[.int k n]
 | .bool,b,ps=>ps=[.bool b]
 | .str,s,ps=>ps=[.str s]
 | .unit,_,ps=>ps=[]
 | .pair a b,x,ps => ∃ p q,ps=p++q/\DX h Q Q' a x.1 p/\DX h Q Q' b x.2 q
 | .sl g c,l,ps => ∃ p,ps=[p]/\((p = .nils/\l=[])\/(∃ f es,p = .lst f es/\L2 (EP g (DP c)) l es) \/
   ∃ pid off len es ex fz,p = .own pid off len/\Q pid/\h.get pid=some (.row es ex fz)/\off+len<=es.length/\Pi.GJ c.wd es=true/\L2 (EP g (DR h Q' c)) l ((es.drop off).take len))
theorem DX.same {h:Hp} {Q:Nat->Prop} : ∀ {c:Ty} {x:c.den} {ps:List PV},DX h Q Q c x ps->DR h Q c x ps
 | .int _,_,_,e=>e
 | .bool,_,_,e=>e
 | .str,_,_,e=>e
 | .unit,_,_,e=>e
 | .pair _ _,_,_,⟨p,q,e,h1,h2⟩=>⟨p,q,e,DX.same h1,DX.same h2⟩
 | .sl _ _,_,_,h=>h
theorem DR.pure {Q:Nat->Prop} : ∀ {c:Ty} {x:c.den} {ps:List PV},DR Hk Q c x ps->DP c x ps
 | .int _,_,_,e=>e
 | .bool,_,_,e=>e
 | .str,_,_,e=>e
 | .unit,_,_,e=>e
 | .pair _ _,_,_,⟨p,q,e,h1,h2⟩=>⟨p,q,e,DR.pure h1,DR.pure h2⟩
 | .sl _ _,_,_,⟨p,e,h⟩=>⟨p,e,by
  rcases h with h | h | ⟨pid,off,len,es,ex,fz,h1,h2,h3,h4,h5⟩
  ·exact .inl h
  ·exact .inr h
  ·cases h3⟩
theorem DX.pure {Q Q':Nat->Prop} : ∀ {c:Ty} {x:c.den} {ps:List PV},DX Hk Q Q' c x ps->DP c x ps
 | .int _,_,_,e=>e
 | .bool,_,_,e=>e
 | .str,_,_,e=>e
 | .unit,_,_,e=>e
 | .pair _ _,_,_,⟨p,q,e,h1,h2⟩=>⟨p,q,e,DX.pure h1,DX.pure h2⟩
 | .sl _ _,_,_,⟨p,e,h⟩=>⟨p,e,by
  rcases h with h | h | ⟨pid,off,len,es,ex,fz,h1,h2,h3,h4,h5⟩
  ·exact .inl h
  ·exact .inr h
  ·cases h3⟩
theorem DR.leaf : ∀ {hh:Hp} {Q:Nat->Prop} {c:Ty} {y:c.den} {ps:List PV},DR hh Q c y ps -> ∀ p∈ps,(∀ cs,p ≠ .agg cs)/\(∀ cs,p ≠ .tup cs)/\p.cells=[p]
 | _,_,.int _,_,_,e,p,hp=>by subst e;simp at hp;subst hp;simp [PV.cells]
 | _,_,.bool,_,_,e,p,hp=>by subst e;simp at hp;subst hp;simp [PV.cells]
 | _,_,.str,_,_,e,p,hp=>by subst e;simp at hp;subst hp;simp [PV.cells]
 | _,_,.unit,_,_,e,p,hp=>by subst e;simp at hp
 | _,_,.pair _ _,_,_,⟨a,b,e,h1,h2⟩,p,hp=>by
  subst e;rcases List.mem_append.1 hp with hp | hp
  ·exact h1.leaf p hp
  ·exact h2.leaf p hp
 | _,_,.sl _ _,_,_,⟨a,e,h⟩,p,hp=>by
  subst e;simp at hp;subst hp;rcases h with ⟨rfl,_⟩ | ⟨f,es,rfl,_⟩ | ⟨pid,off,len,es,ex,fz,rfl,_⟩<;>simp [PV.cells]
theorem EP.cells {g:Bool} {hh:Hp} {Q:Nat->Prop} {c:Ty} {y:c.den} {e:PV} (h:EP g (DR hh Q c) y e):DR hh Q c y e.cells:=by
 cases g with
 | true=>obtain ⟨cs,rfl,h⟩:=h;exact h
 | false =>
  have h':DR hh Q c y [e]:=h;rw [(h'.leaf e (by simp)).2.2];exact h'
theorem DR.wd : ∀ {hh:Hp} {Q:Nat->Prop} {c:Ty} {y:c.den} {ps:List PV},DR hh Q c y ps->ps.length=c.wd
 | _,_,.int _,_,_,e=>by subst e;rfl
 | _,_,.bool,_,_,e=>by subst e;rfl
 | _,_,.str,_,_,e=>by subst e;rfl
 | _,_,.unit,_,_,e=>by subst e;rfl
 | _,_,.pair _ _,_,_,⟨a,b,e,h1,h2⟩=>by subst e;rw [List.length_append,h1.wd,h2.wd];rfl
 | _,_,.sl _ _,_,_,⟨a,e,h⟩=>by subst e;rfl
theorem EP.wd {g:Bool} {hh:Hp} {Q:Nat->Prop} {c:Ty} {y:c.den} {e:PV} (h:EP g (DR hh Q c) y e):e.cells.length=c.wd:=h.cells.wd
theorem CM {g:Bool} {hh:Hp} {Q:Nat->Prop} {c:Ty} {l:List c.den} {es:List PV} {sz:Nat} (hs:sz=c.wd) (h:L2 (EP g (DR hh Q c)) l es):Pi.GJ sz es=true:=by
 cases h with
 | nil=>rfl
 | cons a _=>simp only [Pi.GJ,a.wd];simp [hs]
theorem EP.agg_inv {α:Type} {D:α->List PV->Prop} {x:α} {e:PV} (h:EP true D x e) : ∃ cs,e = .agg cs/\D x cs:=h
section
variable {β:Type} {x:β}
theorem SN {α:Type} {d:V->(α->Option β)->Option β} {X:Cx} {R:α->PV->Prop} (hd : ∀ {v:V} {p:PV} {K:α->Option β},VR X v p->d v K=some x -> ∃ y,K y=some x/\R y p) :
  ∀ {vs:List V} {ps:List PV} {K:List α->Option β},VRL X vs ps->Ym d vs K=some x -> ∃ ys,K ys=some x/\L2 R ys ps
 | [],_,K,h,e=>by rw [h.nil_inv];exact ⟨[],e,.nil⟩
 | v::vs,_,K,h,e=>by
  obtain ⟨p,qs,rfl,h1,h2⟩:=h.cons_inv;obtain ⟨y,e1,r1⟩:=hd h1 e;obtain ⟨ys,e2,r2⟩:=SN hd h2 e1;exact ⟨y::ys,e2,.cons r1 r2⟩
theorem Q0 {α:Type} {R:α->PV->Prop} {l:List α} {es:List PV} (h:L2 R l es) (off len:Nat):L2 R (B3 l off (AJ off len)) ((es.drop off).take len):=by
 unfold B3 AJ;rw [show off+len-off=len from by omega];exact (h.drop off).take len
theorem NQ : ∀ (a b:List V),KP (a++b)=KP a++KP b
 | [],b=>rfl
 | v::a,b=>by
  have ih:=NQ a b;cases v<;>simp [KP,ih]
theorem Yw {id:Nat} {v:V} (h:id∈KP [v]):id∈KP v.cells:=by
 cases v<;>first | exact h | (simp [KP] at h)
theorem G4 : ∀ {c:Ty} {X:Cx} {h:H} {Q:Nat->Prop} {vs:List V} {ps:List PV} {K:c.den->List V->Option β},
  (∀ id b a,h.get id=some b->X.π id=some a->BR X b (some a))->(∀ id b pid m,id∈KP vs->h.get id=some b->X.π id=some (.blk pid m)->Q pid)->(∀ pid,X.Q pid->Q pid) ->
  VRL X vs ps->IF h c vs K=some x -> ∃ y r p q,K y r=some x/\ps=p++q/\DX X.h Q X.Q c y p/\VRL X r q /\ ∃ s,vs=s++r
 | .int k,X,h,Q,vs,ps,K,hb,hq,hQ,hv,e=>by
  unfold IF at e;split at e
  ·replace e:=A3 e;obtain ⟨hk,e⟩:=e;obtain ⟨p,qs,rfl,h1,h2⟩:=hv.cons_inv;simp only [VR] at h1;subst h1;have:=eq_of_beq hk;subst this;exact ⟨_,_,[_],qs,e,rfl,rfl,h2,[_],rfl⟩
  ·cases e
 | .bool,X,h,Q,vs,ps,K,hb,hq,hQ,hv,e=>by
  unfold IF at e;split at e
  ·obtain ⟨p,qs,rfl,h1,h2⟩:=hv.cons_inv;simp only [VR] at h1;subst h1;exact ⟨_,_,[_],qs,e,rfl,rfl,h2,[_],rfl⟩
  ·cases e
 | .str,X,h,Q,vs,ps,K,hb,hq,hQ,hv,e=>by
  unfold IF at e;split at e
  ·obtain ⟨p,qs,rfl,h1,h2⟩:=hv.cons_inv;simp only [VR] at h1;subst h1;exact ⟨_,_,[_],qs,e,rfl,rfl,h2,[_],rfl⟩
  ·cases e
 | .unit,X,h,Q,vs,ps,K,hb,hq,hQ,hv,e=>by
  unfold IF at e;exact ⟨(),vs,[],ps,e,rfl,rfl,hv,[],rfl⟩
 | .pair a b,X,h,Q,vs,ps,K,hb,hq,hQ,hv,e=>by
  unfold IF at e;obtain ⟨y,r,p,q,e1,rfl,d1,r1,s1,rfl⟩:=G4 hb hq hQ hv e;obtain ⟨z,r',p',q',e2,rfl,d2,r2,s2,rfl⟩:=G4 hb (λid b pid m hi=>hq id b pid m (by rw [NQ];exact List.mem_append_right _ hi)) hQ r1 e1;exact ⟨(y,z),r',p++p',q',e2,by simp,⟨p,p',rfl,d1,d2⟩,r2,s1++s2,by simp⟩
 | .sl g c,X,h,Q,vs,ps,K,hb,hq,hQ,hv,e=>by
  unfold IF at e;split at e
  ·obtain ⟨p,qs,rfl,h1,h2⟩:=hv.cons_inv;simp only [VR] at h1;subst h1;exact ⟨[],_,[_],qs,e,rfl,⟨_,rfl,.inl ⟨rfl,rfl⟩⟩,h2,[_],rfl⟩
  ·rename_i g' c' l r;replace e:=A3 e;obtain ⟨hg,e⟩:=e;have:=eq_of_beq hg;subst this;obtain ⟨hc,e⟩:=Ck e;subst hc;obtain ⟨p,qs,rfl,h1,h2⟩:=hv.cons_inv;refine ⟨l,_,[p],qs,e,rfl,⟨p,rfl,?_⟩,h2,[_],rfl⟩;simp only [VR] at h1;rcases h1 with h1 | ⟨f,es,h1,_,h3⟩ | ⟨pid,off,len,es,ex,fz,h1,_,h3,h4,h5,h8,h6⟩
   ·exact .inl h1
   ·exact .inr (.inl ⟨f,es,h1,h3⟩)
   ·exact .inr (.inr ⟨pid,off,len,es,ex,fz,h1,hQ _ h3,h4,h5,h8,h6⟩)
  ·rename_i g' c' l r;replace e:=A3 e;obtain ⟨hg,e⟩:=e;have:=eq_of_beq hg;subst this;obtain ⟨hc,e⟩:=Ck e;subst hc;obtain ⟨p,qs,rfl,h1,h2⟩:=hv.cons_inv;refine ⟨l,_,[p],qs,e,rfl,⟨p,rfl,?_⟩,h2,[_],rfl⟩;simp only [VR] at h1;rcases h1 with h1 | ⟨f,es,h1,h3⟩
   ·exact .inl h1
   ·exact .inr (.inl ⟨f,es,h1,h3⟩)
  ·rename_i f es r;obtain ⟨p,qs,rfl,h1,h2⟩:=hv.cons_inv;simp only [VR] at h1;obtain ⟨f',ps,rfl,_,h3⟩:=h1
   obtain ⟨ys,e1,r1⟩:=SN (X:=Cx.pure) (R:=EP g (DP c)) (fun {v p K'} hv e=>by
    rcases E7 e with ⟨hg,e⟩ | ⟨hg,e⟩
    ·subst hg;split at e
     ·obtain ⟨cs,rfl,hv'⟩:=hv.agg_inv;obtain ⟨y,r,p,q,e1,rfl,d1,r1,_⟩:=G4 (c:=c) (Q:=λ_=>True) (λ_ _ _ _ h=>(by cases h)) (λ_ _ _ _ _ _ h=>(by cases h)) (λ_ _=>trivial) hv' e;split at e1
      ·rw [r1.nil_inv];exact ⟨y,e1,_,rfl,by rw [List.append_nil];exact d1.pure⟩
      ·cases e1
     ·cases e
    ·subst hg;obtain ⟨y,r,p,q,e1,h5,d1,r1,_⟩:=G4 (c:=c) (Q:=λ_=>True) (λ_ _ _ _ h=>(by cases h)) (λ_ _ _ _ _ _ h=>(by cases h)) (λ_ _=>trivial) (VRL.cons hv .nil) e;split at e1
     ·rw [r1.nil_inv,List.append_nil] at h5;subst h5;exact ⟨y,e1,d1.pure⟩
     ·cases e1) h3 e
   exact ⟨ys,_,[_],qs,e1,rfl,⟨_,rfl,.inr (.inl ⟨f',ps,rfl,r1⟩)⟩,h2,[_],rfl⟩
  ·rename_i id r;split at e
   ·rename_i g' c' l ex fz lk hrow;replace e:=A3 e;obtain ⟨hg,e⟩:=e;have:=eq_of_beq hg;subst this;obtain ⟨hc,e⟩:=Ck e;subst hc;obtain ⟨p,qs,rfl,h1,h2⟩:=hv.cons_inv;refine ⟨l,_,[p],qs,e,rfl,⟨p,rfl,?_⟩,h2,[_],rfl⟩;simp only [VR] at h1;cases hpi:X.π id with
    | none=>rw [hpi] at h1;exact h1.elim
    | some a =>
     rw [hpi] at h1;rcases hb _ _ _ hrow hpi with ⟨pid,len,es,fz',k1,k2,k3,k4,k5,k7,k6⟩ | ⟨k1,_,k2⟩ | ⟨es,k1,_,_,k2⟩
     ·cases k1;simp only at h1;subst h1;refine .inr (.inr ⟨pid,0,len,es,ex,fz',rfl,hq _ _ _ _ (by simp [KP]) hrow hpi,k3,by omega,CM rfl k6,?_⟩);rw [List.drop_zero,List.take_of_length_le (by omega)];exact k6
     ·cases k1;simp only at h1;exact .inl ⟨h1,k2⟩
     ·cases k1;simp only at h1;exact .inr (.inl ⟨true,es,h1,k2⟩)
   ·cases e
  ·rename_i id off len r;split at e
   ·rename_i g' c' l ex fz lk hrow;replace e:=A3 e;obtain ⟨hg,e⟩:=e;have:=eq_of_beq hg;subst this;obtain ⟨hle,e⟩:=Ap e;obtain ⟨hc,e⟩:=Ck e;subst hc;obtain ⟨p,qs,rfl,h1,h2⟩:=hv.cons_inv;refine ⟨_,_,[p],qs,e,rfl,⟨p,rfl,?_⟩,h2,[_],rfl⟩;simp only [VR] at h1;obtain ⟨pid,m,hpi,rfl⟩:=h1;rcases hb _ _ _ hrow hpi with ⟨pid,len',es,fz',k1,k2,k3,k4,k5,k7,k6⟩ | ⟨k1,_⟩ | ⟨es,k1,_⟩
    ·cases k1;refine .inr (.inr ⟨_,off,len,es,ex,fz',rfl,hq _ _ _ _ (by simp [KP]) hrow hpi,k3,?_,CM rfl k6,?_⟩)
     ·rw [<- k6.length];simpa [A6,AJ,AA] using hle
     ·exact Q0 k6 off len
    ·cases k1
    ·cases k1
   ·cases e
  ·cases e
theorem Ls {c:Ty} {X:Cx} {vs:List V} {ps:List PV} {K:c.den->List V->Option β} (hv:VRL X vs ps) (e:IF .lf c vs K=some x) : ∃ y r p q,K y r=some x/\ps=p++q/\DR X.h X.Q c y p/\VRL X r q :=
 by
 obtain ⟨y,r,p,q,h1,h2,h3,h4,_⟩:=G4 (Q:=X.Q) (λ_ _ _ h=>(by cases h)) (λ_ _ _ _ _ h=>(by cases h)) (λ_ h=>h) hv e;exact ⟨y,r,p,q,h1,h2,h3.same,h4⟩
theorem JW {g:Bool} {c:Ty} {X:Cx} {v:V} {p:PV} {K:c.den->Option β} (hv:VR X v p) (e:N6 .lf g c v K=some x) : ∃ y,K y=some x/\EP g (DR X.h X.Q c) y p:=by
 unfold N6 at e;rcases E7 e with ⟨hg,e⟩ | ⟨hg,e⟩
 ·subst hg;split at e
  ·obtain ⟨cs,rfl,hv'⟩:=hv.agg_inv;obtain ⟨y,r,p,q,e1,rfl,d1,r1⟩:=Ls hv' e;split at e1
   ·rw [r1.nil_inv];exact ⟨y,e1,_,rfl,by rw [List.append_nil];exact d1⟩
   ·cases e1
  ·cases e
 ·subst hg;obtain ⟨y,r,p,q,e1,h5,d1,r1⟩:=Ls (VRL.cons hv .nil) e;split at e1
  ·rw [r1.nil_inv,List.append_nil] at h5;subst h5;exact ⟨y,e1,d1⟩
  ·cases e1
theorem Ni {g:Bool} {c:Ty} {X:Cx} {h:H} {n:Nat} {Q:Nat->Prop} (r:RH X h n) {v:V} {p:PV} {K:c.den->Option β} (hq : ∀ id pid m,id∈KP v.cells->X.π id=some (.blk pid m)->Q pid) (hQ : ∀ pid,X.Q pid->Q pid) (hv:VR X v p) (e:N6 h g c v K=some x) : ∃ y,K y=some x/\EP g (DX X.h Q X.Q c) y p:=by
 unfold N6 at e;have hb : ∀ id b a,h.get id=some b->X.π id=some a->BR X b (some a):=λid b a h1 h2=>h2 ▸ r.blk _ _ h1;rcases E7 e with ⟨hg,e⟩ | ⟨hg,e⟩
 ·subst hg;split at e
  ·obtain ⟨cs,rfl,hv'⟩:=hv.agg_inv;obtain ⟨y,r,p,q,e1,rfl,d1,r1,_⟩:=G4 (Q:=Q) hb (λid b pid m hi _ hp=>hq id pid m hi hp) hQ hv' e;split at e1
   ·rw [r1.nil_inv];exact ⟨y,e1,_,rfl,by rw [List.append_nil];exact d1⟩
   ·cases e1
  ·cases e
 ·subst hg;obtain ⟨y,r,p,q,e1,h5,d1,r1,_⟩:=G4 (Q:=Q) hb (λid b pid m hi _ hp=>hq id pid m (Yw hi) hp) hQ (VRL.cons hv .nil) e;split at e1
  ·rw [r1.nil_inv,List.append_nil] at h5;subst h5;exact ⟨y,e1,d1⟩
  ·cases e1
theorem Pr {g:Bool} {c:Ty} {X:Cx} {h:H} {n:Nat} (r:RH X h n) {v:V} {p:PV} {K:List c.den->Option β} (hv:VR X v p) (e:Qr h g c v K=some x) :
  ∃ l es,K l=some x/\Pi.Dv X.h p=some es/\L2 (EP g (DR X.h X.Q c)) l es:=by
 unfold Qr at e;have hb : ∀ id b a,h.get id=some b->X.π id=some a->BR X b (some a):=λid b a h1 h2=>h2 ▸ r.blk _ _ h1;obtain ⟨l,rr,p',q,e1,h5,d1,r1,_⟩:=G4 (Q:=λ_=>True) hb (λ_ _ _ _ _ _ _=>trivial) (λ_ _=>trivial) (VRL.cons hv .nil) e;obtain ⟨p0,rfl,d1⟩:=d1
 have:p=p0:=by
  cases q with
  | nil=>simpa using h5
  | cons=>simp at h5
 subst this;rcases d1 with ⟨rfl,rfl⟩ | ⟨f,es,rfl,d2⟩ | ⟨pid,off,len,es,ex,fz,rfl,_,d3,d4,_,d5⟩
 ·exact ⟨[],[],e1,rfl,.nil⟩
 ·exact ⟨l,es,e1,rfl,d2.mono λ_ _ k=>k.mono λ_ _ k=>k.up⟩
 ·refine ⟨l,_,e1,?_,d5⟩;unfold Pi.Dv;simp only [d3];have:Nat.ble (off+len) es.length=true:=by simpa using d4
  rw [this];rfl
end
end Go.Proofs.YthpkjfabdccpdaaGreat.Sv
namespace Go.Proofs.YthpkjfabdccpdaaGreat.Sv
open Go.Proofs.YthpkjfabdccpdaaGreat.Pi (PV T Hp Blk DF UM PE Au A8)
section
variable {X:Cx} {h:H} {n:Nat} {β:Type} {x:β} {P:Program}
theorem HL : ∀ {c:Ty} {y:c.den} {ps:List PV},DR X.h X.Q c y ps->VRL X (cells c y) ps
 | .int _,_,_,e=>by subst e;exact .cons (by simp [VR]) .nil
 | .bool,_,_,e=>by subst e;exact .cons (by simp [VR]) .nil
 | .str,_,_,e=>by subst e;exact .cons (by simp [VR]) .nil
 | .unit,_,_,e=>by subst e;exact .nil
 | .pair _ _,_,_,⟨p,q,e,h1,h2⟩=>by subst e;exact (HL h1).append (HL h2)
 | .sl _ _,_,_,⟨p,e,h⟩=>by
  subst e;refine .cons ?_ .nil;simp only [VR];rcases h with h | ⟨f,es,h1,h2⟩ | ⟨pid,off,len,es,ex,fz,h1,h2,h3,h4,h8,h5⟩
  ·exact .inl h
  ·exact .inr (.inl ⟨f,es,h1,by simp,h2⟩)
  ·exact .inr (.inr ⟨pid,off,len,es,ex,fz,h1,by simp,h2,h3,h4,h8,h5⟩)
theorem K3 {g:Bool} {c:Ty} {y:c.den} {e:PV} (h:EP g (DR X.h X.Q c) y e):VR X (Wn g c y) e:=by
 cases g with
 | true=>obtain ⟨cs,rfl,h⟩:=h;simp only [Wn,cond_true,VR];exact ⟨cs,rfl,HL h⟩
 | false =>
  have:=HL (X:=X) (show DR X.h X.Q c y [e] from h);unfold Wn;simp only [cond_false];have hl:=this.length;split
  ·rename_i v hv;rw [hv] at this;obtain ⟨p,qs,h1,h2,_⟩:=this.cons_inv;cases h1;exact h2
  ·rename_i hne;cases hc:cells c y with
   | nil=>rw [hc] at hl;simp at hl
   | cons a l=>cases l with
    | nil=>exact absurd hc (hne _)
    | cons=>rw [hc] at hl;simp at hl
theorem KD : ∀ {c:Ty} {y:c.den} {ps:List PV},DP c y ps->VRL X (MY c y) ps
 | .int _,_,_,e=>by subst e;exact .cons (by simp [VR]) .nil
 | .bool,_,_,e=>by subst e;exact .cons (by simp [VR]) .nil
 | .str,_,_,e=>by subst e;exact .cons (by simp [VR]) .nil
 | .unit,_,_,e=>by subst e;exact .nil
 | .pair _ _,_,_,⟨p,q,e,h1,h2⟩=>by subst e;exact (KD h1).append (KD h2)
 | .sl _ _,_,_,⟨p,e,h⟩=>by
  subst e;refine .cons ?_ .nil;simp only [VR];exact h
theorem HM {g:Bool} {c:Ty} {y:c.den} {e:PV} (h:EP g (DP c) y e):VR X (elP g c y) e:=by
 cases g with
 | true=>obtain ⟨cs,rfl,h⟩:=h;simp only [elP,cond_true,VR];exact ⟨cs,rfl,KD h⟩
 | false =>
  have:=KD (X:=X) (show DP c y [e] from h);unfold elP;simp only [cond_false];have hl:=this.length;split
  ·rename_i v hv;rw [hv] at this;obtain ⟨p,qs,h1,h2,_⟩:=this.cons_inv;cases h1;exact h2
  ·rename_i hne;cases hc:MY c y with
   | nil=>rw [hc] at hl;simp at hl
   | cons a l=>cases l with
    | nil=>exact absurd hc (hne _)
    | cons=>rw [hc] at hl;simp at hl
theorem RH.ptr (r:RH X h n) {j off:Nat} {p:PV} {cs:List V} {fz lk:Bool} (hv:VR X (.ptr j off) p) (e:h.get j=some (.box cs fz lk)) :
  ∃ pid m ps fz',X.π j=some (.blk pid m)/\p = .ptr pid off/\X.h.get pid=some (.box ps fz')/\(fz=false->fz'=false)/\VRL X cs ps:=by
 simp only [VR] at hv;obtain ⟨pid,m,h1,rfl⟩:=hv;have:=r.blk _ _ e;rw [h1] at this;obtain ⟨_,_,ps,fz',h2,h3,h4,h5,h6⟩:=this;cases h2;exact ⟨pid,m,ps,fz',h1,rfl,h4,h5,h6⟩
theorem RH.rowAt (r:RH X h n) {j pid m:Nat} {g:Bool} {c:Ty} {l:List c.den} {ex fz lk:Bool} (h1:X.π j=some (.blk pid m)) (e:h.get j=some (.row g c l ex fz lk)) :
  ∃ es fz',X.h.get pid=some (.row es ex fz')/\(fz=false->fz'=false)/\es.length=m/\(ex=false->0<m)/\L2 (EP g (DR X.h X.Q c)) l es:=by
 have:=r.blk _ _ e;rw [h1] at this;rcases this with ⟨_,_,es,fz',h2,h3,h4,h5,h6,h8,h7⟩ | ⟨h2,_⟩ | ⟨_,h2,_⟩
 ·cases h2;exact ⟨es,fz',h4,h5,h6,h8,h7⟩
 ·cases h2
 ·cases h2
theorem Yx (r:RH X h n) {ty:TypeId} {a:V} {p:PV} {K:V->Option β} (ha:VR X a p) (e:Yp P h ty a K=some x) : ∃ v q,K v=some x/\Pi.Fh P X.h ty p=some (.val q X.h)/\VR X v q:=by
 unfold Yp at e;split at e
 ·replace e:=AX e;obtain ⟨v,e1,e⟩:=e;simp only [VR] at ha;obtain ⟨ps,rfl,h1⟩:=ha;obtain ⟨q,e2,r2⟩:=D8 (h1.mono (Up.pure X)) e1;exact ⟨v,q,e,DA e2,r2⟩
 ·split at e
  ·rename_i cs fz lk hg;obtain ⟨pid,m,ps,fz',h1,rfl,h3,h4,h5⟩:=r.ptr ha hg;replace e:=AX e;obtain ⟨v,e1,e⟩:=e;obtain ⟨q,e2,r2⟩:=D8 (h5.drop _) e1;exact ⟨v,q,e,by unfold Pi.Fh;simp only [h3];exact DA e2,r2⟩
  ·cases e
 ·replace e:=AX e;obtain ⟨v,e1,e⟩:=e;simp only [VR] at ha;rcases ha with ⟨ps,rfl,h1⟩ | ⟨pid,i,off,es,ex,fz,el,rfl,h1,h2,h3,h4⟩
  ·obtain ⟨q,e2,r2⟩:=D8 (h1.mono (Up.pure X)) e1;exact ⟨v,q,e,DA e2,r2⟩
  ·obtain ⟨q,e2,r2⟩:=D8 h4 e1;refine ⟨v,q,e,?_,r2⟩;unfold Pi.Fh;simp only [h2,Au,h3];exact DA e2
 ·rename_i j i off;split at e
  ·rename_i g c l ex fz lk hg;replace e:=Lq e;obtain ⟨y,hy,e⟩:=e;replace e:=AX e;obtain ⟨v,e1,e⟩:=e;simp only [VR] at ha;obtain ⟨pid,m,h1,rfl⟩:=ha;obtain ⟨es,fz',h2,h3,h4,h9,h5⟩:=r.rowAt h1 hg;obtain ⟨el,hel,hE⟩:=h5.get hy;obtain ⟨q,e2,r2⟩:=D8 ((K3 hE).cells.drop off) e1;refine ⟨v,q,e,?_,r2⟩;unfold Pi.Fh;simp only [h2,Au,hel];exact DA e2
  ·cases e
 ·cases e
theorem Dk (h:Hp) (i:Nat) (b:Blk) : ∃ h',h.set i b=some h':=⟨{ h with m:=T.put (i+1) h.m i b },by
 unfold Pi.Hp.set;rw [show Nat.blt i (i+1)=true from by simp];rfl⟩
theorem K4 (h:Hp) (i:Nat) (b:Blk) (e:h.get i=none) : ∃ h',h.new i b=some h':=by
 unfold Pi.Hp.new Pi.Hp.get at *;rw [e];exact Dk h i b
theorem Tz {hs:Hp} {pid i:Nat} {es:List PV} {ex:Bool} {el c1:PV} {cl:List PV} (A:List PV->Option Pi.R):(∀ cs,el ≠ .agg cs)->el.cells=[el]->cl=[c1]->(∀ cs,c1 ≠ .agg cs)->(∀ cs,c1 ≠ .tup cs) ->
  (match el with
   | .agg cs=>A cs
   | _=>(match cl with
    | [c]=>bif Nat.beq 0 0&&Nat.beq el.cells.length 1 then (match c with
     | .agg _=>none
     | .tup _=>none
     | c=>(hs.set pid (.row (Pi.lset es i c) ex false)).map Pi.R.skip) else none
    | _=>none))=(hs.set pid (.row (Pi.lset es i c1) ex false)).map .skip:=by
 intro h1 h2 h3 h4 h5;subst h3;have hb:(Nat.beq 0 0&&Nat.beq el.cells.length 1)=true:=by rw [h2];rfl
 cases el<;>first
  | exact absurd rfl (h1 _)
  | (simp only [hb,cond_true]<;>cases c1<;>first | rfl | exact absurd rfl (h4 _) | exact absurd rfl (h5 _))
def K5 (X:Cx) (h:H) (n id idP:Nat) (h':H) (hP':Hp) (Y:Cx):Prop:=Y.h=hP'/\RH Y h' n/\St X h id idP Y h'
theorem Wt (r:RH X h n) (hn:n<=1048575) {ty:TypeId} {a w:V} {p q:PV} {K:H->Option β} (ha:VR X a p) (hw:VR X w q) (id idP:Nat) (e:Tp P h ty a w K=some x) :
  ∃ h' hP' Y,K h'=some x/\Pi.Dd P X.h ty p q=some (.skip hP')/\K5 X h n id idP h' hP' Y:=by
 unfold Tp at e;replace e:=AX e;obtain ⟨sz,hsz,e⟩:=e;replace e:=C4 e;obtain ⟨hc,e⟩:=e;have hwc:=hw.cells;rw [hwc.length] at hc;have YJ : ∀ {j pid m:Nat},X.π j=some (.blk pid m)->j<1048575:=λhp=>by have:=r.dom _ _ hp;omega
 split at e
 ·rename_i j off;split at e
  ·rename_i cs hg;replace e:=A3 e;obtain ⟨hle,e⟩:=e;obtain ⟨pid,m,ps,fz',h1,rfl,h3,h4,h5⟩:=r.ptr ha hg;have:=h4 rfl;subst this;have hset : ∃ hP',X.h.set pid (.box (Pi.Em ps off q.cells) false)=some hP':=Dk _ _ _;obtain ⟨hP',hset⟩:=hset
   obtain ⟨Y,y1,y2,y3,y4,y5⟩:=r.set (b':=.box (Pf cs off w.cells) false false) (YJ h1) hg trivial rfl h1 h3 (by intros;simp) hset
    (λY y1 y2 y3 u=>by
     rw [h1]
     refine ⟨pid,m,_,false,rfl,by rw [y3];exact (h1 ▸ r.blk _ _ hg).own trivial,by rw [y2,(Hp.get_set hset).1,if_pos rfl],λ_=>rfl,(h5.fput hwc off).mono u⟩) idP
   refine ⟨_,hP',Y,e,?_,y2,y4,y5 id⟩;unfold Pi.Dd;simp only [hsz,hc,cond_false,h3];rw [<- h5.length,hle];simp only [cond_true,hset];rfl
  ·cases e
 ·rename_i j i off;split at e
  ·rename_i g c l ex hg;replace e:=Lq e;obtain ⟨y,hy,e⟩:=e;replace e:=A3 e;obtain ⟨hle,e⟩:=e;simp only [VR] at ha;obtain ⟨pid,m,h1,rfl⟩:=ha;obtain ⟨es,fz',h2,h3,h4,h9,h5⟩:=r.rowAt h1 hg;have:=h3 rfl;subst this;obtain ⟨el,hel,hE⟩:=h5.get hy;have hcl:=HL (X:=X) hE.cells;have hf:=hcl.fput hwc off;obtain ⟨y',r',p',q',e1,h6,d1,r1⟩:=Ls hf e;split at e1
   ·rw [r1.nil_inv,List.append_nil] at h6;subst h6
    have key : ∃ el',EP g (DR X.h X.Q c) y' el'/\(match el with
      | .agg cs=>(X.h.set pid (.row (Pi.lset es i (.agg (Pi.Em cs off q.cells))) ex false)).map Pi.R.skip
      | _=>(match q.cells with
       | [c]=>bif Nat.beq off 0&&Nat.beq el.cells.length 1 then (match c with
        | .agg _=>none
        | .tup _=>none
        | c=>(X.h.set pid (.row (Pi.lset es i c) ex false)).map .skip) else none
       | _=>none))=(X.h.set pid (.row (Pi.lset es i el') ex false)).map .skip:=by
     cases g with
     | true =>
      obtain ⟨cs,rfl,_⟩:=hE;exact ⟨.agg (Pi.Em cs off q.cells),⟨_,rfl,d1⟩,rfl⟩
     | false =>
      have hE':DR X.h X.Q c y [el]:=hE;have hel1:=hE'.leaf el (by simp);have hlen:(cells c y).length=1:=by rw [hcl.length,hel1.2.2];rfl
      simp only [Bool.or_eq_false_iff,Bool.not_eq_false',Nat.blt_eq,Nat.beq_eq] at hc;rw [hlen] at hle;have hle':off+sz<=1:=by simpa using hle
      have hoff:off=0:=by omega
      have hsz1:sz=1:=by omega
      subst hoff;have hq1:q.cells.length=1:=by omega
      obtain ⟨c1,hc1⟩ : ∃ c1,q.cells=[c1]:=by
       cases hqq:q.cells with
       | nil=>rw [hqq] at hq1;simp at hq1
       | cons a t=>cases t with
        | nil=>exact ⟨a,rfl⟩
        | cons=>rw [hqq] at hq1;simp at hq1
      have Ad:Pi.Em el.cells 0 q.cells=[c1]:=by rw [hel1.2.2,hc1];rfl
      rw [Ad] at d1;have hl1:=d1.leaf c1 (by simp);refine ⟨c1,d1,?_⟩;exact Tz _ hel1.1 hel1.2.2 hc1 hl1.1 hl1.2.1
    obtain ⟨el',hE',hk⟩:=key;have hset : ∃ hP',X.h.set pid (.row (Pi.lset es i el') ex false)=some hP':=Dk _ _ _;obtain ⟨hP',hset⟩:=hset
    obtain ⟨Y,y1,y2,y3,y4,y5⟩:=r.set (b':=.row g c (lset l i y') ex false false) (YJ h1) hg trivial rfl h1 h2 (by intros;simp) hset
     (λY y1 y2 y3 u=>by
      rw [h1];refine .inl ⟨pid,m,_,false,rfl,by rw [y3];exact (h1 ▸ r.blk _ _ hg).own trivial,by rw [y2,(Hp.get_set hset).1,if_pos rfl],λ_=>rfl,by rw [A8];simpa using h4,h9,?_⟩;rw [A8]
      exact EDR.mono u (h5.set i hE')) idP
    refine ⟨_,hP',Y,e1,?_,y2,y4,y5 id⟩;unfold Pi.Dd;have hle2:Nat.ble (off+sz) el.cells.length=true:=by rw [<- hcl.length];exact hle
    simp only [hsz,hc,cond_false,h2,Au,hel,hle2,cond_true];rw [hset] at hk;exact hk
   ·cases e1
  ·cases e
 ·cases e
end
end Go.Proofs.YthpkjfabdccpdaaGreat.Sv
namespace Go.Proofs.YthpkjfabdccpdaaGreat.Sv
open Go.Proofs.YthpkjfabdccpdaaGreat.Pi (PV T Hp Blk DF UM PE Au A8)
section
variable {X:Cx} {h:H} {n:Nat} {β:Type} {x:β} {P:Program}
theorem EP.upP {g:Bool} {hh:Hp} {Q:Nat->Prop} {c:Ty} {y:c.den} {e:PV} (h:EP g (DP c) y e):EP g (DR hh Q c) y e:=h.mono λ_ _ k=>k.up
theorem Lt {k:Nat} : ∀ {m i:Nat} {K:Nat->Option β},N9 k m i K=some x->K k=some x/\i<=k/\k<i+m
 | 0,_,_,e=>by cases e
 | 1,i,K,e=>by
  unfold N9 at e;obtain ⟨h1,h2⟩:=Ap e;have:k=i:=by simpa [neq] using h1
  subst this;exact ⟨h2,Nat.le_refl _,by omega⟩
 | m+2,i,K,e=>by
  unfold N9 at e;rcases ES e with ⟨h1,h2⟩ | ⟨h1,h2⟩
  ·have:k=i:=by simpa [neq] using h1
   subst this;exact ⟨h2,Nat.le_refl _,by omega⟩
  ·obtain ⟨h3,h4,h5⟩:=Lt h2;exact ⟨h3,by omega,by omega⟩
theorem PH {s:TypeId} {a:V} {p:PV} {f:Nat} {K:V->Option β} (ha:VR X a p) (e:Kx P s a f K=some x) : ∃ v q,K v=some x/\Pi.CG P X.h s p f=some (.val q X.h)/\VR X v q:=by
 unfold Kx at e;unfold Pi.CG;split at e
 ·rename_i fs hu;split at e
  ·rename_i fd hf;split at e
   ·rename_i sz hsz;replace e:=C4 e;obtain ⟨hc,e⟩:=e;simp only [hu,hf,hsz,hc,cond_false];split at e
    ·simp only [VR] at ha;obtain ⟨pid,m,h1,rfl⟩:=ha;exact ⟨_,_,e,rfl,by simp only [VR];exact ⟨pid,m,h1,rfl⟩⟩
    ·simp only [VR] at ha;obtain ⟨pid,m,h1,rfl⟩:=ha;exact ⟨_,_,e,rfl,by simp only [VR];exact ⟨pid,m,h1,rfl⟩⟩
    ·simp only [VR] at ha;rcases ha with ⟨ps,rfl,h1⟩ | ⟨pid,i,off,es,ex,fz,el,rfl,h1,h2,h3,h4⟩
     ·exact ⟨_,_,e,rfl,by simp only [VR];exact .inl ⟨_,rfl,h1.drop _⟩⟩
     ·refine ⟨_,_,e,rfl,?_⟩;simp only [VR];exact .inr ⟨pid,i,_,es,ex,fz,el,rfl,h1,h2,h3,by rw [<- List.drop_drop];exact h4.drop _⟩
    ·simp only [VR] at ha;obtain ⟨ps,rfl,h1⟩:=ha;exact ⟨_,_,e,rfl,by simp only [VR];exact ⟨_,rfl,h1.drop _⟩⟩
    ·cases e
   ·cases e
  ·cases e
 ·cases e
theorem PI (r:RH X h n) {ty:TypeId} {a i:V} {p q:PV} {K:V->Option β} (ha:VR X a p) (hi:VR X i q) (e:Ky P h ty a i K=some x) : ∃ v w,K v=some x/\Pi.B0 P X.h ty p q=some (.val w X.h)/\VR X v w:=by
 unfold Ky at e;split at e
 ·rename_i et hu;replace e:=AX e;obtain ⟨sz,hsz,e⟩:=e;replace e:=G3 hi e;obtain ⟨k,e,hk⟩:=e;unfold Pi.B0;simp only [hu,hk,hsz];split at e
  ·rename_i f g c es;replace e:=Lq e;obtain ⟨y,hy,e⟩:=e;replace e:=A3 e;obtain ⟨hl,e⟩:=e;simp only [VR] at ha;rcases ha with ⟨rfl,rfl⟩ | ⟨f',ps,rfl,_,h1⟩ | ⟨pid,off,len,ps,ex,fz,rfl,_,h1,h2,h3,_,h4⟩
   ·simp at hy
   ·obtain ⟨el,hel,hE⟩:=h1.get hy;have hc:=(K3 (X:=Cx.pure) hE.upP).cells;refine ⟨_,.view el.cells,e,?_,by simp only [VR];exact .inl ⟨_,rfl,hc⟩⟩;simp only [Au,hel];rw [<- hc.length,hl];rfl
   ·obtain ⟨el,hel,hE⟩:=h4.get hy;have hc:=(K3 hE).cells
    have hkl:k<len:=by
     have:=(List.getElem?_eq_some_iff.1 hel).1;simp at this;omega
    have hel2:ps[off+k]? = some el:=by
     rw [List.getElem?_take_of_lt hkl,List.getElem?_drop] at hel;exact hel
    refine ⟨_,.ept pid (off+k) 0,e,?_,by simp only [VR];exact .inr ⟨pid,off+k,0,ps,ex,fz,el,rfl,h1,h2,hel2,by simpa using hc⟩⟩;have hb:Nat.blt k len=true:=by simpa using hkl
    simp only [hb,cond_true,h2,Au,hel2];rw [<- hc.length,hl];rfl
  ·rename_i g c es;replace e:=Lq e;obtain ⟨y,hy,e⟩:=e;replace e:=A3 e;obtain ⟨hl,e⟩:=e;simp only [VR] at ha;rcases ha with ⟨rfl,rfl⟩ | ⟨f',ps,rfl,h1⟩
   ·simp at hy
   ·obtain ⟨el,hel,hE⟩:=h1.get hy;have hc:=(HM (X:=Cx.pure) hE).cells;refine ⟨_,.view el.cells,e,?_,by simp only [VR];exact ⟨_,rfl,hc⟩⟩;simp only [Au,hel];rw [<- hc.length,hl];rfl
  ·rename_i f es;replace e:=Lt e;obtain ⟨e,_,_⟩:=e;replace e:=AX e;obtain ⟨el,hel,e⟩:=e;replace e:=A3 e;obtain ⟨hl,e⟩:=e;simp only [VR] at ha;obtain ⟨f',ps,rfl,_,h1⟩:=ha;obtain ⟨elP,hel2,hE⟩:=h1.lget hel;refine ⟨_,.view elP.cells,e,?_,by simp only [VR];exact .inl ⟨_,rfl,hE.cells⟩⟩;simp only [hel2];rw [<- hE.cells.length,hl];rfl
  ·rename_i j;split at e
   ·rename_i g c es ex lk hg;replace e:=Ap e;obtain ⟨hlt,e⟩:=e;replace e:=A3 e;obtain ⟨hl,e⟩:=e;have hlt':k<es.length:=by simpa [B6,AA] using hlt
    simp only [VR] at ha;have hb:=r.blk _ _ hg;cases hpi:X.π j with
    | none=>rw [hpi] at ha;exact ha.elim
    | some t =>
     rw [hpi] at ha hb;rcases hb with ⟨pid,len,ps,fz',h1,h2,h3,h4,h5,h7,h6⟩ | ⟨h1,_,h2⟩ | ⟨_,h1,_,h2,_⟩
     ·cases h1;simp only at ha;subst ha;obtain ⟨y,hy⟩ : ∃ y,es[k]? = some y:=⟨es[k],List.getElem?_eq_getElem hlt'⟩;obtain ⟨el,hel,hE⟩:=h6.get hy;refine ⟨_,.ept pid (0+k) 0,e,?_,by simp only [VR];exact ⟨pid,len,hpi,by simp⟩⟩;have hb:Nat.blt k len=true:=by rw [<- h5,<- h6.length];simpa using hlt'
      simp only [hb,cond_true,h3,Au,Nat.zero_add,hel];rw [hE.wd,hl];rfl
     ·subst h2;simp at hlt'
     ·rcases h2 with h2 | h2
      ·cases h2
      ·subst h2;simp at hlt'
   ·cases e
  ·rename_i j off len;replace e:=Ap e;obtain ⟨hlt,e⟩:=e;split at e
   ·rename_i g c es ex fz lk hg;replace e:=Ap e;obtain ⟨hlt2,e⟩:=e;replace e:=A3 e;obtain ⟨hl,e⟩:=e;simp only [VR] at ha;obtain ⟨pid,m,hpi,rfl⟩:=ha;obtain ⟨ps,fz',h3,_,h5,_,h6⟩:=r.rowAt hpi hg;have hlt':off+k<es.length:=by simpa [B6,AA,AJ] using hlt2
    obtain ⟨y,hy⟩ : ∃ y,es[off+k]? = some y:=⟨es[off+k],List.getElem?_eq_getElem hlt'⟩;obtain ⟨el,hel,hE⟩:=h6.get hy;refine ⟨_,.ept pid (off+k) 0,e,?_,by simp only [VR];exact ⟨pid,m,hpi,rfl⟩⟩;have hb:Nat.blt k len=true:=hlt;simp only [hb,cond_true,h3,Au,hel];rw [hE.wd,hl];rfl
   ·cases e
  ·cases e
 ·rename_i len et hu;replace e:=AX e;obtain ⟨sz,hsz,e⟩:=e;replace e:=G3 hi e;obtain ⟨k,e,hk⟩:=e;replace e:=Lt e;obtain ⟨e,_,hlt⟩:=e;unfold Pi.B0;have hb:Nat.blt k len=true:=by simpa using hlt
  simp only [hu,hk,hsz,hb,cond_true];split at e
  ·simp only [VR] at ha;obtain ⟨pid,m,h1,rfl⟩:=ha;exact ⟨_,_,e,rfl,by simp only [VR];exact ⟨pid,m,h1,rfl⟩⟩
  ·simp only [VR] at ha;obtain ⟨pid,m,h1,rfl⟩:=ha;exact ⟨_,_,e,rfl,by simp only [VR];exact ⟨pid,m,h1,rfl⟩⟩
  ·simp only [VR] at ha;rcases ha with ⟨ps,rfl,h1⟩ | ⟨pid,i,off,es,ex,fz,el,rfl,h1,h2,h3,h4⟩
   ·exact ⟨_,_,e,rfl,by simp only [VR];exact .inl ⟨_,rfl,h1.drop _⟩⟩
   ·refine ⟨_,_,e,rfl,?_⟩;simp only [VR];exact .inr ⟨pid,i,_,es,ex,fz,el,rfl,h1,h2,h3,by rw [<- List.drop_drop];exact h4.drop _⟩
  ·simp only [VR] at ha;obtain ⟨ps,rfl,h1⟩:=ha;exact ⟨_,_,e,rfl,by simp only [VR];exact ⟨_,rfl,h1.drop _⟩⟩
  ·cases e
 ·cases e
theorem Wu {ty:TypeId} {a i:V} {p q:PV} {K:V->Option β} (ha:VR X a p) (hi:VR X i q) (e:Tv P ty a i K=some x) : ∃ v w,K v=some x/\Pi.Eo P X.h ty p q=some (.val w X.h)/\VR X v w:=by
 unfold Tv at e;split at e
 ·rename_i len et cs hu;replace e:=AX e;obtain ⟨sz,hsz,e⟩:=e;replace e:=G3 hi e;obtain ⟨k,e,hk⟩:=e;replace e:=Lt e;obtain ⟨e,_,hlt⟩:=e;replace e:=AX e;obtain ⟨v,hv,e⟩:=e;obtain ⟨ps,rfl,ha'⟩:=ha.agg_inv;obtain ⟨w,h1,h2⟩:=D8 (ha'.drop _) hv;refine ⟨v,w,e,?_,h2⟩;unfold Pi.Eo;have hb:Nat.blt k len=true:=by simpa using hlt
  simp only [hu,hk,hb,cond_true,hsz];exact DA h1
 ·rename_i l hu;replace e:=G3 hi e;obtain ⟨k,e,hk⟩:=e;replace e:=Lq e;obtain ⟨b,hb,e⟩:=e;simp only [VR] at ha;subst ha;refine ⟨_,_,e,?_,by simp only [VR];rfl⟩;unfold Pi.Eo;simp only [hu,hk,Au,hb];rfl
 ·cases e
theorem Yy (r:RH X h n) {ty:TypeId} {a:V} {p:PV} {K:Int->Option β} {ats:Array TypeId} (ht:ats[0]? = some ty) (ha:VR X a p) (e:Yn P h ty a K=some x) (id:Nat) : ∃ m,K m=some x/\Pi.Af P X.h id .len ats [p]=some (.val (.int .i64 m) X.h):=by
 unfold Yn at e;unfold Pi.Af;simp only [ht];split at e
 ·rename_i hu;split at e
  ·rename_i k g c l lk hg;simp only [VR] at ha;obtain ⟨pid,m,h1,rfl⟩:=ha;have hb:=r.blk _ _ hg;rw [h1] at hb;obtain ⟨_,_,es,h2,h3,h4,h5⟩:=hb;cases h2;refine ⟨_,e,?_⟩;simp only [hu,h4,AV,AA,h5.length]
  ·cases e
 ·rename_i hu;simp only [VR] at ha;subst ha;exact ⟨_,e,by simp only [hu]⟩
 ·rename_i hu;exact ⟨_,e,by simp only [hu]⟩
 ·rename_i hu;simp only [VR] at ha;subst ha;exact ⟨_,e,by simp only [hu]⟩
 ·rename_i f g c l hu;simp only [VR] at ha;refine ⟨_,e,?_⟩;rcases ha with ⟨rfl,rfl⟩ | ⟨f',ps,rfl,_,h1⟩ | ⟨pid,off,len,ps,ex,fz,rfl,_,h1,h2,h3,_,h4⟩
  ·simp only [hu];rfl
  ·simp only [hu,AV,AA,h1.length]
  ·simp only [hu,AV,AA,h4.length];have:((ps.drop off).take len).length=len:=by simp;omega
   rw [this]
 ·rename_i f es hu;simp only [VR] at ha;obtain ⟨f',ps,rfl,_,h1⟩:=ha;exact ⟨_,e,by simp only [hu,h1.length]⟩
 ·rename_i j hu;split at e
  ·rename_i g c l ex fz lk hg;simp only [VR] at ha;have hb:=r.blk _ _ hg;cases hpi:X.π j with
   | none=>rw [hpi] at ha;exact ha.elim
   | some t =>
    rw [hpi] at ha hb;refine ⟨_,e,?_⟩;rcases hb with ⟨pid,len,ps,fz',h1,h2,h3,h4,h5,h7,h6⟩ | ⟨h1,_,h2⟩ | ⟨ps,h1,_,_,h2⟩
    ·cases h1;simp only at ha;subst ha;simp only [hu,AV,AA,h6.length,h5]
    ·cases h1;simp only at ha;subst ha;subst h2;simp only [hu];rfl
    ·cases h1;simp only at ha;subst ha;simp only [hu,AV,AA,h2.length]
  ·cases e
 ·rename_i hu;simp only [VR] at ha;obtain ⟨pid,m,h1,rfl⟩:=ha;exact ⟨_,e,by simp only [hu];rfl⟩
 ·rename_i l hu;simp only [VR] at ha;subst ha;exact ⟨_,e,by simp only [hu];rfl⟩
 ·cases e
theorem fR (r:RH X h n) {ty:TypeId} {a:V} {p:PV} {K:Int->Option β} {ats:Array TypeId} (ht:ats[0]? = some ty) (ha:VR X a p) (e:jT P h ty a K=some x) (id:Nat) : ∃ m,K m=some x/\Pi.Af P X.h id .len ats [p]=some (.val (.int .i64 m) X.h) :=
 Yy r ht ha.norm e id
end
end Go.Proofs.YthpkjfabdccpdaaGreat.Sv
