/- A part of the evaluator over typed open values for any program, and of the proof that it is sound. No condition. -/
import Derived.Test.YtfilfloanndddaaGreatPp2
import GoSem.Step
set_option linter.all false
namespace Go.Proofs.YtfilfloanndddaaGreat.Sv
section
variable {α β γ:Type}
def gd (c:Bool) (k:Unit->Option β):Option β:=bif c then k () else none
def br (c:Bool) (a b:Unit->Option β):Option β:=bif c then a () else b ()
def ix (l:List α) (i:Nat) (k:α->Option β):Option β:=match l[i]? with
 | some x=>k x
 | none=>none
def AT (n:Int) (k:Nat->Option β):Option β:=bif decide (0<=n) then k n.toNat else none
def bd (m:Option α) (k:α->Option β):Option β:=match m with
 | some x=>k x
 | none=>none
inductive LR (α β:Type) where
 | nx (s:α)
 | dn (x:β)
def Di:Nat->(α->Option (LR α β))->α->Option β
 | 0,_,_=>none
 | n+1,f,s=>match f s with
  | none=>none
  | some (.nx s)=>Di n f s
  | some (.dn x)=>some x
def loop (f:α->Option (LR α β)) (s:α):Option β:=Di 18446744073709551616 f s
def jn {δ:Type} (f:α->Option (LR δ γ)) (s:α) (k:δ->Option β) (a:γ->Option β):Option β:=match f s with
 | none=>none
 | some (.nx x)=>k x
 | some (.dn x)=>a x
def AI (k:IntKind) (a b:Int):Int:=k.wrap (a+b)
def CA (k:IntKind) (a b:Int):Int:=k.wrap (a-b)
def Pd (k:IntKind) (a b:Int):Int:=k.wrap (a*b)
def IY (k:IntKind) (a b:Int):Int:=k.wrap (a.tdiv b)
def pW (_:IntKind) (a b:Int):Int:=a.tmod b
def pX (k:IntKind) (a b:Int):Int:=k.wrap (BitVec.ofInt k.bits a &&& BitVec.ofInt k.bits b).toNat
def tf (k:IntKind) (a b:Int):Int:=k.wrap (BitVec.ofInt k.bits a ||| BitVec.ofInt k.bits b).toNat
def pY (k:IntKind) (a b:Int):Int:=k.wrap (BitVec.ofInt k.bits a ^^^ BitVec.ofInt k.bits b).toNat
def UO (k:IntKind) (a b:Int):Int:=k.wrap (a*2 ^ (min b.toNat k.bits))
def pZ (k:IntKind) (a b:Int):Int:=a.fdiv (2 ^ (min b.toNat k.bits))
def nU (k:IntKind) (a:Int):Int:=k.wrap (0-a)
def tY (k:IntKind) (a:Int):Int:=k.wrap a
def A8 (a b:Int):Bool:=a == b
def Ay (a b:Int):Bool:=a != b
def Ak (a b:Int):Bool:=decide (a<b)
def j9 (a b:Int):Bool:=decide (a<=b)
def CD (a b:Int):Bool:=decide (a>b)
def HY (a b:Int):Bool:=decide (a>=b)
def LL (a b:Int):Int:=if b>a then b else a
def Ok (a b:Int):Int:=if b<a then b else a
def Ad (a:Bool):Bool := !a
def Az (a b:Bool):Bool:=a&&b
def beq (a b:Bool):Bool:=a == b
def Ab (n:Nat):Int:=n
def Ag (a b:Nat):Nat:=a+b
def SV (a b:Nat):Nat:=a-b
def BP (a b:Nat):Bool:=Nat.ble a b
def C7 (a b:Nat):Bool:=Nat.blt a b
def neq (a b:Nat):Bool:=Nat.beq a b
def kA (a b:Nat):Nat:=Nat.min a b
def Gc (l:List UInt8):Nat:=l.length
def pf (a b:List UInt8):List UInt8:=a++b
def seq (a b:List UInt8):Bool:=a == b
def Cy (a b:List UInt8):Bool:=Op.bytesLess a b
def nV (l:List UInt8) (lo hi:Nat):List UInt8:=(l.drop lo).take (hi-lo)
def UP (b:UInt8):Int:=b.toNat
def KX (l:List Int) (k:Nat):Int:=(l[k]?).getD 0
def Ol (c:Bool) (a b:Int):Int:=bif c then a else b
def th (n:Int):UInt8:=UInt8.ofNat n.toNat
def AA (l:List α):Nat:=l.length
def Bu (a b:List α):List α:=a++b
def EI (l:List α) (lo hi:Nat):List α:=(l.drop lo).take (hi-lo)
def lset (l:List α) (i:Nat) (x:α):List α:=l.set i x
def D2 (n:Nat) (x:α):List α:=List.replicate n x
def Jl (l:List α) (off:Nat) (x:List α) (n:Nat):List α:=l.take off++(x.take n++l.drop (off+(x.take n).length))
def JF (e:γ->γ->Bool):List (γ×α)->γ->Option α
 | [],_=>none
 | (k,v)::l,x=>bif e x k then some v else JF e l x
def IW (e:γ->γ->Bool):List (γ×α)->γ->α->List (γ×α)
 | [],x,y=>[(x,y)]
 | (k,v)::l,x,y=>bif e x k then (x,y)::l else (k,v)::IW e l x y
def KN (e:γ->γ->Bool):List (γ×α)->γ->List (γ×α)
 | [],_=>[]
 | (k,v)::l,x=>bif e x k then l else (k,v)::KN e l x
def Qy (o:Option α) (z:α):α:=o.getD z
def nX (o:Option α):Bool:=o.isSome
end
end Go.Proofs.YtfilfloanndddaaGreat.Sv
namespace Go.Proofs.YtfilfloanndddaaGreat.Sv
variable [Pi.Gl]
open Go.Proofs.YtfilfloanndddaaGreat.Pi (PV T DF UM PE lget)
inductive Ty where
 | int (k:IntKind)
 | bool
 | str
 | unit
 | pair (a b:Ty)
 | sl (g:Bool) (c:Ty)
 deriving DecidableEq
@[reducible] def Ty.den:Ty->Type
 | .int _=>Int
 | .bool=>Bool
 | .str=>List UInt8
 | .unit=>Unit
 | .pair a b=>a.den×b.den
 | .sl _ c=>List c.den
inductive V where
 | bool (b:Bool)
 | int (k:IntKind) (n:Int)
 | str (l:List UInt8)
 | nilp | nils | nilm | nilf | nili
 | agg (cs:List V)
 | tup (vs:List V)
 | lf (full g:Bool) (c:Ty) (l:List c.den)
 | pl (g:Bool) (c:Ty) (l:List c.den)
 | exl (full:Bool) (es:List V)
 | ow (id:Nat)
 | own (id off len:Nat)
 | ptr (id off:Nat)
 | ept (id i off:Nat)
 | aptr (id off k n:Nat)
 | view (cs:List V)
 | pv (cs:List V)
 | fn (f:Fn) (first captured:List V)
 | yl (id:Nat)
 | ifc (t:TypeId) (v:V)
 | mp (id:Nat)
structure PEA where
 v:V
 recovered:Bool
inductive UMA where
 | ret
 | pan (ch:List PEA)
inductive DFA where
 | call (f:V) (args:List V)
 | bi (b:Builtin) (ats:Array TypeId) (ty:TypeId) (args:List V)
 | col (id:Nat)
inductive ExA where
 | normal
 | exit (id:Nat)
 | goto (l:Nat)
 | ret
 | panic (v:V)
inductive BA where
 | box (cs:List V) (fz lk:Bool)
 | row (g:Bool) (c:Ty) (l:List c.den) (ex fz lk:Bool)
 | mp (k:Ty) (g:Bool) (c:Ty) (l:List (k.den×c.den)) (lk:Bool)
 | lp (st:Nat) (pend:Option Code) (nt:Nat) (t:T V) (ps:List Nat) (asg body:Code) (d:Nat)
 | df (ds:Option (List DFA))
 | dead
abbrev H:=T BA
structure FrA where
 t:T V
 nt:Nat
 ds:List DFA
 up:Option UMA
 ro:Option Nat
inductive OutA where
 | ret (v:V)
 | pan (ch:List PEA)
def V.cells:V->List V
 | .agg cs=>cs
 | .tup _=>[]
 | v=>[v]
def cells:(c:Ty)->c.den->List V
 | .int k,n=>[.int k n]
 | .bool,b=>[.bool b]
 | .str,s=>[.str s]
 | .unit,_=>[]
 | .pair a b,x=>cells a x.1++cells b x.2
 | .sl g c,l=>[.lf false g c l]
def Nx:(c:Ty)->c.den->List V
 | .int k,n=>[.int k n]
 | .bool,b=>[.bool b]
 | .str,s=>[.str s]
 | .unit,_=>[]
 | .pair a b,x=>Nx a x.1++Nx b x.2
 | .sl g c,l=>[.pl g c l]
def elP (g:Bool) (c:Ty) (x:c.den):V:=bif g then .agg (Nx c x) else match Nx c x with
 | [v]=>v
 | _ => .nilp
def V.norm:V->V
 | .pl g c l => .lf false g c l
 | .pv cs => .view cs
 | v=>v
def ZP (g:Bool) (c:Ty) (x:c.den):V:=bif g then .agg (cells c x) else match cells c x with
 | [v]=>v
 | _ => .nilp
def X8:(c:Ty)->c.den
 | .int _=>(0:Int)
 | .bool=>false
 | .str=>[]
 | .unit=>()
 | .pair a b=>(X8 a,X8 b)
 | .sl _ _=>[]
def Ty.depth:Ty->Nat
 | .pair a b=>Nat.max a.depth b.depth
 | .sl _ c=>c.depth+1
 | _=>0
def Ty.wd:Ty->Nat
 | .unit=>0
 | .pair a b=>a.wd+b.wd
 | _=>1
def Ty.hasSl:Ty->Bool
 | .pair a b=>a.hasSl||b.hasSl
 | .sl _ _=>true
 | _=>false
def cR (rec:TypeId->Option (Bool×Ty)):List Field->Option Ty
 | []=>some .unit
 | [f]=>(rec f.type).map (·.2)
 | f::fs=>match rec f.type,cR rec fs with
  | some (_,c),some r=>some (.pair c r)
  | _,_=>none
def lj:Nat->Ty->Ty
 | 0,_ => .unit
 | 1,c=>c
 | n+1,c => .pair c (lj n c)
def Vz (P:Program):Nat->TypeId->Option (Bool×Ty)
 | 0,_=>none
 | d+1,t=>match P.underlying t with
  | some (.int k)=>some (false,.int k)
  | some .bool=>some (false,.bool)
  | some .string=>some (false,.str)
  | some (.slice e)=>(Vz P d e).map λ(g,c)=>(false,.sl g c)
  | some (.struct fs)=>(cR (Vz P d) fs.toList).map λc=>(true,c)
  | some (.array n e)=>(Vz P d e).map λ(_,c)=>(true,lj n c)
  | _=>none
def pK:Nat:=14
section
variable {β:Type}
def Ij {c a:Ty} (l:List c.den) (K:List a.den->Option β):Option β:=if e:c=a then K (e ▸ l) else none
def lm {k c a b:Ty} (l:List (k.den×c.den)) (K:List (a.den×b.den)->Option β):Option β :=
 if e:k=a then if e2:c=b then K (e ▸ e2 ▸ l) else none else none
def cS {α:Type} (d:V->(α->Option β)->Option β):List V->(List α->Option β)->Option β
 | [],K=>K []
 | v::vs,K=>d v λx=>cS d vs λl=>K (x::l)
def JG (h:H):(c:Ty)->List V->(c.den->List V->Option β)->Option β
 | .int k,vs,K=>match vs with
  | .int k' n::r=>bif k == k' then K n r else none
  | _=>none
 | .bool,vs,K=>match vs with
  | .bool b::r=>K b r
  | _=>none
 | .str,vs,K=>match vs with
  | .str s::r=>K s r
  | _=>none
 | .unit,vs,K=>K () vs
 | .pair a b,vs,K=>JG h a vs λx r=>JG h b r λy r=>K (x,y) r
 | .sl g c,vs,K=>match vs with
  | .nils::r=>K [] r
  | .lf _ g' _ l::r=>bif g == g' then Ij l λl=>K l r else none
  | .pl g' _ l::r=>bif g == g' then Ij l λl=>K l r else none
  | .exl _ es::r=>cS (λv K=>bif g then (match v with
    | .agg cs=>JG h c cs λx q=>match q with
     | []=>K x
     | _=>none
    | _=>none) else JG h c [v] λx q=>match q with
     | []=>K x
     | _=>none) es λl=>K l r
  | .ow id::r=>match h.get id with
   | some (.row g' _ l _ _ _)=>bif g == g' then Ij l λl=>K l r else none
   | _=>none
  | .own id off len::r=>match h.get id with
   | some (.row g' _ l _ _ _)=>bif g == g' then gd (BP (Ag off len) (AA l)) λ_=>Ij (EI l off (Ag off len)) λl=>K l r else none
   | _=>none
  | _=>none
def Mv (h:H) (g:Bool) (c:Ty) (v:V) (K:c.den->Option β):Option β:=bif g then (match v with
  | .agg cs=>JG h c cs λx q=>match q with
   | []=>K x
   | _=>none
  | _=>none) else JG h c [v] λx q=>match q with
   | []=>K x
   | _=>none
end
def Mw:Value->Option V
 | .bool b=>some (.bool b)
 | .int k n=>some (.int k n)
 | .string s=>some (.str s.data.toList)
 | .pointer none=>some .nilp
 | .slice none 0 0=>some .nils
 | .map none=>some .nilm
 | .nilFunc=>some .nilf
 | .nilIface=>some .nili
 | .func (.func f) first cap=>if first.isEmpty&&cap.isEmpty then some (.fn (.func f) [] []) else none
 | _=>none
def JH:List Value->Option (List V)
 | []=>some []
 | v::l=>match Mw v,JH l with
  | some p,some ps=>some (p::ps)
  | _,_=>none
def SW:Value->Option V
 | .agg cs=>(JH cs.toList).map .agg
 | .tuple vs=>bif vs.isEmpty then some (.tup []) else none
 | .iface t v=>match Mw v with
  | some p=>some (.ifc t p)
  | none=>none
 | v=>Mw v
def HG (P:Program) (t:TypeId):Option (List V):=match P.info? t with
 | some i=>match i.zero with
  | some z=>JH z.cells.toList
  | none=>none
 | none=>none
def Hz (P:Program) (e:TypeId):Option V:=match P.info? e with
 | some i=>match i.zero with
  | some z=>SW z
  | none=>none
 | none=>none
def JI (P:Program) (t:TypeId) (cs:List V):Option V:=match Pi.R8 P t,Pi.Bc P t with
 | some true,some n=>bif Nat.ble n cs.length then some (.agg (cs.take n)) else none
 | some false,some _=>match cs with
  | c::_=>some c
  | []=>none
 | _,_=>none
def Ai (h:H) (id:Nat) (b:BA):H:=T.put 20 h id b
def Mx (cs:List V) (off:Nat) (x:List V):List V:=cs.take off++(x++cs.drop (off+x.length))
inductive RA where
 | val (v:V) (h:H)
 | skip (h:H)
 | call (f:FuncId) (args:List V)
 | yield (id:Nat) (args:List V)
 | pan (v:V)
 | rcv
 | dfr (d:DFA)
section
variable {β:Type}
def HC {α:Type} (o:Option α) (K:α->Option β):Option β:=match o with
 | some x=>K x
 | none=>none
def DZ (t:T V) (o:Operand) (K:V->Option β):Option β:=match o with
 | .tmp k=>HC (t.get k) K
 | .const v=>HC (SW v) K
 | .func f=>K (.fn (.func f) [] [])
 | .global _=>none
def ZQ (t:T V):List Operand->(List V->Option β)->Option β
 | [],K=>K []
 | o::l,K=>DZ t o λv=>ZQ t l λvs=>K (v::vs)
def kB (t:T V) (o:Option Operand) (K:Option V->Option β):Option β:=match o with
 | none=>K none
 | some o=>DZ t o λv=>K (some v)
def Pe (v:V) (K:Nat->Option β):Option β:=match v with
 | .int _ n=>AT n K
 | _=>none
def GE (d:Nat) (o:Option V) (K:Nat->Option β):Option β:=match o with
 | none=>K d
 | some v=>Pe v K
def SX (v:V) (K:Nat->Option β):Option β:=match v with
 | .int .i64 n=>AT n K
 | _=>none
def mH (c:BinOp) (k:IntKind) (a b:Int) (K:V->Option β):Option β:=match c with
 | .add=>K (.int k (AI k a b))
 | .sub=>K (.int k (CA k a b))
 | .mul=>K (.int k (Pd k a b))
 | .quo=>gd (Ay b 0) λ_=>K (.int k (IY k a b))
 | .rem=>gd (Ay b 0) λ_=>K (.int k (pW k a b))
 | .eql=>K (.bool (A8 a b))
 | .neq=>K (.bool (Ay a b))
 | .lss=>K (.bool (Ak a b))
 | .leq=>K (.bool (j9 a b))
 | .gtr=>K (.bool (CD a b))
 | .geq=>K (.bool (HY a b))
 | .and=>K (.int k (pX k a b))
 | .or=>K (.int k (tf k a b))
 | .xor=>K (.int k (pY k a b))
 | _=>none
def V0 (c:BinOp) (k:IntKind) (a b:Int) (K:V->Option β):Option β:=match c with
 | .shl=>gd (HY b 0) λ_=>K (.int k (UO k a b))
 | .shr=>gd (HY b 0) λ_=>K (.int k (pZ k a b))
 | _=>none
def mI (c:BinOp) (a b:List UInt8) (K:V->Option β):Option β:=match c with
 | .add=>gd (BP (Ag (Gc a) (Gc b)) 1000000000) λ_=>K (.str (pf a b))
 | .eql=>K (.bool (seq a b))
 | .neq=>K (.bool (Ad (seq a b)))
 | .lss=>K (.bool (Cy a b))
 | .leq=>K (.bool (Ad (Cy b a)))
 | .gtr=>K (.bool (Cy b a))
 | .geq=>K (.bool (Ad (Cy a b)))
 | _=>none
end
mutual
def kC (P:Program):Nat->TypeId->V->V->Option Bool
 | 0,_,_,_=>none
 | d+1,t,x,y=>match P.underlying t with
  | some .bool=>match x,y with
   | .bool a,.bool b=>some (beq a b)
   | _,_=>none
  | some (.int _)=>match x,y with
   | .int k a,.int k' b=>bif k == k' then some (A8 a b) else none
   | _,_=>none
  | some .string=>match x,y with
   | .str a,.str b=>some (seq a b)
   | _,_=>none
  | some (.pointer _)=>match x,y with
   | .nilp,.nilp=>some true
   | .nilp,.ptr _ _ | .nilp,.view _ | .nilp,.pv _ | .nilp,.ept _ _ _ | .ptr _ _,.nilp | .view _,.nilp | .pv _,.nilp | .ept _ _ _,.nilp=>some false
   | _,_=>none
  | some (.slice _)=>match x,y with
   | .nils,.nils=>some true
   | .nils,.exl _ _ | .exl _ _,.nils | .nils,.lf _ _ _ (_::_) | .lf _ _ _ (_::_),.nils | .nils,.pl _ _ (_::_) | .pl _ _ (_::_),.nils | .nils,.own _ _ _ | .own _ _ _,.nils=>some false
   | _,_=>none
  | some (.func _ _ _)=>match x,y with
   | .nilf,.nilf=>some true
   | .nilf,.fn _ _ _ | .fn _ _ _,.nilf=>some false
   | _,_=>none
  | some (.interface _)=>match x,y with
   | .nili,.nili=>some true
   | .nili,.ifc _ _ | .ifc _ _,.nili=>some false
   | .ifc t a,.ifc t' b=>bif Nat.beq t t' then (match P.info? t with
     | some i=>bif i.comparable then kC P d t a b else none
     | none=>none) else some false
   | _,_=>none
  | some (.struct fs)=>match x,y with
   | .agg a,.agg b=>bif P.stoodInHeld t then none else V1 P d fs.toList a b
   | _,_=>none
  | some (.array n e)=>match x,y with
   | .agg a,.agg b=>bif (Pi.Bc P e).isSome then ZR P d n e a b else none
   | _,_=>none
  | _=>none
def V1 (P:Program):Nat->List Field->List V->List V->Option Bool
 | 0,_,_,_=>none
 | _+1,[],_,_=>some true
 | d + 1, f :: fs, a, b => bif f.name == "_" then V1 P d fs a b else match JI P f.type (a.drop f.offset), JI P f.type (b.drop f.offset) with
  | some x,some y=>(match kC P d f.type x y,V1 P d fs a b with
   | some c,some r=>some (Az c r)
   | _,_=>none)
  | _,_=>none
def ZR (P:Program):Nat->Nat->TypeId->List V->List V->Option Bool
 | 0,_,_,_,_=>none
 | _+1,0,_,_,_=>some true
 | d+1,n+1,e,a,b=>match Pi.Bc P e,JI P e a,JI P e b with
  | some s,some x,some y=>(match kC P d e x y,ZR P d n e (a.drop s) (b.drop s) with
   | some c,some r=>some (Az c r)
   | _,_=>none)
  | _,_,_=>none
end
section
variable {β:Type}
def mJ (P:Program) (d:BinOp) (ty:TypeId) (x y:Operand) (a b:V) (K:V->Option β):Option β:=match a,b with
 | .int k a,.int k' b=>match d with
  | .shl | .shr=>V0 d k a b K
  | _=>bif k == k' then mH d k a b K else none
 | .str a,.str b=>mI d a b K
 | .nili,.nili=>bif Pi.GW x||Pi.GW y then HC (kC P 64 ty .nili .nili) λc=>(match d with
  | .eql=>K (.bool c)
  | .neq=>K (.bool (Ad c))
  | _=>none) else none
 | .agg a,.agg b=>bif P.eqGuardType P.depth ty then none else HC (kC P 64 ty (.agg a) (.agg b)) λc=>(match d with
  | .eql=>K (.bool c)
  | .neq=>K (.bool (Ad c))
  | _=>none)
 | a,b=>HC (kC P 64 ty a b) λc=>match d with
  | .eql=>K (.bool c)
  | .neq=>K (.bool (Ad c))
  | _=>none
def pj (c:UnOp) (a:V) (K:V->Option β):Option β:=match a with
 | .bool b=>match c with
  | .not=>K (.bool (Ad b))
  | _=>none
 | .int k n=>match c with
  | .neg=>K (.int k (nU k n))
  | _=>none
 | _=>none
def purA (h:H):Nat->V->(V->List Nat->Option β)->Option β
 | 0,_,_=>none
 | n+1,v,K=>match v with
  | .agg cs=>purAs (purA h n) cs λx l=>K (.agg x) l
  | .tup cs=>purAs (purA h n) cs λx l=>K (.tup x) l
  | .ifc t x=>purA h n x λx l=>K (.ifc t x) l
  | .fn f a b=>purAs (purA h n) a λa l=>purAs (purA h n) b λb m=>K (.fn f a b) (l++m)
  | .lf _ g c l=>bif Nat.ble (2*c.depth+3) (n+7) then K (.lf false g c l) [] else none
  | .pl g c l=>K (.pl g c l) []
  | .ow id=>match h.get id with
   | some (.row g c l _ _ _)=>bif Nat.ble (2*c.depth+3) (n+7) then K (.lf false g c l) [id] else none
   | _=>none
  | .own id off len=>match h.get id with
   | some (.row g c l _ _ _)=>bif Nat.ble (2*c.depth+3) (n+7) then gd (BP (Ag off len) (AA l)) λ_=>K (.lf false g c (EI l off (Ag off len))) [id] else none
   | _=>none
  | .ptr _ _ | .view _ | .pv _ | .ept _ _ _ | .aptr _ _ _ _ | .yl _ | .mp _=>none
  | v=>K v []
where
 purAs (p:V->(V->List Nat->Option β)->Option β):List V->(List V->List Nat->Option β)->Option β
  | [],K=>K [] []
  | v::vs,K=>p v λx l=>purAs p vs λxs m=>K (x::xs) (l++m)
def X9 (h:H):List V->(List V->List Nat->Option β)->Option β
 | [],K=>K [] []
 | v::vs,K=>purA h 6 v λx l=>X9 h vs λxs m=>K (x::xs) (l++m)
end
def GB (h:H):List Nat->Option H
 | []=>some h
 | id::l=>match h.get id with
  | some (.row g c x ex fz lk)=>bif fz then GB h l else bif lk then none else GB (Ai h id (.row g c x ex true false)) l
  | _=>none
def Pf (cs:List V):List (Nat×Nat×List V)->Option (List V)
 | []=>some cs
 | (off,n,x)::r=>bif Nat.beq x.length n&&Nat.ble (off+n) cs.length then Pf (Mx cs off x) r else none
def SY (a:Nat) (es:List V):List (Nat×V)->Option (List V)
 | []=>some es
 | (i,v)::r=>bif Nat.beq v.cells.length a&&Nat.blt i es.length then SY a (Pi.lset es i v) r else none
def LM (P:Program) (a:Array Field):List (Nat×V)->Option (List (Nat×Nat×List V))
 | []=>some []
 | (i,p)::l=>match a[i]?,LM P a l with
  | some f,some r=>(match Pi.Bc P f.type with
   | some n=>bif Nat.blt 0 n then some ((f.offset,n,p.cells)::r) else none
   | none=>none)
  | _,_=>none
def L4 (a:Nat):List (Nat×V)->List (Nat×Nat×List V)
 | []=>[]
 | (i,p)::l=>(i*a,a,p.cells)::L4 a l
def YA (a:Bool) (cs:List V):Option V :=
 bif a then some (.agg cs) else match cs with
  | [c]=>some c
  | _=>none
def nY (P:Program) (a:TypeId):Option (Bool×Ty):=match P.underlying a with
 | some (.slice e)=>Vz P pK e
 | _=>none
def mK:(k:Ty)->Option (k.den->k.den->Bool)
 | .int _=>some (λ(a b:Int)=>A8 a b)
 | .bool=>some (λ(a b:Bool)=>beq a b)
 | .str=>some (λ(a b:List UInt8)=>seq a b)
 | _=>none
section
variable {β:Type}
def My (t:T V):List (Nat×Operand)->(List (Nat×V)->Option β)->Option β
 | [],K=>K []
 | (i,o)::l,K=>DZ t o λv=>My t l λr=>K ((i,v)::r)
def Pg (k:Nat):Nat->Nat->(Nat->Option β)->Option β
 | 0,_,_=>none
 | 1,i,K=>gd (neq k i) λ_=>K i
 | n+1,i,K=>br (neq k i) (λ_=>K i) λ_=>Pg k n (i+1) K
def SZ (h:H) (g:Bool) (c:Ty) (v:V) (K:List c.den->Option β):Option β:=JG h (.sl g c) [v] λl _=>K l
def RP (P:Program) (a:TypeId) (c:Ty):Bool:=match P.underlying a with
 | some (.slice e)=>(match P.info? e,Pi.zeroCells P e with
  | some ti,some z=>Nat.beq ti.size c.wd&&Nat.ble ti.bytes 1048576&&Nat.beq z.length ti.size&&Nat.blt 0 ti.size
  | _,_=>false)
 | _=>false
def mL (P:Program) (h:H) (id:Nat) (a:TypeId) (s x:V) (K:RA->Option β):Option β :=
 HC (nY P a) λ(g,c)=>bif RP P a c then SZ h g c x λnew=>match s with
  | .nils=>gd (BP (AA new) 1048576) λ_=>K (.val (.ow id) (Ai h id (.row g c new false false false)))
  | .lf true g' _ l=>bif g == g' then gd (BP (Ag (AA l) (AA new)) 1048576) λ_=>Ij l λl=>(match x with
   | .exl _ (_::_)=>K (.val (.ow id) (Ai h id (.row g c (Bu l new) false false false)))
   | _=>br (neq (AA new) 0) (λ_=>K (.val s h)) λ_=>K (.val (.ow id) (Ai h id (.row g c (Bu l new) false false false)))) else none
  | .exl true []=>gd (BP (AA new) 1048576) λ_=>K (.val (.ow id) (Ai h id (.row g c new false false false)))
  | .ow j=>match h.get j with
   | some (.row g' _ l ex fz lk)=>bif !(g == g')||lk then none else Ij l λl=>gd (BP (Ag (AA l) (AA new)) 1048576) λ_ =>
    bif ex then (match x with
     | .exl _ (_::_)=>K (.val (.ow id) (Ai h id (.row g c (Bu l new) false false false)))
     | _=>br (neq (AA new) 0) (λ_=>K (.val s h)) λ_=>K (.val (.ow id) (Ai h id (.row g c (Bu l new) false false false))))
    else K (.val (.ow id) (Ai (Ai h j .dead) id (.row g c (Bu l new) false fz false)))
   | _=>none
  | .own j off len=>match h.get j with
   | some (.row g' _ l true false false)=>bif g == g' then Ij l λl=>gd (BP (Ag len (AA new)) 1048576) λ_=>gd (BP (Ag off len) (AA l)) λ_ =>
    br (neq (AA new) 0) (λ_=>K (.val s h)) λ_ =>
    br (BP (Ag (Ag off len) (AA new)) (AA l)) (λ_=>K (.val (.own j off (Ag len (AA new))) (Ai h j (.row g c (Jl l (Ag off len) new (AA new)) true false false)))) λ_ =>
     K (.val (.ow id) (Ai h id (.row g c (Bu (EI l off (Ag off len)) new) false false false))) else none
   | _=>none
  | _=>none
 else none
def cU (P:Program) (h:H) (t:TypeId) (v:V) (K:Int->Option β):Option β:=match P.underlying t,v with
 | some (.map _ _),.mp j=>(match h.get j with
  | some (.mp _ _ _ l _)=>K (Ab (AA l))
  | _=>none)
 | some (.map _ _),.nilm=>K 0
 | some (.array n _),_=>K n
 | some (.slice _),.nils=>K 0
 | some (.slice _),.lf _ _ _ l=>K (Ab (AA l))
 | some (.slice _),.exl _ es=>K es.length
 | some (.slice _),.ow j=>(match h.get j with
  | some (.row _ _ l _ _ _)=>K (Ab (AA l))
  | _=>none)
 | some (.slice _),.own _ _ len=>K (Ab len)
 | some .string,.str l=>K (Ab (Gc l))
 | _,_=>none
def nZ (P:Program) (h:H) (t:TypeId) (v:V) (K:Int->Option β):Option β:=cU P h t v.norm K
def RQ (f:Int->Int->Int) (k:IntKind):Int->List V->(Int->Option β)->Option β
 | m,[],K=>K m
 | m,.int k' y::l,K=>bif k == k' then RQ f k (f m y) l K else none
 | _,_,_=>none
def KY:Ty->TypeDesc->Bool
 | .int _,.int _=>true
 | .bool,.bool=>true
 | .str,.string=>true
 | _,_=>false
def cV (P:Program) (ty:TypeId) (m v:V) (h:H) (K:(j:Nat)->(k:Ty)->(g:Bool)->(c:Ty)->List (k.den×c.den)->Bool->(k.den->k.den->Bool)->k.den->Option β):Option β :=
 match P.underlying ty,m with
 | some (.map kt _),.mp j=>match P.underlying kt,h.get j with
  | some d,some (.mp k g c l lk)=>bif KY k d then HC (mK k) λe=>JG .lf k [v] λx q=>(match q with
   | []=>K j k g c l lk e x
   | _=>none) else none
  | _,_=>none
 | _,_=>none
def Ph (P:Program) (h:H) (id:Nat) (b:Builtin) (f:Array TypeId) (args:List V) (K:RA->Option β):Option β :=
 match b with
 | .len=>match args,f[0]? with
  | [x],some t=>nZ P h t x λn=>K (.val (.int .i64 n) h)
  | _,_=>none
 | .cap=>match args,f[0]? with
  | [x],some t=>match P.underlying t,x with
   | some (.slice _),.ow j=>(match h.get j with
    | some (.row _ _ l true _ _)=>K (.val (.int .i64 (Ab (AA l))) h)
    | _=>none)
   | some (.slice _),.own j off _=>(match h.get j with
    | some (.row _ _ l true _ _)=>K (.val (.int .i64 (Ab (SV (AA l) off))) h)
    | _=>none)
   | some (.slice _),.nils=>K (.val (.int .i64 0) h)
   | _,_=>none
  | _,_=>none
 | .append=>match args,f.toList with
  | [s,x],[t,t']=>bif Nat.beq t t' then mL P h id t s x K else none
  | _,_=>none
 | .copy=>match args,f[0]? with
  | [d,x],some t=>HC (nY P t) λ(g,c)=>bif !RP P t c then none else SZ h g c x λnew=>match d with
   | .ow j=>(match h.get j with
    | some (.row g' _ l true false false)=>bif g == g' then Ij l λl=>K (.val (.int .i64 (Ab (kA (AA new) (AA l)))) (Ai h j (.row g c (Jl l 0 new (AA l)) true false false))) else none
    | _=>none)
   | .own j off len=>(match h.get j with
    | some (.row g' _ l ex false false)=>bif g == g' then Ij l λl=>gd (BP (Ag off len) (AA l)) λ_=>K (.val (.int .i64 (Ab (kA (AA new) len))) (Ai h j (.row g c (Jl l off new len) ex false false))) else none
    | _=>none)
   | _=>none
  | _,_=>none
 | .clear=>match args,f[0]? with
  | [.mp j],some t=>match P.underlying t,h.get j with
   | some (.map _ _),some (.mp k g c _ false)=>K (.val (.tup []) (Ai h j (.mp k g c [] false)))
   | _,_=>none
  | _,_=>none
 | .delete=>match args,f[0]? with
  | [m,v],some t=>cV P t m v h λj k g c l i e x=>bif i then none else K (.val (.tup []) (Ai h j (.mp k g c (KN e l x) false)))
  | _,_=>none
 | .max=>match args with
  | .int k a::r=>RQ LL k a r λm=>K (.val (.int k m) h)
  | _=>none
 | .min=>match args with
  | .int k a::r=>RQ Ok k a r λm=>K (.val (.int k m) h)
  | _=>none
 | .panic=>match args with
  | [.ifc t v]=>K (.pan (.ifc t v))
  | _=>none
 | .recover=>K .rcv
 | _=>none
def LN (P:Program) (f:Fn) (first cap args:List V) (K:RA->Option β):Option β:=match f with
 | .func g=>match P.funcs[g]? with
  | some fn => bif fn.body.isSome && !(fn.name == "runtime.NumGoroutine") then K (.call g (first ++ args ++ cap)) else none
  | none=>none
 | .method name=>match first++args with
  | .ifc t v::rest=>match P.info? t with
   | some i=>match i.methods.find? (·.name == name) with
    | some m=>match m.path.isEmpty,m.func,P.underlying t with
     | true, some (g, true), some (.pointer _) => bif (match P.funcs[g]? with | some fn => fn.body.isSome && !(fn.name == "runtime.NumGoroutine") | none => false) then K (.call g (v :: rest)) else none
     | true,some (_,false),some (.pointer _)=>none
     | true, some (g, false), some _ => bif (match P.funcs[g]? with | some fn => fn.body.isSome && !(fn.name == "runtime.NumGoroutine") | none => false) then K (.call g (v :: rest)) else none
     | _,_,_=>none
    | none=>none
   | none=>none
  | _=>none
 | _=>none
def Om (a:IntKind):Nat->List V->Option (List Int)
 | 0,_=>some []
 | n+1,.int k x::l=>bif k == a then (Om a n l).map (x::·) else none
 | _+1,_=>none
def cW:List V->Option IntKind
 | .int k _::_=>some k
 | _=>none
def V2 (a:IntKind) (k:Nat) (x:Int):Nat->List Int->List V
 | _,[]=>[]
 | i,y::l => .int a (Ol (neq k i) x y)::V2 a k x (i+1) l
def mM (h:H) (n len:Nat) (x:V):Option (Nat×Nat):=match x with
 | .ptr j off=>(match h.get j with
  | some (.box cs _ _)=>(match cW (cs.drop off) with
   | some a=>bif Nat.beq n 1&&(Om a len (cs.drop off)).isSome then some (j,off) else none
   | none=>none)
  | _=>none)
 | _=>none
def cX (P:Program) (h:H) (ty:TypeId) (p:V) (K:V->Option β):Option β:=match p with
 | .pv cs=>HC (JI P ty cs) K
 | .ptr j off=>match h.get j with
  | some (.box cs _ _)=>HC (JI P ty (cs.drop off)) K
  | _=>none
 | .view cs=>HC (JI P ty cs) K
 | .ept j i off=>match h.get j with
  | some (.row g c l _ _ _)=>ix l i λx=>HC (JI P ty ((ZP g c x).cells.drop off)) K
  | _=>none
 | .aptr j off k n=>match h.get j with
  | some (.box cs _ _)=>(match cW (cs.drop off),Pi.R8 P ty,Pi.Bc P ty with
   | some k0,some false,some _=>HC (Om k0 n (cs.drop off)) λl=>K (.int k0 (KX l k))
   | _,_,_=>none)
  | _=>none
 | _=>none
def V3 (P:Program) (h:H) (ty:TypeId) (p v:V) (K:H->Option β):Option β:=HC (Pi.Bc P ty) λn =>
 bif !Nat.blt 0 n || !Nat.beq v.cells.length n then none else match p with
 | .ptr j off=>match h.get j with
  | some (.box cs false false)=>bif Nat.ble (off+n) cs.length then K (Ai h j (.box (Mx cs off v.cells) false false)) else none
  | _=>none
 | .ept j i off=>match h.get j with
  | some (.row g c l ex false false)=>ix l i λx=>bif Nat.ble (off+n) (cells c x).length then
    JG .lf c (Mx (cells c x) off v.cells) λy q=>match q with
     | []=>K (Ai h j (.row g c (lset l i y) ex false false))
     | _=>none
   else none
  | _=>none
 | .aptr j off k m=>match h.get j with
  | some (.box cs false false)=>(match v,cW (cs.drop off) with
   | .int k1 x,some k0=>bif k1 == k0 then HC (Om k0 m (cs.drop off)) λl=>K (Ai h j (.box (Mx cs off (V2 k0 k x 0 l)) false false)) else none
   | _,_=>none)
  | _=>none
 | _=>none
def V4 (P:Program) (ty:TypeId) (a:List (Nat×V)) (K:V->Option β):Option β :=
 match HG P ty,P.underlying ty with
 | some z,some (.struct fs)=>bif fs.toList.all λf=>(Pi.Bc P f.type).isSome then
   (match LM P fs a with
   | some pl=>HC (Pf z pl) λcs=>K (.agg cs)
   | none=>none) else none
 | some z,some (.array _ e)=>match Pi.Bc P e with
  | some n=>bif Nat.blt 0 n then HC (Pf z (L4 n a)) λcs=>K (.agg cs) else none
  | none=>none
 | _,_=>none
def KZ (P:Program) (h:H) (ty:TypeId) (len:Nat) (a:List (Nat×V)) (K:RA->Option β):Option β :=
 match P.underlying ty with
 | some (.slice e)=>match Pi.Bc P e,Pi.R8 P e,HG P e with
  | some n,some ag,some z=>match YA ag z with
   | some b=>bif !Nat.blt 0 n || !Nat.ble (len*n) 16777216 || !Nat.beq z.length n then none else
    HC (SY n (List.replicate len b) a) λes=>X9 h es λes l=>HC (GB h l) λh=>K (.val (.exl true es) h)
   | none=>none
  | _,_,_=>none
 | _=>none
def mN (p:V) (K:V->Option β):Option β:=match p with
 | .pv cs=>K (.pv cs)
 | .ptr a b=>K (.ptr a b)
 | .ept a b c=>K (.ept a b c)
 | .view cs=>K (.view cs)
 | .ifc ty v=>K (.ifc ty v)
 | .yl i=>K (.yl i)
 | .fn (.func f) a b=>K (.fn (.func f) a b)
 | _=>none
def kD:List V->(List UInt8->Option β)->Option β
 | [],K=>K []
 | .int .u8 n::l,K=>kD l λr=>K (th n::r)
 | _,_=>none
def Pj (P:Program) (a b:TypeId) (x:V) (K:V->Option β):Option β:=match x,P.underlying a,P.underlying b with
 | .int _ n,some _,some (.int k)=>K (.int k (tY k n))
 | .str l,some .string,some .string=>K (.str l)
 | .exl _ es,some (.slice e),some .string=>(match P.underlying e with
  | some (.int .u8)=>kD es λl=>K (.str l)
  | _=>none)
 | _,_,_=>none
def mO (P:Program) (ty:TypeId) (v:V) (K:V->Option β):Option β:=match P.underlying ty with
 | some (.interface _)=>none
 | some _=>K (.ifc ty v)
 | none=>none
def cY (P:Program) (h:H) (id:Nat) (ty:TypeId) (same:Bool) (l c:V) (K:RA->Option β):Option β:=match P.underlying ty with
 | some (.slice e)=>match Pi.Bc P e,Pi.R8 P e,HG P e,P.info? e with
  | some n,some ag,some z,some ti=>HC (Vz P pK e) λ(g,ct)=>bif Nat.ble ti.bytes 1048576&&Nat.blt 0 n&&Nat.beq z.length n then HC (YA ag z) λz=>Mv .lf g ct z λz=>SX l λl=>SX c λc =>
    bif same then gd (BP c 1048576) λ_=>K (.val (.ow id) (Ai h id (.row g ct (D2 c z) true false false)))
    else gd (BP l c) λ_=>gd (BP c 1048576) λ_=>K (.val (.own id 0 l) (Ai h id (.row g ct (D2 c z) true false false)))
   else none
  | _,_,_,_=>none
 | _=>none
def UQ (P:Program) (h:H) (id:Nat) (ty:TypeId) (K:RA->Option β):Option β:=match P.underlying ty with
 | some (.map kt e)=>match Vz P pK kt,Vz P pK e with
  | some (false,k),some (g,c)=>K (.val (.mp id) (Ai h id (.mp k g c [] false)))
  | _,_=>none
 | _=>none
def V5 (P:Program) (h:H) (ty:TypeId) (x:V) (lo hi mx:Option V) (K:V->Option β):Option β:=match P.underlying ty,x with
 | some .string,.str s=>match mx with
  | none=>GE (Gc s) hi λhh=>GE 0 lo λl=>gd (BP hh (Gc s)) λ_=>gd (BP l hh) λ_=>K (.str (nV s l hh))
  | _=>none
 | some (.slice e),.nils=>HC (Pi.Bc P e) λ_=>match mx with
  | none=>GE 0 hi λhh=>GE 0 lo λl=>gd (neq hh 0) λ_=>gd (neq l 0) λ_=>K .nils
  | some m=>bif hi.isNone then none else GE 0 hi λhh=>GE 0 lo λl=>Pe m λm=>gd (neq hh 0) λ_=>gd (neq l 0) λ_=>gd (neq m 0) λ_=>K .nils
 | some (.slice e),.lf _ g c es=>HC (Pi.Bc P e) λn=>bif !Nat.beq n c.wd then none else GE 0 lo λl=>GE (AA es) hi λhh=>(match mx with
  | none=>gd (BP hh (AA es)) λ_=>gd (BP l hh) λ_=>K (.lf false g c (EI es l hh))
  | some m=>bif hi.isNone || !Nat.ble c.depth 4 then none else Pe m λm=>gd (BP hh (AA es)) λ_=>gd (neq hh m) λ_=>gd (BP l hh) λ_=>K (.lf true g c (EI es l hh)))
 | some (.slice e),.pl g c es=>HC (Pi.Bc P e) λn=>bif !Nat.beq n c.wd then none else GE 0 lo λl=>GE (AA es) hi λhh=>(match mx with
  | none=>gd (BP hh (AA es)) λ_=>gd (BP l hh) λ_=>K (.pl g c (EI es l hh))
  | some m=>bif hi.isNone || !Nat.ble c.depth 4 then none else Pe m λm=>gd (BP hh (AA es)) λ_=>gd (neq hh m) λ_=>gd (BP l hh) λ_=>K (.lf true g c (EI es l hh)))
 | some (.slice e),.ow j=>(match h.get j with
  | some (.row g c es _ false _)=>HC (Pi.Bc P e) λn=>bif !Nat.beq n c.wd then none else GE 0 lo λl=>GE (AA es) hi λhh=>(match mx with
   | none=>gd (BP hh (AA es)) λ_=>gd (BP l hh) λ_=>br (C7 l (AA es)) (λ_=>K (.own j l (SV hh l))) λ_=>K (.lf false g c [])
   | some _=>none)
  | _=>none)
 | some (.slice e),.own j off len=>(match h.get j with
  | some (.row g c es ex _ _)=>HC (Pi.Bc P e) λn=>bif !Nat.beq n c.wd then none else GE 0 lo λl=>GE len hi λhh=>(match mx with
   | none=>gd (BP (Ag off hh) (AA es)) λ_=>gd (BP l hh) λ_=>br (C7 (Ag off l) (AA es)) (λ_=>K (.own j (Ag off l) (SV hh l))) λ_=>K (.lf false g c [])
   | some m=>bif lo.isSome||hi.isNone || !ex then none else Pe m λm=>gd (BP hh m) λ_=>gd (neq (Ag off m) (AA es)) λ_=>gd (C7 off (AA es)) λ_=>K (.own j off hh))
  | _=>none)
 | _,_=>none
def L5 (P:Program) (b:TypeId) (x:V) (f:Nat) (K:V->Option β):Option β:=match P.underlying b with
 | some (.struct fs)=>match fs[f]? with
  | some a=>match Pi.Bc P a.type with
   | some n=>bif Nat.beq n 0 then none else (match x with
    | .ptr j off=>K (.ptr j (off+a.offset))
    | .ept j i off=>K (.ept j i (off+a.offset))
    | .view cs=>K (.view (cs.drop a.offset))
    | .pv cs=>K (.pv (cs.drop a.offset))
    | _=>none)
   | none=>none
  | none=>none
 | _=>none
def V6 (P:Program) (ty:TypeId) (x:V) (f:Nat) (K:V->Option β):Option β:=match P.underlying ty,x with
 | some (.struct fs),.agg cs=>match fs[f]? with
  | some a=>HC (JI P a.type (cs.drop a.offset)) K
  | none=>none
 | _,_=>none
def L6 (P : Program) (h : H) (ty : TypeId) (x i : V) (K : V -> Option β) : Option β := match P.underlying ty with
  | some (.slice e) => HC (Pi.Bc P e) fun n => Pe i fun k => match x with
      | .lf _ g c es => ix es k fun a => bif Nat.beq (ZP g c a).cells.length n then K (.view (ZP g c a).cells) else none
      | .pl g c es => ix es k fun a => bif Nat.beq (elP g c a).cells.length n then K (.pv (elP g c a).cells) else none
      | .exl _ es => Pg k es.length 0 fun k => HC (lget es k) fun a => bif Nat.beq a.cells.length n then K (.view a.cells) else none
      | .ow j => (match h.get j with
        | some (.row _ c es _ false _) => gd (C7 k (AA es)) fun _ => bif Nat.beq c.wd n then K (.ept j k 0) else none
        | _ => none)
      | .own j off len => gd (C7 k len) fun _ => (match h.get j with
        | some (.row _ c es _ _ _) => gd (C7 (Ag off k) (AA es)) fun _ => bif Nat.beq c.wd n then K (.ept j (Ag off k) 0) else none
        | _ => none)
      | _ => none
  | some (.array len e) => HC (Pi.Bc P e) fun n => Pe i fun k => match mM h n len x with
   | some (j, off) => gd (C7 k len) fun _ => K (.aptr j off k len)
   | none => Pg k len 0 fun k => match x with
      | .ptr j off => K (.ptr j (off + k * n))
      | .ept j i off => K (.ept j i (off + k * n))
      | .view cs => K (.view (cs.drop (k * n)))
      | .pv cs => K (.pv (cs.drop (k * n)))
      | _ => none
  | _ => none
def V7 (P:Program) (ty:TypeId) (x i:V) (K:V->Option β):Option β:=match P.underlying ty,x with
 | some (.array len e),.agg cs=>HC (Pi.Bc P e) λn=>Pe i λk=>Pg k len 0 λk=>HC (JI P e (cs.drop (k*n))) K
 | some .string,.str l=>Pe i λk=>ix l k λb=>K (.int .u8 (UP b))
 | _,_=>none
def Sa (P:Program) (h:H) (ty:TypeId) (m k:V) (a:Bool) (K:V->Option β):Option β:=match m with
 | .nilm=>match P.underlying ty with
  | some (.map kt e)=>match P.underlying kt,Hz P e with
   | some d,some z=>bif Pi.HT d then K (bif a then .tup [z,.bool false] else z) else none
   | _,_=>none
  | _=>none
 | m=>cV P ty m k h λ_ _ g c l _ e x=>match P.underlying ty with
  | some (.map _ et)=>HC (Hz P et) λz=>Mv .lf g c z λz =>
    K (bif a then .tup [ZP g c (Qy (JF e l x) z),.bool (nX (JF e l x))] else ZP g c (Qy (JF e l x) z))
  | _=>none
def Jm (P:Program) (h:H) (ty:TypeId) (m k v:V) (K:H->Option β):Option β :=
 cV P ty m k h λj b g c l a e x=>bif a then none else Mv .lf g c v λy=>K (Ai h j (.mp b g c (IW e l x y) false))
def LO (a:Bool) (v:V):V:=bif a then .tup [v,.bool true] else v
def Sb (P:Program) (ty:TypeId) (v:V) (b:Bool) (K:V->Option β):Option β:=match P.underlying ty with
 | some (.interface want)=>match v with
  | .ifc u a=>match P.info? u with
   | some i=>match Instr.missingMethod want i.methods with
    | none=>K (LO b (.ifc u a))
    | some _=>bif b then HC (Hz P ty) λz=>K (.tup [z,.bool false]) else none
   | none=>none
  | .nili=>bif b then HC (Hz P ty) λz=>K (.tup [z,.bool false]) else none
  | _=>none
 | some _=>match v with
  | .ifc u a=>bif Nat.beq u ty then K (LO b a) else bif b then HC (Hz P ty) λz=>K (.tup [z,.bool false]) else none
  | .nili=>bif b then HC (Hz P ty) λz=>K (.tup [z,.bool false]) else none
  | _=>none
 | none=>none
def YB:Operand->Operand->Bool
 | .tmp a,.tmp b=>Nat.beq a b
 | _,_=>false
def Sc (h:H) (K:RA->Option β) (v:V):Option β:=K (.val v h)
def pL (P:Program) (t:T V) (h:H) (id:Nat) (o:Oper) (K:RA->Option β):Option β :=
 match o.op with
 | .move x=>DZ t x (Sc h K)
 | .assign x=>DZ t x (Sc h K)
 | .pick c a b=>DZ t c λc=>DZ t a λa=>DZ t b λb=>match c with
  | .bool c=>br c (λ_=>Sc h K a) (λ_=>Sc h K b)
  | _=>none
 | .alloc e=>HC (HG P e) λcs=>K (.val (.ptr id 0) (Ai h id (.box cs false false)))
 | .box _ x=>DZ t x λv=>match v with
  | .tup _=>none
  | v=>K (.val (.ptr id 0) (Ai h id (.box v.cells false false)))
 | .build ty d=>My t d.toList λp=>V4 P ty p (Sc h K)
 | .buildSlice ty len d=>My t d.toList λp=>KZ P h ty len p K
 | .load ty a=>DZ t a λa=>cX P h ty a (Sc h K)
 | .store ty a x=>DZ t a λa=>DZ t x λx=>V3 P h ty a x λh=>K (.skip h)
 | .nilCheck x=>DZ t x λx=>mN x (Sc h K)
 | .binOp op ty x y _=>DZ t x λa=>DZ t y λb=>mJ P op ty x y a b (Sc h K)
 | .unOp op _ x=>DZ t x λa=>pj op a (Sc h K)
 | .convert q w x=>DZ t x λa=>Pj P q w a (Sc h K)
 | .makeInterface ty x=>DZ t x λa=>mO P ty a (Sc h K)
 | .makeFunc f first cap=>ZQ t first.toList λa=>ZQ t cap.toList λb=>match f with
  | .yield _=>none
  | f=>K (.val (.fn f a b) h)
 | .makeMap ty none=>UQ P h id ty K
 | .makeSlice ty l c=>DZ t l λx=>DZ t c λy=>cY P h id ty (YB l c) x y K
 | .slice ty x lo hi mx=>kB t lo λlo=>kB t hi λhi=>kB t mx λmx=>DZ t x λx=>V5 P h ty x lo hi mx (Sc h K)
 | .fieldAddr s x f=>DZ t x λx=>L5 P s x f (Sc h K)
 | .field ty x f=>DZ t x λx=>V6 P ty x f (Sc h K)
 | .indexAddr ty x i=>DZ t x λx=>DZ t i λi=>L6 P h ty x i (Sc h K)
 | .index ty x i=>DZ t x λx=>DZ t i λi=>V7 P ty x i (Sc h K)
 | .lookup ty x k u=>DZ t x λm=>DZ t k λk=>Sa P h ty m k u (Sc h K)
 | .mapUpdate ty x k v=>DZ t x λx=>DZ t k λk=>DZ t v λv=>Jm P h ty x k v λh=>K (.skip h)
 | .insert ty x k v=>DZ t x λx=>DZ t k λk=>DZ t v λv=>Jm P h ty x k v λh=>K (.skip h)
 | .typeAssert x _ ty u=>DZ t x λv=>Sb P ty v u (Sc h K)
 | .extract x i=>DZ t x λx=>match x with
  | .tup vs=>HC (lget vs i) (Sc h K)
  | _=>none
 | .panic x=>DZ t x λx=>match x with
  | .ifc ty v=>K (.pan (.ifc ty v))
  | _=>none
 | .call c=>ZQ t c.args.toList λargs=>match c.callee with
  | .builtin b=>Ph P h id b c.argTypes args K
  | .value f=>DZ t f λf=>match f with
   | .fn f a b=>LN P f a b args K
   | .yl l=>K (.yield l args)
   | _=>none
  | .invoke n j=>DZ t n λr=>LN P (.method j) [r] [] args K
 | .defer c=>ZQ t c.args.toList λargs=>match c.callee with
  | .builtin b=>K (.dfr (.bi b c.argTypes o.type args))
  | .value f=>DZ t f λf=>match f with
   | .fn (.func g) a b=>K (.dfr (.call (.fn (.func g) a b) args))
   | _=>none
  | .invoke _ _=>none
 | _=>none
end
end Go.Proofs.YtfilfloanndddaaGreat.Sv
namespace Go.Proofs.YtfilfloanndddaaGreat.Sv
variable [Pi.Gl]
open Go.Proofs.YtfilfloanndddaaGreat.Pi (T lget Nh)
@[reducible] def AH:List (Bool×Ty)->Type
 | []=>Unit
 | [p]=>p.2.den
 | p::q::r=>p.2.den×AH (q::r)
structure Sg where
 dom:List (Bool×Ty)
 cod:List (Bool×Ty)
 fn:AH dom->Option (AH cod)
abbrev Jc:=FuncId->Option (Option Sg)
def Jo:(l:List (Bool×Ty))->AH l->List V
 | [],_=>[]
 | [p],x=>[elP p.1 p.2 x]
 | p::q::r,x=>elP p.1 p.2 x.1::Jo (q::r) x.2
def cZ:(l:List (Bool×Ty))->AH l->V
 | [],_ => .tup []
 | [(false,.sl g c)],x => .lf false g c x
 | [p],x=>elP p.1 p.2 x
 | p::q::r,x => .tup (Jo (p::q::r) x)
inductive Cv where
 | p | m | f | i
def Cv.v:Cv->V
 | .p => .nilp
 | .m => .nilm
 | .f => .nilf
 | .i => .nili
def nH:Cv->V->Bool
 | .p,v=>match v with
  | .nilp=>true
  | _=>false
 | .m,v=>match v with
  | .nilm=>true
  | _=>false
 | .f,v=>match v with
  | .nilf=>true
  | _=>false
 | .i,v=>match v with
  | .nili=>true
  | _=>false
inductive Sgm where
 | lf (c:Ty)
 | ow (g:Bool) (c:Ty) (ex:Bool)
 | kp (id:Nat)
 | cn (c:Cv)
@[reducible] def Sgm.den:Sgm->Type
 | .lf c=>c.den
 | .ow _ c _=>List c.den
 | .kp _=>Unit
 | .cn _=>Unit
@[reducible] def Pk:List Sgm->Type
 | []=>Unit
 | [p]=>p.den
 | p::q::r=>p.den×Pk (q::r)
inductive Pl where
 | slot (k:Nat) (g:Bool) (c:Ty)
 | srow (k:Nat) (g:Bool) (c:Ty) (ex:Bool)
 | swin (k:Nat) (g:Bool) (c:Ty)
 | cn (k:Nat) (c:Cv)
 | box (id:Nat) (sg:List Sgm)
 | map (id:Nat) (k:Ty) (g:Bool) (c:Ty)
@[reducible] def Pl.den:Pl->Type
 | .slot _ _ c=>c.den
 | .srow _ _ c _=>List c.den
 | .swin _ _ c=>List c.den×Nat
 | .cn _ _=>Unit
 | .box _ sg=>Pk sg
 | .map _ k _ c=>List (k.den×c.den)
@[reducible] def DW:List Pl->Type
 | []=>Unit
 | [p]=>p.den
 | p::q::r=>p.den×DW (q::r)
inductive ExK where
 | exit (id:Nat)
 | ret
 | pan (t:TypeId) (g:Bool) (c:Ty)
structure Tm where
 keep:List Nat
 kb:List Nat
 pl:List Pl
 ex:List (ExK×List (Nat×Nat×Option Code))
 pay:Ty
 plx:List Pl:=pl
 rel:List (Nat×Nat):=[]
 relS:List Nat:=[]
structure Jn where
 keep:List Nat
 kb:List Nat
 pl0:List Pl
 pl1:List Pl
 ex:List (ExK×List (Nat×Nat×Option Code))
 pay:Ty
inductive An where
 | loop (tm:Tm)
 | join (j:Jn)
abbrev Pm:=FuncId->Nat->Nat->Option An
section
variable {β:Type}
def FV (h:H):(l:List (Bool×Ty))->List V->(AH l->Option β)->Option β
 | [],vs,K=>match vs with
  | []=>K ()
  | _=>none
 | [p],vs,K=>match vs with
  | [v]=>Mv h p.1 p.2 v K
  | _=>none
 | p::q::r,vs,K=>match vs with
  | v::vs=>Mv h p.1 p.2 v λx=>FV h (q::r) vs λy=>K (x,y)
  | _=>none
def La:List V->List Nat
 | []=>[]
 | .ow id::l=>id::La l
 | .own id _ _::l=>id::La l
 | _::l=>La l
def IG (l:List V):List Nat:=l.flatMap λv=>La v.cells
def Fi:List (Bool×Ty)->Bool
 | []=>false
 | p::l=>p.2.hasSl||Fi l
def Ty.leaf:Ty->Bool
 | .unit | .pair _ _=>false
 | _=>true
def Hi (l:List (Bool×Ty)):Bool:=l.all λp=>Nat.ble p.2.depth 4&&(p.1||p.2.leaf)
def Ik (h:H) (sg:Sg) (args:List V) (K:V->H->Option β):Option β :=
 bif !Hi sg.dom || !Hi sg.cod then none else FV h sg.dom args λx=>HC (bif Fi sg.cod then GB h (IG args) else some h) λh=>bd (sg.fn x) λy=>K (cZ sg.cod y) h
def UR (h:H) (id:Nat):(sg:Sg)->List V->(V->H->Option β)->Option β
 | ⟨dom,[(false,.sl g c)],a⟩,args,K=>bif !Hi dom || !Nat.ble c.depth 3 then none else FV h dom args λx=>HC (bif c.hasSl then GB h (IG args) else some h) λh=>bd (a x) λy=>K (.ow id) (Ai h id (.row g c y false false false))
 | _,_,_=>none
def Hj:Nat:=1048576
def GS:Nat:=2097152
def lq (f:Nat):Nat:=bif Nat.blt f Hj then f else f-Hj
def getD (a:Jc) (f:FuncId):Option Sg:=bif Nat.blt f Hj then (match a f with
 | some r=>r
 | none=>match a (f+Hj) with
  | some r=>r
  | none=>none) else none
def getR (a:Jc) (f:FuncId):Option Sg:=bif Nat.blt f Hj then (match a (f+GS) with
 | some r=>r
 | none=>none) else none
def Pn:Nat:=3145728
def nI:Bool×Ty->Bool
 | (true,.pair _ .unit)=>true
 | _=>false
def getP (a:Jc) (f:FuncId):Option Sg:=bif Nat.blt f Hj then (match a (f+Pn) with
 | some r=>r
 | none=>none) else none
def V8:Nat:=4194304
def getL (a:Jc) (f:FuncId):Option Sg:=bif Nat.blt f Hj then (match a (f+V8) with
 | some r=>r
 | none=>none) else none
def Ka (h:H):List (Bool×Ty)->List V->Option (List V×List Nat)
 | p::l,v::vs=>match Ka h l vs with
  | some a=>bif nI p then (match v with
    | .ptr j off=>(match h.get j with
     | some (.box cs _ _)=>bif Nat.blt off cs.length then some (.agg (cs.drop off)::a.1,j::a.2) else none
     | _=>none)
    | _=>none) else some (v::a.1,a.2)
  | none=>none
 | _,vs=>some (vs,[])
def na:V->V
 | .agg cs => .pv cs
 | v=>v
def ca:List (Bool×Ty)->List V->List V
 | p::l,v::vs=>(bif nI p then na v else v)::ca l vs
 | _,vs=>vs
inductive TgA where
 | fn (f:FuncId)
 | yl (id:Nat)
abbrev Po:=(β:Type)->TgA->Option UMA->List V->H->Nat->(OutA->Option UMA->H->Nat->Option β)->Option β
abbrev KA (β:Type):=ExA->FrA->H->Nat->Option β
def Ny (fr:FrA) (a:Option Nat) (v:V) (K:FrA->Option β):Option β:=match a with
 | none=>K fr
 | some d=>bif Nat.blt d fr.nt then K { fr with t:=T.put 20 fr.t d v } else none
def Sd (ops:List Oper) (t:T V) (g:Option (Nat×Bool)) (a c:T V->Option β):Option β:=match g with
 | none=>a t
 | some (j,want)=>match lget ops j with
  | some o=>match o.dst with
   | some d=>match t.get d with
    | some (.bool b)=>br b (λ_=>bif want then a (T.put 20 t d (.bool true)) else c (T.put 20 t d (.bool true))) (λ_=>bif want then c (T.put 20 t d (.bool false)) else a (T.put 20 t d (.bool false)))
    | some (.tup [])=>c t
    | _=>none
   | none=>none
  | none=>none
def Ev (P:Program) (a:Jc) (rec:Po) (base:Nat) (ops:List Oper):List (Nat×Oper)->FrA->H->Nat->KA β->Option β
 | [],fr,h,nx,K=>K .normal fr h nx
 | (i,o)::r,fr,h,nx,K=>Sd ops fr.t o.guard
  (λt=>pL P t h (base+i) o fun
   | .val v h=>Ny { fr with t } o.dst v λfr=>Ev P a rec base ops r fr h nx K
   | .skip h=>Ny { fr with t } o.dst (.tup []) λfr=>Ev P a rec base ops r fr h nx K
   | .dfr d=>match fr.ro with
    | none=>Ny { fr with t,ds:=d::fr.ds } o.dst (.tup []) λfr=>Ev P a rec base ops r fr h nx K
    | some _=>none
   | .call f args=>match a f with
    | some none=>none
    | some (some sg)=>bif !Nat.blt f Hj then none else (match getR a f with
     | some sg=>UR h (base+i) sg args λv h=>Ny { fr with t } o.dst v λfr=>Ev P a rec base ops r fr h nx K
     | none=>Ik h sg args λv h=>Ny { fr with t } o.dst v λfr=>Ev P a rec base ops r fr h nx K)
    | none=>rec β (.fn f) none args h nx λo' _ h nx=>match o' with
     | .ret v=>Ny { fr with t } o.dst v λfr=>Ev P a rec base ops r fr h nx K
     | .pan [{ v,recovered:=false }]=>K (.panic v) { fr with t } h nx
     | _=>none
   | .yield l args=>rec β (.yl l) none args h nx λo' _ h nx=>match o' with
     | .ret v=>Ny { fr with t } o.dst v λfr=>Ev P a rec base ops r fr h nx K
     | _=>none
   | .pan v=>K (.panic v) { fr with t } h nx
   | .rcv=>match fr.ro with
    | some _=>none
    | none=>match fr.up with
     | some (.pan ({ v,recovered:=false }::older))=>Ny { fr with t,up:=some (.pan ({ v,recovered:=true }::older)) } o.dst v λfr=>Ev P a rec base ops r fr h nx K
     | _=>Ny { fr with t } o.dst .nili λfr=>Ev P a rec base ops r fr h nx K)
  (λt=>Ny { fr with t } o.dst (.tup []) λfr=>Ev P a rec base ops r fr h nx K)
def BG:Op->Nat
 | .move _ | .assign _ | .pick _ _ _ | .build _ _ | .nilCheck _ | .binOp _ _ _ _ _ | .unOp _ _ _ | .convert _ _ _ | .makeInterface _ _ | .makeFunc _ _ _ | .fieldAddr _ _ _ | .field _ _ _ | .index _ _ _ | .typeAssert _ _ _ _ | .extract _ _=>0
 | .load _ _ | .indexAddr _ _ _=>1
 | .slice _ _ _ _ none=>1
 | .slice _ _ _ _ (some _)=>4
 | .call c=>match c.callee with
  | .builtin b=>match b with
   | .len | .cap | .max | .min=>1
   | .append | .copy=>4
   | _=>9
  | _=>9
 | .buildSlice _ _ _=>4
 | .alloc _ | .box _ _ | .makeMap _ none | .makeSlice _ _ _=>2
 | .store _ _ _=>3
 | _=>9
def Mz (h:H) (id:Nat):Bool:=match h.get id with
 | some .dead=>false
 | some _=>true
 | none=>false
def lr (h:H):V->Bool
 | .ow id | .own id _ _ | .ptr id _ | .ept id _ _ | .aptr id _ _ _ | .mp id=>Mz h id
 | _=>true
def M4 (h:H) (t:T V):List Operand->Bool
 | []=>true
 | .tmp k::l=>(match t.get k with
  | some v=>lr h v
  | none=>false)&&M4 h t l
 | _::l=>M4 h t l
def ZS (t:T V):List Operand->Option (List Nat×Bool)
 | []=>some ([],false)
 | .tmp k::l=>match t.get k with
  | some (.ow id) | some (.own id _ _) | some (.ptr id _) | some (.ept id _ _) | some (.aptr id _ _ _) | some (.mp id)=>(ZS t l).map λa=>(id::a.1,a.2)
  | some (.lf _ _ _ _) | some (.view _)=>(ZS t l).map λa=>(a.1,true)
  | some _=>ZS t l
  | none=>none
 | _::l=>ZS t l
def ng (f:V->Option (List Nat×Bool)):List V->Option (List Nat×Bool)
 | []=>some ([],false)
 | v::vs=>match f v,ng f vs with
  | some a,some b=>some (a.1++b.1,a.2||b.2)
  | _,_=>none
def cb (h:H) (id:Nat):Bool:=match h.get id with
 | some (.row _ c _ _ _ _)=>c.hasSl
 | _=>true
def pM (h:H):Nat->V->Option (List Nat×Bool)
 | 0,_=>none
 | n+1,v=>match v with
  | .bool _ | .int _ _ | .str _ | .nils | .pl _ _ _ | .exl _ _=>some ([],false)
  | .lf _ _ _ _=>some ([],true)
  | .ow id | .own id _ _=>bif Mz h id then some ([id],cb h id) else none
  | .agg cs=>ng (pM h n) cs
  | _=>none
def kF (h:H) (t:T V):List Operand->Option (List Nat×Bool)
 | []=>some ([],false)
 | .tmp k::l=>match t.get k with
  | some v=>(match pM h 6 v,kF h t l with
   | some a,some b=>some (a.1++b.1,a.2||b.2)
   | _,_=>none)
  | none=>none
 | _::l=>kF h t l
def kG (t:T V):List Operand->Option (List Nat×Bool)
 | []=>some ([],false)
 | .tmp k::l=>match t.get k with
  | some (.mp id)=>(kG t l).map λa=>(id::a.1,a.2)
  | some _=>kG t l
  | none=>none
 | _::l=>kG t l
def Dn (h:H) (l:List V):Option (List Nat×Bool):=ng (pM h 6) l
def nh (js:List Nat) (o:Option (List Nat×Bool)):Option (List Nat×Bool):=o.map λa=>(js++a.1,a.2)
def mQ (t:T V):Op->Bool
 | .slice _ (.tmp k) _ _ (some _)=>match t.get k with
  | some (.pl _ _ _) | some .nils=>true
  | _=>false
 | .slice _ _ _ _ (some _)=>false
 | _=>true
def fp (h:H) (t:T V) (o:Op):Option (List Nat×Bool):=match o with
 | .load _ _ | .indexAddr _ _ _ | .slice _ _ _ _ none | .store _ _ _=>ZS t (Pi.Cb o)
 | .slice _ x _ _ (some _)=>kF h t [x]
 | .buildSlice _ _ parts=>kF h t (parts.toList.map (·.2))
 | .call c=>match c.callee with
  | .builtin b=>(match b with
   | .len=>kG t c.args.toList
   | .cap | .max | .min | .append | .copy=>ZS t c.args.toList
   | _=>none)
  | _=>none
 | .alloc _ | .box _ _ | .makeMap _ none | .makeSlice _ _ _=>some ([],false)
 | _=>none
def RR (v:V):Option (List Nat×Bool)->Option (List Nat×Bool)
 | some a=>match v with
  | .ow id | .own id _ _ | .ptr id _ | .ept id _ _ | .aptr id _ _ _ | .mp id=>some (id::a.1,a.2)
  | .lf _ _ _ _ | .view _=>some (a.1,true)
  | _=>some a
 | none=>none
def US:List (Bool×Ty)->Bool
 | [(false,.sl _ _)]=>true
 | _=>false
def KG (h:H):List Nat->Bool
 | []=>true
 | j::l=>Mz h j&&KG h l
def UT (h:H):List Nat->Bool
 | []=>true
 | j::l=>(h.get j).isSome&&UT h l
def ni (h:H):Option (List Nat×Bool)->Option (List Nat×Bool)->Bool
 | some a,some b => !Pi.HB a.1 b.1&&(!(a.2&&b.2)&&(KG h a.1&&UT h b.1))
 | _,_=>false
def IH (h:H) (a c:Nat) (f:Option (List Nat×Bool)):List (Nat×Nat×Option (List Nat×Bool))->Bool
 | []=>true
 | (j,d,g)::l=>(Pi.Lu a j||(Nat.beq c 0||(Nat.beq c 2||(Nat.beq d 0||(Nat.beq c 1&&Nat.beq d 1||ni h f g)))))&&IH h a c f l
def Ge:Op->Bool
 | .call c=>match c.callee with
  | .builtin _=>false
  | _=>true
 | _=>false
def O2 (t:T V) (nt:Nat) (a:Option Nat) (v:V) (K:T V->Option β):Option β:=match a with
 | some d=>bif Nat.blt d nt then K (T.put 20 t d v) else none
 | none=>K t
def D4 (P:Program) (b:Jc) (base nt:Nat) (ops:List Oper):Nat->List Oper->List Pi.Mk->List (Nat×Nat×Option (List Nat×Bool))->T V->H->(T V->H->Option β)->Option β
 | i,o::l,m::ms,past,t,h,K=>Sd ops t o.guard
  (λt=>bif !Pi.CQ o.op then none else
   pL P t h (base+i) o fun
    | .val v c=>bif (Nat.ble (BG o.op) 2||Nat.beq (BG o.op) 4)&&(mQ t o.op&&(M4 h t (Pi.Cb o.op)&&IH h m.bef (BG o.op) (fp h t o.op) past)) then O2 t nt o.dst v λd=>D4 P b base nt ops (i+1) l ms ((i,BG o.op,bif Nat.ble (BG o.op) 1 then fp h t o.op else RR v (fp h t o.op))::past) d c K else none
    | .skip c=>bif Nat.beq (BG o.op) 3&&(M4 h t (Pi.Cb o.op)&&IH h m.bef 3 (fp h t o.op) past) then O2 t nt o.dst (.tup []) λd=>D4 P b base nt ops (i+1) l ms ((i,3,fp h t o.op)::past) d c K else none
    | .call f args=>match getR b f with
     | some sg=>bif !Ge o.op || !IH h m.bef 4 (Dn h args) past then none else UR h (base+i) sg args λv c=>O2 t nt o.dst v λt=>D4 P b base nt ops (i+1) l ms ((i,4,RR v (Dn h args))::past) t c K
     | none=>match getL b f with
     | some sg=>bif !Ge o.op then none else bif !IH h m.bef 4 (Dn h args) past then none else Ik h sg args λv c=>O2 t nt o.dst v λt=>D4 P b base nt ops (i+1) l ms ((i,4,Dn h args)::past) t c K
     | none=>match getD b f with
      | some sg=>bif !Ge o.op then none else bif Fi sg.cod then
        (bif !IH h m.bef 4 (Dn h args) past then none else Ik h sg args λv c=>O2 t nt o.dst v λt=>D4 P b base nt ops (i+1) l ms ((i,4,bif US sg.cod then RR v (Dn h args) else Dn h args)::past) t c K)
       else bif !IH h m.bef 1 (Dn h args) past then none else Ik h sg args λv c=>O2 t nt o.dst v λt=>D4 P b base nt ops (i+1) l ms ((i,1,Dn h args)::past) t c K
      | none=>match getP b f with
       | some sg=>bif !Ge o.op||Fi sg.cod then none else HC (Ka h sg.dom args) λa=>bif !IH h m.bef 1 (nh a.2 (Dn h a.1)) past then none else Ik h sg a.1 λv c=>O2 t nt o.dst v λt=>D4 P b base nt ops (i+1) l ms ((i,1,nh a.2 (Dn h a.1))::past) t c K
       | none=>none
    | _=>none)
  (λt=>O2 t nt o.dst (.tup []) λt=>D4 P b base nt ops (i+1) l ms past t h K)
 | _,[],_,_,t,h,K=>K t h
 | _,_,_,_,_,_,_=>none
def V9 (P:Program) (a:Jc) (base:Nat) (ops:List Oper) (fr:FrA) (h:H) (K:FrA->H->Option β):Option β :=
 HC (Pi.K7 ops 0 ops []) λb=>D4 P a base fr.nt ops 0 ops b [] fr.t h λt h=>K { fr with t } h
end
def BA.locked:BA->Bool
 | .box _ _ lk=>lk
 | .row _ _ _ _ _ lk=>lk
 | .mp _ _ _ _ lk=>lk
 | _=>false
def D5 (t:T V):List Nat->T V
 | [] => .lf
 | k::l=>match t.get k with
  | some v=>T.put 20 (D5 t l) k v
  | none=>D5 t l
def II:BA->BA
 | .box cs fz _ => .box cs fz true
 | .row g c l ex fz _ => .row g c l ex fz true
 | .mp k g c l _ => .mp k g c l true
 | b=>b
def D6 (h:H) (f:BA->BA):List Nat->H
 | [] => .lf
 | k::l=>match h.get k with
  | some .dead=>D6 h f l
  | some b=>T.put 20 (D6 h f l) k (f b)
  | none=>D6 h f l
section
variable {β:Type}
def UU (h:H) (g:Bool) (c:Ty) (ex:Bool) (v:V) (K:List c.den->Option β):Option β:=match v with
 | .nils=>bif ex then none else K []
 | .ow id=>match h.get id with
  | some (.row g' _ l ex' false false)=>bif g == g'&&ex == ex' then Ij l K else none
  | _=>none
 | _=>none
def IJ (h:H):(l:List Sgm)->List V->(Pk l->Option β)->Option β
 | [],cs,K=>match cs with
  | []=>K ()
  | _=>none
 | [.lf c],cs,K=>JG .lf c cs λx r=>match r with
  | []=>K x
  | _=>none
 | [.ow g c ex],cs,K=>match cs with
  | [v]=>UU h g c ex v K
  | _=>none
 | .lf c::q::r,cs,K=>JG .lf c cs λx cs=>IJ h (q::r) cs λy=>K (x,y)
 | .ow g c ex::q::r,cs,K=>match cs with
  | v::cs=>UU h g c ex v λx=>IJ h (q::r) cs λy=>K (x,y)
  | _=>none
 | [.kp id],cs,K=>match cs with
  | [.ow j]=>bif Nat.beq j id then K () else none
  | _=>none
 | .kp id::q::r,cs,K=>match cs with
  | .ow j::cs=>bif Nat.beq j id then IJ h (q::r) cs λy=>K ((),y) else none
  | _=>none
 | [.cn c],cs,K=>match cs with
  | [v]=>bif nH c v then K () else none
  | _=>none
 | .cn c::q::r,cs,K=>match cs with
  | v::cs=>bif nH c v then IJ h (q::r) cs λy=>K ((),y) else none
  | _=>none
def cc (h:H) (g:Bool) (c:Ty) (v:V) (K:List c.den×Nat->Option β):Option β:=match v with
 | .own j off len=>match h.get j with
  | some (.row g' _ l true false false)=>bif g == g'&&Nat.beq off 0 then Ij l λl=>K (l,len) else none
  | _=>none
 | _=>none
def M5 (t:T V) (h:H):(p:Pl)->(p.den->Option β)->Option β
 | .slot k g c,K=>HC (t.get k) λv=>Mv .lf g c v K
 | .srow k g c ex,K=>HC (t.get k) λv=>UU h g c ex v K
 | .swin k g c,K=>HC (t.get k) λv=>cc h g c v K
 | .cn k c,K=>HC (t.get k) λv=>bif nH c v then K () else none
 | .box id sg,K=>match h.get id with
  | some (.box cs false false)=>IJ h sg cs K
  | _=>none
 | .map id k g c,K=>match h.get id with
  | some (.mp _ g' _ l false)=>bif g == g' then lm l K else none
  | _=>none
def HH (t:T V) (h:H):(l:List Pl)->(DW l->Option β)->Option β
 | [],K=>K ()
 | [p],K=>M5 t h p K
 | p::q::r,K=>M5 t h p λx=>HH t h (q::r) λy=>K (x,y)
end
def Hk (h:H) (nx:Nat):(l:List Sgm)->Pk l->List V×H×Nat
 | [],_=>([],h,nx)
 | [.lf c],x=>(cells c x,h,nx)
 | [.ow g c ex],l=>([.ow nx],Ai h nx (.row g c l ex false false),nx+1)
 | .lf c::q::r,x=>match Hk h nx (q::r) x.2 with
  | (cs,h,nx)=>(cells c x.1++cs,h,nx)
 | .ow g c ex::q::r,x=>match Hk (Ai h nx (.row g c x.1 ex false false)) (nx+1) (q::r) x.2 with
  | (cs,h,n')=>(.ow nx::cs,h,n')
 | [.kp id],_=>([.ow id],h,nx)
 | .kp id::q::r,x=>match Hk h nx (q::r) x.2 with
  | (cs,h,n')=>(.ow id::cs,h,n')
 | [.cn c],_=>([c.v],h,nx)
 | .cn c::q::r,x=>match Hk h nx (q::r) x.2 with
  | (cs,h,n')=>(c.v::cs,h,n')
def Fo (t:T V) (h:H) (nx:Nat):(p:Pl)->p.den->T V×H×Nat
 | .slot k g c,x=>(T.put 20 t k (ZP g c x),h,nx)
 | .srow k g c ex,l=>(T.put 20 t k (.ow nx),Ai h nx (.row g c l ex false false),nx+1)
 | .swin k g c,x=>(T.put 20 t k (.own nx 0 x.2),Ai h nx (.row g c x.1 true false false),nx+1)
 | .cn k c,_=>(T.put 20 t k c.v,h,nx)
 | .box id sg,x=>match Hk h nx sg x with
  | (cs,h,nx)=>(t,Ai h id (.box cs false false),nx)
 | .map id k g c,l=>(t,Ai h id (.mp k g c l false),nx)
def CB (t:T V) (h:H) (nx:Nat):(l:List Pl)->DW l->T V×H×Nat
 | [],_=>(t,h,nx)
 | [p],x=>Fo t h nx p x
 | p::q::r,x=>match Fo t h nx p x.1 with
  | (t,h,nx)=>CB t h nx (q::r) x.2
def Bf:List Pl->List Nat
 | []=>[]
 | .box id _::l | .map id _ _ _::l=>id::Bf l
 | _::l=>Bf l
def cd:V->List Nat
 | .own id _ _=>[id]
 | _=>[]
def Fk:V->List Nat
 | .ow id=>[id]
 | _=>[]
def Co:List Sgm->List V->List Nat
 | [],_=>[]
 | .lf c::r,cs=>Co r (cs.drop c.wd)
 | .ow _ _ _::r,cs=>(match cs with
  | v::_=>Fk v
  | []=>[])++Co r (cs.drop 1)
 | .kp _::r,cs=>Co r (cs.drop 1)
 | .cn _::r,cs=>Co r (cs.drop 1)
def Cp (t:T V) (h:H):List Pl->List Nat
 | []=>[]
 | .slot _ _ _::l=>Cp t h l
 | .cn _ _::l=>Cp t h l
 | .map id _ _ _::l=>id::Cp t h l
 | .srow k _ _ _::l=>(match t.get k with
  | some v=>Fk v
  | none=>[])++Cp t h l
 | .swin k _ _::l=>(match t.get k with
  | some v=>cd v
  | none=>[])++Cp t h l
 | .box id sg::l=>(match h.get id with
  | some (.box cs _ _)=>Co sg cs
  | _=>[])++id::Cp t h l
def Eb:List Nat->Bool
 | []=>true
 | a::l => !l.any (Nat.beq a)&&Eb l
def On (nx:Nat):List Sgm->Bool
 | []=>true
 | .kp id::l=>Nat.blt id nx&&On nx l
 | .lf _::l | .ow _ _ _::l=>On nx l
 | .cn _::l=>On nx l
def CE (nt nx:Nat):List Pl->Bool
 | []=>true
 | .slot k _ _::l | .srow k _ _ _::l | .swin k _ _::l=>Nat.blt k nt&&CE nt nx l
 | .box _ sg::l=>On nx sg&&CE nt nx l
 | .map _ _ _ _::l=>CE nt nx l
 | .cn k _::l=>Nat.blt k nt&&CE nt nx l
def Hv (h:H) (n:Nat) (l:List Nat):List Nat:=l++(List.range n).filter λi=>(match h.get i with
 | some c=>c.locked
 | none=>false) && !l.any (Nat.beq i)
def Gf:Code->Option Nat
 | .region id _ _=>some id
 | .seq a b=>match Gf a with
  | some i=>some i
  | none=>Gf b
 | .cond _ a b=>match Gf a with
  | some i=>some i
  | none=>Gf b
 | .block _ b | .loop b | .scope b=>Gf b
 | .rangeFunc _ _ a b=>match Gf a with
  | some i=>some i
  | none=>Gf b
 | _=>none
def Il:Code->Option Nat
 | .region id _ _=>some id
 | .seq a b=>match Il b with
  | some i=>some i
  | none=>Il a
 | .cond _ a b=>match Il b with
  | some i=>some i
  | none=>Il a
 | .block _ b | .loop b | .scope b=>Il b
 | .rangeFunc _ _ a b=>match Il b with
  | some i=>some i
  | none=>Il a
 | _=>none
def mR (x:Code):Nat:=match Gf x,Il x with
 | some i,some k=>1000000+(i*1000+k)
 | _,_=>0
def FW:Code->List Nat
 | .region _ ops _=>ops.toList.filterMap (·.dst)
 | .seq a b | .cond _ a b=>FW a++FW b
 | .block _ b | .loop b | .scope b=>FW b
 | _=>[]
def Oo (h:H):List Nat->Bool
 | []=>true
 | id::l=>(match h.get id with
  | some (.df (some []))=>true
  | some (.df _)=>false
  | _=>true)&&Oo h l
def M6 (h:H):List Nat->List Nat
 | []=>[]
 | id::l=>match h.get id with
  | some (.df _)=>id::M6 h l
  | _=>M6 h l
def L7 (h:H):List Nat->Bool
 | []=>true
 | id::l=>(match h.get id with
  | some (.df (some []))=>true
  | _=>false)&&L7 h l
def Lk (h:H):List (Nat×Nat×Option Code)->Bool
 | []=>true
 | (id,st,pd)::l=>(match h.get id with
  | some (.lp st' pd' _ _ _ _ _ _)=>Nat.beq st st'&&(match pd,pd' with
   | none,none=>true
   | some .ret,some .ret=>true
   | some (.exit i),some (.exit j)=>Nat.beq i j
   | some (.goto i),some (.goto j)=>Nat.beq i j
   | _,_=>false)
  | _=>false)&&Lk h l
def Gg (h:H):List (Nat×Nat×Option Code)->H
 | []=>h
 | (id,st,pd)::l=>match h.get id with
  | some (.lp _ _ nt t ps asg body d)=>Ai (Gg h l) id (.lp st pd nt t ps asg body d)
  | _=>Gg h l
def Ec (h:H):List Nat->List (Nat×Nat×Option Code)
 | []=>[]
 | id::l=>match h.get id with
  | some (.lp st pd _ _ _ _ _ _)=>(id,st,pd)::Ec h l
  | _=>Ec h l
section
variable {β:Type}
def kH (h:H) (n:Nat) (v:V) (K:V->H->Option β):Option β:=match v with
 | .ow j=>match h.get j with
  | some (.row g c l _ _ false)=>K (.lf false g c l) (D6 h (λb=>b) ((List.range n).filter λi => !Nat.beq i j))
  | _=>none
 | .own j off len=>match h.get j with
  | some (.row g c l _ _ false)=>gd (BP (Ag off len) (AA l)) λ_=>K (.lf false g c (EI l off (Ag off len))) (D6 h (λb=>b) ((List.range n).filter λi => !Nat.beq i j))
  | _=>none
 | _=>none
def kI (n:Nat):List (Nat×Nat)->H->(H->Option β)->Option β
 | [],h,K=>K h
 | (b,i)::r,h,K=>match h.get b with
  | some (.box cs fz false)=>HC (lget cs i) λv=>kH h n v λa h'=>kI n r (Ai h' b (.box (Pi.lset cs i a) fz false)) K
  | _=>none
def kJ (n:Nat):List Nat->FrA->H->(FrA->H->Option β)->Option β
 | [],fr,h,K=>K fr h
 | k::r,fr,h,K=>bif Nat.blt k 1048575 then HC (fr.t.get k) λv=>kH h n v λa h'=>kJ n r { fr with t:=T.put 20 fr.t k a } h' K else none
def nj (h:H) (ex:ExA) (pay:Ty):ExK->(pay.den->Option β)->Option β
 | .exit i,K=>match ex with
  | .exit j=>bif Nat.beq i j then K (X8 pay) else none
  | _=>none
 | .ret,K=>match ex with
  | .ret=>K (X8 pay)
  | _=>none
 | .pan t g c,K=>match ex with
  | .panic (.ifc t' v)=>bif Nat.beq t t' then (if e:c=pay then Mv .lf g c v λx=>K (e ▸ x) else none) else none
  | _=>none
def nk (ex:ExA):ExK->Bool
 | .exit i=>match ex with
  | .exit j=>Nat.beq i j
  | _=>false
 | .ret=>match ex with
  | .ret=>true
  | _=>false
 | .pan t _ _=>match ex with
  | .panic (.ifc t' _)=>Nat.beq t t'
  | _=>false
def Nz (h:H) (a:List Nat) (ex:ExA) (pay:Ty):Nat->List (ExK×List (Nat×Nat×Option Code))->(Nat->pay.den->Option β)->Option β
 | _,[],_=>none
 | i,(k,lp)::l,K=>bif nk ex k&&(Lk h lp&&(lp.map (·.1)) == a) then nj h ex pay k (K i) else Nz h a ex pay (i+1) l K
def Se (pay:Ty) (x:pay.den):ExK->ExA
 | .exit i => .exit i
 | .ret => .ret
 | .pan t g c=>if e:c=pay then .panic (.ifc t (ZP g c (e ▸ x))) else .normal
def UV (pay:Ty) (x:pay.den) (n:Nat):Nat->List (ExK×List (Nat×Nat×Option Code))->(ExA->List (Nat×Nat×Option Code)->Option β)->Option β
 | _,[],_=>none
 | _,[(k,lp)],K=>K (Se pay x k) lp
 | i,(k,lp)::e::l,K=>br (neq n i) (λ_=>K (Se pay x k) lp) λ_=>UV pay x n (i+1) (e::l) K
end
def M7:Nat->List V->T V->T V
 | _,[],t=>t
 | i,a::l,t=>M7 (i+1) l (T.put 20 t i a)
def Jp (nt:Nat):List Nat->List V->T V->Option (T V)
 | [],[],t=>some t
 | p::ps,a::l,t=>bif Nat.blt p nt then Jp nt ps l (T.put 20 t p a) else none
 | _,_,_=>none
section
variable {β:Type}
def M8 (P:Program) (a:Jc) (ann:Pm) (f:FuncId) (rec:Po):Nat->(β:Type)->Nat->Code->FrA->H->Nat->KA β->Option β
 | 0,_,_,_,_,_,_,_=>none
 | n+1,β,b,c,fr,h,nx,K=>match c with
  | .skip | .label _=>K .normal fr h nx
  | .seq x y=>match ann f (mR x) nx with
   | some (.join j) =>
    let z:=Bf j.pl0++Bf j.pl1
    let kb:=Hv h nx j.kb
    bif fr.up.isSome || !CE fr.nt nx j.pl0 || !CE fr.nt nx j.pl1 || !j.keep.all (λk=>Nat.blt k 1048575)||(FW x).any (λk=>j.keep.any (Nat.beq k)) || !Eb (Cp fr.t h j.pl0++kb) || !(kb++z).all (λi=>Nat.blt i nx) || !Oo h kb||kb.any (λi=>z.any (Nat.beq i)) then none else
    let q:=Ec h kb
    let B:=M6 h kb
    HH fr.t h j.pl0 λs0 =>
    jn (α:=DW j.pl0) (β:=β) (γ:=Nat×DW j.pl1×j.pay.den) (δ:=DW j.pl1) (λs =>
      match CB (D5 fr.t j.keep) (D6 h II kb) nx j.pl0 s with
      | (t1,h1,nx1)=>bif !Nat.ble nx1 1048575 then none else M8 P a ann f rec n (LR (DW j.pl1) (Nat×DW j.pl1×j.pay.den)) nx1 x { fr with t:=t1 } h1 nx1 λe m h' _ =>
       bif !Nat.beq m.ds.length fr.ds.length || !L7 h' B then none else match e with
       | .normal=>bif Eb (Cp m.t h' j.pl1++kb)&&Lk h' q then HH m.t h' j.pl1 λs'=>some (.nx s') else none
       | e=>bif Eb (Cp m.t h' j.pl1++kb) then Nz h' (q.map (·.1)) e j.pay 0 j.ex λi p=>HH m.t h' j.pl1 λs'=>some (.dn (i,s',p)) else none) s0
     (λs=>match CB (D5 fr.t j.keep) (Gg (D6 h (λb=>b) kb) q) nx j.pl1 s with
      | (t1,h1,nx1)=>bif !Nat.ble nx1 1048575 then none else M8 P a ann f rec n β b y { fr with t:=t1 } h1 nx1 K)
     (λx=>UV j.pay x.2.2 x.1 0 j.ex λe D=>match CB (D5 fr.t j.keep) (Gg (D6 h (λb=>b) kb) D) nx j.pl1 x.2.1 with
      | (t1,h1,nx1)=>bif !Nat.ble nx1 1048575 then none else K e { fr with t:=t1 } h1 nx1)
   | _=>M8 P a ann f rec n β b x fr h nx λe fr h nx=>match e with
    | .normal=>M8 P a ann f rec n β b y fr h nx K
    | e=>K e fr h nx
  | .cond c x y=>DZ fr.t c λv=>match v with
   | .bool c=>br c (λ_=>M8 P a ann f rec n β b x fr h nx K) (λ_=>M8 P a ann f rec n β b y fr h nx K)
   | _=>none
  | .block id x=>M8 P a ann f rec n β b x fr h nx λe fr h nx=>match e with
   | .exit j=>bif Nat.beq j id then K .normal fr h nx else K (.exit j) fr h nx
   | e=>K e fr h nx
  | .loop x=>match (match Gf x with
    | some i=>ann f i nx
    | none=>none) with
   | some (.loop tm) =>
    kI nx tm.rel h λh=>kJ nx tm.relS fr h λfr h =>
    let z:=Bf tm.pl++Bf tm.plx
    let kb:=Hv h nx tm.kb
    bif fr.up.isSome || !CE fr.nt nx tm.pl || !CE fr.nt nx tm.plx || !tm.keep.all (λk=>Nat.blt k 1048575)||(FW x).any (λk=>tm.keep.any (Nat.beq k)) || !Eb (Cp fr.t h tm.pl++kb) || !(kb++z).all (λi=>Nat.blt i nx) || !Oo h kb||kb.any (λi=>(Bf tm.plx).any (Nat.beq i)) then none else
    let q:=Ec h kb
    let B:=M6 h kb
    HH fr.t h tm.pl λs0 =>
    bd (loop (α:=DW tm.pl) (β:=Nat×DW tm.plx×tm.pay.den) (λs =>
      match CB (D5 fr.t tm.keep) (D6 h II kb) nx tm.pl s with
      | (t1,h1,nx1)=>bif !Nat.ble nx1 1048575 then none else M8 P a ann f rec n (LR (DW tm.pl) (Nat×DW tm.plx×tm.pay.den)) nx1 x { fr with t:=t1 } h1 nx1 λe m h' _ =>
       bif !Nat.beq m.ds.length fr.ds.length || !L7 h' B then none else match e with
       | .normal=>bif Eb (Cp m.t h' tm.pl++kb)&&Lk h' q then HH m.t h' tm.pl λs'=>some (.nx s') else none
       | e=>bif Eb (Cp m.t h' tm.plx++kb) then Nz h' (q.map (·.1)) e tm.pay 0 tm.ex λi p=>HH m.t h' tm.plx λs'=>some (.dn (i,s',p)) else none) s0) λx =>
    UV tm.pay x.2.2 x.1 0 tm.ex λe D=>match CB (D5 fr.t tm.keep) (Gg (D6 h (λb=>b) kb) D) nx tm.plx x.2.1 with
    | (t1,h1,nx1)=>bif !Nat.ble nx1 1048575 then none else K e { fr with t:=t1 } h1 nx1
   | _=>M8 P a ann f rec n β b x fr h nx λe fr h nx=>match e with
    | .normal=>M8 P a ann f rec n β b (.loop x) fr h nx K
    | e=>K e fr h nx
  | .scope x=>M8 P a ann f rec n β b x fr h nx λe fr h nx=>match e with
   | .goto _=>none
   | e=>K e fr h nx
  | .exit id=>K (.exit id) fr h nx
  | .goto l=>K (.goto l) fr h nx
  | .ret=>K .ret fr h nx
  | .refuse _=>none
  | .region _ ops draw=>bif !Nat.ble (nx+ops.size) 1048575 || !(ops.toList.all λo=>match o.dst with
    | some d=>Nat.blt d fr.nt
    | none=>true) then none else
    bif draw then (bif P.follows .mixedOrders || !Region.departs ops then V9 P a nx ops.toList fr h λfr h=>K .normal fr h (nx+ops.size) else none)
    else Ev P a rec nx ops.toList (Nh 0 ops.toList) fr h (nx+ops.size) K
  | .rangeFunc g C A u=>bif !Nat.ble (nx+2) 1048575 then none else DZ fr.t g λv=>match v with
   | .fn g E F =>
    match (match fr.ro with
     | none=>some (nx,[DFA.col nx],Ai h nx (.df (some [])))
     | some G=>(match h.get G with
      | some (.lp _ _ _ _ _ _ _ d0)=>some (d0,[],h)
      | _=>none)) with
    | some (d,mark,h)=>LN P g E F [.yl (nx+1)] λr=>match r with
     | .call g args=>rec β (.fn g) none args (Ai h (nx+1) (.lp 0 none fr.nt fr.t C.toList A u d)) (nx+2) λo _ h w=>match o with
      | .ret _=>(match h.get (nx+1) with
       | some (.lp st pend nt t C A u d)=>bif Nat.beq st 1 then none else
        let h:=Ai h (nx+1) (.lp 3 pend nt t C A u d)
        (match pend with
        | none=>K .normal { fr with ds:=mark++fr.ds } h w
        | some .ret=>K .ret { fr with ds:=mark++fr.ds } h w
        | some (.exit id)=>K (.exit id) { fr with ds:=mark++fr.ds } h w
        | some (.goto id)=>K (.goto id) { fr with ds:=mark++fr.ds } h w
        | _=>none)
       | _=>none)
      | _=>none
     | _=>none
    | none=>none
   | _=>none
def RS (P:Program) (h:H) (t:T V):List ResultVar->(List V->Option β)->Option β
 | [],K=>K []
 | .tmp k::l,K=>HC (t.get k) λv=>RS P h t l λvs=>K (v::vs)
 | .cell a ty::l,K=>match t.get a with
  | some (.ptr j off)=>match h.get j with
   | some (.box cs _ _)=>HC (JI P ty (cs.drop off)) λv=>RS P h t l λvs=>K (v::vs)
   | _=>none
  | _=>none
def YC:UMA->UMA
 | .pan ({ v:=_,recovered:=true }::_) => .ret
 | u=>u
def Jq (P:Program) (rec:Po) (d:Func) (β:Type):Nat->List DFA->UMA->T V->H->Nat->(OutA->H->Nat->Option β)->Option β
 | 0,_,_,_,_,_,_=>none
 | n+1,ds,u,t,h,nx,K=>match ds with
  | []=>match u with
   | .ret=>RS P h t d.results.toList λvs=>K (.ret (match vs with
    | [v]=>v
    | vs => .tup vs)) h nx
   | .pan e=>K (.pan e) h nx
  | .col id::ds=>match h.get id with
   | some (.df (some l))=>Jq P rec d β n (l++ds) u t (Ai h id (.df none)) nx K
   | _=>none
  | .bi b ats _ args::ds=>match b,args,ats[0]? with
   | .clear,[.mp j],some ty=>(match P.underlying ty,h.get j with
    | some (.map _ _),some (.mp k g c _ false)=>Jq P rec d β n ds u t (Ai h j (.mp k g c [] false)) nx K
    | _,_=>none)
   | _,_,_=>none
  | .call f args::ds=>match f with
   | .fn (.func g) a b=>LN P (.func g) a b args λr=>match r with
    | .call g args=>rec β (.fn g) (some u) args h nx λo up h nx=>match o,up with
     | .ret _,some u=>Jq P rec d β n ds (YC u) t h nx K
     | _,_=>none
    | _=>none
   | _=>none
def HI (h:H) (nx:Nat) (l:Nat) (a:Option Code) (K:OutA->Option UMA->H->Nat->Option β):Option β:=match h.get l with
 | some (.lp _ _ nt t ps asg body d)=>K (.ret (.bool a.isNone)) none (Ai h l (.lp (match a with | none=>0 | some _=>2) a nt t ps asg body d)) nx
 | _=>none
def YD (P:Program) (a:Jc) (ann:Pm) (F:Nat):Nat->Po
 | 0=>λ_ _ _ _ _ _ _=>none
 | n+1=>λβ g up args h nx K=>match g with
  | .fn f=>match Pi.Gl.pr f with
   | some _=>none
   | none=>HC P.funcs[f]? λb=>HC b.body λc =>
   bif Nat.ble args.length b.ntmps&&Nat.blt b.ntmps 1048575 then
    M8 P a ann f (YD P a ann F n) F β nx c { t:=M7 0 args .lf,nt:=b.ntmps,ds:=[],up,ro:=none } h nx λe fr h nx=>match e with
     | .normal=>Jq P (YD P a ann F n) b β F fr.ds .ret fr.t h nx λo h nx=>K o fr.up h nx
     | .ret=>Jq P (YD P a ann F n) b β F fr.ds .ret fr.t h nx λo h nx=>K o fr.up h nx
     | .panic e=>Jq P (YD P a ann F n) b β F fr.ds (.pan [{ v:=e,recovered:=false }]) fr.t h nx λo h nx=>K o fr.up h nx
     | _=>none
   else none
  | .yl l=>match h.get l with
   | some (.lp _ _ nt t ps asg body0 _)=>HC (Jp nt ps args t) λt =>
    M8 P a ann 0 (YD P a ann F n) F β nx asg { t,nt,ds:=[],up:=none,ro:=some l } h nx λe fr h nx=>match e with
     | .normal=>(match h.get l with
      | some (.lp 0 pend nt t ps asg body d)=>M8 P a ann 0 (YD P a ann F n) F β nx body0 fr (Ai h l (.lp 1 pend nt t ps asg body d)) nx λe _ h nx=>match e with
        | .normal=>HI h nx l none K
        | .ret=>HI h nx l (some .ret) K
        | .exit id=>HI h nx l (some (.exit id)) K
        | .goto id=>HI h nx l (some (.goto id)) K
        | _=>none
      | _=>none)
     | _=>none
   | _=>none
def Ac (P:Program) (b:Jc) (ann:Pm) (F n:Nat) (f:FuncId) (dom a:List (Bool×Ty)) (x:AH dom):Option (AH a) :=
 YD P b ann F n (AH a) (.fn f) none (Jo dom x) .lf 0 λo _ h _=>match o with
  | .ret v=>FV h a (match a with
   | [_]=>[v]
   | _=>match v with
    | .tup vs=>vs
    | v=>[v]) some
  | _=>none
end
def Pp (P:Program) (a:Jc) (ann:Pm) (F n:Nat) (f:FuncId) (dom:List (Bool×Ty)) (g:Bool) (c:Ty) (x:AH dom):Option (List c.den) :=
 YD P a ann F n (List c.den) (.fn f) none (Jo dom x) .lf 0 λo _ h _=>match o with
  | .ret (.ow j)=>(match h.get j with
   | some (.row g' _ l false false _)=>bif g == g' then Ij l some else none
   | _=>none)
  | _=>none
def YE (P:Program) (a:Jc) (ann:Pm) (F n:Nat) (f:FuncId) (dom:List (Bool×Ty)) (g:Bool) (c:Ty) (x:AH dom):Option (List c.den) :=
 YD P a ann F n (List c.den) (.fn f) none (Jo dom x) .lf 0 λo _ h _=>match o with
  | .ret v=>(match v with
   | .pl _ _ _=>Mv h false (.sl g c) v some
   | .nils=>Mv h false (.sl g c) v some
   | _=>none)
  | _=>none
def YF (P:Program) (b:Jc) (ann:Pm) (F n:Nat) (f:FuncId) (dom a:List (Bool×Ty)) (x:AH dom):Option (AH a) :=
 YD P b ann F n (AH a) (.fn f) none (ca dom (Jo dom x)) .lf 0 λo _ h _=>match o with
  | .ret v=>FV h a (match a with
   | [_]=>[v]
   | _=>match v with
    | .tup vs=>vs
    | v=>[v]) some
  | _=>none
def WA:List (FuncId×Sg)->FuncId->Option Sg
 | [],_=>none
 | (g,sg)::l,f=>bif Nat.beq f g then some sg else WA l f
def AC (pu:FuncId->Bool) (L:List (FuncId×Sg)):Jc:=λf=>bif pu f then some (WA L f) else none
def AK:List (Nat×Nat×Nat×An)->Pm
 | [],_,_,_=>none
 | (a,b,c,tm)::l,f,i,nx=>bif Nat.beq f a&&(Nat.beq i b&&Nat.beq nx c) then some tm else AK l f i nx
end Go.Proofs.YtfilfloanndddaaGreat.Sv
namespace Go.Proofs.YtfilfloanndddaaGreat.Sv
variable [Pi.Gl]
open Go.Proofs.YtfilfloanndddaaGreat.Pi (PV T Hp Blk DF UM PE)
inductive L2 {α β:Type} (R:α->β->Prop):List α->List β->Prop where
 | nil:L2 R [] []
 | cons {a:α} {b:β} {l:List α} {m:List β} (h:R a b) (t:L2 R l m):L2 R (a::l) (b::m)
namespace L2
variable {α β:Type} {R S:α->β->Prop}
theorem length {l:List α} {m:List β} (h:L2 R l m):l.length=m.length:=by
 induction h with
 | nil=>rfl
 | cons _ _ ih=>simp [ih]
theorem mono {l:List α} {m:List β} (h:L2 R l m) (f : ∀ a b,R a b->S a b):L2 S l m:=by
 induction h with
 | nil=>exact .nil
 | cons x _ ih=>exact .cons (f _ _ x) ih
theorem append {l l':List α} {m a:List β} (h:L2 R l m) (k:L2 R l' a):L2 R (l++l') (m++a):=by
 induction h with
 | nil=>exact k
 | cons x _ ih=>exact .cons x ih
theorem take {l:List α} {m:List β} (h:L2 R l m) : ∀ n,L2 R (l.take n) (m.take n):=by
 induction h with
 | nil=>intro n;simp;exact .nil
 | cons x _ ih=>intro n;cases n with
  | zero=>simp;exact .nil
  | succ n=>exact .cons x (ih n)
theorem drop {l:List α} {m:List β} (h:L2 R l m) : ∀ n,L2 R (l.drop n) (m.drop n):=by
 induction h with
 | nil=>intro n;simp;exact .nil
 | cons x t a=>intro n;cases n with
  | zero=>exact .cons x t
  | succ n=>exact a n
theorem get {l:List α} {m:List β} (h:L2 R l m) : ∀ {i:Nat} {a:α},l[i]? = some a -> ∃ b,m[i]? = some b/\R a b:=by
 induction h with
 | nil=>intro i a h;simp at h
 | cons x _ ih=>intro i a h;cases i with
  | zero=>simp at h;subst h;exact ⟨_,rfl,x⟩
  | succ i=>simp at h;obtain ⟨b,d,c⟩:=ih h;exact ⟨b,by simpa using d,c⟩
theorem set {l:List α} {m:List β} (h:L2 R l m) : ∀ (i:Nat) {a:α} {b:β},R a b->L2 R (l.set i a) (m.set i b):=by
 induction h with
 | nil=>intro i a b h;exact .nil
 | cons x t c=>intro i a b h;cases i with
  | zero=>exact .cons h t
  | succ i=>exact .cons x (c i h)
theorem replicate {a:α} {b:β} (h:R a b) : ∀ n,L2 R (List.replicate n a) (List.replicate n b)
 | 0 => .nil
 | n+1 => .cons h (replicate h n)
theorem nil_inv {m:List β} (h:L2 R [] m):m=[]:=by cases h;rfl
theorem nil_inv' {l:List α} (h:L2 R l []):l=[]:=by cases h;rfl
theorem cons_inv {a:α} {l:List α} {m:List β} (h:L2 R (a::l) m) : ∃ b t,m=b::t/\R a b/\L2 R l t:=by
 cases h with
 | cons x t=>exact ⟨_,_,rfl,x,t⟩
theorem split {l l':List α} {m:List β} (h:L2 R (l++l') m) : ∃ p q,m=p++q/\L2 R l p/\L2 R l' q:=by
 induction l generalizing m with
 | nil=>exact ⟨[],m,rfl,.nil,h⟩
 | cons a l f =>
  obtain ⟨b,t,rfl,e,d⟩:=cons_inv h;obtain ⟨p,q,rfl,g,c⟩:=f d;exact ⟨b::p,q,rfl,.cons e g,c⟩
end L2
def EP {α:Type} (g:Bool) (D:α->List PV->Prop) (x:α) (e:PV):Prop:=match g with
 | true => ∃ cs,e = .agg cs/\D x cs
 | false=>D x [e]
def DP:(c:Ty)->c.den->List PV->Prop
 | .int k,n,ps=>ps=[.int k n]
 | .bool,b,ps=>ps=[.bool b]
 | .str,s,ps=>ps=[.str s]
 | .unit,_,ps=>ps=[]
 | .pair a b,x,ps => ∃ p q,ps=p++q/\DP a x.1 p/\DP b x.2 q
 | .sl g c,l,ps => ∃ p,ps=[p]/\((p = .nils/\l=[]) \/ ∃ f es,p = .lst f es/\L2 (EP g (DP c)) l es)
def DR (h:Hp) (Q:Nat->Prop):(c:Ty)->c.den->List PV->Prop
 | .int k,n,ps=>ps=[.int k n]
 | .bool,b,ps=>ps=[.bool b]
 | .str,s,ps=>ps=[.str s]
 | .unit,_,ps=>ps=[]
 | .pair a b,x,ps => ∃ p q,ps=p++q/\DR h Q a x.1 p/\DR h Q b x.2 q
 | .sl g c,l,ps => ∃ p,ps=[p]/\((p = .nils/\l=[])\/(∃ f es,p = .lst f es/\L2 (EP g (DP c)) l es) \/
   ∃ pid off len es ex fz,p = .own pid off len/\Q pid/\h.get pid=some (.row es ex fz)/\off+len<=es.length/\Pi.HD c.wd es=true/\L2 (EP g (DR h Q c)) l ((es.drop off).take len))
theorem EP.mono {α:Type} {g:Bool} {D E:α->List PV->Prop} (f : ∀ x a,D x a->E x a) {x:α} {e:PV} (h:EP g D x e):EP g E x e:=by
 cases g with
 | true=>obtain ⟨cs,c,b⟩:=h;exact ⟨cs,c,f _ _ b⟩
 | false=>exact f _ _ h
theorem DP.up {h:Hp} {Q:Nat->Prop} : ∀ {c:Ty} {x:c.den} {a:List PV},DP c x a->DR h Q c x a
 | .int _,_,_,e=>e
 | .bool,_,_,e=>e
 | .str,_,_,e=>e
 | .unit,_,_,e=>e
 | .pair _ _,_,_,⟨p,q,e,d,b⟩=>⟨p,q,e,DP.up d,DP.up b⟩
 | .sl _ _,_,_,⟨p,e,h⟩=>⟨p,e,h.elim .inl λh => .inr (.inl h)⟩
def Rows (h h':Hp) (Q b:Nat->Prop):Prop := ∀ pid es ex fz,Q pid->h.get pid=some (.row es ex fz)->(∃ a,h'.get pid=some (.row es ex a))/\b pid
theorem DR.mono {h h':Hp} {Q i:Nat->Prop} (a:Rows h h' Q i) : ∀ {c:Ty} {x:c.den} {g:List PV},DR h Q c x g->DR h' i c x g
 | .int _,_,_,e=>e
 | .bool,_,_,e=>e
 | .str,_,_,e=>e
 | .unit,_,_,e=>e
 | .pair _ _,_,_,⟨p,q,e,f,b⟩=>⟨p,q,e,DR.mono a f,DR.mono a b⟩
 | .sl _ _,_,_,⟨p,e,h⟩=>⟨p,e,by
  rcases h with h | h | ⟨pid,off,len,es,ex,fz,f,b,r,o,l,n⟩
  ·exact .inl h
  ·exact .inr (.inl h)
  ·obtain ⟨⟨d,m⟩,j⟩:=a _ _ _ _ b r
   exact .inr (.inr ⟨pid,off,len,es,ex,d,f,j,m,o,l,n.mono λ_ _ k=>k.mono λ_ _ k=>DR.mono a k⟩)⟩
inductive At where
 | blk (pid len:Nat)
 | nil
 | fz (es:List PV)
abbrev Mp:=Nat->Option At
def tj:Mp:=λ_=>none
def I1:Hp:={ m:=.lf,nx:=0 }
structure Cx where
 π:Mp
 h:Hp
 O:Nat->Prop
def Cx.pure:Cx:={ π:=tj,h:=I1,O:=λ_=>True }
def Cx.Q (X:Cx) (pid:Nat):Prop := ¬ X.O pid
mutual
def VR (X:Cx):V->PV->Prop
 | .bool b,p=>p = .bool b
 | .int k n,p=>p = .int k n
 | .str s,p=>p = .str s
 | .nilp,p=>p = .nilp
 | .nils,p=>p = .nils
 | .nilm,p=>p = .nilm
 | .nilf,p=>p = .nilf
 | .nili,p=>p = .nili
 | .agg cs,p => ∃ d,p = .agg d/\VRL X cs d
 | .tup cs,p => ∃ d,p = .tup d/\VRL X cs d
 | .lf full g c l,p=>(p = .nils/\l=[])\/(∃ f es,p = .lst f es/\(full=true->f=true)/\L2 (EP g (DP c)) l es) \/
   ∃ pid off len es ex fz,p = .own pid off len/\(full=true->ex=true/\off+len=es.length)/\X.Q pid/\X.h.get pid=some (.row es ex fz)/\off+len<=es.length/\Pi.HD c.wd es=true/\L2 (EP g (DR X.h X.Q c)) l ((es.drop off).take len)
 | .pl g c l,p=>(p = .nils/\l=[]) \/ ∃ f es,p = .lst f es/\L2 (EP g (DP c)) l es
 | .exl full es,p => ∃ f d,p = .lst f d/\(full=true->f=true)/\VRL Cx.pure es d
 | .ow id,p=>match X.π id with
  | some (.blk pid len)=>p = .own pid 0 len
  | some .nil=>p = .nils
  | some (.fz es)=>p = .lst true es
  | none=>False
 | .own id off len,p => ∃ pid n,X.π id=some (.blk pid n)/\p = .own pid off len
 | .ptr id off,p => ∃ pid n,X.π id=some (.blk pid n)/\p = .ptr pid off
 | .ept id i off,p => ∃ pid n,X.π id=some (.blk pid n)/\p = .ept pid i off
 | .aptr id off k len,p => ∃ pid n,X.π id=some (.blk pid n)/\p = .ptr pid (off+k)/\k<len
 | .view cs,p=>(∃ d,p = .view d/\VRL Cx.pure cs d) \/ ∃ pid i off es ex fz e,p = .ept pid i off/\X.Q pid/\X.h.get pid=some (.row es ex fz)/\es[i]? = some e/\VRL X cs (e.cells.drop off)
 | .pv cs,p => ∃ d,p = .view d/\VRL Cx.pure cs d
 | .fn f a b,p => ∃ j b',p = .fn f j b'/\VRL X a j/\VRL X b b'
 | .yl id,p => ∃ pid n,X.π id=some (.blk pid n)/\p = .yl pid
 | .ifc t v,p => ∃ q,p = .ifc t q/\VR X v q
 | .mp id,p => ∃ pid n,X.π id=some (.blk pid n)/\p = .mp pid
def VRL (X:Cx):List V->List PV->Prop
 | [],ps=>ps=[]
 | v::vs,ps => ∃ p a,ps=p::a/\VR X v p/\VRL X vs a
end
structure Up (X Y:Cx):Prop where
 pi : ∀ id a,X.π id=some a->Y.π id=some a
 rows:Rows X.h Y.h X.Q Y.Q
theorem Up.refl (X:Cx):Up X X:=⟨λ_ _ h=>h,λ_ _ _ _ h k=>⟨⟨_,k⟩,h⟩⟩
theorem Up.trans {X Y Z:Cx} (a:Up X Y) (b:Up Y Z):Up X Z:=⟨λid x h=>b.pi _ _ (a.pi _ _ h),λpid es ex fz h k=>by
 obtain ⟨⟨d,e⟩,c⟩:=a.rows _ _ _ _ h k
 exact b.rows _ _ _ _ c e⟩
theorem Up.pure (X:Cx):Up Cx.pure X:=⟨λ_ _ h=>(by cases h),λ_ _ _ _ h=>absurd trivial h⟩
mutual
theorem VR.mono {X Y:Cx} (u:Up X Y) : ∀ {v:V} {p:PV},VR X v p->VR Y v p
 | .bool _,_,h | .int _ _,_,h | .str _,_,h | .nilp,_,h | .nils,_,h | .nilm,_,h | .nilf,_,h | .nili,_,h=>by
  simp only [VR] at h ⊢;exact h
 | .agg cs,_,h=>by
  simp only [VR] at h ⊢;obtain ⟨s,j,d⟩:=h;exact ⟨s,j,VRL.mono u d⟩
 | .tup cs,_,h=>by
  simp only [VR] at h ⊢;obtain ⟨s,j,d⟩:=h;exact ⟨s,j,VRL.mono u d⟩
 | .lf full g c l,_,h=>by
  simp only [VR] at h ⊢;rcases h with h | h | ⟨pid,off,len,es,ex,fz,j,B,d,o,y,A,x⟩
  ·exact .inl h
  ·exact .inr (.inl h)
  ·obtain ⟨⟨m,w⟩,r⟩:=u.rows _ _ _ _ d o;exact .inr (.inr ⟨pid,off,len,es,ex,m,j,B,r,w,y,A,x.mono λ_ _ k=>k.mono λ_ _ k=>DR.mono u.rows k⟩)
 | .exl full es,_,h=>by simp only [VR] at h ⊢;exact h
 | .pl _ _ _,_,h=>by simp only [VR] at h ⊢;exact h
 | .pv _,_,h=>by simp only [VR] at h ⊢;exact h
 | .ow id,p,h=>by
  simp only [VR] at h ⊢;cases z:X.π id with
  | none=>rw [z] at h;exact h.elim
  | some a=>rw [z] at h;rw [u.pi _ _ z];exact h
 | .own id off len,_,h=>by
  simp only [VR] at h ⊢;obtain ⟨pid,n,j,d⟩:=h;exact ⟨pid,n,u.pi _ _ j,d⟩
 | .ptr id off,_,h=>by
  simp only [VR] at h ⊢;obtain ⟨pid,n,j,d⟩:=h;exact ⟨pid,n,u.pi _ _ j,d⟩
 | .ept id i off,_,h=>by
  simp only [VR] at h ⊢;obtain ⟨pid,n,j,d⟩:=h;exact ⟨pid,n,u.pi _ _ j,d⟩
 | .aptr id off k len,_,h=>by
  simp only [VR] at h ⊢;obtain ⟨pid,n,j,d⟩:=h;exact ⟨pid,n,u.pi _ _ j,d⟩
 | .view cs,_,h=>by
  simp only [VR] at h ⊢;rcases h with h | ⟨pid,i,off,es,ex,fz,e,j,d,o,y,x⟩
  ·exact .inl h
  ·obtain ⟨⟨m,w⟩,r⟩:=u.rows _ _ _ _ d o;exact .inr ⟨pid,i,off,es,ex,m,e,j,r,w,y,VRL.mono u x⟩
 | .fn f a b,_,h=>by
  simp only [VR] at h ⊢;obtain ⟨C,b',j,d,o⟩:=h;exact ⟨C,b',j,VRL.mono u d,VRL.mono u o⟩
 | .yl id,_,h=>by
  simp only [VR] at h ⊢;obtain ⟨pid,n,j,d⟩:=h;exact ⟨pid,n,u.pi _ _ j,d⟩
 | .ifc t v,_,h=>by
  simp only [VR] at h ⊢;obtain ⟨q,j,d⟩:=h;exact ⟨q,j,VR.mono u d⟩
 | .mp id,_,h=>by
  simp only [VR] at h ⊢;obtain ⟨pid,n,j,d⟩:=h;exact ⟨pid,n,u.pi _ _ j,d⟩
theorem VRL.mono {X Y:Cx} (u:Up X Y) : ∀ {vs:List V} {a:List PV},VRL X vs a->VRL Y vs a
 | [],_,h=>by simp only [VRL] at h ⊢;exact h
 | v::vs,_,h=>by
  simp only [VRL] at h ⊢;obtain ⟨p,d,c,b,e⟩:=h;exact ⟨p,d,c,VR.mono u b,VRL.mono u e⟩
end
section
variable {X:Cx}
theorem VRL.nil:VRL X [] []:=by simp [VRL]
theorem VRL.cons {v:V} {p:PV} {vs:List V} {a:List PV} (h:VR X v p) (t:VRL X vs a):VRL X (v::vs) (p::a):=by
 simp only [VRL];exact ⟨p,a,rfl,h,t⟩
theorem VRL.nil_inv {a:List PV} (h:VRL X [] a):a=[]:=by simpa [VRL] using h
theorem VRL.cons_inv {v:V} {vs:List V} {a:List PV} (h:VRL X (v::vs) a) : ∃ p b,a=p::b/\VR X v p/\VRL X vs b:=by simpa only [VRL] using h
theorem VRL.length : ∀ {vs:List V} {a:List PV},VRL X vs a->vs.length=a.length
 | [],_,h=>by rw [h.nil_inv];rfl
 | v::vs,_,h=>by obtain ⟨p,c,rfl,_,b⟩:=h.cons_inv;simp [b.length]
theorem VRL.append : ∀ {vs c:List V} {b a:List PV},VRL X vs b->VRL X c a->VRL X (vs++c) (b++a)
 | [],_,_,_,h,k=>by rw [h.nil_inv];exact k
 | v::vs,_,_,_,h,k=>by obtain ⟨p,a,rfl,e,d⟩:=h.cons_inv;exact .cons e (d.append k)
theorem VRL.take : ∀ {vs:List V} {a:List PV} (_:VRL X vs a) (n:Nat),VRL X (vs.take n) (a.take n)
 | [],_,h,n=>by rw [h.nil_inv];simpa using VRL.nil
 | v::vs,_,h,0=>by simpa using VRL.nil
 | v::vs,_,h,n+1=>by obtain ⟨p,d,rfl,c,b⟩:=h.cons_inv;exact .cons c (b.take n)
theorem VRL.drop : ∀ {vs:List V} {a:List PV} (_:VRL X vs a) (n:Nat),VRL X (vs.drop n) (a.drop n)
 | [],_,h,n=>by rw [h.nil_inv];simpa using VRL.nil
 | v::vs,_,h,0=>by simpa using h
 | v::vs,_,h,n+1=>by obtain ⟨p,c,rfl,d,b⟩:=h.cons_inv;exact b.drop n
theorem VRL.lget : ∀ {vs:List V} {a:List PV} (_:VRL X vs a) {i:Nat} {v:V},Pi.lget vs i=some v -> ∃ p,Pi.lget a i=some p/\VR X v p
 | [],_,h,i,v,e=>by simp [Pi.lget] at e
 | w::vs,_,h,i,v,e=>by
  obtain ⟨p,f,rfl,d,c⟩:=h.cons_inv;unfold Pi.lget at e ⊢;cases b:Nat.beq i 0 with
  | true=>rw [b] at e;simp at e;subst e;exact ⟨p,rfl,d⟩
  | false=>rw [b] at e;simp only [cond_false] at e ⊢;exact c.lget e
theorem VRL.lset : ∀ {vs:List V} {a:List PV} (_:VRL X vs a) (i:Nat) {v:V} {p:PV},VR X v p->VRL X (Pi.lset vs i v) (Pi.lset a i p)
 | [],_,h,i,v,p,_=>by rw [h.nil_inv];exact .nil
 | w::vs,_,h,i,v,p,hv=>by
  obtain ⟨q,e,rfl,c,b⟩:=h.cons_inv;unfold Pi.lset;cases d:Nat.beq i 0 with
  | true=>exact .cons hv b
  | false=>exact .cons c (b.lset _ hv)
theorem VRL.fput {vs xs:List V} {a b:List PV} (h:VRL X vs a) (k:VRL X xs b) (off:Nat):VRL X (Mx vs off xs) (Pi.EH a off b):=by
 unfold Mx Pi.EH;rw [<- k.length];exact (h.take off).append (k.append (h.drop _))
theorem VRL.rep {v:V} {p:PV} (h:VR X v p) : ∀ n,VRL X (List.replicate n v) (List.replicate n p)
 | 0 => .nil
 | n+1 => .cons h (VRL.rep h n)
theorem VR.cells {v:V} {p:PV} (h:VR X v p):VRL X v.cells p.cells:=by
 have d : ∀ (v:V) (p:PV),VR X v p->v.cells=[v]->p.cells=[p]->VRL X v.cells p.cells:=by
  intro v p h m e;rw [m,e];exact .cons h .nil
 cases v with
 | bool b=>simp only [VR] at h;subst h;exact d _ _ (by simp [VR]) rfl rfl
 | int k n=>simp only [VR] at h;subst h;exact d _ _ (by simp [VR]) rfl rfl
 | str k=>simp only [VR] at h;subst h;exact d _ _ (by simp [VR]) rfl rfl
 | nilp=>simp only [VR] at h;subst h;exact d _ _ (by simp [VR]) rfl rfl
 | nils=>simp only [VR] at h;subst h;exact d _ _ (by simp [VR]) rfl rfl
 | nilm=>simp only [VR] at h;subst h;exact d _ _ (by simp [VR]) rfl rfl
 | nilf=>simp only [VR] at h;subst h;exact d _ _ (by simp [VR]) rfl rfl
 | nili=>simp only [VR] at h;subst h;exact d _ _ (by simp [VR]) rfl rfl
 | agg cs=>simp only [VR] at h;obtain ⟨j,rfl,e⟩:=h;exact e
 | tup cs=>simp only [VR] at h;obtain ⟨j,rfl,e⟩:=h;exact .nil
 | lf f g c l =>
  refine d _ _ h rfl ?_;simp only [VR] at h;rcases h with ⟨rfl,_⟩ | ⟨f,es,rfl,_⟩ | ⟨pid,off,len,es,ex,fz,rfl,_⟩<;>rfl
 | pl g c l =>
  refine d _ _ h rfl ?_;simp only [VR] at h;rcases h with ⟨rfl,_⟩ | ⟨f,es,rfl,_⟩<;>rfl
 | pv cs=>refine d _ _ h rfl ?_;simp only [VR] at h;obtain ⟨_,rfl,_⟩:=h;rfl
 | exl f es =>
  refine d _ _ h rfl ?_;simp only [VR] at h;obtain ⟨f,j,rfl,_⟩:=h;rfl
 | own id off len=>refine d _ _ h rfl ?_;simp only [VR] at h;obtain ⟨_,_,_,rfl⟩:=h;rfl
 | ptr id off=>refine d _ _ h rfl ?_;simp only [VR] at h;obtain ⟨_,_,_,rfl⟩:=h;rfl
 | ept id i off=>refine d _ _ h rfl ?_;simp only [VR] at h;obtain ⟨_,_,_,rfl⟩:=h;rfl
 | aptr id off k len=>refine d _ _ h rfl ?_;simp only [VR] at h;obtain ⟨_,_,_,rfl,_⟩:=h;rfl
 | view cs =>
  refine d _ _ h rfl ?_;simp only [VR] at h;rcases h with ⟨j,rfl,_⟩ | ⟨_,_,_,_,_,_,_,rfl,_⟩<;>rfl
 | fn f a b=>refine d _ _ h rfl ?_;simp only [VR] at h;obtain ⟨_,_,rfl,_⟩:=h;rfl
 | yl id=>refine d _ _ h rfl ?_;simp only [VR] at h;obtain ⟨_,_,_,rfl⟩:=h;rfl
 | ifc t v=>refine d _ _ h rfl ?_;simp only [VR] at h;obtain ⟨_,rfl,_⟩:=h;rfl
 | mp id=>refine d _ _ h rfl ?_;simp only [VR] at h;obtain ⟨_,_,_,rfl⟩:=h;rfl
 | ow id =>
  refine d _ _ h rfl ?_;simp only [VR] at h;split at h
  ·subst h;rfl
  ·subst h;rfl
  ·subst h;rfl
  ·exact h.elim
theorem VR.norm {v:V} {p:PV} (h:VR X v p):VR X v.norm p:=by
 cases v with
 | pl g c l =>
  simp only [VR] at h;simp only [V.norm,VR];rcases h with h | ⟨f,es,b,a⟩
  ·exact .inl h
  ·exact .inr (.inl ⟨f,es,b,(λh=>by cases h),a⟩)
 | pv cs =>
  simp only [VR] at h;simp only [V.norm,VR];exact .inl h
 | _=>exact h
end
end Go.Proofs.YtfilfloanndddaaGreat.Sv
namespace Go.Proofs.YtfilfloanndddaaGreat.Sv
variable [Pi.Gl]
open Go.Proofs.YtfilfloanndddaaGreat.Pi (PV T Hp Blk DF UM PE)
section
variable {β α:Type}
theorem AZ {o:Option α} {K:α->Option β} {x:β} (e:HC o K=some x) : ∃ y,o=some y/\K y=some x:=by
 cases o with
 | none=>cases e
 | some y=>exact ⟨y,rfl,e⟩
theorem Ax {c:Bool} {K:Unit->Option β} {x:β} (e:gd c K=some x):c=true/\K ()=some x:=by
 cases c with
 | false=>cases e
 | true=>exact ⟨rfl,e⟩
theorem Ew {c:Bool} {a b:Unit->Option β} {x:β} (e:br c a b=some x):(c=true/\a ()=some x)\/(c=false/\b ()=some x):=by
 cases c with
 | false=>exact .inr ⟨rfl,e⟩
 | true=>exact .inl ⟨rfl,e⟩
theorem M9 {l:List α} {i:Nat} {K:α->Option β} {x:β} (e:ix l i K=some x) : ∃ y,l[i]? = some y/\K y=some x:=by
 unfold ix at e;split at e
 ·rename_i y a;exact ⟨y,a,e⟩
 ·cases e
theorem UW {n:Int} {K:Nat->Option β} {x:β} (e:AT n K=some x):0<=n/\K n.toNat=some x:=by
 unfold AT at e;cases h:decide (0<=n) with
 | false=>rw [h] at e;cases e
 | true=>rw [h] at e;exact ⟨of_decide_eq_true h,e⟩
theorem LP {m:Option α} {K:α->Option β} {x:β} (e:bd m K=some x) : ∃ y,m=some y/\K y=some x:=by
 cases m with
 | none=>cases e
 | some y=>exact ⟨y,rfl,e⟩
theorem C8 {c a:Ty} {l:List c.den} {K:List a.den->Option β} {x:β} (e:Ij l K=some x) : ∃ h:c=a,K (h ▸ l)=some x:=by
 unfold Ij at e;split at e
 ·rename_i h;exact ⟨h,e⟩
 ·cases e
theorem Fj {c:Bool} {a b:α} {x:α} (e:(bif c then a else b)=x):(c=true/\a=x)\/(c=false/\b=x):=by
 cases c with
 | false=>exact .inr ⟨rfl,e⟩
 | true=>exact .inl ⟨rfl,e⟩
theorem DL {c:Bool} {b:Option α} {x:α} (e:(bif c then none else b)=some x):c=false/\b=some x:=by
 cases c with
 | false=>exact ⟨rfl,e⟩
 | true=>cases e
theorem BD {c:Bool} {a:Option α} {x:α} (e:(bif c then a else none)=some x):c=true/\a=some x:=by
 cases c with
 | true=>exact ⟨rfl,e⟩
 | false=>cases e
end
section
variable {X:Cx} {β:Type} {x:β}
theorem L8 {v : Value} {a : V} (e : Mw v = some a) : ∃ p, Pi.Hq v = some p /\ VR X a p := by
  unfold Mw at e;unfold Pi.Hq;split at e
  all_goals first
    | (cases e; exact ⟨_, rfl, by simp [VR]⟩)
    | (split at e
       · rename_i h; cases e; exact ⟨.fn (.func _) [] [], if_pos h, by simp [VR, VRL]⟩
       · cases e)
    | cases e
theorem Kb : ∀ {vs:List Value} {c:List V},JH vs=some c -> ∃ b,Pi.cellsOf vs=some b/\VRL X c b
 | [],c,e=>by cases e;exact ⟨[],rfl,.nil⟩
 | v::l,c,e=>by
  unfold JH at e;split at e
  ·rename_i a i g f;cases e;obtain ⟨p,e1,h⟩:=L8 (X:=X) g;obtain ⟨b,e2,d⟩:=Kb f;exact ⟨p::b,by unfold Pi.cellsOf;rw [e1,e2],.cons h d⟩
  ·cases e
theorem RT {v:Value} {a:V} (e:SW v=some a) : ∃ p,Pi.I7 v=some p/\VR X a p:=by
 unfold SW at e;split at e
 ·rename_i cs;cases h:JH cs.toList with
  | none=>rw [h] at e;cases e
  | some j =>
   rw [h] at e;cases e;obtain ⟨c,e2,b⟩:=Kb (X:=X) h;exact ⟨.agg c,by simp only [Pi.I7,e2];rfl,by simp only [VR];exact ⟨c,rfl,b⟩⟩
 ·rename_i vs;replace e:=BD e;obtain ⟨h,e⟩:=e;cases e;exact ⟨.tup [],by simp [Pi.I7,h],by simp [VR,VRL]⟩
 ·rename_i t v;split at e
  ·rename_i p f;cases e;obtain ⟨q,e2,b⟩:=L8 (X:=X) f;exact ⟨.ifc t q,by simp only [Pi.I7,e2],by simp only [VR];exact ⟨q,rfl,b⟩⟩
  ·cases e
 ·rename_i g d i;obtain ⟨p,e2,b⟩:=L8 (X:=X) e;refine ⟨p,?_,b⟩;unfold Pi.I7;split
  ·exact absurd rfl (g _)
  ·exact absurd rfl (d _)
  ·exact absurd rfl (i _ _)
  ·exact e2
theorem Fp {P:Program} {t:TypeId} {b:List V} (e:HG P t=some b) : ∃ a,Pi.zeroCells P t=some a/\VRL X b a:=by
 unfold HG at e;split at e
 ·rename_i i hi;split at e
  ·rename_i z c;obtain ⟨a,h,r⟩:=Kb (X:=X) e;exact ⟨a,by simp only [Pi.zeroCells,hi,c];exact h,r⟩
  ·cases e
 ·cases e
theorem L9 {P:Program} {t:TypeId} {a:V} (e:Hz P t=some a) : ∃ p,Pi.E3 P t=some p/\VR X a p:=by
 unfold Hz at e;split at e
 ·rename_i i hi;split at e
  ·rename_i z b;obtain ⟨c,h,r⟩:=RT (X:=X) e;exact ⟨c,by simp only [Pi.E3,hi,b];exact h,r⟩
  ·cases e
 ·cases e
def TR (X:Cx) (t:T V) (a:T PV):Prop := ∀ k v,t.get k=some v -> ∃ p,a.get k=some p/\VR X v p
theorem TR.mono {Y:Cx} {t:T V} {a:T PV} (h:TR X t a) (u:Up X Y):TR Y t a:=λk v e=>by
 obtain ⟨p,c,b⟩:=h k v e;exact ⟨p,c,b.mono u⟩
theorem TR.put {t:T V} {a:T PV} (h:TR X t a) {d:Nat} (f:d<1048575) {v:V} {p:PV} (c:VR X v p):TR X (T.put 20 t d v) (T.put 20 a d p):=by
 have g:(2:Nat) ^ 20-1=1048575:=by decide
 intro k w e;rw [T.get_put 20 t d v k (by omega)] at e;rw [T.get_put 20 a d p k (by omega)];by_cases b:k=d
 ·rw [if_pos b] at e ⊢;cases e;exact ⟨p,rfl,c⟩
 ·rw [if_neg b] at e ⊢;exact h k w e
variable {t:T V} {tP:T PV}
theorem A6 (f:TR X t tP) {o:Operand} {K:V->Option β} (e:DZ t o K=some x) : ∃ v p,K v=some x/\Pi.GU tP o=some p/\VR X v p:=by
 unfold DZ at e;unfold Pi.GU;split at e
 ·obtain ⟨v,c,b⟩:=AZ e;obtain ⟨p,d,a⟩:=f _ _ c;exact ⟨v,p,b,by simp [d],a⟩
 ·obtain ⟨v,c,b⟩:=AZ e;obtain ⟨p,d,a⟩:=RT (X:=X) c;exact ⟨v,p,b,d,a⟩
 ·exact ⟨_,_,e,rfl,by simp [VR,VRL]⟩
 ·cases e
theorem NA (c:TR X t tP) : ∀ {b:List Operand} {K:List V->Option β},ZQ t b K=some x -> ∃ vs a,K vs=some x/\Pi.Vh tP b=some a/\VRL X vs a
 | [],K,e=>⟨[],[],e,rfl,.nil⟩
 | o::l,K,e=>by
  obtain ⟨v,p,e1,g,h⟩:=A6 c e;obtain ⟨vs,a,e2,f,d⟩:=NA c e1;exact ⟨v::vs,p::a,e2,by unfold Pi.Vh;rw [g,f],.cons h d⟩
def VRO (X:Cx):Option V->Option PV->Prop
 | none,o=>o=none
 | some v,o => ∃ p,o=some p/\VR X v p
theorem Sf (c:TR X t tP) {o:Option Operand} {K:Option V->Option β} (e:kB t o K=some x) : ∃ v p,K v=some x/\Pi.jh tP o=some p/\VRO X v p:=by
 cases o with
 | none=>exact ⟨none,none,e,rfl,rfl⟩
 | some o =>
  obtain ⟨v,p,e1,b,a⟩:=A6 c e;exact ⟨some v,some p,e1,by show (Pi.GU tP o).map some=_;rw [b];rfl,p,rfl,a⟩
def nJ (X:Cx):List (Nat×V)->List (Nat×PV)->Prop:=L2 λa b=>a.1=b.1/\VR X a.2 b.2
theorem Kc (c:TR X t tP) : ∀ {b:List (Nat×Operand)} {K:List (Nat×V)->Option β},My t b K=some x -> ∃ vs a,K vs=some x/\Pi.F6 tP b=some a/\nJ X vs a
 | [],K,e=>⟨[],[],e,rfl,.nil⟩
 | (i,o)::l,K,e=>by
  obtain ⟨v,p,e1,g,h⟩:=A6 c e;obtain ⟨vs,a,e2,f,d⟩:=Kc c e1;exact ⟨(i,v)::vs,(i,p)::a,e2,by unfold Pi.F6;rw [g,f],.cons ⟨rfl,h⟩ d⟩
theorem H0 {v:V} {p:PV} {K:Nat->Option β} (a:VR X v p) (e:Pe v K=some x) : ∃ n,K n=some x/\Pi.Lg p=some n:=by
 unfold Pe at e;split at e
 ·simp only [VR] at a;subst a;obtain ⟨c,b⟩:=UW e;exact ⟨_,b,by simp [Pi.Lg,c]⟩
 ·cases e
theorem RU {v:V} {p:PV} {K:Nat->Option β} (a:VR X v p) (e:SX v K=some x) : ∃ n,K n=some x/\Pi.K6 p=some n:=by
 unfold SX at e;split at e
 ·simp only [VR] at a;subst a;obtain ⟨c,b⟩:=UW e;exact ⟨_,b,by simp [Pi.K6,c]⟩
 ·cases e
theorem C0 {d:Nat} {v:Option V} {p:Option PV} {K:Nat->Option β} (a:VRO X v p) (e:GE d v K=some x) : ∃ n,K n=some x/\Pi.GV d p=some n:=by
 cases v with
 | none=>cases a;exact ⟨d,e,rfl⟩
 | some v=>obtain ⟨p,rfl,a⟩:=a;exact H0 a e
theorem kK {c : BinOp} {k : IntKind} {a b : Int} {K : V -> Option β} (e : mH c k a b K = some x) : ∃ v p, K v = some x /\ Pi.Y5 c k a b = some p /\ VR X v p := by
  cases c <;> simp only [mH] at e
  all_goals first
    | (exact ⟨_, _, e, rfl, by simp only [VR]; rfl⟩)
    | (obtain ⟨g, d⟩ := Ax e
       refine ⟨_, _, d, ?_, by simp only [VR]; rfl⟩;have f : (b == 0) = false := by simpa [Ay] using g
       simp only [Pi.Y5, f, cond_false]; rfl)
    | cases e
theorem RV {c : BinOp} {k : IntKind} {a b : Int} {K : V -> Option β} (e : V0 c k a b K = some x) : ∃ v p, K v = some x /\ Pi.Ng c k a b = some p /\ VR X v p := by
  cases c <;> simp only [V0] at e
  all_goals first
    | (obtain ⟨g, d⟩ := Ax e
       refine ⟨_, _, d, ?_, by simp only [VR]; rfl⟩;have f : decide (b < 0) = false := by simpa [HY] using g
       simp only [Pi.Ng, f, cond_false]; rfl)
    | cases e
theorem Hw : ∀ (a b:List UInt8),(Op.bytesLess a b||a == b) = !Op.bytesLess b a
 | [],[]=>rfl
 | [],_::_=>rfl
 | _::_,[]=>rfl
 | a::l,b::m=>by
  have g:=Hw l m;simp only [Op.bytesLess];by_cases c:a<b
  ·have d : ¬ b<a:=by rw [UInt8.lt_iff_toNat_lt] at c ⊢;omega
   have e:(b == a)=false:=by
    rw [beq_eq_false_iff_ne];intro h;subst h;exact d c
   simp [c,d,e]
  ·by_cases d:b<a
   ·have e:(a == b)=false:=by
     rw [beq_eq_false_iff_ne];intro h;subst h;exact c d
    have f:(a::l == b::m)=false:=by
     rw [List.cons_beq_cons,e];rfl
    simp [c,d,e,f]
   ·have e:a=b:=by
     apply UInt8.toNat_inj.1;rw [UInt8.lt_iff_toNat_lt] at c d;omega
    subst e;rw [List.cons_beq_cons];simp only [c,decide_false,Bool.false_or,beq_self_eq_true,Bool.true_and];exact g
theorem kL {c : BinOp} {a b : List UInt8} {K : V -> Option β} (e : mI c a b K = some x) : ∃ v p, K v = some x /\ Pi.bc c a b = some p /\ VR X v p := by
  cases c <;> simp only [mI] at e
  all_goals first
    | (refine ⟨_, _, e, rfl, ?_⟩; simp only [VR]; rfl)
    | (refine ⟨_, _, e, rfl, ?_⟩; simp only [VR]; rw [Hw]; rfl)
    | (refine ⟨_, _, e, rfl, ?_⟩; simp only [VR]; rw [Hw]; simp [Cy])
    | (obtain ⟨d, f⟩ := Ax e
       refine ⟨_, _, f, ?_, by simp only [VR]; rfl⟩;simp only [BP, Ag, Gc] at d
       simp only [Pi.bc, d, cond_true]; rfl)
    | cases e
end
end Go.Proofs.YtfilfloanndddaaGreat.Sv
namespace Go.Proofs.YtfilfloanndddaaGreat.Sv
variable [Pi.Gl]
open Go.Proofs.YtfilfloanndddaaGreat.Pi (PV T Hp Blk DF UM PE)
section
variable {X:Cx} {β:Type} {x:β} {P:Program}
theorem Ed {t:TypeId} {cs:List V} {a:List PV} {v:V} (h:VRL X cs a) (e:JI P t cs=some v) : ∃ p,Pi.part P t a=some p/\VR X v p:=by
 unfold JI at e;split at e
 ·rename_i n c b;replace e:=BD e;obtain ⟨d,e⟩:=e;cases e;refine ⟨.agg (a.take n),?_,by simp only [VR];exact ⟨_,rfl,h.take n⟩⟩;unfold Pi.part;simp only [c,b];rw [<- h.length,d];rfl
 ·rename_i c b;split at e
  ·cases e;obtain ⟨p,f,rfl,r,_⟩:=h.cons_inv;exact ⟨p,by unfold Pi.part;simp only [c,b],r⟩
  ·cases e
 ·cases e
theorem VR.agg_inv {cs:List V} {p:PV} (h:VR X (.agg cs) p) : ∃ a,p = .agg a/\VRL X cs a:=by simpa only [VR] using h
mutual
theorem N4 : ∀ (d:Nat) {t:TypeId} {a b:V} {c:Bool} {p q:PV},VR X a p->VR X b q->kC P d t a b=some c->Pi.Xt P d t p q=some c
 | 0,_,_,_,_,_,_,_,_,e=>by simp [kC] at e
 | d+1,t,a,b,c,p,q,g,f,e=>by
  unfold kC at e;unfold Pi.Xt;split at e
  all_goals (try simp only [*])
  ·split at e
   ·simp only [VR] at g f;subst g;subst f;exact e
   ·cases e
  ·split at e
   ·simp only [VR] at g f;subst g;subst f;exact e
   ·cases e
  ·split at e
   ·simp only [VR] at g f;subst g;subst f;exact e
   ·cases e
  ·split at e
   all_goals first
    | (simp only [VR] at g f;subst g;subst f;exact e)
    | (simp only [VR] at g f;obtain ⟨_,_,_,rfl⟩:=g;subst f;exact e)
    | (simp only [VR] at g f;obtain ⟨_,_,_,rfl⟩:=f;subst g;exact e)
    | (simp only [VR] at g f;subst g;rcases f with ⟨_,rfl,_⟩ | ⟨_,_,_,_,_,_,_,rfl,_⟩<;>exact e)
    | (simp only [VR] at g f;subst f;rcases g with ⟨_,rfl,_⟩ | ⟨_,_,_,_,_,_,_,rfl,_⟩<;>exact e)
    | (simp only [VR] at g f;subst g;obtain ⟨_,rfl,_⟩:=f;exact e)
    | (simp only [VR] at g f;subst f;obtain ⟨_,rfl,_⟩:=g;exact e)
    | cases e
  ·split at e
   ·simp only [VR] at g f;subst g;subst f;exact e
   ·simp only [VR] at g f;subst g;obtain ⟨_,_,rfl,_⟩:=f;exact e
   ·simp only [VR] at g f;subst f;obtain ⟨_,_,rfl,_⟩:=g;exact e
   ·simp only [VR] at g f;subst g;rcases f with ⟨_,h⟩ | ⟨_,_,rfl,_⟩ | ⟨_,_,_,_,_,_,rfl,_⟩
    ·cases h
    ·exact e
    ·exact e
   ·simp only [VR] at g f;subst f;rcases g with ⟨_,h⟩ | ⟨_,_,rfl,_⟩ | ⟨_,_,_,_,_,_,rfl,_⟩
    ·cases h
    ·exact e
    ·exact e
   ·simp only [VR] at g f;subst g;rcases f with ⟨_,h⟩ | ⟨_,_,rfl,_⟩
    ·cases h
    ·exact e
   ·simp only [VR] at g f;subst f;rcases g with ⟨_,h⟩ | ⟨_,_,rfl,_⟩
    ·cases h
    ·exact e
   ·simp only [VR] at g f;subst g;obtain ⟨_,_,_,rfl⟩:=f;exact e
   ·simp only [VR] at g f;subst f;obtain ⟨_,_,_,rfl⟩:=g;exact e
   ·cases e
  ·split at e
   all_goals first
    | (simp only [VR] at g f;subst g;subst f;exact e)
    | (simp only [VR] at g f;obtain ⟨_,_,rfl,_⟩:=g;subst f;exact e)
    | (simp only [VR] at g f;obtain ⟨_,_,rfl,_⟩:=f;subst g;exact e)
    | cases e
  ·split at e
   ·simp only [VR] at g f;subst g;subst f;exact e
   ·simp only [VR] at g f;subst g;obtain ⟨_,rfl,_⟩:=f;exact e
   ·simp only [VR] at g f;subst f;obtain ⟨_,rfl,_⟩:=g;exact e
   ·simp only [VR] at g f;obtain ⟨o,rfl,g⟩:=g;obtain ⟨b',rfl,f⟩:=f;rcases Fj e with ⟨h,e⟩ | ⟨h,e⟩
    ·simp only [h,cond_true];split at e
     ·rename_i i hi;replace e:=BD e;obtain ⟨m,e⟩:=e;simp only [hi,m,cond_true];exact N4 d g f e
     ·cases e
    ·simp only [h,cond_false];exact e
   ·cases e
  ·split at e
   ·obtain ⟨l,rfl,j⟩:=g.agg_inv;obtain ⟨n,rfl,k⟩:=f.agg_inv;replace e:=DL e;obtain ⟨h,e⟩:=e;simp only [h,cond_false];exact Sh d j k e
   ·cases e
  ·split at e
   ·obtain ⟨l,rfl,j⟩:=g.agg_inv;obtain ⟨n,rfl,k⟩:=f.agg_inv;replace e:=BD e;obtain ⟨h,e⟩:=e;simp only [h,cond_true];exact YG d j k e
   ·cases e
theorem Sh : ∀ (d:Nat) {g:List Field} {a b:List V} {c:Bool} {p q:List PV},VRL X a p->VRL X b q->V1 P d g a b=some c->Pi.Qm P d g p q=some c
 | 0,_,_,_,_,_,_,_,_,e=>by simp [V1] at e
 | d+1,[],_,_,_,_,_,_,_,e=>by simpa [V1,Pi.Qm] using e
 | d+1,f::g,a,b,c,p,q,ha,hb,e=>by
  unfold V1 at e;unfold Pi.Qm;rcases Fj e with ⟨h,e⟩ | ⟨h,e⟩
  ·simp only [h,cond_true];exact Sh d ha hb e
  ·simp only [h,cond_false];split at e
   ·rename_i u v o n;obtain ⟨t,k,l⟩:=Ed (ha.drop f.offset) o;obtain ⟨s,j,i⟩:=Ed (hb.drop f.offset) n;split at e
    ·rename_i m r e1 e2;simp only [k,j,N4 d l i e1];cases e;cases m with
     | true=>simpa [Az] using Sh d ha hb e2
     | false=>simp [Az]
    ·cases e
   ·cases e
theorem YG : ∀ (d:Nat) {n:Nat} {t:TypeId} {a b:List V} {c:Bool} {p q:List PV},VRL X a p->VRL X b q->ZR P d n t a b=some c->Pi.R9 P d n t p q=some c
 | 0,_,_,_,_,_,_,_,_,_,e=>by simp [ZR] at e
 | d+1,0,_,_,_,_,_,_,_,_,e=>by simpa [ZR,Pi.R9] using e
 | d+1,n+1,t,a,b,c,p,q,ha,hb,e=>by
  unfold ZR at e;unfold Pi.R9;split at e
  ·rename_i s u v hs l k;obtain ⟨r,h,i⟩:=Ed ha l;obtain ⟨o,g,f⟩:=Ed hb k;split at e
   ·rename_i j m e1 e2;simp only [hs,h,g,N4 d i f e1];cases e;cases j with
    | true=>simpa [Az] using YG d (ha.drop s) (hb.drop s) e2
    | false=>simp [Az]
   ·cases e
  ·cases e
end
theorem Pq {a:BinOp} {c:Bool} {K:V->Option β} (e:(match a with
  | .eql=>K (.bool c)
  | .neq=>K (.bool (Ad c))
  | _=>none)=some x) {o:Option Bool} (b:o=some c) : ∃ v p,K v=some x/\(match a with
  | .eql=>o.map .bool
  | .neq=>o.map λr => .bool (!r)
  | _=>none)=some p/\VR X v p:=by
 subst b;cases a<;>simp only at e ⊢
 all_goals first
  | (exact ⟨_,_,e,rfl,by simp [VR,Ad]⟩)
  | cases e
theorem MA {c:BinOp} {ty:TypeId} {p q:PV} (f : ∀ k n d m,¬(p = .int k n/\q = .int d m)) (e : ∀ a b,¬(p = .str a/\q = .str b)):Pi.Qn P c ty p q=(match c with
  | .eql=>(Pi.Xt P Pi.K4 ty p q).map .bool
  | .neq=>(Pi.Xt P Pi.K4 ty p q).map λr => .bool (!r)
  | _=>none):=by
 unfold Pi.Qn;split
 ·exact absurd ⟨rfl,rfl⟩ (f _ _ _ _)
 ·exact absurd ⟨rfl,rfl⟩ (e _ _)
 ·rfl
theorem VR.inv {v:V} {p:PV} (h:VR X v p):(∀ k n,p = .int k n->v = .int k n)/\(∀ l,p = .str l->v = .str l)/\(p = .nili->v = .nili)/\(∀ cs,p = .agg cs -> ∃ i,v = .agg i):=by
 cases v with
 | agg cs=>exact ⟨λ_ _ e=>by simp [VR,e] at h,λ_ e=>by simp [VR,e] at h,λe=>by simp [VR,e] at h,λ_ _=>⟨_,rfl⟩⟩
 | ow id =>
  simp only [VR] at h;split at h
  ·subst h;simp
  ·subst h;simp
  ·subst h;simp
  ·exact h.elim
 | lf f g c l =>
  simp only [VR] at h;rcases h with ⟨rfl,_⟩ | ⟨_,_,rfl,_⟩ | ⟨_,_,_,_,_,_,rfl,_⟩<;>simp
 | view cs =>
  simp only [VR] at h;rcases h with ⟨_,rfl,_⟩ | ⟨_,_,_,_,_,_,_,rfl,_⟩<;>simp
 | pl g c l=>simp only [VR] at h;rcases h with ⟨rfl,_⟩ | ⟨_,_,rfl,_⟩<;>simp
 | pv cs=>simp only [VR] at h;obtain ⟨_,rfl,_⟩:=h;simp
 | tup cs=>simp only [VR] at h;obtain ⟨_,rfl,_⟩:=h;simp
 | exl f cs=>simp only [VR] at h;obtain ⟨_,_,rfl,_⟩:=h;simp
 | own a b c=>simp only [VR] at h;obtain ⟨_,_,_,rfl⟩:=h;simp
 | ptr a b=>simp only [VR] at h;obtain ⟨_,_,_,rfl⟩:=h;simp
 | ept a b c=>simp only [VR] at h;obtain ⟨_,_,_,rfl⟩:=h;simp
 | aptr a b c d=>simp only [VR] at h;obtain ⟨_,_,_,rfl,_⟩:=h;simp
 | fn a b c=>simp only [VR] at h;obtain ⟨_,_,rfl,_⟩:=h;simp
 | yl a=>simp only [VR] at h;obtain ⟨_,_,_,rfl⟩:=h;simp
 | mp a=>simp only [VR] at h;obtain ⟨_,_,_,rfl⟩:=h;simp
 | ifc a b=>simp only [VR] at h;obtain ⟨_,rfl,_⟩:=h;simp
 | _=>simp only [VR] at h;subst h;simp
theorem DC {o:Option PV} {h:Hp} {p:PV} (e:o=some p):Pi.vl o h=some (.val p h):=by rw [e];rfl
theorem kM {h:Hp} {t:BinOp} {ty:TypeId} {u w:Operand} {a b:V} {p q:PV} {K:V->Option β} (i:VR X a p) (j:VR X b q) (e:mJ P t ty u w a b K=some x) :
  ∃ v r,K v=some x/\Pi.Ia P h t ty u w p q=some (.val r h)/\VR X v r:=by
 unfold mJ at e;split at e
 ·simp only [VR] at i j;subst i;subst j;split at e
  ·obtain ⟨v,r,f,d,g⟩:=RV (X:=X) e;exact ⟨v,r,f,DC (by simpa [Pi.Qn] using d),g⟩
  ·obtain ⟨v,r,f,d,g⟩:=RV (X:=X) e;exact ⟨v,r,f,DC (by simpa [Pi.Qn] using d),g⟩
  ·rename_i n1 n2;replace e:=BD e;obtain ⟨B,e⟩:=e;obtain ⟨v,r,f,d,g⟩:=kK (X:=X) e;refine ⟨v,r,f,DC ?_,g⟩;unfold Pi.Qn;cases t<;>first | exact absurd rfl n1 | exact absurd rfl n2 | (simp only [B,cond_true];exact d)
 ·simp only [VR] at i j;subst i;subst j;obtain ⟨v,r,f,d,g⟩:=kL (X:=X) e;exact ⟨v,r,f,DC d,g⟩
 ·replace e:=BD e;obtain ⟨hc,e⟩:=e;obtain ⟨c,f,e⟩:=AZ e;obtain ⟨v,r,e1,d,g⟩:=Pq (X:=X) e (N4 64 i j f);simp only [VR] at i j;subst i;subst j;refine ⟨v,r,e1,?_,g⟩;unfold Pi.Ia;simp only [hc,cond_true];exact DC (by rw [MA (by simp) (by simp)];exact d)
 ·rename_i F E;replace e:=DL e;obtain ⟨hc,e⟩:=e;obtain ⟨c,f,e⟩:=AZ e;obtain ⟨v,r,e1,d,g⟩:=Pq (X:=X) e (N4 64 i j f);obtain ⟨D,rfl,y⟩:=i.agg_inv;obtain ⟨I,rfl,z⟩:=j.agg_inv;refine ⟨v,r,e1,?_,g⟩;unfold Pi.Ia;simp only [hc,cond_false];exact DC (by rw [MA (by simp) (by simp)];exact d)
 ·rename_i n1 n2 n3 n4;obtain ⟨c,f,e⟩:=AZ e;obtain ⟨v,r,e1,d,g⟩:=Pq (X:=X) e (N4 64 i j f);refine ⟨v,r,e1,?_,g⟩;have s:=i.inv;have o:=j.inv;unfold Pi.Ia;split
  ·exact absurd (o.2.2.1 rfl) (n3 (s.2.2.1 rfl))
  ·obtain ⟨_,C⟩:=s.2.2.2 _ rfl;obtain ⟨_,A⟩:=o.2.2.2 _ rfl;exact absurd A (n4 _ _ C)
  ·refine DC ?_;rw [MA (λk n G m hh=>n1 _ _ _ _ (s.1 _ _ hh.1) (o.1 _ _ hh.2)) (λl m hh=>n2 _ _ (s.2.1 _ hh.1) (o.2.1 _ hh.2))];exact d
theorem mS {c:UnOp} {a:V} {p:PV} {K:V->Option β} (b:VR X a p) (e:pj c a K=some x) : ∃ v r,K v=some x/\Pi.pJ c p=some r/\VR X v r:=by
 unfold pj at e;split at e
 ·simp only [VR] at b;subst b;split at e
  ·exact ⟨_,_,e,rfl,by simp [VR,Ad]⟩
  ·cases e
 ·simp only [VR] at b;subst b;split at e
  ·exact ⟨_,_,e,rfl,by simp [VR,nU]⟩
  ·cases e
 ·cases e
theorem YH : ∀ {es:List V} {a:List PV} {K:List UInt8->Option β},VRL Cx.pure es a->kD es K=some x -> ∃ l,K l=some x/\Pi.mA a=some l
 | [],a,K,hv,e=>by
  simp only [VRL] at hv;subst hv;exact ⟨[],e,rfl⟩
 | v::es,a,K,hv,e=>by
  unfold kD at e;split at e
  ·rename_i h;cases h
  ·rename_i n l h;cases h;obtain ⟨p,d,rfl,b,c⟩:=hv.cons_inv;simp only [VR] at b;subst b;obtain ⟨l,e1,e2⟩:=YH c e;exact ⟨_,e1,by unfold Pi.mA;rw [e2];rfl⟩
  ·cases e
theorem UX {h:Hp} {s d:TypeId} {a:V} {p:PV} {K:V->Option β} (b:VR X a p) (e:Pj P s d a K=some x) : ∃ v r,K v=some x/\Pi.Dc P h s d p=some (.val r h)/\VR X v r:=by
 unfold Pj at e;unfold Pi.Dc;split at e
 ·rename_i g c;simp only [VR] at b;subst b;exact ⟨_,_,e,by simp only [g,c];rfl,by simp [VR,tY]⟩
 ·rename_i g c;simp only [VR] at b;subst b;exact ⟨_,_,e,by simp only [g,c];rfl,by simp [VR]⟩
 ·rename_i f es m g c;split at e
  ·rename_i j;simp only [VR] at b;obtain ⟨n,k,rfl,_,i⟩:=b;obtain ⟨l,e1,e2⟩:=YH i e;exact ⟨_,.str l,e1,by simp only [g,c,j,e2],by simp [VR]⟩
  ·cases e
 ·cases e
theorem kN {h:Hp} {ty:TypeId} {a:V} {p:PV} {K:V->Option β} (c:VR X a p) (e:mO P ty a K=some x) : ∃ v r,K v=some x/\Pi.KC P h ty p=some (.val r h)/\VR X v r:=by
 unfold mO at e;unfold Pi.KC;split at e
 ·cases e
 ·rename_i u b hh;refine ⟨_,.ifc ty p,e,?_,by simp only [VR];exact ⟨p,rfl,c⟩⟩;rw [hh];cases u<;>first | exact absurd rfl (b _) | rfl
 ·cases e
theorem kO {h:Hp} {a:V} {p:PV} {K:V->Option β} (b:VR X a p) (e:mN a K=some x) : ∃ v r,K v=some x/\Pi.KO h p=some (.val r h)/\VR X v r:=by
 unfold mN at e;split at e
 ·refine ⟨_,p,e,?_,b⟩;simp only [VR] at b;obtain ⟨_,rfl,_⟩:=b;rfl
 ·refine ⟨_,p,e,?_,b⟩;simp only [VR] at b;obtain ⟨_,_,_,rfl⟩:=b;rfl
 ·refine ⟨_,p,e,?_,b⟩;simp only [VR] at b;obtain ⟨_,_,_,rfl⟩:=b;rfl
 ·refine ⟨_,p,e,?_,b⟩;simp only [VR] at b;rcases b with ⟨_,rfl,_⟩ | ⟨_,_,_,_,_,_,_,rfl,_⟩<;>rfl
 ·refine ⟨_,p,e,?_,b⟩;simp only [VR] at b;obtain ⟨_,rfl,_⟩:=b;rfl
 ·refine ⟨_,p,e,?_,b⟩;simp only [VR] at b;obtain ⟨_,_,_,rfl⟩:=b;rfl
 ·refine ⟨_,p,e,?_,b⟩;simp only [VR] at b;obtain ⟨_,_,rfl,_⟩:=b;rfl
 ·cases e
theorem ZT {h:Hp} {ty:TypeId} {a:V} {p:PV} {f:Nat} {K:V->Option β} (c:VR X a p) (e:V6 P ty a f K=some x) : ∃ v r,K v=some x/\Pi.F9 P h ty p f=some (.val r h)/\VR X v r:=by
 unfold V6 at e;split at e
 ·rename_i m cs k;obtain ⟨n,rfl,b⟩:=c.agg_inv;split at e
  ·rename_i j d;obtain ⟨v,i,e⟩:=AZ e;obtain ⟨r,g,l⟩:=Ed (b.drop j.offset) i;exact ⟨v,r,e,by unfold Pi.F9;simp only [k,d];exact DC g,l⟩
  ·cases e
 ·cases e
end
end Go.Proofs.YtfilfloanndddaaGreat.Sv
namespace Go.Proofs.YtfilfloanndddaaGreat.Sv
variable [Pi.Gl]
open Go.Proofs.YtfilfloanndddaaGreat.Pi (PV T Hp Blk DF UM PE)
def DFR (X:Cx):DFA->DF->Prop
 | .call f args,d => ∃ c a,d = .call c a/\VR X f c/\VRL X args a
 | .bi b ats ty args,d => ∃ a,d = .bi b ats ty a/\VRL X args a
 | .col id,d => ∃ pid n,X.π id=some (.blk pid n)/\d = .col pid
theorem DFR.mono {X Y:Cx} (u:Up X Y) : ∀ {a:DFA} {d:DF},DFR X a d->DFR Y a d
 | .call _ _,_,⟨f,e,c,b,g⟩=>⟨f,e,c,b.mono u,g.mono u⟩
 | .bi _ _ _ _,_,⟨e,c,b⟩=>⟨e,c,b.mono u⟩
 | .col _,_,⟨pid,n,c,b⟩=>⟨pid,n,u.pi _ _ c,b⟩
def MR (X:Cx) (k:Ty) (g:Bool) (c:Ty) (u:k.den×c.den) (w:PV×PV):Prop:=DP k u.1 [w.1]/\EP g (DR X.h X.Q c) u.2 w.2
def BR (X:Cx):BA->Option At->Prop
 | .box cs fz _,a => ∃ pid n f b,a=some (.blk pid n)/\X.O pid/\X.h.get pid=some (.box f b)/\(fz=false->b=false)/\VRL X cs f
 | .row g c l ex fz _,a=>(∃ pid len es b,a=some (.blk pid len)/\X.O pid/\X.h.get pid=some (.row es ex b)/\(fz=false->b=false)/\es.length=len/\(ex=false->0<len)/\L2 (EP g (DR X.h X.Q c)) l es) \/
   (a=some .nil/\ex=false/\l=[]) \/ ∃ es,a=some (.fz es)/\ex=false/\(fz=true\/l=[])/\L2 (EP g (DP c)) l es
 | .mp k g c l _,a => ∃ pid n es,a=some (.blk pid n)/\X.O pid/\X.h.get pid=some (.mp es)/\L2 (MR X k g c) l es
 | .lp st pend nt t f asg body d,a => ∃ pid n j i m,a=some (.blk pid n)/\X.O pid/\X.h.get pid=some (.lp st pend nt j f asg body i)/\TR X t j/\X.π d=some (.blk i m)/\nt<1048575
 | .df ds,a => ∃ pid n e,a=some (.blk pid n)/\X.O pid/\X.h.get pid=some (.df e)/\(match ds,e with
  | none,none=>True
  | some l,some m=>L2 (DFR X) l m
  | _,_=>False)
 | .dead,a => ∀ pid m,a=some (.blk pid m)->X.O pid/\X.h.get pid=some .dead
theorem EDR.mono {X Y:Cx} (u:Up X Y) {g:Bool} {c:Ty} {l:List c.den} {es:List PV} (h:L2 (EP g (DR X.h X.Q c)) l es):L2 (EP g (DR Y.h Y.Q c)) l es :=
 h.mono λ_ _ k=>k.mono λ_ _ k=>DR.mono u.rows k
theorem BR.keep {X Y:Cx} (u:Up X Y) {b:BA} {a:Option At} (h:BR X b a) (k : ∀ pid n,a=some (.blk pid n)->X.O pid->Y.h.get pid=X.h.get pid/\Y.O pid):BR Y b a:=by
 cases b with
 | box cs fz z =>
  obtain ⟨pid,n,y,r,f,i,q,o,s⟩:=h;obtain ⟨j,p⟩:=k _ _ f i;exact ⟨pid,n,y,r,f,p,by rw [j,q],o,s.mono u⟩
 | row g c l ex fz z =>
  rcases h with ⟨pid,len,es,r,f,i,q,o,s,F,w⟩ | h | h
  ·obtain ⟨j,p⟩:=k _ _ f i;exact .inl ⟨pid,len,es,r,f,p,by rw [j,q],o,s,F,EDR.mono u w⟩
  ·exact .inr (.inl h)
  ·exact .inr (.inr h)
 | mp J g c l z =>
  obtain ⟨pid,n,es,f,i,q,o⟩:=h;obtain ⟨j,p⟩:=k _ _ f i;exact ⟨pid,n,es,f,p,by rw [j,q],o.mono λ_ _ m=>⟨m.1,m.2.mono λ_ _ k=>DR.mono u.rows k⟩⟩
 | lp G A nt t y C B d =>
  obtain ⟨pid,n,D,E,m,f,i,q,o,s,w⟩:=h;obtain ⟨j,p⟩:=k _ _ f i;exact ⟨pid,n,D,E,m,f,p,by rw [j,q],o.mono u,u.pi _ _ s,w⟩
 | df I =>
  obtain ⟨pid,n,x,f,i,q,o⟩:=h;obtain ⟨j,p⟩:=k _ _ f i;refine ⟨pid,n,x,f,p,by rw [j,q],?_⟩;split at o
  ·trivial
  ·exact o.mono λ_ _ m=>m.mono u
  ·exact o.elim
 | dead =>
  intro pid m e;obtain ⟨f,i⟩:=h pid m e;obtain ⟨j,p⟩:=k _ _ e f;exact ⟨p,by rw [j,i]⟩
def BA.live:BA->Prop
 | .dead=>False
 | _=>True
theorem BR.own {X:Cx} {b:BA} {pid n:Nat} (h:BR X b (some (.blk pid n))) (m:b.live):X.O pid:=by
 cases b with
 | box cs fz f=>obtain ⟨_,_,_,_,a,e,_⟩:=h;cases a;exact e
 | row g c l ex fz f =>
  rcases h with ⟨_,_,_,_,a,e,_⟩ | ⟨a,_⟩ | ⟨_,a,_⟩
  ·cases a;exact e
  ·cases a
  ·cases a
 | mp q g c l f=>obtain ⟨_,_,_,a,e,_⟩:=h;cases a;exact e
 | lp r i nt t o k j d=>obtain ⟨_,_,_,_,_,a,e,_⟩:=h;cases a;exact e
 | df p=>obtain ⟨_,_,_,a,e,_⟩:=h;cases a;exact e
 | dead=>exact m.elim
theorem BR.nd {X:Cx} {b:BA} {pid n:Nat} (h:BR X b (some (.blk pid n))) (m:b.live):X.h.get pid≠some .dead:=by
 cases b with
 | box cs fz f=>obtain ⟨_,_,_,_,a,_,e,_⟩:=h;cases a;rw [e];simp
 | row g c l ex fz f =>
  rcases h with ⟨_,_,_,_,a,_,e,_⟩ | ⟨a,_⟩ | ⟨_,a,_⟩
  ·cases a;rw [e];simp
  ·cases a
  ·cases a
 | mp q g c l f=>obtain ⟨_,_,_,a,_,e,_⟩:=h;cases a;rw [e];simp
 | lp r i nt t o k j d=>obtain ⟨_,_,_,_,_,a,_,e,_⟩:=h;cases a;rw [e];simp
 | df p=>obtain ⟨_,_,_,a,_,e,_⟩:=h;cases a;rw [e];simp
 | dead=>exact m.elim
structure RH (X:Cx) (h:H) (n:Nat):Prop where
 blk : ∀ id b,h.get id=some b->BR X b (X.π id)
 inj : ∀ id id' b b' pid m m',h.get id=some b->h.get id'=some b'->b.live->b'.live->X.π id=some (.blk pid m)->X.π id'=some (.blk pid m')->id=id'
 dom : ∀ id a,X.π id=some a->id<n
 fresh : ∀ pid,X.h.nx<=pid->X.h.get pid=none
 ob : ∀ q,X.O q->X.h.get q≠none
theorem Au {h:H} {id:Nat} (a:id<1048575) {b:BA} {k:Nat}:(Ai h id b).get k=if k=id then some b else h.get k:=by
 have c:(2:Nat) ^ 20-1=1048575:=by decide
 exact T.get_put 20 h id b k (by omega)
structure St (X:Cx) (h:H) (id idP:Nat) (Y:Cx) (h':H):Prop where
 up:Up X Y
 nx:Y.h.nx=X.h.nx
 pin : ∀ j,j≠id->X.π j=none->Y.π j=none
 hpn : ∀ q,q≠idP->X.h.get q=none->Y.h.get q=none
 lk : ∀ j b,h.get j=some b->b.locked=true->h'.get j=some b
 lps : ∀ q st pe nt t ps asg body d,X.h.get q=some (.lp st pe nt t ps asg body d)->Y.h.get q=some (.lp st pe nt t ps asg body d)
set_option linter.unusedVariables false
theorem St.refl (X:Cx) (h:H) (id idP:Nat):St X h id idP X h:=⟨Up.refl X,rfl,λ_ _ h=>h,λ_ _ h=>h,λ_ _ h _=>h,λ_ _ _ _ _ _ _ _ _ h=>h⟩
theorem St.trans {X Y Z:Cx} {h h' h'':H} {id idP:Nat} (a:St X h id idP Y h') (b:St Y h' id idP Z h''):St X h id idP Z h'' :=
 ⟨a.up.trans b.up,b.nx.trans a.nx,λj c k=>b.pin j c (a.pin j c k),λj c k=>b.hpn j c (a.hpn j c k),λj x k l=>b.lk j x (a.lk j x k l) l,
  λq m i nt t g f e d k=>b.lps _ _ _ _ _ _ _ _ _ (a.lps _ _ _ _ _ _ _ _ _ k)⟩
def IX {α:Type} (f:Nat->α) (i:Nat) (a:α):Nat->α:=λj=>if j=i then a else f j
section
variable {X:Cx} {h:H} {n:Nat}
theorem RH.set (r:RH X h n) {id pid m:Nat} {b b':BA} {bP z:Blk} {f:Hp} (o:id<1048575) (s:h.get id=some b) (C:b.live) (hk:b.locked=false) (L:X.π id=some (.blk pid m)) (g:X.h.get pid=some z)
  (I : ∀ W S nt t P x l d,z ≠ .lp W S nt t P x l d)
  (e:X.h.set pid bP=some f) (hb : ∀ Y:Cx,Y.π=X.π->Y.h=f->Y.O=X.O->Up X Y->BR Y b' (X.π id)) (J:Nat) :
  ∃ Y:Cx,Y.π=X.π/\Y.h=f/\Y.O=X.O/\RH Y (Ai h id b') n /\ ∀ i,St X h i J Y (Ai h id b'):=by
 obtain ⟨p,g2⟩:=Hp.get_set e;have hO:X.O pid:=(L ▸ r.blk _ _ s).own C
 let Y:Cx:={ π:=X.π,h:=f,O:=X.O }
 have u:Up X Y:=⟨λ_ _ h=>h,λq es ex fz a hg=>⟨⟨fz,by
  show f.get q=_
  rw [p,if_neg (by intro hh;subst hh;exact a hO),hg]⟩,a⟩⟩
 refine ⟨Y,rfl,rfl,rfl,⟨λi D hi => ?_,λi U D bb' q m1 m2 hi c N l2 => ?_,r.dom,λq a => ?_,λq a=>by
  show f.get q≠none;rw [p];split
  ·simp
  ·exact r.ob _ a⟩,λi=>⟨u,g2,λ_ _ h=>h,λq a Z => ?_,λj D K A => ?_,λq W S nt t P x l d a => ?_⟩⟩
 ·rw [Au o] at hi;by_cases k:i=id
  ·rw [if_pos k] at hi;cases hi;subst k;exact hb Y rfl rfl rfl u
  ·rw [if_neg k] at hi;by_cases B:D.live
   ·refine (r.blk _ _ hi).keep u λq m' a M=>⟨?_,M⟩;show f.get q=_;rw [p,if_neg];intro hh;subst hh;exact k (r.inj _ _ _ _ _ _ _ hi s B C a L)
   ·cases D with
    | dead =>
     intro q m' a;obtain ⟨k1,k2⟩:=r.blk _ _ hi q m' a;refine ⟨k1,?_⟩;show f.get q=_;rw [p,if_neg]
     ·exact k2
     ·intro hh;subst hh;exact (L ▸ r.blk _ _ s).nd C k2
    | _=>exact absurd trivial B
 ·rw [Au o] at hi c;by_cases E:i=id
  ·by_cases w:U=id
   ·intro _ _;rw [E,w]
   ·rw [if_neg w] at c;subst E;intro G F;exact r.inj _ _ _ _ _ _ _ s c C l2 G F
  ·rw [if_neg E] at hi;by_cases w:U=id
   ·subst w;intro G F;exact r.inj _ _ _ _ _ _ _ hi s N C G F
   ·rw [if_neg w] at c;exact r.inj _ _ _ _ _ _ _ hi c N l2
 ·show f.get q=none;have y:X.h.nx<=q:=by rw [<- g2];exact a
  rw [p,if_neg (by intro hh;subst hh;rw [r.fresh _ y] at g;cases g)];exact r.fresh _ y
 ·show f.get q=none;rw [p,if_neg (by intro hh;subst hh;rw [Z] at g;cases g)];exact Z
 ·rw [Au o];rw [if_neg (by intro hh;subst hh;rw [s] at K;cases K;rw [hk] at A;cases A)];exact K
 ·show f.get q=_;rw [p,if_neg (by intro hh;subst hh;rw [g] at a;exact I _ _ _ _ _ _ _ _ (Option.some.inj a))];exact a
theorem RH.new (r:RH X h n) {id pid m:Nat} {b:BA} {bP:Blk} {C:Hp} (F:id<1048575) (W:id<n) (hp:X.π id=none) (hlt:pid<X.h.nx)
  (e:X.h.new pid bP=some C) (hb : ∀ Y:Cx,Y.π=Sv.IX X.π id (some (.blk pid m))->Y.h=C->(∀ q,Y.O q<->X.O q\/q=pid)->Up X Y->BR Y b (some (.blk pid m))) :
  ∃ Y:Cx,Y.π=Sv.IX X.π id (some (.blk pid m))/\Y.h=C/\RH Y (Ai h id b) n/\St X h id pid Y (Ai h id b):=by
 obtain ⟨D,I,g2⟩:=Hp.get_new e
 let Y:Cx:={ π:=Sv.IX X.π id (some (.blk pid m)),h:=C,O:=λq=>X.O q\/q=pid }
 have o : ∀ j,j≠id->Y.π j=X.π j:=λj y=>if_neg y;have z:Y.π id=some (.blk pid m):=if_pos rfl
 have u:Up X Y:=⟨λj a y=>by
  rw [o j (by intro hh;subst hh;rw [hp] at y;cases y)];exact y,λq es ex fz hq A=>by
  have J:q≠pid:=by intro hh;subst hh;rw [D] at A;cases A
  exact ⟨⟨fz,by show C.get q=_;rw [I,if_neg J,A]⟩,λhO=>hO.elim hq J⟩⟩
 have G:h.get id=none \/ ∃ p,h.get id=some p /\ ¬ p.live:=by
  cases A:h.get id with
  | none=>exact .inl rfl
  | some p =>
   refine .inr ⟨p,rfl,λP => ?_⟩;have:=r.blk _ _ A;rw [hp] at this;cases p<;>first | exact P | (simp [BR] at this)
 have s : ∀ {i:Nat} {p:BA} {m1:Nat},h.get i=some p->p.live->X.π i=some (.blk pid m1)->False:=by
  intro i p m1 A P hpp;have:=r.blk _ _ A;rw [hpp] at this;cases p with
  | dead=>exact P
  | box cs fz lk=>obtain ⟨_,_,_,_,f,_,x,_⟩:=this;cases f;rw [D] at x;cases x
  | row g c l ex fz lk =>
   rcases this with ⟨_,_,_,_,f,_,x,_⟩ | ⟨f,_⟩ | ⟨_,f,_⟩
   ·cases f;rw [D] at x;cases x
   ·cases f
   ·cases f
  | mp kk g c l lk=>obtain ⟨_,_,_,f,_,x,_⟩:=this;cases f;rw [D] at x;cases x
  | lp st pend nt t ps S M d=>obtain ⟨_,_,_,_,_,f,_,x,_⟩:=this;cases f;rw [D] at x;cases x
  | df ds=>obtain ⟨_,_,_,f,_,x,_⟩:=this;cases f;rw [D] at x;cases x
 refine ⟨Y,rfl,rfl,⟨λi p hi => ?_,λi i' p bb' q m1 m2 hi B l1 l2 L K => ?_,λi a hi => ?_,λq hq => ?_,λq hq=>by
  show C.get q≠none;rw [I];split
  ·simp
  ·rcases hq with hq | hq
   ·exact r.ob _ hq
   ·exact absurd hq ‹_›⟩,⟨u,g2,λj y k=>by rw [o j y];exact k,λq hq W => ?_,λj p y Z => ?_,λq st pe nt t ps S M d hq => ?_⟩⟩
 ·rw [Au F] at hi;by_cases w:i=id
  ·rw [if_pos w] at hi;cases hi;subst w;rw [z];exact hb Y rfl rfl (λq=>Iff.rfl) u
  ·rw [if_neg w] at hi;rw [o i w];by_cases N:p.live
   ·refine (r.blk _ _ hi).keep u λq m' hq hO'=>⟨?_,.inl hO'⟩;show C.get q=_;rw [I,if_neg];intro hh;subst hh;exact s hi N hq
   ·cases p with
    | dead =>
     intro q m' hq;obtain ⟨k1,k2⟩:=r.blk _ _ hi q m' hq;refine ⟨.inl k1,?_⟩;show C.get q=_;rw [I,if_neg (by intro hh;subst hh;rw [D] at k2;cases k2)];exact k2
    | _=>exact absurd trivial N
 ·rw [Au F] at hi B;by_cases f:i=id
  ·by_cases E:i'=id
   ·rw [f,E]
   ·rw [if_neg E] at B;subst f;rw [z] at L;cases L;exact (s B l2 (o _ E ▸ K)).elim
  ·rw [if_neg f] at hi;by_cases E:i'=id
   ·subst E;rw [z] at K;cases K;exact (s hi l1 (o _ f ▸ L)).elim
   ·rw [if_neg E] at B;rw [o _ f] at L;rw [o _ E] at K;exact r.inj _ _ _ _ _ _ _ hi B l1 l2 L K
 ·by_cases w:i=id
  ·rw [w];exact W
  ·rw [o i w] at hi;exact r.dom _ _ hi
 ·show C.get q=none;have U:X.h.nx<=q:=by rw [<- g2];exact hq
  rw [I,if_neg (by omega)];exact r.fresh _ U
 ·show C.get q=none;rw [I,if_neg hq];exact W
 ·rw [Au F,if_neg]
  ·exact y
  ·intro hh;subst hh;rcases G with A | ⟨b0,A,P⟩
   ·rw [A] at y;cases y
   ·rw [A] at y;cases y;cases p with
    | dead=>cases Z
    | _=>exact absurd trivial P
 ·show C.get q=_;rw [I,if_neg (by intro hh;subst hh;rw [D] at hq;cases hq)];exact hq
end
end Go.Proofs.YtfilfloanndddaaGreat.Sv
namespace Go.Proofs.YtfilfloanndddaaGreat.Sv
variable [Pi.Gl]
open Go.Proofs.YtfilfloanndddaaGreat.Pi (PV T Hp Blk DF UM PE)
section
variable {X:Cx} {h:H} {n:Nat}
theorem RH.alias (r:RH X h n) {id:Nat} {b:BA} {a:At} (p:id<1048575) (B:id<n) (I:X.π id=none) (L : ∀ pid m,a ≠ .blk pid m) (M : ∀ Y:Cx,Up X Y->BR Y b (some a)) (E:Nat) :
  ∃ Y:Cx,Y.π=Sv.IX X.π id (some a)/\Y.h=X.h/\RH Y (Ai h id b) n/\St X h id E Y (Ai h id b):=by
 let Y:Cx:={ π:=Sv.IX X.π id (some a),h:=X.h,O:=X.O }
 have f : ∀ j,j≠id->Y.π j=X.π j:=λj g=>if_neg g;have o:Y.π id=some a:=if_pos rfl
 have u:Up X Y:=⟨λj a g=>by
  rw [f j (by intro hh;subst hh;rw [I] at g;cases g)];exact g,λq es ex fz x D=>⟨⟨fz,D⟩,x⟩⟩
 have s : ∀ l,h.get id=some l -> ¬ l.live:=λl D P=>by
  have:=r.blk _ _ D;rw [I] at this;cases l<;>first | exact P | (simp [BR] at this)
 refine ⟨Y,rfl,rfl,⟨λi l hi => ?_,λi Z l N q m1 m2 hi w J S z y => ?_,λi a hi => ?_,r.fresh,r.ob⟩,⟨u,rfl,λj g k=>by rw [f j g];exact k,λq x B=>B,λj l g C => ?_,λq st W nt t U K G d x=>x⟩⟩
 ·rw [Au p] at hi;by_cases c:i=id
  ·rw [if_pos c] at hi;cases hi;subst c;rw [o];exact M Y u
  ·rw [if_neg c] at hi;rw [f i c];exact (r.blk _ _ hi).keep u λq m' x F=>⟨rfl,F⟩
 ·rw [Au p] at hi w
  have A : ∀ {i:Nat} {q m:Nat},Y.π i=some (.blk q m)->i≠id:=λhh e=>by
   subst e;rw [o] at hh;exact L _ _ (Option.some.inj hh)
  rw [if_neg (A z)] at hi;rw [if_neg (A y)] at w;rw [f _ (A z)] at z;rw [f _ (A y)] at y;exact r.inj _ _ _ _ _ _ _ hi w J S z y
 ·by_cases c:i=id
  ·rw [c];exact B
  ·rw [f i c] at hi;exact r.dom _ _ hi
 ·rw [Au p,if_neg]
  ·exact g
  ·intro hh;subst hh;have:=s _ g;cases l<;>first | exact absurd trivial this | cases C
theorem RH.dead (r:RH X h n) {j:Nat} {b:BA} (f:j<1048575) (C:h.get j=some b) (A:b.locked=false) (l : ∀ pid m,X.π j≠some (.blk pid m)) (o:Nat):RH X (Ai h j .dead) n /\ ∀ i,St X h i o X (Ai h j .dead):=by
 refine ⟨⟨λi c hi => ?_,λi G c B q K J hi k p u y x => ?_,r.dom,r.fresh,r.ob⟩,λi=>⟨Up.refl X,rfl,λ_ _ h=>h,λ_ _ h=>h,λi c hi g => ?_,λq I F nt t E w s d z=>z⟩⟩
 ·rw [Au f] at hi;by_cases a:i=j
  ·rw [if_pos a] at hi;cases hi;subst a;exact λpid m e=>absurd e (l _ _)
  ·rw [if_neg a] at hi;exact r.blk _ _ hi
 ·rw [Au f] at hi k
  have nd : ∀ {i:Nat} {c:BA},(if i=j then some BA.dead else h.get i)=some c->c.live->h.get i=some c:=fun {i c} e D=>by
   by_cases a:i=j
   ·rw [if_pos a] at e;cases e;exact D.elim
   ·rw [if_neg a] at e;exact e
  exact r.inj _ _ _ _ _ _ _ (nd hi p) (nd k u) p u y x
 ·rw [Au f,if_neg]
  ·exact hi
  ·intro hh;subst hh;rw [C] at hi;cases hi;rw [A] at g;cases g
end
def DX (h:Hp) (Q d:Nat->Prop):(c:Ty)->c.den->List PV->Prop
 | .int k,n,ps=>ps=[.int k n]
 | .bool,b,ps=>ps=[.bool b]
 | .str,s,ps=>ps=[.str s]
 | .unit,_,ps=>ps=[]
 | .pair a b,x,ps => ∃ p q,ps=p++q/\DX h Q d a x.1 p/\DX h Q d b x.2 q
 | .sl g c,l,ps => ∃ p,ps=[p]/\((p = .nils/\l=[])\/(∃ f es,p = .lst f es/\L2 (EP g (DP c)) l es) \/
   ∃ pid off len es ex fz,p = .own pid off len/\Q pid/\h.get pid=some (.row es ex fz)/\off+len<=es.length/\Pi.HD c.wd es=true/\L2 (EP g (DR h d c)) l ((es.drop off).take len))
theorem DX.same {h:Hp} {Q:Nat->Prop} : ∀ {c:Ty} {x:c.den} {a:List PV},DX h Q Q c x a->DR h Q c x a
 | .int _,_,_,e=>e
 | .bool,_,_,e=>e
 | .str,_,_,e=>e
 | .unit,_,_,e=>e
 | .pair _ _,_,_,⟨p,q,e,d,b⟩=>⟨p,q,e,DX.same d,DX.same b⟩
 | .sl _ _,_,_,h=>h
theorem DR.pure {Q:Nat->Prop} : ∀ {c:Ty} {x:c.den} {a:List PV},DR I1 Q c x a->DP c x a
 | .int _,_,_,e=>e
 | .bool,_,_,e=>e
 | .str,_,_,e=>e
 | .unit,_,_,e=>e
 | .pair _ _,_,_,⟨p,q,e,d,b⟩=>⟨p,q,e,DR.pure d,DR.pure b⟩
 | .sl _ _,_,_,⟨p,e,h⟩=>⟨p,e,by
  rcases h with h | h | ⟨pid,off,len,es,ex,fz,d,b,f,i,g⟩
  ·exact .inl h
  ·exact .inr h
  ·cases f⟩
theorem DX.pure {Q f:Nat->Prop} : ∀ {c:Ty} {x:c.den} {a:List PV},DX I1 Q f c x a->DP c x a
 | .int _,_,_,e=>e
 | .bool,_,_,e=>e
 | .str,_,_,e=>e
 | .unit,_,_,e=>e
 | .pair _ _,_,_,⟨p,q,e,d,b⟩=>⟨p,q,e,DX.pure d,DX.pure b⟩
 | .sl _ _,_,_,⟨p,e,h⟩=>⟨p,e,by
  rcases h with h | h | ⟨pid,off,len,es,ex,fz,d,b,g,j,i⟩
  ·exact .inl h
  ·exact .inr h
  ·cases g⟩
theorem DR.leaf : ∀ {hh:Hp} {Q:Nat->Prop} {c:Ty} {y:c.den} {d:List PV},DR hh Q c y d -> ∀ p∈d,(∀ cs,p ≠ .agg cs)/\(∀ cs,p ≠ .tup cs)/\p.cells=[p]
 | _,_,.int _,_,_,e,p,hp=>by subst e;simp at hp;subst hp;simp [PV.cells]
 | _,_,.bool,_,_,e,p,hp=>by subst e;simp at hp;subst hp;simp [PV.cells]
 | _,_,.str,_,_,e,p,hp=>by subst e;simp at hp;subst hp;simp [PV.cells]
 | _,_,.unit,_,_,e,p,hp=>by subst e;simp at hp
 | _,_,.pair _ _,_,_,⟨a,b,e,i,g⟩,p,hp=>by
  subst e;rcases List.mem_append.1 hp with hp | hp
  ·exact i.leaf p hp
  ·exact g.leaf p hp
 | _,_,.sl _ _,_,_,⟨a,e,h⟩,p,hp=>by
  subst e;simp at hp;subst hp;rcases h with ⟨rfl,_⟩ | ⟨f,es,rfl,_⟩ | ⟨pid,off,len,es,ex,fz,rfl,_⟩<;>simp [PV.cells]
theorem EP.cells {g:Bool} {hh:Hp} {Q:Nat->Prop} {c:Ty} {y:c.den} {e:PV} (h:EP g (DR hh Q c) y e):DR hh Q c y e.cells:=by
 cases g with
 | true=>obtain ⟨cs,rfl,h⟩:=h;exact h
 | false =>
  have h':DR hh Q c y [e]:=h;rw [(h'.leaf e (by simp)).2.2];exact h'
theorem DR.wd : ∀ {hh:Hp} {Q:Nat->Prop} {c:Ty} {y:c.den} {d:List PV},DR hh Q c y d->d.length=c.wd
 | _,_,.int _,_,_,e=>by subst e;rfl
 | _,_,.bool,_,_,e=>by subst e;rfl
 | _,_,.str,_,_,e=>by subst e;rfl
 | _,_,.unit,_,_,e=>by subst e;rfl
 | _,_,.pair _ _,_,_,⟨a,b,e,g,f⟩=>by subst e;rw [List.length_append,g.wd,f.wd];rfl
 | _,_,.sl _ _,_,_,⟨a,e,h⟩=>by subst e;rfl
theorem EP.wd {g:Bool} {hh:Hp} {Q:Nat->Prop} {c:Ty} {y:c.den} {e:PV} (h:EP g (DR hh Q c) y e):e.cells.length=c.wd:=h.cells.wd
theorem Ca {g:Bool} {hh:Hp} {Q:Nat->Prop} {c:Ty} {l:List c.den} {es:List PV} {b:Nat} (hs:b=c.wd) (h:L2 (EP g (DR hh Q c)) l es):Pi.HD b es=true:=by
 cases h with
 | nil=>rfl
 | cons a _=>simp only [Pi.HD,a.wd];simp [hs]
theorem EP.agg_inv {α:Type} {D:α->List PV->Prop} {x:α} {e:PV} (h:EP true D x e) : ∃ cs,e = .agg cs/\D x cs:=h
section
variable {β:Type} {x:β}
theorem UY {α:Type} {d:V->(α->Option β)->Option β} {X:Cx} {R:α->PV->Prop} (c : ∀ {v:V} {p:PV} {K:α->Option β},VR X v p->d v K=some x -> ∃ y,K y=some x/\R y p) :
  ∀ {vs:List V} {b:List PV} {K:List α->Option β},VRL X vs b->cS d vs K=some x -> ∃ a,K a=some x/\L2 R a b
 | [],_,K,h,e=>by rw [h.nil_inv];exact ⟨[],e,.nil⟩
 | v::vs,_,K,h,e=>by
  obtain ⟨p,k,rfl,i,g⟩:=h.cons_inv;obtain ⟨y,e1,j⟩:=c i e;obtain ⟨a,e2,f⟩:=UY c g e1;exact ⟨y::a,e2,.cons j f⟩
theorem Si {α:Type} {R:α->PV->Prop} {l:List α} {es:List PV} (h:L2 R l es) (off len:Nat):L2 R (EI l off (Ag off len)) ((es.drop off).take len):=by
 unfold EI Ag;rw [show off+len-off=len from by omega];exact (h.drop off).take len
theorem Oq : ∀ (a b:List V),La (a++b)=La a++La b
 | [],b=>rfl
 | v::a,b=>by
  have c:=Oq a b;cases v<;>simp [La,c]
theorem cf {id:Nat} {v:V} (h:id∈La [v]):id∈La v.cells:=by
 cases v<;>first | exact h | (simp [La] at h)
theorem H1 : ∀ {c:Ty} {X:Cx} {h:H} {Q:Nat->Prop} {vs:List V} {u:List PV} {K:c.den->List V->Option β},
  (∀ id b a,h.get id=some b->X.π id=some a->BR X b (some a))->(∀ id b pid m,id∈La vs->h.get id=some b->X.π id=some (.blk pid m)->Q pid)->(∀ pid,X.Q pid->Q pid) ->
  VRL X vs u->JG h c vs K=some x -> ∃ y r p q,K y r=some x/\u=p++q/\DX X.h Q X.Q c y p/\VRL X r q /\ ∃ s,vs=s++r
 | .int k,X,h,Q,vs,u,K,hb,hq,hQ,i,e=>by
  unfold JG at e;split at e
  ·replace e:=BD e;obtain ⟨hk,e⟩:=e;obtain ⟨p,o,rfl,d,j⟩:=i.cons_inv;simp only [VR] at d;subst d;have:=eq_of_beq hk;subst this;exact ⟨_,_,[_],o,e,rfl,rfl,j,[_],rfl⟩
  ·cases e
 | .bool,X,h,Q,vs,u,K,hb,hq,hQ,i,e=>by
  unfold JG at e;split at e
  ·obtain ⟨p,o,rfl,d,j⟩:=i.cons_inv;simp only [VR] at d;subst d;exact ⟨_,_,[_],o,e,rfl,rfl,j,[_],rfl⟩
  ·cases e
 | .str,X,h,Q,vs,u,K,hb,hq,hQ,i,e=>by
  unfold JG at e;split at e
  ·obtain ⟨p,o,rfl,d,j⟩:=i.cons_inv;simp only [VR] at d;subst d;exact ⟨_,_,[_],o,e,rfl,rfl,j,[_],rfl⟩
  ·cases e
 | .unit,X,h,Q,vs,u,K,hb,hq,hQ,i,e=>by
  unfold JG at e;exact ⟨(),vs,[],u,e,rfl,rfl,i,[],rfl⟩
 | .pair a b,X,h,Q,vs,u,K,hb,hq,hQ,i,e=>by
  unfold JG at e;obtain ⟨y,r,p,q,e1,rfl,F,B,s1,rfl⟩:=H1 hb hq hQ i e;obtain ⟨z,r',S,q',e2,rfl,d2,r2,s2,rfl⟩:=H1 hb (λid b pid m hi=>hq id b pid m (by rw [Oq];exact List.mem_append_right _ hi)) hQ B e1;exact ⟨(y,z),r',p++S,q',e2,by simp,⟨p,S,rfl,F,d2⟩,r2,s1++s2,by simp⟩
 | .sl g c,X,h,Q,vs,u,K,hb,hq,hQ,i,e=>by
  unfold JG at e;split at e
  ·obtain ⟨p,o,rfl,d,j⟩:=i.cons_inv;simp only [VR] at d;subst d;exact ⟨[],_,[_],o,e,rfl,⟨_,rfl,.inl ⟨rfl,rfl⟩⟩,j,[_],rfl⟩
  ·rename_i M N l r;replace e:=BD e;obtain ⟨A,e⟩:=e;have:=eq_of_beq A;subst this;obtain ⟨hc,e⟩:=C8 e;subst hc;obtain ⟨p,o,rfl,d,j⟩:=i.cons_inv;refine ⟨l,_,[p],o,e,rfl,⟨p,rfl,?_⟩,j,[_],rfl⟩;simp only [VR] at d;rcases d with d | ⟨f,es,d,_,C⟩ | ⟨pid,off,len,es,ex,fz,d,_,C,h4,I,h8,h6⟩
   ·exact .inl d
   ·exact .inr (.inl ⟨f,es,d,C⟩)
   ·exact .inr (.inr ⟨pid,off,len,es,ex,fz,d,hQ _ C,h4,I,h8,h6⟩)
  ·rename_i M N l r;replace e:=BD e;obtain ⟨A,e⟩:=e;have:=eq_of_beq A;subst this;obtain ⟨hc,e⟩:=C8 e;subst hc;obtain ⟨p,o,rfl,d,j⟩:=i.cons_inv;refine ⟨l,_,[p],o,e,rfl,⟨p,rfl,?_⟩,j,[_],rfl⟩;simp only [VR] at d;rcases d with d | ⟨f,es,d,C⟩
   ·exact .inl d
   ·exact .inr (.inl ⟨f,es,d,C⟩)
  ·rename_i f es r;obtain ⟨p,o,rfl,d,j⟩:=i.cons_inv;simp only [VR] at d;obtain ⟨f',u,rfl,_,C⟩:=d
   obtain ⟨W,e1,B⟩:=UY (X:=Cx.pure) (R:=EP g (DP c)) (fun {v p K'} i e=>by
    rcases Fj e with ⟨A,e⟩ | ⟨A,e⟩
    ·subst A;split at e
     ·obtain ⟨cs,rfl,L⟩:=i.agg_inv;obtain ⟨y,r,p,q,e1,rfl,F,B,_⟩:=H1 (c:=c) (Q:=λ_=>True) (λ_ _ _ _ h=>(by cases h)) (λ_ _ _ _ _ _ h=>(by cases h)) (λ_ _=>trivial) L e;split at e1
      ·rw [B.nil_inv];exact ⟨y,e1,_,rfl,by rw [List.append_nil];exact F.pure⟩
      ·cases e1
     ·cases e
    ·subst A;obtain ⟨y,r,p,q,e1,I,F,B,_⟩:=H1 (c:=c) (Q:=λ_=>True) (λ_ _ _ _ h=>(by cases h)) (λ_ _ _ _ _ _ h=>(by cases h)) (λ_ _=>trivial) (VRL.cons i .nil) e;split at e1
     ·rw [B.nil_inv,List.append_nil] at I;subst I;exact ⟨y,e1,F.pure⟩
     ·cases e1) C e
   exact ⟨W,_,[_],o,e1,rfl,⟨_,rfl,.inr (.inl ⟨f',u,rfl,B⟩)⟩,j,[_],rfl⟩
  ·rename_i id r;split at e
   ·rename_i M N l ex fz Y n;replace e:=BD e;obtain ⟨A,e⟩:=e;have:=eq_of_beq A;subst this;obtain ⟨hc,e⟩:=C8 e;subst hc;obtain ⟨p,o,rfl,d,j⟩:=i.cons_inv;refine ⟨l,_,[p],o,e,rfl,⟨p,rfl,?_⟩,j,[_],rfl⟩;simp only [VR] at d;cases t:X.π id with
    | none=>rw [t] at d;exact d.elim
    | some a =>
     rw [t] at d;rcases hb _ _ _ n t with ⟨pid,len,es,D,w,G,O,k4,Z,U,E⟩ | ⟨w,_,G⟩ | ⟨es,w,_,_,G⟩
     ·cases w;simp only at d;subst d;refine .inr (.inr ⟨pid,0,len,es,ex,D,rfl,hq _ _ _ _ (by simp [La]) n t,O,by omega,Ca rfl E,?_⟩);rw [List.drop_zero,List.take_of_length_le (by omega)];exact E
     ·cases w;simp only at d;exact .inl ⟨d,G⟩
     ·cases w;simp only at d;exact .inr (.inl ⟨true,es,d,G⟩)
   ·cases e
  ·rename_i id off len r;split at e
   ·rename_i M N l ex fz Y n;replace e:=BD e;obtain ⟨A,e⟩:=e;have:=eq_of_beq A;subst this;obtain ⟨J,e⟩:=Ax e;obtain ⟨hc,e⟩:=C8 e;subst hc;obtain ⟨p,o,rfl,d,j⟩:=i.cons_inv;refine ⟨_,_,[p],o,e,rfl,⟨p,rfl,?_⟩,j,[_],rfl⟩;simp only [VR] at d;obtain ⟨pid,m,t,rfl⟩:=d;rcases hb _ _ _ n t with ⟨pid,P,es,D,w,G,O,k4,Z,U,E⟩ | ⟨w,_⟩ | ⟨es,w,_⟩
    ·cases w;refine .inr (.inr ⟨_,off,len,es,ex,D,rfl,hq _ _ _ _ (by simp [La]) n t,O,?_,Ca rfl E,?_⟩)
     ·rw [<- E.length];simpa [BP,Ag,AA] using J
     ·exact Si E off len
    ·cases w
    ·cases w
   ·cases e
  ·cases e
theorem NB {c:Ty} {X:Cx} {vs:List V} {a:List PV} {K:c.den->List V->Option β} (g:VRL X vs a) (e:JG .lf c vs K=some x) : ∃ y r p q,K y r=some x/\a=p++q/\DR X.h X.Q c y p/\VRL X r q :=
 by
 obtain ⟨y,r,p,q,f,d,i,b,_⟩:=H1 (Q:=X.Q) (λ_ _ _ h=>(by cases h)) (λ_ _ _ _ _ h=>(by cases h)) (λ_ h=>h) g e;exact ⟨y,r,p,q,f,d,i.same,b⟩
theorem Kd {g:Bool} {c:Ty} {X:Cx} {v:V} {p:PV} {K:c.den->Option β} (j:VR X v p) (e:Mv .lf g c v K=some x) : ∃ y,K y=some x/\EP g (DR X.h X.Q c) y p:=by
 unfold Mv at e;rcases Fj e with ⟨a,e⟩ | ⟨a,e⟩
 ·subst a;split at e
  ·obtain ⟨cs,rfl,d⟩:=j.agg_inv;obtain ⟨y,r,p,q,e1,rfl,b,f⟩:=NB d e;split at e1
   ·rw [f.nil_inv];exact ⟨y,e1,_,rfl,by rw [List.append_nil];exact b⟩
   ·cases e1
  ·cases e
 ·subst a;obtain ⟨y,r,p,q,e1,i,b,f⟩:=NB (VRL.cons j .nil) e;split at e1
  ·rw [f.nil_inv,List.append_nil] at i;subst i;exact ⟨y,e1,b⟩
  ·cases e1
theorem NC {g:Bool} {c:Ty} {X:Cx} {h:H} {n:Nat} {Q:Nat->Prop} (r:RH X h n) {v:V} {p:PV} {K:c.den->Option β} (s : ∀ id pid m,id∈La v.cells->X.π id=some (.blk pid m)->Q pid) (l : ∀ pid,X.Q pid->Q pid) (u:VR X v p) (e:Mv h g c v K=some x) : ∃ y,K y=some x/\EP g (DX X.h Q X.Q c) y p:=by
 unfold Mv at e;have o : ∀ id b a,h.get id=some b->X.π id=some a->BR X b (some a):=λid b a z w=>w ▸ r.blk _ _ z;rcases Fj e with ⟨d,e⟩ | ⟨d,e⟩
 ·subst d;split at e
  ·obtain ⟨cs,rfl,i⟩:=u.agg_inv;obtain ⟨y,r,p,q,e1,rfl,f,k,_⟩:=H1 (Q:=Q) o (λid b pid m hi _ j=>s id pid m hi j) l i e;split at e1
   ·rw [k.nil_inv];exact ⟨y,e1,_,rfl,by rw [List.append_nil];exact f⟩
   ·cases e1
  ·cases e
 ·subst d;obtain ⟨y,r,p,q,e1,t,f,k,_⟩:=H1 (Q:=Q) o (λid b pid m hi _ j=>s id pid m (cf hi) j) l (VRL.cons u .nil) e;split at e1
  ·rw [k.nil_inv,List.append_nil] at t;subst t;exact ⟨y,e1,f⟩
  ·cases e1
theorem RW {g:Bool} {c:Ty} {X:Cx} {h:H} {n:Nat} (r:RH X h n) {v:V} {p:PV} {K:List c.den->Option β} (y:VR X v p) (e:SZ h g c v K=some x) :
  ∃ l es,K l=some x/\Pi.EN X.h p=some es/\L2 (EP g (DR X.h X.Q c)) l es:=by
 unfold SZ at e;have j : ∀ id b a,h.get id=some b->X.π id=some a->BR X b (some a):=λid b a w o=>o ▸ r.blk _ _ w;obtain ⟨l,C,A,q,e1,i,d,B,_⟩:=H1 (Q:=λ_=>True) j (λ_ _ _ _ _ _ _=>trivial) (λ_ _=>trivial) (VRL.cons y .nil) e;obtain ⟨m,rfl,d⟩:=d
 have:p=m:=by
  cases q with
  | nil=>simpa using i
  | cons=>simp at i
 subst this;rcases d with ⟨rfl,rfl⟩ | ⟨f,es,rfl,t⟩ | ⟨pid,off,len,es,ex,fz,rfl,_,z,s,_,u⟩
 ·exact ⟨[],[],e1,rfl,.nil⟩
 ·exact ⟨l,es,e1,rfl,t.mono λ_ _ k=>k.mono λ_ _ k=>k.up⟩
 ·refine ⟨l,_,e1,?_,u⟩;unfold Pi.EN;simp only [z];have:Nat.ble (off+len) es.length=true:=by simpa using s
  rw [this];rfl
end
end Go.Proofs.YtfilfloanndddaaGreat.Sv
namespace Go.Proofs.YtfilfloanndddaaGreat.Sv
variable [Pi.Gl]
open Go.Proofs.YtfilfloanndddaaGreat.Pi (PV T Hp Blk DF UM PE A5 BM)
section
variable {X:Cx} {h:H} {n:Nat} {β:Type} {x:β} {P:Program}
theorem IK : ∀ {c:Ty} {y:c.den} {d:List PV},DR X.h X.Q c y d->VRL X (cells c y) d
 | .int _,_,_,e=>by subst e;exact .cons (by simp [VR]) .nil
 | .bool,_,_,e=>by subst e;exact .cons (by simp [VR]) .nil
 | .str,_,_,e=>by subst e;exact .cons (by simp [VR]) .nil
 | .unit,_,_,e=>by subst e;exact .nil
 | .pair _ _,_,_,⟨p,q,e,b,a⟩=>by subst e;exact (IK b).append (IK a)
 | .sl _ _,_,_,⟨p,e,h⟩=>by
  subst e;refine .cons ?_ .nil;simp only [VR];rcases h with h | ⟨f,es,b,a⟩ | ⟨pid,off,len,es,ex,fz,b,a,k,j,g,i⟩
  ·exact .inl h
  ·exact .inr (.inl ⟨f,es,b,by simp,a⟩)
  ·exact .inr (.inr ⟨pid,off,len,es,ex,fz,b,by simp,a,k,j,g,i⟩)
theorem MB {g:Bool} {c:Ty} {y:c.den} {e:PV} (h:EP g (DR X.h X.Q c) y e):VR X (ZP g c y) e:=by
 cases g with
 | true=>obtain ⟨cs,rfl,h⟩:=h;simp only [ZP,cond_true,VR];exact ⟨cs,rfl,IK h⟩
 | false =>
  have:=IK (X:=X) (show DR X.h X.Q c y [e] from h);unfold ZP;simp only [cond_false];have b:=this.length;split
  ·rename_i v j;rw [j] at this;obtain ⟨p,k,i,f,_⟩:=this.cons_inv;cases i;exact f
  ·rename_i d;cases hc:cells c y with
   | nil=>rw [hc] at b;simp at b
   | cons a l=>cases l with
    | nil=>exact absurd hc (d _)
    | cons=>rw [hc] at b;simp at b
theorem LQ : ∀ {c:Ty} {y:c.den} {a:List PV},DP c y a->VRL X (Nx c y) a
 | .int _,_,_,e=>by subst e;exact .cons (by simp [VR]) .nil
 | .bool,_,_,e=>by subst e;exact .cons (by simp [VR]) .nil
 | .str,_,_,e=>by subst e;exact .cons (by simp [VR]) .nil
 | .unit,_,_,e=>by subst e;exact .nil
 | .pair _ _,_,_,⟨p,q,e,d,b⟩=>by subst e;exact (LQ d).append (LQ b)
 | .sl _ _,_,_,⟨p,e,h⟩=>by
  subst e;refine .cons ?_ .nil;simp only [VR];exact h
theorem IL {g:Bool} {c:Ty} {y:c.den} {e:PV} (h:EP g (DP c) y e):VR X (elP g c y) e:=by
 cases g with
 | true=>obtain ⟨cs,rfl,h⟩:=h;simp only [elP,cond_true,VR];exact ⟨cs,rfl,LQ h⟩
 | false =>
  have:=LQ (X:=X) (show DP c y [e] from h);unfold elP;simp only [cond_false];have b:=this.length;split
  ·rename_i v j;rw [j] at this;obtain ⟨p,k,i,f,_⟩:=this.cons_inv;cases i;exact f
  ·rename_i d;cases hc:Nx c y with
   | nil=>rw [hc] at b;simp at b
   | cons a l=>cases l with
    | nil=>exact absurd hc (d _)
    | cons=>rw [hc] at b;simp at b
theorem RH.ptr (r:RH X h n) {j off:Nat} {p:PV} {cs:List V} {fz f:Bool} (d:VR X (.ptr j off) p) (e:h.get j=some (.box cs fz f)) :
  ∃ pid m b a,X.π j=some (.blk pid m)/\p = .ptr pid off/\X.h.get pid=some (.box b a)/\(fz=false->a=false)/\VRL X cs b:=by
 simp only [VR] at d;obtain ⟨pid,m,c,rfl⟩:=d;have:=r.blk _ _ e;rw [c] at this;obtain ⟨_,_,b,a,l,o,k,i,g⟩:=this;cases l;exact ⟨pid,m,b,a,c,rfl,k,i,g⟩
theorem RH.boxAt (r:RH X h n) {j pid m:Nat} {cs:List V} {fz c:Bool} (k:X.π j=some (.blk pid m)) (e:h.get j=some (.box cs fz c)) :
  ∃ b a,X.h.get pid=some (.box b a)/\(fz=false->a=false)/\VRL X cs b:=by
 have:=r.blk _ _ e;rw [k] at this;obtain ⟨_,_,b,a,i,l,g,f,d⟩:=this;cases i;exact ⟨b,a,g,f,d⟩
theorem RH.rowAt (r:RH X h n) {j pid m:Nat} {g:Bool} {c:Ty} {l:List c.den} {ex fz f:Bool} (q:X.π j=some (.blk pid m)) (e:h.get j=some (.row g c l ex fz f)) :
  ∃ es a,X.h.get pid=some (.row es ex a)/\(fz=false->a=false)/\es.length=m/\(ex=false->0<m)/\L2 (EP g (DR X.h X.Q c)) l es:=by
 have:=r.blk _ _ e;rw [q] at this;rcases this with ⟨_,_,es,a,b,s,p,o,k,i,d⟩ | ⟨b,_⟩ | ⟨_,b,_⟩
 ·cases b;exact ⟨es,a,p,o,k,i,d⟩
 ·cases b
 ·cases b
theorem Ps {c:IntKind} : ∀ {m:Nat} {vs:List V} {a:List PV} {l:List Int},VRL X vs a->Om c m vs=some l->l.length=m/\a.take m=l.map (PV.int c)/\m<=a.length
 | 0,_,_,_,_,e=>by cases e;simp
 | m+1,[],_,_,_,e=>by simp [Om] at e
 | m+1,v::vs,a,l,hv,e=>by
  unfold Om at e;split at e
  ·rename_i h;cases h
  ·rename_i n1 k x f q g;cases q;cases g;cases b:(k == c) with
   | false=>rw [b] at e;cases e
   | true =>
    rw [b] at e;have:=eq_of_beq b;subst this;obtain ⟨l',o,rfl⟩:=Option.map_eq_some_iff.1 e;obtain ⟨p,r,rfl,d,i⟩:=hv.cons_inv;simp only [VR] at d;subst d;obtain ⟨n,j,s⟩:=Ps i o;exact ⟨by simp [n],by simp [j],by simp;omega⟩
  ·cases e
theorem cg (r:RH X h n) {ty:TypeId} {a:V} {p:PV} {K:V->Option β} (f:VR X a p) (e:cX P h ty a K=some x) : ∃ v q,K v=some x/\Pi.GD P X.h ty p=some (.val q X.h)/\VR X v q:=by
 unfold cX at e;split at e
 ·replace e:=AZ e;obtain ⟨v,e1,e⟩:=e;simp only [VR] at f;obtain ⟨s,rfl,d⟩:=f;obtain ⟨q,e2,o⟩:=Ed (d.mono (Up.pure X)) e1;exact ⟨v,q,e,DC e2,o⟩
 ·split at e
  ·rename_i cs fz I u;obtain ⟨pid,m,s,A,d,rfl,t,B,w⟩:=r.ptr f u;replace e:=AZ e;obtain ⟨v,e1,e⟩:=e;obtain ⟨q,e2,o⟩:=Ed (w.drop _) e1;exact ⟨v,q,e,by unfold Pi.GD;simp only [t];exact DC e2,o⟩
  ·cases e
 ·replace e:=AZ e;obtain ⟨v,e1,e⟩:=e;simp only [VR] at f;rcases f with ⟨s,rfl,d⟩ | ⟨pid,i,off,es,ex,fz,U,rfl,d,D,t,B⟩
  ·obtain ⟨q,e2,o⟩:=Ed (d.mono (Up.pure X)) e1;exact ⟨v,q,e,DC e2,o⟩
  ·obtain ⟨q,e2,o⟩:=Ed B e1;refine ⟨v,q,e,?_,o⟩;unfold Pi.GD;simp only [D,A5,t];exact DC e2
 ·rename_i j i off;split at e
  ·rename_i g c l ex fz I u;replace e:=M9 e;obtain ⟨y,M,e⟩:=e;replace e:=AZ e;obtain ⟨v,e1,e⟩:=e;simp only [VR] at f;obtain ⟨pid,m,d,rfl⟩:=f;obtain ⟨es,A,D,t,B,Y,w⟩:=r.rowAt d u;obtain ⟨U,E,O⟩:=w.get M;obtain ⟨q,e2,o⟩:=Ed ((MB O).cells.drop off) e1;refine ⟨v,q,e,?_,o⟩;unfold Pi.GD;simp only [D,A5,E];exact DC e2
  ·cases e
 ·rename_i j off k m;split at e
  ·rename_i cs fz I u;split at e
   ·rename_i G sz N z C;replace e:=AZ e;obtain ⟨l,W,e⟩:=e;simp only [VR] at f;obtain ⟨pid,mm,d,rfl,F⟩:=f;obtain ⟨s,A,t,B,w⟩:=r.boxAt d u;obtain ⟨Z,L,i3⟩:=Ps (w.drop off) W;refine ⟨_,.int G (KX l k),e,?_,by simp [VR]⟩;unfold Pi.GD;simp only [t];refine DC ?_;unfold Pi.part;simp only [z,C]
    have b:(s.drop (off+k))[0]? = some (.int G (KX l k)):=by
     rw [List.getElem?_drop,Nat.add_zero]
     have S:(s.drop off)[k]? = some (.int G (KX l k)):=by
      rw [<- List.getElem?_take_of_lt F,L,List.getElem?_map];have:l[k]? = some l[k]:=List.getElem?_eq_getElem (by omega);unfold KX;rw [this];rfl
     rwa [List.getElem?_drop] at S
    cases J:s.drop (off+k) with
    | nil=>rw [J] at b;cases b
    | cons c cs=>rw [J] at b;cases b;rfl
   ·cases e
  ·cases e
 ·cases e
theorem Do (h:Hp) (i:Nat) (b:Blk) : ∃ h',h.set i b=some h':=⟨{ h with m:=T.put (i+1) h.m i b },by
 unfold Pi.Hp.set;rw [show Nat.blt i (i+1)=true from by simp];rfl⟩
theorem MC (h:Hp) (i:Nat) (b:Blk) (e:h.get i=none) : ∃ h',h.new i b=some h':=by
 unfold Pi.Hp.new Pi.Hp.get at *;rw [e];exact Do h i b
theorem WB {hs:Hp} {pid i:Nat} {es:List PV} {ex:Bool} {a b:PV} {cl:List PV} (A:List PV->Option Pi.R):(∀ cs,a ≠ .agg cs)->a.cells=[a]->cl=[b]->(∀ cs,b ≠ .agg cs)->(∀ cs,b ≠ .tup cs) ->
  (match a with
   | .agg cs=>A cs
   | _=>(match cl with
    | [c]=>bif Nat.beq 0 0&&Nat.beq a.cells.length 1 then (match c with
     | .agg _=>none
     | .tup _=>none
     | c=>(hs.set pid (.row (Pi.lset es i c) ex false)).map Pi.R.skip) else none
    | _=>none))=(hs.set pid (.row (Pi.lset es i b) ex false)).map .skip:=by
 intro h g j f e;subst j;have d:(Nat.beq 0 0&&Nat.beq a.cells.length 1)=true:=by rw [g];rfl
 cases a<;>first
  | exact absurd rfl (h _)
  | (simp only [d,cond_true]<;>cases b<;>first | rfl | exact absurd rfl (f _) | exact absurd rfl (e _))
def MD (X:Cx) (h:H) (n id idP:Nat) (h':H) (a:Hp) (Y:Cx):Prop:=Y.h=a/\RH Y h' n/\St X h id idP Y h'
def UZ (a:IntKind) (k:Nat) (x:Int):Nat->List Int->List PV
 | _,[]=>[]
 | i,y::l => .int a (if k=i then x else y)::UZ a k x (i+1) l
theorem YI {a:IntKind} {k:Nat} {x:Int} : ∀ (l:List Int) (i:Nat),VRL X (V2 a k x i l) (UZ a k x i l)
 | [],_=>by simp [V2,UZ,VRL]
 | y::l,i=>by
  unfold V2 UZ;refine .cons ?_ (YI l (i+1));simp only [VR];unfold Ol neq;by_cases h:k=i
  ·rw [if_pos h,show Nat.beq k i=true by simpa using h];rfl
  ·rw [if_neg h,show Nat.beq k i=false by
    cases b:Nat.beq k i with
    | false=>rfl
    | true=>exact absurd (Nat.eq_of_beq_eq_true b) h];rfl
theorem Ua {a:IntKind} {k:Nat} {x:Int} : ∀ (l:List Int) (i:Nat),UZ a k x i l=if i<=k then (l.map (PV.int a)).set (k-i) (.int a x) else l.map (PV.int a)
 | [],i=>by simp [UZ]
 | y::l,i=>by
  unfold UZ;rw [Ua l (i+1)];by_cases h:k=i
  ·subst h;rw [if_pos rfl,if_neg (by omega),if_pos (Nat.le_refl _),Nat.sub_self];rfl
  ·rw [if_neg h];by_cases b:i<=k
   ·rw [if_pos (by omega),if_pos b,show k-i=(k-(i+1))+1 by omega];rfl
   ·rw [if_neg (by omega),if_neg b];rfl
theorem cj {b:IntKind} {a:List PV} {l:List Int} {off k m:Nat} {x:Int} (o:(a.drop off).take m=l.map (PV.int b)) (n:l.length=m) (j:m<=(a.drop off).length) (q:k<m) :
  Pi.EH a off (UZ b k x 0 l)=Pi.EH a (off+k) [.int b x]:=by
 rw [Ua,if_pos (Nat.zero_le _),Nat.sub_zero];obtain ⟨A,d⟩ : ∃ A,A=a.take off:=⟨_,rfl⟩;obtain ⟨R,i⟩ : ∃ R,R=(a.drop off).drop m:=⟨_,rfl⟩;obtain ⟨L,e⟩ : ∃ L,L=l.map (PV.int b):=⟨_,rfl⟩;have h:off<=a.length:=by rw [List.length_drop] at j;omega
 have c:a=A++(L++R):=by rw [d,e,i,<- o,List.take_append_drop,List.take_append_drop]
 have f:A.length=off:=by rw [d];simp;omega
 have g:L.length=m:=by rw [e];simp [n]
 rw [<- e];unfold Pi.EH;have e1:a.take off=A:=d.symm;have e2:a.drop (off+(L.set k (.int b x)).length)=R:=by rw [List.length_set,g,<- List.drop_drop,<- i]
 have e3:a.take (off+k)=A++L.take k:=by
  rw [c,List.take_append,List.take_of_length_le (by omega),f,Nat.add_sub_cancel_left,List.take_append_of_le_length (by omega)]
 have p:a.drop (off+k+[PV.int b x].length)=L.drop (k+1)++R:=by
  rw [c,show off+k+[PV.int b x].length=A.length+(k+1) by simp;omega,List.drop_append,List.drop_eq_nil_of_le (by omega),Nat.add_sub_cancel_left,List.drop_append_of_le_length (by omega)];rfl
 rw [e1,e2,e3,p,List.set_eq_take_append_cons_drop,if_pos (by omega)];simp
theorem ZU (r:RH X h n) (hn:n<=1048575) {ty:TypeId} {a w:V} {p q:PV} {K:H->Option β} (Z:VR X a p) (hw:VR X w q) (id idP:Nat) (e:V3 P h ty a w K=some x) :
  ∃ h' d Y,K h'=some x/\Pi.DU P X.h ty p q=some (.skip d)/\MD X h n id idP h' d Y:=by
 unfold V3 at e;replace e:=AZ e;obtain ⟨sz,F,e⟩:=e;replace e:=DL e;obtain ⟨hc,e⟩:=e;have L:=hw.cells;rw [L.length] at hc;have Y6 : ∀ {j pid m:Nat},X.π j=some (.blk pid m)->j<1048575:=λhp=>by have:=r.dom _ _ hp;omega
 split at e
 ·rename_i j off;split at e
  ·rename_i cs A;replace e:=BD e;obtain ⟨s,e⟩:=e;obtain ⟨pid,m,M,fz',f,rfl,J,h4,D⟩:=r.ptr Z A;have:=h4 rfl;subst this;have b : ∃ d,X.h.set pid (.box (Pi.EH M off q.cells) false)=some d:=Do _ _ _;obtain ⟨d,b⟩:=b
   obtain ⟨Y,O,z,E,y4,y5⟩:=r.set (b':=.box (Mx cs off w.cells) false false) (Y6 f) A trivial rfl f J (by intros;simp) b
    (λY O z E u=>by
     rw [f]
     refine ⟨pid,m,_,false,rfl,by rw [E];exact (f ▸ r.blk _ _ A).own trivial,by rw [z,(Hp.get_set b).1,if_pos rfl],λ_=>rfl,(D.fput L off).mono u⟩) idP
   refine ⟨_,d,Y,e,?_,z,y4,y5 id⟩;unfold Pi.DU;simp only [F,hc,cond_false,J];rw [<- D.length,s];simp only [cond_true,b];rfl
  ·cases e
 ·rename_i j i off;split at e
  ·rename_i g c l ex A;replace e:=M9 e;obtain ⟨y,hy,e⟩:=e;replace e:=BD e;obtain ⟨s,e⟩:=e;simp only [VR] at Z;obtain ⟨pid,m,f,rfl⟩:=Z;obtain ⟨es,fz',h2,J,h4,h9,D⟩:=r.rowAt f A;have:=J rfl;subst this;obtain ⟨N,hel,hE⟩:=D.get hy;have I:=IK (X:=X) hE.cells;have hf:=I.fput L off;obtain ⟨y',r',p',q',e1,h6,d1,r1⟩:=NB hf e;split at e1
   ·rw [r1.nil_inv,List.append_nil] at h6;subst h6
    have key : ∃ C,EP g (DR X.h X.Q c) y' C/\(match N with
      | .agg cs=>(X.h.set pid (.row (Pi.lset es i (.agg (Pi.EH cs off q.cells))) ex false)).map Pi.R.skip
      | _=>(match q.cells with
       | [c]=>bif Nat.beq off 0&&Nat.beq N.cells.length 1 then (match c with
        | .agg _=>none
        | .tup _=>none
        | c=>(X.h.set pid (.row (Pi.lset es i c) ex false)).map .skip) else none
       | _=>none))=(X.h.set pid (.row (Pi.lset es i C) ex false)).map .skip:=by
     cases g with
     | true =>
      obtain ⟨cs,rfl,_⟩:=hE;exact ⟨.agg (Pi.EH cs off q.cells),⟨_,rfl,d1⟩,rfl⟩
     | false =>
      have G:DR X.h X.Q c y [N]:=hE;have o:=G.leaf N (by simp);have hlen:(cells c y).length=1:=by rw [I.length,o.2.2];rfl
      simp only [Bool.or_eq_false_iff,Bool.not_eq_false',Nat.blt_eq,Nat.beq_eq] at hc;rw [hlen] at s;have hle':off+sz<=1:=by simpa using s
      have hoff:off=0:=by omega
      have hsz1:sz=1:=by omega
      subst hoff;have B:q.cells.length=1:=by omega
      obtain ⟨c1,hc1⟩ : ∃ c1,q.cells=[c1]:=by
       cases hqq:q.cells with
       | nil=>rw [hqq] at B;simp at B
       | cons a t=>cases t with
        | nil=>exact ⟨a,rfl⟩
        | cons=>rw [hqq] at B;simp at B
      have Ai:Pi.EH N.cells 0 q.cells=[c1]:=by rw [o.2.2,hc1];rfl
      rw [Ai] at d1;have U:=d1.leaf c1 (by simp);refine ⟨c1,d1,?_⟩;exact WB _ o.1 o.2.2 hc1 U.1 U.2.1
    obtain ⟨C,G,hk⟩:=key;have b : ∃ d,X.h.set pid (.row (Pi.lset es i C) ex false)=some d:=Do _ _ _;obtain ⟨d,b⟩:=b
    obtain ⟨Y,O,z,E,y4,y5⟩:=r.set (b':=.row g c (lset l i y') ex false false) (Y6 f) A trivial rfl f h2 (by intros;simp) b
     (λY O z E u=>by
      rw [f];refine .inl ⟨pid,m,_,false,rfl,by rw [E];exact (f ▸ r.blk _ _ A).own trivial,by rw [z,(Hp.get_set b).1,if_pos rfl],λ_=>rfl,by rw [BM];simpa using h4,h9,?_⟩;rw [BM]
      exact EDR.mono u (D.set i G)) idP
    refine ⟨_,d,Y,e1,?_,z,y4,y5 id⟩;unfold Pi.DU;have S:Nat.ble (off+sz) N.cells.length=true:=by rw [<- I.length];exact s
    simp only [F,hc,cond_false,h2,A5,hel,S,cond_true];rw [b] at hk;exact hk
   ·cases e1
  ·cases e
 ·rename_i j off k m;split at e
  ·rename_i cs A;split at e
   ·rename_i W x k0 hk0;replace e:=BD e;obtain ⟨hkk,e⟩:=e;have:=eq_of_beq hkk;subst this;replace e:=AZ e;obtain ⟨l,hl,e⟩:=e;simp only [VR] at Z hw;subst hw;obtain ⟨pid,mm,f,rfl,hlt⟩:=Z;obtain ⟨M,fz',J,h4,D⟩:=r.boxAt f A;have:=h4 rfl;subst this;obtain ⟨i1,i2,i3⟩:=Ps (D.drop off) hl;have Ai:=cj (x:=x) i2 i1 i3 hlt
    have hv:VRL X (Mx cs off (V2 W k x 0 l)) (Pi.EH M (off+k) [.int W x]):=by
     rw [<- Ai];exact D.fput (YI l 0) off
    obtain ⟨d,b⟩:=Do X.h pid (.box (Pi.EH M (off+k) [.int W x]) false)
    obtain ⟨Y,O,z,E,y4,y5⟩:=r.set (b':=.box (Mx cs off (V2 W k x 0 l)) false false) (Y6 f) A trivial rfl f J (by intros;simp) b
     (λY O z E u=>by
      rw [f]
      refine ⟨pid,mm,_,false,rfl,by rw [E];exact (f ▸ r.blk _ _ A).own trivial,by rw [z,(Hp.get_set b).1,if_pos rfl],λ_=>rfl,hv.mono u⟩) idP
    refine ⟨_,d,Y,e,?_,z,y4,y5 id⟩
    have hs1:sz=1:=by
     simp only [Bool.or_eq_false_iff,Bool.not_eq_false',Nat.blt_eq,Nat.beq_eq] at hc;exact hc.2.symm
    subst hs1;unfold Pi.DU;simp only [F,hc,cond_false,J]
    have hb:Nat.ble (off+k+1) M.length=true:=by
     rw [List.length_drop] at i3;simp;omega
    rw [hb];show (X.h.set pid (.box (Pi.EH M (off+k) [.int W x]) false)).map Pi.R.skip=_;rw [b];rfl
   ·cases e
  ·cases e
 ·cases e
end
end Go.Proofs.YtfilfloanndddaaGreat.Sv
namespace Go.Proofs.YtfilfloanndddaaGreat.Sv
variable [Pi.Gl]
open Go.Proofs.YtfilfloanndddaaGreat.Pi (PV T Hp Blk DF UM PE A5 BM)
section
variable {X:Cx} {h:H} {n:Nat} {β:Type} {x:β} {P:Program}
theorem EP.upP {g:Bool} {hh:Hp} {Q:Nat->Prop} {c:Ty} {y:c.den} {e:PV} (h:EP g (DP c) y e):EP g (DR hh Q c) y e:=h.mono λ_ _ k=>k.up
theorem ND {k:Nat} : ∀ {m i:Nat} {K:Nat->Option β},Pg k m i K=some x->K k=some x/\i<=k/\k<i+m
 | 0,_,_,e=>by cases e
 | 1,i,K,e=>by
  unfold Pg at e;obtain ⟨b,a⟩:=Ax e;have:k=i:=by simpa [neq] using b
  subst this;exact ⟨a,Nat.le_refl _,by omega⟩
 | m+2,i,K,e=>by
  unfold Pg at e;rcases Ew e with ⟨b,a⟩ | ⟨b,a⟩
  ·have:k=i:=by simpa [neq] using b
   subst this;exact ⟨a,Nat.le_refl _,by omega⟩
  ·obtain ⟨c,f,d⟩:=ND a;exact ⟨c,by omega,by omega⟩
theorem Qz {s:TypeId} {a:V} {p:PV} {f:Nat} {K:V->Option β} (c:VR X a p) (e:L5 P s a f K=some x) : ∃ v q,K v=some x/\Pi.CV P X.h s p f=some (.val q X.h)/\VR X v q:=by
 unfold L5 at e;unfold Pi.CV;split at e
 ·rename_i u r;split at e
  ·rename_i w k;split at e
   ·rename_i t d;replace e:=DL e;obtain ⟨hc,e⟩:=e;simp only [r,k,d,hc,cond_false];split at e
    ·simp only [VR] at c;obtain ⟨pid,m,b,rfl⟩:=c;exact ⟨_,_,e,rfl,by simp only [VR];exact ⟨pid,m,b,rfl⟩⟩
    ·simp only [VR] at c;obtain ⟨pid,m,b,rfl⟩:=c;exact ⟨_,_,e,rfl,by simp only [VR];exact ⟨pid,m,b,rfl⟩⟩
    ·simp only [VR] at c;rcases c with ⟨g,rfl,b⟩ | ⟨pid,i,off,es,ex,fz,l,rfl,b,n,j,o⟩
     ·exact ⟨_,_,e,rfl,by simp only [VR];exact .inl ⟨_,rfl,b.drop _⟩⟩
     ·refine ⟨_,_,e,rfl,?_⟩;simp only [VR];exact .inr ⟨pid,i,_,es,ex,fz,l,rfl,b,n,j,by rw [<- List.drop_drop];exact o.drop _⟩
    ·simp only [VR] at c;obtain ⟨g,rfl,b⟩:=c;exact ⟨_,_,e,rfl,by simp only [VR];exact ⟨_,rfl,b.drop _⟩⟩
    ·cases e
   ·cases e
  ·cases e
 ·cases e
theorem ZV {h:H} {n len:Nat} {a:V} {j off:Nat} (e:mM h n len a=some (j,off)):a = .ptr j off/\n=1:=by
 unfold mM at e;split at e
 ·split at e
  ·split at e
   ·cases b:(Nat.beq n 1&&(Om _ len _).isSome) with
    | false=>rw [b] at e;cases e
    | true =>
     rw [b] at e;cases e;simp only [Bool.and_eq_true,Nat.beq_eq] at b;exact ⟨rfl,b.1⟩
   ·cases e
  ·cases e
 ·cases e
theorem Q0 (r:RH X h n) {ty:TypeId} {a i:V} {p q:PV} {K:V->Option β} (l:VR X a p) (hi:VR X i q) (e:L6 P h ty a i K=some x) : ∃ v w,K v=some x/\Pi.CK P X.h ty p q=some (.val w X.h)/\VR X v w:=by
 unfold L6 at e;split at e
 ·rename_i et M;replace e:=AZ e;obtain ⟨sz,F,e⟩:=e;replace e:=H0 hi e;obtain ⟨k,e,N⟩:=e;unfold Pi.CK;simp only [M,N,F];split at e
  ·rename_i f g c es;replace e:=M9 e;obtain ⟨y,D,e⟩:=e;replace e:=BD e;obtain ⟨E,e⟩:=e;simp only [VR] at l;rcases l with ⟨rfl,rfl⟩ | ⟨Z,G,rfl,_,o⟩ | ⟨pid,off,len,G,ex,fz,rfl,_,o,h2,I,_,O⟩
   ·simp at D
   ·obtain ⟨C,b,B⟩:=o.get D;have hc:=(MB (X:=Cx.pure) B.upP).cells;refine ⟨_,.view C.cells,e,?_,by simp only [VR];exact .inl ⟨_,rfl,hc⟩⟩;simp only [A5,b];rw [<- hc.length,E];rfl
   ·obtain ⟨C,b,B⟩:=O.get D;have hc:=(MB B).cells
    have L:k<len:=by
     have:=(List.getElem?_eq_some_iff.1 b).1;simp at this;omega
    have u:G[off+k]? = some C:=by
     rw [List.getElem?_take_of_lt L,List.getElem?_drop] at b;exact b
    refine ⟨_,.ept pid (off+k) 0,e,?_,by simp only [VR];exact .inr ⟨pid,off+k,0,G,ex,fz,C,rfl,o,h2,u,by simpa using hc⟩⟩;have A:Nat.blt k len=true:=by simpa using L
    simp only [A,cond_true,h2,A5,u];rw [<- hc.length,E];rfl
  ·rename_i g c es;replace e:=M9 e;obtain ⟨y,D,e⟩:=e;replace e:=BD e;obtain ⟨E,e⟩:=e;simp only [VR] at l;rcases l with ⟨rfl,rfl⟩ | ⟨Z,G,rfl,o⟩
   ·simp at D
   ·obtain ⟨C,b,B⟩:=o.get D;have hc:=(IL (X:=Cx.pure) B).cells;refine ⟨_,.view C.cells,e,?_,by simp only [VR];exact ⟨_,rfl,hc⟩⟩;simp only [A5,b];rw [<- hc.length,E];rfl
  ·rename_i f es;replace e:=ND e;obtain ⟨e,_,_⟩:=e;replace e:=AZ e;obtain ⟨C,b,e⟩:=e;replace e:=BD e;obtain ⟨E,e⟩:=e;simp only [VR] at l;obtain ⟨Z,G,rfl,_,o⟩:=l;obtain ⟨elP,u,B⟩:=o.lget b;refine ⟨_,.view elP.cells,e,?_,by simp only [VR];exact .inl ⟨_,rfl,B.cells⟩⟩;simp only [u];rw [<- B.cells.length,E];rfl
  ·rename_i j;split at e
   ·rename_i g c es ex lk U;replace e:=Ax e;obtain ⟨s,e⟩:=e;replace e:=BD e;obtain ⟨E,e⟩:=e;have d:k<es.length:=by simpa [C7,AA] using s
    simp only [VR] at l;have A:=r.blk _ _ U;cases z:X.π j with
    | none=>rw [z] at l;exact l.elim
    | some t =>
     rw [z] at l A;rcases A with ⟨pid,len,G,W,o,h2,I,O,Y,h7,S⟩ | ⟨o,_,h2⟩ | ⟨_,o,_,h2,_⟩
     ·cases o;simp only at l;subst l;obtain ⟨y,D⟩ : ∃ y,es[k]? = some y:=⟨es[k],List.getElem?_eq_getElem d⟩;obtain ⟨C,b,B⟩:=S.get D;refine ⟨_,.ept pid (0+k) 0,e,?_,by simp only [VR];exact ⟨pid,len,z,by simp⟩⟩;have A:Nat.blt k len=true:=by rw [<- Y,<- S.length];simpa using d
      simp only [A,cond_true,I,A5,Nat.zero_add,b];rw [B.wd,E];rfl
     ·subst h2;simp at d
     ·rcases h2 with h2 | h2
      ·cases h2
      ·subst h2;simp at d
   ·cases e
  ·rename_i j off len;replace e:=Ax e;obtain ⟨s,e⟩:=e;split at e
   ·rename_i g c es ex fz lk U;replace e:=Ax e;obtain ⟨J,e⟩:=e;replace e:=BD e;obtain ⟨E,e⟩:=e;simp only [VR] at l;obtain ⟨pid,m,z,rfl⟩:=l;obtain ⟨G,W,I,_,Y,_,S⟩:=r.rowAt z U;have d:off+k<es.length:=by simpa [C7,AA,Ag] using J
    obtain ⟨y,D⟩ : ∃ y,es[off+k]? = some y:=⟨es[off+k],List.getElem?_eq_getElem d⟩;obtain ⟨C,b,B⟩:=S.get D;refine ⟨_,.ept pid (off+k) 0,e,?_,by simp only [VR];exact ⟨pid,m,z,rfl⟩⟩;have A:Nat.blt k len=true:=s;simp only [A,cond_true,I,A5,b];rw [B.wd,E];rfl
   ·cases e
  ·cases e
 ·rename_i len et M;replace e:=AZ e;obtain ⟨sz,F,e⟩:=e;replace e:=H0 hi e;obtain ⟨k,e,N⟩:=e;unfold Pi.CK;split at e
  ·rename_i j off hj;replace e:=Ax e;obtain ⟨s,e⟩:=e;obtain ⟨rfl,rfl⟩:=ZV hj;have A:Nat.blt k len=true:=s;have d:k<len:=by simpa [C7] using s
   simp only [M,N,F,A,cond_true];simp only [VR] at l;obtain ⟨pid,m,o,rfl⟩:=l;exact ⟨_,_,e,rfl,by simp only [VR];exact ⟨pid,m,o,by rw [Nat.mul_one],d⟩⟩
  replace e:=ND e;obtain ⟨e,_,s⟩:=e;have A:Nat.blt k len=true:=by simpa using s
  simp only [M,N,F,A,cond_true];split at e
  ·simp only [VR] at l;obtain ⟨pid,m,o,rfl⟩:=l;exact ⟨_,_,e,rfl,by simp only [VR];exact ⟨pid,m,o,rfl⟩⟩
  ·simp only [VR] at l;obtain ⟨pid,m,o,rfl⟩:=l;exact ⟨_,_,e,rfl,by simp only [VR];exact ⟨pid,m,o,rfl⟩⟩
  ·simp only [VR] at l;rcases l with ⟨G,rfl,o⟩ | ⟨pid,i,off,es,ex,fz,C,rfl,o,h2,I,O⟩
   ·exact ⟨_,_,e,rfl,by simp only [VR];exact .inl ⟨_,rfl,o.drop _⟩⟩
   ·refine ⟨_,_,e,rfl,?_⟩;simp only [VR];exact .inr ⟨pid,i,_,es,ex,fz,C,rfl,o,h2,I,by rw [<- List.drop_drop];exact O.drop _⟩
  ·simp only [VR] at l;obtain ⟨G,rfl,o⟩:=l;exact ⟨_,_,e,rfl,by simp only [VR];exact ⟨_,rfl,o.drop _⟩⟩
  ·cases e
 ·cases e
theorem ZW {ty:TypeId} {a i:V} {p q:PV} {K:V->Option β} (n:VR X a p) (hi:VR X i q) (e:V7 P ty a i K=some x) : ∃ v w,K v=some x/\Pi.FQ P X.h ty p q=some (.val w X.h)/\VR X v w:=by
 unfold V7 at e;split at e
 ·rename_i len y cs m;replace e:=AZ e;obtain ⟨t,c,e⟩:=e;replace e:=H0 hi e;obtain ⟨k,e,g⟩:=e;replace e:=ND e;obtain ⟨e,_,d⟩:=e;replace e:=AZ e;obtain ⟨v,s,e⟩:=e;obtain ⟨u,rfl,j⟩:=n.agg_inv;obtain ⟨w,r,o⟩:=Ed (j.drop _) s;refine ⟨v,w,e,?_,o⟩;unfold Pi.FQ;have f:Nat.blt k len=true:=by simpa using d
  simp only [m,g,f,cond_true,c];exact DC r
 ·rename_i l m;replace e:=H0 hi e;obtain ⟨k,e,g⟩:=e;replace e:=M9 e;obtain ⟨b,f,e⟩:=e;simp only [VR] at n;subst n;refine ⟨_,_,e,?_,by simp only [VR];rfl⟩;unfold Pi.FQ;simp only [m,g,A5,f];rfl
 ·cases e
theorem ck (r:RH X h n) {ty:TypeId} {a:V} {p:PV} {K:Int->Option β} {w:Array TypeId} (G:w[0]? = some ty) (b:VR X a p) (e:cU P h ty a K=some x) (id:Nat) : ∃ m,K m=some x/\Pi.Al P X.h id .len w [p]=some (.val (.int .i64 m) X.h):=by
 unfold cU at e;unfold Pi.Al;simp only [G];split at e
 ·rename_i d;split at e
  ·rename_i k g c l C z;simp only [VR] at b;obtain ⟨pid,m,i,rfl⟩:=b;have s:=r.blk _ _ z;rw [i] at s;obtain ⟨_,_,es,o,B,y,A⟩:=s;cases o;refine ⟨_,e,?_⟩;simp only [d,y,Ab,AA,A.length]
  ·cases e
 ·rename_i d;simp only [VR] at b;subst b;exact ⟨_,e,by simp only [d]⟩
 ·rename_i d;exact ⟨_,e,by simp only [d]⟩
 ·rename_i d;simp only [VR] at b;subst b;exact ⟨_,e,by simp only [d]⟩
 ·rename_i f g c l d;simp only [VR] at b;refine ⟨_,e,?_⟩;rcases b with ⟨rfl,rfl⟩ | ⟨F,q,rfl,_,i⟩ | ⟨pid,off,len,q,ex,fz,rfl,_,i,o,B,_,y⟩
  ·simp only [d];rfl
  ·simp only [d,Ab,AA,i.length]
  ·simp only [d,Ab,AA,y.length];have:((q.drop off).take len).length=len:=by simp;omega
   rw [this]
 ·rename_i f es d;simp only [VR] at b;obtain ⟨F,q,rfl,_,i⟩:=b;exact ⟨_,e,by simp only [d,i.length]⟩
 ·rename_i j d;split at e
  ·rename_i g c l ex fz C z;simp only [VR] at b;have s:=r.blk _ _ z;cases u:X.π j with
   | none=>rw [u] at b;exact b.elim
   | some t =>
    rw [u] at b s;refine ⟨_,e,?_⟩;rcases s with ⟨pid,len,q,E,i,o,B,y,A,I,D⟩ | ⟨i,_,o⟩ | ⟨q,i,_,_,o⟩
    ·cases i;simp only at b;subst b;simp only [d,Ab,AA,D.length,A]
    ·cases i;simp only at b;subst b;subst o;simp only [d];rfl
    ·cases i;simp only at b;subst b;simp only [d,Ab,AA,o.length]
  ·cases e
 ·rename_i d;simp only [VR] at b;obtain ⟨pid,m,i,rfl⟩:=b;exact ⟨_,e,by simp only [d];rfl⟩
 ·rename_i l d;simp only [VR] at b;subst b;exact ⟨_,e,by simp only [d];rfl⟩
 ·cases e
theorem kP (r:RH X h n) {ty:TypeId} {a:V} {p:PV} {K:Int->Option β} {b:Array TypeId} (d:b[0]? = some ty) (c:VR X a p) (e:nZ P h ty a K=some x) (id:Nat) : ∃ m,K m=some x/\Pi.Al P X.h id .len b [p]=some (.val (.int .i64 m) X.h) :=
 ck r d c.norm e id
end
end Go.Proofs.YtfilfloanndddaaGreat.Sv
