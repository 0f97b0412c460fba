/- A part of the evaluator over typed open values for any program, and of the proof that it is sound. No condition. -/
import Derived.Test.YthpkjfabdccpdaaGreatPp2
import GoSem.Step
set_option linter.all false
namespace Go.Proofs.YthpkjfabdccpdaaGreat.Sv
section
variable {α β γ:Type}
def gd (c:Bool) (k:Unit->Option β):Option β:=bif c then k () else none
def br (c:Bool) (a b:Unit->Option β):Option β:=bif c then a () else b ()
def ix (l:List α) (i:Nat) (k:α->Option β):Option β:=match l[i]? with
 | some x=>k x
 | none=>none
def AO (n:Int) (k:Nat->Option β):Option β:=bif decide (0<=n) then k n.toNat else none
def bd (m:Option α) (k:α->Option β):Option β:=match m with
 | some x=>k x
 | none=>none
inductive LR (α β:Type) where
 | nx (s:α)
 | dn (x:β)
def D7:Nat->(α->Option (LR α β))->α->Option β
 | 0,_,_=>none
 | n+1,f,s=>match f s with
  | none=>none
  | some (.nx s)=>D7 n f s
  | some (.dn x)=>some x
def loop (f:α->Option (LR α β)) (s:α):Option β:=D7 18446744073709551616 f s
def jn {δ:Type} (f:α->Option (LR δ γ)) (s:α) (k:δ->Option β) (k2:γ->Option β):Option β:=match f s with
 | none=>none
 | some (.nx x)=>k x
 | some (.dn x)=>k2 x
def AH (k:IntKind) (a b:Int):Int:=k.wrap (a+b)
def A9 (k:IntKind) (a b:Int):Int:=k.wrap (a-b)
def Kh (k:IntKind) (a b:Int):Int:=k.wrap (a*b)
def Hq (k:IntKind) (a b:Int):Int:=k.wrap (a.tdiv b)
def mE (_:IntKind) (a b:Int):Int:=a.tmod b
def mF (k:IntKind) (a b:Int):Int:=k.wrap (BitVec.ofInt k.bits a &&& BitVec.ofInt k.bits b).toNat
def py (k:IntKind) (a b:Int):Int:=k.wrap (BitVec.ofInt k.bits a ||| BitVec.ofInt k.bits b).toNat
def mG (k:IntKind) (a b:Int):Int:=k.wrap (BitVec.ofInt k.bits a ^^^ BitVec.ofInt k.bits b).toNat
def To (k:IntKind) (a b:Int):Int:=k.wrap (a*2 ^ (min b.toNat k.bits))
def Qy (k:IntKind) (a b:Int):Int:=a.fdiv (2 ^ (min b.toNat k.bits))
def jz (k:IntKind) (a:Int):Int:=k.wrap (0-a)
def Rq (k:IntKind) (a:Int):Int:=k.wrap a
def Bh (a b:Int):Bool:=a == b
def Aq (a b:Int):Bool:=a != b
def Ag (a b:Int):Bool:=decide (a<b)
def PY (a b:Int):Bool:=decide (a<=b)
def Bv (a b:Int):Bool:=decide (a>b)
def Iu (a b:Int):Bool:=decide (a>=b)
def Nl (a b:Int):Int:=if b>a then b else a
def NZ (a b:Int):Int:=if b<a then b else a
def AV (a:Bool):Bool := !a
def BZ (a b:Bool):Bool:=a&&b
def beq (a b:Bool):Bool:=a == b
def AW (n:Nat):Int:=n
def AK (a b:Nat):Nat:=a+b
def CJ (a b:Nat):Nat:=a-b
def A0 (a b:Nat):Bool:=Nat.ble a b
def CB (a b:Nat):Bool:=Nat.blt a b
def neq (a b:Nat):Bool:=Nat.beq a b
def f6 (a b:Nat):Nat:=Nat.min a b
def Fb (l:List UInt8):Nat:=l.length
def mH (a b:List UInt8):List UInt8:=a++b
def seq (a b:List UInt8):Bool:=a == b
def Bl (a b:List UInt8):Bool:=Op.bytesLess a b
def j0 (l:List UInt8) (lo hi:Nat):List UInt8:=(l.drop lo).take (hi-lo)
def SS (b:UInt8):Int:=b.toNat
def AA (l:List α):Nat:=l.length
def CC (a b:List α):List α:=a++b
def B6 (l:List α) (lo hi:Nat):List α:=(l.drop lo).take (hi-lo)
def lset (l:List α) (i:Nat) (x:α):List α:=l.set i x
def CW (n:Nat) (x:α):List α:=List.replicate n x
def DI (l:List α) (off:Nat) (x:List α) (n:Nat):List α:=l.take off++(x.take n++l.drop (off+(x.take n).length))
def LB (e:γ->γ->Bool):List (γ×α)->γ->Option α
 | [],_=>none
 | (k,v)::l,x=>bif e x k then some v else LB e l x
def IU (e:γ->γ->Bool):List (γ×α)->γ->α->List (γ×α)
 | [],x,y=>[(x,y)]
 | (k,v)::l,x,y=>bif e x k then (x,y)::l else (k,v)::IU e l x y
def Lh (e:γ->γ->Bool):List (γ×α)->γ->List (γ×α)
 | [],_=>[]
 | (k,v)::l,x=>bif e x k then l else (k,v)::Lh e l x
def PZ (o:Option α) (z:α):α:=o.getD z
def pq (o:Option α):Bool:=o.isSome
end
end Go.Proofs.YthpkjfabdccpdaaGreat.Sv
namespace Go.Proofs.YthpkjfabdccpdaaGreat.Sv
open Go.Proofs.YthpkjfabdccpdaaGreat.Pi (PV T DF UM PE lget)
inductive Ty where
 | int (k:IntKind)
 | bool
 | str
 | unit
 | pair (a b:Ty)
 | sl (g:Bool) (c:Ty)
 deriving DecidableEq
@[reducible] def Ty.den:Ty->Type
 | .int _=>Int
 | .bool=>Bool
 | .str=>List UInt8
 | .unit=>Unit
 | .pair a b=>a.den×b.den
 | .sl _ c=>List c.den
inductive V where
 | bool (b:Bool)
 | int (k:IntKind) (n:Int)
 | str (l:List UInt8)
 | nilp | nils | nilm | nilf | nili
 | agg (cs:List V)
 | tup (vs:List V)
 | lf (full g:Bool) (c:Ty) (l:List c.den)
 | pl (g:Bool) (c:Ty) (l:List c.den)
 | exl (full:Bool) (es:List V)
 | ow (id:Nat)
 | own (id off len:Nat)
 | ptr (id off:Nat)
 | ept (id i off:Nat)
 | view (cs:List V)
 | pv (cs:List V)
 | fn (f:Fn) (first captured:List V)
 | yl (id:Nat)
 | ifc (t:TypeId) (v:V)
 | mp (id:Nat)
structure PEA where
 v:V
 recovered:Bool
inductive UMA where
 | ret
 | pan (ch:List PEA)
inductive DFA where
 | call (f:V) (args:List V)
 | bi (b:Builtin) (ats:Array TypeId) (ty:TypeId) (args:List V)
 | col (id:Nat)
inductive ExA where
 | normal
 | exit (id:Nat)
 | goto (l:Nat)
 | ret
 | panic (v:V)
inductive BA where
 | box (cs:List V) (fz lk:Bool)
 | row (g:Bool) (c:Ty) (l:List c.den) (ex fz lk:Bool)
 | mp (k:Ty) (g:Bool) (c:Ty) (l:List (k.den×c.den)) (lk:Bool)
 | lp (st:Nat) (pend:Option Code) (nt:Nat) (t:T V) (ps:List Nat) (asg body:Code) (d:Nat)
 | df (ds:Option (List DFA))
 | dead
abbrev H:=T BA
structure FrA where
 t:T V
 nt:Nat
 ds:List DFA
 up:Option UMA
 ro:Option Nat
inductive OutA where
 | ret (v:V)
 | pan (ch:List PEA)
def V.cells:V->List V
 | .agg cs=>cs
 | .tup _=>[]
 | v=>[v]
def cells:(c:Ty)->c.den->List V
 | .int k,n=>[.int k n]
 | .bool,b=>[.bool b]
 | .str,s=>[.str s]
 | .unit,_=>[]
 | .pair a b,x=>cells a x.1++cells b x.2
 | .sl g c,l=>[.lf false g c l]
def Mj:(c:Ty)->c.den->List V
 | .int k,n=>[.int k n]
 | .bool,b=>[.bool b]
 | .str,s=>[.str s]
 | .unit,_=>[]
 | .pair a b,x=>Mj a x.1++Mj b x.2
 | .sl g c,l=>[.pl g c l]
def elP (g:Bool) (c:Ty) (x:c.den):V:=bif g then .agg (Mj c x) else match Mj c x with
 | [v]=>v
 | _ => .nilp
def V.norm:V->V
 | .pl g c l => .lf false g c l
 | .pv cs => .view cs
 | v=>v
def XC (g:Bool) (c:Ty) (x:c.den):V:=bif g then .agg (cells c x) else match cells c x with
 | [v]=>v
 | _ => .nilp
def V9:(c:Ty)->c.den
 | .int _=>(0:Int)
 | .bool=>false
 | .str=>[]
 | .unit=>()
 | .pair a b=>(V9 a,V9 b)
 | .sl _ _=>[]
def Ty.depth:Ty->Nat
 | .pair a b=>Nat.max a.depth b.depth
 | .sl _ c=>c.depth+1
 | _=>0
def Ty.wd:Ty->Nat
 | .unit=>0
 | .pair a b=>a.wd+b.wd
 | _=>1
def Ty.hasSl:Ty->Bool
 | .pair a b=>a.hasSl||b.hasSl
 | .sl _ _=>true
 | _=>false
def ZZ (rec:TypeId->Option (Bool×Ty)):List Field->Option Ty
 | []=>some .unit
 | [f]=>(rec f.type).map (·.2)
 | f::fs=>match rec f.type,ZZ rec fs with
  | some (_,c),some r=>some (.pair c r)
  | _,_=>none
def iZ:Nat->Ty->Ty
 | 0,_ => .unit
 | 1,c=>c
 | n+1,c => .pair c (iZ n c)
def Tp (P:Program):Nat->TypeId->Option (Bool×Ty)
 | 0,_=>none
 | d+1,t=>match P.underlying t with
  | some (.int k)=>some (false,.int k)
  | some .bool=>some (false,.bool)
  | some .string=>some (false,.str)
  | some (.slice e)=>(Tp P d e).map λ(g,c)=>(false,.sl g c)
  | some (.struct fs)=>(ZZ (Tp P d) fs.toList).map λc=>(true,c)
  | some (.array n e)=>(Tp P d e).map λ(_,c)=>(true,iZ n c)
  | _=>none
def l7:Nat:=14
section
variable {β:Type}
def H0 {c c':Ty} (l:List c.den) (K:List c'.den->Option β):Option β:=if e:c=c' then K (e ▸ l) else none
def ib {k c k' c':Ty} (l:List (k.den×c.den)) (K:List (k'.den×c'.den)->Option β):Option β :=
 if e:k=k' then if e2:c=c' then K (e ▸ e2 ▸ l) else none else none
def Za {α:Type} (d:V->(α->Option β)->Option β):List V->(List α->Option β)->Option β
 | [],K=>K []
 | v::vs,K=>d v λx=>Za d vs λl=>K (x::l)
def Ib (h:H):(c:Ty)->List V->(c.den->List V->Option β)->Option β
 | .int k,vs,K=>match vs with
  | .int k' n::r=>bif k == k' then K n r else none
  | _=>none
 | .bool,vs,K=>match vs with
  | .bool b::r=>K b r
  | _=>none
 | .str,vs,K=>match vs with
  | .str s::r=>K s r
  | _=>none
 | .unit,vs,K=>K () vs
 | .pair a b,vs,K=>Ib h a vs λx r=>Ib h b r λy r=>K (x,y) r
 | .sl g c,vs,K=>match vs with
  | .nils::r=>K [] r
  | .lf _ g' _ l::r=>bif g == g' then H0 l λl=>K l r else none
  | .pl g' _ l::r=>bif g == g' then H0 l λl=>K l r else none
  | .exl _ es::r=>Za (λv K=>bif g then (match v with
    | .agg cs=>Ib h c cs λx q=>match q with
     | []=>K x
     | _=>none
    | _=>none) else Ib h c [v] λx q=>match q with
     | []=>K x
     | _=>none) es λl=>K l r
  | .ow id::r=>match h.get id with
   | some (.row g' _ l _ _ _)=>bif g == g' then H0 l λl=>K l r else none
   | _=>none
  | .own id off len::r=>match h.get id with
   | some (.row g' _ l _ _ _)=>bif g == g' then gd (A0 (AK off len) (AA l)) λ_=>H0 (B6 l off (AK off len)) λl=>K l r else none
   | _=>none
  | _=>none
def OL (h:H) (g:Bool) (c:Ty) (v:V) (K:c.den->Option β):Option β:=bif g then (match v with
  | .agg cs=>Ib h c cs λx q=>match q with
   | []=>K x
   | _=>none
  | _=>none) else Ib h c [v] λx q=>match q with
   | []=>K x
   | _=>none
end
def L0:Value->Option V
 | .bool b=>some (.bool b)
 | .int k n=>some (.int k n)
 | .string s=>some (.str s.data.toList)
 | .pointer none=>some .nilp
 | .slice none 0 0=>some .nils
 | .map none=>some .nilm
 | .nilFunc=>some .nilf
 | .nilIface=>some .nili
 | .func (.func f) first cap=>if first.isEmpty&&cap.isEmpty then some (.fn (.func f) [] []) else none
 | _=>none
def Ic:List Value->Option (List V)
 | []=>some []
 | v::l=>match L0 v,Ic l with
  | some p,some ps=>some (p::ps)
  | _,_=>none
def Qz:Value->Option V
 | .agg cs=>(Ic cs.toList).map .agg
 | .tuple vs=>bif vs.isEmpty then some (.tup []) else none
 | .iface t v=>match L0 v with
  | some p=>some (.ifc t p)
  | none=>none
 | v=>L0 v
def Gb (P:Program) (t:TypeId):Option (List V):=match P.info? t with
 | some i=>match i.zero with
  | some z=>Ic z.cells.toList
  | none=>none
 | none=>none
def HH (P:Program) (e:TypeId):Option V:=match P.info? e with
 | some i=>match i.zero with
  | some z=>Qz z
  | none=>none
 | none=>none
def Ie (P:Program) (t:TypeId) (cs:List V):Option V:=match Pi.Ru P t,Pi.BS P t with
 | some true,some n=>bif Nat.ble n cs.length then some (.agg (cs.take n)) else none
 | some false,some _=>match cs with
  | c::_=>some c
  | []=>none
 | _,_=>none
def Ae (h:H) (id:Nat) (b:BA):H:=T.put 20 h id b
def Py (cs:List V) (off:Nat) (x:List V):List V:=cs.take off++(x++cs.drop (off+x.length))
inductive RA where
 | val (v:V) (h:H)
 | skip (h:H)
 | call (f:FuncId) (args:List V)
 | yield (id:Nat) (args:List V)
 | pan (v:V)
 | rcv
 | dfr (d:DFA)
section
variable {β:Type}
def G1 {α:Type} (o:Option α) (K:α->Option β):Option β:=match o with
 | some x=>K x
 | none=>none
def C9 (t:T V) (o:Operand) (K:V->Option β):Option β:=match o with
 | .tmp k=>G1 (t.get k) K
 | .const v=>G1 (Qz v) K
 | .func f=>K (.fn (.func f) [] [])
 | .global _=>none
def XD (t:T V):List Operand->(List V->Option β)->Option β
 | [],K=>K []
 | o::l,K=>C9 t o λv=>XD t l λvs=>K (v::vs)
def f7 (t:T V) (o:Option Operand) (K:Option V->Option β):Option β:=match o with
 | none=>K none
 | some o=>C9 t o λv=>K (some v)
def OM (v:V) (K:Nat->Option β):Option β:=match v with
 | .int _ n=>AO n K
 | _=>none
def Fc (d:Nat) (o:Option V) (K:Nat->Option β):Option β:=match o with
 | none=>K d
 | some v=>OM v K
def Q0 (v:V) (K:Nat->Option β):Option β:=match v with
 | .int .i64 n=>AO n K
 | _=>none
def i4 (op:BinOp) (k:IntKind) (a b:Int) (K:V->Option β):Option β:=match op with
 | .add=>K (.int k (AH k a b))
 | .sub=>K (.int k (A9 k a b))
 | .mul=>K (.int k (Kh k a b))
 | .quo=>gd (Aq b 0) λ_=>K (.int k (Hq k a b))
 | .rem=>gd (Aq b 0) λ_=>K (.int k (mE k a b))
 | .eql=>K (.bool (Bh a b))
 | .neq=>K (.bool (Aq a b))
 | .lss=>K (.bool (Ag a b))
 | .leq=>K (.bool (PY a b))
 | .gtr=>K (.bool (Bv a b))
 | .geq=>K (.bool (Iu a b))
 | .and=>K (.int k (mF k a b))
 | .or=>K (.int k (py k a b))
 | .xor=>K (.int k (mG k a b))
 | _=>none
def Tq (op:BinOp) (k:IntKind) (a b:Int) (K:V->Option β):Option β:=match op with
 | .shl=>gd (Iu b 0) λ_=>K (.int k (To k a b))
 | .shr=>gd (Iu b 0) λ_=>K (.int k (Qy k a b))
 | _=>none
def i5 (op:BinOp) (a b:List UInt8) (K:V->Option β):Option β:=match op with
 | .add=>gd (A0 (AK (Fb a) (Fb b)) 1000000000) λ_=>K (.str (mH a b))
 | .eql=>K (.bool (seq a b))
 | .neq=>K (.bool (AV (seq a b)))
 | .lss=>K (.bool (Bl a b))
 | .leq=>K (.bool (AV (Bl b a)))
 | .gtr=>K (.bool (Bl b a))
 | .geq=>K (.bool (AV (Bl a b)))
 | _=>none
end
mutual
def f8 (P:Program):Nat->TypeId->V->V->Option Bool
 | 0,_,_,_=>none
 | d+1,t,x,y=>match P.underlying t with
  | some .bool=>match x,y with
   | .bool a,.bool b=>some (beq a b)
   | _,_=>none
  | some (.int _)=>match x,y with
   | .int k a,.int k' b=>bif k == k' then some (Bh a b) else none
   | _,_=>none
  | some .string=>match x,y with
   | .str a,.str b=>some (seq a b)
   | _,_=>none
  | some (.pointer _)=>match x,y with
   | .nilp,.nilp=>some true
   | .nilp,.ptr _ _ | .nilp,.view _ | .nilp,.pv _ | .nilp,.ept _ _ _ | .ptr _ _,.nilp | .view _,.nilp | .pv _,.nilp | .ept _ _ _,.nilp=>some false
   | _,_=>none
  | some (.slice _)=>match x,y with
   | .nils,.nils=>some true
   | .nils,.exl _ _ | .exl _ _,.nils | .nils,.lf _ _ _ (_::_) | .lf _ _ _ (_::_),.nils | .nils,.pl _ _ (_::_) | .pl _ _ (_::_),.nils | .nils,.own _ _ _ | .own _ _ _,.nils=>some false
   | _,_=>none
  | some (.func _ _ _)=>match x,y with
   | .nilf,.nilf=>some true
   | .nilf,.fn _ _ _ | .fn _ _ _,.nilf=>some false
   | _,_=>none
  | some (.interface _)=>match x,y with
   | .nili,.nili=>some true
   | .nili,.ifc _ _ | .ifc _ _,.nili=>some false
   | .ifc t a,.ifc t' b=>bif Nat.beq t t' then (match P.info? t with
     | some i=>bif i.comparable then f8 P d t a b else none
     | none=>none) else some false
   | _,_=>none
  | some (.struct fs)=>match x,y with
   | .agg a,.agg b=>bif P.stoodInHeld t then none else Ts P d fs.toList a b
   | _,_=>none
  | some (.array n e)=>match x,y with
   | .agg a,.agg b=>bif (Pi.BS P e).isSome then XE P d n e a b else none
   | _,_=>none
  | _=>none
def Ts (P:Program):Nat->List Field->List V->List V->Option Bool
 | 0,_,_,_=>none
 | _+1,[],_,_=>some true
 | d + 1, f :: fs, a, b => bif f.name == "_" then Ts P d fs a b else match Ie P f.type (a.drop f.offset), Ie P f.type (b.drop f.offset) with
  | some x,some y=>(match f8 P d f.type x y,Ts P d fs a b with
   | some c,some r=>some (BZ c r)
   | _,_=>none)
  | _,_=>none
def XE (P:Program):Nat->Nat->TypeId->List V->List V->Option Bool
 | 0,_,_,_,_=>none
 | _+1,0,_,_,_=>some true
 | d+1,n+1,e,a,b=>match Pi.BS P e,Ie P e a,Ie P e b with
  | some s,some x,some y=>(match f8 P d e x y,XE P d n e (a.drop s) (b.drop s) with
   | some c,some r=>some (BZ c r)
   | _,_=>none)
  | _,_,_=>none
end
section
variable {β:Type}
def i6 (P:Program) (op:BinOp) (ty:TypeId) (x y:Operand) (a b:V) (K:V->Option β):Option β:=match a,b with
 | .int k a,.int k' b=>match op with
  | .shl | .shr=>Tq op k a b K
  | _=>bif k == k' then i4 op k a b K else none
 | .str a,.str b=>i5 op a b K
 | .nili,.nili=>bif Pi.Fs x||Pi.Fs y then G1 (f8 P 64 ty .nili .nili) λc=>(match op with
  | .eql=>K (.bool c)
  | .neq=>K (.bool (AV c))
  | _=>none) else none
 | .agg a,.agg b=>bif P.eqGuardType P.depth ty then none else G1 (f8 P 64 ty (.agg a) (.agg b)) λc=>(match op with
  | .eql=>K (.bool c)
  | .neq=>K (.bool (AV c))
  | _=>none)
 | a,b=>G1 (f8 P 64 ty a b) λc=>match op with
  | .eql=>K (.bool c)
  | .neq=>K (.bool (AV c))
  | _=>none
def mI (op:UnOp) (a:V) (K:V->Option β):Option β:=match a with
 | .bool b=>match op with
  | .not=>K (.bool (AV b))
  | _=>none
 | .int k n=>match op with
  | .neg=>K (.int k (jz k n))
  | _=>none
 | _=>none
def purA (h:H):Nat->V->(V->List Nat->Option β)->Option β
 | 0,_,_=>none
 | n+1,v,K=>match v with
  | .agg cs=>purAs (purA h n) cs λx l=>K (.agg x) l
  | .tup cs=>purAs (purA h n) cs λx l=>K (.tup x) l
  | .ifc t x=>purA h n x λx l=>K (.ifc t x) l
  | .fn f a b=>purAs (purA h n) a λa l=>purAs (purA h n) b λb m=>K (.fn f a b) (l++m)
  | .lf _ g c l=>bif Nat.ble (2*c.depth+3) (n+7) then K (.lf false g c l) [] else none
  | .pl g c l=>K (.pl g c l) []
  | .ow id=>match h.get id with
   | some (.row g c l _ _ _)=>bif Nat.ble (2*c.depth+3) (n+7) then K (.lf false g c l) [id] else none
   | _=>none
  | .own id off len=>match h.get id with
   | some (.row g c l _ _ _)=>bif Nat.ble (2*c.depth+3) (n+7) then gd (A0 (AK off len) (AA l)) λ_=>K (.lf false g c (B6 l off (AK off len))) [id] else none
   | _=>none
  | .ptr _ _ | .view _ | .pv _ | .ept _ _ _ | .yl _ | .mp _=>none
  | v=>K v []
where
 purAs (p:V->(V->List Nat->Option β)->Option β):List V->(List V->List Nat->Option β)->Option β
  | [],K=>K [] []
  | v::vs,K=>p v λx l=>purAs p vs λxs m=>K (x::xs) (l++m)
def WA (h:H):List V->(List V->List Nat->Option β)->Option β
 | [],K=>K [] []
 | v::vs,K=>purA h 6 v λx l=>WA h vs λxs m=>K (x::xs) (l++m)
end
def FX (h:H):List Nat->Option H
 | []=>some h
 | id::l=>match h.get id with
  | some (.row g c x ex fz lk)=>bif fz then FX h l else bif lk then none else FX (Ae h id (.row g c x ex true false)) l
  | _=>none
def ON (cs:List V):List (Nat×Nat×List V)->Option (List V)
 | []=>some cs
 | (off,n,x)::r=>bif Nat.beq x.length n&&Nat.ble (off+n) cs.length then ON (Py cs off x) r else none
def Q3 (size:Nat) (es:List V):List (Nat×V)->Option (List V)
 | []=>some es
 | (i,v)::r=>bif Nat.beq v.cells.length size&&Nat.blt i es.length then Q3 size (Pi.lset es i v) r else none
def KU (P:Program) (fs:Array Field):List (Nat×V)->Option (List (Nat×Nat×List V))
 | []=>some []
 | (i,p)::l=>match fs[i]?,KU P fs l with
  | some f,some r=>(match Pi.BS P f.type with
   | some n=>bif Nat.blt 0 n then some ((f.offset,n,p.cells)::r) else none
   | none=>none)
  | _,_=>none
def LC (size:Nat):List (Nat×V)->List (Nat×Nat×List V)
 | []=>[]
 | (i,p)::l=>(i*size,size,p.cells)::LC size l
def WB (isAgg:Bool) (cs:List V):Option V :=
 bif isAgg then some (.agg cs) else match cs with
  | [c]=>some c
  | _=>none
def j7 (P:Program) (st:TypeId):Option (Bool×Ty):=match P.underlying st with
 | some (.slice e)=>Tp P l7 e
 | _=>none
def i7:(k:Ty)->Option (k.den->k.den->Bool)
 | .int _=>some (λ(a b:Int)=>Bh a b)
 | .bool=>some (λ(a b:Bool)=>beq a b)
 | .str=>some (λ(a b:List UInt8)=>seq a b)
 | _=>none
section
variable {β:Type}
def L1 (t:T V):List (Nat×Operand)->(List (Nat×V)->Option β)->Option β
 | [],K=>K []
 | (i,o)::l,K=>C9 t o λv=>L1 t l λr=>K ((i,v)::r)
def OO (k:Nat):Nat->Nat->(Nat->Option β)->Option β
 | 0,_,_=>none
 | 1,i,K=>gd (neq k i) λ_=>K i
 | n+1,i,K=>br (neq k i) (λ_=>K i) λ_=>OO k n (i+1) K
def Q4 (h:H) (g:Bool) (c:Ty) (v:V) (K:List c.den->Option β):Option β:=Ib h (.sl g c) [v] λl _=>K l
def Pz (P:Program) (st:TypeId) (c:Ty):Bool:=match P.underlying st with
 | some (.slice e)=>(match P.info? e,Pi.zeroCells P e with
  | some ti,some z=>Nat.beq ti.size c.wd&&Nat.ble ti.bytes 1048576&&Nat.beq z.length ti.size&&Nat.blt 0 ti.size
  | _,_=>false)
 | _=>false
def i8 (P:Program) (h:H) (id:Nat) (st:TypeId) (s x:V) (K:RA->Option β):Option β :=
 G1 (j7 P st) λ(g,c)=>bif Pz P st c then Q4 h g c x λnew=>match s with
  | .nils=>gd (A0 (AA new) 1048576) λ_=>K (.val (.ow id) (Ae h id (.row g c new false false false)))
  | .lf true g' _ l=>bif g == g' then gd (A0 (AK (AA l) (AA new)) 1048576) λ_=>H0 l λl=>(match x with
   | .exl _ (_::_)=>K (.val (.ow id) (Ae h id (.row g c (CC l new) false false false)))
   | _=>br (neq (AA new) 0) (λ_=>K (.val s h)) λ_=>K (.val (.ow id) (Ae h id (.row g c (CC l new) false false false)))) else none
  | .exl true []=>gd (A0 (AA new) 1048576) λ_=>K (.val (.ow id) (Ae h id (.row g c new false false false)))
  | .ow j=>match h.get j with
   | some (.row g' _ l ex fz lk)=>bif !(g == g')||lk then none else H0 l λl=>gd (A0 (AK (AA l) (AA new)) 1048576) λ_ =>
    bif ex then (match x with
     | .exl _ (_::_)=>K (.val (.ow id) (Ae h id (.row g c (CC l new) false false false)))
     | _=>br (neq (AA new) 0) (λ_=>K (.val s h)) λ_=>K (.val (.ow id) (Ae h id (.row g c (CC l new) false false false))))
    else K (.val (.ow id) (Ae (Ae h j .dead) id (.row g c (CC l new) false fz false)))
   | _=>none
  | .own j off len=>match h.get j with
   | some (.row g' _ l true false false)=>bif g == g' then H0 l λl=>gd (A0 (AK len (AA new)) 1048576) λ_=>gd (A0 (AK off len) (AA l)) λ_ =>
    br (neq (AA new) 0) (λ_=>K (.val s h)) λ_ =>
    br (A0 (AK (AK off len) (AA new)) (AA l)) (λ_=>K (.val (.own j off (AK len (AA new))) (Ae h j (.row g c (DI l (AK off len) new (AA new)) true false false)))) λ_ =>
     K (.val (.ow id) (Ae h id (.row g c (CC (B6 l off (AK off len)) new) false false false))) else none
   | _=>none
  | _=>none
 else none
def Zb (P:Program) (h:H) (t:TypeId) (v:V) (K:Int->Option β):Option β:=match P.underlying t,v with
 | some (.map _ _),.mp j=>(match h.get j with
  | some (.mp _ _ _ l _)=>K (AW (AA l))
  | _=>none)
 | some (.map _ _),.nilm=>K 0
 | some (.array n _),_=>K n
 | some (.slice _),.nils=>K 0
 | some (.slice _),.lf _ _ _ l=>K (AW (AA l))
 | some (.slice _),.exl _ es=>K es.length
 | some (.slice _),.ow j=>(match h.get j with
  | some (.row _ _ l _ _ _)=>K (AW (AA l))
  | _=>none)
 | some (.slice _),.own _ _ len=>K (AW len)
 | some .string,.str l=>K (AW (Fb l))
 | _,_=>none
def j8 (P:Program) (h:H) (t:TypeId) (v:V) (K:Int->Option β):Option β:=Zb P h t v.norm K
def P0 (f:Int->Int->Int) (k:IntKind):Int->List V->(Int->Option β)->Option β
 | m,[],K=>K m
 | m,.int k' y::l,K=>bif k == k' then P0 f k (f m y) l K else none
 | _,_,_=>none
def Jk:Ty->TypeDesc->Bool
 | .int _,.int _=>true
 | .bool,.bool=>true
 | .str,.string=>true
 | _,_=>false
def Zc (P:Program) (ty:TypeId) (m v:V) (h:H) (K:(j:Nat)->(k:Ty)->(g:Bool)->(c:Ty)->List (k.den×c.den)->Bool->(k.den->k.den->Bool)->k.den->Option β):Option β :=
 match P.underlying ty,m with
 | some (.map kt _),.mp j=>match P.underlying kt,h.get j with
  | some d,some (.mp k g c l lk)=>bif Jk k d then G1 (i7 k) λe=>Ib .lf k [v] λx q=>(match q with
   | []=>K j k g c l lk e x
   | _=>none) else none
  | _,_=>none
 | _,_=>none
def OP (P:Program) (h:H) (id:Nat) (b:Builtin) (ats:Array TypeId) (args:List V) (K:RA->Option β):Option β :=
 match b with
 | .len=>match args,ats[0]? with
  | [x],some t=>j8 P h t x λn=>K (.val (.int .i64 n) h)
  | _,_=>none
 | .cap=>match args,ats[0]? with
  | [x],some t=>match P.underlying t,x with
   | some (.slice _),.ow j=>(match h.get j with
    | some (.row _ _ l true _ _)=>K (.val (.int .i64 (AW (AA l))) h)
    | _=>none)
   | some (.slice _),.own j off _=>(match h.get j with
    | some (.row _ _ l true _ _)=>K (.val (.int .i64 (AW (CJ (AA l) off))) h)
    | _=>none)
   | some (.slice _),.nils=>K (.val (.int .i64 0) h)
   | _,_=>none
  | _,_=>none
 | .append=>match args,ats.toList with
  | [s,x],[t,t']=>bif Nat.beq t t' then i8 P h id t s x K else none
  | _,_=>none
 | .copy=>match args,ats[0]? with
  | [d,x],some t=>G1 (j7 P t) λ(g,c)=>bif !Pz P t c then none else Q4 h g c x λnew=>match d with
   | .ow j=>(match h.get j with
    | some (.row g' _ l true false false)=>bif g == g' then H0 l λl=>K (.val (.int .i64 (AW (f6 (AA new) (AA l)))) (Ae h j (.row g c (DI l 0 new (AA l)) true false false))) else none
    | _=>none)
   | .own j off len=>(match h.get j with
    | some (.row g' _ l ex false false)=>bif g == g' then H0 l λl=>gd (A0 (AK off len) (AA l)) λ_=>K (.val (.int .i64 (AW (f6 (AA new) len))) (Ae h j (.row g c (DI l off new len) ex false false))) else none
    | _=>none)
   | _=>none
  | _,_=>none
 | .clear=>match args,ats[0]? with
  | [.mp j],some t=>match P.underlying t,h.get j with
   | some (.map _ _),some (.mp k g c _ false)=>K (.val (.tup []) (Ae h j (.mp k g c [] false)))
   | _,_=>none
  | _,_=>none
 | .delete=>match args,ats[0]? with
  | [m,v],some t=>Zc P t m v h λj k g c l lk e x=>bif lk then none else K (.val (.tup []) (Ae h j (.mp k g c (Lh e l x) false)))
  | _,_=>none
 | .max=>match args with
  | .int k a::r=>P0 Nl k a r λm=>K (.val (.int k m) h)
  | _=>none
 | .min=>match args with
  | .int k a::r=>P0 NZ k a r λm=>K (.val (.int k m) h)
  | _=>none
 | .panic=>match args with
  | [.ifc t v]=>K (.pan (.ifc t v))
  | _=>none
 | .recover=>K .rcv
 | _=>none
def KV (P:Program) (f:Fn) (first cap args:List V) (K:RA->Option β):Option β:=match f with
 | .func g=>match P.funcs[g]? with
  | some fn => bif fn.body.isSome && !(fn.name == "runtime.NumGoroutine") then K (.call g (first ++ args ++ cap)) else none
  | none=>none
 | .method name=>match first++args with
  | .ifc t v::rest=>match P.info? t with
   | some i=>match i.methods.find? (·.name == name) with
    | some m=>match m.path.isEmpty,m.func,P.underlying t with
     | true, some (g, true), some (.pointer _) => bif (match P.funcs[g]? with | some fn => fn.body.isSome && !(fn.name == "runtime.NumGoroutine") | none => false) then K (.call g (v :: rest)) else none
     | true,some (_,false),some (.pointer _)=>none
     | true, some (g, false), some _ => bif (match P.funcs[g]? with | some fn => fn.body.isSome && !(fn.name == "runtime.NumGoroutine") | none => false) then K (.call g (v :: rest)) else none
     | _,_,_=>none
    | none=>none
   | none=>none
  | _=>none
 | _=>none
def Zd (P:Program) (h:H) (ty:TypeId) (p:V) (K:V->Option β):Option β:=match p with
 | .pv cs=>G1 (Ie P ty cs) K
 | .ptr j off=>match h.get j with
  | some (.box cs _ _)=>G1 (Ie P ty (cs.drop off)) K
  | _=>none
 | .view cs=>G1 (Ie P ty cs) K
 | .ept j i off=>match h.get j with
  | some (.row g c l _ _ _)=>ix l i λx=>G1 (Ie P ty ((XC g c x).cells.drop off)) K
  | _=>none
 | _=>none
def Tu (P:Program) (h:H) (ty:TypeId) (p v:V) (K:H->Option β):Option β:=G1 (Pi.BS P ty) λn =>
 bif !Nat.blt 0 n || !Nat.beq v.cells.length n then none else match p with
 | .ptr j off=>match h.get j with
  | some (.box cs false false)=>bif Nat.ble (off+n) cs.length then K (Ae h j (.box (Py cs off v.cells) false false)) else none
  | _=>none
 | .ept j i off=>match h.get j with
  | some (.row g c l ex false false)=>ix l i λx=>bif Nat.ble (off+n) (cells c x).length then
    Ib .lf c (Py (cells c x) off v.cells) λy q=>match q with
     | []=>K (Ae h j (.row g c (lset l i y) ex false false))
     | _=>none
   else none
  | _=>none
 | _=>none
def Tv (P:Program) (ty:TypeId) (ps:List (Nat×V)) (K:V->Option β):Option β :=
 match Gb P ty,P.underlying ty with
 | some z,some (.struct fs)=>bif fs.toList.all λf=>(Pi.BS P f.type).isSome then
   (match KU P fs ps with
   | some pl=>G1 (ON z pl) λcs=>K (.agg cs)
   | none=>none) else none
 | some z,some (.array _ e)=>match Pi.BS P e with
  | some n=>bif Nat.blt 0 n then G1 (ON z (LC n ps)) λcs=>K (.agg cs) else none
  | none=>none
 | _,_=>none
def Jl (P:Program) (h:H) (ty:TypeId) (len:Nat) (ps:List (Nat×V)) (K:RA->Option β):Option β :=
 match P.underlying ty with
 | some (.slice e)=>match Pi.BS P e,Pi.Ru P e,Gb P e with
  | some n,some ag,some z=>match WB ag z with
   | some z1=>bif !Nat.blt 0 n || !Nat.ble (len*n) 16777216 || !Nat.beq z.length n then none else
    G1 (Q3 n (List.replicate len z1) ps) λes=>WA h es λes l=>G1 (FX h l) λh=>K (.val (.exl true es) h)
   | none=>none
  | _,_,_=>none
 | _=>none
def i9 (p:V) (K:V->Option β):Option β:=match p with
 | .pv cs=>K (.pv cs)
 | .ptr a b=>K (.ptr a b)
 | .ept a b c=>K (.ept a b c)
 | .view cs=>K (.view cs)
 | .ifc ty v=>K (.ifc ty v)
 | .yl i=>K (.yl i)
 | .fn (.func f) a b=>K (.fn (.func f) a b)
 | _=>none
def OQ (P:Program) (src dst:TypeId) (x:V) (K:V->Option β):Option β:=match x,P.underlying src,P.underlying dst with
 | .int _ n,some _,some (.int k)=>K (.int k (Rq k n))
 | .str l,some .string,some .string=>K (.str l)
 | _,_,_=>none
def jA (P:Program) (ty:TypeId) (v:V) (K:V->Option β):Option β:=match P.underlying ty with
 | some (.interface _)=>none
 | some _=>K (.ifc ty v)
 | none=>none
def Ze (P:Program) (h:H) (id:Nat) (ty:TypeId) (same:Bool) (l c:V) (K:RA->Option β):Option β:=match P.underlying ty with
 | some (.slice e)=>match Pi.BS P e,Pi.Ru P e,Gb P e,P.info? e with
  | some n,some ag,some z,some ti=>G1 (Tp P l7 e) λ(g,ct)=>bif Nat.ble ti.bytes 1048576&&Nat.blt 0 n&&Nat.beq z.length n then G1 (WB ag z) λz=>OL .lf g ct z λz=>Q0 l λl=>Q0 c λc =>
    bif same then gd (A0 c 1048576) λ_=>K (.val (.ow id) (Ae h id (.row g ct (CW c z) true false false)))
    else gd (A0 l c) λ_=>gd (A0 c 1048576) λ_=>K (.val (.own id 0 l) (Ae h id (.row g ct (CW c z) true false false)))
   else none
  | _,_,_,_=>none
 | _=>none
def ST (P:Program) (h:H) (id:Nat) (ty:TypeId) (K:RA->Option β):Option β:=match P.underlying ty with
 | some (.map kt e)=>match Tp P l7 kt,Tp P l7 e with
  | some (false,k),some (g,c)=>K (.val (.mp id) (Ae h id (.mp k g c [] false)))
  | _,_=>none
 | _=>none
def Tw (P:Program) (h:H) (ty:TypeId) (x:V) (lo hi mx:Option V) (K:V->Option β):Option β:=match P.underlying ty,x with
 | some .string,.str s=>match mx with
  | none=>Fc (Fb s) hi λhh=>Fc 0 lo λl=>gd (A0 hh (Fb s)) λ_=>gd (A0 l hh) λ_=>K (.str (j0 s l hh))
  | _=>none
 | some (.slice e),.nils=>G1 (Pi.BS P e) λ_=>match mx with
  | none=>Fc 0 hi λhh=>Fc 0 lo λl=>gd (neq hh 0) λ_=>gd (neq l 0) λ_=>K .nils
  | some m=>bif hi.isNone then none else Fc 0 hi λhh=>Fc 0 lo λl=>OM m λm=>gd (neq hh 0) λ_=>gd (neq l 0) λ_=>gd (neq m 0) λ_=>K .nils
 | some (.slice e),.lf _ g c es=>G1 (Pi.BS P e) λn=>bif !Nat.beq n c.wd then none else Fc 0 lo λl=>Fc (AA es) hi λhh=>(match mx with
  | none=>gd (A0 hh (AA es)) λ_=>gd (A0 l hh) λ_=>K (.lf false g c (B6 es l hh))
  | some m=>bif hi.isNone || !Nat.ble c.depth 4 then none else OM m λm=>gd (A0 hh (AA es)) λ_=>gd (neq hh m) λ_=>gd (A0 l hh) λ_=>K (.lf true g c (B6 es l hh)))
 | some (.slice e),.pl g c es=>G1 (Pi.BS P e) λn=>bif !Nat.beq n c.wd then none else Fc 0 lo λl=>Fc (AA es) hi λhh=>(match mx with
  | none=>gd (A0 hh (AA es)) λ_=>gd (A0 l hh) λ_=>K (.pl g c (B6 es l hh))
  | some m=>bif hi.isNone || !Nat.ble c.depth 4 then none else OM m λm=>gd (A0 hh (AA es)) λ_=>gd (neq hh m) λ_=>gd (A0 l hh) λ_=>K (.lf true g c (B6 es l hh)))
 | some (.slice e),.ow j=>(match h.get j with
  | some (.row g c es _ false _)=>G1 (Pi.BS P e) λn=>bif !Nat.beq n c.wd then none else Fc 0 lo λl=>Fc (AA es) hi λhh=>(match mx with
   | none=>gd (A0 hh (AA es)) λ_=>gd (A0 l hh) λ_=>br (CB l (AA es)) (λ_=>K (.own j l (CJ hh l))) λ_=>K (.lf false g c [])
   | some _=>none)
  | _=>none)
 | some (.slice e),.own j off len=>(match h.get j with
  | some (.row g c es ex _ _)=>G1 (Pi.BS P e) λn=>bif !Nat.beq n c.wd then none else Fc 0 lo λl=>Fc len hi λhh=>(match mx with
   | none=>gd (A0 (AK off hh) (AA es)) λ_=>gd (A0 l hh) λ_=>br (CB (AK off l) (AA es)) (λ_=>K (.own j (AK off l) (CJ hh l))) λ_=>K (.lf false g c [])
   | some m=>bif lo.isSome||hi.isNone || !ex then none else OM m λm=>gd (A0 hh m) λ_=>gd (neq (AK off m) (AA es)) λ_=>gd (CB off (AA es)) λ_=>K (.own j off hh))
  | _=>none)
 | _,_=>none
def LD (P:Program) (sty:TypeId) (x:V) (f:Nat) (K:V->Option β):Option β:=match P.underlying sty with
 | some (.struct fs)=>match fs[f]? with
  | some fd=>match Pi.BS P fd.type with
   | some n=>bif Nat.beq n 0 then none else (match x with
    | .ptr j off=>K (.ptr j (off+fd.offset))
    | .ept j i off=>K (.ept j i (off+fd.offset))
    | .view cs=>K (.view (cs.drop fd.offset))
    | .pv cs=>K (.pv (cs.drop fd.offset))
    | _=>none)
   | none=>none
  | none=>none
 | _=>none
def Tx (P:Program) (ty:TypeId) (x:V) (f:Nat) (K:V->Option β):Option β:=match P.underlying ty,x with
 | some (.struct fs),.agg cs=>match fs[f]? with
  | some fd=>G1 (Ie P fd.type (cs.drop fd.offset)) K
  | none=>none
 | _,_=>none
def LF (P:Program) (h:H) (ty:TypeId) (x i:V) (K:V->Option β):Option β:=match P.underlying ty with
 | some (.slice e)=>G1 (Pi.BS P e) λn=>OM i λk=>match x with
   | .lf _ g c es=>ix es k λel=>bif Nat.beq (XC g c el).cells.length n then K (.view (XC g c el).cells) else none
   | .pl g c es=>ix es k λel=>bif Nat.beq (elP g c el).cells.length n then K (.pv (elP g c el).cells) else none
   | .exl _ es=>OO k es.length 0 λk=>G1 (lget es k) λel=>bif Nat.beq el.cells.length n then K (.view el.cells) else none
   | .ow j=>(match h.get j with
    | some (.row _ c es _ false _)=>gd (CB k (AA es)) λ_=>bif Nat.beq c.wd n then K (.ept j k 0) else none
    | _=>none)
   | .own j off len=>gd (CB k len) λ_=>(match h.get j with
    | some (.row _ c es _ _ _)=>gd (CB (AK off k) (AA es)) λ_=>bif Nat.beq c.wd n then K (.ept j (AK off k) 0) else none
    | _=>none)
   | _=>none
 | some (.array len e)=>G1 (Pi.BS P e) λn=>OM i λk=>OO k len 0 λk=>match x with
   | .ptr j off=>K (.ptr j (off+k*n))
   | .ept j i off=>K (.ept j i (off+k*n))
   | .view cs=>K (.view (cs.drop (k*n)))
   | .pv cs=>K (.pv (cs.drop (k*n)))
   | _=>none
 | _=>none
def Tz (P:Program) (ty:TypeId) (x i:V) (K:V->Option β):Option β:=match P.underlying ty,x with
 | some (.array len e),.agg cs=>G1 (Pi.BS P e) λn=>OM i λk=>OO k len 0 λk=>G1 (Ie P e (cs.drop (k*n))) K
 | some .string,.str l=>OM i λk=>ix l k λb=>K (.int .u8 (SS b))
 | _,_=>none
def Q5 (P:Program) (h:H) (ty:TypeId) (m k:V) (ok:Bool) (K:V->Option β):Option β:=match m with
 | .nilm=>match P.underlying ty with
  | some (.map kt e)=>match P.underlying kt,HH P e with
   | some d,some z=>bif Pi.Gm d then K (bif ok then .tup [z,.bool false] else z) else none
   | _,_=>none
  | _=>none
 | m=>Zc P ty m k h λ_ _ g c l _ e x=>match P.underlying ty with
  | some (.map _ et)=>G1 (HH P et) λz=>OL .lf g c z λz =>
    K (bif ok then .tup [XC g c (PZ (LB e l x) z),.bool (pq (LB e l x))] else XC g c (PZ (LB e l x) z))
  | _=>none
def I1 (P:Program) (h:H) (ty:TypeId) (m k v:V) (K:H->Option β):Option β :=
 Zc P ty m k h λj kt g c l lk e x=>bif lk then none else OL .lf g c v λy=>K (Ae h j (.mp kt g c (IU e l x y) false))
def KW (ok:Bool) (v:V):V:=bif ok then .tup [v,.bool true] else v
def Q6 (P:Program) (ty:TypeId) (v:V) (ok:Bool) (K:V->Option β):Option β:=match P.underlying ty with
 | some (.interface want)=>match v with
  | .ifc u a=>match P.info? u with
   | some i=>match Instr.missingMethod want i.methods with
    | none=>K (KW ok (.ifc u a))
    | some _=>bif ok then G1 (HH P ty) λz=>K (.tup [z,.bool false]) else none
   | none=>none
  | .nili=>bif ok then G1 (HH P ty) λz=>K (.tup [z,.bool false]) else none
  | _=>none
 | some _=>match v with
  | .ifc u a=>bif Nat.beq u ty then K (KW ok a) else bif ok then G1 (HH P ty) λz=>K (.tup [z,.bool false]) else none
  | .nili=>bif ok then G1 (HH P ty) λz=>K (.tup [z,.bool false]) else none
  | _=>none
 | none=>none
def WC:Operand->Operand->Bool
 | .tmp a,.tmp b=>Nat.beq a b
 | _,_=>false
def Q7 (h:H) (K:RA->Option β) (v:V):Option β:=K (.val v h)
def l8 (P:Program) (t:T V) (h:H) (id:Nat) (o:Oper) (K:RA->Option β):Option β :=
 match o.op with
 | .move x=>C9 t x (Q7 h K)
 | .assign x=>C9 t x (Q7 h K)
 | .pick c a b=>C9 t c λc=>C9 t a λa=>C9 t b λb=>match c with
  | .bool c=>br c (λ_=>Q7 h K a) (λ_=>Q7 h K b)
  | _=>none
 | .alloc e=>G1 (Gb P e) λcs=>K (.val (.ptr id 0) (Ae h id (.box cs false false)))
 | .box _ x=>C9 t x λv=>match v with
  | .tup _=>none
  | v=>K (.val (.ptr id 0) (Ae h id (.box v.cells false false)))
 | .build ty parts=>L1 t parts.toList λps=>Tv P ty ps (Q7 h K)
 | .buildSlice ty len parts=>L1 t parts.toList λps=>Jl P h ty len ps K
 | .load ty a=>C9 t a λa=>Zd P h ty a (Q7 h K)
 | .store ty a x=>C9 t a λa=>C9 t x λx=>Tu P h ty a x λh=>K (.skip h)
 | .nilCheck x=>C9 t x λx=>i9 x (Q7 h K)
 | .binOp op ty x y _=>C9 t x λa=>C9 t y λb=>i6 P op ty x y a b (Q7 h K)
 | .unOp op _ x=>C9 t x λa=>mI op a (Q7 h K)
 | .convert src dst x=>C9 t x λa=>OQ P src dst a (Q7 h K)
 | .makeInterface ty x=>C9 t x λa=>jA P ty a (Q7 h K)
 | .makeFunc f first cap=>XD t first.toList λa=>XD t cap.toList λb=>match f with
  | .yield _=>none
  | f=>K (.val (.fn f a b) h)
 | .makeMap ty none=>ST P h id ty K
 | .makeSlice ty l c=>C9 t l λx=>C9 t c λy=>Ze P h id ty (WC l c) x y K
 | .slice ty x lo hi mx=>f7 t lo λlo=>f7 t hi λhi=>f7 t mx λmx=>C9 t x λx=>Tw P h ty x lo hi mx (Q7 h K)
 | .fieldAddr s x f=>C9 t x λx=>LD P s x f (Q7 h K)
 | .field ty x f=>C9 t x λx=>Tx P ty x f (Q7 h K)
 | .indexAddr ty x i=>C9 t x λx=>C9 t i λi=>LF P h ty x i (Q7 h K)
 | .index ty x i=>C9 t x λx=>C9 t i λi=>Tz P ty x i (Q7 h K)
 | .lookup ty x k ok=>C9 t x λm=>C9 t k λk=>Q5 P h ty m k ok (Q7 h K)
 | .mapUpdate ty x k v=>C9 t x λx=>C9 t k λk=>C9 t v λv=>I1 P h ty x k v λh=>K (.skip h)
 | .insert ty x k v=>C9 t x λx=>C9 t k λk=>C9 t v λv=>I1 P h ty x k v λh=>K (.skip h)
 | .typeAssert x _ ty ok=>C9 t x λv=>Q6 P ty v ok (Q7 h K)
 | .extract x i=>C9 t x λx=>match x with
  | .tup vs=>G1 (lget vs i) (Q7 h K)
  | _=>none
 | .panic x=>C9 t x λx=>match x with
  | .ifc ty v=>K (.pan (.ifc ty v))
  | _=>none
 | .call c=>XD t c.args.toList λargs=>match c.callee with
  | .builtin b=>OP P h id b c.argTypes args K
  | .value f=>C9 t f λf=>match f with
   | .fn f a b=>KV P f a b args K
   | .yl l=>K (.yield l args)
   | _=>none
  | .invoke recv name=>C9 t recv λr=>KV P (.method name) [r] [] args K
 | .defer c=>XD t c.args.toList λargs=>match c.callee with
  | .builtin b=>K (.dfr (.bi b c.argTypes o.type args))
  | .value f=>C9 t f λf=>match f with
   | .fn (.func g) a b=>K (.dfr (.call (.fn (.func g) a b) args))
   | _=>none
  | .invoke _ _=>none
 | _=>none
end
end Go.Proofs.YthpkjfabdccpdaaGreat.Sv
namespace Go.Proofs.YthpkjfabdccpdaaGreat.Sv
open Go.Proofs.YthpkjfabdccpdaaGreat.Pi (T lget MV)
@[reducible] def AG:List (Bool×Ty)->Type
 | []=>Unit
 | [p]=>p.2.den
 | p::q::r=>p.2.den×AG (q::r)
structure Sg where
 dom:List (Bool×Ty)
 cod:List (Bool×Ty)
 fn:AG dom->Option (AG cod)
abbrev I3:=FuncId->Option (Option Sg)
def Jm:(l:List (Bool×Ty))->AG l->List V
 | [],_=>[]
 | [p],x=>[elP p.1 p.2 x]
 | p::q::r,x=>elP p.1 p.2 x.1::Jm (q::r) x.2
def Zf:(l:List (Bool×Ty))->AG l->V
 | [],_ => .tup []
 | [(false,.sl g c)],x => .lf false g c x
 | [p],x=>elP p.1 p.2 x
 | p::q::r,x => .tup (Jm (p::q::r) x)
inductive Sgm where
 | lf (c:Ty)
 | ow (g:Bool) (c:Ty) (ex:Bool)
 | kp (id:Nat)
@[reducible] def Sgm.den:Sgm->Type
 | .lf c=>c.den
 | .ow _ c _=>List c.den
 | .kp _=>Unit
@[reducible] def OS:List Sgm->Type
 | []=>Unit
 | [p]=>p.den
 | p::q::r=>p.den×OS (q::r)
inductive Pl where
 | slot (k:Nat) (g:Bool) (c:Ty)
 | srow (k:Nat) (g:Bool) (c:Ty) (ex:Bool)
 | swin (k:Nat) (g:Bool) (c:Ty)
 | box (id:Nat) (sg:List Sgm)
 | map (id:Nat) (k:Ty) (g:Bool) (c:Ty)
@[reducible] def Pl.den:Pl->Type
 | .slot _ _ c=>c.den
 | .srow _ _ c _=>List c.den
 | .swin _ _ c=>List c.den×Nat
 | .box _ sg=>OS sg
 | .map _ k _ c=>List (k.den×c.den)
@[reducible] def C7:List Pl->Type
 | []=>Unit
 | [p]=>p.den
 | p::q::r=>p.den×C7 (q::r)
inductive ExK where
 | exit (id:Nat)
 | ret
 | pan (t:TypeId) (g:Bool) (c:Ty)
structure Tm where
 keep:List Nat
 kb:List Nat
 pl:List Pl
 ex:List (ExK×List (Nat×Nat×Option Code))
 pay:Ty
 plx:List Pl:=pl
 rel:List (Nat×Nat):=[]
 relS:List Nat:=[]
structure Jn where
 keep:List Nat
 kb:List Nat
 pl0:List Pl
 pl1:List Pl
 ex:List (ExK×List (Nat×Nat×Option Code))
 pay:Ty
inductive An where
 | loop (tm:Tm)
 | join (j:Jn)
abbrev P1:=FuncId->Nat->Nat->Option An
section
variable {β:Type}
def E1 (h:H):(l:List (Bool×Ty))->List V->(AG l->Option β)->Option β
 | [],vs,K=>match vs with
  | []=>K ()
  | _=>none
 | [p],vs,K=>match vs with
  | [v]=>OL h p.1 p.2 v K
  | _=>none
 | p::q::r,vs,K=>match vs with
  | v::vs=>OL h p.1 p.2 v λx=>E1 h (q::r) vs λy=>K (x,y)
  | _=>none
def Ki:List V->List Nat
 | []=>[]
 | .ow id::l=>id::Ki l
 | .own id _ _::l=>id::Ki l
 | _::l=>Ki l
def HY (l:List V):List Nat:=l.flatMap λv=>Ki v.cells
def E9:List (Bool×Ty)->Bool
 | []=>false
 | p::l=>p.2.hasSl||E9 l
def Ty.leaf:Ty->Bool
 | .unit | .pair _ _=>false
 | _=>true
def G2 (l:List (Bool×Ty)):Bool:=l.all λp=>Nat.ble p.2.depth 4&&(p.1||p.2.leaf)
def H1 (h:H) (sg:Sg) (args:List V) (K:V->H->Option β):Option β :=
 bif !G2 sg.dom || !G2 sg.cod then none else E1 h sg.dom args λx=>G1 (bif E9 sg.cod then FX h (HY args) else some h) λh=>bd (sg.fn x) λy=>K (Zf sg.cod y) h
def SU (h:H) (id:Nat):(sg:Sg)->List V->(V->H->Option β)->Option β
 | ⟨dom,[(false,.sl g c)],fn⟩,args,K=>bif !G2 dom || !Nat.ble c.depth 3 then none else E1 h dom args λx=>G1 (bif c.hasSl then FX h (HY args) else some h) λh=>bd (fn x) λy=>K (.ow id) (Ae h id (.row g c y false false false))
 | _,_,_=>none
def HZ:Nat:=1048576
def HI:Nat:=2097152
def ic (f:Nat):Nat:=bif Nat.blt f HZ then f else f-HZ
def getD (tab:I3) (f:FuncId):Option Sg:=bif Nat.blt f HZ then (match tab f with
 | some r=>r
 | none=>match tab (f+HZ) with
  | some r=>r
  | none=>none) else none
def getR (tab:I3) (f:FuncId):Option Sg:=bif Nat.blt f HZ then (match tab (f+HI) with
 | some r=>r
 | none=>none) else none
def Q8:Nat:=3145728
def jr:Bool×Ty->Bool
 | (true,.pair _ .unit)=>true
 | _=>false
def getP (tab:I3) (f:FuncId):Option Sg:=bif Nat.blt f HZ then (match tab (f+Q8) with
 | some r=>r
 | none=>none) else none
def gA:Nat:=4194304
def getL (tab:I3) (f:FuncId):Option Sg:=bif Nat.blt f HZ then (match tab (f+gA) with
 | some r=>r
 | none=>none) else none
def Jo (h:H):List (Bool×Ty)->List V->Option (List V×List Nat)
 | p::l,v::vs=>match Jo h l vs with
  | some a=>bif jr p then (match v with
    | .ptr j off=>(match h.get j with
     | some (.box cs _ _)=>bif Nat.blt off cs.length then some (.agg (cs.drop off)::a.1,j::a.2) else none
     | _=>none)
    | _=>none) else some (v::a.1,a.2)
  | none=>none
 | _,vs=>some (vs,[])
def j9:V->V
 | .agg cs => .pv cs
 | v=>v
def Zg:List (Bool×Ty)->List V->List V
 | p::l,v::vs=>(bif jr p then j9 v else v)::Zg l vs
 | _,vs=>vs
inductive TgA where
 | fn (f:FuncId)
 | yl (id:Nat)
abbrev OT:=(β:Type)->TgA->Option UMA->List V->H->Nat->(OutA->Option UMA->H->Nat->Option β)->Option β
abbrev KA (β:Type):=ExA->FrA->H->Nat->Option β
def Ml (fr:FrA) (dst:Option Nat) (v:V) (K:FrA->Option β):Option β:=match dst with
 | none=>K fr
 | some d=>bif Nat.blt d fr.nt then K { fr with t:=T.put 20 fr.t d v } else none
def Q9 (ops:List Oper) (t:T V) (g:Option (Nat×Bool)) (yes no:T V->Option β):Option β:=match g with
 | none=>yes t
 | some (j,want)=>match lget ops j with
  | some o=>match o.dst with
   | some d=>match t.get d with
    | some (.bool b)=>br b (λ_=>bif want then yes (T.put 20 t d (.bool true)) else no (T.put 20 t d (.bool true))) (λ_=>bif want then no (T.put 20 t d (.bool false)) else yes (T.put 20 t d (.bool false)))
    | some (.tup [])=>no t
    | _=>none
   | none=>none
  | none=>none
def EV (P:Program) (tab:I3) (rec:OT) (base:Nat) (ops:List Oper):List (Nat×Oper)->FrA->H->Nat->KA β->Option β
 | [],fr,h,nx,K=>K .normal fr h nx
 | (i,o)::r,fr,h,nx,K=>Q9 ops fr.t o.guard
  (λt=>l8 P t h (base+i) o fun
   | .val v h=>Ml { fr with t } o.dst v λfr=>EV P tab rec base ops r fr h nx K
   | .skip h=>Ml { fr with t } o.dst (.tup []) λfr=>EV P tab rec base ops r fr h nx K
   | .dfr d=>match fr.ro with
    | none=>Ml { fr with t,ds:=d::fr.ds } o.dst (.tup []) λfr=>EV P tab rec base ops r fr h nx K
    | some _=>none
   | .call f args=>match tab f with
    | some none=>none
    | some (some sg)=>bif !Nat.blt f HZ then none else (match getR tab f with
     | some sg=>SU h (base+i) sg args λv h=>Ml { fr with t } o.dst v λfr=>EV P tab rec base ops r fr h nx K
     | none=>H1 h sg args λv h=>Ml { fr with t } o.dst v λfr=>EV P tab rec base ops r fr h nx K)
    | none=>rec β (.fn f) none args h nx λo' _ h nx=>match o' with
     | .ret v=>Ml { fr with t } o.dst v λfr=>EV P tab rec base ops r fr h nx K
     | .pan [{ v,recovered:=false }]=>K (.panic v) { fr with t } h nx
     | _=>none
   | .yield l args=>rec β (.yl l) none args h nx λo' _ h nx=>match o' with
     | .ret v=>Ml { fr with t } o.dst v λfr=>EV P tab rec base ops r fr h nx K
     | _=>none
   | .pan v=>K (.panic v) { fr with t } h nx
   | .rcv=>match fr.ro with
    | some _=>none
    | none=>match fr.up with
     | some (.pan ({ v,recovered:=false }::older))=>Ml { fr with t,up:=some (.pan ({ v,recovered:=true }::older)) } o.dst v λfr=>EV P tab rec base ops r fr h nx K
     | _=>Ml { fr with t } o.dst .nili λfr=>EV P tab rec base ops r fr h nx K)
  (λt=>Ml { fr with t } o.dst (.tup []) λfr=>EV P tab rec base ops r fr h nx K)
def A3:Op->Nat
 | .move _ | .assign _ | .pick _ _ _ | .build _ _ | .nilCheck _ | .binOp _ _ _ _ _ | .unOp _ _ _ | .convert _ _ _ | .makeInterface _ _ | .makeFunc _ _ _ | .fieldAddr _ _ _ | .field _ _ _ | .index _ _ _ | .typeAssert _ _ _ _ | .extract _ _=>0
 | .load _ _ | .indexAddr _ _ _=>1
 | .slice _ _ _ _ none=>1
 | .slice _ _ _ _ (some _)=>4
 | .call c=>match c.callee with
  | .builtin b=>match b with
   | .len | .cap | .max | .min=>1
   | .append | .copy=>4
   | _=>9
  | _=>9
 | .buildSlice _ _ _=>4
 | .alloc _ | .box _ _ | .makeMap _ none | .makeSlice _ _ _=>2
 | .store _ _ _=>3
 | _=>9
def L3 (h:H) (id:Nat):Bool:=match h.get id with
 | some .dead=>false
 | some _=>true
 | none=>false
def ie (h:H):V->Bool
 | .ow id | .own id _ _ | .ptr id _ | .ept id _ _ | .mp id=>L3 h id
 | _=>true
def L4 (h:H) (t:T V):List Operand->Bool
 | []=>true
 | .tmp k::l=>(match t.get k with
  | some v=>ie h v
  | none=>false)&&L4 h t l
 | _::l=>L4 h t l
def XF (t:T V):List Operand->Option (List Nat×Bool)
 | []=>some ([],false)
 | .tmp k::l=>match t.get k with
  | some (.ow id) | some (.own id _ _) | some (.ptr id _) | some (.ept id _ _) | some (.mp id)=>(XF t l).map λa=>(id::a.1,a.2)
  | some (.lf _ _ _ _) | some (.view _)=>(XF t l).map λa=>(a.1,true)
  | some _=>XF t l
  | none=>none
 | _::l=>XF t l
def kA (f:V->Option (List Nat×Bool)):List V->Option (List Nat×Bool)
 | []=>some ([],false)
 | v::vs=>match f v,kA f vs with
  | some a,some b=>some (a.1++b.1,a.2||b.2)
  | _,_=>none
def Zh (h:H) (id:Nat):Bool:=match h.get id with
 | some (.row _ c _ _ _ _)=>c.hasSl
 | _=>true
def l9 (h:H):Nat->V->Option (List Nat×Bool)
 | 0,_=>none
 | n+1,v=>match v with
  | .bool _ | .int _ _ | .str _ | .nils | .pl _ _ _ | .exl _ _=>some ([],false)
  | .lf _ _ _ _=>some ([],true)
  | .ow id | .own id _ _=>bif L3 h id then some ([id],Zh h id) else none
  | .agg cs=>kA (l9 h n) cs
  | _=>none
def gB (h:H) (t:T V):List Operand->Option (List Nat×Bool)
 | []=>some ([],false)
 | .tmp k::l=>match t.get k with
  | some v=>(match l9 h 6 v,gB h t l with
   | some a,some b=>some (a.1++b.1,a.2||b.2)
   | _,_=>none)
  | none=>none
 | _::l=>gB h t l
def gC (t:T V):List Operand->Option (List Nat×Bool)
 | []=>some ([],false)
 | .tmp k::l=>match t.get k with
  | some (.mp id)=>(gC t l).map λa=>(id::a.1,a.2)
  | some _=>gC t l
  | none=>none
 | _::l=>gC t l
def Df (h:H) (l:List V):Option (List Nat×Bool):=kA (l9 h 6) l
def kB (js:List Nat) (o:Option (List Nat×Bool)):Option (List Nat×Bool):=o.map λa=>(js++a.1,a.2)
def jB (t:T V):Op->Bool
 | .slice _ (.tmp k) _ _ (some _)=>match t.get k with
  | some (.pl _ _ _) | some .nils=>true
  | _=>false
 | .slice _ _ _ _ (some _)=>false
 | _=>true
def fp (h:H) (t:T V) (o:Op):Option (List Nat×Bool):=match o with
 | .load _ _ | .indexAddr _ _ _ | .slice _ _ _ _ none | .store _ _ _=>XF t (Pi.CI o)
 | .slice _ x _ _ (some _)=>gB h t [x]
 | .buildSlice _ _ parts=>gB h t (parts.toList.map (·.2))
 | .call c=>match c.callee with
  | .builtin b=>(match b with
   | .len=>gC t c.args.toList
   | .cap | .max | .min | .append | .copy=>XF t c.args.toList
   | _=>none)
  | _=>none
 | .alloc _ | .box _ _ | .makeMap _ none | .makeSlice _ _ _=>some ([],false)
 | _=>none
def SV (v:V):Option (List Nat×Bool)->Option (List Nat×Bool)
 | some a=>match v with
  | .ow id | .own id _ _ | .ptr id _ | .ept id _ _ | .mp id=>some (id::a.1,a.2)
  | .lf _ _ _ _ | .view _=>some (a.1,true)
  | _=>some a
 | none=>none
def SW:List (Bool×Ty)->Bool
 | [(false,.sl _ _)]=>true
 | _=>false
def P2 (h:H):List Nat->Bool
 | []=>true
 | j::l=>L3 h j&&P2 h l
def SX (h:H):List Nat->Bool
 | []=>true
 | j::l=>(h.get j).isSome&&SX h l
def kC (h:H):Option (List Nat×Bool)->Option (List Nat×Bool)->Bool
 | some a,some b => !Pi.GW a.1 b.1&&(!(a.2&&b.2)&&(P2 h a.1&&SX h b.1))
 | _,_=>false
def Ha (h:H) (bef c:Nat) (f:Option (List Nat×Bool)):List (Nat×Nat×Option (List Nat×Bool))->Bool
 | []=>true
 | (j,d,g)::l=>(Pi.K2 bef j||(Nat.beq c 0||(Nat.beq c 2||(Nat.beq d 0||(Nat.beq c 1&&Nat.beq d 1||kC h f g)))))&&Ha h bef c f l
def Fy:Op->Bool
 | .call c=>match c.callee with
  | .builtin _=>false
  | _=>true
 | _=>false
def Nm (t:T V) (nt:Nat) (dst:Option Nat) (v:V) (K:T V->Option β):Option β:=match dst with
 | some d=>bif Nat.blt d nt then K (T.put 20 t d v) else none
 | none=>K t
def Dg (P:Program) (tab:I3) (base nt:Nat) (ops:List Oper):Nat->List Oper->List Pi.Mk->List (Nat×Nat×Option (List Nat×Bool))->T V->H->(T V->H->Option β)->Option β
 | i,o::l,m::ms,past,t,h,K=>Q9 ops t o.guard
  (λt=>bif !Pi.B5 o.op then none else
   l8 P t h (base+i) o fun
    | .val v h1=>bif (Nat.ble (A3 o.op) 2||Nat.beq (A3 o.op) 4)&&(jB t o.op&&(L4 h t (Pi.CI o.op)&&Ha h m.bef (A3 o.op) (fp h t o.op) past)) then Nm t nt o.dst v λt'=>Dg P tab base nt ops (i+1) l ms ((i,A3 o.op,bif Nat.ble (A3 o.op) 1 then fp h t o.op else SV v (fp h t o.op))::past) t' h1 K else none
    | .skip h1=>bif Nat.beq (A3 o.op) 3&&(L4 h t (Pi.CI o.op)&&Ha h m.bef 3 (fp h t o.op) past) then Nm t nt o.dst (.tup []) λt'=>Dg P tab base nt ops (i+1) l ms ((i,3,fp h t o.op)::past) t' h1 K else none
    | .call f args=>match getR tab f with
     | some sg=>bif !Fy o.op || !Ha h m.bef 4 (Df h args) past then none else SU h (base+i) sg args λv h1=>Nm t nt o.dst v λt=>Dg P tab base nt ops (i+1) l ms ((i,4,SV v (Df h args))::past) t h1 K
     | none=>match getL tab f with
     | some sg=>bif !Fy o.op then none else bif !Ha h m.bef 4 (Df h args) past then none else H1 h sg args λv h1=>Nm t nt o.dst v λt=>Dg P tab base nt ops (i+1) l ms ((i,4,Df h args)::past) t h1 K
     | none=>match getD tab f with
      | some sg=>bif !Fy o.op then none else bif E9 sg.cod then
        (bif !Ha h m.bef 4 (Df h args) past then none else H1 h sg args λv h1=>Nm t nt o.dst v λt=>Dg P tab base nt ops (i+1) l ms ((i,4,bif SW sg.cod then none else Df h args)::past) t h1 K)
       else bif !Ha h m.bef 1 (Df h args) past then none else H1 h sg args λv h1=>Nm t nt o.dst v λt=>Dg P tab base nt ops (i+1) l ms ((i,1,Df h args)::past) t h1 K
      | none=>match getP tab f with
       | some sg=>bif !Fy o.op||E9 sg.cod then none else G1 (Jo h sg.dom args) λa=>bif !Ha h m.bef 1 (kB a.2 (Df h a.1)) past then none else H1 h sg a.1 λv h1=>Nm t nt o.dst v λt=>Dg P tab base nt ops (i+1) l ms ((i,1,kB a.2 (Df h a.1))::past) t h1 K
       | none=>none
    | _=>none)
  (λt=>Nm t nt o.dst (.tup []) λt=>Dg P tab base nt ops (i+1) l ms past t h K)
 | _,[],_,_,t,h,K=>K t h
 | _,_,_,_,_,_,_=>none
def UA (P:Program) (tab:I3) (base:Nat) (ops:List Oper) (fr:FrA) (h:H) (K:FrA->H->Option β):Option β :=
 G1 (Pi.KI ops 0 ops []) λms=>Dg P tab base fr.nt ops 0 ops ms [] fr.t h λt h=>K { fr with t } h
end
def BA.locked:BA->Bool
 | .box _ _ lk=>lk
 | .row _ _ _ _ _ lk=>lk
 | .mp _ _ _ _ lk=>lk
 | _=>false
def Dh (t:T V):List Nat->T V
 | [] => .lf
 | k::l=>match t.get k with
  | some v=>T.put 20 (Dh t l) k v
  | none=>Dh t l
def Hb:BA->BA
 | .box cs fz _ => .box cs fz true
 | .row g c l ex fz _ => .row g c l ex fz true
 | .mp k g c l _ => .mp k g c l true
 | b=>b
def Di (h:H) (f:BA->BA):List Nat->H
 | [] => .lf
 | k::l=>match h.get k with
  | some .dead=>Di h f l
  | some b=>T.put 20 (Di h f l) k (f b)
  | none=>Di h f l
section
variable {β:Type}
def SY (h:H) (g:Bool) (c:Ty) (ex:Bool) (v:V) (K:List c.den->Option β):Option β:=match v with
 | .nils=>bif ex then none else K []
 | .ow id=>match h.get id with
  | some (.row g' _ l ex' false false)=>bif g == g'&&ex == ex' then H0 l K else none
  | _=>none
 | _=>none
def JV (h:H):(l:List Sgm)->List V->(OS l->Option β)->Option β
 | [],cs,K=>match cs with
  | []=>K ()
  | _=>none
 | [.lf c],cs,K=>Ib .lf c cs λx r=>match r with
  | []=>K x
  | _=>none
 | [.ow g c ex],cs,K=>match cs with
  | [v]=>SY h g c ex v K
  | _=>none
 | .lf c::q::r,cs,K=>Ib .lf c cs λx cs=>JV h (q::r) cs λy=>K (x,y)
 | .ow g c ex::q::r,cs,K=>match cs with
  | v::cs=>SY h g c ex v λx=>JV h (q::r) cs λy=>K (x,y)
  | _=>none
 | [.kp id],cs,K=>match cs with
  | [.ow j]=>bif Nat.beq j id then K () else none
  | _=>none
 | .kp id::q::r,cs,K=>match cs with
  | .ow j::cs=>bif Nat.beq j id then JV h (q::r) cs λy=>K ((),y) else none
  | _=>none
def Zi (h:H) (g:Bool) (c:Ty) (v:V) (K:List c.den×Nat->Option β):Option β:=match v with
 | .own j off len=>match h.get j with
  | some (.row g' _ l true false false)=>bif g == g'&&Nat.beq off 0 then H0 l λl=>K (l,len) else none
  | _=>none
 | _=>none
def Na (t:T V) (h:H):(p:Pl)->(p.den->Option β)->Option β
 | .slot k g c,K=>G1 (t.get k) λv=>OL .lf g c v K
 | .srow k g c ex,K=>G1 (t.get k) λv=>SY h g c ex v K
 | .swin k g c,K=>G1 (t.get k) λv=>Zi h g c v K
 | .box id sg,K=>match h.get id with
  | some (.box cs false false)=>JV h sg cs K
  | _=>none
 | .map id k g c,K=>match h.get id with
  | some (.mp _ g' _ l false)=>bif g == g' then ib l K else none
  | _=>none
def Gc (t:T V) (h:H):(l:List Pl)->(C7 l->Option β)->Option β
 | [],K=>K ()
 | [p],K=>Na t h p K
 | p::q::r,K=>Na t h p λx=>Gc t h (q::r) λy=>K (x,y)
end
def HG (h:H) (nx:Nat):(l:List Sgm)->OS l->List V×H×Nat
 | [],_=>([],h,nx)
 | [.lf c],x=>(cells c x,h,nx)
 | [.ow g c ex],l=>([.ow nx],Ae h nx (.row g c l ex false false),nx+1)
 | .lf c::q::r,x=>match HG h nx (q::r) x.2 with
  | (cs,h,nx)=>(cells c x.1++cs,h,nx)
 | .ow g c ex::q::r,x=>match HG (Ae h nx (.row g c x.1 ex false false)) (nx+1) (q::r) x.2 with
  | (cs,h,n')=>(.ow nx::cs,h,n')
 | [.kp id],_=>([.ow id],h,nx)
 | .kp id::q::r,x=>match HG h nx (q::r) x.2 with
  | (cs,h,n')=>(.ow id::cs,h,n')
def FG (t:T V) (h:H) (nx:Nat):(p:Pl)->p.den->T V×H×Nat
 | .slot k g c,x=>(T.put 20 t k (XC g c x),h,nx)
 | .srow k g c ex,l=>(T.put 20 t k (.ow nx),Ae h nx (.row g c l ex false false),nx+1)
 | .swin k g c,x=>(T.put 20 t k (.own nx 0 x.2),Ae h nx (.row g c x.1 true false false),nx+1)
 | .box id sg,x=>match HG h nx sg x with
  | (cs,h,nx)=>(t,Ae h id (.box cs false false),nx)
 | .map id k g c,l=>(t,Ae h id (.mp k g c l false),nx)
def Bm (t:T V) (h:H) (nx:Nat):(l:List Pl)->C7 l->T V×H×Nat
 | [],_=>(t,h,nx)
 | [p],x=>FG t h nx p x
 | p::q::r,x=>match FG t h nx p x.1 with
  | (t,h,nx)=>Bm t h nx (q::r) x.2
def BN:List Pl->List Nat
 | []=>[]
 | .box id _::l | .map id _ _ _::l=>id::BN l
 | _::l=>BN l
def Zj:V->List Nat
 | .own id _ _=>[id]
 | _=>[]
def FB:V->List Nat
 | .ow id=>[id]
 | _=>[]
def C0:List Sgm->List V->List Nat
 | [],_=>[]
 | .lf c::r,cs=>C0 r (cs.drop c.wd)
 | .ow _ _ _::r,cs=>(match cs with
  | v::_=>FB v
  | []=>[])++C0 r (cs.drop 1)
 | .kp _::r,cs=>C0 r (cs.drop 1)
def CY (t:T V) (h:H):List Pl->List Nat
 | []=>[]
 | .slot _ _ _::l=>CY t h l
 | .map id _ _ _::l=>id::CY t h l
 | .srow k _ _ _::l=>(match t.get k with
  | some v=>FB v
  | none=>[])++CY t h l
 | .swin k _ _::l=>(match t.get k with
  | some v=>Zj v
  | none=>[])++CY t h l
 | .box id sg::l=>(match h.get id with
  | some (.box cs _ _)=>C0 sg cs
  | _=>[])++id::CY t h l
def D8:List Nat->Bool
 | []=>true
 | a::l => !l.any (Nat.beq a)&&D8 l
def OU (nx:Nat):List Sgm->Bool
 | []=>true
 | .kp id::l=>Nat.blt id nx&&OU nx l
 | .lf _::l | .ow _ _ _::l=>OU nx l
def B7 (nt nx:Nat):List Pl->Bool
 | []=>true
 | .slot k _ _::l | .srow k _ _ _::l | .swin k _ _::l=>Nat.blt k nt&&B7 nt nx l
 | .box _ sg::l=>OU nx sg&&B7 nt nx l
 | .map _ _ _ _::l=>B7 nt nx l
def HB (h:H) (n:Nat) (l:List Nat):List Nat:=l++(List.range n).filter λi=>(match h.get i with
 | some c=>c.locked
 | none=>false) && !l.any (Nat.beq i)
def Fz:Code->Option Nat
 | .region id _ _=>some id
 | .seq a b=>match Fz a with
  | some i=>some i
  | none=>Fz b
 | .cond _ a b=>match Fz a with
  | some i=>some i
  | none=>Fz b
 | .block _ b | .loop b | .scope b=>Fz b
 | .rangeFunc _ _ a b=>match Fz a with
  | some i=>some i
  | none=>Fz b
 | _=>none
def H2:Code->Option Nat
 | .region id _ _=>some id
 | .seq a b=>match H2 b with
  | some i=>some i
  | none=>H2 a
 | .cond _ a b=>match H2 b with
  | some i=>some i
  | none=>H2 a
 | .block _ b | .loop b | .scope b=>H2 b
 | .rangeFunc _ _ a b=>match H2 b with
  | some i=>some i
  | none=>H2 a
 | _=>none
def jC (x:Code):Nat:=match Fz x,H2 x with
 | some i,some k=>1000000+(i*1000+k)
 | _,_=>0
def E2:Code->List Nat
 | .region _ ops _=>ops.toList.filterMap (·.dst)
 | .seq a b | .cond _ a b=>E2 a++E2 b
 | .block _ b | .loop b | .scope b=>E2 b
 | _=>[]
def Nb (h:H):List Nat->Bool
 | []=>true
 | id::l=>(match h.get id with
  | some (.df (some []))=>true
  | some (.df _)=>false
  | _=>true)&&Nb h l
def L5 (h:H):List Nat->List Nat
 | []=>[]
 | id::l=>match h.get id with
  | some (.df _)=>id::L5 h l
  | _=>L5 h l
def LG (h:H):List Nat->Bool
 | []=>true
 | id::l=>(match h.get id with
  | some (.df (some []))=>true
  | _=>false)&&LG h l
def Ku (h:H):List (Nat×Nat×Option Code)->Bool
 | []=>true
 | (id,st,pd)::l=>(match h.get id with
  | some (.lp st' pd' _ _ _ _ _ _)=>Nat.beq st st'&&(match pd,pd' with
   | none,none=>true
   | some .ret,some .ret=>true
   | some (.exit i),some (.exit j)=>Nat.beq i j
   | some (.goto i),some (.goto j)=>Nat.beq i j
   | _,_=>false)
  | _=>false)&&Ku h l
def F1 (h:H):List (Nat×Nat×Option Code)->H
 | []=>h
 | (id,st,pd)::l=>match h.get id with
  | some (.lp _ _ nt t ps asg body d)=>Ae (F1 h l) id (.lp st pd nt t ps asg body d)
  | _=>F1 h l
def D9 (h:H):List Nat->List (Nat×Nat×Option Code)
 | []=>[]
 | id::l=>match h.get id with
  | some (.lp st pd _ _ _ _ _ _)=>(id,st,pd)::D9 h l
  | _=>D9 h l
section
variable {β:Type}
def gD (h:H) (n:Nat) (v:V) (K:V->H->Option β):Option β:=match v with
 | .ow j=>match h.get j with
  | some (.row g c l _ _ false)=>K (.lf false g c l) (Di h (λb=>b) ((List.range n).filter λi => !Nat.beq i j))
  | _=>none
 | .own j off len=>match h.get j with
  | some (.row g c l _ _ false)=>gd (A0 (AK off len) (AA l)) λ_=>K (.lf false g c (B6 l off (AK off len))) (Di h (λb=>b) ((List.range n).filter λi => !Nat.beq i j))
  | _=>none
 | _=>none
def gE (n:Nat):List (Nat×Nat)->H->(H->Option β)->Option β
 | [],h,K=>K h
 | (b,i)::r,h,K=>match h.get b with
  | some (.box cs fz false)=>G1 (lget cs i) λv=>gD h n v λv' h'=>gE n r (Ae h' b (.box (Pi.lset cs i v') fz false)) K
  | _=>none
def gF (n:Nat):List Nat->FrA->H->(FrA->H->Option β)->Option β
 | [],fr,h,K=>K fr h
 | k::r,fr,h,K=>bif Nat.blt k 1048575 then G1 (fr.t.get k) λv=>gD h n v λv' h'=>gF n r { fr with t:=T.put 20 fr.t k v' } h' K else none
def kD (h:H) (ex:ExA) (pay:Ty):ExK->(pay.den->Option β)->Option β
 | .exit i,K=>match ex with
  | .exit j=>bif Nat.beq i j then K (V9 pay) else none
  | _=>none
 | .ret,K=>match ex with
  | .ret=>K (V9 pay)
  | _=>none
 | .pan t g c,K=>match ex with
  | .panic (.ifc t' v)=>bif Nat.beq t t' then (if e:c=pay then OL .lf g c v λx=>K (e ▸ x) else none) else none
  | _=>none
def kF (ex:ExA):ExK->Bool
 | .exit i=>match ex with
  | .exit j=>Nat.beq i j
  | _=>false
 | .ret=>match ex with
  | .ret=>true
  | _=>false
 | .pan t _ _=>match ex with
  | .panic (.ifc t' _)=>Nat.beq t t'
  | _=>false
def Mm (h:H) (ids:List Nat) (ex:ExA) (pay:Ty):Nat->List (ExK×List (Nat×Nat×Option Code))->(Nat->pay.den->Option β)->Option β
 | _,[],_=>none
 | i,(k,lp)::l,K=>bif kF ex k&&(Ku h lp&&(lp.map (·.1)) == ids) then kD h ex pay k (K i) else Mm h ids ex pay (i+1) l K
def RB (pay:Ty) (x:pay.den):ExK->ExA
 | .exit i => .exit i
 | .ret => .ret
 | .pan t g c=>if e:c=pay then .panic (.ifc t (XC g c (e ▸ x))) else .normal
def SZ (pay:Ty) (x:pay.den) (n:Nat):Nat->List (ExK×List (Nat×Nat×Option Code))->(ExA->List (Nat×Nat×Option Code)->Option β)->Option β
 | _,[],_=>none
 | _,[(k,lp)],K=>K (RB pay x k) lp
 | i,(k,lp)::e::l,K=>br (neq n i) (λ_=>K (RB pay x k) lp) λ_=>SZ pay x n (i+1) (e::l) K
end
def L6:Nat->List V->T V->T V
 | _,[],t=>t
 | i,a::l,t=>L6 (i+1) l (T.put 20 t i a)
def I4 (nt:Nat):List Nat->List V->T V->Option (T V)
 | [],[],t=>some t
 | p::ps,a::l,t=>bif Nat.blt p nt then I4 nt ps l (T.put 20 t p a) else none
 | _,_,_=>none
section
variable {β:Type}
def L7 (P:Program) (tab:I3) (ann:P1) (f:FuncId) (rec:OT):Nat->(β:Type)->Nat->Code->FrA->H->Nat->KA β->Option β
 | 0,_,_,_,_,_,_,_=>none
 | n+1,β,b,c,fr,h,nx,K=>match c with
  | .skip | .label _=>K .normal fr h nx
  | .seq x y=>match ann f (jC x) nx with
   | some (.join j) =>
    let ids:=BN j.pl0++BN j.pl1
    let kb:=HB h nx j.kb
    bif fr.up.isSome || !B7 fr.nt nx j.pl0 || !B7 fr.nt nx j.pl1 || !j.keep.all (λk=>Nat.blt k 1048575)||(E2 x).any (λk=>j.keep.any (Nat.beq k)) || !D8 (CY fr.t h j.pl0++kb) || !(kb++ids).all (λi=>Nat.blt i nx) || !Nb h kb||kb.any (λi=>ids.any (Nat.beq i)) then none else
    let lps:=D9 h kb
    let dfs:=L5 h kb
    Gc fr.t h j.pl0 λs0 =>
    jn (α:=C7 j.pl0) (β:=β) (γ:=Nat×C7 j.pl1×j.pay.den) (δ:=C7 j.pl1) (λs =>
      match Bm (Dh fr.t j.keep) (Di h Hb kb) nx j.pl0 s with
      | (t1,h1,nx1)=>bif !Nat.ble nx1 1048575 then none else L7 P tab ann f rec n (LR (C7 j.pl1) (Nat×C7 j.pl1×j.pay.den)) nx1 x { fr with t:=t1 } h1 nx1 λe fr' h' _ =>
       bif !Nat.beq fr'.ds.length fr.ds.length || !LG h' dfs then none else match e with
       | .normal=>bif D8 (CY fr'.t h' j.pl1++kb)&&Ku h' lps then Gc fr'.t h' j.pl1 λs'=>some (.nx s') else none
       | e=>bif D8 (CY fr'.t h' j.pl1++kb) then Mm h' (lps.map (·.1)) e j.pay 0 j.ex λi p=>Gc fr'.t h' j.pl1 λs'=>some (.dn (i,s',p)) else none) s0
     (λs=>match Bm (Dh fr.t j.keep) (F1 (Di h (λb=>b) kb) lps) nx j.pl1 s with
      | (t1,h1,nx1)=>bif !Nat.ble nx1 1048575 then none else L7 P tab ann f rec n β b y { fr with t:=t1 } h1 nx1 K)
     (λx=>SZ j.pay x.2.2 x.1 0 j.ex λe lp=>match Bm (Dh fr.t j.keep) (F1 (Di h (λb=>b) kb) lp) nx j.pl1 x.2.1 with
      | (t1,h1,nx1)=>bif !Nat.ble nx1 1048575 then none else K e { fr with t:=t1 } h1 nx1)
   | _=>L7 P tab ann f rec n β b x fr h nx λe fr h nx=>match e with
    | .normal=>L7 P tab ann f rec n β b y fr h nx K
    | e=>K e fr h nx
  | .cond c x y=>C9 fr.t c λv=>match v with
   | .bool c=>br c (λ_=>L7 P tab ann f rec n β b x fr h nx K) (λ_=>L7 P tab ann f rec n β b y fr h nx K)
   | _=>none
  | .block id x=>L7 P tab ann f rec n β b x fr h nx λe fr h nx=>match e with
   | .exit j=>bif Nat.beq j id then K .normal fr h nx else K (.exit j) fr h nx
   | e=>K e fr h nx
  | .loop x=>match (match Fz x with
    | some i=>ann f i nx
    | none=>none) with
   | some (.loop tm) =>
    gE nx tm.rel h λh=>gF nx tm.relS fr h λfr h =>
    let ids:=BN tm.pl++BN tm.plx
    let kb:=HB h nx tm.kb
    bif fr.up.isSome || !B7 fr.nt nx tm.pl || !B7 fr.nt nx tm.plx || !tm.keep.all (λk=>Nat.blt k 1048575)||(E2 x).any (λk=>tm.keep.any (Nat.beq k)) || !D8 (CY fr.t h tm.pl++kb) || !(kb++ids).all (λi=>Nat.blt i nx) || !Nb h kb||kb.any (λi=>(BN tm.plx).any (Nat.beq i)) then none else
    let lps:=D9 h kb
    let dfs:=L5 h kb
    Gc fr.t h tm.pl λs0 =>
    bd (loop (α:=C7 tm.pl) (β:=Nat×C7 tm.plx×tm.pay.den) (λs =>
      match Bm (Dh fr.t tm.keep) (Di h Hb kb) nx tm.pl s with
      | (t1,h1,nx1)=>bif !Nat.ble nx1 1048575 then none else L7 P tab ann f rec n (LR (C7 tm.pl) (Nat×C7 tm.plx×tm.pay.den)) nx1 x { fr with t:=t1 } h1 nx1 λe fr' h' _ =>
       bif !Nat.beq fr'.ds.length fr.ds.length || !LG h' dfs then none else match e with
       | .normal=>bif D8 (CY fr'.t h' tm.pl++kb)&&Ku h' lps then Gc fr'.t h' tm.pl λs'=>some (.nx s') else none
       | e=>bif D8 (CY fr'.t h' tm.plx++kb) then Mm h' (lps.map (·.1)) e tm.pay 0 tm.ex λi p=>Gc fr'.t h' tm.plx λs'=>some (.dn (i,s',p)) else none) s0) λx =>
    SZ tm.pay x.2.2 x.1 0 tm.ex λe lp=>match Bm (Dh fr.t tm.keep) (F1 (Di h (λb=>b) kb) lp) nx tm.plx x.2.1 with
    | (t1,h1,nx1)=>bif !Nat.ble nx1 1048575 then none else K e { fr with t:=t1 } h1 nx1
   | _=>L7 P tab ann f rec n β b x fr h nx λe fr h nx=>match e with
    | .normal=>L7 P tab ann f rec n β b (.loop x) fr h nx K
    | e=>K e fr h nx
  | .scope x=>L7 P tab ann f rec n β b x fr h nx λe fr h nx=>match e with
   | .goto _=>none
   | e=>K e fr h nx
  | .exit id=>K (.exit id) fr h nx
  | .goto l=>K (.goto l) fr h nx
  | .ret=>K .ret fr h nx
  | .refuse _=>none
  | .region _ ops draw=>bif !Nat.ble (nx+ops.size) 1048575 || !(ops.toList.all λo=>match o.dst with
    | some d=>Nat.blt d fr.nt
    | none=>true) then none else
    bif draw then (bif P.follows .mixedOrders || !Region.departs ops then UA P tab nx ops.toList fr h λfr h=>K .normal fr h (nx+ops.size) else none)
    else EV P tab rec nx ops.toList (MV 0 ops.toList) fr h (nx+ops.size) K
  | .rangeFunc g ps asg body=>bif !Nat.ble (nx+2) 1048575 then none else C9 fr.t g λv=>match v with
   | .fn g a1 b1 =>
    match (match fr.ro with
     | none=>some (nx,[DFA.col nx],Ae h nx (.df (some [])))
     | some l0=>(match h.get l0 with
      | some (.lp _ _ _ _ _ _ _ d0)=>some (d0,[],h)
      | _=>none)) with
    | some (d,mark,h)=>KV P g a1 b1 [.yl (nx+1)] λr=>match r with
     | .call g args=>rec β (.fn g) none args (Ae h (nx+1) (.lp 0 none fr.nt fr.t ps.toList asg body d)) (nx+2) λo _ h nx'=>match o with
      | .ret _=>(match h.get (nx+1) with
       | some (.lp st pend nt t ps asg body d)=>bif Nat.beq st 1 then none else
        let h:=Ae h (nx+1) (.lp 3 pend nt t ps asg body d)
        (match pend with
        | none=>K .normal { fr with ds:=mark++fr.ds } h nx'
        | some .ret=>K .ret { fr with ds:=mark++fr.ds } h nx'
        | some (.exit id)=>K (.exit id) { fr with ds:=mark++fr.ds } h nx'
        | some (.goto id)=>K (.goto id) { fr with ds:=mark++fr.ds } h nx'
        | _=>none)
       | _=>none)
      | _=>none
     | _=>none
    | none=>none
   | _=>none
def P3 (P:Program) (h:H) (t:T V):List ResultVar->(List V->Option β)->Option β
 | [],K=>K []
 | .tmp k::l,K=>G1 (t.get k) λv=>P3 P h t l λvs=>K (v::vs)
 | .cell a ty::l,K=>match t.get a with
  | some (.ptr j off)=>match h.get j with
   | some (.box cs _ _)=>G1 (Ie P ty (cs.drop off)) λv=>P3 P h t l λvs=>K (v::vs)
   | _=>none
  | _=>none
def WD:UMA->UMA
 | .pan ({ v:=_,recovered:=true }::_) => .ret
 | u=>u
def I5 (P:Program) (rec:OT) (fn:Func) (β:Type):Nat->List DFA->UMA->T V->H->Nat->(OutA->H->Nat->Option β)->Option β
 | 0,_,_,_,_,_,_=>none
 | n+1,ds,u,t,h,nx,K=>match ds with
  | []=>match u with
   | .ret=>P3 P h t fn.results.toList λvs=>K (.ret (match vs with
    | [v]=>v
    | vs => .tup vs)) h nx
   | .pan ch=>K (.pan ch) h nx
  | .col id::ds=>match h.get id with
   | some (.df (some l))=>I5 P rec fn β n (l++ds) u t (Ae h id (.df none)) nx K
   | _=>none
  | .bi b ats _ args::ds=>match b,args,ats[0]? with
   | .clear,[.mp j],some ty=>(match P.underlying ty,h.get j with
    | some (.map _ _),some (.mp k g c _ false)=>I5 P rec fn β n ds u t (Ae h j (.mp k g c [] false)) nx K
    | _,_=>none)
   | _,_,_=>none
  | .call f args::ds=>match f with
   | .fn (.func g) a b=>KV P (.func g) a b args λr=>match r with
    | .call g args=>rec β (.fn g) (some u) args h nx λo up h nx=>match o,up with
     | .ret _,some u=>I5 P rec fn β n ds (WD u) t h nx K
     | _,_=>none
    | _=>none
   | _=>none
def Gd (h:H) (nx:Nat) (l:Nat) (jump:Option Code) (K:OutA->Option UMA->H->Nat->Option β):Option β:=match h.get l with
 | some (.lp _ _ nt t ps asg body d)=>K (.ret (.bool jump.isNone)) none (Ae h l (.lp (match jump with | none=>0 | some _=>2) jump nt t ps asg body d)) nx
 | _=>none
def XG (P:Program) (tab:I3) (ann:P1) (F:Nat):Nat->OT
 | 0=>λ_ _ _ _ _ _ _=>none
 | n+1=>λβ tg up args h nx K=>match tg with
  | .fn f=>G1 P.funcs[f]? λfn=>G1 fn.body λc =>
   bif Nat.ble args.length fn.ntmps&&Nat.blt fn.ntmps 1048575 then
    L7 P tab ann f (XG P tab ann F n) F β nx c { t:=L6 0 args .lf,nt:=fn.ntmps,ds:=[],up,ro:=none } h nx λe fr h nx=>match e with
     | .normal=>I5 P (XG P tab ann F n) fn β F fr.ds .ret fr.t h nx λo h nx=>K o fr.up h nx
     | .ret=>I5 P (XG P tab ann F n) fn β F fr.ds .ret fr.t h nx λo h nx=>K o fr.up h nx
     | .panic e=>I5 P (XG P tab ann F n) fn β F fr.ds (.pan [{ v:=e,recovered:=false }]) fr.t h nx λo h nx=>K o fr.up h nx
     | _=>none
   else none
  | .yl l=>match h.get l with
   | some (.lp _ _ nt t ps asg body0 _)=>G1 (I4 nt ps args t) λt =>
    L7 P tab ann 0 (XG P tab ann F n) F β nx asg { t,nt,ds:=[],up:=none,ro:=some l } h nx λe fr h nx=>match e with
     | .normal=>(match h.get l with
      | some (.lp 0 pend nt t ps asg body d)=>L7 P tab ann 0 (XG P tab ann F n) F β nx body0 fr (Ae h l (.lp 1 pend nt t ps asg body d)) nx λe _ h nx=>match e with
        | .normal=>Gd h nx l none K
        | .ret=>Gd h nx l (some .ret) K
        | .exit id=>Gd h nx l (some (.exit id)) K
        | .goto id=>Gd h nx l (some (.goto id)) K
        | _=>none
      | _=>none)
     | _=>none
   | _=>none
def Ab (P:Program) (tab:I3) (ann:P1) (F n:Nat) (f:FuncId) (dom cod:List (Bool×Ty)) (x:AG dom):Option (AG cod) :=
 XG P tab ann F n (AG cod) (.fn f) none (Jm dom x) .lf 0 λo _ h _=>match o with
  | .ret v=>E1 h cod (match cod with
   | [_]=>[v]
   | _=>match v with
    | .tup vs=>vs
    | v=>[v]) some
  | _=>none
end
def P4 (P:Program) (tab:I3) (ann:P1) (F n:Nat) (f:FuncId) (dom:List (Bool×Ty)) (g:Bool) (c:Ty) (x:AG dom):Option (List c.den) :=
 XG P tab ann F n (List c.den) (.fn f) none (Jm dom x) .lf 0 λo _ h _=>match o with
  | .ret (.ow j)=>(match h.get j with
   | some (.row g' _ l false false _)=>bif g == g' then H0 l some else none
   | _=>none)
  | _=>none
def WE (P:Program) (tab:I3) (ann:P1) (F n:Nat) (f:FuncId) (dom cod:List (Bool×Ty)) (x:AG dom):Option (AG cod) :=
 XG P tab ann F n (AG cod) (.fn f) none (Zg dom (Jm dom x)) .lf 0 λo _ h _=>match o with
  | .ret v=>E1 h cod (match cod with
   | [_]=>[v]
   | _=>match v with
    | .tup vs=>vs
    | v=>[v]) some
  | _=>none
def UB:List (FuncId×Sg)->FuncId->Option Sg
 | [],_=>none
 | (g,sg)::l,f=>bif Nat.beq f g then some sg else UB l f
def AC (pu:FuncId->Bool) (L:List (FuncId×Sg)):I3:=λf=>bif pu f then some (UB L f) else none
def AI:List (Nat×Nat×Nat×An)->P1
 | [],_,_,_=>none
 | (a,b,c,tm)::l,f,i,nx=>bif Nat.beq f a&&(Nat.beq i b&&Nat.beq nx c) then some tm else AI l f i nx
end Go.Proofs.YthpkjfabdccpdaaGreat.Sv
namespace Go.Proofs.YthpkjfabdccpdaaGreat.Sv
open Go.Proofs.YthpkjfabdccpdaaGreat.Pi (PV T Hp Blk DF UM PE)
inductive L2 {α β:Type} (R:α->β->Prop):List α->List β->Prop where
 | nil:L2 R [] []
 | cons {a:α} {b:β} {l:List α} {m:List β} (h:R a b) (t:L2 R l m):L2 R (a::l) (b::m)
namespace L2
variable {α β:Type} {R S:α->β->Prop}
theorem length {l:List α} {m:List β} (h:L2 R l m):l.length=m.length:=by
 induction h with
 | nil=>rfl
 | cons _ _ ih=>simp [ih]
theorem mono {l:List α} {m:List β} (h:L2 R l m) (f : ∀ a b,R a b->S a b):L2 S l m:=by
 induction h with
 | nil=>exact .nil
 | cons x _ ih=>exact .cons (f _ _ x) ih
theorem append {l l':List α} {m m':List β} (h:L2 R l m) (k:L2 R l' m'):L2 R (l++l') (m++m'):=by
 induction h with
 | nil=>exact k
 | cons x _ ih=>exact .cons x ih
theorem take {l:List α} {m:List β} (h:L2 R l m) : ∀ n,L2 R (l.take n) (m.take n):=by
 induction h with
 | nil=>intro n;simp;exact .nil
 | cons x _ ih=>intro n;cases n with
  | zero=>simp;exact .nil
  | succ n=>exact .cons x (ih n)
theorem drop {l:List α} {m:List β} (h:L2 R l m) : ∀ n,L2 R (l.drop n) (m.drop n):=by
 induction h with
 | nil=>intro n;simp;exact .nil
 | cons x t ih=>intro n;cases n with
  | zero=>exact .cons x t
  | succ n=>exact ih n
theorem get {l:List α} {m:List β} (h:L2 R l m) : ∀ {i:Nat} {a:α},l[i]? = some a -> ∃ b,m[i]? = some b/\R a b:=by
 induction h with
 | nil=>intro i a h;simp at h
 | cons x _ ih=>intro i a h;cases i with
  | zero=>simp at h;subst h;exact ⟨_,rfl,x⟩
  | succ i=>simp at h;obtain ⟨b,h1,h2⟩:=ih h;exact ⟨b,by simpa using h1,h2⟩
theorem set {l:List α} {m:List β} (h:L2 R l m) : ∀ (i:Nat) {a:α} {b:β},R a b->L2 R (l.set i a) (m.set i b):=by
 induction h with
 | nil=>intro i a b h;exact .nil
 | cons x t ih=>intro i a b h;cases i with
  | zero=>exact .cons h t
  | succ i=>exact .cons x (ih i h)
theorem replicate {a:α} {b:β} (h:R a b) : ∀ n,L2 R (List.replicate n a) (List.replicate n b)
 | 0 => .nil
 | n+1 => .cons h (replicate h n)
theorem nil_inv {m:List β} (h:L2 R [] m):m=[]:=by cases h;rfl
theorem nil_inv' {l:List α} (h:L2 R l []):l=[]:=by cases h;rfl
theorem cons_inv {a:α} {l:List α} {m:List β} (h:L2 R (a::l) m) : ∃ b t,m=b::t/\R a b/\L2 R l t:=by
 cases h with
 | cons x t=>exact ⟨_,_,rfl,x,t⟩
theorem split {l l':List α} {m:List β} (h:L2 R (l++l') m) : ∃ p q,m=p++q/\L2 R l p/\L2 R l' q:=by
 induction l generalizing m with
 | nil=>exact ⟨[],m,rfl,.nil,h⟩
 | cons a l ih =>
  obtain ⟨b,t,rfl,h1,h2⟩:=cons_inv h;obtain ⟨p,q,rfl,h3,h4⟩:=ih h2;exact ⟨b::p,q,rfl,.cons h1 h3,h4⟩
end L2
def EP {α:Type} (g:Bool) (D:α->List PV->Prop) (x:α) (e:PV):Prop:=match g with
 | true => ∃ cs,e = .agg cs/\D x cs
 | false=>D x [e]
def DP:(c:Ty)->c.den->List PV->Prop
 | .int k,n,ps=>ps=[.int k n]
 | .bool,b,ps=>ps=[.bool b]
 | .str,s,ps=>ps=[.str s]
 | .unit,_,ps=>ps=[]
 | .pair a b,x,ps => ∃ p q,ps=p++q/\DP a x.1 p/\DP b x.2 q
 | .sl g c,l,ps => ∃ p,ps=[p]/\((p = .nils/\l=[]) \/ ∃ f es,p = .lst f es/\L2 (EP g (DP c)) l es)
def DR (h:Hp) (Q:Nat->Prop):(c:Ty)->c.den->List PV->Prop
 | .int k,n,ps=>ps=[.int k n]
 | .bool,b,ps=>ps=[.bool b]
 | .str,s,ps=>ps=[.str s]
 | .unit,_,ps=>ps=[]
 | .pair a b,x,ps => ∃ p q,ps=p++q/\DR h Q a x.1 p/\DR h Q b x.2 q
 | .sl g c,l,ps => ∃ p,ps=[p]/\((p = .nils/\l=[])\/(∃ f es,p = .lst f es/\L2 (EP g (DP c)) l es) \/
   ∃ pid off len es ex fz,p = .own pid off len/\Q pid/\h.get pid=some (.row es ex fz)/\off+len<=es.length/\Pi.GY c.wd es=true/\L2 (EP g (DR h Q c)) l ((es.drop off).take len))
theorem EP.mono {α:Type} {g:Bool} {D E:α->List PV->Prop} (f : ∀ x ps,D x ps->E x ps) {x:α} {e:PV} (h:EP g D x e):EP g E x e:=by
 cases g with
 | true=>obtain ⟨cs,h1,h2⟩:=h;exact ⟨cs,h1,f _ _ h2⟩
 | false=>exact f _ _ h
theorem DP.up {h:Hp} {Q:Nat->Prop} : ∀ {c:Ty} {x:c.den} {ps:List PV},DP c x ps->DR h Q c x ps
 | .int _,_,_,e=>e
 | .bool,_,_,e=>e
 | .str,_,_,e=>e
 | .unit,_,_,e=>e
 | .pair _ _,_,_,⟨p,q,e,h1,h2⟩=>⟨p,q,e,DP.up h1,DP.up h2⟩
 | .sl _ _,_,_,⟨p,e,h⟩=>⟨p,e,h.elim .inl λh => .inr (.inl h)⟩
def Rows (h h':Hp) (Q Q':Nat->Prop):Prop := ∀ pid es ex fz,Q pid->h.get pid=some (.row es ex fz)->(∃ fz',h'.get pid=some (.row es ex fz'))/\Q' pid
theorem DR.mono {h h':Hp} {Q Q':Nat->Prop} (hr:Rows h h' Q Q') : ∀ {c:Ty} {x:c.den} {ps:List PV},DR h Q c x ps->DR h' Q' c x ps
 | .int _,_,_,e=>e
 | .bool,_,_,e=>e
 | .str,_,_,e=>e
 | .unit,_,_,e=>e
 | .pair _ _,_,_,⟨p,q,e,h1,h2⟩=>⟨p,q,e,DR.mono hr h1,DR.mono hr h2⟩
 | .sl _ _,_,_,⟨p,e,h⟩=>⟨p,e,by
  rcases h with h | h | ⟨pid,off,len,es,ex,fz,h1,h2,h3,h4,h8,h5⟩
  ·exact .inl h
  ·exact .inr (.inl h)
  ·obtain ⟨⟨fz',h6⟩,h7⟩:=hr _ _ _ _ h2 h3
   exact .inr (.inr ⟨pid,off,len,es,ex,fz',h1,h7,h6,h4,h8,h5.mono λ_ _ k=>k.mono λ_ _ k=>DR.mono hr k⟩)⟩
inductive At where
 | blk (pid len:Nat)
 | nil
 | fz (es:List PV)
abbrev Mp:=Nat->Option At
def pz:Mp:=λ_=>none
def IQ:Hp:={ m:=.lf,nx:=0 }
structure Cx where
 π:Mp
 h:Hp
 O:Nat->Prop
def Cx.pure:Cx:={ π:=pz,h:=IQ,O:=λ_=>True }
def Cx.Q (X:Cx) (pid:Nat):Prop := ¬ X.O pid
mutual
def VR (X:Cx):V->PV->Prop
 | .bool b,p=>p = .bool b
 | .int k n,p=>p = .int k n
 | .str s,p=>p = .str s
 | .nilp,p=>p = .nilp
 | .nils,p=>p = .nils
 | .nilm,p=>p = .nilm
 | .nilf,p=>p = .nilf
 | .nili,p=>p = .nili
 | .agg cs,p => ∃ ps,p = .agg ps/\VRL X cs ps
 | .tup cs,p => ∃ ps,p = .tup ps/\VRL X cs ps
 | .lf full g c l,p=>(p = .nils/\l=[])\/(∃ f es,p = .lst f es/\(full=true->f=true)/\L2 (EP g (DP c)) l es) \/
   ∃ pid off len es ex fz,p = .own pid off len/\(full=true->ex=true/\off+len=es.length)/\X.Q pid/\X.h.get pid=some (.row es ex fz)/\off+len<=es.length/\Pi.GY c.wd es=true/\L2 (EP g (DR X.h X.Q c)) l ((es.drop off).take len)
 | .pl g c l,p=>(p = .nils/\l=[]) \/ ∃ f es,p = .lst f es/\L2 (EP g (DP c)) l es
 | .exl full es,p => ∃ f ps,p = .lst f ps/\(full=true->f=true)/\VRL Cx.pure es ps
 | .ow id,p=>match X.π id with
  | some (.blk pid len)=>p = .own pid 0 len
  | some .nil=>p = .nils
  | some (.fz es)=>p = .lst true es
  | none=>False
 | .own id off len,p => ∃ pid n,X.π id=some (.blk pid n)/\p = .own pid off len
 | .ptr id off,p => ∃ pid n,X.π id=some (.blk pid n)/\p = .ptr pid off
 | .ept id i off,p => ∃ pid n,X.π id=some (.blk pid n)/\p = .ept pid i off
 | .view cs,p=>(∃ ps,p = .view ps/\VRL Cx.pure cs ps) \/ ∃ pid i off es ex fz e,p = .ept pid i off/\X.Q pid/\X.h.get pid=some (.row es ex fz)/\es[i]? = some e/\VRL X cs (e.cells.drop off)
 | .pv cs,p => ∃ ps,p = .view ps/\VRL Cx.pure cs ps
 | .fn f a b,p => ∃ a' b',p = .fn f a' b'/\VRL X a a'/\VRL X b b'
 | .yl id,p => ∃ pid n,X.π id=some (.blk pid n)/\p = .yl pid
 | .ifc t v,p => ∃ q,p = .ifc t q/\VR X v q
 | .mp id,p => ∃ pid n,X.π id=some (.blk pid n)/\p = .mp pid
def VRL (X:Cx):List V->List PV->Prop
 | [],ps=>ps=[]
 | v::vs,ps => ∃ p qs,ps=p::qs/\VR X v p/\VRL X vs qs
end
structure Up (X Y:Cx):Prop where
 pi : ∀ id a,X.π id=some a->Y.π id=some a
 rows:Rows X.h Y.h X.Q Y.Q
theorem Up.refl (X:Cx):Up X X:=⟨λ_ _ h=>h,λ_ _ _ _ h k=>⟨⟨_,k⟩,h⟩⟩
theorem Up.trans {X Y Z:Cx} (a:Up X Y) (b:Up Y Z):Up X Z:=⟨λid x h=>b.pi _ _ (a.pi _ _ h),λpid es ex fz h k=>by
 obtain ⟨⟨fz',h1⟩,h2⟩:=a.rows _ _ _ _ h k
 exact b.rows _ _ _ _ h2 h1⟩
theorem Up.pure (X:Cx):Up Cx.pure X:=⟨λ_ _ h=>(by cases h),λ_ _ _ _ h=>absurd trivial h⟩
mutual
theorem VR.mono {X Y:Cx} (u:Up X Y) : ∀ {v:V} {p:PV},VR X v p->VR Y v p
 | .bool _,_,h | .int _ _,_,h | .str _,_,h | .nilp,_,h | .nils,_,h | .nilm,_,h | .nilf,_,h | .nili,_,h=>by
  simp only [VR] at h ⊢;exact h
 | .agg cs,_,h=>by
  simp only [VR] at h ⊢;obtain ⟨ps,h1,h2⟩:=h;exact ⟨ps,h1,VRL.mono u h2⟩
 | .tup cs,_,h=>by
  simp only [VR] at h ⊢;obtain ⟨ps,h1,h2⟩:=h;exact ⟨ps,h1,VRL.mono u h2⟩
 | .lf full g c l,_,h=>by
  simp only [VR] at h ⊢;rcases h with h | h | ⟨pid,off,len,es,ex,fz,h1,h0,h2,h3,h4,h8,h5⟩
  ·exact .inl h
  ·exact .inr (.inl h)
  ·obtain ⟨⟨fz',h6⟩,h7⟩:=u.rows _ _ _ _ h2 h3;exact .inr (.inr ⟨pid,off,len,es,ex,fz',h1,h0,h7,h6,h4,h8,h5.mono λ_ _ k=>k.mono λ_ _ k=>DR.mono u.rows k⟩)
 | .exl full es,_,h=>by simp only [VR] at h ⊢;exact h
 | .pl _ _ _,_,h=>by simp only [VR] at h ⊢;exact h
 | .pv _,_,h=>by simp only [VR] at h ⊢;exact h
 | .ow id,p,h=>by
  simp only [VR] at h ⊢;cases hx:X.π id with
  | none=>rw [hx] at h;exact h.elim
  | some a=>rw [hx] at h;rw [u.pi _ _ hx];exact h
 | .own id off len,_,h=>by
  simp only [VR] at h ⊢;obtain ⟨pid,n,h1,h2⟩:=h;exact ⟨pid,n,u.pi _ _ h1,h2⟩
 | .ptr id off,_,h=>by
  simp only [VR] at h ⊢;obtain ⟨pid,n,h1,h2⟩:=h;exact ⟨pid,n,u.pi _ _ h1,h2⟩
 | .ept id i off,_,h=>by
  simp only [VR] at h ⊢;obtain ⟨pid,n,h1,h2⟩:=h;exact ⟨pid,n,u.pi _ _ h1,h2⟩
 | .view cs,_,h=>by
  simp only [VR] at h ⊢;rcases h with h | ⟨pid,i,off,es,ex,fz,e,h1,h2,h3,h4,h5⟩
  ·exact .inl h
  ·obtain ⟨⟨fz',h6⟩,h7⟩:=u.rows _ _ _ _ h2 h3;exact .inr ⟨pid,i,off,es,ex,fz',e,h1,h7,h6,h4,VRL.mono u h5⟩
 | .fn f a b,_,h=>by
  simp only [VR] at h ⊢;obtain ⟨a',b',h1,h2,h3⟩:=h;exact ⟨a',b',h1,VRL.mono u h2,VRL.mono u h3⟩
 | .yl id,_,h=>by
  simp only [VR] at h ⊢;obtain ⟨pid,n,h1,h2⟩:=h;exact ⟨pid,n,u.pi _ _ h1,h2⟩
 | .ifc t v,_,h=>by
  simp only [VR] at h ⊢;obtain ⟨q,h1,h2⟩:=h;exact ⟨q,h1,VR.mono u h2⟩
 | .mp id,_,h=>by
  simp only [VR] at h ⊢;obtain ⟨pid,n,h1,h2⟩:=h;exact ⟨pid,n,u.pi _ _ h1,h2⟩
theorem VRL.mono {X Y:Cx} (u:Up X Y) : ∀ {vs:List V} {ps:List PV},VRL X vs ps->VRL Y vs ps
 | [],_,h=>by simp only [VRL] at h ⊢;exact h
 | v::vs,_,h=>by
  simp only [VRL] at h ⊢;obtain ⟨p,qs,h1,h2,h3⟩:=h;exact ⟨p,qs,h1,VR.mono u h2,VRL.mono u h3⟩
end
section
variable {X:Cx}
theorem VRL.nil:VRL X [] []:=by simp [VRL]
theorem VRL.cons {v:V} {p:PV} {vs:List V} {ps:List PV} (h:VR X v p) (t:VRL X vs ps):VRL X (v::vs) (p::ps):=by
 simp only [VRL];exact ⟨p,ps,rfl,h,t⟩
theorem VRL.nil_inv {ps:List PV} (h:VRL X [] ps):ps=[]:=by simpa [VRL] using h
theorem VRL.cons_inv {v:V} {vs:List V} {ps:List PV} (h:VRL X (v::vs) ps) : ∃ p qs,ps=p::qs/\VR X v p/\VRL X vs qs:=by simpa only [VRL] using h
theorem VRL.length : ∀ {vs:List V} {ps:List PV},VRL X vs ps->vs.length=ps.length
 | [],_,h=>by rw [h.nil_inv];rfl
 | v::vs,_,h=>by obtain ⟨p,qs,rfl,_,h2⟩:=h.cons_inv;simp [h2.length]
theorem VRL.append : ∀ {vs ws:List V} {ps qs:List PV},VRL X vs ps->VRL X ws qs->VRL X (vs++ws) (ps++qs)
 | [],_,_,_,h,k=>by rw [h.nil_inv];exact k
 | v::vs,_,_,_,h,k=>by obtain ⟨p,qs,rfl,h1,h2⟩:=h.cons_inv;exact .cons h1 (h2.append k)
theorem VRL.take : ∀ {vs:List V} {ps:List PV} (_:VRL X vs ps) (n:Nat),VRL X (vs.take n) (ps.take n)
 | [],_,h,n=>by rw [h.nil_inv];simpa using VRL.nil
 | v::vs,_,h,0=>by simpa using VRL.nil
 | v::vs,_,h,n+1=>by obtain ⟨p,qs,rfl,h1,h2⟩:=h.cons_inv;exact .cons h1 (h2.take n)
theorem VRL.drop : ∀ {vs:List V} {ps:List PV} (_:VRL X vs ps) (n:Nat),VRL X (vs.drop n) (ps.drop n)
 | [],_,h,n=>by rw [h.nil_inv];simpa using VRL.nil
 | v::vs,_,h,0=>by simpa using h
 | v::vs,_,h,n+1=>by obtain ⟨p,qs,rfl,h1,h2⟩:=h.cons_inv;exact h2.drop n
theorem VRL.lget : ∀ {vs:List V} {ps:List PV} (_:VRL X vs ps) {i:Nat} {v:V},Pi.lget vs i=some v -> ∃ p,Pi.lget ps i=some p/\VR X v p
 | [],_,h,i,v,e=>by simp [Pi.lget] at e
 | w::vs,_,h,i,v,e=>by
  obtain ⟨p,qs,rfl,h1,h2⟩:=h.cons_inv;unfold Pi.lget at e ⊢;cases hb:Nat.beq i 0 with
  | true=>rw [hb] at e;simp at e;subst e;exact ⟨p,rfl,h1⟩
  | false=>rw [hb] at e;simp only [cond_false] at e ⊢;exact h2.lget e
theorem VRL.lset : ∀ {vs:List V} {ps:List PV} (_:VRL X vs ps) (i:Nat) {v:V} {p:PV},VR X v p->VRL X (Pi.lset vs i v) (Pi.lset ps i p)
 | [],_,h,i,v,p,_=>by rw [h.nil_inv];exact .nil
 | w::vs,_,h,i,v,p,hv=>by
  obtain ⟨q,qs,rfl,h1,h2⟩:=h.cons_inv;unfold Pi.lset;cases hb:Nat.beq i 0 with
  | true=>exact .cons hv h2
  | false=>exact .cons h1 (h2.lset _ hv)
theorem VRL.fput {vs xs:List V} {ps qs:List PV} (h:VRL X vs ps) (k:VRL X xs qs) (off:Nat):VRL X (Py vs off xs) (Pi.Et ps off qs):=by
 unfold Py Pi.Et;rw [<- k.length];exact (h.take off).append (k.append (h.drop _))
theorem VRL.rep {v:V} {p:PV} (h:VR X v p) : ∀ n,VRL X (List.replicate n v) (List.replicate n p)
 | 0 => .nil
 | n+1 => .cons h (VRL.rep h n)
theorem VR.cells {v:V} {p:PV} (h:VR X v p):VRL X v.cells p.cells:=by
 have one : ∀ (v:V) (p:PV),VR X v p->v.cells=[v]->p.cells=[p]->VRL X v.cells p.cells:=by
  intro v p h h1 h2;rw [h1,h2];exact .cons h .nil
 cases v with
 | bool b=>simp only [VR] at h;subst h;exact one _ _ (by simp [VR]) rfl rfl
 | int k n=>simp only [VR] at h;subst h;exact one _ _ (by simp [VR]) rfl rfl
 | str k=>simp only [VR] at h;subst h;exact one _ _ (by simp [VR]) rfl rfl
 | nilp=>simp only [VR] at h;subst h;exact one _ _ (by simp [VR]) rfl rfl
 | nils=>simp only [VR] at h;subst h;exact one _ _ (by simp [VR]) rfl rfl
 | nilm=>simp only [VR] at h;subst h;exact one _ _ (by simp [VR]) rfl rfl
 | nilf=>simp only [VR] at h;subst h;exact one _ _ (by simp [VR]) rfl rfl
 | nili=>simp only [VR] at h;subst h;exact one _ _ (by simp [VR]) rfl rfl
 | agg cs=>simp only [VR] at h;obtain ⟨ps,rfl,h2⟩:=h;exact h2
 | tup cs=>simp only [VR] at h;obtain ⟨ps,rfl,h2⟩:=h;exact .nil
 | lf f g c l =>
  refine one _ _ h rfl ?_;simp only [VR] at h;rcases h with ⟨rfl,_⟩ | ⟨f,es,rfl,_⟩ | ⟨pid,off,len,es,ex,fz,rfl,_⟩<;>rfl
 | pl g c l =>
  refine one _ _ h rfl ?_;simp only [VR] at h;rcases h with ⟨rfl,_⟩ | ⟨f,es,rfl,_⟩<;>rfl
 | pv cs=>refine one _ _ h rfl ?_;simp only [VR] at h;obtain ⟨_,rfl,_⟩:=h;rfl
 | exl f es =>
  refine one _ _ h rfl ?_;simp only [VR] at h;obtain ⟨f,ps,rfl,_⟩:=h;rfl
 | own id off len=>refine one _ _ h rfl ?_;simp only [VR] at h;obtain ⟨_,_,_,rfl⟩:=h;rfl
 | ptr id off=>refine one _ _ h rfl ?_;simp only [VR] at h;obtain ⟨_,_,_,rfl⟩:=h;rfl
 | ept id i off=>refine one _ _ h rfl ?_;simp only [VR] at h;obtain ⟨_,_,_,rfl⟩:=h;rfl
 | view cs =>
  refine one _ _ h rfl ?_;simp only [VR] at h;rcases h with ⟨ps,rfl,_⟩ | ⟨_,_,_,_,_,_,_,rfl,_⟩<;>rfl
 | fn f a b=>refine one _ _ h rfl ?_;simp only [VR] at h;obtain ⟨_,_,rfl,_⟩:=h;rfl
 | yl id=>refine one _ _ h rfl ?_;simp only [VR] at h;obtain ⟨_,_,_,rfl⟩:=h;rfl
 | ifc t v=>refine one _ _ h rfl ?_;simp only [VR] at h;obtain ⟨_,rfl,_⟩:=h;rfl
 | mp id=>refine one _ _ h rfl ?_;simp only [VR] at h;obtain ⟨_,_,_,rfl⟩:=h;rfl
 | ow id =>
  refine one _ _ h rfl ?_;simp only [VR] at h;split at h
  ·subst h;rfl
  ·subst h;rfl
  ·subst h;rfl
  ·exact h.elim
theorem VR.norm {v:V} {p:PV} (h:VR X v p):VR X v.norm p:=by
 cases v with
 | pl g c l =>
  simp only [VR] at h;simp only [V.norm,VR];rcases h with h | ⟨f,es,h1,h2⟩
  ·exact .inl h
  ·exact .inr (.inl ⟨f,es,h1,(λh=>by cases h),h2⟩)
 | pv cs =>
  simp only [VR] at h;simp only [V.norm,VR];exact .inl h
 | _=>exact h
end
end Go.Proofs.YthpkjfabdccpdaaGreat.Sv
namespace Go.Proofs.YthpkjfabdccpdaaGreat.Sv
open Go.Proofs.YthpkjfabdccpdaaGreat.Pi (PV T Hp Blk DF UM PE)
section
variable {β α:Type}
theorem AZ {o:Option α} {K:α->Option β} {x:β} (e:G1 o K=some x) : ∃ y,o=some y/\K y=some x:=by
 cases o with
 | none=>cases e
 | some y=>exact ⟨y,rfl,e⟩
theorem Ao {c:Bool} {K:Unit->Option β} {x:β} (e:gd c K=some x):c=true/\K ()=some x:=by
 cases c with
 | false=>cases e
 | true=>exact ⟨rfl,e⟩
theorem EW {c:Bool} {a b:Unit->Option β} {x:β} (e:br c a b=some x):(c=true/\a ()=some x)\/(c=false/\b ()=some x):=by
 cases c with
 | false=>exact .inr ⟨rfl,e⟩
 | true=>exact .inl ⟨rfl,e⟩
theorem L8 {l:List α} {i:Nat} {K:α->Option β} {x:β} (e:ix l i K=some x) : ∃ y,l[i]? = some y/\K y=some x:=by
 unfold ix at e;split at e
 ·rename_i y hy;exact ⟨y,hy,e⟩
 ·cases e
theorem Sa {n:Int} {K:Nat->Option β} {x:β} (e:AO n K=some x):0<=n/\K n.toNat=some x:=by
 unfold AO at e;cases h:decide (0<=n) with
 | false=>rw [h] at e;cases e
 | true=>rw [h] at e;exact ⟨of_decide_eq_true h,e⟩
theorem KX {m:Option α} {K:α->Option β} {x:β} (e:bd m K=some x) : ∃ y,m=some y/\K y=some x:=by
 cases m with
 | none=>cases e
 | some y=>exact ⟨y,rfl,e⟩
theorem Ce {c c':Ty} {l:List c.den} {K:List c'.den->Option β} {x:β} (e:H0 l K=some x) : ∃ h:c=c',K (h ▸ l)=some x:=by
 unfold H0 at e;split at e
 ·rename_i h;exact ⟨h,e⟩
 ·cases e
theorem FA {c:Bool} {a b:α} {x:α} (e:(bif c then a else b)=x):(c=true/\a=x)\/(c=false/\b=x):=by
 cases c with
 | false=>exact .inr ⟨rfl,e⟩
 | true=>exact .inl ⟨rfl,e⟩
theorem C1 {c:Bool} {b:Option α} {x:α} (e:(bif c then none else b)=some x):c=false/\b=some x:=by
 cases c with
 | false=>exact ⟨rfl,e⟩
 | true=>cases e
theorem A4 {c:Bool} {a:Option α} {x:α} (e:(bif c then a else none)=some x):c=true/\a=some x:=by
 cases c with
 | true=>exact ⟨rfl,e⟩
 | false=>cases e
end
section
variable {X:Cx} {β:Type} {x:β}
theorem LH {v : Value} {a : V} (e : L0 v = some a) : ∃ p, Pi.G7 v = some p /\ VR X a p := by
  unfold L0 at e;unfold Pi.G7;split at e
  all_goals first
    | (cases e; exact ⟨_, rfl, by simp [VR]⟩)
    | (split at e
       · rename_i h; cases e; exact ⟨.fn (.func _) [] [], if_pos h, by simp [VR, VRL]⟩
       · cases e)
    | cases e
theorem Jp : ∀ {vs:List Value} {as:List V},Ic vs=some as -> ∃ ps,Pi.cellsOf vs=some ps/\VRL X as ps
 | [],as,e=>by cases e;exact ⟨[],rfl,.nil⟩
 | v::l,as,e=>by
  unfold Ic at e;split at e
  ·rename_i a as' h1 h2;cases e;obtain ⟨p,e1,r1⟩:=LH (X:=X) h1;obtain ⟨ps,e2,r2⟩:=Jp h2;exact ⟨p::ps,by unfold Pi.cellsOf;rw [e1,e2],.cons r1 r2⟩
  ·cases e
theorem P5 {v:Value} {a:V} (e:Qz v=some a) : ∃ p,Pi.IS v=some p/\VR X a p:=by
 unfold Qz at e;split at e
 ·rename_i cs;cases h:Ic cs.toList with
  | none=>rw [h] at e;cases e
  | some as =>
   rw [h] at e;cases e;obtain ⟨ps,e2,r2⟩:=Jp (X:=X) h;exact ⟨.agg ps,by simp only [Pi.IS,e2];rfl,by simp only [VR];exact ⟨ps,rfl,r2⟩⟩
 ·rename_i vs;replace e:=A4 e;obtain ⟨h,e⟩:=e;cases e;exact ⟨.tup [],by simp [Pi.IS,h],by simp [VR,VRL]⟩
 ·rename_i t v;split at e
  ·rename_i p hp;cases e;obtain ⟨q,e2,r2⟩:=LH (X:=X) hp;exact ⟨.ifc t q,by simp only [Pi.IS,e2],by simp only [VR];exact ⟨q,rfl,r2⟩⟩
  ·cases e
 ·rename_i h1 h2 h3;obtain ⟨p,e2,r2⟩:=LH (X:=X) e;refine ⟨p,?_,r2⟩;unfold Pi.IS;split
  ·exact absurd rfl (h1 _)
  ·exact absurd rfl (h2 _)
  ·exact absurd rfl (h3 _ _)
  ·exact e2
theorem FH {P:Program} {t:TypeId} {as:List V} (e:Gb P t=some as) : ∃ ps,Pi.zeroCells P t=some ps/\VRL X as ps:=by
 unfold Gb at e;split at e
 ·rename_i i hi;split at e
  ·rename_i z hz;obtain ⟨ps,h,r⟩:=Jp (X:=X) e;exact ⟨ps,by simp only [Pi.zeroCells,hi,hz];exact h,r⟩
  ·cases e
 ·cases e
theorem LI {P:Program} {t:TypeId} {a:V} (e:HH P t=some a) : ∃ p,Pi.Ea P t=some p/\VR X a p:=by
 unfold HH at e;split at e
 ·rename_i i hi;split at e
  ·rename_i z hz;obtain ⟨ps,h,r⟩:=P5 (X:=X) e;exact ⟨ps,by simp only [Pi.Ea,hi,hz];exact h,r⟩
  ·cases e
 ·cases e
def TR (X:Cx) (t:T V) (tP:T PV):Prop := ∀ k v,t.get k=some v -> ∃ p,tP.get k=some p/\VR X v p
theorem TR.mono {Y:Cx} {t:T V} {tP:T PV} (h:TR X t tP) (u:Up X Y):TR Y t tP:=λk v e=>by
 obtain ⟨p,h1,h2⟩:=h k v e;exact ⟨p,h1,h2.mono u⟩
theorem TR.put {t:T V} {tP:T PV} (h:TR X t tP) {d:Nat} (hd:d<1048575) {v:V} {p:PV} (hv:VR X v p):TR X (T.put 20 t d v) (T.put 20 tP d p):=by
 have hp:(2:Nat) ^ 20-1=1048575:=by decide
 intro k w e;rw [T.get_put 20 t d v k (by omega)] at e;rw [T.get_put 20 tP d p k (by omega)];by_cases hk:k=d
 ·rw [if_pos hk] at e ⊢;cases e;exact ⟨p,rfl,hv⟩
 ·rw [if_neg hk] at e ⊢;exact h k w e
variable {t:T V} {tP:T PV}
theorem Av (ht:TR X t tP) {o:Operand} {K:V->Option β} (e:C9 t o K=some x) : ∃ v p,K v=some x/\Pi.GX tP o=some p/\VR X v p:=by
 unfold C9 at e;unfold Pi.GX;split at e
 ·obtain ⟨v,h1,h2⟩:=AZ e;obtain ⟨p,h3,h4⟩:=ht _ _ h1;exact ⟨v,p,h2,by simp [h3],h4⟩
 ·obtain ⟨v,h1,h2⟩:=AZ e;obtain ⟨p,h3,h4⟩:=P5 (X:=X) h1;exact ⟨v,p,h2,h3,h4⟩
 ·exact ⟨_,_,e,rfl,by simp [VR,VRL]⟩
 ·cases e
theorem L9 (ht:TR X t tP) : ∀ {os:List Operand} {K:List V->Option β},XD t os K=some x -> ∃ vs ps,K vs=some x/\Pi.TV tP os=some ps/\VRL X vs ps
 | [],K,e=>⟨[],[],e,rfl,.nil⟩
 | o::l,K,e=>by
  obtain ⟨v,p,e1,h1,r1⟩:=Av ht e;obtain ⟨vs,ps,e2,h2,r2⟩:=L9 ht e1;exact ⟨v::vs,p::ps,e2,by unfold Pi.TV;rw [h1,h2],.cons r1 r2⟩
def VRO (X:Cx):Option V->Option PV->Prop
 | none,o=>o=none
 | some v,o => ∃ p,o=some p/\VR X v p
theorem RC (ht:TR X t tP) {o:Option Operand} {K:Option V->Option β} (e:f7 t o K=some x) : ∃ v p,K v=some x/\Pi.fX tP o=some p/\VRO X v p:=by
 cases o with
 | none=>exact ⟨none,none,e,rfl,rfl⟩
 | some o =>
  obtain ⟨v,p,e1,h1,r1⟩:=Av ht e;exact ⟨some v,some p,e1,by show (Pi.GX tP o).map some=_;rw [h1];rfl,p,rfl,r1⟩
def jt (X:Cx):List (Nat×V)->List (Nat×PV)->Prop:=L2 λa b=>a.1=b.1/\VR X a.2 b.2
theorem Jq (ht:TR X t tP) : ∀ {os:List (Nat×Operand)} {K:List (Nat×V)->Option β},L1 t os K=some x -> ∃ vs ps,K vs=some x/\Pi.FT tP os=some ps/\jt X vs ps
 | [],K,e=>⟨[],[],e,rfl,.nil⟩
 | (i,o)::l,K,e=>by
  obtain ⟨v,p,e1,h1,r1⟩:=Av ht e;obtain ⟨vs,ps,e2,h2,r2⟩:=Jq ht e1;exact ⟨(i,v)::vs,(i,p)::ps,e2,by unfold Pi.FT;rw [h1,h2],.cons ⟨rfl,r1⟩ r2⟩
theorem HJ {v:V} {p:PV} {K:Nat->Option β} (hv:VR X v p) (e:OM v K=some x) : ∃ n,K n=some x/\Pi.Kr p=some n:=by
 unfold OM at e;split at e
 ·simp only [VR] at hv;subst hv;obtain ⟨h1,h2⟩:=Sa e;exact ⟨_,h2,by simp [Pi.Kr,h1]⟩
 ·cases e
theorem P6 {v:V} {p:PV} {K:Nat->Option β} (hv:VR X v p) (e:Q0 v K=some x) : ∃ n,K n=some x/\Pi.KG p=some n:=by
 unfold Q0 at e;split at e
 ·simp only [VR] at hv;subst hv;obtain ⟨h1,h2⟩:=Sa e;exact ⟨_,h2,by simp [Pi.KG,h1]⟩
 ·cases e
theorem CZ {d:Nat} {v:Option V} {p:Option PV} {K:Nat->Option β} (hv:VRO X v p) (e:Fc d v K=some x) : ∃ n,K n=some x/\Pi.Fp d p=some n:=by
 cases v with
 | none=>cases hv;exact ⟨d,e,rfl⟩
 | some v=>obtain ⟨p,rfl,hv⟩:=hv;exact HJ hv e
theorem gG {op : BinOp} {k : IntKind} {a b : Int} {K : V -> Option β} (e : i4 op k a b K = some x) : ∃ v p, K v = some x /\ Pi.Ws op k a b = some p /\ VR X v p := by
  cases op <;> simp only [i4] at e
  all_goals first
    | (exact ⟨_, _, e, rfl, by simp only [VR]; rfl⟩)
    | (obtain ⟨h1, h2⟩ := Ao e
       refine ⟨_, _, h2, ?_, by simp only [VR]; rfl⟩;have hb : (b == 0) = false := by simpa [Aq] using h1
       simp only [Pi.Ws, hb, cond_false]; rfl)
    | cases e
theorem P7 {op : BinOp} {k : IntKind} {a b : Int} {K : V -> Option β} (e : Tq op k a b K = some x) : ∃ v p, K v = some x /\ Pi.MU op k a b = some p /\ VR X v p := by
  cases op <;> simp only [Tq] at e
  all_goals first
    | (obtain ⟨h1, h2⟩ := Ao e
       refine ⟨_, _, h2, ?_, by simp only [VR]; rfl⟩;have hb : decide (b < 0) = false := by simpa [Iu] using h1
       simp only [Pi.MU, hb, cond_false]; rfl)
    | cases e
theorem HC : ∀ (a b:List UInt8),(Op.bytesLess a b||a == b) = !Op.bytesLess b a
 | [],[]=>rfl
 | [],_::_=>rfl
 | _::_,[]=>rfl
 | a::l,b::m=>by
  have ih:=HC l m;simp only [Op.bytesLess];by_cases h1:a<b
  ·have h2 : ¬ b<a:=by rw [UInt8.lt_iff_toNat_lt] at h1 ⊢;omega
   have h3:(b == a)=false:=by
    rw [beq_eq_false_iff_ne];intro h;subst h;exact h2 h1
   simp [h1,h2,h3]
  ·by_cases h2:b<a
   ·have h3:(a == b)=false:=by
     rw [beq_eq_false_iff_ne];intro h;subst h;exact h1 h2
    have h4:(a::l == b::m)=false:=by
     rw [List.cons_beq_cons,h3];rfl
    simp [h1,h2,h3,h4]
   ·have h3:a=b:=by
     apply UInt8.toNat_inj.1;rw [UInt8.lt_iff_toNat_lt] at h1 h2;omega
    subst h3;rw [List.cons_beq_cons];simp only [h1,decide_false,Bool.false_or,beq_self_eq_true,Bool.true_and];exact ih
theorem gH {op : BinOp} {a b : List UInt8} {K : V -> Option β} (e : i5 op a b K = some x) : ∃ v p, K v = some x /\ Pi.Y5 op a b = some p /\ VR X v p := by
  cases op <;> simp only [i5] at e
  all_goals first
    | (refine ⟨_, _, e, rfl, ?_⟩; simp only [VR]; rfl)
    | (refine ⟨_, _, e, rfl, ?_⟩; simp only [VR]; rw [HC]; rfl)
    | (refine ⟨_, _, e, rfl, ?_⟩; simp only [VR]; rw [HC]; simp [Bl])
    | (obtain ⟨h1, h2⟩ := Ao e
       refine ⟨_, _, h2, ?_, by simp only [VR]; rfl⟩;simp only [A0, AK, Fb] at h1
       simp only [Pi.Y5, h1, cond_true]; rfl)
    | cases e
end
end Go.Proofs.YthpkjfabdccpdaaGreat.Sv
namespace Go.Proofs.YthpkjfabdccpdaaGreat.Sv
open Go.Proofs.YthpkjfabdccpdaaGreat.Pi (PV T Hp Blk DF UM PE)
section
variable {X:Cx} {β:Type} {x:β} {P:Program}
theorem EA {t:TypeId} {cs:List V} {ps:List PV} {v:V} (h:VRL X cs ps) (e:Ie P t cs=some v) : ∃ p,Pi.part P t ps=some p/\VR X v p:=by
 unfold Ie at e;split at e
 ·rename_i n h1 h2;replace e:=A4 e;obtain ⟨hn,e⟩:=e;cases e;refine ⟨.agg (ps.take n),?_,by simp only [VR];exact ⟨_,rfl,h.take n⟩⟩;unfold Pi.part;simp only [h1,h2];rw [<- h.length,hn];rfl
 ·rename_i h1 h2;split at e
  ·cases e;obtain ⟨p,qs,rfl,r,_⟩:=h.cons_inv;exact ⟨p,by unfold Pi.part;simp only [h1,h2],r⟩
  ·cases e
 ·cases e
theorem VR.agg_inv {cs:List V} {p:PV} (h:VR X (.agg cs) p) : ∃ ps,p = .agg ps/\VRL X cs ps:=by simpa only [VR] using h
mutual
theorem Mn : ∀ (d:Nat) {t:TypeId} {a b:V} {c:Bool} {p q:PV},VR X a p->VR X b q->f8 P d t a b=some c->Pi.Vx P d t p q=some c
 | 0,_,_,_,_,_,_,_,_,e=>by simp [f8] at e
 | d+1,t,a,b,c,p,q,ha,hb,e=>by
  unfold f8 at e;unfold Pi.Vx;split at e
  all_goals (try simp only [*])
  ·split at e
   ·simp only [VR] at ha hb;subst ha;subst hb;exact e
   ·cases e
  ·split at e
   ·simp only [VR] at ha hb;subst ha;subst hb;exact e
   ·cases e
  ·split at e
   ·simp only [VR] at ha hb;subst ha;subst hb;exact e
   ·cases e
  ·split at e
   all_goals first
    | (simp only [VR] at ha hb;subst ha;subst hb;exact e)
    | (simp only [VR] at ha hb;obtain ⟨_,_,_,rfl⟩:=ha;subst hb;exact e)
    | (simp only [VR] at ha hb;obtain ⟨_,_,_,rfl⟩:=hb;subst ha;exact e)
    | (simp only [VR] at ha hb;subst ha;rcases hb with ⟨_,rfl,_⟩ | ⟨_,_,_,_,_,_,_,rfl,_⟩<;>exact e)
    | (simp only [VR] at ha hb;subst hb;rcases ha with ⟨_,rfl,_⟩ | ⟨_,_,_,_,_,_,_,rfl,_⟩<;>exact e)
    | (simp only [VR] at ha hb;subst ha;obtain ⟨_,rfl,_⟩:=hb;exact e)
    | (simp only [VR] at ha hb;subst hb;obtain ⟨_,rfl,_⟩:=ha;exact e)
    | cases e
  ·split at e
   ·simp only [VR] at ha hb;subst ha;subst hb;exact e
   ·simp only [VR] at ha hb;subst ha;obtain ⟨_,_,rfl,_⟩:=hb;exact e
   ·simp only [VR] at ha hb;subst hb;obtain ⟨_,_,rfl,_⟩:=ha;exact e
   ·simp only [VR] at ha hb;subst ha;rcases hb with ⟨_,h⟩ | ⟨_,_,rfl,_⟩ | ⟨_,_,_,_,_,_,rfl,_⟩
    ·cases h
    ·exact e
    ·exact e
   ·simp only [VR] at ha hb;subst hb;rcases ha with ⟨_,h⟩ | ⟨_,_,rfl,_⟩ | ⟨_,_,_,_,_,_,rfl,_⟩
    ·cases h
    ·exact e
    ·exact e
   ·simp only [VR] at ha hb;subst ha;rcases hb with ⟨_,h⟩ | ⟨_,_,rfl,_⟩
    ·cases h
    ·exact e
   ·simp only [VR] at ha hb;subst hb;rcases ha with ⟨_,h⟩ | ⟨_,_,rfl,_⟩
    ·cases h
    ·exact e
   ·simp only [VR] at ha hb;subst ha;obtain ⟨_,_,_,rfl⟩:=hb;exact e
   ·simp only [VR] at ha hb;subst hb;obtain ⟨_,_,_,rfl⟩:=ha;exact e
   ·cases e
  ·split at e
   all_goals first
    | (simp only [VR] at ha hb;subst ha;subst hb;exact e)
    | (simp only [VR] at ha hb;obtain ⟨_,_,rfl,_⟩:=ha;subst hb;exact e)
    | (simp only [VR] at ha hb;obtain ⟨_,_,rfl,_⟩:=hb;subst ha;exact e)
    | cases e
  ·split at e
   ·simp only [VR] at ha hb;subst ha;subst hb;exact e
   ·simp only [VR] at ha hb;subst ha;obtain ⟨_,rfl,_⟩:=hb;exact e
   ·simp only [VR] at ha hb;subst hb;obtain ⟨_,rfl,_⟩:=ha;exact e
   ·simp only [VR] at ha hb;obtain ⟨a',rfl,ha⟩:=ha;obtain ⟨b',rfl,hb⟩:=hb;rcases FA e with ⟨h,e⟩ | ⟨h,e⟩
    ·simp only [h,cond_true];split at e
     ·rename_i i hi;replace e:=A4 e;obtain ⟨h2,e⟩:=e;simp only [hi,h2,cond_true];exact Mn d ha hb e
     ·cases e
    ·simp only [h,cond_false];exact e
   ·cases e
  ·split at e
   ·obtain ⟨ps,rfl,ha'⟩:=ha.agg_inv;obtain ⟨qs,rfl,hb'⟩:=hb.agg_inv;replace e:=C1 e;obtain ⟨h,e⟩:=e;simp only [h,cond_false];exact RD d ha' hb' e
   ·cases e
  ·split at e
   ·obtain ⟨ps,rfl,ha'⟩:=ha.agg_inv;obtain ⟨qs,rfl,hb'⟩:=hb.agg_inv;replace e:=A4 e;obtain ⟨h,e⟩:=e;simp only [h,cond_true];exact WF d ha' hb' e
   ·cases e
theorem RD : ∀ (d:Nat) {fs:List Field} {a b:List V} {c:Bool} {p q:List PV},VRL X a p->VRL X b q->Ts P d fs a b=some c->Pi.PK P d fs p q=some c
 | 0,_,_,_,_,_,_,_,_,e=>by simp [Ts] at e
 | d+1,[],_,_,_,_,_,_,_,e=>by simpa [Ts,Pi.PK] using e
 | d+1,f::fs,a,b,c,p,q,ha,hb,e=>by
  unfold Ts at e;unfold Pi.PK;rcases FA e with ⟨h,e⟩ | ⟨h,e⟩
  ·simp only [h,cond_true];exact RD d ha hb e
  ·simp only [h,cond_false];split at e
   ·rename_i u v hu hv;obtain ⟨u',h1,r1⟩:=EA (ha.drop f.offset) hu;obtain ⟨v',h2,r2⟩:=EA (hb.drop f.offset) hv;split at e
    ·rename_i c1 c2 e1 e2;simp only [h1,h2,Mn d r1 r2 e1];cases e;cases c1 with
     | true=>simpa [BZ] using RD d ha hb e2
     | false=>simp [BZ]
    ·cases e
   ·cases e
theorem WF : ∀ (d:Nat) {n:Nat} {t:TypeId} {a b:List V} {c:Bool} {p q:List PV},VRL X a p->VRL X b q->XE P d n t a b=some c->Pi.Qd P d n t p q=some c
 | 0,_,_,_,_,_,_,_,_,_,e=>by simp [XE] at e
 | d+1,0,_,_,_,_,_,_,_,_,e=>by simpa [XE,Pi.Qd] using e
 | d+1,n+1,t,a,b,c,p,q,ha,hb,e=>by
  unfold XE at e;unfold Pi.Qd;split at e
  ·rename_i s u v hs hu hv;obtain ⟨u',h1,r1⟩:=EA ha hu;obtain ⟨v',h2,r2⟩:=EA hb hv;split at e
   ·rename_i c1 c2 e1 e2;simp only [hs,h1,h2,Mn d r1 r2 e1];cases e;cases c1 with
    | true=>simpa [BZ] using WF d (ha.drop s) (hb.drop s) e2
    | false=>simp [BZ]
   ·cases e
  ·cases e
end
theorem OV {op:BinOp} {c:Bool} {K:V->Option β} (e:(match op with
  | .eql=>K (.bool c)
  | .neq=>K (.bool (AV c))
  | _=>none)=some x) {o:Option Bool} (ho:o=some c) : ∃ v p,K v=some x/\(match op with
  | .eql=>o.map .bool
  | .neq=>o.map λr => .bool (!r)
  | _=>none)=some p/\VR X v p:=by
 subst ho;cases op<;>simp only at e ⊢
 all_goals first
  | (exact ⟨_,_,e,rfl,by simp [VR,AV]⟩)
  | cases e
theorem LJ {op:BinOp} {ty:TypeId} {p q:PV} (h1 : ∀ k n k' m,¬(p = .int k n/\q = .int k' m)) (h2 : ∀ a b,¬(p = .str a/\q = .str b)):Pi.PL P op ty p q=(match op with
  | .eql=>(Pi.Vx P Pi.KE ty p q).map .bool
  | .neq=>(Pi.Vx P Pi.KE ty p q).map λr => .bool (!r)
  | _=>none):=by
 unfold Pi.PL;split
 ·exact absurd ⟨rfl,rfl⟩ (h1 _ _ _ _)
 ·exact absurd ⟨rfl,rfl⟩ (h2 _ _)
 ·rfl
theorem VR.inv {v:V} {p:PV} (h:VR X v p):(∀ k n,p = .int k n->v = .int k n)/\(∀ l,p = .str l->v = .str l)/\(p = .nili->v = .nili)/\(∀ cs,p = .agg cs -> ∃ as,v = .agg as):=by
 cases v with
 | agg cs=>exact ⟨λ_ _ e=>by simp [VR,e] at h,λ_ e=>by simp [VR,e] at h,λe=>by simp [VR,e] at h,λ_ _=>⟨_,rfl⟩⟩
 | ow id =>
  simp only [VR] at h;split at h
  ·subst h;simp
  ·subst h;simp
  ·subst h;simp
  ·exact h.elim
 | lf f g c l =>
  simp only [VR] at h;rcases h with ⟨rfl,_⟩ | ⟨_,_,rfl,_⟩ | ⟨_,_,_,_,_,_,rfl,_⟩<;>simp
 | view cs =>
  simp only [VR] at h;rcases h with ⟨_,rfl,_⟩ | ⟨_,_,_,_,_,_,_,rfl,_⟩<;>simp
 | pl g c l=>simp only [VR] at h;rcases h with ⟨rfl,_⟩ | ⟨_,_,rfl,_⟩<;>simp
 | pv cs=>simp only [VR] at h;obtain ⟨_,rfl,_⟩:=h;simp
 | tup cs=>simp only [VR] at h;obtain ⟨_,rfl,_⟩:=h;simp
 | exl f cs=>simp only [VR] at h;obtain ⟨_,_,rfl,_⟩:=h;simp
 | own a b c=>simp only [VR] at h;obtain ⟨_,_,_,rfl⟩:=h;simp
 | ptr a b=>simp only [VR] at h;obtain ⟨_,_,_,rfl⟩:=h;simp
 | ept a b c=>simp only [VR] at h;obtain ⟨_,_,_,rfl⟩:=h;simp
 | fn a b c=>simp only [VR] at h;obtain ⟨_,_,rfl,_⟩:=h;simp
 | yl a=>simp only [VR] at h;obtain ⟨_,_,_,rfl⟩:=h;simp
 | mp a=>simp only [VR] at h;obtain ⟨_,_,_,rfl⟩:=h;simp
 | ifc a b=>simp only [VR] at h;obtain ⟨_,rfl,_⟩:=h;simp
 | _=>simp only [VR] at h;subst h;simp
theorem C6 {o:Option PV} {h:Hp} {p:PV} (e:o=some p):Pi.vl o h=some (.val p h):=by rw [e];rfl
theorem gI {h:Hp} {op:BinOp} {ty:TypeId} {ox oy:Operand} {a b:V} {p q:PV} {K:V->Option β} (ha:VR X a p) (hb:VR X b q) (e:i6 P op ty ox oy a b K=some x) :
  ∃ v r,K v=some x/\Pi.Hs P h op ty ox oy p q=some (.val r h)/\VR X v r:=by
 unfold i6 at e;split at e
 ·simp only [VR] at ha hb;subst ha;subst hb;split at e
  ·obtain ⟨v,r,h1,h2,h3⟩:=P7 (X:=X) e;exact ⟨v,r,h1,C6 (by simpa [Pi.PL] using h2),h3⟩
  ·obtain ⟨v,r,h1,h2,h3⟩:=P7 (X:=X) e;exact ⟨v,r,h1,C6 (by simpa [Pi.PL] using h2),h3⟩
  ·rename_i n1 n2;replace e:=A4 e;obtain ⟨hk,e⟩:=e;obtain ⟨v,r,h1,h2,h3⟩:=gG (X:=X) e;refine ⟨v,r,h1,C6 ?_,h3⟩;unfold Pi.PL;cases op<;>first | exact absurd rfl n1 | exact absurd rfl n2 | (simp only [hk,cond_true];exact h2)
 ·simp only [VR] at ha hb;subst ha;subst hb;obtain ⟨v,r,h1,h2,h3⟩:=gH (X:=X) e;exact ⟨v,r,h1,C6 h2,h3⟩
 ·replace e:=A4 e;obtain ⟨hc,e⟩:=e;obtain ⟨c,h1,e⟩:=AZ e;obtain ⟨v,r,e1,h2,h3⟩:=OV (X:=X) e (Mn 64 ha hb h1);simp only [VR] at ha hb;subst ha;subst hb;refine ⟨v,r,e1,?_,h3⟩;unfold Pi.Hs;simp only [hc,cond_true];exact C6 (by rw [LJ (by simp) (by simp)];exact h2)
 ·rename_i as bs;replace e:=C1 e;obtain ⟨hc,e⟩:=e;obtain ⟨c,h1,e⟩:=AZ e;obtain ⟨v,r,e1,h2,h3⟩:=OV (X:=X) e (Mn 64 ha hb h1);obtain ⟨ps,rfl,ha'⟩:=ha.agg_inv;obtain ⟨qs,rfl,hb'⟩:=hb.agg_inv;refine ⟨v,r,e1,?_,h3⟩;unfold Pi.Hs;simp only [hc,cond_false];exact C6 (by rw [LJ (by simp) (by simp)];exact h2)
 ·rename_i n1 n2 n3 n4;obtain ⟨c,h1,e⟩:=AZ e;obtain ⟨v,r,e1,h2,h3⟩:=OV (X:=X) e (Mn 64 ha hb h1);refine ⟨v,r,e1,?_,h3⟩;have i1:=ha.inv;have i2:=hb.inv;unfold Pi.Hs;split
  ·exact absurd (i2.2.2.1 rfl) (n3 (i1.2.2.1 rfl))
  ·obtain ⟨_,j1⟩:=i1.2.2.2 _ rfl;obtain ⟨_,j2⟩:=i2.2.2.2 _ rfl;exact absurd j2 (n4 _ _ j1)
  ·refine C6 ?_;rw [LJ (λk n k' m hh=>n1 _ _ _ _ (i1.1 _ _ hh.1) (i2.1 _ _ hh.2)) (λl m hh=>n2 _ _ (i1.2.1 _ hh.1) (i2.2.1 _ hh.2))];exact h2
theorem jD {op:UnOp} {a:V} {p:PV} {K:V->Option β} (ha:VR X a p) (e:mI op a K=some x) : ∃ v r,K v=some x/\Pi.lz op p=some r/\VR X v r:=by
 unfold mI at e;split at e
 ·simp only [VR] at ha;subst ha;split at e
  ·exact ⟨_,_,e,rfl,by simp [VR,AV]⟩
  ·cases e
 ·simp only [VR] at ha;subst ha;split at e
  ·exact ⟨_,_,e,rfl,by simp [VR,jz]⟩
  ·cases e
 ·cases e
theorem Sb {h:Hp} {s d:TypeId} {a:V} {p:PV} {K:V->Option β} (ha:VR X a p) (e:OQ P s d a K=some x) : ∃ v r,K v=some x/\Pi.DA P h s d p=some (.val r h)/\VR X v r:=by
 unfold OQ at e;unfold Pi.DA;split at e
 ·rename_i h1 h2;simp only [VR] at ha;subst ha;exact ⟨_,_,e,by simp only [h1,h2];rfl,by simp [VR,Rq]⟩
 ·rename_i h1 h2;simp only [VR] at ha;subst ha;exact ⟨_,_,e,by simp only [h1,h2];rfl,by simp [VR]⟩
 ·cases e
theorem gJ {h:Hp} {ty:TypeId} {a:V} {p:PV} {K:V->Option β} (ha:VR X a p) (e:jA P ty a K=some x) : ∃ v r,K v=some x/\Pi.JR P h ty p=some (.val r h)/\VR X v r:=by
 unfold jA at e;unfold Pi.JR;split at e
 ·cases e
 ·rename_i u hu hh;refine ⟨_,.ifc ty p,e,?_,by simp only [VR];exact ⟨p,rfl,ha⟩⟩;rw [hh];cases u<;>first | exact absurd rfl (hu _) | rfl
 ·cases e
theorem gK {h:Hp} {a:V} {p:PV} {K:V->Option β} (ha:VR X a p) (e:i9 a K=some x) : ∃ v r,K v=some x/\Pi.Jb h p=some (.val r h)/\VR X v r:=by
 unfold i9 at e;split at e
 ·refine ⟨_,p,e,?_,ha⟩;simp only [VR] at ha;obtain ⟨_,rfl,_⟩:=ha;rfl
 ·refine ⟨_,p,e,?_,ha⟩;simp only [VR] at ha;obtain ⟨_,_,_,rfl⟩:=ha;rfl
 ·refine ⟨_,p,e,?_,ha⟩;simp only [VR] at ha;obtain ⟨_,_,_,rfl⟩:=ha;rfl
 ·refine ⟨_,p,e,?_,ha⟩;simp only [VR] at ha;rcases ha with ⟨_,rfl,_⟩ | ⟨_,_,_,_,_,_,_,rfl,_⟩<;>rfl
 ·refine ⟨_,p,e,?_,ha⟩;simp only [VR] at ha;obtain ⟨_,rfl,_⟩:=ha;rfl
 ·refine ⟨_,p,e,?_,ha⟩;simp only [VR] at ha;obtain ⟨_,_,_,rfl⟩:=ha;rfl
 ·refine ⟨_,p,e,?_,ha⟩;simp only [VR] at ha;obtain ⟨_,_,rfl,_⟩:=ha;rfl
 ·cases e
theorem XH {h:Hp} {ty:TypeId} {a:V} {p:PV} {f:Nat} {K:V->Option β} (ha:VR X a p) (e:Tx P ty a f K=some x) : ∃ v r,K v=some x/\Pi.FW P h ty p f=some (.val r h)/\VR X v r:=by
 unfold Tx at e;split at e
 ·rename_i fs cs hu;obtain ⟨ps,rfl,ha'⟩:=ha.agg_inv;split at e
  ·rename_i fd hf;obtain ⟨v,h1,e⟩:=AZ e;obtain ⟨r,h2,h3⟩:=EA (ha'.drop fd.offset) h1;exact ⟨v,r,e,by unfold Pi.FW;simp only [hu,hf];exact C6 h2,h3⟩
  ·cases e
 ·cases e
end
end Go.Proofs.YthpkjfabdccpdaaGreat.Sv
namespace Go.Proofs.YthpkjfabdccpdaaGreat.Sv
open Go.Proofs.YthpkjfabdccpdaaGreat.Pi (PV T Hp Blk DF UM PE)
def DFR (X:Cx):DFA->DF->Prop
 | .call f args,d => ∃ fP ps,d = .call fP ps/\VR X f fP/\VRL X args ps
 | .bi b ats ty args,d => ∃ ps,d = .bi b ats ty ps/\VRL X args ps
 | .col id,d => ∃ pid n,X.π id=some (.blk pid n)/\d = .col pid
theorem DFR.mono {X Y:Cx} (u:Up X Y) : ∀ {a:DFA} {d:DF},DFR X a d->DFR Y a d
 | .call _ _,_,⟨fP,ps,h1,h2,h3⟩=>⟨fP,ps,h1,h2.mono u,h3.mono u⟩
 | .bi _ _ _ _,_,⟨ps,h1,h2⟩=>⟨ps,h1,h2.mono u⟩
 | .col _,_,⟨pid,n,h1,h2⟩=>⟨pid,n,u.pi _ _ h1,h2⟩
def MR (X:Cx) (k:Ty) (g:Bool) (c:Ty) (u:k.den×c.den) (w:PV×PV):Prop:=DP k u.1 [w.1]/\EP g (DR X.h X.Q c) u.2 w.2
def BR (X:Cx):BA->Option At->Prop
 | .box cs fz _,a => ∃ pid n ps fz',a=some (.blk pid n)/\X.O pid/\X.h.get pid=some (.box ps fz')/\(fz=false->fz'=false)/\VRL X cs ps
 | .row g c l ex fz _,a=>(∃ pid len es fz',a=some (.blk pid len)/\X.O pid/\X.h.get pid=some (.row es ex fz')/\(fz=false->fz'=false)/\es.length=len/\(ex=false->0<len)/\L2 (EP g (DR X.h X.Q c)) l es) \/
   (a=some .nil/\ex=false/\l=[]) \/ ∃ es,a=some (.fz es)/\ex=false/\(fz=true\/l=[])/\L2 (EP g (DP c)) l es
 | .mp k g c l _,a => ∃ pid n es,a=some (.blk pid n)/\X.O pid/\X.h.get pid=some (.mp es)/\L2 (MR X k g c) l es
 | .lp st pend nt t ps asg body d,a => ∃ pid n tP dP m,a=some (.blk pid n)/\X.O pid/\X.h.get pid=some (.lp st pend nt tP ps asg body dP)/\TR X t tP/\X.π d=some (.blk dP m)/\nt<1048575
 | .df ds,a => ∃ pid n dsP,a=some (.blk pid n)/\X.O pid/\X.h.get pid=some (.df dsP)/\(match ds,dsP with
  | none,none=>True
  | some l,some m=>L2 (DFR X) l m
  | _,_=>False)
 | .dead,a => ∀ pid m,a=some (.blk pid m)->X.O pid/\X.h.get pid=some .dead
theorem EDR.mono {X Y:Cx} (u:Up X Y) {g:Bool} {c:Ty} {l:List c.den} {es:List PV} (h:L2 (EP g (DR X.h X.Q c)) l es):L2 (EP g (DR Y.h Y.Q c)) l es :=
 h.mono λ_ _ k=>k.mono λ_ _ k=>DR.mono u.rows k
theorem BR.keep {X Y:Cx} (u:Up X Y) {b:BA} {a:Option At} (h:BR X b a) (k : ∀ pid n,a=some (.blk pid n)->X.O pid->Y.h.get pid=X.h.get pid/\Y.O pid):BR Y b a:=by
 cases b with
 | box cs fz lk =>
  obtain ⟨pid,n,ps,fz',h1,h2,h3,h4,h5⟩:=h;obtain ⟨k1,k2⟩:=k _ _ h1 h2;exact ⟨pid,n,ps,fz',h1,k2,by rw [k1,h3],h4,h5.mono u⟩
 | row g c l ex fz lk =>
  rcases h with ⟨pid,len,es,fz',h1,h2,h3,h4,h5,h7,h6⟩ | h | h
  ·obtain ⟨k1,k2⟩:=k _ _ h1 h2;exact .inl ⟨pid,len,es,fz',h1,k2,by rw [k1,h3],h4,h5,h7,EDR.mono u h6⟩
  ·exact .inr (.inl h)
  ·exact .inr (.inr h)
 | mp kk g c l lk =>
  obtain ⟨pid,n,es,h1,h2,h3,h4⟩:=h;obtain ⟨k1,k2⟩:=k _ _ h1 h2;exact ⟨pid,n,es,h1,k2,by rw [k1,h3],h4.mono λ_ _ m=>⟨m.1,m.2.mono λ_ _ k=>DR.mono u.rows k⟩⟩
 | lp st pend nt t ps asg body d =>
  obtain ⟨pid,n,tP,dP,m,h1,h2,h3,h4,h5,h6⟩:=h;obtain ⟨k1,k2⟩:=k _ _ h1 h2;exact ⟨pid,n,tP,dP,m,h1,k2,by rw [k1,h3],h4.mono u,u.pi _ _ h5,h6⟩
 | df ds =>
  obtain ⟨pid,n,dsP,h1,h2,h3,h4⟩:=h;obtain ⟨k1,k2⟩:=k _ _ h1 h2;refine ⟨pid,n,dsP,h1,k2,by rw [k1,h3],?_⟩;split at h4
  ·trivial
  ·exact h4.mono λ_ _ m=>m.mono u
  ·exact h4.elim
 | dead =>
  intro pid m e;obtain ⟨h1,h2⟩:=h pid m e;obtain ⟨k1,k2⟩:=k _ _ e h1;exact ⟨k2,by rw [k1,h2]⟩
def BA.live:BA->Prop
 | .dead=>False
 | _=>True
theorem BR.own {X:Cx} {b:BA} {pid n:Nat} (h:BR X b (some (.blk pid n))) (hl:b.live):X.O pid:=by
 cases b with
 | box cs fz lk=>obtain ⟨_,_,_,_,h1,h2,_⟩:=h;cases h1;exact h2
 | row g c l ex fz lk =>
  rcases h with ⟨_,_,_,_,h1,h2,_⟩ | ⟨h1,_⟩ | ⟨_,h1,_⟩
  ·cases h1;exact h2
  ·cases h1
  ·cases h1
 | mp kk g c l lk=>obtain ⟨_,_,_,h1,h2,_⟩:=h;cases h1;exact h2
 | lp st pend nt t ps asg body d=>obtain ⟨_,_,_,_,_,h1,h2,_⟩:=h;cases h1;exact h2
 | df ds=>obtain ⟨_,_,_,h1,h2,_⟩:=h;cases h1;exact h2
 | dead=>exact hl.elim
theorem BR.nd {X:Cx} {b:BA} {pid n:Nat} (h:BR X b (some (.blk pid n))) (hl:b.live):X.h.get pid≠some .dead:=by
 cases b with
 | box cs fz lk=>obtain ⟨_,_,_,_,h1,_,h3,_⟩:=h;cases h1;rw [h3];simp
 | row g c l ex fz lk =>
  rcases h with ⟨_,_,_,_,h1,_,h3,_⟩ | ⟨h1,_⟩ | ⟨_,h1,_⟩
  ·cases h1;rw [h3];simp
  ·cases h1
  ·cases h1
 | mp kk g c l lk=>obtain ⟨_,_,_,h1,_,h3,_⟩:=h;cases h1;rw [h3];simp
 | lp st pend nt t ps asg body d=>obtain ⟨_,_,_,_,_,h1,_,h3,_⟩:=h;cases h1;rw [h3];simp
 | df ds=>obtain ⟨_,_,_,h1,_,h3,_⟩:=h;cases h1;rw [h3];simp
 | dead=>exact hl.elim
structure RH (X:Cx) (h:H) (n:Nat):Prop where
 blk : ∀ id b,h.get id=some b->BR X b (X.π id)
 inj : ∀ id id' b b' pid m m',h.get id=some b->h.get id'=some b'->b.live->b'.live->X.π id=some (.blk pid m)->X.π id'=some (.blk pid m')->id=id'
 dom : ∀ id a,X.π id=some a->id<n
 fresh : ∀ pid,X.h.nx<=pid->X.h.get pid=none
 ob : ∀ q,X.O q->X.h.get q≠none
theorem Al {h:H} {id:Nat} (hid:id<1048575) {b:BA} {k:Nat}:(Ae h id b).get k=if k=id then some b else h.get k:=by
 have hp:(2:Nat) ^ 20-1=1048575:=by decide
 exact T.get_put 20 h id b k (by omega)
structure St (X:Cx) (h:H) (id idP:Nat) (Y:Cx) (h':H):Prop where
 up:Up X Y
 nx:Y.h.nx=X.h.nx
 pin : ∀ j,j≠id->X.π j=none->Y.π j=none
 hpn : ∀ q,q≠idP->X.h.get q=none->Y.h.get q=none
 lk : ∀ j b,h.get j=some b->b.locked=true->h'.get j=some b
 lps : ∀ q st pe nt t ps asg body d,X.h.get q=some (.lp st pe nt t ps asg body d)->Y.h.get q=some (.lp st pe nt t ps asg body d)
set_option linter.unusedVariables false
theorem St.refl (X:Cx) (h:H) (id idP:Nat):St X h id idP X h:=⟨Up.refl X,rfl,λ_ _ h=>h,λ_ _ h=>h,λ_ _ h _=>h,λ_ _ _ _ _ _ _ _ _ h=>h⟩
theorem St.trans {X Y Z:Cx} {h h' h'':H} {id idP:Nat} (a:St X h id idP Y h') (b:St Y h' id idP Z h''):St X h id idP Z h'' :=
 ⟨a.up.trans b.up,b.nx.trans a.nx,λj hj k=>b.pin j hj (a.pin j hj k),λj hj k=>b.hpn j hj (a.hpn j hj k),λj x k l=>b.lk j x (a.lk j x k l) l,
  λq st pe nt t ps asg body d k=>b.lps _ _ _ _ _ _ _ _ _ (a.lps _ _ _ _ _ _ _ _ _ k)⟩
def Ho {α:Type} (f:Nat->α) (i:Nat) (a:α):Nat->α:=λj=>if j=i then a else f j
section
variable {X:Cx} {h:H} {n:Nat}
theorem RH.set (r:RH X h n) {id pid m:Nat} {b b':BA} {bP bP0:Blk} {hP:Hp} (hid:id<1048575) (e0:h.get id=some b) (hl:b.live) (hk:b.locked=false) (hp:X.π id=some (.blk pid m)) (hb0:X.h.get pid=some bP0)
  (hnl : ∀ st pe nt t ps asg body d,bP0 ≠ .lp st pe nt t ps asg body d)
  (e:X.h.set pid bP=some hP) (hb : ∀ Y:Cx,Y.π=X.π->Y.h=hP->Y.O=X.O->Up X Y->BR Y b' (X.π id)) (idQ:Nat) :
  ∃ Y:Cx,Y.π=X.π/\Y.h=hP/\Y.O=X.O/\RH Y (Ae h id b') n /\ ∀ i,St X h i idQ Y (Ae h id b'):=by
 obtain ⟨g1,g2⟩:=Hp.get_set e;have hO:X.O pid:=(hp ▸ r.blk _ _ e0).own hl
 let Y:Cx:={ π:=X.π,h:=hP,O:=X.O }
 have u:Up X Y:=⟨λ_ _ h=>h,λq es ex fz hq hg=>⟨⟨fz,by
  show hP.get q=_
  rw [g1,if_neg (by intro hh;subst hh;exact hq hO),hg]⟩,hq⟩⟩
 refine ⟨Y,rfl,rfl,rfl,⟨λi bb hi => ?_,λi i' bb bb' q m1 m2 hi hi' l1 l2 => ?_,r.dom,λq hq => ?_,λq hq=>by
  show hP.get q≠none;rw [g1];split
  ·simp
  ·exact r.ob _ hq⟩,λi=>⟨u,g2,λ_ _ h=>h,λq hq hn => ?_,λj bb hj hlk => ?_,λq st pe nt t ps asg body d hq => ?_⟩⟩
 ·rw [Al hid] at hi;by_cases hii:i=id
  ·rw [if_pos hii] at hi;cases hi;subst hii;exact hb Y rfl rfl rfl u
  ·rw [if_neg hii] at hi;by_cases hlv:bb.live
   ·refine (r.blk _ _ hi).keep u λq m' hq hO'=>⟨?_,hO'⟩;show hP.get q=_;rw [g1,if_neg];intro hh;subst hh;exact hii (r.inj _ _ _ _ _ _ _ hi e0 hlv hl hq hp)
   ·cases bb with
    | dead =>
     intro q m' hq;obtain ⟨k1,k2⟩:=r.blk _ _ hi q m' hq;refine ⟨k1,?_⟩;show hP.get q=_;rw [g1,if_neg]
     ·exact k2
     ·intro hh;subst hh;exact (hp ▸ r.blk _ _ e0).nd hl k2
    | _=>exact absurd trivial hlv
 ·rw [Al hid] at hi hi';by_cases h1:i=id
  ·by_cases h2:i'=id
   ·intro _ _;rw [h1,h2]
   ·rw [if_neg h2] at hi';subst h1;intro a1 a2;exact r.inj _ _ _ _ _ _ _ e0 hi' hl l2 a1 a2
  ·rw [if_neg h1] at hi;by_cases h2:i'=id
   ·subst h2;intro a1 a2;exact r.inj _ _ _ _ _ _ _ hi e0 l1 hl a1 a2
   ·rw [if_neg h2] at hi';exact r.inj _ _ _ _ _ _ _ hi hi' l1 l2
 ·show hP.get q=none;have hq':X.h.nx<=q:=by rw [<- g2];exact hq
  rw [g1,if_neg (by intro hh;subst hh;rw [r.fresh _ hq'] at hb0;cases hb0)];exact r.fresh _ hq'
 ·show hP.get q=none;rw [g1,if_neg (by intro hh;subst hh;rw [hn] at hb0;cases hb0)];exact hn
 ·rw [Al hid];rw [if_neg (by intro hh;subst hh;rw [e0] at hj;cases hj;rw [hk] at hlk;cases hlk)];exact hj
 ·show hP.get q=_;rw [g1,if_neg (by intro hh;subst hh;rw [hb0] at hq;exact hnl _ _ _ _ _ _ _ _ (Option.some.inj hq))];exact hq
theorem RH.new (r:RH X h n) {id pid m:Nat} {b:BA} {bP:Blk} {hP:Hp} (hid:id<1048575) (hn:id<n) (hp:X.π id=none) (hlt:pid<X.h.nx)
  (e:X.h.new pid bP=some hP) (hb : ∀ Y:Cx,Y.π=Sv.Ho X.π id (some (.blk pid m))->Y.h=hP->(∀ q,Y.O q<->X.O q\/q=pid)->Up X Y->BR Y b (some (.blk pid m))) :
  ∃ Y:Cx,Y.π=Sv.Ho X.π id (some (.blk pid m))/\Y.h=hP/\RH Y (Ae h id b) n/\St X h id pid Y (Ae h id b):=by
 obtain ⟨g0,g1,g2⟩:=Hp.get_new e
 let Y:Cx:={ π:=Sv.Ho X.π id (some (.blk pid m)),h:=hP,O:=λq=>X.O q\/q=pid }
 have hpi : ∀ j,j≠id->Y.π j=X.π j:=λj hj=>if_neg hj;have hpi0:Y.π id=some (.blk pid m):=if_pos rfl
 have u:Up X Y:=⟨λj a hj=>by
  rw [hpi j (by intro hh;subst hh;rw [hp] at hj;cases hj)];exact hj,λq es ex fz hq hg=>by
  have hne:q≠pid:=by intro hh;subst hh;rw [g0] at hg;cases hg
  exact ⟨⟨fz,by show hP.get q=_;rw [g1,if_neg hne,hg]⟩,λhO=>hO.elim hq hne⟩⟩
 have hnone:h.get id=none \/ ∃ bb,h.get id=some bb /\ ¬ bb.live:=by
  cases hg:h.get id with
  | none=>exact .inl rfl
  | some bb =>
   refine .inr ⟨bb,rfl,λhl => ?_⟩;have:=r.blk _ _ hg;rw [hp] at this;cases bb<;>first | exact hl | (simp [BR] at this)
 have other : ∀ {i:Nat} {bb:BA} {m1:Nat},h.get i=some bb->bb.live->X.π i=some (.blk pid m1)->False:=by
  intro i bb m1 hg hl hpp;have:=r.blk _ _ hg;rw [hpp] at this;cases bb with
  | dead=>exact hl
  | box cs fz lk=>obtain ⟨_,_,_,_,h1,_,h3,_⟩:=this;cases h1;rw [g0] at h3;cases h3
  | row g c l ex fz lk =>
   rcases this with ⟨_,_,_,_,h1,_,h3,_⟩ | ⟨h1,_⟩ | ⟨_,h1,_⟩
   ·cases h1;rw [g0] at h3;cases h3
   ·cases h1
   ·cases h1
  | mp kk g c l lk=>obtain ⟨_,_,_,h1,_,h3,_⟩:=this;cases h1;rw [g0] at h3;cases h3
  | lp st pend nt t ps asg body d=>obtain ⟨_,_,_,_,_,h1,_,h3,_⟩:=this;cases h1;rw [g0] at h3;cases h3
  | df ds=>obtain ⟨_,_,_,h1,_,h3,_⟩:=this;cases h1;rw [g0] at h3;cases h3
 refine ⟨Y,rfl,rfl,⟨λi bb hi => ?_,λi i' bb bb' q m1 m2 hi hi' l1 l2 a1 a2 => ?_,λi a hi => ?_,λq hq => ?_,λq hq=>by
  show hP.get q≠none;rw [g1];split
  ·simp
  ·rcases hq with hq | hq
   ·exact r.ob _ hq
   ·exact absurd hq ‹_›⟩,⟨u,g2,λj hj k=>by rw [hpi j hj];exact k,λq hq hn => ?_,λj bb hj hlk => ?_,λq st pe nt t ps asg body d hq => ?_⟩⟩
 ·rw [Al hid] at hi;by_cases hii:i=id
  ·rw [if_pos hii] at hi;cases hi;subst hii;rw [hpi0];exact hb Y rfl rfl (λq=>Iff.rfl) u
  ·rw [if_neg hii] at hi;rw [hpi i hii];by_cases hlv:bb.live
   ·refine (r.blk _ _ hi).keep u λq m' hq hO'=>⟨?_,.inl hO'⟩;show hP.get q=_;rw [g1,if_neg];intro hh;subst hh;exact other hi hlv hq
   ·cases bb with
    | dead =>
     intro q m' hq;obtain ⟨k1,k2⟩:=r.blk _ _ hi q m' hq;refine ⟨.inl k1,?_⟩;show hP.get q=_;rw [g1,if_neg (by intro hh;subst hh;rw [g0] at k2;cases k2)];exact k2
    | _=>exact absurd trivial hlv
 ·rw [Al hid] at hi hi';by_cases h1:i=id
  ·by_cases h2:i'=id
   ·rw [h1,h2]
   ·rw [if_neg h2] at hi';subst h1;rw [hpi0] at a1;cases a1;exact (other hi' l2 (hpi _ h2 ▸ a2)).elim
  ·rw [if_neg h1] at hi;by_cases h2:i'=id
   ·subst h2;rw [hpi0] at a2;cases a2;exact (other hi l1 (hpi _ h1 ▸ a1)).elim
   ·rw [if_neg h2] at hi';rw [hpi _ h1] at a1;rw [hpi _ h2] at a2;exact r.inj _ _ _ _ _ _ _ hi hi' l1 l2 a1 a2
 ·by_cases hii:i=id
  ·rw [hii];exact hn
  ·rw [hpi i hii] at hi;exact r.dom _ _ hi
 ·show hP.get q=none;have hq':X.h.nx<=q:=by rw [<- g2];exact hq
  rw [g1,if_neg (by omega)];exact r.fresh _ hq'
 ·show hP.get q=none;rw [g1,if_neg hq];exact hn
 ·rw [Al hid,if_neg]
  ·exact hj
  ·intro hh;subst hh;rcases hnone with hg | ⟨b0,hg,hl⟩
   ·rw [hg] at hj;cases hj
   ·rw [hg] at hj;cases hj;cases bb with
    | dead=>cases hlk
    | _=>exact absurd trivial hl
 ·show hP.get q=_;rw [g1,if_neg (by intro hh;subst hh;rw [g0] at hq;cases hq)];exact hq
end
end Go.Proofs.YthpkjfabdccpdaaGreat.Sv
namespace Go.Proofs.YthpkjfabdccpdaaGreat.Sv
open Go.Proofs.YthpkjfabdccpdaaGreat.Pi (PV T Hp Blk DF UM PE)
section
variable {X:Cx} {h:H} {n:Nat}
theorem RH.alias (r:RH X h n) {id:Nat} {b:BA} {a:At} (hid:id<1048575) (hn:id<n) (hp:X.π id=none) (ha : ∀ pid m,a ≠ .blk pid m) (hb : ∀ Y:Cx,Up X Y->BR Y b (some a)) (idQ:Nat) :
  ∃ Y:Cx,Y.π=Sv.Ho X.π id (some a)/\Y.h=X.h/\RH Y (Ae h id b) n/\St X h id idQ Y (Ae h id b):=by
 let Y:Cx:={ π:=Sv.Ho X.π id (some a),h:=X.h,O:=X.O }
 have hpi : ∀ j,j≠id->Y.π j=X.π j:=λj hj=>if_neg hj;have hpi0:Y.π id=some a:=if_pos rfl
 have u:Up X Y:=⟨λj a hj=>by
  rw [hpi j (by intro hh;subst hh;rw [hp] at hj;cases hj)];exact hj,λq es ex fz hq hg=>⟨⟨fz,hg⟩,hq⟩⟩
 have hnone : ∀ bb,h.get id=some bb -> ¬ bb.live:=λbb hg hl=>by
  have:=r.blk _ _ hg;rw [hp] at this;cases bb<;>first | exact hl | (simp [BR] at this)
 refine ⟨Y,rfl,rfl,⟨λi bb hi => ?_,λi i' bb bb' q m1 m2 hi hi' l1 l2 a1 a2 => ?_,λi a hi => ?_,r.fresh,r.ob⟩,⟨u,rfl,λj hj k=>by rw [hpi j hj];exact k,λq hq hn=>hn,λj bb hj hlk => ?_,λq st pe nt t ps asg body d hq=>hq⟩⟩
 ·rw [Al hid] at hi;by_cases hii:i=id
  ·rw [if_pos hii] at hi;cases hi;subst hii;rw [hpi0];exact hb Y u
  ·rw [if_neg hii] at hi;rw [hpi i hii];exact (r.blk _ _ hi).keep u λq m' hq hO'=>⟨rfl,hO'⟩
 ·rw [Al hid] at hi hi'
  have nb : ∀ {i:Nat} {q m:Nat},Y.π i=some (.blk q m)->i≠id:=λhh e=>by
   subst e;rw [hpi0] at hh;exact ha _ _ (Option.some.inj hh)
  rw [if_neg (nb a1)] at hi;rw [if_neg (nb a2)] at hi';rw [hpi _ (nb a1)] at a1;rw [hpi _ (nb a2)] at a2;exact r.inj _ _ _ _ _ _ _ hi hi' l1 l2 a1 a2
 ·by_cases hii:i=id
  ·rw [hii];exact hn
  ·rw [hpi i hii] at hi;exact r.dom _ _ hi
 ·rw [Al hid,if_neg]
  ·exact hj
  ·intro hh;subst hh;have:=hnone _ hj;cases bb<;>first | exact absurd trivial this | cases hlk
theorem RH.dead (r:RH X h n) {j:Nat} {b:BA} (hid:j<1048575) (e0:h.get j=some b) (hk:b.locked=false) (hnb : ∀ pid m,X.π j≠some (.blk pid m)) (idQ:Nat):RH X (Ae h j .dead) n /\ ∀ i,St X h i idQ X (Ae h j .dead):=by
 refine ⟨⟨λi bb hi => ?_,λi i' bb bb' q m1 m2 hi hi' l1 l2 a1 a2 => ?_,r.dom,r.fresh,r.ob⟩,λi=>⟨Up.refl X,rfl,λ_ _ h=>h,λ_ _ h=>h,λi bb hi hlk => ?_,λq st pe nt t ps asg body d hq=>hq⟩⟩
 ·rw [Al hid] at hi;by_cases hii:i=j
  ·rw [if_pos hii] at hi;cases hi;subst hii;exact λpid m e=>absurd e (hnb _ _)
  ·rw [if_neg hii] at hi;exact r.blk _ _ hi
 ·rw [Al hid] at hi hi'
  have nd : ∀ {i:Nat} {bb:BA},(if i=j then some BA.dead else h.get i)=some bb->bb.live->h.get i=some bb:=fun {i bb} e hl=>by
   by_cases hii:i=j
   ·rw [if_pos hii] at e;cases e;exact hl.elim
   ·rw [if_neg hii] at e;exact e
  exact r.inj _ _ _ _ _ _ _ (nd hi l1) (nd hi' l2) l1 l2 a1 a2
 ·rw [Al hid,if_neg]
  ·exact hi
  ·intro hh;subst hh;rw [e0] at hi;cases hi;rw [hk] at hlk;cases hlk
end
def DX (h:Hp) (Q Q':Nat->Prop):(c:Ty)->c.den->List PV->Prop
 | .int k,n,ps=>ps=[.int k n]
 | .bool,b,ps=>ps=[.bool b]
 | .str,s,ps=>ps=[.str s]
 | .unit,_,ps=>ps=[]
 | .pair a b,x,ps => ∃ p q,ps=p++q/\DX h Q Q' a x.1 p/\DX h Q Q' b x.2 q
 | .sl g c,l,ps => ∃ p,ps=[p]/\((p = .nils/\l=[])\/(∃ f es,p = .lst f es/\L2 (EP g (DP c)) l es) \/
   ∃ pid off len es ex fz,p = .own pid off len/\Q pid/\h.get pid=some (.row es ex fz)/\off+len<=es.length/\Pi.GY c.wd es=true/\L2 (EP g (DR h Q' c)) l ((es.drop off).take len))
theorem DX.same {h:Hp} {Q:Nat->Prop} : ∀ {c:Ty} {x:c.den} {ps:List PV},DX h Q Q c x ps->DR h Q c x ps
 | .int _,_,_,e=>e
 | .bool,_,_,e=>e
 | .str,_,_,e=>e
 | .unit,_,_,e=>e
 | .pair _ _,_,_,⟨p,q,e,h1,h2⟩=>⟨p,q,e,DX.same h1,DX.same h2⟩
 | .sl _ _,_,_,h=>h
theorem DR.pure {Q:Nat->Prop} : ∀ {c:Ty} {x:c.den} {ps:List PV},DR IQ Q c x ps->DP c x ps
 | .int _,_,_,e=>e
 | .bool,_,_,e=>e
 | .str,_,_,e=>e
 | .unit,_,_,e=>e
 | .pair _ _,_,_,⟨p,q,e,h1,h2⟩=>⟨p,q,e,DR.pure h1,DR.pure h2⟩
 | .sl _ _,_,_,⟨p,e,h⟩=>⟨p,e,by
  rcases h with h | h | ⟨pid,off,len,es,ex,fz,h1,h2,h3,h4,h5⟩
  ·exact .inl h
  ·exact .inr h
  ·cases h3⟩
theorem DX.pure {Q Q':Nat->Prop} : ∀ {c:Ty} {x:c.den} {ps:List PV},DX IQ Q Q' c x ps->DP c x ps
 | .int _,_,_,e=>e
 | .bool,_,_,e=>e
 | .str,_,_,e=>e
 | .unit,_,_,e=>e
 | .pair _ _,_,_,⟨p,q,e,h1,h2⟩=>⟨p,q,e,DX.pure h1,DX.pure h2⟩
 | .sl _ _,_,_,⟨p,e,h⟩=>⟨p,e,by
  rcases h with h | h | ⟨pid,off,len,es,ex,fz,h1,h2,h3,h4,h5⟩
  ·exact .inl h
  ·exact .inr h
  ·cases h3⟩
theorem DR.leaf : ∀ {hh:Hp} {Q:Nat->Prop} {c:Ty} {y:c.den} {ps:List PV},DR hh Q c y ps -> ∀ p∈ps,(∀ cs,p ≠ .agg cs)/\(∀ cs,p ≠ .tup cs)/\p.cells=[p]
 | _,_,.int _,_,_,e,p,hp=>by subst e;simp at hp;subst hp;simp [PV.cells]
 | _,_,.bool,_,_,e,p,hp=>by subst e;simp at hp;subst hp;simp [PV.cells]
 | _,_,.str,_,_,e,p,hp=>by subst e;simp at hp;subst hp;simp [PV.cells]
 | _,_,.unit,_,_,e,p,hp=>by subst e;simp at hp
 | _,_,.pair _ _,_,_,⟨a,b,e,h1,h2⟩,p,hp=>by
  subst e;rcases List.mem_append.1 hp with hp | hp
  ·exact h1.leaf p hp
  ·exact h2.leaf p hp
 | _,_,.sl _ _,_,_,⟨a,e,h⟩,p,hp=>by
  subst e;simp at hp;subst hp;rcases h with ⟨rfl,_⟩ | ⟨f,es,rfl,_⟩ | ⟨pid,off,len,es,ex,fz,rfl,_⟩<;>simp [PV.cells]
theorem EP.cells {g:Bool} {hh:Hp} {Q:Nat->Prop} {c:Ty} {y:c.den} {e:PV} (h:EP g (DR hh Q c) y e):DR hh Q c y e.cells:=by
 cases g with
 | true=>obtain ⟨cs,rfl,h⟩:=h;exact h
 | false =>
  have h':DR hh Q c y [e]:=h;rw [(h'.leaf e (by simp)).2.2];exact h'
theorem DR.wd : ∀ {hh:Hp} {Q:Nat->Prop} {c:Ty} {y:c.den} {ps:List PV},DR hh Q c y ps->ps.length=c.wd
 | _,_,.int _,_,_,e=>by subst e;rfl
 | _,_,.bool,_,_,e=>by subst e;rfl
 | _,_,.str,_,_,e=>by subst e;rfl
 | _,_,.unit,_,_,e=>by subst e;rfl
 | _,_,.pair _ _,_,_,⟨a,b,e,h1,h2⟩=>by subst e;rw [List.length_append,h1.wd,h2.wd];rfl
 | _,_,.sl _ _,_,_,⟨a,e,h⟩=>by subst e;rfl
theorem EP.wd {g:Bool} {hh:Hp} {Q:Nat->Prop} {c:Ty} {y:c.den} {e:PV} (h:EP g (DR hh Q c) y e):e.cells.length=c.wd:=h.cells.wd
theorem CG {g:Bool} {hh:Hp} {Q:Nat->Prop} {c:Ty} {l:List c.den} {es:List PV} {sz:Nat} (hs:sz=c.wd) (h:L2 (EP g (DR hh Q c)) l es):Pi.GY sz es=true:=by
 cases h with
 | nil=>rfl
 | cons a _=>simp only [Pi.GY,a.wd];simp [hs]
theorem EP.agg_inv {α:Type} {D:α->List PV->Prop} {x:α} {e:PV} (h:EP true D x e) : ∃ cs,e = .agg cs/\D x cs:=h
section
variable {β:Type} {x:β}
theorem Sc {α:Type} {d:V->(α->Option β)->Option β} {X:Cx} {R:α->PV->Prop} (hd : ∀ {v:V} {p:PV} {K:α->Option β},VR X v p->d v K=some x -> ∃ y,K y=some x/\R y p) :
  ∀ {vs:List V} {ps:List PV} {K:List α->Option β},VRL X vs ps->Za d vs K=some x -> ∃ ys,K ys=some x/\L2 R ys ps
 | [],_,K,h,e=>by rw [h.nil_inv];exact ⟨[],e,.nil⟩
 | v::vs,_,K,h,e=>by
  obtain ⟨p,qs,rfl,h1,h2⟩:=h.cons_inv;obtain ⟨y,e1,r1⟩:=hd h1 e;obtain ⟨ys,e2,r2⟩:=Sc hd h2 e1;exact ⟨y::ys,e2,.cons r1 r2⟩
theorem RE {α:Type} {R:α->PV->Prop} {l:List α} {es:List PV} (h:L2 R l es) (off len:Nat):L2 R (B6 l off (AK off len)) ((es.drop off).take len):=by
 unfold B6 AK;rw [show off+len-off=len from by omega];exact (h.drop off).take len
theorem Nc : ∀ (a b:List V),Ki (a++b)=Ki a++Ki b
 | [],b=>rfl
 | v::a,b=>by
  have ih:=Nc a b;cases v<;>simp [Ki,ih]
theorem Zk {id:Nat} {v:V} (h:id∈Ki [v]):id∈Ki v.cells:=by
 cases v<;>first | exact h | (simp [Ki] at h)
theorem HK : ∀ {c:Ty} {X:Cx} {h:H} {Q:Nat->Prop} {vs:List V} {ps:List PV} {K:c.den->List V->Option β},
  (∀ id b a,h.get id=some b->X.π id=some a->BR X b (some a))->(∀ id b pid m,id∈Ki vs->h.get id=some b->X.π id=some (.blk pid m)->Q pid)->(∀ pid,X.Q pid->Q pid) ->
  VRL X vs ps->Ib h c vs K=some x -> ∃ y r p q,K y r=some x/\ps=p++q/\DX X.h Q X.Q c y p/\VRL X r q /\ ∃ s,vs=s++r
 | .int k,X,h,Q,vs,ps,K,hb,hq,hQ,hv,e=>by
  unfold Ib at e;split at e
  ·replace e:=A4 e;obtain ⟨hk,e⟩:=e;obtain ⟨p,qs,rfl,h1,h2⟩:=hv.cons_inv;simp only [VR] at h1;subst h1;have:=eq_of_beq hk;subst this;exact ⟨_,_,[_],qs,e,rfl,rfl,h2,[_],rfl⟩
  ·cases e
 | .bool,X,h,Q,vs,ps,K,hb,hq,hQ,hv,e=>by
  unfold Ib at e;split at e
  ·obtain ⟨p,qs,rfl,h1,h2⟩:=hv.cons_inv;simp only [VR] at h1;subst h1;exact ⟨_,_,[_],qs,e,rfl,rfl,h2,[_],rfl⟩
  ·cases e
 | .str,X,h,Q,vs,ps,K,hb,hq,hQ,hv,e=>by
  unfold Ib at e;split at e
  ·obtain ⟨p,qs,rfl,h1,h2⟩:=hv.cons_inv;simp only [VR] at h1;subst h1;exact ⟨_,_,[_],qs,e,rfl,rfl,h2,[_],rfl⟩
  ·cases e
 | .unit,X,h,Q,vs,ps,K,hb,hq,hQ,hv,e=>by
  unfold Ib at e;exact ⟨(),vs,[],ps,e,rfl,rfl,hv,[],rfl⟩
 | .pair a b,X,h,Q,vs,ps,K,hb,hq,hQ,hv,e=>by
  unfold Ib at e;obtain ⟨y,r,p,q,e1,rfl,d1,r1,s1,rfl⟩:=HK hb hq hQ hv e;obtain ⟨z,r',p',q',e2,rfl,d2,r2,s2,rfl⟩:=HK hb (λid b pid m hi=>hq id b pid m (by rw [Nc];exact List.mem_append_right _ hi)) hQ r1 e1;exact ⟨(y,z),r',p++p',q',e2,by simp,⟨p,p',rfl,d1,d2⟩,r2,s1++s2,by simp⟩
 | .sl g c,X,h,Q,vs,ps,K,hb,hq,hQ,hv,e=>by
  unfold Ib at e;split at e
  ·obtain ⟨p,qs,rfl,h1,h2⟩:=hv.cons_inv;simp only [VR] at h1;subst h1;exact ⟨[],_,[_],qs,e,rfl,⟨_,rfl,.inl ⟨rfl,rfl⟩⟩,h2,[_],rfl⟩
  ·rename_i g' c' l r;replace e:=A4 e;obtain ⟨hg,e⟩:=e;have:=eq_of_beq hg;subst this;obtain ⟨hc,e⟩:=Ce e;subst hc;obtain ⟨p,qs,rfl,h1,h2⟩:=hv.cons_inv;refine ⟨l,_,[p],qs,e,rfl,⟨p,rfl,?_⟩,h2,[_],rfl⟩;simp only [VR] at h1;rcases h1 with h1 | ⟨f,es,h1,_,h3⟩ | ⟨pid,off,len,es,ex,fz,h1,_,h3,h4,h5,h8,h6⟩
   ·exact .inl h1
   ·exact .inr (.inl ⟨f,es,h1,h3⟩)
   ·exact .inr (.inr ⟨pid,off,len,es,ex,fz,h1,hQ _ h3,h4,h5,h8,h6⟩)
  ·rename_i g' c' l r;replace e:=A4 e;obtain ⟨hg,e⟩:=e;have:=eq_of_beq hg;subst this;obtain ⟨hc,e⟩:=Ce e;subst hc;obtain ⟨p,qs,rfl,h1,h2⟩:=hv.cons_inv;refine ⟨l,_,[p],qs,e,rfl,⟨p,rfl,?_⟩,h2,[_],rfl⟩;simp only [VR] at h1;rcases h1 with h1 | ⟨f,es,h1,h3⟩
   ·exact .inl h1
   ·exact .inr (.inl ⟨f,es,h1,h3⟩)
  ·rename_i f es r;obtain ⟨p,qs,rfl,h1,h2⟩:=hv.cons_inv;simp only [VR] at h1;obtain ⟨f',ps,rfl,_,h3⟩:=h1
   obtain ⟨ys,e1,r1⟩:=Sc (X:=Cx.pure) (R:=EP g (DP c)) (fun {v p K'} hv e=>by
    rcases FA e with ⟨hg,e⟩ | ⟨hg,e⟩
    ·subst hg;split at e
     ·obtain ⟨cs,rfl,hv'⟩:=hv.agg_inv;obtain ⟨y,r,p,q,e1,rfl,d1,r1,_⟩:=HK (c:=c) (Q:=λ_=>True) (λ_ _ _ _ h=>(by cases h)) (λ_ _ _ _ _ _ h=>(by cases h)) (λ_ _=>trivial) hv' e;split at e1
      ·rw [r1.nil_inv];exact ⟨y,e1,_,rfl,by rw [List.append_nil];exact d1.pure⟩
      ·cases e1
     ·cases e
    ·subst hg;obtain ⟨y,r,p,q,e1,h5,d1,r1,_⟩:=HK (c:=c) (Q:=λ_=>True) (λ_ _ _ _ h=>(by cases h)) (λ_ _ _ _ _ _ h=>(by cases h)) (λ_ _=>trivial) (VRL.cons hv .nil) e;split at e1
     ·rw [r1.nil_inv,List.append_nil] at h5;subst h5;exact ⟨y,e1,d1.pure⟩
     ·cases e1) h3 e
   exact ⟨ys,_,[_],qs,e1,rfl,⟨_,rfl,.inr (.inl ⟨f',ps,rfl,r1⟩)⟩,h2,[_],rfl⟩
  ·rename_i id r;split at e
   ·rename_i g' c' l ex fz lk hrow;replace e:=A4 e;obtain ⟨hg,e⟩:=e;have:=eq_of_beq hg;subst this;obtain ⟨hc,e⟩:=Ce e;subst hc;obtain ⟨p,qs,rfl,h1,h2⟩:=hv.cons_inv;refine ⟨l,_,[p],qs,e,rfl,⟨p,rfl,?_⟩,h2,[_],rfl⟩;simp only [VR] at h1;cases hpi:X.π id with
    | none=>rw [hpi] at h1;exact h1.elim
    | some a =>
     rw [hpi] at h1;rcases hb _ _ _ hrow hpi with ⟨pid,len,es,fz',k1,k2,k3,k4,k5,k7,k6⟩ | ⟨k1,_,k2⟩ | ⟨es,k1,_,_,k2⟩
     ·cases k1;simp only at h1;subst h1;refine .inr (.inr ⟨pid,0,len,es,ex,fz',rfl,hq _ _ _ _ (by simp [Ki]) hrow hpi,k3,by omega,CG rfl k6,?_⟩);rw [List.drop_zero,List.take_of_length_le (by omega)];exact k6
     ·cases k1;simp only at h1;exact .inl ⟨h1,k2⟩
     ·cases k1;simp only at h1;exact .inr (.inl ⟨true,es,h1,k2⟩)
   ·cases e
  ·rename_i id off len r;split at e
   ·rename_i g' c' l ex fz lk hrow;replace e:=A4 e;obtain ⟨hg,e⟩:=e;have:=eq_of_beq hg;subst this;obtain ⟨hle,e⟩:=Ao e;obtain ⟨hc,e⟩:=Ce e;subst hc;obtain ⟨p,qs,rfl,h1,h2⟩:=hv.cons_inv;refine ⟨_,_,[p],qs,e,rfl,⟨p,rfl,?_⟩,h2,[_],rfl⟩;simp only [VR] at h1;obtain ⟨pid,m,hpi,rfl⟩:=h1;rcases hb _ _ _ hrow hpi with ⟨pid,len',es,fz',k1,k2,k3,k4,k5,k7,k6⟩ | ⟨k1,_⟩ | ⟨es,k1,_⟩
    ·cases k1;refine .inr (.inr ⟨_,off,len,es,ex,fz',rfl,hq _ _ _ _ (by simp [Ki]) hrow hpi,k3,?_,CG rfl k6,?_⟩)
     ·rw [<- k6.length];simpa [A0,AK,AA] using hle
     ·exact RE k6 off len
    ·cases k1
    ·cases k1
   ·cases e
  ·cases e
theorem MA {c:Ty} {X:Cx} {vs:List V} {ps:List PV} {K:c.den->List V->Option β} (hv:VRL X vs ps) (e:Ib .lf c vs K=some x) : ∃ y r p q,K y r=some x/\ps=p++q/\DR X.h X.Q c y p/\VRL X r q :=
 by
 obtain ⟨y,r,p,q,h1,h2,h3,h4,_⟩:=HK (Q:=X.Q) (λ_ _ _ h=>(by cases h)) (λ_ _ _ _ _ h=>(by cases h)) (λ_ h=>h) hv e;exact ⟨y,r,p,q,h1,h2,h3.same,h4⟩
theorem Jr {g:Bool} {c:Ty} {X:Cx} {v:V} {p:PV} {K:c.den->Option β} (hv:VR X v p) (e:OL .lf g c v K=some x) : ∃ y,K y=some x/\EP g (DR X.h X.Q c) y p:=by
 unfold OL at e;rcases FA e with ⟨hg,e⟩ | ⟨hg,e⟩
 ·subst hg;split at e
  ·obtain ⟨cs,rfl,hv'⟩:=hv.agg_inv;obtain ⟨y,r,p,q,e1,rfl,d1,r1⟩:=MA hv' e;split at e1
   ·rw [r1.nil_inv];exact ⟨y,e1,_,rfl,by rw [List.append_nil];exact d1⟩
   ·cases e1
  ·cases e
 ·subst hg;obtain ⟨y,r,p,q,e1,h5,d1,r1⟩:=MA (VRL.cons hv .nil) e;split at e1
  ·rw [r1.nil_inv,List.append_nil] at h5;subst h5;exact ⟨y,e1,d1⟩
  ·cases e1
theorem Nx {g:Bool} {c:Ty} {X:Cx} {h:H} {n:Nat} {Q:Nat->Prop} (r:RH X h n) {v:V} {p:PV} {K:c.den->Option β} (hq : ∀ id pid m,id∈Ki v.cells->X.π id=some (.blk pid m)->Q pid) (hQ : ∀ pid,X.Q pid->Q pid) (hv:VR X v p) (e:OL h g c v K=some x) : ∃ y,K y=some x/\EP g (DX X.h Q X.Q c) y p:=by
 unfold OL at e;have hb : ∀ id b a,h.get id=some b->X.π id=some a->BR X b (some a):=λid b a h1 h2=>h2 ▸ r.blk _ _ h1;rcases FA e with ⟨hg,e⟩ | ⟨hg,e⟩
 ·subst hg;split at e
  ·obtain ⟨cs,rfl,hv'⟩:=hv.agg_inv;obtain ⟨y,r,p,q,e1,rfl,d1,r1,_⟩:=HK (Q:=Q) hb (λid b pid m hi _ hp=>hq id pid m hi hp) hQ hv' e;split at e1
   ·rw [r1.nil_inv];exact ⟨y,e1,_,rfl,by rw [List.append_nil];exact d1⟩
   ·cases e1
  ·cases e
 ·subst hg;obtain ⟨y,r,p,q,e1,h5,d1,r1,_⟩:=HK (Q:=Q) hb (λid b pid m hi _ hp=>hq id pid m (Zk hi) hp) hQ (VRL.cons hv .nil) e;split at e1
  ·rw [r1.nil_inv,List.append_nil] at h5;subst h5;exact ⟨y,e1,d1⟩
  ·cases e1
theorem P8 {g:Bool} {c:Ty} {X:Cx} {h:H} {n:Nat} (r:RH X h n) {v:V} {p:PV} {K:List c.den->Option β} (hv:VR X v p) (e:Q4 h g c v K=some x) :
  ∃ l es,K l=some x/\Pi.Dv X.h p=some es/\L2 (EP g (DR X.h X.Q c)) l es:=by
 unfold Q4 at e;have hb : ∀ id b a,h.get id=some b->X.π id=some a->BR X b (some a):=λid b a h1 h2=>h2 ▸ r.blk _ _ h1;obtain ⟨l,rr,p',q,e1,h5,d1,r1,_⟩:=HK (Q:=λ_=>True) hb (λ_ _ _ _ _ _ _=>trivial) (λ_ _=>trivial) (VRL.cons hv .nil) e;obtain ⟨p0,rfl,d1⟩:=d1
 have:p=p0:=by
  cases q with
  | nil=>simpa using h5
  | cons=>simp at h5
 subst this;rcases d1 with ⟨rfl,rfl⟩ | ⟨f,es,rfl,d2⟩ | ⟨pid,off,len,es,ex,fz,rfl,_,d3,d4,_,d5⟩
 ·exact ⟨[],[],e1,rfl,.nil⟩
 ·exact ⟨l,es,e1,rfl,d2.mono λ_ _ k=>k.mono λ_ _ k=>k.up⟩
 ·refine ⟨l,_,e1,?_,d5⟩;unfold Pi.Dv;simp only [d3];have:Nat.ble (off+len) es.length=true:=by simpa using d4
  rw [this];rfl
end
end Go.Proofs.YthpkjfabdccpdaaGreat.Sv
namespace Go.Proofs.YthpkjfabdccpdaaGreat.Sv
open Go.Proofs.YthpkjfabdccpdaaGreat.Pi (PV T Hp Blk DF UM PE Au A7)
section
variable {X:Cx} {h:H} {n:Nat} {β:Type} {x:β} {P:Program}
theorem Hc : ∀ {c:Ty} {y:c.den} {ps:List PV},DR X.h X.Q c y ps->VRL X (cells c y) ps
 | .int _,_,_,e=>by subst e;exact .cons (by simp [VR]) .nil
 | .bool,_,_,e=>by subst e;exact .cons (by simp [VR]) .nil
 | .str,_,_,e=>by subst e;exact .cons (by simp [VR]) .nil
 | .unit,_,_,e=>by subst e;exact .nil
 | .pair _ _,_,_,⟨p,q,e,h1,h2⟩=>by subst e;exact (Hc h1).append (Hc h2)
 | .sl _ _,_,_,⟨p,e,h⟩=>by
  subst e;refine .cons ?_ .nil;simp only [VR];rcases h with h | ⟨f,es,h1,h2⟩ | ⟨pid,off,len,es,ex,fz,h1,h2,h3,h4,h8,h5⟩
  ·exact .inl h
  ·exact .inr (.inl ⟨f,es,h1,by simp,h2⟩)
  ·exact .inr (.inr ⟨pid,off,len,es,ex,fz,h1,by simp,h2,h3,h4,h8,h5⟩)
theorem LK {g:Bool} {c:Ty} {y:c.den} {e:PV} (h:EP g (DR X.h X.Q c) y e):VR X (XC g c y) e:=by
 cases g with
 | true=>obtain ⟨cs,rfl,h⟩:=h;simp only [XC,cond_true,VR];exact ⟨cs,rfl,Hc h⟩
 | false =>
  have:=Hc (X:=X) (show DR X.h X.Q c y [e] from h);unfold XC;simp only [cond_false];have hl:=this.length;split
  ·rename_i v hv;rw [hv] at this;obtain ⟨p,qs,h1,h2,_⟩:=this.cons_inv;cases h1;exact h2
  ·rename_i hne;cases hc:cells c y with
   | nil=>rw [hc] at hl;simp at hl
   | cons a l=>cases l with
    | nil=>exact absurd hc (hne _)
    | cons=>rw [hc] at hl;simp at hl
theorem KY : ∀ {c:Ty} {y:c.den} {ps:List PV},DP c y ps->VRL X (Mj c y) ps
 | .int _,_,_,e=>by subst e;exact .cons (by simp [VR]) .nil
 | .bool,_,_,e=>by subst e;exact .cons (by simp [VR]) .nil
 | .str,_,_,e=>by subst e;exact .cons (by simp [VR]) .nil
 | .unit,_,_,e=>by subst e;exact .nil
 | .pair _ _,_,_,⟨p,q,e,h1,h2⟩=>by subst e;exact (KY h1).append (KY h2)
 | .sl _ _,_,_,⟨p,e,h⟩=>by
  subst e;refine .cons ?_ .nil;simp only [VR];exact h
theorem Hd {g:Bool} {c:Ty} {y:c.den} {e:PV} (h:EP g (DP c) y e):VR X (elP g c y) e:=by
 cases g with
 | true=>obtain ⟨cs,rfl,h⟩:=h;simp only [elP,cond_true,VR];exact ⟨cs,rfl,KY h⟩
 | false =>
  have:=KY (X:=X) (show DP c y [e] from h);unfold elP;simp only [cond_false];have hl:=this.length;split
  ·rename_i v hv;rw [hv] at this;obtain ⟨p,qs,h1,h2,_⟩:=this.cons_inv;cases h1;exact h2
  ·rename_i hne;cases hc:Mj c y with
   | nil=>rw [hc] at hl;simp at hl
   | cons a l=>cases l with
    | nil=>exact absurd hc (hne _)
    | cons=>rw [hc] at hl;simp at hl
theorem RH.ptr (r:RH X h n) {j off:Nat} {p:PV} {cs:List V} {fz lk:Bool} (hv:VR X (.ptr j off) p) (e:h.get j=some (.box cs fz lk)) :
  ∃ pid m ps fz',X.π j=some (.blk pid m)/\p = .ptr pid off/\X.h.get pid=some (.box ps fz')/\(fz=false->fz'=false)/\VRL X cs ps:=by
 simp only [VR] at hv;obtain ⟨pid,m,h1,rfl⟩:=hv;have:=r.blk _ _ e;rw [h1] at this;obtain ⟨_,_,ps,fz',h2,h3,h4,h5,h6⟩:=this;cases h2;exact ⟨pid,m,ps,fz',h1,rfl,h4,h5,h6⟩
theorem RH.rowAt (r:RH X h n) {j pid m:Nat} {g:Bool} {c:Ty} {l:List c.den} {ex fz lk:Bool} (h1:X.π j=some (.blk pid m)) (e:h.get j=some (.row g c l ex fz lk)) :
  ∃ es fz',X.h.get pid=some (.row es ex fz')/\(fz=false->fz'=false)/\es.length=m/\(ex=false->0<m)/\L2 (EP g (DR X.h X.Q c)) l es:=by
 have:=r.blk _ _ e;rw [h1] at this;rcases this with ⟨_,_,es,fz',h2,h3,h4,h5,h6,h8,h7⟩ | ⟨h2,_⟩ | ⟨_,h2,_⟩
 ·cases h2;exact ⟨es,fz',h4,h5,h6,h8,h7⟩
 ·cases h2
 ·cases h2
theorem Zl (r:RH X h n) {ty:TypeId} {a:V} {p:PV} {K:V->Option β} (ha:VR X a p) (e:Zd P h ty a K=some x) : ∃ v q,K v=some x/\Pi.Fq P X.h ty p=some (.val q X.h)/\VR X v q:=by
 unfold Zd at e;split at e
 ·replace e:=AZ e;obtain ⟨v,e1,e⟩:=e;simp only [VR] at ha;obtain ⟨ps,rfl,h1⟩:=ha;obtain ⟨q,e2,r2⟩:=EA (h1.mono (Up.pure X)) e1;exact ⟨v,q,e,C6 e2,r2⟩
 ·split at e
  ·rename_i cs fz lk hg;obtain ⟨pid,m,ps,fz',h1,rfl,h3,h4,h5⟩:=r.ptr ha hg;replace e:=AZ e;obtain ⟨v,e1,e⟩:=e;obtain ⟨q,e2,r2⟩:=EA (h5.drop _) e1;exact ⟨v,q,e,by unfold Pi.Fq;simp only [h3];exact C6 e2,r2⟩
  ·cases e
 ·replace e:=AZ e;obtain ⟨v,e1,e⟩:=e;simp only [VR] at ha;rcases ha with ⟨ps,rfl,h1⟩ | ⟨pid,i,off,es,ex,fz,el,rfl,h1,h2,h3,h4⟩
  ·obtain ⟨q,e2,r2⟩:=EA (h1.mono (Up.pure X)) e1;exact ⟨v,q,e,C6 e2,r2⟩
  ·obtain ⟨q,e2,r2⟩:=EA h4 e1;refine ⟨v,q,e,?_,r2⟩;unfold Pi.Fq;simp only [h2,Au,h3];exact C6 e2
 ·rename_i j i off;split at e
  ·rename_i g c l ex fz lk hg;replace e:=L8 e;obtain ⟨y,hy,e⟩:=e;replace e:=AZ e;obtain ⟨v,e1,e⟩:=e;simp only [VR] at ha;obtain ⟨pid,m,h1,rfl⟩:=ha;obtain ⟨es,fz',h2,h3,h4,h9,h5⟩:=r.rowAt h1 hg;obtain ⟨el,hel,hE⟩:=h5.get hy;obtain ⟨q,e2,r2⟩:=EA ((LK hE).cells.drop off) e1;refine ⟨v,q,e,?_,r2⟩;unfold Pi.Fq;simp only [h2,Au,hel];exact C6 e2
  ·cases e
 ·cases e
theorem Dj (h:Hp) (i:Nat) (b:Blk) : ∃ h',h.set i b=some h':=⟨{ h with m:=T.put (i+1) h.m i b },by
 unfold Pi.Hp.set;rw [show Nat.blt i (i+1)=true from by simp];rfl⟩
theorem LL (h:Hp) (i:Nat) (b:Blk) (e:h.get i=none) : ∃ h',h.new i b=some h':=by
 unfold Pi.Hp.new Pi.Hp.get at *;rw [e];exact Dj h i b
theorem UC {hs:Hp} {pid i:Nat} {es:List PV} {ex:Bool} {el c1:PV} {cl:List PV} (A:List PV->Option Pi.R):(∀ cs,el ≠ .agg cs)->el.cells=[el]->cl=[c1]->(∀ cs,c1 ≠ .agg cs)->(∀ cs,c1 ≠ .tup cs) ->
  (match el with
   | .agg cs=>A cs
   | _=>(match cl with
    | [c]=>bif Nat.beq 0 0&&Nat.beq el.cells.length 1 then (match c with
     | .agg _=>none
     | .tup _=>none
     | c=>(hs.set pid (.row (Pi.lset es i c) ex false)).map Pi.R.skip) else none
    | _=>none))=(hs.set pid (.row (Pi.lset es i c1) ex false)).map .skip:=by
 intro h1 h2 h3 h4 h5;subst h3;have hb:(Nat.beq 0 0&&Nat.beq el.cells.length 1)=true:=by rw [h2];rfl
 cases el<;>first
  | exact absurd rfl (h1 _)
  | (simp only [hb,cond_true]<;>cases c1<;>first | rfl | exact absurd rfl (h4 _) | exact absurd rfl (h5 _))
def LM (X:Cx) (h:H) (n id idP:Nat) (h':H) (hP':Hp) (Y:Cx):Prop:=Y.h=hP'/\RH Y h' n/\St X h id idP Y h'
theorem XI (r:RH X h n) (hn:n<=1048575) {ty:TypeId} {a w:V} {p q:PV} {K:H->Option β} (ha:VR X a p) (hw:VR X w q) (id idP:Nat) (e:Tu P h ty a w K=some x) :
  ∃ h' hP' Y,K h'=some x/\Pi.Dc P X.h ty p q=some (.skip hP')/\LM X h n id idP h' hP' Y:=by
 unfold Tu at e;replace e:=AZ e;obtain ⟨sz,hsz,e⟩:=e;replace e:=C1 e;obtain ⟨hc,e⟩:=e;have hwc:=hw.cells;rw [hwc.length] at hc;have Y8 : ∀ {j pid m:Nat},X.π j=some (.blk pid m)->j<1048575:=λhp=>by have:=r.dom _ _ hp;omega
 split at e
 ·rename_i j off;split at e
  ·rename_i cs hg;replace e:=A4 e;obtain ⟨hle,e⟩:=e;obtain ⟨pid,m,ps,fz',h1,rfl,h3,h4,h5⟩:=r.ptr ha hg;have:=h4 rfl;subst this;have hset : ∃ hP',X.h.set pid (.box (Pi.Et ps off q.cells) false)=some hP':=Dj _ _ _;obtain ⟨hP',hset⟩:=hset
   obtain ⟨Y,y1,y2,y3,y4,y5⟩:=r.set (b':=.box (Py cs off w.cells) false false) (Y8 h1) hg trivial rfl h1 h3 (by intros;simp) hset
    (λY y1 y2 y3 u=>by
     rw [h1]
     refine ⟨pid,m,_,false,rfl,by rw [y3];exact (h1 ▸ r.blk _ _ hg).own trivial,by rw [y2,(Hp.get_set hset).1,if_pos rfl],λ_=>rfl,(h5.fput hwc off).mono u⟩) idP
   refine ⟨_,hP',Y,e,?_,y2,y4,y5 id⟩;unfold Pi.Dc;simp only [hsz,hc,cond_false,h3];rw [<- h5.length,hle];simp only [cond_true,hset];rfl
  ·cases e
 ·rename_i j i off;split at e
  ·rename_i g c l ex hg;replace e:=L8 e;obtain ⟨y,hy,e⟩:=e;replace e:=A4 e;obtain ⟨hle,e⟩:=e;simp only [VR] at ha;obtain ⟨pid,m,h1,rfl⟩:=ha;obtain ⟨es,fz',h2,h3,h4,h9,h5⟩:=r.rowAt h1 hg;have:=h3 rfl;subst this;obtain ⟨el,hel,hE⟩:=h5.get hy;have hcl:=Hc (X:=X) hE.cells;have hf:=hcl.fput hwc off;obtain ⟨y',r',p',q',e1,h6,d1,r1⟩:=MA hf e;split at e1
   ·rw [r1.nil_inv,List.append_nil] at h6;subst h6
    have key : ∃ el',EP g (DR X.h X.Q c) y' el'/\(match el with
      | .agg cs=>(X.h.set pid (.row (Pi.lset es i (.agg (Pi.Et cs off q.cells))) ex false)).map Pi.R.skip
      | _=>(match q.cells with
       | [c]=>bif Nat.beq off 0&&Nat.beq el.cells.length 1 then (match c with
        | .agg _=>none
        | .tup _=>none
        | c=>(X.h.set pid (.row (Pi.lset es i c) ex false)).map .skip) else none
       | _=>none))=(X.h.set pid (.row (Pi.lset es i el') ex false)).map .skip:=by
     cases g with
     | true =>
      obtain ⟨cs,rfl,_⟩:=hE;exact ⟨.agg (Pi.Et cs off q.cells),⟨_,rfl,d1⟩,rfl⟩
     | false =>
      have hE':DR X.h X.Q c y [el]:=hE;have hel1:=hE'.leaf el (by simp);have hlen:(cells c y).length=1:=by rw [hcl.length,hel1.2.2];rfl
      simp only [Bool.or_eq_false_iff,Bool.not_eq_false',Nat.blt_eq,Nat.beq_eq] at hc;rw [hlen] at hle;have hle':off+sz<=1:=by simpa using hle
      have hoff:off=0:=by omega
      have hsz1:sz=1:=by omega
      subst hoff;have hq1:q.cells.length=1:=by omega
      obtain ⟨c1,hc1⟩ : ∃ c1,q.cells=[c1]:=by
       cases hqq:q.cells with
       | nil=>rw [hqq] at hq1;simp at hq1
       | cons a t=>cases t with
        | nil=>exact ⟨a,rfl⟩
        | cons=>rw [hqq] at hq1;simp at hq1
      have Ae:Pi.Et el.cells 0 q.cells=[c1]:=by rw [hel1.2.2,hc1];rfl
      rw [Ae] at d1;have hl1:=d1.leaf c1 (by simp);refine ⟨c1,d1,?_⟩;exact UC _ hel1.1 hel1.2.2 hc1 hl1.1 hl1.2.1
    obtain ⟨el',hE',hk⟩:=key;have hset : ∃ hP',X.h.set pid (.row (Pi.lset es i el') ex false)=some hP':=Dj _ _ _;obtain ⟨hP',hset⟩:=hset
    obtain ⟨Y,y1,y2,y3,y4,y5⟩:=r.set (b':=.row g c (lset l i y') ex false false) (Y8 h1) hg trivial rfl h1 h2 (by intros;simp) hset
     (λY y1 y2 y3 u=>by
      rw [h1];refine .inl ⟨pid,m,_,false,rfl,by rw [y3];exact (h1 ▸ r.blk _ _ hg).own trivial,by rw [y2,(Hp.get_set hset).1,if_pos rfl],λ_=>rfl,by rw [A7];simpa using h4,h9,?_⟩;rw [A7]
      exact EDR.mono u (h5.set i hE')) idP
    refine ⟨_,hP',Y,e1,?_,y2,y4,y5 id⟩;unfold Pi.Dc;have hle2:Nat.ble (off+sz) el.cells.length=true:=by rw [<- hcl.length];exact hle
    simp only [hsz,hc,cond_false,h2,Au,hel,hle2,cond_true];rw [hset] at hk;exact hk
   ·cases e1
  ·cases e
 ·cases e
end
end Go.Proofs.YthpkjfabdccpdaaGreat.Sv
namespace Go.Proofs.YthpkjfabdccpdaaGreat.Sv
open Go.Proofs.YthpkjfabdccpdaaGreat.Pi (PV T Hp Blk DF UM PE Au A7)
section
variable {X:Cx} {h:H} {n:Nat} {β:Type} {x:β} {P:Program}
theorem EP.upP {g:Bool} {hh:Hp} {Q:Nat->Prop} {c:Ty} {y:c.den} {e:PV} (h:EP g (DP c) y e):EP g (DR hh Q c) y e:=h.mono λ_ _ k=>k.up
theorem MB {k:Nat} : ∀ {m i:Nat} {K:Nat->Option β},OO k m i K=some x->K k=some x/\i<=k/\k<i+m
 | 0,_,_,e=>by cases e
 | 1,i,K,e=>by
  unfold OO at e;obtain ⟨h1,h2⟩:=Ao e;have:k=i:=by simpa [neq] using h1
  subst this;exact ⟨h2,Nat.le_refl _,by omega⟩
 | m+2,i,K,e=>by
  unfold OO at e;rcases EW e with ⟨h1,h2⟩ | ⟨h1,h2⟩
  ·have:k=i:=by simpa [neq] using h1
   subst this;exact ⟨h2,Nat.le_refl _,by omega⟩
  ·obtain ⟨h3,h4,h5⟩:=MB h2;exact ⟨h3,by omega,by omega⟩
theorem Pa {s:TypeId} {a:V} {p:PV} {f:Nat} {K:V->Option β} (ha:VR X a p) (e:LD P s a f K=some x) : ∃ v q,K v=some x/\Pi.CD P X.h s p f=some (.val q X.h)/\VR X v q:=by
 unfold LD at e;unfold Pi.CD;split at e
 ·rename_i fs hu;split at e
  ·rename_i fd hf;split at e
   ·rename_i sz hsz;replace e:=C1 e;obtain ⟨hc,e⟩:=e;simp only [hu,hf,hsz,hc,cond_false];split at e
    ·simp only [VR] at ha;obtain ⟨pid,m,h1,rfl⟩:=ha;exact ⟨_,_,e,rfl,by simp only [VR];exact ⟨pid,m,h1,rfl⟩⟩
    ·simp only [VR] at ha;obtain ⟨pid,m,h1,rfl⟩:=ha;exact ⟨_,_,e,rfl,by simp only [VR];exact ⟨pid,m,h1,rfl⟩⟩
    ·simp only [VR] at ha;rcases ha with ⟨ps,rfl,h1⟩ | ⟨pid,i,off,es,ex,fz,el,rfl,h1,h2,h3,h4⟩
     ·exact ⟨_,_,e,rfl,by simp only [VR];exact .inl ⟨_,rfl,h1.drop _⟩⟩
     ·refine ⟨_,_,e,rfl,?_⟩;simp only [VR];exact .inr ⟨pid,i,_,es,ex,fz,el,rfl,h1,h2,h3,by rw [<- List.drop_drop];exact h4.drop _⟩
    ·simp only [VR] at ha;obtain ⟨ps,rfl,h1⟩:=ha;exact ⟨_,_,e,rfl,by simp only [VR];exact ⟨_,rfl,h1.drop _⟩⟩
    ·cases e
   ·cases e
  ·cases e
 ·cases e
theorem Pb (r:RH X h n) {ty:TypeId} {a i:V} {p q:PV} {K:V->Option β} (ha:VR X a p) (hi:VR X i q) (e:LF P h ty a i K=some x) : ∃ v w,K v=some x/\Pi.Bw P X.h ty p q=some (.val w X.h)/\VR X v w:=by
 unfold LF at e;split at e
 ·rename_i et hu;replace e:=AZ e;obtain ⟨sz,hsz,e⟩:=e;replace e:=HJ hi e;obtain ⟨k,e,hk⟩:=e;unfold Pi.Bw;simp only [hu,hk,hsz];split at e
  ·rename_i f g c es;replace e:=L8 e;obtain ⟨y,hy,e⟩:=e;replace e:=A4 e;obtain ⟨hl,e⟩:=e;simp only [VR] at ha;rcases ha with ⟨rfl,rfl⟩ | ⟨f',ps,rfl,_,h1⟩ | ⟨pid,off,len,ps,ex,fz,rfl,_,h1,h2,h3,_,h4⟩
   ·simp at hy
   ·obtain ⟨el,hel,hE⟩:=h1.get hy;have hc:=(LK (X:=Cx.pure) hE.upP).cells;refine ⟨_,.view el.cells,e,?_,by simp only [VR];exact .inl ⟨_,rfl,hc⟩⟩;simp only [Au,hel];rw [<- hc.length,hl];rfl
   ·obtain ⟨el,hel,hE⟩:=h4.get hy;have hc:=(LK hE).cells
    have hkl:k<len:=by
     have:=(List.getElem?_eq_some_iff.1 hel).1;simp at this;omega
    have hel2:ps[off+k]? = some el:=by
     rw [List.getElem?_take_of_lt hkl,List.getElem?_drop] at hel;exact hel
    refine ⟨_,.ept pid (off+k) 0,e,?_,by simp only [VR];exact .inr ⟨pid,off+k,0,ps,ex,fz,el,rfl,h1,h2,hel2,by simpa using hc⟩⟩;have hb:Nat.blt k len=true:=by simpa using hkl
    simp only [hb,cond_true,h2,Au,hel2];rw [<- hc.length,hl];rfl
  ·rename_i g c es;replace e:=L8 e;obtain ⟨y,hy,e⟩:=e;replace e:=A4 e;obtain ⟨hl,e⟩:=e;simp only [VR] at ha;rcases ha with ⟨rfl,rfl⟩ | ⟨f',ps,rfl,h1⟩
   ·simp at hy
   ·obtain ⟨el,hel,hE⟩:=h1.get hy;have hc:=(Hd (X:=Cx.pure) hE).cells;refine ⟨_,.view el.cells,e,?_,by simp only [VR];exact ⟨_,rfl,hc⟩⟩;simp only [Au,hel];rw [<- hc.length,hl];rfl
  ·rename_i f es;replace e:=MB e;obtain ⟨e,_,_⟩:=e;replace e:=AZ e;obtain ⟨el,hel,e⟩:=e;replace e:=A4 e;obtain ⟨hl,e⟩:=e;simp only [VR] at ha;obtain ⟨f',ps,rfl,_,h1⟩:=ha;obtain ⟨elP,hel2,hE⟩:=h1.lget hel;refine ⟨_,.view elP.cells,e,?_,by simp only [VR];exact .inl ⟨_,rfl,hE.cells⟩⟩;simp only [hel2];rw [<- hE.cells.length,hl];rfl
  ·rename_i j;split at e
   ·rename_i g c es ex lk hg;replace e:=Ao e;obtain ⟨hlt,e⟩:=e;replace e:=A4 e;obtain ⟨hl,e⟩:=e;have hlt':k<es.length:=by simpa [CB,AA] using hlt
    simp only [VR] at ha;have hb:=r.blk _ _ hg;cases hpi:X.π j with
    | none=>rw [hpi] at ha;exact ha.elim
    | some t =>
     rw [hpi] at ha hb;rcases hb with ⟨pid,len,ps,fz',h1,h2,h3,h4,h5,h7,h6⟩ | ⟨h1,_,h2⟩ | ⟨_,h1,_,h2,_⟩
     ·cases h1;simp only at ha;subst ha;obtain ⟨y,hy⟩ : ∃ y,es[k]? = some y:=⟨es[k],List.getElem?_eq_getElem hlt'⟩;obtain ⟨el,hel,hE⟩:=h6.get hy;refine ⟨_,.ept pid (0+k) 0,e,?_,by simp only [VR];exact ⟨pid,len,hpi,by simp⟩⟩;have hb:Nat.blt k len=true:=by rw [<- h5,<- h6.length];simpa using hlt'
      simp only [hb,cond_true,h3,Au,Nat.zero_add,hel];rw [hE.wd,hl];rfl
     ·subst h2;simp at hlt'
     ·rcases h2 with h2 | h2
      ·cases h2
      ·subst h2;simp at hlt'
   ·cases e
  ·rename_i j off len;replace e:=Ao e;obtain ⟨hlt,e⟩:=e;split at e
   ·rename_i g c es ex fz lk hg;replace e:=Ao e;obtain ⟨hlt2,e⟩:=e;replace e:=A4 e;obtain ⟨hl,e⟩:=e;simp only [VR] at ha;obtain ⟨pid,m,hpi,rfl⟩:=ha;obtain ⟨ps,fz',h3,_,h5,_,h6⟩:=r.rowAt hpi hg;have hlt':off+k<es.length:=by simpa [CB,AA,AK] using hlt2
    obtain ⟨y,hy⟩ : ∃ y,es[off+k]? = some y:=⟨es[off+k],List.getElem?_eq_getElem hlt'⟩;obtain ⟨el,hel,hE⟩:=h6.get hy;refine ⟨_,.ept pid (off+k) 0,e,?_,by simp only [VR];exact ⟨pid,m,hpi,rfl⟩⟩;have hb:Nat.blt k len=true:=hlt;simp only [hb,cond_true,h3,Au,hel];rw [hE.wd,hl];rfl
   ·cases e
  ·cases e
 ·rename_i len et hu;replace e:=AZ e;obtain ⟨sz,hsz,e⟩:=e;replace e:=HJ hi e;obtain ⟨k,e,hk⟩:=e;replace e:=MB e;obtain ⟨e,_,hlt⟩:=e;unfold Pi.Bw;have hb:Nat.blt k len=true:=by simpa using hlt
  simp only [hu,hk,hsz,hb,cond_true];split at e
  ·simp only [VR] at ha;obtain ⟨pid,m,h1,rfl⟩:=ha;exact ⟨_,_,e,rfl,by simp only [VR];exact ⟨pid,m,h1,rfl⟩⟩
  ·simp only [VR] at ha;obtain ⟨pid,m,h1,rfl⟩:=ha;exact ⟨_,_,e,rfl,by simp only [VR];exact ⟨pid,m,h1,rfl⟩⟩
  ·simp only [VR] at ha;rcases ha with ⟨ps,rfl,h1⟩ | ⟨pid,i,off,es,ex,fz,el,rfl,h1,h2,h3,h4⟩
   ·exact ⟨_,_,e,rfl,by simp only [VR];exact .inl ⟨_,rfl,h1.drop _⟩⟩
   ·refine ⟨_,_,e,rfl,?_⟩;simp only [VR];exact .inr ⟨pid,i,_,es,ex,fz,el,rfl,h1,h2,h3,by rw [<- List.drop_drop];exact h4.drop _⟩
  ·simp only [VR] at ha;obtain ⟨ps,rfl,h1⟩:=ha;exact ⟨_,_,e,rfl,by simp only [VR];exact ⟨_,rfl,h1.drop _⟩⟩
  ·cases e
 ·cases e
theorem XJ {ty:TypeId} {a i:V} {p q:PV} {K:V->Option β} (ha:VR X a p) (hi:VR X i q) (e:Tz P ty a i K=some x) : ∃ v w,K v=some x/\Pi.Ev P X.h ty p q=some (.val w X.h)/\VR X v w:=by
 unfold Tz at e;split at e
 ·rename_i len et cs hu;replace e:=AZ e;obtain ⟨sz,hsz,e⟩:=e;replace e:=HJ hi e;obtain ⟨k,e,hk⟩:=e;replace e:=MB e;obtain ⟨e,_,hlt⟩:=e;replace e:=AZ e;obtain ⟨v,hv,e⟩:=e;obtain ⟨ps,rfl,ha'⟩:=ha.agg_inv;obtain ⟨w,h1,h2⟩:=EA (ha'.drop _) hv;refine ⟨v,w,e,?_,h2⟩;unfold Pi.Ev;have hb:Nat.blt k len=true:=by simpa using hlt
  simp only [hu,hk,hb,cond_true,hsz];exact C6 h1
 ·rename_i l hu;replace e:=HJ hi e;obtain ⟨k,e,hk⟩:=e;replace e:=L8 e;obtain ⟨b,hb,e⟩:=e;simp only [VR] at ha;subst ha;refine ⟨_,_,e,?_,by simp only [VR];rfl⟩;unfold Pi.Ev;simp only [hu,hk,Au,hb];rfl
 ·cases e
theorem Zm (r:RH X h n) {ty:TypeId} {a:V} {p:PV} {K:Int->Option β} {ats:Array TypeId} (ht:ats[0]? = some ty) (ha:VR X a p) (e:Zb P h ty a K=some x) (id:Nat) : ∃ m,K m=some x/\Pi.Ah P X.h id .len ats [p]=some (.val (.int .i64 m) X.h):=by
 unfold Zb at e;unfold Pi.Ah;simp only [ht];split at e
 ·rename_i hu;split at e
  ·rename_i k g c l lk hg;simp only [VR] at ha;obtain ⟨pid,m,h1,rfl⟩:=ha;have hb:=r.blk _ _ hg;rw [h1] at hb;obtain ⟨_,_,es,h2,h3,h4,h5⟩:=hb;cases h2;refine ⟨_,e,?_⟩;simp only [hu,h4,AW,AA,h5.length]
  ·cases e
 ·rename_i hu;simp only [VR] at ha;subst ha;exact ⟨_,e,by simp only [hu]⟩
 ·rename_i hu;exact ⟨_,e,by simp only [hu]⟩
 ·rename_i hu;simp only [VR] at ha;subst ha;exact ⟨_,e,by simp only [hu]⟩
 ·rename_i f g c l hu;simp only [VR] at ha;refine ⟨_,e,?_⟩;rcases ha with ⟨rfl,rfl⟩ | ⟨f',ps,rfl,_,h1⟩ | ⟨pid,off,len,ps,ex,fz,rfl,_,h1,h2,h3,_,h4⟩
  ·simp only [hu];rfl
  ·simp only [hu,AW,AA,h1.length]
  ·simp only [hu,AW,AA,h4.length];have:((ps.drop off).take len).length=len:=by simp;omega
   rw [this]
 ·rename_i f es hu;simp only [VR] at ha;obtain ⟨f',ps,rfl,_,h1⟩:=ha;exact ⟨_,e,by simp only [hu,h1.length]⟩
 ·rename_i j hu;split at e
  ·rename_i g c l ex fz lk hg;simp only [VR] at ha;have hb:=r.blk _ _ hg;cases hpi:X.π j with
   | none=>rw [hpi] at ha;exact ha.elim
   | some t =>
    rw [hpi] at ha hb;refine ⟨_,e,?_⟩;rcases hb with ⟨pid,len,ps,fz',h1,h2,h3,h4,h5,h7,h6⟩ | ⟨h1,_,h2⟩ | ⟨ps,h1,_,_,h2⟩
    ·cases h1;simp only at ha;subst ha;simp only [hu,AW,AA,h6.length,h5]
    ·cases h1;simp only at ha;subst ha;subst h2;simp only [hu];rfl
    ·cases h1;simp only at ha;subst ha;simp only [hu,AW,AA,h2.length]
  ·cases e
 ·rename_i hu;simp only [VR] at ha;obtain ⟨pid,m,h1,rfl⟩:=ha;exact ⟨_,e,by simp only [hu];rfl⟩
 ·rename_i l hu;simp only [VR] at ha;subst ha;exact ⟨_,e,by simp only [hu];rfl⟩
 ·cases e
theorem gL (r:RH X h n) {ty:TypeId} {a:V} {p:PV} {K:Int->Option β} {ats:Array TypeId} (ht:ats[0]? = some ty) (ha:VR X a p) (e:j8 P h ty a K=some x) (id:Nat) : ∃ m,K m=some x/\Pi.Ah P X.h id .len ats [p]=some (.val (.int .i64 m) X.h) :=
 Zm r ht ha.norm e id
end
end Go.Proofs.YthpkjfabdccpdaaGreat.Sv
