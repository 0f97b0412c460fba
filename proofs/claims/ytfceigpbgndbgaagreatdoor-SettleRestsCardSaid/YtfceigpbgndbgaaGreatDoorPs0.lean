/- A part of the evaluator over typed open values for any program, and of the proof that it is sound. No condition. -/
import Derived.Test.YtfceigpbgndbgaaGreatDoorPp2
import GoSem.Step
set_option linter.all false
open List renaming append_nil->aL, cons_beq_cons->cL, drop_drop->bZ, getElem?_drop->aM, getElem?_eq_getElem->ae, getElem?_take_of_lt->cu, range->bT, replicate->aY, take_of_length_le->bM
open Nat renaming add_sub_cancel_left->cz, beq->aa, beq_eq->bI, ble->ah, blt->af, blt_eq->bR, le_refl->ad
open Bool renaming not_eq_false'->ay, or_eq_false_iff->ak
open UInt8 renaming lt_iff_toNat_lt->cA
open BitVec renaming ofInt->aF
open Option renaming some->zo, none->zn
open Bool renaming true->zt, false->zf
namespace Go.Proofs.YtfceigpbgndbgaaGreatDoor.Sv
section
section
variable{α β γ:Type}
def gd(c:Bool)(k:Unit->Option β):Option β:=bif c then k ()else zn
def br(c:Bool)(a b:Unit->Option β):Option β:=bif c then a ()else b ()
def ix(l:List α)(i:Nat)(k:α->Option β):Option β:=match l[i]? with
 |some x=>k x
 |none=>zn
def SW(n:Int)(k:Nat->Option β):Option β:=bif decide (0<=n)then k n.toNat else zn
def bd(m:Option α)(k:α->Option β):Option β:=match m with
 |some x=>k x
 |none=>zn
inductive LR (α β:Type) where
 |nx (s:α)
 |dn (x:β)
def IX:Nat->(α->Option (LR α β))->α->Option β
 |0,_,_=>zn
 |n+1,f,s=>match f s with
  |none=>zn
  |some (.nx s)=>IX n f s
  |some (.dn x)=>zo x
def loop(f:α->Option (LR α β))(s:α):Option β:=IX 18446744073709551616 f s
def jn{δ:Type}(f:α->Option (LR δ γ))(s:α)(k:δ->Option β)(a:γ->Option β):Option β:=match f s with
 |none=>zn
 |some (.nx x)=>k x
 |some (.dn x)=>a x
def So(k:IntKind)(a b:Int):Int:=k.wrap (a+b)
def Ss(k:IntKind)(a b:Int):Int:=k.wrap (a-b)
def Sp(k:IntKind)(a b:Int):Int:=k.wrap (a*b)
def Tl(k:IntKind)(a b:Int):Int:=k.wrap (a.tdiv b)
def Tn(_:IntKind)(a b:Int):Int:=a.tmod b
def Th(k:IntKind)(a b:Int):Int:=k.wrap (aF k.bits a &&& aF k.bits b).toNat
def UQ(k:IntKind)(a b:Int):Int:=k.wrap (aF k.bits a ||| aF k.bits b).toNat
def Ts(k:IntKind)(a b:Int):Int:=k.wrap (aF k.bits a ^^^ aF k.bits b).toNat
def To(k:IntKind)(a b:Int):Int:=k.wrap (a*2 ^ (min b.toNat k.bits))
def Tp(k:IntKind)(a b:Int):Int:=a.fdiv (2 ^ (min b.toNat k.bits))
def Sq(k:IntKind)(a:Int):Int:=k.wrap (0-a)
def UJ(k:IntKind)(a:Int):Int:=k.wrap a
def O3(a b:Int):Bool:=a == b
def SS(a b:Int):Bool:=a != b
def Tk(a b:Int):Bool:=decide (a<b)
def Tj(a b:Int):Bool:=decide (a<=b)
def Ti(a b:Int):Bool:=decide (a>b)
def SR(a b:Int):Bool:=decide (a>=b)
def UP(a b:Int):Int:=if b>a then b else a
def UO(a b:Int):Int:=if b<a then b else a
def Hl(a:Bool):Bool:=!a
def OG(a b:Bool):Bool:=a&&b
def beq(a b:Bool):Bool:=a == b
def Kx(n:Nat):Int:=n
def BG(a b:Nat):Nat:=a+b
def P2(a b:Nat):Nat:=a-b
def CI(a b:Nat):Bool:=ah a b
def KW(a b:Nat):Bool:=af a b
def neq(a b:Nat):Bool:=aa a b
def RJ(a b:Nat):Nat:=Nat.min a b
def NA(l:List UInt8):Nat:=l.length
def Tx(a b:List UInt8):List UInt8:=a++b
def seq(a b:List UInt8):Bool:=a == b
def S4(a b:List UInt8):Bool:=Op.bytesLess a b
def Tz(l:List UInt8)(lo hi:Nat):List UInt8:=(l.drop lo).take (hi-lo)
def UT(b:UInt8):Int:=b.toNat
def O7(l:List Int)(k:Nat):Int:=(l[k]?).getD 0
def UK(c:Bool)(a b:Int):Int:=bif c then a else b
def UN(n:Int):UInt8:=UInt8.ofNat n.toNat
def AR(l:List α):Nat:=l.length
def Iy(a b:List α):List α:=a++b
def D6(l:List α)(lo hi:Nat):List α:=(l.drop lo).take (hi-lo)
def lset(l:List α)(i:Nat)(x:α):List α:=l.set i x
def R5(n:Nat)(x:α):List α:=aY n x
def LU(l:List α)(off:Nat)(x:List α)(n:Nat):List α:=l.take off++(x.take n++l.drop (off+(x.take n).length))
def Mo(e:γ->γ->Bool):List (γ×α)->γ->Option α
 |[],_=>zn
 |(k,v)::l,x=>bif e x k then zo v else Mo e l x
def If(e:γ->γ->Bool):List (γ×α)->γ->α->List (γ×α)
 |[],x,y=>[(x,y)]
 |(k,v)::l,x,y=>bif e x k then(x,y)::l else(k,v)::If e l x y
def Ie(e:γ->γ->Bool):List (γ×α)->γ->List (γ×α)
 |[],_=>[]
 |(k,v)::l,x=>bif e x k then l else(k,v)::Ie e l x
def Sy(o:Option α)(z:α):α:=o.getD z
def US(o:Option α):Bool:=o.isSome
end
end
section
variable[Pi.Gl]
open Pi (PV T DF UM PE lget)
inductive Ty where
 |int (k:IntKind)
 |bool
 |str
 |unit
 |pair (a b:Ty)
 |sl (g:Bool) (c:Ty)
 deriving DecidableEq
@[reducible] def Ty.den:Ty->Type
 |.int _=>Int
 |.bool=>Bool
 |.str=>List UInt8
 |.unit=>Unit
 |.pair a b=>a.den×b.den
 |.sl _ c=>List c.den
inductive V where
 |bool (b:Bool)
 |int (k:IntKind) (n:Int)
 |str (l:List UInt8)
 |nilp|nils|nilm|nilf|nili
 |agg (cs:List V)
 |tup (vs:List V)
 |lf (full g:Bool) (c:Ty) (l:List c.den)
 |pl (g:Bool) (c:Ty) (l:List c.den)
 |exl (full:Bool) (es:List V)
 |ow (id:Nat)
 |own (id off len:Nat)
 |ptr (id off:Nat)
 |ept (id i off:Nat)
 |aptr (id off k n:Nat)
 |view (cs:List V)
 |pv (cs:List V)
 |fn (f:Fn) (first captured:List V)
 |yl (id:Nat)
 |ifc (t:TypeId) (v:V)
 |mp (id:Nat)
 |gk (n:Nat)
structure PEA where
 v:V
 recovered:Bool
inductive UMA where
 |ret
 |pan (ch:List PEA)
inductive DFA where
 |call (f:V) (args:List V)
 |bi (b:Builtin) (ats:Array TypeId) (ty:TypeId) (args:List V)
 |col (id:Nat)
inductive ExA where
 |normal
 |exit (id:Nat)
 |goto (l:Nat)
 |ret
 |panic (v:V)
inductive BA where
 |box (cs:List V) (fz lk:Bool)
 |row (g:Bool) (c:Ty) (l:List c.den) (ex fz lk:Bool)
 |mp (k:Ty) (g:Bool) (c:Ty) (l:List (k.den×c.den)) (lk:Bool)
 |lp (st:Nat) (pend:Option Code) (nt:Nat) (t:T V) (ps:List Nat) (asg body:Code) (d:Nat)
 |df (ds:Option (List DFA))
 |dead
abbrev H:=T BA
structure FrA where
 t:T V
 nt:Nat
 ds:List DFA
 up:Option UMA
 ro:Option Nat
inductive OutA where
 |ret (v:V)
 |pan (ch:List PEA)
def V.cells:V->List V
 |.agg cs=>cs
 |.tup _=>[]
 |v=>[v]
def cells:(c:Ty)->c.den->List V
 |.int k,n=>[.int k n]
 |.bool,b=>[.bool b]
 |.str,s=>[.str s]
 |.unit,_=>[]
 |.pair a b,x=>cells a x.1++cells b x.2
 |.sl g c,l=>[.lf zf g c l]
def Gy:(c:Ty)->c.den->List V
 |.int k,n=>[.int k n]
 |.bool,b=>[.bool b]
 |.str,s=>[.str s]
 |.unit,_=>[]
 |.pair a b,x=>Gy a x.1++Gy b x.2
 |.sl g c,l=>[.pl g c l]
def elP(g:Bool)(c:Ty)(x:c.den):V:=bif g then .agg (Gy c x)else match Gy c x with
 |[v]=>v
 |_=>.nilp
def V.norm:V->V
 |.pl g c l=>.lf zf g c l
 |.pv cs=>.view cs
 |v=>v
def OM(g:Bool)(c:Ty)(x:c.den):V:=bif g then .agg (cells c x)else match cells c x with
 |[v]=>v
 |_=>.nilp
def OA:(c:Ty)->c.den
 |.int _=>(0:Int)
 |.bool=>zf
 |.str=>[]
 |.unit=>()
 |.pair a b=>(OA a,OA b)
 |.sl _ _=>[]
def Ty.depth:Ty->Nat
 |.pair a b=>Nat.max a.depth b.depth
 |.sl _ c=>c.depth+1
 |_=>0
def Ty.wd:Ty->Nat
 |.unit=>0
 |.pair a b=>a.wd+b.wd
 |_=>1
def Ty.hasSl:Ty->Bool
 |.pair a b=>a.hasSl||b.hasSl
 |.sl _ _=>zt
 |_=>zf
def Qa(rec:TypeId->Option (Bool×Ty)):List Field->Option Ty
 |[]=>zo .unit
 |[f]=>(rec f.type).map (·.2)
 |f::fs=>match rec f.type,Qa rec fs with
  |some (_,c),zo r=>zo (.pair c r)
  |_,_=>zn
def Rl:Nat->Ty->Ty
 |0,_=>.unit
 |1,c=>c
 |n+1,c=>.pair c (Rl n c)
def NG(P:Program):Nat->TypeId->Option (Bool×Ty)
 |0,_=>zn
 |d+1,t=>match P.underlying t with
  |some (.int k)=>zo (zf,.int k)
  |some .bool=>zo (zf,.bool)
  |some .string=>zo (zf,.str)
  |some (.slice e)=>(NG P d e).map λ(g,c)=>(zf,.sl g c)
  |some (.struct fs)=>(Qa (NG P d) fs.toList).map λc=>(zt,c)
  |some (.array n e)=>(NG P d e).map λ(_,c)=>(zt,Rl n c)
  |_=>zn
def TU:Nat:=14
section
variable{β:Type}
def DY{c a:Ty}(l:List c.den)(K:List a.den->Option β):Option β:=if e:c=a then K (e ▸ l)else zn
def Rc{k c b a:Ty}(l:List (k.den×c.den))(K:List (b.den×a.den)->Option β):Option β:=
 if e:k=b then if e2:c=a then K (e ▸ e2 ▸ l)else zn else zn
def PH{α:Type}(d:V->(α->Option β)->Option β):List V->(List α->Option β)->Option β
 |[],K=>K []
 |v::vs,K=>d v λx=>PH d vs λl=>K (x::l)
def Dw(h:H):(c:Ty)->List V->(c.den->List V->Option β)->Option β
 |.int k,vs,K=>match vs with
  |.int k' n::r=>bif k == k' then K n r else zn
  |_=>zn
 |.bool,vs,K=>match vs with
  |.bool b::r=>K b r
  |_=>zn
 |.str,vs,K=>match vs with
  |.str s::r=>K s r
  |_=>zn
 |.unit,vs,K=>K () vs
 |.pair a b,vs,K=>Dw h a vs λx r=>Dw h b r λy r=>K (x,y) r
 |.sl g c,vs,K=>match vs with
  |.nils::r=>K [] r
  |.lf _ g' _ l::r=>bif g == g' then DY l λl=>K l r else zn
  |.pl g' _ l::r=>bif g == g' then DY l λl=>K l r else zn
  |.exl _ es::r=>PH (λv K=>bif g then(match v with
    |.agg cs=>Dw h c cs λx q=>match q with
     |[]=>K x
     |_=>zn
    |_=>zn)else Dw h c [v] λx q=>match q with
     |[]=>K x
     |_=>zn) es λl=>K l r
  |.ow id::r=>match h.get id with
   |some (.row g' _ l _ _ _)=>bif g == g' then DY l λl=>K l r else zn
   |_=>zn
  |.own id off len::r=>match h.get id with
   |some (.row g' _ l _ _ _)=>bif g == g' then gd (CI (BG off len) (AR l)) λ_=>DY (D6 l off (BG off len)) λl=>K l r else zn
   |_=>zn
  |_=>zn
def GN(h:H)(g:Bool)(c:Ty)(v:V)(K:c.den->Option β):Option β:=bif g then(match v with
  |.agg cs=>Dw h c cs λx q=>match q with
   |[]=>K x
   |_=>zn
  |_=>zn)else Dw h c [v] λx q=>match q with
   |[]=>K x
   |_=>zn
end
def GL:Value->Option V
 |.bool b=>zo (.bool b)
 |.int k n=>zo (.int k n)
 |.string s=>zo (.str s.data.toList)
 |.pointer zn=>zo .nilp
 |.slice zn 0 0=>zo .nils
 |.map zn=>zo .nilm
 |.nilFunc=>zo .nilf
 |.nilIface=>zo .nili
 |.func (.func f) first cap=>if first.isEmpty&&cap.isEmpty then zo (.fn (.func f) [] [])else zn
 |_=>zn
def Du:List Value->Option (List V)
 |[]=>zo []
 |v::l=>match GL v,Du l with
  |some p,zo ps=>zo (p::ps)
  |_,_=>zn
def KX:Value->Option V
 |.agg cs=>(Du cs.toList).map .agg
 |.tuple vs=>bif vs.isEmpty then zo (.tup [])else zn
 |.iface t v=>match GL v with
  |some p=>zo (.ifc t p)
  |none=>zn
 |v=>GL v
def Ci(P:Program)(t:TypeId):Option (List V):=match P.info? t with
 |some i=>match i.zero with
  |some z=>Du z.cells.toList
  |none=>zn
 |none=>zn
def C9(P:Program)(e:TypeId):Option V:=match P.info? e with
 |some i=>match i.zero with
  |some z=>KX z
  |none=>zn
 |none=>zn
def EB(P:Program)(t:TypeId)(cs:List V):Option V:=match Pi.Kv P t,Pi.AU P t with
 |some zt,zo n=>bif ah n cs.length then zo (.agg (cs.take n))else zn
 |some zf,zo _=>match cs with
  |c::_=>zo c
  |[]=>zn
 |_,_=>zn
def AG(h:H)(id:Nat)(b:BA):H:=T.put 20 h id b
def GY(cs:List V)(off:Nat)(x:List V):List V:=cs.take off++(x++cs.drop (off+x.length))
inductive RA where
 |val (v:V) (h:H)
 |skip (h:H)
 |call (f:FuncId) (args:List V)
 |yield (id:Nat) (args:List V)
 |pan (v:V)
 |rcv
 |dfr (d:DFA)
section
variable{β:Type}
def CV{α:Type}(o:Option α)(K:α->Option β):Option β:=match o with
 |some x=>K x
 |none=>zn
def Pc:List PV->Option (List V)
 |[]=>zo []
 |.ifc t (.gk n)::l=>(Pc l).map (.ifc t (.gk n)::·)
 |.nili::l=>(Pc l).map (.nili::·)
 |_=>zn
def BH(t:T V)(o:Operand)(K:V->Option β):Option β:=match o with
 |.tmp k=>CV (t.get k) K
 |.const v=>CV (KX v) K
 |.func f=>K (.fn (.func f) [] [])
 |.global g=>CV (Pi.Gl.g g) λcs=>CV (Pc cs) λvs=>K (.pv vs)
def OV(t:T V):List Operand->(List V->Option β)->Option β
 |[],K=>K []
 |o::l,K=>BH t o λv=>OV t l λvs=>K (v::vs)
def Qw(t:T V)(o:Option Operand)(K:Option V->Option β):Option β:=match o with
 |none=>K zn
 |some o=>BH t o λv=>K (zo v)
def Ig(v:V)(K:Nat->Option β):Option β:=match v with
 |.int _ n=>SW n K
 |_=>zn
def CE(d:Nat)(o:Option V)(K:Nat->Option β):Option β:=match o with
 |none=>K d
 |some v=>Ig v K
def KS(v:V)(K:Nat->Option β):Option β:=match v with
 |.int .i64 n=>SW n K
 |_=>zn
def R2(c:BinOp)(k:IntKind)(a b:Int)(K:V->Option β):Option β:=match c with
 |.add=>K (.int k (So k a b))
 |.sub=>K (.int k (Ss k a b))
 |.mul=>K (.int k (Sp k a b))
 |.quo=>gd (SS b 0) λ_=>K (.int k (Tl k a b))
 |.rem=>gd (SS b 0) λ_=>K (.int k (Tn k a b))
 |.eql=>K (.bool (O3 a b))
 |.neq=>K (.bool (SS a b))
 |.lss=>K (.bool (Tk a b))
 |.leq=>K (.bool (Tj a b))
 |.gtr=>K (.bool (Ti a b))
 |.geq=>K (.bool (SR a b))
 |.and=>K (.int k (Th k a b))
 |.or=>K (.int k (UQ k a b))
 |.xor=>K (.int k (Ts k a b))
 |_=>zn
def M8(c:BinOp)(k:IntKind)(a b:Int)(K:V->Option β):Option β:=match c with
 |.shl=>gd (SR b 0) λ_=>K (.int k (To k a b))
 |.shr=>gd (SR b 0) λ_=>K (.int k (Tp k a b))
 |_=>zn
def SK(c:BinOp)(a b:List UInt8)(K:V->Option β):Option β:=match c with
 |.add=>gd (CI (BG (NA a) (NA b)) 1000000000) λ_=>K (.str (Tx a b))
 |.eql=>K (.bool (seq a b))
 |.neq=>K (.bool (Hl (seq a b)))
 |.lss=>K (.bool (S4 a b))
 |.leq=>K (.bool (Hl (S4 b a)))
 |.gtr=>K (.bool (S4 b a))
 |.geq=>K (.bool (Hl (S4 a b)))
 |_=>zn
end
mutual
def Qu(P:Program):Nat->TypeId->V->V->Option Bool
 |0,_,_,_=>zn
 |d+1,t,x,y=>match P.underlying t with
  |some .bool=>match x,y with
   |.bool a,.bool b=>zo (beq a b)
   |_,_=>zn
  |some (.int _)=>match x,y with
   |.int k a,.int k' b=>bif k == k' then zo (O3 a b)else zn
   |_,_=>zn
  |some .string=>match x,y with
   |.str a,.str b=>zo (seq a b)
   |_,_=>zn
  |some (.pointer _)=>match x,y with
   |.nilp,.nilp=>zo zt
   |.nilp,.ptr _ _ | .nilp,.view _ | .nilp,.pv _ | .nilp,.ept _ _ _ | .ptr _ _,.nilp | .view _,.nilp | .pv _,.nilp | .ept _ _ _,.nilp=>zo zf
   |_,_=>zn
  |some (.slice _)=>match x,y with
   |.nils,.nils=>zo zt
   |.nils,.exl _ _ | .exl _ _,.nils | .nils,.lf _ _ _ (_::_) | .lf _ _ _ (_::_),.nils | .nils,.pl _ _ (_::_) | .pl _ _ (_::_),.nils | .nils,.own _ _ _ | .own _ _ _,.nils=>zo zf
   |_,_=>zn
  |some (.func _ _ _)=>match x,y with
   |.nilf,.nilf=>zo zt
   |.nilf,.fn _ _ _ | .fn _ _ _,.nilf=>zo zf
   |_,_=>zn
  |some (.interface _)=>match x,y with
   |.nili,.nili=>zo zt
   |.nili,.ifc _ _ | .ifc _ _,.nili=>zo zf
   |.ifc t a,.ifc t' b=>bif aa t t' then(match P.info? t with
     |some i=>bif i.comparable then Qu P d t a b else zn
     |none=>zn)else zo zf
   |_,_=>zn
  |some (.struct fs)=>match x,y with
   |.agg a,.agg b=>bif P.stoodInHeld t then zn else MY P d fs.toList a b
   |_,_=>zn
  |some (.array n e)=>match x,y with
   |.agg a,.agg b=>bif (Pi.AU P e).isSome then OQ P d n e a b else zn
   |_,_=>zn
  |_=>zn
def MY(P:Program):Nat->List Field->List V->List V->Option Bool
 |0,_,_,_=>zn
 |_+1,[],_,_=>zo zt
 | d + 1, f :: fs, a, b => bif f.name == "_" then MY P d fs a b else match EB P f.type (a.drop f.offset), EB P f.type (b.drop f.offset) with
  |some x,zo y=>(match Qu P d f.type x y,MY P d fs a b with
   |some c,zo r=>zo (OG c r)
   |_,_=>zn)
  |_,_=>zn
def OQ(P:Program):Nat->Nat->TypeId->List V->List V->Option Bool
 |0,_,_,_,_=>zn
 |_+1,0,_,_,_=>zo zt
 |d+1,n+1,e,a,b=>match Pi.AU P e,EB P e a,EB P e b with
  |some s,zo x,zo y=>(match Qu P d e x y,OQ P d n e (a.drop s) (b.drop s)with
   |some c,zo r=>zo (OG c r)
   |_,_=>zn)
  |_,_,_=>zn
end
section
variable{β:Type}
def Rt(P:Program)(d:BinOp)(ty:TypeId)(x y:Operand)(a b:V)(K:V->Option β):Option β:=match a,b with
 |.int k a,.int k' b=>match d with
  |.shl | .shr=>M8 d k a b K
  |_=>bif k == k' then R2 d k a b K else zn
 |.str a,.str b=>SK d a b K
 |.nili,.nili=>bif Pi.CS x||Pi.CS y then CV (Qu P 64 ty .nili .nili) λc=>(match d with
  |.eql=>K (.bool c)
  |.neq=>K (.bool (Hl c))
  |_=>zn)else zn
 |.agg a,.agg b=>bif P.eqGuardType P.depth ty then zn else CV (Qu P 64 ty (.agg a) (.agg b)) λc=>(match d with
  |.eql=>K (.bool c)
  |.neq=>K (.bool (Hl c))
  |_=>zn)
 |a,b=>CV (Qu P 64 ty a b) λc=>match d with
  |.eql=>K (.bool c)
  |.neq=>K (.bool (Hl c))
  |_=>zn
def UB(c:UnOp)(a:V)(K:V->Option β):Option β:=match a with
 |.bool b=>match c with
  |.not=>K (.bool (Hl b))
  |_=>zn
 |.int k n=>match c with
  |.neg=>K (.int k (Sq k n))
  |_=>zn
 |_=>zn
def purA(h:H):Nat->V->(V->List Nat->Option β)->Option β
 |0,_,_=>zn
 |n+1,v,K=>match v with
  |.agg cs=>purAs (purA h n) cs λx l=>K (.agg x) l
  |.tup cs=>purAs (purA h n) cs λx l=>K (.tup x) l
  |.ifc t x=>purA h n x λx l=>K (.ifc t x) l
  |.fn f a b=>purAs (purA h n) a λa l=>purAs (purA h n) b λb m=>K (.fn f a b) (l++m)
  |.lf _ g c l=>bif ah (2*c.depth+3) (n+7)then K (.lf zf g c l) []else zn
  |.pl g c l=>K (.pl g c l) []
  |.ow id=>match h.get id with
   |some (.row g c l _ _ _)=>bif ah (2*c.depth+3) (n+7)then K (.lf zf g c l) [id]else zn
   |_=>zn
  |.own id off len=>match h.get id with
   |some (.row g c l _ _ _)=>bif ah (2*c.depth+3) (n+7)then gd (CI (BG off len) (AR l)) λ_=>K (.lf zf g c (D6 l off (BG off len))) [id]else zn
   |_=>zn
  |.ptr _ _ | .view _ | .pv _ | .ept _ _ _ | .aptr _ _ _ _ | .yl _ | .mp _ | .gk _=>zn
  |v=>K v []
where
 purAs (p:V->(V->List Nat->Option β)->Option β):List V->(List V->List Nat->Option β)->Option β
  |[],K=>K [] []
  |v::vs,K=>p v λx l=>purAs p vs λxs m=>K (x::xs) (l++m)
def Nv(h:H):List V->(List V->List Nat->Option β)->Option β
 |[],K=>K [] []
 |v::vs,K=>purA h 6 v λx l=>Nv h vs λxs m=>K (x::xs) (l++m)
end
def B9(h:H):List Nat->Option H
 |[]=>zo h
 |id::l=>match h.get id with
  |some (.row g c x ex fz lk)=>bif fz then B9 h l else bif lk then zn else B9 (AG h id (.row g c x ex zt zf)) l
  |_=>zn
def IM(cs:List V):List (Nat×Nat×List V)->Option (List V)
 |[]=>zo cs
 |(off,n,x)::r=>bif aa x.length n&&ah (off+n) cs.length then IM (GY cs off x) r else zn
def J6(a:Nat)(es:List V):List (Nat×V)->Option (List V)
 |[]=>zo es
 |(i,v)::r=>bif aa v.cells.length a&&af i es.length then J6 a (Pi.lset es i v) r else zn
def FQ(P:Program)(a:Array Field):List (Nat×V)->Option (List (Nat×Nat×List V))
 |[]=>zo []
 |(i,p)::l=>match a[i]?,FQ P a l with
  |some f,zo r=>(match Pi.AU P f.type with
   |some n=>bif af 0 n then zo ((f.offset,n,p.cells)::r)else zn
   |none=>zn)
  |_,_=>zn
def GB(a:Nat):List (Nat×V)->List (Nat×Nat×List V)
 |[]=>[]
 |(i,p)::l=>(i*a,a,p.cells)::GB a l
def Nm(a:Bool)(cs:List V):Option V:=
 bif a then zo (.agg cs)else match cs with
  |[c]=>zo c
  |_=>zn
def Sh(P:Program)(a:TypeId):Option (Bool×Ty):=match P.underlying a with
 |some (.slice e)=>NG P TU e
 |_=>zn
def R4:(k:Ty)->Option (k.den->k.den->Bool)
 |.int _=>zo (λ(a b:Int)=>O3 a b)
 |.bool=>zo (λ(a b:Bool)=>beq a b)
 |.str=>zo (λ(a b:List UInt8)=>seq a b)
 |_=>zn
section
variable{β:Type}
def Gj(t:T V):List (Nat×Operand)->(List (Nat×V)->Option β)->Option β
 |[],K=>K []
 |(i,o)::l,K=>BH t o λv=>Gj t l λr=>K ((i,v)::r)
def Ii(k:Nat):Nat->Nat->(Nat->Option β)->Option β
 |0,_,_=>zn
 |1,i,K=>gd (neq k i) λ_=>K i
 |n+1,i,K=>br (neq k i) (λ_=>K i) λ_=>Ii k n (i+1) K
def Jy(h:H)(g:Bool)(c:Ty)(v:V)(K:List c.den->Option β):Option β:=Dw h (.sl g c) [v] λl _=>K l
def JG(P:Program)(a:TypeId)(c:Ty):Bool:=match P.underlying a with
 |some (.slice e)=>(match P.info? e,Pi.zeroCells P e with
  |some ti,zo z=>aa ti.size c.wd&&ah ti.bytes 1048576&&aa z.length ti.size&&af 0 ti.size
  |_,_=>zf)
 |_=>zf
def Ro(P:Program)(h:H)(id:Nat)(a:TypeId)(s x:V)(K:RA->Option β):Option β:=
 CV (Sh P a) λ(g,c)=>bif JG P a c then Jy h g c x λnew=>match s with
  |.nils=>gd (CI (AR new) 1048576) λ_=>K (.val (.ow id) (AG h id (.row g c new zf zf zf)))
  |.lf zt g' _ l=>bif g == g' then gd (CI (BG (AR l) (AR new)) 1048576) λ_=>DY l λl=>(match x with
   |.exl _ (_::_)=>K (.val (.ow id) (AG h id (.row g c (Iy l new) zf zf zf)))
   |_=>br (neq (AR new) 0) (λ_=>K (.val s h)) λ_=>K (.val (.ow id) (AG h id (.row g c (Iy l new) zf zf zf))))else zn
  |.exl zt []=>gd (CI (AR new) 1048576) λ_=>K (.val (.ow id) (AG h id (.row g c new zf zf zf)))
  |.ow j=>match h.get j with
   |some (.row g' _ l ex fz lk)=>bif !(g == g')||lk then zn else DY l λl=>gd (CI (BG (AR l) (AR new)) 1048576) λ_=>
    bif ex then(match x with
     |.exl _ (_::_)=>K (.val (.ow id) (AG h id (.row g c (Iy l new) zf zf zf)))
     |_=>br (neq (AR new) 0) (λ_=>K (.val s h)) λ_=>K (.val (.ow id) (AG h id (.row g c (Iy l new) zf zf zf))))
    else K (.val (.ow id) (AG (AG h j .dead) id (.row g c (Iy l new) zf fz zf)))
   |_=>zn
  |.own j off len=>match h.get j with
   |some (.row g' _ l zt zf zf)=>bif g == g' then DY l λl=>gd (CI (BG len (AR new)) 1048576) λ_=>gd (CI (BG off len) (AR l)) λ_=>
    br (neq (AR new) 0) (λ_=>K (.val s h)) λ_=>
    br (CI (BG (BG off len) (AR new)) (AR l)) (λ_=>K (.val (.own j off (BG len (AR new))) (AG h j (.row g c (LU l (BG off len) new (AR new)) zt zf zf)))) λ_=>
     K (.val (.ow id) (AG h id (.row g c (Iy (D6 l off (BG off len)) new) zf zf zf)))else zn
   |_=>zn
  |_=>zn
 else zn
def Po(P:Program)(h:H)(t:TypeId)(v:V)(K:Int->Option β):Option β:=match P.underlying t,v with
 |some (.map _ _),.mp j=>(match h.get j with
  |some (.mp _ _ _ l _)=>K (Kx (AR l))
  |_=>zn)
 |some (.map _ _),.nilm=>K 0
 |some (.array n _),_=>K n
 |some (.slice _),.nils=>K 0
 |some (.slice _),.lf _ _ _ l=>K (Kx (AR l))
 |some (.slice _),.exl _ es=>K es.length
 |some (.slice _),.ow j=>(match h.get j with
  |some (.row _ _ l _ _ _)=>K (Kx (AR l))
  |_=>zn)
 |some (.slice _),.own _ _ len=>K (Kx len)
 |some .string,.str l=>K (Kx (NA l))
 |_,_=>zn
def Su(P:Program)(h:H)(t:TypeId)(v:V)(K:Int->Option β):Option β:=Po P h t v.norm K
def JO(f:Int->Int->Int)(k:IntKind):Int->List V->(Int->Option β)->Option β
 |m,[],K=>K m
 |m,.int k' y::l,K=>bif k == k' then JO f k (f m y) l K else zn
 |_,_,_=>zn
def Eu:Ty->TypeDesc->Bool
 |.int _,.int _=>zt
 |.bool,.bool=>zt
 |.str,.string=>zt
 |_,_=>zf
def Pk(P:Program)(ty:TypeId)(m v:V)(h:H)(K:(j:Nat)->(k:Ty)->(g:Bool)->(c:Ty)->List (k.den×c.den)->Bool->(k.den->k.den->Bool)->k.den->Option β):Option β:=
 match P.underlying ty,m with
 |some (.map kt _),.mp j=>match P.underlying kt,h.get j with
  |some d,zo (.mp k g c l lk)=>bif Eu k d then CV (R4 k) λe=>Dw .lf k [v] λx q=>(match q with
   |[]=>K j k g c l lk e x
   |_=>zn)else zn
  |_,_=>zn
 |_,_=>zn
def IB(P:Program)(h:H)(id:Nat)(b:Builtin)(f:Array TypeId)(args:List V)(K:RA->Option β):Option β:=
 match b with
 |.len=>match args,f[0]? with
  |[x],zo t=>Su P h t x λn=>K (.val (.int .i64 n) h)
  |_,_=>zn
 |.cap=>match args,f[0]? with
  |[x],zo t=>match P.underlying t,x with
   |some (.slice _),.ow j=>(match h.get j with
    |some (.row _ _ l zt _ _)=>K (.val (.int .i64 (Kx (AR l))) h)
    |_=>zn)
   |some (.slice _),.own j off _=>(match h.get j with
    |some (.row _ _ l zt _ _)=>K (.val (.int .i64 (Kx (P2 (AR l) off))) h)
    |_=>zn)
   |some (.slice _),.nils=>K (.val (.int .i64 0) h)
   |_,_=>zn
  |_,_=>zn
 |.append=>match args,f.toList with
  |[s,x],[t,t']=>bif aa t t' then Ro P h id t s x K else zn
  |_,_=>zn
 |.copy=>match args,f[0]? with
  |[d,x],zo t=>CV (Sh P t) λ(g,c)=>bif !JG P t c then zn else Jy h g c x λnew=>match d with
   |.ow j=>(match h.get j with
    |some (.row g' _ l zt zf zf)=>bif g == g' then DY l λl=>K (.val (.int .i64 (Kx (RJ (AR new) (AR l)))) (AG h j (.row g c (LU l 0 new (AR l)) zt zf zf)))else zn
    |_=>zn)
   |.own j off len=>(match h.get j with
    |some (.row g' _ l ex zf zf)=>bif g == g' then DY l λl=>gd (CI (BG off len) (AR l)) λ_=>K (.val (.int .i64 (Kx (RJ (AR new) len))) (AG h j (.row g c (LU l off new len) ex zf zf)))else zn
    |_=>zn)
   |_=>zn
  |_,_=>zn
 |.clear=>match args,f[0]? with
  |[.mp j],zo t=>match P.underlying t,h.get j with
   |some (.map _ _),zo (.mp k g c _ zf)=>K (.val (.tup []) (AG h j (.mp k g c [] zf)))
   |_,_=>zn
  |_,_=>zn
 |.delete=>match args,f[0]? with
  |[m,v],zo t=>Pk P t m v h λj k g c l i e x=>bif i then zn else K (.val (.tup []) (AG h j (.mp k g c (Ie e l x) zf)))
  |_,_=>zn
 |.max=>match args with
  |.int k a::r=>JO UP k a r λm=>K (.val (.int k m) h)
  |_=>zn
 |.min=>match args with
  |.int k a::r=>JO UO k a r λm=>K (.val (.int k m) h)
  |_=>zn
 |.panic=>match args with
  |[.ifc t v]=>K (.pan (.ifc t v))
  |_=>zn
 |.recover=>K .rcv
 |_=>zn
def FJ(P:Program)(f:Fn)(first cap args:List V)(K:RA->Option β):Option β:=match f with
 |.func g=>match P.funcs[g]? with
  | some fn => bif fn.body.isSome && !(fn.name == "runtime.NumGoroutine") then K (.call g (first ++ args ++ cap)) else none
  |none=>zn
 |.method name=>match first++args with
  |.ifc t v::rest=>match P.info? t with
   |some i=>match i.methods.find? (·.name == name)with
    |some m=>match m.path.isEmpty,m.func,P.underlying t with
     | true, some (g, true), some (.pointer _) => bif (match P.funcs[g]? with | some fn => fn.body.isSome && !(fn.name == "runtime.NumGoroutine") | none => false) then K (.call g (v :: rest)) else none
     |true,zo (_,zf),zo (.pointer _)=>zn
     | true, some (g, false), some _ => bif (match P.funcs[g]? with | some fn => fn.body.isSome && !(fn.name == "runtime.NumGoroutine") | none => false) then K (.call g (v :: rest)) else none
     |_,_,_=>zn
    |none=>zn
   |none=>zn
  |_=>zn
 |_=>zn
def Hc(a:IntKind):Nat->List V->Option (List Int)
 |0,_=>zo []
 |n+1,.int k x::l=>bif k == a then(Hc a n l).map (x::·)else zn
 |_+1,_=>zn
def Pm:List V->Option IntKind
 |.int k _::_=>zo k
 |_=>zn
def Ov(a:IntKind)(k:Nat)(x:Int):Nat->List Int->List V
 |_,[]=>[]
 |i,y::l=>.int a (UK (neq k i) x y)::Ov a k x (i+1) l
def Rq(h:H)(n len:Nat)(x:V):Option (Nat×Nat):=match x with
 |.ptr j off=>(match h.get j with
  |some (.box cs _ _)=>(match Pm (cs.drop off)with
   |some a=>bif aa n 1&&(Hc a len (cs.drop off)).isSome then zo (j,off)else zn
   |none=>zn)
  |_=>zn)
 |_=>zn
def Ps(P:Program)(h:H)(ty:TypeId)(p:V)(K:V->Option β):Option β:=match p with
 |.pv cs=>CV (EB P ty cs) K
 |.ptr j off=>match h.get j with
  |some (.box cs _ _)=>CV (EB P ty (cs.drop off)) K
  |_=>zn
 |.view cs=>CV (EB P ty cs) K
 |.ept j i off=>match h.get j with
  |some (.row g c l _ _ _)=>ix l i λx=>CV (EB P ty ((OM g c x).cells.drop off)) K
  |_=>zn
 |.aptr j off k n=>match h.get j with
  |some (.box cs _ _)=>(match Pm (cs.drop off),Pi.Kv P ty,Pi.AU P ty with
   |some k0,zo zf,zo _=>CV (Hc k0 n (cs.drop off)) λl=>K (.int k0 (O7 l k))
   |_,_,_=>zn)
  |_=>zn
 |_=>zn
def Ku(P:Program)(h:H)(ty:TypeId)(p v:V)(K:H->Option β):Option β:=CV (Pi.AU P ty) λn=>
 bif !af 0 n || !aa v.cells.length n then zn else match p with
 |.ptr j off=>match h.get j with
  |some (.box cs zf zf)=>bif ah (off+n) cs.length then K (AG h j (.box (GY cs off v.cells) zf zf))else zn
  |_=>zn
 |.ept j i off=>match h.get j with
  |some (.row g c l ex zf zf)=>ix l i λx=>bif ah (off+n) (cells c x).length then
    Dw .lf c (GY (cells c x) off v.cells) λy q=>match q with
     |[]=>K (AG h j (.row g c (lset l i y) ex zf zf))
     |_=>zn
   else zn
  |_=>zn
 |.aptr j off k m=>match h.get j with
  |some (.box cs zf zf)=>(match v,Pm (cs.drop off)with
   |.int k1 x,zo k0=>bif k1 == k0 then CV (Hc k0 m (cs.drop off)) λl=>K (AG h j (.box (GY cs off (Ov k0 k x 0 l)) zf zf))else zn
   |_,_=>zn)
  |_=>zn
 |_=>zn
def MP(P:Program)(ty:TypeId)(a:List (Nat×V))(K:V->Option β):Option β:=
 match Ci P ty,P.underlying ty with
 |some z,zo (.struct fs)=>bif fs.toList.all λf=>(Pi.AU P f.type).isSome then
   (match FQ P fs a with
   |some pl=>CV (IM z pl) λcs=>K (.agg cs)
   |none=>zn)else zn
 |some z,zo (.array _ e)=>match Pi.AU P e with
  |some n=>bif af 0 n then CV (IM z (GB n a)) λcs=>K (.agg cs)else zn
  |none=>zn
 |_,_=>zn
def Ej(P:Program)(h:H)(ty:TypeId)(len:Nat)(a:List (Nat×V))(K:RA->Option β):Option β:=
 match P.underlying ty with
 |some (.slice e)=>match Pi.AU P e,Pi.Kv P e,Ci P e with
  |some n,zo ag,zo z=>match Nm ag z with
   |some b=>bif !af 0 n || !ah (len*n) 16777216 || !aa z.length n then zn else
    CV (J6 n (aY len b) a) λes=>Nv h es λes l=>CV (B9 h l) λh=>K (.val (.exl zt es) h)
   |none=>zn
  |_,_,_=>zn
 |_=>zn
def R7(p:V)(K:V->Option β):Option β:=match p with
 |.pv cs=>K (.pv cs)
 |.ptr a b=>K (.ptr a b)
 |.ept a b c=>K (.ept a b c)
 |.view cs=>K (.view cs)
 |.ifc ty v=>K (.ifc ty v)
 |.yl i=>K (.yl i)
 |.fn (.func f) a b=>K (.fn (.func f) a b)
 |_=>zn
def Ra:List V->(List UInt8->Option β)->Option β
 |[],K=>K []
 |.int .u8 n::l,K=>Ra l λr=>K (UN n::r)
 |_,_=>zn
def IE(P:Program)(b a:TypeId)(x:V)(K:V->Option β):Option β:=match x,P.underlying b,P.underlying a with
 |.int _ n,zo _,zo (.int k)=>K (.int k (UJ k n))
 |.str l,zo .string,zo .string=>K (.str l)
 |.exl _ es,zo (.slice e),zo .string=>(match P.underlying e with
  |some (.int .u8)=>Ra es λl=>K (.str l)
  |_=>zn)
 |_,_,_=>zn
def R0(P:Program)(ty:TypeId)(v:V)(K:V->Option β):Option β:=match P.underlying ty with
 |some (.interface _)=>zn
 |some _=>K (.ifc ty v)
 |none=>zn
def Px(P:Program)(h:H)(id:Nat)(ty:TypeId)(same:Bool)(l c:V)(K:RA->Option β):Option β:=match P.underlying ty with
 |some (.slice e)=>match Pi.AU P e,Pi.Kv P e,Ci P e,P.info? e with
  |some n,zo ag,zo z,zo ti=>CV (NG P TU e) λ(g,ct)=>bif ah ti.bytes 1048576&&af 0 n&&aa z.length n then CV (Nm ag z) λz=>GN .lf g ct z λz=>KS l λl=>KS c λc=>
    bif same then gd (CI c 1048576) λ_=>K (.val (.ow id) (AG h id (.row g ct (R5 c z) zt zf zf)))
    else gd (CI l c) λ_=>gd (CI c 1048576) λ_=>K (.val (.own id 0 l) (AG h id (.row g ct (R5 c z) zt zf zf)))
   else zn
  |_,_,_,_=>zn
 |_=>zn
def La(P:Program)(h:H)(id:Nat)(ty:TypeId)(K:RA->Option β):Option β:=match P.underlying ty with
 |some (.map kt e)=>match NG P TU kt,NG P TU e with
  |some (zf,k),zo (g,c)=>K (.val (.mp id) (AG h id (.mp k g c [] zf)))
  |_,_=>zn
 |_=>zn
def NB(P:Program)(h:H)(ty:TypeId)(x:V)(lo hi mx:Option V)(K:V->Option β):Option β:=match P.underlying ty,x with
 |some .string,.str s=>match mx with
  |none=>CE (NA s) hi λhh=>CE 0 lo λl=>gd (CI hh (NA s)) λ_=>gd (CI l hh) λ_=>K (.str (Tz s l hh))
  |_=>zn
 |some (.slice e),.nils=>CV (Pi.AU P e) λ_=>match mx with
  |none=>CE 0 hi λhh=>CE 0 lo λl=>gd (neq hh 0) λ_=>gd (neq l 0) λ_=>K .nils
  |some m=>bif hi.isNone then zn else CE 0 hi λhh=>CE 0 lo λl=>Ig m λm=>gd (neq hh 0) λ_=>gd (neq l 0) λ_=>gd (neq m 0) λ_=>K .nils
 |some (.slice e),.lf _ g c es=>CV (Pi.AU P e) λn=>bif !aa n c.wd then zn else CE 0 lo λl=>CE (AR es) hi λhh=>(match mx with
  |none=>gd (CI hh (AR es)) λ_=>gd (CI l hh) λ_=>K (.lf zf g c (D6 es l hh))
  |some m=>bif hi.isNone || !ah c.depth 4 then zn else Ig m λm=>gd (CI hh (AR es)) λ_=>gd (neq hh m) λ_=>gd (CI l hh) λ_=>K (.lf zt g c (D6 es l hh)))
 |some (.slice e),.pl g c es=>CV (Pi.AU P e) λn=>bif !aa n c.wd then zn else CE 0 lo λl=>CE (AR es) hi λhh=>(match mx with
  |none=>gd (CI hh (AR es)) λ_=>gd (CI l hh) λ_=>K (.pl g c (D6 es l hh))
  |some m=>bif hi.isNone || !ah c.depth 4 then zn else Ig m λm=>gd (CI hh (AR es)) λ_=>gd (neq hh m) λ_=>gd (CI l hh) λ_=>K (.lf zt g c (D6 es l hh)))
 |some (.slice e),.ow j=>(match h.get j with
  |some (.row g c es _ zf _)=>CV (Pi.AU P e) λn=>bif !aa n c.wd then zn else CE 0 lo λl=>CE (AR es) hi λhh=>(match mx with
   |none=>gd (CI hh (AR es)) λ_=>gd (CI l hh) λ_=>br (KW l (AR es)) (λ_=>K (.own j l (P2 hh l))) λ_=>K (.lf zf g c [])
   |some _=>zn)
  |_=>zn)
 |some (.slice e),.own j off len=>(match h.get j with
  |some (.row g c es ex _ _)=>CV (Pi.AU P e) λn=>bif !aa n c.wd then zn else CE 0 lo λl=>CE len hi λhh=>(match mx with
   |none=>gd (CI (BG off hh) (AR es)) λ_=>gd (CI l hh) λ_=>br (KW (BG off l) (AR es)) (λ_=>K (.own j (BG off l) (P2 hh l))) λ_=>K (.lf zf g c [])
   |some m=>bif lo.isSome||hi.isNone || !ex then zn else Ig m λm=>gd (CI hh m) λ_=>gd (neq (BG off m) (AR es)) λ_=>gd (KW off (AR es)) λ_=>K (.own j off hh))
  |_=>zn)
 |_,_=>zn
def IV:V->Bool
 |.int _ _ | .bool _ | .str _=>zt
 |_=>zf
def HR(P:Program)(h:H)(arr:TypeId)(x:V)(K:V->H->Option β):Option β:=match P.underlying arr with
 |some (.array n e)=>(match Pi.AU P e,x with
  |some s,.ptr j off=>(match h.get j with
   |some (.box cs _ zf)=>bif aa s 1&&(af 0 n&&(ah n (cs.drop off).length&&(cs.drop off).all IV))then K (.exl zt ((cs.drop off).take n)) (AG h j (.box cs zt zf))else zn
   |_=>zn)
  |_,_=>zn)
 |_=>zn
def Fx(P:Program)(b:TypeId)(x:V)(f:Nat)(K:V->Option β):Option β:=match P.underlying b with
 |some (.struct fs)=>match fs[f]? with
  |some a=>match Pi.AU P a.type with
   |some n=>bif aa n 0 then zn else(match x with
    |.ptr j off=>K (.ptr j (off+a.offset))
    |.ept j i off=>K (.ept j i (off+a.offset))
    |.view cs=>K (.view (cs.drop a.offset))
    |.pv cs=>K (.pv (cs.drop a.offset))
    |_=>zn)
   |none=>zn
  |none=>zn
 |_=>zn
def Mf(P:Program)(ty:TypeId)(x:V)(f:Nat)(K:V->Option β):Option β:=match P.underlying ty,x with
 |some (.struct fs),.agg cs=>match fs[f]? with
  |some a=>CV (EB P a.type (cs.drop a.offset)) K
  |none=>zn
 |_,_=>zn
def F3(P:Program)(h:H)(ty:TypeId)(x i:V)(K:V -> Option β):Option β:=match P.underlying ty with
  | some (.slice e) => CV (Pi.AU P e) fun n => Ig i fun k => match x with
      |.lf _ g c es=>ix es k fun a=>bif aa (OM g c a).cells.length n then K (.view (OM g c a).cells)else zn
      |.pl g c es=>ix es k fun a=>bif aa (elP g c a).cells.length n then K (.pv (elP g c a).cells)else zn
      |.exl _ es=>Ii k es.length 0 fun k=>CV (lget es k) fun a=>bif aa a.cells.length n then K (.view a.cells)else zn
      |.ow j=>(match h.get j with
        |some (.row _ c es _ zf _)=>gd (KW k (AR es)) fun _=>bif aa c.wd n then K (.ept j k 0)else zn
        |_=>zn)
      |.own j off len=>gd (KW k len) fun _=>(match h.get j with
        |some (.row _ c es _ _ _)=>gd (KW (BG off k) (AR es)) fun _=>bif aa c.wd n then K (.ept j (BG off k) 0)else zn
        |_=>zn)
      |_=>zn
  |some (.array len e)=>CV (Pi.AU P e) fun n=>Ig i fun k=>match Rq h n len x with
   |some (j,off)=>gd (KW k len) fun _=>K (.aptr j off k len)
   | none => Ii k len 0 fun k => match x with
      |.ptr j off=>K (.ptr j (off + k * n))
      |.ept j i off=>K (.ept j i (off + k * n))
      |.view cs=>K (.view (cs.drop (k * n)))
      |.pv cs=>K (.pv (cs.drop (k * n)))
      |_=>zn
  |_=>zn
def Mj(P:Program)(ty:TypeId)(x i:V)(K:V->Option β):Option β:=match P.underlying ty,x with
 |some (.array len e),.agg cs=>CV (Pi.AU P e) λn=>Ig i λk=>Ii k len 0 λk=>CV (EB P e (cs.drop (k*n))) K
 |some .string,.str l=>Ig i λk=>ix l k λb=>K (.int .u8 (UT b))
 |_,_=>zn
def KO(P:Program)(h:H)(ty:TypeId)(m k:V)(a:Bool)(K:V->Option β):Option β:=match m with
 |.nilm=>match P.underlying ty with
  |some (.map kt e)=>match P.underlying kt,C9 P e with
   |some d,zo z=>bif Pi.Cm d then K (bif a then .tup [z,.bool zf]else z)else zn
   |_,_=>zn
  |_=>zn
 |m=>Pk P ty m k h λ_ _ g c l _ e x=>match P.underlying ty with
  |some (.map _ et)=>CV (C9 P et) λz=>GN .lf g c z λz=>
    K (bif a then .tup [OM g c (Sy (Mo e l x) z),.bool (US (Mo e l x))]else OM g c (Sy (Mo e l x) z))
  |_=>zn
def ET(P:Program)(h:H)(ty:TypeId)(m k v:V)(K:H->Option β):Option β:=
 Pk P ty m k h λj a g c l b e x=>bif b then zn else GN .lf g c v λy=>K (AG h j (.mp a g c (If e l x y) zf))
def E9(a:Bool)(v:V):V:=bif a then .tup [v,.bool zt]else v
def Jr(P:Program)(ty:TypeId)(v:V)(b:Bool)(K:V->Option β):Option β:=match P.underlying ty with
 |some (.interface want)=>match v with
  |.ifc u a=>match P.info? u with
   |some i=>match Instr.missingMethod want i.methods with
    |none=>K (E9 b (.ifc u a))
    |some _=>bif b then CV (C9 P ty) λz=>K (.tup [z,.bool zf])else zn
   |none=>zn
  |.nili=>bif b then CV (C9 P ty) λz=>K (.tup [z,.bool zf])else zn
  |_=>zn
 |some _=>match v with
  |.ifc u a=>bif aa u ty then K (E9 b a)else bif b then CV (C9 P ty) λz=>K (.tup [z,.bool zf])else zn
  |.nili=>bif b then CV (C9 P ty) λz=>K (.tup [z,.bool zf])else zn
  |_=>zn
 |none=>zn
def N5:Operand->Operand->Bool
 |.tmp a,.tmp b=>aa a b
 |_,_=>zf
def Kw(h:H)(K:RA->Option β)(v:V):Option β:=K (.val v h)
def TD(P:Program)(t:T V)(h:H)(id:Nat)(o:Oper)(K:RA->Option β):Option β:=
 match o.op with
 |.move x=>BH t x (Kw h K)
 |.assign x=>BH t x (Kw h K)
 |.pick c a b=>BH t c λc=>BH t a λa=>BH t b λb=>match c with
  |.bool c=>br c (λ_=>Kw h K a) (λ_=>Kw h K b)
  |_=>zn
 |.alloc e=>CV (Ci P e) λcs=>K (.val (.ptr id 0) (AG h id (.box cs zf zf)))
 |.box _ x=>BH t x λv=>match v with
  |.tup _=>zn
  |v=>K (.val (.ptr id 0) (AG h id (.box v.cells zf zf)))
 |.build ty d=>Gj t d.toList λu=>MP P ty u (Kw h K)
 |.buildSlice ty len d=>Gj t d.toList λu=>Ej P h ty len u K
 |.load ty a=>BH t a λa=>Ps P h ty a (Kw h K)
 |.store ty a x=>BH t a λa=>BH t x λx=>Ku P h ty a x λh=>K (.skip h)
 |.nilCheck x=>BH t x λx=>R7 x (Kw h K)
 |.binOp op ty x y _=>BH t x λa=>BH t y λb=>Rt P op ty x y a b (Kw h K)
 |.unOp op _ x=>BH t x λa=>UB op a (Kw h K)
 |.convert w p x=>BH t x λa=>IE P w p a (Kw h K)
 |.makeInterface ty x=>BH t x λa=>R0 P ty a (Kw h K)
 |.makeFunc f first cap=>OV t first.toList λa=>OV t cap.toList λb=>match f with
  |.yield _=>zn
  |f=>K (.val (.fn f a b) h)
 |.makeMap ty zn=>La P h id ty K
 |.makeSlice ty l c=>BH t l λx=>BH t c λy=>Px P h id ty (N5 l c) x y K
 |.slice ty x lo hi mx=>Qw t lo λlo=>Qw t hi λhi=>Qw t mx λmx=>BH t x λx=>(match P.underlying ty with
  |some (.array _ _)=>(match lo,hi,mx with
   |none,zn,zn=>HR P h ty x λv h=>K (.val v h)
   |_,_,_=>zn)
  |_=>NB P h ty x lo hi mx (Kw h K))
 |.fieldAddr s x f=>BH t x λx=>Fx P s x f (Kw h K)
 |.field ty x f=>BH t x λx=>Mf P ty x f (Kw h K)
 |.indexAddr ty x i=>BH t x λx=>BH t i λi=>F3 P h ty x i (Kw h K)
 |.index ty x i=>BH t x λx=>BH t i λi=>Mj P ty x i (Kw h K)
 |.lookup ty x k q=>BH t x λm=>BH t k λk=>KO P h ty m k q (Kw h K)
 |.mapUpdate ty x k v=>BH t x λx=>BH t k λk=>BH t v λv=>ET P h ty x k v λh=>K (.skip h)
 |.insert ty x k v=>BH t x λx=>BH t k λk=>BH t v λv=>ET P h ty x k v λh=>K (.skip h)
 |.typeAssert x _ ty q=>BH t x λv=>Jr P ty v q (Kw h K)
 |.extract x i=>BH t x λx=>match x with
  |.tup vs=>CV (lget vs i) (Kw h K)
  |_=>zn
 |.panic x=>BH t x λx=>match x with
  |.ifc ty v=>K (.pan (.ifc ty v))
  |_=>zn
 |.call c=>OV t c.args.toList λargs=>match c.callee with
  |.builtin b=>IB P h id b c.argTypes args K
  |.value f=>BH t f λf=>match f with
   |.fn f a b=>FJ P f a b args K
   |.yl l=>K (.yield l args)
   |_=>zn
  |.invoke n j=>BH t n λr=>FJ P (.method j) [r] [] args K
 |.defer c=>OV t c.args.toList λargs=>match c.callee with
  |.builtin b=>K (.dfr (.bi b c.argTypes o.type args))
  |.value f=>BH t f λf=>match f with
   |.fn (.func g) a b=>K (.dfr (.call (.fn (.func g) a b) args))
   |_=>zn
  |.invoke _ _=>zn
 |_=>zn
end
end
section
variable[Pi.Gl]
open Pi (T lget HB)
@[reducible] def AP:List (Bool×Ty)->Type
 |[]=>Unit
 |[p]=>p.2.den
 |p::q::r=>p.2.den×AP (q::r)
structure Sg where
 dom:List (Bool×Ty)
 cod:List (Bool×Ty)
 fn:AP dom->Option (AP cod)
abbrev EF:=FuncId->Option (Option Sg)
def EZ:(l:List (Bool×Ty))->AP l->List V
 |[],_=>[]
 |[p],x=>[elP p.1 p.2 x]
 |p::q::r,x=>elP p.1 p.2 x.1::EZ (q::r) x.2
def Qb:(l:List (Bool×Ty))->AP l->V
 |[],_=>.tup []
 |[(zf,.sl g c)],x=>.lf zf g c x
 |[p],x=>elP p.1 p.2 x
 |p::q::r,x=>.tup (EZ (p::q::r) x)
inductive Cv where
 |p|m|f|i
def Cv.v:Cv->V
 |.p=>.nilp
 |.m=>.nilm
 |.f=>.nilf
 |.i=>.nili
def R3:Cv->V->Bool
 |.p,v=>match v with
  |.nilp=>zt
  |_=>zf
 |.m,v=>match v with
  |.nilm=>zt
  |_=>zf
 |.f,v=>match v with
  |.nilf=>zt
  |_=>zf
 |.i,v=>match v with
  |.nili=>zt
  |_=>zf
inductive Sgm where
 |lf (c:Ty)
 |ow (g:Bool) (c:Ty) (ex:Bool)
 |kp (id:Nat)
 |cn (c:Cv)
 |er (t n tF:Nat) (k:IntKind)
 |ek (t n:Nat)
 |ef (tF:Nat) (k:IntKind)
@[reducible] def Sgm.den:Sgm->Type
 |.lf c=>c.den
 |.ow _ c _=>List c.den
 |.kp _=>Unit
 |.cn _=>Unit
 |.er _ _ _ _=>Int×Int
 |.ek _ _=>Unit
 |.ef _ _=>Int
@[reducible] def DT:List Sgm->Type
 |[]=>Unit
 |[p]=>p.den
 |p::q::r=>p.den×DT (q::r)
inductive Pl where
 |slot (k:Nat) (g:Bool) (c:Ty)
 |srow (k:Nat) (g:Bool) (c:Ty) (ex:Bool)
 |swin (k:Nat) (g:Bool) (c:Ty)
 |cn (k:Nat) (c:Cv)
 |box (id:Nat) (sg:List Sgm)
 |map (id:Nat) (k:Ty) (g:Bool) (c:Ty)
@[reducible] def Pl.den:Pl->Type
 |.slot _ _ c=>c.den
 |.srow _ _ c _=>List c.den
 |.swin _ _ c=>List c.den×Nat
 |.cn _ _=>Unit
 |.box _ sg=>DT sg
 |.map _ k _ c=>List (k.den×c.den)
@[reducible] def Ar:List Pl->Type
 |[]=>Unit
 |[p]=>p.den
 |p::q::r=>p.den×Ar (q::r)
inductive ExK where
 |exit (id:Nat)
 |ret
 |pan (t:TypeId) (g:Bool) (c:Ty)
structure Tm where
 keep:List Nat
 kb:List Nat
 pl:List Pl
 ex:List (ExK×List (Nat×Nat×Option Code))
 pay:Ty
 plx:List Pl:=pl
 rel:List (Nat×Nat):=[]
 relS:List Nat:=[]
structure Jn where
 keep:List Nat
 kb:List Nat
 pl0:List Pl
 pl1:List Pl
 ex:List (ExK×List (Nat×Nat×Option Code))
 pay:Ty
inductive An where
 |loop (tm:Tm)
 |join (j:Jn)
abbrev H3:=FuncId->Nat->Nat->Option An
section
variable{β:Type}
def Bu(h:H):(l:List (Bool×Ty))->List V->(AP l->Option β)->Option β
 |[],vs,K=>match vs with
  |[]=>K ()
  |_=>zn
 |[p],vs,K=>match vs with
  |[v]=>GN h p.1 p.2 v K
  |_=>zn
 |p::q::r,vs,K=>match vs with
  |v::vs=>GN h p.1 p.2 v λx=>Bu h (q::r) vs λy=>K (x,y)
  |_=>zn
def FX:List V->List Nat
 |[]=>[]
 |.ow id::l=>id::FX l
 |.own id _ _::l=>id::FX l
 |_::l=>FX l
def DN(l:List V):List Nat:=l.flatMap λv=>FX v.cells
def B3:List (Bool×Ty)->Bool
 |[]=>zf
 |p::l=>p.2.hasSl||B3 l
def Ty.leaf:Ty->Bool
 |.unit | .pair _ _=>zf
 |_=>zt
def Co(l:List (Bool×Ty)):Bool:=l.all λp=>ah p.2.depth 4&&(p.1||p.2.leaf)
def DW(h:H)(sg:Sg)(args:List V)(K:V->H->Option β):Option β:=
 bif !Co sg.dom || !Co sg.cod then zn else Bu h sg.dom args λx=>CV (bif B3 sg.cod then B9 h (DN args)else zo h) λh=>bd (sg.fn x) λy=>K (Qb sg.cod y) h
def K8(h:H)(id:Nat):(sg:Sg)->List V->(V->H->Option β)->Option β
 |⟨dom,[(zf,.sl g c)],a⟩,args,K=>bif !Co dom || !ah c.depth 3 then zn else Bu h dom args λx=>CV (bif c.hasSl then B9 h (DN args)else zo h) λh=>bd (a x) λy=>K (.ow id) (AG h id (.row g c y zf zf zf))
 |_,_,_=>zn
def Ct:Nat:=1048576
def Cu:Nat:=2097152
def Rm(f:Nat):Nat:=bif af f Ct then f else f-Ct
def getD(a:EF)(f:FuncId):Option Sg:=bif af f Ct then(match a f with
 |some r=>r
 |none=>match a (f+Ct)with
  |some r=>r
  |none=>zn)else zn
def getR(a:EF)(f:FuncId):Option Sg:=bif af f Ct then(match a (f+Cu)with
 |some r=>r
 |none=>zn)else zn
def Ih:Nat:=3145728
def SU:Bool×Ty->Bool
 |(zt,.pair _ .unit)=>zt
 |_=>zf
def getP(a:EF)(f:FuncId):Option Sg:=bif af f Ct then(match a (f+Ih)with
 |some r=>r
 |none=>zn)else zn
def Ms:Nat:=4194304
def getL(a:EF)(f:FuncId):Option Sg:=bif af f Ct then(match a (f+Ms)with
 |some r=>r
 |none=>zn)else zn
def En(h:H):List (Bool×Ty)->List V->Option (List V×List Nat)
 |p::l,v::vs=>match En h l vs with
  |some a=>bif SU p then(match v with
    |.ptr j off=>(match h.get j with
     |some (.box cs _ _)=>bif af off cs.length then zo (.agg (cs.drop off)::a.1,j::a.2)else zn
     |_=>zn)
    |_=>zn)else zo (v::a.1,a.2)
  |none=>zn
 |_,vs=>zo (vs,[])
def Sa:V->V
 |.agg cs=>.pv cs
 |v=>v
def Qc:List (Bool×Ty)->List V->List V
 |p::l,v::vs=>(bif SU p then Sa v else v)::Qc l vs
 |_,vs=>vs
inductive TgA where
 |fn (f:FuncId)
 |yl (id:Nat)
abbrev H4:=(β:Type)->TgA->Option UMA->List V->H->Nat->(OutA->Option UMA->H->Nat->Option β)->Option β
abbrev KA(β:Type):=ExA->FrA->H->Nat->Option β
def HL(fr:FrA)(a:Option Nat)(v:V)(K:FrA->Option β):Option β:=match a with
 |none=>K fr
 |some d=>bif af d fr.nt then K { fr with t:=T.put 20 fr.t d v }else zn
def KD(ops:List Oper)(t:T V)(g:Option (Nat×Bool))(a c:T V->Option β):Option β:=match g with
 |none=>a t
 |some (j,want)=>match lget ops j with
  |some o=>match o.dst with
   |some d=>match t.get d with
    |some (.bool b)=>br b (λ_=>bif want then a (T.put 20 t d (.bool zt))else c (T.put 20 t d (.bool zt))) (λ_=>bif want then c (T.put 20 t d (.bool zf))else a (T.put 20 t d (.bool zf)))
    |some (.tup [])=>c t
    |_=>zn
   |none=>zn
  |none=>zn
def Bj(P:Program)(a:EF)(rec:H4)(base:Nat)(ops:List Oper):List (Nat×Oper)->FrA->H->Nat->KA β->Option β
 |[],fr,h,nx,K=>K .normal fr h nx
 |(i,o)::r,fr,h,nx,K=>KD ops fr.t o.guard
  (λt=>TD P t h (base+i) o fun
   |.val v h=>HL { fr with t } o.dst v λfr=>Bj P a rec base ops r fr h nx K
   |.skip h=>HL { fr with t } o.dst (.tup []) λfr=>Bj P a rec base ops r fr h nx K
   |.dfr d=>match fr.ro with
    |none=>HL { fr with t,ds:=d::fr.ds } o.dst (.tup []) λfr=>Bj P a rec base ops r fr h nx K
    |some _=>zn
   |.call f args=>match a f with
    |some zn=>zn
    |some (zo sg)=>bif !af f Ct then zn else(match getR a f with
     |some sg=>K8 h (base+i) sg args λv h=>HL { fr with t } o.dst v λfr=>Bj P a rec base ops r fr h nx K
     |none=>DW h sg args λv h=>HL { fr with t } o.dst v λfr=>Bj P a rec base ops r fr h nx K)
    |none=>rec β (.fn f) zn args h nx λo' _ h nx=>match o' with
     |.ret v=>HL { fr with t } o.dst v λfr=>Bj P a rec base ops r fr h nx K
     |.pan [{ v,recovered:=zf }]=>K (.panic v) { fr with t } h nx
     |_=>zn
   |.yield l args=>rec β (.yl l) zn args h nx λo' _ h nx=>match o' with
     |.ret v=>HL { fr with t } o.dst v λfr=>Bj P a rec base ops r fr h nx K
     |_=>zn
   |.pan v=>K (.panic v) { fr with t } h nx
   |.rcv=>match fr.ro with
    |some _=>zn
    |none=>match fr.up with
     |some (.pan ({ v,recovered:=zf }::older))=>HL { fr with t,up:=zo (.pan ({ v,recovered:=zt }::older)) } o.dst v λfr=>Bj P a rec base ops r fr h nx K
     |_=>HL { fr with t } o.dst .nili λfr=>Bj P a rec base ops r fr h nx K)
  (λt=>HL { fr with t } o.dst (.tup []) λfr=>Bj P a rec base ops r fr h nx K)
def AO:Op->Nat
 |.move _ | .assign _ | .pick _ _ _ | .build _ _ | .nilCheck _ | .binOp _ _ _ _ _ | .unOp _ _ _ | .convert _ _ _ | .makeInterface _ _ | .makeFunc _ _ _ | .fieldAddr _ _ _ | .field _ _ _ | .index _ _ _ | .typeAssert _ _ _ _ | .extract _ _=>0
 |.load _ _ | .indexAddr _ _ _=>1
 |.slice _ _ lo hi zn=>bif lo.isNone&&hi.isNone then 4 else 1
 |.slice _ _ _ _ (zo _)=>4
 |.call c=>match c.callee with
  |.builtin b=>match b with
   |.len | .cap | .max | .min=>1
   |.append | .copy=>4
   |_=>9
  |_=>9
 |.buildSlice _ _ _=>4
 |.alloc _ | .box _ _ | .makeMap _ zn | .makeSlice _ _ _=>2
 |.store _ _ _=>3
 |_=>9
def Gc(h:H)(id:Nat):Bool:=match h.get id with
 |some .dead=>zf
 |some _=>zt
 |none=>zf
def Rf(h:H):V->Bool
 |.ow id | .own id _ _ | .ptr id _ | .ept id _ _ | .aptr id _ _ _ | .mp id=>Gc h id
 |_=>zt
def Ge(h:H)(t:T V):List Operand->Bool
 |[]=>zt
 |.tmp k::l=>(match t.get k with
  |some v=>Rf h v
  |none=>zf)&&Ge h t l
 |_::l=>Ge h t l
def NW(t:T V):List Operand->Option (List Nat×Bool)
 |[]=>zo ([],zf)
 |.tmp k::l=>match t.get k with
  |some (.ow id)|some (.own id _ _)|some (.ptr id _)|some (.ept id _ _)|some (.aptr id _ _ _)|some (.mp id)=>(NW t l).map λa=>(id::a.1,a.2)
  |some (.lf _ _ _ _)|some (.view _)=>(NW t l).map λa=>(a.1,zt)
  |some _=>NW t l
  |none=>zn
 |_::l=>NW t l
def Sk(f:V->Option (List Nat×Bool)):List V->Option (List Nat×Bool)
 |[]=>zo ([],zf)
 |v::vs=>match f v,Sk f vs with
  |some a,zo b=>zo (a.1++b.1,a.2||b.2)
  |_,_=>zn
def QN(h:H)(id:Nat):Bool:=match h.get id with
 |some (.row _ c _ _ _ _)=>c.hasSl
 |_=>zt
def Sn(h:H):Nat->V->Option (List Nat×Bool)
 |0,_=>zn
 |n+1,v=>match v with
  |.bool _ | .int _ _ | .str _ | .nils | .pl _ _ _ | .exl _ _=>zo ([],zf)
  |.lf _ _ _ _=>zo ([],zt)
  |.ow id | .own id _ _=>bif Gc h id then zo ([id],QN h id)else zn
  |.ptr id off=>(match h.get id with
   |some (.box cs _ _)=>bif (cs.drop off).all IV then zo ([id],zf)else zn
   |_=>zn)
  |.agg cs=>Sk (Sn h n) cs
  |_=>zn
def Qh(h:H)(t:T V):List Operand->Option (List Nat×Bool)
 |[]=>zo ([],zf)
 |.tmp k::l=>match t.get k with
  |some v=>(match Sn h 6 v,Qh h t l with
   |some a,zo b=>zo (a.1++b.1,a.2||b.2)
   |_,_=>zn)
  |none=>zn
 |_::l=>Qh h t l
def Qy(t:T V):List Operand->Option (List Nat×Bool)
 |[]=>zo ([],zf)
 |.tmp k::l=>match t.get k with
  |some (.mp id)=>(Qy t l).map λa=>(id::a.1,a.2)
  |some _=>Qy t l
  |none=>zn
 |_::l=>Qy t l
def BL(h:H)(l:List V):Option (List Nat×Bool):=Sk (Sn h 6) l
def Sj(js:List Nat)(o:Option (List Nat×Bool)):Option (List Nat×Bool):=o.map λa=>(js++a.1,a.2)
def QC(t:T V):Op->Bool
 |.slice _ (.tmp k) _ _ (zo _)=>match t.get k with
  |some (.pl _ _ _)|some .nils=>zt
  |_=>zf
 |.slice _ _ _ _ (zo _)=>zf
 |.slice _ x zn zn zn=>match x with
  |.tmp k=>(match t.get k with
   |some (.ptr _ _)=>zt
   |_=>zf)
  |_=>zf
 |_=>zt
def fp(h:H)(t:T V)(o:Op):Option (List Nat×Bool):=match o with
 |.load _ _ | .indexAddr _ _ _ | .store _ _ _=>NW t (Pi.Aw o)
 |.slice _ x lo hi zn=>bif lo.isNone&&hi.isNone then Qh h t [x]else NW t (Pi.Aw o)
 |.slice _ x _ _ (zo _)=>Qh h t [x]
 |.buildSlice _ _ parts=>Qh h t (parts.toList.map (·.2))
 |.call c=>match c.callee with
  |.builtin b=>(match b with
   |.len=>Qy t c.args.toList
   |.cap | .max | .min | .append | .copy=>NW t c.args.toList
   |_=>zn)
  |_=>zn
 |.alloc _ | .box _ _ | .makeMap _ zn | .makeSlice _ _ _=>zo ([],zf)
 |_=>zn
def JP(v:V):Option (List Nat×Bool)->Option (List Nat×Bool)
 |some a=>match v with
  |.ow id | .own id _ _ | .ptr id _ | .ept id _ _ | .aptr id _ _ _ | .mp id=>zo (id::a.1,a.2)
  |.lf _ _ _ _ | .view _=>zo (a.1,zt)
  |_=>zo a
 |none=>zn
def Ln:List (Bool×Ty)->Bool
 |[(zf,.sl _ _)]=>zt
 |_=>zf
def LW(h:H):List Nat->Bool
 |[]=>zt
 |j::l=>Gc h j&&LW h l
def Ls(h:H):List Nat->Bool
 |[]=>zt
 |j::l=>(h.get j).isSome&&Ls h l
def Sl(h:H):Option (List Nat×Bool)->Option (List Nat×Bool)->Bool
 |some a,zo b=> !Pi.Ca a.1 b.1&&(!(a.2&&b.2)&&(LW h a.1&&Ls h b.1))
 |_,_=>zf
def DS(h:H)(a c:Nat)(f:Option (List Nat×Bool)):List (Nat×Nat×Option (List Nat×Bool))->Bool
 |[]=>zt
 |(j,d,g)::l=>(Pi.Fm a j||(aa c 0||(aa c 2||(aa d 0||(aa c 1&&aa d 1||Sl h f g)))))&&DS h a c f l
def CL:Op->Bool
 |.call c=>match c.callee with
  |.builtin _=>zf
  |_=>zt
 |_=>zf
def Ho(t:T V)(nt:Nat)(a:Option Nat)(v:V)(K:T V->Option β):Option β:=match a with
 |some d=>bif af d nt then K (T.put 20 t d v)else zn
 |none=>K t
def BO(P:Program)(b:EF)(base nt:Nat)(ops:List Oper):Nat->List Oper->List Pi.Mk->List (Nat×Nat×Option (List Nat×Bool))->T V->H->(T V->H->Option β)->Option β
 |i,o::l,m::ms,past,t,h,K=>KD ops t o.guard
  (λt=>bif !Pi.As o.op then zn else
   TD P t h (base+i) o fun
    |.val v c=>bif (ah (AO o.op) 2||aa (AO o.op) 4)&&(QC t o.op&&(Ge h t (Pi.Aw o.op)&&DS h m.bef (AO o.op) (fp h t o.op) past))then Ho t nt o.dst v λd=>BO P b base nt ops (i+1) l ms ((i,AO o.op,bif ah (AO o.op) 1 then fp h t o.op else JP v (fp h t o.op))::past) d c K else zn
    |.skip c=>bif aa (AO o.op) 3&&(Ge h t (Pi.Aw o.op)&&DS h m.bef 3 (fp h t o.op) past)then Ho t nt o.dst (.tup []) λd=>BO P b base nt ops (i+1) l ms ((i,3,fp h t o.op)::past) d c K else zn
    |.call f args=>match getR b f with
     |some sg=>bif !CL o.op || !DS h m.bef 4 (BL h args) past then zn else K8 h (base+i) sg args λv c=>Ho t nt o.dst v λt=>BO P b base nt ops (i+1) l ms ((i,4,JP v (BL h args))::past) t c K
     |none=>match getL b f with
     |some sg=>bif !CL o.op then zn else bif !DS h m.bef 4 (BL h args) past then zn else DW h sg args λv c=>Ho t nt o.dst v λt=>BO P b base nt ops (i+1) l ms ((i,4,BL h args)::past) t c K
     |none=>match getD b f with
      |some sg=>bif !CL o.op then zn else bif B3 sg.cod then
        (bif !DS h m.bef 4 (BL h args) past then zn else DW h sg args λv c=>Ho t nt o.dst v λt=>BO P b base nt ops (i+1) l ms ((i,4,bif Ln sg.cod then JP v (BL h args)else BL h args)::past) t c K)
       else bif !DS h m.bef 1 (BL h args) past then zn else DW h sg args λv c=>Ho t nt o.dst v λt=>BO P b base nt ops (i+1) l ms ((i,1,BL h args)::past) t c K
      |none=>match getP b f with
       |some sg=>bif !CL o.op||B3 sg.cod then zn else CV (En h sg.dom args) λa=>bif !DS h m.bef 1 (Sj a.2 (BL h a.1)) past then zn else DW h sg a.1 λv c=>Ho t nt o.dst v λt=>BO P b base nt ops (i+1) l ms ((i,1,Sj a.2 (BL h a.1))::past) t c K
       |none=>zn
    |_=>zn)
  (λt=>Ho t nt o.dst (.tup []) λt=>BO P b base nt ops (i+1) l ms past t h K)
 |_,[],_,_,t,h,K=>K t h
 |_,_,_,_,_,_,_=>zn
def MU(P:Program)(a:EF)(base:Nat)(ops:List Oper)(fr:FrA)(h:H)(K:FrA->H->Option β):Option β:=
 CV (Pi.FM ops 0 ops []) λb=>BO P a base fr.nt ops 0 ops b [] fr.t h λt h=>K { fr with t } h
end
def BA.locked:BA->Bool
 |.box _ _ lk=>lk
 |.row _ _ _ _ _ lk=>lk
 |.mp _ _ _ _ lk=>lk
 |_=>zf
def BT(t:T V):List Nat->T V
 |[]=>.lf
 |k::l=>match t.get k with
  |some v=>T.put 20 (BT t l) k v
  |none=>BT t l
def DO:BA->BA
 |.box cs fz _=>.box cs fz zt
 |.row g c l ex fz _=>.row g c l ex fz zt
 |.mp k g c l _=>.mp k g c l zt
 |b=>b
def BS(h:H)(f:BA->BA):List Nat->H
 |[]=>.lf
 |k::l=>match h.get k with
  |some .dead=>BS h f l
  |some b=>T.put 20 (BS h f l) k (f b)
  |none=>BS h f l
section
variable{β:Type}
def Lz(h:H)(g:Bool)(c:Ty)(ex:Bool)(v:V)(K:List c.den->Option β):Option β:=match v with
 |.nils=>bif ex then zn else K []
 |.ow id=>match h.get id with
  |some (.row g' _ l ex' zf zf)=>bif g == g'&&ex == ex' then DY l K else zn
  |_=>zn
 |_=>zn
def Pj(t n:Nat):V->Bool
 |.ifc a v=>match v with
  |.gk m=>aa a t&&aa m n
  |_=>zf
 |_=>zf
def PP(a:Nat)(k:IntKind)(v:V)(K:Int->Option β):Option β:=match v with
 |.ifc t' (.agg [.int k' e])=>bif aa t' a&&k' == k then K e else zn
 |_=>zn
def Qv(t n a:Nat)(k:IntKind)(v:V)(K:Int×Int->Option β):Option β:=bif R3 .i v then K (0,0)else bif Pj t n v then K (1,0)else PP a k v λe=>K (2,e)
def Bg(h:H):(l:List Sgm)->List V->(DT l->Option β)->Option β
 |[],cs,K=>match cs with
  |[]=>K ()
  |_=>zn
 |[.lf c],cs,K=>Dw .lf c cs λx r=>match r with
  |[]=>K x
  |_=>zn
 |[.ow g c ex],cs,K=>match cs with
  |[v]=>Lz h g c ex v K
  |_=>zn
 |.lf c::q::r,cs,K=>Dw .lf c cs λx cs=>Bg h (q::r) cs λy=>K (x,y)
 |.ow g c ex::q::r,cs,K=>match cs with
  |v::cs=>Lz h g c ex v λx=>Bg h (q::r) cs λy=>K (x,y)
  |_=>zn
 |[.kp id],cs,K=>match cs with
  |[.ow j]=>bif aa j id then K ()else zn
  |_=>zn
 |.kp id::q::r,cs,K=>match cs with
  |.ow j::cs=>bif aa j id then Bg h (q::r) cs λy=>K ((),y)else zn
  |_=>zn
 |[.cn c],cs,K=>match cs with
  |[v]=>bif R3 c v then K ()else zn
  |_=>zn
 |.cn c::q::r,cs,K=>match cs with
  |v::cs=>bif R3 c v then Bg h (q::r) cs λy=>K ((),y)else zn
  |_=>zn
 |[.er t n tF k],cs,K=>match cs with
  |[v]=>Qv t n tF k v K
  |_=>zn
 |.er t n tF k::q::r,cs,K=>match cs with
  |v::cs=>Qv t n tF k v λx=>Bg h (q::r) cs λy=>K (x,y)
  |_=>zn
 |[.ek t n],cs,K=>match cs with
  |[v]=>bif Pj t n v then K ()else zn
  |_=>zn
 |.ek t n::q::r,cs,K=>match cs with
  |v::cs=>bif Pj t n v then Bg h (q::r) cs λy=>K ((),y)else zn
  |_=>zn
 |[.ef tF k],cs,K=>match cs with
  |[v]=>PP tF k v K
  |_=>zn
 |.ef tF k::q::r,cs,K=>match cs with
  |v::cs=>PP tF k v λx=>Bg h (q::r) cs λy=>K (x,y)
  |_=>zn
def Qe(h:H)(g:Bool)(c:Ty)(v:V)(K:List c.den×Nat->Option β):Option β:=match v with
 |.own j off len=>match h.get j with
  |some (.row g' _ l zt zf zf)=>bif g == g'&&aa off 0 then DY l λl=>K (l,len)else zn
  |_=>zn
 |_=>zn
def GP(t:T V)(h:H):(p:Pl)->(p.den->Option β)->Option β
 |.slot k g c,K=>CV (t.get k) λv=>GN .lf g c v K
 |.srow k g c ex,K=>CV (t.get k) λv=>Lz h g c ex v K
 |.swin k g c,K=>CV (t.get k) λv=>Qe h g c v K
 |.cn k c,K=>CV (t.get k) λv=>bif R3 c v then K ()else zn
 |.box id sg,K=>match h.get id with
  |some (.box cs zf zf)=>Bg h sg cs K
  |_=>zn
 |.map id k g c,K=>match h.get id with
  |some (.mp _ g' _ l zf)=>bif g == g' then Rc l K else zn
  |_=>zn
def Cc(t:T V)(h:H):(l:List Pl)->(Ar l->Option β)->Option β
 |[],K=>K ()
 |[p],K=>GP t h p K
 |p::q::r,K=>GP t h p λx=>Cc t h (q::r) λy=>K (x,y)
end
def Rw(t n a:Nat)(k:IntKind)(x:Int×Int):V:=if x.1=0 then .nili else if x.1=1 then .ifc t (.gk n)else .ifc a (.agg [.int k x.2])
def A4(h:H)(nx:Nat):(l:List Sgm)->DT l->List V×H×Nat
 |[],_=>([],h,nx)
 |[.lf c],x=>(cells c x,h,nx)
 |[.ow g c ex],l=>([.ow nx],AG h nx (.row g c l ex zf zf),nx+1)
 |.lf c::q::r,x=>match A4 h nx (q::r) x.2 with
  |(cs,h,nx)=>(cells c x.1++cs,h,nx)
 |.ow g c ex::q::r,x=>match A4 (AG h nx (.row g c x.1 ex zf zf)) (nx+1) (q::r) x.2 with
  |(cs,h,n')=>(.ow nx::cs,h,n')
 |[.kp id],_=>([.ow id],h,nx)
 |.kp id::q::r,x=>match A4 h nx (q::r) x.2 with
  |(cs,h,n')=>(.ow id::cs,h,n')
 |[.cn c],_=>([c.v],h,nx)
 |.cn c::q::r,x=>match A4 h nx (q::r) x.2 with
  |(cs,h,n')=>(c.v::cs,h,n')
 |[.er t n tF k],x=>([Rw t n tF k x],h,nx)
 |.er t n tF k::q::r,x=>match A4 h nx (q::r) x.2 with
  |(cs,h,n')=>(Rw t n tF k x.1::cs,h,n')
 |[.ek t n],_=>([.ifc t (.gk n)],h,nx)
 |.ek t n::q::r,x=>match A4 h nx (q::r) x.2 with
  |(cs,h,n')=>(.ifc t (.gk n)::cs,h,n')
 |[.ef tF k],x=>([.ifc tF (.agg [.int k x])],h,nx)
 |.ef tF k::q::r,x=>match A4 h nx (q::r) x.2 with
  |(cs,h,n')=>(.ifc tF (.agg [.int k x.1])::cs,h,n')
def Bh(t:T V)(h:H)(nx:Nat):(p:Pl)->p.den->T V×H×Nat
 |.slot k g c,x=>(T.put 20 t k (OM g c x),h,nx)
 |.srow k g c ex,l=>(T.put 20 t k (.ow nx),AG h nx (.row g c l ex zf zf),nx+1)
 |.swin k g c,x=>(T.put 20 t k (.own nx 0 x.2),AG h nx (.row g c x.1 zt zf zf),nx+1)
 |.cn k c,_=>(T.put 20 t k c.v,h,nx)
 |.box id sg,x=>match A4 h nx sg x with
  |(cs,h,nx)=>(t,AG h id (.box cs zf zf),nx)
 |.map id k g c,l=>(t,AG h id (.mp k g c l zf),nx)
def Ab(t:T V)(h:H)(nx:Nat):(l:List Pl)->Ar l->T V×H×Nat
 |[],_=>(t,h,nx)
 |[p],x=>Bh t h nx p x
 |p::q::r,x=>match Bh t h nx p x.1 with
  |(t,h,nx)=>Ab t h nx (q::r) x.2
def AW:List Pl->List Nat
 |[]=>[]
 |.box id _::l | .map id _ _ _::l=>id::AW l
 |_::l=>AW l
def Qd:V->List Nat
 |.own id _ _=>[id]
 |_=>[]
def B2:V->List Nat
 |.ow id=>[id]
 |_=>[]
def Aq:List Sgm->List V->List Nat
 |[],_=>[]
 |.lf c::r,cs=>Aq r (cs.drop c.wd)
 |.ow _ _ _::r,cs=>(match cs with
  |v::_=>B2 v
  |[]=>[])++Aq r (cs.drop 1)
 |.kp _::r,cs=>Aq r (cs.drop 1)
 |.cn _::r,cs=>Aq r (cs.drop 1)
 |.er _ _ _ _::r,cs | .ek _ _::r,cs | .ef _ _::r,cs=>Aq r (cs.drop 1)
def A1(t:T V)(h:H):List Pl->List Nat
 |[]=>[]
 |.slot _ _ _::l=>A1 t h l
 |.cn _ _::l=>A1 t h l
 |.map id _ _ _::l=>id::A1 t h l
 |.srow k _ _ _::l=>(match t.get k with
  |some v=>B2 v
  |none=>[])++A1 t h l
 |.swin k _ _::l=>(match t.get k with
  |some v=>Qd v
  |none=>[])++A1 t h l
 |.box id sg::l=>(match h.get id with
  |some (.box cs _ _)=>Aq sg cs
  |_=>[])++id::A1 t h l
def Bb:List Nat->Bool
 |[]=>zt
 |a::l=> !l.any (aa a)&&Bb l
def Hd(nx:Nat):List Sgm->Bool
 |[]=>zt
 |.kp id::l=>af id nx&&Hd nx l
 |.lf _::l | .ow _ _ _::l=>Hd nx l
 |.cn _::l | .er _ _ _ _::l | .ek _ _::l | .ef _ _::l=>Hd nx l
def Al(nt nx:Nat):List Pl->Bool
 |[]=>zt
 |.slot k _ _::l | .srow k _ _ _::l | .swin k _ _::l=>af k nt&&Al nt nx l
 |.box _ sg::l=>Hd nx sg&&Al nt nx l
 |.map _ _ _ _::l=>Al nt nx l
 |.cn k _::l=>af k nt&&Al nt nx l
def C3(h:H)(n:Nat)(l:List Nat):List Nat:=l++(bT n).filter λi=>(match h.get i with
 |some c=>c.locked
 |none=>zf) && !l.any (aa i)
def CQ:Code->Option Nat
 |.region id _ _=>zo id
 |.seq a b=>match CQ a with
  |some i=>zo i
  |none=>CQ b
 |.cond _ a b=>match CQ a with
  |some i=>zo i
  |none=>CQ b
 |.block _ b | .loop b | .scope b=>CQ b
 |.rangeFunc _ _ a b=>match CQ a with
  |some i=>zo i
  |none=>CQ b
 |_=>zn
def Dg:Code->Option Nat
 |.region id _ _=>zo id
 |.seq a b=>match Dg b with
  |some i=>zo i
  |none=>Dg a
 |.cond _ a b=>match Dg b with
  |some i=>zo i
  |none=>Dg a
 |.block _ b | .loop b | .scope b=>Dg b
 |.rangeFunc _ _ a b=>match Dg b with
  |some i=>zo i
  |none=>Dg a
 |_=>zn
def SF(x:Code):Nat:=match CQ x,Dg x with
 |some i,zo k=>1000000+(i*1000+k)
 |_,_=>0
def Bz:Code->List Nat
 |.region _ ops _=>ops.toList.filterMap (·.dst)
 |.seq a b | .cond _ a b=>Bz a++Bz b
 |.block _ b | .loop b | .scope b=>Bz b
 |_=>[]
def HW(h:H):List Nat->Bool
 |[]=>zt
 |id::l=>(match h.get id with
  |some (.df (zo []))=>zt
  |some (.df _)=>zf
  |_=>zt)&&HW h l
def GQ(h:H):List Nat->List Nat
 |[]=>[]
 |id::l=>match h.get id with
  |some (.df _)=>id::GQ h l
  |_=>GQ h l
def Fs(h:H):List Nat->Bool
 |[]=>zt
 |id::l=>(match h.get id with
  |some (.df (zo []))=>zt
  |_=>zf)&&Fs h l
def Fg(h:H):List (Nat×Nat×Option Code)->Bool
 |[]=>zt
 |(id,st,pd)::l=>(match h.get id with
  |some (.lp st' pd' _ _ _ _ _ _)=>aa st st'&&(match pd,pd' with
   |none,zn=>zt
   |some .ret,zo .ret=>zt
   |some (.exit i),zo (.exit j)=>aa i j
   |some (.goto i),zo (.goto j)=>aa i j
   |_,_=>zf)
  |_=>zf)&&Fg h l
def CT(h:H):List (Nat×Nat×Option Code)->H
 |[]=>h
 |(id,st,pd)::l=>match h.get id with
  |some (.lp _ _ nt t ps asg body d)=>AG (CT h l) id (.lp st pd nt t ps asg body d)
  |_=>CT h l
def Bc(h:H):List Nat->List (Nat×Nat×Option Code)
 |[]=>[]
 |id::l=>match h.get id with
  |some (.lp st pd _ _ _ _ _ _)=>(id,st,pd)::Bc h l
  |_=>Bc h l
section
variable{β:Type}
def RT(h:H)(n:Nat)(v:V)(K:V->H->Option β):Option β:=match v with
 |.ow j=>match h.get j with
  |some (.row g c l _ _ zf)=>K (.lf zf g c l) (BS h (λb=>b) ((bT n).filter λi=> !aa i j))
  |_=>zn
 |.own j off len=>match h.get j with
  |some (.row g c l _ _ zf)=>gd (CI (BG off len) (AR l)) λ_=>K (.lf zf g c (D6 l off (BG off len))) (BS h (λb=>b) ((bT n).filter λi=> !aa i j))
  |_=>zn
 |_=>zn
def RR(n:Nat):List (Nat×Nat)->H->(H->Option β)->Option β
 |[],h,K=>K h
 |(b,i)::r,h,K=>match h.get b with
  |some (.box cs fz zf)=>CV (lget cs i) λv=>RT h n v λa h'=>RR n r (AG h' b (.box (Pi.lset cs i a) fz zf)) K
  |_=>zn
def RS(n:Nat):List Nat->FrA->H->(FrA->H->Option β)->Option β
 |[],fr,h,K=>K fr h
 |k::r,fr,h,K=>bif af k 1048575 then CV (fr.t.get k) λv=>RT h n v λa h'=>RS n r { fr with t:=T.put 20 fr.t k a } h' K else zn
def Si(h:H)(ex:ExA)(pay:Ty):ExK->(pay.den->Option β)->Option β
 |.exit i,K=>match ex with
  |.exit j=>bif aa i j then K (OA pay)else zn
  |_=>zn
 |.ret,K=>match ex with
  |.ret=>K (OA pay)
  |_=>zn
 |.pan t g c,K=>match ex with
  |.panic (.ifc t' v)=>bif aa t t' then(if e:c=pay then GN .lf g c v λx=>K (e ▸ x)else zn)else zn
  |_=>zn
def Sr(ex:ExA):ExK->Bool
 |.exit i=>match ex with
  |.exit j=>aa i j
  |_=>zf
 |.ret=>match ex with
  |.ret=>zt
  |_=>zf
 |.pan t _ _=>match ex with
  |.panic (.ifc t' _)=>aa t t'
  |_=>zf
def G6(h:H)(a:List Nat)(ex:ExA)(pay:Ty):Nat->List (ExK×List (Nat×Nat×Option Code))->(Nat->pay.den->Option β)->Option β
 |_,[],_=>zn
 |i,(k,lp)::l,K=>bif Sr ex k&&(Fg h lp&&(lp.map (·.1)) == a)then Si h ex pay k (K i)else G6 h a ex pay (i+1) l K
def J3(pay:Ty)(x:pay.den):ExK->ExA
 |.exit i=>.exit i
 |.ret=>.ret
 |.pan t g c=>if e:c=pay then .panic (.ifc t (OM g c (e ▸ x)))else .normal
def L1(pay:Ty)(x:pay.den)(n:Nat):Nat->List (ExK×List (Nat×Nat×Option Code))->(ExA->List (Nat×Nat×Option Code)->Option β)->Option β
 |_,[],_=>zn
 |_,[(k,lp)],K=>K (J3 pay x k) lp
 |i,(k,lp)::e::l,K=>br (neq n i) (λ_=>K (J3 pay x k) lp) λ_=>L1 pay x n (i+1) (e::l) K
end
def SG(p:Sgm)(x:p.den):(l:List Sgm)->DT l->DT (p::l)
 |[],_=>x
 |_::_,y=>(x,y)
def R9(p:Pl)(x:p.den):(l:List Pl)->Ar l->Ar (p::l)
 |[],_=>x
 |_::_,y=>(x,y)
section
variable{β:Type}
def Nr:(p:Sgm)->p.den->((a:Sgm)->a.den->Option β)->Option β
 |.er t n tF k,x,K=>br (O3 x.1 0) (λ_=>K (.cn .i) ()) λ_=>br (O3 x.1 1) (λ_=>K (.ek t n) ()) λ_=>K (.ef tF k) x.2
 |p,x,K=>K p x
def Mv:(l:List Sgm)->DT l->((l':List Sgm)->DT l'->Option β)->Option β
 |[],x,K=>K [] x
 |[p],x,K=>Nr p x λa b=>K [a] b
 |p::q::r,x,K=>Nr p x.1 λa b=>Mv (q::r) x.2 λl' y=>K (a::l') (SG a b l' y)
def P8:(p:Pl)->p.den->((b:Pl)->b.den->Option β)->Option β
 |.box id sg,x,K=>Mv sg x λa c=>K (.box id a) c
 |p,x,K=>K p x
def Mt:(l:List Pl)->Ar l->((l':List Pl)->Ar l'->Option β)->Option β
 |[],x,K=>K [] x
 |[p],x,K=>P8 p x λa b=>K [a] b
 |p::q::r,x,K=>P8 p x.1 λa b=>Mt (q::r) x.2 λl' y=>K (a::l') (R9 a b l' y)
def Pe:List Pl->Bool
 |[]=>zf
 |.box _ sg::l=>sg.any (fun | .er _ _ _ _=>zt|_=>zf)||Pe l
 |_::l=>Pe l
def P9(l:List Pl)(x:Ar l)(K:(l':List Pl)->Ar l'->Option β):Option β:=bif Pe l then Mt l x K else K l x
end
def Gt:Nat->List V->T V->T V
 |_,[],t=>t
 |i,a::l,t=>Gt (i+1) l (T.put 20 t i a)
def EW(nt:Nat):List Nat->List V->T V->Option (T V)
 |[],[],t=>zo t
 |p::ps,a::l,t=>bif af p nt then EW nt ps l (T.put 20 t p a)else zn
 |_,_,_=>zn
section
variable{β:Type}
def GX(P:Program)(a:EF)(ann:H3)(f:FuncId)(rec:H4):Nat->(β:Type)->Nat->Code->FrA->H->Nat->KA β->Option β
 |0,_,_,_,_,_,_,_=>zn
 |n+1,β,b,c,fr,h,nx,K=>match c with
  |.skip | .label _=>K .normal fr h nx
  |.seq x y=>match ann f (SF x) nx with
   |some (.join j)=>
    let w:=AW j.pl0++AW j.pl1
    let kb:=C3 h nx j.kb
    bif fr.up.isSome || !Al fr.nt nx j.pl0 || !Al fr.nt nx j.pl1 || !j.keep.all (λk=>af k 1048575)||(Bz x).any (λk=>j.keep.any (aa k)) || !Bb (A1 fr.t h j.pl0++kb) || !(kb++w).all (λi=>af i nx) || !HW h kb||kb.any (λi=>w.any (aa i))then zn else
    let q:=Bc h kb
    let B:=GQ h kb
    Cc fr.t h j.pl0 λs0=>
    jn (α:=Ar j.pl0) (β:=β) (γ:=Nat×Ar j.pl1×j.pay.den) (δ:=Ar j.pl1) (λs=>
      match Ab (BT fr.t j.keep) (BS h DO kb) nx j.pl0 s with
      |(t1,h1,nx1)=>bif !ah nx1 1048575 then zn else GX P a ann f rec n (LR (Ar j.pl1) (Nat×Ar j.pl1×j.pay.den)) nx1 x { fr with t:=t1 } h1 nx1 λe m h' _=>
       bif !aa m.ds.length fr.ds.length || !Fs h' B then zn else match e with
       |.normal=>bif Bb (A1 m.t h' j.pl1++kb)&&Fg h' q then Cc m.t h' j.pl1 λs'=>zo (.nx s')else zn
       |e=>bif Bb (A1 m.t h' j.pl1++kb)then G6 h' (q.map (·.1)) e j.pay 0 j.ex λi p=>Cc m.t h' j.pl1 λs'=>zo (.dn (i,s',p))else zn) s0
     (λs=>match Ab (BT fr.t j.keep) (CT (BS h (λb=>b) kb) q) nx j.pl1 s with
      |(t1,h1,nx1)=>bif !ah nx1 1048575 then zn else GX P a ann f rec n β b y { fr with t:=t1 } h1 nx1 K)
     (λx=>L1 j.pay x.2.2 x.1 0 j.ex λe C=>match Ab (BT fr.t j.keep) (CT (BS h (λb=>b) kb) C) nx j.pl1 x.2.1 with
      |(t1,h1,nx1)=>bif !ah nx1 1048575 then zn else K e { fr with t:=t1 } h1 nx1)
   |_=>GX P a ann f rec n β b x fr h nx λe fr h nx=>match e with
    |.normal=>GX P a ann f rec n β b y fr h nx K
    |e=>K e fr h nx
  |.cond c x y=>BH fr.t c λv=>match v with
   |.bool c=>br c (λ_=>GX P a ann f rec n β b x fr h nx K) (λ_=>GX P a ann f rec n β b y fr h nx K)
   |_=>zn
  |.block id x=>GX P a ann f rec n β b x fr h nx λe fr h nx=>match e with
   |.exit j=>bif aa j id then K .normal fr h nx else K (.exit j) fr h nx
   |e=>K e fr h nx
  |.loop x=>match (match CQ x with
    |some i=>ann f i nx
    |none=>zn)with
   |some (.loop tm)=>
    RR nx tm.rel h λh=>RS nx tm.relS fr h λfr h=>
    let w:=AW tm.pl++AW tm.plx
    let kb:=C3 h nx tm.kb
    bif fr.up.isSome || !Al fr.nt nx tm.pl || !Al fr.nt nx tm.plx || !tm.keep.all (λk=>af k 1048575)||(Bz x).any (λk=>tm.keep.any (aa k)) || !Bb (A1 fr.t h tm.pl++kb) || !(kb++w).all (λi=>af i nx) || !HW h kb||kb.any (λi=>(AW tm.plx).any (aa i))then zn else
    let q:=Bc h kb
    let B:=GQ h kb
    Cc fr.t h tm.pl λs0=>
    bd (loop (α:=Ar tm.pl) (β:=Nat×Ar tm.plx×tm.pay.den) (λs=>
      match Ab (BT fr.t tm.keep) (BS h DO kb) nx tm.pl s with
      |(t1,h1,nx1)=>bif !ah nx1 1048575 then zn else GX P a ann f rec n (LR (Ar tm.pl) (Nat×Ar tm.plx×tm.pay.den)) nx1 x { fr with t:=t1 } h1 nx1 λe m h' _=>
       bif !aa m.ds.length fr.ds.length || !Fs h' B then zn else match e with
       |.normal=>bif Bb (A1 m.t h' tm.pl++kb)&&Fg h' q then Cc m.t h' tm.pl λs'=>zo (.nx s')else zn
       |e=>bif Bb (A1 m.t h' tm.plx++kb)then G6 h' (q.map (·.1)) e tm.pay 0 tm.ex λi p=>Cc m.t h' tm.plx λs'=>zo (.dn (i,s',p))else zn) s0) λx=>
    L1 tm.pay x.2.2 x.1 0 tm.ex λe C=>P9 tm.plx x.2.1 λI J=>match Ab (BT fr.t tm.keep) (CT (BS h (λb=>b) kb) C) nx I J with
    |(t1,h1,nx1)=>bif !ah nx1 1048575 then zn else K e { fr with t:=t1 } h1 nx1
   |_=>GX P a ann f rec n β b x fr h nx λe fr h nx=>match e with
    |.normal=>GX P a ann f rec n β b (.loop x) fr h nx K
    |e=>K e fr h nx
  |.scope x=>GX P a ann f rec n β b x fr h nx λe fr h nx=>match e with
   |.goto _=>zn
   |e=>K e fr h nx
  |.exit id=>K (.exit id) fr h nx
  |.goto l=>K (.goto l) fr h nx
  |.ret=>K .ret fr h nx
  |.refuse _=>zn
  |.region _ ops draw=>bif !ah (nx+ops.size) 1048575 || !(ops.toList.all λo=>match o.dst with
    |some d=>af d fr.nt
    |none=>zt)then zn else
    bif draw then(bif P.follows .mixedOrders || !Region.departs ops then MU P a nx ops.toList fr h λfr h=>K .normal fr h (nx+ops.size)else zn)
    else Bj P a rec nx ops.toList (HB 0 ops.toList) fr h (nx+ops.size) K
  |.rangeFunc g D A u=>bif !ah (nx+2) 1048575 then zn else BH fr.t g λv=>match v with
   |.fn g E F=>
    match (match fr.ro with
     |none=>zo (nx,[DFA.col nx],AG h nx (.df (zo [])))
     |some G=>(match h.get G with
      |some (.lp _ _ _ _ _ _ _ d0)=>zo (d0,[],h)
      |_=>zn))with
    |some (d,mark,h)=>FJ P g E F [.yl (nx+1)] λr=>match r with
     |.call g args=>rec β (.fn g) zn args (AG h (nx+1) (.lp 0 zn fr.nt fr.t D.toList A u d)) (nx+2) λo _ h z=>match o with
      |.ret _=>(match h.get (nx+1)with
       |some (.lp st pend nt t D A u d)=>bif aa st 1 then zn else
        let h:=AG h (nx+1) (.lp 3 pend nt t D A u d)
        (match pend with
        |none=>K .normal { fr with ds:=mark++fr.ds } h z
        |some .ret=>K .ret { fr with ds:=mark++fr.ds } h z
        |some (.exit id)=>K (.exit id) { fr with ds:=mark++fr.ds } h z
        |some (.goto id)=>K (.goto id) { fr with ds:=mark++fr.ds } h z
        |_=>zn)
       |_=>zn)
      |_=>zn
     |_=>zn
    |none=>zn
   |_=>zn
def Je(P:Program)(h:H)(t:T V):List ResultVar->(List V->Option β)->Option β
 |[],K=>K []
 |.tmp k::l,K=>CV (t.get k) λv=>Je P h t l λvs=>K (v::vs)
 |.cell a ty::l,K=>match t.get a with
  |some (.ptr j off)=>match h.get j with
   |some (.box cs _ _)=>CV (EB P ty (cs.drop off)) λv=>Je P h t l λvs=>K (v::vs)
   |_=>zn
  |_=>zn
def N7:UMA->UMA
 |.pan ({ v:=_,recovered:=zt }::_)=>.ret
 |u=>u
def EN(P:Program)(rec:H4)(d:Func)(β:Type):Nat->List DFA->UMA->T V->H->Nat->(OutA->H->Nat->Option β)->Option β
 |0,_,_,_,_,_,_=>zn
 |n+1,ds,u,t,h,nx,K=>match ds with
  |[]=>match u with
   |.ret=>Je P h t d.results.toList λvs=>K (.ret (match vs with
    |[v]=>v
    |vs=>.tup vs)) h nx
   |.pan e=>K (.pan e) h nx
  |.col id::ds=>match h.get id with
   |some (.df (zo l))=>EN P rec d β n (l++ds) u t (AG h id (.df zn)) nx K
   |_=>zn
  |.bi b ats _ args::ds=>match b,args,ats[0]? with
   |.clear,[.mp j],zo ty=>(match P.underlying ty,h.get j with
    |some (.map _ _),zo (.mp k g c _ zf)=>EN P rec d β n ds u t (AG h j (.mp k g c [] zf)) nx K
    |_,_=>zn)
   |_,_,_=>zn
  |.call f args::ds=>match f with
   |.fn (.func g) a b=>FJ P (.func g) a b args λr=>match r with
    |.call g args=>rec β (.fn g) (zo u) args h nx λo up h nx=>match o,up with
     |.ret _,zo u=>EN P rec d β n ds (N7 u) t h nx K
     |_,_=>zn
    |_=>zn
   |_=>zn
def Ch(h:H)(nx:Nat)(l:Nat)(a:Option Code)(K:OutA->Option UMA->H->Nat->Option β):Option β:=match h.get l with
 |some (.lp _ _ nt t ps asg body d)=>K (.ret (.bool a.isNone)) zn (AG h l (.lp (match a with|none=>0|some _=>2) a nt t ps asg body d)) nx
 |_=>zn
def QD(P:Program):Pi.Pr->List V->H->(V->H->Option β)->Option β
 |.is same,args,h,K=>match args with
  |[.ifc u (.gk a),.ifc v (.gk b)]=>bif (aa u v&&aa a b)&&same.any (aa u)then K (.bool zt) h else zn
  |_=>zn
 |.as tt plain,args,h,K=>match args with
  |[.nili,_]=>K (.bool zf) h
  |[.ifc u a,.ifc pt (.ptr id off)]=>CV (Pi.SB tt pt) λT=>bif aa u T then(match a with
    |.agg [y]=>Ku P h T (.ptr id off) (.agg [y]) λh=>K (.bool zt) h
    |_=>zn)else bif plain.any (aa u)then K (.bool zf) h else zn
  |_=>zn
 |.kn b,args,h,K=>match args with
  |[]=>K (.bool b) h
  |_=>zn
 |_,_,_,_=>zn
def NN(P:Program)(a:EF)(ann:H3)(F:Nat):Nat->H4
 |0=>λ_ _ _ _ _ _ _=>zn
 |n+1=>λβ g up args h nx K=>match g with
  |.fn f=>match Pi.Gl.pr f with
   |some p=>(match up with
    |none=>QD P p args h λv h=>K (.ret v) zn h nx
    |some _=>zn)
   |none=>CV P.funcs[f]? λb=>CV b.body λc=>
   bif ah args.length b.ntmps&&af b.ntmps 1048575 then
    GX P a ann f (NN P a ann F n) F β nx c { t:=Gt 0 args .lf,nt:=b.ntmps,ds:=[],up,ro:=zn } h nx λe fr h nx=>match e with
     |.normal=>EN P (NN P a ann F n) b β F fr.ds .ret fr.t h nx λo h nx=>K o fr.up h nx
     |.ret=>EN P (NN P a ann F n) b β F fr.ds .ret fr.t h nx λo h nx=>K o fr.up h nx
     |.panic e=>EN P (NN P a ann F n) b β F fr.ds (.pan [{ v:=e,recovered:=zf }]) fr.t h nx λo h nx=>K o fr.up h nx
     |_=>zn
   else zn
  |.yl l=>match h.get l with
   |some (.lp _ _ nt t ps asg body0 _)=>CV (EW nt ps args t) λt=>
    GX P a ann 0 (NN P a ann F n) F β nx asg { t,nt,ds:=[],up:=zn,ro:=zo l } h nx λe fr h nx=>match e with
     |.normal=>(match h.get l with
      |some (.lp 0 pend nt t ps asg body d)=>GX P a ann 0 (NN P a ann F n) F β nx body0 fr (AG h l (.lp 1 pend nt t ps asg body d)) nx λe _ h nx=>match e with
        |.normal=>Ch h nx l zn K
        |.ret=>Ch h nx l (zo .ret) K
        |.exit id=>Ch h nx l (zo (.exit id)) K
        |.goto id=>Ch h nx l (zo (.goto id)) K
        |_=>zn
      |_=>zn)
     |_=>zn
   |_=>zn
def Ou(P:Program)(b:EF)(ann:H3)(F n:Nat)(f:FuncId)(dom a:List (Bool×Ty))(x:AP dom):Option (AP a):=
 NN P b ann F n (AP a) (.fn f) zn (EZ dom x) .lf 0 λo _ h _=>match o with
  |.ret v=>Bu h a (match a with
   |[_]=>[v]
   |_=>match v with
    |.tup vs=>vs
    |v=>[v]) zo
  |_=>zn
end
def QS(P:Program)(a:EF)(ann:H3)(F n:Nat)(f:FuncId)(dom:List (Bool×Ty))(g:Bool)(c:Ty)(x:AP dom):Option (List c.den):=
 NN P a ann F n (List c.den) (.fn f) zn (EZ dom x) .lf 0 λo _ h _=>match o with
  |.ret (.ow j)=>(match h.get j with
   |some (.row g' _ l zf zf _)=>bif g == g' then DY l zo else zn
   |_=>zn)
  |_=>zn
def QO(P:Program)(a:EF)(ann:H3)(F n:Nat)(f:FuncId)(dom:List (Bool×Ty))(g:Bool)(c:Ty)(x:AP dom):Option (List c.den):=
 NN P a ann F n (List c.den) (.fn f) zn (EZ dom x) .lf 0 λo _ h _=>match o with
  |.ret v=>(match v with
   |.pl _ _ _=>GN h zf (.sl g c) v zo
   |.nils=>GN h zf (.sl g c) v zo
   |_=>zn)
  |_=>zn
def QQ(P:Program)(b:EF)(ann:H3)(F n:Nat)(f:FuncId)(dom a:List (Bool×Ty))(x:AP dom):Option (AP a):=
 NN P b ann F n (AP a) (.fn f) zn (Qc dom (EZ dom x)) .lf 0 λo _ h _=>match o with
  |.ret v=>Bu h a (match a with
   |[_]=>[v]
   |_=>match v with
    |.tup vs=>vs
    |v=>[v]) zo
  |_=>zn
def NF:List (FuncId×Sg)->FuncId->Option Sg
 |[],_=>zn
 |(g,sg)::l,f=>bif aa f g then zo sg else NF l f
def Ae(a:FuncId->Bool)(L:List (FuncId×Sg)):EF:=λf=>bif a f then zo (NF L f)else zn
def Rn:List (Nat×Nat×Nat×An)->H3
 |[],_,_,_=>zn
 |(a,b,c,tm)::l,f,i,nx=>bif aa f a&&(aa i b&&aa nx c)then zo tm else Rn l f i nx
end
section
variable[Pi.Gl]
open Pi (PV T Hp Blk DF UM PE)
inductive L2 {α β:Type} (R:α->β->Prop):List α->List β->Prop where
 |nil:L2 R [] []
 |cons {a:α} {b:β} {l:List α} {m:List β} (h:R a b) (t:L2 R l m):L2 R (a::l) (b::m)
namespace L2
variable{α β:Type}{R S:α->β->Prop}
theorem length{l:List α}{m:List β}(h:L2 R l m):l.length=m.length:=by
 induction h with
 |nil=>rfl
 |cons _ _ ih=>simp[ih]
theorem mono{l:List α}{m:List β}(h:L2 R l m)(f:∀ a b,R a b->S a b):L2 S l m:=by
 induction h with
 |nil=>exact .nil
 |cons x _ ih=>exact .cons (f _ _ x) ih
theorem append{l l':List α}{m a:List β}(h:L2 R l m)(k:L2 R l' a):L2 R (l++l') (m++a):=by
 induction h with
 |nil=>exact k
 |cons x _ ih=>exact .cons x ih
theorem take{l:List α}{m:List β}(h:L2 R l m):∀ n,L2 R (l.take n) (m.take n):=by
 induction h with
 |nil=>intro n;simp;exact .nil
 |cons x _ ih=>intro n;cases n with
  |zero=>simp;exact .nil
  |succ n=>exact .cons x (ih n)
theorem drop{l:List α}{m:List β}(h:L2 R l m):∀ n,L2 R (l.drop n) (m.drop n):=by
 induction h with
 |nil=>intro n;simp;exact .nil
 |cons x t a=>intro n;cases n with
  |zero=>exact .cons x t
  |succ n=>exact a n
theorem get{l:List α}{m:List β}(h:L2 R l m):∀ {i:Nat} {a:α},l[i]?=zo a -> ∃ b,m[i]?=zo b/\R a b:=by
 induction h with
 |nil=>intro i a h;simp at h
 |cons x _ ih=>intro i a h;cases i with
  |zero=>simp at h;subst h;exact⟨_,rfl,x⟩
  |succ i=>simp at h;obtain⟨b,c,d⟩:=ih h;exact⟨b,by simpa using c,d⟩
theorem set{l:List α}{m:List β}(h:L2 R l m):∀ (i:Nat) {a:α} {b:β},R a b->L2 R (l.set i a) (m.set i b):=by
 induction h with
 |nil=>intro i a b h;exact .nil
 |cons x t c=>intro i a b h;cases i with
  |zero=>exact .cons h t
  |succ i=>exact .cons x (c i h)
theorem replicate{a:α}{b:β}(h:R a b):∀ n,L2 R (aY n a) (aY n b)
 |0=>.nil
 |n+1=>.cons h (replicate h n)
theorem nil_inv{m:List β}(h:L2 R [] m):m=[]:=by cases h;rfl
theorem nil_inv'{l:List α}(h:L2 R l []):l=[]:=by cases h;rfl
theorem cons_inv{a:α}{l:List α}{m:List β}(h:L2 R (a::l) m):∃ b t,m=b::t/\R a b/\L2 R l t:=by
 cases h with
 |cons x t=>exact⟨_,_,rfl,x,t⟩
theorem split{l l':List α}{m:List β}(h:L2 R (l++l') m):∃ p q,m=p++q/\L2 R l p/\L2 R l' q:=by
 induction l generalizing m with
 |nil=>exact⟨[],m,rfl,.nil,h⟩
 |cons a l g=>
  obtain⟨b,t,rfl,c,d⟩:=cons_inv h;obtain⟨p,q,rfl,e,f⟩:=g d;exact⟨b::p,q,rfl,.cons c e,f⟩
end L2
def EP{α:Type}(g:Bool)(D:α->List PV->Prop)(x:α)(e:PV):Prop:=match g with
 |true=>∃ cs,e=.agg cs/\D x cs
 |false=>D x [e]
def DP:(c:Ty)->c.den->List PV->Prop
 |.int k,n,ps=>ps=[.int k n]
 |.bool,b,ps=>ps=[.bool b]
 |.str,s,ps=>ps=[.str s]
 |.unit,_,ps=>ps=[]
 |.pair a b,x,ps=>∃ p q,ps=p++q/\DP a x.1 p/\DP b x.2 q
 |.sl g c,l,ps=>∃ p,ps=[p]/\((p=.nils/\l=[]) \/ ∃ f es,p=.lst f es/\L2 (EP g (DP c)) l es)
def DR(h:Hp)(Q:Nat->Prop):(c:Ty)->c.den->List PV->Prop
 |.int k,n,ps=>ps=[.int k n]
 |.bool,b,ps=>ps=[.bool b]
 |.str,s,ps=>ps=[.str s]
 |.unit,_,ps=>ps=[]
 |.pair a b,x,ps=>∃ p q,ps=p++q/\DR h Q a x.1 p/\DR h Q b x.2 q
 |.sl g c,l,ps=>∃ p,ps=[p]/\((p=.nils/\l=[])\/(∃ f es,p=.lst f es/\L2 (EP g (DP c)) l es) \/
   ∃ pid off len es ex fz,p=.own pid off len/\Q pid/\h.get pid=zo (.row es ex fz)/\off+len<=es.length/\Pi.Ce c.wd es=zt/\L2 (EP g (DR h Q c)) l ((es.drop off).take len))
theorem EP.mono{α:Type}{g:Bool}{D E:α->List PV->Prop}(f:∀ x a,D x a->E x a){x:α}{e:PV}(h:EP g D x e):EP g E x e:=by
 cases g with
 |true=>obtain⟨cs,b,c⟩:=h;exact⟨cs,b,f _ _ c⟩
 |false=>exact f _ _ h
theorem DP.up{h:Hp}{Q:Nat->Prop}:∀ {c:Ty} {x:c.den} {a:List PV},DP c x a->DR h Q c x a
 |.int _,_,_,e=>e
 |.bool,_,_,e=>e
 |.str,_,_,e=>e
 |.unit,_,_,e=>e
 |.pair _ _,_,_,⟨p,q,e,b,d⟩=>⟨p,q,e,DP.up b,DP.up d⟩
 |.sl _ _,_,_,⟨p,e,h⟩=>⟨p,e,h.elim .inl λh=>.inr (.inl h)⟩
def Rows(h h':Hp)(Q b:Nat->Prop):Prop:=∀ pid es ex fz,Q pid->h.get pid=zo (.row es ex fz)->(∃ a,h'.get pid=zo (.row es ex a))/\b pid
theorem DR.mono{h h':Hp}{Q g:Nat->Prop}(a:Rows h h' Q g):∀ {c:Ty} {x:c.den} {i:List PV},DR h Q c x i->DR h' g c x i
 |.int _,_,_,e=>e
 |.bool,_,_,e=>e
 |.str,_,_,e=>e
 |.unit,_,_,e=>e
 |.pair _ _,_,_,⟨p,q,e,d,f⟩=>⟨p,q,e,DR.mono a d,DR.mono a f⟩
 |.sl _ _,_,_,⟨p,e,h⟩=>⟨p,e,by
  rcases h with h|h|⟨pid,off,len,es,ex,fz,d,f,j,l,r,m⟩
  ·exact .inl h
  ·exact .inr (.inl h)
  ·obtain⟨⟨b,n⟩,o⟩:=a _ _ _ _ f j
   exact .inr (.inr ⟨pid,off,len,es,ex,b,d,o,n,l,r,m.mono λ_ _ k=>k.mono λ_ _ k=>DR.mono a k⟩)⟩
inductive At where
 |blk (pid len:Nat)
 |nil
 |fz (es:List PV)
abbrev Mp:=Nat->Option At
def UR:Mp:=λ_=>zn
def D1:Hp:={ m:=.lf,nx:=0 }
structure Cx where
 π:Mp
 h:Hp
 O:Nat->Prop
def Cx.pure:Cx:={ π:=UR,h:=D1,O:=λ_=>True }
def Cx.Q(X:Cx)(pid:Nat):Prop:=¬ X.O pid
mutual
def VR(X:Cx):V->PV->Prop
 |.bool b,p=>p=.bool b
 |.int k n,p=>p=.int k n
 |.str s,p=>p=.str s
 |.nilp,p=>p=.nilp
 |.nils,p=>p=.nils
 |.nilm,p=>p=.nilm
 |.nilf,p=>p=.nilf
 |.nili,p=>p=.nili
 |.agg cs,p=>∃ d,p=.agg d/\VRL X cs d
 |.tup cs,p=>∃ d,p=.tup d/\VRL X cs d
 |.lf full g c l,p=>(p=.nils/\l=[])\/(∃ f es,p=.lst f es/\(full=zt->f=zt)/\L2 (EP g (DP c)) l es) \/
   ∃ pid off len es ex fz,p=.own pid off len/\(full=zt->ex=zt/\off+len=es.length)/\X.Q pid/\X.h.get pid=zo (.row es ex fz)/\off+len<=es.length/\Pi.Ce c.wd es=zt/\L2 (EP g (DR X.h X.Q c)) l ((es.drop off).take len)
 |.pl g c l,p=>(p=.nils/\l=[]) \/ ∃ f es,p=.lst f es/\L2 (EP g (DP c)) l es
 |.exl full es,p=>∃ f d,p=.lst f d/\(full=zt->f=zt)/\VRL Cx.pure es d
 |.ow id,p=>match X.π id with
  |some (.blk pid len)=>p=.own pid 0 len
  |some .nil=>p=.nils
  |some (.fz es)=>p=.lst zt es
  |none=>False
 |.own id off len,p=>∃ pid n,X.π id=zo (.blk pid n)/\p=.own pid off len
 |.ptr id off,p=>∃ pid n,X.π id=zo (.blk pid n)/\p=.ptr pid off
 |.ept id i off,p=>∃ pid n,X.π id=zo (.blk pid n)/\p=.ept pid i off
 |.aptr id off k len,p=>∃ pid n,X.π id=zo (.blk pid n)/\p=.ptr pid (off+k)/\k<len
 |.view cs,p=>(∃ d,p=.view d/\VRL Cx.pure cs d) \/ ∃ pid i off es ex fz e,p=.ept pid i off/\X.Q pid/\X.h.get pid=zo (.row es ex fz)/\es[i]?=zo e/\VRL X cs (e.cells.drop off)
 |.pv cs,p=>∃ d,p=.view d/\VRL Cx.pure cs d
 |.fn f a b,p=>∃ j b',p=.fn f j b'/\VRL X a j/\VRL X b b'
 |.yl id,p=>∃ pid n,X.π id=zo (.blk pid n)/\p=.yl pid
 |.ifc t v,p=>∃ q,p=.ifc t q/\VR X v q
 |.mp id,p=>∃ pid n,X.π id=zo (.blk pid n)/\p=.mp pid
 |.gk n,p=>p=.gk n
def VRL(X:Cx):List V->List PV->Prop
 |[],ps=>ps=[]
 |v::vs,ps=>∃ p a,ps=p::a/\VR X v p/\VRL X vs a
end
structure Up (X Y:Cx):Prop where
 pi:∀ id a,X.π id=zo a->Y.π id=zo a
 rows:Rows X.h Y.h X.Q Y.Q
theorem Up.refl(X:Cx):Up X X:=⟨λ_ _ h=>h,λ_ _ _ _ h k=>⟨⟨_,k⟩,h⟩⟩
theorem Up.trans{X Y Z:Cx}(a:Up X Y)(b:Up Y Z):Up X Z:=⟨λid x h=>b.pi _ _ (a.pi _ _ h),λpid es ex fz h k=>by
 obtain⟨⟨c,d⟩,e⟩:=a.rows _ _ _ _ h k
 exact b.rows _ _ _ _ e d⟩
theorem Up.pure(X:Cx):Up Cx.pure X:=⟨λ_ _ h=>(by cases h),λ_ _ _ _ h=>absurd trivial h⟩
mutual
theorem VR.mono{X Y:Cx}(u:Up X Y):∀ {v:V} {p:PV},VR X v p->VR Y v p
 |.bool _,_,h | .int _ _,_,h | .str _,_,h | .nilp,_,h | .nils,_,h | .nilm,_,h | .nilf,_,h | .nili,_,h | .gk _,_,h=>by
  simp only[VR]at h ⊢;exact h
 |.agg cs,_,h=>by
  simp only[VR]at h ⊢;obtain⟨z,d,j⟩:=h;exact⟨z,d,VRL.mono u j⟩
 |.tup cs,_,h=>by
  simp only[VR]at h ⊢;obtain⟨z,d,j⟩:=h;exact⟨z,d,VRL.mono u j⟩
 |.lf full g c l,_,h=>by
  simp only[VR]at h ⊢;rcases h with h|h|⟨pid,off,len,es,ex,fz,d,B,j,o,r,C,s⟩
  ·exact .inl h
  ·exact .inr (.inl h)
  ·obtain⟨⟨m,w⟩,x⟩:=u.rows _ _ _ _ j o;exact .inr (.inr ⟨pid,off,len,es,ex,m,d,B,x,w,r,C,s.mono λ_ _ k=>k.mono λ_ _ k=>DR.mono u.rows k⟩)
 |.exl full es,_,h=>by simp only[VR]at h ⊢;exact h
 |.pl _ _ _,_,h=>by simp only[VR]at h ⊢;exact h
 |.pv _,_,h=>by simp only[VR]at h ⊢;exact h
 |.ow id,p,h=>by
  simp only[VR]at h ⊢;cases y:X.π id with
  |none=>rw[y]at h;exact h.elim
  |some a=>rw[y]at h;rw[u.pi _ _ y];exact h
 |.own id off len,_,h=>by
  simp only[VR]at h ⊢;obtain⟨pid,n,d,j⟩:=h;exact⟨pid,n,u.pi _ _ d,j⟩
 |.ptr id off,_,h=>by
  simp only[VR]at h ⊢;obtain⟨pid,n,d,j⟩:=h;exact⟨pid,n,u.pi _ _ d,j⟩
 |.ept id i off,_,h=>by
  simp only[VR]at h ⊢;obtain⟨pid,n,d,j⟩:=h;exact⟨pid,n,u.pi _ _ d,j⟩
 |.aptr id off k len,_,h=>by
  simp only[VR]at h ⊢;obtain⟨pid,n,d,j⟩:=h;exact⟨pid,n,u.pi _ _ d,j⟩
 |.view cs,_,h=>by
  simp only[VR]at h ⊢;rcases h with h|⟨pid,i,off,es,ex,fz,e,d,j,o,r,s⟩
  ·exact .inl h
  ·obtain⟨⟨m,w⟩,x⟩:=u.rows _ _ _ _ j o;exact .inr ⟨pid,i,off,es,ex,m,e,d,x,w,r,VRL.mono u s⟩
 |.fn f a b,_,h=>by
  simp only[VR]at h ⊢;obtain⟨A,b',d,j,o⟩:=h;exact⟨A,b',d,VRL.mono u j,VRL.mono u o⟩
 |.yl id,_,h=>by
  simp only[VR]at h ⊢;obtain⟨pid,n,d,j⟩:=h;exact⟨pid,n,u.pi _ _ d,j⟩
 |.ifc t v,_,h=>by
  simp only[VR]at h ⊢;obtain⟨q,d,j⟩:=h;exact⟨q,d,VR.mono u j⟩
 |.mp id,_,h=>by
  simp only[VR]at h ⊢;obtain⟨pid,n,d,j⟩:=h;exact⟨pid,n,u.pi _ _ d,j⟩
theorem VRL.mono{X Y:Cx}(u:Up X Y):∀ {vs:List V} {a:List PV},VRL X vs a->VRL Y vs a
 |[],_,h=>by simp only[VRL]at h ⊢;exact h
 |v::vs,_,h=>by
  simp only[VRL]at h ⊢;obtain⟨p,e,b,c,d⟩:=h;exact⟨p,e,b,VR.mono u c,VRL.mono u d⟩
end
section
variable{X:Cx}
theorem VRL.nil:VRL X [] []:=by simp[VRL]
theorem VRL.cons{v:V}{p:PV}{vs:List V}{a:List PV}(h:VR X v p)(t:VRL X vs a):VRL X (v::vs) (p::a):=by
 simp only[VRL];exact⟨p,a,rfl,h,t⟩
theorem VRL.nil_inv{a:List PV}(h:VRL X [] a):a=[]:=by simpa[VRL]using h
theorem VRL.cons_inv{v:V}{vs:List V}{a:List PV}(h:VRL X (v::vs) a):∃ p b,a=p::b/\VR X v p/\VRL X vs b:=by simpa only[VRL]using h
theorem VRL.length:∀ {vs:List V} {a:List PV},VRL X vs a->vs.length=a.length
 |[],_,h=>by rw[h.nil_inv];rfl
 |v::vs,_,h=>by obtain⟨p,c,rfl,_,b⟩:=h.cons_inv;simp[b.length]
theorem VRL.append:∀ {vs c:List V} {b a:List PV},VRL X vs b->VRL X c a->VRL X (vs++c) (b++a)
 |[],_,_,_,h,k=>by rw[h.nil_inv];exact k
 |v::vs,_,_,_,h,k=>by obtain⟨p,a,rfl,d,e⟩:=h.cons_inv;exact .cons d (e.append k)
theorem VRL.take:∀ {vs:List V} {a:List PV} (_:VRL X vs a) (n:Nat),VRL X (vs.take n) (a.take n)
 |[],_,h,n=>by rw[h.nil_inv];simpa using VRL.nil
 |v::vs,_,h,0=>by simpa using VRL.nil
 |v::vs,_,h,n+1=>by obtain⟨p,d,rfl,b,c⟩:=h.cons_inv;exact .cons b (c.take n)
theorem VRL.drop:∀ {vs:List V} {a:List PV} (_:VRL X vs a) (n:Nat),VRL X (vs.drop n) (a.drop n)
 |[],_,h,n=>by rw[h.nil_inv];simpa using VRL.nil
 |v::vs,_,h,0=>by simpa using h
 |v::vs,_,h,n+1=>by obtain⟨p,d,rfl,c,b⟩:=h.cons_inv;exact b.drop n
theorem VRL.lget:∀ {vs:List V} {b:List PV} (_:VRL X vs b) {i:Nat} {v:V},Pi.lget vs i=zo v -> ∃ p,Pi.lget b i=zo p/\VR X v p
 |[],_,h,i,v,e=>by simp[Pi.lget]at e
 |w::vs,_,h,i,v,e=>by
  obtain⟨p,f,rfl,c,d⟩:=h.cons_inv;unfold Pi.lget at e ⊢;cases a:aa i 0 with
  |true=>rw[a]at e;simp at e;subst e;exact⟨p,rfl,c⟩
  |false=>rw[a]at e;simp only[zj]at e ⊢;exact d.lget e
theorem VRL.lset:∀ {vs:List V} {b:List PV} (_:VRL X vs b) (i:Nat) {v:V} {p:PV},VR X v p->VRL X (Pi.lset vs i v) (Pi.lset b i p)
 |[],_,h,i,v,p,_=>by rw[h.nil_inv];exact .nil
 |w::vs,_,h,i,v,p,hv=>by
  obtain⟨q,e,rfl,c,a⟩:=h.cons_inv;unfold Pi.lset;cases d:aa i 0 with
  |true=>exact .cons hv a
  |false=>exact .cons c (a.lset _ hv)
theorem VRL.fput{vs xs:List V}{a b:List PV}(h:VRL X vs a)(k:VRL X xs b)(off:Nat):VRL X (GY vs off xs) (Pi.BU a off b):=by
 unfold GY Pi.BU;rw[<- k.length];exact(h.take off).append (k.append (h.drop _))
theorem VRL.rep{v:V}{p:PV}(h:VR X v p):∀ n,VRL X (aY n v) (aY n p)
 |0=>.nil
 |n+1=>.cons h (VRL.rep h n)
theorem VR.cells{v:V}{p:PV}(h:VR X v p):VRL X v.cells p.cells:=by
 have d:∀ (v:V) (p:PV),VR X v p->v.cells=[v]->p.cells=[p]->VRL X v.cells p.cells:=by
  intro v p h m e;rw[m,e];exact .cons h .nil
 cases v with
 |bool b=>simp only[VR]at h;subst h;exact d _ _ (by simp[VR]) rfl rfl
 |int k n=>simp only[VR]at h;subst h;exact d _ _ (by simp[VR]) rfl rfl
 |str k=>simp only[VR]at h;subst h;exact d _ _ (by simp[VR]) rfl rfl
 |nilp=>simp only[VR]at h;subst h;exact d _ _ (by simp[VR]) rfl rfl
 |nils=>simp only[VR]at h;subst h;exact d _ _ (by simp[VR]) rfl rfl
 |nilm=>simp only[VR]at h;subst h;exact d _ _ (by simp[VR]) rfl rfl
 |nilf=>simp only[VR]at h;subst h;exact d _ _ (by simp[VR]) rfl rfl
 |nili=>simp only[VR]at h;subst h;exact d _ _ (by simp[VR]) rfl rfl
 |gk n=>simp only[VR]at h;subst h;exact d _ _ (by simp[VR]) rfl rfl
 |agg cs=>simp only[VR]at h;obtain⟨j,rfl,e⟩:=h;exact e
 |tup cs=>simp only[VR]at h;obtain⟨j,rfl,e⟩:=h;exact .nil
 |lf f g c l=>
  refine d _ _ h rfl ?_;simp only[VR]at h;rcases h with⟨rfl,_⟩|⟨f,es,rfl,_⟩|⟨pid,off,len,es,ex,fz,rfl,_⟩<;>rfl
 |pl g c l=>
  refine d _ _ h rfl ?_;simp only[VR]at h;rcases h with⟨rfl,_⟩|⟨f,es,rfl,_⟩<;>rfl
 |pv cs=>refine d _ _ h rfl ?_;simp only[VR]at h;obtain⟨_,rfl,_⟩:=h;rfl
 |exl f es=>
  refine d _ _ h rfl ?_;simp only[VR]at h;obtain⟨f,j,rfl,_⟩:=h;rfl
 |own id off len=>refine d _ _ h rfl ?_;simp only[VR]at h;obtain⟨_,_,_,rfl⟩:=h;rfl
 |ptr id off=>refine d _ _ h rfl ?_;simp only[VR]at h;obtain⟨_,_,_,rfl⟩:=h;rfl
 |ept id i off=>refine d _ _ h rfl ?_;simp only[VR]at h;obtain⟨_,_,_,rfl⟩:=h;rfl
 |aptr id off k len=>refine d _ _ h rfl ?_;simp only[VR]at h;obtain⟨_,_,_,rfl,_⟩:=h;rfl
 |view cs=>
  refine d _ _ h rfl ?_;simp only[VR]at h;rcases h with⟨j,rfl,_⟩|⟨_,_,_,_,_,_,_,rfl,_⟩<;>rfl
 |fn f a b=>refine d _ _ h rfl ?_;simp only[VR]at h;obtain⟨_,_,rfl,_⟩:=h;rfl
 |yl id=>refine d _ _ h rfl ?_;simp only[VR]at h;obtain⟨_,_,_,rfl⟩:=h;rfl
 |ifc t v=>refine d _ _ h rfl ?_;simp only[VR]at h;obtain⟨_,rfl,_⟩:=h;rfl
 |mp id=>refine d _ _ h rfl ?_;simp only[VR]at h;obtain⟨_,_,_,rfl⟩:=h;rfl
 |ow id=>
  refine d _ _ h rfl ?_;simp only[VR]at h;split at h
  ·subst h;rfl
  ·subst h;rfl
  ·subst h;rfl
  ·exact h.elim
theorem VR.norm{v:V}{p:PV}(h:VR X v p):VR X v.norm p:=by
 cases v with
 |pl g c l=>
  simp only[VR]at h;simp only[V.norm,VR];rcases h with h|⟨f,es,a,b⟩
  ·exact .inl h
  ·exact .inr (.inl ⟨f,es,a,(λh=>by cases h),b⟩)
 |pv cs=>
  simp only[VR]at h;simp only[V.norm,VR];exact .inl h
 |_=>exact h
end
end
section
variable[Pi.Gl]
open Pi (PV T Hp Blk DF UM PE)
section
variable{β α:Type}
theorem AD{o:Option α}{K:α->Option β}{x:β}(e:CV o K=zo x):∃ y,o=zo y/\K y=zo x:=by
 cases o with
 |none=>cases e
 |some y=>exact⟨y,rfl,e⟩
theorem AJ{c:Bool}{K:Unit->Option β}{x:β}(e:gd c K=zo x):c=zt/\K ()=zo x:=by
 cases c with
 |false=>cases e
 |true=>exact⟨rfl,e⟩
theorem BN{c:Bool}{a b:Unit->Option β}{x:β}(e:br c a b=zo x):(c=zt/\a ()=zo x)\/(c=zf/\b ()=zo x):=by
 cases c with
 |false=>exact .inr ⟨rfl,e⟩
 |true=>exact .inl ⟨rfl,e⟩
theorem GZ{l:List α}{i:Nat}{K:α->Option β}{x:β}(e:ix l i K=zo x):∃ y,l[i]?=zo y/\K y=zo x:=by
 unfold ix at e;split at e
 ·rename_i y a;exact⟨y,a,e⟩
 ·cases e
theorem Li{n:Int}{K:Nat->Option β}{x:β}(e:SW n K=zo x):0<=n/\K n.toNat=zo x:=by
 unfold SW at e;cases h:decide (0<=n)with
 |false=>rw[h]at e;cases e
 |true=>rw[h]at e;exact⟨of_decide_eq_true h,e⟩
theorem FA{m:Option α}{K:α->Option β}{x:β}(e:bd m K=zo x):∃ y,m=zo y/\K y=zo x:=by
 cases m with
 |none=>cases e
 |some y=>exact⟨y,rfl,e⟩
theorem A7{c a:Ty}{l:List c.den}{K:List a.den->Option β}{x:β}(e:DY l K=zo x):∃ h:c=a,K (h ▸ l)=zo x:=by
 unfold DY at e;split at e
 ·rename_i h;exact⟨h,e⟩
 ·cases e
theorem BV{c:Bool}{a b:α}{x:α}(e:(bif c then a else b)=x):(c=zt/\a=x)\/(c=zf/\b=x):=by
 cases c with
 |false=>exact .inr ⟨rfl,e⟩
 |true=>exact .inl ⟨rfl,e⟩
theorem BE{c:Bool}{b:Option α}{x:α}(e:(bif c then zn else b)=zo x):c=zf/\b=zo x:=by
 cases c with
 |false=>exact⟨rfl,e⟩
 |true=>cases e
theorem AK{c:Bool}{a:Option α}{x:α}(e:(bif c then a else zn)=zo x):c=zt/\a=zo x:=by
 cases c with
 |true=>exact⟨rfl,e⟩
 |false=>cases e
end
section
variable{X:Cx}{β:Type}{x:β}
theorem Fo{v:Value}{a:V}(e:GL v=zo a):∃ p,Pi.Cz v=zo p /\ VR X a p:=by
  unfold GL at e;unfold Pi.Cz;split at e
  all_goals first
    |(cases e;exact⟨_,rfl,by simp[VR]⟩)
    | (split at e
       · rename_i h;cases e;exact⟨.fn (.func _) [] [],zy h,by simp[VR,VRL]⟩
       · cases e)
    |cases e
theorem Ek:∀ {vs:List Value} {b:List V},Du vs=zo b -> ∃ c,Pi.cellsOf vs=zo c/\VRL X b c
 |[],b,e=>by cases e;exact⟨[],rfl,.nil⟩
 |v::l,b,e=>by
  unfold Du at e;split at e
  ·rename_i a d f g;cases e;obtain⟨p,e1,h⟩:=Fo (X:=X) f;obtain⟨c,e2,i⟩:=Ek g;exact⟨p::c,by unfold Pi.cellsOf;rw[e1,e2],.cons h i⟩
  ·cases e
theorem JX{v:Value}{a:V}(e:KX v=zo a):∃ p,Pi.D9 v=zo p/\VR X a p:=by
 unfold KX at e;split at e
 ·rename_i cs;cases h:Du cs.toList with
  |none=>rw[h]at e;cases e
  |some j=>
   rw[h]at e;cases e;obtain⟨c,e2,b⟩:=Ek (X:=X) h;exact⟨.agg c,by simp only[Pi.D9,e2];rfl,by simp only[VR];exact⟨c,rfl,b⟩⟩
 ·rename_i vs;replace e:=AK e;obtain⟨h,e⟩:=e;cases e;exact⟨.tup [],by simp[Pi.D9,h],by simp[VR,VRL]⟩
 ·rename_i t v;split at e
  ·rename_i p i;cases e;obtain⟨q,e2,b⟩:=Fo (X:=X) i;exact⟨.ifc t q,by simp only[Pi.D9,e2],by simp only[VR];exact⟨q,rfl,b⟩⟩
  ·cases e
 ·rename_i d f g;obtain⟨p,e2,b⟩:=Fo (X:=X) e;refine⟨p,?_,b⟩;unfold Pi.D9;split
  ·exact absurd rfl (d _)
  ·exact absurd rfl (f _)
  ·exact absurd rfl (g _ _)
  ·exact e2
theorem B5{P:Program}{t:TypeId}{b:List V}(e:Ci P t=zo b):∃ a,Pi.zeroCells P t=zo a/\VRL X b a:=by
 unfold Ci at e;split at e
 ·rename_i i hi;split at e
  ·rename_i z c;obtain⟨a,h,r⟩:=Ek (X:=X) e;exact⟨a,by simp only[Pi.zeroCells,hi,c];exact h,r⟩
  ·cases e
 ·cases e
theorem GD{P:Program}{t:TypeId}{a:V}(e:C9 P t=zo a):∃ p,Pi.Bt P t=zo p/\VR X a p:=by
 unfold C9 at e;split at e
 ·rename_i i hi;split at e
  ·rename_i z b;obtain⟨c,h,r⟩:=JX (X:=X) e;exact⟨c,by simp only[Pi.Bt,hi,b];exact h,r⟩
  ·cases e
 ·cases e
def TR(X:Cx)(t:T V)(a:T PV):Prop:=∀ k v,t.get k=zo v -> ∃ p,a.get k=zo p/\VR X v p
theorem TR.mono{Y:Cx}{t:T V}{a:T PV}(h:TR X t a)(u:Up X Y):TR Y t a:=λk v e=>by
 obtain⟨p,b,c⟩:=h k v e;exact⟨p,b,c.mono u⟩
theorem TR.put{t:T V}{a:T PV}(h:TR X t a){d:Nat}(f:d<1048575){v:V}{p:PV}(c:VR X v p):TR X (T.put 20 t d v) (T.put 20 a d p):=by
 have g:(2:Nat) ^ 20-1=1048575:=by decide
 intro k w e;rw[T.get_put 20 t d v k (by omega)]at e;rw[T.get_put 20 a d p k (by omega)];by_cases b:k=d
 ·rw[zy b]at e ⊢;cases e;exact⟨p,rfl,c⟩
 ·rw[zx b]at e ⊢;exact h k w e
variable{t:T V}{tP:T PV}
theorem KC{X:Cx}:∀ {cs:List PV} {vs:List V},Pc cs=zo vs->VRL X vs cs
 |[],vs,e=>by cases e;exact .nil
 |c::l,vs,e=>by
  unfold Pc at e;split at e
  ·rename_i h;cases h
  ·rename_i h;cases h;obtain⟨b,a,rfl⟩:=Pi.AA e;exact .cons (by simp[VR]) (KC a)
  ·rename_i h;cases h;obtain⟨b,a,rfl⟩:=Pi.AA e;exact .cons (by simp[VR]) (KC a)
  ·cases e
theorem AM(f:TR X t tP){o:Operand}{K:V->Option β}(e:BH t o K=zo x):∃ v p,K v=zo x/\Pi.B1 tP o=zo p/\VR X v p:=by
 unfold BH at e;unfold Pi.B1;split at e
 ·obtain⟨v,a,b⟩:=AD e;obtain⟨p,c,d⟩:=f _ _ a;exact⟨v,p,b,by simp[c],d⟩
 ·obtain⟨v,a,b⟩:=AD e;obtain⟨p,c,d⟩:=JX (X:=X) a;exact⟨v,p,b,c,d⟩
 ·exact⟨_,_,e,rfl,by simp[VR,VRL]⟩
 ·obtain⟨cs,a,e⟩:=AD e;obtain⟨vs,b,e⟩:=AD e;exact⟨_,.view cs,e,by show(Pi.Gl.g _).map _=_;rw[a];rfl,by simp only[VR];exact⟨cs,rfl,KC b⟩⟩
theorem GW(b:TR X t tP):∀ {c:List Operand} {K:List V->Option β},OV t c K=zo x -> ∃ vs a,K vs=zo x/\Pi.MF tP c=zo a/\VRL X vs a
 |[],K,e=>⟨[],[],e,rfl,.nil⟩
 |o::l,K,e=>by
  obtain⟨v,p,e1,d,g⟩:=AM b e;obtain⟨vs,a,e2,f,h⟩:=GW b e1;exact⟨v::vs,p::a,e2,by unfold Pi.MF;rw[d,f],.cons g h⟩
def VRO(X:Cx):Option V->Option PV->Prop
 |none,o=>o=zn
 |some v,o=>∃ p,o=zo p/\VR X v p
theorem J2(b:TR X t tP){o:Option Operand}{K:Option V->Option β}(e:Qw t o K=zo x):∃ v p,K v=zo x/\Pi.Mb tP o=zo p/\VRO X v p:=by
 cases o with
 |none=>exact⟨zn,zn,e,rfl,rfl⟩
 |some o=>
  obtain⟨v,p,e1,a,c⟩:=AM b e;exact⟨zo v,zo p,e1,by show(Pi.B1 tP o).map zo=_;rw[a];rfl,p,rfl,c⟩
def SP(X:Cx):List (Nat×V)->List (Nat×PV)->Prop:=L2 λa b=>a.1=b.1/\VR X a.2 b.2
theorem Ey(b:TR X t tP):∀ {c:List (Nat×Operand)} {K:List (Nat×V)->Option β},Gj t c K=zo x -> ∃ vs a,K vs=zo x/\Pi.CA tP c=zo a/\SP X vs a
 |[],K,e=>⟨[],[],e,rfl,.nil⟩
 |(i,o)::l,K,e=>by
  obtain⟨v,p,e1,d,g⟩:=AM b e;obtain⟨vs,a,e2,f,h⟩:=Ey b e1;exact⟨(i,v)::vs,(i,p)::a,e2,by unfold Pi.CA;rw[d,f],.cons ⟨rfl,g⟩ h⟩
theorem C8{v:V}{p:PV}{K:Nat->Option β}(a:VR X v p)(e:Ig v K=zo x):∃ n,K n=zo x/\Pi.FY p=zo n:=by
 unfold Ig at e;split at e
 ·simp only[VR]at a;subst a;obtain⟨b,c⟩:=Li e;exact⟨_,c,by simp[Pi.FY,b]⟩
 ·cases e
theorem JU{v:V}{p:PV}{K:Nat->Option β}(a:VR X v p)(e:KS v K=zo x):∃ n,K n=zo x/\Pi.E8 p=zo n:=by
 unfold KS at e;split at e
 ·simp only[VR]at a;subst a;obtain⟨b,c⟩:=Li e;exact⟨_,c,by simp[Pi.E8,b]⟩
 ·cases e
theorem A5{d:Nat}{v:Option V}{p:Option PV}{K:Nat->Option β}(a:VRO X v p)(e:CE d v K=zo x):∃ n,K n=zo x/\Pi.CU d p=zo n:=by
 cases v with
 |none=>cases a;exact⟨d,e,rfl⟩
 |some v=>obtain⟨p,rfl,a⟩:=a;exact C8 a e
theorem Q4{c:BinOp}{k:IntKind}{a b:Int}{K:V -> Option β}(e:R2 c k a b K=zo x):∃ v p,K v=zo x /\ Pi.Ol c k a b=zo p /\ VR X v p:=by
  cases c<;>simp only[R2]at e
  all_goals first
    |(exact⟨_,_,e,rfl,by simp only[VR];rfl⟩)
    | (obtain ⟨d, f⟩ := AJ e
       refine⟨_,_,f,?_,by simp only[VR];rfl⟩;have g:(b == 0)=zf:=by simpa[SS]using d
       simp only[Pi.Ol,g,zj];rfl)
    |cases e
theorem Jj{c:BinOp}{k:IntKind}{a b:Int}{K:V -> Option β}(e:M8 c k a b K=zo x):∃ v p,K v=zo x /\ Pi.HK c k a b=zo p /\ VR X v p:=by
  cases c<;>simp only[M8]at e
  all_goals first
    | (obtain ⟨d, f⟩ := AJ e
       refine⟨_,_,f,?_,by simp only[VR];rfl⟩;have g:decide (b < 0)=zf:=by simpa[SR]using d
       simp only[Pi.HK,g,zj];rfl)
    |cases e
theorem Cy:∀ (a b:List UInt8),(Op.bytesLess a b||a == b) = !Op.bytesLess b a
 |[],[]=>rfl
 |[],_::_=>rfl
 |_::_,[]=>rfl
 |a::l,b::m=>by
  have g:=Cy l m;simp only[Op.bytesLess];by_cases c:a<b
  ·have d:¬ b<a:=by rw[cA]at c ⊢;omega
   have e:(b == a)=zf:=by
    rw[beq_eq_false_iff_ne];intro h;subst h;exact d c
   simp[c,d,e]
  ·by_cases d:b<a
   ·have e:(a == b)=zf:=by
     rw[beq_eq_false_iff_ne];intro h;subst h;exact c d
    have f:(a::l == b::m)=zf:=by
     rw[cL,e];rfl
    simp[c,d,e,f]
   ·have e:a=b:=by
     apply UInt8.toNat_inj.1;rw[cA]at c d;omega
    subst e;rw[cL];simp only[c,decide_false,Bool.false_or,beq_self_eq_true,Bool.true_and];exact g
theorem RY{c:BinOp}{a b:List UInt8}{K:V -> Option β}(e:SK c a b K=zo x):∃ v p,K v=zo x /\ Pi.QF c a b=zo p /\ VR X v p:=by
  cases c<;>simp only[SK]at e
  all_goals first
    |(refine⟨_,_,e,rfl,?_⟩;simp only[VR];rfl)
    |(refine⟨_,_,e,rfl,?_⟩;simp only[VR];rw[Cy];rfl)
    |(refine⟨_,_,e,rfl,?_⟩;simp only[VR];rw[Cy];simp[S4])
    | (obtain ⟨d, f⟩ := AJ e
       refine⟨_,_,f,?_,by simp only[VR];rfl⟩;simp only[CI,BG,NA]at d
       simp only[Pi.QF,d,zb];rfl)
    |cases e
end
end
section
variable[Pi.Gl]
open Pi (PV T Hp Blk DF UM PE)
section
variable{X:Cx}{β:Type}{x:β}{P:Program}
theorem Bd{t:TypeId}{cs:List V}{c:List PV}{v:V}(h:VRL X cs c)(e:EB P t cs=zo v):∃ p,Pi.part P t c=zo p/\VR X v p:=by
 unfold EB at e;split at e
 ·rename_i n a b;replace e:=AK e;obtain⟨d,e⟩:=e;cases e;refine⟨.agg (c.take n),?_,by simp only[VR];exact⟨_,rfl,h.take n⟩⟩;unfold Pi.part;simp only[a,b];rw[<- h.length,d];rfl
 ·rename_i a b;split at e
  ·cases e;obtain⟨p,f,rfl,r,_⟩:=h.cons_inv;exact⟨p,by unfold Pi.part;simp only[a,b],r⟩
  ·cases e
 ·cases e
theorem VR.agg_inv{cs:List V}{p:PV}(h:VR X (.agg cs) p):∃ a,p=.agg a/\VRL X cs a:=by simpa only[VR]using h
mutual
theorem G3:∀ (d:Nat) {t:TypeId} {a b:V} {c:Bool} {p q:PV},VR X a p->VR X b q->Qu P d t a b=zo c->Pi.Nq P d t p q=zo c
 |0,_,_,_,_,_,_,_,_,e=>by simp[Qu]at e
 |d+1,t,a,b,c,p,q,f,g,e=>by
  unfold Qu at e;unfold Pi.Nq;split at e
  all_goals (try simp only[*])
  ·split at e
   ·simp only[VR]at f g;subst f;subst g;exact e
   ·cases e
  ·split at e
   ·simp only[VR]at f g;subst f;subst g;exact e
   ·cases e
  ·split at e
   ·simp only[VR]at f g;subst f;subst g;exact e
   ·cases e
  ·split at e
   all_goals first
    |(simp only[VR]at f g;subst f;subst g;exact e)
    |(simp only[VR]at f g;obtain⟨_,_,_,rfl⟩:=f;subst g;exact e)
    |(simp only[VR]at f g;obtain⟨_,_,_,rfl⟩:=g;subst f;exact e)
    |(simp only[VR]at f g;subst f;rcases g with⟨_,rfl,_⟩|⟨_,_,_,_,_,_,_,rfl,_⟩<;>exact e)
    |(simp only[VR]at f g;subst g;rcases f with⟨_,rfl,_⟩|⟨_,_,_,_,_,_,_,rfl,_⟩<;>exact e)
    |(simp only[VR]at f g;subst f;obtain⟨_,rfl,_⟩:=g;exact e)
    |(simp only[VR]at f g;subst g;obtain⟨_,rfl,_⟩:=f;exact e)
    |cases e
  ·split at e
   ·simp only[VR]at f g;subst f;subst g;exact e
   ·simp only[VR]at f g;subst f;obtain⟨_,_,rfl,_⟩:=g;exact e
   ·simp only[VR]at f g;subst g;obtain⟨_,_,rfl,_⟩:=f;exact e
   ·simp only[VR]at f g;subst f;rcases g with⟨_,h⟩|⟨_,_,rfl,_⟩|⟨_,_,_,_,_,_,rfl,_⟩
    ·cases h
    ·exact e
    ·exact e
   ·simp only[VR]at f g;subst g;rcases f with⟨_,h⟩|⟨_,_,rfl,_⟩|⟨_,_,_,_,_,_,rfl,_⟩
    ·cases h
    ·exact e
    ·exact e
   ·simp only[VR]at f g;subst f;rcases g with⟨_,h⟩|⟨_,_,rfl,_⟩
    ·cases h
    ·exact e
   ·simp only[VR]at f g;subst g;rcases f with⟨_,h⟩|⟨_,_,rfl,_⟩
    ·cases h
    ·exact e
   ·simp only[VR]at f g;subst f;obtain⟨_,_,_,rfl⟩:=g;exact e
   ·simp only[VR]at f g;subst g;obtain⟨_,_,_,rfl⟩:=f;exact e
   ·cases e
  ·split at e
   all_goals first
    |(simp only[VR]at f g;subst f;subst g;exact e)
    |(simp only[VR]at f g;obtain⟨_,_,rfl,_⟩:=f;subst g;exact e)
    |(simp only[VR]at f g;obtain⟨_,_,rfl,_⟩:=g;subst f;exact e)
    |cases e
  ·split at e
   ·simp only[VR]at f g;subst f;subst g;exact e
   ·simp only[VR]at f g;subst f;obtain⟨_,rfl,_⟩:=g;exact e
   ·simp only[VR]at f g;subst g;obtain⟨_,rfl,_⟩:=f;exact e
   ·simp only[VR]at f g;obtain⟨o,rfl,f⟩:=f;obtain⟨b',rfl,g⟩:=g;rcases BV e with⟨h,e⟩|⟨h,e⟩
    ·simp only[h,zb];split at e
     ·rename_i i hi;replace e:=AK e;obtain⟨l,e⟩:=e;simp only[hi,l,zb];exact G3 d f g e
     ·cases e
    ·simp only[h,zj];exact e
   ·cases e
  ·split at e
   ·obtain⟨m,rfl,j⟩:=f.agg_inv;obtain⟨n,rfl,k⟩:=g.agg_inv;replace e:=BE e;obtain⟨h,e⟩:=e;simp only[h,zj];exact Jz d j k e
   ·cases e
  ·split at e
   ·obtain⟨m,rfl,j⟩:=f.agg_inv;obtain⟨n,rfl,k⟩:=g.agg_inv;replace e:=AK e;obtain⟨h,e⟩:=e;simp only[h,zb];exact NP d j k e
   ·cases e
theorem Jz:∀ (d:Nat) {g:List Field} {a b:List V} {c:Bool} {p q:List PV},VRL X a p->VRL X b q->MY P d g a b=zo c->Pi.I0 P d g p q=zo c
 |0,_,_,_,_,_,_,_,_,e=>by simp[MY]at e
 |d+1,[],_,_,_,_,_,_,_,e=>by simpa[MY,Pi.I0]using e
 |d+1,f::g,a,b,c,p,q,ha,hb,e=>by
  unfold MY at e;unfold Pi.I0;rcases BV e with⟨h,e⟩|⟨h,e⟩
  ·simp only[h,zb];exact Jz d ha hb e
  ·simp only[h,zj];split at e
   ·rename_i u v l m;obtain⟨s,j,n⟩:=Bd (ha.drop f.offset) l;obtain⟨t,k,o⟩:=Bd (hb.drop f.offset) m;split at e
    ·rename_i i r e1 e2;simp only[j,k,G3 d n o e1];cases e;cases i with
     |true=>simpa[OG]using Jz d ha hb e2
     |false=>simp[OG]
    ·cases e
   ·cases e
theorem NP:∀ (d:Nat) {n:Nat} {t:TypeId} {a b:List V} {c:Bool} {p q:List PV},VRL X a p->VRL X b q->OQ P d n t a b=zo c->Pi.Kd P d n t p q=zo c
 |0,_,_,_,_,_,_,_,_,_,e=>by simp[OQ]at e
 |d+1,0,_,_,_,_,_,_,_,_,e=>by simpa[OQ,Pi.Kd]using e
 |d+1,n+1,t,a,b,c,p,q,ha,hb,e=>by
  unfold OQ at e;unfold Pi.Kd;split at e
  ·rename_i s u v hs i j;obtain⟨o,g,k⟩:=Bd ha i;obtain⟨r,h,l⟩:=Bd hb j;split at e
   ·rename_i f m e1 e2;simp only[hs,g,h,G3 d k l e1];cases e;cases f with
    |true=>simpa[OG]using NP d (ha.drop s) (hb.drop s) e2
    |false=>simp[OG]
   ·cases e
  ·cases e
end
theorem IJ{a:BinOp}{c:Bool}{K:V->Option β}(e:(match a with
  |.eql=>K (.bool c)
  |.neq=>K (.bool (Hl c))
  |_=>zn)=zo x) {o:Option Bool} (b:o=zo c):∃ v p,K v=zo x/\(match a with
  |.eql=>o.map .bool
  |.neq=>o.map λr=>.bool (!r)
  |_=>zn)=zo p/\VR X v p:=by
 subst b;cases a<;>simp only at e ⊢
 all_goals first
  |(exact⟨_,_,e,rfl,by simp[VR,Hl]⟩)
  |cases e
theorem GA{c:BinOp}{ty:TypeId}{p q:PV}(d:∀ k n f m,¬(p=.int k n/\q=.int f m))(e:∀ a b,¬(p=.str a/\q=.str b)):Pi.Iz P c ty p q=(match c with
  |.eql=>(Pi.Nq P Pi.FD ty p q).map .bool
  |.neq=>(Pi.Nq P Pi.FD ty p q).map λr=>.bool (!r)
  |_=>zn):=by
 unfold Pi.Iz;split
 ·exact absurd ⟨rfl,rfl⟩ (d _ _ _ _)
 ·exact absurd ⟨rfl,rfl⟩ (e _ _)
 ·rfl
theorem VR.inv{v:V}{p:PV}(h:VR X v p):(∀ k n,p=.int k n->v=.int k n)/\(∀ l,p=.str l->v=.str l)/\(p=.nili->v=.nili)/\(∀ cs,p=.agg cs -> ∃ i,v=.agg i):=by
 cases v with
 |agg cs=>exact⟨λ_ _ e=>by simp[VR,e]at h,λ_ e=>by simp[VR,e]at h,λe=>by simp[VR,e]at h,λ_ _=>⟨_,rfl⟩⟩
 |ow id=>
  simp only[VR]at h;split at h
  ·subst h;simp
  ·subst h;simp
  ·subst h;simp
  ·exact h.elim
 |lf f g c l=>
  simp only[VR]at h;rcases h with⟨rfl,_⟩|⟨_,_,rfl,_⟩|⟨_,_,_,_,_,_,rfl,_⟩<;>simp
 |view cs=>
  simp only[VR]at h;rcases h with⟨_,rfl,_⟩|⟨_,_,_,_,_,_,_,rfl,_⟩<;>simp
 |pl g c l=>simp only[VR]at h;rcases h with⟨rfl,_⟩|⟨_,_,rfl,_⟩<;>simp
 |pv cs=>simp only[VR]at h;obtain⟨_,rfl,_⟩:=h;simp
 |tup cs=>simp only[VR]at h;obtain⟨_,rfl,_⟩:=h;simp
 |exl f cs=>simp only[VR]at h;obtain⟨_,_,rfl,_⟩:=h;simp
 |own a b c=>simp only[VR]at h;obtain⟨_,_,_,rfl⟩:=h;simp
 |ptr a b=>simp only[VR]at h;obtain⟨_,_,_,rfl⟩:=h;simp
 |ept a b c=>simp only[VR]at h;obtain⟨_,_,_,rfl⟩:=h;simp
 |aptr a b c d=>simp only[VR]at h;obtain⟨_,_,_,rfl,_⟩:=h;simp
 |fn a b c=>simp only[VR]at h;obtain⟨_,_,rfl,_⟩:=h;simp
 |yl a=>simp only[VR]at h;obtain⟨_,_,_,rfl⟩:=h;simp
 |mp a=>simp only[VR]at h;obtain⟨_,_,_,rfl⟩:=h;simp
 |ifc a b=>simp only[VR]at h;obtain⟨_,rfl,_⟩:=h;simp
 |_=>simp only[VR]at h;subst h;simp
theorem BC{o:Option PV}{h:Hp}{p:PV}(e:o=zo p):Pi.vl o h=zo (.val p h):=by rw[e];rfl
theorem Qq{h:Hp}{w:BinOp}{ty:TypeId}{y z:Operand}{a b:V}{p q:PV}{K:V->Option β}(i:VR X a p)(j:VR X b q)(e:Rt P w ty y z a b K=zo x) :
  ∃ v r,K v=zo x/\Pi.Dd P h w ty y z p q=zo (.val r h)/\VR X v r:=by
 unfold Rt at e;split at e
 ·simp only[VR]at i j;subst i;subst j;split at e
  ·obtain⟨v,r,d,f,g⟩:=Jj (X:=X) e;exact⟨v,r,d,BC (by simpa[Pi.Iz]using f),g⟩
  ·obtain⟨v,r,d,f,g⟩:=Jj (X:=X) e;exact⟨v,r,d,BC (by simpa[Pi.Iz]using f),g⟩
  ·rename_i t u;replace e:=AK e;obtain⟨C,e⟩:=e;obtain⟨v,r,d,f,g⟩:=Q4 (X:=X) e;refine⟨v,r,d,BC ?_,g⟩;unfold Pi.Iz;cases w<;>first|exact absurd rfl t|exact absurd rfl u|(simp only[C,zb];exact f)
 ·simp only[VR]at i j;subst i;subst j;obtain⟨v,r,d,f,g⟩:=RY (X:=X) e;exact⟨v,r,d,BC f,g⟩
 ·replace e:=AK e;obtain⟨hc,e⟩:=e;obtain⟨c,d,e⟩:=AD e;obtain⟨v,r,e1,f,g⟩:=IJ (X:=X) e (G3 64 i j d);simp only[VR]at i j;subst i;subst j;refine⟨v,r,e1,?_,g⟩;unfold Pi.Dd;simp only[hc,zb];exact BC (by rw[GA (by simp) (by simp)];exact f)
 ·rename_i I J;replace e:=BE e;obtain⟨hc,e⟩:=e;obtain⟨c,d,e⟩:=AD e;obtain⟨v,r,e1,f,g⟩:=IJ (X:=X) e (G3 64 i j d);obtain⟨M,rfl,A⟩:=i.agg_inv;obtain⟨N,rfl,B⟩:=j.agg_inv;refine⟨v,r,e1,?_,g⟩;unfold Pi.Dd;simp only[hc,zj];exact BC (by rw[GA (by simp) (by simp)];exact f)
 ·rename_i t u F G;obtain⟨c,d,e⟩:=AD e;obtain⟨v,r,e1,f,g⟩:=IJ (X:=X) e (G3 64 i j d);refine⟨v,r,e1,?_,g⟩;have o:=i.inv;have s:=j.inv;unfold Pi.Dd;split
  ·exact absurd (s.2.2.1 rfl) (F (o.2.2.1 rfl))
  ·obtain⟨_,D⟩:=o.2.2.2 _ rfl;obtain⟨_,E⟩:=s.2.2.2 _ rfl;exact absurd E (G _ _ D)
  ·refine BC ?_;rw[GA (λk n L m hh=>t _ _ _ _ (o.1 _ _ hh.1) (s.1 _ _ hh.2)) (λl m hh=>u _ _ (o.2.1 _ hh.1) (s.2.1 _ hh.2))];exact f
theorem SM{c:UnOp}{a:V}{p:PV}{K:V->Option β}(b:VR X a p)(e:UB c a K=zo x):∃ v r,K v=zo x/\Pi.TL c p=zo r/\VR X v r:=by
 unfold UB at e;split at e
 ·simp only[VR]at b;subst b;split at e
  ·exact⟨_,_,e,rfl,by simp[VR,Hl]⟩
  ·cases e
 ·simp only[VR]at b;subst b;split at e
  ·exact⟨_,_,e,rfl,by simp[VR,Sq]⟩
  ·cases e
 ·cases e
theorem N8:∀ {es:List V} {a:List PV} {K:List UInt8->Option β},VRL Cx.pure es a->Ra es K=zo x -> ∃ l,K l=zo x/\Pi.SL a=zo l
 |[],a,K,hv,e=>by
  simp only[VRL]at hv;subst hv;exact⟨[],e,rfl⟩
 |v::es,a,K,hv,e=>by
  unfold Ra at e;split at e
  ·rename_i h;cases h
  ·rename_i n l h;cases h;obtain⟨p,d,rfl,b,c⟩:=hv.cons_inv;simp only[VR]at b;subst b;obtain⟨l,e1,e2⟩:=N8 c e;exact⟨_,e1,by unfold Pi.SL;rw[e2];rfl⟩
  ·cases e
theorem LA{h:Hp}{s d:TypeId}{a:V}{p:PV}{K:V->Option β}(b:VR X a p)(e:IE P s d a K=zo x):∃ v r,K v=zo x/\Pi.BJ P h s d p=zo (.val r h)/\VR X v r:=by
 unfold IE at e;unfold Pi.BJ;split at e
 ·rename_i c g;simp only[VR]at b;subst b;exact⟨_,_,e,by simp only[c,g];rfl,by simp[VR,UJ]⟩
 ·rename_i c g;simp only[VR]at b;subst b;exact⟨_,_,e,by simp only[c,g];rfl,by simp[VR]⟩
 ·rename_i f es k c g;split at e
  ·rename_i i;simp only[VR]at b;obtain⟨m,n,rfl,_,j⟩:=b;obtain⟨l,e1,e2⟩:=N8 j e;exact⟨_,.str l,e1,by simp only[c,g,i,e2],by simp[VR]⟩
  ·cases e
 ·cases e
theorem Q0{h:Hp}{ty:TypeId}{a:V}{p:PV}{K:V->Option β}(b:VR X a p)(e:R0 P ty a K=zo x):∃ v r,K v=zo x/\Pi.Ea P h ty p=zo (.val r h)/\VR X v r:=by
 unfold R0 at e;unfold Pi.Ea;split at e
 ·cases e
 ·rename_i u c hh;refine⟨_,.ifc ty p,e,?_,by simp only[VR];exact⟨p,rfl,b⟩⟩;rw[hh];cases u<;>first|exact absurd rfl (c _)|rfl
 ·cases e
theorem RG{h:Hp}{a:V}{p:PV}{K:V->Option β}(b:VR X a p)(e:R7 a K=zo x):∃ v r,K v=zo x/\Pi.Er h p=zo (.val r h)/\VR X v r:=by
 unfold R7 at e;split at e
 ·refine⟨_,p,e,?_,b⟩;simp only[VR]at b;obtain⟨_,rfl,_⟩:=b;rfl
 ·refine⟨_,p,e,?_,b⟩;simp only[VR]at b;obtain⟨_,_,_,rfl⟩:=b;rfl
 ·refine⟨_,p,e,?_,b⟩;simp only[VR]at b;obtain⟨_,_,_,rfl⟩:=b;rfl
 ·refine⟨_,p,e,?_,b⟩;simp only[VR]at b;rcases b with⟨_,rfl,_⟩|⟨_,_,_,_,_,_,_,rfl,_⟩<;>rfl
 ·refine⟨_,p,e,?_,b⟩;simp only[VR]at b;obtain⟨_,rfl,_⟩:=b;rfl
 ·refine⟨_,p,e,?_,b⟩;simp only[VR]at b;obtain⟨_,_,_,rfl⟩:=b;rfl
 ·refine⟨_,p,e,?_,b⟩;simp only[VR]at b;obtain⟨_,_,rfl,_⟩:=b;rfl
 ·cases e
theorem OW{h:Hp}{ty:TypeId}{a:V}{p:PV}{f:Nat}{K:V->Option β}(j:VR X a p)(e:Mf P ty a f K=zo x):∃ v r,K v=zo x/\Pi.B6 P h ty p f=zo (.val r h)/\VR X v r:=by
 unfold Mf at e;split at e
 ·rename_i m cs l;obtain⟨n,rfl,b⟩:=j.agg_inv;split at e
  ·rename_i c k;obtain⟨v,d,e⟩:=AD e;obtain⟨r,g,i⟩:=Bd (b.drop c.offset) d;exact⟨v,r,e,by unfold Pi.B6;simp only[l,k];exact BC g,i⟩
  ·cases e
 ·cases e
end
end
section
variable[Pi.Gl]
open Pi (PV T Hp Blk DF UM PE)
def DFR(X:Cx):DFA->DF->Prop
 |.call f args,d=>∃ c a,d=.call c a/\VR X f c/\VRL X args a
 |.bi b ats ty args,d=>∃ a,d=.bi b ats ty a/\VRL X args a
 |.col id,d=>∃ pid n,X.π id=zo (.blk pid n)/\d=.col pid
theorem DFR.mono{X Y:Cx}(u:Up X Y):∀ {a:DFA} {d:DF},DFR X a d->DFR Y a d
 |.call _ _,_,⟨f,e,b,c,g⟩=>⟨f,e,b,c.mono u,g.mono u⟩
 |.bi _ _ _ _,_,⟨e,b,c⟩=>⟨e,b,c.mono u⟩
 |.col _,_,⟨pid,n,b,c⟩=>⟨pid,n,u.pi _ _ b,c⟩
def MR(X:Cx)(k:Ty)(g:Bool)(c:Ty)(u:k.den×c.den)(w:PV×PV):Prop:=DP k u.1 [w.1]/\EP g (DR X.h X.Q c) u.2 w.2
def BR(X:Cx):BA->Option At->Prop
 |.box cs fz _,a=>∃ pid n f b,a=zo (.blk pid n)/\X.O pid/\X.h.get pid=zo (.box f b)/\(fz=zf->b=zf)/\VRL X cs f
 |.row g c l ex fz _,a=>(∃ pid len es b,a=zo (.blk pid len)/\X.O pid/\X.h.get pid=zo (.row es ex b)/\(fz=zf->b=zf)/\es.length=len/\(ex=zf->0<len)/\L2 (EP g (DR X.h X.Q c)) l es) \/
   (a=zo .nil/\ex=zf/\l=[]) \/ ∃ es,a=zo (.fz es)/\ex=zf/\(fz=zt\/l=[])/\L2 (EP g (DP c)) l es
 |.mp k g c l _,a=>∃ pid n es,a=zo (.blk pid n)/\X.O pid/\X.h.get pid=zo (.mp es)/\L2 (MR X k g c) l es
 |.lp st pend nt t f asg body d,a=>∃ pid n j i m,a=zo (.blk pid n)/\X.O pid/\X.h.get pid=zo (.lp st pend nt j f asg body i)/\TR X t j/\X.π d=zo (.blk i m)/\nt<1048575
 |.df ds,a=>∃ pid n e,a=zo (.blk pid n)/\X.O pid/\X.h.get pid=zo (.df e)/\(match ds,e with
  |none,zn=>True
  |some l,zo m=>L2 (DFR X) l m
  |_,_=>False)
 |.dead,a=>∀ pid m,a=zo (.blk pid m)->X.O pid/\X.h.get pid=zo .dead
theorem EDR.mono{X Y:Cx}(u:Up X Y){g:Bool}{c:Ty}{l:List c.den}{es:List PV}(h:L2 (EP g (DR X.h X.Q c)) l es):L2 (EP g (DR Y.h Y.Q c)) l es:=
 h.mono λ_ _ k=>k.mono λ_ _ k=>DR.mono u.rows k
theorem BR.keep{X Y:Cx}(u:Up X Y){b:BA}{a:Option At}(h:BR X b a)(k:∀ pid n,a=zo (.blk pid n)->X.O pid->Y.h.get pid=X.h.get pid/\Y.O pid):BR Y b a:=by
 cases b with
 |box cs fz z=>
  obtain⟨pid,n,B,r,f,i,q,j,s⟩:=h;obtain⟨o,p⟩:=k _ _ f i;exact⟨pid,n,B,r,f,p,by rw[o,q],j,s.mono u⟩
 |row g c l ex fz z=>
  rcases h with⟨pid,len,es,r,f,i,q,j,s,E,x⟩|h|h
  ·obtain⟨o,p⟩:=k _ _ f i;exact .inl ⟨pid,len,es,r,f,p,by rw[o,q],j,s,E,EDR.mono u x⟩
  ·exact .inr (.inl h)
  ·exact .inr (.inr h)
 |mp I g c l z=>
  obtain⟨pid,n,es,f,i,q,j⟩:=h;obtain⟨o,p⟩:=k _ _ f i;exact⟨pid,n,es,f,p,by rw[o,q],j.mono λ_ _ m=>⟨m.1,m.2.mono λ_ _ k=>DR.mono u.rows k⟩⟩
 |lp J A nt t B C y d=>
  obtain⟨pid,n,F,D,m,f,i,q,j,s,x⟩:=h;obtain⟨o,p⟩:=k _ _ f i;exact⟨pid,n,F,D,m,f,p,by rw[o,q],j.mono u,u.pi _ _ s,x⟩
 |df G=>
  obtain⟨pid,n,w,f,i,q,j⟩:=h;obtain⟨o,p⟩:=k _ _ f i;refine⟨pid,n,w,f,p,by rw[o,q],?_⟩;split at j
  ·trivial
  ·exact j.mono λ_ _ m=>m.mono u
  ·exact j.elim
 |dead=>
  intro pid m e;obtain⟨f,i⟩:=h pid m e;obtain⟨o,p⟩:=k _ _ e f;exact⟨p,by rw[o,i]⟩
def BA.live:BA->Prop
 |.dead=>False
 |_=>True
theorem BR.own{X:Cx}{b:BA}{pid n:Nat}(h:BR X b (zo (.blk pid n)))(m:b.live):X.O pid:=by
 cases b with
 |box cs fz i=>obtain⟨_,_,_,_,a,e,_⟩:=h;cases a;exact e
 |row g c l ex fz i=>
  rcases h with⟨_,_,_,_,a,e,_⟩|⟨a,_⟩|⟨_,a,_⟩
  ·cases a;exact e
  ·cases a
  ·cases a
 |mp p g c l i=>obtain⟨_,_,_,a,e,_⟩:=h;cases a;exact e
 |lp r j nt t q k f d=>obtain⟨_,_,_,_,_,a,e,_⟩:=h;cases a;exact e
 |df o=>obtain⟨_,_,_,a,e,_⟩:=h;cases a;exact e
 |dead=>exact m.elim
theorem BR.nd{X:Cx}{b:BA}{pid n:Nat}(h:BR X b (zo (.blk pid n)))(m:b.live):X.h.get pid≠zo .dead:=by
 cases b with
 |box cs fz i=>obtain⟨_,_,_,_,a,_,e,_⟩:=h;cases a;rw[e];simp
 |row g c l ex fz i=>
  rcases h with⟨_,_,_,_,a,_,e,_⟩|⟨a,_⟩|⟨_,a,_⟩
  ·cases a;rw[e];simp
  ·cases a
  ·cases a
 |mp p g c l i=>obtain⟨_,_,_,a,_,e,_⟩:=h;cases a;rw[e];simp
 |lp r j nt t q k f d=>obtain⟨_,_,_,_,_,a,_,e,_⟩:=h;cases a;rw[e];simp
 |df o=>obtain⟨_,_,_,a,_,e,_⟩:=h;cases a;rw[e];simp
 |dead=>exact m.elim
structure RH (X:Cx) (h:H) (n:Nat):Prop where
 blk:∀ id b,h.get id=zo b->BR X b (X.π id)
 inj:∀ id id' b b' pid m m',h.get id=zo b->h.get id'=zo b'->b.live->b'.live->X.π id=zo (.blk pid m)->X.π id'=zo (.blk pid m')->id=id'
 dom:∀ id a,X.π id=zo a->id<n
 fresh:∀ pid,X.h.nx<=pid->X.h.get pid=zn
 ob:∀ q,X.O q->X.h.get q≠zn
theorem AI{h:H}{id:Nat}(a:id<1048575){b:BA}{k:Nat}:(AG h id b).get k=if k=id then zo b else h.get k:=by
 have c:(2:Nat) ^ 20-1=1048575:=by decide
 exact T.get_put 20 h id b k (by omega)
structure St (X:Cx) (h:H) (id idP:Nat) (Y:Cx) (h':H):Prop where
 up:Up X Y
 nx:Y.h.nx=X.h.nx
 pin:∀ j,j≠id->X.π j=zn->Y.π j=zn
 hpn:∀ q,q≠idP->X.h.get q=zn->Y.h.get q=zn
 lk:∀ j b,h.get j=zo b->b.locked=zt->h'.get j=zo b
 lps:∀ q st pe nt t ps asg body d,X.h.get q=zo (.lp st pe nt t ps asg body d)->Y.h.get q=zo (.lp st pe nt t ps asg body d)
theorem St.refl(X:Cx)(h:H)(id idP:Nat):St X h id idP X h:=⟨Up.refl X,rfl,λ_ _ h=>h,λ_ _ h=>h,λ_ _ h _=>h,λ_ _ _ _ _ _ _ _ _ h=>h⟩
theorem St.trans{X Y Z:Cx}{h h' h'':H}{id idP:Nat}(a:St X h id idP Y h')(b:St Y h' id idP Z h''):St X h id idP Z h'':=
 ⟨a.up.trans b.up,b.nx.trans a.nx,λj c k=>b.pin j c (a.pin j c k),λj c k=>b.hpn j c (a.hpn j c k),λj x k l=>b.lk j x (a.lk j x k l) l,
  λq m g nt t i f e d k=>b.lps _ _ _ _ _ _ _ _ _ (a.lps _ _ _ _ _ _ _ _ _ k)⟩
def DU{α:Type}(f:Nat->α)(i:Nat)(a:α):Nat->α:=λj=>if j=i then a else f j
section
variable{X:Cx}{h:H}{n:Nat}
theorem RH.set(r:RH X h n){id pid m:Nat}{b b':BA}{bP x:Blk}{c:Hp}(p:id<1048575)(s:h.get id=zo b)(z:b.live)(hk:b.locked=zf)(L:X.π id=zo (.blk pid m))(f:X.h.get pid=zo x)
  (K:∀ st pe nt t ps w l d,x ≠ .lp st pe nt t ps w l d)
  (e:X.h.set pid bP=zo c) (hb:∀ Y:Cx,Y.π=X.π->Y.h=c->Y.O=X.O->Up X Y->BR Y b' (X.π id)) (M:Nat) :
  ∃ Y:Cx,Y.π=X.π/\Y.h=c/\Y.O=X.O/\RH Y (AG h id b') n /\ ∀ i,St X h i M Y (AG h id b'):=by
 obtain⟨o,N⟩:=Hp.get_set e;have hO:X.O pid:=(L ▸ r.blk _ _ s).own z
 let Y:Cx:={ π:=X.π,h:=c,O:=X.O }
 have u:Up X Y:=⟨λ_ _ h=>h,λq es ex fz a hg=>⟨⟨fz,by
  show c.get q=_
  rw[o,zx (by intro hh;subst hh;exact a hO),hg]⟩,a⟩⟩
 refine⟨Y,rfl,rfl,rfl,⟨λi D hi=> ?_,λi S D bb' q m1 m2 hi g W Z=> ?_,r.dom,λq a=> ?_,λq a=>by
  show c.get q≠zn;rw[o];split
  ·simp
  ·exact r.ob _ a⟩,λi=>⟨u,N,λ_ _ h=>h,λq a P=> ?_,λj D J A=> ?_,λq st pe nt t ps w l d a=> ?_⟩⟩
 ·rw[AI p]at hi;by_cases k:i=id
  ·rw[zy k]at hi;cases hi;subst k;exact hb Y rfl rfl rfl u
  ·rw[zx k]at hi;by_cases B:D.live
   ·refine(r.blk _ _ hi).keep u λq m' a I=>⟨?_,I⟩;show c.get q=_;rw[o,zx];intro hh;subst hh;exact k (r.inj _ _ _ _ _ _ _ hi s B z a L)
   ·cases D with
    |dead=>
     intro q m' a;obtain⟨k1,U⟩:=r.blk _ _ hi q m' a;refine⟨k1,?_⟩;show c.get q=_;rw[o,zx]
     ·exact U
     ·intro hh;subst hh;exact(L ▸ r.blk _ _ s).nd z U
    |_=>exact absurd trivial B
 ·rw[AI p]at hi g;by_cases G:i=id
  ·by_cases y:S=id
   ·intro _ _;rw[G,y]
   ·rw[zx y]at g;subst G;intro E F;exact r.inj _ _ _ _ _ _ _ s g z Z E F
  ·rw[zx G]at hi;by_cases y:S=id
   ·subst y;intro E F;exact r.inj _ _ _ _ _ _ _ hi s W z E F
   ·rw[zx y]at g;exact r.inj _ _ _ _ _ _ _ hi g W Z
 ·show c.get q=zn;have C:X.h.nx<=q:=by rw[<- N];exact a
  rw[o,zx (by intro hh;subst hh;rw[r.fresh _ C]at f;cases f)];exact r.fresh _ C
 ·show c.get q=zn;rw[o,zx (by intro hh;subst hh;rw[P]at f;cases f)];exact P
 ·rw[AI p];rw[zx (by intro hh;subst hh;rw[s]at J;cases J;rw[hk]at A;cases A)];exact J
 ·show c.get q=_;rw[o,zx (by intro hh;subst hh;rw[f]at a;exact K _ _ _ _ _ _ _ _ (Option.some.inj a))];exact a
theorem RH.new(r:RH X h n){id pid m:Nat}{b:BA}{bP:Blk}{z:Hp}(G:id<1048575)(Z:id<n)(hp:X.π id=zn)(hlt:pid<X.h.nx)
  (e:X.h.new pid bP=zo z) (hb:∀ Y:Cx,Y.π=Sv.DU X.π id (zo (.blk pid m))->Y.h=z->(∀ q,Y.O q<->X.O q\/q=pid)->Up X Y->BR Y b (zo (.blk pid m))) :
  ∃ Y:Cx,Y.π=Sv.DU X.π id (zo (.blk pid m))/\Y.h=z/\RH Y (AG h id b) n/\St X h id pid Y (AG h id b):=by
 obtain⟨D,E,g2⟩:=Hp.get_new e
 let Y:Cx:={ π:=Sv.DU X.π id (zo (.blk pid m)),h:=z,O:=λq=>X.O q\/q=pid }
 have o:∀ j,j≠id->Y.π j=X.π j:=λj y=>zx y;have C:Y.π id=zo (.blk pid m):=zy rfl
 have u:Up X Y:=⟨λj a y=>by
  rw[o j (by intro hh;subst hh;rw[hp]at y;cases y)];exact y,λq es ex fz hq A=>by
  have P:q≠pid:=by intro hh;subst hh;rw[D]at A;cases A
  exact⟨⟨fz,by show z.get q=_;rw[E,zx P,A]⟩,λhO=>hO.elim hq P⟩⟩
 have I:h.get id=zn \/ ∃ p,h.get id=zo p /\ ¬ p.live:=by
  cases A:h.get id with
  |none=>exact .inl rfl
  |some p=>
   refine .inr ⟨p,rfl,λM=> ?_⟩;have:=r.blk _ _ A;rw[hp]at this;cases p<;>first|exact M|(simp[BR]at this)
 have w:∀ {i:Nat} {p:BA} {m1:Nat},h.get i=zo p->p.live->X.π i=zo (.blk pid m1)->False:=by
  intro i p m1 A M hpp;have:=r.blk _ _ A;rw[hpp]at this;cases p with
  |dead=>exact M
  |box cs fz lk=>obtain⟨_,_,_,_,f,_,x,_⟩:=this;cases f;rw[D]at x;cases x
  |row g c l ex fz lk=>
   rcases this with⟨_,_,_,_,f,_,x,_⟩|⟨f,_⟩|⟨_,f,_⟩
   ·cases f;rw[D]at x;cases x
   ·cases f
   ·cases f
  |mp kk g c l lk=>obtain⟨_,_,_,f,_,x,_⟩:=this;cases f;rw[D]at x;cases x
  |lp st pend nt t ps S L d=>obtain⟨_,_,_,_,_,f,_,x,_⟩:=this;cases f;rw[D]at x;cases x
  |df ds=>obtain⟨_,_,_,f,_,x,_⟩:=this;cases f;rw[D]at x;cases x
 refine⟨Y,rfl,rfl,⟨λi p hi=> ?_,λi i' p bb' q m1 m2 hi B l1 l2 J K=> ?_,λi a hi=> ?_,λq hq=> ?_,λq hq=>by
  show z.get q≠zn;rw[E];split
  ·simp
  ·rcases hq with hq|hq
   ·exact r.ob _ hq
   ·exact absurd hq ‹_›⟩,⟨u,g2,λj y k=>by rw[o j y];exact k,λq hq Z=> ?_,λj p y W=> ?_,λq st pe nt t ps S L d hq=> ?_⟩⟩
 ·rw[AI G]at hi;by_cases s:i=id
  ·rw[zy s]at hi;cases hi;subst s;rw[C];exact hb Y rfl rfl (λq=>Iff.rfl) u
  ·rw[zx s]at hi;rw[o i s];by_cases N:p.live
   ·refine(r.blk _ _ hi).keep u λq m' hq U=>⟨?_,.inl U⟩;show z.get q=_;rw[E,zx];intro hh;subst hh;exact w hi N hq
   ·cases p with
    |dead=>
     intro q m' hq;obtain⟨k1,k2⟩:=r.blk _ _ hi q m' hq;refine⟨.inl k1,?_⟩;show z.get q=_;rw[E,zx (by intro hh;subst hh;rw[D]at k2;cases k2)];exact k2
    |_=>exact absurd trivial N
 ·rw[AI G]at hi B;by_cases f:i=id
  ·by_cases F:i'=id
   ·rw[f,F]
   ·rw[zx F]at B;subst f;rw[C]at J;cases J;exact(w B l2 (o _ F ▸ K)).elim
  ·rw[zx f]at hi;by_cases F:i'=id
   ·subst F;rw[C]at K;cases K;exact(w hi l1 (o _ f ▸ J)).elim
   ·rw[zx F]at B;rw[o _ f]at J;rw[o _ F]at K;exact r.inj _ _ _ _ _ _ _ hi B l1 l2 J K
 ·by_cases s:i=id
  ·rw[s];exact Z
  ·rw[o i s]at hi;exact r.dom _ _ hi
 ·show z.get q=zn;have hq':X.h.nx<=q:=by rw[<- g2];exact hq
  rw[E,zx (by omega)];exact r.fresh _ hq'
 ·show z.get q=zn;rw[E,zx hq];exact Z
 ·rw[AI G,zx]
  ·exact y
  ·intro hh;subst hh;rcases I with A|⟨b0,A,M⟩
   ·rw[A]at y;cases y
   ·rw[A]at y;cases y;cases p with
    |dead=>cases W
    |_=>exact absurd trivial M
 ·show z.get q=_;rw[E,zx (by intro hh;subst hh;rw[D]at hq;cases hq)];exact hq
end
end
section
variable[Pi.Gl]
open Pi (PV T Hp Blk DF UM PE)
section
variable{X:Cx}{h:H}{n:Nat}
theorem RH.alias(r:RH X h n){id:Nat}{b:BA}{a:At}(s:id<1048575)(E:id<n)(I:X.π id=zn)(L:∀ pid m,a ≠ .blk pid m)(M:∀ Y:Cx,Up X Y->BR Y b (zo a))(F:Nat) :
  ∃ Y:Cx,Y.π=Sv.DU X.π id (zo a)/\Y.h=X.h/\RH Y (AG h id b) n/\St X h id F Y (AG h id b):=by
 let Y:Cx:={ π:=Sv.DU X.π id (zo a),h:=X.h,O:=X.O }
 have f:∀ j,j≠id->Y.π j=X.π j:=λj g=>zx g;have o:Y.π id=zo a:=zy rfl
 have u:Up X Y:=⟨λj a g=>by
  rw[f j (by intro hh;subst hh;rw[I]at g;cases g)];exact g,λq es ex fz x C=>⟨⟨fz,C⟩,x⟩⟩
 have w:∀ l,h.get id=zo l -> ¬ l.live:=λl C N=>by
  have:=r.blk _ _ C;rw[I]at this;cases l<;>first|exact N|(simp[BR]at this)
 refine⟨Y,rfl,rfl,⟨λi l hi=> ?_,λi U l K q Z m2 hi p P S y z=> ?_,λi a hi=> ?_,r.fresh,r.ob⟩,⟨u,rfl,λj g k=>by rw[f j g];exact k,λq x E=>E,λj l g D=> ?_,λq st pe nt t ps J G d x=>x⟩⟩
 ·rw[AI s]at hi;by_cases c:i=id
  ·rw[zy c]at hi;cases hi;subst c;rw[o];exact M Y u
  ·rw[zx c]at hi;rw[f i c];exact(r.blk _ _ hi).keep u λq W x B=>⟨rfl,B⟩
 ·rw[AI s]at hi p
  have A:∀ {i:Nat} {q m:Nat},Y.π i=zo (.blk q m)->i≠id:=λhh e=>by
   subst e;rw[o]at hh;exact L _ _ (Option.some.inj hh)
  rw[zx (A y)]at hi;rw[zx (A z)]at p;rw[f _ (A y)]at y;rw[f _ (A z)]at z;exact r.inj _ _ _ _ _ _ _ hi p P S y z
 ·by_cases c:i=id
  ·rw[c];exact E
  ·rw[f i c]at hi;exact r.dom _ _ hi
 ·rw[AI s,zx]
  ·exact g
  ·intro hh;subst hh;have:=w _ g;cases l<;>first|exact absurd trivial this|cases D
theorem RH.dead(r:RH X h n){j:Nat}{b:BA}(f:j<1048575)(A:h.get j=zo b)(B:b.locked=zf)(l:∀ pid m,X.π j≠zo (.blk pid m))(o:Nat):RH X (AG h j .dead) n /\ ∀ i,St X h i o X (AG h j .dead):=by
 refine⟨⟨λi c hi=> ?_,λi E c z q F G hi g s u w x=> ?_,r.dom,r.fresh,r.ob⟩,λi=>⟨Up.refl X,rfl,λ_ _ h=>h,λ_ _ h=>h,λi c hi k=> ?_,λq K I nt t J y p d D=>D⟩⟩
 ·rw[AI f]at hi;by_cases a:i=j
  ·rw[zy a]at hi;cases hi;subst a;exact λpid m e=>absurd e (l _ _)
  ·rw[zx a]at hi;exact r.blk _ _ hi
 ·rw[AI f]at hi g
  have nd:∀ {i:Nat} {c:BA},(if i=j then zo BA.dead else h.get i)=zo c->c.live->h.get i=zo c:=fun {i c} e C=>by
   by_cases a:i=j
   ·rw[zy a]at e;cases e;exact C.elim
   ·rw[zx a]at e;exact e
  exact r.inj _ _ _ _ _ _ _ (nd hi s) (nd g u) s u w x
 ·rw[AI f,zx]
  ·exact hi
  ·intro hh;subst hh;rw[A]at hi;cases hi;rw[B]at k;cases k
end
def DX(h:Hp)(Q d:Nat->Prop):(c:Ty)->c.den->List PV->Prop
 |.int k,n,ps=>ps=[.int k n]
 |.bool,b,ps=>ps=[.bool b]
 |.str,s,ps=>ps=[.str s]
 |.unit,_,ps=>ps=[]
 |.pair a b,x,ps=>∃ p q,ps=p++q/\DX h Q d a x.1 p/\DX h Q d b x.2 q
 |.sl g c,l,ps=>∃ p,ps=[p]/\((p=.nils/\l=[])\/(∃ f es,p=.lst f es/\L2 (EP g (DP c)) l es) \/
   ∃ pid off len es ex fz,p=.own pid off len/\Q pid/\h.get pid=zo (.row es ex fz)/\off+len<=es.length/\Pi.Ce c.wd es=zt/\L2 (EP g (DR h d c)) l ((es.drop off).take len))
theorem DX.same{h:Hp}{Q:Nat->Prop}:∀ {c:Ty} {x:c.den} {a:List PV},DX h Q Q c x a->DR h Q c x a
 |.int _,_,_,e=>e
 |.bool,_,_,e=>e
 |.str,_,_,e=>e
 |.unit,_,_,e=>e
 |.pair _ _,_,_,⟨p,q,e,b,d⟩=>⟨p,q,e,DX.same b,DX.same d⟩
 |.sl _ _,_,_,h=>h
theorem DR.pure{Q:Nat->Prop}:∀ {c:Ty} {x:c.den} {d:List PV},DR D1 Q c x d->DP c x d
 |.int _,_,_,e=>e
 |.bool,_,_,e=>e
 |.str,_,_,e=>e
 |.unit,_,_,e=>e
 |.pair _ _,_,_,⟨p,q,e,a,b⟩=>⟨p,q,e,DR.pure a,DR.pure b⟩
 |.sl _ _,_,_,⟨p,e,h⟩=>⟨p,e,by
  rcases h with h|h|⟨pid,off,len,es,ex,fz,a,b,f,g,i⟩
  ·exact .inl h
  ·exact .inr h
  ·cases f⟩
theorem DX.pure{Q f:Nat->Prop}:∀ {c:Ty} {x:c.den} {d:List PV},DX D1 Q f c x d->DP c x d
 |.int _,_,_,e=>e
 |.bool,_,_,e=>e
 |.str,_,_,e=>e
 |.unit,_,_,e=>e
 |.pair _ _,_,_,⟨p,q,e,a,b⟩=>⟨p,q,e,DX.pure a,DX.pure b⟩
 |.sl _ _,_,_,⟨p,e,h⟩=>⟨p,e,by
  rcases h with h|h|⟨pid,off,len,es,ex,fz,a,b,g,i,j⟩
  ·exact .inl h
  ·exact .inr h
  ·cases g⟩
theorem DR.leaf:∀ {hh:Hp} {Q:Nat->Prop} {c:Ty} {y:c.den} {d:List PV},DR hh Q c y d -> ∀ p∈d,(∀ cs,p ≠ .agg cs)/\(∀ cs,p ≠ .tup cs)/\p.cells=[p]
 |_,_,.int _,_,_,e,p,hp=>by subst e;simp at hp;subst hp;simp[PV.cells]
 |_,_,.bool,_,_,e,p,hp=>by subst e;simp at hp;subst hp;simp[PV.cells]
 |_,_,.str,_,_,e,p,hp=>by subst e;simp at hp;subst hp;simp[PV.cells]
 |_,_,.unit,_,_,e,p,hp=>by subst e;simp at hp
 |_,_,.pair _ _,_,_,⟨a,b,e,g,i⟩,p,hp=>by
  subst e;rcases List.mem_append.1 hp with hp|hp
  ·exact g.leaf p hp
  ·exact i.leaf p hp
 |_,_,.sl _ _,_,_,⟨a,e,h⟩,p,hp=>by
  subst e;simp at hp;subst hp;rcases h with⟨rfl,_⟩|⟨f,es,rfl,_⟩|⟨pid,off,len,es,ex,fz,rfl,_⟩<;>simp[PV.cells]
theorem EP.cells{g:Bool}{hh:Hp}{Q:Nat->Prop}{c:Ty}{y:c.den}{e:PV}(h:EP g (DR hh Q c) y e):DR hh Q c y e.cells:=by
 cases g with
 |true=>obtain⟨cs,rfl,h⟩:=h;exact h
 |false=>
  have h':DR hh Q c y [e]:=h;rw[(h'.leaf e (by simp)).2.2];exact h'
theorem DR.wd:∀ {hh:Hp} {Q:Nat->Prop} {c:Ty} {y:c.den} {d:List PV},DR hh Q c y d->d.length=c.wd
 |_,_,.int _,_,_,e=>by subst e;rfl
 |_,_,.bool,_,_,e=>by subst e;rfl
 |_,_,.str,_,_,e=>by subst e;rfl
 |_,_,.unit,_,_,e=>by subst e;rfl
 |_,_,.pair _ _,_,_,⟨a,b,e,f,g⟩=>by subst e;rw[List.length_append,f.wd,g.wd];rfl
 |_,_,.sl _ _,_,_,⟨a,e,h⟩=>by subst e;rfl
theorem EP.wd{g:Bool}{hh:Hp}{Q:Nat->Prop}{c:Ty}{y:c.den}{e:PV}(h:EP g (DR hh Q c) y e):e.cells.length=c.wd:=h.cells.wd
theorem Ay{g:Bool}{hh:Hp}{Q:Nat->Prop}{c:Ty}{l:List c.den}{es:List PV}{b:Nat}(hs:b=c.wd)(h:L2 (EP g (DR hh Q c)) l es):Pi.Ce b es=zt:=by
 cases h with
 |nil=>rfl
 |cons a _=>simp only[Pi.Ce,a.wd];simp[hs]
theorem EP.agg_inv{α:Type}{D:α->List PV->Prop}{x:α}{e:PV}(h:EP zt D x e):∃ cs,e=.agg cs/\D x cs:=h
section
variable{β:Type}{x:β}
theorem LC{α:Type}{d:V->(α->Option β)->Option β}{X:Cx}{R:α->PV->Prop}(b:∀ {v:V} {p:PV} {K:α->Option β},VR X v p->d v K=zo x -> ∃ y,K y=zo x/\R y p) :
  ∀ {vs:List V} {c:List PV} {K:List α->Option β},VRL X vs c->PH d vs K=zo x -> ∃ a,K a=zo x/\L2 R a c
 |[],_,K,h,e=>by rw[h.nil_inv];exact⟨[],e,.nil⟩
 |v::vs,_,K,h,e=>by
  obtain⟨p,k,rfl,f,g⟩:=h.cons_inv;obtain⟨y,e1,i⟩:=b f e;obtain⟨a,e2,j⟩:=LC b g e1;exact⟨y::a,e2,.cons i j⟩
theorem KP{α:Type}{R:α->PV->Prop}{l:List α}{es:List PV}(h:L2 R l es)(off len:Nat):L2 R (D6 l off (BG off len)) ((es.drop off).take len):=by
 unfold D6 BG;rw[show off+len-off=len from by omega];exact(h.drop off).take len
theorem Hb:∀ (a b:List V),FX (a++b)=FX a++FX b
 |[],b=>rfl
 |v::a,b=>by
  have c:=Hb a b;cases v<;>simp[FX,c]
theorem Pf{id:Nat}{v:V}(h:id∈FX [v]):id∈FX v.cells:=by
 cases v<;>first|exact h|(simp[FX]at h)
theorem C7:∀ {c:Ty} {X:Cx} {h:H} {Q:Nat->Prop} {vs:List V} {A:List PV} {K:c.den->List V->Option β},
  (∀ id b a,h.get id=zo b->X.π id=zo a->BR X b (zo a))->(∀ id b pid m,id∈FX vs->h.get id=zo b->X.π id=zo (.blk pid m)->Q pid)->(∀ pid,X.Q pid->Q pid) ->
  VRL X vs A->Dw h c vs K=zo x -> ∃ y r p q,K y r=zo x/\A=p++q/\DX X.h Q X.Q c y p/\VRL X r q /\ ∃ s,vs=s++r
 |.int k,X,h,Q,vs,A,K,hb,hq,hQ,i,e=>by
  unfold Dw at e;split at e
  ·replace e:=AK e;obtain⟨hk,e⟩:=e;obtain⟨p,o,rfl,d,j⟩:=i.cons_inv;simp only[VR]at d;subst d;have:=eq_of_beq hk;subst this;exact⟨_,_,[_],o,e,rfl,rfl,j,[_],rfl⟩
  ·cases e
 |.bool,X,h,Q,vs,A,K,hb,hq,hQ,i,e=>by
  unfold Dw at e;split at e
  ·obtain⟨p,o,rfl,d,j⟩:=i.cons_inv;simp only[VR]at d;subst d;exact⟨_,_,[_],o,e,rfl,rfl,j,[_],rfl⟩
  ·cases e
 |.str,X,h,Q,vs,A,K,hb,hq,hQ,i,e=>by
  unfold Dw at e;split at e
  ·obtain⟨p,o,rfl,d,j⟩:=i.cons_inv;simp only[VR]at d;subst d;exact⟨_,_,[_],o,e,rfl,rfl,j,[_],rfl⟩
  ·cases e
 |.unit,X,h,Q,vs,A,K,hb,hq,hQ,i,e=>by
  unfold Dw at e;exact⟨(),vs,[],A,e,rfl,rfl,i,[],rfl⟩
 |.pair a b,X,h,Q,vs,A,K,hb,hq,hQ,i,e=>by
  unfold Dw at e;obtain⟨y,r,p,q,e1,rfl,F,D,s1,rfl⟩:=C7 hb hq hQ i e;obtain⟨z,r',S,q',e2,rfl,U,r2,s2,rfl⟩:=C7 hb (λid b pid m hi=>hq id b pid m (by rw[Hb];exact List.mem_append_right _ hi)) hQ D e1;exact⟨(y,z),r',p++S,q',e2,by simp,⟨p,S,rfl,F,U⟩,r2,s1++s2,by simp⟩
 |.sl g c,X,h,Q,vs,A,K,hb,hq,hQ,i,e=>by
  unfold Dw at e;split at e
  ·obtain⟨p,o,rfl,d,j⟩:=i.cons_inv;simp only[VR]at d;subst d;exact⟨[],_,[_],o,e,rfl,⟨_,rfl,.inl ⟨rfl,rfl⟩⟩,j,[_],rfl⟩
  ·rename_i L J l r;replace e:=AK e;obtain⟨u,e⟩:=e;have:=eq_of_beq u;subst this;obtain⟨hc,e⟩:=A7 e;subst hc;obtain⟨p,o,rfl,d,j⟩:=i.cons_inv;refine⟨l,_,[p],o,e,rfl,⟨p,rfl,?_⟩,j,[_],rfl⟩;simp only[VR]at d;rcases d with d|⟨f,es,d,_,C⟩|⟨pid,off,len,es,ex,fz,d,_,C,Y,I,h8,Z⟩
   ·exact .inl d
   ·exact .inr (.inl ⟨f,es,d,C⟩)
   ·exact .inr (.inr ⟨pid,off,len,es,ex,fz,d,hQ _ C,Y,I,h8,Z⟩)
  ·rename_i L J l r;replace e:=AK e;obtain⟨u,e⟩:=e;have:=eq_of_beq u;subst this;obtain⟨hc,e⟩:=A7 e;subst hc;obtain⟨p,o,rfl,d,j⟩:=i.cons_inv;refine⟨l,_,[p],o,e,rfl,⟨p,rfl,?_⟩,j,[_],rfl⟩;simp only[VR]at d;rcases d with d|⟨f,es,d,C⟩
   ·exact .inl d
   ·exact .inr (.inl ⟨f,es,d,C⟩)
  ·rename_i f es r;obtain⟨p,o,rfl,d,j⟩:=i.cons_inv;simp only[VR]at d;obtain⟨W,A,rfl,_,C⟩:=d
   obtain⟨ys,e1,D⟩:=LC (X:=Cx.pure) (R:=EP g (DP c)) (fun {v p K'} i e=>by
    rcases BV e with⟨u,e⟩|⟨u,e⟩
    ·subst u;split at e
     ·obtain⟨cs,rfl,N⟩:=i.agg_inv;obtain⟨y,r,p,q,e1,rfl,F,D,_⟩:=C7 (c:=c) (Q:=λ_=>True) (λ_ _ _ _ h=>(by cases h)) (λ_ _ _ _ _ _ h=>(by cases h)) (λ_ _=>trivial) N e;split at e1
      ·rw[D.nil_inv];exact⟨y,e1,_,rfl,by rw[aL];exact F.pure⟩
      ·cases e1
     ·cases e
    ·subst u;obtain⟨y,r,p,q,e1,I,F,D,_⟩:=C7 (c:=c) (Q:=λ_=>True) (λ_ _ _ _ h=>(by cases h)) (λ_ _ _ _ _ _ h=>(by cases h)) (λ_ _=>trivial) (VRL.cons i .nil) e;split at e1
     ·rw[D.nil_inv,aL]at I;subst I;exact⟨y,e1,F.pure⟩
     ·cases e1) C e
   exact⟨ys,_,[_],o,e1,rfl,⟨_,rfl,.inr (.inl ⟨W,A,rfl,D⟩)⟩,j,[_],rfl⟩
  ·rename_i id r;split at e
   ·rename_i L J l ex fz lk n;replace e:=AK e;obtain⟨u,e⟩:=e;have:=eq_of_beq u;subst this;obtain⟨hc,e⟩:=A7 e;subst hc;obtain⟨p,o,rfl,d,j⟩:=i.cons_inv;refine⟨l,_,[p],o,e,rfl,⟨p,rfl,?_⟩,j,[_],rfl⟩;simp only[VR]at d;cases t:X.π id with
    |none=>rw[t]at d;exact d.elim
    |some a=>
     rw[t]at d;rcases hb _ _ _ n t with⟨pid,len,es,B,w,G,O,k4,k5,k7,E⟩|⟨w,_,G⟩|⟨es,w,_,_,G⟩
     ·cases w;simp only at d;subst d;refine .inr (.inr ⟨pid,0,len,es,ex,B,rfl,hq _ _ _ _ (by simp[FX]) n t,O,by omega,Ay rfl E,?_⟩);rw[List.drop_zero,bM (by omega)];exact E
     ·cases w;simp only at d;exact .inl ⟨d,G⟩
     ·cases w;simp only at d;exact .inr (.inl ⟨zt,es,d,G⟩)
   ·cases e
  ·rename_i id off len r;split at e
   ·rename_i L J l ex fz lk n;replace e:=AK e;obtain⟨u,e⟩:=e;have:=eq_of_beq u;subst this;obtain⟨M,e⟩:=AJ e;obtain⟨hc,e⟩:=A7 e;subst hc;obtain⟨p,o,rfl,d,j⟩:=i.cons_inv;refine⟨_,_,[p],o,e,rfl,⟨p,rfl,?_⟩,j,[_],rfl⟩;simp only[VR]at d;obtain⟨pid,m,t,rfl⟩:=d;rcases hb _ _ _ n t with⟨pid,P,es,B,w,G,O,k4,k5,k7,E⟩|⟨w,_⟩|⟨es,w,_⟩
    ·cases w;refine .inr (.inr ⟨_,off,len,es,ex,B,rfl,hq _ _ _ _ (by simp[FX]) n t,O,?_,Ay rfl E,?_⟩)
     ·rw[<- E.length];simpa[CI,BG,AR]using M
     ·exact KP E off len
    ·cases w
    ·cases w
   ·cases e
  ·cases e
theorem GM{c:Ty}{X:Cx}{vs:List V}{a:List PV}{K:c.den->List V->Option β}(i:VRL X vs a)(e:Dw .lf c vs K=zo x):∃ y r p q,K y r=zo x/\a=p++q/\DR X.h X.Q c y p/\VRL X r q:=
 by
 obtain⟨y,r,p,q,b,d,f,g,_⟩:=C7 (Q:=X.Q) (λ_ _ _ h=>(by cases h)) (λ_ _ _ _ _ h=>(by cases h)) (λ_ h=>h) i e;exact⟨y,r,p,q,b,d,f.same,g⟩
theorem Em{g:Bool}{c:Ty}{X:Cx}{v:V}{p:PV}{K:c.den->Option β}(j:VR X v p)(e:GN .lf g c v K=zo x):∃ y,K y=zo x/\EP g (DR X.h X.Q c) y p:=by
 unfold GN at e;rcases BV e with⟨b,e⟩|⟨b,e⟩
 ·subst b;split at e
  ·obtain⟨cs,rfl,d⟩:=j.agg_inv;obtain⟨y,r,p,q,e1,rfl,a,f⟩:=GM d e;split at e1
   ·rw[f.nil_inv];exact⟨y,e1,_,rfl,by rw[aL];exact a⟩
   ·cases e1
  ·cases e
 ·subst b;obtain⟨y,r,p,q,e1,i,a,f⟩:=GM (VRL.cons j .nil) e;split at e1
  ·rw[f.nil_inv,aL]at i;subst i;exact⟨y,e1,a⟩
  ·cases e1
theorem GO{g:Bool}{c:Ty}{X:Cx}{h:H}{n:Nat}{Q:Nat->Prop}(r:RH X h n){v:V}{p:PV}{K:c.den->Option β}(t:∀ id pid m,id∈FX v.cells->X.π id=zo (.blk pid m)->Q pid)(o:∀ pid,X.Q pid->Q pid)(u:VR X v p)(e:GN h g c v K=zo x):∃ y,K y=zo x/\EP g (DX X.h Q X.Q c) y p:=by
 unfold GN at e;have s:∀ id b a,h.get id=zo b->X.π id=zo a->BR X b (zo a):=λid b a w z=>z ▸ r.blk _ _ w;rcases BV e with⟨f,e⟩|⟨f,e⟩
 ·subst f;split at e
  ·obtain⟨cs,rfl,j⟩:=u.agg_inv;obtain⟨y,r,p,q,e1,rfl,d,k,_⟩:=C7 (Q:=Q) s (λid b pid m hi _ i=>t id pid m hi i) o j e;split at e1
   ·rw[k.nil_inv];exact⟨y,e1,_,rfl,by rw[aL];exact d⟩
   ·cases e1
  ·cases e
 ·subst f;obtain⟨y,r,p,q,e1,l,d,k,_⟩:=C7 (Q:=Q) s (λid b pid m hi _ i=>t id pid m (Pf hi) i) o (VRL.cons u .nil) e;split at e1
  ·rw[k.nil_inv,aL]at l;subst l;exact⟨y,e1,d⟩
  ·cases e1
theorem JH{g:Bool}{c:Ty}{X:Cx}{h:H}{n:Nat}(r:RH X h n){v:V}{p:PV}{K:List c.den->Option β}(y:VR X v p)(e:Jy h g c v K=zo x) :
  ∃ l es,K l=zo x/\Pi.BX X.h p=zo es/\L2 (EP g (DR X.h X.Q c)) l es:=by
 unfold Jy at e;have w:∀ id b a,h.get id=zo b->X.π id=zo a->BR X b (zo a):=λid b a t u=>u ▸ r.blk _ _ t;obtain⟨l,C,A,q,e1,i,d,B,_⟩:=C7 (Q:=λ_=>True) w (λ_ _ _ _ _ _ _=>trivial) (λ_ _=>trivial) (VRL.cons y .nil) e;obtain⟨z,rfl,d⟩:=d
 have:p=z:=by
  cases q with
  |nil=>simpa using i
  |cons=>simp at i
 subst this;rcases d with⟨rfl,rfl⟩|⟨f,es,rfl,j⟩|⟨pid,off,len,es,ex,fz,rfl,_,m,o,_,s⟩
 ·exact⟨[],[],e1,rfl,.nil⟩
 ·exact⟨l,es,e1,rfl,j.mono λ_ _ k=>k.mono λ_ _ k=>k.up⟩
 ·refine⟨l,_,e1,?_,s⟩;unfold Pi.BX;simp only[m];have:ah (off+len) es.length=zt:=by simpa using o
  rw[this];rfl
end
end
section
variable[Pi.Gl]
open Pi (PV T Hp Blk DF UM PE AN AT)
section
variable{X:Cx}{h:H}{n:Nat}{β:Type}{x:β}{P:Program}
theorem DD:∀ {c:Ty} {y:c.den} {a:List PV},DR X.h X.Q c y a->VRL X (cells c y) a
 |.int _,_,_,e=>by subst e;exact .cons (by simp[VR]) .nil
 |.bool,_,_,e=>by subst e;exact .cons (by simp[VR]) .nil
 |.str,_,_,e=>by subst e;exact .cons (by simp[VR]) .nil
 |.unit,_,_,e=>by subst e;exact .nil
 |.pair _ _,_,_,⟨p,q,e,b,d⟩=>by subst e;exact(DD b).append (DD d)
 |.sl _ _,_,_,⟨p,e,h⟩=>by
  subst e;refine .cons ?_ .nil
  simp_all[VR]
theorem Fw{g:Bool}{c:Ty}{y:c.den}{e:PV}(h:EP g (DR X.h X.Q c) y e):VR X (OM g c y) e:=by
 cases g with
 |true=>obtain⟨cs,rfl,h⟩:=h;simp only[OM,zb,VR];exact⟨cs,rfl,DD h⟩
 |false=>
  have:=DD (X:=X) (show DR X.h X.Q c y [e]from h);unfold OM;simp only[zj];have i:=this.length;split
  ·rename_i v b;rw[b]at this;obtain⟨p,j,d,f,_⟩:=this.cons_inv;simp_all
  ·rename_i a;cases hc:cells c y<;>simp_all
theorem FC:∀ {c:Ty} {y:c.den} {a:List PV},DP c y a->VRL X (Gy c y) a
 |.int _,_,_,e=>by subst e;exact .cons (by simp[VR]) .nil
 |.bool,_,_,e=>by subst e;exact .cons (by simp[VR]) .nil
 |.str,_,_,e=>by subst e;exact .cons (by simp[VR]) .nil
 |.unit,_,_,e=>by subst e;exact .nil
 |.pair _ _,_,_,⟨p,q,e,b,d⟩=>by subst e;exact(FC b).append (FC d)
 |.sl _ _,_,_,⟨p,e,h⟩=>by
  subst e;refine .cons ?_ .nil;simp only[VR];exact h
theorem DJ{g:Bool}{c:Ty}{y:c.den}{e:PV}(h:EP g (DP c) y e):VR X (elP g c y) e:=by
 cases g with
 |true=>obtain⟨cs,rfl,h⟩:=h;simp only[elP,zb,VR];exact⟨cs,rfl,FC h⟩
 |false=>
  have:=FC (X:=X) (show DP c y [e]from h);unfold elP;simp only[zj];have i:=this.length;split
  ·rename_i v b;rw[b]at this;obtain⟨p,j,d,f,_⟩:=this.cons_inv;simp_all
  ·rename_i a;cases hc:Gy c y<;>simp_all
theorem RH.ptr(r:RH X h n){j off:Nat}{p:PV}{cs:List V}{fz f:Bool}(c:VR X (.ptr j off) p)(e:h.get j=zo (.box cs fz f)) :
  ∃ pid m b a,X.π j=zo (.blk pid m)/\p=.ptr pid off/\X.h.get pid=zo (.box b a)/\(fz=zf->a=zf)/\VRL X cs b:=by
 simp only[VR]at c;obtain⟨pid,m,d,rfl⟩:=c;have:=r.blk _ _ e;rw[d]at this;obtain⟨_,_,b,a,g,i,k,l,o⟩:=this
 grind
theorem RH.boxAt(r:RH X h n){j pid m:Nat}{cs:List V}{fz d:Bool}(c:X.π j=zo (.blk pid m))(e:h.get j=zo (.box cs fz d)) :
  ∃ b a,X.h.get pid=zo (.box b a)/\(fz=zf->a=zf)/\VRL X cs b:=by
 have:=r.blk _ _ e;rw[c]at this;obtain⟨_,_,b,a,f,g,i,k,l⟩:=this
 grind
theorem RH.rowAt(r:RH X h n){j pid m:Nat}{g:Bool}{c:Ty}{l:List c.den}{ex fz f:Bool}(d:X.π j=zo (.blk pid m))(e:h.get j=zo (.row g c l ex fz f)) :
  ∃ es a,X.h.get pid=zo (.row es ex a)/\(fz=zf->a=zf)/\es.length=m/\(ex=zf->0<m)/\L2 (EP g (DR X.h X.Q c)) l es:=by
 have:=r.blk _ _ e;rw[d]at this;rcases this with⟨_,_,es,a,b,i,k,o,p,s,q⟩|⟨b,_⟩|⟨_,b,_⟩<;>grind
theorem IT{b:IntKind}:∀ {m:Nat} {vs:List V} {a:List PV} {l:List Int},VRL X vs a->Hc b m vs=zo l->l.length=m/\a.take m=l.map (PV.int b)/\m<=a.length
 |0,_,_,_,_,e=>by cases e;simp
 |m+1,[],_,_,_,e=>by simp[Hc]at e
 |m+1,v::vs,a,l,hv,e=>by
  unfold Hc at e;split at e
  ·omega
  ·rename_i r k x j f g;cases f;cases g;cases d:(k == b)with
   |false=>simp_all
   |true=>
    rw[d]at e;have:=eq_of_beq d;subst this;obtain⟨l',i,rfl⟩:=Option.map_eq_some_iff.1 e;obtain⟨p,s,rfl,c,h⟩:=hv.cons_inv;simp only[VR]at c;subst c;obtain⟨n,o,q⟩:=IT h i
    simp_all
  ·cases e
theorem Pt(r:RH X h n){ty:TypeId}{a:V}{p:PV}{K:V->Option β}(d:VR X a p)(e:Ps P h ty a K=zo x):∃ v q,K v=zo x/\Pi.CD P X.h ty p=zo (.val q X.h)/\VR X v q:=by
 unfold Ps at e;split at e
 ·replace e:=AD e;obtain⟨v,e1,e⟩:=e;simp only[VR]at d;obtain⟨z,rfl,b⟩:=d;obtain⟨q,e2,f⟩:=Bd (b.mono (Up.pure X)) e1;exact⟨v,q,e,BC e2,f⟩
 ·split at e
  ·rename_i cs fz I u;obtain⟨pid,m,z,o,b,rfl,s,A,t⟩:=r.ptr d u;replace e:=AD e;obtain⟨v,e1,e⟩:=e;obtain⟨q,e2,f⟩:=Bd (t.drop _) e1
   grind [Pi.CD,BC]
  ·cases e
 ·replace e:=AD e;obtain⟨v,e1,e⟩:=e;simp only[VR]at d;rcases d with⟨z,rfl,b⟩|⟨pid,i,off,es,ex,fz,J,rfl,b,B,s,A⟩
  ·obtain⟨q,e2,f⟩:=Bd (b.mono (Up.pure X)) e1;exact⟨v,q,e,BC e2,f⟩
  ·obtain⟨q,e2,f⟩:=Bd A e1;refine⟨v,q,e,?_,f⟩;unfold Pi.CD;simp only[B,AN,s];exact BC e2
 ·rename_i j i off;split at e
  ·rename_i g c l ex fz I u;replace e:=GZ e;obtain⟨y,O,e⟩:=e;replace e:=AD e;obtain⟨v,e1,e⟩:=e;simp only[VR]at d;obtain⟨pid,m,b,rfl⟩:=d;obtain⟨es,o,B,s,A,W,t⟩:=r.rowAt b u;obtain⟨J,C,L⟩:=t.get O;obtain⟨q,e2,f⟩:=Bd ((Fw L).cells.drop off) e1;refine⟨v,q,e,?_,f⟩;unfold Pi.CD;simp only[B,AN,C];exact BC e2
  ·cases e
 ·rename_i j off k m;split at e
  ·rename_i cs fz I u;split at e
   ·rename_i F sz M w E;replace e:=AD e;obtain⟨l,N,e⟩:=e;simp only[VR]at d;obtain⟨pid,mm,b,rfl,D⟩:=d;obtain⟨z,o,s,A,t⟩:=r.boxAt b u;obtain⟨Y,S,Z⟩:=IT (t.drop off) N;refine⟨_,.int F (O7 l k),e,?_,by simp[VR]⟩;unfold Pi.CD;simp only[s];refine BC ?_;unfold Pi.part;simp only[w,E]
    have G:(z.drop (off+k))[0]?=zo (.int F (O7 l k)):=by
     rw[aM,Nat.add_zero]
     have U:(z.drop off)[k]?=zo (.int F (O7 l k)):=by
      rw[<- cu D,S,List.getElem?_map]
      simp_all[O7]
     simp_all
    grind
   ·cases e
  ·cases e
 ·cases e
theorem BI(h:Hp)(i:Nat)(b:Blk):∃ h',h.set i b=zo h':=⟨{ h with m:=T.put (i+1) h.m i b },by
 unfold Pi.Hp.set;rw[show af i (i+1)=zt from by simp];rfl⟩
theorem F7(h:Hp)(i:Nat)(b:Blk)(e:h.get i=zn):∃ h',h.new i b=zo h':=by
 unfold Pi.Hp.new Pi.Hp.get at *;rw[e];exact BI h i b
theorem SJ{hs:Hp}{pid i:Nat}{es:List PV}{ex:Bool}{a b:PV}{d:List PV}(A:List PV->Option Pi.R):(∀ cs,a ≠ .agg cs)->a.cells=[a]->d=[b]->(∀ cs,b ≠ .agg cs)->(∀ cs,b ≠ .tup cs) ->
  (match a with
   |.agg cs=>A cs
   |_=>(match d with
    |[c]=>bif aa 0 0&&aa a.cells.length 1 then(match c with
     |.agg _=>zn
     |.tup _=>zn
     |c=>(hs.set pid (.row (Pi.lset es i c) ex zf)).map Pi.R.skip)else zn
    |_=>zn))=(hs.set pid (.row (Pi.lset es i b) ex zf)).map .skip:=by
 simp_all
def FW(X:Cx)(h:H)(n id idP:Nat)(h':H)(a:Hp)(Y:Cx):Prop:=Y.h=a/\RH Y h' n/\St X h id idP Y h'
def M7(a:IntKind)(k:Nat)(x:Int):Nat->List Int->List PV
 |_,[]=>[]
 |i,y::l=>.int a (if k=i then x else y)::M7 a k x (i+1) l
theorem N6{a:IntKind}{k:Nat}{x:Int}:∀ (l:List Int) (i:Nat),VRL X (Ov a k x i l) (M7 a k x i l)
 |[],_=>by rfl
 |y::l,i=>by
  unfold Ov M7;refine .cons ?_ (N6 l (i+1))
  simp_all[UK,neq,VR,zy,aa]
theorem L3{a:IntKind}{k:Nat}{x:Int}:∀ (l:List Int) (i:Nat),M7 a k x i l=if i<=k then(l.map (PV.int a)).set (k-i) (.int a x)else l.map (PV.int a)
 |[],i=>by simp[M7]
 |y::l,i=>by
  unfold M7;rw[L3 l (i+1)];by_cases h:k=i
  ·subst h;rw[zy rfl,zx (by omega),zy (ad _),Nat.sub_self];rfl
  ·rw[zx h];by_cases b:i<=k
   ·rw[zy (by omega),zy b,show k-i=(k-(i+1))+1 by omega];rfl
   grind
theorem Pv{b:IntKind}{a:List PV}{l:List Int}{off k m:Nat}{x:Int}(j:(a.drop off).take m=l.map (PV.int b))(n:l.length=m)(o:m<=(a.drop off).length)(q:k<m) :
  Pi.BU a off (M7 b k x 0 l)=Pi.BU a (off+k) [.int b x]:=by
 rw[L3,zy (Nat.zero_le _),Nat.sub_zero];obtain⟨A,g⟩:∃ A,A=a.take off:=⟨_,rfl⟩;obtain⟨R,p⟩:∃ R,R=(a.drop off).drop m:=⟨_,rfl⟩;obtain⟨L,h⟩:∃ L,L=l.map (PV.int b):=⟨_,rfl⟩;have e:off<=a.length:=by grind
 have c:a=A++(L++R):=by grind [List.take_append_drop]
 have d:A.length=off:=by grind
 have i:L.length=m:=by grind
 rw[<- h];unfold Pi.BU;have e1:a.take off=A:=g.symm;have e2:a.drop (off+(L.set k (.int b x)).length)=R:=by grind
 have e3:a.take (off+k)=A++L.take k:=by
  rw[c,List.take_append,bM (by omega),d,cz,List.take_append_of_le_length (by omega)]
 have f:a.drop (off+k+[PV.int b x].length)=L.drop (k+1)++R:=by
  rw[c,show off+k+[PV.int b x].length=A.length+(k+1) by simp;omega,List.drop_append,List.drop_eq_nil_of_le (by omega),cz,List.drop_append_of_le_length (by omega)];rfl
 rw[e1,e2,e3,f,List.set_eq_take_append_cons_drop,zy (by omega)];simp
theorem Jk(r:RH X h n)(hn:n<=1048575){ty:TypeId}{a w:V}{p q:PV}{K:H->Option β}(O:VR X a p)(hw:VR X w q)(id idP:Nat)(e:Ku P h ty a w K=zo x) :
  ∃ h' d Y,K h'=zo x/\Pi.A2 P X.h ty p q=zo (.skip d)/\FW X h n id idP h' d Y:=by
 unfold Ku at e;replace e:=AD e;obtain⟨sz,G,e⟩:=e;replace e:=BE e;obtain⟨hc,e⟩:=e;have I:=hw.cells;rw[I.length]at hc;have LO:∀ {j pid m:Nat},X.π j=zo (.blk pid m)->j<1048575:=λhp=>by have:=r.dom _ _ hp;omega
 split at e
 ·rename_i j off;split at e
  ·rename_i cs o;replace e:=AK e;obtain⟨z,e⟩:=e;obtain⟨pid,m,L,N,f,rfl,D,h4,A⟩:=r.ptr O o;have:=h4 rfl;subst this;have b:∃ d,X.h.set pid (.box (Pi.BU L off q.cells) zf)=zo d:=BI _ _ _;obtain⟨d,b⟩:=b
   obtain⟨Y,y1,s,C,y4,y5⟩:=r.set (b':=.box (GY cs off w.cells) zf zf) (LO f) o trivial rfl f D (by intros;simp) b
    (λY y1 s C u=>by
     rw[f]
     refine⟨pid,m,_,zf,rfl,by rw[C];exact(f ▸ r.blk _ _ o).own trivial,by rw[s,(Hp.get_set b).1,zy rfl],λ_=>rfl,(A.fput I off).mono u⟩) idP
   refine⟨_,d,Y,e,?_,s,y4,y5 id⟩;unfold Pi.A2;simp only[G,hc,zj,D];rw[<- A.length,z]
   simp_all
  ·cases e
 ·rename_i j i off;split at e
  ·rename_i g c l ex o;replace e:=GZ e;obtain⟨y,hy,e⟩:=e;replace e:=AK e;obtain⟨z,e⟩:=e;simp only[VR]at O;obtain⟨pid,m,f,rfl⟩:=O;obtain⟨es,N,h2,D,h4,h9,A⟩:=r.rowAt f o;have:=D rfl;subst this;obtain⟨J,hel,hE⟩:=A.get hy;have F:=DD (X:=X) hE.cells;have hf:=F.fput I off;obtain⟨y',r',p',q',e1,h6,d1,r1⟩:=GM hf e;split at e1
   ·rw[r1.nil_inv,aL]at h6;subst h6
    have key:∃ t,EP g (DR X.h X.Q c) y' t/\(match J with
      |.agg cs=>(X.h.set pid (.row (Pi.lset es i (.agg (Pi.BU cs off q.cells))) ex zf)).map Pi.R.skip
      |_=>(match q.cells with
       |[c]=>bif aa off 0&&aa J.cells.length 1 then(match c with
        |.agg _=>zn
        |.tup _=>zn
        |c=>(X.h.set pid (.row (Pi.lset es i c) ex zf)).map .skip)else zn
       |_=>zn))=(X.h.set pid (.row (Pi.lset es i t) ex zf)).map .skip:=by
     cases g with
     |true=>
      obtain⟨cs,rfl,_⟩:=hE;exact⟨.agg (Pi.BU cs off q.cells),⟨_,rfl,d1⟩,rfl⟩
     |false=>
      have E:DR X.h X.Q c y [J]:=hE;have B:=E.leaf J (by simp);have U:(cells c y).length=1:=by rw[F.length,B.2.2];rfl
      simp only[ak,ay,bR,bI]at hc;rw[U]at z;have hle':off+sz<=1:=by simp_all
      have W:off=0:=by omega
      have hsz1:sz=1:=by omega
      subst W;have hq1:q.cells.length=1:=by omega
      obtain⟨M,hc1⟩:∃ M,q.cells=[M]:=by
       cases hqq:q.cells<;>simp_all
      have AG:Pi.BU J.cells 0 q.cells=[M]:=by rw[B.2.2,hc1];rfl
      rw[AG]at d1;have hl1:=d1.leaf M (by simp);refine⟨M,d1,?_⟩<;>simp_all
    obtain⟨t,E,hk⟩:=key;have b:∃ d,X.h.set pid (.row (Pi.lset es i t) ex zf)=zo d:=BI _ _ _;obtain⟨d,b⟩:=b
    obtain⟨Y,y1,s,C,y4,y5⟩:=r.set (b':=.row g c (lset l i y') ex zf zf) (LO f) o trivial rfl f h2 (by intros;simp) b
     (λY y1 s C u=>by
      rw[f];refine .inl ⟨pid,m,_,zf,rfl,by rw[C];exact(f ▸ r.blk _ _ o).own trivial,by rw[s,(Hp.get_set b).1,zy rfl],λ_=>rfl,by rw[AT];grind,h9,?_⟩;rw[AT]
      exact EDR.mono u (A.set i E)) idP
    refine⟨_,d,Y,e1,?_,s,y4,y5 id⟩;unfold Pi.A2;have S:ah (off+sz) J.cells.length=zt:=by rw[<- F.length];exact z
    simp only[G,hc,zj,h2,AN,hel,S,zb]
    grind
   ·cases e1
  ·cases e
 ·rename_i j off k m;split at e
  ·rename_i cs o;split at e
   ·rename_i Z x k0 hk0;replace e:=AK e;obtain⟨hkk,e⟩:=e;have:=eq_of_beq hkk;subst this;replace e:=AD e;obtain⟨l,hl,e⟩:=e;simp only[VR]at O hw;subst hw;obtain⟨pid,mm,f,rfl,hlt⟩:=O;obtain⟨L,N,D,h4,A⟩:=r.boxAt f o;have:=h4 rfl;subst this;obtain⟨i1,i2,i3⟩:=IT (A.drop off) hl;have AG:=Pv (x:=x) i2 i1 i3 hlt
    have hv:VRL X (GY cs off (Ov Z k x 0 l)) (Pi.BU L (off+k) [.int Z x]):=by
     rw[<- AG];exact A.fput (N6 l 0) off
    obtain⟨d,b⟩:=BI X.h pid (.box (Pi.BU L (off+k) [.int Z x]) zf)
    obtain⟨Y,y1,s,C,y4,y5⟩:=r.set (b':=.box (GY cs off (Ov Z k x 0 l)) zf zf) (LO f) o trivial rfl f D (by intros;simp) b
     (λY y1 s C u=>by
      rw[f]
      refine⟨pid,mm,_,zf,rfl,by rw[C];exact(f ▸ r.blk _ _ o).own trivial,by rw[s,(Hp.get_set b).1,zy rfl],λ_=>rfl,hv.mono u⟩) idP
    refine⟨_,d,Y,e,?_,s,y4,y5 id⟩
    have hs1:sz=1:=by
     simp only[ak,ay,bR,bI]at hc;exact hc.2.symm
    subst hs1;unfold Pi.A2;simp only[G,hc,zj,D]
    have hb:ah (off+k+1) L.length=zt:=by
     rw[List.length_drop]at i3;simp;omega
    rw[hb];show(X.h.set pid (.box (Pi.BU L (off+k) [.int Z x]) zf)).map Pi.R.skip=_
    grind
   ·cases e
  ·cases e
 ·cases e
end
end
section
variable[Pi.Gl]
open Pi (PV T Hp Blk DF UM PE AN AT)
section
variable{X:Cx}{h:H}{n:Nat}{β:Type}{x:β}{P:Program}
theorem EP.upP{g:Bool}{hh:Hp}{Q:Nat->Prop}{c:Ty}{y:c.den}{e:PV}(h:EP g (DP c) y e):EP g (DR hh Q c) y e:=h.mono λ_ _ k=>k.up
theorem Gm{k:Nat}:∀ {m i:Nat} {K:Nat->Option β},Ii k m i K=zo x->K k=zo x/\i<=k/\k<i+m
 |0,_,_,e=>by cases e
 |1,i,K,e=>by
  unfold Ii at e;obtain⟨b,a⟩:=AJ e;have:k=i:=by simpa[neq]using b
  subst this;exact⟨a,ad _,by omega⟩
 |m+2,i,K,e=>by
  unfold Ii at e;rcases BN e with⟨b,a⟩|⟨b,a⟩
  ·have:k=i:=by simpa[neq]using b
   subst this;exact⟨a,ad _,by omega⟩
  ·obtain⟨c,d,f⟩:=Gm a;exact⟨c,by omega,by omega⟩
theorem Iu{s:TypeId}{a:V}{p:PV}{f:Nat}{K:V->Option β}(c:VR X a p)(e:Fx P s a f K=zo x):∃ v q,K v=zo x/\Pi.Av P X.h s p f=zo (.val q X.h)/\VR X v q:=by
 unfold Fx at e;unfold Pi.Av;split at e
 ·rename_i u o;split at e
  ·rename_i t n;split at e
   ·rename_i w d;replace e:=BE e;obtain⟨hc,e⟩:=e;simp only[o,n,d,hc,zj];split at e
    ·simp only[VR]at c;obtain⟨pid,m,b,rfl⟩:=c;exact⟨_,_,e,rfl,by simp only[VR];exact⟨pid,m,b,rfl⟩⟩
    ·simp only[VR]at c;obtain⟨pid,m,b,rfl⟩:=c;exact⟨_,_,e,rfl,by simp only[VR];exact⟨pid,m,b,rfl⟩⟩
    ·simp only[VR]at c;rcases c with⟨r,rfl,b⟩|⟨pid,i,off,es,ex,fz,g,rfl,b,j,k,l⟩
     ·exact⟨_,_,e,rfl,by simp only[VR];exact .inl ⟨_,rfl,b.drop _⟩⟩
     ·refine⟨_,_,e,rfl,?_⟩;simp only[VR];exact .inr ⟨pid,i,_,es,ex,fz,g,rfl,b,j,k,by rw[<- bZ];exact l.drop _⟩
    ·simp only[VR]at c;obtain⟨r,rfl,b⟩:=c;exact⟨_,_,e,rfl,by simp only[VR];exact⟨_,rfl,b.drop _⟩⟩
    ·cases e
   ·cases e
  ·cases e
 ·cases e
theorem OE{h:H}{n len:Nat}{a:V}{j off:Nat}(e:Rq h n len a=zo (j,off)):a=.ptr j off/\n=1:=by
 unfold Rq at e;split at e
 ·split at e
  ·split at e
   ·cases b:(aa n 1&&(Hc _ len _).isSome)with
    |false=>rw[b]at e;cases e
    |true=>
     rw[b]at e;cases e;simp only[Bool.and_eq_true,bI]at b;exact⟨rfl,b.1⟩
   ·cases e
  ·cases e
 ·cases e
theorem Iw(r:RH X h n){ty:TypeId}{a i:V}{p q:PV}{K:V->Option β}(l:VR X a p)(hi:VR X i q)(e:F3 P h ty a i K=zo x):∃ v w,K v=zo x/\Pi.Ap P X.h ty p q=zo (.val w X.h)/\VR X v w:=by
 unfold F3 at e;split at e
 ·rename_i et S;replace e:=AD e;obtain⟨sz,F,e⟩:=e;replace e:=C8 hi e;obtain⟨k,e,O⟩:=e;unfold Pi.Ap;simp only[S,O,F];split at e
  ·rename_i f g c es;replace e:=GZ e;obtain⟨y,E,e⟩:=e;replace e:=AK e;obtain⟨D,e⟩:=e;simp only[VR]at l;rcases l with⟨rfl,rfl⟩|⟨Y,G,rfl,_,o⟩|⟨pid,off,len,G,ex,fz,rfl,_,o,h2,I,_,M⟩
   ·simp at E
   ·obtain⟨C,b,A⟩:=o.get E;have hc:=(Fw (X:=Cx.pure) A.upP).cells;refine⟨_,.view C.cells,e,?_,by simp only[VR];exact .inl ⟨_,rfl,hc⟩⟩;simp only[AN,b];rw[<- hc.length,D];rfl
   ·obtain⟨C,b,A⟩:=M.get E;have hc:=(Fw A).cells
    have J:k<len:=by
     have:=(List.getElem?_eq_some_iff.1 b).1;simp at this;omega
    have u:G[off+k]?=zo C:=by
     rw[cu J,aM]at b;exact b
    refine⟨_,.ept pid (off+k) 0,e,?_,by simp only[VR];exact .inr ⟨pid,off+k,0,G,ex,fz,C,rfl,o,h2,u,by simpa using hc⟩⟩;have B:af k len=zt:=by simpa using J
    simp only[B,zb,h2,AN,u];rw[<- hc.length,D];rfl
  ·rename_i g c es;replace e:=GZ e;obtain⟨y,E,e⟩:=e;replace e:=AK e;obtain⟨D,e⟩:=e;simp only[VR]at l;rcases l with⟨rfl,rfl⟩|⟨Y,G,rfl,o⟩
   ·simp at E
   ·obtain⟨C,b,A⟩:=o.get E;have hc:=(DJ (X:=Cx.pure) A).cells;refine⟨_,.view C.cells,e,?_,by simp only[VR];exact⟨_,rfl,hc⟩⟩;simp only[AN,b];rw[<- hc.length,D];rfl
  ·rename_i f es;replace e:=Gm e;obtain⟨e,_,_⟩:=e;replace e:=AD e;obtain⟨C,b,e⟩:=e;replace e:=AK e;obtain⟨D,e⟩:=e;simp only[VR]at l;obtain⟨Y,G,rfl,_,o⟩:=l;obtain⟨elP,u,A⟩:=o.lget b;refine⟨_,.view elP.cells,e,?_,by simp only[VR];exact .inl ⟨_,rfl,A.cells⟩⟩;simp only[u];rw[<- A.cells.length,D];rfl
  ·rename_i j;split at e
   ·rename_i g c es ex lk W;replace e:=AJ e;obtain⟨s,e⟩:=e;replace e:=AK e;obtain⟨D,e⟩:=e;have d:k<es.length:=by simpa[KW,AR]using s
    simp only[VR]at l;have B:=r.blk _ _ W;cases z:X.π j with
    |none=>rw[z]at l;exact l.elim
    |some t=>
     rw[z]at l B;rcases B with⟨pid,len,G,U,o,h2,I,M,Z,h7,N⟩|⟨o,_,h2⟩|⟨_,o,_,h2,_⟩
     ·cases o;simp only at l;subst l;obtain⟨y,E⟩:∃ y,es[k]?=zo y:=⟨es[k],ae d⟩;obtain⟨C,b,A⟩:=N.get E;refine⟨_,.ept pid (0+k) 0,e,?_,by simp only[VR];exact⟨pid,len,z,by simp⟩⟩;have B:af k len=zt:=by rw[<- Z,<- N.length];simpa using d
      simp only[B,zb,I,AN,Nat.zero_add,b];rw[A.wd,D];rfl
     ·subst h2;simp at d
     ·rcases h2 with h2|h2
      ·cases h2
      ·subst h2;simp at d
   ·cases e
  ·rename_i j off len;replace e:=AJ e;obtain⟨s,e⟩:=e;split at e
   ·rename_i g c es ex fz lk W;replace e:=AJ e;obtain⟨L,e⟩:=e;replace e:=AK e;obtain⟨D,e⟩:=e;simp only[VR]at l;obtain⟨pid,m,z,rfl⟩:=l;obtain⟨G,U,I,_,Z,_,N⟩:=r.rowAt z W;have d:off+k<es.length:=by simpa[KW,AR,BG]using L
    obtain⟨y,E⟩:∃ y,es[off+k]?=zo y:=⟨es[off+k],ae d⟩;obtain⟨C,b,A⟩:=N.get E;refine⟨_,.ept pid (off+k) 0,e,?_,by simp only[VR];exact⟨pid,m,z,rfl⟩⟩;have B:af k len=zt:=s;simp only[B,zb,I,AN,b];rw[A.wd,D];rfl
   ·cases e
  ·cases e
 ·rename_i len et S;replace e:=AD e;obtain⟨sz,F,e⟩:=e;replace e:=C8 hi e;obtain⟨k,e,O⟩:=e;unfold Pi.Ap;split at e
  ·rename_i j off hj;replace e:=AJ e;obtain⟨s,e⟩:=e;obtain⟨rfl,rfl⟩:=OE hj;have B:af k len=zt:=s;have d:k<len:=by simpa[KW]using s
   simp only[S,O,F,B,zb];simp only[VR]at l;obtain⟨pid,m,o,rfl⟩:=l;exact⟨_,_,e,rfl,by simp only[VR];exact⟨pid,m,o,by rw[Nat.mul_one],d⟩⟩
  replace e:=Gm e;obtain⟨e,_,s⟩:=e;have B:af k len=zt:=by simpa using s
  simp only[S,O,F,B,zb];split at e
  ·simp only[VR]at l;obtain⟨pid,m,o,rfl⟩:=l;exact⟨_,_,e,rfl,by simp only[VR];exact⟨pid,m,o,rfl⟩⟩
  ·simp only[VR]at l;obtain⟨pid,m,o,rfl⟩:=l;exact⟨_,_,e,rfl,by simp only[VR];exact⟨pid,m,o,rfl⟩⟩
  ·simp only[VR]at l;rcases l with⟨G,rfl,o⟩|⟨pid,i,off,es,ex,fz,C,rfl,o,h2,I,M⟩
   ·exact⟨_,_,e,rfl,by simp only[VR];exact .inl ⟨_,rfl,o.drop _⟩⟩
   ·refine⟨_,_,e,rfl,?_⟩;simp only[VR];exact .inr ⟨pid,i,_,es,ex,fz,C,rfl,o,h2,I,by rw[<- bZ];exact M.drop _⟩
  ·simp only[VR]at l;obtain⟨G,rfl,o⟩:=l;exact⟨_,_,e,rfl,by simp only[VR];exact⟨_,rfl,o.drop _⟩⟩
  ·cases e
 ·cases e
theorem OZ{ty:TypeId}{a i:V}{p q:PV}{K:V->Option β}(c:VR X a p)(hi:VR X i q)(e:Mj P ty a i K=zo x):∃ v w,K v=zo x/\Pi.Bw P X.h ty p q=zo (.val w X.h)/\VR X v w:=by
 unfold Mj at e;split at e
 ·rename_i len t cs n;replace e:=AD e;obtain⟨y,m,e⟩:=e;replace e:=C8 hi e;obtain⟨k,e,g⟩:=e;replace e:=Gm e;obtain⟨e,_,j⟩:=e;replace e:=AD e;obtain⟨v,s,e⟩:=e;obtain⟨u,rfl,d⟩:=c.agg_inv;obtain⟨w,o,r⟩:=Bd (d.drop _) s;refine⟨v,w,e,?_,r⟩;unfold Pi.Bw;have f:af k len=zt:=by simpa using j
  simp only[n,g,f,zb,m];exact BC o
 ·rename_i l n;replace e:=C8 hi e;obtain⟨k,e,g⟩:=e;replace e:=GZ e;obtain⟨b,f,e⟩:=e;simp only[VR]at c;subst c;refine⟨_,_,e,?_,by simp only[VR];rfl⟩;unfold Pi.Bw;simp only[n,g,AN,f];rfl
 ·cases e
theorem Pp(r:RH X h n){ty:TypeId}{a:V}{p:PV}{K:Int->Option β}{q:Array TypeId}(F:q[0]?=zo ty)(b:VR X a p)(e:Po P h ty a K=zo x)(id:Nat):∃ m,K m=zo x/\Pi.AH P X.h id .len q [p]=zo (.val (.int .i64 m) X.h):=by
 unfold Po at e;unfold Pi.AH;simp only[F];split at e
 ·rename_i d;split at e
  ·rename_i k g c l G A;simp only[VR]at b;obtain⟨pid,m,i,rfl⟩:=b;have s:=r.blk _ _ A;rw[i]at s;obtain⟨_,_,es,o,B,y,z⟩:=s;cases o;refine⟨_,e,?_⟩;simp only[d,y,Kx,AR,z.length]
  ·cases e
 ·rename_i d;simp only[VR]at b;subst b;exact⟨_,e,by simp only[d]⟩
 ·rename_i d;exact⟨_,e,by simp only[d]⟩
 ·rename_i d;simp only[VR]at b;subst b;exact⟨_,e,by simp only[d]⟩
 ·rename_i f g c l d;simp only[VR]at b;refine⟨_,e,?_⟩;rcases b with⟨rfl,rfl⟩|⟨C,w,rfl,_,i⟩|⟨pid,off,len,w,ex,fz,rfl,_,i,o,B,_,y⟩
  ·simp only[d];rfl
  ·simp only[d,Kx,AR,i.length]
  ·simp only[d,Kx,AR,y.length];have:((w.drop off).take len).length=len:=by simp;omega
   rw[this]
 ·rename_i f es d;simp only[VR]at b;obtain⟨C,w,rfl,_,i⟩:=b;exact⟨_,e,by simp only[d,i.length]⟩
 ·rename_i j d;split at e
  ·rename_i g c l ex fz G A;simp only[VR]at b;have s:=r.blk _ _ A;cases u:X.π j with
   |none=>rw[u]at b;exact b.elim
   |some t=>
    rw[u]at b s;refine⟨_,e,?_⟩;rcases s with⟨pid,len,w,D,i,o,B,y,z,I,E⟩|⟨i,_,o⟩|⟨w,i,_,_,o⟩
    ·cases i;simp only at b;subst b;simp only[d,Kx,AR,E.length,z]
    ·cases i;simp only at b;subst b;subst o;simp only[d];rfl
    ·cases i;simp only at b;subst b;simp only[d,Kx,AR,o.length]
  ·cases e
 ·rename_i d;simp only[VR]at b;obtain⟨pid,m,i,rfl⟩:=b;exact⟨_,e,by simp only[d];rfl⟩
 ·rename_i l d;simp only[VR]at b;subst b;exact⟨_,e,by simp only[d];rfl⟩
 ·cases e
theorem Q8(r:RH X h n){ty:TypeId}{a:V}{p:PV}{K:Int->Option β}{b:Array TypeId}(d:b[0]?=zo ty)(c:VR X a p)(e:Su P h ty a K=zo x)(id:Nat):∃ m,K m=zo x/\Pi.AH P X.h id .len b [p]=zo (.val (.int .i64 m) X.h):=
 Pp r d c.norm e id
end
end
end Go.Proofs.YtfceigpbgndbgaaGreatDoor.Sv
