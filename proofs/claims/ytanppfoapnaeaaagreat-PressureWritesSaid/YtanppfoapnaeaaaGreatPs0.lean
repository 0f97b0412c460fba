/- A part of the evaluator over typed open values for any program, and of the proof that it is sound. No condition. -/
import Derived.Test.YtanppfoapnaeaaaGreatPp2
import GoSem.Step
set_option linter.all false
open List renaming append_nil->aO, cons_beq_cons->cP, drop_drop->bL, getElem?_drop->aK, getElem?_eq_getElem->ad, getElem?_take_of_lt->cu, length_drop->bN, range->bY, replicate->a8, take_append_drop->cD, take_of_length_le->bR
open Nat renaming add_sub_cancel_left->cA, beq->aa, beq_eq->bJ, ble->af, blt->ah, blt_eq->bW, le_refl->ac
open Bool renaming not_eq_false'->az, or_eq_false_iff->am
open UInt8 renaming lt_iff_toNat_lt->cB
open BitVec renaming ofInt->aG
namespace Go.Proofs.YtanppfoapnaeaaaGreat.Sv
section
section
variable{α β γ:Type}
def gd(c:Bool)(k:Unit->Option β):Option β:=bif c then k ()else none
def br(c:Bool)(a b:Unit->Option β):Option β:=bif c then a ()else b ()
def ix(l:List α)(i:Nat)(k:α->Option β):Option β:=match l[i]? with
 |some x=>k x
 |none=>none
def R0(n:Int)(k:Nat->Option β):Option β:=bif decide (0<=n)then k n.toNat else none
def bd(m:Option α)(k:α->Option β):Option β:=match m with
 |some x=>k x
 |none=>none
inductive LR (α β:Type) where
 |nx (s:α)
 |dn (x:β)
def LF:Nat->(α->Option (LR α β))->α->Option β
 |0,_,_=>none
 |n+1,f,s=>match f s with
  |none=>none
  |some (.nx s)=>LF n f s
  |some (.dn x)=>some x
def loop(f:α->Option (LR α β))(s:α):Option β:=LF 18446744073709551616 f s
def jn{δ:Type}(f:α->Option (LR δ γ))(s:α)(k:δ->Option β)(a:γ->Option β):Option β:=match f s with
 |none=>none
 |some (.nx x)=>k x
 |some (.dn x)=>a x
def SE(k:IntKind)(a b:Int):Int:=k.wrap (a+b)
def SI(k:IntKind)(a b:Int):Int:=k.wrap (a-b)
def SF(k:IntKind)(a b:Int):Int:=k.wrap (a*b)
def S2(k:IntKind)(a b:Int):Int:=k.wrap (a.tdiv b)
def S3(_:IntKind)(a b:Int):Int:=a.tmod b
def Sy(k:IntKind)(a b:Int):Int:=k.wrap (aG k.bits a &&& aG k.bits b).toNat
def TS(k:IntKind)(a b:Int):Int:=k.wrap (aG k.bits a ||| aG k.bits b).toNat
def S7(k:IntKind)(a b:Int):Int:=k.wrap (aG k.bits a ^^^ aG k.bits b).toNat
def S4(k:IntKind)(a b:Int):Int:=k.wrap (a*2 ^ (min b.toNat k.bits))
def S5(k:IntKind)(a b:Int):Int:=a.fdiv (2 ^ (min b.toNat k.bits))
def SG(k:IntKind)(a:Int):Int:=k.wrap (0-a)
def TK(k:IntKind)(a:Int):Int:=k.wrap a
def OY(a b:Int):Bool:=a == b
def Rx(a b:Int):Bool:=a != b
def S1(a b:Int):Bool:=decide (a<b)
def S0(a b:Int):Bool:=decide (a<=b)
def Sz(a b:Int):Bool:=decide (a>b)
def Rw(a b:Int):Bool:=decide (a>=b)
def TQ(a b:Int):Int:=if b>a then b else a
def TP(a b:Int):Int:=if b<a then b else a
def Hg(a:Bool):Bool:=!a
def Nk(a b:Bool):Bool:=a&&b
def beq(a b:Bool):Bool:=a == b
def Kh(n:Nat):Int:=n
def BF(a b:Nat):Nat:=a+b
def PY(a b:Nat):Nat:=a-b
def CF(a b:Nat):Bool:=af a b
def KI(a b:Nat):Bool:=ah a b
def neq(a b:Nat):Bool:=aa a b
def Qm(a b:Nat):Nat:=Nat.min a b
def Mi(l:List UInt8):Nat:=l.length
def TA(a b:List UInt8):List UInt8:=a++b
def seq(a b:List UInt8):Bool:=a == b
def SQ(a b:List UInt8):Bool:=Op.bytesLess a b
def SR(l:List UInt8)(lo hi:Nat):List UInt8:=(l.drop lo).take (hi-lo)
def TW(b:UInt8):Int:=b.toNat
def Oc(l:List Int)(k:Nat):Int:=(l[k]?).getD 0
def TL(c:Bool)(a b:Int):Int:=bif c then a else b
def TN(n:Int):UInt8:=UInt8.ofNat n.toNat
def AS(l:List α):Nat:=l.length
def Ij(a b:List α):List α:=a++b
def D0(l:List α)(lo hi:Nat):List α:=(l.drop lo).take (hi-lo)
def lset(l:List α)(i:Nat)(x:α):List α:=l.set i x
def Rb(n:Nat)(x:α):List α:=a8 n x
def LB(l:List α)(off:Nat)(x:List α)(n:Nat):List α:=l.take off++(x.take n++l.drop (off+(x.take n).length))
def MT(e:γ->γ->Bool):List (γ×α)->γ->Option α
 |[],_=>none
 |(k,v)::l,x=>bif e x k then some v else MT e l x
def IR(e:γ->γ->Bool):List (γ×α)->γ->α->List (γ×α)
 |[],x,y=>[(x,y)]
 |(k,v)::l,x,y=>bif e x k then(x,y)::l else(k,v)::IR e l x y
def IQ(e:γ->γ->Bool):List (γ×α)->γ->List (γ×α)
 |[],_=>[]
 |(k,v)::l,x=>bif e x k then l else(k,v)::IQ e l x
def SL(o:Option α)(z:α):α:=o.getD z
def TV(o:Option α):Bool:=o.isSome
end
end
section
variable[Pi.Gl]
open Pi (PV T DF UM PE lget)
inductive Ty where
 |int (k:IntKind)
 |bool
 |str
 |unit
 |pair (a b:Ty)
 |sl (g:Bool) (c:Ty)
 deriving DecidableEq
@[reducible] def Ty.den:Ty->Type
 |.int _=>Int
 |.bool=>Bool
 |.str=>List UInt8
 |.unit=>Unit
 |.pair a b=>a.den×b.den
 |.sl _ c=>List c.den
inductive V where
 |bool (b:Bool)
 |int (k:IntKind) (n:Int)
 |str (l:List UInt8)
 |nilp|nils|nilm|nilf|nili
 |agg (cs:List V)
 |tup (vs:List V)
 |lf (full g:Bool) (c:Ty) (l:List c.den)
 |pl (g:Bool) (c:Ty) (l:List c.den)
 |exl (full:Bool) (es:List V)
 |ow (id:Nat)
 |own (id off len:Nat)
 |ptr (id off:Nat)
 |ept (id i off:Nat)
 |aptr (id off k n:Nat)
 |view (cs:List V)
 |pv (cs:List V)
 |fn (f:Fn) (first captured:List V)
 |yl (id:Nat)
 |ifc (t:TypeId) (v:V)
 |mp (id:Nat)
 |gk (n:Nat)
structure PEA where
 v:V
 recovered:Bool
inductive UMA where
 |ret
 |pan (ch:List PEA)
inductive DFA where
 |call (f:V) (args:List V)
 |bi (b:Builtin) (ats:Array TypeId) (ty:TypeId) (args:List V)
 |col (id:Nat)
inductive ExA where
 |normal
 |exit (id:Nat)
 |goto (l:Nat)
 |ret
 |panic (v:V)
inductive BA where
 |box (cs:List V) (fz lk:Bool)
 |row (g:Bool) (c:Ty) (l:List c.den) (ex fz lk:Bool)
 |mp (k:Ty) (g:Bool) (c:Ty) (l:List (k.den×c.den)) (lk:Bool)
 |lp (st:Nat) (pend:Option Code) (nt:Nat) (t:T V) (ps:List Nat) (asg body:Code) (d:Nat)
 |df (ds:Option (List DFA))
 |dead
abbrev H:=T BA
structure FrA where
 t:T V
 nt:Nat
 ds:List DFA
 up:Option UMA
 ro:Option Nat
inductive OutA where
 |ret (v:V)
 |pan (ch:List PEA)
def V.cells:V->List V
 |.agg cs=>cs
 |.tup _=>[]
 |v=>[v]
def cells:(c:Ty)->c.den->List V
 |.int k,n=>[.int k n]
 |.bool,b=>[.bool b]
 |.str,s=>[.str s]
 |.unit,_=>[]
 |.pair a b,x=>cells a x.1++cells b x.2
 |.sl g c,l=>[.lf false g c l]
def Gs:(c:Ty)->c.den->List V
 |.int k,n=>[.int k n]
 |.bool,b=>[.bool b]
 |.str,s=>[.str s]
 |.unit,_=>[]
 |.pair a b,x=>Gs a x.1++Gs b x.2
 |.sl g c,l=>[.pl g c l]
def elP(g:Bool)(c:Ty)(x:c.den):V:=bif g then .agg (Gs c x)else match Gs c x with
 |[v]=>v
 |_=>.nilp
def V.norm:V->V
 |.pl g c l=>.lf false g c l
 |.pv cs=>.view cs
 |v=>v
def Nr(g:Bool)(c:Ty)(x:c.den):V:=bif g then .agg (cells c x)else match cells c x with
 |[v]=>v
 |_=>.nilp
def Nd:(c:Ty)->c.den
 |.int _=>(0:Int)
 |.bool=>false
 |.str=>[]
 |.unit=>()
 |.pair a b=>(Nd a,Nd b)
 |.sl _ _=>[]
def Ty.depth:Ty->Nat
 |.pair a b=>Nat.max a.depth b.depth
 |.sl _ c=>c.depth+1
 |_=>0
def Ty.wd:Ty->Nat
 |.unit=>0
 |.pair a b=>a.wd+b.wd
 |_=>1
def Ty.hasSl:Ty->Bool
 |.pair a b=>a.hasSl||b.hasSl
 |.sl _ _=>true
 |_=>false
def P8(rec:TypeId->Option (Bool×Ty)):List Field->Option Ty
 |[]=>some .unit
 |[f]=>(rec f.type).map (·.2)
 |f::fs=>match rec f.type,P8 rec fs with
  |some (_,c),some r=>some (.pair c r)
  |_,_=>none
def RJ:Nat->Ty->Ty
 |0,_=>.unit
 |1,c=>c
 |n+1,c=>.pair c (RJ n c)
def Mr(P:Program):Nat->TypeId->Option (Bool×Ty)
 |0,_=>none
 |d+1,t=>match P.underlying t with
  |some (.int k)=>some (false,.int k)
  |some .bool=>some (false,.bool)
  |some .string=>some (false,.str)
  |some (.slice e)=>(Mr P d e).map λ(g,c)=>(false,.sl g c)
  |some (.struct fs)=>(P8 (Mr P d) fs.toList).map λc=>(true,c)
  |some (.array n e)=>(Mr P d e).map λ(_,c)=>(true,RJ n c)
  |_=>none
def Sn:Nat:=14
section
variable{β:Type}
def DT{c a:Ty}(l:List c.den)(K:List a.den->Option β):Option β:=if e:c=a then K (e ▸ l)else none
def Q7{k c b a:Ty}(l:List (k.den×c.den))(K:List (b.den×a.den)->Option β):Option β:=
 if e:k=b then if e2:c=a then K (e ▸ e2 ▸ l)else none else none
def Ok{α:Type}(d:V->(α->Option β)->Option β):List V->(List α->Option β)->Option β
 |[],K=>K []
 |v::vs,K=>d v λx=>Ok d vs λl=>K (x::l)
def Dr(h:H):(c:Ty)->List V->(c.den->List V->Option β)->Option β
 |.int k,vs,K=>match vs with
  |.int k' n::r=>bif k == k' then K n r else none
  |_=>none
 |.bool,vs,K=>match vs with
  |.bool b::r=>K b r
  |_=>none
 |.str,vs,K=>match vs with
  |.str s::r=>K s r
  |_=>none
 |.unit,vs,K=>K () vs
 |.pair a b,vs,K=>Dr h a vs λx r=>Dr h b r λy r=>K (x,y) r
 |.sl g c,vs,K=>match vs with
  |.nils::r=>K [] r
  |.lf _ g' _ l::r=>bif g == g' then DT l λl=>K l r else none
  |.pl g' _ l::r=>bif g == g' then DT l λl=>K l r else none
  |.exl _ es::r=>Ok (λv K=>bif g then(match v with
    |.agg cs=>Dr h c cs λx q=>match q with
     |[]=>K x
     |_=>none
    |_=>none)else Dr h c [v] λx q=>match q with
     |[]=>K x
     |_=>none) es λl=>K l r
  |.ow id::r=>match h.get id with
   |some (.row g' _ l _ _ _)=>bif g == g' then DT l λl=>K l r else none
   |_=>none
  |.own id off len::r=>match h.get id with
   |some (.row g' _ l _ _ _)=>bif g == g' then gd (CF (BF off len) (AS l)) λ_=>DT (D0 l off (BF off len)) λl=>K l r else none
   |_=>none
  |_=>none
def GI(h:H)(g:Bool)(c:Ty)(v:V)(K:c.den->Option β):Option β:=bif g then(match v with
  |.agg cs=>Dr h c cs λx q=>match q with
   |[]=>K x
   |_=>none
  |_=>none)else Dr h c [v] λx q=>match q with
   |[]=>K x
   |_=>none
end
def GG:Value->Option V
 |.bool b=>some (.bool b)
 |.int k n=>some (.int k n)
 |.string s=>some (.str s.data.toList)
 |.pointer none=>some .nilp
 |.slice none 0 0=>some .nils
 |.map none=>some .nilm
 |.nilFunc=>some .nilf
 |.nilIface=>some .nili
 |.func (.func f) first cap=>if first.isEmpty&&cap.isEmpty then some (.fn (.func f) [] [])else none
 |_=>none
def Dp:List Value->Option (List V)
 |[]=>some []
 |v::l=>match GG v,Dp l with
  |some p,some ps=>some (p::ps)
  |_,_=>none
def KJ:Value->Option V
 |.agg cs=>(Dp cs.toList).map .agg
 |.tuple vs=>bif vs.isEmpty then some (.tup [])else none
 |.iface t v=>match GG v with
  |some p=>some (.ifc t p)
  |none=>none
 |v=>GG v
def Ch(P:Program)(t:TypeId):Option (List V):=match P.info? t with
 |some i=>match i.zero with
  |some z=>Dp z.cells.toList
  |none=>none
 |none=>none
def C6(P:Program)(e:TypeId):Option V:=match P.info? e with
 |some i=>match i.zero with
  |some z=>KJ z
  |none=>none
 |none=>none
def D4(P:Program)(t:TypeId)(cs:List V):Option V:=match Pi.Kf P t,Pi.AV P t with
 |some true,some n=>bif af n cs.length then some (.agg (cs.take n))else none
 |some false,some _=>match cs with
  |c::_=>some c
  |[]=>none
 |_,_=>none
def AG(h:H)(id:Nat)(b:BA):H:=T.put 20 h id b
def GS(cs:List V)(off:Nat)(x:List V):List V:=cs.take off++(x++cs.drop (off+x.length))
inductive RA where
 |val (v:V) (h:H)
 |skip (h:H)
 |call (f:FuncId) (args:List V)
 |yield (id:Nat) (args:List V)
 |pan (v:V)
 |rcv
 |dfr (d:DFA)
section
variable{β:Type}
def CU{α:Type}(o:Option α)(K:α->Option β):Option β:=match o with
 |some x=>K x
 |none=>none
def O5:List PV->Option (List V)
 |[]=>some []
 |.ifc t (.gk n)::l=>(O5 l).map (.ifc t (.gk n)::·)
 |.nili::l=>(O5 l).map (.nili::·)
 |_=>none
def BG(t:T V)(o:Operand)(K:V->Option β):Option β:=match o with
 |.tmp k=>CU (t.get k) K
 |.const v=>CU (KJ v) K
 |.func f=>K (.fn (.func f) [] [])
 |.global g=>CU (Pi.Gl.g g) λcs=>CU (O5 cs) λvs=>K (.pv vs)
def Nz(t:T V):List Operand->(List V->Option β)->Option β
 |[],K=>K []
 |o::l,K=>BG t o λv=>Nz t l λvs=>K (v::vs)
def QU(t:T V)(o:Option Operand)(K:Option V->Option β):Option β:=match o with
 |none=>K none
 |some o=>BG t o λv=>K (some v)
def IS(v:V)(K:Nat->Option β):Option β:=match v with
 |.int _ n=>R0 n K
 |_=>none
def CC(d:Nat)(o:Option V)(K:Nat->Option β):Option β:=match o with
 |none=>K d
 |some v=>IS v K
def KD(v:V)(K:Nat->Option β):Option β:=match v with
 |.int .i64 n=>R0 n K
 |_=>none
def RY(c:BinOp)(k:IntKind)(a b:Int)(K:V->Option β):Option β:=match c with
 |.add=>K (.int k (SE k a b))
 |.sub=>K (.int k (SI k a b))
 |.mul=>K (.int k (SF k a b))
 |.quo=>gd (Rx b 0) λ_=>K (.int k (S2 k a b))
 |.rem=>gd (Rx b 0) λ_=>K (.int k (S3 k a b))
 |.eql=>K (.bool (OY a b))
 |.neq=>K (.bool (Rx a b))
 |.lss=>K (.bool (S1 a b))
 |.leq=>K (.bool (S0 a b))
 |.gtr=>K (.bool (Sz a b))
 |.geq=>K (.bool (Rw a b))
 |.and=>K (.int k (Sy k a b))
 |.or=>K (.int k (TS k a b))
 |.xor=>K (.int k (S7 k a b))
 |_=>none
def Mh(c:BinOp)(k:IntKind)(a b:Int)(K:V->Option β):Option β:=match c with
 |.shl=>gd (Rw b 0) λ_=>K (.int k (S4 k a b))
 |.shr=>gd (Rw b 0) λ_=>K (.int k (S5 k a b))
 |_=>none
def Ro(c:BinOp)(a b:List UInt8)(K:V->Option β):Option β:=match c with
 |.add=>gd (CF (BF (Mi a) (Mi b)) 1000000000) λ_=>K (.str (TA a b))
 |.eql=>K (.bool (seq a b))
 |.neq=>K (.bool (Hg (seq a b)))
 |.lss=>K (.bool (SQ a b))
 |.leq=>K (.bool (Hg (SQ b a)))
 |.gtr=>K (.bool (SQ b a))
 |.geq=>K (.bool (Hg (SQ a b)))
 |_=>none
end
mutual
def QS(P:Program):Nat->TypeId->V->V->Option Bool
 |0,_,_,_=>none
 |d+1,t,x,y=>match P.underlying t with
  |some .bool=>match x,y with
   |.bool a,.bool b=>some (beq a b)
   |_,_=>none
  |some (.int _)=>match x,y with
   |.int k a,.int k' b=>bif k == k' then some (OY a b)else none
   |_,_=>none
  |some .string=>match x,y with
   |.str a,.str b=>some (seq a b)
   |_,_=>none
  |some (.pointer _)=>match x,y with
   |.nilp,.nilp=>some true
   |.nilp,.ptr _ _ | .nilp,.view _ | .nilp,.pv _ | .nilp,.ept _ _ _ | .ptr _ _,.nilp | .view _,.nilp | .pv _,.nilp | .ept _ _ _,.nilp=>some false
   |_,_=>none
  |some (.slice _)=>match x,y with
   |.nils,.nils=>some true
   |.nils,.exl _ _ | .exl _ _,.nils | .nils,.lf _ _ _ (_::_) | .lf _ _ _ (_::_),.nils | .nils,.pl _ _ (_::_) | .pl _ _ (_::_),.nils | .nils,.own _ _ _ | .own _ _ _,.nils=>some false
   |_,_=>none
  |some (.func _ _ _)=>match x,y with
   |.nilf,.nilf=>some true
   |.nilf,.fn _ _ _ | .fn _ _ _,.nilf=>some false
   |_,_=>none
  |some (.interface _)=>match x,y with
   |.nili,.nili=>some true
   |.nili,.ifc _ _ | .ifc _ _,.nili=>some false
   |.ifc t a,.ifc t' b=>bif aa t t' then(match P.info? t with
     |some i=>bif i.comparable then QS P d t a b else none
     |none=>none)else some false
   |_,_=>none
  |some (.struct fs)=>match x,y with
   |.agg a,.agg b=>bif P.stoodInHeld t then none else ME P d fs.toList a b
   |_,_=>none
  |some (.array n e)=>match x,y with
   |.agg a,.agg b=>bif (Pi.AV P e).isSome then Nv P d n e a b else none
   |_,_=>none
  |_=>none
def ME(P:Program):Nat->List Field->List V->List V->Option Bool
 |0,_,_,_=>none
 |_+1,[],_,_=>some true
 | d + 1, f :: fs, a, b => bif f.name == "_" then ME P d fs a b else match D4 P f.type (a.drop f.offset), D4 P f.type (b.drop f.offset) with
  |some x,some y=>(match QS P d f.type x y,ME P d fs a b with
   |some c,some r=>some (Nk c r)
   |_,_=>none)
  |_,_=>none
def Nv(P:Program):Nat->Nat->TypeId->List V->List V->Option Bool
 |0,_,_,_,_=>none
 |_+1,0,_,_,_=>some true
 |d+1,n+1,e,a,b=>match Pi.AV P e,D4 P e a,D4 P e b with
  |some s,some x,some y=>(match QS P d e x y,Nv P d n e (a.drop s) (b.drop s)with
   |some c,some r=>some (Nk c r)
   |_,_=>none)
  |_,_,_=>none
end
section
variable{β:Type}
def RQ(P:Program)(d:BinOp)(ty:TypeId)(x y:Operand)(a b:V)(K:V->Option β):Option β:=match a,b with
 |.int k a,.int k' b=>match d with
  |.shl | .shr=>Mh d k a b K
  |_=>bif k == k' then RY d k a b K else none
 |.str a,.str b=>Ro d a b K
 |.nili,.nili=>bif Pi.CQ x||Pi.CQ y then CU (QS P 64 ty .nili .nili) λc=>(match d with
  |.eql=>K (.bool c)
  |.neq=>K (.bool (Hg c))
  |_=>none)else none
 |.agg a,.agg b=>bif P.eqGuardType P.depth ty then none else CU (QS P 64 ty (.agg a) (.agg b)) λc=>(match d with
  |.eql=>K (.bool c)
  |.neq=>K (.bool (Hg c))
  |_=>none)
 |a,b=>CU (QS P 64 ty a b) λc=>match d with
  |.eql=>K (.bool c)
  |.neq=>K (.bool (Hg c))
  |_=>none
def TC(c:UnOp)(a:V)(K:V->Option β):Option β:=match a with
 |.bool b=>match c with
  |.not=>K (.bool (Hg b))
  |_=>none
 |.int k n=>match c with
  |.neg=>K (.int k (SG k n))
  |_=>none
 |_=>none
def purA(h:H):Nat->V->(V->List Nat->Option β)->Option β
 |0,_,_=>none
 |n+1,v,K=>match v with
  |.agg cs=>purAs (purA h n) cs λx l=>K (.agg x) l
  |.tup cs=>purAs (purA h n) cs λx l=>K (.tup x) l
  |.ifc t x=>purA h n x λx l=>K (.ifc t x) l
  |.fn f a b=>purAs (purA h n) a λa l=>purAs (purA h n) b λb m=>K (.fn f a b) (l++m)
  |.lf _ g c l=>bif af (2*c.depth+3) (n+7)then K (.lf false g c l) []else none
  |.pl g c l=>K (.pl g c l) []
  |.ow id=>match h.get id with
   |some (.row g c l _ _ _)=>bif af (2*c.depth+3) (n+7)then K (.lf false g c l) [id]else none
   |_=>none
  |.own id off len=>match h.get id with
   |some (.row g c l _ _ _)=>bif af (2*c.depth+3) (n+7)then gd (CF (BF off len) (AS l)) λ_=>K (.lf false g c (D0 l off (BF off len))) [id]else none
   |_=>none
  |.ptr _ _ | .view _ | .pv _ | .ept _ _ _ | .aptr _ _ _ _ | .yl _ | .mp _ | .gk _=>none
  |v=>K v []
where
 purAs (p:V->(V->List Nat->Option β)->Option β):List V->(List V->List Nat->Option β)->Option β
  |[],K=>K [] []
  |v::vs,K=>p v λx l=>purAs p vs λxs m=>K (x::xs) (l++m)
def NT(h:H):List V->(List V->List Nat->Option β)->Option β
 |[],K=>K [] []
 |v::vs,K=>purA h 6 v λx l=>NT h vs λxs m=>K (x::xs) (l++m)
end
def B8(h:H):List Nat->Option H
 |[]=>some h
 |id::l=>match h.get id with
  |some (.row g c x ex fz lk)=>bif fz then B8 h l else bif lk then none else B8 (AG h id (.row g c x ex true false)) l
  |_=>none
def IC(cs:List V):List (Nat×Nat×List V)->Option (List V)
 |[]=>some cs
 |(off,n,x)::r=>bif aa x.length n&&af (off+n) cs.length then IC (GS cs off x) r else none
def Jt(a:Nat)(es:List V):List (Nat×V)->Option (List V)
 |[]=>some es
 |(i,v)::r=>bif aa v.cells.length a&&ah i es.length then Jt a (Pi.lset es i v) r else none
def FL(P:Program)(a:Array Field):List (Nat×V)->Option (List (Nat×Nat×List V))
 |[]=>some []
 |(i,p)::l=>match a[i]?,FL P a l with
  |some f,some r=>(match Pi.AV P f.type with
   |some n=>bif ah 0 n then some ((f.offset,n,p.cells)::r)else none
   |none=>none)
  |_,_=>none
def F6(a:Nat):List (Nat×V)->List (Nat×Nat×List V)
 |[]=>[]
 |(i,p)::l=>(i*a,a,p.cells)::F6 a l
def NL(a:Bool)(cs:List V):Option V:=
 bif a then some (.agg cs)else match cs with
  |[c]=>some c
  |_=>none
def R9(P:Program)(a:TypeId):Option (Bool×Ty):=match P.underlying a with
 |some (.slice e)=>Mr P Sn e
 |_=>none
def Ra:(k:Ty)->Option (k.den->k.den->Bool)
 |.int _=>some (λ(a b:Int)=>OY a b)
 |.bool=>some (λ(a b:Bool)=>beq a b)
 |.str=>some (λ(a b:List UInt8)=>seq a b)
 |_=>none
section
variable{β:Type}
def Gc(t:T V):List (Nat×Operand)->(List (Nat×V)->Option β)->Option β
 |[],K=>K []
 |(i,o)::l,K=>BG t o λv=>Gc t l λr=>K ((i,v)::r)
def IU(k:Nat):Nat->Nat->(Nat->Option β)->Option β
 |0,_,_=>none
 |1,i,K=>gd (neq k i) λ_=>K i
 |n+1,i,K=>br (neq k i) (λ_=>K i) λ_=>IU k n (i+1) K
def Jk(h:H)(g:Bool)(c:Ty)(v:V)(K:List c.den->Option β):Option β:=Dr h (.sl g c) [v] λl _=>K l
def I4(P:Program)(a:TypeId)(c:Ty):Bool:=match P.underlying a with
 |some (.slice e)=>(match P.info? e,Pi.zeroCells P e with
  |some ti,some z=>aa ti.size c.wd&&af ti.bytes 1048576&&aa z.length ti.size&&ah 0 ti.size
  |_,_=>false)
 |_=>false
def RM(P:Program)(h:H)(id:Nat)(a:TypeId)(s x:V)(K:RA->Option β):Option β:=
 CU (R9 P a) λ(g,c)=>bif I4 P a c then Jk h g c x λnew=>match s with
  |.nils=>gd (CF (AS new) 1048576) λ_=>K (.val (.ow id) (AG h id (.row g c new false false false)))
  |.lf true g' _ l=>bif g == g' then gd (CF (BF (AS l) (AS new)) 1048576) λ_=>DT l λl=>(match x with
   |.exl _ (_::_)=>K (.val (.ow id) (AG h id (.row g c (Ij l new) false false false)))
   |_=>br (neq (AS new) 0) (λ_=>K (.val s h)) λ_=>K (.val (.ow id) (AG h id (.row g c (Ij l new) false false false))))else none
  |.exl true []=>gd (CF (AS new) 1048576) λ_=>K (.val (.ow id) (AG h id (.row g c new false false false)))
  |.ow j=>match h.get j with
   |some (.row g' _ l ex fz lk)=>bif !(g == g')||lk then none else DT l λl=>gd (CF (BF (AS l) (AS new)) 1048576) λ_=>
    bif ex then(match x with
     |.exl _ (_::_)=>K (.val (.ow id) (AG h id (.row g c (Ij l new) false false false)))
     |_=>br (neq (AS new) 0) (λ_=>K (.val s h)) λ_=>K (.val (.ow id) (AG h id (.row g c (Ij l new) false false false))))
    else K (.val (.ow id) (AG (AG h j .dead) id (.row g c (Ij l new) false fz false)))
   |_=>none
  |.own j off len=>match h.get j with
   |some (.row g' _ l true false false)=>bif g == g' then DT l λl=>gd (CF (BF len (AS new)) 1048576) λ_=>gd (CF (BF off len) (AS l)) λ_=>
    br (neq (AS new) 0) (λ_=>K (.val s h)) λ_=>
    br (CF (BF (BF off len) (AS new)) (AS l)) (λ_=>K (.val (.own j off (BF len (AS new))) (AG h j (.row g c (LB l (BF off len) new (AS new)) true false false)))) λ_=>
     K (.val (.ow id) (AG h id (.row g c (Ij (D0 l off (BF off len)) new) false false false)))else none
   |_=>none
  |_=>none
 else none
def PH(P:Program)(h:H)(t:TypeId)(v:V)(K:Int->Option β):Option β:=match P.underlying t,v with
 |some (.map _ _),.mp j=>(match h.get j with
  |some (.mp _ _ _ l _)=>K (Kh (AS l))
  |_=>none)
 |some (.map _ _),.nilm=>K 0
 |some (.array n _),_=>K n
 |some (.slice _),.nils=>K 0
 |some (.slice _),.lf _ _ _ l=>K (Kh (AS l))
 |some (.slice _),.exl _ es=>K es.length
 |some (.slice _),.ow j=>(match h.get j with
  |some (.row _ _ l _ _ _)=>K (Kh (AS l))
  |_=>none)
 |some (.slice _),.own _ _ len=>K (Kh len)
 |some .string,.str l=>K (Kh (Mi l))
 |_,_=>none
def SJ(P:Program)(h:H)(t:TypeId)(v:V)(K:Int->Option β):Option β:=PH P h t v.norm K
def JC(f:Int->Int->Int)(k:IntKind):Int->List V->(Int->Option β)->Option β
 |m,[],K=>K m
 |m,.int k' y::l,K=>bif k == k' then JC f k (f m y) l K else none
 |_,_,_=>none
def Ep:Ty->TypeDesc->Bool
 |.int _,.int _=>true
 |.bool,.bool=>true
 |.str,.string=>true
 |_,_=>false
def PC(P:Program)(ty:TypeId)(m v:V)(h:H)(K:(j:Nat)->(k:Ty)->(g:Bool)->(c:Ty)->List (k.den×c.den)->Bool->(k.den->k.den->Bool)->k.den->Option β):Option β:=
 match P.underlying ty,m with
 |some (.map kt _),.mp j=>match P.underlying kt,h.get j with
  |some d,some (.mp k g c l lk)=>bif Ep k d then CU (Ra k) λe=>Dr .lf k [v] λx q=>(match q with
   |[]=>K j k g c l lk e x
   |_=>none)else none
  |_,_=>none
 |_,_=>none
def H2(P:Program)(h:H)(id:Nat)(b:Builtin)(f:Array TypeId)(args:List V)(K:RA->Option β):Option β:=
 match b with
 |.len=>match args,f[0]? with
  |[x],some t=>SJ P h t x λn=>K (.val (.int .i64 n) h)
  |_,_=>none
 |.cap=>match args,f[0]? with
  |[x],some t=>match P.underlying t,x with
   |some (.slice _),.ow j=>(match h.get j with
    |some (.row _ _ l true _ _)=>K (.val (.int .i64 (Kh (AS l))) h)
    |_=>none)
   |some (.slice _),.own j off _=>(match h.get j with
    |some (.row _ _ l true _ _)=>K (.val (.int .i64 (Kh (PY (AS l) off))) h)
    |_=>none)
   |some (.slice _),.nils=>K (.val (.int .i64 0) h)
   |_,_=>none
  |_,_=>none
 |.append=>match args,f.toList with
  |[s,x],[t,t']=>bif aa t t' then RM P h id t s x K else none
  |_,_=>none
 |.copy=>match args,f[0]? with
  |[d,x],some t=>CU (R9 P t) λ(g,c)=>bif !I4 P t c then none else Jk h g c x λnew=>match d with
   |.ow j=>(match h.get j with
    |some (.row g' _ l true false false)=>bif g == g' then DT l λl=>K (.val (.int .i64 (Kh (Qm (AS new) (AS l)))) (AG h j (.row g c (LB l 0 new (AS l)) true false false)))else none
    |_=>none)
   |.own j off len=>(match h.get j with
    |some (.row g' _ l ex false false)=>bif g == g' then DT l λl=>gd (CF (BF off len) (AS l)) λ_=>K (.val (.int .i64 (Kh (Qm (AS new) len))) (AG h j (.row g c (LB l off new len) ex false false)))else none
    |_=>none)
   |_=>none
  |_,_=>none
 |.clear=>match args,f[0]? with
  |[.mp j],some t=>match P.underlying t,h.get j with
   |some (.map _ _),some (.mp k g c _ false)=>K (.val (.tup []) (AG h j (.mp k g c [] false)))
   |_,_=>none
  |_,_=>none
 |.delete=>match args,f[0]? with
  |[m,v],some t=>PC P t m v h λj k g c l i e x=>bif i then none else K (.val (.tup []) (AG h j (.mp k g c (IQ e l x) false)))
  |_,_=>none
 |.max=>match args with
  |.int k a::r=>JC TQ k a r λm=>K (.val (.int k m) h)
  |_=>none
 |.min=>match args with
  |.int k a::r=>JC TP k a r λm=>K (.val (.int k m) h)
  |_=>none
 |.panic=>match args with
  |[.ifc t v]=>K (.pan (.ifc t v))
  |_=>none
 |.recover=>K .rcv
 |_=>none
def FC(P:Program)(f:Fn)(first cap args:List V)(K:RA->Option β):Option β:=match f with
 |.func g=>match P.funcs[g]? with
  | some fn => bif fn.body.isSome && !(fn.name == "runtime.NumGoroutine") then K (.call g (first ++ args ++ cap)) else none
  |none=>none
 |.method name=>match first++args with
  |.ifc t v::rest=>match P.info? t with
   |some i=>match i.methods.find? (·.name == name)with
    |some m=>match m.path.isEmpty,m.func,P.underlying t with
     | true, some (g, true), some (.pointer _) => bif (match P.funcs[g]? with | some fn => fn.body.isSome && !(fn.name == "runtime.NumGoroutine") | none => false) then K (.call g (v :: rest)) else none
     |true,some (_,false),some (.pointer _)=>none
     | true, some (g, false), some _ => bif (match P.funcs[g]? with | some fn => fn.body.isSome && !(fn.name == "runtime.NumGoroutine") | none => false) then K (.call g (v :: rest)) else none
     |_,_,_=>none
    |none=>none
   |none=>none
  |_=>none
 |_=>none
def HW(a:IntKind):Nat->List V->Option (List Int)
 |0,_=>some []
 |n+1,.int k x::l=>bif k == a then(HW a n l).map (x::·)else none
 |_+1,_=>none
def PF:List V->Option IntKind
 |.int k _::_=>some k
 |_=>none
def Mg(a:IntKind)(k:Nat)(x:Int):Nat->List Int->List V
 |_,[]=>[]
 |i,y::l=>.int a (TL (neq k i) x y)::Mg a k x (i+1) l
def RO(h:H)(n len:Nat)(x:V):Option (Nat×Nat):=match x with
 |.ptr j off=>(match h.get j with
  |some (.box cs _ _)=>(match PF (cs.drop off)with
   |some a=>bif aa n 1&&(HW a len (cs.drop off)).isSome then some (j,off)else none
   |none=>none)
  |_=>none)
 |_=>none
def PK(P:Program)(h:H)(ty:TypeId)(p:V)(K:V->Option β):Option β:=match p with
 |.pv cs=>CU (D4 P ty cs) K
 |.ptr j off=>match h.get j with
  |some (.box cs _ _)=>CU (D4 P ty (cs.drop off)) K
  |_=>none
 |.view cs=>CU (D4 P ty cs) K
 |.ept j i off=>match h.get j with
  |some (.row g c l _ _ _)=>ix l i λx=>CU (D4 P ty ((Nr g c x).cells.drop off)) K
  |_=>none
 |.aptr j off k n=>match h.get j with
  |some (.box cs _ _)=>(match PF (cs.drop off),Pi.Kf P ty,Pi.AV P ty with
   |some k0,some false,some _=>CU (HW k0 n (cs.drop off)) λl=>K (.int k0 (Oc l k))
   |_,_,_=>none)
  |_=>none
 |_=>none
def Ke(P:Program)(h:H)(ty:TypeId)(p v:V)(K:H->Option β):Option β:=CU (Pi.AV P ty) λn=>
 bif !ah 0 n || !aa v.cells.length n then none else match p with
 |.ptr j off=>match h.get j with
  |some (.box cs false false)=>bif af (off+n) cs.length then K (AG h j (.box (GS cs off v.cells) false false))else none
  |_=>none
 |.ept j i off=>match h.get j with
  |some (.row g c l ex false false)=>ix l i λx=>bif af (off+n) (cells c x).length then
    Dr .lf c (GS (cells c x) off v.cells) λy q=>match q with
     |[]=>K (AG h j (.row g c (lset l i y) ex false false))
     |_=>none
   else none
  |_=>none
 |.aptr j off k m=>match h.get j with
  |some (.box cs false false)=>(match v,PF (cs.drop off)with
   |.int k1 x,some k0=>bif k1 == k0 then CU (HW k0 m (cs.drop off)) λl=>K (AG h j (.box (GS cs off (Mg k0 k x 0 l)) false false))else none
   |_,_=>none)
  |_=>none
 |_=>none
def L7(P:Program)(ty:TypeId)(a:List (Nat×V))(K:V->Option β):Option β:=
 match Ch P ty,P.underlying ty with
 |some z,some (.struct fs)=>bif fs.toList.all λf=>(Pi.AV P f.type).isSome then
   (match FL P fs a with
   |some pl=>CU (IC z pl) λcs=>K (.agg cs)
   |none=>none)else none
 |some z,some (.array _ e)=>match Pi.AV P e with
  |some n=>bif ah 0 n then CU (IC z (F6 n a)) λcs=>K (.agg cs)else none
  |none=>none
 |_,_=>none
def Ee(P:Program)(h:H)(ty:TypeId)(len:Nat)(a:List (Nat×V))(K:RA->Option β):Option β:=
 match P.underlying ty with
 |some (.slice e)=>match Pi.AV P e,Pi.Kf P e,Ch P e with
  |some n,some ag,some z=>match NL ag z with
   |some b=>bif !ah 0 n || !af (len*n) 16777216 || !aa z.length n then none else
    CU (Jt n (a8 len b) a) λes=>NT h es λes l=>CU (B8 h l) λh=>K (.val (.exl true es) h)
   |none=>none
  |_,_,_=>none
 |_=>none
def Rc(p:V)(K:V->Option β):Option β:=match p with
 |.pv cs=>K (.pv cs)
 |.ptr a b=>K (.ptr a b)
 |.ept a b c=>K (.ept a b c)
 |.view cs=>K (.view cs)
 |.ifc ty v=>K (.ifc ty v)
 |.yl i=>K (.yl i)
 |.fn (.func f) a b=>K (.fn (.func f) a b)
 |_=>none
def Q5:List V->(List UInt8->Option β)->Option β
 |[],K=>K []
 |.int .u8 n::l,K=>Q5 l λr=>K (TN n::r)
 |_,_=>none
def H5(P:Program)(b a:TypeId)(x:V)(K:V->Option β):Option β:=match x,P.underlying b,P.underlying a with
 |.int _ n,some _,some (.int k)=>K (.int k (TK k n))
 |.str l,some .string,some .string=>K (.str l)
 |.exl _ es,some (.slice e),some .string=>(match P.underlying e with
  |some (.int .u8)=>Q5 es λl=>K (.str l)
  |_=>none)
 |_,_,_=>none
def RW(P:Program)(ty:TypeId)(v:V)(K:V->Option β):Option β:=match P.underlying ty with
 |some (.interface _)=>none
 |some _=>K (.ifc ty v)
 |none=>none
def PQ(P:Program)(h:H)(id:Nat)(ty:TypeId)(same:Bool)(l c:V)(K:RA->Option β):Option β:=match P.underlying ty with
 |some (.slice e)=>match Pi.AV P e,Pi.Kf P e,Ch P e,P.info? e with
  |some n,some ag,some z,some ti=>CU (Mr P Sn e) λ(g,ct)=>bif af ti.bytes 1048576&&ah 0 n&&aa z.length n then CU (NL ag z) λz=>GI .lf g ct z λz=>KD l λl=>KD c λc=>
    bif same then gd (CF c 1048576) λ_=>K (.val (.ow id) (AG h id (.row g ct (Rb c z) true false false)))
    else gd (CF l c) λ_=>gd (CF c 1048576) λ_=>K (.val (.own id 0 l) (AG h id (.row g ct (Rb c z) true false false)))
   else none
  |_,_,_,_=>none
 |_=>none
def LJ(P:Program)(h:H)(id:Nat)(ty:TypeId)(K:RA->Option β):Option β:=match P.underlying ty with
 |some (.map kt e)=>match Mr P Sn kt,Mr P Sn e with
  |some (false,k),some (g,c)=>K (.val (.mp id) (AG h id (.mp k g c [] false)))
  |_,_=>none
 |_=>none
def Mj(P:Program)(h:H)(ty:TypeId)(x:V)(lo hi mx:Option V)(K:V->Option β):Option β:=match P.underlying ty,x with
 |some .string,.str s=>match mx with
  |none=>CC (Mi s) hi λhh=>CC 0 lo λl=>gd (CF hh (Mi s)) λ_=>gd (CF l hh) λ_=>K (.str (SR s l hh))
  |_=>none
 |some (.slice e),.nils=>CU (Pi.AV P e) λ_=>match mx with
  |none=>CC 0 hi λhh=>CC 0 lo λl=>gd (neq hh 0) λ_=>gd (neq l 0) λ_=>K .nils
  |some m=>bif hi.isNone then none else CC 0 hi λhh=>CC 0 lo λl=>IS m λm=>gd (neq hh 0) λ_=>gd (neq l 0) λ_=>gd (neq m 0) λ_=>K .nils
 |some (.slice e),.lf _ g c es=>CU (Pi.AV P e) λn=>bif !aa n c.wd then none else CC 0 lo λl=>CC (AS es) hi λhh=>(match mx with
  |none=>gd (CF hh (AS es)) λ_=>gd (CF l hh) λ_=>K (.lf false g c (D0 es l hh))
  |some m=>bif hi.isNone || !af c.depth 4 then none else IS m λm=>gd (CF hh (AS es)) λ_=>gd (neq hh m) λ_=>gd (CF l hh) λ_=>K (.lf true g c (D0 es l hh)))
 |some (.slice e),.pl g c es=>CU (Pi.AV P e) λn=>bif !aa n c.wd then none else CC 0 lo λl=>CC (AS es) hi λhh=>(match mx with
  |none=>gd (CF hh (AS es)) λ_=>gd (CF l hh) λ_=>K (.pl g c (D0 es l hh))
  |some m=>bif hi.isNone || !af c.depth 4 then none else IS m λm=>gd (CF hh (AS es)) λ_=>gd (neq hh m) λ_=>gd (CF l hh) λ_=>K (.lf true g c (D0 es l hh)))
 |some (.slice e),.ow j=>(match h.get j with
  |some (.row g c es _ false _)=>CU (Pi.AV P e) λn=>bif !aa n c.wd then none else CC 0 lo λl=>CC (AS es) hi λhh=>(match mx with
   |none=>gd (CF hh (AS es)) λ_=>gd (CF l hh) λ_=>br (KI l (AS es)) (λ_=>K (.own j l (PY hh l))) λ_=>K (.lf false g c [])
   |some _=>none)
  |_=>none)
 |some (.slice e),.own j off len=>(match h.get j with
  |some (.row g c es ex _ _)=>CU (Pi.AV P e) λn=>bif !aa n c.wd then none else CC 0 lo λl=>CC len hi λhh=>(match mx with
   |none=>gd (CF (BF off hh) (AS es)) λ_=>gd (CF l hh) λ_=>br (KI (BF off l) (AS es)) (λ_=>K (.own j (BF off l) (PY hh l))) λ_=>K (.lf false g c [])
   |some m=>bif lo.isSome||hi.isNone || !ex then none else IS m λm=>gd (CF hh m) λ_=>gd (neq (BF off m) (AS es)) λ_=>gd (KI off (AS es)) λ_=>K (.own j off hh))
  |_=>none)
 |_,_=>none
def Fs(P:Program)(b:TypeId)(x:V)(f:Nat)(K:V->Option β):Option β:=match P.underlying b with
 |some (.struct fs)=>match fs[f]? with
  |some a=>match Pi.AV P a.type with
   |some n=>bif aa n 0 then none else(match x with
    |.ptr j off=>K (.ptr j (off+a.offset))
    |.ept j i off=>K (.ept j i (off+a.offset))
    |.view cs=>K (.view (cs.drop a.offset))
    |.pv cs=>K (.pv (cs.drop a.offset))
    |_=>none)
   |none=>none
  |none=>none
 |_=>none
def MK(P:Program)(ty:TypeId)(x:V)(f:Nat)(K:V->Option β):Option β:=match P.underlying ty,x with
 |some (.struct fs),.agg cs=>match fs[f]? with
  |some a=>CU (D4 P a.type (cs.drop a.offset)) K
  |none=>none
 |_,_=>none
def Fw(P:Program)(h:H)(ty:TypeId)(x i:V)(K:V -> Option β):Option β:=match P.underlying ty with
  | some (.slice e) => CU (Pi.AV P e) fun n => IS i fun k => match x with
      |.lf _ g c es=>ix es k fun a=>bif aa (Nr g c a).cells.length n then K (.view (Nr g c a).cells)else none
      |.pl g c es=>ix es k fun a=>bif aa (elP g c a).cells.length n then K (.pv (elP g c a).cells)else none
      |.exl _ es=>IU k es.length 0 fun k=>CU (lget es k) fun a=>bif aa a.cells.length n then K (.view a.cells)else none
      |.ow j=>(match h.get j with
        |some (.row _ c es _ false _)=>gd (KI k (AS es)) fun _=>bif aa c.wd n then K (.ept j k 0)else none
        |_=>none)
      |.own j off len=>gd (KI k len) fun _=>(match h.get j with
        |some (.row _ c es _ _ _)=>gd (KI (BF off k) (AS es)) fun _=>bif aa c.wd n then K (.ept j (BF off k) 0)else none
        |_=>none)
      |_=>none
  |some (.array len e)=>CU (Pi.AV P e) fun n=>IS i fun k=>match RO h n len x with
   |some (j,off)=>gd (KI k len) fun _=>K (.aptr j off k len)
   | none => IU k len 0 fun k => match x with
      |.ptr j off=>K (.ptr j (off + k * n))
      |.ept j i off=>K (.ept j i (off + k * n))
      |.view cs=>K (.view (cs.drop (k * n)))
      |.pv cs=>K (.pv (cs.drop (k * n)))
      |_=>none
  |_=>none
def MO(P:Program)(ty:TypeId)(x i:V)(K:V->Option β):Option β:=match P.underlying ty,x with
 |some (.array len e),.agg cs=>CU (Pi.AV P e) λn=>IS i λk=>IU k len 0 λk=>CU (D4 P e (cs.drop (k*n))) K
 |some .string,.str l=>IS i λk=>ix l k λb=>K (.int .u8 (TW b))
 |_,_=>none
def J7(P:Program)(h:H)(ty:TypeId)(m k:V)(a:Bool)(K:V->Option β):Option β:=match m with
 |.nilm=>match P.underlying ty with
  |some (.map kt e)=>match P.underlying kt,C6 P e with
   |some d,some z=>bif Pi.Cl d then K (bif a then .tup [z,.bool false]else z)else none
   |_,_=>none
  |_=>none
 |m=>PC P ty m k h λ_ _ g c l _ e x=>match P.underlying ty with
  |some (.map _ et)=>CU (C6 P et) λz=>GI .lf g c z λz=>
    K (bif a then .tup [Nr g c (SL (MT e l x) z),.bool (TV (MT e l x))]else Nr g c (SL (MT e l x) z))
  |_=>none
def EN(P:Program)(h:H)(ty:TypeId)(m k v:V)(K:H->Option β):Option β:=
 PC P ty m k h λj a g c l b e x=>bif b then none else GI .lf g c v λy=>K (AG h j (.mp a g c (IR e l x y) false))
def E4(a:Bool)(v:V):V:=bif a then .tup [v,.bool true]else v
def Je(P:Program)(ty:TypeId)(v:V)(b:Bool)(K:V->Option β):Option β:=match P.underlying ty with
 |some (.interface want)=>match v with
  |.ifc u a=>match P.info? u with
   |some i=>match Instr.missingMethod want i.methods with
    |none=>K (E4 b (.ifc u a))
    |some _=>bif b then CU (C6 P ty) λz=>K (.tup [z,.bool false])else none
   |none=>none
  |.nili=>bif b then CU (C6 P ty) λz=>K (.tup [z,.bool false])else none
  |_=>none
 |some _=>match v with
  |.ifc u a=>bif aa u ty then K (E4 b a)else bif b then CU (C6 P ty) λz=>K (.tup [z,.bool false])else none
  |.nili=>bif b then CU (C6 P ty) λz=>K (.tup [z,.bool false])else none
  |_=>none
 |none=>none
def NY:Operand->Operand->Bool
 |.tmp a,.tmp b=>aa a b
 |_,_=>false
def Kg(h:H)(K:RA->Option β)(v:V):Option β:=K (.val v h)
def SZ(P:Program)(t:T V)(h:H)(id:Nat)(o:Oper)(K:RA->Option β):Option β:=
 match o.op with
 |.move x=>BG t x (Kg h K)
 |.assign x=>BG t x (Kg h K)
 |.pick c a b=>BG t c λc=>BG t a λa=>BG t b λb=>match c with
  |.bool c=>br c (λ_=>Kg h K a) (λ_=>Kg h K b)
  |_=>none
 |.alloc e=>CU (Ch P e) λcs=>K (.val (.ptr id 0) (AG h id (.box cs false false)))
 |.box _ x=>BG t x λv=>match v with
  |.tup _=>none
  |v=>K (.val (.ptr id 0) (AG h id (.box v.cells false false)))
 |.build ty d=>Gc t d.toList λu=>L7 P ty u (Kg h K)
 |.buildSlice ty len d=>Gc t d.toList λu=>Ee P h ty len u K
 |.load ty a=>BG t a λa=>PK P h ty a (Kg h K)
 |.store ty a x=>BG t a λa=>BG t x λx=>Ke P h ty a x λh=>K (.skip h)
 |.nilCheck x=>BG t x λx=>Rc x (Kg h K)
 |.binOp op ty x y _=>BG t x λa=>BG t y λb=>RQ P op ty x y a b (Kg h K)
 |.unOp op _ x=>BG t x λa=>TC op a (Kg h K)
 |.convert w p x=>BG t x λa=>H5 P w p a (Kg h K)
 |.makeInterface ty x=>BG t x λa=>RW P ty a (Kg h K)
 |.makeFunc f first cap=>Nz t first.toList λa=>Nz t cap.toList λb=>match f with
  |.yield _=>none
  |f=>K (.val (.fn f a b) h)
 |.makeMap ty none=>LJ P h id ty K
 |.makeSlice ty l c=>BG t l λx=>BG t c λy=>PQ P h id ty (NY l c) x y K
 |.slice ty x lo hi mx=>QU t lo λlo=>QU t hi λhi=>QU t mx λmx=>BG t x λx=>Mj P h ty x lo hi mx (Kg h K)
 |.fieldAddr s x f=>BG t x λx=>Fs P s x f (Kg h K)
 |.field ty x f=>BG t x λx=>MK P ty x f (Kg h K)
 |.indexAddr ty x i=>BG t x λx=>BG t i λi=>Fw P h ty x i (Kg h K)
 |.index ty x i=>BG t x λx=>BG t i λi=>MO P ty x i (Kg h K)
 |.lookup ty x k q=>BG t x λm=>BG t k λk=>J7 P h ty m k q (Kg h K)
 |.mapUpdate ty x k v=>BG t x λx=>BG t k λk=>BG t v λv=>EN P h ty x k v λh=>K (.skip h)
 |.insert ty x k v=>BG t x λx=>BG t k λk=>BG t v λv=>EN P h ty x k v λh=>K (.skip h)
 |.typeAssert x _ ty q=>BG t x λv=>Je P ty v q (Kg h K)
 |.extract x i=>BG t x λx=>match x with
  |.tup vs=>CU (lget vs i) (Kg h K)
  |_=>none
 |.panic x=>BG t x λx=>match x with
  |.ifc ty v=>K (.pan (.ifc ty v))
  |_=>none
 |.call c=>Nz t c.args.toList λargs=>match c.callee with
  |.builtin b=>H2 P h id b c.argTypes args K
  |.value f=>BG t f λf=>match f with
   |.fn f a b=>FC P f a b args K
   |.yl l=>K (.yield l args)
   |_=>none
  |.invoke n j=>BG t n λr=>FC P (.method j) [r] [] args K
 |.defer c=>Nz t c.args.toList λargs=>match c.callee with
  |.builtin b=>K (.dfr (.bi b c.argTypes o.type args))
  |.value f=>BG t f λf=>match f with
   |.fn (.func g) a b=>K (.dfr (.call (.fn (.func g) a b) args))
   |_=>none
  |.invoke _ _=>none
 |_=>none
end
end
section
variable[Pi.Gl]
open Pi (T lget G5)
@[reducible] def AP:List (Bool×Ty)->Type
 |[]=>Unit
 |[p]=>p.2.den
 |p::q::r=>p.2.den×AP (q::r)
structure Sg where
 dom:List (Bool×Ty)
 cod:List (Bool×Ty)
 fn:AP dom->Option (AP cod)
abbrev D8:=FuncId->Option (Option Sg)
def EU:(l:List (Bool×Ty))->AP l->List V
 |[],_=>[]
 |[p],x=>[elP p.1 p.2 x]
 |p::q::r,x=>elP p.1 p.2 x.1::EU (q::r) x.2
def P9:(l:List (Bool×Ty))->AP l->V
 |[],_=>.tup []
 |[(false,.sl g c)],x=>.lf false g c x
 |[p],x=>elP p.1 p.2 x
 |p::q::r,x=>.tup (EU (p::q::r) x)
inductive Cv where
 |p|m|f|i
def Cv.v:Cv->V
 |.p=>.nilp
 |.m=>.nilm
 |.f=>.nilf
 |.i=>.nili
def RZ:Cv->V->Bool
 |.p,v=>match v with
  |.nilp=>true
  |_=>false
 |.m,v=>match v with
  |.nilm=>true
  |_=>false
 |.f,v=>match v with
  |.nilf=>true
  |_=>false
 |.i,v=>match v with
  |.nili=>true
  |_=>false
inductive Sgm where
 |lf (c:Ty)
 |ow (g:Bool) (c:Ty) (ex:Bool)
 |kp (id:Nat)
 |cn (c:Cv)
 |er (t n tF:Nat) (k:IntKind)
 |ek (t n:Nat)
 |ef (tF:Nat) (k:IntKind)
@[reducible] def Sgm.den:Sgm->Type
 |.lf c=>c.den
 |.ow _ c _=>List c.den
 |.kp _=>Unit
 |.cn _=>Unit
 |.er _ _ _ _=>Int×Int
 |.ek _ _=>Unit
 |.ef _ _=>Int
@[reducible] def DN:List Sgm->Type
 |[]=>Unit
 |[p]=>p.den
 |p::q::r=>p.den×DN (q::r)
inductive Pl where
 |slot (k:Nat) (g:Bool) (c:Ty)
 |srow (k:Nat) (g:Bool) (c:Ty) (ex:Bool)
 |swin (k:Nat) (g:Bool) (c:Ty)
 |cn (k:Nat) (c:Cv)
 |box (id:Nat) (sg:List Sgm)
 |map (id:Nat) (k:Ty) (g:Bool) (c:Ty)
@[reducible] def Pl.den:Pl->Type
 |.slot _ _ c=>c.den
 |.srow _ _ c _=>List c.den
 |.swin _ _ c=>List c.den×Nat
 |.cn _ _=>Unit
 |.box _ sg=>DN sg
 |.map _ k _ c=>List (k.den×c.den)
@[reducible] def Ar:List Pl->Type
 |[]=>Unit
 |[p]=>p.den
 |p::q::r=>p.den×Ar (q::r)
inductive ExK where
 |exit (id:Nat)
 |ret
 |pan (t:TypeId) (g:Bool) (c:Ty)
structure Tm where
 keep:List Nat
 kb:List Nat
 pl:List Pl
 ex:List (ExK×List (Nat×Nat×Option Code))
 pay:Ty
 plx:List Pl:=pl
 rel:List (Nat×Nat):=[]
 relS:List Nat:=[]
structure Jn where
 keep:List Nat
 kb:List Nat
 pl0:List Pl
 pl1:List Pl
 ex:List (ExK×List (Nat×Nat×Option Code))
 pay:Ty
inductive An where
 |loop (tm:Tm)
 |join (j:Jn)
abbrev Hu:=FuncId->Nat->Nat->Option An
section
variable{β:Type}
def Bu(h:H):(l:List (Bool×Ty))->List V->(AP l->Option β)->Option β
 |[],vs,K=>match vs with
  |[]=>K ()
  |_=>none
 |[p],vs,K=>match vs with
  |[v]=>GI h p.1 p.2 v K
  |_=>none
 |p::q::r,vs,K=>match vs with
  |v::vs=>GI h p.1 p.2 v λx=>Bu h (q::r) vs λy=>K (x,y)
  |_=>none
def FS:List V->List Nat
 |[]=>[]
 |.ow id::l=>id::FS l
 |.own id _ _::l=>id::FS l
 |_::l=>FS l
def DK(l:List V):List Nat:=l.flatMap λv=>FS v.cells
def B1:List (Bool×Ty)->Bool
 |[]=>false
 |p::l=>p.2.hasSl||B1 l
def Ty.leaf:Ty->Bool
 |.unit | .pair _ _=>false
 |_=>true
def Cn(l:List (Bool×Ty)):Bool:=l.all λp=>af p.2.depth 4&&(p.1||p.2.leaf)
def DS(h:H)(sg:Sg)(args:List V)(K:V->H->Option β):Option β:=
 bif !Cn sg.dom || !Cn sg.cod then none else Bu h sg.dom args λx=>CU (bif B1 sg.cod then B8 h (DK args)else some h) λh=>bd (sg.fn x) λy=>K (P9 sg.cod y) h
def Kt(h:H)(id:Nat):(sg:Sg)->List V->(V->H->Option β)->Option β
 |⟨dom,[(false,.sl g c)],a⟩,args,K=>bif !Cn dom || !af c.depth 3 then none else Bu h dom args λx=>CU (bif c.hasSl then B8 h (DK args)else some h) λh=>bd (a x) λy=>K (.ow id) (AG h id (.row g c y false false false))
 |_,_,_=>none
def Cr:Nat:=1048576
def Cs:Nat:=2097152
def RK(f:Nat):Nat:=bif ah f Cr then f else f-Cr
def getD(a:D8)(f:FuncId):Option Sg:=bif ah f Cr then(match a f with
 |some r=>r
 |none=>match a (f+Cr)with
  |some r=>r
  |none=>none)else none
def getR(a:D8)(f:FuncId):Option Sg:=bif ah f Cr then(match a (f+Cs)with
 |some r=>r
 |none=>none)else none
def IT:Nat:=3145728
def Ry:Bool×Ty->Bool
 |(true,.pair _ .unit)=>true
 |_=>false
def getP(a:D8)(f:FuncId):Option Sg:=bif ah f Cr then(match a (f+IT)with
 |some r=>r
 |none=>none)else none
def MW:Nat:=4194304
def getL(a:D8)(f:FuncId):Option Sg:=bif ah f Cr then(match a (f+MW)with
 |some r=>r
 |none=>none)else none
def Ej(h:H):List (Bool×Ty)->List V->Option (List V×List Nat)
 |p::l,v::vs=>match Ej h l vs with
  |some a=>bif Ry p then(match v with
    |.ptr j off=>(match h.get j with
     |some (.box cs _ _)=>bif ah off cs.length then some (.agg (cs.drop off)::a.1,j::a.2)else none
     |_=>none)
    |_=>none)else some (v::a.1,a.2)
  |none=>none
 |_,vs=>some (vs,[])
def R3:V->V
 |.agg cs=>.pv cs
 |v=>v
def QA:List (Bool×Ty)->List V->List V
 |p::l,v::vs=>(bif Ry p then R3 v else v)::QA l vs
 |_,vs=>vs
inductive TgA where
 |fn (f:FuncId)
 |yl (id:Nat)
abbrev Hv:=(β:Type)->TgA->Option UMA->List V->H->Nat->(OutA->Option UMA->H->Nat->Option β)->Option β
abbrev KA(β:Type):=ExA->FrA->H->Nat->Option β
def HF(fr:FrA)(a:Option Nat)(v:V)(K:FrA->Option β):Option β:=match a with
 |none=>K fr
 |some d=>bif ah d fr.nt then K { fr with t:=T.put 20 fr.t d v }else none
def Jy(ops:List Oper)(t:T V)(g:Option (Nat×Bool))(a c:T V->Option β):Option β:=match g with
 |none=>a t
 |some (j,want)=>match lget ops j with
  |some o=>match o.dst with
   |some d=>match t.get d with
    |some (.bool b)=>br b (λ_=>bif want then a (T.put 20 t d (.bool true))else c (T.put 20 t d (.bool true))) (λ_=>bif want then c (T.put 20 t d (.bool false))else a (T.put 20 t d (.bool false)))
    |some (.tup [])=>c t
    |_=>none
   |none=>none
  |none=>none
def Bj(P:Program)(a:D8)(rec:Hv)(base:Nat)(ops:List Oper):List (Nat×Oper)->FrA->H->Nat->KA β->Option β
 |[],fr,h,nx,K=>K .normal fr h nx
 |(i,o)::r,fr,h,nx,K=>Jy ops fr.t o.guard
  (λt=>SZ P t h (base+i) o fun
   |.val v h=>HF { fr with t } o.dst v λfr=>Bj P a rec base ops r fr h nx K
   |.skip h=>HF { fr with t } o.dst (.tup []) λfr=>Bj P a rec base ops r fr h nx K
   |.dfr d=>match fr.ro with
    |none=>HF { fr with t,ds:=d::fr.ds } o.dst (.tup []) λfr=>Bj P a rec base ops r fr h nx K
    |some _=>none
   |.call f args=>match a f with
    |some none=>none
    |some (some sg)=>bif !ah f Cr then none else(match getR a f with
     |some sg=>Kt h (base+i) sg args λv h=>HF { fr with t } o.dst v λfr=>Bj P a rec base ops r fr h nx K
     |none=>DS h sg args λv h=>HF { fr with t } o.dst v λfr=>Bj P a rec base ops r fr h nx K)
    |none=>rec β (.fn f) none args h nx λo' _ h nx=>match o' with
     |.ret v=>HF { fr with t } o.dst v λfr=>Bj P a rec base ops r fr h nx K
     |.pan [{ v,recovered:=false }]=>K (.panic v) { fr with t } h nx
     |_=>none
   |.yield l args=>rec β (.yl l) none args h nx λo' _ h nx=>match o' with
     |.ret v=>HF { fr with t } o.dst v λfr=>Bj P a rec base ops r fr h nx K
     |_=>none
   |.pan v=>K (.panic v) { fr with t } h nx
   |.rcv=>match fr.ro with
    |some _=>none
    |none=>match fr.up with
     |some (.pan ({ v,recovered:=false }::older))=>HF { fr with t,up:=some (.pan ({ v,recovered:=true }::older)) } o.dst v λfr=>Bj P a rec base ops r fr h nx K
     |_=>HF { fr with t } o.dst .nili λfr=>Bj P a rec base ops r fr h nx K)
  (λt=>HF { fr with t } o.dst (.tup []) λfr=>Bj P a rec base ops r fr h nx K)
def AR:Op->Nat
 |.move _ | .assign _ | .pick _ _ _ | .build _ _ | .nilCheck _ | .binOp _ _ _ _ _ | .unOp _ _ _ | .convert _ _ _ | .makeInterface _ _ | .makeFunc _ _ _ | .fieldAddr _ _ _ | .field _ _ _ | .index _ _ _ | .typeAssert _ _ _ _ | .extract _ _=>0
 |.load _ _ | .indexAddr _ _ _=>1
 |.slice _ _ _ _ none=>1
 |.slice _ _ _ _ (some _)=>4
 |.call c=>match c.callee with
  |.builtin b=>match b with
   |.len | .cap | .max | .min=>1
   |.append | .copy=>4
   |_=>9
  |_=>9
 |.buildSlice _ _ _=>4
 |.alloc _ | .box _ _ | .makeMap _ none | .makeSlice _ _ _=>2
 |.store _ _ _=>3
 |_=>9
def GW(h:H)(id:Nat):Bool:=match h.get id with
 |some .dead=>false
 |some _=>true
 |none=>false
def RB(h:H):V->Bool
 |.ow id | .own id _ _ | .ptr id _ | .ept id _ _ | .aptr id _ _ _ | .mp id=>GW h id
 |_=>true
def GX(h:H)(t:T V):List Operand->Bool
 |[]=>true
 |.tmp k::l=>(match t.get k with
  |some v=>RB h v
  |none=>false)&&GX h t l
 |_::l=>GX h t l
def N6(t:T V):List Operand->Option (List Nat×Bool)
 |[]=>some ([],false)
 |.tmp k::l=>match t.get k with
  |some (.ow id)|some (.own id _ _)|some (.ptr id _)|some (.ept id _ _)|some (.aptr id _ _ _)|some (.mp id)=>(N6 t l).map λa=>(id::a.1,a.2)
  |some (.lf _ _ _ _)|some (.view _)=>(N6 t l).map λa=>(a.1,true)
  |some _=>N6 t l
  |none=>none
 |_::l=>N6 t l
def SC(f:V->Option (List Nat×Bool)):List V->Option (List Nat×Bool)
 |[]=>some ([],false)
 |v::vs=>match f v,SC f vs with
  |some a,some b=>some (a.1++b.1,a.2||b.2)
  |_,_=>none
def Pv(h:H)(id:Nat):Bool:=match h.get id with
 |some (.row _ c _ _ _ _)=>c.hasSl
 |_=>true
def Sa(h:H):Nat->V->Option (List Nat×Bool)
 |0,_=>none
 |n+1,v=>match v with
  |.bool _ | .int _ _ | .str _ | .nils | .pl _ _ _ | .exl _ _=>some ([],false)
  |.lf _ _ _ _=>some ([],true)
  |.ow id | .own id _ _=>bif GW h id then some ([id],Pv h id)else none
  |.agg cs=>SC (Sa h n) cs
  |_=>none
def QW(h:H)(t:T V):List Operand->Option (List Nat×Bool)
 |[]=>some ([],false)
 |.tmp k::l=>match t.get k with
  |some v=>(match Sa h 6 v,QW h t l with
   |some a,some b=>some (a.1++b.1,a.2||b.2)
   |_,_=>none)
  |none=>none
 |_::l=>QW h t l
def QX(t:T V):List Operand->Option (List Nat×Bool)
 |[]=>some ([],false)
 |.tmp k::l=>match t.get k with
  |some (.mp id)=>(QX t l).map λa=>(id::a.1,a.2)
  |some _=>QX t l
  |none=>none
 |_::l=>QX t l
def BK(h:H)(l:List V):Option (List Nat×Bool):=SC (Sa h 6) l
def SB(js:List Nat)(o:Option (List Nat×Bool)):Option (List Nat×Bool):=o.map λa=>(js++a.1,a.2)
def Rf(t:T V):Op->Bool
 |.slice _ (.tmp k) _ _ (some _)=>match t.get k with
  |some (.pl _ _ _)|some .nils=>true
  |_=>false
 |.slice _ _ _ _ (some _)=>false
 |_=>true
def fp(h:H)(t:T V)(o:Op):Option (List Nat×Bool):=match o with
 |.load _ _ | .indexAddr _ _ _ | .slice _ _ _ _ none | .store _ _ _=>N6 t (Pi.Az o)
 |.slice _ x _ _ (some _)=>QW h t [x]
 |.buildSlice _ _ parts=>QW h t (parts.toList.map (·.2))
 |.call c=>match c.callee with
  |.builtin b=>(match b with
   |.len=>QX t c.args.toList
   |.cap | .max | .min | .append | .copy=>N6 t c.args.toList
   |_=>none)
  |_=>none
 |.alloc _ | .box _ _ | .makeMap _ none | .makeSlice _ _ _=>some ([],false)
 |_=>none
def JD(v:V):Option (List Nat×Bool)->Option (List Nat×Bool)
 |some a=>match v with
  |.ow id | .own id _ _ | .ptr id _ | .ept id _ _ | .aptr id _ _ _ | .mp id=>some (id::a.1,a.2)
  |.lf _ _ _ _ | .view _=>some (a.1,true)
  |_=>some a
 |none=>none
def LV:List (Bool×Ty)->Bool
 |[(false,.sl _ _)]=>true
 |_=>false
def LD(h:H):List Nat->Bool
 |[]=>true
 |j::l=>GW h j&&LD h l
def LZ(h:H):List Nat->Bool
 |[]=>true
 |j::l=>(h.get j).isSome&&LZ h l
def SD(h:H):Option (List Nat×Bool)->Option (List Nat×Bool)->Bool
 |some a,some b=> !Pi.CZ a.1 b.1&&(!(a.2&&b.2)&&(LD h a.1&&LZ h b.1))
 |_,_=>false
def DM(h:H)(a c:Nat)(f:Option (List Nat×Bool)):List (Nat×Nat×Option (List Nat×Bool))->Bool
 |[]=>true
 |(j,d,g)::l=>(Pi.Fh a j||(aa c 0||(aa c 2||(aa d 0||(aa c 1&&aa d 1||SD h f g)))))&&DM h a c f l
def CJ:Op->Bool
 |.call c=>match c.callee with
  |.builtin _=>false
  |_=>true
 |_=>false
def Hh(t:T V)(nt:Nat)(a:Option Nat)(v:V)(K:T V->Option β):Option β:=match a with
 |some d=>bif ah d nt then K (T.put 20 t d v)else none
 |none=>K t
def BO(P:Program)(b:D8)(base nt:Nat)(ops:List Oper):Nat->List Oper->List Pi.Mk->List (Nat×Nat×Option (List Nat×Bool))->T V->H->(T V->H->Option β)->Option β
 |i,o::l,m::ms,past,t,h,K=>Jy ops t o.guard
  (λt=>bif !Pi.As o.op then none else
   SZ P t h (base+i) o fun
    |.val v c=>bif (af (AR o.op) 2||aa (AR o.op) 4)&&(Rf t o.op&&(GX h t (Pi.Az o.op)&&DM h m.bef (AR o.op) (fp h t o.op) past))then Hh t nt o.dst v λd=>BO P b base nt ops (i+1) l ms ((i,AR o.op,bif af (AR o.op) 1 then fp h t o.op else JD v (fp h t o.op))::past) d c K else none
    |.skip c=>bif aa (AR o.op) 3&&(GX h t (Pi.Az o.op)&&DM h m.bef 3 (fp h t o.op) past)then Hh t nt o.dst (.tup []) λd=>BO P b base nt ops (i+1) l ms ((i,3,fp h t o.op)::past) d c K else none
    |.call f args=>match getR b f with
     |some sg=>bif !CJ o.op || !DM h m.bef 4 (BK h args) past then none else Kt h (base+i) sg args λv c=>Hh t nt o.dst v λt=>BO P b base nt ops (i+1) l ms ((i,4,JD v (BK h args))::past) t c K
     |none=>match getL b f with
     |some sg=>bif !CJ o.op then none else bif !DM h m.bef 4 (BK h args) past then none else DS h sg args λv c=>Hh t nt o.dst v λt=>BO P b base nt ops (i+1) l ms ((i,4,BK h args)::past) t c K
     |none=>match getD b f with
      |some sg=>bif !CJ o.op then none else bif B1 sg.cod then
        (bif !DM h m.bef 4 (BK h args) past then none else DS h sg args λv c=>Hh t nt o.dst v λt=>BO P b base nt ops (i+1) l ms ((i,4,bif LV sg.cod then JD v (BK h args)else BK h args)::past) t c K)
       else bif !DM h m.bef 1 (BK h args) past then none else DS h sg args λv c=>Hh t nt o.dst v λt=>BO P b base nt ops (i+1) l ms ((i,1,BK h args)::past) t c K
      |none=>match getP b f with
       |some sg=>bif !CJ o.op||B1 sg.cod then none else CU (Ej h sg.dom args) λa=>bif !DM h m.bef 1 (SB a.2 (BK h a.1)) past then none else DS h sg a.1 λv c=>Hh t nt o.dst v λt=>BO P b base nt ops (i+1) l ms ((i,1,SB a.2 (BK h a.1))::past) t c K
       |none=>none
    |_=>none)
  (λt=>Hh t nt o.dst (.tup []) λt=>BO P b base nt ops (i+1) l ms past t h K)
 |_,[],_,_,t,h,K=>K t h
 |_,_,_,_,_,_,_=>none
def MA(P:Program)(a:D8)(base:Nat)(ops:List Oper)(fr:FrA)(h:H)(K:FrA->H->Option β):Option β:=
 CU (Pi.FG ops 0 ops []) λb=>BO P a base fr.nt ops 0 ops b [] fr.t h λt h=>K { fr with t } h
end
def BA.locked:BA->Bool
 |.box _ _ lk=>lk
 |.row _ _ _ _ _ lk=>lk
 |.mp _ _ _ _ lk=>lk
 |_=>false
def BS(t:T V):List Nat->T V
 |[]=>.lf
 |k::l=>match t.get k with
  |some v=>T.put 20 (BS t l) k v
  |none=>BS t l
def DL:BA->BA
 |.box cs fz _=>.box cs fz true
 |.row g c l ex fz _=>.row g c l ex fz true
 |.mp k g c l _=>.mp k g c l true
 |b=>b
def BQ(h:H)(f:BA->BA):List Nat->H
 |[]=>.lf
 |k::l=>match h.get k with
  |some .dead=>BQ h f l
  |some b=>T.put 20 (BQ h f l) k (f b)
  |none=>BQ h f l
section
variable{β:Type}
def Lg(h:H)(g:Bool)(c:Ty)(ex:Bool)(v:V)(K:List c.den->Option β):Option β:=match v with
 |.nils=>bif ex then none else K []
 |.ow id=>match h.get id with
  |some (.row g' _ l ex' false false)=>bif g == g'&&ex == ex' then DT l K else none
  |_=>none
 |_=>none
def PB(t n:Nat):V->Bool
 |.ifc a v=>match v with
  |.gk m=>aa a t&&aa m n
  |_=>false
 |_=>false
def Ou(a:Nat)(k:IntKind)(v:V)(K:Int->Option β):Option β:=match v with
 |.ifc t' (.agg [.int k' e])=>bif aa t' a&&k' == k then K e else none
 |_=>none
def QT(t n a:Nat)(k:IntKind)(v:V)(K:Int×Int->Option β):Option β:=bif RZ .i v then K (0,0)else bif PB t n v then K (1,0)else Ou a k v λe=>K (2,e)
def Bh(h:H):(l:List Sgm)->List V->(DN l->Option β)->Option β
 |[],cs,K=>match cs with
  |[]=>K ()
  |_=>none
 |[.lf c],cs,K=>Dr .lf c cs λx r=>match r with
  |[]=>K x
  |_=>none
 |[.ow g c ex],cs,K=>match cs with
  |[v]=>Lg h g c ex v K
  |_=>none
 |.lf c::q::r,cs,K=>Dr .lf c cs λx cs=>Bh h (q::r) cs λy=>K (x,y)
 |.ow g c ex::q::r,cs,K=>match cs with
  |v::cs=>Lg h g c ex v λx=>Bh h (q::r) cs λy=>K (x,y)
  |_=>none
 |[.kp id],cs,K=>match cs with
  |[.ow j]=>bif aa j id then K ()else none
  |_=>none
 |.kp id::q::r,cs,K=>match cs with
  |.ow j::cs=>bif aa j id then Bh h (q::r) cs λy=>K ((),y)else none
  |_=>none
 |[.cn c],cs,K=>match cs with
  |[v]=>bif RZ c v then K ()else none
  |_=>none
 |.cn c::q::r,cs,K=>match cs with
  |v::cs=>bif RZ c v then Bh h (q::r) cs λy=>K ((),y)else none
  |_=>none
 |[.er t n tF k],cs,K=>match cs with
  |[v]=>QT t n tF k v K
  |_=>none
 |.er t n tF k::q::r,cs,K=>match cs with
  |v::cs=>QT t n tF k v λx=>Bh h (q::r) cs λy=>K (x,y)
  |_=>none
 |[.ek t n],cs,K=>match cs with
  |[v]=>bif PB t n v then K ()else none
  |_=>none
 |.ek t n::q::r,cs,K=>match cs with
  |v::cs=>bif PB t n v then Bh h (q::r) cs λy=>K ((),y)else none
  |_=>none
 |[.ef tF k],cs,K=>match cs with
  |[v]=>Ou tF k v K
  |_=>none
 |.ef tF k::q::r,cs,K=>match cs with
  |v::cs=>Ou tF k v λx=>Bh h (q::r) cs λy=>K (x,y)
  |_=>none
def QC(h:H)(g:Bool)(c:Ty)(v:V)(K:List c.den×Nat->Option β):Option β:=match v with
 |.own j off len=>match h.get j with
  |some (.row g' _ l true false false)=>bif g == g'&&aa off 0 then DT l λl=>K (l,len)else none
  |_=>none
 |_=>none
def GK(t:T V)(h:H):(p:Pl)->(p.den->Option β)->Option β
 |.slot k g c,K=>CU (t.get k) λv=>GI .lf g c v K
 |.srow k g c ex,K=>CU (t.get k) λv=>Lg h g c ex v K
 |.swin k g c,K=>CU (t.get k) λv=>QC h g c v K
 |.cn k c,K=>CU (t.get k) λv=>bif RZ c v then K ()else none
 |.box id sg,K=>match h.get id with
  |some (.box cs false false)=>Bh h sg cs K
  |_=>none
 |.map id k g c,K=>match h.get id with
  |some (.mp _ g' _ l false)=>bif g == g' then Q7 l K else none
  |_=>none
def Cb(t:T V)(h:H):(l:List Pl)->(Ar l->Option β)->Option β
 |[],K=>K ()
 |[p],K=>GK t h p K
 |p::q::r,K=>GK t h p λx=>Cb t h (q::r) λy=>K (x,y)
end
def QF(t n a:Nat)(k:IntKind)(x:Int×Int):V:=if x.1=0 then .nili else if x.1=1 then .ifc t (.gk n)else .ifc a (.agg [.int k x.2])
def Ay(h:H)(nx:Nat):(l:List Sgm)->DN l->List V×H×Nat
 |[],_=>([],h,nx)
 |[.lf c],x=>(cells c x,h,nx)
 |[.ow g c ex],l=>([.ow nx],AG h nx (.row g c l ex false false),nx+1)
 |.lf c::q::r,x=>match Ay h nx (q::r) x.2 with
  |(cs,h,nx)=>(cells c x.1++cs,h,nx)
 |.ow g c ex::q::r,x=>match Ay (AG h nx (.row g c x.1 ex false false)) (nx+1) (q::r) x.2 with
  |(cs,h,n')=>(.ow nx::cs,h,n')
 |[.kp id],_=>([.ow id],h,nx)
 |.kp id::q::r,x=>match Ay h nx (q::r) x.2 with
  |(cs,h,n')=>(.ow id::cs,h,n')
 |[.cn c],_=>([c.v],h,nx)
 |.cn c::q::r,x=>match Ay h nx (q::r) x.2 with
  |(cs,h,n')=>(c.v::cs,h,n')
 |[.er t n tF k],x=>([QF t n tF k x],h,nx)
 |.er t n tF k::q::r,x=>match Ay h nx (q::r) x.2 with
  |(cs,h,n')=>(QF t n tF k x.1::cs,h,n')
 |[.ek t n],_=>([.ifc t (.gk n)],h,nx)
 |.ek t n::q::r,x=>match Ay h nx (q::r) x.2 with
  |(cs,h,n')=>(.ifc t (.gk n)::cs,h,n')
 |[.ef tF k],x=>([.ifc tF (.agg [.int k x])],h,nx)
 |.ef tF k::q::r,x=>match Ay h nx (q::r) x.2 with
  |(cs,h,n')=>(.ifc tF (.agg [.int k x.1])::cs,h,n')
def Bi(t:T V)(h:H)(nx:Nat):(p:Pl)->p.den->T V×H×Nat
 |.slot k g c,x=>(T.put 20 t k (Nr g c x),h,nx)
 |.srow k g c ex,l=>(T.put 20 t k (.ow nx),AG h nx (.row g c l ex false false),nx+1)
 |.swin k g c,x=>(T.put 20 t k (.own nx 0 x.2),AG h nx (.row g c x.1 true false false),nx+1)
 |.cn k c,_=>(T.put 20 t k c.v,h,nx)
 |.box id sg,x=>match Ay h nx sg x with
  |(cs,h,nx)=>(t,AG h id (.box cs false false),nx)
 |.map id k g c,l=>(t,AG h id (.mp k g c l false),nx)
def Ab(t:T V)(h:H)(nx:Nat):(l:List Pl)->Ar l->T V×H×Nat
 |[],_=>(t,h,nx)
 |[p],x=>Bi t h nx p x
 |p::q::r,x=>match Bi t h nx p x.1 with
  |(t,h,nx)=>Ab t h nx (q::r) x.2
def AW:List Pl->List Nat
 |[]=>[]
 |.box id _::l | .map id _ _ _::l=>id::AW l
 |_::l=>AW l
def QB:V->List Nat
 |.own id _ _=>[id]
 |_=>[]
def B2:V->List Nat
 |.ow id=>[id]
 |_=>[]
def Aj:List Sgm->List V->List Nat
 |[],_=>[]
 |.lf c::r,cs=>Aj r (cs.drop c.wd)
 |.ow _ _ _::r,cs=>(match cs with
  |v::_=>B2 v
  |[]=>[])++Aj r (cs.drop 1)
 |.kp _::r,cs=>Aj r (cs.drop 1)
 |.cn _::r,cs=>Aj r (cs.drop 1)
 |.er _ _ _ _::r,cs | .ek _ _::r,cs | .ef _ _::r,cs=>Aj r (cs.drop 1)
def A1(t:T V)(h:H):List Pl->List Nat
 |[]=>[]
 |.slot _ _ _::l=>A1 t h l
 |.cn _ _::l=>A1 t h l
 |.map id _ _ _::l=>id::A1 t h l
 |.srow k _ _ _::l=>(match t.get k with
  |some v=>B2 v
  |none=>[])++A1 t h l
 |.swin k _ _::l=>(match t.get k with
  |some v=>QB v
  |none=>[])++A1 t h l
 |.box id sg::l=>(match h.get id with
  |some (.box cs _ _)=>Aj sg cs
  |_=>[])++id::A1 t h l
def Bb:List Nat->Bool
 |[]=>true
 |a::l=> !l.any (aa a)&&Bb l
def HX(nx:Nat):List Sgm->Bool
 |[]=>true
 |.kp id::l=>ah id nx&&HX nx l
 |.lf _::l | .ow _ _ _::l=>HX nx l
 |.cn _::l | .er _ _ _ _::l | .ek _ _::l | .ef _ _::l=>HX nx l
def Am(nt nx:Nat):List Pl->Bool
 |[]=>true
 |.slot k _ _::l | .srow k _ _ _::l | .swin k _ _::l=>ah k nt&&Am nt nx l
 |.box _ sg::l=>HX nx sg&&Am nt nx l
 |.map _ _ _ _::l=>Am nt nx l
 |.cn k _::l=>ah k nt&&Am nt nx l
def C0(h:H)(n:Nat)(l:List Nat):List Nat:=l++(bY n).filter λi=>(match h.get i with
 |some c=>c.locked
 |none=>false) && !l.any (aa i)
def CO:Code->Option Nat
 |.region id _ _=>some id
 |.seq a b=>match CO a with
  |some i=>some i
  |none=>CO b
 |.cond _ a b=>match CO a with
  |some i=>some i
  |none=>CO b
 |.block _ b | .loop b | .scope b=>CO b
 |.rangeFunc _ _ a b=>match CO a with
  |some i=>some i
  |none=>CO b
 |_=>none
def Dd:Code->Option Nat
 |.region id _ _=>some id
 |.seq a b=>match Dd b with
  |some i=>some i
  |none=>Dd a
 |.cond _ a b=>match Dd b with
  |some i=>some i
  |none=>Dd a
 |.block _ b | .loop b | .scope b=>Dd b
 |.rangeFunc _ _ a b=>match Dd b with
  |some i=>some i
  |none=>Dd a
 |_=>none
def Rl(x:Code):Nat:=match CO x,Dd x with
 |some i,some k=>1000000+(i*1000+k)
 |_,_=>0
def Bz:Code->List Nat
 |.region _ ops _=>ops.toList.filterMap (·.dst)
 |.seq a b | .cond _ a b=>Bz a++Bz b
 |.block _ b | .loop b | .scope b=>Bz b
 |_=>[]
def HQ(h:H):List Nat->Bool
 |[]=>true
 |id::l=>(match h.get id with
  |some (.df (some []))=>true
  |some (.df _)=>false
  |_=>true)&&HQ h l
def GL(h:H):List Nat->List Nat
 |[]=>[]
 |id::l=>match h.get id with
  |some (.df _)=>id::GL h l
  |_=>GL h l
def Fl(h:H):List Nat->Bool
 |[]=>true
 |id::l=>(match h.get id with
  |some (.df (some []))=>true
  |_=>false)&&Fl h l
def Fa(h:H):List (Nat×Nat×Option Code)->Bool
 |[]=>true
 |(id,st,pd)::l=>(match h.get id with
  |some (.lp st' pd' _ _ _ _ _ _)=>aa st st'&&(match pd,pd' with
   |none,none=>true
   |some .ret,some .ret=>true
   |some (.exit i),some (.exit j)=>aa i j
   |some (.goto i),some (.goto j)=>aa i j
   |_,_=>false)
  |_=>false)&&Fa h l
def CS(h:H):List (Nat×Nat×Option Code)->H
 |[]=>h
 |(id,st,pd)::l=>match h.get id with
  |some (.lp _ _ nt t ps asg body d)=>AG (CS h l) id (.lp st pd nt t ps asg body d)
  |_=>CS h l
def Bc(h:H):List Nat->List (Nat×Nat×Option Code)
 |[]=>[]
 |id::l=>match h.get id with
  |some (.lp st pd _ _ _ _ _ _)=>(id,st,pd)::Bc h l
  |_=>Bc h l
section
variable{β:Type}
def Qw(h:H)(n:Nat)(v:V)(K:V->H->Option β):Option β:=match v with
 |.ow j=>match h.get j with
  |some (.row g c l _ _ false)=>K (.lf false g c l) (BQ h (λb=>b) ((bY n).filter λi=> !aa i j))
  |_=>none
 |.own j off len=>match h.get j with
  |some (.row g c l _ _ false)=>gd (CF (BF off len) (AS l)) λ_=>K (.lf false g c (D0 l off (BF off len))) (BQ h (λb=>b) ((bY n).filter λi=> !aa i j))
  |_=>none
 |_=>none
def Qu(n:Nat):List (Nat×Nat)->H->(H->Option β)->Option β
 |[],h,K=>K h
 |(b,i)::r,h,K=>match h.get b with
  |some (.box cs fz false)=>CU (lget cs i) λv=>Qw h n v λa h'=>Qu n r (AG h' b (.box (Pi.lset cs i a) fz false)) K
  |_=>none
def Qv(n:Nat):List Nat->FrA->H->(FrA->H->Option β)->Option β
 |[],fr,h,K=>K fr h
 |k::r,fr,h,K=>bif ah k 1048575 then CU (fr.t.get k) λv=>Qw h n v λa h'=>Qv n r { fr with t:=T.put 20 fr.t k a } h' K else none
def SA(h:H)(ex:ExA)(pay:Ty):ExK->(pay.den->Option β)->Option β
 |.exit i,K=>match ex with
  |.exit j=>bif aa i j then K (Nd pay)else none
  |_=>none
 |.ret,K=>match ex with
  |.ret=>K (Nd pay)
  |_=>none
 |.pan t g c,K=>match ex with
  |.panic (.ifc t' v)=>bif aa t t' then(if e:c=pay then GI .lf g c v λx=>K (e ▸ x)else none)else none
  |_=>none
def SH(ex:ExA):ExK->Bool
 |.exit i=>match ex with
  |.exit j=>aa i j
  |_=>false
 |.ret=>match ex with
  |.ret=>true
  |_=>false
 |.pan t _ _=>match ex with
  |.panic (.ifc t' _)=>aa t t'
  |_=>false
def G0(h:H)(a:List Nat)(ex:ExA)(pay:Ty):Nat->List (ExK×List (Nat×Nat×Option Code))->(Nat->pay.den->Option β)->Option β
 |_,[],_=>none
 |i,(k,lp)::l,K=>bif SH ex k&&(Fa h lp&&(lp.map (·.1)) == a)then SA h ex pay k (K i)else G0 h a ex pay (i+1) l K
def Jq(pay:Ty)(x:pay.den):ExK->ExA
 |.exit i=>.exit i
 |.ret=>.ret
 |.pan t g c=>if e:c=pay then .panic (.ifc t (Nr g c (e ▸ x)))else .normal
def Li(pay:Ty)(x:pay.den)(n:Nat):Nat->List (ExK×List (Nat×Nat×Option Code))->(ExA->List (Nat×Nat×Option Code)->Option β)->Option β
 |_,[],_=>none
 |_,[(k,lp)],K=>K (Jq pay x k) lp
 |i,(k,lp)::e::l,K=>br (neq n i) (λ_=>K (Jq pay x k) lp) λ_=>Li pay x n (i+1) (e::l) K
end
def Rm(p:Sgm)(x:p.den):(l:List Sgm)->DN l->DN (p::l)
 |[],_=>x
 |_::_,y=>(x,y)
def Re(p:Pl)(x:p.den):(l:List Pl)->Ar l->Ar (p::l)
 |[],_=>x
 |_::_,y=>(x,y)
section
variable{β:Type}
def NP:(p:Sgm)->p.den->((a:Sgm)->a.den->Option β)->Option β
 |.er t n tF k,x,K=>br (OY x.1 0) (λ_=>K (.cn .i) ()) λ_=>br (OY x.1 1) (λ_=>K (.ek t n) ()) λ_=>K (.ef tF k) x.2
 |p,x,K=>K p x
def MY:(l:List Sgm)->DN l->((l':List Sgm)->DN l'->Option β)->Option β
 |[],x,K=>K [] x
 |[p],x,K=>NP p x λa b=>K [a] b
 |p::q::r,x,K=>NP p x.1 λa b=>MY (q::r) x.2 λl' y=>K (a::l') (Rm a b l' y)
def Pe:(p:Pl)->p.den->((b:Pl)->b.den->Option β)->Option β
 |.box id sg,x,K=>MY sg x λa c=>K (.box id a) c
 |p,x,K=>K p x
def MX:(l:List Pl)->Ar l->((l':List Pl)->Ar l'->Option β)->Option β
 |[],x,K=>K [] x
 |[p],x,K=>Pe p x λa b=>K [a] b
 |p::q::r,x,K=>Pe p x.1 λa b=>MX (q::r) x.2 λl' y=>K (a::l') (Re a b l' y)
def O6:List Pl->Bool
 |[]=>false
 |.box _ sg::l=>sg.any (fun | .er _ _ _ _=>true|_=>false)||O6 l
 |_::l=>O6 l
def Pf(l:List Pl)(x:Ar l)(K:(l':List Pl)->Ar l'->Option β):Option β:=bif O6 l then MX l x K else K l x
end
def Gm:Nat->List V->T V->T V
 |_,[],t=>t
 |i,a::l,t=>Gm (i+1) l (T.put 20 t i a)
def ER(nt:Nat):List Nat->List V->T V->Option (T V)
 |[],[],t=>some t
 |p::ps,a::l,t=>bif ah p nt then ER nt ps l (T.put 20 t p a)else none
 |_,_,_=>none
section
variable{β:Type}
def GR(P:Program)(a:D8)(ann:Hu)(f:FuncId)(rec:Hv):Nat->(β:Type)->Nat->Code->FrA->H->Nat->KA β->Option β
 |0,_,_,_,_,_,_,_=>none
 |n+1,β,b,c,fr,h,nx,K=>match c with
  |.skip | .label _=>K .normal fr h nx
  |.seq x y=>match ann f (Rl x) nx with
   |some (.join j)=>
    let w:=AW j.pl0++AW j.pl1
    let kb:=C0 h nx j.kb
    bif fr.up.isSome || !Am fr.nt nx j.pl0 || !Am fr.nt nx j.pl1 || !j.keep.all (λk=>ah k 1048575)||(Bz x).any (λk=>j.keep.any (aa k)) || !Bb (A1 fr.t h j.pl0++kb) || !(kb++w).all (λi=>ah i nx) || !HQ h kb||kb.any (λi=>w.any (aa i))then none else
    let q:=Bc h kb
    let B:=GL h kb
    Cb fr.t h j.pl0 λs0=>
    jn (α:=Ar j.pl0) (β:=β) (γ:=Nat×Ar j.pl1×j.pay.den) (δ:=Ar j.pl1) (λs=>
      match Ab (BS fr.t j.keep) (BQ h DL kb) nx j.pl0 s with
      |(t1,h1,nx1)=>bif !af nx1 1048575 then none else GR P a ann f rec n (LR (Ar j.pl1) (Nat×Ar j.pl1×j.pay.den)) nx1 x { fr with t:=t1 } h1 nx1 λe m h' _=>
       bif !aa m.ds.length fr.ds.length || !Fl h' B then none else match e with
       |.normal=>bif Bb (A1 m.t h' j.pl1++kb)&&Fa h' q then Cb m.t h' j.pl1 λs'=>some (.nx s')else none
       |e=>bif Bb (A1 m.t h' j.pl1++kb)then G0 h' (q.map (·.1)) e j.pay 0 j.ex λi p=>Cb m.t h' j.pl1 λs'=>some (.dn (i,s',p))else none) s0
     (λs=>match Ab (BS fr.t j.keep) (CS (BQ h (λb=>b) kb) q) nx j.pl1 s with
      |(t1,h1,nx1)=>bif !af nx1 1048575 then none else GR P a ann f rec n β b y { fr with t:=t1 } h1 nx1 K)
     (λx=>Li j.pay x.2.2 x.1 0 j.ex λe C=>match Ab (BS fr.t j.keep) (CS (BQ h (λb=>b) kb) C) nx j.pl1 x.2.1 with
      |(t1,h1,nx1)=>bif !af nx1 1048575 then none else K e { fr with t:=t1 } h1 nx1)
   |_=>GR P a ann f rec n β b x fr h nx λe fr h nx=>match e with
    |.normal=>GR P a ann f rec n β b y fr h nx K
    |e=>K e fr h nx
  |.cond c x y=>BG fr.t c λv=>match v with
   |.bool c=>br c (λ_=>GR P a ann f rec n β b x fr h nx K) (λ_=>GR P a ann f rec n β b y fr h nx K)
   |_=>none
  |.block id x=>GR P a ann f rec n β b x fr h nx λe fr h nx=>match e with
   |.exit j=>bif aa j id then K .normal fr h nx else K (.exit j) fr h nx
   |e=>K e fr h nx
  |.loop x=>match (match CO x with
    |some i=>ann f i nx
    |none=>none)with
   |some (.loop tm)=>
    Qu nx tm.rel h λh=>Qv nx tm.relS fr h λfr h=>
    let w:=AW tm.pl++AW tm.plx
    let kb:=C0 h nx tm.kb
    bif fr.up.isSome || !Am fr.nt nx tm.pl || !Am fr.nt nx tm.plx || !tm.keep.all (λk=>ah k 1048575)||(Bz x).any (λk=>tm.keep.any (aa k)) || !Bb (A1 fr.t h tm.pl++kb) || !(kb++w).all (λi=>ah i nx) || !HQ h kb||kb.any (λi=>(AW tm.plx).any (aa i))then none else
    let q:=Bc h kb
    let B:=GL h kb
    Cb fr.t h tm.pl λs0=>
    bd (loop (α:=Ar tm.pl) (β:=Nat×Ar tm.plx×tm.pay.den) (λs=>
      match Ab (BS fr.t tm.keep) (BQ h DL kb) nx tm.pl s with
      |(t1,h1,nx1)=>bif !af nx1 1048575 then none else GR P a ann f rec n (LR (Ar tm.pl) (Nat×Ar tm.plx×tm.pay.den)) nx1 x { fr with t:=t1 } h1 nx1 λe m h' _=>
       bif !aa m.ds.length fr.ds.length || !Fl h' B then none else match e with
       |.normal=>bif Bb (A1 m.t h' tm.pl++kb)&&Fa h' q then Cb m.t h' tm.pl λs'=>some (.nx s')else none
       |e=>bif Bb (A1 m.t h' tm.plx++kb)then G0 h' (q.map (·.1)) e tm.pay 0 tm.ex λi p=>Cb m.t h' tm.plx λs'=>some (.dn (i,s',p))else none) s0) λx=>
    Li tm.pay x.2.2 x.1 0 tm.ex λe C=>Pf tm.plx x.2.1 λI J=>match Ab (BS fr.t tm.keep) (CS (BQ h (λb=>b) kb) C) nx I J with
    |(t1,h1,nx1)=>bif !af nx1 1048575 then none else K e { fr with t:=t1 } h1 nx1
   |_=>GR P a ann f rec n β b x fr h nx λe fr h nx=>match e with
    |.normal=>GR P a ann f rec n β b (.loop x) fr h nx K
    |e=>K e fr h nx
  |.scope x=>GR P a ann f rec n β b x fr h nx λe fr h nx=>match e with
   |.goto _=>none
   |e=>K e fr h nx
  |.exit id=>K (.exit id) fr h nx
  |.goto l=>K (.goto l) fr h nx
  |.ret=>K .ret fr h nx
  |.refuse _=>none
  |.region _ ops draw=>bif !af (nx+ops.size) 1048575 || !(ops.toList.all λo=>match o.dst with
    |some d=>ah d fr.nt
    |none=>true)then none else
    bif draw then(bif P.follows .mixedOrders || !Region.departs ops then MA P a nx ops.toList fr h λfr h=>K .normal fr h (nx+ops.size)else none)
    else Bj P a rec nx ops.toList (G5 0 ops.toList) fr h (nx+ops.size) K
  |.rangeFunc g D A u=>bif !af (nx+2) 1048575 then none else BG fr.t g λv=>match v with
   |.fn g E F=>
    match (match fr.ro with
     |none=>some (nx,[DFA.col nx],AG h nx (.df (some [])))
     |some G=>(match h.get G with
      |some (.lp _ _ _ _ _ _ _ d0)=>some (d0,[],h)
      |_=>none))with
    |some (d,mark,h)=>FC P g E F [.yl (nx+1)] λr=>match r with
     |.call g args=>rec β (.fn g) none args (AG h (nx+1) (.lp 0 none fr.nt fr.t D.toList A u d)) (nx+2) λo _ h z=>match o with
      |.ret _=>(match h.get (nx+1)with
       |some (.lp st pend nt t D A u d)=>bif aa st 1 then none else
        let h:=AG h (nx+1) (.lp 3 pend nt t D A u d)
        (match pend with
        |none=>K .normal { fr with ds:=mark++fr.ds } h z
        |some .ret=>K .ret { fr with ds:=mark++fr.ds } h z
        |some (.exit id)=>K (.exit id) { fr with ds:=mark++fr.ds } h z
        |some (.goto id)=>K (.goto id) { fr with ds:=mark++fr.ds } h z
        |_=>none)
       |_=>none)
      |_=>none
     |_=>none
    |none=>none
   |_=>none
def JR(P:Program)(h:H)(t:T V):List ResultVar->(List V->Option β)->Option β
 |[],K=>K []
 |.tmp k::l,K=>CU (t.get k) λv=>JR P h t l λvs=>K (v::vs)
 |.cell a ty::l,K=>match t.get a with
  |some (.ptr j off)=>match h.get j with
   |some (.box cs _ _)=>CU (D4 P ty (cs.drop off)) λv=>JR P h t l λvs=>K (v::vs)
   |_=>none
  |_=>none
def Na:UMA->UMA
 |.pan ({ v:=_,recovered:=true }::_)=>.ret
 |u=>u
def EH(P:Program)(rec:Hv)(d:Func)(β:Type):Nat->List DFA->UMA->T V->H->Nat->(OutA->H->Nat->Option β)->Option β
 |0,_,_,_,_,_,_=>none
 |n+1,ds,u,t,h,nx,K=>match ds with
  |[]=>match u with
   |.ret=>JR P h t d.results.toList λvs=>K (.ret (match vs with
    |[v]=>v
    |vs=>.tup vs)) h nx
   |.pan e=>K (.pan e) h nx
  |.col id::ds=>match h.get id with
   |some (.df (some l))=>EH P rec d β n (l++ds) u t (AG h id (.df none)) nx K
   |_=>none
  |.bi b ats _ args::ds=>match b,args,ats[0]? with
   |.clear,[.mp j],some ty=>(match P.underlying ty,h.get j with
    |some (.map _ _),some (.mp k g c _ false)=>EH P rec d β n ds u t (AG h j (.mp k g c [] false)) nx K
    |_,_=>none)
   |_,_,_=>none
  |.call f args::ds=>match f with
   |.fn (.func g) a b=>FC P (.func g) a b args λr=>match r with
    |.call g args=>rec β (.fn g) (some u) args h nx λo up h nx=>match o,up with
     |.ret _,some u=>EH P rec d β n ds (Na u) t h nx K
     |_,_=>none
    |_=>none
   |_=>none
def Cg(h:H)(nx:Nat)(l:Nat)(a:Option Code)(K:OutA->Option UMA->H->Nat->Option β):Option β:=match h.get l with
 |some (.lp _ _ nt t ps asg body d)=>K (.ret (.bool a.isNone)) none (AG h l (.lp (match a with|none=>0|some _=>2) a nt t ps asg body d)) nx
 |_=>none
def Pj(P:Program):Pi.Pr->List V->H->(V->H->Option β)->Option β
 |.is same,args,h,K=>match args with
  |[.ifc u (.gk a),.ifc v (.gk b)]=>bif (aa u v&&aa a b)&&same.any (aa u)then K (.bool true) h else none
  |_=>none
 |.as tt plain,args,h,K=>match args with
  |[.nili,_]=>K (.bool false) h
  |[.ifc u a,.ifc pt (.ptr id off)]=>CU (Pi.Rh tt pt) λT=>bif aa u T then(match a with
    |.agg [y]=>Ke P h T (.ptr id off) (.agg [y]) λh=>K (.bool true) h
    |_=>none)else bif plain.any (aa u)then K (.bool false) h else none
  |_=>none
 |_,_,_,_=>none
def Mz(P:Program)(a:D8)(ann:Hu)(F:Nat):Nat->Hv
 |0=>λ_ _ _ _ _ _ _=>none
 |n+1=>λβ g up args h nx K=>match g with
  |.fn f=>match Pi.Gl.pr f with
   |some p=>(match up with
    |none=>Pj P p args h λv h=>K (.ret v) none h nx
    |some _=>none)
   |none=>CU P.funcs[f]? λb=>CU b.body λc=>
   bif af args.length b.ntmps&&ah b.ntmps 1048575 then
    GR P a ann f (Mz P a ann F n) F β nx c { t:=Gm 0 args .lf,nt:=b.ntmps,ds:=[],up,ro:=none } h nx λe fr h nx=>match e with
     |.normal=>EH P (Mz P a ann F n) b β F fr.ds .ret fr.t h nx λo h nx=>K o fr.up h nx
     |.ret=>EH P (Mz P a ann F n) b β F fr.ds .ret fr.t h nx λo h nx=>K o fr.up h nx
     |.panic e=>EH P (Mz P a ann F n) b β F fr.ds (.pan [{ v:=e,recovered:=false }]) fr.t h nx λo h nx=>K o fr.up h nx
     |_=>none
   else none
  |.yl l=>match h.get l with
   |some (.lp _ _ nt t ps asg body0 _)=>CU (ER nt ps args t) λt=>
    GR P a ann 0 (Mz P a ann F n) F β nx asg { t,nt,ds:=[],up:=none,ro:=some l } h nx λe fr h nx=>match e with
     |.normal=>(match h.get l with
      |some (.lp 0 pend nt t ps asg body d)=>GR P a ann 0 (Mz P a ann F n) F β nx body0 fr (AG h l (.lp 1 pend nt t ps asg body d)) nx λe _ h nx=>match e with
        |.normal=>Cg h nx l none K
        |.ret=>Cg h nx l (some .ret) K
        |.exit id=>Cg h nx l (some (.exit id)) K
        |.goto id=>Cg h nx l (some (.goto id)) K
        |_=>none
      |_=>none)
     |_=>none
   |_=>none
def OS(P:Program)(b:D8)(ann:Hu)(F n:Nat)(f:FuncId)(dom a:List (Bool×Ty))(x:AP dom):Option (AP a):=
 Mz P b ann F n (AP a) (.fn f) none (EU dom x) .lf 0 λo _ h _=>match o with
  |.ret v=>Bu h a (match a with
   |[_]=>[v]
   |_=>match v with
    |.tup vs=>vs
    |v=>[v]) some
  |_=>none
end
def P0(P:Program)(a:D8)(ann:Hu)(F n:Nat)(f:FuncId)(dom:List (Bool×Ty))(g:Bool)(c:Ty)(x:AP dom):Option (List c.den):=
 Mz P a ann F n (List c.den) (.fn f) none (EU dom x) .lf 0 λo _ h _=>match o with
  |.ret (.ow j)=>(match h.get j with
   |some (.row g' _ l false false _)=>bif g == g' then DT l some else none
   |_=>none)
  |_=>none
def Pw(P:Program)(a:D8)(ann:Hu)(F n:Nat)(f:FuncId)(dom:List (Bool×Ty))(g:Bool)(c:Ty)(x:AP dom):Option (List c.den):=
 Mz P a ann F n (List c.den) (.fn f) none (EU dom x) .lf 0 λo _ h _=>match o with
  |.ret v=>(match v with
   |.pl _ _ _=>GI h false (.sl g c) v some
   |.nils=>GI h false (.sl g c) v some
   |_=>none)
  |_=>none
def Py(P:Program)(b:D8)(ann:Hu)(F n:Nat)(f:FuncId)(dom a:List (Bool×Ty))(x:AP dom):Option (AP a):=
 Mz P b ann F n (AP a) (.fn f) none (QA dom (EU dom x)) .lf 0 λo _ h _=>match o with
  |.ret v=>Bu h a (match a with
   |[_]=>[v]
   |_=>match v with
    |.tup vs=>vs
    |v=>[v]) some
  |_=>none
def Mq:List (FuncId×Sg)->FuncId->Option Sg
 |[],_=>none
 |(g,sg)::l,f=>bif aa f g then some sg else Mq l f
def Ae(a:FuncId->Bool)(L:List (FuncId×Sg)):D8:=λf=>bif a f then some (Mq L f)else none
def RL:List (Nat×Nat×Nat×An)->Hu
 |[],_,_,_=>none
 |(a,b,c,tm)::l,f,i,nx=>bif aa f a&&(aa i b&&aa nx c)then some tm else RL l f i nx
end
section
variable[Pi.Gl]
open Pi (PV T Hp Blk DF UM PE)
inductive L2 {α β:Type} (R:α->β->Prop):List α->List β->Prop where
 |nil:L2 R [] []
 |cons {a:α} {b:β} {l:List α} {m:List β} (h:R a b) (t:L2 R l m):L2 R (a::l) (b::m)
namespace L2
variable{α β:Type}{R S:α->β->Prop}
theorem length{l:List α}{m:List β}(h:L2 R l m):l.length=m.length:=by
 induction h with
 |nil=>rfl
 |cons _ _ ih=>simp[ih]
theorem mono{l:List α}{m:List β}(h:L2 R l m)(f:∀ a b,R a b->S a b):L2 S l m:=by
 induction h with
 |nil=>exact .nil
 |cons x _ ih=>exact .cons (f _ _ x) ih
theorem append{l l':List α}{m a:List β}(h:L2 R l m)(k:L2 R l' a):L2 R (l++l') (m++a):=by
 induction h with
 |nil=>exact k
 |cons x _ ih=>exact .cons x ih
theorem take{l:List α}{m:List β}(h:L2 R l m):∀ n,L2 R (l.take n) (m.take n):=by
 induction h with
 |nil=>intro n;simp;exact .nil
 |cons x _ ih=>intro n;cases n with
  |zero=>simp;exact .nil
  |succ n=>exact .cons x (ih n)
theorem drop{l:List α}{m:List β}(h:L2 R l m):∀ n,L2 R (l.drop n) (m.drop n):=by
 induction h with
 |nil=>intro n;simp;exact .nil
 |cons x t a=>intro n;cases n with
  |zero=>exact .cons x t
  |succ n=>exact a n
theorem get{l:List α}{m:List β}(h:L2 R l m):∀ {i:Nat} {a:α},l[i]?=some a -> ∃ b,m[i]?=some b/\R a b:=by
 induction h with
 |nil=>intro i a h;simp at h
 |cons x _ ih=>intro i a h;cases i with
  |zero=>simp at h;subst h;exact⟨_,rfl,x⟩
  |succ i=>simp at h;obtain⟨b,c,d⟩:=ih h;exact⟨b,by simpa using c,d⟩
theorem set{l:List α}{m:List β}(h:L2 R l m):∀ (i:Nat) {a:α} {b:β},R a b->L2 R (l.set i a) (m.set i b):=by
 induction h with
 |nil=>intro i a b h;exact .nil
 |cons x t c=>intro i a b h;cases i with
  |zero=>exact .cons h t
  |succ i=>exact .cons x (c i h)
theorem replicate{a:α}{b:β}(h:R a b):∀ n,L2 R (a8 n a) (a8 n b)
 |0=>.nil
 |n+1=>.cons h (replicate h n)
theorem nil_inv{m:List β}(h:L2 R [] m):m=[]:=by cases h;rfl
theorem nil_inv'{l:List α}(h:L2 R l []):l=[]:=by cases h;rfl
theorem cons_inv{a:α}{l:List α}{m:List β}(h:L2 R (a::l) m):∃ b t,m=b::t/\R a b/\L2 R l t:=by
 cases h with
 |cons x t=>exact⟨_,_,rfl,x,t⟩
theorem split{l l':List α}{m:List β}(h:L2 R (l++l') m):∃ p q,m=p++q/\L2 R l p/\L2 R l' q:=by
 induction l generalizing m with
 |nil=>exact⟨[],m,rfl,.nil,h⟩
 |cons a l g=>
  obtain⟨b,t,rfl,c,d⟩:=cons_inv h;obtain⟨p,q,rfl,e,f⟩:=g d;exact⟨b::p,q,rfl,.cons c e,f⟩
end L2
def EP{α:Type}(g:Bool)(D:α->List PV->Prop)(x:α)(e:PV):Prop:=match g with
 |true=>∃ cs,e=.agg cs/\D x cs
 |false=>D x [e]
def DP:(c:Ty)->c.den->List PV->Prop
 |.int k,n,ps=>ps=[.int k n]
 |.bool,b,ps=>ps=[.bool b]
 |.str,s,ps=>ps=[.str s]
 |.unit,_,ps=>ps=[]
 |.pair a b,x,ps=>∃ p q,ps=p++q/\DP a x.1 p/\DP b x.2 q
 |.sl g c,l,ps=>∃ p,ps=[p]/\((p=.nils/\l=[]) \/ ∃ f es,p=.lst f es/\L2 (EP g (DP c)) l es)
def DR(h:Hp)(Q:Nat->Prop):(c:Ty)->c.den->List PV->Prop
 |.int k,n,ps=>ps=[.int k n]
 |.bool,b,ps=>ps=[.bool b]
 |.str,s,ps=>ps=[.str s]
 |.unit,_,ps=>ps=[]
 |.pair a b,x,ps=>∃ p q,ps=p++q/\DR h Q a x.1 p/\DR h Q b x.2 q
 |.sl g c,l,ps=>∃ p,ps=[p]/\((p=.nils/\l=[])\/(∃ f es,p=.lst f es/\L2 (EP g (DP c)) l es) \/
   ∃ pid off len es ex fz,p=.own pid off len/\Q pid/\h.get pid=some (.row es ex fz)/\off+len<=es.length/\Pi.Cd c.wd es=true/\L2 (EP g (DR h Q c)) l ((es.drop off).take len))
theorem EP.mono{α:Type}{g:Bool}{D E:α->List PV->Prop}(f:∀ x a,D x a->E x a){x:α}{e:PV}(h:EP g D x e):EP g E x e:=by
 cases g with
 |true=>obtain⟨cs,b,c⟩:=h;exact⟨cs,b,f _ _ c⟩
 |false=>exact f _ _ h
theorem DP.up{h:Hp}{Q:Nat->Prop}:∀ {c:Ty} {x:c.den} {a:List PV},DP c x a->DR h Q c x a
 |.int _,_,_,e=>e
 |.bool,_,_,e=>e
 |.str,_,_,e=>e
 |.unit,_,_,e=>e
 |.pair _ _,_,_,⟨p,q,e,b,d⟩=>⟨p,q,e,DP.up b,DP.up d⟩
 |.sl _ _,_,_,⟨p,e,h⟩=>⟨p,e,h.elim .inl λh=>.inr (.inl h)⟩
def Rows(h h':Hp)(Q b:Nat->Prop):Prop:=∀ pid es ex fz,Q pid->h.get pid=some (.row es ex fz)->(∃ a,h'.get pid=some (.row es ex a))/\b pid
theorem DR.mono{h h':Hp}{Q g:Nat->Prop}(a:Rows h h' Q g):∀ {c:Ty} {x:c.den} {i:List PV},DR h Q c x i->DR h' g c x i
 |.int _,_,_,e=>e
 |.bool,_,_,e=>e
 |.str,_,_,e=>e
 |.unit,_,_,e=>e
 |.pair _ _,_,_,⟨p,q,e,d,f⟩=>⟨p,q,e,DR.mono a d,DR.mono a f⟩
 |.sl _ _,_,_,⟨p,e,h⟩=>⟨p,e,by
  rcases h with h|h|⟨pid,off,len,es,ex,fz,d,f,j,l,r,m⟩
  ·exact .inl h
  ·exact .inr (.inl h)
  ·obtain⟨⟨b,n⟩,o⟩:=a _ _ _ _ f j
   exact .inr (.inr ⟨pid,off,len,es,ex,b,d,o,n,l,r,m.mono λ_ _ k=>k.mono λ_ _ k=>DR.mono a k⟩)⟩
inductive At where
 |blk (pid len:Nat)
 |nil
 |fz (es:List PV)
abbrev Mp:=Nat->Option At
def TU:Mp:=λ_=>none
def Di:Hp:={ m:=.lf,nx:=0 }
structure Cx where
 π:Mp
 h:Hp
 O:Nat->Prop
def Cx.pure:Cx:={ π:=TU,h:=Di,O:=λ_=>True }
def Cx.Q(X:Cx)(pid:Nat):Prop:=¬ X.O pid
mutual
def VR(X:Cx):V->PV->Prop
 |.bool b,p=>p=.bool b
 |.int k n,p=>p=.int k n
 |.str s,p=>p=.str s
 |.nilp,p=>p=.nilp
 |.nils,p=>p=.nils
 |.nilm,p=>p=.nilm
 |.nilf,p=>p=.nilf
 |.nili,p=>p=.nili
 |.agg cs,p=>∃ d,p=.agg d/\VRL X cs d
 |.tup cs,p=>∃ d,p=.tup d/\VRL X cs d
 |.lf full g c l,p=>(p=.nils/\l=[])\/(∃ f es,p=.lst f es/\(full=true->f=true)/\L2 (EP g (DP c)) l es) \/
   ∃ pid off len es ex fz,p=.own pid off len/\(full=true->ex=true/\off+len=es.length)/\X.Q pid/\X.h.get pid=some (.row es ex fz)/\off+len<=es.length/\Pi.Cd c.wd es=true/\L2 (EP g (DR X.h X.Q c)) l ((es.drop off).take len)
 |.pl g c l,p=>(p=.nils/\l=[]) \/ ∃ f es,p=.lst f es/\L2 (EP g (DP c)) l es
 |.exl full es,p=>∃ f d,p=.lst f d/\(full=true->f=true)/\VRL Cx.pure es d
 |.ow id,p=>match X.π id with
  |some (.blk pid len)=>p=.own pid 0 len
  |some .nil=>p=.nils
  |some (.fz es)=>p=.lst true es
  |none=>False
 |.own id off len,p=>∃ pid n,X.π id=some (.blk pid n)/\p=.own pid off len
 |.ptr id off,p=>∃ pid n,X.π id=some (.blk pid n)/\p=.ptr pid off
 |.ept id i off,p=>∃ pid n,X.π id=some (.blk pid n)/\p=.ept pid i off
 |.aptr id off k len,p=>∃ pid n,X.π id=some (.blk pid n)/\p=.ptr pid (off+k)/\k<len
 |.view cs,p=>(∃ d,p=.view d/\VRL Cx.pure cs d) \/ ∃ pid i off es ex fz e,p=.ept pid i off/\X.Q pid/\X.h.get pid=some (.row es ex fz)/\es[i]?=some e/\VRL X cs (e.cells.drop off)
 |.pv cs,p=>∃ d,p=.view d/\VRL Cx.pure cs d
 |.fn f a b,p=>∃ j b',p=.fn f j b'/\VRL X a j/\VRL X b b'
 |.yl id,p=>∃ pid n,X.π id=some (.blk pid n)/\p=.yl pid
 |.ifc t v,p=>∃ q,p=.ifc t q/\VR X v q
 |.mp id,p=>∃ pid n,X.π id=some (.blk pid n)/\p=.mp pid
 |.gk n,p=>p=.gk n
def VRL(X:Cx):List V->List PV->Prop
 |[],ps=>ps=[]
 |v::vs,ps=>∃ p a,ps=p::a/\VR X v p/\VRL X vs a
end
structure Up (X Y:Cx):Prop where
 pi:∀ id a,X.π id=some a->Y.π id=some a
 rows:Rows X.h Y.h X.Q Y.Q
theorem Up.refl(X:Cx):Up X X:=⟨λ_ _ h=>h,λ_ _ _ _ h k=>⟨⟨_,k⟩,h⟩⟩
theorem Up.trans{X Y Z:Cx}(a:Up X Y)(b:Up Y Z):Up X Z:=⟨λid x h=>b.pi _ _ (a.pi _ _ h),λpid es ex fz h k=>by
 obtain⟨⟨c,d⟩,e⟩:=a.rows _ _ _ _ h k
 exact b.rows _ _ _ _ e d⟩
theorem Up.pure(X:Cx):Up Cx.pure X:=⟨λ_ _ h=>(by cases h),λ_ _ _ _ h=>absurd trivial h⟩
mutual
theorem VR.mono{X Y:Cx}(u:Up X Y):∀ {v:V} {p:PV},VR X v p->VR Y v p
 |.bool _,_,h | .int _ _,_,h | .str _,_,h | .nilp,_,h | .nils,_,h | .nilm,_,h | .nilf,_,h | .nili,_,h | .gk _,_,h=>by
  simp only[VR]at h ⊢;exact h
 |.agg cs,_,h=>by
  simp only[VR]at h ⊢;obtain⟨z,d,j⟩:=h;exact⟨z,d,VRL.mono u j⟩
 |.tup cs,_,h=>by
  simp only[VR]at h ⊢;obtain⟨z,d,j⟩:=h;exact⟨z,d,VRL.mono u j⟩
 |.lf full g c l,_,h=>by
  simp only[VR]at h ⊢;rcases h with h|h|⟨pid,off,len,es,ex,fz,d,B,j,o,r,C,s⟩
  ·exact .inl h
  ·exact .inr (.inl h)
  ·obtain⟨⟨m,w⟩,x⟩:=u.rows _ _ _ _ j o;exact .inr (.inr ⟨pid,off,len,es,ex,m,d,B,x,w,r,C,s.mono λ_ _ k=>k.mono λ_ _ k=>DR.mono u.rows k⟩)
 |.exl full es,_,h=>by simp only[VR]at h ⊢;exact h
 |.pl _ _ _,_,h=>by simp only[VR]at h ⊢;exact h
 |.pv _,_,h=>by simp only[VR]at h ⊢;exact h
 |.ow id,p,h=>by
  simp only[VR]at h ⊢;cases y:X.π id with
  |none=>rw[y]at h;exact h.elim
  |some a=>rw[y]at h;rw[u.pi _ _ y];exact h
 |.own id off len,_,h=>by
  simp only[VR]at h ⊢;obtain⟨pid,n,d,j⟩:=h;exact⟨pid,n,u.pi _ _ d,j⟩
 |.ptr id off,_,h=>by
  simp only[VR]at h ⊢;obtain⟨pid,n,d,j⟩:=h;exact⟨pid,n,u.pi _ _ d,j⟩
 |.ept id i off,_,h=>by
  simp only[VR]at h ⊢;obtain⟨pid,n,d,j⟩:=h;exact⟨pid,n,u.pi _ _ d,j⟩
 |.aptr id off k len,_,h=>by
  simp only[VR]at h ⊢;obtain⟨pid,n,d,j⟩:=h;exact⟨pid,n,u.pi _ _ d,j⟩
 |.view cs,_,h=>by
  simp only[VR]at h ⊢;rcases h with h|⟨pid,i,off,es,ex,fz,e,d,j,o,r,s⟩
  ·exact .inl h
  ·obtain⟨⟨m,w⟩,x⟩:=u.rows _ _ _ _ j o;exact .inr ⟨pid,i,off,es,ex,m,e,d,x,w,r,VRL.mono u s⟩
 |.fn f a b,_,h=>by
  simp only[VR]at h ⊢;obtain⟨A,b',d,j,o⟩:=h;exact⟨A,b',d,VRL.mono u j,VRL.mono u o⟩
 |.yl id,_,h=>by
  simp only[VR]at h ⊢;obtain⟨pid,n,d,j⟩:=h;exact⟨pid,n,u.pi _ _ d,j⟩
 |.ifc t v,_,h=>by
  simp only[VR]at h ⊢;obtain⟨q,d,j⟩:=h;exact⟨q,d,VR.mono u j⟩
 |.mp id,_,h=>by
  simp only[VR]at h ⊢;obtain⟨pid,n,d,j⟩:=h;exact⟨pid,n,u.pi _ _ d,j⟩
theorem VRL.mono{X Y:Cx}(u:Up X Y):∀ {vs:List V} {a:List PV},VRL X vs a->VRL Y vs a
 |[],_,h=>by simp only[VRL]at h ⊢;exact h
 |v::vs,_,h=>by
  simp only[VRL]at h ⊢;obtain⟨p,e,b,c,d⟩:=h;exact⟨p,e,b,VR.mono u c,VRL.mono u d⟩
end
section
variable{X:Cx}
theorem VRL.nil:VRL X [] []:=by simp[VRL]
theorem VRL.cons{v:V}{p:PV}{vs:List V}{a:List PV}(h:VR X v p)(t:VRL X vs a):VRL X (v::vs) (p::a):=by
 simp only[VRL];exact⟨p,a,rfl,h,t⟩
theorem VRL.nil_inv{a:List PV}(h:VRL X [] a):a=[]:=by simpa[VRL]using h
theorem VRL.cons_inv{v:V}{vs:List V}{a:List PV}(h:VRL X (v::vs) a):∃ p b,a=p::b/\VR X v p/\VRL X vs b:=by simpa only[VRL]using h
theorem VRL.length:∀ {vs:List V} {a:List PV},VRL X vs a->vs.length=a.length
 |[],_,h=>by rw[h.nil_inv];rfl
 |v::vs,_,h=>by obtain⟨p,c,rfl,_,b⟩:=h.cons_inv;simp[b.length]
theorem VRL.append:∀ {vs c:List V} {b a:List PV},VRL X vs b->VRL X c a->VRL X (vs++c) (b++a)
 |[],_,_,_,h,k=>by rw[h.nil_inv];exact k
 |v::vs,_,_,_,h,k=>by obtain⟨p,a,rfl,d,e⟩:=h.cons_inv;exact .cons d (e.append k)
theorem VRL.take:∀ {vs:List V} {a:List PV} (_:VRL X vs a) (n:Nat),VRL X (vs.take n) (a.take n)
 |[],_,h,n=>by rw[h.nil_inv];simpa using VRL.nil
 |v::vs,_,h,0=>by simpa using VRL.nil
 |v::vs,_,h,n+1=>by obtain⟨p,d,rfl,b,c⟩:=h.cons_inv;exact .cons b (c.take n)
theorem VRL.drop:∀ {vs:List V} {a:List PV} (_:VRL X vs a) (n:Nat),VRL X (vs.drop n) (a.drop n)
 |[],_,h,n=>by rw[h.nil_inv];simpa using VRL.nil
 |v::vs,_,h,0=>by simpa using h
 |v::vs,_,h,n+1=>by obtain⟨p,d,rfl,c,b⟩:=h.cons_inv;exact b.drop n
theorem VRL.lget:∀ {vs:List V} {b:List PV} (_:VRL X vs b) {i:Nat} {v:V},Pi.lget vs i=some v -> ∃ p,Pi.lget b i=some p/\VR X v p
 |[],_,h,i,v,e=>by simp[Pi.lget]at e
 |w::vs,_,h,i,v,e=>by
  obtain⟨p,f,rfl,c,d⟩:=h.cons_inv;unfold Pi.lget at e ⊢;cases a:aa i 0 with
  |true=>rw[a]at e;simp at e;subst e;exact⟨p,rfl,c⟩
  |false=>rw[a]at e;simp only[cond_false]at e ⊢;exact d.lget e
theorem VRL.lset:∀ {vs:List V} {b:List PV} (_:VRL X vs b) (i:Nat) {v:V} {p:PV},VR X v p->VRL X (Pi.lset vs i v) (Pi.lset b i p)
 |[],_,h,i,v,p,_=>by rw[h.nil_inv];exact .nil
 |w::vs,_,h,i,v,p,hv=>by
  obtain⟨q,e,rfl,c,a⟩:=h.cons_inv;unfold Pi.lset;cases d:aa i 0 with
  |true=>exact .cons hv a
  |false=>exact .cons c (a.lset _ hv)
theorem VRL.fput{vs xs:List V}{a b:List PV}(h:VRL X vs a)(k:VRL X xs b)(off:Nat):VRL X (GS vs off xs) (Pi.BT a off b):=by
 unfold GS Pi.BT;rw[<- k.length];exact(h.take off).append (k.append (h.drop _))
theorem VRL.rep{v:V}{p:PV}(h:VR X v p):∀ n,VRL X (a8 n v) (a8 n p)
 |0=>.nil
 |n+1=>.cons h (VRL.rep h n)
theorem VR.cells{v:V}{p:PV}(h:VR X v p):VRL X v.cells p.cells:=by
 have d:∀ (v:V) (p:PV),VR X v p->v.cells=[v]->p.cells=[p]->VRL X v.cells p.cells:=by
  intro v p h m e;rw[m,e];exact .cons h .nil
 cases v with
 |bool b=>simp only[VR]at h;subst h;exact d _ _ (by simp[VR]) rfl rfl
 |int k n=>simp only[VR]at h;subst h;exact d _ _ (by simp[VR]) rfl rfl
 |str k=>simp only[VR]at h;subst h;exact d _ _ (by simp[VR]) rfl rfl
 |nilp=>simp only[VR]at h;subst h;exact d _ _ (by simp[VR]) rfl rfl
 |nils=>simp only[VR]at h;subst h;exact d _ _ (by simp[VR]) rfl rfl
 |nilm=>simp only[VR]at h;subst h;exact d _ _ (by simp[VR]) rfl rfl
 |nilf=>simp only[VR]at h;subst h;exact d _ _ (by simp[VR]) rfl rfl
 |nili=>simp only[VR]at h;subst h;exact d _ _ (by simp[VR]) rfl rfl
 |gk n=>simp only[VR]at h;subst h;exact d _ _ (by simp[VR]) rfl rfl
 |agg cs=>simp only[VR]at h;obtain⟨j,rfl,e⟩:=h;exact e
 |tup cs=>simp only[VR]at h;obtain⟨j,rfl,e⟩:=h;exact .nil
 |lf f g c l=>
  refine d _ _ h rfl ?_;simp only[VR]at h;rcases h with⟨rfl,_⟩|⟨f,es,rfl,_⟩|⟨pid,off,len,es,ex,fz,rfl,_⟩<;>rfl
 |pl g c l=>
  refine d _ _ h rfl ?_;simp only[VR]at h;rcases h with⟨rfl,_⟩|⟨f,es,rfl,_⟩<;>rfl
 |pv cs=>refine d _ _ h rfl ?_;simp only[VR]at h;obtain⟨_,rfl,_⟩:=h;rfl
 |exl f es=>
  refine d _ _ h rfl ?_;simp only[VR]at h;obtain⟨f,j,rfl,_⟩:=h;rfl
 |own id off len=>refine d _ _ h rfl ?_;simp only[VR]at h;obtain⟨_,_,_,rfl⟩:=h;rfl
 |ptr id off=>refine d _ _ h rfl ?_;simp only[VR]at h;obtain⟨_,_,_,rfl⟩:=h;rfl
 |ept id i off=>refine d _ _ h rfl ?_;simp only[VR]at h;obtain⟨_,_,_,rfl⟩:=h;rfl
 |aptr id off k len=>refine d _ _ h rfl ?_;simp only[VR]at h;obtain⟨_,_,_,rfl,_⟩:=h;rfl
 |view cs=>
  refine d _ _ h rfl ?_;simp only[VR]at h;rcases h with⟨j,rfl,_⟩|⟨_,_,_,_,_,_,_,rfl,_⟩<;>rfl
 |fn f a b=>refine d _ _ h rfl ?_;simp only[VR]at h;obtain⟨_,_,rfl,_⟩:=h;rfl
 |yl id=>refine d _ _ h rfl ?_;simp only[VR]at h;obtain⟨_,_,_,rfl⟩:=h;rfl
 |ifc t v=>refine d _ _ h rfl ?_;simp only[VR]at h;obtain⟨_,rfl,_⟩:=h;rfl
 |mp id=>refine d _ _ h rfl ?_;simp only[VR]at h;obtain⟨_,_,_,rfl⟩:=h;rfl
 |ow id=>
  refine d _ _ h rfl ?_;simp only[VR]at h;split at h
  ·subst h;rfl
  ·subst h;rfl
  ·subst h;rfl
  ·exact h.elim
theorem VR.norm{v:V}{p:PV}(h:VR X v p):VR X v.norm p:=by
 cases v with
 |pl g c l=>
  simp only[VR]at h;simp only[V.norm,VR];rcases h with h|⟨f,es,a,b⟩
  ·exact .inl h
  ·exact .inr (.inl ⟨f,es,a,(λh=>by cases h),b⟩)
 |pv cs=>
  simp only[VR]at h;simp only[V.norm,VR];exact .inl h
 |_=>exact h
end
end
section
variable[Pi.Gl]
open Pi (PV T Hp Blk DF UM PE)
section
variable{β α:Type}
theorem AD{o:Option α}{K:α->Option β}{x:β}(e:CU o K=some x):∃ y,o=some y/\K y=some x:=by
 cases o with
 |none=>cases e
 |some y=>exact⟨y,rfl,e⟩
theorem AJ{c:Bool}{K:Unit->Option β}{x:β}(e:gd c K=some x):c=true/\K ()=some x:=by
 cases c with
 |false=>cases e
 |true=>exact⟨rfl,e⟩
theorem BN{c:Bool}{a b:Unit->Option β}{x:β}(e:br c a b=some x):(c=true/\a ()=some x)\/(c=false/\b ()=some x):=by
 cases c with
 |false=>exact .inr ⟨rfl,e⟩
 |true=>exact .inl ⟨rfl,e⟩
theorem GT{l:List α}{i:Nat}{K:α->Option β}{x:β}(e:ix l i K=some x):∃ y,l[i]?=some y/\K y=some x:=by
 unfold ix at e;split at e
 ·rename_i y a;exact⟨y,a,e⟩
 ·cases e
theorem LS{n:Int}{K:Nat->Option β}{x:β}(e:R0 n K=some x):0<=n/\K n.toNat=some x:=by
 unfold R0 at e;cases h:decide (0<=n)with
 |false=>rw[h]at e;cases e
 |true=>rw[h]at e;exact⟨of_decide_eq_true h,e⟩
theorem E5{m:Option α}{K:α->Option β}{x:β}(e:bd m K=some x):∃ y,m=some y/\K y=some x:=by
 cases m with
 |none=>cases e
 |some y=>exact⟨y,rfl,e⟩
theorem A5{c a:Ty}{l:List c.den}{K:List a.den->Option β}{x:β}(e:DT l K=some x):∃ h:c=a,K (h ▸ l)=some x:=by
 unfold DT at e;split at e
 ·rename_i h;exact⟨h,e⟩
 ·cases e
theorem BU{c:Bool}{a b:α}{x:α}(e:(bif c then a else b)=x):(c=true/\a=x)\/(c=false/\b=x):=by
 cases c with
 |false=>exact .inr ⟨rfl,e⟩
 |true=>exact .inl ⟨rfl,e⟩
theorem BC{c:Bool}{b:Option α}{x:α}(e:(bif c then none else b)=some x):c=false/\b=some x:=by
 cases c with
 |false=>exact⟨rfl,e⟩
 |true=>cases e
theorem AK{c:Bool}{a:Option α}{x:α}(e:(bif c then a else none)=some x):c=true/\a=some x:=by
 cases c with
 |true=>exact⟨rfl,e⟩
 |false=>cases e
end
section
variable{X:Cx}{β:Type}{x:β}
theorem Fi{v:Value}{a:V}(e:GG v=some a):∃ p,Pi.Cw v=some p /\ VR X a p:=by
  unfold GG at e;unfold Pi.Cw;split at e
  all_goals first
    |(cases e;exact⟨_,rfl,by simp[VR]⟩)
    | (split at e
       · rename_i h;cases e;exact⟨.fn (.func _) [] [],if_pos h,by simp[VR,VRL]⟩
       · cases e)
    |cases e
theorem Ef:∀ {vs:List Value} {b:List V},Dp vs=some b -> ∃ c,Pi.cellsOf vs=some c/\VRL X b c
 |[],b,e=>by cases e;exact⟨[],rfl,.nil⟩
 |v::l,b,e=>by
  unfold Dp at e;split at e
  ·rename_i a d f g;cases e;obtain⟨p,e1,h⟩:=Fi (X:=X) f;obtain⟨c,e2,i⟩:=Ef g;exact⟨p::c,by unfold Pi.cellsOf;rw[e1,e2],.cons h i⟩
  ·cases e
theorem JK{v:Value}{a:V}(e:KJ v=some a):∃ p,Pi.D2 v=some p/\VR X a p:=by
 unfold KJ at e;split at e
 ·rename_i cs;cases h:Dp cs.toList with
  |none=>rw[h]at e;cases e
  |some j=>
   rw[h]at e;cases e;obtain⟨c,e2,b⟩:=Ef (X:=X) h;exact⟨.agg c,by simp only[Pi.D2,e2];rfl,by simp only[VR];exact⟨c,rfl,b⟩⟩
 ·rename_i vs;replace e:=AK e;obtain⟨h,e⟩:=e;cases e;exact⟨.tup [],by simp[Pi.D2,h],by simp[VR,VRL]⟩
 ·rename_i t v;split at e
  ·rename_i p i;cases e;obtain⟨q,e2,b⟩:=Fi (X:=X) i;exact⟨.ifc t q,by simp only[Pi.D2,e2],by simp only[VR];exact⟨q,rfl,b⟩⟩
  ·cases e
 ·rename_i d f g;obtain⟨p,e2,b⟩:=Fi (X:=X) e;refine⟨p,?_,b⟩;unfold Pi.D2;split
  ·exact absurd rfl (d _)
  ·exact absurd rfl (f _)
  ·exact absurd rfl (g _ _)
  ·exact e2
theorem B4{P:Program}{t:TypeId}{b:List V}(e:Ch P t=some b):∃ a,Pi.zeroCells P t=some a/\VRL X b a:=by
 unfold Ch at e;split at e
 ·rename_i i hi;split at e
  ·rename_i z c;obtain⟨a,h,r⟩:=Ef (X:=X) e;exact⟨a,by simp only[Pi.zeroCells,hi,c];exact h,r⟩
  ·cases e
 ·cases e
theorem F9{P:Program}{t:TypeId}{a:V}(e:C6 P t=some a):∃ p,Pi.Bt P t=some p/\VR X a p:=by
 unfold C6 at e;split at e
 ·rename_i i hi;split at e
  ·rename_i z b;obtain⟨c,h,r⟩:=JK (X:=X) e;exact⟨c,by simp only[Pi.Bt,hi,b];exact h,r⟩
  ·cases e
 ·cases e
def TR(X:Cx)(t:T V)(a:T PV):Prop:=∀ k v,t.get k=some v -> ∃ p,a.get k=some p/\VR X v p
theorem TR.mono{Y:Cx}{t:T V}{a:T PV}(h:TR X t a)(u:Up X Y):TR Y t a:=λk v e=>by
 obtain⟨p,b,c⟩:=h k v e;exact⟨p,b,c.mono u⟩
theorem TR.put{t:T V}{a:T PV}(h:TR X t a){d:Nat}(f:d<1048575){v:V}{p:PV}(c:VR X v p):TR X (T.put 20 t d v) (T.put 20 a d p):=by
 have g:(2:Nat) ^ 20-1=1048575:=by decide
 intro k w e;rw[T.get_put 20 t d v k (by omega)]at e;rw[T.get_put 20 a d p k (by omega)];by_cases b:k=d
 ·rw[if_pos b]at e ⊢;cases e;exact⟨p,rfl,c⟩
 ·rw[if_neg b]at e ⊢;exact h k w e
variable{t:T V}{tP:T PV}
theorem Jx{X:Cx}:∀ {cs:List PV} {vs:List V},O5 cs=some vs->VRL X vs cs
 |[],vs,e=>by cases e;exact .nil
 |c::l,vs,e=>by
  unfold O5 at e;split at e
  ·rename_i h;cases h
  ·rename_i h;cases h;obtain⟨b,a,rfl⟩:=Pi.AA e;exact .cons (by simp[VR]) (Jx a)
  ·rename_i h;cases h;obtain⟨b,a,rfl⟩:=Pi.AA e;exact .cons (by simp[VR]) (Jx a)
  ·cases e
theorem AM(f:TR X t tP){o:Operand}{K:V->Option β}(e:BG t o K=some x):∃ v p,K v=some x/\Pi.CM tP o=some p/\VR X v p:=by
 unfold BG at e;unfold Pi.CM;split at e
 ·obtain⟨v,a,b⟩:=AD e;obtain⟨p,c,d⟩:=f _ _ a;exact⟨v,p,b,by simp[c],d⟩
 ·obtain⟨v,a,b⟩:=AD e;obtain⟨p,c,d⟩:=JK (X:=X) a;exact⟨v,p,b,c,d⟩
 ·exact⟨_,_,e,rfl,by simp[VR,VRL]⟩
 ·obtain⟨cs,a,e⟩:=AD e;obtain⟨vs,b,e⟩:=AD e;exact⟨_,.view cs,e,by show(Pi.Gl.g _).map _=_;rw[a];rfl,by simp only[VR];exact⟨cs,rfl,Jx b⟩⟩
theorem GQ(b:TR X t tP):∀ {c:List Operand} {K:List V->Option β},Nz t c K=some x -> ∃ vs a,K vs=some x/\Pi.Lx tP c=some a/\VRL X vs a
 |[],K,e=>⟨[],[],e,rfl,.nil⟩
 |o::l,K,e=>by
  obtain⟨v,p,e1,d,g⟩:=AM b e;obtain⟨vs,a,e2,f,h⟩:=GQ b e1;exact⟨v::vs,p::a,e2,by unfold Pi.Lx;rw[d,f],.cons g h⟩
def VRO(X:Cx):Option V->Option PV->Prop
 |none,o=>o=none
 |some v,o=>∃ p,o=some p/\VR X v p
theorem Jp(b:TR X t tP){o:Option Operand}{K:Option V->Option β}(e:QU t o K=some x):∃ v p,K v=some x/\Pi.QG tP o=some p/\VRO X v p:=by
 cases o with
 |none=>exact⟨none,none,e,rfl,rfl⟩
 |some o=>
  obtain⟨v,p,e1,a,c⟩:=AM b e;exact⟨some v,some p,e1,by show(Pi.CM tP o).map some=_;rw[a];rfl,p,rfl,c⟩
def Rt(X:Cx):List (Nat×V)->List (Nat×PV)->Prop:=L2 λa b=>a.1=b.1/\VR X a.2 b.2
theorem Et(b:TR X t tP):∀ {c:List (Nat×Operand)} {K:List (Nat×V)->Option β},Gc t c K=some x -> ∃ vs a,K vs=some x/\Pi.B9 tP c=some a/\Rt X vs a
 |[],K,e=>⟨[],[],e,rfl,.nil⟩
 |(i,o)::l,K,e=>by
  obtain⟨v,p,e1,d,g⟩:=AM b e;obtain⟨vs,a,e2,f,h⟩:=Et b e1;exact⟨(i,v)::vs,(i,p)::a,e2,by unfold Pi.B9;rw[d,f],.cons ⟨rfl,g⟩ h⟩
theorem C5{v:V}{p:PV}{K:Nat->Option β}(a:VR X v p)(e:IS v K=some x):∃ n,K n=some x/\Pi.FT p=some n:=by
 unfold IS at e;split at e
 ·simp only[VR]at a;subst a;obtain⟨b,c⟩:=LS e;exact⟨_,c,by simp[Pi.FT,b]⟩
 ·cases e
theorem JI{v:V}{p:PV}{K:Nat->Option β}(a:VR X v p)(e:KD v K=some x):∃ n,K n=some x/\Pi.E3 p=some n:=by
 unfold KD at e;split at e
 ·simp only[VR]at a;subst a;obtain⟨b,c⟩:=LS e;exact⟨_,c,by simp[Pi.E3,b]⟩
 ·cases e
theorem A3{d:Nat}{v:Option V}{p:Option PV}{K:Nat->Option β}(a:VRO X v p)(e:CC d v K=some x):∃ n,K n=some x/\Pi.CT d p=some n:=by
 cases v with
 |none=>cases a;exact⟨d,e,rfl⟩
 |some v=>obtain⟨p,rfl,a⟩:=a;exact C5 a e
theorem Qb{c:BinOp}{k:IntKind}{a b:Int}{K:V -> Option β}(e:RY c k a b K=some x):∃ v p,K v=some x /\ Pi.OL c k a b=some p /\ VR X v p:=by
  cases c<;>simp only[RY]at e
  all_goals first
    |(exact⟨_,_,e,rfl,by simp only[VR];rfl⟩)
    | (obtain ⟨d, f⟩ := AJ e
       refine⟨_,_,f,?_,by simp only[VR];rfl⟩;have g:(b == 0)=false:=by simpa[Rx]using d
       simp only[Pi.OL,g,cond_false];rfl)
    |cases e
theorem JW{c:BinOp}{k:IntKind}{a b:Int}{K:V -> Option β}(e:Mh c k a b K=some x):∃ v p,K v=some x /\ Pi.HE c k a b=some p /\ VR X v p:=by
  cases c<;>simp only[Mh]at e
  all_goals first
    | (obtain ⟨d, f⟩ := AJ e
       refine⟨_,_,f,?_,by simp only[VR];rfl⟩;have g:decide (b < 0)=false:=by simpa[Rw]using d
       simp only[Pi.HE,g,cond_false];rfl)
    |cases e
theorem Cu:∀ (a b:List UInt8),(Op.bytesLess a b||a == b) = !Op.bytesLess b a
 |[],[]=>rfl
 |[],_::_=>rfl
 |_::_,[]=>rfl
 |a::l,b::m=>by
  have g:=Cu l m;simp only[Op.bytesLess];by_cases c:a<b
  ·have d:¬ b<a:=by rw[cB]at c ⊢;omega
   have e:(b == a)=false:=by
    rw[beq_eq_false_iff_ne];intro h;subst h;exact d c
   simp[c,d,e]
  ·by_cases d:b<a
   ·have e:(a == b)=false:=by
     rw[beq_eq_false_iff_ne];intro h;subst h;exact c d
    have f:(a::l == b::m)=false:=by
     rw[cP,e];rfl
    simp[c,d,e,f]
   ·have e:a=b:=by
     apply UInt8.toNat_inj.1;rw[cB]at c d;omega
    subst e;rw[cP];simp only[c,decide_false,Bool.false_or,beq_self_eq_true,Bool.true_and];exact g
theorem Q3{c:BinOp}{a b:List UInt8}{K:V -> Option β}(e:Ro c a b K=some x):∃ v p,K v=some x /\ Pi.Pm c a b=some p /\ VR X v p:=by
  cases c<;>simp only[Ro]at e
  all_goals first
    |(refine⟨_,_,e,rfl,?_⟩;simp only[VR];rfl)
    |(refine⟨_,_,e,rfl,?_⟩;simp only[VR];rw[Cu];rfl)
    |(refine⟨_,_,e,rfl,?_⟩;simp only[VR];rw[Cu];simp[SQ])
    | (obtain ⟨d, f⟩ := AJ e
       refine⟨_,_,f,?_,by simp only[VR];rfl⟩;simp only[CF,BF,Mi]at d
       simp only[Pi.Pm,d,cond_true];rfl)
    |cases e
end
end
section
variable[Pi.Gl]
open Pi (PV T Hp Blk DF UM PE)
section
variable{X:Cx}{β:Type}{x:β}{P:Program}
theorem Bd{t:TypeId}{cs:List V}{c:List PV}{v:V}(h:VRL X cs c)(e:D4 P t cs=some v):∃ p,Pi.part P t c=some p/\VR X v p:=by
 unfold D4 at e;split at e
 ·rename_i n a b;replace e:=AK e;obtain⟨d,e⟩:=e;cases e;refine⟨.agg (c.take n),?_,by simp only[VR];exact⟨_,rfl,h.take n⟩⟩;unfold Pi.part;simp only[a,b];rw[<- h.length,d];rfl
 ·rename_i a b;split at e
  ·cases e;obtain⟨p,f,rfl,r,_⟩:=h.cons_inv;exact⟨p,by unfold Pi.part;simp only[a,b],r⟩
  ·cases e
 ·cases e
theorem VR.agg_inv{cs:List V}{p:PV}(h:VR X (.agg cs) p):∃ a,p=.agg a/\VRL X cs a:=by simpa only[VR]using h
mutual
theorem Gx:∀ (d:Nat) {t:TypeId} {a b:V} {c:Bool} {p q:PV},VR X a p->VR X b q->QS P d t a b=some c->Pi.NO P d t p q=some c
 |0,_,_,_,_,_,_,_,_,e=>by simp[QS]at e
 |d+1,t,a,b,c,p,q,f,g,e=>by
  unfold QS at e;unfold Pi.NO;split at e
  all_goals (try simp only[*])
  ·split at e
   ·simp only[VR]at f g;subst f;subst g;exact e
   ·cases e
  ·split at e
   ·simp only[VR]at f g;subst f;subst g;exact e
   ·cases e
  ·split at e
   ·simp only[VR]at f g;subst f;subst g;exact e
   ·cases e
  ·split at e
   all_goals first
    |(simp only[VR]at f g;subst f;subst g;exact e)
    |(simp only[VR]at f g;obtain⟨_,_,_,rfl⟩:=f;subst g;exact e)
    |(simp only[VR]at f g;obtain⟨_,_,_,rfl⟩:=g;subst f;exact e)
    |(simp only[VR]at f g;subst f;rcases g with⟨_,rfl,_⟩|⟨_,_,_,_,_,_,_,rfl,_⟩<;>exact e)
    |(simp only[VR]at f g;subst g;rcases f with⟨_,rfl,_⟩|⟨_,_,_,_,_,_,_,rfl,_⟩<;>exact e)
    |(simp only[VR]at f g;subst f;obtain⟨_,rfl,_⟩:=g;exact e)
    |(simp only[VR]at f g;subst g;obtain⟨_,rfl,_⟩:=f;exact e)
    |cases e
  ·split at e
   ·simp only[VR]at f g;subst f;subst g;exact e
   ·simp only[VR]at f g;subst f;obtain⟨_,_,rfl,_⟩:=g;exact e
   ·simp only[VR]at f g;subst g;obtain⟨_,_,rfl,_⟩:=f;exact e
   ·simp only[VR]at f g;subst f;rcases g with⟨_,h⟩|⟨_,_,rfl,_⟩|⟨_,_,_,_,_,_,rfl,_⟩
    ·cases h
    ·exact e
    ·exact e
   ·simp only[VR]at f g;subst g;rcases f with⟨_,h⟩|⟨_,_,rfl,_⟩|⟨_,_,_,_,_,_,rfl,_⟩
    ·cases h
    ·exact e
    ·exact e
   ·simp only[VR]at f g;subst f;rcases g with⟨_,h⟩|⟨_,_,rfl,_⟩
    ·cases h
    ·exact e
   ·simp only[VR]at f g;subst g;rcases f with⟨_,h⟩|⟨_,_,rfl,_⟩
    ·cases h
    ·exact e
   ·simp only[VR]at f g;subst f;obtain⟨_,_,_,rfl⟩:=g;exact e
   ·simp only[VR]at f g;subst g;obtain⟨_,_,_,rfl⟩:=f;exact e
   ·cases e
  ·split at e
   all_goals first
    |(simp only[VR]at f g;subst f;subst g;exact e)
    |(simp only[VR]at f g;obtain⟨_,_,rfl,_⟩:=f;subst g;exact e)
    |(simp only[VR]at f g;obtain⟨_,_,rfl,_⟩:=g;subst f;exact e)
    |cases e
  ·split at e
   ·simp only[VR]at f g;subst f;subst g;exact e
   ·simp only[VR]at f g;subst f;obtain⟨_,rfl,_⟩:=g;exact e
   ·simp only[VR]at f g;subst g;obtain⟨_,rfl,_⟩:=f;exact e
   ·simp only[VR]at f g;obtain⟨o,rfl,f⟩:=f;obtain⟨b',rfl,g⟩:=g;rcases BU e with⟨h,e⟩|⟨h,e⟩
    ·simp only[h,cond_true];split at e
     ·rename_i i hi;replace e:=AK e;obtain⟨l,e⟩:=e;simp only[hi,l,cond_true];exact Gx d f g e
     ·cases e
    ·simp only[h,cond_false];exact e
   ·cases e
  ·split at e
   ·obtain⟨m,rfl,j⟩:=f.agg_inv;obtain⟨n,rfl,k⟩:=g.agg_inv;replace e:=BC e;obtain⟨h,e⟩:=e;simp only[h,cond_false];exact Jl d j k e
   ·cases e
  ·split at e
   ·obtain⟨m,rfl,j⟩:=f.agg_inv;obtain⟨n,rfl,k⟩:=g.agg_inv;replace e:=AK e;obtain⟨h,e⟩:=e;simp only[h,cond_true];exact M5 d j k e
   ·cases e
theorem Jl:∀ (d:Nat) {g:List Field} {a b:List V} {c:Bool} {p q:List PV},VRL X a p->VRL X b q->ME P d g a b=some c->Pi.Il P d g p q=some c
 |0,_,_,_,_,_,_,_,_,e=>by simp[ME]at e
 |d+1,[],_,_,_,_,_,_,_,e=>by simpa[ME,Pi.Il]using e
 |d+1,f::g,a,b,c,p,q,ha,hb,e=>by
  unfold ME at e;unfold Pi.Il;rcases BU e with⟨h,e⟩|⟨h,e⟩
  ·simp only[h,cond_true];exact Jl d ha hb e
  ·simp only[h,cond_false];split at e
   ·rename_i u v l m;obtain⟨s,j,n⟩:=Bd (ha.drop f.offset) l;obtain⟨t,k,o⟩:=Bd (hb.drop f.offset) m;split at e
    ·rename_i i r e1 e2;simp only[j,k,Gx d n o e1];cases e;cases i with
     |true=>simpa[Nk]using Jl d ha hb e2
     |false=>simp[Nk]
    ·cases e
   ·cases e
theorem M5:∀ (d:Nat) {n:Nat} {t:TypeId} {a b:List V} {c:Bool} {p q:List PV},VRL X a p->VRL X b q->Nv P d n t a b=some c->Pi.KP P d n t p q=some c
 |0,_,_,_,_,_,_,_,_,_,e=>by simp[Nv]at e
 |d+1,0,_,_,_,_,_,_,_,_,e=>by simpa[Nv,Pi.KP]using e
 |d+1,n+1,t,a,b,c,p,q,ha,hb,e=>by
  unfold Nv at e;unfold Pi.KP;split at e
  ·rename_i s u v hs i j;obtain⟨o,g,k⟩:=Bd ha i;obtain⟨r,h,l⟩:=Bd hb j;split at e
   ·rename_i f m e1 e2;simp only[hs,g,h,Gx d k l e1];cases e;cases f with
    |true=>simpa[Nk]using M5 d (ha.drop s) (hb.drop s) e2
    |false=>simp[Nk]
   ·cases e
  ·cases e
end
theorem H9{a:BinOp}{c:Bool}{K:V->Option β}(e:(match a with
  |.eql=>K (.bool c)
  |.neq=>K (.bool (Hg c))
  |_=>none)=some x) {o:Option Bool} (b:o=some c):∃ v p,K v=some x/\(match a with
  |.eql=>o.map .bool
  |.neq=>o.map λr=>.bool (!r)
  |_=>none)=some p/\VR X v p:=by
 subst b;cases a<;>simp only at e ⊢
 all_goals first
  |(exact⟨_,_,e,rfl,by simp[VR,Hg]⟩)
  |cases e
theorem F5{c:BinOp}{ty:TypeId}{p q:PV}(d:∀ k n f m,¬(p=.int k n/\q=.int f m))(e:∀ a b,¬(p=.str a/\q=.str b)):Pi.Ik P c ty p q=(match c with
  |.eql=>(Pi.NO P Pi.E8 ty p q).map .bool
  |.neq=>(Pi.NO P Pi.E8 ty p q).map λr=>.bool (!r)
  |_=>none):=by
 unfold Pi.Ik;split
 ·exact absurd ⟨rfl,rfl⟩ (d _ _ _ _)
 ·exact absurd ⟨rfl,rfl⟩ (e _ _)
 ·rfl
theorem VR.inv{v:V}{p:PV}(h:VR X v p):(∀ k n,p=.int k n->v=.int k n)/\(∀ l,p=.str l->v=.str l)/\(p=.nili->v=.nili)/\(∀ cs,p=.agg cs -> ∃ i,v=.agg i):=by
 cases v with
 |agg cs=>exact⟨λ_ _ e=>by simp[VR,e]at h,λ_ e=>by simp[VR,e]at h,λe=>by simp[VR,e]at h,λ_ _=>⟨_,rfl⟩⟩
 |ow id=>
  simp only[VR]at h;split at h
  ·subst h;simp
  ·subst h;simp
  ·subst h;simp
  ·exact h.elim
 |lf f g c l=>
  simp only[VR]at h;rcases h with⟨rfl,_⟩|⟨_,_,rfl,_⟩|⟨_,_,_,_,_,_,rfl,_⟩<;>simp
 |view cs=>
  simp only[VR]at h;rcases h with⟨_,rfl,_⟩|⟨_,_,_,_,_,_,_,rfl,_⟩<;>simp
 |pl g c l=>simp only[VR]at h;rcases h with⟨rfl,_⟩|⟨_,_,rfl,_⟩<;>simp
 |pv cs=>simp only[VR]at h;obtain⟨_,rfl,_⟩:=h;simp
 |tup cs=>simp only[VR]at h;obtain⟨_,rfl,_⟩:=h;simp
 |exl f cs=>simp only[VR]at h;obtain⟨_,_,rfl,_⟩:=h;simp
 |own a b c=>simp only[VR]at h;obtain⟨_,_,_,rfl⟩:=h;simp
 |ptr a b=>simp only[VR]at h;obtain⟨_,_,_,rfl⟩:=h;simp
 |ept a b c=>simp only[VR]at h;obtain⟨_,_,_,rfl⟩:=h;simp
 |aptr a b c d=>simp only[VR]at h;obtain⟨_,_,_,rfl,_⟩:=h;simp
 |fn a b c=>simp only[VR]at h;obtain⟨_,_,rfl,_⟩:=h;simp
 |yl a=>simp only[VR]at h;obtain⟨_,_,_,rfl⟩:=h;simp
 |mp a=>simp only[VR]at h;obtain⟨_,_,_,rfl⟩:=h;simp
 |ifc a b=>simp only[VR]at h;obtain⟨_,rfl,_⟩:=h;simp
 |_=>simp only[VR]at h;subst h;simp
theorem A9{o:Option PV}{h:Hp}{p:PV}(e:o=some p):Pi.vl o h=some (.val p h):=by rw[e];rfl
theorem QN{h:Hp}{w:BinOp}{ty:TypeId}{y z:Operand}{a b:V}{p q:PV}{K:V->Option β}(i:VR X a p)(j:VR X b q)(e:RQ P w ty y z a b K=some x) :
  ∃ v r,K v=some x/\Pi.DY P h w ty y z p q=some (.val r h)/\VR X v r:=by
 unfold RQ at e;split at e
 ·simp only[VR]at i j;subst i;subst j;split at e
  ·obtain⟨v,r,d,f,g⟩:=JW (X:=X) e;exact⟨v,r,d,A9 (by simpa[Pi.Ik]using f),g⟩
  ·obtain⟨v,r,d,f,g⟩:=JW (X:=X) e;exact⟨v,r,d,A9 (by simpa[Pi.Ik]using f),g⟩
  ·rename_i t u;replace e:=AK e;obtain⟨C,e⟩:=e;obtain⟨v,r,d,f,g⟩:=Qb (X:=X) e;refine⟨v,r,d,A9 ?_,g⟩;unfold Pi.Ik;cases w<;>first|exact absurd rfl t|exact absurd rfl u|(simp only[C,cond_true];exact f)
 ·simp only[VR]at i j;subst i;subst j;obtain⟨v,r,d,f,g⟩:=Q3 (X:=X) e;exact⟨v,r,d,A9 f,g⟩
 ·replace e:=AK e;obtain⟨hc,e⟩:=e;obtain⟨c,d,e⟩:=AD e;obtain⟨v,r,e1,f,g⟩:=H9 (X:=X) e (Gx 64 i j d);simp only[VR]at i j;subst i;subst j;refine⟨v,r,e1,?_,g⟩;unfold Pi.DY;simp only[hc,cond_true];exact A9 (by rw[F5 (by simp) (by simp)];exact f)
 ·rename_i I J;replace e:=BC e;obtain⟨hc,e⟩:=e;obtain⟨c,d,e⟩:=AD e;obtain⟨v,r,e1,f,g⟩:=H9 (X:=X) e (Gx 64 i j d);obtain⟨M,rfl,A⟩:=i.agg_inv;obtain⟨N,rfl,B⟩:=j.agg_inv;refine⟨v,r,e1,?_,g⟩;unfold Pi.DY;simp only[hc,cond_false];exact A9 (by rw[F5 (by simp) (by simp)];exact f)
 ·rename_i t u F G;obtain⟨c,d,e⟩:=AD e;obtain⟨v,r,e1,f,g⟩:=H9 (X:=X) e (Gx 64 i j d);refine⟨v,r,e1,?_,g⟩;have o:=i.inv;have s:=j.inv;unfold Pi.DY;split
  ·exact absurd (s.2.2.1 rfl) (F (o.2.2.1 rfl))
  ·obtain⟨_,D⟩:=o.2.2.2 _ rfl;obtain⟨_,E⟩:=s.2.2.2 _ rfl;exact absurd E (G _ _ D)
  ·refine A9 ?_;rw[F5 (λk n L m hh=>t _ _ _ _ (o.1 _ _ hh.1) (s.1 _ _ hh.2)) (λl m hh=>u _ _ (o.2.1 _ hh.1) (s.2.1 _ hh.2))];exact f
theorem Rq{c:UnOp}{a:V}{p:PV}{K:V->Option β}(b:VR X a p)(e:TC c a K=some x):∃ v r,K v=some x/\Pi.Sf c p=some r/\VR X v r:=by
 unfold TC at e;split at e
 ·simp only[VR]at b;subst b;split at e
  ·exact⟨_,_,e,rfl,by simp[VR,Hg]⟩
  ·cases e
 ·simp only[VR]at b;subst b;split at e
  ·exact⟨_,_,e,rfl,by simp[VR,SG]⟩
  ·cases e
 ·cases e
theorem Nb:∀ {es:List V} {a:List PV} {K:List UInt8->Option β},VRL Cx.pure es a->Q5 es K=some x -> ∃ l,K l=some x/\Pi.Rp a=some l
 |[],a,K,hv,e=>by
  simp only[VRL]at hv;subst hv;exact⟨[],e,rfl⟩
 |v::es,a,K,hv,e=>by
  unfold Q5 at e;split at e
  ·rename_i h;cases h
  ·rename_i n l h;cases h;obtain⟨p,d,rfl,b,c⟩:=hv.cons_inv;simp only[VR]at b;subst b;obtain⟨l,e1,e2⟩:=Nb c e;exact⟨_,e1,by unfold Pi.Rp;rw[e2];rfl⟩
  ·cases e
theorem Kv{h:Hp}{s d:TypeId}{a:V}{p:PV}{K:V->Option β}(b:VR X a p)(e:H5 P s d a K=some x):∃ v r,K v=some x/\Pi.BH P h s d p=some (.val r h)/\VR X v r:=by
 unfold H5 at e;unfold Pi.BH;split at e
 ·rename_i c g;simp only[VR]at b;subst b;exact⟨_,_,e,by simp only[c,g];rfl,by simp[VR,TK]⟩
 ·rename_i c g;simp only[VR]at b;subst b;exact⟨_,_,e,by simp only[c,g];rfl,by simp[VR]⟩
 ·rename_i f es k c g;split at e
  ·rename_i i;simp only[VR]at b;obtain⟨m,n,rfl,_,j⟩:=b;obtain⟨l,e1,e2⟩:=Nb j e;exact⟨_,.str l,e1,by simp only[c,g,i,e2],by simp[VR]⟩
  ·cases e
 ·cases e
theorem QZ{h:Hp}{ty:TypeId}{a:V}{p:PV}{K:V->Option β}(b:VR X a p)(e:RW P ty a K=some x):∃ v r,K v=some x/\Pi.EW P h ty p=some (.val r h)/\VR X v r:=by
 unfold RW at e;unfold Pi.EW;split at e
 ·cases e
 ·rename_i u c hh;refine⟨_,.ifc ty p,e,?_,by simp only[VR];exact⟨p,rfl,b⟩⟩;rw[hh];cases u<;>first|exact absurd rfl (c _)|rfl
 ·cases e
theorem Qk{h:Hp}{a:V}{p:PV}{K:V->Option β}(b:VR X a p)(e:Rc a K=some x):∃ v r,K v=some x/\Pi.Em h p=some (.val r h)/\VR X v r:=by
 unfold Rc at e;split at e
 ·refine⟨_,p,e,?_,b⟩;simp only[VR]at b;obtain⟨_,rfl,_⟩:=b;rfl
 ·refine⟨_,p,e,?_,b⟩;simp only[VR]at b;obtain⟨_,_,_,rfl⟩:=b;rfl
 ·refine⟨_,p,e,?_,b⟩;simp only[VR]at b;obtain⟨_,_,_,rfl⟩:=b;rfl
 ·refine⟨_,p,e,?_,b⟩;simp only[VR]at b;rcases b with⟨_,rfl,_⟩|⟨_,_,_,_,_,_,_,rfl,_⟩<;>rfl
 ·refine⟨_,p,e,?_,b⟩;simp only[VR]at b;obtain⟨_,rfl,_⟩:=b;rfl
 ·refine⟨_,p,e,?_,b⟩;simp only[VR]at b;obtain⟨_,_,_,rfl⟩:=b;rfl
 ·refine⟨_,p,e,?_,b⟩;simp only[VR]at b;obtain⟨_,_,rfl,_⟩:=b;rfl
 ·cases e
theorem N4{h:Hp}{ty:TypeId}{a:V}{p:PV}{f:Nat}{K:V->Option β}(j:VR X a p)(e:MK P ty a f K=some x):∃ v r,K v=some x/\Pi.B5 P h ty p f=some (.val r h)/\VR X v r:=by
 unfold MK at e;split at e
 ·rename_i m cs l;obtain⟨n,rfl,b⟩:=j.agg_inv;split at e
  ·rename_i c k;obtain⟨v,d,e⟩:=AD e;obtain⟨r,g,i⟩:=Bd (b.drop c.offset) d;exact⟨v,r,e,by unfold Pi.B5;simp only[l,k];exact A9 g,i⟩
  ·cases e
 ·cases e
end
end
section
variable[Pi.Gl]
open Pi (PV T Hp Blk DF UM PE)
def DFR(X:Cx):DFA->DF->Prop
 |.call f args,d=>∃ c a,d=.call c a/\VR X f c/\VRL X args a
 |.bi b ats ty args,d=>∃ a,d=.bi b ats ty a/\VRL X args a
 |.col id,d=>∃ pid n,X.π id=some (.blk pid n)/\d=.col pid
theorem DFR.mono{X Y:Cx}(u:Up X Y):∀ {a:DFA} {d:DF},DFR X a d->DFR Y a d
 |.call _ _,_,⟨f,e,b,c,g⟩=>⟨f,e,b,c.mono u,g.mono u⟩
 |.bi _ _ _ _,_,⟨e,b,c⟩=>⟨e,b,c.mono u⟩
 |.col _,_,⟨pid,n,b,c⟩=>⟨pid,n,u.pi _ _ b,c⟩
def MR(X:Cx)(k:Ty)(g:Bool)(c:Ty)(u:k.den×c.den)(w:PV×PV):Prop:=DP k u.1 [w.1]/\EP g (DR X.h X.Q c) u.2 w.2
def BR(X:Cx):BA->Option At->Prop
 |.box cs fz _,a=>∃ pid n f b,a=some (.blk pid n)/\X.O pid/\X.h.get pid=some (.box f b)/\(fz=false->b=false)/\VRL X cs f
 |.row g c l ex fz _,a=>(∃ pid len es b,a=some (.blk pid len)/\X.O pid/\X.h.get pid=some (.row es ex b)/\(fz=false->b=false)/\es.length=len/\(ex=false->0<len)/\L2 (EP g (DR X.h X.Q c)) l es) \/
   (a=some .nil/\ex=false/\l=[]) \/ ∃ es,a=some (.fz es)/\ex=false/\(fz=true\/l=[])/\L2 (EP g (DP c)) l es
 |.mp k g c l _,a=>∃ pid n es,a=some (.blk pid n)/\X.O pid/\X.h.get pid=some (.mp es)/\L2 (MR X k g c) l es
 |.lp st pend nt t f asg body d,a=>∃ pid n j i m,a=some (.blk pid n)/\X.O pid/\X.h.get pid=some (.lp st pend nt j f asg body i)/\TR X t j/\X.π d=some (.blk i m)/\nt<1048575
 |.df ds,a=>∃ pid n e,a=some (.blk pid n)/\X.O pid/\X.h.get pid=some (.df e)/\(match ds,e with
  |none,none=>True
  |some l,some m=>L2 (DFR X) l m
  |_,_=>False)
 |.dead,a=>∀ pid m,a=some (.blk pid m)->X.O pid/\X.h.get pid=some .dead
theorem EDR.mono{X Y:Cx}(u:Up X Y){g:Bool}{c:Ty}{l:List c.den}{es:List PV}(h:L2 (EP g (DR X.h X.Q c)) l es):L2 (EP g (DR Y.h Y.Q c)) l es:=
 h.mono λ_ _ k=>k.mono λ_ _ k=>DR.mono u.rows k
theorem BR.keep{X Y:Cx}(u:Up X Y){b:BA}{a:Option At}(h:BR X b a)(k:∀ pid n,a=some (.blk pid n)->X.O pid->Y.h.get pid=X.h.get pid/\Y.O pid):BR Y b a:=by
 cases b with
 |box cs fz z=>
  obtain⟨pid,n,B,r,f,i,q,j,s⟩:=h;obtain⟨o,p⟩:=k _ _ f i;exact⟨pid,n,B,r,f,p,by rw[o,q],j,s.mono u⟩
 |row g c l ex fz z=>
  rcases h with⟨pid,len,es,r,f,i,q,j,s,E,x⟩|h|h
  ·obtain⟨o,p⟩:=k _ _ f i;exact .inl ⟨pid,len,es,r,f,p,by rw[o,q],j,s,E,EDR.mono u x⟩
  ·exact .inr (.inl h)
  ·exact .inr (.inr h)
 |mp I g c l z=>
  obtain⟨pid,n,es,f,i,q,j⟩:=h;obtain⟨o,p⟩:=k _ _ f i;exact⟨pid,n,es,f,p,by rw[o,q],j.mono λ_ _ m=>⟨m.1,m.2.mono λ_ _ k=>DR.mono u.rows k⟩⟩
 |lp J A nt t B C y d=>
  obtain⟨pid,n,F,D,m,f,i,q,j,s,x⟩:=h;obtain⟨o,p⟩:=k _ _ f i;exact⟨pid,n,F,D,m,f,p,by rw[o,q],j.mono u,u.pi _ _ s,x⟩
 |df G=>
  obtain⟨pid,n,w,f,i,q,j⟩:=h;obtain⟨o,p⟩:=k _ _ f i;refine⟨pid,n,w,f,p,by rw[o,q],?_⟩;split at j
  ·trivial
  ·exact j.mono λ_ _ m=>m.mono u
  ·exact j.elim
 |dead=>
  intro pid m e;obtain⟨f,i⟩:=h pid m e;obtain⟨o,p⟩:=k _ _ e f;exact⟨p,by rw[o,i]⟩
def BA.live:BA->Prop
 |.dead=>False
 |_=>True
theorem BR.own{X:Cx}{b:BA}{pid n:Nat}(h:BR X b (some (.blk pid n)))(m:b.live):X.O pid:=by
 cases b with
 |box cs fz i=>obtain⟨_,_,_,_,a,e,_⟩:=h;cases a;exact e
 |row g c l ex fz i=>
  rcases h with⟨_,_,_,_,a,e,_⟩|⟨a,_⟩|⟨_,a,_⟩
  ·cases a;exact e
  ·cases a
  ·cases a
 |mp p g c l i=>obtain⟨_,_,_,a,e,_⟩:=h;cases a;exact e
 |lp r j nt t q k f d=>obtain⟨_,_,_,_,_,a,e,_⟩:=h;cases a;exact e
 |df o=>obtain⟨_,_,_,a,e,_⟩:=h;cases a;exact e
 |dead=>exact m.elim
theorem BR.nd{X:Cx}{b:BA}{pid n:Nat}(h:BR X b (some (.blk pid n)))(m:b.live):X.h.get pid≠some .dead:=by
 cases b with
 |box cs fz i=>obtain⟨_,_,_,_,a,_,e,_⟩:=h;cases a;rw[e];simp
 |row g c l ex fz i=>
  rcases h with⟨_,_,_,_,a,_,e,_⟩|⟨a,_⟩|⟨_,a,_⟩
  ·cases a;rw[e];simp
  ·cases a
  ·cases a
 |mp p g c l i=>obtain⟨_,_,_,a,_,e,_⟩:=h;cases a;rw[e];simp
 |lp r j nt t q k f d=>obtain⟨_,_,_,_,_,a,_,e,_⟩:=h;cases a;rw[e];simp
 |df o=>obtain⟨_,_,_,a,_,e,_⟩:=h;cases a;rw[e];simp
 |dead=>exact m.elim
structure RH (X:Cx) (h:H) (n:Nat):Prop where
 blk:∀ id b,h.get id=some b->BR X b (X.π id)
 inj:∀ id id' b b' pid m m',h.get id=some b->h.get id'=some b'->b.live->b'.live->X.π id=some (.blk pid m)->X.π id'=some (.blk pid m')->id=id'
 dom:∀ id a,X.π id=some a->id<n
 fresh:∀ pid,X.h.nx<=pid->X.h.get pid=none
 ob:∀ q,X.O q->X.h.get q≠none
theorem AI{h:H}{id:Nat}(a:id<1048575){b:BA}{k:Nat}:(AG h id b).get k=if k=id then some b else h.get k:=by
 have c:(2:Nat) ^ 20-1=1048575:=by decide
 exact T.get_put 20 h id b k (by omega)
structure St (X:Cx) (h:H) (id idP:Nat) (Y:Cx) (h':H):Prop where
 up:Up X Y
 nx:Y.h.nx=X.h.nx
 pin:∀ j,j≠id->X.π j=none->Y.π j=none
 hpn:∀ q,q≠idP->X.h.get q=none->Y.h.get q=none
 lk:∀ j b,h.get j=some b->b.locked=true->h'.get j=some b
 lps:∀ q st pe nt t ps asg body d,X.h.get q=some (.lp st pe nt t ps asg body d)->Y.h.get q=some (.lp st pe nt t ps asg body d)
theorem St.refl(X:Cx)(h:H)(id idP:Nat):St X h id idP X h:=⟨Up.refl X,rfl,λ_ _ h=>h,λ_ _ h=>h,λ_ _ h _=>h,λ_ _ _ _ _ _ _ _ _ h=>h⟩
theorem St.trans{X Y Z:Cx}{h h' h'':H}{id idP:Nat}(a:St X h id idP Y h')(b:St Y h' id idP Z h''):St X h id idP Z h'':=
 ⟨a.up.trans b.up,b.nx.trans a.nx,λj c k=>b.pin j c (a.pin j c k),λj c k=>b.hpn j c (a.hpn j c k),λj x k l=>b.lk j x (a.lk j x k l) l,
  λq m g nt t i f e d k=>b.lps _ _ _ _ _ _ _ _ _ (a.lps _ _ _ _ _ _ _ _ _ k)⟩
def DO{α:Type}(f:Nat->α)(i:Nat)(a:α):Nat->α:=λj=>if j=i then a else f j
section
variable{X:Cx}{h:H}{n:Nat}
theorem RH.set(r:RH X h n){id pid m:Nat}{b b':BA}{bP x:Blk}{c:Hp}(p:id<1048575)(s:h.get id=some b)(z:b.live)(hk:b.locked=false)(L:X.π id=some (.blk pid m))(f:X.h.get pid=some x)
  (K:∀ st pe nt t ps w l d,x ≠ .lp st pe nt t ps w l d)
  (e:X.h.set pid bP=some c) (hb:∀ Y:Cx,Y.π=X.π->Y.h=c->Y.O=X.O->Up X Y->BR Y b' (X.π id)) (M:Nat) :
  ∃ Y:Cx,Y.π=X.π/\Y.h=c/\Y.O=X.O/\RH Y (AG h id b') n /\ ∀ i,St X h i M Y (AG h id b'):=by
 obtain⟨o,N⟩:=Hp.get_set e;have hO:X.O pid:=(L ▸ r.blk _ _ s).own z
 let Y:Cx:={ π:=X.π,h:=c,O:=X.O }
 have u:Up X Y:=⟨λ_ _ h=>h,λq es ex fz a hg=>⟨⟨fz,by
  show c.get q=_
  rw[o,if_neg (by intro hh;subst hh;exact a hO),hg]⟩,a⟩⟩
 refine⟨Y,rfl,rfl,rfl,⟨λi D hi=> ?_,λi S D bb' q m1 m2 hi g W Z=> ?_,r.dom,λq a=> ?_,λq a=>by
  show c.get q≠none;rw[o];split
  ·simp
  ·exact r.ob _ a⟩,λi=>⟨u,N,λ_ _ h=>h,λq a P=> ?_,λj D J A=> ?_,λq st pe nt t ps w l d a=> ?_⟩⟩
 ·rw[AI p]at hi;by_cases k:i=id
  ·rw[if_pos k]at hi;cases hi;subst k;exact hb Y rfl rfl rfl u
  ·rw[if_neg k]at hi;by_cases B:D.live
   ·refine(r.blk _ _ hi).keep u λq m' a I=>⟨?_,I⟩;show c.get q=_;rw[o,if_neg];intro hh;subst hh;exact k (r.inj _ _ _ _ _ _ _ hi s B z a L)
   ·cases D with
    |dead=>
     intro q m' a;obtain⟨k1,U⟩:=r.blk _ _ hi q m' a;refine⟨k1,?_⟩;show c.get q=_;rw[o,if_neg]
     ·exact U
     ·intro hh;subst hh;exact(L ▸ r.blk _ _ s).nd z U
    |_=>exact absurd trivial B
 ·rw[AI p]at hi g;by_cases G:i=id
  ·by_cases y:S=id
   ·intro _ _;rw[G,y]
   ·rw[if_neg y]at g;subst G;intro E F;exact r.inj _ _ _ _ _ _ _ s g z Z E F
  ·rw[if_neg G]at hi;by_cases y:S=id
   ·subst y;intro E F;exact r.inj _ _ _ _ _ _ _ hi s W z E F
   ·rw[if_neg y]at g;exact r.inj _ _ _ _ _ _ _ hi g W Z
 ·show c.get q=none;have C:X.h.nx<=q:=by rw[<- N];exact a
  rw[o,if_neg (by intro hh;subst hh;rw[r.fresh _ C]at f;cases f)];exact r.fresh _ C
 ·show c.get q=none;rw[o,if_neg (by intro hh;subst hh;rw[P]at f;cases f)];exact P
 ·rw[AI p];rw[if_neg (by intro hh;subst hh;rw[s]at J;cases J;rw[hk]at A;cases A)];exact J
 ·show c.get q=_;rw[o,if_neg (by intro hh;subst hh;rw[f]at a;exact K _ _ _ _ _ _ _ _ (Option.some.inj a))];exact a
theorem RH.new(r:RH X h n){id pid m:Nat}{b:BA}{bP:Blk}{z:Hp}(G:id<1048575)(Z:id<n)(hp:X.π id=none)(hlt:pid<X.h.nx)
  (e:X.h.new pid bP=some z) (hb:∀ Y:Cx,Y.π=Sv.DO X.π id (some (.blk pid m))->Y.h=z->(∀ q,Y.O q<->X.O q\/q=pid)->Up X Y->BR Y b (some (.blk pid m))) :
  ∃ Y:Cx,Y.π=Sv.DO X.π id (some (.blk pid m))/\Y.h=z/\RH Y (AG h id b) n/\St X h id pid Y (AG h id b):=by
 obtain⟨D,E,g2⟩:=Hp.get_new e
 let Y:Cx:={ π:=Sv.DO X.π id (some (.blk pid m)),h:=z,O:=λq=>X.O q\/q=pid }
 have o:∀ j,j≠id->Y.π j=X.π j:=λj y=>if_neg y;have C:Y.π id=some (.blk pid m):=if_pos rfl
 have u:Up X Y:=⟨λj a y=>by
  rw[o j (by intro hh;subst hh;rw[hp]at y;cases y)];exact y,λq es ex fz hq A=>by
  have P:q≠pid:=by intro hh;subst hh;rw[D]at A;cases A
  exact⟨⟨fz,by show z.get q=_;rw[E,if_neg P,A]⟩,λhO=>hO.elim hq P⟩⟩
 have I:h.get id=none \/ ∃ p,h.get id=some p /\ ¬ p.live:=by
  cases A:h.get id with
  |none=>exact .inl rfl
  |some p=>
   refine .inr ⟨p,rfl,λM=> ?_⟩;have:=r.blk _ _ A;rw[hp]at this;cases p<;>first|exact M|(simp[BR]at this)
 have w:∀ {i:Nat} {p:BA} {m1:Nat},h.get i=some p->p.live->X.π i=some (.blk pid m1)->False:=by
  intro i p m1 A M hpp;have:=r.blk _ _ A;rw[hpp]at this;cases p with
  |dead=>exact M
  |box cs fz lk=>obtain⟨_,_,_,_,f,_,x,_⟩:=this;cases f;rw[D]at x;cases x
  |row g c l ex fz lk=>
   rcases this with⟨_,_,_,_,f,_,x,_⟩|⟨f,_⟩|⟨_,f,_⟩
   ·cases f;rw[D]at x;cases x
   ·cases f
   ·cases f
  |mp kk g c l lk=>obtain⟨_,_,_,f,_,x,_⟩:=this;cases f;rw[D]at x;cases x
  |lp st pend nt t ps S L d=>obtain⟨_,_,_,_,_,f,_,x,_⟩:=this;cases f;rw[D]at x;cases x
  |df ds=>obtain⟨_,_,_,f,_,x,_⟩:=this;cases f;rw[D]at x;cases x
 refine⟨Y,rfl,rfl,⟨λi p hi=> ?_,λi i' p bb' q m1 m2 hi B l1 l2 J K=> ?_,λi a hi=> ?_,λq hq=> ?_,λq hq=>by
  show z.get q≠none;rw[E];split
  ·simp
  ·rcases hq with hq|hq
   ·exact r.ob _ hq
   ·exact absurd hq ‹_›⟩,⟨u,g2,λj y k=>by rw[o j y];exact k,λq hq Z=> ?_,λj p y W=> ?_,λq st pe nt t ps S L d hq=> ?_⟩⟩
 ·rw[AI G]at hi;by_cases s:i=id
  ·rw[if_pos s]at hi;cases hi;subst s;rw[C];exact hb Y rfl rfl (λq=>Iff.rfl) u
  ·rw[if_neg s]at hi;rw[o i s];by_cases N:p.live
   ·refine(r.blk _ _ hi).keep u λq m' hq U=>⟨?_,.inl U⟩;show z.get q=_;rw[E,if_neg];intro hh;subst hh;exact w hi N hq
   ·cases p with
    |dead=>
     intro q m' hq;obtain⟨k1,k2⟩:=r.blk _ _ hi q m' hq;refine⟨.inl k1,?_⟩;show z.get q=_;rw[E,if_neg (by intro hh;subst hh;rw[D]at k2;cases k2)];exact k2
    |_=>exact absurd trivial N
 ·rw[AI G]at hi B;by_cases f:i=id
  ·by_cases F:i'=id
   ·rw[f,F]
   ·rw[if_neg F]at B;subst f;rw[C]at J;cases J;exact(w B l2 (o _ F ▸ K)).elim
  ·rw[if_neg f]at hi;by_cases F:i'=id
   ·subst F;rw[C]at K;cases K;exact(w hi l1 (o _ f ▸ J)).elim
   ·rw[if_neg F]at B;rw[o _ f]at J;rw[o _ F]at K;exact r.inj _ _ _ _ _ _ _ hi B l1 l2 J K
 ·by_cases s:i=id
  ·rw[s];exact Z
  ·rw[o i s]at hi;exact r.dom _ _ hi
 ·show z.get q=none;have hq':X.h.nx<=q:=by rw[<- g2];exact hq
  rw[E,if_neg (by omega)];exact r.fresh _ hq'
 ·show z.get q=none;rw[E,if_neg hq];exact Z
 ·rw[AI G,if_neg]
  ·exact y
  ·intro hh;subst hh;rcases I with A|⟨b0,A,M⟩
   ·rw[A]at y;cases y
   ·rw[A]at y;cases y;cases p with
    |dead=>cases W
    |_=>exact absurd trivial M
 ·show z.get q=_;rw[E,if_neg (by intro hh;subst hh;rw[D]at hq;cases hq)];exact hq
end
end
section
variable[Pi.Gl]
open Pi (PV T Hp Blk DF UM PE)
section
variable{X:Cx}{h:H}{n:Nat}
theorem RH.alias(r:RH X h n){id:Nat}{b:BA}{a:At}(s:id<1048575)(E:id<n)(I:X.π id=none)(L:∀ pid m,a ≠ .blk pid m)(M:∀ Y:Cx,Up X Y->BR Y b (some a))(F:Nat) :
  ∃ Y:Cx,Y.π=Sv.DO X.π id (some a)/\Y.h=X.h/\RH Y (AG h id b) n/\St X h id F Y (AG h id b):=by
 let Y:Cx:={ π:=Sv.DO X.π id (some a),h:=X.h,O:=X.O }
 have f:∀ j,j≠id->Y.π j=X.π j:=λj g=>if_neg g;have o:Y.π id=some a:=if_pos rfl
 have u:Up X Y:=⟨λj a g=>by
  rw[f j (by intro hh;subst hh;rw[I]at g;cases g)];exact g,λq es ex fz x C=>⟨⟨fz,C⟩,x⟩⟩
 have w:∀ l,h.get id=some l -> ¬ l.live:=λl C N=>by
  have:=r.blk _ _ C;rw[I]at this;cases l<;>first|exact N|(simp[BR]at this)
 refine⟨Y,rfl,rfl,⟨λi l hi=> ?_,λi U l K q Z m2 hi p P S y z=> ?_,λi a hi=> ?_,r.fresh,r.ob⟩,⟨u,rfl,λj g k=>by rw[f j g];exact k,λq x E=>E,λj l g D=> ?_,λq st pe nt t ps J G d x=>x⟩⟩
 ·rw[AI s]at hi;by_cases c:i=id
  ·rw[if_pos c]at hi;cases hi;subst c;rw[o];exact M Y u
  ·rw[if_neg c]at hi;rw[f i c];exact(r.blk _ _ hi).keep u λq W x B=>⟨rfl,B⟩
 ·rw[AI s]at hi p
  have A:∀ {i:Nat} {q m:Nat},Y.π i=some (.blk q m)->i≠id:=λhh e=>by
   subst e;rw[o]at hh;exact L _ _ (Option.some.inj hh)
  rw[if_neg (A y)]at hi;rw[if_neg (A z)]at p;rw[f _ (A y)]at y;rw[f _ (A z)]at z;exact r.inj _ _ _ _ _ _ _ hi p P S y z
 ·by_cases c:i=id
  ·rw[c];exact E
  ·rw[f i c]at hi;exact r.dom _ _ hi
 ·rw[AI s,if_neg]
  ·exact g
  ·intro hh;subst hh;have:=w _ g;cases l<;>first|exact absurd trivial this|cases D
theorem RH.dead(r:RH X h n){j:Nat}{b:BA}(f:j<1048575)(A:h.get j=some b)(B:b.locked=false)(l:∀ pid m,X.π j≠some (.blk pid m))(o:Nat):RH X (AG h j .dead) n /\ ∀ i,St X h i o X (AG h j .dead):=by
 refine⟨⟨λi c hi=> ?_,λi E c z q F G hi g s u w x=> ?_,r.dom,r.fresh,r.ob⟩,λi=>⟨Up.refl X,rfl,λ_ _ h=>h,λ_ _ h=>h,λi c hi k=> ?_,λq K I nt t J y p d D=>D⟩⟩
 ·rw[AI f]at hi;by_cases a:i=j
  ·rw[if_pos a]at hi;cases hi;subst a;exact λpid m e=>absurd e (l _ _)
  ·rw[if_neg a]at hi;exact r.blk _ _ hi
 ·rw[AI f]at hi g
  have nd:∀ {i:Nat} {c:BA},(if i=j then some BA.dead else h.get i)=some c->c.live->h.get i=some c:=fun {i c} e C=>by
   by_cases a:i=j
   ·rw[if_pos a]at e;cases e;exact C.elim
   ·rw[if_neg a]at e;exact e
  exact r.inj _ _ _ _ _ _ _ (nd hi s) (nd g u) s u w x
 ·rw[AI f,if_neg]
  ·exact hi
  ·intro hh;subst hh;rw[A]at hi;cases hi;rw[B]at k;cases k
end
def DX(h:Hp)(Q d:Nat->Prop):(c:Ty)->c.den->List PV->Prop
 |.int k,n,ps=>ps=[.int k n]
 |.bool,b,ps=>ps=[.bool b]
 |.str,s,ps=>ps=[.str s]
 |.unit,_,ps=>ps=[]
 |.pair a b,x,ps=>∃ p q,ps=p++q/\DX h Q d a x.1 p/\DX h Q d b x.2 q
 |.sl g c,l,ps=>∃ p,ps=[p]/\((p=.nils/\l=[])\/(∃ f es,p=.lst f es/\L2 (EP g (DP c)) l es) \/
   ∃ pid off len es ex fz,p=.own pid off len/\Q pid/\h.get pid=some (.row es ex fz)/\off+len<=es.length/\Pi.Cd c.wd es=true/\L2 (EP g (DR h d c)) l ((es.drop off).take len))
theorem DX.same{h:Hp}{Q:Nat->Prop}:∀ {c:Ty} {x:c.den} {a:List PV},DX h Q Q c x a->DR h Q c x a
 |.int _,_,_,e=>e
 |.bool,_,_,e=>e
 |.str,_,_,e=>e
 |.unit,_,_,e=>e
 |.pair _ _,_,_,⟨p,q,e,b,d⟩=>⟨p,q,e,DX.same b,DX.same d⟩
 |.sl _ _,_,_,h=>h
theorem DR.pure{Q:Nat->Prop}:∀ {c:Ty} {x:c.den} {d:List PV},DR Di Q c x d->DP c x d
 |.int _,_,_,e=>e
 |.bool,_,_,e=>e
 |.str,_,_,e=>e
 |.unit,_,_,e=>e
 |.pair _ _,_,_,⟨p,q,e,a,b⟩=>⟨p,q,e,DR.pure a,DR.pure b⟩
 |.sl _ _,_,_,⟨p,e,h⟩=>⟨p,e,by
  rcases h with h|h|⟨pid,off,len,es,ex,fz,a,b,f,g,i⟩
  ·exact .inl h
  ·exact .inr h
  ·cases f⟩
theorem DX.pure{Q f:Nat->Prop}:∀ {c:Ty} {x:c.den} {d:List PV},DX Di Q f c x d->DP c x d
 |.int _,_,_,e=>e
 |.bool,_,_,e=>e
 |.str,_,_,e=>e
 |.unit,_,_,e=>e
 |.pair _ _,_,_,⟨p,q,e,a,b⟩=>⟨p,q,e,DX.pure a,DX.pure b⟩
 |.sl _ _,_,_,⟨p,e,h⟩=>⟨p,e,by
  rcases h with h|h|⟨pid,off,len,es,ex,fz,a,b,g,i,j⟩
  ·exact .inl h
  ·exact .inr h
  ·cases g⟩
theorem DR.leaf:∀ {hh:Hp} {Q:Nat->Prop} {c:Ty} {y:c.den} {d:List PV},DR hh Q c y d -> ∀ p∈d,(∀ cs,p ≠ .agg cs)/\(∀ cs,p ≠ .tup cs)/\p.cells=[p]
 |_,_,.int _,_,_,e,p,hp=>by subst e;simp at hp;subst hp;simp[PV.cells]
 |_,_,.bool,_,_,e,p,hp=>by subst e;simp at hp;subst hp;simp[PV.cells]
 |_,_,.str,_,_,e,p,hp=>by subst e;simp at hp;subst hp;simp[PV.cells]
 |_,_,.unit,_,_,e,p,hp=>by subst e;simp at hp
 |_,_,.pair _ _,_,_,⟨a,b,e,g,i⟩,p,hp=>by
  subst e;rcases List.mem_append.1 hp with hp|hp
  ·exact g.leaf p hp
  ·exact i.leaf p hp
 |_,_,.sl _ _,_,_,⟨a,e,h⟩,p,hp=>by
  subst e;simp at hp;subst hp;rcases h with⟨rfl,_⟩|⟨f,es,rfl,_⟩|⟨pid,off,len,es,ex,fz,rfl,_⟩<;>simp[PV.cells]
theorem EP.cells{g:Bool}{hh:Hp}{Q:Nat->Prop}{c:Ty}{y:c.den}{e:PV}(h:EP g (DR hh Q c) y e):DR hh Q c y e.cells:=by
 cases g with
 |true=>obtain⟨cs,rfl,h⟩:=h;exact h
 |false=>
  have h':DR hh Q c y [e]:=h;rw[(h'.leaf e (by simp)).2.2];exact h'
theorem DR.wd:∀ {hh:Hp} {Q:Nat->Prop} {c:Ty} {y:c.den} {d:List PV},DR hh Q c y d->d.length=c.wd
 |_,_,.int _,_,_,e=>by subst e;rfl
 |_,_,.bool,_,_,e=>by subst e;rfl
 |_,_,.str,_,_,e=>by subst e;rfl
 |_,_,.unit,_,_,e=>by subst e;rfl
 |_,_,.pair _ _,_,_,⟨a,b,e,f,g⟩=>by subst e;rw[List.length_append,f.wd,g.wd];rfl
 |_,_,.sl _ _,_,_,⟨a,e,h⟩=>by subst e;rfl
theorem EP.wd{g:Bool}{hh:Hp}{Q:Nat->Prop}{c:Ty}{y:c.den}{e:PV}(h:EP g (DR hh Q c) y e):e.cells.length=c.wd:=h.cells.wd
theorem Ax{g:Bool}{hh:Hp}{Q:Nat->Prop}{c:Ty}{l:List c.den}{es:List PV}{b:Nat}(hs:b=c.wd)(h:L2 (EP g (DR hh Q c)) l es):Pi.Cd b es=true:=by
 cases h with
 |nil=>rfl
 |cons a _=>simp only[Pi.Cd,a.wd];simp[hs]
theorem EP.agg_inv{α:Type}{D:α->List PV->Prop}{x:α}{e:PV}(h:EP true D x e):∃ cs,e=.agg cs/\D x cs:=h
section
variable{β:Type}{x:β}
theorem Kx{α:Type}{d:V->(α->Option β)->Option β}{X:Cx}{R:α->PV->Prop}(b:∀ {v:V} {p:PV} {K:α->Option β},VR X v p->d v K=some x -> ∃ y,K y=some x/\R y p) :
  ∀ {vs:List V} {c:List PV} {K:List α->Option β},VRL X vs c->Ok d vs K=some x -> ∃ a,K a=some x/\L2 R a c
 |[],_,K,h,e=>by rw[h.nil_inv];exact⟨[],e,.nil⟩
 |v::vs,_,K,h,e=>by
  obtain⟨p,k,rfl,f,g⟩:=h.cons_inv;obtain⟨y,e1,i⟩:=b f e;obtain⟨a,e2,j⟩:=Kx b g e1;exact⟨y::a,e2,.cons i j⟩
theorem J8{α:Type}{R:α->PV->Prop}{l:List α}{es:List PV}(h:L2 R l es)(off len:Nat):L2 R (D0 l off (BF off len)) ((es.drop off).take len):=by
 unfold D0 BF;rw[show off+len-off=len from by omega];exact(h.drop off).take len
theorem HV:∀ (a b:List V),FS (a++b)=FS a++FS b
 |[],b=>rfl
 |v::a,b=>by
  have c:=HV a b;cases v<;>simp[FS,c]
theorem O7{id:Nat}{v:V}(h:id∈FS [v]):id∈FS v.cells:=by
 cases v<;>first|exact h|(simp[FS]at h)
theorem C4:∀ {c:Ty} {X:Cx} {h:H} {Q:Nat->Prop} {vs:List V} {A:List PV} {K:c.den->List V->Option β},
  (∀ id b a,h.get id=some b->X.π id=some a->BR X b (some a))->(∀ id b pid m,id∈FS vs->h.get id=some b->X.π id=some (.blk pid m)->Q pid)->(∀ pid,X.Q pid->Q pid) ->
  VRL X vs A->Dr h c vs K=some x -> ∃ y r p q,K y r=some x/\A=p++q/\DX X.h Q X.Q c y p/\VRL X r q /\ ∃ s,vs=s++r
 |.int k,X,h,Q,vs,A,K,hb,hq,hQ,i,e=>by
  unfold Dr at e;split at e
  ·replace e:=AK e;obtain⟨hk,e⟩:=e;obtain⟨p,o,rfl,d,j⟩:=i.cons_inv;simp only[VR]at d;subst d;have:=eq_of_beq hk;subst this;exact⟨_,_,[_],o,e,rfl,rfl,j,[_],rfl⟩
  ·cases e
 |.bool,X,h,Q,vs,A,K,hb,hq,hQ,i,e=>by
  unfold Dr at e;split at e
  ·obtain⟨p,o,rfl,d,j⟩:=i.cons_inv;simp only[VR]at d;subst d;exact⟨_,_,[_],o,e,rfl,rfl,j,[_],rfl⟩
  ·cases e
 |.str,X,h,Q,vs,A,K,hb,hq,hQ,i,e=>by
  unfold Dr at e;split at e
  ·obtain⟨p,o,rfl,d,j⟩:=i.cons_inv;simp only[VR]at d;subst d;exact⟨_,_,[_],o,e,rfl,rfl,j,[_],rfl⟩
  ·cases e
 |.unit,X,h,Q,vs,A,K,hb,hq,hQ,i,e=>by
  unfold Dr at e;exact⟨(),vs,[],A,e,rfl,rfl,i,[],rfl⟩
 |.pair a b,X,h,Q,vs,A,K,hb,hq,hQ,i,e=>by
  unfold Dr at e;obtain⟨y,r,p,q,e1,rfl,F,D,s1,rfl⟩:=C4 hb hq hQ i e;obtain⟨z,r',S,q',e2,rfl,U,r2,s2,rfl⟩:=C4 hb (λid b pid m hi=>hq id b pid m (by rw[HV];exact List.mem_append_right _ hi)) hQ D e1;exact⟨(y,z),r',p++S,q',e2,by simp,⟨p,S,rfl,F,U⟩,r2,s1++s2,by simp⟩
 |.sl g c,X,h,Q,vs,A,K,hb,hq,hQ,i,e=>by
  unfold Dr at e;split at e
  ·obtain⟨p,o,rfl,d,j⟩:=i.cons_inv;simp only[VR]at d;subst d;exact⟨[],_,[_],o,e,rfl,⟨_,rfl,.inl ⟨rfl,rfl⟩⟩,j,[_],rfl⟩
  ·rename_i L J l r;replace e:=AK e;obtain⟨u,e⟩:=e;have:=eq_of_beq u;subst this;obtain⟨hc,e⟩:=A5 e;subst hc;obtain⟨p,o,rfl,d,j⟩:=i.cons_inv;refine⟨l,_,[p],o,e,rfl,⟨p,rfl,?_⟩,j,[_],rfl⟩;simp only[VR]at d;rcases d with d|⟨f,es,d,_,C⟩|⟨pid,off,len,es,ex,fz,d,_,C,Y,I,h8,Z⟩
   ·exact .inl d
   ·exact .inr (.inl ⟨f,es,d,C⟩)
   ·exact .inr (.inr ⟨pid,off,len,es,ex,fz,d,hQ _ C,Y,I,h8,Z⟩)
  ·rename_i L J l r;replace e:=AK e;obtain⟨u,e⟩:=e;have:=eq_of_beq u;subst this;obtain⟨hc,e⟩:=A5 e;subst hc;obtain⟨p,o,rfl,d,j⟩:=i.cons_inv;refine⟨l,_,[p],o,e,rfl,⟨p,rfl,?_⟩,j,[_],rfl⟩;simp only[VR]at d;rcases d with d|⟨f,es,d,C⟩
   ·exact .inl d
   ·exact .inr (.inl ⟨f,es,d,C⟩)
  ·rename_i f es r;obtain⟨p,o,rfl,d,j⟩:=i.cons_inv;simp only[VR]at d;obtain⟨W,A,rfl,_,C⟩:=d
   obtain⟨ys,e1,D⟩:=Kx (X:=Cx.pure) (R:=EP g (DP c)) (fun {v p K'} i e=>by
    rcases BU e with⟨u,e⟩|⟨u,e⟩
    ·subst u;split at e
     ·obtain⟨cs,rfl,N⟩:=i.agg_inv;obtain⟨y,r,p,q,e1,rfl,F,D,_⟩:=C4 (c:=c) (Q:=λ_=>True) (λ_ _ _ _ h=>(by cases h)) (λ_ _ _ _ _ _ h=>(by cases h)) (λ_ _=>trivial) N e;split at e1
      ·rw[D.nil_inv];exact⟨y,e1,_,rfl,by rw[aO];exact F.pure⟩
      ·cases e1
     ·cases e
    ·subst u;obtain⟨y,r,p,q,e1,I,F,D,_⟩:=C4 (c:=c) (Q:=λ_=>True) (λ_ _ _ _ h=>(by cases h)) (λ_ _ _ _ _ _ h=>(by cases h)) (λ_ _=>trivial) (VRL.cons i .nil) e;split at e1
     ·rw[D.nil_inv,aO]at I;subst I;exact⟨y,e1,F.pure⟩
     ·cases e1) C e
   exact⟨ys,_,[_],o,e1,rfl,⟨_,rfl,.inr (.inl ⟨W,A,rfl,D⟩)⟩,j,[_],rfl⟩
  ·rename_i id r;split at e
   ·rename_i L J l ex fz lk n;replace e:=AK e;obtain⟨u,e⟩:=e;have:=eq_of_beq u;subst this;obtain⟨hc,e⟩:=A5 e;subst hc;obtain⟨p,o,rfl,d,j⟩:=i.cons_inv;refine⟨l,_,[p],o,e,rfl,⟨p,rfl,?_⟩,j,[_],rfl⟩;simp only[VR]at d;cases t:X.π id with
    |none=>rw[t]at d;exact d.elim
    |some a=>
     rw[t]at d;rcases hb _ _ _ n t with⟨pid,len,es,B,w,G,O,k4,k5,k7,E⟩|⟨w,_,G⟩|⟨es,w,_,_,G⟩
     ·cases w;simp only at d;subst d;refine .inr (.inr ⟨pid,0,len,es,ex,B,rfl,hq _ _ _ _ (by simp[FS]) n t,O,by omega,Ax rfl E,?_⟩);rw[List.drop_zero,bR (by omega)];exact E
     ·cases w;simp only at d;exact .inl ⟨d,G⟩
     ·cases w;simp only at d;exact .inr (.inl ⟨true,es,d,G⟩)
   ·cases e
  ·rename_i id off len r;split at e
   ·rename_i L J l ex fz lk n;replace e:=AK e;obtain⟨u,e⟩:=e;have:=eq_of_beq u;subst this;obtain⟨M,e⟩:=AJ e;obtain⟨hc,e⟩:=A5 e;subst hc;obtain⟨p,o,rfl,d,j⟩:=i.cons_inv;refine⟨_,_,[p],o,e,rfl,⟨p,rfl,?_⟩,j,[_],rfl⟩;simp only[VR]at d;obtain⟨pid,m,t,rfl⟩:=d;rcases hb _ _ _ n t with⟨pid,P,es,B,w,G,O,k4,k5,k7,E⟩|⟨w,_⟩|⟨es,w,_⟩
    ·cases w;refine .inr (.inr ⟨_,off,len,es,ex,B,rfl,hq _ _ _ _ (by simp[FS]) n t,O,?_,Ax rfl E,?_⟩)
     ·rw[<- E.length];simpa[CF,BF,AS]using M
     ·exact J8 E off len
    ·cases w
    ·cases w
   ·cases e
  ·cases e
theorem GH{c:Ty}{X:Cx}{vs:List V}{a:List PV}{K:c.den->List V->Option β}(i:VRL X vs a)(e:Dr .lf c vs K=some x):∃ y r p q,K y r=some x/\a=p++q/\DR X.h X.Q c y p/\VRL X r q:=
 by
 obtain⟨y,r,p,q,b,d,f,g,_⟩:=C4 (Q:=X.Q) (λ_ _ _ h=>(by cases h)) (λ_ _ _ _ _ h=>(by cases h)) (λ_ h=>h) i e;exact⟨y,r,p,q,b,d,f.same,g⟩
theorem Eh{g:Bool}{c:Ty}{X:Cx}{v:V}{p:PV}{K:c.den->Option β}(j:VR X v p)(e:GI .lf g c v K=some x):∃ y,K y=some x/\EP g (DR X.h X.Q c) y p:=by
 unfold GI at e;rcases BU e with⟨b,e⟩|⟨b,e⟩
 ·subst b;split at e
  ·obtain⟨cs,rfl,d⟩:=j.agg_inv;obtain⟨y,r,p,q,e1,rfl,a,f⟩:=GH d e;split at e1
   ·rw[f.nil_inv];exact⟨y,e1,_,rfl,by rw[aO];exact a⟩
   ·cases e1
  ·cases e
 ·subst b;obtain⟨y,r,p,q,e1,i,a,f⟩:=GH (VRL.cons j .nil) e;split at e1
  ·rw[f.nil_inv,aO]at i;subst i;exact⟨y,e1,a⟩
  ·cases e1
theorem GJ{g:Bool}{c:Ty}{X:Cx}{h:H}{n:Nat}{Q:Nat->Prop}(r:RH X h n){v:V}{p:PV}{K:c.den->Option β}(t:∀ id pid m,id∈FS v.cells->X.π id=some (.blk pid m)->Q pid)(o:∀ pid,X.Q pid->Q pid)(u:VR X v p)(e:GI h g c v K=some x):∃ y,K y=some x/\EP g (DX X.h Q X.Q c) y p:=by
 unfold GI at e;have s:∀ id b a,h.get id=some b->X.π id=some a->BR X b (some a):=λid b a w z=>z ▸ r.blk _ _ w;rcases BU e with⟨f,e⟩|⟨f,e⟩
 ·subst f;split at e
  ·obtain⟨cs,rfl,j⟩:=u.agg_inv;obtain⟨y,r,p,q,e1,rfl,d,k,_⟩:=C4 (Q:=Q) s (λid b pid m hi _ i=>t id pid m hi i) o j e;split at e1
   ·rw[k.nil_inv];exact⟨y,e1,_,rfl,by rw[aO];exact d⟩
   ·cases e1
  ·cases e
 ·subst f;obtain⟨y,r,p,q,e1,l,d,k,_⟩:=C4 (Q:=Q) s (λid b pid m hi _ i=>t id pid m (O7 hi) i) o (VRL.cons u .nil) e;split at e1
  ·rw[k.nil_inv,aO]at l;subst l;exact⟨y,e1,d⟩
  ·cases e1
theorem I5{g:Bool}{c:Ty}{X:Cx}{h:H}{n:Nat}(r:RH X h n){v:V}{p:PV}{K:List c.den->Option β}(y:VR X v p)(e:Jk h g c v K=some x) :
  ∃ l es,K l=some x/\Pi.BW X.h p=some es/\L2 (EP g (DR X.h X.Q c)) l es:=by
 unfold Jk at e;have w:∀ id b a,h.get id=some b->X.π id=some a->BR X b (some a):=λid b a t u=>u ▸ r.blk _ _ t;obtain⟨l,C,A,q,e1,i,d,B,_⟩:=C4 (Q:=λ_=>True) w (λ_ _ _ _ _ _ _=>trivial) (λ_ _=>trivial) (VRL.cons y .nil) e;obtain⟨z,rfl,d⟩:=d
 have:p=z:=by
  cases q with
  |nil=>simpa using i
  |cons=>simp at i
 subst this;rcases d with⟨rfl,rfl⟩|⟨f,es,rfl,j⟩|⟨pid,off,len,es,ex,fz,rfl,_,m,o,_,s⟩
 ·exact⟨[],[],e1,rfl,.nil⟩
 ·exact⟨l,es,e1,rfl,j.mono λ_ _ k=>k.mono λ_ _ k=>k.up⟩
 ·refine⟨l,_,e1,?_,s⟩;unfold Pi.BW;simp only[m];have:af (off+len) es.length=true:=by simpa using o
  rw[this];rfl
end
end
section
variable[Pi.Gl]
open Pi (PV T Hp Blk DF UM PE AN AT)
section
variable{X:Cx}{h:H}{n:Nat}{β:Type}{x:β}{P:Program}
theorem DB:∀ {c:Ty} {y:c.den} {d:List PV},DR X.h X.Q c y d->VRL X (cells c y) d
 |.int _,_,_,e=>by subst e;exact .cons (by simp[VR]) .nil
 |.bool,_,_,e=>by subst e;exact .cons (by simp[VR]) .nil
 |.str,_,_,e=>by subst e;exact .cons (by simp[VR]) .nil
 |.unit,_,_,e=>by subst e;exact .nil
 |.pair _ _,_,_,⟨p,q,e,a,b⟩=>by subst e;exact(DB a).append (DB b)
 |.sl _ _,_,_,⟨p,e,h⟩=>by
  subst e;refine .cons ?_ .nil;simp only[VR];rcases h with h|⟨f,es,a,b⟩|⟨pid,off,len,es,ex,fz,a,b,g,i,k,j⟩
  ·exact .inl h
  ·exact .inr (.inl ⟨f,es,a,by simp,b⟩)
  ·exact .inr (.inr ⟨pid,off,len,es,ex,fz,a,by simp,b,g,i,k,j⟩)
theorem Fq{g:Bool}{c:Ty}{y:c.den}{e:PV}(h:EP g (DR X.h X.Q c) y e):VR X (Nr g c y) e:=by
 cases g with
 |true=>obtain⟨cs,rfl,h⟩:=h;simp only[Nr,cond_true,VR];exact⟨cs,rfl,DB h⟩
 |false=>
  have:=DB (X:=X) (show DR X.h X.Q c y [e]from h);unfold Nr;simp only[cond_false];have b:=this.length;split
  ·rename_i v j;rw[j]at this;obtain⟨p,k,f,i,_⟩:=this.cons_inv;cases f;exact i
  ·rename_i d;cases hc:cells c y with
   |nil=>rw[hc]at b;simp at b
   |cons a l=>cases l with
    |nil=>exact absurd hc (d _)
    |cons=>rw[hc]at b;simp at b
theorem E7:∀ {c:Ty} {y:c.den} {a:List PV},DP c y a->VRL X (Gs c y) a
 |.int _,_,_,e=>by subst e;exact .cons (by simp[VR]) .nil
 |.bool,_,_,e=>by subst e;exact .cons (by simp[VR]) .nil
 |.str,_,_,e=>by subst e;exact .cons (by simp[VR]) .nil
 |.unit,_,_,e=>by subst e;exact .nil
 |.pair _ _,_,_,⟨p,q,e,b,d⟩=>by subst e;exact(E7 b).append (E7 d)
 |.sl _ _,_,_,⟨p,e,h⟩=>by
  subst e;refine .cons ?_ .nil;simp only[VR];exact h
theorem DG{g:Bool}{c:Ty}{y:c.den}{e:PV}(h:EP g (DP c) y e):VR X (elP g c y) e:=by
 cases g with
 |true=>obtain⟨cs,rfl,h⟩:=h;simp only[elP,cond_true,VR];exact⟨cs,rfl,E7 h⟩
 |false=>
  have:=E7 (X:=X) (show DP c y [e]from h);unfold elP;simp only[cond_false];have b:=this.length;split
  ·rename_i v j;rw[j]at this;obtain⟨p,k,f,i,_⟩:=this.cons_inv;cases f;exact i
  ·rename_i d;cases hc:Gs c y with
   |nil=>rw[hc]at b;simp at b
   |cons a l=>cases l with
    |nil=>exact absurd hc (d _)
    |cons=>rw[hc]at b;simp at b
theorem RH.ptr(r:RH X h n){j off:Nat}{p:PV}{cs:List V}{fz l:Bool}(d:VR X (.ptr j off) p)(e:h.get j=some (.box cs fz l)) :
  ∃ pid m b a,X.π j=some (.blk pid m)/\p=.ptr pid off/\X.h.get pid=some (.box b a)/\(fz=false->a=false)/\VRL X cs b:=by
 simp only[VR]at d;obtain⟨pid,m,c,rfl⟩:=d;have:=r.blk _ _ e;rw[c]at this;obtain⟨_,_,b,a,f,o,g,i,k⟩:=this;cases f;exact⟨pid,m,b,a,c,rfl,g,i,k⟩
theorem RH.boxAt(r:RH X h n){j pid m:Nat}{cs:List V}{fz k:Bool}(c:X.π j=some (.blk pid m))(e:h.get j=some (.box cs fz k)) :
  ∃ b a,X.h.get pid=some (.box b a)/\(fz=false->a=false)/\VRL X cs b:=by
 have:=r.blk _ _ e;rw[c]at this;obtain⟨_,_,b,a,d,l,f,g,i⟩:=this;cases d;exact⟨b,a,f,g,i⟩
theorem RH.rowAt(r:RH X h n){j pid m:Nat}{g:Bool}{c:Ty}{l:List c.den}{ex fz q:Bool}(d:X.π j=some (.blk pid m))(e:h.get j=some (.row g c l ex fz q)) :
  ∃ es a,X.h.get pid=some (.row es ex a)/\(fz=false->a=false)/\es.length=m/\(ex=false->0<m)/\L2 (EP g (DR X.h X.Q c)) l es:=by
 have:=r.blk _ _ e;rw[d]at this;rcases this with⟨_,_,es,a,b,s,f,i,k,p,o⟩|⟨b,_⟩|⟨_,b,_⟩
 ·cases b;exact⟨es,a,f,i,k,p,o⟩
 ·cases b
 ·cases b
theorem II{c:IntKind}:∀ {m:Nat} {vs:List V} {a:List PV} {l:List Int},VRL X vs a->HW c m vs=some l->l.length=m/\a.take m=l.map (PV.int c)/\m<=a.length
 |0,_,_,_,_,e=>by cases e;simp
 |m+1,[],_,_,_,e=>by simp[HW]at e
 |m+1,v::vs,a,l,hv,e=>by
  unfold HW at e;split at e
  ·rename_i h;cases h
  ·rename_i s k x q f g;cases f;cases g;cases b:(k == c)with
   |false=>rw[b]at e;cases e
   |true=>
    rw[b]at e;have:=eq_of_beq b;subst this;obtain⟨l',j,rfl⟩:=Option.map_eq_some_iff.1 e;obtain⟨p,t,rfl,d,i⟩:=hv.cons_inv;simp only[VR]at d;subst d;obtain⟨n,o,r⟩:=II i j;exact⟨by simp[n],by simp[o],by simp;omega⟩
  ·cases e
theorem PL(r:RH X h n){ty:TypeId}{a:V}{p:PV}{K:V->Option β}(f:VR X a p)(e:PK P h ty a K=some x):∃ v q,K v=some x/\Pi.CB P X.h ty p=some (.val q X.h)/\VR X v q:=by
 unfold PK at e;split at e
 ·replace e:=AD e;obtain⟨v,e1,e⟩:=e;simp only[VR]at f;obtain⟨t,rfl,d⟩:=f;obtain⟨q,e2,o⟩:=Bd (d.mono (Up.pure X)) e1;exact⟨v,q,e,A9 e2,o⟩
 ·split at e
  ·rename_i cs fz J z;obtain⟨pid,m,t,u,d,rfl,s,B,w⟩:=r.ptr f z;replace e:=AD e;obtain⟨v,e1,e⟩:=e;obtain⟨q,e2,o⟩:=Bd (w.drop _) e1;exact⟨v,q,e,by unfold Pi.CB;simp only[s];exact A9 e2,o⟩
  ·cases e
 ·replace e:=AD e;obtain⟨v,e1,e⟩:=e;simp only[VR]at f;rcases f with⟨t,rfl,d⟩|⟨pid,i,off,es,ex,fz,L,rfl,d,C,s,B⟩
  ·obtain⟨q,e2,o⟩:=Bd (d.mono (Up.pure X)) e1;exact⟨v,q,e,A9 e2,o⟩
  ·obtain⟨q,e2,o⟩:=Bd B e1;refine⟨v,q,e,?_,o⟩;unfold Pi.CB;simp only[C,AN,s];exact A9 e2
 ·rename_i j i off;split at e
  ·rename_i g c l ex fz J z;replace e:=GT e;obtain⟨y,U,e⟩:=e;replace e:=AD e;obtain⟨v,e1,e⟩:=e;simp only[VR]at f;obtain⟨pid,m,d,rfl⟩:=f;obtain⟨es,u,C,s,B,Y,w⟩:=r.rowAt d z;obtain⟨L,D,N⟩:=w.get U;obtain⟨q,e2,o⟩:=Bd ((Fq N).cells.drop off) e1;refine⟨v,q,e,?_,o⟩;unfold Pi.CB;simp only[C,AN,D];exact A9 e2
  ·cases e
 ·rename_i j off k m;split at e
  ·rename_i cs fz J z;split at e
   ·rename_i G sz O A F;replace e:=AD e;obtain⟨l,S,e⟩:=e;simp only[VR]at f;obtain⟨pid,mm,d,rfl,E⟩:=f;obtain⟨t,u,s,B,w⟩:=r.boxAt d z;obtain⟨Z,W,i3⟩:=II (w.drop off) S;refine⟨_,.int G (Oc l k),e,?_,by simp[VR]⟩;unfold Pi.CB;simp only[s];refine A9 ?_;unfold Pi.part;simp only[A,F]
    have b:(t.drop (off+k))[0]?=some (.int G (Oc l k)):=by
     rw[aK,Nat.add_zero]
     have M:(t.drop off)[k]?=some (.int G (Oc l k)):=by
      rw[<- cu E,W,List.getElem?_map];have:l[k]?=some l[k]:=ad (by omega);unfold Oc;rw[this];rfl
     rwa [aK]at M
    cases I:t.drop (off+k)with
    |nil=>rw[I]at b;cases b
    |cons c cs=>rw[I]at b;cases b;rfl
   ·cases e
  ·cases e
 ·cases e
theorem BM(h:Hp)(i:Nat)(b:Blk):∃ h',h.set i b=some h':=⟨{ h with m:=T.put (i+1) h.m i b },by
 unfold Pi.Hp.set;rw[show ah i (i+1)=true from by simp];rfl⟩
theorem F1(h:Hp)(i:Nat)(b:Blk)(e:h.get i=none):∃ h',h.new i b=some h':=by
 unfold Pi.Hp.new Pi.Hp.get at *;rw[e];exact BM h i b
theorem Mm{hs:Hp}{pid i:Nat}{es:List PV}{ex:Bool}{a b:PV}{d:List PV}(A:List PV->Option Pi.R):(∀ cs,a ≠ .agg cs)->a.cells=[a]->d=[b]->(∀ cs,b ≠ .agg cs)->(∀ cs,b ≠ .tup cs) ->
  (match a with
   |.agg cs=>A cs
   |_=>(match d with
    |[c]=>bif aa 0 0&&aa a.cells.length 1 then(match c with
     |.agg _=>none
     |.tup _=>none
     |c=>(hs.set pid (.row (Pi.lset es i c) ex false)).map Pi.R.skip)else none
    |_=>none))=(hs.set pid (.row (Pi.lset es i b) ex false)).map .skip:=by
 intro e f g h j;subst g;have k:(aa 0 0&&aa a.cells.length 1)=true:=by rw[f];rfl
 cases a<;>first
  |exact absurd rfl (e _)
  |(simp only[k,cond_true]<;>cases b<;>first|rfl|exact absurd rfl (h _)|exact absurd rfl (j _))
def FQ(X:Cx)(h:H)(n id idP:Nat)(h':H)(a:Hp)(Y:Cx):Prop:=Y.h=a/\RH Y h' n/\St X h id idP Y h'
def Lj(a:IntKind)(k:Nat)(x:Int):Nat->List Int->List PV
 |_,[]=>[]
 |i,y::l=>.int a (if k=i then x else y)::Lj a k x (i+1) l
theorem NZ{a:IntKind}{k:Nat}{x:Int}:∀ (l:List Int) (i:Nat),VRL X (Mg a k x i l) (Lj a k x i l)
 |[],_=>by simp[Mg,Lj,VRL]
 |y::l,i=>by
  unfold Mg Lj;refine .cons ?_ (NZ l (i+1));simp only[VR];unfold TL neq;by_cases h:k=i
  ·rw[if_pos h,show aa k i=true by simpa using h];rfl
  ·rw[if_neg h,show aa k i=false by
    cases b:aa k i with
    |false=>rfl
    |true=>exact absurd (Nat.eq_of_beq_eq_true b) h];rfl
theorem Lk{a:IntKind}{k:Nat}{x:Int}:∀ (l:List Int) (i:Nat),Lj a k x i l=if i<=k then(l.map (PV.int a)).set (k-i) (.int a x)else l.map (PV.int a)
 |[],i=>by simp[Lj]
 |y::l,i=>by
  unfold Lj;rw[Lk l (i+1)];by_cases h:k=i
  ·subst h;rw[if_pos rfl,if_neg (by omega),if_pos (ac _),Nat.sub_self];rfl
  ·rw[if_neg h];by_cases b:i<=k
   ·rw[if_pos (by omega),if_pos b,show k-i=(k-(i+1))+1 by omega];rfl
   ·rw[if_neg (by omega),if_neg b];rfl
theorem PN{b:IntKind}{a:List PV}{l:List Int}{off k m:Nat}{x:Int}(n:(a.drop off).take m=l.map (PV.int b))(o:l.length=m)(p:m<=(a.drop off).length)(q:k<m) :
  Pi.BT a off (Lj b k x 0 l)=Pi.BT a (off+k) [.int b x]:=by
 rw[Lk,if_pos (Nat.zero_le _),Nat.sub_zero];obtain⟨A,d⟩:∃ A,A=a.take off:=⟨_,rfl⟩;obtain⟨R,h⟩:∃ R,R=(a.drop off).drop m:=⟨_,rfl⟩;obtain⟨L,f⟩:∃ L,L=l.map (PV.int b):=⟨_,rfl⟩;have i:off<=a.length:=by rw[bN]at p;omega
 have c:a=A++(L++R):=by rw[d,f,h,<- n,cD,cD]
 have e:A.length=off:=by rw[d];simp;omega
 have g:L.length=m:=by rw[f];simp[o]
 rw[<- f];unfold Pi.BT;have e1:a.take off=A:=d.symm;have e2:a.drop (off+(L.set k (.int b x)).length)=R:=by rw[List.length_set,g,<- bL,<- h]
 have e3:a.take (off+k)=A++L.take k:=by
  rw[c,List.take_append,bR (by omega),e,cA,List.take_append_of_le_length (by omega)]
 have j:a.drop (off+k+[PV.int b x].length)=L.drop (k+1)++R:=by
  rw[c,show off+k+[PV.int b x].length=A.length+(k+1) by simp;omega,List.drop_append,List.drop_eq_nil_of_le (by omega),cA,List.drop_append_of_le_length (by omega)];rfl
 rw[e1,e2,e3,j,List.set_eq_take_append_cons_drop,if_pos (by omega)];simp
theorem JX(r:RH X h n)(hn:n<=1048575){ty:TypeId}{a w:V}{p q:PV}{K:H->Option β}(W:VR X a p)(hw:VR X w q)(id idP:Nat)(e:Ke P h ty a w K=some x) :
  ∃ h' d Y,K h'=some x/\Pi.BE P X.h ty p q=some (.skip d)/\FQ X h n id idP h' d Y:=by
 unfold Ke at e;replace e:=AD e;obtain⟨sz,J,e⟩:=e;replace e:=BC e;obtain⟨hc,e⟩:=e;have L:=hw.cells;rw[L.length]at hc;have N8:∀ {j pid m:Nat},X.π j=some (.blk pid m)->j<1048575:=λhp=>by have:=r.dom _ _ hp;omega
 split at e
 ·rename_i j off;split at e
  ·rename_i cs s;replace e:=AK e;obtain⟨z,e⟩:=e;obtain⟨pid,m,N,S,f,rfl,F,U,D⟩:=r.ptr W s;have:=U rfl;subst this;have b:∃ d,X.h.set pid (.box (Pi.BT N off q.cells) false)=some d:=BM _ _ _;obtain⟨d,b⟩:=b
   obtain⟨Y,y1,A,E,y4,y5⟩:=r.set (b':=.box (GS cs off w.cells) false false) (N8 f) s trivial rfl f F (by intros;simp) b
    (λY y1 A E u=>by
     rw[f]
     refine⟨pid,m,_,false,rfl,by rw[E];exact(f ▸ r.blk _ _ s).own trivial,by rw[A,(Hp.get_set b).1,if_pos rfl],λ_=>rfl,(D.fput L off).mono u⟩) idP
   refine⟨_,d,Y,e,?_,A,y4,y5 id⟩;unfold Pi.BE;simp only[J,hc,cond_false,F];rw[<- D.length,z];simp only[cond_true,b];rfl
  ·cases e
 ·rename_i j i off;split at e
  ·rename_i g c l ex s;replace e:=GT e;obtain⟨y,hy,e⟩:=e;replace e:=AK e;obtain⟨z,e⟩:=e;simp only[VR]at W;obtain⟨pid,m,f,rfl⟩:=W;obtain⟨es,S,h2,F,U,h9,D⟩:=r.rowAt f s;have:=F rfl;subst this;obtain⟨M,hel,hE⟩:=D.get hy;have I:=DB (X:=X) hE.cells;have hf:=I.fput L off;obtain⟨y',r',p',q',e1,h6,d1,r1⟩:=GH hf e;split at e1
   ·rw[r1.nil_inv,aO]at h6;subst h6
    have key:∃ B,EP g (DR X.h X.Q c) y' B/\(match M with
      |.agg cs=>(X.h.set pid (.row (Pi.lset es i (.agg (Pi.BT cs off q.cells))) ex false)).map Pi.R.skip
      |_=>(match q.cells with
       |[c]=>bif aa off 0&&aa M.cells.length 1 then(match c with
        |.agg _=>none
        |.tup _=>none
        |c=>(X.h.set pid (.row (Pi.lset es i c) ex false)).map .skip)else none
       |_=>none))=(X.h.set pid (.row (Pi.lset es i B) ex false)).map .skip:=by
     cases g with
     |true=>
      obtain⟨cs,rfl,_⟩:=hE;exact⟨.agg (Pi.BT cs off q.cells),⟨_,rfl,d1⟩,rfl⟩
     |false=>
      have G:DR X.h X.Q c y [M]:=hE;have o:=G.leaf M (by simp);have hlen:(cells c y).length=1:=by rw[I.length,o.2.2];rfl
      simp only[am,az,bW,bJ]at hc;rw[hlen]at z;have hle':off+sz<=1:=by simpa using z
      have hoff:off=0:=by omega
      have hsz1:sz=1:=by omega
      subst hoff;have C:q.cells.length=1:=by omega
      obtain⟨O,Z⟩:∃ O,q.cells=[O]:=by
       cases hqq:q.cells with
       |nil=>rw[hqq]at C;simp at C
       |cons a t=>cases t with
        |nil=>exact⟨a,rfl⟩
        |cons=>rw[hqq]at C;simp at C
      have AG:Pi.BT M.cells 0 q.cells=[O]:=by rw[o.2.2,Z];rfl
      rw[AG]at d1;have hl1:=d1.leaf O (by simp);refine⟨O,d1,?_⟩;exact Mm _ o.1 o.2.2 Z hl1.1 hl1.2.1
    obtain⟨B,G,hk⟩:=key;have b:∃ d,X.h.set pid (.row (Pi.lset es i B) ex false)=some d:=BM _ _ _;obtain⟨d,b⟩:=b
    obtain⟨Y,y1,A,E,y4,y5⟩:=r.set (b':=.row g c (lset l i y') ex false false) (N8 f) s trivial rfl f h2 (by intros;simp) b
     (λY y1 A E u=>by
      rw[f];refine .inl ⟨pid,m,_,false,rfl,by rw[E];exact(f ▸ r.blk _ _ s).own trivial,by rw[A,(Hp.get_set b).1,if_pos rfl],λ_=>rfl,by rw[AT];simpa using U,h9,?_⟩;rw[AT]
      exact EDR.mono u (D.set i G)) idP
    refine⟨_,d,Y,e1,?_,A,y4,y5 id⟩;unfold Pi.BE;have hle2:af (off+sz) M.cells.length=true:=by rw[<- I.length];exact z
    simp only[J,hc,cond_false,h2,AN,hel,hle2,cond_true];rw[b]at hk;exact hk
   ·cases e1
  ·cases e
 ·rename_i j off k m;split at e
  ·rename_i cs s;split at e
   ·rename_i k1 x k0 hk0;replace e:=AK e;obtain⟨hkk,e⟩:=e;have:=eq_of_beq hkk;subst this;replace e:=AD e;obtain⟨l,hl,e⟩:=e;simp only[VR]at W hw;subst hw;obtain⟨pid,mm,f,rfl,hlt⟩:=W;obtain⟨N,S,F,U,D⟩:=r.boxAt f s;have:=U rfl;subst this;obtain⟨i1,i2,i3⟩:=II (D.drop off) hl;have AG:=PN (x:=x) i2 i1 i3 hlt
    have hv:VRL X (GS cs off (Mg k1 k x 0 l)) (Pi.BT N (off+k) [.int k1 x]):=by
     rw[<- AG];exact D.fput (NZ l 0) off
    obtain⟨d,b⟩:=BM X.h pid (.box (Pi.BT N (off+k) [.int k1 x]) false)
    obtain⟨Y,y1,A,E,y4,y5⟩:=r.set (b':=.box (GS cs off (Mg k1 k x 0 l)) false false) (N8 f) s trivial rfl f F (by intros;simp) b
     (λY y1 A E u=>by
      rw[f]
      refine⟨pid,mm,_,false,rfl,by rw[E];exact(f ▸ r.blk _ _ s).own trivial,by rw[A,(Hp.get_set b).1,if_pos rfl],λ_=>rfl,hv.mono u⟩) idP
    refine⟨_,d,Y,e,?_,A,y4,y5 id⟩
    have hs1:sz=1:=by
     simp only[am,az,bW,bJ]at hc;exact hc.2.symm
    subst hs1;unfold Pi.BE;simp only[J,hc,cond_false,F]
    have hb:af (off+k+1) N.length=true:=by
     rw[bN]at i3;simp;omega
    rw[hb];show(X.h.set pid (.box (Pi.BT N (off+k) [.int k1 x]) false)).map Pi.R.skip=_;rw[b];rfl
   ·cases e
  ·cases e
 ·cases e
end
end
section
variable[Pi.Gl]
open Pi (PV T Hp Blk DF UM PE AN AT)
section
variable{X:Cx}{h:H}{n:Nat}{β:Type}{x:β}{P:Program}
theorem EP.upP{g:Bool}{hh:Hp}{Q:Nat->Prop}{c:Ty}{y:c.den}{e:PV}(h:EP g (DP c) y e):EP g (DR hh Q c) y e:=h.mono λ_ _ k=>k.up
theorem Gf{k:Nat}:∀ {m i:Nat} {K:Nat->Option β},IU k m i K=some x->K k=some x/\i<=k/\k<i+m
 |0,_,_,e=>by cases e
 |1,i,K,e=>by
  unfold IU at e;obtain⟨b,a⟩:=AJ e;have:k=i:=by simpa[neq]using b
  subst this;exact⟨a,ac _,by omega⟩
 |m+2,i,K,e=>by
  unfold IU at e;rcases BN e with⟨b,a⟩|⟨b,a⟩
  ·have:k=i:=by simpa[neq]using b
   subst this;exact⟨a,ac _,by omega⟩
  ·obtain⟨c,d,f⟩:=Gf a;exact⟨c,by omega,by omega⟩
theorem If{s:TypeId}{a:V}{p:PV}{f:Nat}{K:V->Option β}(c:VR X a p)(e:Fs P s a f K=some x):∃ v q,K v=some x/\Pi.Av P X.h s p f=some (.val q X.h)/\VR X v q:=by
 unfold Fs at e;unfold Pi.Av;split at e
 ·rename_i u o;split at e
  ·rename_i t n;split at e
   ·rename_i w d;replace e:=BC e;obtain⟨hc,e⟩:=e;simp only[o,n,d,hc,cond_false];split at e
    ·simp only[VR]at c;obtain⟨pid,m,b,rfl⟩:=c;exact⟨_,_,e,rfl,by simp only[VR];exact⟨pid,m,b,rfl⟩⟩
    ·simp only[VR]at c;obtain⟨pid,m,b,rfl⟩:=c;exact⟨_,_,e,rfl,by simp only[VR];exact⟨pid,m,b,rfl⟩⟩
    ·simp only[VR]at c;rcases c with⟨r,rfl,b⟩|⟨pid,i,off,es,ex,fz,g,rfl,b,j,k,l⟩
     ·exact⟨_,_,e,rfl,by simp only[VR];exact .inl ⟨_,rfl,b.drop _⟩⟩
     ·refine⟨_,_,e,rfl,?_⟩;simp only[VR];exact .inr ⟨pid,i,_,es,ex,fz,g,rfl,b,j,k,by rw[<- bL];exact l.drop _⟩
    ·simp only[VR]at c;obtain⟨r,rfl,b⟩:=c;exact⟨_,_,e,rfl,by simp only[VR];exact⟨_,rfl,b.drop _⟩⟩
    ·cases e
   ·cases e
  ·cases e
 ·cases e
theorem Ni{h:H}{n len:Nat}{a:V}{j off:Nat}(e:RO h n len a=some (j,off)):a=.ptr j off/\n=1:=by
 unfold RO at e;split at e
 ·split at e
  ·split at e
   ·cases b:(aa n 1&&(HW _ len _).isSome)with
    |false=>rw[b]at e;cases e
    |true=>
     rw[b]at e;cases e;simp only[Bool.and_eq_true,bJ]at b;exact⟨rfl,b.1⟩
   ·cases e
  ·cases e
 ·cases e
theorem Ih(r:RH X h n){ty:TypeId}{a i:V}{p q:PV}{K:V->Option β}(l:VR X a p)(hi:VR X i q)(e:Fw P h ty a i K=some x):∃ v w,K v=some x/\Pi.Aq P X.h ty p q=some (.val w X.h)/\VR X v w:=by
 unfold Fw at e;split at e
 ·rename_i et S;replace e:=AD e;obtain⟨sz,F,e⟩:=e;replace e:=C5 hi e;obtain⟨k,e,O⟩:=e;unfold Pi.Aq;simp only[S,O,F];split at e
  ·rename_i f g c es;replace e:=GT e;obtain⟨y,E,e⟩:=e;replace e:=AK e;obtain⟨D,e⟩:=e;simp only[VR]at l;rcases l with⟨rfl,rfl⟩|⟨Y,G,rfl,_,o⟩|⟨pid,off,len,G,ex,fz,rfl,_,o,h2,I,_,M⟩
   ·simp at E
   ·obtain⟨C,b,A⟩:=o.get E;have hc:=(Fq (X:=Cx.pure) A.upP).cells;refine⟨_,.view C.cells,e,?_,by simp only[VR];exact .inl ⟨_,rfl,hc⟩⟩;simp only[AN,b];rw[<- hc.length,D];rfl
   ·obtain⟨C,b,A⟩:=M.get E;have hc:=(Fq A).cells
    have J:k<len:=by
     have:=(List.getElem?_eq_some_iff.1 b).1;simp at this;omega
    have u:G[off+k]?=some C:=by
     rw[cu J,aK]at b;exact b
    refine⟨_,.ept pid (off+k) 0,e,?_,by simp only[VR];exact .inr ⟨pid,off+k,0,G,ex,fz,C,rfl,o,h2,u,by simpa using hc⟩⟩;have B:ah k len=true:=by simpa using J
    simp only[B,cond_true,h2,AN,u];rw[<- hc.length,D];rfl
  ·rename_i g c es;replace e:=GT e;obtain⟨y,E,e⟩:=e;replace e:=AK e;obtain⟨D,e⟩:=e;simp only[VR]at l;rcases l with⟨rfl,rfl⟩|⟨Y,G,rfl,o⟩
   ·simp at E
   ·obtain⟨C,b,A⟩:=o.get E;have hc:=(DG (X:=Cx.pure) A).cells;refine⟨_,.view C.cells,e,?_,by simp only[VR];exact⟨_,rfl,hc⟩⟩;simp only[AN,b];rw[<- hc.length,D];rfl
  ·rename_i f es;replace e:=Gf e;obtain⟨e,_,_⟩:=e;replace e:=AD e;obtain⟨C,b,e⟩:=e;replace e:=AK e;obtain⟨D,e⟩:=e;simp only[VR]at l;obtain⟨Y,G,rfl,_,o⟩:=l;obtain⟨elP,u,A⟩:=o.lget b;refine⟨_,.view elP.cells,e,?_,by simp only[VR];exact .inl ⟨_,rfl,A.cells⟩⟩;simp only[u];rw[<- A.cells.length,D];rfl
  ·rename_i j;split at e
   ·rename_i g c es ex lk W;replace e:=AJ e;obtain⟨s,e⟩:=e;replace e:=AK e;obtain⟨D,e⟩:=e;have d:k<es.length:=by simpa[KI,AS]using s
    simp only[VR]at l;have B:=r.blk _ _ W;cases z:X.π j with
    |none=>rw[z]at l;exact l.elim
    |some t=>
     rw[z]at l B;rcases B with⟨pid,len,G,U,o,h2,I,M,Z,h7,N⟩|⟨o,_,h2⟩|⟨_,o,_,h2,_⟩
     ·cases o;simp only at l;subst l;obtain⟨y,E⟩:∃ y,es[k]?=some y:=⟨es[k],ad d⟩;obtain⟨C,b,A⟩:=N.get E;refine⟨_,.ept pid (0+k) 0,e,?_,by simp only[VR];exact⟨pid,len,z,by simp⟩⟩;have B:ah k len=true:=by rw[<- Z,<- N.length];simpa using d
      simp only[B,cond_true,I,AN,Nat.zero_add,b];rw[A.wd,D];rfl
     ·subst h2;simp at d
     ·rcases h2 with h2|h2
      ·cases h2
      ·subst h2;simp at d
   ·cases e
  ·rename_i j off len;replace e:=AJ e;obtain⟨s,e⟩:=e;split at e
   ·rename_i g c es ex fz lk W;replace e:=AJ e;obtain⟨L,e⟩:=e;replace e:=AK e;obtain⟨D,e⟩:=e;simp only[VR]at l;obtain⟨pid,m,z,rfl⟩:=l;obtain⟨G,U,I,_,Z,_,N⟩:=r.rowAt z W;have d:off+k<es.length:=by simpa[KI,AS,BF]using L
    obtain⟨y,E⟩:∃ y,es[off+k]?=some y:=⟨es[off+k],ad d⟩;obtain⟨C,b,A⟩:=N.get E;refine⟨_,.ept pid (off+k) 0,e,?_,by simp only[VR];exact⟨pid,m,z,rfl⟩⟩;have B:ah k len=true:=s;simp only[B,cond_true,I,AN,b];rw[A.wd,D];rfl
   ·cases e
  ·cases e
 ·rename_i len et S;replace e:=AD e;obtain⟨sz,F,e⟩:=e;replace e:=C5 hi e;obtain⟨k,e,O⟩:=e;unfold Pi.Aq;split at e
  ·rename_i j off hj;replace e:=AJ e;obtain⟨s,e⟩:=e;obtain⟨rfl,rfl⟩:=Ni hj;have B:ah k len=true:=s;have d:k<len:=by simpa[KI]using s
   simp only[S,O,F,B,cond_true];simp only[VR]at l;obtain⟨pid,m,o,rfl⟩:=l;exact⟨_,_,e,rfl,by simp only[VR];exact⟨pid,m,o,by rw[Nat.mul_one],d⟩⟩
  replace e:=Gf e;obtain⟨e,_,s⟩:=e;have B:ah k len=true:=by simpa using s
  simp only[S,O,F,B,cond_true];split at e
  ·simp only[VR]at l;obtain⟨pid,m,o,rfl⟩:=l;exact⟨_,_,e,rfl,by simp only[VR];exact⟨pid,m,o,rfl⟩⟩
  ·simp only[VR]at l;obtain⟨pid,m,o,rfl⟩:=l;exact⟨_,_,e,rfl,by simp only[VR];exact⟨pid,m,o,rfl⟩⟩
  ·simp only[VR]at l;rcases l with⟨G,rfl,o⟩|⟨pid,i,off,es,ex,fz,C,rfl,o,h2,I,M⟩
   ·exact⟨_,_,e,rfl,by simp only[VR];exact .inl ⟨_,rfl,o.drop _⟩⟩
   ·refine⟨_,_,e,rfl,?_⟩;simp only[VR];exact .inr ⟨pid,i,_,es,ex,fz,C,rfl,o,h2,I,by rw[<- bL];exact M.drop _⟩
  ·simp only[VR]at l;obtain⟨G,rfl,o⟩:=l;exact⟨_,_,e,rfl,by simp only[VR];exact⟨_,rfl,o.drop _⟩⟩
  ·cases e
 ·cases e
theorem N9{ty:TypeId}{a i:V}{p q:PV}{K:V->Option β}(c:VR X a p)(hi:VR X i q)(e:MO P ty a i K=some x):∃ v w,K v=some x/\Pi.Bw P X.h ty p q=some (.val w X.h)/\VR X v w:=by
 unfold MO at e;split at e
 ·rename_i len t cs n;replace e:=AD e;obtain⟨y,m,e⟩:=e;replace e:=C5 hi e;obtain⟨k,e,g⟩:=e;replace e:=Gf e;obtain⟨e,_,j⟩:=e;replace e:=AD e;obtain⟨v,s,e⟩:=e;obtain⟨u,rfl,d⟩:=c.agg_inv;obtain⟨w,o,r⟩:=Bd (d.drop _) s;refine⟨v,w,e,?_,r⟩;unfold Pi.Bw;have f:ah k len=true:=by simpa using j
  simp only[n,g,f,cond_true,m];exact A9 o
 ·rename_i l n;replace e:=C5 hi e;obtain⟨k,e,g⟩:=e;replace e:=GT e;obtain⟨b,f,e⟩:=e;simp only[VR]at c;subst c;refine⟨_,_,e,?_,by simp only[VR];rfl⟩;unfold Pi.Bw;simp only[n,g,AN,f];rfl
 ·cases e
theorem PI(r:RH X h n){ty:TypeId}{a:V}{p:PV}{K:Int->Option β}{q:Array TypeId}(F:q[0]?=some ty)(b:VR X a p)(e:PH P h ty a K=some x)(id:Nat):∃ m,K m=some x/\Pi.AH P X.h id .len q [p]=some (.val (.int .i64 m) X.h):=by
 unfold PH at e;unfold Pi.AH;simp only[F];split at e
 ·rename_i d;split at e
  ·rename_i k g c l G A;simp only[VR]at b;obtain⟨pid,m,i,rfl⟩:=b;have s:=r.blk _ _ A;rw[i]at s;obtain⟨_,_,es,o,B,y,z⟩:=s;cases o;refine⟨_,e,?_⟩;simp only[d,y,Kh,AS,z.length]
  ·cases e
 ·rename_i d;simp only[VR]at b;subst b;exact⟨_,e,by simp only[d]⟩
 ·rename_i d;exact⟨_,e,by simp only[d]⟩
 ·rename_i d;simp only[VR]at b;subst b;exact⟨_,e,by simp only[d]⟩
 ·rename_i f g c l d;simp only[VR]at b;refine⟨_,e,?_⟩;rcases b with⟨rfl,rfl⟩|⟨C,w,rfl,_,i⟩|⟨pid,off,len,w,ex,fz,rfl,_,i,o,B,_,y⟩
  ·simp only[d];rfl
  ·simp only[d,Kh,AS,i.length]
  ·simp only[d,Kh,AS,y.length];have:((w.drop off).take len).length=len:=by simp;omega
   rw[this]
 ·rename_i f es d;simp only[VR]at b;obtain⟨C,w,rfl,_,i⟩:=b;exact⟨_,e,by simp only[d,i.length]⟩
 ·rename_i j d;split at e
  ·rename_i g c l ex fz G A;simp only[VR]at b;have s:=r.blk _ _ A;cases u:X.π j with
   |none=>rw[u]at b;exact b.elim
   |some t=>
    rw[u]at b s;refine⟨_,e,?_⟩;rcases s with⟨pid,len,w,D,i,o,B,y,z,I,E⟩|⟨i,_,o⟩|⟨w,i,_,_,o⟩
    ·cases i;simp only at b;subst b;simp only[d,Kh,AS,E.length,z]
    ·cases i;simp only at b;subst b;subst o;simp only[d];rfl
    ·cases i;simp only at b;subst b;simp only[d,Kh,AS,o.length]
  ·cases e
 ·rename_i d;simp only[VR]at b;obtain⟨pid,m,i,rfl⟩:=b;exact⟨_,e,by simp only[d];rfl⟩
 ·rename_i l d;simp only[VR]at b;subst b;exact⟨_,e,by simp only[d];rfl⟩
 ·cases e
theorem Qe(r:RH X h n){ty:TypeId}{a:V}{p:PV}{K:Int->Option β}{b:Array TypeId}(d:b[0]?=some ty)(c:VR X a p)(e:SJ P h ty a K=some x)(id:Nat):∃ m,K m=some x/\Pi.AH P X.h id .len b [p]=some (.val (.int .i64 m) X.h):=
 PI r d c.norm e id
end
end
end Go.Proofs.YtanppfoapnaeaaaGreat.Sv
