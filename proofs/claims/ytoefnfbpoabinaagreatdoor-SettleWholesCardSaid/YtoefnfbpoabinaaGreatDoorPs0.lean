/- A part of the evaluator over typed open values for any program, and of the proof that it is sound. No condition. -/
import Derived.Test.YtoefnfbpoabinaaGreatDoorPp2
import GoSem.Step
set_option linter.all false
open List renaming append_nil->aL, drop_drop->bV, getElem?_drop->aJ, getElem?_eq_getElem->ai, getElem?_map->aX, getElem?_take_of_lt->bf, range->bh, replicate->aF
open Nat renaming add_sub_cancel_left->cu, add_zero->aN, beq->aa, beq_eq->bA, ble->ad, blt->ae, blt_eq->bJ, le_refl->ab, mul_one->dt
open Option renaming map_eq_some_iff->ck
open Bool renaming and_eq_true->ac, not_eq_false'->au, or_eq_false_iff->ah
open BitVec renaming ofInt->aB
open Option renaming some->zo, none->zn
open Bool renaming true->zt, false->zf
namespace Go.Proofs.YtoefnfbpoabinaaGreatDoor.Sv
section
section
variable{α β γ:Type}
def gd(c:Bool)(k:Unit->Option β):Option β:=bif c then k ()else zn
def br(c:Bool)(a b:Unit->Option β):Option β:=bif c then a ()else b ()
def ix(l:List α)(i:Nat)(k:α->Option β):Option β:=match l[i]? with
 |some x=>k x
 |none=>zn
def TS(n:Int)(k:Nat->Option β):Option β:=bif decide (0<=n)then k n.toNat else zn
def bd(m:Option α)(k:α->Option β):Option β:=match m with
 |some x=>k x
 |none=>zn
inductive LR (α β:Type) where
 |nx (s:α)
 |dn (x:β)
def Iu:Nat->(α->Option (LR α β))->α->Option β
 |0,_,_=>zn
 |n+1,f,s=>match f s with
  |none=>zn
  |some (.nx s)=>Iu n f s
  |some (.dn x)=>zo x
def loop(f:α->Option (LR α β))(s:α):Option β:=Iu 18446744073709551616 f s
structure StW where
 b:Bool
theorem S8:WellFounded λx y:StW=>x.b=zf/\y.b=zt:=⟨λa=>⟨a,λy h=>⟨y,λz k=>by rw[h.1]at k;cases k.2⟩⟩⟩
instance stWR:WellFoundedRelation StW:=⟨λx y=>x.b=zf/\y.b=zt,Eq.mpr (propext ⟨λ_=>trivial,λ_=>S8⟩:_=True) trivial⟩
def OA(b:StW)(f:α->Option (LR α β))(s:α):Option β:=if h:b.b=zt then OA ⟨zf⟩ f s else loop f s
termination_by b
decreasing_by (first|exact⟨rfl,h⟩|exact⟨trivial,h⟩)
def QI(f:α->Option (LR α β))(s:α):Option β:=OA ⟨zt⟩ f s
theorem QJ(f:α->Option (LR α β))(s:α):QI f s=loop f s:=by unfold QI;rw[OA,dif_pos rfl,OA,dif_neg (by simp)]
def jn{δ:Type}(f:α->Option (LR δ γ))(s:α)(k:δ->Option β)(a:γ->Option β):Option β:=match f s with
 |none=>zn
 |some (.nx x)=>k x
 |some (.dn x)=>a x
def Tk(k:IntKind)(a b:Int):Int:=k.wrap (a+b)
def Tp(k:IntKind)(a b:Int):Int:=k.wrap (a-b)
def Tl(k:IntKind)(a b:Int):Int:=k.wrap (a*b)
def Ux(k:IntKind)(a b:Int):Int:=k.wrap (a.tdiv b)
def Uy(_:IntKind)(a b:Int):Int:=a.tmod b
def Us(k:IntKind)(a b:Int):Int:=k.wrap (aB k.bits a &&& aB k.bits b).toNat
def VQ(k:IntKind)(a b:Int):Int:=k.wrap (aB k.bits a ||| aB k.bits b).toNat
def U1(k:IntKind)(a b:Int):Int:=k.wrap (aB k.bits a ^^^ aB k.bits b).toNat
def Sj(k:IntKind)(a b:Int):Int:=k.wrap (a*2 ^ (min b.toNat k.bits))
def Uz(k:IntKind)(a b:Int):Int:=a.fdiv (2 ^ (min b.toNat k.bits))
def Uw(k:IntKind)(a:Int):Int:=k.wrap (0-a)
def VH(k:IntKind)(a:Int):Int:=k.wrap a
def PW(a b:Int):Bool:=a == b
def TN(a b:Int):Bool:=a != b
def Uv(a b:Int):Bool:=decide (a<b)
def Uu(a b:Int):Bool:=decide (a<=b)
def Ut(a b:Int):Bool:=decide (a>b)
def TM(a b:Int):Bool:=decide (a>=b)
def VP(a b:Int):Int:=if b>a then b else a
def VO(a b:Int):Int:=if b<a then b else a
def IR(a:Bool):Bool:=!a
def Of(a b:Bool):Bool:=a&&b
def beq(a b:Bool):Bool:=a == b
def LN(n:Nat):Int:=n
def A0(a b:Nat):Nat:=a+b
def QR(a b:Nat):Nat:=a-b
def B5(a b:Nat):Bool:=ad a b
def JJ(a b:Nat):Bool:=ae a b
def neq(a b:Nat):Bool:=aa a b
def Rp(a b:Nat):Nat:=Nat.min a b
def NZ(l:List UInt8):Nat:=l.length
def U5(a b:List UInt8):List UInt8:=a++b
def seq(a b:List UInt8):Bool:=a == b
def UB(a b:List UInt8):Bool:=Op.bytesLess a b
def VJ(a b:List UInt8):Int:=bif Op.bytesLess a b then -1 else bif a == b then 0 else 1
def U6(l:List UInt8)(lo hi:Nat):List UInt8:=(l.drop lo).take (hi-lo)
def VU(b:UInt8):Int:=b.toNat
def IN(l:List Int)(k:Nat):Int:=(l[k]?).getD 0
def VK(c:Bool)(a b:Int):Int:=bif c then a else b
def VN(n:Int):UInt8:=UInt8.ofNat n.toNat
def AQ(l:List α):Nat:=l.length
def Ir(a b:List α):List α:=a++b
def Db(l:List α)(lo hi:Nat):List α:=(l.drop lo).take (hi-lo)
def lset(l:List α)(i:Nat)(x:α):List α:=l.set i x
def PA(n:Nat)(x:α):List α:=aF n x
def E9(l:List α)(off:Nat)(x:List α)(n:Nat):List α:=l.take off++(x.take n++l.drop (off+(x.take n).length))
def NJ(e:γ->γ->Bool):List (γ×α)->γ->Option α
 |[],_=>zn
 |(k,v)::l,x=>bif e x k then zo v else NJ e l x
def I2(e:γ->γ->Bool):List (γ×α)->γ->α->List (γ×α)
 |[],x,y=>[(x,y)]
 |(k,v)::l,x,y=>bif e x k then(x,y)::l else(k,v)::I2 e l x y
def I0(e:γ->γ->Bool):List (γ×α)->γ->List (γ×α)
 |[],_=>[]
 |(k,v)::l,x=>bif e x k then l else(k,v)::I0 e l x
def Tv(o:Option α)(z:α):α:=o.getD z
def VT(o:Option α):Bool:=o.isSome
end
end
section
variable[Pi.Gl]
open Pi (PV T DF UM PE lget)
inductive V where
 |bool (b:Bool)
 |int (k:IntKind) (n:Int)
 |str (l:List UInt8)
 |nilp|nils|nilm|nilf|nili
 |agg (cs:List V)
 |tup (vs:List V)
 |lf (full g:Bool) (c:Ty) (l:List c.den)
 |pl (g:Bool) (c:Ty) (l:List c.den)
 |exl (full:Bool) (es:List V)
 |ow (id:Nat)
 |own (id off len:Nat)
 |ptr (id off:Nat)
 |ept (id i off:Nat)
 |aptr (id off k n:Nat)
 |view (cs:List V)
 |pv (cs:List V)
 |fn (f:Fn) (first captured:List V)
 |yl (id:Nat)
 |ifc (t:TypeId) (v:V)
 |mp (id:Nat)
 |gk (n:Nat)
 |dd
structure PEA where
 v:V
 recovered:Bool
inductive UMA where
 |ret
 |pan (ch:List PEA)
inductive DFA where
 |call (f:V) (args:List V)
 |bi (b:Builtin) (ats:Array TypeId) (ty:TypeId) (args:List V)
 |col (id:Nat)
inductive ExA where
 |normal
 |exit (id:Nat)
 |goto (l:Nat)
 |ret
 |panic (v:V)
inductive BA where
 |box (cs:List V) (fz lk:Bool)
 |row (g:Bool) (c:Ty) (l:List c.den) (ex fz lk:Bool)
 |mp (k:Ty) (g:Bool) (c:Ty) (l:List (k.den×c.den)) (lk:Bool)
 |lp (st:Nat) (pend:Option Code) (nt:Nat) (t:T V) (ps:List Nat) (asg body:Code) (d:Nat)
 |df (ds:Option (List DFA))
 |dead
abbrev H:=T BA
structure FrA where
 t:T V
 nt:Nat
 ds:List DFA
 up:Option UMA
 ro:Option Nat
inductive OutA where
 |ret (v:V)
 |pan (ch:List PEA)
def V.cells:V->List V
 |.agg cs=>cs
 |.tup _=>[]
 |v=>[v]
def cells:(c:Ty)->c.den->List V
 |.int k,n=>[.int k n]
 |.bool,b=>[.bool b]
 |.str,s=>[.str s]
 |.unit,_=>[]
 |.pair a b,x=>cells a x.1++cells b x.2
 |.sl g c,l=>[.lf zf g c l]
def HF:(c:Ty)->c.den->List V
 |.int k,n=>[.int k n]
 |.bool,b=>[.bool b]
 |.str,s=>[.str s]
 |.unit,_=>[]
 |.pair a b,x=>HF a x.1++HF b x.2
 |.sl g c,l=>[.pl g c l]
def elP(g:Bool)(c:Ty)(x:c.den):V:=bif g then .agg (HF c x)else match HF c x with
 |[v]=>v
 |_=>.nilp
def V.norm:V->V
 |.pl g c l=>.lf zf g c l
 |.pv cs=>.view cs
 |v=>v
def Ol(g:Bool)(c:Ty)(x:c.den):V:=bif g then .agg (cells c x)else match cells c x with
 |[v]=>v
 |_=>.nilp
def OZ:(c:Ty)->c.den
 |.int _=>(0:Int)
 |.bool=>zf
 |.str=>[]
 |.unit=>()
 |.pair a b=>(OZ a,OZ b)
 |.sl _ _=>[]
def Ty.depth:Ty->Nat
 |.pair a b=>Nat.max a.depth b.depth
 |.sl _ c=>c.depth+1
 |_=>0
def Ty.wd:Ty->Nat
 |.unit=>0
 |.pair a b=>a.wd+b.wd
 |_=>1
def Ty.hasSl:Ty->Bool
 |.pair a b=>a.hasSl||b.hasSl
 |.sl _ _=>zt
 |_=>zf
def Q6(rec:TypeId->Option (Bool×Ty)):List Field->Option Ty
 |[]=>zo .unit
 |[f]=>(rec f.type).map (·.2)
 |f::fs=>match rec f.type,Q6 rec fs with
  |some (_,c),zo r=>zo (.pair c r)
  |_,_=>zn
def SM:Nat->Ty->Ty
 |0,_=>.unit
 |1,c=>c
 |n+1,c=>.pair c (SM n c)
def Ma(P:Program):Nat->TypeId->Option (Bool×Ty)
 |0,_=>zn
 |d+1,t=>match P.underlying t with
  |some (.int k)=>zo (zf,.int k)
  |some .bool=>zo (zf,.bool)
  |some .string=>zo (zf,.str)
  |some (.slice e)=>(Ma P d e).map λ(g,c)=>(zf,.sl g c)
  |some (.struct fs)=>(Q6 (Ma P d) fs.toList).map λc=>(zt,c)
  |some (.array n e)=>(Ma P d e).map λ(_,c)=>(zt,SM n c)
  |_=>zn
def UH:Nat:=14
section
variable{β:Type}
def Cw{c a:Ty}(l:List c.den)(K:List a.den->Option β):Option β:=if e:c=a then K (e ▸ l)else zn
def SC{k c b a:Ty}(l:List (k.den×c.den))(K:List (b.den×a.den)->Option β):Option β:=
 if e:k=b then if e2:c=a then K (e ▸ e2 ▸ l)else zn else zn
def Pj{α:Type}(d:V->(α->Option β)->Option β):List V->(List α->Option β)->Option β
 |[],K=>K []
 |v::vs,K=>d v λx=>Pj d vs λl=>K (x::l)
def D1(h:H):(c:Ty)->List V->(c.den->List V->Option β)->Option β
 |.int k,vs,K=>match vs with
  |.int k' n::r=>bif k == k' then K n r else zn
  |_=>zn
 |.bool,vs,K=>match vs with
  |.bool b::r=>K b r
  |_=>zn
 |.str,vs,K=>match vs with
  |.str s::r=>K s r
  |_=>zn
 |.unit,vs,K=>K () vs
 |.pair a b,vs,K=>D1 h a vs λx r=>D1 h b r λy r=>K (x,y) r
 |.sl g c,vs,K=>match vs with
  |.nils::r=>K [] r
  |.lf _ g' _ l::r=>bif g == g' then Cw l λl=>K l r else zn
  |.pl g' _ l::r=>bif g == g' then Cw l λl=>K l r else zn
  |.exl _ es::r=>Pj (λv K=>bif g then(match v with
    |.agg cs=>D1 h c cs λx q=>match q with
     |[]=>K x
     |_=>zn
    |_=>zn)else D1 h c [v] λx q=>match q with
     |[]=>K x
     |_=>zn) es λl=>K l r
  |.ow id::r=>match h.get id with
   |some (.row g' _ l _ _ _)=>bif g == g' then Cw l λl=>K l r else zn
   |_=>zn
  |.own id off len::r=>match h.get id with
   |some (.row g' _ l _ _ _)=>bif g == g' then gd (B5 (A0 off len) (AQ l)) λ_=>Cw (Db l off (A0 off len)) λl=>K l r else zn
   |_=>zn
  |_=>zn
def F8(h:H)(g:Bool)(c:Ty)(v:V)(K:c.den->Option β):Option β:=bif g then(match v with
  |.agg cs=>D1 h c cs λx q=>match q with
   |[]=>K x
   |_=>zn
  |_=>zn)else D1 h c [v] λx q=>match q with
   |[]=>K x
   |_=>zn
end
def Gb:Value->Option V
 |.bool b=>zo (.bool b)
 |.int k n=>zo (.int k n)
 |.string s=>zo (.str s.data.toList)
 |.pointer zn=>zo .nilp
 |.slice zn 0 0=>zo .nils
 |.map zn=>zo .nilm
 |.nilFunc=>zo .nilf
 |.nilIface=>zo .nili
 |.func (.func f) first cap=>if first.isEmpty&&cap.isEmpty then zo (.fn (.func f) [] [])else zn
 |_=>zn
def Dz:List Value->Option (List V)
 |[]=>zo []
 |v::l=>match Gb v,Dz l with
  |some p,zo ps=>zo (p::ps)
  |_,_=>zn
def Kx:Value->Option V
 |.agg cs=>(Dz cs.toList).map .agg
 |.tuple vs=>bif vs.isEmpty then zo (.tup [])else zn
 |.iface t v=>match Gb v with
  |some p=>zo (.ifc t p)
  |none=>zn
 |v=>Gb v
def CK(P:Program)(t:TypeId):Option (List V):=match P.info? t with
 |some i=>match i.zero with
  |some z=>Dz z.cells.toList
  |none=>zn
 |none=>zn
def DD(P:Program)(e:TypeId):Option V:=match P.info? e with
 |some i=>match i.zero with
  |some z=>Kx z
  |none=>zn
 |none=>zn
def EI(P:Program)(t:TypeId)(cs:List V):Option V:=match Pi.H7 P t,Pi.AU P t with
 |some zt,zo n=>bif ad n cs.length then zo (.agg (cs.take n))else zn
 |some zf,zo _=>match cs with
  |c::_=>zo c
  |[]=>zn
 |_,_=>zn
def AG(h:H)(id:Nat)(b:BA):H:=T.put 20 h id b
def Gp(cs:List V)(off:Nat)(x:List V):List V:=cs.take off++(x++cs.drop (off+x.length))
inductive RA where
 |val (v:V) (h:H)
 |skip (h:H)
 |call (f:FuncId) (args:List V)
 |yield (id:Nat) (args:List V)
 |pan (v:V)
 |rcv
 |dfr (d:DFA)
section
variable{β:Type}
def CO{α:Type}(o:Option α)(K:α->Option β):Option β:=match o with
 |some x=>K x
 |none=>zn
def P4:List PV->Option (List V)
 |[]=>zo []
 |.ifc t (.gk n)::l=>(P4 l).map (.ifc t (.gk n)::·)
 |.nili::l=>(P4 l).map (.nili::·)
 |_=>zn
def BI(t:T V)(o:Operand)(K:V->Option β):Option β:=match o with
 |.tmp k=>CO (t.get k) K
 |.const v=>CO (Kx v) K
 |.func f=>K (.fn (.func f) [] [])
 |.global g=>CO (Pi.Gl.g g) λcs=>CO (P4 cs) λvs=>K (.pv vs)
def Ow(t:T V):List Operand->(List V->Option β)->Option β
 |[],K=>K []
 |o::l,K=>BI t o λv=>Ow t l λvs=>K (v::vs)
def RT(t:T V)(o:Option Operand)(K:Option V->Option β):Option β:=match o with
 |none=>K zn
 |some o=>BI t o λv=>K (zo v)
def I3(v:V)(K:Nat->Option β):Option β:=match v with
 |.int _ n=>TS n K
 |_=>zn
def CJ(d:Nat)(o:Option V)(K:Nat->Option β):Option β:=match o with
 |none=>K d
 |some v=>I3 v K
def Kt(v:V)(K:Nat->Option β):Option β:=match v with
 |.int .i64 n=>TS n K
 |_=>zn
def Sh(c:BinOp)(k:IntKind)(a b:Int)(K:V->Option β):Option β:=match c with
 |.add=>K (.int k (Tk k a b))
 |.sub=>K (.int k (Tp k a b))
 |.mul=>K (.int k (Tl k a b))
 |.quo=>gd (TN b 0) λ_=>K (.int k (Ux k a b))
 |.rem=>gd (TN b 0) λ_=>K (.int k (Uy k a b))
 |.eql=>K (.bool (PW a b))
 |.neq=>K (.bool (TN a b))
 |.lss=>K (.bool (Uv a b))
 |.leq=>K (.bool (Uu a b))
 |.gtr=>K (.bool (Ut a b))
 |.geq=>K (.bool (TM a b))
 |.and=>K (.int k (Us k a b))
 |.or=>K (.int k (VQ k a b))
 |.xor=>K (.int k (U1 k a b))
 |_=>zn
def NY(c:BinOp)(k:IntKind)(a b:Int)(K:V->Option β):Option β:=match c with
 |.shl=>gd (TM b 0) λ_=>K (.int k (Sj k a b))
 |.shr=>gd (TM b 0) λ_=>K (.int k (Uz k a b))
 |_=>zn
def TA(c:BinOp)(a b:List UInt8)(K:V->Option β):Option β:=match c with
 |.add=>gd (B5 (A0 (NZ a) (NZ b)) 1000000000) λ_=>K (.str (U5 a b))
 |.eql=>K (.bool (seq a b))
 |.neq=>K (.bool (IR (seq a b)))
 |.lss=>K (.bool (UB a b))
 |.leq=>K (.bool (IR (UB b a)))
 |.gtr=>K (.bool (UB b a))
 |.geq=>K (.bool (IR (UB a b)))
 |_=>zn
end
mutual
def RR(P:Program):Nat->TypeId->V->V->Option Bool
 |0,_,_,_=>zn
 |d+1,t,x,y=>match P.underlying t with
  |some .bool=>match x,y with
   |.bool a,.bool b=>zo (beq a b)
   |_,_=>zn
  |some (.int _)=>match x,y with
   |.int k a,.int k' b=>bif k == k' then zo (PW a b)else zn
   |_,_=>zn
  |some .string=>match x,y with
   |.str a,.str b=>zo (seq a b)
   |_,_=>zn
  |some (.pointer _)=>match x,y with
   |.nilp,.nilp=>zo zt
   |.nilp,.ptr _ _ | .nilp,.view _ | .nilp,.pv _ | .nilp,.ept _ _ _ | .ptr _ _,.nilp | .view _,.nilp | .pv _,.nilp | .ept _ _ _,.nilp=>zo zf
   |_,_=>zn
  |some (.slice _)=>match x,y with
   |.nils,.nils=>zo zt
   |.nils,.exl _ _ | .exl _ _,.nils | .nils,.lf _ _ _ (_::_) | .lf _ _ _ (_::_),.nils | .nils,.pl _ _ (_::_) | .pl _ _ (_::_),.nils | .nils,.own _ _ _ | .own _ _ _,.nils=>zo zf
   |_,_=>zn
  |some (.func _ _ _)=>match x,y with
   |.nilf,.nilf=>zo zt
   |.nilf,.fn _ _ _ | .fn _ _ _,.nilf=>zo zf
   |_,_=>zn
  |some (.interface _)=>match x,y with
   |.nili,.nili=>zo zt
   |.nili,.ifc _ _ | .ifc _ _,.nili=>zo zf
   |.ifc t a,.ifc t' b=>bif aa t t' then(match P.info? t with
     |some i=>bif i.comparable then RR P d t a b else zn
     |none=>zn)else zo zf
   |_,_=>zn
  |some (.struct fs)=>match x,y with
   |.agg a,.agg b=>bif P.stoodInHeld t then zn else M4 P d fs.toList a b
   |_,_=>zn
  |some (.array n e)=>match x,y with
   |.agg a,.agg b=>bif (Pi.AU P e).isSome then Oq P d n e a b else zn
   |_,_=>zn
  |_=>zn
def M4(P:Program):Nat->List Field->List V->List V->Option Bool
 |0,_,_,_=>zn
 |_+1,[],_,_=>zo zt
 | d + 1, f :: fs, a, b => bif f.name == "_" then M4 P d fs a b else match EI P f.type (a.drop f.offset), EI P f.type (b.drop f.offset) with
  |some x,zo y=>(match RR P d f.type x y,M4 P d fs a b with
   |some c,zo r=>zo (Of c r)
   |_,_=>zn)
  |_,_=>zn
def Oq(P:Program):Nat->Nat->TypeId->List V->List V->Option Bool
 |0,_,_,_,_=>zn
 |_+1,0,_,_,_=>zo zt
 |d+1,n+1,e,a,b=>match Pi.AU P e,EI P e a,EI P e b with
  |some s,zo x,zo y=>(match RR P d e x y,Oq P d n e (a.drop s) (b.drop s)with
   |some c,zo r=>zo (Of c r)
   |_,_=>zn)
  |_,_,_=>zn
end
section
variable{β:Type}
def SU(P:Program)(d:BinOp)(ty:TypeId)(x y:Operand)(a b:V)(K:V->Option β):Option β:=match a,b with
 |.int k a,.int k' b=>match d with
  |.shl | .shr=>NY d k a b K
  |_=>bif k == k' then Sh d k a b K else zn
 |.str a,.str b=>TA d a b K
 |.nili,.nili=>bif Pi.Cb x||Pi.Cb y then CO (RR P 64 ty .nili .nili) λc=>(match d with
  |.eql=>K (.bool c)
  |.neq=>K (.bool (IR c))
  |_=>zn)else zn
 |.agg a,.agg b=>bif P.eqGuardType P.depth ty then zn else CO (RR P 64 ty (.agg a) (.agg b)) λc=>(match d with
  |.eql=>K (.bool c)
  |.neq=>K (.bool (IR c))
  |_=>zn)
 |a,b=>CO (RR P 64 ty a b) λc=>match d with
  |.eql=>K (.bool c)
  |.neq=>K (.bool (IR c))
  |_=>zn
def U8(c:UnOp)(a:V)(K:V->Option β):Option β:=match a with
 |.bool b=>match c with
  |.not=>K (.bool (IR b))
  |_=>zn
 |.int k n=>match c with
  |.neg=>K (.int k (Uw k n))
  |_=>zn
 |_=>zn
def purA(h:H):Nat->V->(V->List Nat->Option β)->Option β
 |0,_,_=>zn
 |n+1,v,K=>match v with
  |.agg cs=>purAs (purA h n) cs λx l=>K (.agg x) l
  |.tup cs=>purAs (purA h n) cs λx l=>K (.tup x) l
  |.ifc t x=>purA h n x λx l=>K (.ifc t x) l
  |.fn f a b=>purAs (purA h n) a λa l=>purAs (purA h n) b λb m=>K (.fn f a b) (l++m)
  |.lf _ g c l=>bif ad (2*c.depth+3) (n+7)then K (.lf zf g c l) []else zn
  |.pl g c l=>K (.pl g c l) []
  |.ow id=>match h.get id with
   |some (.row g c l _ _ _)=>bif ad (2*c.depth+3) (n+7)then K (.lf zf g c l) [id]else zn
   |_=>zn
  |.own id off len=>match h.get id with
   |some (.row g c l _ _ _)=>bif ad (2*c.depth+3) (n+7)then gd (B5 (A0 off len) (AQ l)) λ_=>K (.lf zf g c (Db l off (A0 off len))) [id]else zn
   |_=>zn
  |.ptr _ _ | .view _ | .pv _ | .ept _ _ _ | .aptr _ _ _ _ | .yl _ | .mp _ | .gk _ | .dd=>zn
  |v=>K v []
where
 purAs (p:V->(V->List Nat->Option β)->Option β):List V->(List V->List Nat->Option β)->Option β
  |[],K=>K [] []
  |v::vs,K=>p v λx l=>purAs p vs λxs m=>K (x::xs) (l++m)
def OP(h:H):List V->(List V->List Nat->Option β)->Option β
 |[],K=>K [] []
 |v::vs,K=>purA h 6 v λx l=>OP h vs λxs m=>K (x::xs) (l++m)
end
def CD(h:H):List Nat->Option H
 |[]=>zo h
 |id::l=>match h.get id with
  |some (.row g c x ex fz lk)=>bif fz then CD h l else bif lk then zn else CD (AG h id (.row g c x ex zt zf)) l
  |_=>zn
def Ij(cs:List V):List (Nat×Nat×List V)->Option (List V)
 |[]=>zo cs
 |(off,n,x)::r=>bif aa x.length n&&ad (off+n) cs.length then Ij (Gp cs off x) r else zn
def KV(a:Nat)(es:List V):List (Nat×V)->Option (List V)
 |[]=>zo es
 |(i,v)::r=>bif aa v.cells.length a&&ae i es.length then KV a (Pi.lset es i v) r else zn
def Ff(P:Program)(a:Array Field):List (Nat×V)->Option (List (Nat×Nat×List V))
 |[]=>zo []
 |(i,p)::l=>match a[i]?,Ff P a l with
  |some f,zo r=>(match Pi.AU P f.type with
   |some n=>bif ae 0 n then zo ((f.offset,n,p.cells)::r)else zn
   |none=>zn)
  |_,_=>zn
def GP(a:Nat):List (Nat×V)->List (Nat×Nat×List V)
 |[]=>[]
 |(i,p)::l=>(i*a,a,p.cells)::GP a l
def L6(a:Bool)(cs:List V):Option V:=
 bif a then zo (.agg cs)else match cs with
  |[c]=>zo c
  |_=>zn
def Te(P:Program)(a:TypeId):Option (Bool×Ty):=match P.underlying a with
 |some (.slice e)=>Ma P UH e
 |_=>zn
def Sk:(k:Ty)->Option (k.den->k.den->Bool)
 |.int _=>zo (λ(a b:Int)=>PW a b)
 |.bool=>zo (λ(a b:Bool)=>beq a b)
 |.str=>zo (λ(a b:List UInt8)=>seq a b)
 |_=>zn
section
variable{β:Type}
def G2(t:T V):List (Nat×Operand)->(List (Nat×V)->Option β)->Option β
 |[],K=>K []
 |(i,o)::l,K=>BI t o λv=>G2 t l λr=>K ((i,v)::r)
def I5(k:Nat):Nat->Nat->(Nat->Option β)->Option β
 |0,_,_=>zn
 |1,i,K=>gd (neq k i) λ_=>K i
 |n+1,i,K=>br (neq k i) (λ_=>K i) λ_=>I5 k n (i+1) K
def Ie(h:H)(g:Bool)(c:Ty)(v:V)(K:List c.den->Option β):Option β:=D1 h (.sl g c) [v] λl _=>K l
def Jc(P:Program)(a:TypeId)(c:Ty):Bool:=match P.underlying a with
 |some (.slice e)=>(match P.info? e,Pi.zeroCells P e with
  |some ti,zo z=>aa ti.size c.wd&&ad ti.bytes 1048576&&aa z.length ti.size&&ae 0 ti.size
  |_,_=>zf)
 |_=>zf
def Kj:V->Bool
 |.int _ _ | .bool _ | .str _=>zt
 |_=>zf
def S5(h:H)(x:V):V:=match x with
 |.own j off len=>(match h.get j with
  |some (.box cs _ zf)=>bif ad (off+len) cs.length&&((cs.drop off).take len).all Kj then .exl zt ((cs.drop off).take len)else x
  |_=>x)
 |_=>x
def SP(P:Program)(h:H)(id:Nat)(a:TypeId)(s x:V)(K:RA->Option β):Option β:=
 CO (Te P a) λ(g,c)=>bif Jc P a c then Ie h g c x λnew=>match s with
  |.nils=>gd (B5 (AQ new) 1048576) λ_=>K (.val (.ow id) (AG h id (.row g c new zf zf zf)))
  |.lf zt g' _ l=>bif g == g' then gd (B5 (A0 (AQ l) (AQ new)) 1048576) λ_=>Cw l λl=>(match x with
   |.exl _ (_::_)=>K (.val (.ow id) (AG h id (.row g c (Ir l new) zf zf zf)))
   |_=>br (neq (AQ new) 0) (λ_=>K (.val s h)) λ_=>K (.val (.ow id) (AG h id (.row g c (Ir l new) zf zf zf))))else zn
  |.exl zt []=>gd (B5 (AQ new) 1048576) λ_=>K (.val (.ow id) (AG h id (.row g c new zf zf zf)))
  |.exl zt (_::_)=>Ie h g c s λl=>gd (B5 (A0 (AQ l) (AQ new)) 1048576) λ_=>(match x with
   |.exl _ (_::_)=>K (.val (.ow id) (AG h id (.row g c (Ir l new) zf zf zf)))
   |_=>zn)
  |.ow j=>match h.get j with
   |some (.row g' _ l ex fz lk)=>bif !(g == g')||lk then zn else Cw l λl=>gd (B5 (A0 (AQ l) (AQ new)) 1048576) λ_=>
    bif ex then(match x with
     |.exl _ (_::_)=>K (.val (.ow id) (AG h id (.row g c (Ir l new) zf zf zf)))
     |_=>br (neq (AQ new) 0) (λ_=>K (.val s h)) λ_=>K (.val (.ow id) (AG h id (.row g c (Ir l new) zf zf zf))))
    else K (.val (.ow id) (AG (AG h j .dead) id (.row g c (Ir l new) zf fz zf)))
   |_=>zn
  |.own j off len=>match h.get j with
   |some (.row g' _ l zt zf zf)=>bif g == g' then Cw l λl=>gd (B5 (A0 len (AQ new)) 1048576) λ_=>gd (B5 (A0 off len) (AQ l)) λ_=>
    br (neq (AQ new) 0) (λ_=>K (.val s h)) λ_=>
    br (B5 (A0 (A0 off len) (AQ new)) (AQ l)) (λ_=>K (.val (.own j off (A0 len (AQ new))) (AG h j (.row g c (E9 l (A0 off len) new (AQ new)) zt zf zf)))) λ_=>
     K (.val (.ow id) (AG h id (.row g c (Ir (Db l off (A0 off len)) new) zf zf zf)))else zn
   |_=>zn
  |_=>zn
 else zn
def QC(P:Program)(h:H)(t:TypeId)(v:V)(K:Int->Option β):Option β:=match P.underlying t,v with
 |some (.map _ _),.mp j=>(match h.get j with
  |some (.mp _ _ _ l _)=>K (LN (AQ l))
  |_=>zn)
 |some (.map _ _),.nilm=>K 0
 |some (.array n _),_=>K n
 |some (.slice _),.nils=>K 0
 |some (.slice _),.lf _ _ _ l=>K (LN (AQ l))
 |some (.slice _),.exl _ es=>K es.length
 |some (.slice _),.ow j=>(match h.get j with
  |some (.row _ _ l _ _ _)=>K (LN (AQ l))
  |_=>zn)
 |some (.slice _),.own _ _ len=>K (LN len)
 |some .string,.str l=>K (LN (NZ l))
 |_,_=>zn
def Tq(P:Program)(h:H)(t:TypeId)(v:V)(K:Int->Option β):Option β:=QC P h t v.norm K
def Ji(f:Int->Int->Int)(k:IntKind):Int->List V->(Int->Option β)->Option β
 |m,[],K=>K m
 |m,.int k' y::l,K=>bif k == k' then Ji f k (f m y) l K else zn
 |_,_,_=>zn
def E7:Ty->TypeDesc->Bool
 |.int _,.int _=>zt
 |.bool,.bool=>zt
 |.str,.string=>zt
 |_,_=>zf
def QA(P:Program)(ty:TypeId)(m v:V)(h:H)(K:(j:Nat)->(k:Ty)->(g:Bool)->(c:Ty)->List (k.den×c.den)->Bool->(k.den->k.den->Bool)->k.den->Option β):Option β:=
 match P.underlying ty,m with
 |some (.map kt _),.mp j=>match P.underlying kt,h.get j with
  |some d,zo (.mp k g c l lk)=>bif E7 k d then CO (Sk k) λe=>D1 .lf k [v] λx q=>(match q with
   |[]=>K j k g c l lk e x
   |_=>zn)else zn
  |_,_=>zn
 |_,_=>zn
def IV(P:Program)(h:H)(id:Nat)(b:Builtin)(f:Array TypeId)(args:List V)(K:RA->Option β):Option β:=
 match b with
 |.len=>match args,f[0]? with
  |[x],zo t=>Tq P h t x λn=>K (.val (.int .i64 n) h)
  |_,_=>zn
 |.cap=>match args,f[0]? with
  |[x],zo t=>match P.underlying t,x with
   |some (.slice _),.ow j=>(match h.get j with
    |some (.row _ _ l zt _ _)=>K (.val (.int .i64 (LN (AQ l))) h)
    |_=>zn)
   |some (.slice _),.own j off _=>(match h.get j with
    |some (.row _ _ l zt _ _)=>K (.val (.int .i64 (LN (QR (AQ l) off))) h)
    |_=>zn)
   |some (.slice _),.nils=>K (.val (.int .i64 0) h)
   |_,_=>zn
  |_,_=>zn
 |.append=>match args,f.toList with
  |[s,x],[t,t']=>bif aa t t' then SP P h id t s (S5 h x) K else zn
  |_,_=>zn
 |.copy=>match args,f[0]? with
  |[d,x],zo t=>CO (Te P t) λ(g,c)=>bif !Jc P t c then zn else Ie h g c x λnew=>match d with
   |.ow j=>(match h.get j with
    |some (.row g' _ l zt zf zf)=>bif g == g' then Cw l λl=>K (.val (.int .i64 (LN (Rp (AQ new) (AQ l)))) (AG h j (.row g c (E9 l 0 new (AQ l)) zt zf zf)))else zn
    |_=>zn)
   |.own j off len=>(match h.get j with
    |some (.row g' _ l ex zf zf)=>bif g == g' then Cw l λl=>gd (B5 (A0 off len) (AQ l)) λ_=>K (.val (.int .i64 (LN (Rp (AQ new) len))) (AG h j (.row g c (E9 l off new len) ex zf zf)))else zn
    |_=>zn)
   |_=>zn
  |_,_=>zn
 |.clear=>match args,f[0]? with
  |[.mp j],zo t=>match P.underlying t,h.get j with
   |some (.map _ _),zo (.mp k g c _ zf)=>K (.val (.tup []) (AG h j (.mp k g c [] zf)))
   |_,_=>zn
  |[.own j off len],zo t=>match P.underlying t with
   |some (.slice e)=>match Pi.AU P e,Pi.H7 P e,CK P e with
    |some n,zo ag,zo z=>CO (Ma P UH e) λ(g,c)=>bif ae 0 n&&aa z.length n&&aa n c.wd then CO (L6 ag z) λz=>F8 .lf g c z λz=>(match h.get j with
     |some (.row g' _ l ex zf zf)=>bif g == g' then Cw l λl=>gd (B5 (A0 off len) (AQ l)) λ_=>K (.val (.tup []) (AG h j (.row g c (E9 l off (PA len z) len) ex zf zf)))else zn
     |_=>zn)else zn
    |_,_,_=>zn
   |_=>zn
  |_,_=>zn
 |.delete=>match args,f[0]? with
  |[m,v],zo t=>QA P t m v h λj k g c l i e x=>bif i then zn else K (.val (.tup []) (AG h j (.mp k g c (I0 e l x) zf)))
  |_,_=>zn
 |.max=>match args with
  |.int k a::r=>Ji VP k a r λm=>K (.val (.int k m) h)
  |_=>zn
 |.min=>match args with
  |.int k a::r=>Ji VO k a r λm=>K (.val (.int k m) h)
  |_=>zn
 |.panic=>match args with
  |[.ifc t v]=>K (.pan (.ifc t v))
  |_=>zn
 |.recover=>K .rcv
 |_=>zn
def FW(P:Program)(f:Fn)(first cap args:List V)(K:RA->Option β):Option β:=match f with
 |.func g=>match P.funcs[g]? with
  | some fn => bif fn.body.isSome && !(fn.name == "runtime.NumGoroutine") then K (.call g (first ++ args ++ cap)) else none
  |none=>zn
 |.method name=>match first++args with
  |.ifc t v::rest=>match P.info? t with
   |some i=>match i.methods.find? (·.name == name)with
    |some m=>match m.path.isEmpty,m.func,P.underlying t with
     | true, some (g, true), some (.pointer _) => bif (match P.funcs[g]? with | some fn => fn.body.isSome && !(fn.name == "runtime.NumGoroutine") | none => false) then K (.call g (v :: rest)) else none
     |true,zo (_,zf),zo (.pointer _)=>zn
     | true, some (g, false), some _ => bif (match P.funcs[g]? with | some fn => fn.body.isSome && !(fn.name == "runtime.NumGoroutine") | none => false) then K (.call g (v :: rest)) else none
     |_,_,_=>zn
    |none=>zn
   |none=>zn
  |_=>zn
 |_=>zn
def Gq(a:IntKind):Nat->List V->Option (List Int)
 |0,_=>zo []
 |n+1,.int k x::l=>bif k == a then(Gq a n l).map (x::·)else zn
 |_+1,_=>zn
def N8:List V->Option IntKind
 |.int k _::_=>zo k
 |_=>zn
def PN(a:IntKind)(k:Nat)(x:Int):Nat->List Int->List V
 |_,[]=>[]
 |i,y::l=>.int a (VK (neq k i) x y)::PN a k x (i+1) l
def SR(h:H)(n len:Nat)(x:V):Option (Nat×Nat):=match x with
 |.ptr j off=>(match h.get j with
  |some (.box cs _ _)=>(match N8 (cs.drop off)with
   |some a=>bif aa n 1&&(Gq a len (cs.drop off)).isSome then zo (j,off)else zn
   |none=>zn)
  |_=>zn)
 |_=>zn
def QF(P:Program)(h:H)(ty:TypeId)(p:V)(K:V->Option β):Option β:=match p with
 |.pv cs=>CO (EI P ty cs) K
 |.ptr j off=>match h.get j with
  |some (.box cs _ _)=>CO (EI P ty (cs.drop off)) K
  |_=>zn
 |.view cs=>CO (EI P ty cs) K
 |.ept j i off=>match h.get j with
  |some (.row g c l _ _ _)=>ix l i λx=>CO (EI P ty ((Ol g c x).cells.drop off)) K
  |_=>zn
 |.aptr j off k n=>match h.get j with
  |some (.box cs _ _)=>(match N8 (cs.drop off),Pi.H7 P ty,Pi.AU P ty with
   |some k0,zo zf,zo _=>CO (Gq k0 n (cs.drop off)) λl=>K (.int k0 (IN l k))
   |_,_,_=>zn)
  |_=>zn
 |_=>zn
def LL(P:Program)(h:H)(ty:TypeId)(p v:V)(K:H->Option β):Option β:=CO (Pi.AU P ty) λn=>
 bif !ae 0 n || !aa v.cells.length n then zn else match p with
 |.ptr j off=>match h.get j with
  |some (.box cs zf zf)=>bif ad (off+n) cs.length then K (AG h j (.box (Gp cs off v.cells) zf zf))else zn
  |_=>zn
 |.ept j i off=>match h.get j with
  |some (.row g c l ex zf zf)=>ix l i λx=>bif ad (off+n) (cells c x).length then
    D1 .lf c (Gp (cells c x) off v.cells) λy q=>match q with
     |[]=>K (AG h j (.row g c (lset l i y) ex zf zf))
     |_=>zn
   else zn
  |_=>zn
 |.aptr j off k m=>match h.get j with
  |some (.box cs zf zf)=>(match v,N8 (cs.drop off)with
   |.int k1 x,zo k0=>bif k1 == k0 then CO (Gq k0 m (cs.drop off)) λl=>K (AG h j (.box (Gp cs off (PN k0 k x 0 l)) zf zf))else zn
   |_,_=>zn)
  |_=>zn
 |_=>zn
def Mo(P:Program)(ty:TypeId)(a:List (Nat×V))(K:V->Option β):Option β:=
 match CK P ty,P.underlying ty with
 |some z,zo (.struct fs)=>bif fs.toList.all λf=>(Pi.AU P f.type).isSome then
   (match Ff P fs a with
   |some pl=>CO (Ij z pl) λcs=>K (.agg cs)
   |none=>zn)else zn
 |some z,zo (.array _ e)=>match Pi.AU P e with
  |some n=>bif ae 0 n then CO (Ij z (GP n a)) λcs=>K (.agg cs)else zn
  |none=>zn
 |_,_=>zn
def Ev(P:Program)(h:H)(ty:TypeId)(len:Nat)(a:List (Nat×V))(K:RA->Option β):Option β:=
 match P.underlying ty with
 |some (.slice e)=>match Pi.AU P e,Pi.H7 P e,CK P e with
  |some n,zo ag,zo z=>match L6 ag z with
   |some b=>bif !ae 0 n || !ad (len*n) 16777216 || !aa z.length n then zn else
    CO (KV n (aF len b) a) λes=>OP h es λes l=>CO (CD h l) λh=>K (.val (.exl zt es) h)
   |none=>zn
  |_,_,_=>zn
 |_=>zn
def So(p:V)(K:V->Option β):Option β:=match p with
 |.pv cs=>K (.pv cs)
 |.ptr a b=>K (.ptr a b)
 |.ept a b c=>K (.ept a b c)
 |.view cs=>K (.view cs)
 |.ifc ty v=>K (.ifc ty v)
 |.yl i=>K (.yl i)
 |.fn (.func f) a b=>K (.fn (.func f) a b)
 |_=>zn
def SA:List V->(List UInt8->Option β)->Option β
 |[],K=>K []
 |.int .u8 n::l,K=>SA l λr=>K (VN n::r)
 |_,_=>zn
def IY(P:Program)(b a:TypeId)(x:V)(K:V->Option β):Option β:=match x,P.underlying b,P.underlying a with
 |.int _ n,zo _,zo (.int k)=>K (.int k (VH k n))
 |.str l,zo .string,zo .string=>K (.str l)
 |.exl _ es,zo (.slice e),zo .string=>(match P.underlying e with
  |some (.int .u8)=>SA es λl=>K (.str l)
  |_=>zn)
 |_,_,_=>zn
def Se(P:Program)(ty:TypeId)(v:V)(K:V->Option β):Option β:=match P.underlying ty with
 |some (.interface _)=>zn
 |some _=>K (.ifc ty v)
 |none=>zn
def QM(P:Program)(h:H)(id:Nat)(ty:TypeId)(same:Bool)(l c:V)(K:RA->Option β):Option β:=match P.underlying ty with
 |some (.slice e)=>match Pi.AU P e,Pi.H7 P e,CK P e,P.info? e with
  |some n,zo ag,zo z,zo ti=>CO (Ma P UH e) λ(g,ct)=>bif ad ti.bytes 1048576&&ae 0 n&&aa z.length n then CO (L6 ag z) λz=>F8 .lf g ct z λz=>Kt l λl=>Kt c λc=>
    bif same then gd (B5 c 1048576) λ_=>K (.val (.ow id) (AG h id (.row g ct (PA c z) zt zf zf)))
    else gd (B5 l c) λ_=>gd (B5 c 1048576) λ_=>K (.val (.own id 0 l) (AG h id (.row g ct (PA c z) zt zf zf)))
   else zn
  |_,_,_,_=>zn
 |_=>zn
def Lz(P:Program)(h:H)(id:Nat)(ty:TypeId)(K:RA->Option β):Option β:=match P.underlying ty with
 |some (.map kt e)=>match Ma P UH kt,Ma P UH e with
  |some (zf,k),zo (g,c)=>K (.val (.mp id) (AG h id (.mp k g c [] zf)))
  |_,_=>zn
 |_=>zn
def UJ(P:Program)(h:H)(n:Nat)(e:TypeId)(x:V)(K:V->Option β):Option β:=match Pi.AU P e,x with
 |some s,.ptr j off=>(match h.get j with
  |some (.box cs _ zf)=>bif aa s 1&&(ae 0 n&&aa (off+n) cs.length)then K (.own j off n)else zn
  |_=>zn)
 |_,_=>zn
def Na(P:Program)(h:H)(ty:TypeId)(x:V)(lo hi mx:Option V)(K:V->Option β):Option β:=match P.underlying ty,x with
 |some .string,.str s=>match mx with
  |none=>CJ (NZ s) hi λhh=>CJ 0 lo λl=>gd (B5 hh (NZ s)) λ_=>gd (B5 l hh) λ_=>K (.str (U6 s l hh))
  |_=>zn
 |some (.slice e),.nils=>CO (Pi.AU P e) λ_=>match mx with
  |none=>CJ 0 hi λhh=>CJ 0 lo λl=>gd (neq hh 0) λ_=>gd (neq l 0) λ_=>K .nils
  |some m=>bif hi.isNone then zn else CJ 0 hi λhh=>CJ 0 lo λl=>I3 m λm=>gd (neq hh 0) λ_=>gd (neq l 0) λ_=>gd (neq m 0) λ_=>K .nils
 |some (.slice e),.lf _ g c es=>CO (Pi.AU P e) λn=>bif !aa n c.wd then zn else CJ 0 lo λl=>CJ (AQ es) hi λhh=>(match mx with
  |none=>gd (B5 hh (AQ es)) λ_=>gd (B5 l hh) λ_=>K (.lf zf g c (Db es l hh))
  |some m=>bif hi.isNone || !ad c.depth 4 then zn else I3 m λm=>gd (B5 hh (AQ es)) λ_=>gd (neq hh m) λ_=>gd (B5 l hh) λ_=>K (.lf zt g c (Db es l hh)))
 |some (.slice e),.pl g c es=>CO (Pi.AU P e) λn=>bif !aa n c.wd then zn else CJ 0 lo λl=>CJ (AQ es) hi λhh=>(match mx with
  |none=>gd (B5 hh (AQ es)) λ_=>gd (B5 l hh) λ_=>K (.pl g c (Db es l hh))
  |some m=>bif hi.isNone || !ad c.depth 4 then zn else I3 m λm=>gd (B5 hh (AQ es)) λ_=>gd (neq hh m) λ_=>gd (B5 l hh) λ_=>K (.lf zt g c (Db es l hh)))
 |some (.slice e),.ow j=>(match h.get j with
  |some (.row g c es _ zf _)=>CO (Pi.AU P e) λn=>bif !aa n c.wd then zn else CJ 0 lo λl=>CJ (AQ es) hi λhh=>(match mx with
   |none=>gd (B5 hh (AQ es)) λ_=>gd (B5 l hh) λ_=>br (JJ l (AQ es)) (λ_=>K (.own j l (QR hh l))) λ_=>K (.lf zf g c [])
   |some _=>zn)
  |_=>zn)
 |some (.slice e),.own j off len=>(match h.get j with
  |some (.row g c es ex _ _)=>CO (Pi.AU P e) λn=>bif !aa n c.wd then zn else CJ 0 lo λl=>CJ len hi λhh=>(match mx with
   |none=>gd (B5 (A0 off hh) (AQ es)) λ_=>gd (B5 l hh) λ_=>br (JJ (A0 off l) (AQ es)) (λ_=>K (.own j (A0 off l) (QR hh l))) λ_=>K (.lf zf g c [])
   |some m=>bif lo.isSome||hi.isNone || !ex then zn else I3 m λm=>gd (B5 hh m) λ_=>gd (neq (A0 off m) (AQ es)) λ_=>gd (JJ off (AQ es)) λ_=>K (.own j off hh))
  |_=>zn)
 |some (.array n e),x=>match lo,hi,mx with
  |none,zn,zn=>UJ P h n e x K
  |_,_,_=>zn
 |_,_=>zn
def GD(P:Program)(b:TypeId)(x:V)(f:Nat)(K:V->Option β):Option β:=match P.underlying b with
 |some (.struct fs)=>match fs[f]? with
  |some a=>match Pi.AU P a.type with
   |some n=>bif aa n 0 then zn else(match x with
    |.ptr j off=>K (.ptr j (off+a.offset))
    |.ept j i off=>K (.ept j i (off+a.offset))
    |.view cs=>K (.view (cs.drop a.offset))
    |.pv cs=>K (.pv (cs.drop a.offset))
    |_=>zn)
   |none=>zn
  |none=>zn
 |_=>zn
def NB(P:Program)(ty:TypeId)(x:V)(f:Nat)(K:V->Option β):Option β:=match P.underlying ty,x with
 |some (.struct fs),.agg cs=>match fs[f]? with
  |some a=>CO (EI P a.type (cs.drop a.offset)) K
  |none=>zn
 |_,_=>zn
def GH(P:Program)(h:H)(ty:TypeId)(x i:V)(K:V -> Option β):Option β:=match P.underlying ty with
  | some (.slice e) => CO (Pi.AU P e) fun n => I3 i fun k => match x with
      |.lf _ g c es=>ix es k fun a=>bif aa (Ol g c a).cells.length n then K (.view (Ol g c a).cells)else zn
      |.pl g c es=>ix es k fun a=>bif aa (elP g c a).cells.length n then K (.pv (elP g c a).cells)else zn
      |.exl _ es=>I5 k es.length 0 fun k=>CO (lget es k) fun a=>bif aa a.cells.length n then K (.view a.cells)else zn
      |.ow j=>(match h.get j with
        |some (.row _ c es _ zf _)=>gd (JJ k (AQ es)) fun _=>bif aa c.wd n then K (.ept j k 0)else zn
        |_=>zn)
      |.own j off len=>gd (JJ k len) fun _=>(match h.get j with
        |some (.row _ c es _ _ _)=>gd (JJ (A0 off k) (AQ es)) fun _=>bif aa c.wd n then K (.ept j (A0 off k) 0)else zn
        |_=>zn)
      |_=>zn
  |some (.array len e)=>CO (Pi.AU P e) fun n=>I3 i fun k=>match SR h n len x with
   |some (j,off)=>gd (JJ k len) fun _=>K (.aptr j off k len)
   | none => I5 k len 0 fun k => match x with
      |.ptr j off=>K (.ptr j (off + k * n))
      |.ept j i off=>K (.ept j i (off + k * n))
      |.view cs=>K (.view (cs.drop (k * n)))
      |.pv cs=>K (.pv (cs.drop (k * n)))
      |_=>zn
  |_=>zn
def Pb(P:Program)(e:TypeId)(n len:Nat)(cs:List V):Option (IntKind×List Int):=match N8 cs,Pi.H7 P e with
 |some k0,zo zf=>bif aa n 1&&ae 4 len then(Gq k0 len cs).map (k0,·)else zn
 |_,_=>zn
def NF(P:Program)(ty:TypeId)(x i:V)(K:V->Option β):Option β:=match P.underlying ty,x with
 |some (.array len e),.agg cs=>CO (Pi.AU P e) λn=>I3 i λk=>match Pb P e n len cs with
  |some (k0,l)=>gd (JJ k len) λ_=>K (.int k0 (IN l k))
  |none=>I5 k len 0 λk=>CO (EI P e (cs.drop (k*n))) K
 |some .string,.str l=>I3 i λk=>ix l k λb=>K (.int .u8 (VU b))
 |_,_=>zn
def Km(P:Program)(h:H)(ty:TypeId)(m k:V)(a:Bool)(K:V->Option β):Option β:=match m with
 |.nilm=>match P.underlying ty with
  |some (.map kt e)=>match P.underlying kt,DD P e with
   |some d,zo z=>bif Pi.Ct d then K (bif a then .tup [z,.bool zf]else z)else zn
   |_,_=>zn
  |_=>zn
 |m=>QA P ty m k h λ_ _ g c l _ e x=>match P.underlying ty with
  |some (.map _ et)=>CO (DD P et) λz=>F8 .lf g c z λz=>
    K (bif a then .tup [Ol g c (Tv (NJ e l x) z),.bool (VT (NJ e l x))]else Ol g c (Tv (NJ e l x) z))
  |_=>zn
def Ee(P:Program)(h:H)(ty:TypeId)(m k v:V)(K:H->Option β):Option β:=
 QA P ty m k h λj a g c l b e x=>bif b then zn else F8 .lf g c v λy=>K (AG h j (.mp a g c (I2 e l x y) zf))
def FN(a:Bool)(v:V):V:=bif a then .tup [v,.bool zt]else v
def KE(P:Program)(ty:TypeId)(v:V)(b:Bool)(K:V->Option β):Option β:=match P.underlying ty with
 |some (.interface want)=>match v with
  |.ifc u a=>match P.info? u with
   |some i=>match Instr.missingMethod want i.methods with
    |none=>K (FN b (.ifc u a))
    |some _=>bif b then CO (DD P ty) λz=>K (.tup [z,.bool zf])else zn
   |none=>zn
  |.nili=>bif b then CO (DD P ty) λz=>K (.tup [z,.bool zf])else zn
  |_=>zn
 |some _=>match v with
  |.ifc u a=>bif aa u ty then K (FN b a)else bif b then CO (DD P ty) λz=>K (.tup [z,.bool zf])else zn
  |.nili=>bif b then CO (DD P ty) λz=>K (.tup [z,.bool zf])else zn
  |_=>zn
 |none=>zn
def OU:Operand->Operand->Bool
 |.tmp a,.tmp b=>aa a b
 |_,_=>zf
def LM(h:H)(K:RA->Option β)(v:V):Option β:=K (.val v h)
def UP(P:Program)(t:T V)(h:H)(id:Nat)(o:Oper)(K:RA->Option β):Option β:=
 match o.op with
 |.move x=>BI t x (LM h K)
 |.assign x=>BI t x (LM h K)
 |.pick c a b=>BI t c λc=>BI t a λa=>BI t b λb=>match c with
  |.bool c=>br c (λ_=>LM h K a) (λ_=>LM h K b)
  |_=>zn
 |.alloc e=>CO (CK P e) λcs=>K (.val (.ptr id 0) (AG h id (.box cs zf zf)))
 |.box _ x=>BI t x λv=>match v with
  |.tup _=>zn
  |v=>K (.val (.ptr id 0) (AG h id (.box v.cells zf zf)))
 |.build ty d=>G2 t d.toList λu=>Mo P ty u (LM h K)
 |.buildSlice ty len d=>G2 t d.toList λu=>Ev P h ty len u K
 |.load ty a=>BI t a λa=>QF P h ty a (LM h K)
 |.store ty a x=>BI t a λa=>BI t x λx=>LL P h ty a x λh=>K (.skip h)
 |.nilCheck x=>BI t x λx=>So x (LM h K)
 |.binOp op ty x y _=>BI t x λa=>BI t y λb=>SU P op ty x y a b (LM h K)
 |.unOp op _ x=>BI t x λa=>U8 op a (LM h K)
 |.convert w p x=>BI t x λa=>IY P w p a (LM h K)
 |.makeInterface ty x=>BI t x λa=>Se P ty a (LM h K)
 |.makeFunc f first cap=>Ow t first.toList λa=>Ow t cap.toList λb=>match f with
  |.yield _=>zn
  |f=>K (.val (.fn f a b) h)
 |.makeMap ty zn=>Lz P h id ty K
 |.makeSlice ty l c=>BI t l λx=>BI t c λy=>QM P h id ty (OU l c) x y K
 |.slice ty x lo hi mx=>RT t lo λlo=>RT t hi λhi=>RT t mx λmx=>BI t x λx=>Na P h ty x lo hi mx (LM h K)
 |.fieldAddr s x f=>BI t x λx=>GD P s x f (LM h K)
 |.field ty x f=>BI t x λx=>NB P ty x f (LM h K)
 |.indexAddr ty x i=>BI t x λx=>BI t i λi=>GH P h ty x i (LM h K)
 |.index ty x i=>BI t x λx=>BI t i λi=>NF P ty x i (LM h K)
 |.lookup ty x k q=>BI t x λm=>BI t k λk=>Km P h ty m k q (LM h K)
 |.mapUpdate ty x k v=>BI t x λx=>BI t k λk=>BI t v λv=>Ee P h ty x k v λh=>K (.skip h)
 |.insert ty x k v=>BI t x λx=>BI t k λk=>BI t v λv=>Ee P h ty x k v λh=>K (.skip h)
 |.typeAssert x _ ty q=>BI t x λv=>KE P ty v q (LM h K)
 |.extract x i=>BI t x λx=>match x with
  |.tup vs=>CO (lget vs i) (LM h K)
  |_=>zn
 |.panic x=>BI t x λx=>match x with
  |.ifc ty v=>K (.pan (.ifc ty v))
  |_=>zn
 |.call c=>Ow t c.args.toList λargs=>match c.callee with
  |.builtin b=>IV P h id b c.argTypes args K
  |.value f=>BI t f λf=>match f with
   |.fn f a b=>FW P f a b args K
   |.yl l=>K (.yield l args)
   |_=>zn
  |.invoke n j=>BI t n λr=>FW P (.method j) [r] [] args K
 |.defer c=>Ow t c.args.toList λargs=>match c.callee with
  |.builtin b=>K (.dfr (.bi b c.argTypes o.type args))
  |.value f=>BI t f λf=>match f with
   |.fn (.func g) a b=>K (.dfr (.call (.fn (.func g) a b) args))
   |_=>zn
  |.invoke _ _=>zn
 |_=>zn
end
end
section
variable[Pi.Gl]
open Pi (T lget Hw)
@[reducible] def AO:List (Bool×Ty)->Type
 |[]=>Unit
 |[p]=>p.2.den
 |p::q::r=>p.2.den×AO (q::r)
structure Sg where
 dom:List (Bool×Ty)
 cod:List (Bool×Ty)
 fn:AO dom->Option (AO cod)
abbrev Dx:=FuncId->Option (Option Sg)
def Ej:(l:List (Bool×Ty))->AO l->List V
 |[],_=>[]
 |[p],x=>[elP p.1 p.2 x]
 |p::q::r,x=>elP p.1 p.2 x.1::Ej (q::r) x.2
def Q8:(l:List (Bool×Ty))->AO l->V
 |[],_=>.tup []
 |[(zf,.sl g c)],x=>.lf zf g c x
 |[p],x=>elP p.1 p.2 x
 |p::q::r,x=>.tup (Ej (p::q::r) x)
inductive Cv where
 |p|m|f|i
def Cv.v:Cv->V
 |.p=>.nilp
 |.m=>.nilm
 |.f=>.nilf
 |.i=>.nili
def Si:Cv->V->Bool
 |.p,v=>match v with
  |.nilp=>zt
  |_=>zf
 |.m,v=>match v with
  |.nilm=>zt
  |_=>zf
 |.f,v=>match v with
  |.nilf=>zt
  |_=>zf
 |.i,v=>match v with
  |.nili=>zt
  |_=>zf
inductive Sgm where
 |lf (c:Ty)
 |ow (g:Bool) (c:Ty) (ex:Bool)
 |kp (id:Nat)
 |cn (c:Cv)
 |er (t n tF:Nat) (k:IntKind)
 |ek (t n:Nat)
 |ef (tF:Nat) (k:IntKind)
@[reducible] def Sgm.den:Sgm->Type
 |.lf c=>c.den
 |.ow _ c _=>List c.den
 |.kp _=>Unit
 |.cn _=>Unit
 |.er _ _ _ _=>Int×Int
 |.ek _ _=>Unit
 |.ef _ _=>Int
@[reducible] def DY:List Sgm->Type
 |[]=>Unit
 |[p]=>p.den
 |p::q::r=>p.den×DY (q::r)
inductive Pl where
 |slot (k:Nat) (g:Bool) (c:Ty)
 |srow (k:Nat) (g:Bool) (c:Ty) (ex:Bool)
 |swin (k:Nat) (g:Bool) (c:Ty)
 |cn (k:Nat) (c:Cv)
 |box (id:Nat) (sg:List Sgm)
 |map (id:Nat) (k:Ty) (g:Bool) (c:Ty)
@[reducible] def Pl.den:Pl->Type
 |.slot _ _ c=>c.den
 |.srow _ _ c _=>List c.den
 |.swin _ _ c=>List c.den×Nat
 |.cn _ _=>Unit
 |.box _ sg=>DY sg
 |.map _ k _ c=>List (k.den×c.den)
@[reducible] def Au:List Pl->Type
 |[]=>Unit
 |[p]=>p.den
 |p::q::r=>p.den×Au (q::r)
inductive ExK where
 |exit (id:Nat)
 |ret
 |pan (t:TypeId) (g:Bool) (c:Ty)
abbrev VI{α β:Type}(b:Bool)(f:α->Option (LR α β))(s:α):Option β:=match b with
 |true=>QI f s
 |false=>loop f s
theorem Sl{α β:Type}(b:Bool)(f:α->Option (LR α β))(s:α):VI b f s=loop f s:=by cases b;rfl;exact QJ f s
structure Tm where
 keep:List Nat
 kb:List Nat
 pl:List Pl
 ex:List (ExK×List (Nat×Nat×Option Code))
 pay:Ty
 plx:List Pl:=pl
 rel:List (Nat×Nat):=[]
 relS:List Nat:=[]
 st:Bool:=zf
structure Jn where
 keep:List Nat
 kb:List Nat
 pl0:List Pl
 pl1:List Pl
 ex:List (ExK×List (Nat×Nat×Option Code))
 pay:Ty
inductive An where
 |loop (tm:Tm)
 |join (j:Jn)
abbrev H8:=FuncId->Nat->Nat->Option An
section
variable{β:Type}
def Bz(h:H):(l:List (Bool×Ty))->List V->(AO l->Option β)->Option β
 |[],vs,K=>match vs with
  |[]=>K ()
  |_=>zn
 |[p],vs,K=>match vs with
  |[v]=>F8 h p.1 p.2 v K
  |_=>zn
 |p::q::r,vs,K=>match vs with
  |v::vs=>F8 h p.1 p.2 v λx=>Bz h (q::r) vs λy=>K (x,y)
  |_=>zn
def Fl:List V->List Nat
 |[]=>[]
 |.ow id::l=>id::Fl l
 |.own id _ _::l=>id::Fl l
 |_::l=>Fl l
def DT(l:List V):List Nat:=l.flatMap λv=>Fl v.cells
def B7:List (Bool×Ty)->Bool
 |[]=>zf
 |p::l=>p.2.hasSl||B7 l
def Ty.leaf:Ty->Bool
 |.unit | .pair _ _=>zf
 |_=>zt
def Cy(l:List (Bool×Ty)):Bool:=l.all λp=>ad p.2.depth 4&&(p.1||p.2.leaf)
def Df(h:H)(sg:Sg)(args:List V)(K:V->H->Option β):Option β:=
 bif !Cy sg.dom || !Cy sg.cod then zn else Bz h sg.dom args λx=>CO (bif B7 sg.cod then CD h (DT args)else zo h) λh=>bd (sg.fn x) λy=>K (Q8 sg.cod y) h
def LZ(h:H)(id:Nat):(sg:Sg)->List V->(V->H->Option β)->Option β
 |⟨dom,[(zf,.sl g c)],a⟩,args,K=>bif !Cy dom || !ad c.depth 3 then zn else Bz h dom args λx=>CO (bif c.hasSl then CD h (DT args)else zo h) λh=>bd (a x) λy=>K (.ow id) (AG h id (.row g c y zf zf zf))
 |_,_,_=>zn
def C1:Nat:=1048576
def C2:Nat:=2097152
def SN(f:Nat):Nat:=bif ae f C1 then f else f-C1
def getD(a:Dx)(f:FuncId):Option Sg:=bif ae f C1 then(match a f with
 |some r=>r
 |none=>match a (f+C1)with
  |some r=>r
  |none=>zn)else zn
def getR(a:Dx)(f:FuncId):Option Sg:=bif ae f C1 then(match a (f+C2)with
 |some r=>r
 |none=>zn)else zn
def I4:Nat:=3145728
def TP:Bool×Ty->Bool
 |(zt,.pair _ .unit)=>zt
 |_=>zf
def getP(a:Dx)(f:FuncId):Option Sg:=bif ae f C1 then(match a (f+I4)with
 |some r=>r
 |none=>zn)else zn
def NM:Nat:=4194304
def getL(a:Dx)(f:FuncId):Option Sg:=bif ae f C1 then(match a (f+NM)with
 |some r=>r
 |none=>zn)else zn
def E0(h:H):List (Bool×Ty)->List V->Option (List V×List Nat)
 |p::l,v::vs=>match E0 h l vs with
  |some a=>bif TP p then(match v with
    |.ptr j off=>(match h.get j with
     |some (.box cs _ _)=>bif ae off cs.length then zo (.agg (cs.drop off)::a.1,j::a.2)else zn
     |_=>zn)
    |_=>zn)else zo (v::a.1,a.2)
  |none=>zn
 |_,vs=>zo (vs,[])
def TX:V->V
 |.agg cs=>.pv cs
 |v=>v
def Q9:List (Bool×Ty)->List V->List V
 |p::l,v::vs=>(bif TP p then TX v else v)::Q9 l vs
 |_,vs=>vs
inductive TgA where
 |fn (f:FuncId)
 |yl (id:Nat)
abbrev IM:=(β:Type)->TgA->Option UMA->List V->H->Nat->(OutA->Option UMA->H->Nat->Option β)->Option β
abbrev KA(β:Type):=ExA->FrA->H->Nat->Option β
def He(fr:FrA)(a:Option Nat)(v:V)(K:FrA->Option β):Option β:=match a with
 |none=>K fr
 |some d=>bif ae d fr.nt then K { fr with t:=T.put 20 fr.t d v }else zn
def Ka(ops:List Oper)(t:T V)(g:Option (Nat×Bool))(a c:T V->Option β):Option β:=match g with
 |none=>a t
 |some (j,want)=>match lget ops j with
  |some o=>match o.dst with
   |some d=>match t.get d with
    |some (.bool b)=>br b (λ_=>bif want then a (T.put 20 t d (.bool zt))else c (T.put 20 t d (.bool zt))) (λ_=>bif want then c (T.put 20 t d (.bool zf))else a (T.put 20 t d (.bool zf)))
    |some (.tup [])=>c t
    |_=>zn
   |none=>zn
  |none=>zn
def Bq(P:Program)(a:Dx)(rec:IM)(base:Nat)(ops:List Oper):List (Nat×Oper)->FrA->H->Nat->KA β->Option β
 |[],fr,h,nx,K=>K .normal fr h nx
 |(i,o)::r,fr,h,nx,K=>Ka ops fr.t o.guard
  (λt=>UP P t h (base+i) o fun
   |.val v h=>He { fr with t } o.dst v λfr=>Bq P a rec base ops r fr h nx K
   |.skip h=>He { fr with t } o.dst (.tup []) λfr=>Bq P a rec base ops r fr h nx K
   |.dfr d=>match fr.ro with
    |none=>He { fr with t,ds:=d::fr.ds } o.dst (.tup []) λfr=>Bq P a rec base ops r fr h nx K
    |some _=>zn
   |.call f args=>match a f with
    |some zn=>zn
    |some (zo sg)=>bif !ae f C1 then zn else(match getR a f with
     |some sg=>LZ h (base+i) sg args λv h=>He { fr with t } o.dst v λfr=>Bq P a rec base ops r fr h nx K
     |none=>Df h sg args λv h=>He { fr with t } o.dst v λfr=>Bq P a rec base ops r fr h nx K)
    |none=>rec β (.fn f) zn args h nx λo' _ h nx=>match o' with
     |.ret v=>He { fr with t } o.dst v λfr=>Bq P a rec base ops r fr h nx K
     |.pan [{ v,recovered:=zf }]=>K (.panic v) { fr with t } h nx
     |_=>zn
   |.yield l args=>rec β (.yl l) zn args h nx λo' _ h nx=>match o' with
     |.ret v=>He { fr with t } o.dst v λfr=>Bq P a rec base ops r fr h nx K
     |_=>zn
   |.pan v=>K (.panic v) { fr with t } h nx
   |.rcv=>match fr.ro with
    |some _=>zn
    |none=>match fr.up with
     |some (.pan ({ v,recovered:=zf }::older))=>He { fr with t,up:=zo (.pan ({ v,recovered:=zt }::older)) } o.dst v λfr=>Bq P a rec base ops r fr h nx K
     |_=>He { fr with t } o.dst .nili λfr=>Bq P a rec base ops r fr h nx K)
  (λt=>He { fr with t } o.dst (.tup []) λfr=>Bq P a rec base ops r fr h nx K)
def AR:Op->Nat
 |.move _ | .assign _ | .pick _ _ _ | .build _ _ | .nilCheck _ | .binOp _ _ _ _ _ | .unOp _ _ _ | .convert _ _ _ | .makeInterface _ _ | .makeFunc _ _ _ | .fieldAddr _ _ _ | .field _ _ _ | .index _ _ _ | .typeAssert _ _ _ _ | .extract _ _=>0
 |.load _ _ | .indexAddr _ _ _=>1
 |.slice _ _ _ _ zn=>1
 |.slice _ _ _ _ (zo _)=>4
 |.call c=>match c.callee with
  |.builtin b=>match b with
   |.len | .cap | .max | .min=>1
   |.append | .copy=>4
   |_=>9
  |_=>9
 |.buildSlice _ _ _=>4
 |.alloc _ | .box _ _ | .makeMap _ zn | .makeSlice _ _ _=>2
 |.store _ _ _=>3
 |_=>9
def Gv(h:H)(id:Nat):Bool:=match h.get id with
 |some .dead=>zf
 |some _=>zt
 |none=>zf
def SG(h:H):V->Bool
 |.ow id | .own id _ _ | .ptr id _ | .ept id _ _ | .aptr id _ _ _ | .mp id=>Gv h id
 |.dd=>zf
 |_=>zt
def Gw(h:H)(t:T V):List Operand->Bool
 |[]=>zt
 |.tmp k::l=>(match t.get k with
  |some v=>SG h v
  |none=>zf)&&Gw h t l
 |_::l=>Gw h t l
def O0(t:T V):List Operand->Option (List Nat×Bool)
 |[]=>zo ([],zf)
 |.tmp k::l=>match t.get k with
  |some (.ow id)|some (.own id _ _)|some (.ptr id _)|some (.ept id _ _)|some (.aptr id _ _ _)|some (.mp id)=>(O0 t l).map λa=>(id::a.1,a.2)
  |some (.lf _ _ _ _)|some (.view _)=>(O0 t l).map λa=>(a.1,zt)
  |some .dd=>zn
  |some _=>O0 t l
  |none=>zn
 |_::l=>O0 t l
def Ti(f:V->Option (List Nat×Bool)):List V->Option (List Nat×Bool)
 |[]=>zo ([],zf)
 |v::vs=>match f v,Ti f vs with
  |some a,zo b=>zo (a.1++b.1,a.2||b.2)
  |_,_=>zn
def Qp(h:H)(id:Nat):Bool:=match h.get id with
 |some (.row _ c _ _ _ _)=>c.hasSl
 |_=>zt
def UQ(h:H):Nat->V->Option (List Nat×Bool)
 |0,_=>zn
 |n+1,v=>match v with
  |.bool _ | .int _ _ | .str _ | .nils | .pl _ _ _ | .exl _ _=>zo ([],zf)
  |.lf _ _ _ _=>zo ([],zt)
  |.ow id | .own id _ _=>bif Gv h id then zo ([id],Qp h id)else zn
  |.agg cs=>Ti (UQ h n) cs
  |_=>zn
def RW(h:H)(t:T V):List Operand->Option (List Nat×Bool)
 |[]=>zo ([],zf)
 |.tmp k::l=>match t.get k with
  |some v=>(match UQ h 6 v,RW h t l with
   |some a,zo b=>zo (a.1++b.1,a.2||b.2)
   |_,_=>zn)
  |none=>zn
 |_::l=>RW h t l
def RX(t:T V):List Operand->Option (List Nat×Bool)
 |[]=>zo ([],zf)
 |.tmp k::l=>match t.get k with
  |some (.mp id)=>(RX t l).map λa=>(id::a.1,a.2)
  |some _=>RX t l
  |none=>zn
 |_::l=>RX t l
def BL(h:H)(l:List V):Option (List Nat×Bool):=Ti (UQ h 6) l
def Th(js:List Nat)(o:Option (List Nat×Bool)):Option (List Nat×Bool):=o.map λa=>(js++a.1,a.2)
def Sr(t:T V):Op->Bool
 |.slice _ (.tmp k) _ _ (zo _)=>match t.get k with
  |some (.pl _ _ _)|some .nils=>zt
  |_=>zf
 |.slice _ _ _ _ (zo _)=>zf
 |_=>zt
def fp(h:H)(t:T V)(o:Op):Option (List Nat×Bool):=match o with
 |.load _ _ | .indexAddr _ _ _ | .slice _ _ _ _ zn | .store _ _ _=>O0 t (Pi.Az o)
 |.slice _ x _ _ (zo _)=>RW h t [x]
 |.buildSlice _ _ parts=>RW h t (parts.toList.map (·.2))
 |.call c=>match c.callee with
  |.builtin b=>(match b with
   |.len=>RX t c.args.toList
   |.cap | .max | .min | .append | .copy=>O0 t c.args.toList
   |_=>zn)
  |_=>zn
 |.alloc _ | .box _ _ | .makeMap _ zn | .makeSlice _ _ _=>zo ([],zf)
 |_=>zn
def Jj(v:V):Option (List Nat×Bool)->Option (List Nat×Bool)
 |some a=>match v with
  |.ow id | .own id _ _ | .ptr id _ | .ept id _ _ | .aptr id _ _ _ | .mp id=>zo (id::a.1,a.2)
  |.lf _ _ _ _ | .view _=>zo (a.1,zt)
  |.dd=>zn
  |_=>zo a
 |none=>zn
def MA:List (Bool×Ty)->Bool
 |[(zf,.sl _ _)]=>zt
 |_=>zf
def Lw(h:H):List Nat->Bool
 |[]=>zt
 |j::l=>Gv h j&&Lw h l
def ME(h:H):List Nat->Bool
 |[]=>zt
 |j::l=>(h.get j).isSome&&ME h l
def Tj(h:H):Option (List Nat×Bool)->Option (List Nat×Bool)->Bool
 |some a,zo b=> !Pi.Cj a.1 b.1&&(!(a.2&&b.2)&&(Lw h a.1&&ME h b.1))
 |_,_=>zf
def DV(h:H)(a c:Nat)(f:Option (List Nat×Bool)):List (Nat×Nat×Option (List Nat×Bool))->Bool
 |[]=>zt
 |(j,d,g)::l=>(Pi.F4 a j||(aa c 0||(aa c 2||(aa d 0||(aa c 1&&aa d 1||Tj h f g)))))&&DV h a c f l
def CU:Op->Bool
 |.call c=>match c.callee with
  |.builtin _=>zf
  |_=>zt
 |_=>zf
def H6(t:T V)(nt:Nat)(a:Option Nat)(v:V)(K:T V->Option β):Option β:=match a with
 |some d=>bif ae d nt then K (T.put 20 t d v)else zn
 |none=>K t
def BS(P:Program)(b:Dx)(base nt:Nat)(ops:List Oper):Nat->List Oper->List Pi.Mk->List (Nat×Nat×Option (List Nat×Bool))->T V->H->(T V->H->Option β)->Option β
 |i,o::l,m::ms,past,t,h,K=>Ka ops t o.guard
  (λt=>bif !Pi.Av o.op then zn else
   UP P t h (base+i) o fun
    |.val v c=>bif (ad (AR o.op) 2||aa (AR o.op) 4)&&(Sr t o.op&&(Gw h t (Pi.Az o.op)&&DV h m.bef (AR o.op) (fp h t o.op) past))then H6 t nt o.dst v λd=>BS P b base nt ops (i+1) l ms ((i,AR o.op,bif ad (AR o.op) 1 then fp h t o.op else Jj v (fp h t o.op))::past) d c K else zn
    |.skip c=>bif aa (AR o.op) 3&&(Gw h t (Pi.Az o.op)&&DV h m.bef 3 (fp h t o.op) past)then H6 t nt o.dst (.tup []) λd=>BS P b base nt ops (i+1) l ms ((i,3,fp h t o.op)::past) d c K else zn
    |.call f args=>match getR b f with
     |some sg=>bif !CU o.op || !DV h m.bef 4 (BL h args) past then zn else LZ h (base+i) sg args λv c=>H6 t nt o.dst v λt=>BS P b base nt ops (i+1) l ms ((i,4,Jj v (BL h args))::past) t c K
     |none=>match getL b f with
     |some sg=>bif !CU o.op then zn else bif !DV h m.bef 4 (BL h args) past then zn else Df h sg args λv c=>H6 t nt o.dst v λt=>BS P b base nt ops (i+1) l ms ((i,4,BL h args)::past) t c K
     |none=>match getD b f with
      |some sg=>bif !CU o.op then zn else bif B7 sg.cod then
        (bif !DV h m.bef 4 (BL h args) past then zn else Df h sg args λv c=>H6 t nt o.dst v λt=>BS P b base nt ops (i+1) l ms ((i,4,bif MA sg.cod then Jj v (BL h args)else BL h args)::past) t c K)
       else bif !DV h m.bef 1 (BL h args) past then zn else Df h sg args λv c=>H6 t nt o.dst v λt=>BS P b base nt ops (i+1) l ms ((i,1,BL h args)::past) t c K
      |none=>match getP b f with
       |some sg=>bif !CU o.op||B7 sg.cod then zn else CO (E0 h sg.dom args) λa=>bif !DV h m.bef 1 (Th a.2 (BL h a.1)) past then zn else Df h sg a.1 λv c=>H6 t nt o.dst v λt=>BS P b base nt ops (i+1) l ms ((i,1,Th a.2 (BL h a.1))::past) t c K
       |none=>zn
    |_=>zn)
  (λt=>H6 t nt o.dst (.tup []) λt=>BS P b base nt ops (i+1) l ms past t h K)
 |_,[],_,_,t,h,K=>K t h
 |_,_,_,_,_,_,_=>zn
def Mv(P:Program)(a:Dx)(base:Nat)(ops:List Oper)(fr:FrA)(h:H)(K:FrA->H->Option β):Option β:=
 CO (Pi.Fa ops 0 ops []) λb=>BS P a base fr.nt ops 0 ops b [] fr.t h λt h=>K { fr with t } h
end
def BA.locked:BA->Bool
 |.box _ _ lk=>lk
 |.row _ _ _ _ _ lk=>lk
 |.mp _ _ _ _ lk=>lk
 |_=>zf
def BW(t:T V):List Nat->T V
 |[]=>.lf
 |k::l=>match t.get k with
  |some v=>T.put 20 (BW t l) k v
  |none=>BW t l
def DU:BA->BA
 |.box cs fz _=>.box cs fz zt
 |.row g c l ex fz _=>.row g c l ex fz zt
 |.mp k g c l _=>.mp k g c l zt
 |b=>b
def BV(h:H)(f:BA->BA):List Nat->H
 |[]=>.lf
 |k::l=>match h.get k with
  |some .dead=>BV h f l
  |some b=>T.put 20 (BV h f l) k (f b)
  |none=>BV h f l
section
variable{β:Type}
def MM(h:H)(g:Bool)(c:Ty)(ex:Bool)(v:V)(K:List c.den->Option β):Option β:=match v with
 |.nils=>bif ex then zn else K []
 |.ow id=>match h.get id with
  |some (.row g' _ l ex' zf zf)=>bif g == g'&&ex == ex' then Cw l K else zn
  |_=>zn
 |_=>zn
def P9(t n:Nat):V->Bool
 |.ifc a v=>match v with
  |.gk m=>aa a t&&aa m n
  |_=>zf
 |_=>zf
def Pq(a:Nat)(k:IntKind)(v:V)(K:Int->Option β):Option β:=match v with
 |.ifc t' (.agg [.int k' e])=>bif aa t' a&&k' == k then K e else zn
 |_=>zn
def RS(t n a:Nat)(k:IntKind)(v:V)(K:Int×Int->Option β):Option β:=bif Si .i v then K (0,0)else bif P9 t n v then K (1,0)else Pq a k v λe=>K (2,e)
def Bn(h:H):(l:List Sgm)->List V->(DY l->Option β)->Option β
 |[],cs,K=>match cs with
  |[]=>K ()
  |_=>zn
 |[.lf c],cs,K=>D1 .lf c cs λx r=>match r with
  |[]=>K x
  |_=>zn
 |[.ow g c ex],cs,K=>match cs with
  |[v]=>MM h g c ex v K
  |_=>zn
 |.lf c::q::r,cs,K=>D1 .lf c cs λx cs=>Bn h (q::r) cs λy=>K (x,y)
 |.ow g c ex::q::r,cs,K=>match cs with
  |v::cs=>MM h g c ex v λx=>Bn h (q::r) cs λy=>K (x,y)
  |_=>zn
 |[.kp id],cs,K=>match cs with
  |[.ow j]=>bif aa j id then K ()else zn
  |_=>zn
 |.kp id::q::r,cs,K=>match cs with
  |.ow j::cs=>bif aa j id then Bn h (q::r) cs λy=>K ((),y)else zn
  |_=>zn
 |[.cn c],cs,K=>match cs with
  |[v]=>bif Si c v then K ()else zn
  |_=>zn
 |.cn c::q::r,cs,K=>match cs with
  |v::cs=>bif Si c v then Bn h (q::r) cs λy=>K ((),y)else zn
  |_=>zn
 |[.er t n tF k],cs,K=>match cs with
  |[v]=>RS t n tF k v K
  |_=>zn
 |.er t n tF k::q::r,cs,K=>match cs with
  |v::cs=>RS t n tF k v λx=>Bn h (q::r) cs λy=>K (x,y)
  |_=>zn
 |[.ek t n],cs,K=>match cs with
  |[v]=>bif P9 t n v then K ()else zn
  |_=>zn
 |.ek t n::q::r,cs,K=>match cs with
  |v::cs=>bif P9 t n v then Bn h (q::r) cs λy=>K ((),y)else zn
  |_=>zn
 |[.ef tF k],cs,K=>match cs with
  |[v]=>Pq tF k v K
  |_=>zn
 |.ef tF k::q::r,cs,K=>match cs with
  |v::cs=>Pq tF k v λx=>Bn h (q::r) cs λy=>K (x,y)
  |_=>zn
def EM(h:H)(g:Bool)(c:Ty)(v:V)(K:List c.den×Nat->Option β):Option β:=match v with
 |.own j off len=>match h.get j with
  |some (.row g' _ l zt zf zf)=>bif g == g'&&aa off 0 then Cw l λl=>K (l,len)else zn
  |_=>zn
 |_=>zn
def Gf(t:T V)(h:H):(p:Pl)->(p.den->Option β)->Option β
 |.slot k g c,K=>CO (t.get k) λv=>F8 .lf g c v K
 |.srow k g c ex,K=>CO (t.get k) λv=>MM h g c ex v K
 |.swin k g c,K=>CO (t.get k) λv=>EM h g c v K
 |.cn k c,K=>CO (t.get k) λv=>bif Si c v then K ()else zn
 |.box id sg,K=>match h.get id with
  |some (.box cs zf zf)=>Bn h sg cs K
  |_=>zn
 |.map id k g c,K=>match h.get id with
  |some (.mp _ g' _ l zf)=>bif g == g' then SC l K else zn
  |_=>zn
def Cl(t:T V)(h:H):(l:List Pl)->(Au l->Option β)->Option β
 |[],K=>K ()
 |[p],K=>Gf t h p K
 |p::q::r,K=>Gf t h p λx=>Cl t h (q::r) λy=>K (x,y)
end
def SZ(t n a:Nat)(k:IntKind)(x:Int×Int):V:=if x.1=0 then .nili else if x.1=1 then .ifc t (.gk n)else .ifc a (.agg [.int k x.2])
def A5(h:H)(nx:Nat):(l:List Sgm)->DY l->List V×H×Nat
 |[],_=>([],h,nx)
 |[.lf c],x=>(cells c x,h,nx)
 |[.ow g c ex],l=>([.ow nx],AG h nx (.row g c l ex zf zf),nx+1)
 |.lf c::q::r,x=>match A5 h nx (q::r) x.2 with
  |(cs,h,nx)=>(cells c x.1++cs,h,nx)
 |.ow g c ex::q::r,x=>match A5 (AG h nx (.row g c x.1 ex zf zf)) (nx+1) (q::r) x.2 with
  |(cs,h,n')=>(.ow nx::cs,h,n')
 |[.kp id],_=>([.ow id],h,nx)
 |.kp id::q::r,x=>match A5 h nx (q::r) x.2 with
  |(cs,h,n')=>(.ow id::cs,h,n')
 |[.cn c],_=>([c.v],h,nx)
 |.cn c::q::r,x=>match A5 h nx (q::r) x.2 with
  |(cs,h,n')=>(c.v::cs,h,n')
 |[.er t n tF k],x=>([SZ t n tF k x],h,nx)
 |.er t n tF k::q::r,x=>match A5 h nx (q::r) x.2 with
  |(cs,h,n')=>(SZ t n tF k x.1::cs,h,n')
 |[.ek t n],_=>([.ifc t (.gk n)],h,nx)
 |.ek t n::q::r,x=>match A5 h nx (q::r) x.2 with
  |(cs,h,n')=>(.ifc t (.gk n)::cs,h,n')
 |[.ef tF k],x=>([.ifc tF (.agg [.int k x])],h,nx)
 |.ef tF k::q::r,x=>match A5 h nx (q::r) x.2 with
  |(cs,h,n')=>(.ifc tF (.agg [.int k x.1])::cs,h,n')
def Bp(t:T V)(h:H)(nx:Nat):(p:Pl)->p.den->T V×H×Nat
 |.slot k g c,x=>(T.put 20 t k (Ol g c x),h,nx)
 |.srow k g c ex,l=>(T.put 20 t k (.ow nx),AG h nx (.row g c l ex zf zf),nx+1)
 |.swin k g c,x=>(T.put 20 t k (.own nx 0 x.2),AG h nx (.row g c x.1 zt zf zf),nx+1)
 |.cn k c,_=>(T.put 20 t k c.v,h,nx)
 |.box id sg,x=>match A5 h nx sg x with
  |(cs,h,nx)=>(t,AG h id (.box cs zf zf),nx)
 |.map id k g c,l=>(t,AG h id (.mp k g c l zf),nx)
def Ab(t:T V)(h:H)(nx:Nat):(l:List Pl)->Au l->T V×H×Nat
 |[],_=>(t,h,nx)
 |[p],x=>Bp t h nx p x
 |p::q::r,x=>match Bp t h nx p x.1 with
  |(t,h,nx)=>Ab t h nx (q::r) x.2
def AV:List Pl->List Nat
 |[]=>[]
 |.box id _::l | .map id _ _ _::l=>id::AV l
 |_::l=>AV l
def RB:V->List Nat
 |.own id _ _=>[id]
 |_=>[]
def B6:V->List Nat
 |.ow id=>[id]
 |_=>[]
def As:List Sgm->List V->List Nat
 |[],_=>[]
 |.lf c::r,cs=>As r (cs.drop c.wd)
 |.ow _ _ _::r,cs=>(match cs with
  |v::_=>B6 v
  |[]=>[])++As r (cs.drop 1)
 |.kp _::r,cs=>As r (cs.drop 1)
 |.cn _::r,cs=>As r (cs.drop 1)
 |.er _ _ _ _::r,cs | .ek _ _::r,cs | .ef _ _::r,cs=>As r (cs.drop 1)
def A1(t:T V)(h:H):List Pl->List Nat
 |[]=>[]
 |.slot _ _ _::l=>A1 t h l
 |.cn _ _::l=>A1 t h l
 |.map id _ _ _::l=>id::A1 t h l
 |.srow k _ _ _::l=>(match t.get k with
  |some v=>B6 v
  |none=>[])++A1 t h l
 |.swin k _ _::l=>(match t.get k with
  |some v=>RB v
  |none=>[])++A1 t h l
 |.box id sg::l=>(match h.get id with
  |some (.box cs _ _)=>As sg cs
  |_=>[])++id::A1 t h l
def Be:List Nat->Bool
 |[]=>zt
 |a::l=> !l.any (aa a)&&Be l
def Hx(nx:Nat):List Sgm->Bool
 |[]=>zt
 |.kp id::l=>ae id nx&&Hx nx l
 |.lf _::l | .ow _ _ _::l=>Hx nx l
 |.cn _::l | .er _ _ _ _::l | .ek _ _::l | .ef _ _::l=>Hx nx l
def Am(nt nx:Nat):List Pl->Bool
 |[]=>zt
 |.slot k _ _::l | .srow k _ _ _::l | .swin k _ _::l=>ae k nt&&Am nt nx l
 |.box _ sg::l=>Hx nx sg&&Am nt nx l
 |.map _ _ _ _::l=>Am nt nx l
 |.cn k _::l=>ae k nt&&Am nt nx l
def C7(h:H)(n:Nat)(l:List Nat):List Nat:=l++(bh n).filter λi=>(match h.get i with
 |some c=>c.locked
 |none=>zf) && !l.any (aa i)
def CZ:Code->Option Nat
 |.region id _ _=>zo id
 |.seq a b=>match CZ a with
  |some i=>zo i
  |none=>CZ b
 |.cond _ a b=>match CZ a with
  |some i=>zo i
  |none=>CZ b
 |.block _ b | .loop b | .scope b=>CZ b
 |.rangeFunc _ _ a b=>match CZ a with
  |some i=>zo i
  |none=>CZ b
 |_=>zn
def Dk:Code->Option Nat
 |.region id _ _=>zo id
 |.seq a b=>match Dk b with
  |some i=>zo i
  |none=>Dk a
 |.cond _ a b=>match Dk b with
  |some i=>zo i
  |none=>Dk a
 |.block _ b | .loop b | .scope b=>Dk b
 |.rangeFunc _ _ a b=>match Dk b with
  |some i=>zo i
  |none=>Dk a
 |_=>zn
def S1(x:Code):Nat:=match CZ x,Dk x with
 |some i,zo k=>1000000+(i*1000+k)
 |_,_=>0
def B3:Code->List Nat
 |.region _ ops _=>ops.toList.filterMap (·.dst)
 |.seq a b | .cond _ a b=>B3 a++B3 b
 |.block _ b | .loop b | .scope b=>B3 b
 |_=>[]
def Ho(h:H):List Nat->Bool
 |[]=>zt
 |id::l=>(match h.get id with
  |some (.df (zo []))=>zt
  |some (.df _)=>zf
  |_=>zt)&&Ho h l
def Gg(h:H):List Nat->List Nat
 |[]=>[]
 |id::l=>match h.get id with
  |some (.df _)=>id::Gg h l
  |_=>Gg h l
def F9(h:H):List Nat->Bool
 |[]=>zt
 |id::l=>(match h.get id with
  |some (.df (zo []))=>zt
  |_=>zf)&&F9 h l
def Fv(h:H):List (Nat×Nat×Option Code)->Bool
 |[]=>zt
 |(id,st,pd)::l=>(match h.get id with
  |some (.lp st' pd' _ _ _ _ _ _)=>aa st st'&&(match pd,pd' with
   |none,zn=>zt
   |some .ret,zo .ret=>zt
   |some (.exit i),zo (.exit j)=>aa i j
   |some (.goto i),zo (.goto j)=>aa i j
   |_,_=>zf)
  |_=>zf)&&Fv h l
def Cd(h:H):List (Nat×Nat×Option Code)->H
 |[]=>h
 |(id,st,pd)::l=>match h.get id with
  |some (.lp _ _ nt t ps asg body d)=>AG (Cd h l) id (.lp st pd nt t ps asg body d)
  |_=>Cd h l
def Bg(h:H):List Nat->List (Nat×Nat×Option Code)
 |[]=>[]
 |id::l=>match h.get id with
  |some (.lp st pd _ _ _ _ _ _)=>(id,st,pd)::Bg h l
  |_=>Bg h l
section
variable{β:Type}
def R0(h:H)(n:Nat)(v:V)(K:V->H->Option β):Option β:=match v with
 |.ow j=>match h.get j with
  |some (.row g c l _ _ zf)=>K (.lf zf g c l) (BV h (λb=>b) ((bh n).filter λi=> !aa i j))
  |_=>zn
 |.own j off len=>match h.get j with
  |some (.row g c l _ _ zf)=>gd (B5 (A0 off len) (AQ l)) λ_=>K (.lf zf g c (Db l off (A0 off len))) (BV h (λb=>b) ((bh n).filter λi=> !aa i j))
  |_=>zn
 |_=>zn
def Um(v:V)(K:V->Option β):Option β:=match v with
 |.ow _ | .own _ _ _=>K .dd
 |_=>zn
def Qn(n:Nat):List (Nat×Nat)->H->(H->Option β)->Option β
 |[],h,K=>K h
 |(b,i)::r,h,K=>match h.get b with
  |some (.box cs fz zf)=>bif ad 1000000 i then CO (lget cs (i-1000000)) λv=>Um v λa=>Qn n r (AG h b (.box (Pi.lset cs (i-1000000) a) fz zf)) K
   else CO (lget cs i) λv=>R0 h n v λa h'=>Qn n r (AG h' b (.box (Pi.lset cs i a) fz zf)) K
  |_=>zn
def Rz(n:Nat):List Nat->FrA->H->(FrA->H->Option β)->Option β
 |[],fr,h,K=>K fr h
 |k::r,fr,h,K=>bif ae k 1048575 then CO (fr.t.get k) λv=>R0 h n v λa h'=>Rz n r { fr with t:=T.put 20 fr.t k a } h' K else zn
def Tf(h:H)(ex:ExA)(pay:Ty):ExK->(pay.den->Option β)->Option β
 |.exit i,K=>match ex with
  |.exit j=>bif aa i j then K (OZ pay)else zn
  |_=>zn
 |.ret,K=>match ex with
  |.ret=>K (OZ pay)
  |_=>zn
 |.pan t g c,K=>match ex with
  |.panic (.ifc t' v)=>bif aa t t' then(if e:c=pay then F8 .lf g c v λx=>K (e ▸ x)else zn)else zn
  |_=>zn
def Tn(ex:ExA):ExK->Bool
 |.exit i=>match ex with
  |.exit j=>aa i j
  |_=>zf
 |.ret=>match ex with
  |.ret=>zt
  |_=>zf
 |.pan t _ _=>match ex with
  |.panic (.ifc t' _)=>aa t t'
  |_=>zf
def HP(h:H)(a:List Nat)(ex:ExA)(pay:Ty):Nat->List (ExK×List (Nat×Nat×Option Code))->(Nat->pay.den->Option β)->Option β
 |_,[],_=>zn
 |i,(k,lp)::l,K=>bif Tn ex k&&(Fv h lp&&(lp.map (·.1)) == a)then Tf h ex pay k (K i)else HP h a ex pay (i+1) l K
def KS(pay:Ty)(x:pay.den):ExK->ExA
 |.exit i=>.exit i
 |.ret=>.ret
 |.pan t g c=>if e:c=pay then .panic (.ifc t (Ol g c (e ▸ x)))else .normal
def MO(pay:Ty)(x:pay.den)(n:Nat):Nat->List (ExK×List (Nat×Nat×Option Code))->(ExA->List (Nat×Nat×Option Code)->Option β)->Option β
 |_,[],_=>zn
 |_,[(k,lp)],K=>K (KS pay x k) lp
 |i,(k,lp)::e::l,K=>br (neq n i) (λ_=>K (KS pay x k) lp) λ_=>MO pay x n (i+1) (e::l) K
end
def S2(p:Sgm)(x:p.den):(l:List Sgm)->DY l->DY (p::l)
 |[],_=>x
 |_::_,y=>(x,y)
def Sq(p:Pl)(x:p.den):(l:List Pl)->Au l->Au (p::l)
 |[],_=>x
 |_::_,y=>(x,y)
section
variable{β:Type}
def OL:(p:Sgm)->p.den->((a:Sgm)->a.den->Option β)->Option β
 |.er t n tF k,x,K=>br (PW x.1 0) (λ_=>K (.cn .i) ()) λ_=>br (PW x.1 1) (λ_=>K (.ek t n) ()) λ_=>K (.ef tF k) x.2
 |p,x,K=>K p x
def NO:(l:List Sgm)->DY l->((l':List Sgm)->DY l'->Option β)->Option β
 |[],x,K=>K [] x
 |[p],x,K=>OL p x λa b=>K [a] b
 |p::q::r,x,K=>OL p x.1 λa b=>NO (q::r) x.2 λl' y=>K (a::l') (S2 a b l' y)
def QZ:(p:Pl)->p.den->((b:Pl)->b.den->Option β)->Option β
 |.box id sg,x,K=>NO sg x λa c=>K (.box id a) c
 |p,x,K=>K p x
def NN:(l:List Pl)->Au l->((l':List Pl)->Au l'->Option β)->Option β
 |[],x,K=>K [] x
 |[p],x,K=>QZ p x λa b=>K [a] b
 |p::q::r,x,K=>QZ p x.1 λa b=>NN (q::r) x.2 λl' y=>K (a::l') (Sq a b l' y)
def P5:List Pl->Bool
 |[]=>zf
 |.box _ sg::l=>sg.any (fun | .er _ _ _ _=>zt|_=>zf)||P5 l
 |_::l=>P5 l
def Qa(l:List Pl)(x:Au l)(K:(l':List Pl)->Au l'->Option β):Option β:=bif P5 l then NN l x K else K l x
end
def HA:Nat->List V->T V->T V
 |_,[],t=>t
 |i,a::l,t=>HA (i+1) l (T.put 20 t i a)
def Eh(nt:Nat):List Nat->List V->T V->Option (T V)
 |[],[],t=>zo t
 |p::ps,a::l,t=>bif ae p nt then Eh nt ps l (T.put 20 t p a)else zn
 |_,_,_=>zn
section
variable{β:Type}
def Gn(P:Program)(a:Dx)(ann:H8)(f:FuncId)(rec:IM):Nat->(β:Type)->Nat->Code->FrA->H->Nat->KA β->Option β
 |0,_,_,_,_,_,_,_=>zn
 |n+1,β,b,c,fr,h,nx,K=>match c with
  |.skip | .label _=>K .normal fr h nx
  |.seq x y=>match ann f (S1 x) nx with
   |some (.join j)=>
    let w:=AV j.pl0++AV j.pl1
    let kb:=C7 h nx j.kb
    bif fr.up.isSome || !Am fr.nt nx j.pl0 || !Am fr.nt nx j.pl1 || !j.keep.all (λk=>ae k 1048575)||(B3 x).any (λk=>j.keep.any (aa k)) || !Be (A1 fr.t h j.pl0++kb) || !(kb++w).all (λi=>ae i nx) || !Ho h kb||kb.any (λi=>w.any (aa i))then zn else
    let q:=Bg h kb
    let B:=Gg h kb
    Cl fr.t h j.pl0 λs0=>
    jn (α:=Au j.pl0) (β:=β) (γ:=Nat×Au j.pl1×j.pay.den) (δ:=Au j.pl1) (λs=>
      match Ab (BW fr.t j.keep) (BV h DU kb) nx j.pl0 s with
      |(t1,h1,nx1)=>bif !ad nx1 1048575 then zn else Gn P a ann f rec n (LR (Au j.pl1) (Nat×Au j.pl1×j.pay.den)) nx1 x { fr with t:=t1 } h1 nx1 λe m h' _=>
       bif !aa m.ds.length fr.ds.length || !F9 h' B then zn else match e with
       |.normal=>bif Be (A1 m.t h' j.pl1++kb)&&Fv h' q then Cl m.t h' j.pl1 λs'=>zo (.nx s')else zn
       |e=>bif Be (A1 m.t h' j.pl1++kb)then HP h' (q.map (·.1)) e j.pay 0 j.ex λi p=>Cl m.t h' j.pl1 λs'=>zo (.dn (i,s',p))else zn) s0
     (λs=>match Ab (BW fr.t j.keep) (Cd (BV h (λb=>b) kb) q) nx j.pl1 s with
      |(t1,h1,nx1)=>bif !ad nx1 1048575 then zn else Gn P a ann f rec n β b y { fr with t:=t1 } h1 nx1 K)
     (λx=>MO j.pay x.2.2 x.1 0 j.ex λe C=>match Ab (BW fr.t j.keep) (Cd (BV h (λb=>b) kb) C) nx j.pl1 x.2.1 with
      |(t1,h1,nx1)=>bif !ad nx1 1048575 then zn else K e { fr with t:=t1 } h1 nx1)
   |_=>Gn P a ann f rec n β b x fr h nx λe fr h nx=>match e with
    |.normal=>Gn P a ann f rec n β b y fr h nx K
    |e=>K e fr h nx
  |.cond c x y=>BI fr.t c λv=>match v with
   |.bool c=>br c (λ_=>Gn P a ann f rec n β b x fr h nx K) (λ_=>Gn P a ann f rec n β b y fr h nx K)
   |_=>zn
  |.block id x=>Gn P a ann f rec n β b x fr h nx λe fr h nx=>match e with
   |.exit j=>bif aa j id then K .normal fr h nx else K (.exit j) fr h nx
   |e=>K e fr h nx
  |.loop x=>match (match CZ x with
    |some i=>ann f i nx
    |none=>zn)with
   |some (.loop tm)=>
    Qn nx tm.rel h λh=>Rz nx tm.relS fr h λfr h=>
    let w:=AV tm.pl++AV tm.plx
    let kb:=C7 h nx tm.kb
    bif fr.up.isSome || !Am fr.nt nx tm.pl || !Am fr.nt nx tm.plx || !tm.keep.all (λk=>ae k 1048575)||(B3 x).any (λk=>tm.keep.any (aa k)) || !Be (A1 fr.t h tm.pl++kb) || !(kb++w).all (λi=>ae i nx) || !Ho h kb||kb.any (λi=>(AV tm.plx).any (aa i))then zn else
    let q:=Bg h kb
    let B:=Gg h kb
    Cl fr.t h tm.pl λs0=>
    bd (VI (α:=Au tm.pl) (β:=Nat×Au tm.plx×tm.pay.den) tm.st (λs=>
      match Ab (BW fr.t tm.keep) (BV h DU kb) nx tm.pl s with
      |(t1,h1,nx1)=>bif !ad nx1 1048575 then zn else Gn P a ann f rec n (LR (Au tm.pl) (Nat×Au tm.plx×tm.pay.den)) nx1 x { fr with t:=t1 } h1 nx1 λe m h' _=>
       bif !aa m.ds.length fr.ds.length || !F9 h' B then zn else match e with
       |.normal=>bif Be (A1 m.t h' tm.pl++kb)&&Fv h' q then Cl m.t h' tm.pl λs'=>zo (.nx s')else zn
       |e=>bif Be (A1 m.t h' tm.plx++kb)then HP h' (q.map (·.1)) e tm.pay 0 tm.ex λi p=>Cl m.t h' tm.plx λs'=>zo (.dn (i,s',p))else zn) s0) λx=>
    MO tm.pay x.2.2 x.1 0 tm.ex λe C=>Qa tm.plx x.2.1 λI J=>match Ab (BW fr.t tm.keep) (Cd (BV h (λb=>b) kb) C) nx I J with
    |(t1,h1,nx1)=>bif !ad nx1 1048575 then zn else K e { fr with t:=t1 } h1 nx1
   |_=>Gn P a ann f rec n β b x fr h nx λe fr h nx=>match e with
    |.normal=>Gn P a ann f rec n β b (.loop x) fr h nx K
    |e=>K e fr h nx
  |.scope x=>Gn P a ann f rec n β b x fr h nx λe fr h nx=>match e with
   |.goto _=>zn
   |e=>K e fr h nx
  |.exit id=>K (.exit id) fr h nx
  |.goto l=>K (.goto l) fr h nx
  |.ret=>K .ret fr h nx
  |.refuse _=>zn
  |.region _ ops draw=>bif !ad (nx+ops.size) 1048575 || !(ops.toList.all λo=>match o.dst with
    |some d=>ae d fr.nt
    |none=>zt)then zn else
    bif draw then(bif P.follows .mixedOrders || !Region.departs ops then Mv P a nx ops.toList fr h λfr h=>K .normal fr h (nx+ops.size)else zn)
    else Bq P a rec nx ops.toList (Hw 0 ops.toList) fr h (nx+ops.size) K
  |.rangeFunc g D A u=>bif !ad (nx+2) 1048575 then zn else BI fr.t g λv=>match v with
   |.fn g E F=>
    match (match fr.ro with
     |none=>zo (nx,[DFA.col nx],AG h nx (.df (zo [])))
     |some G=>(match h.get G with
      |some (.lp _ _ _ _ _ _ _ d0)=>zo (d0,[],h)
      |_=>zn))with
    |some (d,mark,h)=>FW P g E F [.yl (nx+1)] λr=>match r with
     |.call g args=>rec β (.fn g) zn args (AG h (nx+1) (.lp 0 zn fr.nt fr.t D.toList A u d)) (nx+2) λo _ h z=>match o with
      |.ret _=>(match h.get (nx+1)with
       |some (.lp st pend nt t D A u d)=>bif aa st 1 then zn else
        let h:=AG h (nx+1) (.lp 3 pend nt t D A u d)
        (match pend with
        |none=>K .normal { fr with ds:=mark++fr.ds } h z
        |some .ret=>K .ret { fr with ds:=mark++fr.ds } h z
        |some (.exit id)=>K (.exit id) { fr with ds:=mark++fr.ds } h z
        |some (.goto id)=>K (.goto id) { fr with ds:=mark++fr.ds } h z
        |_=>zn)
       |_=>zn)
      |_=>zn
     |_=>zn
    |none=>zn
   |_=>zn
def Jz(P:Program)(h:H)(t:T V):List ResultVar->(List V->Option β)->Option β
 |[],K=>K []
 |.tmp k::l,K=>CO (t.get k) λv=>Jz P h t l λvs=>K (v::vs)
 |.cell a ty::l,K=>match t.get a with
  |some (.ptr j off)=>match h.get j with
   |some (.box cs _ _)=>CO (EI P ty (cs.drop off)) λv=>Jz P h t l λvs=>K (v::vs)
   |_=>zn
  |_=>zn
def OW:UMA->UMA
 |.pan ({ v:=_,recovered:=zt }::_)=>.ret
 |u=>u
def EY(P:Program)(rec:IM)(d:Func)(β:Type):Nat->List DFA->UMA->T V->H->Nat->(OutA->H->Nat->Option β)->Option β
 |0,_,_,_,_,_,_=>zn
 |n+1,ds,u,t,h,nx,K=>match ds with
  |[]=>match u with
   |.ret=>Jz P h t d.results.toList λvs=>K (.ret (match vs with
    |[v]=>v
    |vs=>.tup vs)) h nx
   |.pan e=>K (.pan e) h nx
  |.col id::ds=>match h.get id with
   |some (.df (zo l))=>EY P rec d β n (l++ds) u t (AG h id (.df zn)) nx K
   |_=>zn
  |.bi b ats _ args::ds=>match b,args,ats[0]? with
   |.clear,[.mp j],zo ty=>(match P.underlying ty,h.get j with
    |some (.map _ _),zo (.mp k g c _ zf)=>EY P rec d β n ds u t (AG h j (.mp k g c [] zf)) nx K
    |_,_=>zn)
   |_,_,_=>zn
  |.call f args::ds=>match f with
   |.fn (.func g) a b=>FW P (.func g) a b args λr=>match r with
    |.call g args=>rec β (.fn g) (zo u) args h nx λo up h nx=>match o,up with
     |.ret _,zo u=>EY P rec d β n ds (OW u) t h nx K
     |_,_=>zn
    |_=>zn
   |_=>zn
def Cp(h:H)(nx:Nat)(l:Nat)(a:Option Code)(K:OutA->Option UMA->H->Nat->Option β):Option β:=match h.get l with
 |some (.lp _ _ nt t ps asg body d)=>K (.ret (.bool a.isNone)) zn (AG h l (.lp (match a with|none=>0|some _=>2) a nt t ps asg body d)) nx
 |_=>zn
def Qe(P:Program):Pi.Pr->List V->H->(V->H->Option β)->Option β
 |.is same,args,h,K=>match args with
  |[.ifc u (.gk a),.ifc v (.gk b)]=>bif (aa u v&&aa a b)&&same.any (aa u)then K (.bool zt) h else zn
  |_=>zn
 |.as tt plain,args,h,K=>match args with
  |[.nili,_]=>K (.bool zf) h
  |[.ifc u a,.ifc pt (.ptr id off)]=>CO (Pi.Sw tt pt) λT=>bif aa u T then(match a with
    |.agg [y]=>LL P h T (.ptr id off) (.agg [y]) λh=>K (.bool zt) h
    |_=>zn)else bif plain.any (aa u)then K (.bool zf) h else zn
  |_=>zn
 |.kn b,args,h,K=>match args with
  |[]=>K (.bool b) h
  |_=>zn
 |.cmp,args,h,K=>match args with
  |[.str a,.str b]=>K (.int .i64 (VJ a b)) h
  |_=>zn
 |.srt g c F _,args,h,K=>match args with
  |[x,.fn (.func g') [] []]=>bif c.hasSl || !aa g g' then zn else(match x with
   |.nils=>K (.tup []) h
   |.ow j=>(match h.get j with
    |some (.row zt _ l ex zf zf)=>Cw l λl=>bd (F l) λl=>K (.tup []) (AG h j (.row zt c l ex zf zf))
    |_=>zn)
   |.own j off len=>(match h.get j with
    |some (.row zt _ l ex zf zf)=>Cw l λl=>gd (B5 (A0 off len) (AQ l)) λ_=>bd (F (Db l off (A0 off len))) λm=>K (.tup []) (AG h j (.row zt c (E9 l off m len) ex zf zf))
    |_=>zn)
   |_=>zn)
  |_=>zn
def Np(P:Program)(a:Dx)(ann:H8)(F:Nat):Nat->IM
 |0=>λ_ _ _ _ _ _ _=>zn
 |n+1=>λβ g up args h nx K=>match g with
  |.fn f=>match Pi.Gl.pr f with
   |some p=>(match up with
    |none=>Qe P p args h λv h=>K (.ret v) zn h nx
    |some _=>zn)
   |none=>CO P.funcs[f]? λb=>CO b.body λc=>
   bif ad args.length b.ntmps&&ae b.ntmps 1048575 then
    Gn P a ann f (Np P a ann F n) F β nx c { t:=HA 0 args .lf,nt:=b.ntmps,ds:=[],up,ro:=zn } h nx λe fr h nx=>match e with
     |.normal=>EY P (Np P a ann F n) b β F fr.ds .ret fr.t h nx λo h nx=>K o fr.up h nx
     |.ret=>EY P (Np P a ann F n) b β F fr.ds .ret fr.t h nx λo h nx=>K o fr.up h nx
     |.panic e=>EY P (Np P a ann F n) b β F fr.ds (.pan [{ v:=e,recovered:=zf }]) fr.t h nx λo h nx=>K o fr.up h nx
     |_=>zn
   else zn
  |.yl l=>match h.get l with
   |some (.lp _ _ nt t ps asg body0 _)=>CO (Eh nt ps args t) λt=>
    Gn P a ann 0 (Np P a ann F n) F β nx asg { t,nt,ds:=[],up:=zn,ro:=zo l } h nx λe fr h nx=>match e with
     |.normal=>(match h.get l with
      |some (.lp 0 pend nt t ps asg body d)=>Gn P a ann 0 (Np P a ann F n) F β nx body0 fr (AG h l (.lp 1 pend nt t ps asg body d)) nx λe _ h nx=>match e with
        |.normal=>Cp h nx l zn K
        |.ret=>Cp h nx l (zo .ret) K
        |.exit id=>Cp h nx l (zo (.exit id)) K
        |.goto id=>Cp h nx l (zo (.goto id)) K
        |_=>zn
      |_=>zn)
     |_=>zn
   |_=>zn
def NV(P:Program)(b:Dx)(ann:H8)(F n:Nat)(f:FuncId)(dom a:List (Bool×Ty))(x:AO dom):Option (AO a):=
 Np P b ann F n (AO a) (.fn f) zn (Ej dom x) .lf 0 λo _ h _=>match o with
  |.ret v=>Bz h a (match a with
   |[_]=>[v]
   |_=>match v with
    |.tup vs=>vs
    |v=>[v]) zo
  |_=>zn
end
def Qu(P:Program)(a:Dx)(ann:H8)(F n:Nat)(f:FuncId)(dom:List (Bool×Ty))(g:Bool)(c:Ty)(x:AO dom):Option (List c.den):=
 Np P a ann F n (List c.den) (.fn f) zn (Ej dom x) .lf 0 λo _ h _=>match o with
  |.ret (.ow j)=>(match h.get j with
   |some (.row g' _ l zf zf _)=>bif g == g' then Cw l zo else zn
   |_=>zn)
  |_=>zn
def Qq(P:Program)(a:Dx)(ann:H8)(F n:Nat)(f:FuncId)(dom:List (Bool×Ty))(g:Bool)(c:Ty)(x:AO dom):Option (List c.den):=
 Np P a ann F n (List c.den) (.fn f) zn (Ej dom x) .lf 0 λo _ h _=>match o with
  |.ret v=>(match v with
   |.pl _ _ _=>F8 h zf (.sl g c) v zo
   |.nils=>F8 h zf (.sl g c) v zo
   |_=>zn)
  |_=>zn
def Qs(P:Program)(b:Dx)(ann:H8)(F n:Nat)(f:FuncId)(dom a:List (Bool×Ty))(x:AO dom):Option (AO a):=
 Np P b ann F n (AO a) (.fn f) zn (Q9 dom (Ej dom x)) .lf 0 λo _ h _=>match o with
  |.ret v=>Bz h a (match a with
   |[_]=>[v]
   |_=>match v with
    |.tup vs=>vs
    |v=>[v]) zo
  |_=>zn
def Nf:List (FuncId×Sg)->FuncId->Option Sg
 |[],_=>zn
 |(g,sg)::l,f=>bif aa f g then zo sg else Nf l f
def Af(a:FuncId->Bool)(L:List (FuncId×Sg)):Dx:=λf=>bif a f then zo (Nf L f)else zn
def SO:List (Nat×Nat×Nat×An)->H8
 |[],_,_,_=>zn
 |(a,b,c,tm)::l,f,i,nx=>bif aa f a&&(aa i b&&aa nx c)then zo tm else SO l f i nx
end
section
variable[Pi.Gl]
open Pi (PV T Hp Blk DF UM PE)
inductive L2 {α β:Type} (R:α->β->Prop):List α->List β->Prop where
 |nil:L2 R [] []
 |cons {a:α} {b:β} {l:List α} {m:List β} (h:R a b) (t:L2 R l m):L2 R (a::l) (b::m)
namespace L2
variable{α β:Type}{R S:α->β->Prop}
theorem length{l:List α}{m:List β}(h:L2 R l m):l.length=m.length:=by
 induction h<;>simp_all
theorem mono{l:List α}{m:List β}(h:L2 R l m)(f:∀ a b,R a b->S a b):L2 S l m:=by
 induction h with
 |nil=>exact .nil
 |cons x _ ih=>exact .cons (f _ _ x) ih
theorem append{l l':List α}{m m':List β}(h:L2 R l m)(k:L2 R l' m'):L2 R (l++l') (m++m'):=by
 induction h with
 |nil=>exact k
 |cons x _ ih=>exact .cons x ih
theorem take{l:List α}{m:List β}(h:L2 R l m):∀ n,L2 R (l.take n) (m.take n):=by
 induction h with
 |nil=>intro n;simp;exact .nil
 |cons x _ ih=>intro n;cases n with
  |zero=>simp;exact .nil
  |succ n=>exact .cons x (ih n)
theorem drop{l:List α}{m:List β}(h:L2 R l m):∀ n,L2 R (l.drop n) (m.drop n):=by
 induction h with
 |nil=>intro n;simp;exact .nil
 |cons x t a=>intro n;cases n with
  |zero=>exact .cons x t
  |succ n=>exact a n
theorem get{l:List α}{m:List β}(h:L2 R l m):∀ {i:Nat} {a:α},l[i]?=zo a -> ∃ b,m[i]?=zo b/\R a b:=by
 induction h<;>grind
theorem set{l:List α}{m:List β}(h:L2 R l m):∀ (i:Nat) {a:α} {b:β},R a b->L2 R (l.set i a) (m.set i b):=by
 induction h with
 |nil=>intro i a b h;exact .nil
 |cons x t c=>intro i a b h;cases i with
  |zero=>exact .cons h t
  |succ i=>exact .cons x (c i h)
theorem replicate{a:α}{b:β}(h:R a b):∀ n,L2 R (aF n a) (aF n b)
 |0=>.nil
 |n+1=>.cons h (replicate h n)
theorem nil_inv{m:List β}(h:L2 R [] m):m=[]:=by cases h;rfl
theorem nil_inv'{l:List α}(h:L2 R l []):l=[]:=by cases h;rfl
theorem cons_inv{a:α}{l:List α}{m:List β}(h:L2 R (a::l) m):∃ b t,m=b::t/\R a b/\L2 R l t:=by
 cases h<;>grind
theorem split{l l':List α}{m:List β}(h:L2 R (l++l') m):∃ p q,m=p++q/\L2 R l p/\L2 R l' q:=by
 induction l generalizing m with
 |nil=>exact⟨[],m,rfl,.nil,h⟩
 |cons a l g=>
  obtain⟨b,t,rfl,c,d⟩:=cons_inv h;obtain⟨p,q,rfl,e,f⟩:=g d;exact⟨b::p,q,rfl,.cons c e,f⟩
end L2
def EP{α:Type}(g:Bool)(D:α->List PV->Prop)(x:α)(e:PV):Prop:=match g with
 |true=>∃ cs,e=.agg cs/\D x cs
 |false=>D x [e]
def DP:(c:Ty)->c.den->List PV->Prop
 |.int k,n,ps=>ps=[.int k n]
 |.bool,b,ps=>ps=[.bool b]
 |.str,s,ps=>ps=[.str s]
 |.unit,_,ps=>ps=[]
 |.pair a b,x,ps=>∃ p q,ps=p++q/\DP a x.1 p/\DP b x.2 q
 |.sl g c,l,ps=>∃ p,ps=[p]/\((p=.nils/\l=[]) \/ ∃ f es,p=.lst f es/\L2 (EP g (DP c)) l es)
def DR(h:Hp)(Q:Nat->Prop):(c:Ty)->c.den->List PV->Prop
 |.int k,n,ps=>ps=[.int k n]
 |.bool,b,ps=>ps=[.bool b]
 |.str,s,ps=>ps=[.str s]
 |.unit,_,ps=>ps=[]
 |.pair a b,x,ps=>∃ p q,ps=p++q/\DR h Q a x.1 p/\DR h Q b x.2 q
 |.sl g c,l,ps=>∃ p,ps=[p]/\((p=.nils/\l=[])\/(∃ f es,p=.lst f es/\L2 (EP g (DP c)) l es) \/
   ∃ pid off len es ex fz,p=.own pid off len/\Q pid/\h.get pid=zo (.row es ex fz)/\off+len<=es.length/\Pi.CX c.wd es=zt/\L2 (EP g (DR h Q c)) l ((es.drop off).take len))
theorem EP.mono{α:Type}{g:Bool}{D E:α->List PV->Prop}(f:∀ x a,D x a->E x a){x:α}{e:PV}(h:EP g D x e):EP g E x e:=by
 cases g with
 |true=>obtain⟨cs,b,c⟩:=h;exact⟨cs,b,f _ _ c⟩
 |false=>exact f _ _ h
theorem DP.up{h:Hp}{Q:Nat->Prop}:∀ {c:Ty} {x:c.den} {a:List PV},DP c x a->DR h Q c x a
 |.int _,_,_,e=>e
 |.bool,_,_,e=>e
 |.str,_,_,e=>e
 |.unit,_,_,e=>e
 |.pair _ _,_,_,⟨p,q,e,b,d⟩=>⟨p,q,e,DP.up b,DP.up d⟩
 |.sl _ _,_,_,⟨p,e,h⟩=>⟨p,e,h.elim .inl λh=>.inr (.inl h)⟩
def Rows(h h':Hp)(Q b:Nat->Prop):Prop:=∀ pid es ex fz,Q pid->h.get pid=zo (.row es ex fz)->(∃ a,h'.get pid=zo (.row es ex a))/\b pid
theorem DR.mono{h h':Hp}{Q g:Nat->Prop}(a:Rows h h' Q g):∀ {c:Ty} {x:c.den} {i:List PV},DR h Q c x i->DR h' g c x i
 |.int _,_,_,e=>e
 |.bool,_,_,e=>e
 |.str,_,_,e=>e
 |.unit,_,_,e=>e
 |.pair _ _,_,_,⟨p,q,e,d,f⟩=>⟨p,q,e,DR.mono a d,DR.mono a f⟩
 |.sl _ _,_,_,⟨p,e,h⟩=>⟨p,e,by
  rcases h with h|h|⟨pid,off,len,es,ex,fz,d,f,j,l,r,m⟩
  ·exact .inl h
  ·simp_all
  ·obtain⟨⟨b,n⟩,o⟩:=a _ _ _ _ f j
   exact .inr (.inr ⟨pid,off,len,es,ex,b,d,o,n,l,r,m.mono λ_ _ k=>k.mono λ_ _ k=>DR.mono a k⟩)⟩
inductive At where
 |blk (pid len:Nat)
 |nil
 |fz (es:List PV)
abbrev Mp:=Nat->Option At
def VS:Mp:=λ_=>zn
def D7:Hp:={ m:=.lf,nx:=0 }
structure Cx where
 π:Mp
 h:Hp
 O:Nat->Prop
def Cx.pure:Cx:={ π:=VS,h:=D7,O:=λ_=>True }
def Cx.Q(X:Cx)(pid:Nat):Prop:=¬ X.O pid
mutual
def VR(X:Cx):V->PV->Prop
 |.bool b,p=>p=.bool b
 |.int k n,p=>p=.int k n
 |.str s,p=>p=.str s
 |.nilp,p=>p=.nilp
 |.nils,p=>p=.nils
 |.nilm,p=>p=.nilm
 |.nilf,p=>p=.nilf
 |.nili,p=>p=.nili
 |.agg cs,p=>∃ d,p=.agg d/\VRL X cs d
 |.tup cs,p=>∃ d,p=.tup d/\VRL X cs d
 |.lf full g c l,p=>(p=.nils/\l=[])\/(∃ f es,p=.lst f es/\(full=zt->f=zt)/\L2 (EP g (DP c)) l es) \/
   ∃ pid off len es ex fz,p=.own pid off len/\(full=zt->ex=zt/\off+len=es.length)/\X.Q pid/\X.h.get pid=zo (.row es ex fz)/\off+len<=es.length/\Pi.CX c.wd es=zt/\L2 (EP g (DR X.h X.Q c)) l ((es.drop off).take len)
 |.pl g c l,p=>(p=.nils/\l=[]) \/ ∃ f es,p=.lst f es/\L2 (EP g (DP c)) l es
 |.exl full es,p=>∃ f d,p=.lst f d/\(full=zt->f=zt)/\VRL Cx.pure es d
 |.ow id,p=>match X.π id with
  |some (.blk pid len)=>p=.own pid 0 len
  |some .nil=>p=.nils
  |some (.fz es)=>p=.lst zt es
  |none=>False
 |.own id off len,p=>∃ pid n,X.π id=zo (.blk pid n)/\p=.own pid off len
 |.ptr id off,p=>∃ pid n,X.π id=zo (.blk pid n)/\p=.ptr pid off
 |.ept id i off,p=>∃ pid n,X.π id=zo (.blk pid n)/\p=.ept pid i off
 |.aptr id off k len,p=>∃ pid n,X.π id=zo (.blk pid n)/\p=.ptr pid (off+k)/\k<len
 |.view cs,p=>(∃ d,p=.view d/\VRL Cx.pure cs d) \/ ∃ pid i off es ex fz e,p=.ept pid i off/\X.Q pid/\X.h.get pid=zo (.row es ex fz)/\es[i]?=zo e/\VRL X cs (e.cells.drop off)
 |.pv cs,p=>∃ d,p=.view d/\VRL Cx.pure cs d
 |.fn f a b,p=>∃ j b',p=.fn f j b'/\VRL X a j/\VRL X b b'
 |.yl id,p=>∃ pid n,X.π id=zo (.blk pid n)/\p=.yl pid
 |.ifc t v,p=>∃ q,p=.ifc t q/\VR X v q
 |.mp id,p=>∃ pid n,X.π id=zo (.blk pid n)/\p=.mp pid
 |.gk n,p=>p=.gk n
 |.dd,p=>p=.nils\/(∃ f es,p=.lst f es) \/ ∃ a b c,p=.own a b c
def VRL(X:Cx):List V->List PV->Prop
 |[],ps=>ps=[]
 |v::vs,ps=>∃ p a,ps=p::a/\VR X v p/\VRL X vs a
end
structure Up (X Y:Cx):Prop where
 pi:∀ id a,X.π id=zo a->Y.π id=zo a
 rows:Rows X.h Y.h X.Q Y.Q
theorem Up.refl(X:Cx):Up X X:=⟨λ_ _ h=>h,λ_ _ _ _ h k=>⟨⟨_,k⟩,h⟩⟩
theorem Up.trans{X Y Z:Cx}(a:Up X Y)(b:Up Y Z):Up X Z:=⟨λid x h=>b.pi _ _ (a.pi _ _ h),λpid es ex fz h k=>by
 obtain⟨⟨c,d⟩,e⟩:=a.rows _ _ _ _ h k
 exact b.rows _ _ _ _ e d⟩
theorem Up.pure(X:Cx):Up Cx.pure X:=⟨λ_ _ h=>(by cases h),λ_ _ _ _ h=>absurd trivial h⟩
mutual
theorem VR.mono{X Y:Cx}(u:Up X Y):∀ {v:V} {p:PV},VR X v p->VR Y v p
 |.bool _,_,h | .int _ _,_,h | .str _,_,h | .nilp,_,h | .nils,_,h | .nilm,_,h | .nilf,_,h | .nili,_,h | .gk _,_,h | .dd,_,h=>by
  simp only[VR]at h ⊢;exact h
 |.agg cs,_,h=>by
  simp only[VR]at h ⊢;obtain⟨y,d,j⟩:=h;exact⟨y,d,VRL.mono u j⟩
 |.tup cs,_,h=>by
  simp only[VR]at h ⊢;obtain⟨y,d,j⟩:=h;exact⟨y,d,VRL.mono u j⟩
 |.lf full g c l,_,h=>by
  simp only[VR]at h ⊢;rcases h with h|h|⟨pid,off,len,es,ex,fz,d,B,j,o,r,C,s⟩
  ·exact .inl h
  ·simp_all
  ·obtain⟨⟨m,w⟩,x⟩:=u.rows _ _ _ _ j o;exact .inr (.inr ⟨pid,off,len,es,ex,m,d,B,x,w,r,C,s.mono λ_ _ k=>k.mono λ_ _ k=>DR.mono u.rows k⟩)
 |.exl full es,_,h=>by simp only[VR]at h ⊢;exact h
 |.pl _ _ _,_,h=>by simp only[VR]at h ⊢;exact h
 |.pv _,_,h=>by simp only[VR]at h ⊢;exact h
 |.ow id,p,h=>by
  simp only[VR]at h ⊢;cases z:X.π id with
  |none=>simp_all
  |some a=>rw[z]at h;rw[u.pi _ _ z];exact h
 |.own id off len,_,h=>by
  simp only[VR]at h ⊢;obtain⟨pid,n,d,j⟩:=h;exact⟨pid,n,u.pi _ _ d,j⟩
 |.ptr id off,_,h=>by
  simp only[VR]at h ⊢;obtain⟨pid,n,d,j⟩:=h;exact⟨pid,n,u.pi _ _ d,j⟩
 |.ept id i off,_,h=>by
  simp only[VR]at h ⊢;obtain⟨pid,n,d,j⟩:=h;exact⟨pid,n,u.pi _ _ d,j⟩
 |.aptr id off k len,_,h=>by
  simp only[VR]at h ⊢;obtain⟨pid,n,d,j⟩:=h;exact⟨pid,n,u.pi _ _ d,j⟩
 |.view cs,_,h=>by
  simp only[VR]at h ⊢;rcases h with h|⟨pid,i,off,es,ex,fz,e,d,j,o,r,s⟩
  ·exact .inl h
  ·obtain⟨⟨m,w⟩,x⟩:=u.rows _ _ _ _ j o;exact .inr ⟨pid,i,off,es,ex,m,e,d,x,w,r,VRL.mono u s⟩
 |.fn f a b,_,h=>by
  simp only[VR]at h ⊢;obtain⟨A,b',d,j,o⟩:=h;exact⟨A,b',d,VRL.mono u j,VRL.mono u o⟩
 |.yl id,_,h=>by
  simp only[VR]at h ⊢;obtain⟨pid,n,d,j⟩:=h;exact⟨pid,n,u.pi _ _ d,j⟩
 |.ifc t v,_,h=>by
  simp only[VR]at h ⊢;obtain⟨q,d,j⟩:=h;exact⟨q,d,VR.mono u j⟩
 |.mp id,_,h=>by
  simp only[VR]at h ⊢;obtain⟨pid,n,d,j⟩:=h;exact⟨pid,n,u.pi _ _ d,j⟩
theorem VRL.mono{X Y:Cx}(u:Up X Y):∀ {vs:List V} {a:List PV},VRL X vs a->VRL Y vs a
 |[],_,h=>by simp only[VRL]at h ⊢;exact h
 |v::vs,_,h=>by
  simp only[VRL]at h ⊢;obtain⟨p,e,b,c,d⟩:=h;exact⟨p,e,b,VR.mono u c,VRL.mono u d⟩
end
section
variable{X:Cx}
theorem VRL.nil:VRL X [] []:=by simp[VRL]
theorem VRL.cons{v:V}{p:PV}{vs:List V}{a:List PV}(h:VR X v p)(t:VRL X vs a):VRL X (v::vs) (p::a):=by
 grind [VRL]
theorem VRL.nil_inv{a:List PV}(h:VRL X [] a):a=[]:=by simpa[VRL]using h
theorem VRL.cons_inv{v:V}{vs:List V}{a:List PV}(h:VRL X (v::vs) a):∃ p b,a=p::b/\VR X v p/\VRL X vs b:=by simpa only[VRL]using h
theorem VRL.length:∀ {vs:List V} {a:List PV},VRL X vs a->vs.length=a.length
 |[],_,h=>by rw[h.nil_inv];rfl
 |v::vs,_,h=>by obtain⟨p,c,rfl,_,b⟩:=h.cons_inv;simp[b.length]
theorem VRL.append:∀ {vs c:List V} {b a:List PV},VRL X vs b->VRL X c a->VRL X (vs++c) (b++a)
 |[],_,_,_,h,k=>by rw[h.nil_inv];exact k
 |v::vs,_,_,_,h,k=>by obtain⟨p,a,rfl,d,e⟩:=h.cons_inv;exact .cons d (e.append k)
theorem VRL.take:∀ {vs:List V} {a:List PV} (_:VRL X vs a) (n:Nat),VRL X (vs.take n) (a.take n)
 |[],_,h,n=>by rw[h.nil_inv];simpa using VRL.nil
 |v::vs,_,h,0=>by rfl
 |v::vs,_,h,n+1=>by obtain⟨p,d,rfl,b,c⟩:=h.cons_inv;exact .cons b (c.take n)
theorem VRL.drop:∀ {vs:List V} {a:List PV} (_:VRL X vs a) (n:Nat),VRL X (vs.drop n) (a.drop n)
 |[],_,h,n=>by rw[h.nil_inv];simpa using VRL.nil
 |v::vs,_,h,0=>by grind
 |v::vs,_,h,n+1=>by obtain⟨p,d,rfl,c,b⟩:=h.cons_inv;exact b.drop n
theorem VRL.lget:∀ {vs:List V} {a:List PV} (_:VRL X vs a) {i:Nat} {v:V},Pi.lget vs i=zo v -> ∃ p,Pi.lget a i=zo p/\VR X v p
 |[],_,h,i,v,e=>by simp[Pi.lget]at e
 |w::vs,_,h,i,v,e=>by
  obtain⟨p,f,rfl,d,b⟩:=h.cons_inv;unfold Pi.lget at e ⊢;cases c:aa i 0 with
  |true=>simp_all
  |false=>rw[c]at e;simp only[zj]at e ⊢;exact b.lget e
theorem VRL.lset:∀ {vs:List V} {b:List PV} (_:VRL X vs b) (i:Nat) {v:V} {p:PV},VR X v p->VRL X (Pi.lset vs i v) (Pi.lset b i p)
 |[],_,h,i,v,p,_=>by rw[h.nil_inv];exact .nil
 |w::vs,_,h,i,v,p,hv=>by
  obtain⟨q,e,rfl,c,a⟩:=h.cons_inv;unfold Pi.lset;cases d:aa i 0 with
  |true=>exact .cons hv a
  |false=>exact .cons c (a.lset _ hv)
theorem VRL.fput{vs xs:List V}{a b:List PV}(h:VRL X vs a)(k:VRL X xs b)(off:Nat):VRL X (Gp vs off xs) (Pi.BD a off b):=by
 unfold Gp Pi.BD;rw[<- k.length];exact(h.take off).append (k.append (h.drop _))
theorem VRL.rep{v:V}{p:PV}(h:VR X v p):∀ n,VRL X (aF n v) (aF n p)
 |0=>.nil
 |n+1=>.cons h (VRL.rep h n)
theorem VR.cells{v:V}{p:PV}(h:VR X v p):VRL X v.cells p.cells:=by
 have d:∀ (v:V) (p:PV),VR X v p->v.cells=[v]->p.cells=[p]->VRL X v.cells p.cells:=by
  intro v p h m e;rw[m,e];exact .cons h .nil
 cases v with
 |bool b=>simp only[VR]at h;subst h;exact d _ _ (by simp[VR]) rfl rfl
 |int k n=>simp only[VR]at h;subst h;exact d _ _ (by simp[VR]) rfl rfl
 |str k=>simp only[VR]at h;subst h;exact d _ _ (by simp[VR]) rfl rfl
 |nilp=>simp only[VR]at h;subst h;exact d _ _ (by simp[VR]) rfl rfl
 |nils=>simp only[VR]at h;subst h;exact d _ _ (by simp[VR]) rfl rfl
 |nilm=>simp only[VR]at h;subst h;exact d _ _ (by simp[VR]) rfl rfl
 |nilf=>simp only[VR]at h;subst h;exact d _ _ (by simp[VR]) rfl rfl
 |nili=>simp only[VR]at h;subst h;exact d _ _ (by simp[VR]) rfl rfl
 |gk n=>simp only[VR]at h;subst h;exact d _ _ (by simp[VR]) rfl rfl
 |dd=>exact d _ _ h rfl (by simp only[VR]at h;rcases h with rfl|⟨_,_,rfl⟩|⟨_,_,_,rfl⟩<;>rfl)
 |agg cs=>simp only[VR]at h;obtain⟨j,rfl,e⟩:=h;exact e
 |tup cs=>simp only[VR]at h;obtain⟨j,rfl,e⟩:=h;exact .nil
 |lf f g c l=>
  refine d _ _ h rfl ?_;simp only[VR]at h;rcases h with⟨rfl,_⟩|⟨f,es,rfl,_⟩|⟨pid,off,len,es,ex,fz,rfl,_⟩<;>rfl
 |pl g c l=>
  refine d _ _ h rfl ?_;simp only[VR]at h;rcases h with⟨rfl,_⟩|⟨f,es,rfl,_⟩<;>rfl
 |pv cs=>refine d _ _ h rfl ?_;simp only[VR]at h;obtain⟨_,rfl,_⟩:=h;rfl
 |exl f es=>
  refine d _ _ h rfl ?_;simp only[VR]at h;obtain⟨f,j,rfl,_⟩:=h;rfl
 |own id off len=>refine d _ _ h rfl ?_;simp only[VR]at h;obtain⟨_,_,_,rfl⟩:=h;rfl
 |ptr id off=>refine d _ _ h rfl ?_;simp only[VR]at h;obtain⟨_,_,_,rfl⟩:=h;rfl
 |ept id i off=>refine d _ _ h rfl ?_;simp only[VR]at h;obtain⟨_,_,_,rfl⟩:=h;rfl
 |aptr id off k len=>refine d _ _ h rfl ?_;simp only[VR]at h;obtain⟨_,_,_,rfl,_⟩:=h;rfl
 |view cs=>
  refine d _ _ h rfl ?_;simp only[VR]at h;rcases h with⟨j,rfl,_⟩|⟨_,_,_,_,_,_,_,rfl,_⟩<;>rfl
 |fn f a b=>refine d _ _ h rfl ?_;simp only[VR]at h;obtain⟨_,_,rfl,_⟩:=h;rfl
 |yl id=>refine d _ _ h rfl ?_;simp only[VR]at h;obtain⟨_,_,_,rfl⟩:=h;rfl
 |ifc t v=>refine d _ _ h rfl ?_;simp only[VR]at h;obtain⟨_,rfl,_⟩:=h;rfl
 |mp id=>refine d _ _ h rfl ?_;simp only[VR]at h;obtain⟨_,_,_,rfl⟩:=h;rfl
 |ow id=>
  refine d _ _ h rfl ?_;simp only[VR]at h;split at h
  ·subst h;rfl
  ·subst h;rfl
  ·subst h;rfl
  simp_all
theorem VR.norm{v:V}{p:PV}(h:VR X v p):VR X v.norm p:=by
 cases v with
 |pl g c l=>
  grind [VR,V.norm]
 |pv cs=>
  simp_all[VR,V.norm]
 |_=>exact h
end
end
section
variable[Pi.Gl]
open Pi (PV T Hp Blk DF UM PE)
section
variable{β α:Type}
theorem AD{o:Option α}{K:α->Option β}{x:β}(e:CO o K=zo x):∃ y,o=zo y/\K y=zo x:=by
 cases o with
 |none=>cases e
 |some y=>exact⟨y,rfl,e⟩
theorem AI{c:Bool}{K:Unit->Option β}{x:β}(e:gd c K=zo x):c=zt/\K ()=zo x:=by
 cases c with
 |false=>cases e
 |true=>exact⟨rfl,e⟩
theorem BO{c:Bool}{a b:Unit->Option β}{x:β}(e:br c a b=zo x):(c=zt/\a ()=zo x)\/(c=zf/\b ()=zo x):=by
 cases c with
 |false=>exact .inr ⟨rfl,e⟩
 |true=>exact .inl ⟨rfl,e⟩
theorem Gs{l:List α}{i:Nat}{K:α->Option β}{x:β}(e:ix l i K=zo x):∃ y,l[i]?=zo y/\K y=zo x:=by
 grind [ix]
theorem L7{n:Int}{K:Nat->Option β}{x:β}(e:TS n K=zo x):0<=n/\K n.toNat=zo x:=by
 grind [TS]
theorem De{m:Option α}{K:α->Option β}{x:β}(e:bd m K=zo x):∃ y,m=zo y/\K y=zo x:=by
 cases m with
 |none=>cases e
 |some y=>exact⟨y,rfl,e⟩
theorem Ao{c a:Ty}{l:List c.den}{K:List a.den->Option β}{x:β}(e:Cw l K=zo x):∃ h:c=a,K (h ▸ l)=zo x:=by
 simp_all[Cw]
theorem BQ{c:Bool}{a b:α}{x:α}(e:(bif c then a else b)=x):(c=zt/\a=x)\/(c=zf/\b=x):=by
 grind
theorem BF{c:Bool}{b:Option α}{x:α}(e:(bif c then zn else b)=zo x):c=zf/\b=zo x:=by
 grind
theorem AN{c:Bool}{a:Option α}{x:α}(e:(bif c then a else zn)=zo x):c=zt/\a=zo x:=by
 grind
end
section
variable{X:Cx}{β:Type}{x:β}
theorem F5{v:Value}{a:V}(e:Gb v=zo a):∃ p,Pi.C4 v=zo p/\VR X a p:=by
 unfold Gb at e
 grind [Pi.C4,VR,VRL]
theorem Ew:∀ {vs:List Value} {b:List V},Dz vs=zo b -> ∃ c,Pi.cellsOf vs=zo c/\VRL X b c
 |[],b,e=>by cases e;exact⟨[],rfl,.nil⟩
 |v::l,b,e=>by
  unfold Dz at e;split at e
  ·rename_i a d f g;cases e;obtain⟨p,e1,h⟩:=F5 (X:=X) f;obtain⟨c,e2,i⟩:=Ew g;exact⟨p::c,by unfold Pi.cellsOf;rw[e1,e2],.cons h i⟩
  ·cases e
theorem Js{v:Value}{a:V}(e:Kx v=zo a):∃ p,Pi.EF v=zo p/\VR X a p:=by
 unfold Kx at e;split at e
 ·rename_i cs;cases h:Dz cs.toList with
  |none=>simp_all
  |some d=>
   rw[h]at e;cases e;obtain⟨j,e2,b⟩:=Ew (X:=X) h
   simp_all[Pi.EF,VR]
 ·rename_i vs;replace e:=AN e;obtain⟨h,e⟩:=e;cases e
  simp_all[Pi.EF,VR,VRL]
 ·rename_i t v;split at e
  ·rename_i p c;cases e;obtain⟨q,e2,b⟩:=F5 (X:=X) c
   simp_all[Pi.EF,VR]
  ·cases e
 ·rename_i f g i;obtain⟨p,e2,b⟩:=F5 (X:=X) e
  simp_all[Pi.EF]
theorem Bl{P:Program}{t:TypeId}{b:List V}(e:CK P t=zo b):∃ a,Pi.zeroCells P t=zo a/\VRL X b a:=by
 unfold CK at e;split at e
 ·rename_i i hi;split at e
  ·rename_i z c;obtain⟨a,h,r⟩:=Ew (X:=X) e
   simp_all[Pi.zeroCells]
  ·cases e
 ·cases e
theorem GS{P:Program}{t:TypeId}{a:V}(e:DD P t=zo a):∃ p,Pi.By P t=zo p/\VR X a p:=by
 unfold DD at e;split at e
 ·rename_i i hi;split at e
  ·rename_i z b;obtain⟨c,h,r⟩:=Js (X:=X) e
   simp_all[Pi.By]
  ·cases e
 ·cases e
def TR(X:Cx)(t:T V)(a:T PV):Prop:=∀ k v,t.get k=zo v -> ∃ p,a.get k=zo p/\VR X v p
theorem TR.mono{Y:Cx}{t:T V}{a:T PV}(h:TR X t a)(u:Up X Y):TR Y t a:=λk v e=>by
 obtain⟨p,b,c⟩:=h k v e;exact⟨p,b,c.mono u⟩
theorem TR.put{t:T V}{a:T PV}(h:TR X t a){d:Nat}(c:d<1048575){v:V}{p:PV}(g:VR X v p):TR X (T.put 20 t d v) (T.put 20 a d p):=by
 have f:(2:Nat) ^ 20-1=1048575:=by decide
 intro k w e;rw[T.get_put 20 t d v k (by omega)]at e;rw[T.get_put 20 a d p k (by omega)];by_cases b:k=d
 ·simp_all
 ·rw[zx b]at e ⊢;exact h k w e
variable{t:T V}{tP:T PV}
theorem KZ{X:Cx}:∀ {cs:List PV} {vs:List V},P4 cs=zo vs->VRL X vs cs
 |[],vs,e=>by cases e;exact .nil
 |c::l,vs,e=>by
  unfold P4 at e;split at e
  ·simp_all
  ·rename_i h;cases h;obtain⟨b,a,rfl⟩:=Pi.AA e;exact .cons (by simp[VR]) (KZ a)
  ·rename_i h;cases h;obtain⟨b,a,rfl⟩:=Pi.AA e;exact .cons (by simp[VR]) (KZ a)
  ·cases e
theorem AL(f:TR X t tP){o:Operand}{K:V->Option β}(e:BI t o K=zo x):∃ v p,K v=zo x/\Pi.CT tP o=zo p/\VR X v p:=by
 unfold BI at e;unfold Pi.CT;split at e
 ·obtain⟨v,a,b⟩:=AD e;obtain⟨p,c,d⟩:=f _ _ a
  grind
 ·obtain⟨v,a,b⟩:=AD e;obtain⟨p,c,d⟩:=Js (X:=X) a
  grind
 ·grind [VR,VRL]
 ·obtain⟨cs,a,e⟩:=AD e;obtain⟨vs,b,e⟩:=AD e;exact⟨_,.view cs,e,by simp_all,by simp only[VR];exact⟨cs,rfl,KZ b⟩⟩
theorem Gm(b:TR X t tP):∀ {c:List Operand} {K:List V->Option β},Ow t c K=zo x -> ∃ vs a,K vs=zo x/\Pi.Md tP c=zo a/\VRL X vs a
 |[],K,e=>⟨[],[],e,rfl,.nil⟩
 |o::l,K,e=>by
  obtain⟨v,p,e1,d,g⟩:=AL b e;obtain⟨vs,a,e2,f,h⟩:=Gm b e1;exact⟨v::vs,p::a,e2,by unfold Pi.Md;rw[d,f],.cons g h⟩
def VRO(X:Cx):Option V->Option PV->Prop
 |none,o=>o=zn
 |some v,o=>∃ p,o=zo p/\VR X v p
theorem KR(b:TR X t tP){o:Option Operand}{K:Option V->Option β}(e:RT t o K=zo x):∃ v p,K v=zo x/\Pi.Px tP o=zo p/\VRO X v p:=by
 cases o with
 |none=>exact⟨zn,zn,e,rfl,rfl⟩
 |some o=>
  obtain⟨v,p,e1,a,c⟩:=AL b e;exact⟨zo v,zo p,e1,by show(Pi.CT tP o).map zo=_;rw[a];rfl,p,rfl,c⟩
def TI(X:Cx):List (Nat×V)->List (Nat×PV)->Prop:=L2 λa b=>a.1=b.1/\VR X a.2 b.2
theorem FA(b:TR X t tP):∀ {c:List (Nat×Operand)} {K:List (Nat×V)->Option β},G2 t c K=zo x -> ∃ vs a,K vs=zo x/\Pi.CE tP c=zo a/\TI X vs a
 |[],K,e=>⟨[],[],e,rfl,.nil⟩
 |(i,o)::l,K,e=>by
  obtain⟨v,p,e1,d,g⟩:=AL b e;obtain⟨vs,a,e2,f,h⟩:=FA b e1;exact⟨(i,v)::vs,(i,p)::a,e2,by unfold Pi.CE;rw[d,f],.cons ⟨rfl,g⟩ h⟩
theorem DC{v:V}{p:PV}{K:Nat->Option β}(a:VR X v p)(e:I3 v K=zo x):∃ n,K n=zo x/\Pi.Fm p=zo n:=by
 unfold I3 at e;split at e
 ·simp only[VR]at a;subst a;obtain⟨b,c⟩:=L7 e
  simp_all[Pi.Fm]
 ·cases e
theorem Jp{v:V}{p:PV}{K:Nat->Option β}(a:VR X v p)(e:Kt v K=zo x):∃ n,K n=zo x/\Pi.FM p=zo n:=by
 unfold Kt at e;split at e
 ·simp only[VR]at a;subst a;obtain⟨b,c⟩:=L7 e
  simp_all[Pi.FM]
 ·cases e
theorem A6{d:Nat}{v:Option V}{p:Option PV}{K:Nat->Option β}(a:VRO X v p)(e:CJ d v K=zo x):∃ n,K n=zo x/\Pi.Ce d p=zo n:=by
 cases v with
 |none=>cases a;exact⟨d,e,rfl⟩
 |some v=>obtain⟨p,rfl,a⟩:=a;exact DC a e
theorem Rb{c:BinOp}{k:IntKind}{a b:Int}{K:V -> Option β}(e:Sh c k a b K=zo x):∃ v p,K v=zo x /\ Pi.PI c k a b=zo p /\ VR X v p:=by
  cases c<;>simp only[Sh]at e
  all_goals first
    |(exact⟨_,_,e,rfl,by rfl⟩)
    | (obtain ⟨d, f⟩ := AI e
       refine⟨_,_,f,?_,by simp only[VR];rfl⟩;have g:(b == 0)=zf:=by simpa[TN]using d
       simp only[Pi.PI,g,zj];rfl)
    |cases e
theorem J4{c:BinOp}{k:IntKind}{a b:Int}{K:V -> Option β}(e:NY c k a b K=zo x):∃ v p,K v=zo x /\ Pi.Hd c k a b=zo p /\ VR X v p:=by
  cases c<;>simp only[NY]at e
  all_goals first
    | (obtain ⟨d, f⟩ := AI e
       refine⟨_,_,f,?_,by simp only[VR];rfl⟩;have g:decide (b < 0)=zf:=by simpa[TM]using d
       simp only[Pi.Hd,g,zj];rfl)
    |cases e
theorem C3:∀ (a b:List UInt8),(Op.bytesLess a b||a == b) = !Op.bytesLess b a
 |[],[]=>rfl
 |[],_::_=>rfl
 |_::_,[]=>rfl
 |a::l,b::m=>by
  have c:=C3 l m
  grind [Op.bytesLess,UInt8.lt_iff_toNat_lt,beq_eq_false_iff_ne,decide_false]
theorem R8{c:BinOp}{a b:List UInt8}{K:V -> Option β}(e:TA c a b K=zo x):∃ v p,K v=zo x /\ Pi.Qg c a b=zo p /\ VR X v p:=by
  cases c<;>simp only[TA]at e
  all_goals first
    |(refine⟨_,_,e,rfl,?_⟩;rfl)
    |(refine⟨_,_,e,rfl,?_⟩;simp only[VR];rw[C3];rfl)
    |(refine⟨_,_,e,rfl,?_⟩;simp_all[VR,C3,UB])
    | (obtain ⟨d, f⟩ := AI e
       refine⟨_,_,f,?_,by simp only[VR];rfl⟩;simp only[B5,A0,NZ]at d
       simp only[Pi.Qg,d,zb];rfl)
    |cases e
end
end
section
variable[Pi.Gl]
open Pi (PV T Hp Blk DF UM PE)
section
variable{X:Cx}{β:Type}{x:β}{P:Program}
theorem Bh{t:TypeId}{cs:List V}{a:List PV}{v:V}(h:VRL X cs a)(e:EI P t cs=zo v):∃ p,Pi.part P t a=zo p/\VR X v p:=by
 unfold EI at e;split at e
 ·rename_i n b c;replace e:=AN e;obtain⟨d,e⟩:=e;cases e;refine⟨.agg (a.take n),?_,by simp only[VR];exact⟨_,rfl,h.take n⟩⟩;unfold Pi.part;simp only[b,c];rw[<- h.length,d];rfl
 ·rename_i b c;split at e
  ·cases e;obtain⟨p,f,rfl,r,_⟩:=h.cons_inv
   simp_all[Pi.part]
  ·cases e
 ·cases e
theorem VR.agg_inv{cs:List V}{p:PV}(h:VR X (.agg cs) p):∃ a,p=.agg a/\VRL X cs a:=by simpa only[VR]using h
mutual
theorem HM:∀ (d:Nat) {t:TypeId} {a b:V} {c:Bool} {p q:PV},VR X a p->VR X b q->RR P d t a b=zo c->Pi.OK P d t p q=zo c
 |0,_,_,_,_,_,_,_,_,e=>by simp[RR]at e
 |d+1,t,a,b,c,p,q,f,g,e=>by
  unfold RR at e;unfold Pi.OK;split at e
  all_goals (try simp only[*])
  ·split at e
   ·simp only[VR]at f g;subst f;subst g;exact e
   ·cases e
  ·split at e
   ·simp only[VR]at f g;subst f;subst g;exact e
   ·cases e
  ·split at e
   ·simp only[VR]at f g;subst f;subst g;exact e
   ·cases e
  ·split at e
   all_goals first
    |(simp only[VR]at f g;subst f;subst g;exact e)
    |(simp only[VR]at f g;obtain⟨_,_,_,rfl⟩:=f;subst g;exact e)
    |(simp only[VR]at f g;obtain⟨_,_,_,rfl⟩:=g;subst f;exact e)
    |(simp only[VR]at f g;subst f;rcases g with⟨_,rfl,_⟩|⟨_,_,_,_,_,_,_,rfl,_⟩<;>exact e)
    |(simp only[VR]at f g;subst g;rcases f with⟨_,rfl,_⟩|⟨_,_,_,_,_,_,_,rfl,_⟩<;>exact e)
    |(simp only[VR]at f g;subst f;obtain⟨_,rfl,_⟩:=g;exact e)
    |(simp only[VR]at f g;subst g;obtain⟨_,rfl,_⟩:=f;exact e)
    |cases e
  ·split at e
   ·simp_all[VR]
   ·grind [VR]
   ·grind [VR]
   ·grind [VR]
   ·grind [VR]
   ·grind [VR]
   ·grind [VR]
   ·grind [VR]
   ·grind [VR]
   ·cases e
  ·grind [VR]
  ·split at e
   ·simp_all[VR]
   ·grind [VR]
   ·grind [VR]
   ·simp only[VR]at f g;obtain⟨o,rfl,f⟩:=f;obtain⟨b',rfl,g⟩:=g;rcases BQ e with⟨h,e⟩|⟨h,e⟩
    ·simp only[h,zb];split at e
     ·rename_i i hi;replace e:=AN e;obtain⟨l,e⟩:=e;simp only[hi,l,zb];exact HM d f g e
     ·cases e
    simp_all
   ·cases e
  ·split at e
   ·obtain⟨m,rfl,j⟩:=f.agg_inv;obtain⟨n,rfl,k⟩:=g.agg_inv;replace e:=BF e;obtain⟨h,e⟩:=e;simp only[h,zj];exact KO d j k e
   ·cases e
  ·split at e
   ·obtain⟨m,rfl,j⟩:=f.agg_inv;obtain⟨n,rfl,k⟩:=g.agg_inv;replace e:=AN e;obtain⟨h,e⟩:=e;simp only[h,zb];exact Nr d j k e
   ·cases e
theorem KO:∀ (d:Nat) {g:List Field} {a b:List V} {c:Bool} {p q:List PV},VRL X a p->VRL X b q->M4 P d g a b=zo c->Pi.JL P d g p q=zo c
 |0,_,_,_,_,_,_,_,_,e=>by simp[M4]at e
 |d+1,[],_,_,_,_,_,_,_,e=>by simpa[M4,Pi.JL]using e
 |d+1,f::g,a,b,c,p,q,ha,hb,e=>by
  unfold M4 at e;unfold Pi.JL;rcases BQ e with⟨h,e⟩|⟨h,e⟩
  ·simp only[h,zb];exact KO d ha hb e
  ·simp only[h,zj];split at e
   ·rename_i u v l m;obtain⟨s,j,n⟩:=Bh (ha.drop f.offset) l;obtain⟨t,k,o⟩:=Bh (hb.drop f.offset) m;split at e
    ·rename_i i r e1 e2;simp only[j,k,HM d n o e1];cases e;cases i with
     |true=>simpa[Of]using KO d ha hb e2
     |false=>simp[Of]
    ·cases e
   ·cases e
theorem Nr:∀ (d:Nat) {n:Nat} {t:TypeId} {a b:List V} {c:Bool} {p q:List PV},VRL X a p->VRL X b q->Oq P d n t a b=zo c->Pi.K3 P d n t p q=zo c
 |0,_,_,_,_,_,_,_,_,_,e=>by simp[Oq]at e
 |d+1,0,_,_,_,_,_,_,_,_,e=>by simpa[Oq,Pi.K3]using e
 |d+1,n+1,t,a,b,c,p,q,ha,hb,e=>by
  unfold Oq at e;unfold Pi.K3;split at e
  ·rename_i s u v hs i j;obtain⟨o,g,k⟩:=Bh ha i;obtain⟨r,h,l⟩:=Bh hb j;split at e
   ·rename_i f m e1 e2;simp only[hs,g,h,HM d k l e1];cases e;cases f with
    |true=>simpa[Of]using Nr d (ha.drop s) (hb.drop s) e2
    |false=>simp[Of]
   ·cases e
  ·cases e
end
theorem Ig{a:BinOp}{c:Bool}{K:V->Option β}(e:(match a with
  |.eql=>K (.bool c)
  |.neq=>K (.bool (IR c))
  |_=>zn)=zo x) {o:Option Bool} (b:o=zo c):∃ v p,K v=zo x/\(match a with
  |.eql=>o.map .bool
  |.neq=>o.map λr=>.bool (!r)
  |_=>zn)=zo p/\VR X v p:=by
 subst b;cases a<;>simp only at e ⊢
 all_goals first
  |(exact⟨_,_,e,rfl,by simp[VR,IR]⟩)
  |cases e
theorem GO{c:BinOp}{ty:TypeId}{p q:PV}(e:∀ k n d m,¬(p=.int k n/\q=.int d m))(f:∀ a b,¬(p=.str a/\q=.str b)):Pi.JK P c ty p q=(match c with
  |.eql=>(Pi.OK P Pi.FQ ty p q).map .bool
  |.neq=>(Pi.OK P Pi.FQ ty p q).map λr=>.bool (!r)
  |_=>zn):=by
 unfold Pi.JK
 grind
theorem VR.inv{v:V}{p:PV}(h:VR X v p):(∀ k n,p=.int k n->v=.int k n)/\(∀ l,p=.str l->v=.str l)/\(p=.nili->v=.nili)/\(∀ cs,p=.agg cs -> ∃ e,v=.agg e):=by
 cases v with
 |agg cs=>grind [VR]
 |ow id=>
  grind [VR]
 |lf f g c l=>
  grind [VR]
 |view cs=>
  grind [VR]
 |pl g c l=>grind [VR]
 |pv cs=>grind [VR]
 |tup cs=>grind [VR]
 |exl f cs=>grind [VR]
 |own a b c=>grind [VR]
 |ptr a b=>grind [VR]
 |ept a b c=>grind [VR]
 |aptr a b c d=>grind [VR]
 |fn a b c=>grind [VR]
 |yl a=>grind [VR]
 |mp a=>grind [VR]
 |ifc a b=>grind [VR]
 |dd=>grind [VR]
 |_=>simp only[VR]at h;grind
theorem A7{o:Option PV}{h:Hp}{p:PV}(e:o=zo p):Pi.vl o h=zo (.val p h):=by rw[e];rfl
theorem RM{h:Hp}{w:BinOp}{ty:TypeId}{y z:Operand}{a b:V}{p q:PV}{K:V->Option β}(i:VR X a p)(j:VR X b q)(e:SU P w ty y z a b K=zo x) :
  ∃ v r,K v=zo x/\Pi.Dh P h w ty y z p q=zo (.val r h)/\VR X v r:=by
 unfold SU at e;split at e
 ·simp only[VR]at i j;subst i;subst j;split at e
  ·obtain⟨v,r,d,g,f⟩:=J4 (X:=X) e;exact⟨v,r,d,A7 (by simpa[Pi.JK]using g),f⟩
  ·obtain⟨v,r,d,g,f⟩:=J4 (X:=X) e;exact⟨v,r,d,A7 (by simpa[Pi.JK]using g),f⟩
  ·rename_i t u;replace e:=AN e;obtain⟨E,e⟩:=e;obtain⟨v,r,d,g,f⟩:=Rb (X:=X) e;refine⟨v,r,d,A7 ?_,f⟩
   simp_all[Pi.JK,zb]
 ·simp only[VR]at i j;subst i;subst j;obtain⟨v,r,d,g,f⟩:=R8 (X:=X) e;exact⟨v,r,d,A7 g,f⟩
 ·replace e:=AN e;obtain⟨hc,e⟩:=e;obtain⟨c,d,e⟩:=AD e;obtain⟨v,r,e1,g,f⟩:=Ig (X:=X) e (HM 64 i j d);simp only[VR]at i j;subst i;subst j;refine⟨v,r,e1,?_,f⟩;unfold Pi.Dh;simp only[hc,zb];exact A7 (by rw[GO (by simp) (by simp)];exact g)
 ·rename_i C D;replace e:=BF e;obtain⟨hc,e⟩:=e;obtain⟨c,d,e⟩:=AD e;obtain⟨v,r,e1,g,f⟩:=Ig (X:=X) e (HM 64 i j d);obtain⟨J,rfl,A⟩:=i.agg_inv;obtain⟨L,rfl,B⟩:=j.agg_inv;refine⟨v,r,e1,?_,f⟩;unfold Pi.Dh;simp only[hc,zj];exact A7 (by rw[GO (by simp) (by simp)];exact g)
 ·rename_i t u G I;obtain⟨c,d,e⟩:=AD e;obtain⟨v,r,e1,g,f⟩:=Ig (X:=X) e (HM 64 i j d);refine⟨v,r,e1,?_,f⟩;have o:=i.inv;have s:=j.inv;unfold Pi.Dh;split
  ·simp_all
  ·grind
  ·refine A7 ?_;rw[GO (λk n F m hh=>t _ _ _ _ (o.1 _ _ hh.1) (s.1 _ _ hh.2)) (λl m hh=>u _ _ (o.2.1 _ hh.1) (s.2.1 _ hh.2))];exact g
theorem TC{c:UnOp}{a:V}{p:PV}{K:V->Option β}(b:VR X a p)(e:U8 c a K=zo x):∃ v r,K v=zo x/\Pi.UZ c p=zo r/\VR X v r:=by
 unfold U8 at e;split at e
 ·simp only[VR]at b;subst b;split at e
  ·exact⟨_,_,e,rfl,by rfl⟩
  ·cases e
 ·simp only[VR]at b;subst b;split at e
  ·exact⟨_,_,e,rfl,by rfl⟩
  ·cases e
 ·cases e
theorem OX:∀ {es:List V} {a:List PV} {K:List UInt8->Option β},VRL Cx.pure es a->SA es K=zo x -> ∃ l,K l=zo x/\Pi.TB a=zo l
 |[],a,K,hv,e=>by
  simp only[VRL]at hv;subst hv;exact⟨[],e,rfl⟩
 |v::es,a,K,hv,e=>by
  unfold SA at e;split at e
  ·simp_all
  ·rename_i n l h;cases h;obtain⟨p,d,rfl,b,c⟩:=hv.cons_inv;simp only[VR]at b;subst b;obtain⟨l,e1,e2⟩:=OX c e;exact⟨_,e1,by unfold Pi.TB;rw[e2];rfl⟩
  ·cases e
theorem Lb{h:Hp}{s d:TypeId}{a:V}{p:PV}{K:V->Option β}(b:VR X a p)(e:IY P s d a K=zo x):∃ v r,K v=zo x/\Pi.BJ P h s d p=zo (.val r h)/\VR X v r:=by
 unfold IY at e;unfold Pi.BJ;split at e
 ·grind [VR,VH]
 ·grind [VR]
 ·rename_i f es g j k;split at e
  ·rename_i m;simp only[VR]at b;obtain⟨i,n,rfl,_,c⟩:=b;obtain⟨l,e1,e2⟩:=OX c e;exact⟨_,.str l,e1,by simp_all,by simp[VR]⟩
  ·cases e
 ·cases e
theorem RZ{h:Hp}{ty:TypeId}{a:V}{p:PV}{K:V->Option β}(b:VR X a p)(e:Se P ty a K=zo x):∃ v r,K v=zo x/\Pi.Em P h ty p=zo (.val r h)/\VR X v r:=by
 grind [Se,Pi.Em,VR]
theorem Rn{h:Hp}{a:V}{p:PV}{K:V->Option β}(b:VR X a p)(e:So a K=zo x):∃ v r,K v=zo x/\Pi.E4 h p=zo (.val r h)/\VR X v r:=by
 unfold So at e;split at e
 ·refine⟨_,p,e,?_,b⟩;simp only[VR]at b;obtain⟨_,rfl,_⟩:=b;rfl
 ·refine⟨_,p,e,?_,b⟩;simp only[VR]at b;obtain⟨_,_,_,rfl⟩:=b;rfl
 ·refine⟨_,p,e,?_,b⟩;simp only[VR]at b;obtain⟨_,_,_,rfl⟩:=b;rfl
 ·refine⟨_,p,e,?_,b⟩;simp only[VR]at b;rcases b with⟨_,rfl,_⟩|⟨_,_,_,_,_,_,_,rfl,_⟩<;>rfl
 ·refine⟨_,p,e,?_,b⟩;simp only[VR]at b;obtain⟨_,rfl,_⟩:=b;rfl
 ·refine⟨_,p,e,?_,b⟩;simp only[VR]at b;obtain⟨_,_,_,rfl⟩:=b;rfl
 ·refine⟨_,p,e,?_,b⟩;simp only[VR]at b;obtain⟨_,_,rfl,_⟩:=b;rfl
 ·cases e
theorem Oy{h:Hp}{ty:TypeId}{a:V}{p:PV}{f:Nat}{K:V->Option β}(i:VR X a p)(e:NB P ty a f K=zo x):∃ v r,K v=zo x/\Pi.CA P h ty p f=zo (.val r h)/\VR X v r:=by
 unfold NB at e;split at e
 ·rename_i j cs m;obtain⟨n,rfl,b⟩:=i.agg_inv;split at e
  ·rename_i c l;obtain⟨v,d,e⟩:=AD e;obtain⟨r,k,g⟩:=Bh (b.drop c.offset) d;exact⟨v,r,e,by simp_all[Pi.CA,A7],g⟩
  ·cases e
 ·cases e
end
end
section
variable[Pi.Gl]
open Pi (PV T Hp Blk DF UM PE)
def DFR(X:Cx):DFA->DF->Prop
 |.call f args,d=>∃ c a,d=.call c a/\VR X f c/\VRL X args a
 |.bi b ats ty args,d=>∃ a,d=.bi b ats ty a/\VRL X args a
 |.col id,d=>∃ pid n,X.π id=zo (.blk pid n)/\d=.col pid
theorem DFR.mono{X Y:Cx}(u:Up X Y):∀ {a:DFA} {d:DF},DFR X a d->DFR Y a d
 |.call _ _,_,⟨f,e,b,c,g⟩=>⟨f,e,b,c.mono u,g.mono u⟩
 |.bi _ _ _ _,_,⟨e,b,c⟩=>⟨e,b,c.mono u⟩
 |.col _,_,⟨pid,n,b,c⟩=>⟨pid,n,u.pi _ _ b,c⟩
def MR(X:Cx)(k:Ty)(g:Bool)(c:Ty)(u:k.den×c.den)(w:PV×PV):Prop:=DP k u.1 [w.1]/\EP g (DR X.h X.Q c) u.2 w.2
def BR(X:Cx):BA->Option At->Prop
 |.box cs fz _,a=>∃ pid n f b,a=zo (.blk pid n)/\X.O pid/\X.h.get pid=zo (.box f b)/\(fz=zf->b=zf)/\VRL X cs f
 |.row g c l ex fz _,a=>(∃ pid len es b,a=zo (.blk pid len)/\X.O pid/\X.h.get pid=zo (.row es ex b)/\(fz=zf->b=zf)/\es.length=len/\(ex=zf->0<len)/\L2 (EP g (DR X.h X.Q c)) l es) \/
   (a=zo .nil/\ex=zf/\l=[]) \/ ∃ es,a=zo (.fz es)/\ex=zf/\(fz=zt\/l=[])/\L2 (EP g (DP c)) l es
 |.mp k g c l _,a=>∃ pid n es,a=zo (.blk pid n)/\X.O pid/\X.h.get pid=zo (.mp es)/\L2 (MR X k g c) l es
 |.lp st pend nt t f asg body d,a=>∃ pid n j i m,a=zo (.blk pid n)/\X.O pid/\X.h.get pid=zo (.lp st pend nt j f asg body i)/\TR X t j/\X.π d=zo (.blk i m)/\nt<1048575
 |.df ds,a=>∃ pid n e,a=zo (.blk pid n)/\X.O pid/\X.h.get pid=zo (.df e)/\(match ds,e with
  |none,zn=>True
  |some l,zo m=>L2 (DFR X) l m
  |_,_=>False)
 |.dead,a=>∀ pid m,a=zo (.blk pid m)->X.O pid/\X.h.get pid=zo .dead
theorem EDR.mono{X Y:Cx}(u:Up X Y){g:Bool}{c:Ty}{l:List c.den}{es:List PV}(h:L2 (EP g (DR X.h X.Q c)) l es):L2 (EP g (DR Y.h Y.Q c)) l es:=
 h.mono λ_ _ k=>k.mono λ_ _ k=>DR.mono u.rows k
theorem BR.keep{X Y:Cx}(u:Up X Y){b:BA}{a:Option At}(h:BR X b a)(k:∀ pid n,a=zo (.blk pid n)->X.O pid->Y.h.get pid=X.h.get pid/\Y.O pid):BR Y b a:=by
 cases b with
 |box cs fz z=>
  obtain⟨pid,n,B,r,f,i,o,j,s⟩:=h;obtain⟨p,q⟩:=k _ _ f i;exact⟨pid,n,B,r,f,q,by rw[p,o],j,s.mono u⟩
 |row g c l ex fz z=>
  rcases h with⟨pid,len,es,r,f,i,o,j,s,E,x⟩|h|h
  ·obtain⟨p,q⟩:=k _ _ f i;exact .inl ⟨pid,len,es,r,f,q,by rw[p,o],j,s,E,EDR.mono u x⟩
  ·exact .inr (.inl h)
  ·exact .inr (.inr h)
 |mp I g c l z=>
  obtain⟨pid,n,es,f,i,o,j⟩:=h;obtain⟨p,q⟩:=k _ _ f i;exact⟨pid,n,es,f,q,by rw[p,o],j.mono λ_ _ m=>⟨m.1,m.2.mono λ_ _ k=>DR.mono u.rows k⟩⟩
 |lp J A nt t B C y d=>
  obtain⟨pid,n,F,D,m,f,i,o,j,s,x⟩:=h;obtain⟨p,q⟩:=k _ _ f i;exact⟨pid,n,F,D,m,f,q,by rw[p,o],j.mono u,u.pi _ _ s,x⟩
 |df G=>
  obtain⟨pid,n,w,f,i,o,j⟩:=h;obtain⟨p,q⟩:=k _ _ f i;refine⟨pid,n,w,f,q,by rw[p,o],?_⟩;split at j
  ·trivial
  ·exact j.mono λ_ _ m=>m.mono u
  omega
 |dead=>
  intro pid m e;obtain⟨f,i⟩:=h pid m e
  simp_all
def BA.live:BA->Prop
 |.dead=>False
 |_=>True
theorem BR.own{X:Cx}{b:BA}{pid n:Nat}(h:BR X b (zo (.blk pid n)))(m:b.live):X.O pid:=by
 cases b with
 |box cs fz i=>obtain⟨_,_,_,_,a,e,_⟩:=h;simp_all
 |row g c l ex fz i=>
  rcases h with⟨_,_,_,_,a,e,_⟩|⟨a,_⟩|⟨_,a,_⟩<;>simp_all
 |mp p g c l i=>obtain⟨_,_,_,a,e,_⟩:=h;simp_all
 |lp r j nt t q k f d=>obtain⟨_,_,_,_,_,a,e,_⟩:=h;simp_all
 |df o=>obtain⟨_,_,_,a,e,_⟩:=h;simp_all
 |dead=>exact m.elim
theorem BR.nd{X:Cx}{b:BA}{pid n:Nat}(h:BR X b (zo (.blk pid n)))(m:b.live):X.h.get pid≠zo .dead:=by
 cases b with
 |box cs fz i=>obtain⟨_,_,_,_,a,_,e,_⟩:=h;simp_all
 |row g c l ex fz i=>
  rcases h with⟨_,_,_,_,a,_,e,_⟩|⟨a,_⟩|⟨_,a,_⟩<;>simp_all
 |mp p g c l i=>obtain⟨_,_,_,a,_,e,_⟩:=h;simp_all
 |lp r j nt t q k f d=>obtain⟨_,_,_,_,_,a,_,e,_⟩:=h;simp_all
 |df o=>obtain⟨_,_,_,a,_,e,_⟩:=h;simp_all
 |dead=>exact m.elim
structure RH (X:Cx) (h:H) (n:Nat):Prop where
 blk:∀ id b,h.get id=zo b->BR X b (X.π id)
 inj:∀ id id' b b' pid m m',h.get id=zo b->h.get id'=zo b'->b.live->b'.live->X.π id=zo (.blk pid m)->X.π id'=zo (.blk pid m')->id=id'
 dom:∀ id a,X.π id=zo a->id<n
 fresh:∀ pid,X.h.nx<=pid->X.h.get pid=zn
 ob:∀ q,X.O q->X.h.get q≠zn
theorem AJ{h:H}{id:Nat}(a:id<1048575){b:BA}{k:Nat}:(AG h id b).get k=if k=id then zo b else h.get k:=by
 have c:(2:Nat) ^ 20-1=1048575:=by decide
 exact T.get_put 20 h id b k (by omega)
structure St (X:Cx) (h:H) (id idP:Nat) (Y:Cx) (h':H):Prop where
 up:Up X Y
 nx:Y.h.nx=X.h.nx
 pin:∀ j,j≠id->X.π j=zn->Y.π j=zn
 hpn:∀ q,q≠idP->X.h.get q=zn->Y.h.get q=zn
 lk:∀ j b,h.get j=zo b->b.locked=zt->h'.get j=zo b
 lps:∀ q st pe nt t ps asg body d,X.h.get q=zo (.lp st pe nt t ps asg body d)->Y.h.get q=zo (.lp st pe nt t ps asg body d)
theorem St.refl(X:Cx)(h:H)(id idP:Nat):St X h id idP X h:=⟨Up.refl X,rfl,λ_ _ h=>h,λ_ _ h=>h,λ_ _ h _=>h,λ_ _ _ _ _ _ _ _ _ h=>h⟩
theorem St.trans{X Y Z:Cx}{h h' h'':H}{id idP:Nat}(a:St X h id idP Y h')(b:St Y h' id idP Z h''):St X h id idP Z h'':=
 ⟨a.up.trans b.up,b.nx.trans a.nx,λj c k=>b.pin j c (a.pin j c k),λj c k=>b.hpn j c (a.hpn j c k),λj x k l=>b.lk j x (a.lk j x k l) l,
  λq m g nt t i f e d k=>b.lps _ _ _ _ _ _ _ _ _ (a.lps _ _ _ _ _ _ _ _ _ k)⟩
def Dc{α:Type}(f:Nat->α)(i:Nat)(a:α):Nat->α:=λj=>if j=i then a else f j
section
variable{X:Cx}{h:H}{n:Nat}
theorem RH.set(r:RH X h n){id pid m:Nat}{b b':BA}{bP o:Blk}{f:Hp}(k:id<1048575)(p:h.get id=zo b)(y:b.live)(hk:b.locked=zf)(G:X.π id=zo (.blk pid m))(w:X.h.get pid=zo o)
  (hnl:∀ U P nt t S l g d,o ≠ .lp U P nt t S l g d)
  (e:X.h.set pid bP=zo f) (hb:∀ Y:Cx,Y.π=X.π->Y.h=f->Y.O=X.O->Up X Y->BR Y b' (X.π id)) (I:Nat) :
  ∃ Y:Cx,Y.π=X.π/\Y.h=f/\Y.O=X.O/\RH Y (AG h id b') n /\ ∀ i,St X h i I Y (AG h id b'):=by
 obtain⟨s,Z⟩:=Hp.get_set e;have hO:X.O pid:=(G ▸ r.blk _ _ p).own y
 let Y:Cx:={ π:=X.π,h:=f,O:=X.O }
 have u:Up X Y:=⟨λ_ _ h=>h,λq es ex fz c hg=>⟨⟨fz,by
  show f.get q=_
  rw[s,zx (by intro hh;subst hh;exact c hO),hg]⟩,c⟩⟩
 refine⟨Y,rfl,rfl,rfl,⟨λi B hi=> ?_,λi K B W q m1 m2 hi a M N=> ?_,r.dom,λq c=> ?_,λq c=>by
  show f.get q≠zn;rw[s];split
  ·simp
  ·exact r.ob _ c⟩,λi=>⟨u,Z,λ_ _ h=>h,λq c hn=> ?_,λj B hj hlk=> ?_,λq U P nt t S l g d c=> ?_⟩⟩
 ·rw[AJ k]at hi;by_cases x:i=id
  ·grind
  ·rw[zx x]at hi;by_cases z:B.live
   ·refine(r.blk _ _ hi).keep u λq m' c F=>⟨?_,F⟩;show f.get q=_;rw[s,zx];intro hh;subst hh;exact x (r.inj _ _ _ _ _ _ _ hi p z y c G)
   ·cases B with
    |dead=>
     intro q m' c;obtain⟨k1,L⟩:=r.blk _ _ hi q m' c;refine⟨k1,?_⟩;show f.get q=_;rw[s,zx]
     ·exact L
     ·intro hh;subst hh;exact(G ▸ r.blk _ _ p).nd y L
    |_=>exact absurd trivial z
 ·rw[AJ k]at hi a;by_cases J:i=id
  ·by_cases C:K=id
   ·omega
   ·rw[zx C]at a;subst J;intro D E;exact r.inj _ _ _ _ _ _ _ p a y N D E
  ·rw[zx J]at hi;by_cases C:K=id
   ·subst C;intro D E;exact r.inj _ _ _ _ _ _ _ hi p M y D E
   ·rw[zx C]at a;exact r.inj _ _ _ _ _ _ _ hi a M N
 ·show f.get q=zn;have A:X.h.nx<=q:=by grind
  rw[s,zx (by intro hh;subst hh;rw[r.fresh _ A]at w;cases w)];exact r.fresh _ A
 ·grind
 ·rw[AJ k]
  grind
 grind
theorem RH.new(r:RH X h n){id pid m:Nat}{b:BA}{bP:Blk}{B:Hp}(y:id<1048575)(hn:id<n)(hp:X.π id=zn)(hlt:pid<X.h.nx)
  (e:X.h.new pid bP=zo B) (hb:∀ Y:Cx,Y.π=Sv.Dc X.π id (zo (.blk pid m))->Y.h=B->(∀ q,Y.O q<->X.O q\/q=pid)->Up X Y->BR Y b (zo (.blk pid m))) :
  ∃ Y:Cx,Y.π=Sv.Dc X.π id (zo (.blk pid m))/\Y.h=B/\RH Y (AG h id b) n/\St X h id pid Y (AG h id b):=by
 obtain⟨g0,W,g2⟩:=Hp.get_new e
 let Y:Cx:={ π:=Sv.Dc X.π id (zo (.blk pid m)),h:=B,O:=λq=>X.O q\/q=pid }
 have s:∀ j,j≠id->Y.π j=X.π j:=λj z=>zx z;have hpi0:Y.π id=zo (.blk pid m):=zy rfl
 have u:Up X Y:=⟨λj a z=>by
  grind,λq es ex fz hq w=>by
  have K:q≠pid:=by grind
  exact⟨⟨fz,by grind⟩,λhO=>hO.elim hq K⟩⟩
 have A:h.get id=zn \/ ∃ f,h.get id=zo f /\ ¬ f.live:=by
  cases w:h.get id with
  |none=>grind
  |some f=>
   refine .inr ⟨f,rfl,λD=> ?_⟩;have:=r.blk _ _ w;rw[hp]at this;cases f<;>first|exact D|(simp[BR]at this)
 have P:∀ {i:Nat} {f:BA} {N:Nat},h.get i=zo f->f.live->X.π i=zo (.blk pid N)->False:=by
  intro i f N w D L;have:=r.blk _ _ w;rw[L]at this;cases f with
  |dead=>exact D
  |box cs fz lk=>obtain⟨_,_,_,_,o,_,E,_⟩:=this;simp_all
  |row g c l ex fz lk=>
   rcases this with⟨_,_,_,_,o,_,E,_⟩|⟨o,_⟩|⟨_,o,_⟩<;>simp_all
  |mp kk g c l lk=>obtain⟨_,_,_,o,_,E,_⟩:=this;simp_all
  |lp st pend nt t ps F C d=>obtain⟨_,_,_,_,_,o,_,E,_⟩:=this;simp_all
  |df ds=>obtain⟨_,_,_,o,_,E,_⟩:=this;simp_all
 refine⟨Y,rfl,rfl,⟨λi f hi=> ?_,λi i' f bb' q N m2 hi x l1 l2 S U=> ?_,λi a hi=> ?_,λq hq=> ?_,λq hq=>by
  show B.get q≠zn;rw[W];split
  ·simp
  ·rcases hq with hq|hq
   ·exact r.ob _ hq
   omega⟩,⟨u,g2,λj z k=>by simp_all,λq hq hn=> ?_,λj f z I=> ?_,λq st pe nt t ps F C d hq=> ?_⟩⟩
 ·rw[AJ y]at hi;by_cases p:i=id
  ·grind
  ·rw[zx p]at hi;rw[s i p];by_cases J:f.live
   ·refine(r.blk _ _ hi).keep u λq m' hq G=>⟨?_,.inl G⟩<;>grind
   ·cases f with
    |dead=>
     intro q m' hq;obtain⟨k1,k2⟩:=r.blk _ _ hi q m' hq
     grind
    |_=>exact absurd trivial J
 ·rw[AJ y]at hi x;by_cases o:i=id
  ·grind
  ·rw[zx o]at hi;by_cases Z:i'=id
   ·simp_all
   ·rw[zx Z]at x;rw[s _ o]at S;rw[s _ Z]at U;exact r.inj _ _ _ _ _ _ _ hi x l1 l2 S U
 ·by_cases p:i=id
  ·omega
  ·rw[s i p]at hi;exact r.dom _ _ hi
 ·show B.get q=zn;have M:X.h.nx<=q:=by grind
  rw[W,zx (by omega)];exact r.fresh _ M
 ·grind
 ·rw[AJ y,zx]
  ·exact z
  ·intro hh;subst hh;rcases A with w|⟨b0,w,D⟩
   ·simp_all
   ·rw[w]at z;cases z;cases f with
    |dead=>cases I
    |_=>exact absurd trivial D
 grind
end
end
section
variable[Pi.Gl]
open Pi (PV T Hp Blk DF UM PE)
section
variable{X:Cx}{h:H}{n:Nat}
theorem RH.alias(r:RH X h n){id:Nat}{b:BA}{a:At}(o:id<1048575)(F:id<n)(L:X.π id=zn)(P:∀ pid m,a ≠ .blk pid m)(S:∀ Y:Cx,Up X Y->BR Y b (zo a))(D:Nat) :
  ∃ Y:Cx,Y.π=Sv.Dc X.π id (zo a)/\Y.h=X.h/\RH Y (AG h id b) n/\St X h id D Y (AG h id b):=by
 let Y:Cx:={ π:=Sv.Dc X.π id (zo a),h:=X.h,O:=X.O }
 have f:∀ j,j≠id->Y.π j=X.π j:=λj s=>zx s;have G:Y.π id=zo a:=zy rfl
 have u:Up X Y:=⟨λj a s=>by
  grind,λq es ex fz w B=>⟨⟨fz,B⟩,w⟩⟩
 have p:∀ g,h.get id=zo g -> ¬ g.live:=λg B K=>by
  have:=r.blk _ _ B;rw[L]at this;cases g<;>first|exact K|(simp[BR]at this)
 refine⟨Y,rfl,rfl,⟨λi g hi=> ?_,λi U g J q W Z hi l M N x y=> ?_,λi a hi=> ?_,r.fresh,r.ob⟩,⟨u,rfl,λj s k=>by simp_all,λq w F=>F,λj g s C=> ?_,λq st pe nt t ps I E d w=>w⟩⟩
 ·rw[AJ o]at hi;by_cases c:i=id
  ·simp_all
  ·rw[zx c]at hi;rw[f i c];exact(r.blk _ _ hi).keep u λq m' w A=>⟨rfl,A⟩
 ·rw[AJ o]at hi l
  have z:∀ {i:Nat} {q m:Nat},Y.π i=zo (.blk q m)->i≠id:=λhh e=>by
   simp_all
  rw[zx (z x)]at hi;rw[zx (z y)]at l;rw[f _ (z x)]at x;rw[f _ (z y)]at y;exact r.inj _ _ _ _ _ _ _ hi l M N x y
 ·by_cases c:i=id
  ·omega
  ·rw[f i c]at hi;exact r.dom _ _ hi
 ·rw[AJ o,zx]
  ·exact s
  ·intro hh;subst hh;have:=p _ s;cases g<;>first|exact absurd trivial this|cases C
theorem RH.reput(r:RH X h n){id:Nat}(a:id<1048575){c d:BA}(hc:h.get id=zo c)(z:c.live)(w:BR X d (X.π id)):RH X (AG h id d) n:=by
 refine⟨λi e hi=> ?_,λi y b f p m m' hi g t u=> ?_,r.dom,r.fresh,r.ob⟩
 ·rw[AJ a]at hi;by_cases j:i=id
  ·simp_all
  ·rw[zx j]at hi;exact r.blk _ _ hi
 ·have k:∀ {i:Nat} {b:BA},(AG h id d).get i=zo b->b.live -> ∃ f,h.get i=zo f/\f.live:=fun {i b} hi x=>by
   rw[AJ a]at hi
   grind
  obtain⟨e1,l,q⟩:=k hi t;obtain⟨e2,o,s⟩:=k g u;exact r.inj _ _ _ _ _ _ _ l o q s
theorem St.put{id:Nat}(a:id<1048575){c d:BA}(hc:h.get id=zo c)(k:c.locked=zf)(i f:Nat):St X h i f X (AG h id d):=by
 refine⟨Up.refl X,rfl,λ_ _ h=>h,λ_ _ h=>h,λj b g l=> ?_,λ_ _ _ _ _ _ _ _ _ h=>h⟩;rw[AJ a,zx (λe=>by simp_all)];exact g
theorem RH.dead(r:RH X h n){j:Nat}{b:BA}(f:j<1048575)(C:h.get j=zo b)(D:b.locked=zf)(k:∀ pid m,X.π j≠zo (.blk pid m))(l:Nat):RH X (AG h j .dead) n /\ ∀ i,St X h i l X (AG h j .dead):=by
 refine⟨⟨λi c hi=> ?_,λi E c y q F G hi g p s u w=> ?_,r.dom,r.fresh,r.ob⟩,λi=>⟨Up.refl X,rfl,λ_ _ h=>h,λ_ _ h=>h,λi c hi A=> ?_,λq K I nt t J x o d B=>B⟩⟩
 ·rw[AJ f]at hi;by_cases a:i=j
  ·rw[zy a]at hi;cases hi;subst a;exact λpid m e=>absurd e (k _ _)
  ·rw[zx a]at hi;exact r.blk _ _ hi
 ·rw[AJ f]at hi g
  have nd:∀ {i:Nat} {c:BA},(if i=j then zo BA.dead else h.get i)=zo c->c.live->h.get i=zo c:=fun {i c} e z=>by
   by_cases a:i=j
   ·rw[zy a]at e;cases e;exact z.elim
   simp_all
  exact r.inj _ _ _ _ _ _ _ (nd hi p) (nd g s) p s u w
 ·rw[AJ f,zx]
  all_goals grind
end
def DX(h:Hp)(Q d:Nat->Prop):(c:Ty)->c.den->List PV->Prop
 |.int k,n,ps=>ps=[.int k n]
 |.bool,b,ps=>ps=[.bool b]
 |.str,s,ps=>ps=[.str s]
 |.unit,_,ps=>ps=[]
 |.pair a b,x,ps=>∃ p q,ps=p++q/\DX h Q d a x.1 p/\DX h Q d b x.2 q
 |.sl g c,l,ps=>∃ p,ps=[p]/\((p=.nils/\l=[])\/(∃ f es,p=.lst f es/\L2 (EP g (DP c)) l es) \/
   ∃ pid off len es ex fz,p=.own pid off len/\Q pid/\h.get pid=zo (.row es ex fz)/\off+len<=es.length/\Pi.CX c.wd es=zt/\L2 (EP g (DR h d c)) l ((es.drop off).take len))
theorem DX.same{h:Hp}{Q:Nat->Prop}:∀ {c:Ty} {x:c.den} {a:List PV},DX h Q Q c x a->DR h Q c x a
 |.int _,_,_,e=>e
 |.bool,_,_,e=>e
 |.str,_,_,e=>e
 |.unit,_,_,e=>e
 |.pair _ _,_,_,⟨p,q,e,b,d⟩=>⟨p,q,e,DX.same b,DX.same d⟩
 |.sl _ _,_,_,h=>h
theorem DR.pure{Q:Nat->Prop}:∀ {c:Ty} {x:c.den} {d:List PV},DR D7 Q c x d->DP c x d
 |.int _,_,_,e=>e
 |.bool,_,_,e=>e
 |.str,_,_,e=>e
 |.unit,_,_,e=>e
 |.pair _ _,_,_,⟨p,q,e,a,b⟩=>⟨p,q,e,DR.pure a,DR.pure b⟩
 |.sl _ _,_,_,⟨p,e,h⟩=>⟨p,e,by
  rcases h with h|h|⟨pid,off,len,es,ex,fz,a,b,f,g,i⟩
  ·exact .inl h
  ·exact .inr h
  ·cases f⟩
theorem DX.pure{Q f:Nat->Prop}:∀ {c:Ty} {x:c.den} {d:List PV},DX D7 Q f c x d->DP c x d
 |.int _,_,_,e=>e
 |.bool,_,_,e=>e
 |.str,_,_,e=>e
 |.unit,_,_,e=>e
 |.pair _ _,_,_,⟨p,q,e,a,b⟩=>⟨p,q,e,DX.pure a,DX.pure b⟩
 |.sl _ _,_,_,⟨p,e,h⟩=>⟨p,e,by
  rcases h with h|h|⟨pid,off,len,es,ex,fz,a,b,g,i,j⟩
  ·exact .inl h
  ·exact .inr h
  ·cases g⟩
theorem DR.leaf:∀ {hh:Hp} {Q:Nat->Prop} {c:Ty} {y:c.den} {d:List PV},DR hh Q c y d -> ∀ p∈d,(∀ cs,p ≠ .agg cs)/\(∀ cs,p ≠ .tup cs)/\p.cells=[p]
 |_,_,.int _,_,_,e,p,hp=>by subst e;simp at hp;subst hp;simp[PV.cells]
 |_,_,.bool,_,_,e,p,hp=>by subst e;simp at hp;subst hp;simp[PV.cells]
 |_,_,.str,_,_,e,p,hp=>by subst e;simp at hp;subst hp;simp[PV.cells]
 |_,_,.unit,_,_,e,p,hp=>by subst e;simp at hp
 |_,_,.pair _ _,_,_,⟨a,b,e,f,g⟩,p,hp=>by
  subst e;rcases List.mem_append.1 hp with hp|hp
  ·exact f.leaf p hp
  ·exact g.leaf p hp
 |_,_,.sl _ _,_,_,⟨a,e,h⟩,p,hp=>by
  grind [PV.cells]
theorem EP.cells{g:Bool}{hh:Hp}{Q:Nat->Prop}{c:Ty}{y:c.den}{e:PV}(h:EP g (DR hh Q c) y e):DR hh Q c y e.cells:=by
 cases g with
 |true=>obtain⟨cs,rfl,h⟩:=h;exact h
 |false=>
  have h':DR hh Q c y [e]:=h;rw[(h'.leaf e (by simp)).2.2];exact h'
theorem DR.wd:∀ {hh:Hp} {Q:Nat->Prop} {c:Ty} {y:c.den} {d:List PV},DR hh Q c y d->d.length=c.wd
 |_,_,.int _,_,_,e=>by subst e;rfl
 |_,_,.bool,_,_,e=>by subst e;rfl
 |_,_,.str,_,_,e=>by subst e;rfl
 |_,_,.unit,_,_,e=>by subst e;rfl
 |_,_,.pair _ _,_,_,⟨a,b,e,f,g⟩=>by subst e;rw[List.length_append,f.wd,g.wd];rfl
 |_,_,.sl _ _,_,_,⟨a,e,h⟩=>by subst e;rfl
theorem EP.wd{g:Bool}{hh:Hp}{Q:Nat->Prop}{c:Ty}{y:c.den}{e:PV}(h:EP g (DR hh Q c) y e):e.cells.length=c.wd:=h.cells.wd
theorem Ar{g:Bool}{hh:Hp}{Q:Nat->Prop}{c:Ty}{l:List c.den}{es:List PV}{b:Nat}(hs:b=c.wd)(h:L2 (EP g (DR hh Q c)) l es):Pi.CX b es=zt:=by
 cases h with
 |nil=>rfl
 |cons a _=>simp only[Pi.CX,a.wd];simp[hs]
theorem EP.agg_inv{α:Type}{D:α->List PV->Prop}{x:α}{e:PV}(h:EP zt D x e):∃ cs,e=.agg cs/\D x cs:=h
section
variable{β:Type}{x:β}
theorem Ld{α:Type}{d:V->(α->Option β)->Option β}{X:Cx}{R:α->PV->Prop}(b:∀ {v:V} {p:PV} {K:α->Option β},VR X v p->d v K=zo x -> ∃ y,K y=zo x/\R y p) :
  ∀ {vs:List V} {c:List PV} {K:List α->Option β},VRL X vs c->Pj d vs K=zo x -> ∃ a,K a=zo x/\L2 R a c
 |[],_,K,h,e=>by rw[h.nil_inv];exact⟨[],e,.nil⟩
 |v::vs,_,K,h,e=>by
  obtain⟨p,k,rfl,f,g⟩:=h.cons_inv;obtain⟨y,e1,i⟩:=b f e;obtain⟨a,e2,j⟩:=Ld b g e1;exact⟨y::a,e2,.cons i j⟩
theorem Ko{α:Type}{R:α->PV->Prop}{l:List α}{es:List PV}(h:L2 R l es)(off len:Nat):L2 R (Db l off (A0 off len)) ((es.drop off).take len):=by
 unfold Db A0;rw[show off+len-off=len from by omega];exact(h.drop off).take len
theorem Hv:∀ (a b:List V),Fl (a++b)=Fl a++Fl b
 |[],b=>rfl
 |v::a,b=>by
  have c:=Hv a b;cases v<;>simp[Fl,c]
theorem P6{id:Nat}{v:V}(h:id∈Fl [v]):id∈Fl v.cells:=by
 cases v<;>first|exact h|(simp[Fl]at h)
theorem DB:∀ {c:Ty} {X:Cx} {h:H} {Q:Nat->Prop} {vs:List V} {w:List PV} {K:c.den->List V->Option β},
  (∀ id b a,h.get id=zo b->X.π id=zo a->BR X b (zo a))->(∀ id b pid m,id∈Fl vs->h.get id=zo b->X.π id=zo (.blk pid m)->Q pid)->(∀ pid,X.Q pid->Q pid) ->
  VRL X vs w->D1 h c vs K=zo x -> ∃ y r p q,K y r=zo x/\w=p++q/\DX X.h Q X.Q c y p/\VRL X r q /\ ∃ s,vs=s++r
 |.int k,X,h,Q,vs,w,K,hb,hq,hQ,i,e=>by
  unfold D1 at e;split at e
  ·replace e:=AN e;obtain⟨hk,e⟩:=e;obtain⟨p,o,rfl,d,j⟩:=i.cons_inv;simp only[VR]at d;subst d;have:=eq_of_beq hk;subst this;exact⟨_,_,[_],o,e,rfl,rfl,j,[_],rfl⟩
  ·cases e
 |.bool,X,h,Q,vs,w,K,hb,hq,hQ,i,e=>by
  unfold D1 at e;split at e
  ·obtain⟨p,o,rfl,d,j⟩:=i.cons_inv;simp only[VR]at d;subst d;exact⟨_,_,[_],o,e,rfl,rfl,j,[_],rfl⟩
  ·cases e
 |.str,X,h,Q,vs,w,K,hb,hq,hQ,i,e=>by
  unfold D1 at e;split at e
  ·obtain⟨p,o,rfl,d,j⟩:=i.cons_inv;simp only[VR]at d;subst d;exact⟨_,_,[_],o,e,rfl,rfl,j,[_],rfl⟩
  ·cases e
 |.unit,X,h,Q,vs,w,K,hb,hq,hQ,i,e=>by
  unfold D1 at e;exact⟨(),vs,[],w,e,rfl,rfl,i,[],rfl⟩
 |.pair a b,X,h,Q,vs,w,K,hb,hq,hQ,i,e=>by
  unfold D1 at e;obtain⟨y,r,p,q,e1,rfl,D,C,s1,rfl⟩:=DB hb hq hQ i e;obtain⟨z,r',S,q',e2,rfl,U,r2,s2,rfl⟩:=DB hb (λid b pid m hi=>hq id b pid m (by simp_all[Hv])) hQ C e1;exact⟨(y,z),r',p++S,q',e2,by simp,⟨p,S,rfl,D,U⟩,r2,s1++s2,by simp⟩
 |.sl g c,X,h,Q,vs,w,K,hb,hq,hQ,i,e=>by
  unfold D1 at e;split at e
  ·obtain⟨p,o,rfl,d,j⟩:=i.cons_inv;simp only[VR]at d;subst d;exact⟨[],_,[_],o,e,rfl,⟨_,rfl,.inl ⟨rfl,rfl⟩⟩,j,[_],rfl⟩
  ·rename_i J I l r;replace e:=AN e;obtain⟨u,e⟩:=e;have:=eq_of_beq u;subst this;obtain⟨hc,e⟩:=Ao e;subst hc;obtain⟨p,o,rfl,d,j⟩:=i.cons_inv;refine⟨l,_,[p],o,e,rfl,⟨p,rfl,?_⟩,j,[_],rfl⟩;simp only[VR]at d;rcases d with d|⟨f,es,d,_,F⟩|⟨pid,off,len,es,ex,fz,d,_,F,Y,G,h8,Z⟩
   ·grind
   ·grind
   ·exact .inr (.inr ⟨pid,off,len,es,ex,fz,d,hQ _ F,Y,G,h8,Z⟩)
  ·rename_i J I l r;replace e:=AN e;obtain⟨u,e⟩:=e;have:=eq_of_beq u;subst this;obtain⟨hc,e⟩:=Ao e;subst hc;obtain⟨p,o,rfl,d,j⟩:=i.cons_inv;refine⟨l,_,[p],o,e,rfl,⟨p,rfl,?_⟩,j,[_],rfl⟩
   grind [VR]
  ·rename_i f es r;obtain⟨p,o,rfl,d,j⟩:=i.cons_inv;simp only[VR]at d;obtain⟨W,w,rfl,_,F⟩:=d
   obtain⟨ys,e1,C⟩:=Ld (X:=Cx.pure) (R:=EP g (DP c)) (fun {v p K'} i e=>by
    rcases BQ e with⟨u,e⟩|⟨u,e⟩
    ·subst u;split at e
     ·obtain⟨cs,rfl,M⟩:=i.agg_inv;obtain⟨y,r,p,q,e1,rfl,D,C,_⟩:=DB (c:=c) (Q:=λ_=>True) (λ_ _ _ _ h=>(by cases h)) (λ_ _ _ _ _ _ h=>(by cases h)) (λ_ _=>trivial) M e;split at e1
      ·rw[C.nil_inv];exact⟨y,e1,_,rfl,by rw[aL];exact D.pure⟩
      ·cases e1
     ·cases e
    ·subst u;obtain⟨y,r,p,q,e1,G,D,C,_⟩:=DB (c:=c) (Q:=λ_=>True) (λ_ _ _ _ h=>(by cases h)) (λ_ _ _ _ _ _ h=>(by cases h)) (λ_ _=>trivial) (VRL.cons i .nil) e;split at e1
     ·rw[C.nil_inv,aL]at G;subst G;exact⟨y,e1,D.pure⟩
     ·cases e1) F e
   exact⟨ys,_,[_],o,e1,rfl,⟨_,rfl,.inr (.inl ⟨W,w,rfl,C⟩)⟩,j,[_],rfl⟩
  ·rename_i id r;split at e
   ·rename_i J I l ex fz lk n;replace e:=AN e;obtain⟨u,e⟩:=e;have:=eq_of_beq u;subst this;obtain⟨hc,e⟩:=Ao e;subst hc;obtain⟨p,o,rfl,d,j⟩:=i.cons_inv;refine⟨l,_,[p],o,e,rfl,⟨p,rfl,?_⟩,j,[_],rfl⟩;simp only[VR]at d;cases t:X.π id with
    |none=>simp_all
    |some a=>
     rw[t]at d;rcases hb _ _ _ n t with⟨pid,len,es,A,B,N,O,k4,k5,k7,E⟩|⟨B,_,N⟩|⟨es,B,_,_,N⟩
     ·cases B;simp only at d;subst d;refine .inr (.inr ⟨pid,0,len,es,ex,A,rfl,hq _ _ _ _ (by simp[Fl]) n t,O,by omega,Ar rfl E,?_⟩)
      grind
     all_goals simp_all
   ·cases e
  ·rename_i id off len r;split at e
   ·rename_i J I l ex fz lk n;replace e:=AN e;obtain⟨u,e⟩:=e;have:=eq_of_beq u;subst this;obtain⟨L,e⟩:=AI e;obtain⟨hc,e⟩:=Ao e;subst hc;obtain⟨p,o,rfl,d,j⟩:=i.cons_inv;refine⟨_,_,[p],o,e,rfl,⟨p,rfl,?_⟩,j,[_],rfl⟩;simp only[VR]at d;obtain⟨pid,m,t,rfl⟩:=d;rcases hb _ _ _ n t with⟨pid,P,es,A,B,N,O,k4,k5,k7,E⟩|⟨B,_⟩|⟨es,B,_⟩
    ·cases B;refine .inr (.inr ⟨_,off,len,es,ex,A,rfl,hq _ _ _ _ (by simp[Fl]) n t,O,?_,Ar rfl E,?_⟩)
     ·rw[<- E.length];simpa[B5,A0,AQ]using L
     ·exact Ko E off len
    all_goals simp_all
   ·cases e
  ·cases e
theorem Gc{c:Ty}{X:Cx}{vs:List V}{a:List PV}{K:c.den->List V->Option β}(i:VRL X vs a)(e:D1 .lf c vs K=zo x):∃ y r p q,K y r=zo x/\a=p++q/\DR X.h X.Q c y p/\VRL X r q:=
 by
 obtain⟨y,r,p,q,b,d,f,g,_⟩:=DB (Q:=X.Q) (λ_ _ _ h=>(by cases h)) (λ_ _ _ _ _ h=>(by cases h)) (λ_ h=>h) i e;exact⟨y,r,p,q,b,d,f.same,g⟩
theorem D2{g:Bool}{c:Ty}{X:Cx}{v:V}{p:PV}{K:c.den->Option β}(j:VR X v p)(e:F8 .lf g c v K=zo x):∃ y,K y=zo x/\EP g (DR X.h X.Q c) y p:=by
 unfold F8 at e;rcases BQ e with⟨a,e⟩|⟨a,e⟩
 ·subst a;split at e
  ·obtain⟨cs,rfl,b⟩:=j.agg_inv;obtain⟨y,r,p,q,e1,rfl,f,d⟩:=Gc b e;split at e1
   ·rw[d.nil_inv];exact⟨y,e1,_,rfl,by simp_all⟩
   ·cases e1
  ·cases e
 ·subst a;obtain⟨y,r,p,q,e1,i,f,d⟩:=Gc (VRL.cons j .nil) e;split at e1
  ·rw[d.nil_inv,aL]at i;subst i;exact⟨y,e1,f⟩
  ·cases e1
theorem Ge{g:Bool}{c:Ty}{X:Cx}{h:H}{n:Nat}{Q:Nat->Prop}(r:RH X h n){v:V}{p:PV}{K:c.den->Option β}(t:∀ id pid m,id∈Fl v.cells->X.π id=zo (.blk pid m)->Q pid)(o:∀ pid,X.Q pid->Q pid)(u:VR X v p)(e:F8 h g c v K=zo x):∃ y,K y=zo x/\EP g (DX X.h Q X.Q c) y p:=by
 unfold F8 at e;have s:∀ id b a,h.get id=zo b->X.π id=zo a->BR X b (zo a):=λid b a w z=>z ▸ r.blk _ _ w;rcases BQ e with⟨d,e⟩|⟨d,e⟩
 ·subst d;split at e
  ·obtain⟨cs,rfl,i⟩:=u.agg_inv;obtain⟨y,r,p,q,e1,rfl,k,j,_⟩:=DB (Q:=Q) s (λid b pid m hi _ f=>t id pid m hi f) o i e;split at e1
   ·rw[j.nil_inv];exact⟨y,e1,_,rfl,by simp_all⟩
   ·cases e1
  ·cases e
 ·subst d;obtain⟨y,r,p,q,e1,l,k,j,_⟩:=DB (Q:=Q) s (λid b pid m hi _ f=>t id pid m (P6 hi) f) o (VRL.cons u .nil) e;split at e1
  ·rw[j.nil_inv,aL]at l;subst l;exact⟨y,e1,k⟩
  ·cases e1
theorem HJ{g:Bool}{c:Ty}{X:Cx}{h:H}{n:Nat}(r:RH X h n){v:V}{p:PV}{K:List c.den->Option β}(w:VR X v p)(e:Ie h g c v K=zo x) :
  ∃ l es,K l=zo x/\Pi.A2 X.h p=zo es/\L2 (EP g (DR X.h X.Q c)) l es:=by
 unfold Ie at e;have u:∀ id b a,h.get id=zo b->X.π id=zo a->BR X b (zo a):=λid b a s t=>t ▸ r.blk _ _ s;obtain⟨l,C,A,q,e1,z,d,B,_⟩:=DB (Q:=λ_=>True) u (λ_ _ _ _ _ _ _=>trivial) (λ_ _=>trivial) (VRL.cons w .nil) e;obtain⟨y,rfl,d⟩:=d
 have:p=y:=by
  simp_all
 subst this;rcases d with⟨rfl,rfl⟩|⟨f,es,rfl,i⟩|⟨pid,off,len,es,ex,fz,rfl,_,j,m,_,o⟩
 ·exact⟨[],[],e1,rfl,.nil⟩
 ·exact⟨l,es,e1,rfl,i.mono λ_ _ k=>k.mono λ_ _ k=>k.up⟩
 ·refine⟨l,_,e1,?_,o⟩;unfold Pi.A2;simp only[j];have:ad (off+len) es.length=zt:=by simpa using m
  grind
end
end
section
variable[Pi.Gl]
open Pi (PV T Hp Blk DF UM PE AM AS)
section
variable{X:Cx}{h:H}{n:Nat}{β:Type}{x:β}{P:Program}
theorem DH:∀ {c:Ty} {y:c.den} {a:List PV},DR X.h X.Q c y a->VRL X (cells c y) a
 |.int _,_,_,e=>by subst e;exact .cons (by simp[VR]) .nil
 |.bool,_,_,e=>by subst e;exact .cons (by simp[VR]) .nil
 |.str,_,_,e=>by subst e;exact .cons (by simp[VR]) .nil
 |.unit,_,_,e=>by subst e;exact .nil
 |.pair _ _,_,_,⟨p,q,e,b,d⟩=>by subst e;exact(DH b).append (DH d)
 |.sl _ _,_,_,⟨p,e,h⟩=>by
  subst e;refine .cons ?_ .nil
  simp_all[VR]
theorem GC{g:Bool}{c:Ty}{y:c.den}{e:PV}(h:EP g (DR X.h X.Q c) y e):VR X (Ol g c y) e:=by
 cases g with
 |true=>obtain⟨cs,rfl,h⟩:=h;simp only[Ol,zb,VR];exact⟨cs,rfl,DH h⟩
 |false=>
  have:=DH (X:=X) (show DR X.h X.Q c y [e]from h);unfold Ol;simp only[zj];have i:=this.length;split
  ·rename_i v b;rw[b]at this;obtain⟨p,j,d,f,_⟩:=this.cons_inv;simp_all
  ·rename_i a;cases hc:cells c y<;>simp_all
theorem FP:∀ {c:Ty} {y:c.den} {a:List PV},DP c y a->VRL X (HF c y) a
 |.int _,_,_,e=>by subst e;exact .cons (by simp[VR]) .nil
 |.bool,_,_,e=>by subst e;exact .cons (by simp[VR]) .nil
 |.str,_,_,e=>by subst e;exact .cons (by simp[VR]) .nil
 |.unit,_,_,e=>by subst e;exact .nil
 |.pair _ _,_,_,⟨p,q,e,b,d⟩=>by subst e;exact(FP b).append (FP d)
 |.sl _ _,_,_,⟨p,e,h⟩=>by
  subst e;refine .cons ?_ .nil;simp only[VR];exact h
theorem DM{g:Bool}{c:Ty}{y:c.den}{e:PV}(h:EP g (DP c) y e):VR X (elP g c y) e:=by
 cases g with
 |true=>obtain⟨cs,rfl,h⟩:=h;simp only[elP,zb,VR];exact⟨cs,rfl,FP h⟩
 |false=>
  have:=FP (X:=X) (show DP c y [e]from h);unfold elP;simp only[zj];have i:=this.length;split
  ·rename_i v b;rw[b]at this;obtain⟨p,j,d,f,_⟩:=this.cons_inv;simp_all
  ·rename_i a;cases hc:HF c y<;>simp_all
theorem RH.ptr(r:RH X h n){j off:Nat}{p:PV}{cs:List V}{fz f:Bool}(c:VR X (.ptr j off) p)(e:h.get j=zo (.box cs fz f)) :
  ∃ pid m b a,X.π j=zo (.blk pid m)/\p=.ptr pid off/\X.h.get pid=zo (.box b a)/\(fz=zf->a=zf)/\VRL X cs b:=by
 simp only[VR]at c;obtain⟨pid,m,d,rfl⟩:=c;have:=r.blk _ _ e;rw[d]at this;obtain⟨_,_,b,a,g,i,k,l,o⟩:=this
 grind
theorem RH.boxAt(r:RH X h n){j pid m:Nat}{cs:List V}{fz d:Bool}(c:X.π j=zo (.blk pid m))(e:h.get j=zo (.box cs fz d)) :
  ∃ b a,X.h.get pid=zo (.box b a)/\(fz=zf->a=zf)/\VRL X cs b:=by
 have:=r.blk _ _ e;rw[c]at this;obtain⟨_,_,b,a,f,g,i,k,l⟩:=this
 grind
theorem RH.rowAt(r:RH X h n){j pid m:Nat}{g:Bool}{c:Ty}{l:List c.den}{ex fz f:Bool}(d:X.π j=zo (.blk pid m))(e:h.get j=zo (.row g c l ex fz f)) :
  ∃ es a,X.h.get pid=zo (.row es ex a)/\(fz=zf->a=zf)/\es.length=m/\(ex=zf->0<m)/\L2 (EP g (DR X.h X.Q c)) l es:=by
 have:=r.blk _ _ e;rw[d]at this;rcases this with⟨_,_,es,a,b,i,k,o,p,s,q⟩|⟨b,_⟩|⟨_,b,_⟩<;>grind
theorem Gr{b:IntKind}:∀ {m:Nat} {vs:List V} {a:List PV} {l:List Int},VRL X vs a->Gq b m vs=zo l->l.length=m/\a.take m=l.map (PV.int b)/\m<=a.length
 |0,_,_,_,_,e=>by cases e;simp
 |m+1,[],_,_,_,e=>by simp[Gq]at e
 |m+1,v::vs,a,l,hv,e=>by
  unfold Gq at e;split at e
  ·omega
  ·rename_i r k x j f g;cases f;cases g;cases d:(k == b)with
   |false=>simp_all
   |true=>
    rw[d]at e;have:=eq_of_beq d;subst this;obtain⟨l',i,rfl⟩:=ck.1 e;obtain⟨p,s,rfl,c,h⟩:=hv.cons_inv;simp only[VR]at c;subst c;obtain⟨n,o,q⟩:=Gr h i
    simp_all
  ·cases e
theorem QG(r:RH X h n){ty:TypeId}{a:V}{p:PV}{K:V->Option β}(d:VR X a p)(e:QF P h ty a K=zo x):∃ v q,K v=zo x/\Pi.CH P X.h ty p=zo (.val q X.h)/\VR X v q:=by
 unfold QF at e;split at e
 ·replace e:=AD e;obtain⟨v,e1,e⟩:=e;simp only[VR]at d;obtain⟨z,rfl,b⟩:=d;obtain⟨q,e2,f⟩:=Bh (b.mono (Up.pure X)) e1;exact⟨v,q,e,A7 e2,f⟩
 ·split at e
  ·rename_i cs fz I u;obtain⟨pid,m,z,o,b,rfl,s,A,t⟩:=r.ptr d u;replace e:=AD e;obtain⟨v,e1,e⟩:=e;obtain⟨q,e2,f⟩:=Bh (t.drop _) e1
   grind [Pi.CH,A7]
  ·cases e
 ·replace e:=AD e;obtain⟨v,e1,e⟩:=e;simp only[VR]at d;rcases d with⟨z,rfl,b⟩|⟨pid,i,off,es,ex,fz,J,rfl,b,B,s,A⟩
  ·obtain⟨q,e2,f⟩:=Bh (b.mono (Up.pure X)) e1;exact⟨v,q,e,A7 e2,f⟩
  ·obtain⟨q,e2,f⟩:=Bh A e1;refine⟨v,q,e,?_,f⟩;unfold Pi.CH;simp only[B,AM,s];exact A7 e2
 ·rename_i j i off;split at e
  ·rename_i g c l ex fz I u;replace e:=Gs e;obtain⟨y,O,e⟩:=e;replace e:=AD e;obtain⟨v,e1,e⟩:=e;simp only[VR]at d;obtain⟨pid,m,b,rfl⟩:=d;obtain⟨es,o,B,s,A,W,t⟩:=r.rowAt b u;obtain⟨J,C,L⟩:=t.get O;obtain⟨q,e2,f⟩:=Bh ((GC L).cells.drop off) e1;refine⟨v,q,e,?_,f⟩;unfold Pi.CH;simp only[B,AM,C];exact A7 e2
  ·cases e
 ·rename_i j off k m;split at e
  ·rename_i cs fz I u;split at e
   ·rename_i F sz M w E;replace e:=AD e;obtain⟨l,N,e⟩:=e;simp only[VR]at d;obtain⟨pid,mm,b,rfl,D⟩:=d;obtain⟨z,o,s,A,t⟩:=r.boxAt b u;obtain⟨Y,S,Z⟩:=Gr (t.drop off) N;refine⟨_,.int F (IN l k),e,?_,by simp[VR]⟩;unfold Pi.CH;simp only[s];refine A7 ?_;unfold Pi.part;simp only[w,E]
    have G:(z.drop (off+k))[0]?=zo (.int F (IN l k)):=by
     rw[aJ,aN]
     have U:(z.drop off)[k]?=zo (.int F (IN l k)):=by
      rw[<- bf D,S,aX]
      simp_all[IN]
     simp_all
    grind
   ·cases e
  ·cases e
 ·cases e
theorem BH(h:Hp)(i:Nat)(b:Blk):∃ h',h.set i b=zo h':=⟨{ h with m:=T.put (i+1) h.m i b },by
 unfold Pi.Hp.set;rw[show ae i (i+1)=zt from by simp];rfl⟩
theorem GL(h:Hp)(i:Nat)(b:Blk)(e:h.get i=zn):∃ h',h.new i b=zo h':=by
 unfold Pi.Hp.new Pi.Hp.get at *;rw[e];exact BH h i b
theorem S9{hs:Hp}{pid i:Nat}{es:List PV}{ex:Bool}{a b:PV}{d:List PV}(A:List PV->Option Pi.R):(∀ cs,a ≠ .agg cs)->a.cells=[a]->d=[b]->(∀ cs,b ≠ .agg cs)->(∀ cs,b ≠ .tup cs) ->
  (match a with
   |.agg cs=>A cs
   |_=>(match d with
    |[c]=>bif aa 0 0&&aa a.cells.length 1 then(match c with
     |.agg _=>zn
     |.tup _=>zn
     |c=>(hs.set pid (.row (Pi.lset es i c) ex zf)).map Pi.R.skip)else zn
    |_=>zn))=(hs.set pid (.row (Pi.lset es i b) ex zf)).map .skip:=by
 simp_all
def FK(X:Cx)(h:H)(n id idP:Nat)(h':H)(a:Hp)(Y:Cx):Prop:=Y.h=a/\RH Y h' n/\St X h id idP Y h'
def NX(a:IntKind)(k:Nat)(x:Int):Nat->List Int->List PV
 |_,[]=>[]
 |i,y::l=>.int a (if k=i then x else y)::NX a k x (i+1) l
theorem OV{a:IntKind}{k:Nat}{x:Int}:∀ (l:List Int) (i:Nat),VRL X (PN a k x i l) (NX a k x i l)
 |[],_=>by rfl
 |y::l,i=>by
  unfold PN NX;refine .cons ?_ (OV l (i+1))
  simp_all[VK,neq,VR,zy,aa]
theorem MP{a:IntKind}{k:Nat}{x:Int}:∀ (l:List Int) (i:Nat),NX a k x i l=if i<=k then(l.map (PV.int a)).set (k-i) (.int a x)else l.map (PV.int a)
 |[],i=>by simp[NX]
 |y::l,i=>by
  unfold NX;rw[MP l (i+1)];by_cases h:k=i
  ·subst h;rw[zy rfl,zx (by omega),zy (ab _),Nat.sub_self];rfl
  ·rw[zx h];by_cases b:i<=k
   ·rw[zy (by omega),zy b,show k-i=(k-(i+1))+1 by omega];rfl
   grind
theorem QK{b:IntKind}{a:List PV}{l:List Int}{off k m:Nat}{x:Int}(j:(a.drop off).take m=l.map (PV.int b))(n:l.length=m)(o:m<=(a.drop off).length)(q:k<m) :
  Pi.BD a off (NX b k x 0 l)=Pi.BD a (off+k) [.int b x]:=by
 rw[MP,zy (Nat.zero_le _),Nat.sub_zero];obtain⟨A,g⟩:∃ A,A=a.take off:=⟨_,rfl⟩;obtain⟨R,p⟩:∃ R,R=(a.drop off).drop m:=⟨_,rfl⟩;obtain⟨L,h⟩:∃ L,L=l.map (PV.int b):=⟨_,rfl⟩;have e:off<=a.length:=by grind
 have c:a=A++(L++R):=by grind [List.take_append_drop]
 have d:A.length=off:=by grind
 have i:L.length=m:=by grind
 rw[<- h];unfold Pi.BD;have e1:a.take off=A:=g.symm;have e2:a.drop (off+(L.set k (.int b x)).length)=R:=by grind
 have e3:a.take (off+k)=A++L.take k:=by
  rw[c,List.take_append,List.take_of_length_le (by omega),d,cu,List.take_append_of_le_length (by omega)]
 have f:a.drop (off+k+[PV.int b x].length)=L.drop (k+1)++R:=by
  rw[c,show off+k+[PV.int b x].length=A.length+(k+1) by simp;omega,List.drop_append,List.drop_eq_nil_of_le (by omega),cu,List.drop_append_of_le_length (by omega)];rfl
 rw[e1,e2,e3,f,List.set_eq_take_append_cons_drop,zy (by omega)];simp
theorem J6(r:RH X h n)(hn:n<=1048575){ty:TypeId}{a w:V}{p q:PV}{K:H->Option β}(O:VR X a p)(hw:VR X w q)(id idP:Nat)(e:LL P h ty a w K=zo x) :
  ∃ h' d Y,K h'=zo x/\Pi.A3 P X.h ty p q=zo (.skip d)/\FK X h n id idP h' d Y:=by
 unfold LL at e;replace e:=AD e;obtain⟨sz,G,e⟩:=e;replace e:=BF e;obtain⟨hc,e⟩:=e;have I:=hw.cells;rw[I.length]at hc;have O2:∀ {j pid m:Nat},X.π j=zo (.blk pid m)->j<1048575:=λhp=>by have:=r.dom _ _ hp;omega
 split at e
 ·rename_i j off;split at e
  ·rename_i cs o;replace e:=AN e;obtain⟨z,e⟩:=e;obtain⟨pid,m,L,N,f,rfl,D,h4,A⟩:=r.ptr O o;have:=h4 rfl;subst this;have b:∃ d,X.h.set pid (.box (Pi.BD L off q.cells) zf)=zo d:=BH _ _ _;obtain⟨d,b⟩:=b
   obtain⟨Y,y1,s,C,y4,y5⟩:=r.set (b':=.box (Gp cs off w.cells) zf zf) (O2 f) o trivial rfl f D (by intros;simp) b
    (λY y1 s C u=>by
     rw[f]
     refine⟨pid,m,_,zf,rfl,by rw[C];exact(f ▸ r.blk _ _ o).own trivial,by rw[s,(Hp.get_set b).1,zy rfl],λ_=>rfl,(A.fput I off).mono u⟩) idP
   refine⟨_,d,Y,e,?_,s,y4,y5 id⟩;unfold Pi.A3;simp only[G,hc,zj,D];rw[<- A.length,z]
   simp_all
  ·cases e
 ·rename_i j i off;split at e
  ·rename_i g c l ex o;replace e:=Gs e;obtain⟨y,hy,e⟩:=e;replace e:=AN e;obtain⟨z,e⟩:=e;simp only[VR]at O;obtain⟨pid,m,f,rfl⟩:=O;obtain⟨es,N,h2,D,h4,h9,A⟩:=r.rowAt f o;have:=D rfl;subst this;obtain⟨J,hel,hE⟩:=A.get hy;have F:=DH (X:=X) hE.cells;have hf:=F.fput I off;obtain⟨y',r',p',q',e1,h6,d1,r1⟩:=Gc hf e;split at e1
   ·rw[r1.nil_inv,aL]at h6;subst h6
    have key:∃ t,EP g (DR X.h X.Q c) y' t/\(match J with
      |.agg cs=>(X.h.set pid (.row (Pi.lset es i (.agg (Pi.BD cs off q.cells))) ex zf)).map Pi.R.skip
      |_=>(match q.cells with
       |[c]=>bif aa off 0&&aa J.cells.length 1 then(match c with
        |.agg _=>zn
        |.tup _=>zn
        |c=>(X.h.set pid (.row (Pi.lset es i c) ex zf)).map .skip)else zn
       |_=>zn))=(X.h.set pid (.row (Pi.lset es i t) ex zf)).map .skip:=by
     cases g with
     |true=>
      obtain⟨cs,rfl,_⟩:=hE;exact⟨.agg (Pi.BD cs off q.cells),⟨_,rfl,d1⟩,rfl⟩
     |false=>
      have E:DR X.h X.Q c y [J]:=hE;have B:=E.leaf J (by simp);have U:(cells c y).length=1:=by rw[F.length,B.2.2];rfl
      simp only[ah,au,bJ,bA]at hc;rw[U]at z;have hle':off+sz<=1:=by simp_all
      have W:off=0:=by omega
      have hsz1:sz=1:=by omega
      subst W;have hq1:q.cells.length=1:=by omega
      obtain⟨M,hc1⟩:∃ M,q.cells=[M]:=by
       cases hqq:q.cells<;>simp_all
      have AG:Pi.BD J.cells 0 q.cells=[M]:=by rw[B.2.2,hc1];rfl
      rw[AG]at d1;have hl1:=d1.leaf M (by simp);refine⟨M,d1,?_⟩<;>simp_all
    obtain⟨t,E,hk⟩:=key;have b:∃ d,X.h.set pid (.row (Pi.lset es i t) ex zf)=zo d:=BH _ _ _;obtain⟨d,b⟩:=b
    obtain⟨Y,y1,s,C,y4,y5⟩:=r.set (b':=.row g c (lset l i y') ex zf zf) (O2 f) o trivial rfl f h2 (by intros;simp) b
     (λY y1 s C u=>by
      rw[f];refine .inl ⟨pid,m,_,zf,rfl,by rw[C];exact(f ▸ r.blk _ _ o).own trivial,by rw[s,(Hp.get_set b).1,zy rfl],λ_=>rfl,by rw[AS];grind,h9,?_⟩;rw[AS]
      exact EDR.mono u (A.set i E)) idP
    refine⟨_,d,Y,e1,?_,s,y4,y5 id⟩;unfold Pi.A3;have S:ad (off+sz) J.cells.length=zt:=by rw[<- F.length];exact z
    simp only[G,hc,zj,h2,AM,hel,S,zb]
    grind
   ·cases e1
  ·cases e
 ·rename_i j off k m;split at e
  ·rename_i cs o;split at e
   ·rename_i Z x k0 hk0;replace e:=AN e;obtain⟨hkk,e⟩:=e;have:=eq_of_beq hkk;subst this;replace e:=AD e;obtain⟨l,hl,e⟩:=e;simp only[VR]at O hw;subst hw;obtain⟨pid,mm,f,rfl,hlt⟩:=O;obtain⟨L,N,D,h4,A⟩:=r.boxAt f o;have:=h4 rfl;subst this;obtain⟨i1,i2,i3⟩:=Gr (A.drop off) hl;have AG:=QK (x:=x) i2 i1 i3 hlt
    have hv:VRL X (Gp cs off (PN Z k x 0 l)) (Pi.BD L (off+k) [.int Z x]):=by
     rw[<- AG];exact A.fput (OV l 0) off
    obtain⟨d,b⟩:=BH X.h pid (.box (Pi.BD L (off+k) [.int Z x]) zf)
    obtain⟨Y,y1,s,C,y4,y5⟩:=r.set (b':=.box (Gp cs off (PN Z k x 0 l)) zf zf) (O2 f) o trivial rfl f D (by intros;simp) b
     (λY y1 s C u=>by
      rw[f]
      refine⟨pid,mm,_,zf,rfl,by rw[C];exact(f ▸ r.blk _ _ o).own trivial,by rw[s,(Hp.get_set b).1,zy rfl],λ_=>rfl,hv.mono u⟩) idP
    refine⟨_,d,Y,e,?_,s,y4,y5 id⟩
    have hs1:sz=1:=by
     simp only[ah,au,bJ,bA]at hc;exact hc.2.symm
    subst hs1;unfold Pi.A3;simp only[G,hc,zj,D]
    have hb:ad (off+k+1) L.length=zt:=by
     rw[List.length_drop]at i3;simp;omega
    rw[hb];show(X.h.set pid (.box (Pi.BD L (off+k) [.int Z x]) zf)).map Pi.R.skip=_
    grind
   ·cases e
  ·cases e
 ·cases e
end
end
section
variable[Pi.Gl]
open Pi (PV T Hp Blk DF UM PE AM AS)
section
variable{X:Cx}{h:H}{n:Nat}{β:Type}{x:β}{P:Program}
theorem EP.upP{g:Bool}{hh:Hp}{Q:Nat->Prop}{c:Ty}{y:c.den}{e:PV}(h:EP g (DP c) y e):EP g (DR hh Q c) y e:=h.mono λ_ _ k=>k.up
theorem G4{k:Nat}:∀ {m i:Nat} {K:Nat->Option β},I5 k m i K=zo x->K k=zo x/\i<=k/\k<i+m
 |0,_,_,e=>by cases e
 |1,i,K,e=>by
  unfold I5 at e;obtain⟨b,a⟩:=AI e;have:k=i:=by simpa[neq]using b
  subst this;exact⟨a,ab _,by omega⟩
 |m+2,i,K,e=>by
  unfold I5 at e;rcases BO e with⟨b,a⟩|⟨b,a⟩
  ·have:k=i:=by simpa[neq]using b
   subst this;exact⟨a,ab _,by omega⟩
  ·obtain⟨c,d,f⟩:=G4 a;exact⟨c,by omega,by omega⟩
theorem JF{s:TypeId}{a:V}{p:PV}{f:Nat}{K:V->Option β}(c:VR X a p)(e:GD P s a f K=zo x):∃ v q,K v=zo x/\Pi.Ax P X.h s p f=zo (.val q X.h)/\VR X v q:=by
 unfold GD at e;unfold Pi.Ax;split at e
 ·rename_i u o;split at e
  ·rename_i t n;split at e
   ·rename_i w d;replace e:=BF e;obtain⟨hc,e⟩:=e;simp only[o,n,d,hc,zj];split at e
    ·simp only[VR]at c;obtain⟨pid,m,b,rfl⟩:=c;exact⟨_,_,e,rfl,by simp only[VR];exact⟨pid,m,b,rfl⟩⟩
    ·simp only[VR]at c;obtain⟨pid,m,b,rfl⟩:=c;exact⟨_,_,e,rfl,by simp only[VR];exact⟨pid,m,b,rfl⟩⟩
    ·simp only[VR]at c;rcases c with⟨r,rfl,b⟩|⟨pid,i,off,es,ex,fz,g,rfl,b,j,k,l⟩
     ·exact⟨_,_,e,rfl,by simp only[VR];exact .inl ⟨_,rfl,b.drop _⟩⟩
     ·refine⟨_,_,e,rfl,?_⟩;simp only[VR];exact .inr ⟨pid,i,_,es,ex,fz,g,rfl,b,j,k,by rw[<- bV];exact l.drop _⟩
    ·simp only[VR]at c;obtain⟨r,rfl,b⟩:=c;exact⟨_,_,e,rfl,by simp only[VR];exact⟨_,rfl,b.drop _⟩⟩
    ·cases e
   ·cases e
  ·cases e
 ·cases e
theorem Od{h:H}{n len:Nat}{a:V}{j off:Nat}(e:SR h n len a=zo (j,off)):a=.ptr j off/\n=1:=by
 unfold SR at e;split at e
 ·split at e
  ·split at e
   ·cases b:(aa n 1&&(Gq _ len _).isSome)with
    |false=>rw[b]at e;cases e
    |true=>
     rw[b]at e;cases e;simp only[ac,bA]at b;exact⟨rfl,b.1⟩
   ·cases e
  ·cases e
 ·cases e
theorem JH(r:RH X h n){ty:TypeId}{a i:V}{p q:PV}{K:V->Option β}(l:VR X a p)(hi:VR X i q)(e:GH P h ty a i K=zo x):∃ v w,K v=zo x/\Pi.Aq P X.h ty p q=zo (.val w X.h)/\VR X v w:=by
 unfold GH at e;split at e
 ·rename_i et S;replace e:=AD e;obtain⟨sz,F,e⟩:=e;replace e:=DC hi e;obtain⟨k,e,O⟩:=e;unfold Pi.Aq;simp only[S,O,F];split at e
  ·rename_i f g c es;replace e:=Gs e;obtain⟨y,E,e⟩:=e;replace e:=AN e;obtain⟨D,e⟩:=e;simp only[VR]at l;rcases l with⟨rfl,rfl⟩|⟨Y,G,rfl,_,o⟩|⟨pid,off,len,G,ex,fz,rfl,_,o,h2,I,_,M⟩
   ·simp at E
   ·obtain⟨C,b,A⟩:=o.get E;have hc:=(GC (X:=Cx.pure) A.upP).cells;refine⟨_,.view C.cells,e,?_,by simp only[VR];exact .inl ⟨_,rfl,hc⟩⟩;simp only[AM,b];rw[<- hc.length,D];rfl
   ·obtain⟨C,b,A⟩:=M.get E;have hc:=(GC A).cells
    have J:k<len:=by
     have:=(List.getElem?_eq_some_iff.1 b).1;simp at this;omega
    have u:G[off+k]?=zo C:=by
     rw[bf J,aJ]at b;exact b
    refine⟨_,.ept pid (off+k) 0,e,?_,by simp only[VR];exact .inr ⟨pid,off+k,0,G,ex,fz,C,rfl,o,h2,u,by simpa using hc⟩⟩;have B:ae k len=zt:=by simpa using J
    simp only[B,zb,h2,AM,u];rw[<- hc.length,D];rfl
  ·rename_i g c es;replace e:=Gs e;obtain⟨y,E,e⟩:=e;replace e:=AN e;obtain⟨D,e⟩:=e;simp only[VR]at l;rcases l with⟨rfl,rfl⟩|⟨Y,G,rfl,o⟩
   ·simp at E
   ·obtain⟨C,b,A⟩:=o.get E;have hc:=(DM (X:=Cx.pure) A).cells;refine⟨_,.view C.cells,e,?_,by simp only[VR];exact⟨_,rfl,hc⟩⟩;simp only[AM,b];rw[<- hc.length,D];rfl
  ·rename_i f es;replace e:=G4 e;obtain⟨e,_,_⟩:=e;replace e:=AD e;obtain⟨C,b,e⟩:=e;replace e:=AN e;obtain⟨D,e⟩:=e;simp only[VR]at l;obtain⟨Y,G,rfl,_,o⟩:=l;obtain⟨elP,u,A⟩:=o.lget b;refine⟨_,.view elP.cells,e,?_,by simp only[VR];exact .inl ⟨_,rfl,A.cells⟩⟩;simp only[u];rw[<- A.cells.length,D];rfl
  ·rename_i j;split at e
   ·rename_i g c es ex lk W;replace e:=AI e;obtain⟨s,e⟩:=e;replace e:=AN e;obtain⟨D,e⟩:=e;have d:k<es.length:=by simpa[JJ,AQ]using s
    simp only[VR]at l;have B:=r.blk _ _ W;cases z:X.π j with
    |none=>rw[z]at l;exact l.elim
    |some t=>
     rw[z]at l B;rcases B with⟨pid,len,G,U,o,h2,I,M,Z,h7,N⟩|⟨o,_,h2⟩|⟨_,o,_,h2,_⟩
     ·cases o;simp only at l;subst l;obtain⟨y,E⟩:∃ y,es[k]?=zo y:=⟨es[k],ai d⟩;obtain⟨C,b,A⟩:=N.get E;refine⟨_,.ept pid (0+k) 0,e,?_,by simp only[VR];exact⟨pid,len,z,by simp⟩⟩;have B:ae k len=zt:=by rw[<- Z,<- N.length];simpa using d
      simp only[B,zb,I,AM,Nat.zero_add,b];rw[A.wd,D];rfl
     ·subst h2;simp at d
     ·rcases h2 with h2|h2
      ·cases h2
      ·subst h2;simp at d
   ·cases e
  ·rename_i j off len;replace e:=AI e;obtain⟨s,e⟩:=e;split at e
   ·rename_i g c es ex fz lk W;replace e:=AI e;obtain⟨L,e⟩:=e;replace e:=AN e;obtain⟨D,e⟩:=e;simp only[VR]at l;obtain⟨pid,m,z,rfl⟩:=l;obtain⟨G,U,I,_,Z,_,N⟩:=r.rowAt z W;have d:off+k<es.length:=by simpa[JJ,AQ,A0]using L
    obtain⟨y,E⟩:∃ y,es[off+k]?=zo y:=⟨es[off+k],ai d⟩;obtain⟨C,b,A⟩:=N.get E;refine⟨_,.ept pid (off+k) 0,e,?_,by simp only[VR];exact⟨pid,m,z,rfl⟩⟩;have B:ae k len=zt:=s;simp only[B,zb,I,AM,b];rw[A.wd,D];rfl
   ·cases e
  ·cases e
 ·rename_i len et S;replace e:=AD e;obtain⟨sz,F,e⟩:=e;replace e:=DC hi e;obtain⟨k,e,O⟩:=e;unfold Pi.Aq;split at e
  ·rename_i j off hj;replace e:=AI e;obtain⟨s,e⟩:=e;obtain⟨rfl,rfl⟩:=Od hj;have B:ae k len=zt:=s;have d:k<len:=by simpa[JJ]using s
   simp only[S,O,F,B,zb];simp only[VR]at l;obtain⟨pid,m,o,rfl⟩:=l;exact⟨_,_,e,rfl,by simp only[VR];exact⟨pid,m,o,by rw[dt],d⟩⟩
  replace e:=G4 e;obtain⟨e,_,s⟩:=e;have B:ae k len=zt:=by simpa using s
  simp only[S,O,F,B,zb];split at e
  ·simp only[VR]at l;obtain⟨pid,m,o,rfl⟩:=l;exact⟨_,_,e,rfl,by simp only[VR];exact⟨pid,m,o,rfl⟩⟩
  ·simp only[VR]at l;obtain⟨pid,m,o,rfl⟩:=l;exact⟨_,_,e,rfl,by simp only[VR];exact⟨pid,m,o,rfl⟩⟩
  ·simp only[VR]at l;rcases l with⟨G,rfl,o⟩|⟨pid,i,off,es,ex,fz,C,rfl,o,h2,I,M⟩
   ·exact⟨_,_,e,rfl,by simp only[VR];exact .inl ⟨_,rfl,o.drop _⟩⟩
   ·refine⟨_,_,e,rfl,?_⟩;simp only[VR];exact .inr ⟨pid,i,_,es,ex,fz,C,rfl,o,h2,I,by rw[<- bV];exact M.drop _⟩
  ·simp only[VR]at l;obtain⟨G,rfl,o⟩:=l;exact⟨_,_,e,rfl,by simp only[VR];exact⟨_,rfl,o.drop _⟩⟩
  ·cases e
 ·cases e
theorem O3{ty:TypeId}{a i:V}{p q:PV}{K:V->Option β}(t:VR X a p)(hi:VR X i q)(e:NF P ty a i K=zo x):∃ v w,K v=zo x/\Pi.Bo P X.h ty p q=zo (.val w X.h)/\VR X v w:=by
 unfold NF at e;split at e
 ·rename_i len L cs r;replace e:=AD e;obtain⟨J,g,e⟩:=e;replace e:=DC hi e;obtain⟨k,e,o⟩:=e;obtain⟨y,rfl,j⟩:=t.agg_inv;split at e
  ·rename_i s l c;unfold Pb at c;split at c
   ·rename_i O D n;cases hc:(aa J 1&&ae 4 len)with
    |false=>rw[hc]at c;cases c
    |true=>
     rw[hc]at c;obtain⟨l',E,z⟩:=ck.1 c;cases z;obtain⟨M,I,N⟩:=Gr j E;replace e:=AI e;obtain⟨f,e⟩:=e;rw[ac]at hc;have G:=Nat.eq_of_beq_eq_true hc.1;subst G;have d:k<len:=by simpa[JJ]using f
     refine⟨.int s (IN l k),.int s (IN l k),e,?_,by simp[VR]⟩;unfold Pi.Bo;have m:ae k len=zt:=by simpa using d
     simp only[r,o,m,zb,g];refine A7 ?_;unfold Pi.part;simp only[n,g]
     have C:y[k]?=zo (.int s (IN l k)):=by
      rw[<- bf d,I,aX]
      simp_all[IN]
     have u:(y.drop (k*1))[0]?=zo (.int s (IN l k)):=by
      rw[aJ,aN,dt,C]
     grind
   ·cases c
  replace e:=G4 e;obtain⟨e,_,f⟩:=e;replace e:=AD e;obtain⟨v,F,e⟩:=e;obtain⟨w,A,B⟩:=Bh (j.drop _) F;refine⟨v,w,e,?_,B⟩;unfold Pi.Bo;have m:ae k len=zt:=by simpa using f
  simp only[r,o,m,zb,g];exact A7 A
 ·rename_i l r;replace e:=DC hi e;obtain⟨k,e,o⟩:=e;replace e:=Gs e;obtain⟨b,m,e⟩:=e;simp only[VR]at t;subst t;refine⟨_,_,e,?_,by simp only[VR];rfl⟩;unfold Pi.Bo;simp only[r,o,AM,m];rfl
 ·cases e
theorem QD(r:RH X h n){ty:TypeId}{a:V}{p:PV}{K:Int->Option β}{q:Array TypeId}(F:q[0]?=zo ty)(b:VR X a p)(e:QC P h ty a K=zo x)(id:Nat):∃ m,K m=zo x/\Pi.AH P X.h id .len q [p]=zo (.val (.int .i64 m) X.h):=by
 unfold QC at e;unfold Pi.AH;simp only[F];split at e
 ·rename_i d;split at e
  ·rename_i k g c l G A;simp only[VR]at b;obtain⟨pid,m,i,rfl⟩:=b;have s:=r.blk _ _ A;rw[i]at s;obtain⟨_,_,es,o,B,y,z⟩:=s;cases o;refine⟨_,e,?_⟩;simp only[d,y,LN,AQ,z.length]
  ·cases e
 ·rename_i d;simp only[VR]at b;subst b;exact⟨_,e,by simp only[d]⟩
 ·rename_i d;exact⟨_,e,by simp only[d]⟩
 ·rename_i d;simp only[VR]at b;subst b;exact⟨_,e,by simp only[d]⟩
 ·rename_i f g c l d;simp only[VR]at b;refine⟨_,e,?_⟩;rcases b with⟨rfl,rfl⟩|⟨C,w,rfl,_,i⟩|⟨pid,off,len,w,ex,fz,rfl,_,i,o,B,_,y⟩
  ·simp only[d];rfl
  ·simp only[d,LN,AQ,i.length]
  ·simp only[d,LN,AQ,y.length];have:((w.drop off).take len).length=len:=by simp;omega
   rw[this]
 ·rename_i f es d;simp only[VR]at b;obtain⟨C,w,rfl,_,i⟩:=b;exact⟨_,e,by simp only[d,i.length]⟩
 ·rename_i j d;split at e
  ·rename_i g c l ex fz G A;simp only[VR]at b;have s:=r.blk _ _ A;cases u:X.π j with
   |none=>rw[u]at b;exact b.elim
   |some t=>
    rw[u]at b s;refine⟨_,e,?_⟩;rcases s with⟨pid,len,w,D,i,o,B,y,z,I,E⟩|⟨i,_,o⟩|⟨w,i,_,_,o⟩
    ·cases i;simp only at b;subst b;simp only[d,LN,AQ,E.length,z]
    ·cases i;simp only at b;subst b;subst o;simp only[d];rfl
    ·cases i;simp only at b;subst b;simp only[d,LN,AQ,o.length]
  ·cases e
 ·rename_i d;simp only[VR]at b;obtain⟨pid,m,i,rfl⟩:=b;exact⟨_,e,by simp only[d];rfl⟩
 ·rename_i l d;simp only[VR]at b;subst b;exact⟨_,e,by simp only[d];rfl⟩
 ·cases e
theorem Rg(r:RH X h n){ty:TypeId}{a:V}{p:PV}{K:Int->Option β}{b:Array TypeId}(d:b[0]?=zo ty)(c:VR X a p)(e:Tq P h ty a K=zo x)(id:Nat):∃ m,K m=zo x/\Pi.AH P X.h id .len b [p]=zo (.val (.int .i64 m) X.h):=
 QD r d c.norm e id
end
end
end Go.Proofs.YtoefnfbpoabinaaGreatDoor.Sv
