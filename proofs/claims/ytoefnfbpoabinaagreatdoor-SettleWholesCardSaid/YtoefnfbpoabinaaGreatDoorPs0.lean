/- A part of the evaluator over typed open values for any program, and of the proof that it is sound. No condition. -/
import Derived.Test.YtoefnfbpoabinaaGreatDoorPp2
import GoSem.Step
set_option linter.all false
open List renaming append_nil->aK, drop_drop->bO, getElem?_drop->aJ, getElem?_eq_getElem->ah, getElem?_map->cy, getElem?_take_of_lt->bE, range->bW, replicate->aE
open Nat renaming add_sub_cancel_left->cg, add_zero->aZ, beq->aa, beq_eq->bq, ble->ad, blt->ae, blt_eq->bG, le_refl->ab, mul_one->dc
open Option renaming map_eq_some_iff->ca
open Bool renaming and_eq_true->ac, not_eq_false'->aq, or_eq_false_iff->af
open BitVec renaming ofInt->az
open Option renaming some->zo, none->zn
open Bool renaming true->zt, false->zf
namespace Go.Proofs.YtoefnfbpoabinaaGreatDoor.Sv
section
section
variable{α β γ:Type}
def gd(c:Bool)(k:Unit->Option β):Option β:=bif c then k ()else zn
def br(c:Bool)(a b:Unit->Option β):Option β:=bif c then a ()else b ()
def ix(l:List α)(i:Nat)(k:α->Option β):Option β:=match l[i]? with
 |some x=>k x
 |none=>zn
def S1(n:Int)(k:Nat->Option β):Option β:=bif decide (0<=n)then k n.toNat else zn
def bd(m:Option α)(k:α->Option β):Option β:=match m with
 |some x=>k x
 |none=>zn
inductive LR (α β:Type) where
 |nx (s:α)
 |dn (x:β)
def Ih:Nat->(α->Option (LR α β))->α->Option β
 |0,_,_=>zn
 |n+1,f,s=>match f s with
  |none=>zn
  |some (.nx s)=>Ih n f s
  |some (.dn x)=>zo x
def loop(f:α->Option (LR α β))(s:α):Option β:=Ih 18446744073709551616 f s
structure StW where
 b:Bool
theorem Sf:WellFounded λx y:StW=>x.b=zf/\y.b=zt:=⟨λa=>⟨a,λy h=>⟨y,λz k=>by rw[h.1]at k;cases k.2⟩⟩⟩
instance stWR:WellFoundedRelation StW:=⟨λx y=>x.b=zf/\y.b=zt,Eq.mpr (propext ⟨λ_=>trivial,λ_=>Sf⟩:_=True) trivial⟩
def Nl(b:StW)(f:α->Option (LR α β))(s:α):Option β:=if h:b.b=zt then Nl ⟨zf⟩ f s else loop f s
termination_by b
decreasing_by (first|exact⟨rfl,h⟩|exact⟨trivial,h⟩)
def P3(f:α->Option (LR α β))(s:α):Option β:=Nl ⟨zt⟩ f s
theorem P4(f:α->Option (LR α β))(s:α):P3 f s=loop f s:=by unfold P3;rw[Nl,dif_pos rfl,Nl,dif_neg (by simp)]
def jn{δ:Type}(f:α->Option (LR δ γ))(s:α)(k:δ->Option β)(a:γ->Option β):Option β:=match f s with
 |none=>zn
 |some (.nx x)=>k x
 |some (.dn x)=>a x
def TI(k:IntKind)(a b:Int):Int:=k.wrap (a+b)
def TM(k:IntKind)(a b:Int):Int:=k.wrap (a-b)
def TJ(k:IntKind)(a b:Int):Int:=k.wrap (a*b)
def UX(k:IntKind)(a b:Int):Int:=k.wrap (a.tdiv b)
def UY(_:IntKind)(a b:Int):Int:=a.tmod b
def US(k:IntKind)(a b:Int):Int:=k.wrap (az k.bits a &&& az k.bits b).toNat
def U0(k:IntKind)(a b:Int):Int:=k.wrap (az k.bits a ||| az k.bits b).toNat
def Ub(k:IntKind)(a b:Int):Int:=k.wrap (az k.bits a ^^^ az k.bits b).toNat
def SM(k:IntKind)(a b:Int):Int:=k.wrap (a*2 ^ (min b.toNat k.bits))
def UZ(k:IntKind)(a b:Int):Int:=a.fdiv (2 ^ (min b.toNat k.bits))
def UW(k:IntKind)(a:Int):Int:=k.wrap (0-a)
def Us(k:IntKind)(a:Int):Int:=k.wrap a
def PC(a b:Int):Bool:=a == b
def Sx(a b:Int):Bool:=a != b
def UV(a b:Int):Bool:=decide (a<b)
def UU(a b:Int):Bool:=decide (a<=b)
def UT(a b:Int):Bool:=decide (a>b)
def Sw(a b:Int):Bool:=decide (a>=b)
def Uz(a b:Int):Int:=if b>a then b else a
def Uy(a b:Int):Int:=if b<a then b else a
def IG(a:Bool):Bool:=!a
def OM(a b:Bool):Bool:=a&&b
def beq(a b:Bool):Bool:=a == b
def K7(n:Nat):Int:=n
def A0(a b:Nat):Nat:=a+b
def QC(a b:Nat):Nat:=a-b
def B2(a b:Nat):Bool:=ad a b
def I8(a b:Nat):Bool:=ae a b
def neq(a b:Nat):Bool:=aa a b
def RW(a b:Nat):Nat:=Nat.min a b
def NH(l:List UInt8):Nat:=l.length
def Uf(a b:List UInt8):List UInt8:=a++b
def seq(a b:List UInt8):Bool:=a == b
def TZ(a b:List UInt8):Bool:=Op.bytesLess a b
def Uu(a b:List UInt8):Int:=bif Op.bytesLess a b then -1 else bif a == b then 0 else 1
def Ug(l:List UInt8)(lo hi:Nat):List UInt8:=(l.drop lo).take (hi-lo)
def U3(b:UInt8):Int:=b.toNat
def ID(l:List Int)(k:Nat):Int:=(l[k]?).getD 0
def Uv(c:Bool)(a b:Int):Int:=bif c then a else b
def Ux(n:Int):UInt8:=UInt8.ofNat n.toNat
def AQ(l:List α):Nat:=l.length
def If(a b:List α):List α:=a++b
def DV(l:List α)(lo hi:Nat):List α:=(l.drop lo).take (hi-lo)
def lset(l:List α)(i:Nat)(x:α):List α:=l.set i x
def Ot(n:Nat)(x:α):List α:=aE n x
def Ey(l:List α)(off:Nat)(x:List α)(n:Nat):List α:=l.take off++(x.take n++l.drop (off+(x.take n).length))
def Mx(e:γ->γ->Bool):List (γ×α)->γ->Option α
 |[],_=>zn
 |(k,v)::l,x=>bif e x k then zo v else Mx e l x
def Iq(e:γ->γ->Bool):List (γ×α)->γ->α->List (γ×α)
 |[],x,y=>[(x,y)]
 |(k,v)::l,x,y=>bif e x k then(x,y)::l else(k,v)::Iq e l x y
def Io(e:γ->γ->Bool):List (γ×α)->γ->List (γ×α)
 |[],_=>[]
 |(k,v)::l,x=>bif e x k then l else(k,v)::Io e l x
def TS(o:Option α)(z:α):α:=o.getD z
def U2(o:Option α):Bool:=o.isSome
end
end
section
variable[Pi.Gl]
open Pi (PV T DF UM PE lget)
inductive V where
 |bool (b:Bool)
 |int (k:IntKind) (n:Int)
 |str (l:List UInt8)
 |nilp|nils|nilm|nilf|nili
 |agg (cs:List V)
 |tup (vs:List V)
 |lf (full g:Bool) (c:Ty) (l:List c.den)
 |pl (g:Bool) (c:Ty) (l:List c.den)
 |exl (full:Bool) (es:List V)
 |ow (id:Nat)
 |own (id off len:Nat)
 |ptr (id off:Nat)
 |ept (id i off:Nat)
 |aptr (id off k n:Nat)
 |view (cs:List V)
 |pv (cs:List V)
 |fn (f:Fn) (first captured:List V)
 |yl (id:Nat)
 |ifc (t:TypeId) (v:V)
 |mp (id:Nat)
 |gk (n:Nat)
 |dd
structure PEA where
 v:V
 recovered:Bool
inductive UMA where
 |ret
 |pan (ch:List PEA)
inductive DFA where
 |call (f:V) (args:List V)
 |bi (b:Builtin) (ats:Array TypeId) (ty:TypeId) (args:List V)
 |col (id:Nat)
inductive ExA where
 |normal
 |exit (id:Nat)
 |goto (l:Nat)
 |ret
 |panic (v:V)
inductive BA where
 |box (cs:List V) (fz lk:Bool)
 |row (g:Bool) (c:Ty) (l:List c.den) (ex fz lk:Bool)
 |mp (k:Ty) (g:Bool) (c:Ty) (l:List (k.den×c.den)) (lk:Bool)
 |lp (st:Nat) (pend:Option Code) (nt:Nat) (t:T V) (ps:List Nat) (asg body:Code) (d:Nat)
 |df (ds:Option (List DFA))
 |dead
abbrev H:=T BA
structure FrA where
 t:T V
 nt:Nat
 ds:List DFA
 up:Option UMA
 ro:Option Nat
inductive OutA where
 |ret (v:V)
 |pan (ch:List PEA)
def V.cells:V->List V
 |.agg cs=>cs
 |.tup _=>[]
 |v=>[v]
def cells:(c:Ty)->c.den->List V
 |.int k,n=>[.int k n]
 |.bool,b=>[.bool b]
 |.str,s=>[.str s]
 |.unit,_=>[]
 |.pair a b,x=>cells a x.1++cells b x.2
 |.sl g c,l=>[.lf zf g c l]
def G4:(c:Ty)->c.den->List V
 |.int k,n=>[.int k n]
 |.bool,b=>[.bool b]
 |.str,s=>[.str s]
 |.unit,_=>[]
 |.pair a b,x=>G4 a x.1++G4 b x.2
 |.sl g c,l=>[.pl g c l]
def elP(g:Bool)(c:Ty)(x:c.den):V:=bif g then .agg (G4 c x)else match G4 c x with
 |[v]=>v
 |_=>.nilp
def V.norm:V->V
 |.pl g c l=>.lf zf g c l
 |.pv cs=>.view cs
 |v=>v
def OT(g:Bool)(c:Ty)(x:c.den):V:=bif g then .agg (cells c x)else match cells c x with
 |[v]=>v
 |_=>.nilp
def OG:(c:Ty)->c.den
 |.int _=>(0:Int)
 |.bool=>zf
 |.str=>[]
 |.unit=>()
 |.pair a b=>(OG a,OG b)
 |.sl _ _=>[]
def Ty.depth:Ty->Nat
 |.pair a b=>Nat.max a.depth b.depth
 |.sl _ c=>c.depth+1
 |_=>0
def Ty.wd:Ty->Nat
 |.unit=>0
 |.pair a b=>a.wd+b.wd
 |_=>1
def Ty.hasSl:Ty->Bool
 |.pair a b=>a.hasSl||b.hasSl
 |.sl _ _=>zt
 |_=>zf
def Qo(rec:TypeId->Option (Bool×Ty)):List Field->Option Ty
 |[]=>zo .unit
 |[f]=>(rec f.type).map (·.2)
 |f::fs=>match rec f.type,Qo rec fs with
  |some (_,c),zo r=>zo (.pair c r)
  |_,_=>zn
def R1:Nat->Ty->Ty
 |0,_=>.unit
 |1,c=>c
 |n+1,c=>.pair c (R1 n c)
def MH(P:Program):Nat->TypeId->Option (Bool×Ty)
 |0,_=>zn
 |d+1,t=>match P.underlying t with
  |some (.int k)=>zo (zf,.int k)
  |some .bool=>zo (zf,.bool)
  |some .string=>zo (zf,.str)
  |some (.slice e)=>(MH P d e).map λ(g,c)=>(zf,.sl g c)
  |some (.struct fs)=>(Qo (MH P d) fs.toList).map λc=>(zt,c)
  |some (.array n e)=>(MH P d e).map λ(_,c)=>(zt,R1 n c)
  |_=>zn
def Te:Nat:=14
section
variable{β:Type}
def Cr{c a:Ty}(l:List c.den)(K:List a.den->Option β):Option β:=if e:c=a then K (e ▸ l)else zn
def Rq{k c b a:Ty}(l:List (k.den×c.den))(K:List (b.den×a.den)->Option β):Option β:=
 if e:k=b then if e2:c=a then K (e ▸ e2 ▸ l)else zn else zn
def PQ{α:Type}(d:V->(α->Option β)->Option β):List V->(List α->Option β)->Option β
 |[],K=>K []
 |v::vs,K=>d v λx=>PQ d vs λl=>K (x::l)
def Dx(h:H):(c:Ty)->List V->(c.den->List V->Option β)->Option β
 |.int k,vs,K=>match vs with
  |.int k' n::r=>bif k == k' then K n r else zn
  |_=>zn
 |.bool,vs,K=>match vs with
  |.bool b::r=>K b r
  |_=>zn
 |.str,vs,K=>match vs with
  |.str s::r=>K s r
  |_=>zn
 |.unit,vs,K=>K () vs
 |.pair a b,vs,K=>Dx h a vs λx r=>Dx h b r λy r=>K (x,y) r
 |.sl g c,vs,K=>match vs with
  |.nils::r=>K [] r
  |.lf _ g' _ l::r=>bif g == g' then Cr l λl=>K l r else zn
  |.pl g' _ l::r=>bif g == g' then Cr l λl=>K l r else zn
  |.exl _ es::r=>PQ (λv K=>bif g then(match v with
    |.agg cs=>Dx h c cs λx q=>match q with
     |[]=>K x
     |_=>zn
    |_=>zn)else Dx h c [v] λx q=>match q with
     |[]=>K x
     |_=>zn) es λl=>K l r
  |.ow id::r=>match h.get id with
   |some (.row g' _ l _ _ _)=>bif g == g' then Cr l λl=>K l r else zn
   |_=>zn
  |.own id off len::r=>match h.get id with
   |some (.row g' _ l _ _ _)=>bif g == g' then gd (B2 (A0 off len) (AQ l)) λ_=>Cr (DV l off (A0 off len)) λl=>K l r else zn
   |_=>zn
  |_=>zn
def Fu(h:H)(g:Bool)(c:Ty)(v:V)(K:c.den->Option β):Option β:=bif g then(match v with
  |.agg cs=>Dx h c cs λx q=>match q with
   |[]=>K x
   |_=>zn
  |_=>zn)else Dx h c [v] λx q=>match q with
   |[]=>K x
   |_=>zn
end
def GP:Value->Option V
 |.bool b=>zo (.bool b)
 |.int k n=>zo (.int k n)
 |.string s=>zo (.str s.data.toList)
 |.pointer zn=>zo .nilp
 |.slice zn 0 0=>zo .nils
 |.map zn=>zo .nilm
 |.nilFunc=>zo .nilf
 |.nilIface=>zo .nili
 |.func (.func f) first cap=>if first.isEmpty&&cap.isEmpty then zo (.fn (.func f) [] [])else zn
 |_=>zn
def Dv:List Value->Option (List V)
 |[]=>zo []
 |v::l=>match GP v,Dv l with
  |some p,zo ps=>zo (p::ps)
  |_,_=>zn
def Kg:Value->Option V
 |.agg cs=>(Dv cs.toList).map .agg
 |.tuple vs=>bif vs.isEmpty then zo (.tup [])else zn
 |.iface t v=>match GP v with
  |some p=>zo (.ifc t p)
  |none=>zn
 |v=>GP v
def CG(P:Program)(t:TypeId):Option (List V):=match P.info? t with
 |some i=>match i.zero with
  |some z=>Dv z.cells.toList
  |none=>zn
 |none=>zn
def DA(P:Program)(e:TypeId):Option V:=match P.info? e with
 |some i=>match i.zero with
  |some z=>Kg z
  |none=>zn
 |none=>zn
def EB(P:Program)(t:TypeId)(cs:List V):Option V:=match Pi.Hz P t,Pi.AU P t with
 |some zt,zo n=>bif ad n cs.length then zo (.agg (cs.take n))else zn
 |some zf,zo _=>match cs with
  |c::_=>zo c
  |[]=>zn
 |_,_=>zn
def AG(h:H)(id:Nat)(b:BA):H:=T.put 20 h id b
def Gb(cs:List V)(off:Nat)(x:List V):List V:=cs.take off++(x++cs.drop (off+x.length))
inductive RA where
 |val (v:V) (h:H)
 |skip (h:H)
 |call (f:FuncId) (args:List V)
 |yield (id:Nat) (args:List V)
 |pan (v:V)
 |rcv
 |dfr (d:DFA)
section
variable{β:Type}
def CK{α:Type}(o:Option α)(K:α->Option β):Option β:=match o with
 |some x=>K x
 |none=>zn
def Po:List PV->Option (List V)
 |[]=>zo []
 |.ifc t (.gk n)::l=>(Po l).map (.ifc t (.gk n)::·)
 |.nili::l=>(Po l).map (.nili::·)
 |_=>zn
def BI(t:T V)(o:Operand)(K:V->Option β):Option β:=match o with
 |.tmp k=>CK (t.get k) K
 |.const v=>CK (Kg v) K
 |.func f=>K (.fn (.func f) [] [])
 |.global g=>CK (Pi.Gl.g g) λcs=>CK (Po cs) λvs=>K (.pv vs)
def Ob(t:T V):List Operand->(List V->Option β)->Option β
 |[],K=>K []
 |o::l,K=>BI t o λv=>Ob t l λvs=>K (v::vs)
def RB(t:T V)(o:Option Operand)(K:Option V->Option β):Option β:=match o with
 |none=>K zn
 |some o=>BI t o λv=>K (zo v)
def Ir(v:V)(K:Nat->Option β):Option β:=match v with
 |.int _ n=>S1 n K
 |_=>zn
def CF(d:Nat)(o:Option V)(K:Nat->Option β):Option β:=match o with
 |none=>K d
 |some v=>Ir v K
def Kc(v:V)(K:Nat->Option β):Option β:=match v with
 |.int .i64 n=>S1 n K
 |_=>zn
def SK(c:BinOp)(k:IntKind)(a b:Int)(K:V->Option β):Option β:=match c with
 |.add=>K (.int k (TI k a b))
 |.sub=>K (.int k (TM k a b))
 |.mul=>K (.int k (TJ k a b))
 |.quo=>gd (Sx b 0) λ_=>K (.int k (UX k a b))
 |.rem=>gd (Sx b 0) λ_=>K (.int k (UY k a b))
 |.eql=>K (.bool (PC a b))
 |.neq=>K (.bool (Sx a b))
 |.lss=>K (.bool (UV a b))
 |.leq=>K (.bool (UU a b))
 |.gtr=>K (.bool (UT a b))
 |.geq=>K (.bool (Sw a b))
 |.and=>K (.int k (US k a b))
 |.or=>K (.int k (U0 k a b))
 |.xor=>K (.int k (Ub k a b))
 |_=>zn
def NG(c:BinOp)(k:IntKind)(a b:Int)(K:V->Option β):Option β:=match c with
 |.shl=>gd (Sw b 0) λ_=>K (.int k (SM k a b))
 |.shr=>gd (Sw b 0) λ_=>K (.int k (UZ k a b))
 |_=>zn
def Si(c:BinOp)(a b:List UInt8)(K:V->Option β):Option β:=match c with
 |.add=>gd (B2 (A0 (NH a) (NH b)) 1000000000) λ_=>K (.str (Uf a b))
 |.eql=>K (.bool (seq a b))
 |.neq=>K (.bool (IG (seq a b)))
 |.lss=>K (.bool (TZ a b))
 |.leq=>K (.bool (IG (TZ b a)))
 |.gtr=>K (.bool (TZ b a))
 |.geq=>K (.bool (IG (TZ a b)))
 |_=>zn
end
mutual
def Q8(P:Program):Nat->TypeId->V->V->Option Bool
 |0,_,_,_=>zn
 |d+1,t,x,y=>match P.underlying t with
  |some .bool=>match x,y with
   |.bool a,.bool b=>zo (beq a b)
   |_,_=>zn
  |some (.int _)=>match x,y with
   |.int k a,.int k' b=>bif k == k' then zo (PC a b)else zn
   |_,_=>zn
  |some .string=>match x,y with
   |.str a,.str b=>zo (seq a b)
   |_,_=>zn
  |some (.pointer _)=>match x,y with
   |.nilp,.nilp=>zo zt
   |.nilp,.ptr _ _ | .nilp,.view _ | .nilp,.pv _ | .nilp,.ept _ _ _ | .ptr _ _,.nilp | .view _,.nilp | .pv _,.nilp | .ept _ _ _,.nilp=>zo zf
   |_,_=>zn
  |some (.slice _)=>match x,y with
   |.nils,.nils=>zo zt
   |.nils,.exl _ _ | .exl _ _,.nils | .nils,.lf _ _ _ (_::_) | .lf _ _ _ (_::_),.nils | .nils,.pl _ _ (_::_) | .pl _ _ (_::_),.nils | .nils,.own _ _ _ | .own _ _ _,.nils=>zo zf
   |_,_=>zn
  |some (.func _ _ _)=>match x,y with
   |.nilf,.nilf=>zo zt
   |.nilf,.fn _ _ _ | .fn _ _ _,.nilf=>zo zf
   |_,_=>zn
  |some (.interface _)=>match x,y with
   |.nili,.nili=>zo zt
   |.nili,.ifc _ _ | .ifc _ _,.nili=>zo zf
   |.ifc t a,.ifc t' b=>bif aa t t' then(match P.info? t with
     |some i=>bif i.comparable then Q8 P d t a b else zn
     |none=>zn)else zo zf
   |_,_=>zn
  |some (.struct fs)=>match x,y with
   |.agg a,.agg b=>bif P.stoodInHeld t then zn else Me P d fs.toList a b
   |_,_=>zn
  |some (.array n e)=>match x,y with
   |.agg a,.agg b=>bif (Pi.AU P e).isSome then OX P d n e a b else zn
   |_,_=>zn
  |_=>zn
def Me(P:Program):Nat->List Field->List V->List V->Option Bool
 |0,_,_,_=>zn
 |_+1,[],_,_=>zo zt
 | d + 1, f :: fs, a, b => bif f.name == "_" then Me P d fs a b else match EB P f.type (a.drop f.offset), EB P f.type (b.drop f.offset) with
  |some x,zo y=>(match Q8 P d f.type x y,Me P d fs a b with
   |some c,zo r=>zo (OM c r)
   |_,_=>zn)
  |_,_=>zn
def OX(P:Program):Nat->Nat->TypeId->List V->List V->Option Bool
 |0,_,_,_,_=>zn
 |_+1,0,_,_,_=>zo zt
 |d+1,n+1,e,a,b=>match Pi.AU P e,EB P e a,EB P e b with
  |some s,zo x,zo y=>(match Q8 P d e x y,OX P d n e (a.drop s) (b.drop s)with
   |some c,zo r=>zo (OM c r)
   |_,_=>zn)
  |_,_,_=>zn
end
section
variable{β:Type}
def R8(P:Program)(d:BinOp)(ty:TypeId)(x y:Operand)(a b:V)(K:V->Option β):Option β:=match a,b with
 |.int k a,.int k' b=>match d with
  |.shl | .shr=>NG d k a b K
  |_=>bif k == k' then SK d k a b K else zn
 |.str a,.str b=>Si d a b K
 |.nili,.nili=>bif Pi.CX x||Pi.CX y then CK (Q8 P 64 ty .nili .nili) λc=>(match d with
  |.eql=>K (.bool c)
  |.neq=>K (.bool (IG c))
  |_=>zn)else zn
 |.agg a,.agg b=>bif P.eqGuardType P.depth ty then zn else CK (Q8 P 64 ty (.agg a) (.agg b)) λc=>(match d with
  |.eql=>K (.bool c)
  |.neq=>K (.bool (IG c))
  |_=>zn)
 |a,b=>CK (Q8 P 64 ty a b) λc=>match d with
  |.eql=>K (.bool c)
  |.neq=>K (.bool (IG c))
  |_=>zn
def Ui(c:UnOp)(a:V)(K:V->Option β):Option β:=match a with
 |.bool b=>match c with
  |.not=>K (.bool (IG b))
  |_=>zn
 |.int k n=>match c with
  |.neg=>K (.int k (UW k n))
  |_=>zn
 |_=>zn
def purA(h:H):Nat->V->(V->List Nat->Option β)->Option β
 |0,_,_=>zn
 |n+1,v,K=>match v with
  |.agg cs=>purAs (purA h n) cs λx l=>K (.agg x) l
  |.tup cs=>purAs (purA h n) cs λx l=>K (.tup x) l
  |.ifc t x=>purA h n x λx l=>K (.ifc t x) l
  |.fn f a b=>purAs (purA h n) a λa l=>purAs (purA h n) b λb m=>K (.fn f a b) (l++m)
  |.lf _ g c l=>bif ad (2*c.depth+3) (n+7)then K (.lf zf g c l) []else zn
  |.pl g c l=>K (.pl g c l) []
  |.ow id=>match h.get id with
   |some (.row g c l _ _ _)=>bif ad (2*c.depth+3) (n+7)then K (.lf zf g c l) [id]else zn
   |_=>zn
  |.own id off len=>match h.get id with
   |some (.row g c l _ _ _)=>bif ad (2*c.depth+3) (n+7)then gd (B2 (A0 off len) (AQ l)) λ_=>K (.lf zf g c (DV l off (A0 off len))) [id]else zn
   |_=>zn
  |.ptr _ _ | .view _ | .pv _ | .ept _ _ _ | .aptr _ _ _ _ | .yl _ | .mp _ | .gk _ | .dd=>zn
  |v=>K v []
where
 purAs (p:V->(V->List Nat->Option β)->Option β):List V->(List V->List Nat->Option β)->Option β
  |[],K=>K [] []
  |v::vs,K=>p v λx l=>purAs p vs λxs m=>K (x::xs) (l++m)
def N7(h:H):List V->(List V->List Nat->Option β)->Option β
 |[],K=>K [] []
 |v::vs,K=>purA h 6 v λx l=>N7 h vs λxs m=>K (x::xs) (l++m)
end
def CA(h:H):List Nat->Option H
 |[]=>zo h
 |id::l=>match h.get id with
  |some (.row g c x ex fz lk)=>bif fz then CA h l else bif lk then zn else CA (AG h id (.row g c x ex zt zf)) l
  |_=>zn
def IY(cs:List V):List (Nat×Nat×List V)->Option (List V)
 |[]=>zo cs
 |(off,n,x)::r=>bif aa x.length n&&ad (off+n) cs.length then IY (Gb cs off x) r else zn
def KF(a:Nat)(es:List V):List (Nat×V)->Option (List V)
 |[]=>zo es
 |(i,v)::r=>bif aa v.cells.length a&&ae i es.length then KF a (Pi.lset es i v) r else zn
def FS(P:Program)(a:Array Field):List (Nat×V)->Option (List (Nat×Nat×List V))
 |[]=>zo []
 |(i,p)::l=>match a[i]?,FS P a l with
  |some f,zo r=>(match Pi.AU P f.type with
   |some n=>bif ae 0 n then zo ((f.offset,n,p.cells)::r)else zn
   |none=>zn)
  |_,_=>zn
def GD(a:Nat):List (Nat×V)->List (Nat×Nat×List V)
 |[]=>[]
 |(i,p)::l=>(i*a,a,p.cells)::GD a l
def Ln(a:Bool)(cs:List V):Option V:=
 bif a then zo (.agg cs)else match cs with
  |[c]=>zo c
  |_=>zn
def TD(P:Program)(a:TypeId):Option (Bool×Ty):=match P.underlying a with
 |some (.slice e)=>MH P Te e
 |_=>zn
def SN:(k:Ty)->Option (k.den->k.den->Bool)
 |.int _=>zo (λ(a b:Int)=>PC a b)
 |.bool=>zo (λ(a b:Bool)=>beq a b)
 |.str=>zo (λ(a b:List UInt8)=>seq a b)
 |_=>zn
section
variable{β:Type}
def Gr(t:T V):List (Nat×Operand)->(List (Nat×V)->Option β)->Option β
 |[],K=>K []
 |(i,o)::l,K=>BI t o λv=>Gr t l λr=>K ((i,v)::r)
def Iu(k:Nat):Nat->Nat->(Nat->Option β)->Option β
 |0,_,_=>zn
 |1,i,K=>gd (neq k i) λ_=>K i
 |n+1,i,K=>br (neq k i) (λ_=>K i) λ_=>Iu k n (i+1) K
def IT(h:H)(g:Bool)(c:Ty)(v:V)(K:List c.den->Option β):Option β:=Dx h (.sl g c) [v] λl _=>K l
def JQ(P:Program)(a:TypeId)(c:Ty):Bool:=match P.underlying a with
 |some (.slice e)=>(match P.info? e,Pi.zeroCells P e with
  |some ti,zo z=>aa ti.size c.wd&&ad ti.bytes 1048576&&aa z.length ti.size&&ae 0 ti.size
  |_,_=>zf)
 |_=>zf
def KU:V->Bool
 |.int _ _ | .bool _ | .str _=>zt
 |_=>zf
def Se(h:H)(x:V):V:=match x with
 |.own j off len=>(match h.get j with
  |some (.box cs _ zf)=>bif ad (off+len) cs.length&&((cs.drop off).take len).all KU then .exl zt ((cs.drop off).take len)else x
  |_=>x)
 |_=>x
def R4(P:Program)(h:H)(id:Nat)(a:TypeId)(s x:V)(K:RA->Option β):Option β:=
 CK (TD P a) λ(g,c)=>bif JQ P a c then IT h g c x λnew=>match s with
  |.nils=>gd (B2 (AQ new) 1048576) λ_=>K (.val (.ow id) (AG h id (.row g c new zf zf zf)))
  |.lf zt g' _ l=>bif g == g' then gd (B2 (A0 (AQ l) (AQ new)) 1048576) λ_=>Cr l λl=>(match x with
   |.exl _ (_::_)=>K (.val (.ow id) (AG h id (.row g c (If l new) zf zf zf)))
   |_=>br (neq (AQ new) 0) (λ_=>K (.val s h)) λ_=>K (.val (.ow id) (AG h id (.row g c (If l new) zf zf zf))))else zn
  |.exl zt []=>gd (B2 (AQ new) 1048576) λ_=>K (.val (.ow id) (AG h id (.row g c new zf zf zf)))
  |.exl zt (_::_)=>IT h g c s λl=>gd (B2 (A0 (AQ l) (AQ new)) 1048576) λ_=>(match x with
   |.exl _ (_::_)=>K (.val (.ow id) (AG h id (.row g c (If l new) zf zf zf)))
   |_=>zn)
  |.ow j=>match h.get j with
   |some (.row g' _ l ex fz lk)=>bif !(g == g')||lk then zn else Cr l λl=>gd (B2 (A0 (AQ l) (AQ new)) 1048576) λ_=>
    bif ex then(match x with
     |.exl _ (_::_)=>K (.val (.ow id) (AG h id (.row g c (If l new) zf zf zf)))
     |_=>br (neq (AQ new) 0) (λ_=>K (.val s h)) λ_=>K (.val (.ow id) (AG h id (.row g c (If l new) zf zf zf))))
    else K (.val (.ow id) (AG (AG h j .dead) id (.row g c (If l new) zf fz zf)))
   |_=>zn
  |.own j off len=>match h.get j with
   |some (.row g' _ l zt zf zf)=>bif g == g' then Cr l λl=>gd (B2 (A0 len (AQ new)) 1048576) λ_=>gd (B2 (A0 off len) (AQ l)) λ_=>
    br (neq (AQ new) 0) (λ_=>K (.val s h)) λ_=>
    br (B2 (A0 (A0 off len) (AQ new)) (AQ l)) (λ_=>K (.val (.own j off (A0 len (AQ new))) (AG h j (.row g c (Ey l (A0 off len) new (AQ new)) zt zf zf)))) λ_=>
     K (.val (.ow id) (AG h id (.row g c (If (DV l off (A0 off len)) new) zf zf zf)))else zn
   |_=>zn
  |_=>zn
 else zn
def Px(P:Program)(h:H)(t:TypeId)(v:V)(K:Int->Option β):Option β:=match P.underlying t,v with
 |some (.map _ _),.mp j=>(match h.get j with
  |some (.mp _ _ _ l _)=>K (K7 (AQ l))
  |_=>zn)
 |some (.map _ _),.nilm=>K 0
 |some (.array n _),_=>K n
 |some (.slice _),.nils=>K 0
 |some (.slice _),.lf _ _ _ l=>K (K7 (AQ l))
 |some (.slice _),.exl _ es=>K es.length
 |some (.slice _),.ow j=>(match h.get j with
  |some (.row _ _ l _ _ _)=>K (K7 (AQ l))
  |_=>zn)
 |some (.slice _),.own _ _ len=>K (K7 len)
 |some .string,.str l=>K (K7 (NH l))
 |_,_=>zn
def TN(P:Program)(h:H)(t:TypeId)(v:V)(K:Int->Option β):Option β:=Px P h t v.norm K
def JW(f:Int->Int->Int)(k:IntKind):Int->List V->(Int->Option β)->Option β
 |m,[],K=>K m
 |m,.int k' y::l,K=>bif k == k' then JW f k (f m y) l K else zn
 |_,_,_=>zn
def Ev:Ty->TypeDesc->Bool
 |.int _,.int _=>zt
 |.bool,.bool=>zt
 |.str,.string=>zt
 |_,_=>zf
def Pv(P:Program)(ty:TypeId)(m v:V)(h:H)(K:(j:Nat)->(k:Ty)->(g:Bool)->(c:Ty)->List (k.den×c.den)->Bool->(k.den->k.den->Bool)->k.den->Option β):Option β:=
 match P.underlying ty,m with
 |some (.map kt _),.mp j=>match P.underlying kt,h.get j with
  |some d,zo (.mp k g c l lk)=>bif Ev k d then CK (SN k) λe=>Dx .lf k [v] λx q=>(match q with
   |[]=>K j k g c l lk e x
   |_=>zn)else zn
  |_,_=>zn
 |_,_=>zn
def IK(P:Program)(h:H)(id:Nat)(b:Builtin)(f:Array TypeId)(args:List V)(K:RA->Option β):Option β:=
 match b with
 |.len=>match args,f[0]? with
  |[x],zo t=>TN P h t x λn=>K (.val (.int .i64 n) h)
  |_,_=>zn
 |.cap=>match args,f[0]? with
  |[x],zo t=>match P.underlying t,x with
   |some (.slice _),.ow j=>(match h.get j with
    |some (.row _ _ l zt _ _)=>K (.val (.int .i64 (K7 (AQ l))) h)
    |_=>zn)
   |some (.slice _),.own j off _=>(match h.get j with
    |some (.row _ _ l zt _ _)=>K (.val (.int .i64 (K7 (QC (AQ l) off))) h)
    |_=>zn)
   |some (.slice _),.nils=>K (.val (.int .i64 0) h)
   |_,_=>zn
  |_,_=>zn
 |.append=>match args,f.toList with
  |[s,x],[t,t']=>bif aa t t' then R4 P h id t s (Se h x) K else zn
  |_,_=>zn
 |.copy=>match args,f[0]? with
  |[d,x],zo t=>CK (TD P t) λ(g,c)=>bif !JQ P t c then zn else IT h g c x λnew=>match d with
   |.ow j=>(match h.get j with
    |some (.row g' _ l zt zf zf)=>bif g == g' then Cr l λl=>K (.val (.int .i64 (K7 (RW (AQ new) (AQ l)))) (AG h j (.row g c (Ey l 0 new (AQ l)) zt zf zf)))else zn
    |_=>zn)
   |.own j off len=>(match h.get j with
    |some (.row g' _ l ex zf zf)=>bif g == g' then Cr l λl=>gd (B2 (A0 off len) (AQ l)) λ_=>K (.val (.int .i64 (K7 (RW (AQ new) len))) (AG h j (.row g c (Ey l off new len) ex zf zf)))else zn
    |_=>zn)
   |_=>zn
  |_,_=>zn
 |.clear=>match args,f[0]? with
  |[.mp j],zo t=>match P.underlying t,h.get j with
   |some (.map _ _),zo (.mp k g c _ zf)=>K (.val (.tup []) (AG h j (.mp k g c [] zf)))
   |_,_=>zn
  |[.own j off len],zo t=>match P.underlying t with
   |some (.slice e)=>match Pi.AU P e,Pi.Hz P e,CG P e with
    |some n,zo ag,zo z=>CK (MH P Te e) λ(g,c)=>bif ae 0 n&&aa z.length n&&aa n c.wd then CK (Ln ag z) λz=>Fu .lf g c z λz=>(match h.get j with
     |some (.row g' _ l ex zf zf)=>bif g == g' then Cr l λl=>gd (B2 (A0 off len) (AQ l)) λ_=>K (.val (.tup []) (AG h j (.row g c (Ey l off (Ot len z) len) ex zf zf)))else zn
     |_=>zn)else zn
    |_,_,_=>zn
   |_=>zn
  |_,_=>zn
 |.delete=>match args,f[0]? with
  |[m,v],zo t=>Pv P t m v h λj k g c l i e x=>bif i then zn else K (.val (.tup []) (AG h j (.mp k g c (Io e l x) zf)))
  |_,_=>zn
 |.max=>match args with
  |.int k a::r=>JW Uz k a r λm=>K (.val (.int k m) h)
  |_=>zn
 |.min=>match args with
  |.int k a::r=>JW Uy k a r λm=>K (.val (.int k m) h)
  |_=>zn
 |.panic=>match args with
  |[.ifc t v]=>K (.pan (.ifc t v))
  |_=>zn
 |.recover=>K .rcv
 |_=>zn
def FK(P:Program)(f:Fn)(first cap args:List V)(K:RA->Option β):Option β:=match f with
 |.func g=>match P.funcs[g]? with
  | some fn => bif fn.body.isSome && !(fn.name == "runtime.NumGoroutine") then K (.call g (first ++ args ++ cap)) else none
  |none=>zn
 |.method name=>match first++args with
  |.ifc t v::rest=>match P.info? t with
   |some i=>match i.methods.find? (·.name == name)with
    |some m=>match m.path.isEmpty,m.func,P.underlying t with
     | true, some (g, true), some (.pointer _) => bif (match P.funcs[g]? with | some fn => fn.body.isSome && !(fn.name == "runtime.NumGoroutine") | none => false) then K (.call g (v :: rest)) else none
     |true,zo (_,zf),zo (.pointer _)=>zn
     | true, some (g, false), some _ => bif (match P.funcs[g]? with | some fn => fn.body.isSome && !(fn.name == "runtime.NumGoroutine") | none => false) then K (.call g (v :: rest)) else none
     |_,_,_=>zn
    |none=>zn
   |none=>zn
  |_=>zn
 |_=>zn
def Gc(a:IntKind):Nat->List V->Option (List Int)
 |0,_=>zo []
 |n+1,.int k x::l=>bif k == a then(Gc a n l).map (x::·)else zn
 |_+1,_=>zn
def Nj:List V->Option IntKind
 |.int k _::_=>zo k
 |_=>zn
def O4(a:IntKind)(k:Nat)(x:Int):Nat->List Int->List V
 |_,[]=>[]
 |i,y::l=>.int a (Uv (neq k i) x y)::O4 a k x (i+1) l
def R6(h:H)(n len:Nat)(x:V):Option (Nat×Nat):=match x with
 |.ptr j off=>(match h.get j with
  |some (.box cs _ _)=>(match Nj (cs.drop off)with
   |some a=>bif aa n 1&&(Gc a len (cs.drop off)).isSome then zo (j,off)else zn
   |none=>zn)
  |_=>zn)
 |_=>zn
def P0(P:Program)(h:H)(ty:TypeId)(p:V)(K:V->Option β):Option β:=match p with
 |.pv cs=>CK (EB P ty cs) K
 |.ptr j off=>match h.get j with
  |some (.box cs _ _)=>CK (EB P ty (cs.drop off)) K
  |_=>zn
 |.view cs=>CK (EB P ty cs) K
 |.ept j i off=>match h.get j with
  |some (.row g c l _ _ _)=>ix l i λx=>CK (EB P ty ((OT g c x).cells.drop off)) K
  |_=>zn
 |.aptr j off k n=>match h.get j with
  |some (.box cs _ _)=>(match Nj (cs.drop off),Pi.Hz P ty,Pi.AU P ty with
   |some k0,zo zf,zo _=>CK (Gc k0 n (cs.drop off)) λl=>K (.int k0 (ID l k))
   |_,_,_=>zn)
  |_=>zn
 |_=>zn
def K5(P:Program)(h:H)(ty:TypeId)(p v:V)(K:H->Option β):Option β:=CK (Pi.AU P ty) λn=>
 bif !ae 0 n || !aa v.cells.length n then zn else match p with
 |.ptr j off=>match h.get j with
  |some (.box cs zf zf)=>bif ad (off+n) cs.length then K (AG h j (.box (Gb cs off v.cells) zf zf))else zn
  |_=>zn
 |.ept j i off=>match h.get j with
  |some (.row g c l ex zf zf)=>ix l i λx=>bif ad (off+n) (cells c x).length then
    Dx .lf c (Gb (cells c x) off v.cells) λy q=>match q with
     |[]=>K (AG h j (.row g c (lset l i y) ex zf zf))
     |_=>zn
   else zn
  |_=>zn
 |.aptr j off k m=>match h.get j with
  |some (.box cs zf zf)=>(match v,Nj (cs.drop off)with
   |.int k1 x,zo k0=>bif k1 == k0 then CK (Gc k0 m (cs.drop off)) λl=>K (AG h j (.box (Gb cs off (O4 k0 k x 0 l)) zf zf))else zn
   |_,_=>zn)
  |_=>zn
 |_=>zn
def MV(P:Program)(ty:TypeId)(a:List (Nat×V))(K:V->Option β):Option β:=
 match CG P ty,P.underlying ty with
 |some z,zo (.struct fs)=>bif fs.toList.all λf=>(Pi.AU P f.type).isSome then
   (match FS P fs a with
   |some pl=>CK (IY z pl) λcs=>K (.agg cs)
   |none=>zn)else zn
 |some z,zo (.array _ e)=>match Pi.AU P e with
  |some n=>bif ae 0 n then CK (IY z (GD n a)) λcs=>K (.agg cs)else zn
  |none=>zn
 |_,_=>zn
def Ek(P:Program)(h:H)(ty:TypeId)(len:Nat)(a:List (Nat×V))(K:RA->Option β):Option β:=
 match P.underlying ty with
 |some (.slice e)=>match Pi.AU P e,Pi.Hz P e,CG P e with
  |some n,zo ag,zo z=>match Ln ag z with
   |some b=>bif !ae 0 n || !ad (len*n) 16777216 || !aa z.length n then zn else
    CK (KF n (aE len b) a) λes=>N7 h es λes l=>CK (CA h l) λh=>K (.val (.exl zt es) h)
   |none=>zn
  |_,_,_=>zn
 |_=>zn
def SQ(p:V)(K:V->Option β):Option β:=match p with
 |.pv cs=>K (.pv cs)
 |.ptr a b=>K (.ptr a b)
 |.ept a b c=>K (.ept a b c)
 |.view cs=>K (.view cs)
 |.ifc ty v=>K (.ifc ty v)
 |.yl i=>K (.yl i)
 |.fn (.func f) a b=>K (.fn (.func f) a b)
 |_=>zn
def Ro:List V->(List UInt8->Option β)->Option β
 |[],K=>K []
 |.int .u8 n::l,K=>Ro l λr=>K (Ux n::r)
 |_,_=>zn
def IN(P:Program)(b a:TypeId)(x:V)(K:V->Option β):Option β:=match x,P.underlying b,P.underlying a with
 |.int _ n,zo _,zo (.int k)=>K (.int k (Us k n))
 |.str l,zo .string,zo .string=>K (.str l)
 |.exl _ es,zo (.slice e),zo .string=>(match P.underlying e with
  |some (.int .u8)=>Ro es λl=>K (.str l)
  |_=>zn)
 |_,_,_=>zn
def SI(P:Program)(ty:TypeId)(v:V)(K:V->Option β):Option β:=match P.underlying ty with
 |some (.interface _)=>zn
 |some _=>K (.ifc ty v)
 |none=>zn
def P7(P:Program)(h:H)(id:Nat)(ty:TypeId)(same:Bool)(l c:V)(K:RA->Option β):Option β:=match P.underlying ty with
 |some (.slice e)=>match Pi.AU P e,Pi.Hz P e,CG P e,P.info? e with
  |some n,zo ag,zo z,zo ti=>CK (MH P Te e) λ(g,ct)=>bif ad ti.bytes 1048576&&ae 0 n&&aa z.length n then CK (Ln ag z) λz=>Fu .lf g ct z λz=>Kc l λl=>Kc c λc=>
    bif same then gd (B2 c 1048576) λ_=>K (.val (.ow id) (AG h id (.row g ct (Ot c z) zt zf zf)))
    else gd (B2 l c) λ_=>gd (B2 c 1048576) λ_=>K (.val (.own id 0 l) (AG h id (.row g ct (Ot c z) zt zf zf)))
   else zn
  |_,_,_,_=>zn
 |_=>zn
def Lh(P:Program)(h:H)(id:Nat)(ty:TypeId)(K:RA->Option β):Option β:=match P.underlying ty with
 |some (.map kt e)=>match MH P Te kt,MH P Te e with
  |some (zf,k),zo (g,c)=>K (.val (.mp id) (AG h id (.mp k g c [] zf)))
  |_,_=>zn
 |_=>zn
def Th(P:Program)(h:H)(n:Nat)(e:TypeId)(x:V)(K:V->Option β):Option β:=match Pi.AU P e,x with
 |some s,.ptr j off=>(match h.get j with
  |some (.box cs _ zf)=>bif aa s 1&&(ae 0 n&&aa (off+n) cs.length)then K (.own j off n)else zn
  |_=>zn)
 |_,_=>zn
def NI(P:Program)(h:H)(ty:TypeId)(x:V)(lo hi mx:Option V)(K:V->Option β):Option β:=match P.underlying ty,x with
 |some .string,.str s=>match mx with
  |none=>CF (NH s) hi λhh=>CF 0 lo λl=>gd (B2 hh (NH s)) λ_=>gd (B2 l hh) λ_=>K (.str (Ug s l hh))
  |_=>zn
 |some (.slice e),.nils=>CK (Pi.AU P e) λ_=>match mx with
  |none=>CF 0 hi λhh=>CF 0 lo λl=>gd (neq hh 0) λ_=>gd (neq l 0) λ_=>K .nils
  |some m=>bif hi.isNone then zn else CF 0 hi λhh=>CF 0 lo λl=>Ir m λm=>gd (neq hh 0) λ_=>gd (neq l 0) λ_=>gd (neq m 0) λ_=>K .nils
 |some (.slice e),.lf _ g c es=>CK (Pi.AU P e) λn=>bif !aa n c.wd then zn else CF 0 lo λl=>CF (AQ es) hi λhh=>(match mx with
  |none=>gd (B2 hh (AQ es)) λ_=>gd (B2 l hh) λ_=>K (.lf zf g c (DV es l hh))
  |some m=>bif hi.isNone || !ad c.depth 4 then zn else Ir m λm=>gd (B2 hh (AQ es)) λ_=>gd (neq hh m) λ_=>gd (B2 l hh) λ_=>K (.lf zt g c (DV es l hh)))
 |some (.slice e),.pl g c es=>CK (Pi.AU P e) λn=>bif !aa n c.wd then zn else CF 0 lo λl=>CF (AQ es) hi λhh=>(match mx with
  |none=>gd (B2 hh (AQ es)) λ_=>gd (B2 l hh) λ_=>K (.pl g c (DV es l hh))
  |some m=>bif hi.isNone || !ad c.depth 4 then zn else Ir m λm=>gd (B2 hh (AQ es)) λ_=>gd (neq hh m) λ_=>gd (B2 l hh) λ_=>K (.lf zt g c (DV es l hh)))
 |some (.slice e),.ow j=>(match h.get j with
  |some (.row g c es _ zf _)=>CK (Pi.AU P e) λn=>bif !aa n c.wd then zn else CF 0 lo λl=>CF (AQ es) hi λhh=>(match mx with
   |none=>gd (B2 hh (AQ es)) λ_=>gd (B2 l hh) λ_=>br (I8 l (AQ es)) (λ_=>K (.own j l (QC hh l))) λ_=>K (.lf zf g c [])
   |some _=>zn)
  |_=>zn)
 |some (.slice e),.own j off len=>(match h.get j with
  |some (.row g c es ex _ _)=>CK (Pi.AU P e) λn=>bif !aa n c.wd then zn else CF 0 lo λl=>CF len hi λhh=>(match mx with
   |none=>gd (B2 (A0 off hh) (AQ es)) λ_=>gd (B2 l hh) λ_=>br (I8 (A0 off l) (AQ es)) (λ_=>K (.own j (A0 off l) (QC hh l))) λ_=>K (.lf zf g c [])
   |some m=>bif lo.isSome||hi.isNone || !ex then zn else Ir m λm=>gd (B2 hh m) λ_=>gd (neq (A0 off m) (AQ es)) λ_=>gd (I8 off (AQ es)) λ_=>K (.own j off hh))
  |_=>zn)
 |some (.array n e),x=>match lo,hi,mx with
  |none,zn,zn=>Th P h n e x K
  |_,_,_=>zn
 |_,_=>zn
def Fz(P:Program)(b:TypeId)(x:V)(f:Nat)(K:V->Option β):Option β:=match P.underlying b with
 |some (.struct fs)=>match fs[f]? with
  |some a=>match Pi.AU P a.type with
   |some n=>bif aa n 0 then zn else(match x with
    |.ptr j off=>K (.ptr j (off+a.offset))
    |.ept j i off=>K (.ept j i (off+a.offset))
    |.view cs=>K (.view (cs.drop a.offset))
    |.pv cs=>K (.pv (cs.drop a.offset))
    |_=>zn)
   |none=>zn
  |none=>zn
 |_=>zn
def Mm(P:Program)(ty:TypeId)(x:V)(f:Nat)(K:V->Option β):Option β:=match P.underlying ty,x with
 |some (.struct fs),.agg cs=>match fs[f]? with
  |some a=>CK (EB P a.type (cs.drop a.offset)) K
  |none=>zn
 |_,_=>zn
def F5(P:Program)(h:H)(ty:TypeId)(x i:V)(K:V -> Option β):Option β:=match P.underlying ty with
  | some (.slice e) => CK (Pi.AU P e) fun n => Ir i fun k => match x with
      |.lf _ g c es=>ix es k fun a=>bif aa (OT g c a).cells.length n then K (.view (OT g c a).cells)else zn
      |.pl g c es=>ix es k fun a=>bif aa (elP g c a).cells.length n then K (.pv (elP g c a).cells)else zn
      |.exl _ es=>Iu k es.length 0 fun k=>CK (lget es k) fun a=>bif aa a.cells.length n then K (.view a.cells)else zn
      |.ow j=>(match h.get j with
        |some (.row _ c es _ zf _)=>gd (I8 k (AQ es)) fun _=>bif aa c.wd n then K (.ept j k 0)else zn
        |_=>zn)
      |.own j off len=>gd (I8 k len) fun _=>(match h.get j with
        |some (.row _ c es _ _ _)=>gd (I8 (A0 off k) (AQ es)) fun _=>bif aa c.wd n then K (.ept j (A0 off k) 0)else zn
        |_=>zn)
      |_=>zn
  |some (.array len e)=>CK (Pi.AU P e) fun n=>Ir i fun k=>match R6 h n len x with
   |some (j,off)=>gd (I8 k len) fun _=>K (.aptr j off k len)
   | none => Iu k len 0 fun k => match x with
      |.ptr j off=>K (.ptr j (off + k * n))
      |.ept j i off=>K (.ept j i (off + k * n))
      |.view cs=>K (.view (cs.drop (k * n)))
      |.pv cs=>K (.pv (cs.drop (k * n)))
      |_=>zn
  |_=>zn
def PI(P:Program)(e:TypeId)(n len:Nat)(cs:List V):Option (IntKind×List Int):=match Nj cs,Pi.Hz P e with
 |some k0,zo zf=>bif aa n 1&&ae 4 len then(Gc k0 len cs).map (k0,·)else zn
 |_,_=>zn
def Ms(P:Program)(ty:TypeId)(x i:V)(K:V->Option β):Option β:=match P.underlying ty,x with
 |some (.array len e),.agg cs=>CK (Pi.AU P e) λn=>Ir i λk=>match PI P e n len cs with
  |some (k0,l)=>gd (I8 k len) λ_=>K (.int k0 (ID l k))
  |none=>Iu k len 0 λk=>CK (EB P e (cs.drop (k*n))) K
 |some .string,.str l=>Ir i λk=>ix l k λb=>K (.int .u8 (U3 b))
 |_,_=>zn
def KX(P:Program)(h:H)(ty:TypeId)(m k:V)(a:Bool)(K:V->Option β):Option β:=match m with
 |.nilm=>match P.underlying ty with
  |some (.map kt e)=>match P.underlying kt,DA P e with
   |some d,zo z=>bif Pi.Cp d then K (bif a then .tup [z,.bool zf]else z)else zn
   |_,_=>zn
  |_=>zn
 |m=>Pv P ty m k h λ_ _ g c l _ e x=>match P.underlying ty with
  |some (.map _ et)=>CK (DA P et) λz=>Fu .lf g c z λz=>
    K (bif a then .tup [OT g c (TS (Mx e l x) z),.bool (U2 (Mx e l x))]else OT g c (TS (Mx e l x) z))
  |_=>zn
def EW(P:Program)(h:H)(ty:TypeId)(m k v:V)(K:H->Option β):Option β:=
 Pv P ty m k h λj a g c l b e x=>bif b then zn else Fu .lf g c v λy=>K (AG h j (.mp a g c (Iq e l x y) zf))
def FA(a:Bool)(v:V):V:=bif a then .tup [v,.bool zt]else v
def Jy(P:Program)(ty:TypeId)(v:V)(b:Bool)(K:V->Option β):Option β:=match P.underlying ty with
 |some (.interface want)=>match v with
  |.ifc u a=>match P.info? u with
   |some i=>match Instr.missingMethod want i.methods with
    |none=>K (FA b (.ifc u a))
    |some _=>bif b then CK (DA P ty) λz=>K (.tup [z,.bool zf])else zn
   |none=>zn
  |.nili=>bif b then CK (DA P ty) λz=>K (.tup [z,.bool zf])else zn
  |_=>zn
 |some _=>match v with
  |.ifc u a=>bif aa u ty then K (FA b a)else bif b then CK (DA P ty) λz=>K (.tup [z,.bool zf])else zn
  |.nili=>bif b then CK (DA P ty) λz=>K (.tup [z,.bool zf])else zn
  |_=>zn
 |none=>zn
def OB:Operand->Operand->Bool
 |.tmp a,.tmp b=>aa a b
 |_,_=>zf
def K6(h:H)(K:RA->Option β)(v:V):Option β:=K (.val v h)
def Tl(P:Program)(t:T V)(h:H)(id:Nat)(o:Oper)(K:RA->Option β):Option β:=
 match o.op with
 |.move x=>BI t x (K6 h K)
 |.assign x=>BI t x (K6 h K)
 |.pick c a b=>BI t c λc=>BI t a λa=>BI t b λb=>match c with
  |.bool c=>br c (λ_=>K6 h K a) (λ_=>K6 h K b)
  |_=>zn
 |.alloc e=>CK (CG P e) λcs=>K (.val (.ptr id 0) (AG h id (.box cs zf zf)))
 |.box _ x=>BI t x λv=>match v with
  |.tup _=>zn
  |v=>K (.val (.ptr id 0) (AG h id (.box v.cells zf zf)))
 |.build ty d=>Gr t d.toList λu=>MV P ty u (K6 h K)
 |.buildSlice ty len d=>Gr t d.toList λu=>Ek P h ty len u K
 |.load ty a=>BI t a λa=>P0 P h ty a (K6 h K)
 |.store ty a x=>BI t a λa=>BI t x λx=>K5 P h ty a x λh=>K (.skip h)
 |.nilCheck x=>BI t x λx=>SQ x (K6 h K)
 |.binOp op ty x y _=>BI t x λa=>BI t y λb=>R8 P op ty x y a b (K6 h K)
 |.unOp op _ x=>BI t x λa=>Ui op a (K6 h K)
 |.convert w p x=>BI t x λa=>IN P w p a (K6 h K)
 |.makeInterface ty x=>BI t x λa=>SI P ty a (K6 h K)
 |.makeFunc f first cap=>Ob t first.toList λa=>Ob t cap.toList λb=>match f with
  |.yield _=>zn
  |f=>K (.val (.fn f a b) h)
 |.makeMap ty zn=>Lh P h id ty K
 |.makeSlice ty l c=>BI t l λx=>BI t c λy=>P7 P h id ty (OB l c) x y K
 |.slice ty x lo hi mx=>RB t lo λlo=>RB t hi λhi=>RB t mx λmx=>BI t x λx=>NI P h ty x lo hi mx (K6 h K)
 |.fieldAddr s x f=>BI t x λx=>Fz P s x f (K6 h K)
 |.field ty x f=>BI t x λx=>Mm P ty x f (K6 h K)
 |.indexAddr ty x i=>BI t x λx=>BI t i λi=>F5 P h ty x i (K6 h K)
 |.index ty x i=>BI t x λx=>BI t i λi=>Ms P ty x i (K6 h K)
 |.lookup ty x k q=>BI t x λm=>BI t k λk=>KX P h ty m k q (K6 h K)
 |.mapUpdate ty x k v=>BI t x λx=>BI t k λk=>BI t v λv=>EW P h ty x k v λh=>K (.skip h)
 |.insert ty x k v=>BI t x λx=>BI t k λk=>BI t v λv=>EW P h ty x k v λh=>K (.skip h)
 |.typeAssert x _ ty q=>BI t x λv=>Jy P ty v q (K6 h K)
 |.extract x i=>BI t x λx=>match x with
  |.tup vs=>CK (lget vs i) (K6 h K)
  |_=>zn
 |.panic x=>BI t x λx=>match x with
  |.ifc ty v=>K (.pan (.ifc ty v))
  |_=>zn
 |.call c=>Ob t c.args.toList λargs=>match c.callee with
  |.builtin b=>IK P h id b c.argTypes args K
  |.value f=>BI t f λf=>match f with
   |.fn f a b=>FK P f a b args K
   |.yl l=>K (.yield l args)
   |_=>zn
  |.invoke n j=>BI t n λr=>FK P (.method j) [r] [] args K
 |.defer c=>Ob t c.args.toList λargs=>match c.callee with
  |.builtin b=>K (.dfr (.bi b c.argTypes o.type args))
  |.value f=>BI t f λf=>match f with
   |.fn (.func g) a b=>K (.dfr (.call (.fn (.func g) a b) args))
   |_=>zn
  |.invoke _ _=>zn
 |_=>zn
end
end
section
variable[Pi.Gl]
open Pi (T lget Hm)
@[reducible] def AO:List (Bool×Ty)->Type
 |[]=>Unit
 |[p]=>p.2.den
 |p::q::r=>p.2.den×AO (q::r)
structure Sg where
 dom:List (Bool×Ty)
 cod:List (Bool×Ty)
 fn:AO dom->Option (AO cod)
abbrev Dr:=FuncId->Option (Option Sg)
def Eb:(l:List (Bool×Ty))->AO l->List V
 |[],_=>[]
 |[p],x=>[elP p.1 p.2 x]
 |p::q::r,x=>elP p.1 p.2 x.1::Eb (q::r) x.2
def Qp:(l:List (Bool×Ty))->AO l->V
 |[],_=>.tup []
 |[(zf,.sl g c)],x=>.lf zf g c x
 |[p],x=>elP p.1 p.2 x
 |p::q::r,x=>.tup (Eb (p::q::r) x)
inductive Cv where
 |p|m|f|i
def Cv.v:Cv->V
 |.p=>.nilp
 |.m=>.nilm
 |.f=>.nilf
 |.i=>.nili
def SL:Cv->V->Bool
 |.p,v=>match v with
  |.nilp=>zt
  |_=>zf
 |.m,v=>match v with
  |.nilm=>zt
  |_=>zf
 |.f,v=>match v with
  |.nilf=>zt
  |_=>zf
 |.i,v=>match v with
  |.nili=>zt
  |_=>zf
inductive Sgm where
 |lf (c:Ty)
 |ow (g:Bool) (c:Ty) (ex:Bool)
 |kp (id:Nat)
 |cn (c:Cv)
 |er (t n tF:Nat) (k:IntKind)
 |ek (t n:Nat)
 |ef (tF:Nat) (k:IntKind)
@[reducible] def Sgm.den:Sgm->Type
 |.lf c=>c.den
 |.ow _ c _=>List c.den
 |.kp _=>Unit
 |.cn _=>Unit
 |.er _ _ _ _=>Int×Int
 |.ek _ _=>Unit
 |.ef _ _=>Int
@[reducible] def DT:List Sgm->Type
 |[]=>Unit
 |[p]=>p.den
 |p::q::r=>p.den×DT (q::r)
inductive Pl where
 |slot (k:Nat) (g:Bool) (c:Ty)
 |srow (k:Nat) (g:Bool) (c:Ty) (ex:Bool)
 |swin (k:Nat) (g:Bool) (c:Ty)
 |cn (k:Nat) (c:Cv)
 |box (id:Nat) (sg:List Sgm)
 |map (id:Nat) (k:Ty) (g:Bool) (c:Ty)
@[reducible] def Pl.den:Pl->Type
 |.slot _ _ c=>c.den
 |.srow _ _ c _=>List c.den
 |.swin _ _ c=>List c.den×Nat
 |.cn _ _=>Unit
 |.box _ sg=>DT sg
 |.map _ k _ c=>List (k.den×c.den)
@[reducible] def Au:List Pl->Type
 |[]=>Unit
 |[p]=>p.den
 |p::q::r=>p.den×Au (q::r)
inductive ExK where
 |exit (id:Nat)
 |ret
 |pan (t:TypeId) (g:Bool) (c:Ty)
abbrev Ut{α β:Type}(b:Bool)(f:α->Option (LR α β))(s:α):Option β:=match b with
 |true=>P3 f s
 |false=>loop f s
theorem SO{α β:Type}(b:Bool)(f:α->Option (LR α β))(s:α):Ut b f s=loop f s:=by cases b;rfl;exact P4 f s
structure Tm where
 keep:List Nat
 kb:List Nat
 pl:List Pl
 ex:List (ExK×List (Nat×Nat×Option Code))
 pay:Ty
 plx:List Pl:=pl
 rel:List (Nat×Nat):=[]
 relS:List Nat:=[]
 st:Bool:=zf
structure Jn where
 keep:List Nat
 kb:List Nat
 pl0:List Pl
 pl1:List Pl
 ex:List (ExK×List (Nat×Nat×Option Code))
 pay:Ty
inductive An where
 |loop (tm:Tm)
 |join (j:Jn)
abbrev H0:=FuncId->Nat->Nat->Option An
section
variable{β:Type}
def Bx(h:H):(l:List (Bool×Ty))->List V->(AO l->Option β)->Option β
 |[],vs,K=>match vs with
  |[]=>K ()
  |_=>zn
 |[p],vs,K=>match vs with
  |[v]=>Fu h p.1 p.2 v K
  |_=>zn
 |p::q::r,vs,K=>match vs with
  |v::vs=>Fu h p.1 p.2 v λx=>Bx h (q::r) vs λy=>K (x,y)
  |_=>zn
def Fa:List V->List Nat
 |[]=>[]
 |.ow id::l=>id::Fa l
 |.own id _ _::l=>id::Fa l
 |_::l=>Fa l
def DN(l:List V):List Nat:=l.flatMap λv=>Fa v.cells
def B4:List (Bool×Ty)->Bool
 |[]=>zf
 |p::l=>p.2.hasSl||B4 l
def Ty.leaf:Ty->Bool
 |.unit | .pair _ _=>zf
 |_=>zt
def Cs(l:List (Bool×Ty)):Bool:=l.all λp=>ad p.2.depth 4&&(p.1||p.2.leaf)
def Db(h:H)(sg:Sg)(args:List V)(K:V->H->Option β):Option β:=
 bif !Cs sg.dom || !Cs sg.cod then zn else Bx h sg.dom args λx=>CK (bif B4 sg.cod then CA h (DN args)else zo h) λh=>bd (sg.fn x) λy=>K (Qp sg.cod y) h
def LI(h:H)(id:Nat):(sg:Sg)->List V->(V->H->Option β)->Option β
 |⟨dom,[(zf,.sl g c)],a⟩,args,K=>bif !Cs dom || !ad c.depth 3 then zn else Bx h dom args λx=>CK (bif c.hasSl then CA h (DN args)else zo h) λh=>bd (a x) λy=>K (.ow id) (AG h id (.row g c y zf zf zf))
 |_,_,_=>zn
def Cw:Nat:=1048576
def Cy:Nat:=2097152
def R2(f:Nat):Nat:=bif ae f Cw then f else f-Cw
def getD(a:Dr)(f:FuncId):Option Sg:=bif ae f Cw then(match a f with
 |some r=>r
 |none=>match a (f+Cw)with
  |some r=>r
  |none=>zn)else zn
def getR(a:Dr)(f:FuncId):Option Sg:=bif ae f Cw then(match a (f+Cy)with
 |some r=>r
 |none=>zn)else zn
def Is:Nat:=3145728
def Sy:Bool×Ty->Bool
 |(zt,.pair _ .unit)=>zt
 |_=>zf
def getP(a:Dr)(f:FuncId):Option Sg:=bif ae f Cw then(match a (f+Is)with
 |some r=>r
 |none=>zn)else zn
def M4:Nat:=4194304
def getL(a:Dr)(f:FuncId):Option Sg:=bif ae f Cw then(match a (f+M4)with
 |some r=>r
 |none=>zn)else zn
def Eo(h:H):List (Bool×Ty)->List V->Option (List V×List Nat)
 |p::l,v::vs=>match Eo h l vs with
  |some a=>bif Sy p then(match v with
    |.ptr j off=>(match h.get j with
     |some (.box cs _ _)=>bif ae off cs.length then zo (.agg (cs.drop off)::a.1,j::a.2)else zn
     |_=>zn)
    |_=>zn)else zo (v::a.1,a.2)
  |none=>zn
 |_,vs=>zo (vs,[])
def S5:V->V
 |.agg cs=>.pv cs
 |v=>v
def Qq:List (Bool×Ty)->List V->List V
 |p::l,v::vs=>(bif Sy p then S5 v else v)::Qq l vs
 |_,vs=>vs
inductive TgA where
 |fn (f:FuncId)
 |yl (id:Nat)
abbrev IC:=(β:Type)->TgA->Option UMA->List V->H->Nat->(OutA->Option UMA->H->Nat->Option β)->Option β
abbrev KA(β:Type):=ExA->FrA->H->Nat->Option β
def HU(fr:FrA)(a:Option Nat)(v:V)(K:FrA->Option β):Option β:=match a with
 |none=>K fr
 |some d=>bif ae d fr.nt then K { fr with t:=T.put 20 fr.t d v }else zn
def KL(ops:List Oper)(t:T V)(g:Option (Nat×Bool))(a c:T V->Option β):Option β:=match g with
 |none=>a t
 |some (j,want)=>match lget ops j with
  |some o=>match o.dst with
   |some d=>match t.get d with
    |some (.bool b)=>br b (λ_=>bif want then a (T.put 20 t d (.bool zt))else c (T.put 20 t d (.bool zt))) (λ_=>bif want then c (T.put 20 t d (.bool zf))else a (T.put 20 t d (.bool zf)))
    |some (.tup [])=>c t
    |_=>zn
   |none=>zn
  |none=>zn
def Bp(P:Program)(a:Dr)(rec:IC)(base:Nat)(ops:List Oper):List (Nat×Oper)->FrA->H->Nat->KA β->Option β
 |[],fr,h,nx,K=>K .normal fr h nx
 |(i,o)::r,fr,h,nx,K=>KL ops fr.t o.guard
  (λt=>Tl P t h (base+i) o fun
   |.val v h=>HU { fr with t } o.dst v λfr=>Bp P a rec base ops r fr h nx K
   |.skip h=>HU { fr with t } o.dst (.tup []) λfr=>Bp P a rec base ops r fr h nx K
   |.dfr d=>match fr.ro with
    |none=>HU { fr with t,ds:=d::fr.ds } o.dst (.tup []) λfr=>Bp P a rec base ops r fr h nx K
    |some _=>zn
   |.call f args=>match a f with
    |some zn=>zn
    |some (zo sg)=>bif !ae f Cw then zn else(match getR a f with
     |some sg=>LI h (base+i) sg args λv h=>HU { fr with t } o.dst v λfr=>Bp P a rec base ops r fr h nx K
     |none=>Db h sg args λv h=>HU { fr with t } o.dst v λfr=>Bp P a rec base ops r fr h nx K)
    |none=>rec β (.fn f) zn args h nx λo' _ h nx=>match o' with
     |.ret v=>HU { fr with t } o.dst v λfr=>Bp P a rec base ops r fr h nx K
     |.pan [{ v,recovered:=zf }]=>K (.panic v) { fr with t } h nx
     |_=>zn
   |.yield l args=>rec β (.yl l) zn args h nx λo' _ h nx=>match o' with
     |.ret v=>HU { fr with t } o.dst v λfr=>Bp P a rec base ops r fr h nx K
     |_=>zn
   |.pan v=>K (.panic v) { fr with t } h nx
   |.rcv=>match fr.ro with
    |some _=>zn
    |none=>match fr.up with
     |some (.pan ({ v,recovered:=zf }::older))=>HU { fr with t,up:=zo (.pan ({ v,recovered:=zt }::older)) } o.dst v λfr=>Bp P a rec base ops r fr h nx K
     |_=>HU { fr with t } o.dst .nili λfr=>Bp P a rec base ops r fr h nx K)
  (λt=>HU { fr with t } o.dst (.tup []) λfr=>Bp P a rec base ops r fr h nx K)
def AR:Op->Nat
 |.move _ | .assign _ | .pick _ _ _ | .build _ _ | .nilCheck _ | .binOp _ _ _ _ _ | .unOp _ _ _ | .convert _ _ _ | .makeInterface _ _ | .makeFunc _ _ _ | .fieldAddr _ _ _ | .field _ _ _ | .index _ _ _ | .typeAssert _ _ _ _ | .extract _ _=>0
 |.load _ _ | .indexAddr _ _ _=>1
 |.slice _ _ _ _ zn=>1
 |.slice _ _ _ _ (zo _)=>4
 |.call c=>match c.callee with
  |.builtin b=>match b with
   |.len | .cap | .max | .min=>1
   |.append | .copy=>4
   |_=>9
  |_=>9
 |.buildSlice _ _ _=>4
 |.alloc _ | .box _ _ | .makeMap _ zn | .makeSlice _ _ _=>2
 |.store _ _ _=>3
 |_=>9
def Gi(h:H)(id:Nat):Bool:=match h.get id with
 |some .dead=>zf
 |some _=>zt
 |none=>zf
def Ru(h:H):V->Bool
 |.ow id | .own id _ _ | .ptr id _ | .ept id _ _ | .aptr id _ _ _ | .mp id=>Gi h id
 |.dd=>zf
 |_=>zt
def Gj(h:H)(t:T V):List Operand->Bool
 |[]=>zt
 |.tmp k::l=>(match t.get k with
  |some v=>Ru h v
  |none=>zf)&&Gj h t l
 |_::l=>Gj h t l
def Of(t:T V):List Operand->Option (List Nat×Bool)
 |[]=>zo ([],zf)
 |.tmp k::l=>match t.get k with
  |some (.ow id)|some (.own id _ _)|some (.ptr id _)|some (.ept id _ _)|some (.aptr id _ _ _)|some (.mp id)=>(Of t l).map λa=>(id::a.1,a.2)
  |some (.lf _ _ _ _)|some (.view _)=>(Of t l).map λa=>(a.1,zt)
  |some .dd=>zn
  |some _=>Of t l
  |none=>zn
 |_::l=>Of t l
def TG(f:V->Option (List Nat×Bool)):List V->Option (List Nat×Bool)
 |[]=>zo ([],zf)
 |v::vs=>match f v,TG f vs with
  |some a,zo b=>zo (a.1++b.1,a.2||b.2)
  |_,_=>zn
def QZ(h:H)(id:Nat):Bool:=match h.get id with
 |some (.row _ c _ _ _ _)=>c.hasSl
 |_=>zt
def Tn(h:H):Nat->V->Option (List Nat×Bool)
 |0,_=>zn
 |n+1,v=>match v with
  |.bool _ | .int _ _ | .str _ | .nils | .pl _ _ _ | .exl _ _=>zo ([],zf)
  |.lf _ _ _ _=>zo ([],zt)
  |.ow id | .own id _ _=>bif Gi h id then zo ([id],QZ h id)else zn
  |.agg cs=>TG (Tn h n) cs
  |_=>zn
def RD(h:H)(t:T V):List Operand->Option (List Nat×Bool)
 |[]=>zo ([],zf)
 |.tmp k::l=>match t.get k with
  |some v=>(match Tn h 6 v,RD h t l with
   |some a,zo b=>zo (a.1++b.1,a.2||b.2)
   |_,_=>zn)
  |none=>zn
 |_::l=>RD h t l
def RE(t:T V):List Operand->Option (List Nat×Bool)
 |[]=>zo ([],zf)
 |.tmp k::l=>match t.get k with
  |some (.mp id)=>(RE t l).map λa=>(id::a.1,a.2)
  |some _=>RE t l
  |none=>zn
 |_::l=>RE t l
def BL(h:H)(l:List V):Option (List Nat×Bool):=TG (Tn h 6) l
def TF(js:List Nat)(o:Option (List Nat×Bool)):Option (List Nat×Bool):=o.map λa=>(js++a.1,a.2)
def SU(t:T V):Op->Bool
 |.slice _ (.tmp k) _ _ (zo _)=>match t.get k with
  |some (.pl _ _ _)|some .nils=>zt
  |_=>zf
 |.slice _ _ _ _ (zo _)=>zf
 |_=>zt
def fp(h:H)(t:T V)(o:Op):Option (List Nat×Bool):=match o with
 |.load _ _ | .indexAddr _ _ _ | .slice _ _ _ _ zn | .store _ _ _=>Of t (Pi.Az o)
 |.slice _ x _ _ (zo _)=>RD h t [x]
 |.buildSlice _ _ parts=>RD h t (parts.toList.map (·.2))
 |.call c=>match c.callee with
  |.builtin b=>(match b with
   |.len=>RE t c.args.toList
   |.cap | .max | .min | .append | .copy=>Of t c.args.toList
   |_=>zn)
  |_=>zn
 |.alloc _ | .box _ _ | .makeMap _ zn | .makeSlice _ _ _=>zo ([],zf)
 |_=>zn
def JX(v:V):Option (List Nat×Bool)->Option (List Nat×Bool)
 |some a=>match v with
  |.ow id | .own id _ _ | .ptr id _ | .ept id _ _ | .aptr id _ _ _ | .mp id=>zo (id::a.1,a.2)
  |.lf _ _ _ _ | .view _=>zo (a.1,zt)
  |.dd=>zn
  |_=>zo a
 |none=>zn
def Ls:List (Bool×Ty)->Bool
 |[(zf,.sl _ _)]=>zt
 |_=>zf
def Le(h:H):List Nat->Bool
 |[]=>zt
 |j::l=>Gi h j&&Le h l
def Lw(h:H):List Nat->Bool
 |[]=>zt
 |j::l=>(h.get j).isSome&&Lw h l
def TH(h:H):Option (List Nat×Bool)->Option (List Nat×Bool)->Bool
 |some a,zo b=> !Pi.Cf a.1 b.1&&(!(a.2&&b.2)&&(Le h a.1&&Lw h b.1))
 |_,_=>zf
def DQ(h:H)(a c:Nat)(f:Option (List Nat×Bool)):List (Nat×Nat×Option (List Nat×Bool))->Bool
 |[]=>zt
 |(j,d,g)::l=>(Pi.Fp a j||(aa c 0||(aa c 2||(aa d 0||(aa c 1&&aa d 1||TH h f g)))))&&DQ h a c f l
def CP:Op->Bool
 |.call c=>match c.callee with
  |.builtin _=>zf
  |_=>zt
 |_=>zf
def Hy(t:T V)(nt:Nat)(a:Option Nat)(v:V)(K:T V->Option β):Option β:=match a with
 |some d=>bif ae d nt then K (T.put 20 t d v)else zn
 |none=>K t
def BQ(P:Program)(b:Dr)(base nt:Nat)(ops:List Oper):Nat->List Oper->List Pi.Mk->List (Nat×Nat×Option (List Nat×Bool))->T V->H->(T V->H->Option β)->Option β
 |i,o::l,m::ms,past,t,h,K=>KL ops t o.guard
  (λt=>bif !Pi.Av o.op then zn else
   Tl P t h (base+i) o fun
    |.val v c=>bif (ad (AR o.op) 2||aa (AR o.op) 4)&&(SU t o.op&&(Gj h t (Pi.Az o.op)&&DQ h m.bef (AR o.op) (fp h t o.op) past))then Hy t nt o.dst v λd=>BQ P b base nt ops (i+1) l ms ((i,AR o.op,bif ad (AR o.op) 1 then fp h t o.op else JX v (fp h t o.op))::past) d c K else zn
    |.skip c=>bif aa (AR o.op) 3&&(Gj h t (Pi.Az o.op)&&DQ h m.bef 3 (fp h t o.op) past)then Hy t nt o.dst (.tup []) λd=>BQ P b base nt ops (i+1) l ms ((i,3,fp h t o.op)::past) d c K else zn
    |.call f args=>match getR b f with
     |some sg=>bif !CP o.op || !DQ h m.bef 4 (BL h args) past then zn else LI h (base+i) sg args λv c=>Hy t nt o.dst v λt=>BQ P b base nt ops (i+1) l ms ((i,4,JX v (BL h args))::past) t c K
     |none=>match getL b f with
     |some sg=>bif !CP o.op then zn else bif !DQ h m.bef 4 (BL h args) past then zn else Db h sg args λv c=>Hy t nt o.dst v λt=>BQ P b base nt ops (i+1) l ms ((i,4,BL h args)::past) t c K
     |none=>match getD b f with
      |some sg=>bif !CP o.op then zn else bif B4 sg.cod then
        (bif !DQ h m.bef 4 (BL h args) past then zn else Db h sg args λv c=>Hy t nt o.dst v λt=>BQ P b base nt ops (i+1) l ms ((i,4,bif Ls sg.cod then JX v (BL h args)else BL h args)::past) t c K)
       else bif !DQ h m.bef 1 (BL h args) past then zn else Db h sg args λv c=>Hy t nt o.dst v λt=>BQ P b base nt ops (i+1) l ms ((i,1,BL h args)::past) t c K
      |none=>match getP b f with
       |some sg=>bif !CP o.op||B4 sg.cod then zn else CK (Eo h sg.dom args) λa=>bif !DQ h m.bef 1 (TF a.2 (BL h a.1)) past then zn else Db h sg a.1 λv c=>Hy t nt o.dst v λt=>BQ P b base nt ops (i+1) l ms ((i,1,TF a.2 (BL h a.1))::past) t c K
       |none=>zn
    |_=>zn)
  (λt=>Hy t nt o.dst (.tup []) λt=>BQ P b base nt ops (i+1) l ms past t h K)
 |_,[],_,_,t,h,K=>K t h
 |_,_,_,_,_,_,_=>zn
def MZ(P:Program)(a:Dr)(base:Nat)(ops:List Oper)(fr:FrA)(h:H)(K:FrA->H->Option β):Option β:=
 CK (Pi.FN ops 0 ops []) λb=>BQ P a base fr.nt ops 0 ops b [] fr.t h λt h=>K { fr with t } h
end
def BA.locked:BA->Bool
 |.box _ _ lk=>lk
 |.row _ _ _ _ _ lk=>lk
 |.mp _ _ _ _ lk=>lk
 |_=>zf
def BV(t:T V):List Nat->T V
 |[]=>.lf
 |k::l=>match t.get k with
  |some v=>T.put 20 (BV t l) k v
  |none=>BV t l
def DO:BA->BA
 |.box cs fz _=>.box cs fz zt
 |.row g c l ex fz _=>.row g c l ex fz zt
 |.mp k g c l _=>.mp k g c l zt
 |b=>b
def BU(h:H)(f:BA->BA):List Nat->H
 |[]=>.lf
 |k::l=>match h.get k with
  |some .dead=>BU h f l
  |some b=>T.put 20 (BU h f l) k (f b)
  |none=>BU h f l
section
variable{β:Type}
def L4(h:H)(g:Bool)(c:Ty)(ex:Bool)(v:V)(K:List c.den->Option β):Option β:=match v with
 |.nils=>bif ex then zn else K []
 |.ow id=>match h.get id with
  |some (.row g' _ l ex' zf zf)=>bif g == g'&&ex == ex' then Cr l K else zn
  |_=>zn
 |_=>zn
def Pu(t n:Nat):V->Bool
 |.ifc a v=>match v with
  |.gk m=>aa a t&&aa m n
  |_=>zf
 |_=>zf
def PZ(a:Nat)(k:IntKind)(v:V)(K:Int->Option β):Option β:=match v with
 |.ifc t' (.agg [.int k' e])=>bif aa t' a&&k' == k then K e else zn
 |_=>zn
def Q9(t n a:Nat)(k:IntKind)(v:V)(K:Int×Int->Option β):Option β:=bif SL .i v then K (0,0)else bif Pu t n v then K (1,0)else PZ a k v λe=>K (2,e)
def Bm(h:H):(l:List Sgm)->List V->(DT l->Option β)->Option β
 |[],cs,K=>match cs with
  |[]=>K ()
  |_=>zn
 |[.lf c],cs,K=>Dx .lf c cs λx r=>match r with
  |[]=>K x
  |_=>zn
 |[.ow g c ex],cs,K=>match cs with
  |[v]=>L4 h g c ex v K
  |_=>zn
 |.lf c::q::r,cs,K=>Dx .lf c cs λx cs=>Bm h (q::r) cs λy=>K (x,y)
 |.ow g c ex::q::r,cs,K=>match cs with
  |v::cs=>L4 h g c ex v λx=>Bm h (q::r) cs λy=>K (x,y)
  |_=>zn
 |[.kp id],cs,K=>match cs with
  |[.ow j]=>bif aa j id then K ()else zn
  |_=>zn
 |.kp id::q::r,cs,K=>match cs with
  |.ow j::cs=>bif aa j id then Bm h (q::r) cs λy=>K ((),y)else zn
  |_=>zn
 |[.cn c],cs,K=>match cs with
  |[v]=>bif SL c v then K ()else zn
  |_=>zn
 |.cn c::q::r,cs,K=>match cs with
  |v::cs=>bif SL c v then Bm h (q::r) cs λy=>K ((),y)else zn
  |_=>zn
 |[.er t n tF k],cs,K=>match cs with
  |[v]=>Q9 t n tF k v K
  |_=>zn
 |.er t n tF k::q::r,cs,K=>match cs with
  |v::cs=>Q9 t n tF k v λx=>Bm h (q::r) cs λy=>K (x,y)
  |_=>zn
 |[.ek t n],cs,K=>match cs with
  |[v]=>bif Pu t n v then K ()else zn
  |_=>zn
 |.ek t n::q::r,cs,K=>match cs with
  |v::cs=>bif Pu t n v then Bm h (q::r) cs λy=>K ((),y)else zn
  |_=>zn
 |[.ef tF k],cs,K=>match cs with
  |[v]=>PZ tF k v K
  |_=>zn
 |.ef tF k::q::r,cs,K=>match cs with
  |v::cs=>PZ tF k v λx=>Bm h (q::r) cs λy=>K (x,y)
  |_=>zn
def EE(h:H)(g:Bool)(c:Ty)(v:V)(K:List c.den×Nat->Option β):Option β:=match v with
 |.own j off len=>match h.get j with
  |some (.row g' _ l zt zf zf)=>bif g == g'&&aa off 0 then Cr l λl=>K (l,len)else zn
  |_=>zn
 |_=>zn
def GS(t:T V)(h:H):(p:Pl)->(p.den->Option β)->Option β
 |.slot k g c,K=>CK (t.get k) λv=>Fu .lf g c v K
 |.srow k g c ex,K=>CK (t.get k) λv=>L4 h g c ex v K
 |.swin k g c,K=>CK (t.get k) λv=>EE h g c v K
 |.cn k c,K=>CK (t.get k) λv=>bif SL c v then K ()else zn
 |.box id sg,K=>match h.get id with
  |some (.box cs zf zf)=>Bm h sg cs K
  |_=>zn
 |.map id k g c,K=>match h.get id with
  |some (.mp _ g' _ l zf)=>bif g == g' then Rq l K else zn
  |_=>zn
def Ch(t:T V)(h:H):(l:List Pl)->(Au l->Option β)->Option β
 |[],K=>K ()
 |[p],K=>GS t h p K
 |p::q::r,K=>GS t h p λx=>Ch t h (q::r) λy=>K (x,y)
end
def SD(t n a:Nat)(k:IntKind)(x:Int×Int):V:=if x.1=0 then .nili else if x.1=1 then .ifc t (.gk n)else .ifc a (.agg [.int k x.2])
def A5(h:H)(nx:Nat):(l:List Sgm)->DT l->List V×H×Nat
 |[],_=>([],h,nx)
 |[.lf c],x=>(cells c x,h,nx)
 |[.ow g c ex],l=>([.ow nx],AG h nx (.row g c l ex zf zf),nx+1)
 |.lf c::q::r,x=>match A5 h nx (q::r) x.2 with
  |(cs,h,nx)=>(cells c x.1++cs,h,nx)
 |.ow g c ex::q::r,x=>match A5 (AG h nx (.row g c x.1 ex zf zf)) (nx+1) (q::r) x.2 with
  |(cs,h,n')=>(.ow nx::cs,h,n')
 |[.kp id],_=>([.ow id],h,nx)
 |.kp id::q::r,x=>match A5 h nx (q::r) x.2 with
  |(cs,h,n')=>(.ow id::cs,h,n')
 |[.cn c],_=>([c.v],h,nx)
 |.cn c::q::r,x=>match A5 h nx (q::r) x.2 with
  |(cs,h,n')=>(c.v::cs,h,n')
 |[.er t n tF k],x=>([SD t n tF k x],h,nx)
 |.er t n tF k::q::r,x=>match A5 h nx (q::r) x.2 with
  |(cs,h,n')=>(SD t n tF k x.1::cs,h,n')
 |[.ek t n],_=>([.ifc t (.gk n)],h,nx)
 |.ek t n::q::r,x=>match A5 h nx (q::r) x.2 with
  |(cs,h,n')=>(.ifc t (.gk n)::cs,h,n')
 |[.ef tF k],x=>([.ifc tF (.agg [.int k x])],h,nx)
 |.ef tF k::q::r,x=>match A5 h nx (q::r) x.2 with
  |(cs,h,n')=>(.ifc tF (.agg [.int k x.1])::cs,h,n')
def Bo(t:T V)(h:H)(nx:Nat):(p:Pl)->p.den->T V×H×Nat
 |.slot k g c,x=>(T.put 20 t k (OT g c x),h,nx)
 |.srow k g c ex,l=>(T.put 20 t k (.ow nx),AG h nx (.row g c l ex zf zf),nx+1)
 |.swin k g c,x=>(T.put 20 t k (.own nx 0 x.2),AG h nx (.row g c x.1 zt zf zf),nx+1)
 |.cn k c,_=>(T.put 20 t k c.v,h,nx)
 |.box id sg,x=>match A5 h nx sg x with
  |(cs,h,nx)=>(t,AG h id (.box cs zf zf),nx)
 |.map id k g c,l=>(t,AG h id (.mp k g c l zf),nx)
def Ab(t:T V)(h:H)(nx:Nat):(l:List Pl)->Au l->T V×H×Nat
 |[],_=>(t,h,nx)
 |[p],x=>Bo t h nx p x
 |p::q::r,x=>match Bo t h nx p x.1 with
  |(t,h,nx)=>Ab t h nx (q::r) x.2
def AV:List Pl->List Nat
 |[]=>[]
 |.box id _::l | .map id _ _ _::l=>id::AV l
 |_::l=>AV l
def Qr:V->List Nat
 |.own id _ _=>[id]
 |_=>[]
def B3:V->List Nat
 |.ow id=>[id]
 |_=>[]
def As:List Sgm->List V->List Nat
 |[],_=>[]
 |.lf c::r,cs=>As r (cs.drop c.wd)
 |.ow _ _ _::r,cs=>(match cs with
  |v::_=>B3 v
  |[]=>[])++As r (cs.drop 1)
 |.kp _::r,cs=>As r (cs.drop 1)
 |.cn _::r,cs=>As r (cs.drop 1)
 |.er _ _ _ _::r,cs | .ek _ _::r,cs | .ef _ _::r,cs=>As r (cs.drop 1)
def A1(t:T V)(h:H):List Pl->List Nat
 |[]=>[]
 |.slot _ _ _::l=>A1 t h l
 |.cn _ _::l=>A1 t h l
 |.map id _ _ _::l=>id::A1 t h l
 |.srow k _ _ _::l=>(match t.get k with
  |some v=>B3 v
  |none=>[])++A1 t h l
 |.swin k _ _::l=>(match t.get k with
  |some v=>Qr v
  |none=>[])++A1 t h l
 |.box id sg::l=>(match h.get id with
  |some (.box cs _ _)=>As sg cs
  |_=>[])++id::A1 t h l
def Bc:List Nat->Bool
 |[]=>zt
 |a::l=> !l.any (aa a)&&Bc l
def Hn(nx:Nat):List Sgm->Bool
 |[]=>zt
 |.kp id::l=>ae id nx&&Hn nx l
 |.lf _::l | .ow _ _ _::l=>Hn nx l
 |.cn _::l | .er _ _ _ _::l | .ek _ _::l | .ef _ _::l=>Hn nx l
def Am(nt nx:Nat):List Pl->Bool
 |[]=>zt
 |.slot k _ _::l | .srow k _ _ _::l | .swin k _ _::l=>ae k nt&&Am nt nx l
 |.box _ sg::l=>Hn nx sg&&Am nt nx l
 |.map _ _ _ _::l=>Am nt nx l
 |.cn k _::l=>ae k nt&&Am nt nx l
def C4(h:H)(n:Nat)(l:List Nat):List Nat:=l++(bW n).filter λi=>(match h.get i with
 |some c=>c.locked
 |none=>zf) && !l.any (aa i)
def CV:Code->Option Nat
 |.region id _ _=>zo id
 |.seq a b=>match CV a with
  |some i=>zo i
  |none=>CV b
 |.cond _ a b=>match CV a with
  |some i=>zo i
  |none=>CV b
 |.block _ b | .loop b | .scope b=>CV b
 |.rangeFunc _ _ a b=>match CV a with
  |some i=>zo i
  |none=>CV b
 |_=>zn
def Dg:Code->Option Nat
 |.region id _ _=>zo id
 |.seq a b=>match Dg b with
  |some i=>zo i
  |none=>Dg a
 |.cond _ a b=>match Dg b with
  |some i=>zo i
  |none=>Dg a
 |.block _ b | .loop b | .scope b=>Dg b
 |.rangeFunc _ _ a b=>match Dg b with
  |some i=>zo i
  |none=>Dg a
 |_=>zn
def Sa(x:Code):Nat:=match CV x,Dg x with
 |some i,zo k=>1000000+(i*1000+k)
 |_,_=>0
def B1:Code->List Nat
 |.region _ ops _=>ops.toList.filterMap (·.dst)
 |.seq a b | .cond _ a b=>B1 a++B1 b
 |.block _ b | .loop b | .scope b=>B1 b
 |_=>[]
def Hf(h:H):List Nat->Bool
 |[]=>zt
 |id::l=>(match h.get id with
  |some (.df (zo []))=>zt
  |some (.df _)=>zf
  |_=>zt)&&Hf h l
def GT(h:H):List Nat->List Nat
 |[]=>[]
 |id::l=>match h.get id with
  |some (.df _)=>id::GT h l
  |_=>GT h l
def Fv(h:H):List Nat->Bool
 |[]=>zt
 |id::l=>(match h.get id with
  |some (.df (zo []))=>zt
  |_=>zf)&&Fv h l
def Fi(h:H):List (Nat×Nat×Option Code)->Bool
 |[]=>zt
 |(id,st,pd)::l=>(match h.get id with
  |some (.lp st' pd' _ _ _ _ _ _)=>aa st st'&&(match pd,pd' with
   |none,zn=>zt
   |some .ret,zo .ret=>zt
   |some (.exit i),zo (.exit j)=>aa i j
   |some (.goto i),zo (.goto j)=>aa i j
   |_,_=>zf)
  |_=>zf)&&Fi h l
def CZ(h:H):List (Nat×Nat×Option Code)->H
 |[]=>h
 |(id,st,pd)::l=>match h.get id with
  |some (.lp _ _ nt t ps asg body d)=>AG (CZ h l) id (.lp st pd nt t ps asg body d)
  |_=>CZ h l
def Be(h:H):List Nat->List (Nat×Nat×Option Code)
 |[]=>[]
 |id::l=>match h.get id with
  |some (.lp st pd _ _ _ _ _ _)=>(id,st,pd)::Be h l
  |_=>Be h l
section
variable{β:Type}
def Rg(h:H)(n:Nat)(v:V)(K:V->H->Option β):Option β:=match v with
 |.ow j=>match h.get j with
  |some (.row g c l _ _ zf)=>K (.lf zf g c l) (BU h (λb=>b) ((bW n).filter λi=> !aa i j))
  |_=>zn
 |.own j off len=>match h.get j with
  |some (.row g c l _ _ zf)=>gd (B2 (A0 off len) (AQ l)) λ_=>K (.lf zf g c (DV l off (A0 off len))) (BU h (λb=>b) ((bW n).filter λi=> !aa i j))
  |_=>zn
 |_=>zn
def UN(v:V)(K:V->Option β):Option β:=match v with
 |.ow _ | .own _ _ _=>K .dd
 |_=>zn
def QX(n:Nat):List (Nat×Nat)->H->(H->Option β)->Option β
 |[],h,K=>K h
 |(b,i)::r,h,K=>match h.get b with
  |some (.box cs fz zf)=>bif ad 1000000 i then CK (lget cs (i-1000000)) λv=>UN v λa=>QX n r (AG h b (.box (Pi.lset cs (i-1000000) a) fz zf)) K
   else CK (lget cs i) λv=>Rg h n v λa h'=>QX n r (AG h' b (.box (Pi.lset cs i a) fz zf)) K
  |_=>zn
def Rf(n:Nat):List Nat->FrA->H->(FrA->H->Option β)->Option β
 |[],fr,h,K=>K fr h
 |k::r,fr,h,K=>bif ae k 1048575 then CK (fr.t.get k) λv=>Rg h n v λa h'=>Rf n r { fr with t:=T.put 20 fr.t k a } h' K else zn
def TE(h:H)(ex:ExA)(pay:Ty):ExK->(pay.den->Option β)->Option β
 |.exit i,K=>match ex with
  |.exit j=>bif aa i j then K (OG pay)else zn
  |_=>zn
 |.ret,K=>match ex with
  |.ret=>K (OG pay)
  |_=>zn
 |.pan t g c,K=>match ex with
  |.panic (.ifc t' v)=>bif aa t t' then(if e:c=pay then Fu .lf g c v λx=>K (e ▸ x)else zn)else zn
  |_=>zn
def TK(ex:ExA):ExK->Bool
 |.exit i=>match ex with
  |.exit j=>aa i j
  |_=>zf
 |.ret=>match ex with
  |.ret=>zt
  |_=>zf
 |.pan t _ _=>match ex with
  |.panic (.ifc t' _)=>aa t t'
  |_=>zf
def HE(h:H)(a:List Nat)(ex:ExA)(pay:Ty):Nat->List (ExK×List (Nat×Nat×Option Code))->(Nat->pay.den->Option β)->Option β
 |_,[],_=>zn
 |i,(k,lp)::l,K=>bif TK ex k&&(Fi h lp&&(lp.map (·.1)) == a)then TE h ex pay k (K i)else HE h a ex pay (i+1) l K
def KC(pay:Ty)(x:pay.den):ExK->ExA
 |.exit i=>.exit i
 |.ret=>.ret
 |.pan t g c=>if e:c=pay then .panic (.ifc t (OT g c (e ▸ x)))else .normal
def L6(pay:Ty)(x:pay.den)(n:Nat):Nat->List (ExK×List (Nat×Nat×Option Code))->(ExA->List (Nat×Nat×Option Code)->Option β)->Option β
 |_,[],_=>zn
 |_,[(k,lp)],K=>K (KC pay x k) lp
 |i,(k,lp)::e::l,K=>br (neq n i) (λ_=>K (KC pay x k) lp) λ_=>L6 pay x n (i+1) (e::l) K
end
def Sb(p:Sgm)(x:p.den):(l:List Sgm)->DT l->DT (p::l)
 |[],_=>x
 |_::_,y=>(x,y)
def SS(p:Pl)(x:p.den):(l:List Pl)->Au l->Au (p::l)
 |[],_=>x
 |_::_,y=>(x,y)
section
variable{β:Type}
def Ny:(p:Sgm)->p.den->((a:Sgm)->a.den->Option β)->Option β
 |.er t n tF k,x,K=>br (PC x.1 0) (λ_=>K (.cn .i) ()) λ_=>br (PC x.1 1) (λ_=>K (.ek t n) ()) λ_=>K (.ef tF k) x.2
 |p,x,K=>K p x
def M6:(l:List Sgm)->DT l->((l':List Sgm)->DT l'->Option β)->Option β
 |[],x,K=>K [] x
 |[p],x,K=>Ny p x λa b=>K [a] b
 |p::q::r,x,K=>Ny p x.1 λa b=>M6 (q::r) x.2 λl' y=>K (a::l') (Sb a b l' y)
def QK:(p:Pl)->p.den->((b:Pl)->b.den->Option β)->Option β
 |.box id sg,x,K=>M6 sg x λa c=>K (.box id a) c
 |p,x,K=>K p x
def M5:(l:List Pl)->Au l->((l':List Pl)->Au l'->Option β)->Option β
 |[],x,K=>K [] x
 |[p],x,K=>QK p x λa b=>K [a] b
 |p::q::r,x,K=>QK p x.1 λa b=>M5 (q::r) x.2 λl' y=>K (a::l') (SS a b l' y)
def Pp:List Pl->Bool
 |[]=>zf
 |.box _ sg::l=>sg.any (fun | .er _ _ _ _=>zt|_=>zf)||Pp l
 |_::l=>Pp l
def QL(l:List Pl)(x:Au l)(K:(l':List Pl)->Au l'->Option β):Option β:=bif Pp l then M5 l x K else K l x
end
def Gz:Nat->List V->T V->T V
 |_,[],t=>t
 |i,a::l,t=>Gz (i+1) l (T.put 20 t i a)
def EZ(nt:Nat):List Nat->List V->T V->Option (T V)
 |[],[],t=>zo t
 |p::ps,a::l,t=>bif ae p nt then EZ nt ps l (T.put 20 t p a)else zn
 |_,_,_=>zn
section
variable{β:Type}
def Ga(P:Program)(a:Dr)(ann:H0)(f:FuncId)(rec:IC):Nat->(β:Type)->Nat->Code->FrA->H->Nat->KA β->Option β
 |0,_,_,_,_,_,_,_=>zn
 |n+1,β,b,c,fr,h,nx,K=>match c with
  |.skip | .label _=>K .normal fr h nx
  |.seq x y=>match ann f (Sa x) nx with
   |some (.join j)=>
    let w:=AV j.pl0++AV j.pl1
    let kb:=C4 h nx j.kb
    bif fr.up.isSome || !Am fr.nt nx j.pl0 || !Am fr.nt nx j.pl1 || !j.keep.all (λk=>ae k 1048575)||(B1 x).any (λk=>j.keep.any (aa k)) || !Bc (A1 fr.t h j.pl0++kb) || !(kb++w).all (λi=>ae i nx) || !Hf h kb||kb.any (λi=>w.any (aa i))then zn else
    let q:=Be h kb
    let B:=GT h kb
    Ch fr.t h j.pl0 λs0=>
    jn (α:=Au j.pl0) (β:=β) (γ:=Nat×Au j.pl1×j.pay.den) (δ:=Au j.pl1) (λs=>
      match Ab (BV fr.t j.keep) (BU h DO kb) nx j.pl0 s with
      |(t1,h1,nx1)=>bif !ad nx1 1048575 then zn else Ga P a ann f rec n (LR (Au j.pl1) (Nat×Au j.pl1×j.pay.den)) nx1 x { fr with t:=t1 } h1 nx1 λe m h' _=>
       bif !aa m.ds.length fr.ds.length || !Fv h' B then zn else match e with
       |.normal=>bif Bc (A1 m.t h' j.pl1++kb)&&Fi h' q then Ch m.t h' j.pl1 λs'=>zo (.nx s')else zn
       |e=>bif Bc (A1 m.t h' j.pl1++kb)then HE h' (q.map (·.1)) e j.pay 0 j.ex λi p=>Ch m.t h' j.pl1 λs'=>zo (.dn (i,s',p))else zn) s0
     (λs=>match Ab (BV fr.t j.keep) (CZ (BU h (λb=>b) kb) q) nx j.pl1 s with
      |(t1,h1,nx1)=>bif !ad nx1 1048575 then zn else Ga P a ann f rec n β b y { fr with t:=t1 } h1 nx1 K)
     (λx=>L6 j.pay x.2.2 x.1 0 j.ex λe C=>match Ab (BV fr.t j.keep) (CZ (BU h (λb=>b) kb) C) nx j.pl1 x.2.1 with
      |(t1,h1,nx1)=>bif !ad nx1 1048575 then zn else K e { fr with t:=t1 } h1 nx1)
   |_=>Ga P a ann f rec n β b x fr h nx λe fr h nx=>match e with
    |.normal=>Ga P a ann f rec n β b y fr h nx K
    |e=>K e fr h nx
  |.cond c x y=>BI fr.t c λv=>match v with
   |.bool c=>br c (λ_=>Ga P a ann f rec n β b x fr h nx K) (λ_=>Ga P a ann f rec n β b y fr h nx K)
   |_=>zn
  |.block id x=>Ga P a ann f rec n β b x fr h nx λe fr h nx=>match e with
   |.exit j=>bif aa j id then K .normal fr h nx else K (.exit j) fr h nx
   |e=>K e fr h nx
  |.loop x=>match (match CV x with
    |some i=>ann f i nx
    |none=>zn)with
   |some (.loop tm)=>
    QX nx tm.rel h λh=>Rf nx tm.relS fr h λfr h=>
    let w:=AV tm.pl++AV tm.plx
    let kb:=C4 h nx tm.kb
    bif fr.up.isSome || !Am fr.nt nx tm.pl || !Am fr.nt nx tm.plx || !tm.keep.all (λk=>ae k 1048575)||(B1 x).any (λk=>tm.keep.any (aa k)) || !Bc (A1 fr.t h tm.pl++kb) || !(kb++w).all (λi=>ae i nx) || !Hf h kb||kb.any (λi=>(AV tm.plx).any (aa i))then zn else
    let q:=Be h kb
    let B:=GT h kb
    Ch fr.t h tm.pl λs0=>
    bd (Ut (α:=Au tm.pl) (β:=Nat×Au tm.plx×tm.pay.den) tm.st (λs=>
      match Ab (BV fr.t tm.keep) (BU h DO kb) nx tm.pl s with
      |(t1,h1,nx1)=>bif !ad nx1 1048575 then zn else Ga P a ann f rec n (LR (Au tm.pl) (Nat×Au tm.plx×tm.pay.den)) nx1 x { fr with t:=t1 } h1 nx1 λe m h' _=>
       bif !aa m.ds.length fr.ds.length || !Fv h' B then zn else match e with
       |.normal=>bif Bc (A1 m.t h' tm.pl++kb)&&Fi h' q then Ch m.t h' tm.pl λs'=>zo (.nx s')else zn
       |e=>bif Bc (A1 m.t h' tm.plx++kb)then HE h' (q.map (·.1)) e tm.pay 0 tm.ex λi p=>Ch m.t h' tm.plx λs'=>zo (.dn (i,s',p))else zn) s0) λx=>
    L6 tm.pay x.2.2 x.1 0 tm.ex λe C=>QL tm.plx x.2.1 λI J=>match Ab (BV fr.t tm.keep) (CZ (BU h (λb=>b) kb) C) nx I J with
    |(t1,h1,nx1)=>bif !ad nx1 1048575 then zn else K e { fr with t:=t1 } h1 nx1
   |_=>Ga P a ann f rec n β b x fr h nx λe fr h nx=>match e with
    |.normal=>Ga P a ann f rec n β b (.loop x) fr h nx K
    |e=>K e fr h nx
  |.scope x=>Ga P a ann f rec n β b x fr h nx λe fr h nx=>match e with
   |.goto _=>zn
   |e=>K e fr h nx
  |.exit id=>K (.exit id) fr h nx
  |.goto l=>K (.goto l) fr h nx
  |.ret=>K .ret fr h nx
  |.refuse _=>zn
  |.region _ ops draw=>bif !ad (nx+ops.size) 1048575 || !(ops.toList.all λo=>match o.dst with
    |some d=>ae d fr.nt
    |none=>zt)then zn else
    bif draw then(bif P.follows .mixedOrders || !Region.departs ops then MZ P a nx ops.toList fr h λfr h=>K .normal fr h (nx+ops.size)else zn)
    else Bp P a rec nx ops.toList (Hm 0 ops.toList) fr h (nx+ops.size) K
  |.rangeFunc g D A u=>bif !ad (nx+2) 1048575 then zn else BI fr.t g λv=>match v with
   |.fn g E F=>
    match (match fr.ro with
     |none=>zo (nx,[DFA.col nx],AG h nx (.df (zo [])))
     |some G=>(match h.get G with
      |some (.lp _ _ _ _ _ _ _ d0)=>zo (d0,[],h)
      |_=>zn))with
    |some (d,mark,h)=>FK P g E F [.yl (nx+1)] λr=>match r with
     |.call g args=>rec β (.fn g) zn args (AG h (nx+1) (.lp 0 zn fr.nt fr.t D.toList A u d)) (nx+2) λo _ h z=>match o with
      |.ret _=>(match h.get (nx+1)with
       |some (.lp st pend nt t D A u d)=>bif aa st 1 then zn else
        let h:=AG h (nx+1) (.lp 3 pend nt t D A u d)
        (match pend with
        |none=>K .normal { fr with ds:=mark++fr.ds } h z
        |some .ret=>K .ret { fr with ds:=mark++fr.ds } h z
        |some (.exit id)=>K (.exit id) { fr with ds:=mark++fr.ds } h z
        |some (.goto id)=>K (.goto id) { fr with ds:=mark++fr.ds } h z
        |_=>zn)
       |_=>zn)
      |_=>zn
     |_=>zn
    |none=>zn
   |_=>zn
def Jl(P:Program)(h:H)(t:T V):List ResultVar->(List V->Option β)->Option β
 |[],K=>K []
 |.tmp k::l,K=>CK (t.get k) λv=>Jl P h t l λvs=>K (v::vs)
 |.cell a ty::l,K=>match t.get a with
  |some (.ptr j off)=>match h.get j with
   |some (.box cs _ _)=>CK (EB P ty (cs.drop off)) λv=>Jl P h t l λvs=>K (v::vs)
   |_=>zn
  |_=>zn
def OD:UMA->UMA
 |.pan ({ v:=_,recovered:=zt }::_)=>.ret
 |u=>u
def EQ(P:Program)(rec:IC)(d:Func)(β:Type):Nat->List DFA->UMA->T V->H->Nat->(OutA->H->Nat->Option β)->Option β
 |0,_,_,_,_,_,_=>zn
 |n+1,ds,u,t,h,nx,K=>match ds with
  |[]=>match u with
   |.ret=>Jl P h t d.results.toList λvs=>K (.ret (match vs with
    |[v]=>v
    |vs=>.tup vs)) h nx
   |.pan e=>K (.pan e) h nx
  |.col id::ds=>match h.get id with
   |some (.df (zo l))=>EQ P rec d β n (l++ds) u t (AG h id (.df zn)) nx K
   |_=>zn
  |.bi b ats _ args::ds=>match b,args,ats[0]? with
   |.clear,[.mp j],zo ty=>(match P.underlying ty,h.get j with
    |some (.map _ _),zo (.mp k g c _ zf)=>EQ P rec d β n ds u t (AG h j (.mp k g c [] zf)) nx K
    |_,_=>zn)
   |_,_,_=>zn
  |.call f args::ds=>match f with
   |.fn (.func g) a b=>FK P (.func g) a b args λr=>match r with
    |.call g args=>rec β (.fn g) (zo u) args h nx λo up h nx=>match o,up with
     |.ret _,zo u=>EQ P rec d β n ds (OD u) t h nx K
     |_,_=>zn
    |_=>zn
   |_=>zn
def Cl(h:H)(nx:Nat)(l:Nat)(a:Option Code)(K:OutA->Option UMA->H->Nat->Option β):Option β:=match h.get l with
 |some (.lp _ _ nt t ps asg body d)=>K (.ret (.bool a.isNone)) zn (AG h l (.lp (match a with|none=>0|some _=>2) a nt t ps asg body d)) nx
 |_=>zn
def QO(P:Program):Pi.Pr->List V->H->(V->H->Option β)->Option β
 |.is same,args,h,K=>match args with
  |[.ifc u (.gk a),.ifc v (.gk b)]=>bif (aa u v&&aa a b)&&same.any (aa u)then K (.bool zt) h else zn
  |_=>zn
 |.as tt plain,args,h,K=>match args with
  |[.nili,_]=>K (.bool zf) h
  |[.ifc u a,.ifc pt (.ptr id off)]=>CK (Pi.SW tt pt) λT=>bif aa u T then(match a with
    |.agg [y]=>K5 P h T (.ptr id off) (.agg [y]) λh=>K (.bool zt) h
    |_=>zn)else bif plain.any (aa u)then K (.bool zf) h else zn
  |_=>zn
 |.kn b,args,h,K=>match args with
  |[]=>K (.bool b) h
  |_=>zn
 |.cmp,args,h,K=>match args with
  |[.str a,.str b]=>K (.int .i64 (Uu a b)) h
  |_=>zn
 |.srt g c F _,args,h,K=>match args with
  |[x,.fn (.func g') [] []]=>bif c.hasSl || !aa g g' then zn else(match x with
   |.nils=>K (.tup []) h
   |.ow j=>(match h.get j with
    |some (.row zt _ l ex zf zf)=>Cr l λl=>bd (F l) λl=>K (.tup []) (AG h j (.row zt c l ex zf zf))
    |_=>zn)
   |.own j off len=>(match h.get j with
    |some (.row zt _ l ex zf zf)=>Cr l λl=>gd (B2 (A0 off len) (AQ l)) λ_=>bd (F (DV l off (A0 off len))) λm=>K (.tup []) (AG h j (.row zt c (Ey l off m len) ex zf zf))
    |_=>zn)
   |_=>zn)
  |_=>zn
def NT(P:Program)(a:Dr)(ann:H0)(F:Nat):Nat->IC
 |0=>λ_ _ _ _ _ _ _=>zn
 |n+1=>λβ g up args h nx K=>match g with
  |.fn f=>match Pi.Gl.pr f with
   |some p=>(match up with
    |none=>QO P p args h λv h=>K (.ret v) zn h nx
    |some _=>zn)
   |none=>CK P.funcs[f]? λb=>CK b.body λc=>
   bif ad args.length b.ntmps&&ae b.ntmps 1048575 then
    Ga P a ann f (NT P a ann F n) F β nx c { t:=Gz 0 args .lf,nt:=b.ntmps,ds:=[],up,ro:=zn } h nx λe fr h nx=>match e with
     |.normal=>EQ P (NT P a ann F n) b β F fr.ds .ret fr.t h nx λo h nx=>K o fr.up h nx
     |.ret=>EQ P (NT P a ann F n) b β F fr.ds .ret fr.t h nx λo h nx=>K o fr.up h nx
     |.panic e=>EQ P (NT P a ann F n) b β F fr.ds (.pan [{ v:=e,recovered:=zf }]) fr.t h nx λo h nx=>K o fr.up h nx
     |_=>zn
   else zn
  |.yl l=>match h.get l with
   |some (.lp _ _ nt t ps asg body0 _)=>CK (EZ nt ps args t) λt=>
    Ga P a ann 0 (NT P a ann F n) F β nx asg { t,nt,ds:=[],up:=zn,ro:=zo l } h nx λe fr h nx=>match e with
     |.normal=>(match h.get l with
      |some (.lp 0 pend nt t ps asg body d)=>Ga P a ann 0 (NT P a ann F n) F β nx body0 fr (AG h l (.lp 1 pend nt t ps asg body d)) nx λe _ h nx=>match e with
        |.normal=>Cl h nx l zn K
        |.ret=>Cl h nx l (zo .ret) K
        |.exit id=>Cl h nx l (zo (.exit id)) K
        |.goto id=>Cl h nx l (zo (.goto id)) K
        |_=>zn
      |_=>zn)
     |_=>zn
   |_=>zn
def ND(P:Program)(b:Dr)(ann:H0)(F n:Nat)(f:FuncId)(dom a:List (Bool×Ty))(x:AO dom):Option (AO a):=
 NT P b ann F n (AO a) (.fn f) zn (Eb dom x) .lf 0 λo _ h _=>match o with
  |.ret v=>Bx h a (match a with
   |[_]=>[v]
   |_=>match v with
    |.tup vs=>vs
    |v=>[v]) zo
  |_=>zn
end
def Qe(P:Program)(a:Dr)(ann:H0)(F n:Nat)(f:FuncId)(dom:List (Bool×Ty))(g:Bool)(c:Ty)(x:AO dom):Option (List c.den):=
 NT P a ann F n (List c.den) (.fn f) zn (Eb dom x) .lf 0 λo _ h _=>match o with
  |.ret (.ow j)=>(match h.get j with
   |some (.row g' _ l zf zf _)=>bif g == g' then Cr l zo else zn
   |_=>zn)
  |_=>zn
def Qa(P:Program)(a:Dr)(ann:H0)(F n:Nat)(f:FuncId)(dom:List (Bool×Ty))(g:Bool)(c:Ty)(x:AO dom):Option (List c.den):=
 NT P a ann F n (List c.den) (.fn f) zn (Eb dom x) .lf 0 λo _ h _=>match o with
  |.ret v=>(match v with
   |.pl _ _ _=>Fu h zf (.sl g c) v zo
   |.nils=>Fu h zf (.sl g c) v zo
   |_=>zn)
  |_=>zn
def Qc(P:Program)(b:Dr)(ann:H0)(F n:Nat)(f:FuncId)(dom a:List (Bool×Ty))(x:AO dom):Option (AO a):=
 NT P b ann F n (AO a) (.fn f) zn (Qq dom (Eb dom x)) .lf 0 λo _ h _=>match o with
  |.ret v=>Bx h a (match a with
   |[_]=>[v]
   |_=>match v with
    |.tup vs=>vs
    |v=>[v]) zo
  |_=>zn
def NL:List (FuncId×Sg)->FuncId->Option Sg
 |[],_=>zn
 |(g,sg)::l,f=>bif aa f g then zo sg else NL l f
def Af(a:FuncId->Bool)(L:List (FuncId×Sg)):Dr:=λf=>bif a f then zo (NL L f)else zn
def R3:List (Nat×Nat×Nat×An)->H0
 |[],_,_,_=>zn
 |(a,b,c,tm)::l,f,i,nx=>bif aa f a&&(aa i b&&aa nx c)then zo tm else R3 l f i nx
end
section
variable[Pi.Gl]
open Pi (PV T Hp Blk DF UM PE)
inductive L2 {α β:Type} (R:α->β->Prop):List α->List β->Prop where
 |nil:L2 R [] []
 |cons {a:α} {b:β} {l:List α} {m:List β} (h:R a b) (t:L2 R l m):L2 R (a::l) (b::m)
namespace L2
variable{α β:Type}{R S:α->β->Prop}
theorem length{l:List α}{m:List β}(h:L2 R l m):l.length=m.length:=by
 induction h<;>simp_all
theorem mono{l:List α}{m:List β}(h:L2 R l m)(f:∀ a b,R a b->S a b):L2 S l m:=by
 induction h with
 |nil=>exact .nil
 |cons x _ ih=>exact .cons (f _ _ x) ih
theorem append{l l':List α}{m m':List β}(h:L2 R l m)(k:L2 R l' m'):L2 R (l++l') (m++m'):=by
 induction h with
 |nil=>exact k
 |cons x _ ih=>exact .cons x ih
theorem take{l:List α}{m:List β}(h:L2 R l m):∀ n,L2 R (l.take n) (m.take n):=by
 induction h with
 |nil=>intro n;simp;exact .nil
 |cons x _ ih=>intro n;cases n with
  |zero=>simp;exact .nil
  |succ n=>exact .cons x (ih n)
theorem drop{l:List α}{m:List β}(h:L2 R l m):∀ n,L2 R (l.drop n) (m.drop n):=by
 induction h with
 |nil=>intro n;simp;exact .nil
 |cons x t a=>intro n;cases n with
  |zero=>exact .cons x t
  |succ n=>exact a n
theorem get{l:List α}{m:List β}(h:L2 R l m):∀ {i:Nat} {a:α},l[i]?=zo a -> ∃ b,m[i]?=zo b/\R a b:=by
 induction h<;>grind
theorem set{l:List α}{m:List β}(h:L2 R l m):∀ (i:Nat) {a:α} {b:β},R a b->L2 R (l.set i a) (m.set i b):=by
 induction h with
 |nil=>intro i a b h;exact .nil
 |cons x t c=>intro i a b h;cases i with
  |zero=>exact .cons h t
  |succ i=>exact .cons x (c i h)
theorem replicate{a:α}{b:β}(h:R a b):∀ n,L2 R (aE n a) (aE n b)
 |0=>.nil
 |n+1=>.cons h (replicate h n)
theorem nil_inv{m:List β}(h:L2 R [] m):m=[]:=by cases h;rfl
theorem nil_inv'{l:List α}(h:L2 R l []):l=[]:=by cases h;rfl
theorem cons_inv{a:α}{l:List α}{m:List β}(h:L2 R (a::l) m):∃ b t,m=b::t/\R a b/\L2 R l t:=by
 cases h<;>grind
theorem split{l l':List α}{m:List β}(h:L2 R (l++l') m):∃ p q,m=p++q/\L2 R l p/\L2 R l' q:=by
 induction l generalizing m with
 |nil=>exact⟨[],m,rfl,.nil,h⟩
 |cons a l g=>
  obtain⟨b,t,rfl,c,d⟩:=cons_inv h;obtain⟨p,q,rfl,e,f⟩:=g d;exact⟨b::p,q,rfl,.cons c e,f⟩
end L2
def EP{α:Type}(g:Bool)(D:α->List PV->Prop)(x:α)(e:PV):Prop:=match g with
 |true=>∃ cs,e=.agg cs/\D x cs
 |false=>D x [e]
def DP:(c:Ty)->c.den->List PV->Prop
 |.int k,n,ps=>ps=[.int k n]
 |.bool,b,ps=>ps=[.bool b]
 |.str,s,ps=>ps=[.str s]
 |.unit,_,ps=>ps=[]
 |.pair a b,x,ps=>∃ p q,ps=p++q/\DP a x.1 p/\DP b x.2 q
 |.sl g c,l,ps=>∃ p,ps=[p]/\((p=.nils/\l=[]) \/ ∃ f es,p=.lst f es/\L2 (EP g (DP c)) l es)
def DR(h:Hp)(Q:Nat->Prop):(c:Ty)->c.den->List PV->Prop
 |.int k,n,ps=>ps=[.int k n]
 |.bool,b,ps=>ps=[.bool b]
 |.str,s,ps=>ps=[.str s]
 |.unit,_,ps=>ps=[]
 |.pair a b,x,ps=>∃ p q,ps=p++q/\DR h Q a x.1 p/\DR h Q b x.2 q
 |.sl g c,l,ps=>∃ p,ps=[p]/\((p=.nils/\l=[])\/(∃ f es,p=.lst f es/\L2 (EP g (DP c)) l es) \/
   ∃ pid off len es ex fz,p=.own pid off len/\Q pid/\h.get pid=zo (.row es ex fz)/\off+len<=es.length/\Pi.CT c.wd es=zt/\L2 (EP g (DR h Q c)) l ((es.drop off).take len))
theorem EP.mono{α:Type}{g:Bool}{D E:α->List PV->Prop}(f:∀ x a,D x a->E x a){x:α}{e:PV}(h:EP g D x e):EP g E x e:=by
 cases g with
 |true=>obtain⟨cs,b,c⟩:=h;exact⟨cs,b,f _ _ c⟩
 |false=>exact f _ _ h
theorem DP.up{h:Hp}{Q:Nat->Prop}:∀ {c:Ty} {x:c.den} {a:List PV},DP c x a->DR h Q c x a
 |.int _,_,_,e=>e
 |.bool,_,_,e=>e
 |.str,_,_,e=>e
 |.unit,_,_,e=>e
 |.pair _ _,_,_,⟨p,q,e,b,d⟩=>⟨p,q,e,DP.up b,DP.up d⟩
 |.sl _ _,_,_,⟨p,e,h⟩=>⟨p,e,h.elim .inl λh=>.inr (.inl h)⟩
def Rows(h h':Hp)(Q b:Nat->Prop):Prop:=∀ pid es ex fz,Q pid->h.get pid=zo (.row es ex fz)->(∃ a,h'.get pid=zo (.row es ex a))/\b pid
theorem DR.mono{h h':Hp}{Q g:Nat->Prop}(a:Rows h h' Q g):∀ {c:Ty} {x:c.den} {i:List PV},DR h Q c x i->DR h' g c x i
 |.int _,_,_,e=>e
 |.bool,_,_,e=>e
 |.str,_,_,e=>e
 |.unit,_,_,e=>e
 |.pair _ _,_,_,⟨p,q,e,d,f⟩=>⟨p,q,e,DR.mono a d,DR.mono a f⟩
 |.sl _ _,_,_,⟨p,e,h⟩=>⟨p,e,by
  rcases h with h|h|⟨pid,off,len,es,ex,fz,d,f,j,l,r,m⟩
  ·exact .inl h
  ·simp_all
  ·obtain⟨⟨b,n⟩,o⟩:=a _ _ _ _ f j
   exact .inr (.inr ⟨pid,off,len,es,ex,b,d,o,n,l,r,m.mono λ_ _ k=>k.mono λ_ _ k=>DR.mono a k⟩)⟩
inductive At where
 |blk (pid len:Nat)
 |nil
 |fz (es:List PV)
abbrev Mp:=Nat->Option At
def U1:Mp:=λ_=>zn
def D1:Hp:={ m:=.lf,nx:=0 }
structure Cx where
 π:Mp
 h:Hp
 O:Nat->Prop
def Cx.pure:Cx:={ π:=U1,h:=D1,O:=λ_=>True }
def Cx.Q(X:Cx)(pid:Nat):Prop:=¬ X.O pid
mutual
def VR(X:Cx):V->PV->Prop
 |.bool b,p=>p=.bool b
 |.int k n,p=>p=.int k n
 |.str s,p=>p=.str s
 |.nilp,p=>p=.nilp
 |.nils,p=>p=.nils
 |.nilm,p=>p=.nilm
 |.nilf,p=>p=.nilf
 |.nili,p=>p=.nili
 |.agg cs,p=>∃ d,p=.agg d/\VRL X cs d
 |.tup cs,p=>∃ d,p=.tup d/\VRL X cs d
 |.lf full g c l,p=>(p=.nils/\l=[])\/(∃ f es,p=.lst f es/\(full=zt->f=zt)/\L2 (EP g (DP c)) l es) \/
   ∃ pid off len es ex fz,p=.own pid off len/\(full=zt->ex=zt/\off+len=es.length)/\X.Q pid/\X.h.get pid=zo (.row es ex fz)/\off+len<=es.length/\Pi.CT c.wd es=zt/\L2 (EP g (DR X.h X.Q c)) l ((es.drop off).take len)
 |.pl g c l,p=>(p=.nils/\l=[]) \/ ∃ f es,p=.lst f es/\L2 (EP g (DP c)) l es
 |.exl full es,p=>∃ f d,p=.lst f d/\(full=zt->f=zt)/\VRL Cx.pure es d
 |.ow id,p=>match X.π id with
  |some (.blk pid len)=>p=.own pid 0 len
  |some .nil=>p=.nils
  |some (.fz es)=>p=.lst zt es
  |none=>False
 |.own id off len,p=>∃ pid n,X.π id=zo (.blk pid n)/\p=.own pid off len
 |.ptr id off,p=>∃ pid n,X.π id=zo (.blk pid n)/\p=.ptr pid off
 |.ept id i off,p=>∃ pid n,X.π id=zo (.blk pid n)/\p=.ept pid i off
 |.aptr id off k len,p=>∃ pid n,X.π id=zo (.blk pid n)/\p=.ptr pid (off+k)/\k<len
 |.view cs,p=>(∃ d,p=.view d/\VRL Cx.pure cs d) \/ ∃ pid i off es ex fz e,p=.ept pid i off/\X.Q pid/\X.h.get pid=zo (.row es ex fz)/\es[i]?=zo e/\VRL X cs (e.cells.drop off)
 |.pv cs,p=>∃ d,p=.view d/\VRL Cx.pure cs d
 |.fn f a b,p=>∃ j b',p=.fn f j b'/\VRL X a j/\VRL X b b'
 |.yl id,p=>∃ pid n,X.π id=zo (.blk pid n)/\p=.yl pid
 |.ifc t v,p=>∃ q,p=.ifc t q/\VR X v q
 |.mp id,p=>∃ pid n,X.π id=zo (.blk pid n)/\p=.mp pid
 |.gk n,p=>p=.gk n
 |.dd,p=>p=.nils\/(∃ f es,p=.lst f es) \/ ∃ a b c,p=.own a b c
def VRL(X:Cx):List V->List PV->Prop
 |[],ps=>ps=[]
 |v::vs,ps=>∃ p a,ps=p::a/\VR X v p/\VRL X vs a
end
structure Up (X Y:Cx):Prop where
 pi:∀ id a,X.π id=zo a->Y.π id=zo a
 rows:Rows X.h Y.h X.Q Y.Q
theorem Up.refl(X:Cx):Up X X:=⟨λ_ _ h=>h,λ_ _ _ _ h k=>⟨⟨_,k⟩,h⟩⟩
theorem Up.trans{X Y Z:Cx}(a:Up X Y)(b:Up Y Z):Up X Z:=⟨λid x h=>b.pi _ _ (a.pi _ _ h),λpid es ex fz h k=>by
 obtain⟨⟨c,d⟩,e⟩:=a.rows _ _ _ _ h k
 exact b.rows _ _ _ _ e d⟩
theorem Up.pure(X:Cx):Up Cx.pure X:=⟨λ_ _ h=>(by cases h),λ_ _ _ _ h=>absurd trivial h⟩
mutual
theorem VR.mono{X Y:Cx}(u:Up X Y):∀ {v:V} {p:PV},VR X v p->VR Y v p
 |.bool _,_,h | .int _ _,_,h | .str _,_,h | .nilp,_,h | .nils,_,h | .nilm,_,h | .nilf,_,h | .nili,_,h | .gk _,_,h | .dd,_,h=>by
  simp only[VR]at h ⊢;exact h
 |.agg cs,_,h=>by
  simp only[VR]at h ⊢;obtain⟨y,d,j⟩:=h;exact⟨y,d,VRL.mono u j⟩
 |.tup cs,_,h=>by
  simp only[VR]at h ⊢;obtain⟨y,d,j⟩:=h;exact⟨y,d,VRL.mono u j⟩
 |.lf full g c l,_,h=>by
  simp only[VR]at h ⊢;rcases h with h|h|⟨pid,off,len,es,ex,fz,d,B,j,o,r,C,s⟩
  ·exact .inl h
  ·simp_all
  ·obtain⟨⟨m,w⟩,x⟩:=u.rows _ _ _ _ j o;exact .inr (.inr ⟨pid,off,len,es,ex,m,d,B,x,w,r,C,s.mono λ_ _ k=>k.mono λ_ _ k=>DR.mono u.rows k⟩)
 |.exl full es,_,h=>by simp only[VR]at h ⊢;exact h
 |.pl _ _ _,_,h=>by simp only[VR]at h ⊢;exact h
 |.pv _,_,h=>by simp only[VR]at h ⊢;exact h
 |.ow id,p,h=>by
  simp only[VR]at h ⊢;cases z:X.π id with
  |none=>simp_all
  |some a=>rw[z]at h;rw[u.pi _ _ z];exact h
 |.own id off len,_,h=>by
  simp only[VR]at h ⊢;obtain⟨pid,n,d,j⟩:=h;exact⟨pid,n,u.pi _ _ d,j⟩
 |.ptr id off,_,h=>by
  simp only[VR]at h ⊢;obtain⟨pid,n,d,j⟩:=h;exact⟨pid,n,u.pi _ _ d,j⟩
 |.ept id i off,_,h=>by
  simp only[VR]at h ⊢;obtain⟨pid,n,d,j⟩:=h;exact⟨pid,n,u.pi _ _ d,j⟩
 |.aptr id off k len,_,h=>by
  simp only[VR]at h ⊢;obtain⟨pid,n,d,j⟩:=h;exact⟨pid,n,u.pi _ _ d,j⟩
 |.view cs,_,h=>by
  simp only[VR]at h ⊢;rcases h with h|⟨pid,i,off,es,ex,fz,e,d,j,o,r,s⟩
  ·exact .inl h
  ·obtain⟨⟨m,w⟩,x⟩:=u.rows _ _ _ _ j o;exact .inr ⟨pid,i,off,es,ex,m,e,d,x,w,r,VRL.mono u s⟩
 |.fn f a b,_,h=>by
  simp only[VR]at h ⊢;obtain⟨A,b',d,j,o⟩:=h;exact⟨A,b',d,VRL.mono u j,VRL.mono u o⟩
 |.yl id,_,h=>by
  simp only[VR]at h ⊢;obtain⟨pid,n,d,j⟩:=h;exact⟨pid,n,u.pi _ _ d,j⟩
 |.ifc t v,_,h=>by
  simp only[VR]at h ⊢;obtain⟨q,d,j⟩:=h;exact⟨q,d,VR.mono u j⟩
 |.mp id,_,h=>by
  simp only[VR]at h ⊢;obtain⟨pid,n,d,j⟩:=h;exact⟨pid,n,u.pi _ _ d,j⟩
theorem VRL.mono{X Y:Cx}(u:Up X Y):∀ {vs:List V} {a:List PV},VRL X vs a->VRL Y vs a
 |[],_,h=>by simp only[VRL]at h ⊢;exact h
 |v::vs,_,h=>by
  simp only[VRL]at h ⊢;obtain⟨p,e,b,c,d⟩:=h;exact⟨p,e,b,VR.mono u c,VRL.mono u d⟩
end
section
variable{X:Cx}
theorem VRL.nil:VRL X [] []:=by simp[VRL]
theorem VRL.cons{v:V}{p:PV}{vs:List V}{a:List PV}(h:VR X v p)(t:VRL X vs a):VRL X (v::vs) (p::a):=by
 grind [VRL]
theorem VRL.nil_inv{a:List PV}(h:VRL X [] a):a=[]:=by simpa[VRL]using h
theorem VRL.cons_inv{v:V}{vs:List V}{a:List PV}(h:VRL X (v::vs) a):∃ p b,a=p::b/\VR X v p/\VRL X vs b:=by simpa only[VRL]using h
theorem VRL.length:∀ {vs:List V} {a:List PV},VRL X vs a->vs.length=a.length
 |[],_,h=>by rw[h.nil_inv];rfl
 |v::vs,_,h=>by obtain⟨p,c,rfl,_,b⟩:=h.cons_inv;simp[b.length]
theorem VRL.append:∀ {vs c:List V} {b a:List PV},VRL X vs b->VRL X c a->VRL X (vs++c) (b++a)
 |[],_,_,_,h,k=>by rw[h.nil_inv];exact k
 |v::vs,_,_,_,h,k=>by obtain⟨p,a,rfl,d,e⟩:=h.cons_inv;exact .cons d (e.append k)
theorem VRL.take:∀ {vs:List V} {a:List PV} (_:VRL X vs a) (n:Nat),VRL X (vs.take n) (a.take n)
 |[],_,h,n=>by rw[h.nil_inv];simpa using VRL.nil
 |v::vs,_,h,0=>by rfl
 |v::vs,_,h,n+1=>by obtain⟨p,d,rfl,b,c⟩:=h.cons_inv;exact .cons b (c.take n)
theorem VRL.drop:∀ {vs:List V} {a:List PV} (_:VRL X vs a) (n:Nat),VRL X (vs.drop n) (a.drop n)
 |[],_,h,n=>by rw[h.nil_inv];simpa using VRL.nil
 |v::vs,_,h,0=>by grind
 |v::vs,_,h,n+1=>by obtain⟨p,d,rfl,c,b⟩:=h.cons_inv;exact b.drop n
theorem VRL.lget:∀ {vs:List V} {a:List PV} (_:VRL X vs a) {i:Nat} {v:V},Pi.lget vs i=zo v -> ∃ p,Pi.lget a i=zo p/\VR X v p
 |[],_,h,i,v,e=>by simp[Pi.lget]at e
 |w::vs,_,h,i,v,e=>by
  obtain⟨p,f,rfl,d,b⟩:=h.cons_inv;unfold Pi.lget at e ⊢;cases c:aa i 0 with
  |true=>simp_all
  |false=>rw[c]at e;simp only[zj]at e ⊢;exact b.lget e
theorem VRL.lset:∀ {vs:List V} {b:List PV} (_:VRL X vs b) (i:Nat) {v:V} {p:PV},VR X v p->VRL X (Pi.lset vs i v) (Pi.lset b i p)
 |[],_,h,i,v,p,_=>by rw[h.nil_inv];exact .nil
 |w::vs,_,h,i,v,p,hv=>by
  obtain⟨q,e,rfl,c,a⟩:=h.cons_inv;unfold Pi.lset;cases d:aa i 0 with
  |true=>exact .cons hv a
  |false=>exact .cons c (a.lset _ hv)
theorem VRL.fput{vs xs:List V}{a b:List PV}(h:VRL X vs a)(k:VRL X xs b)(off:Nat):VRL X (Gb vs off xs) (Pi.BH a off b):=by
 unfold Gb Pi.BH;rw[<- k.length];exact(h.take off).append (k.append (h.drop _))
theorem VRL.rep{v:V}{p:PV}(h:VR X v p):∀ n,VRL X (aE n v) (aE n p)
 |0=>.nil
 |n+1=>.cons h (VRL.rep h n)
theorem VR.cells{v:V}{p:PV}(h:VR X v p):VRL X v.cells p.cells:=by
 have d:∀ (v:V) (p:PV),VR X v p->v.cells=[v]->p.cells=[p]->VRL X v.cells p.cells:=by
  intro v p h m e;rw[m,e];exact .cons h .nil
 cases v with
 |bool b=>simp only[VR]at h;subst h;exact d _ _ (by simp[VR]) rfl rfl
 |int k n=>simp only[VR]at h;subst h;exact d _ _ (by simp[VR]) rfl rfl
 |str k=>simp only[VR]at h;subst h;exact d _ _ (by simp[VR]) rfl rfl
 |nilp=>simp only[VR]at h;subst h;exact d _ _ (by simp[VR]) rfl rfl
 |nils=>simp only[VR]at h;subst h;exact d _ _ (by simp[VR]) rfl rfl
 |nilm=>simp only[VR]at h;subst h;exact d _ _ (by simp[VR]) rfl rfl
 |nilf=>simp only[VR]at h;subst h;exact d _ _ (by simp[VR]) rfl rfl
 |nili=>simp only[VR]at h;subst h;exact d _ _ (by simp[VR]) rfl rfl
 |gk n=>simp only[VR]at h;subst h;exact d _ _ (by simp[VR]) rfl rfl
 |dd=>exact d _ _ h rfl (by simp only[VR]at h;rcases h with rfl|⟨_,_,rfl⟩|⟨_,_,_,rfl⟩<;>rfl)
 |agg cs=>simp only[VR]at h;obtain⟨j,rfl,e⟩:=h;exact e
 |tup cs=>simp only[VR]at h;obtain⟨j,rfl,e⟩:=h;exact .nil
 |lf f g c l=>
  refine d _ _ h rfl ?_;simp only[VR]at h;rcases h with⟨rfl,_⟩|⟨f,es,rfl,_⟩|⟨pid,off,len,es,ex,fz,rfl,_⟩<;>rfl
 |pl g c l=>
  refine d _ _ h rfl ?_;simp only[VR]at h;rcases h with⟨rfl,_⟩|⟨f,es,rfl,_⟩<;>rfl
 |pv cs=>refine d _ _ h rfl ?_;simp only[VR]at h;obtain⟨_,rfl,_⟩:=h;rfl
 |exl f es=>
  refine d _ _ h rfl ?_;simp only[VR]at h;obtain⟨f,j,rfl,_⟩:=h;rfl
 |own id off len=>refine d _ _ h rfl ?_;simp only[VR]at h;obtain⟨_,_,_,rfl⟩:=h;rfl
 |ptr id off=>refine d _ _ h rfl ?_;simp only[VR]at h;obtain⟨_,_,_,rfl⟩:=h;rfl
 |ept id i off=>refine d _ _ h rfl ?_;simp only[VR]at h;obtain⟨_,_,_,rfl⟩:=h;rfl
 |aptr id off k len=>refine d _ _ h rfl ?_;simp only[VR]at h;obtain⟨_,_,_,rfl,_⟩:=h;rfl
 |view cs=>
  refine d _ _ h rfl ?_;simp only[VR]at h;rcases h with⟨j,rfl,_⟩|⟨_,_,_,_,_,_,_,rfl,_⟩<;>rfl
 |fn f a b=>refine d _ _ h rfl ?_;simp only[VR]at h;obtain⟨_,_,rfl,_⟩:=h;rfl
 |yl id=>refine d _ _ h rfl ?_;simp only[VR]at h;obtain⟨_,_,_,rfl⟩:=h;rfl
 |ifc t v=>refine d _ _ h rfl ?_;simp only[VR]at h;obtain⟨_,rfl,_⟩:=h;rfl
 |mp id=>refine d _ _ h rfl ?_;simp only[VR]at h;obtain⟨_,_,_,rfl⟩:=h;rfl
 |ow id=>
  refine d _ _ h rfl ?_;simp only[VR]at h;split at h
  ·subst h;rfl
  ·subst h;rfl
  ·subst h;rfl
  simp_all
theorem VR.norm{v:V}{p:PV}(h:VR X v p):VR X v.norm p:=by
 cases v with
 |pl g c l=>
  grind [VR,V.norm]
 |pv cs=>
  simp_all[VR,V.norm]
 |_=>exact h
end
end
section
variable[Pi.Gl]
open Pi (PV T Hp Blk DF UM PE)
section
variable{β α:Type}
theorem AD{o:Option α}{K:α->Option β}{x:β}(e:CK o K=zo x):∃ y,o=zo y/\K y=zo x:=by
 cases o with
 |none=>cases e
 |some y=>exact⟨y,rfl,e⟩
theorem AI{c:Bool}{K:Unit->Option β}{x:β}(e:gd c K=zo x):c=zt/\K ()=zo x:=by
 cases c with
 |false=>cases e
 |true=>exact⟨rfl,e⟩
theorem BO{c:Bool}{a b:Unit->Option β}{x:β}(e:br c a b=zo x):(c=zt/\a ()=zo x)\/(c=zf/\b ()=zo x):=by
 cases c with
 |false=>exact .inr ⟨rfl,e⟩
 |true=>exact .inl ⟨rfl,e⟩
theorem Gf{l:List α}{i:Nat}{K:α->Option β}{x:β}(e:ix l i K=zo x):∃ y,l[i]?=zo y/\K y=zo x:=by
 grind [ix]
theorem Lp{n:Int}{K:Nat->Option β}{x:β}(e:S1 n K=zo x):0<=n/\K n.toNat=zo x:=by
 grind [S1]
theorem DZ{m:Option α}{K:α->Option β}{x:β}(e:bd m K=zo x):∃ y,m=zo y/\K y=zo x:=by
 cases m with
 |none=>cases e
 |some y=>exact⟨y,rfl,e⟩
theorem Ao{c a:Ty}{l:List c.den}{K:List a.den->Option β}{x:β}(e:Cr l K=zo x):∃ h:c=a,K (h ▸ l)=zo x:=by
 simp_all[Cr]
theorem BP{c:Bool}{a b:α}{x:α}(e:(bif c then a else b)=x):(c=zt/\a=x)\/(c=zf/\b=x):=by
 grind
theorem BE{c:Bool}{b:Option α}{x:α}(e:(bif c then zn else b)=zo x):c=zf/\b=zo x:=by
 grind
theorem AN{c:Bool}{a:Option α}{x:α}(e:(bif c then a else zn)=zo x):c=zt/\a=zo x:=by
 grind
end
section
variable{X:Cx}{β:Type}{x:β}
theorem Fq{v:Value}{a:V}(e:GP v=zo a):∃ p,Pi.C1 v=zo p/\VR X a p:=by
 unfold GP at e
 grind [Pi.C1,VR,VRL]
theorem El:∀ {vs:List Value} {b:List V},Dv vs=zo b -> ∃ c,Pi.cellsOf vs=zo c/\VRL X b c
 |[],b,e=>by cases e;exact⟨[],rfl,.nil⟩
 |v::l,b,e=>by
  unfold Dv at e;split at e
  ·rename_i a d f g;cases e;obtain⟨p,e1,h⟩:=Fq (X:=X) f;obtain⟨c,e2,i⟩:=El g;exact⟨p::c,by unfold Pi.cellsOf;rw[e1,e2],.cons h i⟩
  ·cases e
theorem Je{v:Value}{a:V}(e:Kg v=zo a):∃ p,Pi.D8 v=zo p/\VR X a p:=by
 unfold Kg at e;split at e
 ·rename_i cs;cases h:Dv cs.toList with
  |none=>simp_all
  |some d=>
   rw[h]at e;cases e;obtain⟨j,e2,b⟩:=El (X:=X) h
   simp_all[Pi.D8,VR]
 ·rename_i vs;replace e:=AN e;obtain⟨h,e⟩:=e;cases e
  simp_all[Pi.D8,VR,VRL]
 ·rename_i t v;split at e
  ·rename_i p c;cases e;obtain⟨q,e2,b⟩:=Fq (X:=X) c
   simp_all[Pi.D8,VR]
  ·cases e
 ·rename_i f g i;obtain⟨p,e2,b⟩:=Fq (X:=X) e
  simp_all[Pi.D8]
theorem Bj{P:Program}{t:TypeId}{b:List V}(e:CG P t=zo b):∃ a,Pi.zeroCells P t=zo a/\VRL X b a:=by
 unfold CG at e;split at e
 ·rename_i i hi;split at e
  ·rename_i z c;obtain⟨a,h,r⟩:=El (X:=X) e
   simp_all[Pi.zeroCells]
  ·cases e
 ·cases e
theorem GG{P:Program}{t:TypeId}{a:V}(e:DA P t=zo a):∃ p,Pi.Bw P t=zo p/\VR X a p:=by
 unfold DA at e;split at e
 ·rename_i i hi;split at e
  ·rename_i z b;obtain⟨c,h,r⟩:=Je (X:=X) e
   simp_all[Pi.Bw]
  ·cases e
 ·cases e
def TR(X:Cx)(t:T V)(a:T PV):Prop:=∀ k v,t.get k=zo v -> ∃ p,a.get k=zo p/\VR X v p
theorem TR.mono{Y:Cx}{t:T V}{a:T PV}(h:TR X t a)(u:Up X Y):TR Y t a:=λk v e=>by
 obtain⟨p,b,c⟩:=h k v e;exact⟨p,b,c.mono u⟩
theorem TR.put{t:T V}{a:T PV}(h:TR X t a){d:Nat}(c:d<1048575){v:V}{p:PV}(g:VR X v p):TR X (T.put 20 t d v) (T.put 20 a d p):=by
 have f:(2:Nat) ^ 20-1=1048575:=by decide
 intro k w e;rw[T.get_put 20 t d v k (by omega)]at e;rw[T.get_put 20 a d p k (by omega)];by_cases b:k=d
 ·simp_all
 ·rw[zx b]at e ⊢;exact h k w e
variable{t:T V}{tP:T PV}
theorem KK{X:Cx}:∀ {cs:List PV} {vs:List V},Po cs=zo vs->VRL X vs cs
 |[],vs,e=>by cases e;exact .nil
 |c::l,vs,e=>by
  unfold Po at e;split at e
  ·simp_all
  ·rename_i h;cases h;obtain⟨b,a,rfl⟩:=Pi.AA e;exact .cons (by simp[VR]) (KK a)
  ·rename_i h;cases h;obtain⟨b,a,rfl⟩:=Pi.AA e;exact .cons (by simp[VR]) (KK a)
  ·cases e
theorem AL(f:TR X t tP){o:Operand}{K:V->Option β}(e:BI t o K=zo x):∃ v p,K v=zo x/\Pi.CO tP o=zo p/\VR X v p:=by
 unfold BI at e;unfold Pi.CO;split at e
 ·obtain⟨v,a,b⟩:=AD e;obtain⟨p,c,d⟩:=f _ _ a
  grind
 ·obtain⟨v,a,b⟩:=AD e;obtain⟨p,c,d⟩:=Je (X:=X) a
  grind
 ·grind [VR,VRL]
 ·obtain⟨cs,a,e⟩:=AD e;obtain⟨vs,b,e⟩:=AD e;exact⟨_,.view cs,e,by simp_all,by simp only[VR];exact⟨cs,rfl,KK b⟩⟩
theorem GZ(b:TR X t tP):∀ {c:List Operand} {K:List V->Option β},Ob t c K=zo x -> ∃ vs a,K vs=zo x/\Pi.MK tP c=zo a/\VRL X vs a
 |[],K,e=>⟨[],[],e,rfl,.nil⟩
 |o::l,K,e=>by
  obtain⟨v,p,e1,d,g⟩:=AL b e;obtain⟨vs,a,e2,f,h⟩:=GZ b e1;exact⟨v::vs,p::a,e2,by unfold Pi.MK;rw[d,f],.cons g h⟩
def VRO(X:Cx):Option V->Option PV->Prop
 |none,o=>o=zn
 |some v,o=>∃ p,o=zo p/\VR X v p
theorem J9(b:TR X t tP){o:Option Operand}{K:Option V->Option β}(e:RB t o K=zo x):∃ v p,K v=zo x/\Pi.Pf tP o=zo p/\VRO X v p:=by
 cases o with
 |none=>exact⟨zn,zn,e,rfl,rfl⟩
 |some o=>
  obtain⟨v,p,e1,a,c⟩:=AL b e;exact⟨zo v,zo p,e1,by show(Pi.CO tP o).map zo=_;rw[a];rfl,p,rfl,c⟩
def Sq(X:Cx):List (Nat×V)->List (Nat×PV)->Prop:=L2 λa b=>a.1=b.1/\VR X a.2 b.2
theorem Ez(b:TR X t tP):∀ {c:List (Nat×Operand)} {K:List (Nat×V)->Option β},Gr t c K=zo x -> ∃ vs a,K vs=zo x/\Pi.CB tP c=zo a/\Sq X vs a
 |[],K,e=>⟨[],[],e,rfl,.nil⟩
 |(i,o)::l,K,e=>by
  obtain⟨v,p,e1,d,g⟩:=AL b e;obtain⟨vs,a,e2,f,h⟩:=Ez b e1;exact⟨(i,v)::vs,(i,p)::a,e2,by unfold Pi.CB;rw[d,f],.cons ⟨rfl,g⟩ h⟩
theorem C9{v:V}{p:PV}{K:Nat->Option β}(a:VR X v p)(e:Ir v K=zo x):∃ n,K n=zo x/\Pi.Fb p=zo n:=by
 unfold Ir at e;split at e
 ·simp only[VR]at a;subst a;obtain⟨b,c⟩:=Lp e
  simp_all[Pi.Fb]
 ·cases e
theorem Jb{v:V}{p:PV}{K:Nat->Option β}(a:VR X v p)(e:Kc v K=zo x):∃ n,K n=zo x/\Pi.E9 p=zo n:=by
 unfold Kc at e;split at e
 ·simp only[VR]at a;subst a;obtain⟨b,c⟩:=Lp e
  simp_all[Pi.E9]
 ·cases e
theorem A6{d:Nat}{v:Option V}{p:Option PV}{K:Nat->Option β}(a:VRO X v p)(e:CF d v K=zo x):∃ n,K n=zo x/\Pi.Ca d p=zo n:=by
 cases v with
 |none=>cases a;exact⟨d,e,rfl⟩
 |some v=>obtain⟨p,rfl,a⟩:=a;exact C9 a e
theorem RJ{c:BinOp}{k:IntKind}{a b:Int}{K:V -> Option β}(e:SK c k a b K=zo x):∃ v p,K v=zo x /\ Pi.Oz c k a b=zo p /\ VR X v p:=by
  cases c<;>simp only[SK]at e
  all_goals first
    |(exact⟨_,_,e,rfl,by rfl⟩)
    | (obtain ⟨d, f⟩ := AI e
       refine⟨_,_,f,?_,by simp only[VR];rfl⟩;have g:(b == 0)=zf:=by simpa[Sx]using d
       simp only[Pi.Oz,g,zj];rfl)
    |cases e
theorem Jr{c:BinOp}{k:IntKind}{a b:Int}{K:V -> Option β}(e:NG c k a b K=zo x):∃ v p,K v=zo x /\ Pi.HT c k a b=zo p /\ VR X v p:=by
  cases c<;>simp only[NG]at e
  all_goals first
    | (obtain ⟨d, f⟩ := AI e
       refine⟨_,_,f,?_,by simp only[VR];rfl⟩;have g:decide (b < 0)=zf:=by simpa[Sw]using d
       simp only[Pi.HT,g,zj];rfl)
    |cases e
theorem C0:∀ (a b:List UInt8),(Op.bytesLess a b||a == b) = !Op.bytesLess b a
 |[],[]=>rfl
 |[],_::_=>rfl
 |_::_,[]=>rfl
 |a::l,b::m=>by
  have c:=C0 l m
  grind [Op.bytesLess,UInt8.lt_iff_toNat_lt,beq_eq_false_iff_ne,decide_false]
theorem Rm{c:BinOp}{a b:List UInt8}{K:V -> Option β}(e:Si c a b K=zo x):∃ v p,K v=zo x /\ Pi.QQ c a b=zo p /\ VR X v p:=by
  cases c<;>simp only[Si]at e
  all_goals first
    |(refine⟨_,_,e,rfl,?_⟩;rfl)
    |(refine⟨_,_,e,rfl,?_⟩;simp only[VR];rw[C0];rfl)
    |(refine⟨_,_,e,rfl,?_⟩;simp_all[VR,C0,TZ])
    | (obtain ⟨d, f⟩ := AI e
       refine⟨_,_,f,?_,by simp only[VR];rfl⟩;simp only[B2,A0,NH]at d
       simp only[Pi.QQ,d,zb];rfl)
    |cases e
end
end
section
variable[Pi.Gl]
open Pi (PV T Hp Blk DF UM PE)
section
variable{X:Cx}{β:Type}{x:β}{P:Program}
theorem Bg{t:TypeId}{cs:List V}{a:List PV}{v:V}(h:VRL X cs a)(e:EB P t cs=zo v):∃ p,Pi.part P t a=zo p/\VR X v p:=by
 unfold EB at e;split at e
 ·rename_i n b c;replace e:=AN e;obtain⟨d,e⟩:=e;cases e;refine⟨.agg (a.take n),?_,by simp only[VR];exact⟨_,rfl,h.take n⟩⟩;unfold Pi.part;simp only[b,c];rw[<- h.length,d];rfl
 ·rename_i b c;split at e
  ·cases e;obtain⟨p,f,rfl,r,_⟩:=h.cons_inv
   simp_all[Pi.part]
  ·cases e
 ·cases e
theorem VR.agg_inv{cs:List V}{p:PV}(h:VR X (.agg cs) p):∃ a,p=.agg a/\VRL X cs a:=by simpa only[VR]using h
mutual
theorem HB:∀ (d:Nat) {t:TypeId} {a b:V} {c:Bool} {p q:PV},VR X a p->VR X b q->Q8 P d t a b=zo c->Pi.Nx P d t p q=zo c
 |0,_,_,_,_,_,_,_,_,e=>by simp[Q8]at e
 |d+1,t,a,b,c,p,q,f,g,e=>by
  unfold Q8 at e;unfold Pi.Nx;split at e
  all_goals (try simp only[*])
  ·split at e
   ·simp only[VR]at f g;subst f;subst g;exact e
   ·cases e
  ·split at e
   ·simp only[VR]at f g;subst f;subst g;exact e
   ·cases e
  ·split at e
   ·simp only[VR]at f g;subst f;subst g;exact e
   ·cases e
  ·split at e
   all_goals first
    |(simp only[VR]at f g;subst f;subst g;exact e)
    |(simp only[VR]at f g;obtain⟨_,_,_,rfl⟩:=f;subst g;exact e)
    |(simp only[VR]at f g;obtain⟨_,_,_,rfl⟩:=g;subst f;exact e)
    |(simp only[VR]at f g;subst f;rcases g with⟨_,rfl,_⟩|⟨_,_,_,_,_,_,_,rfl,_⟩<;>exact e)
    |(simp only[VR]at f g;subst g;rcases f with⟨_,rfl,_⟩|⟨_,_,_,_,_,_,_,rfl,_⟩<;>exact e)
    |(simp only[VR]at f g;subst f;obtain⟨_,rfl,_⟩:=g;exact e)
    |(simp only[VR]at f g;subst g;obtain⟨_,rfl,_⟩:=f;exact e)
    |cases e
  ·split at e
   ·simp_all[VR]
   ·grind [VR]
   ·grind [VR]
   ·grind [VR]
   ·grind [VR]
   ·grind [VR]
   ·grind [VR]
   ·grind [VR]
   ·grind [VR]
   ·cases e
  ·grind [VR]
  ·split at e
   ·simp_all[VR]
   ·grind [VR]
   ·grind [VR]
   ·simp only[VR]at f g;obtain⟨o,rfl,f⟩:=f;obtain⟨b',rfl,g⟩:=g;rcases BP e with⟨h,e⟩|⟨h,e⟩
    ·simp only[h,zb];split at e
     ·rename_i i hi;replace e:=AN e;obtain⟨l,e⟩:=e;simp only[hi,l,zb];exact HB d f g e
     ·cases e
    simp_all
   ·cases e
  ·split at e
   ·obtain⟨m,rfl,j⟩:=f.agg_inv;obtain⟨n,rfl,k⟩:=g.agg_inv;replace e:=BE e;obtain⟨h,e⟩:=e;simp only[h,zj];exact J6 d j k e
   ·cases e
  ·split at e
   ·obtain⟨m,rfl,j⟩:=f.agg_inv;obtain⟨n,rfl,k⟩:=g.agg_inv;replace e:=AN e;obtain⟨h,e⟩:=e;simp only[h,zb];exact NW d j k e
   ·cases e
theorem J6:∀ (d:Nat) {g:List Field} {a b:List V} {c:Bool} {p q:List PV},VRL X a p->VRL X b q->Me P d g a b=zo c->Pi.JA P d g p q=zo c
 |0,_,_,_,_,_,_,_,_,e=>by simp[Me]at e
 |d+1,[],_,_,_,_,_,_,_,e=>by simpa[Me,Pi.JA]using e
 |d+1,f::g,a,b,c,p,q,ha,hb,e=>by
  unfold Me at e;unfold Pi.JA;rcases BP e with⟨h,e⟩|⟨h,e⟩
  ·simp only[h,zb];exact J6 d ha hb e
  ·simp only[h,zj];split at e
   ·rename_i u v l m;obtain⟨s,j,n⟩:=Bg (ha.drop f.offset) l;obtain⟨t,k,o⟩:=Bg (hb.drop f.offset) m;split at e
    ·rename_i i r e1 e2;simp only[j,k,HB d n o e1];cases e;cases i with
     |true=>simpa[OM]using J6 d ha hb e2
     |false=>simp[OM]
    ·cases e
   ·cases e
theorem NW:∀ (d:Nat) {n:Nat} {t:TypeId} {a b:List V} {c:Bool} {p q:List PV},VRL X a p->VRL X b q->OX P d n t a b=zo c->Pi.Km P d n t p q=zo c
 |0,_,_,_,_,_,_,_,_,_,e=>by simp[OX]at e
 |d+1,0,_,_,_,_,_,_,_,_,e=>by simpa[OX,Pi.Km]using e
 |d+1,n+1,t,a,b,c,p,q,ha,hb,e=>by
  unfold OX at e;unfold Pi.Km;split at e
  ·rename_i s u v hs i j;obtain⟨o,g,k⟩:=Bg ha i;obtain⟨r,h,l⟩:=Bg hb j;split at e
   ·rename_i f m e1 e2;simp only[hs,g,h,HB d k l e1];cases e;cases f with
    |true=>simpa[OM]using NW d (ha.drop s) (hb.drop s) e2
    |false=>simp[OM]
   ·cases e
  ·cases e
end
theorem IV{a:BinOp}{c:Bool}{K:V->Option β}(e:(match a with
  |.eql=>K (.bool c)
  |.neq=>K (.bool (IG c))
  |_=>zn)=zo x) {o:Option Bool} (b:o=zo c):∃ v p,K v=zo x/\(match a with
  |.eql=>o.map .bool
  |.neq=>o.map λr=>.bool (!r)
  |_=>zn)=zo p/\VR X v p:=by
 subst b;cases a<;>simp only at e ⊢
 all_goals first
  |(exact⟨_,_,e,rfl,by simp[VR,IG]⟩)
  |cases e
theorem GC{c:BinOp}{ty:TypeId}{p q:PV}(e:∀ k n d m,¬(p=.int k n/\q=.int d m))(f:∀ a b,¬(p=.str a/\q=.str b)):Pi.I9 P c ty p q=(match c with
  |.eql=>(Pi.Nx P Pi.FD ty p q).map .bool
  |.neq=>(Pi.Nx P Pi.FD ty p q).map λr=>.bool (!r)
  |_=>zn):=by
 unfold Pi.I9
 grind
theorem VR.inv{v:V}{p:PV}(h:VR X v p):(∀ k n,p=.int k n->v=.int k n)/\(∀ l,p=.str l->v=.str l)/\(p=.nili->v=.nili)/\(∀ cs,p=.agg cs -> ∃ e,v=.agg e):=by
 cases v with
 |agg cs=>grind [VR]
 |ow id=>
  grind [VR]
 |lf f g c l=>
  grind [VR]
 |view cs=>
  grind [VR]
 |pl g c l=>grind [VR]
 |pv cs=>grind [VR]
 |tup cs=>grind [VR]
 |exl f cs=>grind [VR]
 |own a b c=>grind [VR]
 |ptr a b=>grind [VR]
 |ept a b c=>grind [VR]
 |aptr a b c d=>grind [VR]
 |fn a b c=>grind [VR]
 |yl a=>grind [VR]
 |mp a=>grind [VR]
 |ifc a b=>grind [VR]
 |dd=>grind [VR]
 |_=>simp only[VR]at h;grind
theorem A7{o:Option PV}{h:Hp}{p:PV}(e:o=zo p):Pi.vl o h=zo (.val p h):=by rw[e];rfl
theorem Q3{h:Hp}{w:BinOp}{ty:TypeId}{y z:Operand}{a b:V}{p q:PV}{K:V->Option β}(i:VR X a p)(j:VR X b q)(e:R8 P w ty y z a b K=zo x) :
  ∃ v r,K v=zo x/\Pi.Dd P h w ty y z p q=zo (.val r h)/\VR X v r:=by
 unfold R8 at e;split at e
 ·simp only[VR]at i j;subst i;subst j;split at e
  ·obtain⟨v,r,d,g,f⟩:=Jr (X:=X) e;exact⟨v,r,d,A7 (by simpa[Pi.I9]using g),f⟩
  ·obtain⟨v,r,d,g,f⟩:=Jr (X:=X) e;exact⟨v,r,d,A7 (by simpa[Pi.I9]using g),f⟩
  ·rename_i t u;replace e:=AN e;obtain⟨E,e⟩:=e;obtain⟨v,r,d,g,f⟩:=RJ (X:=X) e;refine⟨v,r,d,A7 ?_,f⟩
   simp_all[Pi.I9,zb]
 ·simp only[VR]at i j;subst i;subst j;obtain⟨v,r,d,g,f⟩:=Rm (X:=X) e;exact⟨v,r,d,A7 g,f⟩
 ·replace e:=AN e;obtain⟨hc,e⟩:=e;obtain⟨c,d,e⟩:=AD e;obtain⟨v,r,e1,g,f⟩:=IV (X:=X) e (HB 64 i j d);simp only[VR]at i j;subst i;subst j;refine⟨v,r,e1,?_,f⟩;unfold Pi.Dd;simp only[hc,zb];exact A7 (by rw[GC (by simp) (by simp)];exact g)
 ·rename_i C D;replace e:=BE e;obtain⟨hc,e⟩:=e;obtain⟨c,d,e⟩:=AD e;obtain⟨v,r,e1,g,f⟩:=IV (X:=X) e (HB 64 i j d);obtain⟨J,rfl,A⟩:=i.agg_inv;obtain⟨L,rfl,B⟩:=j.agg_inv;refine⟨v,r,e1,?_,f⟩;unfold Pi.Dd;simp only[hc,zj];exact A7 (by rw[GC (by simp) (by simp)];exact g)
 ·rename_i t u G I;obtain⟨c,d,e⟩:=AD e;obtain⟨v,r,e1,g,f⟩:=IV (X:=X) e (HB 64 i j d);refine⟨v,r,e1,?_,f⟩;have o:=i.inv;have s:=j.inv;unfold Pi.Dd;split
  ·simp_all
  ·grind
  ·refine A7 ?_;rw[GC (λk n F m hh=>t _ _ _ _ (o.1 _ _ hh.1) (s.1 _ _ hh.2)) (λl m hh=>u _ _ (o.2.1 _ hh.1) (s.2.1 _ hh.2))];exact g
theorem Sk{c:UnOp}{a:V}{p:PV}{K:V->Option β}(b:VR X a p)(e:Ui c a K=zo x):∃ v r,K v=zo x/\Pi.Tx c p=zo r/\VR X v r:=by
 unfold Ui at e;split at e
 ·simp only[VR]at b;subst b;split at e
  ·exact⟨_,_,e,rfl,by rfl⟩
  ·cases e
 ·simp only[VR]at b;subst b;split at e
  ·exact⟨_,_,e,rfl,by rfl⟩
  ·cases e
 ·cases e
theorem OE:∀ {es:List V} {a:List PV} {K:List UInt8->Option β},VRL Cx.pure es a->Ro es K=zo x -> ∃ l,K l=zo x/\Pi.Sj a=zo l
 |[],a,K,hv,e=>by
  simp only[VRL]at hv;subst hv;exact⟨[],e,rfl⟩
 |v::es,a,K,hv,e=>by
  unfold Ro at e;split at e
  ·simp_all
  ·rename_i n l h;cases h;obtain⟨p,d,rfl,b,c⟩:=hv.cons_inv;simp only[VR]at b;subst b;obtain⟨l,e1,e2⟩:=OE c e;exact⟨_,e1,by unfold Pi.Sj;rw[e2];rfl⟩
  ·cases e
theorem LK{h:Hp}{s d:TypeId}{a:V}{p:PV}{K:V->Option β}(b:VR X a p)(e:IN P s d a K=zo x):∃ v r,K v=zo x/\Pi.BJ P h s d p=zo (.val r h)/\VR X v r:=by
 unfold IN at e;unfold Pi.BJ;split at e
 ·grind [VR,Us]
 ·grind [VR]
 ·rename_i f es g j k;split at e
  ·rename_i m;simp only[VR]at b;obtain⟨i,n,rfl,_,c⟩:=b;obtain⟨l,e1,e2⟩:=OE c e;exact⟨_,.str l,e1,by simp_all,by simp[VR]⟩
  ·cases e
 ·cases e
theorem RG{h:Hp}{ty:TypeId}{a:V}{p:PV}{K:V->Option β}(b:VR X a p)(e:SI P ty a K=zo x):∃ v r,K v=zo x/\Pi.Ed P h ty p=zo (.val r h)/\VR X v r:=by
 grind [SI,Pi.Ed,VR]
theorem RU{h:Hp}{a:V}{p:PV}{K:V->Option β}(b:VR X a p)(e:SQ a K=zo x):∃ v r,K v=zo x/\Pi.Es h p=zo (.val r h)/\VR X v r:=by
 unfold SQ at e;split at e
 ·refine⟨_,p,e,?_,b⟩;simp only[VR]at b;obtain⟨_,rfl,_⟩:=b;rfl
 ·refine⟨_,p,e,?_,b⟩;simp only[VR]at b;obtain⟨_,_,_,rfl⟩:=b;rfl
 ·refine⟨_,p,e,?_,b⟩;simp only[VR]at b;obtain⟨_,_,_,rfl⟩:=b;rfl
 ·refine⟨_,p,e,?_,b⟩;simp only[VR]at b;rcases b with⟨_,rfl,_⟩|⟨_,_,_,_,_,_,_,rfl,_⟩<;>rfl
 ·refine⟨_,p,e,?_,b⟩;simp only[VR]at b;obtain⟨_,rfl,_⟩:=b;rfl
 ·refine⟨_,p,e,?_,b⟩;simp only[VR]at b;obtain⟨_,_,_,rfl⟩:=b;rfl
 ·refine⟨_,p,e,?_,b⟩;simp only[VR]at b;obtain⟨_,_,rfl,_⟩:=b;rfl
 ·cases e
theorem Od{h:Hp}{ty:TypeId}{a:V}{p:PV}{f:Nat}{K:V->Option β}(i:VR X a p)(e:Mm P ty a f K=zo x):∃ v r,K v=zo x/\Pi.B7 P h ty p f=zo (.val r h)/\VR X v r:=by
 unfold Mm at e;split at e
 ·rename_i j cs m;obtain⟨n,rfl,b⟩:=i.agg_inv;split at e
  ·rename_i c l;obtain⟨v,d,e⟩:=AD e;obtain⟨r,k,g⟩:=Bg (b.drop c.offset) d;exact⟨v,r,e,by simp_all[Pi.B7,A7],g⟩
  ·cases e
 ·cases e
end
end
section
variable[Pi.Gl]
open Pi (PV T Hp Blk DF UM PE)
def DFR(X:Cx):DFA->DF->Prop
 |.call f args,d=>∃ c a,d=.call c a/\VR X f c/\VRL X args a
 |.bi b ats ty args,d=>∃ a,d=.bi b ats ty a/\VRL X args a
 |.col id,d=>∃ pid n,X.π id=zo (.blk pid n)/\d=.col pid
theorem DFR.mono{X Y:Cx}(u:Up X Y):∀ {a:DFA} {d:DF},DFR X a d->DFR Y a d
 |.call _ _,_,⟨f,e,b,c,g⟩=>⟨f,e,b,c.mono u,g.mono u⟩
 |.bi _ _ _ _,_,⟨e,b,c⟩=>⟨e,b,c.mono u⟩
 |.col _,_,⟨pid,n,b,c⟩=>⟨pid,n,u.pi _ _ b,c⟩
def MR(X:Cx)(k:Ty)(g:Bool)(c:Ty)(u:k.den×c.den)(w:PV×PV):Prop:=DP k u.1 [w.1]/\EP g (DR X.h X.Q c) u.2 w.2
def BR(X:Cx):BA->Option At->Prop
 |.box cs fz _,a=>∃ pid n f b,a=zo (.blk pid n)/\X.O pid/\X.h.get pid=zo (.box f b)/\(fz=zf->b=zf)/\VRL X cs f
 |.row g c l ex fz _,a=>(∃ pid len es b,a=zo (.blk pid len)/\X.O pid/\X.h.get pid=zo (.row es ex b)/\(fz=zf->b=zf)/\es.length=len/\(ex=zf->0<len)/\L2 (EP g (DR X.h X.Q c)) l es) \/
   (a=zo .nil/\ex=zf/\l=[]) \/ ∃ es,a=zo (.fz es)/\ex=zf/\(fz=zt\/l=[])/\L2 (EP g (DP c)) l es
 |.mp k g c l _,a=>∃ pid n es,a=zo (.blk pid n)/\X.O pid/\X.h.get pid=zo (.mp es)/\L2 (MR X k g c) l es
 |.lp st pend nt t f asg body d,a=>∃ pid n j i m,a=zo (.blk pid n)/\X.O pid/\X.h.get pid=zo (.lp st pend nt j f asg body i)/\TR X t j/\X.π d=zo (.blk i m)/\nt<1048575
 |.df ds,a=>∃ pid n e,a=zo (.blk pid n)/\X.O pid/\X.h.get pid=zo (.df e)/\(match ds,e with
  |none,zn=>True
  |some l,zo m=>L2 (DFR X) l m
  |_,_=>False)
 |.dead,a=>∀ pid m,a=zo (.blk pid m)->X.O pid/\X.h.get pid=zo .dead
theorem EDR.mono{X Y:Cx}(u:Up X Y){g:Bool}{c:Ty}{l:List c.den}{es:List PV}(h:L2 (EP g (DR X.h X.Q c)) l es):L2 (EP g (DR Y.h Y.Q c)) l es:=
 h.mono λ_ _ k=>k.mono λ_ _ k=>DR.mono u.rows k
theorem BR.keep{X Y:Cx}(u:Up X Y){b:BA}{a:Option At}(h:BR X b a)(k:∀ pid n,a=zo (.blk pid n)->X.O pid->Y.h.get pid=X.h.get pid/\Y.O pid):BR Y b a:=by
 cases b with
 |box cs fz z=>
  obtain⟨pid,n,B,r,f,i,o,j,s⟩:=h;obtain⟨p,q⟩:=k _ _ f i;exact⟨pid,n,B,r,f,q,by rw[p,o],j,s.mono u⟩
 |row g c l ex fz z=>
  rcases h with⟨pid,len,es,r,f,i,o,j,s,E,x⟩|h|h
  ·obtain⟨p,q⟩:=k _ _ f i;exact .inl ⟨pid,len,es,r,f,q,by rw[p,o],j,s,E,EDR.mono u x⟩
  ·exact .inr (.inl h)
  ·exact .inr (.inr h)
 |mp I g c l z=>
  obtain⟨pid,n,es,f,i,o,j⟩:=h;obtain⟨p,q⟩:=k _ _ f i;exact⟨pid,n,es,f,q,by rw[p,o],j.mono λ_ _ m=>⟨m.1,m.2.mono λ_ _ k=>DR.mono u.rows k⟩⟩
 |lp J A nt t B C y d=>
  obtain⟨pid,n,F,D,m,f,i,o,j,s,x⟩:=h;obtain⟨p,q⟩:=k _ _ f i;exact⟨pid,n,F,D,m,f,q,by rw[p,o],j.mono u,u.pi _ _ s,x⟩
 |df G=>
  obtain⟨pid,n,w,f,i,o,j⟩:=h;obtain⟨p,q⟩:=k _ _ f i;refine⟨pid,n,w,f,q,by rw[p,o],?_⟩;split at j
  ·trivial
  ·exact j.mono λ_ _ m=>m.mono u
  omega
 |dead=>
  intro pid m e;obtain⟨f,i⟩:=h pid m e
  simp_all
def BA.live:BA->Prop
 |.dead=>False
 |_=>True
theorem BR.own{X:Cx}{b:BA}{pid n:Nat}(h:BR X b (zo (.blk pid n)))(m:b.live):X.O pid:=by
 cases b with
 |box cs fz i=>obtain⟨_,_,_,_,a,e,_⟩:=h;simp_all
 |row g c l ex fz i=>
  rcases h with⟨_,_,_,_,a,e,_⟩|⟨a,_⟩|⟨_,a,_⟩<;>simp_all
 |mp p g c l i=>obtain⟨_,_,_,a,e,_⟩:=h;simp_all
 |lp r j nt t q k f d=>obtain⟨_,_,_,_,_,a,e,_⟩:=h;simp_all
 |df o=>obtain⟨_,_,_,a,e,_⟩:=h;simp_all
 |dead=>exact m.elim
theorem BR.nd{X:Cx}{b:BA}{pid n:Nat}(h:BR X b (zo (.blk pid n)))(m:b.live):X.h.get pid≠zo .dead:=by
 cases b with
 |box cs fz i=>obtain⟨_,_,_,_,a,_,e,_⟩:=h;simp_all
 |row g c l ex fz i=>
  rcases h with⟨_,_,_,_,a,_,e,_⟩|⟨a,_⟩|⟨_,a,_⟩<;>simp_all
 |mp p g c l i=>obtain⟨_,_,_,a,_,e,_⟩:=h;simp_all
 |lp r j nt t q k f d=>obtain⟨_,_,_,_,_,a,_,e,_⟩:=h;simp_all
 |df o=>obtain⟨_,_,_,a,_,e,_⟩:=h;simp_all
 |dead=>exact m.elim
structure RH (X:Cx) (h:H) (n:Nat):Prop where
 blk:∀ id b,h.get id=zo b->BR X b (X.π id)
 inj:∀ id id' b b' pid m m',h.get id=zo b->h.get id'=zo b'->b.live->b'.live->X.π id=zo (.blk pid m)->X.π id'=zo (.blk pid m')->id=id'
 dom:∀ id a,X.π id=zo a->id<n
 fresh:∀ pid,X.h.nx<=pid->X.h.get pid=zn
 ob:∀ q,X.O q->X.h.get q≠zn
theorem AJ{h:H}{id:Nat}(a:id<1048575){b:BA}{k:Nat}:(AG h id b).get k=if k=id then zo b else h.get k:=by
 have c:(2:Nat) ^ 20-1=1048575:=by decide
 exact T.get_put 20 h id b k (by omega)
structure St (X:Cx) (h:H) (id idP:Nat) (Y:Cx) (h':H):Prop where
 up:Up X Y
 nx:Y.h.nx=X.h.nx
 pin:∀ j,j≠id->X.π j=zn->Y.π j=zn
 hpn:∀ q,q≠idP->X.h.get q=zn->Y.h.get q=zn
 lk:∀ j b,h.get j=zo b->b.locked=zt->h'.get j=zo b
 lps:∀ q st pe nt t ps asg body d,X.h.get q=zo (.lp st pe nt t ps asg body d)->Y.h.get q=zo (.lp st pe nt t ps asg body d)
theorem St.refl(X:Cx)(h:H)(id idP:Nat):St X h id idP X h:=⟨Up.refl X,rfl,λ_ _ h=>h,λ_ _ h=>h,λ_ _ h _=>h,λ_ _ _ _ _ _ _ _ _ h=>h⟩
theorem St.trans{X Y Z:Cx}{h h' h'':H}{id idP:Nat}(a:St X h id idP Y h')(b:St Y h' id idP Z h''):St X h id idP Z h'':=
 ⟨a.up.trans b.up,b.nx.trans a.nx,λj c k=>b.pin j c (a.pin j c k),λj c k=>b.hpn j c (a.hpn j c k),λj x k l=>b.lk j x (a.lk j x k l) l,
  λq m g nt t i f e d k=>b.lps _ _ _ _ _ _ _ _ _ (a.lps _ _ _ _ _ _ _ _ _ k)⟩
def DW{α:Type}(f:Nat->α)(i:Nat)(a:α):Nat->α:=λj=>if j=i then a else f j
section
variable{X:Cx}{h:H}{n:Nat}
theorem RH.set(r:RH X h n){id pid m:Nat}{b b':BA}{bP o:Blk}{f:Hp}(k:id<1048575)(p:h.get id=zo b)(y:b.live)(hk:b.locked=zf)(G:X.π id=zo (.blk pid m))(w:X.h.get pid=zo o)
  (hnl:∀ U P nt t S l g d,o ≠ .lp U P nt t S l g d)
  (e:X.h.set pid bP=zo f) (hb:∀ Y:Cx,Y.π=X.π->Y.h=f->Y.O=X.O->Up X Y->BR Y b' (X.π id)) (I:Nat) :
  ∃ Y:Cx,Y.π=X.π/\Y.h=f/\Y.O=X.O/\RH Y (AG h id b') n /\ ∀ i,St X h i I Y (AG h id b'):=by
 obtain⟨s,Z⟩:=Hp.get_set e;have hO:X.O pid:=(G ▸ r.blk _ _ p).own y
 let Y:Cx:={ π:=X.π,h:=f,O:=X.O }
 have u:Up X Y:=⟨λ_ _ h=>h,λq es ex fz c hg=>⟨⟨fz,by
  show f.get q=_
  rw[s,zx (by intro hh;subst hh;exact c hO),hg]⟩,c⟩⟩
 refine⟨Y,rfl,rfl,rfl,⟨λi B hi=> ?_,λi K B W q m1 m2 hi a M N=> ?_,r.dom,λq c=> ?_,λq c=>by
  show f.get q≠zn;rw[s];split
  ·simp
  ·exact r.ob _ c⟩,λi=>⟨u,Z,λ_ _ h=>h,λq c hn=> ?_,λj B hj hlk=> ?_,λq U P nt t S l g d c=> ?_⟩⟩
 ·rw[AJ k]at hi;by_cases x:i=id
  ·grind
  ·rw[zx x]at hi;by_cases z:B.live
   ·refine(r.blk _ _ hi).keep u λq m' c F=>⟨?_,F⟩;show f.get q=_;rw[s,zx];intro hh;subst hh;exact x (r.inj _ _ _ _ _ _ _ hi p z y c G)
   ·cases B with
    |dead=>
     intro q m' c;obtain⟨k1,L⟩:=r.blk _ _ hi q m' c;refine⟨k1,?_⟩;show f.get q=_;rw[s,zx]
     ·exact L
     ·intro hh;subst hh;exact(G ▸ r.blk _ _ p).nd y L
    |_=>exact absurd trivial z
 ·rw[AJ k]at hi a;by_cases J:i=id
  ·by_cases C:K=id
   ·omega
   ·rw[zx C]at a;subst J;intro D E;exact r.inj _ _ _ _ _ _ _ p a y N D E
  ·rw[zx J]at hi;by_cases C:K=id
   ·subst C;intro D E;exact r.inj _ _ _ _ _ _ _ hi p M y D E
   ·rw[zx C]at a;exact r.inj _ _ _ _ _ _ _ hi a M N
 ·show f.get q=zn;have A:X.h.nx<=q:=by grind
  rw[s,zx (by intro hh;subst hh;rw[r.fresh _ A]at w;cases w)];exact r.fresh _ A
 ·grind
 ·rw[AJ k]
  grind
 grind
theorem RH.new(r:RH X h n){id pid m:Nat}{b:BA}{bP:Blk}{B:Hp}(y:id<1048575)(hn:id<n)(hp:X.π id=zn)(hlt:pid<X.h.nx)
  (e:X.h.new pid bP=zo B) (hb:∀ Y:Cx,Y.π=Sv.DW X.π id (zo (.blk pid m))->Y.h=B->(∀ q,Y.O q<->X.O q\/q=pid)->Up X Y->BR Y b (zo (.blk pid m))) :
  ∃ Y:Cx,Y.π=Sv.DW X.π id (zo (.blk pid m))/\Y.h=B/\RH Y (AG h id b) n/\St X h id pid Y (AG h id b):=by
 obtain⟨g0,W,g2⟩:=Hp.get_new e
 let Y:Cx:={ π:=Sv.DW X.π id (zo (.blk pid m)),h:=B,O:=λq=>X.O q\/q=pid }
 have s:∀ j,j≠id->Y.π j=X.π j:=λj z=>zx z;have hpi0:Y.π id=zo (.blk pid m):=zy rfl
 have u:Up X Y:=⟨λj a z=>by
  grind,λq es ex fz hq w=>by
  have K:q≠pid:=by grind
  exact⟨⟨fz,by grind⟩,λhO=>hO.elim hq K⟩⟩
 have A:h.get id=zn \/ ∃ f,h.get id=zo f /\ ¬ f.live:=by
  cases w:h.get id with
  |none=>grind
  |some f=>
   refine .inr ⟨f,rfl,λD=> ?_⟩;have:=r.blk _ _ w;rw[hp]at this;cases f<;>first|exact D|(simp[BR]at this)
 have P:∀ {i:Nat} {f:BA} {N:Nat},h.get i=zo f->f.live->X.π i=zo (.blk pid N)->False:=by
  intro i f N w D L;have:=r.blk _ _ w;rw[L]at this;cases f with
  |dead=>exact D
  |box cs fz lk=>obtain⟨_,_,_,_,o,_,E,_⟩:=this;simp_all
  |row g c l ex fz lk=>
   rcases this with⟨_,_,_,_,o,_,E,_⟩|⟨o,_⟩|⟨_,o,_⟩<;>simp_all
  |mp kk g c l lk=>obtain⟨_,_,_,o,_,E,_⟩:=this;simp_all
  |lp st pend nt t ps F C d=>obtain⟨_,_,_,_,_,o,_,E,_⟩:=this;simp_all
  |df ds=>obtain⟨_,_,_,o,_,E,_⟩:=this;simp_all
 refine⟨Y,rfl,rfl,⟨λi f hi=> ?_,λi i' f bb' q N m2 hi x l1 l2 S U=> ?_,λi a hi=> ?_,λq hq=> ?_,λq hq=>by
  show B.get q≠zn;rw[W];split
  ·simp
  ·rcases hq with hq|hq
   ·exact r.ob _ hq
   omega⟩,⟨u,g2,λj z k=>by simp_all,λq hq hn=> ?_,λj f z I=> ?_,λq st pe nt t ps F C d hq=> ?_⟩⟩
 ·rw[AJ y]at hi;by_cases p:i=id
  ·grind
  ·rw[zx p]at hi;rw[s i p];by_cases J:f.live
   ·refine(r.blk _ _ hi).keep u λq m' hq G=>⟨?_,.inl G⟩<;>grind
   ·cases f with
    |dead=>
     intro q m' hq;obtain⟨k1,k2⟩:=r.blk _ _ hi q m' hq
     grind
    |_=>exact absurd trivial J
 ·rw[AJ y]at hi x;by_cases o:i=id
  ·grind
  ·rw[zx o]at hi;by_cases Z:i'=id
   ·simp_all
   ·rw[zx Z]at x;rw[s _ o]at S;rw[s _ Z]at U;exact r.inj _ _ _ _ _ _ _ hi x l1 l2 S U
 ·by_cases p:i=id
  ·omega
  ·rw[s i p]at hi;exact r.dom _ _ hi
 ·show B.get q=zn;have M:X.h.nx<=q:=by grind
  rw[W,zx (by omega)];exact r.fresh _ M
 ·grind
 ·rw[AJ y,zx]
  ·exact z
  ·intro hh;subst hh;rcases A with w|⟨b0,w,D⟩
   ·simp_all
   ·rw[w]at z;cases z;cases f with
    |dead=>cases I
    |_=>exact absurd trivial D
 grind
end
end
section
variable[Pi.Gl]
open Pi (PV T Hp Blk DF UM PE)
section
variable{X:Cx}{h:H}{n:Nat}
theorem RH.alias(r:RH X h n){id:Nat}{b:BA}{a:At}(o:id<1048575)(F:id<n)(L:X.π id=zn)(P:∀ pid m,a ≠ .blk pid m)(S:∀ Y:Cx,Up X Y->BR Y b (zo a))(D:Nat) :
  ∃ Y:Cx,Y.π=Sv.DW X.π id (zo a)/\Y.h=X.h/\RH Y (AG h id b) n/\St X h id D Y (AG h id b):=by
 let Y:Cx:={ π:=Sv.DW X.π id (zo a),h:=X.h,O:=X.O }
 have f:∀ j,j≠id->Y.π j=X.π j:=λj s=>zx s;have G:Y.π id=zo a:=zy rfl
 have u:Up X Y:=⟨λj a s=>by
  grind,λq es ex fz w B=>⟨⟨fz,B⟩,w⟩⟩
 have p:∀ g,h.get id=zo g -> ¬ g.live:=λg B K=>by
  have:=r.blk _ _ B;rw[L]at this;cases g<;>first|exact K|(simp[BR]at this)
 refine⟨Y,rfl,rfl,⟨λi g hi=> ?_,λi U g J q W Z hi l M N x y=> ?_,λi a hi=> ?_,r.fresh,r.ob⟩,⟨u,rfl,λj s k=>by simp_all,λq w F=>F,λj g s C=> ?_,λq st pe nt t ps I E d w=>w⟩⟩
 ·rw[AJ o]at hi;by_cases c:i=id
  ·simp_all
  ·rw[zx c]at hi;rw[f i c];exact(r.blk _ _ hi).keep u λq m' w A=>⟨rfl,A⟩
 ·rw[AJ o]at hi l
  have z:∀ {i:Nat} {q m:Nat},Y.π i=zo (.blk q m)->i≠id:=λhh e=>by
   simp_all
  rw[zx (z x)]at hi;rw[zx (z y)]at l;rw[f _ (z x)]at x;rw[f _ (z y)]at y;exact r.inj _ _ _ _ _ _ _ hi l M N x y
 ·by_cases c:i=id
  ·omega
  ·rw[f i c]at hi;exact r.dom _ _ hi
 ·rw[AJ o,zx]
  ·exact s
  ·intro hh;subst hh;have:=p _ s;cases g<;>first|exact absurd trivial this|cases C
theorem RH.reput(r:RH X h n){id:Nat}(a:id<1048575){c d:BA}(hc:h.get id=zo c)(z:c.live)(w:BR X d (X.π id)):RH X (AG h id d) n:=by
 refine⟨λi e hi=> ?_,λi y b f p m m' hi g t u=> ?_,r.dom,r.fresh,r.ob⟩
 ·rw[AJ a]at hi;by_cases j:i=id
  ·simp_all
  ·rw[zx j]at hi;exact r.blk _ _ hi
 ·have k:∀ {i:Nat} {b:BA},(AG h id d).get i=zo b->b.live -> ∃ f,h.get i=zo f/\f.live:=fun {i b} hi x=>by
   rw[AJ a]at hi
   grind
  obtain⟨e1,l,q⟩:=k hi t;obtain⟨e2,o,s⟩:=k g u;exact r.inj _ _ _ _ _ _ _ l o q s
theorem St.put{id:Nat}(a:id<1048575){c d:BA}(hc:h.get id=zo c)(k:c.locked=zf)(i f:Nat):St X h i f X (AG h id d):=by
 refine⟨Up.refl X,rfl,λ_ _ h=>h,λ_ _ h=>h,λj b g l=> ?_,λ_ _ _ _ _ _ _ _ _ h=>h⟩;rw[AJ a,zx (λe=>by simp_all)];exact g
theorem RH.dead(r:RH X h n){j:Nat}{b:BA}(f:j<1048575)(C:h.get j=zo b)(D:b.locked=zf)(k:∀ pid m,X.π j≠zo (.blk pid m))(l:Nat):RH X (AG h j .dead) n /\ ∀ i,St X h i l X (AG h j .dead):=by
 refine⟨⟨λi c hi=> ?_,λi E c y q F G hi g p s u w=> ?_,r.dom,r.fresh,r.ob⟩,λi=>⟨Up.refl X,rfl,λ_ _ h=>h,λ_ _ h=>h,λi c hi A=> ?_,λq K I nt t J x o d B=>B⟩⟩
 ·rw[AJ f]at hi;by_cases a:i=j
  ·rw[zy a]at hi;cases hi;subst a;exact λpid m e=>absurd e (k _ _)
  ·rw[zx a]at hi;exact r.blk _ _ hi
 ·rw[AJ f]at hi g
  have nd:∀ {i:Nat} {c:BA},(if i=j then zo BA.dead else h.get i)=zo c->c.live->h.get i=zo c:=fun {i c} e z=>by
   by_cases a:i=j
   ·rw[zy a]at e;cases e;exact z.elim
   simp_all
  exact r.inj _ _ _ _ _ _ _ (nd hi p) (nd g s) p s u w
 ·rw[AJ f,zx]
  all_goals grind
end
def DX(h:Hp)(Q d:Nat->Prop):(c:Ty)->c.den->List PV->Prop
 |.int k,n,ps=>ps=[.int k n]
 |.bool,b,ps=>ps=[.bool b]
 |.str,s,ps=>ps=[.str s]
 |.unit,_,ps=>ps=[]
 |.pair a b,x,ps=>∃ p q,ps=p++q/\DX h Q d a x.1 p/\DX h Q d b x.2 q
 |.sl g c,l,ps=>∃ p,ps=[p]/\((p=.nils/\l=[])\/(∃ f es,p=.lst f es/\L2 (EP g (DP c)) l es) \/
   ∃ pid off len es ex fz,p=.own pid off len/\Q pid/\h.get pid=zo (.row es ex fz)/\off+len<=es.length/\Pi.CT c.wd es=zt/\L2 (EP g (DR h d c)) l ((es.drop off).take len))
theorem DX.same{h:Hp}{Q:Nat->Prop}:∀ {c:Ty} {x:c.den} {a:List PV},DX h Q Q c x a->DR h Q c x a
 |.int _,_,_,e=>e
 |.bool,_,_,e=>e
 |.str,_,_,e=>e
 |.unit,_,_,e=>e
 |.pair _ _,_,_,⟨p,q,e,b,d⟩=>⟨p,q,e,DX.same b,DX.same d⟩
 |.sl _ _,_,_,h=>h
theorem DR.pure{Q:Nat->Prop}:∀ {c:Ty} {x:c.den} {d:List PV},DR D1 Q c x d->DP c x d
 |.int _,_,_,e=>e
 |.bool,_,_,e=>e
 |.str,_,_,e=>e
 |.unit,_,_,e=>e
 |.pair _ _,_,_,⟨p,q,e,a,b⟩=>⟨p,q,e,DR.pure a,DR.pure b⟩
 |.sl _ _,_,_,⟨p,e,h⟩=>⟨p,e,by
  rcases h with h|h|⟨pid,off,len,es,ex,fz,a,b,f,g,i⟩
  ·exact .inl h
  ·exact .inr h
  ·cases f⟩
theorem DX.pure{Q f:Nat->Prop}:∀ {c:Ty} {x:c.den} {d:List PV},DX D1 Q f c x d->DP c x d
 |.int _,_,_,e=>e
 |.bool,_,_,e=>e
 |.str,_,_,e=>e
 |.unit,_,_,e=>e
 |.pair _ _,_,_,⟨p,q,e,a,b⟩=>⟨p,q,e,DX.pure a,DX.pure b⟩
 |.sl _ _,_,_,⟨p,e,h⟩=>⟨p,e,by
  rcases h with h|h|⟨pid,off,len,es,ex,fz,a,b,g,i,j⟩
  ·exact .inl h
  ·exact .inr h
  ·cases g⟩
theorem DR.leaf:∀ {hh:Hp} {Q:Nat->Prop} {c:Ty} {y:c.den} {d:List PV},DR hh Q c y d -> ∀ p∈d,(∀ cs,p ≠ .agg cs)/\(∀ cs,p ≠ .tup cs)/\p.cells=[p]
 |_,_,.int _,_,_,e,p,hp=>by subst e;simp at hp;subst hp;simp[PV.cells]
 |_,_,.bool,_,_,e,p,hp=>by subst e;simp at hp;subst hp;simp[PV.cells]
 |_,_,.str,_,_,e,p,hp=>by subst e;simp at hp;subst hp;simp[PV.cells]
 |_,_,.unit,_,_,e,p,hp=>by subst e;simp at hp
 |_,_,.pair _ _,_,_,⟨a,b,e,f,g⟩,p,hp=>by
  subst e;rcases List.mem_append.1 hp with hp|hp
  ·exact f.leaf p hp
  ·exact g.leaf p hp
 |_,_,.sl _ _,_,_,⟨a,e,h⟩,p,hp=>by
  grind [PV.cells]
theorem EP.cells{g:Bool}{hh:Hp}{Q:Nat->Prop}{c:Ty}{y:c.den}{e:PV}(h:EP g (DR hh Q c) y e):DR hh Q c y e.cells:=by
 cases g with
 |true=>obtain⟨cs,rfl,h⟩:=h;exact h
 |false=>
  have h':DR hh Q c y [e]:=h;rw[(h'.leaf e (by simp)).2.2];exact h'
theorem DR.wd:∀ {hh:Hp} {Q:Nat->Prop} {c:Ty} {y:c.den} {d:List PV},DR hh Q c y d->d.length=c.wd
 |_,_,.int _,_,_,e=>by subst e;rfl
 |_,_,.bool,_,_,e=>by subst e;rfl
 |_,_,.str,_,_,e=>by subst e;rfl
 |_,_,.unit,_,_,e=>by subst e;rfl
 |_,_,.pair _ _,_,_,⟨a,b,e,f,g⟩=>by subst e;rw[List.length_append,f.wd,g.wd];rfl
 |_,_,.sl _ _,_,_,⟨a,e,h⟩=>by subst e;rfl
theorem EP.wd{g:Bool}{hh:Hp}{Q:Nat->Prop}{c:Ty}{y:c.den}{e:PV}(h:EP g (DR hh Q c) y e):e.cells.length=c.wd:=h.cells.wd
theorem Ar{g:Bool}{hh:Hp}{Q:Nat->Prop}{c:Ty}{l:List c.den}{es:List PV}{b:Nat}(hs:b=c.wd)(h:L2 (EP g (DR hh Q c)) l es):Pi.CT b es=zt:=by
 cases h with
 |nil=>rfl
 |cons a _=>simp only[Pi.CT,a.wd];simp[hs]
theorem EP.agg_inv{α:Type}{D:α->List PV->Prop}{x:α}{e:PV}(h:EP zt D x e):∃ cs,e=.agg cs/\D x cs:=h
section
variable{β:Type}{x:β}
theorem LM{α:Type}{d:V->(α->Option β)->Option β}{X:Cx}{R:α->PV->Prop}(b:∀ {v:V} {p:PV} {K:α->Option β},VR X v p->d v K=zo x -> ∃ y,K y=zo x/\R y p) :
  ∀ {vs:List V} {c:List PV} {K:List α->Option β},VRL X vs c->PQ d vs K=zo x -> ∃ a,K a=zo x/\L2 R a c
 |[],_,K,h,e=>by rw[h.nil_inv];exact⟨[],e,.nil⟩
 |v::vs,_,K,h,e=>by
  obtain⟨p,k,rfl,f,g⟩:=h.cons_inv;obtain⟨y,e1,i⟩:=b f e;obtain⟨a,e2,j⟩:=LM b g e1;exact⟨y::a,e2,.cons i j⟩
theorem KY{α:Type}{R:α->PV->Prop}{l:List α}{es:List PV}(h:L2 R l es)(off len:Nat):L2 R (DV l off (A0 off len)) ((es.drop off).take len):=by
 unfold DV A0;rw[show off+len-off=len from by omega];exact(h.drop off).take len
theorem Hl:∀ (a b:List V),Fa (a++b)=Fa a++Fa b
 |[],b=>rfl
 |v::a,b=>by
  have c:=Hl a b;cases v<;>simp[Fa,c]
theorem Pq{id:Nat}{v:V}(h:id∈Fa [v]):id∈Fa v.cells:=by
 cases v<;>first|exact h|(simp[Fa]at h)
theorem C8:∀ {c:Ty} {X:Cx} {h:H} {Q:Nat->Prop} {vs:List V} {w:List PV} {K:c.den->List V->Option β},
  (∀ id b a,h.get id=zo b->X.π id=zo a->BR X b (zo a))->(∀ id b pid m,id∈Fa vs->h.get id=zo b->X.π id=zo (.blk pid m)->Q pid)->(∀ pid,X.Q pid->Q pid) ->
  VRL X vs w->Dx h c vs K=zo x -> ∃ y r p q,K y r=zo x/\w=p++q/\DX X.h Q X.Q c y p/\VRL X r q /\ ∃ s,vs=s++r
 |.int k,X,h,Q,vs,w,K,hb,hq,hQ,i,e=>by
  unfold Dx at e;split at e
  ·replace e:=AN e;obtain⟨hk,e⟩:=e;obtain⟨p,o,rfl,d,j⟩:=i.cons_inv;simp only[VR]at d;subst d;have:=eq_of_beq hk;subst this;exact⟨_,_,[_],o,e,rfl,rfl,j,[_],rfl⟩
  ·cases e
 |.bool,X,h,Q,vs,w,K,hb,hq,hQ,i,e=>by
  unfold Dx at e;split at e
  ·obtain⟨p,o,rfl,d,j⟩:=i.cons_inv;simp only[VR]at d;subst d;exact⟨_,_,[_],o,e,rfl,rfl,j,[_],rfl⟩
  ·cases e
 |.str,X,h,Q,vs,w,K,hb,hq,hQ,i,e=>by
  unfold Dx at e;split at e
  ·obtain⟨p,o,rfl,d,j⟩:=i.cons_inv;simp only[VR]at d;subst d;exact⟨_,_,[_],o,e,rfl,rfl,j,[_],rfl⟩
  ·cases e
 |.unit,X,h,Q,vs,w,K,hb,hq,hQ,i,e=>by
  unfold Dx at e;exact⟨(),vs,[],w,e,rfl,rfl,i,[],rfl⟩
 |.pair a b,X,h,Q,vs,w,K,hb,hq,hQ,i,e=>by
  unfold Dx at e;obtain⟨y,r,p,q,e1,rfl,D,C,s1,rfl⟩:=C8 hb hq hQ i e;obtain⟨z,r',S,q',e2,rfl,U,r2,s2,rfl⟩:=C8 hb (λid b pid m hi=>hq id b pid m (by simp_all[Hl])) hQ C e1;exact⟨(y,z),r',p++S,q',e2,by simp,⟨p,S,rfl,D,U⟩,r2,s1++s2,by simp⟩
 |.sl g c,X,h,Q,vs,w,K,hb,hq,hQ,i,e=>by
  unfold Dx at e;split at e
  ·obtain⟨p,o,rfl,d,j⟩:=i.cons_inv;simp only[VR]at d;subst d;exact⟨[],_,[_],o,e,rfl,⟨_,rfl,.inl ⟨rfl,rfl⟩⟩,j,[_],rfl⟩
  ·rename_i J I l r;replace e:=AN e;obtain⟨u,e⟩:=e;have:=eq_of_beq u;subst this;obtain⟨hc,e⟩:=Ao e;subst hc;obtain⟨p,o,rfl,d,j⟩:=i.cons_inv;refine⟨l,_,[p],o,e,rfl,⟨p,rfl,?_⟩,j,[_],rfl⟩;simp only[VR]at d;rcases d with d|⟨f,es,d,_,F⟩|⟨pid,off,len,es,ex,fz,d,_,F,Y,G,h8,Z⟩
   ·grind
   ·grind
   ·exact .inr (.inr ⟨pid,off,len,es,ex,fz,d,hQ _ F,Y,G,h8,Z⟩)
  ·rename_i J I l r;replace e:=AN e;obtain⟨u,e⟩:=e;have:=eq_of_beq u;subst this;obtain⟨hc,e⟩:=Ao e;subst hc;obtain⟨p,o,rfl,d,j⟩:=i.cons_inv;refine⟨l,_,[p],o,e,rfl,⟨p,rfl,?_⟩,j,[_],rfl⟩
   grind [VR]
  ·rename_i f es r;obtain⟨p,o,rfl,d,j⟩:=i.cons_inv;simp only[VR]at d;obtain⟨W,w,rfl,_,F⟩:=d
   obtain⟨ys,e1,C⟩:=LM (X:=Cx.pure) (R:=EP g (DP c)) (fun {v p K'} i e=>by
    rcases BP e with⟨u,e⟩|⟨u,e⟩
    ·subst u;split at e
     ·obtain⟨cs,rfl,M⟩:=i.agg_inv;obtain⟨y,r,p,q,e1,rfl,D,C,_⟩:=C8 (c:=c) (Q:=λ_=>True) (λ_ _ _ _ h=>(by cases h)) (λ_ _ _ _ _ _ h=>(by cases h)) (λ_ _=>trivial) M e;split at e1
      ·rw[C.nil_inv];exact⟨y,e1,_,rfl,by rw[aK];exact D.pure⟩
      ·cases e1
     ·cases e
    ·subst u;obtain⟨y,r,p,q,e1,G,D,C,_⟩:=C8 (c:=c) (Q:=λ_=>True) (λ_ _ _ _ h=>(by cases h)) (λ_ _ _ _ _ _ h=>(by cases h)) (λ_ _=>trivial) (VRL.cons i .nil) e;split at e1
     ·rw[C.nil_inv,aK]at G;subst G;exact⟨y,e1,D.pure⟩
     ·cases e1) F e
   exact⟨ys,_,[_],o,e1,rfl,⟨_,rfl,.inr (.inl ⟨W,w,rfl,C⟩)⟩,j,[_],rfl⟩
  ·rename_i id r;split at e
   ·rename_i J I l ex fz lk n;replace e:=AN e;obtain⟨u,e⟩:=e;have:=eq_of_beq u;subst this;obtain⟨hc,e⟩:=Ao e;subst hc;obtain⟨p,o,rfl,d,j⟩:=i.cons_inv;refine⟨l,_,[p],o,e,rfl,⟨p,rfl,?_⟩,j,[_],rfl⟩;simp only[VR]at d;cases t:X.π id with
    |none=>simp_all
    |some a=>
     rw[t]at d;rcases hb _ _ _ n t with⟨pid,len,es,A,B,N,O,k4,k5,k7,E⟩|⟨B,_,N⟩|⟨es,B,_,_,N⟩
     ·cases B;simp only at d;subst d;refine .inr (.inr ⟨pid,0,len,es,ex,A,rfl,hq _ _ _ _ (by simp[Fa]) n t,O,by omega,Ar rfl E,?_⟩)
      grind
     all_goals simp_all
   ·cases e
  ·rename_i id off len r;split at e
   ·rename_i J I l ex fz lk n;replace e:=AN e;obtain⟨u,e⟩:=e;have:=eq_of_beq u;subst this;obtain⟨L,e⟩:=AI e;obtain⟨hc,e⟩:=Ao e;subst hc;obtain⟨p,o,rfl,d,j⟩:=i.cons_inv;refine⟨_,_,[p],o,e,rfl,⟨p,rfl,?_⟩,j,[_],rfl⟩;simp only[VR]at d;obtain⟨pid,m,t,rfl⟩:=d;rcases hb _ _ _ n t with⟨pid,P,es,A,B,N,O,k4,k5,k7,E⟩|⟨B,_⟩|⟨es,B,_⟩
    ·cases B;refine .inr (.inr ⟨_,off,len,es,ex,A,rfl,hq _ _ _ _ (by simp[Fa]) n t,O,?_,Ar rfl E,?_⟩)
     ·rw[<- E.length];simpa[B2,A0,AQ]using L
     ·exact KY E off len
    all_goals simp_all
   ·cases e
  ·cases e
theorem GQ{c:Ty}{X:Cx}{vs:List V}{a:List PV}{K:c.den->List V->Option β}(i:VRL X vs a)(e:Dx .lf c vs K=zo x):∃ y r p q,K y r=zo x/\a=p++q/\DR X.h X.Q c y p/\VRL X r q:=
 by
 obtain⟨y,r,p,q,b,d,f,g,_⟩:=C8 (Q:=X.Q) (λ_ _ _ h=>(by cases h)) (λ_ _ _ _ _ h=>(by cases h)) (λ_ h=>h) i e;exact⟨y,r,p,q,b,d,f.same,g⟩
theorem Dy{g:Bool}{c:Ty}{X:Cx}{v:V}{p:PV}{K:c.den->Option β}(j:VR X v p)(e:Fu .lf g c v K=zo x):∃ y,K y=zo x/\EP g (DR X.h X.Q c) y p:=by
 unfold Fu at e;rcases BP e with⟨a,e⟩|⟨a,e⟩
 ·subst a;split at e
  ·obtain⟨cs,rfl,b⟩:=j.agg_inv;obtain⟨y,r,p,q,e1,rfl,f,d⟩:=GQ b e;split at e1
   ·rw[d.nil_inv];exact⟨y,e1,_,rfl,by simp_all⟩
   ·cases e1
  ·cases e
 ·subst a;obtain⟨y,r,p,q,e1,i,f,d⟩:=GQ (VRL.cons j .nil) e;split at e1
  ·rw[d.nil_inv,aK]at i;subst i;exact⟨y,e1,f⟩
  ·cases e1
theorem GR{g:Bool}{c:Ty}{X:Cx}{h:H}{n:Nat}{Q:Nat->Prop}(r:RH X h n){v:V}{p:PV}{K:c.den->Option β}(t:∀ id pid m,id∈Fa v.cells->X.π id=zo (.blk pid m)->Q pid)(o:∀ pid,X.Q pid->Q pid)(u:VR X v p)(e:Fu h g c v K=zo x):∃ y,K y=zo x/\EP g (DX X.h Q X.Q c) y p:=by
 unfold Fu at e;have s:∀ id b a,h.get id=zo b->X.π id=zo a->BR X b (zo a):=λid b a w z=>z ▸ r.blk _ _ w;rcases BP e with⟨d,e⟩|⟨d,e⟩
 ·subst d;split at e
  ·obtain⟨cs,rfl,i⟩:=u.agg_inv;obtain⟨y,r,p,q,e1,rfl,k,j,_⟩:=C8 (Q:=Q) s (λid b pid m hi _ f=>t id pid m hi f) o i e;split at e1
   ·rw[j.nil_inv];exact⟨y,e1,_,rfl,by simp_all⟩
   ·cases e1
  ·cases e
 ·subst d;obtain⟨y,r,p,q,e1,l,k,j,_⟩:=C8 (Q:=Q) s (λid b pid m hi _ f=>t id pid m (Pq hi) f) o (VRL.cons u .nil) e;split at e1
  ·rw[j.nil_inv,aK]at l;subst l;exact⟨y,e1,k⟩
  ·cases e1
theorem G8{g:Bool}{c:Ty}{X:Cx}{h:H}{n:Nat}(r:RH X h n){v:V}{p:PV}{K:List c.den->Option β}(w:VR X v p)(e:IT h g c v K=zo x) :
  ∃ l es,K l=zo x/\Pi.A2 X.h p=zo es/\L2 (EP g (DR X.h X.Q c)) l es:=by
 unfold IT at e;have u:∀ id b a,h.get id=zo b->X.π id=zo a->BR X b (zo a):=λid b a s t=>t ▸ r.blk _ _ s;obtain⟨l,C,A,q,e1,z,d,B,_⟩:=C8 (Q:=λ_=>True) u (λ_ _ _ _ _ _ _=>trivial) (λ_ _=>trivial) (VRL.cons w .nil) e;obtain⟨y,rfl,d⟩:=d
 have:p=y:=by
  simp_all
 subst this;rcases d with⟨rfl,rfl⟩|⟨f,es,rfl,i⟩|⟨pid,off,len,es,ex,fz,rfl,_,j,m,_,o⟩
 ·exact⟨[],[],e1,rfl,.nil⟩
 ·exact⟨l,es,e1,rfl,i.mono λ_ _ k=>k.mono λ_ _ k=>k.up⟩
 ·refine⟨l,_,e1,?_,o⟩;unfold Pi.A2;simp only[j];have:ad (off+len) es.length=zt:=by simpa using m
  grind
end
end
section
variable[Pi.Gl]
open Pi (PV T Hp Blk DF UM PE AM AS)
section
variable{X:Cx}{h:H}{n:Nat}{β:Type}{x:β}{P:Program}
theorem DD:∀ {c:Ty} {y:c.den} {a:List PV},DR X.h X.Q c y a->VRL X (cells c y) a
 |.int _,_,_,e=>by subst e;exact .cons (by simp[VR]) .nil
 |.bool,_,_,e=>by subst e;exact .cons (by simp[VR]) .nil
 |.str,_,_,e=>by subst e;exact .cons (by simp[VR]) .nil
 |.unit,_,_,e=>by subst e;exact .nil
 |.pair _ _,_,_,⟨p,q,e,b,d⟩=>by subst e;exact(DD b).append (DD d)
 |.sl _ _,_,_,⟨p,e,h⟩=>by
  subst e;refine .cons ?_ .nil
  simp_all[VR]
theorem Fy{g:Bool}{c:Ty}{y:c.den}{e:PV}(h:EP g (DR X.h X.Q c) y e):VR X (OT g c y) e:=by
 cases g with
 |true=>obtain⟨cs,rfl,h⟩:=h;simp only[OT,zb,VR];exact⟨cs,rfl,DD h⟩
 |false=>
  have:=DD (X:=X) (show DR X.h X.Q c y [e]from h);unfold OT;simp only[zj];have i:=this.length;split
  ·rename_i v b;rw[b]at this;obtain⟨p,j,d,f,_⟩:=this.cons_inv;simp_all
  ·rename_i a;cases hc:cells c y<;>simp_all
theorem FC:∀ {c:Ty} {y:c.den} {a:List PV},DP c y a->VRL X (G4 c y) a
 |.int _,_,_,e=>by subst e;exact .cons (by simp[VR]) .nil
 |.bool,_,_,e=>by subst e;exact .cons (by simp[VR]) .nil
 |.str,_,_,e=>by subst e;exact .cons (by simp[VR]) .nil
 |.unit,_,_,e=>by subst e;exact .nil
 |.pair _ _,_,_,⟨p,q,e,b,d⟩=>by subst e;exact(FC b).append (FC d)
 |.sl _ _,_,_,⟨p,e,h⟩=>by
  subst e;refine .cons ?_ .nil;simp only[VR];exact h
theorem DJ{g:Bool}{c:Ty}{y:c.den}{e:PV}(h:EP g (DP c) y e):VR X (elP g c y) e:=by
 cases g with
 |true=>obtain⟨cs,rfl,h⟩:=h;simp only[elP,zb,VR];exact⟨cs,rfl,FC h⟩
 |false=>
  have:=FC (X:=X) (show DP c y [e]from h);unfold elP;simp only[zj];have i:=this.length;split
  ·rename_i v b;rw[b]at this;obtain⟨p,j,d,f,_⟩:=this.cons_inv;simp_all
  ·rename_i a;cases hc:G4 c y<;>simp_all
theorem RH.ptr(r:RH X h n){j off:Nat}{p:PV}{cs:List V}{fz f:Bool}(c:VR X (.ptr j off) p)(e:h.get j=zo (.box cs fz f)) :
  ∃ pid m b a,X.π j=zo (.blk pid m)/\p=.ptr pid off/\X.h.get pid=zo (.box b a)/\(fz=zf->a=zf)/\VRL X cs b:=by
 simp only[VR]at c;obtain⟨pid,m,d,rfl⟩:=c;have:=r.blk _ _ e;rw[d]at this;obtain⟨_,_,b,a,g,i,k,l,o⟩:=this
 grind
theorem RH.boxAt(r:RH X h n){j pid m:Nat}{cs:List V}{fz d:Bool}(c:X.π j=zo (.blk pid m))(e:h.get j=zo (.box cs fz d)) :
  ∃ b a,X.h.get pid=zo (.box b a)/\(fz=zf->a=zf)/\VRL X cs b:=by
 have:=r.blk _ _ e;rw[c]at this;obtain⟨_,_,b,a,f,g,i,k,l⟩:=this
 grind
theorem RH.rowAt(r:RH X h n){j pid m:Nat}{g:Bool}{c:Ty}{l:List c.den}{ex fz f:Bool}(d:X.π j=zo (.blk pid m))(e:h.get j=zo (.row g c l ex fz f)) :
  ∃ es a,X.h.get pid=zo (.row es ex a)/\(fz=zf->a=zf)/\es.length=m/\(ex=zf->0<m)/\L2 (EP g (DR X.h X.Q c)) l es:=by
 have:=r.blk _ _ e;rw[d]at this;rcases this with⟨_,_,es,a,b,i,k,o,p,s,q⟩|⟨b,_⟩|⟨_,b,_⟩<;>grind
theorem Ge{b:IntKind}:∀ {m:Nat} {vs:List V} {a:List PV} {l:List Int},VRL X vs a->Gc b m vs=zo l->l.length=m/\a.take m=l.map (PV.int b)/\m<=a.length
 |0,_,_,_,_,e=>by cases e;simp
 |m+1,[],_,_,_,e=>by simp[Gc]at e
 |m+1,v::vs,a,l,hv,e=>by
  unfold Gc at e;split at e
  ·omega
  ·rename_i r k x j f g;cases f;cases g;cases d:(k == b)with
   |false=>simp_all
   |true=>
    rw[d]at e;have:=eq_of_beq d;subst this;obtain⟨l',i,rfl⟩:=ca.1 e;obtain⟨p,s,rfl,c,h⟩:=hv.cons_inv;simp only[VR]at c;subst c;obtain⟨n,o,q⟩:=Ge h i
    simp_all
  ·cases e
theorem P1(r:RH X h n){ty:TypeId}{a:V}{p:PV}{K:V->Option β}(d:VR X a p)(e:P0 P h ty a K=zo x):∃ v q,K v=zo x/\Pi.CD P X.h ty p=zo (.val q X.h)/\VR X v q:=by
 unfold P0 at e;split at e
 ·replace e:=AD e;obtain⟨v,e1,e⟩:=e;simp only[VR]at d;obtain⟨z,rfl,b⟩:=d;obtain⟨q,e2,f⟩:=Bg (b.mono (Up.pure X)) e1;exact⟨v,q,e,A7 e2,f⟩
 ·split at e
  ·rename_i cs fz I u;obtain⟨pid,m,z,o,b,rfl,s,A,t⟩:=r.ptr d u;replace e:=AD e;obtain⟨v,e1,e⟩:=e;obtain⟨q,e2,f⟩:=Bg (t.drop _) e1
   grind [Pi.CD,A7]
  ·cases e
 ·replace e:=AD e;obtain⟨v,e1,e⟩:=e;simp only[VR]at d;rcases d with⟨z,rfl,b⟩|⟨pid,i,off,es,ex,fz,J,rfl,b,B,s,A⟩
  ·obtain⟨q,e2,f⟩:=Bg (b.mono (Up.pure X)) e1;exact⟨v,q,e,A7 e2,f⟩
  ·obtain⟨q,e2,f⟩:=Bg A e1;refine⟨v,q,e,?_,f⟩;unfold Pi.CD;simp only[B,AM,s];exact A7 e2
 ·rename_i j i off;split at e
  ·rename_i g c l ex fz I u;replace e:=Gf e;obtain⟨y,O,e⟩:=e;replace e:=AD e;obtain⟨v,e1,e⟩:=e;simp only[VR]at d;obtain⟨pid,m,b,rfl⟩:=d;obtain⟨es,o,B,s,A,W,t⟩:=r.rowAt b u;obtain⟨J,C,L⟩:=t.get O;obtain⟨q,e2,f⟩:=Bg ((Fy L).cells.drop off) e1;refine⟨v,q,e,?_,f⟩;unfold Pi.CD;simp only[B,AM,C];exact A7 e2
  ·cases e
 ·rename_i j off k m;split at e
  ·rename_i cs fz I u;split at e
   ·rename_i F sz M w E;replace e:=AD e;obtain⟨l,N,e⟩:=e;simp only[VR]at d;obtain⟨pid,mm,b,rfl,D⟩:=d;obtain⟨z,o,s,A,t⟩:=r.boxAt b u;obtain⟨Y,S,Z⟩:=Ge (t.drop off) N;refine⟨_,.int F (ID l k),e,?_,by simp[VR]⟩;unfold Pi.CD;simp only[s];refine A7 ?_;unfold Pi.part;simp only[w,E]
    have G:(z.drop (off+k))[0]?=zo (.int F (ID l k)):=by
     rw[aJ,aZ]
     have U:(z.drop off)[k]?=zo (.int F (ID l k)):=by
      rw[<- bE D,S,cy]
      simp_all[ID]
     simp_all
    grind
   ·cases e
  ·cases e
 ·cases e
theorem BG(h:Hp)(i:Nat)(b:Blk):∃ h',h.set i b=zo h':=⟨{ h with m:=T.put (i+1) h.m i b },by
 unfold Pi.Hp.set;rw[show ae i (i+1)=zt from by simp];rfl⟩
theorem F9(h:Hp)(i:Nat)(b:Blk)(e:h.get i=zn):∃ h',h.new i b=zo h':=by
 unfold Pi.Hp.new Pi.Hp.get at *;rw[e];exact BG h i b
theorem Sh{hs:Hp}{pid i:Nat}{es:List PV}{ex:Bool}{a b:PV}{d:List PV}(A:List PV->Option Pi.R):(∀ cs,a ≠ .agg cs)->a.cells=[a]->d=[b]->(∀ cs,b ≠ .agg cs)->(∀ cs,b ≠ .tup cs) ->
  (match a with
   |.agg cs=>A cs
   |_=>(match d with
    |[c]=>bif aa 0 0&&aa a.cells.length 1 then(match c with
     |.agg _=>zn
     |.tup _=>zn
     |c=>(hs.set pid (.row (Pi.lset es i c) ex zf)).map Pi.R.skip)else zn
    |_=>zn))=(hs.set pid (.row (Pi.lset es i b) ex zf)).map .skip:=by
 simp_all
def E7(X:Cx)(h:H)(n id idP:Nat)(h':H)(a:Hp)(Y:Cx):Prop:=Y.h=a/\RH Y h' n/\St X h id idP Y h'
def NF(a:IntKind)(k:Nat)(x:Int):Nat->List Int->List PV
 |_,[]=>[]
 |i,y::l=>.int a (if k=i then x else y)::NF a k x (i+1) l
theorem OC{a:IntKind}{k:Nat}{x:Int}:∀ (l:List Int) (i:Nat),VRL X (O4 a k x i l) (NF a k x i l)
 |[],_=>by rfl
 |y::l,i=>by
  unfold O4 NF;refine .cons ?_ (OC l (i+1))
  simp_all[Uv,neq,VR,zy,aa]
theorem L7{a:IntKind}{k:Nat}{x:Int}:∀ (l:List Int) (i:Nat),NF a k x i l=if i<=k then(l.map (PV.int a)).set (k-i) (.int a x)else l.map (PV.int a)
 |[],i=>by simp[NF]
 |y::l,i=>by
  unfold NF;rw[L7 l (i+1)];by_cases h:k=i
  ·subst h;rw[zy rfl,zx (by omega),zy (ab _),Nat.sub_self];rfl
  ·rw[zx h];by_cases b:i<=k
   ·rw[zy (by omega),zy b,show k-i=(k-(i+1))+1 by omega];rfl
   grind
theorem P5{b:IntKind}{a:List PV}{l:List Int}{off k m:Nat}{x:Int}(j:(a.drop off).take m=l.map (PV.int b))(n:l.length=m)(o:m<=(a.drop off).length)(q:k<m) :
  Pi.BH a off (NF b k x 0 l)=Pi.BH a (off+k) [.int b x]:=by
 rw[L7,zy (Nat.zero_le _),Nat.sub_zero];obtain⟨A,g⟩:∃ A,A=a.take off:=⟨_,rfl⟩;obtain⟨R,p⟩:∃ R,R=(a.drop off).drop m:=⟨_,rfl⟩;obtain⟨L,h⟩:∃ L,L=l.map (PV.int b):=⟨_,rfl⟩;have e:off<=a.length:=by grind
 have c:a=A++(L++R):=by grind [List.take_append_drop]
 have d:A.length=off:=by grind
 have i:L.length=m:=by grind
 rw[<- h];unfold Pi.BH;have e1:a.take off=A:=g.symm;have e2:a.drop (off+(L.set k (.int b x)).length)=R:=by grind
 have e3:a.take (off+k)=A++L.take k:=by
  rw[c,List.take_append,List.take_of_length_le (by omega),d,cg,List.take_append_of_le_length (by omega)]
 have f:a.drop (off+k+[PV.int b x].length)=L.drop (k+1)++R:=by
  rw[c,show off+k+[PV.int b x].length=A.length+(k+1) by simp;omega,List.drop_append,List.drop_eq_nil_of_le (by omega),cg,List.drop_append_of_le_length (by omega)];rfl
 rw[e1,e2,e3,f,List.set_eq_take_append_cons_drop,zy (by omega)];simp
theorem Js(r:RH X h n)(hn:n<=1048575){ty:TypeId}{a w:V}{p q:PV}{K:H->Option β}(O:VR X a p)(hw:VR X w q)(id idP:Nat)(e:K5 P h ty a w K=zo x) :
  ∃ h' d Y,K h'=zo x/\Pi.A3 P X.h ty p q=zo (.skip d)/\E7 X h n id idP h' d Y:=by
 unfold K5 at e;replace e:=AD e;obtain⟨sz,G,e⟩:=e;replace e:=BE e;obtain⟨hc,e⟩:=e;have I:=hw.cells;rw[I.length]at hc;have Oi:∀ {j pid m:Nat},X.π j=zo (.blk pid m)->j<1048575:=λhp=>by have:=r.dom _ _ hp;omega
 split at e
 ·rename_i j off;split at e
  ·rename_i cs o;replace e:=AN e;obtain⟨z,e⟩:=e;obtain⟨pid,m,L,N,f,rfl,D,h4,A⟩:=r.ptr O o;have:=h4 rfl;subst this;have b:∃ d,X.h.set pid (.box (Pi.BH L off q.cells) zf)=zo d:=BG _ _ _;obtain⟨d,b⟩:=b
   obtain⟨Y,y1,s,C,y4,y5⟩:=r.set (b':=.box (Gb cs off w.cells) zf zf) (Oi f) o trivial rfl f D (by intros;simp) b
    (λY y1 s C u=>by
     rw[f]
     refine⟨pid,m,_,zf,rfl,by rw[C];exact(f ▸ r.blk _ _ o).own trivial,by rw[s,(Hp.get_set b).1,zy rfl],λ_=>rfl,(A.fput I off).mono u⟩) idP
   refine⟨_,d,Y,e,?_,s,y4,y5 id⟩;unfold Pi.A3;simp only[G,hc,zj,D];rw[<- A.length,z]
   simp_all
  ·cases e
 ·rename_i j i off;split at e
  ·rename_i g c l ex o;replace e:=Gf e;obtain⟨y,hy,e⟩:=e;replace e:=AN e;obtain⟨z,e⟩:=e;simp only[VR]at O;obtain⟨pid,m,f,rfl⟩:=O;obtain⟨es,N,h2,D,h4,h9,A⟩:=r.rowAt f o;have:=D rfl;subst this;obtain⟨J,hel,hE⟩:=A.get hy;have F:=DD (X:=X) hE.cells;have hf:=F.fput I off;obtain⟨y',r',p',q',e1,h6,d1,r1⟩:=GQ hf e;split at e1
   ·rw[r1.nil_inv,aK]at h6;subst h6
    have key:∃ t,EP g (DR X.h X.Q c) y' t/\(match J with
      |.agg cs=>(X.h.set pid (.row (Pi.lset es i (.agg (Pi.BH cs off q.cells))) ex zf)).map Pi.R.skip
      |_=>(match q.cells with
       |[c]=>bif aa off 0&&aa J.cells.length 1 then(match c with
        |.agg _=>zn
        |.tup _=>zn
        |c=>(X.h.set pid (.row (Pi.lset es i c) ex zf)).map .skip)else zn
       |_=>zn))=(X.h.set pid (.row (Pi.lset es i t) ex zf)).map .skip:=by
     cases g with
     |true=>
      obtain⟨cs,rfl,_⟩:=hE;exact⟨.agg (Pi.BH cs off q.cells),⟨_,rfl,d1⟩,rfl⟩
     |false=>
      have E:DR X.h X.Q c y [J]:=hE;have B:=E.leaf J (by simp);have U:(cells c y).length=1:=by rw[F.length,B.2.2];rfl
      simp only[af,aq,bG,bq]at hc;rw[U]at z;have hle':off+sz<=1:=by simp_all
      have W:off=0:=by omega
      have hsz1:sz=1:=by omega
      subst W;have hq1:q.cells.length=1:=by omega
      obtain⟨M,hc1⟩:∃ M,q.cells=[M]:=by
       cases hqq:q.cells<;>simp_all
      have AG:Pi.BH J.cells 0 q.cells=[M]:=by rw[B.2.2,hc1];rfl
      rw[AG]at d1;have hl1:=d1.leaf M (by simp);refine⟨M,d1,?_⟩<;>simp_all
    obtain⟨t,E,hk⟩:=key;have b:∃ d,X.h.set pid (.row (Pi.lset es i t) ex zf)=zo d:=BG _ _ _;obtain⟨d,b⟩:=b
    obtain⟨Y,y1,s,C,y4,y5⟩:=r.set (b':=.row g c (lset l i y') ex zf zf) (Oi f) o trivial rfl f h2 (by intros;simp) b
     (λY y1 s C u=>by
      rw[f];refine .inl ⟨pid,m,_,zf,rfl,by rw[C];exact(f ▸ r.blk _ _ o).own trivial,by rw[s,(Hp.get_set b).1,zy rfl],λ_=>rfl,by rw[AS];grind,h9,?_⟩;rw[AS]
      exact EDR.mono u (A.set i E)) idP
    refine⟨_,d,Y,e1,?_,s,y4,y5 id⟩;unfold Pi.A3;have S:ad (off+sz) J.cells.length=zt:=by rw[<- F.length];exact z
    simp only[G,hc,zj,h2,AM,hel,S,zb]
    grind
   ·cases e1
  ·cases e
 ·rename_i j off k m;split at e
  ·rename_i cs o;split at e
   ·rename_i Z x k0 hk0;replace e:=AN e;obtain⟨hkk,e⟩:=e;have:=eq_of_beq hkk;subst this;replace e:=AD e;obtain⟨l,hl,e⟩:=e;simp only[VR]at O hw;subst hw;obtain⟨pid,mm,f,rfl,hlt⟩:=O;obtain⟨L,N,D,h4,A⟩:=r.boxAt f o;have:=h4 rfl;subst this;obtain⟨i1,i2,i3⟩:=Ge (A.drop off) hl;have AG:=P5 (x:=x) i2 i1 i3 hlt
    have hv:VRL X (Gb cs off (O4 Z k x 0 l)) (Pi.BH L (off+k) [.int Z x]):=by
     rw[<- AG];exact A.fput (OC l 0) off
    obtain⟨d,b⟩:=BG X.h pid (.box (Pi.BH L (off+k) [.int Z x]) zf)
    obtain⟨Y,y1,s,C,y4,y5⟩:=r.set (b':=.box (Gb cs off (O4 Z k x 0 l)) zf zf) (Oi f) o trivial rfl f D (by intros;simp) b
     (λY y1 s C u=>by
      rw[f]
      refine⟨pid,mm,_,zf,rfl,by rw[C];exact(f ▸ r.blk _ _ o).own trivial,by rw[s,(Hp.get_set b).1,zy rfl],λ_=>rfl,hv.mono u⟩) idP
    refine⟨_,d,Y,e,?_,s,y4,y5 id⟩
    have hs1:sz=1:=by
     simp only[af,aq,bG,bq]at hc;exact hc.2.symm
    subst hs1;unfold Pi.A3;simp only[G,hc,zj,D]
    have hb:ad (off+k+1) L.length=zt:=by
     rw[List.length_drop]at i3;simp;omega
    rw[hb];show(X.h.set pid (.box (Pi.BH L (off+k) [.int Z x]) zf)).map Pi.R.skip=_
    grind
   ·cases e
  ·cases e
 ·cases e
end
end
section
variable[Pi.Gl]
open Pi (PV T Hp Blk DF UM PE AM AS)
section
variable{X:Cx}{h:H}{n:Nat}{β:Type}{x:β}{P:Program}
theorem EP.upP{g:Bool}{hh:Hp}{Q:Nat->Prop}{c:Ty}{y:c.den}{e:PV}(h:EP g (DP c) y e):EP g (DR hh Q c) y e:=h.mono λ_ _ k=>k.up
theorem Gt{k:Nat}:∀ {m i:Nat} {K:Nat->Option β},Iu k m i K=zo x->K k=zo x/\i<=k/\k<i+m
 |0,_,_,e=>by cases e
 |1,i,K,e=>by
  unfold Iu at e;obtain⟨b,a⟩:=AI e;have:k=i:=by simpa[neq]using b
  subst this;exact⟨a,ab _,by omega⟩
 |m+2,i,K,e=>by
  unfold Iu at e;rcases BO e with⟨b,a⟩|⟨b,a⟩
  ·have:k=i:=by simpa[neq]using b
   subst this;exact⟨a,ab _,by omega⟩
  ·obtain⟨c,d,f⟩:=Gt a;exact⟨c,by omega,by omega⟩
theorem I4{s:TypeId}{a:V}{p:PV}{f:Nat}{K:V->Option β}(c:VR X a p)(e:Fz P s a f K=zo x):∃ v q,K v=zo x/\Pi.Ax P X.h s p f=zo (.val q X.h)/\VR X v q:=by
 unfold Fz at e;unfold Pi.Ax;split at e
 ·rename_i u o;split at e
  ·rename_i t n;split at e
   ·rename_i w d;replace e:=BE e;obtain⟨hc,e⟩:=e;simp only[o,n,d,hc,zj];split at e
    ·simp only[VR]at c;obtain⟨pid,m,b,rfl⟩:=c;exact⟨_,_,e,rfl,by simp only[VR];exact⟨pid,m,b,rfl⟩⟩
    ·simp only[VR]at c;obtain⟨pid,m,b,rfl⟩:=c;exact⟨_,_,e,rfl,by simp only[VR];exact⟨pid,m,b,rfl⟩⟩
    ·simp only[VR]at c;rcases c with⟨r,rfl,b⟩|⟨pid,i,off,es,ex,fz,g,rfl,b,j,k,l⟩
     ·exact⟨_,_,e,rfl,by simp only[VR];exact .inl ⟨_,rfl,b.drop _⟩⟩
     ·refine⟨_,_,e,rfl,?_⟩;simp only[VR];exact .inr ⟨pid,i,_,es,ex,fz,g,rfl,b,j,k,by rw[<- bO];exact l.drop _⟩
    ·simp only[VR]at c;obtain⟨r,rfl,b⟩:=c;exact⟨_,_,e,rfl,by simp only[VR];exact⟨_,rfl,b.drop _⟩⟩
    ·cases e
   ·cases e
  ·cases e
 ·cases e
theorem OK{h:H}{n len:Nat}{a:V}{j off:Nat}(e:R6 h n len a=zo (j,off)):a=.ptr j off/\n=1:=by
 unfold R6 at e;split at e
 ·split at e
  ·split at e
   ·cases b:(aa n 1&&(Gc _ len _).isSome)with
    |false=>rw[b]at e;cases e
    |true=>
     rw[b]at e;cases e;simp only[ac,bq]at b;exact⟨rfl,b.1⟩
   ·cases e
  ·cases e
 ·cases e
theorem I6(r:RH X h n){ty:TypeId}{a i:V}{p q:PV}{K:V->Option β}(l:VR X a p)(hi:VR X i q)(e:F5 P h ty a i K=zo x):∃ v w,K v=zo x/\Pi.Aq P X.h ty p q=zo (.val w X.h)/\VR X v w:=by
 unfold F5 at e;split at e
 ·rename_i et S;replace e:=AD e;obtain⟨sz,F,e⟩:=e;replace e:=C9 hi e;obtain⟨k,e,O⟩:=e;unfold Pi.Aq;simp only[S,O,F];split at e
  ·rename_i f g c es;replace e:=Gf e;obtain⟨y,E,e⟩:=e;replace e:=AN e;obtain⟨D,e⟩:=e;simp only[VR]at l;rcases l with⟨rfl,rfl⟩|⟨Y,G,rfl,_,o⟩|⟨pid,off,len,G,ex,fz,rfl,_,o,h2,I,_,M⟩
   ·simp at E
   ·obtain⟨C,b,A⟩:=o.get E;have hc:=(Fy (X:=Cx.pure) A.upP).cells;refine⟨_,.view C.cells,e,?_,by simp only[VR];exact .inl ⟨_,rfl,hc⟩⟩;simp only[AM,b];rw[<- hc.length,D];rfl
   ·obtain⟨C,b,A⟩:=M.get E;have hc:=(Fy A).cells
    have J:k<len:=by
     have:=(List.getElem?_eq_some_iff.1 b).1;simp at this;omega
    have u:G[off+k]?=zo C:=by
     rw[bE J,aJ]at b;exact b
    refine⟨_,.ept pid (off+k) 0,e,?_,by simp only[VR];exact .inr ⟨pid,off+k,0,G,ex,fz,C,rfl,o,h2,u,by simpa using hc⟩⟩;have B:ae k len=zt:=by simpa using J
    simp only[B,zb,h2,AM,u];rw[<- hc.length,D];rfl
  ·rename_i g c es;replace e:=Gf e;obtain⟨y,E,e⟩:=e;replace e:=AN e;obtain⟨D,e⟩:=e;simp only[VR]at l;rcases l with⟨rfl,rfl⟩|⟨Y,G,rfl,o⟩
   ·simp at E
   ·obtain⟨C,b,A⟩:=o.get E;have hc:=(DJ (X:=Cx.pure) A).cells;refine⟨_,.view C.cells,e,?_,by simp only[VR];exact⟨_,rfl,hc⟩⟩;simp only[AM,b];rw[<- hc.length,D];rfl
  ·rename_i f es;replace e:=Gt e;obtain⟨e,_,_⟩:=e;replace e:=AD e;obtain⟨C,b,e⟩:=e;replace e:=AN e;obtain⟨D,e⟩:=e;simp only[VR]at l;obtain⟨Y,G,rfl,_,o⟩:=l;obtain⟨elP,u,A⟩:=o.lget b;refine⟨_,.view elP.cells,e,?_,by simp only[VR];exact .inl ⟨_,rfl,A.cells⟩⟩;simp only[u];rw[<- A.cells.length,D];rfl
  ·rename_i j;split at e
   ·rename_i g c es ex lk W;replace e:=AI e;obtain⟨s,e⟩:=e;replace e:=AN e;obtain⟨D,e⟩:=e;have d:k<es.length:=by simpa[I8,AQ]using s
    simp only[VR]at l;have B:=r.blk _ _ W;cases z:X.π j with
    |none=>rw[z]at l;exact l.elim
    |some t=>
     rw[z]at l B;rcases B with⟨pid,len,G,U,o,h2,I,M,Z,h7,N⟩|⟨o,_,h2⟩|⟨_,o,_,h2,_⟩
     ·cases o;simp only at l;subst l;obtain⟨y,E⟩:∃ y,es[k]?=zo y:=⟨es[k],ah d⟩;obtain⟨C,b,A⟩:=N.get E;refine⟨_,.ept pid (0+k) 0,e,?_,by simp only[VR];exact⟨pid,len,z,by simp⟩⟩;have B:ae k len=zt:=by rw[<- Z,<- N.length];simpa using d
      simp only[B,zb,I,AM,Nat.zero_add,b];rw[A.wd,D];rfl
     ·subst h2;simp at d
     ·rcases h2 with h2|h2
      ·cases h2
      ·subst h2;simp at d
   ·cases e
  ·rename_i j off len;replace e:=AI e;obtain⟨s,e⟩:=e;split at e
   ·rename_i g c es ex fz lk W;replace e:=AI e;obtain⟨L,e⟩:=e;replace e:=AN e;obtain⟨D,e⟩:=e;simp only[VR]at l;obtain⟨pid,m,z,rfl⟩:=l;obtain⟨G,U,I,_,Z,_,N⟩:=r.rowAt z W;have d:off+k<es.length:=by simpa[I8,AQ,A0]using L
    obtain⟨y,E⟩:∃ y,es[off+k]?=zo y:=⟨es[off+k],ah d⟩;obtain⟨C,b,A⟩:=N.get E;refine⟨_,.ept pid (off+k) 0,e,?_,by simp only[VR];exact⟨pid,m,z,rfl⟩⟩;have B:ae k len=zt:=s;simp only[B,zb,I,AM,b];rw[A.wd,D];rfl
   ·cases e
  ·cases e
 ·rename_i len et S;replace e:=AD e;obtain⟨sz,F,e⟩:=e;replace e:=C9 hi e;obtain⟨k,e,O⟩:=e;unfold Pi.Aq;split at e
  ·rename_i j off hj;replace e:=AI e;obtain⟨s,e⟩:=e;obtain⟨rfl,rfl⟩:=OK hj;have B:ae k len=zt:=s;have d:k<len:=by simpa[I8]using s
   simp only[S,O,F,B,zb];simp only[VR]at l;obtain⟨pid,m,o,rfl⟩:=l;exact⟨_,_,e,rfl,by simp only[VR];exact⟨pid,m,o,by rw[dc],d⟩⟩
  replace e:=Gt e;obtain⟨e,_,s⟩:=e;have B:ae k len=zt:=by simpa using s
  simp only[S,O,F,B,zb];split at e
  ·simp only[VR]at l;obtain⟨pid,m,o,rfl⟩:=l;exact⟨_,_,e,rfl,by simp only[VR];exact⟨pid,m,o,rfl⟩⟩
  ·simp only[VR]at l;obtain⟨pid,m,o,rfl⟩:=l;exact⟨_,_,e,rfl,by simp only[VR];exact⟨pid,m,o,rfl⟩⟩
  ·simp only[VR]at l;rcases l with⟨G,rfl,o⟩|⟨pid,i,off,es,ex,fz,C,rfl,o,h2,I,M⟩
   ·exact⟨_,_,e,rfl,by simp only[VR];exact .inl ⟨_,rfl,o.drop _⟩⟩
   ·refine⟨_,_,e,rfl,?_⟩;simp only[VR];exact .inr ⟨pid,i,_,es,ex,fz,C,rfl,o,h2,I,by rw[<- bO];exact M.drop _⟩
  ·simp only[VR]at l;obtain⟨G,rfl,o⟩:=l;exact⟨_,_,e,rfl,by simp only[VR];exact⟨_,rfl,o.drop _⟩⟩
  ·cases e
 ·cases e
theorem Oj{ty:TypeId}{a i:V}{p q:PV}{K:V->Option β}(t:VR X a p)(hi:VR X i q)(e:Ms P ty a i K=zo x):∃ v w,K v=zo x/\Pi.Bn P X.h ty p q=zo (.val w X.h)/\VR X v w:=by
 unfold Ms at e;split at e
 ·rename_i len L cs r;replace e:=AD e;obtain⟨J,g,e⟩:=e;replace e:=C9 hi e;obtain⟨k,e,o⟩:=e;obtain⟨y,rfl,j⟩:=t.agg_inv;split at e
  ·rename_i s l c;unfold PI at c;split at c
   ·rename_i O D n;cases hc:(aa J 1&&ae 4 len)with
    |false=>rw[hc]at c;cases c
    |true=>
     rw[hc]at c;obtain⟨l',E,z⟩:=ca.1 c;cases z;obtain⟨M,I,N⟩:=Ge j E;replace e:=AI e;obtain⟨f,e⟩:=e;rw[ac]at hc;have G:=Nat.eq_of_beq_eq_true hc.1;subst G;have d:k<len:=by simpa[I8]using f
     refine⟨.int s (ID l k),.int s (ID l k),e,?_,by simp[VR]⟩;unfold Pi.Bn;have m:ae k len=zt:=by simpa using d
     simp only[r,o,m,zb,g];refine A7 ?_;unfold Pi.part;simp only[n,g]
     have C:y[k]?=zo (.int s (ID l k)):=by
      rw[<- bE d,I,cy]
      simp_all[ID]
     have u:(y.drop (k*1))[0]?=zo (.int s (ID l k)):=by
      rw[aJ,aZ,dc,C]
     grind
   ·cases c
  replace e:=Gt e;obtain⟨e,_,f⟩:=e;replace e:=AD e;obtain⟨v,F,e⟩:=e;obtain⟨w,A,B⟩:=Bg (j.drop _) F;refine⟨v,w,e,?_,B⟩;unfold Pi.Bn;have m:ae k len=zt:=by simpa using f
  simp only[r,o,m,zb,g];exact A7 A
 ·rename_i l r;replace e:=C9 hi e;obtain⟨k,e,o⟩:=e;replace e:=Gf e;obtain⟨b,m,e⟩:=e;simp only[VR]at t;subst t;refine⟨_,_,e,?_,by simp only[VR];rfl⟩;unfold Pi.Bn;simp only[r,o,AM,m];rfl
 ·cases e
theorem Py(r:RH X h n){ty:TypeId}{a:V}{p:PV}{K:Int->Option β}{q:Array TypeId}(F:q[0]?=zo ty)(b:VR X a p)(e:Px P h ty a K=zo x)(id:Nat):∃ m,K m=zo x/\Pi.AH P X.h id .len q [p]=zo (.val (.int .i64 m) X.h):=by
 unfold Px at e;unfold Pi.AH;simp only[F];split at e
 ·rename_i d;split at e
  ·rename_i k g c l G A;simp only[VR]at b;obtain⟨pid,m,i,rfl⟩:=b;have s:=r.blk _ _ A;rw[i]at s;obtain⟨_,_,es,o,B,y,z⟩:=s;cases o;refine⟨_,e,?_⟩;simp only[d,y,K7,AQ,z.length]
  ·cases e
 ·rename_i d;simp only[VR]at b;subst b;exact⟨_,e,by simp only[d]⟩
 ·rename_i d;exact⟨_,e,by simp only[d]⟩
 ·rename_i d;simp only[VR]at b;subst b;exact⟨_,e,by simp only[d]⟩
 ·rename_i f g c l d;simp only[VR]at b;refine⟨_,e,?_⟩;rcases b with⟨rfl,rfl⟩|⟨C,w,rfl,_,i⟩|⟨pid,off,len,w,ex,fz,rfl,_,i,o,B,_,y⟩
  ·simp only[d];rfl
  ·simp only[d,K7,AQ,i.length]
  ·simp only[d,K7,AQ,y.length];have:((w.drop off).take len).length=len:=by simp;omega
   rw[this]
 ·rename_i f es d;simp only[VR]at b;obtain⟨C,w,rfl,_,i⟩:=b;exact⟨_,e,by simp only[d,i.length]⟩
 ·rename_i j d;split at e
  ·rename_i g c l ex fz G A;simp only[VR]at b;have s:=r.blk _ _ A;cases u:X.π j with
   |none=>rw[u]at b;exact b.elim
   |some t=>
    rw[u]at b s;refine⟨_,e,?_⟩;rcases s with⟨pid,len,w,D,i,o,B,y,z,I,E⟩|⟨i,_,o⟩|⟨w,i,_,_,o⟩
    ·cases i;simp only at b;subst b;simp only[d,K7,AQ,E.length,z]
    ·cases i;simp only at b;subst b;subst o;simp only[d];rfl
    ·cases i;simp only at b;subst b;simp only[d,K7,AQ,o.length]
  ·cases e
 ·rename_i d;simp only[VR]at b;obtain⟨pid,m,i,rfl⟩:=b;exact⟨_,e,by simp only[d];rfl⟩
 ·rename_i l d;simp only[VR]at b;subst b;exact⟨_,e,by simp only[d];rfl⟩
 ·cases e
theorem RN(r:RH X h n){ty:TypeId}{a:V}{p:PV}{K:Int->Option β}{b:Array TypeId}(d:b[0]?=zo ty)(c:VR X a p)(e:TN P h ty a K=zo x)(id:Nat):∃ m,K m=zo x/\Pi.AH P X.h id .len b [p]=zo (.val (.int .i64 m) X.h):=
 Py r d c.norm e id
end
end
end Go.Proofs.YtoefnfbpoabinaaGreatDoor.Sv
