/- A part of the evaluator of the model's code for any program, and of the proof that it is sound. No condition. -/
import GoSem.Step
import Derived.WalkKit
import Derived.Laws.BytesString
set_option linter.all false
open List renaming drop_drop->bO, foldl_cons->cM, getElem?_append->aV, getElem?_drop->aJ, getElem?_eq_getElem->ah, getElem?_eq_some_iff->an, getElem?_set->aR, getElem?_take->aG, getElem_drop->cz, length_cons->bu, mem_append_left->ax, mem_append_right->am, mem_iff_getElem?->bn, range'->cp, replicate->aE
open Nat renaming add_assoc->bw, add_mul->aX, add_zero->aZ, beq->aa, beq_eq->bq, ble->ad, blt->ae, eq_of_beq_eq_true->ai, le_of_ble_eq_true->ap, le_of_eq->cZ, le_refl->ab, le_trans->aw, lor->bR, mul_comm->c0, mul_le_mul_right->aA, pow->cK, sub_self->da, succ_mul->db, succ_ne_zero->cP, zero_add->aO
open Array renaming foldl_toList->cu, getElem?_eq_getElem->ak, getElem?_extract->cb, getElem?_setIfInBounds->bT, range->bh
open Option renaming getD_some->aD, isSome_iff_exists->bD, map_some->aC
open Bool renaming and_eq_true->ac
open UInt8 renaming ofNat->bm
open ByteArray renaming empty->ck
open BitVec renaming ofInt->az
open Option renaming some->zo, none->zn
open Bool renaming true->zt, false->zf
namespace Go.Proofs.YtoefnfbpoabinaaGreatDoor
theorem zy{c:Prop}{h:Decidable c}(p:c){α:Sort _}{t e:α}:ite c t e=t:=if_pos p
theorem zx{c:Prop}{h:Decidable c}(p:¬c){α:Sort _}{t e:α}:ite c t e=e:=if_neg p
theorem zb{α:Sort _}{a b:α}:cond true a b=a:=rfl
theorem zj{α:Sort _}{a b:α}:cond false a b=b:=rfl
end Go.Proofs.YtoefnfbpoabinaaGreatDoor
namespace Go.Proofs.YtoefnfbpoabinaaGreatDoor.Sv
inductive Ty where
 |int (k:IntKind)
 |bool
 |str
 |unit
 |pair (a b:Ty)
 |sl (g:Bool) (c:Ty)
 deriving DecidableEq
@[reducible] def Ty.den:Ty->Type
 |.int _=>Int
 |.bool=>Bool
 |.str=>List UInt8
 |.unit=>Unit
 |.pair a b=>a.den×b.den
 |.sl _ c=>List c.den
end Go.Proofs.YtoefnfbpoabinaaGreatDoor.Sv
namespace Go.Proofs.YtoefnfbpoabinaaGreatDoor.Pi
section
open Sv (Ty)
inductive PV where
 |bool (b:Bool)
 |int (k:IntKind) (n:Int)
 |str (l:List UInt8)
 |nilp|nils|nilm|nilf|nili
 |agg (cs:List PV)
 |tup (vs:List PV)
 |lst (full:Bool) (es:List PV)
 |own (id off len:Nat)
 |ptr (id off:Nat)
 |ept (id i off:Nat)
 |view (cs:List PV)
 |fn (f:Fn) (first captured:List PV)
 |yl (id:Nat)
 |ifc (t:TypeId) (v:PV)
 |mp (id:Nat)
 |gk (n:Nat)
 |adr (b off:Nat)
def unc:(c:Ty)->List PV->Option (c.den×List PV)
 |.int k,.int k' n::r=>bif k == k' then zo (n,r)else zn
 |.bool,.bool b::r=>zo (b,r)
 |.str,.str s::r=>zo (s,r)
 |.unit,r=>zo ((),r)
 |.pair a b,r=>match unc a r with
  |some (x,r)=>match unc b r with
   |some (y,r)=>zo ((x,y),r)
   |none=>zn
  |none=>zn
 |_,_=>zn
def NV:(c:Ty)->c.den->List PV
 |.int k,n=>[.int k n]
 |.bool,b=>[.bool b]
 |.str,s=>[.str s]
 |.unit,_=>[]
 |.pair a b,x=>NV a x.1++NV b x.2
 |.sl _ _,_=>[]
def UE(c:Ty):List PV->Option (List c.den)
 |[]=>zo []
 |.agg cs::l=>match unc c cs,UE c l with
  |some (x,[]),zo r=>zo (x::r)
  |_,_=>zn
 |_=>zn
inductive Pr where
 |is (same:List TypeId)
 |as (tt:List (TypeId×TypeId)) (plain:List TypeId)
 |cmp
 |kn (b:Bool)
 |srt (g:FuncId) (c:Ty) (F:List c.den->Option (List c.den)) (hF:∀ l l',F l=zo l'->l'.length=l.length)
class Gl where
 g:Nat->Option (List PV)
 pr:FuncId->Option Pr
variable[Gl]
structure PE where
 v:PV
 recovered:Bool
inductive UM where
 |ret
 |pan (ch:List PE)
inductive DF where
 |call (f:PV) (args:List PV)
 |bi (b:Builtin) (ats:Array TypeId) (ty:TypeId) (args:List PV)
 |col (id:Nat)
inductive Ex where
 |normal
 |exit (id:Nat)
 |goto (l:Nat)
 |ret
 |panic (v:PV)
inductive T (α:Type) where
 |lf
 |nd (l:T α) (v:Option α) (r:T α)
def T.get{α:Type}:T α->Nat->Option α
 |.lf,_=>zn
 |.nd l v r,k=>bif aa k 0 then v else bif aa (k % 2) 1 then l.get (k / 2)else r.get (k / 2-1)
def T.put{α:Type}:Nat->T α->Nat->α->T α
 |0,t,_,_=>t
 |n+1,.lf,k,x=>bif aa k 0 then .nd .lf (zo x) .lf else bif aa (k % 2) 1 then .nd (T.put n .lf (k / 2) x) zn .lf else .nd .lf zn (T.put n .lf (k / 2-1) x)
 |n+1,.nd l v r,k,x=>bif aa k 0 then .nd l (zo x) r else bif aa (k % 2) 1 then .nd (T.put n l (k / 2) x) v r else .nd l v (T.put n r (k / 2-1) x)
inductive Blk where
 |box (cs:List PV) (fz:Bool)
 |row (es:List PV) (exact fz:Bool)
 |mp (es:List (PV×PV))
 |lp (st:Nat) (pend:Option Code) (nt:Nat) (t:T PV) (ps:List Nat) (asg body:Code) (d:Nat)
 |df (ds:Option (List DF))
 |dead
structure Hp where
 m:T Blk
 nx:Nat
def Hp.get(h:Hp)(id:Nat):Option Blk:=h.m.get id
def Hp.set(h:Hp)(id:Nat)(b:Blk):Option Hp:=bif ae id (id+1)then zo { h with m:=T.put (id+1) h.m id b }else zn
structure Fr where
 t:T PV
 nt:Nat
 ds:List DF
 up:Option UM
 ro:Option Nat
def Hp.new(h:Hp)(id:Nat)(b:Blk):Option Hp:=match h.m.get id with
 |none=>h.set id b
 |some _=>zn
def lget{α:Type}:List α->Nat->Option α
 |[],_=>zn
 |a::l,k=>bif aa k 0 then zo a else lget l (k-1)
def lset{α:Type}:List α->Nat->α->List α
 |[],_,_=>[]
 |a::l,k,x=>bif aa k 0 then x::l else a::lset l (k-1) x
def BH(cs:List PV)(off:Nat)(x:List PV):List PV:=cs.take off++(x++cs.drop (off+x.length))
def PV.cells:PV->List PV
 |.agg cs=>cs
 |.tup _=>[]
 |v=>[v]
def Ka(a:Bool)(cs:List PV):Option PV:=
 bif a then zo (.agg cs)else match cs with
  |[c]=>zo c
  |_=>zn
def C1:Value->Option PV
 |.bool b=>zo (.bool b)
 |.int k n=>zo (.int k n)
 |.string s=>zo (.str s.data.toList)
 |.pointer zn=>zo .nilp
 |.slice zn 0 0=>zo .nils
 |.map zn=>zo .nilm
 |.nilFunc=>zo .nilf
 |.nilIface=>zo .nili
 |.func (.func f) first cap=>if first.isEmpty&&cap.isEmpty then zo (.fn (.func f) [] [])else zn
 |_=>zn
def cellsOf:List Value->Option (List PV)
 |[]=>zo []
 |v::l=>match C1 v,cellsOf l with
  |some p,zo ps=>zo (p::ps)
  |_,_=>zn
def D8:Value->Option PV
 |.agg cs=>(cellsOf cs.toList).map .agg
 |.tuple vs=>bif vs.isEmpty then zo (.tup [])else zn
 |.iface t v=>match C1 v with
  |some p=>zo (.ifc t p)
  |none=>zn
 |v=>C1 v
section
variable(P:Program)
def AU(t:TypeId):Option Nat:=(P.info? t).map (·.size)
def Hz(t:TypeId):Option Bool:=match P.underlying t with
 |some (.struct _)|some (.array _ _)=>zo zt
 |some _=>zo zf
 |none=>zn
def zeroCells(t:TypeId):Option (List PV):=match P.info? t with
 |some i=>match i.zero with
  |some z=>cellsOf z.cells.toList
  |none=>zn
 |none=>zn
def part(t:TypeId)(cs:List PV):Option PV:=match Hz P t,AU P t with
 |some zt,zo n=>bif ad n cs.length then zo (.agg (cs.take n))else zn
 |some zf,zo _=>match cs with
  |c::_=>zo c
  |[]=>zn
 |_,_=>zn
end
def CO(t:T PV):Operand->Option PV
 |.tmp k=>zo ((t.get k).getD (.tup []))
 |.const v=>D8 v
 |.func f=>zo (.fn (.func f) [] [])
 |.global g=>(Gl.g g).map .view
def MK(t:T PV):List Operand->Option (List PV)
 |[]=>zo []
 |o::l=>match CO t o,MK t l with
  |some p,zo ps=>zo (p::ps)
  |_,_=>zn
def Oz(c:BinOp)(k:IntKind)(a b:Int):Option PV:=match c with
 |.add=>zo (.int k (k.wrap (a+b)))
 |.sub=>zo (.int k (k.wrap (a-b)))
 |.mul=>zo (.int k (k.wrap (a*b)))
 |.quo=>bif b == 0 then zn else zo (.int k (k.wrap (a.tdiv b)))
 |.rem=>bif b == 0 then zn else zo (.int k (a.tmod b))
 |.eql=>zo (.bool (a == b))
 |.neq=>zo (.bool (a != b))
 |.lss=>zo (.bool (decide (a<b)))
 |.leq=>zo (.bool (decide (a<=b)))
 |.gtr=>zo (.bool (decide (a>b)))
 |.geq=>zo (.bool (decide (a>=b)))
 |.and=>zo (.int k (k.wrap (az k.bits a &&& az k.bits b).toNat))
 |.or=>zo (.int k (k.wrap (az k.bits a ||| az k.bits b).toNat))
 |.xor=>zo (.int k (k.wrap (az k.bits a ^^^ az k.bits b).toNat))
 |_=>zn
def HT(c:BinOp)(k:IntKind)(a b:Int):Option PV:=bif decide (b<0)then zn else match c with
 |.shl=>zo (.int k (k.wrap (a*2 ^ (min b.toNat k.bits))))
 |.shr=>zo (.int k (a.fdiv (2 ^ (min b.toNat k.bits))))
 |_=>zn
def QQ(c:BinOp)(a b:List UInt8):Option PV:=match c with
 |.add=>bif ad (a.length+b.length) 1000000000 then zo (.str (a++b))else zn
 |.eql=>zo (.bool (a == b))
 |.neq=>zo (.bool (!(a == b)))
 |.lss=>zo (.bool (Op.bytesLess a b))
 |.leq=>zo (.bool (Op.bytesLess a b||a == b))
 |.gtr=>zo (.bool (!(Op.bytesLess a b||a == b)))
 |.geq=>zo (.bool (!Op.bytesLess a b))
 |_=>zn
def U4:PV->PV->Option Bool
 |.bool a,.bool b=>zo (a == b)
 |.int k a,.int k' b=>bif k == k' then zo (a == b)else zn
 |.str a,.str b=>zo (a == b)
 |_,_=>zn
mutual
def Nx(P:Program):Nat->TypeId->PV->PV->Option Bool
 |0,_,_,_=>zn
 |d+1,t,x,y=>match P.underlying t with
  |some .bool=>match x,y with
   |.bool a,.bool b=>zo (a == b)
   |_,_=>zn
  |some (.int _)=>match x,y with
   |.int k a,.int k' b=>bif k == k' then zo (a == b)else zn
   |_,_=>zn
  |some .string=>match x,y with
   |.str a,.str b=>zo (a == b)
   |_,_=>zn
  |some (.pointer el)=>match x,y with
   |.nilp,.nilp=>zo zt
   |.nilp,.ptr _ _ | .nilp,.view _ | .nilp,.ept _ _ _ | .ptr _ _,.nilp | .view _,.nilp | .ept _ _ _,.nilp=>zo zf
   |.gk a,.gk b=>bif aa a b&&(AU P el).isSome then zo zt else zn
   |.ptr a i,.ptr b j=>bif (aa a b&&aa i j)&&(AU P el).isSome then zo zt else zn
   |_,_=>zn
  |some (.slice _)=>match x,y with
   |.nils,.nils=>zo zt
   |.nils,.lst _ _ | .lst _ _,.nils | .nils,.own _ _ _ | .own _ _ _,.nils=>zo zf
   |_,_=>zn
  |some (.func _ _ _)=>match x,y with
   |.nilf,.nilf=>zo zt
   |.nilf,.fn _ _ _ | .fn _ _ _,.nilf=>zo zf
   |_,_=>zn
  |some (.interface _)=>match x,y with
   |.nili,.nili=>zo zt
   |.nili,.ifc _ _ | .ifc _ _,.nili=>zo zf
   |.ifc t a,.ifc t' b=>bif aa t t' then(match P.info? t with
     |some i=>bif i.comparable then Nx P d t a b else zn
     |none=>zn)else zo zf
   |_,_=>zn
  |some (.struct fs)=>match x,y with
   |.agg a,.agg b=>bif P.stoodInHeld t then zn else JA P d fs.toList a b
   |_,_=>zn
  |some (.array n e)=>match x,y with
   |.agg a,.agg b=>bif (AU P e).isSome then Km P d n e a b else zn
   |_,_=>zn
  |_=>zn
def JA(P:Program):Nat->List Field->List PV->List PV->Option Bool
 |0,_,_,_=>zn
 |_+1,[],_,_=>zo zt
 | d + 1, f :: fs, a, b => bif f.name == "_" then JA P d fs a b else match part P f.type (a.drop f.offset), part P f.type (b.drop f.offset) with
  |some x,zo y=>(match Nx P d f.type x y with
   |some zt=>JA P d fs a b
   |r=>r)
  |_,_=>zn
def Km(P:Program):Nat->Nat->TypeId->List PV->List PV->Option Bool
 |0,_,_,_,_=>zn
 |_+1,0,_,_,_=>zo zt
 |d+1,n+1,e,a,b=>match AU P e,part P e a,part P e b with
  |some s,zo x,zo y=>(match Nx P d e x y with
   |some zt=>Km P d n e (a.drop s) (b.drop s)
   |r=>r)
  |_,_,_=>zn
end
def FD:Nat:=64
def I9(P:Program)(c:BinOp)(ty:TypeId)(x y:PV):Option PV:=match x,y with
 |.int k a,.int k' b=>match c with
  |.shl | .shr=>HT c k a b
  |_=>bif k == k' then Oz c k a b else zn
 |.str a,.str b=>QQ c a b
 |x,y=>match c with
  |.eql=>(Nx P FD ty x y).map .bool
  |.neq=>(Nx P FD ty x y).map λr=>.bool (!r)
  |_=>zn
def Tx(a:UnOp):PV->Option PV
 |.bool b=>match a with
  |.not=>zo (.bool (!b))
  |_=>zn
 |.int k n=>match a with
  |.neg=>zo (.int k (k.wrap (0-n)))
  |_=>zn
 |_=>zn
def AB(f:PV->Option (PV×List Nat)):List PV->Option (List PV×List Nat)
 |[]=>zo ([],[])
 |p::ps=>match f p,AB f ps with
  |some (q,a),zo (qs,b)=>zo (q::qs,a++b)
  |_,_=>zn
def AW(h:Hp):Nat->PV->Option (PV×List Nat)
 |0,_=>zn
 |n+1,v=>match v with
  |.agg cs=>(AB (AW h n) cs).map λ(x,l)=>(.agg x,l)
  |.tup cs=>(AB (AW h n) cs).map λ(x,l)=>(.tup x,l)
  |.ifc t x=>(AW h n x).map λ(x,l)=>(.ifc t x,l)
  |.fn f a b=>match AB (AW h n) a,AB (AW h n) b with
   |some (a,l),zo (b,m)=>zo (.fn f a b,l++m)
   |_,_=>zn
  |.own id off len=>match h.get id with
   |some (.row es _ _)=>bif ad (off+len) es.length then(AB (AW h n) ((es.drop off).take len)).map λ(x,l)=>(.lst zf x,id::l)else zn
   |_=>zn
  |.ptr id off=>match h.get id with
   |some (.box cs _)=>bif ae off cs.length then(AB (AW h n) (cs.drop off)).map λ(x,l)=>(.view x,id::l)else zn
   |_=>zn
  |.ept id i off=>match h.get id with
   |some (.row es _ _)=>match lget es i with
    |some e=>bif ae off e.cells.length then(AB (AW h n) (e.cells.drop off)).map λ(x,l)=>(.view x,id::l)else zn
    |none=>zn
   |_=>zn
  |.yl _ | .mp _=>zn
  |v=>zo (v,[])
def AT:Nat:=12
def Ap(h:Hp):List PV->Option (List PV×List Nat)
 |[]=>zo ([],[])
 |p::ps=>match AW h AT p,Ap h ps with
  |some (q,a),zo (qs,b)=>zo (q::qs,a++b)
  |_,_=>zn
def freeze(h:Hp):List Nat->Option Hp
 |[]=>zo h
 |id::l=>match h.get id with
  |some (.box cs _)=>match h.set id (.box cs zt)with
   |some h=>freeze h l
   |none=>zn
  |some (.row es ex _)=>match h.set id (.row es ex zt)with
   |some h=>freeze h l
   |none=>zn
  |_=>zn
mutual
def flat:PV->Bool
 |.agg cs=>BS cs
 |.tup cs=>BS cs
 |.ifc _ v=>flat v
 |.lst _ es=>es.isEmpty
 |.view _ | .fn _ _ _ | .own _ _ _ | .ptr _ _ | .ept _ _ _ | .yl _ | .mp _ | .gk _=>zf
 |_=>zt
def BS:List PV->Bool
 |[]=>zt
 |p::ps=>flat p&&BS ps
end
inductive R where
 |val (v:PV) (h:Hp)
 |skip (h:Hp)
 |call (f:FuncId) (args:List PV)
 |yield (id:Nat) (args:List PV)
 |pan (v:PV)
 |rcv
 |dfr (d:DF)
def Ff(cs:List PV):List (Nat×Nat×List PV)->Option (List PV)
 |[]=>zo cs
 |(off,n,x)::r=>bif aa x.length n&&ad (off+n) cs.length then Ff (BH cs off x) r else zn
def Fe(a:Nat)(es:List PV):List (Nat×PV)->Option (List PV)
 |[]=>zo es
 |(i,v)::r=>bif aa v.cells.length a&&ae i es.length then Fe a (lset es i v) r else zn
def CB(t:T PV):List (Nat×Operand)->Option (List (Nat×PV))
 |[]=>zo []
 |(i,o)::l=>match CO t o,CB t l with
  |some p,zo ps=>zo ((i,p)::ps)
  |_,_=>zn
def EC(P:Program)(a:Array Field):List (Nat×PV)->Option (List (Nat×Nat×List PV))
 |[]=>zo []
 |(i,p)::l=>match a[i]?,EC P a l with
  |some f,zo r=>(match AU P f.type with
   |some n=>bif ae 0 n then zo ((f.offset,n,p.cells)::r)else zn
   |none=>zn)
  |_,_=>zn
def FQ(a:Nat):List (Nat×PV)->List (Nat×Nat×List PV)
 |[]=>[]
 |(i,p)::l=>(i*a,a,p.cells)::FQ a l
def Fb:PV->Option Nat
 |.int _ n=>bif decide (0<=n)then zo n.toNat else zn
 |_=>zn
def E9:PV->Option Nat
 |.int .i64 n=>bif decide (0<=n)then zo n.toNat else zn
 |_=>zn
def KR:PV->Bool
 |.agg _=>zf
 |.tup _=>zf
 |_=>zt
def A2(h:Hp):PV->Option (List PV)
 |.nils=>zo []
 |.lst _ es=>zo es
 |.own id off len=>match h.get id with
  |some (.row es _ _)=>bif ad (off+len) es.length then zo ((es.drop off).take len)else zn
  |some (.box cs _)=>bif ad (off+len) cs.length&&((cs.drop off).take len).all KR then zo ((cs.drop off).take len)else zn
  |_=>zn
 |_=>zn
def KV:TypeDesc->PV->PV->Option Bool
 |.bool,.bool a,.bool b=>zo (a == b)
 |.int _,.int k a,.int k' b=>bif k == k' then zo (a == b)else zn
 |.string,.str a,.str b=>zo (a == b)
 |_,_,_=>zn
def Hr(d:TypeDesc):List (PV×PV)->PV->Option (Option PV)
 |[],_=>zo zn
 |(k,v)::l,x=>match KV d x k with
  |some zt=>zo (zo v)
  |some zf=>Hr d l x
  |none=>zn
def Iq(d:TypeDesc):List (PV×PV)->PV->PV->Option (List (PV×PV))
 |[],x,y=>zo [(x,y)]
 |(k,v)::l,x,y=>match KV d x k with
  |some zt=>zo ((x,y)::l)
  |some zf=>match Iq d l x y with
   |some l=>zo ((k,v)::l)
   |none=>zn
  |none=>zn
def Io(d:TypeDesc):List (PV×PV)->PV->Option (List (PV×PV))
 |[],_=>zo []
 |(k,v)::l,x=>match KV d x k with
  |some zt=>zo l
  |some zf=>match Io d l x with
   |some l=>zo ((k,v)::l)
   |none=>zn
  |none=>zn
def Cp:TypeDesc->Bool
 |.int _ | .string | .bool=>zt
 |_=>zf
def vl(o:Option PV)(h:Hp):Option R:=o.map (R.val · h)
def Ba:Nat:=1048576
def CT(n:Nat):List PV->Bool
 |[]=>zt
 |e::_=>aa e.cells.length n
def EA(P:Program)(h:Hp)(id:Nat)(a:TypeId)(s x:PV):Option R:=
 match P.underlying a with
 |some (.slice e)=>match AU P e,P.info? e,A2 h x,zeroCells P e with
  |some sz,zo ti,zo new,zo z=>
   bif !(new.all λv=>aa v.cells.length sz) || !ad ti.bytes Ba || !aa z.length sz || !ae 0 sz then zn else
   match s with
   |.nils=>bif new.isEmpty then zo (.val .nils h)else bif ad new.length Ba then(h.new id (.row new zf zf)).map λh=>.val (.own id 0 new.length) h else zn
   |.lst zt es=>bif new.isEmpty then zo (.val (.lst zt es) h)else bif ad (es.length+new.length) Ba&&CT sz es then(h.new id (.row (es++new) zf zf)).map λh=>.val (.own id 0 (es.length+new.length)) h else zn
   |.own j off len=>match h.get j with
    |some (.row es ex fz)=>
     bif !ad (len+new.length) Ba || !ad (off+len) es.length || !CT sz es then zn else
     bif ex then
      bif new.isEmpty then zo (.val (.own j off len) h)else bif ad (off+len+new.length) es.length then
       (bif fz then zn else(h.set j (.row (BH es (off+len) new) zt zf)).map λh=>.val (.own j off (len+new.length)) h)
      else(h.new id (.row ((es.drop off).take len++new) zf zf)).map λh=>.val (.own id 0 (len+new.length)) h
     else bif aa len es.length&&aa off 0&&ae 0 len then
      match h.set j .dead with
      |some h=>(h.new id (.row (es++new) zf fz)).map λh=>.val (.own id 0 (len+new.length)) h
      |none=>zn
     else zn
    |_=>zn
   |_=>zn
  |_,_,_,_=>zn
 |_=>zn
def B9(f:Int->Int->Int):Int->List PV->IntKind->Option Int
 |m,[],_=>zo m
 |m,.int k y::l,k'=>bif k == k' then B9 f (f m y) l k' else zn
 |_,_,_=>zn
def AH(P:Program)(h:Hp)(id:Nat)(b:Builtin)(c:Array TypeId)(args:List PV):Option R:=
 match b with
 |.len=>match args,c[0]? with
  |[x],zo t=>match P.underlying t,x with
   |some (.map _ _),.mp j=>(match h.get j with
    |some (.mp es)=>zo (.val (.int .i64 es.length) h)
    |_=>zn)
   |some (.map _ _),.nilm=>zo (.val (.int .i64 0) h)
   |some (.array n _),_=>zo (.val (.int .i64 n) h)
   |some (.slice _),.nils=>zo (.val (.int .i64 0) h)
   |some (.slice _),.lst _ es=>zo (.val (.int .i64 es.length) h)
   |some (.slice _),.own _ _ len=>zo (.val (.int .i64 len) h)
   |some .string,.str l=>zo (.val (.int .i64 l.length) h)
   |_,_=>zn
  |_,_=>zn
 |.cap=>match args,c[0]? with
  |[x],zo t=>match P.underlying t,x with
   |some (.slice _),.own j off _=>(match h.get j with
    |some (.row es zt _)=>zo (.val (.int .i64 (es.length-off:Nat)) h)
    |_=>zn)
   |some (.slice _),.nils=>zo (.val (.int .i64 0) h)
   |_,_=>zn
  |_,_=>zn
 |.append=>match args,c.toList with
  |[s,x],[t,t']=>bif aa t t' then EA P h id t s x else zn
  |_,_=>zn
 |.copy=>match args,c[0]? with
  |[.own j off len,x],zo t=>match P.underlying t,h.get j,A2 h x with
   |some (.slice e),zo (.row es ex zf),zo new=>match AU P e with
    |some f=>bif !(new.all λv=>aa v.cells.length f) || !ad (off+len) es.length || !ae 0 f || !CT f es then zn else
     (h.set j (.row (BH es off (new.take len)) ex zf)).map λh=>.val (.int .i64 (Nat.min new.length len:Nat)) h
    |none=>zn
   |_,_,_=>zn
  |_,_=>zn
 |.clear=>match args,c[0]? with
  |[.mp j],zo t=>match P.underlying t,h.get j with
   |some (.map _ _),zo (.mp _)=>(h.set j (.mp [])).map λh=>.val (.tup []) h
   |_,_=>zn
  |[.nils],zo t | [.lst _ []],zo t=>match P.underlying t with
   |some (.slice _)=>zo (.val (.tup []) h)
   |_=>zn
  |[.own j off len],zo t=>match P.underlying t,h.get j with
   |some (.slice e),zo (.row es ex zf)=>match AU P e,Hz P e,zeroCells P e with
    |some f,zo ag,zo z=>match Ka ag z with
     |some g=>bif !ad (off+len) es.length || !ae 0 f || !CT f es || !aa z.length f then zn else(h.set j (.row (BH es off (aE len g)) ex zf)).map λh=>.val (.tup []) h
     |none=>zn
    |_,_,_=>zn
   |_,_=>zn
  |_,_=>zn
 |.delete=>match args,c[0]? with
  |[.mp j,k],zo t=>match P.underlying t,h.get j with
   |some (.map kt _),zo (.mp es)=>match P.underlying kt with
    |some d=>bif !Cp d then zn else match Io d es k with
     |some es=>(h.set j (.mp es)).map λh=>.val (.tup []) h
     |none=>zn
    |none=>zn
   |_,_=>zn
  |_,_=>zn
 |.max=>match args with
  |.int k a::r=>(B9 (λm y=>if y>m then y else m) a r k).map λm=>.val (.int k m) h
  |[.str a,.str b]=>zo (.val (.str (bif !Op.bytesLess a b then a else b)) h)
  |_=>zn
 |.min=>match args with
  |.int k a::r=>(B9 (λm y=>if y<m then y else m) a r k).map λm=>.val (.int k m) h
  |[.str a,.str b]=>zo (.val (.str (bif Op.bytesLess a b||a == b then a else b)) h)
  |_=>zn
 |.panic=>match args with
  |[.ifc t v]=>zo (.pan (.ifc t v))
  |_=>zn
 |.recover=>zo .rcv
 |_=>zn
def CC(P:Program)(f:Fn)(first cap args:List PV):Option R:=match f with
 |.func g=>match P.funcs[g]? with
  | some fn => bif fn.body.isSome && !(fn.name == "runtime.NumGoroutine") then some (.call g (first ++ args ++ cap)) else none
  |none=>zn
 |.method name=>match first++args with
  |.ifc t v::rest=>match P.info? t with
   |some i=>match i.methods.find? (·.name == name)with
    |some m=>match m.path.isEmpty,m.func,P.underlying t with
     | true, some (g, true), some (.pointer _) => bif (match P.funcs[g]? with | some fn => fn.body.isSome && !(fn.name == "runtime.NumGoroutine") | none => false) then some (.call g (v :: rest)) else none
     |true,zo (_,zf),zo (.pointer _)=>zn
     | true, some (g, false), some _ => bif (match P.funcs[g]? with | some fn => fn.body.isSome && !(fn.name == "runtime.NumGoroutine") | none => false) then some (.call g (v :: rest)) else none
     |_,_,_=>zn
    |none=>zn
   |none=>zn
  |_=>zn
 |_=>zn
def Pf(t:T PV):Option Operand->Option (Option PV)
 |none=>zo zn
 |some o=>(CO t o).map zo
def Ca(d:Nat):Option PV->Option Nat
 |none=>zo d
 |some p=>Fb p
def Dk(h:Hp)(c a b:PV):Option R:=match c with
 |.bool zt=>zo (.val a h)
 |.bool zf=>zo (.val b h)
 |_=>zn
def Cm(P:Program)(h:Hp)(id:Nat)(e:TypeId):Option R:=match zeroCells P e with
 |some cs=>(h.new id (.box cs zf)).map λh=>.val (.ptr id 0) h
 |none=>zn
def Fc(h:Hp)(id:Nat)(v:PV):Option R:=match v with
 |.tup _=>zn
 |v=>(h.new id (.box v.cells zf)).map λh=>.val (.ptr id 0) h
def By(P:Program)(h:Hp)(ty:TypeId)(a:List (Nat×PV)):Option R:=
 match zeroCells P ty,P.underlying ty with
 |some z,zo (.struct fs)=>bif fs.toList.all λf=>(AU P f.type).isSome then
   (match EC P fs a with
   |some pl=>(Ff z pl).map λcs=>.val (.agg cs) h
   |none=>zn)else zn
 |some z,zo (.array _ e)=>match AU P e with
  |some n=>bif ae 0 n then(Ff z (FQ n a)).map λcs=>.val (.agg cs) h else zn
  |none=>zn
 |_,_=>zn
def Ah(P:Program)(h:Hp)(ty:TypeId)(len:Nat)(a:List (Nat×PV)):Option R:=
 match P.underlying ty with
 |some (.slice e)=>match AU P e,Hz P e,zeroCells P e with
  |some n,zo ag,zo z=>match Ka ag z with
   |some b=>bif !ae 0 n || !ad (len*n) 16777216 || !aa z.length n then zn else
    (match Fe n (aE len b) a with
    |some es=>match Ap h es with
     |some (es,l)=>(freeze h l).map λh=>.val (.lst zt es) h
     |none=>zn
    |none=>zn)
   |none=>zn
  |_,_,_=>zn
 |_=>zn
def CD(P:Program)(h:Hp)(ty:TypeId)(p:PV):Option R:=match p with
 |.ptr j off=>match h.get j with
  |some (.box cs _)=>vl (part P ty (cs.drop off)) h
  |_=>zn
 |.view cs=>vl (part P ty cs) h
 |.ept j i off=>match h.get j with
  |some (.row es _ _)=>match lget es i with
   |some e=>vl (part P ty (e.cells.drop off)) h
   |none=>zn
  |_=>zn
 |_=>zn
def A3(P:Program)(h:Hp)(ty:TypeId)(p v:PV):Option R:=match AU P ty with
 |some n=>bif !ae 0 n || !aa v.cells.length n then zn else match p with
  |.ptr j off=>match h.get j with
   |some (.box cs zf)=>bif ad (off+n) cs.length then(h.set j (.box (BH cs off v.cells) zf)).map .skip else zn
   |_=>zn
  |.ept j i off=>match h.get j with
   |some (.row es ex zf)=>match lget es i with
    |some e=>bif ad (off+n) e.cells.length then
      (match e with
      |.agg cs=>(h.set j (.row (lset es i (.agg (BH cs off v.cells))) ex zf)).map .skip
      |_=>(match v.cells with
       |[c]=>bif aa off 0&&aa e.cells.length 1 then(match c with
        |.agg _=>zn
        |.tup _=>zn
        |c=>(h.set j (.row (lset es i c) ex zf)).map .skip)else zn
       |_=>zn))else zn
    |none=>zn
   |_=>zn
  |_=>zn
 |none=>zn
def Es(h:Hp)(p:PV):Option R:=match p with
 |.ptr a b=>zo (.val (.ptr a b) h)
 |.ept a b c=>zo (.val (.ept a b c) h)
 |.view cs=>zo (.val (.view cs) h)
 |.ifc ty v=>zo (.val (.ifc ty v) h)
 |.yl i=>zo (.val (.yl i) h)
 |.fn (.func f) a b=>zo (.val (.fn (.func f) a b) h)
 |_=>zn
def CX:Operand->Bool
 |.const _=>zt
 |_=>zf
def Dd(P:Program)(h:Hp)(c:BinOp)(ty:TypeId)(x y:Operand)(a b:PV):Option R:=match a,b with
 |.nili,.nili=>bif CX x||CX y then vl (I9 P c ty .nili .nili) h else zn
 |.agg cs,.agg ds=>bif P.eqGuardType P.depth ty then zn else vl (I9 P c ty (.agg cs) (.agg ds)) h
 |a,b=>vl (I9 P c ty a b) h
def Sj:List PV->Option (List UInt8)
 |[]=>zo []
 |.int .u8 n::l=>(Sj l).map (bm n.toNat::·)
 |_=>zn
def BJ(P:Program)(h:Hp)(b a:TypeId)(x:PV):Option R:=match x,P.underlying b,P.underlying a with
 |.int _ n,zo _,zo (.int k)=>zo (.val (.int k (k.wrap n)) h)
 |.str l,zo .string,zo .string=>zo (.val (.str l) h)
 |.lst _ es,zo (.slice e),zo .string=>match P.underlying e,Sj es with
  |some (.int .u8),zo bs=>zo (.val (.str bs) h)
  |_,_=>zn
 |_,_,_=>zn
def Ed(P:Program)(h:Hp)(ty:TypeId)(v:PV):Option R:=match P.underlying ty with
 |some (.interface _)=>zn
 |some _=>zo (.val (.ifc ty v) h)
 |none=>zn
def C2(P:Program)(h:Hp)(id:Nat)(ty:TypeId)(l c:PV):Option R:=match P.underlying ty,E9 l,E9 c with
 |some (.slice e),zo l,zo c=>match AU P e,Hz P e,zeroCells P e,P.info? e with
  |some n,zo ag,zo z,zo ti=>match Ka ag z with
   |some a=>bif ad l c&&ad c Ba&&ad ti.bytes Ba&&ae 0 n&&aa z.length n then
     (h.new id (.row (aE c a) zt zf)).map λh=>.val (.own id 0 l) h else zn
   |none=>zn
  |_,_,_,_=>zn
 |_,_,_=>zn
def Dc(h:Hp)(j off len:Nat):Option R:=match AW h AT (.own j off len)with
 |some (.lst _ xs,ids)=>(freeze h ids).map λh=>.val (.lst zt xs) h
 |_=>zn
def EE(P:Program)(h:Hp)(n:Nat)(e:TypeId)(x:PV):Option R:=match AU P e,x with
 |some s,.ptr j off=>(match h.get j with
  |some (.box cs _)=>bif aa s 1&&(ae 0 n&&aa (off+n) cs.length)then zo (.val (.own j off n) h)else zn
  |_=>zn)
 |_,_=>zn
def Ai(P:Program)(h:Hp)(ty:TypeId)(x:PV)(lo hi mx:Option PV):Option R:=match P.underlying ty,x with
 |some .string,.str s=>match mx,Ca s.length hi,Ca 0 lo with
  |none,zo hh,zo l=>bif ad hh s.length&&ad l hh then zo (.val (.str ((s.drop l).take (hh-l))) h)else zn
  |_,_,_=>zn
 |some (.slice e),x=>match AU P e with
  |none=>zn
  |some n=>match x with
   |.nils=>match Ca 0 lo,Ca 0 hi,Ca 0 mx with
    |some 0,zo 0,zo 0=>bif mx.isSome && !hi.isSome then zn else zo (.val .nils h)
    |_,_,_=>zn
   |.lst full es=>bif !CT n es then zn else match Ca 0 lo,Ca es.length hi with
    |some l,zo hh=>(match mx with
     |none=>bif ad hh es.length&&ad l hh then zo (.val (.lst (full&&aa hh es.length) ((es.drop l).take (hh-l))) h)else zn
     |some m=>match Fb m with
      |some m=>bif ad m es.length&&ad hh m&&ad l hh&&hi.isSome then zo (.val (.lst (aa hh m) ((es.drop l).take (hh-l))) h)else zn
      |none=>zn)
    |_,_=>zn
   |.own j off len=>match h.get j with
    |some (.row es ex _)=>bif !CT n es then zn else match Ca 0 lo,Ca len hi with
     |some l,zo hh=>bif !ad l hh || !ad (off+hh) es.length then zn else
      (match mx with
      |none=>bif ae (off+l) es.length then zo (.val (.own j (off+l) (hh-l)) h)else zo (.val (.lst zf []) h)
      |some m=>match Fb m with
       |some m=>bif hi.isSome&&ad hh m&&ex&&aa (off+m) es.length then
         (bif ae (off+l) es.length then zo (.val (.own j (off+l) (hh-l)) h)else zo (.val (.lst zt []) h))
        else bif hi.isSome&&aa m hh then Dc h j (off+l) (hh-l)else zn
       |none=>zn)
     |_,_=>zn
    |_=>zn
   |_=>zn
 |some (.array n e),x=>match lo,hi,mx with
  |none,zn,zn=>EE P h n e x
  |_,_,_=>zn
 |_,_=>zn
def Ax(P:Program)(h:Hp)(b:TypeId)(x:PV)(f:Nat):Option R:=match P.underlying b with
 |some (.struct fs)=>match fs[f]? with
  |some a=>match AU P a.type with
   |some n=>bif aa n 0 then zn else(match x with
    |.ptr j off=>zo (.val (.ptr j (off+a.offset)) h)
    |.ept j i off=>zo (.val (.ept j i (off+a.offset)) h)
    |.view cs=>zo (.val (.view (cs.drop a.offset)) h)
    |_=>zn)
   |none=>zn
  |none=>zn
 |_=>zn
def B7(P:Program)(h:Hp)(ty:TypeId)(x:PV)(f:Nat):Option R:=match P.underlying ty,x with
 |some (.struct fs),.agg cs=>match fs[f]? with
  |some a=>vl (part P a.type (cs.drop a.offset)) h
  |none=>zn
 |_,_=>zn
def Aq(P:Program)(h:Hp)(ty:TypeId)(x i:PV):Option R:=match P.underlying ty,Fb i with
 |some (.slice e),zo k=>match AU P e with
  |some n=>match x with
   |.lst _ es=>(match lget es k with
    |some a=>bif aa a.cells.length n then zo (.val (.view a.cells) h)else zn
    |none=>zn)
   |.own j off len=>bif ae k len then(match h.get j with
    |some (.row es _ _)=>(match lget es (off+k)with
     |some a=>bif aa a.cells.length n then zo (.val (.ept j (off+k) 0) h)else zn
     |none=>zn)
    |_=>zn)else zn
   |_=>zn
  |none=>zn
 |some (.array len e),zo k=>match AU P e with
  |some n=>bif ae k len then(match x with
   |.ptr j off=>zo (.val (.ptr j (off+k*n)) h)
   |.ept j i off=>zo (.val (.ept j i (off+k*n)) h)
   |.view cs=>zo (.val (.view (cs.drop (k*n))) h)
   |_=>zn)else zn
  |none=>zn
 |_,_=>zn
def Bn(P:Program)(h:Hp)(ty:TypeId)(x i:PV):Option R:=match P.underlying ty,x,Fb i with
 |some (.array len e),.agg cs,zo k=>bif ae k len then(match AU P e with
  |some n=>vl (part P e (cs.drop (k*n))) h
  |none=>zn)else zn
 |some .string,.str l,zo k=>match lget l k with
  |some b=>zo (.val (.int .u8 b.toNat) h)
  |none=>zn
 |_,_,_=>zn
def Bw(P:Program)(e:TypeId):Option PV:=match P.info? e with
 |some i=>match i.zero with
  |some z=>D8 z
  |none=>zn
 |none=>zn
def Lj(h:Hp):PV->Option (List (PV×PV))
 |.nilm=>zo []
 |.mp j=>match h.get j with
  |some (.mp es)=>zo es
  |_=>zn
 |_=>zn
def DK(P:Program)(h:Hp)(ty:TypeId)(m k:PV)(a:Bool):Option R:=match P.underlying ty,Lj h m with
 |some (.map kt e),zo es=>match P.underlying kt with
  |some d=>bif !Cp d then zn else match Hr d es k with
   |some r=>match (match r with
     |some v=>zo v
     |none=>Bw P e)with
    |some v=>zo (.val (bif a then .tup [v,.bool r.isSome]else v) h)
    |none=>zn
   |none=>zn
  |none=>zn
 |_,_=>zn
def CI(P:Program)(h:Hp)(ty:TypeId)(m k v:PV):Option R:=match P.underlying ty,m with
 |some (.map kt _),.mp j=>match P.underlying kt with
  |some d=>bif !Cp d then zn else match h.get j with
   |some (.mp es)=>match Iq d es k v with
    |some es=>(h.set j (.mp es)).map .skip
    |none=>zn
   |_=>zn
  |none=>zn
 |_,_=>zn
def Du(a:Bool)(v:PV):PV:=bif a then .tup [v,.bool zt]else v
def BK(P:Program)(h:Hp)(ty:TypeId)(v:PV)(b:Bool):Option R:=match P.underlying ty with
 |some (.interface want)=>match v with
  |.ifc u a=>match P.info? u with
   |some i=>match Instr.missingMethod want i.methods with
    |none=>zo (.val (Du b (.ifc u a)) h)
    |some _=>bif b then(match Bw P ty with
     |some z=>zo (.val (.tup [z,.bool zf]) h)
     |none=>zn)else zn
   |none=>zn
  |.nili=>bif b then(match Bw P ty with
   |some z=>zo (.val (.tup [z,.bool zf]) h)
   |none=>zn)else zn
  |_=>zn
 |some _=>match v with
  |.ifc u a=>bif aa u ty then zo (.val (Du b a) h)else bif b then(match Bw P ty with
   |some z=>zo (.val (.tup [z,.bool zf]) h)
   |none=>zn)else zn
  |.nili=>bif b then(match Bw P ty with
   |some z=>zo (.val (.tup [z,.bool zf]) h)
   |none=>zn)else zn
  |_=>zn
 |none=>zn
def Bh(h:Hp)(x:PV)(i:Nat):Option R:=match x with
 |.tup vs=>vl (lget vs i) h
 |_=>zn
def J7(x:PV):Option R:=match x with
 |.ifc ty v=>zo (.pan (.ifc ty v))
 |_=>zn
def H3(P:Program)(f:PV)(args:List PV):Option R:=match f with
 |.fn f a b=>CC P f a b args
 |.yl l=>zo (.yield l args)
 |_=>zn
def BF(h:Hp)(f:Fn)(a b:List PV):Option R:=match f with
 |.yield _=>zn
 |f=>zo (.val (.fn f a b) h)
def e1(t:T PV)(x:Operand)(k:PV->Option R):Option R:=match CO t x with
 |some a=>k a
 |none=>zn
def e2(t:T PV)(x y:Operand)(k:PV->PV->Option R):Option R:=match CO t x,CO t y with
 |some a,zo b=>k a b
 |_,_=>zn
def e3(t:T PV)(x y z:Operand)(k:PV->PV->PV->Option R):Option R:=match CO t x,CO t y,CO t z with
 |some a,zo b,zo c=>k a b c
 |_,_,_=>zn
def AP(P:Program)(t:T PV)(h:Hp)(id:Nat)(o:Oper):Option R:=
 match o.op with
 |.move x=>vl (CO t x) h
 |.assign x=>vl (CO t x) h
 |.pick c a b=>e3 t c a b (Dk h)
 |.alloc e=>Cm P h id e
 |.box _ x=>e1 t x (Fc h id)
 |.build ty d=>match CB t d.toList with
  |some u=>By P h ty u
  |none=>zn
 |.buildSlice ty len d=>match CB t d.toList with
  |some u=>Ah P h ty len u
  |none=>zn
 |.load ty a=>e1 t a (CD P h ty)
 |.store ty a x=>e2 t a x (A3 P h ty)
 |.nilCheck x=>e1 t x (Es h)
 |.binOp op ty x y _=>e2 t x y (Dd P h op ty x y)
 |.unOp op _ x=>e1 t x λa=>vl (Tx op a) h
 |.convert w p x=>e1 t x (BJ P h w p)
 |.makeInterface ty x=>e1 t x (Ed P h ty)
 |.makeFunc f first cap=>match MK t first.toList,MK t cap.toList with
  |some a,zo b=>BF h f a b
  |_,_=>zn
 |.makeMap _ zn=>(h.new id (.mp [])).map λh=>.val (.mp id) h
 |.makeSlice ty l c=>e2 t l c (C2 P h id ty)
 |.slice ty x lo hi mx=>match Pf t lo,Pf t hi,Pf t mx with
  |some lo,zo hi,zo mx=>e1 t x λx=>Ai P h ty x lo hi mx
  |_,_,_=>zn
 |.fieldAddr s x f=>e1 t x λx=>Ax P h s x f
 |.field ty x f=>e1 t x λx=>B7 P h ty x f
 |.indexAddr ty x i=>e2 t x i (Aq P h ty)
 |.index ty x i=>e2 t x i (Bn P h ty)
 |.lookup ty x k q=>e2 t x k λm k=>DK P h ty m k q
 |.mapUpdate ty x k v=>e3 t x k v (CI P h ty)
 |.insert ty x k v=>e3 t x k v (CI P h ty)
 |.typeAssert x _ ty q=>e1 t x λv=>BK P h ty v q
 |.extract x i=>e1 t x λx=>Bh h x i
 |.panic x=>e1 t x J7
 |.call c=>match MK t c.args.toList with
  |some args=>match c.callee with
   |.builtin b=>AH P h id b c.argTypes args
   |.value f=>e1 t f λf=>H3 P f args
   |.invoke n j=>e1 t n λr=>CC P (.method j) [r] [] args
  |none=>zn
 |.defer c=>match MK t c.args.toList with
  |some args=>match c.callee with
   |.builtin b=>zo (.dfr (.bi b c.argTypes o.type args))
   |.value f=>e1 t f λf=>match f with
    |.fn (.func g) a b=>zo (.dfr (.call (.fn (.func g) a b) args))
    |_=>zn
   |.invoke _ _=>zn
  |none=>zn
 |_=>zn
inductive Out where
 |ret (v:PV)
 |pan (ch:List PE)
inductive Tg where
 |fn (f:FuncId)
 |yl (id:Nat)
def Fr.put(fr:Fr)(a:Option Nat)(v:PV):Option Fr:=match a with
 |none=>zo fr
 |some d=>bif ae d fr.nt then zo { fr with t:=T.put 20 fr.t d v }else zn
abbrev GH:=Tg->Option UM->List PV->Hp->Option (Out×Option UM×Hp)
def A8(ops:List Oper)(t:T PV):Option (Nat×Bool)->Bool
 |none=>zt
 |some (j,want)=>match lget ops j with
  |some o=>match o.dst with
   |some d=>match t.get d with
    |some (.bool b)=>b == want
    |_=>zf
   |none=>zf
  |none=>zf
def Ag(id:Nat)(l:List Nat)(h h':Hp)(r:PV):Option (PV×Hp):=
 match (match r with
  |.own j 0 len=>(match h'.get j with
   |some (.row es ex zf)=>(match Ap h' es with
    |some (qs,l2)=>bif l2.any (aa j)then zn else zo (len,qs,ex)
    |none=>zn)
   |_=>zn)
  |_=>zn)with
 |some (len,qs,ex)=>match (bif BS qs then zo h else freeze h l)with
  |some h=>(h.new id (.row qs ex zf)).map λh=>(.own id 0 len,h)
  |none=>zn
 |none=>match AW h' AT r with
  |some (q,_)=>bif flat q then zo (q,h)else(freeze h l).map λh=>(q,h)
  |none=>zn
def A9(sh:FuncId->Bool)(rec:GH)(id:Nat)(f:FuncId)(args:List PV)(h:Hp):Option (Out×Hp):=
 bif sh f then match rec (.fn f) zn args h with
  |some (o,_,h)=>zo (o,h)
  |none=>zn
 else match Ap h args with
  |some (as,l)=>match rec (.fn f) zn as { m:=.lf,nx:=0 }with
   |some (.ret r,_,h')=>(Ag id l h h' r).map λ(q,h)=>(.ret q,h)
   |some (.pan [{ v:=e,recovered:=rc }],_,h')=>match AW h' AT e with
    |some (e,_)=>bif flat e then zo (.pan [{ v:=e,recovered:=rc }],h)else zn
    |none=>zn
   |_=>zn
  |none=>zn
def AZ(P:Program)(sh:FuncId->Bool)(rec:GH)(base:Nat)(ops:List Oper):List (Nat×Oper)->Fr->Hp->Option (Ex×Fr×Hp)
 |[],fr,h=>zo (.normal,fr,h)
 |(i,o)::r,fr,h=>
  bif A8 ops fr.t o.guard then
   match AP P fr.t h (base+i) o with
   |some (.val v h)=>match fr.put o.dst v with
    |some fr=>AZ P sh rec base ops r fr h
    |none=>zn
   |some (.skip h)=>match fr.put o.dst (.tup [])with
    |some fr=>AZ P sh rec base ops r fr h
    |none=>zn
   |some (.dfr d)=>match fr.ro with
    |none=>(match ({ fr with ds:=d::fr.ds }:Fr).put o.dst (.tup [])with
     |some fr=>AZ P sh rec base ops r fr h
     |none=>zn)
    |some _=>zn
   |some (.call f args)=>match A9 sh rec (base+i) f args h with
    |some (.ret v,h)=>(match fr.put o.dst v with
     |some fr=>AZ P sh rec base ops r fr h
     |none=>zn)
    |some (.pan [{ v:=e,recovered:=zf }],h)=>zo (.panic e,fr,h)
    |_=>zn
   |some (.yield l args)=>match rec (.yl l) zn args h with
    |some (.ret v,_,h)=>(match fr.put o.dst v with
     |some fr=>AZ P sh rec base ops r fr h
     |none=>zn)
    |_=>zn
   |some (.pan v)=>zo (.panic v,fr,h)
   |some .rcv=>match fr.ro with
    |some _=>zn
    |none=>match fr.up with
     |some (.pan ({ v,recovered:=zf }::older))=>(match ({ fr with up:=zo (.pan ({ v,recovered:=zt }::older)) }:Fr).put o.dst v with
      |some fr=>AZ P sh rec base ops r fr h
      |none=>zn)
     |_=>(match fr.put o.dst .nili with
      |some fr=>AZ P sh rec base ops r fr h
      |none=>zn)
   |none=>zn
  else match fr.put o.dst (.tup [])with
   |some fr=>AZ P sh rec base ops r fr h
   |none=>zn
def Hm{α:Type}:Nat->List α->List (Nat×α)
 |_,[]=>[]
 |n,a::l=>(n,a)::Hm (n+1) l
def AE:PV->List Nat
 |.own id _ _=>[id]
 |.ptr id _=>[id]
 |.ept id _ _=>[id]
 |.mp id=>[id]
 |_=>[]
def BT(t:T PV):List Operand->List Nat
 |[]=>[]
 |o::l=>match CO t o with
  |some p=>AE p++BT t l
  |none=>BT t l
def Ec(t:T PV)(h:Hp):List Operand->List Nat
 |[]=>[]
 |o::l=>match CO t o with
  |some p=>match AW h AT p with
   |some (_,m)=>m++Ec t h l
   |none=>Ec t h l
  |none=>Ec t h l
def Hs(h:Hp):List Nat->T Blk->T Blk
 |[],m=>m
 |id::l,m=>match h.get id with
  |some b=>bif ae id (id+1)then Hs h l (T.put (id+1) m id b)else Hs h l m
  |none=>Hs h l m
def Hp.cut(h:Hp)(l:List Nat):Hp:={ m:=Hs h l .lf,nx:=h.nx }
def over(h':Hp):List Nat->Hp->Option Hp
 |[],h=>zo h
 |id::l,h=>match h'.get id with
  |some b=>match h.set id b with
   |some h=>over h' l h
   |none=>zn
  |none=>over h' l h
def Az:Op->List Operand
 |.move x | .assign x | .box _ x | .load _ x | .nilCheck x | .unOp _ _ x | .convert _ _ x | .makeInterface _ x | .fieldAddr _ x _ | .field _ x _ | .typeAssert x _ _ _ | .extract x _ | .panic x=>[x]
 |.pick c a b=>[c,a,b]
 |.build _ parts | .buildSlice _ _ parts=>parts.toList.map (·.2)
 |.store _ a x=>[a,x]
 |.binOp _ _ x y _=>[x,y]
 |.makeFunc _ a b=>a.toList++b.toList
 |.makeSlice _ l c=>[l,c]
 |.slice _ x lo hi mx=>x::(lo.toList++(hi.toList++mx.toList))
 |.indexAddr _ x i | .index _ x i=>[x,i]
 |.lookup _ x k _=>[x,k]
 |.mapUpdate _ x k v | .insert _ x k v=>[x,k,v]
 |.call c=>match c.callee with
  |.builtin _=>c.args.toList
  |.value f=>f::c.args.toList
  |.invoke r _=>r::c.args.toList
 |_=>[]
def Fg:PV->List Nat
 |.mp id=>[id]
 |_=>[]
def DL(t:T PV):List Operand->List Nat
 |[]=>[]
 |o::l=>match CO t o with
  |some p=>Fg p++DL t l
  |none=>DL t l
def Aw(t:T PV)(h:Hp)(o:Op):List Nat:=match o with
 |.buildSlice _ _ _=>Ec t h (Az o)
 |.slice _ x _ _ mx=>bif mx.isSome then Ec t h [x]else BT t [x]
 |.load _ _ | .indexAddr _ _ _ | .lookup _ _ _ _ | .store _ _ _ | .mapUpdate _ _ _ _ | .insert _ _ _ _=>BT t (Az o)
 |.call c=>match c.callee with
  |.builtin b=>(match b with
   |.len=>DL t c.args.toList
   |_=>BT t c.args.toList)
  |_=>[]
 |_=>[]
def quiet(o:Op):Bool:=match o with
 |.buildSlice _ _ _ | .store _ _ _ | .mapUpdate _ _ _ _ | .insert _ _ _ _ | .alloc _ | .box _ _ | .makeMap _ _ | .makeSlice _ _ _=>zf
 |.slice _ _ _ _ mx=>mx.isNone
 |.call c=>match c.callee with
  |.builtin b=>match b with
   |.len | .cap | .max | .min=>zt
   |_=>zf
  |_=>zf
 |_=>zt
def Av(o:Op):Bool:=match o with
 |.lookup _ _ _ _ | .mapUpdate _ _ _ _ | .insert _ _ _ _ | .defer _ | .panic _=>zf
 |.call c=>match c.callee with
  |.builtin b=>match b with
   |.len | .cap | .append | .copy | .max | .min=>zt
   |_=>zf
  |_=>zt
 |_=>zt
def Qn:Operand->Nat
 |.tmp k=>cK 2 k
 |_=>0
def FY:List Operand->Nat
 |[]=>0
 |o::l=>bR (Qn o) (FY l)
def G7:Option Nat->Nat
 |some d=>cK 2 d
 |none=>0
def Eu(ops:List Oper):Option (Nat×Bool)->Nat
 |none=>0
 |some (j,_)=>match lget ops j with
  |some o=>G7 o.dst
  |none=>0
structure Mk where
 rd:Nat
 wr:Nat
 bef:Nat
def DI(a:List Mk):List Edge->Nat
 |[]=>0
 |e::l=>bif Region.binds .any e then bR (bR (cK 2 e.on) (match lget a e.on with|some m=>m.bef|none=>0)) (DI a l)else DI a l
def Fp(m j:Nat):Bool:=!aa (Nat.land m (cK 2 j)) 0
def Hb(a b:Nat):Bool:=aa (Nat.land a b) 0
def Gn(m:Mk):Nat->List Mk->Bool
 |_,[]=>zt
 |j,x::l=>(Fp m.bef j||(Hb x.wr (bR m.rd m.wr)&&Hb x.rd m.wr))&&Gn m (j+1) l
def GV(i:Nat):List Edge->Bool
 |[]=>zt
 |e::l=>(!Region.binds .any e||ae e.on i)&&GV i l
def FN(ops:List Oper):Nat->List Oper->List Mk->Option (List Mk)
 |_,[],acc=>zo acc
 |i,o::l,acc=>
  let m:Mk:={ rd:=bR (FY (Az o.op)) (Eu ops o.guard),wr:=G7 o.dst,bef:=DI acc o.after.toList }
  bif GV i o.after.toList&&Gn m 0 acc then FN ops (i+1) l (acc++[m])else zn
def Cf:List Nat->List Nat->Bool
 |[],_=>zf
 |x::l,m=>m.any (aa x)||Cf l m
def F3(a:Nat)(rd wr:List Nat):List (Nat×List Nat×List Nat)->Bool
 |[]=>zt
 |(j,r,w)::l=>(Fp a j || !(Cf w rd||Cf wr r))&&F3 a rd wr l
def BC(h:Hp):List Nat->List Nat
 |[]=>[]
 |id::l=>match h.get id with
  |some (.box _ zt)|some (.row _ _ zt)=>BC h l
  |_=>id::BC h l
def Ee:Op->Bool
 |.call c=>match c.callee with
  |.builtin .append=>zt
  |_=>zf
 |_=>zf
def Ay(P:Program)(rec:GH)(t:T PV)(h:Hp)(id:Nat)(o:Oper):Option (PV×Hp×List Nat×List Nat):=
 let rd:=id::Aw t h o.op
 bif !Av o.op || !ae id (id+1)then zn else
 match AP P t (h.cut rd) id o with
 |some (.val v h1)=>bif quiet o.op then zo (v,h,rd,[])else(over h1 rd h).map λa=>(v,a,rd,bif Ee o.op then rd else BC h rd)
 |some (.skip h1)=>bif quiet o.op||Ee o.op then zn else(over h1 rd h).map λa=>(.tup [],a,rd,BC h rd)
 |some (.call f args)=>match Ap h args with
  |some (_,l)=>match A9 (λ_=>zf) rec id f args (h.cut (id::l))with
   |some (.ret v,h1)=>bif flat v then zo (v,h,rd++l,[])else(over h1 (id::l) h).map λa=>(v,a,rd++l,BC h (id::l))
   |_=>zn
  |none=>zn
 |_=>zn
def AX(P:Program)(rec:GH)(base nt:Nat)(ops:List Oper):Nat->List Oper->List Mk->List (Nat×List Nat×List Nat)->T PV->Hp->Option (T PV×Hp)
 |i,o::l,m::ms,past,t,h=>bif A8 ops t o.guard then
   match Ay P rec t h (base+i) o with
   |some (v,h,rd,wr)=>bif F3 m.bef rd wr past then
     match o.dst with
     |some d=>bif ae d nt then AX P rec base nt ops (i+1) l ms ((i,rd,wr)::past) (T.put 20 t d v) h else zn
     |none=>AX P rec base nt ops (i+1) l ms ((i,rd,wr)::past) t h
    else zn
   |none=>zn
  else match o.dst with
   |some d=>bif ae d nt then AX P rec base nt ops (i+1) l ms past (T.put 20 t d (.tup [])) h else zn
   |none=>AX P rec base nt ops (i+1) l ms past t h
 |_,[],_,_,t,h=>zo (t,h)
 |_,_,_,_,_,_=>zn
def drawn(P:Program)(rec:GH)(base:Nat)(ops:List Oper)(fr:Fr)(h:Hp):Option (Fr×Hp):=
 match FN ops 0 ops []with
 |some a=>match AX P rec base fr.nt ops 0 ops a [] fr.t h with
  |some (t,h)=>zo ({ fr with t:=t },h)
  |none=>zn
 |none=>zn
def AY(P:Program)(sh:FuncId->Bool)(rec:GH):Nat->Code->Fr->Hp->Option (Ex×Fr×Hp)
 |0,_,_,_=>zn
 |n+1,c,fr,h=>match c with
  |.skip | .label _=>zo (.normal,fr,h)
  |.seq a b=>match AY P sh rec n a fr h with
   |some (.normal,fr,h)=>AY P sh rec n b fr h
   |r=>r
  |.cond c a b=>match CO fr.t c with
   |some (.bool zt)=>AY P sh rec n a fr h
   |some (.bool zf)=>AY P sh rec n b fr h
   |_=>zn
  |.block id b=>match AY P sh rec n b fr h with
   |some (.exit j,fr,h)=>bif aa j id then zo (.normal,fr,h)else zo (.exit j,fr,h)
   |r=>r
  |.loop b=>match AY P sh rec n b fr h with
   |some (.normal,fr,h)=>AY P sh rec n (.loop b) fr h
   |r=>r
  |.scope b=>match AY P sh rec n b fr h with
   |some (.goto _,_,_)=>zn
   |r=>r
  |.exit id=>zo (.exit id,fr,h)
  |.goto l=>zo (.goto l,fr,h)
  |.ret=>zo (.ret,fr,h)
  |.refuse _=>zn
  | .region _ ops draw=>bif draw then (bif P.follows .mixedOrders || !Region.departs ops then
     (match drawn P rec h.nx ops.toList fr { h with nx:=h.nx+ops.size }with
     |some (fr,h)=>zo (.normal,fr,h)
     |none=>zn)else zn)
    else AZ P sh rec h.nx ops.toList (Hm 0 ops.toList) fr { h with nx:=h.nx+ops.size }
  |.rangeFunc g k i e=>match CO fr.t g with
   |some (.fn f a b)=>
    let d:=h.nx
    let l:=h.nx+1
    match (match fr.ro with
     |none=>(match h.new d (.df (zo []))with
      |some h=>zo (d,[DF.col d],h)
      |none=>zn)
     |some m=>(match h.get m with
      |some (.lp _ _ _ _ _ _ _ d0)=>zo (d0,[],h)
      |_=>zn))with
    |some (d,mark,h)=>match h.new l (.lp 0 zn fr.nt fr.t k.toList i e d)with
     |some h=>match CC P f a b [.yl l]with
      |some (.call f args)=>match rec (.fn f) zn args { h with nx:=l+1 }with
       |some (.ret _,_,h)=>(match h.get l with
        |some (.lp st pend nt t k i e d)=>bif aa st 1 then zn else
         (match h.set l (.lp 3 pend nt t k i e d)with
         |some h=>match pend with
          |none=>zo (.normal,{ fr with ds:=mark++fr.ds },h)
          |some .ret=>zo (.ret,{ fr with ds:=mark++fr.ds },h)
          |some (.exit id)=>zo (.exit id,{ fr with ds:=mark++fr.ds },h)
          |some (.goto id)=>zo (.goto id,{ fr with ds:=mark++fr.ds },h)
          |_=>zn
         |none=>zn)
        |_=>zn)
       |_=>zn
      |_=>zn
     |none=>zn
    |none=>zn
   |_=>zn
def Bq:Nat->List PV->T PV->T PV
 |_,[],t=>t
 |i,a::l,t=>Bq (i+1) l (T.put 20 t i a)
def Bz(nt:Nat):List Nat->List PV->T PV->Option (T PV)
 |[],[],t=>zo t
 |p::ps,a::l,t=>bif ae p nt then Bz nt ps l (T.put 20 t p a)else zn
 |_,_,_=>zn
def QY(P:Program)(h:Hp)(t:T PV):ResultVar->Option PV
 |.tmp k=>zo ((t.get k).getD (.tup []))
 |.cell a ty=>match t.get a with
  |some (.ptr j off)=>match h.get j with
   |some (.box cs _)=>part P ty (cs.drop off)
   |_=>zn
  |_=>zn
def JC(P:Program)(h:Hp)(t:T PV):List ResultVar->Option (List PV)
 |[]=>zo []
 |r::l=>match QY P h t r,JC P h t l with
  |some p,zo ps=>zo (p::ps)
  |_,_=>zn
def results(P:Program)(a:Func)(h:Hp)(t:T PV):Option PV:=match JC P h t a.results.toList with
 |some [v]=>zo v
 |some vs=>zo (.tup vs)
 |none=>zn
def K1:UM->UM
 |.pan ({ v:=_,recovered:=zt }::_)=>.ret
 |u=>u
def leave(P:Program)(rec:GH)(c:Func):Nat->List DF->UM->T PV->Hp->Option (Out×Hp)
 |0,_,_,_,_=>zn
 |n+1,ds,u,t,h=>match ds with
  |[]=>match u with
   |.ret=>match results P c h t with
    |some v=>zo (.ret v,h)
    |none=>zn
   |.pan d=>zo (.pan d,h)
  |.col id::ds=>match h.get id with
   |some (.df (zo l))=>match h.set id (.df zn)with
    |some h=>leave P rec c n (l++ds) u t h
    |none=>zn
   |_=>zn
  |.bi b ats _ args::ds=>match b with
   |.clear=>match AH P h 0 .clear ats args with
    |some (.val _ h)=>leave P rec c n ds u t h
    |_=>zn
   |_=>zn
  |.call f args::ds=>match f with
   |.fn (.func g) a b=>match CC P (.func g) a b args with
    |some (.call g args)=>match rec (.fn g) (zo u) args h with
     |some (.ret _,zo u,h)=>leave P rec c n ds (K1 u) t h
     |_=>zn
    |_=>zn
   |_=>zn
def BB(h:Hp)(l:Nat)(a:Option Code):Option (Out×Option UM×Hp):=match h.get l with
 |some (.lp _ _ nt t ps asg body d)=>match h.set l (.lp (match a with|none=>0|some _=>2) a nt t ps asg body d)with
  |some h=>zo (.ret (.bool a.isNone),zn,h)
  |none=>zn
 |_=>zn
def TW(same:List TypeId):PV->PV->Option Bool
 |.ifc u (.gk a),.ifc v (.gk b)=>bif (aa u v&&aa a b)&&same.any (aa u)then zo zt else zn
 |_,_=>zn
def SW:List (TypeId×TypeId)->TypeId->Option TypeId
 |[],_=>zn
 |(a,b)::l,t=>bif aa a t then zo b else SW l t
def SV(P:Program)(c:List (TypeId×TypeId))(b:List TypeId)(e t:PV)(h:Hp):Option (Bool×Hp):=match e with
 |.nili=>zo (zf,h)
 |.ifc u a=>match t with
  |.ifc pt (.ptr id off)=>match SW c pt with
   |some T=>bif aa u T then(match a,A3 P h T (.ptr id off) a with
     |.agg [_],zo (.skip h)=>zo (zt,h)
     |_,_=>zn)
    else bif b.any (aa u)then zo (zf,h)else zn
   |none=>zn
  |_=>zn
 |_=>zn
def TV:PV->PV->Option Int
 |.str a,.str b=>zo (bif Op.bytesLess a b then -1 else bif a == b then 0 else 1)
 |_,_=>zn
def Nz(c:Ty)(F:List c.den->Option (List c.den)):PV->Hp->Option (PV×Hp)
 |.nils,h | .lst _ [],h=>zo (.tup [],h)
 |.own id off len,h=>match h.get id with
  |some (.row es ex zf)=>bif ad (off+len) es.length then match UE c ((es.drop off).take len)with
    |some l=>match F l with
     |some l'=>(h.set id (.row (BH es off (l'.map λx=>.agg (NV c x))) ex zf)).map λh=>(.tup [],h)
     |none=>zn
    |none=>zn
   else zn
  |_=>zn
 |_,_=>zn
def Kq(P:Program):Pr->List PV->Hp->Option (PV×Hp)
 |.is same,[e,t],h=>(TW same e t).map λb=>(.bool b,h)
 |.as tt plain,[e,t],h=>(SV P tt plain e t h).map λ(b,h)=>(.bool b,h)
 |.cmp,[a,b],h=>(TV a b).map λn=>(.int .i64 n,h)
 |.kn b,[],h=>zo (.bool b,h)
 |.srt g c F _,[x,.fn (.func g') [] []],h=>bif aa g g' then Nz c F x h else zn
 |_,_,_=>zn
def PU(P:Program)(sh:FuncId->Bool)(F:Nat)(rec:GH):GH:=λb up args h=>match b with
  |.fn f=>match Gl.pr f with
   |some p=>(match up with
    |none=>(Kq P p args h).map λ(v,h)=>(.ret v,zn,h)
    |some _=>zn)
   |none=>match P.funcs[f]? with
   |some a=>match a.body with
    |some c=>match (bif ad args.length a.ntmps&&ae a.ntmps 1048575 then AY P sh rec F c { t:=Bq 0 args .lf,nt:=a.ntmps,ds:=[],up,ro:=zn } h else zn)with
     |some (.normal,fr,h)|some (.ret,fr,h)=>(match leave P rec a F fr.ds .ret fr.t h with
      |some (o,h)=>zo (o,fr.up,h)
      |none=>zn)
     |some (.panic e,fr,h)=>(match leave P rec a F fr.ds (.pan [{ v:=e,recovered:=zf }]) fr.t h with
      |some (o,h)=>zo (o,fr.up,h)
      |none=>zn)
     |_=>zn
    |none=>zn
   |none=>zn
  |.yl l=>match h.get l with
   |some (.lp _ _ nt t ps asg body0 _)=>match Bz nt ps args t with
    |some t=>match AY P sh rec F asg { t,nt,ds:=[],up:=zn,ro:=zo l } h with
     |some (.normal,fr,h)=>(match h.get l with
      |some (.lp 0 pend nt t ps asg body d)=>(match h.set l (.lp 1 pend nt t ps asg body d)with
       |some h=>match AY P sh rec F body0 fr h with
        |some (.normal,_,h)=>BB h l zn
        |some (.ret,_,h)=>BB h l (zo .ret)
        |some (.exit id,_,h)=>BB h l (zo (.exit id))
        |some (.goto id,_,h)=>BB h l (zo (.goto id))
        |_=>zn
       |none=>zn)
      |_=>zn)
     |_=>zn
    |none=>zn
   |_=>zn
def B5(P:Program)(sh:FuncId->Bool)(F:Nat):Nat->GH
 |0=>λ_ _ _ _=>zn
 |n+1=>PU P sh F (B5 P sh F n)
end
section
variable[Gl]
abbrev Al:=Addr->Option Value
structure Bk where
 b:Nat
 base:Nat
 esz:Nat
 cap:Nat
abbrev Mu:=Nat->Option Bk
def mu0:Mu:=λ_=>zn
inductive Rep (M:Al):Mu->PV->Value->Prop
 |bool (μ:Mu) (b:Bool):Rep M μ (.bool b) (.bool b)
 |int (μ:Mu) (k:IntKind) (n:Int):Rep M μ (.int k n) (.int k n)
 |str (μ:Mu) (s:ByteArray):Rep M μ (.str s.data.toList) (.string s)
 |nilp (μ:Mu):Rep M μ .nilp (.pointer zn)
 |nils (μ:Mu):Rep M μ .nils (.slice zn 0 0)
 |nilm (μ:Mu):Rep M μ .nilm (.map zn)
 |nilf (μ:Mu):Rep M μ .nilf .nilFunc
 |nili (μ:Mu):Rep M μ .nili .nilIface
 |agg (μ:Mu) (cs:List PV) (vs:Array Value) (hl:cs.length=vs.size)
   (h1:∀ (i:Nat) (v:Value),vs[i]?=zo v->v.oneCell'=zt)
   (h:∀ (i:Nat) (c:PV) (v:Value),cs[i]?=zo c->vs[i]?=zo v->Rep M μ c v):Rep M μ (.agg cs) (.agg vs)
 |tup (μ:Mu) (cs:List PV) (vs:Array Value) (hl:cs.length=vs.size)
   (h:∀ (i:Nat) (c:PV) (v:Value),cs[i]?=zo c->vs[i]?=zo v->Rep M μ c v):Rep M μ (.tup cs) (.tuple vs)
 |lst0 (μ:Mu) (full:Bool) (a:Addr) (cap:Nat) (hf:full=zt->cap=0):Rep M μ (.lst full []) (.slice (zo a) 0 cap)
 |lst (μ:Mu) (full:Bool) (es:List PV) (b off esz cap:Nat) (x:Nat->Nat->Value) (hf:full=zt->cap=es.length) (hc:es.length<=cap)
   (hs:∀ (i:Nat) (e:PV),es[i]?=zo e->e.cells.length=esz)
   (hm:∀ (i:Nat) (e:PV) (j:Nat) (c:PV),es[i]?=zo e->e.cells[j]?=zo c->M ⟨b,off+i*esz+j,zn⟩=zo (x i j))
   (h1:∀ (i:Nat) (e:PV) (j:Nat) (c:PV),es[i]?=zo e->e.cells[j]?=zo c->(x i j).oneCell'=zt)
   (h:∀ (i:Nat) (e:PV) (j:Nat) (c:PV),es[i]?=zo e->e.cells[j]?=zo c->Rep M mu0 c (x i j)):Rep M μ (.lst full es) (.slice (zo ⟨b,off,zn⟩) es.length cap)
 |own (μ:Mu) (id off len:Nat) (r:Bk) (hr:μ id=zo r) (hc:off+len<=r.cap):Rep M μ (.own id off len) (.slice (zo ⟨r.b,r.base+off*r.esz,zn⟩) len (r.cap-off))
 |ptr (μ:Mu) (id off:Nat) (r:Bk) (hr:μ id=zo r):Rep M μ (.ptr id off) (.pointer (zo ⟨r.b,r.base+off,zn⟩))
 |ept (μ:Mu) (id i off:Nat) (r:Bk) (hr:μ id=zo r):Rep M μ (.ept id i off) (.pointer (zo ⟨r.b,r.base+i*r.esz+off,zn⟩))
 |view (μ:Mu) (cs:List PV) (b off:Nat) (x:Nat->Value)
   (hm:∀ (j:Nat) (c:PV),cs[j]?=zo c->M ⟨b,off+j,zn⟩=zo (x j))
   (h1:∀ (j:Nat) (c:PV),cs[j]?=zo c->(x j).oneCell'=zt)
   (h:∀ (j:Nat) (c:PV),cs[j]?=zo c->Rep M mu0 c (x j)):Rep M μ (.view cs) (.pointer (zo ⟨b,off,zn⟩))
 |fn (μ:Mu) (f:Fn) (a b:List PV) (va vb:Array Value) (hf:∀ l,f ≠ .yield l) (hla:a.length=va.size) (hlb:b.length=vb.size)
   (ha:∀ (i:Nat) (c:PV) (v:Value),a[i]?=zo c->va[i]?=zo v->Rep M μ c v)
   (hb:∀ (i:Nat) (c:PV) (v:Value),b[i]?=zo c->vb[i]?=zo v->Rep M μ c v):Rep M μ (.fn f a b) (.func f va vb)
 |yl (μ:Mu) (id:Nat) (r:Bk) (hr:μ id=zo r):Rep M μ (.yl id) (.func (.yield r.b) #[] #[])
 |ifc (μ:Mu) (t:TypeId) (p:PV) (v:Value) (h:Rep M μ p v):Rep M μ (.ifc t p) (.iface t v)
 |mp (μ:Mu) (id:Nat) (r:Bk) (hr:μ id=zo r):Rep M μ (.mp id) (.map (zo r.b))
 |gk (μ:Mu) (n:Nat) (t:TypeId) (a:Addr) (h:M ⟨n,0,zn⟩=zo (.iface t (.pointer (zo a)))):Rep M μ (.gk n) (.pointer (zo a))
 |adr (μ:Mu) (b off:Nat):Rep M μ (.adr b off) (.pointer (zo ⟨b,off,zn⟩))
theorem Rep.lst0'{M:Al}{μ:Mu}{full:Bool}{a:Option Addr}{cap:Nat}(c:a≠zn)(b:full=zt->cap=0):Rep M μ (.lst full []) (.slice a 0 cap):=by
 cases a with
 |none=>simp_all
 |some a=>exact .lst0 _ _ _ _ b
def MLe(M b:Al):Prop:=∀ a v,M a=zo v->b a=zo v
def MuLe(μ μ':Mu):Prop:=∀ id r,μ id=zo r->μ' id=zo r
theorem MLe.refl(M:Al):MLe M M:=λ_ _ h=>h
theorem MLe.trans{A B C:Al}(h:MLe A B)(k:MLe B C):MLe A C:=λa v x=>k a v (h a v x)
theorem MuLe.refl(M:Mu):MuLe M M:=λ_ _ h=>h
theorem MuLe.trans{A B C:Mu}(h:MuLe A B)(k:MuLe B C):MuLe A C:=λa v x=>k a v (h a v x)
theorem MuLe.mu0(μ:Mu):MuLe mu0 μ:=λ_ _ h=>by simp[Pi.mu0]at h
theorem Rep.mono{M g:Al}{μ:Mu}{p:PV}{v:Value}(h:Rep M μ p v)(d:MLe M g):∀ {μ':Mu},MuLe μ μ'->Rep g μ' p v:=by
 induction h with
 |bool|int|str|nilp|nils|nilm|nilf|nili=>intros;constructor
 |agg μ cs vs hl h1 _ ih=>intro μ' hμ;exact .agg _ _ _ hl h1 λi c v a b=>ih i c v a b hμ
 |tup μ cs vs hl _ ih=>intro μ' hμ;exact .tup _ _ _ hl λi c v a b=>ih i c v a b hμ
 |lst0 μ full a cap hf=>intro μ' _;exact .lst0 _ _ _ _ hf
 |lst μ full es b off esz cap x hf hc hs hm h1 _ ih=>intro μ' _;exact .lst _ _ _ _ _ esz _ x hf hc hs (λi e j c a k=>d _ _ (hm i e j c a k)) h1 λi e j c a k=>ih i e j c a k (MuLe.refl _)
 |own μ id off len r hr hc=>intro μ' hμ;exact .own _ _ _ _ r (hμ _ _ hr) hc
 |ptr μ id off r hr=>intro μ' hμ;exact .ptr _ _ _ r (hμ _ _ hr)
 |ept μ id i off r hr=>intro μ' hμ;exact .ept _ _ _ _ r (hμ _ _ hr)
 |view μ cs b off x hm h1 _ ih=>intro μ' _;exact .view _ _ _ _ x (λj c a=>d _ _ (hm j c a)) h1 λj c a=>ih j c a (MuLe.refl _)
 |fn μ f a b va vb hf hla hlb _ _ iha ihb=>intro μ' hμ;exact .fn _ _ _ _ _ _ hf hla hlb (λi c v x y=>iha i c v x y hμ) (λi c v x y=>ihb i c v x y hμ)
 |yl μ id r hr=>intro μ' hμ;exact .yl _ _ r (hμ _ _ hr)
 |ifc μ t p v _ ih=>intro μ' hμ;exact .ifc _ _ _ _ (ih hμ)
 |mp μ id r hr=>intro μ' hμ;exact .mp _ _ r (hμ _ _ hr)
 |gk μ n t a h=>intro μ' _;exact .gk _ _ t a (d _ _ h)
 |adr μ b off=>intro μ' _;exact .adr _ _ _
def RepL(M:Al)(μ:Mu)(a:List PV)(vs:List Value):Prop:=
 a.length=vs.length /\ ∀ (i:Nat) (p:PV) (v:Value),a[i]?=zo p->vs[i]?=zo v->Rep M μ p v
theorem RepL.nil(M:Al)(μ:Mu):RepL M μ [] []:=⟨rfl,λi p v h=>by simp at h⟩
theorem RepL.cons{M:Al}{μ:Mu}{p:PV}{v:Value}{c:List PV}{vs:List Value}(h:Rep M μ p v)(t:RepL M μ c vs):RepL M μ (p::c) (v::vs):=by
 refine⟨by simp[t.1],λi q x a b=> ?_⟩;cases i with
 |zero=>simp_all
 |succ i=>simp at a b;exact t.2 i q x a b
theorem RepL.mono{M c:Al}{μ μ':Mu}{d:List PV}{vs:List Value}(h:RepL M μ d vs)(e:MLe M c)(hμ:MuLe μ μ'):RepL c μ' d vs:=
 ⟨h.1,λi p v a b=>(h.2 i p v a b).mono e hμ⟩
theorem RepL.append{M:Al}{μ:Mu}{c d:List PV}{vs e:List Value}(h:RepL M μ c vs)(k:RepL M μ d e):RepL M μ (c++d) (vs++e):=by
 refine⟨by simp[h.1,k.1],λi p v b a=> ?_⟩;rw[aV]at b a;by_cases hi:i<c.length
 ·rw[zy hi]at b;rw[zy (h.1 ▸ hi)]at a;exact h.2 i p v b a
 ·rw[zx hi]at b;rw[zx (h.1 ▸ hi)]at a;rw[<- h.1]at a;exact k.2 _ p v b a
theorem RepL.get{M:Al}{μ:Mu}{a:List PV}{vs:List Value}(h:RepL M μ a vs){i:Nat}{p:PV}(b:a[i]?=zo p):∃ v,vs[i]?=zo v/\Rep M μ p v:=by
 have hi:i<vs.length:=by rw[<- h.1];grind
 exact⟨vs[i],ah hi,h.2 i p _ b (ah hi)⟩
theorem RepL.cons_inv{M:Al}{μ:Mu}{p:PV}{b:List PV}{vs:List Value}(h:RepL M μ (p::b) vs):∃ v a,vs=v::a/\Rep M μ p v/\RepL M μ b a:=by
 cases vs with
 |nil=>exact absurd h.1 (by simp)
 |cons v a=>exact⟨v,a,rfl,h.2 0 p v rfl rfl,by simpa using h.1,λi q x c d=>h.2 (i+1) q x (by grind) (by grind)⟩
theorem RepL.nil_inv{M:Al}{μ:Mu}{vs:List Value}(h:RepL M μ [] vs):vs=[]:=by
 cases vs with
 |nil=>rfl
 |cons v a=>exact absurd h.1 (by simp)
theorem RepL.drop{M:Al}{μ:Mu}{a:List PV}{vs:List Value}(h:RepL M μ a vs)(n:Nat):RepL M μ (a.drop n) (vs.drop n):=
 ⟨by simp[h.1],λi p v b c=>h.2 (n+i) p v (by grind) (by grind)⟩
theorem RepL.take{M:Al}{μ:Mu}{c:List PV}{vs:List Value}(h:RepL M μ c vs)(n:Nat):RepL M μ (c.take n) (vs.take n):=by
 refine⟨by simp[h.1],λi p v a b=> ?_⟩;rw[aG]at a b;by_cases hi:i<n
 ·rw[zy hi]at a b;exact h.2 i p v a b
 simp_all
theorem Rep.cells{M:Al}{μ:Mu}{p:PV}{v:Value}(h:Rep M μ p v)(m:∀ cs,p ≠ .tup cs) :
  RepL M μ p.cells v.cells.toList /\ ∀ (i:Nat) (x:Value),v.cells[i]?=zo x->x.oneCell'=zt:=by
 have d:∀ (q:PV) (x:Value),Rep M μ q x->x.oneCell'=zt->q.cells=[q]->x.cells = #[x]->RepL M μ q.cells x.cells.toList /\ ∀ (i:Nat) (y:Value),x.cells[i]?=zo y->y.oneCell'=zt:=by
  intro q x j e hc l;rw[hc,l];refine⟨RepL.cons j (RepL.nil _ _),λi y o=> ?_⟩<;>grind
 cases h with
 |agg _ cs vs hl e h=>exact⟨⟨by simpa[PV.cells,Value.cells]using hl,λi c x hc g=>h i c x hc (by simpa[Value.cells]using g)⟩,λi x g=>e i x g⟩
 |tup _ cs vs hl h=>simp_all
 |lst0 _ full a cap hf=>exact d _ _ (.lst0 _ _ _ _ hf) rfl rfl rfl
 |lst _ full es b off esz cap x hf hc hs hm e h=>exact d _ _ (.lst _ _ _ _ _ esz _ x hf hc hs hm e h) rfl rfl rfl
 |own _ id off len r hr hc=>exact d _ _ (.own _ _ _ _ r hr hc) rfl rfl rfl
 |ptr _ id off r hr=>exact d _ _ (.ptr _ _ _ r hr) rfl rfl rfl
 |ept _ id i off r hr=>exact d _ _ (.ept _ _ _ _ r hr) rfl rfl rfl
 |view _ cs b off x hm e h=>exact d _ _ (.view _ _ _ _ x hm e h) rfl rfl rfl
 |fn _ f a b va vb hf hla hlb ha hb=>exact d _ _ (.fn _ _ _ _ _ _ hf hla hlb ha hb) rfl rfl rfl
 |yl _ id r hr=>exact d _ _ (.yl _ _ r hr) rfl rfl rfl
 |ifc _ t p v h=>exact d _ _ (.ifc _ _ _ _ h) rfl rfl rfl
 |mp _ id r hr=>exact d _ _ (.mp _ _ r hr) rfl rfl rfl
 |gk _ n t a h=>exact d _ _ (.gk _ _ t a h) rfl rfl rfl
 |adr _ b off=>exact d _ _ (.adr _ b off) rfl rfl rfl
 |bool _ b=>exact d _ _ (.bool _ b) rfl rfl rfl
 |int _ k n=>exact d _ _ (.int _ k n) rfl rfl rfl
 |str _ s=>exact d _ _ (.str _ s) rfl rfl rfl
 |nilp _=>exact d _ _ (.nilp _) rfl rfl rfl
 |nils _=>exact d _ _ (.nils _) rfl rfl rfl
 |nilm _=>exact d _ _ (.nilm _) rfl rfl rfl
 |nilf _=>exact d _ _ (.nilf _) rfl rfl rfl
 |nili _=>exact d _ _ (.nili _) rfl rfl rfl
section tables
variable{P:Program}
theorem Ac{t:TypeId}{n:Nat}(h:AU P t=zo n)(w:World):(sizeOf t).run P w=.ok n w:=by
 unfold AU at h;cases hi:P.info? t with
 |none=>simp_all
 |some i=>simp_all[sizeOf,typeInfo]
theorem IA{t:TypeId}{b:Bool}(h:Hz P t=zo b)(w:World):(isAgg t).run P w=.ok b w:=by
 unfold Hz at h;split at h<;>simp_all[isAgg,underlying]<;>(subst h;split<;>simp_all)
theorem AF{t:TypeId}{d:TypeDesc}(h:P.underlying t=zo d)(w:World):(underlying t).run P w=.ok d w:=by
 simp[underlying,h]
theorem FJ{t:TypeId}{d:TypeInfo}(h:P.info? t=zo d)(w:World):(typeInfo t).run P w=.ok d w:=by
 simp[typeInfo,h]
theorem G3{v:Value}{p:PV}(h:C1 v=zo p)(M:Al)(μ:Mu):Rep M μ p v /\ v.oneCell'=zt /\ (∀ cs,p ≠ .tup cs):=by
  unfold C1 at h
  split at h<;>first
    |(cases h;exact⟨by constructor,rfl,by simp_all⟩)
    | (split at h
       · rename_i hc
         cases h;simp at hc;obtain⟨rfl,rfl⟩:=hc;exact⟨.fn _ _ [] [] #[] #[] (by simp_all) rfl rfl (fun i c v h=>by simp at h) (fun i c v h=>by simp at h),rfl,by simp_all⟩
       · cases h)
    |cases h
theorem Ft:∀ {vs:List Value} {a:List PV},cellsOf vs=zo a -> ∀ (M:Al) (μ:Mu),RepL M μ a vs /\ ∀ v∈vs,v.oneCell'=zt
 |[],a,h,M,μ=>by cases h;exact⟨RepL.nil _ _,by simp⟩
 |v::vs,a,h,M,μ=>by
  unfold cellsOf at h;split at h
  ·rename_i p q d e;cases h;have b:=G3 d M μ;have c:=Ft e M μ;refine⟨RepL.cons b.1 c.1,?_⟩<;>simp_all
  ·cases h
theorem Lr{v:Value}{p:PV}(h:D8 v=zo p)(M:Al)(μ:Mu):Rep M μ p v:=by
 unfold D8 at h;split at h
 ·rename_i cs;cases hc:cellsOf cs.toList with
  |none=>simp_all
  |some e=>
   rw[hc]at h;cases h;have:=Ft hc M μ;refine .agg _ _ _ (by simpa using this.1.1) (λi v d=>this.2 v ?_) (λi c v hc d=>this.1.2 i c v hc (by grind))
   grind
 ·rename_i vs;cases a:vs.isEmpty with
  |false=>simp_all
  |true=>rw[a]at h;cases h;simp at a;subst a;exact .tup _ _ _ rfl (λi c v h=>by simp at h)
 ·rename_i t v;split at h
  ·rename_i p b;cases h;exact .ifc _ _ _ _ (G3 b M μ).1
  ·cases h
 ·exact(G3 h M μ).1
theorem Bb{t:TypeId}{cs:List PV}(h:zeroCells P t=zo cs)(M:Al)(μ:Mu)(w:World) :
  ∃ z i,P.info? t=zo i/\i.zero=zo z/\(zeroValue t).run P w=.ok z w/\RepL M μ cs z.cells.toList /\ ∀ v∈z.cells.toList,v.oneCell'=zt:=by
 unfold zeroCells at h;split at h
 ·rename_i i hi;split at h
  ·rename_i z a;have:=Ft h M μ
   simp_all[zeroValue,typeInfo]
  ·cases h
 ·cases h
theorem FP{t:TypeId}{cs:List PV}{p:PV}(h:Pi.part P t cs=zo p){M:Al}{μ:Mu}{vs:Array Value}{off:Nat}
  (e:RepL M μ cs (vs.toList.drop off)) (k:∀ (i:Nat) (v:Value),vs[i]?=zo v->v.oneCell'=zt) (w:World) :
  ∃ v,(Go.part t vs off).run P w=.ok v w/\Rep M μ p v/\(∀ cs,p ≠ .tup cs\/True):=by
 unfold Pi.part at h;split at h
 ·rename_i n a b;cases f:ad n cs.length with
  |false=>simp_all
  |true=>
   rw[f]at h;cases h;have l:n<=cs.length:=ap f;refine⟨.agg (vs.extract off (off+n)),?_,?_,λ_=>.inr trivial⟩
   ·simp[Go.part,IA a,Ac b]
   ·have g:cs.length=vs.size-off:=by simpa using e.1
    refine .agg _ _ _ (by simp;omega) (λi v d=> ?_) (λi c v hc d=> ?_)
    ·grind [cb]
    ·rw[cb]at d;rw[aG]at hc;split at d
     ·split at hc
      ·exact e.2 i c v hc (by grind)
      ·cases hc
     ·cases d
 ·rename_i n a b;split at h
  ·rename_i c j;cases h;obtain⟨v,d,m⟩:=e.get (i:=0) (p:=p) rfl
   simp_all[Go.part,IA]
  ·cases h
 ·cases h
end tables
end
section
variable[Gl]
theorem Fk{a b:Nat}(h:a≠b):aa a b=zf:=by
 cases e:aa a b<;>simp_all
theorem Rv{a b:Nat}(h:a=b):aa a b=zt:=by subst h;simp
theorem T.get_put{α:Type}:∀ (n:Nat) (t:T α) (k:Nat) (v:α) (a:Nat),k<2 ^ n-1->(T.put n t k v).get a=if a=k then zo v else t.get a
 |0,t,k,v,a,h=>by simp at h
 |n+1,t,k,v,a,h=>by
  have g:2 ^ (n+1)=2*2 ^ n:=by omega
  have key:∀ (l:T α) (x:Option α) (r:T α),((bif aa k 0 then T.nd l (zo v) r else bif aa (k % 2) 1 then .nd (T.put n l (k / 2) v) x r else .nd l x (T.put n r (k / 2-1) v)):T α).get a=if a=k then zo v else(T.nd l x r).get a:=by
   intro l x r;by_cases d:k=0
   ·subst d;simp only[show aa 0 0=zt from rfl,zb,T.get];by_cases b:a=0
    ·subst b;simp
    ·have:aa a 0=zf:=Fk b
     simp_all
   ·have e:aa k 0=zf:=Fk d;by_cases f:k % 2=1
    ·have e1:aa (k % 2) 1=zt:=by simpa using f
     simp only[e,e1,zb,zj,T.get];by_cases b:a=0
     ·subst b;simp[Ne.symm d]
     ·have e2:aa a 0=zf:=Fk b;simp only[e2,zj];by_cases c:a % 2=1
      ·have e3:aa (a % 2) 1=zt:=by simp_all
       simp only[e3,zb];rw[T.get_put n l (k / 2) v (a / 2) (by omega)]
       grind
      ·have e3:aa (a % 2) 1=zf:=Fk c
       grind
    ·have e1:aa (k % 2) 1=zf:=Fk f;simp only[e,e1,zj,T.get];by_cases b:a=0
     ·subst b;simp[Ne.symm d]
     ·have e2:aa a 0=zf:=Fk b;simp only[e2,zj];by_cases c:a % 2=1
      ·have e3:aa (a % 2) 1=zt:=by simp_all
       grind
      ·have e3:aa (a % 2) 1=zf:=Fk c;simp only[e3,zj];rw[T.get_put n r (k / 2-1) v (a / 2-1) (by omega)]
       grind
  cases t with
  |lf=>
   simp_all[T.put,T.get]
  |nd l x r=>exact key l x r
theorem Oi(k:Nat):k<2 ^ (k+1)-1:=by
 have:=@Nat.lt_two_pow_self k;omega
theorem Hp.get_set{h h':Hp}{id:Nat}{b:Blk}(e:h.set id b=zo h'):(∀ k,h'.get k=if k=id then zo b else h.get k)/\h'.nx=h.nx:=by
 unfold Hp.set at e;cases a:ae id (id+1)with
 |false=>simp_all
 |true=>
  rw[a]at e;simp at e;subst e;refine⟨λk=> ?_,rfl⟩;simp only[Hp.get];exact T.get_put (id+1) h.m id b k (Oi id)
theorem Hp.get_new{h h':Hp}{id:Nat}{b:Blk}(e:h.new id b=zo h'):h.get id=zn/\(∀ k,h'.get k=if k=id then zo b else h.get k)/\h'.nx=h.nx:=by
 unfold Hp.new at e;split at e
 ·rename_i a;exact⟨a,Hp.get_set e⟩
 ·cases e
def Blk.live:Blk->Prop
 |.dead=>False
 |_=>True
def DefRep(M:Al)(μ:Mu):DF->Deferred->Prop
 |.call f args,d=>∃ (a:Fn) (first:List PV) (cap:List PV) (vf vc va:List Value),f=.fn a first cap/\(∀ l,a ≠ .yield l)/\d.target=.fn a vc.toArray/\d.args=(vf++va).toArray/\RepL M μ first vf/\RepL M μ cap vc/\RepL M μ args va
 |.bi b ats ty args,d=>∃ (cs:Array Bool) (va:List Value),d.target=.builtin b ats ty cs/\d.args=va.toArray/\RepL M μ args va
 |.col id,d=>∃ r,μ id=zo r/\d.target=.collected r.b/\d.args = #[]
def DefsRep(M:Al)(μ:Mu):List DF->List Deferred->Prop
 |[],[]=>True
 |a::l,b::m=>DefRep M μ a b/\DefsRep M μ l m
 |_,_=>False
def TmpsRep(M:Al)(μ:Mu)(t:T PV)(nt:Nat)(a:Array Value):Prop:=
 nt<1048575/\a.size=nt /\ ∀ k,Rep M μ ((t.get k).getD (.tup [])) (a.getD k undef)
def Uh:Nat->LoopState
 |0=>.ready
 |1=>.busy
 |2=>.done
 |_=>.exhausted
def BlkAt(M:Al)(μ:Mu)(r:Bk)(o:Option Obj):Blk->Prop
 |.box cs _=>(r.base=0/\r.esz=1/\r.cap=cs.length) /\ ∃ (arr:Array Value) (ty:TypeId),o=zo (.cells arr ty (0,0))/\arr.size=cs.length/\(∀ (i:Nat) (v:Value),arr[i]?=zo v->v.oneCell'=zt) /\ ∀ (i:Nat) (c:PV) (v:Value),cs[i]?=zo c->arr[i]?=zo v->Rep M μ c v
 |.row es ex _=>∃ (arr:Array Value) (ty:TypeId),o=zo (.cells arr ty (0,0))/\r.base+r.cap*r.esz<=arr.size/\es.length<=r.cap/\(ex=zt->es.length=r.cap)/\0<r.esz/\(∀ (i:Nat) (e:PV),es[i]?=zo e->e.cells.length=r.esz) /\ ∀ (i:Nat) (e:PV) (j:Nat) (c:PV) (v:Value),es[i]?=zo e->e.cells[j]?=zo c->arr[r.base+i*r.esz+j]?=zo v->v.oneCell'=zt/\Rep M μ c v
 |.mp es=>∃ (f:Array MapEntry) (g:Nat),o=zo (.map f g)/\f.size=es.length /\ ∀ (i:Nat) (k v:PV) (e:MapEntry),es[i]?=zo (k,v)->f[i]?=zo e->Rep M μ k e.key/\Rep M μ v e.val
 |.lp q m nt t u n h d=>∃ (l:Loop) (rd:Bk),o=zo (.loop l)/\l.state=Uh q/\q<4/\l.pending=m/\TmpsRep M μ t nt l.tmps/\l.params=u.toArray/\l.assign=n/\l.body=h/\μ d=zo rd/\l.defers=rd.b
 |.df s=>∃ p:Option (List Deferred),o=zo (.deferred p)/\(match s,p with
  |none,zn=>True
  |some a,zo b=>DefsRep M μ a b
  |_,_=>False)
 |.dead=>True
def LA(r:Bk)(a:Addr):Blk->Prop
 |.box _ fz=>fz=zt
 |.row es _ fz=>fz=zt/\a.off<r.base+es.length*r.esz
 |_=>True
theorem DefRep.mono{M i:Al}{μ μ':Mu}(g:MLe M i)(hμ:MuLe μ μ'):∀ {a:DF} {d:Deferred},DefRep M μ a d->DefRep i μ' a d
 |.call _ _,_,⟨j,a,b,x,y,z,c,e,f,k,l,m,n⟩=>⟨j,a,b,x,y,z,c,e,f,k,l.mono g hμ,m.mono g hμ,n.mono g hμ⟩
 |.bi _ _ _ _,_,⟨cs,va,c,e,f⟩=>⟨cs,va,c,e,f.mono g hμ⟩
 |.col _,_,⟨r,c,e,f⟩=>⟨r,hμ _ _ c,e,f⟩
theorem DefsRep.mono{M b:Al}{μ μ':Mu}(c:MLe M b)(hμ:MuLe μ μ'):∀ {a:List DF} {d:List Deferred},DefsRep M μ a d->DefsRep b μ' a d
 |[],[],_=>trivial
 |_::_,_::_,⟨h,k⟩=>⟨h.mono c hμ,DefsRep.mono c hμ k⟩
theorem TmpsRep.mono{M b:Al}{μ μ':Mu}(c:MLe M b)(hμ:MuLe μ μ'){t:T PV}{n:Nat}{a:Array Value}(h:TmpsRep M μ t n a):TmpsRep b μ' t n a:=
 ⟨h.1,h.2.1,λk=>(h.2.2 k).mono c hμ⟩
theorem BlkAt.mono{M A:Al}{μ μ':Mu}(n:MLe M A)(hμ:MuLe μ μ'){r:Bk}{o:Option Obj}:∀ {b:Blk},BlkAt M μ r o b->BlkAt A μ' r o b
 |.box _ _,⟨C,arr,ty,f,d,g,q⟩=>⟨C,arr,ty,f,d,g,λi c v a b=>(q i c v a b).mono n hμ⟩
 |.row _ _ _,⟨arr,ty,f,d,g,q,u,w,s⟩=>⟨arr,ty,f,d,g,q,u,w,λi e j c v x y z=>⟨(s i e j c v x y z).1,(s i e j c v x y z).2.mono n hμ⟩⟩
 |.mp _,⟨p,m,f,d,g⟩=>⟨p,m,f,d,λi k v e x y=>⟨(g i k v e x y).1.mono n hμ,(g i k v e x y).2.mono n hμ⟩⟩
 |.lp _ _ _ _ _ _ _ _,⟨l,rd,f,d,t,g,q,u,w,s,D,E⟩=>⟨l,rd,f,d,t,g,q.mono n hμ,u,w,s,hμ _ _ D,E⟩
 |.df ds,⟨B,f,d⟩=>⟨B,f,by
   cases ds<;>cases B<;>first|trivial|exact d.elim|exact DefsRep.mono n hμ d⟩
 |.dead,_=>trivial
def GlOK(M:Al):Prop:=∀ (g:Nat) (cs:List PV),Gl.g g=zo cs -> ∃ x:Nat->Value,(∀ (j:Nat) (c:PV),cs[j]?=zo c->M ⟨g,j,zn⟩=zo (x j))/\(∀ (j:Nat) (c:PV),cs[j]?=zo c->(x j).oneCell'=zt) /\ ∀ (j:Nat) (c:PV),cs[j]?=zo c->Rep M mu0 c (x j)
theorem GlOK.mono{M b:Al}(h:GlOK M)(k:MLe M b):GlOK b:=λg cs e=>by
 obtain⟨x,d,f,i⟩:=h g cs e;exact⟨x,λj c a=>k _ _ (d j c a),f,λj c a=>(i j c a).mono k (MuLe.refl _)⟩
structure Sim (M:Al) (μ:Mu) (h:Hp) (w:World):Prop where
 glb:GlOK M
 mem:∀ (a:Addr) (v:Value),M a=zo v->a.spot=zn/\w.cell? a=zo v
 blk:∀ (id:Nat) (b:Blk),h.get id=zo b -> ∃ r,μ id=zo r/\BlkAt M μ r w.heap[r.b]? b
 use:∀ (id:Nat) (r:Bk),μ id=zo r->h.get id≠zn/\r.b<w.heap.size
 inj:∀ (id id':Nat) (r r':Bk) (b b':Blk),μ id=zo r->μ id'=zo r'->h.get id=zo b->h.get id'=zo b'->b.live->b'.live->r.b=r'.b->id=id'
 sep:∀ (id:Nat) (r:Bk) (b:Blk) (a:Addr) (v:Value),h.get id=zo b->μ id=zo r->b.live->M a=zo v->a.block=r.b->LA r a b
structure Grow (M:Al) (μ:Mu) (w:World) (M':Al) (μ':Mu) (w':World):Prop where
 m:MLe M M'
 u:MuLe μ μ'
 only:∀ (a:Addr) (v:Value),M' a=zo v->M a=zo v\/(∃ id r,μ id=zo r/\r.b=a.block)\/w.heap.size<=a.block
 fresh:∀ (id:Nat) (r:Bk),μ' id=zo r->(∃ id0 r0,μ id0=zo r0/\r0.b=r.b)\/w.heap.size<=r.b
 size:w.heap.size<=w'.heap.size
 keep:∀ b,b<w.heap.size->(∀ id r,μ id=zo r->r.b≠b)->w'.heap[b]?=w.heap[b]?
 os:w'.os=w.os
 output:w'.output=w.output
 tape:w'.tape=w.tape
 dr:w.drawn<=w'.drawn
structure WStays (w w':World):Prop where
 os:w'.os=w.os
 output:w'.output=w.output
 tape:w'.tape=w.tape
 dr:w.drawn<=w'.drawn
 size:w.heap.size<=w'.heap.size
 keep:∀ b,b<w.heap.size->w'.heap[b]?=w.heap[b]?
theorem Grow.stays{M a:Al}{μ':Mu}{w w':World}(g:Grow M mu0 w a μ' w'):WStays w w':=⟨g.os,g.output,g.tape,g.dr,g.size,λb c=>g.keep b c λid r d=>by simp[mu0]at d⟩
theorem Grow.refl(M:Al)(μ:Mu)(w:World):Grow M μ w M μ w:=
 ⟨.refl _,.refl _,λ_ _ h=>.inl h,λid r h=>.inl ⟨id,r,h,rfl⟩,ab _,λ_ _ _=>rfl,rfl,rfl,rfl,ab _⟩
theorem Grow.trans{M l n:Al}{μ μ1 μ2:Mu}{w p q:World}(h:Grow M μ w l μ1 p)(k:Grow l μ1 p n μ2 q):Grow M μ w n μ2 q where
 m:=h.m.trans k.m
 u:=h.u.trans k.u
 only a v hv:=by
  rcases k.only a v hv with g|⟨c,f,d,o⟩|hl
  ·exact h.only a v g
  ·rcases h.fresh c f d with⟨j,s,g,e1⟩|hl<;>grind
  ·exact .inr (.inr (aw h.size hl))
 fresh id r i:=by
  rcases k.fresh id r i with⟨c,f,d,o⟩|hl
  ·rcases h.fresh c f d with⟨j,s,g,e1⟩|hl<;>grind
  ·exact .inr (aw h.size hl)
 size:=aw h.size k.size
 keep b hb hn:=by
  rw[k.keep b (Nat.lt_of_lt_of_le hb h.size) ?_,h.keep b hb hn];intro id r i e;rcases h.fresh id r i with⟨c,f,d,o⟩|hl<;>grind
 os:=k.os.trans h.os
 output:=k.output.trans h.output
 tape:=k.tape.trans h.tape
 dr:=aw h.dr k.dr
theorem Sim.drawn{M:Al}{μ:Mu}{h:Hp}{w w':World}(s:Sim M μ h w)(e:w'.heap=w.heap):Sim M μ h w' where
 glb:=s.glb
 mem a v hm:=by
  have:=s.mem a v hm
  grind [World.cell?]
 blk id b hb:=by rw[e];exact s.blk id b hb
 use id r hr:=by rw[e];exact s.use id r hr
 inj:=s.inj
 sep:=s.sep
theorem Grow.drawn{M:Al}{μ:Mu}{w w':World}(e:w'.heap=w.heap)(e1:w'.os=w.os)(e2:w'.output=w.output)(e3:w'.tape=w.tape/\w.drawn<=w'.drawn):Grow M μ w M μ w':=
 ⟨.refl _,.refl _,λ_ _ h=>.inl h,λid r h=>.inl ⟨id,r,h,rfl⟩,by simp_all,λ_ _ _=>by rw[e],e1,e2,e3.1,e3.2⟩
theorem Sim.nx{M:Al}{μ:Mu}{h h':Hp}{w:World}(s:Sim M μ h w)(e:∀ k,h'.get k=h.get k):Sim M μ h' w where
 glb:=s.glb
 mem:=s.mem
 blk id b hb:=s.blk id b (by simp_all)
 use id r hr:=by rw[e];exact s.use id r hr
 inj id id' r r' b b' a1 a2 a3 a4 a5 a6 a7:=s.inj id id' r r' b b' a1 a2 (by simp_all) (by simp_all) a5 a6 a7
 sep id r b a v a1 a2 a3 a4 a5:=s.sep id r b a v (by simp_all) a2 a3 a4 a5
theorem cell?_eq{w:World}{a:Addr}{arr:Array Value}{ty:TypeId}{f:Nat×Nat}(h:w.heap[a.block]?=zo (.cells arr ty f))(hs:a.spot=zn):w.cell? a=arr[a.off]?:=by
 simp[World.cell?,h,hs]
theorem cell?_congr{w w':World}{a:Addr}(h:w'.heap[a.block]?=w.heap[a.block]?):w'.cell? a=w.cell? a:=by
 simp only[World.cell?,h]
theorem Sim.mem_lt{M:Al}{μ:Mu}{h:Hp}{w:World}(s:Sim M μ h w){a:Addr}{v:Value}(b:M a=zo v):a.block<w.heap.size:=
 block_lt_of_cell (s.mem a v b).2
theorem Sim.update{M:Al}{μ:Mu}{h h':Hp}{w w':World}{id:Nat}{b b':Blk}{r:Bk}(s:Sim M μ h w)
  (j:h.get id=zo b) (p:μ id=zo r) (c:b.live)
  (l:∀ k,h'.get k=if k=id then zo b' else h.get k)
  (t:∀ k,k≠r.b->w'.heap[k]?=w.heap[k]?) (q:w'.heap.size=w.heap.size)
  (o:BlkAt M μ r w'.heap[r.b]? b')
  (n:∀ (a:Addr) (v:Value),M a=zo v->a.block=r.b->w'.cell? a=zo v/\LA r a b'):Sim M μ h' w' where
 glb:=s.glb
 mem a v hm:=by
  have u:=s.mem a v hm
  grind [cell?_congr]
 blk k bk hk:=by
  rw[l]at hk;by_cases e:k=id
  ·simp_all
  ·rw[zx e]at hk;obtain⟨d,g,f⟩:=s.blk k bk hk;refine⟨d,g,?_⟩;by_cases m:bk.live
   ·rw[t d.b λe2=>e (s.inj k id d r bk b g p hk j m c e2)];exact f
   ·cases bk<;>first|exact absurd trivial m|trivial
 use k d hk:=by
  have:=s.use k d hk
  grind
 inj k k' d rk' bk bk' a1 a2 a3 a4 a5 a6 a7:=by
  rw[l]at a3 a4;by_cases e:k=id
  ·by_cases i:k'=id
   ·omega
   ·rw[zx i]at a4;subst e;exact s.inj _ _ d rk' b bk' a1 a2 j a4 c a6 a7
  ·rw[zx e]at a3;by_cases i:k'=id
   ·subst i;exact s.inj _ _ d rk' bk b a1 a2 a3 j a5 c a7
   ·rw[zx i]at a4;exact s.inj _ _ d rk' bk bk' a1 a2 a3 a4 a5 a6 a7
 sep k d bk a v a1 a2 a3 a4 a5:=by
  rw[l]at a1;by_cases e:k=id
  ·simp_all
  ·rw[zx e]at a1;exact s.sep k d bk a v a1 a2 a3 a4 a5
theorem Grow.update{M:Al}{μ:Mu}{w w':World}{id:Nat}{r:Bk}(c:μ id=zo r)
  (f:∀ k,k≠r.b->w'.heap[k]?=w.heap[k]?) (d:w'.heap.size=w.heap.size) (e1:w'.os=w.os) (e2:w'.output=w.output) (e3:w'.tape=w.tape/\w.drawn<=w'.drawn):Grow M μ w M μ w':=
 ⟨.refl _,.refl _,λ_ _ h=>.inl h,λid r h=>.inl ⟨id,r,h,rfl⟩,by omega,λb _ a=>f b λe=>a id r c e.symm,e1,e2,e3.1,e3.2⟩
def DW(μ:Mu)(id:Nat)(r:Bk):Mu:=λk=>if k=id then zo r else μ k
theorem Dq{μ:Mu}{id:Nat}{r:Bk}(h:μ id=zn):MuLe μ (DW μ id r):=λk x a=>by
 grind [DW]
theorem Sim.fresh{M:Al}{μ:Mu}{h h':Hp}{w w':World}{id:Nat}{b:Blk}{r:Bk}{o:Obj}(s:Sim M μ h w)
  (L:h.get id=zn) (D:∀ k,h'.get k=if k=id then zo b else h.get k) (S:w'.heap=w.heap.push o) (N:r.b=w.heap.size)
  (K:BlkAt M (DW μ id r) r (zo o) b):Sim M (DW μ id r) h' w'/\μ id=zn:=by
 have hμ:μ id=zn:=by
  cases z:μ id with
  |none=>rfl
  |some x=>exact absurd L (s.use id x z).1
 have t:=Dq (r:=r) hμ;have l:∀ k,k<w.heap.size->w'.heap[k]?=w.heap[k]?:=λk g=>by grind
 have G:w'.heap[r.b]?=zo o:=by simp_all
 have O:w'.heap.size=w.heap.size+1:=by grind
 have d:∀ k x,DW μ id r k=zo x->(k=id/\x=r)\/(k≠id/\μ k=zo x):=by
  intro k x g;unfold DW at g
  grind
 refine⟨?_,hμ⟩;constructor
 ·exact s.glb
 ·intro a v z;have F:=s.mem a v z;exact⟨F.1,by rw[cell?_congr (l _ (s.mem_lt z))];exact F.2⟩
 ·intro k p g;rw[D]at g;by_cases e:k=id
  ·simp_all[zy,DW]
  ·rw[zx e]at g;obtain⟨c,u,q⟩:=s.blk k p g;exact⟨c,t _ _ u,by rw[l _ (s.use k c u).2];exact q.mono (.refl _) t⟩
 ·intro k c g;rcases d k c g with⟨e,rfl⟩|⟨e,g⟩
  ·simp_all
  ·have:=s.use k c g
   grind
 ·intro k A c i p C j f n m B I J;rw[D]at n m;rcases d k c j with⟨e,P⟩|⟨e,j⟩
  ·rcases d A i f with⟨y,E⟩|⟨y,f⟩
   ·omega
   ·have:=(s.use A i f).2;simp_all
  ·rcases d A i f with⟨y,E⟩|⟨y,f⟩
   ·have:=(s.use k c j).2;simp_all
   ·rw[zx e]at n;rw[zx y]at m;exact s.inj k A c i p C j f n m B I J
 ·intro k c p a v j f n m B;rw[D]at j;rcases d k c f with⟨e,P⟩|⟨e,f⟩
  ·have:=s.mem_lt m;simp_all
  ·rw[zx e]at j;exact s.sep k c p a v j f n m B
theorem Grow.newBlk{M:Al}{μ:Mu}{w w':World}{id:Nat}{r:Bk}{o:Obj}(hμ:μ id=zn)(c:w'.heap=w.heap.push o)(a:r.b=w.heap.size)
  (e1:w'.os=w.os) (e2:w'.output=w.output) (e3:w'.tape=w.tape/\w.drawn<=w'.drawn):Grow M μ w M (DW μ id r) w' where
 m:=.refl _
 u:=Dq hμ
 only _ _ h:=.inl h
 fresh k x hk:=by
  unfold DW at hk
  grind
 size:=by grind
 keep b hb _:=by grind
 os:=e1
 output:=e2
 tape:=e3.1
 dr:=e3.2
def Dn(M:Al)(b:Nat)(arr:Array Value):Al:=λa=>if a.block=b then(if a.spot=zn then arr[a.off]? else zn)else M a
theorem Sim.data{M:Al}{μ:Mu}{h:Hp}{w w':World}{arr:Array Value}{ty:TypeId}(s:Sim M μ h w)(u:w'.heap=w.heap.push (.cells arr ty (0,0))) :
  Sim (Dn M w.heap.size arr) μ h w'/\MLe M (Dn M w.heap.size arr):=by
 have g:∀ k,k<w.heap.size->w'.heap[k]?=w.heap[k]?:=λk j=>by grind
 have p:w'.heap[w.heap.size]?=zo (.cells arr ty (0,0)):=by grind
 have c:MLe M (Dn M w.heap.size arr):=λa v b=>by
  unfold Dn;rw[zx (by have:=s.mem_lt b;omega)];exact b
 refine⟨?_,c⟩;constructor
 ·exact s.glb.mono c
 ·intro a v b;unfold Dn at b;by_cases e:a.block=w.heap.size
  ·rw[zy e]at b;by_cases hs:a.spot=zn
   ·rw[zy hs]at b;grind [cell?_eq]
   simp_all
  ·rw[zx e]at b;have t:=s.mem a v b
   grind [cell?_congr]
 ·intro k m j;obtain⟨d,i,f⟩:=s.blk k m j;exact⟨d,i,by rw[g _ (s.use k d i).2];exact f.mono c (.refl _)⟩
 ·intro k d j;have:=s.use k d j
  grind
 ·exact s.inj
 ·intro k d m a v q n r l o;unfold Dn at l;rw[zx (by rw[o];have:=(s.use k d n).2;omega)]at l;exact s.sep k d m a v q n r l o
theorem Grow.data{M:Al}{μ:Mu}{w w':World}{o:Obj}{arr:Array Value}(c:MLe M (Dn M w.heap.size arr))(e:w'.heap=w.heap.push o)(e1:w'.os=w.os)(e2:w'.output=w.output)(e3:w'.tape=w.tape/\w.drawn<=w'.drawn):Grow M μ w (Dn M w.heap.size arr) μ w':=
 ⟨c,.refl _,λa v h=>by
   grind [Dn],λid r h=>.inl ⟨id,r,h,rfl⟩,by grind,λb d _=>by grind,e1,e2,e3.1,e3.2⟩
end
section
variable[Gl]
section
variable{P:Program}{M:Al}{μ:Mu}{h:Hp}{w:World}
theorem AA{α β:Type}{o:Option α}{f:α->β}{b:β}(e:o.map f=zo b):∃ a,o=zo a/\f a=b:=by
 simp_all
theorem CU{t:T PV}{nt:Nat}{a:Act}{o:Operand}{p:PV}(b:GlOK M)(m:TmpsRep M μ t nt a.tmps)(e:CO t o=zo p):Rep M μ p (a.eval o):=by
 cases o with
 |tmp k=>simp only[CO,Option.some.injEq]at e;subst e;exact m.2.2 k
 |const v=>exact Lr e M μ
 |global g=>
  obtain⟨cs,hc,rfl⟩:=AA e;obtain⟨x,n,d,l⟩:=b g cs hc;have:(λj=>(⟨g,0+j,zn⟩:Addr))=λj=>⟨g,j,zn⟩:=by simp_all
  exact .view _ cs g 0 x (λj c h=>by simp_all) d l
 |func f=>
  simp only[CO,Option.some.injEq]at e;subst e;exact .fn _ _ [] [] #[] #[] (by simp_all) rfl rfl (λi c v h=>by simp at h) (λi c v h=>by simp at h)
theorem IX{t:T PV}{nt:Nat}{a:Act}(c:GlOK M)(d:TmpsRep M μ t nt a.tmps):∀ {l:List Operand} {b:List PV},MK t l=zo b->RepL M μ b (l.map a.eval)
 |[],b,e=>by cases e;exact RepL.nil _ _
 |o::l,b,e=>by
  unfold MK at e;split at e
  ·rename_i p q f g;cases e;exact RepL.cons (CU c d f) (IX c d g)
  ·cases e
def H1(M:Al)(μ:Mu)(w:World)(b off:Nat)(cs:List PV):Prop:=
 ∀ (j:Nat) (c:PV),cs[j]?=zo c -> ∃ x,w.cell? ⟨b,off+j,zn⟩=zo x/\x.oneCell'=zt/\Rep M μ c x
theorem Bs(b off n:Nat):(⟨b,off,zn⟩:Addr).add n=⟨b,off+n,zn⟩:=by
 unfold Addr.add;simp_all
theorem ER{ty:TypeId}{b off:Nat}{cs:List PV}{p:PV}(hc:H1 M μ w b off cs)(e:Pi.part P ty cs=zo p) :
  ∃ v,(loadVar ty ⟨b,off,zn⟩).run P w=.ok v w/\Rep M μ p v:=by
 unfold Pi.part at e;split at e
 ·rename_i n d k;cases l:ad n cs.length with
  |false=>simp_all
  |true=>
   rw[l]at e;cases e;have z:n<=cs.length:=ap l
   have g:∃ f:Nat->Value,∀ j,j<n->w.cell? ⟨b,off+j,zn⟩=zo (f j)/\(f j).oneCell'=zt /\ ∀ c,cs[j]?=zo c->Rep M μ c (f j):=by
    have:∀ j,∃ x:Value,j<n->w.cell? ⟨b,off+j,zn⟩=zo x/\x.oneCell'=zt /\ ∀ c,cs[j]?=zo c->Rep M μ c x:=by
     intro j;by_cases a:j<n
     ·obtain⟨x,o,t,q⟩:=hc j cs[j] (ah (by omega))
      grind
     ·exact⟨undef,λh=>absurd h a⟩
    exact⟨λj=>Classical.choose (this j),λj a=>Classical.choose_spec (this j) a⟩
   obtain⟨f,u⟩:=g;refine⟨.agg ((List.range n).map f).toArray,?_,?_⟩
   ·have y:=run_loadCells (P:=P) w ⟨b,off,zn⟩ n f (λj a=>by rw[Bs];simp_all)
    simp_all[loadVar,IA,Ac]
   ·refine .agg _ _ _ (by simp;omega) (λi v s=> ?_) (λi c v r s=> ?_)
    all_goals grind
 ·rename_i n d k;split at e
  ·rename_i c m;cases e;obtain⟨x,o,_,q⟩:=hc 0 p rfl
   simp_all[loadVar,IA,aZ]
  ·cases e
 ·cases e
theorem Dp{b:Nat}{ty:TypeId}(vs:List Value):∀ (w:World) (arr:Array Value) (off i:Nat),w.heap[b]?=zo (.cells arr ty (0,0))->off+i+vs.length<=arr.size->(∀ v∈vs,v.oneCell'=zt) ->
  ∃ w' c,(storeCells ⟨b,off,zn⟩ vs i).run P w=.ok () w'/\w'.heap[b]?=zo (.cells c ty (0,0))/\c.size=arr.size /\
   (∀ j,c[j]?=if off+i<=j/\j<off+i+vs.length then vs[j-(off+i)]? else arr[j]?)/\(∀ k,k≠b->w'.heap[k]?=w.heap[k]?)/\w'.heap.size=w.heap.size /\
   w'.os=w.os/\w'.output=w.output/\w'.tape=w.tape/\w'.drawn=w.drawn:=by
 induction vs with
 |nil=>
  intro w arr off i e _ _;exact⟨w,arr,by rfl,e,rfl,λj=>by grind,λ_ _=>rfl,rfl,rfl,rfl,rfl,rfl⟩
 |cons v vs E=>
  intro w arr off i e l m;simp only[bu]at l;have y:off+i<arr.size:=by omega
  have h:w.cell? ⟨b,off+i,zn⟩=zo arr[off+i]:=by
   rw[cell?_eq (a:=⟨b,off+i,zn⟩) e rfl];grind
  have u:w.frozen? ⟨b,off+i,zn⟩=zf:=by simp[World.frozen?,e]
  have C:v.oneCell'=zt:=m v (by simp)
  have B:(store ⟨b,off+i,zn⟩ v).run P w=.ok () (w.setCell ⟨b,off+i,zn⟩ v):=by
   grind [run_store]
  have g:(w.setCell ⟨b,off+i,zn⟩ v).heap[b]?=zo (.cells (arr.setIfInBounds (off+i) v) ty (0,0)):=heap_setCell_same w b (off+i) arr ty v e;obtain⟨w',c,G,n,F,o,p,q,r,s,t,f⟩:=E (w.setCell ⟨b,off+i,zn⟩ v) _ off (i+1) g (by simp;omega) (λx D=>m x (by simp[D]));refine⟨w',c,?_,n,by grind,λj=> ?_,λk A=> ?_,by rw[q];simp,by rw[r];rfl,by rw[s];rfl,by rw[t];rfl,by rw[f];rfl⟩
  ·grind [storeCells,Sem.run_bind,Bs,Result.andThen]
  ·rw[o j];by_cases z:off+(i+1)<=j/\j<off+(i+1)+vs.length
   ·grind
   ·rw[zx z,bT];by_cases d:off+i=j
    ·rw[zy d,zy (by omega),zy (by simp;omega)];subst d;simp
    ·rw[zx d,zx (by simp;omega)]
  ·rw[p k A];exact heap_setCell_other w _ k v (by omega)
theorem Ij(cs:List PV)(off:Nat)(x:List PV)(a:off+x.length<=cs.length)(j:Nat) :
  (BH cs off x)[j]?=if off<=j/\j<off+x.length then x[j-off]? else cs[j]?:=by
 unfold BH;rw[aV,List.length_take,Nat.min_eq_left (by omega)]
 grind
theorem Dh(cs:List PV)(off:Nat)(x:List PV)(a:off+x.length<=cs.length):(BH cs off x).length=cs.length:=by
 unfold BH;simp;omega
theorem AM{α:Type}:∀ (l:List α) (k:Nat),lget l k=l[k]?
 |[],k=>by simp[lget]
 |a::l,0=>by simp[lget]
 |a::l,k+1=>by simp[lget,Fk (cP k),AM l k]
theorem AS{α:Type}:∀ (l:List α) (k:Nat) (x:α),lset l k x=l.set k x
 |[],k,x=>by simp[lset]
 |a::l,0,x=>by simp[lset]
 |a::l,k+1,x=>by simp[lset,Fk (cP k),AS l k x]
theorem Jh(s:Sim M μ h w){j off:Nat}{cs:List PV}{fz:Bool}(m:h.get j=zo (.box cs fz)):∃ r,μ j=zo r/\H1 M μ w r.b (r.base+off) (cs.drop off):=by
 obtain⟨r,n,f,arr,ty,g,o,i,l⟩:=s.blk j _ m;refine⟨r,n,λk c e=> ?_⟩;rw[aJ]at e;have d:off+k<arr.size:=by grind
 refine⟨arr[off+k],?_,i _ _ (ak d),l _ _ _ e (ak d)⟩;rw[cell?_eq (a:=⟨r.b,r.base+off+k,zn⟩) g rfl,f.1,aO]
 simp_all
theorem HX{r:Bk}{es:List PV}{i:Nat}{e:PV}{j n:Nat}(a:es.length<=r.cap)(f:r.base+r.cap*r.esz<=n)(b:es[i]?=zo e)(d:e.cells.length=r.esz)(c:j<e.cells.length):r.base+i*r.esz+j<n:=by
 have hi:i<es.length:=(an.1 b).1;have:(i+1)*r.esz<=r.cap*r.esz:=aA _ (by omega)
 grind
theorem OW(s:Sim M μ h w){j i off:Nat}{es:List PV}{ex fz:Bool}{e:PV}(u:h.get j=zo (.row es ex fz))(d:es[i]?=zo e):∃ r,μ j=zo r/\H1 M μ w r.b (r.base+i*r.esz+off) (e.cells.drop off):=by
 obtain⟨r,x,arr,ty,n,o,p,y,z,q,t⟩:=s.blk j _ u;refine⟨r,x,λk c f=> ?_⟩;rw[aJ]at f;have g:=(an.1 f).1;have l:r.base+i*r.esz+(off+k)<arr.size:=HX p o d (q i e d) g;have m:=ak l;have:=t i e (off+k) c _ d f m;refine⟨_,?_,this.1,this.2⟩;rw[cell?_eq (a:=⟨r.b,r.base+i*r.esz+off+k,zn⟩) n rfl,bw (r.base+i*r.esz) off k];exact m
theorem NM(s:Sim M μ h w){cs:List PV}{b off:Nat}{x:Nat->Value}
  (e:∀ (j:Nat) (c:PV),cs[j]?=zo c->M ⟨b,off+j,zn⟩=zo (x j)) (d:∀ (j:Nat) (c:PV),cs[j]?=zo c->(x j).oneCell'=zt)
  (f:∀ (j:Nat) (c:PV),cs[j]?=zo c->Rep M mu0 c (x j)):H1 M μ w b off cs:=
 λj c a=>⟨x j,(s.mem _ _ (e j c a)).2,d j c a,(f j c a).mono (.refl _) (.mu0 _)⟩
end
end
section
variable[Gl]
section
variable{P:Program}{M:Al}{μ:Mu}{h:Hp}{w:World}
def Br(P:Program)(M:Al)(μ:Mu)(w:World)(a:Result Next):R->Prop
 |.val v h'=>∃ e μ' w' x,a=.ok (.value x) w'/\Sim e μ' h' w'/\Grow M μ w e μ' w'/\Rep e μ' v x
 |.skip h'=>∃ e μ' w',a=.ok .skip w'/\Sim e μ' h' w'/\Grow M μ w e μ' w'
 |.call f args=>∃ vs:List Value,a=.ok (.enter f vs.toArray) w/\RepL M μ args vs /\ ∃ g c,P.funcs[f]?=zo g/\g.body=zo c
 |.yield id args=>∃ (vs:List Value) (r:Bk),μ id=zo r/\a=(Instr.yield r.b vs.toArray).run P w/\RepL M μ args vs
 |.pan v=>∃ x,a=.halt (.panic x) w/\Rep M μ v x
 |.rcv=>a=.ok .recover w
 |.dfr d=>∃ D,a=.ok (.defer D) w/\DefRep M μ d D
theorem AC(s:Sim M μ h w){v:PV}{x:Value}{a:Sem Value}(e:a.run P w=.ok x w)(b:Rep M μ v x) :
  Br P M μ w ((do pure (.value (<- a)):Sem Next).run P w) (.val v h):=
 ⟨M,μ,w,x,by simp[e],s,.refl _ _ _,b⟩
theorem Di{o:Option PV}{r:R}(e:vl o h=zo r):∃ v,o=zo v/\r=.val v h:=by
 unfold vl at e;cases o<;>simp_all
theorem RO(s:Sim M μ h w){ty:TypeId}{p:PV}{x:Value}(k:Rep M μ p x){r:R}
  (e:CD P h ty p=zo r):Br P M μ w ((do pure (.value (<- Instr.loadAt ty x)):Sem Next).run P w) r:=by
 unfold CD at e;split at e
 ·rename_i j off;split at e
  ·rename_i cs fz g;obtain⟨v,d,rfl⟩:=Di e;cases k with
   |ptr _ _ _ r hr=>
    obtain⟨m,a,hc⟩:=Jh s (off:=off) g;rw[hr]at a;cases a;obtain⟨y,f,c⟩:=ER hc d;exact AC s (by simp[Instr.loadAt,Instr.sureAddr,f]) c
  ·cases e
 ·rename_i cs;obtain⟨v,d,rfl⟩:=Di e;cases k with
  |view _ _ b off x hm h1 hr=>
   obtain⟨y,f,c⟩:=ER (NM s hm h1 hr) d;exact AC s (by simp[Instr.loadAt,Instr.sureAddr,f]) c
 ·rename_i j i off;split at e
  ·rename_i es ex fz g;split at e
   ·rename_i n l;rw[AM]at l;obtain⟨v,d,rfl⟩:=Di e;cases k with
    |ept _ _ _ _ r hr=>
     obtain⟨m,a,hc⟩:=OW s (off:=off) g l;rw[hr]at a;cases a;obtain⟨y,f,c⟩:=ER hc d;exact AC s (by simp[Instr.loadAt,Instr.sureAddr,f]) c
   ·cases e
  ·cases e
 ·cases e
theorem Cq{v:PV}{n:Nat}(h:v.cells.length=n)(a:0<n):∀ cs,v ≠ .tup cs:=by
 grind [PV.cells]
theorem O8(s:Sim M μ h w){j off:Nat}{cs:List PV}{v:PV}{x:Value}{ty n:Nat}{h':Hp}{r:Bk}(l:μ j=zo r)(m:h.get j=zo (.box cs zf))
  (K:Rep M μ v x) (J:AU P ty=zo n) (q:v.cells.length=n) (t:0<n) (G:off+n<=cs.length) (hs:h.set j (.box (BH cs off v.cells) zf)=zo h') :
  Br P M μ w ((do Instr.storeAt ty (.pointer (zo ⟨r.b,r.base+off,zn⟩)) x;pure .skip:Sem Next).run P w) (.skip h'):=by
 obtain⟨r',k,u,arr,f,D,E,Y,Z⟩:=s.blk j _ m;rw[l]at k;cases k;obtain⟨hc,z⟩:=K.cells (Cq q t);have g:x.cells.toList.length=n:=by rw[<- hc.1];exact q
 have p:x.cells.size=n:=by omega
 obtain⟨w',e,A,L,N,O,B,C,S,U,W,X⟩:=Dp (P:=P) (ty:=f) x.cells.toList w arr off 0 D (by omega)
  (λy d=>by obtain⟨i,hi⟩:=bn.1 d;grind)
 refine⟨M,μ,w',?_,?_,Grow.update l B C S U ⟨W,cZ X.symm⟩⟩
 ·simp_all[aO,Instr.storeAt,Instr.sureAddr,storeVar,Ac]
 ·refine s.update m l trivial (Hp.get_set hs).1 B C ?_ ?_
  ·refine⟨⟨u.1,u.2.1,by simp_all[Dh]⟩,e,f,L,?_,?_,?_⟩
   ·rw[N,E,Dh];omega
   ·grind
   ·intro i c y hi d;rw[Ij _ _ _ (by omega)]at hi;rw[O]at d;rw[g]at d;rw[q]at hi;simp only[aZ]at d;by_cases o:off<=i/\i<off+n
    ·rw[zy o]at hi d;exact hc.2 _ c y hi d
    grind
  ·intro a y I F;have:=s.sep j r _ a y m l trivial I F;exact absurd this (by simp[LA])
theorem F8{i k j j' z:Nat}(b:j<z)(a:j'<z)(e:i*z+j=k*z+j'):i=k/\j=j':=by
 grind [c0,Nat.mul_add_div,Nat.div_eq_of_lt]
theorem Jt(s:Sim M μ h w){j i off:Nat}{es:List PV}{ex:Bool}{A q:PV}{v:PV}{x:Value}{ty n:Nat}{h':Hp}{r:Bk}(I:μ j=zo r)(J:h.get j=zo (.row es ex zf))
  (L:es[i]?=zo A) (o:q.cells=BH A.cells off v.cells)
  (hx:Rep M μ v x) (U:AU P ty=zo n) (O:v.cells.length=n) (S:0<n) (hle:off+n<=A.cells.length) (hs:h.set j (.row (lset es i q) ex zf)=zo h') :
  Br P M μ w ((do Instr.storeAt ty (.pointer (zo ⟨r.b,r.base+i*r.esz+off,zn⟩)) x;pure .skip:Sem Next).run P w) (.skip h'):=by
 obtain⟨r',F,arr,B,h1,h2,W,h4,h5,h6,h7⟩:=s.blk j _ J;rw[I]at F;cases F;obtain⟨hc,E⟩:=hx.cells (Cq O S);have D:x.cells.toList.length=n:=by rw[<- hc.1];exact O
 have u:x.cells.size=n:=by omega
 have hi:i<es.length:=(an.1 L).1;have C:=h6 i A L;have hin:r.base+i*r.esz+(off+n-1)<arr.size:=HX W h2 L C (by omega)
 obtain⟨w',z,G,k1,k2,k3,Y,Z,k6,k7,k8,k9⟩:=Dp (P:=P) (ty:=B) x.cells.toList w arr (r.base+i*r.esz+off) 0 h1 (by omega)
  (λy l=>by obtain⟨i,hi⟩:=bn.1 l;grind)
 have hl':q.cells.length=A.cells.length:=by rw[o,Dh];omega
 refine⟨M,μ,w',?_,?_,Grow.update I Y Z k6 k7 ⟨k8,cZ k9.symm⟩⟩
 ·simp[Instr.storeAt,Instr.sureAddr,storeVar,Ac U,u,G]
 ·refine s.update J I trivial (Hp.get_set hs).1 Y Z ?_ ?_
  ·refine⟨z,B,k1,by omega,by simpa[AS]using W,by simpa[AS]using h4,h5,?_,?_⟩
   ·intro k e t;rw[AS,aR]at t
    grind
   ·intro k e m c y t f l
    have N:m<r.esz:=by
     rw[AS,aR]at t;have:=(an.1 f).1;by_cases g:i=k<;>grind
    rw[AS,aR]at t;rw[k3,D]at l;simp only[aZ]at l;by_cases g:i=k
    ·rw[zy g,zy hi]at t;cases t;subst g;rw[o,Ij _ _ _ (by omega),O]at f;by_cases p:off<=m/\m<off+n
     ·rw[zy p]at f;rw[zy (by omega)]at l;have e1:r.base+i*r.esz+m-(r.base+i*r.esz+off)=m-off:=by omega
      rw[e1]at l;exact⟨E (m-off) y (by grind),hc.2 _ c y f l⟩
     ·rw[zx p]at f;rw[zx (by omega)]at l
      grind
    ·rw[zx g]at t;rw[zx ?_]at l
     ·grind
     ·intro X;have hd:∃ d,d<r.esz/\r.base+k*r.esz+m=r.base+i*r.esz+d:=⟨r.base+k*r.esz+m-(r.base+i*r.esz),by omega,by omega⟩;obtain⟨d,K,hd2⟩:=hd;exact g (F8 (i:=k) (k:=i) N K (by omega)).1.symm
  ·intro a y N ha;have:=s.sep j r _ a y J I trivial N ha;exact absurd this (by simp[LA])
theorem Jc(s:Sim M μ h w){id:Nat}{cs:List PV}{arr:Array Value}{ty:TypeId}{h':Hp}(d:RepL M μ cs arr.toList)(e:∀ (i:Nat) (v:Value),arr[i]?=zo v->v.oneCell'=zt)
  (g:h.new id (.box cs zf)=zo h') :
  Br P M μ w ((do pure (.value (<- (do pure (.pointer (zo (<- newRow ty arr))):Sem Value))):Sem Next).run P w) (.val (.ptr id 0) h'):=by
 obtain⟨a,b,_⟩:=Hp.get_new g
 have hμ:μ id=zn:=by
  cases f:μ id with
  |none=>rfl
  |some x=>exact absurd a (s.use id x f).1
 have hS:=s.fresh (w':=w.alloc (.cells arr ty)) (r:=⟨w.heap.size,0,1,cs.length⟩) (o:=.cells arr ty (0,0)) a b rfl rfl
  ⟨⟨rfl,rfl,rfl⟩,arr,ty,rfl,by simpa using d.1.symm,e,λi c v hc j=>(d.2 i c v hc (by grind)).mono (.refl _) (Dq hμ)⟩
 refine⟨M,DW μ id ⟨w.heap.size,0,1,cs.length⟩,w.alloc (.cells arr ty),.pointer (zo ⟨w.heap.size,0,zn⟩),?_,hS.1,Grow.newBlk hμ rfl rfl rfl rfl ⟨rfl,ab _⟩,?_⟩
 ·rfl
 ·exact .ptr _ _ _ ⟨w.heap.size,0,1,cs.length⟩ (by simp[DW])
theorem HI(x:Array Value)(off:Nat):∀ (n:Nat) (l:List (Value×Nat)) (cells:Array Value),(∀ i v,l[i]?=zo v->v.2=n+i) ->
  (l.foldl (λcs (p:Value×Nat)=>cs.setIfInBounds (off+p.2) p.1) cells).size=cells.size /\
  ∀ k,off+n+l.length<=cells.size->(l.foldl (λcs (p:Value×Nat)=>cs.setIfInBounds (off+p.2) p.1) cells)[k]?=if off+n<=k/\k<off+n+l.length then(l[k-(off+n)]?).map (·.1)else cells[k]?
 |n,[],cells,_=>⟨rfl,λk _=>by grind⟩
 |n,p::l,cells,hl=>by
  have a:=hl 0 p rfl;have d:=HI x off (n+1) l (cells.setIfInBounds (off+p.2) p.1) (λi v e=>by have:=hl (i+1) v (by grind);omega);simp only[cM];refine⟨by grind,λk c=> ?_⟩;simp only[bu]at c ⊢;rw[d.2 k (by simp;omega)];by_cases b:off+(n+1)<=k/\k<off+(n+1)+l.length
  ·grind
  ·rw[zx b,bT,a]
   grind
theorem E5(x:Array Value)(off:Nat)(cells:Array Value)(a:off+x.size<=cells.size)(k:Nat) :
  (x.zipIdx.foldl (λcs (p:Value×Nat)=>cs.setIfInBounds (off+p.2) p.1) cells)[k]?=if off<=k/\k<off+x.size then x[k-off]? else cells[k]?:=by
 rw[<- cu];have:=(HI x off 0 x.zipIdx.toList cells (λi v b=>by grind)).2 k (by simp;omega)
 grind
theorem EF(x:Array Value)(off:Nat)(cells:Array Value) :
  (x.zipIdx.foldl (λcs (p:Value×Nat)=>cs.setIfInBounds (off+p.2) p.1) cells).size=cells.size:=by
 rw[<- cu];exact(HI x off 0 x.zipIdx.toList cells (λi v a=>by grind)).1
inductive PartsAt (M:Al) (μ:Mu) (place:Nat->Option (Nat×Nat)):List (Nat×Value)->List (Nat×Nat×List PV)->Prop
 |nil:PartsAt M μ place [] []
 |cons (i:Nat) (v:Value) (p:PV) (off n:Nat) (l:List (Nat×Value)) (m:List (Nat×Nat×List PV)) (hp:place i=zo (off,n)) (hr:Rep M μ p v) (hn:0<n)
   (h:PartsAt M μ place l m):PartsAt M μ place ((i,v)::l) ((off,n,p.cells)::m)
theorem NZ{b:Nat->Option (Nat×Nat)}{l:List (Nat×Value)}{m:List (Nat×Nat×List PV)}(C:PartsAt M μ b l m) :
  ∀ {cs f:List PV} {cells:Array Value},RepL M μ cs cells.toList->(∀ (i:Nat) (v:Value),cells[i]?=zo v->v.oneCell'=zt)->Ff cs m=zo f ->
   ∃ a,Instr.fill b cells l=zo a/\RepL M μ f a.toList/\(∀ (i:Nat) (v:Value),a[i]?=zo v->v.oneCell'=zt):=by
 induction C with
 |nil=>grind [Ff,Instr.fill]
 |cons i v p off n l m hpl hrp hn0 _ ih=>
  intro cs f cells x D e;unfold Ff at e;cases hc:(aa p.cells.length n&&ad (off+n) cs.length)with
  |false=>simp_all
  |true=>
   rw[hc]at e;simp at hc;obtain⟨j,B⟩:=hc;obtain⟨o,w⟩:=hrp.cells (Cq j hn0);have u:v.cells.size=n:=by have:=o.1;simp_all
   have d:cells.size=cs.length:=by simpa using x.1.symm
   have r:off+v.cells.size<=cells.size:=by omega
   have z:RepL M μ (BH cs off p.cells) (v.cells.zipIdx.foldl (λcs (p:Value×Nat)=>cs.setIfInBounds (off+p.2) p.1) cells).toList:=by
    refine⟨?_,λk c y g h=> ?_⟩
    ·rw[Dh _ _ _ (by omega)];exact d.symm.trans ((EF v.cells off cells).symm.trans (Array.length_toList (xs:=_)).symm)
    ·rw[Ij _ _ _ (by omega)]at g;simp only[Array.getElem?_toList]at h;rw[E5 _ _ _ r,u]at h;rw[j]at g;by_cases q:off<=k/\k<off+n
     ·rw[zy q]at g h;exact o.2 _ c y g (by grind)
     ·rw[zx q]at g h;exact x.2 k c y g (by grind)
   have A:∀ (i:Nat) (y:Value),(v.cells.zipIdx.foldl (λcs (p:Value×Nat)=>cs.setIfInBounds (off+p.2) p.1) cells)[i]?=zo y->y.oneCell'=zt:=by
    intro k y h;rw[E5 _ _ _ r]at h
    grind
   obtain⟨a,E,t,s⟩:=ih z A e;refine⟨a,?_,t,s⟩
   simp_all[Instr.fill,zx]
end
end
section
variable[Gl]
section
variable{P:Program}{M:Al}{μ:Mu}{h:Hp}{w:World}
def Jw(r:Bk)(a:Addr):Blk->Prop
 |.box _ _=>True
 |.row es _ _=>a.off<r.base+es.length*r.esz
 |_=>False
def NN(h:Hp)(μ:Mu)(L:List Nat)(a:Addr):Prop:=∃ id∈L,∃ r b,μ id=zo r/\h.get id=zo b/\a.block=r.b/\a.spot=zn/\Jw r a b
def KG(r:Bk)(a:Addr):Blk->Bool
 |.box _ _=>zt
 |.row es _ _=>ae a.off (r.base+es.length*r.esz)
 |_=>zf
def Nh(h:Hp)(μ:Mu)(L:List Nat)(a:Addr):Bool:=L.any λid=>match μ id,h.get id with
 |some r,zo b=>aa a.block r.b&&a.spot.isNone&&KG r a b
 |_,_=>zf
theorem Hk{r:Bk}{a:Addr}{b:Blk}:KG r a b=zt<->Jw r a b:=by
 cases b<;>simp[KG,Jw]
theorem JZ{h:Hp}{μ:Mu}{L:List Nat}{a:Addr}:Nh h μ L a=zt<->NN h μ L a:=by
 unfold Nh NN;rw[List.any_eq_true];constructor
 ·rintro⟨id,c,d⟩;split at d
  ·rename_i r b f e;simp only[ac,bq]at d;exact⟨id,c,r,b,f,e,d.1.1,by simp_all,Hk.1 d.2⟩
  ·cases d
 ·rintro⟨id,c,r,b,f,e,g,i,j⟩;refine⟨id,c,?_⟩;simp only[f,e,ac,bq];exact⟨⟨g,by rw[i];rfl⟩,Hk.2 j⟩
def Hj(M:Al)(h:Hp)(μ:Mu)(w:World)(L:List Nat):Al:=λa=>match M a with
 |some v=>zo v
 |none=>if Nh h μ L a then w.cell? a else zn
theorem C3(L:List Nat):MLe M (Hj M h μ w L):=λa v e=>by simp[Hj,e]
theorem Ic(s:Sim M μ h w){L:List Nat}{a:Addr}{v:Value}(hi:NN h μ L a)(hc:w.cell? a=zo v):Hj M h μ w L a=zo v:=by
 unfold Hj;cases e:M a with
 |some x=>have:=(s.mem a x e).2;simp_all
 |none=>simp[JZ.2 hi,hc]
theorem De{L:List Nat}{a:Addr}{v:Value}(e:Hj M h μ w L a=zo v):M a=zo v\/(NN h μ L a/\w.cell? a=zo v):=by
 unfold Hj at e;cases b:M a with
 |some x=>simp_all
 |none=>
  rw[b]at e;simp only at e;split at e
  ·rename_i hi;exact .inr ⟨JZ.1 hi,e⟩
  ·cases e
theorem KI(s:Sim M μ h w){L:List Nat}{a:Addr}{v:Value}(e:Hj M h μ w L a=zo v):a.spot=zn/\w.cell? a=zo v:=by
 rcases De e with e|⟨⟨_,_,_,_,_,_,_,hs,_⟩,hc⟩
 ·exact s.mem a v e
 simp_all
theorem DC{f:PV->Option (PV×List Nat)}:∀ {d c:List PV} {l:List Nat},AB f d=zo (c,l) ->
  c.length=d.length /\ ∀ (i:Nat) (p:PV),d[i]?=zo p -> ∃ q l',f p=zo (q,l')/\c[i]?=zo q /\ ∀ x∈l',x∈l
 |[],c,l,e=>by
  simp_all[AB]
 |p::d,c,l,e=>by
  unfold AB at e;split at e
  ·rename_i q a h b j g;cases e;obtain⟨k,m⟩:=DC g
   grind
  ·cases e
theorem CM{n:Nat}{p q:PV}{l:List Nat}(e:AW h n p=zo (q,l)) :
  q.cells.length=p.cells.length /\ ∀ (j:Nat) (c:PV),p.cells[j]?=zo c -> ∃ m g l',m<=n/\AW h m c=zo (g,l')/\q.cells[j]?=zo g /\ ∀ x∈l',x∈l:=by
 have d:p.cells=[p]->q.cells=[q]->q.cells.length=p.cells.length /\ ∀ (j:Nat) (c:PV),p.cells[j]?=zo c -> ∃ m g l',m<=n/\AW h m c=zo (g,l')/\q.cells[j]?=zo g /\ ∀ x∈l',x∈l:=by
  grind
 cases n with
 |zero=>simp[AW]at e
 |succ n=>
  cases p with
  |agg cs=>
   unfold AW at e;cases k:AB (AW h n) cs with
   |none=>grind
   |some x=>
    obtain⟨y,C⟩:=x;simp[k]at e;obtain⟨rfl,rfl⟩:=e;obtain⟨A,B⟩:=DC k;refine⟨A,λj c hc=> ?_⟩;obtain⟨q,l',r,s,u⟩:=B j c hc;exact⟨n,q,l',by omega,r,s,u⟩
  |tup cs=>
   unfold AW at e;cases k:AB (AW h n) cs with
   |none=>grind
   |some x=>grind [PV.cells]
  |bool|int|str|nilp|nils|nilm|nilf|nili|lst|view|gk|adr=>unfold AW at e;simp at e;obtain⟨rfl,rfl⟩:=e;exact d rfl rfl
  |yl|mp=>simp[AW]at e
  |own id off len=>
   refine d rfl ?_;unfold AW at e;simp only at e;split at e
   ·rename_i es ex fz w;cases hc:ad (off+len) es.length with
    |false=>grind
    |true=>simp[hc]at e;obtain⟨a,b,_,rfl,_⟩:=e;rfl
   ·cases e
  |ptr id off=>
   refine d rfl ?_;unfold AW at e;simp only at e;split at e
   ·rename_i cs fz w;cases hc:ae off cs.length with
    |false=>grind
    |true=>simp[hc]at e;obtain⟨a,b,_,rfl,_⟩:=e;rfl
   ·cases e
  |ept id i off=>
   refine d rfl ?_;unfold AW at e;simp only at e;split at e
   ·split at e
    ·rename_i o z;cases hc:ae off o.cells.length with
     |false=>grind
     |true=>simp[hc]at e;obtain⟨a,b,_,rfl,_⟩:=e;rfl
    ·cases e
   ·cases e
  |fn f a b=>
   refine d rfl ?_;unfold AW at e;simp only at e;split at e
   ·cases e;rfl
   ·cases e
  |ifc t x=>
   refine d rfl ?_;unfold AW at e;cases k:AW h n x with
   |none=>grind
   |some y=>simp[k]at e;obtain⟨rfl,_⟩:=e;rfl
theorem GE(s:Sim M μ h w)(L:List Nat):∀ (n:Nat) (p q:PV) (l:List Nat) (v:Value),AW h n p=zo (q,l)->Rep M μ p v->(∀ x∈l,x∈L)->Rep (Hj M h μ w L) mu0 q v:=by
 intro n
 induction n using Nat.strongRecOn with
 |ind n ih=>
  intro p q l v e m G;cases n with
  |zero=>simp[AW]at e
  |succ n=>
   have A:∀ {cs K:List PV} {E:List Nat} {vs:Array Value},AB (AW h n) cs=zo (K,E)->(∀ x∈E,x∈L)->cs.length=vs.size ->
     (∀ (i:Nat) (c:PV) (v:Value),cs[i]?=zo c->vs[i]?=zo v->Rep M μ c v) ->
     K.length=vs.size /\ ∀ (i:Nat) (c:PV) (v:Value),K[i]?=zo c->vs[i]?=zo v->Rep (Hj M h μ w L) mu0 c v:=by
    intro cs K E vs g hl0 hlen o;obtain⟨k1,k2⟩:=DC g
    grind
   cases p with
   |agg cs=>
    unfold AW at e;cases g:AB (AW h n) cs with
    |none=>grind
    |some x=>
     obtain⟨y,E⟩:=x;simp[g]at e;obtain⟨rfl,rfl⟩:=e;cases m with
     |agg _ _ vs hl C o=>obtain⟨a,b⟩:=A g G hl o;exact .agg _ _ _ a C b
   |tup cs=>
    unfold AW at e;cases g:AB (AW h n) cs with
    |none=>grind
    |some x=>
     obtain⟨y,E⟩:=x;simp[g]at e;obtain⟨rfl,rfl⟩:=e;cases m with
     |tup _ _ vs hl o=>obtain⟨a,b⟩:=A g G hl o;exact .tup _ _ _ a b
   |bool|int|str|nilp|nils|nilm|nilf|nili=>unfold AW at e;simp at e;obtain⟨rfl,rfl⟩:=e;cases m;constructor
   |lst full es=>
    unfold AW at e;simp at e;obtain⟨rfl,rfl⟩:=e;cases m with
    |lst0 _ _ a cap hf=>exact .lst0 _ _ _ _ hf
    |lst _ _ _ b off esz cap x hf hc hs g C o=>exact .lst _ _ _ _ _ esz _ x hf hc hs (λi e j c a k=>C3 L _ _ (g i e j c a k)) C λi e j c a k=>(o i e j c a k).mono (C3 L) (.refl _)
   |view cs=>
    unfold AW at e;simp at e;obtain⟨rfl,rfl⟩:=e;cases m with
    |view _ _ b off x g C o=>exact .view _ _ _ _ x (λj c a=>C3 L _ _ (g j c a)) C λj c a=>(o j c a).mono (C3 L) (.refl _)
   |gk n=>
    unfold AW at e;simp at e;obtain⟨rfl,rfl⟩:=e;cases m with
    |gk _ _ t a g=>exact .gk _ _ t a (C3 L _ _ g)
   |adr b off=>unfold AW at e;simp at e;obtain⟨rfl,rfl⟩:=e;cases m;constructor
   |yl|mp=>simp[AW]at e
   |own id off len=>
    unfold AW at e;simp only at e;split at e
    ·rename_i es ex fz I;cases hc:ad (off+len) es.length with
     |false=>grind
     |true=>
      simp[hc]at e;obtain⟨K,E,g,rfl,rfl⟩:=e;have hle:off+len<=es.length:=ap hc;cases m with
      |own _ _ _ _ r o hcap=>
       obtain⟨r',u,arr,X,C,h2,Y,h4,h5,Z,h7⟩:=s.blk id _ I;rw[o]at u;cases u;obtain⟨k1,k2⟩:=DC g;have P:K.length=len:=by grind
       have W:∀ (i:Nat) (qe:PV),K[i]?=zo qe -> ∃ F l',es[off+i]?=zo F/\AW h n F=zo (qe,l')/\(∀ x∈l',x∈E):=by
        intro i qe hqe;have hi:i<len:=by grind
        have hes:((es.drop off).take len)[i]?=zo es[off+i]:=by
         simp_all
        grind
       rw[<- P];refine .lst _ _ _ _ _ r.esz _ (λi j=>(arr[r.base+(off+i)*r.esz+j]?).getD undef) (by grind) (by omega) ?_ ?_ ?_ ?_
       ·grind [CM]
       all_goals
        intro i qe j c hqe z;obtain⟨F,l',O,a2,a3⟩:=W i qe hqe;have hcl:=CM a2;have J:j<F.cells.length:=by grind
        have d:r.base+(off+i)*r.esz+j<arr.size:=HX Y h2 O (Z _ _ O) J;obtain⟨n',c',l'',S,N,U,b4⟩:=hcl.2 j _ (ah J);rw[z]at U;cases U;have hv:=h7 (off+i) F j _ _ O (ah J) (ak d);simp only[ak d,aD]
       ·have e1:r.base+off*r.esz+i*r.esz+j=r.base+(off+i)*r.esz+j:=by rw[aX];omega
        rw[e1];refine Ic s ⟨id,G id (by simp),r,_,o,I,rfl,rfl,?_⟩ (by rw[cell?_eq (a:=⟨r.b,r.base+(off+i)*r.esz+j,zn⟩) C rfl];exact ak d);have:=HX (i:=off+i) (es:=es) (r:={ r with cap:=es.length }) (n:=r.base+es.length*r.esz) (ab _) (ab _) O (Z _ _ O) J
        exact this
       all_goals grind
    ·cases e
   |ptr id off=>
    unfold AW at e;simp only at e;split at e
    ·rename_i cs fz I;cases hc:ae off cs.length with
     |false=>simp[hc]at e
     |true=>
      simp[hc]at e;obtain⟨K,E,g,rfl,rfl⟩:=e;cases m with
      |ptr _ _ _ r o=>
       obtain⟨r',u,h0,arr,X,C,h2,Y,h4⟩:=s.blk id _ I;rw[o]at u;cases u;obtain⟨k1,k2⟩:=DC g;refine .view _ _ _ _ (λj=>(arr[off+j]?).getD undef) ?_ ?_ ?_
       all_goals
        intro j c z;have J:j<(cs.drop off).length:=by rw[<- k1];exact(an.1 z).1
        have D:off+j<cs.length:=by simp at J;omega
        obtain⟨c',l',S,N,U⟩:=k2 j _ (ah J);rw[z]at N;cases N;have d:off+j<arr.size:=by omega
        simp only[ak d,aD]
       ·refine Ic s ⟨id,G id (by simp),r,_,o,I,rfl,rfl,trivial⟩ ?_;rw[cell?_eq (a:=⟨r.b,r.base+off+j,zn⟩) C rfl,h0.1,aO];exact ak d
       ·exact Y _ _ (ak d)
       ·refine ih n (by omega) _ _ l' _ S (h4 (off+j) _ _ ?_ (ak d)) λx m=>G x (by simp[U x m]);rw[cz];exact ah D
    ·cases e
   |ept id i off=>
    unfold AW at e;simp only at e;split at e
    ·rename_i es ex fz I;split at e
     ·rename_i F B;rw[AM]at B;cases hc:ae off F.cells.length with
      |false=>simp[hc]at e
      |true=>
       simp[hc]at e;obtain⟨K,E,g,rfl,rfl⟩:=e;cases m with
       |ept _ _ _ _ r o=>
        obtain⟨r',u,arr,X,C,h2,Y,h4,h5,Z,h7⟩:=s.blk id _ I;rw[o]at u;cases u;obtain⟨k1,k2⟩:=DC g;refine .view _ _ _ _ (λj=>(arr[r.base+i*r.esz+(off+j)]?).getD undef) ?_ ?_ ?_
        all_goals
         intro j c z;have J:j<(F.cells.drop off).length:=by rw[<- k1];exact(an.1 z).1
         have D:off+j<F.cells.length:=by simp at J;omega
         obtain⟨c',l',S,N,U⟩:=k2 j _ (ah J);rw[z]at N;cases N;have d:r.base+i*r.esz+(off+j)<arr.size:=HX Y h2 B (Z _ _ B) D;have hv:=h7 i F (off+j) _ _ B (ah D) (ak d);simp only[ak d,aD]
        ·have e1:r.base+i*r.esz+off+j=r.base+i*r.esz+(off+j):=by omega
         rw[e1];refine Ic s ⟨id,G id (by simp),r,_,o,I,rfl,rfl,?_⟩ (by rw[cell?_eq (a:=⟨r.b,r.base+i*r.esz+(off+j),zn⟩) C rfl];exact ak d);exact HX (i:=i) (es:=es) (r:={ r with cap:=es.length }) (n:=r.base+es.length*r.esz) (ab _) (ab _) B (Z _ _ B) D
        ·exact hv.1
        ·refine ih n (by omega) _ _ l' _ S ?_ λx m=>G x (by simp[U x m]);rw[cz];exact hv.2
     ·cases e
    ·cases e
   |fn f a b=>
    unfold AW at e;simp only at e;split at e
    ·rename_i qa la qb lb ha I;cases e;cases m with
     |fn _ _ _ _ va vb hf hla hlb hra hrb=>
      obtain⟨O,a2⟩:=A ha (λx m=>G x (ax _ m)) hla hra;obtain⟨S,N⟩:=A I (λx m=>G x (am _ m)) hlb hrb;exact .fn _ _ _ _ _ _ hf O S a2 N
    ·cases e
   |ifc t x=>
    unfold AW at e;cases g:AW h n x with
    |none=>simp[g]at e
    |some y=>
     obtain⟨y,E⟩:=y;simp[g]at e;obtain⟨rfl,rfl⟩:=e;cases m with
     |ifc _ _ _ v o=>exact .ifc _ _ _ _ (ih n (by omega) _ _ E _ g o G)
theorem N6(s:Sim M μ h w)(L:List Nat):∀ {f c:List PV} {l:List Nat} {vs:List Value},Ap h f=zo (c,l)->RepL M μ f vs->(∀ x∈l,x∈L)->RepL (Hj M h μ w L) mu0 c vs
 |[],c,l,vs,e,hr,_=>by simp[Ap]at e;obtain⟨rfl,rfl⟩:=e;rw[hr.nil_inv];exact RepL.nil _ _
 |p::f,c,l,vs,e,hr,hL=>by
  unfold Ap at e;split at e
  ·rename_i q a j b g i;cases e;obtain⟨v,n,rfl,k,m⟩:=hr.cons_inv;exact RepL.cons (GE s L _ _ _ _ _ g k λx d=>hL x (ax _ d)) (N6 s L i m λx d=>hL x (am _ d))
  ·cases e
theorem RF(s:Sim M μ h w){id:Nat}{b b':Blk}{h':Hp}(B:h.get id=zo b)(hs:h.set id b'=zo h')
  (F:(∃ cs fz,b=.box cs fz/\b'=.box cs zt) \/ ∃ es ex fz,b=.row es ex fz/\b'=.row es ex zt):Sim (Hj M h μ w [id]) μ h' w:=by
 obtain⟨r,G,K⟩:=s.blk id b B;have f:=(Hp.get_set hs).1;have t:=C3 (M:=M) (h:=h) (μ:=μ) (w:=w) [id];have c:b.live:=by rcases F with⟨_,_,rfl,_⟩|⟨_,_,_,rfl,_⟩<;>trivial
 constructor
 ·exact s.glb.mono t
 ·intro a v e;exact KI s e
 ·intro k q i;rw[f]at i;by_cases J:k=id
  ·rw[zy J]at i;cases i;subst J;refine⟨r,G,BlkAt.mono t (.refl _) ?_⟩;rcases F with⟨_,_,rfl,rfl⟩|⟨_,_,_,rfl,rfl⟩<;>exact K
  ·rw[zx J]at i;obtain⟨l,N,A⟩:=s.blk k q i;exact⟨l,N,A.mono t (.refl _)⟩
 ·intro k l L;have:=s.use k l L
  grind
 ·intro k P l u q y j o p d x O I;rw[f]at p d;by_cases e:k=id
  ·by_cases E:P=id
   ·omega
   ·rw[zx E]at d;subst e;exact s.inj _ _ l u b y j o B d c O I
  ·rw[zx e]at p;by_cases E:P=id
   ·subst E;exact s.inj _ _ l u q b j o p B x c I
   ·rw[zx E]at d;exact s.inj _ _ l u q y j o p d x O I
 ·intro k l q a v j o p d x;rw[f]at j;by_cases e:k=id
  ·subst e;rw[zy rfl]at j;cases j;rw[G]at o;cases o;rcases De d with d|⟨⟨D,g,S,b0,n,m,z,_,C⟩,_⟩
   ·have:=s.sep k r b a v B G c d x;rcases F with⟨_,_,rfl,rfl⟩|⟨_,_,_,rfl,rfl⟩
    ·rfl
    ·exact⟨rfl,this.2⟩
   ·simp at g;subst g;rw[G]at n;cases n;rw[B]at m;cases m;rcases F with⟨_,_,rfl,rfl⟩|⟨_,_,_,rfl,rfl⟩
    ·rfl
    ·exact⟨rfl,C⟩
  ·rw[zx e]at j;rcases De d with d|⟨⟨D,g,S,b0,n,m,z,_,C⟩,_⟩
   ·exact s.sep k l q a v j o p d x
   ·simp at g;subst g;exact absurd (s.inj k D l S q b0 o n j m p (by simp_all) (x.symm.trans z)) e
theorem Bi:∀ (L:List Nat) {M:Al} {h h':Hp},Sim M μ h w->freeze h L=zo h' -> ∃ c,MLe (Hj M h μ w L) c/\Sim c μ h' w/\(∀ a v,c a=zo v->M a=zo v \/ ∃ id r,μ id=zo r/\r.b=a.block)/\h'.nx=h.nx
 |[],M,h,h',s,e=>by
  simp[freeze]at e;subst e;refine⟨M,λa v hv=> ?_,s,λa v hv=>.inl hv,rfl⟩;rcases De hv with hv|⟨⟨_,hm,_⟩,_⟩<;>simp_all
 |id::L,M,h,h',s,e=>by
  have key:∀ (b b':Blk) (f:Hp),h.get id=zo b->h.set id b'=zo f->((∃ cs fz,b=.box cs fz/\b'=.box cs zt) \/ ∃ es ex fz,b=.row es ex fz/\b'=.row es ex zt)->freeze f L=zo h' ->
    ∃ c,MLe (Hj M h μ w (id::L)) c/\Sim c μ h' w/\(∀ a v,c a=zo v->M a=zo v \/ ∃ id r,μ id=zo r/\r.b=a.block)/\h'.nx=h.nx:=by
   intro b b' f k hs p t;have s1:=RF s k hs p;obtain⟨c,u,x,y,z⟩:=Bi L s1 t;have o:=(Hp.get_set hs).1;refine⟨c,λa v hv=>u a v ?_,x,λa v hv=> ?_,z.trans (Hp.get_set hs).2⟩
   ·rcases De hv with hv|⟨⟨d,hm,n,b0,j,i,g,m,l⟩,hc⟩
    ·exact C3 L _ _ (C3 [id] _ _ hv)
    ·rcases List.mem_cons.1 hm with rfl|hm
     ·exact C3 L _ _ (Ic s ⟨d,by simp,n,b0,j,i,g,m,l⟩ hc)
     ·refine Ic s1 ⟨d,hm,n,?_⟩ hc;by_cases q:d=id
      ·subst q;rw[k]at i;cases i;refine⟨b',j,by simp_all,g,m,?_⟩;rcases p with⟨_,_,rfl,rfl⟩|⟨_,_,_,rfl,rfl⟩<;>exact l
      simp_all
   ·rcases y a v hv with hv|hv
    ·rcases De hv with hv|⟨⟨d,_,n,b0,j,_,g,_⟩,_⟩<;>grind
    simp_all
  unfold freeze at e;split at e
  ·rename_i cs fz k;split at e
   ·rename_i f hs;exact key _ _ f k hs (.inl ⟨cs,fz,rfl,rfl⟩) e
   ·cases e
  ·rename_i es ex fz k;split at e
   ·rename_i f hs;exact key _ _ f k hs (.inr ⟨es,ex,fz,rfl,rfl⟩) e
   ·cases e
  ·cases e
theorem Hi{L:List Nat}{c:Al}(e:MLe (Hj M h μ w L) c)(d:∀ a v,c a=zo v->M a=zo v \/ ∃ id r,μ id=zo r/\r.b=a.block):Grow M μ w c μ w:=
 ⟨(C3 L).trans e,.refl _,λa v f=>(d a v f).imp id .inl,λid r h=>.inl ⟨id,r,h,rfl⟩,ab _,λ_ _ _=>rfl,rfl,rfl,rfl,ab _⟩
end
end
section
variable[Gl]
section
variable{P:Program}{M:Al}{μ:Mu}{h:Hp}{w:World}
theorem Ad{α:Type}{c:Bool}{a:α}{x:Option α}(e:(bif c then x else zn)=zo a):c=zt/\x=zo a:=by
 cases c with
 |false=>cases e
 |true=>exact⟨rfl,e⟩
theorem Bl{α:Type}{c:Bool}{a:α}{x:Option α}(e:(bif c then zn else x)=zo a):c=zf/\x=zo a:=by
 cases c with
 |true=>cases e
 |false=>exact⟨rfl,e⟩
theorem Qk(s:Sim M μ h w){ty:TypeId}{p v:PV}{x y:Value}(D:Rep M μ p x)(A:Rep M μ v y){r:R}
  (e:A3 P h ty p v=zo r):Br P M μ w ((do Instr.storeAt ty x y;pure .skip:Sem Next).run P w) r:=by
 unfold A3 at e;split at e
 ·rename_i n g;obtain⟨hc,e⟩:=Bl e;simp at hc;obtain⟨f,t⟩:=hc;split at e
  ·rename_i j off;split at e
   ·rename_i cs o;obtain⟨b,e⟩:=Ad e;obtain⟨h',hs,rfl⟩:=AA e;cases D with
    |ptr _ _ _ r hr=>exact O8 s hr o A g t f (by simpa using b) hs
   ·cases e
  ·rename_i j i off;split at e
   ·rename_i es ex o;split at e
    ·rename_i B q;rw[AM]at q;obtain⟨b,e⟩:=Ad e;cases D with
     |ept _ _ _ _ r hr=>
      split at e
      ·rename_i cs;obtain⟨h',hs,rfl⟩:=AA e;exact Jt s hr o q rfl A g t f (by simpa using b) hs
      ·split at e
       ·rename_i c z;obtain⟨C,m⟩:=Ad e;clear e;simp at C;obtain⟨rfl,E⟩:=C
        have l:∀ d:PV,(∀ cs,d ≠ .agg cs)->(∀ cs,d ≠ .tup cs)->d=c->d.cells=BH B.cells 0 v.cells:=by
         rintro d k u rfl;rw[z];have:d.cells=[d]:=by cases d<;>first|rfl|exact absurd rfl (k _)|exact absurd rfl (u _)
         rw[this];obtain⟨a,k⟩:∃ a,B.cells=[a]:=List.length_eq_one_iff.1 E;rw[k];rfl
        split at m
        ·cases m
        ·cases m
        ·rename_i k u;obtain⟨h',hs,rfl⟩:=AA m;exact Jt s hr o q (l _ (λcs=>k cs) (λcs=>u cs) rfl) A g t f (by simpa using b) hs
       ·cases e
    ·cases e
   ·cases e
  ·cases e
 ·cases e
theorem SR(s:Sim M μ h w){p:PV}{x:Value}(hx:Rep M μ p x){r:R}(e:Es h p=zo r) :
  Br P M μ w ((match (generalizing:=false) x with
  |.pointer zn | .nilIface | .nilFunc=>runtimePanic .nilDeref
  |.func (.method name) first captured=>
   match (first[0]?:Option Value)with
   |some .nilIface=>runtimePanic .nilDeref
   |some (.iface t w)=>do
    if(<- nilAhead ((<- program).types.size+Made.depth) t w name) != zo zf then
     unsupported (.noEntry "op/nilCheck.the method's receiver behind this interface value is a nil pointer, or cannot be seen to be none, and the arguments act or may panic (ledger 612)")
    pure (.value (.func (.method name) first captured))
   |_=>pure (.value (.func (.method name) first captured))
  |x=>pure (.value x):Sem Next).run P w) r:=by
 unfold Es at e;split at e<;>(try (cases e;done))<;>cases e
 ·cases hx with|ptr _ _ _ r hr=>exact⟨M,μ,w,_,rfl,s,.refl _ _ _,.ptr _ _ _ r hr⟩
 ·cases hx with|ept _ _ _ _ r hr=>exact⟨M,μ,w,_,rfl,s,.refl _ _ _,.ept _ _ _ _ r hr⟩
 ·cases hx with|view _ _ b off x hm h1 hr=>exact⟨M,μ,w,_,rfl,s,.refl _ _ _,.view _ _ _ _ x hm h1 hr⟩
 ·cases hx with|ifc _ _ _ v hr=>exact⟨M,μ,w,_,rfl,s,.refl _ _ _,.ifc _ _ _ _ hr⟩
 ·cases hx with|yl _ _ r hr=>exact⟨M,μ,w,_,rfl,s,.refl _ _ _,.yl _ _ r hr⟩
 ·cases hx with|fn _ _ _ _ va vb hf hla hlb ha hb=>exact⟨M,μ,w,_,rfl,s,.refl _ _ _,.fn _ _ _ _ _ _ hf hla hlb ha hb⟩
theorem Li{α β:Type}(g:α->Sem β)(f:α->β):∀ (l:List α),(∀ x∈l,(g x).run P w=.ok (f x) w)->(l.mapM g).run P w=.ok (l.map f) w
 |[],_=>by simp
 |a::l,hl=>by
  have b:=hl a (by simp);have c:=Li g f l λx d=>hl x (by simp[d]);simp[List.mapM_cons,b,c]
def LW(P:Program)(f:Field):Nat:=(AU P f.type).getD 0
theorem Qi{b:Array Field}(a:b.toList.all (λf=>(AU P f.type).isSome)=zt) :
  (b.mapM (λf=>(do pure (f.offset,<- sizeOf f.type):Sem (Nat×Nat)))).run P w=.ok (b.map λf=>(f.offset,LW P f)) w:=by
 rw[Array.mapM_eq_mapM_toList];have:=Li (P:=P) (w:=w) (λf:Field=>(do pure (f.offset,<- sizeOf f.type):Sem (Nat×Nat))) (λf=>(f.offset,LW P f)) b.toList ?_
 ·simp only[Sem.run_map,this,Result.andThen]
  congr 1
  apply Array.ext';simp
 ·intro f d;have:=List.all_eq_true.1 a f d;obtain⟨n,c⟩:=bD.1 this;simp[Ac c,LW,c]
end
end
section
variable[Gl]
section
variable{P:Program}{M:Al}{μ:Mu}{h:Hp}{w:World}
inductive PsRep (M:Al) (μ:Mu):List (Nat×PV)->List (Nat×Value)->Prop
 |nil:PsRep M μ [] []
 |cons (i:Nat) (p:PV) (v:Value) (ps:List (Nat×PV)) (vs:List (Nat×Value)) (h:Rep M μ p v) (t:PsRep M μ ps vs):PsRep M μ ((i,p)::ps) ((i,v)::vs)
theorem GB{t:T PV}{nt:Nat}{a:Act}(c:GlOK M)(d:TmpsRep M μ t nt a.tmps):∀ {l:List (Nat×Operand)} {b:List (Nat×PV)},CB t l=zo b->PsRep M μ b (l.map λ(i,x)=>(i,a.eval x))
 |[],b,e=>by cases e;exact .nil
 |(i,o)::l,b,e=>by
  unfold CB at e;split at e
  ·rename_i p q f g;cases e;exact .cons _ _ _ _ _ (CU c d f) (GB c d g)
  ·cases e
theorem O0{d:Array Field}{c:List (Nat×PV)}{vs:List (Nat×Value)}(a:PsRep M μ c vs):∀ {pl:List (Nat×Nat×List PV)},EC P d c=zo pl ->
  PartsAt M μ (λi=>(d.map λf=>(f.offset,LW P f))[i]?) vs pl:=by
 induction a with
 |nil=>intro pl e;cases e;exact .nil
 |cons i p v c vs hr _ ih=>
  intro pl e;unfold EC at e;split at e
  ·rename_i f r g b;split at e
   ·rename_i n h;obtain⟨j,e⟩:=Ad e;cases e;refine .cons _ _ _ _ _ _ _ ?_ hr (by simp_all) (ih b);simp[g,LW,h]
   ·cases e
  ·cases e
theorem Ko{n:Nat}(c:0<n){b:List (Nat×PV)}{vs:List (Nat×Value)}(a:PsRep M μ b vs):PartsAt M μ (λi=>zo (i*n,n)) vs (FQ n b):=by
 induction a with
 |nil=>exact .nil
 |cons i p v b vs hr _ ih=>exact .cons _ _ _ _ _ _ _ rfl hr c ih
theorem Kj{vs:Array Value}(h:∀ v∈vs.toList,v.oneCell'=zt):∀ (i:Nat) (v:Value),vs[i]?=zo v->v.oneCell'=zt:=
 λ_ v a=>h v (Array.mem_toList_iff.2 (Array.mem_of_getElem? a))
theorem PL(s:Sim M μ h w){ty:TypeId}{A:List (Nat×PV)}{f:Array (Nat×Value)}(l:PsRep M μ A f.toList){r:R}(e:By P h ty A=zo r) :
  Br P M μ w ((do pure (.value (<- Instr.build ty f)):Sem Next).run P w) r:=by
 unfold By at e;split at e
 ·rename_i z G y u;obtain⟨k,e⟩:=Ad e;split at e
  ·rename_i pl q;obtain⟨cs,j,rfl⟩:=AA e;obtain⟨E,i,hi,p,d,t,m⟩:=Bb y M μ w;obtain⟨a,o,b,g⟩:=NZ (O0 l q) t (Kj m) j;refine AC s (x:=.agg a) ?_ (.agg _ _ _ (by simpa using b.1) g λi c v hc D=>b.2 i c v hc (by grind));simp only[Instr.build,Sem.run_bind,d,Result.andThen,AF u,Sem.run_pure,Qi k,o]
  ·cases e
 ·rename_i z n F y u;split at e
  ·rename_i n B;obtain⟨C,e⟩:=Ad e;obtain⟨cs,j,rfl⟩:=AA e;obtain⟨E,i,hi,p,d,t,m⟩:=Bb y M μ w;obtain⟨a,o,b,g⟩:=NZ (Ko (by simp_all) l) t (Kj m) j;refine AC s (x:=.agg a) ?_ (.agg _ _ _ (by simpa using b.1) g λi c v hc D=>b.2 i c v hc (by grind));simp only[Instr.build,Sem.run_bind,d,Result.andThen,AF u,Sem.run_pure,Ac B,o]
  ·cases e
 ·cases e
def FlatRep(M:Al)(μ:Mu)(n:Nat)(es:List PV)(arr:Array Value):Prop:=
 arr.size=es.length*n/\(∀ (i:Nat) (e:PV),es[i]?=zo e->e.cells.length=n) /\
  ∀ (i:Nat) (e:PV) (j:Nat) (c:PV),es[i]?=zo e->e.cells[j]?=zo c -> ∃ v,arr[i*n+j]?=zo v/\v.oneCell'=zt/\Rep M μ c v
theorem JB{c:PV}{v:Value}(b:Rep M μ c v)(a:v.oneCell'=zt):c.cells=[c]:=by
 cases b<;>first|rfl|(simp[Value.oneCell']at a)
theorem My{b:Bool}{z:List PV}{d:PV}(e:Ka b z=zo d){vs:List Value}(g:RepL M μ z vs)(f:∀ v∈vs,v.oneCell'=zt):d.cells=z:=by
 unfold Ka at e;cases b with
 |true=>simp at e;subst e;rfl
 |false=>
  simp at e;split at e
  ·rename_i c;cases e;obtain⟨v,h,a⟩:=g.get (i:=0) rfl;exact JB a (f v (List.mem_of_getElem? h))
  ·cases e
theorem Rp(z:Array Value)(n k:Nat)(a:k<n):((bh n).map (z[· % z.size]!))[k]?=zo (z[k % z.size]!):=by
 simp[a]
theorem HF{z:List PV}{a:Array Value}{n len:Nat}{m:Bool}{l:PV}(h:RepL M μ z a.toList)(k:∀ v∈a.toList,v.oneCell'=zt)(q:z.length=n)(_hn0:0<n)(e:Ka m z=zo l) :
  FlatRep M μ n (aE len l) ((bh (len*n)).map (a[· % a.size]!)):=by
 have hc:=My e h k;have hs:a.size=n:=by rw[<- q];simpa using h.1.symm
 refine⟨by simp,λi o d=> ?_,λi o j c d b=> ?_⟩
 ·grind
 ·obtain⟨hi,rfl⟩:=an.1 d;simp only[List.getElem_replicate,List.length_replicate]at b hi;rw[hc]at b;have p:j<n:=by grind
  have g:i*n+j<len*n:=by
   have:(i+1)*n<=len*n:=aA _ (by omega)
   grind
  have f:(i*n+j) % n=j:=by rw[c0,Nat.mul_add_mod];exact Nat.mod_eq_of_lt p
  refine⟨_,Rp a _ _ g,?_⟩;rw[hs,f];have r:a[j]?=zo a[j]!:=by simp_all
  exact⟨Kj k j _ r,h.2 j c _ b (by grind)⟩
theorem Pj{n:Nat}{es:List PV}{arr:Array Value}{i:Nat}{p:PV}{v:Value}(f:FlatRep M μ n es arr)(h:0<n)(r:Rep M μ p v)(o:p.cells.length=n)(hi:i<es.length) :
  v.cells.size=n/\i*n+n<=arr.size/\FlatRep M μ n (lset es i p) (v.cells.zipIdx.foldl (λcs (p:Value×Nat)=>cs.setIfInBounds (i*n+p.2) p.1) arr):=by
 obtain⟨hc,m⟩:=r.cells (Cq o h);have hs:v.cells.size=n:=by rw[<- o];simpa using hc.1.symm
 have g:i*n+n<=arr.size:=by
  rw[f.1];have:(i+1)*n<=es.length*n:=aA _ (by omega)
  grind
 refine⟨hs,g,?_,?_,?_⟩
 ·rw[EF,f.1];simp[AS]
 ·intro k e b;rw[AS,aR]at b;by_cases a:i=k
  ·simp_all
  ·rw[zx a]at b;exact f.2.1 k e b
 ·intro k e j c b d
  have q:j<n:=by
   have:=(an.1 d).1;rw[AS,aR]at b;by_cases a:i=k
   ·simp_all
   ·rw[zx a]at b;have:=f.2.1 k e b;omega
  rw[E5 _ _ _ (by omega),hs];rw[AS,aR]at b;by_cases a:i=k
  ·rw[zy a,zy hi]at b;cases b;subst a;rw[zy (by omega),show i*n+j-i*n=j by omega];obtain⟨y,t,s⟩:=hc.get d
   grind
  ·rw[zx a]at b;rw[zx ?_]
   ·exact f.2.2 k e j c b d
   ·intro l;exact a (F8 (i:=k) (k:=i) (j':=k*n+j-i*n) q (by omega) (by omega)).1.symm
theorem Ph{n:Nat}(f:0<n){h:List (Nat×PV)}{vs:List (Nat×Value)}(g:PsRep M μ h vs):∀ {es es':List PV} {arr:Array Value},FlatRep M μ n es arr->Fe n es h=zo es' ->
  ∃ d,Instr.fill (λi=>zo (i*n,n)) arr vs=zo d/\FlatRep M μ n es' d/\es'.length=es.length:=by
 induction g with
 |nil=>grind [Fe,Instr.fill]
 |cons i p v h vs hr _ ih=>
  intro es es' arr j e;unfold Fe at e;obtain⟨hc,e⟩:=Ad e;simp at hc;obtain⟨a,b,c⟩:=Pj j f hr hc.1 hc.2;obtain⟨d,k,l,m⟩:=ih c e
  simp_all[Instr.fill,AS,zx]
theorem Gv:∀ {d c:List PV} {l:List Nat},Ap h d=zo (c,l)->c.length=d.length /\ ∀ (i:Nat) (p:PV),d[i]?=zo p -> ∃ q l',AW h AT p=zo (q,l')/\c[i]?=zo q /\ ∀ x∈l',x∈l
 |[],c,l,e=>by simp_all[Ap]
 |p::d,c,l,e=>by
  unfold Ap at e;split at e
  ·rename_i q a g b j f;cases e;obtain⟨k,m⟩:=Gv f
   grind
  ·cases e
theorem O1(s:Sim M μ h w){n:Nat}{es o:List PV}{b:List Nat}{arr:Array Value}(m:FlatRep M μ n es arr)(e:Ap h es=zo (o,b))(L:List Nat)(C:∀ x∈b,x∈L):FlatRep (Hj M h μ w L) mu0 n o arr:=by
 obtain⟨E,F⟩:=Gv e
 have get:∀ (i:Nat) (q:PV),o[i]?=zo q -> ∃ a l',es[i]?=zo a/\AW h AT a=zo (q,l') /\ ∀ x∈l',x∈b:=by
  intro i q g;have hi:i<es.length:=by grind
  obtain⟨K,l',d,f,p⟩:=F i _ (ah hi)
  simp_all
 refine⟨by rw[m.1,E],λi q g=> ?_,λi q j c g k=> ?_⟩
 ·obtain⟨a,l',d,f,_⟩:=get i q g;rw[(CM f).1];exact m.2.1 i a d
 ·obtain⟨a,l',d,f,p⟩:=get i q g;have l:=CM f;have t:j<a.cells.length:=by grind
  obtain⟨G,J,l'',I,u,r,y⟩:=l.2 j _ (ah t);rw[k]at r;cases r;obtain⟨v,z,A,B⟩:=m.2.2 i a j _ d (ah t);exact⟨v,z,A,GE s L G _ _ l'' v u B λx D=>C x (p x (y x D))⟩
theorem FlatRep.mono{f:Al}{μ':Mu}{n:Nat}{es:List PV}{arr:Array Value}(d:FlatRep M μ n es arr)(g:MLe M f)(hμ:MuLe μ μ'):FlatRep f μ' n es arr:=
 ⟨d.1,d.2.1,λi e j c a b=>let ⟨v,h1,h2,h3⟩:=d.2.2 i e j c a b;⟨v,h1,h2,h3.mono g hμ⟩⟩
theorem Lf{d:Al}{n:Nat}{es:List PV}{arr:Array Value}{b off:Nat}(f:FlatRep d mu0 n es arr)(o:∀ (k:Nat) (v:Value),arr[k]?=zo v->d ⟨b,off+k,zn⟩=zo v)(μ:Mu)(full:Bool)(cap:Nat)(hc:es.length<=cap)(a:full=zt->cap=es.length) :
  Rep d μ (.lst full es) (.slice (zo ⟨b,off,zn⟩) es.length cap):=by
 refine .lst _ _ _ _ _ n _ (λi j=>(arr[i*n+j]?).getD undef) a hc f.2.1 ?_ ?_ ?_
 all_goals
  intro i e j c hi g;obtain⟨v,h,l,m⟩:=f.2.2 i e j c hi g
  grind
 all_goals grind
theorem I3(s:Sim M μ h w){ty:TypeId}{len:Nat}{F:List (Nat×PV)}{b:Array (Nat×Value)}(y:PsRep M μ F b.toList){r:R}(e:Ah P h ty len F=zo r) :
  Br P M μ w ((do pure (.value (<- Instr.buildSlice ty len b)):Sem Next).run P w) r:=by
 unfold Ah at e;split at e
 ·rename_i p X;split at e
  ·rename_i n ag z S J Y;split at e
   ·rename_i z1 B;obtain⟨hc,e⟩:=Bl e;simp at hc;obtain⟨⟨l,O⟩,C⟩:=hc;split at e
    ·rename_i es u;split at e
     ·rename_i qs o d;obtain⟨h',x,rfl⟩:=AA e;obtain⟨G,i,hi,K,m,W,I⟩:=Bb Y M μ w;obtain⟨a,D,f,j⟩:=Ph l y (HF (len:=len) W I C l B) u;obtain⟨M',E,Z,m3,_⟩:=Bi o s x;have U:=(O1 s f d o (λ_ h=>h)).mono E (.refl _);have t:=Z.data (w':=w.alloc (.cells a p)) (arr:=a) (ty:=p) rfl;have A:qs.length=len:=by rw[(Gv d).1,j];simp
      refine⟨_,μ,w.alloc (.cells a p),.slice (zo ⟨w.heap.size,0,zn⟩) len len,?_,t.1,(Hi E m3).trans (Grow.data t.2 rfl rfl rfl ⟨rfl,ab _⟩),?_⟩
      ·have c:¬ (2 ^ 24<len*n):=by omega
       by_cases q:len*n=0
       ·have N:len=0:=by rcases Nat.mul_eq_zero.1 q with h|h<;>omega
        have g:(bh (len*n)).map (G.cells[· % G.cells.size]!)=(bh (len*n)).map ((#[]:Array Value)[· % (#[]:Array Value).size]!):=by simp[q]
        rw[g]at D
        simp_all[Instr.buildSlice,AF,Ac,newRow]
       ·simp[Instr.buildSlice,AF X,Ac S,q,m,c,D,newRow]
      ·rw[<- A];refine Lf (arr:=a) (U.mono t.2 (.refl _)) (λk v L=> ?_) μ zt _ (ab _) (λ_=>rfl);simp[Dn,L]
     ·cases e
    ·cases e
   ·cases e
  ·cases e
 ·cases e
theorem Ei{p:PV}{n:Nat}{v:Value}(e:Fb p=zo n)(a:Rep M μ p v):∃ k i,p=.int k i/\v=.int k i/\0<=i/\i.toNat=n:=by
 unfold Fb at e;split at e
 ·rename_i k i;obtain⟨b,e⟩:=Ad e;cases e;cases a
  grind
 ·cases e
theorem IF{p:PV}{n:Nat}{v:Value}(e:E9 p=zo n)(a:Rep M μ p v):∃ i,v=.int .i64 i/\0<=i/\i.toNat=n:=by
 unfold E9 at e;split at e
 ·rename_i i;obtain⟨b,e⟩:=Ad e;cases e;cases a
  simp_all
 ·cases e
theorem I1(i:Int)(a:0<=i)(b:i<9223372036854775808):IntKind.i64.wrap i=i:=by
 unfold IntKind.wrap
 have e:i % (2 ^ IntKind.i64.bits:Int)=i:=by
  have:(2 ^ IntKind.i64.bits:Int)=18446744073709551616:=by decide
  grind
 simp only[e]
 have e2:¬ (i>=(2 ^ (IntKind.i64.bits-1):Int)):=by
  have:(2 ^ (IntKind.i64.bits-1):Int)=9223372036854775808:=by decide
  omega
 simp[e2]
theorem RR(s:Sim M μ h w){id:Nat}{ty:TypeId}{l c:PV}{x y:Value}(hx:Rep M μ l x)(hy:Rep M μ c y){r:R}(e:C2 P h id ty l c=zo r) :
  Br P M μ w ((do pure (.value (<- Instr.makeSlice ty x y)):Sem Next).run P w) r:=by
 unfold C2 at e;split at e
 ·rename_i I ln cn Y hl hc;split at e
  ·rename_i n ag z S W hag hz E;split at e
   ·rename_i z1 N;obtain⟨g,e⟩:=Ad e;simp[Ba]at g;obtain⟨⟨⟨⟨hlc,hcs⟩,hb⟩,A⟩,O⟩:=g;obtain⟨h',B,rfl⟩:=AA e;obtain⟨F,rfl,K,rfl⟩:=IF hl hx;obtain⟨d,rfl,t,rfl⟩:=IF hc hy;obtain⟨G,i,hi,hiz,C,hr,h1⟩:=Bb hz M μ w;obtain⟨p,D,_⟩:=Hp.get_new B;have k:=HF (len:=d.toNat) hr h1 O A N
    have hμ:μ id=zn:=by
     cases hm:μ id with
     |none=>rfl
     |some x=>exact absurd p (s.use id x hm).1
    have hS:=s.fresh (w':=w.alloc (.cells ((bh (d.toNat*n)).map (G.cells[· % G.cells.size]!)) I)) (r:=⟨w.heap.size,0,n,d.toNat⟩) (o:=.cells _ I (0,0)) p D rfl rfl
     ⟨_,I,rfl,by simp,by simp,by simp,A,λi e he=>k.2.1 i e he,λi e j c v a b Z=>by
      obtain⟨v',U,c2,c3⟩:=k.2.2 i e j c a b;simp only[aO]at Z;rw[Z]at U;cases U
      exact⟨c2,c3.mono (.refl _) (Dq hμ)⟩⟩
    refine⟨M,_,_,.slice (zo ⟨w.heap.size,0,zn⟩) F.toNat d.toNat,?_,hS.1,Grow.newBlk hμ rfl rfl rfl rfl ⟨rfl,ab _⟩,?_⟩
    ·have w1:=I1 F K (by omega);have w2:=I1 d t (by omega)
     have f:¬ ((281474976710656:Int)<S.bytes*d):=by
      have:(S.bytes:Int)*d<=1048576*1048576:=Int.mul_le_mul (by omega) (by omega) t (by omega);omega
     have q:¬ (d<0):=by omega
     have m:¬ (F<0):=by omega
     have u:¬ (d<F):=by omega
     have X:i=S:=by simp_all
     by_cases J:d.toNat*n=0
     ·have L:(bh (d.toNat*n)).map (G.cells[· % G.cells.size]!)=(bh (d.toNat*n)).map ((#[]:Array Value)[· % (#[]:Array Value).size]!):=by simp[J]
      rw[L];simp[Instr.makeSlice,AF Y,asInt,asIntOf,FJ E,w1,w2,f,q,m,u,Ac W,J,newRow]
     ·simp[Instr.makeSlice,AF Y,asInt,asIntOf,FJ E,w1,w2,f,q,m,u,Ac W,J,C,newRow]
    ·have:=Rep.own (M:=M) (DW μ id ⟨w.heap.size,0,n,d.toNat⟩) id 0 F.toNat ⟨w.heap.size,0,n,d.toNat⟩ (by simp[DW]) (by simp;omega)
     simp_all
   ·cases e
  ·cases e
 ·cases e
end
end
section
variable[Gl]
section
variable{P:Program}{M:Al}{μ:Mu}{h:Hp}{w:World}
def K9(M:Al)(μ:Mu):Option PV->Option Value->Prop
 |none,zn=>True
 |some p,zo v=>Rep M μ p v
 |_,_=>False
theorem Mh{t:T PV}{nt:Nat}{a:Act}(c:GlOK M)(d:TmpsRep M μ t nt a.tmps){o:Option Operand}{p:Option PV}(e:Pf t o=zo p):K9 M μ p (o.map a.eval):=by
 cases o with
 |none=>cases e;trivial
 |some o=>
  simp only[Pf]at e;cases b:CO t o with
  |none=>simp_all
  |some q=>rw[b]at e;cases e;exact CU c d b
theorem B6{k:IntKind}{i:Int}{y:Nat}(b:0<=i)(a:i.toNat<=y)(c:BoundsCode):(Instr.sliceBound (.int k i) y c).run P w=.ok i.toNat w:=by
 simp_all[Instr.sliceBound,asIntOf]
theorem D7{d n:Nat}{p:Option PV}{v:Option Value}(e:Ca d p=zo n)(a:K9 M μ p v):(p=zn/\v=zn/\n=d) \/ ∃ k i,v=zo (.int k i)/\p.isSome=zt/\0<=i/\i.toNat=n:=by
 cases p with
 |none=>cases v with
  |none=>cases e;simp_all
  |some v=>exact a.elim
 |some p=>cases v with
  |none=>exact a.elim
  |some v=>obtain⟨k,i,_,rfl,b,c⟩:=Ei e a;grind
theorem Cg{isS:Bool}{len cap l hh m:Nat}{lo hi mx:Option PV}{g f vmx:Option Value}(b:K9 M μ lo g)(e:K9 M μ hi f)(p:K9 M μ mx vmx)
  (a:Ca 0 lo=zo l) (c:Ca len hi=zo hh) (h:Ca cap mx=zo m) (z:m<=cap) (s:hh<=m) (y:l<=hh) (o:mx.isSome=zt->hi.isSome=zt) :
  (Instr.sliceBounds isS len cap g f vmx).run P w=.ok (l,hh,m) w:=by
 rcases D7 h p with⟨rfl,rfl,rfl⟩|⟨k,i,rfl,hs,x,rfl⟩
 ·rcases D7 c e with⟨_,rfl,rfl⟩|⟨u,t,rfl,_,j,rfl⟩
  ·rcases D7 a b with⟨_,rfl,rfl⟩|⟨r,q,rfl,_,d,rfl⟩
   ·rfl
   simp_all[Instr.sliceBounds,Sem.run_bind,Sem.run_pure,Result.andThen,B6]
  ·rcases D7 a b with⟨_,rfl,rfl⟩|⟨r,q,rfl,_,d,rfl⟩
   ·simp_all[Instr.sliceBounds,Sem.run_bind,Sem.run_pure,Result.andThen,B6]
   simp_all[Instr.sliceBounds,Sem.run_bind,Sem.run_pure,Result.andThen,B6]
 ·have n:=o hs;rcases D7 c e with⟨rfl,_,_⟩|⟨u,t,rfl,_,j,rfl⟩
  ·cases n
  ·rcases D7 a b with⟨_,rfl,rfl⟩|⟨r,q,rfl,_,d,rfl⟩
   ·simp_all[Instr.sliceBounds,Sem.run_bind,Sem.run_pure,Result.andThen,B6]
   simp_all[Instr.sliceBounds,Sem.run_bind,Sem.run_pure,Result.andThen,B6]
theorem Rw{a b:Nat}(e:ae a b=zf):b<=a:=by
 by_cases h:a<b
 ·have:ae a b=zt:=by simpa using h
  simp_all
 ·omega
theorem Ql{l:List UInt8}{s:ByteArray}(e:s.data.toList=l)(μ:Mu):Rep M μ (.str l) (.string s):=by subst e;exact .str _ s
theorem Nr{full d:Bool}{es:List PV}{a:Option Addr}{len cap l hh m n:Nat}(o:Rep M μ (.lst full es) (.slice a len cap))(u:l<=hh)(q:hh<=es.length)(w:hh<=m)(_hmc:m<=cap)(h:CT n es=zt)
  (t:d=zt->m=hh):Rep M μ (.lst d ((es.drop l).take (hh-l))) (.slice (if m=l then a else a.map (·.add (l*n))) (hh-l) (m-l)):=by
 have k:((es.drop l).take (hh-l)).length=hh-l:=by simp;omega
 by_cases p:hh=l
 ·subst p;have:(es.drop hh).take (hh-hh)=[]:=by simp
  rw[this,da];refine .lst0' ?_ λr=>by simp_all
  have:a≠zn:=by cases o<;>(simp_all)
  cases a<;>grind
 ·cases o with
  |lst0=>simp_all
  |lst _ _ _ b off esz _ x hfull hc hs hmem h1 hrep=>
   have s:esz=n:=by
    cases es with
    |nil=>simp_all
    |cons e es=>have:=hs 0 e rfl;simp[CT]at h;omega
   subst s;rw[zx (by omega)];simp only[aC,Bs]
   have:Rep M μ (.lst d ((es.drop l).take (hh-l))) (.slice (zo ⟨b,off+l*esz,zn⟩) ((es.drop l).take (hh-l)).length (m-l)):=by
    have f:∀ (i:Nat) (e:PV),((es.drop l).take (hh-l))[i]?=zo e->es[l+i]?=zo e:=by
     grind
    refine .lst _ _ _ _ _ esz _ (λi j=>x (l+i) j) (λr=>by simp_all) (by omega) (λi e g=>hs _ e (f i e g)) (λi e j c g hc=> ?_) (λi e j c g hc=>h1 _ e j c (f i e g) hc) (λi e j c g hc=>hrep _ e j c (f i e g) hc)
    grind
   simp_all
theorem Ou{full:Bool}{es:List PV}{a:Option Addr}{len cap:Nat}(c:Rep M μ (.lst full es) (.slice a len cap)):Rep M μ (.lst zt es) (.slice a len len):=by
 cases c with
 |lst0=>exact .lst0 _ _ _ _ λ_=>rfl
 |lst _ _ _ b off esz _ x hfull hc hs hmem h1 hrep=>exact .lst _ _ _ _ _ esz _ x (λ_=>rfl) (ab _) hs hmem h1 hrep
theorem RQ{full:Bool}{es:List PV}{a:Option Addr}{n c:Nat}(b:Rep M μ (.lst full es) (.slice a n c)):es.length=n:=by
 cases b<;>rfl
theorem BW{ty d n len cap l hh m:Nat}{a:Option Addr}{c b vmx:Option Value}(g:P.underlying ty=zo (.slice d))(f:AU P d=zo n)
  (e:(Instr.sliceBounds zt len cap c b vmx).run P w=.ok (l,hh,m) w) :
  (Instr.sliceAt ty (.slice a len cap) c b vmx).run P w=.ok (.slice (if m=l then a else a.map (·.add (l*n))) (hh-l) (m-l)) w:=by
 simp only[Instr.sliceAt,Instr.slice,Sem.run_bind,AF g,Result.andThen,e,Ac f,Sem.run_pure]
theorem Sp(s:Sim M μ h w){ty n k:Nat}{p:PV}{x:Value}(o:Rep M μ p x)(m:P.underlying ty=zo (.array n k)){r:R}(e:EE P h n k p=zo r) :
  Br P M μ w ((do pure (.value (<- Instr.sliceAt ty x zn zn zn)):Sem Next).run P w) r:=by
 unfold EE at e;split at e
 ·rename_i u j off f;split at e
  ·rename_i cs fz l;replace e:=Ad e;obtain⟨hc,e⟩:=e;simp only[ac]at hc;obtain⟨c,g,i⟩:=hc;have c:=ai c;have i:=ai i;have g:0<n:=by simpa using g
   subst c;cases e;cases o with
   |ptr _ _ _ r hr=>
    obtain⟨t,a,q,_⟩:=s.blk j _ l;rw[hr]at a;cases a;have d:¬ n=0:=by omega
    refine AC s (x:=.slice (zo ⟨r.b,r.base+off,zn⟩) n n) ?_ ?_
    ·simp[Instr.sliceAt,Instr.sureAddr,AF m,Ac f,Result.andThen,asAddr,Instr.sliceBounds,d,Addr.add]
    ·have:=Rep.own (M:=M) μ j off n r hr (by omega)
     grind
  ·cases e
 ·cases e
theorem Qj(s:Sim M μ h w){ty:TypeId}{p:PV}{x:Value}{lo hi mx:Option PV}{F E vmx:Option Value}(D:Rep M μ p x)(i:K9 M μ lo F)(g:K9 M μ hi E)(k:K9 M μ mx vmx){r:R}
  (e:Ai P h ty p lo hi mx=zo r):Br P M μ w ((do pure (.value (<- Instr.sliceAt ty x F E vmx)):Sem Next).run P w) r:=by
 unfold Ai at e;split at e
 ·rename_i l0 u;split at e
  ·rename_i hh l o d;replace e:=Ad e;obtain⟨hc,e⟩:=e;cases e;simp at hc;cases D with
   |str _ sb=>
    cases vmx with
    |some v=>exact k.elim
    |none=>
     have hsz:sb.size=sb.data.toList.length:=by simp
     have q:=Cg (P:=P) (w:=w) (isS:=false) (len:=sb.size) (cap:=sb.size) i g (mx:=none) (vmx:=none) trivial d (by grind) rfl (ab _) (by omega) hc.2 (by grind);refine AC s (x:=.string (sb.extract l hh)) ?_ (Ql ?_ μ)
     ·simp[Instr.sliceAt,Instr.slice,AF u,q]
     ·rw[<- ByteArray.toList_eq,ByteArray.toList_eq,ByteArray.data_extract];simp[List.extract_eq_take_drop]
  ·cases e
 ·rename_i el p' u;split at e
  ·cases e
  ·rename_i n B;split at e
   ·split at e
    ·rename_i e1 e2 e3;replace e:=Bl e;obtain⟨hc,e⟩:=e;cases e;cases D
     have q:=Cg (P:=P) (w:=w) (isS:=true) (len:=0) (cap:=0) i g k e1 e2 e3 (ab _) (ab _) (ab _) (by
      simp_all)
     exact AC s (BW (a:=none) u B q) (by simpa using Rep.nils (M:=M) μ)
    ·cases e
   ·rename_i full es;replace e:=Bl e;obtain⟨t,e⟩:=e;simp at t;split at e
    ·rename_i l hh d o
     have hsl:∃ a cap,x=.slice a es.length cap/\es.length<=cap/\(full=zt->cap=es.length):=by
      cases D with
      |lst0 _ _ a cap hf=>exact⟨zo a,cap,rfl,by simp,hf⟩
      |lst _ _ _ b off esz cap x hf hc hs hm h1 hr=>grind
     obtain⟨a,cap,rfl,I,Y⟩:=hsl;split at e
     ·replace e:=Ad e;obtain⟨hc,e⟩:=e;cases e;simp at hc;cases vmx with
      |some v=>exact k.elim
      |none=>
       have q:=Cg (P:=P) (w:=w) (isS:=true) (len:=es.length) (cap:=cap) i g (mx:=none) (vmx:=none) trivial d o rfl (ab _) (by omega) hc.2 (by simp_all);refine AC s (BW u B q) (Nr D hc.2 hc.1 (by omega) (ab _) t ?_)
       simp_all
     ·rename_i O;split at e
      ·rename_i m L;replace e:=Ad e;obtain⟨hc,e⟩:=e;cases e;simp at hc;obtain⟨⟨⟨A,C⟩,G⟩,U⟩:=hc;have q:=Cg (P:=P) (w:=w) (isS:=true) (len:=es.length) (cap:=cap) i g k d o (show Ca cap (zo O)=zo m from L) (by omega) C G (λ_=>U);refine AC s (BW u B q) (Nr D G (by omega) C (by omega) t ?_)
       simp_all
      ·cases e
    ·cases e
   ·rename_i j off len;split at e
    ·rename_i es ex fz S;replace e:=Bl e;obtain⟨t,e⟩:=e;simp at t;split at e
     ·rename_i l hh d o;replace e:=Bl e;obtain⟨hc,e⟩:=e;simp at hc;obtain⟨A,C⟩:=hc;cases D with
      |own _ _ _ _ r hr I=>
       obtain⟨r',J,arr,ety,h1,h2,h3,h4,h5,h6,h7⟩:=s.blk j _ S;rw[hr]at J;cases J
       have y:∀ m,l<m->off+l<es.length->(if m=l then zo (⟨r.b,r.base+off*r.esz,zn⟩:Addr)else(zo ⟨r.b,r.base+off*r.esz,zn⟩:Option Addr).map (·.add (l*n)))=zo ⟨r.b,r.base+(off+l)*r.esz,zn⟩:=by
        intro m hm c;rw[zx (by omega)]
        have:n=r.esz:=by
         cases es with
         |nil=>simp at c
         |cons e0 es=>have:=h6 0 e0 rfl;simp[CT]at t;omega
        simp_all[aC,Bs,aX]
       split at e
       ·cases vmx with
        |some v=>exact k.elim
        |none=>
         have q:=Cg (P:=P) (w:=w) (isS:=true) (len:=len) (cap:=r.cap-off) i g (mx:=none) (vmx:=none) trivial d o rfl (ab _) (by omega) A (by simp_all);cases c:ae (off+l) es.length with
         |true=>
          rw[c]at e;cases e;simp at c;refine AC s (BW u B q) ?_;rw[y _ (by omega) c];have:=Rep.own (M:=M) μ j (off+l) (hh-l) r hr (by omega)
          grind
         |false=>
          rw[c]at e;cases e;have Z:es.length<=off+l:=Rw c;refine AC s (BW u B q) ?_;rw[show hh-l=0 by omega];exact .lst0' (by grind) (by simp_all)
       ·rename_i O;split at e
        ·rename_i m L;cases N:(hi.isSome&&ad hh m&&ex&&aa (off+m) es.length)with
         |true=>
          rw[N]at e;simp at N;obtain⟨⟨⟨a1,a2⟩,rfl⟩,a4⟩:=N;have W:=h4 rfl;have q:=Cg (P:=P) (w:=w) (isS:=true) (len:=len) (cap:=r.cap-off) i g k d o (show Ca (r.cap-off) (zo O)=zo m from L) (by omega) a2 A (λ_=>a1);cases c:ae (off+l) es.length with
          |true=>
           rw[c]at e;cases e;simp at c;refine AC s (BW u B q) ?_;rw[y _ (by omega) c];have:=Rep.own (M:=M) μ j (off+l) (hh-l) r hr (by omega)
           grind
          |false=>
           rw[c]at e;cases e;have Z:es.length<=off+l:=Rw c;refine AC s (BW u B q) ?_;rw[show hh-l=0 by omega,show m-l=0 by omega];exact .lst0' (by grind) (λ_=>rfl)
         |false=>
          rw[N]at e;simp only[zj]at e;replace e:=Ad e;obtain⟨hB,e⟩:=e;simp at hB;obtain⟨b1,rfl⟩:=hB;have q:=Cg (P:=P) (w:=w) (isS:=true) (len:=len) (cap:=r.cap-off) i g k d o (show Ca (r.cap-off) (zo O)=zo m from L) (by omega) (ab _) A (λ_=>b1);unfold Dc at e;split at e
          ·rename_i f xs K hp;obtain⟨h',X,rfl⟩:=AA e;obtain⟨M',m1,m2,m3,_⟩:=Bi K s X;have hq:=(GE s K _ _ _ _ _ hp (Rep.own μ j (off+l) (m-l) r hr (by omega)) (λ_ h=>h)).mono m1 (.refl _);have z:=(Ou hq).mono (.refl _) (.mu0 μ);refine⟨M',μ,w,_,by simp only[Sem.run_bind,BW u B q,Result.andThen,Sem.run_pure];rfl,m2,Hi m1 m3,?_⟩;by_cases hlm:m=l
           ·subst hlm;rw[da]at z ⊢;have:xs=[]:=List.eq_nil_of_length_eq_zero (RQ z);subst this;exact .lst0' (by simp_all) (λ_=>rfl)
           ·rw[y _ (by omega) (by omega)];exact z
          ·cases e
        ·cases e
     ·cases e
    ·cases e
   ·cases e
 ·rename_i u;split at e
  ·cases F with
   |some _=>exact i.elim
   |none=>cases E with
    |some _=>exact g.elim
    |none=>cases vmx with
     |some _=>exact k.elim
     |none=>exact Sp s D u e
  ·cases e
 ·cases e
end
end
section
variable[Gl]
section
variable{P:Program}{M:Al}{μ:Mu}{h:Hp}{w:World}
theorem Dl{b off:Nat}{a:Field}{n:Nat}(d:AU P a.type=zo n)(c:n≠0):(fieldPlace ⟨b,off,zn⟩ a).run P w=.ok ⟨b,off+a.offset,zn⟩ w:=by
 simp[fieldPlace,Ac d,c,Bs]
theorem KE(s:Sim M μ h w){a:TypeId}{p:PV}{x:Value}{f:Nat}(g:Rep M μ p x){r:R}(e:Ax P h a p f=zo r) :
  Br P M μ w ((do pure (.value (<- Instr.fieldAt a x f)):Sem Next).run P w) r:=by
 unfold Ax at e;split at e
 ·rename_i o u;split at e
  ·rename_i d m;split at e
   ·rename_i n t;replace e:=Bl e;obtain⟨q,e⟩:=e;have l:n≠0:=by intro hc;simp_all
    split at e
    ·rename_i j off;cases e;cases g with
     |ptr _ _ _ r hr=>
      refine AC s (x:=.pointer (zo ⟨r.b,r.base+off+d.offset,zn⟩)) ?_ ?_
      ·simp_all[Instr.fieldAt,AF,Instr.sureAddr,Dl]
      ·rw[bw];exact .ptr _ _ _ r hr
    ·rename_i j i off;cases e;cases g with
     |ept _ _ _ _ r hr=>
      refine AC s (x:=.pointer (zo ⟨r.b,r.base+i*r.esz+off+d.offset,zn⟩)) ?_ ?_
      ·simp_all[Instr.fieldAt,AF,Instr.sureAddr,Dl]
      ·rw[bw (r.base+i*r.esz)];exact .ept _ _ _ _ r hr
    ·rename_i cs;cases e;cases g with
     |view _ _ b off x hm h1 hr=>
      refine AC s (x:=.pointer (zo ⟨b,off+d.offset,zn⟩)) ?_ ?_
      ·simp_all[Instr.fieldAt,AF,Instr.sureAddr,Dl]
      ·refine .view _ _ _ _ (λj=>x (d.offset+j)) (λj c k=> ?_) (λj c k=>h1 _ c (by grind)) (λj c k=>hr _ c (by grind))
       grind
    ·cases e
   ·cases e
  ·cases e
 ·cases e
theorem Pg(s:Sim M μ h w){ty:TypeId}{p:PV}{x:Value}{f:Nat}(l:Rep M μ p x){r:R}(e:B7 P h ty p f=zo r) :
  Br P M μ w ((do pure (.value (<- Instr.field ty x f)):Sem Next).run P w) r:=by
 unfold B7 at e;split at e
 ·rename_i m cs n;split at e
  ·rename_i g j;obtain⟨v,k,rfl⟩:=Di e;cases l with
   |agg _ _ vs hl h1 hr=>
    obtain⟨y,o,d,_⟩:=FP (P:=P) k (M:=M) (μ:=μ) (vs:=vs) (off:=g.offset) (RepL.drop ⟨by omega,λi c v a b=>hr i c v a (by grind)⟩ g.offset) h1 w;exact AC s (by simp_all[Instr.field,AF,asAgg]) d
  ·cases e
 ·cases e
theorem KQ(s:Sim M μ h w){ty:TypeId}{p q:PV}{x y:Value}(u:Rep M μ p x)(D:Rep M μ q y){r:R}(e:Aq P h ty p q=zo r) :
  Br P M μ w ((do pure (.value (<- Instr.indexAt ty x y)):Sem Next).run P w) r:=by
 unfold Aq at e;split at e
 ·rename_i G k o B;obtain⟨J,i,rfl,rfl,d,rfl⟩:=Ei B D;split at e
  ·rename_i n m;split at e
   ·rename_i full es;split at e
    ·rename_i e1 a;rw[AM]at a;replace e:=Ad e;obtain⟨C,e⟩:=e;cases e;simp at C;have hi:i.toNat<es.length:=(an.1 a).1;cases u with
     |lst0=>simp at hi
     |lst _ _ _ b off esz cap x hf hc hs hm z hr=>
      have E:esz=n:=by grind
      subst E;refine AC s (x:=.pointer (zo ⟨b,off+i.toNat*esz,zn⟩)) ?_ ?_
      ·have g:0<=i/\i<(es.length:Int):=⟨d,by omega⟩;simp[Instr.indexAt,asIntOf,AF o,g,Ac m,Bs]
      ·exact .view _ _ _ _ (x i.toNat) (λj c f=>hm _ _ j c a f) (λj c f=>z _ _ j c a f) (λj c f=>hr _ _ j c a f)
    ·cases e
   ·rename_i j off len;replace e:=Ad e;obtain⟨l,e⟩:=e;simp at l;split at e
    ·rename_i es ex fz A;split at e
     ·rename_i e1 a;rw[AM]at a;replace e:=Ad e;obtain⟨C,e⟩:=e;cases e;simp at C;cases u with
      |own _ _ _ _ r hr hcap=>
       obtain⟨W,t,arr,I,z,K,L,N,O,S,U⟩:=s.blk j _ A;rw[hr]at t;cases t;have E:n=r.esz:=by grind
       refine AC s (x:=.pointer (zo ⟨r.b,r.base+off*r.esz+i.toNat*n,zn⟩)) ?_ ?_
       ·have g:0<=i/\i<(len:Int):=⟨d,by omega⟩;simp[Instr.indexAt,asIntOf,AF o,g,Ac m,Bs]
       ·have:=Rep.ept (M:=M) μ j (off+i.toNat) 0 r hr
        grind
     ·cases e
    ·cases e
   ·cases e
  ·cases e
 ·rename_i len G k o B;obtain⟨J,i,rfl,rfl,d,rfl⟩:=Ei B D;split at e
  ·rename_i n m;replace e:=Ad e;obtain⟨l,e⟩:=e;simp at l;have g:0<=i/\i<(len:Int):=⟨d,by omega⟩;split at e
   ·rename_i j off;cases e;cases u with
    |ptr _ _ _ r hr=>
     refine AC s (x:=.pointer (zo ⟨r.b,r.base+off+i.toNat*n,zn⟩)) ?_ ?_
     ·simp[Instr.indexAt,asIntOf,AF o,g,Ac m,Bs,Instr.sureAddr]
     ·rw[bw];exact .ptr _ _ _ r hr
   ·rename_i j F off;cases e;cases u with
    |ept _ _ _ _ r hr=>
     refine AC s (x:=.pointer (zo ⟨r.b,r.base+F*r.esz+off+i.toNat*n,zn⟩)) ?_ ?_
     ·simp[Instr.indexAt,asIntOf,AF o,g,Ac m,Bs,Instr.sureAddr]
     ·rw[bw (r.base+F*r.esz)];exact .ept _ _ _ _ r hr
   ·rename_i cs;cases e;cases u with
    |view _ _ b off x hm z hr=>
     refine AC s (x:=.pointer (zo ⟨b,off+i.toNat*n,zn⟩)) ?_ ?_
     ·simp[Instr.indexAt,asIntOf,AF o,g,Ac m,Bs,Instr.sureAddr]
     ·refine .view _ _ _ _ (λj=>x (i.toNat*n+j)) (λj c f=> ?_) (λj c f=>z _ c (by grind)) (λj c f=>hr _ c (by grind))
      grind
   ·cases e
  ·cases e
 ·cases e
theorem OP(s:ByteArray)(k:Nat):s[k]?=s.data.toList[k]?:=by
 by_cases a:k<s.size
 ·rw[ByteArray.getElem?_lt' s k a];have:k<s.data.toList.length:=by simpa using a
  rw[ah this];rfl
 simp_all
theorem Ps(s:Sim M μ h w){ty:TypeId}{p q:PV}{x y:Value}(o:Rep M μ p x)(t:Rep M μ q y){r:R}(e:Bn P h ty p q=zo r) :
  Br P M μ w ((do pure (.value (<- Instr.index ty x y)):Sem Next).run P w) r:=by
 unfold Bn at e;split at e
 ·rename_i len C cs k u g;obtain⟨B,i,rfl,rfl,d,rfl⟩:=Ei g t;replace e:=Ad e;obtain⟨j,e⟩:=e;simp at j;split at e
  ·rename_i n E;obtain⟨v,A,rfl⟩:=Di e;cases o with
   |agg _ _ vs hl h1 hr=>
    obtain⟨z,F,m,_⟩:=FP (P:=P) A (M:=M) (μ:=μ) (vs:=vs) (off:=i.toNat*n) (RepL.drop ⟨by omega,λi c v a b=>hr i c v a (by grind)⟩ _) h1 w;have f:0<=i/\i<(len:Int):=⟨d,by omega⟩;exact AC s (by simp_all[Instr.index,asIntOf,AF,Ac]) m
  ·cases e
 ·rename_i l k u g;obtain⟨B,i,rfl,rfl,d,rfl⟩:=Ei g t;split at e
  ·rename_i b f;cases e;rw[AM]at f;cases o with
   |str _ sb=>
    have D:sb[i.toNat]?=zo b:=by rw[OP];exact f
    refine AC s (x:=.int .u8 b.toNat) ?_ (.int _ _ _)
    simp_all[Instr.index,asIntOf,AF]
  ·cases e
 ·cases e
theorem Ml(s:Sim M μ h w){p:PV}{x:Value}{i:Nat}(c:Rep M μ p x){r:R}(e:Bh h p i=zo r) :
  Br P M μ w ((do pure (.value (<- Instr.extract x i)):Sem Next).run P w) r:=by
 unfold Bh at e;split at e
 ·rename_i vs;obtain⟨v,b,rfl⟩:=Di e;rw[AM]at b;cases c with
  |tup _ _ va hl hr=>
   have hi:i<va.size:=by grind
   have a:=ak hi;exact AC s (x:=va[i]) (by simp[Instr.extract,a]) (hr _ _ _ b a)
 ·cases e
theorem Jv{ty:TypeId}{z:PV}(e:Bw P ty=zo z)(M:Al)(μ:Mu)(w:World):∃ a,(zeroValue ty).run P w=.ok a w/\Rep M μ z a:=by
 unfold Bw at e;split at e
 ·rename_i i hi;split at e
  ·rename_i a b;exact⟨a,by simp[zeroValue,typeInfo,hi,b],Lr e M μ⟩
  ·cases e
 ·cases e
theorem Kk{a b:PV}{x y:Value}(d:Rep M μ a x)(e:Rep M μ b y):Rep M μ (.tup [a,b]) (.tuple #[x,y]):=
 .tup _ _ _ rfl λi c v hc f=>by
  grind
theorem OL(s:Sim M μ h w){B ty:TypeId}{p:PV}{x:Value}{l:Bool}(t:Rep M μ p x){r:R}(e:BK P h ty p l=zo r) :
  Br P M μ w ((do pure (.value (<- Instr.typeAssert x B ty l)):Sem Next).run P w) r:=by
 have c:∀ {q:PV} {v:Value},Rep M μ q v->Rep M μ (Du l q) (if l then .tuple #[v,.bool zt]else v):=by
  intro q v D;cases l with
  |true=>exact Kk D (.bool _ _)
  |false=>exact D
 have b:∀ {z:PV},l=zt->Bw P ty=zo z -> ∃ f,(zeroValue ty).run P w=.ok f w/\Rep M μ (.tup [z,.bool zf]) (.tuple #[f,.bool zf]):=by
  intro z _ j;obtain⟨f,m,g⟩:=Jv j M μ w;exact⟨f,m,Kk g (.bool _ _)⟩
 unfold BK at e;split at e
 ·rename_i E y;split at e
  ·rename_i u a;split at e
   ·rename_i i hi;cases t with
    |ifc _ _ _ v hr=>
     split at e
     ·rename_i C;cases e;refine AC s (x:=if l then .tuple #[.iface u v,.bool zt]else .iface u v) ?_ (c (.ifc _ _ _ _ hr))
      simp[Instr.typeAssert,AF y,FJ hi,C]
     ·rename_i G C;replace e:=Ad e;obtain⟨rfl,e⟩:=e;split at e
      ·rename_i z j;cases e;obtain⟨f,m,g⟩:=b rfl j;exact AC s (by simp_all[Instr.typeAssert,AF,FJ]) g
      ·cases e
   ·cases e
  ·replace e:=Ad e;obtain⟨rfl,e⟩:=e;cases t;split at e
   ·rename_i z j;cases e;obtain⟨f,m,g⟩:=b rfl j;exact AC s (by simp[Instr.typeAssert,AF y,m]) g
   ·cases e
  ·cases e
 ·rename_i d n y;have F:∀ A,d ≠ .interface A:=λA hc=>n A hc;split at e
  ·rename_i u a;cases t with
   |ifc _ _ _ v hr=>
    cases o:aa u ty with
    |true=>
     rw[o]at e;cases e;have k:u=ty:=by simp_all
     subst k;refine AC s (x:=if l then .tuple #[v,.bool zt]else v) ?_ (c hr)
     simp_all[Instr.typeAssert,AF]
    |false=>
     rw[o]at e;simp only[zj]at e;have k:u≠ty:=by grind [Rv]
     replace e:=Ad e;obtain⟨rfl,e⟩:=e;split at e
     ·rename_i z j;cases e;obtain⟨f,m,g⟩:=b rfl j;refine AC s (x:=.tuple #[f,.bool zf]) ?_ g
      simp_all[Instr.typeAssert,AF]
     ·cases e
  ·replace e:=Ad e;obtain⟨rfl,e⟩:=e;cases t;split at e
   ·rename_i z j;cases e;obtain⟨f,m,g⟩:=b rfl j;refine AC s (x:=.tuple #[f,.bool zf]) ?_ g
    simp_all[Instr.typeAssert,AF]
   ·cases e
  ·cases e
 ·cases e
theorem SJ(s:Sim M μ h w){ty:TypeId}{p:PV}{x:Value}(f:Rep M μ p x){r:R}(e:Ed P h ty p=zo r) :
  Br P M μ w ((do pure (.value (<- Instr.makeInterface ty x)):Sem Next).run P w) r:=by
 unfold Ed at e;split at e
 ·cases e
 ·rename_i d a g;cases e;have c:∀ b,d ≠ .interface b:=λb hc=>a b hc;refine AC s (x:=.iface ty x) ?_ (.ifc _ _ _ _ f)
  simp_all[Instr.makeInterface,AF]
 ·cases e
theorem OF:∀ {es:List PV} {a:List UInt8},Sj es=zo a -> ∃ c:List Int,es=c.map (PV.int .u8)/\a=c.map λn=>bm n.toNat
 |[],a,e=>by cases e;simp_all
 |v::l,a,e=>by
  unfold Sj at e;split at e
  ·simp_all
  ·rename_i n l' h;cases h;cases d:Sj l with
   |none=>simp_all
   |some b=>
    rw[d]at e;cases e;obtain⟨c,rfl,rfl⟩:=OF d;exact⟨n::c,rfl,rfl⟩
  ·cases e
theorem Jj:∀ (a:List Int) (s:ByteArray),(a.foldl (λr n=>r.push (bm n.toNat)) s).data.toList=s.data.toList++a.map λn=>bm n.toNat
 |[],s=>by simp
 |n::a,s=>by
  rw[cM,Jj a];simp[ByteArray.push]
theorem MX(s:Sim M μ h w){f c:TypeId}{p:PV}{x:Value}(q:Rep M μ p x){r:R}(e:BJ P h f c p=zo r) :
  Br P M μ w ((do pure (.value (<- convert f c x)):Sem Next).run P w) r:=by
 unfold BJ at e;split at e
 ·rename_i O n d k t u;cases e;cases q;refine AC s (x:=.int k (k.wrap n)) ?_ (.int _ _ _)
  simp_all[convert,AF,Conv.intToInt]
 ·rename_i l t u;cases e;cases q with
  |str _ sb=>
   refine AC s (x:=.string sb) ?_ (.str _ _);simp[convert,AF t,AF u]
 ·rename_i full es C t u;split at e
  ·rename_i N K E;cases e;obtain⟨g,G,rfl⟩:=OF E
   have D:∀ (a:Addr) (len cap:Nat),x=.slice (zo a) len cap->(loadCells a len).run P w=.ok (g.map (Value.int .u8)).toArray w ->
     Br P M μ w ((do pure (.value (<- convert f c x)):Sem Next).run P w) (.val (.str (g.map λn=>bm n.toNat)) h):=by
    intro a len cap q B;subst q;refine AC s (x:=.string (g.foldl (λr n=>r.push (bm n.toNat)) ck)) ?_ ?_
    ·have:=run_convert_bytes_string (P:=P) w f c C (zo a) len cap t K u
     grind [run_bytesToString]
    ·have:=Rep.str (M:=M) μ (g.foldl (λr n=>r.push (bm n.toNat)) ck)
     simp_all[Jj]
   cases q with
   |lst0 _ _ a cap hf=>
    have J:g=[]:=by simp_all
    subst J;have B:=run_loadCells_list (P:=P) w a ([]:List Value) (λj v o=>by simp at o)
    simp_all
   |lst _ _ _ b off esz cap xs hf hc hs hm k1 hr=>
    subst G
    have B:=run_loadCells_list (P:=P) w ⟨b,off,zn⟩ (g.map (Value.int .u8)) (λj v o=>by
     rw[List.getElem?_map]at o;cases I:g[j]? with
     |none=>grind
     |some n=>
      rw[I]at o;cases o;have i:(g.map (PV.int .u8))[j]?=zo (.int .u8 n):=by grind
      have A:=hs j _ i;have z:=hm j _ 0 (.int .u8 n) i rfl;have m:=hr j _ 0 (.int .u8 n) i rfl;have y:esz=1:=A.symm;subst y;have F:=(s.mem _ _ z).2;rw[Bs]
      have L:xs j 0=.int .u8 n:=by
       generalize xs j 0=S at m;cases m;rfl
      grind)
    grind
  ·cases e
 ·cases e
end
end
section
variable[Gl]
section
variable{P:Program}{M:Al}{μ:Mu}{h:Hp}{w:World}
theorem E8{cs:List PV}{x:Value}(d:Rep M μ (.agg cs) x):∃ vs,x=.agg vs/\RepL M μ cs vs.toList /\ ∀ (i:Nat) (v:Value),vs[i]?=zo v->v.oneCell'=zt:=by
 cases d with
 |agg _ _ vs hl h1 hr=>exact⟨vs,rfl,⟨by omega,λi c v a b=>hr i c v a (by grind)⟩,h1⟩
theorem Hh{t:TypeId}{a:Array Field}(h:P.underlying t=zo (.struct a)):P.fieldsOf t=a:=by simp[Program.fieldsOf,h]
theorem Qm(s1 s2:ByteArray):(s1 == s2)=(s1.data.toList == s2.data.toList):=by simp_all[beq_toListBytes,ByteArray.toList_eq]
def FE(d:Nat)(e:TypeId)(n:Nat)(xs c:Array Value):List Nat->Sem Bool
 |[]=>pure zt
 |i::l=>do
  let a <- Go.part e xs (i*n)
  let b <- Go.part e c (i*n)
  let r <- Op.equalIn d e a b
  if(!r)=zt then pure zf else FE d e n xs c l
theorem Gy(d:Nat)(t e:TypeId)(len n:Nat)(xs c:Array Value)(j:P.underlying t=zo (.array len e))(h:AU P e=zo n) :
  (Op.equalIn (d+1) t (.agg xs) (.agg c)).run P w=(FE d e n xs c (cp 0 len)).run P w:=by
 simp only[Op.equalIn,Sem.run_bind,AF j,Result.andThen,Ac h];rw[Std.Legacy.Range.forIn_eq_forIn_range'];simp only[Std.Legacy.Range.size,Nat.sub_zero,Nat.add_sub_cancel,Nat.div_one];generalize cp 0 len=l
 induction l generalizing w with
 |nil=>rfl
 |cons i l m=>
  simp only[List.forIn_cons,FE,Sem.run_bind,Sem.run_ite];generalize (Go.part e xs (i*n)).run P w=r1;cases r1 with
  |ok a f=>
   simp only[Result.andThen_ok];generalize (Go.part e c (i*n)).run P f=r2;cases r2 with
   |ok b g=>
    simp only[Result.andThen_ok];generalize (Op.equalIn d e a b).run P g=r3;cases r3 with
    |ok r k=>
     cases r
     all_goals simp_all
    |halt x k=>rfl
   |halt x g=>rfl
  |halt x f=>rfl
def Jx(vs:Array Value):Prop:=∀ (i:Nat) (v:Value),vs[i]?=zo v->v.oneCell'=zt
set_option maxHeartbeats 4000000 in
theorem QJ:∀ (d:Nat),
    (∀ (t:TypeId) (p q:PV) (b:Bool) (x y:Value) (D:Nat),Nx P d t p q=zo b -> Rep M μ p x -> Rep M μ q y -> d <= D -> (Op.equalIn D t x y).run P w=.ok b w) /\
    (∀ (fs:List Field) (a c:List PV) (r:Bool) (xs ys:Array Value) (D:Nat),JA P d fs a c=zo r -> RepL M μ a xs.toList -> RepL M μ c ys.toList ->
      Jx xs -> Jx ys -> d <= D -> (Op.eqFields D xs ys fs).run P w=.ok r w) /\
    (∀ (n i z:Nat) (e:TypeId) (a c:List PV) (r:Bool) (xs ys:Array Value) (D:Nat),Km P d n e a c=zo r -> AU P e=zo z -> RepL M μ a (xs.toList.drop (i * z)) -> RepL M μ c (ys.toList.drop (i * z)) ->
      Jx xs -> Jx ys -> d <= D -> (FE D e z xs ys (cp i n)).run P w=.ok r w):=by
  intro d
  induction d with
  |zero=>simp_all[Nx,JA,Km]
  |succ d ih=>
    refine⟨?_,?_,?_⟩
    · intro t p q b x y D e hx hy hD
      obtain⟨D,rfl⟩:∃ D',D=D' + 1:=⟨D - 1,by omega⟩;have hD':d <= D:=by omega
      unfold Nx at e;split at e
      · rename_i hu
        split at e
        · cases e;cases hx;cases hy;simp[Op.equalIn,AF hu]
        · cases e
      · rename_i k0 hu
        split at e
        · rename_i k a k' c
          replace e:=Ad e;obtain⟨hk,e⟩:=e;have:k=k':=by grind
          subst this;cases e;cases hx;cases hy;simp[Op.equalIn,AF hu]
        · cases e
      · rename_i hu
        split at e
        · cases e
          cases hx with
          |str _ s1=>cases hy with
            |str _ s2=>simp[Op.equalIn,AF hu,Qm]
        · cases e
      · rename_i el hu
        have sm:(AU P el).isSome=zt -> ∀ a:Addr,(Op.equalIn (D + 1) t (.pointer (zo a)) (.pointer (zo a))).run P w=.ok zt w:=by
          intro hs a;obtain⟨z,hz⟩:=bD.1 hs;simp[Op.equalIn,AF hu,Ac hz,sameAddr]
        split at e<;>first
          |(cases e;done)
          | (rename_i a1 a2
             replace e:=Ad e;obtain⟨hk,e⟩:=e;rw[ac]at hk;cases e;cases ai hk.1;cases hx with
             |gk _ _ t1 b1 h1=>cases hy<;>grind)
          | (rename_i a1 a2 a3 a4
             replace e:=Ad e;obtain⟨hk,e⟩:=e;rw[ac,ac]at hk;cases e;cases ai hk.1.1;cases ai hk.1.2;cases hx with
             |ptr _ _ _ r1 h1=>cases hy<;>grind)
          |(cases e;cases hx;cases hy;simp[Op.equalIn,AF hu])
      · rename_i el hu
        split at e<;>(try (cases e;done))<;>(cases e;cases hx<;>cases hy<;>simp[Op.equalIn,AF hu])
      · rename_i a1 a2 a3 hu
        split at e<;>(try (cases e;done))<;>(cases e;cases hx;cases hy;simp[Op.equalIn,AF hu])
      · rename_i ms hu
        split at e
        · cases e;cases hx;cases hy;simp[Op.equalIn,AF hu]
        · cases e;cases hx;cases hy;simp[Op.equalIn,AF hu]
        · cases e;cases hx;cases hy;simp[Op.equalIn,AF hu]
        · rename_i t1 a t2 c
          cases hx with
          |ifc _ _ _ v1 hr1=>cases hy with
            |ifc _ _ _ v2 hr2=>
              cases ht:aa t1 t2 with
              |false=>
                rw[ht]at e;cases e;have:t1 ≠ t2:=by intro hc;rw[Rv hc]at ht;cases ht
                simp[Op.equalIn,AF hu,this]
              |true=>
                rw[ht]at e;simp only[zb]at e;have:t1=t2:=by simpa using ht
                subst this;split at e
                · rename_i i hi
                  replace e:=Ad e;obtain⟨hcmp,e⟩:=e;have:=ih.1 t1 a c b v1 v2 D e hr1 hr2 hD';simp[Op.equalIn,AF hu,FJ hi,hcmp,this]
                · cases e
        · cases e
      · rename_i fs hu
        split at e
        · rename_i a c
          replace e:=Bl e;obtain⟨hp,e⟩:=e;obtain⟨xs,rfl,hra,h1⟩:=E8 hx;obtain⟨ys,rfl,hrc,h2⟩:=E8 hy;have hu':P.underlying t=zo (.struct (P.fieldsOf t)):=by rw[Hh hu];exact hu
          rw[run_equalIn_struct w D t xs ys hu' hp,Hh hu];exact ih.2.1 fs.toList a c b xs ys D e hra hrc h1 h2 hD'
        · cases e
      · rename_i n el hu
        split at e
        · rename_i a c
          obtain⟨xs,rfl,hra,h1⟩:=E8 hx;obtain⟨ys,rfl,hrc,h2⟩:=E8 hy;replace e:=Ad e;obtain⟨hz,e⟩:=e;obtain⟨z,hz⟩:=bD.1 hz;rw[Gy D t el n z xs ys hu hz];exact ih.2.2 n 0 z el a c b xs ys D e hz (by grind) (by grind) h1 h2 hD'
        · cases e
      · cases e
    · intro fs a c r xs ys D e hra hrc h1 h2 hD
      have hD':d <= D:=by omega
      cases fs with
      |nil=>simp[JA]at e;subst e;rfl
      |cons f fs=>
        unfold JA at e
        cases hn : (f.name == "_") with
        |true=>
          rw[hn]at e;simp only[zb]at e
          grind [Op.eqFields]
        |false=>
          rw[hn]at e;simp only[zj]at e
          have hn' : f.name ≠ "_" := by grind
          split at e
          · rename_i x y hpx hpy
            obtain⟨vx,hvx,hrx,_⟩:=FP (P:=P) hpx (M:=M) (μ:=μ) (vs:=xs) (off:=f.offset) (hra.drop _) h1 w;obtain⟨vy,hvy,hry,_⟩:=FP (P:=P) hpy (M:=M) (μ:=μ) (vs:=ys) (off:=f.offset) (hrc.drop _) h2 w;split at e
            · rename_i ht
              have k1:=ih.1 f.type x y zt vx vy D ht hrx hry hD';have k2:=ih.2.1 fs a c r xs ys D e hra hrc h1 h2 hD';simp[Op.eqFields,hn',hvx,hvy,k1,k2]
            · rename_i o hne
              cases hq:Nx P d f.type x y with
              |none=>grind
              |some b=>
                rw[hq]at e;cases e;have k1:=ih.1 f.type x y r vx vy D hq hrx hry hD';cases r with
                |true=>grind
                |false=>simp[Op.eqFields,hn',hvx,hvy,k1]
          · cases e
    · intro n i z el a c r xs ys D e hz hra hrc h1 h2 hD
      have hD':d <= D:=by omega
      cases n with
      |zero=>simp[Km]at e;subst e;rfl
      |succ n=>
        unfold Km at e;rw[hz]at e;split at e
        · rename_i s x y hs hpx hpy
          cases hs;obtain⟨vx,hvx,hrx,_⟩:=FP (P:=P) hpx (M:=M) (μ:=μ) (vs:=xs) (off:=i * z) hra h1 w;obtain⟨vy,hvy,hry,_⟩:=FP (P:=P) hpy (M:=M) (μ:=μ) (vs:=ys) (off:=i * z) hrc h2 w;have hra':RepL M μ (a.drop z) (xs.toList.drop ((i + 1) * z)):=by have:=hra.drop z;grind [bO,db]
          have hrc':RepL M μ (c.drop z) (ys.toList.drop ((i + 1) * z)):=by have:=hrc.drop z;grind [bO,db]
          rw[List.range'_succ];split at e
          · rename_i ht
            have k1:=ih.1 el x y zt vx vy D ht hrx hry hD';have k2:=ih.2.2 n (i + 1) z el _ _ r xs ys D e hz hra' hrc' h1 h2 hD';simp[FE,hvx,hvy,k1,k2]
          · rename_i o hne
            cases hq:Nx P d el x y with
            |none=>grind
            |some b=>
              rw[hq]at e;cases e;have k1:=ih.1 el x y r vx vy D hq hrx hry hD';cases r with
              |true=>grind
              |false=>simp[FE,hvx,hvy,k1]
        · cases e
end
end
section
variable[Gl]
section
variable{P:Program}{M:Al}{μ:Mu}{h:Hp}{w:World}
def PF:Value->Nat
 |.int _ _=>1
 |.float _ _=>2
 |.complex _ _ _=>3
 |.string _=>4
 |_=>0
def TU:PV->Nat
 |.int _ _=>1
 |.str _=>4
 |_=>0
theorem OA{p:PV}{x:Value}(a:Rep M μ p x):PF x=TU p:=by cases a<;>rfl
theorem MT(t:TypeId)(x y:Value)(a:¬ (PF x=PF y/\PF x≠0)):binOp .eql t x y=(do pure (.bool (<- Op.equal t x y))):=by
 cases x<;>cases y<;>first|rfl|(simp[PF]at a)
theorem MU(t:TypeId)(x y:Value)(a:¬ (PF x=PF y/\PF x≠0)):binOp .neq t x y=(do pure (.bool (!(<- Op.equal t x y)))):=by
 cases x<;>cases y<;>first|rfl|(simp[PF]at a)
theorem JD{c:BinOp}{t:TypeId}{k g:IntKind}{a b:Int}{v:PV}(e:(match c with
  |.shl | .shr=>HT c k a b
  |_=>bif k == g then Oz c k a b else zn)=zo v):∃ z,(binOp c t (.int k a) (.int g b)).run P w=.ok z w/\Rep M μ v z:=by
 have sh:∀ c:BinOp,(c=.shl\/c=.shr)->HT c k a b=zo v -> ∃ z,(Op.shift c k a g b).run P w=.ok z w/\Rep M μ v z:=by
  intro c i e;unfold HT at e;replace e:=Bl e;obtain⟨l,e⟩:=e;have f:¬ (b<0):=by grind
  rcases i with rfl|rfl
  ·cases e;exact⟨.int k (k.wrap (a*2 ^ (min b.toNat k.bits))),by simp only[Op.shift,zx f];rfl,.int _ _ _⟩
  ·cases e;exact⟨.int k (a.fdiv (2 ^ (min b.toNat k.bits))),by simp only[Op.shift,zx f];rfl,.int _ _ _⟩
 have d:∀ c:BinOp,c ≠ .shl->c ≠ .shr->(bif k == g then Oz c k a b else zn)=zo v->k=g/\Oz c k a b=zo v:=by
  grind
 cases c with
 |shl=>exact sh _ (.inl rfl) e
 |shr=>exact sh _ (.inr rfl) e
 |add=>obtain⟨rfl,e2⟩:=d .add (by decide) (by decide) e;clear e;cases e2;exact⟨.int k (k.wrap (a+b)),by simp only[binOp,ne_eq,not_true_eq_false,if_false];rfl,.int _ _ _⟩
 |sub=>obtain⟨rfl,e2⟩:=d .sub (by decide) (by decide) e;clear e;cases e2;exact⟨.int k (k.wrap (a-b)),by simp only[binOp,ne_eq,not_true_eq_false,if_false];rfl,.int _ _ _⟩
 |mul=>obtain⟨rfl,e2⟩:=d .mul (by decide) (by decide) e;clear e;cases e2;exact⟨.int k (k.wrap (a*b)),by simp only[binOp,ne_eq,not_true_eq_false,if_false];rfl,.int _ _ _⟩
 |quo=>
  obtain⟨rfl,e2⟩:=d .quo (by decide) (by decide) e;have h:=Bl e2;have j:b≠0:=by simp_all
  have:=h.2;cases this;exact⟨.int k (k.wrap (a.tdiv b)),by simp_all[binOp,ne_eq,not_true_eq_false,if_false,Op.intDiv],.int _ _ _⟩
 |rem=>
  obtain⟨rfl,e2⟩:=d .rem (by decide) (by decide) e;have h:=Bl e2;have j:b≠0:=by simp_all
  have:=h.2;cases this;exact⟨.int k (a.tmod b),by simp_all[binOp,ne_eq,not_true_eq_false,if_false,Op.intDiv],.int _ _ _⟩
 |and=>obtain⟨rfl,e2⟩:=d .and (by decide) (by decide) e;clear e;cases e2;exact⟨.int k (k.wrap (az k.bits a &&& az k.bits b).toNat),by simp only[binOp,ne_eq,not_true_eq_false,if_false];rfl,.int _ _ _⟩
 |or=>obtain⟨rfl,e2⟩:=d .or (by decide) (by decide) e;clear e;cases e2;exact⟨.int k (k.wrap (az k.bits a ||| az k.bits b).toNat),by simp only[binOp,ne_eq,not_true_eq_false,if_false];rfl,.int _ _ _⟩
 |xor=>obtain⟨rfl,e2⟩:=d .xor (by decide) (by decide) e;clear e;cases e2;exact⟨.int k (k.wrap (az k.bits a ^^^ az k.bits b).toNat),by simp only[binOp,ne_eq,not_true_eq_false,if_false];rfl,.int _ _ _⟩
 |andNot=>obtain⟨rfl,e2⟩:=d .andNot (by decide) (by decide) e;clear e;cases e2
 |eql=>obtain⟨rfl,e2⟩:=d .eql (by decide) (by decide) e;clear e;cases e2;exact⟨.bool (a == b),by simp only[binOp,ne_eq,not_true_eq_false,if_false];rfl,.bool _ _⟩
 |neq=>obtain⟨rfl,e2⟩:=d .neq (by decide) (by decide) e;clear e;cases e2;exact⟨.bool (a != b),by simp only[binOp,ne_eq,not_true_eq_false,if_false];rfl,.bool _ _⟩
 |lss=>obtain⟨rfl,e2⟩:=d .lss (by decide) (by decide) e;clear e;cases e2;exact⟨.bool (decide (a<b)),by simp only[binOp,ne_eq,not_true_eq_false,if_false];rfl,.bool _ _⟩
 |leq=>obtain⟨rfl,e2⟩:=d .leq (by decide) (by decide) e;clear e;cases e2;exact⟨.bool (decide (a<=b)),by simp only[binOp,ne_eq,not_true_eq_false,if_false];rfl,.bool _ _⟩
 |gtr=>obtain⟨rfl,e2⟩:=d .gtr (by decide) (by decide) e;clear e;cases e2;exact⟨.bool (decide (a>b)),by simp only[binOp,ne_eq,not_true_eq_false,if_false];rfl,.bool _ _⟩
 |geq=>obtain⟨rfl,e2⟩:=d .geq (by decide) (by decide) e;clear e;cases e2;exact⟨.bool (decide (a>=b)),by simp only[binOp,ne_eq,not_true_eq_false,if_false];rfl,.bool _ _⟩
theorem JE{c:BinOp}{t:TypeId}{a b:List UInt8}{x y:ByteArray}{v:PV}(d:x.data.toList=a)(f:y.data.toList=b)(e:QQ c a b=zo v) :
  ∃ z,(binOp c t (.string x) (.string y)).run P w=.ok z w/\Rep M μ v z:=by
 have ex:x.toList=a:=by rw[ByteArray.toList_eq,d]
 have i:y.toList=b:=by rw[ByteArray.toList_eq,f]
 unfold QQ at e;cases c with
 |add=>
  have g:=Ad e;obtain⟨h,e2⟩:=g;cases e2;refine⟨.string (x++y),?_,Ql (by simp_all) μ⟩
  have hs:¬ (((x.size+y.size:Nat):Int)>IntKind.i64.max):=by
   have j:x.size=a.length:=by rw[<- d];simp
   have k:y.size=b.length:=by rw[<- f];simp
   have l:IntKind.i64.max=9223372036854775807:=by decide
   have m:a.length+b.length<=1000000000:=by simpa using h
   omega
  show(Op.stringOp .add x y).run P w=_
  simp_all[Op.stringOp,zx]
 |eql=>cases e;exact⟨.bool (a == b),by simp_all[binOp,Op.stringOp],.bool _ _⟩
 |neq=>cases e;exact⟨.bool (!(a == b)),by simp_all[binOp,Op.stringOp],.bool _ _⟩
 |lss=>cases e;exact⟨.bool (Op.bytesLess a b),by simp_all[binOp,Op.stringOp],.bool _ _⟩
 |leq=>cases e;exact⟨.bool (Op.bytesLess a b||a == b),by simp_all[binOp,Op.stringOp],.bool _ _⟩
 |gtr=>cases e;exact⟨.bool (!(Op.bytesLess a b||a == b)),by simp_all[binOp,Op.stringOp],.bool _ _⟩
 |geq=>cases e;exact⟨.bool (!Op.bytesLess a b),by simp_all[binOp,Op.stringOp],.bool _ _⟩
 |sub=>cases e
 |mul=>cases e
 |quo=>cases e
 |rem=>cases e
 |and=>cases e
 |or=>cases e
 |xor=>cases e
 |shl=>cases e
 |shr=>cases e
 |andNot=>cases e
theorem Kl{f:BinOp}{ty:TypeId}{p q v:PV}{x y:Value}(e:I9 P f ty p q=zo v)(a:Rep M μ p x)(c:Rep M μ q y) :
  ∃ z,(binOp f ty x y).run P w=.ok z w/\Rep M μ v z:=by
 unfold I9 at e;split at e
 ·cases a;cases c;exact JD e
 ·cases a;cases c;exact JE rfl rfl e
 ·rename_i j k
  have i:¬ (PF x=PF y/\PF x≠0):=by
   rw[OA a,OA c];rintro⟨g,h⟩
   cases p<;>(try (exact h rfl))<;>cases q<;>first
    |(simp[TU]at g;done)
    |grind
    |simp_all
  split at e
  ·obtain⟨b,d,rfl⟩:=AA e;have:=(QJ (P:=P) (w:=w) (M:=M) (μ:=μ) FD).1 ty p q b x y 10000 d a c (by decide);refine⟨.bool b,?_,.bool _ _⟩
   simp_all[MT,Op.equal,Op.maxDepth]
  ·obtain⟨b,d,rfl⟩:=AA e;have:=(QJ (P:=P) (w:=w) (M:=M) (μ:=μ) FD).1 ty p q b x y 10000 d a c (by decide);refine⟨.bool (!b),?_,.bool _ _⟩
   simp_all[MU,Op.equal,Op.maxDepth]
  ·cases e
theorem LZ(c:BinOp)(t:TypeId)(x y:Operand)(a b:Value)(d:¬ (a=.nilIface/\b=.nilIface))(e:∀ u v,¬ (a=.agg u/\b=.agg v)):(eqGuard c t x y a b).run P w=.ok () w:=by
 simp_all[eqGuard]
theorem Oh(a:BinOp)(t:TypeId)(x y:Operand)(hc:(CX x||CX y)=zt):(eqGuard a t x y .nilIface .nilIface).run P w=.ok () w:=by
 cases x<;>cases y<;>first|(simp[CX]at hc;done)|(cases a<;>simp[eqGuard])
theorem R9(s:Sim M μ h w){f:BinOp}{ty:TypeId}{x y:Operand}{p q:PV}{j k:Value}(b:Rep M μ p j)(c:Rep M μ q k){r:R}(e:Dd P h f ty x y p q=zo r) :
  Br P M μ w ((do pure (.value (<- (do eqGuard f ty x y j k;binOp f ty j k))):Sem Next).run P w) r:=by
 unfold Dd at e;split at e
 ·replace e:=Ad e;obtain⟨hc,e⟩:=e;obtain⟨v,d,rfl⟩:=Di e;obtain⟨z,i,a⟩:=Kl (w:=w) d b c;cases b;cases c;exact AC s (by simp[Oh f ty x y hc,i]) a
 ·rename_i cs l;replace e:=Bl e;obtain⟨hc,e⟩:=e;obtain⟨v,d,rfl⟩:=Di e;obtain⟨z,i,a⟩:=Kl (w:=w) d b c;obtain⟨xs,rfl,_⟩:=E8 b;obtain⟨o,rfl,_⟩:=E8 c;exact AC s (by simp_all[run_eqGuard_agg]) a
 ·rename_i m n;obtain⟨v,d,rfl⟩:=Di e;obtain⟨z,i,a⟩:=Kl (w:=w) d b c
  have g:=LZ (P:=P) (w:=w) f ty x y j k (by
   rintro⟨rfl,rfl⟩;cases b;cases c;simp_all) (by
   rintro u v ⟨rfl,rfl⟩;cases b;cases c;simp_all)
  exact AC s (by simp[g,i]) a
theorem Tf(s:Sim M μ h w){c:UnOp}{p:PV}{x:Value}(b:Rep M μ p x){r:R}(e:vl (Tx c p) h=zo r) :
  Br P M μ w ((do pure (.value (<- Op.unary c x)):Sem Next).run P w) r:=by
 obtain⟨v,a,rfl⟩:=Di e;unfold Tx at a;split at a
 ·cases b;split at a
  ·cases a;exact AC s (x:=.bool _) (by rfl) (.bool _ _)
  ·cases a
 ·cases b;split at a
  ·cases a;exact AC s (x:=.int _ _) (by rfl) (.int _ _ _)
  ·cases a
 ·cases a
end
end
section
variable[Gl]
section
variable{P:Program}{M:Al}{μ:Mu}{h:Hp}{w:World}
theorem Co{d:TypeDesc}{p q:PV}{b:Bool}{x y:Value}(e:KV d p q=zo b)(f:Rep M μ p x)(g:Rep M μ q y) :
  Instr.sameNow d x y=zo b/\(b=zt->Instr.sameBits 10000 y x=zt):=by
 unfold KV at e;split at e
 ·cases e;cases f;cases g;rename_i a c;exact⟨rfl,λl=>by simp_all[Instr.sameBits]⟩
 ·rename_i k a j c;have h:=Ad e;have i:k=j:=by simp_all
  subst i;cases h.2;cases f;cases g
  simp_all[Instr.sameNow,Instr.sameBits]
 ·cases e;cases f with
  |str _ s1=>cases g with
   |str _ s2=>
    simp_all[Instr.sameNow,Qm,Instr.sameBits]
 ·cases e
def EntsRep(M:Al)(μ:Mu)(es:List (PV×PV))(a:List MapEntry):Prop:=
 a.length=es.length /\ ∀ (i:Nat) (k v:PV) (e:MapEntry),es[i]?=zo (k,v)->a[i]?=zo e->Rep M μ k e.key/\Rep M μ v e.val
theorem EntsRep.tail{a:PV×PV}{es:List (PV×PV)}{b:MapEntry}{c:List MapEntry}(d:EntsRep M μ (a::es) (b::c)):EntsRep M μ es c:=
 ⟨by simpa using d.1,λi k v e f g=>d.2 (i+1) k v e (by grind) (by grind)⟩
theorem Lm{d:TypeDesc}{k:PV}{g:Value}(f:Rep M μ k g):∀ {es:List (PV×PV)} {a:List MapEntry} {r:Option PV} (n:Nat),EntsRep M μ es a->Hr d es k=zo r ->
  ∃ o,Instr.findNow d g a n=zo o/\(match r,o with
   |none,zn=>True
   |some v,zo (_,x)=>Rep M μ v x
   |_,_=>False)
 |[],a,r,n,hr,e=>by
  cases e;cases a with
  |nil=>exact⟨zn,rfl,trivial⟩
  |cons _ _=>simp[EntsRep]at hr
 |(k1,v1)::es,a,r,n,hr,e=>by
  cases a with
  |nil=>simp[EntsRep]at hr
  |cons b a=>
   obtain⟨c,h⟩:=hr.2 0 k1 v1 b rfl rfl;unfold Hr at e;split at e
   ·rename_i hc;cases e;have:=(Co hc f c).1
    simp_all[Instr.findNow]
   ·rename_i hc;have i:=(Co hc f c).1;obtain⟨o,j,l⟩:=Lm f (n+1) hr.tail e
    simp_all[Instr.findNow]
   ·cases e
theorem Bt{a:TypeId}{d:TypeDesc}(e:P.underlying a=zo d)(c:Cp d=zt)(b:Bool)(v:Value):(Instr.checkKey b 10000 a v).run P w=.ok () w:=by
 rw[show(10000:Nat)=9999+1 from rfl];cases d<;>simp[Cp]at c<;>(unfold Instr.checkKey;simp[AF e])
theorem Bv{r:Nat}{b:Array MapEntry}{a:Nat}(c:w.heap[r]?=zo (.map b a)):(getObj r).run P w=.ok (.map b a) w:=by
 simp[getObj,Sem.run,c]
theorem Oq(s:Sim M μ h w){ty:TypeId}{m k:PV}{x y:Value}{p:Bool}(O:Rep M μ m x)(X:Rep M μ k y){r:R}(e:DK P h ty m k p=zo r) :
  Br P M μ w ((do pure (.value (<- Instr.lookup ty x y p)):Sem Next).run P w) r:=by
 unfold DK at e;split at e
 ·rename_i Z el es L n;split at e
  ·rename_i d D;have e1:=Bl e;have u:Cp d=zt:=by simp_all
   replace e:=e1.2
   have l:∃ f:Array MapEntry,EntsRep M μ es f.toList/\((x=.map zn/\f = #[]) \/ ∃ r c,x=.map (zo r)/\w.heap[r]?=zo (.map f c)):=by
    unfold Lj at n;split at n
    ·cases n;cases O;exact⟨#[],⟨rfl,λi k v e h=>by simp at h⟩,.inl ⟨rfl,rfl⟩⟩
    ·rename_i j;split at n
     ·rename_i S t;cases n;cases O with
      |mp _ _ r hr=>
       obtain⟨r',A,f,c,B,K,U⟩:=s.blk j _ t;rw[hr]at A;cases A;exact⟨f,⟨by omega,λi k v e a b=>U i k v e a (by grind)⟩,.inr ⟨_,c,rfl,B⟩⟩
     ·cases n
    ·cases n
   obtain⟨f,E,g⟩:=l;split at e
   ·rename_i G W;obtain⟨o,B,K⟩:=Lm X 0 E W;have J:(Instr.findKey Z y f.toList).run P w=.ok o w:=by simp[Instr.findKey,AF D,B]
    split at e
    ·rename_i v N;cases e
     have q:∀ z,Rep M μ v z->Rep M μ (bif p then .tup [v,.bool G.isSome]else v) (if p then .tuple #[z,.bool G.isSome]else z):=by
      intro z C;cases p with
      |true=>exact Kk C (.bool _ _)
      |false=>exact C
     cases G with
     |some v'=>
      cases N;cases o with
      |none=>grind
      |some Y=>
       obtain⟨i,z⟩:=Y;refine AC s (x:=if p then .tuple #[z,.bool zt]else z) ?_ (q z K)
       rcases g with⟨rfl,rfl⟩|⟨r,c,rfl,t⟩
       ·simp[Instr.findNow]at B
       ·simp only[Instr.lookup,Sem.run_bind,AF L,Result.andThen,Bv t,Bt D u,J,Sem.run_pure]
     |none=>
      cases o with
      |some _=>grind
      |none=>
       obtain⟨I,C,F⟩:=Jv N M μ w;refine AC s (x:=if p then .tuple #[I,.bool zf]else I) ?_ (q I F)
       rcases g with⟨rfl,rfl⟩|⟨r,c,rfl,t⟩
       ·simp_all[Instr.lookup,Sem.run_bind,AF,Result.andThen,Bt]
       ·simp only[Instr.lookup,Sem.run_bind,AF L,Result.andThen,Bv t,Bt D u,J,Sem.run_pure,C]
    ·cases e
   ·cases e
  ·cases e
 ·cases e
theorem Gq{d:TypeDesc}{k v:PV}{f o:Value}(m:Rep M μ k f)(y:Rep M μ v o):∀ {es es':List (PV×PV)} {a:List MapEntry} (n:Nat),EntsRep M μ es a->Iq d es k v=zo es' ->
  (∃ i x c,Instr.findNow d f a n=zo (zo (n+i,x))/\a[i]?=zo c/\Instr.sameBits 10000 c.key f=zt/\EntsRep M μ es' (a.modify i λe=>{ e with key:=f,val:=o })) \/
  (Instr.findNow d f a n=zo zn /\ ∀ born,EntsRep M μ es' (a++[{ key:=f,val:=o,born }]))
 |[],es',a,n,hr,e=>by
  cases e;cases a with
  |nil=>
   refine .inr ⟨rfl,λborn=>⟨rfl,λi k v e q r=> ?_⟩⟩<;>grind
  |cons _ _=>simp[EntsRep]at hr
 |(k1,v1)::es,es',a,n,hr,e=>by
  cases a with
  |nil=>simp[EntsRep]at hr
  |cons b a=>
   obtain⟨g,z⟩:=hr.2 0 k1 v1 b rfl rfl;unfold Iq at e;split at e
   ·rename_i hc;cases e;have:=Co hc m g;refine .inl ⟨0,b.val,b,by simp[Instr.findNow,this.1],rfl,this.2 rfl,?_,λi k v e q r=> ?_⟩
    ·simpa using hr.1
    ·cases i with
     |zero=>grind
     |succ i=>exact hr.2 (i+1) k v e (by grind) (by grind)
   ·rename_i hc;have u:=(Co hc m g).1;split at e
    ·rename_i l w;cases e
     have cons:∀ {l:List (PV×PV)} {j:List MapEntry},EntsRep M μ l j->EntsRep M μ ((k1,v1)::l) (b::j):=by
      intro l j h;refine⟨by simp[h.1],λi k v e q r=> ?_⟩;cases i with
      |zero=>simp_all
      |succ i=>exact h.2 i k v e (by grind) (by grind)
     rcases Gq m y (n+1) hr.tail w with⟨i,x,c,p,s,t,A⟩|⟨p,s⟩
     ·refine .inl ⟨i+1,x,c,?_,by grind,t,?_⟩
      ·simp[Instr.findNow,u,p];omega
      simp_all
     simp_all[Instr.findNow]
    ·cases e
   ·cases e
theorem BZ{r:Nat}{o o':Obj}(b:w.heap[r]?=zo o)(hc:∀ a t f,o ≠ .cells a t f):(setObj r o').run P w=.ok () { w with heap:=w.heap.setIfInBounds r o' }:=by
 unfold setObj;simp only[Sem.run,b]
theorem Sim.object{id:Nat}{b b':Blk}{r:Bk}{o o':Obj}{h':Hp}(s:Sim M μ h w)(j:h.get id=zo b)(e:μ id=zo r)(c:b.live)(hs:h.set id b'=zo h')
  (u:w.heap[r.b]?=zo o) (hc:∀ a t f,o ≠ .cells a t f) (i:BlkAt M μ r (zo o') b') (l:∀ a t f,o' ≠ .cells a t f:=by intro a t f hc;cases hc) :
  Sim M μ h' { w with heap:=w.heap.setIfInBounds r.b o' }/\Grow M μ w M μ { w with heap:=w.heap.setIfInBounds r.b o' }:=by
 have m:r.b<w.heap.size:=(s.use id r e).2;have g:∀ k,k≠r.b->(w.heap.setIfInBounds r.b o')[k]?=w.heap[k]?:=λk q=>by grind
 have d:BlkAt M μ r (w.heap.setIfInBounds r.b o')[r.b]? b':=by simp_all
 refine⟨s.update j e c (Hp.get_set hs).1 g (by simp) d ?_,Grow.update e g (by simp) rfl rfl ⟨rfl,ab _⟩⟩;intro a v n p;have:=(s.mem a v n).2
 simp_all[World.cell?]
theorem Gm(s:Sim M μ h w){ty:TypeId}{m k v:PV}{x y z:Value}(O:Rep M μ m x)(S:Rep M μ k y)(U:Rep M μ v z){r:R}(e:CI P h ty m k v=zo r) :
  Br P M μ w ((do Instr.mapUpdate ty x y z;pure .skip:Sem Next).run P w) r:=by
 unfold CI at e;split at e
 ·rename_i J X j I;split at e
  ·rename_i d t;have e1:=Bl e;have n:Cp d=zt:=by simp_all
   replace e:=e1.2;split at e
   ·rename_i es C;split at e
    ·rename_i es' AG;obtain⟨h',g,rfl⟩:=AA e;cases O with
     |mp _ _ r hr=>
      obtain⟨Z,o,f,c,l,Y,L⟩:=s.blk j _ C;rw[hr]at o;cases o;have D:EntsRep M μ es f.toList:=⟨by omega,λi k v e a b=>L i k v e a (by grind)⟩;rcases Gq S U 0 D AG with⟨i,W,E,u,A,K,G⟩|⟨u,A⟩
      ·have B:(Instr.findKey J y f.toList).run P w=.ok (zo (i,W)) w:=by simp[Instr.findKey,AF t,u]
       have N:f[i]?=zo E:=by grind
       have hS:=s.object (o':=.map (f.modify i λe=>{ e with key:=y,val:=z }) c) C hr trivial g l (by simp_all)
        ⟨_,c,rfl,by have:=G.1;simp_all,λi k v e p q=>G.2 i k v e p (by
         grind)⟩
       refine⟨M,μ,_,?_,hS.1,hS.2⟩;have F:=BZ (P:=P) (o':=.map (f.modify i λe=>{ e with key:=y,val:=z }) c) l (by simp_all)
       simp only[Instr.mapUpdate,Sem.run_bind,AF I,Result.andThen,Bv l,Bt t n,B,N,aC,aD,Instr.keyThatStays,K,if_true,Sem.run_pure,F]
      ·have B:(Instr.findKey J y f.toList).run P w=.ok zn w:=by simp[Instr.findKey,AF t,u]
       have hS:=s.object (o':=.map (f.push { key:=y,val:=z,born:=c }) (c+1)) C hr trivial g l (by simp_all)
        ⟨_,c+1,rfl,by have:=(A c).1;simp_all,λi k v e p q=>(A c).2 i k v e p (by
         grind)⟩
       refine⟨M,μ,_,?_,hS.1,hS.2⟩;have F:=BZ (P:=P) (o':=.map (f.push { key:=y,val:=z,born:=c }) (c+1)) l (by simp_all);simp only[Instr.mapUpdate,Sem.run_bind,AF I,Result.andThen,Bv l,Bt t n,B,F,Sem.run_pure]
    ·cases e
   ·cases e
  ·cases e
 ·cases e
end
end
end Go.Proofs.YtoefnfbpoabinaaGreatDoor.Pi
