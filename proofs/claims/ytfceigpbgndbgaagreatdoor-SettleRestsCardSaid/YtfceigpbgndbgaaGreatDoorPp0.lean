/- A part of the evaluator of the model's code for any program, and of the proof that it is sound. No condition. -/
import GoSem.Step
import Derived.WalkKit
import Derived.Laws.BytesString
set_option linter.all false
open List renaming all_eq_true->a8, drop_drop->bZ, foldl_cons->da, getElem?_append->aU, getElem?_cons_succ->bJ, getElem?_drop->aM, getElem?_eq_getElem->ae, getElem?_eq_some_iff->ab, getElem?_map->cP, getElem?_set->a9, getElem?_take->aA, getElem_drop->cQ, length_cons->aR, length_take->aX, mem_append_left->ao, mem_append_right->am, mem_cons->ai, mem_iff_getElem?->bw, mem_of_getElem?->bV, range'->cF, replicate->aY
open Nat renaming add_assoc->aH, add_mul->aG, add_zero->bg, beq->aa, beq_eq->bI, ble->ah, blt->af, div_eq_of_lt->db, eq_of_beq_eq_true->aj, le_of_ble_eq_true->aq, le_refl->ad, le_trans->ax, lor->bS, mul_add_div->dh, mul_comm->cb, mul_le_mul_right->aC, pow->c0, pow_succ->dt, sub_self->du, succ_mul->dv, succ_ne_zero->de, zero_add->aN
open Array renaming ext'->dq, foldl_toList->cI, getElem?_eq_getElem->al, getElem?_extract->cw, getElem?_push->aV, getElem?_setIfInBounds->aO, getElem?_toList->bm, mem_of_getElem?->cx, mem_toList_iff->bx, range->bn
open Option renaming getD_some->aE, isSome_iff_exists->bG, map_some->ap
open Bool renaming and_eq_true->ac
open UInt8 renaming ofNat->bq
open ByteArray renaming empty->cC
open BitVec renaming ofInt->aF
open Option renaming some->zo, none->zn
open Bool renaming true->zt, false->zf
namespace Go.Proofs.YtfceigpbgndbgaaGreatDoor
theorem zy{c:Prop}{h:Decidable c}(p:c){α:Sort _}{t e:α}:ite c t e=t:=if_pos p
theorem zx{c:Prop}{h:Decidable c}(p:¬c){α:Sort _}{t e:α}:ite c t e=e:=if_neg p
theorem zb{α:Sort _}{a b:α}:cond true a b=a:=rfl
theorem zj{α:Sort _}{a b:α}:cond false a b=b:=rfl
end Go.Proofs.YtfceigpbgndbgaaGreatDoor
namespace Go.Proofs.YtfceigpbgndbgaaGreatDoor.Pi
section
inductive PV where
 |bool (b:Bool)
 |int (k:IntKind) (n:Int)
 |str (l:List UInt8)
 |nilp|nils|nilm|nilf|nili
 |agg (cs:List PV)
 |tup (vs:List PV)
 |lst (full:Bool) (es:List PV)
 |own (id off len:Nat)
 |ptr (id off:Nat)
 |ept (id i off:Nat)
 |view (cs:List PV)
 |fn (f:Fn) (first captured:List PV)
 |yl (id:Nat)
 |ifc (t:TypeId) (v:PV)
 |mp (id:Nat)
 |gk (n:Nat)
 |adr (b off:Nat)
inductive Pr where
 |is (same:List TypeId)
 |as (tt:List (TypeId×TypeId)) (plain:List TypeId)
 |cmp
 |kn (b:Bool)
class Gl where
 g:Nat->Option (List PV)
 pr:FuncId->Option Pr
variable[Gl]
structure PE where
 v:PV
 recovered:Bool
inductive UM where
 |ret
 |pan (ch:List PE)
inductive DF where
 |call (f:PV) (args:List PV)
 |bi (b:Builtin) (ats:Array TypeId) (ty:TypeId) (args:List PV)
 |col (id:Nat)
inductive Ex where
 |normal
 |exit (id:Nat)
 |goto (l:Nat)
 |ret
 |panic (v:PV)
inductive T (α:Type) where
 |lf
 |nd (l:T α) (v:Option α) (r:T α)
def T.get{α:Type}:T α->Nat->Option α
 |.lf,_=>zn
 |.nd l v r,k=>bif aa k 0 then v else bif aa (k % 2) 1 then l.get (k / 2)else r.get (k / 2-1)
def T.put{α:Type}:Nat->T α->Nat->α->T α
 |0,t,_,_=>t
 |n+1,.lf,k,x=>bif aa k 0 then .nd .lf (zo x) .lf else bif aa (k % 2) 1 then .nd (T.put n .lf (k / 2) x) zn .lf else .nd .lf zn (T.put n .lf (k / 2-1) x)
 |n+1,.nd l v r,k,x=>bif aa k 0 then .nd l (zo x) r else bif aa (k % 2) 1 then .nd (T.put n l (k / 2) x) v r else .nd l v (T.put n r (k / 2-1) x)
inductive Blk where
 |box (cs:List PV) (fz:Bool)
 |row (es:List PV) (exact fz:Bool)
 |mp (es:List (PV×PV))
 |lp (st:Nat) (pend:Option Code) (nt:Nat) (t:T PV) (ps:List Nat) (asg body:Code) (d:Nat)
 |df (ds:Option (List DF))
 |dead
structure Hp where
 m:T Blk
 nx:Nat
def Hp.get(h:Hp)(id:Nat):Option Blk:=h.m.get id
def Hp.set(h:Hp)(id:Nat)(b:Blk):Option Hp:=bif af id (id+1)then zo { h with m:=T.put (id+1) h.m id b }else zn
structure Fr where
 t:T PV
 nt:Nat
 ds:List DF
 up:Option UM
 ro:Option Nat
def Hp.new(h:Hp)(id:Nat)(b:Blk):Option Hp:=match h.m.get id with
 |none=>h.set id b
 |some _=>zn
def lget{α:Type}:List α->Nat->Option α
 |[],_=>zn
 |a::l,k=>bif aa k 0 then zo a else lget l (k-1)
def lset{α:Type}:List α->Nat->α->List α
 |[],_,_=>[]
 |a::l,k,x=>bif aa k 0 then x::l else a::lset l (k-1) x
def BU(cs:List PV)(off:Nat)(x:List PV):List PV:=cs.take off++(x++cs.drop (off+x.length))
def PV.cells:PV->List PV
 |.agg cs=>cs
 |.tup _=>[]
 |v=>[v]
def Lg(a:Bool)(cs:List PV):Option PV:=
 bif a then zo (.agg cs)else match cs with
  |[c]=>zo c
  |_=>zn
def Cz:Value->Option PV
 |.bool b=>zo (.bool b)
 |.int k n=>zo (.int k n)
 |.string s=>zo (.str s.data.toList)
 |.pointer zn=>zo .nilp
 |.slice zn 0 0=>zo .nils
 |.map zn=>zo .nilm
 |.nilFunc=>zo .nilf
 |.nilIface=>zo .nili
 |.func (.func f) first cap=>if first.isEmpty&&cap.isEmpty then zo (.fn (.func f) [] [])else zn
 |_=>zn
def cellsOf:List Value->Option (List PV)
 |[]=>zo []
 |v::l=>match Cz v,cellsOf l with
  |some p,zo ps=>zo (p::ps)
  |_,_=>zn
def D9:Value->Option PV
 |.agg cs=>(cellsOf cs.toList).map .agg
 |.tuple vs=>bif vs.isEmpty then zo (.tup [])else zn
 |.iface t v=>match Cz v with
  |some p=>zo (.ifc t p)
  |none=>zn
 |v=>Cz v
section
variable(P:Program)
def AU(t:TypeId):Option Nat:=(P.info? t).map (·.size)
def Kv(t:TypeId):Option Bool:=match P.underlying t with
 |some (.struct _)|some (.array _ _)=>zo zt
 |some _=>zo zf
 |none=>zn
def zeroCells(t:TypeId):Option (List PV):=match P.info? t with
 |some i=>match i.zero with
  |some z=>cellsOf z.cells.toList
  |none=>zn
 |none=>zn
def part(t:TypeId)(cs:List PV):Option PV:=match Kv P t,AU P t with
 |some zt,zo n=>bif ah n cs.length then zo (.agg (cs.take n))else zn
 |some zf,zo _=>match cs with
  |c::_=>zo c
  |[]=>zn
 |_,_=>zn
end
def B1(t:T PV):Operand->Option PV
 |.tmp k=>zo ((t.get k).getD (.tup []))
 |.const v=>D9 v
 |.func f=>zo (.fn (.func f) [] [])
 |.global g=>(Gl.g g).map .view
def MF(t:T PV):List Operand->Option (List PV)
 |[]=>zo []
 |o::l=>match B1 t o,MF t l with
  |some p,zo ps=>zo (p::ps)
  |_,_=>zn
def Ol(c:BinOp)(k:IntKind)(a b:Int):Option PV:=match c with
 |.add=>zo (.int k (k.wrap (a+b)))
 |.sub=>zo (.int k (k.wrap (a-b)))
 |.mul=>zo (.int k (k.wrap (a*b)))
 |.quo=>bif b == 0 then zn else zo (.int k (k.wrap (a.tdiv b)))
 |.rem=>bif b == 0 then zn else zo (.int k (a.tmod b))
 |.eql=>zo (.bool (a == b))
 |.neq=>zo (.bool (a != b))
 |.lss=>zo (.bool (decide (a<b)))
 |.leq=>zo (.bool (decide (a<=b)))
 |.gtr=>zo (.bool (decide (a>b)))
 |.geq=>zo (.bool (decide (a>=b)))
 |.and=>zo (.int k (k.wrap (aF k.bits a &&& aF k.bits b).toNat))
 |.or=>zo (.int k (k.wrap (aF k.bits a ||| aF k.bits b).toNat))
 |.xor=>zo (.int k (k.wrap (aF k.bits a ^^^ aF k.bits b).toNat))
 |_=>zn
def HK(c:BinOp)(k:IntKind)(a b:Int):Option PV:=bif decide (b<0)then zn else match c with
 |.shl=>zo (.int k (k.wrap (a*2 ^ (min b.toNat k.bits))))
 |.shr=>zo (.int k (a.fdiv (2 ^ (min b.toNat k.bits))))
 |_=>zn
def QF(c:BinOp)(a b:List UInt8):Option PV:=match c with
 |.add=>bif ah (a.length+b.length) 1000000000 then zo (.str (a++b))else zn
 |.eql=>zo (.bool (a == b))
 |.neq=>zo (.bool (!(a == b)))
 |.lss=>zo (.bool (Op.bytesLess a b))
 |.leq=>zo (.bool (Op.bytesLess a b||a == b))
 |.gtr=>zo (.bool (!(Op.bytesLess a b||a == b)))
 |.geq=>zo (.bool (!Op.bytesLess a b))
 |_=>zn
def UU:PV->PV->Option Bool
 |.bool a,.bool b=>zo (a == b)
 |.int k a,.int k' b=>bif k == k' then zo (a == b)else zn
 |.str a,.str b=>zo (a == b)
 |_,_=>zn
mutual
def Nq(P:Program):Nat->TypeId->PV->PV->Option Bool
 |0,_,_,_=>zn
 |d+1,t,x,y=>match P.underlying t with
  |some .bool=>match x,y with
   |.bool a,.bool b=>zo (a == b)
   |_,_=>zn
  |some (.int _)=>match x,y with
   |.int k a,.int k' b=>bif k == k' then zo (a == b)else zn
   |_,_=>zn
  |some .string=>match x,y with
   |.str a,.str b=>zo (a == b)
   |_,_=>zn
  |some (.pointer el)=>match x,y with
   |.nilp,.nilp=>zo zt
   |.nilp,.ptr _ _ | .nilp,.view _ | .nilp,.ept _ _ _ | .ptr _ _,.nilp | .view _,.nilp | .ept _ _ _,.nilp=>zo zf
   |.gk a,.gk b=>bif aa a b&&(AU P el).isSome then zo zt else zn
   |.ptr a i,.ptr b j=>bif (aa a b&&aa i j)&&(AU P el).isSome then zo zt else zn
   |_,_=>zn
  |some (.slice _)=>match x,y with
   |.nils,.nils=>zo zt
   |.nils,.lst _ _ | .lst _ _,.nils | .nils,.own _ _ _ | .own _ _ _,.nils=>zo zf
   |_,_=>zn
  |some (.func _ _ _)=>match x,y with
   |.nilf,.nilf=>zo zt
   |.nilf,.fn _ _ _ | .fn _ _ _,.nilf=>zo zf
   |_,_=>zn
  |some (.interface _)=>match x,y with
   |.nili,.nili=>zo zt
   |.nili,.ifc _ _ | .ifc _ _,.nili=>zo zf
   |.ifc t a,.ifc t' b=>bif aa t t' then(match P.info? t with
     |some i=>bif i.comparable then Nq P d t a b else zn
     |none=>zn)else zo zf
   |_,_=>zn
  |some (.struct fs)=>match x,y with
   |.agg a,.agg b=>bif P.stoodInHeld t then zn else I0 P d fs.toList a b
   |_,_=>zn
  |some (.array n e)=>match x,y with
   |.agg a,.agg b=>bif (AU P e).isSome then Kd P d n e a b else zn
   |_,_=>zn
  |_=>zn
def I0(P:Program):Nat->List Field->List PV->List PV->Option Bool
 |0,_,_,_=>zn
 |_+1,[],_,_=>zo zt
 | d + 1, f :: fs, a, b => bif f.name == "_" then I0 P d fs a b else match part P f.type (a.drop f.offset), part P f.type (b.drop f.offset) with
  |some x,zo y=>(match Nq P d f.type x y with
   |some zt=>I0 P d fs a b
   |r=>r)
  |_,_=>zn
def Kd(P:Program):Nat->Nat->TypeId->List PV->List PV->Option Bool
 |0,_,_,_,_=>zn
 |_+1,0,_,_,_=>zo zt
 |d+1,n+1,e,a,b=>match AU P e,part P e a,part P e b with
  |some s,zo x,zo y=>(match Nq P d e x y with
   |some zt=>Kd P d n e (a.drop s) (b.drop s)
   |r=>r)
  |_,_,_=>zn
end
def FD:Nat:=64
def Iz(P:Program)(c:BinOp)(ty:TypeId)(x y:PV):Option PV:=match x,y with
 |.int k a,.int k' b=>match c with
  |.shl | .shr=>HK c k a b
  |_=>bif k == k' then Ol c k a b else zn
 |.str a,.str b=>QF c a b
 |x,y=>match c with
  |.eql=>(Nq P FD ty x y).map .bool
  |.neq=>(Nq P FD ty x y).map λr=>.bool (!r)
  |_=>zn
def TL(a:UnOp):PV->Option PV
 |.bool b=>match a with
  |.not=>zo (.bool (!b))
  |_=>zn
 |.int k n=>match a with
  |.neg=>zo (.int k (k.wrap (0-n)))
  |_=>zn
 |_=>zn
def AB(f:PV->Option (PV×List Nat)):List PV->Option (List PV×List Nat)
 |[]=>zo ([],[])
 |p::ps=>match f p,AB f ps with
  |some (q,a),zo (qs,b)=>zo (q::qs,a++b)
  |_,_=>zn
def AV(h:Hp):Nat->PV->Option (PV×List Nat)
 |0,_=>zn
 |n+1,v=>match v with
  |.agg cs=>(AB (AV h n) cs).map λ(x,l)=>(.agg x,l)
  |.tup cs=>(AB (AV h n) cs).map λ(x,l)=>(.tup x,l)
  |.ifc t x=>(AV h n x).map λ(x,l)=>(.ifc t x,l)
  |.fn f a b=>match AB (AV h n) a,AB (AV h n) b with
   |some (a,l),zo (b,m)=>zo (.fn f a b,l++m)
   |_,_=>zn
  |.own id off len=>match h.get id with
   |some (.row es _ _)=>bif ah (off+len) es.length then(AB (AV h n) ((es.drop off).take len)).map λ(x,l)=>(.lst zf x,id::l)else zn
   |_=>zn
  |.ptr id off=>match h.get id with
   |some (.box cs _)=>bif af off cs.length then(AB (AV h n) (cs.drop off)).map λ(x,l)=>(.view x,id::l)else zn
   |_=>zn
  |.ept id i off=>match h.get id with
   |some (.row es _ _)=>match lget es i with
    |some e=>bif af off e.cells.length then(AB (AV h n) (e.cells.drop off)).map λ(x,l)=>(.view x,id::l)else zn
    |none=>zn
   |_=>zn
  |.yl _ | .mp _=>zn
  |v=>zo (v,[])
def AS:Nat:=12
def Ao(h:Hp):List PV->Option (List PV×List Nat)
 |[]=>zo ([],[])
 |p::ps=>match AV h AS p,Ao h ps with
  |some (q,a),zo (qs,b)=>zo (q::qs,a++b)
  |_,_=>zn
def freeze(h:Hp):List Nat->Option Hp
 |[]=>zo h
 |id::l=>match h.get id with
  |some (.box cs _)=>match h.set id (.box cs zt)with
   |some h=>freeze h l
   |none=>zn
  |some (.row es ex _)=>match h.set id (.row es ex zt)with
   |some h=>freeze h l
   |none=>zn
  |_=>zn
mutual
def flat:PV->Bool
 |.agg cs=>BP cs
 |.tup cs=>BP cs
 |.ifc _ v=>flat v
 |.lst _ es=>es.isEmpty
 |.view _ | .fn _ _ _ | .own _ _ _ | .ptr _ _ | .ept _ _ _ | .yl _ | .mp _ | .gk _=>zf
 |_=>zt
def BP:List PV->Bool
 |[]=>zt
 |p::ps=>flat p&&BP ps
end
inductive R where
 |val (v:PV) (h:Hp)
 |skip (h:Hp)
 |call (f:FuncId) (args:List PV)
 |yield (id:Nat) (args:List PV)
 |pan (v:PV)
 |rcv
 |dfr (d:DF)
def Fc(cs:List PV):List (Nat×Nat×List PV)->Option (List PV)
 |[]=>zo cs
 |(off,n,x)::r=>bif aa x.length n&&ah (off+n) cs.length then Fc (BU cs off x) r else zn
def Fb(a:Nat)(es:List PV):List (Nat×PV)->Option (List PV)
 |[]=>zo es
 |(i,v)::r=>bif aa v.cells.length a&&af i es.length then Fb a (lset es i v) r else zn
def CA(t:T PV):List (Nat×Operand)->Option (List (Nat×PV))
 |[]=>zo []
 |(i,o)::l=>match B1 t o,CA t l with
  |some p,zo ps=>zo ((i,p)::ps)
  |_,_=>zn
def EC(P:Program)(a:Array Field):List (Nat×PV)->Option (List (Nat×Nat×List PV))
 |[]=>zo []
 |(i,p)::l=>match a[i]?,EC P a l with
  |some f,zo r=>(match AU P f.type with
   |some n=>bif af 0 n then zo ((f.offset,n,p.cells)::r)else zn
   |none=>zn)
  |_,_=>zn
def FP(a:Nat):List (Nat×PV)->List (Nat×Nat×List PV)
 |[]=>[]
 |(i,p)::l=>(i*a,a,p.cells)::FP a l
def FY:PV->Option Nat
 |.int _ n=>bif decide (0<=n)then zo n.toNat else zn
 |_=>zn
def E8:PV->Option Nat
 |.int .i64 n=>bif decide (0<=n)then zo n.toNat else zn
 |_=>zn
def BX(h:Hp):PV->Option (List PV)
 |.nils=>zo []
 |.lst _ es=>zo es
 |.own id off len=>match h.get id with
  |some (.row es _ _)=>bif ah (off+len) es.length then zo ((es.drop off).take len)else zn
  |_=>zn
 |_=>zn
def KM:TypeDesc->PV->PV->Option Bool
 |.bool,.bool a,.bool b=>zo (a == b)
 |.int _,.int k a,.int k' b=>bif k == k' then zo (a == b)else zn
 |.string,.str a,.str b=>zo (a == b)
 |_,_,_=>zn
def Hg(d:TypeDesc):List (PV×PV)->PV->Option (Option PV)
 |[],_=>zo zn
 |(k,v)::l,x=>match KM d x k with
  |some zt=>zo (zo v)
  |some zf=>Hg d l x
  |none=>zn
def If(d:TypeDesc):List (PV×PV)->PV->PV->Option (List (PV×PV))
 |[],x,y=>zo [(x,y)]
 |(k,v)::l,x,y=>match KM d x k with
  |some zt=>zo ((x,y)::l)
  |some zf=>match If d l x y with
   |some l=>zo ((k,v)::l)
   |none=>zn
  |none=>zn
def Ie(d:TypeDesc):List (PV×PV)->PV->Option (List (PV×PV))
 |[],_=>zo []
 |(k,v)::l,x=>match KM d x k with
  |some zt=>zo l
  |some zf=>match Ie d l x with
   |some l=>zo ((k,v)::l)
   |none=>zn
  |none=>zn
def Cm:TypeDesc->Bool
 |.int _ | .string | .bool=>zt
 |_=>zf
def vl(o:Option PV)(h:Hp):Option R:=o.map (R.val · h)
def Ba:Nat:=1048576
def Ce(n:Nat):List PV->Bool
 |[]=>zt
 |e::_=>aa e.cells.length n
def Ef(P:Program)(h:Hp)(id:Nat)(a:TypeId)(s x:PV):Option R:=
 match P.underlying a with
 |some (.slice e)=>match AU P e,P.info? e,BX h x,zeroCells P e with
  |some sz,zo ti,zo new,zo z=>
   bif !(new.all λv=>aa v.cells.length sz) || !ah ti.bytes Ba || !aa z.length sz || !af 0 sz then zn else
   match s with
   |.nils=>bif new.isEmpty then zo (.val .nils h)else bif ah new.length Ba then(h.new id (.row new zf zf)).map λh=>.val (.own id 0 new.length) h else zn
   |.lst zt es=>bif new.isEmpty then zo (.val (.lst zt es) h)else bif ah (es.length+new.length) Ba&&Ce sz es then(h.new id (.row (es++new) zf zf)).map λh=>.val (.own id 0 (es.length+new.length)) h else zn
   |.own j off len=>match h.get j with
    |some (.row es ex fz)=>
     bif !ah (len+new.length) Ba || !ah (off+len) es.length || !Ce sz es then zn else
     bif ex then
      bif new.isEmpty then zo (.val (.own j off len) h)else bif ah (off+len+new.length) es.length then
       (bif fz then zn else(h.set j (.row (BU es (off+len) new) zt zf)).map λh=>.val (.own j off (len+new.length)) h)
      else(h.new id (.row ((es.drop off).take len++new) zf zf)).map λh=>.val (.own id 0 (len+new.length)) h
     else bif aa len es.length&&aa off 0&&af 0 len then
      match h.set j .dead with
      |some h=>(h.new id (.row (es++new) zf fz)).map λh=>.val (.own id 0 (len+new.length)) h
      |none=>zn
     else zn
    |_=>zn
   |_=>zn
  |_,_,_,_=>zn
 |_=>zn
def B8(f:Int->Int->Int):Int->List PV->IntKind->Option Int
 |m,[],_=>zo m
 |m,.int k y::l,k'=>bif k == k' then B8 f (f m y) l k' else zn
 |_,_,_=>zn
def AH(P:Program)(h:Hp)(id:Nat)(b:Builtin)(c:Array TypeId)(args:List PV):Option R:=
 match b with
 |.len=>match args,c[0]? with
  |[x],zo t=>match P.underlying t,x with
   |some (.map _ _),.mp j=>(match h.get j with
    |some (.mp es)=>zo (.val (.int .i64 es.length) h)
    |_=>zn)
   |some (.map _ _),.nilm=>zo (.val (.int .i64 0) h)
   |some (.array n _),_=>zo (.val (.int .i64 n) h)
   |some (.slice _),.nils=>zo (.val (.int .i64 0) h)
   |some (.slice _),.lst _ es=>zo (.val (.int .i64 es.length) h)
   |some (.slice _),.own _ _ len=>zo (.val (.int .i64 len) h)
   |some .string,.str l=>zo (.val (.int .i64 l.length) h)
   |_,_=>zn
  |_,_=>zn
 |.cap=>match args,c[0]? with
  |[x],zo t=>match P.underlying t,x with
   |some (.slice _),.own j off _=>(match h.get j with
    |some (.row es zt _)=>zo (.val (.int .i64 (es.length-off:Nat)) h)
    |_=>zn)
   |some (.slice _),.nils=>zo (.val (.int .i64 0) h)
   |_,_=>zn
  |_,_=>zn
 |.append=>match args,c.toList with
  |[s,x],[t,t']=>bif aa t t' then Ef P h id t s x else zn
  |_,_=>zn
 |.copy=>match args,c[0]? with
  |[.own j off len,x],zo t=>match P.underlying t,h.get j,BX h x with
   |some (.slice e),zo (.row es ex zf),zo new=>match AU P e with
    |some f=>bif !(new.all λv=>aa v.cells.length f) || !ah (off+len) es.length || !af 0 f || !Ce f es then zn else
     (h.set j (.row (BU es off (new.take len)) ex zf)).map λh=>.val (.int .i64 (Nat.min new.length len:Nat)) h
    |none=>zn
   |_,_,_=>zn
  |_,_=>zn
 |.clear=>match args,c[0]? with
  |[.mp j],zo t=>match P.underlying t,h.get j with
   |some (.map _ _),zo (.mp _)=>(h.set j (.mp [])).map λh=>.val (.tup []) h
   |_,_=>zn
  |_,_=>zn
 |.delete=>match args,c[0]? with
  |[.mp j,k],zo t=>match P.underlying t,h.get j with
   |some (.map kt _),zo (.mp es)=>match P.underlying kt with
    |some d=>bif !Cm d then zn else match Ie d es k with
     |some es=>(h.set j (.mp es)).map λh=>.val (.tup []) h
     |none=>zn
    |none=>zn
   |_,_=>zn
  |_,_=>zn
 |.max=>match args with
  |.int k a::r=>(B8 (λm y=>if y>m then y else m) a r k).map λm=>.val (.int k m) h
  |[.str a,.str b]=>zo (.val (.str (bif !Op.bytesLess a b then a else b)) h)
  |_=>zn
 |.min=>match args with
  |.int k a::r=>(B8 (λm y=>if y<m then y else m) a r k).map λm=>.val (.int k m) h
  |[.str a,.str b]=>zo (.val (.str (bif Op.bytesLess a b||a == b then a else b)) h)
  |_=>zn
 |.panic=>match args with
  |[.ifc t v]=>zo (.pan (.ifc t v))
  |_=>zn
 |.recover=>zo .rcv
 |_=>zn
def CB(P:Program)(f:Fn)(first cap args:List PV):Option R:=match f with
 |.func g=>match P.funcs[g]? with
  | some fn => bif fn.body.isSome && !(fn.name == "runtime.NumGoroutine") then some (.call g (first ++ args ++ cap)) else none
  |none=>zn
 |.method name=>match first++args with
  |.ifc t v::rest=>match P.info? t with
   |some i=>match i.methods.find? (·.name == name)with
    |some m=>match m.path.isEmpty,m.func,P.underlying t with
     | true, some (g, true), some (.pointer _) => bif (match P.funcs[g]? with | some fn => fn.body.isSome && !(fn.name == "runtime.NumGoroutine") | none => false) then some (.call g (v :: rest)) else none
     |true,zo (_,zf),zo (.pointer _)=>zn
     | true, some (g, false), some _ => bif (match P.funcs[g]? with | some fn => fn.body.isSome && !(fn.name == "runtime.NumGoroutine") | none => false) then some (.call g (v :: rest)) else none
     |_,_,_=>zn
    |none=>zn
   |none=>zn
  |_=>zn
 |_=>zn
def Mb(t:T PV):Option Operand->Option (Option PV)
 |none=>zo zn
 |some o=>(B1 t o).map zo
def CU(d:Nat):Option PV->Option Nat
 |none=>zo d
 |some p=>FY p
def Dk(h:Hp)(c a b:PV):Option R:=match c with
 |.bool zt=>zo (.val a h)
 |.bool zf=>zo (.val b h)
 |_=>zn
def Cj(P:Program)(h:Hp)(id:Nat)(e:TypeId):Option R:=match zeroCells P e with
 |some cs=>(h.new id (.box cs zf)).map λh=>.val (.ptr id 0) h
 |none=>zn
def Fa(h:Hp)(id:Nat)(v:PV):Option R:=match v with
 |.tup _=>zn
 |v=>(h.new id (.box v.cells zf)).map λh=>.val (.ptr id 0) h
def Bv(P:Program)(h:Hp)(ty:TypeId)(a:List (Nat×PV)):Option R:=
 match zeroCells P ty,P.underlying ty with
 |some z,zo (.struct fs)=>bif fs.toList.all λf=>(AU P f.type).isSome then
   (match EC P fs a with
   |some pl=>(Fc z pl).map λcs=>.val (.agg cs) h
   |none=>zn)else zn
 |some z,zo (.array _ e)=>match AU P e with
  |some n=>bif af 0 n then(Fc z (FP n a)).map λcs=>.val (.agg cs) h else zn
  |none=>zn
 |_,_=>zn
def Ah(P:Program)(h:Hp)(ty:TypeId)(len:Nat)(a:List (Nat×PV)):Option R:=
 match P.underlying ty with
 |some (.slice e)=>match AU P e,Kv P e,zeroCells P e with
  |some n,zo ag,zo z=>match Lg ag z with
   |some b=>bif !af 0 n || !ah (len*n) 16777216 || !aa z.length n then zn else
    (match Fb n (aY len b) a with
    |some es=>match Ao h es with
     |some (es,l)=>(freeze h l).map λh=>.val (.lst zt es) h
     |none=>zn
    |none=>zn)
   |none=>zn
  |_,_,_=>zn
 |_=>zn
def CD(P:Program)(h:Hp)(ty:TypeId)(p:PV):Option R:=match p with
 |.ptr j off=>match h.get j with
  |some (.box cs _)=>vl (part P ty (cs.drop off)) h
  |_=>zn
 |.view cs=>vl (part P ty cs) h
 |.ept j i off=>match h.get j with
  |some (.row es _ _)=>match lget es i with
   |some e=>vl (part P ty (e.cells.drop off)) h
   |none=>zn
  |_=>zn
 |_=>zn
def A2(P:Program)(h:Hp)(ty:TypeId)(p v:PV):Option R:=match AU P ty with
 |some n=>bif !af 0 n || !aa v.cells.length n then zn else match p with
  |.ptr j off=>match h.get j with
   |some (.box cs zf)=>bif ah (off+n) cs.length then(h.set j (.box (BU cs off v.cells) zf)).map .skip else zn
   |_=>zn
  |.ept j i off=>match h.get j with
   |some (.row es ex zf)=>match lget es i with
    |some e=>bif ah (off+n) e.cells.length then
      (match e with
      |.agg cs=>(h.set j (.row (lset es i (.agg (BU cs off v.cells))) ex zf)).map .skip
      |_=>(match v.cells with
       |[c]=>bif aa off 0&&aa e.cells.length 1 then(match c with
        |.agg _=>zn
        |.tup _=>zn
        |c=>(h.set j (.row (lset es i c) ex zf)).map .skip)else zn
       |_=>zn))else zn
    |none=>zn
   |_=>zn
  |_=>zn
 |none=>zn
def Er(h:Hp)(p:PV):Option R:=match p with
 |.ptr a b=>zo (.val (.ptr a b) h)
 |.ept a b c=>zo (.val (.ept a b c) h)
 |.view cs=>zo (.val (.view cs) h)
 |.ifc ty v=>zo (.val (.ifc ty v) h)
 |.yl i=>zo (.val (.yl i) h)
 |.fn (.func f) a b=>zo (.val (.fn (.func f) a b) h)
 |_=>zn
def CS:Operand->Bool
 |.const _=>zt
 |_=>zf
def Dd(P:Program)(h:Hp)(c:BinOp)(ty:TypeId)(x y:Operand)(a b:PV):Option R:=match a,b with
 |.nili,.nili=>bif CS x||CS y then vl (Iz P c ty .nili .nili) h else zn
 |.agg cs,.agg ds=>bif P.eqGuardType P.depth ty then zn else vl (Iz P c ty (.agg cs) (.agg ds)) h
 |a,b=>vl (Iz P c ty a b) h
def SL:List PV->Option (List UInt8)
 |[]=>zo []
 |.int .u8 n::l=>(SL l).map (bq n.toNat::·)
 |_=>zn
def BJ(P:Program)(h:Hp)(b a:TypeId)(x:PV):Option R:=match x,P.underlying b,P.underlying a with
 |.int _ n,zo _,zo (.int k)=>zo (.val (.int k (k.wrap n)) h)
 |.str l,zo .string,zo .string=>zo (.val (.str l) h)
 |.lst _ es,zo (.slice e),zo .string=>match P.underlying e,SL es with
  |some (.int .u8),zo bs=>zo (.val (.str bs) h)
  |_,_=>zn
 |_,_,_=>zn
def Ea(P:Program)(h:Hp)(ty:TypeId)(v:PV):Option R:=match P.underlying ty with
 |some (.interface _)=>zn
 |some _=>zo (.val (.ifc ty v) h)
 |none=>zn
def C0(P:Program)(h:Hp)(id:Nat)(ty:TypeId)(l c:PV):Option R:=match P.underlying ty,E8 l,E8 c with
 |some (.slice e),zo l,zo c=>match AU P e,Kv P e,zeroCells P e,P.info? e with
  |some n,zo ag,zo z,zo ti=>match Lg ag z with
   |some a=>bif ah l c&&ah c Ba&&ah ti.bytes Ba&&af 0 n&&aa z.length n then
     (h.new id (.row (aY c a) zt zf)).map λh=>.val (.own id 0 l) h else zn
   |none=>zn
  |_,_,_,_=>zn
 |_,_,_=>zn
def DZ(h:Hp)(j off len:Nat):Option R:=match AV h AS (.own j off len)with
 |some (.lst _ xs,ids)=>(freeze h ids).map λh=>.val (.lst zt xs) h
 |_=>zn
def IU:PV->Bool
 |.agg _=>zf
 |.tup _=>zf
 |_=>zt
def DE(P:Program)(h:Hp)(arr:TypeId)(x:PV):Option R:=match P.underlying arr with
 |some (.array n e)=>match AU P e,AV h AS x with
  |some s,zo (.view cs,ids)=>bif aa s 1&&(af 0 n&&(ah n cs.length&&(cs.take n).all IU))then(freeze h ids).map λh=>.val (.lst zt (cs.take n)) h else zn
  |_,_=>zn
 |_=>zn
def Af(P:Program)(h:Hp)(ty:TypeId)(x:PV)(lo hi mx:Option PV):Option R:=match P.underlying ty,x with
 |some .string,.str s=>match mx,CU s.length hi,CU 0 lo with
  |none,zo hh,zo l=>bif ah hh s.length&&ah l hh then zo (.val (.str ((s.drop l).take (hh-l))) h)else zn
  |_,_,_=>zn
 |some (.slice e),x=>match AU P e with
  |none=>zn
  |some n=>match x with
   |.nils=>match CU 0 lo,CU 0 hi,CU 0 mx with
    |some 0,zo 0,zo 0=>bif mx.isSome && !hi.isSome then zn else zo (.val .nils h)
    |_,_,_=>zn
   |.lst full es=>bif !Ce n es then zn else match CU 0 lo,CU es.length hi with
    |some l,zo hh=>(match mx with
     |none=>bif ah hh es.length&&ah l hh then zo (.val (.lst (full&&aa hh es.length) ((es.drop l).take (hh-l))) h)else zn
     |some m=>match FY m with
      |some m=>bif ah m es.length&&ah hh m&&ah l hh&&hi.isSome then zo (.val (.lst (aa hh m) ((es.drop l).take (hh-l))) h)else zn
      |none=>zn)
    |_,_=>zn
   |.own j off len=>match h.get j with
    |some (.row es ex _)=>bif !Ce n es then zn else match CU 0 lo,CU len hi with
     |some l,zo hh=>bif !ah l hh || !ah (off+hh) es.length then zn else
      (match mx with
      |none=>bif af (off+l) es.length then zo (.val (.own j (off+l) (hh-l)) h)else zo (.val (.lst zf []) h)
      |some m=>match FY m with
       |some m=>bif hi.isSome&&ah hh m&&ex&&aa (off+m) es.length then
         (bif af (off+l) es.length then zo (.val (.own j (off+l) (hh-l)) h)else zo (.val (.lst zt []) h))
        else bif hi.isSome&&aa m hh then DZ h j (off+l) (hh-l)else zn
       |none=>zn)
     |_,_=>zn
    |_=>zn
   |_=>zn
 |some (.array _ _),x=>match lo,hi,mx with
  |none,zn,zn=>DE P h ty x
  |_,_,_=>zn
 |_,_=>zn
def Av(P:Program)(h:Hp)(b:TypeId)(x:PV)(f:Nat):Option R:=match P.underlying b with
 |some (.struct fs)=>match fs[f]? with
  |some a=>match AU P a.type with
   |some n=>bif aa n 0 then zn else(match x with
    |.ptr j off=>zo (.val (.ptr j (off+a.offset)) h)
    |.ept j i off=>zo (.val (.ept j i (off+a.offset)) h)
    |.view cs=>zo (.val (.view (cs.drop a.offset)) h)
    |_=>zn)
   |none=>zn
  |none=>zn
 |_=>zn
def B6(P:Program)(h:Hp)(ty:TypeId)(x:PV)(f:Nat):Option R:=match P.underlying ty,x with
 |some (.struct fs),.agg cs=>match fs[f]? with
  |some a=>vl (part P a.type (cs.drop a.offset)) h
  |none=>zn
 |_,_=>zn
def Ap(P:Program)(h:Hp)(ty:TypeId)(x i:PV):Option R:=match P.underlying ty,FY i with
 |some (.slice e),zo k=>match AU P e with
  |some n=>match x with
   |.lst _ es=>(match lget es k with
    |some a=>bif aa a.cells.length n then zo (.val (.view a.cells) h)else zn
    |none=>zn)
   |.own j off len=>bif af k len then(match h.get j with
    |some (.row es _ _)=>(match lget es (off+k)with
     |some a=>bif aa a.cells.length n then zo (.val (.ept j (off+k) 0) h)else zn
     |none=>zn)
    |_=>zn)else zn
   |_=>zn
  |none=>zn
 |some (.array len e),zo k=>match AU P e with
  |some n=>bif af k len then(match x with
   |.ptr j off=>zo (.val (.ptr j (off+k*n)) h)
   |.ept j i off=>zo (.val (.ept j i (off+k*n)) h)
   |.view cs=>zo (.val (.view (cs.drop (k*n))) h)
   |_=>zn)else zn
  |none=>zn
 |_,_=>zn
def Bw(P:Program)(h:Hp)(ty:TypeId)(x i:PV):Option R:=match P.underlying ty,x,FY i with
 |some (.array len e),.agg cs,zo k=>bif af k len then(match AU P e with
  |some n=>vl (part P e (cs.drop (k*n))) h
  |none=>zn)else zn
 |some .string,.str l,zo k=>match lget l k with
  |some b=>zo (.val (.int .u8 b.toNat) h)
  |none=>zn
 |_,_,_=>zn
def Bt(P:Program)(e:TypeId):Option PV:=match P.info? e with
 |some i=>match i.zero with
  |some z=>D9 z
  |none=>zn
 |none=>zn
def Lc(h:Hp):PV->Option (List (PV×PV))
 |.nilm=>zo []
 |.mp j=>match h.get j with
  |some (.mp es)=>zo es
  |_=>zn
 |_=>zn
def DK(P:Program)(h:Hp)(ty:TypeId)(m k:PV)(a:Bool):Option R:=match P.underlying ty,Lc h m with
 |some (.map kt e),zo es=>match P.underlying kt with
  |some d=>bif !Cm d then zn else match Hg d es k with
   |some r=>match (match r with
     |some v=>zo v
     |none=>Bt P e)with
    |some v=>zo (.val (bif a then .tup [v,.bool r.isSome]else v) h)
    |none=>zn
   |none=>zn
  |none=>zn
 |_,_=>zn
def CG(P:Program)(h:Hp)(ty:TypeId)(m k v:PV):Option R:=match P.underlying ty,m with
 |some (.map kt _),.mp j=>match P.underlying kt with
  |some d=>bif !Cm d then zn else match h.get j with
   |some (.mp es)=>match If d es k v with
    |some es=>(h.set j (.mp es)).map .skip
    |none=>zn
   |_=>zn
  |none=>zn
 |_,_=>zn
def Dr(a:Bool)(v:PV):PV:=bif a then .tup [v,.bool zt]else v
def BK(P:Program)(h:Hp)(ty:TypeId)(v:PV)(b:Bool):Option R:=match P.underlying ty with
 |some (.interface want)=>match v with
  |.ifc u a=>match P.info? u with
   |some i=>match Instr.missingMethod want i.methods with
    |none=>zo (.val (Dr b (.ifc u a)) h)
    |some _=>bif b then(match Bt P ty with
     |some z=>zo (.val (.tup [z,.bool zf]) h)
     |none=>zn)else zn
   |none=>zn
  |.nili=>bif b then(match Bt P ty with
   |some z=>zo (.val (.tup [z,.bool zf]) h)
   |none=>zn)else zn
  |_=>zn
 |some _=>match v with
  |.ifc u a=>bif aa u ty then zo (.val (Dr b a) h)else bif b then(match Bt P ty with
   |some z=>zo (.val (.tup [z,.bool zf]) h)
   |none=>zn)else zn
  |.nili=>bif b then(match Bt P ty with
   |some z=>zo (.val (.tup [z,.bool zf]) h)
   |none=>zn)else zn
  |_=>zn
 |none=>zn
def Be(h:Hp)(x:PV)(i:Nat):Option R:=match x with
 |.tup vs=>vl (lget vs i) h
 |_=>zn
def J0(x:PV):Option R:=match x with
 |.ifc ty v=>zo (.pan (.ifc ty v))
 |_=>zn
def Hu(P:Program)(f:PV)(args:List PV):Option R:=match f with
 |.fn f a b=>CB P f a b args
 |.yl l=>zo (.yield l args)
 |_=>zn
def BF(h:Hp)(f:Fn)(a b:List PV):Option R:=match f with
 |.yield _=>zn
 |f=>zo (.val (.fn f a b) h)
def e1(t:T PV)(x:Operand)(k:PV->Option R):Option R:=match B1 t x with
 |some a=>k a
 |none=>zn
def e2(t:T PV)(x y:Operand)(k:PV->PV->Option R):Option R:=match B1 t x,B1 t y with
 |some a,zo b=>k a b
 |_,_=>zn
def e3(t:T PV)(x y z:Operand)(k:PV->PV->PV->Option R):Option R:=match B1 t x,B1 t y,B1 t z with
 |some a,zo b,zo c=>k a b c
 |_,_,_=>zn
def AQ(P:Program)(t:T PV)(h:Hp)(id:Nat)(o:Oper):Option R:=
 match o.op with
 |.move x=>vl (B1 t x) h
 |.assign x=>vl (B1 t x) h
 |.pick c a b=>e3 t c a b (Dk h)
 |.alloc e=>Cj P h id e
 |.box _ x=>e1 t x (Fa h id)
 |.build ty d=>match CA t d.toList with
  |some u=>Bv P h ty u
  |none=>zn
 |.buildSlice ty len d=>match CA t d.toList with
  |some u=>Ah P h ty len u
  |none=>zn
 |.load ty a=>e1 t a (CD P h ty)
 |.store ty a x=>e2 t a x (A2 P h ty)
 |.nilCheck x=>e1 t x (Er h)
 |.binOp op ty x y _=>e2 t x y (Dd P h op ty x y)
 |.unOp op _ x=>e1 t x λa=>vl (TL op a) h
 |.convert w p x=>e1 t x (BJ P h w p)
 |.makeInterface ty x=>e1 t x (Ea P h ty)
 |.makeFunc f first cap=>match MF t first.toList,MF t cap.toList with
  |some a,zo b=>BF h f a b
  |_,_=>zn
 |.makeMap _ zn=>(h.new id (.mp [])).map λh=>.val (.mp id) h
 |.makeSlice ty l c=>e2 t l c (C0 P h id ty)
 |.slice ty x lo hi mx=>match Mb t lo,Mb t hi,Mb t mx with
  |some lo,zo hi,zo mx=>e1 t x λx=>Af P h ty x lo hi mx
  |_,_,_=>zn
 |.fieldAddr s x f=>e1 t x λx=>Av P h s x f
 |.field ty x f=>e1 t x λx=>B6 P h ty x f
 |.indexAddr ty x i=>e2 t x i (Ap P h ty)
 |.index ty x i=>e2 t x i (Bw P h ty)
 |.lookup ty x k q=>e2 t x k λm k=>DK P h ty m k q
 |.mapUpdate ty x k v=>e3 t x k v (CG P h ty)
 |.insert ty x k v=>e3 t x k v (CG P h ty)
 |.typeAssert x _ ty q=>e1 t x λv=>BK P h ty v q
 |.extract x i=>e1 t x λx=>Be h x i
 |.panic x=>e1 t x J0
 |.call c=>match MF t c.args.toList with
  |some args=>match c.callee with
   |.builtin b=>AH P h id b c.argTypes args
   |.value f=>e1 t f λf=>Hu P f args
   |.invoke n j=>e1 t n λr=>CB P (.method j) [r] [] args
  |none=>zn
 |.defer c=>match MF t c.args.toList with
  |some args=>match c.callee with
   |.builtin b=>zo (.dfr (.bi b c.argTypes o.type args))
   |.value f=>e1 t f λf=>match f with
    |.fn (.func g) a b=>zo (.dfr (.call (.fn (.func g) a b) args))
    |_=>zn
   |.invoke _ _=>zn
  |none=>zn
 |_=>zn
inductive Out where
 |ret (v:PV)
 |pan (ch:List PE)
inductive Tg where
 |fn (f:FuncId)
 |yl (id:Nat)
def Fr.put(fr:Fr)(a:Option Nat)(v:PV):Option Fr:=match a with
 |none=>zo fr
 |some d=>bif af d fr.nt then zo { fr with t:=T.put 20 fr.t d v }else zn
abbrev GE:=Tg->Option UM->List PV->Hp->Option (Out×Option UM×Hp)
def A6(ops:List Oper)(t:T PV):Option (Nat×Bool)->Bool
 |none=>zt
 |some (j,want)=>match lget ops j with
  |some o=>match o.dst with
   |some d=>match t.get d with
    |some (.bool b)=>b == want
    |_=>zf
   |none=>zf
  |none=>zf
def Ag(id:Nat)(l:List Nat)(h h':Hp)(r:PV):Option (PV×Hp):=
 match (match r with
  |.own j 0 len=>(match h'.get j with
   |some (.row es ex zf)=>(match Ao h' es with
    |some (qs,l2)=>bif l2.any (aa j)then zn else zo (len,qs,ex)
    |none=>zn)
   |_=>zn)
  |_=>zn)with
 |some (len,qs,ex)=>match (bif BP qs then zo h else freeze h l)with
  |some h=>(h.new id (.row qs ex zf)).map λh=>(.own id 0 len,h)
  |none=>zn
 |none=>match AV h' AS r with
  |some (q,_)=>bif flat q then zo (q,h)else(freeze h l).map λh=>(q,h)
  |none=>zn
def A8(sh:FuncId->Bool)(rec:GE)(id:Nat)(f:FuncId)(args:List PV)(h:Hp):Option (Out×Hp):=
 bif sh f then match rec (.fn f) zn args h with
  |some (o,_,h)=>zo (o,h)
  |none=>zn
 else match Ao h args with
  |some (as,l)=>match rec (.fn f) zn as { m:=.lf,nx:=0 }with
   |some (.ret r,_,h')=>(Ag id l h h' r).map λ(q,h)=>(.ret q,h)
   |some (.pan [{ v:=e,recovered:=rc }],_,h')=>match AV h' AS e with
    |some (e,_)=>bif flat e then zo (.pan [{ v:=e,recovered:=rc }],h)else zn
    |none=>zn
   |_=>zn
  |none=>zn
def AZ(P:Program)(sh:FuncId->Bool)(rec:GE)(base:Nat)(ops:List Oper):List (Nat×Oper)->Fr->Hp->Option (Ex×Fr×Hp)
 |[],fr,h=>zo (.normal,fr,h)
 |(i,o)::r,fr,h=>
  bif A6 ops fr.t o.guard then
   match AQ P fr.t h (base+i) o with
   |some (.val v h)=>match fr.put o.dst v with
    |some fr=>AZ P sh rec base ops r fr h
    |none=>zn
   |some (.skip h)=>match fr.put o.dst (.tup [])with
    |some fr=>AZ P sh rec base ops r fr h
    |none=>zn
   |some (.dfr d)=>match fr.ro with
    |none=>(match ({ fr with ds:=d::fr.ds }:Fr).put o.dst (.tup [])with
     |some fr=>AZ P sh rec base ops r fr h
     |none=>zn)
    |some _=>zn
   |some (.call f args)=>match A8 sh rec (base+i) f args h with
    |some (.ret v,h)=>(match fr.put o.dst v with
     |some fr=>AZ P sh rec base ops r fr h
     |none=>zn)
    |some (.pan [{ v:=e,recovered:=zf }],h)=>zo (.panic e,fr,h)
    |_=>zn
   |some (.yield l args)=>match rec (.yl l) zn args h with
    |some (.ret v,_,h)=>(match fr.put o.dst v with
     |some fr=>AZ P sh rec base ops r fr h
     |none=>zn)
    |_=>zn
   |some (.pan v)=>zo (.panic v,fr,h)
   |some .rcv=>match fr.ro with
    |some _=>zn
    |none=>match fr.up with
     |some (.pan ({ v,recovered:=zf }::older))=>(match ({ fr with up:=zo (.pan ({ v,recovered:=zt }::older)) }:Fr).put o.dst v with
      |some fr=>AZ P sh rec base ops r fr h
      |none=>zn)
     |_=>(match fr.put o.dst .nili with
      |some fr=>AZ P sh rec base ops r fr h
      |none=>zn)
   |none=>zn
  else match fr.put o.dst (.tup [])with
   |some fr=>AZ P sh rec base ops r fr h
   |none=>zn
def HB{α:Type}:Nat->List α->List (Nat×α)
 |_,[]=>[]
 |n,a::l=>(n,a)::HB (n+1) l
def AE:PV->List Nat
 |.own id _ _=>[id]
 |.ptr id _=>[id]
 |.ept id _ _=>[id]
 |.mp id=>[id]
 |_=>[]
def A3(t:T PV):List Operand->List Nat
 |[]=>[]
 |o::l=>match B1 t o with
  |some p=>AE p++A3 t l
  |none=>A3 t l
def CM(t:T PV)(h:Hp):List Operand->List Nat
 |[]=>[]
 |o::l=>match B1 t o with
  |some p=>match AV h AS p with
   |some (_,m)=>m++CM t h l
   |none=>CM t h l
  |none=>CM t h l
def Hh(h:Hp):List Nat->T Blk->T Blk
 |[],m=>m
 |id::l,m=>match h.get id with
  |some b=>bif af id (id+1)then Hh h l (T.put (id+1) m id b)else Hh h l m
  |none=>Hh h l m
def Hp.cut(h:Hp)(l:List Nat):Hp:={ m:=Hh h l .lf,nx:=h.nx }
def over(h':Hp):List Nat->Hp->Option Hp
 |[],h=>zo h
 |id::l,h=>match h'.get id with
  |some b=>match h.set id b with
   |some h=>over h' l h
   |none=>zn
  |none=>over h' l h
def Aw:Op->List Operand
 |.move x | .assign x | .box _ x | .load _ x | .nilCheck x | .unOp _ _ x | .convert _ _ x | .makeInterface _ x | .fieldAddr _ x _ | .field _ x _ | .typeAssert x _ _ _ | .extract x _ | .panic x=>[x]
 |.pick c a b=>[c,a,b]
 |.build _ parts | .buildSlice _ _ parts=>parts.toList.map (·.2)
 |.store _ a x=>[a,x]
 |.binOp _ _ x y _=>[x,y]
 |.makeFunc _ a b=>a.toList++b.toList
 |.makeSlice _ l c=>[l,c]
 |.slice _ x lo hi mx=>x::(lo.toList++(hi.toList++mx.toList))
 |.indexAddr _ x i | .index _ x i=>[x,i]
 |.lookup _ x k _=>[x,k]
 |.mapUpdate _ x k v | .insert _ x k v=>[x,k,v]
 |.call c=>match c.callee with
  |.builtin _=>c.args.toList
  |.value f=>f::c.args.toList
  |.invoke r _=>r::c.args.toList
 |_=>[]
def Fe:PV->List Nat
 |.mp id=>[id]
 |_=>[]
def DL(t:T PV):List Operand->List Nat
 |[]=>[]
 |o::l=>match B1 t o with
  |some p=>Fe p++DL t l
  |none=>DL t l
def Au(t:T PV)(h:Hp)(o:Op):List Nat:=match o with
 |.buildSlice _ _ _=>CM t h (Aw o)
 |.slice _ x lo hi mx=>bif mx.isSome||(lo.isNone&&hi.isNone)then CM t h [x]else A3 t [x]
 |.load _ _ | .indexAddr _ _ _ | .lookup _ _ _ _ | .store _ _ _ | .mapUpdate _ _ _ _ | .insert _ _ _ _=>A3 t (Aw o)
 |.call c=>match c.callee with
  |.builtin b=>(match b with
   |.len=>DL t c.args.toList
   |_=>A3 t c.args.toList)
  |_=>[]
 |_=>[]
def quiet(o:Op):Bool:=match o with
 |.buildSlice _ _ _ | .store _ _ _ | .mapUpdate _ _ _ _ | .insert _ _ _ _ | .alloc _ | .box _ _ | .makeMap _ _ | .makeSlice _ _ _=>zf
 |.slice _ _ lo hi mx=>mx.isNone&&(lo.isSome||hi.isSome)
 |.call c=>match c.callee with
  |.builtin b=>match b with
   |.len | .cap | .max | .min=>zt
   |_=>zf
  |_=>zf
 |_=>zt
def As(o:Op):Bool:=match o with
 |.lookup _ _ _ _ | .mapUpdate _ _ _ _ | .insert _ _ _ _ | .defer _ | .panic _=>zf
 |.call c=>match c.callee with
  |.builtin b=>match b with
   |.len | .cap | .append | .copy | .max | .min=>zt
   |_=>zf
  |_=>zt
 |_=>zt
def QZ:Operand->Nat
 |.tmp k=>c0 2 k
 |_=>0
def EX:List Operand->Nat
 |[]=>0
 |o::l=>bS (QZ o) (EX l)
def Fv:Option Nat->Nat
 |some d=>c0 2 d
 |none=>0
def D0(ops:List Oper):Option (Nat×Bool)->Nat
 |none=>0
 |some (j,_)=>match lget ops j with
  |some o=>Fv o.dst
  |none=>0
structure Mk where
 rd:Nat
 wr:Nat
 bef:Nat
def Cp(a:List Mk):List Edge->Nat
 |[]=>0
 |e::l=>bif Region.binds .any e then bS (bS (c0 2 e.on) (match lget a e.on with|some m=>m.bef|none=>0)) (Cp a l)else Cp a l
def Fm(m j:Nat):Bool:=!aa (Nat.land m (c0 2 j)) 0
def HT(a b:Nat):Bool:=aa (Nat.land a b) 0
def Gg(m:Mk):Nat->List Mk->Bool
 |_,[]=>zt
 |j,x::l=>(Fm m.bef j||(HT x.wr (bS m.rd m.wr)&&HT x.rd m.wr))&&Gg m (j+1) l
def GS(i:Nat):List Edge->Bool
 |[]=>zt
 |e::l=>(!Region.binds .any e||af e.on i)&&GS i l
def FM(ops:List Oper):Nat->List Oper->List Mk->Option (List Mk)
 |_,[],acc=>zo acc
 |i,o::l,acc=>
  let m:Mk:={ rd:=bS (EX (Aw o.op)) (D0 ops o.guard),wr:=Fv o.dst,bef:=Cp acc o.after.toList }
  bif GS i o.after.toList&&Gg m 0 acc then FM ops (i+1) l (acc++[m])else zn
def Ca:List Nat->List Nat->Bool
 |[],_=>zf
 |x::l,m=>m.any (aa x)||Ca l m
def Fz(a:Nat)(rd wr:List Nat):List (Nat×List Nat×List Nat)->Bool
 |[]=>zt
 |(j,r,w)::l=>(Fm a j || !(Ca w rd||Ca wr r))&&Fz a rd wr l
def BB(h:Hp):List Nat->List Nat
 |[]=>[]
 |id::l=>match h.get id with
  |some (.box _ zt)|some (.row _ _ zt)=>BB h l
  |_=>id::BB h l
def Eb:Op->Bool
 |.call c=>match c.callee with
  |.builtin .append=>zt
  |_=>zf
 |_=>zf
def Ax(P:Program)(rec:GE)(t:T PV)(h:Hp)(id:Nat)(o:Oper):Option (PV×Hp×List Nat×List Nat):=
 let rd:=id::Au t h o.op
 bif !As o.op || !af id (id+1)then zn else
 match AQ P t (h.cut rd) id o with
 |some (.val v h1)=>bif quiet o.op then zo (v,h,rd,[])else(over h1 rd h).map λa=>(v,a,rd,bif Eb o.op then rd else BB h rd)
 |some (.skip h1)=>bif quiet o.op||Eb o.op then zn else(over h1 rd h).map λa=>(.tup [],a,rd,BB h rd)
 |some (.call f args)=>match Ao h args with
  |some (_,l)=>match A8 (λ_=>zf) rec id f args (h.cut (id::l))with
   |some (.ret v,h1)=>bif flat v then zo (v,h,rd++l,[])else(over h1 (id::l) h).map λa=>(v,a,rd++l,BB h (id::l))
   |_=>zn
  |none=>zn
 |_=>zn
def AX(P:Program)(rec:GE)(base nt:Nat)(ops:List Oper):Nat->List Oper->List Mk->List (Nat×List Nat×List Nat)->T PV->Hp->Option (T PV×Hp)
 |i,o::l,m::ms,past,t,h=>bif A6 ops t o.guard then
   match Ax P rec t h (base+i) o with
   |some (v,h,rd,wr)=>bif Fz m.bef rd wr past then
     match o.dst with
     |some d=>bif af d nt then AX P rec base nt ops (i+1) l ms ((i,rd,wr)::past) (T.put 20 t d v) h else zn
     |none=>AX P rec base nt ops (i+1) l ms ((i,rd,wr)::past) t h
    else zn
   |none=>zn
  else match o.dst with
   |some d=>bif af d nt then AX P rec base nt ops (i+1) l ms past (T.put 20 t d (.tup [])) h else zn
   |none=>AX P rec base nt ops (i+1) l ms past t h
 |_,[],_,_,t,h=>zo (t,h)
 |_,_,_,_,_,_=>zn
def drawn(P:Program)(rec:GE)(base:Nat)(ops:List Oper)(fr:Fr)(h:Hp):Option (Fr×Hp):=
 match FM ops 0 ops []with
 |some a=>match AX P rec base fr.nt ops 0 ops a [] fr.t h with
  |some (t,h)=>zo ({ fr with t:=t },h)
  |none=>zn
 |none=>zn
def exec(P:Program)(sh:FuncId->Bool)(rec:GE):Nat->Code->Fr->Hp->Option (Ex×Fr×Hp)
 |0,_,_,_=>zn
 |n+1,c,fr,h=>match c with
  |.skip | .label _=>zo (.normal,fr,h)
  |.seq a b=>match exec P sh rec n a fr h with
   |some (.normal,fr,h)=>exec P sh rec n b fr h
   |r=>r
  |.cond c a b=>match B1 fr.t c with
   |some (.bool zt)=>exec P sh rec n a fr h
   |some (.bool zf)=>exec P sh rec n b fr h
   |_=>zn
  |.block id b=>match exec P sh rec n b fr h with
   |some (.exit j,fr,h)=>bif aa j id then zo (.normal,fr,h)else zo (.exit j,fr,h)
   |r=>r
  |.loop b=>match exec P sh rec n b fr h with
   |some (.normal,fr,h)=>exec P sh rec n (.loop b) fr h
   |r=>r
  |.scope b=>match exec P sh rec n b fr h with
   |some (.goto _,_,_)=>zn
   |r=>r
  |.exit id=>zo (.exit id,fr,h)
  |.goto l=>zo (.goto l,fr,h)
  |.ret=>zo (.ret,fr,h)
  |.refuse _=>zn
  | .region _ ops draw=>bif draw then (bif P.follows .mixedOrders || !Region.departs ops then
     (match drawn P rec h.nx ops.toList fr { h with nx:=h.nx+ops.size }with
     |some (fr,h)=>zo (.normal,fr,h)
     |none=>zn)else zn)
    else AZ P sh rec h.nx ops.toList (HB 0 ops.toList) fr { h with nx:=h.nx+ops.size }
  |.rangeFunc g k i e=>match B1 fr.t g with
   |some (.fn f a b)=>
    let d:=h.nx
    let l:=h.nx+1
    match (match fr.ro with
     |none=>(match h.new d (.df (zo []))with
      |some h=>zo (d,[DF.col d],h)
      |none=>zn)
     |some m=>(match h.get m with
      |some (.lp _ _ _ _ _ _ _ d0)=>zo (d0,[],h)
      |_=>zn))with
    |some (d,mark,h)=>match h.new l (.lp 0 zn fr.nt fr.t k.toList i e d)with
     |some h=>match CB P f a b [.yl l]with
      |some (.call f args)=>match rec (.fn f) zn args { h with nx:=l+1 }with
       |some (.ret _,_,h)=>(match h.get l with
        |some (.lp st pend nt t k i e d)=>bif aa st 1 then zn else
         (match h.set l (.lp 3 pend nt t k i e d)with
         |some h=>match pend with
          |none=>zo (.normal,{ fr with ds:=mark++fr.ds },h)
          |some .ret=>zo (.ret,{ fr with ds:=mark++fr.ds },h)
          |some (.exit id)=>zo (.exit id,{ fr with ds:=mark++fr.ds },h)
          |some (.goto id)=>zo (.goto id,{ fr with ds:=mark++fr.ds },h)
          |_=>zn
         |none=>zn)
        |_=>zn)
       |_=>zn
      |_=>zn
     |none=>zn
    |none=>zn
   |_=>zn
def Bl:Nat->List PV->T PV->T PV
 |_,[],t=>t
 |i,a::l,t=>Bl (i+1) l (T.put 20 t i a)
def Bx(nt:Nat):List Nat->List PV->T PV->Option (T PV)
 |[],[],t=>zo t
 |p::ps,a::l,t=>bif af p nt then Bx nt ps l (T.put 20 t p a)else zn
 |_,_,_=>zn
def QM(P:Program)(h:Hp)(t:T PV):ResultVar->Option PV
 |.tmp k=>zo ((t.get k).getD (.tup []))
 |.cell a ty=>match t.get a with
  |some (.ptr j off)=>match h.get j with
   |some (.box cs _)=>part P ty (cs.drop off)
   |_=>zn
  |_=>zn
def I2(P:Program)(h:Hp)(t:T PV):List ResultVar->Option (List PV)
 |[]=>zo []
 |r::l=>match QM P h t r,I2 P h t l with
  |some p,zo ps=>zo (p::ps)
  |_,_=>zn
def results(P:Program)(a:Func)(h:Hp)(t:T PV):Option PV:=match I2 P h t a.results.toList with
 |some [v]=>zo v
 |some vs=>zo (.tup vs)
 |none=>zn
def Ko:UM->UM
 |.pan ({ v:=_,recovered:=zt }::_)=>.ret
 |u=>u
def leave(P:Program)(rec:GE)(c:Func):Nat->List DF->UM->T PV->Hp->Option (Out×Hp)
 |0,_,_,_,_=>zn
 |n+1,ds,u,t,h=>match ds with
  |[]=>match u with
   |.ret=>match results P c h t with
    |some v=>zo (.ret v,h)
    |none=>zn
   |.pan d=>zo (.pan d,h)
  |.col id::ds=>match h.get id with
   |some (.df (zo l))=>match h.set id (.df zn)with
    |some h=>leave P rec c n (l++ds) u t h
    |none=>zn
   |_=>zn
  |.bi b ats _ args::ds=>match b with
   |.clear=>match AH P h 0 .clear ats args with
    |some (.val _ h)=>leave P rec c n ds u t h
    |_=>zn
   |_=>zn
  |.call f args::ds=>match f with
   |.fn (.func g) a b=>match CB P (.func g) a b args with
    |some (.call g args)=>match rec (.fn g) (zo u) args h with
     |some (.ret _,zo u,h)=>leave P rec c n ds (Ko u) t h
     |_=>zn
    |_=>zn
   |_=>zn
def A9(h:Hp)(l:Nat)(a:Option Code):Option (Out×Option UM×Hp):=match h.get l with
 |some (.lp _ _ nt t ps asg body d)=>match h.set l (.lp (match a with|none=>0|some _=>2) a nt t ps asg body d)with
  |some h=>zo (.ret (.bool a.isNone),zn,h)
  |none=>zn
 |_=>zn
def S1(same:List TypeId):PV->PV->Option Bool
 |.ifc u (.gk a),.ifc v (.gk b)=>bif (aa u v&&aa a b)&&same.any (aa u)then zo zt else zn
 |_,_=>zn
def SB:List (TypeId×TypeId)->TypeId->Option TypeId
 |[],_=>zn
 |(a,b)::l,t=>bif aa a t then zo b else SB l t
def SA(P:Program)(c:List (TypeId×TypeId))(b:List TypeId)(e t:PV)(h:Hp):Option (Bool×Hp):=match e with
 |.nili=>zo (zf,h)
 |.ifc u a=>match t with
  |.ifc pt (.ptr id off)=>match SB c pt with
   |some T=>bif aa u T then(match a,A2 P h T (.ptr id off) a with
     |.agg [_],zo (.skip h)=>zo (zt,h)
     |_,_=>zn)
    else bif b.any (aa u)then zo (zf,h)else zn
   |none=>zn
  |_=>zn
 |_=>zn
def S0:PV->PV->Option Int
 |.str a,.str b=>zo (bif Op.bytesLess a b then -1 else bif a == b then 0 else 1)
 |_,_=>zn
def On(P:Program):Pr->List PV->Hp->Option (PV×Hp)
 |.is same,[e,t],h=>(S1 same e t).map λb=>(.bool b,h)
 |.as tt plain,[e,t],h=>(SA P tt plain e t h).map λ(b,h)=>(.bool b,h)
 |.cmp,[a,b],h=>(S0 a b).map λn=>(.int .i64 n,h)
 |.kn b,[],h=>zo (.bool b,h)
 |_,_,_=>zn
def PL(P:Program)(sh:FuncId->Bool)(F:Nat)(rec:GE):GE:=λb up args h=>match b with
  |.fn f=>match Gl.pr f with
   |some p=>(match up with
    |none=>(On P p args h).map λ(v,h)=>(.ret v,zn,h)
    |some _=>zn)
   |none=>match P.funcs[f]? with
   |some a=>match a.body with
    |some c=>match (bif ah args.length a.ntmps&&af a.ntmps 1048575 then exec P sh rec F c { t:=Bl 0 args .lf,nt:=a.ntmps,ds:=[],up,ro:=zn } h else zn)with
     |some (.normal,fr,h)|some (.ret,fr,h)=>(match leave P rec a F fr.ds .ret fr.t h with
      |some (o,h)=>zo (o,fr.up,h)
      |none=>zn)
     |some (.panic e,fr,h)=>(match leave P rec a F fr.ds (.pan [{ v:=e,recovered:=zf }]) fr.t h with
      |some (o,h)=>zo (o,fr.up,h)
      |none=>zn)
     |_=>zn
    |none=>zn
   |none=>zn
  |.yl l=>match h.get l with
   |some (.lp _ _ nt t ps asg body0 _)=>match Bx nt ps args t with
    |some t=>match exec P sh rec F asg { t,nt,ds:=[],up:=zn,ro:=zo l } h with
     |some (.normal,fr,h)=>(match h.get l with
      |some (.lp 0 pend nt t ps asg body d)=>(match h.set l (.lp 1 pend nt t ps asg body d)with
       |some h=>match exec P sh rec F body0 fr h with
        |some (.normal,_,h)=>A9 h l zn
        |some (.ret,_,h)=>A9 h l (zo .ret)
        |some (.exit id,_,h)=>A9 h l (zo (.exit id))
        |some (.goto id,_,h)=>A9 h l (zo (.goto id))
        |_=>zn
       |none=>zn)
      |_=>zn)
     |_=>zn
    |none=>zn
   |_=>zn
def B4(P:Program)(sh:FuncId->Bool)(F:Nat):Nat->GE
 |0=>λ_ _ _ _=>zn
 |n+1=>PL P sh F (B4 P sh F n)
end
section
variable[Gl]
abbrev Ak:=Addr->Option Value
structure Bk where
 b:Nat
 base:Nat
 esz:Nat
 cap:Nat
abbrev Mu:=Nat->Option Bk
def mu0:Mu:=λ_=>zn
inductive Rep (M:Ak):Mu->PV->Value->Prop
 |bool (μ:Mu) (b:Bool):Rep M μ (.bool b) (.bool b)
 |int (μ:Mu) (k:IntKind) (n:Int):Rep M μ (.int k n) (.int k n)
 |str (μ:Mu) (s:ByteArray):Rep M μ (.str s.data.toList) (.string s)
 |nilp (μ:Mu):Rep M μ .nilp (.pointer zn)
 |nils (μ:Mu):Rep M μ .nils (.slice zn 0 0)
 |nilm (μ:Mu):Rep M μ .nilm (.map zn)
 |nilf (μ:Mu):Rep M μ .nilf .nilFunc
 |nili (μ:Mu):Rep M μ .nili .nilIface
 |agg (μ:Mu) (cs:List PV) (vs:Array Value) (hl:cs.length=vs.size)
   (h1:∀ (i:Nat) (v:Value),vs[i]?=zo v->v.oneCell'=zt)
   (h:∀ (i:Nat) (c:PV) (v:Value),cs[i]?=zo c->vs[i]?=zo v->Rep M μ c v):Rep M μ (.agg cs) (.agg vs)
 |tup (μ:Mu) (cs:List PV) (vs:Array Value) (hl:cs.length=vs.size)
   (h:∀ (i:Nat) (c:PV) (v:Value),cs[i]?=zo c->vs[i]?=zo v->Rep M μ c v):Rep M μ (.tup cs) (.tuple vs)
 |lst0 (μ:Mu) (full:Bool) (a:Addr) (cap:Nat) (hf:full=zt->cap=0):Rep M μ (.lst full []) (.slice (zo a) 0 cap)
 |lst (μ:Mu) (full:Bool) (es:List PV) (b off esz cap:Nat) (x:Nat->Nat->Value) (hf:full=zt->cap=es.length) (hc:es.length<=cap)
   (hs:∀ (i:Nat) (e:PV),es[i]?=zo e->e.cells.length=esz)
   (hm:∀ (i:Nat) (e:PV) (j:Nat) (c:PV),es[i]?=zo e->e.cells[j]?=zo c->M ⟨b,off+i*esz+j,zn⟩=zo (x i j))
   (h1:∀ (i:Nat) (e:PV) (j:Nat) (c:PV),es[i]?=zo e->e.cells[j]?=zo c->(x i j).oneCell'=zt)
   (h:∀ (i:Nat) (e:PV) (j:Nat) (c:PV),es[i]?=zo e->e.cells[j]?=zo c->Rep M mu0 c (x i j)):Rep M μ (.lst full es) (.slice (zo ⟨b,off,zn⟩) es.length cap)
 |own (μ:Mu) (id off len:Nat) (r:Bk) (hr:μ id=zo r) (hc:off+len<=r.cap):Rep M μ (.own id off len) (.slice (zo ⟨r.b,r.base+off*r.esz,zn⟩) len (r.cap-off))
 |ptr (μ:Mu) (id off:Nat) (r:Bk) (hr:μ id=zo r):Rep M μ (.ptr id off) (.pointer (zo ⟨r.b,r.base+off,zn⟩))
 |ept (μ:Mu) (id i off:Nat) (r:Bk) (hr:μ id=zo r):Rep M μ (.ept id i off) (.pointer (zo ⟨r.b,r.base+i*r.esz+off,zn⟩))
 |view (μ:Mu) (cs:List PV) (b off:Nat) (x:Nat->Value)
   (hm:∀ (j:Nat) (c:PV),cs[j]?=zo c->M ⟨b,off+j,zn⟩=zo (x j))
   (h1:∀ (j:Nat) (c:PV),cs[j]?=zo c->(x j).oneCell'=zt)
   (h:∀ (j:Nat) (c:PV),cs[j]?=zo c->Rep M mu0 c (x j)):Rep M μ (.view cs) (.pointer (zo ⟨b,off,zn⟩))
 |fn (μ:Mu) (f:Fn) (a b:List PV) (va vb:Array Value) (hf:∀ l,f ≠ .yield l) (hla:a.length=va.size) (hlb:b.length=vb.size)
   (ha:∀ (i:Nat) (c:PV) (v:Value),a[i]?=zo c->va[i]?=zo v->Rep M μ c v)
   (hb:∀ (i:Nat) (c:PV) (v:Value),b[i]?=zo c->vb[i]?=zo v->Rep M μ c v):Rep M μ (.fn f a b) (.func f va vb)
 |yl (μ:Mu) (id:Nat) (r:Bk) (hr:μ id=zo r):Rep M μ (.yl id) (.func (.yield r.b) #[] #[])
 |ifc (μ:Mu) (t:TypeId) (p:PV) (v:Value) (h:Rep M μ p v):Rep M μ (.ifc t p) (.iface t v)
 |mp (μ:Mu) (id:Nat) (r:Bk) (hr:μ id=zo r):Rep M μ (.mp id) (.map (zo r.b))
 |gk (μ:Mu) (n:Nat) (t:TypeId) (a:Addr) (h:M ⟨n,0,zn⟩=zo (.iface t (.pointer (zo a)))):Rep M μ (.gk n) (.pointer (zo a))
 |adr (μ:Mu) (b off:Nat):Rep M μ (.adr b off) (.pointer (zo ⟨b,off,zn⟩))
theorem Rep.lst0'{M:Ak}{μ:Mu}{full:Bool}{a:Option Addr}{cap:Nat}(b:a≠zn)(c:full=zt->cap=0):Rep M μ (.lst full []) (.slice a 0 cap):=by
 cases a with
 |none=>exact absurd rfl b
 |some a=>exact .lst0 _ _ _ _ c
def MLe(M b:Ak):Prop:=∀ a v,M a=zo v->b a=zo v
def MuLe(μ μ':Mu):Prop:=∀ id r,μ id=zo r->μ' id=zo r
theorem MLe.refl(M:Ak):MLe M M:=λ_ _ h=>h
theorem MLe.trans{A B C:Ak}(h:MLe A B)(k:MLe B C):MLe A C:=λa v x=>k a v (h a v x)
theorem MuLe.refl(M:Mu):MuLe M M:=λ_ _ h=>h
theorem MuLe.trans{A B C:Mu}(h:MuLe A B)(k:MuLe B C):MuLe A C:=λa v x=>k a v (h a v x)
theorem MuLe.mu0(μ:Mu):MuLe mu0 μ:=λ_ _ h=>by simp[Pi.mu0]at h
theorem Rep.mono{M g:Ak}{μ:Mu}{p:PV}{v:Value}(h:Rep M μ p v)(d:MLe M g):∀ {μ':Mu},MuLe μ μ'->Rep g μ' p v:=by
 induction h with
 |bool|int|str|nilp|nils|nilm|nilf|nili=>intros;constructor
 |agg μ cs vs hl h1 _ ih=>intro μ' hμ;exact .agg _ _ _ hl h1 λi c v a b=>ih i c v a b hμ
 |tup μ cs vs hl _ ih=>intro μ' hμ;exact .tup _ _ _ hl λi c v a b=>ih i c v a b hμ
 |lst0 μ full a cap hf=>intro μ' _;exact .lst0 _ _ _ _ hf
 |lst μ full es b off esz cap x hf hc hs hm h1 _ ih=>intro μ' _;exact .lst _ _ _ _ _ esz _ x hf hc hs (λi e j c a k=>d _ _ (hm i e j c a k)) h1 λi e j c a k=>ih i e j c a k (MuLe.refl _)
 |own μ id off len r hr hc=>intro μ' hμ;exact .own _ _ _ _ r (hμ _ _ hr) hc
 |ptr μ id off r hr=>intro μ' hμ;exact .ptr _ _ _ r (hμ _ _ hr)
 |ept μ id i off r hr=>intro μ' hμ;exact .ept _ _ _ _ r (hμ _ _ hr)
 |view μ cs b off x hm h1 _ ih=>intro μ' _;exact .view _ _ _ _ x (λj c a=>d _ _ (hm j c a)) h1 λj c a=>ih j c a (MuLe.refl _)
 |fn μ f a b va vb hf hla hlb _ _ iha ihb=>intro μ' hμ;exact .fn _ _ _ _ _ _ hf hla hlb (λi c v x y=>iha i c v x y hμ) (λi c v x y=>ihb i c v x y hμ)
 |yl μ id r hr=>intro μ' hμ;exact .yl _ _ r (hμ _ _ hr)
 |ifc μ t p v _ ih=>intro μ' hμ;exact .ifc _ _ _ _ (ih hμ)
 |mp μ id r hr=>intro μ' hμ;exact .mp _ _ r (hμ _ _ hr)
 |gk μ n t a h=>intro μ' _;exact .gk _ _ t a (d _ _ h)
 |adr μ b off=>intro μ' _;exact .adr _ _ _
def RepL(M:Ak)(μ:Mu)(a:List PV)(vs:List Value):Prop:=
 a.length=vs.length /\ ∀ (i:Nat) (p:PV) (v:Value),a[i]?=zo p->vs[i]?=zo v->Rep M μ p v
theorem RepL.nil(M:Ak)(μ:Mu):RepL M μ [] []:=⟨rfl,λi p v h=>by simp at h⟩
theorem RepL.cons{M:Ak}{μ:Mu}{p:PV}{v:Value}{c:List PV}{vs:List Value}(h:Rep M μ p v)(t:RepL M μ c vs):RepL M μ (p::c) (v::vs):=by
 refine⟨by simp[t.1],λi q x a b=> ?_⟩;cases i with
 |zero=>simp at a b;subst a;subst b;exact h
 |succ i=>simp at a b;exact t.2 i q x a b
theorem RepL.mono{M c:Ak}{μ μ':Mu}{d:List PV}{vs:List Value}(h:RepL M μ d vs)(e:MLe M c)(hμ:MuLe μ μ'):RepL c μ' d vs:=
 ⟨h.1,λi p v a b=>(h.2 i p v a b).mono e hμ⟩
theorem RepL.append{M:Ak}{μ:Mu}{c d:List PV}{vs e:List Value}(h:RepL M μ c vs)(k:RepL M μ d e):RepL M μ (c++d) (vs++e):=by
 refine⟨by simp[h.1,k.1],λi p v b a=> ?_⟩;rw[aU]at b a;by_cases hi:i<c.length
 ·rw[zy hi]at b;rw[zy (h.1 ▸ hi)]at a;exact h.2 i p v b a
 ·rw[zx hi]at b;rw[zx (h.1 ▸ hi)]at a;rw[<- h.1]at a;exact k.2 _ p v b a
theorem RepL.get{M:Ak}{μ:Mu}{b:List PV}{vs:List Value}(h:RepL M μ b vs){i:Nat}{p:PV}(a:b[i]?=zo p):∃ v,vs[i]?=zo v/\Rep M μ p v:=by
 have hi:i<vs.length:=by rw[<- h.1];exact(ab.1 a).1
 exact⟨vs[i],ae hi,h.2 i p _ a (ae hi)⟩
theorem RepL.cons_inv{M:Ak}{μ:Mu}{p:PV}{b:List PV}{vs:List Value}(h:RepL M μ (p::b) vs):∃ v a,vs=v::a/\Rep M μ p v/\RepL M μ b a:=by
 cases vs with
 |nil=>exact absurd h.1 (by simp)
 |cons v a=>exact⟨v,a,rfl,h.2 0 p v rfl rfl,by simpa using h.1,λi q x c d=>h.2 (i+1) q x (by simpa using c) (by simpa using d)⟩
theorem RepL.nil_inv{M:Ak}{μ:Mu}{vs:List Value}(h:RepL M μ [] vs):vs=[]:=by
 cases vs with
 |nil=>rfl
 |cons v a=>exact absurd h.1 (by simp)
theorem RepL.drop{M:Ak}{μ:Mu}{a:List PV}{vs:List Value}(h:RepL M μ a vs)(n:Nat):RepL M μ (a.drop n) (vs.drop n):=
 ⟨by simp[h.1],λi p v b c=>h.2 (n+i) p v (by simpa using b) (by simpa using c)⟩
theorem RepL.take{M:Ak}{μ:Mu}{c:List PV}{vs:List Value}(h:RepL M μ c vs)(n:Nat):RepL M μ (c.take n) (vs.take n):=by
 refine⟨by simp[h.1],λi p v a b=> ?_⟩;rw[aA]at a b;by_cases hi:i<n
 ·rw[zy hi]at a b;exact h.2 i p v a b
 ·rw[zx hi]at a;cases a
theorem Rep.cells{M:Ak}{μ:Mu}{p:PV}{v:Value}(h:Rep M μ p v)(l:∀ cs,p ≠ .tup cs) :
  RepL M μ p.cells v.cells.toList /\ ∀ (i:Nat) (x:Value),v.cells[i]?=zo x->x.oneCell'=zt:=by
 have d:∀ (q:PV) (x:Value),Rep M μ q x->x.oneCell'=zt->q.cells=[q]->x.cells = #[x]->RepL M μ q.cells x.cells.toList /\ ∀ (i:Nat) (y:Value),x.cells[i]?=zo y->y.oneCell'=zt:=by
  intro q x m e hc o;rw[hc,o];refine⟨RepL.cons m (RepL.nil _ _),λi y j=> ?_⟩;cases i with
  |zero=>simp at j;exact j ▸ e
  |succ i=>simp at j
 cases h with
 |agg _ cs vs hl e h=>exact⟨⟨by simpa[PV.cells,Value.cells]using hl,λi c x hc g=>h i c x hc (by simpa[Value.cells]using g)⟩,λi x g=>e i x g⟩
 |tup _ cs vs hl h=>exact absurd rfl (l cs)
 |lst0 _ full a cap hf=>exact d _ _ (.lst0 _ _ _ _ hf) rfl rfl rfl
 |lst _ full es b off esz cap x hf hc hs hm e h=>exact d _ _ (.lst _ _ _ _ _ esz _ x hf hc hs hm e h) rfl rfl rfl
 |own _ id off len r hr hc=>exact d _ _ (.own _ _ _ _ r hr hc) rfl rfl rfl
 |ptr _ id off r hr=>exact d _ _ (.ptr _ _ _ r hr) rfl rfl rfl
 |ept _ id i off r hr=>exact d _ _ (.ept _ _ _ _ r hr) rfl rfl rfl
 |view _ cs b off x hm e h=>exact d _ _ (.view _ _ _ _ x hm e h) rfl rfl rfl
 |fn _ f a b va vb hf hla hlb ha hb=>exact d _ _ (.fn _ _ _ _ _ _ hf hla hlb ha hb) rfl rfl rfl
 |yl _ id r hr=>exact d _ _ (.yl _ _ r hr) rfl rfl rfl
 |ifc _ t p v h=>exact d _ _ (.ifc _ _ _ _ h) rfl rfl rfl
 |mp _ id r hr=>exact d _ _ (.mp _ _ r hr) rfl rfl rfl
 |gk _ n t a h=>exact d _ _ (.gk _ _ t a h) rfl rfl rfl
 |adr _ b off=>exact d _ _ (.adr _ b off) rfl rfl rfl
 |bool _ b=>exact d _ _ (.bool _ b) rfl rfl rfl
 |int _ k n=>exact d _ _ (.int _ k n) rfl rfl rfl
 |str _ s=>exact d _ _ (.str _ s) rfl rfl rfl
 |nilp _=>exact d _ _ (.nilp _) rfl rfl rfl
 |nils _=>exact d _ _ (.nils _) rfl rfl rfl
 |nilm _=>exact d _ _ (.nilm _) rfl rfl rfl
 |nilf _=>exact d _ _ (.nilf _) rfl rfl rfl
 |nili _=>exact d _ _ (.nili _) rfl rfl rfl
section tables
variable{P:Program}
theorem Ac{t:TypeId}{n:Nat}(h:AU P t=zo n)(w:World):(sizeOf t).run P w=.ok n w:=by
 unfold AU at h;cases hi:P.info? t with
 |none=>rw[hi]at h;cases h
 |some i=>rw[hi]at h;simp at h;simp[sizeOf,typeInfo,hi,h]
theorem H2{t:TypeId}{b:Bool}(h:Kv P t=zo b)(w:World):(isAgg t).run P w=.ok b w:=by
 unfold Kv at h;split at h<;>simp_all[isAgg,underlying]<;>(subst h;split<;>simp_all)
theorem AF{t:TypeId}{d:TypeDesc}(h:P.underlying t=zo d)(w:World):(underlying t).run P w=.ok d w:=by
 simp[underlying,h]
theorem FH{t:TypeId}{d:TypeInfo}(h:P.info? t=zo d)(w:World):(typeInfo t).run P w=.ok d w:=by
 simp[typeInfo,h]
theorem Gx{v:Value}{p:PV}(h:Cz v=zo p)(M:Ak)(μ:Mu):Rep M μ p v /\ v.oneCell'=zt /\ (∀ cs,p ≠ .tup cs):=by
  unfold Cz at h
  split at h<;>first
    |(cases h;exact⟨by constructor,rfl,by intro cs hc;cases hc⟩)
    | (split at h
       · rename_i hc
         cases h;simp at hc;obtain⟨rfl,rfl⟩:=hc;exact⟨.fn _ _ [] [] #[] #[] (by intro l a;cases a) rfl rfl (fun i c v h=>by simp at h) (fun i c v h=>by simp at h),rfl,by intro cs hc;cases hc⟩
       · cases h)
    |cases h
theorem Fq:∀ {vs:List Value} {a:List PV},cellsOf vs=zo a -> ∀ (M:Ak) (μ:Mu),RepL M μ a vs /\ ∀ v∈vs,v.oneCell'=zt
 |[],a,h,M,μ=>by cases h;exact⟨RepL.nil _ _,by simp⟩
 |v::vs,a,h,M,μ=>by
  unfold cellsOf at h;split at h
  ·rename_i p q d e;cases h;have b:=Gx d M μ;have c:=Fq e M μ;refine⟨RepL.cons b.1 c.1,?_⟩;intro x hx;rcases ai.1 hx with rfl|hx
   ·exact b.2.1
   ·exact c.2 x hx
  ·cases h
theorem Lm{v:Value}{p:PV}(h:D9 v=zo p)(M:Ak)(μ:Mu):Rep M μ p v:=by
 unfold D9 at h;split at h
 ·rename_i cs;cases hc:cellsOf cs.toList with
  |none=>rw[hc]at h;cases h
  |some e=>
   rw[hc]at h;cases h;have:=Fq hc M μ;refine .agg _ _ _ (by simpa using this.1.1) (λi v b=>this.2 v ?_) (λi c v hc b=>this.1.2 i c v hc (by simpa using b));exact bx.2 (cx b)
 ·rename_i vs;cases a:vs.isEmpty with
  |false=>rw[a]at h;cases h
  |true=>rw[a]at h;cases h;simp at a;subst a;exact .tup _ _ _ rfl (λi c v h=>by simp at h)
 ·rename_i t v;split at h
  ·rename_i p d;cases h;exact .ifc _ _ _ _ (Gx d M μ).1
  ·cases h
 ·exact(Gx h M μ).1
theorem B0{t:TypeId}{cs:List PV}(h:zeroCells P t=zo cs)(M:Ak)(μ:Mu)(w:World) :
  ∃ z i,P.info? t=zo i/\i.zero=zo z/\(zeroValue t).run P w=.ok z w/\RepL M μ cs z.cells.toList /\ ∀ v∈z.cells.toList,v.oneCell'=zt:=by
 unfold zeroCells at h;split at h
 ·rename_i i hi;split at h
  ·rename_i z a;have:=Fq h M μ;exact⟨z,i,hi,a,by simp[zeroValue,typeInfo,hi,a],this⟩
  ·cases h
 ·cases h
theorem FO{t:TypeId}{cs:List PV}{p:PV}(h:Pi.part P t cs=zo p){M:Ak}{μ:Mu}{vs:Array Value}{off:Nat}
  (f:RepL M μ cs (vs.toList.drop off)) (l:∀ (i:Nat) (v:Value),vs[i]?=zo v->v.oneCell'=zt) (w:World) :
  ∃ v,(Go.part t vs off).run P w=.ok v w/\Rep M μ p v/\(∀ cs,p ≠ .tup cs\/True):=by
 unfold Pi.part at h;split at h
 ·rename_i n b d;cases e:ah n cs.length with
  |false=>rw[e]at h;cases h
  |true=>
   rw[e]at h;cases h;have o:n<=cs.length:=aq e;refine⟨.agg (vs.extract off (off+n)),?_,?_,λ_=>.inr trivial⟩
   ·simp[Go.part,H2 b,Ac d]
   ·have j:cs.length=vs.size-off:=by simpa using f.1
    refine .agg _ _ _ (by simp;omega) (λi v a=> ?_) (λi c v hc a=> ?_)
    ·rw[cw]at a;split at a
     ·exact l _ v a
     ·cases a
    ·rw[cw]at a;rw[aA]at hc;split at a
     ·split at hc
      ·exact f.2 i c v hc (by simpa using a)
      ·cases hc
     ·cases a
 ·rename_i n b d;split at h
  ·rename_i c k;cases h;obtain⟨v,a,m⟩:=f.get (i:=0) (p:=p) rfl;have g:vs[off]?=zo v:=by simpa using a
   exact⟨v,by simp[Go.part,H2 b,g],m,λ_=>.inr trivial⟩
  ·cases h
 ·cases h
end tables
end
section
variable[Gl]
theorem Fi{a b:Nat}(h:a≠b):aa a b=zf:=by
 cases e:aa a b with
 |false=>rfl
 |true=>exact absurd (aj e) h
theorem Rg{a b:Nat}(h:a=b):aa a b=zt:=by subst h;simp
theorem T.get_put{α:Type}:∀ (n:Nat) (t:T α) (k:Nat) (v:α) (a:Nat),k<2 ^ n-1->(T.put n t k v).get a=if a=k then zo v else t.get a
 |0,t,k,v,a,h=>by simp at h
 |n+1,t,k,v,a,h=>by
  have j:2 ^ (n+1)=2*2 ^ n:=by rw[dt,cb]
  have key:∀ (l:T α) (x:Option α) (r:T α),((bif aa k 0 then T.nd l (zo v) r else bif aa (k % 2) 1 then .nd (T.put n l (k / 2) v) x r else .nd l x (T.put n r (k / 2-1) v)):T α).get a=if a=k then zo v else(T.nd l x r).get a:=by
   intro l x r;by_cases e:k=0
   ·subst e;simp only[show aa 0 0=zt from rfl,zb,T.get];by_cases d:a=0
    ·subst d;simp
    ·have:aa a 0=zf:=Fi d;simp[this,d]
   ·have f:aa k 0=zf:=Fi e;by_cases g:k % 2=1
    ·have e1:aa (k % 2) 1=zt:=by simpa using g
     simp only[f,e1,zb,zj,T.get];by_cases d:a=0
     ·subst d;simp[Ne.symm e]
     ·have e2:aa a 0=zf:=Fi d;simp only[e2,zj];by_cases b:a % 2=1
      ·have e3:aa (a % 2) 1=zt:=by simpa using b
       simp only[e3,zb];rw[T.get_put n l (k / 2) v (a / 2) (by omega)];by_cases c:a=k
       ·subst c;simp
       ·rw[zx (by omega),zx c]
      ·have e3:aa (a % 2) 1=zf:=Fi b;simp only[e3,zj];rw[zx (by omega)]
    ·have e1:aa (k % 2) 1=zf:=Fi g;simp only[f,e1,zj,T.get];by_cases d:a=0
     ·subst d;simp[Ne.symm e]
     ·have e2:aa a 0=zf:=Fi d;simp only[e2,zj];by_cases b:a % 2=1
      ·have e3:aa (a % 2) 1=zt:=by simpa using b
       simp only[e3,zb];rw[zx (by omega)]
      ·have e3:aa (a % 2) 1=zf:=Fi b;simp only[e3,zj];rw[T.get_put n r (k / 2-1) v (a / 2-1) (by omega)];by_cases c:a=k
       ·subst c;simp
       ·rw[zx (by omega),zx c]
  cases t with
  |lf=>
   have:=key .lf zn .lf;simp only[T.put];rw[this]
   have i:(T.nd (T.lf:T α) zn T.lf).get a=(T.lf:T α).get a:=by
    simp only[T.get];cases aa a 0<;>cases aa (a % 2) 1<;>rfl
   rw[i]
  |nd l x r=>exact key l x r
theorem LO(k:Nat):k<2 ^ (k+1)-1:=by
 have:=@Nat.lt_two_pow_self k;rw[dt];omega
theorem Hp.get_set{h h':Hp}{id:Nat}{b:Blk}(e:h.set id b=zo h'):(∀ k,h'.get k=if k=id then zo b else h.get k)/\h'.nx=h.nx:=by
 unfold Hp.set at e;cases a:af id (id+1)with
 |false=>rw[a]at e;cases e
 |true=>
  rw[a]at e;simp at e;subst e;refine⟨λk=> ?_,rfl⟩;simp only[Hp.get];exact T.get_put (id+1) h.m id b k (LO id)
theorem Hp.get_new{h h':Hp}{id:Nat}{b:Blk}(e:h.new id b=zo h'):h.get id=zn/\(∀ k,h'.get k=if k=id then zo b else h.get k)/\h'.nx=h.nx:=by
 unfold Hp.new at e;split at e
 ·rename_i a;exact⟨a,Hp.get_set e⟩
 ·cases e
def Blk.live:Blk->Prop
 |.dead=>False
 |_=>True
def DefRep(M:Ak)(μ:Mu):DF->Deferred->Prop
 |.call f args,d=>∃ (a:Fn) (first:List PV) (cap:List PV) (vf vc va:List Value),f=.fn a first cap/\(∀ l,a ≠ .yield l)/\d.target=.fn a vc.toArray/\d.args=(vf++va).toArray/\RepL M μ first vf/\RepL M μ cap vc/\RepL M μ args va
 |.bi b ats ty args,d=>∃ (cs:Array Bool) (va:List Value),d.target=.builtin b ats ty cs/\d.args=va.toArray/\RepL M μ args va
 |.col id,d=>∃ r,μ id=zo r/\d.target=.collected r.b/\d.args = #[]
def DefsRep(M:Ak)(μ:Mu):List DF->List Deferred->Prop
 |[],[]=>True
 |a::l,b::m=>DefRep M μ a b/\DefsRep M μ l m
 |_,_=>False
def TmpsRep(M:Ak)(μ:Mu)(t:T PV)(nt:Nat)(a:Array Value):Prop:=
 nt<1048575/\a.size=nt /\ ∀ k,Rep M μ ((t.get k).getD (.tup [])) (a.getD k undef)
def UA:Nat->LoopState
 |0=>.ready
 |1=>.busy
 |2=>.done
 |_=>.exhausted
def BlkAt(M:Ak)(μ:Mu)(r:Bk)(o:Option Obj):Blk->Prop
 |.box cs _=>r.base=0 /\ ∃ (arr:Array Value) (ty:TypeId),o=zo (.cells arr ty (0,0))/\arr.size=cs.length/\(∀ (i:Nat) (v:Value),arr[i]?=zo v->v.oneCell'=zt) /\ ∀ (i:Nat) (c:PV) (v:Value),cs[i]?=zo c->arr[i]?=zo v->Rep M μ c v
 |.row es ex _=>∃ (arr:Array Value) (ty:TypeId),o=zo (.cells arr ty (0,0))/\r.base+r.cap*r.esz<=arr.size/\es.length<=r.cap/\(ex=zt->es.length=r.cap)/\0<r.esz/\(∀ (i:Nat) (e:PV),es[i]?=zo e->e.cells.length=r.esz) /\ ∀ (i:Nat) (e:PV) (j:Nat) (c:PV) (v:Value),es[i]?=zo e->e.cells[j]?=zo c->arr[r.base+i*r.esz+j]?=zo v->v.oneCell'=zt/\Rep M μ c v
 |.mp es=>∃ (f:Array MapEntry) (g:Nat),o=zo (.map f g)/\f.size=es.length /\ ∀ (i:Nat) (k v:PV) (e:MapEntry),es[i]?=zo (k,v)->f[i]?=zo e->Rep M μ k e.key/\Rep M μ v e.val
 |.lp q m nt t u n h d=>∃ (l:Loop) (rd:Bk),o=zo (.loop l)/\l.state=UA q/\q<4/\l.pending=m/\TmpsRep M μ t nt l.tmps/\l.params=u.toArray/\l.assign=n/\l.body=h/\μ d=zo rd/\l.defers=rd.b
 |.df s=>∃ p:Option (List Deferred),o=zo (.deferred p)/\(match s,p with
  |none,zn=>True
  |some a,zo b=>DefsRep M μ a b
  |_,_=>False)
 |.dead=>True
def K0(r:Bk)(a:Addr):Blk->Prop
 |.box _ fz=>fz=zt
 |.row es _ fz=>fz=zt/\a.off<r.base+es.length*r.esz
 |_=>True
theorem DefRep.mono{M i:Ak}{μ μ':Mu}(g:MLe M i)(hμ:MuLe μ μ'):∀ {a:DF} {d:Deferred},DefRep M μ a d->DefRep i μ' a d
 |.call _ _,_,⟨j,a,b,x,y,z,c,e,f,k,l,m,n⟩=>⟨j,a,b,x,y,z,c,e,f,k,l.mono g hμ,m.mono g hμ,n.mono g hμ⟩
 |.bi _ _ _ _,_,⟨cs,va,c,e,f⟩=>⟨cs,va,c,e,f.mono g hμ⟩
 |.col _,_,⟨r,c,e,f⟩=>⟨r,hμ _ _ c,e,f⟩
theorem DefsRep.mono{M b:Ak}{μ μ':Mu}(c:MLe M b)(hμ:MuLe μ μ'):∀ {a:List DF} {d:List Deferred},DefsRep M μ a d->DefsRep b μ' a d
 |[],[],_=>trivial
 |_::_,_::_,⟨h,k⟩=>⟨h.mono c hμ,DefsRep.mono c hμ k⟩
theorem TmpsRep.mono{M b:Ak}{μ μ':Mu}(c:MLe M b)(hμ:MuLe μ μ'){t:T PV}{n:Nat}{a:Array Value}(h:TmpsRep M μ t n a):TmpsRep b μ' t n a:=
 ⟨h.1,h.2.1,λk=>(h.2.2 k).mono c hμ⟩
theorem BlkAt.mono{M A:Ak}{μ μ':Mu}(n:MLe M A)(hμ:MuLe μ μ'){r:Bk}{o:Option Obj}:∀ {b:Blk},BlkAt M μ r o b->BlkAt A μ' r o b
 |.box _ _,⟨C,arr,ty,f,d,g,q⟩=>⟨C,arr,ty,f,d,g,λi c v a b=>(q i c v a b).mono n hμ⟩
 |.row _ _ _,⟨arr,ty,f,d,g,q,u,w,s⟩=>⟨arr,ty,f,d,g,q,u,w,λi e j c v x y z=>⟨(s i e j c v x y z).1,(s i e j c v x y z).2.mono n hμ⟩⟩
 |.mp _,⟨p,m,f,d,g⟩=>⟨p,m,f,d,λi k v e x y=>⟨(g i k v e x y).1.mono n hμ,(g i k v e x y).2.mono n hμ⟩⟩
 |.lp _ _ _ _ _ _ _ _,⟨l,rd,f,d,t,g,q,u,w,s,D,E⟩=>⟨l,rd,f,d,t,g,q.mono n hμ,u,w,s,hμ _ _ D,E⟩
 |.df ds,⟨B,f,d⟩=>⟨B,f,by
   cases ds<;>cases B<;>first|trivial|exact d.elim|exact DefsRep.mono n hμ d⟩
 |.dead,_=>trivial
def GlOK(M:Ak):Prop:=∀ (g:Nat) (cs:List PV),Gl.g g=zo cs -> ∃ x:Nat->Value,(∀ (j:Nat) (c:PV),cs[j]?=zo c->M ⟨g,j,zn⟩=zo (x j))/\(∀ (j:Nat) (c:PV),cs[j]?=zo c->(x j).oneCell'=zt) /\ ∀ (j:Nat) (c:PV),cs[j]?=zo c->Rep M mu0 c (x j)
theorem GlOK.mono{M b:Ak}(h:GlOK M)(k:MLe M b):GlOK b:=λg cs e=>by
 obtain⟨x,d,f,i⟩:=h g cs e;exact⟨x,λj c a=>k _ _ (d j c a),f,λj c a=>(i j c a).mono k (MuLe.refl _)⟩
structure Sim (M:Ak) (μ:Mu) (h:Hp) (w:World):Prop where
 glb:GlOK M
 mem:∀ (a:Addr) (v:Value),M a=zo v->a.spot=zn/\w.cell? a=zo v
 blk:∀ (id:Nat) (b:Blk),h.get id=zo b -> ∃ r,μ id=zo r/\BlkAt M μ r w.heap[r.b]? b
 use:∀ (id:Nat) (r:Bk),μ id=zo r->h.get id≠zn/\r.b<w.heap.size
 inj:∀ (id id':Nat) (r r':Bk) (b b':Blk),μ id=zo r->μ id'=zo r'->h.get id=zo b->h.get id'=zo b'->b.live->b'.live->r.b=r'.b->id=id'
 sep:∀ (id:Nat) (r:Bk) (b:Blk) (a:Addr) (v:Value),h.get id=zo b->μ id=zo r->b.live->M a=zo v->a.block=r.b->K0 r a b
structure Grow (M:Ak) (μ:Mu) (w:World) (M':Ak) (μ':Mu) (w':World):Prop where
 m:MLe M M'
 u:MuLe μ μ'
 only:∀ (a:Addr) (v:Value),M' a=zo v->M a=zo v\/(∃ id r,μ id=zo r/\r.b=a.block)\/w.heap.size<=a.block
 fresh:∀ (id:Nat) (r:Bk),μ' id=zo r->(∃ id0 r0,μ id0=zo r0/\r0.b=r.b)\/w.heap.size<=r.b
 size:w.heap.size<=w'.heap.size
 keep:∀ b,b<w.heap.size->(∀ id r,μ id=zo r->r.b≠b)->w'.heap[b]?=w.heap[b]?
 os:w'.os=w.os
 output:w'.output=w.output
 tape:w'.tape=w.tape
 nf:∀ (b:Nat) (arr:Array Value) (ty:TypeId) (f:Nat×Nat),w'.heap[b]?=zo (.cells arr ty f)->f=(0,0) \/ ∃ arr0,w.heap[b]?=zo (.cells arr0 ty f)
theorem Grow.refl(M:Ak)(μ:Mu)(w:World):Grow M μ w M μ w:=
 ⟨.refl _,.refl _,λ_ _ h=>.inl h,λid r h=>.inl ⟨id,r,h,rfl⟩,ad _,λ_ _ _=>rfl,rfl,rfl,rfl,λ_ arr _ _ h=>.inr ⟨arr,h⟩⟩
theorem Grow.trans{M q s:Ak}{μ μ1 μ2:Mu}{w t x:World}(h:Grow M μ w q μ1 t)(k:Grow q μ1 t s μ2 x):Grow M μ w s μ2 x where
 m:=h.m.trans k.m
 u:=h.u.trans k.u
 only a v hv:=by
  rcases k.only a v hv with l|⟨c,n,g,d⟩|hl
  ·exact h.only a v l
  ·rcases h.fresh c n g with⟨i,p,l,e1⟩|hl
   ·exact .inr (.inl ⟨i,p,l,e1.trans d⟩)
   ·exact .inr (.inr (d ▸ hl))
  ·exact .inr (.inr (ax h.size hl))
 fresh id r o:=by
  rcases k.fresh id r o with⟨c,n,g,d⟩|hl
  ·rcases h.fresh c n g with⟨i,p,l,e1⟩|hl
   ·exact .inl ⟨i,p,l,e1.trans d⟩
   ·exact .inr (d ▸ hl)
  ·exact .inr (ax h.size hl)
 size:=ax h.size k.size
 keep b hb hn:=by
  rw[k.keep b (Nat.lt_of_lt_of_le hb h.size) ?_,h.keep b hb hn];intro id r o e;rcases h.fresh id r o with⟨c,n,g,d⟩|hl
  ·exact hn c n g (d.trans e)
  ·omega
 os:=k.os.trans h.os
 output:=k.output.trans h.output
 tape:=k.tape.trans h.tape
 nf b arr ty f hb:=by
  rcases k.nf b arr ty f hb with e|⟨j,g⟩
  ·exact .inl e
  ·exact h.nf b j ty f g
theorem Sim.drawn{M:Ak}{μ:Mu}{h:Hp}{w w':World}(s:Sim M μ h w)(e:w'.heap=w.heap):Sim M μ h w' where
 glb:=s.glb
 mem a v hm:=by
  have:=s.mem a v hm;refine⟨this.1,?_⟩;rw[<- this.2];simp only[World.cell?,e]
 blk id b hb:=by rw[e];exact s.blk id b hb
 use id r hr:=by rw[e];exact s.use id r hr
 inj:=s.inj
 sep:=s.sep
theorem Grow.drawn{M:Ak}{μ:Mu}{w w':World}(e:w'.heap=w.heap)(e1:w'.os=w.os)(e2:w'.output=w.output)(e3:w'.tape=w.tape):Grow M μ w M μ w':=
 ⟨.refl _,.refl _,λ_ _ h=>.inl h,λid r h=>.inl ⟨id,r,h,rfl⟩,by rw[e];exact ad _,λ_ _ _=>by rw[e],e1,e2,e3,λ_ arr _ _ h=>.inr ⟨arr,by rw[<- e];exact h⟩⟩
theorem Sim.nx{M:Ak}{μ:Mu}{h h':Hp}{w:World}(s:Sim M μ h w)(e:∀ k,h'.get k=h.get k):Sim M μ h' w where
 glb:=s.glb
 mem:=s.mem
 blk id b hb:=s.blk id b (by rw[<- e];exact hb)
 use id r hr:=by rw[e];exact s.use id r hr
 inj id id' r r' b b' a1 a2 a3 a4 a5 a6 a7:=s.inj id id' r r' b b' a1 a2 (by rw[<- e];exact a3) (by rw[<- e];exact a4) a5 a6 a7
 sep id r b a v a1 a2 a3 a4 a5:=s.sep id r b a v (by rw[<- e];exact a1) a2 a3 a4 a5
theorem cell?_eq{w:World}{a:Addr}{arr:Array Value}{ty:TypeId}{f:Nat×Nat}(h:w.heap[a.block]?=zo (.cells arr ty f))(hs:a.spot=zn):w.cell? a=arr[a.off]?:=by
 simp[World.cell?,h,hs]
theorem cell?_congr{w w':World}{a:Addr}(h:w'.heap[a.block]?=w.heap[a.block]?):w'.cell? a=w.cell? a:=by
 simp only[World.cell?,h]
theorem Sim.mem_lt{M:Ak}{μ:Mu}{h:Hp}{w:World}(s:Sim M μ h w){a:Addr}{v:Value}(b:M a=zo v):a.block<w.heap.size:=
 block_lt_of_cell (s.mem a v b).2
theorem Sim.update{M:Ak}{μ:Mu}{h h':Hp}{w w':World}{id:Nat}{b b':Blk}{r:Bk}(s:Sim M μ h w)
  (o:h.get id=zo b) (p:μ id=zo r) (c:b.live)
  (l:∀ k,h'.get k=if k=id then zo b' else h.get k)
  (u:∀ k,k≠r.b->w'.heap[k]?=w.heap[k]?) (q:w'.heap.size=w.heap.size)
  (n:BlkAt M μ r w'.heap[r.b]? b')
  (f:∀ (a:Addr) (v:Value),M a=zo v->a.block=r.b->w'.cell? a=zo v/\K0 r a b'):Sim M μ h' w' where
 glb:=s.glb
 mem a v hm:=by
  have m:=s.mem a v hm;by_cases e:a.block=r.b
  ·exact⟨m.1,(f a v hm e).1⟩
  ·exact⟨m.1,by rw[cell?_congr (u _ e)];exact m.2⟩
 blk k bk hk:=by
  rw[l]at hk;by_cases e:k=id
  ·rw[zy e]at hk;cases hk;subst e;exact⟨r,p,n⟩
  ·rw[zx e]at hk;obtain⟨d,j,i⟩:=s.blk k bk hk;refine⟨d,j,?_⟩;by_cases t:bk.live
   ·rw[u d.b λe2=>e (s.inj k id d r bk b j p hk o t c e2)];exact i
   ·cases bk<;>first|exact absurd trivial t|trivial
 use k d hk:=by
  have:=s.use k d hk;refine⟨?_,by rw[q];exact this.2⟩;rw[l];split<;>simp_all
 inj k k' d rk' bk bk' a1 a2 a3 a4 a5 a6 a7:=by
  rw[l]at a3 a4;by_cases e:k=id
  ·by_cases g:k'=id
   ·exact e.trans g.symm
   ·rw[zx g]at a4;subst e;exact s.inj _ _ d rk' b bk' a1 a2 o a4 c a6 a7
  ·rw[zx e]at a3;by_cases g:k'=id
   ·subst g;exact s.inj _ _ d rk' bk b a1 a2 a3 o a5 c a7
   ·rw[zx g]at a4;exact s.inj _ _ d rk' bk bk' a1 a2 a3 a4 a5 a6 a7
 sep k d bk a v a1 a2 a3 a4 a5:=by
  rw[l]at a1;by_cases e:k=id
  ·rw[zy e]at a1;cases a1;subst e;obtain rfl:r=d:=by rw[p]at a2;exact Option.some.inj a2
   exact(f a v a4 a5).2
  ·rw[zx e]at a1;exact s.sep k d bk a v a1 a2 a3 a4 a5
theorem Grow.update{M:Ak}{μ:Mu}{w w':World}{id:Nat}{r:Bk}(g:μ id=zo r)
  (c:∀ k,k≠r.b->w'.heap[k]?=w.heap[k]?) (i:w'.heap.size=w.heap.size) (e1:w'.os=w.os) (e2:w'.output=w.output) (e3:w'.tape=w.tape) (a:∀ arr ty f,w'.heap[r.b]?=zo (.cells arr ty f)->f=(0,0)):Grow M μ w M μ w':=
 ⟨.refl _,.refl _,λ_ _ h=>.inl h,λid r h=>.inl ⟨id,r,h,rfl⟩,by omega,λb _ d=>c b λe=>d id r g e.symm,e1,e2,e3,λb arr ty f h=>by
  by_cases e:b=r.b
  ·subst e;exact .inl (a arr ty f h)
  ·exact .inr ⟨arr,by rw[<- c b e];exact h⟩⟩
def DU(μ:Mu)(id:Nat)(r:Bk):Mu:=λk=>if k=id then zo r else μ k
theorem Dq{μ:Mu}{id:Nat}{r:Bk}(h:μ id=zn):MuLe μ (DU μ id r):=λk x a=>by
 unfold DU;split
 ·rename_i e;subst e;rw[h]at a;cases a
 ·exact a
theorem Sim.fresh{M:Ak}{μ:Mu}{h h':Hp}{w w':World}{id:Nat}{b:Blk}{r:Bk}{o:Obj}(s:Sim M μ h w)
  (P:h.get id=zn) (u:∀ k,h'.get k=if k=id then zo b else h.get k) (K:w'.heap=w.heap.push o) (J:r.b=w.heap.size)
  (I:BlkAt M (DU μ id r) r (zo o) b):Sim M (DU μ id r) h' w'/\μ id=zn:=by
 have hμ:μ id=zn:=by
  cases D:μ id with
  |none=>rfl
  |some x=>exact absurd P (s.use id x D).1
 have y:=Dq (r:=r) hμ;have l:∀ k,k<w.heap.size->w'.heap[k]?=w.heap[k]?:=λk c=>by rw[K,aV,zx (by omega)]
 have z:w'.heap[r.b]?=zo o:=by rw[K,J];simp
 have S:w'.heap.size=w.heap.size+1:=by rw[K];simp
 have f:∀ k x,DU μ id r k=zo x->(k=id/\x=r)\/(k≠id/\μ k=zo x):=by
  intro k x c;unfold DU at c;by_cases e:k=id
  ·rw[zy e]at c;exact .inl ⟨e,(Option.some.inj c).symm⟩
  ·rw[zx e]at c;exact .inr ⟨e,c⟩
 refine⟨?_,hμ⟩;constructor
 ·exact s.glb
 ·intro a v D;have N:=s.mem a v D;exact⟨N.1,by rw[cell?_congr (l _ (s.mem_lt D))];exact N.2⟩
 ·intro k p c;rw[u]at c;by_cases e:k=id
  ·rw[zy e]at c;cases c;exact⟨r,by simp[DU,e],by rw[z];exact I⟩
  ·rw[zx e]at c;obtain⟨d,A,t⟩:=s.blk k p c;exact⟨d,y _ _ A,by rw[l _ (s.use k d A).2];exact t.mono (.refl _) y⟩
 ·intro k d c;rcases f k d c with⟨e,rfl⟩|⟨e,c⟩
  ·exact⟨by rw[u,zy e];simp,by omega⟩
  ·have:=s.use k d c;exact⟨by rw[u,zx e];exact this.1,by omega⟩
 ·intro k E d i p G j g n m C O F;rw[u]at n m;rcases f k d j with⟨e,L⟩|⟨e,j⟩
  ·rcases f E i g with⟨q,B⟩|⟨q,g⟩
   ·exact e.trans q.symm
   ·have:=(s.use E i g).2;rw[<- F,L]at this;omega
  ·rcases f E i g with⟨q,B⟩|⟨q,g⟩
   ·have:=(s.use k d j).2;rw[F,B]at this;omega
   ·rw[zx e]at n;rw[zx q]at m;exact s.inj k E d i p G j g n m C O F
 ·intro k d p a v j g n m C;rw[u]at j;rcases f k d g with⟨e,L⟩|⟨e,g⟩
  ·have:=s.mem_lt m;rw[C,L]at this;omega
  ·rw[zx e]at j;exact s.sep k d p a v j g n m C
theorem Grow.newBlk{M:Ak}{μ:Mu}{w w':World}{id:Nat}{r:Bk}{o:Obj}(hμ:μ id=zn)(c:w'.heap=w.heap.push o)(d:r.b=w.heap.size)
  (e1:w'.os=w.os) (e2:w'.output=w.output) (e3:w'.tape=w.tape) (a:∀ arr ty f,o=.cells arr ty f->f=(0,0)):Grow M μ w M (DU μ id r) w' where
 m:=.refl _
 u:=Dq hμ
 only _ _ h:=.inl h
 fresh k x hk:=by
  unfold DU at hk;by_cases e:k=id
  ·rw[zy e]at hk;cases hk;exact .inr (by omega)
  ·rw[zx e]at hk;exact .inl ⟨k,x,hk,rfl⟩
 size:=by rw[c];simp
 keep b hb _:=by rw[c,aV,zx (by omega)]
 os:=e1
 output:=e2
 tape:=e3
 nf b arr ty f h:=by
  rw[c,aV]at h;split at h
  ·exact .inl (a arr ty f (Option.some.inj h))
  ·exact .inr ⟨arr,h⟩
def Dn(M:Ak)(b:Nat)(arr:Array Value):Ak:=λa=>if a.block=b then(if a.spot=zn then arr[a.off]? else zn)else M a
theorem Sim.data{M:Ak}{μ:Mu}{h:Hp}{w w':World}{arr:Array Value}{ty:TypeId}(s:Sim M μ h w)(o:w'.heap=w.heap.push (.cells arr ty (0,0))) :
  Sim (Dn M w.heap.size arr) μ h w'/\MLe M (Dn M w.heap.size arr):=by
 have c:∀ k,k<w.heap.size->w'.heap[k]?=w.heap[k]?:=λk l=>by rw[o,aV,zx (by omega)]
 have i:w'.heap[w.heap.size]?=zo (.cells arr ty (0,0)):=by rw[o];simp
 have d:MLe M (Dn M w.heap.size arr):=λa v b=>by
  unfold Dn;rw[zx (by have:=s.mem_lt b;omega)];exact b
 refine⟨?_,d⟩;constructor
 ·exact s.glb.mono d
 ·intro a v b;unfold Dn at b;by_cases e:a.block=w.heap.size
  ·rw[zy e]at b;by_cases hs:a.spot=zn
   ·rw[zy hs]at b;exact⟨hs,by rw[cell?_eq (by rw[e];exact i) hs];exact b⟩
   ·rw[zx hs]at b;cases b
  ·rw[zx e]at b;have r:=s.mem a v b;exact⟨r.1,by rw[cell?_congr (c _ (s.mem_lt b))];exact r.2⟩
 ·intro k n l;obtain⟨f,j,g⟩:=s.blk k n l;exact⟨f,j,by rw[c _ (s.use k f j).2];exact g.mono d (.refl _)⟩
 ·intro k f l;have:=s.use k f l;exact⟨this.1,by rw[o];simp;omega⟩
 ·exact s.inj
 ·intro k f n a v t p u m q;unfold Dn at m;rw[zx (by rw[q];have:=(s.use k f p).2;omega)]at m;exact s.sep k f n a v t p u m q
theorem Grow.data{M:Ak}{μ:Mu}{w w':World}{o:Obj}{arr:Array Value}(e:MLe M (Dn M w.heap.size arr))(d:w'.heap=w.heap.push o)(e1:w'.os=w.os)(e2:w'.output=w.output)(e3:w'.tape=w.tape)(c:∀ arr ty f,o=.cells arr ty f->f=(0,0)):Grow M μ w (Dn M w.heap.size arr) μ w':=
 ⟨e,.refl _,λa v h=>by
   unfold Dn at h;split at h
   ·exact .inr (.inr (by omega))
   ·exact .inl h,λid r h=>.inl ⟨id,r,h,rfl⟩,by rw[d];simp,λb g _=>by rw[d,aV,zx (by omega)],e1,e2,e3,λb arr ty f h=>by
    rw[d,aV]at h;split at h
    ·exact .inl (c arr ty f (Option.some.inj h))
    ·exact .inr ⟨arr,h⟩⟩
end
section
variable[Gl]
section
variable{P:Program}{M:Ak}{μ:Mu}{h:Hp}{w:World}
theorem AA{α β:Type}{o:Option α}{f:α->β}{b:β}(e:o.map f=zo b):∃ a,o=zo a/\f a=b:=by
 cases o with
 |none=>cases e
 |some a=>exact⟨a,rfl,by simpa using e⟩
theorem CP{t:T PV}{nt:Nat}{a:Act}{o:Operand}{p:PV}(b:GlOK M)(r:TmpsRep M μ t nt a.tmps)(e:B1 t o=zo p):Rep M μ p (a.eval o):=by
 cases o with
 |tmp k=>simp only[B1,Option.some.injEq]at e;subst e;exact r.2.2 k
 |const v=>exact Lm e M μ
 |global g=>
  obtain⟨cs,hc,rfl⟩:=AA e;obtain⟨x,d,m,n⟩:=b g cs hc;have:(λj=>(⟨g,0+j,zn⟩:Addr))=λj=>⟨g,j,zn⟩:=by funext j;rw[aN]
  exact .view _ cs g 0 x (λj c h=>by rw[aN];exact d j c h) m n
 |func f=>
  simp only[B1,Option.some.injEq]at e;subst e;exact .fn _ _ [] [] #[] #[] (by intro l q;cases q) rfl rfl (λi c v h=>by simp at h) (λi c v h=>by simp at h)
theorem IL{t:T PV}{nt:Nat}{a:Act}(c:GlOK M)(d:TmpsRep M μ t nt a.tmps):∀ {l:List Operand} {b:List PV},MF t l=zo b->RepL M μ b (l.map a.eval)
 |[],b,e=>by cases e;exact RepL.nil _ _
 |o::l,b,e=>by
  unfold MF at e;split at e
  ·rename_i p q f g;cases e;exact RepL.cons (CP c d f) (IL c d g)
  ·cases e
def Hr(M:Ak)(μ:Mu)(w:World)(b off:Nat)(cs:List PV):Prop:=
 ∀ (j:Nat) (c:PV),cs[j]?=zo c -> ∃ x,w.cell? ⟨b,off+j,zn⟩=zo x/\x.oneCell'=zt/\Rep M μ c x
theorem Bo(b off n:Nat):(⟨b,off,zn⟩:Addr).add n=⟨b,off+n,zn⟩:=by
 unfold Addr.add;split<;>simp_all
theorem EO{ty:TypeId}{b off:Nat}{cs:List PV}{p:PV}(hc:Hr M μ w b off cs)(e:Pi.part P ty cs=zo p) :
  ∃ v,(loadVar ty ⟨b,off,zn⟩).run P w=.ok v w/\Rep M μ p v:=by
 unfold Pi.part at e;split at e
 ·rename_i n d o;cases s:ah n cs.length with
  |false=>rw[s]at e;cases e
  |true=>
   rw[s]at e;cases e;have C:n<=cs.length:=aq s
   have t:∃ f:Nat->Value,∀ j,j<n->w.cell? ⟨b,off+j,zn⟩=zo (f j)/\(f j).oneCell'=zt /\ ∀ c,cs[j]?=zo c->Rep M μ c (f j):=by
    have:∀ j,∃ x:Value,j<n->w.cell? ⟨b,off+j,zn⟩=zo x/\x.oneCell'=zt /\ ∀ c,cs[j]?=zo c->Rep M μ c x:=by
     intro j;by_cases m:j<n
     ·obtain⟨x,a,A,r⟩:=hc j cs[j] (ae (by omega));exact⟨x,λ_=>⟨a,A,λc l=>by rw[ae (by omega)]at l;cases l;exact r⟩⟩
     ·exact⟨undef,λh=>absurd h m⟩
    exact⟨λj=>Classical.choose (this j),λj m=>Classical.choose_spec (this j) m⟩
   obtain⟨f,u⟩:=t;refine⟨.agg ((List.range n).map f).toArray,?_,?_⟩
   ·have B:=run_loadCells (P:=P) w ⟨b,off,zn⟩ n f (λj m=>by rw[Bo];exact(u j m).1);simp[loadVar,H2 d,Ac o,B]
   ·refine .agg _ _ _ (by simp;omega) (λi v q=> ?_) (λi c v g q=> ?_)
    ·simp at q;obtain⟨k,y,rfl⟩:=q;obtain⟨a,rfl⟩:=ab.1 y;simp at a;simpa using(u _ (by simpa using a)).2.1
    ·simp at q;obtain⟨k,y,rfl⟩:=q;obtain⟨a,rfl⟩:=ab.1 y;simp at a;rw[aA,zy a]at g;simpa using(u _ a).2.2 c g
 ·rename_i n d o;split at e
  ·rename_i c z;cases e;obtain⟨x,a,_,r⟩:=hc 0 p rfl;exact⟨x,by simp[loadVar,H2 d];simp only[bg]at a;simp[a],r⟩
  ·cases e
 ·cases e
theorem Dp{b:Nat}{ty:TypeId}(vs:List Value):∀ (w:World) (arr:Array Value) (off i:Nat),w.heap[b]?=zo (.cells arr ty (0,0))->off+i+vs.length<=arr.size->(∀ v∈vs,v.oneCell'=zt) ->
  ∃ w' c,(storeCells ⟨b,off,zn⟩ vs i).run P w=.ok () w'/\w'.heap[b]?=zo (.cells c ty (0,0))/\c.size=arr.size /\
   (∀ j,c[j]?=if off+i<=j/\j<off+i+vs.length then vs[j-(off+i)]? else arr[j]?)/\(∀ k,k≠b->w'.heap[k]?=w.heap[k]?)/\w'.heap.size=w.heap.size /\
   w'.os=w.os/\w'.output=w.output/\w'.tape=w.tape/\w'.drawn=w.drawn:=by
 induction vs with
 |nil=>
  intro w arr off i f _ _;exact⟨w,arr,by simp[storeCells],f,rfl,λj=>by simp;intro a b;omega,λ_ _=>rfl,rfl,rfl,rfl,rfl,rfl⟩
 |cons v vs G=>
  intro w arr off i f n q;simp only[aR]at n;have m:off+i<arr.size:=by omega
  have d:w.cell? ⟨b,off+i,zn⟩=zo arr[off+i]:=by
   rw[cell?_eq (a:=⟨b,off+i,zn⟩) f rfl];exact al m
  have l:w.frozen? ⟨b,off+i,zn⟩=zf:=by simp[World.frozen?,f]
  have p:v.oneCell'=zt:=q v (by simp)
  have o:(store ⟨b,off+i,zn⟩ v).run P w=.ok () (w.setCell ⟨b,off+i,zn⟩ v):=by
   rw[run_store _ _ _ _ _ p,d];simp[l]
  have h:(w.setCell ⟨b,off+i,zn⟩ v).heap[b]?=zo (.cells (arr.setIfInBounds (off+i) v) ty (0,0)):=heap_setCell_same w b (off+i) arr ty v f;obtain⟨w',c,E,t,u,y,z,A,B,C,D,g⟩:=G (w.setCell ⟨b,off+i,zn⟩ v) _ off (i+1) h (by simp;omega) (λx F=>q x (by simp[F]));refine⟨w',c,?_,t,by rw[u];simp,λj=> ?_,λk s=> ?_,by rw[A];simp,by rw[B];rfl,by rw[C];rfl,by rw[D];rfl,by rw[g];rfl⟩
  ·simp only[storeCells,Sem.run_bind,Bo,o,Result.andThen,E]
  ·rw[y j];by_cases r:off+(i+1)<=j/\j<off+(i+1)+vs.length
   ·rw[zy r,zy (by simp;omega)];have:j-(off+i)=(j-(off+(i+1)))+1:=by omega
    rw[this,bJ]
   ·rw[zx r,aO];by_cases e:off+i=j
    ·rw[zy e,zy (by omega),zy (by simp;omega)];subst e;simp
    ·rw[zx e,zx (by simp;omega)]
  ·rw[z k s];exact heap_setCell_other w _ k v (by simpa using s)
theorem IZ(cs:List PV)(off:Nat)(x:List PV)(c:off+x.length<=cs.length)(j:Nat) :
  (BU cs off x)[j]?=if off<=j/\j<off+x.length then x[j-off]? else cs[j]?:=by
 unfold BU;rw[aU,aX,Nat.min_eq_left (by omega)];by_cases a:j<off
 ·rw[zy a,zx (by omega),aA,zy a]
 ·rw[zx a,aU];by_cases b:j-off<x.length
  ·rw[zy b,zy (by omega)]
  ·rw[zx b,zx (by omega),aM];congr 1;omega
theorem Ew(cs:List PV)(off:Nat)(x:List PV)(a:off+x.length<=cs.length):(BU cs off x).length=cs.length:=by
 unfold BU;simp;omega
theorem AN{α:Type}:∀ (l:List α) (k:Nat),lget l k=l[k]?
 |[],k=>by simp[lget]
 |a::l,0=>by simp[lget]
 |a::l,k+1=>by simp[lget,Fi (de k),AN l k]
theorem AT{α:Type}:∀ (l:List α) (k:Nat) (x:α),lset l k x=l.set k x
 |[],k,x=>by simp[lset]
 |a::l,0,x=>by simp[lset]
 |a::l,k+1,x=>by simp[lset,Fi (de k),AT l k x]
theorem Ja(s:Sim M μ h w){j off:Nat}{cs:List PV}{fz:Bool}(n:h.get j=zo (.box cs fz)):∃ r,μ j=zo r/\Hr M μ w r.b (r.base+off) (cs.drop off):=by
 obtain⟨r,o,f,arr,ty,g,i,l,m⟩:=s.blk j _ n;refine⟨r,o,λk c e=> ?_⟩;rw[aM]at e;have d:off+k<arr.size:=by rw[i];exact(ab.1 e).1
 refine⟨arr[off+k],?_,l _ _ (al d),m _ _ _ e (al d)⟩;rw[cell?_eq (a:=⟨r.b,r.base+off+k,zn⟩) g rfl,f,aN];exact al d
theorem HN{r:Bk}{es:List PV}{i:Nat}{e:PV}{j n:Nat}(a:es.length<=r.cap)(f:r.base+r.cap*r.esz<=n)(b:es[i]?=zo e)(d:e.cells.length=r.esz)(c:j<e.cells.length):r.base+i*r.esz+j<n:=by
 have hi:i<es.length:=(ab.1 b).1;have:(i+1)*r.esz<=r.cap*r.esz:=aC _ (by omega);rw[aG]at this;omega
theorem OP(s:Sim M μ h w){j i off:Nat}{es:List PV}{ex fz:Bool}{e:PV}(u:h.get j=zo (.row es ex fz))(d:es[i]?=zo e):∃ r,μ j=zo r/\Hr M μ w r.b (r.base+i*r.esz+off) (e.cells.drop off):=by
 obtain⟨r,x,arr,ty,n,o,p,y,z,q,t⟩:=s.blk j _ u;refine⟨r,x,λk c f=> ?_⟩;rw[aM]at f;have g:=(ab.1 f).1;have l:r.base+i*r.esz+(off+k)<arr.size:=HN p o d (q i e d) g;have m:=al l;have:=t i e (off+k) c _ d f m;refine⟨_,?_,this.1,this.2⟩;rw[cell?_eq (a:=⟨r.b,r.base+i*r.esz+off+k,zn⟩) n rfl,aH (r.base+i*r.esz) off k];exact m
theorem NH(s:Sim M μ h w){cs:List PV}{b off:Nat}{x:Nat->Value}
  (e:∀ (j:Nat) (c:PV),cs[j]?=zo c->M ⟨b,off+j,zn⟩=zo (x j)) (d:∀ (j:Nat) (c:PV),cs[j]?=zo c->(x j).oneCell'=zt)
  (f:∀ (j:Nat) (c:PV),cs[j]?=zo c->Rep M mu0 c (x j)):Hr M μ w b off cs:=
 λj c a=>⟨x j,(s.mem _ _ (e j c a)).2,d j c a,(f j c a).mono (.refl _) (.mu0 _)⟩
end
end
section
variable[Gl]
section
variable{P:Program}{M:Ak}{μ:Mu}{h:Hp}{w:World}
def Bm(P:Program)(M:Ak)(μ:Mu)(w:World)(a:Result Next):R->Prop
 |.val v h'=>∃ e μ' w' x,a=.ok (.value x) w'/\Sim e μ' h' w'/\Grow M μ w e μ' w'/\Rep e μ' v x
 |.skip h'=>∃ e μ' w',a=.ok .skip w'/\Sim e μ' h' w'/\Grow M μ w e μ' w'
 |.call f args=>∃ vs:List Value,a=.ok (.enter f vs.toArray) w/\RepL M μ args vs /\ ∃ g c,P.funcs[f]?=zo g/\g.body=zo c
 |.yield id args=>∃ (vs:List Value) (r:Bk),μ id=zo r/\a=(Instr.yield r.b vs.toArray).run P w/\RepL M μ args vs
 |.pan v=>∃ x,a=.halt (.panic x) w/\Rep M μ v x
 |.rcv=>a=.ok .recover w
 |.dfr d=>∃ D,a=.ok (.defer D) w/\DefRep M μ d D
theorem AC(s:Sim M μ h w){v:PV}{x:Value}{a:Sem Value}(e:a.run P w=.ok x w)(b:Rep M μ v x) :
  Bm P M μ w ((do pure (.value (<- a)):Sem Next).run P w) (.val v h):=
 ⟨M,μ,w,x,by simp[e],s,.refl _ _ _,b⟩
theorem Dh{o:Option PV}{r:R}(e:vl o h=zo r):∃ v,o=zo v/\r=.val v h:=by
 unfold vl at e;cases o with
 |none=>cases e
 |some v=>cases e;exact⟨v,rfl,rfl⟩
theorem Q9(s:Sim M μ h w){ty:TypeId}{p:PV}{x:Value}(k:Rep M μ p x){r:R}
  (e:CD P h ty p=zo r):Bm P M μ w ((do pure (.value (<- Instr.loadAt ty x)):Sem Next).run P w) r:=by
 unfold CD at e;split at e
 ·rename_i j off;split at e
  ·rename_i cs fz g;obtain⟨v,d,rfl⟩:=Dh e;cases k with
   |ptr _ _ _ r hr=>
    obtain⟨m,a,hc⟩:=Ja s (off:=off) g;rw[hr]at a;cases a;obtain⟨y,f,c⟩:=EO hc d;exact AC s (by simp[Instr.loadAt,Instr.sureAddr,f]) c
  ·cases e
 ·rename_i cs;obtain⟨v,d,rfl⟩:=Dh e;cases k with
  |view _ _ b off x hm h1 hr=>
   obtain⟨y,f,c⟩:=EO (NH s hm h1 hr) d;exact AC s (by simp[Instr.loadAt,Instr.sureAddr,f]) c
 ·rename_i j i off;split at e
  ·rename_i es ex fz g;split at e
   ·rename_i n l;rw[AN]at l;obtain⟨v,d,rfl⟩:=Dh e;cases k with
    |ept _ _ _ _ r hr=>
     obtain⟨m,a,hc⟩:=OP s (off:=off) g l;rw[hr]at a;cases a;obtain⟨y,f,c⟩:=EO hc d;exact AC s (by simp[Instr.loadAt,Instr.sureAddr,f]) c
   ·cases e
  ·cases e
 ·cases e
theorem Cn{v:PV}{n:Nat}(h:v.cells.length=n)(a:0<n):∀ cs,v ≠ .tup cs:=by
 intro cs e;subst e;simp[PV.cells]at h;omega
theorem Oz(s:Sim M μ h w){j off:Nat}{cs:List PV}{v:PV}{x:Value}{ty n:Nat}{h':Hp}{r:Bk}(u:μ j=zo r)(z:h.get j=zo (.box cs zf))
  (U:Rep M μ v x) (B:AU P ty=zo n) (p:v.cells.length=n) (A:0<n) (O:off+n<=cs.length) (hs:h.set j (.box (BU cs off v.cells) zf)=zo h') :
  Bm P M μ w ((do Instr.storeAt ty (.pointer (zo ⟨r.b,r.base+off,zn⟩)) x;pure .skip:Sem Next).run P w) (.skip h'):=by
 obtain⟨r',q,C,arr,m,J,D,K,L⟩:=s.blk j _ z;rw[u]at q;cases q;obtain⟨hc,g⟩:=U.cells (Cn p A);have e:x.cells.toList.length=n:=by rw[<- hc.1];exact p
 have k:x.cells.size=n:=by simpa using e
 obtain⟨w',l,t,E,W,F,G,I,X,Y,Z,k9⟩:=Dp (P:=P) (ty:=m) x.cells.toList w arr off 0 J (by rw[e,D];omega)
  (λy d=>by obtain⟨i,hi⟩:=bw.1 d;exact g i y (by simpa using hi))
 refine⟨M,μ,w',?_,?_,Grow.update u G I X Y Z (λarr ty f h=>by rw[E]at h;cases h;rfl)⟩
 ·simp only[C,aN];simp[Instr.storeAt,Instr.sureAddr,storeVar,Ac B,k,t]
 ·refine s.update z u trivial (Hp.get_set hs).1 G I ?_ ?_
  ·refine⟨C,l,m,E,?_,?_,?_⟩
   ·rw[W,D,Ew];rw[p];omega
   ·intro i y d;rw[F]at d;split at d
    ·exact g _ y (by simpa using d)
    ·exact K i y d
   ·intro i c y hi d;rw[IZ _ _ _ (by rw[p];omega)]at hi;rw[F]at d;rw[e]at d;rw[p]at hi;simp only[bg]at d;by_cases o:off<=i/\i<off+n
    ·rw[zy o]at hi d;exact hc.2 _ c y hi d
    ·rw[zx o]at hi d;exact L i c y hi d
  ·intro a y S N;have:=s.sep j r _ a y z u trivial S N;exact absurd this (by simp[K0])
theorem F6{i k j j' z:Nat}(f:j<z)(a:j'<z)(e:i*z+j=k*z+j'):i=k/\j=j':=by
 have c:0<z:=by omega
 have b:(i*z+j) / z=i:=by rw[cb,dh c];simp[db f]
 have d:(k*z+j') / z=k:=by rw[cb,dh c];simp[db a]
 rw[e,d]at b;subst b;exact⟨rfl,by omega⟩
theorem Jl(s:Sim M μ h w){j i off:Nat}{es:List PV}{ex:Bool}{D B:PV}{v:PV}{x:Value}{ty n:Nat}{h':Hp}{r:Bk}(K:μ j=zo r)(N:h.get j=zo (.row es ex zf))
  (J:es[i]?=zo D) (t:B.cells=BU D.cells off v.cells)
  (hx:Rep M μ v x) (Y:AU P ty=zo n) (W:v.cells.length=n) (X:0<n) (hle:off+n<=D.cells.length) (hs:h.set j (.row (lset es i B) ex zf)=zo h') :
  Bm P M μ w ((do Instr.storeAt ty (.pointer (zo ⟨r.b,r.base+i*r.esz+off,zn⟩)) x;pure .skip:Sem Next).run P w) (.skip h'):=by
 obtain⟨r',G,arr,F,h1,h2,Z,h4,h5,L,h7⟩:=s.blk j _ N;rw[K]at G;cases G;obtain⟨hc,A⟩:=hx.cells (Cn W X);have q:x.cells.toList.length=n:=by rw[<- hc.1];exact W
 have C:x.cells.size=n:=by simpa using q
 have hi:i<es.length:=(ab.1 J).1;have u:=L i D J;have hin:r.base+i*r.esz+(off+n-1)<arr.size:=HN Z h2 J u (by omega)
 obtain⟨w',E,I,k1,k2,k3,k4,k5,k6,k7,k8,k9⟩:=Dp (P:=P) (ty:=F) x.cells.toList w arr (r.base+i*r.esz+off) 0 h1 (by rw[q];omega)
  (λy p=>by obtain⟨i,hi⟩:=bw.1 p;exact A i y (by simpa using hi))
 have S:B.cells.length=D.cells.length:=by rw[t,Ew];omega
 refine⟨M,μ,w',?_,?_,Grow.update K k4 k5 k6 k7 k8 (λarr ty f h=>by rw[k1]at h;cases h;rfl)⟩
 ·simp[Instr.storeAt,Instr.sureAddr,storeVar,Ac Y,C,I]
 ·refine s.update N K trivial (Hp.get_set hs).1 k4 k5 ?_ ?_
  ·refine⟨E,F,k1,by omega,by simpa[AT]using Z,by simpa[AT]using h4,h5,?_,?_⟩
   ·intro k e l;rw[AT,a9]at l;by_cases g:i=k
    ·rw[zy g,zy hi]at l;cases l;rw[S];exact u
    ·rw[zx g]at l;exact L k e l
   ·intro k e m c y l o p
    have U:m<r.esz:=by
     rw[AT,a9]at l;have:=(ab.1 o).1;by_cases g:i=k
     ·rw[zy g,zy hi]at l;cases l;omega
     ·rw[zx g]at l;have:=L k e l;omega
    rw[AT,a9]at l;rw[k3,q]at p;simp only[bg]at p;by_cases g:i=k
    ·rw[zy g,zy hi]at l;cases l;subst g;rw[t,IZ _ _ _ (by omega),W]at o;by_cases z:off<=m/\m<off+n
     ·rw[zy z]at o;rw[zy (by omega)]at p;have e1:r.base+i*r.esz+m-(r.base+i*r.esz+off)=m-off:=by omega
      rw[e1]at p;exact⟨A (m-off) y (by simpa using p),hc.2 _ c y o p⟩
     ·rw[zx z]at o;rw[zx (by omega)]at p;exact h7 i D m c y J o p
    ·rw[zx g]at l;rw[zx ?_]at p
     ·exact h7 k e m c y l o p
     ·intro hcon;have hd:∃ d,d<r.esz/\r.base+k*r.esz+m=r.base+i*r.esz+d:=⟨r.base+k*r.esz+m-(r.base+i*r.esz),by omega,by omega⟩;obtain⟨d,O,hd2⟩:=hd;exact g (F6 (i:=k) (k:=i) U O (by omega)).1.symm
  ·intro a y U ha;have:=s.sep j r _ a y N K trivial U ha;exact absurd this (by simp[K0])
theorem JV(s:Sim M μ h w){id:Nat}{cs:List PV}{arr:Array Value}{ty:TypeId}{h':Hp}(d:RepL M μ cs arr.toList)(e:∀ (i:Nat) (v:Value),arr[i]?=zo v->v.oneCell'=zt)
  (g:h.new id (.box cs zf)=zo h') :
  Bm P M μ w ((do pure (.value (<- (do pure (.pointer (zo (<- newRow ty arr))):Sem Value))):Sem Next).run P w) (.val (.ptr id 0) h'):=by
 obtain⟨a,b,_⟩:=Hp.get_new g
 have hμ:μ id=zn:=by
  cases f:μ id with
  |none=>rfl
  |some x=>exact absurd a (s.use id x f).1
 have hS:=s.fresh (w':=w.alloc (.cells arr ty)) (r:=⟨w.heap.size,0,0,0⟩) (o:=.cells arr ty (0,0)) a b rfl rfl
  ⟨rfl,arr,ty,rfl,by simpa using d.1.symm,e,λi c v hc j=>(d.2 i c v hc (by simpa using j)).mono (.refl _) (Dq hμ)⟩
 refine⟨M,DU μ id ⟨w.heap.size,0,0,0⟩,w.alloc (.cells arr ty),.pointer (zo ⟨w.heap.size,0,zn⟩),?_,hS.1,Grow.newBlk hμ rfl rfl rfl rfl rfl (λ_ _ _ h=>by cases h;rfl),?_⟩
 ·simp[newRow]
 ·exact .ptr _ _ _ ⟨w.heap.size,0,0,0⟩ (by simp[DU])
theorem G9(x:Array Value)(off:Nat):∀ (n:Nat) (l:List (Value×Nat)) (cells:Array Value),(∀ i v,l[i]?=zo v->v.2=n+i) ->
  (l.foldl (λcs (p:Value×Nat)=>cs.setIfInBounds (off+p.2) p.1) cells).size=cells.size /\
  ∀ k,off+n+l.length<=cells.size->(l.foldl (λcs (p:Value×Nat)=>cs.setIfInBounds (off+p.2) p.1) cells)[k]?=if off+n<=k/\k<off+n+l.length then(l[k-(off+n)]?).map (·.1)else cells[k]?
 |n,[],cells,_=>⟨rfl,λk _=>by simp;intro a b;omega⟩
 |n,p::l,cells,hl=>by
  have f:=hl 0 p rfl;have e:=G9 x off (n+1) l (cells.setIfInBounds (off+p.2) p.1) (λi v h=>by have:=hl (i+1) v (by simpa using h);omega);simp only[da];refine⟨by rw[e.1];simp,λk g=> ?_⟩;simp only[aR]at g ⊢;rw[e.2 k (by simp;omega)];by_cases d:off+(n+1)<=k/\k<off+(n+1)+l.length
  ·rw[zy d,zy (by omega)];have:k-(off+n)=(k-(off+(n+1)))+1:=by omega
   rw[this,bJ]
  ·rw[zx d,aO,f];by_cases c:off+(n+0)=k
   ·rw[zy c,zy (by omega),zy (by omega)];subst c;simp
   ·rw[zx c,zx (by omega)]
theorem E5(x:Array Value)(off:Nat)(cells:Array Value)(c:off+x.size<=cells.size)(k:Nat) :
  (x.zipIdx.foldl (λcs (p:Value×Nat)=>cs.setIfInBounds (off+p.2) p.1) cells)[k]?=if off<=k/\k<off+x.size then x[k-off]? else cells[k]?:=by
 rw[<- cI];have:=(G9 x off 0 x.zipIdx.toList cells (λi v b=>by simp at b;obtain⟨a,d,rfl⟩:=b;simp)).2 k (by simp;omega);rw[this];simp;split
 ·cases x[k-off]?<;>rfl
 ·rfl
theorem EE(x:Array Value)(off:Nat)(cells:Array Value) :
  (x.zipIdx.foldl (λcs (p:Value×Nat)=>cs.setIfInBounds (off+p.2) p.1) cells).size=cells.size:=by
 rw[<- cI];exact(G9 x off 0 x.zipIdx.toList cells (λi v b=>by simp at b;obtain⟨a,c,rfl⟩:=b;simp)).1
inductive PartsAt (M:Ak) (μ:Mu) (place:Nat->Option (Nat×Nat)):List (Nat×Value)->List (Nat×Nat×List PV)->Prop
 |nil:PartsAt M μ place [] []
 |cons (i:Nat) (v:Value) (p:PV) (off n:Nat) (l:List (Nat×Value)) (m:List (Nat×Nat×List PV)) (hp:place i=zo (off,n)) (hr:Rep M μ p v) (hn:0<n)
   (h:PartsAt M μ place l m):PartsAt M μ place ((i,v)::l) ((off,n,p.cells)::m)
theorem NS{d:Nat->Option (Nat×Nat)}{l:List (Nat×Value)}{m:List (Nat×Nat×List PV)}(E:PartsAt M μ d l m) :
  ∀ {cs f:List PV} {cells:Array Value},RepL M μ cs cells.toList->(∀ (i:Nat) (v:Value),cells[i]?=zo v->v.oneCell'=zt)->Fc cs m=zo f ->
   ∃ a,Instr.fill d cells l=zo a/\RepL M μ f a.toList/\(∀ (i:Nat) (v:Value),a[i]?=zo v->v.oneCell'=zt):=by
 induction E with
 |nil=>intro cs f cells u w e;simp[Fc]at e;subst e;exact⟨cells,by simp[Instr.fill],u,w⟩
 |cons i v p off n l m hpl hrp hn0 _ ih=>
  intro cs f cells u w e;unfold Fc at e;cases hc:(aa p.cells.length n&&ah (off+n) cs.length)with
  |false=>rw[hc]at e;cases e
  |true=>
   rw[hc]at e;simp at hc;obtain⟨h,C⟩:=hc;obtain⟨o,s⟩:=hrp.cells (Cn h hn0);have t:v.cells.size=n:=by have:=o.1;rw[h]at this;simpa using this.symm
   have g:cells.size=cs.length:=by simpa using u.1.symm
   have r:off+v.cells.size<=cells.size:=by omega
   have A:RepL M μ (BU cs off p.cells) (v.cells.zipIdx.foldl (λcs (p:Value×Nat)=>cs.setIfInBounds (off+p.2) p.1) cells).toList:=by
    refine⟨?_,λk c y j b=> ?_⟩
    ·rw[Ew _ _ _ (by omega)];exact g.symm.trans ((EE v.cells off cells).symm.trans (Array.length_toList (xs:=_)).symm)
    ·rw[IZ _ _ _ (by omega)]at j;simp only[bm]at b;rw[E5 _ _ _ r,t]at b;rw[h]at j;by_cases q:off<=k/\k<off+n
     ·rw[zy q]at j b;exact o.2 _ c y j (by simpa using b)
     ·rw[zx q]at j b;exact u.2 k c y j (by simpa using b)
   have B:∀ (i:Nat) (y:Value),(v.cells.zipIdx.foldl (λcs (p:Value×Nat)=>cs.setIfInBounds (off+p.2) p.1) cells)[i]?=zo y->y.oneCell'=zt:=by
    intro k y b;rw[E5 _ _ _ r]at b;split at b
    ·exact s _ y b
    ·exact w k y b
   obtain⟨a,D,z,x⟩:=ih A B e;refine⟨a,?_,z,x⟩;unfold Instr.fill;rw[hpl];simp only[t];rw[zx (by simp;omega)];exact D
end
end
section
variable[Gl]
section
variable{P:Program}{M:Ak}{μ:Mu}{h:Hp}{w:World}
def Jp(r:Bk)(a:Addr):Blk->Prop
 |.box _ _=>True
 |.row es _ _=>a.off<r.base+es.length*r.esz
 |_=>False
def NI(h:Hp)(μ:Mu)(L:List Nat)(a:Addr):Prop:=∃ id∈L,∃ r b,μ id=zo r/\h.get id=zo b/\a.block=r.b/\a.spot=zn/\Jp r a b
def J7(r:Bk)(a:Addr):Blk->Bool
 |.box _ _=>zt
 |.row es _ _=>af a.off (r.base+es.length*r.esz)
 |_=>zf
def Na(h:Hp)(μ:Mu)(L:List Nat)(a:Addr):Bool:=L.any λid=>match μ id,h.get id with
 |some r,zo b=>aa a.block r.b&&a.spot.isNone&&J7 r a b
 |_,_=>zf
theorem Ha{r:Bk}{a:Addr}{b:Blk}:J7 r a b=zt<->Jp r a b:=by
 cases b<;>simp[J7,Jp]
theorem JR{h:Hp}{μ:Mu}{L:List Nat}{a:Addr}:Na h μ L a=zt<->NI h μ L a:=by
 unfold Na NI;rw[List.any_eq_true];constructor
 ·rintro⟨id,c,d⟩;split at d
  ·rename_i r b f e;simp only[ac,bI]at d;exact⟨id,c,r,b,f,e,d.1.1,by simpa using d.1.2,Ha.1 d.2⟩
  ·cases d
 ·rintro⟨id,c,r,b,f,e,g,i,j⟩;refine⟨id,c,?_⟩;simp only[f,e,ac,bI];exact⟨⟨g,by rw[i];rfl⟩,Ha.2 j⟩
def HZ(M:Ak)(h:Hp)(μ:Mu)(w:World)(L:List Nat):Ak:=λa=>match M a with
 |some v=>zo v
 |none=>if Na h μ L a then w.cell? a else zn
theorem C2(L:List Nat):MLe M (HZ M h μ w L):=λa v e=>by simp[HZ,e]
theorem IR(s:Sim M μ h w){L:List Nat}{a:Addr}{v:Value}(hi:NI h μ L a)(hc:w.cell? a=zo v):HZ M h μ w L a=zo v:=by
 unfold HZ;cases e:M a with
 |some x=>have:=(s.mem a x e).2;rw[hc]at this;simp[this]
 |none=>simp[JR.2 hi,hc]
theorem De{L:List Nat}{a:Addr}{v:Value}(e:HZ M h μ w L a=zo v):M a=zo v\/(NI h μ L a/\w.cell? a=zo v):=by
 unfold HZ at e;cases b:M a with
 |some x=>rw[b]at e;exact .inl e
 |none=>
  rw[b]at e;simp only at e;split at e
  ·rename_i hi;exact .inr ⟨JR.1 hi,e⟩
  ·cases e
theorem J8(s:Sim M μ h w){L:List Nat}{a:Addr}{v:Value}(e:HZ M h μ w L a=zo v):a.spot=zn/\w.cell? a=zo v:=by
 rcases De e with e|⟨⟨_,_,_,_,_,_,_,hs,_⟩,hc⟩
 ·exact s.mem a v e
 ·exact⟨hs,hc⟩
theorem DC{f:PV->Option (PV×List Nat)}:∀ {d c:List PV} {l:List Nat},AB f d=zo (c,l) ->
  c.length=d.length /\ ∀ (i:Nat) (p:PV),d[i]?=zo p -> ∃ q l',f p=zo (q,l')/\c[i]?=zo q /\ ∀ x∈l',x∈l
 |[],c,l,e=>by
  simp[AB]at e;obtain⟨rfl,rfl⟩:=e;exact⟨rfl,λi p r=>by simp at r⟩
 |p::d,c,l,e=>by
  unfold AB at e;split at e
  ·rename_i q a w b j k;cases e;obtain⟨s,t⟩:=DC k;refine⟨by simp[s],λi x g=> ?_⟩;cases i with
   |zero=>simp at g;subst g;exact⟨q,a,j,rfl,λy h=>ao _ h⟩
   |succ i=>
    obtain⟨u,l',m,n,o⟩:=t i x (by simpa using g);exact⟨u,l',m,by simpa using n,λy h=>am _ (o y h)⟩
  ·cases e
theorem CK{n:Nat}{p q:PV}{l:List Nat}(e:AV h n p=zo (q,l)) :
  q.cells.length=p.cells.length /\ ∀ (j:Nat) (c:PV),p.cells[j]?=zo c -> ∃ m k l',m<=n/\AV h m c=zo (k,l')/\q.cells[j]?=zo k /\ ∀ x∈l',x∈l:=by
 have d:p.cells=[p]->q.cells=[q]->q.cells.length=p.cells.length /\ ∀ (j:Nat) (c:PV),p.cells[j]?=zo c -> ∃ m k l',m<=n/\AV h m c=zo (k,l')/\q.cells[j]?=zo k /\ ∀ x∈l',x∈l:=by
  intro o r;rw[o,r];refine⟨rfl,λj c hc=> ?_⟩;cases j with
  |zero=>simp at hc;subst hc;exact⟨n,q,l,ad _,e,rfl,λ_ h=>h⟩
  |succ j=>simp at hc
 cases n with
 |zero=>simp[AV]at e
 |succ n=>
  cases p with
  |agg cs=>
   unfold AV at e;cases g:AB (AV h n) cs with
   |none=>simp[g]at e
   |some x=>
    obtain⟨y,C⟩:=x;simp[g]at e;obtain⟨rfl,rfl⟩:=e;obtain⟨A,B⟩:=DC g;refine⟨A,λj c hc=> ?_⟩;obtain⟨q,l',o,r,u⟩:=B j c hc;exact⟨n,q,l',by omega,o,r,u⟩
  |tup cs=>
   unfold AV at e;cases g:AB (AV h n) cs with
   |none=>simp[g]at e
   |some x=>simp[g]at e;obtain⟨rfl,rfl⟩:=e;exact⟨rfl,λj c hc=>by simp[PV.cells]at hc⟩
  |bool|int|str|nilp|nils|nilm|nilf|nili|lst|view|gk|adr=>unfold AV at e;simp at e;obtain⟨rfl,rfl⟩:=e;exact d rfl rfl
  |yl|mp=>simp[AV]at e
  |own id off len=>
   refine d rfl ?_;unfold AV at e;simp only at e;split at e
   ·rename_i es ex fz w;cases hc:ah (off+len) es.length with
    |false=>simp[hc]at e
    |true=>simp[hc]at e;obtain⟨a,b,_,rfl,_⟩:=e;rfl
   ·cases e
  |ptr id off=>
   refine d rfl ?_;unfold AV at e;simp only at e;split at e
   ·rename_i cs fz w;cases hc:af off cs.length with
    |false=>simp[hc]at e
    |true=>simp[hc]at e;obtain⟨a,b,_,rfl,_⟩:=e;rfl
   ·cases e
  |ept id i off=>
   refine d rfl ?_;unfold AV at e;simp only at e;split at e
   ·split at e
    ·rename_i s z;cases hc:af off s.cells.length with
     |false=>simp[hc]at e
     |true=>simp[hc]at e;obtain⟨a,b,_,rfl,_⟩:=e;rfl
    ·cases e
   ·cases e
  |fn f a b=>
   refine d rfl ?_;unfold AV at e;simp only at e;split at e
   ·cases e;rfl
   ·cases e
  |ifc t x=>
   refine d rfl ?_;unfold AV at e;cases g:AV h n x with
   |none=>simp[g]at e
   |some y=>simp[g]at e;obtain⟨rfl,_⟩:=e;rfl
theorem E1(s:Sim M μ h w)(L:List Nat):∀ (n:Nat) (p q:PV) (l:List Nat) (v:Value),AV h n p=zo (q,l)->Rep M μ p v->(∀ x∈l,x∈L)->Rep (HZ M h μ w L) mu0 q v:=by
 intro n
 induction n using Nat.strongRecOn with
 |ind n ih=>
  intro p q l v e m G;cases n with
  |zero=>simp[AV]at e
  |succ n=>
   have A:∀ {cs S:List PV} {K:List Nat} {vs:Array Value},AB (AV h n) cs=zo (S,K)->(∀ x∈K,x∈L)->cs.length=vs.size ->
     (∀ (i:Nat) (c:PV) (v:Value),cs[i]?=zo c->vs[i]?=zo v->Rep M μ c v) ->
     S.length=vs.size /\ ∀ (i:Nat) (c:PV) (v:Value),S[i]?=zo c->vs[i]?=zo v->Rep (HZ M h μ w L) mu0 c v:=by
    intro cs S K vs g hl0 hlen o;obtain⟨X,k2⟩:=DC g;refine⟨X.trans hlen,λi c y hc hy=> ?_⟩;have hi:i<cs.length:=by rw[<- X];exact(ab.1 hc).1
    obtain⟨q',l',B,Y,Z⟩:=k2 i cs[i] (ae hi);rw[hc]at Y;cases Y;exact ih n (by omega) _ _ l' y B (o i _ y (ae hi) hy) λx m=>hl0 x (Z x m)
   cases p with
   |agg cs=>
    unfold AV at e;cases g:AB (AV h n) cs with
    |none=>simp[g]at e
    |some x=>
     obtain⟨y,K⟩:=x;simp[g]at e;obtain⟨rfl,rfl⟩:=e;cases m with
     |agg _ _ vs hl B o=>obtain⟨a,b⟩:=A g G hl o;exact .agg _ _ _ a B b
   |tup cs=>
    unfold AV at e;cases g:AB (AV h n) cs with
    |none=>simp[g]at e
    |some x=>
     obtain⟨y,K⟩:=x;simp[g]at e;obtain⟨rfl,rfl⟩:=e;cases m with
     |tup _ _ vs hl o=>obtain⟨a,b⟩:=A g G hl o;exact .tup _ _ _ a b
   |bool|int|str|nilp|nils|nilm|nilf|nili=>unfold AV at e;simp at e;obtain⟨rfl,rfl⟩:=e;cases m;constructor
   |lst full es=>
    unfold AV at e;simp at e;obtain⟨rfl,rfl⟩:=e;cases m with
    |lst0 _ _ a cap hf=>exact .lst0 _ _ _ _ hf
    |lst _ _ _ b off esz cap x hf hc hs g B o=>exact .lst _ _ _ _ _ esz _ x hf hc hs (λi e j c a k=>C2 L _ _ (g i e j c a k)) B λi e j c a k=>(o i e j c a k).mono (C2 L) (.refl _)
   |view cs=>
    unfold AV at e;simp at e;obtain⟨rfl,rfl⟩:=e;cases m with
    |view _ _ b off x g B o=>exact .view _ _ _ _ x (λj c a=>C2 L _ _ (g j c a)) B λj c a=>(o j c a).mono (C2 L) (.refl _)
   |gk n=>
    unfold AV at e;simp at e;obtain⟨rfl,rfl⟩:=e;cases m with
    |gk _ _ t a g=>exact .gk _ _ t a (C2 L _ _ g)
   |adr b off=>unfold AV at e;simp at e;obtain⟨rfl,rfl⟩:=e;cases m;constructor
   |yl|mp=>simp[AV]at e
   |own id off len=>
    unfold AV at e;simp only at e;split at e
    ·rename_i es ex fz N;cases hc:ah (off+len) es.length with
     |false=>simp[hc]at e
     |true=>
      simp[hc]at e;obtain⟨S,K,g,rfl,rfl⟩:=e;have hle:off+len<=es.length:=aq hc;cases m with
      |own _ _ _ _ r o hcap=>
       obtain⟨r',z,arr,ety,B,Y,Z,h4,h5,h6,h7⟩:=s.blk id _ N;rw[o]at z;cases z;obtain⟨X,k2⟩:=DC g;have J:S.length=len:=by rw[X];simp;omega
       have W:∀ (i:Nat) (qe:PV),S[i]?=zo qe -> ∃ F l',es[off+i]?=zo F/\AV h n F=zo (qe,l')/\(∀ x∈l',x∈K):=by
        intro i qe D;have hi:i<len:=by rw[<- J];exact(ab.1 D).1
        have hes:((es.drop off).take len)[i]?=zo es[off+i]:=by
         rw[aA,zy hi,aM];exact ae (by omega)
        obtain⟨q',l',E,U,a3⟩:=k2 i _ hes;rw[D]at U;cases U;exact⟨_,l',ae (by omega),E,a3⟩
       rw[<- J];refine .lst _ _ _ _ _ r.esz _ (λi j=>(arr[r.base+(off+i)*r.esz+j]?).getD undef) (by intro h;cases h) (by omega) ?_ ?_ ?_ ?_
       ·intro i qe D;obtain⟨F,l',E,U,_⟩:=W i qe D;rw[(CK U).1];exact h6 _ _ E
       all_goals
        intro i qe j c D u;obtain⟨F,l',E,U,a3⟩:=W i qe D;have hcl:=CK U;have O:j<F.cells.length:=by rw[<- hcl.1];exact(ab.1 u).1
        have d:r.base+(off+i)*r.esz+j<arr.size:=HN Z Y E (h6 _ _ E) O;obtain⟨n',c',l'',b1,P,b3,b4⟩:=hcl.2 j _ (ae O);rw[u]at b3;cases b3;have hv:=h7 (off+i) F j _ _ E (ae O) (al d);simp only[al d,aE]
       ·have e1:r.base+off*r.esz+i*r.esz+j=r.base+(off+i)*r.esz+j:=by rw[aG];omega
        rw[e1];refine IR s ⟨id,G id (by simp),r,_,o,N,rfl,rfl,?_⟩ (by rw[cell?_eq (a:=⟨r.b,r.base+(off+i)*r.esz+j,zn⟩) B rfl];exact al d);have:=HN (i:=off+i) (es:=es) (r:={ r with cap:=es.length }) (n:=r.base+es.length*r.esz) (ad _) (ad _) E (h6 _ _ E) O
        exact this
       ·exact hv.1
       ·exact ih n' (by omega) _ _ l'' _ P hv.2 λx m=>G x (by simp[a3 x (b4 x m)])
    ·cases e
   |ptr id off=>
    unfold AV at e;simp only at e;split at e
    ·rename_i cs fz N;cases hc:af off cs.length with
     |false=>simp[hc]at e
     |true=>
      simp[hc]at e;obtain⟨S,K,g,rfl,rfl⟩:=e;cases m with
      |ptr _ _ _ r o=>
       obtain⟨r',z,h0,arr,ety,B,Y,Z,h4⟩:=s.blk id _ N;rw[o]at z;cases z;obtain⟨X,k2⟩:=DC g;refine .view _ _ _ _ (λj=>(arr[off+j]?).getD undef) ?_ ?_ ?_
       all_goals
        intro j c u;have O:j<(cs.drop off).length:=by rw[<- X];exact(ab.1 u).1
        have I:off+j<cs.length:=by simp at O;omega
        obtain⟨c',l',b1,P,b3⟩:=k2 j _ (ae O);rw[u]at P;cases P;have d:off+j<arr.size:=by omega
        simp only[al d,aE]
       ·refine IR s ⟨id,G id (by simp),r,_,o,N,rfl,rfl,trivial⟩ ?_;rw[cell?_eq (a:=⟨r.b,r.base+off+j,zn⟩) B rfl,h0,aN];exact al d
       ·exact Z _ _ (al d)
       ·refine ih n (by omega) _ _ l' _ b1 (h4 (off+j) _ _ ?_ (al d)) λx m=>G x (by simp[b3 x m]);rw[cQ];exact ae I
    ·cases e
   |ept id i off=>
    unfold AV at e;simp only at e;split at e
    ·rename_i es ex fz N;split at e
     ·rename_i F C;rw[AN]at C;cases hc:af off F.cells.length with
      |false=>simp[hc]at e
      |true=>
       simp[hc]at e;obtain⟨S,K,g,rfl,rfl⟩:=e;cases m with
       |ept _ _ _ _ r o=>
        obtain⟨r',z,arr,ety,B,Y,Z,h4,h5,h6,h7⟩:=s.blk id _ N;rw[o]at z;cases z;obtain⟨X,k2⟩:=DC g;refine .view _ _ _ _ (λj=>(arr[r.base+i*r.esz+(off+j)]?).getD undef) ?_ ?_ ?_
        all_goals
         intro j c u;have O:j<(F.cells.drop off).length:=by rw[<- X];exact(ab.1 u).1
         have I:off+j<F.cells.length:=by simp at O;omega
         obtain⟨c',l',b1,P,b3⟩:=k2 j _ (ae O);rw[u]at P;cases P;have d:r.base+i*r.esz+(off+j)<arr.size:=HN Z Y C (h6 _ _ C) I;have hv:=h7 i F (off+j) _ _ C (ae I) (al d);simp only[al d,aE]
        ·have e1:r.base+i*r.esz+off+j=r.base+i*r.esz+(off+j):=by omega
         rw[e1];refine IR s ⟨id,G id (by simp),r,_,o,N,rfl,rfl,?_⟩ (by rw[cell?_eq (a:=⟨r.b,r.base+i*r.esz+(off+j),zn⟩) B rfl];exact al d);exact HN (i:=i) (es:=es) (r:={ r with cap:=es.length }) (n:=r.base+es.length*r.esz) (ad _) (ad _) C (h6 _ _ C) I
        ·exact hv.1
        ·refine ih n (by omega) _ _ l' _ b1 ?_ λx m=>G x (by simp[b3 x m]);rw[cQ];exact hv.2
     ·cases e
    ·cases e
   |fn f a b=>
    unfold AV at e;simp only at e;split at e
    ·rename_i qa la qb lb ha N;cases e;cases m with
     |fn _ _ _ _ va vb hf hla hlb hra hrb=>
      obtain⟨E,U⟩:=A ha (λx m=>G x (ao _ m)) hla hra;obtain⟨b1,P⟩:=A N (λx m=>G x (am _ m)) hlb hrb;exact .fn _ _ _ _ _ _ hf E b1 U P
    ·cases e
   |ifc t x=>
    unfold AV at e;cases g:AV h n x with
    |none=>simp[g]at e
    |some y=>
     obtain⟨y,K⟩:=y;simp[g]at e;obtain⟨rfl,rfl⟩:=e;cases m with
     |ifc _ _ _ v o=>exact .ifc _ _ _ _ (ih n (by omega) _ _ K _ g o G)
theorem Nu(s:Sim M μ h w)(L:List Nat):∀ {f c:List PV} {l:List Nat} {vs:List Value},Ao h f=zo (c,l)->RepL M μ f vs->(∀ x∈l,x∈L)->RepL (HZ M h μ w L) mu0 c vs
 |[],c,l,vs,e,hr,_=>by simp[Ao]at e;obtain⟨rfl,rfl⟩:=e;rw[hr.nil_inv];exact RepL.nil _ _
 |p::f,c,l,vs,e,hr,hL=>by
  unfold Ao at e;split at e
  ·rename_i q a j b g i;cases e;obtain⟨v,n,rfl,k,m⟩:=hr.cons_inv;exact RepL.cons (E1 s L _ _ _ _ _ g k λx d=>hL x (ao _ d)) (Nu s L i m λx d=>hL x (am _ d))
  ·cases e
theorem Qz(s:Sim M μ h w){id:Nat}{b b':Blk}{h':Hp}(D:h.get id=zo b)(hs:h.set id b'=zo h')
  (F:(∃ cs fz,b=.box cs fz/\b'=.box cs zt) \/ ∃ es ex fz,b=.row es ex fz/\b'=.row es ex zt):Sim (HZ M h μ w [id]) μ h' w:=by
 obtain⟨r,G,K⟩:=s.blk id b D;have d:=(Hp.get_set hs).1;have u:=C2 (M:=M) (h:=h) (μ:=μ) (w:=w) [id];have c:b.live:=by rcases F with⟨_,_,rfl,_⟩|⟨_,_,_,rfl,_⟩<;>trivial
 constructor
 ·exact s.glb.mono u
 ·intro a v e;exact J8 s e
 ·intro k q i;rw[d]at i;by_cases J:k=id
  ·rw[zy J]at i;cases i;subst J;refine⟨r,G,BlkAt.mono u (.refl _) ?_⟩;rcases F with⟨_,_,rfl,rfl⟩|⟨_,_,_,rfl,rfl⟩<;>exact K
  ·rw[zx J]at i;obtain⟨l,N,C⟩:=s.blk k q i;exact⟨l,N,C.mono u (.refl _)⟩
 ·intro k l L;have:=s.use k l L;refine⟨?_,this.2⟩;rw[d];split<;>simp_all
 ·intro k P l x q z j o p f y O I;rw[d]at p f;by_cases e:k=id
  ·by_cases A:P=id
   ·exact e.trans A.symm
   ·rw[zx A]at f;subst e;exact s.inj _ _ l x b z j o D f c O I
  ·rw[zx e]at p;by_cases A:P=id
   ·subst A;exact s.inj _ _ l x q b j o p D y c I
   ·rw[zx A]at f;exact s.inj _ _ l x q z j o p f y O I
 ·intro k l q a v j o p f y;rw[d]at j;by_cases e:k=id
  ·subst e;rw[zy rfl]at j;cases j;rw[G]at o;cases o;rcases De f with f|⟨⟨E,g,S,b0,n,m,B,_,t⟩,_⟩
   ·have:=s.sep k r b a v D G c f y;rcases F with⟨_,_,rfl,rfl⟩|⟨_,_,_,rfl,rfl⟩
    ·rfl
    ·exact⟨rfl,this.2⟩
   ·simp at g;subst g;rw[G]at n;cases n;rw[D]at m;cases m;rcases F with⟨_,_,rfl,rfl⟩|⟨_,_,_,rfl,rfl⟩
    ·rfl
    ·exact⟨rfl,t⟩
  ·rw[zx e]at j;rcases De f with f|⟨⟨E,g,S,b0,n,m,B,_,t⟩,_⟩
   ·exact s.sep k l q a v j o p f y
   ·simp at g;subst g;exact absurd (s.inj k E l S q b0 o n j m p (by cases b0<;>first|trivial|exact t.elim) (y.symm.trans B)) e
theorem BQ:∀ (L:List Nat) {M:Ak} {h h':Hp},Sim M μ h w->freeze h L=zo h' -> ∃ g,MLe (HZ M h μ w L) g/\Sim g μ h' w/\(∀ a v,g a=zo v->M a=zo v \/ ∃ id r,μ id=zo r/\r.b=a.block)/\h'.nx=h.nx
 |[],M,h,h',s,e=>by
  simp[freeze]at e;subst e;refine⟨M,λa v hv=> ?_,s,λa v hv=>.inl hv,rfl⟩;rcases De hv with hv|⟨⟨_,hm,_⟩,_⟩
  ·exact hv
  ·simp at hm
 |id::L,M,h,h',s,e=>by
  have key:∀ (b b':Blk) (k:Hp),h.get id=zo b->h.set id b'=zo k->((∃ cs fz,b=.box cs fz/\b'=.box cs zt) \/ ∃ es ex fz,b=.row es ex fz/\b'=.row es ex zt)->freeze k L=zo h' ->
    ∃ g,MLe (HZ M h μ w (id::L)) g/\Sim g μ h' w/\(∀ a v,g a=zo v->M a=zo v \/ ∃ id r,μ id=zo r/\r.b=a.block)/\h'.nx=h.nx:=by
   intro b b' k n hs q t;have s1:=Qz s n hs q;obtain⟨g,u,x,y,z⟩:=BQ L s1 t;have j:=(Hp.get_set hs).1;refine⟨g,λa v hv=>u a v ?_,x,λa v hv=> ?_,z.trans (Hp.get_set hs).2⟩
   ·rcases De hv with hv|⟨⟨f,hm,o,b0,d,i,c,m,l⟩,hc⟩
    ·exact C2 L _ _ (C2 [id] _ _ hv)
    ·rcases ai.1 hm with rfl|hm
     ·exact C2 L _ _ (IR s ⟨f,by simp,o,b0,d,i,c,m,l⟩ hc)
     ·refine IR s1 ⟨f,hm,o,?_⟩ hc;by_cases p:f=id
      ·subst p;rw[n]at i;cases i;refine⟨b',d,by rw[j,zy rfl],c,m,?_⟩;rcases q with⟨_,_,rfl,rfl⟩|⟨_,_,_,rfl,rfl⟩<;>exact l
      ·exact⟨b0,d,by rw[j,zx p];exact i,c,m,l⟩
   ·rcases y a v hv with hv|hv
    ·rcases De hv with hv|⟨⟨f,_,o,b0,d,_,c,_⟩,_⟩
     ·exact .inl hv
     ·exact .inr ⟨f,o,d,c.symm⟩
    ·exact .inr hv
  unfold freeze at e;split at e
  ·rename_i cs fz n;split at e
   ·rename_i k hs;exact key _ _ k n hs (.inl ⟨cs,fz,rfl,rfl⟩) e
   ·cases e
  ·rename_i es ex fz n;split at e
   ·rename_i k hs;exact key _ _ k n hs (.inr ⟨es,ex,fz,rfl,rfl⟩) e
   ·cases e
  ·cases e
theorem Et{L:List Nat}{c:Ak}(e:MLe (HZ M h μ w L) c)(d:∀ a v,c a=zo v->M a=zo v \/ ∃ id r,μ id=zo r/\r.b=a.block):Grow M μ w c μ w:=
 ⟨(C2 L).trans e,.refl _,λa v f=>(d a v f).imp id .inl,λid r h=>.inl ⟨id,r,h,rfl⟩,ad _,λ_ _ _=>rfl,rfl,rfl,rfl,λ_ arr _ _ h=>.inr ⟨arr,h⟩⟩
end
end
section
variable[Gl]
section
variable{P:Program}{M:Ak}{μ:Mu}{h:Hp}{w:World}
theorem Aa{α:Type}{c:Bool}{a:α}{x:Option α}(e:(bif c then x else zn)=zo a):c=zt/\x=zo a:=by
 cases c with
 |false=>cases e
 |true=>exact⟨rfl,e⟩
theorem Bn{α:Type}{c:Bool}{a:α}{x:Option α}(e:(bif c then zn else x)=zo a):c=zf/\x=zo a:=by
 cases c with
 |true=>cases e
 |false=>exact⟨rfl,e⟩
theorem QX(s:Sim M μ h w){ty:TypeId}{p v:PV}{x y:Value}(D:Rep M μ p x)(A:Rep M μ v y){r:R}
  (e:A2 P h ty p v=zo r):Bm P M μ w ((do Instr.storeAt ty x y;pure .skip:Sem Next).run P w) r:=by
 unfold A2 at e;split at e
 ·rename_i n g;obtain⟨hc,e⟩:=Bn e;simp at hc;obtain⟨f,t⟩:=hc;split at e
  ·rename_i j off;split at e
   ·rename_i cs o;obtain⟨b,e⟩:=Aa e;obtain⟨h',hs,rfl⟩:=AA e;cases D with
    |ptr _ _ _ r hr=>exact Oz s hr o A g t f (by simpa using b) hs
   ·cases e
  ·rename_i j i off;split at e
   ·rename_i es ex o;split at e
    ·rename_i B q;rw[AN]at q;obtain⟨b,e⟩:=Aa e;cases D with
     |ept _ _ _ _ r hr=>
      split at e
      ·rename_i cs;obtain⟨h',hs,rfl⟩:=AA e;exact Jl s hr o q rfl A g t f (by simpa using b) hs
      ·split at e
       ·rename_i c z;obtain⟨C,m⟩:=Aa e;clear e;simp at C;obtain⟨rfl,E⟩:=C
        have l:∀ d:PV,(∀ cs,d ≠ .agg cs)->(∀ cs,d ≠ .tup cs)->d=c->d.cells=BU B.cells 0 v.cells:=by
         rintro d k u rfl;rw[z];have:d.cells=[d]:=by cases d<;>first|rfl|exact absurd rfl (k _)|exact absurd rfl (u _)
         rw[this];obtain⟨a,k⟩:∃ a,B.cells=[a]:=List.length_eq_one_iff.1 E;rw[k];rfl
        split at m
        ·cases m
        ·cases m
        ·rename_i k u;obtain⟨h',hs,rfl⟩:=AA m;exact Jl s hr o q (l _ (λcs=>k cs) (λcs=>u cs) rfl) A g t f (by simpa using b) hs
       ·cases e
    ·cases e
   ·cases e
  ·cases e
 ·cases e
theorem R8(s:Sim M μ h w){p:PV}{x:Value}(hx:Rep M μ p x){r:R}(e:Er h p=zo r) :
  Bm P M μ w ((match (generalizing:=false) x with
  |.pointer zn | .nilIface | .nilFunc=>runtimePanic .nilDeref
  |.func (.method name) first captured=>
   match (first[0]?:Option Value)with
   |some .nilIface=>runtimePanic .nilDeref
   |some (.iface t w)=>do
    if(<- nilAhead ((<- program).types.size+Made.depth) t w name) != zo zf then
     unsupported (.noEntry "op/nilCheck.the method's receiver behind this interface value is a nil pointer, or cannot be seen to be none, and the arguments act or may panic (ledger 612)")
    pure (.value (.func (.method name) first captured))
   |_=>pure (.value (.func (.method name) first captured))
  |x=>pure (.value x):Sem Next).run P w) r:=by
 unfold Er at e;split at e<;>(try (cases e;done))<;>cases e
 ·cases hx with|ptr _ _ _ r hr=>exact⟨M,μ,w,_,rfl,s,.refl _ _ _,.ptr _ _ _ r hr⟩
 ·cases hx with|ept _ _ _ _ r hr=>exact⟨M,μ,w,_,rfl,s,.refl _ _ _,.ept _ _ _ _ r hr⟩
 ·cases hx with|view _ _ b off x hm h1 hr=>exact⟨M,μ,w,_,rfl,s,.refl _ _ _,.view _ _ _ _ x hm h1 hr⟩
 ·cases hx with|ifc _ _ _ v hr=>exact⟨M,μ,w,_,rfl,s,.refl _ _ _,.ifc _ _ _ _ hr⟩
 ·cases hx with|yl _ _ r hr=>exact⟨M,μ,w,_,rfl,s,.refl _ _ _,.yl _ _ r hr⟩
 ·cases hx with|fn _ _ _ _ va vb hf hla hlb ha hb=>exact⟨M,μ,w,_,rfl,s,.refl _ _ _,.fn _ _ _ _ _ _ hf hla hlb ha hb⟩
theorem Lb{α β:Type}(g:α->Sem β)(f:α->β):∀ (l:List α),(∀ x∈l,(g x).run P w=.ok (f x) w)->(l.mapM g).run P w=.ok (l.map f) w
 |[],_=>by simp
 |a::l,hl=>by
  have b:=hl a (by simp);have c:=Lb g f l λx d=>hl x (by simp[d]);simp[List.mapM_cons,b,c]
def LK(P:Program)(f:Field):Nat:=(AU P f.type).getD 0
theorem QV{b:Array Field}(a:b.toList.all (λf=>(AU P f.type).isSome)=zt) :
  (b.mapM (λf=>(do pure (f.offset,<- sizeOf f.type):Sem (Nat×Nat)))).run P w=.ok (b.map λf=>(f.offset,LK P f)) w:=by
 rw[Array.mapM_eq_mapM_toList];have:=Lb (P:=P) (w:=w) (λf:Field=>(do pure (f.offset,<- sizeOf f.type):Sem (Nat×Nat))) (λf=>(f.offset,LK P f)) b.toList ?_
 ·simp only[Sem.run_map,this,Result.andThen]
  congr 1
  apply dq;simp
 ·intro f d;have:=a8.1 a f d;obtain⟨n,c⟩:=bG.1 this;simp[Ac c,LK,c]
end
end
section
variable[Gl]
section
variable{P:Program}{M:Ak}{μ:Mu}{h:Hp}{w:World}
inductive PsRep (M:Ak) (μ:Mu):List (Nat×PV)->List (Nat×Value)->Prop
 |nil:PsRep M μ [] []
 |cons (i:Nat) (p:PV) (v:Value) (ps:List (Nat×PV)) (vs:List (Nat×Value)) (h:Rep M μ p v) (t:PsRep M μ ps vs):PsRep M μ ((i,p)::ps) ((i,v)::vs)
theorem F9{t:T PV}{nt:Nat}{a:Act}(c:GlOK M)(d:TmpsRep M μ t nt a.tmps):∀ {l:List (Nat×Operand)} {b:List (Nat×PV)},CA t l=zo b->PsRep M μ b (l.map λ(i,x)=>(i,a.eval x))
 |[],b,e=>by cases e;exact .nil
 |(i,o)::l,b,e=>by
  unfold CA at e;split at e
  ·rename_i p q f g;cases e;exact .cons _ _ _ _ _ (CP c d f) (F9 c d g)
  ·cases e
theorem Om{g:Array Field}{d:List (Nat×PV)}{vs:List (Nat×Value)}(b:PsRep M μ d vs):∀ {pl:List (Nat×Nat×List PV)},EC P g d=zo pl ->
  PartsAt M μ (λi=>(g.map λf=>(f.offset,LK P f))[i]?) vs pl:=by
 induction b with
 |nil=>intro pl e;cases e;exact .nil
 |cons i p v d vs hr _ ih=>
  intro pl e;unfold EC at e;split at e
  ·rename_i f r h c;split at e
   ·rename_i n j;obtain⟨a,e⟩:=Aa e;cases e;refine .cons _ _ _ _ _ _ _ ?_ hr (by simpa using a) (ih c);simp[h,LK,j]
   ·cases e
  ·cases e
theorem Ke{n:Nat}(c:0<n){b:List (Nat×PV)}{vs:List (Nat×Value)}(a:PsRep M μ b vs):PartsAt M μ (λi=>zo (i*n,n)) vs (FP n b):=by
 induction a with
 |nil=>exact .nil
 |cons i p v b vs hr _ ih=>exact .cons _ _ _ _ _ _ _ rfl hr c ih
theorem Ka{vs:Array Value}(h:∀ v∈vs.toList,v.oneCell'=zt):∀ (i:Nat) (v:Value),vs[i]?=zo v->v.oneCell'=zt:=
 λ_ v a=>h v (bx.2 (cx a))
theorem PA(s:Sim M μ h w){ty:TypeId}{C:List (Nat×PV)}{f:Array (Nat×Value)}(l:PsRep M μ C f.toList){r:R}(e:Bv P h ty C=zo r) :
  Bm P M μ w ((do pure (.value (<- Instr.build ty f)):Sem Next).run P w) r:=by
 unfold Bv at e;split at e
 ·rename_i z G B y;obtain⟨k,e⟩:=Aa e;split at e
  ·rename_i pl t;obtain⟨cs,j,rfl⟩:=AA e;obtain⟨E,i,hi,p,d,u,m⟩:=B0 B M μ w;obtain⟨a,o,b,g⟩:=NS (Om l t) u (Ka m) j;refine AC s (x:=.agg a) ?_ (.agg _ _ _ (by simpa using b.1) g λi c v hc A=>b.2 i c v hc (by simpa using A));simp only[Instr.build,Sem.run_bind,d,Result.andThen,AF y,Sem.run_pure,QV k,o]
  ·cases e
 ·rename_i z n F B y;split at e
  ·rename_i n D;obtain⟨q,e⟩:=Aa e;obtain⟨cs,j,rfl⟩:=AA e;obtain⟨E,i,hi,p,d,u,m⟩:=B0 B M μ w;obtain⟨a,o,b,g⟩:=NS (Ke (by simpa using q) l) u (Ka m) j;refine AC s (x:=.agg a) ?_ (.agg _ _ _ (by simpa using b.1) g λi c v hc A=>b.2 i c v hc (by simpa using A));simp only[Instr.build,Sem.run_bind,d,Result.andThen,AF y,Sem.run_pure,Ac D,o]
  ·cases e
 ·cases e
def FlatRep(M:Ak)(μ:Mu)(n:Nat)(es:List PV)(arr:Array Value):Prop:=
 arr.size=es.length*n/\(∀ (i:Nat) (e:PV),es[i]?=zo e->e.cells.length=n) /\
  ∀ (i:Nat) (e:PV) (j:Nat) (c:PV),es[i]?=zo e->e.cells[j]?=zo c -> ∃ v,arr[i*n+j]?=zo v/\v.oneCell'=zt/\Rep M μ c v
theorem I1{c:PV}{v:Value}(b:Rep M μ c v)(a:v.oneCell'=zt):c.cells=[c]:=by
 cases b<;>first|rfl|(simp[Value.oneCell']at a)
theorem Mq{b:Bool}{z:List PV}{d:PV}(e:Lg b z=zo d){vs:List Value}(g:RepL M μ z vs)(f:∀ v∈vs,v.oneCell'=zt):d.cells=z:=by
 unfold Lg at e;cases b with
 |true=>simp at e;subst e;rfl
 |false=>
  simp at e;split at e
  ·rename_i c;cases e;obtain⟨v,h,a⟩:=g.get (i:=0) rfl;exact I1 a (f v (bV h))
  ·cases e
theorem Rb(z:Array Value)(n k:Nat)(a:k<n):((bn n).map (z[· % z.size]!))[k]?=zo (z[k % z.size]!):=by
 simp[a]
theorem JN{z:List PV}{b:Array Value}{n len:Nat}{q:Bool}{p:PV}(k:RepL M μ z b.toList)(l:∀ v∈b.toList,v.oneCell'=zt)(h:z.length=n)(_hn0:0<n)(e:Lg q z=zo p) :
  FlatRep M μ n (aY len p) ((bn (len*n)).map (b[· % b.size]!)):=by
 have hc:=Mq e k l;have hs:b.size=n:=by rw[<- h];simpa using k.1.symm
 refine⟨by simp,λi r d=> ?_,λi r j c d a=> ?_⟩
 ·obtain⟨_,rfl⟩:=ab.1 d;simp[hc,h]
 ·obtain⟨hi,rfl⟩:=ab.1 d;simp only[List.getElem_replicate,List.length_replicate]at a hi;rw[hc]at a;have m:j<n:=by rw[<- h];exact(ab.1 a).1
  have g:i*n+j<len*n:=by
   have:(i+1)*n<=len*n:=aC _ (by omega);rw[aG]at this;omega
  have f:(i*n+j) % n=j:=by rw[cb,Nat.mul_add_mod];exact Nat.mod_eq_of_lt m
  refine⟨_,Rb b _ _ g,?_⟩;rw[hs,f];have o:b[j]?=zo b[j]!:=by rw[al (by omega)];simp[hs,m]
  exact⟨Ka l j _ o,k.2 j c _ a (by simpa using o)⟩
theorem PZ{n:Nat}{es:List PV}{arr:Array Value}{i:Nat}{p:PV}{v:Value}(f:FlatRep M μ n es arr)(l:0<n)(t:Rep M μ p v)(m:p.cells.length=n)(hi:i<es.length) :
  v.cells.size=n/\i*n+n<=arr.size/\FlatRep M μ n (lset es i p) (v.cells.zipIdx.foldl (λcs (p:Value×Nat)=>cs.setIfInBounds (i*n+p.2) p.1) arr):=by
 obtain⟨hc,g⟩:=t.cells (Cn m l);have hs:v.cells.size=n:=by rw[<- m];simpa using hc.1.symm
 have h:i*n+n<=arr.size:=by
  rw[f.1];have:(i+1)*n<=es.length*n:=aC _ (by omega);rw[aG]at this;omega
 refine⟨hs,h,?_,?_,?_⟩
 ·rw[EE,f.1];simp[AT]
 ·intro k e b;rw[AT,a9]at b;by_cases a:i=k
  ·rw[zy a,zy hi]at b;cases b;exact m
  ·rw[zx a]at b;exact f.2.1 k e b
 ·intro k e j c b d
  have s:j<n:=by
   have:=(ab.1 d).1;rw[AT,a9]at b;by_cases a:i=k
   ·rw[zy a,zy hi]at b;cases b;omega
   ·rw[zx a]at b;have:=f.2.1 k e b;omega
  rw[E5 _ _ _ (by omega),hs];rw[AT,a9]at b;by_cases a:i=k
  ·rw[zy a,zy hi]at b;cases b;subst a;rw[zy (by omega),show i*n+j-i*n=j by omega];obtain⟨y,r,o⟩:=hc.get d;exact⟨y,by simpa using r,g j y (by simpa using r),o⟩
  ·rw[zx a]at b;rw[zx ?_]
   ·exact f.2.2 k e j c b d
   ·intro q;exact a (F6 (i:=k) (k:=i) (j':=k*n+j-i*n) s (by omega) (by omega)).1.symm
theorem PY{n:Nat}(g:0<n){j:List (Nat×PV)}{vs:List (Nat×Value)}(h:PsRep M μ j vs):∀ {es es':List PV} {arr:Array Value},FlatRep M μ n es arr->Fb n es j=zo es' ->
  ∃ d,Instr.fill (λi=>zo (i*n,n)) arr vs=zo d/\FlatRep M μ n es' d/\es'.length=es.length:=by
 induction h with
 |nil=>intro es es' arr f e;simp[Fb]at e;subst e;exact⟨arr,by simp[Instr.fill],f,rfl⟩
 |cons i p v j vs hr _ ih=>
  intro es es' arr f e;unfold Fb at e;obtain⟨hc,e⟩:=Aa e;simp at hc;obtain⟨a,b,c⟩:=PZ f g hr hc.1 hc.2;obtain⟨d,k,l,m⟩:=ih c e;refine⟨d,?_,l,m.trans (by simp[AT])⟩;unfold Instr.fill;simp only[a];rw[zx (by simp;omega)];exact k
theorem Gp:∀ {d c:List PV} {l:List Nat},Ao h d=zo (c,l)->c.length=d.length /\ ∀ (i:Nat) (p:PV),d[i]?=zo p -> ∃ q l',AV h AS p=zo (q,l')/\c[i]?=zo q /\ ∀ x∈l',x∈l
 |[],c,l,e=>by simp[Ao]at e;obtain⟨rfl,rfl⟩:=e;exact⟨rfl,λi p r=>by simp at r⟩
 |p::d,c,l,e=>by
  unfold Ao at e;split at e
  ·rename_i q a w b j k;cases e;obtain⟨s,t⟩:=Gp k;refine⟨by simp[s],λi x f=> ?_⟩;cases i with
   |zero=>simp at f;subst f;exact⟨q,a,j,rfl,λy g=>ao _ g⟩
   |succ i=>
    obtain⟨u,l',m,n,o⟩:=t i x (by simpa using f);exact⟨u,l',m,by simpa using n,λy g=>am _ (o y g)⟩
  ·cases e
theorem Oo(s:Sim M μ h w){n:Nat}{es p:List PV}{b:List Nat}{arr:Array Value}(o:FlatRep M μ n es arr)(e:Ao h es=zo (p,b))(L:List Nat)(D:∀ x∈b,x∈L):FlatRep (HZ M h μ w L) mu0 n p arr:=by
 obtain⟨u,F⟩:=Gp e
 have get:∀ (i:Nat) (q:PV),p[i]?=zo q -> ∃ a l',es[i]?=zo a/\AV h AS a=zo (q,l') /\ ∀ x∈l',x∈b:=by
  intro i q f;have hi:i<es.length:=by rw[<- u];exact(ab.1 f).1
  obtain⟨K,l',g,d,m⟩:=F i _ (ae hi);rw[f]at d;cases d;exact⟨_,l',ae hi,g,m⟩
 refine⟨by rw[o.1,u],λi q f=> ?_,λi q j c f k=> ?_⟩
 ·obtain⟨a,l',g,d,_⟩:=get i q f;rw[(CK d).1];exact o.2.1 i a g
 ·obtain⟨a,l',g,d,m⟩:=get i q f;have l:=CK d;have t:j<a.cells.length:=by rw[<- l.1];exact(ab.1 k).1
  obtain⟨G,J,l'',I,y,r,z⟩:=l.2 j _ (ae t);rw[k]at r;cases r;obtain⟨v,A,B,C⟩:=o.2.2 i a j _ g (ae t);exact⟨v,A,B,E1 s L G _ _ l'' v y C λx E=>D x (m x (z x E))⟩
theorem FlatRep.mono{f:Ak}{μ':Mu}{n:Nat}{es:List PV}{arr:Array Value}(d:FlatRep M μ n es arr)(g:MLe M f)(hμ:MuLe μ μ'):FlatRep f μ' n es arr:=
 ⟨d.1,d.2.1,λi e j c a b=>let ⟨v,h1,h2,h3⟩:=d.2.2 i e j c a b;⟨v,h1,h2,h3.mono g hμ⟩⟩
theorem LY{d:Ak}{n:Nat}{es:List PV}{arr:Array Value}{b off:Nat}(g:FlatRep d mu0 n es arr)(m:∀ (k:Nat) (v:Value),arr[k]?=zo v->d ⟨b,off+k,zn⟩=zo v)(μ:Mu)(full:Bool)(cap:Nat)(hc:es.length<=cap)(a:full=zt->cap=es.length) :
  Rep d μ (.lst full es) (.slice (zo ⟨b,off,zn⟩) es.length cap):=by
 refine .lst _ _ _ _ _ n _ (λi j=>(arr[i*n+j]?).getD undef) a hc g.2.1 ?_ ?_ ?_
 all_goals
  intro i e j c hi o;obtain⟨v,f,h,l⟩:=g.2.2 i e j c hi o;simp only[f,aE]
 ·rw[aH];exact m _ _ f
 ·exact h
 ·exact l
theorem Is(s:Sim M μ h w){ty:TypeId}{len:Nat}{J:List (Nat×PV)}{b:Array (Nat×Value)}(B:PsRep M μ J b.toList){r:R}(e:Ah P h ty len J=zo r) :
  Bm P M μ w ((do pure (.value (<- Instr.buildSlice ty len b)):Sem Next).run P w) r:=by
 unfold Ah at e;split at e
 ·rename_i t G;split at e
  ·rename_i n ag z F N Y;split at e
   ·rename_i z1 D;obtain⟨hc,e⟩:=Bn e;simp at hc;obtain⟨⟨m,A⟩,E⟩:=hc;split at e
    ·rename_i es x;split at e
     ·rename_i qs p d;obtain⟨h',y,rfl⟩:=AA e;obtain⟨K,i,hi,O,o,X,L⟩:=B0 Y M μ w;obtain⟨a,q,f,l⟩:=PY m B (JN (len:=len) X L E m D) x;obtain⟨M',I,Z,m3,_⟩:=BQ p s y;have W:=(Oo s f d p (λ_ h=>h)).mono I (.refl _);have u:=Z.data (w':=w.alloc (.cells a t)) (arr:=a) (ty:=t) rfl;have C:qs.length=len:=by rw[(Gp d).1,l];simp
      refine⟨_,μ,w.alloc (.cells a t),.slice (zo ⟨w.heap.size,0,zn⟩) len len,?_,u.1,(Et I m3).trans (Grow.data u.2 rfl rfl rfl rfl (λ_ _ _ h=>by cases h;rfl)),?_⟩
      ·have c:¬ (2 ^ 24<len*n):=by simpa using A
       by_cases j:len*n=0
       ·have U:len=0:=by rcases Nat.mul_eq_zero.1 j with h|h<;>omega
        have g:(bn (len*n)).map (K.cells[· % K.cells.size]!)=(bn (len*n)).map ((#[]:Array Value)[· % (#[]:Array Value).size]!):=by simp[j]
        rw[g]at q;simp[j]at q;simp[Instr.buildSlice,AF G,Ac F,j,q,newRow]
       ·simp[Instr.buildSlice,AF G,Ac F,j,o,c,q,newRow]
      ·rw[<- C];refine LY (arr:=a) (W.mono u.2 (.refl _)) (λk v S=> ?_) μ zt _ (ad _) (λ_=>rfl);simp[Dn,S]
     ·cases e
    ·cases e
   ·cases e
  ·cases e
 ·cases e
theorem Eh{p:PV}{n:Nat}{v:Value}(e:FY p=zo n)(b:Rep M μ p v):∃ k i,p=.int k i/\v=.int k i/\0<=i/\i.toNat=n:=by
 unfold FY at e;split at e
 ·rename_i k i;obtain⟨a,e⟩:=Aa e;cases e;cases b;exact⟨k,i,rfl,rfl,by simpa using a,rfl⟩
 ·cases e
theorem H7{p:PV}{n:Nat}{v:Value}(e:E8 p=zo n)(b:Rep M μ p v):∃ i,v=.int .i64 i/\0<=i/\i.toNat=n:=by
 unfold E8 at e;split at e
 ·rename_i i;obtain⟨a,e⟩:=Aa e;cases e;cases b;exact⟨i,rfl,by simpa using a,rfl⟩
 ·cases e
theorem Iq(i:Int)(a:0<=i)(b:i<9223372036854775808):IntKind.i64.wrap i=i:=by
 unfold IntKind.wrap
 have e:i % (2 ^ IntKind.i64.bits:Int)=i:=by
  have:(2 ^ IntKind.i64.bits:Int)=18446744073709551616:=by decide
  rw[this];omega
 simp only[e]
 have e2:¬ (i>=(2 ^ (IntKind.i64.bits-1):Int)):=by
  have:(2 ^ (IntKind.i64.bits-1):Int)=9223372036854775808:=by decide
  rw[this];omega
 simp[e2]
theorem RD(s:Sim M μ h w){id:Nat}{ty:TypeId}{l c:PV}{x y:Value}(hx:Rep M μ l x)(hy:Rep M μ c y){r:R}(e:C0 P h id ty l c=zo r) :
  Bm P M μ w ((do pure (.value (<- Instr.makeSlice ty x y)):Sem Next).run P w) r:=by
 unfold C0 at e;split at e
 ·rename_i I ln cn Y hl hc;split at e
  ·rename_i n ag z S W hag hz t;split at e
   ·rename_i z1 N;obtain⟨g,e⟩:=Aa e;simp[Ba]at g;obtain⟨⟨⟨⟨hlc,hcs⟩,hb⟩,B⟩,O⟩:=g;obtain⟨h',C,rfl⟩:=AA e;obtain⟨F,rfl,K,rfl⟩:=H7 hl hx;obtain⟨d,rfl,u,rfl⟩:=H7 hc hy;obtain⟨G,i,hi,hiz,D,hr,h1⟩:=B0 hz M μ w;obtain⟨p,E,_⟩:=Hp.get_new C;have k:=JN (len:=d.toNat) hr h1 O B N
    have hμ:μ id=zn:=by
     cases hm:μ id with
     |none=>rfl
     |some x=>exact absurd p (s.use id x hm).1
    have hS:=s.fresh (w':=w.alloc (.cells ((bn (d.toNat*n)).map (G.cells[· % G.cells.size]!)) I)) (r:=⟨w.heap.size,0,n,d.toNat⟩) (o:=.cells _ I (0,0)) p E rfl rfl
     ⟨_,I,rfl,by simp,by simp,by simp,B,λi e he=>k.2.1 i e he,λi e j c v a b Z=>by
      obtain⟨v',U,c2,c3⟩:=k.2.2 i e j c a b;simp only[aN]at Z;rw[Z]at U;cases U
      exact⟨c2,c3.mono (.refl _) (Dq hμ)⟩⟩
    refine⟨M,_,_,.slice (zo ⟨w.heap.size,0,zn⟩) F.toNat d.toNat,?_,hS.1,Grow.newBlk hμ rfl rfl rfl rfl rfl (λ_ _ _ h=>by cases h;rfl),?_⟩
    ·have w1:=Iq F K (by omega);have w2:=Iq d u (by omega)
     have f:¬ ((281474976710656:Int)<S.bytes*d):=by
      have:(S.bytes:Int)*d<=1048576*1048576:=Int.mul_le_mul (by omega) (by omega) u (by omega);omega
     have q:¬ (d<0):=by omega
     have m:¬ (F<0):=by omega
     have A:¬ (d<F):=by omega
     have X:i=S:=by rw[t]at hi;exact(Option.some.inj hi).symm
     by_cases J:d.toNat*n=0
     ·have L:(bn (d.toNat*n)).map (G.cells[· % G.cells.size]!)=(bn (d.toNat*n)).map ((#[]:Array Value)[· % (#[]:Array Value).size]!):=by simp[J]
      rw[L];simp[Instr.makeSlice,AF Y,asInt,asIntOf,FH t,w1,w2,f,q,m,A,Ac W,J,newRow]
     ·simp[Instr.makeSlice,AF Y,asInt,asIntOf,FH t,w1,w2,f,q,m,A,Ac W,J,D,newRow]
    ·have:=Rep.own (M:=M) (DU μ id ⟨w.heap.size,0,n,d.toNat⟩) id 0 F.toNat ⟨w.heap.size,0,n,d.toNat⟩ (by simp[DU]) (by simp;omega);simpa using this
   ·cases e
  ·cases e
 ·cases e
end
end
section
variable[Gl]
section
variable{P:Program}{M:Ak}{μ:Mu}{h:Hp}{w:World}
def Kz(M:Ak)(μ:Mu):Option PV->Option Value->Prop
 |none,zn=>True
 |some p,zo v=>Rep M μ p v
 |_,_=>False
theorem Mc{t:T PV}{nt:Nat}{a:Act}(c:GlOK M)(d:TmpsRep M μ t nt a.tmps){o:Option Operand}{p:Option PV}(e:Mb t o=zo p):Kz M μ p (o.map a.eval):=by
 cases o with
 |none=>cases e;trivial
 |some o=>
  simp only[Mb]at e;cases b:B1 t o with
  |none=>rw[b]at e;cases e
  |some q=>rw[b]at e;cases e;exact CP c d b
theorem A0{k:IntKind}{i:Int}{y:Nat}(a:0<=i)(b:i.toNat<=y)(c:BoundsCode):(Instr.sliceBound (.int k i) y c).run P w=.ok i.toNat w:=by
 have:0<=i/\i<=(y:Int):=⟨a,by omega⟩;simp[Instr.sliceBound,asIntOf,this]
theorem D8{d n:Nat}{p:Option PV}{v:Option Value}(e:CU d p=zo n)(a:Kz M μ p v):(p=zn/\v=zn/\n=d) \/ ∃ k i,v=zo (.int k i)/\p.isSome=zt/\0<=i/\i.toNat=n:=by
 cases p with
 |none=>cases v with
  |none=>cases e;exact .inl ⟨rfl,rfl,rfl⟩
  |some v=>exact a.elim
 |some p=>cases v with
  |none=>exact a.elim
  |some v=>obtain⟨k,i,_,rfl,b,c⟩:=Eh e a;exact .inr ⟨k,i,rfl,rfl,b,c⟩
theorem Cb{isS:Bool}{len cap l hh m:Nat}{lo hi mx:Option PV}{j h vmx:Option Value}(e:Kz M μ lo j)(g:Kz M μ hi h)(r:Kz M μ mx vmx)
  (d:CU 0 lo=zo l) (f:CU len hi=zo hh) (n:CU cap mx=zo m) (t:m<=cap) (c:hh<=m) (p:l<=hh) (q:mx.isSome=zt->hi.isSome=zt) :
  (Instr.sliceBounds isS len cap j h vmx).run P w=.ok (l,hh,m) w:=by
 rcases D8 n r with⟨rfl,rfl,rfl⟩|⟨k,i,rfl,hs,s,rfl⟩
 ·rcases D8 f g with⟨_,rfl,rfl⟩|⟨z,y,rfl,_,a,rfl⟩
  ·rcases D8 d e with⟨_,rfl,rfl⟩|⟨x,u,rfl,_,b,rfl⟩
   ·simp only[Instr.sliceBounds,Sem.run_bind,Sem.run_pure,Result.andThen]
   ·simp only[Instr.sliceBounds,Sem.run_bind,Sem.run_pure,Result.andThen,A0 b p]
  ·rcases D8 d e with⟨_,rfl,rfl⟩|⟨x,u,rfl,_,b,rfl⟩
   ·simp only[Instr.sliceBounds,Sem.run_bind,Sem.run_pure,Result.andThen,A0 a c]
   ·simp only[Instr.sliceBounds,Sem.run_bind,Sem.run_pure,Result.andThen,A0 a c,A0 b p]
 ·have o:=q hs;rcases D8 f g with⟨rfl,_,_⟩|⟨z,y,rfl,_,a,rfl⟩
  ·cases o
  ·rcases D8 d e with⟨_,rfl,rfl⟩|⟨x,u,rfl,_,b,rfl⟩
   ·simp only[Instr.sliceBounds,Sem.run_bind,Sem.run_pure,Result.andThen,A0 a c,A0 s t]
   ·simp only[Instr.sliceBounds,Sem.run_bind,Sem.run_pure,Result.andThen,A0 a c,A0 s t,A0 b p]
theorem Rh{a b:Nat}(e:af a b=zf):b<=a:=by
 by_cases h:a<b
 ·have:af a b=zt:=by simpa using h
  rw[this]at e;cases e
 ·omega
theorem QY{l:List UInt8}{s:ByteArray}(e:s.data.toList=l)(μ:Mu):Rep M μ (.str l) (.string s):=by subst e;exact .str _ s
theorem Nj{full d:Bool}{es:List PV}{a:Option Addr}{len cap l hh m n:Nat}(s:Rep M μ (.lst full es) (.slice a len cap))(w:l<=hh)(k:hh<=es.length)(y:hh<=m)(_hmc:m<=cap)(p:Ce n es=zt)
  (r:d=zt->m=hh):Rep M μ (.lst d ((es.drop l).take (hh-l))) (.slice (if m=l then a else a.map (·.add (l*n))) (hh-l) (m-l)):=by
 have o:((es.drop l).take (hh-l)).length=hh-l:=by simp;omega
 by_cases t:hh=l
 ·subst t;have:(es.drop hh).take (hh-hh)=[]:=by simp
  rw[this,du];refine .lst0' ?_ λq=>by have:=r q;omega
  have:a≠zn:=by cases s<;>(intro h;cases h)
  cases a with
  |none=>exact absurd rfl this
  |some a=>split<;>(intro h;cases h)
 ·cases s with
  |lst0=>simp at k;omega
  |lst _ _ _ b off esz _ x hfull hc hs hmem h1 hrep=>
   have u:esz=n:=by
    cases es with
    |nil=>simp at k;omega
    |cons e es=>have:=hs 0 e rfl;simp[Ce]at p;omega
   subst u;rw[zx (by omega)];simp only[ap,Bo]
   have:Rep M μ (.lst d ((es.drop l).take (hh-l))) (.slice (zo ⟨b,off+l*esz,zn⟩) ((es.drop l).take (hh-l)).length (m-l)):=by
    have f:∀ (i:Nat) (e:PV),((es.drop l).take (hh-l))[i]?=zo e->es[l+i]?=zo e:=by
     intro i e g;rw[aA]at g;split at g
     ·rwa [aM]at g
     ·cases g
    refine .lst _ _ _ _ _ esz _ (λi j=>x (l+i) j) (λq=>by have:=r q;omega) (by omega) (λi e g=>hs _ e (f i e g)) (λi e j c g hc=> ?_) (λi e j c g hc=>h1 _ e j c (f i e g) hc) (λi e j c g hc=>hrep _ e j c (f i e g) hc);have:=hmem _ e j c (f i e g) hc;rw[aG]at this;rw[show off+l*esz+i*esz+j=off+(l*esz+i*esz)+j by omega];exact this
   rwa [o]at this
theorem Og{full:Bool}{es:List PV}{a:Option Addr}{len cap:Nat}(c:Rep M μ (.lst full es) (.slice a len cap)):Rep M μ (.lst zt es) (.slice a len len):=by
 cases c with
 |lst0=>exact .lst0 _ _ _ _ λ_=>rfl
 |lst _ _ _ b off esz _ x hfull hc hs hmem h1 hrep=>exact .lst _ _ _ _ _ esz _ x (λ_=>rfl) (ad _) hs hmem h1 hrep
theorem RC{full:Bool}{es:List PV}{a:Option Addr}{n c:Nat}(b:Rep M μ (.lst full es) (.slice a n c)):es.length=n:=by
 cases b<;>rfl
theorem BW{ty d n len cap l hh m:Nat}{a:Option Addr}{c b vmx:Option Value}(g:P.underlying ty=zo (.slice d))(f:AU P d=zo n)
  (e:(Instr.sliceBounds zt len cap c b vmx).run P w=.ok (l,hh,m) w) :
  (Instr.sliceAt ty (.slice a len cap) c b vmx).run P w=.ok (.slice (if m=l then a else a.map (·.add (l*n))) (hh-l) (m-l)) w:=by
 simp only[Instr.sliceAt,Instr.slice,Sem.run_bind,AF g,Result.andThen,e,Ac f,Sem.run_pure]
theorem KK{c:PV}(h:IU c=zt):c.cells=[c]:=by
 cases c<;>first|rfl|cases h
theorem Km{ty c n b off:Nat}(e:P.underlying ty=zo (.array n c))(d:AU P c=zo 1)(f:0<n) :
  (Instr.sliceAt ty (.pointer (zo ⟨b,off,zn⟩)) zn zn zn).run P w=.ok (.slice (zo ⟨b,off,zn⟩) n n) w:=by
 have a:¬ n=0:=by omega
 simp[Instr.sliceAt,Instr.sureAddr,AF e,Ac d,Result.andThen,asAddr,Instr.sliceBounds,a,Addr.add]
theorem Rr(s:Sim M μ h w){ty:TypeId}{p:PV}{x:Value}(J:Rep M μ p x){r:R}(e:DE P h ty p=zo r) :
  Bm P M μ w ((do pure (.value (<- Instr.sliceAt ty x zn zn zn)):Sem Next).run P w) r:=by
 unfold DE at e;split at e
 ·rename_i n N u;split at e
  ·rename_i O cs m F G;replace e:=Aa e;obtain⟨hc,e⟩:=e;simp only[ac]at hc;obtain⟨o,q,A,D⟩:=hc;have o:=aj o;subst o;have q:0<n:=by simpa using q
   have A:=aq A;obtain⟨h',t,rfl⟩:=AA e;obtain⟨z,C,K,L,_⟩:=BQ m s t;have I:=(E1 s m _ _ _ _ _ G J (λ_ h=>h)).mono C (.refl _);cases I with
   |view _ _ b off y hm h1 hr=>
    refine⟨z,μ,w,_,by simp only[Sem.run_bind,Km u F q,Result.andThen,Sem.run_pure];rfl,K,Et C L,?_⟩;have B:(cs.take n).length=n:=by rw[aX];omega
    have l:∀ (i:Nat) (e:PV),(cs.take n)[i]?=zo e->cs[i]?=zo e/\e.cells=[e]:=λi e g=>by
     refine⟨?_,KK (a8.1 D e (bV g))⟩;rw[aA]at g;split at g
     ·exact g
     ·cases g
    have k:∀ (i:Nat) (e:PV) (j:Nat) (c:PV),(cs.take n)[i]?=zo e->e.cells[j]?=zo c->j=0/\c=e/\cs[i]?=zo e:=λi e j c d a=>by
     obtain⟨f,E⟩:=l i e d;rw[E]at a;cases j with
     |zero=>simp at a;exact⟨rfl,a.symm,f⟩
     |succ j=>simp at a
    have:=Rep.lst (M:=z) μ zt (cs.take n) b off 1 n (λi _=>y i) (λ_=>B.symm) (by omega) (λi e g=>by rw[(l i e g).2];rfl)
     (λi e j c d a=>by
      obtain⟨rfl,rfl,f⟩:=k i e j c d a;have:=hm i c f
      simpa using this)
     (λi e j c d a=>by
      obtain⟨rfl,rfl,f⟩:=k i e j c d a
      exact h1 i c f)
     (λi e j c d a=>by
      obtain⟨rfl,rfl,f⟩:=k i e j c d a
      exact hr i c f)
    rwa [B]at this
  ·cases e
 ·cases e
theorem QW(s:Sim M μ h w){ty:TypeId}{p:PV}{x:Value}{lo hi mx:Option PV}{I G vmx:Option Value}(F:Rep M μ p x)(k:Kz M μ lo I)(i:Kz M μ hi G)(o:Kz M μ mx vmx){r:R}
  (e:Af P h ty p lo hi mx=zo r):Bm P M μ w ((do pure (.value (<- Instr.sliceAt ty x I G vmx)):Sem Next).run P w) r:=by
 unfold Af at e;split at e
 ·rename_i l0 z;split at e
  ·rename_i hh l d g;replace e:=Aa e;obtain⟨hc,e⟩:=e;cases e;simp at hc;cases F with
   |str _ sb=>
    cases vmx with
    |some v=>exact o.elim
    |none=>
     have N:sb.size=sb.data.toList.length:=by simp
     have q:=Cb (P:=P) (w:=w) (isS:=false) (len:=sb.size) (cap:=sb.size) k i (mx:=none) (vmx:=none) trivial g (by rw[N];exact d) rfl (ad _) (by rw[N];exact hc.1) hc.2 (by intro h;cases h);refine AC s (x:=.string (sb.extract l hh)) ?_ (QY ?_ μ)
     ·simp[Instr.sliceAt,Instr.slice,AF z,q]
     ·rw[<- ByteArray.toList_eq,ByteArray.toList_eq,ByteArray.data_extract];simp[List.extract_eq_take_drop]
  ·cases e
 ·rename_i el p' z;split at e
  ·cases e
  ·rename_i n C;split at e
   ·split at e
    ·rename_i e1 e2 e3;replace e:=Bn e;obtain⟨hc,e⟩:=e;cases e;cases F
     have q:=Cb (P:=P) (w:=w) (isS:=true) (len:=0) (cap:=0) k i o e1 e2 e3 (ad _) (ad _) (ad _) (by
      intro hs;cases hi with
      |none=>simp[hs]at hc
      |some _=>rfl)
     exact AC s (BW (a:=none) z C q) (by simpa using Rep.nils (M:=M) μ)
    ·cases e
   ·rename_i full es;replace e:=Bn e;obtain⟨t,e⟩:=e;simp at t;split at e
    ·rename_i l hh g d
     have hsl:∃ a cap,x=.slice a es.length cap/\es.length<=cap/\(full=zt->cap=es.length):=by
      cases F with
      |lst0 _ _ a cap B=>exact⟨zo a,cap,rfl,by simp,B⟩
      |lst _ _ _ b off esz cap x B hc hs hm h1 hr=>exact⟨_,_,rfl,hc,B⟩
     obtain⟨a,cap,rfl,K,E⟩:=hsl;split at e
     ·replace e:=Aa e;obtain⟨hc,e⟩:=e;cases e;simp at hc;cases vmx with
      |some v=>exact o.elim
      |none=>
       have q:=Cb (P:=P) (w:=w) (isS:=true) (len:=es.length) (cap:=cap) k i (mx:=none) (vmx:=none) trivial g d rfl (ad _) (by omega) hc.2 (by intro h;cases h);refine AC s (BW z C q) (Nj F hc.2 hc.1 (by omega) (ad _) t ?_);intro B;simp at B;have:=E B.1;omega
     ·rename_i W;split at e
      ·rename_i m S;replace e:=Aa e;obtain⟨hc,e⟩:=e;cases e;simp at hc;obtain⟨⟨⟨A,D⟩,J⟩,Y⟩:=hc;have q:=Cb (P:=P) (w:=w) (isS:=true) (len:=es.length) (cap:=cap) k i o g d (show CU cap (zo W)=zo m from S) (by omega) D J (λ_=>Y);refine AC s (BW z C q) (Nj F J (by omega) D (by omega) t ?_);intro B;simp at B;omega
      ·cases e
    ·cases e
   ·rename_i j off len;split at e
    ·rename_i es ex fz X;replace e:=Bn e;obtain⟨t,e⟩:=e;simp at t;split at e
     ·rename_i l hh g d;replace e:=Bn e;obtain⟨hc,e⟩:=e;simp at hc;obtain⟨A,D⟩:=hc;cases F with
      |own _ _ _ _ r hr K=>
       obtain⟨r',L,arr,ety,h1,h2,h3,h4,h5,h6,h7⟩:=s.blk j _ X;rw[hr]at L;cases L
       have u:∀ m,l<m->off+l<es.length->(if m=l then zo (⟨r.b,r.base+off*r.esz,zn⟩:Addr)else(zo ⟨r.b,r.base+off*r.esz,zn⟩:Option Addr).map (·.add (l*n)))=zo ⟨r.b,r.base+(off+l)*r.esz,zn⟩:=by
        intro m hm c;rw[zx (by omega)]
        have:n=r.esz:=by
         cases es with
         |nil=>simp at c
         |cons e0 es=>have:=h6 0 e0 rfl;simp[Ce]at t;omega
        simp only[ap,Bo,this,aG]
        congr 2;omega
       split at e
       ·cases vmx with
        |some v=>exact o.elim
        |none=>
         have q:=Cb (P:=P) (w:=w) (isS:=true) (len:=len) (cap:=r.cap-off) k i (mx:=none) (vmx:=none) trivial g d rfl (ad _) (by omega) A (by intro h;cases h);cases c:af (off+l) es.length with
         |true=>
          rw[c]at e;cases e;simp at c;refine AC s (BW z C q) ?_;rw[u _ (by omega) c];have:=Rep.own (M:=M) μ j (off+l) (hh-l) r hr (by omega)
          rwa [show r.cap-(off+l)=r.cap-off-l by omega]at this
         |false=>
          rw[c]at e;cases e;have hge:es.length<=off+l:=Rh c;refine AC s (BW z C q) ?_;rw[show hh-l=0 by omega];exact .lst0' (by first|(split<;>(intro h;cases h))|(intro h;cases h)) (by intro h;cases h)
       ·rename_i W;split at e
        ·rename_i m S;cases U:(hi.isSome&&ah hh m&&ex&&aa (off+m) es.length)with
         |true=>
          rw[U]at e;simp at U;obtain⟨⟨⟨a1,a2⟩,rfl⟩,a4⟩:=U;have Z:=h4 rfl;have q:=Cb (P:=P) (w:=w) (isS:=true) (len:=len) (cap:=r.cap-off) k i o g d (show CU (r.cap-off) (zo W)=zo m from S) (by omega) a2 A (λ_=>a1);cases c:af (off+l) es.length with
          |true=>
           rw[c]at e;cases e;simp at c;refine AC s (BW z C q) ?_;rw[u _ (by omega) c];have:=Rep.own (M:=M) μ j (off+l) (hh-l) r hr (by omega)
           rwa [show r.cap-(off+l)=m-l by omega]at this
          |false=>
           rw[c]at e;cases e;have hge:es.length<=off+l:=Rh c;refine AC s (BW z C q) ?_;rw[show hh-l=0 by omega,show m-l=0 by omega];exact .lst0' (by first|(split<;>(intro h;cases h))|(intro h;cases h)) (λ_=>rfl)
         |false=>
          rw[U]at e;simp only[zj]at e;replace e:=Aa e;obtain⟨hB,e⟩:=e;simp at hB;obtain⟨b1,rfl⟩:=hB;have q:=Cb (P:=P) (w:=w) (isS:=true) (len:=len) (cap:=r.cap-off) k i o g d (show CU (r.cap-off) (zo W)=zo m from S) (by omega) (ad _) A (λ_=>b1);unfold DZ at e;split at e
          ·rename_i f xs O hp;obtain⟨h',hfr,rfl⟩:=AA e;obtain⟨M',m1,m2,m3,_⟩:=BQ O s hfr;have hq:=(E1 s O _ _ _ _ _ hp (Rep.own μ j (off+l) (m-l) r hr (by omega)) (λ_ h=>h)).mono m1 (.refl _);have y:=(Og hq).mono (.refl _) (.mu0 μ);refine⟨M',μ,w,_,by simp only[Sem.run_bind,BW z C q,Result.andThen,Sem.run_pure];rfl,m2,Et m1 m3,?_⟩;by_cases hlm:m=l
           ·subst hlm;rw[du]at y ⊢;have:xs=[]:=List.eq_nil_of_length_eq_zero (RC y);subst this;exact .lst0' (by first|(split<;>(intro h;cases h))|(intro h;cases h)) (λ_=>rfl)
           ·rw[u _ (by omega) (by omega)];exact y
          ·cases e
        ·cases e
     ·cases e
    ·cases e
   ·cases e
 ·split at e
  ·cases I with
   |some _=>exact k.elim
   |none=>cases G with
    |some _=>exact i.elim
    |none=>cases vmx with
     |some _=>exact o.elim
     |none=>exact Rr s F e
  ·cases e
 ·cases e
end
end
section
variable[Gl]
section
variable{P:Program}{M:Ak}{μ:Mu}{h:Hp}{w:World}
theorem Dl{b off:Nat}{a:Field}{n:Nat}(d:AU P a.type=zo n)(c:n≠0):(fieldPlace ⟨b,off,zn⟩ a).run P w=.ok ⟨b,off+a.offset,zn⟩ w:=by
 simp[fieldPlace,Ac d,c,Bo]
theorem J5(s:Sim M μ h w){k:TypeId}{p:PV}{x:Value}{f:Nat}(q:Rep M μ p x){r:R}(e:Av P h k p f=zo r) :
  Bm P M μ w ((do pure (.value (<- Instr.fieldAt k x f)):Sem Next).run P w) r:=by
 unfold Av at e;split at e
 ·rename_i u o;split at e
  ·rename_i l d;split at e
   ·rename_i n m;replace e:=Bn e;obtain⟨t,e⟩:=e;have a:n≠0:=by intro hc;subst hc;simp at t
    split at e
    ·rename_i j off;cases e;cases q with
     |ptr _ _ _ r hr=>
      refine AC s (x:=.pointer (zo ⟨r.b,r.base+off+l.offset,zn⟩)) ?_ ?_
      ·simp[Instr.fieldAt,AF o,d,Instr.sureAddr,Dl m a]
      ·rw[aH];exact .ptr _ _ _ r hr
    ·rename_i j i off;cases e;cases q with
     |ept _ _ _ _ r hr=>
      refine AC s (x:=.pointer (zo ⟨r.b,r.base+i*r.esz+off+l.offset,zn⟩)) ?_ ?_
      ·simp[Instr.fieldAt,AF o,d,Instr.sureAddr,Dl m a]
      ·rw[aH (r.base+i*r.esz)];exact .ept _ _ _ _ r hr
    ·rename_i cs;cases e;cases q with
     |view _ _ b off x hm h1 hr=>
      refine AC s (x:=.pointer (zo ⟨b,off+l.offset,zn⟩)) ?_ ?_
      ·simp[Instr.fieldAt,AF o,d,Instr.sureAddr,Dl m a]
      ·refine .view _ _ _ _ (λj=>x (l.offset+j)) (λj c g=> ?_) (λj c g=>h1 _ c (by simpa using g)) (λj c g=>hr _ c (by simpa using g));rw[aH];exact hm _ c (by simpa using g)
    ·cases e
   ·cases e
  ·cases e
 ·cases e
theorem PW(s:Sim M μ h w){ty:TypeId}{p:PV}{x:Value}{f:Nat}(m:Rep M μ p x){r:R}(e:B6 P h ty p f=zo r) :
  Bm P M μ w ((do pure (.value (<- Instr.field ty x f)):Sem Next).run P w) r:=by
 unfold B6 at e;split at e
 ·rename_i o cs k;split at e
  ·rename_i j d;obtain⟨v,l,rfl⟩:=Dh e;cases m with
   |agg _ _ vs hl h1 hr=>
    obtain⟨y,n,g,_⟩:=FO (P:=P) l (M:=M) (μ:=μ) (vs:=vs) (off:=j.offset) (RepL.drop ⟨by simpa using hl,λi c v a b=>hr i c v a (by simpa using b)⟩ j.offset) h1 w;exact AC s (by simp[Instr.field,AF k,d,asAgg,n]) g
  ·cases e
 ·cases e
theorem KJ(s:Sim M μ h w){ty:TypeId}{p q:PV}{x y:Value}(z:Rep M μ p x)(E:Rep M μ q y){r:R}(e:Ap P h ty p q=zo r) :
  Bm P M μ w ((do pure (.value (<- Instr.indexAt ty x y)):Sem Next).run P w) r:=by
 unfold Ap at e;split at e
 ·rename_i G k o C;obtain⟨K,i,rfl,rfl,f,rfl⟩:=Eh C E;split at e
  ·rename_i n m;split at e
   ·rename_i full es;split at e
    ·rename_i e1 a;rw[AN]at a;replace e:=Aa e;obtain⟨t,e⟩:=e;cases e;simp at t;have hi:i.toNat<es.length:=(ab.1 a).1;cases z with
     |lst0=>simp at hi
     |lst _ _ _ b off esz cap x hf hc hs hm A hr=>
      have D:esz=n:=by rw[<- t];exact(hs _ _ a).symm
      subst D;refine AC s (x:=.pointer (zo ⟨b,off+i.toNat*esz,zn⟩)) ?_ ?_
      ·have g:0<=i/\i<(es.length:Int):=⟨f,by omega⟩;simp[Instr.indexAt,asIntOf,AF o,g,Ac m,Bo]
      ·exact .view _ _ _ _ (x i.toNat) (λj c d=>hm _ _ j c a d) (λj c d=>A _ _ j c a d) (λj c d=>hr _ _ j c a d)
    ·cases e
   ·rename_i j off len;replace e:=Aa e;obtain⟨l,e⟩:=e;simp at l;split at e
    ·rename_i es ex fz B;split at e
     ·rename_i e1 a;rw[AN]at a;replace e:=Aa e;obtain⟨t,e⟩:=e;cases e;simp at t;cases z with
      |own _ _ _ _ r hr hcap=>
       obtain⟨W,u,arr,I,A,L,N,O,S,J,U⟩:=s.blk j _ B;rw[hr]at u;cases u;have D:n=r.esz:=by rw[<- t];exact J _ _ a
       refine AC s (x:=.pointer (zo ⟨r.b,r.base+off*r.esz+i.toNat*n,zn⟩)) ?_ ?_
       ·have g:0<=i/\i<(len:Int):=⟨f,by omega⟩;simp[Instr.indexAt,asIntOf,AF o,g,Ac m,Bo]
       ·have:=Rep.ept (M:=M) μ j (off+i.toNat) 0 r hr;rw[D]
        rwa [aG,bg,<- aH]at this
     ·cases e
    ·cases e
   ·cases e
  ·cases e
 ·rename_i len G k o C;obtain⟨K,i,rfl,rfl,f,rfl⟩:=Eh C E;split at e
  ·rename_i n m;replace e:=Aa e;obtain⟨l,e⟩:=e;simp at l;have g:0<=i/\i<(len:Int):=⟨f,by omega⟩;split at e
   ·rename_i j off;cases e;cases z with
    |ptr _ _ _ r hr=>
     refine AC s (x:=.pointer (zo ⟨r.b,r.base+off+i.toNat*n,zn⟩)) ?_ ?_
     ·simp[Instr.indexAt,asIntOf,AF o,g,Ac m,Bo,Instr.sureAddr]
     ·rw[aH];exact .ptr _ _ _ r hr
   ·rename_i j F off;cases e;cases z with
    |ept _ _ _ _ r hr=>
     refine AC s (x:=.pointer (zo ⟨r.b,r.base+F*r.esz+off+i.toNat*n,zn⟩)) ?_ ?_
     ·simp[Instr.indexAt,asIntOf,AF o,g,Ac m,Bo,Instr.sureAddr]
     ·rw[aH (r.base+F*r.esz)];exact .ept _ _ _ _ r hr
   ·rename_i cs;cases e;cases z with
    |view _ _ b off x hm A hr=>
     refine AC s (x:=.pointer (zo ⟨b,off+i.toNat*n,zn⟩)) ?_ ?_
     ·simp[Instr.indexAt,asIntOf,AF o,g,Ac m,Bo,Instr.sureAddr]
     ·refine .view _ _ _ _ (λj=>x (i.toNat*n+j)) (λj c d=> ?_) (λj c d=>A _ c (by simpa using d)) (λj c d=>hr _ c (by simpa using d));rw[aH];exact hm _ c (by simpa using d)
   ·cases e
  ·cases e
 ·cases e
theorem OJ(s:ByteArray)(k:Nat):s[k]?=s.data.toList[k]?:=by
 by_cases a:k<s.size
 ·rw[ByteArray.getElem?_lt' s k a];have:k<s.data.toList.length:=by simpa using a
  rw[ae this];rfl
 ·rw[ByteArray.getElem?_ge' s k a,List.getElem?_eq_none];simpa using a
theorem Pg(s:Sim M μ h w){ty:TypeId}{p q:PV}{x y:Value}(t:Rep M μ p x)(u:Rep M μ q y){r:R}(e:Bw P h ty p q=zo r) :
  Bm P M μ w ((do pure (.value (<- Instr.index ty x y)):Sem Next).run P w) r:=by
 unfold Bw at e;split at e
 ·rename_i len F cs k o g;obtain⟨E,i,rfl,rfl,d,rfl⟩:=Eh g u;replace e:=Aa e;obtain⟨j,e⟩:=e;simp at j;split at e
  ·rename_i n B;obtain⟨v,C,rfl⟩:=Dh e;cases t with
   |agg _ _ vs hl h1 hr=>
    obtain⟨z,D,m,_⟩:=FO (P:=P) C (M:=M) (μ:=μ) (vs:=vs) (off:=i.toNat*n) (RepL.drop ⟨by simpa using hl,λi c v a b=>hr i c v a (by simpa using b)⟩ _) h1 w;have f:0<=i/\i<(len:Int):=⟨d,by omega⟩;exact AC s (by simp[Instr.index,asIntOf,AF o,f,Ac B,D]) m
  ·cases e
 ·rename_i l k o g;obtain⟨E,i,rfl,rfl,d,rfl⟩:=Eh g u;split at e
  ·rename_i b f;cases e;rw[AN]at f;cases t with
   |str _ sb=>
    have A:sb[i.toNat]?=zo b:=by rw[OJ];exact f
    refine AC s (x:=.int .u8 b.toNat) ?_ (.int _ _ _);simp[Instr.index,asIntOf,AF o,d,A]
  ·cases e
 ·cases e
theorem Me(s:Sim M μ h w){p:PV}{x:Value}{i:Nat}(c:Rep M μ p x){r:R}(e:Be h p i=zo r) :
  Bm P M μ w ((do pure (.value (<- Instr.extract x i)):Sem Next).run P w) r:=by
 unfold Be at e;split at e
 ·rename_i vs;obtain⟨v,a,rfl⟩:=Dh e;rw[AN]at a;cases c with
  |tup _ _ va hl hr=>
   have hi:i<va.size:=by rw[<- hl];exact(ab.1 a).1
   have b:=al hi;exact AC s (x:=va[i]) (by simp[Instr.extract,b]) (hr _ _ _ a b)
 ·cases e
theorem Jo{ty:TypeId}{z:PV}(e:Bt P ty=zo z)(M:Ak)(μ:Mu)(w:World):∃ a,(zeroValue ty).run P w=.ok a w/\Rep M μ z a:=by
 unfold Bt at e;split at e
 ·rename_i i hi;split at e
  ·rename_i a b;exact⟨a,by simp[zeroValue,typeInfo,hi,b],Lm e M μ⟩
  ·cases e
 ·cases e
theorem Kb{a b:PV}{x y:Value}(e:Rep M μ a x)(f:Rep M μ b y):Rep M μ (.tup [a,b]) (.tuple #[x,y]):=
 .tup _ _ _ rfl λi c v hc d=>by
  match i with
  |0=>simp at hc d;subst hc;subst d;exact e
  |1=>simp at hc d;subst hc;subst d;exact f
  |i+2=>simp at hc
theorem OF(s:Sim M μ h w){D ty:TypeId}{p:PV}{x:Value}{n:Bool}(A:Rep M μ p x){r:R}(e:BK P h ty p n=zo r) :
  Bm P M μ w ((do pure (.value (<- Instr.typeAssert x D ty n)):Sem Next).run P w) r:=by
 have c:∀ {q:PV} {v:Value},Rep M μ q v->Rep M μ (Dr n q) (if n then .tuple #[v,.bool zt]else v):=by
  intro q v E;cases n with
  |true=>exact Kb E (.bool _ _)
  |false=>exact E
 have b:∀ {z:PV},n=zt->Bt P ty=zo z -> ∃ j,(zeroValue ty).run P w=.ok j w/\Rep M μ (.tup [z,.bool zf]) (.tuple #[j,.bool zf]):=by
  intro z _ m;obtain⟨j,k,l⟩:=Jo m M μ w;exact⟨j,k,Kb l (.bool _ _)⟩
 unfold BK at e;split at e
 ·rename_i F t;split at e
  ·rename_i u a;split at e
   ·rename_i i hi;cases A with
    |ifc _ _ _ v hr=>
     split at e
     ·rename_i B;cases e;refine AC s (x:=if n then .tuple #[.iface u v,.bool zt]else .iface u v) ?_ (c (.ifc _ _ _ _ hr))
      simp[Instr.typeAssert,AF t,FH hi,B]
     ·rename_i G B;replace e:=Aa e;obtain⟨rfl,e⟩:=e;split at e
      ·rename_i z m;cases e;obtain⟨j,k,l⟩:=b rfl m;exact AC s (by simp[Instr.typeAssert,AF t,FH hi,B,k]) l
      ·cases e
   ·cases e
  ·replace e:=Aa e;obtain⟨rfl,e⟩:=e;cases A;split at e
   ·rename_i z m;cases e;obtain⟨j,k,l⟩:=b rfl m;exact AC s (by simp[Instr.typeAssert,AF t,k]) l
   ·cases e
  ·cases e
 ·rename_i d y t;have o:∀ C,d ≠ .interface C:=λC hc=>y C hc;split at e
  ·rename_i u a;cases A with
   |ifc _ _ _ v hr=>
    cases f:aa u ty with
    |true=>
     rw[f]at e;cases e;have g:u=ty:=by simpa using f
     subst g;refine AC s (x:=if n then .tuple #[v,.bool zt]else v) ?_ (c hr)
     cases d<;>first|exact absurd rfl (o _)|simp[Instr.typeAssert,AF t]
    |false=>
     rw[f]at e;simp only[zj]at e;have g:u≠ty:=by intro hc;rw[Rg hc]at f;cases f
     replace e:=Aa e;obtain⟨rfl,e⟩:=e;split at e
     ·rename_i z m;cases e;obtain⟨j,k,l⟩:=b rfl m;refine AC s (x:=.tuple #[j,.bool zf]) ?_ l;cases d<;>first|exact absurd rfl (o _)|simp[Instr.typeAssert,AF t,g,k]
     ·cases e
  ·replace e:=Aa e;obtain⟨rfl,e⟩:=e;cases A;split at e
   ·rename_i z m;cases e;obtain⟨j,k,l⟩:=b rfl m;refine AC s (x:=.tuple #[j,.bool zf]) ?_ l;cases d<;>first|exact absurd rfl (o _)|simp[Instr.typeAssert,AF t,k]
   ·cases e
  ·cases e
 ·cases e
theorem R1(s:Sim M μ h w){ty:TypeId}{p:PV}{x:Value}(g:Rep M μ p x){r:R}(e:Ea P h ty p=zo r) :
  Bm P M μ w ((do pure (.value (<- Instr.makeInterface ty x)):Sem Next).run P w) r:=by
 unfold Ea at e;split at e
 ·cases e
 ·rename_i d a f;cases e;have b:∀ c,d ≠ .interface c:=λc hc=>a c hc;refine AC s (x:=.iface ty x) ?_ (.ifc _ _ _ _ g);cases d<;>first|exact absurd rfl (b _)|simp[Instr.makeInterface,AF f]
 ·cases e
theorem N9:∀ {es:List PV} {a:List UInt8},SL es=zo a -> ∃ c:List Int,es=c.map (PV.int .u8)/\a=c.map λn=>bq n.toNat
 |[],a,e=>by cases e;exact⟨[],rfl,rfl⟩
 |v::l,a,e=>by
  unfold SL at e;split at e
  ·rename_i h;cases h
  ·rename_i n l' h;cases h;cases d:SL l with
   |none=>rw[d]at e;cases e
   |some b=>
    rw[d]at e;cases e;obtain⟨c,rfl,rfl⟩:=N9 d;exact⟨n::c,rfl,rfl⟩
  ·cases e
theorem Jc:∀ (a:List Int) (s:ByteArray),(a.foldl (λr n=>r.push (bq n.toNat)) s).data.toList=s.data.toList++a.map λn=>bq n.toNat
 |[],s=>by simp
 |n::a,s=>by
  rw[da,Jc a];simp[ByteArray.push]
theorem MS(s:Sim M μ h w){g f:TypeId}{p:PV}{x:Value}(A:Rep M μ p x){r:R}(e:BJ P h g f p=zo r) :
  Bm P M μ w ((do pure (.value (<- convert g f x)):Sem Next).run P w) r:=by
 unfold BJ at e;split at e
 ·rename_i O n d k t u;cases e;cases A;refine AC s (x:=.int k (k.wrap n)) ?_ (.int _ _ _);simp[convert,AF t,AF u,Conv.intToInt]
 ·rename_i l t u;cases e;cases A with
  |str _ sb=>
   refine AC s (x:=.string sb) ?_ (.str _ _);simp[convert,AF t,AF u]
 ·rename_i full es I t u;split at e
  ·rename_i N L J;cases e;obtain⟨c,G,rfl⟩:=N9 J
   have q:∀ (a:Addr) (len cap:Nat),x=.slice (zo a) len cap->(loadCells a len).run P w=.ok (c.map (Value.int .u8)).toArray w ->
     Bm P M μ w ((do pure (.value (<- convert g f x)):Sem Next).run P w) (.val (.str (c.map λn=>bq n.toNat)) h):=by
    intro a len cap A o;subst A;refine AC s (x:=.string (c.foldl (λr n=>r.push (bq n.toNat)) cC)) ?_ ?_
    ·have:=run_convert_bytes_string (P:=P) w g f I (zo a) len cap t L u;rw[run_bytesToString w a len cap c o]at this;simp[this]
    ·have:=Rep.str (M:=M) μ (c.foldl (λr n=>r.push (bq n.toNat)) cC);rw[Jc]at this;simpa using this
   cases A with
   |lst0 _ _ a cap hf=>
    have K:c=[]:=by cases c with
     |nil=>rfl
     |cons n c=>cases G
    subst K;have o:=run_loadCells_list (P:=P) w a ([]:List Value) (λj v m=>by simp at m);exact q a 0 cap rfl o
   |lst _ _ _ b off esz cap xs hf hc hs hm k1 hr=>
    subst G
    have o:=run_loadCells_list (P:=P) w ⟨b,off,zn⟩ (c.map (Value.int .u8)) (λj v m=>by
     rw[cP]at m;cases C:c[j]? with
     |none=>rw[C]at m;cases m
     |some n=>
      rw[C]at m;cases m;have i:(c.map (PV.int .u8))[j]?=zo (.int .u8 n):=by rw[cP,C];rfl
      have E:=hs j _ i;have D:=hm j _ 0 (.int .u8 n) i rfl;have z:=hr j _ 0 (.int .u8 n) i rfl;have B:esz=1:=E.symm;subst B;have y:=(s.mem _ _ D).2;rw[Bo]
      have F:xs j 0=.int .u8 n:=by
       generalize xs j 0=S at z;cases z;rfl
      rw[F]at y
      simpa using y)
    rw[List.length_map]at o;exact q ⟨b,off,zn⟩ _ cap rfl (by simpa using o)
  ·cases e
 ·cases e
end
end
section
variable[Gl]
section
variable{P:Program}{M:Ak}{μ:Mu}{h:Hp}{w:World}
theorem E7{cs:List PV}{x:Value}(d:Rep M μ (.agg cs) x):∃ vs,x=.agg vs/\RepL M μ cs vs.toList /\ ∀ (i:Nat) (v:Value),vs[i]?=zo v->v.oneCell'=zt:=by
 cases d with
 |agg _ _ vs hl h1 hr=>exact⟨vs,rfl,⟨by simpa using hl,λi c v a b=>hr i c v a (by simpa using b)⟩,h1⟩
theorem HY{t:TypeId}{a:Array Field}(h:P.underlying t=zo (.struct a)):P.fieldsOf t=a:=by simp[Program.fieldsOf,h]
theorem NE(s1 s2:ByteArray):(s1 == s2)=(s1.data.toList == s2.data.toList):=by rw[beq_toListBytes,ByteArray.toList_eq,ByteArray.toList_eq]
def Dc(d:Nat)(e:TypeId)(n:Nat)(xs c:Array Value):List Nat->Sem Bool
 |[]=>pure zt
 |i::l=>do
  let a <- Go.part e xs (i*n)
  let b <- Go.part e c (i*n)
  let r <- Op.equalIn d e a b
  if(!r)=zt then pure zf else Dc d e n xs c l
theorem Gs(d:Nat)(t e:TypeId)(len n:Nat)(xs c:Array Value)(j:P.underlying t=zo (.array len e))(h:AU P e=zo n) :
  (Op.equalIn (d+1) t (.agg xs) (.agg c)).run P w=(Dc d e n xs c (cF 0 len)).run P w:=by
 simp only[Op.equalIn,Sem.run_bind,AF j,Result.andThen,Ac h];rw[Std.Legacy.Range.forIn_eq_forIn_range'];simp only[Std.Legacy.Range.size,Nat.sub_zero,Nat.add_sub_cancel,Nat.div_one];generalize cF 0 len=l
 induction l generalizing w with
 |nil=>simp[Dc]
 |cons i l k=>
  simp only[List.forIn_cons,Dc,Sem.run_bind,Sem.run_ite];generalize (Go.part e xs (i*n)).run P w=r1;cases r1 with
  |ok a f=>
   simp only[Result.andThen_ok];generalize (Go.part e c (i*n)).run P f=r2;cases r2 with
   |ok b g=>
    simp only[Result.andThen_ok];generalize (Op.equalIn d e a b).run P g=r3;cases r3 with
    |ok r m=>
     cases r
     ·simp only[Result.andThen_ok,Bool.not_false,if_true,Sem.run_pure]
     ·simp only[Result.andThen_ok,Bool.not_true,Bool.false_eq_true,if_false,Sem.run_pure];exact k
    |halt x m=>simp[Result.andThen]
   |halt x g=>simp[Result.andThen]
  |halt x f=>simp[Result.andThen]
def Jq(vs:Array Value):Prop:=∀ (i:Nat) (v:Value),vs[i]?=zo v->v.oneCell'=zt
set_option maxHeartbeats 4000000 in
theorem P7:∀ (d:Nat),
    (∀ (t:TypeId) (p q:PV) (b:Bool) (x y:Value) (D:Nat),Nq P d t p q=zo b -> Rep M μ p x -> Rep M μ q y -> d <= D -> (Op.equalIn D t x y).run P w=.ok b w) /\
    (∀ (fs:List Field) (a c:List PV) (r:Bool) (xs ys:Array Value) (D:Nat),I0 P d fs a c=zo r -> RepL M μ a xs.toList -> RepL M μ c ys.toList ->
      Jq xs -> Jq ys -> d <= D -> (Op.eqFields D xs ys fs).run P w=.ok r w) /\
    (∀ (n i z:Nat) (e:TypeId) (a c:List PV) (r:Bool) (xs ys:Array Value) (D:Nat),Kd P d n e a c=zo r -> AU P e=zo z -> RepL M μ a (xs.toList.drop (i * z)) -> RepL M μ c (ys.toList.drop (i * z)) ->
      Jq xs -> Jq ys -> d <= D -> (Dc D e z xs ys (cF i n)).run P w=.ok r w):=by
  intro d
  induction d with
  |zero=>exact⟨fun t p q b x y D e=>by simp[Nq]at e,fun fs a c r xs ys D e=>by simp[I0]at e,fun n i z t a c r xs ys D e=>by simp[Kd]at e⟩
  |succ d ih=>
    refine⟨?_,?_,?_⟩
    · intro t p q b x y D e hx hy hD
      obtain⟨D,rfl⟩:∃ D',D=D' + 1:=⟨D - 1,by omega⟩;have hD':d <= D:=by omega
      unfold Nq at e;split at e
      · rename_i hu
        split at e
        · cases e;cases hx;cases hy;simp[Op.equalIn,AF hu]
        · cases e
      · rename_i k0 hu
        split at e
        · rename_i k a k' c
          replace e:=Aa e;obtain⟨hk,e⟩:=e;have:k=k':=by simpa using hk
          subst this;cases e;cases hx;cases hy;simp[Op.equalIn,AF hu]
        · cases e
      · rename_i hu
        split at e
        · cases e
          cases hx with
          |str _ s1=>cases hy with
            |str _ s2=>simp[Op.equalIn,AF hu,NE]
        · cases e
      · rename_i el hu
        have sm:(AU P el).isSome=zt -> ∀ a:Addr,(Op.equalIn (D + 1) t (.pointer (zo a)) (.pointer (zo a))).run P w=.ok zt w:=by
          intro hs a;obtain⟨z,hz⟩:=bG.1 hs;simp[Op.equalIn,AF hu,Ac hz,sameAddr]
        split at e<;>first
          |(cases e;done)
          | (rename_i a1 a2
             replace e:=Aa e;obtain⟨hk,e⟩:=e;rw[ac]at hk;cases e;cases aj hk.1;cases hx with
             |gk _ _ t1 b1 h1=>cases hy with
               |gk _ _ t2 b2 h2=>rw[h1]at h2;cases h2;exact sm hk.2 _)
          | (rename_i a1 a2 a3 a4
             replace e:=Aa e;obtain⟨hk,e⟩:=e;rw[ac,ac]at hk;cases e;cases aj hk.1.1;cases aj hk.1.2;cases hx with
             |ptr _ _ _ r1 h1=>cases hy with
               |ptr _ _ _ r2 h2=>rw[h1]at h2;cases h2;exact sm hk.2 _)
          |(cases e;cases hx;cases hy;simp[Op.equalIn,AF hu])
      · rename_i el hu
        split at e<;>(try (cases e;done))<;>(cases e;cases hx<;>cases hy<;>simp[Op.equalIn,AF hu])
      · rename_i a1 a2 a3 hu
        split at e<;>(try (cases e;done))<;>(cases e;cases hx;cases hy;simp[Op.equalIn,AF hu])
      · rename_i ms hu
        split at e
        · cases e;cases hx;cases hy;simp[Op.equalIn,AF hu]
        · cases e;cases hx;cases hy;simp[Op.equalIn,AF hu]
        · cases e;cases hx;cases hy;simp[Op.equalIn,AF hu]
        · rename_i t1 a t2 c
          cases hx with
          |ifc _ _ _ v1 hr1=>cases hy with
            |ifc _ _ _ v2 hr2=>
              cases ht:aa t1 t2 with
              |false=>
                rw[ht]at e;cases e;have:t1 ≠ t2:=by intro hc;rw[Rg hc]at ht;cases ht
                simp[Op.equalIn,AF hu,this]
              |true=>
                rw[ht]at e;simp only[zb]at e;have:t1=t2:=by simpa using ht
                subst this;split at e
                · rename_i i hi
                  replace e:=Aa e;obtain⟨hcmp,e⟩:=e;have:=ih.1 t1 a c b v1 v2 D e hr1 hr2 hD';simp[Op.equalIn,AF hu,FH hi,hcmp,this]
                · cases e
        · cases e
      · rename_i fs hu
        split at e
        · rename_i a c
          replace e:=Bn e;obtain⟨hp,e⟩:=e;obtain⟨xs,rfl,hra,h1⟩:=E7 hx;obtain⟨ys,rfl,hrc,h2⟩:=E7 hy;have hu':P.underlying t=zo (.struct (P.fieldsOf t)):=by rw[HY hu];exact hu
          rw[run_equalIn_struct w D t xs ys hu' hp,HY hu];exact ih.2.1 fs.toList a c b xs ys D e hra hrc h1 h2 hD'
        · cases e
      · rename_i n el hu
        split at e
        · rename_i a c
          obtain⟨xs,rfl,hra,h1⟩:=E7 hx;obtain⟨ys,rfl,hrc,h2⟩:=E7 hy;replace e:=Aa e;obtain⟨hz,e⟩:=e;obtain⟨z,hz⟩:=bG.1 hz;rw[Gs D t el n z xs ys hu hz];exact ih.2.2 n 0 z el a c b xs ys D e hz (by simpa using hra) (by simpa using hrc) h1 h2 hD'
        · cases e
      · cases e
    · intro fs a c r xs ys D e hra hrc h1 h2 hD
      have hD':d <= D:=by omega
      cases fs with
      |nil=>simp[I0]at e;subst e;simp[Op.eqFields]
      |cons f fs=>
        unfold I0 at e
        cases hn : (f.name == "_") with
        |true=>
          rw[hn]at e;simp only[zb]at e
          have hn' : f.name = "_" := by simpa using hn
          have:=ih.2.1 fs a c r xs ys D e hra hrc h1 h2 hD';simp[Op.eqFields,hn',this]
        |false=>
          rw[hn]at e;simp only[zj]at e
          have hn' : f.name ≠ "_" := by intro hc; rw [hc] at hn; simp at hn
          split at e
          · rename_i x y hpx hpy
            obtain⟨vx,hvx,hrx,_⟩:=FO (P:=P) hpx (M:=M) (μ:=μ) (vs:=xs) (off:=f.offset) (hra.drop _) h1 w;obtain⟨vy,hvy,hry,_⟩:=FO (P:=P) hpy (M:=M) (μ:=μ) (vs:=ys) (off:=f.offset) (hrc.drop _) h2 w;split at e
            · rename_i ht
              have k1:=ih.1 f.type x y zt vx vy D ht hrx hry hD';have k2:=ih.2.1 fs a c r xs ys D e hra hrc h1 h2 hD';simp[Op.eqFields,hn',hvx,hvy,k1,k2]
            · rename_i o hne
              cases hq:Nq P d f.type x y with
              |none=>rw[hq]at e;cases e
              |some b=>
                rw[hq]at e;cases e;have k1:=ih.1 f.type x y r vx vy D hq hrx hry hD';cases r with
                |true=>exact absurd hq hne
                |false=>simp[Op.eqFields,hn',hvx,hvy,k1]
          · cases e
    · intro n i z el a c r xs ys D e hz hra hrc h1 h2 hD
      have hD':d <= D:=by omega
      cases n with
      |zero=>simp[Kd]at e;subst e;simp[Dc]
      |succ n=>
        unfold Kd at e;rw[hz]at e;split at e
        · rename_i s x y hs hpx hpy
          cases hs;obtain⟨vx,hvx,hrx,_⟩:=FO (P:=P) hpx (M:=M) (μ:=μ) (vs:=xs) (off:=i * z) hra h1 w;obtain⟨vy,hvy,hry,_⟩:=FO (P:=P) hpy (M:=M) (μ:=μ) (vs:=ys) (off:=i * z) hrc h2 w;have hra':RepL M μ (a.drop z) (xs.toList.drop ((i + 1) * z)):=by have:=hra.drop z;rwa [bZ,<- dv]at this
          have hrc':RepL M μ (c.drop z) (ys.toList.drop ((i + 1) * z)):=by have:=hrc.drop z;rwa [bZ,<- dv]at this
          rw[List.range'_succ];split at e
          · rename_i ht
            have k1:=ih.1 el x y zt vx vy D ht hrx hry hD';have k2:=ih.2.2 n (i + 1) z el _ _ r xs ys D e hz hra' hrc' h1 h2 hD';simp[Dc,hvx,hvy,k1,k2]
          · rename_i o hne
            cases hq:Nq P d el x y with
            |none=>rw[hq]at e;cases e
            |some b=>
              rw[hq]at e;cases e;have k1:=ih.1 el x y r vx vy D hq hrx hry hD';cases r with
              |true=>exact absurd hq hne
              |false=>simp[Dc,hvx,hvy,k1]
        · cases e
end
end
section
variable[Gl]
section
variable{P:Program}{M:Ak}{μ:Mu}{h:Hp}{w:World}
def O4:Value->Nat
 |.int _ _=>1
 |.float _ _=>2
 |.complex _ _ _=>3
 |.string _=>4
 |_=>0
def Sz:PV->Nat
 |.int _ _=>1
 |.str _=>4
 |_=>0
theorem N4{p:PV}{x:Value}(a:Rep M μ p x):O4 x=Sz p:=by cases a<;>rfl
theorem MN(t:TypeId)(x y:Value)(a:¬ (O4 x=O4 y/\O4 x≠0)):binOp .eql t x y=(do pure (.bool (<- Op.equal t x y))):=by
 cases x<;>cases y<;>first|rfl|(simp[O4]at a)
theorem MO(t:TypeId)(x y:Value)(a:¬ (O4 x=O4 y/\O4 x≠0)):binOp .neq t x y=(do pure (.bool (!(<- Op.equal t x y)))):=by
 cases x<;>cases y<;>first|rfl|(simp[O4]at a)
theorem I3{c:BinOp}{t:TypeId}{k h:IntKind}{a b:Int}{v:PV}(e:(match c with
  |.shl | .shr=>HK c k a b
  |_=>bif k == h then Ol c k a b else zn)=zo v):∃ z,(binOp c t (.int k a) (.int h b)).run P w=.ok z w/\Rep M μ v z:=by
 have sh:∀ c:BinOp,(c=.shl\/c=.shr)->HK c k a b=zo v -> ∃ z,(Op.shift c k a h b).run P w=.ok z w/\Rep M μ v z:=by
  intro c j e;unfold HK at e;replace e:=Bn e;obtain⟨l,e⟩:=e;have g:¬ (b<0):=by simpa using l
  rcases j with rfl|rfl
  ·cases e;exact⟨.int k (k.wrap (a*2 ^ (min b.toNat k.bits))),by simp only[Op.shift,zx g];rfl,.int _ _ _⟩
  ·cases e;exact⟨.int k (a.fdiv (2 ^ (min b.toNat k.bits))),by simp only[Op.shift,zx g];rfl,.int _ _ _⟩
 have d:∀ c:BinOp,c ≠ .shl->c ≠ .shr->(bif k == h then Ol c k a b else zn)=zo v->k=h/\Ol c k a b=zo v:=by
  intro c _ _ e;replace e:=Aa e;exact⟨by simpa using e.1,e.2⟩
 cases c with
 |shl=>exact sh _ (.inl rfl) e
 |shr=>exact sh _ (.inr rfl) e
 |add=>obtain⟨rfl,e2⟩:=d .add (by decide) (by decide) e;clear e;cases e2;exact⟨.int k (k.wrap (a+b)),by simp only[binOp,ne_eq,not_true_eq_false,if_false];rfl,.int _ _ _⟩
 |sub=>obtain⟨rfl,e2⟩:=d .sub (by decide) (by decide) e;clear e;cases e2;exact⟨.int k (k.wrap (a-b)),by simp only[binOp,ne_eq,not_true_eq_false,if_false];rfl,.int _ _ _⟩
 |mul=>obtain⟨rfl,e2⟩:=d .mul (by decide) (by decide) e;clear e;cases e2;exact⟨.int k (k.wrap (a*b)),by simp only[binOp,ne_eq,not_true_eq_false,if_false];rfl,.int _ _ _⟩
 |quo=>
  obtain⟨rfl,e2⟩:=d .quo (by decide) (by decide) e;have f:=Bn e2;have i:b≠0:=by intro hc;have:=f.1;subst hc;simp at this
  have:=f.2;cases this;exact⟨.int k (k.wrap (a.tdiv b)),by simp only[binOp,ne_eq,not_true_eq_false,if_false,Op.intDiv,zx i];rfl,.int _ _ _⟩
 |rem=>
  obtain⟨rfl,e2⟩:=d .rem (by decide) (by decide) e;have f:=Bn e2;have i:b≠0:=by intro hc;have:=f.1;subst hc;simp at this
  have:=f.2;cases this;exact⟨.int k (a.tmod b),by simp only[binOp,ne_eq,not_true_eq_false,if_false,Op.intDiv,zx i];rfl,.int _ _ _⟩
 |and=>obtain⟨rfl,e2⟩:=d .and (by decide) (by decide) e;clear e;cases e2;exact⟨.int k (k.wrap (aF k.bits a &&& aF k.bits b).toNat),by simp only[binOp,ne_eq,not_true_eq_false,if_false];rfl,.int _ _ _⟩
 |or=>obtain⟨rfl,e2⟩:=d .or (by decide) (by decide) e;clear e;cases e2;exact⟨.int k (k.wrap (aF k.bits a ||| aF k.bits b).toNat),by simp only[binOp,ne_eq,not_true_eq_false,if_false];rfl,.int _ _ _⟩
 |xor=>obtain⟨rfl,e2⟩:=d .xor (by decide) (by decide) e;clear e;cases e2;exact⟨.int k (k.wrap (aF k.bits a ^^^ aF k.bits b).toNat),by simp only[binOp,ne_eq,not_true_eq_false,if_false];rfl,.int _ _ _⟩
 |andNot=>obtain⟨rfl,e2⟩:=d .andNot (by decide) (by decide) e;clear e;cases e2
 |eql=>obtain⟨rfl,e2⟩:=d .eql (by decide) (by decide) e;clear e;cases e2;exact⟨.bool (a == b),by simp only[binOp,ne_eq,not_true_eq_false,if_false];rfl,.bool _ _⟩
 |neq=>obtain⟨rfl,e2⟩:=d .neq (by decide) (by decide) e;clear e;cases e2;exact⟨.bool (a != b),by simp only[binOp,ne_eq,not_true_eq_false,if_false];rfl,.bool _ _⟩
 |lss=>obtain⟨rfl,e2⟩:=d .lss (by decide) (by decide) e;clear e;cases e2;exact⟨.bool (decide (a<b)),by simp only[binOp,ne_eq,not_true_eq_false,if_false];rfl,.bool _ _⟩
 |leq=>obtain⟨rfl,e2⟩:=d .leq (by decide) (by decide) e;clear e;cases e2;exact⟨.bool (decide (a<=b)),by simp only[binOp,ne_eq,not_true_eq_false,if_false];rfl,.bool _ _⟩
 |gtr=>obtain⟨rfl,e2⟩:=d .gtr (by decide) (by decide) e;clear e;cases e2;exact⟨.bool (decide (a>b)),by simp only[binOp,ne_eq,not_true_eq_false,if_false];rfl,.bool _ _⟩
 |geq=>obtain⟨rfl,e2⟩:=d .geq (by decide) (by decide) e;clear e;cases e2;exact⟨.bool (decide (a>=b)),by simp only[binOp,ne_eq,not_true_eq_false,if_false];rfl,.bool _ _⟩
theorem I4{g:BinOp}{t:TypeId}{a b:List UInt8}{x y:ByteArray}{v:PV}(d:x.data.toList=a)(f:y.data.toList=b)(e:QF g a b=zo v) :
  ∃ z,(binOp g t (.string x) (.string y)).run P w=.ok z w/\Rep M μ v z:=by
 have ex:x.toList=a:=by rw[ByteArray.toList_eq,d]
 have c:y.toList=b:=by rw[ByteArray.toList_eq,f]
 unfold QF at e;cases g with
 |add=>
  have h:=Aa e;obtain⟨j,e2⟩:=h;cases e2;refine⟨.string (x++y),?_,QY (by rw[ByteArray.data_append];simp[d,f]) μ⟩
  have hs:¬ (((x.size+y.size:Nat):Int)>IntKind.i64.max):=by
   have k:x.size=a.length:=by rw[<- d];simp
   have l:y.size=b.length:=by rw[<- f];simp
   have i:IntKind.i64.max=9223372036854775807:=by decide
   have m:a.length+b.length<=1000000000:=by simpa using j
   rw[i];omega
  show(Op.stringOp .add x y).run P w=_;simp only[Op.stringOp];rw[zx hs];rfl
 |eql=>cases e;exact⟨.bool (a == b),by simp only[binOp,Op.stringOp,ex,c];rfl,.bool _ _⟩
 |neq=>cases e;exact⟨.bool (!(a == b)),by simp only[binOp,Op.stringOp,ex,c];rfl,.bool _ _⟩
 |lss=>cases e;exact⟨.bool (Op.bytesLess a b),by simp only[binOp,Op.stringOp,ex,c];rfl,.bool _ _⟩
 |leq=>cases e;exact⟨.bool (Op.bytesLess a b||a == b),by simp only[binOp,Op.stringOp,ex,c];rfl,.bool _ _⟩
 |gtr=>cases e;exact⟨.bool (!(Op.bytesLess a b||a == b)),by simp only[binOp,Op.stringOp,ex,c];rfl,.bool _ _⟩
 |geq=>cases e;exact⟨.bool (!Op.bytesLess a b),by simp only[binOp,Op.stringOp,ex,c];rfl,.bool _ _⟩
 |sub=>cases e
 |mul=>cases e
 |quo=>cases e
 |rem=>cases e
 |and=>cases e
 |or=>cases e
 |xor=>cases e
 |shl=>cases e
 |shr=>cases e
 |andNot=>cases e
theorem Kc{g:BinOp}{ty:TypeId}{p q v:PV}{x y:Value}(e:Iz P g ty p q=zo v)(a:Rep M μ p x)(c:Rep M μ q y) :
  ∃ z,(binOp g ty x y).run P w=.ok z w/\Rep M μ v z:=by
 unfold Iz at e;split at e
 ·cases a;cases c;exact I3 e
 ·cases a;cases c;exact I4 rfl rfl e
 ·rename_i j k
  have f:¬ (O4 x=O4 y/\O4 x≠0):=by
   rw[N4 a,N4 c];rintro⟨h,i⟩
   cases p<;>(try (exact i rfl))<;>cases q<;>first
    |(simp[Sz]at h;done)
    |exact j _ _ _ _ rfl rfl
    |exact k _ _ rfl rfl
  split at e
  ·obtain⟨b,d,rfl⟩:=AA e;have:=(P7 (P:=P) (w:=w) (M:=M) (μ:=μ) FD).1 ty p q b x y 10000 d a c (by decide);refine⟨.bool b,?_,.bool _ _⟩;rw[MN ty x y f];simp[Op.equal,Op.maxDepth,this]
  ·obtain⟨b,d,rfl⟩:=AA e;have:=(P7 (P:=P) (w:=w) (M:=M) (μ:=μ) FD).1 ty p q b x y 10000 d a c (by decide);refine⟨.bool (!b),?_,.bool _ _⟩;rw[MO ty x y f];simp[Op.equal,Op.maxDepth,this]
  ·cases e
theorem LN(c:BinOp)(t:TypeId)(x y:Operand)(a b:Value)(d:¬ (a=.nilIface/\b=.nilIface))(e:∀ u v,¬ (a=.agg u/\b=.agg v)):(eqGuard c t x y a b).run P w=.ok () w:=by
 cases c<;>simp[eqGuard]<;>(cases a<;>cases b<;>first|rfl|exact absurd ⟨rfl,rfl⟩ d|exact absurd ⟨rfl,rfl⟩ (e _ _))
theorem OY(a:BinOp)(t:TypeId)(x y:Operand)(hc:(CS x||CS y)=zt):(eqGuard a t x y .nilIface .nilIface).run P w=.ok () w:=by
 cases x<;>cases y<;>first|(simp[CS]at hc;done)|(cases a<;>simp[eqGuard])
theorem Ru(s:Sim M μ h w){d:BinOp}{ty:TypeId}{x y:Operand}{p q:PV}{j k:Value}(b:Rep M μ p j)(c:Rep M μ q k){r:R}(e:Dd P h d ty x y p q=zo r) :
  Bm P M μ w ((do pure (.value (<- (do eqGuard d ty x y j k;binOp d ty j k))):Sem Next).run P w) r:=by
 unfold Dd at e;split at e
 ·replace e:=Aa e;obtain⟨hc,e⟩:=e;obtain⟨v,f,rfl⟩:=Dh e;obtain⟨z,i,a⟩:=Kc (w:=w) f b c;cases b;cases c;exact AC s (by simp[OY d ty x y hc,i]) a
 ·rename_i cs o;replace e:=Bn e;obtain⟨hc,e⟩:=e;obtain⟨v,f,rfl⟩:=Dh e;obtain⟨z,i,a⟩:=Kc (w:=w) f b c;obtain⟨xs,rfl,_⟩:=E7 b;obtain⟨n,rfl,_⟩:=E7 c;exact AC s (by simp[run_eqGuard_agg w d ty x y xs n hc,i]) a
 ·rename_i l m;obtain⟨v,f,rfl⟩:=Dh e;obtain⟨z,i,a⟩:=Kc (w:=w) f b c
  have g:=LN (P:=P) (w:=w) d ty x y j k (by
   rintro⟨rfl,rfl⟩;cases b;cases c;exact l rfl rfl) (by
   rintro u v ⟨rfl,rfl⟩;cases b;cases c;exact m _ _ rfl rfl)
  exact AC s (by simp[g,i]) a
theorem S9(s:Sim M μ h w){c:UnOp}{p:PV}{x:Value}(b:Rep M μ p x){r:R}(e:vl (TL c p) h=zo r) :
  Bm P M μ w ((do pure (.value (<- Op.unary c x)):Sem Next).run P w) r:=by
 obtain⟨v,a,rfl⟩:=Dh e;unfold TL at a;split at a
 ·cases b;split at a
  ·cases a;exact AC s (x:=.bool _) (by simp[Op.unary]) (.bool _ _)
  ·cases a
 ·cases b;split at a
  ·cases a;exact AC s (x:=.int _ _) (by simp[Op.unary,Op.intArith]) (.int _ _ _)
  ·cases a
 ·cases a
end
end
section
variable[Gl]
section
variable{P:Program}{M:Ak}{μ:Mu}{h:Hp}{w:World}
theorem Cl {d : TypeDesc} {p q : PV} {b : Bool} {x y : Value} (e : KM d p q = zo b) (hx : Rep M μ p x) (hy : Rep M μ q y) :
    Instr.sameNow d x y=zo b /\ (b=zt -> Instr.sameBits 10000 y x=zt):=by
  unfold KM at e;split at e
  · cases e;cases hx;cases hy
    rename_i a c
    exact ⟨rfl, fun hb => by have : a = c := by simpa using hb
                             subst this;simp[Instr.sameBits]⟩
  · rename_i k a k' c
    have e':=Aa e;have hk:k=k':=by simpa using e'.1
    subst hk;cases e'.2;cases hx;cases hy
    exact ⟨by simp [Instr.sameNow], fun hb => by have : a = c := by simpa using hb
                                                 subst this;simp[Instr.sameBits]⟩
  · cases e
    cases hx with
    |str _ s1=>cases hy with
      |str _ s2=>
        refine⟨by simp[Instr.sameNow,NE],fun hb=> ?_⟩;have h1:s1.data.toList=s2.data.toList:=by simpa using hb
        have:s1=s2:=ByteArray.ext (dq h1);subst this;rw[<- NE]at hb;simpa[Instr.sameBits]using hb
  · cases e
def EntsRep(M:Ak)(μ:Mu)(es:List (PV×PV))(a:List MapEntry):Prop:=
 a.length=es.length /\ ∀ (i:Nat) (k v:PV) (e:MapEntry),es[i]?=zo (k,v)->a[i]?=zo e->Rep M μ k e.key/\Rep M μ v e.val
theorem EntsRep.tail{a:PV×PV}{es:List (PV×PV)}{b:MapEntry}{c:List MapEntry}(d:EntsRep M μ (a::es) (b::c)):EntsRep M μ es c:=
 ⟨by simpa using d.1,λi k v e f g=>d.2 (i+1) k v e (by simpa using f) (by simpa using g)⟩
theorem Lf{d:TypeDesc}{k:PV}{h:Value}(f:Rep M μ k h):∀ {es:List (PV×PV)} {a:List MapEntry} {r:Option PV} (n:Nat),EntsRep M μ es a->Hg d es k=zo r ->
  ∃ o,Instr.findNow d h a n=zo o/\(match r,o with
   |none,zn=>True
   |some v,zo (_,x)=>Rep M μ v x
   |_,_=>False)
 |[],a,r,n,hr,e=>by
  cases e;cases a with
  |nil=>exact⟨zn,rfl,trivial⟩
  |cons _ _=>simp[EntsRep]at hr
 |(k1,v1)::es,a,r,n,hr,e=>by
  cases a with
  |nil=>simp[EntsRep]at hr
  |cons b a=>
   obtain⟨c,g⟩:=hr.2 0 k1 v1 b rfl rfl;unfold Hg at e;split at e
   ·rename_i hc;cases e;have:=(Cl hc f c).1;exact⟨zo (n,b.val),by simp[Instr.findNow,this],g⟩
   ·rename_i hc;have i:=(Cl hc f c).1;obtain⟨o,j,l⟩:=Lf f (n+1) hr.tail e;exact⟨o,by simp[Instr.findNow,i,j],l⟩
   ·cases e
theorem Bp{a:TypeId}{d:TypeDesc}(e:P.underlying a=zo d)(c:Cm d=zt)(b:Bool)(v:Value):(Instr.checkKey b 10000 a v).run P w=.ok () w:=by
 rw[show(10000:Nat)=9999+1 from rfl];cases d<;>simp[Cm]at c<;>(unfold Instr.checkKey;simp[AF e])
theorem Br{r:Nat}{b:Array MapEntry}{a:Nat}(c:w.heap[r]?=zo (.map b a)):(getObj r).run P w=.ok (.map b a) w:=by
 simp[getObj,Sem.run,c]
theorem Of(s:Sim M μ h w){ty:TypeId}{m k:PV}{x y:Value}{q:Bool}(O:Rep M μ m x)(X:Rep M μ k y){r:R}(e:DK P h ty m k q=zo r) :
  Bm P M μ w ((do pure (.value (<- Instr.lookup ty x y q)):Sem Next).run P w) r:=by
 unfold DK at e;split at e
 ·rename_i Z el es J p;split at e
  ·rename_i d E;have e1:=Bn e;have n:Cm d=zt:=by simpa using e1.1
   replace e:=e1.2
   have l:∃ f:Array MapEntry,EntsRep M μ es f.toList/\((x=.map zn/\f = #[]) \/ ∃ r c,x=.map (zo r)/\w.heap[r]?=zo (.map f c)):=by
    unfold Lc at p;split at p
    ·cases p;cases O;exact⟨#[],⟨rfl,λi k v e h=>by simp at h⟩,.inl ⟨rfl,rfl⟩⟩
    ·rename_i j;split at p
     ·rename_i S A;cases p;cases O with
      |mp _ _ r hr=>
       obtain⟨r',B,f,c,D,u,U⟩:=s.blk j _ A;rw[hr]at B;cases B;exact⟨f,⟨by simpa using u,λi k v e a b=>U i k v e a (by simpa using b)⟩,.inr ⟨_,c,rfl,D⟩⟩
     ·cases p
    ·cases p
   obtain⟨f,G,g⟩:=l;split at e
   ·rename_i K W;obtain⟨o,D,u⟩:=Lf X 0 G W;have F:(Instr.findKey Z y f.toList).run P w=.ok o w:=by simp[Instr.findKey,AF E,D]
    split at e
    ·rename_i v N;cases e
     have t:∀ z,Rep M μ v z->Rep M μ (bif q then .tup [v,.bool K.isSome]else v) (if q then .tuple #[z,.bool K.isSome]else z):=by
      intro z C;cases q with
      |true=>exact Kb C (.bool _ _)
      |false=>exact C
     cases K with
     |some v'=>
      cases N;cases o with
      |none=>exact u.elim
      |some Y=>
       obtain⟨i,z⟩:=Y;refine AC s (x:=if q then .tuple #[z,.bool zt]else z) ?_ (t z u)
       rcases g with⟨rfl,rfl⟩|⟨r,c,rfl,A⟩
       ·simp[Instr.findNow]at D
       ·simp only[Instr.lookup,Sem.run_bind,AF J,Result.andThen,Br A,Bp E n,F,Sem.run_pure]
     |none=>
      cases o with
      |some _=>exact u.elim
      |none=>
       obtain⟨L,C,I⟩:=Jo N M μ w;refine AC s (x:=if q then .tuple #[L,.bool zf]else L) ?_ (t L I)
       rcases g with⟨rfl,rfl⟩|⟨r,c,rfl,A⟩
       ·simp only[Instr.lookup,Sem.run_bind,AF J,Result.andThen,Bp E n,F,Sem.run_pure,C]
       ·simp only[Instr.lookup,Sem.run_bind,AF J,Result.andThen,Br A,Bp E n,F,Sem.run_pure,C]
    ·cases e
   ·cases e
  ·cases e
 ·cases e
theorem Gi{d:TypeDesc}{k v:PV}{j u:Value}(m:Rep M μ k j)(s:Rep M μ v u):∀ {es es':List (PV×PV)} {a:List MapEntry} (n:Nat),EntsRep M μ es a->If d es k v=zo es' ->
  (∃ i x g,Instr.findNow d j a n=zo (zo (n+i,x))/\a[i]?=zo g/\Instr.sameBits 10000 g.key j=zt/\EntsRep M μ es' (a.modify i λe=>{ e with key:=j,val:=u })) \/
  (Instr.findNow d j a n=zo zn /\ ∀ born,EntsRep M μ es' (a++[{ key:=j,val:=u,born }]))
 |[],es',a,n,hr,e=>by
  cases e;cases a with
  |nil=>
   refine .inr ⟨rfl,λborn=>⟨rfl,λi k v e c f=> ?_⟩⟩;cases i with
   |zero=>simp at c f;obtain⟨rfl,rfl⟩:=c;subst f;exact⟨m,s⟩
   |succ i=>simp at c
  |cons _ _=>simp[EntsRep]at hr
 |(k1,v1)::es,es',a,n,hr,e=>by
  cases a with
  |nil=>simp[EntsRep]at hr
  |cons b a=>
   obtain⟨h,t⟩:=hr.2 0 k1 v1 b rfl rfl;unfold If at e;split at e
   ·rename_i hc;cases e;have:=Cl hc m h;refine .inl ⟨0,b.val,b,by simp[Instr.findNow,this.1],rfl,this.2 rfl,?_,λi k v e c f=> ?_⟩
    ·simpa using hr.1
    ·cases i with
     |zero=>simp at c f;obtain⟨rfl,rfl⟩:=c;subst f;exact⟨m,s⟩
     |succ i=>exact hr.2 (i+1) k v e (by simpa using c) (by simpa using f)
   ·rename_i hc;have w:=(Cl hc m h).1;split at e
    ·rename_i l A;cases e
     have cons:∀ {l:List (PV×PV)} {r:List MapEntry},EntsRep M μ l r->EntsRep M μ ((k1,v1)::l) (b::r):=by
      intro l r o;refine⟨by simp[o.1],λi k v e c f=> ?_⟩;cases i with
      |zero=>simp at c f;obtain⟨rfl,rfl⟩:=c;subst f;exact⟨h,t⟩
      |succ i=>exact o.2 i k v e (by simpa using c) (by simpa using f)
     rcases Gi m s (n+1) hr.tail A with⟨i,x,g,p,q,y,z⟩|⟨p,q⟩
     ·refine .inl ⟨i+1,x,g,?_,by simpa using q,y,?_⟩
      ·simp[Instr.findNow,w,p];omega
      ·have:=cons z;simpa using this
     ·exact .inr ⟨by simp[Instr.findNow,w,p],λborn=>cons (q born)⟩
    ·cases e
   ·cases e
theorem BZ{r:Nat}{o o':Obj}(b:w.heap[r]?=zo o)(hc:∀ a t f,o ≠ .cells a t f):(setObj r o').run P w=.ok () { w with heap:=w.heap.setIfInBounds r o' }:=by
 unfold setObj;simp only[Sem.run,b]
theorem Sim.object{id:Nat}{b b':Blk}{r:Bk}{o o':Obj}{h':Hp}(s:Sim M μ h w)(n:h.get id=zo b)(j:μ id=zo r)(c:b.live)(hs:h.set id b'=zo h')
  (u:w.heap[r.b]?=zo o) (hc:∀ a t f,o ≠ .cells a t f) (g:BlkAt M μ r (zo o') b') (i:∀ a t f,o' ≠ .cells a t f:=by intro a t f hc;cases hc) :
  Sim M μ h' { w with heap:=w.heap.setIfInBounds r.b o' }/\Grow M μ w M μ { w with heap:=w.heap.setIfInBounds r.b o' }:=by
 have e:r.b<w.heap.size:=(s.use id r j).2;have l:∀ k,k≠r.b->(w.heap.setIfInBounds r.b o')[k]?=w.heap[k]?:=λk p=>by rw[aO,zx (Ne.symm p)]
 have d:BlkAt M μ r (w.heap.setIfInBounds r.b o')[r.b]? b':=by rw[aO,zy rfl,zy e];exact g
 refine⟨s.update n j c (Hp.get_set hs).1 l (by simp) d ?_,Grow.update j l (by simp) rfl rfl rfl (λarr ty f h=>by
  have h:(w.heap.setIfInBounds r.b o')[r.b]?=zo (.cells arr ty f):=h;rw[aO,zy rfl,zy e]at h
  exact absurd (Option.some.inj h) (i _ _ _))⟩
 intro a v q m;have:=(s.mem a v q).2;rw[World.cell?,m,u]at this;cases o<;>first|(simp at this;done)|exact absurd rfl (hc _ _ _)
theorem Gf(s:Sim M μ h w){ty:TypeId}{m k v:PV}{x y z:Value}(W:Rep M μ m x)(X:Rep M μ k y)(Y:Rep M μ v z){r:R}(e:CG P h ty m k v=zo r) :
  Bm P M μ w ((do Instr.mapUpdate ty x y z;pure .skip:Sem Next).run P w) r:=by
 unfold CG at e;split at e
 ·rename_i L el j K;split at e
  ·rename_i d B;have e1:=Bn e;have o:Cm d=zt:=by simpa using e1.1
   replace e:=e1.2;split at e
   ·rename_i es E;split at e
    ·rename_i es' AG;obtain⟨h',l,rfl⟩:=AA e;cases W with
     |mp _ _ r hr=>
      obtain⟨r',u,g,c,n,O,S⟩:=s.blk j _ E;rw[hr]at u;cases u;have F:EntsRep M μ es g.toList:=⟨by simpa using O,λi k v e a b=>S i k v e a (by simpa using b)⟩;rcases Gi X Y 0 F AG with⟨i,Z,G,C,A,N,J⟩|⟨C,A⟩
      ·have D:(Instr.findKey L y g.toList).run P w=.ok (zo (i,Z)) w:=by simp[Instr.findKey,AF B,C]
       have U:g[i]?=zo G:=by simpa using A
       have hS:=s.object (o':=.map (g.modify i λe=>{ e with key:=y,val:=z }) c) E hr trivial l n (by intro a t f hc;cases hc)
        ⟨_,c,rfl,by have:=J.1;simpa using this,λi k v e p q=>J.2 i k v e p (by
         rw[<- bm]at q
         simpa using q)⟩
       refine⟨M,μ,_,?_,hS.1,hS.2⟩;have I:=BZ (P:=P) (o':=.map (g.modify i λe=>{ e with key:=y,val:=z }) c) n (by intro a t f hc;cases hc)
       simp only[Instr.mapUpdate,Sem.run_bind,AF K,Result.andThen,Br n,Bp B o,D,U,ap,aE,Instr.keyThatStays,N,if_true,Sem.run_pure,I]
      ·have D:(Instr.findKey L y g.toList).run P w=.ok zn w:=by simp[Instr.findKey,AF B,C]
       have hS:=s.object (o':=.map (g.push { key:=y,val:=z,born:=c }) (c+1)) E hr trivial l n (by intro a t f hc;cases hc)
        ⟨_,c+1,rfl,by have:=(A c).1;simpa using this,λi k v e p q=>(A c).2 i k v e p (by
         rw[<- bm]at q
         simpa using q)⟩
       refine⟨M,μ,_,?_,hS.1,hS.2⟩;have I:=BZ (P:=P) (o':=.map (g.push { key:=y,val:=z,born:=c }) (c+1)) n (by intro a t f hc;cases hc);simp only[Instr.mapUpdate,Sem.run_bind,AF K,Result.andThen,Br n,Bp B o,D,I,Sem.run_pure]
    ·cases e
   ·cases e
  ·cases e
 ·cases e
end
end
end Go.Proofs.YtfceigpbgndbgaaGreatDoor.Pi
