/- Functions of the program and of the specification as plain functions, and laws about them. No condition. -/
import Derived.Test.YtoefnfbpoabinaaGreatDoorPl1
import Derived.KernelRfl
set_option linter.all false
open List renaming Sublist->x6, append_assoc->hI, append_nil->iz, drop_zero->sp, ext_getElem?->xa, filter_cons->oj, find?_eq_none->tw, flatten_append->tg, flatten_eq_nil_iff->sr, foldl_cons->gM, getElem?_eq_getElem->ci, getElem?_eq_none->a9, getElem?_eq_some_iff->a8, getElem?_map->xb, getElem?_of_mem->co, getLast?_eq_getElem?->i0, length->ta, length_cons->dc, length_nil->eb, length_pos_iff->en, length_take->rY, map_cons->ee, mem_append->ox, mem_cons->li, mem_flatten->hM, mem_map->eo, mem_map_of_mem->tk, mem_of_getElem?->bl, nil_append->q0, nodup_append->o4, nodup_cons->gs, take_add_one->ey, take_of_length_le->ns
open Nat renaming le_refl->ed, lt_of_not_le->ml, min_eq_left->r6, sub_zero->ll, zero_add->gw, zero_le->hU
open Int renaming mul_le_mul->xT, toNat_natCast->bo, zero_add->wl
open Option renaming filter->oy, getD_none->vv, getD_some->iP, map_some->xk, or_assoc->kd, toList_some->tb
open Bool renaming false_eq_true->lc
open UInt8 renaming lt_iff_toNat_lt->s6
open Option renaming some->zo, none->zn
open Bool renaming true->zt, false->zf
namespace Go.Proofs.YtoefnfbpoabinaaGreatDoor.Pl
section
open Go Sv
def kR(a:List Int)(most:Int)(r:Vt):Int:=
 if r.1<1\/r.1>1000000 then 7 else if(Xl r.2).2≠0 then(Xl r.2).2 else if r.2.length=0 then 4 else if(r.2.length:Int)>most then 3 else if r.1∈a then 8 else 0
def bC(most:Int):Nat->List Int->List Vt->Option (Nat×Int)
 |_,_,[]=>zn
 |k,ids,r::rs=>if kR ids most r≠0 then zo (k,kR ids most r)else bC most (k+1) (ids++[r.1]) rs
def WM(B:Int)(i:Nat):Int:=B*2 ^ i
def az(B:Int):Nat->List Int->List (List Vt)->Option (Nat×(Nat×Int))
 |_,_,[]=>zn
 |i,ids,rs::ls=>if rs.length>2 then zo (i,(0,3))else match bC (WM B i) 0 ids rs with
  |some (k,e)=>zo (i,(k,e))
  |none=>az B (i+1) (ids++rs.map (·.1)) ls
def Wy(L:Vb):Int×(Int×Int):=
 if L.1<1\/L.1>16 then(0,(0,7))else if L.2.length>12 then(0,(0,3))else match az L.1 0 [] L.2 with
  |some (i,(k,e))=>((i:Int),((k:Int),e))
  |none=>if L.2.getLast?=zo []then(((L.2.length-1:Nat):Int),(0,6))else(0,(0,0))
theorem jd{most:Int}:∀ {rs:List Vt} {k:Nat} {a:List Int} {b:Nat} {e:Int},bC most k a rs=zo (b,e)->e≠0
 |[],_,_,_,_,h=>by cases h
 |r::rs,k,a,b,e,h=>by
  unfold bC at h;by_cases c:kR a most r≠0
  ·simp_all
  ·rw[zx c]at h;exact jd h
theorem ew{B:Int}:∀ {ls:List (List Vt)} {i:Nat} {a:List Int} {c d:Nat} {e:Int},az B i a ls=zo (c,(d,e))->e≠0
 |[],_,_,_,_,_,h=>by cases h
 |rs::ls,i,a,c,d,e,h=>by
  unfold az at h;by_cases f:rs.length>2
  ·grind
  ·rw[zx f]at h;cases b:bC (WM B i) 0 a rs with
   |none=>rw[b]at h;exact ew h
   |some x=>rw[b]at h;cases h;exact jd b
def di(a:List Int):List (Int×Bool):=a.map λi=>(i,zt)
theorem lh(c:List Int)(i:Int):Tv (NJ (λa b=>PW a b) (di c) i) zf=decide (i∈c):=by
 induction c with
 |nil=>rfl
 |cons j c d=>
  show Tv (bif PW i j then zo zt else NJ (λa b=>PW a b) (di c) i) zf=_
  rw[XS];by_cases h:i=j
  ·simp[h,Tv]
  simp_all
theorem lm{c:List Int}{i:Int}(h:i ∉ c):I2 (λa b=>PW a b) (di c) i zt=di (c++[i]):=by
 induction c with
 |nil=>rfl
 |cons j c f=>
  show(bif PW i j then(i,zt)::di c else(j,zt)::I2 (λa b=>PW a b) (di c) i zt)=_
  rw[XS];have d:¬ i=j:=λe=>h (by simp[e]);rw[f (λe=>h (by simp[e]))];simp only[d,decide_false,zj];rfl
theorem fC(r:Vt)(a:r.2.length<=9223372036854775807):ZQ r=zo (if r.1<1\/r.1>1000000 then(-1,7)else Xl r.2):=by
 grind [ZQ,VE,VC,Xm,Ug]
theorem eC(r:Vt)(most:Int)(b:r.2.length<=9223372036854775807):W5 (r,most)=zo (kR [] most r):=by
 unfold W5 kR;rw[fC r b,Ug];simp only[Vd,Vc];by_cases h:r.1<1\/r.1>1000000
 ·rw[zy h,zy h];rfl
 ·rw[zx h,zx h,VF];by_cases a:(Xl r.2).2=0
  ·rw[zy a,zx (by simp[a]),VA,VC]
   grind
  simp_all
theorem uy(a:List Int)(most:Int)(r:Vt):kR a most r=if kR [] most r=0 then(if r.1∈a then 8 else 0)else kR [] most r:=by
 grind [kR]
theorem vp(i:Nat)(h:i<=12):(2:Int) ^ i<=4096/\1<=(2:Int) ^ i:=by
 have a:(2:Nat) ^ i<=2 ^ 12:=Nat.pow_le_pow_right (by omega) h
 grind
theorem gX{B:Int}{i:Nat}(a:1<=B)(b:B<=16)(hi:i<=12):1<=WM B i/\WM B i<=65536:=by
 obtain⟨c,d⟩:=vp i hi;unfold WM;constructor
 ·have:=xT a d (by omega) (by omega);omega
 ·have:=xT b c (by omega) (by omega);omega
theorem cC{B:Int}{i:Nat}(a:1<=B)(b:B<=16)(hi:i<=12):Sj .i64 B (i:Int)=WM B i:=by
 have c:=gX a b hi;unfold Sj;rw[show min ((i:Int).toNat) IntKind.i64.bits=i by rw[bo];exact r6 (Nat.le_trans hi (by decide))];unfold WM at c ⊢;exact IntWalk.i64_in _ (by omega)
def Q1:Option (Nat×(Nat×Int))->Int->Int->Int->Prop
 |some (i,(k,e)),a,b,c=>a=(k:Int)/\b=(i:Int)/\c=e
 |none,_,_,c=>c=0
def Q2(m:List (Int×Bool)):Option (Nat×Int)->Nat->Int->Int->List (Int×Bool)->Prop
 |some (k,e),r,a,c,_=>r=0/\a=(k:Int)/\c=e
 |none,r,_,c,m'=>r=1/\c=0/\m'=m
theorem ZY(L:Vb)(hb:L.2.length<=1048576)(hr:∀ rs∈L.2,rs.length<=1048576 /\ ∀ r∈rs,r.2.length<=9223372036854775807):Wb L=zo (Wy L):=by
 unfold Wb Wy;simp only[Vd,Vc];rw[VE,VC,VC];by_cases J:L.1<1
 ·simp_all
 rw[zx J];by_cases K:L.1>16
 ·simp_all
 rw[zx K,zx (show ¬ (L.1<1\/L.1>16) by omega)];by_cases hl:(L.2.length:Int)>12
 ·grind
 rw[zx hl,zx (by omega)];have hl2:L.2.length<=12:=by omega
 obtain⟨T,D⟩:∃ T,T=az L.1 0 [] L.2:=⟨_,rfl⟩;rw[<- D]
 have A:∀ P:Int,P=0->T=zn->(br (TN P 0) (λ_=>(zn:Option (Int×(Int×Int)))) λ_=>br (Ut (L.2.length:Int) 0) (λ_=>TS (Tp .i64 (L.2.length:Int) 1) λM=>ix L.2 M λS=>br (PW (S.length:Int) 0) (λ_=>zo ((Tp .i64 (L.2.length:Int) 1,(0,6)))) λ_=>zo ((0,(0,0)))) λ_=>zo ((0,(0,0))))=zo (if L.2.getLast?=zo []then(((L.2.length-1:Nat):Int),(0,6))else(0,(0,0))):=by
  intro P n _;rw[VF,zy n,VC];by_cases Z:L.2=[]
  ·rw[Z];rfl
  ·have hp:=en.2 Z;rw[zy (by omega),show Tp .i64 (L.2.length:Int) 1=((L.2.length-1:Nat):Int) by rw[UU (by omega)];omega,VZ,i0];have o:L.2[L.2.length-1]?=zo (L.2[L.2.length-1]'(by omega)):=by simp
   rw[U0 o,o,VA];by_cases he:L.2[L.2.length-1]'(by omega)=[]<;>simp_all
 obtain⟨r,O,b⟩:=Xd (l:=L.2) (σ:=Int×(Int×List Int)) (λi j=>(j.1,(j.2.1,((0:Int),((i:Int),di j.2.2)))))
  (λm i j=>az L.1 i j.2.2 m=T) (λ(r:Nat×((Int×(Int×(Int×(Int×List (Int×Bool)))))×Unit))=>Q1 T r.2.1.1 r.2.1.2.1 r.2.1.2.2.1)
  (f:=λs0=>br (Uv s0.2.2.2.1 (L.2.length:Int)) (λ_=>TS s0.2.2.2.1 λk1=>ix L.2 k1 λW=>br (Ut (W.length:Int) 2) (λ_=>zo (.dn ((0,((0,(s0.2.2.2.1,(3,s0.2.2.2))),()))))) λ_=>bd (loop (λa=>br (Uv a.2.1 (W.length:Int)) (λ_=>TS a.2.1 λN=>ix W N λp=>gd (TM s0.2.2.2.1 0) λ_=>bd (W5 (p,Sj .i64 L.1 s0.2.2.2.1)) λg=>br (PW g 0) (λ_=>br (Tv (NJ ((λF=>(λG=>PW F G))) a.2.2.2 p.1) zf) (λ_=>zo (.dn ((0,((a.2.1,(a.2.1,(8,a.2.2.2))),()))))) λ_=>br (TN g 0) (λ_=>zo (.dn ((0,((a.2.1,(a.2.1,(g,a.2.2.2))),()))))) λ_=>zo (.nx ((a.2.1,(Tk .i64 a.2.1 1,(g,I2 ((λI=>(λw=>PW I w))) a.2.2.2 p.1 zt)))))) λ_=>br (TN g 0) (λ_=>zo (.dn ((0,((a.2.1,(a.2.1,(g,a.2.2.2))),()))))) λ_=>zo (.nx ((a.2.1,(Tk .i64 a.2.1 1,(g,I2 ((λx=>(λy=>PW x y))) a.2.2.2 p.1 zt)))))) λ_=>zo (.dn ((1,(a,()))))) ((0,(0,(s0.2.2.1,s0.2.2.2.2))))) λd=>br (neq d.1 0) (λ_=>zo (.dn ((0,((d.2.1.1,(s0.2.2.2.1,(d.2.1.2.2.1,(s0.2.2.2.1,d.2.1.2.2.2)))),()))))) λ_=>zo (.nx ((d.2.1.1,(s0.2.2.2.1,(d.2.1.2.2.1,(Tk .i64 s0.2.2.2.1 1,d.2.1.2.2.2))))))) λ_=>zo (.dn ((0,(s0,())))))
  (s:=(0,(0,(0,(0,[]))))) (0,(0,[])) rfl (by omega) D.symm (λj h=>by
   refine⟨_,by simp only;rw[re];rfl,?_⟩;simp only at h ⊢;rw[<- h];exact rfl) (λi rs m j hd o hi h=>by
   obtain⟨s1,s2,c⟩:=j;simp only at h ⊢;obtain⟨hrs1,C⟩:=hr rs (bl o);rw[rl hi,UN,VZ,U0 o,VC];unfold az at h;by_cases X:rs.length>2
   ·rw[zy (by omega)];rw[zy X]at h;refine .inr ⟨_,rfl,?_⟩;rw[<- h];exact⟨rfl,rfl,rfl⟩
   rw[zx (by omega)];rw[zx X]at h;obtain⟨U,Y⟩:∃ U,U=bC (WM L.1 i) 0 c rs:=⟨_,rfl⟩;rw[<- Y]at h
   obtain⟨r,O,b⟩:=Xd (l:=rs) (σ:=Int) (λk j=>(j,((k:Int),((0:Int),di (c++(rs.take k).map (·.1))))))
    (λm k _=>bC (WM L.1 i) k (c++(rs.take k).map (·.1)) m=U) (λ(r:Nat×((Int×(Int×(Int×List (Int×Bool))))×Unit))=>Q2 (di (c++rs.map (·.1))) U r.1 r.2.1.1 r.2.1.2.2.1 r.2.1.2.2.2)
    (f:=λa=>br (Uv a.2.1 (rs.length:Int)) (λ_=>TS a.2.1 λN=>ix rs N λp=>gd (TM (i:Int) 0) λ_=>bd (W5 (p,Sj .i64 L.1 (i:Int))) λg=>br (PW g 0) (λ_=>br (Tv (NJ ((λF=>(λG=>PW F G))) a.2.2.2 p.1) zf) (λ_=>zo (.dn ((0,((a.2.1,(a.2.1,(8,a.2.2.2))),()))))) λ_=>br (TN g 0) (λ_=>zo (.dn ((0,((a.2.1,(a.2.1,(g,a.2.2.2))),()))))) λ_=>zo (.nx ((a.2.1,(Tk .i64 a.2.1 1,(g,I2 ((λI=>(λw=>PW I w))) a.2.2.2 p.1 zt)))))) λ_=>br (TN g 0) (λ_=>zo (.dn ((0,((a.2.1,(a.2.1,(g,a.2.2.2))),()))))) λ_=>zo (.nx ((a.2.1,(Tk .i64 a.2.1 1,(g,I2 ((λx=>(λy=>PW x y))) a.2.2.2 p.1 zt)))))) λ_=>zo (.dn ((1,(a,())))))
    (s:=(0,(0,(0,di c)))) 0 (by simp) (by omega) (by simp[Y]) (λj h=>by
     refine⟨_,by simp only;rw[re];rfl,?_⟩;rw[<- h];exact⟨rfl,rfl,by simp⟩) (λk r m j hd o hk h=>by
     simp only at h ⊢;have hr2:=C r (bl o);have htk:(rs.take (k+1)).map (·.1)=(rs.take k).map (·.1)++[r.1]:=by grind
     rw[rl hk,UN,VZ,U0 o,show gd (TM (i:Int) 0)=λ(q:Unit->Option (LR (Int×(Int×(Int×List (Int×Bool)))) (Nat×((Int×(Int×(Int×List (Int×Bool))))×Unit))))=>q ()from by rfl,cC (by omega) (by omega) (by omega)];simp only;rw[eC _ _ (by omega),Ug,VA,lh,VF];unfold bC at h;rw[uy]at h;by_cases n:kR [] (WM L.1 i) r=0
     ·rw[zy n]at h;rw[zy n,zy n,Wj];by_cases E:r.1∈c++(rs.take k).map (·.1)
      ·rw[zy E];rw[zy E,zy (by decide)]at h;refine .inr ⟨_,rfl,?_⟩;rw[<- h];exact⟨rfl,rfl,rfl⟩
      ·rw[zx E];rw[zx E,zx (by decide)]at h;refine .inl ⟨(k:Int),?_,?_⟩
       ·grind [lm,Vi,hI]
       simp_all
     ·rw[zx n,zy n]at h;rw[zx n,zx n];refine .inr ⟨_,rfl,?_⟩;rw[<- h]
      exact⟨rfl,rfl,rfl⟩)
   rw[O,Ug,Uh];cases B:U with
   |some u=>
    obtain⟨k,e⟩:=u;rw[B]at b h;rw[zy b.1];refine .inr ⟨_,rfl,?_⟩;rw[<- h];exact⟨b.2.1,rfl,b.2.2⟩
   |none=>
    rw[B]at b h;rw[zx (show ¬ r.1=0 by have:=b.1;omega)];refine .inl ⟨(r.2.1.1,((i:Int),c++rs.map (·.1))),?_,h⟩
    rw[b.2.1,b.2.2,Vi o (by omega)])
 refine Vx O ?_;cases z:T with
 |some t=>
  obtain⟨i,k,e⟩:=t;rw[z]at b D;rw[VF,zx (by rw[b.2.2];exact ew D.symm),b.1,b.2.1,b.2.2]
 |none=>
  rw[z]at b;have h:=A _ b z;have q3:r.2.1.2.2.1=0:=b;rw[VF,zy q3]at h ⊢;exact h
end
section
open Go Sv
structure VR (most:Int) (r:Vt):Prop where
 id1:1<=r.1
 id2:r.1<=1000000
 vl:VL r.2
 ne:r.2≠[]
 le:(r.2.length:Int)<=most
theorem lW{a:List Int}{most:Int}{r:Vt}:kR a most r=0<->VR most r/\r.1 ∉ a:=by
 unfold kR;constructor
 ·intro h;by_cases c:r.1<1\/r.1>1000000
  ·omega
  rw[zx c]at h;by_cases d:(Xl r.2).2≠0
  ·omega
  rw[zx d]at h;by_cases e:r.2.length=0
  ·omega
  rw[zx e]at h;by_cases f:(r.2.length:Int)>most
  ·omega
  rw[zx f]at h;by_cases b:r.1∈a
  ·simp_all
  exact⟨⟨by omega,by omega,bz.1 (by omega),by simp_all,by omega⟩,b⟩
 ·rintro⟨h,b⟩;rw[zx (by have:=h.id1;have:=h.id2;omega),zx (by simp[bz.2 h.vl]),zx (by have:=en.2 h.ne;omega),zx (by have:=h.le;omega),zx b]
def sO(r:Vt):Int:=r.1
theorem cN{most:Int}:∀ {rs:List Vt} {k:Nat} {a:List Int},bC most k a rs=zn<->(∀ r∈rs,VR most r/\r.1 ∉ a)/\(rs.map sO).Nodup
 |[],k,a=>by simp[bC]
 |r::rs,k,a=>by
  unfold bC;by_cases h:kR a most r=0
  ·rw[zx (by simp[h]),cN (rs:=rs)];have f:=lW.1 h;simp only[li,forall_eq_or_imp,ee,gs,ox,List.not_mem_nil,or_false,eo,not_exists,not_and,not_or];constructor
   ·rintro⟨b,d⟩;exact⟨⟨f,λx c=>⟨(b x c).1,(b x c).2.1⟩⟩,λx c e=>(b x c).2.2 e,d⟩
   ·rintro⟨⟨_,b⟩,d,g⟩;exact⟨λx c=>⟨(b x c).1,(b x c).2,d x c⟩,g⟩
  ·rw[zy h];simp only[reduceCtorEq,false_iff,not_and];intro b;exact absurd (lW.2 (b r (by simp))) h
theorem aw{B:Int}:∀ {ls:List (List Vt)} {i:Nat} {c:List Int},az B i c ls=zn<->(∀ k rs,ls[k]?=zo rs->rs.length<=2 /\ ∀ r∈rs,VR (WM B (i+k)) r/\r.1 ∉ c)/\(ls.flatten.map sO).Nodup
 |[],i,c=>by simp[az]
 |rs::ls,i,c=>by
  unfold az;by_cases h:rs.length>2
  ·rw[zy h];simp only[reduceCtorEq,false_iff,not_and];intro g;have:=(g 0 rs rfl).1;omega
  ·rw[zx h];cases l:bC (WM B i) 0 c rs with
   |some x=>
    simp only[reduceCtorEq,false_iff,not_and];intro g j
    have n:bC (WM B i) 0 c rs=zn:=cN.2 ⟨(g 0 rs rfl).2,by
     grind⟩
    simp_all
   |none=>
    have q:=cN.1 l;simp only;rw[aw (ls:=ls)];simp only[List.flatten_cons,List.map_append,ox,not_or,eo];constructor
    ·rintro⟨g,j⟩;refine⟨λk f m=> ?_,?_⟩
     ·cases k with
      |zero=>grind
      |succ k=>
       grind
     ·rw[o4];refine⟨q.2,j,?_⟩;intro a s b t e;subst e;obtain⟨r,l,e1⟩:=eo.1 s;obtain⟨p,d,e2⟩:=eo.1 t;obtain⟨f,o,d⟩:=hM.1 d;obtain⟨k,m⟩:=co o
      grind [sO]
    ·rintro⟨g,j⟩;rw[o4]at j;refine⟨λk f m=> ?_,j.2.1⟩;have n:=g (k+1) f m;refine⟨n.1,λr l=> ?_⟩;have:=n.2 r l;rw[show i+(k+1)=i+1+k by omega]at this;refine⟨this.1,this.2,?_⟩;rintro⟨p,d,e⟩;exact j.2.2 (sO p) (tk d) (sO r) (tk (hM.2 ⟨f,bl m,l⟩)) e
structure VLev (L:Vb):Prop where
 B1:1<=L.1
 B2:L.1<=16
 len:L.2.length<=12
 lev:∀ i rs,L.2[i]?=zo rs->rs.length<=2 /\ ∀ r∈rs,VR (WM L.1 i) r
 ids:(L.2.flatten.map sO).Nodup
 last:L.2.getLast? ≠ zo []
theorem YN{L:Vb}:(Wy L).2.2=0<->VLev L:=by
 unfold Wy;constructor
 ·intro h;by_cases b:L.1<1\/L.1>16
  ·simp_all
  rw[zx b]at h;by_cases c:L.2.length>12
  ·simp_all
  rw[zx c]at h;cases a:az L.1 0 [] L.2 with
  |some x=>
   obtain⟨i,k,e⟩:=x;rw[a]at h;exact absurd h (ew a)
  |none=>
   rw[a]at h;simp only at h;by_cases d:L.2.getLast?=zo []
   ·simp_all
   ·have f:=aw.1 a
    exact⟨by omega,by omega,by omega,λi rs hi=>by
     grind,f.2,d⟩
 ·intro h
  have a:az L.1 0 [] L.2=zn:=aw.2 ⟨λk rs g=>by
   have:=h.lev k rs g
   simp_all,h.ids⟩
  rw[zx (by have:=h.B1;have:=h.B2;omega),zx (by have:=h.len;omega),a];simp only;rw[zx h.last]
theorem Yh{L:Vb}(h:VLev L):Wy L=(0,(0,0)):=by
 have a:az L.1 0 [] L.2=zn:=aw.2 ⟨λk rs b=>by
  have:=h.lev k rs b
  simp_all,h.ids⟩
 unfold Wy;rw[zx (by have:=h.B1;have:=h.B2;omega),zx (by have:=h.len;omega),a];simp only;rw[zx h.last]
def X6(l:List (List Vt)):Int:=l.foldl (λm rs=>rs.foldl (λm r=>VP m r.1) m) 0
def Vr:Nat->List (List Vt)->List Int
 |_,[]=>[]
 |i,rs::ls=>(if rs.length=2 then[(i:Int)]else[])++Vr (i+1) ls
theorem fx(L:Vb)(d:L.2.length<=1048576)(b:∀ rs∈L.2,rs.length<=1048576):YG L=zo (X6 L.2):=by
 unfold YG;simp only[Vd,Vc]
 rw[WQ (l:=L.2) (σ:=Int) (s:=((0:Int),(0:Int))) (λi m=>(m,(i:Int))) (λ_ _ _=>True) (λls _ m=>(0,((ls.foldl (λm rs=>rs.foldl (λm r=>VP m r.1) m) m,(L.2.length:Int)),()))) 0 rfl (by omega) trivial (λm _=>by
  simp only;rw[re];rfl) (λi rs ls m hd a hi _=>by
   refine⟨rs.foldl (λm r=>VP m r.1) m,?_,trivial,rfl⟩;have c:=b rs (bl a);simp only
   rw[rl hi,UN,VZ,U0 a,WQ (l:=rs) (σ:=Int) (s:=((0:Int),m)) (λi m=>((i:Int),m)) (λ_ _ _=>True) (λl _ m=>(0,(((rs.length:Int),l.foldl (λm r=>VP m r.1) m),()))) m rfl (by omega) trivial (λm _=>by
    simp only;rw[re];rfl) (λk r l m hd a e _=>by
     refine⟨VP m r.1,?_,trivial,rfl⟩
     grind [rl,UN,VZ,U0,Vi]),Ug,Vi a (by omega)]),Ug]
 rfl
def ay(L:Vb)(a:List Int)(i:Nat)(j:Job):Bool:=match a[i]? with
 |none=>zt
 |some d=>if j.1≠d then zt else if j.2.2.1.2.2=zt/\j.1≠(L.2.length:Int)-1 then zt else match L.2[d.toNat]? with
  |some [r0,r1]=>if j.2.2.2.2<0\/j.2.2.2.2>((r1.2.length+r0.2.length:Nat):Int)then zt else decide (XC r1.2 r0.2 j.2.2.1.2.2 j.2.2.2.2.toNat≠j.2)
  |_=>zt
def YK(L:Vb)(a:List Int):Nat->List Job->Option Nat
 |_,[]=>zn
 |i,j::js=>if ay L a i j=zt then zo i else YK L a (i+1) js
def Vg(s:Va):Int×Int:=
 if(Wy s.1).2.2≠0 then(-1,(Wy s.1).2.2)else if s.2.2<1\/s.2.2>1000001 then(-1,7)else if s.2.2<=X6 s.1.2 then(-1,6)else match YK s.1 (Vr 0 s.1.2) 0 s.2.1 with
  |some i=>((i:Int),6)
  |none=>if s.2.1.length<(Vr 0 s.1.2).length then(-1,4)else(0,0)
theorem ZS:∀ {ls:List (List Vt)} {i k:Nat} {d:Int},(Vr i ls)[k]?=zo d -> ∃ n:Nat,d=((i+n:Nat):Int) /\ ∃ c e,ls[n]?=zo [c,e]
 |[],i,k,d,h=>by cases h
 |rs::ls,i,k,d,h=>by
  unfold Vr at h;by_cases a:rs.length=2
  ·rw[zy a]at h;cases k with
   |zero=>
    simp at h;refine⟨0,by simp[<- h],?_⟩
    match rs,a with
    |[c,e],_=>simp_all
   |succ k=>
    simp at h;obtain⟨n,f,b⟩:=ZS h;exact⟨n+1,by omega,b⟩
  ·rw[zx a]at h;simp at h;obtain⟨n,f,b⟩:=ZS h;exact⟨n+1,by omega,b⟩
theorem Yj:∀ (ls:List (List Vt)) (i:Nat),(Vr i ls).length<=ls.length
 |[],i=>ed _
 |rs::ls,i=>by
  have:=Yj ls (i+1)
  grind [Vr]
theorem fX{L:Vb}{n:Nat}{a b:Vt}(c:Bool)(h:L.2[n]?=zo [a,b])(v0:VL a.2)(v1:VL b.2):Wl (L,((n:Int),c))=zo ((n:Int),XC b.2 a.2 c 0):=by
 unfold Wl;simp only;rw[VZ,U0 h,U0 (x:=b) rfl,U0 (x:=a) rfl,ji v1 v0];rfl
theorem dq{a b:List VY}(va:VL a)(d:VL b)(c:Bool){n:Nat}(h:n<=a.length+b.length):(XC a b c n).1.1.length<=1000/\(∀ l∈(XC a b c n).1.1,l.length<=1000000)/\(XC a b c n).1.2.1.length<=1000/\(XC a b c n).1.2.2.1.length<=1000/\(XC a b c n).1.2.2.2.1.length<=1000/\(XC a b c n).2.2.1.length<=1000000:=by
 have i:=va.len;have j:=d.len;refine⟨show 2<=1000 by omega,λl g=> ?_,show 2<=1000 by omega,show 2<=1000 by omega,show 2<=1000 by omega,?_⟩
 ·grind [XC,bJ,bV]
 ·have e:=Zt (s0 c) (Vo a b n);have f:=Wg va d h;show(Xj (s0 c) (Vo a b n)).length<=_;omega
theorem ux{L:Vb}{n:Nat}{a b:Vt}{j:Job}(h:L.2[n]?=zo [a,b])(v0:VL a.2)(v1:VL b.2){β:Type}(A B:Option β) :
  (bd (Wl (L,((n:Int),j.2.2.1.2.2))) λc=>bd (WD c.2) λd=>br (Uv j.2.2.2.2 0) (λ_=>A) λ_=>br (Ut j.2.2.2.2 d.1) (λ_=>A) λ_=>bd (WS (c.2,j.2.2.2.2)) λe=>bd (XI (e.1,j.2)) λf=>br (IR f) (λ_=>A) λ_=>B)
  = if j.2.2.2.2<0\/j.2.2.2.2>((b.2.length+a.2.length:Nat):Int)then A else if XC b.2 a.2 j.2.2.1.2.2 j.2.2.2.2.toNat=j.2 then B else A:=by
 rw[fX _ h v0 v1,Ug,cO v1 v0 _ (hU _),Ug,VE,VC,ll];by_cases g:j.2.2.2.2<0
 ·simp_all
 rw[zx g];by_cases i:j.2.2.2.2>((b.2.length+a.2.length:Nat):Int)
 ·simp_all
 rw[zx i,zx (show ¬ (j.2.2.2.2<0\/j.2.2.2.2>((b.2.length+a.2.length:Nat):Int)) by omega)];obtain⟨k,l⟩:∃ k:Nat,j.2.2.2.2=(k:Int):=⟨j.2.2.2.2.toNat,by omega⟩;rw[l,eK v1 v0 _ (hU _),Ug,ll,gw,r6 (by omega),bo];obtain⟨s1,s2,m,o,p,q⟩:=dq v1 v0 j.2.2.1.2.2 (n:=k) (by omega);rw[f9 _ _ s1 s2 m o p q,Ug,We,Wj]
 simp_all
theorem gz(s:Va)(J:s.1.2.length<=1048576)(hr:∀ rs∈s.1.2,rs.length<=1048576 /\ ∀ r∈rs,r.2.length<=9223372036854775807)(hj:s.2.1.length<=1048576):XO s=zo (Vg s):=by
 unfold XO Vg;simp only[Vd,Vc];rw[ZY _ J hr,Ug,VF];by_cases C:(Wy s.1).2.2=0;rotate_left
 ·simp_all
 rw[zy C,zx (by simp[C]),VE,VC,fx _ J (λrs h=>(hr rs h).1),Ug];have v:=YN.1 C;by_cases D:s.2.2<1
 ·simp_all
 rw[zx D];by_cases g:s.2.2>1000001
 ·simp_all
 rw[zx g,zx (show ¬ (s.2.2<1\/s.2.2>1000001) by omega),VD];by_cases E:s.2.2<=X6 s.1.2
 ·simp_all
 rw[zx E,zx E]
 rw[WQ (l:=s.1.2) (σ:=List Int) (s:=((0:Int),([]:List Int))) (λi m=>((i:Int),m)) (λls i m=>m++Vr i ls=Vr 0 s.1.2) (λ_ _ _=>(0,(((s.1.2.length:Int),Vr 0 s.1.2),()))) [] rfl (by omega) rfl (λm h=>by
  simp_all[re,Ta,Vr]) (λi rs ls m hd e hi h=>by
   refine⟨m++(if rs.length=2 then[(i:Int)]else[]),?_,?_,rfl⟩
   ·simp only;rw[rl hi,UN,VZ,U0 e,VA]
    have hm:m.length<=1048575:=by
     have o:=congrArg ta h;have I:=Yj s.1.2 0;have h6:=v.len
     grind
    by_cases o:rs.length=2
    ·rw[zy (by omega),zy o,Vz (by simp_all[A0,AQ,dc,eb]),Vi e (by omega)];rfl
    ·rw[zx (by omega),zx o,iz,Vi e (by omega)]
   ·rw[hI];exact h),Ug]
 simp only;obtain⟨a,p⟩:∃ a,a=Vr 0 s.1.2:=⟨_,rfl⟩;have hdl:a.length<=12:=by have:=Yj s.1.2 0;have:=v.len;grind
 rw[<- p];obtain⟨T,Y⟩:∃ T,T=YK s.1 a 0 s.2.1:=⟨_,rfl⟩;rw[<- Y]
 obtain⟨r,q1,G⟩:=Xd (l:=s.2.1) (σ:=Unit) (λi _=>((0:Int),((0:Int),(i:Int)))) (λjs i _=>YK s.1 a i js=T) (λ(r:Nat×((Int×(Int×Int))×Unit))=>(T=zn/\r.1=1)\/(∃ i:Nat,T=zo i/\r.1=0/\r.2.1.1=6/\r.2.1.2.1=(i:Int)))
  (f:=λb=>br (Uv b.2.2 (s.2.1.length:Int)) (λ_=>TS b.2.2 λk7=>ix s.2.1 k7 λc=>br (TM b.2.2 (a.length:Int)) (λ_=>zo (.dn ((0,((6,(b.2.2,b.2.2)),()))))) λ_=>TS b.2.2 λk9=>gd (JJ k9 a.length) λ_=>ix a k9 λX=>br (TN c.1 X) (λ_=>zo (.dn ((0,((6,(b.2.2,b.2.2)),()))))) λ_=>br c.2.2.1.2.2 (λ_=>bd (W4 (s.1,c.1)) λM=>br (IR M) (λ_=>zo (.dn ((0,((6,(b.2.2,b.2.2)),()))))) λ_=>bd (Wl ((s.1,(c.1,c.2.2.1.2.2)))) λy=>bd (WD y.2) λN=>br (Uv c.2.2.2.2 0) (λ_=>zo (.dn ((0,((6,(b.2.2,b.2.2)),()))))) λ_=>br (Ut c.2.2.2.2 N.1) (λ_=>zo (.dn ((0,((6,(b.2.2,b.2.2)),()))))) λ_=>bd (WS (y.2,c.2.2.2.2)) λO=>bd (XI (O.1,c.2)) λP=>br (IR P) (λ_=>zo (.dn ((0,((6,(b.2.2,b.2.2)),()))))) λ_=>zo (.nx ((b.1,(b.2.1,Tk .i64 b.2.2 1))))) λ_=>bd (Wl ((s.1,(c.1,c.2.2.1.2.2)))) λz=>bd (WD z.2) λS=>br (Uv c.2.2.2.2 0) (λ_=>zo (.dn ((0,((6,(b.2.2,b.2.2)),()))))) λ_=>br (Ut c.2.2.2.2 S.1) (λ_=>zo (.dn ((0,((6,(b.2.2,b.2.2)),()))))) λ_=>bd (WS (z.2,c.2.2.2.2)) λU=>bd (XI (U.1,c.2)) λW=>br (IR W) (λ_=>zo (.dn ((0,((6,(b.2.2,b.2.2)),()))))) λ_=>zo (.nx ((b.1,(b.2.1,Tk .i64 b.2.2 1))))) λ_=>zo (.dn ((1,(b,())))))
  (s:=(0,(0,0))) () rfl (by omega) Y.symm (λ_ h=>by
   refine⟨_,by simp only;rw[re];rfl,.inl ⟨by rw[<- h];rfl,rfl⟩⟩) (λi j js _ hd e hi h=>by
   simp only;rw[rl hi,UN,VZ,U0 e,VB];unfold YK at h
   have Z:ay s.1 a i j=zt -> ∃ r:Nat×((Int×(Int×Int))×Unit),(zo (LR.dn ((0,((6,((i:Int),(i:Int))),()))):LR (Int×(Int×Int)) _))=zo (.dn r)/\((T=zn/\r.1=1)\/(∃ i:Nat,T=zo i/\r.1=0/\r.2.1.1=6/\r.2.1.2.1=(i:Int))):=λJ=>by
    grind
   have L:ay s.1 a i j=zf -> ∃ st':Unit,(zo (LR.nx ((0:Int),((0:Int),Tk .i64 (i:Int) 1))):Option (LR _ (Nat×((Int×(Int×Int))×Unit))))=zo (.nx ((0:Int),((0:Int),((i+1:Nat):Int))))/\YK s.1 a (i+1) js=T:=λhg=>by
    rw[zx (by simp[hg])]at h;exact⟨(),by rw[Vi e (by omega)],h⟩
   by_cases D:(i:Int)>=(a.length:Int)
   ·rw[zy D]
    grind [ay,a9]
   rw[zx D,VZ,Uq,zy (by omega)];have K:a[i]?=zo (a[i]'(by omega)):=by simp
   rw[U0 K,VF];obtain⟨n,hn,w,x,u⟩:=ZS (ls:=s.1.2) (i:=0) (k:=i) (d:=a[i]'(by omega)) (by simp_all);rw[gw]at hn
   have F:ay s.1 a i j=(if j.1≠(a[i]'(by omega))then zt else if j.2.2.1.2.2=zt/\j.1≠(s.1.2.length:Int)-1 then zt else if j.2.2.2.2<0\/j.2.2.2.2>((x.2.length+w.2.length:Nat):Int)then zt else decide (XC x.2 w.2 j.2.2.1.2.2 j.2.2.2.2.toNat≠j.2)):=by
    grind [ay,bo]
   by_cases g:j.1=(a[i]'(by omega));rotate_left
   ·simp_all
   rw[zy g];rw[zx (by simp[g])]at F;have q:j.1=(n:Int):=by rw[g,hn]
   have hv:=(v.lev n _ u).2;have v0:=(hv w (by simp)).vl;have v1:=(hv x (by simp)).vl;have t:Tp .i64 (s.1.2.length:Int) 1=(s.1.2.length:Int)-1:=UU (by omega);unfold W4;simp only[Vd,Vc];rw[Ug,t,XS,We,Wj,q,ux u v0 v1,VM];rw[q]at F;by_cases E:j.2.2.1.2.2=zt/\(n:Int)≠(s.1.2.length:Int)-1
   ·simp_all
   rw[zx E]at F
   have o:∀ {γ:Type} (A B:γ),(if j.2.2.1.2.2=zt then if ¬(n:Int)=(s.1.2.length:Int)-1 then A else B else B)=B:=by
    simp_all
   rw[o];by_cases I:j.2.2.2.2<0\/j.2.2.2.2>((x.2.length+w.2.length:Nat):Int)
   ·simp_all
   rw[zx I];rw[zx I]at F;by_cases h6:XC x.2 w.2 j.2.2.1.2.2 j.2.2.2.2.toNat=j.2
   all_goals simp_all)
 rw[C];refine Vx q1 ?_;rw[Uh];rcases G with⟨G,q3⟩|⟨i,G,q3,q4,q5⟩
 ·rw[zx (show ¬ r.1=0 by omega),G,VE]
  grind
 grind
end
section
open Go Sv
theorem aG(x:VY):W6 x=zo (kE x):=by
 unfold W6 kE;rw[VC,Vd,aM];by_cases c:x.1.length>32
 ·grind
 rw[zx (by omega),VC,Vd,aM];by_cases d:x.2.1.length>64
 ·grind
 rw[zx (by omega:¬ (x.2.1.length:Int)>64),zx (by omega),VM];by_cases a:x.2.2.1=zt
 ·rw[zy a,WH,Xb];by_cases b:x.2.1=[]
  ·rw[zy b,zx (by simp[b]),VE,VC]
   grind
  simp_all
 ·rw[zx a,zx (by simp[a]),VE,VC]
  grind
def Xi:List UInt8->List UInt8->Nat
 |x::a,y::b=>if x=y then Xi a b+1 else 0
 |_,_=>0
theorem qu(x y:UInt8):PW (VU x) (VU y)=decide (x=y):=by
 rw[XS];unfold VU;by_cases h:x=y
 ·simp[h]
 ·have:¬ ((x.toNat:Int)=(y.toNat:Int)):=λe=>h (UInt8.toNat_inj.1 (by omega))
  grind
theorem jk(a b:List UInt8)(y:a.length<=9223372036854775806):YW (a,b)=zo (Xi a b:Int):=by
 unfold YW;simp only[Vd,aM]
 have key:∀ (m:List UInt8) (k n:Nat),a.drop k=m->k<=a.length->k<=b.length->m.length<n->Iu n (λs0=>br (Uv s0 (a.length:Int)) (λ_=>br (Uv s0 (b.length:Int)) (λ_=>TS s0 λs=>ix a s λu=>TS s0 λt=>ix b t λw=>br (PW (VU u) (VU w)) (λ_=>zo (LR.nx (Tk .i64 s0 1))) λ_=>zo (.dn ((0,(s0,()))))) λ_=>zo (.dn ((0,(s0,()))))) λ_=>zo (.dn ((0,(s0,()))))) (k:Int)=zo ((0:Nat),(((k+Xi m (b.drop k):Nat):Int),())):=by
  intro m
  induction m with
  |nil=>
   intro k n p o g r;obtain⟨n,rfl⟩:∃ j,n=j+1:=⟨n-1,by omega⟩
   have h:k=a.length:=by
    grind
   subst h;refine WG ?_;rw[re];rfl
  |cons x m z=>
   intro k n p o g r;obtain⟨n,rfl⟩:∃ j,n=j+1:=⟨n-1,by omega⟩
   have i:a[k]?=zo x:=by
    grind [List.head?_drop]
   have c:k<a.length:=(a8.1 i).1
   have q:a.drop (k+1)=m:=by
    grind [List.tail_drop]
   by_cases d:k<b.length
   ·have l:b[k]?=zo b[k]:=by simp[d]
    rw[List.drop_eq_getElem_cons d];unfold Xi;by_cases e:x=b[k]
    ·rw[zy e];refine(V7 (s':=((k+1:Nat):Int)) ?_).trans ?_
     ·rw[rl c,UN,rl d,UN,VZ,U0 i,VZ,U0 l,qu,Wj,zy e,Ve (by omega)]
     grind
    ·rw[zx e];refine WG ?_;rw[rl c,UN,rl d,UN,VZ,U0 i,VZ,U0 l,qu,Wj,zx e];simp
   ·have f:k=b.length:=by omega
    refine WG ?_;rw[rl c,UN,f,re,Ta,List.drop_length];simp[Xi]
 refine Vx (Wx (n:=a.length+1) (by omega) (key a 0 (a.length+1) (by simp) (by omega) (by omega) (by omega))) ?_;simp
def bQ(a b:Xk):Int:=if UB a b=zt then -1 else if a=b then 0 else 1
theorem fb:∀ (a b:Xk),(Xi a b<=a.length/\Xi a b<=b.length)/\(Xi a b=a.length->Xi a b=b.length->bQ a b=0)/\(Xi a b=a.length->Xi a b≠b.length->bQ a b = -1)/\(Xi a b≠a.length->Xi a b=b.length->bQ a b=1)/\(∀ x y,a[Xi a b]?=zo x->b[Xi a b]?=zo y->bQ a b=if x.toNat<y.toNat then -1 else 1)
 |[],[]=>by simp[Xi,bQ,bq]
 |[],y::b=>by simp[Xi,bQ,fD]
 |x::a,[]=>by simp[Xi,bQ,bq]
 |x::a,y::b=>by
  obtain⟨⟨j,g⟩,k,l,m,n⟩:=fb a b;by_cases e:x=y
  ·subst e
   have o:bQ (x::a) (x::b)=bQ a b:=by
    simp_all[bQ,Z5]
   grind [Xi]
  ·have hc:Xi (x::a) (y::b)=0:=by simp[Xi,e]
   rw[hc];refine⟨⟨by omega,by omega⟩,λu=>by simp at u,λu=>by simp at u,λ_ u=>by simp at u,λp q d f=> ?_⟩;simp at d f;subst d f;unfold bQ;rw[Z5];have i:¬ (x::a=y::b):=λh=>e (by injection h);by_cases c:x.toNat<y.toNat
   ·have:x<y:=s6.2 c
    simp_all
   ·have:¬ x<y:=λh=>c (s6.1 h)
    grind
theorem kw(a b:Xk)(p:a.length<=1000000000)(q:b.length<=1000000000):YC (a,b)=zo (bQ a b):=by
 obtain⟨⟨m,i⟩,n,j,o,k⟩:=fb a b;unfold YC;simp only[Vd,aM];rw[jk a b (by omega),Ug,VA]
 have l:(if(Xi a b:Int)<(b.length:Int)then(TS (Xi a b:Int) λc=>ix a c λe=>TS (Xi a b:Int) λd=>ix b d λf=>br (Uv (VU e) (VU f)) (λ_=>zo (-1:Int)) λ_=>zo 1)else zo 1)=(if Xi a b=a.length then(if(Xi a b:Int)<(b.length:Int)then(TS (Xi a b:Int) λc=>ix a c λe=>TS (Xi a b:Int) λd=>ix b d λf=>br (Uv (VU e) (VU f)) (λ_=>zo (-1:Int)) λ_=>zo 1)else zo 1)else zo (bQ a b)):=by
  by_cases u:Xi a b=a.length
  ·grind
  ·rw[zx u];by_cases v:Xi a b=b.length
   ·simp_all
   ·rw[zy (by omega),VZ];have g:a[Xi a b]?=zo (a[Xi a b]'(by omega)):=by simp
    have h:b[Xi a b]?=zo (b[Xi a b]'(by omega)):=by simp
    rw[U0 g,VZ,U0 h,VE,k _ _ g h];unfold VU
    grind
 by_cases u:Xi a b=a.length
 ·rw[zy (by omega),VA];by_cases v:Xi a b=b.length
  ·simp_all
  ·rw[zx (by omega),VA,zy (by omega),j u v]
 ·rw[zx (by omega),VA,zx (by omega),VE,l,zx u]
theorem jV(a b:Xk):bQ a b>=0<->UB a b=zf:=by
 grind [bQ]
theorem Ym(l:List VY)(B:l.length<=9223372036854775807):W2 l=zo (Xl l):=by
 unfold W2 Xl;simp only[Vd,Vc];rw[VC];by_cases h:l.length>5000
 ·grind
 rw[zx (by omega),zx h];obtain⟨T,j⟩:∃ T,T=aR zn 0 l:=⟨_,rfl⟩;rw[<- j]
 obtain⟨r,t,C⟩:=Xd (l:=l) (σ:=Unit) (s:=((0:Int),((0:Int),(0:Int)))) (λk _=>((0:Int),((0:Int),(k:Int)))) (λm k _=>aR (if k=0 then zn else(l[k-1]?).map (·.1)) k m=T/\(∀ y,k≠0->l[k-1]?=zo y->kE y=0)) (λ(r:Nat×((Int×(Int×Int))×Unit))=>(r.1=1/\T=(0,0))\/(r.1=0/\T=(r.2.1.2.1,r.2.1.1)))
  (f:=λs0=>br (Uv s0.2.2 (l.length:Int)) (λ_=>TS s0.2.2 λo=>ix l o λw=>bd (W6 w) λd=>br (PW d 0) (λ_=>br (Ut s0.2.2 0) (λ_=>TS (Tp .i64 s0.2.2 1) λp=>ix l p λz=>TS s0.2.2 λq=>ix l q λA=>bd (YC (z.1,A.1)) λu=>br (TM u 0) (λ_=>zo (.dn ((0,((6,(s0.2.2,s0.2.2)),()))))) λ_=>br (TN d 0) (λ_=>zo (.dn ((0,((d,(s0.2.2,s0.2.2)),()))))) λ_=>zo (.nx ((s0.1,(s0.2.1,Tk .i64 s0.2.2 1))))) λ_=>br (TN d 0) (λ_=>zo (.dn ((0,((d,(s0.2.2,s0.2.2)),()))))) λ_=>zo (.nx ((s0.1,(s0.2.1,Tk .i64 s0.2.2 1))))) λ_=>br (TN d 0) (λ_=>zo (.dn ((0,((d,(s0.2.2,s0.2.2)),()))))) λ_=>zo (.nx ((s0.1,(s0.2.1,Tk .i64 s0.2.2 1))))) λ_=>zo (.dn ((1,(s0,())))))
  () rfl (by omega) ⟨j.symm,λ_ h=>absurd rfl h⟩ (λ_ h=>by
   refine⟨_,by simp only;rw[re];rfl,.inl ⟨rfl,?_⟩⟩;rw[<- h.1];simp[aR]) (λk x m _ hd g n h=>by
   simp only;obtain⟨h,c⟩:=h;rw[rl n,UN,VZ,U0 g,aG,Ug,VA];unfold aR at h
   have next:kE x=0->(T=aR (zo x.1) (k+1) m)->aR (if k+1=0 then zn else(l[k+1-1]?).map (·.1)) (k+1) m=T/\(∀ y,k+1≠0->l[k+1-1]?=zo y->kE y=0):=λa e=>by
    simp_all
   by_cases a:kE x=0
   ·rw[zy a,VC];rw[zx (by simp[a])]at h;by_cases b:k=0
    ·rw[zx (by omega),VF,zy a];rw[zy b]at h;exact .inl ⟨(),by rw[Vi g (by omega)],next a h.symm⟩
    ·have i:l[k-1]?=zo (l[k-1]'(by omega)):=by simp_all
     rw[zy (by omega),show Tp .i64 (k:Int) 1=((k-1:Nat):Int) by rw[UU (by omega)];omega,VZ,U0 i,VZ,U0 g];rw[zx b,i]at h;simp only[xk]at h;rw[kw _ _ (by have:=dH (c _ b i);omega) (by have:=dH a;omega),Ug,VB];by_cases hs:UB (l[k-1]'(by omega)).1 x.1=zt
     ·rw[zx (λe=>by rw[jV,hs]at e;cases e),VF,zy a];rw[zy hs]at h;exact .inl ⟨(),by rw[Vi g (by omega)],next a h.symm⟩
     simp_all[zy,jV,zx]
   ·rw[zx a,VF,zx a]
    grind)
 refine Vx t ?_;rw[Uh]
 grind
theorem qx(p q:Vj)(d:Xh p)(e:Xh q):ZM ([p,q],(0,1))=zo (w0 p q):=by
 unfold ZM w0;refine(Xv 0 rfl (x:=p) rfl).trans ((Xv 1 rfl (x:=q) rfl).trans ?_);rw[beq_eq,We,Wj,WH,VM];by_cases b:p.2=q.2
 ·rw[zx (show ¬ ¬ p.2=q.2 by simp[b]),zx (show ¬ p.2≠q.2 by simp[b])];by_cases a:p.2=zt
  ·rw[zy a,d a,e (b ▸ a)];rfl
  ·rw[zx a,WH,Xb];by_cases c:p.1=q.1
   ·rw[zy c,zx (by simp[c])];rfl
   simp_all
 simp_all
theorem cY(p q:Vj)(n:Nat)(k:Int)(h:2<=k)(a:k<=100):N7 Vp (n+1) ([p,q],k)=zo (k-2,0):=by
 show Vp (N7 Vp n) ([p,q],k)=_;unfold Vp;show br (TM k 2) (λ_=>zo (Tp .i64 k 2,0)) _=_;rw[VB,zy h,UU (by omega)]
theorem dR(p q:Vj)(a:Xh p)(b:Xh q):YZ ([p,q],1)=zo (if w0 p q=zt then(0,1)else(1,0)):=by
 show Vp (N7 Vp 99) ([p,q],1)=_;unfold Vp;show br (TM (1:Int) 2) (λ_=>zo (Tp .i64 (1:Int) 2,0)) (λ_=>bd (N7 Vp (98+1) ([p,q],2)) λc=>bd (N7 Vp (98+1) ([p,q],3)) _)=_;rw[VB,zx (by omega),cY p q 98 2 (by omega) (by omega),Ug,cY p q 98 3 (by omega) (by omega),Ug]
 grind [qx,Ug,VM]
theorem qq(p q:Vj)(a:Xh p)(c:Xh q):ZL [p,q]=zo (Tt p q):=by
 unfold ZL;refine Eq.trans (b:=bd (loop _ (1,([p,q],([0,0],0)))) _) rfl ?_;refine Vx (x:=(0,((2,([p,q],([0,if w0 p q=zt then 1 else 0],0))),()))) (Wx (n:=2) (by omega) ((V7 (s':=(2,([p,q],([0,if w0 p q=zt then 1 else 0],0)))) ?_).trans (WG rfl))) ?_
 ·show bd (YZ ([p,q],1)) _=_;rw[dR p q a c,Ug];refine(ah 1 rfl (x:=(0:Int)) rfl).trans ?_;cases h:w0 p q<;>rfl
 grind [Tt,dR,Ug]
theorem kG{l:List Vj}(h:∀ k∈l,Xh k)(d:l≠[])(e:l.length<=32):Yt l=zo 0:=by
 unfold Yt;simp only[Vd,Vc];rw[VA,VC,zx (by simp_all),zx (by omega)]
 rw[WQ (l:=l) (σ:=Unit) (s:=((0:Int),(0:Int))) (λk _=>((k:Int),(0:Int))) (λ_ _ _=>True) (λ_ _ _=>(1,(((l.length:Int),0),()))) () rfl (by omega) trivial (λc _=>by
  simp only;rw[re];rfl) (λk x m c _ a b _=>⟨(),by
   simp only;rw[rl b,UN,VZ,U0 a,VM,Vi a (by omega)];by_cases hd:x.2=zt
   ·rw[zy hd,VZ,U0 a,WH,Xb,zy (h x (bl a) hd)]
   simp_all,trivial,rfl⟩),Ug]
 rfl
theorem jj(p q:Vj)(a:Xh p)(b:Xh q):YD [p,q]=zo (Tt p q,0):=by
 unfold YD;rw[kG (by grind) (by simp) (by simp),Ug,VF,zy rfl,qq p q a b,Ug]
end
section
open Go Sv
theorem Y7:WV=V4:=rfl
theorem dT:ZK=Vn:=rfl
theorem iJ(l m:List Vj)(d:l.length<=9223372036854775806)(h:l.length=m.length):∃ r,loop (λs1=>br (Uv s1.1 (l.length:Int)) (λ_=>TS s1.1 λj=>ix l j λb=>TS s1.1 λn=>ix m n λc=>br (IR (Of (seq b.1 c.1) (Of (Sv.beq b.2 c.2) zt))) (λ_=>zo (LR.dn ((0:Nat),((s1.1,zf),())))) λ_=>zo (.nx (Tk .i64 s1.1 1,s1.2))) λ_=>zo (.dn ((1,(s1,()))))) ((0:Int),zf)=zo r/\((l=m/\r.1=1)\/(l≠m/\r.1=0/\r.2.1.2=zf)):=by
 refine Zx l m h d (λk x y a i=> ?_) (by simp only;rw[re];rfl);have g:=(a8.1 a).1
 have f:∀ {β:Type} (u v:Unit->Option β),br (IR (Of (seq x.1 y.1) (Of (Sv.beq x.2 y.2) zt))) u v=if x=y then v ()else u ():=by
  intro β u v;rw[bX,aJ,beq_eq,Z6,We,Wj]
  grind
 constructor
 ·intro e;simp only;rw[rl g,UN,VZ,U0 a,VZ,U0 i,f,zy e,Ve (by omega)]
 simp_all[rl,UN,VZ,U0,zx]
theorem dU(s t:XL)(g:s.1.length<=1000)(h:s.2.1.length<=1000):YY (s,t)=zo (decide (s=t)):=by
 obtain⟨b,d,j⟩:=s;obtain⟨c,f,k⟩:=t;simp only at g h;unfold YY;simp only[Vd,Vc];rw[VF];by_cases e1:(b.length:Int)=(c.length:Int);rotate_left
 ·rw[zx e1];have:¬ b=c:=λe=>e1 (by rw[e]);simp[this]
 rw[zy e1,VF];by_cases e2:j=k;rotate_left
 ·simp_all
 rw[zy e2,dT,ao _ _ (by omega),Ug,We,Wj];by_cases e3:d=f;rotate_left
 ·simp_all
 rw[zx (show ¬ ¬ d=f by simp[e3])];obtain⟨r,i,a⟩:=iJ b c (by omega) (by omega);refine Vx i ?_;rw[Uh];rcases a with⟨e,a⟩|⟨e,a,l⟩<;>simp_all
theorem gK(s t:Ww)(u:s.1.length<=1000)(g:∀ l∈s.1,l.length<=1000000)(w:s.2.1.length<=1000)(h:s.2.2.1.length<=1000)(i:s.2.2.2.1.length<=1000):ZO (s,t)=zo (decide (s=t)):=by
 obtain⟨a,n,o⟩:=s;obtain⟨c,p,q⟩:=t;simp only at u g w h i;unfold ZO;simp only[Vd,Vc];rw[VF];by_cases e1:(a.length:Int)=(c.length:Int);rotate_left
 ·rw[zx e1];have:¬ a=c:=λe=>e1 (by rw[e]);simp[this]
 rw[zy e1,dT,ao _ _ (by omega),Ug,We,Wj];by_cases e2:n=p;rotate_left
 ·simp_all
 rw[zx (show ¬ ¬ n=p by simp[e2]),dU _ _ h i,Ug,We,Wj];by_cases e3:o=q;rotate_left
 ·simp_all
 rw[zx (show ¬ ¬ o=q by simp[e3])]
 obtain⟨r,C,d⟩:=Zx a c (by omega) (by omega) (f:=λs2=>br (Uv s2.1 (a.length:Int)) (λ_=>TS s2.1 λA=>ix a A λE=>TS s2.1 λB=>ix c B λF=>bd (WV (E,F)) λD=>br (IR D) (λ_=>zo (.dn ((0,((s2.1,zf),()))))) λ_=>zo (.nx (Tk .i64 s2.1 1,s2.2))) λ_=>zo (.dn ((1,(s2,()))))) (λk x y b m=>by
   have j:=(a8.1 b).1;have z:=g x (bl b);constructor
   ·intro e;simp only;rw[rl j,UN,VZ,U0 b,VZ,U0 m,Y7,X2 _ _ (by omega),Ug,We,Wj,zx (by simp[e]),Ve (by omega)]
   ·intro e;simp only
    rw[rl j,UN,VZ,U0 b,VZ,U0 m,Y7,X2 _ _ (by omega),Ug,We,Wj,zy e]) (by simp only;rw[re];rfl)
 refine Vx C ?_;rw[Uh];rcases d with⟨e,d⟩|⟨e,d,G⟩<;>simp_all
theorem iK(x y:ZH)(a:x.1.1.length<=1000)(b:∀ l∈x.1.1,l.length<=1000000)(c:x.1.2.1.length<=1000)(d:x.1.2.2.1.length<=1000)(e:x.1.2.2.2.1.length<=1000)(f:x.2.2.1.length<=1000000):WE (x,y)=zo (decide (x=y)):=by
 obtain⟨i,⟨xs,k,h⟩,g,j⟩:=x;obtain⟨n,⟨q,r,m⟩,p,o⟩:=y;simp only at a b c d e f;unfold WE;simp only[gK _ _ a b c d e,Y7,X2 _ _ (show g.length<=9223372036854775806 by omega),Ug,Wj,XS,aJ,beq_eq,bX,Z6]
 repeat' split
 all_goals simp_all
section
variable{a b:List VY}(va:VL a)(vb:VL b)
include va vb
theorem bS:Xa [a,b]=zo (0,0):=by
 have c:=va.len;have d:=vb.len;unfold Xa;refine Eq.trans (b:=bd (loop _ (0,(0,0))) _) rfl ?_;refine Vx (x:=(1,((0,(0,2)),()))) (WU (s1:=(0,(0,1))) (s2:=(0,(0,2))) ?_ ?_ rfl) rfl
 ·refine(bG 0 rfl rfl (x:=a) rfl).trans ?_;rw[Ym _ (by omega),aV va,Ug];rfl
 ·refine(bG 1 rfl rfl (x:=b) rfl).trans ?_;rw[Ym _ (by omega),aV vb,Ug];rfl
theorem aH{i j:Nat}(hi:i<=a.length)(g:j<=b.length):XZ ([a,b],[(i:Int),(j:Int)])=zo (if i=a.length/\j=b.length then -1 else if ZV a b i j=zt then 0 else 1):=by
 have k:=va.len;have l:=vb.len;unfold XZ;simp only[Vd,Vc];refine Vx (x:=(0,((if i=a.length/\j=b.length then -1 else if ZV a b i j=zt then 0 else 1,2),()))) (WU (s1:=(if i=a.length then -1 else 0,1)) (s2:=(if i=a.length/\j=b.length then -1 else if ZV a b i j=zt then 0 else 1,2)) ?_ ?_ rfl) rfl
 ·refine(bG 0 rfl rfl (x:=(i:Int)) rfl).trans ((Xv 0 rfl (x:=a) rfl).trans ?_);rw[VE];by_cases h:i=a.length
  ·rw[zx (by omega),zy h];rfl
  ·rw[zy (by omega),zx h];rfl
 ·refine(bG 1 rfl rfl (x:=(j:Int)) rfl).trans ((Xv 1 rfl (x:=b) rfl).trans ?_);rw[VE];by_cases h:j=b.length
  ·rw[zx (by omega)];by_cases c:i=a.length
   ·rw[zy c,zy ⟨c,h⟩];rfl
   ·rw[zx c,zx (λe=>c e.1)];have d:a[i]?=zo (a[i]'(by omega)):=by simp
    rw[jM d (a9 (by omega))];rfl
  ·have f:b[j]?=zo (b[j]'(by omega)):=by simp
   rw[zy (by omega),VE,zx (λe:i=a.length/\j=b.length=>h e.2)];by_cases c:i=a.length
   ·rw[zy c,zy (by omega),jN (a9 (by omega)) f];rfl
   ·rw[zx c,zx (by omega)];have d:a[i]?=zo (a[i]'(by omega)):=by simp
    refine(Xv 1 rfl (x:=b) rfl).trans ((Xv 1 rfl (x:=(j:Int)) rfl).trans ((Xv j rfl f).trans ((Xv 0 rfl (x:=a) rfl).trans ((Xv 0 rfl (x:=(i:Int)) rfl).trans ((Xv i rfl d).trans ?_)))));rw[Yi,dE d f];cases hs:UB (b[j]'(by omega)).1 (a[i]'(by omega)).1<;>rfl
theorem aI{i j:Nat}(hi:i<=a.length)(e:j<=b.length):W7 ([a,b],[(i:Int),(j:Int)])=zo (bV a b i j):=by
 have f:=va.len;have g:=vb.len;unfold W7;simp only[Vd,Vc];rw[Vz (show[a,b].length<=1048576 from(show 2<=1048576 by omega)),Vz (show[(i:Int),(j:Int)].length<=1048576 from(show 2<=1048576 by omega))];refine Vx (x:=(0,((2,[kx a i,kx b j]),()))) (WU (s1:=(1,[kx a i])) (s2:=(2,[kx a i,kx b j])) ?_ ?_ rfl) ?_
 ·refine(bG 0 rfl rfl (x:=(i:Int)) rfl).trans ((Xv 0 rfl (x:=a) rfl).trans ?_);rw[XS,We,Wj];by_cases h:i=a.length
  ·have c:((i:Int)=(a.length:Int)):=by omega
   rw[zx (show ¬ ¬ ((i:Int)=(a.length:Int)) by simp[c]),bh (a9 (by omega))];simp only[c,decide_true];rfl
  ·have d:a[i]?=zo (a[i]'(by omega)):=by simp
   have c:¬ ((i:Int)=(a.length:Int)):=by omega
   rw[zy c];refine(Xv 0 rfl (x:=a) rfl).trans ((Xv 0 rfl (x:=(i:Int)) rfl).trans ((Xv i rfl d).trans ?_));rw[Yf d];simp only[c,decide_false];rfl
 ·refine(bG 1 rfl rfl (x:=(j:Int)) rfl).trans ((Xv 1 rfl (x:=b) rfl).trans ?_);rw[XS,We,Wj];by_cases h:j=b.length
  ·have c:((j:Int)=(b.length:Int)):=by omega
   rw[zx (show ¬ ¬ ((j:Int)=(b.length:Int)) by simp[c]),bh (l:=b) (i:=j) (a9 (by omega))];simp only[c,decide_true];rfl
  ·have d:b[j]?=zo (b[j]'(by omega)):=by simp
   have c:¬ ((j:Int)=(b.length:Int)):=by omega
   rw[zy c];refine(Xv 1 rfl (x:=b) rfl).trans ((Xv 1 rfl (x:=(j:Int)) rfl).trans ((Xv j rfl d).trans ?_));rw[Yf (l:=b) (i:=j) d];simp only[c,decide_false];rfl
 ·show bd (YD [kx a i,kx b j]) _=_;rw[jj _ _ (WC _ _) (WC _ _)];rfl
theorem ja{i:Nat}{l:List VY}(h:i≠0)(hi:i<=l.length):∃ x,l[i-1]?=zo x:=⟨l[i-1]'(by omega),by simp⟩
theorem cM{i j:Nat}(I:Inv a b i j):XY (bV a b i j)=zo (0,0):=by
 have r:=va.len;have s:=vb.len;have hi:=I.ia;have k:=I.jb;unfold XY;rw[show(bV a b i j).1=[a,b]from rfl,bS va vb,Ug,VF,zy rfl];rw[show(bV a b i j).2.1=[(i:Int),(j:Int)]from rfl,VF,zy (show LN (AQ [(i:Int),(j:Int)])=LN (AQ [a,b])from rfl)];refine Vx (x:=(1,((0,(0,2)),()))) (WU (s1:=(0,(0,1))) (s2:=(0,(0,2))) ?_ ?_ rfl) ?_
 ·refine(bG 0 rfl rfl (x:=(i:Int)) rfl).trans ?_;rw[VE,zx (by omega)];refine(Xv 0 rfl (x:=(i:Int)) rfl).trans ((Xv 0 rfl (x:=a) rfl).trans ?_);rw[VC,zx (by simp only[Vd,Vc];omega)];rfl
 ·refine(bG 1 rfl rfl (x:=(j:Int)) rfl).trans ?_;rw[VE,zx (by omega)];refine(Xv 1 rfl (x:=(j:Int)) rfl).trans ((Xv 1 rfl (x:=b) rfl).trans ?_);rw[VC,zx (by simp only[Vd,Vc];omega)];rfl
 rw[show neq ((1:Nat),(((0:Int),((0:Int),(2:Int))),())).1 0=zf from rfl,Ta,aI va vb hi k,Ug,dU (bV a b i j).2.2 (bV a b i j).2.2 (show 2<=1000 by omega) (show 2<=1000 by omega),Ug,We,Wj,zx (show ¬ ¬ (bV a b i j).2.2=(bV a b i j).2.2 by simp),aH va vb hi k,Ug];by_cases hd:i=a.length/\j=b.length
 ·rw[zy hd];rfl
 rw[zx hd];cases g:ZV a b i j with
 |true=>
  rw[zy rfl]
  have m:i<a.length:=by
   refine ml λh'=> ?_;have p:j<b.length:=by omega
   simp_all[jN,a9]
  have e:a[i]?=zo (a[i]'m):=by simp
  refine Vx (x:=(1,((0,(0,2)),()))) (WU (s1:=(0,(0,1))) (s2:=(0,(0,2))) ?_ ?_ rfl) rfl
  ·show br (Uv (0:Int) 2) _ _=_;rw[VE,zy (by omega),VB,zy (by omega)];refine(Xv 0 rfl (x:=(i:Int)) rfl).trans ?_;rw[VA];by_cases f:i=0
   ·rw[zy (by omega)];rfl
   ·rw[zx (by omega)];obtain⟨y,d⟩:=ja va vb (l:=a) f hi;refine(Xv 0 rfl (x:=a) rfl).trans ((Xv 0 rfl (x:=(i:Int)) rfl).trans ?_);rw[show Tp .i64 (i:Int) 1=((i-1:Nat):Int) by rw[UU (by omega)];omega,VZ,U0 d];refine(Xv 0 rfl (x:=a) rfl).trans ((Xv 0 rfl (x:=(i:Int)) rfl).trans ((Xv i rfl e).trans ?_));have c:=va.lt d (show a[i-1+1]?=zo _ by rw[show i-1+1=i by omega];exact e);rw[Yi,zx (by rw[WR c];simp),Xb,zx (Zs c)];rfl
  ·show br (Uv (1:Int) 2) _ _=_;rw[VE,zy (by omega),VB,zy (by omega)];refine(Xv 1 rfl (x:=(j:Int)) rfl).trans ?_;rw[VA];by_cases f:j=0
   ·rw[zy (by omega)];rfl
   ·rw[zx (by omega)];obtain⟨y,d⟩:=ja va vb (l:=b) f k;refine(Xv 1 rfl (x:=b) rfl).trans ((Xv 1 rfl (x:=(j:Int)) rfl).trans ?_);rw[show Tp .i64 (j:Int) 1=((j-1:Nat):Int) by rw[UU (by omega)];omega,VZ,U0 d];refine(Xv 0 rfl (x:=a) rfl).trans ((Xv 0 rfl (x:=(i:Int)) rfl).trans ((Xv i rfl e).trans ?_));have c:=I.pb (j-1) (by omega) y _ d e;rw[Yi,zx (by rw[WR c];simp),Xb,zx (Zs c)];rfl
 |false=>
  rw[zx (by simp)]
  have h:j<b.length:=by
   refine ml λh'=> ?_;have o:i<a.length:=by omega
   simp_all[jM]
  have e:b[j]?=zo (b[j]'h):=by simp
  refine Vx (x:=(1,((0,(0,2)),()))) (WU (s1:=(0,(0,1))) (s2:=(0,(0,2))) ?_ ?_ rfl) rfl
  ·show br (Uv (0:Int) 2) _ _=_;rw[VE,zy (by omega),VB,zy (by omega)];refine(Xv 0 rfl (x:=(i:Int)) rfl).trans ?_;rw[VA];by_cases f:i=0
   ·rw[zy (by omega)];rfl
   ·rw[zx (by omega)];obtain⟨y,d⟩:=ja va vb (l:=a) f hi;refine(Xv 0 rfl (x:=a) rfl).trans ((Xv 0 rfl (x:=(i:Int)) rfl).trans ?_);rw[show Tp .i64 (i:Int) 1=((i-1:Nat):Int) by rw[UU (by omega)];omega,VZ,U0 d];refine(Xv 1 rfl (x:=b) rfl).trans ((Xv 1 rfl (x:=(j:Int)) rfl).trans ((Xv j rfl e).trans ?_));have q:=I.pa (i-1) (by omega) y _ d e;rw[Yi,zx (by grind),Xb];by_cases n:y.1=(b[j]'h).1
    ·rw[zy n];rfl
    ·rw[zx n];rfl
  ·show br (Uv (1:Int) 2) _ _=_;rw[VE,zy (by omega),VB,zy (by omega)];refine(Xv 1 rfl (x:=(j:Int)) rfl).trans ?_;rw[VA];by_cases f:j=0
   ·rw[zy (by omega)];rfl
   ·rw[zx (by omega)];obtain⟨y,d⟩:=ja va vb (l:=b) f k;refine(Xv 1 rfl (x:=b) rfl).trans ((Xv 1 rfl (x:=(j:Int)) rfl).trans ?_);rw[show Tp .i64 (j:Int) 1=((j-1:Nat):Int) by rw[UU (by omega)];omega,VZ,U0 d];refine(Xv 1 rfl (x:=b) rfl).trans ((Xv 1 rfl (x:=(j:Int)) rfl).trans ((Xv j rfl e).trans ?_));have c:=vb.lt d (show b[j-1+1]?=zo _ by rw[show j-1+1=j by omega];exact e);rw[Yi,zx (by rw[WR c];simp),Xb,zx (Zs c)];rfl
end
end
section
open Go Sv
section
variable{a b:List VY}(va:VL a)(vb:VL b)
include va vb
theorem mB{n:Nat}{x:VY}(h:n<a.length+b.length)(d:cX a b n=zo x):X3 (bJ a b n)=zo (x,((dW a b n:Int),(bJ a b (n+1),0))):=by
 obtain⟨i,hs⟩:=Xx va vb (n:=n) (by omega);obtain⟨j,k⟩:=Xx va vb (n:=n+1) (by omega);have l:=va.len;have m:=vb.len;have e:=i.ia;have f:=i.jb;unfold X3;rw[show bJ a b n=bV a b (pos a b n).1 (pos a b n).2 from rfl,cM va vb i,Ug,VF,zy rfl,show(bV a b (pos a b n).1 (pos a b n).2).1=[a,b]from rfl,show(bV a b (pos a b n).1 (pos a b n).2).2.1=[((pos a b n).1:Int),((pos a b n).2:Int)]from rfl,aH va vb e f,Ug,zx (λhh:(pos a b n).1=a.length/\(pos a b n).2=b.length=>by omega)];unfold cX at d;have c:pos a b (n+1)=if ZV a b (pos a b n).1 (pos a b n).2=zt then((pos a b n).1+1,(pos a b n).2)else((pos a b n).1,(pos a b n).2+1):=rfl
 unfold bJ dW;cases g:ZV a b (pos a b n).1 (pos a b n).2 with
 |true=>
  rw[g,zy rfl]at c;rw[g,zy rfl]at d;have hi:=(a8.1 d).1;rw[zy rfl,VE,zx (by omega),Vz (show AQ [((pos a b n).1:Int),((pos a b n).2:Int)]<=1048576 from(show 2<=1048576 by omega))];refine(ah 0 rfl (x:=((pos a b n).1:Int)) rfl).trans ((ah 0 rfl (x:=((pos a b n).1:Int)) rfl).trans ((Xv 0 rfl (x:=a) rfl).trans ((Xv 0 rfl (x:=((pos a b n).1:Int)) rfl).trans ((Xv _ rfl d).trans ?_))));rw[Ve (by omega),show lset [((pos a b n).1:Int),((pos a b n).2:Int)] 0 (((pos a b n).1+1:Nat):Int)=[(((pos a b n).1+1:Nat):Int),((pos a b n).2:Int)]from rfl,aI va vb (by omega) f,Ug,c];rfl
 |false=>
  rw[g,zx (by simp)]at c;rw[g,zx (by simp)]at d;have hi:=(a8.1 d).1;rw[zx (by simp),VE,zx (by omega),Vz (show AQ [((pos a b n).1:Int),((pos a b n).2:Int)]<=1048576 from(show 2<=1048576 by omega))];refine(ah 1 rfl (x:=((pos a b n).2:Int)) rfl).trans ((ah 1 rfl (x:=((pos a b n).2:Int)) rfl).trans ((Xv 1 rfl (x:=b) rfl).trans ((Xv 1 rfl (x:=((pos a b n).2:Int)) rfl).trans ((Xv _ rfl d).trans ?_))));rw[Ve (by omega),show lset [((pos a b n).1:Int),((pos a b n).2:Int)] 1 (((pos a b n).2+1:Nat):Int)=[((pos a b n).1:Int),(((pos a b n).2+1:Nat):Int)]from rfl,aI va vb e (by omega),Ug,c];rfl
theorem l9{n:Nat}(h:n<=a.length+b.length):ZN (bJ a b n)=zo (((a.length+b.length-n:Nat):Int),0):=by
 obtain⟨c,hs⟩:=Xx va vb (n:=n) h;have f:=va.len;have g:=vb.len;have d:=c.ia;have e:=c.jb;unfold ZN;rw[show bJ a b n=bV a b (pos a b n).1 (pos a b n).2 from rfl,cM va vb c,Ug,VF,zy rfl];refine Vx (x:=(0,((2,((a.length+b.length-n:Nat):Int)),()))) (WU (s1:=(1,(a.length:Int)-((pos a b n).1:Int))) (s2:=(2,((a.length+b.length-n:Nat):Int))) ?_ ?_ rfl) rfl
 ·refine(bG 0 rfl rfl (x:=a) rfl).trans ((Xv 0 rfl (x:=((pos a b n).1:Int)) rfl).trans ?_);simp only[Vd,Vc];rw[show Tk .i64 (0:Int) (a.length:Int)=(a.length:Int) by rw[US (by omega),wl],UU (by omega)];rfl
 ·refine(bG 1 rfl rfl (x:=b) rfl).trans ((Xv 1 rfl (x:=((pos a b n).2:Int)) rfl).trans ?_)
  grind [Vd,Vc,US,UU,pos]
theorem jW:YM [a,b]=zo (Vo a b (a.length+b.length),(ZX a b (a.length+b.length),0)):=by
 have l:=va.len;have m:=vb.len;unfold YM;rw[bS va vb,Ug,VF,zy rfl];refine Eq.trans (b:=bd (loop _ ([],([],([],(0,([],[0,0])))))) _) rfl ?_
 refine Vx (x:=(0,((ZX a b (a.length+b.length),(Vo a b (a.length+b.length),0)),())))
  (Zy (λk=>([],(Vo a b k,([],(0,(ZX a b k,[((pos a b k).1:Int),((pos a b k).2:Int)])))))) 0 (a.length+b.length) rfl (by omega) (by omega) (λk _ h=> ?_) ?_) rfl
 ·obtain⟨x,c,_⟩:=XH va vb (n:=k) h;obtain⟨d,hs⟩:=Xx va vb (n:=k) (by omega);have i:(Vo a b k).length=k:=Wg va vb (by omega);have j:=cB a b k;simp only;rw[aH va vb d.ia d.jb,Ug,zx (λhh:(pos a b k).1=a.length/\(pos a b k).2=b.length=>by omega)];rw[YL va vb c];unfold cX at c;rw[show ZX a b (k+1)=ZX a b k++[(dW a b k:Int)]from rfl];unfold dW;rw[show pos a b (k+1)=if ZV a b (pos a b k).1 (pos a b k).2=zt then((pos a b k).1+1,(pos a b k).2)else((pos a b k).1,(pos a b k).2+1)from rfl]
  have e:∀ {β:Type} (y:VY) (q:Unit->Option β),gd (B5 (A0 (AQ (Vo a b k)) (AQ [y])) 1048576) q=q ():=λy q=>Vz (by grind [A0,AQ,dc,eb]) q;have f:∀ {β:Type} (y:Int) (q:Unit->Option β),gd (B5 (A0 (AQ (ZX a b k)) (AQ [y])) 1048576) q=q ():=λy q=>Vz (by grind [A0,AQ,dc,eb]) q;cases g:ZV a b (pos a b k).1 (pos a b k).2 with
  |true=>
   rw[g,zy rfl]at c;have hi:=(a8.1 c).1;simp only[if_true];rw[VE,zx (by omega)];refine(Xv 0 rfl (x:=a) rfl).trans ((ah 0 rfl (x:=((pos a b k).1:Int)) rfl).trans ((Xv _ rfl c).trans ?_));rw[e,f];refine(ah 0 rfl (x:=((pos a b k).1:Int)) rfl).trans ((ah 0 rfl (x:=((pos a b k).1:Int)) rfl).trans ?_);rw[Ve (by omega)];rfl
  |false=>
   rw[g,zx (by simp)]at c;have hi:=(a8.1 c).1;simp only[lc,if_false];rw[VE,zx (by omega)];refine(Xv 1 rfl (x:=b) rfl).trans ((ah 1 rfl (x:=((pos a b k).2:Int)) rfl).trans ((Xv _ rfl c).trans ?_));rw[e,f];refine(ah 1 rfl (x:=((pos a b k).2:Int)) rfl).trans ((ah 1 rfl (x:=((pos a b k).2:Int)) rfl).trans ?_);rw[Ve (by omega)];rfl
 ·obtain⟨d,hs⟩:=Xx va vb (n:=a.length+b.length) (ed _);simp only;rw[aH va vb d.ia d.jb,Ug,zy (show(pos a b (a.length+b.length)).1=a.length/\(pos a b (a.length+b.length)).2=b.length by have:=d.ia;have:=d.jb;omega),VE,zy (by omega)]
end
theorem gP{s:WL}(a:s.2.1.length<=32)(b:s.1=zf->s.2.1=[]):Yu s=zo 0:=by
 unfold Yu;rw[VC,zx (by simp only[Vd,aM];omega),WH,VM]
 simp_all[zx,WH,Xb,zy]
theorem iM{s:WL}{x:VY}(e:s.2.1.length<=32)(f:s.1=zf->s.2.1=[])(g:kE x=0)(a:s.1=zt->UB x.1 s.2.1=zf):ZP (s,x)=zo (keep s x,((zt,(x.1,s.2.2)),0)):=by
 unfold ZP keep;rw[gP e f,Ug,VA,zy rfl,aG,g,Ug,VA,zy rfl];obtain⟨s1,s2,c⟩:=s;obtain⟨h,i,d,j⟩:=x;simp only at a ⊢;cases s1 with
 |true=>
  have:=a rfl;simp only[UN,Yi,this,lc,if_false,VF,if_true,WH,Xb];by_cases b:h=s2
  ·simp[b,Ta]
  ·simp only[b,if_false,decide_false];cases c<;>cases d<;>rfl
 |false=>
  simp only[Ta,VF,if_true,WH];cases c<;>cases d<;>rfl
theorem iH{l:List VY}{b:Bool}(r:l.length<=20000)(o:bu (zf,([],b)) l):Ya (l,b)=zo (Xj (zf,([],b)) l,(0,0)):=by
 unfold Ya W8;simp only[Vd,Vc];rw[VC,zx (by omega),Ug]
 rw[WQ (l:=l) (σ:=WL×List VY) (s:=(0,(0,([],([],(0,(zf,([],b)))))))) (λk a=>((0:Int),((k:Int),(([]:List VY),(a.2,((0:Int),a.1))))))
  (λm k a=>bu a.1 m/\a.1.2.1.length<=32/\(a.1.1=zf->a.1.2.1=[])/\a.2.length<=k/\k+m.length=l.length)
  (λm k a=>(1,((0,((l.length:Int),([],(a.2++Xj a.1 m,(0,WX a.1 m))))),()))) ((zf,([],b)),[]) rfl (by omega) ⟨o,by simp,λ_=>rfl,by simp,by simp⟩ ?_ ?_,Ug]
 ·simp;rfl
 ·simp_all[re,Ta,WX,Xj]
 ·rintro k x m ⟨s,out⟩ t j n ⟨⟨c,d,e⟩,f,g,i,p⟩;simp only at c d e f g i ⊢;refine⟨((zt,(x.1,s.2.2)),out++if keep s x=zt then[x]else[]),?_,⟨e,dH c,(λh=>by cases h),?_,by grind⟩,?_⟩
  ·rw[rl n,UN,VZ,U0 j,iM f g c d,Ug,VF,zy rfl,VM,VZ,U0 j];have q:∀ {β:Type} (k:Unit->Option β),gd (B5 (A0 out.length [x].length) 1048576) k=k ():=λk=>jL i (by omega) x k
   grind [Vi,Ir]
  ·grind
  grind [WX,Xj,hI]
section
variable{a b:List VY}(va:VL a)(vb:VL b)
include va vb
theorem dt(c:Bool){n:Nat}(h:n<=a.length+b.length):XE (Vo a b n,c)=zo (Xj (s0 c) (Vo a b n),WX (s0 c) (Vo a b n)):=by
 have f:=va.len;have g:=vb.len;have d:(Vo a b n).length=n:=Wg va vb h;unfold XE;simp only[Vd,Vc];rw[iH (by omega) (Yn va vb c h),Ug];unfold W8;rw[Ug,VC,d];cases n with
 |zero=>rfl
 |succ m=>
  obtain⟨x,e,_⟩:=XH va vb (n:=m) (by omega);rw[zy (by omega),show Tp .i64 ((m+1:Nat):Int) 1=(m:Int) by rw[UU (by omega)];omega,VZ,U0 (x:=x) (by grind [Z0]),ae va vb c e]
theorem gO(c:Bool){n:Nat}(h:n<=a.length+b.length):X4 (XC a b c n)=zo (n:Int):=by
 obtain⟨d,hs⟩:=Xx va vb (n:=n) h;have e:=va.len;have f:=vb.len;unfold X4;refine Vx (x:=(0,(((n:Int),2),()))) (WU (s1:=(((pos a b n).1:Int),1)) (s2:=((n:Int),2)) ?_ ?_ rfl) rfl
 ·refine(bG 0 rfl rfl (x:=((pos a b n).1:Int)) rfl).trans ?_;show zo (LR.nx (Tk .i64 0 ((pos a b n).1:Int),(1:Int)))=_;rw[US (by omega),wl]
 ·refine(bG 1 rfl rfl (x:=((pos a b n).2:Int)) rfl).trans ?_
  grind [US,pos]
theorem gQ(c:Bool){n:Nat}(h:n<=a.length+b.length):Yw (XC a b c n)=zo 0:=by
 obtain⟨d,hs⟩:=Xx va vb (n:=n) h;have g:=va.len;have i:=vb.len;have e:=Zt (s0 c) (Vo a b n);have f:(Vo a b n).length=n:=Wg va vb h;unfold Yw;rw[show(XC a b c n).1=bV a b (pos a b n).1 (pos a b n).2 from rfl,cM va vb d,Ug,VF,zy rfl,gO va vb c h,Ug];simp only[Vd,Vc];rw[show(XC a b c n).2.2.1=Xj (s0 c) (Vo a b n)from rfl,show(XC a b c n).2.2.2=(n:Int)from rfl,show(XC a b c n).2.1=WX (s0 c) (Vo a b n)from rfl,VC,zx (by omega),VC,zx (by omega),VF,zy rfl];rw[show(bV a b (pos a b n).1 (pos a b n).2).1=[a,b]from rfl,jW va vb,Ug,VZ];rw[Vz (by simp_all[Wg,ed]),Vz (hU _)];rw[show Db (Vo a b (a.length+b.length)) 0 n=Vo a b n from by simp_all[Db,sp,ll,ZG],Yg];rw[show(s0 c).2.2=c from rfl,dt va vb c h,Ug,Y7,X2 _ _ (by omega),Ug,We,Wj,zx (by simp),Yg,ZI,ZI,aK];rfl
theorem bT(c:Bool){n:Nat}(h:n<=a.length+b.length):V1 (XC a b c n)=zo (((a.length+b.length-n:Nat):Int),0):=by
 unfold V1;rw[gQ va vb c h,Ug,VF,zy rfl,show(XC a b c n).1=bJ a b n from rfl,l9 va vb h];rfl
theorem iN(c:Bool){n:Nat}(h:n<=a.length+b.length){k:Nat}:WF (XC a b c n,(k:Int))=zo (XC a b c (n+min k (a.length+b.length-n)),(((min k (a.length+b.length-n):Nat):Int),0)):=by
 have i:=va.len;have l:=vb.len;obtain⟨u,e⟩:∃ u,u=min k (a.length+b.length-n):=⟨_,rfl⟩
 have d:VO (k:Int) ((a.length+b.length-n:Nat):Int)=(u:Int):=by
  unfold VO;omega
 rw[<- e];unfold WF;rw[bT va vb c h,Ug,VA,zy rfl];simp only[d,Vd,Vc];rw[VE,zx (by omega),VF,zy rfl,gO va vb c h,Ug,US (by omega),VC,zx (by omega)]
 refine Vx (x:=(0,(((u:Int),((bJ a b (n+u)).1,((bJ a b (n+u)).2.1,((bJ a b (n+u)).2.2.1,((bJ a b (n+u)).2.2.2.1,((bJ a b (n+u)).2.2.2.2,((XC a b c n).2.1.1,((XC a b c n).2.1.2.1,((XC a b c n).2.1.2.2,(XC a b c n).2.2))))))))),())))
  (Zy (λj=>((j:Int),((bJ a b (n+j)).1,((bJ a b (n+j)).2.1,((bJ a b (n+j)).2.2.1,((bJ a b (n+j)).2.2.2.1,((bJ a b (n+j)).2.2.2.2,((XC a b c n).2.1.1,((XC a b c n).2.1.2.1,((XC a b c n).2.1.2.2,(XC a b c n).2.2)))))))))) 0 u rfl (by omega) (by omega) (λj _ g=> ?_) ?_) ?_
 ·obtain⟨y,f,_⟩:=XH va vb (n:=n+j) (by omega);show br (Uv (j:Int) (u:Int)) _ _=_;rw[VE,zy (by omega)];show bd (X3 (bJ a b (n+j))) _=_;rw[mB va vb (by omega) f,Ug,Ve (by omega)];rfl
 ·simp_all[VE,zx]
 ·rw[show(XC a b c n).1.1=[a,b]from rfl,jW va vb,Ug,show(XC a b c n).2.2.2=(n:Int)from rfl,show Tk .i64 (n:Int) (u:Int)=((n+u:Nat):Int) by rw[US (by omega)];omega,VZ];rw[Vz (by rw[Wg va vb (ed _)];omega),Vz (hU _)];rw[show Db (Vo a b (a.length+b.length)) 0 (n+u)=Vo a b (n+u)from by unfold Db;rw[sp,ll];exact ZG va vb (by omega),show(XC a b c n).2.1.2.2=c from Yg _ _,dt va vb c (by omega),Ug];rfl
end
end
section
open Go Sv
theorem eJ(B:Int)(i:Nat):WM B (i+1)=2*WM B i:=by
 grind [WM,Int.pow_succ,Int.mul_assoc,Int.mul_comm]
theorem dV{B:Int}{i:Nat}(a:1<=B)(b:B<=16)(hi:i<=12):XQ (B,(i:Int))=zo (WM B i):=by
 unfold XQ;refine Vx (x:=(0,((WM B i,(i:Int)),()))) (bm (λk=>(WM B k,(k:Int))) i (by simp[WM]) (by omega) (λk d=> ?_) ?_) rfl
 ·have c:=gX a b (show k<=12 by omega);simp only;rw[VE,zy (by omega),UT (by omega),Ve (by omega),eJ]
 simp_all[VE,zx]
theorem ru(r:Vt)(a:r.2.length<=9223372036854775807):Ys r=zo (if r.1<1\/r.1>1000000 then(-1,7)else Xl r.2):=by
 grind [Ys,VE,VC,Ym,Ug]
theorem mH(r:Vt)(most:Int)(a:List Int)(p:r.2.length<=9223372036854775807)(hi:a.length<=1048576):X5 (r,(most,a))=zo (kR a most r):=by
 unfold X5 kR;rw[ru r (by omega),Ug];simp only[Vd,Vc];by_cases h:r.1<1\/r.1>1000000
 ·rw[zy h,zy h];rfl
 rw[zx h,zx h,VF];by_cases b:(Xl r.2).2=0;rotate_left
 ·simp_all
 rw[zy b,zx (show ¬ (Xl r.2).2≠0 by simp[b]),VA,VC];by_cases g:r.2.length=0
 ·simp_all
 rw[zx (by omega),zx g];by_cases c:(r.2.length:Int)>most
 ·simp_all
 rw[zx c,zx c]
 obtain⟨q,n,t⟩:=Xd (l:=a) (σ:=Unit) (s:=((0:Int),(0:Int))) (λk _=>((k:Int),(0:Int))) (λm k _=>r.1∈a<->r.1∈m) (λ(q:Nat×((Int×Int)×Unit))=>(q.1=1/\r.1 ∉ a)\/(q.1=0/\r.1∈a/\q.2.1.2=8))
  (f:=λs1=>br (Uv s1.1 (a.length:Int)) (λ_=>TS s1.1 λj=>ix a j λo=>br (PW o r.1) (λ_=>zo (.dn ((0,((s1.1,8),()))))) λ_=>zo (.nx (Tk .i64 s1.1 1,s1.2))) λ_=>zo (.dn ((1,(s1,())))))
  () rfl (by omega) Iff.rfl (λ_ h=>⟨_,by simp only;rw[re];rfl,.inl ⟨rfl,by grind⟩⟩) (λk x m _ hd d i h=>by
   simp only;rw[rl i,UN,VZ,U0 d,VA];by_cases e:x=r.1
   ·simp_all
   ·rw[zx e];exact .inl ⟨(),by rw[Vi d (by omega)],by grind⟩)
 refine Vx n ?_;rw[Uh]
 grind
theorem jc(L:Vb)(hb:L.2.length<=9223372036854775807)(hr:∀ rs∈L.2,rs.length<=9223372036854775807 /\ ∀ r∈rs,r.2.length<=9223372036854775807):W9 L=zo (Wy L):=by
 unfold W9 Wy;simp only[Vd,Vc];rw[VE,VC,VC];by_cases w:L.1<1
 ·simp_all
 rw[zx w];by_cases x:L.1>16
 ·simp_all
 rw[zx x,zx (show ¬ (L.1<1\/L.1>16) by omega)];by_cases Y:(L.2.length:Int)>12
 ·grind
 rw[zx Y,zx (by omega)];have Z:L.2.length<=12:=by omega
 obtain⟨T,M⟩:∃ T,T=az L.1 0 [] L.2:=⟨_,rfl⟩;rw[<- M]
 have z:T=zn->(br (Ut (L.2.length:Int) 0) (λ_=>TS (Tp .i64 (L.2.length:Int) 1) λB=>ix L.2 B λG=>br (PW (G.length:Int) 0) (λ_=>zo ((Tp .i64 (L.2.length:Int) 1,((0:Int),(6:Int))))) λ_=>zo ((0,(0,0)))) λ_=>zo ((0,(0,0))))=zo (if L.2.getLast?=zo []then(((L.2.length-1:Nat):Int),(0,6))else(0,(0,0))):=by
  intro _;rw[VC];by_cases S:L.2=[]
  ·rw[S];rfl
  ·have hp:=en.2 S;rw[zy (by omega),show Tp .i64 (L.2.length:Int) 1=((L.2.length-1:Nat):Int) by rw[UU (by omega)];omega,VZ,i0];have d:L.2[L.2.length-1]?=zo (L.2[L.2.length-1]'(by omega)):=by simp
   rw[U0 d,d,VA];by_cases he:L.2[L.2.length-1]'(by omega)=[]<;>simp_all
 obtain⟨r,E,g⟩:=Xd (l:=L.2) (σ:=List Int) (s:=((0:Int),(([]:List Int),((0:Int),((0:Int),(0:Int)))))) (λi a=>((0:Int),(a,((0:Int),((0:Int),(i:Int))))))
  (λm i a=>az L.1 i a m=T/\a.length<=2*i) (λ(r:Nat×((Int×(List Int×(Int×(Int×Int))))×Unit))=>(r.1=1/\T=zn)\/(r.1=0/\Q1 T r.2.1.1 r.2.1.2.2.1 r.2.1.2.2.2.1/\T≠zn))
  (f:=λ(s0:(Int×((List Int)×(Int×(Int×Int)))))=>br (Uv s0.2.2.2.2 (L.2.length:Int)) (λ_=>TS s0.2.2.2.2 λk1=>ix L.2 k1 λu=>br (Ut (u.length:Int) 2) (λ_=>zo (.dn ((0,((0,(s0.2.1,(s0.2.2.2.2,(3,s0.2.2.2.2)))),()))))) λ_=>bd (loop (λ(b:(Int×((List Int)×(Int×(Int×Int)))))=>br (Uv b.2.2.2.2 (u.length:Int)) (λ_=>TS b.2.2.2.2 λC=>ix u C λI=>bd (XQ (L.1,s0.2.2.2.2)) λF=>bd (X5 ((I,(F,b.2.1)))) λo=>br (TN o 0) (λ_=>zo (.dn ((0,((b.2.2.2.2,(b.2.1,(s0.2.2.2.2,(o,b.2.2.2.2)))),()))))) λ_=>TS b.2.2.2.2 λD=>ix u D λp=>gd (B5 (A0 b.2.1.length [p.1].length) 1048576) λ_=>zo (.nx ((b.1,(Ir b.2.1 [p.1],(b.2.2.1,(b.2.2.2.1,Tk .i64 b.2.2.2.2 1))))))) λ_=>zo (.dn ((1,(b,()))))) ((s0.1,(s0.2.1,(s0.2.2.1,(s0.2.2.2.1,0)))))) λc=>br (neq c.1 0) (λ_=>zo (.dn ((0,((c.2.1.1,(c.2.1.2.1,(c.2.1.2.2.1,(c.2.1.2.2.2.1,s0.2.2.2.2)))),()))))) λ_=>zo (.nx ((c.2.1.1,(c.2.1.2.1,(c.2.1.2.2.1,(c.2.1.2.2.2.1,Tk .i64 s0.2.2.2.2 1))))))) λ_=>zo (.dn ((1,(s0,())))))
  [] rfl (by omega) ⟨M.symm,by simp⟩ (λa h=>by
   refine⟨_,by simp only;rw[re];rfl,.inl ⟨rfl,?_⟩⟩;rw[<- h.1];rfl) (λi rs m a hd d hi h=>by
   obtain⟨h,O⟩:=h;simp only;obtain⟨W,n⟩:=hr rs (bl d);rw[rl hi,UN,VZ,U0 d,VC];unfold az at h;by_cases K:rs.length>2
   ·rw[zy (by omega)];rw[zy K]at h;refine .inr ⟨_,rfl,.inr ⟨rfl,?_,by grind⟩⟩;rw[<- h];exact⟨rfl,rfl,rfl⟩
   rw[zx (by omega)];rw[zx K]at h;obtain⟨U,N⟩:∃ U,U=bC (WM L.1 i) 0 a rs:=⟨_,rfl⟩;rw[<- N]at h
   obtain⟨r,E,g⟩:=Xd (l:=rs) (σ:=Unit) (s:=((0:Int),(a,((0:Int),((0:Int),(0:Int)))))) (λk _=>((0:Int),(a++(rs.take k).map (·.1),((0:Int),((0:Int),(k:Int))))))
    (λm k _=>bC (WM L.1 i) k (a++(rs.take k).map (·.1)) m=U) (λ(r:Nat×((Int×(List Int×(Int×(Int×Int))))×Unit))=>(r.1=1/\U=zn/\r.2.1=(0,(a++rs.map (·.1),(0,(0,(rs.length:Int))))))\/(r.1=0 /\ ∃ k e,U=zo (k,e)/\r.2.1.1=(k:Int)/\r.2.1.2.2.1=(i:Int)/\r.2.1.2.2.2.1=e))
    (f:=λ(b:(Int×((List Int)×(Int×(Int×Int)))))=>br (Uv b.2.2.2.2 (rs.length:Int)) (λ_=>TS b.2.2.2.2 λC=>ix rs C λI=>bd (XQ (L.1,(i:Int))) λF=>bd (X5 ((I,(F,b.2.1)))) λo=>br (TN o 0) (λ_=>zo (.dn ((0,((b.2.2.2.2,(b.2.1,((i:Int),(o,b.2.2.2.2)))),()))))) λ_=>TS b.2.2.2.2 λD=>ix rs D λp=>gd (B5 (A0 b.2.1.length [p.1].length) 1048576) λ_=>zo (.nx ((b.1,(Ir b.2.1 [p.1],(b.2.2.1,(b.2.2.2.1,Tk .i64 b.2.2.2.2 1))))))) λ_=>zo (.dn ((1,(b,())))))
    () (by simp) (by omega) (by simp[N]) (λ_ h=>by
     refine⟨_,by simp only;rw[re];rfl,.inl ⟨rfl,by rw[<- h];rfl,by simp⟩⟩) (λk r m _ hd d X h=>by
     simp only;have hr2:=n r (bl d);have A:(rs.take (k+1)).map (·.1)=(rs.take k).map (·.1)++[r.1]:=by grind
     have P:(a++(rs.take k).map (·.1)).length<=100:=by simp;omega
     rw[rl X,UN,VZ,U0 d,dV (by omega) (by omega) (by omega),Ug,mH _ _ _ (by omega) (by omega),Ug,VF];unfold bC at h;by_cases J:kR (a++(rs.take k).map (·.1)) (WM L.1 i) r=0
     ·rw[zx (λhh:kR (a++(rs.take k).map (·.1)) (WM L.1 i) r≠0=>hh J)]at h;rw[zy J,VZ,U0 d,Vz (by grind [A0,dc,eb])];refine .inl ⟨(),?_,?_⟩
      ·rw[Vi d (by omega),A,<- hI];rfl
      simp_all
     grind)
   rw[E,Ug,Uh];rcases g with⟨g,j,q⟩|⟨g,k,e,j,q,q5,q6⟩
   ·rw[zx (show ¬ r.1=0 by omega),q,Vi d (by omega)]
    grind
   ·rw[zy g];rw[j]at h;refine .inr ⟨_,rfl,.inr ⟨rfl,?_,by grind⟩⟩;rw[<- h]
    exact⟨q,q5,q6⟩)
 refine Vx E ?_;rw[Uh];rcases g with⟨g,j⟩|⟨g,j,q⟩
 ·grind
 ·rw[zy g];cases y:T with
  |none=>simp_all
  |some t=>
   obtain⟨i,k,e⟩:=t;rw[y]at j;rw[j.1,j.2.1,j.2.2]
theorem mL(L:Vb)(b:L.2.length<=1048576)(a:∀ rs∈L.2,rs.length<=1048576 /\ ∀ r∈rs,r.2.length<=9223372036854775807):W9 L=zo (Wy L):=jc L (by omega) λrs h=>⟨by grind,(a rs h).2⟩
def Vk(ls:List (List Vt)):List Vt:=ls.flatMap List.reverse
theorem VLev.small{L:Vb}(v:VLev L):L.2.length<=1048576 /\ ∀ rs∈L.2,rs.length<=1048576 /\ ∀ r∈rs,r.2.length<=9223372036854775807:=by
 refine⟨by have:=v.len;omega,λrs a=> ?_⟩;obtain⟨i,hi⟩:=co a;obtain⟨d,b⟩:=v.lev i rs hi;exact⟨by omega,λr c=>by have:=(b r c).vl.len;omega⟩
theorem Zg:∀ (ls:List (List Vt)),(∀ rs∈ls,rs.length<=2)->(Vk ls).length<=2*ls.length
 |[],_=>by simp[Vk]
 |rs::ls,h=>by
  have b:=Zg ls λr a=>h r (by simp[a])
  grind [Vk,List.length_append,List.length_reverse,dc]
theorem VLev.two{L:Vb}(v:VLev L):∀ rs∈L.2,rs.length<=2:=λrs a=>by
 obtain⟨i,hi⟩:=co a;exact(v.lev i rs hi).1
theorem bR{L:Vb}(v:VLev L):XF L=zo (Vk L.2,0):=by
 obtain⟨d,b⟩:=v.small;have e:=v.len;unfold XF;simp only[Vd,Vc];rw[mL _ d b,Yh v,Ug,VF,zy rfl]
 rw[WQ (l:=L.2) (σ:=List Vt) (s:=(([]:List Vt),(0:Int))) (λi m=>(m,(i:Int))) (λls i m=>(∀ rs∈ls,rs.length<=2)/\m.length<=2*i) (λls _ m=>(0,((m++Vk ls,(L.2.length:Int)),()))) [] rfl (by omega) ⟨v.two,by simp⟩ (λm _=>by
  simp_all[re,Ta,Vk]) (λi rs ls m hd a hi h=>by
   refine⟨m++rs.reverse,?_,⟨λr b=>h.1 r (by simp[b]),by grind⟩,by simp[Vk]⟩;have c:=h.1 rs (by simp);have f:m.length<=24:=by omega
   simp only;rw[rl hi,UN,VZ,U0 a];have gg:∀ {β:Type} (z:List Vt) (x:Vt) (k:Unit->Option β),z.length<=100->gd (B5 (A0 z.length [x].length) 1048576) k=k ():=λz x k g=>Vz (by grind [A0,dc,eb]) k
   match rs,c,a with
   |[],_,a=>
    refine Vx (x:=(0,((m,-1),()))) (Wx (n:=1) (by omega) (WG rfl)) ?_;rw[Vi a (by omega)];simp
   |[r0],_,a=>
    refine Vx (x:=(0,((m++[r0],-1),()))) (Wx (n:=2) (by omega) ((V7 (s':=(m++[r0],-1)) ?_).trans (WG rfl))) ?_
    ·show br (TM (0:Int) 0) _ _=_;rw[VB,zy (by omega),VZ,U0 a];refine(Xv 0 rfl (x:=r0) rfl).trans ?_;rw[gg m _ _ (by omega)];rfl
    ·rw[Vi a (by omega)];simp
   |[r0,r1],_,a=>
    refine Vx (x:=(0,((m++[r1]++[r0],-1),()))) (Wx (n:=3) (by omega) ((V7 (s':=(m++[r1],0)) ?_).trans ((V7 (s':=(m++[r1]++[r0],-1)) ?_).trans (WG rfl)))) ?_
    ·show br (TM (1:Int) 0) _ _=_;rw[VB,zy (by omega),VZ,U0 a];refine(Xv 1 rfl (x:=r1) rfl).trans ?_;rw[gg m _ _ (by omega)];rfl
    ·show br (TM (0:Int) 0) _ _=_;rw[VB,zy (by omega),VZ,U0 a];refine(Xv 0 rfl (x:=r0) rfl).trans ?_;rw[gg (m++[r1]) _ _ (by simp;omega)];rfl
    ·rw[Vi a (by omega)];simp),Ug]
 simp
theorem Zf(a b:Int):VP a b=max a b:=by unfold VP;omega
theorem Yo:∀ (l:List Vt) (m:Int),0<=m->l.foldl (λm r=>VP m r.1) m=max m (l.foldl (λm r=>VP m r.1) 0)
 |[],m,h=>by simp;omega
 |r::l,m,h=>by
  have a:=Yo l (VP m r.1) (by rw[Zf];omega);have b:=Yo l (VP 0 r.1) (by rw[Zf];omega);simp only[gM];rw[a,b,Zf,Zf];omega
theorem dg(l:List Vt)(m:Int)(h:0<=m):l.reverse.foldl (λm r=>VP m r.1) m=l.foldl (λm r=>VP m r.1) m:=by
 induction l generalizing m with
 |nil=>rfl
 |cons r l a=>
  rw[List.reverse_cons,List.foldl_append,a m h,gM];simp only[gM,List.foldl_nil]
  grind [Yo,VP,Zf]
theorem ec(l:List Vt)(m:Int)(h:0<=m):0<=l.foldl (λm r=>VP m r.1) m:=by
 rw[Yo l m h];omega
theorem aQ:∀ (ls:List (List Vt)) (m:Int),0<=m->(Vk ls).foldl (λm r=>VP m r.1) m=ls.foldl (λm rs=>rs.foldl (λm r=>VP m r.1) m) m
 |[],m,_=>rfl
 |rs::ls,m,h=>by
  have a:=aQ ls (rs.foldl (λm r=>VP m r.1) m) (ec _ _ h)
  grind [Vk,dg]
theorem fA{L:Vb}(v:VLev L):XG L=zo (X6 L.2):=by
 have b:=v.len;have c:=Zg L.2 v.two;unfold XG;simp only[Vd,Vc];rw[bR v,Ug]
 rw[WQ (l:=Vk L.2) (σ:=Int) (s:=((0:Int),(0:Int))) (λi m=>(m,(i:Int))) (λ_ _ _=>True) (λl _ m=>(0,((l.foldl (λm r=>VP m r.1) m,((Vk L.2).length:Int)),()))) 0 rfl (by omega) trivial (λm _=>by
  simp only;rw[re,Ta];rfl) (λk r l m hd d a _=>⟨VP m r.1,by
   grind [rl,UN,VZ,U0,Vi],trivial,rfl⟩),Ug]
 rw[aQ _ _ (by omega)];rfl
theorem jX{L:Vb}(d:L.2.length<=1000):XJ L=zo (Vr 0 L.2):=by
 unfold XJ;simp only[Vd,Vc]
 rw[WQ (l:=L.2) (σ:=List Int) (s:=(([]:List Int),(0:Int))) (λi m=>(m,(i:Int))) (λls i m=>m++Vr i ls=Vr 0 L.2) (λ_ _ _=>(0,((Vr 0 L.2,(L.2.length:Int)),()))) [] rfl (by omega) rfl (λm h=>by
  simp_all[re,Ta,Vr]) (λi rs ls m hd b hi h=>by
   refine⟨m++(if rs.length=2 then[(i:Int)]else[]),?_,?_,rfl⟩
   ·simp only;rw[rl hi,UN,VZ,U0 b,VA]
    have e:m.length<=1000:=by
     have a:=congrArg ta h;have c:=Yj L.2 0
     grind
    by_cases a:rs.length=2
    ·rw[zy (by omega),zy a,Vz (by grind [A0,dc,eb]),Vi b (by omega)];rfl
    ·rw[zx (by omega),zx a,iz,Vi b (by omega)]
   ·rw[hI];exact h),Ug]
theorem vq{L:Vb}(v:VLev L)(k:Int):aA (L,k)=zo (if k<0\/k>=12 then 7 else 0):=by
 obtain⟨a,b⟩:=v.small;unfold aA;rw[mL _ a b,Yh v,Ug,VA,zy rfl,VE,VB]
 grind
theorem iL{L:Vb}(v:VLev L){n:Nat}(b:n<L.2.length):Wc (L,(n:Int))=zo (decide ((n:Int)=(L.2.length:Int)-1)):=by
 have a:=v.len;unfold Wc Zr;simp only[Vd,Vc];rw[vq v,Ug,zx (by omega),VF,zy rfl,Ug,Ve (by omega)];unfold Ut
 grind [We]
theorem iI{a b:List VY}(va:VL a)(d:VL b)(c:Bool):Yv ([a,b],c)=zo (XC a b c 0,(0,0)):=by
 unfold Yv Zq W8;rw[bS va d,Ug,VF,zy rfl];refine Eq.trans (b:=bd (bd (W7 ([a,b],[((0:Nat):Int),((0:Nat):Int)])) _) _) rfl ?_;rw[aI va d (hU _) (hU _)];rfl
theorem kF{L:Vb}{n:Nat}{a b:Vt}(c:Bool)(h:L.2[n]?=zo [a,b])(v0:VL a.2)(v1:VL b.2):V6 (L,((n:Int),c))=zo ((n:Int),XC b.2 a.2 c 0):=by
 have d:=(a8.1 h).1;unfold V6;simp only[Vd,Vc];rw[VB,zx (by omega),VZ,U0 h,U0 (x:=b) rfl,U0 (x:=a) rfl,iI v1 v0];rfl
theorem rp{L:Vb}{n:Nat}{a b:Vt}{j:Job}(h:L.2[n]?=zo [a,b])(v0:VL a.2)(v1:VL b.2){β:Type}(A B:Option β) :
  (bd (V6 (L,((n:Int),j.2.2.1.2.2))) λc=>bd (V1 c.2) λd=>br (Uv j.2.2.2.2 0) (λ_=>A) λ_=>br (Ut j.2.2.2.2 d.1) (λ_=>A) λ_=>bd (WF (c.2,j.2.2.2.2)) λe=>bd (WE (e.1,j.2)) λf=>br (IR f) (λ_=>A) λ_=>B)
  = if j.2.2.2.2<0\/j.2.2.2.2>((b.2.length+a.2.length:Nat):Int)then A else if XC b.2 a.2 j.2.2.1.2.2 j.2.2.2.2.toNat=j.2 then B else A:=by
 rw[kF _ h v0 v1,Ug,bT v1 v0 _ (hU _),Ug,VE,VC,ll];by_cases g:j.2.2.2.2<0
 ·simp_all
 rw[zx g];by_cases i:j.2.2.2.2>((b.2.length+a.2.length:Nat):Int)
 ·simp_all
 rw[zx i,zx (show ¬ (j.2.2.2.2<0\/j.2.2.2.2>((b.2.length+a.2.length:Nat):Int)) by omega)];obtain⟨k,l⟩:∃ k:Nat,j.2.2.2.2=(k:Int):=⟨j.2.2.2.2.toNat,by omega⟩;rw[l,iN v1 v0 _ (hU _),Ug,ll,gw,r6 (by omega),bo];obtain⟨s1,s2,m,o,p,q⟩:=dq v1 v0 j.2.2.1.2.2 (n:=k) (by omega);rw[iK _ _ s1 s2 m o p q,Ug,We,Wj]
 simp_all
end
section
open Go Sv
theorem fB(s:Va)(U:s.1.2.length<=9223372036854775807)(hr:∀ rs∈s.1.2,rs.length<=9223372036854775807 /\ ∀ r∈rs,r.2.length<=9223372036854775807)(hj:s.2.1.length<=9223372036854775807):XB s=zo (Vg s):=by
 unfold XB Vg;simp only[Vd,Vc];rw[jc _ U hr,Ug,VA];by_cases e:(Wy s.1).2.2=0;rotate_left
 ·rw[zx e,zy e,VA,zx e,VF,zx e]
 rw[zy e,zx (show ¬ (Wy s.1).2.2≠0 by simp[e]),VE,VC];have v:=YN.1 e;by_cases x:s.2.2<1
 ·simp_all
 rw[zx x];by_cases m:s.2.2>1000001
 ·simp_all
 rw[zx m,zx (show ¬ (s.2.2<1\/s.2.2>1000001) by omega),VA,zy e,fA v,Ug,VD];by_cases y:s.2.2<=X6 s.1.2
 ·simp_all
 rw[zx y,zx y,VF,zy e,jX (by have:=v.len;omega),Ug];obtain⟨a,o⟩:∃ a,a=Vr 0 s.1.2:=⟨_,rfl⟩;have hdl:a.length<=12:=by have:=Yj s.1.2 0;have:=v.len;grind
 rw[<- o];obtain⟨T,S⟩:∃ T,T=YK s.1 a 0 s.2.1:=⟨_,rfl⟩;rw[<- S]
 obtain⟨r,q1,C⟩:=Xd (l:=s.2.1) (σ:=Unit) (λi _=>((0:Int),((0:Int),(i:Int)))) (λjs i _=>YK s.1 a i js=T) (λ(r:Nat×((Int×(Int×Int))×Unit))=>(T=zn/\r.1=1)\/(∃ i:Nat,T=zo i/\r.1=0/\r.2.1.1=6/\r.2.1.2.1=(i:Int)))
  (f:=λb=>br (Uv b.2.2 (s.2.1.length:Int)) (λ_=>TS b.2.2 λk7=>ix s.2.1 k7 λc=>br (TM b.2.2 (a.length:Int)) (λ_=>zo (.dn ((0,((6,(b.2.2,b.2.2)),()))))) λ_=>TS b.2.2 λk9=>ix a k9 λO=>br (TN c.1 O) (λ_=>zo (.dn ((0,((6,(b.2.2,b.2.2)),()))))) λ_=>br c.2.2.1.2.2 (λ_=>bd (Wc (s.1,c.1)) λG=>br (IR G) (λ_=>zo (.dn ((0,((6,(b.2.2,b.2.2)),()))))) λ_=>bd (V6 ((s.1,(c.1,c.2.2.1.2.2)))) λu=>bd (V1 u.2) λI=>br (Uv c.2.2.2.2 0) (λ_=>zo (.dn ((0,((6,(b.2.2,b.2.2)),()))))) λ_=>br (Ut c.2.2.2.2 I.1) (λ_=>zo (.dn ((0,((6,(b.2.2,b.2.2)),()))))) λ_=>bd (WF (u.2,c.2.2.2.2)) λJ=>bd (WE (J.1,c.2)) λK=>br (IR K) (λ_=>zo (.dn ((0,((6,(b.2.2,b.2.2)),()))))) λ_=>zo (.nx ((b.1,(b.2.1,Tk .i64 b.2.2 1))))) λ_=>bd (V6 ((s.1,(c.1,c.2.2.1.2.2)))) λw=>bd (V1 w.2) λL=>br (Uv c.2.2.2.2 0) (λ_=>zo (.dn ((0,((6,(b.2.2,b.2.2)),()))))) λ_=>br (Ut c.2.2.2.2 L.1) (λ_=>zo (.dn ((0,((6,(b.2.2,b.2.2)),()))))) λ_=>bd (WF (w.2,c.2.2.2.2)) λM=>bd (WE (M.1,c.2)) λN=>br (IR N) (λ_=>zo (.dn ((0,((6,(b.2.2,b.2.2)),()))))) λ_=>zo (.nx ((b.1,(b.2.1,Tk .i64 b.2.2 1))))) λ_=>zo (.dn ((1,(b,())))))
  (s:=(0,(0,0))) () rfl (by omega) S.symm (λ_ h=>by
   refine⟨_,by simp only;rw[re];rfl,.inl ⟨by rw[<- h];rfl,rfl⟩⟩) (λi j js _ hd Z hi h=>by
   simp only;rw[rl hi,UN,VZ,U0 Z,VB];unfold YK at h
   have W:ay s.1 a i j=zt -> ∃ r:Nat×((Int×(Int×Int))×Unit),(zo (LR.dn ((0,((6,((i:Int),(i:Int))),()))):LR (Int×(Int×Int)) _))=zo (.dn r)/\((T=zn/\r.1=1)\/(∃ i:Nat,T=zo i/\r.1=0/\r.2.1.1=6/\r.2.1.2.1=(i:Int))):=λU=>by
    grind
   have E:ay s.1 a i j=zf -> ∃ st':Unit,(zo (LR.nx ((0:Int),((0:Int),Tk .i64 (i:Int) 1))):Option (LR _ (Nat×((Int×(Int×Int))×Unit))))=zo (.nx ((0:Int),((0:Int),((i+1:Nat):Int))))/\YK s.1 a (i+1) js=T:=λhg=>by
    rw[zx (by simp[hg])]at h;exact⟨(),by rw[Vi Z (by omega)],h⟩
   by_cases x:(i:Int)>=(a.length:Int)
   ·rw[zy x]
    grind [ay,a9]
   rw[zx x,VZ];have D:a[i]?=zo (a[i]'(by omega)):=by simp
   rw[U0 D,VF];obtain⟨n,X,q,t,g⟩:=ZS (ls:=s.1.2) (i:=0) (k:=i) (d:=a[i]'(by omega)) (by simp_all);rw[gw]at X
   have z:ay s.1 a i j=(if j.1≠(a[i]'(by omega))then zt else if j.2.2.1.2.2=zt/\j.1≠(s.1.2.length:Int)-1 then zt else if j.2.2.2.2<0\/j.2.2.2.2>((t.2.length+q.2.length:Nat):Int)then zt else decide (XC t.2 q.2 j.2.2.1.2.2 j.2.2.2.2.toNat≠j.2)):=by
    grind [ay,bo]
   by_cases m:j.1=(a[i]'(by omega));rotate_left
   ·simp_all
   rw[zy m];rw[zx (by simp[m])]at z;have p:j.1=(n:Int):=by rw[m,X]
   have Y:=(v.lev n _ g).2;have v0:=(Y q (by simp)).vl;have v1:=(Y t (by simp)).vl;have F:=(a8.1 g).1;rw[p,iL v F,Ug,We,Wj,rp g v0 v1,VM];rw[p]at z;by_cases y:j.2.2.1.2.2=zt/\(n:Int)≠(s.1.2.length:Int)-1
   ·simp_all
   rw[zx y]at z
   have h4:∀ {γ:Type} (A B:γ),(if j.2.2.1.2.2=zt then if ¬(n:Int)=(s.1.2.length:Int)-1 then A else B else B)=B:=by
    simp_all
   rw[h4];by_cases P:j.2.2.2.2<0\/j.2.2.2.2>((t.2.length+q.2.length:Nat):Int)
   ·simp_all
   rw[zx P];rw[zx P]at z;by_cases h6:XC t.2 q.2 j.2.2.1.2.2 j.2.2.2.2.toNat=j.2
   all_goals simp_all)
 refine Vx q1 ?_;rw[Uh];rcases C with⟨C,q3⟩|⟨i,C,q3,q4,q5⟩
 ·rw[zx (show ¬ r.1=0 by omega),C,VE]
  grind
 grind
theorem gN(s:Va)(b:s.1.2.length<=1048576)(a:∀ rs∈s.1.2,rs.length<=1048576 /\ ∀ r∈rs,r.2.length<=9223372036854775807)(c:s.2.1.length<=1048576):XB s=zo (Vg s):=fB s (by omega) (λrs h=>⟨by grind,(a rs h).2⟩) (by omega)
end
section
open Go Sv
def JobAt(L:Vb)(n:Nat)(j:Job):Prop:=∃ a b c k,L.2[n]?=zo [a,b]/\j=((n:Int),XC b.2 a.2 c k)/\k<=b.2.length+a.2.length/\(c=zt->n+1=L.2.length)/\VL a.2/\VL b.2
structure VSt (s:Va):Prop where
 lev:VLev s.1
 n1:1<=s.2.2
 n2:s.2.2<=1000001
 n3:X6 s.1.2<s.2.2
 due:s.2.1.map (·.1)=Vr 0 s.1.2
 job:∀ j∈s.2.1,∃ n,JobAt s.1 n j
theorem eP(a b:List VY)(c:Bool)(k:Nat):(XC a b c k).2.1.2.2=c:=by
 show(WX (s0 c) (Vo a b k)).2.2=c;rw[Yg]
theorem dG{L:Vb}(v:VLev L){i:Nat}{j:Job}:ay L (Vr 0 L.2) i j=zf <-> ∃ n,(Vr 0 L.2)[i]?=zo j.1/\JobAt L n j:=by
 constructor
 ·intro h;unfold ay at h;cases hd:(Vr 0 L.2)[i]? with
  |none=>simp_all
  |some d=>
   rw[hd]at h;simp only at h;by_cases e:j.1=d;rotate_left
   ·simp_all
   rw[zx (by simp[e])]at h;by_cases m:j.2.2.1.2.2=zt/\j.1≠(L.2.length:Int)-1
   ·simp_all
   rw[zx m]at h;obtain⟨n,f,a,b,c⟩:=ZS hd;rw[gw]at f;rw[f,bo,c]at h;simp only at h;by_cases o:j.2.2.2.2<0\/j.2.2.2.2>((b.2.length+a.2.length:Nat):Int)
   ·grind
   rw[zx o]at h;have p:XC b.2 a.2 j.2.2.1.2.2 j.2.2.2.2.toNat=j.2:=by grind
   have l:=(v.lev n _ c).2;refine⟨n,by rw[e],a,b,j.2.2.1.2.2,j.2.2.2.2.toNat,c,Prod.ext (by rw[e,f]) p.symm,by omega,λq=> ?_,(l a (by simp)).vl,(l b (by simp)).vl⟩
   grind
 ·rintro⟨n,hd,a,b,g,k,c,rfl,r,q,v0,v1⟩;unfold ay;rw[hd];simp only;rw[zx (by simp),eP,zx (λh:g=zt/\(n:Int)≠(L.2.length:Int)-1=>h.2 (by grind)),bo,c];simp only;rw[show(XC b.2 a.2 g k).2.2.2=(k:Int)from rfl,zx (by omega),bo];simp
theorem ad{L:Vb}{a:List Int}:∀ {js:List Job} {i:Nat},YK L a i js=zn <-> ∀ k j,js[k]?=zo j->ay L a (i+k) j=zf
 |[],i=>by simp[YK]
 |j::js,i=>by
  unfold YK;by_cases h:ay L a i j=zt
  ·rw[zy h];simp only[reduceCtorEq,false_iff];intro b;have:=b 0 j rfl
   grind
  ·rw[zx h,ad (js:=js)];constructor
   ·grind
   ·intro b k j' c;rw[show i+1+k=i+(k+1) by omega];exact b (k+1) j' c
theorem WJ{s:Va}:(Vg s).2=0<->VSt s:=by
 unfold Vg;constructor
 ·intro h;by_cases c:(Wy s.1).2.2≠0
  ·simp_all
  rw[zx c]at h;have v:=YN.1 (Decidable.not_not.1 c);by_cases d:s.2.2<1\/s.2.2>1000001
  ·simp_all
  rw[zx d]at h;by_cases e:s.2.2<=X6 s.1.2
  ·simp_all
  rw[zx e]at h;cases b:YK s.1 (Vr 0 s.1.2) 0 s.2.1 with
  |some i=>simp_all
  |none=>
   rw[b]at h;simp only at h;by_cases o:s.2.1.length<(Vr 0 s.1.2).length
   ·simp_all
   have f:=ad.1 b
   have g:∀ k j,s.2.1[k]?=zo j -> ∃ n,(Vr 0 s.1.2)[k]?=zo j.1/\JobAt s.1 n j:=λk j a=>by
    have:=f k j a;rw[gw]at this;exact(dG v).1 this
   refine⟨v,by omega,by omega,by omega,?_,λj l=> ?_⟩
   ·apply xa
    grind
   ·obtain⟨k,a⟩:=co l
    grind
 ·intro v;rw[zx (by simp[YN.2 v.lev]),zx (by have:=v.n1;have:=v.n2;omega),zx (by have:=v.n3;omega)]
  have b:YK s.1 (Vr 0 s.1.2) 0 s.2.1=zn:=ad.2 λk j a=>by
   rw[gw];obtain⟨n,m⟩:=v.job j (bl a);exact(dG v.lev).2 ⟨n,by rw[<- v.due,xb,a];rfl,m⟩
  rw[b];simp only;rw[zx (by rw[<- v.due];simp)]
structure Sm (s:Va):Prop where
 lv:s.1.2.length<=1048576
 rs:∀ rs∈s.1.2,rs.length<=1048576 /\ ∀ r∈rs,r.2.length<=9223372036854775807
 js:s.2.1.length<=1048576
theorem chk{s:Va}(m:Sm s):XO s=zo (Vg s):=gz s m.lv m.rs m.js
theorem xz{s:Va}(m:Sm s):XB s=zo (Vg s):=gN s m.lv m.rs m.js
theorem VSt.jlen{s:Va}(v:VSt s):s.2.1.length=(Vr 0 s.1.2).length:=by rw[<- v.due];simp
theorem VSt.jsmall{s:Va}(v:VSt s):s.2.1.length<=12:=by
 have:=v.jlen;have:=Yj s.1.2 0;have:=v.lev.len;omega
theorem VSt.sm{s:Va}(v:VSt s):Sm s:=⟨v.lev.small.1,v.lev.small.2,by have:=v.jsmall;omega⟩
def cg(x:Int):Nat->List Int->Option Nat
 |_,[]=>zn
 |k,y::l=>if y=x then zo k else cg x (k+1) l
theorem gv{x:Int}:∀ {l:List Int} {k i:Nat},cg x k l=zo i->k<=i/\l[i-k]?=zo x
 |[],_,_,h=>by cases h
 |y::l,k,i,h=>by
  unfold cg at h;by_cases e:y=x
  ·simp_all
  ·rw[zx e]at h;obtain⟨a,b⟩:=gv h
   grind
theorem eZ{x:Int}:∀ {l:List Int} {k:Nat},x∈l -> ∃ i,cg x k l=zo i
 |[],_,h=>by cases h
 |y::l,k,h=>by
  unfold cg;by_cases e:y=x
  ·simp_all
  ·rw[zx e];exact eZ (by grind)
def bZ(s:Va)(a:Int):Int×Int:=if(Vg s).2≠0 then(0,(Vg s).2)else match cg a 0 (Vr 0 s.1.2)with
 |some i=>((i:Int),0)
 |none=>(0,4)
theorem eY{s:Va}(m:Sm s)(a:Int):Y9 (s,a)=zo (bZ s a):=by
 unfold Y9 bZ;simp only[Vd,Vc];rw[chk m,Ug,VF];by_cases c:(Vg s).2=0;rotate_left
 ·simp_all
 rw[zy c,zx (show ¬ (Vg s).2≠0 by simp[c])];have v:=WJ.1 c;have w:=v.jsmall;rw[<- v.due];obtain⟨T,g⟩:∃ T,T=cg a 0 (s.2.1.map (·.1)):=⟨_,rfl⟩;rw[<- g]
 obtain⟨r,q,b⟩:=Xd (l:=s.2.1) (σ:=Unit) (s:=((0:Int),(0:Int))) (λk _=>((0:Int),(k:Int))) (λjs k _=>cg a k (js.map (·.1))=T) (λ(r:Nat×((Int×Int)×Unit))=>(r.1=1/\T=zn)\/(r.1=0 /\ ∃ i:Nat,T=zo i/\r.2.1.1=(i:Int)))
  (f:=λs1=>br (Uv s1.2 (s.2.1.length:Int)) (λ_=>TS s1.2 λp=>ix s.2.1 p λu=>br (PW u.1 a) (λ_=>zo (.dn ((0,((s1.2,s1.2),()))))) λ_=>zo (.nx (s1.1,Tk .i64 s1.2 1))) λ_=>zo (.dn ((1,(s1,())))))
  () rfl (by omega) g.symm (λ_ h=>⟨_,by simp only;rw[re];rfl,.inl ⟨rfl,by rw[<- h];rfl⟩⟩) (λk j js _ hd n o h=>by
   simp only;rw[rl o,UN,VZ,U0 n,VA];unfold cg at h;simp only[ee]at h;by_cases e:j.1=a
   ·grind
   ·rw[zx e];rw[zx e]at h
    exact .inl ⟨(),by rw[Vi n (by omega)],h⟩)
 refine Vx q ?_;rw[Uh];rcases b with⟨b,d⟩|⟨b,i,d,t⟩
 ·rw[zx (show ¬ r.1=0 by omega),d];rfl
 ·rw[zy b,d,t,VE,zx (by omega)]
theorem mO{s:Va}(m:Sm s):ZF s=zo (if(Vg s).2≠0 then([],(Vg s).2)else(Vr 0 s.1.2,0)):=by
 unfold ZF;rw[xz m,Ug,VF];by_cases a:(Vg s).2=0
 ·rw[zy a,zx (show ¬ (Vg s).2≠0 by simp[a]),jX (by have:=(WJ.1 a).lev.len;omega),Ug]
 simp_all
theorem mG{s:Va}(m:Sm s)(a:Int):aB (s,a)=zo (bZ s a):=by
 unfold aB bZ;simp only[Vd,Vc];rw[mO m,Ug,VF];by_cases d:(Vg s).2=0;rotate_left
 ·simp_all
 rw[zx (show ¬ (Vg s).2≠0 by simp[d]),zy rfl,zx (show ¬ (Vg s).2≠0 by simp[d])];have v:=WJ.1 d;have u:=v.jsmall;have hd:=v.jlen;obtain⟨b,c⟩:∃ b,b=Vr 0 s.1.2:=⟨_,rfl⟩;rw[<- c]at hd ⊢;obtain⟨T,g⟩:∃ T,T=cg a 0 b:=⟨_,rfl⟩;rw[<- g];simp only
 obtain⟨r,q,w⟩:=Xd (l:=b) (σ:=Unit) (s:=((0:Int),((0:Int),(0:Int)))) (λk _=>((0:Int),((0:Int),(k:Int)))) (λjs k _=>cg a k js=T) (λ(r:Nat×((Int×(Int×Int))×Unit))=>(r.1=1/\T=zn)\/(r.1=0 /\ ∃ i:Nat,T=zo i/\r.2.1.2.1=(i:Int)/\r.2.1.1=0))
  (f:=λs1=>br (Uv s1.2.2 (b.length:Int)) (λ_=>TS s1.2.2 λp=>ix b p λt=>br (PW t a) (λ_=>zo (.dn ((0,((0,(s1.2.2,s1.2.2)),()))))) λ_=>zo (.nx ((s1.1,(s1.2.1,Tk .i64 s1.2.2 1))))) λ_=>zo (.dn ((1,(s1,())))))
  () rfl (by omega) g.symm (λ_ h=>⟨_,by simp only;rw[re];rfl,.inl ⟨rfl,by rw[<- h];rfl⟩⟩) (λk j js _ hd n o h=>by
   simp only;rw[rl o,UN,VZ,U0 n,VA];unfold cg at h;by_cases e:j=a
   ·grind
   ·rw[zx e];rw[zx e]at h
    exact .inl ⟨(),by rw[Vi n (by omega)],h⟩)
 refine Vx q ?_;rw[Uh]
 grind
end
section
open Go Sv
def V9(L:Vb)(j:Job):Nat:=match L.2[j.1.toNat]? with
 |some [r0,r1]=>r1.2.length+r0.2.length-j.2.2.2.2.toNat
 |_=>0
def Zb(L:Vb)(j:Job):Bool:=decide ((j.2.2.2.1.length:Int)<=WM L.1 j.1.toNat)
def ca(L:Vb)(n:Nat):Bool:=decide (n<12/\((L.2[n]?).getD []).length<2)
def Y8(L:Vb)(j:Job):Bool:=decide (0<V9 L j)||(Zb L j||ca L (j.1.toNat+1))
def fO(s:Va)(a:Int):Option Job:=match cg a 0 (Vr 0 s.1.2)with
 |some i=>s.2.1[i]?
 |none=>zn
theorem VSt.at{s:Va}(v:VSt s){a:Int}{i:Nat}(h:cg a 0 (Vr 0 s.1.2)=zo i):∃ (j:Job) (n:Nat),s.2.1[i]?=zo j/\a=(n:Int)/\j.1=(n:Int)/\JobAt s.1 n j/\n<s.1.2.length:=by
 obtain⟨_,b⟩:=gv h;rw[ll]at b;rw[<- v.due,xb]at b;cases c:s.2.1[i]? with
 |none=>simp_all
 |some j=>
  rw[c]at b;simp only[xk,Option.some.injEq]at b;obtain⟨n,d⟩:=v.job j (bl c);have f:=d;obtain⟨m,o,g,k,l,e,_⟩:=d
  grind
theorem JobAt.left{L:Vb}{n:Nat}{j:Job}(h:JobAt L n j):WD j.2=zo ((V9 L j:Int),0)/\V1 j.2=zo ((V9 L j:Int),0)/\V9 L j<=10000:=by
 obtain⟨c,d,a,k,f,rfl,b,_,v0,v1⟩:=h;have g:=v0.len;have i:=v1.len
 have e:V9 L ((n:Int),XC d.2 c.2 a k)=d.2.length+c.2.length-k:=by
  unfold V9;simp only[bo,f];rfl
 rw[e];exact⟨cO v1 v0 a b,bT v1 v0 a b,by omega⟩
theorem cF{L:Vb}(v:VLev L){n:Nat}(c:n<12):X9 (L.1,(n:Int))=zo (WM L.1 n,0):=by
 have a:=v.B1;have b:=v.B2;unfold X9;rw[VE,zx (by omega),VC,zx (by omega),VE,zx (by omega),VB,zx (by omega),cC a b (by omega)];rfl
theorem ez{L:Vb}(v:VLev L)(k:Int):ZB (L,k)=zo (if k<0\/k>=12 then 7 else 0):=by
 obtain⟨a,b⟩:=v.small;unfold ZB;rw[ZY _ a b,Yh v,Ug,VF,zy rfl,VE,VB]
 grind
theorem vg(l:List Vt):Uv (l.length:Int) 2=decide (l.length<2):=by
 unfold Uv
 grind
theorem j7{L:Vb}(v:VLev L){n:Nat}(c:n<=12):Zp (L,(n:Int))=zo (ca L n,if n>=12 then 7 else 0):=by
 unfold Zp ca;simp only[Vd,Vc];rw[ez v,Ug,VF];by_cases h:n>=12
 ·grind
 ·rw[zx (show ¬ ((n:Int)<0\/(n:Int)>=12) by omega),zy rfl,zx h,VE];have a:n<12:=by omega
  by_cases b:n<L.2.length
  ·simp_all[zy,VZ,U0,vg,iP]
  simp_all[zx,a9]
abbrev zB:=Va×(Job×Int)
theorem ga{s:Va}(v:VLev s.1){n:Nat}{j:Job}(a:j.1=(n:Int))(b:n<12)(l:Int):WO (s,(j,l))=zo (Zb s.1 j):=by
 unfold WO Zb;simp only[Vd,Vc];rw[a,cF v b,Ug,VA,zy rfl,bo];rfl
theorem mJ{s:Va}(v:VLev s.1){n:Nat}{j:Job}(a:j.1=(n:Int))(b:n<12)(l:Int):Xo (s,(j,l))=zo (ca s.1 (n+1)):=by
 unfold Xo;simp only;rw[a,Ve (by omega),j7 v (by omega),Ug,VA];by_cases h:n+1>=12
 ·rw[zy h,zx (show ¬ (7:Int)=0 by decide)];unfold ca;simp;omega
 simp_all
theorem gp{s:Va}(v:VLev s.1){n:Nat}{j:Job}(a:j.1=(n:Int))(b:n<12)(l:Nat)(g:l=V9 s.1 j):Wr (s,(j,(l:Int)))=zo (Y8 s.1 j):=by
 have c:WI (s,(j,(l:Int)))=zo (decide (0<V9 s.1 j)):=by
  simp_all[WI,Ut]
 have e1:=ga v a b (l:Int);have e2:=mJ v a b (l:Int);unfold Wr Y8;rw[c,e1,e2,a,bo];simp only[Ug];cases d:decide (0<V9 s.1 j)with
 |true=>rfl
 |false=>
  cases e:Zb s.1 j with
  |true=>rfl
  |false=>
   cases f:ca s.1 (n+1)with
   |true=>rfl
   |false=>rfl
end
section
open Go Sv
def aT{α:Type}(z:α)(f:Va->Job->α×Int)(s:Va)(a:Int):α×Int:=if(Vg s).2≠0 then(z,(Vg s).2)else match fO s a with
 |some j=>f s j
 |none=>(z,4)
def z0:zB:=(((0,[]),([],0)),((0,(([],([],([],([],0)))),((zf,([],zf)),([],0)))),0))
theorem lA{s:Va}(m:Sm s)(a:Int):YR (s,a)=zo (aT z0 (λs j=>((s,(j,(V9 s.1 j:Int))),0)) s a):=by
 unfold YR;rw[eY m,Ug];unfold aT fO bZ;by_cases b:(Vg s).2=0;rotate_left
 ·rw[zy b,VF,zx b,zy b];rfl
 rw[zx (show ¬ (Vg s).2≠0 by simp[b]),zx (show ¬ (Vg s).2≠0 by simp[b])];have v:=WJ.1 b;cases e:cg a 0 (Vr 0 s.1.2)with
 |none=>rfl
 |some i=>
  obtain⟨j,n,c,g,f,d,h⟩:=v.at e;simp only;rw[VF,zy rfl,VZ,U0 c,c,(JobAt.left d).1,Ug]
theorem ua{s:Va}(m:Sm s)(a:Int):Yp (s,a)=zo (aT zf (λs j=>(Y8 s.1 j,0)) s a):=by
 unfold Yp;rw[lA m,Ug];unfold aT;by_cases b:(Vg s).2=0;rotate_left
 ·simp_all[zy,VF,zx]
 rw[zx (show ¬ (Vg s).2≠0 by simp[b]),zx (show ¬ (Vg s).2≠0 by simp[b])];have v:=WJ.1 b;unfold fO;cases d:cg a 0 (Vr 0 s.1.2)with
 |none=>rfl
 |some i=>
  obtain⟨j,n,e,g,c,f,h⟩:=v.at d;have:=v.lev.len;simp only[e];rw[VF,zy rfl,gp v.lev c (by omega) _ rfl,Ug]
theorem kC{s:Va}(m:Sm s)(a:Int):aC (s,a)=zo (aT 0 (λs j=>((V9 s.1 j:Int),0)) s a):=by
 unfold aC;rw[mG m,Ug];unfold aT fO bZ;by_cases b:(Vg s).2=0;rotate_left
 ·simp_all[zy,VF,zx]
 rw[zx (show ¬ (Vg s).2≠0 by simp[b]),zx (show ¬ (Vg s).2≠0 by simp[b])];have v:=WJ.1 b;cases e:cg a 0 (Vr 0 s.1.2)with
 |none=>rfl
 |some i=>
  obtain⟨j,n,c,g,f,d,h⟩:=v.at e;simp only[c];rw[VF,zy rfl,VZ,U0 c,(JobAt.left d).2.1,Ug]
def aY(s:Va):List Int->Option Int
 |[]=>zn
 |d::l=>if(aT zf (λs j=>(Y8 s.1 j,0)) s d).1=zt then zo d else aY s l
def Zi(s:Va):Int×Int:=if(Vg s).2≠0 then(0,(Vg s).2)else if Vr 0 s.1.2=[]then(0,4)else match aY s (Vr 0 s.1.2)with
 |some d=>(d,0)
 |none=>(0,9)
theorem VSt.atDue{s:Va}(v:VSt s){d:Int}(h:d∈Vr 0 s.1.2):∃ (j:Job) (n:Nat),fO s d=zo j/\d=(n:Int)/\j.1=(n:Int)/\JobAt s.1 n j/\n<s.1.2.length:=by
 obtain⟨i,a⟩:=eZ (k:=0) h;obtain⟨j,n,e,f,b,c,g⟩:=v.at a
 grind [fO]
end
section
open Go Sv
theorem rS{β:Type}(k:Unit->Option β):gd zt k=k ():=rfl
def Vh(l:List (List Vt))(i:Nat):List Vt:=(l[i]?).getD []
def aX(l:List (List Vt)):Nat->Nat
 |0=>0
 |k+1=>if Vh l k=[]then aX l k else k+1
def Z3(l:List (List Vt))(n:Nat):List (List Vt):=l++List.replicate (n+1-l.length) []
def bB(l:List (List Vt))(n:Nat)(r:List Vt):List (List Vt):=(Z3 l n).set n r
def Zm(l:List (List Vt)):List (List Vt):=l.take (aX l l.length)
def Wv(L:Vb)(n:Nat)(r:List Vt):Vb:=(L.1,Zm (bB L.2 n r))
theorem eV(l:List (List Vt)):∀ k,aX l k<=k
 |0=>ed _
 |k+1=>by
  unfold aX;split
  ·exact Nat.le_succ_of_le (eV l k)
  omega
theorem cw(l:List (List Vt)):∀ {k i:Nat},aX l k<=i->i<k->Vh l i=[]
 |0,_,_,h=>by omega
 |k+1,i,h1,h2=>by
  unfold aX at h1;split at h1
  ·rename_i a;by_cases hi:i=k
   ·simp_all
   ·exact cw l h1 (by omega)
  ·omega
theorem du(l:List (List Vt)):∀ {k m:Nat},aX l k=m+1->Vh l m≠[]
 |0,m,h=>by cases h
 |k+1,m,h=>by
  unfold aX at h;split at h
  ·exact du l h
  simp_all
theorem eI(l:List (List Vt))(i:Nat):Vh (Zm l) i=Vh l i:=by
 unfold Zm;by_cases h:i<aX l l.length
 ·unfold Vh;simp_all
 ·have a:Vh (l.take (aX l l.length)) i=[]:=by
   unfold Vh;grind
  rw[a];by_cases b:i<l.length
  ·exact(cw l (by omega) b).symm
  ·unfold Vh;rw[a9 (by omega)];rfl
theorem jB(l:List (List Vt)):(Zm l).getLast? ≠ zo []:=by
 have d:(Zm l).length=aX l l.length:=by
  have:=eV l l.length
  simp_all[Zm,rY]
 cases hd:aX l l.length with
 |zero=>
  simp_all
 |succ m=>
  have b:=du l hd;rw[i0,d,hd];intro c;have a:Vh (Zm l) m=[]:=by unfold Vh;rw[show m=m+1-1 by omega,c];rfl
  rw[eI]at a;exact b a
theorem bp(l:List (List Vt))(n:Nat):(Z3 l n).length=max l.length (n+1):=by
 unfold Z3;simp;omega
theorem gH(l:List (List Vt))(n i:Nat):Vh (Z3 l n) i=Vh l i:=by
 grind [Vh,Z3,List.getElem?_append_left,List.getElem?_append_right]
theorem mC(l:List (List Vt))(n i:Nat)(r:List Vt):Vh (bB l n r) i=if i=n then r else Vh l i:=by
 unfold bB;by_cases h:i=n
 ·rw[zy h,h];have:=bp l n;unfold Vh;grind
 ·rw[zx h];unfold Vh;rw[List.getElem?_set_ne (λe=>h e.symm)];exact gH l n i
theorem ZW(L:Vb)(n i:Nat)(r:List Vt):Vh (Wv L n r).2 i=if i=n then r else Vh L.2 i:=by
 show Vh (Zm _) i=_;rw[eI,mC]
theorem jC(L:Vb)(n:Nat)(r:List Vt):(Wv L n r).2.getLast? ≠ zo []:=jB _
theorem kr(L:Vb)(n:Nat)(r:List Vt):(Wv L n r).2.length<=max L.2.length (n+1):=by
 show(Zm _).length<=_
 grind [Zm,bB,List.length_set,bp,rY]
theorem jp(l:List (List Vt)):(Zm l).flatten=l.flatten:=by
 have h:l=Zm l++l.drop (aX l l.length):=(List.take_append_drop _ _).symm
 have c:(l.drop (aX l l.length)).flatten=[]:=by
  rw[sr];intro x b;obtain⟨i,hi⟩:=co b;rw[List.getElem?_drop]at hi;have a:=(a8.1 hi).1;have:=cw l (k:=l.length) (i:=aX l l.length+i) (by omega) a
  grind [Vh]
 grind
theorem lN(l:List (List Vt))(n:Nat):(Z3 l n).flatten=l.flatten:=by
 simp_all[Z3,tg,sr,iz]
theorem ZT(L:Vb)(n:Nat)(r:List Vt):∃ p q,L.2.flatten=p++(Vh L.2 n++q)/\(Wv L n r).2.flatten=p++(r++q):=by
 have b:n<(Z3 L.2 n).length:=by rw[bp];omega
 refine⟨((Z3 L.2 n).take n).flatten,((Z3 L.2 n).drop (n+1)).flatten,?_,?_⟩
 ·rw[<- gH L.2 n n,<- lN L.2 n]
  have:Z3 L.2 n=(Z3 L.2 n).take n++((Z3 L.2 n)[n]::(Z3 L.2 n).drop (n+1)):=by
   simp_all
  have a:Vh (Z3 L.2 n) n=(Z3 L.2 n)[n]:=by unfold Vh;simp_all
  grind
 ·show(Zm (bB L.2 n r)).flatten=_
  simp_all[bB,jp,List.set_eq_take_append_cons_drop,zy,tg]
theorem VLev.own{L:Vb}(v:VLev L)(i:Nat):(Vh L.2 i).length<=2 /\ ∀ r∈Vh L.2 i,VR (WM L.1 i) r:=by
 unfold Vh;cases h:L.2[i]? with
 |none=>simp_all
 |some rs=>exact v.lev i rs h
theorem VLev.with'{L:Vb}(v:VLev L){n:Nat}(f:n<12){r:List Vt}(d:r.length<=2)(e:∀ x∈r,VR (WM L.1 n) x)(b:((Wv L n r).2.flatten.map sO).Nodup):VLev (Wv L n r):=by
 refine⟨v.B1,v.B2,?_,λi rs hi=> ?_,b,jC L n r⟩
 ·have:=kr L n r;have:=v.len;omega
 ·have a:=ZW L n i r;unfold Vh at a;rw[hi]at a;simp only[iP]at a;rw[a];split
  ·rename_i c;rw[c];exact⟨d,e⟩
  ·exact v.own i
theorem VLev.leave{L:Vb}(v:VLev L){n:Nat}(c:n<12):VLev (Wv L n []):=by
 refine v.with' c (by simp) (λ_ h=>by cases h) ?_
 obtain⟨p,q,a,b⟩:=ZT L n [];have:=v.ids;rw[a]at this;rw[b,q0];refine x6.nodup (x6.map _ ?_) this<;>simp_all
theorem VLev.arrive{L:Vb}(v:VLev L){n:Nat}(c:n<12){x:Vt}(h:(Vh L.2 n).length<2)(i:VR (WM L.1 n) x)(a:∀ y∈L.2.flatten,y.1≠x.1):VLev (Wv L n (Vh L.2 n++[x])):=by
 refine v.with' c (by simp;omega) (λy hy=> ?_) ?_
 ·rcases ox.1 hy with hy|hy
  ·exact(v.own n).2 y hy
  simp_all
 ·obtain⟨p,q,f,g⟩:=ZT L n (Vh L.2 n++[x])
  have d:(Wv L n (Vh L.2 n++[x])).2.flatten.Perm (x::L.2.flatten):=by
   grind
  refine(d.map sO).nodup_iff.2 (gs.2 ⟨λb=> ?_,v.ids⟩);obtain⟨y,hy,e⟩:=eo.1 b;exact a y hy e
theorem dM{l:List (List Vt)}{x:Vt}:x∈l.flatten <-> ∃ i,x∈Vh l i:=by
 rw[hM];constructor
 ·rintro⟨rs,a,b⟩;obtain⟨i,hi⟩:=co a;exact⟨i,by unfold Vh;simp_all⟩
 grind [Vh]
theorem bc{l:List (List Vt)}{x:Vt}(h:x∈l.flatten):x.1<=X6 l:=by
 have d:∀ (rs:List Vt) (m:Int),m<=rs.foldl (λm r=>VP m r.1) m /\ ∀ x∈rs,x.1<=rs.foldl (λm r=>VP m r.1) m:=by
  intro rs
  induction rs with
  |nil=>simp_all
  |cons r rs c=>
   intro m;obtain⟨a,b⟩:=c (VP m r.1)
   grind [Zf]
 have two:∀ (ls:List (List Vt)) (m:Int),m<=ls.foldl (λm rs=>rs.foldl (λm r=>VP m r.1) m) m /\ ∀ rs∈ls,∀ x∈rs,x.1<=ls.foldl (λm rs=>rs.foldl (λm r=>VP m r.1) m) m:=by
  intro ls
  induction ls with
  |nil=>simp_all
  |cons rs ls c=>
   intro m;obtain⟨a,b⟩:=c (rs.foldl (λm r=>VP m r.1) m);obtain⟨e,f⟩:=d rs m
   grind
 obtain⟨rs,a,b⟩:=hM.1 h;exact(two l 0).2 rs a x b
end
section
open Go Sv
theorem dv{M:List (List Vt)}{f:Int->Option (LR Int (Nat×(Int×Unit)))}(a:f 0=zo (.dn (0,(0,()))))(hs:∀ k,k<M.length->f ((k+1:Nat):Int)=if Vh M k=[]then zo (.nx (k:Int))else zo (.dn (0,(((k+1:Nat):Int),())))):∀ k,k<=M.length->Iu (k+1) f (k:Int)=zo (0,((aX M k:Nat):Int),())
 |0,_=>WG a
 |k+1,hk=>by
  have h:=hs k (by omega);unfold aX;by_cases b:Vh M k=[]
  ·rw[zy b]at h ⊢;rw[V7 h];exact dv a hs k (by omega)
  ·rw[zx b]at h ⊢;exact WG h
theorem vk(L:List (List Vt))(n:Nat):E9 (PA (max L.length (n+1)) ([]:List Vt)) 0 L (AQ (PA (max L.length (n+1)) ([]:List Vt)))=Z3 L n:=by
 have a:AQ (PA (max L.length (n+1)) ([]:List Vt))=max L.length (n+1):=by unfold AQ PA;simp
 rw[a];unfold E9 Z3 PA;rw[ns (by omega:L.length<=max L.length (n+1))]
 grind
theorem lZ(l:List (List Vt))(n:Nat)(r:List Vt):lset (Z3 l n) n r=bB l n r:=rfl
theorem aD{l:List (List Vt)}{i:Nat}(h:i<l.length):l[i]?=zo (Vh l i):=by
 unfold Vh;simp_all
theorem jO{β:Type}(l:List Vt)(x y:Unit->Option β):br (PW (l.length:Int) 0) x y=if l=[]then x ()else y ():=by
 simp_all[VA,zy,zx]
theorem cG{L:Vb}(h:L.2.length<=1000){n:Nat}(i:n<1000)(r:List Vt):YA (L,((n:Int),r))=zo (Wv L n r):=by
 have b:VP (LN (AQ L.2)) (Tk .i64 (n:Int) 1)=((max L.2.length (n+1):Nat):Int):=by
  grind [Ve,Zf,Vd,Vc]
 unfold YA;simp only[b,VZ,vk,lZ];have e:(Z3 L.2 n).length=max L.2.length (n+1):=bp _ _;have j:(bB L.2 n r).length=max L.2.length (n+1):=by unfold bB;simp_all
 rw[Vz (by omega),Uq,zy (by rw[Vc,e];omega),U0 (aD (by omega))]
 have c:=dv (M:=bB L.2 n r) (f:=λa=>br (Ut a 0) (λ_=>TS (Tp .i64 a 1) λd=>gd (JJ d (AQ (bB L.2 n r))) λ_=>ix (bB L.2 n r) d λg=>br (PW (LN (AQ g)) 0) (λ_=>zo (.nx (Tp .i64 a 1))) λ_=>zo (.dn ((0,(a,()))))) λ_=>zo (.dn ((0,(a,()))))) rfl (λk b=>by
  have hi:Tp .i64 ((k+1:Nat):Int) 1=(k:Int):=by rw[UU (by omega)];omega
  simp only[hi,VZ];rw[VC,zy (by omega),Uq,zy (by rw[Vc];omega),U0 (aD b)]
  exact jO _ _ _) _ (ed _)
 rw[Vd,show AQ (bB L.2 n r)=(bB L.2 n r).length from rfl];refine Vx (Wx (by omega) c) ?_;have hd:=eV (bB L.2 n r) (bB L.2 n r).length;simp only[VZ];rw[Vz hd,Uo,zy (by omega),Ui,zy (by omega),Uo,zy (by unfold A0 QR;omega)];unfold Wv Zm Db A0 QR;simp
end
section
open Go Sv
def fy(d:Int)(j:Job):Bool:=PW d j.1
def WW(js:List Job)(d:Int):Option Job:=js.find? (fy d)
def bg(js:List Job):List (Int×Job):=js.map λj=>(j.1,j)
def zJ:Job:=(0,(([],([],([],([],0)))),((zf,([],zf)),([],0))))
def aU(L:Vb)(d:Int):Job:=match Vh L.2 d.toNat with
 |[r0,r1]=>(d,XC r1.2 r0.2 (decide (d=(L.2.length:Int)-1)) 0)
 |_=>zJ
def Zh(s:Va)(L:Vb)(a d:Int):Job:=(if d=a then zn else WW s.2.1 d).getD (aU L d)
def bI(s:Va)(L:Vb)(next a:Int):Va:=(L,((Vr 0 L.2).map (Zh s L a),next))
theorem eF(d:Int):∀ js:List Job,NJ (λa b=>PW a b) (bg js) d=WW js d
 |[]=>rfl
 |j::js=>by
  show(bif PW d j.1 then zo j else NJ (λa b=>PW a b) (bg js) d)=(j::js).find? (fy d)
  rw[List.find?_cons,eF d js];show _=match PW d j.1 with|true=>zo j|false=>WW js d
  cases PW d j.1<;>rfl
theorem eG{j:Job}:∀ {js:List Job},j.1 ∉ js.map (·.1)->I2 (λa b=>PW a b) (bg js) j.1 j=bg (js++[j])
 |[],_=>rfl
 |i::js,h=>by
  show(bif PW j.1 i.1 then(j.1,j)::bg js else(i.1,i)::I2 (λa b=>PW a b) (bg js) j.1 j)=(i.1,i)::bg (js++[j])
  have c:PW j.1 i.1=zf:=by grind [XS]
  rw[c,zj,eG (λd=>h (by simp_all))]
theorem bN{js:List Job}{d:Int}(h:d ∉ js.map (·.1)):WW js d=zn:=by
 unfold WW;rw[tw];intro j a;unfold fy;rw[XS]
 grind
theorem eE{x d:Int}:∀ {js:List Job},(js.map (·.1)).Nodup->NJ (λa b=>PW a b) (I0 (λa b=>PW a b) (bg js) x) d=if d=x then zn else WW js d
 |[],_=>by split<;>rfl
 |j::js,h=>by
  rw[ee,gs]at h;show NJ (λa b=>PW a b) (bif PW x j.1 then bg js else(j.1,j)::I0 (λa b=>PW a b) (bg js) x) d=_
  have f:WW (j::js) d=if d=j.1 then zo j else WW js d:=by
   grind [WW,fy,XS]
  rw[XS,f];by_cases c:x=j.1
  ·rw[show decide (x=j.1)=zt by simp[c],zb,eF];by_cases hd:d=x
   ·rw[zy hd];exact bN (by grind)
   grind
  ·rw[show decide (x=j.1)=zf by simp[c],zj];show(bif PW d j.1 then zo j else NJ (λa b=>PW a b) (I0 (λa b=>PW a b) (bg js) x) d)=_
   rw[eE h.2,XS];by_cases hd:d=j.1
   ·rw[show decide (d=j.1)=zt by simp[hd],zb,zy hd,zx (by rw[hd];exact λe=>c e.symm)]
   ·rw[show decide (d=j.1)=zf by simp[hd],zj,zx hd]
theorem VR.vl'{L:Vb}(v:VLev L){n:Nat}{r:Vt}(h:r∈Vh L.2 n):VL r.2:=((v.own n).2 r h).vl
theorem j0(L:Vb)(a:L.2.length<=1000)(n:Nat):W4 (L,(n:Int))=zo (decide ((n:Int)=(L.2.length:Int)-1)):=by
 unfold W4;simp only[Vd,Vc];rw[UU (by omega),XS]
theorem lD{L:Vb}(v:VLev L){n:Nat}(h:(Vh L.2 n).length=2):Z9 (L,(n:Int))=zo (aU L n,0):=by
 have d:n<L.2.length:=by
  grind [Vh,a9]
 have g:=v.len;obtain⟨e,f⟩:=v.small;unfold Z9;simp only[Vd,Vc];rw[ZY _ e f,Yh v,Ug,VF,zy rfl,VE,zx (by omega),VB,zx (by omega),VB,zx (by omega),VZ,U0 (aD d),VE,zx (by omega),j0 L (by omega) n,Ug]
 obtain⟨b,c,a⟩:∃ b c,Vh L.2 n=[b,c]:=by
  match hq:Vh L.2 n with
  |[b,c]=>simp_all
  |[]=>simp_all
  |[_]=>simp_all
  |_::_::_::_=>simp_all
 rw[fX _ (by rw[aD d,a]) (VR.vl' v (n:=n) (by grind)) (VR.vl' v (n:=n) (by grind)),Ug]
 simp_all[aU,bo]
theorem Z7(i:Nat)(rs:List Vt)(ls:List (List Vt)):Vr i (rs::ls)=(if rs.length=2 then[(i:Int)]else[])++Vr (i+1) ls:=rfl
theorem cV{s:Va}(g:(s.2.1.map (·.1)).Nodup)(q:s.2.1.length<=1000){L:Vb}(v:VLev L)(next a:Int):V0 (s,(L,(next,a)))=zo (bI s L next a,0):=by
 have t:=v.len;unfold V0;simp only[Vd,Vc]
 rw[WQ (l:=s.2.1) (σ:=List (Int×Job)) (s:=((0:Int),([]:List (Int×Job)))) (λi m=>((i:Int),m)) (λls i m=>∃ p,s.2.1=p++ls/\m=bg p) (λ_ _ _=>(0,(((s.2.1.length:Int),bg s.2.1),()))) [] rfl (by omega) ⟨[],rfl,rfl⟩ (λm h=>by
  simp_all[re,Ta,iz]) (λi x ls m hd b hi h=>by
   obtain⟨p,n,rfl⟩:=h;refine⟨bg (p++[x]),?_,⟨p++[x],by grind,rfl⟩,rfl⟩;simp only;rw[rl hi,UN,VZ,U0 b,Vi b (by omega),eG]
   grind),Ug]
 simp only
 rw[WQ (l:=L.2) (σ:=List Job) (s:=((0:Int),((0:Int),(((0:Int),(([]:List (List Vt)),(([]:List Job),(0:Int)))),(L.1,(L.2,(([]:List Job),next))))))) (λi js=>((0:Int),((i:Int),(((0:Int),(([]:List (List Vt)),(([]:List Job),(0:Int)))),(L.1,(L.2,(js,next))))))) (λls i js=>js++(Vr i ls).map (Zh s L a)=(Vr 0 L.2).map (Zh s L a)) (λ_ _ _=>(0,(((0:Int),((L.2.length:Int),(((0:Int),(([]:List (List Vt)),(([]:List Job),(0:Int)))),(L.1,(L.2,((Vr 0 L.2).map (Zh s L a),next)))))),()))) [] rfl (by omega) rfl (λm h=>by
  simp_all[re,Ta,Vr]) (λi rs ls m hd b hi h=>by
   have k:Vh L.2 i=rs:=by unfold Vh;rw[b];rfl
   have f:=(v.own i).1;rw[k]at f;refine⟨m++(if rs.length=2 then[Zh s L a i]else[]),?_,?_,rfl⟩
   ·simp only;rw[rl hi,UN,VZ,U0 b,VE]
    have r:m.length<=1000:=by
     have d:=congrArg ta h;have o:=Yj L.2 0
     grind
    by_cases d:rs.length=2;rotate_left
    ·rw[zy (by omega),zx d,iz,Vi b (by omega)]
    rw[zx (by omega),zy d,eE g];have c:Zh s L a i=(if(i:Int)=a then zn else WW s.2.1 i).getD (aU L i):=rfl
    cases e:(if(i:Int)=a then zn else WW s.2.1 (i:Int))with
    |none=>
     rw[e,vv]at c;rw[c,lD v (by simp_all),WH,VM,zx (show ¬ VT (zn:Option Job)=zt by simp[VT]),Ug];simp only;rw[VF,zy rfl,Vz (by grind [A0,dc,eb]),Vi b (by omega)];rfl
    |some j=>
     rw[e,iP]at c;rw[c,WH,VM,zy (show VT (zo j)=zt from rfl),Vz (by grind [A0,dc,eb]),Vi b (by omega)];rfl
   grind [hI,Z7]),Ug]
 rfl
end
section
open Go Sv
def pS(s:WL):Option Xk:=if s.1=zt then zo s.2.1 else zn
theorem Asc.weak:∀ {l:List VY} {p c:Option Xk},(∀ a,c=zo a -> ∃ q,p=zo q/\UB q a=zf)->Asc p l->Asc c l
 |[],_,_,_,_=>trivial
 |x::l,p,c,h,⟨d,f⟩=>⟨λa b=>by
  obtain⟨q,e,j⟩:=h a b;have g:=d q e;by_cases i:a=q
  ·simp_all
  ·exact Wq (aN j (λe=>i e.symm)) g,f⟩
theorem fj:∀ (l:List VY) (s:WL),bu s l->Asc (pS s) (Xj s l)
 |[],_,_=>trivial
 |x::l,s,⟨_,f,g⟩=>by
  have i:=fj l _ g;have a:Asc (zo x.1) (Xj (zt,(x.1,s.2.2)) l):=i;unfold Xj;by_cases d:keep s x=zt
  ·rw[zy d];refine⟨λq b=> ?_,a⟩;unfold pS at b;by_cases c:s.1=zt
   ·rw[zy c]at b;cases b;refine aN (f c) λe=> ?_
    simp_all[keep]
   simp_all
  ·rw[zx d,q0];refine a.weak λj h=>⟨x.1,rfl,?_⟩
   simp_all[pS,zy,zx]
theorem fo:∀ {l:List VY} {s:WL} {x:VY},x∈Xj s l->x∈l
 |y::l,s,x,h=>by
  unfold Xj at h;rcases ox.1 h with h|h
  ·simp_all
  ·exact List.mem_cons_of_mem _ (fo h)
theorem jY:∀ {l:List VY} {s:WL},bu s l -> ∀ x∈l,kE x=0
 |y::l,s,⟨b,_,a⟩,x,h=>by
  rcases li.1 h with e|h
  ·simp_all
  ·exact jY a x h
theorem lz{a b:List VY}(va:VL a)(h:VL b)(c:Bool){k:Nat}(f:k<=a.length+b.length)(j:a.length+b.length<=5000):VL (XC a b c k).2.2.1/\(XC a b c k).2.2.1.length<=a.length+b.length:=by
 have d:=Yn va h c f
 have i:(Xj (s0 c) (Vo a b k)).length<=k:=by
  have:=Zt (s0 c) (Vo a b k)
  simp_all[Wg]
 have e:(XC a b c k).2.2.1=Xj (s0 c) (Vo a b k):=rfl;rw[e];exact⟨⟨by omega,λx g=>jY d x (fo g),fj _ _ d⟩,by omega⟩
theorem iB{L:Vb}(v:VLev L){n:Nat}(h:Vh L.2 n≠[]):Xq (L,(n:Int))=zo (Wv L n [],(Vh L.2 n,0)):=by
 have a:n<L.2.length:=by
  grind [Vh,a9]
 have c:=v.len;have b:=(v.own n).1;unfold Xq;simp only[Vd,Vc];rw[ez v,Ug,zx (by omega),VF,zy rfl,VE,zy (by omega),VZ,U0 (aD a),jO,zx h,cG (by omega) (by omega),Ug,Vz (by omega)]
theorem jy{S β:Type}{f:S->Option (LR S β)}{r:β}(mk:Int->S)(n:Nat){s:S}(b:s=mk ((n:Int)-1))(d:n<1000000)(hs:∀ k,k<n->f (mk (k:Int))=zo (.nx (mk ((k:Int)-1))))(c:f (mk (-1))=zo (.dn r)):loop f s=zo r:=by
 subst b
 have a:∀ k,k<=n->Iu (k+1) f (mk ((k:Int)-1))=zo r:=by
  intro k
  induction k with
  |zero=>intro _;exact WG c
  |succ k e=>
   grind [V7]
 exact Wx (by omega) (a n (ed _))
theorem gD{L:Vb}(v:VLev L){n:Nat}(m:n<12){x:Vt}(p:x.2.length<=1048576)(b:∀ y∈L.2.flatten,y.1≠x.1)(j:(Vh L.2 n).length<2) :
  WK (L,((n:Int),x))=zo (if kR [] (WM L.1 n) x≠0 then((0,[]),kR [] (WM L.1 n) x)else(Wv L n (Vh L.2 n++[x]),0)):=by
 have o:=v.len;unfold WK;simp only[Vd,Vc];rw[ez v,Ug,zx (by omega),VF,zy rfl,cC v.B1 v.B2 (by omega),eC x _ (by omega),show TM (n:Int) 0=zt by rfl];rw[rS,Ug,VF];by_cases a:kR [] (WM L.1 n) x=0;rotate_left
 ·simp_all
 rw[zy a,zx (by simp[a])]
 rw[WQ (l:=L.2) (σ:=Unit) (s:=((0:Int),(((0:Int),([]:List (List Vt))),(0:Int)))) (λi _=>((i:Int),(((0:Int),([]:List (List Vt))),(0:Int)))) (λ_ _ _=>True) (λ_ _ _=>(0,(((L.2.length:Int),(((0:Int),([]:List (List Vt))),(0:Int))),()))) () rfl (by omega) trivial (λ_ _=>by
  simp only;rw[re];rfl) (λi rs ls _ hd hi c _=>by
   refine⟨(),?_,trivial,rfl⟩;have e:Vh L.2 i=rs:=by unfold Vh;rw[hi];rfl
   have f:=(v.own i).1;rw[e]at f;simp only;rw[rl c,UN,VZ,U0 hi,UU (by omega)]
   rw[jy (λk=>(k,(((0:Int),([]:List (List Vt))),(0:Int)))) rs.length rfl (by omega) (λk a=>by
    have h:rs[k]?=zo rs[k]:=ci a;have d:rs[k].1≠x.1:=b _ (hM.2 ⟨rs,bl hi,List.getElem_mem a⟩);simp only
    rw[VB,zy (by omega),VZ,U0 h,VA,zx d,UU (by omega)]) (r:=(0,(((-1:Int),(((0:Int),([]:List (List Vt))),(0:Int))),()))) rfl,Ug]
   rw[Vi hi (by omega)]
   rfl),Ug]
 rw[Uh,zy rfl,VE];by_cases g:n<L.2.length
 ·rw[zy (by omega),VZ,U0 (aD g),VA,zx (by omega),VZ,VZ,Vz (ed _),Un,zy rfl,Vz (hU _)];have hs:Db (Vh L.2 n) 0 (Vh L.2 n).length=Vh L.2 n:=by unfold Db;simp
  rw[hs,Vz (by grind [A0,dc,eb]),cG (by omega) (by omega),Ug];rfl
 ·rw[zx (by omega)];have e:Vh L.2 n=[]:=by unfold Vh;rw[a9 (by omega)];rfl
  grind [Vz,cG,Ug]
end
section
open Go Sv
def zS:Va:=((0,[]),([],0))
def WZ(j:Job):List VY:=j.2.2.2.1
def bU(s:Va)(j:Job):Nat:=if Zb s.1 j=zt then j.1.toNat else j.1.toNat+1
def Xc(s:Va)(j:Job):Vb:=if WZ j=[]then Wv s.1 j.1.toNat []else Wv (Wv s.1 j.1.toNat []) (bU s j) (Vh (Wv s.1 j.1.toNat []).2 (bU s j)++[(s.2.2,WZ j)])
def bA(s:Va)(j:Job):Int:=if WZ j=[]then s.2.2 else s.2.2+1
def dF(s:Va)(j:Job):Va×Int:=
 if 0<V9 s.1 j\/Y8 s.1 j=zf then(zS,9)else if s.2.2>1000000/\WZ j≠[]then(zS,5)else(bI s (Xc s j) (bA s j) j.1,0)
theorem dw:∀ (ls:List (List Vt)) (i:Nat),(Vr i ls).Nodup /\ ∀ d∈Vr i ls,(i:Int)<=d
 |[],_=>⟨.nil,λ_ h=>by cases h⟩
 |rs::ls,i=>by
  obtain⟨a,b⟩:=dw ls (i+1);rw[Z7]
  grind
theorem VSt.nodup{s:Va}(v:VSt s):(s.2.1.map (·.1)).Nodup:=by rw[v.due];exact(dw _ _).1
theorem JobAt.out{L:Vb}{n:Nat}{j:Job}(g:JobAt L n j)(v:VLev L)(hs:(∀ r∈Vh L.2 n,r.2.length<=2000)):VL (WZ j)/\((WZ j).length:Int)<=2*WM L.1 n/\j.1=(n:Int)/\n<12/\Vh L.2 n≠[]:=by
 obtain⟨a,b,c,k,d,rfl,h,_,v0,v1⟩:=g;have m:Vh L.2 n=[a,b]:=by unfold Vh;rw[d];rfl
 have p:=hs a (by grind);have q:=hs b (by grind);have s:=((v.own n).2 a (by grind)).le;have t:=((v.own n).2 b (by grind)).le;obtain⟨e,f⟩:=lz v1 v0 c h (by omega);have l:=(a8.1 d).1;have o:=v.len;refine⟨e,?_,rfl,by omega,by grind⟩
 have i:((WZ ((n:Int),XC b.2 a.2 c k)).length:Int)<=(b.2.length:Int)+(a.2.length:Int):=by
  have:(WZ ((n:Int),XC b.2 a.2 c k)).length<=b.2.length+a.2.length:=f;omega
 omega
def sF(L:Vb):Prop:=∀ i,∀ r∈Vh L.2 i,r.2.length<=2000
structure InstF (s:Va) (n:Nat) (j:Job):Prop where
 l1:VLev (Wv s.1 n [])
 to12:WZ j≠[]->bU s j<12
 vr:WZ j≠[]->VR (WM s.1.1 (bU s j)) (s.2.2,WZ j)
 id:∀ y∈(Wv s.1 n []).2.flatten,y.1≠s.2.2
 room:WZ j≠[]->(Vh (Wv s.1 n []).2 (bU s j)).length<2
 lev:VLev (Xc s j)
theorem lQ{s:Va}(v:VSt s)(u:sF s.1){n:Nat}{j:Job}(t:JobAt s.1 n j)(B:¬ 0<V9 s.1 j)(hc:Y8 s.1 j=zt)(r:WZ j≠[]->s.2.2<=1000000):InstF s n j:=by
 obtain⟨z,D,E,k,F⟩:=t.out v.lev (u n);have c:=v.lev.leave (n:=n) k;have f:j.1.toNat=n:=by omega
 have g:Zb s.1 j≠zt->n+1<12/\(Vh s.1.2 (n+1)).length<2:=λhs=>by
  grind [Y8,decide,V9,ca,Vh]
 have b:∀ y∈(Wv s.1 n []).2.flatten,y.1≠s.2.2:=λy x=>by
  obtain⟨p,q,C,o⟩:=ZT s.1 n [];rw[o,q0]at x
  have w:y∈s.1.2.flatten:=by
   grind
  have:=bc w;have:=v.n3;omega
 have h:bU s j<12/\(Vh (Wv s.1 n []).2 (bU s j)).length<2/\((WZ j).length:Int)<=WM s.1.1 (bU s j):=by
  unfold bU;by_cases hs:Zb s.1 j=zt
  ·rw[zy hs,f];refine⟨k,by rw[ZW,zy rfl];simp,?_⟩;have a:=hs;unfold Zb at a;rw[f]at a;exact of_decide_eq_true a
  simp_all[zx,ZW,eJ]
 obtain⟨l,m,A⟩:=h;have e:WZ j≠[]->VR (WM s.1.1 (bU s j)) (s.2.2,WZ j):=λd=>⟨v.n1,r d,z,d,A⟩;refine⟨c,λ_=>l,e,b,λ_=>m,?_⟩;unfold Xc;rw[f];by_cases i:WZ j=[]
 ·simp_all
 ·rw[zx i];exact c.arrive l m (e i) b
theorem d6{s:Va}(v:VSt s)(u:sF s.1){n:Nat}{j:Job}(t:JobAt s.1 n j)(w:¬ 0<V9 s.1 j)(hc:Y8 s.1 j=zt)(y:WZ j≠[]->s.2.2<=1000000)(l:Int) :
  (bd (Xq (s.1,(n:Int))) λc=>br (PW c.2.2 0) (λ_=>br (Ut (LN (AQ j.2.2.2.1)) 0) (λ_=>bd (WO (s,(j,l))) λK=>br (IR K) (λ_=>bd (WK ((c.1,(Tk .i64 (n:Int) 1,(s.2.2,j.2.2.2.1))))) λm=>br (TN m.2 0) (λ_=>zo ((((0,[]),([],0)),m.2))) λ_=>bd (V0 ((s,(m.1,(Tk .i64 s.2.2 1,(n:Int)))))) λL=>zo L) λ_=>bd (WK ((c.1,((n:Int),(s.2.2,j.2.2.2.1))))) λo=>br (TN o.2 0) (λ_=>zo ((((0,[]),([],0)),o.2))) λ_=>bd (V0 ((s,(o.1,(Tk .i64 s.2.2 1,(n:Int)))))) λM=>zo M) λ_=>br (TN c.2.2 0) (λ_=>zo ((((0,[]),([],0)),c.2.2))) λ_=>bd (V0 ((s,(c.1,(s.2.2,(n:Int)))))) λN=>zo N) λ_=>br (TN c.2.2 0) (λ_=>zo ((((0,[]),([],0)),c.2.2))) λ_=>bd (V0 ((s,(c.1,(s.2.2,(n:Int)))))) λk=>zo k)
  = zo (bI s (Xc s j) (bA s j) j.1,0):=by
 have F:=lQ v u t w hc y;obtain⟨G,O,i,I,J⟩:=t.out v.lev (u n);have g:j.1.toNat=n:=by omega
 have D:=v.n2;have C:=v.n1;have A:=v.jsmall;have a:=F.lev;rw[iB v.lev J,Ug];show(br (PW 0 0) _ _)=_;rw[VA,zy rfl,Vd,Vc,VC];by_cases e:WZ j=[]
 ·rw[zx (show ¬ ((j.2.2.2.1.length:Int)>0) by rw[show j.2.2.2.1=[]from e];simp),VF,zy rfl];unfold Xc at a ⊢;rw[zy e,g]at a;rw[zy e,g,cV v.nodup (by omega) a,Ug];unfold bA
  simp_all
 ·rw[zy (show((j.2.2.2.1.length:Int)>0) by have:=en.2 e;have h:(WZ j).length=j.2.2.2.1.length:=rfl;omega),ga v.lev i I,Ug,WH];have E:(WZ j).length<=1048576:=by have:=G.len;omega
  have B:kR [] (WM (Wv s.1 n []).1 (bU s j)) (s.2.2,WZ j)=0:=lW.2 ⟨F.vr e,by simp⟩;have f:=gD F.l1 (F.to12 e) (x:=(s.2.2,WZ j)) E F.id (F.room e);rw[zx (by simp[B])]at f
  have z:Xc s j=Wv (Wv s.1 n []) (bU s j) (Vh (Wv s.1 n []).2 (bU s j)++[(s.2.2,WZ j)]):=by
   unfold Xc;simp_all
  have q:bA s j=s.2.2+1:=by unfold bA;grind
  rw[<- z]at f;have p:Tk .i64 s.2.2 1=s.2.2+1:=US (by omega);have r:=cV v.nodup (by omega) a (s.2.2+1) (n:Int);rw[VM];have b:bU s j=if Zb s.1 j=zt then n else n+1:=by unfold bU;rw[g]
  by_cases hs:Zb s.1 j=zt
  ·rw[zy hs]at b ⊢;rw[b]at f;have d:WK (Wv s.1 n [],((n:Int),(s.2.2,j.2.2.2.1)))=zo (Xc s j,0):=f;rw[d,Ug,VF,zy rfl,p,r,Ug,q,i]
  ·rw[zx hs]at b ⊢;rw[b]at f;rw[Ve (by omega)];have d:WK (Wv s.1 n [],(((n+1:Nat):Int),(s.2.2,j.2.2.2.1)))=zo (Xc s j,0):=f;rw[d,Ug,VF,zy rfl,p,r,Ug,q,i]
theorem gi{s:Va}(m:Sm s)(k:sF s.1)(a:Int):YP (s,a)=zo (aT zS dF s a):=by
 unfold YP;rw[lA m,Ug];unfold aT;by_cases b:(Vg s).2=0;rotate_left
 ·rw[zy b,VF,zx b,zy b];rfl
 rw[zx (show ¬ (Vg s).2≠0 by simp[b]),zx (show ¬ (Vg s).2≠0 by simp[b])];have v:=WJ.1 b;unfold fO;cases p:cg a 0 (Vr 0 s.1.2)with
 |none=>rfl
 |some i=>
  obtain⟨j,n,l,o,f,g,q⟩:=v.at p;have:=v.lev.len;subst o;simp only[l];unfold WI dF;rw[VF,zy rfl,Ug,VC];by_cases e:0<V9 s.1 j
  ·rw[zy (show((V9 s.1 j:Int))>0 by omega),zy (.inl e)];rfl
  rw[zx (show ¬ ((V9 s.1 j:Int))>0 by omega),gp v.lev f (by omega) _ rfl,Ug,WH,VM];by_cases hc:Y8 s.1 j=zt;rotate_left
  ·rw[zx hc,zy (.inr (by grind))];rfl
  rw[zy hc,zx (show ¬ (0<V9 s.1 j\/Y8 s.1 j=zf) by simp_all),VC];by_cases d:s.2.2>1000000
  ·rw[zy d,Vd,Vc,VC];by_cases c:WZ j=[]
   ·rw[zx (show ¬ ((j.2.2.2.1.length:Int)>0) by rw[show j.2.2.2.1=[]from c];simp),zx (by simp[c])];exact d6 v k g e hc (λh=>absurd c h) _
   ·rw[zy (show((j.2.2.2.1.length:Int)>0) by have:=en.2 c;have h:(WZ j).length=j.2.2.2.1.length:=rfl;omega),zy ⟨d,c⟩];rfl
  ·rw[zx d,zx (by simp[d])];exact d6 v k g e hc (λh=>by omega) _
end
section
open Go Sv
def ak(L:Vb)(j:Job):ZH:=match Vh L.2 j.1.toNat with
 |[r0,r1]=>XC r1.2 r0.2 j.2.2.1.2.2 (j.2.2.2.2.toNat+1)
 |_=>j.2
def dS(s:Va)(j:Job):Va:=(s.1,(lset s.2.1 ((cg j.1 0 (Vr 0 s.1.2)).getD 0) (j.1,ak s.1 j),s.2.2))
theorem mD{s:Va}(m:Sm s)(v:VSt s){a:Int}{i:Nat}(q:cg a 0 (Vr 0 s.1.2)=zo i){j:Job}(e:s.2.1[i]?=zo j)(r:0<V9 s.1 j):aa (s,(a,1))=zo (dS s j,(1,0)):=by
 obtain⟨j',n,f,x,t,p,B⟩:=v.at q;rw[e]at f;cases f;subst x;have z:(Vg s).2=0:=WJ.2 v
 have h:bZ s (n:Int)=((i:Int),0):=by
  simp_all[bZ,zx,Vg]
 have u:=v.jsmall;have hi:=(a8.1 e).1;unfold aa;rw[chk m,Ug,VF,zy z,VE,zx (show ¬ ((1:Int)<0) by omega),eY m,Ug,h,VF,zy rfl,VZ,U0 e,(JobAt.left p).1,Ug,VA,zx (show ¬ ((V9 s.1 j:Int)=0) by omega),VZ,U0 e];obtain⟨b,c,d,k,o,rfl,w,A,v0,v1⟩:=p;have y:Vh s.1.2 n=[b,c]:=by unfold Vh;rw[o];rfl
 have l:V9 s.1 ((n:Int),XC c.2 b.2 d k)=c.2.length+b.2.length-k:=by
  unfold V9;simp only[bo,o];rfl
 rw[l]at r;have g:=eK v1 v0 d w (k:=1);rw[show min 1 (c.2.length+b.2.length-k)=1 by omega]at g;show(bd (WS (XC c.2 b.2 d k,((1:Nat):Int))) λC=>_)=_;rw[g,Ug];simp only;rw[VF,zy rfl];unfold Xs;rw[Vz (by simp only[AQ];omega),Ug,VZ,Uq,zy (by simp only[AQ];exact hi),U0 e];unfold dS ak;simp only[bo,y,q,iP];have e1:(XC c.2 b.2 d k).2.1.2.2=d:=eP _ _ _ _;have e2:(XC c.2 b.2 d k).2.2.2.toNat=k:=by rfl
 simp_all
def aj(s:Va)(j:Job):Va×(Bool×Int):=if Y8 s.1 j=zf then(zS,(zf,9))else if 0<V9 s.1 j then(dS s j,(zf,0))else((dF s j).1,(PW (dF s j).2 0,(dF s j).2))
def Zl(s:Va)(a:Int):Va×(Bool×Int):=if(Vg s).2≠0 then(zS,(zf,(Vg s).2))else match fO s a with
 |some j=>aj s j
 |none=>(zS,(zf,4))
theorem jF{s:Va}(m:Sm s)(g:sF s.1)(a:Int):YQ (s,a)=zo (Zl s a):=by
 unfold YQ;rw[lA m,Ug,gi m g];unfold aT Zl;by_cases b:(Vg s).2=0;rotate_left
 ·rw[zy b,VF,zx b,zy b];rfl
 rw[zx (show ¬ (Vg s).2≠0 by simp[b]),zx (show ¬ (Vg s).2≠0 by simp[b]),zx (show ¬ (Vg s).2≠0 by simp[b])];have v:=WJ.1 b;unfold fO;cases f:cg a 0 (Vr 0 s.1.2)with
 |none=>rfl
 |some i=>
  obtain⟨j,n,e,k,d,h,l⟩:=v.at f;have:=v.lev.len;simp only[e];unfold aj WI;rw[VF,zy rfl,gp v.lev d (by omega) _ rfl,Ug,WH,VM];cases hc:Y8 s.1 j with
  |false=>rfl
  |true=>
   rw[zy rfl,zx (by simp),Ug,VC];by_cases c:0<V9 s.1 j
   ·rw[zy (show((V9 s.1 j:Int))>0 by omega),zy c,mD m v f e c];rfl
   ·rw[zx (show ¬ ((V9 s.1 j:Int))>0 by omega),zx c];rfl
end
section
open Go Sv
theorem jR{ls:List (List Vt)}{d:Int}(h:d∈Vr 0 ls):∃ (n:Nat) (a b:Vt),d=(n:Int)/\ls[n]?=zo [a,b]:=by
 obtain⟨k,c⟩:=co h;obtain⟨n,e,a,b,f⟩:=ZS c
 grind
theorem fw{l:List (List Vt)}{n:Int}(b:0<n)(h:∀ x∈l.flatten,x.1<n):X6 l<n:=by
 have e:∀ (rs:List Vt) (m:Int),m<n->(∀ x∈rs,x.1<n)->rs.foldl (λm r=>VP m r.1) m<n:=by
  intro rs
  induction rs with
  |nil=>simp_all
  |cons r rs d=>
   grind [Zf]
 have two:∀ (ls:List (List Vt)) (m:Int),m<n->(∀ rs∈ls,∀ x∈rs,x.1<n)->ls.foldl (λm rs=>rs.foldl (λm r=>VP m r.1) m) m<n:=by
  intro ls
  induction ls with
  |nil=>simp_all
  |cons rs ls d=>
   grind
 exact two l 0 b λrs a x c=>h x (hM.2 ⟨rs,a,c⟩)
theorem rU{l:List (List Vt)}(c:l.getLast? ≠ zo []){n:Nat}(a:Vh l n≠[])(b:∀ i,n<i->Vh l i=[]):l.length=n+1:=by
 grind [Vh,a9,aD]
theorem g9{js:List Job}{d:Int}{j:Job}(h:WW js d=zo j):j∈js/\j.1=d:=by
 grind [WW,fy,XS]
theorem lC{L:Vb}(v:VLev L){n:Nat}{a b:Vt}(h:L.2[n]?=zo [a,b]):JobAt L n (aU L (n:Int)):=by
 have c:Vh L.2 n=[a,b]:=by unfold Vh;rw[h];rfl
 refine⟨a,b,decide ((n:Int)=(L.2.length:Int)-1),0,h,?_,hU _,λhd=> ?_,VR.vl' v (n:=n) (by grind),VR.vl' v (n:=n) (by grind)⟩
 ·grind [aU,bo]
 grind
theorem qy{s:Va}(v:VSt s){L:Vb}(t:VLev L){next a:Int}(E:1<=next)(F:next<=1000001)(G:∀ x∈L.2.flatten,x.1<next)
  (I:∀ (n:Nat) (c f:Vt),s.1.2[n]?=zo [c,f]->(n:Int)≠a->(∃ l o,L.2[n]?=zo [l,o])->L.2[n]?=zo [c,f]/\(n+1=s.1.2.length->n+1=L.2.length)):VSt (bI s L next a):=by
 have b:∀ d∈Vr 0 L.2,(Zh s L a d).1=d /\ ∃ n,JobAt L n (Zh s L a d):=λd hd=>by
  obtain⟨n,l,o,rfl,q⟩:=jR hd;unfold Zh;cases r:(if(n:Int)=a then zn else WW s.2.1 (n:Int))with
  |none=>
   rw[vv];have g:=lC t q;refine⟨?_,n,g⟩;obtain⟨_,_,_,_,_,e,_⟩:=g;rw[e]
  |some j=>
   rw[iP];by_cases p:(n:Int)=a
   ·grind
   rw[zx p]at r;obtain⟨h,i⟩:=g9 r;refine⟨i,n,?_⟩;obtain⟨m,c,f,D,k,u,rfl,w,y,z,A⟩:=v.job j h;have J:m=n:=by omega
   subst J;obtain⟨B,C⟩:=I m c f u p ⟨l,o,q⟩;exact⟨c,f,D,k,B,rfl,w,λg=>C (y g),z,A⟩
 refine⟨t,E,F,fw (by show 0<next;omega) G,?_,λj h=> ?_⟩
 ·show((Vr 0 L.2).map (Zh s L a)).map (·.1)=Vr 0 L.2;rw[List.map_map]
  conv=>rhs;rw[<- List.map_id (Vr 0 L.2)]
  exact List.map_congr_left λd hd=>(b d hd).1
 ·obtain⟨d,hd,rfl⟩:=eo.1 h;exact(b d hd).2
theorem aF{l:List (List Vt)}{n:Nat}{a b:Vt}:l[n]?=zo [a,b]<->Vh l n=[a,b]:=by
 grind [Vh]
theorem XU{s:Va}{j:Job}{n:Nat}(b:j.1.toNat=n)(i:Nat):Vh (Xc s j).2 i=if WZ j≠[]/\i=bU s j then(if i=n then[]else Vh s.1.2 i)++[(s.2.2,WZ j)]else if i=n then[]else Vh s.1.2 i:=by
 unfold Xc;rw[b];by_cases a:WZ j=[]
 ·rw[zy a,zx (by simp[a]),ZW]
 simp_all[zx,ZW,zy]
theorem lR{s:Va}(v:VSt s)(f:sF s.1){n:Nat}{j:Job}(d:JobAt s.1 n j)(p:¬ 0<V9 s.1 j)(hc:Y8 s.1 j=zt)(q:WZ j≠[]->s.2.2<=1000000):VSt (bI s (Xc s j) (bA s j) j.1):=by
 have F:=lQ v f d p hc q;obtain⟨M,N,I,O,P⟩:=d.out v.lev (f n);have g:j.1.toNat=n:=by omega
 have z:=v.n1;have A:=v.n2
 have c:s.2.2<=bA s j/\bA s j<=1000001/\(WZ j≠[]->s.2.2<bA s j):=by
  unfold bA
  grind
 refine qy v F.lev (by omega) c.2.1 (λx G=> ?_) (λm l o t r K=> ?_)
 ·obtain⟨i,hi⟩:=dM.1 G;rw[XU g]at hi
  have h:∀ {y:Vt},y∈(if i=n then[]else Vh s.1.2 i)->y.1<bA s j:=fun {y} k=>by
   by_cases a:i=n
   ·simp_all
   ·rw[zx a]at k;have:=bc (dM.2 ⟨i,k⟩);have:=v.n3;omega
  grind
 ·have u:m≠n:=λe=>r (by rw[I,e]);have w:Vh s.1.2 m=[l,o]:=aF.1 t
  have E:¬ (WZ j≠[]/\m=bU s j):=λ⟨C,L⟩=>by
   have:=F.room C
   simp_all[ZW,zx]
  have b:Vh (Xc s j).2 m=[l,o]:=by simp_all[XU,zx]
  refine⟨aF.2 b,λJ=>(rU F.lev.last (by simp_all) λi hi=> ?_).symm⟩;have a:Vh s.1.2 i=[]:=by unfold Vh;grind
  have B:n<s.1.2.length:=by
   grind [Vh,a9]
  have D:bU s j<=n+1:=by unfold bU;grind
  rw[XU g,zx (by omega),a]
  grind
theorem Job.steps{L:Vb}{n:Nat}{j:Job}(f:JobAt L n j)(h:0<V9 L j):JobAt L n (j.1,ak L j):=by
 obtain⟨b,c,a,k,d,rfl,l,g,v0,v1⟩:=f;have i:=aF.1 d
 have e:V9 L ((n:Int),XC c.2 b.2 a k)=c.2.length+b.2.length-k:=by
  unfold V9;simp only[bo,d];rfl
 rw[e]at h;refine⟨b,c,a,k+1,d,?_,by omega,g,v0,v1⟩;unfold ak;simp only[bo,i];have e1:(XC c.2 b.2 a k).2.1.2.2=a:=eP _ _ _ _;have e2:(XC c.2 b.2 a k).2.2.2.toNat=k:=by rfl
 rw[e1,e2]
theorem mF{s:Va}(v:VSt s){j:Job}{i n:Nat}(c:cg j.1 0 (Vr 0 s.1.2)=zo i)(d:s.2.1[i]?=zo j)(b:JobAt s.1 n j)(a:0<V9 s.1 j):VSt (dS s j):=by
 unfold dS;rw[c,iP];refine⟨v.lev,v.n1,v.n2,v.n3,?_,λx hx=> ?_⟩
 ·show(s.2.1.set i (j.1,ak s.1 j)).map (·.1)=_;rw[<- v.due,List.map_set];refine xa λk=> ?_<;>grind
 ·rcases List.mem_or_eq_of_mem_set hx with hx|hx
  ·exact v.job x hx
  ·rw[hx];exact⟨n,Job.steps b a⟩
end
section
open Go Sv
end
section
open Go Sv
end
section
open Go Sv
end
section
open Go Sv
theorem af{α β σ S:Type}{l:List α}(c:Nat)(e:c<=1000)(mk:Nat->σ->S)(I:Nat->σ->Prop)(Q:β->Prop){f:S->Option (LR S β)}{s:S}(a:σ)(d:s=mk 0 a)(hi:I 0 a)
  (g:∀ k a,(k=l.length\/k=c)->k<=l.length->I k a -> ∃ r,f (mk k a)=zo (.dn r)/\Q r)
  (hc:∀ k x a,l[k]?=zo x->k<c->I k a->(∃ b,f (mk k a)=zo (.nx (mk (k+1) b))/\I (k+1) b) \/ ∃ r,f (mk k a)=zo (.dn r)/\Q r):∃ r,loop f s=zo r/\Q r:=by
 refine Xd (l:=l.take c) mk (λ_ k a=>I k a/\k<=(l.take c).length) Q a d (by simp;omega) ⟨hi,by omega⟩ (λa h=>g _ a (by simp;omega) (by simp;omega) h.1) (λk x m a hd j i h=> ?_)
 grind
theorem bf{k c:Nat}(h:k<c):Uv (k:Int) (c:Int)=zt:=by unfold Uv;simp;omega
theorem lJ{α β:Type}{l:List α}{k c:Nat}(h:k=l.length\/k=c)(b:k<=l.length)(A B C:Option β)(e:B=C):br (Uv (k:Int) (l.length:Int)) (λ_=>br (Uv (k:Int) (c:Int)) (λ_=>A) λ_=>B) (λ_=>C)=C:=by
 rw[VE];by_cases a:(k:Int)<(l.length:Int)
 ·rw[zy a,VE,zx (by omega),e]
 grind
end
section
open Go Sv
end
section
open Go Sv
end
section
open Go Sv
def Vv(l:List VY)(k:Xk):Option VY:=l.find? λx=>decide (x.1=k)
theorem Vu(x:VY)(l:List VY)(k:Xk):Vv (x::l) k=if x.1=k then zo x else Vv l k:=by
 grind [Vv]
theorem Zv(l m:List VY)(k:Xk):Vv (l++m) k=(Vv l k).or (Vv m k):=by
 unfold Vv;simp_all
theorem ZE(x:VY)(k:Xk):Vv [x] k=if x.1=k then zo x else zn:=by rw[Vu];rfl
theorem dC{l:List VY}{k:Xk}{x:VY}(h:Vv l k=zo x):x.1=k/\x∈l:=by
 grind [Vv]
theorem ZU{l:List VY}{k:Xk}(h:∀ x∈l,x.1≠k):Vv l k=zn:=by
 grind [Vv,tw]
theorem Zn:∀ {l:List VY} {q:Xk},Asc (zo q) l -> ∀ x∈l,UB q x.1=zt
 |x::l,q,⟨a,b⟩,y,hy=>by
  rcases li.1 hy with e|hy
  ·simp_all
  ·exact Wq (a q rfl) (Zn b y hy)
theorem cc:∀ {l m:List VY} {p q:Option Xk},Asc p l->Asc q m->(∀ k,Vv l k=Vv m k)->l=m
 |[],[],_,_,_,_,_=>rfl
 |[],y::m,_,_,_,_,h=>by
  have:=h y.1;rw[Vu,zy rfl]at this;cases this
 |x::l,[],_,_,_,_,h=>by
  have:=h x.1;rw[Vu,zy rfl]at this;cases this
 |x::l,y::m,p,q,⟨t,f⟩,⟨s,d⟩,h=>by
  have e1:=h x.1;have e2:=h y.1;rw[Vu,zy rfl,Vu]at e1;rw[Vu,Vu,zy rfl]at e2
  have g:x.1=y.1:=by
   by_cases b:y.1=x.1
   ·grind
   ·rw[zx b]at e1;rw[zx (λe=>b e.symm)]at e2;have n:=Zn d x (dC e1.symm).2;have j:=Zn f y (dC e2).2;rw[WR n]at j;cases j
  rw[zy g.symm]at e1;have c:x=y:=Option.some.inj e1;subst c;refine congrArg (x::·) (cc f d λk=> ?_);have b:=h k;rw[Vu,Vu]at b;by_cases a:x.1=k
  ·have o:Vv l k=zn:=ZU λz i=>by
    have:=Zn f z i;rw[a]at this;exact λe=>Zs this e.symm
   have r:Vv m k=zn:=ZU λz i=>by
    have:=Zn d z i;rw[a]at this;exact λe=>Zs this e.symm
   rw[o,r]
  simp_all
theorem YJ(P:VY->Bool):∀ {l:List VY} {p:Option Xk},Asc p l->Asc p (l.filter P)
 |[],_,_=>trivial
 |x::l,p,⟨b,d⟩=>by
  have c:=YJ P d;rw[oj];cases P x with
  |true=>exact⟨b,c⟩
  |false=>
   refine c.weak λe a=>⟨x.1,rfl,?_⟩;exact WR (b e a)
theorem Xu(P:VY->Bool)(k:Xk):∀ {l:List VY} {p:Option Xk},Asc p l->Vv (l.filter P) k=(Vv l k).filter P
 |[],_,_=>rfl
 |x::l,p,⟨g,b⟩=>by
  have f:=Xu P k b;rw[oj,Vu];by_cases a:x.1=k
  ·rw[zy a]
   have h:Vv (l.filter P) k=zn:=ZU λz d=>by
    have:=Zn b z (List.mem_filter.1 d).1;rw[a]at this;exact λe=>Zs this e.symm
   cases c:P x with
   |true=>rw[zy rfl,Vu,zy a];grind
   |false=>grind
  ·rw[zx a];cases c:P x with
   |true=>rw[zy rfl,Vu,zx a];exact f
   |false=>grind
def Wz:List VY->VY->List VY
 |[],x=>[x]
 |y::l,x=>if UB y.1 x.1=zt then y::Wz l x else if y.1=x.1 then y::l else x::y::l
theorem fR(x:VY):∀ {l:List VY} {p:Option Xk},Asc p l->(∀ q,p=zo q->UB q x.1=zt)->Asc p (Wz l x)
 |[],p,_,hp=>⟨hp,trivial⟩
 |y::l,p,⟨c,a⟩,hp=>by
  unfold Wz;by_cases h:UB y.1 x.1=zt
  ·rw[zy h];exact⟨c,fR x a λq d=>by simp_all⟩
  ·rw[zx h];by_cases b:y.1=x.1
   ·rw[zy b];exact⟨c,a⟩
   ·rw[zx b];exact⟨hp,λq d=>by cases d;exact aN (by grind) b,a⟩
theorem fS(x:VY)(k:Xk):∀ {l:List VY} {p:Option Xk},Asc p l->Vv (Wz l x) k=(Vv l k).or (if x.1=k then zo x else zn)
 |[],_,_=>by unfold Wz;rw[ZE];rfl
 |y::l,p,⟨f,c⟩=>by
  unfold Wz;by_cases h:UB y.1 x.1=zt
  ·rw[zy h,Vu,Vu,fS x k c]
   grind
  ·rw[zx h];by_cases a:y.1=x.1
   ·rw[zy a,Vu,<- a]
    grind
   ·rw[zx a,Vu];have b:UB x.1 y.1=zt:=aN (by grind) a;by_cases d:x.1=k
    ·rw[zy d]
     have:Vv (y::l) k=zn:=ZU λz hz=>by
      rw[<- d];rcases li.1 hz with e|hz
      ·simp_all
      ·exact λe=>Zs (Wq b (Zn c z hz)) e.symm
     simp_all
    simp_all
theorem am(k:Xk):∀ (r l:List VY),Asc zn l->Asc zn (r.foldl Wz l)/\Vv (r.foldl Wz l) k=(Vv l k).or (Vv r k)
 |[],l,h=>⟨h,by show Vv l k=_;cases Vv l k<;>rfl⟩
 |x::r,l,h=>by
  obtain⟨a,b⟩:=am k r (Wz l x) (fR x h λ_ h=>by cases h)
  grind [fS,Vu]
def cb(rs:List Vt)(l:List VY):List VY:=rs.foldl (λout r=>r.2.foldl Wz out) l
def Wd:List Vt->Xk->Option VY
 |[],_=>zn
 |r::rs,k=>(Vv r.2 k).or (Wd rs k)
theorem bW(k:Xk):∀ (rs:List Vt) (l:List VY),Asc zn l->Asc zn (cb rs l)/\Vv (cb rs l) k=(Vv l k).or (Wd rs k)
 |[],l,h=>⟨h,by show Vv l k=_;cases Vv l k<;>rfl⟩
 |r::rs,l,h=>by
  obtain⟨a,b⟩:=am k r.2 l h;obtain⟨c,d⟩:=bW k rs (r.2.foldl Wz l) a;refine⟨c,?_⟩;show Vv (cb rs (r.2.foldl Wz l)) k=_;rw[d,b,kd];rfl
def Vf(x:VY):Bool:=!x.2.2.1
def Lw(L:Vb):List VY:=(cb (Vk L.2) []).filter Vf
theorem lX{L M:Vb}(h:∀ k,(Wd (Vk L.2) k).filter Vf=(Wd (Vk M.2) k).filter Vf):Lw L=Lw M:=by
 have a:=λk=>bW k (Vk L.2) [] trivial;have b:=λk=>bW k (Vk M.2) [] trivial;refine cc (YJ Vf (a []).1) (YJ Vf (b []).1) λk=> ?_;show Vv ((cb (Vk L.2) []).filter Vf) k=Vv ((cb (Vk M.2) []).filter Vf) k;rw[Xu Vf k (a []).1,Xu Vf k (b []).1,(a k).2,(b k).2];exact h k
theorem gB:∀ (a b:List Vt) (k:Xk),Wd (a++b) k=(Wd a k).or (Wd b k)
 |[],b,k=>rfl
 |r::a,b,k=>by
  show(Vv r.2 k).or (Wd (a++b) k)=((Vv r.2 k).or (Wd a k)).or (Wd b k);rw[gB a b k,kd]
theorem jZ:∀ {l:List VY} {s:WL} {k:Xk},bu s l->s.1=zt->UB k s.2.1=zt->Vv l k=zn
 |[],_,_,_,_,_=>rfl
 |x::l,s,k,⟨_,c,d⟩,b,hk=>by
  have a:UB k x.1=zt:=gY hk (c b);rw[Vu,zx (λe=>Zs a e.symm)];exact jZ d rfl a
theorem fm(k:Xk):∀ {l:List VY} {s:WL},bu s l->Vv (Xj s l) k=if s.1=zt/\s.2.1=k then zn else(Vv l k).filter λx=> !(s.2.2&&x.2.2.1)
 |[],s,_=>by unfold Xj;split<;>rfl
 |x::l,s,⟨_,f,b⟩=>by
  have c:=fm k b;simp only[true_and]at c;unfold Xj;rw[Zv,c,Vu];by_cases a:x.1=k
  ·rw[zy a,zy a];by_cases hs:s.1=zt/\s.2.1=k
   ·rw[zy hs];have:keep s x=zf:=by unfold keep;simp_all
    rw[this];rfl
   ·rw[zx hs]
    have:keep s x = !(s.2.2&&x.2.2.1):=by
     unfold keep
     grind
    rw[this];cases g:(!(s.2.2&&x.2.2.1))with
    |true=>rw[zy rfl,ZE,zy a];simp[oy,g]
    |false=>simp_all[zx,oy,Vv]
  ·rw[zx a,zx a]
   have d:Vv (if keep s x=zt then[x]else[]) k=zn:=by
    split
    ·rw[ZE,zx a]
    ·rfl
   rw[d,Option.none_or];by_cases hs:s.1=zt/\s.2.1=k
   ·rw[zy hs]
    have h:UB k x.1=zt:=by
     rw[<- hs.2];refine aN (f hs.1) λe=>a ?_<;>simp_all
    rw[jZ b rfl h];rfl
   simp_all
theorem dQ{a b:List VY}(va:VL a)(e:VL b)(k:Xk):∀ {n:Nat},n<=a.length+b.length->Vv (Vo a b n) k=(Vv (a.take (pos a b n).1) k).or (Vv (b.take (pos a b n).2) k)
 |0,_=>rfl
 |n+1,h=>by
  have C:=dQ va e k (n:=n) (by omega);obtain⟨p,hs⟩:=Xx va e (n:=n) (by omega);obtain⟨x,c,_⟩:=XH va e (n:=n) (by omega);rw[YL va e c,Zv,C,ZE];unfold cX at c;rw[show pos a b (n+1)=if ZV a b (pos a b n).1 (pos a b n).2=zt then((pos a b n).1+1,(pos a b n).2)else((pos a b n).1,(pos a b n).2+1)from rfl]
  revert c p;generalize (pos a b n).1=i;generalize (pos a b n).2=j;intro p c;cases g:ZV a b i j with
  |true=>
   rw[zy g]at c;rw[zy rfl];simp only;rw[ey,c,tb,Zv,ZE,kd,kd]
   congr 1
   by_cases w:x.1=k
   ·rw[zy w]
    have:Vv (b.take j) k=zn:=ZU λy B=>by
     obtain⟨m,f⟩:=co B;rw[List.getElem?_take]at f;split at f
     ·rename_i A;have u:=p.jb;have l:b[j-1]?=zo b[j-1]:=ci (by omega);have D:=p.pb (j-1) (by omega) _ x l c
      have E:UB b[j-1].1 y.1=zf:=by
       by_cases q:m=j-1
       ·subst q;rw[l]at f;cases f;exact Wu _
       ·have t:=e.asc
        have:∀ d,m+d+1<=j-1 -> ∀ z,b[m+d+1]?=zo z->UB y.1 z.1=zt:=by
         intro d
         induction d with
         |zero=>intro _ z r;exact e.lt f r
         |succ d s=>
          intro hd z r;have o:b[m+d+1]?=zo b[m+d+1]:=ci (by omega);exact Wq (s (by omega) _ o) (e.lt o r)
        exact WR (this (j-1-m-1) (by omega) _ (by grind))
      grind
     ·cases f
    grind
   simp_all
  |false=>
   rw[zx (show ¬ ZV a b i j=zt by grind)]at c;rw[zx (show ¬ (zf=zt) by decide)]
   simp_all[ey,tb,Zv,ZE,kd]
theorem rn{a b:List VY}(va:VL a)(e:VL b)(c:Bool)(k:Xk):Vv (XC a b c (a.length+b.length)).2.2.1 k=((Vv a k).or (Vv b k)).filter λx=> !(c&&x.2.2.1):=by
 have f:=Yn va e c (ed (a.length+b.length));obtain⟨d,hs⟩:=Xx va e (ed (a.length+b.length));show Vv (Xj (s0 c) (Vo a b (a.length+b.length))) k=_;rw[fm k f,zx (by simp),dQ va e k (ed _)];rw[ns (by have:=d.ia;have:=d.jb;omega),ns (by have:=d.ia;omega)]
end
end Go.Proofs.YtoefnfbpoabinaaGreatDoor.Pl
