/- Functions of the program and of the specification as plain functions, and laws about them. No condition. -/
import Derived.Test.YtoefnfbpoabinaaGreatDoorPl1
import Derived.KernelRfl
set_option linter.all false
open List renaming Sublist->yr, append_assoc->hM, append_nil->iP, drop_zero->tk, ext_getElem?->x9, filter_cons->oy, find?_eq_none->xn, flatten_append->xl, flatten_eq_nil_iff->tw, foldl_cons->hI, getElem?_eq_getElem->ci, getElem?_eq_none->a9, getElem?_eq_some_iff->a8, getElem?_map->i0, getElem?_of_mem->co, getLast?_eq_getElem?->lc, length->rz, length_cons->dc, length_nil->eb, length_pos_iff->eo, length_take->s7, map_cons->en, mem_append->o4, mem_cons->l4, mem_flatten->iz, mem_map->ey, mem_map_of_mem->xm, mem_of_getElem?->bl, nil_append->sw, nodup_append->sk, nodup_cons->gw, take_add_one->gs, take_of_length_le->oj
open Nat renaming le_refl->ee, lt_of_not_le->nb, min_eq_left->s8, sub_zero->l5, zero_add->gM, zero_le->hU
open Int renaming mul_le_mul->yo, toNat_natCast->bo, zero_add->x8
open Option renaming filter->rY, getD_none->xT, getD_some->kd, map_some->ol, or_assoc->li, toList_some->xk
open Bool renaming false_eq_true->ll
open UInt8 renaming lt_iff_toNat_lt->vv
open Option renaming some->zo, none->zn
open Bool renaming true->zt, false->zf
namespace Go.Proofs.YtoefnfbpoabinaaGreatDoor.Pl
section
open Go Sv
def kR(a:List Int)(most:Int)(r:VU):Int:=
 if r.1<1\/r.1>1000000 then 7 else if(XO r.2).2≠0 then(XO r.2).2 else if r.2.length=0 then 4 else if(r.2.length:Int)>most then 3 else if r.1∈a then 8 else 0
def ad(most:Int):Nat->List Int->List VU->Option (Nat×Int)
 |_,_,[]=>zn
 |k,ids,r::rs=>if kR ids most r≠0 then zo (k,kR ids most r)else ad most (k+1) (ids++[r.1]) rs
def Vx(B:Int)(i:Nat):Int:=B*2 ^ i
def aa(B:Int):Nat->List Int->List (List VU)->Option (Nat×(Nat×Int))
 |_,_,[]=>zn
 |i,ids,rs::ls=>if rs.length>2 then zo (i,(0,3))else match ad (Vx B i) 0 ids rs with
  |some (k,e)=>zo (i,(k,e))
  |none=>aa B (i+1) (ids++rs.map (·.1)) ls
def WZ(L:VA):Int×(Int×Int):=
 if L.1<1\/L.1>16 then(0,(0,7))else if L.2.length>12 then(0,(0,3))else match aa L.1 0 [] L.2 with
  |some (i,(k,e))=>((i:Int),((k:Int),e))
  |none=>if L.2.getLast?=zo []then(((L.2.length-1:Nat):Int),(0,6))else(0,(0,0))
theorem jR{most:Int}:∀ {rs:List VU} {k:Nat} {a:List Int} {b:Nat} {e:Int},ad most k a rs=zo (b,e)->e≠0
 |[],_,_,_,_,h=>by cases h
 |r::rs,k,a,b,e,h=>by
  unfold ad at h;by_cases c:kR a most r≠0
  ·simp_all
  ·rw[zx c]at h;exact jR h
theorem eL{B:Int}:∀ {ls:List (List VU)} {i:Nat} {a:List Int} {c d:Nat} {e:Int},aa B i a ls=zo (c,(d,e))->e≠0
 |[],_,_,_,_,_,h=>by cases h
 |rs::ls,i,a,c,d,e,h=>by
  unfold aa at h;by_cases f:rs.length>2
  ·grind
  ·rw[zx f]at h;cases b:ad (Vx B i) 0 a rs with
   |none=>rw[b]at h;exact eL h
   |some x=>rw[b]at h;cases h;exact jR b
def dL(a:List Int):List (Int×Bool):=a.map λi=>(i,zt)
theorem lT(c:List Int)(i:Int):TS (Mx (λa b=>PC a b) (dL c) i) zf=decide (i∈c):=by
 induction c with
 |nil=>rfl
 |cons j c d=>
  show TS (bif PC i j then zo zt else Mx (λa b=>PC a b) (dL c) i) zf=_
  rw[W3];by_cases h:i=j
  ·simp[h,TS]
  simp_all
theorem lV{c:List Int}{i:Int}(h:i ∉ c):Iq (λa b=>PC a b) (dL c) i zt=dL (c++[i]):=by
 induction c with
 |nil=>rfl
 |cons j c f=>
  show(bif PC i j then(i,zt)::dL c else(j,zt)::Iq (λa b=>PC a b) (dL c) i zt)=_
  rw[W3];have d:¬ i=j:=λe=>h (by simp[e]);rw[f (λe=>h (by simp[e]))];simp only[d,decide_false,zj];rfl
theorem eQ(r:VU)(a:r.2.length<=9223372036854775807):Yz r=zo (if r.1<1\/r.1>1000000 then(-1,7)else XO r.2):=by
 grind [Yz,Uo,Um,XP,UG]
theorem dh(r:VU)(most:Int)(b:r.2.length<=9223372036854775807):Wg (r,most)=zo (kR [] most r):=by
 unfold Wg kR;rw[eQ r b,UG];simp only[VC,VB];by_cases h:r.1<1\/r.1>1000000
 ·rw[zy h,zy h];rfl
 ·rw[zx h,zx h,Uq];by_cases a:(XO r.2).2=0
  ·rw[zy a,zx (by simp[a]),Uk,Um]
   grind
  simp_all
theorem uw(a:List Int)(most:Int)(r:VU):kR a most r=if kR [] most r=0 then(if r.1∈a then 8 else 0)else kR [] most r:=by
 grind [kR]
theorem vn(i:Nat)(h:i<=12):(2:Int) ^ i<=4096/\1<=(2:Int) ^ i:=by
 have a:(2:Nat) ^ i<=2 ^ 12:=Nat.pow_le_pow_right (by omega) h
 grind
theorem gG{B:Int}{i:Nat}(a:1<=B)(b:B<=16)(hi:i<=12):1<=Vx B i/\Vx B i<=65536:=by
 obtain⟨c,d⟩:=vn i hi;unfold Vx;constructor
 ·have:=yo a d (by omega) (by omega);omega
 ·have:=yo b c (by omega) (by omega);omega
theorem bW{B:Int}{i:Nat}(a:1<=B)(b:B<=16)(hi:i<=12):SM .i64 B (i:Int)=Vx B i:=by
 have c:=gG a b hi;unfold SM;rw[show min ((i:Int).toNat) IntKind.i64.bits=i by rw[bo];exact s8 (Nat.le_trans hi (by decide))];unfold Vx at c ⊢;exact IntWalk.i64_in _ (by omega)
def Q1:Option (Nat×(Nat×Int))->Int->Int->Int->Prop
 |some (i,(k,e)),a,b,c=>a=(k:Int)/\b=(i:Int)/\c=e
 |none,_,_,c=>c=0
def Q2(m:List (Int×Bool)):Option (Nat×Int)->Nat->Int->Int->List (Int×Bool)->Prop
 |some (k,e),r,a,c,_=>r=0/\a=(k:Int)/\c=e
 |none,r,_,c,m'=>r=1/\c=0/\m'=m
theorem ZC(L:VA)(hb:L.2.length<=1048576)(hr:∀ rs∈L.2,rs.length<=1048576 /\ ∀ r∈rs,r.2.length<=9223372036854775807):WC L=zo (WZ L):=by
 unfold WC WZ;simp only[VC,VB];rw[Uo,Um,Um];by_cases J:L.1<1
 ·simp_all
 rw[zx J];by_cases K:L.1>16
 ·simp_all
 rw[zx K,zx (show ¬ (L.1<1\/L.1>16) by omega)];by_cases hl:(L.2.length:Int)>12
 ·grind
 rw[zx hl,zx (by omega)];have hl2:L.2.length<=12:=by omega
 obtain⟨T,D⟩:∃ T,T=aa L.1 0 [] L.2:=⟨_,rfl⟩;rw[<- D]
 have A:∀ P:Int,P=0->T=zn->(br (Sx P 0) (λ_=>(zn:Option (Int×(Int×Int)))) λ_=>br (UT (L.2.length:Int) 0) (λ_=>S1 (TM .i64 (L.2.length:Int) 1) λM=>ix L.2 M λS=>br (PC (S.length:Int) 0) (λ_=>zo ((TM .i64 (L.2.length:Int) 1,(0,6)))) λ_=>zo ((0,(0,0)))) λ_=>zo ((0,(0,0))))=zo (if L.2.getLast?=zo []then(((L.2.length-1:Nat):Int),(0,6))else(0,(0,0))):=by
  intro P n _;rw[Uq,zy n,Um];by_cases Z:L.2=[]
  ·rw[Z];rfl
  ·have hp:=eo.2 Z;rw[zy (by omega),show TM .i64 (L.2.length:Int) 1=((L.2.length-1:Nat):Int) by rw[Tq (by omega)];omega,U8,lc];have o:L.2[L.2.length-1]?=zo (L.2[L.2.length-1]'(by omega)):=by simp
   rw[Ua o,o,Uk];by_cases he:L.2[L.2.length-1]'(by omega)=[]<;>simp_all
 obtain⟨r,O,b⟩:=XG (l:=L.2) (σ:=Int×(Int×List Int)) (λi j=>(j.1,(j.2.1,((0:Int),((i:Int),dL j.2.2)))))
  (λm i j=>aa L.1 i j.2.2 m=T) (λ(r:Nat×((Int×(Int×(Int×(Int×List (Int×Bool)))))×Unit))=>Q1 T r.2.1.1 r.2.1.2.1 r.2.1.2.2.1)
  (f:=λs0=>br (UV s0.2.2.2.1 (L.2.length:Int)) (λ_=>S1 s0.2.2.2.1 λk1=>ix L.2 k1 λW=>br (UT (W.length:Int) 2) (λ_=>zo (.dn ((0,((0,(s0.2.2.2.1,(3,s0.2.2.2))),()))))) λ_=>bd (loop (λa=>br (UV a.2.1 (W.length:Int)) (λ_=>S1 a.2.1 λN=>ix W N λp=>gd (Sw s0.2.2.2.1 0) λ_=>bd (Wg (p,SM .i64 L.1 s0.2.2.2.1)) λg=>br (PC g 0) (λ_=>br (TS (Mx ((λF=>(λG=>PC F G))) a.2.2.2 p.1) zf) (λ_=>zo (.dn ((0,((a.2.1,(a.2.1,(8,a.2.2.2))),()))))) λ_=>br (Sx g 0) (λ_=>zo (.dn ((0,((a.2.1,(a.2.1,(g,a.2.2.2))),()))))) λ_=>zo (.nx ((a.2.1,(TI .i64 a.2.1 1,(g,Iq ((λI=>(λw=>PC I w))) a.2.2.2 p.1 zt)))))) λ_=>br (Sx g 0) (λ_=>zo (.dn ((0,((a.2.1,(a.2.1,(g,a.2.2.2))),()))))) λ_=>zo (.nx ((a.2.1,(TI .i64 a.2.1 1,(g,Iq ((λx=>(λy=>PC x y))) a.2.2.2 p.1 zt)))))) λ_=>zo (.dn ((1,(a,()))))) ((0,(0,(s0.2.2.1,s0.2.2.2.2))))) λd=>br (neq d.1 0) (λ_=>zo (.dn ((0,((d.2.1.1,(s0.2.2.2.1,(d.2.1.2.2.1,(s0.2.2.2.1,d.2.1.2.2.2)))),()))))) λ_=>zo (.nx ((d.2.1.1,(s0.2.2.2.1,(d.2.1.2.2.1,(TI .i64 s0.2.2.2.1 1,d.2.1.2.2.2))))))) λ_=>zo (.dn ((0,(s0,())))))
  (s:=(0,(0,(0,(0,[]))))) (0,(0,[])) rfl (by omega) D.symm (λj h=>by
   refine⟨_,by simp only;rw[re];rfl,?_⟩;simp only at h ⊢;rw[<- h];exact rfl) (λi rs m j hd o hi h=>by
   obtain⟨s1,s2,c⟩:=j;simp only at h ⊢;obtain⟨hrs1,C⟩:=hr rs (bl o);rw[rl hi,Tj,U8,Ua o,Um];unfold aa at h;by_cases X:rs.length>2
   ·rw[zy (by omega)];rw[zy X]at h;refine .inr ⟨_,rfl,?_⟩;rw[<- h];exact⟨rfl,rfl,rfl⟩
   rw[zx (by omega)];rw[zx X]at h;obtain⟨U,Y⟩:∃ U,U=ad (Vx L.1 i) 0 c rs:=⟨_,rfl⟩;rw[<- Y]at h
   obtain⟨r,O,b⟩:=XG (l:=rs) (σ:=Int) (λk j=>(j,((k:Int),((0:Int),dL (c++(rs.take k).map (·.1))))))
    (λm k _=>ad (Vx L.1 i) k (c++(rs.take k).map (·.1)) m=U) (λ(r:Nat×((Int×(Int×(Int×List (Int×Bool))))×Unit))=>Q2 (dL (c++rs.map (·.1))) U r.1 r.2.1.1 r.2.1.2.2.1 r.2.1.2.2.2)
    (f:=λa=>br (UV a.2.1 (rs.length:Int)) (λ_=>S1 a.2.1 λN=>ix rs N λp=>gd (Sw (i:Int) 0) λ_=>bd (Wg (p,SM .i64 L.1 (i:Int))) λg=>br (PC g 0) (λ_=>br (TS (Mx ((λF=>(λG=>PC F G))) a.2.2.2 p.1) zf) (λ_=>zo (.dn ((0,((a.2.1,(a.2.1,(8,a.2.2.2))),()))))) λ_=>br (Sx g 0) (λ_=>zo (.dn ((0,((a.2.1,(a.2.1,(g,a.2.2.2))),()))))) λ_=>zo (.nx ((a.2.1,(TI .i64 a.2.1 1,(g,Iq ((λI=>(λw=>PC I w))) a.2.2.2 p.1 zt)))))) λ_=>br (Sx g 0) (λ_=>zo (.dn ((0,((a.2.1,(a.2.1,(g,a.2.2.2))),()))))) λ_=>zo (.nx ((a.2.1,(TI .i64 a.2.1 1,(g,Iq ((λx=>(λy=>PC x y))) a.2.2.2 p.1 zt)))))) λ_=>zo (.dn ((1,(a,())))))
    (s:=(0,(0,(0,dL c)))) 0 (by simp) (by omega) (by simp[Y]) (λj h=>by
     refine⟨_,by simp only;rw[re];rfl,?_⟩;rw[<- h];exact⟨rfl,rfl,by simp⟩) (λk r m j hd o hk h=>by
     simp only at h ⊢;have hr2:=C r (bl o);have htk:(rs.take (k+1)).map (·.1)=(rs.take k).map (·.1)++[r.1]:=by grind
     rw[rl hk,Tj,U8,Ua o,show gd (Sw (i:Int) 0)=λ(q:Unit->Option (LR (Int×(Int×(Int×List (Int×Bool)))) (Nat×((Int×(Int×(Int×List (Int×Bool))))×Unit))))=>q ()from by rfl,bW (by omega) (by omega) (by omega)];simp only;rw[dh _ _ (by omega),UG,Uk,lT,Uq];unfold ad at h;rw[uw]at h;by_cases n:kR [] (Vx L.1 i) r=0
     ·rw[zy n]at h;rw[zy n,zy n,WK];by_cases E:r.1∈c++(rs.take k).map (·.1)
      ·rw[zy E];rw[zy E,zy (by decide)]at h;refine .inr ⟨_,rfl,?_⟩;rw[<- h];exact⟨rfl,rfl,rfl⟩
      ·rw[zx E];rw[zx E,zx (by decide)]at h;refine .inl ⟨(k:Int),?_,?_⟩
       ·grind [lV,VH,hM]
       simp_all
     ·rw[zx n,zy n]at h;rw[zx n,zx n];refine .inr ⟨_,rfl,?_⟩;rw[<- h]
      exact⟨rfl,rfl,rfl⟩)
   rw[O,UG,UH];cases B:U with
   |some u=>
    obtain⟨k,e⟩:=u;rw[B]at b h;rw[zy b.1];refine .inr ⟨_,rfl,?_⟩;rw[<- h];exact⟨b.2.1,rfl,b.2.2⟩
   |none=>
    rw[B]at b h;rw[zx (show ¬ r.1=0 by have:=b.1;omega)];refine .inl ⟨(r.2.1.1,((i:Int),c++rs.map (·.1))),?_,h⟩
    rw[b.2.1,b.2.2,VH o (by omega)])
 refine VY O ?_;cases z:T with
 |some t=>
  obtain⟨i,k,e⟩:=t;rw[z]at b D;rw[Uq,zx (by rw[b.2.2];exact eL D.symm),b.1,b.2.1,b.2.2]
 |none=>
  rw[z]at b;have h:=A _ b z;have q3:r.2.1.2.2.1=0:=b;rw[Uq,zy q3]at h ⊢;exact h
end
section
open Go Sv
structure VR (most:Int) (r:VU):Prop where
 id1:1<=r.1
 id2:r.1<=1000000
 vl:VL r.2
 ne:r.2≠[]
 le:(r.2.length:Int)<=most
theorem lM{a:List Int}{most:Int}{r:VU}:kR a most r=0<->VR most r/\r.1 ∉ a:=by
 unfold kR;constructor
 ·intro h;by_cases c:r.1<1\/r.1>1000000
  ·omega
  rw[zx c]at h;by_cases d:(XO r.2).2≠0
  ·omega
  rw[zx d]at h;by_cases e:r.2.length=0
  ·omega
  rw[zx e]at h;by_cases f:(r.2.length:Int)>most
  ·omega
  rw[zx f]at h;by_cases b:r.1∈a
  ·simp_all
  exact⟨⟨by omega,by omega,bT.1 (by omega),by simp_all,by omega⟩,b⟩
 ·rintro⟨h,b⟩;rw[zx (by have:=h.id1;have:=h.id2;omega),zx (by simp[bT.2 h.vl]),zx (by have:=eo.2 h.ne;omega),zx (by have:=h.le;omega),zx b]
def sL(r:VU):Int:=r.1
theorem bh{most:Int}:∀ {rs:List VU} {k:Nat} {a:List Int},ad most k a rs=zn<->(∀ r∈rs,VR most r/\r.1 ∉ a)/\(rs.map sL).Nodup
 |[],k,a=>by simp[ad]
 |r::rs,k,a=>by
  unfold ad;by_cases h:kR a most r=0
  ·rw[zx (by simp[h]),bh (rs:=rs)];have f:=lM.1 h;simp only[l4,forall_eq_or_imp,en,gw,o4,List.not_mem_nil,or_false,ey,not_exists,not_and,not_or];constructor
   ·rintro⟨b,d⟩;exact⟨⟨f,λx c=>⟨(b x c).1,(b x c).2.1⟩⟩,λx c e=>(b x c).2.2 e,d⟩
   ·rintro⟨⟨_,b⟩,d,g⟩;exact⟨λx c=>⟨(b x c).1,(b x c).2,d x c⟩,g⟩
  ·rw[zy h];simp only[reduceCtorEq,false_iff,not_and];intro b;exact absurd (lM.2 (b r (by simp))) h
theorem aX{B:Int}:∀ {ls:List (List VU)} {i:Nat} {c:List Int},aa B i c ls=zn<->(∀ k rs,ls[k]?=zo rs->rs.length<=2 /\ ∀ r∈rs,VR (Vx B (i+k)) r/\r.1 ∉ c)/\(ls.flatten.map sL).Nodup
 |[],i,c=>by simp[aa]
 |rs::ls,i,c=>by
  unfold aa;by_cases h:rs.length>2
  ·rw[zy h];simp only[reduceCtorEq,false_iff,not_and];intro g;have:=(g 0 rs rfl).1;omega
  ·rw[zx h];cases l:ad (Vx B i) 0 c rs with
   |some x=>
    simp only[reduceCtorEq,false_iff,not_and];intro g j
    have n:ad (Vx B i) 0 c rs=zn:=bh.2 ⟨(g 0 rs rfl).2,by
     grind⟩
    simp_all
   |none=>
    have q:=bh.1 l;simp only;rw[aX (ls:=ls)];simp only[List.flatten_cons,List.map_append,o4,not_or,ey];constructor
    ·rintro⟨g,j⟩;refine⟨λk f m=> ?_,?_⟩
     ·cases k with
      |zero=>grind
      |succ k=>
       grind
     ·rw[sk];refine⟨q.2,j,?_⟩;intro a s b t e;subst e;obtain⟨r,l,e1⟩:=ey.1 s;obtain⟨p,d,e2⟩:=ey.1 t;obtain⟨f,o,d⟩:=iz.1 d;obtain⟨k,m⟩:=co o
      grind [sL]
    ·rintro⟨g,j⟩;rw[sk]at j;refine⟨λk f m=> ?_,j.2.1⟩;have n:=g (k+1) f m;refine⟨n.1,λr l=> ?_⟩;have:=n.2 r l;rw[show i+(k+1)=i+1+k by omega]at this;refine⟨this.1,this.2,?_⟩;rintro⟨p,d,e⟩;exact j.2.2 (sL p) (xm d) (sL r) (xm (iz.2 ⟨f,bl m,l⟩)) e
structure VLev (L:VA):Prop where
 B1:1<=L.1
 B2:L.1<=16
 len:L.2.length<=12
 lev:∀ i rs,L.2[i]?=zo rs->rs.length<=2 /\ ∀ r∈rs,VR (Vx L.1 i) r
 ids:(L.2.flatten.map sL).Nodup
 last:L.2.getLast? ≠ zo []
theorem Xz{L:VA}:(WZ L).2.2=0<->VLev L:=by
 unfold WZ;constructor
 ·intro h;by_cases b:L.1<1\/L.1>16
  ·simp_all
  rw[zx b]at h;by_cases c:L.2.length>12
  ·simp_all
  rw[zx c]at h;cases a:aa L.1 0 [] L.2 with
  |some x=>
   obtain⟨i,k,e⟩:=x;rw[a]at h;exact absurd h (eL a)
  |none=>
   rw[a]at h;simp only at h;by_cases d:L.2.getLast?=zo []
   ·simp_all
   ·have f:=aX.1 a
    exact⟨by omega,by omega,by omega,λi rs hi=>by
     grind,f.2,d⟩
 ·intro h
  have a:aa L.1 0 [] L.2=zn:=aX.2 ⟨λk rs g=>by
   have:=h.lev k rs g
   simp_all,h.ids⟩
  rw[zx (by have:=h.B1;have:=h.B2;omega),zx (by have:=h.len;omega),a];simp only;rw[zx h.last]
theorem YL{L:VA}(h:VLev L):WZ L=(0,(0,0)):=by
 have a:aa L.1 0 [] L.2=zn:=aX.2 ⟨λk rs b=>by
  have:=h.lev k rs b
  simp_all,h.ids⟩
 unfold WZ;rw[zx (by have:=h.B1;have:=h.B2;omega),zx (by have:=h.len;omega),a];simp only;rw[zx h.last]
def Xh(l:List (List VU)):Int:=l.foldl (λm rs=>rs.foldl (λm r=>Uz m r.1) m) 0
def VS:Nat->List (List VU)->List Int
 |_,[]=>[]
 |i,rs::ls=>(if rs.length=2 then[(i:Int)]else[])++VS (i+1) ls
theorem fX(L:VA)(d:L.2.length<=1048576)(b:∀ rs∈L.2,rs.length<=1048576):Xs L=zo (Xh L.2):=by
 unfold Xs;simp only[VC,VB]
 rw[V1 (l:=L.2) (σ:=Int) (s:=((0:Int),(0:Int))) (λi m=>(m,(i:Int))) (λ_ _ _=>True) (λls _ m=>(0,((ls.foldl (λm rs=>rs.foldl (λm r=>Uz m r.1) m) m,(L.2.length:Int)),()))) 0 rfl (by omega) trivial (λm _=>by
  simp only;rw[re];rfl) (λi rs ls m hd a hi _=>by
   refine⟨rs.foldl (λm r=>Uz m r.1) m,?_,trivial,rfl⟩;have c:=b rs (bl a);simp only
   rw[rl hi,Tj,U8,Ua a,V1 (l:=rs) (σ:=Int) (s:=((0:Int),m)) (λi m=>((i:Int),m)) (λ_ _ _=>True) (λl _ m=>(0,(((rs.length:Int),l.foldl (λm r=>Uz m r.1) m),()))) m rfl (by omega) trivial (λm _=>by
    simp only;rw[re];rfl) (λk r l m hd a e _=>by
     refine⟨Uz m r.1,?_,trivial,rfl⟩
     grind [rl,Tj,U8,Ua,VH]),UG,VH a (by omega)]),UG]
 rfl
def aZ(L:VA)(a:List Int)(i:Nat)(j:Job):Bool:=match a[i]? with
 |none=>zt
 |some d=>if j.1≠d then zt else if j.2.2.1.2.2=zt/\j.1≠(L.2.length:Int)-1 then zt else match L.2[d.toNat]? with
  |some [r0,r1]=>if j.2.2.2.2<0\/j.2.2.2.2>((r1.2.length+r0.2.length:Nat):Int)then zt else decide (Wm r1.2 r0.2 j.2.2.1.2.2 j.2.2.2.2.toNat≠j.2)
  |_=>zt
def Xw(L:VA)(a:List Int):Nat->List Job->Option Nat
 |_,[]=>zn
 |i,j::js=>if aZ L a i j=zt then zo i else Xw L a (i+1) js
def VF(s:U9):Int×Int:=
 if(WZ s.1).2.2≠0 then(-1,(WZ s.1).2.2)else if s.2.2<1\/s.2.2>1000001 then(-1,7)else if s.2.2<=Xh s.1.2 then(-1,6)else match Xw s.1 (VS 0 s.1.2) 0 s.2.1 with
  |some i=>((i:Int),6)
  |none=>if s.2.1.length<(VS 0 s.1.2).length then(-1,4)else(0,0)
theorem Y6:∀ {ls:List (List VU)} {i k:Nat} {d:Int},(VS i ls)[k]?=zo d -> ∃ n:Nat,d=((i+n:Nat):Int) /\ ∃ c e,ls[n]?=zo [c,e]
 |[],i,k,d,h=>by cases h
 |rs::ls,i,k,d,h=>by
  unfold VS at h;by_cases a:rs.length=2
  ·rw[zy a]at h;cases k with
   |zero=>
    simp at h;refine⟨0,by simp[<- h],?_⟩
    match rs,a with
    |[c,e],_=>simp_all
   |succ k=>
    simp at h;obtain⟨n,f,b⟩:=Y6 h;exact⟨n+1,by omega,b⟩
  ·rw[zx a]at h;simp at h;obtain⟨n,f,b⟩:=Y6 h;exact⟨n+1,by omega,b⟩
theorem YN:∀ (ls:List (List VU)) (i:Nat),(VS i ls).length<=ls.length
 |[],i=>ee _
 |rs::ls,i=>by
  have:=YN ls (i+1)
  grind [VS]
theorem fF{L:VA}{n:Nat}{a b:VU}(c:Bool)(h:L.2[n]?=zo [a,b])(v0:VL a.2)(v1:VL b.2):WM (L,((n:Int),c))=zo ((n:Int),Wm b.2 a.2 c 0):=by
 unfold WM;simp only;rw[U8,Ua h,Ua (x:=b) rfl,Ua (x:=a) rfl,jW v1 v0];rfl
theorem dO{a b:List U7}(va:VL a)(d:VL b)(c:Bool){n:Nat}(h:n<=a.length+b.length):(Wm a b c n).1.1.length<=1000/\(∀ l∈(Wm a b c n).1.1,l.length<=1000000)/\(Wm a b c n).1.2.1.length<=1000/\(Wm a b c n).1.2.2.1.length<=1000/\(Wm a b c n).1.2.2.2.1.length<=1000/\(Wm a b c n).2.2.1.length<=1000000:=by
 have i:=va.len;have j:=d.len;refine⟨show 2<=1000 by omega,λl g=> ?_,show 2<=1000 by omega,show 2<=1000 by omega,show 2<=1000 by omega,?_⟩
 ·grind [Wm,al,bA]
 ·have e:=ZZ (s0 c) (VO a b n);have f:=WH va d h;show(XM (s0 c) (VO a b n)).length<=_;omega
theorem uv{L:VA}{n:Nat}{a b:VU}{j:Job}(h:L.2[n]?=zo [a,b])(v0:VL a.2)(v1:VL b.2){β:Type}(A B:Option β) :
  (bd (WM (L,((n:Int),j.2.2.1.2.2))) λc=>bd (Vo c.2) λd=>br (UV j.2.2.2.2 0) (λ_=>A) λ_=>br (UT j.2.2.2.2 d.1) (λ_=>A) λ_=>bd (V3 (c.2,j.2.2.2.2)) λe=>bd (Wt (e.1,j.2)) λf=>br (IG f) (λ_=>A) λ_=>B)
  = if j.2.2.2.2<0\/j.2.2.2.2>((b.2.length+a.2.length:Nat):Int)then A else if Wm b.2 a.2 j.2.2.1.2.2 j.2.2.2.2.toNat=j.2 then B else A:=by
 rw[fF _ h v0 v1,UG,bj v1 v0 _ (hU _),UG,Uo,Um,l5];by_cases g:j.2.2.2.2<0
 ·simp_all
 rw[zx g];by_cases i:j.2.2.2.2>((b.2.length+a.2.length:Nat):Int)
 ·simp_all
 rw[zx i,zx (show ¬ (j.2.2.2.2<0\/j.2.2.2.2>((b.2.length+a.2.length:Nat):Int)) by omega)];obtain⟨k,l⟩:∃ k:Nat,j.2.2.2.2=(k:Int):=⟨j.2.2.2.2.toNat,by omega⟩;rw[l,du v1 v0 _ (hU _),UG,l5,gM,s8 (by omega),bo];obtain⟨s1,s2,m,o,p,q⟩:=dO v1 v0 j.2.2.1.2.2 (n:=k) (by omega);rw[fb _ _ s1 s2 m o p q,UG,WF,WK]
 simp_all
theorem gZ(s:U9)(J:s.1.2.length<=1048576)(hr:∀ rs∈s.1.2,rs.length<=1048576 /\ ∀ r∈rs,r.2.length<=9223372036854775807)(hj:s.2.1.length<=1048576):Wz s=zo (VF s):=by
 unfold Wz VF;simp only[VC,VB];rw[ZC _ J hr,UG,Uq];by_cases C:(WZ s.1).2.2=0;rotate_left
 ·simp_all
 rw[zy C,zx (by simp[C]),Uo,Um,fX _ J (λrs h=>(hr rs h).1),UG];have v:=Xz.1 C;by_cases D:s.2.2<1
 ·simp_all
 rw[zx D];by_cases g:s.2.2>1000001
 ·simp_all
 rw[zx g,zx (show ¬ (s.2.2<1\/s.2.2>1000001) by omega),Un];by_cases E:s.2.2<=Xh s.1.2
 ·simp_all
 rw[zx E,zx E]
 rw[V1 (l:=s.1.2) (σ:=List Int) (s:=((0:Int),([]:List Int))) (λi m=>((i:Int),m)) (λls i m=>m++VS i ls=VS 0 s.1.2) (λ_ _ _=>(0,(((s.1.2.length:Int),VS 0 s.1.2),()))) [] rfl (by omega) rfl (λm h=>by
  simp_all[re,TA,VS]) (λi rs ls m hd e hi h=>by
   refine⟨m++(if rs.length=2 then[(i:Int)]else[]),?_,?_,rfl⟩
   ·simp only;rw[rl hi,Tj,U8,Ua e,Uk]
    have hm:m.length<=1048575:=by
     have o:=congrArg rz h;have I:=YN s.1.2 0;have h6:=v.len
     grind
    by_cases o:rs.length=2
    ·rw[zy (by omega),zy o,Va (by simp_all[A0,AQ,dc,eb]),VH e (by omega)];rfl
    ·rw[zx (by omega),zx o,iP,VH e (by omega)]
   ·rw[hM];exact h),UG]
 simp only;obtain⟨a,p⟩:∃ a,a=VS 0 s.1.2:=⟨_,rfl⟩;have hdl:a.length<=12:=by have:=YN s.1.2 0;have:=v.len;grind
 rw[<- p];obtain⟨T,Y⟩:∃ T,T=Xw s.1 a 0 s.2.1:=⟨_,rfl⟩;rw[<- Y]
 obtain⟨r,q1,G⟩:=XG (l:=s.2.1) (σ:=Unit) (λi _=>((0:Int),((0:Int),(i:Int)))) (λjs i _=>Xw s.1 a i js=T) (λ(r:Nat×((Int×(Int×Int))×Unit))=>(T=zn/\r.1=1)\/(∃ i:Nat,T=zo i/\r.1=0/\r.2.1.1=6/\r.2.1.2.1=(i:Int)))
  (f:=λb=>br (UV b.2.2 (s.2.1.length:Int)) (λ_=>S1 b.2.2 λk7=>ix s.2.1 k7 λc=>br (Sw b.2.2 (a.length:Int)) (λ_=>zo (.dn ((0,((6,(b.2.2,b.2.2)),()))))) λ_=>S1 b.2.2 λk9=>gd (I8 k9 a.length) λ_=>ix a k9 λX=>br (Sx c.1 X) (λ_=>zo (.dn ((0,((6,(b.2.2,b.2.2)),()))))) λ_=>br c.2.2.1.2.2 (λ_=>bd (Wf (s.1,c.1)) λM=>br (IG M) (λ_=>zo (.dn ((0,((6,(b.2.2,b.2.2)),()))))) λ_=>bd (WM ((s.1,(c.1,c.2.2.1.2.2)))) λy=>bd (Vo y.2) λN=>br (UV c.2.2.2.2 0) (λ_=>zo (.dn ((0,((6,(b.2.2,b.2.2)),()))))) λ_=>br (UT c.2.2.2.2 N.1) (λ_=>zo (.dn ((0,((6,(b.2.2,b.2.2)),()))))) λ_=>bd (V3 (y.2,c.2.2.2.2)) λO=>bd (Wt (O.1,c.2)) λP=>br (IG P) (λ_=>zo (.dn ((0,((6,(b.2.2,b.2.2)),()))))) λ_=>zo (.nx ((b.1,(b.2.1,TI .i64 b.2.2 1))))) λ_=>bd (WM ((s.1,(c.1,c.2.2.1.2.2)))) λz=>bd (Vo z.2) λS=>br (UV c.2.2.2.2 0) (λ_=>zo (.dn ((0,((6,(b.2.2,b.2.2)),()))))) λ_=>br (UT c.2.2.2.2 S.1) (λ_=>zo (.dn ((0,((6,(b.2.2,b.2.2)),()))))) λ_=>bd (V3 (z.2,c.2.2.2.2)) λU=>bd (Wt (U.1,c.2)) λW=>br (IG W) (λ_=>zo (.dn ((0,((6,(b.2.2,b.2.2)),()))))) λ_=>zo (.nx ((b.1,(b.2.1,TI .i64 b.2.2 1))))) λ_=>zo (.dn ((1,(b,())))))
  (s:=(0,(0,0))) () rfl (by omega) Y.symm (λ_ h=>by
   refine⟨_,by simp only;rw[re];rfl,.inl ⟨by rw[<- h];rfl,rfl⟩⟩) (λi j js _ hd e hi h=>by
   simp only;rw[rl hi,Tj,U8,Ua e,Ul];unfold Xw at h
   have Z:aZ s.1 a i j=zt -> ∃ r:Nat×((Int×(Int×Int))×Unit),(zo (LR.dn ((0,((6,((i:Int),(i:Int))),()))):LR (Int×(Int×Int)) _))=zo (.dn r)/\((T=zn/\r.1=1)\/(∃ i:Nat,T=zo i/\r.1=0/\r.2.1.1=6/\r.2.1.2.1=(i:Int))):=λJ=>by
    grind
   have L:aZ s.1 a i j=zf -> ∃ st':Unit,(zo (LR.nx ((0:Int),((0:Int),TI .i64 (i:Int) 1))):Option (LR _ (Nat×((Int×(Int×Int))×Unit))))=zo (.nx ((0:Int),((0:Int),((i+1:Nat):Int))))/\Xw s.1 a (i+1) js=T:=λhg=>by
    rw[zx (by simp[hg])]at h;exact⟨(),by rw[VH e (by omega)],h⟩
   by_cases D:(i:Int)>=(a.length:Int)
   ·rw[zy D]
    grind [aZ,a9]
   rw[zx D,U8,UQ,zy (by omega)];have K:a[i]?=zo (a[i]'(by omega)):=by simp
   rw[Ua K,Uq];obtain⟨n,hn,w,x,u⟩:=Y6 (ls:=s.1.2) (i:=0) (k:=i) (d:=a[i]'(by omega)) (by simp_all);rw[gM]at hn
   have F:aZ s.1 a i j=(if j.1≠(a[i]'(by omega))then zt else if j.2.2.1.2.2=zt/\j.1≠(s.1.2.length:Int)-1 then zt else if j.2.2.2.2<0\/j.2.2.2.2>((x.2.length+w.2.length:Nat):Int)then zt else decide (Wm x.2 w.2 j.2.2.1.2.2 j.2.2.2.2.toNat≠j.2)):=by
    grind [aZ,bo]
   by_cases g:j.1=(a[i]'(by omega));rotate_left
   ·simp_all
   rw[zy g];rw[zx (by simp[g])]at F;have q:j.1=(n:Int):=by rw[g,hn]
   have hv:=(v.lev n _ u).2;have v0:=(hv w (by simp)).vl;have v1:=(hv x (by simp)).vl;have t:TM .i64 (s.1.2.length:Int) 1=(s.1.2.length:Int)-1:=Tq (by omega);unfold Wf;simp only[VC,VB];rw[UG,t,W3,WF,WK,q,uv u v0 v1,Uw];rw[q]at F;by_cases E:j.2.2.1.2.2=zt/\(n:Int)≠(s.1.2.length:Int)-1
   ·simp_all
   rw[zx E]at F
   have o:∀ {γ:Type} (A B:γ),(if j.2.2.1.2.2=zt then if ¬(n:Int)=(s.1.2.length:Int)-1 then A else B else B)=B:=by
    simp_all
   rw[o];by_cases I:j.2.2.2.2<0\/j.2.2.2.2>((x.2.length+w.2.length:Nat):Int)
   ·simp_all
   rw[zx I];rw[zx I]at F;by_cases h6:Wm x.2 w.2 j.2.2.1.2.2 j.2.2.2.2.toNat=j.2
   all_goals simp_all)
 rw[C];refine VY q1 ?_;rw[UH];rcases G with⟨G,q3⟩|⟨i,G,q3,q4,q5⟩
 ·rw[zx (show ¬ r.1=0 by omega),G,Uo]
  grind
 grind
end
section
open Go Sv
theorem Zu(x:U7):Wh x=zo (kE x):=by
 unfold Wh kE;rw[Um,VC,Z0];by_cases c:x.1.length>32
 ·grind
 rw[zx (by omega),Um,VC,Z0];by_cases d:x.2.1.length>64
 ·grind
 rw[zx (by omega:¬ (x.2.1.length:Int)>64),zx (by omega),Uw];by_cases a:x.2.2.1=zt
 ·rw[zy a,Vs,XE];by_cases b:x.2.1=[]
  ·rw[zy b,zx (by simp[b]),Uo,Um]
   grind
  simp_all
 ·rw[zx a,zx (by simp[a]),Uo,Um]
  grind
def XL:List UInt8->List UInt8->Nat
 |x::a,y::b=>if x=y then XL a b+1 else 0
 |_,_=>0
theorem qk(x y:UInt8):PC (U3 x) (U3 y)=decide (x=y):=by
 rw[W3];unfold U3;by_cases h:x=y
 ·simp[h]
 ·have:¬ ((x.toNat:Int)=(y.toNat:Int)):=λe=>h (UInt8.toNat_inj.1 (by omega))
  grind
theorem jY(a b:List UInt8)(y:a.length<=9223372036854775806):YA (a,b)=zo (XL a b:Int):=by
 unfold YA;simp only[VC,Z0]
 have key:∀ (m:List UInt8) (k n:Nat),a.drop k=m->k<=a.length->k<=b.length->m.length<n->Ih n (λs0=>br (UV s0 (a.length:Int)) (λ_=>br (UV s0 (b.length:Int)) (λ_=>S1 s0 λs=>ix a s λu=>S1 s0 λt=>ix b t λw=>br (PC (U3 u) (U3 w)) (λ_=>zo (LR.nx (TI .i64 s0 1))) λ_=>zo (.dn ((0,(s0,()))))) λ_=>zo (.dn ((0,(s0,()))))) λ_=>zo (.dn ((0,(s0,()))))) (k:Int)=zo ((0:Nat),(((k+XL m (b.drop k):Nat):Int),())):=by
  intro m
  induction m with
  |nil=>
   intro k n p o g r;obtain⟨n,rfl⟩:∃ j,n=j+1:=⟨n-1,by omega⟩
   have h:k=a.length:=by
    grind
   subst h;refine Vr ?_;rw[re];rfl
  |cons x m z=>
   intro k n p o g r;obtain⟨n,rfl⟩:∃ j,n=j+1:=⟨n-1,by omega⟩
   have i:a[k]?=zo x:=by
    grind [List.head?_drop]
   have c:k<a.length:=(a8.1 i).1
   have q:a.drop (k+1)=m:=by
    grind [List.tail_drop]
   by_cases d:k<b.length
   ·have l:b[k]?=zo b[k]:=by simp[d]
    rw[List.drop_eq_getElem_cons d];unfold XL;by_cases e:x=b[k]
    ·rw[zy e];refine(Vi (s':=((k+1:Nat):Int)) ?_).trans ?_
     ·rw[rl c,Tj,rl d,Tj,U8,Ua i,U8,Ua l,qk,WK,zy e,VD (by omega)]
     grind
    ·rw[zx e];refine Vr ?_;rw[rl c,Tj,rl d,Tj,U8,Ua i,U8,Ua l,qk,WK,zx e];simp
   ·have f:k=b.length:=by omega
    refine Vr ?_;rw[rl c,Tj,f,re,TA,List.drop_length];simp[XL]
 refine VY (WY (n:=a.length+1) (by omega) (key a 0 (a.length+1) (by simp) (by omega) (by omega) (by omega))) ?_;simp
def au(a b:XN):Int:=if TZ a b=zt then -1 else if a=b then 0 else 1
theorem fJ:∀ (a b:XN),(XL a b<=a.length/\XL a b<=b.length)/\(XL a b=a.length->XL a b=b.length->au a b=0)/\(XL a b=a.length->XL a b≠b.length->au a b = -1)/\(XL a b≠a.length->XL a b=b.length->au a b=1)/\(∀ x y,a[XL a b]?=zo x->b[XL a b]?=zo y->au a b=if x.toNat<y.toNat then -1 else 1)
 |[],[]=>by simp[XL,au,bO]
 |[],y::b=>by simp[XL,au,eR]
 |x::a,[]=>by simp[XL,au,bO]
 |x::a,y::b=>by
  obtain⟨⟨j,g⟩,k,l,m,n⟩:=fJ a b;by_cases e:x=y
  ·subst e
   have o:au (x::a) (x::b)=au a b:=by
    simp_all[au,Zk]
   grind [XL]
  ·have hc:XL (x::a) (y::b)=0:=by simp[XL,e]
   rw[hc];refine⟨⟨by omega,by omega⟩,λu=>by simp at u,λu=>by simp at u,λ_ u=>by simp at u,λp q d f=> ?_⟩;simp at d f;subst d f;unfold au;rw[Zk];have i:¬ (x::a=y::b):=λh=>e (by injection h);by_cases c:x.toNat<y.toNat
   ·have:x<y:=vv.2 c
    simp_all
   ·have:¬ x<y:=λh=>c (vv.1 h)
    grind
theorem kh(a b:XN)(p:a.length<=1000000000)(q:b.length<=1000000000):Xn (a,b)=zo (au a b):=by
 obtain⟨⟨m,i⟩,n,j,o,k⟩:=fJ a b;unfold Xn;simp only[VC,Z0];rw[jY a b (by omega),UG,Uk]
 have l:(if(XL a b:Int)<(b.length:Int)then(S1 (XL a b:Int) λc=>ix a c λe=>S1 (XL a b:Int) λd=>ix b d λf=>br (UV (U3 e) (U3 f)) (λ_=>zo (-1:Int)) λ_=>zo 1)else zo 1)=(if XL a b=a.length then(if(XL a b:Int)<(b.length:Int)then(S1 (XL a b:Int) λc=>ix a c λe=>S1 (XL a b:Int) λd=>ix b d λf=>br (UV (U3 e) (U3 f)) (λ_=>zo (-1:Int)) λ_=>zo 1)else zo 1)else zo (au a b)):=by
  by_cases u:XL a b=a.length
  ·grind
  ·rw[zx u];by_cases v:XL a b=b.length
   ·simp_all
   ·rw[zy (by omega),U8];have g:a[XL a b]?=zo (a[XL a b]'(by omega)):=by simp
    have h:b[XL a b]?=zo (b[XL a b]'(by omega)):=by simp
    rw[Ua g,U8,Ua h,Uo,k _ _ g h];unfold U3
    grind
 by_cases u:XL a b=a.length
 ·rw[zy (by omega),Uk];by_cases v:XL a b=b.length
  ·simp_all
  ·rw[zx (by omega),Uk,zy (by omega),j u v]
 ·rw[zx (by omega),Uk,zx (by omega),Uo,l,zx u]
theorem jK(a b:XN):au a b>=0<->TZ a b=zf:=by
 grind [au]
theorem YQ(l:List U7)(B:l.length<=9223372036854775807):Wd l=zo (XO l):=by
 unfold Wd XO;simp only[VC,VB];rw[Um];by_cases h:l.length>5000
 ·grind
 rw[zx (by omega),zx h];obtain⟨T,j⟩:∃ T,T=Z5 zn 0 l:=⟨_,rfl⟩;rw[<- j]
 obtain⟨r,t,C⟩:=XG (l:=l) (σ:=Unit) (s:=((0:Int),((0:Int),(0:Int)))) (λk _=>((0:Int),((0:Int),(k:Int)))) (λm k _=>Z5 (if k=0 then zn else(l[k-1]?).map (·.1)) k m=T/\(∀ y,k≠0->l[k-1]?=zo y->kE y=0)) (λ(r:Nat×((Int×(Int×Int))×Unit))=>(r.1=1/\T=(0,0))\/(r.1=0/\T=(r.2.1.2.1,r.2.1.1)))
  (f:=λs0=>br (UV s0.2.2 (l.length:Int)) (λ_=>S1 s0.2.2 λo=>ix l o λw=>bd (Wh w) λd=>br (PC d 0) (λ_=>br (UT s0.2.2 0) (λ_=>S1 (TM .i64 s0.2.2 1) λp=>ix l p λz=>S1 s0.2.2 λq=>ix l q λA=>bd (Xn (z.1,A.1)) λu=>br (Sw u 0) (λ_=>zo (.dn ((0,((6,(s0.2.2,s0.2.2)),()))))) λ_=>br (Sx d 0) (λ_=>zo (.dn ((0,((d,(s0.2.2,s0.2.2)),()))))) λ_=>zo (.nx ((s0.1,(s0.2.1,TI .i64 s0.2.2 1))))) λ_=>br (Sx d 0) (λ_=>zo (.dn ((0,((d,(s0.2.2,s0.2.2)),()))))) λ_=>zo (.nx ((s0.1,(s0.2.1,TI .i64 s0.2.2 1))))) λ_=>br (Sx d 0) (λ_=>zo (.dn ((0,((d,(s0.2.2,s0.2.2)),()))))) λ_=>zo (.nx ((s0.1,(s0.2.1,TI .i64 s0.2.2 1))))) λ_=>zo (.dn ((1,(s0,())))))
  () rfl (by omega) ⟨j.symm,λ_ h=>absurd rfl h⟩ (λ_ h=>by
   refine⟨_,by simp only;rw[re];rfl,.inl ⟨rfl,?_⟩⟩;rw[<- h.1];simp[Z5]) (λk x m _ hd g n h=>by
   simp only;obtain⟨h,c⟩:=h;rw[rl n,Tj,U8,Ua g,Zu,UG,Uk];unfold Z5 at h
   have next:kE x=0->(T=Z5 (zo x.1) (k+1) m)->Z5 (if k+1=0 then zn else(l[k+1-1]?).map (·.1)) (k+1) m=T/\(∀ y,k+1≠0->l[k+1-1]?=zo y->kE y=0):=λa e=>by
    simp_all
   by_cases a:kE x=0
   ·rw[zy a,Um];rw[zx (by simp[a])]at h;by_cases b:k=0
    ·rw[zx (by omega),Uq,zy a];rw[zy b]at h;exact .inl ⟨(),by rw[VH g (by omega)],next a h.symm⟩
    ·have i:l[k-1]?=zo (l[k-1]'(by omega)):=by simp_all
     rw[zy (by omega),show TM .i64 (k:Int) 1=((k-1:Nat):Int) by rw[Tq (by omega)];omega,U8,Ua i,U8,Ua g];rw[zx b,i]at h;simp only[ol]at h;rw[kh _ _ (by have:=cj (c _ b i);omega) (by have:=cj a;omega),UG,Ul];by_cases hs:TZ (l[k-1]'(by omega)).1 x.1=zt
     ·rw[zx (λe=>by rw[jK,hs]at e;cases e),Uq,zy a];rw[zy hs]at h;exact .inl ⟨(),by rw[VH g (by omega)],next a h.symm⟩
     simp_all[zy,jK,zx]
   ·rw[zx a,Uq,zx a]
    grind)
 refine VY t ?_;rw[UH]
 grind
theorem qo(p q:VI)(d:XK p)(e:XK q):Yv ([p,q],(0,1))=zo (w0 p q):=by
 unfold Yv w0;refine(XY 0 rfl (x:=p) rfl).trans ((XY 1 rfl (x:=q) rfl).trans ?_);rw[beq_eq,WF,WK,Vs,Uw];by_cases b:p.2=q.2
 ·rw[zx (show ¬ ¬ p.2=q.2 by simp[b]),zx (show ¬ p.2≠q.2 by simp[b])];by_cases a:p.2=zt
  ·rw[zy a,d a,e (b ▸ a)];rfl
  ·rw[zx a,Vs,XE];by_cases c:p.1=q.1
   ·rw[zy c,zx (by simp[c])];rfl
   simp_all
 simp_all
theorem bz(p q:VI)(n:Nat)(k:Int)(h:2<=k)(a:k<=100):Ni VP (n+1) ([p,q],k)=zo (k-2,0):=by
 show VP (Ni VP n) ([p,q],k)=_;unfold VP;show br (Sw k 2) (λ_=>zo (TM .i64 k 2,0)) _=_;rw[Ul,zy h,Tq (by omega)]
theorem cx(p q:VI)(a:XK p)(b:XK q):YD ([p,q],1)=zo (if w0 p q=zt then(0,1)else(1,0)):=by
 show VP (Ni VP 99) ([p,q],1)=_;unfold VP;show br (Sw (1:Int) 2) (λ_=>zo (TM .i64 (1:Int) 2,0)) (λ_=>bd (Ni VP (98+1) ([p,q],2)) λc=>bd (Ni VP (98+1) ([p,q],3)) _)=_;rw[Ul,zx (by omega),bz p q 98 2 (by omega) (by omega),UG,bz p q 98 3 (by omega) (by omega),UG]
 grind [qo,UG,Uw]
theorem qi(p q:VI)(a:XK p)(c:XK q):Yu [p,q]=zo (Tt p q):=by
 unfold Yu;refine Eq.trans (b:=bd (loop _ (1,([p,q],([0,0],0)))) _) rfl ?_;refine VY (x:=(0,((2,([p,q],([0,if w0 p q=zt then 1 else 0],0))),()))) (WY (n:=2) (by omega) ((Vi (s':=(2,([p,q],([0,if w0 p q=zt then 1 else 0],0)))) ?_).trans (Vr rfl))) ?_
 ·show bd (YD ([p,q],1)) _=_;rw[cx p q a c,UG];refine(aL 1 rfl (x:=(0:Int)) rfl).trans ?_;cases h:w0 p q<;>rfl
 grind [Tt,cx,UG]
theorem jz{l:List VI}(h:∀ k∈l,XK k)(d:l≠[])(e:l.length<=32):YX l=zo 0:=by
 unfold YX;simp only[VC,VB];rw[Uk,Um,zx (by simp_all),zx (by omega)]
 rw[V1 (l:=l) (σ:=Unit) (s:=((0:Int),(0:Int))) (λk _=>((k:Int),(0:Int))) (λ_ _ _=>True) (λ_ _ _=>(1,(((l.length:Int),0),()))) () rfl (by omega) trivial (λc _=>by
  simp only;rw[re];rfl) (λk x m c _ a b _=>⟨(),by
   simp only;rw[rl b,Tj,U8,Ua a,Uw,VH a (by omega)];by_cases hd:x.2=zt
   ·rw[zy hd,U8,Ua a,Vs,XE,zy (h x (bl a) hd)]
   simp_all,trivial,rfl⟩),UG]
 rfl
theorem jX(p q:VI)(a:XK p)(b:XK q):Xo [p,q]=zo (Tt p q,0):=by
 unfold Xo;rw[jz (by grind) (by simp) (by simp),UG,Uq,zy rfl,qi p q a b,UG]
end
section
open Go Sv
theorem Yg:V6=Vf:=rfl
theorem cz:Yt=VN:=rfl
theorem gx(l m:List VI)(d:l.length<=9223372036854775806)(h:l.length=m.length):∃ r,loop (λs1=>br (UV s1.1 (l.length:Int)) (λ_=>S1 s1.1 λj=>ix l j λb=>S1 s1.1 λn=>ix m n λc=>br (IG (OM (seq b.1 c.1) (OM (Sv.beq b.2 c.2) zt))) (λ_=>zo (LR.dn ((0:Nat),((s1.1,zf),())))) λ_=>zo (.nx (TI .i64 s1.1 1,s1.2))) λ_=>zo (.dn ((1,(s1,()))))) ((0:Int),zf)=zo r/\((l=m/\r.1=1)\/(l≠m/\r.1=0/\r.2.1.2=zf)):=by
 refine Zd l m h d (λk x y a i=> ?_) (by simp only;rw[re];rfl);have g:=(a8.1 a).1
 have f:∀ {β:Type} (u v:Unit->Option β),br (IG (OM (seq x.1 y.1) (OM (Sv.beq x.2 y.2) zt))) u v=if x=y then v ()else u ():=by
  intro β u v;rw[bC,Zx,beq_eq,Zl,WF,WK]
  grind
 constructor
 ·intro e;simp only;rw[rl g,Tj,U8,Ua a,U8,Ua i,f,zy e,VD (by omega)]
 simp_all[rl,Tj,U8,Ua,zx]
theorem c0(s t:Ww)(g:s.1.length<=1000)(h:s.2.1.length<=1000):YC (s,t)=zo (decide (s=t)):=by
 obtain⟨b,d,j⟩:=s;obtain⟨c,f,k⟩:=t;simp only at g h;unfold YC;simp only[VC,VB];rw[Uq];by_cases e1:(b.length:Int)=(c.length:Int);rotate_left
 ·rw[zx e1];have:¬ b=c:=λe=>e1 (by rw[e]);simp[this]
 rw[zy e1,Uq];by_cases e2:j=k;rotate_left
 ·simp_all
 rw[zy e2,cz,aT _ _ (by omega),UG,WF,WK];by_cases e3:d=f;rotate_left
 ·simp_all
 rw[zx (show ¬ ¬ d=f by simp[e3])];obtain⟨r,i,a⟩:=gx b c (by omega) (by omega);refine VY i ?_;rw[UH];rcases a with⟨e,a⟩|⟨e,a,l⟩<;>simp_all
theorem fu(s t:WX)(u:s.1.length<=1000)(g:∀ l∈s.1,l.length<=1000000)(w:s.2.1.length<=1000)(h:s.2.2.1.length<=1000)(i:s.2.2.2.1.length<=1000):Yx (s,t)=zo (decide (s=t)):=by
 obtain⟨a,n,o⟩:=s;obtain⟨c,p,q⟩:=t;simp only at u g w h i;unfold Yx;simp only[VC,VB];rw[Uq];by_cases e1:(a.length:Int)=(c.length:Int);rotate_left
 ·rw[zx e1];have:¬ a=c:=λe=>e1 (by rw[e]);simp[this]
 rw[zy e1,cz,aT _ _ (by omega),UG,WF,WK];by_cases e2:n=p;rotate_left
 ·simp_all
 rw[zx (show ¬ ¬ n=p by simp[e2]),c0 _ _ h i,UG,WF,WK];by_cases e3:o=q;rotate_left
 ·simp_all
 rw[zx (show ¬ ¬ o=q by simp[e3])]
 obtain⟨r,C,d⟩:=Zd a c (by omega) (by omega) (f:=λs2=>br (UV s2.1 (a.length:Int)) (λ_=>S1 s2.1 λA=>ix a A λE=>S1 s2.1 λB=>ix c B λF=>bd (V6 (E,F)) λD=>br (IG D) (λ_=>zo (.dn ((0,((s2.1,zf),()))))) λ_=>zo (.nx (TI .i64 s2.1 1,s2.2))) λ_=>zo (.dn ((1,(s2,()))))) (λk x y b m=>by
   have j:=(a8.1 b).1;have z:=g x (bl b);constructor
   ·intro e;simp only;rw[rl j,Tj,U8,Ua b,U8,Ua m,Yg,Xd _ _ (by omega),UG,WF,WK,zx (by simp[e]),VD (by omega)]
   ·intro e;simp only
    rw[rl j,Tj,U8,Ua b,U8,Ua m,Yg,Xd _ _ (by omega),UG,WF,WK,zy e]) (by simp only;rw[re];rfl)
 refine VY C ?_;rw[UH];rcases d with⟨e,d⟩|⟨e,d,G⟩<;>simp_all
theorem gy(x y:Yq)(a:x.1.1.length<=1000)(b:∀ l∈x.1.1,l.length<=1000000)(c:x.1.2.1.length<=1000)(d:x.1.2.2.1.length<=1000)(e:x.1.2.2.2.1.length<=1000)(f:x.2.2.1.length<=1000000):Vp (x,y)=zo (decide (x=y)):=by
 obtain⟨i,⟨xs,k,h⟩,g,j⟩:=x;obtain⟨n,⟨q,r,m⟩,p,o⟩:=y;simp only at a b c d e f;unfold Vp;simp only[fu _ _ a b c d e,Yg,Xd _ _ (show g.length<=9223372036854775806 by omega),UG,WK,W3,Zx,beq_eq,bC,Zl]
 repeat' split
 all_goals simp_all
section
variable{a b:List U7}(va:VL a)(vb:VL b)
include va vb
theorem ax:XD [a,b]=zo (0,0):=by
 have c:=va.len;have d:=vb.len;unfold XD;refine Eq.trans (b:=bd (loop _ (0,(0,0))) _) rfl ?_;refine VY (x:=(1,((0,(0,2)),()))) (V5 (s1:=(0,(0,1))) (s2:=(0,(0,2))) ?_ ?_ rfl) rfl
 ·refine(ai 0 rfl rfl (x:=a) rfl).trans ?_;rw[YQ _ (by omega),Z9 va,UG];rfl
 ·refine(ai 1 rfl rfl (x:=b) rfl).trans ?_;rw[YQ _ (by omega),Z9 vb,UG];rfl
theorem Zv{i j:Nat}(hi:i<=a.length)(g:j<=b.length):XC ([a,b],[(i:Int),(j:Int)])=zo (if i=a.length/\j=b.length then -1 else if Y9 a b i j=zt then 0 else 1):=by
 have k:=va.len;have l:=vb.len;unfold XC;simp only[VC,VB];refine VY (x:=(0,((if i=a.length/\j=b.length then -1 else if Y9 a b i j=zt then 0 else 1,2),()))) (V5 (s1:=(if i=a.length then -1 else 0,1)) (s2:=(if i=a.length/\j=b.length then -1 else if Y9 a b i j=zt then 0 else 1,2)) ?_ ?_ rfl) rfl
 ·refine(ai 0 rfl rfl (x:=(i:Int)) rfl).trans ((XY 0 rfl (x:=a) rfl).trans ?_);rw[Uo];by_cases h:i=a.length
  ·rw[zx (by omega),zy h];rfl
  ·rw[zy (by omega),zx h];rfl
 ·refine(ai 1 rfl rfl (x:=(j:Int)) rfl).trans ((XY 1 rfl (x:=b) rfl).trans ?_);rw[Uo];by_cases h:j=b.length
  ·rw[zx (by omega)];by_cases c:i=a.length
   ·rw[zy c,zy ⟨c,h⟩];rfl
   ·rw[zx c,zx (λe=>c e.1)];have d:a[i]?=zo (a[i]'(by omega)):=by simp
    rw[jA d (a9 (by omega))];rfl
  ·have f:b[j]?=zo (b[j]'(by omega)):=by simp
   rw[zy (by omega),Uo,zx (λe:i=a.length/\j=b.length=>h e.2)];by_cases c:i=a.length
   ·rw[zy c,zy (by omega),jB (a9 (by omega)) f];rfl
   ·rw[zx c,zx (by omega)];have d:a[i]?=zo (a[i]'(by omega)):=by simp
    refine(XY 1 rfl (x:=b) rfl).trans ((XY 1 rfl (x:=(j:Int)) rfl).trans ((XY j rfl f).trans ((XY 0 rfl (x:=a) rfl).trans ((XY 0 rfl (x:=(i:Int)) rfl).trans ((XY i rfl d).trans ?_)))));rw[YM,cc d f];cases hs:TZ (b[j]'(by omega)).1 (a[i]'(by omega)).1<;>rfl
theorem Zw{i j:Nat}(hi:i<=a.length)(e:j<=b.length):Wi ([a,b],[(i:Int),(j:Int)])=zo (bA a b i j):=by
 have f:=va.len;have g:=vb.len;unfold Wi;simp only[VC,VB];rw[Va (show[a,b].length<=1048576 from(show 2<=1048576 by omega)),Va (show[(i:Int),(j:Int)].length<=1048576 from(show 2<=1048576 by omega))];refine VY (x:=(0,((2,[kx a i,kx b j]),()))) (V5 (s1:=(1,[kx a i])) (s2:=(2,[kx a i,kx b j])) ?_ ?_ rfl) ?_
 ·refine(ai 0 rfl rfl (x:=(i:Int)) rfl).trans ((XY 0 rfl (x:=a) rfl).trans ?_);rw[W3,WF,WK];by_cases h:i=a.length
  ·have c:((i:Int)=(a.length:Int)):=by omega
   rw[zx (show ¬ ¬ ((i:Int)=(a.length:Int)) by simp[c]),bJ (a9 (by omega))];simp only[c,decide_true];rfl
  ·have d:a[i]?=zo (a[i]'(by omega)):=by simp
   have c:¬ ((i:Int)=(a.length:Int)):=by omega
   rw[zy c];refine(XY 0 rfl (x:=a) rfl).trans ((XY 0 rfl (x:=(i:Int)) rfl).trans ((XY i rfl d).trans ?_));rw[YJ d];simp only[c,decide_false];rfl
 ·refine(ai 1 rfl rfl (x:=(j:Int)) rfl).trans ((XY 1 rfl (x:=b) rfl).trans ?_);rw[W3,WF,WK];by_cases h:j=b.length
  ·have c:((j:Int)=(b.length:Int)):=by omega
   rw[zx (show ¬ ¬ ((j:Int)=(b.length:Int)) by simp[c]),bJ (l:=b) (i:=j) (a9 (by omega))];simp only[c,decide_true];rfl
  ·have d:b[j]?=zo (b[j]'(by omega)):=by simp
   have c:¬ ((j:Int)=(b.length:Int)):=by omega
   rw[zy c];refine(XY 1 rfl (x:=b) rfl).trans ((XY 1 rfl (x:=(j:Int)) rfl).trans ((XY j rfl d).trans ?_));rw[YJ (l:=b) (i:=j) d];simp only[c,decide_false];rfl
 ·show bd (Xo [kx a i,kx b j]) _=_;rw[jX _ _ (Vn _ _) (Vn _ _)];rfl
theorem jP{i:Nat}{l:List U7}(h:i≠0)(hi:i<=l.length):∃ x,l[i-1]?=zo x:=⟨l[i-1]'(by omega),by simp⟩
theorem bg{i j:Nat}(I:Inv a b i j):XB (bA a b i j)=zo (0,0):=by
 have r:=va.len;have s:=vb.len;have hi:=I.ia;have k:=I.jb;unfold XB;rw[show(bA a b i j).1=[a,b]from rfl,ax va vb,UG,Uq,zy rfl];rw[show(bA a b i j).2.1=[(i:Int),(j:Int)]from rfl,Uq,zy (show K7 (AQ [(i:Int),(j:Int)])=K7 (AQ [a,b])from rfl)];refine VY (x:=(1,((0,(0,2)),()))) (V5 (s1:=(0,(0,1))) (s2:=(0,(0,2))) ?_ ?_ rfl) ?_
 ·refine(ai 0 rfl rfl (x:=(i:Int)) rfl).trans ?_;rw[Uo,zx (by omega)];refine(XY 0 rfl (x:=(i:Int)) rfl).trans ((XY 0 rfl (x:=a) rfl).trans ?_);rw[Um,zx (by simp only[VC,VB];omega)];rfl
 ·refine(ai 1 rfl rfl (x:=(j:Int)) rfl).trans ?_;rw[Uo,zx (by omega)];refine(XY 1 rfl (x:=(j:Int)) rfl).trans ((XY 1 rfl (x:=b) rfl).trans ?_);rw[Um,zx (by simp only[VC,VB];omega)];rfl
 rw[show neq ((1:Nat),(((0:Int),((0:Int),(2:Int))),())).1 0=zf from rfl,TA,Zw va vb hi k,UG,c0 (bA a b i j).2.2 (bA a b i j).2.2 (show 2<=1000 by omega) (show 2<=1000 by omega),UG,WF,WK,zx (show ¬ ¬ (bA a b i j).2.2=(bA a b i j).2.2 by simp),Zv va vb hi k,UG];by_cases hd:i=a.length/\j=b.length
 ·rw[zy hd];rfl
 rw[zx hd];cases g:Y9 a b i j with
 |true=>
  rw[zy rfl]
  have m:i<a.length:=by
   refine nb λh'=> ?_;have p:j<b.length:=by omega
   simp_all[jB,a9]
  have e:a[i]?=zo (a[i]'m):=by simp
  refine VY (x:=(1,((0,(0,2)),()))) (V5 (s1:=(0,(0,1))) (s2:=(0,(0,2))) ?_ ?_ rfl) rfl
  ·show br (UV (0:Int) 2) _ _=_;rw[Uo,zy (by omega),Ul,zy (by omega)];refine(XY 0 rfl (x:=(i:Int)) rfl).trans ?_;rw[Uk];by_cases f:i=0
   ·rw[zy (by omega)];rfl
   ·rw[zx (by omega)];obtain⟨y,d⟩:=jP va vb (l:=a) f hi;refine(XY 0 rfl (x:=a) rfl).trans ((XY 0 rfl (x:=(i:Int)) rfl).trans ?_);rw[show TM .i64 (i:Int) 1=((i-1:Nat):Int) by rw[Tq (by omega)];omega,U8,Ua d];refine(XY 0 rfl (x:=a) rfl).trans ((XY 0 rfl (x:=(i:Int)) rfl).trans ((XY i rfl e).trans ?_));have c:=va.lt d (show a[i-1+1]?=zo _ by rw[show i-1+1=i by omega];exact e);rw[YM,zx (by rw[V2 c];simp),XE,zx (ZW c)];rfl
  ·show br (UV (1:Int) 2) _ _=_;rw[Uo,zy (by omega),Ul,zy (by omega)];refine(XY 1 rfl (x:=(j:Int)) rfl).trans ?_;rw[Uk];by_cases f:j=0
   ·rw[zy (by omega)];rfl
   ·rw[zx (by omega)];obtain⟨y,d⟩:=jP va vb (l:=b) f k;refine(XY 1 rfl (x:=b) rfl).trans ((XY 1 rfl (x:=(j:Int)) rfl).trans ?_);rw[show TM .i64 (j:Int) 1=((j-1:Nat):Int) by rw[Tq (by omega)];omega,U8,Ua d];refine(XY 0 rfl (x:=a) rfl).trans ((XY 0 rfl (x:=(i:Int)) rfl).trans ((XY i rfl e).trans ?_));have c:=I.pb (j-1) (by omega) y _ d e;rw[YM,zx (by rw[V2 c];simp),XE,zx (ZW c)];rfl
 |false=>
  rw[zx (by simp)]
  have h:j<b.length:=by
   refine nb λh'=> ?_;have o:i<a.length:=by omega
   simp_all[jA]
  have e:b[j]?=zo (b[j]'h):=by simp
  refine VY (x:=(1,((0,(0,2)),()))) (V5 (s1:=(0,(0,1))) (s2:=(0,(0,2))) ?_ ?_ rfl) rfl
  ·show br (UV (0:Int) 2) _ _=_;rw[Uo,zy (by omega),Ul,zy (by omega)];refine(XY 0 rfl (x:=(i:Int)) rfl).trans ?_;rw[Uk];by_cases f:i=0
   ·rw[zy (by omega)];rfl
   ·rw[zx (by omega)];obtain⟨y,d⟩:=jP va vb (l:=a) f hi;refine(XY 0 rfl (x:=a) rfl).trans ((XY 0 rfl (x:=(i:Int)) rfl).trans ?_);rw[show TM .i64 (i:Int) 1=((i-1:Nat):Int) by rw[Tq (by omega)];omega,U8,Ua d];refine(XY 1 rfl (x:=b) rfl).trans ((XY 1 rfl (x:=(j:Int)) rfl).trans ((XY j rfl e).trans ?_));have q:=I.pa (i-1) (by omega) y _ d e;rw[YM,zx (by grind),XE];by_cases n:y.1=(b[j]'h).1
    ·rw[zy n];rfl
    ·rw[zx n];rfl
  ·show br (UV (1:Int) 2) _ _=_;rw[Uo,zy (by omega),Ul,zy (by omega)];refine(XY 1 rfl (x:=(j:Int)) rfl).trans ?_;rw[Uk];by_cases f:j=0
   ·rw[zy (by omega)];rfl
   ·rw[zx (by omega)];obtain⟨y,d⟩:=jP va vb (l:=b) f k;refine(XY 1 rfl (x:=b) rfl).trans ((XY 1 rfl (x:=(j:Int)) rfl).trans ?_);rw[show TM .i64 (j:Int) 1=((j-1:Nat):Int) by rw[Tq (by omega)];omega,U8,Ua d];refine(XY 1 rfl (x:=b) rfl).trans ((XY 1 rfl (x:=(j:Int)) rfl).trans ((XY j rfl e).trans ?_));have c:=vb.lt d (show b[j-1+1]?=zo _ by rw[show j-1+1=j by omega];exact e);rw[YM,zx (by rw[V2 c];simp),XE,zx (ZW c)];rfl
end
end
section
open Go Sv
section
variable{a b:List U7}(va:VL a)(vb:VL b)
include va vb
theorem lq{n:Nat}{x:U7}(h:n<a.length+b.length)(d:bx a b n=zo x):Xe (al a b n)=zo (x,((dC a b n:Int),(al a b (n+1),0))):=by
 obtain⟨i,hs⟩:=Xa va vb (n:=n) (by omega);obtain⟨j,k⟩:=Xa va vb (n:=n+1) (by omega);have l:=va.len;have m:=vb.len;have e:=i.ia;have f:=i.jb;unfold Xe;rw[show al a b n=bA a b (pos a b n).1 (pos a b n).2 from rfl,bg va vb i,UG,Uq,zy rfl,show(bA a b (pos a b n).1 (pos a b n).2).1=[a,b]from rfl,show(bA a b (pos a b n).1 (pos a b n).2).2.1=[((pos a b n).1:Int),((pos a b n).2:Int)]from rfl,Zv va vb e f,UG,zx (λhh:(pos a b n).1=a.length/\(pos a b n).2=b.length=>by omega)];unfold bx at d;have c:pos a b (n+1)=if Y9 a b (pos a b n).1 (pos a b n).2=zt then((pos a b n).1+1,(pos a b n).2)else((pos a b n).1,(pos a b n).2+1):=rfl
 unfold al dC;cases g:Y9 a b (pos a b n).1 (pos a b n).2 with
 |true=>
  rw[g,zy rfl]at c;rw[g,zy rfl]at d;have hi:=(a8.1 d).1;rw[zy rfl,Uo,zx (by omega),Va (show AQ [((pos a b n).1:Int),((pos a b n).2:Int)]<=1048576 from(show 2<=1048576 by omega))];refine(aL 0 rfl (x:=((pos a b n).1:Int)) rfl).trans ((aL 0 rfl (x:=((pos a b n).1:Int)) rfl).trans ((XY 0 rfl (x:=a) rfl).trans ((XY 0 rfl (x:=((pos a b n).1:Int)) rfl).trans ((XY _ rfl d).trans ?_))));rw[VD (by omega),show lset [((pos a b n).1:Int),((pos a b n).2:Int)] 0 (((pos a b n).1+1:Nat):Int)=[(((pos a b n).1+1:Nat):Int),((pos a b n).2:Int)]from rfl,Zw va vb (by omega) f,UG,c];rfl
 |false=>
  rw[g,zx (by simp)]at c;rw[g,zx (by simp)]at d;have hi:=(a8.1 d).1;rw[zx (by simp),Uo,zx (by omega),Va (show AQ [((pos a b n).1:Int),((pos a b n).2:Int)]<=1048576 from(show 2<=1048576 by omega))];refine(aL 1 rfl (x:=((pos a b n).2:Int)) rfl).trans ((aL 1 rfl (x:=((pos a b n).2:Int)) rfl).trans ((XY 1 rfl (x:=b) rfl).trans ((XY 1 rfl (x:=((pos a b n).2:Int)) rfl).trans ((XY _ rfl d).trans ?_))));rw[VD (by omega),show lset [((pos a b n).1:Int),((pos a b n).2:Int)] 1 (((pos a b n).2+1:Nat):Int)=[((pos a b n).1:Int),(((pos a b n).2+1:Nat):Int)]from rfl,Zw va vb e (by omega),UG,c];rfl
theorem lm{n:Nat}(h:n<=a.length+b.length):Yw (al a b n)=zo (((a.length+b.length-n:Nat):Int),0):=by
 obtain⟨c,hs⟩:=Xa va vb (n:=n) h;have f:=va.len;have g:=vb.len;have d:=c.ia;have e:=c.jb;unfold Yw;rw[show al a b n=bA a b (pos a b n).1 (pos a b n).2 from rfl,bg va vb c,UG,Uq,zy rfl];refine VY (x:=(0,((2,((a.length+b.length-n:Nat):Int)),()))) (V5 (s1:=(1,(a.length:Int)-((pos a b n).1:Int))) (s2:=(2,((a.length+b.length-n:Nat):Int))) ?_ ?_ rfl) rfl
 ·refine(ai 0 rfl rfl (x:=a) rfl).trans ((XY 0 rfl (x:=((pos a b n).1:Int)) rfl).trans ?_);simp only[VC,VB];rw[show TI .i64 (0:Int) (a.length:Int)=(a.length:Int) by rw[To (by omega),x8],Tq (by omega)];rfl
 ·refine(ai 1 rfl rfl (x:=b) rfl).trans ((XY 1 rfl (x:=((pos a b n).2:Int)) rfl).trans ?_)
  grind [VC,VB,To,Tq,pos]
theorem jL:Xy [a,b]=zo (VO a b (a.length+b.length),(ZB a b (a.length+b.length),0)):=by
 have l:=va.len;have m:=vb.len;unfold Xy;rw[ax va vb,UG,Uq,zy rfl];refine Eq.trans (b:=bd (loop _ ([],([],([],(0,([],[0,0])))))) _) rfl ?_
 refine VY (x:=(0,((ZB a b (a.length+b.length),(VO a b (a.length+b.length),0)),())))
  (Ze (λk=>([],(VO a b k,([],(0,(ZB a b k,[((pos a b k).1:Int),((pos a b k).2:Int)])))))) 0 (a.length+b.length) rfl (by omega) (by omega) (λk _ h=> ?_) ?_) rfl
 ·obtain⟨x,c,_⟩:=Ws va vb (n:=k) h;obtain⟨d,hs⟩:=Xa va vb (n:=k) (by omega);have i:(VO a b k).length=k:=WH va vb (by omega);have j:=bV a b k;simp only;rw[Zv va vb d.ia d.jb,UG,zx (λhh:(pos a b k).1=a.length/\(pos a b k).2=b.length=>by omega)];rw[Xx va vb c];unfold bx at c;rw[show ZB a b (k+1)=ZB a b k++[(dC a b k:Int)]from rfl];unfold dC;rw[show pos a b (k+1)=if Y9 a b (pos a b k).1 (pos a b k).2=zt then((pos a b k).1+1,(pos a b k).2)else((pos a b k).1,(pos a b k).2+1)from rfl]
  have e:∀ {β:Type} (y:U7) (q:Unit->Option β),gd (B2 (A0 (AQ (VO a b k)) (AQ [y])) 1048576) q=q ():=λy q=>Va (by grind [A0,AQ,dc,eb]) q;have f:∀ {β:Type} (y:Int) (q:Unit->Option β),gd (B2 (A0 (AQ (ZB a b k)) (AQ [y])) 1048576) q=q ():=λy q=>Va (by grind [A0,AQ,dc,eb]) q;cases g:Y9 a b (pos a b k).1 (pos a b k).2 with
  |true=>
   rw[g,zy rfl]at c;have hi:=(a8.1 c).1;simp only[if_true];rw[Uo,zx (by omega)];refine(XY 0 rfl (x:=a) rfl).trans ((aL 0 rfl (x:=((pos a b k).1:Int)) rfl).trans ((XY _ rfl c).trans ?_));rw[e,f];refine(aL 0 rfl (x:=((pos a b k).1:Int)) rfl).trans ((aL 0 rfl (x:=((pos a b k).1:Int)) rfl).trans ?_);rw[VD (by omega)];rfl
  |false=>
   rw[g,zx (by simp)]at c;have hi:=(a8.1 c).1;simp only[ll,if_false];rw[Uo,zx (by omega)];refine(XY 1 rfl (x:=b) rfl).trans ((aL 1 rfl (x:=((pos a b k).2:Int)) rfl).trans ((XY _ rfl c).trans ?_));rw[e,f];refine(aL 1 rfl (x:=((pos a b k).2:Int)) rfl).trans ((aL 1 rfl (x:=((pos a b k).2:Int)) rfl).trans ?_);rw[VD (by omega)];rfl
 ·obtain⟨d,hs⟩:=Xa va vb (n:=a.length+b.length) (ee _);simp only;rw[Zv va vb d.ia d.jb,UG,zy (show(pos a b (a.length+b.length)).1=a.length/\(pos a b (a.length+b.length)).2=b.length by have:=d.ia;have:=d.jb;omega),Uo,zy (by omega)]
end
theorem f8{s:Vw}(a:s.2.1.length<=32)(b:s.1=zf->s.2.1=[]):YY s=zo 0:=by
 unfold YY;rw[Um,zx (by simp only[VC,Z0];omega),Vs,Uw]
 simp_all[zx,Vs,XE,zy]
theorem g9{s:Vw}{x:U7}(e:s.2.1.length<=32)(f:s.1=zf->s.2.1=[])(g:kE x=0)(a:s.1=zt->TZ x.1 s.2.1=zf):Yy (s,x)=zo (keep s x,((zt,(x.1,s.2.2)),0)):=by
 unfold Yy keep;rw[f8 e f,UG,Uk,zy rfl,Zu,g,UG,Uk,zy rfl];obtain⟨s1,s2,c⟩:=s;obtain⟨h,i,d,j⟩:=x;simp only at a ⊢;cases s1 with
 |true=>
  have:=a rfl;simp only[Tj,YM,this,ll,if_false,Uq,if_true,Vs,XE];by_cases b:h=s2
  ·simp[b,TA]
  ·simp only[b,if_false,decide_false];cases c<;>cases d<;>rfl
 |false=>
  simp only[TA,Uq,if_true,Vs];cases c<;>cases d<;>rfl
theorem gu{l:List U7}{b:Bool}(r:l.length<=20000)(o:bQ (zf,([],b)) l):YE (l,b)=zo (XM (zf,([],b)) l,(0,0)):=by
 unfold YE Wj;simp only[VC,VB];rw[Um,zx (by omega),UG]
 rw[V1 (l:=l) (σ:=Vw×List U7) (s:=(0,(0,([],([],(0,(zf,([],b)))))))) (λk a=>((0:Int),((k:Int),(([]:List U7),(a.2,((0:Int),a.1))))))
  (λm k a=>bQ a.1 m/\a.1.2.1.length<=32/\(a.1.1=zf->a.1.2.1=[])/\a.2.length<=k/\k+m.length=l.length)
  (λm k a=>(1,((0,((l.length:Int),([],(a.2++XM a.1 m,(0,V8 a.1 m))))),()))) ((zf,([],b)),[]) rfl (by omega) ⟨o,by simp,λ_=>rfl,by simp,by simp⟩ ?_ ?_,UG]
 ·simp;rfl
 ·simp_all[re,TA,V8,XM]
 ·rintro k x m ⟨s,out⟩ t j n ⟨⟨c,d,e⟩,f,g,i,p⟩;simp only at c d e f g i ⊢;refine⟨((zt,(x.1,s.2.2)),out++if keep s x=zt then[x]else[]),?_,⟨e,cj c,(λh=>by cases h),?_,by grind⟩,?_⟩
  ·rw[rl n,Tj,U8,Ua j,g9 f g c d,UG,Uq,zy rfl,Uw,U8,Ua j];have q:∀ {β:Type} (k:Unit->Option β),gd (B2 (A0 out.length [x].length) 1048576) k=k ():=λk=>i9 i (by omega) x k
   grind [VH,If]
  ·grind
  grind [V8,XM,hM]
section
variable{a b:List U7}(va:VL a)(vb:VL b)
include va vb
theorem dQ(c:Bool){n:Nat}(h:n<=a.length+b.length):Wp (VO a b n,c)=zo (XM (s0 c) (VO a b n),V8 (s0 c) (VO a b n)):=by
 have f:=va.len;have g:=vb.len;have d:(VO a b n).length=n:=WH va vb h;unfold Wp;simp only[VC,VB];rw[gu (by omega) (YR va vb c h),UG];unfold Wj;rw[UG,Um,d];cases n with
 |zero=>rfl
 |succ m=>
  obtain⟨x,e,_⟩:=Ws va vb (n:=m) (by omega);rw[zy (by omega),show TM .i64 ((m+1:Nat):Int) 1=(m:Int) by rw[Tq (by omega)];omega,U8,Ua (x:=x) (by grind [Zg]),aJ va vb c e]
theorem fy(c:Bool){n:Nat}(h:n<=a.length+b.length):Xf (Wm a b c n)=zo (n:Int):=by
 obtain⟨d,hs⟩:=Xa va vb (n:=n) h;have e:=va.len;have f:=vb.len;unfold Xf;refine VY (x:=(0,(((n:Int),2),()))) (V5 (s1:=(((pos a b n).1:Int),1)) (s2:=((n:Int),2)) ?_ ?_ rfl) rfl
 ·refine(ai 0 rfl rfl (x:=((pos a b n).1:Int)) rfl).trans ?_;show zo (LR.nx (TI .i64 0 ((pos a b n).1:Int),(1:Int)))=_;rw[To (by omega),x8]
 ·refine(ai 1 rfl rfl (x:=((pos a b n).2:Int)) rfl).trans ?_
  grind [To,pos]
theorem f9(c:Bool){n:Nat}(h:n<=a.length+b.length):Ya (Wm a b c n)=zo 0:=by
 obtain⟨d,hs⟩:=Xa va vb (n:=n) h;have g:=va.len;have i:=vb.len;have e:=ZZ (s0 c) (VO a b n);have f:(VO a b n).length=n:=WH va vb h;unfold Ya;rw[show(Wm a b c n).1=bA a b (pos a b n).1 (pos a b n).2 from rfl,bg va vb d,UG,Uq,zy rfl,fy va vb c h,UG];simp only[VC,VB];rw[show(Wm a b c n).2.2.1=XM (s0 c) (VO a b n)from rfl,show(Wm a b c n).2.2.2=(n:Int)from rfl,show(Wm a b c n).2.1=V8 (s0 c) (VO a b n)from rfl,Um,zx (by omega),Um,zx (by omega),Uq,zy rfl];rw[show(bA a b (pos a b n).1 (pos a b n).2).1=[a,b]from rfl,jL va vb,UG,U8];rw[Va (by simp_all[WH,ee]),Va (hU _)];rw[show DV (VO a b (a.length+b.length)) 0 n=VO a b n from by simp_all[DV,tk,l5,Yp],YK];rw[show(s0 c).2.2=c from rfl,dQ va vb c h,UG,Yg,Xd _ _ (by omega),UG,WF,WK,zx (by simp),YK,Yr,Yr,Zy];rfl
theorem ay(c:Bool){n:Nat}(h:n<=a.length+b.length):Vc (Wm a b c n)=zo (((a.length+b.length-n:Nat):Int),0):=by
 unfold Vc;rw[f9 va vb c h,UG,Uq,zy rfl,show(Wm a b c n).1=al a b n from rfl,lm va vb h];rfl
theorem hC(c:Bool){n:Nat}(h:n<=a.length+b.length){k:Nat}:Vq (Wm a b c n,(k:Int))=zo (Wm a b c (n+min k (a.length+b.length-n)),(((min k (a.length+b.length-n):Nat):Int),0)):=by
 have i:=va.len;have l:=vb.len;obtain⟨u,e⟩:∃ u,u=min k (a.length+b.length-n):=⟨_,rfl⟩
 have d:Uy (k:Int) ((a.length+b.length-n:Nat):Int)=(u:Int):=by
  unfold Uy;omega
 rw[<- e];unfold Vq;rw[ay va vb c h,UG,Uk,zy rfl];simp only[d,VC,VB];rw[Uo,zx (by omega),Uq,zy rfl,fy va vb c h,UG,To (by omega),Um,zx (by omega)]
 refine VY (x:=(0,(((u:Int),((al a b (n+u)).1,((al a b (n+u)).2.1,((al a b (n+u)).2.2.1,((al a b (n+u)).2.2.2.1,((al a b (n+u)).2.2.2.2,((Wm a b c n).2.1.1,((Wm a b c n).2.1.2.1,((Wm a b c n).2.1.2.2,(Wm a b c n).2.2))))))))),())))
  (Ze (λj=>((j:Int),((al a b (n+j)).1,((al a b (n+j)).2.1,((al a b (n+j)).2.2.1,((al a b (n+j)).2.2.2.1,((al a b (n+j)).2.2.2.2,((Wm a b c n).2.1.1,((Wm a b c n).2.1.2.1,((Wm a b c n).2.1.2.2,(Wm a b c n).2.2)))))))))) 0 u rfl (by omega) (by omega) (λj _ g=> ?_) ?_) ?_
 ·obtain⟨y,f,_⟩:=Ws va vb (n:=n+j) (by omega);show br (UV (j:Int) (u:Int)) _ _=_;rw[Uo,zy (by omega)];show bd (Xe (al a b (n+j))) _=_;rw[lq va vb (by omega) f,UG,VD (by omega)];rfl
 ·simp_all[Uo,zx]
 ·rw[show(Wm a b c n).1.1=[a,b]from rfl,jL va vb,UG,show(Wm a b c n).2.2.2=(n:Int)from rfl,show TI .i64 (n:Int) (u:Int)=((n+u:Nat):Int) by rw[To (by omega)];omega,U8];rw[Va (by rw[WH va vb (ee _)];omega),Va (hU _)];rw[show DV (VO a b (a.length+b.length)) 0 (n+u)=VO a b (n+u)from by unfold DV;rw[tk,l5];exact Yp va vb (by omega),show(Wm a b c n).2.1.2.2=c from YK _ _,dQ va vb c (by omega),UG];rfl
end
end
section
open Go Sv
theorem dt(B:Int)(i:Nat):Vx B (i+1)=2*Vx B i:=by
 grind [Vx,Int.pow_succ,Int.mul_assoc,Int.mul_comm]
theorem dB{B:Int}{i:Nat}(a:1<=B)(b:B<=16)(hi:i<=12):W1 (B,(i:Int))=zo (Vx B i):=by
 unfold W1;refine VY (x:=(0,((Vx B i,(i:Int)),()))) (bL (λk=>(Vx B k,(k:Int))) i (by simp[Vx]) (by omega) (λk d=> ?_) ?_) rfl
 ·have c:=gG a b (show k<=12 by omega);simp only;rw[Uo,zy (by omega),Tp (by omega),VD (by omega),dt]
 simp_all[Uo,zx]
theorem rm(r:VU)(a:r.2.length<=9223372036854775807):YW r=zo (if r.1<1\/r.1>1000000 then(-1,7)else XO r.2):=by
 grind [YW,Uo,Um,YQ,UG]
theorem lz(r:VU)(most:Int)(a:List Int)(p:r.2.length<=9223372036854775807)(hi:a.length<=1048576):Xg (r,(most,a))=zo (kR a most r):=by
 unfold Xg kR;rw[rm r (by omega),UG];simp only[VC,VB];by_cases h:r.1<1\/r.1>1000000
 ·rw[zy h,zy h];rfl
 rw[zx h,zx h,Uq];by_cases b:(XO r.2).2=0;rotate_left
 ·simp_all
 rw[zy b,zx (show ¬ (XO r.2).2≠0 by simp[b]),Uk,Um];by_cases g:r.2.length=0
 ·simp_all
 rw[zx (by omega),zx g];by_cases c:(r.2.length:Int)>most
 ·simp_all
 rw[zx c,zx c]
 obtain⟨q,n,t⟩:=XG (l:=a) (σ:=Unit) (s:=((0:Int),(0:Int))) (λk _=>((k:Int),(0:Int))) (λm k _=>r.1∈a<->r.1∈m) (λ(q:Nat×((Int×Int)×Unit))=>(q.1=1/\r.1 ∉ a)\/(q.1=0/\r.1∈a/\q.2.1.2=8))
  (f:=λs1=>br (UV s1.1 (a.length:Int)) (λ_=>S1 s1.1 λj=>ix a j λo=>br (PC o r.1) (λ_=>zo (.dn ((0,((s1.1,8),()))))) λ_=>zo (.nx (TI .i64 s1.1 1,s1.2))) λ_=>zo (.dn ((1,(s1,())))))
  () rfl (by omega) Iff.rfl (λ_ h=>⟨_,by simp only;rw[re];rfl,.inl ⟨rfl,by grind⟩⟩) (λk x m _ hd d i h=>by
   simp only;rw[rl i,Tj,U8,Ua d,Uk];by_cases e:x=r.1
   ·simp_all
   ·rw[zx e];exact .inl ⟨(),by rw[VH d (by omega)],by grind⟩)
 refine VY n ?_;rw[UH]
 grind
theorem jQ(L:VA)(hb:L.2.length<=9223372036854775807)(hr:∀ rs∈L.2,rs.length<=9223372036854775807 /\ ∀ r∈rs,r.2.length<=9223372036854775807):Wk L=zo (WZ L):=by
 unfold Wk WZ;simp only[VC,VB];rw[Uo,Um,Um];by_cases w:L.1<1
 ·simp_all
 rw[zx w];by_cases x:L.1>16
 ·simp_all
 rw[zx x,zx (show ¬ (L.1<1\/L.1>16) by omega)];by_cases Y:(L.2.length:Int)>12
 ·grind
 rw[zx Y,zx (by omega)];have Z:L.2.length<=12:=by omega
 obtain⟨T,M⟩:∃ T,T=aa L.1 0 [] L.2:=⟨_,rfl⟩;rw[<- M]
 have z:T=zn->(br (UT (L.2.length:Int) 0) (λ_=>S1 (TM .i64 (L.2.length:Int) 1) λB=>ix L.2 B λG=>br (PC (G.length:Int) 0) (λ_=>zo ((TM .i64 (L.2.length:Int) 1,((0:Int),(6:Int))))) λ_=>zo ((0,(0,0)))) λ_=>zo ((0,(0,0))))=zo (if L.2.getLast?=zo []then(((L.2.length-1:Nat):Int),(0,6))else(0,(0,0))):=by
  intro _;rw[Um];by_cases S:L.2=[]
  ·rw[S];rfl
  ·have hp:=eo.2 S;rw[zy (by omega),show TM .i64 (L.2.length:Int) 1=((L.2.length-1:Nat):Int) by rw[Tq (by omega)];omega,U8,lc];have d:L.2[L.2.length-1]?=zo (L.2[L.2.length-1]'(by omega)):=by simp
   rw[Ua d,d,Uk];by_cases he:L.2[L.2.length-1]'(by omega)=[]<;>simp_all
 obtain⟨r,E,g⟩:=XG (l:=L.2) (σ:=List Int) (s:=((0:Int),(([]:List Int),((0:Int),((0:Int),(0:Int)))))) (λi a=>((0:Int),(a,((0:Int),((0:Int),(i:Int))))))
  (λm i a=>aa L.1 i a m=T/\a.length<=2*i) (λ(r:Nat×((Int×(List Int×(Int×(Int×Int))))×Unit))=>(r.1=1/\T=zn)\/(r.1=0/\Q1 T r.2.1.1 r.2.1.2.2.1 r.2.1.2.2.2.1/\T≠zn))
  (f:=λ(s0:(Int×((List Int)×(Int×(Int×Int)))))=>br (UV s0.2.2.2.2 (L.2.length:Int)) (λ_=>S1 s0.2.2.2.2 λk1=>ix L.2 k1 λu=>br (UT (u.length:Int) 2) (λ_=>zo (.dn ((0,((0,(s0.2.1,(s0.2.2.2.2,(3,s0.2.2.2.2)))),()))))) λ_=>bd (loop (λ(b:(Int×((List Int)×(Int×(Int×Int)))))=>br (UV b.2.2.2.2 (u.length:Int)) (λ_=>S1 b.2.2.2.2 λC=>ix u C λI=>bd (W1 (L.1,s0.2.2.2.2)) λF=>bd (Xg ((I,(F,b.2.1)))) λo=>br (Sx o 0) (λ_=>zo (.dn ((0,((b.2.2.2.2,(b.2.1,(s0.2.2.2.2,(o,b.2.2.2.2)))),()))))) λ_=>S1 b.2.2.2.2 λD=>ix u D λp=>gd (B2 (A0 b.2.1.length [p.1].length) 1048576) λ_=>zo (.nx ((b.1,(If b.2.1 [p.1],(b.2.2.1,(b.2.2.2.1,TI .i64 b.2.2.2.2 1))))))) λ_=>zo (.dn ((1,(b,()))))) ((s0.1,(s0.2.1,(s0.2.2.1,(s0.2.2.2.1,0)))))) λc=>br (neq c.1 0) (λ_=>zo (.dn ((0,((c.2.1.1,(c.2.1.2.1,(c.2.1.2.2.1,(c.2.1.2.2.2.1,s0.2.2.2.2)))),()))))) λ_=>zo (.nx ((c.2.1.1,(c.2.1.2.1,(c.2.1.2.2.1,(c.2.1.2.2.2.1,TI .i64 s0.2.2.2.2 1))))))) λ_=>zo (.dn ((1,(s0,())))))
  [] rfl (by omega) ⟨M.symm,by simp⟩ (λa h=>by
   refine⟨_,by simp only;rw[re];rfl,.inl ⟨rfl,?_⟩⟩;rw[<- h.1];rfl) (λi rs m a hd d hi h=>by
   obtain⟨h,O⟩:=h;simp only;obtain⟨W,n⟩:=hr rs (bl d);rw[rl hi,Tj,U8,Ua d,Um];unfold aa at h;by_cases K:rs.length>2
   ·rw[zy (by omega)];rw[zy K]at h;refine .inr ⟨_,rfl,.inr ⟨rfl,?_,by grind⟩⟩;rw[<- h];exact⟨rfl,rfl,rfl⟩
   rw[zx (by omega)];rw[zx K]at h;obtain⟨U,N⟩:∃ U,U=ad (Vx L.1 i) 0 a rs:=⟨_,rfl⟩;rw[<- N]at h
   obtain⟨r,E,g⟩:=XG (l:=rs) (σ:=Unit) (s:=((0:Int),(a,((0:Int),((0:Int),(0:Int)))))) (λk _=>((0:Int),(a++(rs.take k).map (·.1),((0:Int),((0:Int),(k:Int))))))
    (λm k _=>ad (Vx L.1 i) k (a++(rs.take k).map (·.1)) m=U) (λ(r:Nat×((Int×(List Int×(Int×(Int×Int))))×Unit))=>(r.1=1/\U=zn/\r.2.1=(0,(a++rs.map (·.1),(0,(0,(rs.length:Int))))))\/(r.1=0 /\ ∃ k e,U=zo (k,e)/\r.2.1.1=(k:Int)/\r.2.1.2.2.1=(i:Int)/\r.2.1.2.2.2.1=e))
    (f:=λ(b:(Int×((List Int)×(Int×(Int×Int)))))=>br (UV b.2.2.2.2 (rs.length:Int)) (λ_=>S1 b.2.2.2.2 λC=>ix rs C λI=>bd (W1 (L.1,(i:Int))) λF=>bd (Xg ((I,(F,b.2.1)))) λo=>br (Sx o 0) (λ_=>zo (.dn ((0,((b.2.2.2.2,(b.2.1,((i:Int),(o,b.2.2.2.2)))),()))))) λ_=>S1 b.2.2.2.2 λD=>ix rs D λp=>gd (B2 (A0 b.2.1.length [p.1].length) 1048576) λ_=>zo (.nx ((b.1,(If b.2.1 [p.1],(b.2.2.1,(b.2.2.2.1,TI .i64 b.2.2.2.2 1))))))) λ_=>zo (.dn ((1,(b,())))))
    () (by simp) (by omega) (by simp[N]) (λ_ h=>by
     refine⟨_,by simp only;rw[re];rfl,.inl ⟨rfl,by rw[<- h];rfl,by simp⟩⟩) (λk r m _ hd d X h=>by
     simp only;have hr2:=n r (bl d);have A:(rs.take (k+1)).map (·.1)=(rs.take k).map (·.1)++[r.1]:=by grind
     have P:(a++(rs.take k).map (·.1)).length<=100:=by simp;omega
     rw[rl X,Tj,U8,Ua d,dB (by omega) (by omega) (by omega),UG,lz _ _ _ (by omega) (by omega),UG,Uq];unfold ad at h;by_cases J:kR (a++(rs.take k).map (·.1)) (Vx L.1 i) r=0
     ·rw[zx (λhh:kR (a++(rs.take k).map (·.1)) (Vx L.1 i) r≠0=>hh J)]at h;rw[zy J,U8,Ua d,Va (by grind [A0,dc,eb])];refine .inl ⟨(),?_,?_⟩
      ·rw[VH d (by omega),A,<- hM];rfl
      simp_all
     grind)
   rw[E,UG,UH];rcases g with⟨g,j,q⟩|⟨g,k,e,j,q,q5,q6⟩
   ·rw[zx (show ¬ r.1=0 by omega),q,VH d (by omega)]
    grind
   ·rw[zy g];rw[j]at h;refine .inr ⟨_,rfl,.inr ⟨rfl,?_,by grind⟩⟩;rw[<- h]
    exact⟨q,q5,q6⟩)
 refine VY E ?_;rw[UH];rcases g with⟨g,j⟩|⟨g,j,q⟩
 ·grind
 ·rw[zy g];cases y:T with
  |none=>simp_all
  |some t=>
   obtain⟨i,k,e⟩:=t;rw[y]at j;rw[j.1,j.2.1,j.2.2]
theorem l8(L:VA)(b:L.2.length<=1048576)(a:∀ rs∈L.2,rs.length<=1048576 /\ ∀ r∈rs,r.2.length<=9223372036854775807):Wk L=zo (WZ L):=jQ L (by omega) λrs h=>⟨by grind,(a rs h).2⟩
def VJ(ls:List (List VU)):List VU:=ls.flatMap List.reverse
theorem VLev.small{L:VA}(v:VLev L):L.2.length<=1048576 /\ ∀ rs∈L.2,rs.length<=1048576 /\ ∀ r∈rs,r.2.length<=9223372036854775807:=by
 refine⟨by have:=v.len;omega,λrs a=> ?_⟩;obtain⟨i,hi⟩:=co a;obtain⟨d,b⟩:=v.lev i rs hi;exact⟨by omega,λr c=>by have:=(b r c).vl.len;omega⟩
theorem ZK:∀ (ls:List (List VU)),(∀ rs∈ls,rs.length<=2)->(VJ ls).length<=2*ls.length
 |[],_=>by simp[VJ]
 |rs::ls,h=>by
  have b:=ZK ls λr a=>h r (by simp[a])
  grind [VJ,List.length_append,List.length_reverse,dc]
theorem VLev.two{L:VA}(v:VLev L):∀ rs∈L.2,rs.length<=2:=λrs a=>by
 obtain⟨i,hi⟩:=co a;exact(v.lev i rs hi).1
theorem aw{L:VA}(v:VLev L):Wq L=zo (VJ L.2,0):=by
 obtain⟨d,b⟩:=v.small;have e:=v.len;unfold Wq;simp only[VC,VB];rw[l8 _ d b,YL v,UG,Uq,zy rfl]
 rw[V1 (l:=L.2) (σ:=List VU) (s:=(([]:List VU),(0:Int))) (λi m=>(m,(i:Int))) (λls i m=>(∀ rs∈ls,rs.length<=2)/\m.length<=2*i) (λls _ m=>(0,((m++VJ ls,(L.2.length:Int)),()))) [] rfl (by omega) ⟨v.two,by simp⟩ (λm _=>by
  simp_all[re,TA,VJ]) (λi rs ls m hd a hi h=>by
   refine⟨m++rs.reverse,?_,⟨λr b=>h.1 r (by simp[b]),by grind⟩,by simp[VJ]⟩;have c:=h.1 rs (by simp);have f:m.length<=24:=by omega
   simp only;rw[rl hi,Tj,U8,Ua a];have gg:∀ {β:Type} (z:List VU) (x:VU) (k:Unit->Option β),z.length<=100->gd (B2 (A0 z.length [x].length) 1048576) k=k ():=λz x k g=>Va (by grind [A0,dc,eb]) k
   match rs,c,a with
   |[],_,a=>
    refine VY (x:=(0,((m,-1),()))) (WY (n:=1) (by omega) (Vr rfl)) ?_;rw[VH a (by omega)];simp
   |[r0],_,a=>
    refine VY (x:=(0,((m++[r0],-1),()))) (WY (n:=2) (by omega) ((Vi (s':=(m++[r0],-1)) ?_).trans (Vr rfl))) ?_
    ·show br (Sw (0:Int) 0) _ _=_;rw[Ul,zy (by omega),U8,Ua a];refine(XY 0 rfl (x:=r0) rfl).trans ?_;rw[gg m _ _ (by omega)];rfl
    ·rw[VH a (by omega)];simp
   |[r0,r1],_,a=>
    refine VY (x:=(0,((m++[r1]++[r0],-1),()))) (WY (n:=3) (by omega) ((Vi (s':=(m++[r1],0)) ?_).trans ((Vi (s':=(m++[r1]++[r0],-1)) ?_).trans (Vr rfl)))) ?_
    ·show br (Sw (1:Int) 0) _ _=_;rw[Ul,zy (by omega),U8,Ua a];refine(XY 1 rfl (x:=r1) rfl).trans ?_;rw[gg m _ _ (by omega)];rfl
    ·show br (Sw (0:Int) 0) _ _=_;rw[Ul,zy (by omega),U8,Ua a];refine(XY 0 rfl (x:=r0) rfl).trans ?_;rw[gg (m++[r1]) _ _ (by simp;omega)];rfl
    ·rw[VH a (by omega)];simp),UG]
 simp
theorem ZJ(a b:Int):Uz a b=max a b:=by unfold Uz;omega
theorem YS:∀ (l:List VU) (m:Int),0<=m->l.foldl (λm r=>Uz m r.1) m=max m (l.foldl (λm r=>Uz m r.1) 0)
 |[],m,h=>by simp;omega
 |r::l,m,h=>by
  have a:=YS l (Uz m r.1) (by rw[ZJ];omega);have b:=YS l (Uz 0 r.1) (by rw[ZJ];omega);simp only[hI];rw[a,b,ZJ,ZJ];omega
theorem dJ(l:List VU)(m:Int)(h:0<=m):l.reverse.foldl (λm r=>Uz m r.1) m=l.foldl (λm r=>Uz m r.1) m:=by
 induction l generalizing m with
 |nil=>rfl
 |cons r l a=>
  rw[List.reverse_cons,List.foldl_append,a m h,hI];simp only[hI,List.foldl_nil]
  grind [YS,Uz,ZJ]
theorem eF(l:List VU)(m:Int)(h:0<=m):0<=l.foldl (λm r=>Uz m r.1) m:=by
 rw[YS l m h];omega
theorem Z4:∀ (ls:List (List VU)) (m:Int),0<=m->(VJ ls).foldl (λm r=>Uz m r.1) m=ls.foldl (λm rs=>rs.foldl (λm r=>Uz m r.1) m) m
 |[],m,_=>rfl
 |rs::ls,m,h=>by
  have a:=Z4 ls (rs.foldl (λm r=>Uz m r.1) m) (eF _ _ h)
  grind [VJ,dJ]
theorem eO{L:VA}(v:VLev L):Wr L=zo (Xh L.2):=by
 have b:=v.len;have c:=ZK L.2 v.two;unfold Wr;simp only[VC,VB];rw[aw v,UG]
 rw[V1 (l:=VJ L.2) (σ:=Int) (s:=((0:Int),(0:Int))) (λi m=>(m,(i:Int))) (λ_ _ _=>True) (λl _ m=>(0,((l.foldl (λm r=>Uz m r.1) m,((VJ L.2).length:Int)),()))) 0 rfl (by omega) trivial (λm _=>by
  simp only;rw[re,TA];rfl) (λk r l m hd d a _=>⟨Uz m r.1,by
   grind [rl,Tj,U8,Ua,VH],trivial,rfl⟩),UG]
 rw[Z4 _ _ (by omega)];rfl
theorem jM{L:VA}(d:L.2.length<=1000):Wu L=zo (VS 0 L.2):=by
 unfold Wu;simp only[VC,VB]
 rw[V1 (l:=L.2) (σ:=List Int) (s:=(([]:List Int),(0:Int))) (λi m=>(m,(i:Int))) (λls i m=>m++VS i ls=VS 0 L.2) (λ_ _ _=>(0,((VS 0 L.2,(L.2.length:Int)),()))) [] rfl (by omega) rfl (λm h=>by
  simp_all[re,TA,VS]) (λi rs ls m hd b hi h=>by
   refine⟨m++(if rs.length=2 then[(i:Int)]else[]),?_,?_,rfl⟩
   ·simp only;rw[rl hi,Tj,U8,Ua b,Uk]
    have e:m.length<=1000:=by
     have a:=congrArg rz h;have c:=YN L.2 0
     grind
    by_cases a:rs.length=2
    ·rw[zy (by omega),zy a,Va (by grind [A0,dc,eb]),VH b (by omega)];rfl
    ·rw[zx (by omega),zx a,iP,VH b (by omega)]
   ·rw[hM];exact h),UG]
theorem vo{L:VA}(v:VLev L)(k:Int):Zp (L,k)=zo (if k<0\/k>=12 then 7 else 0):=by
 obtain⟨a,b⟩:=v.small;unfold Zp;rw[l8 _ a b,YL v,UG,Uk,zy rfl,Uo,Ul]
 grind
theorem gz{L:VA}(v:VLev L){n:Nat}(b:n<L.2.length):WD (L,(n:Int))=zo (decide ((n:Int)=(L.2.length:Int)-1)):=by
 have a:=v.len;unfold WD ZV;simp only[VC,VB];rw[vo v,UG,zx (by omega),Uq,zy rfl,UG,VD (by omega)];unfold UT
 grind [WF]
theorem gv{a b:List U7}(va:VL a)(d:VL b)(c:Bool):YZ ([a,b],c)=zo (Wm a b c 0,(0,0)):=by
 unfold YZ ZU Wj;rw[ax va d,UG,Uq,zy rfl];refine Eq.trans (b:=bd (bd (Wi ([a,b],[((0:Nat):Int),((0:Nat):Int)])) _) _) rfl ?_;rw[Zw va d (hU _) (hU _)];rfl
theorem jy{L:VA}{n:Nat}{a b:VU}(c:Bool)(h:L.2[n]?=zo [a,b])(v0:VL a.2)(v1:VL b.2):Vh (L,((n:Int),c))=zo ((n:Int),Wm b.2 a.2 c 0):=by
 have d:=(a8.1 h).1;unfold Vh;simp only[VC,VB];rw[Ul,zx (by omega),U8,Ua h,Ua (x:=b) rfl,Ua (x:=a) rfl,gv v1 v0];rfl
theorem rf{L:VA}{n:Nat}{a b:VU}{j:Job}(h:L.2[n]?=zo [a,b])(v0:VL a.2)(v1:VL b.2){β:Type}(A B:Option β) :
  (bd (Vh (L,((n:Int),j.2.2.1.2.2))) λc=>bd (Vc c.2) λd=>br (UV j.2.2.2.2 0) (λ_=>A) λ_=>br (UT j.2.2.2.2 d.1) (λ_=>A) λ_=>bd (Vq (c.2,j.2.2.2.2)) λe=>bd (Vp (e.1,j.2)) λf=>br (IG f) (λ_=>A) λ_=>B)
  = if j.2.2.2.2<0\/j.2.2.2.2>((b.2.length+a.2.length:Nat):Int)then A else if Wm b.2 a.2 j.2.2.1.2.2 j.2.2.2.2.toNat=j.2 then B else A:=by
 rw[jy _ h v0 v1,UG,ay v1 v0 _ (hU _),UG,Uo,Um,l5];by_cases g:j.2.2.2.2<0
 ·simp_all
 rw[zx g];by_cases i:j.2.2.2.2>((b.2.length+a.2.length:Nat):Int)
 ·simp_all
 rw[zx i,zx (show ¬ (j.2.2.2.2<0\/j.2.2.2.2>((b.2.length+a.2.length:Nat):Int)) by omega)];obtain⟨k,l⟩:∃ k:Nat,j.2.2.2.2=(k:Int):=⟨j.2.2.2.2.toNat,by omega⟩;rw[l,hC v1 v0 _ (hU _),UG,l5,gM,s8 (by omega),bo];obtain⟨s1,s2,m,o,p,q⟩:=dO v1 v0 j.2.2.1.2.2 (n:=k) (by omega);rw[gy _ _ s1 s2 m o p q,UG,WF,WK]
 simp_all
end
section
open Go Sv
theorem eP(s:U9)(U:s.1.2.length<=9223372036854775807)(hr:∀ rs∈s.1.2,rs.length<=9223372036854775807 /\ ∀ r∈rs,r.2.length<=9223372036854775807)(hj:s.2.1.length<=9223372036854775807):Wl s=zo (VF s):=by
 unfold Wl VF;simp only[VC,VB];rw[jQ _ U hr,UG,Uk];by_cases e:(WZ s.1).2.2=0;rotate_left
 ·rw[zx e,zy e,Uk,zx e,Uq,zx e]
 rw[zy e,zx (show ¬ (WZ s.1).2.2≠0 by simp[e]),Uo,Um];have v:=Xz.1 e;by_cases x:s.2.2<1
 ·simp_all
 rw[zx x];by_cases m:s.2.2>1000001
 ·simp_all
 rw[zx m,zx (show ¬ (s.2.2<1\/s.2.2>1000001) by omega),Uk,zy e,eO v,UG,Un];by_cases y:s.2.2<=Xh s.1.2
 ·simp_all
 rw[zx y,zx y,Uq,zy e,jM (by have:=v.len;omega),UG];obtain⟨a,o⟩:∃ a,a=VS 0 s.1.2:=⟨_,rfl⟩;have hdl:a.length<=12:=by have:=YN s.1.2 0;have:=v.len;grind
 rw[<- o];obtain⟨T,S⟩:∃ T,T=Xw s.1 a 0 s.2.1:=⟨_,rfl⟩;rw[<- S]
 obtain⟨r,q1,C⟩:=XG (l:=s.2.1) (σ:=Unit) (λi _=>((0:Int),((0:Int),(i:Int)))) (λjs i _=>Xw s.1 a i js=T) (λ(r:Nat×((Int×(Int×Int))×Unit))=>(T=zn/\r.1=1)\/(∃ i:Nat,T=zo i/\r.1=0/\r.2.1.1=6/\r.2.1.2.1=(i:Int)))
  (f:=λb=>br (UV b.2.2 (s.2.1.length:Int)) (λ_=>S1 b.2.2 λk7=>ix s.2.1 k7 λc=>br (Sw b.2.2 (a.length:Int)) (λ_=>zo (.dn ((0,((6,(b.2.2,b.2.2)),()))))) λ_=>S1 b.2.2 λk9=>ix a k9 λO=>br (Sx c.1 O) (λ_=>zo (.dn ((0,((6,(b.2.2,b.2.2)),()))))) λ_=>br c.2.2.1.2.2 (λ_=>bd (WD (s.1,c.1)) λG=>br (IG G) (λ_=>zo (.dn ((0,((6,(b.2.2,b.2.2)),()))))) λ_=>bd (Vh ((s.1,(c.1,c.2.2.1.2.2)))) λu=>bd (Vc u.2) λI=>br (UV c.2.2.2.2 0) (λ_=>zo (.dn ((0,((6,(b.2.2,b.2.2)),()))))) λ_=>br (UT c.2.2.2.2 I.1) (λ_=>zo (.dn ((0,((6,(b.2.2,b.2.2)),()))))) λ_=>bd (Vq (u.2,c.2.2.2.2)) λJ=>bd (Vp (J.1,c.2)) λK=>br (IG K) (λ_=>zo (.dn ((0,((6,(b.2.2,b.2.2)),()))))) λ_=>zo (.nx ((b.1,(b.2.1,TI .i64 b.2.2 1))))) λ_=>bd (Vh ((s.1,(c.1,c.2.2.1.2.2)))) λw=>bd (Vc w.2) λL=>br (UV c.2.2.2.2 0) (λ_=>zo (.dn ((0,((6,(b.2.2,b.2.2)),()))))) λ_=>br (UT c.2.2.2.2 L.1) (λ_=>zo (.dn ((0,((6,(b.2.2,b.2.2)),()))))) λ_=>bd (Vq (w.2,c.2.2.2.2)) λM=>bd (Vp (M.1,c.2)) λN=>br (IG N) (λ_=>zo (.dn ((0,((6,(b.2.2,b.2.2)),()))))) λ_=>zo (.nx ((b.1,(b.2.1,TI .i64 b.2.2 1))))) λ_=>zo (.dn ((1,(b,())))))
  (s:=(0,(0,0))) () rfl (by omega) S.symm (λ_ h=>by
   refine⟨_,by simp only;rw[re];rfl,.inl ⟨by rw[<- h];rfl,rfl⟩⟩) (λi j js _ hd Z hi h=>by
   simp only;rw[rl hi,Tj,U8,Ua Z,Ul];unfold Xw at h
   have W:aZ s.1 a i j=zt -> ∃ r:Nat×((Int×(Int×Int))×Unit),(zo (LR.dn ((0,((6,((i:Int),(i:Int))),()))):LR (Int×(Int×Int)) _))=zo (.dn r)/\((T=zn/\r.1=1)\/(∃ i:Nat,T=zo i/\r.1=0/\r.2.1.1=6/\r.2.1.2.1=(i:Int))):=λU=>by
    grind
   have E:aZ s.1 a i j=zf -> ∃ st':Unit,(zo (LR.nx ((0:Int),((0:Int),TI .i64 (i:Int) 1))):Option (LR _ (Nat×((Int×(Int×Int))×Unit))))=zo (.nx ((0:Int),((0:Int),((i+1:Nat):Int))))/\Xw s.1 a (i+1) js=T:=λhg=>by
    rw[zx (by simp[hg])]at h;exact⟨(),by rw[VH Z (by omega)],h⟩
   by_cases x:(i:Int)>=(a.length:Int)
   ·rw[zy x]
    grind [aZ,a9]
   rw[zx x,U8];have D:a[i]?=zo (a[i]'(by omega)):=by simp
   rw[Ua D,Uq];obtain⟨n,X,q,t,g⟩:=Y6 (ls:=s.1.2) (i:=0) (k:=i) (d:=a[i]'(by omega)) (by simp_all);rw[gM]at X
   have z:aZ s.1 a i j=(if j.1≠(a[i]'(by omega))then zt else if j.2.2.1.2.2=zt/\j.1≠(s.1.2.length:Int)-1 then zt else if j.2.2.2.2<0\/j.2.2.2.2>((t.2.length+q.2.length:Nat):Int)then zt else decide (Wm t.2 q.2 j.2.2.1.2.2 j.2.2.2.2.toNat≠j.2)):=by
    grind [aZ,bo]
   by_cases m:j.1=(a[i]'(by omega));rotate_left
   ·simp_all
   rw[zy m];rw[zx (by simp[m])]at z;have p:j.1=(n:Int):=by rw[m,X]
   have Y:=(v.lev n _ g).2;have v0:=(Y q (by simp)).vl;have v1:=(Y t (by simp)).vl;have F:=(a8.1 g).1;rw[p,gz v F,UG,WF,WK,rf g v0 v1,Uw];rw[p]at z;by_cases y:j.2.2.1.2.2=zt/\(n:Int)≠(s.1.2.length:Int)-1
   ·simp_all
   rw[zx y]at z
   have h4:∀ {γ:Type} (A B:γ),(if j.2.2.1.2.2=zt then if ¬(n:Int)=(s.1.2.length:Int)-1 then A else B else B)=B:=by
    simp_all
   rw[h4];by_cases P:j.2.2.2.2<0\/j.2.2.2.2>((t.2.length+q.2.length:Nat):Int)
   ·simp_all
   rw[zx P];rw[zx P]at z;by_cases h6:Wm t.2 q.2 j.2.2.1.2.2 j.2.2.2.2.toNat=j.2
   all_goals simp_all)
 refine VY q1 ?_;rw[UH];rcases C with⟨C,q3⟩|⟨i,C,q3,q4,q5⟩
 ·rw[zx (show ¬ r.1=0 by omega),C,Uo]
  grind
 grind
theorem fx(s:U9)(b:s.1.2.length<=1048576)(a:∀ rs∈s.1.2,rs.length<=1048576 /\ ∀ r∈rs,r.2.length<=9223372036854775807)(c:s.2.1.length<=1048576):Wl s=zo (VF s):=eP s (by omega) (λrs h=>⟨by grind,(a rs h).2⟩) (by omega)
end
section
open Go Sv
def JobAt(L:VA)(n:Nat)(j:Job):Prop:=∃ a b c k,L.2[n]?=zo [a,b]/\j=((n:Int),Wm b.2 a.2 c k)/\k<=b.2.length+a.2.length/\(c=zt->n+1=L.2.length)/\VL a.2/\VL b.2
structure VSt (s:U9):Prop where
 lev:VLev s.1
 n1:1<=s.2.2
 n2:s.2.2<=1000001
 n3:Xh s.1.2<s.2.2
 due:s.2.1.map (·.1)=VS 0 s.1.2
 job:∀ j∈s.2.1,∃ n,JobAt s.1 n j
theorem dy(a b:List U7)(c:Bool)(k:Nat):(Wm a b c k).2.1.2.2=c:=by
 show(V8 (s0 c) (VO a b k)).2.2=c;rw[YK]
theorem cg{L:VA}(v:VLev L){i:Nat}{j:Job}:aZ L (VS 0 L.2) i j=zf <-> ∃ n,(VS 0 L.2)[i]?=zo j.1/\JobAt L n j:=by
 constructor
 ·intro h;unfold aZ at h;cases hd:(VS 0 L.2)[i]? with
  |none=>simp_all
  |some d=>
   rw[hd]at h;simp only at h;by_cases e:j.1=d;rotate_left
   ·simp_all
   rw[zx (by simp[e])]at h;by_cases m:j.2.2.1.2.2=zt/\j.1≠(L.2.length:Int)-1
   ·simp_all
   rw[zx m]at h;obtain⟨n,f,a,b,c⟩:=Y6 hd;rw[gM]at f;rw[f,bo,c]at h;simp only at h;by_cases o:j.2.2.2.2<0\/j.2.2.2.2>((b.2.length+a.2.length:Nat):Int)
   ·grind
   rw[zx o]at h;have p:Wm b.2 a.2 j.2.2.1.2.2 j.2.2.2.2.toNat=j.2:=by grind
   have l:=(v.lev n _ c).2;refine⟨n,by rw[e],a,b,j.2.2.1.2.2,j.2.2.2.2.toNat,c,Prod.ext (by rw[e,f]) p.symm,by omega,λq=> ?_,(l a (by simp)).vl,(l b (by simp)).vl⟩
   grind
 ·rintro⟨n,hd,a,b,g,k,c,rfl,r,q,v0,v1⟩;unfold aZ;rw[hd];simp only;rw[zx (by simp),dy,zx (λh:g=zt/\(n:Int)≠(L.2.length:Int)-1=>h.2 (by grind)),bo,c];simp only;rw[show(Wm b.2 a.2 g k).2.2.2=(k:Int)from rfl,zx (by omega),bo];simp
theorem aI{L:VA}{a:List Int}:∀ {js:List Job} {i:Nat},Xw L a i js=zn <-> ∀ k j,js[k]?=zo j->aZ L a (i+k) j=zf
 |[],i=>by simp[Xw]
 |j::js,i=>by
  unfold Xw;by_cases h:aZ L a i j=zt
  ·rw[zy h];simp only[reduceCtorEq,false_iff];intro b;have:=b 0 j rfl
   grind
  ·rw[zx h,aI (js:=js)];constructor
   ·grind
   ·intro b k j' c;rw[show i+1+k=i+(k+1) by omega];exact b (k+1) j' c
theorem Vu{s:U9}:(VF s).2=0<->VSt s:=by
 unfold VF;constructor
 ·intro h;by_cases c:(WZ s.1).2.2≠0
  ·simp_all
  rw[zx c]at h;have v:=Xz.1 (Decidable.not_not.1 c);by_cases d:s.2.2<1\/s.2.2>1000001
  ·simp_all
  rw[zx d]at h;by_cases e:s.2.2<=Xh s.1.2
  ·simp_all
  rw[zx e]at h;cases b:Xw s.1 (VS 0 s.1.2) 0 s.2.1 with
  |some i=>simp_all
  |none=>
   rw[b]at h;simp only at h;by_cases o:s.2.1.length<(VS 0 s.1.2).length
   ·simp_all
   have f:=aI.1 b
   have g:∀ k j,s.2.1[k]?=zo j -> ∃ n,(VS 0 s.1.2)[k]?=zo j.1/\JobAt s.1 n j:=λk j a=>by
    have:=f k j a;rw[gM]at this;exact(cg v).1 this
   refine⟨v,by omega,by omega,by omega,?_,λj l=> ?_⟩
   ·apply x9
    grind
   ·obtain⟨k,a⟩:=co l
    grind
 ·intro v;rw[zx (by simp[Xz.2 v.lev]),zx (by have:=v.n1;have:=v.n2;omega),zx (by have:=v.n3;omega)]
  have b:Xw s.1 (VS 0 s.1.2) 0 s.2.1=zn:=aI.2 λk j a=>by
   rw[gM];obtain⟨n,m⟩:=v.job j (bl a);exact(cg v.lev).2 ⟨n,by rw[<- v.due,i0,a];rfl,m⟩
  rw[b];simp only;rw[zx (by rw[<- v.due];simp)]
structure Sm (s:U9):Prop where
 lv:s.1.2.length<=1048576
 rs:∀ rs∈s.1.2,rs.length<=1048576 /\ ∀ r∈rs,r.2.length<=9223372036854775807
 js:s.2.1.length<=1048576
theorem chk{s:U9}(m:Sm s):Wz s=zo (VF s):=gZ s m.lv m.rs m.js
theorem xy{s:U9}(m:Sm s):Wl s=zo (VF s):=fx s m.lv m.rs m.js
theorem VSt.jlen{s:U9}(v:VSt s):s.2.1.length=(VS 0 s.1.2).length:=by rw[<- v.due];simp
theorem VSt.jsmall{s:U9}(v:VSt s):s.2.1.length<=12:=by
 have:=v.jlen;have:=YN s.1.2 0;have:=v.lev.len;omega
theorem VSt.sm{s:U9}(v:VSt s):Sm s:=⟨v.lev.small.1,v.lev.small.2,by have:=v.jsmall;omega⟩
def cG(x:Int):Nat->List Int->Option Nat
 |_,[]=>zn
 |k,y::l=>if y=x then zo k else cG x (k+1) l
theorem gW{x:Int}:∀ {l:List Int} {k i:Nat},cG x k l=zo i->k<=i/\l[i-k]?=zo x
 |[],_,_,h=>by cases h
 |y::l,k,i,h=>by
  unfold cG at h;by_cases e:y=x
  ·simp_all
  ·rw[zx e]at h;obtain⟨a,b⟩:=gW h
   grind
theorem eE{x:Int}:∀ {l:List Int} {k:Nat},x∈l -> ∃ i,cG x k l=zo i
 |[],_,h=>by cases h
 |y::l,k,h=>by
  unfold cG;by_cases e:y=x
  ·simp_all
  ·rw[zx e];exact eE (by grind)
def bE(s:U9)(a:Int):Int×Int:=if(VF s).2≠0 then(0,(VF s).2)else match cG a 0 (VS 0 s.1.2)with
 |some i=>((i:Int),0)
 |none=>(0,4)
theorem eC{s:U9}(m:Sm s)(a:Int):Yi (s,a)=zo (bE s a):=by
 unfold Yi bE;simp only[VC,VB];rw[chk m,UG,Uq];by_cases c:(VF s).2=0;rotate_left
 ·simp_all
 rw[zy c,zx (show ¬ (VF s).2≠0 by simp[c])];have v:=Vu.1 c;have w:=v.jsmall;rw[<- v.due];obtain⟨T,g⟩:∃ T,T=cG a 0 (s.2.1.map (·.1)):=⟨_,rfl⟩;rw[<- g]
 obtain⟨r,q,b⟩:=XG (l:=s.2.1) (σ:=Unit) (s:=((0:Int),(0:Int))) (λk _=>((0:Int),(k:Int))) (λjs k _=>cG a k (js.map (·.1))=T) (λ(r:Nat×((Int×Int)×Unit))=>(r.1=1/\T=zn)\/(r.1=0 /\ ∃ i:Nat,T=zo i/\r.2.1.1=(i:Int)))
  (f:=λs1=>br (UV s1.2 (s.2.1.length:Int)) (λ_=>S1 s1.2 λp=>ix s.2.1 p λu=>br (PC u.1 a) (λ_=>zo (.dn ((0,((s1.2,s1.2),()))))) λ_=>zo (.nx (s1.1,TI .i64 s1.2 1))) λ_=>zo (.dn ((1,(s1,())))))
  () rfl (by omega) g.symm (λ_ h=>⟨_,by simp only;rw[re];rfl,.inl ⟨rfl,by rw[<- h];rfl⟩⟩) (λk j js _ hd n o h=>by
   simp only;rw[rl o,Tj,U8,Ua n,Uk];unfold cG at h;simp only[en]at h;by_cases e:j.1=a
   ·grind
   ·rw[zx e];rw[zx e]at h
    exact .inl ⟨(),by rw[VH n (by omega)],h⟩)
 refine VY q ?_;rw[UH];rcases b with⟨b,d⟩|⟨b,i,d,t⟩
 ·rw[zx (show ¬ r.1=0 by omega),d];rfl
 ·rw[zy b,d,t,Uo,zx (by omega)]
theorem mC{s:U9}(m:Sm s):Yo s=zo (if(VF s).2≠0 then([],(VF s).2)else(VS 0 s.1.2,0)):=by
 unfold Yo;rw[xy m,UG,Uq];by_cases a:(VF s).2=0
 ·rw[zy a,zx (show ¬ (VF s).2≠0 by simp[a]),jM (by have:=(Vu.1 a).lev.len;omega),UG]
 simp_all
theorem ly{s:U9}(m:Sm s)(a:Int):Zq (s,a)=zo (bE s a):=by
 unfold Zq bE;simp only[VC,VB];rw[mC m,UG,Uq];by_cases d:(VF s).2=0;rotate_left
 ·simp_all
 rw[zx (show ¬ (VF s).2≠0 by simp[d]),zy rfl,zx (show ¬ (VF s).2≠0 by simp[d])];have v:=Vu.1 d;have u:=v.jsmall;have hd:=v.jlen;obtain⟨b,c⟩:∃ b,b=VS 0 s.1.2:=⟨_,rfl⟩;rw[<- c]at hd ⊢;obtain⟨T,g⟩:∃ T,T=cG a 0 b:=⟨_,rfl⟩;rw[<- g];simp only
 obtain⟨r,q,w⟩:=XG (l:=b) (σ:=Unit) (s:=((0:Int),((0:Int),(0:Int)))) (λk _=>((0:Int),((0:Int),(k:Int)))) (λjs k _=>cG a k js=T) (λ(r:Nat×((Int×(Int×Int))×Unit))=>(r.1=1/\T=zn)\/(r.1=0 /\ ∃ i:Nat,T=zo i/\r.2.1.2.1=(i:Int)/\r.2.1.1=0))
  (f:=λs1=>br (UV s1.2.2 (b.length:Int)) (λ_=>S1 s1.2.2 λp=>ix b p λt=>br (PC t a) (λ_=>zo (.dn ((0,((0,(s1.2.2,s1.2.2)),()))))) λ_=>zo (.nx ((s1.1,(s1.2.1,TI .i64 s1.2.2 1))))) λ_=>zo (.dn ((1,(s1,())))))
  () rfl (by omega) g.symm (λ_ h=>⟨_,by simp only;rw[re];rfl,.inl ⟨rfl,by rw[<- h];rfl⟩⟩) (λk j js _ hd n o h=>by
   simp only;rw[rl o,Tj,U8,Ua n,Uk];unfold cG at h;by_cases e:j=a
   ·grind
   ·rw[zx e];rw[zx e]at h
    exact .inl ⟨(),by rw[VH n (by omega)],h⟩)
 refine VY q ?_;rw[UH]
 grind
end
section
open Go Sv
def Vk(L:VA)(j:Job):Nat:=match L.2[j.1.toNat]? with
 |some [r0,r1]=>r1.2.length+r0.2.length-j.2.2.2.2.toNat
 |_=>0
def ZF(L:VA)(j:Job):Bool:=decide ((j.2.2.2.1.length:Int)<=Vx L.1 j.1.toNat)
def cB(L:VA)(n:Nat):Bool:=decide (n<12/\((L.2[n]?).getD []).length<2)
def Yh(L:VA)(j:Job):Bool:=decide (0<Vk L j)||(ZF L j||cB L (j.1.toNat+1))
def eu(s:U9)(a:Int):Option Job:=match cG a 0 (VS 0 s.1.2)with
 |some i=>s.2.1[i]?
 |none=>zn
theorem VSt.at{s:U9}(v:VSt s){a:Int}{i:Nat}(h:cG a 0 (VS 0 s.1.2)=zo i):∃ (j:Job) (n:Nat),s.2.1[i]?=zo j/\a=(n:Int)/\j.1=(n:Int)/\JobAt s.1 n j/\n<s.1.2.length:=by
 obtain⟨_,b⟩:=gW h;rw[l5]at b;rw[<- v.due,i0]at b;cases c:s.2.1[i]? with
 |none=>simp_all
 |some j=>
  rw[c]at b;simp only[ol,Option.some.injEq]at b;obtain⟨n,d⟩:=v.job j (bl c);have f:=d;obtain⟨m,o,g,k,l,e,_⟩:=d
  grind
theorem JobAt.left{L:VA}{n:Nat}{j:Job}(h:JobAt L n j):Vo j.2=zo ((Vk L j:Int),0)/\Vc j.2=zo ((Vk L j:Int),0)/\Vk L j<=10000:=by
 obtain⟨c,d,a,k,f,rfl,b,_,v0,v1⟩:=h;have g:=v0.len;have i:=v1.len
 have e:Vk L ((n:Int),Wm d.2 c.2 a k)=d.2.length+c.2.length-k:=by
  unfold Vk;simp only[bo,f];rfl
 rw[e];exact⟨bj v1 v0 a b,ay v1 v0 a b,by omega⟩
theorem bZ{L:VA}(v:VLev L){n:Nat}(c:n<12):Xk (L.1,(n:Int))=zo (Vx L.1 n,0):=by
 have a:=v.B1;have b:=v.B2;unfold Xk;rw[Uo,zx (by omega),Um,zx (by omega),Uo,zx (by omega),Ul,zx (by omega),bW a b (by omega)];rfl
theorem eM{L:VA}(v:VLev L)(k:Int):Yk (L,k)=zo (if k<0\/k>=12 then 7 else 0):=by
 obtain⟨a,b⟩:=v.small;unfold Yk;rw[ZC _ a b,YL v,UG,Uq,zy rfl,Uo,Ul]
 grind
theorem vd(l:List VU):UV (l.length:Int) 2=decide (l.length<2):=by
 unfold UV
 grind
theorem jq{L:VA}(v:VLev L){n:Nat}(c:n<=12):ZT (L,(n:Int))=zo (cB L n,if n>=12 then 7 else 0):=by
 unfold ZT cB;simp only[VC,VB];rw[eM v,UG,Uq];by_cases h:n>=12
 ·grind
 ·rw[zx (show ¬ ((n:Int)<0\/(n:Int)>=12) by omega),zy rfl,zx h,Uo];have a:n<12:=by omega
  by_cases b:n<L.2.length
  ·simp_all[zy,U8,Ua,vd,kd]
  simp_all[zx,a9]
abbrev zA:=U9×(Job×Int)
theorem gJ{s:U9}(v:VLev s.1){n:Nat}{j:Job}(a:j.1=(n:Int))(b:n<12)(l:Int):Vz (s,(j,l))=zo (ZF s.1 j):=by
 unfold Vz ZF;simp only[VC,VB];rw[a,bZ v b,UG,Uk,zy rfl,bo];rfl
theorem l7{s:U9}(v:VLev s.1){n:Nat}{j:Job}(a:j.1=(n:Int))(b:n<12)(l:Int):XR (s,(j,l))=zo (cB s.1 (n+1)):=by
 unfold XR;simp only;rw[a,VD (by omega),jq v (by omega),UG,Uk];by_cases h:n+1>=12
 ·rw[zy h,zx (show ¬ (7:Int)=0 by decide)];unfold cB;simp;omega
 simp_all
theorem gS{s:U9}(v:VLev s.1){n:Nat}{j:Job}(a:j.1=(n:Int))(b:n<12)(l:Nat)(g:l=Vk s.1 j):WS (s,(j,(l:Int)))=zo (Yh s.1 j):=by
 have c:Vt (s,(j,(l:Int)))=zo (decide (0<Vk s.1 j)):=by
  simp_all[Vt,UT]
 have e1:=gJ v a b (l:Int);have e2:=l7 v a b (l:Int);unfold WS Yh;rw[c,e1,e2,a,bo];simp only[UG];cases d:decide (0<Vk s.1 j)with
 |true=>rfl
 |false=>
  cases e:ZF s.1 j with
  |true=>rfl
  |false=>
   cases f:cB s.1 (n+1)with
   |true=>rfl
   |false=>rfl
end
section
open Go Sv
def Z7{α:Type}(z:α)(f:U9->Job->α×Int)(s:U9)(a:Int):α×Int:=if(VF s).2≠0 then(z,(VF s).2)else match eu s a with
 |some j=>f s j
 |none=>(z,4)
def z0:zA:=(((0,[]),([],0)),((0,(([],([],([],([],0)))),((zf,([],zf)),([],0)))),0))
theorem kl{s:U9}(m:Sm s)(a:Int):X5 (s,a)=zo (Z7 z0 (λs j=>((s,(j,(Vk s.1 j:Int))),0)) s a):=by
 unfold X5;rw[eC m,UG];unfold Z7 eu bE;by_cases b:(VF s).2=0;rotate_left
 ·rw[zy b,Uq,zx b,zy b];rfl
 rw[zx (show ¬ (VF s).2≠0 by simp[b]),zx (show ¬ (VF s).2≠0 by simp[b])];have v:=Vu.1 b;cases e:cG a 0 (VS 0 s.1.2)with
 |none=>rfl
 |some i=>
  obtain⟨j,n,c,g,f,d,h⟩:=v.at e;simp only;rw[Uq,zy rfl,U8,Ua c,c,(JobAt.left d).1,UG]
theorem uX{s:U9}(m:Sm s)(a:Int):YT (s,a)=zo (Z7 zf (λs j=>(Yh s.1 j,0)) s a):=by
 unfold YT;rw[kl m,UG];unfold Z7;by_cases b:(VF s).2=0;rotate_left
 ·simp_all[zy,Uq,zx]
 rw[zx (show ¬ (VF s).2≠0 by simp[b]),zx (show ¬ (VF s).2≠0 by simp[b])];have v:=Vu.1 b;unfold eu;cases d:cG a 0 (VS 0 s.1.2)with
 |none=>rfl
 |some i=>
  obtain⟨j,n,e,g,c,f,h⟩:=v.at d;have:=v.lev.len;simp only[e];rw[Uq,zy rfl,gS v.lev c (by omega) _ rfl,UG]
theorem jw{s:U9}(m:Sm s)(a:Int):Zr (s,a)=zo (Z7 0 (λs j=>((Vk s.1 j:Int),0)) s a):=by
 unfold Zr;rw[ly m,UG];unfold Z7 eu bE;by_cases b:(VF s).2=0;rotate_left
 ·simp_all[zy,Uq,zx]
 rw[zx (show ¬ (VF s).2≠0 by simp[b]),zx (show ¬ (VF s).2≠0 by simp[b])];have v:=Vu.1 b;cases e:cG a 0 (VS 0 s.1.2)with
 |none=>rfl
 |some i=>
  obtain⟨j,n,c,g,f,d,h⟩:=v.at e;simp only[c];rw[Uq,zy rfl,U8,Ua c,(JobAt.left d).2.1,UG]
def aC(s:U9):List Int->Option Int
 |[]=>zn
 |d::l=>if(Z7 zf (λs j=>(Yh s.1 j,0)) s d).1=zt then zo d else aC s l
def ZM(s:U9):Int×Int:=if(VF s).2≠0 then(0,(VF s).2)else if VS 0 s.1.2=[]then(0,4)else match aC s (VS 0 s.1.2)with
 |some d=>(d,0)
 |none=>(0,9)
theorem VSt.atDue{s:U9}(v:VSt s){d:Int}(h:d∈VS 0 s.1.2):∃ (j:Job) (n:Nat),eu s d=zo j/\d=(n:Int)/\j.1=(n:Int)/\JobAt s.1 n j/\n<s.1.2.length:=by
 obtain⟨i,a⟩:=eE (k:=0) h;obtain⟨j,n,e,f,b,c,g⟩:=v.at a
 grind [eu]
end
section
open Go Sv
theorem rL{β:Type}(k:Unit->Option β):gd zt k=k ():=rfl
def VG(l:List (List VU))(i:Nat):List VU:=(l[i]?).getD []
def aB(l:List (List VU)):Nat->Nat
 |0=>0
 |k+1=>if VG l k=[]then aB l k else k+1
def Zi(l:List (List VU))(n:Nat):List (List VU):=l++List.replicate (n+1-l.length) []
def ac(l:List (List VU))(n:Nat)(r:List VU):List (List VU):=(Zi l n).set n r
def ZQ(l:List (List VU)):List (List VU):=l.take (aB l l.length)
def WW(L:VA)(n:Nat)(r:List VU):VA:=(L.1,ZQ (ac L.2 n r))
theorem d8(l:List (List VU)):∀ k,aB l k<=k
 |0=>ee _
 |k+1=>by
  unfold aB;split
  ·exact Nat.le_succ_of_le (d8 l k)
  omega
theorem cU(l:List (List VU)):∀ {k i:Nat},aB l k<=i->i<k->VG l i=[]
 |0,_,_,h=>by omega
 |k+1,i,h1,h2=>by
  unfold aB at h1;split at h1
  ·rename_i a;by_cases hi:i=k
   ·simp_all
   ·exact cU l h1 (by omega)
  ·omega
theorem dR(l:List (List VU)):∀ {k m:Nat},aB l k=m+1->VG l m≠[]
 |0,m,h=>by cases h
 |k+1,m,h=>by
  unfold aB at h;split at h
  ·exact dR l h
  simp_all
theorem dq(l:List (List VU))(i:Nat):VG (ZQ l) i=VG l i:=by
 unfold ZQ;by_cases h:i<aB l l.length
 ·unfold VG;simp_all
 ·have a:VG (l.take (aB l l.length)) i=[]:=by
   unfold VG;grind
  rw[a];by_cases b:i<l.length
  ·exact(cU l (by omega) b).symm
  ·unfold VG;rw[a9 (by omega)];rfl
theorem ip(l:List (List VU)):(ZQ l).getLast? ≠ zo []:=by
 have d:(ZQ l).length=aB l l.length:=by
  have:=d8 l l.length
  simp_all[ZQ,s7]
 cases hd:aB l l.length with
 |zero=>
  simp_all
 |succ m=>
  have b:=dR l hd;rw[lc,d,hd];intro c;have a:VG (ZQ l) m=[]:=by unfold VG;rw[show m=m+1-1 by omega,c];rfl
  rw[dq]at a;exact b a
theorem bN(l:List (List VU))(n:Nat):(Zi l n).length=max l.length (n+1):=by
 unfold Zi;simp;omega
theorem fo(l:List (List VU))(n i:Nat):VG (Zi l n) i=VG l i:=by
 grind [VG,Zi,List.getElem?_append_left,List.getElem?_append_right]
theorem lr(l:List (List VU))(n i:Nat)(r:List VU):VG (ac l n r) i=if i=n then r else VG l i:=by
 unfold ac;by_cases h:i=n
 ·rw[zy h,h];have:=bN l n;unfold VG;grind
 ·rw[zx h];unfold VG;rw[List.getElem?_set_ne (λe=>h e.symm)];exact fo l n i
theorem ZA(L:VA)(n i:Nat)(r:List VU):VG (WW L n r).2 i=if i=n then r else VG L.2 i:=by
 show VG (ZQ _) i=_;rw[dq,lr]
theorem ir(L:VA)(n:Nat)(r:List VU):(WW L n r).2.getLast? ≠ zo []:=ip _
theorem kc(L:VA)(n:Nat)(r:List VU):(WW L n r).2.length<=max L.2.length (n+1):=by
 show(ZQ _).length<=_
 grind [ZQ,ac,List.length_set,bN,s7]
theorem jd(l:List (List VU)):(ZQ l).flatten=l.flatten:=by
 have h:l=ZQ l++l.drop (aB l l.length):=(List.take_append_drop _ _).symm
 have c:(l.drop (aB l l.length)).flatten=[]:=by
  rw[tw];intro x b;obtain⟨i,hi⟩:=co b;rw[List.getElem?_drop]at hi;have a:=(a8.1 hi).1;have:=cU l (k:=l.length) (i:=aB l l.length+i) (by omega) a
  grind [VG]
 grind
theorem lE(l:List (List VU))(n:Nat):(Zi l n).flatten=l.flatten:=by
 simp_all[Zi,xl,tw,iP]
theorem Y7(L:VA)(n:Nat)(r:List VU):∃ p q,L.2.flatten=p++(VG L.2 n++q)/\(WW L n r).2.flatten=p++(r++q):=by
 have b:n<(Zi L.2 n).length:=by rw[bN];omega
 refine⟨((Zi L.2 n).take n).flatten,((Zi L.2 n).drop (n+1)).flatten,?_,?_⟩
 ·rw[<- fo L.2 n n,<- lE L.2 n]
  have:Zi L.2 n=(Zi L.2 n).take n++((Zi L.2 n)[n]::(Zi L.2 n).drop (n+1)):=by
   simp_all
  have a:VG (Zi L.2 n) n=(Zi L.2 n)[n]:=by unfold VG;simp_all
  grind
 ·show(ZQ (ac L.2 n r)).flatten=_
  simp_all[ac,jd,List.set_eq_take_append_cons_drop,zy,xl]
theorem VLev.own{L:VA}(v:VLev L)(i:Nat):(VG L.2 i).length<=2 /\ ∀ r∈VG L.2 i,VR (Vx L.1 i) r:=by
 unfold VG;cases h:L.2[i]? with
 |none=>simp_all
 |some rs=>exact v.lev i rs h
theorem VLev.with'{L:VA}(v:VLev L){n:Nat}(f:n<12){r:List VU}(d:r.length<=2)(e:∀ x∈r,VR (Vx L.1 n) x)(b:((WW L n r).2.flatten.map sL).Nodup):VLev (WW L n r):=by
 refine⟨v.B1,v.B2,?_,λi rs hi=> ?_,b,ir L n r⟩
 ·have:=kc L n r;have:=v.len;omega
 ·have a:=ZA L n i r;unfold VG at a;rw[hi]at a;simp only[kd]at a;rw[a];split
  ·rename_i c;rw[c];exact⟨d,e⟩
  ·exact v.own i
theorem VLev.leave{L:VA}(v:VLev L){n:Nat}(c:n<12):VLev (WW L n []):=by
 refine v.with' c (by simp) (λ_ h=>by cases h) ?_
 obtain⟨p,q,a,b⟩:=Y7 L n [];have:=v.ids;rw[a]at this;rw[b,sw];refine yr.nodup (yr.map _ ?_) this<;>simp_all
theorem VLev.arrive{L:VA}(v:VLev L){n:Nat}(c:n<12){x:VU}(h:(VG L.2 n).length<2)(i:VR (Vx L.1 n) x)(a:∀ y∈L.2.flatten,y.1≠x.1):VLev (WW L n (VG L.2 n++[x])):=by
 refine v.with' c (by simp;omega) (λy hy=> ?_) ?_
 ·rcases o4.1 hy with hy|hy
  ·exact(v.own n).2 y hy
  simp_all
 ·obtain⟨p,q,f,g⟩:=Y7 L n (VG L.2 n++[x])
  have d:(WW L n (VG L.2 n++[x])).2.flatten.Perm (x::L.2.flatten):=by
   grind
  refine(d.map sL).nodup_iff.2 (gw.2 ⟨λb=> ?_,v.ids⟩);obtain⟨y,hy,e⟩:=ey.1 b;exact a y hy e
theorem cr{l:List (List VU)}{x:VU}:x∈l.flatten <-> ∃ i,x∈VG l i:=by
 rw[iz];constructor
 ·rintro⟨rs,a,b⟩;obtain⟨i,hi⟩:=co a;exact⟨i,by unfold VG;simp_all⟩
 grind [VG]
theorem bG{l:List (List VU)}{x:VU}(h:x∈l.flatten):x.1<=Xh l:=by
 have d:∀ (rs:List VU) (m:Int),m<=rs.foldl (λm r=>Uz m r.1) m /\ ∀ x∈rs,x.1<=rs.foldl (λm r=>Uz m r.1) m:=by
  intro rs
  induction rs with
  |nil=>simp_all
  |cons r rs c=>
   intro m;obtain⟨a,b⟩:=c (Uz m r.1)
   grind [ZJ]
 have two:∀ (ls:List (List VU)) (m:Int),m<=ls.foldl (λm rs=>rs.foldl (λm r=>Uz m r.1) m) m /\ ∀ rs∈ls,∀ x∈rs,x.1<=ls.foldl (λm rs=>rs.foldl (λm r=>Uz m r.1) m) m:=by
  intro ls
  induction ls with
  |nil=>simp_all
  |cons rs ls c=>
   intro m;obtain⟨a,b⟩:=c (rs.foldl (λm r=>Uz m r.1) m);obtain⟨e,f⟩:=d rs m
   grind
 obtain⟨rs,a,b⟩:=iz.1 h;exact(two l 0).2 rs a x b
end
section
open Go Sv
theorem dS{M:List (List VU)}{f:Int->Option (LR Int (Nat×(Int×Unit)))}(a:f 0=zo (.dn (0,(0,()))))(hs:∀ k,k<M.length->f ((k+1:Nat):Int)=if VG M k=[]then zo (.nx (k:Int))else zo (.dn (0,(((k+1:Nat):Int),())))):∀ k,k<=M.length->Ih (k+1) f (k:Int)=zo (0,((aB M k:Nat):Int),())
 |0,_=>Vr a
 |k+1,hk=>by
  have h:=hs k (by omega);unfold aB;by_cases b:VG M k=[]
  ·rw[zy b]at h ⊢;rw[Vi h];exact dS a hs k (by omega)
  ·rw[zx b]at h ⊢;exact Vr h
theorem vi(L:List (List VU))(n:Nat):Ey (Ot (max L.length (n+1)) ([]:List VU)) 0 L (AQ (Ot (max L.length (n+1)) ([]:List VU)))=Zi L n:=by
 have a:AQ (Ot (max L.length (n+1)) ([]:List VU))=max L.length (n+1):=by unfold AQ Ot;simp
 rw[a];unfold Ey Zi Ot;rw[oj (by omega:L.length<=max L.length (n+1))]
 grind
theorem lQ(l:List (List VU))(n:Nat)(r:List VU):lset (Zi l n) n r=ac l n r:=rfl
theorem Zs{l:List (List VU)}{i:Nat}(h:i<l.length):l[i]?=zo (VG l i):=by
 unfold VG;simp_all
theorem jC{β:Type}(l:List VU)(x y:Unit->Option β):br (PC (l.length:Int) 0) x y=if l=[]then x ()else y ():=by
 simp_all[Uk,zy,zx]
theorem ba{L:VA}(h:L.2.length<=1000){n:Nat}(i:n<1000)(r:List VU):Xl (L,((n:Int),r))=zo (WW L n r):=by
 have b:Uz (K7 (AQ L.2)) (TI .i64 (n:Int) 1)=((max L.2.length (n+1):Nat):Int):=by
  grind [VD,ZJ,VC,VB]
 unfold Xl;simp only[b,U8,vi,lQ];have e:(Zi L.2 n).length=max L.2.length (n+1):=bN _ _;have j:(ac L.2 n r).length=max L.2.length (n+1):=by unfold ac;simp_all
 rw[Va (by omega),UQ,zy (by rw[VB,e];omega),Ua (Zs (by omega))]
 have c:=dS (M:=ac L.2 n r) (f:=λa=>br (UT a 0) (λ_=>S1 (TM .i64 a 1) λd=>gd (I8 d (AQ (ac L.2 n r))) λ_=>ix (ac L.2 n r) d λg=>br (PC (K7 (AQ g)) 0) (λ_=>zo (.nx (TM .i64 a 1))) λ_=>zo (.dn ((0,(a,()))))) λ_=>zo (.dn ((0,(a,()))))) rfl (λk b=>by
  have hi:TM .i64 ((k+1:Nat):Int) 1=(k:Int):=by rw[Tq (by omega)];omega
  simp only[hi,U8];rw[Um,zy (by omega),UQ,zy (by rw[VB];omega),Ua (Zs b)]
  exact jC _ _ _) _ (ee _)
 rw[VC,show AQ (ac L.2 n r)=(ac L.2 n r).length from rfl];refine VY (WY (by omega) c) ?_;have hd:=d8 (ac L.2 n r) (ac L.2 n r).length;simp only[U8];rw[Va hd,UP,zy (by omega),UI,zy (by omega),UP,zy (by unfold A0 QC;omega)];unfold WW ZQ DV A0 QC;simp
end
section
open Go Sv
def fY(d:Int)(j:Job):Bool:=PC d j.1
def V7(js:List Job)(d:Int):Option Job:=js.find? (fY d)
def bI(js:List Job):List (Int×Job):=js.map λj=>(j.1,j)
def zJ:Job:=(0,(([],([],([],([],0)))),((zf,([],zf)),([],0))))
def Z8(L:VA)(d:Int):Job:=match VG L.2 d.toNat with
 |[r0,r1]=>(d,Wm r1.2 r0.2 (decide (d=(L.2.length:Int)-1)) 0)
 |_=>zJ
def ZL(s:U9)(L:VA)(a d:Int):Job:=(if d=a then zn else V7 s.2.1 d).getD (Z8 L d)
def ak(s:U9)(L:VA)(next a:Int):U9:=(L,((VS 0 L.2).map (ZL s L a),next))
theorem dj(d:Int):∀ js:List Job,Mx (λa b=>PC a b) (bI js) d=V7 js d
 |[]=>rfl
 |j::js=>by
  show(bif PC d j.1 then zo j else Mx (λa b=>PC a b) (bI js) d)=(j::js).find? (fY d)
  rw[List.find?_cons,dj d js];show _=match PC d j.1 with|true=>zo j|false=>V7 js d
  cases PC d j.1<;>rfl
theorem dm{j:Job}:∀ {js:List Job},j.1 ∉ js.map (·.1)->Iq (λa b=>PC a b) (bI js) j.1 j=bI (js++[j])
 |[],_=>rfl
 |i::js,h=>by
  show(bif PC j.1 i.1 then(j.1,j)::bI js else(i.1,i)::Iq (λa b=>PC a b) (bI js) j.1 j)=(i.1,i)::bI (js++[j])
  have c:PC j.1 i.1=zf:=by grind [W3]
  rw[c,zj,dm (λd=>h (by simp_all))]
theorem ap{js:List Job}{d:Int}(h:d ∉ js.map (·.1)):V7 js d=zn:=by
 unfold V7;rw[xn];intro j a;unfold fY;rw[W3]
 grind
theorem di{x d:Int}:∀ {js:List Job},(js.map (·.1)).Nodup->Mx (λa b=>PC a b) (Io (λa b=>PC a b) (bI js) x) d=if d=x then zn else V7 js d
 |[],_=>by split<;>rfl
 |j::js,h=>by
  rw[en,gw]at h;show Mx (λa b=>PC a b) (bif PC x j.1 then bI js else(j.1,j)::Io (λa b=>PC a b) (bI js) x) d=_
  have f:V7 (j::js) d=if d=j.1 then zo j else V7 js d:=by
   grind [V7,fY,W3]
  rw[W3,f];by_cases c:x=j.1
  ·rw[show decide (x=j.1)=zt by simp[c],zb,dj];by_cases hd:d=x
   ·rw[zy hd];exact ap (by grind)
   grind
  ·rw[show decide (x=j.1)=zf by simp[c],zj];show(bif PC d j.1 then zo j else Mx (λa b=>PC a b) (Io (λa b=>PC a b) (bI js) x) d)=_
   rw[di h.2,W3];by_cases hd:d=j.1
   ·rw[show decide (d=j.1)=zt by simp[hd],zb,zy hd,zx (by rw[hd];exact λe=>c e.symm)]
   ·rw[show decide (d=j.1)=zf by simp[hd],zj,zx hd]
theorem VR.vl'{L:VA}(v:VLev L){n:Nat}{r:VU}(h:r∈VG L.2 n):VL r.2:=((v.own n).2 r h).vl
theorem jp(L:VA)(a:L.2.length<=1000)(n:Nat):Wf (L,(n:Int))=zo (decide ((n:Int)=(L.2.length:Int)-1)):=by
 unfold Wf;simp only[VC,VB];rw[Tq (by omega),W3]
theorem kq{L:VA}(v:VLev L){n:Nat}(h:(VG L.2 n).length=2):Zo (L,(n:Int))=zo (Z8 L n,0):=by
 have d:n<L.2.length:=by
  grind [VG,a9]
 have g:=v.len;obtain⟨e,f⟩:=v.small;unfold Zo;simp only[VC,VB];rw[ZC _ e f,YL v,UG,Uq,zy rfl,Uo,zx (by omega),Ul,zx (by omega),Ul,zx (by omega),U8,Ua (Zs d),Uo,zx (by omega),jp L (by omega) n,UG]
 obtain⟨b,c,a⟩:∃ b c,VG L.2 n=[b,c]:=by
  match hq:VG L.2 n with
  |[b,c]=>simp_all
  |[]=>simp_all
  |[_]=>simp_all
  |_::_::_::_=>simp_all
 rw[fF _ (by rw[Zs d,a]) (VR.vl' v (n:=n) (by grind)) (VR.vl' v (n:=n) (by grind)),UG]
 simp_all[Z8,bo]
theorem Zm(i:Nat)(rs:List VU)(ls:List (List VU)):VS i (rs::ls)=(if rs.length=2 then[(i:Int)]else[])++VS (i+1) ls:=rfl
theorem bu{s:U9}(g:(s.2.1.map (·.1)).Nodup)(q:s.2.1.length<=1000){L:VA}(v:VLev L)(next a:Int):Vb (s,(L,(next,a)))=zo (ak s L next a,0):=by
 have t:=v.len;unfold Vb;simp only[VC,VB]
 rw[V1 (l:=s.2.1) (σ:=List (Int×Job)) (s:=((0:Int),([]:List (Int×Job)))) (λi m=>((i:Int),m)) (λls i m=>∃ p,s.2.1=p++ls/\m=bI p) (λ_ _ _=>(0,(((s.2.1.length:Int),bI s.2.1),()))) [] rfl (by omega) ⟨[],rfl,rfl⟩ (λm h=>by
  simp_all[re,TA,iP]) (λi x ls m hd b hi h=>by
   obtain⟨p,n,rfl⟩:=h;refine⟨bI (p++[x]),?_,⟨p++[x],by grind,rfl⟩,rfl⟩;simp only;rw[rl hi,Tj,U8,Ua b,VH b (by omega),dm]
   grind),UG]
 simp only
 rw[V1 (l:=L.2) (σ:=List Job) (s:=((0:Int),((0:Int),(((0:Int),(([]:List (List VU)),(([]:List Job),(0:Int)))),(L.1,(L.2,(([]:List Job),next))))))) (λi js=>((0:Int),((i:Int),(((0:Int),(([]:List (List VU)),(([]:List Job),(0:Int)))),(L.1,(L.2,(js,next))))))) (λls i js=>js++(VS i ls).map (ZL s L a)=(VS 0 L.2).map (ZL s L a)) (λ_ _ _=>(0,(((0:Int),((L.2.length:Int),(((0:Int),(([]:List (List VU)),(([]:List Job),(0:Int)))),(L.1,(L.2,((VS 0 L.2).map (ZL s L a),next)))))),()))) [] rfl (by omega) rfl (λm h=>by
  simp_all[re,TA,VS]) (λi rs ls m hd b hi h=>by
   have k:VG L.2 i=rs:=by unfold VG;rw[b];rfl
   have f:=(v.own i).1;rw[k]at f;refine⟨m++(if rs.length=2 then[ZL s L a i]else[]),?_,?_,rfl⟩
   ·simp only;rw[rl hi,Tj,U8,Ua b,Uo]
    have r:m.length<=1000:=by
     have d:=congrArg rz h;have o:=YN L.2 0
     grind
    by_cases d:rs.length=2;rotate_left
    ·rw[zy (by omega),zx d,iP,VH b (by omega)]
    rw[zx (by omega),zy d,di g];have c:ZL s L a i=(if(i:Int)=a then zn else V7 s.2.1 i).getD (Z8 L i):=rfl
    cases e:(if(i:Int)=a then zn else V7 s.2.1 (i:Int))with
    |none=>
     rw[e,xT]at c;rw[c,kq v (by simp_all),Vs,Uw,zx (show ¬ U2 (zn:Option Job)=zt by simp[U2]),UG];simp only;rw[Uq,zy rfl,Va (by grind [A0,dc,eb]),VH b (by omega)];rfl
    |some j=>
     rw[e,kd]at c;rw[c,Vs,Uw,zy (show U2 (zo j)=zt from rfl),Va (by grind [A0,dc,eb]),VH b (by omega)];rfl
   grind [hM,Zm]),UG]
 rfl
end
section
open Go Sv
def pS(s:Vw):Option XN:=if s.1=zt then zo s.2.1 else zn
theorem Asc.weak:∀ {l:List U7} {p c:Option XN},(∀ a,c=zo a -> ∃ q,p=zo q/\TZ q a=zf)->Asc p l->Asc c l
 |[],_,_,_,_=>trivial
 |x::l,p,c,h,⟨d,f⟩=>⟨λa b=>by
  obtain⟨q,e,j⟩:=h a b;have g:=d q e;by_cases i:a=q
  ·simp_all
  ·exact WR (Z1 j (λe=>i e.symm)) g,f⟩
theorem fQ:∀ (l:List U7) (s:Vw),bQ s l->Asc (pS s) (XM s l)
 |[],_,_=>trivial
 |x::l,s,⟨_,f,g⟩=>by
  have i:=fQ l _ g;have a:Asc (zo x.1) (XM (zt,(x.1,s.2.2)) l):=i;unfold XM;by_cases d:keep s x=zt
  ·rw[zy d];refine⟨λq b=> ?_,a⟩;unfold pS at b;by_cases c:s.1=zt
   ·rw[zy c]at b;cases b;refine Z1 (f c) λe=> ?_
    simp_all[keep]
   simp_all
  ·rw[zx d,sw];refine a.weak λj h=>⟨x.1,rfl,?_⟩
   simp_all[pS,zy,zx]
theorem fS:∀ {l:List U7} {s:Vw} {x:U7},x∈XM s l->x∈l
 |y::l,s,x,h=>by
  unfold XM at h;rcases o4.1 h with h|h
  ·simp_all
  ·exact List.mem_cons_of_mem _ (fS h)
theorem jN:∀ {l:List U7} {s:Vw},bQ s l -> ∀ x∈l,kE x=0
 |y::l,s,⟨b,_,a⟩,x,h=>by
  rcases l4.1 h with e|h
  ·simp_all
  ·exact jN a x h
theorem lg{a b:List U7}(va:VL a)(h:VL b)(c:Bool){k:Nat}(f:k<=a.length+b.length)(j:a.length+b.length<=5000):VL (Wm a b c k).2.2.1/\(Wm a b c k).2.2.1.length<=a.length+b.length:=by
 have d:=YR va h c f
 have i:(XM (s0 c) (VO a b k)).length<=k:=by
  have:=ZZ (s0 c) (VO a b k)
  simp_all[WH]
 have e:(Wm a b c k).2.2.1=XM (s0 c) (VO a b k):=rfl;rw[e];exact⟨⟨by omega,λx g=>jN d x (fS g),fQ _ _ d⟩,by omega⟩
theorem gi{L:VA}(v:VLev L){n:Nat}(h:VG L.2 n≠[]):XT (L,(n:Int))=zo (WW L n [],(VG L.2 n,0)):=by
 have a:n<L.2.length:=by
  grind [VG,a9]
 have c:=v.len;have b:=(v.own n).1;unfold XT;simp only[VC,VB];rw[eM v,UG,zx (by omega),Uq,zy rfl,Uo,zy (by omega),U8,Ua (Zs a),jC,zx h,ba (by omega) (by omega),UG,Va (by omega)]
theorem jm{S β:Type}{f:S->Option (LR S β)}{r:β}(mk:Int->S)(n:Nat){s:S}(b:s=mk ((n:Int)-1))(d:n<1000000)(hs:∀ k,k<n->f (mk (k:Int))=zo (.nx (mk ((k:Int)-1))))(c:f (mk (-1))=zo (.dn r)):loop f s=zo r:=by
 subst b
 have a:∀ k,k<=n->Ih (k+1) f (mk ((k:Int)-1))=zo r:=by
  intro k
  induction k with
  |zero=>intro _;exact Vr c
  |succ k e=>
   grind [Vi]
 exact WY (by omega) (a n (ee _))
theorem fh{L:VA}(v:VLev L){n:Nat}(m:n<12){x:VU}(p:x.2.length<=1048576)(b:∀ y∈L.2.flatten,y.1≠x.1)(j:(VG L.2 n).length<2) :
  Vv (L,((n:Int),x))=zo (if kR [] (Vx L.1 n) x≠0 then((0,[]),kR [] (Vx L.1 n) x)else(WW L n (VG L.2 n++[x]),0)):=by
 have o:=v.len;unfold Vv;simp only[VC,VB];rw[eM v,UG,zx (by omega),Uq,zy rfl,bW v.B1 v.B2 (by omega),dh x _ (by omega),show Sw (n:Int) 0=zt by rfl];rw[rL,UG,Uq];by_cases a:kR [] (Vx L.1 n) x=0;rotate_left
 ·simp_all
 rw[zy a,zx (by simp[a])]
 rw[V1 (l:=L.2) (σ:=Unit) (s:=((0:Int),(((0:Int),([]:List (List VU))),(0:Int)))) (λi _=>((i:Int),(((0:Int),([]:List (List VU))),(0:Int)))) (λ_ _ _=>True) (λ_ _ _=>(0,(((L.2.length:Int),(((0:Int),([]:List (List VU))),(0:Int))),()))) () rfl (by omega) trivial (λ_ _=>by
  simp only;rw[re];rfl) (λi rs ls _ hd hi c _=>by
   refine⟨(),?_,trivial,rfl⟩;have e:VG L.2 i=rs:=by unfold VG;rw[hi];rfl
   have f:=(v.own i).1;rw[e]at f;simp only;rw[rl c,Tj,U8,Ua hi,Tq (by omega)]
   rw[jm (λk=>(k,(((0:Int),([]:List (List VU))),(0:Int)))) rs.length rfl (by omega) (λk a=>by
    have h:rs[k]?=zo rs[k]:=ci a;have d:rs[k].1≠x.1:=b _ (iz.2 ⟨rs,bl hi,List.getElem_mem a⟩);simp only
    rw[Ul,zy (by omega),U8,Ua h,Uk,zx d,Tq (by omega)]) (r:=(0,(((-1:Int),(((0:Int),([]:List (List VU))),(0:Int))),()))) rfl,UG]
   rw[VH hi (by omega)]
   rfl),UG]
 rw[UH,zy rfl,Uo];by_cases g:n<L.2.length
 ·rw[zy (by omega),U8,Ua (Zs g),Uk,zx (by omega),U8,U8,Va (ee _),UO,zy rfl,Va (hU _)];have hs:DV (VG L.2 n) 0 (VG L.2 n).length=VG L.2 n:=by unfold DV;simp
  rw[hs,Va (by grind [A0,dc,eb]),ba (by omega) (by omega),UG];rfl
 ·rw[zx (by omega)];have e:VG L.2 n=[]:=by unfold VG;rw[a9 (by omega)];rfl
  grind [Va,ba,UG]
end
section
open Go Sv
def zS:U9:=((0,[]),([],0))
def WA(j:Job):List U7:=j.2.2.2.1
def az(s:U9)(j:Job):Nat:=if ZF s.1 j=zt then j.1.toNat else j.1.toNat+1
def XF(s:U9)(j:Job):VA:=if WA j=[]then WW s.1 j.1.toNat []else WW (WW s.1 j.1.toNat []) (az s j) (VG (WW s.1 j.1.toNat []).2 (az s j)++[(s.2.2,WA j)])
def ab(s:U9)(j:Job):Int:=if WA j=[]then s.2.2 else s.2.2+1
def cd(s:U9)(j:Job):U9×Int:=
 if 0<Vk s.1 j\/Yh s.1 j=zf then(zS,9)else if s.2.2>1000000/\WA j≠[]then(zS,5)else(ak s (XF s j) (ab s j) j.1,0)
theorem dT:∀ (ls:List (List VU)) (i:Nat),(VS i ls).Nodup /\ ∀ d∈VS i ls,(i:Int)<=d
 |[],_=>⟨.nil,λ_ h=>by cases h⟩
 |rs::ls,i=>by
  obtain⟨a,b⟩:=dT ls (i+1);rw[Zm]
  grind
theorem VSt.nodup{s:U9}(v:VSt s):(s.2.1.map (·.1)).Nodup:=by rw[v.due];exact(dT _ _).1
theorem JobAt.out{L:VA}{n:Nat}{j:Job}(g:JobAt L n j)(v:VLev L)(hs:(∀ r∈VG L.2 n,r.2.length<=2000)):VL (WA j)/\((WA j).length:Int)<=2*Vx L.1 n/\j.1=(n:Int)/\n<12/\VG L.2 n≠[]:=by
 obtain⟨a,b,c,k,d,rfl,h,_,v0,v1⟩:=g;have m:VG L.2 n=[a,b]:=by unfold VG;rw[d];rfl
 have p:=hs a (by grind);have q:=hs b (by grind);have s:=((v.own n).2 a (by grind)).le;have t:=((v.own n).2 b (by grind)).le;obtain⟨e,f⟩:=lg v1 v0 c h (by omega);have l:=(a8.1 d).1;have o:=v.len;refine⟨e,?_,rfl,by omega,by grind⟩
 have i:((WA ((n:Int),Wm b.2 a.2 c k)).length:Int)<=(b.2.length:Int)+(a.2.length:Int):=by
  have:(WA ((n:Int),Wm b.2 a.2 c k)).length<=b.2.length+a.2.length:=f;omega
 omega
def sC(L:VA):Prop:=∀ i,∀ r∈VG L.2 i,r.2.length<=2000
structure InstF (s:U9) (n:Nat) (j:Job):Prop where
 l1:VLev (WW s.1 n [])
 to12:WA j≠[]->az s j<12
 vr:WA j≠[]->VR (Vx s.1.1 (az s j)) (s.2.2,WA j)
 id:∀ y∈(WW s.1 n []).2.flatten,y.1≠s.2.2
 room:WA j≠[]->(VG (WW s.1 n []).2 (az s j)).length<2
 lev:VLev (XF s j)
theorem lG{s:U9}(v:VSt s)(u:sC s.1){n:Nat}{j:Job}(t:JobAt s.1 n j)(B:¬ 0<Vk s.1 j)(hc:Yh s.1 j=zt)(r:WA j≠[]->s.2.2<=1000000):InstF s n j:=by
 obtain⟨z,D,E,k,F⟩:=t.out v.lev (u n);have c:=v.lev.leave (n:=n) k;have f:j.1.toNat=n:=by omega
 have g:ZF s.1 j≠zt->n+1<12/\(VG s.1.2 (n+1)).length<2:=λhs=>by
  grind [Yh,decide,Vk,cB,VG]
 have b:∀ y∈(WW s.1 n []).2.flatten,y.1≠s.2.2:=λy x=>by
  obtain⟨p,q,C,o⟩:=Y7 s.1 n [];rw[o,sw]at x
  have w:y∈s.1.2.flatten:=by
   grind
  have:=bG w;have:=v.n3;omega
 have h:az s j<12/\(VG (WW s.1 n []).2 (az s j)).length<2/\((WA j).length:Int)<=Vx s.1.1 (az s j):=by
  unfold az;by_cases hs:ZF s.1 j=zt
  ·rw[zy hs,f];refine⟨k,by rw[ZA,zy rfl];simp,?_⟩;have a:=hs;unfold ZF at a;rw[f]at a;exact of_decide_eq_true a
  simp_all[zx,ZA,dt]
 obtain⟨l,m,A⟩:=h;have e:WA j≠[]->VR (Vx s.1.1 (az s j)) (s.2.2,WA j):=λd=>⟨v.n1,r d,z,d,A⟩;refine⟨c,λ_=>l,e,b,λ_=>m,?_⟩;unfold XF;rw[f];by_cases i:WA j=[]
 ·simp_all
 ·rw[zx i];exact c.arrive l m (e i) b
theorem dX{s:U9}(v:VSt s)(u:sC s.1){n:Nat}{j:Job}(t:JobAt s.1 n j)(w:¬ 0<Vk s.1 j)(hc:Yh s.1 j=zt)(y:WA j≠[]->s.2.2<=1000000)(l:Int) :
  (bd (XT (s.1,(n:Int))) λc=>br (PC c.2.2 0) (λ_=>br (UT (K7 (AQ j.2.2.2.1)) 0) (λ_=>bd (Vz (s,(j,l))) λK=>br (IG K) (λ_=>bd (Vv ((c.1,(TI .i64 (n:Int) 1,(s.2.2,j.2.2.2.1))))) λm=>br (Sx m.2 0) (λ_=>zo ((((0,[]),([],0)),m.2))) λ_=>bd (Vb ((s,(m.1,(TI .i64 s.2.2 1,(n:Int)))))) λL=>zo L) λ_=>bd (Vv ((c.1,((n:Int),(s.2.2,j.2.2.2.1))))) λo=>br (Sx o.2 0) (λ_=>zo ((((0,[]),([],0)),o.2))) λ_=>bd (Vb ((s,(o.1,(TI .i64 s.2.2 1,(n:Int)))))) λM=>zo M) λ_=>br (Sx c.2.2 0) (λ_=>zo ((((0,[]),([],0)),c.2.2))) λ_=>bd (Vb ((s,(c.1,(s.2.2,(n:Int)))))) λN=>zo N) λ_=>br (Sx c.2.2 0) (λ_=>zo ((((0,[]),([],0)),c.2.2))) λ_=>bd (Vb ((s,(c.1,(s.2.2,(n:Int)))))) λk=>zo k)
  = zo (ak s (XF s j) (ab s j) j.1,0):=by
 have F:=lG v u t w hc y;obtain⟨G,O,i,I,J⟩:=t.out v.lev (u n);have g:j.1.toNat=n:=by omega
 have D:=v.n2;have C:=v.n1;have A:=v.jsmall;have a:=F.lev;rw[gi v.lev J,UG];show(br (PC 0 0) _ _)=_;rw[Uk,zy rfl,VC,VB,Um];by_cases e:WA j=[]
 ·rw[zx (show ¬ ((j.2.2.2.1.length:Int)>0) by rw[show j.2.2.2.1=[]from e];simp),Uq,zy rfl];unfold XF at a ⊢;rw[zy e,g]at a;rw[zy e,g,bu v.nodup (by omega) a,UG];unfold ab
  simp_all
 ·rw[zy (show((j.2.2.2.1.length:Int)>0) by have:=eo.2 e;have h:(WA j).length=j.2.2.2.1.length:=rfl;omega),gJ v.lev i I,UG,Vs];have E:(WA j).length<=1048576:=by have:=G.len;omega
  have B:kR [] (Vx (WW s.1 n []).1 (az s j)) (s.2.2,WA j)=0:=lM.2 ⟨F.vr e,by simp⟩;have f:=fh F.l1 (F.to12 e) (x:=(s.2.2,WA j)) E F.id (F.room e);rw[zx (by simp[B])]at f
  have z:XF s j=WW (WW s.1 n []) (az s j) (VG (WW s.1 n []).2 (az s j)++[(s.2.2,WA j)]):=by
   unfold XF;simp_all
  have q:ab s j=s.2.2+1:=by unfold ab;grind
  rw[<- z]at f;have p:TI .i64 s.2.2 1=s.2.2+1:=To (by omega);have r:=bu v.nodup (by omega) a (s.2.2+1) (n:Int);rw[Uw];have b:az s j=if ZF s.1 j=zt then n else n+1:=by unfold az;rw[g]
  by_cases hs:ZF s.1 j=zt
  ·rw[zy hs]at b ⊢;rw[b]at f;have d:Vv (WW s.1 n [],((n:Int),(s.2.2,j.2.2.2.1)))=zo (XF s j,0):=f;rw[d,UG,Uq,zy rfl,p,r,UG,q,i]
  ·rw[zx hs]at b ⊢;rw[b]at f;rw[VD (by omega)];have d:Vv (WW s.1 n [],(((n+1:Nat):Int),(s.2.2,j.2.2.2.1)))=zo (XF s j,0):=f;rw[d,UG,Uq,zy rfl,p,r,UG,q,i]
theorem gO{s:U9}(m:Sm s)(k:sC s.1)(a:Int):X3 (s,a)=zo (Z7 zS cd s a):=by
 unfold X3;rw[kl m,UG];unfold Z7;by_cases b:(VF s).2=0;rotate_left
 ·rw[zy b,Uq,zx b,zy b];rfl
 rw[zx (show ¬ (VF s).2≠0 by simp[b]),zx (show ¬ (VF s).2≠0 by simp[b])];have v:=Vu.1 b;unfold eu;cases p:cG a 0 (VS 0 s.1.2)with
 |none=>rfl
 |some i=>
  obtain⟨j,n,l,o,f,g,q⟩:=v.at p;have:=v.lev.len;subst o;simp only[l];unfold Vt cd;rw[Uq,zy rfl,UG,Um];by_cases e:0<Vk s.1 j
  ·rw[zy (show((Vk s.1 j:Int))>0 by omega),zy (.inl e)];rfl
  rw[zx (show ¬ ((Vk s.1 j:Int))>0 by omega),gS v.lev f (by omega) _ rfl,UG,Vs,Uw];by_cases hc:Yh s.1 j=zt;rotate_left
  ·rw[zx hc,zy (.inr (by grind))];rfl
  rw[zy hc,zx (show ¬ (0<Vk s.1 j\/Yh s.1 j=zf) by simp_all),Um];by_cases d:s.2.2>1000000
  ·rw[zy d,VC,VB,Um];by_cases c:WA j=[]
   ·rw[zx (show ¬ ((j.2.2.2.1.length:Int)>0) by rw[show j.2.2.2.1=[]from c];simp),zx (by simp[c])];exact dX v k g e hc (λh=>absurd c h) _
   ·rw[zy (show((j.2.2.2.1.length:Int)>0) by have:=eo.2 c;have h:(WA j).length=j.2.2.2.1.length:=rfl;omega),zy ⟨d,c⟩];rfl
  ·rw[zx d,zx (by simp[d])];exact dX v k g e hc (λh=>by omega) _
end
section
open Go Sv
def aO(L:VA)(j:Job):Yq:=match VG L.2 j.1.toNat with
 |[r0,r1]=>Wm r1.2 r0.2 j.2.2.1.2.2 (j.2.2.2.2.toNat+1)
 |_=>j.2
def cy(s:U9)(j:Job):U9:=(s.1,(lset s.2.1 ((cG j.1 0 (VS 0 s.1.2)).getD 0) (j.1,aO s.1 j),s.2.2))
theorem lu{s:U9}(m:Sm s)(v:VSt s){a:Int}{i:Nat}(q:cG a 0 (VS 0 s.1.2)=zo i){j:Job}(e:s.2.1[i]?=zo j)(r:0<Vk s.1 j):aF (s,(a,1))=zo (cy s j,(1,0)):=by
 obtain⟨j',n,f,x,t,p,B⟩:=v.at q;rw[e]at f;cases f;subst x;have z:(VF s).2=0:=Vu.2 v
 have h:bE s (n:Int)=((i:Int),0):=by
  simp_all[bE,zx,VF]
 have u:=v.jsmall;have hi:=(a8.1 e).1;unfold aF;rw[chk m,UG,Uq,zy z,Uo,zx (show ¬ ((1:Int)<0) by omega),eC m,UG,h,Uq,zy rfl,U8,Ua e,(JobAt.left p).1,UG,Uk,zx (show ¬ ((Vk s.1 j:Int)=0) by omega),U8,Ua e];obtain⟨b,c,d,k,o,rfl,w,A,v0,v1⟩:=p;have y:VG s.1.2 n=[b,c]:=by unfold VG;rw[o];rfl
 have l:Vk s.1 ((n:Int),Wm c.2 b.2 d k)=c.2.length+b.2.length-k:=by
  unfold Vk;simp only[bo,o];rfl
 rw[l]at r;have g:=du v1 v0 d w (k:=1);rw[show min 1 (c.2.length+b.2.length-k)=1 by omega]at g;show(bd (V3 (Wm c.2 b.2 d k,((1:Nat):Int))) λC=>_)=_;rw[g,UG];simp only;rw[Uq,zy rfl];unfold XV;rw[Va (by simp only[AQ];omega),UG,U8,UQ,zy (by simp only[AQ];exact hi),Ua e];unfold cy aO;simp only[bo,y,q,kd];have e1:(Wm c.2 b.2 d k).2.1.2.2=d:=dy _ _ _ _;have e2:(Wm c.2 b.2 d k).2.2.2.toNat=k:=by rfl
 simp_all
def aN(s:U9)(j:Job):U9×(Bool×Int):=if Yh s.1 j=zf then(zS,(zf,9))else if 0<Vk s.1 j then(cy s j,(zf,0))else((cd s j).1,(PC (cd s j).2 0,(cd s j).2))
def ZP(s:U9)(a:Int):U9×(Bool×Int):=if(VF s).2≠0 then(zS,(zf,(VF s).2))else match eu s a with
 |some j=>aN s j
 |none=>(zS,(zf,4))
theorem iw{s:U9}(m:Sm s)(g:sC s.1)(a:Int):X4 (s,a)=zo (ZP s a):=by
 unfold X4;rw[kl m,UG,gO m g];unfold Z7 ZP;by_cases b:(VF s).2=0;rotate_left
 ·rw[zy b,Uq,zx b,zy b];rfl
 rw[zx (show ¬ (VF s).2≠0 by simp[b]),zx (show ¬ (VF s).2≠0 by simp[b]),zx (show ¬ (VF s).2≠0 by simp[b])];have v:=Vu.1 b;unfold eu;cases f:cG a 0 (VS 0 s.1.2)with
 |none=>rfl
 |some i=>
  obtain⟨j,n,e,k,d,h,l⟩:=v.at f;have:=v.lev.len;simp only[e];unfold aN Vt;rw[Uq,zy rfl,gS v.lev d (by omega) _ rfl,UG,Vs,Uw];cases hc:Yh s.1 j with
  |false=>rfl
  |true=>
   rw[zy rfl,zx (by simp),UG,Um];by_cases c:0<Vk s.1 j
   ·rw[zy (show((Vk s.1 j:Int))>0 by omega),zy c,lu m v f e c];rfl
   ·rw[zx (show ¬ ((Vk s.1 j:Int))>0 by omega),zx c];rfl
end
section
open Go Sv
theorem jG{ls:List (List VU)}{d:Int}(h:d∈VS 0 ls):∃ (n:Nat) (a b:VU),d=(n:Int)/\ls[n]?=zo [a,b]:=by
 obtain⟨k,c⟩:=co h;obtain⟨n,e,a,b,f⟩:=Y6 c
 grind
theorem fW{l:List (List VU)}{n:Int}(b:0<n)(h:∀ x∈l.flatten,x.1<n):Xh l<n:=by
 have e:∀ (rs:List VU) (m:Int),m<n->(∀ x∈rs,x.1<n)->rs.foldl (λm r=>Uz m r.1) m<n:=by
  intro rs
  induction rs with
  |nil=>simp_all
  |cons r rs d=>
   grind [ZJ]
 have two:∀ (ls:List (List VU)) (m:Int),m<n->(∀ rs∈ls,∀ x∈rs,x.1<n)->ls.foldl (λm rs=>rs.foldl (λm r=>Uz m r.1) m) m<n:=by
  intro ls
  induction ls with
  |nil=>simp_all
  |cons rs ls d=>
   grind
 exact two l 0 b λrs a x c=>h x (iz.2 ⟨rs,a,c⟩)
theorem rN{l:List (List VU)}(c:l.getLast? ≠ zo []){n:Nat}(a:VG l n≠[])(b:∀ i,n<i->VG l i=[]):l.length=n+1:=by
 grind [VG,a9,Zs]
theorem ga{js:List Job}{d:Int}{j:Job}(h:V7 js d=zo j):j∈js/\j.1=d:=by
 grind [V7,fY,W3]
theorem ko{L:VA}(v:VLev L){n:Nat}{a b:VU}(h:L.2[n]?=zo [a,b]):JobAt L n (Z8 L (n:Int)):=by
 have c:VG L.2 n=[a,b]:=by unfold VG;rw[h];rfl
 refine⟨a,b,decide ((n:Int)=(L.2.length:Int)-1),0,h,?_,hU _,λhd=> ?_,VR.vl' v (n:=n) (by grind),VR.vl' v (n:=n) (by grind)⟩
 ·grind [Z8,bo]
 grind
theorem qp{s:U9}(v:VSt s){L:VA}(t:VLev L){next a:Int}(E:1<=next)(F:next<=1000001)(G:∀ x∈L.2.flatten,x.1<next)
  (I:∀ (n:Nat) (c f:VU),s.1.2[n]?=zo [c,f]->(n:Int)≠a->(∃ l o,L.2[n]?=zo [l,o])->L.2[n]?=zo [c,f]/\(n+1=s.1.2.length->n+1=L.2.length)):VSt (ak s L next a):=by
 have b:∀ d∈VS 0 L.2,(ZL s L a d).1=d /\ ∃ n,JobAt L n (ZL s L a d):=λd hd=>by
  obtain⟨n,l,o,rfl,q⟩:=jG hd;unfold ZL;cases r:(if(n:Int)=a then zn else V7 s.2.1 (n:Int))with
  |none=>
   rw[xT];have g:=ko t q;refine⟨?_,n,g⟩;obtain⟨_,_,_,_,_,e,_⟩:=g;rw[e]
  |some j=>
   rw[kd];by_cases p:(n:Int)=a
   ·grind
   rw[zx p]at r;obtain⟨h,i⟩:=ga r;refine⟨i,n,?_⟩;obtain⟨m,c,f,D,k,u,rfl,w,y,z,A⟩:=v.job j h;have J:m=n:=by omega
   subst J;obtain⟨B,C⟩:=I m c f u p ⟨l,o,q⟩;exact⟨c,f,D,k,B,rfl,w,λg=>C (y g),z,A⟩
 refine⟨t,E,F,fW (by show 0<next;omega) G,?_,λj h=> ?_⟩
 ·show((VS 0 L.2).map (ZL s L a)).map (·.1)=VS 0 L.2;rw[List.map_map]
  conv=>rhs;rw[<- List.map_id (VS 0 L.2)]
  exact List.map_congr_left λd hd=>(b d hd).1
 ·obtain⟨d,hd,rfl⟩:=ey.1 h;exact(b d hd).2
theorem Zt{l:List (List VU)}{n:Nat}{a b:VU}:l[n]?=zo [a,b]<->VG l n=[a,b]:=by
 grind [VG]
theorem W6{s:U9}{j:Job}{n:Nat}(b:j.1.toNat=n)(i:Nat):VG (XF s j).2 i=if WA j≠[]/\i=az s j then(if i=n then[]else VG s.1.2 i)++[(s.2.2,WA j)]else if i=n then[]else VG s.1.2 i:=by
 unfold XF;rw[b];by_cases a:WA j=[]
 ·rw[zy a,zx (by simp[a]),ZA]
 simp_all[zx,ZA,zy]
theorem lH{s:U9}(v:VSt s)(f:sC s.1){n:Nat}{j:Job}(d:JobAt s.1 n j)(p:¬ 0<Vk s.1 j)(hc:Yh s.1 j=zt)(q:WA j≠[]->s.2.2<=1000000):VSt (ak s (XF s j) (ab s j) j.1):=by
 have F:=lG v f d p hc q;obtain⟨M,N,I,O,P⟩:=d.out v.lev (f n);have g:j.1.toNat=n:=by omega
 have z:=v.n1;have A:=v.n2
 have c:s.2.2<=ab s j/\ab s j<=1000001/\(WA j≠[]->s.2.2<ab s j):=by
  unfold ab
  grind
 refine qp v F.lev (by omega) c.2.1 (λx G=> ?_) (λm l o t r K=> ?_)
 ·obtain⟨i,hi⟩:=cr.1 G;rw[W6 g]at hi
  have h:∀ {y:VU},y∈(if i=n then[]else VG s.1.2 i)->y.1<ab s j:=fun {y} k=>by
   by_cases a:i=n
   ·simp_all
   ·rw[zx a]at k;have:=bG (cr.2 ⟨i,k⟩);have:=v.n3;omega
  grind
 ·have u:m≠n:=λe=>r (by rw[I,e]);have w:VG s.1.2 m=[l,o]:=Zt.1 t
  have E:¬ (WA j≠[]/\m=az s j):=λ⟨C,L⟩=>by
   have:=F.room C
   simp_all[ZA,zx]
  have b:VG (XF s j).2 m=[l,o]:=by simp_all[W6,zx]
  refine⟨Zt.2 b,λJ=>(rN F.lev.last (by simp_all) λi hi=> ?_).symm⟩;have a:VG s.1.2 i=[]:=by unfold VG;grind
  have B:n<s.1.2.length:=by
   grind [VG,a9]
  have D:az s j<=n+1:=by unfold az;grind
  rw[W6 g,zx (by omega),a]
  grind
theorem Job.steps{L:VA}{n:Nat}{j:Job}(f:JobAt L n j)(h:0<Vk L j):JobAt L n (j.1,aO L j):=by
 obtain⟨b,c,a,k,d,rfl,l,g,v0,v1⟩:=f;have i:=Zt.1 d
 have e:Vk L ((n:Int),Wm c.2 b.2 a k)=c.2.length+b.2.length-k:=by
  unfold Vk;simp only[bo,d];rfl
 rw[e]at h;refine⟨b,c,a,k+1,d,?_,by omega,g,v0,v1⟩;unfold aO;simp only[bo,i];have e1:(Wm c.2 b.2 a k).2.1.2.2=a:=dy _ _ _ _;have e2:(Wm c.2 b.2 a k).2.2.2.toNat=k:=by rfl
 rw[e1,e2]
theorem lw{s:U9}(v:VSt s){j:Job}{i n:Nat}(c:cG j.1 0 (VS 0 s.1.2)=zo i)(d:s.2.1[i]?=zo j)(b:JobAt s.1 n j)(a:0<Vk s.1 j):VSt (cy s j):=by
 unfold cy;rw[c,kd];refine⟨v.lev,v.n1,v.n2,v.n3,?_,λx hx=> ?_⟩
 ·show(s.2.1.set i (j.1,aO s.1 j)).map (·.1)=_;rw[<- v.due,List.map_set];refine x9 λk=> ?_<;>grind
 ·rcases List.mem_or_eq_of_mem_set hx with hx|hx
  ·exact v.job x hx
  ·rw[hx];exact⟨n,Job.steps b a⟩
end
section
open Go Sv
end
section
open Go Sv
end
section
open Go Sv
end
section
open Go Sv
theorem aK{α β σ S:Type}{l:List α}(c:Nat)(e:c<=1000)(mk:Nat->σ->S)(I:Nat->σ->Prop)(Q:β->Prop){f:S->Option (LR S β)}{s:S}(a:σ)(d:s=mk 0 a)(hi:I 0 a)
  (g:∀ k a,(k=l.length\/k=c)->k<=l.length->I k a -> ∃ r,f (mk k a)=zo (.dn r)/\Q r)
  (hc:∀ k x a,l[k]?=zo x->k<c->I k a->(∃ b,f (mk k a)=zo (.nx (mk (k+1) b))/\I (k+1) b) \/ ∃ r,f (mk k a)=zo (.dn r)/\Q r):∃ r,loop f s=zo r/\Q r:=by
 refine XG (l:=l.take c) mk (λ_ k a=>I k a/\k<=(l.take c).length) Q a d (by simp;omega) ⟨hi,by omega⟩ (λa h=>g _ a (by simp;omega) (by simp;omega) h.1) (λk x m a hd j i h=> ?_)
 grind
theorem bH{k c:Nat}(h:k<c):UV (k:Int) (c:Int)=zt:=by unfold UV;simp;omega
theorem lA{α β:Type}{l:List α}{k c:Nat}(h:k=l.length\/k=c)(b:k<=l.length)(A B C:Option β)(e:B=C):br (UV (k:Int) (l.length:Int)) (λ_=>br (UV (k:Int) (c:Int)) (λ_=>A) λ_=>B) (λ_=>C)=C:=by
 rw[Uo];by_cases a:(k:Int)<(l.length:Int)
 ·rw[zy a,Uo,zx (by omega),e]
 grind
end
section
open Go Sv
end
section
open Go Sv
end
section
open Go Sv
def VW(l:List U7)(k:XN):Option U7:=l.find? λx=>decide (x.1=k)
theorem VV(x:U7)(l:List U7)(k:XN):VW (x::l) k=if x.1=k then zo x else VW l k:=by
 grind [VW]
theorem Zb(l m:List U7)(k:XN):VW (l++m) k=(VW l k).or (VW m k):=by
 unfold VW;simp_all
theorem Yn(x:U7)(k:XN):VW [x] k=if x.1=k then zo x else zn:=by rw[VV];rfl
theorem ca{l:List U7}{k:XN}{x:U7}(h:VW l k=zo x):x.1=k/\x∈l:=by
 grind [VW]
theorem Y8{l:List U7}{k:XN}(h:∀ x∈l,x.1≠k):VW l k=zn:=by
 grind [VW,xn]
theorem ZR:∀ {l:List U7} {q:XN},Asc (zo q) l -> ∀ x∈l,TZ q x.1=zt
 |x::l,q,⟨a,b⟩,y,hy=>by
  rcases l4.1 hy with e|hy
  ·simp_all
  ·exact WR (a q rfl) (ZR b y hy)
theorem cD:∀ {l m:List U7} {p q:Option XN},Asc p l->Asc q m->(∀ k,VW l k=VW m k)->l=m
 |[],[],_,_,_,_,_=>rfl
 |[],y::m,_,_,_,_,h=>by
  have:=h y.1;rw[VV,zy rfl]at this;cases this
 |x::l,[],_,_,_,_,h=>by
  have:=h x.1;rw[VV,zy rfl]at this;cases this
 |x::l,y::m,p,q,⟨t,f⟩,⟨s,d⟩,h=>by
  have e1:=h x.1;have e2:=h y.1;rw[VV,zy rfl,VV]at e1;rw[VV,VV,zy rfl]at e2
  have g:x.1=y.1:=by
   by_cases b:y.1=x.1
   ·grind
   ·rw[zx b]at e1;rw[zx (λe=>b e.symm)]at e2;have n:=ZR d x (ca e1.symm).2;have j:=ZR f y (ca e2).2;rw[V2 n]at j;cases j
  rw[zy g.symm]at e1;have c:x=y:=Option.some.inj e1;subst c;refine congrArg (x::·) (cD f d λk=> ?_);have b:=h k;rw[VV,VV]at b;by_cases a:x.1=k
  ·have o:VW l k=zn:=Y8 λz i=>by
    have:=ZR f z i;rw[a]at this;exact λe=>ZW this e.symm
   have r:VW m k=zn:=Y8 λz i=>by
    have:=ZR d z i;rw[a]at this;exact λe=>ZW this e.symm
   rw[o,r]
  simp_all
theorem Xv(P:U7->Bool):∀ {l:List U7} {p:Option XN},Asc p l->Asc p (l.filter P)
 |[],_,_=>trivial
 |x::l,p,⟨b,d⟩=>by
  have c:=Xv P d;rw[oy];cases P x with
  |true=>exact⟨b,c⟩
  |false=>
   refine c.weak λe a=>⟨x.1,rfl,?_⟩;exact V2 (b e a)
theorem XX(P:U7->Bool)(k:XN):∀ {l:List U7} {p:Option XN},Asc p l->VW (l.filter P) k=(VW l k).filter P
 |[],_,_=>rfl
 |x::l,p,⟨g,b⟩=>by
  have f:=XX P k b;rw[oy,VV];by_cases a:x.1=k
  ·rw[zy a]
   have h:VW (l.filter P) k=zn:=Y8 λz d=>by
    have:=ZR b z (List.mem_filter.1 d).1;rw[a]at this;exact λe=>ZW this e.symm
   cases c:P x with
   |true=>rw[zy rfl,VV,zy a];grind
   |false=>grind
  ·rw[zx a];cases c:P x with
   |true=>rw[zy rfl,VV,zx a];exact f
   |false=>grind
def Wa:List U7->U7->List U7
 |[],x=>[x]
 |y::l,x=>if TZ y.1 x.1=zt then y::Wa l x else if y.1=x.1 then y::l else x::y::l
theorem ez(x:U7):∀ {l:List U7} {p:Option XN},Asc p l->(∀ q,p=zo q->TZ q x.1=zt)->Asc p (Wa l x)
 |[],p,_,hp=>⟨hp,trivial⟩
 |y::l,p,⟨c,a⟩,hp=>by
  unfold Wa;by_cases h:TZ y.1 x.1=zt
  ·rw[zy h];exact⟨c,ez x a λq d=>by simp_all⟩
  ·rw[zx h];by_cases b:y.1=x.1
   ·rw[zy b];exact⟨c,a⟩
   ·rw[zx b];exact⟨hp,λq d=>by cases d;exact Z1 (by grind) b,a⟩
theorem fA(x:U7)(k:XN):∀ {l:List U7} {p:Option XN},Asc p l->VW (Wa l x) k=(VW l k).or (if x.1=k then zo x else zn)
 |[],_,_=>by unfold Wa;rw[Yn];rfl
 |y::l,p,⟨f,c⟩=>by
  unfold Wa;by_cases h:TZ y.1 x.1=zt
  ·rw[zy h,VV,VV,fA x k c]
   grind
  ·rw[zx h];by_cases a:y.1=x.1
   ·rw[zy a,VV,<- a]
    grind
   ·rw[zx a,VV];have b:TZ x.1 y.1=zt:=Z1 (by grind) a;by_cases d:x.1=k
    ·rw[zy d]
     have:VW (y::l) k=zn:=Y8 λz hz=>by
      rw[<- d];rcases l4.1 hz with e|hz
      ·simp_all
      ·exact λe=>ZW (WR b (ZR c z hz)) e.symm
     simp_all
    simp_all
theorem aR(k:XN):∀ (r l:List U7),Asc zn l->Asc zn (r.foldl Wa l)/\VW (r.foldl Wa l) k=(VW l k).or (VW r k)
 |[],l,h=>⟨h,by show VW l k=_;cases VW l k<;>rfl⟩
 |x::r,l,h=>by
  obtain⟨a,b⟩:=aR k r (Wa l x) (ez x h λ_ h=>by cases h)
  grind [fA,VV]
def cC(rs:List VU)(l:List U7):List U7:=rs.foldl (λout r=>r.2.foldl Wa out) l
def WE:List VU->XN->Option U7
 |[],_=>zn
 |r::rs,k=>(VW r.2 k).or (WE rs k)
theorem bB(k:XN):∀ (rs:List VU) (l:List U7),Asc zn l->Asc zn (cC rs l)/\VW (cC rs l) k=(VW l k).or (WE rs k)
 |[],l,h=>⟨h,by show VW l k=_;cases VW l k<;>rfl⟩
 |r::rs,l,h=>by
  obtain⟨a,b⟩:=aR k r.2 l h;obtain⟨c,d⟩:=bB k rs (r.2.foldl Wa l) a;refine⟨c,?_⟩;show VW (cC rs (r.2.foldl Wa l)) k=_;rw[d,b,li];rfl
def VE(x:U7):Bool:=!x.2.2.1
def Le(L:VA):List U7:=(cC (VJ L.2) []).filter VE
theorem lN{L M:VA}(h:∀ k,(WE (VJ L.2) k).filter VE=(WE (VJ M.2) k).filter VE):Le L=Le M:=by
 have a:=λk=>bB k (VJ L.2) [] trivial;have b:=λk=>bB k (VJ M.2) [] trivial;refine cD (Xv VE (a []).1) (Xv VE (b []).1) λk=> ?_;show VW ((cC (VJ L.2) []).filter VE) k=VW ((cC (VJ M.2) []).filter VE) k;rw[XX VE k (a []).1,XX VE k (b []).1,(a k).2,(b k).2];exact h k
theorem fe:∀ (a b:List VU) (k:XN),WE (a++b) k=(WE a k).or (WE b k)
 |[],b,k=>rfl
 |r::a,b,k=>by
  show(VW r.2 k).or (WE (a++b) k)=((VW r.2 k).or (WE a k)).or (WE b k);rw[fe a b k,li]
theorem jO:∀ {l:List U7} {s:Vw} {k:XN},bQ s l->s.1=zt->TZ k s.2.1=zt->VW l k=zn
 |[],_,_,_,_,_=>rfl
 |x::l,s,k,⟨_,c,d⟩,b,hk=>by
  have a:TZ k x.1=zt:=gH hk (c b);rw[VV,zx (λe=>ZW a e.symm)];exact jO d rfl a
theorem fR(k:XN):∀ {l:List U7} {s:Vw},bQ s l->VW (XM s l) k=if s.1=zt/\s.2.1=k then zn else(VW l k).filter λx=> !(s.2.2&&x.2.2.1)
 |[],s,_=>by unfold XM;split<;>rfl
 |x::l,s,⟨_,f,b⟩=>by
  have c:=fR k b;simp only[true_and]at c;unfold XM;rw[Zb,c,VV];by_cases a:x.1=k
  ·rw[zy a,zy a];by_cases hs:s.1=zt/\s.2.1=k
   ·rw[zy hs];have:keep s x=zf:=by unfold keep;simp_all
    rw[this];rfl
   ·rw[zx hs]
    have:keep s x = !(s.2.2&&x.2.2.1):=by
     unfold keep
     grind
    rw[this];cases g:(!(s.2.2&&x.2.2.1))with
    |true=>rw[zy rfl,Yn,zy a];simp[rY,g]
    |false=>simp_all[zx,rY,VW]
  ·rw[zx a,zx a]
   have d:VW (if keep s x=zt then[x]else[]) k=zn:=by
    split
    ·rw[Yn,zx a]
    ·rfl
   rw[d,Option.none_or];by_cases hs:s.1=zt/\s.2.1=k
   ·rw[zy hs]
    have h:TZ k x.1=zt:=by
     rw[<- hs.2];refine Z1 (f hs.1) λe=>a ?_<;>simp_all
    rw[jO b rfl h];rfl
   simp_all
theorem cw{a b:List U7}(va:VL a)(e:VL b)(k:XN):∀ {n:Nat},n<=a.length+b.length->VW (VO a b n) k=(VW (a.take (pos a b n).1) k).or (VW (b.take (pos a b n).2) k)
 |0,_=>rfl
 |n+1,h=>by
  have C:=cw va e k (n:=n) (by omega);obtain⟨p,hs⟩:=Xa va e (n:=n) (by omega);obtain⟨x,c,_⟩:=Ws va e (n:=n) (by omega);rw[Xx va e c,Zb,C,Yn];unfold bx at c;rw[show pos a b (n+1)=if Y9 a b (pos a b n).1 (pos a b n).2=zt then((pos a b n).1+1,(pos a b n).2)else((pos a b n).1,(pos a b n).2+1)from rfl]
  revert c p;generalize (pos a b n).1=i;generalize (pos a b n).2=j;intro p c;cases g:Y9 a b i j with
  |true=>
   rw[zy g]at c;rw[zy rfl];simp only;rw[gs,c,xk,Zb,Yn,li,li]
   congr 1
   by_cases w:x.1=k
   ·rw[zy w]
    have:VW (b.take j) k=zn:=Y8 λy B=>by
     obtain⟨m,f⟩:=co B;rw[List.getElem?_take]at f;split at f
     ·rename_i A;have u:=p.jb;have l:b[j-1]?=zo b[j-1]:=ci (by omega);have D:=p.pb (j-1) (by omega) _ x l c
      have E:TZ b[j-1].1 y.1=zf:=by
       by_cases q:m=j-1
       ·subst q;rw[l]at f;cases f;exact WV _
       ·have t:=e.asc
        have:∀ d,m+d+1<=j-1 -> ∀ z,b[m+d+1]?=zo z->TZ y.1 z.1=zt:=by
         intro d
         induction d with
         |zero=>intro _ z r;exact e.lt f r
         |succ d s=>
          intro hd z r;have o:b[m+d+1]?=zo b[m+d+1]:=ci (by omega);exact WR (s (by omega) _ o) (e.lt o r)
        exact V2 (this (j-1-m-1) (by omega) _ (by grind))
      grind
     ·cases f
    grind
   simp_all
  |false=>
   rw[zx (show ¬ Y9 a b i j=zt by grind)]at c;rw[zx (show ¬ (zf=zt) by decide)]
   simp_all[gs,xk,Zb,Yn,li]
theorem rV{a b:List U7}(va:VL a)(e:VL b)(c:Bool)(k:XN):VW (Wm a b c (a.length+b.length)).2.2.1 k=((VW a k).or (VW b k)).filter λx=> !(c&&x.2.2.1):=by
 have f:=YR va e c (ee (a.length+b.length));obtain⟨d,hs⟩:=Xa va e (ee (a.length+b.length));show VW (XM (s0 c) (VO a b (a.length+b.length))) k=_;rw[fR k f,zx (by simp),cw va e k (ee _)];rw[oj (by have:=d.ia;have:=d.jb;omega),oj (by have:=d.ia;omega)]
end
end Go.Proofs.YtoefnfbpoabinaaGreatDoor.Pl
