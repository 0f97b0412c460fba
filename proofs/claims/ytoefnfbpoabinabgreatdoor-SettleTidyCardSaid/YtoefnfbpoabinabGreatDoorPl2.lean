/- Functions of the program and of the specification as plain functions, and laws about them. No condition. -/
import Derived.Test.YtoefnfbpoabinabGreatDoorPl1
import Derived.KernelRfl
set_option linter.all false
open List renaming Sublist->zr, append_assoc->gw, append_nil->gM, drop_zero->tw, ext_getElem?->xw, filter_cons->x9, find?_eq_none->xb, flatten_append->ol, flatten_eq_nil_iff->tT, foldl_cons->iP, getElem?_eq_getElem->eo, getElem?_eq_none->a9, getElem?_eq_some_iff->a8, getElem?_map->lc, getElem?_of_mem->ee, getElem?_take->xl, getElem_mem->l5, getLast?_eq_getElem?->ll, length->ox, length_append->s6, length_cons->ci, length_nil->co, length_pos_iff->dc, length_set->ym, length_take->yb, map_cons->hI, mem_append->rz, mem_cons->ml, mem_flatten->kd, mem_map->i0, mem_map_of_mem->xa, mem_of_getElem?->bo, nil_append->s9, nodup_append->xT, nodup_cons->li, take_add_one->gs, take_of_length_le->ey
open Nat renaming le_refl->eb, lt_of_not_le->nP, min_eq_left->ta, sub_zero->mR, zero_add->hM, zero_le->iz
open Int renaming mul_le_mul->yw, toNat_natCast->bl, zero_add->xr
open Option renaming filter->sk, getD_none->xn, getD_some->hU, map_some->pg, or_assoc->l4, toList_some->wl
open Bool renaming false_eq_true->l6
open UInt8 renaming lt_iff_toNat_lt->vg
open Option renaming some->zo, none->zn
open Bool renaming true->zt, false->zf
namespace Go.Proofs.YtoefnfbpoabinabGreatDoor.Pl
section
open Go Sv
def kR(a:List Int)(most:Int)(r:VU):Int:=
 if r.1<1\/r.1>1000000 then 7 else if(Wu r.2).2≠0 then(Wu r.2).2 else if r.2.length=0 then 4 else if(r.2.length:Int)>most then 3 else if r.1∈a then 8 else 0
def bY(most:Int):Nat->List Int->List VU->Option (Nat×Int)
 |_,_,[]=>zn
 |k,ids,r::rs=>if kR ids most r≠0 then zo (k,kR ids most r)else bY most (k+1) (ids++[r.1]) rs
def Vn(B:Int)(i:Nat):Int:=B*2 ^ i
def bX(B:Int):Nat->List Int->List (List VU)->Option (Nat×(Nat×Int))
 |_,_,[]=>zn
 |i,ids,rs::ls=>if rs.length>2 then zo (i,(0,3))else match bY (Vn B i) 0 ids rs with
  |some (k,e)=>zo (i,(k,e))
  |none=>bX B (i+1) (ids++rs.map (·.1)) ls
def Wt(L:VB):Int×(Int×Int):=
 if L.1<1\/L.1>16 then(0,(0,7))else if L.2.length>12 then(0,(0,3))else match bX L.1 0 [] L.2 with
  |some (i,(k,e))=>((i:Int),((k:Int),e))
  |none=>if L.2.getLast?=zo []then(((L.2.length-1:Nat):Int),(0,6))else(0,(0,0))
theorem lO{most:Int}:∀ {rs:List VU} {k:Nat} {a:List Int} {b:Nat} {e:Int},bY most k a rs=zo (b,e)->e≠0
 |[],_,_,_,_,h=>by cases h
 |r::rs,k,a,b,e,h=>by
  unfold bY at h;by_cases c:kR a most r≠0
  ·simp_all
  ·rw[zx c]at h;exact lO h
theorem gL{B:Int}:∀ {ls:List (List VU)} {i:Nat} {a:List Int} {c d:Nat} {e:Int},bX B i a ls=zo (c,(d,e))->e≠0
 |[],_,_,_,_,_,h=>by cases h
 |rs::ls,i,a,c,d,e,h=>by
  unfold bX at h;by_cases f:rs.length>2
  ·grind
  ·rw[zx f]at h;cases b:bY (Vn B i) 0 a rs with
   |none=>rw[b]at h;exact gL h
   |some x=>rw[b]at h;cases h;exact lO b
def fF(a:List Int):List (Int×Bool):=a.map λi=>(i,zt)
theorem oB(c:List Int)(i:Int):TS (Mx (λa b=>PC a b) (fF c) i) zf=decide (i∈c):=by
 induction c with
 |nil=>rfl
 |cons j c d=>
  show TS (bif PC i j then zo zt else Mx (λa b=>PC a b) (fF c) i) zf=_
  rw[XL];by_cases h:i=j
  ·simp[h,TS]
  simp_all
theorem oD{c:List Int}{i:Int}(h:i ∉ c):Iq (λa b=>PC a b) (fF c) i zt=fF (c++[i]):=by
 induction c with
 |nil=>rfl
 |cons j c f=>
  show(bif PC i j then(i,zt)::fF c else(j,zt)::Iq (λa b=>PC a b) (fF c) i zt)=_
  rw[XL];have d:¬ i=j:=λe=>h (by simp[e]);rw[f (λe=>h (by simp[e]))];simp only[d,decide_false,zj];rfl
theorem cg(r:VU)(a:r.2.length<=9223372036854775807):Yt r=zo (if r.1<1\/r.1>1000000 then(-1,7)else Wu r.2):=by
 grind [Yt,Uo,Um,Xt,UG]
theorem fW(r:VU)(most:Int)(b:r.2.length<=9223372036854775807):XB (r,most)=zo (kR [] most r):=by
 unfold XB kR;rw[cg r b,UG];simp only[VE,VC];by_cases h:r.1<1\/r.1>1000000
 ·rw[zy h,zy h];rfl
 ·rw[zx h,zx h,Uq];by_cases a:(Wu r.2).2=0
  ·rw[zy a,zx (by simp[a]),Uk,Um]
   grind
  simp_all
theorem xD(a:List Int)(most:Int)(r:VU):kR a most r=if kR [] most r=0 then(if r.1∈a then 8 else 0)else kR [] most r:=by
 grind [kR]
theorem yO(i:Nat)(h:i<=12):(2:Int) ^ i<=4096/\1<=(2:Int) ^ i:=by
 have a:(2:Nat) ^ i<=2 ^ 12:=Nat.pow_le_pow_right (by omega) h
 grind
theorem jE{B:Int}{i:Nat}(a:1<=B)(b:B<=16)(hi:i<=12):1<=Vn B i/\Vn B i<=65536:=by
 obtain⟨c,d⟩:=yO i hi;unfold Vn;constructor
 ·have:=yw a d (by omega) (by omega);omega
 ·have:=yw b c (by omega) (by omega);omega
theorem c0{B:Int}{i:Nat}(a:1<=B)(b:B<=16)(hi:i<=12):SM .i64 B (i:Int)=Vn B i:=by
 have c:=jE a b hi;unfold SM;rw[show min ((i:Int).toNat) IntKind.i64.bits=i by rw[bl];exact ta (Nat.le_trans hi (by decide))];unfold Vn at c ⊢;exact IntWalk.i64_in _ (by omega)
def Q1:Option (Nat×(Nat×Int))->Int->Int->Int->Prop
 |some (i,(k,e)),a,b,c=>a=(k:Int)/\b=(i:Int)/\c=e
 |none,_,_,c=>c=0
def Q2(m:List (Int×Bool)):Option (Nat×Int)->Nat->Int->Int->List (Int×Bool)->Prop
 |some (k,e),r,a,c,_=>r=0/\a=(k:Int)/\c=e
 |none,r,_,c,m'=>r=1/\c=0/\m'=m
theorem Zk(L:VB)(hb:L.2.length<=1048576)(hr:∀ rs∈L.2,rs.length<=1048576 /\ ∀ r∈rs,r.2.length<=9223372036854775807):WV L=zo (Wt L):=by
 unfold WV Wt;simp only[VE,VC];rw[Uo,Um,Um];by_cases J:L.1<1
 ·simp_all
 rw[zx J];by_cases K:L.1>16
 ·simp_all
 rw[zx K,zx (show ¬ (L.1<1\/L.1>16) by omega)];by_cases hl:(L.2.length:Int)>12
 ·grind
 rw[zx hl,zx (by omega)];have hl2:L.2.length<=12:=by omega
 obtain⟨T,D⟩:∃ T,T=bX L.1 0 [] L.2:=⟨_,rfl⟩;rw[<- D]
 have A:∀ P:Int,P=0->T=zn->(br (Sx P 0) (λ_=>(zn:Option (Int×(Int×Int)))) λ_=>br (UT (L.2.length:Int) 0) (λ_=>S1 (TM .i64 (L.2.length:Int) 1) λM=>ix L.2 M λS=>br (PC (S.length:Int) 0) (λ_=>zo ((TM .i64 (L.2.length:Int) 1,(0,6)))) λ_=>zo ((0,(0,0)))) λ_=>zo ((0,(0,0))))=zo (if L.2.getLast?=zo []then(((L.2.length-1:Nat):Int),(0,6))else(0,(0,0))):=by
  intro P n _;rw[Uq,zy n,Um];by_cases Z:L.2=[]
  ·rw[Z];rfl
  ·have hp:=dc.2 Z;rw[zy (by omega),show TM .i64 (L.2.length:Int) 1=((L.2.length-1:Nat):Int) by rw[Tq (by omega)];omega,U9,ll];have o:L.2[L.2.length-1]?=zo (L.2[L.2.length-1]'(by omega)):=by simp
   rw[Ua o,o,Uk];by_cases he:L.2[L.2.length-1]'(by omega)=[]<;>simp_all
 obtain⟨r,O,b⟩:=Xi (l:=L.2) (σ:=Int×(Int×List Int)) (λi j=>(j.1,(j.2.1,((0:Int),((i:Int),fF j.2.2)))))
  (λm i j=>bX L.1 i j.2.2 m=T) (λ(r:Nat×((Int×(Int×(Int×(Int×List (Int×Bool)))))×Unit))=>Q1 T r.2.1.1 r.2.1.2.1 r.2.1.2.2.1)
  (f:=λs0=>br (UV s0.2.2.2.1 (L.2.length:Int)) (λ_=>S1 s0.2.2.2.1 λk1=>ix L.2 k1 λW=>br (UT (W.length:Int) 2) (λ_=>zo (.dn ((0,((0,(s0.2.2.2.1,(3,s0.2.2.2))),()))))) λ_=>bd (loop (λa=>br (UV a.2.1 (W.length:Int)) (λ_=>S1 a.2.1 λN=>ix W N λp=>gd (Sw s0.2.2.2.1 0) λ_=>bd (XB (p,SM .i64 L.1 s0.2.2.2.1)) λg=>br (PC g 0) (λ_=>br (TS (Mx ((λF=>(λG=>PC F G))) a.2.2.2 p.1) zf) (λ_=>zo (.dn ((0,((a.2.1,(a.2.1,(8,a.2.2.2))),()))))) λ_=>br (Sx g 0) (λ_=>zo (.dn ((0,((a.2.1,(a.2.1,(g,a.2.2.2))),()))))) λ_=>zo (.nx ((a.2.1,(TI .i64 a.2.1 1,(g,Iq ((λI=>(λw=>PC I w))) a.2.2.2 p.1 zt)))))) λ_=>br (Sx g 0) (λ_=>zo (.dn ((0,((a.2.1,(a.2.1,(g,a.2.2.2))),()))))) λ_=>zo (.nx ((a.2.1,(TI .i64 a.2.1 1,(g,Iq ((λx=>(λy=>PC x y))) a.2.2.2 p.1 zt)))))) λ_=>zo (.dn ((1,(a,()))))) ((0,(0,(s0.2.2.1,s0.2.2.2.2))))) λd=>br (neq d.1 0) (λ_=>zo (.dn ((0,((d.2.1.1,(s0.2.2.2.1,(d.2.1.2.2.1,(s0.2.2.2.1,d.2.1.2.2.2)))),()))))) λ_=>zo (.nx ((d.2.1.1,(s0.2.2.2.1,(d.2.1.2.2.1,(TI .i64 s0.2.2.2.1 1,d.2.1.2.2.2))))))) λ_=>zo (.dn ((0,(s0,())))))
  (s:=(0,(0,(0,(0,[]))))) (0,(0,[])) rfl (by omega) D.symm (λj h=>by
   refine⟨_,by simp only;rw[re];rfl,?_⟩;simp only at h ⊢;rw[<- h];exact rfl) (λi rs m j hd o hi h=>by
   obtain⟨s1,s2,c⟩:=j;simp only at h ⊢;obtain⟨hrs1,C⟩:=hr rs (bo o);rw[rl hi,Tj,U9,Ua o,Um];unfold bX at h;by_cases X:rs.length>2
   ·rw[zy (by omega)];rw[zy X]at h;refine .inr ⟨_,rfl,?_⟩;rw[<- h];exact⟨rfl,rfl,rfl⟩
   rw[zx (by omega)];rw[zx X]at h;obtain⟨U,Y⟩:∃ U,U=bY (Vn L.1 i) 0 c rs:=⟨_,rfl⟩;rw[<- Y]at h
   obtain⟨r,O,b⟩:=Xi (l:=rs) (σ:=Int) (λk j=>(j,((k:Int),((0:Int),fF (c++(rs.take k).map (·.1))))))
    (λm k _=>bY (Vn L.1 i) k (c++(rs.take k).map (·.1)) m=U) (λ(r:Nat×((Int×(Int×(Int×List (Int×Bool))))×Unit))=>Q2 (fF (c++rs.map (·.1))) U r.1 r.2.1.1 r.2.1.2.2.1 r.2.1.2.2.2)
    (f:=λa=>br (UV a.2.1 (rs.length:Int)) (λ_=>S1 a.2.1 λN=>ix rs N λp=>gd (Sw (i:Int) 0) λ_=>bd (XB (p,SM .i64 L.1 (i:Int))) λg=>br (PC g 0) (λ_=>br (TS (Mx ((λF=>(λG=>PC F G))) a.2.2.2 p.1) zf) (λ_=>zo (.dn ((0,((a.2.1,(a.2.1,(8,a.2.2.2))),()))))) λ_=>br (Sx g 0) (λ_=>zo (.dn ((0,((a.2.1,(a.2.1,(g,a.2.2.2))),()))))) λ_=>zo (.nx ((a.2.1,(TI .i64 a.2.1 1,(g,Iq ((λI=>(λw=>PC I w))) a.2.2.2 p.1 zt)))))) λ_=>br (Sx g 0) (λ_=>zo (.dn ((0,((a.2.1,(a.2.1,(g,a.2.2.2))),()))))) λ_=>zo (.nx ((a.2.1,(TI .i64 a.2.1 1,(g,Iq ((λx=>(λy=>PC x y))) a.2.2.2 p.1 zt)))))) λ_=>zo (.dn ((1,(a,())))))
    (s:=(0,(0,(0,fF c)))) 0 (by simp) (by omega) (by simp[Y]) (λj h=>by
     refine⟨_,by simp only;rw[re];rfl,?_⟩;rw[<- h];exact⟨rfl,rfl,by simp⟩) (λk r m j hd o hk h=>by
     simp only at h ⊢;have hr2:=C r (bo o);have htk:(rs.take (k+1)).map (·.1)=(rs.take k).map (·.1)++[r.1]:=by grind
     rw[rl hk,Tj,U9,Ua o,show gd (Sw (i:Int) 0)=λ(q:Unit->Option (LR (Int×(Int×(Int×List (Int×Bool)))) (Nat×((Int×(Int×(Int×List (Int×Bool))))×Unit))))=>q ()from by rfl,c0 (by omega) (by omega) (by omega)];simp only;rw[fW _ _ (by omega),UG,Uk,oB,Uq];unfold bY at h;rw[xD]at h;by_cases n:kR [] (Vn L.1 i) r=0
     ·rw[zy n]at h;rw[zy n,zy n,Wa];by_cases E:r.1∈c++(rs.take k).map (·.1)
      ·rw[zy E];rw[zy E,zy (by decide)]at h;refine .inr ⟨_,rfl,?_⟩;rw[<- h];exact⟨rfl,rfl,rfl⟩
      ·rw[zx E];rw[zx E,zx (by decide)]at h;refine .inl ⟨(k:Int),?_,?_⟩
       ·grind [oD,VJ,gw]
       simp_all
     ·rw[zx n,zy n]at h;rw[zx n,zx n];refine .inr ⟨_,rfl,?_⟩;rw[<- h]
      exact⟨rfl,rfl,rfl⟩)
   rw[O,UG,UH];cases B:U with
   |some u=>
    obtain⟨k,e⟩:=u;rw[B]at b h;rw[zy b.1];refine .inr ⟨_,rfl,?_⟩;rw[<- h];exact⟨b.2.1,rfl,b.2.2⟩
   |none=>
    rw[B]at b h;rw[zx (show ¬ r.1=0 by have:=b.1;omega)];refine .inl ⟨(r.2.1.1,((i:Int),c++rs.map (·.1))),?_,h⟩
    rw[b.2.1,b.2.2,VJ o (by omega)])
 refine Va O ?_;cases z:T with
 |some t=>
  obtain⟨i,k,e⟩:=t;rw[z]at b D;rw[Uq,zx (by rw[b.2.2];exact gL D.symm),b.1,b.2.1,b.2.2]
 |none=>
  rw[z]at b;have h:=A _ b z;have q3:r.2.1.2.2.1=0:=b;rw[Uq,zy q3]at h ⊢;exact h
end
section
open Go Sv
structure VR (most:Int) (r:VU):Prop where
 id1:1<=r.1
 id2:r.1<=1000000
 vl:VL r.2
 ne:r.2≠[]
 le:(r.2.length:Int)<=most
theorem iS{a:List Int}{most:Int}{r:VU}:kR a most r=0<->VR most r/\r.1 ∉ a:=by
 unfold kR;constructor
 ·intro h;by_cases c:r.1<1\/r.1>1000000
  ·omega
  rw[zx c]at h;by_cases d:(Wu r.2).2≠0
  ·omega
  rw[zx d]at h;by_cases e:r.2.length=0
  ·omega
  rw[zx e]at h;by_cases f:(r.2.length:Int)>most
  ·omega
  rw[zx f]at h;by_cases b:r.1∈a
  ·simp_all
  exact⟨⟨by omega,by omega,Z8.1 (by omega),by simp_all,by omega⟩,b⟩
 ·rintro⟨h,b⟩;rw[zx (by have:=h.id1;have:=h.id2;omega),zx (by simp[Z8.2 h.vl]),zx (by have:=dc.2 h.ne;omega),zx (by have:=h.le;omega),zx b]
def u6(r:VU):Int:=r.1
theorem dJ{most:Int}:∀ {rs:List VU} {k:Nat} {a:List Int},bY most k a rs=zn<->(∀ r∈rs,VR most r/\r.1 ∉ a)/\(rs.map u6).Nodup
 |[],k,a=>by simp[bY]
 |r::rs,k,a=>by
  unfold bY;by_cases h:kR a most r=0
  ·rw[zx (by simp[h]),dJ (rs:=rs)];have f:=iS.1 h;simp only[ml,forall_eq_or_imp,hI,li,rz,List.not_mem_nil,or_false,i0,not_exists,not_and,not_or];constructor
   ·rintro⟨b,d⟩;exact⟨⟨f,λx c=>⟨(b x c).1,(b x c).2.1⟩⟩,λx c e=>(b x c).2.2 e,d⟩
   ·rintro⟨⟨_,b⟩,d,g⟩;exact⟨λx c=>⟨(b x c).1,(b x c).2,d x c⟩,g⟩
  ·rw[zy h];simp only[reduceCtorEq,false_iff,not_and];intro b;exact absurd (iS.2 (b r (by simp))) h
theorem bT{B:Int}:∀ {ls:List (List VU)} {i:Nat} {c:List Int},bX B i c ls=zn<->(∀ k rs,ls[k]?=zo rs->rs.length<=2 /\ ∀ r∈rs,VR (Vn B (i+k)) r/\r.1 ∉ c)/\(ls.flatten.map u6).Nodup
 |[],i,c=>by simp[bX]
 |rs::ls,i,c=>by
  unfold bX;by_cases h:rs.length>2
  ·rw[zy h];simp only[reduceCtorEq,false_iff,not_and];intro g;have:=(g 0 rs rfl).1;omega
  ·rw[zx h];cases l:bY (Vn B i) 0 c rs with
   |some x=>
    simp only[reduceCtorEq,false_iff,not_and];intro g j
    have n:bY (Vn B i) 0 c rs=zn:=dJ.2 ⟨(g 0 rs rfl).2,by
     grind⟩
    simp_all
   |none=>
    have q:=dJ.1 l;simp only;rw[bT (ls:=ls)];simp only[List.flatten_cons,List.map_append,rz,not_or,i0];constructor
    ·rintro⟨g,j⟩;refine⟨λk f m=> ?_,?_⟩
     ·cases k with
      |zero=>grind
      |succ k=>
       grind
     ·rw[xT];refine⟨q.2,j,?_⟩;intro a s b t e;subst e;obtain⟨r,l,e1⟩:=i0.1 s;obtain⟨p,d,e2⟩:=i0.1 t;obtain⟨f,o,d⟩:=kd.1 d;obtain⟨k,m⟩:=ee o
      grind [u6]
    ·rintro⟨g,j⟩;rw[xT]at j;refine⟨λk f m=> ?_,j.2.1⟩;have n:=g (k+1) f m;refine⟨n.1,λr l=> ?_⟩;have:=n.2 r l;rw[show i+(k+1)=i+1+k by omega]at this;refine⟨this.1,this.2,?_⟩;rintro⟨p,d,e⟩;exact j.2.2 (u6 p) (xa d) (u6 r) (xa (kd.2 ⟨f,bo m,l⟩)) e
structure VLev (L:VB):Prop where
 B1:1<=L.1
 B2:L.1<=16
 len:L.2.length<=12
 lev:∀ i rs,L.2[i]?=zo rs->rs.length<=2 /\ ∀ r∈rs,VR (Vn L.1 i) r
 ids:(L.2.flatten.map u6).Nodup
 last:L.2.getLast? ≠ zo []
theorem Xz{L:VB}:(Wt L).2.2=0<->VLev L:=by
 unfold Wt;constructor
 ·intro h;by_cases b:L.1<1\/L.1>16
  ·simp_all
  rw[zx b]at h;by_cases c:L.2.length>12
  ·simp_all
  rw[zx c]at h;cases a:bX L.1 0 [] L.2 with
  |some x=>
   obtain⟨i,k,e⟩:=x;rw[a]at h;exact absurd h (gL a)
  |none=>
   rw[a]at h;simp only at h;by_cases d:L.2.getLast?=zo []
   ·simp_all
   ·have f:=bT.1 a
    exact⟨by omega,by omega,by omega,λi rs hi=>by
     grind,f.2,d⟩
 ·intro h
  have a:bX L.1 0 [] L.2=zn:=bT.2 ⟨λk rs g=>by
   have:=h.lev k rs g
   simp_all,h.ids⟩
  rw[zx (by have:=h.B1;have:=h.B2;omega),zx (by have:=h.len;omega),a];simp only;rw[zx h.last]
theorem YC{L:VB}(h:VLev L):Wt L=(0,(0,0)):=by
 have a:bX L.1 0 [] L.2=zn:=bT.2 ⟨λk rs b=>by
  have:=h.lev k rs b
  simp_all,h.ids⟩
 unfold Wt;rw[zx (by have:=h.B1;have:=h.B2;omega),zx (by have:=h.len;omega),a];simp only;rw[zx h.last]
def Wy(l:List (List VU)):Int:=l.foldl (λm rs=>rs.foldl (λm r=>Uz m r.1) m) 0
def VF:Nat->List (List VU)->List Int
 |_,[]=>[]
 |i,rs::ls=>(if rs.length=2 then[(i:Int)]else[])++VF (i+1) ls
theorem iN(L:VB)(d:L.2.length<=1048576)(b:∀ rs∈L.2,rs.length<=1048576):YV L=zo (Wy L.2):=by
 unfold YV;simp only[VE,VC]
 rw[WL (l:=L.2) (σ:=Int) (s:=((0:Int),(0:Int))) (λi m=>(m,(i:Int))) (λ_ _ _=>True) (λls _ m=>(0,((ls.foldl (λm rs=>rs.foldl (λm r=>Uz m r.1) m) m,(L.2.length:Int)),()))) 0 rfl (by omega) trivial (λm _=>by
  simp only;rw[re];rfl) (λi rs ls m hd a hi _=>by
   refine⟨rs.foldl (λm r=>Uz m r.1) m,?_,trivial,rfl⟩;have c:=b rs (bo a);simp only
   rw[rl hi,Tj,U9,Ua a,WL (l:=rs) (σ:=Int) (s:=((0:Int),m)) (λi m=>((i:Int),m)) (λ_ _ _=>True) (λl _ m=>(0,(((rs.length:Int),l.foldl (λm r=>Uz m r.1) m),()))) m rfl (by omega) trivial (λm _=>by
    simp only;rw[re];rfl) (λk r l m hd a e _=>by
     refine⟨Uz m r.1,?_,trivial,rfl⟩
     grind [rl,Tj,U9,Ua,VJ]),UG,VJ a (by omega)]),UG]
 rfl
def bW(L:VB)(a:List Int)(i:Nat)(j:Job):Bool:=match a[i]? with
 |none=>zt
 |some d=>if j.1≠d then zt else if j.2.2.1.2.2=zt/\j.1≠(L.2.length:Int)-1 then zt else match L.2[d.toNat]? with
  |some [r0,r1]=>if j.2.2.2.2<0\/j.2.2.2.2>((r1.2.length+r0.2.length:Nat):Int)then zt else decide (Ww r1.2 r0.2 j.2.2.1.2.2 j.2.2.2.2.toNat≠j.2)
  |_=>zt
def Yc(L:VB)(a:List Int):Nat->List Job->Option Nat
 |_,[]=>zn
 |i,j::js=>if bW L a i j=zt then zo i else Yc L a (i+1) js
def VA(s:U8):Int×Int:=
 if(Wt s.1).2.2≠0 then(-1,(Wt s.1).2.2)else if s.2.2<1\/s.2.2>1000001 then(-1,7)else if s.2.2<=Wy s.1.2 then(-1,6)else match Yc s.1 (VF 0 s.1.2) 0 s.2.1 with
  |some i=>((i:Int),6)
  |none=>if s.2.1.length<(VF 0 s.1.2).length then(-1,4)else(0,0)
theorem ZY:∀ {ls:List (List VU)} {i k:Nat} {d:Int},(VF i ls)[k]?=zo d -> ∃ n:Nat,d=((i+n:Nat):Int) /\ ∃ c e,ls[n]?=zo [c,e]
 |[],i,k,d,h=>by cases h
 |rs::ls,i,k,d,h=>by
  unfold VF at h;by_cases a:rs.length=2
  ·rw[zy a]at h;cases k with
   |zero=>
    simp at h;refine⟨0,by simp[<- h],?_⟩
    match rs,a with
    |[c,e],_=>simp_all
   |succ k=>
    simp at h;obtain⟨n,f,b⟩:=ZY h;exact⟨n+1,by omega,b⟩
  ·rw[zx a]at h;simp at h;obtain⟨n,f,b⟩:=ZY h;exact⟨n+1,by omega,b⟩
theorem XE:∀ (ls:List (List VU)) (i:Nat),(VF i ls).length<=ls.length
 |[],i=>eb _
 |rs::ls,i=>by
  have:=XE ls (i+1)
  grind [VF]
theorem gz{L:VB}{n:Nat}{a b:VU}(c:Bool)(h:L.2[n]?=zo [a,b])(v0:VL a.2)(v1:VL b.2):Wg (L,((n:Int),c))=zo ((n:Int),Ww b.2 a.2 c 0):=by
 unfold Wg;simp only;rw[U9,Ua h,Ua (x:=b) rfl,Ua (x:=a) rfl,lZ v1 v0];rfl
theorem cu{a b:List U7}(va:VL a)(d:VL b)(c:Bool){n:Nat}(h:n<=a.length+b.length):(Ww a b c n).1.1.length<=1000/\(∀ l∈(Ww a b c n).1.1,l.length<=1000000)/\(Ww a b c n).1.2.1.length<=1000/\(Ww a b c n).1.2.2.1.length<=1000/\(Ww a b c n).1.2.2.2.1.length<=1000/\(Ww a b c n).2.2.1.length<=1000000:=by
 have i:=va.len;have j:=d.len;refine⟨show 2<=1000 by omega,λl g=> ?_,show 2<=1000 by omega,show 2<=1000 by omega,show 2<=1000 by omega,?_⟩
 ·grind [Ww,bn,cG]
 ·have e:=aB (s0 c) (VX a b n);have f:=WZ va d h;show(Xq (s0 c) (VX a b n)).length<=_;omega
theorem xC{L:VB}{n:Nat}{a b:VU}{j:Job}(h:L.2[n]?=zo [a,b])(v0:VL a.2)(v1:VL b.2){β:Type}(A B:Option β) :
  (bd (Wg (L,((n:Int),j.2.2.1.2.2))) λc=>bd (V0 c.2) λd=>br (UV j.2.2.2.2 0) (λ_=>A) λ_=>br (UT j.2.2.2.2 d.1) (λ_=>A) λ_=>bd (WE (c.2,j.2.2.2.2)) λe=>bd (XP (e.1,j.2)) λf=>br (IG f) (λ_=>A) λ_=>B)
  = if j.2.2.2.2<0\/j.2.2.2.2>((b.2.length+a.2.length:Nat):Int)then A else if Ww b.2 a.2 j.2.2.1.2.2 j.2.2.2.2.toNat=j.2 then B else A:=by
 rw[gz _ h v0 v1,UG,dK v1 v0 _ (iz _),UG,Uo,Um,mR];by_cases g:j.2.2.2.2<0
 ·simp_all
 rw[zx g];by_cases i:j.2.2.2.2>((b.2.length+a.2.length:Nat):Int)
 ·simp_all
 rw[zx i,zx (show ¬ (j.2.2.2.2<0\/j.2.2.2.2>((b.2.length+a.2.length:Nat):Int)) by omega)];obtain⟨k,l⟩:∃ k:Nat,j.2.2.2.2=(k:Int):=⟨j.2.2.2.2.toNat,by omega⟩;rw[l,fj v1 v0 _ (iz _),UG,mR,hM,ta (by omega),bl];obtain⟨s1,s2,m,o,p,q⟩:=cu v1 v0 j.2.2.1.2.2 (n:=k) (by omega);rw[iR _ _ s1 s2 m o p q,UG,WS,Wa]
 simp_all
theorem jX(s:U8)(J:s.1.2.length<=1048576)(hr:∀ rs∈s.1.2,rs.length<=1048576 /\ ∀ r∈rs,r.2.length<=9223372036854775807)(hj:s.2.1.length<=1048576):V6 s=zo (VA s):=by
 unfold V6 VA;simp only[VE,VC];rw[Zk _ J hr,UG,Uq];by_cases C:(Wt s.1).2.2=0;rotate_left
 ·simp_all
 rw[zy C,zx (by simp[C]),Uo,Um,iN _ J (λrs h=>(hr rs h).1),UG];have v:=Xz.1 C;by_cases D:s.2.2<1
 ·simp_all
 rw[zx D];by_cases g:s.2.2>1000001
 ·simp_all
 rw[zx g,zx (show ¬ (s.2.2<1\/s.2.2>1000001) by omega),Un];by_cases E:s.2.2<=Wy s.1.2
 ·simp_all
 rw[zx E,zx E]
 rw[WL (l:=s.1.2) (σ:=List Int) (s:=((0:Int),([]:List Int))) (λi m=>((i:Int),m)) (λls i m=>m++VF i ls=VF 0 s.1.2) (λ_ _ _=>(0,(((s.1.2.length:Int),VF 0 s.1.2),()))) [] rfl (by omega) rfl (λm h=>by
  simp_all[re,TA,VF]) (λi rs ls m hd e hi h=>by
   refine⟨m++(if rs.length=2 then[(i:Int)]else[]),?_,?_,rfl⟩
   ·simp only;rw[rl hi,Tj,U9,Ua e,Uk]
    have hm:m.length<=1048575:=by
     have o:=congrArg ox h;have I:=XE s.1.2 0;have h6:=v.len
     grind
    by_cases o:rs.length=2
    ·rw[zy (by omega),zy o,Vo (by simp_all[A0,AQ,ci,co]),VJ e (by omega)];rfl
    ·rw[zx (by omega),zx o,gM,VJ e (by omega)]
   ·rw[gw];exact h),UG]
 simp only;obtain⟨a,p⟩:∃ a,a=VF 0 s.1.2:=⟨_,rfl⟩;have hdl:a.length<=12:=by have:=XE s.1.2 0;have:=v.len;grind
 rw[<- p];obtain⟨T,Y⟩:∃ T,T=Yc s.1 a 0 s.2.1:=⟨_,rfl⟩;rw[<- Y]
 obtain⟨r,q1,G⟩:=Xi (l:=s.2.1) (σ:=Unit) (λi _=>((0:Int),((0:Int),(i:Int)))) (λjs i _=>Yc s.1 a i js=T) (λ(r:Nat×((Int×(Int×Int))×Unit))=>(T=zn/\r.1=1)\/(∃ i:Nat,T=zo i/\r.1=0/\r.2.1.1=6/\r.2.1.2.1=(i:Int)))
  (f:=λb=>br (UV b.2.2 (s.2.1.length:Int)) (λ_=>S1 b.2.2 λk7=>ix s.2.1 k7 λc=>br (Sw b.2.2 (a.length:Int)) (λ_=>zo (.dn ((0,((6,(b.2.2,b.2.2)),()))))) λ_=>S1 b.2.2 λk9=>gd (I8 k9 a.length) λ_=>ix a k9 λX=>br (Sx c.1 X) (λ_=>zo (.dn ((0,((6,(b.2.2,b.2.2)),()))))) λ_=>br c.2.2.1.2.2 (λ_=>bd (W8 (s.1,c.1)) λM=>br (IG M) (λ_=>zo (.dn ((0,((6,(b.2.2,b.2.2)),()))))) λ_=>bd (Wg ((s.1,(c.1,c.2.2.1.2.2)))) λy=>bd (V0 y.2) λN=>br (UV c.2.2.2.2 0) (λ_=>zo (.dn ((0,((6,(b.2.2,b.2.2)),()))))) λ_=>br (UT c.2.2.2.2 N.1) (λ_=>zo (.dn ((0,((6,(b.2.2,b.2.2)),()))))) λ_=>bd (WE (y.2,c.2.2.2.2)) λO=>bd (XP (O.1,c.2)) λP=>br (IG P) (λ_=>zo (.dn ((0,((6,(b.2.2,b.2.2)),()))))) λ_=>zo (.nx ((b.1,(b.2.1,TI .i64 b.2.2 1))))) λ_=>bd (Wg ((s.1,(c.1,c.2.2.1.2.2)))) λz=>bd (V0 z.2) λS=>br (UV c.2.2.2.2 0) (λ_=>zo (.dn ((0,((6,(b.2.2,b.2.2)),()))))) λ_=>br (UT c.2.2.2.2 S.1) (λ_=>zo (.dn ((0,((6,(b.2.2,b.2.2)),()))))) λ_=>bd (WE (z.2,c.2.2.2.2)) λU=>bd (XP (U.1,c.2)) λW=>br (IG W) (λ_=>zo (.dn ((0,((6,(b.2.2,b.2.2)),()))))) λ_=>zo (.nx ((b.1,(b.2.1,TI .i64 b.2.2 1))))) λ_=>zo (.dn ((1,(b,())))))
  (s:=(0,(0,0))) () rfl (by omega) Y.symm (λ_ h=>by
   refine⟨_,by simp only;rw[re];rfl,.inl ⟨by rw[<- h];rfl,rfl⟩⟩) (λi j js _ hd e hi h=>by
   simp only;rw[rl hi,Tj,U9,Ua e,Ul];unfold Yc at h
   have Z:bW s.1 a i j=zt -> ∃ r:Nat×((Int×(Int×Int))×Unit),(zo (LR.dn ((0,((6,((i:Int),(i:Int))),()))):LR (Int×(Int×Int)) _))=zo (.dn r)/\((T=zn/\r.1=1)\/(∃ i:Nat,T=zo i/\r.1=0/\r.2.1.1=6/\r.2.1.2.1=(i:Int))):=λJ=>by
    grind
   have L:bW s.1 a i j=zf -> ∃ st':Unit,(zo (LR.nx ((0:Int),((0:Int),TI .i64 (i:Int) 1))):Option (LR _ (Nat×((Int×(Int×Int))×Unit))))=zo (.nx ((0:Int),((0:Int),((i+1:Nat):Int))))/\Yc s.1 a (i+1) js=T:=λhg=>by
    rw[zx (by simp[hg])]at h;exact⟨(),by rw[VJ e (by omega)],h⟩
   by_cases D:(i:Int)>=(a.length:Int)
   ·rw[zy D]
    grind [bW,a9]
   rw[zx D,U9,UQ,zy (by omega)];have K:a[i]?=zo (a[i]'(by omega)):=by simp
   rw[Ua K,Uq];obtain⟨n,hn,w,x,u⟩:=ZY (ls:=s.1.2) (i:=0) (k:=i) (d:=a[i]'(by omega)) (by simp_all);rw[hM]at hn
   have F:bW s.1 a i j=(if j.1≠(a[i]'(by omega))then zt else if j.2.2.1.2.2=zt/\j.1≠(s.1.2.length:Int)-1 then zt else if j.2.2.2.2<0\/j.2.2.2.2>((x.2.length+w.2.length:Nat):Int)then zt else decide (Ww x.2 w.2 j.2.2.1.2.2 j.2.2.2.2.toNat≠j.2)):=by
    grind [bW,bl]
   by_cases g:j.1=(a[i]'(by omega));rotate_left
   ·simp_all
   rw[zy g];rw[zx (by simp[g])]at F;have q:j.1=(n:Int):=by rw[g,hn]
   have hv:=(v.lev n _ u).2;have v0:=(hv w (by simp)).vl;have v1:=(hv x (by simp)).vl;have t:TM .i64 (s.1.2.length:Int) 1=(s.1.2.length:Int)-1:=Tq (by omega);unfold W8;simp only[VE,VC];rw[UG,t,XL,WS,Wa,q,xC u v0 v1,Uw];rw[q]at F;by_cases E:j.2.2.1.2.2=zt/\(n:Int)≠(s.1.2.length:Int)-1
   ·simp_all
   rw[zx E]at F
   have o:∀ {γ:Type} (A B:γ),(if j.2.2.1.2.2=zt then if ¬(n:Int)=(s.1.2.length:Int)-1 then A else B else B)=B:=by
    simp_all
   rw[o];by_cases I:j.2.2.2.2<0\/j.2.2.2.2>((x.2.length+w.2.length:Nat):Int)
   ·simp_all
   rw[zx I];rw[zx I]at F;by_cases h6:Ww x.2 w.2 j.2.2.1.2.2 j.2.2.2.2.toNat=j.2
   all_goals simp_all)
 rw[C];refine Va q1 ?_;rw[UH];rcases G with⟨G,q3⟩|⟨i,G,q3,q4,q5⟩
 ·rw[zx (show ¬ r.1=0 by omega),G,Uo]
  grind
 grind
end
section
open Go Sv
theorem cd(x:U7):Xe x=zo (kE x):=by
 unfold Xe kE;rw[Um,VE,ah];by_cases c:x.1.length>32
 ·grind
 rw[zx (by omega),Um,VE,ah];by_cases d:x.2.1.length>64
 ·grind
 rw[zx (by omega:¬ (x.2.1.length:Int)>64),zx (by omega),Uw];by_cases a:x.2.2.1=zt
 ·rw[zy a,Vp,Xr];by_cases b:x.2.1=[]
  ·rw[zy b,zx (by simp[b]),Uo,Um]
   grind
  simp_all
 ·rw[zx a,zx (by simp[a]),Uo,Um]
  grind
def Xp:List UInt8->List UInt8->Nat
 |x::a,y::b=>if x=y then Xp a b+1 else 0
 |_,_=>0
theorem tz(x y:UInt8):PC (U3 x) (U3 y)=decide (x=y):=by
 rw[XL];unfold U3;by_cases h:x=y
 ·simp[h]
 ·have:¬ ((x.toNat:Int)=(y.toNat:Int)):=λe=>h (UInt8.toNat_inj.1 (by omega))
  grind
theorem lg(a b:List UInt8)(y:a.length<=9223372036854775806):Yl (a,b)=zo (Xp a b:Int):=by
 unfold Yl;simp only[VE,ah]
 have key:∀ (m:List UInt8) (k n:Nat),a.drop k=m->k<=a.length->k<=b.length->m.length<n->Ih n (λs0=>br (UV s0 (a.length:Int)) (λ_=>br (UV s0 (b.length:Int)) (λ_=>S1 s0 λs=>ix a s λu=>S1 s0 λt=>ix b t λw=>br (PC (U3 u) (U3 w)) (λ_=>zo (LR.nx (TI .i64 s0 1))) λ_=>zo (.dn ((0,(s0,()))))) λ_=>zo (.dn ((0,(s0,()))))) λ_=>zo (.dn ((0,(s0,()))))) (k:Int)=zo ((0:Nat),(((k+Xp m (b.drop k):Nat):Int),())):=by
  intro m
  induction m with
  |nil=>
   intro k n p o g r;obtain⟨n,rfl⟩:∃ j,n=j+1:=⟨n-1,by omega⟩
   have h:k=a.length:=by
    grind
   subst h;refine Vm ?_;rw[re];rfl
  |cons x m z=>
   intro k n p o g r;obtain⟨n,rfl⟩:∃ j,n=j+1:=⟨n-1,by omega⟩
   have i:a[k]?=zo x:=by
    grind [List.head?_drop]
   have c:k<a.length:=(a8.1 i).1
   have q:a.drop (k+1)=m:=by
    grind [List.tail_drop]
   by_cases d:k<b.length
   ·have l:b[k]?=zo b[k]:=by simp[d]
    rw[List.drop_eq_getElem_cons d];unfold Xp;by_cases e:x=b[k]
    ·rw[zy e];refine(Vf (s':=((k+1:Nat):Int)) ?_).trans ?_
     ·rw[rl c,Tj,rl d,Tj,U9,Ua i,U9,Ua l,tz,Wa,zy e,VG (by omega)]
     grind
    ·rw[zx e];refine Vm ?_;rw[rl c,Tj,rl d,Tj,U9,Ua i,U9,Ua l,tz,Wa,zx e];simp
   ·have f:k=b.length:=by omega
    refine Vm ?_;rw[rl c,Tj,f,re,TA,List.drop_length];simp[Xp]
 refine Va (WK (n:=a.length+1) (by omega) (key a 0 (a.length+1) (by simp) (by omega) (by omega) (by omega))) ?_;simp
def cB(a b:YF):Int:=if TZ a b=zt then -1 else if a=b then 0 else 1
theorem hG:∀ (a b:YF),(Xp a b<=a.length/\Xp a b<=b.length)/\(Xp a b=a.length->Xp a b=b.length->cB a b=0)/\(Xp a b=a.length->Xp a b≠b.length->cB a b = -1)/\(Xp a b≠a.length->Xp a b=b.length->cB a b=1)/\(∀ x y,a[Xp a b]?=zo x->b[Xp a b]?=zo y->cB a b=if x.toNat<y.toNat then -1 else 1)
 |[],[]=>by simp[Xp,cB,cm]
 |[],y::b=>by simp[Xp,cB,gU]
 |x::a,[]=>by simp[Xp,cB,cm]
 |x::a,y::b=>by
  obtain⟨⟨j,g⟩,k,l,m,n⟩:=hG a b;by_cases e:x=y
  ·subst e
   have o:cB (x::a) (x::b)=cB a b:=by
    simp_all[cB,aN]
   grind [Xp]
  ·have hc:Xp (x::a) (y::b)=0:=by simp[Xp,e]
   rw[hc];refine⟨⟨by omega,by omega⟩,λu=>by simp at u,λu=>by simp at u,λ_ u=>by simp at u,λp q d f=> ?_⟩;simp at d f;subst d f;unfold cB;rw[aN];have i:¬ (x::a=y::b):=λh=>e (by injection h);by_cases c:x.toNat<y.toNat
   ·have:x<y:=vg.2 c
    simp_all
   ·have:¬ x<y:=λh=>c (vg.1 h)
    grind
theorem nA(a b:YF)(p:a.length<=1000000000)(q:b.length<=1000000000):YN (a,b)=zo (cB a b):=by
 obtain⟨⟨m,i⟩,n,j,o,k⟩:=hG a b;unfold YN;simp only[VE,ah];rw[lg a b (by omega),UG,Uk]
 have l:(if(Xp a b:Int)<(b.length:Int)then(S1 (Xp a b:Int) λc=>ix a c λe=>S1 (Xp a b:Int) λd=>ix b d λf=>br (UV (U3 e) (U3 f)) (λ_=>zo (-1:Int)) λ_=>zo 1)else zo 1)=(if Xp a b=a.length then(if(Xp a b:Int)<(b.length:Int)then(S1 (Xp a b:Int) λc=>ix a c λe=>S1 (Xp a b:Int) λd=>ix b d λf=>br (UV (U3 e) (U3 f)) (λ_=>zo (-1:Int)) λ_=>zo 1)else zo 1)else zo (cB a b)):=by
  by_cases u:Xp a b=a.length
  ·grind
  ·rw[zx u];by_cases v:Xp a b=b.length
   ·simp_all
   ·rw[zy (by omega),U9];have g:a[Xp a b]?=zo (a[Xp a b]'(by omega)):=by simp
    have h:b[Xp a b]?=zo (b[Xp a b]'(by omega)):=by simp
    rw[Ua g,U9,Ua h,Uo,k _ _ g h];unfold U3
    grind
 by_cases u:Xp a b=a.length
 ·rw[zy (by omega),Uk];by_cases v:Xp a b=b.length
  ·simp_all
  ·rw[zx (by omega),Uk,zy (by omega),j u v]
 ·rw[zx (by omega),Uk,zx (by omega),Uo,l,zx u]
theorem lI(a b:YF):cB a b>=0<->TZ a b=zf:=by
 grind [cB]
theorem Y8(l:List U7)(B:l.length<=9223372036854775807):W3 l=zo (Wu l):=by
 unfold W3 Wu;simp only[VE,VC];rw[Um];by_cases h:l.length>5000
 ·grind
 rw[zx (by omega),zx h];obtain⟨T,j⟩:∃ T,T=ao zn 0 l:=⟨_,rfl⟩;rw[<- j]
 obtain⟨r,t,C⟩:=Xi (l:=l) (σ:=Unit) (s:=((0:Int),((0:Int),(0:Int)))) (λk _=>((0:Int),((0:Int),(k:Int)))) (λm k _=>ao (if k=0 then zn else(l[k-1]?).map (·.1)) k m=T/\(∀ y,k≠0->l[k-1]?=zo y->kE y=0)) (λ(r:Nat×((Int×(Int×Int))×Unit))=>(r.1=1/\T=(0,0))\/(r.1=0/\T=(r.2.1.2.1,r.2.1.1)))
  (f:=λs0=>br (UV s0.2.2 (l.length:Int)) (λ_=>S1 s0.2.2 λo=>ix l o λw=>bd (Xe w) λd=>br (PC d 0) (λ_=>br (UT s0.2.2 0) (λ_=>S1 (TM .i64 s0.2.2 1) λp=>ix l p λz=>S1 s0.2.2 λq=>ix l q λA=>bd (YN (z.1,A.1)) λu=>br (Sw u 0) (λ_=>zo (.dn ((0,((6,(s0.2.2,s0.2.2)),()))))) λ_=>br (Sx d 0) (λ_=>zo (.dn ((0,((d,(s0.2.2,s0.2.2)),()))))) λ_=>zo (.nx ((s0.1,(s0.2.1,TI .i64 s0.2.2 1))))) λ_=>br (Sx d 0) (λ_=>zo (.dn ((0,((d,(s0.2.2,s0.2.2)),()))))) λ_=>zo (.nx ((s0.1,(s0.2.1,TI .i64 s0.2.2 1))))) λ_=>br (Sx d 0) (λ_=>zo (.dn ((0,((d,(s0.2.2,s0.2.2)),()))))) λ_=>zo (.nx ((s0.1,(s0.2.1,TI .i64 s0.2.2 1))))) λ_=>zo (.dn ((1,(s0,())))))
  () rfl (by omega) ⟨j.symm,λ_ h=>absurd rfl h⟩ (λ_ h=>by
   refine⟨_,by simp only;rw[re];rfl,.inl ⟨rfl,?_⟩⟩;rw[<- h.1];simp[ao]) (λk x m _ hd g n h=>by
   simp only;obtain⟨h,c⟩:=h;rw[rl n,Tj,U9,Ua g,cd,UG,Uk];unfold ao at h
   have next:kE x=0->(T=ao (zo x.1) (k+1) m)->ao (if k+1=0 then zn else(l[k+1-1]?).map (·.1)) (k+1) m=T/\(∀ y,k+1≠0->l[k+1-1]?=zo y->kE y=0):=λa e=>by
    simp_all
   by_cases a:kE x=0
   ·rw[zy a,Um];rw[zx (by simp[a])]at h;by_cases b:k=0
    ·rw[zx (by omega),Uq,zy a];rw[zy b]at h;exact .inl ⟨(),by rw[VJ g (by omega)],next a h.symm⟩
    ·have i:l[k-1]?=zo (l[k-1]'(by omega)):=by simp_all
     rw[zy (by omega),show TM .i64 (k:Int) 1=((k-1:Nat):Int) by rw[Tq (by omega)];omega,U9,Ua i,U9,Ua g];rw[zx b,i]at h;simp only[pg]at h;rw[nA _ _ (by have:=eJ (c _ b i);omega) (by have:=eJ a;omega),UG,Ul];by_cases hs:TZ (l[k-1]'(by omega)).1 x.1=zt
     ·rw[zx (λe=>by rw[lI,hs]at e;cases e),Uq,zy a];rw[zy hs]at h;exact .inl ⟨(),by rw[VJ g (by omega)],next a h.symm⟩
     simp_all[zy,lI,zx]
   ·rw[zx a,Uq,zx a]
    grind)
 refine Va t ?_;rw[UH]
 grind
theorem t6(p q:VN)(d:Xm p)(e:Xm q):aT ([p,q],(0,1))=zo (w0 p q):=by
 unfold aT w0;refine(X2 0 rfl (x:=p) rfl).trans ((X2 1 rfl (x:=q) rfl).trans ?_);rw[beq_eq,WS,Wa,Vp,Uw];by_cases b:p.2=q.2
 ·rw[zx (show ¬ ¬ p.2=q.2 by simp[b]),zx (show ¬ p.2≠q.2 by simp[b])];by_cases a:p.2=zt
  ·rw[zy a,d a,e (b ▸ a)];rfl
  ·rw[zx a,Vp,Xr];by_cases c:p.1=q.1
   ·rw[zy c,zx (by simp[c])];rfl
   simp_all
 simp_all
theorem dV(p q:VN)(n:Nat)(k:Int)(h:2<=k)(a:k<=100):Ni Vk (n+1) ([p,q],k)=zo (k-2,0):=by
 show Vk (Ni Vk n) ([p,q],k)=_;unfold Vk;show br (Sw k 2) (λ_=>zo (TM .i64 k 2,0)) _=_;rw[Ul,zy h,Tq (by omega)]
theorem eV(p q:VN)(a:Xm p)(b:Xm q):Yo ([p,q],1)=zo (if w0 p q=zt then(0,1)else(1,0)):=by
 show Vk (Ni Vk 99) ([p,q],1)=_;unfold Vk;show br (Sw (1:Int) 2) (λ_=>zo (TM .i64 (1:Int) 2,0)) (λ_=>bd (Ni Vk (98+1) ([p,q],2)) λc=>bd (Ni Vk (98+1) ([p,q],3)) _)=_;rw[Ul,zx (by omega),dV p q 98 2 (by omega) (by omega),UG,dV p q 98 3 (by omega) (by omega),UG]
 grind [t6,UG,Uw]
theorem tv(p q:VN)(a:Xm p)(c:Xm q):aS [p,q]=zo (Tt p q):=by
 unfold aS;refine Eq.trans (b:=bd (loop _ (1,([p,q],([0,0],0)))) _) rfl ?_;refine Va (x:=(0,((2,([p,q],([0,if w0 p q=zt then 1 else 0],0))),()))) (WK (n:=2) (by omega) ((Vf (s':=(2,([p,q],([0,if w0 p q=zt then 1 else 0],0)))) ?_).trans (Vm rfl))) ?_
 ·show bd (Yo ([p,q],1)) _=_;rw[eV p q a c,UG];refine(bH 1 rfl (x:=(0:Int)) rfl).trans ?_;cases h:w0 p q<;>rfl
 grind [Tt,eV,UG]
theorem mO{l:List VN}(h:∀ k∈l,Xm k)(d:l≠[])(e:l.length<=32):Z0 l=zo 0:=by
 unfold Z0;simp only[VE,VC];rw[Uk,Um,zx (by simp_all),zx (by omega)]
 rw[WL (l:=l) (σ:=Unit) (s:=((0:Int),(0:Int))) (λk _=>((k:Int),(0:Int))) (λ_ _ _=>True) (λ_ _ _=>(1,(((l.length:Int),0),()))) () rfl (by omega) trivial (λc _=>by
  simp only;rw[re];rfl) (λk x m c _ a b _=>⟨(),by
   simp only;rw[rl b,Tj,U9,Ua a,Uw,VJ a (by omega)];by_cases hd:x.2=zt
   ·rw[zy hd,U9,Ua a,Vp,Xr,zy (h x (bo a) hd)]
   simp_all,trivial,rfl⟩),UG]
 rfl
theorem ld(p q:VN)(a:Xm p)(b:Xm q):ZF [p,q]=zo (Tt p q,0):=by
 unfold ZF;rw[mO (by grind) (by simp) (by simp),UG,Uq,zy rfl,tv p q a b,UG]
end
section
open Go Sv
theorem ZI:WN=Vu:=rfl
theorem eW:ZS=VS:=rfl
theorem jm(l m:List VN)(d:l.length<=9223372036854775806)(h:l.length=m.length):∃ r,loop (λs1=>br (UV s1.1 (l.length:Int)) (λ_=>S1 s1.1 λj=>ix l j λb=>S1 s1.1 λn=>ix m n λc=>br (IG (OM (seq b.1 c.1) (OM (Sv.beq b.2 c.2) zt))) (λ_=>zo (LR.dn ((0:Nat),((s1.1,zf),())))) λ_=>zo (.nx (TI .i64 s1.1 1,s1.2))) λ_=>zo (.dn ((1,(s1,()))))) ((0:Int),zf)=zo r/\((l=m/\r.1=1)\/(l≠m/\r.1=0/\r.2.1.2=zf)):=by
 refine aG l m h d (λk x y a i=> ?_) (by simp only;rw[re];rfl);have g:=(a8.1 a).1
 have f:∀ {β:Type} (u v:Unit->Option β),br (IG (OM (seq x.1 y.1) (OM (Sv.beq x.2 y.2) zt))) u v=if x=y then v ()else u ():=by
  intro β u v;rw[cQ,ad,beq_eq,aO,WS,Wa]
  grind
 constructor
 ·intro e;simp only;rw[rl g,Tj,U9,Ua a,U9,Ua i,f,zy e,VG (by omega)]
 simp_all[rl,Tj,U9,Ua,zx]
theorem eY(s t:XQ)(g:s.1.length<=1000)(h:s.2.1.length<=1000):Yn (s,t)=zo (decide (s=t)):=by
 obtain⟨b,d,j⟩:=s;obtain⟨c,f,k⟩:=t;simp only at g h;unfold Yn;simp only[VE,VC];rw[Uq];by_cases e1:(b.length:Int)=(c.length:Int);rotate_left
 ·rw[zx e1];have:¬ b=c:=λe=>e1 (by rw[e]);simp[this]
 rw[zy e1,Uq];by_cases e2:j=k;rotate_left
 ·simp_all
 rw[zy e2,eW,bO _ _ (by omega),UG,WS,Wa];by_cases e3:d=f;rotate_left
 ·simp_all
 rw[zx (show ¬ ¬ d=f by simp[e3])];obtain⟨r,i,a⟩:=jm b c (by omega) (by omega);refine Va i ?_;rw[UH];rcases a with⟨e,a⟩|⟨e,a,l⟩<;>simp_all
theorem im(s t:Ws)(u:s.1.length<=1000)(g:∀ l∈s.1,l.length<=1000000)(w:s.2.1.length<=1000)(h:s.2.2.1.length<=1000)(i:s.2.2.2.1.length<=1000):ZT (s,t)=zo (decide (s=t)):=by
 obtain⟨a,n,o⟩:=s;obtain⟨c,p,q⟩:=t;simp only at u g w h i;unfold ZT;simp only[VE,VC];rw[Uq];by_cases e1:(a.length:Int)=(c.length:Int);rotate_left
 ·rw[zx e1];have:¬ a=c:=λe=>e1 (by rw[e]);simp[this]
 rw[zy e1,eW,bO _ _ (by omega),UG,WS,Wa];by_cases e2:n=p;rotate_left
 ·simp_all
 rw[zx (show ¬ ¬ n=p by simp[e2]),eY _ _ h i,UG,WS,Wa];by_cases e3:o=q;rotate_left
 ·simp_all
 rw[zx (show ¬ ¬ o=q by simp[e3])]
 obtain⟨r,C,d⟩:=aG a c (by omega) (by omega) (f:=λs2=>br (UV s2.1 (a.length:Int)) (λ_=>S1 s2.1 λA=>ix a A λE=>S1 s2.1 λB=>ix c B λF=>bd (WN (E,F)) λD=>br (IG D) (λ_=>zo (.dn ((0,((s2.1,zf),()))))) λ_=>zo (.nx (TI .i64 s2.1 1,s2.2))) λ_=>zo (.dn ((1,(s2,()))))) (λk x y b m=>by
   have j:=(a8.1 b).1;have z:=g x (bo b);constructor
   ·intro e;simp only;rw[rl j,Tj,U9,Ua b,U9,Ua m,ZI,X6 _ _ (by omega),UG,WS,Wa,zx (by simp[e]),VG (by omega)]
   ·intro e;simp only
    rw[rl j,Tj,U9,Ua b,U9,Ua m,ZI,X6 _ _ (by omega),UG,WS,Wa,zy e]) (by simp only;rw[re];rfl)
 refine Va C ?_;rw[UH];rcases d with⟨e,d⟩|⟨e,d,G⟩<;>simp_all
theorem eX(x y:ZP)(a:x.1.1.length<=1000)(b:∀ l∈x.1.1,l.length<=1000000)(c:x.1.2.1.length<=1000)(d:x.1.2.2.1.length<=1000)(e:x.1.2.2.2.1.length<=1000)(f:x.2.2.1.length<=1000000):Vw (x,y)=zo (decide (x=y)):=by
 obtain⟨i,⟨xs,k,h⟩,g,j⟩:=x;obtain⟨n,⟨q,r,m⟩,p,o⟩:=y;simp only at a b c d e f;unfold Vw;simp only[im _ _ a b c d e,ZI,X6 _ _ (show g.length<=9223372036854775806 by omega),UG,Wa,XL,ad,beq_eq,cQ,aO]
 repeat' split
 all_goals simp_all
section
variable{a b:List U7}(va:VL a)(vb:VL b)
include va vb
theorem cD:YQ [a,b]=zo (0,0):=by
 have c:=va.len;have d:=vb.len;unfold YQ;refine Eq.trans (b:=bd (loop _ (0,(0,0))) _) rfl ?_;refine Va (x:=(1,((0,(0,2)),()))) (WM (s1:=(0,(0,1))) (s2:=(0,(0,2))) ?_ ?_ rfl) rfl
 ·refine(bh 0 rfl rfl (x:=a) rfl).trans ?_;rw[Y8 _ (by omega),au va,UG];rfl
 ·refine(bh 1 rfl rfl (x:=b) rfl).trans ?_;rw[Y8 _ (by omega),au vb,UG];rfl
theorem ab{i j:Nat}(hi:i<=a.length)(g:j<=b.length):YP ([a,b],[(i:Int),(j:Int)])=zo (if i=a.length/\j=b.length then -1 else if Za a b i j=zt then 0 else 1):=by
 have k:=va.len;have l:=vb.len;unfold YP;simp only[VE,VC];refine Va (x:=(0,((if i=a.length/\j=b.length then -1 else if Za a b i j=zt then 0 else 1,2),()))) (WM (s1:=(if i=a.length then -1 else 0,1)) (s2:=(if i=a.length/\j=b.length then -1 else if Za a b i j=zt then 0 else 1,2)) ?_ ?_ rfl) rfl
 ·refine(bh 0 rfl rfl (x:=(i:Int)) rfl).trans ((X2 0 rfl (x:=a) rfl).trans ?_);rw[Uo];by_cases h:i=a.length
  ·rw[zx (by omega),zy h];rfl
  ·rw[zy (by omega),zx h];rfl
 ·refine(bh 1 rfl rfl (x:=(j:Int)) rfl).trans ((X2 1 rfl (x:=b) rfl).trans ?_);rw[Uo];by_cases h:j=b.length
  ·rw[zx (by omega)];by_cases c:i=a.length
   ·rw[zy c,zy ⟨c,h⟩];rfl
   ·rw[zx c,zx (λe=>c e.1)];have d:a[i]?=zo (a[i]'(by omega)):=by simp
    rw[ky d (a9 (by omega))];rfl
  ·have f:b[j]?=zo (b[j]'(by omega)):=by simp
   rw[zy (by omega),Uo,zx (λe:i=a.length/\j=b.length=>h e.2)];by_cases c:i=a.length
   ·rw[zy c,zy (by omega),kz (a9 (by omega)) f];rfl
   ·rw[zx c,zx (by omega)];have d:a[i]?=zo (a[i]'(by omega)):=by simp
    refine(X2 1 rfl (x:=b) rfl).trans ((X2 1 rfl (x:=(j:Int)) rfl).trans ((X2 j rfl f).trans ((X2 0 rfl (x:=a) rfl).trans ((X2 0 rfl (x:=(i:Int)) rfl).trans ((X2 i rfl d).trans ?_)))));rw[Zy,eE d f];cases hs:TZ (b[j]'(by omega)).1 (a[i]'(by omega)).1<;>rfl
theorem ac{i j:Nat}(hi:i<=a.length)(e:j<=b.length):Xf ([a,b],[(i:Int),(j:Int)])=zo (cG a b i j):=by
 have f:=va.len;have g:=vb.len;unfold Xf;simp only[VE,VC];rw[Vo (show[a,b].length<=1048576 from(show 2<=1048576 by omega)),Vo (show[(i:Int),(j:Int)].length<=1048576 from(show 2<=1048576 by omega))];refine Va (x:=(0,((2,[kx a i,kx b j]),()))) (WM (s1:=(1,[kx a i])) (s2:=(2,[kx a i,kx b j])) ?_ ?_ rfl) ?_
 ·refine(bh 0 rfl rfl (x:=(i:Int)) rfl).trans ((X2 0 rfl (x:=a) rfl).trans ?_);rw[XL,WS,Wa];by_cases h:i=a.length
  ·have c:((i:Int)=(a.length:Int)):=by omega
   rw[zx (show ¬ ¬ ((i:Int)=(a.length:Int)) by simp[c]),cY (a9 (by omega))];simp only[c,decide_true];rfl
  ·have d:a[i]?=zo (a[i]'(by omega)):=by simp
   have c:¬ ((i:Int)=(a.length:Int)):=by omega
   rw[zy c];refine(X2 0 rfl (x:=a) rfl).trans ((X2 0 rfl (x:=(i:Int)) rfl).trans ((X2 i rfl d).trans ?_));rw[Yx d];simp only[c,decide_false];rfl
 ·refine(bh 1 rfl rfl (x:=(j:Int)) rfl).trans ((X2 1 rfl (x:=b) rfl).trans ?_);rw[XL,WS,Wa];by_cases h:j=b.length
  ·have c:((j:Int)=(b.length:Int)):=by omega
   rw[zx (show ¬ ¬ ((j:Int)=(b.length:Int)) by simp[c]),cY (l:=b) (i:=j) (a9 (by omega))];simp only[c,decide_true];rfl
  ·have d:b[j]?=zo (b[j]'(by omega)):=by simp
   have c:¬ ((j:Int)=(b.length:Int)):=by omega
   rw[zy c];refine(X2 1 rfl (x:=b) rfl).trans ((X2 1 rfl (x:=(j:Int)) rfl).trans ((X2 j rfl d).trans ?_));rw[Yx (l:=b) (i:=j) d];simp only[c,decide_false];rfl
 ·show bd (ZF [kx a i,kx b j]) _=_;rw[ld _ _ (Vz _ _) (Vz _ _)];rfl
theorem lM{i:Nat}{l:List U7}(h:i≠0)(hi:i<=l.length):∃ x,l[i-1]?=zo x:=⟨l[i-1]'(by omega),by simp⟩
theorem dI{i j:Nat}(I:Inv a b i j):YO (cG a b i j)=zo (0,0):=by
 have r:=va.len;have s:=vb.len;have hi:=I.ia;have k:=I.jb;unfold YO;rw[show(cG a b i j).1=[a,b]from rfl,cD va vb,UG,Uq,zy rfl];rw[show(cG a b i j).2.1=[(i:Int),(j:Int)]from rfl,Uq,zy (show K7 (AQ [(i:Int),(j:Int)])=K7 (AQ [a,b])from rfl)];refine Va (x:=(1,((0,(0,2)),()))) (WM (s1:=(0,(0,1))) (s2:=(0,(0,2))) ?_ ?_ rfl) ?_
 ·refine(bh 0 rfl rfl (x:=(i:Int)) rfl).trans ?_;rw[Uo,zx (by omega)];refine(X2 0 rfl (x:=(i:Int)) rfl).trans ((X2 0 rfl (x:=a) rfl).trans ?_);rw[Um,zx (by simp only[VE,VC];omega)];rfl
 ·refine(bh 1 rfl rfl (x:=(j:Int)) rfl).trans ?_;rw[Uo,zx (by omega)];refine(X2 1 rfl (x:=(j:Int)) rfl).trans ((X2 1 rfl (x:=b) rfl).trans ?_);rw[Um,zx (by simp only[VE,VC];omega)];rfl
 rw[show neq ((1:Nat),(((0:Int),((0:Int),(2:Int))),())).1 0=zf from rfl,TA,ac va vb hi k,UG,eY (cG a b i j).2.2 (cG a b i j).2.2 (show 2<=1000 by omega) (show 2<=1000 by omega),UG,WS,Wa,zx (show ¬ ¬ (cG a b i j).2.2=(cG a b i j).2.2 by simp),ab va vb hi k,UG];by_cases hd:i=a.length/\j=b.length
 ·rw[zy hd];rfl
 rw[zx hd];cases g:Za a b i j with
 |true=>
  rw[zy rfl]
  have m:i<a.length:=by
   refine nP λh'=> ?_;have p:j<b.length:=by omega
   simp_all[kz,a9]
  have e:a[i]?=zo (a[i]'m):=by simp
  refine Va (x:=(1,((0,(0,2)),()))) (WM (s1:=(0,(0,1))) (s2:=(0,(0,2))) ?_ ?_ rfl) rfl
  ·show br (UV (0:Int) 2) _ _=_;rw[Uo,zy (by omega),Ul,zy (by omega)];refine(X2 0 rfl (x:=(i:Int)) rfl).trans ?_;rw[Uk];by_cases f:i=0
   ·rw[zy (by omega)];rfl
   ·rw[zx (by omega)];obtain⟨y,d⟩:=lM va vb (l:=a) f hi;refine(X2 0 rfl (x:=a) rfl).trans ((X2 0 rfl (x:=(i:Int)) rfl).trans ?_);rw[show TM .i64 (i:Int) 1=((i-1:Nat):Int) by rw[Tq (by omega)];omega,U9,Ua d];refine(X2 0 rfl (x:=a) rfl).trans ((X2 0 rfl (x:=(i:Int)) rfl).trans ((X2 i rfl e).trans ?_));have c:=va.lt d (show a[i-1+1]?=zo _ by rw[show i-1+1=i by omega];exact e);rw[Zy,zx (by rw[WQ c];simp),Xr,zx (ai c)];rfl
  ·show br (UV (1:Int) 2) _ _=_;rw[Uo,zy (by omega),Ul,zy (by omega)];refine(X2 1 rfl (x:=(j:Int)) rfl).trans ?_;rw[Uk];by_cases f:j=0
   ·rw[zy (by omega)];rfl
   ·rw[zx (by omega)];obtain⟨y,d⟩:=lM va vb (l:=b) f k;refine(X2 1 rfl (x:=b) rfl).trans ((X2 1 rfl (x:=(j:Int)) rfl).trans ?_);rw[show TM .i64 (j:Int) 1=((j-1:Nat):Int) by rw[Tq (by omega)];omega,U9,Ua d];refine(X2 0 rfl (x:=a) rfl).trans ((X2 0 rfl (x:=(i:Int)) rfl).trans ((X2 i rfl e).trans ?_));have c:=I.pb (j-1) (by omega) y _ d e;rw[Zy,zx (by rw[WQ c];simp),Xr,zx (ai c)];rfl
 |false=>
  rw[zx (by simp)]
  have h:j<b.length:=by
   refine nP λh'=> ?_;have o:i<a.length:=by omega
   simp_all[ky]
  have e:b[j]?=zo (b[j]'h):=by simp
  refine Va (x:=(1,((0,(0,2)),()))) (WM (s1:=(0,(0,1))) (s2:=(0,(0,2))) ?_ ?_ rfl) rfl
  ·show br (UV (0:Int) 2) _ _=_;rw[Uo,zy (by omega),Ul,zy (by omega)];refine(X2 0 rfl (x:=(i:Int)) rfl).trans ?_;rw[Uk];by_cases f:i=0
   ·rw[zy (by omega)];rfl
   ·rw[zx (by omega)];obtain⟨y,d⟩:=lM va vb (l:=a) f hi;refine(X2 0 rfl (x:=a) rfl).trans ((X2 0 rfl (x:=(i:Int)) rfl).trans ?_);rw[show TM .i64 (i:Int) 1=((i-1:Nat):Int) by rw[Tq (by omega)];omega,U9,Ua d];refine(X2 1 rfl (x:=b) rfl).trans ((X2 1 rfl (x:=(j:Int)) rfl).trans ((X2 j rfl e).trans ?_));have q:=I.pa (i-1) (by omega) y _ d e;rw[Zy,zx (by grind),Xr];by_cases n:y.1=(b[j]'h).1
    ·rw[zy n];rfl
    ·rw[zx n];rfl
  ·show br (UV (1:Int) 2) _ _=_;rw[Uo,zy (by omega),Ul,zy (by omega)];refine(X2 1 rfl (x:=(j:Int)) rfl).trans ?_;rw[Uk];by_cases f:j=0
   ·rw[zy (by omega)];rfl
   ·rw[zx (by omega)];obtain⟨y,d⟩:=lM va vb (l:=b) f k;refine(X2 1 rfl (x:=b) rfl).trans ((X2 1 rfl (x:=(j:Int)) rfl).trans ?_);rw[show TM .i64 (j:Int) 1=((j-1:Nat):Int) by rw[Tq (by omega)];omega,U9,Ua d];refine(X2 1 rfl (x:=b) rfl).trans ((X2 1 rfl (x:=(j:Int)) rfl).trans ((X2 j rfl e).trans ?_));have c:=vb.lt d (show b[j-1+1]?=zo _ by rw[show j-1+1=j by omega];exact e);rw[Zy,zx (by rw[WQ c];simp),Xr,zx (ai c)];rfl
end
end
section
open Go Sv
section
variable{a b:List U7}(va:VL a)(vb:VL b)
include va vb
theorem oQ{n:Nat}{x:U7}(h:n<a.length+b.length)(d:dU a b n=zo x):Yp (bn a b n)=zo (x,((ei a b n:Int),(bn a b (n+1),0))):=by
 obtain⟨i,hs⟩:=X3 va vb (n:=n) (by omega);obtain⟨j,k⟩:=X3 va vb (n:=n+1) (by omega);have l:=va.len;have m:=vb.len;have e:=i.ia;have f:=i.jb;unfold Yp;rw[show bn a b n=cG a b (pos a b n).1 (pos a b n).2 from rfl,dI va vb i,UG,Uq,zy rfl,show(cG a b (pos a b n).1 (pos a b n).2).1=[a,b]from rfl,show(cG a b (pos a b n).1 (pos a b n).2).2.1=[((pos a b n).1:Int),((pos a b n).2:Int)]from rfl,ab va vb e f,UG,zx (λhh:(pos a b n).1=a.length/\(pos a b n).2=b.length=>by omega)];unfold dU at d;have c:pos a b (n+1)=if Za a b (pos a b n).1 (pos a b n).2=zt then((pos a b n).1+1,(pos a b n).2)else((pos a b n).1,(pos a b n).2+1):=rfl
 unfold bn ei;cases g:Za a b (pos a b n).1 (pos a b n).2 with
 |true=>
  rw[g,zy rfl]at c;rw[g,zy rfl]at d;have hi:=(a8.1 d).1;rw[zy rfl,Uo,zx (by omega),Vo (show AQ [((pos a b n).1:Int),((pos a b n).2:Int)]<=1048576 from(show 2<=1048576 by omega))];refine(bH 0 rfl (x:=((pos a b n).1:Int)) rfl).trans ((bH 0 rfl (x:=((pos a b n).1:Int)) rfl).trans ((X2 0 rfl (x:=a) rfl).trans ((X2 0 rfl (x:=((pos a b n).1:Int)) rfl).trans ((X2 _ rfl d).trans ?_))));rw[VG (by omega),show lset [((pos a b n).1:Int),((pos a b n).2:Int)] 0 (((pos a b n).1+1:Nat):Int)=[(((pos a b n).1+1:Nat):Int),((pos a b n).2:Int)]from rfl,ac va vb (by omega) f,UG,c];rfl
 |false=>
  rw[g,zx (by simp)]at c;rw[g,zx (by simp)]at d;have hi:=(a8.1 d).1;rw[zx (by simp),Uo,zx (by omega),Vo (show AQ [((pos a b n).1:Int),((pos a b n).2:Int)]<=1048576 from(show 2<=1048576 by omega))];refine(bH 1 rfl (x:=((pos a b n).2:Int)) rfl).trans ((bH 1 rfl (x:=((pos a b n).2:Int)) rfl).trans ((X2 1 rfl (x:=b) rfl).trans ((X2 1 rfl (x:=((pos a b n).2:Int)) rfl).trans ((X2 _ rfl d).trans ?_))));rw[VG (by omega),show lset [((pos a b n).1:Int),((pos a b n).2:Int)] 1 (((pos a b n).2+1:Nat):Int)=[((pos a b n).1:Int),(((pos a b n).2+1:Nat):Int)]from rfl,ac va vb e (by omega),UG,c];rfl
theorem oO{n:Nat}(h:n<=a.length+b.length):aU (bn a b n)=zo (((a.length+b.length-n:Nat):Int),0):=by
 obtain⟨c,hs⟩:=X3 va vb (n:=n) h;have f:=va.len;have g:=vb.len;have d:=c.ia;have e:=c.jb;unfold aU;rw[show bn a b n=cG a b (pos a b n).1 (pos a b n).2 from rfl,dI va vb c,UG,Uq,zy rfl];refine Va (x:=(0,((2,((a.length+b.length-n:Nat):Int)),()))) (WM (s1:=(1,(a.length:Int)-((pos a b n).1:Int))) (s2:=(2,((a.length+b.length-n:Nat):Int))) ?_ ?_ rfl) rfl
 ·refine(bh 0 rfl rfl (x:=a) rfl).trans ((X2 0 rfl (x:=((pos a b n).1:Int)) rfl).trans ?_);simp only[VE,VC];rw[show TI .i64 (0:Int) (a.length:Int)=(a.length:Int) by rw[To (by omega),xr],Tq (by omega)];rfl
 ·refine(bh 1 rfl rfl (x:=b) rfl).trans ((X2 1 rfl (x:=((pos a b n).2:Int)) rfl).trans ?_)
  grind [VE,VC,To,Tq,pos]
theorem lJ:ZK [a,b]=zo (VX a b (a.length+b.length),(Ze a b (a.length+b.length),0)):=by
 have l:=va.len;have m:=vb.len;unfold ZK;rw[cD va vb,UG,Uq,zy rfl];refine Eq.trans (b:=bd (loop _ ([],([],([],(0,([],[0,0])))))) _) rfl ?_
 refine Va (x:=(0,((Ze a b (a.length+b.length),(VX a b (a.length+b.length),0)),())))
  (aH (λk=>([],(VX a b k,([],(0,(Ze a b k,[((pos a b k).1:Int),((pos a b k).2:Int)])))))) 0 (a.length+b.length) rfl (by omega) (by omega) (λk _ h=> ?_) ?_) rfl
 ·obtain⟨x,c,_⟩:=XM va vb (n:=k) h;obtain⟨d,hs⟩:=X3 va vb (n:=k) (by omega);have i:(VX a b k).length=k:=WZ va vb (by omega);have j:=cz a b k;simp only;rw[ab va vb d.ia d.jb,UG,zx (λhh:(pos a b k).1=a.length/\(pos a b k).2=b.length=>by omega)];rw[Yd va vb c];unfold dU at c;rw[show Ze a b (k+1)=Ze a b k++[(ei a b k:Int)]from rfl];unfold ei;rw[show pos a b (k+1)=if Za a b (pos a b k).1 (pos a b k).2=zt then((pos a b k).1+1,(pos a b k).2)else((pos a b k).1,(pos a b k).2+1)from rfl]
  have e:∀ {β:Type} (y:U7) (q:Unit->Option β),gd (B2 (A0 (AQ (VX a b k)) (AQ [y])) 1048576) q=q ():=λy q=>Vo (by grind [A0,AQ,ci,co]) q;have f:∀ {β:Type} (y:Int) (q:Unit->Option β),gd (B2 (A0 (AQ (Ze a b k)) (AQ [y])) 1048576) q=q ():=λy q=>Vo (by grind [A0,AQ,ci,co]) q;cases g:Za a b (pos a b k).1 (pos a b k).2 with
  |true=>
   rw[g,zy rfl]at c;have hi:=(a8.1 c).1;simp only[if_true];rw[Uo,zx (by omega)];refine(X2 0 rfl (x:=a) rfl).trans ((bH 0 rfl (x:=((pos a b k).1:Int)) rfl).trans ((X2 _ rfl c).trans ?_));rw[e,f];refine(bH 0 rfl (x:=((pos a b k).1:Int)) rfl).trans ((bH 0 rfl (x:=((pos a b k).1:Int)) rfl).trans ?_);rw[VG (by omega)];rfl
  |false=>
   rw[g,zx (by simp)]at c;have hi:=(a8.1 c).1;simp only[l6,if_false];rw[Uo,zx (by omega)];refine(X2 1 rfl (x:=b) rfl).trans ((bH 1 rfl (x:=((pos a b k).2:Int)) rfl).trans ((X2 _ rfl c).trans ?_));rw[e,f];refine(bH 1 rfl (x:=((pos a b k).2:Int)) rfl).trans ((bH 1 rfl (x:=((pos a b k).2:Int)) rfl).trans ?_);rw[VG (by omega)];rfl
 ·obtain⟨d,hs⟩:=X3 va vb (n:=a.length+b.length) (eb _);simp only;rw[ab va vb d.ia d.jb,UG,zy (show(pos a b (a.length+b.length)).1=a.length/\(pos a b (a.length+b.length)).2=b.length by have:=d.ia;have:=d.jb;omega),Uo,zy (by omega)]
end
theorem iu{s:V4}(a:s.2.1.length<=32)(b:s.1=zf->s.2.1=[]):Z1 s=zo 0:=by
 unfold Z1;rw[Um,zx (by simp only[VE,ah];omega),Vp,Uw]
 simp_all[zx,Vp,Xr,zy]
theorem jp{s:V4}{x:U7}(e:s.2.1.length<=32)(f:s.1=zf->s.2.1=[])(g:kE x=0)(a:s.1=zt->TZ x.1 s.2.1=zf):aV (s,x)=zo (keep s x,((zt,(x.1,s.2.2)),0)):=by
 unfold aV keep;rw[iu e f,UG,Uk,zy rfl,cd,g,UG,Uk,zy rfl];obtain⟨s1,s2,c⟩:=s;obtain⟨h,i,d,j⟩:=x;simp only at a ⊢;cases s1 with
 |true=>
  have:=a rfl;simp only[Tj,Zy,this,l6,if_false,Uq,if_true,Vp,Xr];by_cases b:h=s2
  ·simp[b,TA]
  ·simp only[b,if_false,decide_false];cases c<;>cases d<;>rfl
 |false=>
  simp only[TA,Uq,if_true,Vp];cases c<;>cases d<;>rfl
theorem jj{l:List U7}{b:Bool}(r:l.length<=20000)(o:cq (zf,([],b)) l):Zg (l,b)=zo (Xq (zf,([],b)) l,(0,0)):=by
 unfold Zg Xg;simp only[VE,VC];rw[Um,zx (by omega),UG]
 rw[WL (l:=l) (σ:=V4×List U7) (s:=(0,(0,([],([],(0,(zf,([],b)))))))) (λk a=>((0:Int),((k:Int),(([]:List U7),(a.2,((0:Int),a.1))))))
  (λm k a=>cq a.1 m/\a.1.2.1.length<=32/\(a.1.1=zf->a.1.2.1=[])/\a.2.length<=k/\k+m.length=l.length)
  (λm k a=>(1,((0,((l.length:Int),([],(a.2++Xq a.1 m,(0,WR a.1 m))))),()))) ((zf,([],b)),[]) rfl (by omega) ⟨o,by simp,λ_=>rfl,by simp,by simp⟩ ?_ ?_,UG]
 ·simp;rfl
 ·simp_all[re,TA,WR,Xq]
 ·rintro k x m ⟨s,out⟩ t j n ⟨⟨c,d,e⟩,f,g,i,p⟩;simp only at c d e f g i ⊢;refine⟨((zt,(x.1,s.2.2)),out++if keep s x=zt then[x]else[]),?_,⟨e,eJ c,(λh=>by cases h),?_,by grind⟩,?_⟩
  ·rw[rl n,Tj,U9,Ua j,jp f g c d,UG,Uq,zy rfl,Uw,U9,Ua j];have q:∀ {β:Type} (k:Unit->Option β),gd (B2 (A0 out.length [x].length) 1048576) k=k ():=λk=>kw i (by omega) x k
   grind [VJ,If]
  ·grind
  grind [WR,Xq,gw]
section
variable{a b:List U7}(va:VL a)(vb:VL b)
include va vb
theorem fI(c:Bool){n:Nat}(h:n<=a.length+b.length):Xv (VX a b n,c)=zo (Xq (s0 c) (VX a b n),WR (s0 c) (VX a b n)):=by
 have f:=va.len;have g:=vb.len;have d:(VX a b n).length=n:=WZ va vb h;unfold Xv;simp only[VE,VC];rw[jj (by omega) (Y9 va vb c h),UG];unfold Xg;rw[UG,Um,d];cases n with
 |zero=>rfl
 |succ m=>
  obtain⟨x,e,_⟩:=XM va vb (n:=m) (by omega);rw[zy (by omega),show TM .i64 ((m+1:Nat):Int) 1=(m:Int) by rw[Tq (by omega)];omega,U9,Ua (x:=x) (by grind [aJ]),bC va vb c e]
theorem ir(c:Bool){n:Nat}(h:n<=a.length+b.length):Yq (Ww a b c n)=zo (n:Int):=by
 obtain⟨d,hs⟩:=X3 va vb (n:=n) h;have e:=va.len;have f:=vb.len;unfold Yq;refine Va (x:=(0,(((n:Int),2),()))) (WM (s1:=(((pos a b n).1:Int),1)) (s2:=((n:Int),2)) ?_ ?_ rfl) rfl
 ·refine(bh 0 rfl rfl (x:=((pos a b n).1:Int)) rfl).trans ?_;show zo (LR.nx (TI .i64 0 ((pos a b n).1:Int),(1:Int)))=_;rw[To (by omega),xr]
 ·refine(bh 1 rfl rfl (x:=((pos a b n).2:Int)) rfl).trans ?_
  grind [To,pos]
theorem iw(c:Bool){n:Nat}(h:n<=a.length+b.length):Z4 (Ww a b c n)=zo 0:=by
 obtain⟨d,hs⟩:=X3 va vb (n:=n) h;have g:=va.len;have i:=vb.len;have e:=aB (s0 c) (VX a b n);have f:(VX a b n).length=n:=WZ va vb h;unfold Z4;rw[show(Ww a b c n).1=cG a b (pos a b n).1 (pos a b n).2 from rfl,dI va vb d,UG,Uq,zy rfl,ir va vb c h,UG];simp only[VE,VC];rw[show(Ww a b c n).2.2.1=Xq (s0 c) (VX a b n)from rfl,show(Ww a b c n).2.2.2=(n:Int)from rfl,show(Ww a b c n).2.1=WR (s0 c) (VX a b n)from rfl,Um,zx (by omega),Um,zx (by omega),Uq,zy rfl];rw[show(cG a b (pos a b n).1 (pos a b n).2).1=[a,b]from rfl,lJ va vb,UG,U9];rw[Vo (by simp_all[WZ,eb]),Vo (iz _)];rw[show DV (VX a b (a.length+b.length)) 0 n=VX a b n from by simp_all[DV,tw,mR,ZN],Yy];rw[show(s0 c).2.2=c from rfl,fI va vb c h,UG,ZI,X6 _ _ (by omega),UG,WS,Wa,zx (by simp),Yy,Zq,Zq,ae];rfl
theorem cE(c:Bool){n:Nat}(h:n<=a.length+b.length):Vs (Ww a b c n)=zo (((a.length+b.length-n:Nat):Int),0):=by
 unfold Vs;rw[iw va vb c h,UG,Uq,zy rfl,show(Ww a b c n).1=bn a b n from rfl,oO va vb h];rfl
theorem eh(c:Bool){n:Nat}(h:n<=a.length+b.length){k:Nat}:Vj (Ww a b c n,(k:Int))=zo (Ww a b c (n+min k (a.length+b.length-n)),(((min k (a.length+b.length-n):Nat):Int),0)):=by
 have i:=va.len;have l:=vb.len;obtain⟨u,e⟩:∃ u,u=min k (a.length+b.length-n):=⟨_,rfl⟩
 have d:Uy (k:Int) ((a.length+b.length-n:Nat):Int)=(u:Int):=by
  unfold Uy;omega
 rw[<- e];unfold Vj;rw[cE va vb c h,UG,Uk,zy rfl];simp only[d,VE,VC];rw[Uo,zx (by omega),Uq,zy rfl,ir va vb c h,UG,To (by omega),Um,zx (by omega)]
 refine Va (x:=(0,(((u:Int),((bn a b (n+u)).1,((bn a b (n+u)).2.1,((bn a b (n+u)).2.2.1,((bn a b (n+u)).2.2.2.1,((bn a b (n+u)).2.2.2.2,((Ww a b c n).2.1.1,((Ww a b c n).2.1.2.1,((Ww a b c n).2.1.2.2,(Ww a b c n).2.2))))))))),())))
  (aH (λj=>((j:Int),((bn a b (n+j)).1,((bn a b (n+j)).2.1,((bn a b (n+j)).2.2.1,((bn a b (n+j)).2.2.2.1,((bn a b (n+j)).2.2.2.2,((Ww a b c n).2.1.1,((Ww a b c n).2.1.2.1,((Ww a b c n).2.1.2.2,(Ww a b c n).2.2)))))))))) 0 u rfl (by omega) (by omega) (λj _ g=> ?_) ?_) ?_
 ·obtain⟨y,f,_⟩:=XM va vb (n:=n+j) (by omega);show br (UV (j:Int) (u:Int)) _ _=_;rw[Uo,zy (by omega)];show bd (Yp (bn a b (n+j))) _=_;rw[oQ va vb (by omega) f,UG,VG (by omega)];rfl
 ·simp_all[Uo,zx]
 ·rw[show(Ww a b c n).1.1=[a,b]from rfl,lJ va vb,UG,show(Ww a b c n).2.2.2=(n:Int)from rfl,show TI .i64 (n:Int) (u:Int)=((n+u:Nat):Int) by rw[To (by omega)];omega,U9];rw[Vo (by rw[WZ va vb (eb _)];omega),Vo (iz _)];rw[show DV (VX a b (a.length+b.length)) 0 (n+u)=VX a b (n+u)from by unfold DV;rw[tw,mR];exact ZN va vb (by omega),show(Ww a b c n).2.1.2.2=c from Yy _ _,fI va vb c (by omega),UG];rfl
end
end
section
open Go Sv
theorem fi(B:Int)(i:Nat):Vn B (i+1)=2*Vn B i:=by
 grind [Vn,Int.pow_succ,Int.mul_assoc,Int.mul_comm]
theorem iv{B:Int}{i:Nat}(a:1<=B)(b:B<=16)(hi:i<=12):XV (B,(i:Int))=zo (Vn B i):=by
 unfold XV;refine Va (x:=(0,((Vn B i,(i:Int)),()))) (ZM (λk=>(Vn B k,(k:Int))) i (by simp[Vn]) (by omega) (λk d=> ?_) ?_) rfl
 ·have c:=jE a b (show k<=12 by omega);simp only;rw[Uo,zy (by omega),Tp (by omega),VG (by omega),fi]
 simp_all[Uo,zx]
theorem un(r:VU)(a:r.2.length<=9223372036854775807):ZE r=zo (if r.1<1\/r.1>1000000 then(-1,7)else Wu r.2):=by
 grind [ZE,Uo,Um,Y8,UG]
theorem oU(r:VU)(most:Int)(a:List Int)(p:r.2.length<=9223372036854775807)(hi:a.length<=1048576):X9 (r,(most,a))=zo (kR a most r):=by
 unfold X9 kR;rw[un r (by omega),UG];simp only[VE,VC];by_cases h:r.1<1\/r.1>1000000
 ·rw[zy h,zy h];rfl
 rw[zx h,zx h,Uq];by_cases b:(Wu r.2).2=0;rotate_left
 ·simp_all
 rw[zy b,zx (show ¬ (Wu r.2).2≠0 by simp[b]),Uk,Um];by_cases g:r.2.length=0
 ·simp_all
 rw[zx (by omega),zx g];by_cases c:(r.2.length:Int)>most
 ·simp_all
 rw[zx c,zx c]
 obtain⟨q,n,t⟩:=Xi (l:=a) (σ:=Unit) (s:=((0:Int),(0:Int))) (λk _=>((k:Int),(0:Int))) (λm k _=>r.1∈a<->r.1∈m) (λ(q:Nat×((Int×Int)×Unit))=>(q.1=1/\r.1 ∉ a)\/(q.1=0/\r.1∈a/\q.2.1.2=8))
  (f:=λs1=>br (UV s1.1 (a.length:Int)) (λ_=>S1 s1.1 λj=>ix a j λo=>br (PC o r.1) (λ_=>zo (.dn ((0,((s1.1,8),()))))) λ_=>zo (.nx (TI .i64 s1.1 1,s1.2))) λ_=>zo (.dn ((1,(s1,())))))
  () rfl (by omega) Iff.rfl (λ_ h=>⟨_,by simp only;rw[re];rfl,.inl ⟨rfl,by grind⟩⟩) (λk x m _ hd d i h=>by
   simp only;rw[rl i,Tj,U9,Ua d,Uk];by_cases e:x=r.1
   ·simp_all
   ·rw[zx e];exact .inl ⟨(),by rw[VJ d (by omega)],by grind⟩)
 refine Va n ?_;rw[UH]
 grind
theorem lN(L:VB)(hb:L.2.length<=9223372036854775807)(hr:∀ rs∈L.2,rs.length<=9223372036854775807 /\ ∀ r∈rs,r.2.length<=9223372036854775807):Wk L=zo (Wt L):=by
 unfold Wk Wt;simp only[VE,VC];rw[Uo,Um,Um];by_cases w:L.1<1
 ·simp_all
 rw[zx w];by_cases x:L.1>16
 ·simp_all
 rw[zx x,zx (show ¬ (L.1<1\/L.1>16) by omega)];by_cases Y:(L.2.length:Int)>12
 ·grind
 rw[zx Y,zx (by omega)];have Z:L.2.length<=12:=by omega
 obtain⟨T,M⟩:∃ T,T=bX L.1 0 [] L.2:=⟨_,rfl⟩;rw[<- M]
 have z:T=zn->(br (UT (L.2.length:Int) 0) (λ_=>S1 (TM .i64 (L.2.length:Int) 1) λB=>ix L.2 B λG=>br (PC (G.length:Int) 0) (λ_=>zo ((TM .i64 (L.2.length:Int) 1,((0:Int),(6:Int))))) λ_=>zo ((0,(0,0)))) λ_=>zo ((0,(0,0))))=zo (if L.2.getLast?=zo []then(((L.2.length-1:Nat):Int),(0,6))else(0,(0,0))):=by
  intro _;rw[Um];by_cases S:L.2=[]
  ·rw[S];rfl
  ·have hp:=dc.2 S;rw[zy (by omega),show TM .i64 (L.2.length:Int) 1=((L.2.length-1:Nat):Int) by rw[Tq (by omega)];omega,U9,ll];have d:L.2[L.2.length-1]?=zo (L.2[L.2.length-1]'(by omega)):=by simp
   rw[Ua d,d,Uk];by_cases he:L.2[L.2.length-1]'(by omega)=[]<;>simp_all
 obtain⟨r,E,g⟩:=Xi (l:=L.2) (σ:=List Int) (s:=((0:Int),(([]:List Int),((0:Int),((0:Int),(0:Int)))))) (λi a=>((0:Int),(a,((0:Int),((0:Int),(i:Int))))))
  (λm i a=>bX L.1 i a m=T/\a.length<=2*i) (λ(r:Nat×((Int×(List Int×(Int×(Int×Int))))×Unit))=>(r.1=1/\T=zn)\/(r.1=0/\Q1 T r.2.1.1 r.2.1.2.2.1 r.2.1.2.2.2.1/\T≠zn))
  (f:=λ(s0:(Int×((List Int)×(Int×(Int×Int)))))=>br (UV s0.2.2.2.2 (L.2.length:Int)) (λ_=>S1 s0.2.2.2.2 λk1=>ix L.2 k1 λu=>br (UT (u.length:Int) 2) (λ_=>zo (.dn ((0,((0,(s0.2.1,(s0.2.2.2.2,(3,s0.2.2.2.2)))),()))))) λ_=>bd (loop (λ(b:(Int×((List Int)×(Int×(Int×Int)))))=>br (UV b.2.2.2.2 (u.length:Int)) (λ_=>S1 b.2.2.2.2 λC=>ix u C λI=>bd (XV (L.1,s0.2.2.2.2)) λF=>bd (X9 ((I,(F,b.2.1)))) λo=>br (Sx o 0) (λ_=>zo (.dn ((0,((b.2.2.2.2,(b.2.1,(s0.2.2.2.2,(o,b.2.2.2.2)))),()))))) λ_=>S1 b.2.2.2.2 λD=>ix u D λp=>gd (B2 (A0 b.2.1.length [p.1].length) 1048576) λ_=>zo (.nx ((b.1,(If b.2.1 [p.1],(b.2.2.1,(b.2.2.2.1,TI .i64 b.2.2.2.2 1))))))) λ_=>zo (.dn ((1,(b,()))))) ((s0.1,(s0.2.1,(s0.2.2.1,(s0.2.2.2.1,0)))))) λc=>br (neq c.1 0) (λ_=>zo (.dn ((0,((c.2.1.1,(c.2.1.2.1,(c.2.1.2.2.1,(c.2.1.2.2.2.1,s0.2.2.2.2)))),()))))) λ_=>zo (.nx ((c.2.1.1,(c.2.1.2.1,(c.2.1.2.2.1,(c.2.1.2.2.2.1,TI .i64 s0.2.2.2.2 1))))))) λ_=>zo (.dn ((1,(s0,())))))
  [] rfl (by omega) ⟨M.symm,by simp⟩ (λa h=>by
   refine⟨_,by simp only;rw[re];rfl,.inl ⟨rfl,?_⟩⟩;rw[<- h.1];rfl) (λi rs m a hd d hi h=>by
   obtain⟨h,O⟩:=h;simp only;obtain⟨W,n⟩:=hr rs (bo d);rw[rl hi,Tj,U9,Ua d,Um];unfold bX at h;by_cases K:rs.length>2
   ·rw[zy (by omega)];rw[zy K]at h;refine .inr ⟨_,rfl,.inr ⟨rfl,?_,by grind⟩⟩;rw[<- h];exact⟨rfl,rfl,rfl⟩
   rw[zx (by omega)];rw[zx K]at h;obtain⟨U,N⟩:∃ U,U=bY (Vn L.1 i) 0 a rs:=⟨_,rfl⟩;rw[<- N]at h
   obtain⟨r,E,g⟩:=Xi (l:=rs) (σ:=Unit) (s:=((0:Int),(a,((0:Int),((0:Int),(0:Int)))))) (λk _=>((0:Int),(a++(rs.take k).map (·.1),((0:Int),((0:Int),(k:Int))))))
    (λm k _=>bY (Vn L.1 i) k (a++(rs.take k).map (·.1)) m=U) (λ(r:Nat×((Int×(List Int×(Int×(Int×Int))))×Unit))=>(r.1=1/\U=zn/\r.2.1=(0,(a++rs.map (·.1),(0,(0,(rs.length:Int))))))\/(r.1=0 /\ ∃ k e,U=zo (k,e)/\r.2.1.1=(k:Int)/\r.2.1.2.2.1=(i:Int)/\r.2.1.2.2.2.1=e))
    (f:=λ(b:(Int×((List Int)×(Int×(Int×Int)))))=>br (UV b.2.2.2.2 (rs.length:Int)) (λ_=>S1 b.2.2.2.2 λC=>ix rs C λI=>bd (XV (L.1,(i:Int))) λF=>bd (X9 ((I,(F,b.2.1)))) λo=>br (Sx o 0) (λ_=>zo (.dn ((0,((b.2.2.2.2,(b.2.1,((i:Int),(o,b.2.2.2.2)))),()))))) λ_=>S1 b.2.2.2.2 λD=>ix rs D λp=>gd (B2 (A0 b.2.1.length [p.1].length) 1048576) λ_=>zo (.nx ((b.1,(If b.2.1 [p.1],(b.2.2.1,(b.2.2.2.1,TI .i64 b.2.2.2.2 1))))))) λ_=>zo (.dn ((1,(b,())))))
    () (by simp) (by omega) (by simp[N]) (λ_ h=>by
     refine⟨_,by simp only;rw[re];rfl,.inl ⟨rfl,by rw[<- h];rfl,by simp⟩⟩) (λk r m _ hd d X h=>by
     simp only;have hr2:=n r (bo d);have A:(rs.take (k+1)).map (·.1)=(rs.take k).map (·.1)++[r.1]:=by grind
     have P:(a++(rs.take k).map (·.1)).length<=100:=by simp;omega
     rw[rl X,Tj,U9,Ua d,iv (by omega) (by omega) (by omega),UG,oU _ _ _ (by omega) (by omega),UG,Uq];unfold bY at h;by_cases J:kR (a++(rs.take k).map (·.1)) (Vn L.1 i) r=0
     ·rw[zx (λhh:kR (a++(rs.take k).map (·.1)) (Vn L.1 i) r≠0=>hh J)]at h;rw[zy J,U9,Ua d,Vo (by grind [A0,ci,co])];refine .inl ⟨(),?_,?_⟩
      ·rw[VJ d (by omega),A,<- gw];rfl
      simp_all
     grind)
   rw[E,UG,UH];rcases g with⟨g,j,q⟩|⟨g,k,e,j,q,q5,q6⟩
   ·rw[zx (show ¬ r.1=0 by omega),q,VJ d (by omega)]
    grind
   ·rw[zy g];rw[j]at h;refine .inr ⟨_,rfl,.inr ⟨rfl,?_,by grind⟩⟩;rw[<- h]
    exact⟨q,q5,q6⟩)
 refine Va E ?_;rw[UH];rcases g with⟨g,j⟩|⟨g,j,q⟩
 ·grind
 ·rw[zy g];cases y:T with
  |none=>simp_all
  |some t=>
   obtain⟨i,k,e⟩:=t;rw[y]at j;rw[j.1,j.2.1,j.2.2]
theorem jo(L:VB)(b:L.2.length<=1048576)(a:∀ rs∈L.2,rs.length<=1048576 /\ ∀ r∈rs,r.2.length<=9223372036854775807):Wk L=zo (Wt L):=lN L (by omega) λrs h=>⟨by grind,(a rs h).2⟩
def VT(ls:List (List VU)):List VU:=ls.flatMap List.reverse
theorem VLev.small{L:VB}(v:VLev L):L.2.length<=1048576 /\ ∀ rs∈L.2,rs.length<=1048576 /\ ∀ r∈rs,r.2.length<=9223372036854775807:=by
 refine⟨by have:=v.len;omega,λrs a=> ?_⟩;obtain⟨i,hi⟩:=ee a;obtain⟨d,b⟩:=v.lev i rs hi;exact⟨by omega,λr c=>by have:=(b r c).vl.len;omega⟩
theorem Zv:∀ (ls:List (List VU)),(∀ rs∈ls,rs.length<=2)->(VT ls).length<=2*ls.length
 |[],_=>by simp[VT]
 |rs::ls,h=>by
  have b:=Zv ls λr a=>h r (by simp[a])
  grind [VT,s6,List.length_reverse,ci]
theorem VLev.two{L:VB}(v:VLev L):∀ rs∈L.2,rs.length<=2:=λrs a=>by
 obtain⟨i,hi⟩:=ee a;exact(v.lev i rs hi).1
theorem cC{L:VB}(v:VLev L):XJ L=zo (VT L.2,0):=by
 obtain⟨d,b⟩:=v.small;have e:=v.len;unfold XJ;simp only[VE,VC];rw[jo _ d b,YC v,UG,Uq,zy rfl]
 rw[WL (l:=L.2) (σ:=List VU) (s:=(([]:List VU),(0:Int))) (λi m=>(m,(i:Int))) (λls i m=>(∀ rs∈ls,rs.length<=2)/\m.length<=2*i) (λls _ m=>(0,((m++VT ls,(L.2.length:Int)),()))) [] rfl (by omega) ⟨v.two,by simp⟩ (λm _=>by
  simp_all[re,TA,VT]) (λi rs ls m hd a hi h=>by
   refine⟨m++rs.reverse,?_,⟨λr b=>h.1 r (by simp[b]),by grind⟩,by simp[VT]⟩;have c:=h.1 rs (by simp);have f:m.length<=24:=by omega
   simp only;rw[rl hi,Tj,U9,Ua a];have gg:∀ {β:Type} (z:List VU) (x:VU) (k:Unit->Option β),z.length<=100->gd (B2 (A0 z.length [x].length) 1048576) k=k ():=λz x k g=>Vo (by grind [A0,ci,co]) k
   match rs,c,a with
   |[],_,a=>
    refine Va (x:=(0,((m,-1),()))) (WK (n:=1) (by omega) (Vm rfl)) ?_;rw[VJ a (by omega)];simp
   |[r0],_,a=>
    refine Va (x:=(0,((m++[r0],-1),()))) (WK (n:=2) (by omega) ((Vf (s':=(m++[r0],-1)) ?_).trans (Vm rfl))) ?_
    ·show br (Sw (0:Int) 0) _ _=_;rw[Ul,zy (by omega),U9,Ua a];refine(X2 0 rfl (x:=r0) rfl).trans ?_;rw[gg m _ _ (by omega)];rfl
    ·rw[VJ a (by omega)];simp
   |[r0,r1],_,a=>
    refine Va (x:=(0,((m++[r1]++[r0],-1),()))) (WK (n:=3) (by omega) ((Vf (s':=(m++[r1],0)) ?_).trans ((Vf (s':=(m++[r1]++[r0],-1)) ?_).trans (Vm rfl)))) ?_
    ·show br (Sw (1:Int) 0) _ _=_;rw[Ul,zy (by omega),U9,Ua a];refine(X2 1 rfl (x:=r1) rfl).trans ?_;rw[gg m _ _ (by omega)];rfl
    ·show br (Sw (0:Int) 0) _ _=_;rw[Ul,zy (by omega),U9,Ua a];refine(X2 0 rfl (x:=r0) rfl).trans ?_;rw[gg (m++[r1]) _ _ (by simp;omega)];rfl
    ·rw[VJ a (by omega)];simp),UG]
 simp
theorem Zu(a b:Int):Uz a b=max a b:=by unfold Uz;omega
theorem ZB:∀ (l:List VU) (m:Int),0<=m->l.foldl (λm r=>Uz m r.1) m=max m (l.foldl (λm r=>Uz m r.1) 0)
 |[],m,h=>by simp;omega
 |r::l,m,h=>by
  have a:=ZB l (Uz m r.1) (by rw[Zu];omega);have b:=ZB l (Uz 0 r.1) (by rw[Zu];omega);simp only[iP];rw[a,b,Zu,Zu];omega
theorem fD(l:List VU)(m:Int)(h:0<=m):l.reverse.foldl (λm r=>Uz m r.1) m=l.foldl (λm r=>Uz m r.1) m:=by
 induction l generalizing m with
 |nil=>rfl
 |cons r l a=>
  rw[List.reverse_cons,List.foldl_append,a m h,iP];simp only[iP,List.foldl_nil]
  grind [ZB,Uz,Zu]
theorem gD(l:List VU)(m:Int)(h:0<=m):0<=l.foldl (λm r=>Uz m r.1) m:=by
 rw[ZB l m h];omega
theorem ak:∀ (ls:List (List VU)) (m:Int),0<=m->(VT ls).foldl (λm r=>Uz m r.1) m=ls.foldl (λm rs=>rs.foldl (λm r=>Uz m r.1) m) m
 |[],m,_=>rfl
 |rs::ls,m,h=>by
  have a:=ak ls (rs.foldl (λm r=>Uz m r.1) m) (gD _ _ h)
  grind [VT,fD]
theorem gR{L:VB}(v:VLev L):YB L=zo (Wy L.2):=by
 have b:=v.len;have c:=Zv L.2 v.two;unfold YB;simp only[VE,VC];rw[cC v,UG]
 rw[WL (l:=VT L.2) (σ:=Int) (s:=((0:Int),(0:Int))) (λi m=>(m,(i:Int))) (λ_ _ _=>True) (λl _ m=>(0,((l.foldl (λm r=>Uz m r.1) m,((VT L.2).length:Int)),()))) 0 rfl (by omega) trivial (λm _=>by
  simp only;rw[re,TA];rfl) (λk r l m hd d a _=>⟨Uz m r.1,by
   grind [rl,Tj,U9,Ua,VJ],trivial,rfl⟩),UG]
 rw[ak _ _ (by omega)];rfl
theorem dg{L:VB}(d:L.2.length<=1000):WA L=zo (VF 0 L.2):=by
 unfold WA;simp only[VE,VC]
 rw[WL (l:=L.2) (σ:=List Int) (s:=(([]:List Int),(0:Int))) (λi m=>(m,(i:Int))) (λls i m=>m++VF i ls=VF 0 L.2) (λ_ _ _=>(0,((VF 0 L.2,(L.2.length:Int)),()))) [] rfl (by omega) rfl (λm h=>by
  simp_all[re,TA,VF]) (λi rs ls m hd b hi h=>by
   refine⟨m++(if rs.length=2 then[(i:Int)]else[]),?_,?_,rfl⟩
   ·simp only;rw[rl hi,Tj,U9,Ua b,Uk]
    have e:m.length<=1000:=by
     have a:=congrArg ox h;have c:=XE L.2 0
     grind
    by_cases a:rs.length=2
    ·rw[zy (by omega),zy a,Vo (by grind [A0,ci,co]),VJ b (by omega)];rfl
    ·rw[zx (by omega),zx a,gM,VJ b (by omega)]
   ·rw[gw];exact h),UG]
theorem yP{L:VB}(v:VLev L)(k:Int):bw (L,k)=zo (if k<0\/k>=12 then 7 else 0):=by
 obtain⟨a,b⟩:=v.small;unfold bw;rw[jo _ a b,YC v,UG,Uk,zy rfl,Uo,Ul]
 grind
theorem ec{L:VB}(v:VLev L){n:Nat}(b:n<L.2.length):V3 (L,(n:Int))=zo (decide ((n:Int)=(L.2.length:Int)-1)):=by
 have a:=v.len;unfold V3 bc;simp only[VE,VC];rw[yP v,UG,zx (by omega),Uq,zy rfl,UG,VG (by omega)];unfold UT
 grind [WS]
theorem jl{a b:List U7}(va:VL a)(d:VL b)(c:Bool):Z3 ([a,b],c)=zo (Ww a b c 0,(0,0)):=by
 unfold Z3 ba Xg;rw[cD va d,UG,Uq,zy rfl];refine Eq.trans (b:=bd (bd (Xf ([a,b],[((0:Nat):Int),((0:Nat):Int)])) _) _) rfl ?_;rw[ac va d (iz _) (iz _)];rfl
theorem fb{L:VB}{n:Nat}{a b:VU}(c:Bool)(h:L.2[n]?=zo [a,b])(v0:VL a.2)(v1:VL b.2):Vh (L,((n:Int),c))=zo ((n:Int),Ww b.2 a.2 c 0):=by
 have d:=(a8.1 h).1;unfold Vh;simp only[VE,VC];rw[Ul,zx (by omega),U9,Ua h,Ua (x:=b) rfl,Ua (x:=a) rfl,jl v1 v0];rfl
theorem uj{L:VB}{n:Nat}{a b:VU}{j:Job}(h:L.2[n]?=zo [a,b])(v0:VL a.2)(v1:VL b.2){β:Type}(A B:Option β) :
  (bd (Vh (L,((n:Int),j.2.2.1.2.2))) λc=>bd (Vs c.2) λd=>br (UV j.2.2.2.2 0) (λ_=>A) λ_=>br (UT j.2.2.2.2 d.1) (λ_=>A) λ_=>bd (Vj (c.2,j.2.2.2.2)) λe=>bd (Vw (e.1,j.2)) λf=>br (IG f) (λ_=>A) λ_=>B)
  = if j.2.2.2.2<0\/j.2.2.2.2>((b.2.length+a.2.length:Nat):Int)then A else if Ww b.2 a.2 j.2.2.1.2.2 j.2.2.2.2.toNat=j.2 then B else A:=by
 rw[fb _ h v0 v1,UG,cE v1 v0 _ (iz _),UG,Uo,Um,mR];by_cases g:j.2.2.2.2<0
 ·simp_all
 rw[zx g];by_cases i:j.2.2.2.2>((b.2.length+a.2.length:Nat):Int)
 ·simp_all
 rw[zx i,zx (show ¬ (j.2.2.2.2<0\/j.2.2.2.2>((b.2.length+a.2.length:Nat):Int)) by omega)];obtain⟨k,l⟩:∃ k:Nat,j.2.2.2.2=(k:Int):=⟨j.2.2.2.2.toNat,by omega⟩;rw[l,eh v1 v0 _ (iz _),UG,mR,hM,ta (by omega),bl];obtain⟨s1,s2,m,o,p,q⟩:=cu v1 v0 j.2.2.1.2.2 (n:=k) (by omega);rw[eX _ _ s1 s2 m o p q,UG,WS,Wa]
 simp_all
end
section
open Go Sv
theorem gS(s:U8)(U:s.1.2.length<=9223372036854775807)(hr:∀ rs∈s.1.2,rs.length<=9223372036854775807 /\ ∀ r∈rs,r.2.length<=9223372036854775807)(hj:s.2.1.length<=9223372036854775807):Xh s=zo (VA s):=by
 unfold Xh VA;simp only[VE,VC];rw[lN _ U hr,UG,Uk];by_cases e:(Wt s.1).2.2=0;rotate_left
 ·rw[zx e,zy e,Uk,zx e,Uq,zx e]
 rw[zy e,zx (show ¬ (Wt s.1).2.2≠0 by simp[e]),Uo,Um];have v:=Xz.1 e;by_cases x:s.2.2<1
 ·simp_all
 rw[zx x];by_cases m:s.2.2>1000001
 ·simp_all
 rw[zx m,zx (show ¬ (s.2.2<1\/s.2.2>1000001) by omega),Uk,zy e,gR v,UG,Un];by_cases y:s.2.2<=Wy s.1.2
 ·simp_all
 rw[zx y,zx y,Uq,zy e,dg (by have:=v.len;omega),UG];obtain⟨a,o⟩:∃ a,a=VF 0 s.1.2:=⟨_,rfl⟩;have hdl:a.length<=12:=by have:=XE s.1.2 0;have:=v.len;grind
 rw[<- o];obtain⟨T,S⟩:∃ T,T=Yc s.1 a 0 s.2.1:=⟨_,rfl⟩;rw[<- S]
 obtain⟨r,q1,C⟩:=Xi (l:=s.2.1) (σ:=Unit) (λi _=>((0:Int),((0:Int),(i:Int)))) (λjs i _=>Yc s.1 a i js=T) (λ(r:Nat×((Int×(Int×Int))×Unit))=>(T=zn/\r.1=1)\/(∃ i:Nat,T=zo i/\r.1=0/\r.2.1.1=6/\r.2.1.2.1=(i:Int)))
  (f:=λb=>br (UV b.2.2 (s.2.1.length:Int)) (λ_=>S1 b.2.2 λk7=>ix s.2.1 k7 λc=>br (Sw b.2.2 (a.length:Int)) (λ_=>zo (.dn ((0,((6,(b.2.2,b.2.2)),()))))) λ_=>S1 b.2.2 λk9=>ix a k9 λO=>br (Sx c.1 O) (λ_=>zo (.dn ((0,((6,(b.2.2,b.2.2)),()))))) λ_=>br c.2.2.1.2.2 (λ_=>bd (V3 (s.1,c.1)) λG=>br (IG G) (λ_=>zo (.dn ((0,((6,(b.2.2,b.2.2)),()))))) λ_=>bd (Vh ((s.1,(c.1,c.2.2.1.2.2)))) λu=>bd (Vs u.2) λI=>br (UV c.2.2.2.2 0) (λ_=>zo (.dn ((0,((6,(b.2.2,b.2.2)),()))))) λ_=>br (UT c.2.2.2.2 I.1) (λ_=>zo (.dn ((0,((6,(b.2.2,b.2.2)),()))))) λ_=>bd (Vj (u.2,c.2.2.2.2)) λJ=>bd (Vw (J.1,c.2)) λK=>br (IG K) (λ_=>zo (.dn ((0,((6,(b.2.2,b.2.2)),()))))) λ_=>zo (.nx ((b.1,(b.2.1,TI .i64 b.2.2 1))))) λ_=>bd (Vh ((s.1,(c.1,c.2.2.1.2.2)))) λw=>bd (Vs w.2) λL=>br (UV c.2.2.2.2 0) (λ_=>zo (.dn ((0,((6,(b.2.2,b.2.2)),()))))) λ_=>br (UT c.2.2.2.2 L.1) (λ_=>zo (.dn ((0,((6,(b.2.2,b.2.2)),()))))) λ_=>bd (Vj (w.2,c.2.2.2.2)) λM=>bd (Vw (M.1,c.2)) λN=>br (IG N) (λ_=>zo (.dn ((0,((6,(b.2.2,b.2.2)),()))))) λ_=>zo (.nx ((b.1,(b.2.1,TI .i64 b.2.2 1))))) λ_=>zo (.dn ((1,(b,())))))
  (s:=(0,(0,0))) () rfl (by omega) S.symm (λ_ h=>by
   refine⟨_,by simp only;rw[re];rfl,.inl ⟨by rw[<- h];rfl,rfl⟩⟩) (λi j js _ hd Z hi h=>by
   simp only;rw[rl hi,Tj,U9,Ua Z,Ul];unfold Yc at h
   have W:bW s.1 a i j=zt -> ∃ r:Nat×((Int×(Int×Int))×Unit),(zo (LR.dn ((0,((6,((i:Int),(i:Int))),()))):LR (Int×(Int×Int)) _))=zo (.dn r)/\((T=zn/\r.1=1)\/(∃ i:Nat,T=zo i/\r.1=0/\r.2.1.1=6/\r.2.1.2.1=(i:Int))):=λU=>by
    grind
   have E:bW s.1 a i j=zf -> ∃ st':Unit,(zo (LR.nx ((0:Int),((0:Int),TI .i64 (i:Int) 1))):Option (LR _ (Nat×((Int×(Int×Int))×Unit))))=zo (.nx ((0:Int),((0:Int),((i+1:Nat):Int))))/\Yc s.1 a (i+1) js=T:=λhg=>by
    rw[zx (by simp[hg])]at h;exact⟨(),by rw[VJ Z (by omega)],h⟩
   by_cases x:(i:Int)>=(a.length:Int)
   ·rw[zy x]
    grind [bW,a9]
   rw[zx x,U9];have D:a[i]?=zo (a[i]'(by omega)):=by simp
   rw[Ua D,Uq];obtain⟨n,X,q,t,g⟩:=ZY (ls:=s.1.2) (i:=0) (k:=i) (d:=a[i]'(by omega)) (by simp_all);rw[hM]at X
   have z:bW s.1 a i j=(if j.1≠(a[i]'(by omega))then zt else if j.2.2.1.2.2=zt/\j.1≠(s.1.2.length:Int)-1 then zt else if j.2.2.2.2<0\/j.2.2.2.2>((t.2.length+q.2.length:Nat):Int)then zt else decide (Ww t.2 q.2 j.2.2.1.2.2 j.2.2.2.2.toNat≠j.2)):=by
    grind [bW,bl]
   by_cases m:j.1=(a[i]'(by omega));rotate_left
   ·simp_all
   rw[zy m];rw[zx (by simp[m])]at z;have p:j.1=(n:Int):=by rw[m,X]
   have Y:=(v.lev n _ g).2;have v0:=(Y q (by simp)).vl;have v1:=(Y t (by simp)).vl;have F:=(a8.1 g).1;rw[p,ec v F,UG,WS,Wa,uj g v0 v1,Uw];rw[p]at z;by_cases y:j.2.2.1.2.2=zt/\(n:Int)≠(s.1.2.length:Int)-1
   ·simp_all
   rw[zx y]at z
   have h4:∀ {γ:Type} (A B:γ),(if j.2.2.1.2.2=zt then if ¬(n:Int)=(s.1.2.length:Int)-1 then A else B else B)=B:=by
    simp_all
   rw[h4];by_cases P:j.2.2.2.2<0\/j.2.2.2.2>((t.2.length+q.2.length:Nat):Int)
   ·simp_all
   rw[zx P];rw[zx P]at z;by_cases h6:Ww t.2 q.2 j.2.2.1.2.2 j.2.2.2.2.toNat=j.2
   all_goals simp_all)
 refine Va q1 ?_;rw[UH];rcases C with⟨C,q3⟩|⟨i,C,q3,q4,q5⟩
 ·rw[zx (show ¬ r.1=0 by omega),C,Uo]
  grind
 grind
theorem ip(s:U8)(b:s.1.2.length<=1048576)(a:∀ rs∈s.1.2,rs.length<=1048576 /\ ∀ r∈rs,r.2.length<=9223372036854775807)(c:s.2.1.length<=1048576):Xh s=zo (VA s):=gS s (by omega) (λrs h=>⟨by grind,(a rs h).2⟩) (by omega)
end
section
open Go Sv
def JobAt(L:VB)(n:Nat)(j:Job):Prop:=∃ a b c k,L.2[n]?=zo [a,b]/\j=((n:Int),Ww b.2 a.2 c k)/\k<=b.2.length+a.2.length/\(c=zt->n+1=L.2.length)/\VL a.2/\VL b.2
structure VSt (s:U8):Prop where
 lev:VLev s.1
 n1:1<=s.2.2
 n2:s.2.2<=1000001
 n3:Wy s.1.2<s.2.2
 due:s.2.1.map (·.1)=VF 0 s.1.2
 job:∀ j∈s.2.1,∃ n,JobAt s.1 n j
theorem di(a b:List U7)(c:Bool)(k:Nat):(Ww a b c k).2.1.2.2=c:=by
 show(WR (s0 c) (VX a b k)).2.2=c;rw[Yy]
theorem eG{L:VB}(v:VLev L){i:Nat}{j:Job}:bW L (VF 0 L.2) i j=zf <-> ∃ n,(VF 0 L.2)[i]?=zo j.1/\JobAt L n j:=by
 constructor
 ·intro h;unfold bW at h;cases hd:(VF 0 L.2)[i]? with
  |none=>simp_all
  |some d=>
   rw[hd]at h;simp only at h;by_cases e:j.1=d;rotate_left
   ·simp_all
   rw[zx (by simp[e])]at h;by_cases m:j.2.2.1.2.2=zt/\j.1≠(L.2.length:Int)-1
   ·simp_all
   rw[zx m]at h;obtain⟨n,f,a,b,c⟩:=ZY hd;rw[hM]at f;rw[f,bl,c]at h;simp only at h;by_cases o:j.2.2.2.2<0\/j.2.2.2.2>((b.2.length+a.2.length:Nat):Int)
   ·grind
   rw[zx o]at h;have p:Ww b.2 a.2 j.2.2.1.2.2 j.2.2.2.2.toNat=j.2:=by grind
   have l:=(v.lev n _ c).2;refine⟨n,by rw[e],a,b,j.2.2.1.2.2,j.2.2.2.2.toNat,c,Prod.ext (by rw[e,f]) p.symm,by omega,λq=> ?_,(l a (by simp)).vl,(l b (by simp)).vl⟩
   grind
 ·rintro⟨n,hd,a,b,g,k,c,rfl,r,q,v0,v1⟩;unfold bW;rw[hd];simp only;rw[zx (by simp),di,zx (λh:g=zt/\(n:Int)≠(L.2.length:Int)-1=>h.2 (by grind)),bl,c];simp only;rw[show(Ww b.2 a.2 g k).2.2.2=(k:Int)from rfl,zx (by omega),bl];simp
theorem bB{L:VB}{a:List Int}:∀ {js:List Job} {i:Nat},Yc L a i js=zn <-> ∀ k j,js[k]?=zo j->bW L a (i+k) j=zf
 |[],i=>by simp[Yc]
 |j::js,i=>by
  unfold Yc;by_cases h:bW L a i j=zt
  ·rw[zy h];simp only[reduceCtorEq,false_iff];intro b;have:=b 0 j rfl
   grind
  ·rw[zx h,bB (js:=js)];constructor
   ·grind
   ·intro b k j' c;rw[show i+1+k=i+(k+1) by omega];exact b (k+1) j' c
theorem VH{s:U8}:(VA s).2=0<->VSt s:=by
 unfold VA;constructor
 ·intro h;by_cases c:(Wt s.1).2.2≠0
  ·simp_all
  rw[zx c]at h;have v:=Xz.1 (Decidable.not_not.1 c);by_cases d:s.2.2<1\/s.2.2>1000001
  ·simp_all
  rw[zx d]at h;by_cases e:s.2.2<=Wy s.1.2
  ·simp_all
  rw[zx e]at h;cases b:Yc s.1 (VF 0 s.1.2) 0 s.2.1 with
  |some i=>simp_all
  |none=>
   rw[b]at h;simp only at h;by_cases o:s.2.1.length<(VF 0 s.1.2).length
   ·simp_all
   have f:=bB.1 b
   have g:∀ k j,s.2.1[k]?=zo j -> ∃ n,(VF 0 s.1.2)[k]?=zo j.1/\JobAt s.1 n j:=λk j a=>by
    have:=f k j a;rw[hM]at this;exact(eG v).1 this
   refine⟨v,by omega,by omega,by omega,?_,λj l=> ?_⟩
   ·apply xw
    grind
   ·obtain⟨k,a⟩:=ee l
    grind
 ·intro v;rw[zx (by simp[Xz.2 v.lev]),zx (by have:=v.n1;have:=v.n2;omega),zx (by have:=v.n3;omega)]
  have b:Yc s.1 (VF 0 s.1.2) 0 s.2.1=zn:=bB.2 λk j a=>by
   rw[hM];obtain⟨n,m⟩:=v.job j (bo a);exact(eG v.lev).2 ⟨n,by rw[<- v.due,lc,a];rfl,m⟩
  rw[b];simp only;rw[zx (by rw[<- v.due];simp)]
structure Sm (s:U8):Prop where
 lv:s.1.2.length<=1048576
 rs:∀ rs∈s.1.2,rs.length<=1048576 /\ ∀ r∈rs,r.2.length<=9223372036854775807
 js:s.2.1.length<=1048576
theorem wy{s:U8}(m:Sm s):V6 s=zo (VA s):=jX s m.lv m.rs m.js
theorem AAk{s:U8}(m:Sm s):Xh s=zo (VA s):=ip s m.lv m.rs m.js
theorem VSt.jlen{s:U8}(v:VSt s):s.2.1.length=(VF 0 s.1.2).length:=by rw[<- v.due];simp
theorem VSt.jsmall{s:U8}(v:VSt s):s.2.1.length<=12:=by
 have:=v.jlen;have:=XE s.1.2 0;have:=v.lev.len;omega
theorem VSt.sm{s:U8}(v:VSt s):Sm s:=⟨v.lev.small.1,v.lev.small.2,by have:=v.jsmall;omega⟩
def cJ(x:Int):Nat->List Int->Option Nat
 |_,[]=>zn
 |k,y::l=>if y=x then zo k else cJ x (k+1) l
theorem jU{x:Int}:∀ {l:List Int} {k i:Nat},cJ x k l=zo i->k<=i/\l[i-k]?=zo x
 |[],_,_,h=>by cases h
 |y::l,k,i,h=>by
  unfold cJ at h;by_cases e:y=x
  ·simp_all
  ·rw[zx e]at h;obtain⟨a,b⟩:=jU h
   grind
theorem gC{x:Int}:∀ {l:List Int} {k:Nat},x∈l -> ∃ i,cJ x k l=zo i
 |[],_,h=>by cases h
 |y::l,k,h=>by
  unfold cJ;by_cases e:y=x
  ·simp_all
  ·rw[zx e];exact gC (by grind)
def Zr(s:U8)(a:Int):Int×Int:=if(VA s).2≠0 then(0,(VA s).2)else match cJ a 0 (VF 0 s.1.2)with
 |some i=>((i:Int),0)
 |none=>(0,4)
theorem gB{s:U8}(m:Sm s)(a:Int):Ye (s,a)=zo (Zr s a):=by
 unfold Ye Zr;simp only[VE,VC];rw[wy m,UG,Uq];by_cases c:(VA s).2=0;rotate_left
 ·simp_all
 rw[zy c,zx (show ¬ (VA s).2≠0 by simp[c])];have v:=VH.1 c;have w:=v.jsmall;rw[<- v.due];obtain⟨T,g⟩:∃ T,T=cJ a 0 (s.2.1.map (·.1)):=⟨_,rfl⟩;rw[<- g]
 obtain⟨r,q,b⟩:=Xi (l:=s.2.1) (σ:=Unit) (s:=((0:Int),(0:Int))) (λk _=>((0:Int),(k:Int))) (λjs k _=>cJ a k (js.map (·.1))=T) (λ(r:Nat×((Int×Int)×Unit))=>(r.1=1/\T=zn)\/(r.1=0 /\ ∃ i:Nat,T=zo i/\r.2.1.1=(i:Int)))
  (f:=λs1=>br (UV s1.2 (s.2.1.length:Int)) (λ_=>S1 s1.2 λp=>ix s.2.1 p λu=>br (PC u.1 a) (λ_=>zo (.dn ((0,((s1.2,s1.2),()))))) λ_=>zo (.nx (s1.1,TI .i64 s1.2 1))) λ_=>zo (.dn ((1,(s1,())))))
  () rfl (by omega) g.symm (λ_ h=>⟨_,by simp only;rw[re];rfl,.inl ⟨rfl,by rw[<- h];rfl⟩⟩) (λk j js _ hd n o h=>by
   simp only;rw[rl o,Tj,U9,Ua n,Uk];unfold cJ at h;simp only[hI]at h;by_cases e:j.1=a
   ·grind
   ·rw[zx e];rw[zx e]at h
    exact .inl ⟨(),by rw[VJ n (by omega)],h⟩)
 refine Va q ?_;rw[UH];rcases b with⟨b,d⟩|⟨b,i,d,t⟩
 ·rw[zx (show ¬ r.1=0 by omega),d];rfl
 ·rw[zy b,d,t,Uo,zx (by omega)]
theorem iq{s:U8}(m:Sm s):YY s=zo (if(VA s).2≠0 then([],(VA s).2)else(VF 0 s.1.2,0)):=by
 unfold YY;rw[AAk m,UG,Uq];by_cases a:(VA s).2=0
 ·rw[zy a,zx (show ¬ (VA s).2≠0 by simp[a]),dg (by have:=(VH.1 a).lev.len;omega),UG]
 simp_all
theorem bJ{s:U8}(m:Sm s)(a:Int):WI (s,a)=zo (Zr s a):=by
 unfold WI Zr;simp only[VE,VC];rw[iq m,UG,Uq];by_cases d:(VA s).2=0;rotate_left
 ·simp_all
 rw[zx (show ¬ (VA s).2≠0 by simp[d]),zy rfl,zx (show ¬ (VA s).2≠0 by simp[d])];have v:=VH.1 d;have u:=v.jsmall;have hd:=v.jlen;obtain⟨b,c⟩:∃ b,b=VF 0 s.1.2:=⟨_,rfl⟩;rw[<- c]at hd ⊢;obtain⟨T,g⟩:∃ T,T=cJ a 0 b:=⟨_,rfl⟩;rw[<- g];simp only
 obtain⟨r,q,w⟩:=Xi (l:=b) (σ:=Unit) (s:=((0:Int),((0:Int),(0:Int)))) (λk _=>((0:Int),((0:Int),(k:Int)))) (λjs k _=>cJ a k js=T) (λ(r:Nat×((Int×(Int×Int))×Unit))=>(r.1=1/\T=zn)\/(r.1=0 /\ ∃ i:Nat,T=zo i/\r.2.1.2.1=(i:Int)/\r.2.1.1=0))
  (f:=λs1=>br (UV s1.2.2 (b.length:Int)) (λ_=>S1 s1.2.2 λp=>ix b p λt=>br (PC t a) (λ_=>zo (.dn ((0,((0,(s1.2.2,s1.2.2)),()))))) λ_=>zo (.nx ((s1.1,(s1.2.1,TI .i64 s1.2.2 1))))) λ_=>zo (.dn ((1,(s1,())))))
  () rfl (by omega) g.symm (λ_ h=>⟨_,by simp only;rw[re];rfl,.inl ⟨rfl,by rw[<- h];rfl⟩⟩) (λk j js _ hd n o h=>by
   simp only;rw[rl o,Tj,U9,Ua n,Uk];unfold cJ at h;by_cases e:j=a
   ·grind
   ·rw[zx e];rw[zx e]at h
    exact .inl ⟨(),by rw[VJ n (by omega)],h⟩)
 refine Va q ?_;rw[UH]
 grind
end
section
open Go Sv
def VW(L:VB)(j:Job):Nat:=match L.2[j.1.toNat]? with
 |some [r0,r1]=>r1.2.length+r0.2.length-j.2.2.2.2.toNat
 |_=>0
def YJ(L:VB)(j:Job):Bool:=decide ((j.2.2.2.1.length:Int)<=Vn L.1 j.1.toNat)
def aM(L:VB)(n:Nat):Bool:=decide (n<12/\((L.2[n]?).getD []).length<2)
def Xo(L:VB)(j:Job):Bool:=decide (0<VW L j)||(YJ L j||aM L (j.1.toNat+1))
def dZ(s:U8)(a:Int):Option Job:=match cJ a 0 (VF 0 s.1.2)with
 |some i=>s.2.1[i]?
 |none=>zn
theorem VSt.at{s:U8}(v:VSt s){a:Int}{i:Nat}(h:cJ a 0 (VF 0 s.1.2)=zo i):∃ (j:Job) (n:Nat),s.2.1[i]?=zo j/\a=(n:Int)/\j.1=(n:Int)/\JobAt s.1 n j/\n<s.1.2.length:=by
 obtain⟨_,b⟩:=jU h;rw[mR]at b;rw[<- v.due,lc]at b;cases c:s.2.1[i]? with
 |none=>simp_all
 |some j=>
  rw[c]at b;simp only[pg,Option.some.injEq]at b;obtain⟨n,d⟩:=v.job j (bo c);have f:=d;obtain⟨m,o,g,k,l,e,_⟩:=d
  grind
theorem JobAt.left{L:VB}{n:Nat}{j:Job}(h:JobAt L n j):V0 j.2=zo ((VW L j:Int),0)/\Vs j.2=zo ((VW L j:Int),0)/\VW L j<=10000:=by
 obtain⟨c,d,a,k,f,rfl,b,_,v0,v1⟩:=h;have g:=v0.len;have i:=v1.len
 have e:VW L ((n:Int),Ww d.2 c.2 a k)=d.2.length+c.2.length-k:=by
  unfold VW;simp only[bl,f];rfl
 rw[e];exact⟨dK v1 v0 a b,cE v1 v0 a b,by omega⟩
theorem dD{L:VB}(v:VLev L){n:Nat}(c:n<12):YL (L.1,(n:Int))=zo (Vn L.1 n,0):=by
 have a:=v.B1;have b:=v.B2;unfold YL;rw[Uo,zx (by omega),Um,zx (by omega),Uo,zx (by omega),Ul,zx (by omega),c0 a b (by omega)];rfl
theorem ij{L:VB}(v:VLev L){n:Nat}(c:n<12):Ys (L.1,(n:Int))=zo (Vn L.1 n,0):=by
 have a:=v.B1;have b:=v.B2;unfold Ys;rw[Uo,zx (by omega),Um,zx (by omega),Uo,zx (by omega),Ul,zx (by omega),iv a b (by omega),UG]
theorem gN{L:VB}(v:VLev L)(k:Int):Yf (L,k)=zo (if k<0\/k>=12 then 7 else 0):=by
 obtain⟨a,b⟩:=v.small;unfold Yf;rw[Zk _ a b,YC v,UG,Uq,zy rfl,Uo,Ul]
 grind
theorem nv(l:List VU):UV (l.length:Int) 2=decide (l.length<2):=by
 unfold UV
 grind
theorem dC{L:VB}(v:VLev L){n:Nat}(c:n<=12):Wi (L,(n:Int))=zo (aM L n,if n>=12 then 7 else 0):=by
 unfold Wi aM;simp only[VE,VC];rw[gN v,UG,Uq];by_cases h:n>=12
 ·grind
 ·rw[zx (show ¬ ((n:Int)<0\/(n:Int)>=12) by omega),zy rfl,zx h,Uo];have a:n<12:=by omega
  by_cases b:n<L.2.length
  ·simp_all[zy,U9,Ua,nv,hU]
  simp_all[zx,a9]
theorem oY{s:U8}(v:VLev s.1){n:Nat}(c:n<12):aZ (s,(n:Int))=zo (aM s.1 (n+1)):=by
 unfold aZ aM;simp only[VE,VC];rw[VG (by omega),Uo];by_cases h:n+1<12
 ·rw[zy (by omega),Ul];by_cases b:n+1<s.1.2.length
  ·have a:s.1.2[n+1]?=zo (s.1.2[n+1]'b):=by simp
   rw[zx (by omega),U9,Ua a,a,nv,hU];simp[h]
  ·rw[zy (by omega),a9 (by omega)];simp[h]
 grind
abbrev ABV:=U8×(Job×Int)
theorem fA{s:U8}(v:VLev s.1){n:Nat}{j:Job}(a:j.1=(n:Int))(b:n<12)(l:Int):Vv (s,(j,l))=zo (YJ s.1 j):=by
 unfold Vv YJ;simp only[VE,VC];rw[a,dD v b,UG,Uk,zy rfl,bl];rfl
theorem fc{s:U8}(v:VLev s.1){n:Nat}{j:Job}(a:j.1=(n:Int))(b:n<12):YR (s,j)=zo (YJ s.1 j):=by
 unfold YR YJ;simp only[VE,VC];rw[a,ij v b,UG,bl];rfl
theorem oV{s:U8}(v:VLev s.1){n:Nat}{j:Job}(a:j.1=(n:Int))(b:n<12)(l:Int):W2 (s,(j,l))=zo (aM s.1 (n+1)):=by
 unfold W2;simp only;rw[a,VG (by omega),dC v (by omega),UG,Uk];by_cases h:n+1>=12
 ·rw[zy h,zx (show ¬ (7:Int)=0 by decide)];unfold aM;simp;omega
 simp_all
theorem fu{s:U8}(v:VLev s.1){n:Nat}{j:Job}(a:j.1=(n:Int))(b:n<12)(l:Nat)(g:l=VW s.1 j):V2 (s,(j,(l:Int)))=zo (Xo s.1 j):=by
 have c:Vg (s,(j,(l:Int)))=zo (decide (0<VW s.1 j)):=by
  simp_all[Vg,UT]
 have e1:=fA v a b (l:Int);have e2:=oV v a b (l:Int);unfold V2 Xo;rw[c,e1,e2,a,bl];simp only[UG];cases d:decide (0<VW s.1 j)with
 |true=>rfl
 |false=>
  cases e:YJ s.1 j with
  |true=>rfl
  |false=>
   cases f:aM s.1 (n+1)with
   |true=>rfl
   |false=>rfl
end
section
open Go Sv
def YG{α:Type}(z:α)(f:U8->Job->α×Int)(s:U8)(a:Int):α×Int:=if(VA s).2≠0 then(z,(VA s).2)else match dZ s a with
 |some j=>f s j
 |none=>(z,4)
def z0:ABV:=(((0,[]),([],0)),((0,(([],([],([],([],0)))),((zf,([],zf)),([],0)))),0))
theorem gy{s:U8}(m:Sm s)(a:Int):Wf (s,a)=zo (YG z0 (λs j=>((s,(j,(VW s.1 j:Int))),0)) s a):=by
 unfold Wf;rw[gB m,UG];unfold YG dZ Zr;by_cases b:(VA s).2=0;rotate_left
 ·rw[zy b,Uq,zx b,zy b];rfl
 rw[zx (show ¬ (VA s).2≠0 by simp[b]),zx (show ¬ (VA s).2≠0 by simp[b])];have v:=VH.1 b;cases e:cJ a 0 (VF 0 s.1.2)with
 |none=>rfl
 |some i=>
  obtain⟨j,n,c,g,f,d,h⟩:=v.at e;simp only;rw[Uq,zy rfl,U9,Ua c,c,(JobAt.left d).1,UG]
theorem we{s:U8}(m:Sm s)(a:Int):ZC (s,a)=zo (YG zf (λs j=>(Xo s.1 j,0)) s a):=by
 unfold ZC;rw[gy m,UG];unfold YG;by_cases b:(VA s).2=0;rotate_left
 ·simp_all[zy,Uq,zx]
 rw[zx (show ¬ (VA s).2≠0 by simp[b]),zx (show ¬ (VA s).2≠0 by simp[b])];have v:=VH.1 b;unfold dZ;cases d:cJ a 0 (VF 0 s.1.2)with
 |none=>rfl
 |some i=>
  obtain⟨j,n,e,g,c,f,h⟩:=v.at d;have:=v.lev.len;simp only[e];rw[Uq,zy rfl,fu v.lev c (by omega) _ rfl,UG]
theorem aL{s:U8}(m:Sm s)(a:Int):Wh (s,a)=zo (YG 0 (λs j=>((VW s.1 j:Int),0)) s a):=by
 unfold Wh;rw[bJ m,UG];unfold YG dZ Zr;by_cases b:(VA s).2=0;rotate_left
 ·simp_all[zy,Uq,zx]
 rw[zx (show ¬ (VA s).2≠0 by simp[b]),zx (show ¬ (VA s).2≠0 by simp[b])];have v:=VH.1 b;cases e:cJ a 0 (VF 0 s.1.2)with
 |none=>rfl
 |some i=>
  obtain⟨j,n,c,g,f,d,h⟩:=v.at e;simp only[c];rw[Uq,zy rfl,U9,Ua c,(JobAt.left d).2.1,UG]
theorem gQ{s:U8}(m:Sm s)(a:Int):Yg (s,a)=zo (YG zf (λs j=>(Xo s.1 j,0)) s a):=by
 unfold Yg;rw[aL m,UG,bJ m,UG];unfold YG;by_cases c:(VA s).2=0;rotate_left
 ·simp_all[zy,Uq,zx]
 rw[zx (show ¬ (VA s).2≠0 by simp[c]),zx (show ¬ (VA s).2≠0 by simp[c])];have v:=VH.1 c;unfold dZ Zr;cases f:cJ a 0 (VF 0 s.1.2)with
 |none=>rfl
 |some i=>
  obtain⟨j,n,d,g,b,h,k⟩:=v.at f;have:=v.lev.len;rw[zx (show ¬ (VA s).2≠0 by simp[c])];simp only[d];rw[Uq,zy rfl,Um,U9,Ua d,fc v.lev b (by omega),UG,g,oY v.lev (by omega),UG];unfold Xo;rw[b,bl];by_cases e:0<VW s.1 j
  ·simp_all
  ·rw[zx (by omega)];cases YJ s.1 j<;>simp[e,Tj,TA]
def cp(s:U8)(j:Job):Int×Int:=if 0<VW s.1 j then(0,9)else if YJ s.1 j=zt then(j.1,0)else(j.1+1,0)
theorem yW{s:U8}(m:Sm s)(a:Int):aD (s,a)=zo (YG 0 cp s a):=by
 unfold aD;rw[gy m,UG];unfold YG;by_cases c:(VA s).2=0;rotate_left
 ·simp_all[zy,Uq,zx]
 rw[zx (show ¬ (VA s).2≠0 by simp[c]),zx (show ¬ (VA s).2≠0 by simp[c])];have v:=VH.1 c;unfold dZ;cases e:cJ a 0 (VF 0 s.1.2)with
 |none=>rfl
 |some i=>
  obtain⟨j,n,f,g,b,h,k⟩:=v.at e;have:=v.lev.len;simp only[f];unfold Vg cp;rw[Uq,zy rfl,UG,Um,fA v.lev b (by omega),UG,g,VG (by omega),b];by_cases d:0<VW s.1 j
  ·simp_all
  ·rw[zx (show ¬ ((VW s.1 j:Int))>0 by omega),zx d,Uw]
   grind
theorem jk{s:U8}(m:Sm s)(a:Int):Zh (s,a)=zo (YG 0 cp s a):=by
 unfold Zh;rw[aL m,UG,bJ m];unfold YG;by_cases c:(VA s).2=0;rotate_left
 ·simp_all[zy,Uk,zx,Uq]
 rw[zx (show ¬ (VA s).2≠0 by simp[c]),zx (show ¬ (VA s).2≠0 by simp[c])];have v:=VH.1 c;unfold dZ Zr;cases f:cJ a 0 (VF 0 s.1.2)with
 |none=>rfl
 |some i=>
  obtain⟨j,n,d,g,b,h,k⟩:=v.at f;have:=v.lev.len;rw[zx (show ¬ (VA s).2≠0 by simp[c])];simp only[d];unfold cp;rw[Uk,zy rfl,Um];by_cases e:0<VW s.1 j
  ·simp_all
  ·rw[zx (show ¬ ((VW s.1 j:Int))>0 by omega),zx e,Uq,zy rfl,UG,U9,Ua d,fc v.lev b (by omega),UG,Uw,g,VG (by omega),b]
   grind
theorem ug{s:U8}(m:Sm s):Yh s=zo (if(VA s).2≠0 then([],(VA s).2)else(VF 0 s.1.2,0)):=by
 unfold Yh;simp only[VE,VC];rw[wy m,UG,Uq];by_cases a:(VA s).2=0;rotate_left
 ·simp_all
 rw[zy a,zx (show ¬ (VA s).2≠0 by simp[a])];have e:=(VH.1 a).lev.len
 rw[WL (l:=s.1.2) (σ:=List Int) (s:=((0:Int),([]:List Int))) (λi m=>((i:Int),m)) (λls i m=>m++VF i ls=VF 0 s.1.2) (λ_ _ _=>(0,(((s.1.2.length:Int),VF 0 s.1.2),()))) [] rfl (by omega) rfl (λm h=>by
  simp_all[re,TA,VF]) (λi rs ls m hd c hi h=>by
   refine⟨m++(if rs.length=2 then[(i:Int)]else[]),?_,?_,rfl⟩
   ·simp only;rw[rl hi,Tj,U9,Ua c,Uk]
    have f:m.length<=1000:=by
     have b:=congrArg ox h;have d:=XE s.1.2 0
     grind
    by_cases b:rs.length=2
    ·rw[zy (by omega),zy b,Vo (by grind [A0,ci,co]),VJ c (by omega)];rfl
    ·rw[zx (by omega),zx b,gM,VJ c (by omega)]
   ·rw[gw];exact h),UG]
def Xu(s:U8):List Int->Option Int
 |[]=>zn
 |d::l=>if(YG zf (λs j=>(Xo s.1 j,0)) s d).1=zt then zo d else Xu s l
def Wr(s:U8):Int×Int:=if(VA s).2≠0 then(0,(VA s).2)else if VF 0 s.1.2=[]then(0,4)else match Xu s (VF 0 s.1.2)with
 |some d=>(d,0)
 |none=>(0,9)
theorem VSt.atDue{s:U8}(v:VSt s){d:Int}(h:d∈VF 0 s.1.2):∃ (j:Job) (n:Nat),dZ s d=zo j/\d=(n:Int)/\j.1=(n:Int)/\JobAt s.1 n j/\n<s.1.2.length:=by
 obtain⟨i,a⟩:=gC (k:=0) h;obtain⟨j,n,e,f,b,c,g⟩:=v.at a
 grind [dZ]
theorem uD{s:U8}(m:Sm s):WU s=zo (Wr s):=by
 unfold WU Wr;rw[ug m,UG];by_cases a:(VA s).2=0;rotate_left
 ·simp_all[zy,Uq,zx]
 rw[zx (show ¬ (VA s).2≠0 by simp[a]),zx (show ¬ (VA s).2≠0 by simp[a]),Uq,zy rfl];have v:=VH.1 a;have w:(VF 0 s.1.2).length<=12:=by have:=XE s.1.2 0;have:=v.lev.len;omega
 simp only[VE,VC];rw[Uk];by_cases o:VF 0 s.1.2=[]
 ·simp_all
 rw[zx (by simp_all),zx o];obtain⟨T,i⟩:∃ T,T=Xu s (VF 0 s.1.2):=⟨_,rfl⟩;rw[<- i]
 obtain⟨r,z,p⟩:=Xi (l:=VF 0 s.1.2) (σ:=Unit) (s:=((0:Int),(zf,((0:Int),(0:Int))))) (λk _=>((0:Int),(zf,((k:Int),(0:Int))))) (λl k _=>Xu s l=T) (λ(r:Nat×((Int×(Bool×(Int×Int)))×Unit))=>r.1=1/\((T=zn/\r.2.1.2.1=zf)\/(∃ d,T=zo d/\r.2.1.2.1=zt/\r.2.1.2.2.2=d)))
  (f:=λs1=>br (UV s1.2.2.1 ((VF 0 s.1.2).length:Int)) (λ_=>S1 s1.2.2.1 λy=>ix (VF 0 s.1.2) y λq=>bd (Wf (s,q)) λg=>br (Sx g.2 0) (λ_=>zo (.dn ((0,((g.2,(s1.2.1,(s1.2.2.1,0))),()))))) λ_=>bd (V2 g.1) λA=>br A (λ_=>zo (.dn ((1,((s1.1,(zt,(s1.2.2.1,q))),()))))) λ_=>zo (.nx ((s1.1,(s1.2.1,(TI .i64 s1.2.2.1 1,s1.2.2.2)))))) λ_=>zo (.dn ((1,(s1,())))))
  () rfl (by omega) i.symm (λ_ h=>⟨_,by simp only;rw[re];rfl,rfl,.inl ⟨by rw[<- h];rfl,rfl⟩⟩) (λk d l _ hd c x h=>by
   simp only;obtain⟨j,n,C,D,b,B,o⟩:=v.atDue (bo c);have:=v.lev.len;unfold Xu at h;have t:YG zf (λs j=>(Xo s.1 j,0)) s d=(Xo s.1 j,0):=by unfold YG;simp_all
   have u:YG z0 (λs j=>((s,(j,(VW s.1 j:Int))),0)) s d=((s,(j,(VW s.1 j:Int))),0):=by unfold YG;simp_all
   rw[t]at h;rw[rl x,Tj,U9,Ua c,gy m,u,UG,Uq,zy rfl,fu v.lev b (by omega) _ rfl,UG,Uw];by_cases e:Xo s.1 j=zt
   ·simp_all
   ·rw[zx e];rw[zx e]at h
    exact .inl ⟨(),by rw[VJ c (by omega)],h⟩)
 refine Va z ?_;obtain⟨p,E⟩:=p;rw[UH,zx (show ¬ r.1=0 by omega),Vp,Uw]
 grind
theorem mL{s:U8}(m:Sm s):aX s=zo (Wr s):=by
 unfold aX Wr;rw[iq m,UG];by_cases a:(VA s).2=0;rotate_left
 ·simp_all[zy,Uq,zx]
 rw[zx (show ¬ (VA s).2≠0 by simp[a]),zx (show ¬ (VA s).2≠0 by simp[a]),Uq,zy rfl];have v:=VH.1 a;have g:(VF 0 s.1.2).length<=12:=by have:=XE s.1.2 0;have:=v.lev.len;omega
 simp only[VE,VC];rw[Uk];by_cases n:VF 0 s.1.2=[]
 ·simp_all
 rw[zx (by simp_all),zx n];obtain⟨T,c⟩:∃ T,T=Xu s (VF 0 s.1.2):=⟨_,rfl⟩;rw[<- c]
 obtain⟨r,q,x⟩:=Xi (l:=VF 0 s.1.2) (σ:=Unit) (s:=((0:Int),((0:Int),(0:Int)))) (λk _=>((0:Int),((0:Int),(k:Int)))) (λl k _=>Xu s l=T) (λ(r:Nat×((Int×(Int×Int))×Unit))=>(r.1=1/\T=zn)\/(r.1=0 /\ ∃ d,T=zo d/\r.2.1.2.1=d/\r.2.1.1=0))
  (f:=λs1=>br (UV s1.2.2 ((VF 0 s.1.2).length:Int)) (λ_=>S1 s1.2.2 λo=>ix (VF 0 s.1.2) o λu=>bd (Yg (s,u)) λt=>br t.1 (λ_=>S1 s1.2.2 λp=>ix (VF 0 s.1.2) p λw=>zo (.dn ((0,((0,(w,s1.2.2)),()))))) λ_=>zo (.nx ((s1.1,(s1.2.1,TI .i64 s1.2.2 1))))) λ_=>zo (.dn ((1,(s1,())))))
  () rfl (by omega) c.symm (λ_ h=>⟨_,by simp only;rw[re];rfl,.inl ⟨rfl,by rw[<- h];rfl⟩⟩) (λk d l _ hd b i h=>by
   simp only;unfold Xu at h;rw[rl i,Tj,U9,Ua b,gQ m,UG,Uw,U9,Ua b];by_cases e:(YG zf (λs j=>(Xo s.1 j,0)) s d).1=zt
   ·simp_all
   ·rw[zx e];rw[zx e]at h
    exact .inl ⟨(),by rw[VJ b (by omega)],h⟩)
 refine Va q ?_;rw[UH]
 grind
end
section
open Go Sv
theorem uU{β:Type}(k:Unit->Option β):gd zt k=k ():=rfl
def VD(l:List (List VU))(i:Nat):List VU:=(l[i]?).getD []
def Zz(l:List (List VU)):Nat->Nat
 |0=>0
 |k+1=>if VD l k=[]then Zz l k else k+1
def Z7(l:List (List VU))(n:Nat):List (List VU):=l++List.replicate (n+1-l.length) []
def YI(l:List (List VU))(n:Nat)(r:List VU):List (List VU):=(Z7 l n).set n r
def ZO(l:List (List VU)):List (List VU):=l.take (Zz l l.length)
def V1(L:VB)(n:Nat)(r:List VU):VB:=(L.1,ZO (YI L.2 n r))
theorem f8(l:List (List VU)):∀ k,Zz l k<=k
 |0=>eb _
 |k+1=>by
  unfold Zz;split
  ·exact Nat.le_succ_of_le (f8 l k)
  omega
theorem dy(l:List (List VU)):∀ {k i:Nat},Zz l k<=i->i<k->VD l i=[]
 |0,_,_,h=>by omega
 |k+1,i,h1,h2=>by
  unfold Zz at h1;split at h1
  ·rename_i a;by_cases hi:i=k
   ·simp_all
   ·exact dy l h1 (by omega)
  ·omega
theorem fJ(l:List (List VU)):∀ {k m:Nat},Zz l k=m+1->VD l m≠[]
 |0,m,h=>by cases h
 |k+1,m,h=>by
  unfold Zz at h;split at h
  ·exact fJ l h
  simp_all
theorem fa(l:List (List VU))(i:Nat):VD (ZO l) i=VD l i:=by
 unfold ZO;by_cases h:i<Zz l l.length
 ·unfold VD;simp_all
 ·have a:VD (l.take (Zz l l.length)) i=[]:=by
   unfold VD;grind
  rw[a];by_cases b:i<l.length
  ·exact(dy l (by omega) b).symm
  ·unfold VD;rw[a9 (by omega)];rfl
theorem kZ(l:List (List VU)):(ZO l).getLast? ≠ zo []:=by
 have d:(ZO l).length=Zz l l.length:=by
  have:=f8 l l.length
  simp_all[ZO,yb]
 cases hd:Zz l l.length with
 |zero=>
  simp_all
 |succ m=>
  have b:=fJ l hd;rw[ll,d,hd];intro c;have a:VD (ZO l) m=[]:=by unfold VD;rw[show m=m+1-1 by omega,c];rfl
  rw[fa]at a;exact b a
theorem bI(l:List (List VU))(n:Nat):(Z7 l n).length=max l.length (n+1):=by
 unfold Z7;simp;omega
theorem ie(l:List (List VU))(n i:Nat):VD (Z7 l n) i=VD l i:=by
 grind [VD,Z7,List.getElem?_append_left,List.getElem?_append_right]
theorem il(l:List (List VU))(n i:Nat)(r:List VU):VD (YI l n r) i=if i=n then r else VD l i:=by
 unfold YI;by_cases h:i=n
 ·rw[zy h,h];have:=bI l n;unfold VD;grind
 ·rw[zx h];unfold VD;rw[List.getElem?_set_ne (λe=>h e.symm)];exact ie l n i
theorem ZA(L:VB)(n i:Nat)(r:List VU):VD (V1 L n r).2 i=if i=n then r else VD L.2 i:=by
 show VD (ZO _) i=_;rw[fa,il]
theorem kc(L:VB)(n:Nat)(r:List VU):(V1 L n r).2.getLast? ≠ zo []:=kZ _
theorem m7(L:VB)(n:Nat)(r:List VU):(V1 L n r).2.length<=max L.2.length (n+1):=by
 show(ZO _).length<=_
 grind [ZO,YI,ym,bI,yb]
theorem lr(l:List (List VU)):(ZO l).flatten=l.flatten:=by
 have h:l=ZO l++l.drop (Zz l l.length):=(List.take_append_drop _ _).symm
 have c:(l.drop (Zz l l.length)).flatten=[]:=by
  rw[tT];intro x b;obtain⟨i,hi⟩:=ee b;rw[List.getElem?_drop]at hi;have a:=(a8.1 hi).1;have:=dy l (k:=l.length) (i:=Zz l l.length+i) (by omega) a
  grind [VD]
 grind
theorem nV(l:List (List VU))(n:Nat):(Z7 l n).flatten=l.flatten:=by
 simp_all[Z7,ol,tT,gM]
theorem Y5(L:VB)(n:Nat)(r:List VU):∃ p q,L.2.flatten=p++(VD L.2 n++q)/\(V1 L n r).2.flatten=p++(r++q):=by
 have b:n<(Z7 L.2 n).length:=by rw[bI];omega
 refine⟨((Z7 L.2 n).take n).flatten,((Z7 L.2 n).drop (n+1)).flatten,?_,?_⟩
 ·rw[<- ie L.2 n n,<- nV L.2 n]
  have:Z7 L.2 n=(Z7 L.2 n).take n++((Z7 L.2 n)[n]::(Z7 L.2 n).drop (n+1)):=by
   simp_all
  have a:VD (Z7 L.2 n) n=(Z7 L.2 n)[n]:=by unfold VD;simp_all
  grind
 ·show(ZO (YI L.2 n r)).flatten=_
  simp_all[YI,lr,List.set_eq_take_append_cons_drop,zy,ol]
theorem VLev.own{L:VB}(v:VLev L)(i:Nat):(VD L.2 i).length<=2 /\ ∀ r∈VD L.2 i,VR (Vn L.1 i) r:=by
 unfold VD;cases h:L.2[i]? with
 |none=>simp_all
 |some rs=>exact v.lev i rs h
theorem VLev.with'{L:VB}(v:VLev L){n:Nat}(f:n<12){r:List VU}(d:r.length<=2)(e:∀ x∈r,VR (Vn L.1 n) x)(b:((V1 L n r).2.flatten.map u6).Nodup):VLev (V1 L n r):=by
 refine⟨v.B1,v.B2,?_,λi rs hi=> ?_,b,kc L n r⟩
 ·have:=m7 L n r;have:=v.len;omega
 ·have a:=ZA L n i r;unfold VD at a;rw[hi]at a;simp only[hU]at a;rw[a];split
  ·rename_i c;rw[c];exact⟨d,e⟩
  ·exact v.own i
theorem VLev.leave{L:VB}(v:VLev L){n:Nat}(c:n<12):VLev (V1 L n []):=by
 refine v.with' c (by simp) (λ_ h=>by cases h) ?_
 obtain⟨p,q,a,b⟩:=Y5 L n [];have:=v.ids;rw[a]at this;rw[b,s9];refine zr.nodup (zr.map _ ?_) this<;>simp_all
theorem VLev.arrive{L:VB}(v:VLev L){n:Nat}(c:n<12){x:VU}(h:(VD L.2 n).length<2)(i:VR (Vn L.1 n) x)(a:∀ y∈L.2.flatten,y.1≠x.1):VLev (V1 L n (VD L.2 n++[x])):=by
 refine v.with' c (by simp;omega) (λy hy=> ?_) ?_
 ·rcases rz.1 hy with hy|hy
  ·exact(v.own n).2 y hy
  simp_all
 ·obtain⟨p,q,f,g⟩:=Y5 L n (VD L.2 n++[x])
  have d:(V1 L n (VD L.2 n++[x])).2.flatten.Perm (x::L.2.flatten):=by
   grind
  refine(d.map u6).nodup_iff.2 (li.2 ⟨λb=> ?_,v.ids⟩);obtain⟨y,hy,e⟩:=i0.1 b;exact a y hy e
theorem bF{l:List (List VU)}{x:VU}:x∈l.flatten <-> ∃ i,x∈VD l i:=by
 rw[kd];constructor
 ·rintro⟨rs,a,b⟩;obtain⟨i,hi⟩:=ee a;exact⟨i,by unfold VD;simp_all⟩
 grind [VD]
theorem ZX{l:List (List VU)}{x:VU}(h:x∈l.flatten):x.1<=Wy l:=by
 have d:∀ (rs:List VU) (m:Int),m<=rs.foldl (λm r=>Uz m r.1) m /\ ∀ x∈rs,x.1<=rs.foldl (λm r=>Uz m r.1) m:=by
  intro rs
  induction rs with
  |nil=>simp_all
  |cons r rs c=>
   intro m;obtain⟨a,b⟩:=c (Uz m r.1)
   grind [Zu]
 have two:∀ (ls:List (List VU)) (m:Int),m<=ls.foldl (λm rs=>rs.foldl (λm r=>Uz m r.1) m) m /\ ∀ rs∈ls,∀ x∈rs,x.1<=ls.foldl (λm rs=>rs.foldl (λm r=>Uz m r.1) m) m:=by
  intro ls
  induction ls with
  |nil=>simp_all
  |cons rs ls c=>
   intro m;obtain⟨a,b⟩:=c (rs.foldl (λm r=>Uz m r.1) m);obtain⟨e,f⟩:=d rs m
   grind
 obtain⟨rs,a,b⟩:=kd.1 h;exact(two l 0).2 rs a x b
end
section
open Go Sv
theorem fK{M:List (List VU)}{f:Int->Option (LR Int (Nat×(Int×Unit)))}(a:f 0=zo (.dn (0,(0,()))))(hs:∀ k,k<M.length->f ((k+1:Nat):Int)=if VD M k=[]then zo (.nx (k:Int))else zo (.dn (0,(((k+1:Nat):Int),())))):∀ k,k<=M.length->Ih (k+1) f (k:Int)=zo (0,((Zz M k:Nat):Int),())
 |0,_=>Vm a
 |k+1,hk=>by
  have h:=hs k (by omega);unfold Zz;by_cases b:VD M k=[]
  ·rw[zy b]at h ⊢;rw[Vf h];exact fK a hs k (by omega)
  ·rw[zx b]at h ⊢;exact Vm h
theorem yL(L:List (List VU))(n:Nat):Ey (Ot (max L.length (n+1)) ([]:List VU)) 0 L (AQ (Ot (max L.length (n+1)) ([]:List VU)))=Z7 L n:=by
 have a:AQ (Ot (max L.length (n+1)) ([]:List VU))=max L.length (n+1):=by unfold AQ Ot;simp
 rw[a];unfold Ey Z7 Ot;rw[ey (by omega:L.length<=max L.length (n+1))]
 grind
theorem nu(l:List (List VU))(n:Nat)(r:List VU):lset (Z7 l n) n r=YI l n r:=rfl
theorem Xn{l:List (List VU)}{i:Nat}(h:i<l.length):l[i]?=zo (VD l i):=by
 unfold VD;simp_all
theorem gH{β:Type}(l:List VU)(x y:Unit->Option β):br (PC (l.length:Int) 0) x y=if l=[]then x ()else y ():=by
 simp_all[Uk,zy,zx]
theorem dE{L:VB}(h:L.2.length<=1000){n:Nat}(i:n<1000)(r:List VU):Xa (L,((n:Int),r))=zo (V1 L n r):=by
 have b:Uz (K7 (AQ L.2)) (TI .i64 (n:Int) 1)=((max L.2.length (n+1):Nat):Int):=by
  grind [VG,Zu,VE,VC]
 unfold Xa;simp only[b,U9,yL,nu];have e:(Z7 L.2 n).length=max L.2.length (n+1):=bI _ _;have j:(YI L.2 n r).length=max L.2.length (n+1):=by unfold YI;simp_all
 rw[Vo (by omega),UQ,zy (by rw[VC,e];omega),Ua (Xn (by omega))]
 have c:=fK (M:=YI L.2 n r) (f:=λa=>br (UT a 0) (λ_=>S1 (TM .i64 a 1) λd=>gd (I8 d (AQ (YI L.2 n r))) λ_=>ix (YI L.2 n r) d λg=>br (PC (K7 (AQ g)) 0) (λ_=>zo (.nx (TM .i64 a 1))) λ_=>zo (.dn ((0,(a,()))))) λ_=>zo (.dn ((0,(a,()))))) rfl (λk b=>by
  have hi:TM .i64 ((k+1:Nat):Int) 1=(k:Int):=by rw[Tq (by omega)];omega
  simp only[hi,U9];rw[Um,zy (by omega),UQ,zy (by rw[VC];omega),Ua (Xn b)]
  exact gH _ _ _) _ (eb _)
 rw[VE,show AQ (YI L.2 n r)=(YI L.2 n r).length from rfl];refine Va (WK (by omega) c) ?_;have hd:=f8 (YI L.2 n r) (YI L.2 n r).length;simp only[U9];rw[Vo hd,UP,zy (by omega),UI,zy (by omega),UP,zy (by unfold A0 QC;omega)];unfold V1 ZO DV A0 QC;simp
end
section
open Go Sv
def gG(d:Int)(j:Job):Bool:=PC d j.1
def V5(js:List Job)(d:Int):Option Job:=js.find? (gG d)
def cX(js:List Job):List (Int×Job):=js.map λj=>(j.1,j)
def zJ:Job:=(0,(([],([],([],([],0)))),((zf,([],zf)),([],0))))
def YH(L:VB)(d:Int):Job:=match VD L.2 d.toNat with
 |[r0,r1]=>(d,Ww r1.2 r0.2 (decide (d=(L.2.length:Int)-1)) 0)
 |_=>zJ
def YS(s:U8)(L:VB)(a d:Int):Job:=(if d=a then zn else V5 s.2.1 d).getD (YH L d)
def Zp(s:U8)(L:VB)(next a:Int):U8:=(L,((VF 0 L.2).map (YS s L a),next))
theorem fY(d:Int):∀ js:List Job,Mx (λa b=>PC a b) (cX js) d=V5 js d
 |[]=>rfl
 |j::js=>by
  show(bif PC d j.1 then zo j else Mx (λa b=>PC a b) (cX js) d)=(j::js).find? (gG d)
  rw[List.find?_cons,fY d js];show _=match PC d j.1 with|true=>zo j|false=>V5 js d
  cases PC d j.1<;>rfl
theorem fZ{j:Job}:∀ {js:List Job},j.1 ∉ js.map (·.1)->Iq (λa b=>PC a b) (cX js) j.1 j=cX (js++[j])
 |[],_=>rfl
 |i::js,h=>by
  show(bif PC j.1 i.1 then(j.1,j)::cX js else(i.1,i)::Iq (λa b=>PC a b) (cX js) j.1 j)=(i.1,i)::cX (js++[j])
  have c:PC j.1 i.1=zf:=by grind [XL]
  rw[c,zj,fZ (λd=>h (by simp_all))]
theorem aa{js:List Job}{d:Int}(h:d ∉ js.map (·.1)):V5 js d=zn:=by
 unfold V5;rw[xb];intro j a;unfold gG;rw[XL]
 grind
theorem fX{x d:Int}:∀ {js:List Job},(js.map (·.1)).Nodup->Mx (λa b=>PC a b) (Io (λa b=>PC a b) (cX js) x) d=if d=x then zn else V5 js d
 |[],_=>by split<;>rfl
 |j::js,h=>by
  rw[hI,li]at h;show Mx (λa b=>PC a b) (bif PC x j.1 then cX js else(j.1,j)::Io (λa b=>PC a b) (cX js) x) d=_
  have f:V5 (j::js) d=if d=j.1 then zo j else V5 js d:=by
   grind [V5,gG,XL]
  rw[XL,f];by_cases c:x=j.1
  ·rw[show decide (x=j.1)=zt by simp[c],zb,fY];by_cases hd:d=x
   ·rw[zy hd];exact aa (by grind)
   grind
  ·rw[show decide (x=j.1)=zf by simp[c],zj];show(bif PC d j.1 then zo j else Mx (λa b=>PC a b) (Io (λa b=>PC a b) (cX js) x) d)=_
   rw[fX h.2,XL];by_cases hd:d=j.1
   ·rw[show decide (d=j.1)=zt by simp[hd],zb,zy hd,zx (by rw[hd];exact λe=>c e.symm)]
   ·rw[show decide (d=j.1)=zf by simp[hd],zj,zx hd]
theorem VR.vl'{L:VB}(v:VLev L){n:Nat}{r:VU}(h:r∈VD L.2 n):VL r.2:=((v.own n).2 r h).vl
theorem mF(L:VB)(a:L.2.length<=1000)(n:Nat):W8 (L,(n:Int))=zo (decide ((n:Int)=(L.2.length:Int)-1)):=by
 unfold W8;simp only[VE,VC];rw[Tq (by omega),XL]
theorem nG{L:VB}(v:VLev L){n:Nat}(h:(VD L.2 n).length=2):ZQ (L,(n:Int))=zo (YH L n,0):=by
 have d:n<L.2.length:=by
  grind [VD,a9]
 have g:=v.len;obtain⟨e,f⟩:=v.small;unfold ZQ;simp only[VE,VC];rw[Zk _ e f,YC v,UG,Uq,zy rfl,Uo,zx (by omega),Ul,zx (by omega),Ul,zx (by omega),U9,Ua (Xn d),Uo,zx (by omega),mF L (by omega) n,UG]
 obtain⟨b,c,a⟩:∃ b c,VD L.2 n=[b,c]:=by
  match hq:VD L.2 n with
  |[b,c]=>simp_all
  |[]=>simp_all
  |[_]=>simp_all
  |_::_::_::_=>simp_all
 rw[gz _ (by rw[Xn d,a]) (VR.vl' v (n:=n) (by grind)) (VR.vl' v (n:=n) (by grind)),UG]
 simp_all[YH,bl]
theorem Zd(i:Nat)(rs:List VU)(ls:List (List VU)):VF i (rs::ls)=(if rs.length=2 then[(i:Int)]else[])++VF (i+1) ls:=rfl
theorem bA{s:U8}(g:(s.2.1.map (·.1)).Nodup)(q:s.2.1.length<=1000){L:VB}(v:VLev L)(next a:Int):Vb (s,(L,(next,a)))=zo (Zp s L next a,0):=by
 have t:=v.len;unfold Vb;simp only[VE,VC]
 rw[WL (l:=s.2.1) (σ:=List (Int×Job)) (s:=((0:Int),([]:List (Int×Job)))) (λi m=>((i:Int),m)) (λls i m=>∃ p,s.2.1=p++ls/\m=cX p) (λ_ _ _=>(0,(((s.2.1.length:Int),cX s.2.1),()))) [] rfl (by omega) ⟨[],rfl,rfl⟩ (λm h=>by
  simp_all[re,TA,gM]) (λi x ls m hd b hi h=>by
   obtain⟨p,n,rfl⟩:=h;refine⟨cX (p++[x]),?_,⟨p++[x],by grind,rfl⟩,rfl⟩;simp only;rw[rl hi,Tj,U9,Ua b,VJ b (by omega),fZ]
   grind),UG]
 simp only
 rw[WL (l:=L.2) (σ:=List Job) (s:=((0:Int),((0:Int),(((0:Int),(([]:List (List VU)),(([]:List Job),(0:Int)))),(L.1,(L.2,(([]:List Job),next))))))) (λi js=>((0:Int),((i:Int),(((0:Int),(([]:List (List VU)),(([]:List Job),(0:Int)))),(L.1,(L.2,(js,next))))))) (λls i js=>js++(VF i ls).map (YS s L a)=(VF 0 L.2).map (YS s L a)) (λ_ _ _=>(0,(((0:Int),((L.2.length:Int),(((0:Int),(([]:List (List VU)),(([]:List Job),(0:Int)))),(L.1,(L.2,((VF 0 L.2).map (YS s L a),next)))))),()))) [] rfl (by omega) rfl (λm h=>by
  simp_all[re,TA,VF]) (λi rs ls m hd b hi h=>by
   have k:VD L.2 i=rs:=by unfold VD;rw[b];rfl
   have f:=(v.own i).1;rw[k]at f;refine⟨m++(if rs.length=2 then[YS s L a i]else[]),?_,?_,rfl⟩
   ·simp only;rw[rl hi,Tj,U9,Ua b,Uo]
    have r:m.length<=1000:=by
     have d:=congrArg ox h;have o:=XE L.2 0
     grind
    by_cases d:rs.length=2;rotate_left
    ·rw[zy (by omega),zx d,gM,VJ b (by omega)]
    rw[zx (by omega),zy d,fX g];have c:YS s L a i=(if(i:Int)=a then zn else V5 s.2.1 i).getD (YH L i):=rfl
    cases e:(if(i:Int)=a then zn else V5 s.2.1 (i:Int))with
    |none=>
     rw[e,xn]at c;rw[c,nG v (by simp_all),Vp,Uw,zx (show ¬ U2 (zn:Option Job)=zt by simp[U2]),UG];simp only;rw[Uq,zy rfl,Vo (by grind [A0,ci,co]),VJ b (by omega)];rfl
    |some j=>
     rw[e,hU]at c;rw[c,Vp,Uw,zy (show U2 (zo j)=zt from rfl),Vo (by grind [A0,ci,co]),VJ b (by omega)];rfl
   grind [gw,Zd]),UG]
 rfl
end
section
open Go Sv
def pS(s:V4):Option YF:=if s.1=zt then zo s.2.1 else zn
theorem Asc.weak:∀ {l:List U7} {p c:Option YF},(∀ a,c=zo a -> ∃ q,p=zo q/\TZ q a=zf)->Asc p l->Asc c l
 |[],_,_,_,_=>trivial
 |x::l,p,c,h,⟨d,f⟩=>⟨λa b=>by
  obtain⟨q,e,j⟩:=h a b;have g:=d q e;by_cases i:a=q
  ·simp_all
  ·exact XO (aj j (λe=>i e.symm)) g,f⟩
theorem iG:∀ (l:List U7) (s:V4),cq s l->Asc (pS s) (Xq s l)
 |[],_,_=>trivial
 |x::l,s,⟨_,f,g⟩=>by
  have i:=iG l _ g;have a:Asc (zo x.1) (Xq (zt,(x.1,s.2.2)) l):=i;unfold Xq;by_cases d:keep s x=zt
  ·rw[zy d];refine⟨λq b=> ?_,a⟩;unfold pS at b;by_cases c:s.1=zt
   ·rw[zy c]at b;cases b;refine aj (f c) λe=> ?_
    simp_all[keep]
   simp_all
  ·rw[zx d,s9];refine a.weak λj h=>⟨x.1,rfl,?_⟩
   simp_all[pS,zy,zx]
theorem iI:∀ {l:List U7} {s:V4} {x:U7},x∈Xq s l->x∈l
 |y::l,s,x,h=>by
  unfold Xq at h;rcases rz.1 h with h|h
  ·simp_all
  ·exact List.mem_cons_of_mem _ (iI h)
theorem lK:∀ {l:List U7} {s:V4},cq s l -> ∀ x∈l,kE x=0
 |y::l,s,⟨b,_,a⟩,x,h=>by
  rcases ml.1 h with e|h
  ·simp_all
  ·exact lK a x h
theorem oJ{a b:List U7}(va:VL a)(h:VL b)(c:Bool){k:Nat}(f:k<=a.length+b.length)(j:a.length+b.length<=5000):VL (Ww a b c k).2.2.1/\(Ww a b c k).2.2.1.length<=a.length+b.length:=by
 have d:=Y9 va h c f
 have i:(Xq (s0 c) (VX a b k)).length<=k:=by
  have:=aB (s0 c) (VX a b k)
  simp_all[WZ]
 have e:(Ww a b c k).2.2.1=Xq (s0 c) (VX a b k):=rfl;rw[e];exact⟨⟨by omega,λx g=>lK d x (iI g),iG _ _ d⟩,by omega⟩
theorem jd{L:VB}(v:VLev L){n:Nat}(h:VD L.2 n≠[]):XH (L,(n:Int))=zo (V1 L n [],(VD L.2 n,0)):=by
 have a:n<L.2.length:=by
  grind [VD,a9]
 have c:=v.len;have b:=(v.own n).1;unfold XH;simp only[VE,VC];rw[gN v,UG,zx (by omega),Uq,zy rfl,Uo,zy (by omega),U9,Ua (Xn a),gH,zx h,dE (by omega) (by omega),UG,Vo (by omega)]
theorem mC{S β:Type}{f:S->Option (LR S β)}{r:β}(mk:Int->S)(n:Nat){s:S}(b:s=mk ((n:Int)-1))(d:n<1000000)(hs:∀ k,k<n->f (mk (k:Int))=zo (.nx (mk ((k:Int)-1))))(c:f (mk (-1))=zo (.dn r)):loop f s=zo r:=by
 subst b
 have a:∀ k,k<=n->Ih (k+1) f (mk ((k:Int)-1))=zo r:=by
  intro k
  induction k with
  |zero=>intro _;exact Vm c
  |succ k e=>
   grind [Vf]
 exact WK (by omega) (a n (eb _))
theorem bE{L:VB}(v:VLev L){n:Nat}(m:n<12){x:VU}(p:x.2.length<=1048576)(b:∀ y∈L.2.flatten,y.1≠x.1)(j:(VD L.2 n).length<2) :
  VY (L,((n:Int),x))=zo (if kR [] (Vn L.1 n) x≠0 then((0,[]),kR [] (Vn L.1 n) x)else(V1 L n (VD L.2 n++[x]),0)):=by
 have o:=v.len;unfold VY;simp only[VE,VC];rw[gN v,UG,zx (by omega),Uq,zy rfl,c0 v.B1 v.B2 (by omega),fW x _ (by omega),show Sw (n:Int) 0=zt by rfl];rw[uU,UG,Uq];by_cases a:kR [] (Vn L.1 n) x=0;rotate_left
 ·simp_all
 rw[zy a,zx (by simp[a])]
 rw[WL (l:=L.2) (σ:=Unit) (s:=((0:Int),(((0:Int),([]:List (List VU))),(0:Int)))) (λi _=>((i:Int),(((0:Int),([]:List (List VU))),(0:Int)))) (λ_ _ _=>True) (λ_ _ _=>(0,(((L.2.length:Int),(((0:Int),([]:List (List VU))),(0:Int))),()))) () rfl (by omega) trivial (λ_ _=>by
  simp only;rw[re];rfl) (λi rs ls _ hd hi c _=>by
   refine⟨(),?_,trivial,rfl⟩;have e:VD L.2 i=rs:=by unfold VD;rw[hi];rfl
   have f:=(v.own i).1;rw[e]at f;simp only;rw[rl c,Tj,U9,Ua hi,Tq (by omega)]
   rw[mC (λk=>(k,(((0:Int),([]:List (List VU))),(0:Int)))) rs.length rfl (by omega) (λk a=>by
    have h:rs[k]?=zo rs[k]:=eo a;have d:rs[k].1≠x.1:=b _ (kd.2 ⟨rs,bo hi,l5 a⟩);simp only
    rw[Ul,zy (by omega),U9,Ua h,Uk,zx d,Tq (by omega)]) (r:=(0,(((-1:Int),(((0:Int),([]:List (List VU))),(0:Int))),()))) rfl,UG]
   rw[VJ hi (by omega)]
   rfl),UG]
 rw[UH,zy rfl,Uo];by_cases g:n<L.2.length
 ·rw[zy (by omega),U9,Ua (Xn g),Uk,zx (by omega),U9,U9,Vo (eb _),UO,zy rfl,Vo (iz _)];have hs:DV (VD L.2 n) 0 (VD L.2 n).length=VD L.2 n:=by unfold DV;simp
  rw[hs,Vo (by grind [A0,ci,co]),dE (by omega) (by omega),UG];rfl
 ·rw[zx (by omega)];have e:VD L.2 n=[]:=by unfold VD;rw[a9 (by omega)];rfl
  grind [Vo,dE,UG]
end
section
open Go Sv
def zS:U8:=((0,[]),([],0))
def WC(j:Job):List U7:=j.2.2.2.1
def an(s:U8)(j:Job):Nat:=if YJ s.1 j=zt then j.1.toNat else j.1.toNat+1
def W6(s:U8)(j:Job):VB:=if WC j=[]then V1 s.1 j.1.toNat []else V1 (V1 s.1 j.1.toNat []) (an s j) (VD (V1 s.1 j.1.toNat []).2 (an s j)++[(s.2.2,WC j)])
def Z5(s:U8)(j:Job):Int:=if WC j=[]then s.2.2 else s.2.2+1
def bf(s:U8)(j:Job):U8×Int:=
 if 0<VW s.1 j\/Xo s.1 j=zf then(zS,9)else if s.2.2>1000000/\WC j≠[]then(zS,5)else(Zp s (W6 s j) (Z5 s j) j.1,0)
theorem fL:∀ (ls:List (List VU)) (i:Nat),(VF i ls).Nodup /\ ∀ d∈VF i ls,(i:Int)<=d
 |[],_=>⟨.nil,λ_ h=>by cases h⟩
 |rs::ls,i=>by
  obtain⟨a,b⟩:=fL ls (i+1);rw[Zd]
  grind
theorem VSt.nodup{s:U8}(v:VSt s):(s.2.1.map (·.1)).Nodup:=by rw[v.due];exact(fL _ _).1
theorem JobAt.out{L:VB}{n:Nat}{j:Job}(g:JobAt L n j)(v:VLev L)(hs:(∀ r∈VD L.2 n,r.2.length<=2000)):VL (WC j)/\((WC j).length:Int)<=2*Vn L.1 n/\j.1=(n:Int)/\n<12/\VD L.2 n≠[]:=by
 obtain⟨a,b,c,k,d,rfl,h,_,v0,v1⟩:=g;have m:VD L.2 n=[a,b]:=by unfold VD;rw[d];rfl
 have p:=hs a (by grind);have q:=hs b (by grind);have s:=((v.own n).2 a (by grind)).le;have t:=((v.own n).2 b (by grind)).le;obtain⟨e,f⟩:=oJ v1 v0 c h (by omega);have l:=(a8.1 d).1;have o:=v.len;refine⟨e,?_,rfl,by omega,by grind⟩
 have i:((WC ((n:Int),Ww b.2 a.2 c k)).length:Int)<=(b.2.length:Int)+(a.2.length:Int):=by
  have:(WC ((n:Int),Ww b.2 a.2 c k)).length<=b.2.length+a.2.length:=f;omega
 omega
def m8(L:VB):Prop:=∀ i,∀ r∈VD L.2 i,r.2.length<=2000
structure InstF (s:U8) (n:Nat) (j:Job):Prop where
 l1:VLev (V1 s.1 n [])
 to12:WC j≠[]->an s j<12
 vr:WC j≠[]->VR (Vn s.1.1 (an s j)) (s.2.2,WC j)
 id:∀ y∈(V1 s.1 n []).2.flatten,y.1≠s.2.2
 room:WC j≠[]->(VD (V1 s.1 n []).2 (an s j)).length<2
 lev:VLev (W6 s j)
theorem lA{s:U8}(v:VSt s)(u:m8 s.1){n:Nat}{j:Job}(t:JobAt s.1 n j)(B:¬ 0<VW s.1 j)(hc:Xo s.1 j=zt)(r:WC j≠[]->s.2.2<=1000000):InstF s n j:=by
 obtain⟨z,D,E,k,F⟩:=t.out v.lev (u n);have c:=v.lev.leave (n:=n) k;have f:j.1.toNat=n:=by omega
 have g:YJ s.1 j≠zt->n+1<12/\(VD s.1.2 (n+1)).length<2:=λhs=>by
  grind [Xo,decide,VW,aM,VD]
 have b:∀ y∈(V1 s.1 n []).2.flatten,y.1≠s.2.2:=λy x=>by
  obtain⟨p,q,C,o⟩:=Y5 s.1 n [];rw[o,s9]at x
  have w:y∈s.1.2.flatten:=by
   grind
  have:=ZX w;have:=v.n3;omega
 have h:an s j<12/\(VD (V1 s.1 n []).2 (an s j)).length<2/\((WC j).length:Int)<=Vn s.1.1 (an s j):=by
  unfold an;by_cases hs:YJ s.1 j=zt
  ·rw[zy hs,f];refine⟨k,by rw[ZA,zy rfl];simp,?_⟩;have a:=hs;unfold YJ at a;rw[f]at a;exact of_decide_eq_true a
  simp_all[zx,ZA,fi]
 obtain⟨l,m,A⟩:=h;have e:WC j≠[]->VR (Vn s.1.1 (an s j)) (s.2.2,WC j):=λd=>⟨v.n1,r d,z,d,A⟩;refine⟨c,λ_=>l,e,b,λ_=>m,?_⟩;unfold W6;rw[f];by_cases i:WC j=[]
 ·simp_all
 ·rw[zx i];exact c.arrive l m (e i) b
theorem fQ{s:U8}(v:VSt s)(u:m8 s.1){n:Nat}{j:Job}(t:JobAt s.1 n j)(w:¬ 0<VW s.1 j)(hc:Xo s.1 j=zt)(y:WC j≠[]->s.2.2<=1000000)(l:Int) :
  (bd (XH (s.1,(n:Int))) λc=>br (PC c.2.2 0) (λ_=>br (UT (K7 (AQ j.2.2.2.1)) 0) (λ_=>bd (Vv (s,(j,l))) λK=>br (IG K) (λ_=>bd (VY ((c.1,(TI .i64 (n:Int) 1,(s.2.2,j.2.2.2.1))))) λm=>br (Sx m.2 0) (λ_=>zo ((((0,[]),([],0)),m.2))) λ_=>bd (Vb ((s,(m.1,(TI .i64 s.2.2 1,(n:Int)))))) λL=>zo L) λ_=>bd (VY ((c.1,((n:Int),(s.2.2,j.2.2.2.1))))) λo=>br (Sx o.2 0) (λ_=>zo ((((0,[]),([],0)),o.2))) λ_=>bd (Vb ((s,(o.1,(TI .i64 s.2.2 1,(n:Int)))))) λM=>zo M) λ_=>br (Sx c.2.2 0) (λ_=>zo ((((0,[]),([],0)),c.2.2))) λ_=>bd (Vb ((s,(c.1,(s.2.2,(n:Int)))))) λN=>zo N) λ_=>br (Sx c.2.2 0) (λ_=>zo ((((0,[]),([],0)),c.2.2))) λ_=>bd (Vb ((s,(c.1,(s.2.2,(n:Int)))))) λk=>zo k)
  = zo (Zp s (W6 s j) (Z5 s j) j.1,0):=by
 have F:=lA v u t w hc y;obtain⟨G,O,i,I,J⟩:=t.out v.lev (u n);have g:j.1.toNat=n:=by omega
 have D:=v.n2;have C:=v.n1;have A:=v.jsmall;have a:=F.lev;rw[jd v.lev J,UG];show(br (PC 0 0) _ _)=_;rw[Uk,zy rfl,VE,VC,Um];by_cases e:WC j=[]
 ·rw[zx (show ¬ ((j.2.2.2.1.length:Int)>0) by rw[show j.2.2.2.1=[]from e];simp),Uq,zy rfl];unfold W6 at a ⊢;rw[zy e,g]at a;rw[zy e,g,bA v.nodup (by omega) a,UG];unfold Z5
  simp_all
 ·rw[zy (show((j.2.2.2.1.length:Int)>0) by have:=dc.2 e;have h:(WC j).length=j.2.2.2.1.length:=rfl;omega),fA v.lev i I,UG,Vp];have E:(WC j).length<=1048576:=by have:=G.len;omega
  have B:kR [] (Vn (V1 s.1 n []).1 (an s j)) (s.2.2,WC j)=0:=iS.2 ⟨F.vr e,by simp⟩;have f:=bE F.l1 (F.to12 e) (x:=(s.2.2,WC j)) E F.id (F.room e);rw[zx (by simp[B])]at f
  have z:W6 s j=V1 (V1 s.1 n []) (an s j) (VD (V1 s.1 n []).2 (an s j)++[(s.2.2,WC j)]):=by
   unfold W6;simp_all
  have q:Z5 s j=s.2.2+1:=by unfold Z5;grind
  rw[<- z]at f;have p:TI .i64 s.2.2 1=s.2.2+1:=To (by omega);have r:=bA v.nodup (by omega) a (s.2.2+1) (n:Int);rw[Uw];have b:an s j=if YJ s.1 j=zt then n else n+1:=by unfold an;rw[g]
  by_cases hs:YJ s.1 j=zt
  ·rw[zy hs]at b ⊢;rw[b]at f;have d:VY (V1 s.1 n [],((n:Int),(s.2.2,j.2.2.2.1)))=zo (W6 s j,0):=f;rw[d,UG,Uq,zy rfl,p,r,UG,q,i]
  ·rw[zx hs]at b ⊢;rw[b]at f;rw[VG (by omega)];have d:VY (V1 s.1 n [],(((n+1:Nat):Int),(s.2.2,j.2.2.2.1)))=zo (W6 s j,0):=f;rw[d,UG,Uq,zy rfl,p,r,UG,q,i]
theorem jM{s:U8}(m:Sm s)(k:m8 s.1)(a:Int):Xk (s,a)=zo (YG zS bf s a):=by
 unfold Xk;rw[gy m,UG];unfold YG;by_cases b:(VA s).2=0;rotate_left
 ·rw[zy b,Uq,zx b,zy b];rfl
 rw[zx (show ¬ (VA s).2≠0 by simp[b]),zx (show ¬ (VA s).2≠0 by simp[b])];have v:=VH.1 b;unfold dZ;cases p:cJ a 0 (VF 0 s.1.2)with
 |none=>rfl
 |some i=>
  obtain⟨j,n,l,o,f,g,q⟩:=v.at p;have:=v.lev.len;subst o;simp only[l];unfold Vg bf;rw[Uq,zy rfl,UG,Um];by_cases e:0<VW s.1 j
  ·rw[zy (show((VW s.1 j:Int))>0 by omega),zy (.inl e)];rfl
  rw[zx (show ¬ ((VW s.1 j:Int))>0 by omega),fu v.lev f (by omega) _ rfl,UG,Vp,Uw];by_cases hc:Xo s.1 j=zt;rotate_left
  ·rw[zx hc,zy (.inr (by grind))];rfl
  rw[zy hc,zx (show ¬ (0<VW s.1 j\/Xo s.1 j=zf) by simp_all),Um];by_cases d:s.2.2>1000000
  ·rw[zy d,VE,VC,Um];by_cases c:WC j=[]
   ·rw[zx (show ¬ ((j.2.2.2.1.length:Int)>0) by rw[show j.2.2.2.1=[]from c];simp),zx (by simp[c])];exact fQ v k g e hc (λh=>absurd c h) _
   ·rw[zy (show((j.2.2.2.1.length:Int)>0) by have:=dc.2 c;have h:(WC j).length=j.2.2.2.1.length:=rfl;omega),zy ⟨d,c⟩];rfl
  ·rw[zx d,zx (by simp[d])];exact fQ v k g e hc (λh=>by omega) _
end
section
open Go Sv
def am(L:VB)(j:Job):ZP:=match VD L.2 j.1.toNat with
 |[r0,r1]=>Ww r1.2 r0.2 j.2.2.1.2.2 (j.2.2.2.2.toNat+1)
 |_=>j.2
def cc(s:U8)(j:Job):U8:=(s.1,(lset s.2.1 ((cJ j.1 0 (VF 0 s.1.2)).getD 0) (j.1,am s.1 j),s.2.2))
theorem oS{s:U8}(m:Sm s)(v:VSt s){a:Int}{i:Nat}(q:cJ a 0 (VF 0 s.1.2)=zo i){j:Job}(e:s.2.1[i]?=zo j)(r:0<VW s.1 j):Zs (s,(a,1))=zo (cc s j,(1,0)):=by
 obtain⟨j',n,f,x,t,p,B⟩:=v.at q;rw[e]at f;cases f;subst x;have z:(VA s).2=0:=VH.2 v
 have h:Zr s (n:Int)=((i:Int),0):=by
  simp_all[Zr,zx,VA]
 have u:=v.jsmall;have hi:=(a8.1 e).1;unfold Zs;rw[wy m,UG,Uq,zy z,Uo,zx (show ¬ ((1:Int)<0) by omega),gB m,UG,h,Uq,zy rfl,U9,Ua e,(JobAt.left p).1,UG,Uk,zx (show ¬ ((VW s.1 j:Int)=0) by omega),U9,Ua e];obtain⟨b,c,d,k,o,rfl,w,A,v0,v1⟩:=p;have y:VD s.1.2 n=[b,c]:=by unfold VD;rw[o];rfl
 have l:VW s.1 ((n:Int),Ww c.2 b.2 d k)=c.2.length+b.2.length-k:=by
  unfold VW;simp only[bl,o];rfl
 rw[l]at r;have g:=fj v1 v0 d w (k:=1);rw[show min 1 (c.2.length+b.2.length-k)=1 by omega]at g;show(bd (WE (Ww c.2 b.2 d k,((1:Nat):Int))) λC=>_)=_;rw[g,UG];simp only;rw[Uq,zy rfl];unfold Vt;rw[Vo (by simp only[AQ];omega),UG,U9,UQ,zy (by simp only[AQ];exact hi),Ua e];unfold cc am;simp only[bl,y,q,hU];have e1:(Ww c.2 b.2 d k).2.1.2.2=d:=di _ _ _ _;have e2:(Ww c.2 b.2 d k).2.2.2.toNat=k:=by rfl
 simp_all
def Zx(s:U8)(j:Job):U8×(Bool×Int):=if Xo s.1 j=zf then(zS,(zf,9))else if 0<VW s.1 j then(cc s j,(zf,0))else((bf s j).1,(PC (bf s j).2 0,(bf s j).2))
def YE(s:U8)(a:Int):U8×(Bool×Int):=if(VA s).2≠0 then(zS,(zf,(VA s).2))else match dZ s a with
 |some j=>Zx s j
 |none=>(zS,(zf,4))
theorem ft{s:U8}(m:Sm s)(g:m8 s.1)(a:Int):WG (s,a)=zo (YE s a):=by
 unfold WG;rw[gy m,UG,jM m g];unfold YG YE;by_cases b:(VA s).2=0;rotate_left
 ·rw[zy b,Uq,zx b,zy b];rfl
 rw[zx (show ¬ (VA s).2≠0 by simp[b]),zx (show ¬ (VA s).2≠0 by simp[b]),zx (show ¬ (VA s).2≠0 by simp[b])];have v:=VH.1 b;unfold dZ;cases f:cJ a 0 (VF 0 s.1.2)with
 |none=>rfl
 |some i=>
  obtain⟨j,n,e,k,d,h,l⟩:=v.at f;have:=v.lev.len;simp only[e];unfold Zx Vg;rw[Uq,zy rfl,fu v.lev d (by omega) _ rfl,UG,Vp,Uw];cases hc:Xo s.1 j with
  |false=>rfl
  |true=>
   rw[zy rfl,zx (by simp),UG,Um];by_cases c:0<VW s.1 j
   ·rw[zy (show((VW s.1 j:Int))>0 by omega),zy c,oS m v f e c];rfl
   ·rw[zx (show ¬ ((VW s.1 j:Int))>0 by omega),zx c];rfl
end
section
open Go Sv
theorem gO{ls:List (List VU)}{d:Int}(h:d∈VF 0 ls):∃ (n:Nat) (a b:VU),d=(n:Int)/\ls[n]?=zo [a,b]:=by
 obtain⟨k,c⟩:=ee h;obtain⟨n,e,a,b,f⟩:=ZY c
 grind
theorem iM{l:List (List VU)}{n:Int}(b:0<n)(h:∀ x∈l.flatten,x.1<n):Wy l<n:=by
 have e:∀ (rs:List VU) (m:Int),m<n->(∀ x∈rs,x.1<n)->rs.foldl (λm r=>Uz m r.1) m<n:=by
  intro rs
  induction rs with
  |nil=>simp_all
  |cons r rs d=>
   grind [Zu]
 have two:∀ (ls:List (List VU)) (m:Int),m<n->(∀ rs∈ls,∀ x∈rs,x.1<n)->ls.foldl (λm rs=>rs.foldl (λm r=>Uz m r.1) m) m<n:=by
  intro ls
  induction ls with
  |nil=>simp_all
  |cons rs ls d=>
   grind
 exact two l 0 b λrs a x c=>h x (kd.2 ⟨rs,a,c⟩)
theorem lC{l:List (List VU)}(c:l.getLast? ≠ zo []){n:Nat}(a:VD l n≠[])(b:∀ i,n<i->VD l i=[]):l.length=n+1:=by
 grind [VD,a9,Xn]
theorem eI{js:List Job}{d:Int}{j:Job}(h:V5 js d=zo j):j∈js/\j.1=d:=by
 grind [V5,gG,XL]
theorem nF{L:VB}(v:VLev L){n:Nat}{a b:VU}(h:L.2[n]?=zo [a,b]):JobAt L n (YH L (n:Int)):=by
 have c:VD L.2 n=[a,b]:=by unfold VD;rw[h];rfl
 refine⟨a,b,decide ((n:Int)=(L.2.length:Int)-1),0,h,?_,iz _,λhd=> ?_,VR.vl' v (n:=n) (by grind),VR.vl' v (n:=n) (by grind)⟩
 ·grind [YH,bl]
 grind
theorem jL{s:U8}(v:VSt s){L:VB}(t:VLev L){next a:Int}(E:1<=next)(F:next<=1000001)(G:∀ x∈L.2.flatten,x.1<next)
  (I:∀ (n:Nat) (c f:VU),s.1.2[n]?=zo [c,f]->(n:Int)≠a->(∃ l o,L.2[n]?=zo [l,o])->L.2[n]?=zo [c,f]/\(n+1=s.1.2.length->n+1=L.2.length)):VSt (Zp s L next a):=by
 have b:∀ d∈VF 0 L.2,(YS s L a d).1=d /\ ∃ n,JobAt L n (YS s L a d):=λd hd=>by
  obtain⟨n,l,o,rfl,q⟩:=gO hd;unfold YS;cases r:(if(n:Int)=a then zn else V5 s.2.1 (n:Int))with
  |none=>
   rw[xn];have g:=nF t q;refine⟨?_,n,g⟩;obtain⟨_,_,_,_,_,e,_⟩:=g;rw[e]
  |some j=>
   rw[hU];by_cases p:(n:Int)=a
   ·grind
   rw[zx p]at r;obtain⟨h,i⟩:=eI r;refine⟨i,n,?_⟩;obtain⟨m,c,f,D,k,u,rfl,w,y,z,A⟩:=v.job j h;have J:m=n:=by omega
   subst J;obtain⟨B,C⟩:=I m c f u p ⟨l,o,q⟩;exact⟨c,f,D,k,B,rfl,w,λg=>C (y g),z,A⟩
 refine⟨t,E,F,iM (by show 0<next;omega) G,?_,λj h=> ?_⟩
 ·show((VF 0 L.2).map (YS s L a)).map (·.1)=VF 0 L.2;rw[List.map_map]
  conv=>rhs;rw[<- List.map_id (VF 0 L.2)]
  exact List.map_congr_left λd hd=>(b d hd).1
 ·obtain⟨d,hd,rfl⟩:=i0.1 h;exact(b d hd).2
theorem ZH{l:List (List VU)}{n:Nat}{a b:VU}:l[n]?=zo [a,b]<->VD l n=[a,b]:=by
 grind [VD]
theorem XZ{s:U8}{j:Job}{n:Nat}(b:j.1.toNat=n)(i:Nat):VD (W6 s j).2 i=if WC j≠[]/\i=an s j then(if i=n then[]else VD s.1.2 i)++[(s.2.2,WC j)]else if i=n then[]else VD s.1.2 i:=by
 unfold W6;rw[b];by_cases a:WC j=[]
 ·rw[zy a,zx (by simp[a]),ZA]
 simp_all[zx,ZA,zy]
theorem na{s:U8}(v:VSt s)(f:m8 s.1){n:Nat}{j:Job}(d:JobAt s.1 n j)(p:¬ 0<VW s.1 j)(hc:Xo s.1 j=zt)(q:WC j≠[]->s.2.2<=1000000):VSt (Zp s (W6 s j) (Z5 s j) j.1):=by
 have F:=lA v f d p hc q;obtain⟨M,N,I,O,P⟩:=d.out v.lev (f n);have g:j.1.toNat=n:=by omega
 have z:=v.n1;have A:=v.n2
 have c:s.2.2<=Z5 s j/\Z5 s j<=1000001/\(WC j≠[]->s.2.2<Z5 s j):=by
  unfold Z5
  grind
 refine jL v F.lev (by omega) c.2.1 (λx G=> ?_) (λm l o t r K=> ?_)
 ·obtain⟨i,hi⟩:=bF.1 G;rw[XZ g]at hi
  have h:∀ {y:VU},y∈(if i=n then[]else VD s.1.2 i)->y.1<Z5 s j:=fun {y} k=>by
   by_cases a:i=n
   ·simp_all
   ·rw[zx a]at k;have:=ZX (bF.2 ⟨i,k⟩);have:=v.n3;omega
  grind
 ·have u:m≠n:=λe=>r (by rw[I,e]);have w:VD s.1.2 m=[l,o]:=ZH.1 t
  have E:¬ (WC j≠[]/\m=an s j):=λ⟨C,L⟩=>by
   have:=F.room C
   simp_all[ZA,zx]
  have b:VD (W6 s j).2 m=[l,o]:=by simp_all[XZ,zx]
  refine⟨ZH.2 b,λJ=>(lC F.lev.last (by simp_all) λi hi=> ?_).symm⟩;have a:VD s.1.2 i=[]:=by unfold VD;grind
  have B:n<s.1.2.length:=by
   grind [VD,a9]
  have D:an s j<=n+1:=by unfold an;grind
  rw[XZ g,zx (by omega),a]
  grind
theorem Job.steps{L:VB}{n:Nat}{j:Job}(f:JobAt L n j)(h:0<VW L j):JobAt L n (j.1,am L j):=by
 obtain⟨b,c,a,k,d,rfl,l,g,v0,v1⟩:=f;have i:=ZH.1 d
 have e:VW L ((n:Int),Ww c.2 b.2 a k)=c.2.length+b.2.length-k:=by
  unfold VW;simp only[bl,d];rfl
 rw[e]at h;refine⟨b,c,a,k+1,d,?_,by omega,g,v0,v1⟩;unfold am;simp only[bl,i];have e1:(Ww c.2 b.2 a k).2.1.2.2=a:=di _ _ _ _;have e2:(Ww c.2 b.2 a k).2.2.2.toNat=k:=by rfl
 rw[e1,e2]
theorem oT{s:U8}(v:VSt s){j:Job}{i n:Nat}(c:cJ j.1 0 (VF 0 s.1.2)=zo i)(d:s.2.1[i]?=zo j)(b:JobAt s.1 n j)(a:0<VW s.1 j):VSt (cc s j):=by
 unfold cc;rw[c,hU];refine⟨v.lev,v.n1,v.n2,v.n3,?_,λx hx=> ?_⟩
 ·show(s.2.1.set i (j.1,am s.1 j)).map (·.1)=_;rw[<- v.due,List.map_set];refine xw λk=> ?_<;>grind
 ·rcases List.mem_or_eq_of_mem_set hx with hx|hx
  ·exact v.job x hx
  ·rw[hx];exact⟨n,Job.steps b a⟩
end
section
open Go Sv
theorem ux{B:Int}{M:List (List VU)}{f:(Int×List (List VU))->Option (LR (Int×List (List VU)) (Nat×((Int×List (List VU))×Unit)))}(a:f (B,[])=zo (.dn (0,((B,[]),()))))(hs:∀ k,k<M.length->f (B,M.take (k+1))=if VD M k=[]then zo (.nx (B,M.take k))else zo (.dn (0,((B,M.take (k+1)),())))):∀ k,k<=M.length->Ih (k+1) f (B,M.take k)=zo (0,((B,M.take (Zz M k)),()))
 |0,_=>by rw[List.take_zero];exact Vm a
 |k+1,hk=>by
  have h:=hs k (by omega);unfold Zz;by_cases b:VD M k=[]
  ·rw[zy b]at h ⊢;rw[Vf h];exact ux a hs k (by omega)
  ·rw[zx b]at h ⊢;exact Vm h
theorem tu{M:List (List VU)}{k:Nat}(h:k<M.length):M.take (k+1)=M.take k++[VD M k]:=by
 rw[gs,Xn h];rfl
theorem ik{L:VB}(s:L.2.length<=1000){n:Nat}(u:n<1000){r:List VU}(l:r.length<=1048576)(o:∀ i,(VD L.2 i).length<=1048576):W4 (L,((n:Int),r))=zo (V1 L n r):=by
 have t:(YI L.2 n r).length=max L.2.length (n+1):=by unfold YI;rw[ym,bI]
 unfold W4;simp only[VE,VC];refine Va (ZM (r:=(0,((((max L.2.length (n+1):Nat):Int),(L.1,YI L.2 n r)),()))) (λk=>((k:Int),(L.1,(YI L.2 n r).take k))) (max L.2.length (n+1)) (by simp) (by omega) (λk j=> ?_) ?_) ?_
 ·have c:((YI L.2 n r).take k).length=k:=by grind
  simp only[c];rw[tu (by omega),il,VG (by omega),Uo];by_cases e:k<L.2.length
  ·rw[zy (by omega),Ul,zx (by omega),U9,Ua (Xn e),Uk];by_cases a:k=n
   ·rw[zy (by omega),zy a,Vo l,Vo (by grind [A0,ci,co])];rfl
   ·rw[zx (by omega),zx a,Vo (o k),Vo (by grind [A0,ci,co])];rfl
  ·rw[zx (by omega),Un,zy (by omega),Ul,zy (by omega),Uk];by_cases a:k=n
   ·rw[zy (by omega),zy a,Vo l,Vo (by grind [A0,ci,co])];rfl
   ·rw[zx (by omega),zx a,Vo (by grind [A0,ci,co])];have:VD L.2 k=[]:=by unfold VD;rw[a9 (by omega)];rfl
    rw[this];rfl
 ·have c:(YI L.2 n r).take (max L.2.length (n+1))=YI L.2 n r:=ey (by omega);simp only;rw[Uo,zx (by omega),Un,zx (by omega),c]
 ·have d:=ux (B:=L.1) (M:=YI L.2 n r) (f:=λb=>br (UT (b.2.length:Int) 0) (λ_=>S1 (TM .i64 (b.2.length:Int) 1) λp=>ix b.2 p λq=>br (PC (q.length:Int) 0) (λ_=>S1 (TM .i64 (b.2.length:Int) 1) λg=>gd (B2 g b.2.length) λ_=>gd (B2 0 g) λ_=>zo (.nx (b.1,DV b.2 0 g))) λ_=>zo (.dn ((0,(b,()))))) λ_=>zo (.dn ((0,(b,()))))) rfl (λk j=>by
   have c:((YI L.2 n r).take (k+1)).length=k+1:=by grind
   have hi:TM .i64 ((k+1:Nat):Int) 1=(k:Int):=by rw[Tq (by omega)];omega
   have m:((YI L.2 n r).take (k+1))[k]?=zo (VD (YI L.2 n r) k):=by rw[xl,zy (by omega),Xn j]
   simp only[c,hi];rw[Um,zy (by omega),U9,Ua m,gH];by_cases h:VD (YI L.2 n r) k=[]
   ·rw[zy h,zy h,U9,Vo (by omega),Vo (by omega)]
    have:DV ((YI L.2 n r).take (k+1)) 0 k=(YI L.2 n r).take k:=by
     unfold DV;grind
    rw[this]
   simp_all) _ (eb _)
  rw[ey (eb _)]at d;exact Va (WK (by omega) d) rfl
end
section
open Go Sv
theorem mQ{s:U8}(m:Sm s)(v:VSt s){a:Int}{i:Nat}(q:cJ a 0 (VF 0 s.1.2)=zo i){j:Job}(g:s.2.1[i]?=zo j)(t:0<VW s.1 j):ZV (s,(a,1))=zo (cc s j,(1,0)):=by
 obtain⟨j',n,e,z,w,u,C⟩:=v.at q;rw[g]at e;cases e;subst z;have r:(VA s).2=0:=VH.2 v
 have h:Zr s (n:Int)=((i:Int),0):=by
  simp_all[Zr,zx,VA]
 have o:YG (0:Int) (λs j=>((VW s.1 j:Int),0)) s (n:Int)=((VW s.1 j:Int),0):=by
  simp_all[YG,dZ,zx,VA]
 have x:=v.jsmall;have hi:=(a8.1 g).1;unfold ZV;rw[AAk m,UG,Uk,zy r,Uo,zx (show ¬ ((1:Int)<0) by omega),Uq,zy r,aL m,o,UG,Uk,zy rfl,Uk,zx (show ¬ ((VW s.1 j:Int)=0) by omega),Uq,zy rfl,bJ m,h,UG,U9,Ua g];obtain⟨b,c,d,k,p,rfl,y,B,v0,v1⟩:=u;have A:VD s.1.2 n=[b,c]:=by unfold VD;rw[p];rfl
 have l:VW s.1 ((n:Int),Ww c.2 b.2 d k)=c.2.length+b.2.length-k:=by
  unfold VW;simp only[bl,p];rfl
 rw[l]at t;have f:=eh v1 v0 d y (k:=1);rw[show min 1 (c.2.length+b.2.length-k)=1 by omega]at f;show(bd (Vj (Ww c.2 b.2 d k,((1:Nat):Int))) λD=>_)=_;rw[f,UG];simp only;rw[Vo (by simp only[AQ];omega),U9,UQ,zy (by simp only[AQ];exact hi),Ua g];unfold cc am;simp only[bl,A,q,hU];have e1:(Ww c.2 b.2 d k).2.1.2.2=d:=di _ _ _ _;have e2:(Ww c.2 b.2 d k).2.2.2.toNat=k:=by rfl
 simp_all
theorem mN{L:VB}(v:VLev L){n:Nat}(h:(VD L.2 n).length=2):WD (L,(n:Int))=zo (YH L n,0):=by
 have a:n<L.2.length:=by
  grind [VD,a9]
 have g:=v.len;obtain⟨e,f⟩:=v.small;unfold WD;simp only[VE,VC];rw[jo _ e f,YC v,UG,Uk,zy rfl,Uo,zx (by omega),Ul,zx (by omega),Uk,zy rfl,Ul,zx (by omega),U9,Ua (Xn a),Uo,zx (by omega),Uq,zy rfl,ec v a,UG]
 obtain⟨c,d,b⟩:∃ c d,VD L.2 n=[c,d]:=by
  match hq:VD L.2 n with
  |[c,d]=>simp_all
  |[]=>simp_all
  |[_]=>simp_all
  |_::_::_::_=>simp_all
 rw[fb _ (by rw[Xn a,b]) (VR.vl' v (n:=n) (by grind)) (VR.vl' v (n:=n) (by grind)),UG]
 simp_all[YH,bl]
theorem cj(l:List U7)(c:l.length<=9223372036854775807):XI (l,l)=zo zt:=by
 unfold XI;simp only[VE,VC];refine Va (ZM (r:=(1,(((l.length:Int),zf),()))) (λk=>((k:Int),zf)) l.length rfl (by omega) (λk a=> ?_) (by simp only;rw[re];rfl)) ?_
 ·have b:l[k]?=zo l[k]:=eo a;simp only;rw[rl a,Tj,Tj,U9,Ua b,U9,Ua b,dw,zy rfl,VG (by omega)]
 simp_all[PC,UH,zx]
theorem i8(r:VU)(a:r.2.length<=9223372036854775807):YX (r,r)=zo zt:=by
 unfold YX;rw[Uk,zy rfl,cj _ a];rfl
theorem gT(l:List VU)(c:l.length<=1048576)(h:∀ r∈l,r.2.length<=9223372036854775807):X8 (l,l)=zo zt:=by
 unfold X8;simp only[VE,VC];rw[Uq,zy rfl];refine Va (ZM (r:=(1,(((l.length:Int),zf),()))) (λk=>((k:Int),zf)) l.length rfl (by omega) (λk a=> ?_) (by simp only;rw[re];rfl)) rfl;have b:l[k]?=zo l[k]:=eo a;simp only;rw[rl a,Tj,U9,Ua b,U9,Ua b,i8 _ (h _ (l5 a)),UG,aq,TA,VG (by omega)]
theorem i7(L:VB)(e:L.2.length<=1048576)(d:∀ rs∈L.2,rs.length<=1048576 /\ ∀ r∈rs,r.2.length<=9223372036854775807):ZU (L,L)=zo zt:=by
 unfold ZU;simp only[VE,VC];rw[Uq,zy rfl,Uq,zy rfl];refine Va (ZM (r:=(1,(((L.2.length:Int),zf),()))) (λk=>((k:Int),zf)) L.2.length rfl (by omega) (λk b=> ?_) (by simp only;rw[re];rfl)) rfl;have c:L.2[k]?=zo L.2[k]:=eo b;have a:=d _ (l5 b);simp only;rw[rl b,Tj,U9,Ua c,U9,Ua c,gT _ a.1 a.2,UG,aq,TA,VG (by omega)]
theorem i6{L:VB}{n:Nat}{j:Job}(h:JobAt L n j):YZ (j,j)=zo zt:=by
 obtain⟨g,i,a,k,_,rfl,b,_,v0,v1⟩:=h;obtain⟨s1,s2,c,d,e,f⟩:=cu v1 v0 a b;unfold YZ;rw[Uk,zy rfl,eX _ _ s1 s2 c d e f];simp[UG]
theorem jr{t:U8}(v:VSt t):YA (t,t)=zo zt:=by
 have m:=v.sm;have d:=v.jsmall;unfold YA;simp only[VE,VC];rw[i7 _ m.lv m.rs,UG,aq,TA,Uq,zy rfl,Uq,zy rfl];refine Va (ZM (r:=(1,(((t.2.1.length:Int),zf),()))) (λk=>((k:Int),zf)) t.2.1.length rfl (by omega) (λk a=> ?_) (by simp only;rw[re];rfl)) rfl;have b:t.2.1[k]?=zo t.2.1[k]:=eo a;obtain⟨n,c⟩:=v.job _ (l5 a);simp only;rw[rl a,Tj,U9,Ua b,U9,Ua b,i6 c,UG,aq,TA,VG (by omega)]
theorem AAo:YA (zS,zS)=zo zt:=by rfl
end
section
open Go Sv
abbrev m9:=(Int×qM)
def iJ(j:Job):m9:=(j.1,(j.2.1.1,(j.2.1.2.1,(j.2.1.2.2.1,(j.2.1.2.2.2.1,(j.2.1.2.2.2.2,(j.2.2.1.1,(j.2.2.1.2.1,(j.2.2.1.2.2,(j.2.2.2.1,j.2.2.2.2))))))))))
theorem l7(p:List Job)(x:Job)(d:Int):V5 (p++[x]) d=(V5 p d).or (if x.1=d then zo x else zn):=by
 grind [V5,gG,XL]
theorem nH{s:U8}(z:(s.2.1.map (·.1)).Nodup)(A:s.2.1.length<=1000)(L:VB)(a:Int){D:List Int}{i:Nat}{d:Int}(hi:D[i]?=zo d):(loop (λ(c:Int×m9)=>br (UV c.1 (s.2.1.length:Int)) (λ_=>S1 c.1 λg=>ix s.2.1 g λq=>S1 (i:Int) λm=>ix D m λr=>br (PC q.1 r) (λ_=>S1 (i:Int) λn=>ix D n λt=>br (Sx t a) (λ_=>S1 c.1 λo=>ix s.2.1 o λb=>zo (.nx ((TI .i64 c.1 1,(b.1,(b.2.1.1,(b.2.1.2.1,(b.2.1.2.2.1,(b.2.1.2.2.2.1,(b.2.1.2.2.2.2,(b.2.2.1.1,(b.2.2.1.2.1,(b.2.2.1.2.2,b.2.2.2))))))))))))) λ_=>zo (.nx (TI .i64 c.1 1,c.2))) λ_=>zo (.nx (TI .i64 c.1 1,c.2))) λ_=>zo (.dn (((0:Nat),(c,()))))) ((0:Int),iJ (YH L d)))=zo (0,(((s.2.1.length:Int),iJ (YS s L a d)),())):=by
 refine WL (l:=s.2.1) (σ:=Job) (s:=((0:Int),iJ (YH L d))) (λk j=>((k:Int),iJ j)) (λls k j=>∃ p,s.2.1=p++ls/\j=(if d=a then zn else V5 p d).getD (YH L d)) (λ_ _ _=>(0,(((s.2.1.length:Int),iJ (YS s L a d)),()))) (YH L d) rfl (by omega) ⟨[],rfl,by split<;>rfl⟩ (λj h=> ?_) (λk x ls j hd w y h=> ?_)
 ·obtain⟨p,f,rfl⟩:=h;rw[gM]at f;simp only;rw[re,TA,<- f];rfl
 ·obtain⟨p,f,rfl⟩:=h
  have C:x.1 ∉ p.map (·.1):=λB=>by
   grind
  refine⟨(if d=a then zn else V5 (p++[x]) d).getD (YH L d),?_,⟨p++[x],by grind,rfl⟩,rfl⟩
  simp only;rw[rl y,Tj,U9,Ua w,U9,Ua hi,Uk,VG (by omega),l7];by_cases e:x.1=d
  ·rw[zy e,U9,Ua hi,Uq,U9,Ua w,zy e];by_cases u:d=a
   ·grind
   ·rw[zx u,zx u,aa (by grind)];rfl
  ·rw[zx e,zx e];have:(V5 p d).or zn=V5 p d:=by grind
   rw[this]
theorem dt{s:U8}(A:(s.2.1.map (·.1)).Nodup)(C:s.2.1.length<=1000){L:VB}(v:VLev L)(next b:Int):loop (λ(g:(Int×(Int×((List (List VU))×((List Job)×Int)))))=>br (UV g.1 ((VF 0 L.2).length:Int)) (λ_=>S1 g.1 λm=>ix (VF 0 L.2) m λt=>bd (WD (((g.2.1,g.2.2.1),t))) λc=>bd (loop (λ(f:Int×m9)=>br (UV f.1 (s.2.1.length:Int)) (λ_=>S1 f.1 λo=>ix s.2.1 o λu=>S1 g.1 λp=>ix (VF 0 L.2) p λw=>br (PC u.1 w) (λ_=>S1 g.1 λq=>ix (VF 0 L.2) q λx=>br (Sx x b) (λ_=>S1 f.1 λr=>ix s.2.1 r λe=>zo (.nx ((TI .i64 f.1 1,(e.1,(e.2.1.1,(e.2.1.2.1,(e.2.1.2.2.1,(e.2.1.2.2.2.1,(e.2.1.2.2.2.2,(e.2.2.1.1,(e.2.2.1.2.1,(e.2.2.1.2.2,e.2.2.2))))))))))))) λ_=>zo (.nx (TI .i64 f.1 1,f.2))) λ_=>zo (.nx (TI .i64 f.1 1,f.2))) λ_=>zo (.dn (((0:Nat),(f,()))))) (((0:Int),(c.1.1,(c.1.2.1.1,(c.1.2.1.2.1,(c.1.2.1.2.2.1,(c.1.2.1.2.2.2.1,(c.1.2.1.2.2.2.2,(c.1.2.2.1.1,(c.1.2.2.1.2.1,(c.1.2.2.1.2.2,c.1.2.2.2)))))))))))) λa=>gd (B2 (A0 g.2.2.2.1.length [((a.2.1.2.1,((a.2.1.2.2.1,(a.2.1.2.2.2.1,(a.2.1.2.2.2.2.1,(a.2.1.2.2.2.2.2.1,a.2.1.2.2.2.2.2.2.1)))),((a.2.1.2.2.2.2.2.2.2.1,(a.2.1.2.2.2.2.2.2.2.2.1,a.2.1.2.2.2.2.2.2.2.2.2.1)),a.2.1.2.2.2.2.2.2.2.2.2.2))):Job)].length) 1048576) λ_=>zo (.nx ((TI .i64 g.1 1,(g.2.1,(g.2.2.1,(If g.2.2.2.1 ([(a.2.1.2.1,((a.2.1.2.2.1,(a.2.1.2.2.2.1,(a.2.1.2.2.2.2.1,(a.2.1.2.2.2.2.2.1,a.2.1.2.2.2.2.2.2.1)))),((a.2.1.2.2.2.2.2.2.2.1,(a.2.1.2.2.2.2.2.2.2.2.1,a.2.1.2.2.2.2.2.2.2.2.2.1)),a.2.1.2.2.2.2.2.2.2.2.2.2)))]),g.2.2.2.2))))))) λ_=>zo (.dn (((0:Nat),(g,()))))) (((0:Int),(L.1,(L.2,(([]:List Job),next)))))=zo (0,((((VF 0 L.2).length:Int),(L.1,(L.2,((VF 0 L.2).map (YS s L b),next)))),())):=by
 have F:=v.len;have hd:=XE L.2 0;refine WL (l:=VF 0 L.2) (σ:=List Job) (λi js=>((i:Int),(L.1,(L.2,(js,next))))) (λls i js=>js++ls.map (YS s L b)=(VF 0 L.2).map (YS s L b)) (λ_ _ _=>(0,((((VF 0 L.2).length:Int),(L.1,(L.2,((VF 0 L.2).map (YS s L b),next)))),()))) [] rfl (by omega) rfl (λjs h=> ?_) (λi d ls js z hi B h=> ?_)
 ·simp_all[re,TA]
 ·refine⟨js++[YS s L b d],?_,by simp_all,rfl⟩;obtain⟨n,G,I,k,D⟩:=gO (bo hi);have y:=mN v (n:=n) (by rw[ZH.1 D];rfl);rw[<- k]at y
  have E:js.length<=1000:=by
   grind [s6,List.length_map]
  simp only;rw[rl B,Tj,U9,Ua hi];have j:WD ((L.1,L.2),d)=zo (YH L d,0):=y;rw[j,UG];refine Va (nH A C L b hi) ?_;rw[Vo (by grind [A0,ci,co]),VG (by omega)];rfl
end
section
open Go Sv
theorem bD{α β σ S:Type}{l:List α}(c:Nat)(e:c<=1000)(mk:Nat->σ->S)(I:Nat->σ->Prop)(Q:β->Prop){f:S->Option (LR S β)}{s:S}(a:σ)(d:s=mk 0 a)(hi:I 0 a)
  (g:∀ k a,(k=l.length\/k=c)->k<=l.length->I k a -> ∃ r,f (mk k a)=zo (.dn r)/\Q r)
  (hc:∀ k x a,l[k]?=zo x->k<c->I k a->(∃ b,f (mk k a)=zo (.nx (mk (k+1) b))/\I (k+1) b) \/ ∃ r,f (mk k a)=zo (.dn r)/\Q r):∃ r,loop f s=zo r/\Q r:=by
 refine Xi (l:=l.take c) mk (λ_ k a=>I k a/\k<=(l.take c).length) Q a d (by simp;omega) ⟨hi,by omega⟩ (λa h=>g _ a (by simp;omega) (by simp;omega) h.1) (λk x m a hd j i h=> ?_)
 grind
theorem eF{k c:Nat}(h:k<c):UV (k:Int) (c:Int)=zt:=by unfold UV;simp;omega
theorem nO{α β:Type}{l:List α}{k c:Nat}(h:k=l.length\/k=c)(b:k<=l.length)(A B C:Option β)(e:B=C):br (UV (k:Int) (l.length:Int)) (λ_=>br (UV (k:Int) (c:Int)) (λ_=>A) λ_=>B) (λ_=>C)=C:=by
 rw[Uo];by_cases a:(k:Int)<(l.length:Int)
 ·rw[zy a,Uo,zx (by omega),e]
 grind
end
section
open Go Sv
end
section
open Go Sv
theorem oZ(L:VB)(n:Nat):Yr (L,(n:Int))=zo (VD L.2 n):=by
 unfold Yr;simp only[VE,VC];rw[Ul];by_cases h:n<L.2.length
 ·rw[zx (by omega),U9,Ua (Xn h)]
 ·rw[zy (by omega)];unfold VD;rw[a9 (by omega)];rfl
theorem eZ{s:U8}(v:VSt s)(hf:m8 s.1){n:Nat}{j:Job}(ha:JobAt s.1 n j)(h0:¬ 0<VW s.1 j)(hc:Xo s.1 j=zt)(h5:WC j≠[]->s.2.2<=1000000){W:Int}(D:W=(an s j:Int)) :
  (bd (W4 ((s.1,((n:Int),[])))) λp=>br (UT (K7 (AQ j.2.2.2.1)) 0) (λ_=>bd (Yr (p,W)) λu=>gd (B2 (AQ u) 1048576) λ_=>gd (B2 (A0 (AQ u) (AQ ([(s.2.2,j.2.2.2.1)]))) 1048576) λ_=>bd (W4 ((p,(W,If u ([(s.2.2,j.2.2.2.1)]))))) λw=>bd (WA w) λq=>bd (loop (λ(c:(Int×qL))=>br (UV c.1 (K7 (AQ q))) (λ_=>S1 c.1 λE=>ix q E λX=>bd (WD (((c.2.1,c.2.2.1),X))) λe=>bd (loop (λ(l:(Int×(Int×qM)))=>br (UV l.1 (K7 (AQ s.2.1))) (λ_=>S1 l.1 λG=>ix s.2.1 G λY=>S1 c.1 λI=>ix q I λZ=>br (PC Y.1 Z) (λ_=>S1 c.1 λJ=>ix q J λx54=>br (Sx x54 (n:Int)) (λ_=>S1 l.1 λK=>ix s.2.1 K λg=>zo (.nx ((TI .i64 l.1 1,(g.1,(g.2.1.1,(g.2.1.2.1,(g.2.1.2.2.1,(g.2.1.2.2.2.1,(g.2.1.2.2.2.2,(g.2.2.1.1,(g.2.2.1.2.1,(g.2.2.1.2.2,g.2.2.2))))))))))))) λ_=>zo (.nx (TI .i64 l.1 1,l.2))) λ_=>zo (.nx (TI .i64 l.1 1,l.2))) λ_=>zo (.dn ((0,(l,()))))) ((0,(e.1.1,(e.1.2.1.1,(e.1.2.1.2.1,(e.1.2.1.2.2.1,(e.1.2.1.2.2.2.1,(e.1.2.1.2.2.2.2,(e.1.2.2.1.1,(e.1.2.2.1.2.1,(e.1.2.2.1.2.2,e.1.2.2.2)))))))))))) λa=>gd (B2 (A0 (AQ c.2.2.2.1) (AQ ([(a.2.1.2.1,((a.2.1.2.2.1,(a.2.1.2.2.2.1,(a.2.1.2.2.2.2.1,(a.2.1.2.2.2.2.2.1,a.2.1.2.2.2.2.2.2.1)))),((a.2.1.2.2.2.2.2.2.2.1,(a.2.1.2.2.2.2.2.2.2.2.1,a.2.1.2.2.2.2.2.2.2.2.2.1)),a.2.1.2.2.2.2.2.2.2.2.2.2)))]))) 1048576) λ_=>zo (.nx ((TI .i64 c.1 1,(c.2.1,(c.2.2.1,(If c.2.2.2.1 ([(a.2.1.2.1,((a.2.1.2.2.1,(a.2.1.2.2.2.1,(a.2.1.2.2.2.2.1,(a.2.1.2.2.2.2.2.1,a.2.1.2.2.2.2.2.2.1)))),((a.2.1.2.2.2.2.2.2.2.1,(a.2.1.2.2.2.2.2.2.2.2.1,a.2.1.2.2.2.2.2.2.2.2.2.1)),a.2.1.2.2.2.2.2.2.2.2.2.2)))]),c.2.2.2.2))))))) λ_=>zo (.dn ((0,(c,()))))) ((0,(w.1,(w.2,([],TI .i64 s.2.2 1)))))) λy=>zo ((((y.2.1.2.1,y.2.1.2.2.1),y.2.1.2.2.2),0))) λ_=>bd (WA p) λt=>bd (loop (λ(d:(Int×qL))=>br (UV d.1 (K7 (AQ t))) (λ_=>S1 d.1 λN=>ix t N λx62=>bd (WD (((d.2.1,d.2.2.1),x62))) λf=>bd (loop (λ(m:(Int×(Int×qM)))=>br (UV m.1 (K7 (AQ s.2.1))) (λ_=>S1 m.1 λO=>ix s.2.1 O λx66=>S1 d.1 λP=>ix t P λx68=>br (PC x66.1 x68) (λ_=>S1 d.1 λS=>ix t S λx70=>br (Sx x70 (n:Int)) (λ_=>S1 m.1 λU=>ix s.2.1 U λk=>zo (.nx ((TI .i64 m.1 1,(k.1,(k.2.1.1,(k.2.1.2.1,(k.2.1.2.2.1,(k.2.1.2.2.2.1,(k.2.1.2.2.2.2,(k.2.2.1.1,(k.2.2.1.2.1,(k.2.2.1.2.2,k.2.2.2))))))))))))) λ_=>zo (.nx (TI .i64 m.1 1,m.2))) λ_=>zo (.nx (TI .i64 m.1 1,m.2))) λ_=>zo (.dn ((0,(m,()))))) ((0,(f.1.1,(f.1.2.1.1,(f.1.2.1.2.1,(f.1.2.1.2.2.1,(f.1.2.1.2.2.2.1,(f.1.2.1.2.2.2.2,(f.1.2.2.1.1,(f.1.2.2.1.2.1,(f.1.2.2.1.2.2,f.1.2.2.2)))))))))))) λb=>gd (B2 (A0 (AQ d.2.2.2.1) (AQ ([(b.2.1.2.1,((b.2.1.2.2.1,(b.2.1.2.2.2.1,(b.2.1.2.2.2.2.1,(b.2.1.2.2.2.2.2.1,b.2.1.2.2.2.2.2.2.1)))),((b.2.1.2.2.2.2.2.2.2.1,(b.2.1.2.2.2.2.2.2.2.2.1,b.2.1.2.2.2.2.2.2.2.2.2.1)),b.2.1.2.2.2.2.2.2.2.2.2.2)))]))) 1048576) λ_=>zo (.nx ((TI .i64 d.1 1,(d.2.1,(d.2.2.1,(If d.2.2.2.1 ([(b.2.1.2.1,((b.2.1.2.2.1,(b.2.1.2.2.2.1,(b.2.1.2.2.2.2.1,(b.2.1.2.2.2.2.2.1,b.2.1.2.2.2.2.2.2.1)))),((b.2.1.2.2.2.2.2.2.2.1,(b.2.1.2.2.2.2.2.2.2.2.1,b.2.1.2.2.2.2.2.2.2.2.2.1)),b.2.1.2.2.2.2.2.2.2.2.2.2)))]),d.2.2.2.2))))))) λ_=>zo (.dn ((0,(d,()))))) ((0,(p.1,(p.2,([],s.2.2)))))) λz=>zo ((((z.2.1.2.1,z.2.1.2.2.1),z.2.1.2.2.2),0)):Option (U8×Int))=zo (Zp s (W6 s j) (Z5 s j) j.1,0):=by
 have F:=lA v hf ha h0 hc h5;obtain⟨o1,o2,o3,o4,o5⟩:=ha.out v.lev (hf n);have hj:j.1.toNat=n:=by omega
 have hn2:=v.n2;have hn1:=v.n1;have hjs:=v.jsmall;have o:=F.lev;have hl:=v.lev.len;have hl1:=F.l1.len;have small:∀ {M:VB},VLev M -> ∀ i,(VD M.2 i).length<=1048576:=λvM i=>by have:=(vM.own i).1;omega
 rw[ik (by omega) (by omega) (by simp) (small v.lev),UG];simp only[VE,VC];rw[Um];by_cases A:WC j=[]
 ·rw[zx (show ¬ ((j.2.2.2.1.length:Int)>0) by rw[show j.2.2.2.1=[]from A];simp)];have B:W6 s j=V1 s.1 n []:=by unfold W6;simp_all
  have C:Z5 s j=s.2.2:=by unfold Z5;grind
  rw[<- B,dg (by grind),UG];refine Va (dt v.nodup (by omega) o s.2.2 (n:Int)) ?_;rw[C,o3];rfl
 ·rw[zy (show((j.2.2.2.1.length:Int)>0) by have:=dc.2 A;have h:(WC j).length=j.2.2.2.1.length:=rfl;omega),D,oZ,UG];have hro:=F.room A;have ht:=F.to12 A
  have B:W6 s j=V1 (V1 s.1 n []) (an s j) (VD (V1 s.1 n []).2 (an s j)++[(s.2.2,WC j)]):=by
   unfold W6;simp_all
  have C:Z5 s j=s.2.2+1:=by unfold Z5;grind
  rw[Vo (by omega),Vo (by grind [A0,ci,co])];have hW:=ik (L:=V1 s.1 n []) (n:=an s j) (r:=VD (V1 s.1 n []).2 (an s j)++[(s.2.2,WC j)]) (by omega) (by omega) (by simp;omega) (small F.l1);rw[<- B]at hW;refine Va (x:=W6 s j) hW ?_;rw[dg (by have:=o.len;omega),UG,To (by omega)];refine Va (dt v.nodup (by omega) o (s.2.2+1) (n:Int)) ?_;rw[C,o3];rfl
theorem ii{s:U8}(m:Sm s)(k:m8 s.1)(a:Int):Ya (s,a)=zo (YG zS bf s a):=by
 unfold Ya;rw[jk m,UG,bJ m,gQ m];unfold YG;by_cases b:(VA s).2=0;rotate_left
 ·rw[zy b,Uq,zx b,zy b];rfl
 rw[zx (show ¬ (VA s).2≠0 by simp[b]),zx (show ¬ (VA s).2≠0 by simp[b]),zx (show ¬ (VA s).2≠0 by simp[b])];have v:=VH.1 b;unfold dZ Zr;rw[zx (show ¬ (VA s).2≠0 by simp[b])];cases q:cJ a 0 (VF 0 s.1.2)with
 |none=>rfl
 |some i=>
  obtain⟨j,n,l,p,o,g,r⟩:=v.at q;have:=v.lev.len;subst p;simp only[l];unfold bf cp;by_cases c:0<VW s.1 j
  ·rw[zy c,zy (.inl c)];rfl
  rw[zx c]
  have f:(if YJ s.1 j=zt then(j.1,(0:Int))else(j.1+1,0))=((an s j:Int),0):=by
   grind [an]
  rw[f,Uq,zy rfl,UG,U9,Ua l,UG,Vp,Uw];by_cases hc:Xo s.1 j=zt;rotate_left
  ·rw[zx hc,zy (.inr (by grind))];rfl
  rw[zy hc,zx (show ¬ (0<VW s.1 j\/Xo s.1 j=zf) by simp_all),Um];by_cases e:s.2.2>1000000
  ·rw[zy e,Um];by_cases d:WC j=[]
   ·rw[zx (show ¬ (K7 (AQ j.2.2.2.1)>0) by rw[show j.2.2.2.1=[]from d];simp[VE,VC]),zx (by simp[d])];dsimp only;exact eZ v k g c hc (λh=>absurd d h) rfl
   ·rw[zy (show K7 (AQ j.2.2.2.1)>0 by have:=dc.2 d;have h:(WC j).length=j.2.2.2.1.length:=rfl;rw[VE,VC];omega),zy ⟨e,d⟩];rfl
  ·rw[zx e,zx (by simp[e])];dsimp only;exact eZ v k g c hc (λh=>by omega) rfl
theorem mM{s:U8}(m:Sm s)(f:m8 s.1)(a:Int):aY (s,a)=zo (YE s a):=by
 unfold aY;rw[gQ m,UG,aL m,ii m f];unfold YG YE;by_cases b:(VA s).2=0;rotate_left
 ·rw[zy b,zy b,Uk,zx b];rw[Uq,zx b,zy b];rfl
 rw[zx (show ¬ (VA s).2≠0 by simp[b]),zx (show ¬ (VA s).2≠0 by simp[b]),zx (show ¬ (VA s).2≠0 by simp[b]),zx (show ¬ (VA s).2≠0 by simp[b])];have v:=VH.1 b;unfold dZ;cases e:cJ a 0 (VF 0 s.1.2)with
 |none=>
  rfl
 |some i=>
  obtain⟨j,n,d,k,g,h,l⟩:=v.at e;simp only[d];unfold Zx;rw[Uk,zy rfl,Vp,Uw];by_cases hc:Xo s.1 j=zt;rotate_left
  ·rw[zx hc,zy (by grind)];rfl
  rw[zy hc,zx (by simp[hc]),Uq,zy rfl,UG,Um];by_cases c:0<VW s.1 j
  ·rw[zy (show((VW s.1 j:Int))>0 by omega),zy c,mQ m v e d c];rfl
  ·rw[zx (show ¬ ((VW s.1 j:Int))>0 by omega),zx c];rfl
end
section
open Go Sv
def Ve(l:List U7)(k:YF):Option U7:=l.find? λx=>decide (x.1=k)
theorem Vi(x:U7)(l:List U7)(k:YF):Ve (x::l) k=if x.1=k then zo x else Ve l k:=by
 grind [Ve]
theorem aF(l m:List U7)(k:YF):Ve (l++m) k=(Ve l k).or (Ve m k):=by
 unfold Ve;simp_all
theorem ZL(x:U7)(k:YF):Ve [x] k=if x.1=k then zo x else zn:=by rw[Vi];rfl
theorem eC{l:List U7}{k:YF}{x:U7}(h:Ve l k=zo x):x.1=k/\x∈l:=by
 grind [Ve]
theorem ZZ{l:List U7}{k:YF}(h:∀ x∈l,x.1≠k):Ve l k=zn:=by
 grind [Ve,xb]
theorem bp:∀ {l:List U7} {q:YF},Asc (zo q) l -> ∀ x∈l,TZ q x.1=zt
 |x::l,q,⟨a,b⟩,y,hy=>by
  rcases ml.1 hy with e|hy
  ·simp_all
  ·exact XO (a q rfl) (bp b y hy)
theorem bM:∀ {l m:List U7} {p q:Option YF},Asc p l->Asc q m->(∀ k,Ve l k=Ve m k)->l=m
 |[],[],_,_,_,_,_=>rfl
 |[],y::m,_,_,_,_,h=>by
  have:=h y.1;rw[Vi,zy rfl]at this;cases this
 |x::l,[],_,_,_,_,h=>by
  have:=h x.1;rw[Vi,zy rfl]at this;cases this
 |x::l,y::m,p,q,⟨t,f⟩,⟨s,d⟩,h=>by
  have e1:=h x.1;have e2:=h y.1;rw[Vi,zy rfl,Vi]at e1;rw[Vi,Vi,zy rfl]at e2
  have g:x.1=y.1:=by
   by_cases b:y.1=x.1
   ·grind
   ·rw[zx b]at e1;rw[zx (λe=>b e.symm)]at e2;have n:=bp d x (eC e1.symm).2;have j:=bp f y (eC e2).2;rw[WQ n]at j;cases j
  rw[zy g.symm]at e1;have c:x=y:=Option.some.inj e1;subst c;refine congrArg (x::·) (bM f d λk=> ?_);have b:=h k;rw[Vi,Vi]at b;by_cases a:x.1=k
  ·have o:Ve l k=zn:=ZZ λz i=>by
    have:=bp f z i;rw[a]at this;exact λe=>ai this e.symm
   have r:Ve m k=zn:=ZZ λz i=>by
    have:=bp d z i;rw[a]at this;exact λe=>ai this e.symm
   rw[o,r]
  simp_all
theorem Yz(P:U7->Bool):∀ {l:List U7} {p:Option YF},Asc p l->Asc p (l.filter P)
 |[],_,_=>trivial
 |x::l,p,⟨b,d⟩=>by
  have c:=Yz P d;rw[x9];cases P x with
  |true=>exact⟨b,c⟩
  |false=>
   refine c.weak λe a=>⟨x.1,rfl,?_⟩;exact WQ (b e a)
theorem Xy(P:U7->Bool)(k:YF):∀ {l:List U7} {p:Option YF},Asc p l->Ve (l.filter P) k=(Ve l k).filter P
 |[],_,_=>rfl
 |x::l,p,⟨g,b⟩=>by
  have f:=Xy P k b;rw[x9,Vi];by_cases a:x.1=k
  ·rw[zy a]
   have h:Ve (l.filter P) k=zn:=ZZ λz d=>by
    have:=bp b z (List.mem_filter.1 d).1;rw[a]at this;exact λe=>ai this e.symm
   cases c:P x with
   |true=>rw[zy rfl,Vi,zy a];grind
   |false=>grind
  ·rw[zx a];cases c:P x with
   |true=>rw[zy rfl,Vi,zx a];exact f
   |false=>grind
def cv:List U7->U7->List U7
 |[],x=>[x]
 |y::l,x=>if TZ y.1 x.1=zt then y::cv l x else if y.1=x.1 then y::l else x::y::l
theorem gq(x:U7):∀ {l:List U7} {p:Option YF},Asc p l->(∀ q,p=zo q->TZ q x.1=zt)->Asc p (cv l x)
 |[],p,_,hp=>⟨hp,trivial⟩
 |y::l,p,⟨c,a⟩,hp=>by
  unfold cv;by_cases h:TZ y.1 x.1=zt
  ·rw[zy h];exact⟨c,gq x a λq d=>by simp_all⟩
  ·rw[zx h];by_cases b:y.1=x.1
   ·rw[zy b];exact⟨c,a⟩
   ·rw[zx b];exact⟨hp,λq d=>by cases d;exact aj (by grind) b,a⟩
theorem gr(x:U7)(k:YF):∀ {l:List U7} {p:Option YF},Asc p l->Ve (cv l x) k=(Ve l k).or (if x.1=k then zo x else zn)
 |[],_,_=>by unfold cv;rw[ZL];rfl
 |y::l,p,⟨f,c⟩=>by
  unfold cv;by_cases h:TZ y.1 x.1=zt
  ·rw[zy h,Vi,Vi,gr x k c]
   grind
  ·rw[zx h];by_cases a:y.1=x.1
   ·rw[zy a,Vi,<- a]
    grind
   ·rw[zx a,Vi];have b:TZ x.1 y.1=zt:=aj (by grind) a;by_cases d:x.1=k
    ·rw[zy d]
     have:Ve (y::l) k=zn:=ZZ λz hz=>by
      rw[<- d];rcases ml.1 hz with e|hz
      ·simp_all
      ·exact λe=>ai (XO b (bp c z hz)) e.symm
     simp_all
    simp_all
theorem cM(k:YF):∀ (r l:List U7),Asc zn l->Asc zn (r.foldl cv l)/\Ve (r.foldl cv l) k=(Ve l k).or (Ve r k)
 |[],l,h=>⟨h,by show Ve l k=_;cases Ve l k<;>rfl⟩
 |x::r,l,h=>by
  obtain⟨a,b⟩:=cM k r (cv l x) (gq x h λ_ h=>by cases h)
  grind [gr,Vi]
def lY(rs:List VU)(l:List U7):List U7:=rs.foldl (λout r=>r.2.foldl cv out) l
def WJ:List VU->YF->Option U7
 |[],_=>zn
 |r::rs,k=>(Ve r.2 k).or (WJ rs k)
theorem cN(k:YF):∀ (rs:List VU) (l:List U7),Asc zn l->Asc zn (lY rs l)/\Ve (lY rs l) k=(Ve l k).or (WJ rs k)
 |[],l,h=>⟨h,by show Ve l k=_;cases Ve l k<;>rfl⟩
 |r::rs,l,h=>by
  obtain⟨a,b⟩:=cM k r.2 l h;obtain⟨c,d⟩:=cN k rs (r.2.foldl cv l) a;refine⟨c,?_⟩;show Ve (lY rs (r.2.foldl cv l)) k=_;rw[d,b,l4];rfl
def VO(x:U7):Bool:=!x.2.2.1
def Le(L:VB):List U7:=(lY (VT L.2) []).filter VO
theorem nq{L M:VB}(h:∀ k,(WJ (VT L.2) k).filter VO=(WJ (VT M.2) k).filter VO):Le L=Le M:=by
 have a:=λk=>cN k (VT L.2) [] trivial;have b:=λk=>cN k (VT M.2) [] trivial;refine bM (Yz VO (a []).1) (Yz VO (b []).1) λk=> ?_;show Ve ((lY (VT L.2) []).filter VO) k=Ve ((lY (VT M.2) []).filter VO) k;rw[Xy VO k (a []).1,Xy VO k (b []).1,(a k).2,(b k).2];exact h k
theorem iW:∀ (a b:List VU) (k:YF),WJ (a++b) k=(WJ a k).or (WJ b k)
 |[],b,k=>rfl
 |r::a,b,k=>by
  show(Ve r.2 k).or (WJ (a++b) k)=((Ve r.2 k).or (WJ a k)).or (WJ b k);rw[iW a b k,l4]
theorem lL:∀ {l:List U7} {s:V4} {k:YF},cq s l->s.1=zt->TZ k s.2.1=zt->Ve l k=zn
 |[],_,_,_,_,_=>rfl
 |x::l,s,k,⟨_,c,d⟩,b,hk=>by
  have a:TZ k x.1=zt:=jF hk (c b);rw[Vi,zx (λe=>ai a e.symm)];exact lL d rfl a
theorem iH(k:YF):∀ {l:List U7} {s:V4},cq s l->Ve (Xq s l) k=if s.1=zt/\s.2.1=k then zn else(Ve l k).filter λx=> !(s.2.2&&x.2.2.1)
 |[],s,_=>by unfold Xq;split<;>rfl
 |x::l,s,⟨_,f,b⟩=>by
  have c:=iH k b;simp only[true_and]at c;unfold Xq;rw[aF,c,Vi];by_cases a:x.1=k
  ·rw[zy a,zy a];by_cases hs:s.1=zt/\s.2.1=k
   ·rw[zy hs];have:keep s x=zf:=by unfold keep;simp_all
    rw[this];rfl
   ·rw[zx hs]
    have:keep s x = !(s.2.2&&x.2.2.1):=by
     unfold keep
     grind
    rw[this];cases g:(!(s.2.2&&x.2.2.1))with
    |true=>rw[zy rfl,ZL,zy a];simp[sk,g]
    |false=>simp_all[zx,sk,Ve]
  ·rw[zx a,zx a]
   have d:Ve (if keep s x=zt then[x]else[]) k=zn:=by
    split
    ·rw[ZL,zx a]
    ·rfl
   rw[d,Option.none_or];by_cases hs:s.1=zt/\s.2.1=k
   ·rw[zy hs]
    have h:TZ k x.1=zt:=by
     rw[<- hs.2];refine aj (f hs.1) λe=>a ?_<;>simp_all
    rw[lL b rfl h];rfl
   simp_all
theorem eQ{a b:List U7}(va:VL a)(e:VL b)(k:YF):∀ {n:Nat},n<=a.length+b.length->Ve (VX a b n) k=(Ve (a.take (pos a b n).1) k).or (Ve (b.take (pos a b n).2) k)
 |0,_=>rfl
 |n+1,h=>by
  have C:=eQ va e k (n:=n) (by omega);obtain⟨p,hs⟩:=X3 va e (n:=n) (by omega);obtain⟨x,c,_⟩:=XM va e (n:=n) (by omega);rw[Yd va e c,aF,C,ZL];unfold dU at c;rw[show pos a b (n+1)=if Za a b (pos a b n).1 (pos a b n).2=zt then((pos a b n).1+1,(pos a b n).2)else((pos a b n).1,(pos a b n).2+1)from rfl]
  revert c p;generalize (pos a b n).1=i;generalize (pos a b n).2=j;intro p c;cases g:Za a b i j with
  |true=>
   rw[zy g]at c;rw[zy rfl];simp only;rw[gs,c,wl,aF,ZL,l4,l4]
   congr 1
   by_cases w:x.1=k
   ·rw[zy w]
    have:Ve (b.take j) k=zn:=ZZ λy B=>by
     obtain⟨m,f⟩:=ee B;rw[xl]at f;split at f
     ·rename_i A;have u:=p.jb;have l:b[j-1]?=zo b[j-1]:=eo (by omega);have D:=p.pb (j-1) (by omega) _ x l c
      have E:TZ b[j-1].1 y.1=zf:=by
       by_cases q:m=j-1
       ·subst q;rw[l]at f;cases f;exact X4 _
       ·have t:=e.asc
        have:∀ d,m+d+1<=j-1 -> ∀ z,b[m+d+1]?=zo z->TZ y.1 z.1=zt:=by
         intro d
         induction d with
         |zero=>intro _ z r;exact e.lt f r
         |succ d s=>
          intro hd z r;have o:b[m+d+1]?=zo b[m+d+1]:=eo (by omega);exact XO (s (by omega) _ o) (e.lt o r)
        exact WQ (this (j-1-m-1) (by omega) _ (by grind))
      grind
     ·cases f
    grind
   simp_all
  |false=>
   rw[zx (show ¬ Za a b i j=zt by grind)]at c;rw[zx (show ¬ (zf=zt) by decide)]
   simp_all[gs,wl,aF,ZL,l4]
theorem ue{a b:List U7}(va:VL a)(e:VL b)(c:Bool)(k:YF):Ve (Ww a b c (a.length+b.length)).2.2.1 k=((Ve a k).or (Ve b k)).filter λx=> !(c&&x.2.2.1):=by
 have f:=Y9 va e c (eb (a.length+b.length));obtain⟨d,hs⟩:=X3 va e (eb (a.length+b.length));show Ve (Xq (s0 c) (VX a b (a.length+b.length))) k=_;rw[iH k f,zx (by simp),eQ va e k (eb _)];rw[ey (by have:=d.ia;have:=d.jb;omega),ey (by have:=d.ia;omega)]
end
end Go.Proofs.YtoefnfbpoabinabGreatDoor.Pl
