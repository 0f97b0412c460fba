/- Functions of the program and of the specification as plain functions, and laws about them. No condition. -/
import Derived.Test.YtfceigpbgndbgaaGreatDoorPl0
set_option linter.all false
open List renaming Sublist->sw, append_assoc->dc, append_nil->gs, drop_eq_getElem_cons->tw, drop_zero->tk, find?_cons->hV, flatMap_cons->xm, flatten_append->oj, flatten_cons->lc, flatten_eq_nil_iff->vg, foldl_append->xn, foldl_cons->iz, getElem?_eq_getElem->co, getElem?_eq_none->a9, getElem?_eq_some_iff->a8, getElem?_map->s6, getElem?_of_mem->eg, getElem?_take->p8, getLast?_eq_getElem?->pg, head?->vt, head?_drop->sp, length->mR, length_append->hI, length_cons->ci, length_map->sr, length_nil->cP, length_pos_iff->ee, length_set->ya, length_take->ta, map_append->sa, map_cons->nP, mem_append->l6, mem_cons->ey, mem_flatten->l4, mem_map->o3, mem_map_of_mem->l5, mem_of_getElem?->bo, mem_singleton->q9, nil_append->ox, nodup_append->p9, nodup_cons->oy, replicate->yk, tail->tb, tail_drop->q0, take_add_one->gw, take_append_drop->vL, take_length->x6
open Nat renaming le_refl->ed, lt_of_not_le->ol, min_eq_left->tg, sub_zero->li, zero_add->en, zero_le->iP
open Int renaming mul_le_mul->yn, toNat_natCast->bl, zero_add->s8
open Option renaming getD_some->gM, map_some->xr
open Bool renaming false_eq_true->kd
open UInt8 renaming lt_iff_toNat_lt->vv
open Prod renaming ext->s7
open Option renaming some->zo, none->zn
open Bool renaming true->zt, false->zf
namespace Go.Proofs.YtfceigpbgndbgaaGreatDoor.Pl
section
open Go Sv
theorem Vr{S β:Type}{f:S->Option (LR S β)}{s0 s1 s2:S}{r:β}(a:f s0=zo (.nx s1))(b:f s1=zo (.nx s2))(c:f s2=zo (.dn r)):loop f s0=zo r:=
 Vk (n:=3) (by omega) ((U1 a).trans ((U1 b).trans (U7 c)))
theorem bZ{α β:Type}{c:Bool}{n:Int}{l:List α}{K:Nat->α->Option β}{E:Unit->Option β}(k:Nat){x:α}(hc:c=zt)(b:n=(k:Int))(d:l[k]?=zo x):br c (λ_=>SW n λa=>ix l a λe=>K a e) E=K k x:=by
 subst hc;subst b;rw[TB,UY,Tq d]
theorem W8{α β:Type}{n:Int}{l:List α}{K:Nat->α->Option β}(k:Nat){x:α}(b:n=(k:Int))(c:l[k]?=zo x):SW n (λa=>ix l a λd=>K a d)=K k x:=by
 subst b;rw[UY,Tq c]
theorem YR{l:List UZ}{i:Nat}(h:i<=l.length):U9 (l,(i:Int))=zo (kx l i):=by
 unfold U9 kx;simp only[Ug,Uc];rw[UD];by_cases hi:i=l.length
 ·rw[zy (by omega),a9 (by omega)]
 ·have a:l[i]?=zo l[i]:=by rw[co (by omega)]
  rw[zx (by omega),UY,Tq a,a]
section
variable{a b:List UZ}(va:VL a)(vb:VL b)
theorem qg{i j:Nat}(hi:i<=a.length)(c:j<=b.length):Xs ([a,b],[(i:Int),(j:Int)])=zo (Tt (kx a i) (kx b j)):=by
 unfold Xs;refine Uw (x:=(0,((2,[kx a i,kx b j]),()))) (Vr (s1:=(1,[kx a i,([],zf)])) (s2:=(2,[kx a i,kx b j])) ?_ ?_ rfl) ?_
 ·show bd (U9 (a,(i:Int))) _=_;rw[YR hi];rfl
 ·show bd (U9 (b,(j:Int))) _=_;rw[YR c];rfl
 ·show bd (V6 [kx a i,kx b j]) _=_;rw[ay (VH _ _) (VH _ _)];rfl
include va vb
theorem aZ:U8 a=zo (0,0):=by
 rw[W2 _ (by have:=va.len;omega),Zo va]
theorem aN:Wr [a,b]=zo (0,0):=by
 unfold Wr;refine Uw (x:=(1,((0,(0,2)),()))) (Vr (s1:=(0,(0,1))) (s2:=(0,(0,2))) ?_ ?_ rfl) rfl
 ·show bd (U8 a) _=_;rw[aZ va va];rfl
 ·show bd (U8 b) _=_;rw[aZ vb vb];rfl
theorem jG(c:Bool):X4 ([a,b],c)=zo (Sst a b c 0,(0,0)):=by
 unfold X4;rw[aN va vb,TW,UI,zy rfl];refine Uw (x:=(0,((2,[kx a 0,kx b 0]),()))) (Vr (s1:=(1,[kx a 0,([],zf)])) (s2:=(2,[kx a 0,kx b 0])) ?_ ?_ rfl) ?_
 ·show bd (U9 (a,((0:Nat):Int))) _=_;rw[YR (by omega)];rfl
 ·show bd (U9 (b,((0:Nat):Int))) _=_;rw[YR (by omega)];rfl
 ·show bd (V6 [kx a 0,kx b 0]) _=_;rw[ay (VH _ _) (VH _ _)];rfl
end
theorem Yz(x:Bool):Sv.beq x x=zt:=by cases x<;>rfl
theorem Zi(x:YA):seq x x=zt:=by rw[bg]
theorem fw(l:List Uv)(h:l.length<=1000):Uu (l,l)=zo zt:=by
 unfold Uu;simp only[Ug,Uc]
 rw[UI,zy rfl,ak (l:=l) (σ:=Unit) (s:=(0,zf)) (λk _=>((k:Int),zf)) (λ_ _ _=>zo (1,(((l.length:Int),zf),()))) () rfl (by omega) (λc=>by
  simp only;rw[re];rfl) (λk x m c _ a b=>.inl ⟨(),by
   simp only;rw[rl b,TB,UY,Tq a,UY,Tq a,Zi,Yz,show Hl (OG zt (OG zt zt))=zf from rfl,Sd,Ui a (by omega)],rfl⟩),TW]
 rfl
theorem fu(l:List Int)(h:l.length<=1000):Um (l,l)=zo zt:=by
 unfold Um;simp only[Ug,Uc]
 rw[UI,zy rfl,ak (l:=l) (σ:=Unit) (s:=(0,zf)) (λk _=>((k:Int),zf)) (λ_ _ _=>zo (1,(((l.length:Int),zf),()))) () rfl (by omega) (λc=>by
  simp only;rw[re];rfl) (λk x m c _ a b=>.inl ⟨(),by
   simp only;rw[rl b,TB,UY,Tq a,UY,Tq a,UI,zy rfl,Ui a (by omega)],rfl⟩),TW]
 rfl
theorem jD(t:We)(a:t.1.length<=1000)(b:t.2.1.length<=1000):XR (t,t)=zo zt:=by
 unfold XR;rw[UD,zy rfl,fw _ a,TW,TB,fu _ b];rfl
theorem jE(p q:Uv):XR (Tt p q,Tt p q)=zo zt:=jD _ (show 2<=1000 by omega) (show 2<=1000 by omega)
theorem ke{a b:List UZ}{i j:Nat}(h:Yn a b i j=zt):wk (kx a i) (kx b j)=kx a i/\wn (kx a i) (kx b j)=0:=by
 unfold Yn at h;unfold wk wn;rw[zy h,zy h];exact⟨rfl,rfl⟩
theorem kg{a b:List UZ}{i j:Nat}(h:Yn a b i j=zf):wk (kx a i) (kx b j)=kx b j/\wn (kx a i) (kx b j)=1:=by
 unfold Yn at h;unfold wk wn;rw[zx (by simp[h]),zx (by simp[h])];exact⟨rfl,rfl⟩
theorem ii(x y:YA):WJ (x,y)=zo (if S4 x y=zt then -1 else if S4 y x=zt then 1 else 0):=by
 unfold WJ Wh;simp only[Zi,ZV,TW,Sd];rw[YB,YB];split
 ·rfl
 ·split<;>rfl
theorem ig(x y:Int):Vu (x,y)=zo (if x<y then -1 else if x>y then 1 else 0):=by
 unfold Vu XW;simp only[TW,UI,if_true,UH,UF];split
 ·rfl
 ·split<;>rfl
theorem lR(x y:Int):Ya [x,y]=zo (if x≠0 then x else y):=by
 unfold Ya;by_cases h:x=0
 ·rw[zx (by simp[h])];by_cases a:y=0
  ·refine Uw (x:=(1,((0,2),()))) (Vr (s1:=(0,1)) (s2:=(0,2)) ?_ ?_ rfl) (by rw[a];rfl)
   ·refine(bZ 0 rfl rfl rfl).trans ?_;rw[UI,zy h];rfl
   ·refine(bZ 1 rfl rfl rfl).trans ?_;rw[UI,zy a];rfl
  ·refine Uw (x:=(0,((y,1),()))) (Vk (n:=2) (by omega) ((U1 (s':=(0,1)) ?_).trans (U7 ?_))) rfl
   ·refine(bZ 0 rfl rfl rfl).trans ?_;rw[UI,zy h];rfl
   ·refine(bZ 1 rfl rfl rfl).trans ?_;rw[UI,zx a]
 ·rw[zy h];refine Uw (x:=(0,((x,0),()))) (Vk (n:=1) (by omega) (U7 ?_)) rfl;refine(bZ 0 rfl rfl rfl).trans ?_;rw[UI,zx h]
section
variable{a b:List UZ}(va:VL a)(vb:VL b)
include va vb
theorem aC{i j:Nat}(I:Inv a b i j):Wq (aW a b i j)=zo (0,0):=by
 unfold Wq;rw[show(aW a b i j).1=[a,b]from rfl,aN va vb,TW,UI,zy rfl];rw[show(aW a b i j).2.1=[(i:Int),(j:Int)]from rfl,UI,zy (show Kx (AR [(i:Int),(j:Int)])=Kx (AR [a,b])from rfl)];refine Uw (x:=(1,((0,(0,2)),()))) (Vr (s1:=(0,(0,1))) (s2:=(0,(0,2))) ?_ ?_ rfl) ?_
 ·refine(bZ 0 rfl rfl rfl).trans ?_;rw[UH,zx (by omega),show SW (((0:Int),((0:Int),(0:Int))).2.2)=λ(k:Nat->Option (LR (Int×(Int×Int)) (Nat×((Int×(Int×Int))×Unit))))=>k 0 from rfl];simp only;rw[Tq (x:=a) rfl,UF,zx (by have:=I.ia;simp only[Ug,Uc];omega)];rfl
 ·refine(bZ 1 rfl rfl rfl).trans ?_;rw[UH,zx (by omega),show SW (((0:Int),((0:Int),(1:Int))).2.2)=λ(k:Nat->Option (LR (Int×(Int×Int)) (Nat×((Int×(Int×Int))×Unit))))=>k 1 from rfl];simp only;rw[Tq (x:=b) rfl,UF,zx (by have:=I.jb;simp only[Ug,Uc];omega)];rfl
 rw[show neq ((1:Nat),(((0:Int),((0:Int),(2:Int))),())).1 0=zf from rfl,Sd,qg I.ia I.jb,TW,show(aW a b i j).2.2=Tt (kx a i) (kx b j)from rfl,jE,TW,show Hl zt=zf from rfl,Sd,Yx (VH _ _) (VH _ _),TW];by_cases hd:(wk (kx a i) (kx b j)).2=zt
 ·rw[zy hd];rfl
 rw[zx hd,UI,zy rfl]
 have r:∀ {x:UZ} {e:Nat},i=e+1->a[e]?=zo x -> ¬ (if(if S4 x.1 (wk (kx a i) (kx b j)).1=zt then(-1:Int)else if S4 (wk (kx a i) (kx b j)).1 x.1=zt then 1 else 0)≠0 then(if S4 x.1 (wk (kx a i) (kx b j)).1=zt then(-1:Int)else if S4 (wk (kx a i) (kx b j)).1 x.1=zt then 1 else 0)else(if(0:Int)<(wn (kx a i) (kx b j):Int)then -1 else if(0:Int)>(wn (kx a i) (kx b j):Int)then 1 else 0))>0:=by
  intro x e hi c
  have o:S4 (wk (kx a i) (kx b j)).1 x.1=zf:=by
   cases g:Yn a b i j with
   |true=>
    rw[(ke g).1]at hd ⊢;unfold kx at hd ⊢;cases d:a[i]? with
    |none=>rw[d]at hd;exact absurd rfl hd
    |some y=>rw[hi]at d;exact Vw (va.lt c d)
   |false=>
    rw[(kg g).1]at hd ⊢;unfold kx at hd ⊢;cases d:b[j]? with
    |none=>rw[d]at hd;exact absurd rfl hd
    |some y=>exact I.pa e hi x y c d
  rw[o];have:¬ (0:Int)>(wn (kx a i) (kx b j):Int):=by omega
  by_cases hs:S4 x.1 (wk (kx a i) (kx b j)).1=zt
  ·simp[hs]
  ·simp only[hs,kd,if_false,ne_eq,not_true,this];split<;>omega
 have s:∀ {y:UZ} {j':Nat},j=j'+1->b[j']?=zo y -> ¬ (if(if S4 y.1 (wk (kx a i) (kx b j)).1=zt then(-1:Int)else if S4 (wk (kx a i) (kx b j)).1 y.1=zt then 1 else 0)≠0 then(if S4 y.1 (wk (kx a i) (kx b j)).1=zt then(-1:Int)else if S4 (wk (kx a i) (kx b j)).1 y.1=zt then 1 else 0)else(if(1:Int)<(wn (kx a i) (kx b j):Int)then -1 else if(1:Int)>(wn (kx a i) (kx b j):Int)then 1 else 0))>0:=by
  intro y j' q d
  have p:S4 y.1 (wk (kx a i) (kx b j)).1=zt:=by
   cases g:Yn a b i j with
   |true=>
    rw[(ke g).1]at hd ⊢;unfold kx at hd ⊢;cases c:a[i]? with
    |none=>rw[c]at hd;exact absurd rfl hd
    |some x=>exact I.pb j' q y x d c
   |false=>
    rw[(kg g).1]at hd ⊢;unfold kx at hd ⊢;cases c:b[j]? with
    |none=>rw[c]at hd;exact absurd rfl hd
    |some x=>rw[q]at c;exact vb.lt d c
  rw[p];simp
 refine Uw (x:=(1,((0,(0,2)),()))) (Vr (s1:=(0,(0,1))) (s2:=(0,(0,2))) ?_ ?_ rfl) rfl
 ·refine(bZ 0 rfl rfl rfl).trans ?_;rw[UF];by_cases f:(i:Int)>0
  ·rw[zy f];obtain⟨e,h⟩:∃ e,i=e+1:=⟨i-1,by omega⟩;have l:e<a.length:=by have:=I.ia;omega
   have c:a[e]?=zo a[e]:=by simp[l]
   refine(W8 0 rfl (x:=a) rfl).trans ((W8 e ?_ c).trans ?_)
   ·rw[TG (by have:=va.len;have:=I.ia;omega)];omega
   rw[ii,TW];show bd (Vu (0,(wn (kx a i) (kx b j):Int))) _=_;rw[ig,TW,lR,TW,UF,zx (r h c)];rfl
  ·rw[zx f];rfl
 ·refine(bZ 1 rfl rfl rfl).trans ?_;rw[UF];by_cases f:(j:Int)>0
  ·rw[zy f];obtain⟨j',m⟩:∃ j',j=j'+1:=⟨j-1,by omega⟩;have n:j'<b.length:=by have:=I.jb;omega
   have d:b[j']?=zo b[j']:=by simp[n]
   refine(W8 1 rfl (x:=b) rfl).trans ((W8 j' ?_ d).trans ?_)
   ·rw[TG (by have:=vb.len;have:=I.jb;omega)];omega
   rw[ii,TW];show bd (Vu (1,(wn (kx a i) (kx b j):Int))) _=_;rw[ig,TW,lR,TW,UF,zx (s m d)];rfl
  ·rw[zx f];rfl
end
end
section
open Go Sv
theorem X7{l:List UZ}{i:Nat}{x:UZ}(h:l[i]?=zo x):kx l i=(x.1,zf):=by unfold kx;rw[h]
theorem ai{l:List UZ}{i:Nat}(h:l[i]?=zn):kx l i=([],zt):=by unfold kx;rw[h]
theorem ba{l:List UZ}(v:VL l){i:Nat}{x:UZ}(h:l[i]?=zo x):(kx l (i+1)).2=zt\/S4 (kx l (i+1)).1 x.1=zf:=by
 cases a:l[i+1]? with
 |none=>rw[ai a];exact .inl rfl
 |some y=>rw[X7 a];exact .inr (Vw (v.lt h a))
theorem Z3{α β:Type}{n:Int}{l:List α}{K:Nat->α->Option β}(k:Nat){x:α}(c:n=(k:Int))(b:l[k]?=zo x):SW n (λa=>gd (KW a (AR l)) λ_=>ix l a λd=>K a d)=K k x:=by
 subst c;rw[UY,Te,zy (show k<AR l from(a8.1 b).1),Tq b]
section
variable{a b:List UZ}(va:VL a)(vb:VL b)
include va vb
theorem rF{i j:Nat}(I:Inv a b i j){x:UZ}(c:a[i]?=zo x)(g:Yn a b i j=zt):Ve (aW a b i j)=zo (x,(0,(aW a b (i+1) j,0))):=by
 obtain⟨e,h⟩:=ke g;have hi:=(a8.1 c).1;have l:=va.len;have hd:(wk (kx a i) (kx b j)).2=zf:=by rw[e,X7 c]
 obtain⟨m,f⟩:=Y8 (p:=kx a i) (q:=kx b j) (k:=kx a (i+1)) (VH _ _) (VH _ _) (VH _ _) hd (by rw[e,X7 c];exact ba va c)
 have d:rk (kx a i) (kx b j) (kx a (i+1))=(kx a (i+1),kx b j):=by
  unfold rk;unfold Yn at g;rw[zy g]
 rw[d]at f;unfold Ve;rw[aC va vb I,TW,UI,zy rfl];unfold Uk Us;refine Uw (Zp (show 2<=1048576 by omega)) (Uw (Zp (show 2<=1048576 by omega)) ?_);rw[show(aW a b i j).2.2=Tt (kx a i) (kx b j)from rfl,Yx (VH _ _) (VH _ _),zx (by simp[hd]),TW,UI,zy rfl,h];refine(Z3 0 rfl (x:=a) rfl).trans ((Z3 0 rfl (x:=(i:Int)) rfl).trans ((W8 i rfl c).trans ((Z3 0 rfl (x:=(i:Int)) rfl).trans ((Z3 0 rfl (x:=(i:Int)) rfl).trans ((Z3 0 rfl (x:=a) rfl).trans ((Z3 0 rfl (x:=So .i64 (i:Int) 1) rfl).trans ?_))))));rw[Uh (by omega),YR (show i+1<=a.length by omega),TW,f,TW];rfl
theorem rG{i j:Nat}(I:Inv a b i j){y:UZ}(c:b[j]?=zo y)(g:Yn a b i j=zf):Ve (aW a b i j)=zo (y,(1,(aW a b i (j+1),0))):=by
 obtain⟨e,h⟩:=kg g;have hi:=(a8.1 c).1;have l:=vb.len;have hd:(wk (kx a i) (kx b j)).2=zf:=by rw[e,X7 c]
 obtain⟨m,f⟩:=Y8 (p:=kx a i) (q:=kx b j) (k:=kx b (j+1)) (VH _ _) (VH _ _) (VH _ _) hd (by rw[e,X7 c];exact ba vb c)
 have d:rk (kx a i) (kx b j) (kx b (j+1))=(kx a i,kx b (j+1)):=by
  unfold rk;unfold Yn at g;rw[zx (by simp[g])]
 rw[d]at f;unfold Ve;rw[aC va vb I,TW,UI,zy rfl];unfold Uk Us;refine Uw (Zp (show 2<=1048576 by omega)) (Uw (Zp (show 2<=1048576 by omega)) ?_);rw[show(aW a b i j).2.2=Tt (kx a i) (kx b j)from rfl,Yx (VH _ _) (VH _ _),zx (by simp[hd]),TW,UI,zy rfl,h];refine(Z3 1 rfl (x:=b) rfl).trans ((Z3 1 rfl (x:=(j:Int)) rfl).trans ((W8 j rfl c).trans ((Z3 1 rfl (x:=(j:Int)) rfl).trans ((Z3 1 rfl (x:=(j:Int)) rfl).trans ((Z3 1 rfl (x:=b) rfl).trans ((Z3 1 rfl (x:=So .i64 (j:Int) 1) rfl).trans ?_))))));rw[Uh (by omega),YR (show j+1<=b.length by omega),TW,f,TW];rfl
def aJ(a b:List UZ)(n:Nat):WE:=aW a b (pos a b n).1 (pos a b n).2
def cX(a b:List UZ)(n:Nat):Nat:=if Yn a b (pos a b n).1 (pos a b n).2=zt then 0 else 1
theorem cJ{n:Nat}{x:UZ}(h:n<a.length+b.length)(c:bW a b n=zo x):Ve (aJ a b n)=zo (x,((cX a b n:Int),(aJ a b (n+1),0))):=by
 obtain⟨d,hs⟩:=W9 va vb (n:=n) (by omega);unfold aJ cX;rw[show pos a b (n+1)=if Yn a b (pos a b n).1 (pos a b n).2=zt then((pos a b n).1+1,(pos a b n).2)else((pos a b n).1,(pos a b n).2+1)from rfl]
 unfold bW at c;cases g:Yn a b (pos a b n).1 (pos a b n).2 with
 |true=>rw[zy g]at c;rw[rF va vb d c g];simp
 |false=>rw[zx (by simp[g])]at c;rw[rG va vb d c g];simp
end
theorem ca{s:VO}(b:s.2.1.length<=32)(a:s.1=zf->s.2.1=[]):W6 s=zo 0:=by
 unfold W6;rw[aH,TW,zx (by omega),UI,zy rfl,U2,UL];cases h:s.1 with
 |true=>rfl
 |false=>rw[zx (by simp),U2,W1,zy (a h)]
def keep(s:VO)(x:UZ):Bool:=!(s.1&&decide (x.1=s.2.1)) && !(s.2.2&&x.2.2.1)
theorem jg{s:VO}{x:UZ}(e:s.2.1.length<=32)(f:s.1=zf->s.2.1=[])(g:kE x=0)(a:s.1=zt->S4 x.1 s.2.1=zf):Vo (s,x)=zo (keep s x,((zt,(x.1,s.2.2)),0)):=by
 unfold Vo keep;rw[ca e f,TW,UI,zy rfl,YD,g,TW,UI,zy rfl];obtain⟨s1,s2,c⟩:=s;obtain⟨h,i,d,j⟩:=x;simp only at a ⊢;cases s1 with
 |true=>
  have:=a rfl;simp only[TB,Sd,YB,W1,this,kd,if_false];by_cases b:h=s2
  ·simp[b]
  ·simp only[b,if_false,decide_false];cases c<;>cases d<;>rfl
 |false=>
  simp only[TB,Sd];cases c<;>cases d<;>rfl
def W0:VO->List UZ->List UZ
 |_,[]=>[]
 |s,x::l=>(if keep s x=zt then[x]else[])++W0 (zt,(x.1,s.2.2)) l
theorem ZG:∀ (s:VO) (l:List UZ),(W0 s l).length<=l.length
 |_,[]=>ed _
 |s,x::l=>by
  have:=ZG (zt,(x.1,s.2.2)) l;unfold W0;by_cases h:keep s x=zt
  ·rw[zy h];simp;omega
  ·rw[zx h];simp;omega
def au:VO->List UZ->Prop
 |_,[]=>True
 |s,x::l=>kE x=0/\(s.1=zt->S4 x.1 s.2.1=zf)/\au (zt,(x.1,s.2.2)) l
theorem cF{x:UZ}(h:kE x=0):x.1.length<=32:=by
 unfold kE at h;by_cases hh:x.1.length>32\/x.2.1.length>64
 ·rw[zy hh]at h;cases h
 ·omega
theorem Vq{α β σ S:Type}{l:List α}(mk:Nat->σ->S)(Inv:List α->Nat->σ->Prop)(F:List α->Nat->σ->β){f:S->Option (LR S β)}{s:S}(a:σ)(p:s=mk 0 a)(z:l.length<=9223372036854775807)(hi:Inv l 0 a)
  (w:∀ a,Inv [] l.length a->f (mk l.length a)=zo (.dn (F [] l.length a)))
  (hc:∀ k x m a,l.drop k=x::m->l[k]?=zo x->k<l.length->Inv (x::m) k a -> ∃ b,f (mk k a)=zo (.nx (mk (k+1) b))/\Inv m (k+1) b/\F (x::m) k a=F m (k+1) b):loop f s=zo (F l 0 a):=by
 subst p
 have e:∀ (m:List α) (k n:Nat) (a:σ),l.drop k=m->k<=l.length->m.length<n->Inv m k a->IX n f (mk k a)=zo (F m k a):=by
  intro m
  induction m with
  |nil=>
   intro k n a c u d hi;obtain⟨n,rfl⟩:∃ j,n=j+1:=⟨n-1,by omega⟩
   have h:k=l.length:=by
    have:=congrArg mR c;simp at this;omega
   subst h;exact U7 (w a hi)
  |cons x m y=>
   intro k n a c u d hi;obtain⟨n,rfl⟩:∃ j,n=j+1:=⟨n-1,by omega⟩
   have o:l[k]?=zo x:=by
    have:=congrArg vt c;rw[sp]at this;simpa using this
   have g:k<l.length:=(a8.1 o).1
   have i:l.drop (k+1)=m:=by
    have:=congrArg tb c;rw[q0]at this;simpa using this
   obtain⟨b,q,r,t⟩:=hc k x m a c o g hi;rw[U1 q,t];exact y (k+1) n b i (by omega) (by simp at d;omega) r
 exact e l 0 _ a (by simp) (by omega) (by omega) hi
def Vl:VO->List UZ->VO
 |s,[]=>s
 |s,x::l=>Vl (zt,(x.1,s.2.2)) l
theorem da{β:Type}{out:List UZ}{n:Nat}(h:out.length<=n)(a:n<=20000)(x:UZ)(k:Unit->Option β):gd (CI (BG (AR out) (AR [x])) 1048576) k=k ():=VG (by simp only[BG,AR,ci,cP];omega) k
theorem jC{l:List UZ}{b:Bool}(B:l.length<=20000)(A:au (zf,([],b)) l):Xd (l,b)=zo (W0 (zf,([],b)) l,(0,0)):=by
 unfold Xd WC;simp only[Ug,Uc];rw[UF,zx (by omega),TW]
 rw[Vq (l:=l) (σ:=VO×List UZ) (s:=(0,(0,(0,((zf,([],b)),[]))))) (λk a=>((0:Int),((k:Int),((0:Int),a))))
  (λm k a=>au a.1 m/\a.1.2.1.length<=32/\(a.1.1=zf->a.1.2.1=[])/\a.2.length<=k/\k+m.length=l.length)
  (λm k a=>(1,((0,((l.length:Int),(0,(Vl a.1 m,a.2++W0 a.1 m)))),()))) ((zf,([],b)),[]) rfl (by omega) ⟨A,by simp,λ_=>rfl,by simp,by simp⟩ ?_ ?_,TW]
 ·simp;rfl
 ·intro a _;simp only;rw[re,Sd];simp[Vl,W0]
 ·rintro k x m ⟨s,out⟩ C r z ⟨⟨d,e,g⟩,i,j,n,o⟩;simp only at d e g i j n ⊢;refine⟨((zt,(x.1,s.2.2)),out++if keep s x=zt then[x]else[]),?_,⟨g,cF d,(λh=>by cases h),?_,by simp at o;omega⟩,?_⟩
  ·rw[rl z,TB,UY,Tq r,ca i j,TW,UI,zy rfl,YD,d,TW,UI,zy rfl];unfold keep U3;obtain⟨s1,s2,t⟩:=s;obtain⟨f,u,c,w⟩:=x;simp only[TW,Ui r (show l.length<=9223372036854775807 by omega)]at e ⊢;have q:∀ {β:Type} (k:Unit->Option β),gd (CI (BG out.length [(f,(u,(c,w)))].length) 1048576) k=k ():=λk=>da n (by simp at o;omega) (f,(u,(c,w))) k;cases s1 with
   |true=>
    have y:=e rfl;simp only[TB,Sd,W1,y,q];by_cases p:f=s2
    ·simp[p]
    ·simp only[p,if_false,decide_false];cases t<;>cases c<;>simp[TB,Sd,Iy]
   |false=>
    simp only[TB,Sd,q];cases t<;>cases c<;>simp[TB,Sd,Iy]
  ·split<;>simp<;>omega
  ·simp only[Vl,W0,dc]
end
section
open Go Sv
theorem eJ:∀ (l:List UZ) (s:VO) (x:UZ),W0 s (l++[x])=W0 s l++(if keep (Vl s l) x=zt then[x]else[])
 |[],s,x=>by
  show(if keep s x=zt then[x]else[])++[]=[]++(if keep s x=zt then[x]else[])
  rw[gs,ox]
 |y::l,s,x=>by
  show(if keep s y=zt then[y]else[])++W0 _ (l++[x])=((if keep s y=zt then[y]else[])++W0 _ l)++_
  rw[eJ l,dc];rfl
theorem aA:∀ (l:List UZ) (s:VO) (x:UZ),Vl s (l++[x])=(zt,(x.1,(Vl s l).2.2))
 |[],s,x=>rfl
 |y::l,s,x=>by simp only[List.cons_append,Vl,aA l]
theorem X8:∀ (l:List UZ) (s:VO),(Vl s l).2.2=s.2.2
 |[],s=>rfl
 |y::l,s=>by rw[Vl,X8 l]
theorem fJ:∀ (l:List UZ) (s:VO) (x:UZ),au s l->kE x=0->((Vl s l).1=zt->S4 x.1 (Vl s l).2.1=zf)->au s (l++[x])
 |[],s,x,_,a,b=>⟨a,b,trivial⟩
 |y::l,s,x,⟨a,b,c⟩,d,h5=>⟨a,b,fJ l _ x c d h5⟩
theorem cy:∀ (l:List UZ) (s:VO),au s l->s.2.1.length<=32->(s.1=zf->s.2.1=[])->(Vl s l).2.1.length<=32/\((Vl s l).1=zf->(Vl s l).2.1=[])
 |[],s,_,h1,h2=>⟨h1,h2⟩
 |y::l,s,⟨a,_,b⟩,_,_=>cy l _ b (cF a) (λh=>by cases h)
abbrev s0(a:Bool):VO:=(zf,([],a))
def WG(a b:List UZ)(c:Bool)(n:Nat):YZ:=(aJ a b n,(Vl (s0 c) (Uq a b n),(W0 (s0 c) (Uq a b n),(n:Int))))
def Yo(a b:List UZ):Nat->List Int
 |0=>[]
 |n+1=>Yo a b n++[(cX a b n:Int)]
theorem bB(a b:List UZ):∀ n,(Yo a b n).length=n
 |0=>rfl
 |n+1=>by simp[Yo,bB a b n]
theorem ZM{S β:Type}{f:S->Option (LR S β)}{r:β}(mk:Nat->S)(a n:Nat){s:S}(b:s=mk a)(d:a<=n)(e:n<18446744073709551616)(hs:∀ k,a<=k->k<n->f (mk k)=zo (.nx (mk (k+1))))(c:f (mk n)=zo (.dn r)):loop f s=zo r:=by
 have h:=YV (f:=f) (r:=r) (λk=>mk (a+k)) (n-a) (s:=s) b (by omega) (λk d=>hs (a+k) (by omega) (by omega)) (by show f (mk (a+(n-a)))=_;rw[show a+(n-a)=n by omega];exact c);exact h
theorem bn(l:List UZ)(h:l.length<=100000):W7 (l,l)=zo zt:=by
 unfold W7;simp only[Ug,Uc]
 rw[UI,zy rfl,ak (l:=l) (σ:=Unit) (s:=(zf,0)) (λk _=>(zf,(k:Int))) (λ_ _ _=>zo (1,((zf,(l.length:Int)),()))) () rfl (by omega) (λc=>by
  simp only;rw[re];rfl) (λk x m c _ a b=>.inl ⟨(),by
   simp only;rw[rl b,TB,UY,Tq a,UY,Tq a,Zi,Zi,Yz,show O3 x.2.2.2 x.2.2.2=zt by unfold O3;simp,show Hl (OG zt (OG zt (OG zt (OG zt zt))))=zf from rfl,Sd,Ui a (by omega)],rfl⟩),TW]
 rfl
section
variable{a b:List UZ}(va:VL a)(vb:VL b)
include va vb
theorem Xh{n:Nat}{x:UZ}(c:bW a b n=zo x):Uq a b (n+1)=Uq a b n++[x]:=by
 show(match bW a b n with
  |some x=>Uq a b n++[x]
  |none=>Uq a b n)=_
 rw[c]
theorem YH(d:Bool):∀ {n:Nat},n<=a.length+b.length->au (s0 d) (Uq a b n)
 |0,_=>trivial
 |n+1,h=>by
  obtain⟨x,c,_⟩:=Wc va vb (n:=n) (by omega);rw[Xh va vb c];refine fJ _ _ _ (YH d (by omega)) (lQ va vb c) λ_=> ?_;cases n with
  |zero=>rename_i f;cases f
  |succ m=>
   obtain⟨y,e,_⟩:=Wc va vb (n:=m) (by omega);rw[Xh va vb e,aA];exact iv va vb (by omega) e c
theorem gA(c:Bool){n:Nat}(h:n<=a.length+b.length):(Vl (s0 c) (Uq a b n)).2.1.length<=32/\((Vl (s0 c) (Uq a b n)).1=zf->(Vl (s0 c) (Uq a b n)).2.1=[]):=
 cy _ _ (YH va vb c h) (by simp) (λ_=>rfl)
theorem sB{n:Nat}(h:n=a.length+b.length):(wk (kx a (pos a b n).1) (kx b (pos a b n).2)).2=zt:=by
 obtain⟨c,hs⟩:=W9 va vb (n:=n) (by omega);have d:=c.ia;have e:=c.jb;rw[ai (a9 (by omega)),ai (a9 (by omega))];rfl
theorem sC{n:Nat}{x:UZ}(c:bW a b n=zo x):(wk (kx a (pos a b n).1) (kx b (pos a b n).2)).2=zf/\wn (kx a (pos a b n).1) (kx b (pos a b n).2)=cX a b n:=by
 unfold bW at c;unfold cX;cases g:Yn a b (pos a b n).1 (pos a b n).2 with
 |true=>rw[zy g]at c;rw[(ke g).1,(ke g).2,X7 c];exact⟨rfl,rfl⟩
 |false=>rw[zx (by simp[g])]at c;rw[(kg g).1,(kg g).2,X7 c];exact⟨rfl,rfl⟩
theorem rE:Y7 [a,b]=zo (Uq a b (a.length+b.length),(Yo a b (a.length+b.length),0)):=by
 have u:=va.len;have w:=vb.len;unfold Y7;rw[aN va vb,TW,UI,zy rfl];refine Eq.trans (b:=bd (loop _ (0,[([],zf),([],zf)])) _) rfl ?_;refine Uw (x:=(0,((2,[kx a 0,kx b 0]),()))) (Vr (s1:=(1,[kx a 0,([],zf)])) (s2:=(2,[kx a 0,kx b 0])) ?_ ?_ rfl) ?_
 ·show bd (U9 (a,((0:Nat):Int))) _=_;rw[YR (by omega)];rfl
 ·show bd (U9 (b,((0:Nat):Int))) _=_;rw[YR (by omega)];rfl
 rw[show((0:Nat),(((2:Int),[kx a 0,kx b 0]),())).2.1.2=[kx a 0,kx b 0]from rfl,ay (VH _ _) (VH _ _),TW]
 refine Uw (x:=(0,((Uq a b (a.length+b.length),(Yo a b (a.length+b.length),((),([((pos a b (a.length+b.length)).1:Int),((pos a b (a.length+b.length)).2:Int)],Tt (kx a (pos a b (a.length+b.length)).1) (kx b (pos a b (a.length+b.length)).2))))),())))
  (ZM (λk=>(Uq a b k,(Yo a b k,((),([((pos a b k).1:Int),((pos a b k).2:Int)],Tt (kx a (pos a b k).1) (kx b (pos a b k).2)))))) 0 (a.length+b.length) rfl (by omega) (by omega) (λk _ r=> ?_) ?_) rfl
 ·obtain⟨x,c,_⟩:=Wc va vb (n:=k) r;obtain⟨j,s⟩:=sC va vb c;obtain⟨t,hs⟩:=W9 va vb (n:=k) (by omega);have h:(Uq a b k).length=k:=Vv va vb (by omega);have i:=bB a b k;simp only;rw[Yx (VH _ _) (VH _ _),zx (by simp[j]),TW,UI,zy rfl,s];rw[Xh va vb c];unfold bW at c;rw[show Yo a b (k+1)=Yo a b k++[(cX a b k:Int)]from rfl];unfold cX;rw[show pos a b (k+1)=if Yn a b (pos a b k).1 (pos a b k).2=zt then((pos a b k).1+1,(pos a b k).2)else((pos a b k).1,(pos a b k).2+1)from rfl]
  have l:∀ {β:Type} (y:UZ) (q:Unit->Option β),gd (CI (BG (AR (Uq a b k)) (AR [y])) 1048576) q=q ():=λy q=>VG (by simp only[BG,AR,h,ci,cP];omega) q;have o:∀ {β:Type} (y:Int) (q:Unit->Option β),gd (CI (BG (AR (Yo a b k)) (AR [y])) 1048576) q=q ():=λy q=>VG (by simp only[BG,AR,i,ci,cP];omega) q;cases g:Yn a b (pos a b k).1 (pos a b k).2 with
  |true=>
   rw[zy g]at c;obtain⟨d,_⟩:=ke g;obtain⟨m,f⟩:=Y8 (p:=kx a (pos a b k).1) (q:=kx b (pos a b k).2) (k:=kx a ((pos a b k).1+1)) (VH _ _) (VH _ _) (VH _ _) j (by rw[d,X7 c];exact ba va c)
   have e:rk (kx a (pos a b k).1) (kx b (pos a b k).2) (kx a ((pos a b k).1+1))=(kx a ((pos a b k).1+1),kx b (pos a b k).2):=by
    unfold rk;unfold Yn at g;rw[zy g]
   rw[e]at f;have hi:=(a8.1 c).1;simp only[if_true];refine(Z3 0 rfl (x:=a) rfl).trans ((Z3 0 rfl (x:=((pos a b k).1:Int)) rfl).trans ((W8 _ rfl c).trans ?_));rw[l,o];refine(Z3 0 rfl (x:=((pos a b k).1:Int)) rfl).trans ((Z3 0 rfl (x:=((pos a b k).1:Int)) rfl).trans ((Z3 0 rfl (x:=a) rfl).trans ((Z3 0 rfl (x:=So .i64 ((pos a b k).1:Int) 1) rfl).trans ?_)));rw[Uh (by omega),YR (by omega),TW,f,TW];rfl
  |false=>
   rw[zx (by simp[g])]at c;obtain⟨d,_⟩:=kg g;obtain⟨m,f⟩:=Y8 (p:=kx a (pos a b k).1) (q:=kx b (pos a b k).2) (k:=kx b ((pos a b k).2+1)) (VH _ _) (VH _ _) (VH _ _) j (by rw[d,X7 c];exact ba vb c)
   have e:rk (kx a (pos a b k).1) (kx b (pos a b k).2) (kx b ((pos a b k).2+1))=(kx a (pos a b k).1,kx b ((pos a b k).2+1)):=by
    unfold rk;unfold Yn at g;rw[zx (by simp[g])]
   rw[e]at f;have hi:=(a8.1 c).1;simp only[kd,if_false];refine(Z3 1 rfl (x:=b) rfl).trans ((Z3 1 rfl (x:=((pos a b k).2:Int)) rfl).trans ((W8 _ rfl c).trans ?_));rw[l,o];refine(Z3 1 rfl (x:=((pos a b k).2:Int)) rfl).trans ((Z3 1 rfl (x:=((pos a b k).2:Int)) rfl).trans ((Z3 1 rfl (x:=b) rfl).trans ((Z3 1 rfl (x:=So .i64 ((pos a b k).2:Int) 1) rfl).trans ?_)));rw[Uh (by omega),YR (by omega),TW,f,TW];rfl
 ·simp only;rw[Yx (VH _ _) (VH _ _),zy (sB va vb rfl),TW,UI,zx (by decide),UI,zx (by decide)]
end
end
section
open Go Sv
theorem il{β:Type}{out:List UZ}{n:Nat}(h:out.length<=n)(a:n<=20000)(x:UZ)(k:Unit->Option β):gd (CI (BG out.length [x].length) 1048576) k=k ():=da h a x k
section
variable{a b:List UZ}(va:VL a)(vb:VL b)
include va vb
theorem YY{n:Nat}(h:n<=a.length+b.length):(Uq a b (a.length+b.length)).take n=Uq a b n:=gE va vb (ed _) h
theorem Zy{n:Nat}{x:UZ}(c:Bool)(d:bW a b n=zo x):Vl (s0 c) (Uq a b (n+1))=(zt,(x.1,c)):=by
 rw[Xh va vb d,aA,X8]
theorem gT(c:Bool){n:Nat}(h:n<=a.length+b.length):X5 (WG a b c n)=zo 0:=by
 obtain⟨e,hs⟩:=W9 va vb (n:=n) h;have i:=va.len;have j:=vb.len;have f:=ZG (s0 c) (Uq a b n);have g:(Uq a b n).length=n:=Vv va vb h;unfold X5;rw[show(WG a b c n).1=aW a b (pos a b n).1 (pos a b n).2 from rfl,aC va vb e,TW,UI,zy rfl];refine Uw (x:=(0,((2,(n:Int)),()))) (Vr (s1:=(1,((pos a b n).1:Int))) (s2:=(2,(n:Int))) ?_ ?_ rfl) ?_
 ·refine(bZ 0 rfl rfl (x:=((pos a b n).1:Int)) rfl).trans ?_;show zo (LR.nx ((1:Int),So .i64 0 ((pos a b n).1:Int)))=_;rw[TE (by omega),s8]
 ·refine(bZ 1 rfl rfl (x:=((pos a b n).2:Int)) rfl).trans ?_;show zo (LR.nx ((2:Int),So .i64 ((pos a b n).1:Int) ((pos a b n).2:Int)))=_;rw[TE (by omega),show((pos a b n).1:Int)+((pos a b n).2:Int)=(n:Int) by omega]
 simp only[Ug,Uc];rw[show(WG a b c n).2.2.1=W0 (s0 c) (Uq a b n)from rfl,show(WG a b c n).2.2.2=(n:Int)from rfl,show(WG a b c n).2.1=Vl (s0 c) (Uq a b n)from rfl,UF,zx (by omega),UF,zx (by omega),UI,zy rfl];rw[show(aW a b (pos a b n).1 (pos a b n).2).1=[a,b]from rfl,rE va vb,TW,UI,zy rfl,UY];rw[VG (by rw[Vv va vb (ed _)];exact h),VG (iP _)];rw[show D6 (Uq a b (a.length+b.length)) 0 n=Uq a b n from by unfold D6;rw[tk,li];exact YY va vb h,X8];rw[show(s0 c).2.2=c from rfl,jC (by omega) (YH va vb c h),TW,UI,zy rfl];unfold WC;rw[TW,UF];cases n with
 |zero=>
  rw[zx (by omega),bn _ (by omega),TW,ZV,Sd];show br (Hl (OG (Sv.beq zf zf) (OG (seq [] []) (OG (Sv.beq c c) zt)))) _ _=_;rw[Yz,Yz,Zi];rfl
 |succ m=>
  obtain⟨x,d,_⟩:=Wc va vb (n:=m) (by omega);rw[zy (by omega),show Ss .i64 ((m+1:Nat):Int) 1=(m:Int) by rw[TG (by omega)];omega,UY];rw[Tq (x:=x) (by rw[ZO va vb (ed _) (by omega)];exact d),bn _ (by omega),TW,ZV,Sd,Zy va vb c d];rw[Yz,Yz,Zi];rfl
theorem lM{n:Nat}(h:n<=a.length+b.length):Yc (aJ a b n)=zo (((a.length+b.length-n:Nat):Int),0):=by
 obtain⟨c,hs⟩:=W9 va vb (n:=n) h;have f:=va.len;have g:=vb.len;have d:=c.ia;have e:=c.jb;unfold Yc;rw[show aJ a b n=aW a b (pos a b n).1 (pos a b n).2 from rfl,aC va vb c,TW,UI,zy rfl];refine Uw (x:=(0,((2,((a.length+b.length-n:Nat):Int)),()))) (Vr (s1:=(1,(a.length:Int)-((pos a b n).1:Int))) (s2:=(2,((a.length+b.length-n:Nat):Int))) ?_ ?_ rfl) rfl
 ·refine(bZ 0 rfl rfl (x:=a) rfl).trans ((W8 0 rfl (x:=((pos a b n).1:Int)) rfl).trans ?_);simp only[Ug,Uc];rw[TG (by omega)];show zo (LR.nx ((1:Int),So .i64 0 ((a.length:Int)-((pos a b n).1:Int))))=_;rw[TE (by omega),s8]
 ·refine(bZ 1 rfl rfl (x:=b) rfl).trans ((W8 1 rfl (x:=((pos a b n).2:Int)) rfl).trans ?_);simp only[Ug,Uc];rw[TG (by omega)];show zo (LR.nx ((2:Int),So .i64 ((a.length:Int)-((pos a b n).1:Int)) ((b.length:Int)-((pos a b n).2:Int))))=_;rw[TE (by omega),show(a.length:Int)-((pos a b n).1:Int)+((b.length:Int)-((pos a b n).2:Int))=((a.length+b.length-n:Nat):Int) by omega]
theorem bL(c:Bool){n:Nat}(h:n<=a.length+b.length):VI (WG a b c n)=zo (((a.length+b.length-n:Nat):Int),0):=by
 unfold VI;rw[gT va vb c h,TW,UI,zy rfl,show(WG a b c n).1=aJ a b n from rfl,lM va vb h];rfl
theorem bm(c:Bool){n:Nat}{x:UZ}(d:bW a b n=zo x):WG a b c (n+1)=(aJ a b (n+1),((zt,(x.1,c)),(W0 (s0 c) (Uq a b n)++(if keep (Vl (s0 c) (Uq a b n)) x=zt then[x]else[]),((n+1:Nat):Int)))):=by
 unfold WG;rw[Xh va vb d,aA,X8,eJ]
theorem Zj(c:Bool){n:Nat}{x:UZ}(h:n<a.length+b.length)(e:bW a b n=zo x):Vo (Vl (s0 c) (Uq a b n),x)=zo (keep (Vl (s0 c) (Uq a b n)) x,((zt,(x.1,c)),0)):=by
 have d:=gA va vb c (n:=n) (by omega);rw[jg d.1 d.2 (lQ va vb e),X8];intro g;cases n with
 |zero=>cases g
 |succ m=>
  obtain⟨y,f,_⟩:=Wc va vb (n:=m) (by omega);rw[Zy va vb c f];exact iv va vb (by omega) f e
def ub(k:Int)(s:YZ):Int×(Int×(List (List UZ)×(List Int×(List Uv×(List Int×(Int×(Bool×(YA×(Bool×(List UZ×Int)))))))))):=
 (k,(0,(s.1.1,(s.1.2.1,(s.1.2.2.1,(s.1.2.2.2.1,(s.1.2.2.2.2,(s.2.1.1,(s.2.1.2.1,(s.2.1.2.2,(s.2.2.1,s.2.2.2)))))))))))
theorem dJ(c:Bool){n:Nat}(h:n<=a.length+b.length){k:Nat}:Vc (WG a b c n,(k:Int))=zo (WG a b c (n+min k (a.length+b.length-n)),(((min k (a.length+b.length-n):Nat):Int),0)):=by
 have w:=va.len;have z:=vb.len;have d:∀ m,m<=a.length+b.length->(W0 (s0 c) (Uq a b m)).length<=m:=λm s=>by have:=ZG (s0 c) (Uq a b m);have:=Vv va vb s;omega
 obtain⟨u,t⟩:∃ u,u=min k (a.length+b.length-n):=⟨_,rfl⟩
 have i:UO (k:Int) ((a.length+b.length-n:Nat):Int)=(u:Int):=by
  unfold UO;split<;>omega
 rw[<- t];unfold Vc;rw[bL va vb c h,TW,UI,zy rfl];simp only[i,Ug,Uc];rw[UH,zx (by omega),show(WG a b c n).2.2.2=(n:Int)from rfl,TE (by omega),UF,zx (by omega)];rw[show(WG a b c n).2.2.1=W0 (s0 c) (Uq a b n)from rfl,show(WG a b c n).1=aJ a b n from rfl,VG (by have:=d n h;omega),VG (show(aJ a b n).2.1.length<=1048576 from(show 2<=1048576 by omega)),UH];by_cases r:u=0
 ·rw[r,zx (by omega)];rfl
 rw[zy (by omega)];obtain⟨x,o,_⟩:=Wc va vb (n:=n) (by omega);rw[cJ va vb (by omega) o,TW,UI,zy rfl,show(WG a b c n).2.1=Vl (s0 c) (Uq a b n)from rfl,Zj va vb c (by omega) o,TW,UI,zy rfl]
 have q:∀ j,1<=j->j<u -> ∃ y,bW a b (n+j)=zo y:=λj f g=>by
  obtain⟨y,e,_⟩:=Wc va vb (n:=n+j) (by omega);exact⟨y,e⟩
 rw[UL];have hS:=bm va vb c o;cases p:keep (Vl (s0 c) (Uq a b n)) x with
 |true=>
  rw[p]at hS;rw[zy rfl,il (d n h) (by omega)];refine Uw (x:=(1,(ub u (WG a b c (n+u)),()))) (ZM (λj=>ub j (WG a b c (n+j))) 1 u ?_ (by omega) (by omega) (λj f g=> ?_) ?_) ?_
  ·rw[hS,show So .i64 (n:Int) 1=((n+1:Nat):Int)from Uh (by omega)];rfl
  ·obtain⟨y,e⟩:=q j f g;show br (Tk (j:Int) (u:Int)) _ _=_;rw[UH,zy (by omega)];show bd (Ve (aJ a b (n+j))) _=_;rw[cJ va vb (by omega) e,TW,UI,zy rfl];show bd (Vo (Vl (s0 c) (Uq a b (n+j)),y)) _=_;rw[Zj va vb c (by omega) e,TW,UI,zy rfl,UL,show n+(j+1)=n+j+1 by omega,bm va vb c e];cases l:keep (Vl (s0 c) (Uq a b (n+j))) y with
   |true=>
    rw[zy rfl,zy rfl];show gd (CI (BG (AR (W0 (s0 c) (Uq a b (n+j)))) (AR [y])) 1048576) _=_;rw[da (d _ (by omega)) (by omega)];show zo (LR.nx (So .i64 (j:Int) 1,_))=_;unfold ub;simp only[Uh (show j+1<=9223372036854775807 by omega),Iy];rw[show So .i64 (WG a b c (n+j)).2.2.2 1=((n+j+1:Nat):Int)from Uh (by omega)];rfl
   |false=>
    rw[zx (by simp),zx (by simp)];show zo (LR.nx (So .i64 (j:Int) 1,_))=_;unfold ub;simp only[Uh (show j+1<=9223372036854775807 by omega)];rw[show So .i64 (WG a b c (n+j)).2.2.2 1=((n+j+1:Nat):Int)from Uh (by omega),gs];rfl
  ·show br (Tk (u:Int) (u:Int)) _ _=_;rw[UH,zx (by omega)]
  ·rfl
 |false=>
  rw[p]at hS;rw[zx (by simp)];refine Uw (x:=(1,(ub u (WG a b c (n+u)),()))) (ZM (λj=>ub j (WG a b c (n+j))) 1 u ?_ (by omega) (by omega) (λj f g=> ?_) ?_) ?_
  ·rw[hS,show So .i64 (n:Int) 1=((n+1:Nat):Int)from Uh (by omega),zx (by simp),gs];rfl
  ·obtain⟨y,e⟩:=q j f g;show br (Tk (j:Int) (u:Int)) _ _=_;rw[UH,zy (by omega)];show bd (Ve (aJ a b (n+j))) _=_;rw[cJ va vb (by omega) e,TW,UI,zy rfl];show bd (Vo (Vl (s0 c) (Uq a b (n+j)),y)) _=_;rw[Zj va vb c (by omega) e,TW,UI,zy rfl,UL,show n+(j+1)=n+j+1 by omega,bm va vb c e];cases l:keep (Vl (s0 c) (Uq a b (n+j))) y with
   |true=>
    rw[zy rfl,zy rfl];show gd (CI (BG (AR (W0 (s0 c) (Uq a b (n+j)))) (AR [y])) 1048576) _=_;rw[da (d _ (by omega)) (by omega)];show zo (LR.nx (So .i64 (j:Int) 1,_))=_;unfold ub;simp only[Uh (show j+1<=9223372036854775807 by omega),Iy];rw[show So .i64 (WG a b c (n+j)).2.2.2 1=((n+j+1:Nat):Int)from Uh (by omega)];rfl
   |false=>
    rw[zx (by simp),zx (by simp)];show zo (LR.nx (So .i64 (j:Int) 1,_))=_;unfold ub;simp only[Uh (show j+1<=9223372036854775807 by omega)];rw[show So .i64 (WG a b c (n+j)).2.2.2 1=((n+j+1:Nat):Int)from Uh (by omega),gs];rfl
  ·show br (Tk (u:Int) (u:Int)) _ _=_;rw[UH,zx (by omega)]
  ·rfl
end
end
section
open Go Sv
theorem Xg{α β σ S:Type}{l:List α}(mk:Nat->σ->S)(I:List α->Nat->σ->Prop)(Q:β->Prop){f:S->Option (LR S β)}{s:S}(a:σ)(t:s=mk 0 a)(z:l.length<=9223372036854775807)(hi:I l 0 a)
  (w:∀ a,I [] l.length a -> ∃ r,f (mk l.length a)=zo (.dn r)/\Q r)
  (hc:∀ k x m a,l.drop k=x::m->l[k]?=zo x->k<l.length->I (x::m) k a->(∃ b,f (mk k a)=zo (.nx (mk (k+1) b))/\I m (k+1) b) \/ ∃ r,f (mk k a)=zo (.dn r)/\Q r):∃ r,loop f s=zo r/\Q r:=by
 subst t
 have h:∀ (m:List α) (k n:Nat) (a:σ),l.drop k=m->k<=l.length->m.length<n->I m k a -> ∃ r,IX n f (mk k a)=zo r/\Q r:=by
  intro m
  induction m with
  |nil=>
   intro k n a e u g hi;obtain⟨n,rfl⟩:∃ j,n=j+1:=⟨n-1,by omega⟩
   have o:k=l.length:=by
    have:=congrArg mR e;simp at this;omega
   subst o;obtain⟨r,c,d⟩:=w a hi;exact⟨r,U7 c,d⟩
  |cons x m y=>
   intro k n a e u g hi;obtain⟨n,rfl⟩:∃ j,n=j+1:=⟨n-1,by omega⟩
   have q:l[k]?=zo x:=by
    have:=congrArg vt e;rw[sp]at this;simpa using this
   have i:k<l.length:=(a8.1 q).1
   have p:l.drop (k+1)=m:=by
    have:=congrArg tb e;rw[q0]at this;simpa using this
   rcases hc k x m a e q i hi with⟨b,c,d⟩|⟨r,c,d⟩
   ·rw[U1 c];exact y (k+1) n b p (by omega) (by simp at g;omega) d
   ·exact⟨r,U7 c,d⟩
 exact h l 0 _ a (by simp) (by omega) (by omega) hi
theorem ZL{α:Type}(l m:List α)(g:l.length=m.length)(j:l.length<=9223372036854775806){f:(Int×Bool)->Option (LR (Int×Bool) (Nat×((Int×Bool)×Unit)))}
  (hs:∀ (k:Nat) x y,l[k]?=zo x->m[k]?=zo y->(x=y->f ((k:Int),zf)=zo (.nx (((k+1:Nat):Int),zf)))/\(x≠y->f ((k:Int),zf)=zo (.dn (0,(((k:Int),zf),())))))
  (d:f ((l.length:Int),zf)=zo (.dn (1,(((l.length:Int),zf),())))) :
  ∃ r,loop f (0,zf)=zo r/\((l=m/\r.1=1)\/(l≠m/\r.1=0/\r.2.1.2=zf)):=by
 refine Xg (l:=l) (σ:=Unit) (λk _=>((k:Int),zf)) (λt k _=>t=l.drop k/\l.take k=m.take k) _ () rfl (by omega) ⟨by simp,by simp⟩ (λi h=> ?_) (λk x t i hd b n h=> ?_)
 ·refine⟨_,d,.inl ⟨?_,rfl⟩⟩;have:=h.2;rw[x6,g,x6]at this;exact this
 ·have c:k<m.length:=by omega
  have a:m[k]?=zo m[k]:=by simp[c]
  by_cases e:x=m[k]
  ·refine .inl ⟨(),(hs k x m[k] b a).1 e,?_,?_⟩
   ·have:=congrArg tb hd;rw[q0]at this;simp at this;exact this.symm
   ·rw[gw,gw,h.2,b,a,e]
  ·refine .inr ⟨_,(hs k x m[k] b a).2 e,.inr ⟨?_,rfl,rfl⟩⟩;intro e2;subst e2;rw[b]at a;exact e (Option.some.inj a)
theorem beq_eq(a b:Bool):Sv.beq a b=decide (a=b):=by cases a<;>cases b<;>rfl
theorem Wb(a b:Int):O3 a b=decide (a=b):=by
 unfold O3;by_cases h:a=b<;>simp[h]
theorem ZU(p q:Prop)[Decidable p][Decidable q]:OG (decide p) (decide q)=decide (p/\q):=by unfold OG;simp
theorem Vm(p:Prop)[Decidable p]:Hl (decide p)=decide (¬ p):=by unfold Hl;simp
theorem aY(a:Bool):OG a zt=a:=by cases a<;>rfl
theorem jJ(l m:List Uv)(s:l.length<=9223372036854775806):Uu (l,m)=zo (decide (l=m)):=by
 unfold Uu;simp only[Ug,Uc];rw[UI];by_cases b:(l.length:Int)=(m.length:Int)
 ·rw[zy b];have c:l.length=m.length:=by omega
  obtain⟨r,p,a⟩:=ZL l m c s (f:=λs0=>br (Tk s0.1 (l.length:Int)) (λ_=>SW s0.1 λt=>ix l t λn=>SW s0.1 λw=>ix m w λo=>br (Hl (OG (seq n.1 o.1) (OG (Sv.beq n.2 o.2) zt))) (λ_=>zo (.dn ((0,((s0.1,zf),()))))) λ_=>zo (.nx (So .i64 s0.1 1,s0.2))) λ_=>zo (.dn ((1,(s0,()))))) (λk x y d j=>by
    have i:=(a8.1 d).1
    have g:∀ {β:Type} (u v:Unit->Option β),br (Hl (OG (seq x.1 y.1) (OG (Sv.beq x.2 y.2) zt))) u v=if x=y then v ()else u ():=by
     intro β u v;rw[aY,aU,beq_eq,ZU,Vm,Vx];by_cases e:x=y
     ·subst e;simp
     ·rw[zy (λh=>e (s7 h.1 h.2)),zx e]
    constructor
    ·intro e;simp only;rw[rl i,TB,UY,Tq d,UY,Tq j,g,zy e,Uh (by omega)]
    ·intro e;simp only
     rw[rl i,TB,UY,Tq d,UY,Tq j,g,zx e]) (by simp only;rw[re];rfl)
  refine Uw p ?_;rcases a with⟨e,a⟩|⟨e,a,q⟩
  ·rw[TX,a];simp[e]
  ·rw[TX,a];simp[e,q]
 ·rw[zx b];have:¬ l=m:=λe=>b (by rw[e]);simp[this]
theorem Z7(l m:List Int)(n:l.length<=9223372036854775806):Um (l,m)=zo (decide (l=m)):=by
 unfold Um;simp only[Ug,Uc];rw[UI];by_cases b:(l.length:Int)=(m.length:Int)
 ·rw[zy b];have c:l.length=m.length:=by omega
  obtain⟨r,i,a⟩:=ZL l m c n (f:=λs0=>br (Tk s0.1 (l.length:Int)) (λ_=>SW s0.1 λo=>ix l o λq=>SW s0.1 λp=>ix m p λs=>br (SS q s) (λ_=>zo (.dn ((0,((s0.1,zf),()))))) λ_=>zo (.nx (So .i64 s0.1 1,s0.2))) λ_=>zo (.dn ((1,(s0,()))))) (λk x y d h=>by
    have g:=(a8.1 d).1;constructor
    ·intro e;simp only;rw[rl g,TB,UY,Tq d,UY,Tq h,UI,zy e,Uh (by omega)]
    ·intro e;simp only
     rw[rl g,TB,UY,Tq d,UY,Tq h,UI,zx e]) (by simp only;rw[re];rfl)
  refine Uw i ?_;rcases a with⟨e,a⟩|⟨e,a,j⟩
  ·rw[TX,a];simp[e]
  ·rw[TX,a];simp[e,j]
 ·rw[zx b];have:¬ l=m:=λe=>b (by rw[e]);simp[this]
theorem bw{β:Type}(x y:UZ)(u v:Unit->Option β):br (Hl (OG (seq x.1 y.1) (OG (seq x.2.1 y.2.1) (OG (Sv.beq x.2.2.1 y.2.2.1) (OG (O3 x.2.2.2 y.2.2.2) zt))))) u v=if x=y then v ()else u ():=by
 rw[aY,aU,aU,beq_eq,Wb,ZU,ZU,ZU,Vm,Vx];by_cases e:x=y
 ·subst e;simp
 ·rw[zy (λh=>e (s7 h.1 (s7 h.2.1 (s7 h.2.2.1 h.2.2.2)))),zx e]
theorem XC(l m:List UZ)(p:l.length<=9223372036854775806):VB (l,m)=zo (decide (l=m)):=by
 unfold VB;simp only[Ug,Uc];rw[UI];by_cases d:(l.length:Int)=(m.length:Int)
 ·rw[zy d];have g:l.length=m.length:=by omega
  obtain⟨r,n,a⟩:=ZL l m g p (f:=λs0=>br (Tk s0.1 (l.length:Int)) (λ_=>SW s0.1 λq=>ix l q λb=>SW s0.1 λs=>ix m s λc=>br (Hl (OG (seq b.1 c.1) (OG (seq b.2.1 c.2.1) (OG (Sv.beq b.2.2.1 c.2.2.1) (OG (O3 b.2.2.2 c.2.2.2) zt))))) (λ_=>zo (.dn ((0,((s0.1,zf),()))))) λ_=>zo (.nx (So .i64 s0.1 1,s0.2))) λ_=>zo (.dn ((1,(s0,()))))) (λk x y h j=>by
    have i:=(a8.1 h).1;constructor
    ·intro e;simp only;rw[rl i,TB,UY,Tq h,UY,Tq j,bw,zy e,Uh (by omega)]
    ·intro e;simp only
     rw[rl i,TB,UY,Tq h,UY,Tq j,bw,zx e]) (by simp only;rw[re];rfl)
  refine Uw n ?_;rcases a with⟨e,a⟩|⟨e,a,o⟩
  ·rw[TX,a];simp[e]
  ·rw[TX,a];simp[e,o]
 ·rw[zx d];have:¬ l=m:=λe=>d (by rw[e]);simp[this]
theorem Yv(l m:List UZ)(a:l.length<=9223372036854775806):VW (l,m)=zo (decide (l=m)):=by
 unfold VW;rw[XC l m a];rfl
instance:DecidableEq UZ:=inferInstance
instance:DecidableEq (List UZ):=inferInstance
instance:DecidableEq (List (List UZ)):=inferInstance
instance:DecidableEq Uv:=inferInstance
instance:DecidableEq We:=inferInstance
instance:DecidableEq WE:=inferInstance
instance:DecidableEq VO:=inferInstance
instance:DecidableEq YZ:=inferInstance
theorem eZ(x y:YZ)(n:x.1.1.length<=1000)(i:∀ l∈x.1.1,l.length<=1000000)(o:x.1.2.1.length<=1000)(p:x.1.2.2.1.length<=1000)(q:x.1.2.2.2.1.length<=1000)(s:x.2.2.1.length<=1000000):Wd (x,y)=zo (decide (x=y)):=by
 obtain⟨⟨a,E,F,G,M⟩,⟨xs,L,J⟩,I,K⟩:=x;obtain⟨⟨b,N,P,S,Z⟩,⟨X,Y,O⟩,W,U⟩:=y;simp only at n i o p q s;unfold Wd;simp only[Ug,Uc];rw[UI];by_cases g:(a.length:Int)=(b.length:Int)
 ·rw[zy g];have h:a.length=b.length:=by omega
  obtain⟨r,z,d⟩:=ZL a b h (by omega) (f:=λs0=>br (Tk s0.1 (a.length:Int)) (λ_=>SW s0.1 λu=>ix a u λC=>SW s0.1 λw=>ix b w λD=>bd (VW (C,D)) λB=>br (Hl B) (λ_=>zo (.dn ((0,((s0.1,zf),()))))) λ_=>zo (.nx (So .i64 s0.1 1,s0.2))) λ_=>zo (.dn ((1,(s0,()))))) (λk x y c m=>by
    have j:=(a8.1 c).1;have t:=i x (bo c);constructor
    ·intro e;simp only;rw[rl j,TB,UY,Tq c,UY,Tq m,Yv _ _ (by omega),TW,Vm,Vx,zx (by simp[e]),Uh (by omega)]
    ·intro e;simp only
     rw[rl j,TB,UY,Tq c,UY,Tq m,Yv _ _ (by omega),TW,Vm,Vx,zy e]) (by simp only;rw[re];rfl)
  refine Uw z ?_;simp only[Z7 _ _ (show E.length<=9223372036854775806 by omega),Z7 _ _ (show G.length<=9223372036854775806 by omega),jJ _ _ (show F.length<=9223372036854775806 by omega),Yv _ _ (show I.length<=9223372036854775806 by omega),TW,Vx,Wb,aU,beq_eq,aY,ZU,TX];rw[UL];rcases d with⟨e,d⟩|⟨e,d,A⟩
  ·rw[zx (show ¬ r.1=0 by omega)]
   repeat' split
   all_goals simp_all
  ·rw[zy d,zx (show ¬ r.2.1.2=zt by simp[A])];simp[e]
 ·rw[zx g];have:¬ a=b:=λe=>g (by rw[e]);simp[this]
end
section
open Go Sv
def kR(a:List Int)(most:Int)(r:Uy):Int:=
 if r.1<1\/r.1>1000000 then 7 else if(WI r.2).2≠0 then(WI r.2).2 else if r.2.length=0 then 4 else if(r.2.length:Int)>most then 3 else if r.1∈a then 8 else 0
def aF(most:Int):Nat->List Int->List Uy->Option (Nat×Int)
 |_,_,[]=>zn
 |k,ids,r::rs=>if kR ids most r≠0 then zo (k,kR ids most r)else aF most (k+1) (ids++[r.1]) rs
def VJ(B:Int)(i:Nat):Int:=B*2 ^ i
def aE(B:Int):Nat->List Int->List (List Uy)->Option (Nat×(Nat×Int))
 |_,_,[]=>zn
 |i,ids,rs::ls=>if rs.length>2 then zo (i,(0,3))else match aF (VJ B i) 0 ids rs with
  |some (k,e)=>zo (i,(k,e))
  |none=>aE B (i+1) (ids++rs.map (·.1)) ls
def WF(L:Ub):Int×(Int×Int):=
 if L.1<1\/L.1>16 then(0,(0,7))else if L.2.length>12 then(0,(0,3))else match aE L.1 0 [] L.2 with
  |some (i,(k,e))=>((i:Int),((k:Int),e))
  |none=>if L.2.getLast?=zo []then(((L.2.length-1:Nat):Int),(0,6))else(0,(0,0))
theorem i8{most:Int}:∀ {rs:List Uy} {k:Nat} {a:List Int} {c:Nat} {e:Int},aF most k a rs=zo (c,e)->e≠0
 |[],_,_,_,_,h=>by cases h
 |r::rs,k,a,c,e,h=>by
  unfold aF at h;by_cases b:kR a most r≠0
  ·rw[zy b]at h;cases h;exact b
  ·rw[zx b]at h;exact i8 h
theorem di{B:Int}:∀ {ls:List (List Uy)} {i:Nat} {a:List Int} {d f:Nat} {e:Int},aE B i a ls=zo (d,(f,e))->e≠0
 |[],_,_,_,_,_,h=>by cases h
 |rs::ls,i,a,d,f,e,h=>by
  unfold aE at h;by_cases c:rs.length>2
  ·rw[zy c]at h;cases h;decide
  ·rw[zx c]at h;cases b:aF (VJ B i) 0 a rs with
   |none=>rw[b]at h;exact di h
   |some x=>rw[b]at h;cases h;exact i8 b
def ck(a:List Int):List (Int×Bool):=a.map λi=>(i,zt)
theorem lN(c:List Int)(i:Int):Sy (Mo (λa b=>O3 a b) (ck c) i) zf=decide (i∈c):=by
 induction c with
 |nil=>rfl
 |cons j c d=>
  show Sy (bif O3 i j then zo zt else Mo (λa b=>O3 a b) (ck c) i) zf=_
  rw[Wb];by_cases h:i=j
  ·simp[h,Sy]
  ·simp only[h,decide_false,zj,ey,false_or];exact d
theorem lO{c:List Int}{i:Int}(h:i ∉ c):If (λa b=>O3 a b) (ck c) i zt=ck (c++[i]):=by
 induction c with
 |nil=>rfl
 |cons j c f=>
  show(bif O3 i j then(i,zt)::ck c else(j,zt)::If (λa b=>O3 a b) (ck c) i zt)=_
  rw[Wb];have d:¬ i=j:=λe=>h (by simp[e]);rw[f (λe=>h (by simp[e]))];simp only[d,decide_false,zj];rfl
theorem an(r:Uy)(b:r.2.length<=9223372036854775807):X3 r=zo (if r.1<1\/r.1>1000000 then(-1,7)else WI r.2):=by
 unfold X3;rw[UH,UF,W2 _ b,TW];by_cases h:r.1<1
 ·rw[zy h,zy (.inl h)]
 ·rw[zx h];by_cases a:r.1>1000000
  ·rw[zy a,zy (.inr a)]
  ·rw[zx a,zx (by omega)]
theorem cz(r:Uy)(most:Int)(b:r.2.length<=9223372036854775807):WQ (r,most)=zo (kR [] most r):=by
 unfold WQ kR;rw[an r b,TW];simp only[Ug,Uc];by_cases h:r.1<1\/r.1>1000000
 ·rw[zy h,zy h];rfl
 ·rw[zx h,zx h,UI];by_cases a:(WI r.2).2=0
  ·rw[zy a,zx (by simp[a]),UD,UF]
   repeat' split
   all_goals first|rfl|(exfalso;omega)|simp_all
  ·rw[zx a,zy a]
theorem us(a:List Int)(most:Int)(r:Uy):kR a most r=if kR [] most r=0 then(if r.1∈a then 8 else 0)else kR [] most r:=by
 unfold kR
 repeat' split
 all_goals simp_all
theorem vQ(i:Nat)(h:i<=12):(2:Int) ^ i<=4096/\1<=(2:Int) ^ i:=by
 have a:(2:Nat) ^ i<=2 ^ 12:=Nat.pow_le_pow_right (by omega) h;have b:1<=(2:Nat) ^ i:=Nat.one_le_two_pow;have c:((2 ^ i:Nat):Int)=(2:Int) ^ i:=by simp
 omega
theorem fW{B:Int}{i:Nat}(a:1<=B)(b:B<=16)(hi:i<=12):1<=VJ B i/\VJ B i<=65536:=by
 obtain⟨c,d⟩:=vQ i hi;unfold VJ;constructor
 ·have:=yn a d (by omega) (by omega);omega
 ·have:=yn b c (by omega) (by omega);omega
theorem bC{B:Int}{i:Nat}(a:1<=B)(b:B<=16)(hi:i<=12):To .i64 B (i:Int)=VJ B i:=by
 have c:=fW a b hi;unfold To;rw[show min ((i:Int).toNat) IntKind.i64.bits=i by rw[bl];exact tg (Nat.le_trans hi (by decide))];unfold VJ at c ⊢;exact IntWalk.i64_in _ (by omega)
def Q1:Option (Nat×(Nat×Int))->Int->Int->Int->Prop
 |some (i,(k,e)),a,b,c=>a=(k:Int)/\b=(i:Int)/\c=e
 |none,_,_,c=>c=0
def Q2(m:List (Int×Bool)):Option (Nat×Int)->Nat->Int->Int->List (Int×Bool)->Prop
 |some (k,e),r,a,c,_=>r=0/\a=(k:Int)/\c=e
 |none,r,_,c,m'=>r=1/\c=0/\m'=m
theorem Zf(L:Ub)(hb:L.2.length<=1048576)(hr:∀ rs∈L.2,rs.length<=1048576 /\ ∀ r∈rs,r.2.length<=9223372036854775807):WA L=zo (WF L):=by
 unfold WA WF;simp only[Ug,Uc];rw[UH,UF,UF];by_cases z:L.1<1
 ·rw[zy z,zy (.inl z)]
 rw[zx z];by_cases A:L.1>16
 ·rw[zy A,zy (.inr A)]
 rw[zx A,zx (show ¬ (L.1<1\/L.1>16) by omega)];by_cases hl:(L.2.length:Int)>12
 ·rw[zy hl,zy (by omega)]
 rw[zx hl,zx (by omega)];have hl2:L.2.length<=12:=by omega
 obtain⟨T,I⟩:∃ T,T=aE L.1 0 [] L.2:=⟨_,rfl⟩;rw[<- I]
 have C:∀ W:Int,W=0->T=zn->(br (SS W 0) (λ_=>(zn:Option (Int×(Int×Int)))) λ_=>br (Ti (L.2.length:Int) 0) (λ_=>SW (Ss .i64 (L.2.length:Int) 1) λO=>ix L.2 O λX=>br (O3 (X.length:Int) 0) (λ_=>zo ((Ss .i64 (L.2.length:Int) 1,(0,6)))) λ_=>zo ((0,(0,0)))) λ_=>zo ((0,(0,0))))=zo (if L.2.getLast?=zo []then(((L.2.length-1:Nat):Int),(0,6))else(0,(0,0))):=by
  intro W o _;rw[UI,zy o,UF];by_cases hn:L.2=[]
  ·rw[hn];rfl
  ·have hp:=ee.2 hn;rw[zy (by omega),show Ss .i64 (L.2.length:Int) 1=((L.2.length-1:Nat):Int) by rw[TG (by omega)];omega,UY,pg];have n:L.2[L.2.length-1]?=zo (L.2[L.2.length-1]'(by omega)):=by simp
   rw[Tq n,n,UD];by_cases N:L.2[L.2.length-1]'(by omega)=[]
   ·rw[N];simp
   ·rw[zx (by have:=ee.2 N;omega),zx (by simp[N])]
 obtain⟨r,S,b⟩:=Xg (l:=L.2) (σ:=Int×(Int×List Int)) (λi j=>(j.1,(j.2.1,((0:Int),((i:Int),ck j.2.2)))))
  (λm i j=>aE L.1 i j.2.2 m=T) (λ(r:Nat×((Int×(Int×(Int×(Int×List (Int×Bool)))))×Unit))=>Q1 T r.2.1.1 r.2.1.2.1 r.2.1.2.2.1)
  (f:=λs0=>br (Tk s0.2.2.2.1 (L.2.length:Int)) (λ_=>SW s0.2.2.2.1 λk1=>ix L.2 k1 λY=>br (Ti (Y.length:Int) 2) (λ_=>zo (.dn ((0,((0,(s0.2.2.2.1,(3,s0.2.2.2))),()))))) λ_=>bd (loop (λa=>br (Tk a.2.1 (Y.length:Int)) (λ_=>SW a.2.1 λP=>ix Y P λp=>gd (SR s0.2.2.2.1 0) λ_=>bd (WQ (p,To .i64 L.1 s0.2.2.2.1)) λg=>br (O3 g 0) (λ_=>br (Sy (Mo ((λJ=>(λK=>O3 J K))) a.2.2.2 p.1) zf) (λ_=>zo (.dn ((0,((a.2.1,(a.2.1,(8,a.2.2.2))),()))))) λ_=>br (SS g 0) (λ_=>zo (.dn ((0,((a.2.1,(a.2.1,(g,a.2.2.2))),()))))) λ_=>zo (.nx ((a.2.1,(So .i64 a.2.1 1,(g,If ((λM=>(λw=>O3 M w))) a.2.2.2 p.1 zt)))))) λ_=>br (SS g 0) (λ_=>zo (.dn ((0,((a.2.1,(a.2.1,(g,a.2.2.2))),()))))) λ_=>zo (.nx ((a.2.1,(So .i64 a.2.1 1,(g,If ((λx=>(λy=>O3 x y))) a.2.2.2 p.1 zt)))))) λ_=>zo (.dn ((1,(a,()))))) ((0,(0,(s0.2.2.1,s0.2.2.2.2))))) λd=>br (neq d.1 0) (λ_=>zo (.dn ((0,((d.2.1.1,(s0.2.2.2.1,(d.2.1.2.2.1,(s0.2.2.2.1,d.2.1.2.2.2)))),()))))) λ_=>zo (.nx ((d.2.1.1,(s0.2.2.2.1,(d.2.1.2.2.1,(So .i64 s0.2.2.2.1 1,d.2.1.2.2.2))))))) λ_=>zo (.dn ((0,(s0,())))))
  (s:=(0,(0,(0,(0,[]))))) (0,(0,[])) rfl (by omega) I.symm (λj h=>by
   refine⟨_,by simp only;rw[re];rfl,?_⟩;simp only at h ⊢;rw[<- h];exact rfl) (λi rs m j hd n hi h=>by
   obtain⟨s1,s2,c⟩:=j;simp only at h ⊢;obtain⟨hrs1,F⟩:=hr rs (bo n);rw[rl hi,TB,UY,Tq n,UF];unfold aE at h;by_cases Z:rs.length>2
   ·rw[zy (by omega)];rw[zy Z]at h;refine .inr ⟨_,rfl,?_⟩;rw[<- h];exact⟨rfl,rfl,rfl⟩
   rw[zx (by omega)];rw[zx Z]at h;obtain⟨U,hU⟩:∃ U,U=aF (VJ L.1 i) 0 c rs:=⟨_,rfl⟩;rw[<- hU]at h
   obtain⟨r,S,b⟩:=Xg (l:=rs) (σ:=Int) (λk j=>(j,((k:Int),((0:Int),ck (c++(rs.take k).map (·.1))))))
    (λm k _=>aF (VJ L.1 i) k (c++(rs.take k).map (·.1)) m=U) (λ(r:Nat×((Int×(Int×(Int×List (Int×Bool))))×Unit))=>Q2 (ck (c++rs.map (·.1))) U r.1 r.2.1.1 r.2.1.2.2.1 r.2.1.2.2.2)
    (f:=λa=>br (Tk a.2.1 (rs.length:Int)) (λ_=>SW a.2.1 λP=>ix rs P λp=>gd (SR (i:Int) 0) λ_=>bd (WQ (p,To .i64 L.1 (i:Int))) λg=>br (O3 g 0) (λ_=>br (Sy (Mo ((λJ=>(λK=>O3 J K))) a.2.2.2 p.1) zf) (λ_=>zo (.dn ((0,((a.2.1,(a.2.1,(8,a.2.2.2))),()))))) λ_=>br (SS g 0) (λ_=>zo (.dn ((0,((a.2.1,(a.2.1,(g,a.2.2.2))),()))))) λ_=>zo (.nx ((a.2.1,(So .i64 a.2.1 1,(g,If ((λM=>(λw=>O3 M w))) a.2.2.2 p.1 zt)))))) λ_=>br (SS g 0) (λ_=>zo (.dn ((0,((a.2.1,(a.2.1,(g,a.2.2.2))),()))))) λ_=>zo (.nx ((a.2.1,(So .i64 a.2.1 1,(g,If ((λx=>(λy=>O3 x y))) a.2.2.2 p.1 zt)))))) λ_=>zo (.dn ((1,(a,())))))
    (s:=(0,(0,(0,ck c)))) 0 (by simp) (by omega) (by simp[hU]) (λj h=>by
     refine⟨_,by simp only;rw[re];rfl,?_⟩;rw[<- h];exact⟨rfl,rfl,by simp⟩) (λk r m j hd n hk h=>by
     simp only at h ⊢;have hr2:=F r (bo n);have G:(rs.take (k+1)).map (·.1)=(rs.take k).map (·.1)++[r.1]:=by rw[gw,n];simp
     rw[rl hk,TB,UY,Tq n,show gd (SR (i:Int) 0)=λ(q:Unit->Option (LR (Int×(Int×(Int×List (Int×Bool)))) (Nat×((Int×(Int×(Int×List (Int×Bool))))×Unit))))=>q ()from by unfold SR;simp[gd];rfl,bC (by omega) (by omega) (by omega)];simp only;rw[cz _ _ (by omega),TW,UD,lN,UI];unfold aF at h;rw[us]at h;by_cases o:kR [] (VJ L.1 i) r=0
     ·rw[zy o]at h;rw[zy o,zy o,Vx];by_cases E:r.1∈c++(rs.take k).map (·.1)
      ·rw[zy E];rw[zy E,zy (by decide)]at h;refine .inr ⟨_,rfl,?_⟩;rw[<- h];exact⟨rfl,rfl,rfl⟩
      ·rw[zx E];rw[zx E,zx (by decide)]at h;refine .inl ⟨(k:Int),?_,?_⟩
       ·rw[lO E,o,Ui n (by omega),G,dc]
       ·rw[G,<- dc];exact h
     ·rw[zx o,zy o]at h;rw[zx o,zx o];refine .inr ⟨_,rfl,?_⟩;rw[<- h]
      exact⟨rfl,rfl,rfl⟩)
   rw[S,TW,TX];cases D:U with
   |some u=>
    obtain⟨k,e⟩:=u;rw[D]at b h;rw[zy b.1];refine .inr ⟨_,rfl,?_⟩;rw[<- h];exact⟨b.2.1,rfl,b.2.2⟩
   |none=>
    rw[D]at b h;rw[zx (show ¬ r.1=0 by have:=b.1;omega)];refine .inl ⟨(r.2.1.1,((i:Int),c++rs.map (·.1))),?_,h⟩
    rw[b.2.1,b.2.2,Ui n (by omega)])
 refine Uw S ?_;cases B:T with
 |some t=>
  obtain⟨i,k,e⟩:=t;rw[B]at b I;rw[UI,zx (by rw[b.2.2];exact di I.symm),b.1,b.2.1,b.2.2]
 |none=>
  rw[B]at b;have h:=C _ b B;have q3:r.2.1.2.2.1=0:=b;rw[UI,zy q3]at h ⊢;exact h
end
section
open Go Sv
structure VR (most:Int) (r:Uy):Prop where
 id1:1<=r.1
 id2:r.1<=1000000
 vl:VL r.2
 ne:r.2≠[]
 le:(r.2.length:Int)<=most
theorem iq{a:List Int}{most:Int}{r:Uy}:kR a most r=0<->VR most r/\r.1 ∉ a:=by
 unfold kR;constructor
 ·intro h;by_cases f:r.1<1\/r.1>1000000
  ·rw[zy f]at h;cases h
  rw[zx f]at h;by_cases b:(WI r.2).2≠0
  ·rw[zy b]at h;exact absurd h b
  rw[zx b]at h;by_cases c:r.2.length=0
  ·rw[zy c]at h;cases h
  rw[zx c]at h;by_cases g:(r.2.length:Int)>most
  ·rw[zy g]at h;cases h
  rw[zx g]at h;by_cases d:r.1∈a
  ·rw[zy d]at h;cases h
  exact⟨⟨by omega,by omega,ZF.1 (by simpa using b),by intro e;rw[e]at c;exact c rfl,by omega⟩,d⟩
 ·rintro⟨h,d⟩;rw[zx (by have:=h.id1;have:=h.id2;omega),zx (by simp[ZF.2 h.vl]),zx (by have:=ee.2 h.ne;omega),zx (by have:=h.le;omega),zx d]
def sK(r:Uy):Int:=r.1
theorem bK{most:Int}:∀ {rs:List Uy} {k:Nat} {a:List Int},aF most k a rs=zn<->(∀ r∈rs,VR most r/\r.1 ∉ a)/\(rs.map sK).Nodup
 |[],k,a=>by simp[aF]
 |r::rs,k,a=>by
  unfold aF;by_cases h:kR a most r=0
  ·rw[zx (by simp[h]),bK (rs:=rs)];have f:=iq.1 h;simp only[ey,forall_eq_or_imp,nP,oy,l6,List.not_mem_nil,or_false,o3,not_exists,not_and,not_or];constructor
   ·rintro⟨b,d⟩;exact⟨⟨f,λx c=>⟨(b x c).1,(b x c).2.1⟩⟩,λx c e=>(b x c).2.2 e,d⟩
   ·rintro⟨⟨_,b⟩,d,g⟩;exact⟨λx c=>⟨(b x c).1,(b x c).2,d x c⟩,g⟩
  ·rw[zy h];simp only[reduceCtorEq,false_iff,not_and];intro b;exact absurd (iq.2 (b r (by simp))) h
theorem aB{B:Int}:∀ {ls:List (List Uy)} {i:Nat} {c:List Int},aE B i c ls=zn<->(∀ k rs,ls[k]?=zo rs->rs.length<=2 /\ ∀ r∈rs,VR (VJ B (i+k)) r/\r.1 ∉ c)/\(ls.flatten.map sK).Nodup
 |[],i,c=>by simp[aE]
 |rs::ls,i,c=>by
  unfold aE;by_cases h:rs.length>2
  ·rw[zy h];simp only[reduceCtorEq,false_iff,not_and];intro j;have:=(j 0 rs rfl).1;omega
  ·rw[zx h];cases g:aF (VJ B i) 0 c rs with
   |some x=>
    simp only[reduceCtorEq,false_iff,not_and];intro j l
    have m:aF (VJ B i) 0 c rs=zn:=bK.2 ⟨(j 0 rs rfl).2,by
     simp only[lc,sa]at l
     exact(p9.1 l).1⟩
    rw[g]at m;cases m
   |none=>
    have q:=bK.1 g;simp only;rw[aB (ls:=ls)];simp only[lc,sa,l6,not_or,o3];constructor
    ·rintro⟨j,l⟩;refine⟨λk d n=> ?_,?_⟩
     ·cases k with
      |zero=>cases n;exact⟨by omega,q.1⟩
      |succ k=>
       have m:=j k d n
       exact⟨m.1,λr g=>by
        have:=m.2 r g;rw[show i+(k+1)=i+1+k by omega]
        exact⟨this.1,this.2.1⟩⟩
     ·rw[p9];refine⟨q.2,l,?_⟩;intro a s b t e;subst e;obtain⟨r,g,e1⟩:=o3.1 s;obtain⟨p,f,e2⟩:=o3.1 t;obtain⟨d,o,f⟩:=l4.1 f;obtain⟨k,n⟩:=eg o;exact((j k d n).2 p f).2.2 ⟨r,g,by unfold sK at e1 e2;omega⟩
    ·rintro⟨j,l⟩;rw[p9]at l;refine⟨λk d n=> ?_,l.2.1⟩;have m:=j (k+1) d n;refine⟨m.1,λr g=> ?_⟩;have:=m.2 r g;rw[show i+(k+1)=i+1+k by omega]at this;refine⟨this.1,this.2,?_⟩;rintro⟨p,f,e⟩;exact l.2.2 (sK p) (l5 f) (sK r) (l5 (l4.2 ⟨d,bo n,g⟩)) e
structure VLev (L:Ub):Prop where
 B1:1<=L.1
 B2:L.1<=16
 len:L.2.length<=12
 lev:∀ i rs,L.2[i]?=zo rs->rs.length<=2 /\ ∀ r∈rs,VR (VJ L.1 i) r
 ids:(L.2.flatten.map sK).Nodup
 last:L.2.getLast? ≠ zo []
theorem YW{L:Ub}:(WF L).2.2=0<->VLev L:=by
 unfold WF;constructor
 ·intro h;by_cases c:L.1<1\/L.1>16
  ·rw[zy c]at h;cases h
  rw[zx c]at h;by_cases d:L.2.length>12
  ·rw[zy d]at h;cases h
  rw[zx d]at h;cases a:aE L.1 0 [] L.2 with
  |some x=>
   obtain⟨i,k,e⟩:=x;rw[a]at h;exact absurd h (di a)
  |none=>
   rw[a]at h;simp only at h;by_cases f:L.2.getLast?=zo []
   ·rw[zy f]at h;cases h
   ·have g:=aB.1 a
    exact⟨by omega,by omega,by omega,λi rs hi=>by
     have:=g.1 i rs hi;rw[en]at this
     exact⟨this.1,λr b=>(this.2 r b).1⟩,g.2,f⟩
 ·intro h
  have a:aE L.1 0 [] L.2=zn:=aB.2 ⟨λk rs j=>by
   have:=h.lev k rs j;rw[en]
   exact⟨this.1,λr b=>⟨this.2 r b,by simp⟩⟩,h.ids⟩
  rw[zx (by have:=h.B1;have:=h.B2;omega),zx (by have:=h.len;omega),a];simp only;rw[zx h.last]
theorem XK{L:Ub}(h:VLev L):WF L=(0,(0,0)):=by
 have a:aE L.1 0 [] L.2=zn:=aB.2 ⟨λk rs b=>by
  have:=h.lev k rs b;rw[en]
  exact⟨this.1,λr c=>⟨this.2 r c,by simp⟩⟩,h.ids⟩
 unfold WF;rw[zx (by have:=h.B1;have:=h.B2;omega),zx (by have:=h.len;omega),a];simp only;rw[zx h.last]
def XJ(l:List (List Uy)):Int:=l.foldl (λm rs=>rs.foldl (λm r=>UP m r.1) m) 0
def Uf:Nat->List (List Uy)->List Int
 |_,[]=>[]
 |i,rs::ls=>(if rs.length=2 then[(i:Int)]else[])++Uf (i+1) ls
theorem eX(L:Ub)(e:L.2.length<=1048576)(c:∀ rs∈L.2,rs.length<=1048576):XX L=zo (XJ L.2):=by
 unfold XX;simp only[Ug,Uc]
 rw[Vq (l:=L.2) (σ:=Int) (s:=((0:Int),(0:Int))) (λi m=>(m,(i:Int))) (λ_ _ _=>True) (λls _ m=>(0,((ls.foldl (λm rs=>rs.foldl (λm r=>UP m r.1) m) m,(L.2.length:Int)),()))) 0 rfl (by omega) trivial (λm _=>by
  simp only;rw[re];rfl) (λi rs ls m hd a hi _=>by
   refine⟨rs.foldl (λm r=>UP m r.1) m,?_,trivial,rfl⟩;have d:=c rs (bo a);simp only
   rw[rl hi,TB,UY,Tq a,Vq (l:=rs) (σ:=Int) (s:=((0:Int),m)) (λi m=>((i:Int),m)) (λ_ _ _=>True) (λl _ m=>(0,(((rs.length:Int),l.foldl (λm r=>UP m r.1) m),()))) m rfl (by omega) trivial (λm _=>by
    simp only;rw[re];rfl) (λk r l m hd a b _=>by
     refine⟨UP m r.1,?_,trivial,rfl⟩;simp only
     rw[rl b,TB,UY,Tq a,Ui a (by omega)]),TW,Ui a (by omega)]),TW]
 rfl
def aD(L:Ub)(a:List Int)(i:Nat)(j:Job):Bool:=match a[i]? with
 |none=>zt
 |some d=>if j.1≠d then zt else if j.2.2.1.2.2=zt/\j.1≠(L.2.length:Int)-1 then zt else match L.2[d.toNat]? with
  |some [r0,r1]=>if j.2.2.2.2<0\/j.2.2.2.2>((r1.2.length+r0.2.length:Nat):Int)then zt else decide (WG r1.2 r0.2 j.2.2.1.2.2 j.2.2.2.2.toNat≠j.2)
  |_=>zt
def Xf(L:Ub)(a:List Int):Nat->List Job->Option Nat
 |_,[]=>zn
 |i,j::js=>if aD L a i j=zt then zo i else Xf L a (i+1) js
def Ua(s:UX):Int×Int:=
 if(WF s.1).2.2≠0 then(-1,(WF s.1).2.2)else if s.2.2<1\/s.2.2>1000001 then(-1,7)else if s.2.2<=XJ s.1.2 then(-1,6)else match Xf s.1 (Uf 0 s.1.2) 0 s.2.1 with
  |some i=>((i:Int),6)
  |none=>if s.2.1.length<(Uf 0 s.1.2).length then(-1,4)else(0,0)
theorem Ym:∀ {ls:List (List Uy)} {i k:Nat} {d:Int},(Uf i ls)[k]?=zo d -> ∃ n:Nat,d=((i+n:Nat):Int) /\ ∃ e f,ls[n]?=zo [e,f]
 |[],i,k,d,h=>by cases h
 |rs::ls,i,k,d,h=>by
  unfold Uf at h;by_cases a:rs.length=2
  ·rw[zy a]at h;cases k with
   |zero=>
    simp at h;refine⟨0,by simp[<- h],?_⟩
    match rs,a with
    |[e,f],_=>exact⟨e,f,rfl⟩
   |succ k=>
    simp at h;obtain⟨n,b,c⟩:=Ym h;exact⟨n+1,by rw[b];congr 1;omega,c⟩
  ·rw[zx a]at h;simp at h;obtain⟨n,b,c⟩:=Ym h;exact⟨n+1,by rw[b];congr 1;omega,c⟩
theorem WU:∀ (ls:List (List Uy)) (i:Nat),(Uf i ls).length<=ls.length
 |[],i=>ed _
 |rs::ls,i=>by
  have:=WU ls (i+1);unfold Uf;split<;>simp<;>omega
theorem eB{L:Ub}{n:Nat}{a b:Uy}(c:Bool)(h:L.2[n]?=zo [a,b])(v0:VL a.2)(v1:VL b.2):V3 (L,((n:Int),c))=zo ((n:Int),WG b.2 a.2 c 0):=by
 unfold V3;simp only;rw[UY,Tq h,Tq (x:=b) rfl,Tq (x:=a) rfl,jG v1 v0];rfl
theorem ax{a b:List UZ}(va:VL a)(d:VL b)(c:Bool){n:Nat}(h:n<=a.length+b.length):(WG a b c n).1.1.length<=1000/\(∀ l∈(WG a b c n).1.1,l.length<=1000000)/\(WG a b c n).1.2.1.length<=1000/\(WG a b c n).1.2.2.1.length<=1000/\(WG a b c n).1.2.2.2.1.length<=1000/\(WG a b c n).2.2.1.length<=1000000:=by
 have j:=va.len;have k:=d.len;refine⟨show 2<=1000 by omega,λl f=> ?_,show 2<=1000 by omega,show 2<=1000 by omega,show 2<=1000 by omega,?_⟩
 ·have:l=a\/l=b:=by simpa[WG,aJ,aW]using f
  rcases this with e|e<;>subst e<;>omega
 ·have g:=ZG (s0 c) (Uq a b n);have i:=Vv va d h;show(W0 (s0 c) (Uq a b n)).length<=_;omega
theorem ur{L:Ub}{n:Nat}{a b:Uy}{j:Job}(h:L.2[n]?=zo [a,b])(v0:VL a.2)(v1:VL b.2){β:Type}(A B:Option β) :
  (bd (V3 (L,((n:Int),j.2.2.1.2.2))) λc=>bd (VI c.2) λg=>br (Tk j.2.2.2.2 0) (λ_=>A) λ_=>br (Ti j.2.2.2.2 g.1) (λ_=>A) λ_=>bd (Vc (c.2,j.2.2.2.2)) λi=>bd (Wd (i.1,j.2)) λl=>br (Hl l) (λ_=>A) λ_=>B)
  = if j.2.2.2.2<0\/j.2.2.2.2>((b.2.length+a.2.length:Nat):Int)then A else if WG b.2 a.2 j.2.2.1.2.2 j.2.2.2.2.toNat=j.2 then B else A:=by
 rw[eB _ h v0 v1,TW,bL v1 v0 _ (iP _),TW,UH,UF,li];by_cases e:j.2.2.2.2<0
 ·rw[zy e,zy (.inl e)]
 rw[zx e];by_cases f:j.2.2.2.2>((b.2.length+a.2.length:Nat):Int)
 ·rw[zy f,zy (.inr f)]
 rw[zx f,zx (show ¬ (j.2.2.2.2<0\/j.2.2.2.2>((b.2.length+a.2.length:Nat):Int)) by omega)];obtain⟨k,m⟩:∃ k:Nat,j.2.2.2.2=(k:Int):=⟨j.2.2.2.2.toNat,by omega⟩;rw[m,dJ v1 v0 _ (iP _),TW,li,en,tg (by omega),bl];obtain⟨s1,s2,o,p,q,r⟩:=ax v1 v0 j.2.2.1.2.2 (n:=k) (by omega);rw[eZ _ _ s1 s2 o p q r,TW,Vm,Vx];by_cases d:WG b.2 a.2 j.2.2.1.2.2 k=j.2
 ·rw[zx (by simp[d]),zy d]
 ·rw[zy d,zx d]
theorem f9(s:UX)(N:s.1.2.length<=1048576)(hr:∀ rs∈s.1.2,rs.length<=1048576 /\ ∀ r∈rs,r.2.length<=9223372036854775807)(hj:s.2.1.length<=1048576):VP s=zo (Ua s):=by
 unfold VP Ua;simp only[Ug,Uc];rw[Zf _ N hr,TW,UI];by_cases z:(WF s.1).2.2=0;rotate_left
 ·rw[zx z,zy z]
 rw[zy z,zx (by simp[z]),UH,UF,eX _ N (λrs h=>(hr rs h).1),TW];have v:=YW.1 z;by_cases C:s.2.2<1
 ·rw[zy C,zy (.inl C)]
 rw[zx C];by_cases p:s.2.2>1000001
 ·rw[zy p,zy (.inr p)]
 rw[zx p,zx (show ¬ (s.2.2<1\/s.2.2>1000001) by omega),UG];by_cases o:s.2.2<=XJ s.1.2
 ·rw[zy o,zy o]
 rw[zx o,zx o]
 rw[Vq (l:=s.1.2) (σ:=List Int) (s:=((0:Int),([]:List Int))) (λi m=>((i:Int),m)) (λls i m=>m++Uf i ls=Uf 0 s.1.2) (λ_ _ _=>(0,(((s.1.2.length:Int),Uf 0 s.1.2),()))) [] rfl (by omega) rfl (λm h=>by
  simp only;rw[re,Sd,<- h];simp[Uf]) (λi rs ls m hd E hi h=>by
   refine⟨m++(if rs.length=2 then[(i:Int)]else[]),?_,?_,rfl⟩
   ·simp only;rw[rl hi,TB,UY,Tq E,UD]
    have hm:m.length<=1048575:=by
     have D:=congrArg mR h;have q:=WU s.1.2 0;have u:=v.len;rw[hI]at D;omega
    by_cases D:rs.length=2
    ·rw[zy (by omega),zy D,VG (by simp only[BG,AR,ci,cP];omega),Ui E (by omega)];rfl
    ·rw[zx (by omega),zx D,gs,Ui E (by omega)]
   ·rw[dc];exact h),TW]
 simp only;obtain⟨a,g⟩:∃ a,a=Uf 0 s.1.2:=⟨_,rfl⟩;have hdl:a.length<=12:=by have:=WU s.1.2 0;have:=v.len;rw[g];omega
 rw[<- g];obtain⟨T,hT⟩:∃ T,T=Xf s.1 a 0 s.2.1:=⟨_,rfl⟩;rw[<- hT]
 obtain⟨r,q1,I⟩:=Xg (l:=s.2.1) (σ:=Unit) (λi _=>((0:Int),((0:Int),(i:Int)))) (λjs i _=>Xf s.1 a i js=T) (λ(r:Nat×((Int×(Int×Int))×Unit))=>(T=zn/\r.1=1)\/(∃ i:Nat,T=zo i/\r.1=0/\r.2.1.1=6/\r.2.1.2.1=(i:Int)))
  (f:=λb=>br (Tk b.2.2 (s.2.1.length:Int)) (λ_=>SW b.2.2 λk7=>ix s.2.1 k7 λe=>br (SR b.2.2 (a.length:Int)) (λ_=>zo (.dn ((0,((6,(b.2.2,b.2.2)),()))))) λ_=>SW b.2.2 λk9=>gd (KW k9 a.length) λ_=>ix a k9 λx10=>br (SS e.1 x10) (λ_=>zo (.dn ((0,((6,(b.2.2,b.2.2)),()))))) λ_=>br e.2.2.1.2.2 (λ_=>bd (WP (s.1,e.1)) λP=>br (Hl P) (λ_=>zo (.dn ((0,((6,(b.2.2,b.2.2)),()))))) λ_=>bd (V3 ((s.1,(e.1,e.2.2.1.2.2)))) λL=>bd (VI L.2) λS=>br (Tk e.2.2.2.2 0) (λ_=>zo (.dn ((0,((6,(b.2.2,b.2.2)),()))))) λ_=>br (Ti e.2.2.2.2 S.1) (λ_=>zo (.dn ((0,((6,(b.2.2,b.2.2)),()))))) λ_=>bd (Vc (L.2,e.2.2.2.2)) λU=>bd (Wd (U.1,e.2)) λW=>br (Hl W) (λ_=>zo (.dn ((0,((6,(b.2.2,b.2.2)),()))))) λ_=>zo (.nx ((b.1,(b.2.1,So .i64 b.2.2 1))))) λ_=>bd (V3 ((s.1,(e.1,e.2.2.1.2.2)))) λM=>bd (VI M.2) λX=>br (Tk e.2.2.2.2 0) (λ_=>zo (.dn ((0,((6,(b.2.2,b.2.2)),()))))) λ_=>br (Ti e.2.2.2.2 X.1) (λ_=>zo (.dn ((0,((6,(b.2.2,b.2.2)),()))))) λ_=>bd (Vc (M.2,e.2.2.2.2)) λY=>bd (Wd (Y.1,e.2)) λZ=>br (Hl Z) (λ_=>zo (.dn ((0,((6,(b.2.2,b.2.2)),()))))) λ_=>zo (.nx ((b.1,(b.2.1,So .i64 b.2.2 1))))) λ_=>zo (.dn ((1,(b,())))))
  (s:=(0,(0,0))) () rfl (by omega) hT.symm (λ_ h=>by
   refine⟨_,by simp only;rw[re];rfl,.inl ⟨by rw[<- h];rfl,rfl⟩⟩) (λi j js _ hd E hi h=>by
   simp only;rw[rl hi,TB,UY,Tq E,UE];unfold Xf at h
   have c:aD s.1 a i j=zt -> ∃ r:Nat×((Int×(Int×Int))×Unit),(zo (LR.dn ((0,((6,((i:Int),(i:Int))),()))):LR (Int×(Int×Int)) _))=zo (.dn r)/\((T=zn/\r.1=1)\/(∃ i:Nat,T=zo i/\r.1=0/\r.2.1.1=6/\r.2.1.2.1=(i:Int))):=λN=>by
    rw[zy N]at h;exact⟨_,rfl,.inr ⟨i,h.symm,rfl,rfl,rfl⟩⟩
   have x:aD s.1 a i j=zf -> ∃ st':Unit,(zo (LR.nx ((0:Int),((0:Int),So .i64 (i:Int) 1))):Option (LR _ (Nat×((Int×(Int×Int))×Unit))))=zo (.nx ((0:Int),((0:Int),((i+1:Nat):Int))))/\Xf s.1 a (i+1) js=T:=λhg=>by
    rw[zx (by simp[hg])]at h;exact⟨(),by rw[Ui E (by omega)],h⟩
   by_cases C:(i:Int)>=(a.length:Int)
   ·rw[zy C];exact .inr (c (by unfold aD;rw[a9 (by omega)]))
   rw[zx C,UY,Te,zy (by omega)];have w:a[i]?=zo (a[i]'(by omega)):=by simp
   rw[Tq w,UI];obtain⟨n,O,J,K,y⟩:=Ym (ls:=s.1.2) (i:=0) (k:=i) (d:=a[i]'(by omega)) (by rw[<- g];exact w);rw[en]at O
   have t:aD s.1 a i j=(if j.1≠(a[i]'(by omega))then zt else if j.2.2.1.2.2=zt/\j.1≠(s.1.2.length:Int)-1 then zt else if j.2.2.2.2<0\/j.2.2.2.2>((K.2.length+J.2.length:Nat):Int)then zt else decide (WG K.2 J.2 j.2.2.1.2.2 j.2.2.2.2.toNat≠j.2)):=by
    unfold aD;rw[w];simp only;rw[O,bl,y]
   by_cases p:j.1=(a[i]'(by omega));rotate_left
   ·rw[zx p];exact .inr (c (by rw[t,zy p]))
   rw[zy p];rw[zx (by simp[p])]at t;have F:j.1=(n:Int):=by rw[p,O]
   have hv:=(v.lev n _ y).2;have v0:=(hv J (by simp)).vl;have v1:=(hv K (by simp)).vl;have G:Ss .i64 (s.1.2.length:Int) 1=(s.1.2.length:Int)-1:=TG (by omega);unfold WP;simp only[Ug,Uc];rw[TW,G,Wb,Vm,Vx,F,ur y v0 v1,UL];rw[F]at t;by_cases o:j.2.2.1.2.2=zt/\(n:Int)≠(s.1.2.length:Int)-1
   ·rw[zy o.1,zy o.2];exact .inr (c (by rw[t,zy o]))
   rw[zx o]at t
   have D:∀ {γ:Type} (A B:γ),(if j.2.2.1.2.2=zt then if ¬(n:Int)=(s.1.2.length:Int)-1 then A else B else B)=B:=by
    intro γ A B;by_cases q:j.2.2.1.2.2=zt
    ·rw[zy q,zx (λu=>o ⟨q,u⟩)]
    ·rw[zx q]
   rw[D];by_cases q:j.2.2.2.2<0\/j.2.2.2.2>((K.2.length+J.2.length:Nat):Int)
   ·rw[zy q];exact .inr (c (by rw[t,zy q]))
   rw[zx q];rw[zx q]at t;by_cases u:WG K.2 J.2 j.2.2.1.2.2 j.2.2.2.2.toNat=j.2
   ·rw[zy u];exact .inl (x (by rw[t];simp[u]))
   ·rw[zx u]
    exact .inr (c (by rw[t];simp[u])))
 rw[z];refine Uw q1 ?_;rw[TX];rcases I with⟨I,q3⟩|⟨i,I,q3,q4,q5⟩
 ·rw[zx (show ¬ r.1=0 by omega),I,UH];simp only;by_cases h7:s.2.1.length<a.length
  ·rw[zy (by omega),zy h7]
  ·rw[zx (by omega),zx h7]
 ·rw[zy q3,I,q4,q5]
end
section
open Go Sv
theorem am(x:UZ):Ws x=zo (kE x):=by
 unfold Ws kE;rw[UF,Ug,Zk];by_cases e:x.1.length>32
 ·rw[zy (by omega),zy (.inl e)]
 rw[zx (by omega),UF,Ug,Zk];by_cases f:x.2.1.length>64
 ·rw[zy (by omega),zy (.inr f)]
 rw[zx (by omega:¬ (x.2.1.length:Int)>64),zx (by omega),UL];by_cases b:x.2.2.1=zt
 ·rw[zy b,U2,W1];by_cases c:x.2.1=[]
  ·rw[zy c,zx (by simp[c]),UH,UF];by_cases a:x.2.2.2<1
   ·simp[a]
   ·by_cases d:x.2.2.2>1000000000<;>simp[a,d]
  ·rw[zx c,zy ⟨b,c⟩]
 ·rw[zx b,zx (by simp[b]),UH,UF];by_cases a:x.2.2.2<1
  ·simp[a]
  ·by_cases d:x.2.2.2>1000000000<;>simp[a,d]
def WO:List UInt8->List UInt8->Nat
 |x::a,y::b=>if x=y then WO a b+1 else 0
 |_,_=>0
theorem qh(x y:UInt8):O3 (UT x) (UT y)=decide (x=y):=by
 rw[Wb];unfold UT;by_cases h:x=y
 ·simp[h]
 ·have:¬ ((x.toNat:Int)=(y.toNat:Int)):=λe=>h (UInt8.toNat_inj.1 (by omega));simp[h,this]
theorem jI(a b:List UInt8)(z:a.length<=9223372036854775806):Xt (a,b)=zo (WO a b:Int):=by
 unfold Xt;simp only[Ug,Zk]
 have key:∀ (m:List UInt8) (k n:Nat),a.drop k=m->k<=a.length->k<=b.length->m.length<n->IX n (λs0=>br (Tk s0 (a.length:Int)) (λ_=>br (Tk s0 (b.length:Int)) (λ_=>SW s0 λt=>ix a t λw=>SW s0 λu=>ix b u λy=>br (O3 (UT w) (UT y)) (λ_=>zo (LR.nx (So .i64 s0 1))) λ_=>zo (.dn ((0,(s0,()))))) λ_=>zo (.dn ((0,(s0,()))))) λ_=>zo (.dn ((0,(s0,()))))) (k:Int)=zo ((0:Nat),(((k+WO m (b.drop k):Nat):Int),())):=by
  intro m
  induction m with
  |nil=>
   intro k n f r h p;obtain⟨n,rfl⟩:∃ j,n=j+1:=⟨n-1,by omega⟩
   have i:k=a.length:=by
    have:=congrArg mR f;simp at this;omega
   subst i;refine U7 ?_;rw[re];simp[Sd,WO]
  |cons x m s=>
   intro k n f r h p;obtain⟨n,rfl⟩:∃ j,n=j+1:=⟨n-1,by omega⟩
   have o:a[k]?=zo x:=by
    have:=congrArg vt f;rw[sp]at this;simpa using this
   have c:k<a.length:=(a8.1 o).1
   have l:a.drop (k+1)=m:=by
    have:=congrArg tb f;rw[q0]at this;simpa using this
   by_cases d:k<b.length
   ·have q:b[k]?=zo b[k]:=by simp[d]
    rw[tw d];unfold WO;by_cases e:x=b[k]
    ·rw[zy e];refine(U1 (s':=((k+1:Nat):Int)) ?_).trans ?_
     ·rw[rl c,TB,rl d,TB,UY,Tq o,UY,Tq q,qh,Vx,zy e,Uh (by omega)]
     ·rw[s (k+1) n l (by omega) (by omega) (by simp at p;omega),show k+1+WO m (b.drop (k+1))=k+(WO m (b.drop (k+1))+1) by omega]
    ·rw[zx e];refine U7 ?_;rw[rl c,TB,rl d,TB,UY,Tq o,UY,Tq q,qh,Vx,zx e];simp
   ·have g:k=b.length:=by omega
    refine U7 ?_;rw[rl c,TB,g,re,Sd,List.drop_length];simp[WO]
 refine Uw (Vk (n:=a.length+1) (by omega) (key a 0 (a.length+1) (by simp) (by omega) (by omega) (by omega))) ?_;simp
def aR(a b:YA):Int:=if S4 a b=zt then -1 else if a=b then 0 else 1
theorem eF:∀ (a b:YA),(WO a b<=a.length/\WO a b<=b.length)/\(WO a b=a.length->WO a b=b.length->aR a b=0)/\(WO a b=a.length->WO a b≠b.length->aR a b = -1)/\(WO a b≠a.length->WO a b=b.length->aR a b=1)/\(∀ x y,a[WO a b]?=zo x->b[WO a b]?=zo y->aR a b=if x.toNat<y.toNat then -1 else 1)
 |[],[]=>by simp[WO,aR,ap]
 |[],y::b=>by simp[WO,aR,dv]
 |x::a,[]=>by simp[WO,aR,ap]
 |x::a,y::b=>by
  obtain⟨⟨o,g⟩,i,j,k,l⟩:=eF a b;by_cases e:x=y
  ·subst e
   have n:aR (x::a) (x::b)=aR a b:=by
    unfold aR;rw[ZS];simp
   have hc:WO (x::a) (x::b)=WO a b+1:=by simp[WO]
   rw[n,hc];refine⟨⟨by simp;omega,by simp;omega⟩,λu v=>i (by simp at u;omega) (by simp at v;omega),λu v=>j (by simp at u;omega) (by simp at v;omega),λu v=>k (by simp at u;omega) (by simp at v;omega),λp q d f=>l p q (by simpa using d) (by simpa using f)⟩
  ·have hc:WO (x::a) (y::b)=0:=by simp[WO,e]
   rw[hc];refine⟨⟨by omega,by omega⟩,λu=>by simp at u,λu=>by simp at u,λ_ u=>by simp at u,λp q d f=> ?_⟩;simp at d f;subst d f;unfold aR;rw[ZS];have m:¬ (x::a=y::b):=λh=>e (by injection h);by_cases c:x.toNat<y.toNat
   ·have:x<y:=vv.2 c;simp[this,c]
   ·have:¬ x<y:=λh=>c (vv.1 h);simp[this,c,e]
theorem kl(a b:YA)(p:a.length<=1000000000)(q:b.length<=1000000000):XS (a,b)=zo (aR a b):=by
 obtain⟨⟨o,i⟩,j,k,l,m⟩:=eF a b;unfold XS;simp only[Ug,Zk];rw[jI a b (by omega),TW,UD]
 have n:(if(WO a b:Int)<(b.length:Int)then(SW (WO a b:Int) λc=>ix a c λe=>SW (WO a b:Int) λd=>ix b d λf=>br (Tk (UT e) (UT f)) (λ_=>zo (-1:Int)) λ_=>zo 1)else zo 1)=(if WO a b=a.length then(if(WO a b:Int)<(b.length:Int)then(SW (WO a b:Int) λc=>ix a c λe=>SW (WO a b:Int) λd=>ix b d λf=>br (Tk (UT e) (UT f)) (λ_=>zo (-1:Int)) λ_=>zo 1)else zo 1)else zo (aR a b)):=by
  by_cases u:WO a b=a.length
  ·rw[zy u]
  ·rw[zx u];by_cases v:WO a b=b.length
   ·rw[zx (by omega),l u v]
   ·rw[zy (by omega),UY];have g:a[WO a b]?=zo (a[WO a b]'(by omega)):=by simp
    have h:b[WO a b]?=zo (b[WO a b]'(by omega)):=by simp
    rw[Tq g,UY,Tq h,UH,m _ _ g h];unfold UT;by_cases w:(a[WO a b]'(by omega)).toNat<(b[WO a b]'(by omega)).toNat
    ·rw[zy (by omega),zy w]
    ·rw[zx (by omega),zx w]
 by_cases u:WO a b=a.length
 ·rw[zy (by omega),UD];by_cases v:WO a b=b.length
  ·rw[zy (by omega),j u v]
  ·rw[zx (by omega),UD,zy (by omega),k u v]
 ·rw[zx (by omega),UD,zx (by omega),UH,n,zx u]
theorem iy(a b:YA):aR a b>=0<->S4 a b=zf:=by
 unfold aR;cases h:S4 a b with
 |true=>simp
 |false=>simp;split<;>omega
theorem YG(l:List UZ)(D:l.length<=9223372036854775807):WL l=zo (WI l):=by
 unfold WL WI;simp only[Ug,Uc];rw[UF];by_cases h:l.length>5000
 ·rw[zy (by omega),zy h]
 rw[zx (by omega),zx h];obtain⟨T,o⟩:∃ T,T=Zn zn 0 l:=⟨_,rfl⟩;rw[<- o]
 obtain⟨r,w,j⟩:=Xg (l:=l) (σ:=Unit) (s:=((0:Int),((0:Int),(0:Int)))) (λk _=>((0:Int),((0:Int),(k:Int)))) (λm k _=>Zn (if k=0 then zn else(l[k-1]?).map (·.1)) k m=T/\(∀ y,k≠0->l[k-1]?=zo y->kE y=0)) (λ(r:Nat×((Int×(Int×Int))×Unit))=>(r.1=1/\T=(0,0))\/(r.1=0/\T=(r.2.1.2.1,r.2.1.1)))
  (f:=λs0=>br (Tk s0.2.2 (l.length:Int)) (λ_=>SW s0.2.2 λq=>ix l q λA=>bd (Ws A) λd=>br (O3 d 0) (λ_=>br (Ti s0.2.2 0) (λ_=>SW (Ss .i64 s0.2.2 1) λt=>ix l t λB=>SW s0.2.2 λu=>ix l u λC=>bd (XS (B.1,C.1)) λz=>br (SR z 0) (λ_=>zo (.dn ((0,((6,(s0.2.2,s0.2.2)),()))))) λ_=>br (SS d 0) (λ_=>zo (.dn ((0,((d,(s0.2.2,s0.2.2)),()))))) λ_=>zo (.nx ((s0.1,(s0.2.1,So .i64 s0.2.2 1))))) λ_=>br (SS d 0) (λ_=>zo (.dn ((0,((d,(s0.2.2,s0.2.2)),()))))) λ_=>zo (.nx ((s0.1,(s0.2.1,So .i64 s0.2.2 1))))) λ_=>br (SS d 0) (λ_=>zo (.dn ((0,((d,(s0.2.2,s0.2.2)),()))))) λ_=>zo (.nx ((s0.1,(s0.2.1,So .i64 s0.2.2 1))))) λ_=>zo (.dn ((1,(s0,())))))
  () rfl (by omega) ⟨o.symm,λ_ h=>absurd rfl h⟩ (λ_ h=>by
   refine⟨_,by simp only;rw[re];rfl,.inl ⟨rfl,?_⟩⟩;rw[<- h.1];simp[Zn]) (λk x m _ hd g p h=>by
   simp only;obtain⟨h,c⟩:=h;rw[rl p,TB,UY,Tq g,am,TW,UD];unfold Zn at h
   have next:kE x=0->(T=Zn (zo x.1) (k+1) m)->Zn (if k+1=0 then zn else(l[k+1-1]?).map (·.1)) (k+1) m=T/\(∀ y,k+1≠0->l[k+1-1]?=zo y->kE y=0):=λa e=>by
    rw[zx (by omega),Nat.add_sub_cancel,g,e];exact⟨rfl,λy _ i=>by cases i;exact a⟩
   by_cases a:kE x=0
   ·rw[zy a,UF];rw[zx (by simp[a])]at h;by_cases b:k=0
    ·rw[zx (by omega),UI,zy a];rw[zy b]at h;exact .inl ⟨(),by rw[Ui g (by omega)],next a h.symm⟩
    ·have i:l[k-1]?=zo (l[k-1]'(by omega)):=by rw[co]
     rw[zy (by omega),show Ss .i64 (k:Int) 1=((k-1:Nat):Int) by rw[TG (by omega)];omega,UY,Tq i,UY,Tq g];rw[zx b,i]at h;simp only[xr]at h;rw[kl _ _ (by have:=cF (c _ b i);omega) (by have:=cF a;omega),TW,UE];by_cases hs:S4 (l[k-1]'(by omega)).1 x.1=zt
     ·rw[zx (λe=>by rw[iy,hs]at e;cases e),UI,zy a];rw[zy hs]at h;exact .inl ⟨(),by rw[Ui g (by omega)],next a h.symm⟩
     ·rw[zy ((iy _ _).2 (by simpa using hs))];rw[zx hs]at h;exact .inr ⟨_,rfl,.inr ⟨rfl,h.symm⟩⟩
   ·rw[zx a,UI,zx a];rw[zy a]at h
    exact .inr ⟨_,rfl,.inr ⟨rfl,h.symm⟩⟩)
 refine Uw w ?_;rw[TX];rcases j with⟨j,n⟩|⟨j,n⟩
 ·rw[zx (show ¬ r.1=0 by omega),n]
 ·rw[zy j,n]
theorem qj(p q:Uv)(d:Wy p)(e:Wy q):Xw ([p,q],(0,1))=zo (w0 p q):=by
 unfold Xw w0;refine(W8 0 rfl (x:=p) rfl).trans ((W8 1 rfl (x:=q) rfl).trans ?_);rw[beq_eq,Vm,Vx,U2,UL];by_cases a:p.2=q.2
 ·rw[zx (show ¬ ¬ p.2=q.2 by simp[a]),zx (show ¬ p.2≠q.2 by simp[a])];by_cases b:p.2=zt
  ·rw[zy b,d b,e (a ▸ b)];rfl
  ·rw[zx b,U2,W1];by_cases c:p.1=q.1
   ·rw[zy c,zx (by simp[c])];rfl
   ·rw[zx c,zy c]
 ·rw[zy a,zy a]
theorem bX(p q:Uv)(n:Nat)(k:Int)(h:2<=k)(a:k<=100):Nb Ur (n+1) ([p,q],k)=zo (k-2,0):=by
 show Ur (Nb Ur n) ([p,q],k)=_;unfold Ur;show br (SR k 2) (λ_=>zo (Ss .i64 k 2,0)) _=_;rw[UE,zy h,TG (by omega)]
theorem cN(p q:Uv)(a:Wy p)(b:Wy q):Xv ([p,q],1)=zo (if w0 p q=zt then(0,1)else(1,0)):=by
 show Ur (Nb Ur 99) ([p,q],1)=_;unfold Ur;show br (SR (1:Int) 2) (λ_=>zo (Ss .i64 (1:Int) 2,0)) (λ_=>bd (Nb Ur (98+1) ([p,q],2)) λc=>bd (Nb Ur (98+1) ([p,q],3)) _)=_;rw[UE,zx (by omega),bX p q 98 2 (by omega) (by omega),TW,bX p q 98 3 (by omega) (by omega),TW];show bd (Xw ([p,q],(0,1))) _=_;rw[qj p q a b,TW,UL];cases h:w0 p q<;>rfl
theorem qf(p q:Uv)(a:Wy p)(c:Wy q):Yf [p,q]=zo (Tt p q):=by
 unfold Yf;refine Eq.trans (b:=bd (loop _ (1,([p,q],([0,0],0)))) _) rfl ?_;refine Uw (x:=(0,((2,([p,q],([0,if w0 p q=zt then 1 else 0],0))),()))) (Vk (n:=2) (by omega) ((U1 (s':=(2,([p,q],([0,if w0 p q=zt then 1 else 0],0)))) ?_).trans (U7 rfl))) ?_
 ·show bd (Xv ([p,q],1)) _=_;rw[cN p q a c,TW];refine(Z3 1 rfl (x:=(0:Int)) rfl).trans ?_;cases h:w0 p q<;>rfl
 ·rw[cN p q a c,TW];unfold Tt;cases h:w0 p q<;>rfl
theorem jY{l:List Uv}(h:∀ k∈l,Wy k)(b:l≠[])(e:l.length<=32):YM l=zo 0:=by
 unfold YM;simp only[Ug,Uc];rw[UD,UF,zx (by have:=ee.2 b;omega),zx (by omega)]
 rw[Vq (l:=l) (σ:=Unit) (s:=((0:Int),(0:Int))) (λk _=>((k:Int),(0:Int))) (λ_ _ _=>True) (λ_ _ _=>(1,(((l.length:Int),0),()))) () rfl (by omega) trivial (λd _=>by
  simp only;rw[re];rfl) (λk x m d _ a c _=>⟨(),by
   simp only;rw[rl c,TB,UY,Tq a,UL,Ui a (by omega)];by_cases hd:x.2=zt
   ·rw[zy hd,UY,Tq a,U2,W1,zy (h x (bo a) hd)]
   ·rw[zx hd],trivial,rfl⟩),TW]
 rfl
theorem jH(p q:Uv)(a:Wy p)(b:Wy q):XT [p,q]=zo (Tt p q,0):=by
 unfold XT;rw[jY (by simp[a,b]) (by simp) (by simp),TW,UI,zy rfl,qf p q a b,TW]
end
section
open Go Sv
theorem YT:Vh=VB:=rfl
theorem cO:Ye=Um:=rfl
theorem gK(l m:List Uv)(i:l.length<=9223372036854775806)(j:l.length=m.length):∃ r,loop (λs1=>br (Tk s1.1 (l.length:Int)) (λ_=>SW s1.1 λn=>ix l n λf=>SW s1.1 λo=>ix m o λg=>br (Hl (OG (seq f.1 g.1) (OG (Sv.beq f.2 g.2) zt))) (λ_=>zo (LR.dn ((0:Nat),((s1.1,zf),())))) λ_=>zo (.nx (So .i64 s1.1 1,s1.2))) λ_=>zo (.dn ((1,(s1,()))))) ((0:Int),zf)=zo r/\((l=m/\r.1=1)\/(l≠m/\r.1=0/\r.2.1.2=zf)):=by
 refine ZL l m j i (λk x y a d=> ?_) (by simp only;rw[re];rfl);have c:=(a8.1 a).1
 have b:∀ {β:Type} (u v:Unit->Option β),br (Hl (OG (seq x.1 y.1) (OG (Sv.beq x.2 y.2) zt))) u v=if x=y then v ()else u ():=by
  intro β u v;rw[aY,aU,beq_eq,ZU,Vm,Vx];by_cases e:x=y
  ·subst e;simp
  ·rw[zy (λh=>e (s7 h.1 h.2)),zx e]
 constructor
 ·intro e;simp only;rw[rl c,TB,UY,Tq a,UY,Tq d,b,zy e,Uh (by omega)]
 ·intro e;simp only;rw[rl c,TB,UY,Tq a,UY,Tq d,b,zx e]
theorem cR(s t:We)(g:s.1.length<=1000)(h:s.2.1.length<=1000):Xu (s,t)=zo (decide (s=t)):=by
 obtain⟨b,d,k⟩:=s;obtain⟨c,f,l⟩:=t;simp only at g h;unfold Xu;simp only[Ug,Uc];rw[UI];by_cases e1:(b.length:Int)=(c.length:Int);rotate_left
 ·rw[zx e1];have:¬ b=c:=λe=>e1 (by rw[e]);simp[this]
 rw[zy e1,UI];by_cases e2:k=l;rotate_left
 ·rw[zx e2];simp[e2]
 rw[zy e2,cO,Z7 _ _ (by omega),TW,Vm,Vx];by_cases e3:d=f;rotate_left
 ·rw[zy e3];simp[e3]
 rw[zx (show ¬ ¬ d=f by simp[e3])];obtain⟨r,i,a⟩:=gK b c (by omega) (by omega);refine Uw i ?_;rw[TX];rcases a with⟨e,a⟩|⟨e,a,j⟩
 ·rw[zx (show ¬ r.1=0 by omega)];simp[e,e2,e3]
 ·rw[zy a,j];simp[e]
theorem fF(s t:WE)(u:s.1.length<=1000)(g:∀ l∈s.1,l.length<=1000000)(w:s.2.1.length<=1000)(h:s.2.2.1.length<=1000)(i:s.2.2.2.1.length<=1000):Yh (s,t)=zo (decide (s=t)):=by
 obtain⟨a,n,o⟩:=s;obtain⟨d,p,q⟩:=t;simp only at u g w h i;unfold Yh;simp only[Ug,Uc];rw[UI];by_cases e1:(a.length:Int)=(d.length:Int);rotate_left
 ·rw[zx e1];have:¬ a=d:=λe=>e1 (by rw[e]);simp[this]
 rw[zy e1,cO,Z7 _ _ (by omega),TW,Vm,Vx];by_cases e2:n=p;rotate_left
 ·rw[zy e2];simp[e2]
 rw[zx (show ¬ ¬ n=p by simp[e2]),cR _ _ h i,TW,Vm,Vx];by_cases e3:o=q;rotate_left
 ·rw[zy e3];simp[e3]
 rw[zx (show ¬ ¬ o=q by simp[e3])]
 obtain⟨r,C,c⟩:=ZL a d (by omega) (by omega) (f:=λs2=>br (Tk s2.1 (a.length:Int)) (λ_=>SW s2.1 λA=>ix a A λF=>SW s2.1 λB=>ix d B λG=>bd (Vh (F,G)) λE=>br (Hl E) (λ_=>zo (.dn ((0,((s2.1,zf),()))))) λ_=>zo (.nx (So .i64 s2.1 1,s2.2))) λ_=>zo (.dn ((1,(s2,()))))) (λk x y b m=>by
   have j:=(a8.1 b).1;have z:=g x (bo b);constructor
   ·intro e;simp only;rw[rl j,TB,UY,Tq b,UY,Tq m,YT,XC _ _ (by omega),TW,Vm,Vx,zx (by simp[e]),Uh (by omega)]
   ·intro e;simp only
    rw[rl j,TB,UY,Tq b,UY,Tq m,YT,XC _ _ (by omega),TW,Vm,Vx,zy e]) (by simp only;rw[re];rfl)
 refine Uw C ?_;rw[TX];rcases c with⟨e,c⟩|⟨e,c,D⟩
 ·rw[zx (show ¬ r.1=0 by omega)];simp[e,e2,e3]
 ·rw[zy c,D];simp[e]
theorem cQ(x y:YZ)(a:x.1.1.length<=1000)(b:∀ l∈x.1.1,l.length<=1000000)(c:x.1.2.1.length<=1000)(d:x.1.2.2.1.length<=1000)(e:x.1.2.2.2.1.length<=1000)(f:x.2.2.1.length<=1000000):VD (x,y)=zo (decide (x=y)):=by
 obtain⟨i,⟨xs,k,h⟩,g,j⟩:=x;obtain⟨n,⟨q,r,m⟩,p,o⟩:=y;simp only at a b c d e f;unfold VD;simp only[fF _ _ a b c d e,YT,XC _ _ (show g.length<=9223372036854775806 by omega),TW,Vx,Wb,aU,beq_eq,aY,ZU]
 repeat' split
 all_goals simp_all
section
variable{a b:List UZ}(va:VL a)(vb:VL b)
include va vb
theorem aS:Wv [a,b]=zo (0,0):=by
 have c:=va.len;have d:=vb.len;unfold Wv;refine Eq.trans (b:=bd (loop _ (0,(0,0))) _) rfl ?_;refine Uw (x:=(1,((0,(0,2)),()))) (Vr (s1:=(0,(0,1))) (s2:=(0,(0,2))) ?_ ?_ rfl) rfl
 ·refine(bZ 0 rfl rfl (x:=a) rfl).trans ?_;rw[YG _ (by omega),Zo va,TW];rfl
 ·refine(bZ 1 rfl rfl (x:=b) rfl).trans ?_;rw[YG _ (by omega),Zo vb,TW];rfl
theorem Zg{i j:Nat}(hi:i<=a.length)(g:j<=b.length):Wu ([a,b],[(i:Int),(j:Int)])=zo (if i=a.length/\j=b.length then -1 else if Yn a b i j=zt then 0 else 1):=by
 have k:=va.len;have l:=vb.len;unfold Wu;simp only[Ug,Uc];refine Uw (x:=(0,((if i=a.length/\j=b.length then -1 else if Yn a b i j=zt then 0 else 1,2),()))) (Vr (s1:=(if i=a.length then -1 else 0,1)) (s2:=(if i=a.length/\j=b.length then -1 else if Yn a b i j=zt then 0 else 1,2)) ?_ ?_ rfl) rfl
 ·refine(bZ 0 rfl rfl (x:=(i:Int)) rfl).trans ((W8 0 rfl (x:=a) rfl).trans ?_);rw[UH];by_cases h:i=a.length
  ·rw[zx (by omega),zy h];rfl
  ·rw[zy (by omega),zx h];rfl
 ·refine(bZ 1 rfl rfl (x:=(j:Int)) rfl).trans ((W8 1 rfl (x:=b) rfl).trans ?_);rw[UH];by_cases h:j=b.length
  ·rw[zx (by omega)];by_cases c:i=a.length
   ·rw[zy c,zy ⟨c,h⟩];rfl
   ·rw[zx c,zx (λe=>c e.1)];have d:a[i]?=zo (a[i]'(by omega)):=by simp
    rw[im d (a9 (by omega))];rfl
  ·have f:b[j]?=zo (b[j]'(by omega)):=by simp
   rw[zy (by omega),UH,zx (λe:i=a.length/\j=b.length=>h e.2)];by_cases c:i=a.length
   ·rw[zy c,zy (by omega),io (a9 (by omega)) f];rfl
   ·rw[zx c,zx (by omega)];have d:a[i]?=zo (a[i]'(by omega)):=by simp
    refine(W8 1 rfl (x:=b) rfl).trans ((W8 1 rfl (x:=(j:Int)) rfl).trans ((W8 j rfl f).trans ((W8 0 rfl (x:=a) rfl).trans ((W8 0 rfl (x:=(i:Int)) rfl).trans ((W8 i rfl d).trans ?_)))));rw[YB,cC d f];cases hs:S4 (b[j]'(by omega)).1 (a[i]'(by omega)).1<;>rfl
theorem Zh{i j:Nat}(hi:i<=a.length)(e:j<=b.length):WR ([a,b],[(i:Int),(j:Int)])=zo (aW a b i j):=by
 have f:=va.len;have g:=vb.len;unfold WR;simp only[Ug,Uc];rw[VG (show[a,b].length<=1048576 from(show 2<=1048576 by omega)),VG (show[(i:Int),(j:Int)].length<=1048576 from(show 2<=1048576 by omega))];refine Uw (x:=(0,((2,[kx a i,kx b j]),()))) (Vr (s1:=(1,[kx a i])) (s2:=(2,[kx a i,kx b j])) ?_ ?_ rfl) ?_
 ·refine(bZ 0 rfl rfl (x:=(i:Int)) rfl).trans ((W8 0 rfl (x:=a) rfl).trans ?_);rw[Wb,Vm,Vx];by_cases h:i=a.length
  ·have c:((i:Int)=(a.length:Int)):=by omega
   rw[zx (show ¬ ¬ ((i:Int)=(a.length:Int)) by simp[c]),ai (a9 (by omega))];simp only[c,decide_true];rfl
  ·have d:a[i]?=zo (a[i]'(by omega)):=by simp
   have c:¬ ((i:Int)=(a.length:Int)):=by omega
   rw[zy c];refine(W8 0 rfl (x:=a) rfl).trans ((W8 0 rfl (x:=(i:Int)) rfl).trans ((W8 i rfl d).trans ?_));rw[X7 d];simp only[c,decide_false];rfl
 ·refine(bZ 1 rfl rfl (x:=(j:Int)) rfl).trans ((W8 1 rfl (x:=b) rfl).trans ?_);rw[Wb,Vm,Vx];by_cases h:j=b.length
  ·have c:((j:Int)=(b.length:Int)):=by omega
   rw[zx (show ¬ ¬ ((j:Int)=(b.length:Int)) by simp[c]),ai (l:=b) (i:=j) (a9 (by omega))];simp only[c,decide_true];rfl
  ·have d:b[j]?=zo (b[j]'(by omega)):=by simp
   have c:¬ ((j:Int)=(b.length:Int)):=by omega
   rw[zy c];refine(W8 1 rfl (x:=b) rfl).trans ((W8 1 rfl (x:=(j:Int)) rfl).trans ((W8 j rfl d).trans ?_));rw[X7 (l:=b) (i:=j) d];simp only[c,decide_false];rfl
 ·show bd (XT [kx a i,kx b j]) _=_;rw[jH _ _ (VH _ _) (VH _ _)];rfl
theorem i6{i:Nat}{l:List UZ}(h:i≠0)(hi:i<=l.length):∃ x,l[i-1]?=zo x:=⟨l[i-1]'(by omega),by simp⟩
theorem bJ{i j:Nat}(I:Inv a b i j):Wt (aW a b i j)=zo (0,0):=by
 have s:=va.len;have t:=vb.len;have hi:=I.ia;have k:=I.jb;unfold Wt;rw[show(aW a b i j).1=[a,b]from rfl,aS va vb,TW,UI,zy rfl];rw[show(aW a b i j).2.1=[(i:Int),(j:Int)]from rfl,UI,zy (show Kx (AR [(i:Int),(j:Int)])=Kx (AR [a,b])from rfl)];refine Uw (x:=(1,((0,(0,2)),()))) (Vr (s1:=(0,(0,1))) (s2:=(0,(0,2))) ?_ ?_ rfl) ?_
 ·refine(bZ 0 rfl rfl (x:=(i:Int)) rfl).trans ?_;rw[UH,zx (by omega)];refine(W8 0 rfl (x:=(i:Int)) rfl).trans ((W8 0 rfl (x:=a) rfl).trans ?_);rw[UF,zx (by simp only[Ug,Uc];omega)];rfl
 ·refine(bZ 1 rfl rfl (x:=(j:Int)) rfl).trans ?_;rw[UH,zx (by omega)];refine(W8 1 rfl (x:=(j:Int)) rfl).trans ((W8 1 rfl (x:=b) rfl).trans ?_);rw[UF,zx (by simp only[Ug,Uc];omega)];rfl
 rw[show neq ((1:Nat),(((0:Int),((0:Int),(2:Int))),())).1 0=zf from rfl,Sd,Zh va vb hi k,TW,cR (aW a b i j).2.2 (aW a b i j).2.2 (show 2<=1000 by omega) (show 2<=1000 by omega),TW,Vm,Vx,zx (show ¬ ¬ (aW a b i j).2.2=(aW a b i j).2.2 by simp),Zg va vb hi k,TW];by_cases hd:i=a.length/\j=b.length
 ·rw[zy hd];refine Uw (x:=(1,((0,(0,0)),()))) (Vk (n:=1) (by omega) (U7 ?_)) rfl;rfl
 rw[zx hd];cases g:Yn a b i j with
 |true=>
  rw[zy rfl]
  have p:i<a.length:=by
   refine ol λh'=> ?_;have o:j<b.length:=by omega
   rw[io (a9 h') (show b[j]?=zo (b[j]'o) by simp)]at g;cases g
  have e:a[i]?=zo (a[i]'p):=by simp
  refine Uw (x:=(1,((0,(0,2)),()))) (Vr (s1:=(0,(0,1))) (s2:=(0,(0,2))) ?_ ?_ rfl) rfl
  ·show br (Tk (0:Int) 2) _ _=_;rw[UH,zy (by omega),UE,zy (by omega)];refine(W8 0 rfl (x:=(i:Int)) rfl).trans ?_;rw[UD];by_cases f:i=0
   ·rw[zy (by omega)];rfl
   ·rw[zx (by omega)];obtain⟨y,d⟩:=i6 va vb (l:=a) f hi;refine(W8 0 rfl (x:=a) rfl).trans ((W8 0 rfl (x:=(i:Int)) rfl).trans ?_);rw[show Ss .i64 (i:Int) 1=((i-1:Nat):Int) by rw[TG (by omega)];omega,UY,Tq d];refine(W8 0 rfl (x:=a) rfl).trans ((W8 0 rfl (x:=(i:Int)) rfl).trans ((W8 i rfl e).trans ?_));have c:=va.lt d (show a[i-1+1]?=zo _ by rw[show i-1+1=i by omega];exact e);rw[YB,zx (by rw[Vw c];simp),W1,zx (Z6 c)];rfl
  ·show br (Tk (1:Int) 2) _ _=_;rw[UH,zy (by omega),UE,zy (by omega)];refine(W8 1 rfl (x:=(j:Int)) rfl).trans ?_;rw[UD];by_cases f:j=0
   ·rw[zy (by omega)];rfl
   ·rw[zx (by omega)];obtain⟨y,d⟩:=i6 va vb (l:=b) f k;refine(W8 1 rfl (x:=b) rfl).trans ((W8 1 rfl (x:=(j:Int)) rfl).trans ?_);rw[show Ss .i64 (j:Int) 1=((j-1:Nat):Int) by rw[TG (by omega)];omega,UY,Tq d];refine(W8 0 rfl (x:=a) rfl).trans ((W8 0 rfl (x:=(i:Int)) rfl).trans ((W8 i rfl e).trans ?_));have c:=I.pb (j-1) (by omega) y _ d e;rw[YB,zx (by rw[Vw c];simp),W1,zx (Z6 c)];rfl
 |false=>
  rw[zx (by simp)]
  have h:j<b.length:=by
   refine ol λh'=> ?_;have m:i<a.length:=by omega
   rw[im (show a[i]?=zo (a[i]'m) by simp) (a9 h')]at g;cases g
  have e:b[j]?=zo (b[j]'h):=by simp
  refine Uw (x:=(1,((0,(0,2)),()))) (Vr (s1:=(0,(0,1))) (s2:=(0,(0,2))) ?_ ?_ rfl) rfl
  ·show br (Tk (0:Int) 2) _ _=_;rw[UH,zy (by omega),UE,zy (by omega)];refine(W8 0 rfl (x:=(i:Int)) rfl).trans ?_;rw[UD];by_cases f:i=0
   ·rw[zy (by omega)];rfl
   ·rw[zx (by omega)];obtain⟨y,d⟩:=i6 va vb (l:=a) f hi;refine(W8 0 rfl (x:=a) rfl).trans ((W8 0 rfl (x:=(i:Int)) rfl).trans ?_);rw[show Ss .i64 (i:Int) 1=((i-1:Nat):Int) by rw[TG (by omega)];omega,UY,Tq d];refine(W8 1 rfl (x:=b) rfl).trans ((W8 1 rfl (x:=(j:Int)) rfl).trans ((W8 j rfl e).trans ?_));have q:=I.pa (i-1) (by omega) y _ d e;rw[YB,zx (by rw[q];simp),W1];by_cases r:y.1=(b[j]'h).1
    ·rw[zy r];rfl
    ·rw[zx r];rfl
  ·show br (Tk (1:Int) 2) _ _=_;rw[UH,zy (by omega),UE,zy (by omega)];refine(W8 1 rfl (x:=(j:Int)) rfl).trans ?_;rw[UD];by_cases f:j=0
   ·rw[zy (by omega)];rfl
   ·rw[zx (by omega)];obtain⟨y,d⟩:=i6 va vb (l:=b) f k;refine(W8 1 rfl (x:=b) rfl).trans ((W8 1 rfl (x:=(j:Int)) rfl).trans ?_);rw[show Ss .i64 (j:Int) 1=((j-1:Nat):Int) by rw[TG (by omega)];omega,UY,Tq d];refine(W8 1 rfl (x:=b) rfl).trans ((W8 1 rfl (x:=(j:Int)) rfl).trans ((W8 j rfl e).trans ?_));have c:=vb.lt d (show b[j-1+1]?=zo _ by rw[show j-1+1=j by omega];exact e);rw[YB,zx (by rw[Vw c];simp),W1,zx (Z6 c)];rfl
end
end
section
open Go Sv
section
variable{a b:List UZ}(va:VL a)(vb:VL b)
include va vb
theorem lX{n:Nat}{x:UZ}(h:n<a.length+b.length)(d:bW a b n=zo x):XE (aJ a b n)=zo (x,((cX a b n:Int),(aJ a b (n+1),0))):=by
 obtain⟨i,hs⟩:=W9 va vb (n:=n) (by omega);obtain⟨j,k⟩:=W9 va vb (n:=n+1) (by omega);have l:=va.len;have m:=vb.len;have e:=i.ia;have f:=i.jb;unfold XE;rw[show aJ a b n=aW a b (pos a b n).1 (pos a b n).2 from rfl,bJ va vb i,TW,UI,zy rfl,show(aW a b (pos a b n).1 (pos a b n).2).1=[a,b]from rfl,show(aW a b (pos a b n).1 (pos a b n).2).2.1=[((pos a b n).1:Int),((pos a b n).2:Int)]from rfl,Zg va vb e f,TW,zx (λhh:(pos a b n).1=a.length/\(pos a b n).2=b.length=>by omega)];unfold bW at d;have c:pos a b (n+1)=if Yn a b (pos a b n).1 (pos a b n).2=zt then((pos a b n).1+1,(pos a b n).2)else((pos a b n).1,(pos a b n).2+1):=rfl
 unfold aJ cX;cases g:Yn a b (pos a b n).1 (pos a b n).2 with
 |true=>
  rw[g,zy rfl]at c;rw[g,zy rfl]at d;have hi:=(a8.1 d).1;rw[zy rfl,UH,zx (by omega),VG (show AR [((pos a b n).1:Int),((pos a b n).2:Int)]<=1048576 from(show 2<=1048576 by omega))];refine(Z3 0 rfl (x:=((pos a b n).1:Int)) rfl).trans ((Z3 0 rfl (x:=((pos a b n).1:Int)) rfl).trans ((W8 0 rfl (x:=a) rfl).trans ((W8 0 rfl (x:=((pos a b n).1:Int)) rfl).trans ((W8 _ rfl d).trans ?_))));rw[Uh (by omega),show lset [((pos a b n).1:Int),((pos a b n).2:Int)] 0 (((pos a b n).1+1:Nat):Int)=[(((pos a b n).1+1:Nat):Int),((pos a b n).2:Int)]from rfl,Zh va vb (by omega) f,TW,c];rfl
 |false=>
  rw[g,zx (by simp)]at c;rw[g,zx (by simp)]at d;have hi:=(a8.1 d).1;rw[zx (by simp),UH,zx (by omega),VG (show AR [((pos a b n).1:Int),((pos a b n).2:Int)]<=1048576 from(show 2<=1048576 by omega))];refine(Z3 1 rfl (x:=((pos a b n).2:Int)) rfl).trans ((Z3 1 rfl (x:=((pos a b n).2:Int)) rfl).trans ((W8 1 rfl (x:=b) rfl).trans ((W8 1 rfl (x:=((pos a b n).2:Int)) rfl).trans ((W8 _ rfl d).trans ?_))));rw[Uh (by omega),show lset [((pos a b n).1:Int),((pos a b n).2:Int)] 1 (((pos a b n).2+1:Nat):Int)=[((pos a b n).1:Int),(((pos a b n).2+1:Nat):Int)]from rfl,Zh va vb e (by omega),TW,c];rfl
theorem lW{n:Nat}(h:n<=a.length+b.length):Yg (aJ a b n)=zo (((a.length+b.length-n:Nat):Int),0):=by
 obtain⟨c,hs⟩:=W9 va vb (n:=n) h;have f:=va.len;have g:=vb.len;have d:=c.ia;have e:=c.jb;unfold Yg;rw[show aJ a b n=aW a b (pos a b n).1 (pos a b n).2 from rfl,bJ va vb c,TW,UI,zy rfl];refine Uw (x:=(0,((2,((a.length+b.length-n:Nat):Int)),()))) (Vr (s1:=(1,(a.length:Int)-((pos a b n).1:Int))) (s2:=(2,((a.length+b.length-n:Nat):Int))) ?_ ?_ rfl) rfl
 ·refine(bZ 0 rfl rfl (x:=a) rfl).trans ((W8 0 rfl (x:=((pos a b n).1:Int)) rfl).trans ?_);simp only[Ug,Uc];rw[show So .i64 (0:Int) (a.length:Int)=(a.length:Int) by rw[TE (by omega),s8],TG (by omega)];rfl
 ·refine(bZ 1 rfl rfl (x:=b) rfl).trans ((W8 1 rfl (x:=((pos a b n).2:Int)) rfl).trans ?_);simp only[Ug,Uc];show zo (LR.nx ((2:Int),Ss .i64 (So .i64 ((a.length:Int)-((pos a b n).1:Int)) (b.length:Int)) ((pos a b n).2:Int)))=_;rw[TE (by omega),TG (by omega),show(a.length:Int)-((pos a b n).1:Int)+(b.length:Int)-((pos a b n).2:Int)=((a.length+b.length-n:Nat):Int) by omega]
theorem i0:Xm [a,b]=zo (Uq a b (a.length+b.length),(Yo a b (a.length+b.length),0)):=by
 have l:=va.len;have m:=vb.len;unfold Xm;rw[aS va vb,TW,UI,zy rfl];refine Eq.trans (b:=bd (loop _ ([],([],([],(0,([],[0,0])))))) _) rfl ?_
 refine Uw (x:=(0,((Yo a b (a.length+b.length),(Uq a b (a.length+b.length),0)),())))
  (ZM (λk=>([],(Uq a b k,([],(0,(Yo a b k,[((pos a b k).1:Int),((pos a b k).2:Int)])))))) 0 (a.length+b.length) rfl (by omega) (by omega) (λk _ j=> ?_) ?_) rfl
 ·obtain⟨x,c,_⟩:=Wc va vb (n:=k) j;obtain⟨d,hs⟩:=W9 va vb (n:=k) (by omega);have e:(Uq a b k).length=k:=Vv va vb (by omega);have f:=bB a b k;simp only;rw[Zg va vb d.ia d.jb,TW,zx (λhh:(pos a b k).1=a.length/\(pos a b k).2=b.length=>by omega)];rw[Xh va vb c];unfold bW at c;rw[show Yo a b (k+1)=Yo a b k++[(cX a b k:Int)]from rfl];unfold cX;rw[show pos a b (k+1)=if Yn a b (pos a b k).1 (pos a b k).2=zt then((pos a b k).1+1,(pos a b k).2)else((pos a b k).1,(pos a b k).2+1)from rfl]
  have h:∀ {β:Type} (y:UZ) (q:Unit->Option β),gd (CI (BG (AR (Uq a b k)) (AR [y])) 1048576) q=q ():=λy q=>VG (by simp only[BG,AR,e,ci,cP];omega) q;have i:∀ {β:Type} (y:Int) (q:Unit->Option β),gd (CI (BG (AR (Yo a b k)) (AR [y])) 1048576) q=q ():=λy q=>VG (by simp only[BG,AR,f,ci,cP];omega) q;cases g:Yn a b (pos a b k).1 (pos a b k).2 with
  |true=>
   rw[g,zy rfl]at c;have hi:=(a8.1 c).1;simp only[if_true];rw[UH,zx (by omega)];refine(W8 0 rfl (x:=a) rfl).trans ((Z3 0 rfl (x:=((pos a b k).1:Int)) rfl).trans ((W8 _ rfl c).trans ?_));rw[h,i];refine(Z3 0 rfl (x:=((pos a b k).1:Int)) rfl).trans ((Z3 0 rfl (x:=((pos a b k).1:Int)) rfl).trans ?_);rw[Uh (by omega)];rfl
  |false=>
   rw[g,zx (by simp)]at c;have hi:=(a8.1 c).1;simp only[kd,if_false];rw[UH,zx (by omega)];refine(W8 1 rfl (x:=b) rfl).trans ((Z3 1 rfl (x:=((pos a b k).2:Int)) rfl).trans ((W8 _ rfl c).trans ?_));rw[h,i];refine(Z3 1 rfl (x:=((pos a b k).2:Int)) rfl).trans ((Z3 1 rfl (x:=((pos a b k).2:Int)) rfl).trans ?_);rw[Uh (by omega)];rfl
 ·obtain⟨d,hs⟩:=W9 va vb (n:=a.length+b.length) (ed _);simp only;rw[Zg va vb d.ia d.jb,TW,zy (show(pos a b (a.length+b.length)).1=a.length/\(pos a b (a.length+b.length)).2=b.length by have:=d.ia;have:=d.jb;omega),UH,zy (by omega)]
end
theorem fN{s:VO}(b:s.2.1.length<=32)(a:s.1=zf->s.2.1=[]):YN s=zo 0:=by
 unfold YN;rw[UF,zx (by simp only[Ug,Zk];omega),U2,UL];cases h:s.1 with
 |true=>rfl
 |false=>rw[zx (by simp),U2,W1,zy (a h)]
theorem gN{s:VO}{x:UZ}(e:s.2.1.length<=32)(f:s.1=zf->s.2.1=[])(g:kE x=0)(a:s.1=zt->S4 x.1 s.2.1=zf):Yi (s,x)=zo (keep s x,((zt,(x.1,s.2.2)),0)):=by
 unfold Yi keep;rw[fN e f,TW,UD,zy rfl,am,g,TW,UD,zy rfl];obtain⟨s1,s2,c⟩:=s;obtain⟨h,i,d,j⟩:=x;simp only at a ⊢;cases s1 with
 |true=>
  have:=a rfl;simp only[TB,YB,this,kd,if_false,UI,if_true,U2,W1];by_cases b:h=s2
  ·simp[b,Sd]
  ·simp only[b,if_false,decide_false];cases c<;>cases d<;>rfl
 |false=>
  simp only[Sd,UI,if_true,U2];cases c<;>cases d<;>rfl
theorem gH{l:List UZ}{b:Bool}(t:l.length<=20000)(r:au (zf,([],b)) l):Xx (l,b)=zo (W0 (zf,([],b)) l,(0,0)):=by
 unfold Xx WS;simp only[Ug,Uc];rw[UF,zx (by omega),TW]
 rw[Vq (l:=l) (σ:=VO×List UZ) (s:=(0,(0,([],([],(0,(zf,([],b)))))))) (λk a=>((0:Int),((k:Int),(([]:List UZ),(a.2,((0:Int),a.1))))))
  (λm k a=>au a.1 m/\a.1.2.1.length<=32/\(a.1.1=zf->a.1.2.1=[])/\a.2.length<=k/\k+m.length=l.length)
  (λm k a=>(1,((0,((l.length:Int),([],(a.2++W0 a.1 m,(0,Vl a.1 m))))),()))) ((zf,([],b)),[]) rfl (by omega) ⟨r,by simp,λ_=>rfl,by simp,by simp⟩ ?_ ?_,TW]
 ·simp;rfl
 ·intro a _;simp only;rw[re,Sd];simp[Vl,W0]
 ·rintro k x m ⟨s,out⟩ u d p ⟨⟨c,e,f⟩,g,i,j,n⟩;simp only at c e f g i j ⊢;refine⟨((zt,(x.1,s.2.2)),out++if keep s x=zt then[x]else[]),?_,⟨f,cF c,(λh=>by cases h),?_,by simp at n;omega⟩,?_⟩
  ·rw[rl p,TB,UY,Tq d,gN g i c e,TW,UI,zy rfl,UL,UY,Tq d];have o:∀ {β:Type} (k:Unit->Option β),gd (CI (BG out.length [x].length) 1048576) k=k ():=λk=>il j (by simp at n;omega) x k;rw[o,Ui d (show l.length<=9223372036854775807 by omega)];cases q:keep s x<;>simp[Iy]
  ·split<;>simp<;>omega
  ·simp only[Vl,W0,dc]
section
variable{a b:List UZ}(va:VL a)(vb:VL b)
include va vb
theorem cq(c:Bool){n:Nat}(h:n<=a.length+b.length):WY (Uq a b n,c)=zo (W0 (s0 c) (Uq a b n),Vl (s0 c) (Uq a b n)):=by
 have f:=va.len;have g:=vb.len;have d:(Uq a b n).length=n:=Vv va vb h;unfold WY;simp only[Ug,Uc];rw[gH (by omega) (YH va vb c h),TW];unfold WS;rw[TW,UF,d];cases n with
 |zero=>rw[zx (by omega)];rfl
 |succ m=>
  obtain⟨x,e,_⟩:=Wc va vb (n:=m) (by omega);rw[zy (by omega),show Ss .i64 ((m+1:Nat):Int) 1=(m:Int) by rw[TG (by omega)];omega,UY,Tq (x:=x) (by rw[ZO va vb h (by omega)];exact e),Zy va vb c e]
theorem fM(c:Bool){n:Nat}(h:n<=a.length+b.length):XF (WG a b c n)=zo (n:Int):=by
 obtain⟨d,hs⟩:=W9 va vb (n:=n) h;have e:=va.len;have f:=vb.len;unfold XF;refine Uw (x:=(0,(((n:Int),2),()))) (Vr (s1:=(((pos a b n).1:Int),1)) (s2:=((n:Int),2)) ?_ ?_ rfl) rfl
 ·refine(bZ 0 rfl rfl (x:=((pos a b n).1:Int)) rfl).trans ?_;show zo (LR.nx (So .i64 0 ((pos a b n).1:Int),(1:Int)))=_;rw[TE (by omega),s8]
 ·refine(bZ 1 rfl rfl (x:=((pos a b n).2:Int)) rfl).trans ?_;show zo (LR.nx (So .i64 ((pos a b n).1:Int) ((pos a b n).2:Int),(2:Int)))=_;rw[TE (by omega),show((pos a b n).1:Int)+((pos a b n).2:Int)=(n:Int) by omega]
theorem fQ(c:Bool){n:Nat}(h:n<=a.length+b.length):YP (WG a b c n)=zo 0:=by
 obtain⟨d,hs⟩:=W9 va vb (n:=n) h;have g:=va.len;have i:=vb.len;have e:=ZG (s0 c) (Uq a b n);have f:(Uq a b n).length=n:=Vv va vb h;unfold YP;rw[show(WG a b c n).1=aW a b (pos a b n).1 (pos a b n).2 from rfl,bJ va vb d,TW,UI,zy rfl,fM va vb c h,TW];simp only[Ug,Uc];rw[show(WG a b c n).2.2.1=W0 (s0 c) (Uq a b n)from rfl,show(WG a b c n).2.2.2=(n:Int)from rfl,show(WG a b c n).2.1=Vl (s0 c) (Uq a b n)from rfl,UF,zx (by omega),UF,zx (by omega),UI,zy rfl];rw[show(aW a b (pos a b n).1 (pos a b n).2).1=[a,b]from rfl,i0 va vb,TW,UY];rw[VG (by rw[Vv va vb (ed _)];exact h),VG (iP _)];rw[show D6 (Uq a b (a.length+b.length)) 0 n=Uq a b n from by unfold D6;rw[tk,li];exact YY va vb h,X8];rw[show(s0 c).2.2=c from rfl,cq va vb c h,TW,YT,XC _ _ (by omega),TW,Vm,Vx,zx (by simp),X8,Yz,Yz,Zi];rfl
theorem aT(c:Bool){n:Nat}(h:n<=a.length+b.length):U6 (WG a b c n)=zo (((a.length+b.length-n:Nat):Int),0):=by
 unfold U6;rw[fQ va vb c h,TW,UI,zy rfl,show(WG a b c n).1=aJ a b n from rfl,lW va vb h];rfl
theorem cW(c:Bool){n:Nat}(h:n<=a.length+b.length){k:Nat}:Uz (WG a b c n,(k:Int))=zo (WG a b c (n+min k (a.length+b.length-n)),(((min k (a.length+b.length-n):Nat):Int),0)):=by
 have i:=va.len;have l:=vb.len;obtain⟨u,e⟩:∃ u,u=min k (a.length+b.length-n):=⟨_,rfl⟩
 have d:UO (k:Int) ((a.length+b.length-n:Nat):Int)=(u:Int):=by
  unfold UO;split<;>omega
 rw[<- e];unfold Uz;rw[aT va vb c h,TW,UD,zy rfl];simp only[d,Ug,Uc];rw[UH,zx (by omega),UI,zy rfl,fM va vb c h,TW,TE (by omega),UF,zx (by omega)]
 refine Uw (x:=(0,(((u:Int),((aJ a b (n+u)).1,((aJ a b (n+u)).2.1,((aJ a b (n+u)).2.2.1,((aJ a b (n+u)).2.2.2.1,((aJ a b (n+u)).2.2.2.2,((WG a b c n).2.1.1,((WG a b c n).2.1.2.1,((WG a b c n).2.1.2.2,(WG a b c n).2.2))))))))),())))
  (ZM (λj=>((j:Int),((aJ a b (n+j)).1,((aJ a b (n+j)).2.1,((aJ a b (n+j)).2.2.1,((aJ a b (n+j)).2.2.2.1,((aJ a b (n+j)).2.2.2.2,((WG a b c n).2.1.1,((WG a b c n).2.1.2.1,((WG a b c n).2.1.2.2,(WG a b c n).2.2)))))))))) 0 u rfl (by omega) (by omega) (λj _ g=> ?_) ?_) ?_
 ·obtain⟨y,f,_⟩:=Wc va vb (n:=n+j) (by omega);show br (Tk (j:Int) (u:Int)) _ _=_;rw[UH,zy (by omega)];show bd (XE (aJ a b (n+j))) _=_;rw[lX va vb (by omega) f,TW,Uh (by omega)];rfl
 ·show br (Tk (u:Int) (u:Int)) _ _=_;rw[UH,zx (by omega)]
 ·rw[show(WG a b c n).1.1=[a,b]from rfl,i0 va vb,TW,show(WG a b c n).2.2.2=(n:Int)from rfl,show So .i64 (n:Int) (u:Int)=((n+u:Nat):Int) by rw[TE (by omega)];omega,UY];rw[VG (by rw[Vv va vb (ed _)];omega),VG (iP _)];rw[show D6 (Uq a b (a.length+b.length)) 0 (n+u)=Uq a b (n+u)from by unfold D6;rw[tk,li];exact YY va vb (by omega),show(WG a b c n).2.1.2.2=c from X8 _ _,cq va vb c (by omega),TW];rfl
end
end
section
open Go Sv
theorem dI(B:Int)(i:Nat):VJ B (i+1)=2*VJ B i:=by
 unfold VJ;rw[Int.pow_succ,<- Int.mul_assoc,Int.mul_comm]
theorem fO{B:Int}{i:Nat}(a:1<=B)(b:B<=16)(hi:i<=12):Wj (B,(i:Int))=zo (VJ B i):=by
 unfold Wj;refine Uw (x:=(0,((VJ B i,(i:Int)),()))) (YV (λk=>(VJ B k,(k:Int))) i (by simp[VJ]) (by omega) (λk d=> ?_) ?_) rfl
 ·have c:=fW a b (show k<=12 by omega);simp only;rw[UH,zy (by omega),TF (by omega),Uh (by omega),dI]
 ·simp only;rw[UH,zx (by omega)]
theorem rS(r:Uy)(b:r.2.length<=9223372036854775807):YL r=zo (if r.1<1\/r.1>1000000 then(-1,7)else WI r.2):=by
 unfold YL;rw[UH,UF,YG _ b,TW];by_cases h:r.1<1
 ·rw[zy h,zy (.inl h)]
 ·rw[zx h];by_cases a:r.1>1000000
  ·rw[zy a,zy (.inr a)]
  ·rw[zx a,zx (by omega)]
theorem lg(r:Uy)(most:Int)(a:List Int)(y:r.2.length<=9223372036854775807)(hi:a.length<=1048576):XH (r,(most,a))=zo (kR a most r):=by
 unfold XH kR;rw[rS r (by omega),TW];simp only[Ug,Uc];by_cases h:r.1<1\/r.1>1000000
 ·rw[zy h,zy h];rfl
 rw[zx h,zx h,UI];by_cases b:(WI r.2).2=0;rotate_left
 ·rw[zx b,zy b]
 rw[zy b,zx (show ¬ (WI r.2).2≠0 by simp[b]),UD,UF];by_cases i:r.2.length=0
 ·rw[zy (by omega),zy i]
 rw[zx (by omega),zx i];by_cases c:(r.2.length:Int)>most
 ·rw[zy c,zy c]
 rw[zx c,zx c]
 obtain⟨q,p,d⟩:=Xg (l:=a) (σ:=Unit) (s:=((0:Int),(0:Int))) (λk _=>((k:Int),(0:Int))) (λm k _=>r.1∈a<->r.1∈m) (λ(q:Nat×((Int×Int)×Unit))=>(q.1=1/\r.1 ∉ a)\/(q.1=0/\r.1∈a/\q.2.1.2=8))
  (f:=λs1=>br (Tk s1.1 (a.length:Int)) (λ_=>SW s1.1 λo=>ix a o λw=>br (O3 w r.1) (λ_=>zo (.dn ((0,((s1.1,8),()))))) λ_=>zo (.nx (So .i64 s1.1 1,s1.2))) λ_=>zo (.dn ((1,(s1,())))))
  () rfl (by omega) Iff.rfl (λ_ h=>⟨_,by simp only;rw[re];rfl,.inl ⟨rfl,by simpa using h⟩⟩) (λk x m _ hd j n h=>by
   simp only;rw[rl n,TB,UY,Tq j,UD];by_cases e:x=r.1
   ·rw[zy e];exact .inr ⟨_,rfl,.inr ⟨rfl,by rw[h,e];simp,rfl⟩⟩
   ·rw[zx e];exact .inl ⟨(),by rw[Ui j (by omega)],by rw[h,ey];exact⟨λu=>u.elim (λe2=>absurd e2.symm e) id,.inr⟩⟩)
 refine Uw p ?_;rw[TX];rcases d with⟨d,g⟩|⟨d,g,t⟩
 ·rw[zx (show ¬ q.1=0 by omega),zx g]
 ·rw[zy d,zy g,t]
theorem i7(L:Ub)(hb:L.2.length<=9223372036854775807)(hr:∀ rs∈L.2,rs.length<=9223372036854775807 /\ ∀ r∈rs,r.2.length<=9223372036854775807):V7 L=zo (WF L):=by
 unfold V7 WF;simp only[Ug,Uc];rw[UH,UF,UF];by_cases n:L.1<1
 ·rw[zy n,zy (.inl n)]
 rw[zx n];by_cases o:L.1>16
 ·rw[zy o,zy (.inr o)]
 rw[zx o,zx (show ¬ (L.1<1\/L.1>16) by omega)];by_cases S:(L.2.length:Int)>12
 ·rw[zy S,zy (by omega)]
 rw[zx S,zx (by omega)];have hl2:L.2.length<=12:=by omega
 obtain⟨T,N⟩:∃ T,T=aE L.1 0 [] L.2:=⟨_,rfl⟩;rw[<- N]
 have p:T=zn->(br (Ti (L.2.length:Int) 0) (λ_=>SW (Ss .i64 (L.2.length:Int) 1) λD=>ix L.2 D λJ=>br (O3 (J.length:Int) 0) (λ_=>zo ((Ss .i64 (L.2.length:Int) 1,((0:Int),(6:Int))))) λ_=>zo ((0,(0,0)))) λ_=>zo ((0,(0,0))))=zo (if L.2.getLast?=zo []then(((L.2.length-1:Nat):Int),(0,6))else(0,(0,0))):=by
  intro _;rw[UF];by_cases X:L.2=[]
  ·rw[X];rfl
  ·have hp:=ee.2 X;rw[zy (by omega),show Ss .i64 (L.2.length:Int) 1=((L.2.length-1:Nat):Int) by rw[TG (by omega)];omega,UY,pg];have d:L.2[L.2.length-1]?=zo (L.2[L.2.length-1]'(by omega)):=by simp
   rw[Tq d,d,UD];by_cases C:L.2[L.2.length-1]'(by omega)=[]
   ·rw[C];simp
   ·rw[zx (by have:=ee.2 C;omega),zx (by simp[C])]
 obtain⟨r,G,j⟩:=Xg (l:=L.2) (σ:=List Int) (s:=((0:Int),(([]:List Int),((0:Int),((0:Int),(0:Int)))))) (λi a=>((0:Int),(a,((0:Int),((0:Int),(i:Int))))))
  (λm i a=>aE L.1 i a m=T/\a.length<=2*i) (λ(r:Nat×((Int×(List Int×(Int×(Int×Int))))×Unit))=>(r.1=1/\T=zn)\/(r.1=0/\Q1 T r.2.1.1 r.2.1.2.2.1 r.2.1.2.2.2.1/\T≠zn))
  (f:=λ(s0:(Int×((List Int)×(Int×(Int×Int)))))=>br (Tk s0.2.2.2.2 (L.2.length:Int)) (λ_=>SW s0.2.2.2.2 λk1=>ix L.2 k1 λB=>br (Ti (B.length:Int) 2) (λ_=>zo (.dn ((0,((0,(s0.2.1,(s0.2.2.2.2,(3,s0.2.2.2.2)))),()))))) λ_=>bd (loop (λ(b:(Int×((List Int)×(Int×(Int×Int)))))=>br (Tk b.2.2.2.2 (B.length:Int)) (λ_=>SW b.2.2.2.2 λE=>ix B E λK=>bd (Wj (L.1,s0.2.2.2.2)) λI=>bd (XH ((K,(I,b.2.1)))) λy=>br (SS y 0) (λ_=>zo (.dn ((0,((b.2.2.2.2,(b.2.1,(s0.2.2.2.2,(y,b.2.2.2.2)))),()))))) λ_=>SW b.2.2.2.2 λF=>ix B F λz=>gd (CI (BG b.2.1.length [z.1].length) 1048576) λ_=>zo (.nx ((b.1,(Iy b.2.1 [z.1],(b.2.2.1,(b.2.2.2.1,So .i64 b.2.2.2.2 1))))))) λ_=>zo (.dn ((1,(b,()))))) ((s0.1,(s0.2.1,(s0.2.2.1,(s0.2.2.2.1,0)))))) λc=>br (neq c.1 0) (λ_=>zo (.dn ((0,((c.2.1.1,(c.2.1.2.1,(c.2.1.2.2.1,(c.2.1.2.2.2.1,s0.2.2.2.2)))),()))))) λ_=>zo (.nx ((c.2.1.1,(c.2.1.2.1,(c.2.1.2.2.1,(c.2.1.2.2.2.1,So .i64 s0.2.2.2.2 1))))))) λ_=>zo (.dn ((1,(s0,())))))
  [] rfl (by omega) ⟨N.symm,by simp⟩ (λa h=>by
   refine⟨_,by simp only;rw[re];rfl,.inl ⟨rfl,?_⟩⟩;rw[<- h.1];rfl) (λi rs m a hd d hi h=>by
   obtain⟨h,P⟩:=h;simp only;obtain⟨Y,u⟩:=hr rs (bo d);rw[rl hi,TB,UY,Tq d,UF];unfold aE at h;by_cases M:rs.length>2
   ·rw[zy (by omega)];rw[zy M]at h;refine .inr ⟨_,rfl,.inr ⟨rfl,?_,by rw[<- h];simp⟩⟩;rw[<- h];exact⟨rfl,rfl,rfl⟩
   rw[zx (by omega)];rw[zx M]at h;obtain⟨U,O⟩:∃ U,U=aF (VJ L.1 i) 0 a rs:=⟨_,rfl⟩;rw[<- O]at h
   obtain⟨r,G,j⟩:=Xg (l:=rs) (σ:=Unit) (s:=((0:Int),(a,((0:Int),((0:Int),(0:Int)))))) (λk _=>((0:Int),(a++(rs.take k).map (·.1),((0:Int),((0:Int),(k:Int))))))
    (λm k _=>aF (VJ L.1 i) k (a++(rs.take k).map (·.1)) m=U) (λ(r:Nat×((Int×(List Int×(Int×(Int×Int))))×Unit))=>(r.1=1/\U=zn/\r.2.1=(0,(a++rs.map (·.1),(0,(0,(rs.length:Int))))))\/(r.1=0 /\ ∃ k e,U=zo (k,e)/\r.2.1.1=(k:Int)/\r.2.1.2.2.1=(i:Int)/\r.2.1.2.2.2.1=e))
    (f:=λ(b:(Int×((List Int)×(Int×(Int×Int)))))=>br (Tk b.2.2.2.2 (rs.length:Int)) (λ_=>SW b.2.2.2.2 λE=>ix rs E λK=>bd (Wj (L.1,(i:Int))) λI=>bd (XH ((K,(I,b.2.1)))) λy=>br (SS y 0) (λ_=>zo (.dn ((0,((b.2.2.2.2,(b.2.1,((i:Int),(y,b.2.2.2.2)))),()))))) λ_=>SW b.2.2.2.2 λF=>ix rs F λz=>gd (CI (BG b.2.1.length [z.1].length) 1048576) λ_=>zo (.nx ((b.1,(Iy b.2.1 [z.1],(b.2.2.1,(b.2.2.2.1,So .i64 b.2.2.2.2 1))))))) λ_=>zo (.dn ((1,(b,())))))
    () (by simp) (by omega) (by simp[O]) (λ_ h=>by
     refine⟨_,by simp only;rw[re];rfl,.inl ⟨rfl,by rw[<- h];rfl,by simp⟩⟩) (λk r m _ hd d Z h=>by
     simp only;have hr2:=u r (bo d);have w:(rs.take (k+1)).map (·.1)=(rs.take k).map (·.1)++[r.1]:=by rw[gw,d];simp
     have W:(a++(rs.take k).map (·.1)).length<=100:=by simp;omega
     rw[rl Z,TB,UY,Tq d,fO (by omega) (by omega) (by omega),TW,lg _ _ _ (by omega) (by omega),TW,UI];unfold aF at h;by_cases A:kR (a++(rs.take k).map (·.1)) (VJ L.1 i) r=0
     ·rw[zx (λhh:kR (a++(rs.take k).map (·.1)) (VJ L.1 i) r≠0=>hh A)]at h;rw[zy A,UY,Tq d,VG (by simp only[BG,ci,cP];omega)];refine .inl ⟨(),?_,?_⟩
      ·rw[Ui d (by omega),w,<- dc];rfl
      ·rw[w,<- dc];exact h
     ·rw[zy A]at h;rw[zx A]
      exact .inr ⟨_,rfl,.inr ⟨rfl,_,_,h.symm,rfl,rfl,rfl⟩⟩)
   rw[G,TW,TX];rcases j with⟨j,g,x⟩|⟨j,k,e,g,x,q5,q6⟩
   ·rw[zx (show ¬ r.1=0 by omega),x,Ui d (by omega)];rw[g]at h;exact .inl ⟨a++rs.map (·.1),rfl,h,by simp;omega⟩
   ·rw[zy j];rw[g]at h;refine .inr ⟨_,rfl,.inr ⟨rfl,?_,by rw[<- h];simp⟩⟩;rw[<- h]
    exact⟨x,q5,q6⟩)
 refine Uw G ?_;rw[TX];rcases j with⟨j,g⟩|⟨j,g,x⟩
 ·rw[zx (show ¬ r.1=0 by omega),g];exact p g
 ·rw[zy j];cases q:T with
  |none=>exact absurd q x
  |some t=>
   obtain⟨i,k,e⟩:=t;rw[q]at g;rw[g.1,g.2.1,g.2.2]
theorem gL(L:Ub)(b:L.2.length<=1048576)(a:∀ rs∈L.2,rs.length<=1048576 /\ ∀ r∈rs,r.2.length<=9223372036854775807):V7 L=zo (WF L):=i7 L (by omega) λrs h=>⟨by have:=(a rs h).1;omega,(a rs h).2⟩
def VS(ls:List (List Uy)):List Uy:=ls.flatMap List.reverse
theorem VLev.small{L:Ub}(v:VLev L):L.2.length<=1048576 /\ ∀ rs∈L.2,rs.length<=1048576 /\ ∀ r∈rs,r.2.length<=9223372036854775807:=by
 refine⟨by have:=v.len;omega,λrs a=> ?_⟩;obtain⟨i,hi⟩:=eg a;obtain⟨d,b⟩:=v.lev i rs hi;exact⟨by omega,λr c=>by have:=(b r c).vl.len;omega⟩
theorem Z1:∀ (ls:List (List Uy)),(∀ rs∈ls,rs.length<=2)->(VS ls).length<=2*ls.length
 |[],_=>by simp[VS]
 |rs::ls,h=>by
  have a:=Z1 ls λr b=>h r (by simp[b]);have c:=h rs (by simp);unfold VS at a ⊢;rw[xm,hI,List.length_reverse,ci];omega
theorem VLev.two{L:Ub}(v:VLev L):∀ rs∈L.2,rs.length<=2:=λrs a=>by
 obtain⟨i,hi⟩:=eg a;exact(v.lev i rs hi).1
theorem cV{L:Ub}(v:VLev L):W3 L=zo (VS L.2,0):=by
 obtain⟨d,b⟩:=v.small;have e:=v.len;unfold W3;simp only[Ug,Uc];rw[gL _ d b,XK v,TW,UI,zy rfl]
 rw[Vq (l:=L.2) (σ:=List Uy) (s:=(([]:List Uy),(0:Int))) (λi m=>(m,(i:Int))) (λls i m=>(∀ rs∈ls,rs.length<=2)/\m.length<=2*i) (λls _ m=>(0,((m++VS ls,(L.2.length:Int)),()))) [] rfl (by omega) ⟨v.two,by simp⟩ (λm _=>by
  simp only;rw[re,Sd];simp[VS]) (λi rs ls m hd a hi h=>by
   refine⟨m++rs.reverse,?_,⟨λr b=>h.1 r (by simp[b]),by have:=h.1 rs (by simp);simp;omega⟩,by simp[VS]⟩;have c:=h.1 rs (by simp);have f:m.length<=24:=by have:=h.2;omega
   simp only;rw[rl hi,TB,UY,Tq a];have gg:∀ {β:Type} (z:List Uy) (x:Uy) (k:Unit->Option β),z.length<=100->gd (CI (BG z.length [x].length) 1048576) k=k ():=λz x k g=>VG (by simp only[BG,ci,cP];omega) k
   match rs,c,a with
   |[],_,a=>
    refine Uw (x:=(0,((m,-1),()))) (Vk (n:=1) (by omega) (U7 rfl)) ?_;rw[Ui a (by omega)];simp
   |[r0],_,a=>
    refine Uw (x:=(0,((m++[r0],-1),()))) (Vk (n:=2) (by omega) ((U1 (s':=(m++[r0],-1)) ?_).trans (U7 rfl))) ?_
    ·show br (SR (0:Int) 0) _ _=_;rw[UE,zy (by omega),UY,Tq a];refine(W8 0 rfl (x:=r0) rfl).trans ?_;rw[gg m _ _ (by omega)];rfl
    ·rw[Ui a (by omega)];simp
   |[r0,r1],_,a=>
    refine Uw (x:=(0,((m++[r1]++[r0],-1),()))) (Vk (n:=3) (by omega) ((U1 (s':=(m++[r1],0)) ?_).trans ((U1 (s':=(m++[r1]++[r0],-1)) ?_).trans (U7 rfl)))) ?_
    ·show br (SR (1:Int) 0) _ _=_;rw[UE,zy (by omega),UY,Tq a];refine(W8 1 rfl (x:=r1) rfl).trans ?_;rw[gg m _ _ (by omega)];rfl
    ·show br (SR (0:Int) 0) _ _=_;rw[UE,zy (by omega),UY,Tq a];refine(W8 0 rfl (x:=r0) rfl).trans ?_;rw[gg (m++[r1]) _ _ (by simp;omega)];rfl
    ·rw[Ui a (by omega)];simp),TW]
 simp
theorem X6(a b:Int):UP a b=max a b:=by unfold UP;split<;>omega
theorem XO:∀ (l:List Uy) (m:Int),0<=m->l.foldl (λm r=>UP m r.1) m=max m (l.foldl (λm r=>UP m r.1) 0)
 |[],m,h=>by simp;omega
 |r::l,m,h=>by
  have a:=XO l (UP m r.1) (by rw[X6];omega);have b:=XO l (UP 0 r.1) (by rw[X6];omega);simp only[iz];rw[a,b,X6,X6];omega
theorem cg(l:List Uy)(m:Int)(h:0<=m):l.reverse.foldl (λm r=>UP m r.1) m=l.foldl (λm r=>UP m r.1) m:=by
 induction l generalizing m with
 |nil=>rfl
 |cons r l a=>
  rw[List.reverse_cons,xn,a m h,iz];simp only[iz,List.foldl_nil];rw[XO l m h,XO l (UP m r.1) (by rw[X6];omega),X6,X6];omega
theorem dZ(l:List Uy)(m:Int)(h:0<=m):0<=l.foldl (λm r=>UP m r.1) m:=by
 rw[XO l m h];omega
theorem Zl:∀ (ls:List (List Uy)) (m:Int),0<=m->(VS ls).foldl (λm r=>UP m r.1) m=ls.foldl (λm rs=>rs.foldl (λm r=>UP m r.1) m) m
 |[],m,_=>rfl
 |rs::ls,m,h=>by
  have a:=Zl ls (rs.foldl (λm r=>UP m r.1) m) (dZ _ _ h);unfold VS at a ⊢;rw[xm,xn,cg rs m h,iz,a]
theorem dq{L:Ub}(v:VLev L):Wa L=zo (XJ L.2):=by
 have c:=v.len;have d:=Z1 L.2 v.two;unfold Wa;simp only[Ug,Uc];rw[cV v,TW]
 rw[Vq (l:=VS L.2) (σ:=Int) (s:=((0:Int),(0:Int))) (λi m=>(m,(i:Int))) (λ_ _ _=>True) (λl _ m=>(0,((l.foldl (λm r=>UP m r.1) m,((VS L.2).length:Int)),()))) 0 rfl (by omega) trivial (λm _=>by
  simp only;rw[re,Sd];rfl) (λk r l m hd a b _=>⟨UP m r.1,by
   simp only
   rw[rl b,TB,UY,Tq a,Ui a (by omega)],trivial,rfl⟩),TW]
 rw[Zl _ _ (by omega)];rfl
theorem bf{L:Ub}(d:L.2.length<=1000):VV L=zo (Uf 0 L.2):=by
 unfold VV;simp only[Ug,Uc]
 rw[Vq (l:=L.2) (σ:=List Int) (s:=(([]:List Int),(0:Int))) (λi m=>(m,(i:Int))) (λls i m=>m++Uf i ls=Uf 0 L.2) (λ_ _ _=>(0,((Uf 0 L.2,(L.2.length:Int)),()))) [] rfl (by omega) rfl (λm h=>by
  simp only;rw[re,Sd,<- h];simp[Uf]) (λi rs ls m hd b hi h=>by
   refine⟨m++(if rs.length=2 then[(i:Int)]else[]),?_,?_,rfl⟩
   ·simp only;rw[rl hi,TB,UY,Tq b,UD]
    have e:m.length<=1000:=by
     have a:=congrArg mR h;have c:=WU L.2 0;rw[hI]at a;omega
    by_cases a:rs.length=2
    ·rw[zy (by omega),zy a,VG (by simp only[BG,ci,cP];omega),Ui b (by omega)];rfl
    ·rw[zx (by omega),zx a,gs,Ui b (by omega)]
   ·rw[dc];exact h),TW]
theorem vS{L:Ub}(v:VLev L)(k:Int):Za (L,k)=zo (if k<0\/k>=12 then 7 else 0):=by
 obtain⟨c,d⟩:=v.small;unfold Za;rw[gL _ c d,XK v,TW,UD,zy rfl,UH,UE];by_cases a:k<0
 ·rw[zy a,zy (.inl a)]
 ·rw[zx a];by_cases b:k>=12
  ·rw[zy b,zy (.inr b)]
  ·rw[zx b,zx (by omega)]
theorem cU{L:Ub}(v:VLev L){n:Nat}(b:n<L.2.length):VF (L,(n:Int))=zo (decide ((n:Int)=(L.2.length:Int)-1)):=by
 have a:=v.len;unfold VF ZA;simp only[Ug,Uc];rw[vS v,TW,zx (by omega),UI,zy rfl,TW,Uh (by omega)];unfold Ti;rw[Vm];by_cases h:(n:Int)=(L.2.length:Int)-1
 ·simp[h]
 ·simp[h];omega
theorem gJ{a b:List UZ}(va:VL a)(d:VL b)(c:Bool):YO ([a,b],c)=zo (WG a b c 0,(0,0)):=by
 unfold YO Y9 WS;rw[aS va d,TW,UI,zy rfl];refine Eq.trans (b:=bd (bd (WR ([a,b],[((0:Nat):Int),((0:Nat):Int)])) _) _) rfl ?_;rw[Zh va d (iP _) (iP _)];rfl
theorem dE{L:Ub}{n:Nat}{a b:Uy}(c:Bool)(h:L.2[n]?=zo [a,b])(v0:VL a.2)(v1:VL b.2):Ux (L,((n:Int),c))=zo ((n:Int),WG b.2 a.2 c 0):=by
 have d:=(a8.1 h).1;unfold Ux;simp only[Ug,Uc];rw[UE,zx (by omega),UY,Tq h,Tq (x:=b) rfl,Tq (x:=a) rfl,gJ v1 v0];rfl
theorem rO{L:Ub}{n:Nat}{a b:Uy}{j:Job}(h:L.2[n]?=zo [a,b])(v0:VL a.2)(v1:VL b.2){β:Type}(A B:Option β) :
  (bd (Ux (L,((n:Int),j.2.2.1.2.2))) λc=>bd (U6 c.2) λg=>br (Tk j.2.2.2.2 0) (λ_=>A) λ_=>br (Ti j.2.2.2.2 g.1) (λ_=>A) λ_=>bd (Uz (c.2,j.2.2.2.2)) λi=>bd (VD (i.1,j.2)) λl=>br (Hl l) (λ_=>A) λ_=>B)
  = if j.2.2.2.2<0\/j.2.2.2.2>((b.2.length+a.2.length:Nat):Int)then A else if WG b.2 a.2 j.2.2.1.2.2 j.2.2.2.2.toNat=j.2 then B else A:=by
 rw[dE _ h v0 v1,TW,aT v1 v0 _ (iP _),TW,UH,UF,li];by_cases e:j.2.2.2.2<0
 ·rw[zy e,zy (.inl e)]
 rw[zx e];by_cases f:j.2.2.2.2>((b.2.length+a.2.length:Nat):Int)
 ·rw[zy f,zy (.inr f)]
 rw[zx f,zx (show ¬ (j.2.2.2.2<0\/j.2.2.2.2>((b.2.length+a.2.length:Nat):Int)) by omega)];obtain⟨k,m⟩:∃ k:Nat,j.2.2.2.2=(k:Int):=⟨j.2.2.2.2.toNat,by omega⟩;rw[m,cW v1 v0 _ (iP _),TW,li,en,tg (by omega),bl];obtain⟨s1,s2,o,p,q,r⟩:=ax v1 v0 j.2.2.1.2.2 (n:=k) (by omega);rw[cQ _ _ s1 s2 o p q r,TW,Vm,Vx];by_cases d:WG b.2 a.2 j.2.2.1.2.2 k=j.2
 ·rw[zx (by simp[d]),zy d]
 ·rw[zy d,zx d]
end
section
open Go Sv
theorem dt(s:UX)(J:s.1.2.length<=9223372036854775807)(hr:∀ rs∈s.1.2,rs.length<=9223372036854775807 /\ ∀ r∈rs,r.2.length<=9223372036854775807)(hj:s.2.1.length<=9223372036854775807):V8 s=zo (Ua s):=by
 unfold V8 Ua;simp only[Ug,Uc];rw[i7 _ J hr,TW,UD];by_cases o:(WF s.1).2.2=0;rotate_left
 ·rw[zx o,zy o,UD,zx o,UI,zx o]
 rw[zy o,zx (show ¬ (WF s.1).2.2≠0 by simp[o]),UH,UF];have v:=YW.1 o;by_cases y:s.2.2<1
 ·rw[zy y,zy (.inl y)]
 rw[zx y];by_cases p:s.2.2>1000001
 ·rw[zy p,zy (.inr p)]
 rw[zx p,zx (show ¬ (s.2.2<1\/s.2.2>1000001) by omega),UD,zy o,dq v,TW,UG];by_cases m:s.2.2<=XJ s.1.2
 ·rw[zy m,zy m]
 rw[zx m,zx m,UI,zy o,bf (by have:=v.len;omega),TW];obtain⟨a,g⟩:∃ a,a=Uf 0 s.1.2:=⟨_,rfl⟩;have hdl:a.length<=12:=by have:=WU s.1.2 0;have:=v.len;rw[g];omega
 rw[<- g];obtain⟨T,Z⟩:∃ T,T=Xf s.1 a 0 s.2.1:=⟨_,rfl⟩;rw[<- Z]
 obtain⟨r,q1,D⟩:=Xg (l:=s.2.1) (σ:=Unit) (λi _=>((0:Int),((0:Int),(i:Int)))) (λjs i _=>Xf s.1 a i js=T) (λ(r:Nat×((Int×(Int×Int))×Unit))=>(T=zn/\r.1=1)\/(∃ i:Nat,T=zo i/\r.1=0/\r.2.1.1=6/\r.2.1.2.1=(i:Int)))
  (f:=λb=>br (Tk b.2.2 (s.2.1.length:Int)) (λ_=>SW b.2.2 λk7=>ix s.2.1 k7 λe=>br (SR b.2.2 (a.length:Int)) (λ_=>zo (.dn ((0,((6,(b.2.2,b.2.2)),()))))) λ_=>SW b.2.2 λk9=>ix a k9 λX=>br (SS e.1 X) (λ_=>zo (.dn ((0,((6,(b.2.2,b.2.2)),()))))) λ_=>br e.2.2.1.2.2 (λ_=>bd (VF (s.1,e.1)) λM=>br (Hl M) (λ_=>zo (.dn ((0,((6,(b.2.2,b.2.2)),()))))) λ_=>bd (Ux ((s.1,(e.1,e.2.2.1.2.2)))) λG=>bd (U6 G.2) λN=>br (Tk e.2.2.2.2 0) (λ_=>zo (.dn ((0,((6,(b.2.2,b.2.2)),()))))) λ_=>br (Ti e.2.2.2.2 N.1) (λ_=>zo (.dn ((0,((6,(b.2.2,b.2.2)),()))))) λ_=>bd (Uz (G.2,e.2.2.2.2)) λO=>bd (VD (O.1,e.2)) λP=>br (Hl P) (λ_=>zo (.dn ((0,((6,(b.2.2,b.2.2)),()))))) λ_=>zo (.nx ((b.1,(b.2.1,So .i64 b.2.2 1))))) λ_=>bd (Ux ((s.1,(e.1,e.2.2.1.2.2)))) λI=>bd (U6 I.2) λS=>br (Tk e.2.2.2.2 0) (λ_=>zo (.dn ((0,((6,(b.2.2,b.2.2)),()))))) λ_=>br (Ti e.2.2.2.2 S.1) (λ_=>zo (.dn ((0,((6,(b.2.2,b.2.2)),()))))) λ_=>bd (Uz (I.2,e.2.2.2.2)) λU=>bd (VD (U.1,e.2)) λW=>br (Hl W) (λ_=>zo (.dn ((0,((6,(b.2.2,b.2.2)),()))))) λ_=>zo (.nx ((b.1,(b.2.1,So .i64 b.2.2 1))))) λ_=>zo (.dn ((1,(b,())))))
  (s:=(0,(0,0))) () rfl (by omega) Z.symm (λ_ h=>by
   refine⟨_,by simp only;rw[re];rfl,.inl ⟨by rw[<- h];rfl,rfl⟩⟩) (λi j js _ hd hx hi h=>by
   simp only;rw[rl hi,TB,UY,Tq hx,UE];unfold Xf at h
   have c:aD s.1 a i j=zt -> ∃ r:Nat×((Int×(Int×Int))×Unit),(zo (LR.dn ((0,((6,((i:Int),(i:Int))),()))):LR (Int×(Int×Int)) _))=zo (.dn r)/\((T=zn/\r.1=1)\/(∃ i:Nat,T=zo i/\r.1=0/\r.2.1.1=6/\r.2.1.2.1=(i:Int))):=λJ=>by
    rw[zy J]at h;exact⟨_,rfl,.inr ⟨i,h.symm,rfl,rfl,rfl⟩⟩
   have x:aD s.1 a i j=zf -> ∃ st':Unit,(zo (LR.nx ((0:Int),((0:Int),So .i64 (i:Int) 1))):Option (LR _ (Nat×((Int×(Int×Int))×Unit))))=zo (.nx ((0:Int),((0:Int),((i+1:Nat):Int))))/\Xf s.1 a (i+1) js=T:=λhg=>by
    rw[zx (by simp[hg])]at h;exact⟨(),by rw[Ui hx (by omega)],h⟩
   by_cases y:(i:Int)>=(a.length:Int)
   ·rw[zy y];exact .inr (c (by unfold aD;rw[a9 (by omega)]))
   rw[zx y,UY];have w:a[i]?=zo (a[i]'(by omega)):=by simp
   rw[Tq w,UI];obtain⟨n,K,E,F,t⟩:=Ym (ls:=s.1.2) (i:=0) (k:=i) (d:=a[i]'(by omega)) (by rw[<- g];exact w);rw[en]at K
   have q:aD s.1 a i j=(if j.1≠(a[i]'(by omega))then zt else if j.2.2.1.2.2=zt/\j.1≠(s.1.2.length:Int)-1 then zt else if j.2.2.2.2<0\/j.2.2.2.2>((F.2.length+E.2.length:Nat):Int)then zt else decide (WG F.2 E.2 j.2.2.1.2.2 j.2.2.2.2.toNat≠j.2)):=by
    unfold aD;rw[w];simp only;rw[K,bl,t]
   by_cases p:j.1=(a[i]'(by omega));rotate_left
   ·rw[zx p];exact .inr (c (by rw[q,zy p]))
   rw[zy p];rw[zx (by simp[p])]at q;have C:j.1=(n:Int):=by rw[p,K]
   have hv:=(v.lev n _ t).2;have v0:=(hv E (by simp)).vl;have v1:=(hv F (by simp)).vl;have L:=(a8.1 t).1;rw[C,cU v L,TW,Vm,Vx,rO t v0 v1,UL];rw[C]at q;by_cases m:j.2.2.1.2.2=zt/\(n:Int)≠(s.1.2.length:Int)-1
   ·rw[zy m.1,zy m.2];exact .inr (c (by rw[q,zy m]))
   rw[zx m]at q
   have h4:∀ {γ:Type} (A B:γ),(if j.2.2.1.2.2=zt then if ¬(n:Int)=(s.1.2.length:Int)-1 then A else B else B)=B:=by
    intro γ A B;by_cases u:j.2.2.1.2.2=zt
    ·rw[zy u,zx (λz=>m ⟨u,z⟩)]
    ·rw[zx u]
   rw[h4];by_cases u:j.2.2.2.2<0\/j.2.2.2.2>((F.2.length+E.2.length:Nat):Int)
   ·rw[zy u];exact .inr (c (by rw[q,zy u]))
   rw[zx u];rw[zx u]at q;by_cases z:WG F.2 E.2 j.2.2.1.2.2 j.2.2.2.2.toNat=j.2
   ·rw[zy z];exact .inl (x (by rw[q];simp[z]))
   ·rw[zx z]
    exact .inr (c (by rw[q];simp[z])))
 refine Uw q1 ?_;rw[TX];rcases D with⟨D,q3⟩|⟨i,D,q3,q4,q5⟩
 ·rw[zx (show ¬ r.1=0 by omega),D,UH];simp only;by_cases Y:s.2.1.length<a.length
  ·rw[zy (by omega),zy Y]
  ·rw[zx (by omega),zx Y]
 ·rw[zy q3,D,q4,q5]
theorem fK(s:UX)(b:s.1.2.length<=1048576)(a:∀ rs∈s.1.2,rs.length<=1048576 /\ ∀ r∈rs,r.2.length<=9223372036854775807)(c:s.2.1.length<=1048576):V8 s=zo (Ua s):=dt s (by omega) (λrs h=>⟨by have:=(a rs h).1;omega,(a rs h).2⟩) (by omega)
end
section
open Go Sv
def JobAt(L:Ub)(n:Nat)(j:Job):Prop:=∃ a b c k,L.2[n]?=zo [a,b]/\j=((n:Int),WG b.2 a.2 c k)/\k<=b.2.length+a.2.length/\(c=zt->n+1=L.2.length)/\VL a.2/\VL b.2
structure VSt (s:UX):Prop where
 lev:VLev s.1
 n1:1<=s.2.2
 n2:s.2.2<=1000001
 n3:XJ s.1.2<s.2.2
 due:s.2.1.map (·.1)=Uf 0 s.1.2
 job:∀ j∈s.2.1,∃ n,JobAt s.1 n j
theorem bj(a b:List UZ)(c:Bool)(k:Nat):(WG a b c k).2.1.2.2=c:=by
 show(Vl (s0 c) (Uq a b k)).2.2=c;rw[X8]
theorem cD{L:Ub}(v:VLev L){i:Nat}{j:Job}:aD L (Uf 0 L.2) i j=zf <-> ∃ n,(Uf 0 L.2)[i]?=zo j.1/\JobAt L n j:=by
 constructor
 ·intro h;unfold aD at h;cases hd:(Uf 0 L.2)[i]? with
  |none=>rw[hd]at h;cases h
  |some d=>
   rw[hd]at h;simp only at h;by_cases e:j.1=d;rotate_left
   ·rw[zy e]at h;cases h
   rw[zx (by simp[e])]at h;by_cases f:j.2.2.1.2.2=zt/\j.1≠(L.2.length:Int)-1
   ·rw[zy f]at h;cases h
   rw[zx f]at h;obtain⟨n,l,a,b,c⟩:=Ym hd;rw[en]at l;rw[l,bl,c]at h;simp only at h;by_cases o:j.2.2.2.2<0\/j.2.2.2.2>((b.2.length+a.2.length:Nat):Int)
   ·rw[zy o]at h;cases h
   rw[zx o]at h;have r:WG b.2 a.2 j.2.2.1.2.2 j.2.2.2.2.toNat=j.2:=by simpa using h
   have q:=(v.lev n _ c).2;refine⟨n,by rw[e],a,b,j.2.2.1.2.2,j.2.2.2.2.toNat,c,s7 (by rw[e,l]) r.symm,by omega,λg=> ?_,(q a (by simp)).vl,(q b (by simp)).vl⟩
   have s:j.1=(L.2.length:Int)-1:=by
    by_cases p:j.1=(L.2.length:Int)-1
    ·exact p
    ·exact absurd ⟨g,p⟩ f
   omega
 ·rintro⟨n,hd,a,b,m,k,c,rfl,t,g,v0,v1⟩;unfold aD;rw[hd];simp only;rw[zx (by simp),bj,zx (λh:m=zt/\(n:Int)≠(L.2.length:Int)-1=>h.2 (by have:=g h.1;omega)),bl,c];simp only;rw[show(WG b.2 a.2 m k).2.2.2=(k:Int)from rfl,zx (by omega),bl];simp
theorem Zx{L:Ub}{a:List Int}:∀ {js:List Job} {i:Nat},Xf L a i js=zn <-> ∀ k j,js[k]?=zo j->aD L a (i+k) j=zf
 |[],i=>by simp[Xf]
 |j::js,i=>by
  unfold Xf;by_cases h:aD L a i j=zt
  ·rw[zy h];simp only[reduceCtorEq,false_iff];intro b;have:=b 0 j rfl;rw[Nat.add_zero,h]at this;cases this
  ·rw[zx h,Zx (js:=js)];constructor
   ·intro b k j' c;cases k with
    |zero=>cases c;simpa using h
    |succ k=>rw[show i+(k+1)=i+1+k by omega];exact b k j' c
   ·intro b k j' c;rw[show i+1+k=i+(k+1) by omega];exact b (k+1) j' c
theorem Ue{s:UX}:(Ua s).2=0<->VSt s:=by
 unfold Ua;constructor
 ·intro h;by_cases d:(WF s.1).2.2≠0
  ·rw[zy d]at h;exact absurd h d
  rw[zx d]at h;have v:=YW.1 (Decidable.not_not.1 d);by_cases f:s.2.2<1\/s.2.2>1000001
  ·rw[zy f]at h;cases h
  rw[zx f]at h;by_cases g:s.2.2<=XJ s.1.2
  ·rw[zy g]at h;cases h
  rw[zx g]at h;cases b:Xf s.1 (Uf 0 s.1.2) 0 s.2.1 with
  |some i=>rw[b]at h;cases h
  |none=>
   rw[b]at h;simp only at h;by_cases l:s.2.1.length<(Uf 0 s.1.2).length
   ·rw[zy l]at h;cases h
   have m:=Zx.1 b
   have c:∀ k j,s.2.1[k]?=zo j -> ∃ n,(Uf 0 s.1.2)[k]?=zo j.1/\JobAt s.1 n j:=λk j a=>by
    have:=m k j a;rw[en]at this;exact(cD v).1 this
   refine⟨v,by omega,by omega,by omega,?_,λj o=> ?_⟩
   ·apply List.ext_getElem?;intro k;rw[s6];cases a:s.2.1[k]? with
    |some j=>obtain⟨n,e,_⟩:=c k j a;rw[e];rfl
    |none=>
     have:=List.getElem?_eq_none_iff.1 a;rw[a9 (by omega)];rfl
   ·obtain⟨k,a⟩:=eg o;obtain⟨n,_,h⟩:=c k j a;exact⟨n,h⟩
 ·intro v;rw[zx (by simp[YW.2 v.lev]),zx (by have:=v.n1;have:=v.n2;omega),zx (by have:=v.n3;omega)]
  have b:Xf s.1 (Uf 0 s.1.2) 0 s.2.1=zn:=Zx.2 λk j a=>by
   rw[en];obtain⟨n,p⟩:=v.job j (bo a);exact(cD v.lev).2 ⟨n,by rw[<- v.due,s6,a];rfl,p⟩
  rw[b];simp only;rw[zx (by rw[<- v.due];simp)]
structure Sm (s:UX):Prop where
 lv:s.1.2.length<=1048576
 rs:∀ rs∈s.1.2,rs.length<=1048576 /\ ∀ r∈rs,r.2.length<=9223372036854775807
 js:s.2.1.length<=1048576
theorem sE{s:UX}(m:Sm s):VP s=zo (Ua s):=f9 s m.lv m.rs m.js
theorem vR{s:UX}(m:Sm s):V8 s=zo (Ua s):=fK s m.lv m.rs m.js
theorem VSt.jlen{s:UX}(v:VSt s):s.2.1.length=(Uf 0 s.1.2).length:=by rw[<- v.due];simp
theorem VSt.jsmall{s:UX}(v:VSt s):s.2.1.length<=12:=by
 have:=v.jlen;have:=WU s.1.2 0;have:=v.lev.len;omega
theorem VSt.sm{s:UX}(v:VSt s):Sm s:=⟨v.lev.small.1,v.lev.small.2,by have:=v.jsmall;omega⟩
def aX(x:Int):Nat->List Int->Option Nat
 |_,[]=>zn
 |k,y::l=>if y=x then zo k else aX x (k+1) l
theorem fx{x:Int}:∀ {l:List Int} {k i:Nat},aX x k l=zo i->k<=i/\l[i-k]?=zo x
 |[],_,_,h=>by cases h
 |y::l,k,i,h=>by
  unfold aX at h;by_cases e:y=x
  ·rw[zy e]at h;cases h;simp[e]
  ·rw[zx e]at h;obtain⟨b,a⟩:=fx h;exact⟨by omega,by rw[show i-k=(i-(k+1))+1 by omega];simpa using a⟩
theorem dY{x:Int}:∀ {l:List Int} {k:Nat},x∈l -> ∃ i,aX x k l=zo i
 |[],_,h=>by cases h
 |y::l,k,h=>by
  unfold aX;by_cases e:y=x
  ·rw[zy e];exact⟨k,rfl⟩
  ·rw[zx e];exact dY (by rcases ey.1 h with h|h;exact absurd h.symm e;exact h)
def Y5(s:UX)(a:Int):Int×Int:=if(Ua s).2≠0 then(0,(Ua s).2)else match aX a 0 (Uf 0 s.1.2)with
 |some i=>((i:Int),0)
 |none=>(0,4)
theorem dW{s:UX}(m:Sm s)(a:Int):Xk (s,a)=zo (Y5 s a):=by
 unfold Xk Y5;simp only[Ug,Uc];rw[sE m,TW,UI];by_cases b:(Ua s).2=0;rotate_left
 ·rw[zx b,zy b]
 rw[zy b,zx (show ¬ (Ua s).2≠0 by simp[b])];have v:=Ue.1 b;have w:=v.jsmall;rw[<- v.due];obtain⟨T,g⟩:∃ T,T=aX a 0 (s.2.1.map (·.1)):=⟨_,rfl⟩;rw[<- g]
 obtain⟨r,q,c⟩:=Xg (l:=s.2.1) (σ:=Unit) (s:=((0:Int),(0:Int))) (λk _=>((0:Int),(k:Int))) (λjs k _=>aX a k (js.map (·.1))=T) (λ(r:Nat×((Int×Int)×Unit))=>(r.1=1/\T=zn)\/(r.1=0 /\ ∃ i:Nat,T=zo i/\r.2.1.1=(i:Int)))
  (f:=λs1=>br (Tk s1.2 (s.2.1.length:Int)) (λ_=>SW s1.2 λp=>ix s.2.1 p λu=>br (O3 u.1 a) (λ_=>zo (.dn ((0,((s1.2,s1.2),()))))) λ_=>zo (.nx (s1.1,So .i64 s1.2 1))) λ_=>zo (.dn ((1,(s1,())))))
  () rfl (by omega) g.symm (λ_ h=>⟨_,by simp only;rw[re];rfl,.inl ⟨rfl,by rw[<- h];rfl⟩⟩) (λk j js _ hd n o h=>by
   simp only;rw[rl o,TB,UY,Tq n,UD];unfold aX at h;simp only[nP]at h;by_cases e:j.1=a
   ·rw[zy e];rw[zy e]at h;exact .inr ⟨_,rfl,.inr ⟨rfl,k,h.symm,rfl⟩⟩
   ·rw[zx e];rw[zx e]at h
    exact .inl ⟨(),by rw[Ui n (by omega)],h⟩)
 refine Uw q ?_;rw[TX];rcases c with⟨c,d⟩|⟨c,i,d,t⟩
 ·rw[zx (show ¬ r.1=0 by omega),d];rfl
 ·rw[zy c,d,t,UH,zx (by omega)]
theorem fL{s:UX}(m:Sm s):XZ s=zo (if(Ua s).2≠0 then([],(Ua s).2)else(Uf 0 s.1.2,0)):=by
 unfold XZ;rw[vR m,TW,UI];by_cases a:(Ua s).2=0
 ·rw[zy a,zx (show ¬ (Ua s).2≠0 by simp[a]),bf (by have:=(Ue.1 a).lev.len;omega),TW]
 ·rw[zx a,zy a]
theorem Z5{s:UX}(m:Sm s)(a:Int):Vf (s,a)=zo (Y5 s a):=by
 unfold Vf Y5;simp only[Ug,Uc];rw[fL m,TW,UI];by_cases c:(Ua s).2=0;rotate_left
 ·rw[zy c,zx c,zy c]
 rw[zx (show ¬ (Ua s).2≠0 by simp[c]),zy rfl,zx (show ¬ (Ua s).2≠0 by simp[c])];have v:=Ue.1 c;have z:=v.jsmall;have hd:=v.jlen;obtain⟨b,d⟩:∃ b,b=Uf 0 s.1.2:=⟨_,rfl⟩;rw[<- d]at hd ⊢;obtain⟨T,o⟩:∃ T,T=aX a 0 b:=⟨_,rfl⟩;rw[<- o];simp only
 obtain⟨r,u,g⟩:=Xg (l:=b) (σ:=Unit) (s:=((0:Int),((0:Int),(0:Int)))) (λk _=>((0:Int),((0:Int),(k:Int)))) (λjs k _=>aX a k js=T) (λ(r:Nat×((Int×(Int×Int))×Unit))=>(r.1=1/\T=zn)\/(r.1=0 /\ ∃ i:Nat,T=zo i/\r.2.1.2.1=(i:Int)/\r.2.1.1=0))
  (f:=λs1=>br (Tk s1.2.2 (b.length:Int)) (λ_=>SW s1.2.2 λt=>ix b t λy=>br (O3 y a) (λ_=>zo (.dn ((0,((0,(s1.2.2,s1.2.2)),()))))) λ_=>zo (.nx ((s1.1,(s1.2.1,So .i64 s1.2.2 1))))) λ_=>zo (.dn ((1,(s1,())))))
  () rfl (by omega) o.symm (λ_ h=>⟨_,by simp only;rw[re];rfl,.inl ⟨rfl,by rw[<- h];rfl⟩⟩) (λk j js _ hd p q h=>by
   simp only;rw[rl q,TB,UY,Tq p,UD];unfold aX at h;by_cases e:j=a
   ·rw[zy e];rw[zy e]at h;exact .inr ⟨_,rfl,.inr ⟨rfl,k,h.symm,rfl,rfl⟩⟩
   ·rw[zx e];rw[zx e]at h
    exact .inl ⟨(),by rw[Ui p (by omega)],h⟩)
 refine Uw u ?_;rw[TX];rcases g with⟨g,n⟩|⟨g,i,n,w,x⟩
 ·rw[zx (show ¬ r.1=0 by omega),n]
 ·rw[zy g,n,w,x]
end
section
open Go Sv
def Un(L:Ub)(j:Job):Nat:=match L.2[j.1.toNat]? with
 |some [r0,r1]=>r1.2.length+r0.2.length-j.2.2.2.2.toNat
 |_=>0
def WT(L:Ub)(j:Job):Bool:=decide ((j.2.2.2.1.length:Int)<=VJ L.1 j.1.toNat)
def Yu(L:Ub)(n:Nat):Bool:=decide (n<12/\((L.2[n]?).getD []).length<2)
def WH(L:Ub)(j:Job):Bool:=decide (0<Un L j)||(WT L j||Yu L (j.1.toNat+1))
def bQ(s:UX)(a:Int):Option Job:=match aX a 0 (Uf 0 s.1.2)with
 |some i=>s.2.1[i]?
 |none=>zn
theorem VSt.at{s:UX}(v:VSt s){a:Int}{i:Nat}(h:aX a 0 (Uf 0 s.1.2)=zo i):∃ (j:Job) (n:Nat),s.2.1[i]?=zo j/\a=(n:Int)/\j.1=(n:Int)/\JobAt s.1 n j/\n<s.1.2.length:=by
 obtain⟨_,b⟩:=fx h;rw[li]at b;rw[<- v.due,s6]at b;cases c:s.2.1[i]? with
 |none=>rw[c]at b;cases b
 |some j=>
  rw[c]at b;simp only[xr,Option.some.injEq]at b;obtain⟨n,g⟩:=v.job j (bo c);have d:=g;obtain⟨o,p,m,k,l,e,_⟩:=g;have f:j.1=(n:Int):=by rw[e]
  exact⟨j,n,rfl,by rw[<- b,f],f,d,(a8.1 l).1⟩
theorem JobAt.left{L:Ub}{n:Nat}{j:Job}(h:JobAt L n j):VI j.2=zo ((Un L j:Int),0)/\U6 j.2=zo ((Un L j:Int),0)/\Un L j<=10000:=by
 obtain⟨b,c,a,k,f,rfl,d,_,v0,v1⟩:=h;have g:=v0.len;have i:=v1.len
 have e:Un L ((n:Int),WG c.2 b.2 a k)=c.2.length+b.2.length-k:=by
  unfold Un;simp only[bl,f];show c.2.length+b.2.length-((k:Int)).toNat=_;rw[bl]
 rw[e];exact⟨bL v1 v0 a d,aT v1 v0 a d,by omega⟩
theorem jS{L:Ub}(v:VLev L){n:Nat}(c:n<12):YJ (L.1,(n:Int))=zo (VJ L.1 n,0):=by
 have a:=v.B1;have b:=v.B2;unfold YJ;rw[UH,zx (by omega),UF,zx (by omega),UH,zx (by omega),UE,zx (by omega),bC a b (by omega)];have:SR (n:Int) 0=zt:=by unfold SR;simp
 rw[this];rfl
theorem fC{L:Ub}(v:VLev L){n:Nat}(c:n<12):Xz (L.1,(n:Int))=zo (VJ L.1 n,0):=by
 have a:=v.B1;have b:=v.B2;unfold Xz;rw[UH,zx (by omega),UF,zx (by omega),UH,zx (by omega),UE,zx (by omega),fO a b (by omega),TW]
theorem dj{L:Ub}(v:VLev L)(k:Int):Xl (L,k)=zo (if k<0\/k>=12 then 7 else 0):=by
 obtain⟨c,d⟩:=v.small;unfold Xl;rw[Zf _ c d,XK v,TW,UI,zy rfl,UH,UE];by_cases a:k<0
 ·rw[zy a,zy (.inl a)]
 ·rw[zx a];by_cases b:k>=12
  ·rw[zy b,zy (.inr b)]
  ·rw[zx b,zx (by omega)]
theorem lL(l:List Uy):Tk (l.length:Int) 2=decide (l.length<2):=by
 unfold Tk;rw[decide_eq_decide];omega
theorem bE{L:Ub}(v:VLev L){n:Nat}(d:n<=12):V5 (L,(n:Int))=zo (Yu L n,if n>=12 then 7 else 0):=by
 unfold V5 Yu;simp only[Ug,Uc];rw[dj v,TW,UI];by_cases h:n>=12
 ·rw[zy (show(n:Int)<0\/(n:Int)>=12 by omega),zx (by decide),zy h];simp;omega
 ·rw[zx (show ¬ ((n:Int)<0\/(n:Int)>=12) by omega),zy rfl,zx h,UH];have a:n<12:=by omega
  by_cases c:n<L.2.length
  ·have b:L.2[n]?=zo (L.2[n]'c):=by simp
   rw[zy (by omega),UY,Tq b,b,lL,gM];simp[a]
  ·rw[zx (by omega),a9 (by omega)];simp[a]
theorem lq{s:UX}(v:VLev s.1){n:Nat}(c:n<12):Zd (s,(n:Int))=zo (Yu s.1 (n+1)):=by
 unfold Zd Yu;simp only[Ug,Uc];rw[Uh (by omega),UH];by_cases h:n+1<12
 ·rw[zy (by omega),UE];by_cases b:n+1<s.1.2.length
  ·have a:s.1.2[n+1]?=zo (s.1.2[n+1]'b):=by simp
   rw[zx (by omega),UY,Tq a,a,lL,gM];simp[h]
  ·rw[zy (by omega),a9 (by omega)];simp[h]
 ·rw[zx (by omega)];simp;omega
abbrev zQ:=UX×(Job×Int)
theorem cc{s:UX}(v:VLev s.1){n:Nat}{j:Job}(a:j.1=(n:Int))(b:n<12)(l:Int):VC (s,(j,l))=zo (WT s.1 j):=by
 unfold VC WT;simp only[Ug,Uc];rw[a,jS v b,TW,UD,zy rfl,bl];rfl
theorem dF{s:UX}(v:VLev s.1){n:Nat}{j:Job}(a:j.1=(n:Int))(b:n<12):XU (s,j)=zo (WT s.1 j):=by
 unfold XU WT;simp only[Ug,Uc];rw[a,fC v b,TW,bl];rfl
theorem lh{s:UX}(v:VLev s.1){n:Nat}{j:Job}(a:j.1=(n:Int))(b:n<12)(l:Int):WK (s,(j,l))=zo (Yu s.1 (n+1)):=by
 unfold WK;simp only;rw[a,Uh (by omega),bE v (by omega),TW,UD];by_cases h:n+1>=12
 ·rw[zy h,zx (show ¬ (7:Int)=0 by decide)];unfold Yu;simp;omega
 ·rw[zx h,zy rfl]
theorem dR{s:UX}(v:VLev s.1){n:Nat}{j:Job}(a:j.1=(n:Int))(b:n<12)(l:Nat)(d:l=Un s.1 j):VM (s,(j,(l:Int)))=zo (WH s.1 j):=by
 have c:U0 (s,(j,(l:Int)))=zo (decide (0<Un s.1 j)):=by
  unfold U0 Ti;rw[d];simp
 have e1:=cc v a b (l:Int);have e2:=lh v a b (l:Int);unfold VM WH;rw[c,e1,e2,a,bl];simp only[TW];cases e:decide (0<Un s.1 j)with
 |true=>exact Uw (x:=(0,((0,zt),()))) (Vk (n:=1) (by omega) (U7 rfl)) rfl
 |false=>
  cases f:WT s.1 j with
  |true=>exact Uw (x:=(0,((1,zt),()))) (Vk (n:=2) (by omega) ((U1 (s':=(1,zf)) rfl).trans (U7 rfl))) rfl
  |false=>
   cases g:Yu s.1 (n+1)with
   |true=>exact Uw (x:=(0,((2,zt),()))) (Vk (n:=3) (by omega) ((U1 (s':=(1,zf)) rfl).trans ((U1 (s':=(2,zf)) rfl).trans (U7 rfl)))) rfl
   |false=>exact Uw (x:=(1,((3,zf),()))) (Vk (n:=4) (by omega) ((U1 (s':=(1,zf)) rfl).trans ((U1 (s':=(2,zf)) rfl).trans ((U1 (s':=(3,zf)) rfl).trans (U7 rfl))))) rfl
end
section
open Go Sv
def Wf{α:Type}(z:α)(f:UX->Job->α×Int)(s:UX)(a:Int):α×Int:=if(Ua s).2≠0 then(z,(Ua s).2)else match bQ s a with
 |some j=>f s j
 |none=>(z,4)
def z0:zQ:=(((0,[]),([],0)),((0,(([],([],([],([],0)))),((zf,([],zf)),([],0)))),0))
theorem eA{s:UX}(m:Sm s)(a:Int):V2 (s,a)=zo (Wf z0 (λs j=>((s,(j,(Un s.1 j:Int))),0)) s a):=by
 unfold V2;rw[dW m,TW];unfold Wf bQ Y5;by_cases b:(Ua s).2=0;rotate_left
 ·rw[zy b,UI,zx b,zy b];rfl
 rw[zx (show ¬ (Ua s).2≠0 by simp[b]),zx (show ¬ (Ua s).2≠0 by simp[b])];have v:=Ue.1 b;cases e:aX a 0 (Uf 0 s.1.2)with
 |none=>rfl
 |some i=>
  obtain⟨j,n,c,g,f,d,h⟩:=v.at e;simp only;rw[UI,zy rfl,UY,Tq c,c,(JobAt.left d).1,TW]
theorem fe{s:UX}(m:Sm s)(a:Int):XP (s,a)=zo (Wf zf (λs j=>(WH s.1 j,0)) s a):=by
 unfold XP;rw[eA m,TW];unfold Wf;by_cases b:(Ua s).2=0;rotate_left
 ·rw[zy b,UI,zx b,zy b]
 rw[zx (show ¬ (Ua s).2≠0 by simp[b]),zx (show ¬ (Ua s).2≠0 by simp[b])];have v:=Ue.1 b;unfold bQ;cases d:aX a 0 (Uf 0 s.1.2)with
 |none=>rfl
 |some i=>
  obtain⟨j,n,e,g,c,f,h⟩:=v.at d;have:=v.lev.len;simp only[e];rw[UI,zy rfl,dR v.lev c (by omega) _ rfl,TW]
theorem ZQ{s:UX}(m:Sm s)(a:Int):V4 (s,a)=zo (Wf 0 (λs j=>((Un s.1 j:Int),0)) s a):=by
 unfold V4;rw[Z5 m,TW];unfold Wf bQ Y5;by_cases b:(Ua s).2=0;rotate_left
 ·rw[zy b,UI,zx b,zy b]
 rw[zx (show ¬ (Ua s).2≠0 by simp[b]),zx (show ¬ (Ua s).2≠0 by simp[b])];have v:=Ue.1 b;cases e:aX a 0 (Uf 0 s.1.2)with
 |none=>rfl
 |some i=>
  obtain⟨j,n,c,g,f,d,h⟩:=v.at e;simp only[c];rw[UI,zy rfl,UY,Tq c,(JobAt.left d).2.1,TW]
theorem dm{s:UX}(m:Sm s)(a:Int):Xn (s,a)=zo (Wf zf (λs j=>(WH s.1 j,0)) s a):=by
 unfold Xn;rw[ZQ m,TW,Z5 m,TW];unfold Wf;by_cases b:(Ua s).2=0;rotate_left
 ·rw[zy b,UI,zx b,zy b]
 rw[zx (show ¬ (Ua s).2≠0 by simp[b]),zx (show ¬ (Ua s).2≠0 by simp[b])];have v:=Ue.1 b;unfold bQ Y5;cases f:aX a 0 (Uf 0 s.1.2)with
 |none=>rfl
 |some i=>
  obtain⟨j,n,e,g,c,h,k⟩:=v.at f;have:=v.lev.len;rw[zx (show ¬ (Ua s).2≠0 by simp[b])];simp only[e];rw[UI,zy rfl,UF,UY,Tq e,dF v.lev c (by omega),TW,g,lq v.lev (by omega),TW];unfold WH;rw[c,bl];by_cases d:0<Un s.1 j
  ·rw[zy (by omega)];simp[d]
  ·rw[zx (by omega)];cases WT s.1 j<;>simp[d,TB,Sd]
def aq(s:UX)(j:Job):Int×Int:=if 0<Un s.1 j then(0,9)else if WT s.1 j=zt then(j.1,0)else(j.1+1,0)
theorem vo{s:UX}(m:Sm s)(a:Int):ZH (s,a)=zo (Wf 0 aq s a):=by
 unfold ZH;rw[eA m,TW];unfold Wf;by_cases b:(Ua s).2=0;rotate_left
 ·rw[zy b,UI,zx b,zy b]
 rw[zx (show ¬ (Ua s).2≠0 by simp[b]),zx (show ¬ (Ua s).2≠0 by simp[b])];have v:=Ue.1 b;unfold bQ;cases f:aX a 0 (Uf 0 s.1.2)with
 |none=>rfl
 |some i=>
  obtain⟨j,n,g,h,c,k,l⟩:=v.at f;have:=v.lev.len;simp only[g];unfold U0 aq;rw[UI,zy rfl,TW,UF,cc v.lev c (by omega),TW,h,Uh (by omega),c];by_cases e:0<Un s.1 j
  ·rw[zy (show((Un s.1 j:Int))>0 by omega),zy e]
  ·rw[zx (show ¬ ((Un s.1 j:Int))>0 by omega),zx e,UL];by_cases d:WT s.1 j=zt
   ·rw[zy d,zy d]
   ·rw[zx d,zx d];rfl
theorem gI{s:UX}(m:Sm s)(a:Int):Ys (s,a)=zo (Wf 0 aq s a):=by
 unfold Ys;rw[ZQ m,TW,Z5 m];unfold Wf;by_cases b:(Ua s).2=0;rotate_left
 ·rw[zy b,UD,zx b,UI,zx b,zy b]
 rw[zx (show ¬ (Ua s).2≠0 by simp[b]),zx (show ¬ (Ua s).2≠0 by simp[b])];have v:=Ue.1 b;unfold bQ Y5;cases g:aX a 0 (Uf 0 s.1.2)with
 |none=>rfl
 |some i=>
  obtain⟨j,n,f,h,c,k,l⟩:=v.at g;have:=v.lev.len;rw[zx (show ¬ (Ua s).2≠0 by simp[b])];simp only[f];unfold aq;rw[UD,zy rfl,UF];by_cases e:0<Un s.1 j
  ·rw[zy (show((Un s.1 j:Int))>0 by omega),zy e]
  ·rw[zx (show ¬ ((Un s.1 j:Int))>0 by omega),zx e,UI,zy rfl,TW,UY,Tq f,dF v.lev c (by omega),TW,UL,h,Uh (by omega),c];by_cases d:WT s.1 j=zt
   ·rw[zy d,zy d]
   ·rw[zx d,zx d];rfl
theorem rN{s:UX}(m:Sm s):Xo s=zo (if(Ua s).2≠0 then([],(Ua s).2)else(Uf 0 s.1.2,0)):=by
 unfold Xo;simp only[Ug,Uc];rw[sE m,TW,UI];by_cases a:(Ua s).2=0;rotate_left
 ·rw[zx a,zy a]
 rw[zy a,zx (show ¬ (Ua s).2≠0 by simp[a])];have e:=(Ue.1 a).lev.len
 rw[Vq (l:=s.1.2) (σ:=List Int) (s:=((0:Int),([]:List Int))) (λi m=>((i:Int),m)) (λls i m=>m++Uf i ls=Uf 0 s.1.2) (λ_ _ _=>(0,(((s.1.2.length:Int),Uf 0 s.1.2),()))) [] rfl (by omega) rfl (λm h=>by
  simp only;rw[re,Sd,<- h];simp[Uf]) (λi rs ls m hd c hi h=>by
   refine⟨m++(if rs.length=2 then[(i:Int)]else[]),?_,?_,rfl⟩
   ·simp only;rw[rl hi,TB,UY,Tq c,UD]
    have f:m.length<=1000:=by
     have b:=congrArg mR h;have d:=WU s.1.2 0;rw[hI]at b;omega
    by_cases b:rs.length=2
    ·rw[zy (by omega),zy b,VG (by simp only[BG,ci,cP];omega),Ui c (by omega)];rfl
    ·rw[zx (by omega),zx b,gs,Ui c (by omega)]
   ·rw[dc];exact h),TW]
def V0(s:UX):List Int->Option Int
 |[]=>zn
 |d::l=>if(Wf zf (λs j=>(WH s.1 j,0)) s d).1=zt then zo d else V0 s l
def Va(s:UX):Int×Int:=if(Ua s).2≠0 then(0,(Ua s).2)else if Uf 0 s.1.2=[]then(0,4)else match V0 s (Uf 0 s.1.2)with
 |some d=>(d,0)
 |none=>(0,9)
theorem VSt.atDue{s:UX}(v:VSt s){d:Int}(h:d∈Uf 0 s.1.2):∃ (j:Job) (n:Nat),bQ s d=zo j/\d=(n:Int)/\j.1=(n:Int)/\JobAt s.1 n j/\n<s.1.2.length:=by
 obtain⟨i,b⟩:=dY (k:=0) h;obtain⟨j,n,e,f,a,c,g⟩:=v.at b;exact⟨j,n,by unfold bQ;rw[b];exact e,f,a,c,g⟩
theorem qn{s:UX}(m:Sm s):Vp s=zo (Va s):=by
 unfold Vp Va;rw[rN m,TW];by_cases a:(Ua s).2=0;rotate_left
 ·rw[zy a,UI,zx a,zy a]
 rw[zx (show ¬ (Ua s).2≠0 by simp[a]),zx (show ¬ (Ua s).2≠0 by simp[a]),UI,zy rfl];have v:=Ue.1 a;have z:(Uf 0 s.1.2).length<=12:=by have:=WU s.1.2 0;have:=v.lev.len;omega
 simp only[Ug,Uc];rw[UD];by_cases b:Uf 0 s.1.2=[]
 ·rw[zy (by rw[b];rfl),zy b]
 rw[zx (by have:=ee.2 b;omega),zx b];obtain⟨T,q⟩:∃ T,T=V0 s (Uf 0 s.1.2):=⟨_,rfl⟩;rw[<- q]
 obtain⟨r,C,u⟩:=Xg (l:=Uf 0 s.1.2) (σ:=Unit) (s:=((0:Int),(zf,((0:Int),(0:Int))))) (λk _=>((0:Int),(zf,((k:Int),(0:Int))))) (λl k _=>V0 s l=T) (λ(r:Nat×((Int×(Bool×(Int×Int)))×Unit))=>r.1=1/\((T=zn/\r.2.1.2.1=zf)\/(∃ d,T=zo d/\r.2.1.2.1=zt/\r.2.1.2.2.2=d)))
  (f:=λs1=>br (Tk s1.2.2.1 ((Uf 0 s.1.2).length:Int)) (λ_=>SW s1.2.2.1 λB=>ix (Uf 0 s.1.2) B λw=>bd (V2 (s,w)) λp=>br (SS p.2 0) (λ_=>zo (.dn ((0,((p.2,(s1.2.1,(s1.2.2.1,0))),()))))) λ_=>bd (VM p.1) λE=>br E (λ_=>zo (.dn ((1,((s1.1,(zt,(s1.2.2.1,w))),()))))) λ_=>zo (.nx ((s1.1,(s1.2.1,(So .i64 s1.2.2.1 1,s1.2.2.2)))))) λ_=>zo (.dn ((1,(s1,())))))
  () rfl (by omega) q.symm (λ_ h=>⟨_,by simp only;rw[re];rfl,rfl,.inl ⟨by rw[<- h];rfl,rfl⟩⟩) (λk d l _ hd i A h=>by
   simp only;obtain⟨j,n,t,G,g,F,b⟩:=v.atDue (bo i);have:=v.lev.len;unfold V0 at h;have x:Wf zf (λs j=>(WH s.1 j,0)) s d=(WH s.1 j,0):=by unfold Wf;rw[zx (show ¬ (Ua s).2≠0 by simp[a]),t]
   have y:Wf z0 (λs j=>((s,(j,(Un s.1 j:Int))),0)) s d=((s,(j,(Un s.1 j:Int))),0):=by unfold Wf;rw[zx (show ¬ (Ua s).2≠0 by simp[a]),t]
   rw[x]at h;rw[rl A,TB,UY,Tq i,eA m,y,TW,UI,zy rfl,dR v.lev g (by omega) _ rfl,TW,UL];by_cases e:WH s.1 j=zt
   ·rw[zy e];rw[zy e]at h;exact .inr ⟨_,rfl,rfl,.inr ⟨d,h.symm,rfl,rfl⟩⟩
   ·rw[zx e];rw[zx e]at h
    exact .inl ⟨(),by rw[Ui i (by omega)],h⟩)
 refine Uw C ?_;obtain⟨u,c⟩:=u;rw[TX,zx (show ¬ r.1=0 by omega),U2,UL];rcases c with⟨c,o⟩|⟨d,c,o,D⟩
 ·rw[zx (by simp[o]),c]
 ·rw[zy o,c,D]
theorem jV{s:UX}(m:Sm s):Zb s=zo (Va s):=by
 unfold Zb Va;rw[fL m,TW];by_cases a:(Ua s).2=0;rotate_left
 ·rw[zy a,UI,zx a,zy a]
 rw[zx (show ¬ (Ua s).2≠0 by simp[a]),zx (show ¬ (Ua s).2≠0 by simp[a]),UI,zy rfl];have v:=Ue.1 a;have o:(Uf 0 s.1.2).length<=12:=by have:=WU s.1.2 0;have:=v.lev.len;omega
 simp only[Ug,Uc];rw[UD];by_cases b:Uf 0 s.1.2=[]
 ·rw[zy (by rw[b];rfl),zy b]
 rw[zx (by have:=ee.2 b;omega),zx b];obtain⟨T,n⟩:∃ T,T=V0 s (Uf 0 s.1.2):=⟨_,rfl⟩;rw[<- n]
 obtain⟨r,u,c⟩:=Xg (l:=Uf 0 s.1.2) (σ:=Unit) (s:=((0:Int),((0:Int),(0:Int)))) (λk _=>((0:Int),((0:Int),(k:Int)))) (λl k _=>V0 s l=T) (λ(r:Nat×((Int×(Int×Int))×Unit))=>(r.1=1/\T=zn)\/(r.1=0 /\ ∃ d,T=zo d/\r.2.1.2.1=d/\r.2.1.1=0))
  (f:=λs1=>br (Tk s1.2.2 ((Uf 0 s.1.2).length:Int)) (λ_=>SW s1.2.2 λq=>ix (Uf 0 s.1.2) q λz=>bd (Xn (s,z)) λy=>br y.1 (λ_=>SW s1.2.2 λt=>ix (Uf 0 s.1.2) t λA=>zo (.dn ((0,((0,(A,s1.2.2)),()))))) λ_=>zo (.nx ((s1.1,(s1.2.1,So .i64 s1.2.2 1))))) λ_=>zo (.dn ((1,(s1,())))))
  () rfl (by omega) n.symm (λ_ h=>⟨_,by simp only;rw[re];rfl,.inl ⟨rfl,by rw[<- h];rfl⟩⟩) (λk d l _ hd g p h=>by
   simp only;unfold V0 at h;rw[rl p,TB,UY,Tq g,dm m,TW,UL,UY,Tq g];by_cases e:(Wf zf (λs j=>(WH s.1 j,0)) s d).1=zt
   ·rw[zy e];rw[zy e]at h;exact .inr ⟨_,rfl,.inr ⟨rfl,d,h.symm,rfl,rfl⟩⟩
   ·rw[zx e];rw[zx e]at h
    exact .inl ⟨(),by rw[Ui g (by omega)],h⟩)
 refine Uw u ?_;rw[TX];rcases c with⟨c,i⟩|⟨c,d,i,w,x⟩
 ·rw[zx (show ¬ r.1=0 by omega),i]
 ·rw[zy c,i,w,x]
end
section
open Go Sv
theorem rB{β:Type}(k:Unit->Option β):gd zt k=k ():=rfl
def Ud(l:List (List Uy))(i:Nat):List Uy:=(l[i]?).getD []
def ZW(l:List (List Uy)):Nat->Nat
 |0=>0
 |k+1=>if Ud l k=[]then ZW l k else k+1
def ZP(l:List (List Uy))(n:Nat):List (List Uy):=l++yk (n+1-l.length) []
def Xi(l:List (List Uy))(n:Nat)(r:List Uy):List (List Uy):=(ZP l n).set n r
def Yw(l:List (List Uy)):List (List Uy):=l.take (ZW l l.length)
def VY(L:Ub)(n:Nat)(r:List Uy):Ub:=(L.1,Yw (Xi L.2 n r))
theorem dU(l:List (List Uy)):∀ k,ZW l k<=k
 |0=>ed _
 |k+1=>by
  unfold ZW;split
  ·exact Nat.le_succ_of_le (dU l k)
  ·exact ed _
theorem bx(l:List (List Uy)):∀ {k i:Nat},ZW l k<=i->i<k->Ud l i=[]
 |0,_,_,h=>by omega
 |k+1,i,h1,h2=>by
  unfold ZW at h1;split at h1
  ·rename_i a;by_cases hi:i=k
   ·rw[hi];exact a
   ·exact bx l h1 (by omega)
  ·omega
theorem cr(l:List (List Uy)):∀ {k m:Nat},ZW l k=m+1->Ud l m≠[]
 |0,m,h=>by cases h
 |k+1,m,h=>by
  unfold ZW at h;split at h
  ·exact cr l h
  ·rename_i a;have:m=k:=by omega
   rw[this];exact a
theorem dD(l:List (List Uy))(i:Nat):Ud (Yw l) i=Ud l i:=by
 unfold Yw;by_cases h:i<ZW l l.length
 ·unfold Ud;rw[p8,zy h]
 ·have a:Ud (l.take (ZW l l.length)) i=[]:=by
   unfold Ud;rw[p8,zx h];rfl
  rw[a];by_cases b:i<l.length
  ·exact(bx l (by omega) b).symm
  ·unfold Ud;rw[a9 (by omega)];rfl
theorem iW(l:List (List Uy)):(Yw l).getLast? ≠ zo []:=by
 have b:(Yw l).length=ZW l l.length:=by
  have:=dU l l.length;unfold Yw;rw[ta];omega
 cases hd:ZW l l.length with
 |zero=>
  have:Yw l=[]:=List.length_eq_zero_iff.1 (by rw[b,hd]);rw[this];simp
 |succ m=>
  have c:=cr l hd;rw[pg,b,hd];intro d;have a:Ud (Yw l) m=[]:=by unfold Ud;rw[show m=m+1-1 by omega,d];rfl
  rw[dD]at a;exact c a
theorem Z4(l:List (List Uy))(n:Nat):(ZP l n).length=max l.length (n+1):=by
 unfold ZP;simp;omega
theorem ez(l:List (List Uy))(n i:Nat):Ud (ZP l n) i=Ud l i:=by
 unfold Ud ZP;by_cases h:i<l.length
 ·rw[List.getElem?_append_left h]
 ·rw[List.getElem?_append_right (by omega),List.getElem?_replicate,a9 (l:=l) (by omega)];split<;>rfl
theorem fE(l:List (List Uy))(n i:Nat)(r:List Uy):Ud (Xi l n r) i=if i=n then r else Ud l i:=by
 unfold Xi;by_cases h:i=n
 ·rw[zy h,h];have:=Z4 l n;unfold Ud;rw[List.getElem?_set_self (by omega)];rfl
 ·rw[zx h];unfold Ud;rw[List.getElem?_set_ne (λe=>h e.symm)];exact ez l n i
theorem XM(L:Ub)(n i:Nat)(r:List Uy):Ud (VY L n r).2 i=if i=n then r else Ud L.2 i:=by
 show Ud (Yw _) i=_;rw[dD,fE]
theorem iX(L:Ub)(n:Nat)(r:List Uy):(VY L n r).2.getLast? ≠ zo []:=iW _
theorem kc(L:Ub)(n:Nat)(r:List Uy):(VY L n r).2.length<=max L.2.length (n+1):=by
 show(Yw _).length<=_;unfold Yw;rw[ta];have:(Xi L.2 n r).length=max L.2.length (n+1):=by unfold Xi;rw[ya,Z4]
 omega
theorem jK(l:List (List Uy)):(Yw l).flatten=l.flatten:=by
 have h:l=Yw l++l.drop (ZW l l.length):=(vL _ _).symm
 have a:(l.drop (ZW l l.length)).flatten=[]:=by
  rw[vg];intro x c;obtain⟨i,hi⟩:=eg c;rw[List.getElem?_drop]at hi;have b:=(a8.1 hi).1;have:=bx l (k:=l.length) (i:=ZW l l.length+i) (by omega) b;unfold Ud at this;rw[hi]at this;exact this
 conv=>rhs;rw[h,oj,a,gs]
theorem lD(l:List (List Uy))(n:Nat):(ZP l n).flatten=l.flatten:=by
 unfold ZP;rw[oj]
 have:(yk (n+1-l.length) ([]:List Uy)).flatten=[]:=by
  rw[vg];intro x a;exact(List.mem_replicate.1 a).2
 rw[this,gs]
theorem YE(L:Ub)(n:Nat)(r:List Uy):∃ p q,L.2.flatten=p++(Ud L.2 n++q)/\(VY L n r).2.flatten=p++(r++q):=by
 have a:n<(ZP L.2 n).length:=by rw[Z4];omega
 refine⟨((ZP L.2 n).take n).flatten,((ZP L.2 n).drop (n+1)).flatten,?_,?_⟩
 ·rw[<- ez L.2 n n,<- lD L.2 n]
  have:ZP L.2 n=(ZP L.2 n).take n++((ZP L.2 n)[n]::(ZP L.2 n).drop (n+1)):=by
   rw[<- tw a,vL]
  have b:Ud (ZP L.2 n) n=(ZP L.2 n)[n]:=by unfold Ud;rw[co a];rfl
  rw[b]
  conv=>lhs;rw[this]
  rw[oj,lc]
 ·show(Yw (Xi L.2 n r)).flatten=_;rw[jK];unfold Xi;rw[List.set_eq_take_append_cons_drop,zy a,oj,lc]
theorem VLev.own{L:Ub}(v:VLev L)(i:Nat):(Ud L.2 i).length<=2 /\ ∀ r∈Ud L.2 i,VR (VJ L.1 i) r:=by
 unfold Ud;cases h:L.2[i]? with
 |none=>exact⟨by simp,λr a=>by cases a⟩
 |some rs=>exact v.lev i rs h
theorem VLev.with'{L:Ub}(v:VLev L){n:Nat}(f:n<12){r:List Uy}(d:r.length<=2)(e:∀ x∈r,VR (VJ L.1 n) x)(b:((VY L n r).2.flatten.map sK).Nodup):VLev (VY L n r):=by
 refine⟨v.B1,v.B2,?_,λi rs hi=> ?_,b,iX L n r⟩
 ·have:=kc L n r;have:=v.len;omega
 ·have a:=XM L n i r;unfold Ud at a;rw[hi]at a;simp only[gM]at a;rw[a];split
  ·rename_i c;rw[c];exact⟨d,e⟩
  ·exact v.own i
theorem VLev.leave{L:Ub}(v:VLev L){n:Nat}(c:n<12):VLev (VY L n []):=by
 refine v.with' c (by simp) (λ_ h=>by cases h) ?_
 obtain⟨p,q,a,b⟩:=YE L n [];have:=v.ids;rw[a]at this;rw[b,ox];refine sw.nodup (sw.map _ ?_) this;exact sw.append (sw.refl _) (List.sublist_append_right _ _)
theorem VLev.arrive{L:Ub}(v:VLev L){n:Nat}(g:n<12){x:Uy}(j:(Ud L.2 n).length<2)(i:VR (VJ L.1 n) x)(b:∀ y∈L.2.flatten,y.1≠x.1):VLev (VY L n (Ud L.2 n++[x])):=by
 refine v.with' g (by simp;omega) (λy hy=> ?_) ?_
 ·rcases l6.1 hy with hy|hy
  ·exact(v.own n).2 y hy
  ·rw[q9.1 hy];exact i
 ·obtain⟨p,q,c,d⟩:=YE L n (Ud L.2 n++[x])
  have h:(VY L n (Ud L.2 n++[x])).2.flatten.Perm (x::L.2.flatten):=by
   rw[c,d,dc];refine List.Perm.trans ?_ (List.perm_middle (l₁:=p++Ud L.2 n) (l₂:=q) (a:=x) |>.trans (by rw[dc]));rw[dc];exact List.Perm.refl _
  refine(h.map sK).nodup_iff.2 (oy.2 ⟨λf=> ?_,v.ids⟩);obtain⟨y,hy,e⟩:=o3.1 f;exact b y hy e
theorem Z0{l:List (List Uy)}{x:Uy}:x∈l.flatten <-> ∃ i,x∈Ud l i:=by
 rw[l4];constructor
 ·rintro⟨rs,a,b⟩;obtain⟨i,hi⟩:=eg a;exact⟨i,by unfold Ud;rw[hi];exact b⟩
 ·rintro⟨i,h⟩;unfold Ud at h;cases hi:l[i]? with
  |none=>rw[hi]at h;cases h
  |some rs=>rw[hi]at h;exact⟨rs,bo hi,h⟩
theorem Yl{l:List (List Uy)}{x:Uy}(h:x∈l.flatten):x.1<=XJ l:=by
 have d:∀ (rs:List Uy) (m:Int),m<=rs.foldl (λm r=>UP m r.1) m /\ ∀ x∈rs,x.1<=rs.foldl (λm r=>UP m r.1) m:=by
  intro rs
  induction rs with
  |nil=>intro m;exact⟨by simp,λx hx=>by cases hx⟩
  |cons r rs c=>
   intro m;obtain⟨b,a⟩:=c (UP m r.1);rw[X6]at b a;simp only[iz,X6]at b a ⊢;refine⟨by omega,λx hx=> ?_⟩;rcases ey.1 hx with e|hx
   ·rw[e];omega
   ·exact a x hx
 have two:∀ (ls:List (List Uy)) (m:Int),m<=ls.foldl (λm rs=>rs.foldl (λm r=>UP m r.1) m) m /\ ∀ rs∈ls,∀ x∈rs,x.1<=ls.foldl (λm rs=>rs.foldl (λm r=>UP m r.1) m) m:=by
  intro ls
  induction ls with
  |nil=>intro m;exact⟨by simp,λx hx=>by cases hx⟩
  |cons rs ls c=>
   intro m;obtain⟨b,a⟩:=c (rs.foldl (λm r=>UP m r.1) m);obtain⟨i,g⟩:=d rs m;simp only[iz];refine⟨by omega,λf hrs x hx=> ?_⟩;rcases ey.1 hrs with e|hrs
   ·subst e;have:=g x hx;omega
   ·exact a f hrs x hx
 obtain⟨rs,b,a⟩:=l4.1 h;exact(two l 0).2 rs b x a
end
section
open Go Sv
theorem cu{M:List (List Uy)}{f:Int->Option (LR Int (Nat×(Int×Unit)))}(a:f 0=zo (.dn (0,(0,()))))(hs:∀ k,k<M.length->f ((k+1:Nat):Int)=if Ud M k=[]then zo (.nx (k:Int))else zo (.dn (0,(((k+1:Nat):Int),())))):∀ k,k<=M.length->IX (k+1) f (k:Int)=zo (0,((ZW M k:Nat):Int),())
 |0,_=>U7 a
 |k+1,hk=>by
  have h:=hs k (by omega);unfold ZW;by_cases b:Ud M k=[]
  ·rw[zy b]at h ⊢;rw[U1 h];exact cu a hs k (by omega)
  ·rw[zx b]at h ⊢;exact U7 h
theorem vK(L:List (List Uy))(n:Nat):LU (R5 (max L.length (n+1)) ([]:List Uy)) 0 L (AR (R5 (max L.length (n+1)) ([]:List Uy)))=ZP L n:=by
 have a:AR (R5 (max L.length (n+1)) ([]:List Uy))=max L.length (n+1):=by unfold AR R5;simp
 rw[a];unfold LU ZP R5;rw[List.take_of_length_le (by omega:L.length<=max L.length (n+1))];simp only[List.take_zero,ox,List.drop_replicate,en]
 congr 2
 omega
theorem lK(l:List (List Uy))(n:Nat)(r:List Uy):lset (ZP l n) n r=Xi l n r:=rfl
theorem Wz{l:List (List Uy)}{i:Nat}(h:i<l.length):l[i]?=zo (Ud l i):=by
 unfold Ud;rw[co h];rfl
theorem de{β:Type}(l:List Uy)(x y:Unit->Option β):br (O3 (l.length:Int) 0) x y=if l=[]then x ()else y ():=by
 rw[UD];by_cases h:l=[]
 ·rw[zy h,zy (by rw[h];rfl)]
 ·rw[zx h,zx (by have:=ee.2 h;omega)]
theorem bF{L:Ub}(h:L.2.length<=1000){n:Nat}(i:n<1000)(r:List Uy):Wo (L,((n:Int),r))=zo (VY L n r):=by
 have b:UP (Kx (AR L.2)) (So .i64 (n:Int) 1)=((max L.2.length (n+1):Nat):Int):=by
  rw[Uh (by omega),X6,Ug,Uc];omega
 unfold Wo;simp only[b,UY,vK,lK];have d:(ZP L.2 n).length=max L.2.length (n+1):=Z4 _ _;have j:(Xi L.2 n r).length=max L.2.length (n+1):=by unfold Xi;rw[ya,d]
 rw[VG (by omega),Te,zy (by rw[Uc,d];omega),Tq (Wz (by omega))]
 have c:=cu (M:=Xi L.2 n r) (f:=λa=>br (Ti a 0) (λ_=>SW (Ss .i64 a 1) λe=>gd (KW e (AR (Xi L.2 n r))) λ_=>ix (Xi L.2 n r) e λg=>br (O3 (Kx (AR g)) 0) (λ_=>zo (.nx (Ss .i64 a 1))) λ_=>zo (.dn ((0,(a,()))))) λ_=>zo (.dn ((0,(a,()))))) rfl (λk b=>by
  have hi:Ss .i64 ((k+1:Nat):Int) 1=(k:Int):=by rw[TG (by omega)];omega
  simp only[hi,UY];rw[UF,zy (by omega),Te,zy (by rw[Uc];omega),Tq (Wz b)]
  exact de _ _ _) _ (ed _)
 rw[Ug,show AR (Xi L.2 n r)=(Xi L.2 n r).length from rfl];refine Uw (Vk (by omega) c) ?_;have hd:=dU (Xi L.2 n r) (Xi L.2 n r).length;simp only[UY];rw[VG hd,Td,zy (by omega),TY,zy (by omega),Td,zy (by unfold BG P2;omega)];unfold VY Yw D6 BG P2;simp
end
section
open Go Sv
def db(d:Int)(j:Job):Bool:=O3 d j.1
def VN(js:List Job)(d:Int):Option Job:=js.find? (db d)
def ah(js:List Job):List (Int×Job):=js.map λj=>(j.1,j)
def zJ:Job:=(0,(([],([],([],([],0)))),((zf,([],zf)),([],0))))
def XN(L:Ub)(d:Int):Job:=match Ud L.2 d.toNat with
 |[r0,r1]=>(d,WG r1.2 r0.2 (decide (d=(L.2.length:Int)-1)) 0)
 |_=>zJ
def XV(s:UX)(L:Ub)(a d:Int):Job:=(if d=a then zn else VN s.2.1 d).getD (XN L d)
def Yy(s:UX)(L:Ub)(next a:Int):UX:=(L,((Uf 0 L.2).map (XV s L a),next))
theorem dB(d:Int):∀ js:List Job,Mo (λa b=>O3 a b) (ah js) d=VN js d
 |[]=>rfl
 |j::js=>by
  show(bif O3 d j.1 then zo j else Mo (λa b=>O3 a b) (ah js) d)=(j::js).find? (db d)
  rw[hV,dB d js];show _=match O3 d j.1 with|true=>zo j|false=>VN js d
  cases O3 d j.1<;>rfl
theorem dC{j:Job}:∀ {js:List Job},j.1 ∉ js.map (·.1)->If (λa b=>O3 a b) (ah js) j.1 j=ah (js++[j])
 |[],_=>rfl
 |i::js,h=>by
  show(bif O3 j.1 i.1 then(j.1,j)::ah js else(i.1,i)::If (λa b=>O3 a b) (ah js) j.1 j)=(i.1,i)::ah (js++[j])
  have d:O3 j.1 i.1=zf:=by rw[Wb];simp;intro e;exact h (by simp[e])
  rw[d,zj,dC (λc=>h (by simp at c ⊢;exact .inr c))]
theorem Ze{js:List Job}{d:Int}(h:d ∉ js.map (·.1)):VN js d=zn:=by
 unfold VN;rw[List.find?_eq_none];intro j a;unfold db;rw[Wb];simp only[decide_eq_true_eq];intro e;exact h (by rw[e];exact l5 a)
theorem c0{x d:Int}:∀ {js:List Job},(js.map (·.1)).Nodup->Mo (λa b=>O3 a b) (Ie (λa b=>O3 a b) (ah js) x) d=if d=x then zn else VN js d
 |[],_=>by split<;>rfl
 |j::js,h=>by
  rw[nP,oy]at h;show Mo (λa b=>O3 a b) (bif O3 x j.1 then ah js else(j.1,j)::Ie (λa b=>O3 a b) (ah js) x) d=_
  have f:VN (j::js) d=if d=j.1 then zo j else VN js d:=by
   unfold VN;rw[hV];unfold db;rw[Wb];by_cases e:d=j.1<;>simp[e]
  rw[Wb,f];by_cases c:x=j.1
  ·rw[show decide (x=j.1)=zt by simp[c],zb,dB];by_cases hd:d=x
   ·rw[zy hd];exact Ze (by rw[hd,c];exact h.1)
   ·rw[zx hd,zx (by rw[<- c];exact hd)]
  ·rw[show decide (x=j.1)=zf by simp[c],zj];show(bif O3 d j.1 then zo j else Mo (λa b=>O3 a b) (Ie (λa b=>O3 a b) (ah js) x) d)=_
   rw[c0 h.2,Wb];by_cases hd:d=j.1
   ·rw[show decide (d=j.1)=zt by simp[hd],zb,zy hd,zx (by rw[hd];exact λe=>c e.symm)]
   ·rw[show decide (d=j.1)=zf by simp[hd],zj,zx hd]
theorem VR.vl'{L:Ub}(v:VLev L){n:Nat}{r:Uy}(h:r∈Ud L.2 n):VL r.2:=((v.own n).2 r h).vl
theorem jR(L:Ub)(a:L.2.length<=1000)(n:Nat):WP (L,(n:Int))=zo (decide ((n:Int)=(L.2.length:Int)-1)):=by
 unfold WP;simp only[Ug,Uc];rw[TG (by omega),Wb]
theorem ko{L:Ub}(v:VLev L){n:Nat}(h:(Ud L.2 n).length=2):Yb (L,(n:Int))=zo (XN L n,0):=by
 have d:n<L.2.length:=by
  by_cases e:n<L.2.length
  ·exact e
  ·unfold Ud at h;rw[a9 (by omega)]at h;cases h
 have i:=v.len;obtain⟨f,g⟩:=v.small;unfold Yb;simp only[Ug,Uc];rw[Zf _ f g,XK v,TW,UI,zy rfl,UH,zx (by omega),UE,zx (by omega),UE,zx (by omega),UY,Tq (Wz d),UH,zx (by omega),jR L (by omega) n,TW]
 obtain⟨b,c,a⟩:∃ b c,Ud L.2 n=[b,c]:=by
  match hq:Ud L.2 n with
  |[b,c]=>exact⟨b,c,rfl⟩
  |[]=>rw[hq]at h;cases h
  |[_]=>rw[hq]at h;cases h
  |_::_::_::_=>rw[hq]at h;simp at h
 rw[eB _ (by rw[Wz d,a]) (VR.vl' v (n:=n) (by rw[a];simp)) (VR.vl' v (n:=n) (by rw[a];simp)),TW];unfold XN;rw[bl,a]
theorem YC(i:Nat)(rs:List Uy)(ls:List (List Uy)):Uf i (rs::ls)=(if rs.length=2 then[(i:Int)]else[])++Uf (i+1) ls:=rfl
theorem Zw{s:UX}(f:(s.2.1.map (·.1)).Nodup)(r:s.2.1.length<=1000){L:Ub}(v:VLev L)(next a:Int):Ut (s,(L,(next,a)))=zo (Yy s L next a,0):=by
 have t:=v.len;unfold Ut;simp only[Ug,Uc]
 rw[Vq (l:=s.2.1) (σ:=List (Int×Job)) (s:=((0:Int),([]:List (Int×Job)))) (λi m=>((i:Int),m)) (λls i m=>∃ p,s.2.1=p++ls/\m=ah p) (λ_ _ _=>(0,(((s.2.1.length:Int),ah s.2.1),()))) [] rfl (by omega) ⟨[],rfl,rfl⟩ (λm h=>by
  obtain⟨p,d,rfl⟩:=h
  simp only;rw[re,Sd,d,gs]) (λi x ls m hd b hi h=>by
   obtain⟨p,d,rfl⟩:=h;refine⟨ah (p++[x]),?_,⟨p++[x],by rw[d];simp,rfl⟩,rfl⟩;simp only;rw[rl hi,TB,UY,Tq b,Ui b (by omega),dC];intro g;rw[d,sa,p9]at f
   exact f.2.2 _ g x.1 (by simp) rfl),TW]
 simp only
 rw[Vq (l:=L.2) (σ:=List Job) (s:=((0:Int),((0:Int),(((0:Int),(([]:List (List Uy)),(([]:List Job),(0:Int)))),(L.1,(L.2,(([]:List Job),next))))))) (λi js=>((0:Int),((i:Int),(((0:Int),(([]:List (List Uy)),(([]:List Job),(0:Int)))),(L.1,(L.2,(js,next))))))) (λls i js=>js++(Uf i ls).map (XV s L a)=(Uf 0 L.2).map (XV s L a)) (λ_ _ _=>(0,(((0:Int),((L.2.length:Int),(((0:Int),(([]:List (List Uy)),(([]:List Job),(0:Int)))),(L.1,(L.2,((Uf 0 L.2).map (XV s L a),next)))))),()))) [] rfl (by omega) rfl (λm h=>by
  simp only;rw[re,Sd,<- h];simp[Uf]) (λi rs ls m hd b hi h=>by
   have k:Ud L.2 i=rs:=by unfold Ud;rw[b];rfl
   have o:=(v.own i).1;rw[k]at o;refine⟨m++(if rs.length=2 then[XV s L a i]else[]),?_,?_,rfl⟩
   ·simp only;rw[rl hi,TB,UY,Tq b,UH]
    have g:m.length<=1000:=by
     have c:=congrArg mR h;have q:=WU L.2 0;rw[hI,sr,sr]at c;omega
    by_cases c:rs.length=2;rotate_left
    ·rw[zy (by omega),zx c,gs,Ui b (by omega)]
    rw[zx (by omega),zy c,c0 f];have e:XV s L a i=(if(i:Int)=a then zn else VN s.2.1 i).getD (XN L i):=rfl
    cases n:(if(i:Int)=a then zn else VN s.2.1 (i:Int))with
    |none=>
     rw[n,Option.getD_none]at e;rw[e,ko v (by rw[k];exact c),U2,UL,zx (show ¬ US (zn:Option Job)=zt by simp[US]),TW];simp only;rw[UI,zy rfl,VG (by simp only[BG,ci,cP];omega),Ui b (by omega)];rfl
    |some j=>
     rw[n,gM]at e;rw[e,U2,UL,zy (show US (zo j)=zt from rfl),VG (by simp only[BG,ci,cP];omega),Ui b (by omega)];rfl
   ·rw[dc,<- h,YC,sa]
    congr 2
    split<;>rfl),TW]
 rfl
end
section
open Go Sv
def pS(s:VO):Option YA:=if s.1=zt then zo s.2.1 else zn
theorem Asc.weak:∀ {l:List UZ} {p c:Option YA},(∀ a,c=zo a -> ∃ q,p=zo q/\S4 q a=zf)->Asc p l->Asc c l
 |[],_,_,_,_=>trivial
 |x::l,p,c,h,⟨g,i⟩=>⟨λa b=>by
  obtain⟨q,e,j⟩:=h a b;have d:=g q e;by_cases f:a=q
  ·rw[f];exact d
  ·exact XL (aV j (λe=>f e.symm)) d,i⟩
theorem eK:∀ (l:List UZ) (s:VO),au s l->Asc (pS s) (W0 s l)
 |[],_,_=>trivial
 |x::l,s,⟨_,g,h⟩=>by
  have i:=eK l _ h;have f:Asc (zo x.1) (W0 (zt,(x.1,s.2.2)) l):=i;unfold W0;by_cases c:keep s x=zt
  ·rw[zy c];refine⟨λq d=> ?_,f⟩;unfold pS at d;by_cases b:s.1=zt
   ·rw[zy b]at d;cases d;refine aV (g b) λe=> ?_;unfold keep at c;rw[b,e]at c;simp at c
   ·rw[zx b]at d;cases d
  ·rw[zx c,ox];refine f.weak λj a=>⟨x.1,rfl,?_⟩;unfold pS at a;by_cases b:s.1=zt
   ·rw[zy b]at a;cases a;exact g b
   ·rw[zx b]at a;cases a
theorem eM:∀ {l:List UZ} {s:VO} {x:UZ},x∈W0 s l->x∈l
 |y::l,s,x,h=>by
  unfold W0 at h;rcases l6.1 h with h|h
  ·split at h
   ·rw[q9.1 h];simp
   ·cases h
  ·exact List.mem_cons_of_mem _ (eM h)
theorem i4:∀ {l:List UZ} {s:VO},au s l -> ∀ x∈l,kE x=0
 |y::l,s,⟨a,_,b⟩,x,h=>by
  rcases ey.1 h with e|h
  ·rw[e];exact a
  ·exact i4 b x h
theorem gG{a b:List UZ}(va:VL a)(f:VL b)(c:Bool){k:Nat}(d:k<=a.length+b.length)(j:a.length+b.length<=5000):VL (WG a b c k).2.2.1/\(WG a b c k).2.2.1.length<=a.length+b.length:=by
 have e:=YH va f c d
 have i:(W0 (s0 c) (Uq a b k)).length<=k:=by
  have:=ZG (s0 c) (Uq a b k);rw[Vv va f d]at this;exact this
 have g:(WG a b c k).2.2.1=W0 (s0 c) (Uq a b k):=rfl;rw[g];exact⟨⟨by omega,λx h=>i4 e x (eM h),eK _ _ e⟩,by omega⟩
theorem gD{L:Ub}(v:VLev L){n:Nat}(h:Ud L.2 n≠[]):WW (L,(n:Int))=zo (VY L n [],(Ud L.2 n,0)):=by
 have b:n<L.2.length:=by
  by_cases a:n<L.2.length
  ·exact a
  ·unfold Ud at h;rw[a9 (by omega)]at h;exact absurd rfl h
 have d:=v.len;have c:=(v.own n).1;unfold WW;simp only[Ug,Uc];rw[dj v,TW,zx (by omega),UI,zy rfl,UH,zy (by omega),UY,Tq (Wz b),de,zx h,bF (by omega) (by omega),TW,VG (by omega)]
theorem jP{S β:Type}{f:S->Option (LR S β)}{r:β}(mk:Int->S)(n:Nat){s:S}(b:s=mk ((n:Int)-1))(g:n<1000000)(hs:∀ k,k<n->f (mk (k:Int))=zo (.nx (mk ((k:Int)-1))))(c:f (mk (-1))=zo (.dn r)):loop f s=zo r:=by
 subst b
 have a:∀ k,k<=n->IX (k+1) f (mk ((k:Int)-1))=zo r:=by
  intro k
  induction k with
  |zero=>intro _;exact U7 c
  |succ k d=>
   intro e;have:=hs k (by omega);rw[show((k+1:Nat):Int)-1=(k:Int) by omega,U1 this];exact d (by omega)
 exact Vk (by omega) (a n (ed _))
theorem bV{L:Ub}(v:VLev L){n:Nat}(m:n<12){x:Uy}(p:x.2.length<=1048576)(b:∀ y∈L.2.flatten,y.1≠x.1)(j:(Ud L.2 n).length<2) :
  U5 (L,((n:Int),x))=zo (if kR [] (VJ L.1 n) x≠0 then((0,[]),kR [] (VJ L.1 n) x)else(VY L n (Ud L.2 n++[x]),0)):=by
 have o:=v.len;unfold U5;simp only[Ug,Uc];rw[dj v,TW,zx (by omega),UI,zy rfl,bC v.B1 v.B2 (by omega),cz x _ (by omega),show SR (n:Int) 0=zt by unfold SR;simp];rw[rB,TW,UI];by_cases a:kR [] (VJ L.1 n) x=0;rotate_left
 ·rw[zx a,zy a]
 rw[zy a,zx (by simp[a])]
 rw[Vq (l:=L.2) (σ:=Unit) (s:=((0:Int),(((0:Int),([]:List (List Uy))),(0:Int)))) (λi _=>((i:Int),(((0:Int),([]:List (List Uy))),(0:Int)))) (λ_ _ _=>True) (λ_ _ _=>(0,(((L.2.length:Int),(((0:Int),([]:List (List Uy))),(0:Int))),()))) () rfl (by omega) trivial (λ_ _=>by
  simp only;rw[re];rfl) (λi rs ls _ hd hi c _=>by
   refine⟨(),?_,trivial,rfl⟩;have e:Ud L.2 i=rs:=by unfold Ud;rw[hi];rfl
   have f:=(v.own i).1;rw[e]at f;simp only;rw[rl c,TB,UY,Tq hi,TG (by omega)]
   rw[jP (λk=>(k,(((0:Int),([]:List (List Uy))),(0:Int)))) rs.length rfl (by omega) (λk a=>by
    have h:rs[k]?=zo rs[k]:=co a;have d:rs[k].1≠x.1:=b _ (l4.2 ⟨rs,bo hi,List.getElem_mem a⟩);simp only
    rw[UE,zy (by omega),UY,Tq h,UD,zx d,TG (by omega)]) (r:=(0,(((-1:Int),(((0:Int),([]:List (List Uy))),(0:Int))),()))) rfl,TW]
   rw[Ui hi (by omega)]
   rfl),TW]
 rw[TX,zy rfl,UH];by_cases g:n<L.2.length
 ·rw[zy (by omega),UY,Tq (Wz g),UD,zx (by omega),UY,UY,VG (ed _),Tc,zy rfl,VG (iP _)];have hs:D6 (Ud L.2 n) 0 (Ud L.2 n).length=Ud L.2 n:=by unfold D6;simp
  rw[hs,VG (by simp only[BG,ci,cP];omega),bF (by omega) (by omega),TW];rfl
 ·rw[zx (by omega)];have e:Ud L.2 n=[]:=by unfold Ud;rw[a9 (by omega)];rfl
  rw[VG (by simp),bF (by omega) (by omega),TW,e];rfl
end
end Go.Proofs.YtfceigpbgndbgaaGreatDoor.Pl
