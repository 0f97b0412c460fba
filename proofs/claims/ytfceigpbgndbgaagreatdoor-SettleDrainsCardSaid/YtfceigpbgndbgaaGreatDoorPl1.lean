/- Functions of the program and of the specification as plain functions, and laws about them. No condition. -/
import Derived.Test.YtfceigpbgndbgaaGreatDoorPl0
set_option linter.all false
open List renaming Sublist->s7, append_assoc->eb, append_nil->gs, drop_eq_getElem_cons->ul, drop_zero->tT, find?_cons->hV, flatMap_cons->xo, flatten_append->ox, flatten_cons->li, flatten_eq_nil_iff->vv, foldl_append->xr, foldl_cons->iz, getElem?_eq_getElem->cP, getElem?_eq_none->a9, getElem?_eq_some_iff->a8, getElem?_map->s8, getElem?_of_mem->eo, getElem?_take->q9, getLast?_eq_getElem?->q0, head?->vL, head?_drop->s6, length->mR, length_append->gw, length_cons->ci, length_map->l6, length_nil->co, length_pos_iff->ee, length_set->yb, length_take->tg, map_append->sr, map_cons->ol, mem_append->ml, mem_cons->ey, mem_flatten->kd, mem_map->nb, mem_map_of_mem->l5, mem_of_getElem?->bo, mem_singleton->sa, nil_append->o3, nodup_append->rz, nodup_cons->pg, replicate->ym, tail->tk, tail_drop->rY, take_add_one->gM, take_append_drop->xa, take_length->x8
open Nat renaming le_refl->dc, lt_of_not_le->oy, min_eq_left->tw, sub_zero->l4, zero_add->eg, zero_le->iP
open Int renaming mul_le_mul->yo, toNat_natCast->bl, zero_add->ta
open Option renaming getD_some->hI, map_some->xT
open Bool renaming false_eq_true->lc
open UInt8 renaming lt_iff_toNat_lt->wl
open Prod renaming ext->s9
open Option renaming some->zo, none->zn
open Bool renaming true->zt, false->zf
namespace Go.Proofs.YtfceigpbgndbgaaGreatDoor.Pl
section
open Go Sv
theorem Vy{S β:Type}{f:S->Option (LR S β)}{s0 s1 s2:S}{r:β}(a:f s0=zo (.nx s1))(b:f s1=zo (.nx s2))(c:f s2=zo (.dn r)):loop f s0=zo r:=
 Vn (n:=3) (by omega) ((U1 a).trans ((U1 b).trans (U6 c)))
theorem cD{α β:Type}{c:Bool}{n:Int}{l:List α}{K:Nat->α->Option β}{E:Unit->Option β}(k:Nat){x:α}(hc:c=zt)(b:n=(k:Int))(d:l[k]?=zo x):br c (λ_=>SW n λa=>ix l a λe=>K a e) E=K k x:=by
 subst hc;subst b;rw[TB,UY,Tq d]
theorem XF{α β:Type}{n:Int}{l:List α}{K:Nat->α->Option β}(k:Nat){x:α}(b:n=(k:Int))(c:l[k]?=zo x):SW n (λa=>ix l a λd=>K a d)=K k x:=by
 subst b;rw[UY,Tq c]
theorem YZ{l:List UZ}{i:Nat}(h:i<=l.length):U8 (l,(i:Int))=zo (kx l i):=by
 unfold U8 kx;simp only[Uf,Uc];rw[UD];by_cases hi:i=l.length
 ·rw[zy (by omega),a9 (by omega)]
 ·have a:l[i]?=zo l[i]:=by rw[cP (by omega)]
  rw[zx (by omega),UY,Tq a,a]
section
variable{a b:List UZ}(va:VL a)(vb:VL b)
theorem sf{i j:Nat}(hi:i<=a.length)(c:j<=b.length):Xv ([a,b],[(i:Int),(j:Int)])=zo (Tt (kx a i) (kx b j)):=by
 unfold Xv;refine Ut (x:=(0,((2,[kx a i,kx b j]),()))) (Vy (s1:=(1,[kx a i,([],zf)])) (s2:=(2,[kx a i,kx b j])) ?_ ?_ rfl) ?_
 ·show bd (U8 (a,(i:Int))) _=_;rw[YZ hi];rfl
 ·show bd (U8 (b,(j:Int))) _=_;rw[YZ c];rfl
 ·show bd (WC [kx a i,kx b j]) _=_;rw[bV (VJ _ _) (VJ _ _)];rfl
include va vb
theorem aw:U7 a=zo (0,0):=by
 rw[W9 _ (by have:=va.len;omega),Z3 va]
theorem ae:Wy [a,b]=zo (0,0):=by
 unfold Wy;refine Ut (x:=(1,((0,(0,2)),()))) (Vy (s1:=(0,(0,1))) (s2:=(0,(0,2))) ?_ ?_ rfl) rfl
 ·show bd (U7 a) _=_;rw[aw va va];rfl
 ·show bd (U7 b) _=_;rw[aw vb vb];rfl
theorem kB(c:Bool):YC ([a,b],c)=zo (Sst a b c 0,(0,0)):=by
 unfold YC;rw[ae va vb,TW,UI,zy rfl];refine Ut (x:=(0,((2,[kx a 0,kx b 0]),()))) (Vy (s1:=(1,[kx a 0,([],zf)])) (s2:=(2,[kx a 0,kx b 0])) ?_ ?_ rfl) ?_
 ·show bd (U8 (a,((0:Nat):Int))) _=_;rw[YZ (by omega)];rfl
 ·show bd (U8 (b,((0:Nat):Int))) _=_;rw[YZ (by omega)];rfl
 ·show bd (WC [kx a 0,kx b 0]) _=_;rw[bV (VJ _ _) (VJ _ _)];rfl
end
theorem ZI(x:Bool):Sv.beq x x=zt:=by cases x<;>rfl
theorem Zv(x:YH):seq x x=zt:=by rw[cJ]
theorem gO(l:List Uw)(h:l.length<=1000):Uv (l,l)=zo zt:=by
 unfold Uv;simp only[Uf,Uc]
 rw[UI,zy rfl,bG (l:=l) (σ:=Unit) (s:=(0,zf)) (λk _=>((k:Int),zf)) (λ_ _ _=>zo (1,(((l.length:Int),zf),()))) () rfl (by omega) (λc=>by
  simp only;rw[re];rfl) (λk x m c _ a b=>.inl ⟨(),by
   simp only;rw[rl b,TB,UY,Tq a,UY,Tq a,Zv,ZI,show Hl (OG zt (OG zt zt))=zf from rfl,Sd,Uk a (by omega)],rfl⟩),TW]
 rfl
theorem gN(l:List Int)(h:l.length<=1000):Un (l,l)=zo zt:=by
 unfold Un;simp only[Uf,Uc]
 rw[UI,zy rfl,bG (l:=l) (σ:=Unit) (s:=(0,zf)) (λk _=>((k:Int),zf)) (λ_ _ _=>zo (1,(((l.length:Int),zf),()))) () rfl (by omega) (λc=>by
  simp only;rw[re];rfl) (λk x m c _ a b=>.inl ⟨(),by
   simp only;rw[rl b,TB,UY,Tq a,UY,Tq a,UI,zy rfl,Uk a (by omega)],rfl⟩),TW]
 rfl
theorem j8(t:Wj)(a:t.1.length<=1000)(b:t.2.1.length<=1000):XV (t,t)=zo zt:=by
 unfold XV;rw[UD,zy rfl,gO _ a,TW,TB,gN _ b];rfl
theorem j9(p q:Uw):XV (Tt p q,Tt p q)=zo zt:=j8 _ (show 2<=1000 by omega) (show 2<=1000 by omega)
theorem mX{a b:List UZ}{i j:Nat}(h:Yx a b i j=zt):wk (kx a i) (kx b j)=kx a i/\wn (kx a i) (kx b j)=0:=by
 unfold Yx at h;unfold wk wn;rw[zy h,zy h];exact⟨rfl,rfl⟩
theorem mY{a b:List UZ}{i j:Nat}(h:Yx a b i j=zf):wk (kx a i) (kx b j)=kx b j/\wn (kx a i) (kx b j)=1:=by
 unfold Yx at h;unfold wk wn;rw[zx (by simp[h]),zx (by simp[h])];exact⟨rfl,rfl⟩
theorem ja(x y:YH):WP (x,y)=zo (if S4 x y=zt then -1 else if S4 y x=zt then 1 else 0):=by
 unfold WP Wk;simp only[Zv,Zm,TW,Sd];rw[YI,YI];split
 ·rfl
 ·split<;>rfl
theorem jZ(x y:Int):V0 (x,y)=zo (if x<y then -1 else if x>y then 1 else 0):=by
 unfold V0 Xc;simp only[TW,UI,if_true,UH,UF];split
 ·rfl
 ·split<;>rfl
theorem nL(x y:Int):Yi [x,y]=zo (if x≠0 then x else y):=by
 unfold Yi;by_cases h:x=0
 ·rw[zx (by simp[h])];by_cases a:y=0
  ·refine Ut (x:=(1,((0,2),()))) (Vy (s1:=(0,1)) (s2:=(0,2)) ?_ ?_ rfl) (by rw[a];rfl)
   ·refine(cD 0 rfl rfl rfl).trans ?_;rw[UI,zy h];rfl
   ·refine(cD 1 rfl rfl rfl).trans ?_;rw[UI,zy a];rfl
  ·refine Ut (x:=(0,((y,1),()))) (Vn (n:=2) (by omega) ((U1 (s':=(0,1)) ?_).trans (U6 ?_))) rfl
   ·refine(cD 0 rfl rfl rfl).trans ?_;rw[UI,zy h];rfl
   ·refine(cD 1 rfl rfl rfl).trans ?_;rw[UI,zx a]
 ·rw[zy h];refine Ut (x:=(0,((x,0),()))) (Vn (n:=1) (by omega) (U6 ?_)) rfl;refine(cD 0 rfl rfl rfl).trans ?_;rw[UI,zx h]
section
variable{a b:List UZ}(va:VL a)(vb:VL b)
include va vb
theorem aN{i j:Nat}(I:Inv a b i j):Wx (ao a b i j)=zo (0,0):=by
 unfold Wx;rw[show(ao a b i j).1=[a,b]from rfl,ae va vb,TW,UI,zy rfl];rw[show(ao a b i j).2.1=[(i:Int),(j:Int)]from rfl,UI,zy (show Kx (AR [(i:Int),(j:Int)])=Kx (AR [a,b])from rfl)];refine Ut (x:=(1,((0,(0,2)),()))) (Vy (s1:=(0,(0,1))) (s2:=(0,(0,2))) ?_ ?_ rfl) ?_
 ·refine(cD 0 rfl rfl rfl).trans ?_;rw[UH,zx (by omega),show SW (((0:Int),((0:Int),(0:Int))).2.2)=λ(k:Nat->Option (LR (Int×(Int×Int)) (Nat×((Int×(Int×Int))×Unit))))=>k 0 from rfl];simp only;rw[Tq (x:=a) rfl,UF,zx (by have:=I.ia;simp only[Uf,Uc];omega)];rfl
 ·refine(cD 1 rfl rfl rfl).trans ?_;rw[UH,zx (by omega),show SW (((0:Int),((0:Int),(1:Int))).2.2)=λ(k:Nat->Option (LR (Int×(Int×Int)) (Nat×((Int×(Int×Int))×Unit))))=>k 1 from rfl];simp only;rw[Tq (x:=b) rfl,UF,zx (by have:=I.jb;simp only[Uf,Uc];omega)];rfl
 rw[show neq ((1:Nat),(((0:Int),((0:Int),(2:Int))),())).1 0=zf from rfl,Sd,sf I.ia I.jb,TW,show(ao a b i j).2.2=Tt (kx a i) (kx b j)from rfl,j9,TW,show Hl zt=zf from rfl,Sd,ZF (VJ _ _) (VJ _ _),TW];by_cases hd:(wk (kx a i) (kx b j)).2=zt
 ·rw[zy hd];rfl
 rw[zx hd,UI,zy rfl]
 have r:∀ {x:UZ} {e:Nat},i=e+1->a[e]?=zo x -> ¬ (if(if S4 x.1 (wk (kx a i) (kx b j)).1=zt then(-1:Int)else if S4 (wk (kx a i) (kx b j)).1 x.1=zt then 1 else 0)≠0 then(if S4 x.1 (wk (kx a i) (kx b j)).1=zt then(-1:Int)else if S4 (wk (kx a i) (kx b j)).1 x.1=zt then 1 else 0)else(if(0:Int)<(wn (kx a i) (kx b j):Int)then -1 else if(0:Int)>(wn (kx a i) (kx b j):Int)then 1 else 0))>0:=by
  intro x e hi c
  have o:S4 (wk (kx a i) (kx b j)).1 x.1=zf:=by
   cases g:Yx a b i j with
   |true=>
    rw[(mX g).1]at hd ⊢;unfold kx at hd ⊢;cases d:a[i]? with
    |none=>rw[d]at hd;exact absurd rfl hd
    |some y=>rw[hi]at d;exact V2 (va.lt c d)
   |false=>
    rw[(mY g).1]at hd ⊢;unfold kx at hd ⊢;cases d:b[j]? with
    |none=>rw[d]at hd;exact absurd rfl hd
    |some y=>exact I.pa e hi x y c d
  rw[o];have:¬ (0:Int)>(wn (kx a i) (kx b j):Int):=by omega
  by_cases hs:S4 x.1 (wk (kx a i) (kx b j)).1=zt
  ·simp[hs]
  ·simp only[hs,lc,if_false,ne_eq,not_true,this];split<;>omega
 have s:∀ {y:UZ} {j':Nat},j=j'+1->b[j']?=zo y -> ¬ (if(if S4 y.1 (wk (kx a i) (kx b j)).1=zt then(-1:Int)else if S4 (wk (kx a i) (kx b j)).1 y.1=zt then 1 else 0)≠0 then(if S4 y.1 (wk (kx a i) (kx b j)).1=zt then(-1:Int)else if S4 (wk (kx a i) (kx b j)).1 y.1=zt then 1 else 0)else(if(1:Int)<(wn (kx a i) (kx b j):Int)then -1 else if(1:Int)>(wn (kx a i) (kx b j):Int)then 1 else 0))>0:=by
  intro y j' q d
  have p:S4 y.1 (wk (kx a i) (kx b j)).1=zt:=by
   cases g:Yx a b i j with
   |true=>
    rw[(mX g).1]at hd ⊢;unfold kx at hd ⊢;cases c:a[i]? with
    |none=>rw[c]at hd;exact absurd rfl hd
    |some x=>exact I.pb j' q y x d c
   |false=>
    rw[(mY g).1]at hd ⊢;unfold kx at hd ⊢;cases c:b[j]? with
    |none=>rw[c]at hd;exact absurd rfl hd
    |some x=>rw[q]at c;exact vb.lt d c
  rw[p];simp
 refine Ut (x:=(1,((0,(0,2)),()))) (Vy (s1:=(0,(0,1))) (s2:=(0,(0,2))) ?_ ?_ rfl) rfl
 ·refine(cD 0 rfl rfl rfl).trans ?_;rw[UF];by_cases f:(i:Int)>0
  ·rw[zy f];obtain⟨e,h⟩:∃ e,i=e+1:=⟨i-1,by omega⟩;have l:e<a.length:=by have:=I.ia;omega
   have c:a[e]?=zo a[e]:=by simp[l]
   refine(XF 0 rfl (x:=a) rfl).trans ((XF e ?_ c).trans ?_)
   ·rw[TG (by have:=va.len;have:=I.ia;omega)];omega
   rw[ja,TW];show bd (V0 (0,(wn (kx a i) (kx b j):Int))) _=_;rw[jZ,TW,nL,TW,UF,zx (r h c)];rfl
  ·rw[zx f];rfl
 ·refine(cD 1 rfl rfl rfl).trans ?_;rw[UF];by_cases f:(j:Int)>0
  ·rw[zy f];obtain⟨j',m⟩:∃ j',j=j'+1:=⟨j-1,by omega⟩;have n:j'<b.length:=by have:=I.jb;omega
   have d:b[j']?=zo b[j']:=by simp[n]
   refine(XF 1 rfl (x:=b) rfl).trans ((XF j' ?_ d).trans ?_)
   ·rw[TG (by have:=vb.len;have:=I.jb;omega)];omega
   rw[ja,TW];show bd (V0 (1,(wn (kx a i) (kx b j):Int))) _=_;rw[jZ,TW,nL,TW,UF,zx (s m d)];rfl
  ·rw[zx f];rfl
end
end
section
open Go Sv
theorem YF{l:List UZ}{i:Nat}{x:UZ}(h:l[i]?=zo x):kx l i=(x.1,zf):=by unfold kx;rw[h]
theorem bE{l:List UZ}{i:Nat}(h:l[i]?=zn):kx l i=([],zt):=by unfold kx;rw[h]
theorem cG{l:List UZ}(v:VL l){i:Nat}{x:UZ}(h:l[i]?=zo x):(kx l (i+1)).2=zt\/S4 (kx l (i+1)).1 x.1=zf:=by
 cases a:l[i+1]? with
 |none=>rw[bE a];exact .inl rfl
 |some y=>rw[YF a];exact .inr (V2 (v.lt h a))
theorem aF{α β:Type}{n:Int}{l:List α}{K:Nat->α->Option β}(k:Nat){x:α}(c:n=(k:Int))(b:l[k]?=zo x):SW n (λa=>gd (KW a (AR l)) λ_=>ix l a λd=>K a d)=K k x:=by
 subst c;rw[UY,Te,zy (show k<AR l from(a8.1 b).1),Tq b]
section
variable{a b:List UZ}(va:VL a)(vb:VL b)
include va vb
theorem tY{i j:Nat}(I:Inv a b i j){x:UZ}(c:a[i]?=zo x)(g:Yx a b i j=zt):Vi (ao a b i j)=zo (x,(0,(ao a b (i+1) j,0))):=by
 obtain⟨e,h⟩:=mX g;have hi:=(a8.1 c).1;have l:=va.len;have hd:(wk (kx a i) (kx b j)).2=zf:=by rw[e,YF c]
 obtain⟨m,f⟩:=ZP (p:=kx a i) (q:=kx b j) (k:=kx a (i+1)) (VJ _ _) (VJ _ _) (VJ _ _) hd (by rw[e,YF c];exact cG va c)
 have d:rk (kx a i) (kx b j) (kx a (i+1))=(kx a (i+1),kx b j):=by
  unfold rk;unfold Yx at g;rw[zy g]
 rw[d]at f;unfold Vi;rw[aN va vb I,TW,UI,zy rfl];unfold Ul Us;refine Ut (Z4 (show 2<=1048576 by omega)) (Ut (Z4 (show 2<=1048576 by omega)) ?_);rw[show(ao a b i j).2.2=Tt (kx a i) (kx b j)from rfl,ZF (VJ _ _) (VJ _ _),zx (by simp[hd]),TW,UI,zy rfl,h];refine(aF 0 rfl (x:=a) rfl).trans ((aF 0 rfl (x:=(i:Int)) rfl).trans ((XF i rfl c).trans ((aF 0 rfl (x:=(i:Int)) rfl).trans ((aF 0 rfl (x:=(i:Int)) rfl).trans ((aF 0 rfl (x:=a) rfl).trans ((aF 0 rfl (x:=So .i64 (i:Int) 1) rfl).trans ?_))))));rw[Uh (by omega),YZ (show i+1<=a.length by omega),TW,f,TW];rfl
theorem tZ{i j:Nat}(I:Inv a b i j){y:UZ}(c:b[j]?=zo y)(g:Yx a b i j=zf):Vi (ao a b i j)=zo (y,(1,(ao a b i (j+1),0))):=by
 obtain⟨e,h⟩:=mY g;have hi:=(a8.1 c).1;have l:=vb.len;have hd:(wk (kx a i) (kx b j)).2=zf:=by rw[e,YF c]
 obtain⟨m,f⟩:=ZP (p:=kx a i) (q:=kx b j) (k:=kx b (j+1)) (VJ _ _) (VJ _ _) (VJ _ _) hd (by rw[e,YF c];exact cG vb c)
 have d:rk (kx a i) (kx b j) (kx b (j+1))=(kx a i,kx b (j+1)):=by
  unfold rk;unfold Yx at g;rw[zx (by simp[g])]
 rw[d]at f;unfold Vi;rw[aN va vb I,TW,UI,zy rfl];unfold Ul Us;refine Ut (Z4 (show 2<=1048576 by omega)) (Ut (Z4 (show 2<=1048576 by omega)) ?_);rw[show(ao a b i j).2.2=Tt (kx a i) (kx b j)from rfl,ZF (VJ _ _) (VJ _ _),zx (by simp[hd]),TW,UI,zy rfl,h];refine(aF 1 rfl (x:=b) rfl).trans ((aF 1 rfl (x:=(j:Int)) rfl).trans ((XF j rfl c).trans ((aF 1 rfl (x:=(j:Int)) rfl).trans ((aF 1 rfl (x:=(j:Int)) rfl).trans ((aF 1 rfl (x:=b) rfl).trans ((aF 1 rfl (x:=So .i64 (j:Int) 1) rfl).trans ?_))))));rw[Uh (by omega),YZ (show j+1<=b.length by omega),TW,f,TW];rfl
def aX(a b:List UZ)(n:Nat):WL:=ao a b (pos a b n).1 (pos a b n).2
def dB(a b:List UZ)(n:Nat):Nat:=if Yx a b (pos a b n).1 (pos a b n).2=zt then 0 else 1
theorem cd{n:Nat}{x:UZ}(h:n<a.length+b.length)(c:bx a b n=zo x):Vi (aX a b n)=zo (x,((dB a b n:Int),(aX a b (n+1),0))):=by
 obtain⟨d,hs⟩:=XG va vb (n:=n) (by omega);unfold aX dB;rw[show pos a b (n+1)=if Yx a b (pos a b n).1 (pos a b n).2=zt then((pos a b n).1+1,(pos a b n).2)else((pos a b n).1,(pos a b n).2+1)from rfl]
 unfold bx at c;cases g:Yx a b (pos a b n).1 (pos a b n).2 with
 |true=>rw[zy g]at c;rw[tY va vb d c g];simp
 |false=>rw[zx (by simp[g])]at c;rw[tZ va vb d c g];simp
end
theorem dD{s:VU}(b:s.2.1.length<=32)(a:s.1=zf->s.2.1=[]):XD s=zo 0:=by
 unfold XD;rw[aV,TW,zx (by omega),UI,zy rfl,U4,UL];cases h:s.1 with
 |true=>rfl
 |false=>rw[zx (by simp),U4,W8,zy (a h)]
def keep(s:VU)(x:UZ):Bool:=!(s.1&&decide (x.1=s.2.1)) && !(s.2.2&&x.2.2.1)
theorem ke{s:VU}{x:UZ}(e:s.2.1.length<=32)(f:s.1=zf->s.2.1=[])(g:kE x=0)(a:s.1=zt->S4 x.1 s.2.1=zf):Vv (s,x)=zo (keep s x,((zt,(x.1,s.2.2)),0)):=by
 unfold Vv keep;rw[dD e f,TW,UI,zy rfl,XH,g,TW,UI,zy rfl];obtain⟨s1,s2,c⟩:=s;obtain⟨h,i,d,j⟩:=x;simp only at a ⊢;cases s1 with
 |true=>
  have:=a rfl;simp only[TB,Sd,YI,W8,this,lc,if_false];by_cases b:h=s2
  ·simp[b]
  ·simp only[b,if_false,decide_false];cases c<;>cases d<;>rfl
 |false=>
  simp only[TB,Sd];cases c<;>cases d<;>rfl
def W7:VU->List UZ->List UZ
 |_,[]=>[]
 |s,x::l=>(if keep s x=zt then[x]else[])++W7 (zt,(x.1,s.2.2)) l
theorem ZX:∀ (s:VU) (l:List UZ),(W7 s l).length<=l.length
 |_,[]=>dc _
 |s,x::l=>by
  have:=ZX (zt,(x.1,s.2.2)) l;unfold W7;by_cases h:keep s x=zt
  ·rw[zy h];simp;omega
  ·rw[zx h];simp;omega
def bR:VU->List UZ->Prop
 |_,[]=>True
 |s,x::l=>kE x=0/\(s.1=zt->S4 x.1 s.2.1=zf)/\bR (zt,(x.1,s.2.2)) l
theorem ca{x:UZ}(h:kE x=0):x.1.length<=32:=by
 unfold kE at h;by_cases hh:x.1.length>32\/x.2.1.length>64
 ·rw[zy hh]at h;cases h
 ·omega
theorem Vo{α β σ S:Type}{l:List α}(mk:Nat->σ->S)(Inv:List α->Nat->σ->Prop)(F:List α->Nat->σ->β){f:S->Option (LR S β)}{s:S}(a:σ)(p:s=mk 0 a)(z:l.length<=9223372036854775807)(hi:Inv l 0 a)
  (w:∀ a,Inv [] l.length a->f (mk l.length a)=zo (.dn (F [] l.length a)))
  (hc:∀ k x m a,l.drop k=x::m->l[k]?=zo x->k<l.length->Inv (x::m) k a -> ∃ b,f (mk k a)=zo (.nx (mk (k+1) b))/\Inv m (k+1) b/\F (x::m) k a=F m (k+1) b):loop f s=zo (F l 0 a):=by
 subst p
 have e:∀ (m:List α) (k n:Nat) (a:σ),l.drop k=m->k<=l.length->m.length<n->Inv m k a->IX n f (mk k a)=zo (F m k a):=by
  intro m
  induction m with
  |nil=>
   intro k n a c u d hi;obtain⟨n,rfl⟩:∃ j,n=j+1:=⟨n-1,by omega⟩
   have h:k=l.length:=by
    have:=congrArg mR c;simp at this;omega
   subst h;exact U6 (w a hi)
  |cons x m y=>
   intro k n a c u d hi;obtain⟨n,rfl⟩:∃ j,n=j+1:=⟨n-1,by omega⟩
   have o:l[k]?=zo x:=by
    have:=congrArg vL c;rw[s6]at this;simpa using this
   have g:k<l.length:=(a8.1 o).1
   have i:l.drop (k+1)=m:=by
    have:=congrArg tk c;rw[rY]at this;simpa using this
   obtain⟨b,q,r,t⟩:=hc k x m a c o g hi;rw[U1 q,t];exact y (k+1) n b i (by omega) (by simp at d;omega) r
 exact e l 0 _ a (by simp) (by omega) (by omega) hi
def Vp:VU->List UZ->VU
 |s,[]=>s
 |s,x::l=>Vp (zt,(x.1,s.2.2)) l
theorem d8{β:Type}{out:List UZ}{n:Nat}(h:out.length<=n)(a:n<=20000)(x:UZ)(k:Unit->Option β):gd (CI (BG (AR out) (AR [x])) 1048576) k=k ():=VE (by simp only[BG,AR,ci,co];omega) k
theorem j7{l:List UZ}{b:Bool}(B:l.length<=20000)(A:bR (zf,([],b)) l):Xh (l,b)=zo (W7 (zf,([],b)) l,(0,0)):=by
 unfold Xh WI;simp only[Uf,Uc];rw[UF,zx (by omega),TW]
 rw[Vo (l:=l) (σ:=VU×List UZ) (s:=(0,(0,(0,((zf,([],b)),[]))))) (λk a=>((0:Int),((k:Int),((0:Int),a))))
  (λm k a=>bR a.1 m/\a.1.2.1.length<=32/\(a.1.1=zf->a.1.2.1=[])/\a.2.length<=k/\k+m.length=l.length)
  (λm k a=>(1,((0,((l.length:Int),(0,(Vp a.1 m,a.2++W7 a.1 m)))),()))) ((zf,([],b)),[]) rfl (by omega) ⟨A,by simp,λ_=>rfl,by simp,by simp⟩ ?_ ?_,TW]
 ·simp;rfl
 ·intro a _;simp only;rw[re,Sd];simp[Vp,W7]
 ·rintro k x m ⟨s,out⟩ C r z ⟨⟨d,e,g⟩,i,j,n,o⟩;simp only at d e g i j n ⊢;refine⟨((zt,(x.1,s.2.2)),out++if keep s x=zt then[x]else[]),?_,⟨g,ca d,(λh=>by cases h),?_,by simp at o;omega⟩,?_⟩
  ·rw[rl z,TB,UY,Tq r,dD i j,TW,UI,zy rfl,XH,d,TW,UI,zy rfl];unfold keep U2;obtain⟨s1,s2,t⟩:=s;obtain⟨f,u,c,w⟩:=x;simp only[TW,Uk r (show l.length<=9223372036854775807 by omega)]at e ⊢;have q:∀ {β:Type} (k:Unit->Option β),gd (CI (BG out.length [(f,(u,(c,w)))].length) 1048576) k=k ():=λk=>d8 n (by simp at o;omega) (f,(u,(c,w))) k;cases s1 with
   |true=>
    have y:=e rfl;simp only[TB,Sd,W8,y,q];by_cases p:f=s2
    ·simp[p]
    ·simp only[p,if_false,decide_false];cases t<;>cases c<;>simp[TB,Sd,Iy]
   |false=>
    simp only[TB,Sd,q];cases t<;>cases c<;>simp[TB,Sd,Iy]
  ·split<;>simp<;>omega
  ·simp only[Vp,W7,eb]
end
section
open Go Sv
theorem ew:∀ (l:List UZ) (s:VU) (x:UZ),W7 s (l++[x])=W7 s l++(if keep (Vp s l) x=zt then[x]else[])
 |[],s,x=>by
  show(if keep s x=zt then[x]else[])++[]=[]++(if keep s x=zt then[x]else[])
  rw[gs,o3]
 |y::l,s,x=>by
  show(if keep s y=zt then[y]else[])++W7 _ (l++[x])=((if keep s y=zt then[y]else[])++W7 _ l)++_
  rw[ew l,eb];rfl
theorem aL:∀ (l:List UZ) (s:VU) (x:UZ),Vp s (l++[x])=(zt,(x.1,(Vp s l).2.2))
 |[],s,x=>rfl
 |y::l,s,x=>by simp only[List.cons_append,Vp,aL l]
theorem YG:∀ (l:List UZ) (s:VU),(Vp s l).2.2=s.2.2
 |[],s=>rfl
 |y::l,s=>by rw[Vp,YG l]
theorem fa:∀ (l:List UZ) (s:VU) (x:UZ),bR s l->kE x=0->((Vp s l).1=zt->S4 x.1 (Vp s l).2.1=zf)->bR s (l++[x])
 |[],s,x,_,a,b=>⟨a,b,trivial⟩
 |y::l,s,x,⟨a,b,c⟩,d,h5=>⟨a,b,fa l _ x c d h5⟩
theorem dS:∀ (l:List UZ) (s:VU),bR s l->s.2.1.length<=32->(s.1=zf->s.2.1=[])->(Vp s l).2.1.length<=32/\((Vp s l).1=zf->(Vp s l).2.1=[])
 |[],s,_,h1,h2=>⟨h1,h2⟩
 |y::l,s,⟨a,_,b⟩,_,_=>dS l _ b (ca a) (λh=>by cases h)
abbrev s0(a:Bool):VU:=(zf,([],a))
def WO(a b:List UZ)(c:Bool)(n:Nat):Yh:=(aX a b n,(Vp (s0 c) (Uq a b n),(W7 (s0 c) (Uq a b n),(n:Int))))
def Y5(a b:List UZ):Nat->List Int
 |0=>[]
 |n+1=>Y5 a b n++[(dB a b n:Int)]
theorem bX(a b:List UZ):∀ n,(Y5 a b n).length=n
 |0=>rfl
 |n+1=>by simp[Y5,bX a b n]
theorem Zd{S β:Type}{f:S->Option (LR S β)}{r:β}(mk:Nat->S)(a n:Nat){s:S}(b:s=mk a)(d:a<=n)(e:n<18446744073709551616)(hs:∀ k,a<=k->k<n->f (mk k)=zo (.nx (mk (k+1))))(c:f (mk n)=zo (.dn r)):loop f s=zo r:=by
 have h:=ZA (f:=f) (r:=r) (λk=>mk (a+k)) (n-a) (s:=s) b (by omega) (λk d=>hs (a+k) (by omega) (by omega)) (by show f (mk (a+(n-a)))=_;rw[show a+(n-a)=n by omega];exact c);exact h
theorem cN(l:List UZ)(h:l.length<=100000):XE (l,l)=zo zt:=by
 unfold XE;simp only[Uf,Uc]
 rw[UI,zy rfl,bG (l:=l) (σ:=Unit) (s:=(zf,0)) (λk _=>(zf,(k:Int))) (λ_ _ _=>zo (1,((zf,(l.length:Int)),()))) () rfl (by omega) (λc=>by
  simp only;rw[re];rfl) (λk x m c _ a b=>.inl ⟨(),by
   simp only;rw[rl b,TB,UY,Tq a,UY,Tq a,Zv,Zv,ZI,show O3 x.2.2.2 x.2.2.2=zt by unfold O3;simp,show Hl (OG zt (OG zt (OG zt (OG zt zt))))=zf from rfl,Sd,Uk a (by omega)],rfl⟩),TW]
 rfl
section
variable{a b:List UZ}(va:VL a)(vb:VL b)
include va vb
theorem Xk{n:Nat}{x:UZ}(c:bx a b n=zo x):Uq a b (n+1)=Uq a b n++[x]:=by
 show(match bx a b n with
  |some x=>Uq a b n++[x]
  |none=>Uq a b n)=_
 rw[c]
theorem YN(d:Bool):∀ {n:Nat},n<=a.length+b.length->bR (s0 d) (Uq a b n)
 |0,_=>trivial
 |n+1,h=>by
  obtain⟨x,c,_⟩:=Wh va vb (n:=n) (by omega);rw[Xk va vb c];refine fa _ _ _ (YN d (by omega)) (nK va vb c) λ_=> ?_;cases n with
  |zero=>rename_i f;cases f
  |succ m=>
   obtain⟨y,e,_⟩:=Wh va vb (n:=m) (by omega);rw[Xk va vb e,aL];exact jm va vb (by omega) e c
theorem gT(c:Bool){n:Nat}(h:n<=a.length+b.length):(Vp (s0 c) (Uq a b n)).2.1.length<=32/\((Vp (s0 c) (Uq a b n)).1=zf->(Vp (s0 c) (Uq a b n)).2.1=[]):=
 dS _ _ (YN va vb c h) (by simp) (λ_=>rfl)
theorem uJ{n:Nat}(h:n=a.length+b.length):(wk (kx a (pos a b n).1) (kx b (pos a b n).2)).2=zt:=by
 obtain⟨c,hs⟩:=XG va vb (n:=n) (by omega);have d:=c.ia;have e:=c.jb;rw[bE (a9 (by omega)),bE (a9 (by omega))];rfl
theorem uK{n:Nat}{x:UZ}(c:bx a b n=zo x):(wk (kx a (pos a b n).1) (kx b (pos a b n).2)).2=zf/\wn (kx a (pos a b n).1) (kx b (pos a b n).2)=dB a b n:=by
 unfold bx at c;unfold dB;cases g:Yx a b (pos a b n).1 (pos a b n).2 with
 |true=>rw[zy g]at c;rw[(mX g).1,(mX g).2,YF c];exact⟨rfl,rfl⟩
 |false=>rw[zx (by simp[g])]at c;rw[(mY g).1,(mY g).2,YF c];exact⟨rfl,rfl⟩
theorem tX:ZM [a,b]=zo (Uq a b (a.length+b.length),(Y5 a b (a.length+b.length),0)):=by
 have u:=va.len;have w:=vb.len;unfold ZM;rw[ae va vb,TW,UI,zy rfl];refine Eq.trans (b:=bd (loop _ (0,[([],zf),([],zf)])) _) rfl ?_;refine Ut (x:=(0,((2,[kx a 0,kx b 0]),()))) (Vy (s1:=(1,[kx a 0,([],zf)])) (s2:=(2,[kx a 0,kx b 0])) ?_ ?_ rfl) ?_
 ·show bd (U8 (a,((0:Nat):Int))) _=_;rw[YZ (by omega)];rfl
 ·show bd (U8 (b,((0:Nat):Int))) _=_;rw[YZ (by omega)];rfl
 rw[show((0:Nat),(((2:Int),[kx a 0,kx b 0]),())).2.1.2=[kx a 0,kx b 0]from rfl,bV (VJ _ _) (VJ _ _),TW]
 refine Ut (x:=(0,((Uq a b (a.length+b.length),(Y5 a b (a.length+b.length),((),([((pos a b (a.length+b.length)).1:Int),((pos a b (a.length+b.length)).2:Int)],Tt (kx a (pos a b (a.length+b.length)).1) (kx b (pos a b (a.length+b.length)).2))))),())))
  (Zd (λk=>(Uq a b k,(Y5 a b k,((),([((pos a b k).1:Int),((pos a b k).2:Int)],Tt (kx a (pos a b k).1) (kx b (pos a b k).2)))))) 0 (a.length+b.length) rfl (by omega) (by omega) (λk _ r=> ?_) ?_) rfl
 ·obtain⟨x,c,_⟩:=Wh va vb (n:=k) r;obtain⟨j,s⟩:=uK va vb c;obtain⟨t,hs⟩:=XG va vb (n:=k) (by omega);have h:(Uq a b k).length=k:=V1 va vb (by omega);have i:=bX a b k;simp only;rw[ZF (VJ _ _) (VJ _ _),zx (by simp[j]),TW,UI,zy rfl,s];rw[Xk va vb c];unfold bx at c;rw[show Y5 a b (k+1)=Y5 a b k++[(dB a b k:Int)]from rfl];unfold dB;rw[show pos a b (k+1)=if Yx a b (pos a b k).1 (pos a b k).2=zt then((pos a b k).1+1,(pos a b k).2)else((pos a b k).1,(pos a b k).2+1)from rfl]
  have l:∀ {β:Type} (y:UZ) (q:Unit->Option β),gd (CI (BG (AR (Uq a b k)) (AR [y])) 1048576) q=q ():=λy q=>VE (by simp only[BG,AR,h,ci,co];omega) q;have o:∀ {β:Type} (y:Int) (q:Unit->Option β),gd (CI (BG (AR (Y5 a b k)) (AR [y])) 1048576) q=q ():=λy q=>VE (by simp only[BG,AR,i,ci,co];omega) q;cases g:Yx a b (pos a b k).1 (pos a b k).2 with
  |true=>
   rw[zy g]at c;obtain⟨d,_⟩:=mX g;obtain⟨m,f⟩:=ZP (p:=kx a (pos a b k).1) (q:=kx b (pos a b k).2) (k:=kx a ((pos a b k).1+1)) (VJ _ _) (VJ _ _) (VJ _ _) j (by rw[d,YF c];exact cG va c)
   have e:rk (kx a (pos a b k).1) (kx b (pos a b k).2) (kx a ((pos a b k).1+1))=(kx a ((pos a b k).1+1),kx b (pos a b k).2):=by
    unfold rk;unfold Yx at g;rw[zy g]
   rw[e]at f;have hi:=(a8.1 c).1;simp only[if_true];refine(aF 0 rfl (x:=a) rfl).trans ((aF 0 rfl (x:=((pos a b k).1:Int)) rfl).trans ((XF _ rfl c).trans ?_));rw[l,o];refine(aF 0 rfl (x:=((pos a b k).1:Int)) rfl).trans ((aF 0 rfl (x:=((pos a b k).1:Int)) rfl).trans ((aF 0 rfl (x:=a) rfl).trans ((aF 0 rfl (x:=So .i64 ((pos a b k).1:Int) 1) rfl).trans ?_)));rw[Uh (by omega),YZ (by omega),TW,f,TW];rfl
  |false=>
   rw[zx (by simp[g])]at c;obtain⟨d,_⟩:=mY g;obtain⟨m,f⟩:=ZP (p:=kx a (pos a b k).1) (q:=kx b (pos a b k).2) (k:=kx b ((pos a b k).2+1)) (VJ _ _) (VJ _ _) (VJ _ _) j (by rw[d,YF c];exact cG vb c)
   have e:rk (kx a (pos a b k).1) (kx b (pos a b k).2) (kx b ((pos a b k).2+1))=(kx a (pos a b k).1,kx b ((pos a b k).2+1)):=by
    unfold rk;unfold Yx at g;rw[zx (by simp[g])]
   rw[e]at f;have hi:=(a8.1 c).1;simp only[lc,if_false];refine(aF 1 rfl (x:=b) rfl).trans ((aF 1 rfl (x:=((pos a b k).2:Int)) rfl).trans ((XF _ rfl c).trans ?_));rw[l,o];refine(aF 1 rfl (x:=((pos a b k).2:Int)) rfl).trans ((aF 1 rfl (x:=((pos a b k).2:Int)) rfl).trans ((aF 1 rfl (x:=b) rfl).trans ((aF 1 rfl (x:=So .i64 ((pos a b k).2:Int) 1) rfl).trans ?_)));rw[Uh (by omega),YZ (by omega),TW,f,TW];rfl
 ·simp only;rw[ZF (VJ _ _) (VJ _ _),zy (uJ va vb rfl),TW,UI,zx (by decide),UI,zx (by decide)]
end
end
section
open Go Sv
theorem jf{β:Type}{out:List UZ}{n:Nat}(h:out.length<=n)(a:n<=20000)(x:UZ)(k:Unit->Option β):gd (CI (BG out.length [x].length) 1048576) k=k ():=d8 h a x k
section
variable{a b:List UZ}(va:VL a)(vb:VL b)
include va vb
theorem Yg{n:Nat}(h:n<=a.length+b.length):(Uq a b (a.length+b.length)).take n=Uq a b n:=gX va vb (dc _) h
theorem aC{n:Nat}{x:UZ}(c:Bool)(d:bx a b n=zo x):Vp (s0 c) (Uq a b (n+1))=(zt,(x.1,c)):=by
 rw[Xk va vb d,aL,YG]
theorem gy(c:Bool){n:Nat}(h:n<=a.length+b.length):YD (WO a b c n)=zo 0:=by
 obtain⟨e,hs⟩:=XG va vb (n:=n) h;have i:=va.len;have j:=vb.len;have f:=ZX (s0 c) (Uq a b n);have g:(Uq a b n).length=n:=V1 va vb h;unfold YD;rw[show(WO a b c n).1=ao a b (pos a b n).1 (pos a b n).2 from rfl,aN va vb e,TW,UI,zy rfl];refine Ut (x:=(0,((2,(n:Int)),()))) (Vy (s1:=(1,((pos a b n).1:Int))) (s2:=(2,(n:Int))) ?_ ?_ rfl) ?_
 ·refine(cD 0 rfl rfl (x:=((pos a b n).1:Int)) rfl).trans ?_;show zo (LR.nx ((1:Int),So .i64 0 ((pos a b n).1:Int)))=_;rw[TE (by omega),ta]
 ·refine(cD 1 rfl rfl (x:=((pos a b n).2:Int)) rfl).trans ?_;show zo (LR.nx ((2:Int),So .i64 ((pos a b n).1:Int) ((pos a b n).2:Int)))=_;rw[TE (by omega),show((pos a b n).1:Int)+((pos a b n).2:Int)=(n:Int) by omega]
 simp only[Uf,Uc];rw[show(WO a b c n).2.2.1=W7 (s0 c) (Uq a b n)from rfl,show(WO a b c n).2.2.2=(n:Int)from rfl,show(WO a b c n).2.1=Vp (s0 c) (Uq a b n)from rfl,UF,zx (by omega),UF,zx (by omega),UI,zy rfl];rw[show(ao a b (pos a b n).1 (pos a b n).2).1=[a,b]from rfl,tX va vb,TW,UI,zy rfl,UY];rw[VE (by rw[V1 va vb (dc _)];exact h),VE (iP _)];rw[show D6 (Uq a b (a.length+b.length)) 0 n=Uq a b n from by unfold D6;rw[tT,l4];exact Yg va vb h,YG];rw[show(s0 c).2.2=c from rfl,j7 (by omega) (YN va vb c h),TW,UI,zy rfl];unfold WI;rw[TW,UF];cases n with
 |zero=>
  rw[zx (by omega),cN _ (by omega),TW,Zm,Sd];show br (Hl (OG (Sv.beq zf zf) (OG (seq [] []) (OG (Sv.beq c c) zt)))) _ _=_;rw[ZI,ZI,Zv];rfl
 |succ m=>
  obtain⟨x,d,_⟩:=Wh va vb (n:=m) (by omega);rw[zy (by omega),show Ss .i64 ((m+1:Nat):Int) 1=(m:Int) by rw[TG (by omega)];omega,UY];rw[Tq (x:=x) (by rw[Zf va vb (dc _) (by omega)];exact d),cN _ (by omega),TW,Zm,Sd,aC va vb c d];rw[ZI,ZI,Zv];rfl
theorem nH{n:Nat}(h:n<=a.length+b.length):Yk (aX a b n)=zo (((a.length+b.length-n:Nat):Int),0):=by
 obtain⟨c,hs⟩:=XG va vb (n:=n) h;have f:=va.len;have g:=vb.len;have d:=c.ia;have e:=c.jb;unfold Yk;rw[show aX a b n=ao a b (pos a b n).1 (pos a b n).2 from rfl,aN va vb c,TW,UI,zy rfl];refine Ut (x:=(0,((2,((a.length+b.length-n:Nat):Int)),()))) (Vy (s1:=(1,(a.length:Int)-((pos a b n).1:Int))) (s2:=(2,((a.length+b.length-n:Nat):Int))) ?_ ?_ rfl) rfl
 ·refine(cD 0 rfl rfl (x:=a) rfl).trans ((XF 0 rfl (x:=((pos a b n).1:Int)) rfl).trans ?_);simp only[Uf,Uc];rw[TG (by omega)];show zo (LR.nx ((1:Int),So .i64 0 ((a.length:Int)-((pos a b n).1:Int))))=_;rw[TE (by omega),ta]
 ·refine(cD 1 rfl rfl (x:=b) rfl).trans ((XF 1 rfl (x:=((pos a b n).2:Int)) rfl).trans ?_);simp only[Uf,Uc];rw[TG (by omega)];show zo (LR.nx ((2:Int),So .i64 ((a.length:Int)-((pos a b n).1:Int)) ((b.length:Int)-((pos a b n).2:Int))))=_;rw[TE (by omega),show(a.length:Int)-((pos a b n).1:Int)+((b.length:Int)-((pos a b n).2:Int))=((a.length+b.length-n:Nat):Int) by omega]
theorem bm(c:Bool){n:Nat}(h:n<=a.length+b.length):VK (WO a b c n)=zo (((a.length+b.length-n:Nat):Int),0):=by
 unfold VK;rw[gy va vb c h,TW,UI,zy rfl,show(WO a b c n).1=aX a b n from rfl,nH va vb h];rfl
theorem cM(c:Bool){n:Nat}{x:UZ}(d:bx a b n=zo x):WO a b c (n+1)=(aX a b (n+1),((zt,(x.1,c)),(W7 (s0 c) (Uq a b n)++(if keep (Vp (s0 c) (Uq a b n)) x=zt then[x]else[]),((n+1:Nat):Int)))):=by
 unfold WO;rw[Xk va vb d,aL,YG,ew]
theorem Zw(c:Bool){n:Nat}{x:UZ}(h:n<a.length+b.length)(e:bx a b n=zo x):Vv (Vp (s0 c) (Uq a b n),x)=zo (keep (Vp (s0 c) (Uq a b n)) x,((zt,(x.1,c)),0)):=by
 have d:=gT va vb c (n:=n) (by omega);rw[ke d.1 d.2 (nK va vb e),YG];intro g;cases n with
 |zero=>cases g
 |succ m=>
  obtain⟨y,f,_⟩:=Wh va vb (n:=m) (by omega);rw[aC va vb c f];exact jm va vb (by omega) f e
def wY(k:Int)(s:Yh):Int×(Int×(List (List UZ)×(List Int×(List Uw×(List Int×(Int×(Bool×(YH×(Bool×(List UZ×Int)))))))))):=
 (k,(0,(s.1.1,(s.1.2.1,(s.1.2.2.1,(s.1.2.2.2.1,(s.1.2.2.2.2,(s.2.1.1,(s.2.1.2.1,(s.2.1.2.2,(s.2.2.1,s.2.2.2)))))))))))
theorem di(c:Bool){n:Nat}(h:n<=a.length+b.length){k:Nat}:Vf (WO a b c n,(k:Int))=zo (WO a b c (n+min k (a.length+b.length-n)),(((min k (a.length+b.length-n):Nat):Int),0)):=by
 have w:=va.len;have z:=vb.len;have d:∀ m,m<=a.length+b.length->(W7 (s0 c) (Uq a b m)).length<=m:=λm s=>by have:=ZX (s0 c) (Uq a b m);have:=V1 va vb s;omega
 obtain⟨u,t⟩:∃ u,u=min k (a.length+b.length-n):=⟨_,rfl⟩
 have i:UO (k:Int) ((a.length+b.length-n:Nat):Int)=(u:Int):=by
  unfold UO;split<;>omega
 rw[<- t];unfold Vf;rw[bm va vb c h,TW,UI,zy rfl];simp only[i,Uf,Uc];rw[UH,zx (by omega),show(WO a b c n).2.2.2=(n:Int)from rfl,TE (by omega),UF,zx (by omega)];rw[show(WO a b c n).2.2.1=W7 (s0 c) (Uq a b n)from rfl,show(WO a b c n).1=aX a b n from rfl,VE (by have:=d n h;omega),VE (show(aX a b n).2.1.length<=1048576 from(show 2<=1048576 by omega)),UH];by_cases r:u=0
 ·rw[r,zx (by omega)];rfl
 rw[zy (by omega)];obtain⟨x,o,_⟩:=Wh va vb (n:=n) (by omega);rw[cd va vb (by omega) o,TW,UI,zy rfl,show(WO a b c n).2.1=Vp (s0 c) (Uq a b n)from rfl,Zw va vb c (by omega) o,TW,UI,zy rfl]
 have q:∀ j,1<=j->j<u -> ∃ y,bx a b (n+j)=zo y:=λj f g=>by
  obtain⟨y,e,_⟩:=Wh va vb (n:=n+j) (by omega);exact⟨y,e⟩
 rw[UL];have hS:=cM va vb c o;cases p:keep (Vp (s0 c) (Uq a b n)) x with
 |true=>
  rw[p]at hS;rw[zy rfl,jf (d n h) (by omega)];refine Ut (x:=(1,(wY u (WO a b c (n+u)),()))) (Zd (λj=>wY j (WO a b c (n+j))) 1 u ?_ (by omega) (by omega) (λj f g=> ?_) ?_) ?_
  ·rw[hS,show So .i64 (n:Int) 1=((n+1:Nat):Int)from Uh (by omega)];rfl
  ·obtain⟨y,e⟩:=q j f g;show br (Tk (j:Int) (u:Int)) _ _=_;rw[UH,zy (by omega)];show bd (Vi (aX a b (n+j))) _=_;rw[cd va vb (by omega) e,TW,UI,zy rfl];show bd (Vv (Vp (s0 c) (Uq a b (n+j)),y)) _=_;rw[Zw va vb c (by omega) e,TW,UI,zy rfl,UL,show n+(j+1)=n+j+1 by omega,cM va vb c e];cases l:keep (Vp (s0 c) (Uq a b (n+j))) y with
   |true=>
    rw[zy rfl,zy rfl];show gd (CI (BG (AR (W7 (s0 c) (Uq a b (n+j)))) (AR [y])) 1048576) _=_;rw[d8 (d _ (by omega)) (by omega)];show zo (LR.nx (So .i64 (j:Int) 1,_))=_;unfold wY;simp only[Uh (show j+1<=9223372036854775807 by omega),Iy];rw[show So .i64 (WO a b c (n+j)).2.2.2 1=((n+j+1:Nat):Int)from Uh (by omega)];rfl
   |false=>
    rw[zx (by simp),zx (by simp)];show zo (LR.nx (So .i64 (j:Int) 1,_))=_;unfold wY;simp only[Uh (show j+1<=9223372036854775807 by omega)];rw[show So .i64 (WO a b c (n+j)).2.2.2 1=((n+j+1:Nat):Int)from Uh (by omega),gs];rfl
  ·show br (Tk (u:Int) (u:Int)) _ _=_;rw[UH,zx (by omega)]
  ·rfl
 |false=>
  rw[p]at hS;rw[zx (by simp)];refine Ut (x:=(1,(wY u (WO a b c (n+u)),()))) (Zd (λj=>wY j (WO a b c (n+j))) 1 u ?_ (by omega) (by omega) (λj f g=> ?_) ?_) ?_
  ·rw[hS,show So .i64 (n:Int) 1=((n+1:Nat):Int)from Uh (by omega),zx (by simp),gs];rfl
  ·obtain⟨y,e⟩:=q j f g;show br (Tk (j:Int) (u:Int)) _ _=_;rw[UH,zy (by omega)];show bd (Vi (aX a b (n+j))) _=_;rw[cd va vb (by omega) e,TW,UI,zy rfl];show bd (Vv (Vp (s0 c) (Uq a b (n+j)),y)) _=_;rw[Zw va vb c (by omega) e,TW,UI,zy rfl,UL,show n+(j+1)=n+j+1 by omega,cM va vb c e];cases l:keep (Vp (s0 c) (Uq a b (n+j))) y with
   |true=>
    rw[zy rfl,zy rfl];show gd (CI (BG (AR (W7 (s0 c) (Uq a b (n+j)))) (AR [y])) 1048576) _=_;rw[d8 (d _ (by omega)) (by omega)];show zo (LR.nx (So .i64 (j:Int) 1,_))=_;unfold wY;simp only[Uh (show j+1<=9223372036854775807 by omega),Iy];rw[show So .i64 (WO a b c (n+j)).2.2.2 1=((n+j+1:Nat):Int)from Uh (by omega)];rfl
   |false=>
    rw[zx (by simp),zx (by simp)];show zo (LR.nx (So .i64 (j:Int) 1,_))=_;unfold wY;simp only[Uh (show j+1<=9223372036854775807 by omega)];rw[show So .i64 (WO a b c (n+j)).2.2.2 1=((n+j+1:Nat):Int)from Uh (by omega),gs];rfl
  ·show br (Tk (u:Int) (u:Int)) _ _=_;rw[UH,zx (by omega)]
  ·rfl
end
end
section
open Go Sv
theorem Xj{α β σ S:Type}{l:List α}(mk:Nat->σ->S)(I:List α->Nat->σ->Prop)(Q:β->Prop){f:S->Option (LR S β)}{s:S}(a:σ)(t:s=mk 0 a)(z:l.length<=9223372036854775807)(hi:I l 0 a)
  (w:∀ a,I [] l.length a -> ∃ r,f (mk l.length a)=zo (.dn r)/\Q r)
  (hc:∀ k x m a,l.drop k=x::m->l[k]?=zo x->k<l.length->I (x::m) k a->(∃ b,f (mk k a)=zo (.nx (mk (k+1) b))/\I m (k+1) b) \/ ∃ r,f (mk k a)=zo (.dn r)/\Q r):∃ r,loop f s=zo r/\Q r:=by
 subst t
 have h:∀ (m:List α) (k n:Nat) (a:σ),l.drop k=m->k<=l.length->m.length<n->I m k a -> ∃ r,IX n f (mk k a)=zo r/\Q r:=by
  intro m
  induction m with
  |nil=>
   intro k n a e u g hi;obtain⟨n,rfl⟩:∃ j,n=j+1:=⟨n-1,by omega⟩
   have o:k=l.length:=by
    have:=congrArg mR e;simp at this;omega
   subst o;obtain⟨r,c,d⟩:=w a hi;exact⟨r,U6 c,d⟩
  |cons x m y=>
   intro k n a e u g hi;obtain⟨n,rfl⟩:∃ j,n=j+1:=⟨n-1,by omega⟩
   have q:l[k]?=zo x:=by
    have:=congrArg vL e;rw[s6]at this;simpa using this
   have i:k<l.length:=(a8.1 q).1
   have p:l.drop (k+1)=m:=by
    have:=congrArg tk e;rw[rY]at this;simpa using this
   rcases hc k x m a e q i hi with⟨b,c,d⟩|⟨r,c,d⟩
   ·rw[U1 c];exact y (k+1) n b p (by omega) (by simp at g;omega) d
   ·exact⟨r,U6 c,d⟩
 exact h l 0 _ a (by simp) (by omega) (by omega) hi
theorem Zc{α:Type}(l m:List α)(g:l.length=m.length)(j:l.length<=9223372036854775806){f:(Int×Bool)->Option (LR (Int×Bool) (Nat×((Int×Bool)×Unit)))}
  (hs:∀ (k:Nat) x y,l[k]?=zo x->m[k]?=zo y->(x=y->f ((k:Int),zf)=zo (.nx (((k+1:Nat):Int),zf)))/\(x≠y->f ((k:Int),zf)=zo (.dn (0,(((k:Int),zf),())))))
  (d:f ((l.length:Int),zf)=zo (.dn (1,(((l.length:Int),zf),())))) :
  ∃ r,loop f (0,zf)=zo r/\((l=m/\r.1=1)\/(l≠m/\r.1=0/\r.2.1.2=zf)):=by
 refine Xj (l:=l) (σ:=Unit) (λk _=>((k:Int),zf)) (λt k _=>t=l.drop k/\l.take k=m.take k) _ () rfl (by omega) ⟨by simp,by simp⟩ (λi h=> ?_) (λk x t i hd b n h=> ?_)
 ·refine⟨_,d,.inl ⟨?_,rfl⟩⟩;have:=h.2;rw[x8,g,x8]at this;exact this
 ·have c:k<m.length:=by omega
  have a:m[k]?=zo m[k]:=by simp[c]
  by_cases e:x=m[k]
  ·refine .inl ⟨(),(hs k x m[k] b a).1 e,?_,?_⟩
   ·have:=congrArg tk hd;rw[rY]at this;simp at this;exact this.symm
   ·rw[gM,gM,h.2,b,a,e]
  ·refine .inr ⟨_,(hs k x m[k] b a).2 e,.inr ⟨?_,rfl,rfl⟩⟩;intro e2;subst e2;rw[b]at a;exact e (Option.some.inj a)
theorem beq_eq(a b:Bool):Sv.beq a b=decide (a=b):=by cases a<;>cases b<;>rfl
theorem V7(a b:Int):O3 a b=decide (a=b):=by
 unfold O3;by_cases h:a=b<;>simp[h]
theorem Zl(p q:Prop)[Decidable p][Decidable q]:OG (decide p) (decide q)=decide (p/\q):=by unfold OG;simp
theorem Vr(p:Prop)[Decidable p]:Hl (decide p)=decide (¬ p):=by unfold Hl;simp
theorem au(a:Bool):OG a zt=a:=by cases a<;>rfl
theorem kF(l m:List Uw)(s:l.length<=9223372036854775806):Uv (l,m)=zo (decide (l=m)):=by
 unfold Uv;simp only[Uf,Uc];rw[UI];by_cases b:(l.length:Int)=(m.length:Int)
 ·rw[zy b];have c:l.length=m.length:=by omega
  obtain⟨r,p,a⟩:=Zc l m c s (f:=λs0=>br (Tk s0.1 (l.length:Int)) (λ_=>SW s0.1 λt=>ix l t λn=>SW s0.1 λw=>ix m w λo=>br (Hl (OG (seq n.1 o.1) (OG (Sv.beq n.2 o.2) zt))) (λ_=>zo (.dn ((0,((s0.1,zf),()))))) λ_=>zo (.nx (So .i64 s0.1 1,s0.2))) λ_=>zo (.dn ((1,(s0,()))))) (λk x y d j=>by
    have i:=(a8.1 d).1
    have g:∀ {β:Type} (u v:Unit->Option β),br (Hl (OG (seq x.1 y.1) (OG (Sv.beq x.2 y.2) zt))) u v=if x=y then v ()else u ():=by
     intro β u v;rw[au,am,beq_eq,Zl,Vr,V3];by_cases e:x=y
     ·subst e;simp
     ·rw[zy (λh=>e (s9 h.1 h.2)),zx e]
    constructor
    ·intro e;simp only;rw[rl i,TB,UY,Tq d,UY,Tq j,g,zy e,Uh (by omega)]
    ·intro e;simp only
     rw[rl i,TB,UY,Tq d,UY,Tq j,g,zx e]) (by simp only;rw[re];rfl)
  refine Ut p ?_;rcases a with⟨e,a⟩|⟨e,a,q⟩
  ·rw[TX,a];simp[e]
  ·rw[TX,a];simp[e,q]
 ·rw[zx b];have:¬ l=m:=λe=>b (by rw[e]);simp[this]
theorem aJ(l m:List Int)(n:l.length<=9223372036854775806):Un (l,m)=zo (decide (l=m)):=by
 unfold Un;simp only[Uf,Uc];rw[UI];by_cases b:(l.length:Int)=(m.length:Int)
 ·rw[zy b];have c:l.length=m.length:=by omega
  obtain⟨r,i,a⟩:=Zc l m c n (f:=λs0=>br (Tk s0.1 (l.length:Int)) (λ_=>SW s0.1 λo=>ix l o λq=>SW s0.1 λp=>ix m p λs=>br (SS q s) (λ_=>zo (.dn ((0,((s0.1,zf),()))))) λ_=>zo (.nx (So .i64 s0.1 1,s0.2))) λ_=>zo (.dn ((1,(s0,()))))) (λk x y d h=>by
    have g:=(a8.1 d).1;constructor
    ·intro e;simp only;rw[rl g,TB,UY,Tq d,UY,Tq h,UI,zy e,Uh (by omega)]
    ·intro e;simp only
     rw[rl g,TB,UY,Tq d,UY,Tq h,UI,zx e]) (by simp only;rw[re];rfl)
  refine Ut i ?_;rcases a with⟨e,a⟩|⟨e,a,j⟩
  ·rw[TX,a];simp[e]
  ·rw[TX,a];simp[e,j]
 ·rw[zx b];have:¬ l=m:=λe=>b (by rw[e]);simp[this]
theorem cO{β:Type}(x y:UZ)(u v:Unit->Option β):br (Hl (OG (seq x.1 y.1) (OG (seq x.2.1 y.2.1) (OG (Sv.beq x.2.2.1 y.2.2.1) (OG (O3 x.2.2.2 y.2.2.2) zt))))) u v=if x=y then v ()else u ():=by
 rw[au,am,am,beq_eq,V7,Zl,Zl,Zl,Vr,V3];by_cases e:x=y
 ·subst e;simp
 ·rw[zy (λh=>e (s9 h.1 (s9 h.2.1 (s9 h.2.2.1 h.2.2.2)))),zx e]
theorem Xq(l m:List UZ)(p:l.length<=9223372036854775806):VP (l,m)=zo (decide (l=m)):=by
 unfold VP;simp only[Uf,Uc];rw[UI];by_cases d:(l.length:Int)=(m.length:Int)
 ·rw[zy d];have g:l.length=m.length:=by omega
  obtain⟨r,n,a⟩:=Zc l m g p (f:=λs0=>br (Tk s0.1 (l.length:Int)) (λ_=>SW s0.1 λq=>ix l q λb=>SW s0.1 λs=>ix m s λc=>br (Hl (OG (seq b.1 c.1) (OG (seq b.2.1 c.2.1) (OG (Sv.beq b.2.2.1 c.2.2.1) (OG (O3 b.2.2.2 c.2.2.2) zt))))) (λ_=>zo (.dn ((0,((s0.1,zf),()))))) λ_=>zo (.nx (So .i64 s0.1 1,s0.2))) λ_=>zo (.dn ((1,(s0,()))))) (λk x y h j=>by
    have i:=(a8.1 h).1;constructor
    ·intro e;simp only;rw[rl i,TB,UY,Tq h,UY,Tq j,cO,zy e,Uh (by omega)]
    ·intro e;simp only
     rw[rl i,TB,UY,Tq h,UY,Tq j,cO,zx e]) (by simp only;rw[re];rfl)
  refine Ut n ?_;rcases a with⟨e,a⟩|⟨e,a,o⟩
  ·rw[TX,a];simp[e]
  ·rw[TX,a];simp[e,o]
 ·rw[zx d];have:¬ l=m:=λe=>d (by rw[e]);simp[this]
theorem ZD(l m:List UZ)(a:l.length<=9223372036854775806):Vd (l,m)=zo (decide (l=m)):=by
 unfold Vd;rw[Xq l m a];rfl
instance:DecidableEq UZ:=inferInstance
instance:DecidableEq (List UZ):=inferInstance
instance:DecidableEq (List (List UZ)):=inferInstance
instance:DecidableEq Uw:=inferInstance
instance:DecidableEq Wj:=inferInstance
instance:DecidableEq WL:=inferInstance
instance:DecidableEq VU:=inferInstance
instance:DecidableEq Yh:=inferInstance
theorem fI(x y:Yh)(n:x.1.1.length<=1000)(i:∀ l∈x.1.1,l.length<=1000000)(o:x.1.2.1.length<=1000)(p:x.1.2.2.1.length<=1000)(q:x.1.2.2.2.1.length<=1000)(s:x.2.2.1.length<=1000000):Wi (x,y)=zo (decide (x=y)):=by
 obtain⟨⟨a,E,F,G,M⟩,⟨xs,L,J⟩,I,K⟩:=x;obtain⟨⟨b,N,P,S,Z⟩,⟨X,Y,O⟩,W,U⟩:=y;simp only at n i o p q s;unfold Wi;simp only[Uf,Uc];rw[UI];by_cases g:(a.length:Int)=(b.length:Int)
 ·rw[zy g];have h:a.length=b.length:=by omega
  obtain⟨r,z,d⟩:=Zc a b h (by omega) (f:=λs0=>br (Tk s0.1 (a.length:Int)) (λ_=>SW s0.1 λu=>ix a u λC=>SW s0.1 λw=>ix b w λD=>bd (Vd (C,D)) λB=>br (Hl B) (λ_=>zo (.dn ((0,((s0.1,zf),()))))) λ_=>zo (.nx (So .i64 s0.1 1,s0.2))) λ_=>zo (.dn ((1,(s0,()))))) (λk x y c m=>by
    have j:=(a8.1 c).1;have t:=i x (bo c);constructor
    ·intro e;simp only;rw[rl j,TB,UY,Tq c,UY,Tq m,ZD _ _ (by omega),TW,Vr,V3,zx (by simp[e]),Uh (by omega)]
    ·intro e;simp only
     rw[rl j,TB,UY,Tq c,UY,Tq m,ZD _ _ (by omega),TW,Vr,V3,zy e]) (by simp only;rw[re];rfl)
  refine Ut z ?_;simp only[aJ _ _ (show E.length<=9223372036854775806 by omega),aJ _ _ (show G.length<=9223372036854775806 by omega),kF _ _ (show F.length<=9223372036854775806 by omega),ZD _ _ (show I.length<=9223372036854775806 by omega),TW,V3,V7,am,beq_eq,au,Zl,TX];rw[UL];rcases d with⟨e,d⟩|⟨e,d,A⟩
  ·rw[zx (show ¬ r.1=0 by omega)]
   repeat' split
   all_goals simp_all
  ·rw[zy d,zx (show ¬ r.2.1.2=zt by simp[A])];simp[e]
 ·rw[zx g];have:¬ a=b:=λe=>g (by rw[e]);simp[this]
end
section
open Go Sv
def kR(a:List Int)(most:Int)(r:Uy):Int:=
 if r.1<1\/r.1>1000000 then 7 else if(V4 r.2).2≠0 then(V4 r.2).2 else if r.2.length=0 then 4 else if(r.2.length:Int)>most then 3 else if r.1∈a then 8 else 0
def aS(most:Int):Nat->List Int->List Uy->Option (Nat×Int)
 |_,_,[]=>zn
 |k,ids,r::rs=>if kR ids most r≠0 then zo (k,kR ids most r)else aS most (k+1) (ids++[r.1]) rs
def VD(B:Int)(i:Nat):Int:=B*2 ^ i
def aR(B:Int):Nat->List Int->List (List Uy)->Option (Nat×(Nat×Int))
 |_,_,[]=>zn
 |i,ids,rs::ls=>if rs.length>2 then zo (i,(0,3))else match aS (VD B i) 0 ids rs with
  |some (k,e)=>zo (i,(k,e))
  |none=>aR B (i+1) (ids++rs.map (·.1)) ls
def WM(L:Ub):Int×(Int×Int):=
 if L.1<1\/L.1>16 then(0,(0,7))else if L.2.length>12 then(0,(0,3))else match aR L.1 0 [] L.2 with
  |some (i,(k,e))=>((i:Int),((k:Int),e))
  |none=>if L.2.getLast?=zo []then(((L.2.length-1:Nat):Int),(0,6))else(0,(0,0))
theorem jw{most:Int}:∀ {rs:List Uy} {k:Nat} {a:List Int} {c:Nat} {e:Int},aS most k a rs=zo (c,e)->e≠0
 |[],_,_,_,_,h=>by cases h
 |r::rs,k,a,c,e,h=>by
  unfold aS at h;by_cases b:kR a most r≠0
  ·rw[zy b]at h;cases h;exact b
  ·rw[zx b]at h;exact jw h
theorem eE{B:Int}:∀ {ls:List (List Uy)} {i:Nat} {a:List Int} {d f:Nat} {e:Int},aR B i a ls=zo (d,(f,e))->e≠0
 |[],_,_,_,_,_,h=>by cases h
 |rs::ls,i,a,d,f,e,h=>by
  unfold aR at h;by_cases c:rs.length>2
  ·rw[zy c]at h;cases h;decide
  ·rw[zx c]at h;cases b:aS (VD B i) 0 a rs with
   |none=>rw[b]at h;exact eE h
   |some x=>rw[b]at h;cases h;exact jw b
def dJ(a:List Int):List (Int×Bool):=a.map λi=>(i,zt)
theorem nI(c:List Int)(i:Int):Sy (Mo (λa b=>O3 a b) (dJ c) i) zf=decide (i∈c):=by
 induction c with
 |nil=>rfl
 |cons j c d=>
  show Sy (bif O3 i j then zo zt else Mo (λa b=>O3 a b) (dJ c) i) zf=_
  rw[V7];by_cases h:i=j
  ·simp[h,Sy]
  ·simp only[h,decide_false,zj,ey,false_or];exact d
theorem nJ{c:List Int}{i:Int}(h:i ∉ c):If (λa b=>O3 a b) (dJ c) i zt=dJ (c++[i]):=by
 induction c with
 |nil=>rfl
 |cons j c f=>
  show(bif O3 i j then(i,zt)::dJ c else(j,zt)::If (λa b=>O3 a b) (dJ c) i zt)=_
  rw[V7];have d:¬ i=j:=λe=>h (by simp[e]);rw[f (λe=>h (by simp[e]))];simp only[d,decide_false,zj];rfl
theorem bJ(r:Uy)(b:r.2.length<=9223372036854775807):X9 r=zo (if r.1<1\/r.1>1000000 then(-1,7)else V4 r.2):=by
 unfold X9;rw[UH,UF,W9 _ b,TW];by_cases h:r.1<1
 ·rw[zy h,zy (.inl h)]
 ·rw[zx h];by_cases a:r.1>1000000
  ·rw[zy a,zy (.inr a)]
  ·rw[zx a,zx (by omega)]
theorem dT(r:Uy)(most:Int)(b:r.2.length<=9223372036854775807):WW (r,most)=zo (kR [] most r):=by
 unfold WW kR;rw[bJ r b,TW];simp only[Uf,Uc];by_cases h:r.1<1\/r.1>1000000
 ·rw[zy h,zy h];rfl
 ·rw[zx h,zx h,UI];by_cases a:(V4 r.2).2=0
  ·rw[zy a,zx (by simp[a]),UD,UF]
   repeat' split
   all_goals first|rfl|(exfalso;omega)|simp_all
  ·rw[zx a,zy a]
theorem nC(a:List Int)(most:Int)(r:Uy):kR a most r=if kR [] most r=0 then(if r.1∈a then 8 else 0)else kR [] most r:=by
 unfold kR
 repeat' split
 all_goals simp_all
theorem xQ(i:Nat)(h:i<=12):(2:Int) ^ i<=4096/\1<=(2:Int) ^ i:=by
 have a:(2:Nat) ^ i<=2 ^ 12:=Nat.pow_le_pow_right (by omega) h;have b:1<=(2:Nat) ^ i:=Nat.one_le_two_pow;have c:((2 ^ i:Nat):Int)=(2:Int) ^ i:=by simp
 omega
theorem fy{B:Int}{i:Nat}(a:1<=B)(b:B<=16)(hi:i<=12):1<=VD B i/\VD B i<=65536:=by
 obtain⟨c,d⟩:=xQ i hi;unfold VD;constructor
 ·have:=yo a d (by omega) (by omega);omega
 ·have:=yo b c (by omega) (by omega);omega
theorem bY{B:Int}{i:Nat}(a:1<=B)(b:B<=16)(hi:i<=12):To .i64 B (i:Int)=VD B i:=by
 have c:=fy a b hi;unfold To;rw[show min ((i:Int).toNat) IntKind.i64.bits=i by rw[bl];exact tw (Nat.le_trans hi (by decide))];unfold VD at c ⊢;exact IntWalk.i64_in _ (by omega)
def Q1:Option (Nat×(Nat×Int))->Int->Int->Int->Prop
 |some (i,(k,e)),a,b,c=>a=(k:Int)/\b=(i:Int)/\c=e
 |none,_,_,c=>c=0
def Q2(m:List (Int×Bool)):Option (Nat×Int)->Nat->Int->Int->List (Int×Bool)->Prop
 |some (k,e),r,a,c,_=>r=0/\a=(k:Int)/\c=e
 |none,r,_,c,m'=>r=1/\c=0/\m'=m
theorem Zr(L:Ub)(hb:L.2.length<=1048576)(hr:∀ rs∈L.2,rs.length<=1048576 /\ ∀ r∈rs,r.2.length<=9223372036854775807):WG L=zo (WM L):=by
 unfold WG WM;simp only[Uf,Uc];rw[UH,UF,UF];by_cases z:L.1<1
 ·rw[zy z,zy (.inl z)]
 rw[zx z];by_cases A:L.1>16
 ·rw[zy A,zy (.inr A)]
 rw[zx A,zx (show ¬ (L.1<1\/L.1>16) by omega)];by_cases hl:(L.2.length:Int)>12
 ·rw[zy hl,zy (by omega)]
 rw[zx hl,zx (by omega)];have hl2:L.2.length<=12:=by omega
 obtain⟨T,I⟩:∃ T,T=aR L.1 0 [] L.2:=⟨_,rfl⟩;rw[<- I]
 have C:∀ W:Int,W=0->T=zn->(br (SS W 0) (λ_=>(zn:Option (Int×(Int×Int)))) λ_=>br (Ti (L.2.length:Int) 0) (λ_=>SW (Ss .i64 (L.2.length:Int) 1) λO=>ix L.2 O λX=>br (O3 (X.length:Int) 0) (λ_=>zo ((Ss .i64 (L.2.length:Int) 1,(0,6)))) λ_=>zo ((0,(0,0)))) λ_=>zo ((0,(0,0))))=zo (if L.2.getLast?=zo []then(((L.2.length-1:Nat):Int),(0,6))else(0,(0,0))):=by
  intro W o _;rw[UI,zy o,UF];by_cases hn:L.2=[]
  ·rw[hn];rfl
  ·have hp:=ee.2 hn;rw[zy (by omega),show Ss .i64 (L.2.length:Int) 1=((L.2.length-1:Nat):Int) by rw[TG (by omega)];omega,UY,q0];have n:L.2[L.2.length-1]?=zo (L.2[L.2.length-1]'(by omega)):=by simp
   rw[Tq n,n,UD];by_cases N:L.2[L.2.length-1]'(by omega)=[]
   ·rw[N];simp
   ·rw[zx (by have:=ee.2 N;omega),zx (by simp[N])]
 obtain⟨r,S,b⟩:=Xj (l:=L.2) (σ:=Int×(Int×List Int)) (λi j=>(j.1,(j.2.1,((0:Int),((i:Int),dJ j.2.2)))))
  (λm i j=>aR L.1 i j.2.2 m=T) (λ(r:Nat×((Int×(Int×(Int×(Int×List (Int×Bool)))))×Unit))=>Q1 T r.2.1.1 r.2.1.2.1 r.2.1.2.2.1)
  (f:=λs0=>br (Tk s0.2.2.2.1 (L.2.length:Int)) (λ_=>SW s0.2.2.2.1 λk1=>ix L.2 k1 λY=>br (Ti (Y.length:Int) 2) (λ_=>zo (.dn ((0,((0,(s0.2.2.2.1,(3,s0.2.2.2))),()))))) λ_=>bd (loop (λa=>br (Tk a.2.1 (Y.length:Int)) (λ_=>SW a.2.1 λP=>ix Y P λp=>gd (SR s0.2.2.2.1 0) λ_=>bd (WW (p,To .i64 L.1 s0.2.2.2.1)) λg=>br (O3 g 0) (λ_=>br (Sy (Mo ((λJ=>(λK=>O3 J K))) a.2.2.2 p.1) zf) (λ_=>zo (.dn ((0,((a.2.1,(a.2.1,(8,a.2.2.2))),()))))) λ_=>br (SS g 0) (λ_=>zo (.dn ((0,((a.2.1,(a.2.1,(g,a.2.2.2))),()))))) λ_=>zo (.nx ((a.2.1,(So .i64 a.2.1 1,(g,If ((λM=>(λw=>O3 M w))) a.2.2.2 p.1 zt)))))) λ_=>br (SS g 0) (λ_=>zo (.dn ((0,((a.2.1,(a.2.1,(g,a.2.2.2))),()))))) λ_=>zo (.nx ((a.2.1,(So .i64 a.2.1 1,(g,If ((λx=>(λy=>O3 x y))) a.2.2.2 p.1 zt)))))) λ_=>zo (.dn ((1,(a,()))))) ((0,(0,(s0.2.2.1,s0.2.2.2.2))))) λd=>br (neq d.1 0) (λ_=>zo (.dn ((0,((d.2.1.1,(s0.2.2.2.1,(d.2.1.2.2.1,(s0.2.2.2.1,d.2.1.2.2.2)))),()))))) λ_=>zo (.nx ((d.2.1.1,(s0.2.2.2.1,(d.2.1.2.2.1,(So .i64 s0.2.2.2.1 1,d.2.1.2.2.2))))))) λ_=>zo (.dn ((0,(s0,())))))
  (s:=(0,(0,(0,(0,[]))))) (0,(0,[])) rfl (by omega) I.symm (λj h=>by
   refine⟨_,by simp only;rw[re];rfl,?_⟩;simp only at h ⊢;rw[<- h];exact rfl) (λi rs m j hd n hi h=>by
   obtain⟨s1,s2,c⟩:=j;simp only at h ⊢;obtain⟨hrs1,F⟩:=hr rs (bo n);rw[rl hi,TB,UY,Tq n,UF];unfold aR at h;by_cases Z:rs.length>2
   ·rw[zy (by omega)];rw[zy Z]at h;refine .inr ⟨_,rfl,?_⟩;rw[<- h];exact⟨rfl,rfl,rfl⟩
   rw[zx (by omega)];rw[zx Z]at h;obtain⟨U,hU⟩:∃ U,U=aS (VD L.1 i) 0 c rs:=⟨_,rfl⟩;rw[<- hU]at h
   obtain⟨r,S,b⟩:=Xj (l:=rs) (σ:=Int) (λk j=>(j,((k:Int),((0:Int),dJ (c++(rs.take k).map (·.1))))))
    (λm k _=>aS (VD L.1 i) k (c++(rs.take k).map (·.1)) m=U) (λ(r:Nat×((Int×(Int×(Int×List (Int×Bool))))×Unit))=>Q2 (dJ (c++rs.map (·.1))) U r.1 r.2.1.1 r.2.1.2.2.1 r.2.1.2.2.2)
    (f:=λa=>br (Tk a.2.1 (rs.length:Int)) (λ_=>SW a.2.1 λP=>ix rs P λp=>gd (SR (i:Int) 0) λ_=>bd (WW (p,To .i64 L.1 (i:Int))) λg=>br (O3 g 0) (λ_=>br (Sy (Mo ((λJ=>(λK=>O3 J K))) a.2.2.2 p.1) zf) (λ_=>zo (.dn ((0,((a.2.1,(a.2.1,(8,a.2.2.2))),()))))) λ_=>br (SS g 0) (λ_=>zo (.dn ((0,((a.2.1,(a.2.1,(g,a.2.2.2))),()))))) λ_=>zo (.nx ((a.2.1,(So .i64 a.2.1 1,(g,If ((λM=>(λw=>O3 M w))) a.2.2.2 p.1 zt)))))) λ_=>br (SS g 0) (λ_=>zo (.dn ((0,((a.2.1,(a.2.1,(g,a.2.2.2))),()))))) λ_=>zo (.nx ((a.2.1,(So .i64 a.2.1 1,(g,If ((λx=>(λy=>O3 x y))) a.2.2.2 p.1 zt)))))) λ_=>zo (.dn ((1,(a,())))))
    (s:=(0,(0,(0,dJ c)))) 0 (by simp) (by omega) (by simp[hU]) (λj h=>by
     refine⟨_,by simp only;rw[re];rfl,?_⟩;rw[<- h];exact⟨rfl,rfl,by simp⟩) (λk r m j hd n hk h=>by
     simp only at h ⊢;have hr2:=F r (bo n);have G:(rs.take (k+1)).map (·.1)=(rs.take k).map (·.1)++[r.1]:=by rw[gM,n];simp
     rw[rl hk,TB,UY,Tq n,show gd (SR (i:Int) 0)=λ(q:Unit->Option (LR (Int×(Int×(Int×List (Int×Bool)))) (Nat×((Int×(Int×(Int×List (Int×Bool))))×Unit))))=>q ()from by unfold SR;simp[gd];rfl,bY (by omega) (by omega) (by omega)];simp only;rw[dT _ _ (by omega),TW,UD,nI,UI];unfold aS at h;rw[nC]at h;by_cases o:kR [] (VD L.1 i) r=0
     ·rw[zy o]at h;rw[zy o,zy o,V3];by_cases E:r.1∈c++(rs.take k).map (·.1)
      ·rw[zy E];rw[zy E,zy (by decide)]at h;refine .inr ⟨_,rfl,?_⟩;rw[<- h];exact⟨rfl,rfl,rfl⟩
      ·rw[zx E];rw[zx E,zx (by decide)]at h;refine .inl ⟨(k:Int),?_,?_⟩
       ·rw[nJ E,o,Uk n (by omega),G,eb]
       ·rw[G,<- eb];exact h
     ·rw[zx o,zy o]at h;rw[zx o,zx o];refine .inr ⟨_,rfl,?_⟩;rw[<- h]
      exact⟨rfl,rfl,rfl⟩)
   rw[S,TW,TX];cases D:U with
   |some u=>
    obtain⟨k,e⟩:=u;rw[D]at b h;rw[zy b.1];refine .inr ⟨_,rfl,?_⟩;rw[<- h];exact⟨b.2.1,rfl,b.2.2⟩
   |none=>
    rw[D]at b h;rw[zx (show ¬ r.1=0 by have:=b.1;omega)];refine .inl ⟨(r.2.1.1,((i:Int),c++rs.map (·.1))),?_,h⟩
    rw[b.2.1,b.2.2,Uk n (by omega)])
 refine Ut S ?_;cases B:T with
 |some t=>
  obtain⟨i,k,e⟩:=t;rw[B]at b I;rw[UI,zx (by rw[b.2.2];exact eE I.symm),b.1,b.2.1,b.2.2]
 |none=>
  rw[B]at b;have h:=C _ b B;have q3:r.2.1.2.2.1=0:=b;rw[UI,zy q3]at h ⊢;exact h
end
section
open Go Sv
structure VR (most:Int) (r:Uy):Prop where
 id1:1<=r.1
 id2:r.1<=1000000
 vl:VL r.2
 ne:r.2≠[]
 le:(r.2.length:Int)<=most
theorem jj{a:List Int}{most:Int}{r:Uy}:kR a most r=0<->VR most r/\r.1 ∉ a:=by
 unfold kR;constructor
 ·intro h;by_cases f:r.1<1\/r.1>1000000
  ·rw[zy f]at h;cases h
  rw[zx f]at h;by_cases b:(V4 r.2).2≠0
  ·rw[zy b]at h;exact absurd h b
  rw[zx b]at h;by_cases c:r.2.length=0
  ·rw[zy c]at h;cases h
  rw[zx c]at h;by_cases g:(r.2.length:Int)>most
  ·rw[zy g]at h;cases h
  rw[zx g]at h;by_cases d:r.1∈a
  ·rw[zy d]at h;cases h
  exact⟨⟨by omega,by omega,ZW.1 (by simpa using b),by intro e;rw[e]at c;exact c rfl,by omega⟩,d⟩
 ·rintro⟨h,d⟩;rw[zx (by have:=h.id1;have:=h.id2;omega),zx (by simp[ZW.2 h.vl]),zx (by have:=ee.2 h.ne;omega),zx (by have:=h.le;omega),zx d]
def jq(r:Uy):Int:=r.1
theorem bj{most:Int}:∀ {rs:List Uy} {k:Nat} {a:List Int},aS most k a rs=zn<->(∀ r∈rs,VR most r/\r.1 ∉ a)/\(rs.map jq).Nodup
 |[],k,a=>by simp[aS]
 |r::rs,k,a=>by
  unfold aS;by_cases h:kR a most r=0
  ·rw[zx (by simp[h]),bj (rs:=rs)];have f:=jj.1 h;simp only[ey,forall_eq_or_imp,ol,pg,ml,List.not_mem_nil,or_false,nb,not_exists,not_and,not_or];constructor
   ·rintro⟨b,d⟩;exact⟨⟨f,λx c=>⟨(b x c).1,(b x c).2.1⟩⟩,λx c e=>(b x c).2.2 e,d⟩
   ·rintro⟨⟨_,b⟩,d,g⟩;exact⟨λx c=>⟨(b x c).1,(b x c).2,d x c⟩,g⟩
  ·rw[zy h];simp only[reduceCtorEq,false_iff,not_and];intro b;exact absurd (jj.2 (b r (by simp))) h
theorem aM{B:Int}:∀ {ls:List (List Uy)} {i:Nat} {c:List Int},aR B i c ls=zn<->(∀ k rs,ls[k]?=zo rs->rs.length<=2 /\ ∀ r∈rs,VR (VD B (i+k)) r/\r.1 ∉ c)/\(ls.flatten.map jq).Nodup
 |[],i,c=>by simp[aR]
 |rs::ls,i,c=>by
  unfold aR;by_cases h:rs.length>2
  ·rw[zy h];simp only[reduceCtorEq,false_iff,not_and];intro j;have:=(j 0 rs rfl).1;omega
  ·rw[zx h];cases g:aS (VD B i) 0 c rs with
   |some x=>
    simp only[reduceCtorEq,false_iff,not_and];intro j l
    have m:aS (VD B i) 0 c rs=zn:=bj.2 ⟨(j 0 rs rfl).2,by
     simp only[li,sr]at l
     exact(rz.1 l).1⟩
    rw[g]at m;cases m
   |none=>
    have q:=bj.1 g;simp only;rw[aM (ls:=ls)];simp only[li,sr,ml,not_or,nb];constructor
    ·rintro⟨j,l⟩;refine⟨λk d n=> ?_,?_⟩
     ·cases k with
      |zero=>cases n;exact⟨by omega,q.1⟩
      |succ k=>
       have m:=j k d n
       exact⟨m.1,λr g=>by
        have:=m.2 r g;rw[show i+(k+1)=i+1+k by omega]
        exact⟨this.1,this.2.1⟩⟩
     ·rw[rz];refine⟨q.2,l,?_⟩;intro a s b t e;subst e;obtain⟨r,g,e1⟩:=nb.1 s;obtain⟨p,f,e2⟩:=nb.1 t;obtain⟨d,o,f⟩:=kd.1 f;obtain⟨k,n⟩:=eo o;exact((j k d n).2 p f).2.2 ⟨r,g,by unfold jq at e1 e2;omega⟩
    ·rintro⟨j,l⟩;rw[rz]at l;refine⟨λk d n=> ?_,l.2.1⟩;have m:=j (k+1) d n;refine⟨m.1,λr g=> ?_⟩;have:=m.2 r g;rw[show i+(k+1)=i+1+k by omega]at this;refine⟨this.1,this.2,?_⟩;rintro⟨p,f,e⟩;exact l.2.2 (jq p) (l5 f) (jq r) (l5 (kd.2 ⟨d,bo n,g⟩)) e
structure VLev (L:Ub):Prop where
 B1:1<=L.1
 B2:L.1<=16
 len:L.2.length<=12
 lev:∀ i rs,L.2[i]?=zo rs->rs.length<=2 /\ ∀ r∈rs,VR (VD L.1 i) r
 ids:(L.2.flatten.map jq).Nodup
 last:L.2.getLast? ≠ zo []
theorem Ye{L:Ub}:(WM L).2.2=0<->VLev L:=by
 unfold WM;constructor
 ·intro h;by_cases c:L.1<1\/L.1>16
  ·rw[zy c]at h;cases h
  rw[zx c]at h;by_cases d:L.2.length>12
  ·rw[zy d]at h;cases h
  rw[zx d]at h;cases a:aR L.1 0 [] L.2 with
  |some x=>
   obtain⟨i,k,e⟩:=x;rw[a]at h;exact absurd h (eE a)
  |none=>
   rw[a]at h;simp only at h;by_cases f:L.2.getLast?=zo []
   ·rw[zy f]at h;cases h
   ·have g:=aM.1 a
    exact⟨by omega,by omega,by omega,λi rs hi=>by
     have:=g.1 i rs hi;rw[eg]at this
     exact⟨this.1,λr b=>(this.2 r b).1⟩,g.2,f⟩
 ·intro h
  have a:aR L.1 0 [] L.2=zn:=aM.2 ⟨λk rs j=>by
   have:=h.lev k rs j;rw[eg]
   exact⟨this.1,λr b=>⟨this.2 r b,by simp⟩⟩,h.ids⟩
  rw[zx (by have:=h.B1;have:=h.B2;omega),zx (by have:=h.len;omega),a];simp only;rw[zx h.last]
theorem XO{L:Ub}(h:VLev L):WM L=(0,(0,0)):=by
 have a:aR L.1 0 [] L.2=zn:=aM.2 ⟨λk rs b=>by
  have:=h.lev k rs b;rw[eg]
  exact⟨this.1,λr c=>⟨this.2 r c,by simp⟩⟩,h.ids⟩
 unfold WM;rw[zx (by have:=h.B1;have:=h.B2;omega),zx (by have:=h.len;omega),a];simp only;rw[zx h.last]
def XN(l:List (List Uy)):Int:=l.foldl (λm rs=>rs.foldl (λm r=>UP m r.1) m) 0
def Ug:Nat->List (List Uy)->List Int
 |_,[]=>[]
 |i,rs::ls=>(if rs.length=2 then[(i:Int)]else[])++Ug (i+1) ls
theorem fG(L:Ub)(e:L.2.length<=1048576)(c:∀ rs∈L.2,rs.length<=1048576):Xd L=zo (XN L.2):=by
 unfold Xd;simp only[Uf,Uc]
 rw[Vo (l:=L.2) (σ:=Int) (s:=((0:Int),(0:Int))) (λi m=>(m,(i:Int))) (λ_ _ _=>True) (λls _ m=>(0,((ls.foldl (λm rs=>rs.foldl (λm r=>UP m r.1) m) m,(L.2.length:Int)),()))) 0 rfl (by omega) trivial (λm _=>by
  simp only;rw[re];rfl) (λi rs ls m hd a hi _=>by
   refine⟨rs.foldl (λm r=>UP m r.1) m,?_,trivial,rfl⟩;have d:=c rs (bo a);simp only
   rw[rl hi,TB,UY,Tq a,Vo (l:=rs) (σ:=Int) (s:=((0:Int),m)) (λi m=>((i:Int),m)) (λ_ _ _=>True) (λl _ m=>(0,(((rs.length:Int),l.foldl (λm r=>UP m r.1) m),()))) m rfl (by omega) trivial (λm _=>by
    simp only;rw[re];rfl) (λk r l m hd a b _=>by
     refine⟨UP m r.1,?_,trivial,rfl⟩;simp only
     rw[rl b,TB,UY,Tq a,Uk a (by omega)]),TW,Uk a (by omega)]),TW]
 rfl
def aQ(L:Ub)(a:List Int)(i:Nat)(j:Job):Bool:=match a[i]? with
 |none=>zt
 |some d=>if j.1≠d then zt else if j.2.2.1.2.2=zt/\j.1≠(L.2.length:Int)-1 then zt else match L.2[d.toNat]? with
  |some [r0,r1]=>if j.2.2.2.2<0\/j.2.2.2.2>((r1.2.length+r0.2.length:Nat):Int)then zt else decide (WO r1.2 r0.2 j.2.2.1.2.2 j.2.2.2.2.toNat≠j.2)
  |_=>zt
def Xi(L:Ub)(a:List Int):Nat->List Job->Option Nat
 |_,[]=>zn
 |i,j::js=>if aQ L a i j=zt then zo i else Xi L a (i+1) js
def Ua(s:UX):Int×Int:=
 if(WM s.1).2.2≠0 then(-1,(WM s.1).2.2)else if s.2.2<1\/s.2.2>1000001 then(-1,7)else if s.2.2<=XN s.1.2 then(-1,6)else match Xi s.1 (Ug 0 s.1.2) 0 s.2.1 with
  |some i=>((i:Int),6)
  |none=>if s.2.1.length<(Ug 0 s.1.2).length then(-1,4)else(0,0)
theorem Yw:∀ {ls:List (List Uy)} {i k:Nat} {d:Int},(Ug i ls)[k]?=zo d -> ∃ n:Nat,d=((i+n:Nat):Int) /\ ∃ e f,ls[n]?=zo [e,f]
 |[],i,k,d,h=>by cases h
 |rs::ls,i,k,d,h=>by
  unfold Ug at h;by_cases a:rs.length=2
  ·rw[zy a]at h;cases k with
   |zero=>
    simp at h;refine⟨0,by simp[<- h],?_⟩
    match rs,a with
    |[e,f],_=>exact⟨e,f,rfl⟩
   |succ k=>
    simp at h;obtain⟨n,b,c⟩:=Yw h;exact⟨n+1,by rw[b];congr 1;omega,c⟩
  ·rw[zx a]at h;simp at h;obtain⟨n,b,c⟩:=Yw h;exact⟨n+1,by rw[b];congr 1;omega,c⟩
theorem Wa:∀ (ls:List (List Uy)) (i:Nat),(Ug i ls).length<=ls.length
 |[],i=>dc _
 |rs::ls,i=>by
  have:=Wa ls (i+1);unfold Ug;split<;>simp<;>omega
theorem eZ{L:Ub}{n:Nat}{a b:Uy}(c:Bool)(h:L.2[n]?=zo [a,b])(v0:VL a.2)(v1:VL b.2):V9 (L,((n:Int),c))=zo ((n:Int),WO b.2 a.2 c 0):=by
 unfold V9;simp only;rw[UY,Tq h,Tq (x:=b) rfl,Tq (x:=a) rfl,kB v1 v0];rfl
theorem bT{a b:List UZ}(va:VL a)(d:VL b)(c:Bool){n:Nat}(h:n<=a.length+b.length):(WO a b c n).1.1.length<=1000/\(∀ l∈(WO a b c n).1.1,l.length<=1000000)/\(WO a b c n).1.2.1.length<=1000/\(WO a b c n).1.2.2.1.length<=1000/\(WO a b c n).1.2.2.2.1.length<=1000/\(WO a b c n).2.2.1.length<=1000000:=by
 have j:=va.len;have k:=d.len;refine⟨show 2<=1000 by omega,λl f=> ?_,show 2<=1000 by omega,show 2<=1000 by omega,show 2<=1000 by omega,?_⟩
 ·have:l=a\/l=b:=by simpa[WO,aX,ao]using f
  rcases this with e|e<;>subst e<;>omega
 ·have g:=ZX (s0 c) (Uq a b n);have i:=V1 va d h;show(W7 (s0 c) (Uq a b n)).length<=_;omega
theorem wu{L:Ub}{n:Nat}{a b:Uy}{j:Job}(h:L.2[n]?=zo [a,b])(v0:VL a.2)(v1:VL b.2){β:Type}(A B:Option β) :
  (bd (V9 (L,((n:Int),j.2.2.1.2.2))) λc=>bd (VK c.2) λg=>br (Tk j.2.2.2.2 0) (λ_=>A) λ_=>br (Ti j.2.2.2.2 g.1) (λ_=>A) λ_=>bd (Vf (c.2,j.2.2.2.2)) λi=>bd (Wi (i.1,j.2)) λl=>br (Hl l) (λ_=>A) λ_=>B)
  = if j.2.2.2.2<0\/j.2.2.2.2>((b.2.length+a.2.length:Nat):Int)then A else if WO b.2 a.2 j.2.2.1.2.2 j.2.2.2.2.toNat=j.2 then B else A:=by
 rw[eZ _ h v0 v1,TW,bm v1 v0 _ (iP _),TW,UH,UF,l4];by_cases e:j.2.2.2.2<0
 ·rw[zy e,zy (.inl e)]
 rw[zx e];by_cases f:j.2.2.2.2>((b.2.length+a.2.length:Nat):Int)
 ·rw[zy f,zy (.inr f)]
 rw[zx f,zx (show ¬ (j.2.2.2.2<0\/j.2.2.2.2>((b.2.length+a.2.length:Nat):Int)) by omega)];obtain⟨k,m⟩:∃ k:Nat,j.2.2.2.2=(k:Int):=⟨j.2.2.2.2.toNat,by omega⟩;rw[m,di v1 v0 _ (iP _),TW,l4,eg,tw (by omega),bl];obtain⟨s1,s2,o,p,q,r⟩:=bT v1 v0 j.2.2.1.2.2 (n:=k) (by omega);rw[fI _ _ s1 s2 o p q r,TW,Vr,V3];by_cases d:WO b.2 a.2 j.2.2.1.2.2 k=j.2
 ·rw[zx (by simp[d]),zy d]
 ·rw[zy d,zx d]
theorem gS(s:UX)(N:s.1.2.length<=1048576)(hr:∀ rs∈s.1.2,rs.length<=1048576 /\ ∀ r∈rs,r.2.length<=9223372036854775807)(hj:s.2.1.length<=1048576):VV s=zo (Ua s):=by
 unfold VV Ua;simp only[Uf,Uc];rw[Zr _ N hr,TW,UI];by_cases z:(WM s.1).2.2=0;rotate_left
 ·rw[zx z,zy z]
 rw[zy z,zx (by simp[z]),UH,UF,fG _ N (λrs h=>(hr rs h).1),TW];have v:=Ye.1 z;by_cases C:s.2.2<1
 ·rw[zy C,zy (.inl C)]
 rw[zx C];by_cases p:s.2.2>1000001
 ·rw[zy p,zy (.inr p)]
 rw[zx p,zx (show ¬ (s.2.2<1\/s.2.2>1000001) by omega),UG];by_cases o:s.2.2<=XN s.1.2
 ·rw[zy o,zy o]
 rw[zx o,zx o]
 rw[Vo (l:=s.1.2) (σ:=List Int) (s:=((0:Int),([]:List Int))) (λi m=>((i:Int),m)) (λls i m=>m++Ug i ls=Ug 0 s.1.2) (λ_ _ _=>(0,(((s.1.2.length:Int),Ug 0 s.1.2),()))) [] rfl (by omega) rfl (λm h=>by
  simp only;rw[re,Sd,<- h];simp[Ug]) (λi rs ls m hd E hi h=>by
   refine⟨m++(if rs.length=2 then[(i:Int)]else[]),?_,?_,rfl⟩
   ·simp only;rw[rl hi,TB,UY,Tq E,UD]
    have hm:m.length<=1048575:=by
     have D:=congrArg mR h;have q:=Wa s.1.2 0;have u:=v.len;rw[gw]at D;omega
    by_cases D:rs.length=2
    ·rw[zy (by omega),zy D,VE (by simp only[BG,AR,ci,co];omega),Uk E (by omega)];rfl
    ·rw[zx (by omega),zx D,gs,Uk E (by omega)]
   ·rw[eb];exact h),TW]
 simp only;obtain⟨a,g⟩:∃ a,a=Ug 0 s.1.2:=⟨_,rfl⟩;have hdl:a.length<=12:=by have:=Wa s.1.2 0;have:=v.len;rw[g];omega
 rw[<- g];obtain⟨T,hT⟩:∃ T,T=Xi s.1 a 0 s.2.1:=⟨_,rfl⟩;rw[<- hT]
 obtain⟨r,q1,I⟩:=Xj (l:=s.2.1) (σ:=Unit) (λi _=>((0:Int),((0:Int),(i:Int)))) (λjs i _=>Xi s.1 a i js=T) (λ(r:Nat×((Int×(Int×Int))×Unit))=>(T=zn/\r.1=1)\/(∃ i:Nat,T=zo i/\r.1=0/\r.2.1.1=6/\r.2.1.2.1=(i:Int)))
  (f:=λb=>br (Tk b.2.2 (s.2.1.length:Int)) (λ_=>SW b.2.2 λk7=>ix s.2.1 k7 λe=>br (SR b.2.2 (a.length:Int)) (λ_=>zo (.dn ((0,((6,(b.2.2,b.2.2)),()))))) λ_=>SW b.2.2 λk9=>gd (KW k9 a.length) λ_=>ix a k9 λx10=>br (SS e.1 x10) (λ_=>zo (.dn ((0,((6,(b.2.2,b.2.2)),()))))) λ_=>br e.2.2.1.2.2 (λ_=>bd (WV (s.1,e.1)) λP=>br (Hl P) (λ_=>zo (.dn ((0,((6,(b.2.2,b.2.2)),()))))) λ_=>bd (V9 ((s.1,(e.1,e.2.2.1.2.2)))) λL=>bd (VK L.2) λS=>br (Tk e.2.2.2.2 0) (λ_=>zo (.dn ((0,((6,(b.2.2,b.2.2)),()))))) λ_=>br (Ti e.2.2.2.2 S.1) (λ_=>zo (.dn ((0,((6,(b.2.2,b.2.2)),()))))) λ_=>bd (Vf (L.2,e.2.2.2.2)) λU=>bd (Wi (U.1,e.2)) λW=>br (Hl W) (λ_=>zo (.dn ((0,((6,(b.2.2,b.2.2)),()))))) λ_=>zo (.nx ((b.1,(b.2.1,So .i64 b.2.2 1))))) λ_=>bd (V9 ((s.1,(e.1,e.2.2.1.2.2)))) λM=>bd (VK M.2) λX=>br (Tk e.2.2.2.2 0) (λ_=>zo (.dn ((0,((6,(b.2.2,b.2.2)),()))))) λ_=>br (Ti e.2.2.2.2 X.1) (λ_=>zo (.dn ((0,((6,(b.2.2,b.2.2)),()))))) λ_=>bd (Vf (M.2,e.2.2.2.2)) λY=>bd (Wi (Y.1,e.2)) λZ=>br (Hl Z) (λ_=>zo (.dn ((0,((6,(b.2.2,b.2.2)),()))))) λ_=>zo (.nx ((b.1,(b.2.1,So .i64 b.2.2 1))))) λ_=>zo (.dn ((1,(b,())))))
  (s:=(0,(0,0))) () rfl (by omega) hT.symm (λ_ h=>by
   refine⟨_,by simp only;rw[re];rfl,.inl ⟨by rw[<- h];rfl,rfl⟩⟩) (λi j js _ hd E hi h=>by
   simp only;rw[rl hi,TB,UY,Tq E,UE];unfold Xi at h
   have c:aQ s.1 a i j=zt -> ∃ r:Nat×((Int×(Int×Int))×Unit),(zo (LR.dn ((0,((6,((i:Int),(i:Int))),()))):LR (Int×(Int×Int)) _))=zo (.dn r)/\((T=zn/\r.1=1)\/(∃ i:Nat,T=zo i/\r.1=0/\r.2.1.1=6/\r.2.1.2.1=(i:Int))):=λN=>by
    rw[zy N]at h;exact⟨_,rfl,.inr ⟨i,h.symm,rfl,rfl,rfl⟩⟩
   have x:aQ s.1 a i j=zf -> ∃ st':Unit,(zo (LR.nx ((0:Int),((0:Int),So .i64 (i:Int) 1))):Option (LR _ (Nat×((Int×(Int×Int))×Unit))))=zo (.nx ((0:Int),((0:Int),((i+1:Nat):Int))))/\Xi s.1 a (i+1) js=T:=λhg=>by
    rw[zx (by simp[hg])]at h;exact⟨(),by rw[Uk E (by omega)],h⟩
   by_cases C:(i:Int)>=(a.length:Int)
   ·rw[zy C];exact .inr (c (by unfold aQ;rw[a9 (by omega)]))
   rw[zx C,UY,Te,zy (by omega)];have w:a[i]?=zo (a[i]'(by omega)):=by simp
   rw[Tq w,UI];obtain⟨n,O,J,K,y⟩:=Yw (ls:=s.1.2) (i:=0) (k:=i) (d:=a[i]'(by omega)) (by rw[<- g];exact w);rw[eg]at O
   have t:aQ s.1 a i j=(if j.1≠(a[i]'(by omega))then zt else if j.2.2.1.2.2=zt/\j.1≠(s.1.2.length:Int)-1 then zt else if j.2.2.2.2<0\/j.2.2.2.2>((K.2.length+J.2.length:Nat):Int)then zt else decide (WO K.2 J.2 j.2.2.1.2.2 j.2.2.2.2.toNat≠j.2)):=by
    unfold aQ;rw[w];simp only;rw[O,bl,y]
   by_cases p:j.1=(a[i]'(by omega));rotate_left
   ·rw[zx p];exact .inr (c (by rw[t,zy p]))
   rw[zy p];rw[zx (by simp[p])]at t;have F:j.1=(n:Int):=by rw[p,O]
   have hv:=(v.lev n _ y).2;have v0:=(hv J (by simp)).vl;have v1:=(hv K (by simp)).vl;have G:Ss .i64 (s.1.2.length:Int) 1=(s.1.2.length:Int)-1:=TG (by omega);unfold WV;simp only[Uf,Uc];rw[TW,G,V7,Vr,V3,F,wu y v0 v1,UL];rw[F]at t;by_cases o:j.2.2.1.2.2=zt/\(n:Int)≠(s.1.2.length:Int)-1
   ·rw[zy o.1,zy o.2];exact .inr (c (by rw[t,zy o]))
   rw[zx o]at t
   have D:∀ {γ:Type} (A B:γ),(if j.2.2.1.2.2=zt then if ¬(n:Int)=(s.1.2.length:Int)-1 then A else B else B)=B:=by
    intro γ A B;by_cases q:j.2.2.1.2.2=zt
    ·rw[zy q,zx (λu=>o ⟨q,u⟩)]
    ·rw[zx q]
   rw[D];by_cases q:j.2.2.2.2<0\/j.2.2.2.2>((K.2.length+J.2.length:Nat):Int)
   ·rw[zy q];exact .inr (c (by rw[t,zy q]))
   rw[zx q];rw[zx q]at t;by_cases u:WO K.2 J.2 j.2.2.1.2.2 j.2.2.2.2.toNat=j.2
   ·rw[zy u];exact .inl (x (by rw[t];simp[u]))
   ·rw[zx u]
    exact .inr (c (by rw[t];simp[u])))
 rw[z];refine Ut q1 ?_;rw[TX];rcases I with⟨I,q3⟩|⟨i,I,q3,q4,q5⟩
 ·rw[zx (show ¬ r.1=0 by omega),I,UH];simp only;by_cases h7:s.2.1.length<a.length
  ·rw[zy (by omega),zy h7]
  ·rw[zx (by omega),zx h7]
 ·rw[zy q3,I,q4,q5]
end
section
open Go Sv
theorem Zs(x:UZ):WX x=zo (kE x):=by
 unfold WX kE;rw[UF,Uf,Zx];by_cases e:x.1.length>32
 ·rw[zy (by omega),zy (.inl e)]
 rw[zx (by omega),UF,Uf,Zx];by_cases f:x.2.1.length>64
 ·rw[zy (by omega),zy (.inr f)]
 rw[zx (by omega:¬ (x.2.1.length:Int)>64),zx (by omega),UL];by_cases b:x.2.2.1=zt
 ·rw[zy b,U4,W8];by_cases c:x.2.1=[]
  ·rw[zy c,zx (by simp[c]),UH,UF];by_cases a:x.2.2.2<1
   ·simp[a]
   ·by_cases d:x.2.2.2>1000000000<;>simp[a,d]
  ·rw[zx c,zy ⟨b,c⟩]
 ·rw[zx b,zx (by simp[b]),UH,UF];by_cases a:x.2.2.2<1
  ·simp[a]
  ·by_cases d:x.2.2.2>1000000000<;>simp[a,d]
def WU:List UInt8->List UInt8->Nat
 |x::a,y::b=>if x=y then WU a b+1 else 0
 |_,_=>0
theorem si(x y:UInt8):O3 (UT x) (UT y)=decide (x=y):=by
 rw[V7];unfold UT;by_cases h:x=y
 ·simp[h]
 ·have:¬ ((x.toNat:Int)=(y.toNat:Int)):=λe=>h (UInt8.toNat_inj.1 (by omega));simp[h,this]
theorem kD(a b:List UInt8)(z:a.length<=9223372036854775806):Xw (a,b)=zo (WU a b:Int):=by
 unfold Xw;simp only[Uf,Zx]
 have key:∀ (m:List UInt8) (k n:Nat),a.drop k=m->k<=a.length->k<=b.length->m.length<n->IX n (λs0=>br (Tk s0 (a.length:Int)) (λ_=>br (Tk s0 (b.length:Int)) (λ_=>SW s0 λt=>ix a t λw=>SW s0 λu=>ix b u λy=>br (O3 (UT w) (UT y)) (λ_=>zo (LR.nx (So .i64 s0 1))) λ_=>zo (.dn ((0,(s0,()))))) λ_=>zo (.dn ((0,(s0,()))))) λ_=>zo (.dn ((0,(s0,()))))) (k:Int)=zo ((0:Nat),(((k+WU m (b.drop k):Nat):Int),())):=by
  intro m
  induction m with
  |nil=>
   intro k n f r h p;obtain⟨n,rfl⟩:∃ j,n=j+1:=⟨n-1,by omega⟩
   have i:k=a.length:=by
    have:=congrArg mR f;simp at this;omega
   subst i;refine U6 ?_;rw[re];simp[Sd,WU]
  |cons x m s=>
   intro k n f r h p;obtain⟨n,rfl⟩:∃ j,n=j+1:=⟨n-1,by omega⟩
   have o:a[k]?=zo x:=by
    have:=congrArg vL f;rw[s6]at this;simpa using this
   have c:k<a.length:=(a8.1 o).1
   have l:a.drop (k+1)=m:=by
    have:=congrArg tk f;rw[rY]at this;simpa using this
   by_cases d:k<b.length
   ·have q:b[k]?=zo b[k]:=by simp[d]
    rw[ul d];unfold WU;by_cases e:x=b[k]
    ·rw[zy e];refine(U1 (s':=((k+1:Nat):Int)) ?_).trans ?_
     ·rw[rl c,TB,rl d,TB,UY,Tq o,UY,Tq q,si,V3,zy e,Uh (by omega)]
     ·rw[s (k+1) n l (by omega) (by omega) (by simp at p;omega),show k+1+WU m (b.drop (k+1))=k+(WU m (b.drop (k+1))+1) by omega]
    ·rw[zx e];refine U6 ?_;rw[rl c,TB,rl d,TB,UY,Tq o,UY,Tq q,si,V3,zx e];simp
   ·have g:k=b.length:=by omega
    refine U6 ?_;rw[rl c,TB,g,re,Sd,List.drop_length];simp[WU]
 refine Ut (Vn (n:=a.length+1) (by omega) (key a 0 (a.length+1) (by simp) (by omega) (by omega) (by omega))) ?_;simp
def ah(a b:YH):Int:=if S4 a b=zt then -1 else if a=b then 0 else 1
theorem ei:∀ (a b:YH),(WU a b<=a.length/\WU a b<=b.length)/\(WU a b=a.length->WU a b=b.length->ah a b=0)/\(WU a b=a.length->WU a b≠b.length->ah a b = -1)/\(WU a b≠a.length->WU a b=b.length->ah a b=1)/\(∀ x y,a[WU a b]?=zo x->b[WU a b]?=zo y->ah a b=if x.toNat<y.toNat then -1 else 1)
 |[],[]=>by simp[WU,ah,bM]
 |[],y::b=>by simp[WU,ah,eO]
 |x::a,[]=>by simp[WU,ah,bM]
 |x::a,y::b=>by
  obtain⟨⟨o,g⟩,i,j,k,l⟩:=ei a b;by_cases e:x=y
  ·subst e
   have n:ah (x::a) (x::b)=ah a b:=by
    unfold ah;rw[Zj];simp
   have hc:WU (x::a) (x::b)=WU a b+1:=by simp[WU]
   rw[n,hc];refine⟨⟨by simp;omega,by simp;omega⟩,λu v=>i (by simp at u;omega) (by simp at v;omega),λu v=>j (by simp at u;omega) (by simp at v;omega),λu v=>k (by simp at u;omega) (by simp at v;omega),λp q d f=>l p q (by simpa using d) (by simpa using f)⟩
  ·have hc:WU (x::a) (y::b)=0:=by simp[WU,e]
   rw[hc];refine⟨⟨by omega,by omega⟩,λu=>by simp at u,λu=>by simp at u,λ_ u=>by simp at u,λp q d f=> ?_⟩;simp at d f;subst d f;unfold ah;rw[Zj];have m:¬ (x::a=y::b):=λh=>e (by injection h);by_cases c:x.toNat<y.toNat
   ·have:x<y:=wl.2 c;simp[this,c]
   ·have:¬ x<y:=λh=>c (wl.1 h);simp[this,c,e]
theorem me(a b:YH)(p:a.length<=1000000000)(q:b.length<=1000000000):XW (a,b)=zo (ah a b):=by
 obtain⟨⟨o,i⟩,j,k,l,m⟩:=ei a b;unfold XW;simp only[Uf,Zx];rw[kD a b (by omega),TW,UD]
 have n:(if(WU a b:Int)<(b.length:Int)then(SW (WU a b:Int) λc=>ix a c λe=>SW (WU a b:Int) λd=>ix b d λf=>br (Tk (UT e) (UT f)) (λ_=>zo (-1:Int)) λ_=>zo 1)else zo 1)=(if WU a b=a.length then(if(WU a b:Int)<(b.length:Int)then(SW (WU a b:Int) λc=>ix a c λe=>SW (WU a b:Int) λd=>ix b d λf=>br (Tk (UT e) (UT f)) (λ_=>zo (-1:Int)) λ_=>zo 1)else zo 1)else zo (ah a b)):=by
  by_cases u:WU a b=a.length
  ·rw[zy u]
  ·rw[zx u];by_cases v:WU a b=b.length
   ·rw[zx (by omega),l u v]
   ·rw[zy (by omega),UY];have g:a[WU a b]?=zo (a[WU a b]'(by omega)):=by simp
    have h:b[WU a b]?=zo (b[WU a b]'(by omega)):=by simp
    rw[Tq g,UY,Tq h,UH,m _ _ g h];unfold UT;by_cases w:(a[WU a b]'(by omega)).toNat<(b[WU a b]'(by omega)).toNat
    ·rw[zy (by omega),zy w]
    ·rw[zx (by omega),zx w]
 by_cases u:WU a b=a.length
 ·rw[zy (by omega),UD];by_cases v:WU a b=b.length
  ·rw[zy (by omega),j u v]
  ·rw[zx (by omega),UD,zy (by omega),k u v]
 ·rw[zx (by omega),UD,zx (by omega),UH,n,zx u]
theorem jo(a b:YH):ah a b>=0<->S4 a b=zf:=by
 unfold ah;cases h:S4 a b with
 |true=>simp
 |false=>simp;split<;>omega
theorem YM(l:List UZ)(D:l.length<=9223372036854775807):WR l=zo (V4 l):=by
 unfold WR V4;simp only[Uf,Uc];rw[UF];by_cases h:l.length>5000
 ·rw[zy (by omega),zy h]
 rw[zx (by omega),zx h];obtain⟨T,o⟩:∃ T,T=Z1 zn 0 l:=⟨_,rfl⟩;rw[<- o]
 obtain⟨r,w,j⟩:=Xj (l:=l) (σ:=Unit) (s:=((0:Int),((0:Int),(0:Int)))) (λk _=>((0:Int),((0:Int),(k:Int)))) (λm k _=>Z1 (if k=0 then zn else(l[k-1]?).map (·.1)) k m=T/\(∀ y,k≠0->l[k-1]?=zo y->kE y=0)) (λ(r:Nat×((Int×(Int×Int))×Unit))=>(r.1=1/\T=(0,0))\/(r.1=0/\T=(r.2.1.2.1,r.2.1.1)))
  (f:=λs0=>br (Tk s0.2.2 (l.length:Int)) (λ_=>SW s0.2.2 λq=>ix l q λA=>bd (WX A) λd=>br (O3 d 0) (λ_=>br (Ti s0.2.2 0) (λ_=>SW (Ss .i64 s0.2.2 1) λt=>ix l t λB=>SW s0.2.2 λu=>ix l u λC=>bd (XW (B.1,C.1)) λz=>br (SR z 0) (λ_=>zo (.dn ((0,((6,(s0.2.2,s0.2.2)),()))))) λ_=>br (SS d 0) (λ_=>zo (.dn ((0,((d,(s0.2.2,s0.2.2)),()))))) λ_=>zo (.nx ((s0.1,(s0.2.1,So .i64 s0.2.2 1))))) λ_=>br (SS d 0) (λ_=>zo (.dn ((0,((d,(s0.2.2,s0.2.2)),()))))) λ_=>zo (.nx ((s0.1,(s0.2.1,So .i64 s0.2.2 1))))) λ_=>br (SS d 0) (λ_=>zo (.dn ((0,((d,(s0.2.2,s0.2.2)),()))))) λ_=>zo (.nx ((s0.1,(s0.2.1,So .i64 s0.2.2 1))))) λ_=>zo (.dn ((1,(s0,())))))
  () rfl (by omega) ⟨o.symm,λ_ h=>absurd rfl h⟩ (λ_ h=>by
   refine⟨_,by simp only;rw[re];rfl,.inl ⟨rfl,?_⟩⟩;rw[<- h.1];simp[Z1]) (λk x m _ hd g p h=>by
   simp only;obtain⟨h,c⟩:=h;rw[rl p,TB,UY,Tq g,Zs,TW,UD];unfold Z1 at h
   have next:kE x=0->(T=Z1 (zo x.1) (k+1) m)->Z1 (if k+1=0 then zn else(l[k+1-1]?).map (·.1)) (k+1) m=T/\(∀ y,k+1≠0->l[k+1-1]?=zo y->kE y=0):=λa e=>by
    rw[zx (by omega),Nat.add_sub_cancel,g,e];exact⟨rfl,λy _ i=>by cases i;exact a⟩
   by_cases a:kE x=0
   ·rw[zy a,UF];rw[zx (by simp[a])]at h;by_cases b:k=0
    ·rw[zx (by omega),UI,zy a];rw[zy b]at h;exact .inl ⟨(),by rw[Uk g (by omega)],next a h.symm⟩
    ·have i:l[k-1]?=zo (l[k-1]'(by omega)):=by rw[cP]
     rw[zy (by omega),show Ss .i64 (k:Int) 1=((k-1:Nat):Int) by rw[TG (by omega)];omega,UY,Tq i,UY,Tq g];rw[zx b,i]at h;simp only[xT]at h;rw[me _ _ (by have:=ca (c _ b i);omega) (by have:=ca a;omega),TW,UE];by_cases hs:S4 (l[k-1]'(by omega)).1 x.1=zt
     ·rw[zx (λe=>by rw[jo,hs]at e;cases e),UI,zy a];rw[zy hs]at h;exact .inl ⟨(),by rw[Uk g (by omega)],next a h.symm⟩
     ·rw[zy ((jo _ _).2 (by simpa using hs))];rw[zx hs]at h;exact .inr ⟨_,rfl,.inr ⟨rfl,h.symm⟩⟩
   ·rw[zx a,UI,zx a];rw[zy a]at h
    exact .inr ⟨_,rfl,.inr ⟨rfl,h.symm⟩⟩)
 refine Ut w ?_;rw[TX];rcases j with⟨j,n⟩|⟨j,n⟩
 ·rw[zx (show ¬ r.1=0 by omega),n]
 ·rw[zy j,n]
theorem sq(p q:Uw)(d:W6 p)(e:W6 q):Xz ([p,q],(0,1))=zo (w0 p q):=by
 unfold Xz w0;refine(XF 0 rfl (x:=p) rfl).trans ((XF 1 rfl (x:=q) rfl).trans ?_);rw[beq_eq,Vr,V3,U4,UL];by_cases a:p.2=q.2
 ·rw[zx (show ¬ ¬ p.2=q.2 by simp[a]),zx (show ¬ p.2≠q.2 by simp[a])];by_cases b:p.2=zt
  ·rw[zy b,d b,e (a ▸ b)];rfl
  ·rw[zx b,U4,W8];by_cases c:p.1=q.1
   ·rw[zy c,zx (by simp[c])];rfl
   ·rw[zx c,zy c]
 ·rw[zy a,zy a]
theorem bz(p q:Uw)(n:Nat)(k:Int)(h:2<=k)(a:k<=100):Nb Ur (n+1) ([p,q],k)=zo (k-2,0):=by
 show Ur (Nb Ur n) ([p,q],k)=_;unfold Ur;show br (SR k 2) (λ_=>zo (Ss .i64 k 2,0)) _=_;rw[UE,zy h,TG (by omega)]
theorem cp(p q:Uw)(a:W6 p)(b:W6 q):Xy ([p,q],1)=zo (if w0 p q=zt then(0,1)else(1,0)):=by
 show Ur (Nb Ur 99) ([p,q],1)=_;unfold Ur;show br (SR (1:Int) 2) (λ_=>zo (Ss .i64 (1:Int) 2,0)) (λ_=>bd (Nb Ur (98+1) ([p,q],2)) λc=>bd (Nb Ur (98+1) ([p,q],3)) _)=_;rw[UE,zx (by omega),bz p q 98 2 (by omega) (by omega),TW,bz p q 98 3 (by omega) (by omega),TW];show bd (Xz ([p,q],(0,1))) _=_;rw[sq p q a b,TW,UL];cases h:w0 p q<;>rfl
theorem se(p q:Uw)(a:W6 p)(c:W6 q):Ym [p,q]=zo (Tt p q):=by
 unfold Ym;refine Eq.trans (b:=bd (loop _ (1,([p,q],([0,0],0)))) _) rfl ?_;refine Ut (x:=(0,((2,([p,q],([0,if w0 p q=zt then 1 else 0],0))),()))) (Vn (n:=2) (by omega) ((U1 (s':=(2,([p,q],([0,if w0 p q=zt then 1 else 0],0)))) ?_).trans (U6 rfl))) ?_
 ·show bd (Xy ([p,q],1)) _=_;rw[cp p q a c,TW];refine(aF 1 rfl (x:=(0:Int)) rfl).trans ?_;cases h:w0 p q<;>rfl
 ·rw[cp p q a c,TW];unfold Tt;cases h:w0 p q<;>rfl
theorem kX{l:List Uw}(h:∀ k∈l,W6 k)(b:l≠[])(e:l.length<=32):YS l=zo 0:=by
 unfold YS;simp only[Uf,Uc];rw[UD,UF,zx (by have:=ee.2 b;omega),zx (by omega)]
 rw[Vo (l:=l) (σ:=Unit) (s:=((0:Int),(0:Int))) (λk _=>((k:Int),(0:Int))) (λ_ _ _=>True) (λ_ _ _=>(1,(((l.length:Int),0),()))) () rfl (by omega) trivial (λd _=>by
  simp only;rw[re];rfl) (λk x m d _ a c _=>⟨(),by
   simp only;rw[rl c,TB,UY,Tq a,UL,Uk a (by omega)];by_cases hd:x.2=zt
   ·rw[zy hd,UY,Tq a,U4,W8,zy (h x (bo a) hd)]
   ·rw[zx hd],trivial,rfl⟩),TW]
 rfl
theorem kC(p q:Uw)(a:W6 p)(b:W6 q):XY [p,q]=zo (Tt p q,0):=by
 unfold XY;rw[kX (by simp[a,b]) (by simp) (by simp),TW,UI,zy rfl,se p q a b,TW]
end
section
open Go Sv
theorem Yc:Vk=VP:=rfl
theorem cr:Yl=Un:=rfl
theorem gj(l m:List Uw)(i:l.length<=9223372036854775806)(j:l.length=m.length):∃ r,loop (λs1=>br (Tk s1.1 (l.length:Int)) (λ_=>SW s1.1 λn=>ix l n λf=>SW s1.1 λo=>ix m o λg=>br (Hl (OG (seq f.1 g.1) (OG (Sv.beq f.2 g.2) zt))) (λ_=>zo (LR.dn ((0:Nat),((s1.1,zf),())))) λ_=>zo (.nx (So .i64 s1.1 1,s1.2))) λ_=>zo (.dn ((1,(s1,()))))) ((0:Int),zf)=zo r/\((l=m/\r.1=1)\/(l≠m/\r.1=0/\r.2.1.2=zf)):=by
 refine Zc l m j i (λk x y a d=> ?_) (by simp only;rw[re];rfl);have c:=(a8.1 a).1
 have b:∀ {β:Type} (u v:Unit->Option β),br (Hl (OG (seq x.1 y.1) (OG (Sv.beq x.2 y.2) zt))) u v=if x=y then v ()else u ():=by
  intro β u v;rw[au,am,beq_eq,Zl,Vr,V3];by_cases e:x=y
  ·subst e;simp
  ·rw[zy (λh=>e (s9 h.1 h.2)),zx e]
 constructor
 ·intro e;simp only;rw[rl c,TB,UY,Tq a,UY,Tq d,b,zy e,Uh (by omega)]
 ·intro e;simp only;rw[rl c,TB,UY,Tq a,UY,Tq d,b,zx e]
theorem cv(s t:Wj)(g:s.1.length<=1000)(h:s.2.1.length<=1000):Xx (s,t)=zo (decide (s=t)):=by
 obtain⟨b,d,k⟩:=s;obtain⟨c,f,l⟩:=t;simp only at g h;unfold Xx;simp only[Uf,Uc];rw[UI];by_cases e1:(b.length:Int)=(c.length:Int);rotate_left
 ·rw[zx e1];have:¬ b=c:=λe=>e1 (by rw[e]);simp[this]
 rw[zy e1,UI];by_cases e2:k=l;rotate_left
 ·rw[zx e2];simp[e2]
 rw[zy e2,cr,aJ _ _ (by omega),TW,Vr,V3];by_cases e3:d=f;rotate_left
 ·rw[zy e3];simp[e3]
 rw[zx (show ¬ ¬ d=f by simp[e3])];obtain⟨r,i,a⟩:=gj b c (by omega) (by omega);refine Ut i ?_;rw[TX];rcases a with⟨e,a⟩|⟨e,a,j⟩
 ·rw[zx (show ¬ r.1=0 by omega)];simp[e,e2,e3]
 ·rw[zy a,j];simp[e]
theorem fW(s t:WL)(u:s.1.length<=1000)(g:∀ l∈s.1,l.length<=1000000)(w:s.2.1.length<=1000)(h:s.2.2.1.length<=1000)(i:s.2.2.2.1.length<=1000):Yo (s,t)=zo (decide (s=t)):=by
 obtain⟨a,n,o⟩:=s;obtain⟨d,p,q⟩:=t;simp only at u g w h i;unfold Yo;simp only[Uf,Uc];rw[UI];by_cases e1:(a.length:Int)=(d.length:Int);rotate_left
 ·rw[zx e1];have:¬ a=d:=λe=>e1 (by rw[e]);simp[this]
 rw[zy e1,cr,aJ _ _ (by omega),TW,Vr,V3];by_cases e2:n=p;rotate_left
 ·rw[zy e2];simp[e2]
 rw[zx (show ¬ ¬ n=p by simp[e2]),cv _ _ h i,TW,Vr,V3];by_cases e3:o=q;rotate_left
 ·rw[zy e3];simp[e3]
 rw[zx (show ¬ ¬ o=q by simp[e3])]
 obtain⟨r,C,c⟩:=Zc a d (by omega) (by omega) (f:=λs2=>br (Tk s2.1 (a.length:Int)) (λ_=>SW s2.1 λA=>ix a A λF=>SW s2.1 λB=>ix d B λG=>bd (Vk (F,G)) λE=>br (Hl E) (λ_=>zo (.dn ((0,((s2.1,zf),()))))) λ_=>zo (.nx (So .i64 s2.1 1,s2.2))) λ_=>zo (.dn ((1,(s2,()))))) (λk x y b m=>by
   have j:=(a8.1 b).1;have z:=g x (bo b);constructor
   ·intro e;simp only;rw[rl j,TB,UY,Tq b,UY,Tq m,Yc,Xq _ _ (by omega),TW,Vr,V3,zx (by simp[e]),Uh (by omega)]
   ·intro e;simp only
    rw[rl j,TB,UY,Tq b,UY,Tq m,Yc,Xq _ _ (by omega),TW,Vr,V3,zy e]) (by simp only;rw[re];rfl)
 refine Ut C ?_;rw[TX];rcases c with⟨e,c⟩|⟨e,c,D⟩
 ·rw[zx (show ¬ r.1=0 by omega)];simp[e,e2,e3]
 ·rw[zy c,D];simp[e]
theorem cu(x y:Yh)(a:x.1.1.length<=1000)(b:∀ l∈x.1.1,l.length<=1000000)(c:x.1.2.1.length<=1000)(d:x.1.2.2.1.length<=1000)(e:x.1.2.2.2.1.length<=1000)(f:x.2.2.1.length<=1000000):VG (x,y)=zo (decide (x=y)):=by
 obtain⟨i,⟨xs,k,h⟩,g,j⟩:=x;obtain⟨n,⟨q,r,m⟩,p,o⟩:=y;simp only at a b c d e f;unfold VG;simp only[fW _ _ a b c d e,Yc,Xq _ _ (show g.length<=9223372036854775806 by omega),TW,V3,V7,am,beq_eq,au,Zl]
 repeat' split
 all_goals simp_all
section
variable{a b:List UZ}(va:VL a)(vb:VL b)
include va vb
theorem aj:W1 [a,b]=zo (0,0):=by
 have c:=va.len;have d:=vb.len;unfold W1;refine Eq.trans (b:=bd (loop _ (0,(0,0))) _) rfl ?_;refine Ut (x:=(1,((0,(0,2)),()))) (Vy (s1:=(0,(0,1))) (s2:=(0,(0,2))) ?_ ?_ rfl) rfl
 ·refine(cD 0 rfl rfl (x:=a) rfl).trans ?_;rw[YM _ (by omega),Z3 va,TW];rfl
 ·refine(cD 1 rfl rfl (x:=b) rfl).trans ?_;rw[YM _ (by omega),Z3 vb,TW];rfl
theorem Zt{i j:Nat}(hi:i<=a.length)(g:j<=b.length):W0 ([a,b],[(i:Int),(j:Int)])=zo (if i=a.length/\j=b.length then -1 else if Yx a b i j=zt then 0 else 1):=by
 have k:=va.len;have l:=vb.len;unfold W0;simp only[Uf,Uc];refine Ut (x:=(0,((if i=a.length/\j=b.length then -1 else if Yx a b i j=zt then 0 else 1,2),()))) (Vy (s1:=(if i=a.length then -1 else 0,1)) (s2:=(if i=a.length/\j=b.length then -1 else if Yx a b i j=zt then 0 else 1,2)) ?_ ?_ rfl) rfl
 ·refine(cD 0 rfl rfl (x:=(i:Int)) rfl).trans ((XF 0 rfl (x:=a) rfl).trans ?_);rw[UH];by_cases h:i=a.length
  ·rw[zx (by omega),zy h];rfl
  ·rw[zy (by omega),zx h];rfl
 ·refine(cD 1 rfl rfl (x:=(j:Int)) rfl).trans ((XF 1 rfl (x:=b) rfl).trans ?_);rw[UH];by_cases h:j=b.length
  ·rw[zx (by omega)];by_cases c:i=a.length
   ·rw[zy c,zy ⟨c,h⟩];rfl
   ·rw[zx c,zx (λe=>c e.1)];have d:a[i]?=zo (a[i]'(by omega)):=by simp
    rw[jg d (a9 (by omega))];rfl
  ·have f:b[j]?=zo (b[j]'(by omega)):=by simp
   rw[zy (by omega),UH,zx (λe:i=a.length/\j=b.length=>h e.2)];by_cases c:i=a.length
   ·rw[zy c,zy (by omega),jh (a9 (by omega)) f];rfl
   ·rw[zx c,zx (by omega)];have d:a[i]?=zo (a[i]'(by omega)):=by simp
    refine(XF 1 rfl (x:=b) rfl).trans ((XF 1 rfl (x:=(j:Int)) rfl).trans ((XF j rfl f).trans ((XF 0 rfl (x:=a) rfl).trans ((XF 0 rfl (x:=(i:Int)) rfl).trans ((XF i rfl d).trans ?_)))));rw[YI,cX d f];cases hs:S4 (b[j]'(by omega)).1 (a[i]'(by omega)).1<;>rfl
theorem Zu{i j:Nat}(hi:i<=a.length)(e:j<=b.length):WY ([a,b],[(i:Int),(j:Int)])=zo (ao a b i j):=by
 have f:=va.len;have g:=vb.len;unfold WY;simp only[Uf,Uc];rw[VE (show[a,b].length<=1048576 from(show 2<=1048576 by omega)),VE (show[(i:Int),(j:Int)].length<=1048576 from(show 2<=1048576 by omega))];refine Ut (x:=(0,((2,[kx a i,kx b j]),()))) (Vy (s1:=(1,[kx a i])) (s2:=(2,[kx a i,kx b j])) ?_ ?_ rfl) ?_
 ·refine(cD 0 rfl rfl (x:=(i:Int)) rfl).trans ((XF 0 rfl (x:=a) rfl).trans ?_);rw[V7,Vr,V3];by_cases h:i=a.length
  ·have c:((i:Int)=(a.length:Int)):=by omega
   rw[zx (show ¬ ¬ ((i:Int)=(a.length:Int)) by simp[c]),bE (a9 (by omega))];simp only[c,decide_true];rfl
  ·have d:a[i]?=zo (a[i]'(by omega)):=by simp
   have c:¬ ((i:Int)=(a.length:Int)):=by omega
   rw[zy c];refine(XF 0 rfl (x:=a) rfl).trans ((XF 0 rfl (x:=(i:Int)) rfl).trans ((XF i rfl d).trans ?_));rw[YF d];simp only[c,decide_false];rfl
 ·refine(cD 1 rfl rfl (x:=(j:Int)) rfl).trans ((XF 1 rfl (x:=b) rfl).trans ?_);rw[V7,Vr,V3];by_cases h:j=b.length
  ·have c:((j:Int)=(b.length:Int)):=by omega
   rw[zx (show ¬ ¬ ((j:Int)=(b.length:Int)) by simp[c]),bE (l:=b) (i:=j) (a9 (by omega))];simp only[c,decide_true];rfl
  ·have d:b[j]?=zo (b[j]'(by omega)):=by simp
   have c:¬ ((j:Int)=(b.length:Int)):=by omega
   rw[zy c];refine(XF 1 rfl (x:=b) rfl).trans ((XF 1 rfl (x:=(j:Int)) rfl).trans ((XF j rfl d).trans ?_));rw[YF (l:=b) (i:=j) d];simp only[c,decide_false];rfl
 ·show bd (XY [kx a i,kx b j]) _=_;rw[kC _ _ (VJ _ _) (VJ _ _)];rfl
theorem ju{i:Nat}{l:List UZ}(h:i≠0)(hi:i<=l.length):∃ x,l[i-1]?=zo x:=⟨l[i-1]'(by omega),by simp⟩
theorem bh{i j:Nat}(I:Inv a b i j):Wz (ao a b i j)=zo (0,0):=by
 have s:=va.len;have t:=vb.len;have hi:=I.ia;have k:=I.jb;unfold Wz;rw[show(ao a b i j).1=[a,b]from rfl,aj va vb,TW,UI,zy rfl];rw[show(ao a b i j).2.1=[(i:Int),(j:Int)]from rfl,UI,zy (show Kx (AR [(i:Int),(j:Int)])=Kx (AR [a,b])from rfl)];refine Ut (x:=(1,((0,(0,2)),()))) (Vy (s1:=(0,(0,1))) (s2:=(0,(0,2))) ?_ ?_ rfl) ?_
 ·refine(cD 0 rfl rfl (x:=(i:Int)) rfl).trans ?_;rw[UH,zx (by omega)];refine(XF 0 rfl (x:=(i:Int)) rfl).trans ((XF 0 rfl (x:=a) rfl).trans ?_);rw[UF,zx (by simp only[Uf,Uc];omega)];rfl
 ·refine(cD 1 rfl rfl (x:=(j:Int)) rfl).trans ?_;rw[UH,zx (by omega)];refine(XF 1 rfl (x:=(j:Int)) rfl).trans ((XF 1 rfl (x:=b) rfl).trans ?_);rw[UF,zx (by simp only[Uf,Uc];omega)];rfl
 rw[show neq ((1:Nat),(((0:Int),((0:Int),(2:Int))),())).1 0=zf from rfl,Sd,Zu va vb hi k,TW,cv (ao a b i j).2.2 (ao a b i j).2.2 (show 2<=1000 by omega) (show 2<=1000 by omega),TW,Vr,V3,zx (show ¬ ¬ (ao a b i j).2.2=(ao a b i j).2.2 by simp),Zt va vb hi k,TW];by_cases hd:i=a.length/\j=b.length
 ·rw[zy hd];refine Ut (x:=(1,((0,(0,0)),()))) (Vn (n:=1) (by omega) (U6 ?_)) rfl;rfl
 rw[zx hd];cases g:Yx a b i j with
 |true=>
  rw[zy rfl]
  have p:i<a.length:=by
   refine oy λh'=> ?_;have o:j<b.length:=by omega
   rw[jh (a9 h') (show b[j]?=zo (b[j]'o) by simp)]at g;cases g
  have e:a[i]?=zo (a[i]'p):=by simp
  refine Ut (x:=(1,((0,(0,2)),()))) (Vy (s1:=(0,(0,1))) (s2:=(0,(0,2))) ?_ ?_ rfl) rfl
  ·show br (Tk (0:Int) 2) _ _=_;rw[UH,zy (by omega),UE,zy (by omega)];refine(XF 0 rfl (x:=(i:Int)) rfl).trans ?_;rw[UD];by_cases f:i=0
   ·rw[zy (by omega)];rfl
   ·rw[zx (by omega)];obtain⟨y,d⟩:=ju va vb (l:=a) f hi;refine(XF 0 rfl (x:=a) rfl).trans ((XF 0 rfl (x:=(i:Int)) rfl).trans ?_);rw[show Ss .i64 (i:Int) 1=((i-1:Nat):Int) by rw[TG (by omega)];omega,UY,Tq d];refine(XF 0 rfl (x:=a) rfl).trans ((XF 0 rfl (x:=(i:Int)) rfl).trans ((XF i rfl e).trans ?_));have c:=va.lt d (show a[i-1+1]?=zo _ by rw[show i-1+1=i by omega];exact e);rw[YI,zx (by rw[V2 c];simp),W8,zx (aI c)];rfl
  ·show br (Tk (1:Int) 2) _ _=_;rw[UH,zy (by omega),UE,zy (by omega)];refine(XF 1 rfl (x:=(j:Int)) rfl).trans ?_;rw[UD];by_cases f:j=0
   ·rw[zy (by omega)];rfl
   ·rw[zx (by omega)];obtain⟨y,d⟩:=ju va vb (l:=b) f k;refine(XF 1 rfl (x:=b) rfl).trans ((XF 1 rfl (x:=(j:Int)) rfl).trans ?_);rw[show Ss .i64 (j:Int) 1=((j-1:Nat):Int) by rw[TG (by omega)];omega,UY,Tq d];refine(XF 0 rfl (x:=a) rfl).trans ((XF 0 rfl (x:=(i:Int)) rfl).trans ((XF i rfl e).trans ?_));have c:=I.pb (j-1) (by omega) y _ d e;rw[YI,zx (by rw[V2 c];simp),W8,zx (aI c)];rfl
 |false=>
  rw[zx (by simp)]
  have h:j<b.length:=by
   refine oy λh'=> ?_;have m:i<a.length:=by omega
   rw[jg (show a[i]?=zo (a[i]'m) by simp) (a9 h')]at g;cases g
  have e:b[j]?=zo (b[j]'h):=by simp
  refine Ut (x:=(1,((0,(0,2)),()))) (Vy (s1:=(0,(0,1))) (s2:=(0,(0,2))) ?_ ?_ rfl) rfl
  ·show br (Tk (0:Int) 2) _ _=_;rw[UH,zy (by omega),UE,zy (by omega)];refine(XF 0 rfl (x:=(i:Int)) rfl).trans ?_;rw[UD];by_cases f:i=0
   ·rw[zy (by omega)];rfl
   ·rw[zx (by omega)];obtain⟨y,d⟩:=ju va vb (l:=a) f hi;refine(XF 0 rfl (x:=a) rfl).trans ((XF 0 rfl (x:=(i:Int)) rfl).trans ?_);rw[show Ss .i64 (i:Int) 1=((i-1:Nat):Int) by rw[TG (by omega)];omega,UY,Tq d];refine(XF 1 rfl (x:=b) rfl).trans ((XF 1 rfl (x:=(j:Int)) rfl).trans ((XF j rfl e).trans ?_));have q:=I.pa (i-1) (by omega) y _ d e;rw[YI,zx (by rw[q];simp),W8];by_cases r:y.1=(b[j]'h).1
    ·rw[zy r];rfl
    ·rw[zx r];rfl
  ·show br (Tk (1:Int) 2) _ _=_;rw[UH,zy (by omega),UE,zy (by omega)];refine(XF 1 rfl (x:=(j:Int)) rfl).trans ?_;rw[UD];by_cases f:j=0
   ·rw[zy (by omega)];rfl
   ·rw[zx (by omega)];obtain⟨y,d⟩:=ju va vb (l:=b) f k;refine(XF 1 rfl (x:=b) rfl).trans ((XF 1 rfl (x:=(j:Int)) rfl).trans ?_);rw[show Ss .i64 (j:Int) 1=((j-1:Nat):Int) by rw[TG (by omega)];omega,UY,Tq d];refine(XF 1 rfl (x:=b) rfl).trans ((XF 1 rfl (x:=(j:Int)) rfl).trans ((XF j rfl e).trans ?_));have c:=vb.lt d (show b[j-1+1]?=zo _ by rw[show j-1+1=j by omega];exact e);rw[YI,zx (by rw[V2 c];simp),W8,zx (aI c)];rfl
end
end
section
open Go Sv
section
variable{a b:List UZ}(va:VL a)(vb:VL b)
include va vb
theorem nS{n:Nat}{x:UZ}(h:n<a.length+b.length)(d:bx a b n=zo x):XJ (aX a b n)=zo (x,((dB a b n:Int),(aX a b (n+1),0))):=by
 obtain⟨i,hs⟩:=XG va vb (n:=n) (by omega);obtain⟨j,k⟩:=XG va vb (n:=n+1) (by omega);have l:=va.len;have m:=vb.len;have e:=i.ia;have f:=i.jb;unfold XJ;rw[show aX a b n=ao a b (pos a b n).1 (pos a b n).2 from rfl,bh va vb i,TW,UI,zy rfl,show(ao a b (pos a b n).1 (pos a b n).2).1=[a,b]from rfl,show(ao a b (pos a b n).1 (pos a b n).2).2.1=[((pos a b n).1:Int),((pos a b n).2:Int)]from rfl,Zt va vb e f,TW,zx (λhh:(pos a b n).1=a.length/\(pos a b n).2=b.length=>by omega)];unfold bx at d;have c:pos a b (n+1)=if Yx a b (pos a b n).1 (pos a b n).2=zt then((pos a b n).1+1,(pos a b n).2)else((pos a b n).1,(pos a b n).2+1):=rfl
 unfold aX dB;cases g:Yx a b (pos a b n).1 (pos a b n).2 with
 |true=>
  rw[g,zy rfl]at c;rw[g,zy rfl]at d;have hi:=(a8.1 d).1;rw[zy rfl,UH,zx (by omega),VE (show AR [((pos a b n).1:Int),((pos a b n).2:Int)]<=1048576 from(show 2<=1048576 by omega))];refine(aF 0 rfl (x:=((pos a b n).1:Int)) rfl).trans ((aF 0 rfl (x:=((pos a b n).1:Int)) rfl).trans ((XF 0 rfl (x:=a) rfl).trans ((XF 0 rfl (x:=((pos a b n).1:Int)) rfl).trans ((XF _ rfl d).trans ?_))));rw[Uh (by omega),show lset [((pos a b n).1:Int),((pos a b n).2:Int)] 0 (((pos a b n).1+1:Nat):Int)=[(((pos a b n).1+1:Nat):Int),((pos a b n).2:Int)]from rfl,Zu va vb (by omega) f,TW,c];rfl
 |false=>
  rw[g,zx (by simp)]at c;rw[g,zx (by simp)]at d;have hi:=(a8.1 d).1;rw[zx (by simp),UH,zx (by omega),VE (show AR [((pos a b n).1:Int),((pos a b n).2:Int)]<=1048576 from(show 2<=1048576 by omega))];refine(aF 1 rfl (x:=((pos a b n).2:Int)) rfl).trans ((aF 1 rfl (x:=((pos a b n).2:Int)) rfl).trans ((XF 1 rfl (x:=b) rfl).trans ((XF 1 rfl (x:=((pos a b n).2:Int)) rfl).trans ((XF _ rfl d).trans ?_))));rw[Uh (by omega),show lset [((pos a b n).1:Int),((pos a b n).2:Int)] 1 (((pos a b n).2+1:Nat):Int)=[((pos a b n).1:Int),(((pos a b n).2+1:Nat):Int)]from rfl,Zu va vb e (by omega),TW,c];rfl
theorem nR{n:Nat}(h:n<=a.length+b.length):Yn (aX a b n)=zo (((a.length+b.length-n:Nat):Int),0):=by
 obtain⟨c,hs⟩:=XG va vb (n:=n) h;have f:=va.len;have g:=vb.len;have d:=c.ia;have e:=c.jb;unfold Yn;rw[show aX a b n=ao a b (pos a b n).1 (pos a b n).2 from rfl,bh va vb c,TW,UI,zy rfl];refine Ut (x:=(0,((2,((a.length+b.length-n:Nat):Int)),()))) (Vy (s1:=(1,(a.length:Int)-((pos a b n).1:Int))) (s2:=(2,((a.length+b.length-n:Nat):Int))) ?_ ?_ rfl) rfl
 ·refine(cD 0 rfl rfl (x:=a) rfl).trans ((XF 0 rfl (x:=((pos a b n).1:Int)) rfl).trans ?_);simp only[Uf,Uc];rw[show So .i64 (0:Int) (a.length:Int)=(a.length:Int) by rw[TE (by omega),ta],TG (by omega)];rfl
 ·refine(cD 1 rfl rfl (x:=b) rfl).trans ((XF 1 rfl (x:=((pos a b n).2:Int)) rfl).trans ?_);simp only[Uf,Uc];show zo (LR.nx ((2:Int),Ss .i64 (So .i64 ((a.length:Int)-((pos a b n).1:Int)) (b.length:Int)) ((pos a b n).2:Int)))=_;rw[TE (by omega),TG (by omega),show(a.length:Int)-((pos a b n).1:Int)+(b.length:Int)-((pos a b n).2:Int)=((a.length+b.length-n:Nat):Int) by omega]
theorem jp:Xp [a,b]=zo (Uq a b (a.length+b.length),(Y5 a b (a.length+b.length),0)):=by
 have l:=va.len;have m:=vb.len;unfold Xp;rw[aj va vb,TW,UI,zy rfl];refine Eq.trans (b:=bd (loop _ ([],([],([],(0,([],[0,0])))))) _) rfl ?_
 refine Ut (x:=(0,((Y5 a b (a.length+b.length),(Uq a b (a.length+b.length),0)),())))
  (Zd (λk=>([],(Uq a b k,([],(0,(Y5 a b k,[((pos a b k).1:Int),((pos a b k).2:Int)])))))) 0 (a.length+b.length) rfl (by omega) (by omega) (λk _ j=> ?_) ?_) rfl
 ·obtain⟨x,c,_⟩:=Wh va vb (n:=k) j;obtain⟨d,hs⟩:=XG va vb (n:=k) (by omega);have e:(Uq a b k).length=k:=V1 va vb (by omega);have f:=bX a b k;simp only;rw[Zt va vb d.ia d.jb,TW,zx (λhh:(pos a b k).1=a.length/\(pos a b k).2=b.length=>by omega)];rw[Xk va vb c];unfold bx at c;rw[show Y5 a b (k+1)=Y5 a b k++[(dB a b k:Int)]from rfl];unfold dB;rw[show pos a b (k+1)=if Yx a b (pos a b k).1 (pos a b k).2=zt then((pos a b k).1+1,(pos a b k).2)else((pos a b k).1,(pos a b k).2+1)from rfl]
  have h:∀ {β:Type} (y:UZ) (q:Unit->Option β),gd (CI (BG (AR (Uq a b k)) (AR [y])) 1048576) q=q ():=λy q=>VE (by simp only[BG,AR,e,ci,co];omega) q;have i:∀ {β:Type} (y:Int) (q:Unit->Option β),gd (CI (BG (AR (Y5 a b k)) (AR [y])) 1048576) q=q ():=λy q=>VE (by simp only[BG,AR,f,ci,co];omega) q;cases g:Yx a b (pos a b k).1 (pos a b k).2 with
  |true=>
   rw[g,zy rfl]at c;have hi:=(a8.1 c).1;simp only[if_true];rw[UH,zx (by omega)];refine(XF 0 rfl (x:=a) rfl).trans ((aF 0 rfl (x:=((pos a b k).1:Int)) rfl).trans ((XF _ rfl c).trans ?_));rw[h,i];refine(aF 0 rfl (x:=((pos a b k).1:Int)) rfl).trans ((aF 0 rfl (x:=((pos a b k).1:Int)) rfl).trans ?_);rw[Uh (by omega)];rfl
  |false=>
   rw[g,zx (by simp)]at c;have hi:=(a8.1 c).1;simp only[lc,if_false];rw[UH,zx (by omega)];refine(XF 1 rfl (x:=b) rfl).trans ((aF 1 rfl (x:=((pos a b k).2:Int)) rfl).trans ((XF _ rfl c).trans ?_));rw[h,i];refine(aF 1 rfl (x:=((pos a b k).2:Int)) rfl).trans ((aF 1 rfl (x:=((pos a b k).2:Int)) rfl).trans ?_);rw[Uh (by omega)];rfl
 ·obtain⟨d,hs⟩:=XG va vb (n:=a.length+b.length) (dc _);simp only;rw[Zt va vb d.ia d.jb,TW,zy (show(pos a b (a.length+b.length)).1=a.length/\(pos a b (a.length+b.length)).2=b.length by have:=d.ia;have:=d.jb;omega),UH,zy (by omega)]
end
theorem fi{s:VU}(b:s.2.1.length<=32)(a:s.1=zf->s.2.1=[]):YT s=zo 0:=by
 unfold YT;rw[UF,zx (by simp only[Uf,Zx];omega),U4,UL];cases h:s.1 with
 |true=>rfl
 |false=>rw[zx (by simp),U4,W8,zy (a h)]
theorem gp{s:VU}{x:UZ}(e:s.2.1.length<=32)(f:s.1=zf->s.2.1=[])(g:kE x=0)(a:s.1=zt->S4 x.1 s.2.1=zf):Yp (s,x)=zo (keep s x,((zt,(x.1,s.2.2)),0)):=by
 unfold Yp keep;rw[fi e f,TW,UD,zy rfl,Zs,g,TW,UD,zy rfl];obtain⟨s1,s2,c⟩:=s;obtain⟨h,i,d,j⟩:=x;simp only at a ⊢;cases s1 with
 |true=>
  have:=a rfl;simp only[TB,YI,this,lc,if_false,UI,if_true,U4,W8];by_cases b:h=s2
  ·simp[b,Sd]
  ·simp only[b,if_false,decide_false];cases c<;>cases d<;>rfl
 |false=>
  simp only[Sd,UI,if_true,U4];cases c<;>cases d<;>rfl
theorem gb{l:List UZ}{b:Bool}(t:l.length<=20000)(r:bR (zf,([],b)) l):X2 (l,b)=zo (W7 (zf,([],b)) l,(0,0)):=by
 unfold X2 WZ;simp only[Uf,Uc];rw[UF,zx (by omega),TW]
 rw[Vo (l:=l) (σ:=VU×List UZ) (s:=(0,(0,([],([],(0,(zf,([],b)))))))) (λk a=>((0:Int),((k:Int),(([]:List UZ),(a.2,((0:Int),a.1))))))
  (λm k a=>bR a.1 m/\a.1.2.1.length<=32/\(a.1.1=zf->a.1.2.1=[])/\a.2.length<=k/\k+m.length=l.length)
  (λm k a=>(1,((0,((l.length:Int),([],(a.2++W7 a.1 m,(0,Vp a.1 m))))),()))) ((zf,([],b)),[]) rfl (by omega) ⟨r,by simp,λ_=>rfl,by simp,by simp⟩ ?_ ?_,TW]
 ·simp;rfl
 ·intro a _;simp only;rw[re,Sd];simp[Vp,W7]
 ·rintro k x m ⟨s,out⟩ u d p ⟨⟨c,e,f⟩,g,i,j,n⟩;simp only at c e f g i j ⊢;refine⟨((zt,(x.1,s.2.2)),out++if keep s x=zt then[x]else[]),?_,⟨f,ca c,(λh=>by cases h),?_,by simp at n;omega⟩,?_⟩
  ·rw[rl p,TB,UY,Tq d,gp g i c e,TW,UI,zy rfl,UL,UY,Tq d];have o:∀ {β:Type} (k:Unit->Option β),gd (CI (BG out.length [x].length) 1048576) k=k ():=λk=>jf j (by simp at n;omega) x k;rw[o,Uk d (show l.length<=9223372036854775807 by omega)];cases q:keep s x<;>simp[Iy]
  ·split<;>simp<;>omega
  ·simp only[Vp,W7,eb]
section
variable{a b:List UZ}(va:VL a)(vb:VL b)
include va vb
theorem dK(c:Bool){n:Nat}(h:n<=a.length+b.length):Wd (Uq a b n,c)=zo (W7 (s0 c) (Uq a b n),Vp (s0 c) (Uq a b n)):=by
 have f:=va.len;have g:=vb.len;have d:(Uq a b n).length=n:=V1 va vb h;unfold Wd;simp only[Uf,Uc];rw[gb (by omega) (YN va vb c h),TW];unfold WZ;rw[TW,UF,d];cases n with
 |zero=>rw[zx (by omega)];rfl
 |succ m=>
  obtain⟨x,e,_⟩:=Wh va vb (n:=m) (by omega);rw[zy (by omega),show Ss .i64 ((m+1:Nat):Int) 1=(m:Int) by rw[TG (by omega)];omega,UY,Tq (x:=x) (by rw[Zf va vb h (by omega)];exact e),aC va vb c e]
theorem ff(c:Bool){n:Nat}(h:n<=a.length+b.length):XK (WO a b c n)=zo (n:Int):=by
 obtain⟨d,hs⟩:=XG va vb (n:=n) h;have e:=va.len;have f:=vb.len;unfold XK;refine Ut (x:=(0,(((n:Int),2),()))) (Vy (s1:=(((pos a b n).1:Int),1)) (s2:=((n:Int),2)) ?_ ?_ rfl) rfl
 ·refine(cD 0 rfl rfl (x:=((pos a b n).1:Int)) rfl).trans ?_;show zo (LR.nx (So .i64 0 ((pos a b n).1:Int),(1:Int)))=_;rw[TE (by omega),ta]
 ·refine(cD 1 rfl rfl (x:=((pos a b n).2:Int)) rfl).trans ?_;show zo (LR.nx (So .i64 ((pos a b n).1:Int) ((pos a b n).2:Int),(2:Int)))=_;rw[TE (by omega),show((pos a b n).1:Int)+((pos a b n).2:Int)=(n:Int) by omega]
theorem fj(c:Bool){n:Nat}(h:n<=a.length+b.length):YV (WO a b c n)=zo 0:=by
 obtain⟨d,hs⟩:=XG va vb (n:=n) h;have g:=va.len;have i:=vb.len;have e:=ZX (s0 c) (Uq a b n);have f:(Uq a b n).length=n:=V1 va vb h;unfold YV;rw[show(WO a b c n).1=ao a b (pos a b n).1 (pos a b n).2 from rfl,bh va vb d,TW,UI,zy rfl,ff va vb c h,TW];simp only[Uf,Uc];rw[show(WO a b c n).2.2.1=W7 (s0 c) (Uq a b n)from rfl,show(WO a b c n).2.2.2=(n:Int)from rfl,show(WO a b c n).2.1=Vp (s0 c) (Uq a b n)from rfl,UF,zx (by omega),UF,zx (by omega),UI,zy rfl];rw[show(ao a b (pos a b n).1 (pos a b n).2).1=[a,b]from rfl,jp va vb,TW,UY];rw[VE (by rw[V1 va vb (dc _)];exact h),VE (iP _)];rw[show D6 (Uq a b (a.length+b.length)) 0 n=Uq a b n from by unfold D6;rw[tT,l4];exact Yg va vb h,YG];rw[show(s0 c).2.2=c from rfl,dK va vb c h,TW,Yc,Xq _ _ (by omega),TW,Vr,V3,zx (by simp),YG,ZI,ZI,Zv];rfl
theorem ak(c:Bool){n:Nat}(h:n<=a.length+b.length):U5 (WO a b c n)=zo (((a.length+b.length-n:Nat):Int),0):=by
 unfold U5;rw[fj va vb c h,TW,UI,zy rfl,show(WO a b c n).1=aX a b n from rfl,nR va vb h];rfl
theorem c0(c:Bool){n:Nat}(h:n<=a.length+b.length){k:Nat}:Uz (WO a b c n,(k:Int))=zo (WO a b c (n+min k (a.length+b.length-n)),(((min k (a.length+b.length-n):Nat):Int),0)):=by
 have i:=va.len;have l:=vb.len;obtain⟨u,e⟩:∃ u,u=min k (a.length+b.length-n):=⟨_,rfl⟩
 have d:UO (k:Int) ((a.length+b.length-n:Nat):Int)=(u:Int):=by
  unfold UO;split<;>omega
 rw[<- e];unfold Uz;rw[ak va vb c h,TW,UD,zy rfl];simp only[d,Uf,Uc];rw[UH,zx (by omega),UI,zy rfl,ff va vb c h,TW,TE (by omega),UF,zx (by omega)]
 refine Ut (x:=(0,(((u:Int),((aX a b (n+u)).1,((aX a b (n+u)).2.1,((aX a b (n+u)).2.2.1,((aX a b (n+u)).2.2.2.1,((aX a b (n+u)).2.2.2.2,((WO a b c n).2.1.1,((WO a b c n).2.1.2.1,((WO a b c n).2.1.2.2,(WO a b c n).2.2))))))))),())))
  (Zd (λj=>((j:Int),((aX a b (n+j)).1,((aX a b (n+j)).2.1,((aX a b (n+j)).2.2.1,((aX a b (n+j)).2.2.2.1,((aX a b (n+j)).2.2.2.2,((WO a b c n).2.1.1,((WO a b c n).2.1.2.1,((WO a b c n).2.1.2.2,(WO a b c n).2.2)))))))))) 0 u rfl (by omega) (by omega) (λj _ g=> ?_) ?_) ?_
 ·obtain⟨y,f,_⟩:=Wh va vb (n:=n+j) (by omega);show br (Tk (j:Int) (u:Int)) _ _=_;rw[UH,zy (by omega)];show bd (XJ (aX a b (n+j))) _=_;rw[nS va vb (by omega) f,TW,Uh (by omega)];rfl
 ·show br (Tk (u:Int) (u:Int)) _ _=_;rw[UH,zx (by omega)]
 ·rw[show(WO a b c n).1.1=[a,b]from rfl,jp va vb,TW,show(WO a b c n).2.2.2=(n:Int)from rfl,show So .i64 (n:Int) (u:Int)=((n+u:Nat):Int) by rw[TE (by omega)];omega,UY];rw[VE (by rw[V1 va vb (dc _)];omega),VE (iP _)];rw[show D6 (Uq a b (a.length+b.length)) 0 (n+u)=Uq a b (n+u)from by unfold D6;rw[tT,l4];exact Yg va vb (by omega),show(WO a b c n).2.1.2.2=c from YG _ _,dK va vb c (by omega),TW];rfl
end
end
section
open Go Sv
theorem dh(B:Int)(i:Nat):VD B (i+1)=2*VD B i:=by
 unfold VD;rw[Int.pow_succ,<- Int.mul_assoc,Int.mul_comm]
theorem cz{B:Int}{i:Nat}(a:1<=B)(b:B<=16)(hi:i<=12):WS (B,(i:Int))=zo (VD B i):=by
 unfold WS;refine Ut (x:=(0,((VD B i,(i:Int)),()))) (ZA (λk=>(VD B k,(k:Int))) i (by simp[VD]) (by omega) (λk d=> ?_) ?_) rfl
 ·have c:=fy a b (show k<=12 by omega);simp only;rw[UH,zy (by omega),TF (by omega),Uh (by omega),dh]
 ·simp only;rw[UH,zx (by omega)]
theorem jx(r:Uy)(b:r.2.length<=9223372036854775807):XX r=zo (if r.1<1\/r.1>1000000 then(-1,7)else V4 r.2):=by
 unfold XX;rw[UH,UF,YM _ b,TW];by_cases h:r.1<1
 ·rw[zy h,zy (.inl h)]
 ·rw[zx h];by_cases a:r.1>1000000
  ·rw[zy a,zy (.inr a)]
  ·rw[zx a,zx (by omega)]
theorem fZ(r:Uy)(most:Int)(a:List Int)(y:r.2.length<=9223372036854775807)(hi:a.length<=1048576):Wm (r,(most,a))=zo (kR a most r):=by
 unfold Wm kR;rw[jx r (by omega),TW];simp only[Uf,Uc];by_cases h:r.1<1\/r.1>1000000
 ·rw[zy h,zy h];rfl
 rw[zx h,zx h,UI];by_cases b:(V4 r.2).2=0;rotate_left
 ·rw[zx b,zy b]
 rw[zy b,zx (show ¬ (V4 r.2).2≠0 by simp[b]),UD,UF];by_cases i:r.2.length=0
 ·rw[zy (by omega),zy i]
 rw[zx (by omega),zx i];by_cases c:(r.2.length:Int)>most
 ·rw[zy c,zy c]
 rw[zx c,zx c]
 obtain⟨q,p,d⟩:=Xj (l:=a) (σ:=Unit) (s:=((0:Int),(0:Int))) (λk _=>((k:Int),(0:Int))) (λm k _=>r.1∈a<->r.1∈m) (λ(q:Nat×((Int×Int)×Unit))=>(q.1=1/\r.1 ∉ a)\/(q.1=0/\r.1∈a/\q.2.1.2=8))
  (f:=λs1=>br (Tk s1.1 (a.length:Int)) (λ_=>SW s1.1 λo=>ix a o λw=>br (O3 w r.1) (λ_=>zo (.dn ((0,((s1.1,8),()))))) λ_=>zo (.nx (So .i64 s1.1 1,s1.2))) λ_=>zo (.dn ((1,(s1,())))))
  () rfl (by omega) Iff.rfl (λ_ h=>⟨_,by simp only;rw[re];rfl,.inl ⟨rfl,by simpa using h⟩⟩) (λk x m _ hd j n h=>by
   simp only;rw[rl n,TB,UY,Tq j,UD];by_cases e:x=r.1
   ·rw[zy e];exact .inr ⟨_,rfl,.inr ⟨rfl,by rw[h,e];simp,rfl⟩⟩
   ·rw[zx e];exact .inl ⟨(),by rw[Uk j (by omega)],by rw[h,ey];exact⟨λu=>u.elim (λe2=>absurd e2.symm e) id,.inr⟩⟩)
 refine Ut p ?_;rw[TX];rcases d with⟨d,g⟩|⟨d,g,t⟩
 ·rw[zx (show ¬ q.1=0 by omega),zx g]
 ·rw[zy d,zy g,t]
theorem jv(L:Ub)(hb:L.2.length<=9223372036854775807)(hr:∀ rs∈L.2,rs.length<=9223372036854775807 /\ ∀ r∈rs,r.2.length<=9223372036854775807):WD L=zo (WM L):=by
 unfold WD WM;simp only[Uf,Uc];rw[UH,UF,UF];by_cases n:L.1<1
 ·rw[zy n,zy (.inl n)]
 rw[zx n];by_cases o:L.1>16
 ·rw[zy o,zy (.inr o)]
 rw[zx o,zx (show ¬ (L.1<1\/L.1>16) by omega)];by_cases S:(L.2.length:Int)>12
 ·rw[zy S,zy (by omega)]
 rw[zx S,zx (by omega)];have hl2:L.2.length<=12:=by omega
 obtain⟨T,N⟩:∃ T,T=aR L.1 0 [] L.2:=⟨_,rfl⟩;rw[<- N]
 have p:T=zn->(br (Ti (L.2.length:Int) 0) (λ_=>SW (Ss .i64 (L.2.length:Int) 1) λD=>ix L.2 D λJ=>br (O3 (J.length:Int) 0) (λ_=>zo ((Ss .i64 (L.2.length:Int) 1,((0:Int),(6:Int))))) λ_=>zo ((0,(0,0)))) λ_=>zo ((0,(0,0))))=zo (if L.2.getLast?=zo []then(((L.2.length-1:Nat):Int),(0,6))else(0,(0,0))):=by
  intro _;rw[UF];by_cases X:L.2=[]
  ·rw[X];rfl
  ·have hp:=ee.2 X;rw[zy (by omega),show Ss .i64 (L.2.length:Int) 1=((L.2.length-1:Nat):Int) by rw[TG (by omega)];omega,UY,q0];have d:L.2[L.2.length-1]?=zo (L.2[L.2.length-1]'(by omega)):=by simp
   rw[Tq d,d,UD];by_cases C:L.2[L.2.length-1]'(by omega)=[]
   ·rw[C];simp
   ·rw[zx (by have:=ee.2 C;omega),zx (by simp[C])]
 obtain⟨r,G,j⟩:=Xj (l:=L.2) (σ:=List Int) (s:=((0:Int),(([]:List Int),((0:Int),((0:Int),(0:Int)))))) (λi a=>((0:Int),(a,((0:Int),((0:Int),(i:Int))))))
  (λm i a=>aR L.1 i a m=T/\a.length<=2*i) (λ(r:Nat×((Int×(List Int×(Int×(Int×Int))))×Unit))=>(r.1=1/\T=zn)\/(r.1=0/\Q1 T r.2.1.1 r.2.1.2.2.1 r.2.1.2.2.2.1/\T≠zn))
  (f:=λ(s0:(Int×((List Int)×(Int×(Int×Int)))))=>br (Tk s0.2.2.2.2 (L.2.length:Int)) (λ_=>SW s0.2.2.2.2 λk1=>ix L.2 k1 λB=>br (Ti (B.length:Int) 2) (λ_=>zo (.dn ((0,((0,(s0.2.1,(s0.2.2.2.2,(3,s0.2.2.2.2)))),()))))) λ_=>bd (loop (λ(b:(Int×((List Int)×(Int×(Int×Int)))))=>br (Tk b.2.2.2.2 (B.length:Int)) (λ_=>SW b.2.2.2.2 λE=>ix B E λK=>bd (WS (L.1,s0.2.2.2.2)) λI=>bd (Wm ((K,(I,b.2.1)))) λy=>br (SS y 0) (λ_=>zo (.dn ((0,((b.2.2.2.2,(b.2.1,(s0.2.2.2.2,(y,b.2.2.2.2)))),()))))) λ_=>SW b.2.2.2.2 λF=>ix B F λz=>gd (CI (BG b.2.1.length [z.1].length) 1048576) λ_=>zo (.nx ((b.1,(Iy b.2.1 [z.1],(b.2.2.1,(b.2.2.2.1,So .i64 b.2.2.2.2 1))))))) λ_=>zo (.dn ((1,(b,()))))) ((s0.1,(s0.2.1,(s0.2.2.1,(s0.2.2.2.1,0)))))) λc=>br (neq c.1 0) (λ_=>zo (.dn ((0,((c.2.1.1,(c.2.1.2.1,(c.2.1.2.2.1,(c.2.1.2.2.2.1,s0.2.2.2.2)))),()))))) λ_=>zo (.nx ((c.2.1.1,(c.2.1.2.1,(c.2.1.2.2.1,(c.2.1.2.2.2.1,So .i64 s0.2.2.2.2 1))))))) λ_=>zo (.dn ((1,(s0,())))))
  [] rfl (by omega) ⟨N.symm,by simp⟩ (λa h=>by
   refine⟨_,by simp only;rw[re];rfl,.inl ⟨rfl,?_⟩⟩;rw[<- h.1];rfl) (λi rs m a hd d hi h=>by
   obtain⟨h,P⟩:=h;simp only;obtain⟨Y,u⟩:=hr rs (bo d);rw[rl hi,TB,UY,Tq d,UF];unfold aR at h;by_cases M:rs.length>2
   ·rw[zy (by omega)];rw[zy M]at h;refine .inr ⟨_,rfl,.inr ⟨rfl,?_,by rw[<- h];simp⟩⟩;rw[<- h];exact⟨rfl,rfl,rfl⟩
   rw[zx (by omega)];rw[zx M]at h;obtain⟨U,O⟩:∃ U,U=aS (VD L.1 i) 0 a rs:=⟨_,rfl⟩;rw[<- O]at h
   obtain⟨r,G,j⟩:=Xj (l:=rs) (σ:=Unit) (s:=((0:Int),(a,((0:Int),((0:Int),(0:Int)))))) (λk _=>((0:Int),(a++(rs.take k).map (·.1),((0:Int),((0:Int),(k:Int))))))
    (λm k _=>aS (VD L.1 i) k (a++(rs.take k).map (·.1)) m=U) (λ(r:Nat×((Int×(List Int×(Int×(Int×Int))))×Unit))=>(r.1=1/\U=zn/\r.2.1=(0,(a++rs.map (·.1),(0,(0,(rs.length:Int))))))\/(r.1=0 /\ ∃ k e,U=zo (k,e)/\r.2.1.1=(k:Int)/\r.2.1.2.2.1=(i:Int)/\r.2.1.2.2.2.1=e))
    (f:=λ(b:(Int×((List Int)×(Int×(Int×Int)))))=>br (Tk b.2.2.2.2 (rs.length:Int)) (λ_=>SW b.2.2.2.2 λE=>ix rs E λK=>bd (WS (L.1,(i:Int))) λI=>bd (Wm ((K,(I,b.2.1)))) λy=>br (SS y 0) (λ_=>zo (.dn ((0,((b.2.2.2.2,(b.2.1,((i:Int),(y,b.2.2.2.2)))),()))))) λ_=>SW b.2.2.2.2 λF=>ix rs F λz=>gd (CI (BG b.2.1.length [z.1].length) 1048576) λ_=>zo (.nx ((b.1,(Iy b.2.1 [z.1],(b.2.2.1,(b.2.2.2.1,So .i64 b.2.2.2.2 1))))))) λ_=>zo (.dn ((1,(b,())))))
    () (by simp) (by omega) (by simp[O]) (λ_ h=>by
     refine⟨_,by simp only;rw[re];rfl,.inl ⟨rfl,by rw[<- h];rfl,by simp⟩⟩) (λk r m _ hd d Z h=>by
     simp only;have hr2:=u r (bo d);have w:(rs.take (k+1)).map (·.1)=(rs.take k).map (·.1)++[r.1]:=by rw[gM,d];simp
     have W:(a++(rs.take k).map (·.1)).length<=100:=by simp;omega
     rw[rl Z,TB,UY,Tq d,cz (by omega) (by omega) (by omega),TW,fZ _ _ _ (by omega) (by omega),TW,UI];unfold aS at h;by_cases A:kR (a++(rs.take k).map (·.1)) (VD L.1 i) r=0
     ·rw[zx (λhh:kR (a++(rs.take k).map (·.1)) (VD L.1 i) r≠0=>hh A)]at h;rw[zy A,UY,Tq d,VE (by simp only[BG,ci,co];omega)];refine .inl ⟨(),?_,?_⟩
      ·rw[Uk d (by omega),w,<- eb];rfl
      ·rw[w,<- eb];exact h
     ·rw[zy A]at h;rw[zx A]
      exact .inr ⟨_,rfl,.inr ⟨rfl,_,_,h.symm,rfl,rfl,rfl⟩⟩)
   rw[G,TW,TX];rcases j with⟨j,g,x⟩|⟨j,k,e,g,x,q5,q6⟩
   ·rw[zx (show ¬ r.1=0 by omega),x,Uk d (by omega)];rw[g]at h;exact .inl ⟨a++rs.map (·.1),rfl,h,by simp;omega⟩
   ·rw[zy j];rw[g]at h;refine .inr ⟨_,rfl,.inr ⟨rfl,?_,by rw[<- h];simp⟩⟩;rw[<- h]
    exact⟨x,q5,q6⟩)
 refine Ut G ?_;rw[TX];rcases j with⟨j,g⟩|⟨j,g,x⟩
 ·rw[zx (show ¬ r.1=0 by omega),g];exact p g
 ·rw[zy j];cases q:T with
  |none=>exact absurd q x
  |some t=>
   obtain⟨i,k,e⟩:=t;rw[q]at g;rw[g.1,g.2.1,g.2.2]
theorem gm(L:Ub)(b:L.2.length<=1048576)(a:∀ rs∈L.2,rs.length<=1048576 /\ ∀ r∈rs,r.2.length<=9223372036854775807):WD L=zo (WM L):=jv L (by omega) λrs h=>⟨by have:=(a rs h).1;omega,(a rs h).2⟩
def U9(ls:List (List Uy)):List Uy:=ls.flatMap List.reverse
theorem VLev.small{L:Ub}(v:VLev L):L.2.length<=1048576 /\ ∀ rs∈L.2,rs.length<=1048576 /\ ∀ r∈rs,r.2.length<=9223372036854775807:=by
 refine⟨by have:=v.len;omega,λrs a=> ?_⟩;obtain⟨i,hi⟩:=eo a;obtain⟨d,b⟩:=v.lev i rs hi;exact⟨by omega,λr c=>by have:=(b r c).vl.len;omega⟩
theorem ZO:∀ (ls:List (List Uy)),(∀ rs∈ls,rs.length<=2)->(U9 ls).length<=2*ls.length
 |[],_=>by simp[U9]
 |rs::ls,h=>by
  have a:=ZO ls λr b=>h r (by simp[b]);have c:=h rs (by simp);unfold U9 at a ⊢;rw[xo,gw,List.length_reverse,ci];omega
theorem VLev.two{L:Ub}(v:VLev L):∀ rs∈L.2,rs.length<=2:=λrs a=>by
 obtain⟨i,hi⟩:=eo a;exact(v.lev i rs hi).1
theorem ai{L:Ub}(v:VLev L):Wf L=zo (U9 L.2,0):=by
 obtain⟨d,b⟩:=v.small;have e:=v.len;unfold Wf;simp only[Uf,Uc];rw[gm _ d b,XO v,TW,UI,zy rfl]
 rw[Vo (l:=L.2) (σ:=List Uy) (s:=(([]:List Uy),(0:Int))) (λi m=>(m,(i:Int))) (λls i m=>(∀ rs∈ls,rs.length<=2)/\m.length<=2*i) (λls _ m=>(0,((m++U9 ls,(L.2.length:Int)),()))) [] rfl (by omega) ⟨v.two,by simp⟩ (λm _=>by
  simp only;rw[re,Sd];simp[U9]) (λi rs ls m hd a hi h=>by
   refine⟨m++rs.reverse,?_,⟨λr b=>h.1 r (by simp[b]),by have:=h.1 rs (by simp);simp;omega⟩,by simp[U9]⟩;have c:=h.1 rs (by simp);have f:m.length<=24:=by have:=h.2;omega
   simp only;rw[rl hi,TB,UY,Tq a];have gg:∀ {β:Type} (z:List Uy) (x:Uy) (k:Unit->Option β),z.length<=100->gd (CI (BG z.length [x].length) 1048576) k=k ():=λz x k g=>VE (by simp only[BG,ci,co];omega) k
   match rs,c,a with
   |[],_,a=>
    refine Ut (x:=(0,((m,-1),()))) (Vn (n:=1) (by omega) (U6 rfl)) ?_;rw[Uk a (by omega)];simp
   |[r0],_,a=>
    refine Ut (x:=(0,((m++[r0],-1),()))) (Vn (n:=2) (by omega) ((U1 (s':=(m++[r0],-1)) ?_).trans (U6 rfl))) ?_
    ·show br (SR (0:Int) 0) _ _=_;rw[UE,zy (by omega),UY,Tq a];refine(XF 0 rfl (x:=r0) rfl).trans ?_;rw[gg m _ _ (by omega)];rfl
    ·rw[Uk a (by omega)];simp
   |[r0,r1],_,a=>
    refine Ut (x:=(0,((m++[r1]++[r0],-1),()))) (Vn (n:=3) (by omega) ((U1 (s':=(m++[r1],0)) ?_).trans ((U1 (s':=(m++[r1]++[r0],-1)) ?_).trans (U6 rfl)))) ?_
    ·show br (SR (1:Int) 0) _ _=_;rw[UE,zy (by omega),UY,Tq a];refine(XF 1 rfl (x:=r1) rfl).trans ?_;rw[gg m _ _ (by omega)];rfl
    ·show br (SR (0:Int) 0) _ _=_;rw[UE,zy (by omega),UY,Tq a];refine(XF 0 rfl (x:=r0) rfl).trans ?_;rw[gg (m++[r1]) _ _ (by simp;omega)];rfl
    ·rw[Uk a (by omega)];simp),TW]
 simp
theorem YE(a b:Int):UP a b=max a b:=by unfold UP;split<;>omega
theorem XU:∀ (l:List Uy) (m:Int),0<=m->l.foldl (λm r=>UP m r.1) m=max m (l.foldl (λm r=>UP m r.1) 0)
 |[],m,h=>by simp;omega
 |r::l,m,h=>by
  have a:=XU l (UP m r.1) (by rw[YE];omega);have b:=XU l (UP 0 r.1) (by rw[YE];omega);simp only[iz];rw[a,b,YE,YE];omega
theorem dH(l:List Uy)(m:Int)(h:0<=m):l.reverse.foldl (λm r=>UP m r.1) m=l.foldl (λm r=>UP m r.1) m:=by
 induction l generalizing m with
 |nil=>rfl
 |cons r l a=>
  rw[List.reverse_cons,xr,a m h,iz];simp only[iz,List.foldl_nil];rw[XU l m h,XU l (UP m r.1) (by rw[YE];omega),YE,YE];omega
theorem d6(l:List Uy)(m:Int)(h:0<=m):0<=l.foldl (λm r=>UP m r.1) m:=by
 rw[XU l m h];omega
theorem Zz:∀ (ls:List (List Uy)) (m:Int),0<=m->(U9 ls).foldl (λm r=>UP m r.1) m=ls.foldl (λm rs=>rs.foldl (λm r=>UP m r.1) m) m
 |[],m,_=>rfl
 |rs::ls,m,h=>by
  have a:=Zz ls (rs.foldl (λm r=>UP m r.1) m) (d6 _ _ h);unfold U9 at a ⊢;rw[xo,xr,dH rs m h,iz,a]
theorem eK{L:Ub}(v:VLev L):Wg L=zo (XN L.2):=by
 have c:=v.len;have d:=ZO L.2 v.two;unfold Wg;simp only[Uf,Uc];rw[ai v,TW]
 rw[Vo (l:=U9 L.2) (σ:=Int) (s:=((0:Int),(0:Int))) (λi m=>(m,(i:Int))) (λ_ _ _=>True) (λl _ m=>(0,((l.foldl (λm r=>UP m r.1) m,((U9 L.2).length:Int)),()))) 0 rfl (by omega) trivial (λm _=>by
  simp only;rw[re,Sd];rfl) (λk r l m hd a b _=>⟨UP m r.1,by
   simp only
   rw[rl b,TB,UY,Tq a,Uk a (by omega)],trivial,rfl⟩),TW]
 rw[Zz _ _ (by omega)];rfl
theorem bH{L:Ub}(d:L.2.length<=1000):VM L=zo (Ug 0 L.2):=by
 unfold VM;simp only[Uf,Uc]
 rw[Vo (l:=L.2) (σ:=List Int) (s:=(([]:List Int),(0:Int))) (λi m=>(m,(i:Int))) (λls i m=>m++Ug i ls=Ug 0 L.2) (λ_ _ _=>(0,((Ug 0 L.2,(L.2.length:Int)),()))) [] rfl (by omega) rfl (λm h=>by
  simp only;rw[re,Sd,<- h];simp[Ug]) (λi rs ls m hd b hi h=>by
   refine⟨m++(if rs.length=2 then[(i:Int)]else[]),?_,?_,rfl⟩
   ·simp only;rw[rl hi,TB,UY,Tq b,UD]
    have e:m.length<=1000:=by
     have a:=congrArg mR h;have c:=Wa L.2 0;rw[gw]at a;omega
    by_cases a:rs.length=2
    ·rw[zy (by omega),zy a,VE (by simp only[BG,ci,co];omega),Uk b (by omega)];rfl
    ·rw[zx (by omega),zx a,gs,Uk b (by omega)]
   ·rw[eb];exact h),TW]
theorem nZ{L:Ub}(v:VLev L)(k:Int):Y9 (L,k)=zo (if k<0\/k>=12 then 7 else 0):=by
 obtain⟨c,d⟩:=v.small;unfold Y9;rw[gm _ c d,XO v,TW,UD,zy rfl,UH,UE];by_cases a:k<0
 ·rw[zy a,zy (.inl a)]
 ·rw[zx a];by_cases b:k>=12
  ·rw[zy b,zy (.inr b)]
  ·rw[zx b,zx (by omega)]
theorem cx{L:Ub}(v:VLev L){n:Nat}(b:n<L.2.length):VI (L,(n:Int))=zo (decide ((n:Int)=(L.2.length:Int)-1)):=by
 have a:=v.len;unfold VI ZU;simp only[Uf,Uc];rw[nZ v,TW,zx (by omega),UI,zy rfl,TW,Uh (by omega)];unfold Ti;rw[Vr];by_cases h:(n:Int)=(L.2.length:Int)-1
 ·simp[h]
 ·simp[h];omega
theorem gi{a b:List UZ}(va:VL a)(d:VL b)(c:Bool):YU ([a,b],c)=zo (WO a b c 0,(0,0)):=by
 unfold YU ZT WZ;rw[aj va d,TW,UI,zy rfl];refine Eq.trans (b:=bd (bd (WY ([a,b],[((0:Nat):Int),((0:Nat):Int)])) _) _) rfl ?_;rw[Zu va d (iP _) (iP _)];rfl
theorem dZ{L:Ub}{n:Nat}{a b:Uy}(c:Bool)(h:L.2[n]?=zo [a,b])(v0:VL a.2)(v1:VL b.2):Ux (L,((n:Int),c))=zo ((n:Int),WO b.2 a.2 c 0):=by
 have d:=(a8.1 h).1;unfold Ux;simp only[Uf,Uc];rw[UE,zx (by omega),UY,Tq h,Tq (x:=b) rfl,Tq (x:=a) rfl,gi v1 v0];rfl
theorem tq{L:Ub}{n:Nat}{a b:Uy}{j:Job}(h:L.2[n]?=zo [a,b])(v0:VL a.2)(v1:VL b.2){β:Type}(A B:Option β) :
  (bd (Ux (L,((n:Int),j.2.2.1.2.2))) λc=>bd (U5 c.2) λg=>br (Tk j.2.2.2.2 0) (λ_=>A) λ_=>br (Ti j.2.2.2.2 g.1) (λ_=>A) λ_=>bd (Uz (c.2,j.2.2.2.2)) λi=>bd (VG (i.1,j.2)) λl=>br (Hl l) (λ_=>A) λ_=>B)
  = if j.2.2.2.2<0\/j.2.2.2.2>((b.2.length+a.2.length:Nat):Int)then A else if WO b.2 a.2 j.2.2.1.2.2 j.2.2.2.2.toNat=j.2 then B else A:=by
 rw[dZ _ h v0 v1,TW,ak v1 v0 _ (iP _),TW,UH,UF,l4];by_cases e:j.2.2.2.2<0
 ·rw[zy e,zy (.inl e)]
 rw[zx e];by_cases f:j.2.2.2.2>((b.2.length+a.2.length:Nat):Int)
 ·rw[zy f,zy (.inr f)]
 rw[zx f,zx (show ¬ (j.2.2.2.2<0\/j.2.2.2.2>((b.2.length+a.2.length:Nat):Int)) by omega)];obtain⟨k,m⟩:∃ k:Nat,j.2.2.2.2=(k:Int):=⟨j.2.2.2.2.toNat,by omega⟩;rw[m,c0 v1 v0 _ (iP _),TW,l4,eg,tw (by omega),bl];obtain⟨s1,s2,o,p,q,r⟩:=bT v1 v0 j.2.2.1.2.2 (n:=k) (by omega);rw[cu _ _ s1 s2 o p q r,TW,Vr,V3];by_cases d:WO b.2 a.2 j.2.2.1.2.2 k=j.2
 ·rw[zx (by simp[d]),zy d]
 ·rw[zy d,zx d]
end
section
open Go Sv
theorem eL(s:UX)(J:s.1.2.length<=9223372036854775807)(hr:∀ rs∈s.1.2,rs.length<=9223372036854775807 /\ ∀ r∈rs,r.2.length<=9223372036854775807)(hj:s.2.1.length<=9223372036854775807):VZ s=zo (Ua s):=by
 unfold VZ Ua;simp only[Uf,Uc];rw[jv _ J hr,TW,UD];by_cases o:(WM s.1).2.2=0;rotate_left
 ·rw[zx o,zy o,UD,zx o,UI,zx o]
 rw[zy o,zx (show ¬ (WM s.1).2.2≠0 by simp[o]),UH,UF];have v:=Ye.1 o;by_cases y:s.2.2<1
 ·rw[zy y,zy (.inl y)]
 rw[zx y];by_cases p:s.2.2>1000001
 ·rw[zy p,zy (.inr p)]
 rw[zx p,zx (show ¬ (s.2.2<1\/s.2.2>1000001) by omega),UD,zy o,eK v,TW,UG];by_cases m:s.2.2<=XN s.1.2
 ·rw[zy m,zy m]
 rw[zx m,zx m,UI,zy o,bH (by have:=v.len;omega),TW];obtain⟨a,g⟩:∃ a,a=Ug 0 s.1.2:=⟨_,rfl⟩;have hdl:a.length<=12:=by have:=Wa s.1.2 0;have:=v.len;rw[g];omega
 rw[<- g];obtain⟨T,Z⟩:∃ T,T=Xi s.1 a 0 s.2.1:=⟨_,rfl⟩;rw[<- Z]
 obtain⟨r,q1,D⟩:=Xj (l:=s.2.1) (σ:=Unit) (λi _=>((0:Int),((0:Int),(i:Int)))) (λjs i _=>Xi s.1 a i js=T) (λ(r:Nat×((Int×(Int×Int))×Unit))=>(T=zn/\r.1=1)\/(∃ i:Nat,T=zo i/\r.1=0/\r.2.1.1=6/\r.2.1.2.1=(i:Int)))
  (f:=λb=>br (Tk b.2.2 (s.2.1.length:Int)) (λ_=>SW b.2.2 λk7=>ix s.2.1 k7 λe=>br (SR b.2.2 (a.length:Int)) (λ_=>zo (.dn ((0,((6,(b.2.2,b.2.2)),()))))) λ_=>SW b.2.2 λk9=>ix a k9 λX=>br (SS e.1 X) (λ_=>zo (.dn ((0,((6,(b.2.2,b.2.2)),()))))) λ_=>br e.2.2.1.2.2 (λ_=>bd (VI (s.1,e.1)) λM=>br (Hl M) (λ_=>zo (.dn ((0,((6,(b.2.2,b.2.2)),()))))) λ_=>bd (Ux ((s.1,(e.1,e.2.2.1.2.2)))) λG=>bd (U5 G.2) λN=>br (Tk e.2.2.2.2 0) (λ_=>zo (.dn ((0,((6,(b.2.2,b.2.2)),()))))) λ_=>br (Ti e.2.2.2.2 N.1) (λ_=>zo (.dn ((0,((6,(b.2.2,b.2.2)),()))))) λ_=>bd (Uz (G.2,e.2.2.2.2)) λO=>bd (VG (O.1,e.2)) λP=>br (Hl P) (λ_=>zo (.dn ((0,((6,(b.2.2,b.2.2)),()))))) λ_=>zo (.nx ((b.1,(b.2.1,So .i64 b.2.2 1))))) λ_=>bd (Ux ((s.1,(e.1,e.2.2.1.2.2)))) λI=>bd (U5 I.2) λS=>br (Tk e.2.2.2.2 0) (λ_=>zo (.dn ((0,((6,(b.2.2,b.2.2)),()))))) λ_=>br (Ti e.2.2.2.2 S.1) (λ_=>zo (.dn ((0,((6,(b.2.2,b.2.2)),()))))) λ_=>bd (Uz (I.2,e.2.2.2.2)) λU=>bd (VG (U.1,e.2)) λW=>br (Hl W) (λ_=>zo (.dn ((0,((6,(b.2.2,b.2.2)),()))))) λ_=>zo (.nx ((b.1,(b.2.1,So .i64 b.2.2 1))))) λ_=>zo (.dn ((1,(b,())))))
  (s:=(0,(0,0))) () rfl (by omega) Z.symm (λ_ h=>by
   refine⟨_,by simp only;rw[re];rfl,.inl ⟨by rw[<- h];rfl,rfl⟩⟩) (λi j js _ hd hx hi h=>by
   simp only;rw[rl hi,TB,UY,Tq hx,UE];unfold Xi at h
   have c:aQ s.1 a i j=zt -> ∃ r:Nat×((Int×(Int×Int))×Unit),(zo (LR.dn ((0,((6,((i:Int),(i:Int))),()))):LR (Int×(Int×Int)) _))=zo (.dn r)/\((T=zn/\r.1=1)\/(∃ i:Nat,T=zo i/\r.1=0/\r.2.1.1=6/\r.2.1.2.1=(i:Int))):=λJ=>by
    rw[zy J]at h;exact⟨_,rfl,.inr ⟨i,h.symm,rfl,rfl,rfl⟩⟩
   have x:aQ s.1 a i j=zf -> ∃ st':Unit,(zo (LR.nx ((0:Int),((0:Int),So .i64 (i:Int) 1))):Option (LR _ (Nat×((Int×(Int×Int))×Unit))))=zo (.nx ((0:Int),((0:Int),((i+1:Nat):Int))))/\Xi s.1 a (i+1) js=T:=λhg=>by
    rw[zx (by simp[hg])]at h;exact⟨(),by rw[Uk hx (by omega)],h⟩
   by_cases y:(i:Int)>=(a.length:Int)
   ·rw[zy y];exact .inr (c (by unfold aQ;rw[a9 (by omega)]))
   rw[zx y,UY];have w:a[i]?=zo (a[i]'(by omega)):=by simp
   rw[Tq w,UI];obtain⟨n,K,E,F,t⟩:=Yw (ls:=s.1.2) (i:=0) (k:=i) (d:=a[i]'(by omega)) (by rw[<- g];exact w);rw[eg]at K
   have q:aQ s.1 a i j=(if j.1≠(a[i]'(by omega))then zt else if j.2.2.1.2.2=zt/\j.1≠(s.1.2.length:Int)-1 then zt else if j.2.2.2.2<0\/j.2.2.2.2>((F.2.length+E.2.length:Nat):Int)then zt else decide (WO F.2 E.2 j.2.2.1.2.2 j.2.2.2.2.toNat≠j.2)):=by
    unfold aQ;rw[w];simp only;rw[K,bl,t]
   by_cases p:j.1=(a[i]'(by omega));rotate_left
   ·rw[zx p];exact .inr (c (by rw[q,zy p]))
   rw[zy p];rw[zx (by simp[p])]at q;have C:j.1=(n:Int):=by rw[p,K]
   have hv:=(v.lev n _ t).2;have v0:=(hv E (by simp)).vl;have v1:=(hv F (by simp)).vl;have L:=(a8.1 t).1;rw[C,cx v L,TW,Vr,V3,tq t v0 v1,UL];rw[C]at q;by_cases m:j.2.2.1.2.2=zt/\(n:Int)≠(s.1.2.length:Int)-1
   ·rw[zy m.1,zy m.2];exact .inr (c (by rw[q,zy m]))
   rw[zx m]at q
   have h4:∀ {γ:Type} (A B:γ),(if j.2.2.1.2.2=zt then if ¬(n:Int)=(s.1.2.length:Int)-1 then A else B else B)=B:=by
    intro γ A B;by_cases u:j.2.2.1.2.2=zt
    ·rw[zy u,zx (λz=>m ⟨u,z⟩)]
    ·rw[zx u]
   rw[h4];by_cases u:j.2.2.2.2<0\/j.2.2.2.2>((F.2.length+E.2.length:Nat):Int)
   ·rw[zy u];exact .inr (c (by rw[q,zy u]))
   rw[zx u];rw[zx u]at q;by_cases z:WO F.2 E.2 j.2.2.1.2.2 j.2.2.2.2.toNat=j.2
   ·rw[zy z];exact .inl (x (by rw[q];simp[z]))
   ·rw[zx z]
    exact .inr (c (by rw[q];simp[z])))
 refine Ut q1 ?_;rw[TX];rcases D with⟨D,q3⟩|⟨i,D,q3,q4,q5⟩
 ·rw[zx (show ¬ r.1=0 by omega),D,UH];simp only;by_cases Y:s.2.1.length<a.length
  ·rw[zy (by omega),zy Y]
  ·rw[zx (by omega),zx Y]
 ·rw[zy q3,D,q4,q5]
theorem fb(s:UX)(b:s.1.2.length<=1048576)(a:∀ rs∈s.1.2,rs.length<=1048576 /\ ∀ r∈rs,r.2.length<=9223372036854775807)(c:s.2.1.length<=1048576):VZ s=zo (Ua s):=eL s (by omega) (λrs h=>⟨by have:=(a rs h).1;omega,(a rs h).2⟩) (by omega)
end
section
open Go Sv
def JobAt(L:Ub)(n:Nat)(j:Job):Prop:=∃ a b c k,L.2[n]?=zo [a,b]/\j=((n:Int),WO b.2 a.2 c k)/\k<=b.2.length+a.2.length/\(c=zt->n+1=L.2.length)/\VL a.2/\VL b.2
structure VSt (s:UX):Prop where
 lev:VLev s.1
 n1:1<=s.2.2
 n2:s.2.2<=1000001
 n3:XN s.1.2<s.2.2
 due:s.2.1.map (·.1)=Ug 0 s.1.2
 job:∀ j∈s.2.1,∃ n,JobAt s.1 n j
theorem cL(a b:List UZ)(c:Bool)(k:Nat):(WO a b c k).2.1.2.2=c:=by
 show(Vp (s0 c) (Uq a b k)).2.2=c;rw[YG]
theorem cY{L:Ub}(v:VLev L){i:Nat}{j:Job}:aQ L (Ug 0 L.2) i j=zf <-> ∃ n,(Ug 0 L.2)[i]?=zo j.1/\JobAt L n j:=by
 constructor
 ·intro h;unfold aQ at h;cases hd:(Ug 0 L.2)[i]? with
  |none=>rw[hd]at h;cases h
  |some d=>
   rw[hd]at h;simp only at h;by_cases e:j.1=d;rotate_left
   ·rw[zy e]at h;cases h
   rw[zx (by simp[e])]at h;by_cases f:j.2.2.1.2.2=zt/\j.1≠(L.2.length:Int)-1
   ·rw[zy f]at h;cases h
   rw[zx f]at h;obtain⟨n,l,a,b,c⟩:=Yw hd;rw[eg]at l;rw[l,bl,c]at h;simp only at h;by_cases o:j.2.2.2.2<0\/j.2.2.2.2>((b.2.length+a.2.length:Nat):Int)
   ·rw[zy o]at h;cases h
   rw[zx o]at h;have r:WO b.2 a.2 j.2.2.1.2.2 j.2.2.2.2.toNat=j.2:=by simpa using h
   have q:=(v.lev n _ c).2;refine⟨n,by rw[e],a,b,j.2.2.1.2.2,j.2.2.2.2.toNat,c,s9 (by rw[e,l]) r.symm,by omega,λg=> ?_,(q a (by simp)).vl,(q b (by simp)).vl⟩
   have s:j.1=(L.2.length:Int)-1:=by
    by_cases p:j.1=(L.2.length:Int)-1
    ·exact p
    ·exact absurd ⟨g,p⟩ f
   omega
 ·rintro⟨n,hd,a,b,m,k,c,rfl,t,g,v0,v1⟩;unfold aQ;rw[hd];simp only;rw[zx (by simp),cL,zx (λh:m=zt/\(n:Int)≠(L.2.length:Int)-1=>h.2 (by have:=g h.1;omega)),bl,c];simp only;rw[show(WO b.2 a.2 m k).2.2.2=(k:Int)from rfl,zx (by omega),bl];simp
theorem aB{L:Ub}{a:List Int}:∀ {js:List Job} {i:Nat},Xi L a i js=zn <-> ∀ k j,js[k]?=zo j->aQ L a (i+k) j=zf
 |[],i=>by simp[Xi]
 |j::js,i=>by
  unfold Xi;by_cases h:aQ L a i j=zt
  ·rw[zy h];simp only[reduceCtorEq,false_iff];intro b;have:=b 0 j rfl;rw[Nat.add_zero,h]at this;cases this
  ·rw[zx h,aB (js:=js)];constructor
   ·intro b k j' c;cases k with
    |zero=>cases c;simpa using h
    |succ k=>rw[show i+(k+1)=i+1+k by omega];exact b k j' c
   ·intro b k j' c;rw[show i+1+k=i+(k+1) by omega];exact b (k+1) j' c
theorem Ue{s:UX}:(Ua s).2=0<->VSt s:=by
 unfold Ua;constructor
 ·intro h;by_cases d:(WM s.1).2.2≠0
  ·rw[zy d]at h;exact absurd h d
  rw[zx d]at h;have v:=Ye.1 (Decidable.not_not.1 d);by_cases f:s.2.2<1\/s.2.2>1000001
  ·rw[zy f]at h;cases h
  rw[zx f]at h;by_cases g:s.2.2<=XN s.1.2
  ·rw[zy g]at h;cases h
  rw[zx g]at h;cases b:Xi s.1 (Ug 0 s.1.2) 0 s.2.1 with
  |some i=>rw[b]at h;cases h
  |none=>
   rw[b]at h;simp only at h;by_cases l:s.2.1.length<(Ug 0 s.1.2).length
   ·rw[zy l]at h;cases h
   have m:=aB.1 b
   have c:∀ k j,s.2.1[k]?=zo j -> ∃ n,(Ug 0 s.1.2)[k]?=zo j.1/\JobAt s.1 n j:=λk j a=>by
    have:=m k j a;rw[eg]at this;exact(cY v).1 this
   refine⟨v,by omega,by omega,by omega,?_,λj o=> ?_⟩
   ·apply List.ext_getElem?;intro k;rw[s8];cases a:s.2.1[k]? with
    |some j=>obtain⟨n,e,_⟩:=c k j a;rw[e];rfl
    |none=>
     have:=List.getElem?_eq_none_iff.1 a;rw[a9 (by omega)];rfl
   ·obtain⟨k,a⟩:=eo o;obtain⟨n,_,h⟩:=c k j a;exact⟨n,h⟩
 ·intro v;rw[zx (by simp[Ye.2 v.lev]),zx (by have:=v.n1;have:=v.n2;omega),zx (by have:=v.n3;omega)]
  have b:Xi s.1 (Ug 0 s.1.2) 0 s.2.1=zn:=aB.2 λk j a=>by
   rw[eg];obtain⟨n,p⟩:=v.job j (bo a);exact(cY v.lev).2 ⟨n,by rw[<- v.due,s8,a];rfl,p⟩
  rw[b];simp only;rw[zx (by rw[<- v.due];simp)]
structure Sm (s:UX):Prop where
 lv:s.1.2.length<=1048576
 rs:∀ rs∈s.1.2,rs.length<=1048576 /\ ∀ r∈rs,r.2.length<=9223372036854775807
 js:s.2.1.length<=1048576
theorem uL{s:UX}(m:Sm s):VV s=zo (Ua s):=gS s m.lv m.rs m.js
theorem kW{s:UX}(m:Sm s):VZ s=zo (Ua s):=fb s m.lv m.rs m.js
theorem VSt.jlen{s:UX}(v:VSt s):s.2.1.length=(Ug 0 s.1.2).length:=by rw[<- v.due];simp
theorem VSt.jsmall{s:UX}(v:VSt s):s.2.1.length<=12:=by
 have:=v.jlen;have:=Wa s.1.2 0;have:=v.lev.len;omega
theorem VSt.sm{s:UX}(v:VSt s):Sm s:=⟨v.lev.small.1,v.lev.small.2,by have:=v.jsmall;omega⟩
def ap(x:Int):Nat->List Int->Option Nat
 |_,[]=>zn
 |k,y::l=>if y=x then zo k else ap x (k+1) l
theorem gQ{x:Int}:∀ {l:List Int} {k i:Nat},ap x k l=zo i->k<=i/\l[i-k]?=zo x
 |[],_,_,h=>by cases h
 |y::l,k,i,h=>by
  unfold ap at h;by_cases e:y=x
  ·rw[zy e]at h;cases h;simp[e]
  ·rw[zx e]at h;obtain⟨b,a⟩:=gQ h;exact⟨by omega,by rw[show i-k=(i-(k+1))+1 by omega];simpa using a⟩
theorem dz{x:Int}:∀ {l:List Int} {k:Nat},x∈l -> ∃ i,ap x k l=zo i
 |[],_,h=>by cases h
 |y::l,k,h=>by
  unfold ap;by_cases e:y=x
  ·rw[zy e];exact⟨k,rfl⟩
  ·rw[zx e];exact dz (by rcases ey.1 h with h|h;exact absurd h.symm e;exact h)
def ZJ(s:UX)(a:Int):Int×Int:=if(Ua s).2≠0 then(0,(Ua s).2)else match ap a 0 (Ug 0 s.1.2)with
 |some i=>((i:Int),0)
 |none=>(0,4)
theorem dy{s:UX}(m:Sm s)(a:Int):Xn (s,a)=zo (ZJ s a):=by
 unfold Xn ZJ;simp only[Uf,Uc];rw[uL m,TW,UI];by_cases b:(Ua s).2=0;rotate_left
 ·rw[zx b,zy b]
 rw[zy b,zx (show ¬ (Ua s).2≠0 by simp[b])];have v:=Ue.1 b;have w:=v.jsmall;rw[<- v.due];obtain⟨T,g⟩:∃ T,T=ap a 0 (s.2.1.map (·.1)):=⟨_,rfl⟩;rw[<- g]
 obtain⟨r,q,c⟩:=Xj (l:=s.2.1) (σ:=Unit) (s:=((0:Int),(0:Int))) (λk _=>((0:Int),(k:Int))) (λjs k _=>ap a k (js.map (·.1))=T) (λ(r:Nat×((Int×Int)×Unit))=>(r.1=1/\T=zn)\/(r.1=0 /\ ∃ i:Nat,T=zo i/\r.2.1.1=(i:Int)))
  (f:=λs1=>br (Tk s1.2 (s.2.1.length:Int)) (λ_=>SW s1.2 λp=>ix s.2.1 p λu=>br (O3 u.1 a) (λ_=>zo (.dn ((0,((s1.2,s1.2),()))))) λ_=>zo (.nx (s1.1,So .i64 s1.2 1))) λ_=>zo (.dn ((1,(s1,())))))
  () rfl (by omega) g.symm (λ_ h=>⟨_,by simp only;rw[re];rfl,.inl ⟨rfl,by rw[<- h];rfl⟩⟩) (λk j js _ hd n o h=>by
   simp only;rw[rl o,TB,UY,Tq n,UD];unfold ap at h;simp only[ol]at h;by_cases e:j.1=a
   ·rw[zy e];rw[zy e]at h;exact .inr ⟨_,rfl,.inr ⟨rfl,k,h.symm,rfl⟩⟩
   ·rw[zx e];rw[zx e]at h
    exact .inl ⟨(),by rw[Uk n (by omega)],h⟩)
 refine Ut q ?_;rw[TX];rcases c with⟨c,d⟩|⟨c,i,d,t⟩
 ·rw[zx (show ¬ r.1=0 by omega),d];rfl
 ·rw[zy c,d,t,UH,zx (by omega)]
theorem fe{s:UX}(m:Sm s):Wr s=zo (if(Ua s).2≠0 then([],(Ua s).2)else(Ug 0 s.1.2,0)):=by
 unfold Wr;rw[kW m,TW,UI];by_cases a:(Ua s).2=0
 ·rw[zy a,zx (show ¬ (Ua s).2≠0 by simp[a]),bH (by have:=(Ue.1 a).lev.len;omega),TW]
 ·rw[zx a,zy a]
theorem aH{s:UX}(m:Sm s)(a:Int):Vb (s,a)=zo (ZJ s a):=by
 unfold Vb ZJ;simp only[Uf,Uc];rw[fe m,TW,UI];by_cases c:(Ua s).2=0;rotate_left
 ·rw[zy c,zx c,zy c]
 rw[zx (show ¬ (Ua s).2≠0 by simp[c]),zy rfl,zx (show ¬ (Ua s).2≠0 by simp[c])];have v:=Ue.1 c;have z:=v.jsmall;have hd:=v.jlen;obtain⟨b,d⟩:∃ b,b=Ug 0 s.1.2:=⟨_,rfl⟩;rw[<- d]at hd ⊢;obtain⟨T,o⟩:∃ T,T=ap a 0 b:=⟨_,rfl⟩;rw[<- o];simp only
 obtain⟨r,u,g⟩:=Xj (l:=b) (σ:=Unit) (s:=((0:Int),((0:Int),(0:Int)))) (λk _=>((0:Int),((0:Int),(k:Int)))) (λjs k _=>ap a k js=T) (λ(r:Nat×((Int×(Int×Int))×Unit))=>(r.1=1/\T=zn)\/(r.1=0 /\ ∃ i:Nat,T=zo i/\r.2.1.2.1=(i:Int)/\r.2.1.1=0))
  (f:=λs1=>br (Tk s1.2.2 (b.length:Int)) (λ_=>SW s1.2.2 λt=>ix b t λy=>br (O3 y a) (λ_=>zo (.dn ((0,((0,(s1.2.2,s1.2.2)),()))))) λ_=>zo (.nx ((s1.1,(s1.2.1,So .i64 s1.2.2 1))))) λ_=>zo (.dn ((1,(s1,())))))
  () rfl (by omega) o.symm (λ_ h=>⟨_,by simp only;rw[re];rfl,.inl ⟨rfl,by rw[<- h];rfl⟩⟩) (λk j js _ hd p q h=>by
   simp only;rw[rl q,TB,UY,Tq p,UD];unfold ap at h;by_cases e:j=a
   ·rw[zy e];rw[zy e]at h;exact .inr ⟨_,rfl,.inr ⟨rfl,k,h.symm,rfl,rfl⟩⟩
   ·rw[zx e];rw[zx e]at h
    exact .inl ⟨(),by rw[Uk p (by omega)],h⟩)
 refine Ut u ?_;rw[TX];rcases g with⟨g,n⟩|⟨g,i,n,w,x⟩
 ·rw[zx (show ¬ r.1=0 by omega),n]
 ·rw[zy g,n,w,x]
end
section
open Go Sv
def Uo(L:Ub)(j:Job):Nat:=match L.2[j.1.toNat]? with
 |some [r0,r1]=>r1.2.length+r0.2.length-j.2.2.2.2.toNat
 |_=>0
def Wo(L:Ub)(j:Job):Bool:=decide ((j.2.2.2.1.length:Int)<=VD L.1 j.1.toNat)
def Zi(L:Ub)(n:Nat):Bool:=decide (n<12/\((L.2[n]?).getD []).length<2)
def W4(L:Ub)(j:Job):Bool:=decide (0<Uo L j)||(Wo L j||Zi L (j.1.toNat+1))
def cF(s:UX)(a:Int):Option Job:=match ap a 0 (Ug 0 s.1.2)with
 |some i=>s.2.1[i]?
 |none=>zn
theorem VSt.at{s:UX}(v:VSt s){a:Int}{i:Nat}(h:ap a 0 (Ug 0 s.1.2)=zo i):∃ (j:Job) (n:Nat),s.2.1[i]?=zo j/\a=(n:Int)/\j.1=(n:Int)/\JobAt s.1 n j/\n<s.1.2.length:=by
 obtain⟨_,b⟩:=gQ h;rw[l4]at b;rw[<- v.due,s8]at b;cases c:s.2.1[i]? with
 |none=>rw[c]at b;cases b
 |some j=>
  rw[c]at b;simp only[xT,Option.some.injEq]at b;obtain⟨n,g⟩:=v.job j (bo c);have d:=g;obtain⟨o,p,m,k,l,e,_⟩:=g;have f:j.1=(n:Int):=by rw[e]
  exact⟨j,n,rfl,by rw[<- b,f],f,d,(a8.1 l).1⟩
theorem JobAt.left{L:Ub}{n:Nat}{j:Job}(h:JobAt L n j):VK j.2=zo ((Uo L j:Int),0)/\U5 j.2=zo ((Uo L j:Int),0)/\Uo L j<=10000:=by
 obtain⟨b,c,a,k,f,rfl,d,_,v0,v1⟩:=h;have g:=v0.len;have i:=v1.len
 have e:Uo L ((n:Int),WO c.2 b.2 a k)=c.2.length+b.2.length-k:=by
  unfold Uo;simp only[bl,f];show c.2.length+b.2.length-((k:Int)).toNat=_;rw[bl]
 rw[e];exact⟨bm v1 v0 a d,ak v1 v0 a d,by omega⟩
theorem kO{L:Ub}(v:VLev L){n:Nat}(c:n<12):YQ (L.1,(n:Int))=zo (VD L.1 n,0):=by
 have a:=v.B1;have b:=v.B2;unfold YQ;rw[UH,zx (by omega),UF,zx (by omega),UH,zx (by omega),UE,zx (by omega),bY a b (by omega)];have:SR (n:Int) 0=zt:=by unfold SR;simp
 rw[this];rfl
theorem nU{L:Ub}(v:VLev L){n:Nat}(c:n<12):Yr (L.1,(n:Int))=zo (VD L.1 n,0):=by
 have a:=v.B1;have b:=v.B2;unfold Yr;rw[UH,zx (by omega),UF,zx (by omega),UH,zx (by omega),UE,zx (by omega),cz a b (by omega),TW]
theorem eF{L:Ub}(v:VLev L)(k:Int):Xo (L,k)=zo (if k<0\/k>=12 then 7 else 0):=by
 obtain⟨c,d⟩:=v.small;unfold Xo;rw[Zr _ c d,XO v,TW,UI,zy rfl,UH,UE];by_cases a:k<0
 ·rw[zy a,zy (.inl a)]
 ·rw[zx a];by_cases b:k>=12
  ·rw[zy b,zy (.inr b)]
  ·rw[zx b,zx (by omega)]
theorem nG(l:List Uy):Tk (l.length:Int) 2=decide (l.length<2):=by
 unfold Tk;rw[decide_eq_decide];omega
theorem ba{L:Ub}(v:VLev L){n:Nat}(d:n<=12):WB (L,(n:Int))=zo (Zi L n,if n>=12 then 7 else 0):=by
 unfold WB Zi;simp only[Uf,Uc];rw[eF v,TW,UI];by_cases h:n>=12
 ·rw[zy (show(n:Int)<0\/(n:Int)>=12 by omega),zx (by decide),zy h];simp;omega
 ·rw[zx (show ¬ ((n:Int)<0\/(n:Int)>=12) by omega),zy rfl,zx h,UH];have a:n<12:=by omega
  by_cases c:n<L.2.length
  ·have b:L.2[n]?=zo (L.2[n]'c):=by simp
   rw[zy (by omega),UY,Tq b,b,nG,hI];simp[a]
  ·rw[zx (by omega),a9 (by omega)];simp[a]
theorem nj{s:UX}(v:VLev s.1){n:Nat}(c:n<12):Ys (s,(n:Int))=zo (Zi s.1 (n+1)):=by
 unfold Ys Zi;simp only[Uf,Uc];rw[Uh (by omega),UH];by_cases h:n+1<12
 ·rw[zy (by omega),UE];by_cases b:n+1<s.1.2.length
  ·have a:s.1.2[n+1]?=zo (s.1.2[n+1]'b):=by simp
   rw[zx (by omega),UY,Tq a,a,nG,hI];simp[h]
  ·rw[zy (by omega),a9 (by omega)];simp[h]
 ·rw[zx (by omega)];simp;omega
abbrev AA9:=UX×(Job×Int)
theorem dF{s:UX}(v:VLev s.1){n:Nat}{j:Job}(a:j.1=(n:Int))(b:n<12)(l:Int):VF (s,(j,l))=zo (Wo s.1 j):=by
 unfold VF Wo;simp only[Uf,Uc];rw[a,kO v b,TW,UD,zy rfl,bl];rfl
theorem da{s:UX}(v:VLev s.1){n:Nat}{j:Job}(a:j.1=(n:Int))(b:n<12):W2 (s,j)=zo (Wo s.1 j):=by
 unfold W2 Wo;simp only[Uf,Uc];rw[a,nU v b,TW,bl];rfl
theorem na{s:UX}(v:VLev s.1){n:Nat}{j:Job}(a:j.1=(n:Int))(b:n<12)(l:Int):WQ (s,(j,l))=zo (Zi s.1 (n+1)):=by
 unfold WQ;simp only;rw[a,Uh (by omega),ba v (by omega),TW,UD];by_cases h:n+1>=12
 ·rw[zy h,zx (show ¬ (7:Int)=0 by decide)];unfold Zi;simp;omega
 ·rw[zx h,zy rfl]
theorem du{s:UX}(v:VLev s.1){n:Nat}{j:Job}(a:j.1=(n:Int))(b:n<12)(l:Nat)(d:l=Uo s.1 j):VO (s,(j,(l:Int)))=zo (W4 s.1 j):=by
 have c:U0 (s,(j,(l:Int)))=zo (decide (0<Uo s.1 j)):=by
  unfold U0 Ti;rw[d];simp
 have e1:=dF v a b (l:Int);have e2:=na v a b (l:Int);unfold VO W4;rw[c,e1,e2,a,bl];simp only[TW];cases e:decide (0<Uo s.1 j)with
 |true=>exact Ut (x:=(0,((0,zt),()))) (Vn (n:=1) (by omega) (U6 rfl)) rfl
 |false=>
  cases f:Wo s.1 j with
  |true=>exact Ut (x:=(0,((1,zt),()))) (Vn (n:=2) (by omega) ((U1 (s':=(1,zf)) rfl).trans (U6 rfl))) rfl
  |false=>
   cases g:Zi s.1 (n+1)with
   |true=>exact Ut (x:=(0,((2,zt),()))) (Vn (n:=3) (by omega) ((U1 (s':=(1,zf)) rfl).trans ((U1 (s':=(2,zf)) rfl).trans (U6 rfl)))) rfl
   |false=>exact Ut (x:=(1,((3,zf),()))) (Vn (n:=4) (by omega) ((U1 (s':=(1,zf)) rfl).trans ((U1 (s':=(2,zf)) rfl).trans ((U1 (s':=(3,zf)) rfl).trans (U6 rfl))))) rfl
end
section
open Go Sv
def XS{α:Type}(z:α)(f:UX->Job->α×Int)(s:UX)(a:Int):α×Int:=if(Ua s).2≠0 then(z,(Ua s).2)else match cF s a with
 |some j=>f s j
 |none=>(z,4)
def z0:AA9:=(((0,[]),([],0)),((0,(([],([],([],([],0)))),((zf,([],zf)),([],0)))),0))
theorem eW{s:UX}(m:Sm s)(a:Int):V8 (s,a)=zo (XS z0 (λs j=>((s,(j,(Uo s.1 j:Int))),0)) s a):=by
 unfold V8;rw[dy m,TW];unfold XS cF ZJ;by_cases b:(Ua s).2=0;rotate_left
 ·rw[zy b,UI,zx b,zy b];rfl
 rw[zx (show ¬ (Ua s).2≠0 by simp[b]),zx (show ¬ (Ua s).2≠0 by simp[b])];have v:=Ue.1 b;cases e:ap a 0 (Ug 0 s.1.2)with
 |none=>rfl
 |some i=>
  obtain⟨j,n,c,g,f,d,h⟩:=v.at e;simp only;rw[UI,zy rfl,UY,Tq c,c,(JobAt.left d).1,TW]
theorem wa{s:UX}(m:Sm s)(a:Int):YO (s,a)=zo (XS zf (λs j=>(W4 s.1 j,0)) s a):=by
 unfold YO;rw[eW m,TW];unfold XS;by_cases b:(Ua s).2=0;rotate_left
 ·rw[zy b,UI,zx b,zy b]
 rw[zx (show ¬ (Ua s).2≠0 by simp[b]),zx (show ¬ (Ua s).2≠0 by simp[b])];have v:=Ue.1 b;unfold cF;cases d:ap a 0 (Ug 0 s.1.2)with
 |none=>rfl
 |some i=>
  obtain⟨j,n,e,g,c,f,h⟩:=v.at d;have:=v.lev.len;simp only[e];rw[UI,zy rfl,du v.lev c (by omega) _ rfl,TW]
theorem Zh{s:UX}(m:Sm s)(a:Int):Vt (s,a)=zo (XS 0 (λs j=>((Uo s.1 j:Int),0)) s a):=by
 unfold Vt;rw[aH m,TW];unfold XS cF ZJ;by_cases b:(Ua s).2=0;rotate_left
 ·rw[zy b,UI,zx b,zy b]
 rw[zx (show ¬ (Ua s).2≠0 by simp[b]),zx (show ¬ (Ua s).2≠0 by simp[b])];have v:=Ue.1 b;cases e:ap a 0 (Ug 0 s.1.2)with
 |none=>rfl
 |some i=>
  obtain⟨j,n,c,g,f,d,h⟩:=v.at e;simp only[c];rw[UI,zy rfl,UY,Tq c,(JobAt.left d).2.1,TW]
theorem eJ{s:UX}(m:Sm s)(a:Int):XC (s,a)=zo (XS zf (λs j=>(W4 s.1 j,0)) s a):=by
 unfold XC;rw[Zh m,TW,aH m,TW];unfold XS;by_cases b:(Ua s).2=0;rotate_left
 ·rw[zy b,UI,zx b,zy b]
 rw[zx (show ¬ (Ua s).2≠0 by simp[b]),zx (show ¬ (Ua s).2≠0 by simp[b])];have v:=Ue.1 b;unfold cF ZJ;cases f:ap a 0 (Ug 0 s.1.2)with
 |none=>rfl
 |some i=>
  obtain⟨j,n,e,g,c,h,k⟩:=v.at f;have:=v.lev.len;rw[zx (show ¬ (Ua s).2≠0 by simp[b])];simp only[e];rw[UI,zy rfl,UF,UY,Tq e,da v.lev c (by omega),TW,g,nj v.lev (by omega),TW];unfold W4;rw[c,bl];by_cases d:0<Uo s.1 j
  ·rw[zy (by omega)];simp[d]
  ·rw[zx (by omega)];cases Wo s.1 j<;>simp[d,TB,Sd]
def bO(s:UX)(j:Job):Int×Int:=if 0<Uo s.1 j then(0,9)else if Wo s.1 j=zt then(j.1,0)else(j.1+1,0)
theorem xj{s:UX}(m:Sm s)(a:Int):ZY (s,a)=zo (XS 0 bO s a):=by
 unfold ZY;rw[eW m,TW];unfold XS;by_cases b:(Ua s).2=0;rotate_left
 ·rw[zy b,UI,zx b,zy b]
 rw[zx (show ¬ (Ua s).2≠0 by simp[b]),zx (show ¬ (Ua s).2≠0 by simp[b])];have v:=Ue.1 b;unfold cF;cases f:ap a 0 (Ug 0 s.1.2)with
 |none=>rfl
 |some i=>
  obtain⟨j,n,g,h,c,k,l⟩:=v.at f;have:=v.lev.len;simp only[g];unfold U0 bO;rw[UI,zy rfl,TW,UF,dF v.lev c (by omega),TW,h,Uh (by omega),c];by_cases e:0<Uo s.1 j
  ·rw[zy (show((Uo s.1 j:Int))>0 by omega),zy e]
  ·rw[zx (show ¬ ((Uo s.1 j:Int))>0 by omega),zx e,UL];by_cases d:Wo s.1 j=zt
   ·rw[zy d,zy d]
   ·rw[zx d,zx d];rfl
theorem gh{s:UX}(m:Sm s)(a:Int):X6 (s,a)=zo (XS 0 bO s a):=by
 unfold X6;rw[Zh m,TW,aH m];unfold XS;by_cases b:(Ua s).2=0;rotate_left
 ·rw[zy b,UD,zx b,UI,zx b,zy b]
 rw[zx (show ¬ (Ua s).2≠0 by simp[b]),zx (show ¬ (Ua s).2≠0 by simp[b])];have v:=Ue.1 b;unfold cF ZJ;cases g:ap a 0 (Ug 0 s.1.2)with
 |none=>rfl
 |some i=>
  obtain⟨j,n,f,h,c,k,l⟩:=v.at g;have:=v.lev.len;rw[zx (show ¬ (Ua s).2≠0 by simp[b])];simp only[f];unfold bO;rw[UD,zy rfl,UF];by_cases e:0<Uo s.1 j
  ·rw[zy (show((Uo s.1 j:Int))>0 by omega),zy e]
  ·rw[zx (show ¬ ((Uo s.1 j:Int))>0 by omega),zx e,UI,zy rfl,TW,UY,Tq f,da v.lev c (by omega),TW,UL,h,Uh (by omega),c];by_cases d:Wo s.1 j=zt
   ·rw[zy d,zy d]
   ·rw[zx d,zx d];rfl
theorem tj{s:UX}(m:Sm s):Xr s=zo (if(Ua s).2≠0 then([],(Ua s).2)else(Ug 0 s.1.2,0)):=by
 unfold Xr;simp only[Uf,Uc];rw[uL m,TW,UI];by_cases a:(Ua s).2=0;rotate_left
 ·rw[zx a,zy a]
 rw[zy a,zx (show ¬ (Ua s).2≠0 by simp[a])];have e:=(Ue.1 a).lev.len
 rw[Vo (l:=s.1.2) (σ:=List Int) (s:=((0:Int),([]:List Int))) (λi m=>((i:Int),m)) (λls i m=>m++Ug i ls=Ug 0 s.1.2) (λ_ _ _=>(0,(((s.1.2.length:Int),Ug 0 s.1.2),()))) [] rfl (by omega) rfl (λm h=>by
  simp only;rw[re,Sd,<- h];simp[Ug]) (λi rs ls m hd c hi h=>by
   refine⟨m++(if rs.length=2 then[(i:Int)]else[]),?_,?_,rfl⟩
   ·simp only;rw[rl hi,TB,UY,Tq c,UD]
    have f:m.length<=1000:=by
     have b:=congrArg mR h;have d:=Wa s.1.2 0;rw[gw]at b;omega
    by_cases b:rs.length=2
    ·rw[zy (by omega),zy b,VE (by simp only[BG,ci,co];omega),Uk c (by omega)];rfl
    ·rw[zx (by omega),zx b,gs,Uk c (by omega)]
   ·rw[eb];exact h),TW]
def XB(s:UX):List Int->Option Int
 |[]=>zn
 |d::l=>if(XS zf (λs j=>(W4 s.1 j,0)) s d).1=zt then zo d else XB s l
def Vq(s:UX):Int×Int:=if(Ua s).2≠0 then(0,(Ua s).2)else if Ug 0 s.1.2=[]then(0,4)else match XB s (Ug 0 s.1.2)with
 |some d=>(d,0)
 |none=>(0,9)
theorem VSt.atDue{s:UX}(v:VSt s){d:Int}(h:d∈Ug 0 s.1.2):∃ (j:Job) (n:Nat),cF s d=zo j/\d=(n:Int)/\j.1=(n:Int)/\JobAt s.1 n j/\n<s.1.2.length:=by
 obtain⟨i,b⟩:=dz (k:=0) h;obtain⟨j,n,e,f,a,c,g⟩:=v.at b;exact⟨j,n,by unfold cF;rw[b];exact e,f,a,c,g⟩
theorem tB{s:UX}(m:Sm s):Vw s=zo (Vq s):=by
 unfold Vw Vq;rw[tj m,TW];by_cases a:(Ua s).2=0;rotate_left
 ·rw[zy a,UI,zx a,zy a]
 rw[zx (show ¬ (Ua s).2≠0 by simp[a]),zx (show ¬ (Ua s).2≠0 by simp[a]),UI,zy rfl];have v:=Ue.1 a;have z:(Ug 0 s.1.2).length<=12:=by have:=Wa s.1.2 0;have:=v.lev.len;omega
 simp only[Uf,Uc];rw[UD];by_cases b:Ug 0 s.1.2=[]
 ·rw[zy (by rw[b];rfl),zy b]
 rw[zx (by have:=ee.2 b;omega),zx b];obtain⟨T,q⟩:∃ T,T=XB s (Ug 0 s.1.2):=⟨_,rfl⟩;rw[<- q]
 obtain⟨r,C,u⟩:=Xj (l:=Ug 0 s.1.2) (σ:=Unit) (s:=((0:Int),(zf,((0:Int),(0:Int))))) (λk _=>((0:Int),(zf,((k:Int),(0:Int))))) (λl k _=>XB s l=T) (λ(r:Nat×((Int×(Bool×(Int×Int)))×Unit))=>r.1=1/\((T=zn/\r.2.1.2.1=zf)\/(∃ d,T=zo d/\r.2.1.2.1=zt/\r.2.1.2.2.2=d)))
  (f:=λs1=>br (Tk s1.2.2.1 ((Ug 0 s.1.2).length:Int)) (λ_=>SW s1.2.2.1 λB=>ix (Ug 0 s.1.2) B λw=>bd (V8 (s,w)) λp=>br (SS p.2 0) (λ_=>zo (.dn ((0,((p.2,(s1.2.1,(s1.2.2.1,0))),()))))) λ_=>bd (VO p.1) λE=>br E (λ_=>zo (.dn ((1,((s1.1,(zt,(s1.2.2.1,w))),()))))) λ_=>zo (.nx ((s1.1,(s1.2.1,(So .i64 s1.2.2.1 1,s1.2.2.2)))))) λ_=>zo (.dn ((1,(s1,())))))
  () rfl (by omega) q.symm (λ_ h=>⟨_,by simp only;rw[re];rfl,rfl,.inl ⟨by rw[<- h];rfl,rfl⟩⟩) (λk d l _ hd i A h=>by
   simp only;obtain⟨j,n,t,G,g,F,b⟩:=v.atDue (bo i);have:=v.lev.len;unfold XB at h;have x:XS zf (λs j=>(W4 s.1 j,0)) s d=(W4 s.1 j,0):=by unfold XS;rw[zx (show ¬ (Ua s).2≠0 by simp[a]),t]
   have y:XS z0 (λs j=>((s,(j,(Uo s.1 j:Int))),0)) s d=((s,(j,(Uo s.1 j:Int))),0):=by unfold XS;rw[zx (show ¬ (Ua s).2≠0 by simp[a]),t]
   rw[x]at h;rw[rl A,TB,UY,Tq i,eW m,y,TW,UI,zy rfl,du v.lev g (by omega) _ rfl,TW,UL];by_cases e:W4 s.1 j=zt
   ·rw[zy e];rw[zy e]at h;exact .inr ⟨_,rfl,rfl,.inr ⟨d,h.symm,rfl,rfl⟩⟩
   ·rw[zx e];rw[zx e]at h
    exact .inl ⟨(),by rw[Uk i (by omega)],h⟩)
 refine Ut C ?_;obtain⟨u,c⟩:=u;rw[TX,zx (show ¬ r.1=0 by omega),U4,UL];rcases c with⟨c,o⟩|⟨d,c,o,D⟩
 ·rw[zx (by simp[o]),c]
 ·rw[zy o,c,D]
theorem kT{s:UX}(m:Sm s):Vu s=zo (Vq s):=by
 unfold Vu Vq;rw[fe m,TW];by_cases a:(Ua s).2=0;rotate_left
 ·rw[zy a,UI,zx a,zy a]
 rw[zx (show ¬ (Ua s).2≠0 by simp[a]),zx (show ¬ (Ua s).2≠0 by simp[a]),UI,zy rfl];have v:=Ue.1 a;have o:(Ug 0 s.1.2).length<=12:=by have:=Wa s.1.2 0;have:=v.lev.len;omega
 simp only[Uf,Uc];rw[UD];by_cases b:Ug 0 s.1.2=[]
 ·rw[zy (by rw[b];rfl),zy b]
 rw[zx (by have:=ee.2 b;omega),zx b];obtain⟨T,n⟩:∃ T,T=XB s (Ug 0 s.1.2):=⟨_,rfl⟩;rw[<- n]
 obtain⟨r,u,c⟩:=Xj (l:=Ug 0 s.1.2) (σ:=Unit) (s:=((0:Int),((0:Int),(0:Int)))) (λk _=>((0:Int),((0:Int),(k:Int)))) (λl k _=>XB s l=T) (λ(r:Nat×((Int×(Int×Int))×Unit))=>(r.1=1/\T=zn)\/(r.1=0 /\ ∃ d,T=zo d/\r.2.1.2.1=d/\r.2.1.1=0))
  (f:=λs1=>br (Tk s1.2.2 ((Ug 0 s.1.2).length:Int)) (λ_=>SW s1.2.2 λq=>ix (Ug 0 s.1.2) q λz=>bd (XC (s,z)) λy=>br y.1 (λ_=>SW s1.2.2 λt=>ix (Ug 0 s.1.2) t λA=>zo (.dn ((0,((0,(A,s1.2.2)),()))))) λ_=>zo (.nx ((s1.1,(s1.2.1,So .i64 s1.2.2 1))))) λ_=>zo (.dn ((1,(s1,())))))
  () rfl (by omega) n.symm (λ_ h=>⟨_,by simp only;rw[re];rfl,.inl ⟨rfl,by rw[<- h];rfl⟩⟩) (λk d l _ hd g p h=>by
   simp only;unfold XB at h;rw[rl p,TB,UY,Tq g,eJ m,TW,UL,UY,Tq g];by_cases e:(XS zf (λs j=>(W4 s.1 j,0)) s d).1=zt
   ·rw[zy e];rw[zy e]at h;exact .inr ⟨_,rfl,.inr ⟨rfl,d,h.symm,rfl,rfl⟩⟩
   ·rw[zx e];rw[zx e]at h
    exact .inl ⟨(),by rw[Uk g (by omega)],h⟩)
 refine Ut u ?_;rw[TX];rcases c with⟨c,i⟩|⟨c,d,i,w,x⟩
 ·rw[zx (show ¬ r.1=0 by omega),i]
 ·rw[zy c,i,w,x]
end
section
open Go Sv
theorem tU{β:Type}(k:Unit->Option β):gd zt k=k ():=rfl
def Ud(l:List (List Uy))(i:Nat):List Uy:=(l[i]?).getD []
def Zn(l:List (List Uy)):Nat->Nat
 |0=>0
 |k+1=>if Ud l k=[]then Zn l k else k+1
def Zg(l:List (List Uy))(n:Nat):List (List Uy):=l++ym (n+1-l.length) []
def Xl(l:List (List Uy))(n:Nat)(r:List Uy):List (List Uy):=(Zg l n).set n r
def ZE(l:List (List Uy)):List (List Uy):=l.take (Zn l l.length)
def Va(L:Ub)(n:Nat)(r:List Uy):Ub:=(L.1,ZE (Xl L.2 n r))
theorem dw(l:List (List Uy)):∀ k,Zn l k<=k
 |0=>dc _
 |k+1=>by
  unfold Zn;split
  ·exact Nat.le_succ_of_le (dw l k)
  ·exact dc _
theorem cQ(l:List (List Uy)):∀ {k i:Nat},Zn l k<=i->i<k->Ud l i=[]
 |0,_,_,h=>by omega
 |k+1,i,h1,h2=>by
  unfold Zn at h1;split at h1
  ·rename_i a;by_cases hi:i=k
   ·rw[hi];exact a
   ·exact cQ l h1 (by omega)
  ·omega
theorem dL(l:List (List Uy)):∀ {k m:Nat},Zn l k=m+1->Ud l m≠[]
 |0,m,h=>by cases h
 |k+1,m,h=>by
  unfold Zn at h;split at h
  ·exact dL l h
  ·rename_i a;have:m=k:=by omega
   rw[this];exact a
theorem dX(l:List (List Uy))(i:Nat):Ud (ZE l) i=Ud l i:=by
 unfold ZE;by_cases h:i<Zn l l.length
 ·unfold Ud;rw[q9,zy h]
 ·have a:Ud (l.take (Zn l l.length)) i=[]:=by
   unfold Ud;rw[q9,zx h];rfl
  rw[a];by_cases b:i<l.length
  ·exact(cQ l (by omega) b).symm
  ·unfold Ud;rw[a9 (by omega)];rfl
theorem jR(l:List (List Uy)):(ZE l).getLast? ≠ zo []:=by
 have b:(ZE l).length=Zn l l.length:=by
  have:=dw l l.length;unfold ZE;rw[tg];omega
 cases hd:Zn l l.length with
 |zero=>
  have:ZE l=[]:=List.length_eq_zero_iff.1 (by rw[b,hd]);rw[this];simp
 |succ m=>
  have c:=dL l hd;rw[q0,b,hd];intro d;have a:Ud (ZE l) m=[]:=by unfold Ud;rw[show m=m+1-1 by omega,d];rfl
  rw[dX]at a;exact c a
theorem aG(l:List (List Uy))(n:Nat):(Zg l n).length=max l.length (n+1):=by
 unfold Zg;simp;omega
theorem fQ(l:List (List Uy))(n i:Nat):Ud (Zg l n) i=Ud l i:=by
 unfold Ud Zg;by_cases h:i<l.length
 ·rw[List.getElem?_append_left h]
 ·rw[List.getElem?_append_right (by omega),List.getElem?_replicate,a9 (l:=l) (by omega)];split<;>rfl
theorem fU(l:List (List Uy))(n i:Nat)(r:List Uy):Ud (Xl l n r) i=if i=n then r else Ud l i:=by
 unfold Xl;by_cases h:i=n
 ·rw[zy h,h];have:=aG l n;unfold Ud;rw[List.getElem?_set_self (by omega)];rfl
 ·rw[zx h];unfold Ud;rw[List.getElem?_set_ne (λe=>h e.symm)];exact fQ l n i
theorem XQ(L:Ub)(n i:Nat)(r:List Uy):Ud (Va L n r).2 i=if i=n then r else Ud L.2 i:=by
 show Ud (ZE _) i=_;rw[dX,fU]
theorem jS(L:Ub)(n:Nat)(r:List Uy):(Va L n r).2.getLast? ≠ zo []:=jR _
theorem mW(L:Ub)(n:Nat)(r:List Uy):(Va L n r).2.length<=max L.2.length (n+1):=by
 show(ZE _).length<=_;unfold ZE;rw[tg];have:(Xl L.2 n r).length=max L.2.length (n+1):=by unfold Xl;rw[yb,aG]
 omega
theorem kG(l:List (List Uy)):(ZE l).flatten=l.flatten:=by
 have h:l=ZE l++l.drop (Zn l l.length):=(xa _ _).symm
 have a:(l.drop (Zn l l.length)).flatten=[]:=by
  rw[vv];intro x c;obtain⟨i,hi⟩:=eo c;rw[List.getElem?_drop]at hi;have b:=(a8.1 hi).1;have:=cQ l (k:=l.length) (i:=Zn l l.length+i) (by omega) b;unfold Ud at this;rw[hi]at this;exact this
 conv=>rhs;rw[h,ox,a,gs]
theorem m6(l:List (List Uy))(n:Nat):(Zg l n).flatten=l.flatten:=by
 unfold Zg;rw[ox]
 have:(ym (n+1-l.length) ([]:List Uy)).flatten=[]:=by
  rw[vv];intro x a;exact(List.mem_replicate.1 a).2
 rw[this,gs]
theorem YJ(L:Ub)(n:Nat)(r:List Uy):∃ p q,L.2.flatten=p++(Ud L.2 n++q)/\(Va L n r).2.flatten=p++(r++q):=by
 have a:n<(Zg L.2 n).length:=by rw[aG];omega
 refine⟨((Zg L.2 n).take n).flatten,((Zg L.2 n).drop (n+1)).flatten,?_,?_⟩
 ·rw[<- fQ L.2 n n,<- m6 L.2 n]
  have:Zg L.2 n=(Zg L.2 n).take n++((Zg L.2 n)[n]::(Zg L.2 n).drop (n+1)):=by
   rw[<- ul a,xa]
  have b:Ud (Zg L.2 n) n=(Zg L.2 n)[n]:=by unfold Ud;rw[cP a];rfl
  rw[b]
  conv=>lhs;rw[this]
  rw[ox,li]
 ·show(ZE (Xl L.2 n r)).flatten=_;rw[kG];unfold Xl;rw[List.set_eq_take_append_cons_drop,zy a,ox,li]
theorem VLev.own{L:Ub}(v:VLev L)(i:Nat):(Ud L.2 i).length<=2 /\ ∀ r∈Ud L.2 i,VR (VD L.1 i) r:=by
 unfold Ud;cases h:L.2[i]? with
 |none=>exact⟨by simp,λr a=>by cases a⟩
 |some rs=>exact v.lev i rs h
theorem VLev.with'{L:Ub}(v:VLev L){n:Nat}(f:n<12){r:List Uy}(d:r.length<=2)(e:∀ x∈r,VR (VD L.1 n) x)(b:((Va L n r).2.flatten.map jq).Nodup):VLev (Va L n r):=by
 refine⟨v.B1,v.B2,?_,λi rs hi=> ?_,b,jS L n r⟩
 ·have:=mW L n r;have:=v.len;omega
 ·have a:=XQ L n i r;unfold Ud at a;rw[hi]at a;simp only[hI]at a;rw[a];split
  ·rename_i c;rw[c];exact⟨d,e⟩
  ·exact v.own i
theorem VLev.leave{L:Ub}(v:VLev L){n:Nat}(c:n<12):VLev (Va L n []):=by
 refine v.with' c (by simp) (λ_ h=>by cases h) ?_
 obtain⟨p,q,a,b⟩:=YJ L n [];have:=v.ids;rw[a]at this;rw[b,o3];refine s7.nodup (s7.map _ ?_) this;exact s7.append (s7.refl _) (List.sublist_append_right _ _)
theorem VLev.arrive{L:Ub}(v:VLev L){n:Nat}(g:n<12){x:Uy}(j:(Ud L.2 n).length<2)(i:VR (VD L.1 n) x)(b:∀ y∈L.2.flatten,y.1≠x.1):VLev (Va L n (Ud L.2 n++[x])):=by
 refine v.with' g (by simp;omega) (λy hy=> ?_) ?_
 ·rcases ml.1 hy with hy|hy
  ·exact(v.own n).2 y hy
  ·rw[sa.1 hy];exact i
 ·obtain⟨p,q,c,d⟩:=YJ L n (Ud L.2 n++[x])
  have h:(Va L n (Ud L.2 n++[x])).2.flatten.Perm (x::L.2.flatten):=by
   rw[c,d,eb];refine List.Perm.trans ?_ (List.perm_middle (l₁:=p++Ud L.2 n) (l₂:=q) (a:=x) |>.trans (by rw[eb]));rw[eb];exact List.Perm.refl _
  refine(h.map jq).nodup_iff.2 (pg.2 ⟨λf=> ?_,v.ids⟩);obtain⟨y,hy,e⟩:=nb.1 f;exact b y hy e
theorem aE{l:List (List Uy)}{x:Uy}:x∈l.flatten <-> ∃ i,x∈Ud l i:=by
 rw[kd];constructor
 ·rintro⟨rs,a,b⟩;obtain⟨i,hi⟩:=eo a;exact⟨i,by unfold Ud;rw[hi];exact b⟩
 ·rintro⟨i,h⟩;unfold Ud at h;cases hi:l[i]? with
  |none=>rw[hi]at h;cases h
  |some rs=>rw[hi]at h;exact⟨rs,bo hi,h⟩
theorem Yv{l:List (List Uy)}{x:Uy}(h:x∈l.flatten):x.1<=XN l:=by
 have d:∀ (rs:List Uy) (m:Int),m<=rs.foldl (λm r=>UP m r.1) m /\ ∀ x∈rs,x.1<=rs.foldl (λm r=>UP m r.1) m:=by
  intro rs
  induction rs with
  |nil=>intro m;exact⟨by simp,λx hx=>by cases hx⟩
  |cons r rs c=>
   intro m;obtain⟨b,a⟩:=c (UP m r.1);rw[YE]at b a;simp only[iz,YE]at b a ⊢;refine⟨by omega,λx hx=> ?_⟩;rcases ey.1 hx with e|hx
   ·rw[e];omega
   ·exact a x hx
 have two:∀ (ls:List (List Uy)) (m:Int),m<=ls.foldl (λm rs=>rs.foldl (λm r=>UP m r.1) m) m /\ ∀ rs∈ls,∀ x∈rs,x.1<=ls.foldl (λm rs=>rs.foldl (λm r=>UP m r.1) m) m:=by
  intro ls
  induction ls with
  |nil=>intro m;exact⟨by simp,λx hx=>by cases hx⟩
  |cons rs ls c=>
   intro m;obtain⟨b,a⟩:=c (rs.foldl (λm r=>UP m r.1) m);obtain⟨i,g⟩:=d rs m;simp only[iz];refine⟨by omega,λf hrs x hx=> ?_⟩;rcases ey.1 hrs with e|hrs
   ·subst e;have:=g x hx;omega
   ·exact a f hrs x hx
 obtain⟨rs,b,a⟩:=kd.1 h;exact(two l 0).2 rs b x a
end
section
open Go Sv
theorem dM{M:List (List Uy)}{f:Int->Option (LR Int (Nat×(Int×Unit)))}(a:f 0=zo (.dn (0,(0,()))))(hs:∀ k,k<M.length->f ((k+1:Nat):Int)=if Ud M k=[]then zo (.nx (k:Int))else zo (.dn (0,(((k+1:Nat):Int),())))):∀ k,k<=M.length->IX (k+1) f (k:Int)=zo (0,((Zn M k:Nat):Int),())
 |0,_=>U6 a
 |k+1,hk=>by
  have h:=hs k (by omega);unfold Zn;by_cases b:Ud M k=[]
  ·rw[zy b]at h ⊢;rw[U1 h];exact dM a hs k (by omega)
  ·rw[zx b]at h ⊢;exact U6 h
theorem xN(L:List (List Uy))(n:Nat):LU (R5 (max L.length (n+1)) ([]:List Uy)) 0 L (AR (R5 (max L.length (n+1)) ([]:List Uy)))=Zg L n:=by
 have a:AR (R5 (max L.length (n+1)) ([]:List Uy))=max L.length (n+1):=by unfold AR R5;simp
 rw[a];unfold LU Zg R5;rw[List.take_of_length_le (by omega:L.length<=max L.length (n+1))];simp only[List.take_zero,o3,List.drop_replicate,eg]
 congr 2
 omega
theorem nF(l:List (List Uy))(n:Nat)(r:List Uy):lset (Zg l n) n r=Xl l n r:=rfl
theorem WN{l:List (List Uy)}{i:Nat}(h:i<l.length):l[i]?=zo (Ud l i):=by
 unfold Ud;rw[cP h];rfl
theorem eA{β:Type}(l:List Uy)(x y:Unit->Option β):br (O3 (l.length:Int) 0) x y=if l=[]then x ()else y ():=by
 rw[UD];by_cases h:l=[]
 ·rw[zy h,zy (by rw[h];rfl)]
 ·rw[zx h,zx (by have:=ee.2 h;omega)]
theorem bc{L:Ub}(h:L.2.length<=1000){n:Nat}(i:n<1000)(r:List Uy):Wv (L,((n:Int),r))=zo (Va L n r):=by
 have b:UP (Kx (AR L.2)) (So .i64 (n:Int) 1)=((max L.2.length (n+1):Nat):Int):=by
  rw[Uh (by omega),YE,Uf,Uc];omega
 unfold Wv;simp only[b,UY,xN,nF];have d:(Zg L.2 n).length=max L.2.length (n+1):=aG _ _;have j:(Xl L.2 n r).length=max L.2.length (n+1):=by unfold Xl;rw[yb,d]
 rw[VE (by omega),Te,zy (by rw[Uc,d];omega),Tq (WN (by omega))]
 have c:=dM (M:=Xl L.2 n r) (f:=λa=>br (Ti a 0) (λ_=>SW (Ss .i64 a 1) λe=>gd (KW e (AR (Xl L.2 n r))) λ_=>ix (Xl L.2 n r) e λg=>br (O3 (Kx (AR g)) 0) (λ_=>zo (.nx (Ss .i64 a 1))) λ_=>zo (.dn ((0,(a,()))))) λ_=>zo (.dn ((0,(a,()))))) rfl (λk b=>by
  have hi:Ss .i64 ((k+1:Nat):Int) 1=(k:Int):=by rw[TG (by omega)];omega
  simp only[hi,UY];rw[UF,zy (by omega),Te,zy (by rw[Uc];omega),Tq (WN b)]
  exact eA _ _ _) _ (dc _)
 rw[Uf,show AR (Xl L.2 n r)=(Xl L.2 n r).length from rfl];refine Ut (Vn (by omega) c) ?_;have hd:=dw (Xl L.2 n r) (Xl L.2 n r).length;simp only[UY];rw[VE hd,Td,zy (by omega),TY,zy (by omega),Td,zy (by unfold BG P2;omega)];unfold Va ZE D6 BG P2;simp
end
section
open Go Sv
def d9(d:Int)(j:Job):Bool:=O3 d j.1
def VQ(js:List Job)(d:Int):Option Job:=js.find? (d9 d)
def bD(js:List Job):List (Int×Job):=js.map λj=>(j.1,j)
def zJ:Job:=(0,(([],([],([],([],0)))),((zf,([],zf)),([],0))))
def XT(L:Ub)(d:Int):Job:=match Ud L.2 d.toNat with
 |[r0,r1]=>(d,WO r1.2 r0.2 (decide (d=(L.2.length:Int)-1)) 0)
 |_=>zJ
def Xb(s:UX)(L:Ub)(a d:Int):Job:=(if d=a then zn else VQ s.2.1 d).getD (XT L d)
def ZG(s:UX)(L:Ub)(next a:Int):UX:=(L,((Ug 0 L.2).map (Xb s L a),next))
theorem dV(d:Int):∀ js:List Job,Mo (λa b=>O3 a b) (bD js) d=VQ js d
 |[]=>rfl
 |j::js=>by
  show(bif O3 d j.1 then zo j else Mo (λa b=>O3 a b) (bD js) d)=(j::js).find? (d9 d)
  rw[hV,dV d js];show _=match O3 d j.1 with|true=>zo j|false=>VQ js d
  cases O3 d j.1<;>rfl
theorem dW{j:Job}:∀ {js:List Job},j.1 ∉ js.map (·.1)->If (λa b=>O3 a b) (bD js) j.1 j=bD (js++[j])
 |[],_=>rfl
 |i::js,h=>by
  show(bif O3 j.1 i.1 then(j.1,j)::bD js else(i.1,i)::If (λa b=>O3 a b) (bD js) j.1 j)=(i.1,i)::bD (js++[j])
  have d:O3 j.1 i.1=zf:=by rw[V7];simp;intro e;exact h (by simp[e])
  rw[d,zj,dW (λc=>h (by simp at c ⊢;exact .inr c))]
theorem Zq{js:List Job}{d:Int}(h:d ∉ js.map (·.1)):VQ js d=zn:=by
 unfold VQ;rw[List.find?_eq_none];intro j a;unfold d9;rw[V7];simp only[decide_eq_true_eq];intro e;exact h (by rw[e];exact l5 a)
theorem dU{x d:Int}:∀ {js:List Job},(js.map (·.1)).Nodup->Mo (λa b=>O3 a b) (Ie (λa b=>O3 a b) (bD js) x) d=if d=x then zn else VQ js d
 |[],_=>by split<;>rfl
 |j::js,h=>by
  rw[ol,pg]at h;show Mo (λa b=>O3 a b) (bif O3 x j.1 then bD js else(j.1,j)::Ie (λa b=>O3 a b) (bD js) x) d=_
  have f:VQ (j::js) d=if d=j.1 then zo j else VQ js d:=by
   unfold VQ;rw[hV];unfold d9;rw[V7];by_cases e:d=j.1<;>simp[e]
  rw[V7,f];by_cases c:x=j.1
  ·rw[show decide (x=j.1)=zt by simp[c],zb,dV];by_cases hd:d=x
   ·rw[zy hd];exact Zq (by rw[hd,c];exact h.1)
   ·rw[zx hd,zx (by rw[<- c];exact hd)]
  ·rw[show decide (x=j.1)=zf by simp[c],zj];show(bif O3 d j.1 then zo j else Mo (λa b=>O3 a b) (Ie (λa b=>O3 a b) (bD js) x) d)=_
   rw[dU h.2,V7];by_cases hd:d=j.1
   ·rw[show decide (d=j.1)=zt by simp[hd],zb,zy hd,zx (by rw[hd];exact λe=>c e.symm)]
   ·rw[show decide (d=j.1)=zf by simp[hd],zj,zx hd]
theorem VR.vl'{L:Ub}(v:VLev L){n:Nat}{r:Uy}(h:r∈Ud L.2 n):VL r.2:=((v.own n).2 r h).vl
theorem kM(L:Ub)(a:L.2.length<=1000)(n:Nat):WV (L,(n:Int))=zo (decide ((n:Int)=(L.2.length:Int)-1)):=by
 unfold WV;simp only[Uf,Uc];rw[TG (by omega),V7]
theorem mh{L:Ub}(v:VLev L){n:Nat}(h:(Ud L.2 n).length=2):Yj (L,(n:Int))=zo (XT L n,0):=by
 have d:n<L.2.length:=by
  by_cases e:n<L.2.length
  ·exact e
  ·unfold Ud at h;rw[a9 (by omega)]at h;cases h
 have i:=v.len;obtain⟨f,g⟩:=v.small;unfold Yj;simp only[Uf,Uc];rw[Zr _ f g,XO v,TW,UI,zy rfl,UH,zx (by omega),UE,zx (by omega),UE,zx (by omega),UY,Tq (WN d),UH,zx (by omega),kM L (by omega) n,TW]
 obtain⟨b,c,a⟩:∃ b c,Ud L.2 n=[b,c]:=by
  match hq:Ud L.2 n with
  |[b,c]=>exact⟨b,c,rfl⟩
  |[]=>rw[hq]at h;cases h
  |[_]=>rw[hq]at h;cases h
  |_::_::_::_=>rw[hq]at h;simp at h
 rw[eZ _ (by rw[WN d,a]) (VR.vl' v (n:=n) (by rw[a];simp)) (VR.vl' v (n:=n) (by rw[a];simp)),TW];unfold XT;rw[bl,a]
theorem Yz(i:Nat)(rs:List Uy)(ls:List (List Uy)):Ug i (rs::ls)=(if rs.length=2 then[(i:Int)]else[])++Ug (i+1) ls:=rfl
theorem aA{s:UX}(f:(s.2.1.map (·.1)).Nodup)(r:s.2.1.length<=1000){L:Ub}(v:VLev L)(next a:Int):Uu (s,(L,(next,a)))=zo (ZG s L next a,0):=by
 have t:=v.len;unfold Uu;simp only[Uf,Uc]
 rw[Vo (l:=s.2.1) (σ:=List (Int×Job)) (s:=((0:Int),([]:List (Int×Job)))) (λi m=>((i:Int),m)) (λls i m=>∃ p,s.2.1=p++ls/\m=bD p) (λ_ _ _=>(0,(((s.2.1.length:Int),bD s.2.1),()))) [] rfl (by omega) ⟨[],rfl,rfl⟩ (λm h=>by
  obtain⟨p,d,rfl⟩:=h
  simp only;rw[re,Sd,d,gs]) (λi x ls m hd b hi h=>by
   obtain⟨p,d,rfl⟩:=h;refine⟨bD (p++[x]),?_,⟨p++[x],by rw[d];simp,rfl⟩,rfl⟩;simp only;rw[rl hi,TB,UY,Tq b,Uk b (by omega),dW];intro g;rw[d,sr,rz]at f
   exact f.2.2 _ g x.1 (by simp) rfl),TW]
 simp only
 rw[Vo (l:=L.2) (σ:=List Job) (s:=((0:Int),((0:Int),(((0:Int),(([]:List (List Uy)),(([]:List Job),(0:Int)))),(L.1,(L.2,(([]:List Job),next))))))) (λi js=>((0:Int),((i:Int),(((0:Int),(([]:List (List Uy)),(([]:List Job),(0:Int)))),(L.1,(L.2,(js,next))))))) (λls i js=>js++(Ug i ls).map (Xb s L a)=(Ug 0 L.2).map (Xb s L a)) (λ_ _ _=>(0,(((0:Int),((L.2.length:Int),(((0:Int),(([]:List (List Uy)),(([]:List Job),(0:Int)))),(L.1,(L.2,((Ug 0 L.2).map (Xb s L a),next)))))),()))) [] rfl (by omega) rfl (λm h=>by
  simp only;rw[re,Sd,<- h];simp[Ug]) (λi rs ls m hd b hi h=>by
   have k:Ud L.2 i=rs:=by unfold Ud;rw[b];rfl
   have o:=(v.own i).1;rw[k]at o;refine⟨m++(if rs.length=2 then[Xb s L a i]else[]),?_,?_,rfl⟩
   ·simp only;rw[rl hi,TB,UY,Tq b,UH]
    have g:m.length<=1000:=by
     have c:=congrArg mR h;have q:=Wa L.2 0;rw[gw,l6,l6]at c;omega
    by_cases c:rs.length=2;rotate_left
    ·rw[zy (by omega),zx c,gs,Uk b (by omega)]
    rw[zx (by omega),zy c,dU f];have e:Xb s L a i=(if(i:Int)=a then zn else VQ s.2.1 i).getD (XT L i):=rfl
    cases n:(if(i:Int)=a then zn else VQ s.2.1 (i:Int))with
    |none=>
     rw[n,Option.getD_none]at e;rw[e,mh v (by rw[k];exact c),U4,UL,zx (show ¬ US (zn:Option Job)=zt by simp[US]),TW];simp only;rw[UI,zy rfl,VE (by simp only[BG,ci,co];omega),Uk b (by omega)];rfl
    |some j=>
     rw[n,hI]at e;rw[e,U4,UL,zy (show US (zo j)=zt from rfl),VE (by simp only[BG,ci,co];omega),Uk b (by omega)];rfl
   ·rw[eb,<- h,Yz,sr]
    congr 2
    split<;>rfl),TW]
 rfl
end
section
open Go Sv
def pS(s:VU):Option YH:=if s.1=zt then zo s.2.1 else zn
theorem Asc.weak:∀ {l:List UZ} {p c:Option YH},(∀ a,c=zo a -> ∃ q,p=zo q/\S4 q a=zf)->Asc p l->Asc c l
 |[],_,_,_,_=>trivial
 |x::l,p,c,h,⟨g,i⟩=>⟨λa b=>by
  obtain⟨q,e,j⟩:=h a b;have d:=g q e;by_cases f:a=q
  ·rw[f];exact d
  ·exact XP (an j (λe=>f e.symm)) d,i⟩
theorem ez:∀ (l:List UZ) (s:VU),bR s l->Asc (pS s) (W7 s l)
 |[],_,_=>trivial
 |x::l,s,⟨_,g,h⟩=>by
  have i:=ez l _ h;have f:Asc (zo x.1) (W7 (zt,(x.1,s.2.2)) l):=i;unfold W7;by_cases c:keep s x=zt
  ·rw[zy c];refine⟨λq d=> ?_,f⟩;unfold pS at d;by_cases b:s.1=zt
   ·rw[zy b]at d;cases d;refine an (g b) λe=> ?_;unfold keep at c;rw[b,e]at c;simp at c
   ·rw[zx b]at d;cases d
  ·rw[zx c,o3];refine f.weak λj a=>⟨x.1,rfl,?_⟩;unfold pS at a;by_cases b:s.1=zt
   ·rw[zy b]at a;cases a;exact g b
   ·rw[zx b]at a;cases a
theorem fB:∀ {l:List UZ} {s:VU} {x:UZ},x∈W7 s l->x∈l
 |y::l,s,x,h=>by
  unfold W7 at h;rcases ml.1 h with h|h
  ·split at h
   ·rw[sa.1 h];simp
   ·cases h
  ·exact List.mem_cons_of_mem _ (fB h)
theorem jr:∀ {l:List UZ} {s:VU},bR s l -> ∀ x∈l,kE x=0
 |y::l,s,⟨a,_,b⟩,x,h=>by
  rcases ey.1 h with e|h
  ·rw[e];exact a
  ·exact jr b x h
theorem nM{a b:List UZ}(va:VL a)(f:VL b)(c:Bool){k:Nat}(d:k<=a.length+b.length)(j:a.length+b.length<=5000):VL (WO a b c k).2.2.1/\(WO a b c k).2.2.1.length<=a.length+b.length:=by
 have e:=YN va f c d
 have i:(W7 (s0 c) (Uq a b k)).length<=k:=by
  have:=ZX (s0 c) (Uq a b k);rw[V1 va f d]at this;exact this
 have g:(WO a b c k).2.2.1=W7 (s0 c) (Uq a b k):=rfl;rw[g];exact⟨⟨by omega,λx h=>jr e x (fB h),ez _ _ e⟩,by omega⟩
theorem gW{L:Ub}(v:VLev L){n:Nat}(h:Ud L.2 n≠[]):Wb (L,(n:Int))=zo (Va L n [],(Ud L.2 n,0)):=by
 have b:n<L.2.length:=by
  by_cases a:n<L.2.length
  ·exact a
  ·unfold Ud at h;rw[a9 (by omega)]at h;exact absurd rfl h
 have d:=v.len;have c:=(v.own n).1;unfold Wb;simp only[Uf,Uc];rw[eF v,TW,zx (by omega),UI,zy rfl,UH,zy (by omega),UY,Tq (WN b),eA,zx h,bc (by omega) (by omega),TW,VE (by omega)]
theorem kK{S β:Type}{f:S->Option (LR S β)}{r:β}(mk:Int->S)(n:Nat){s:S}(b:s=mk ((n:Int)-1))(g:n<1000000)(hs:∀ k,k<n->f (mk (k:Int))=zo (.nx (mk ((k:Int)-1))))(c:f (mk (-1))=zo (.dn r)):loop f s=zo r:=by
 subst b
 have a:∀ k,k<=n->IX (k+1) f (mk ((k:Int)-1))=zo r:=by
  intro k
  induction k with
  |zero=>intro _;exact U6 c
  |succ k d=>
   intro e;have:=hs k (by omega);rw[show((k+1:Nat):Int)-1=(k:Int) by omega,U1 this];exact d (by omega)
 exact Vn (by omega) (a n (dc _))
theorem bw{L:Ub}(v:VLev L){n:Nat}(m:n<12){x:Uy}(p:x.2.length<=1048576)(b:∀ y∈L.2.flatten,y.1≠x.1)(j:(Ud L.2 n).length<2) :
  U3 (L,((n:Int),x))=zo (if kR [] (VD L.1 n) x≠0 then((0,[]),kR [] (VD L.1 n) x)else(Va L n (Ud L.2 n++[x]),0)):=by
 have o:=v.len;unfold U3;simp only[Uf,Uc];rw[eF v,TW,zx (by omega),UI,zy rfl,bY v.B1 v.B2 (by omega),dT x _ (by omega),show SR (n:Int) 0=zt by unfold SR;simp];rw[tU,TW,UI];by_cases a:kR [] (VD L.1 n) x=0;rotate_left
 ·rw[zx a,zy a]
 rw[zy a,zx (by simp[a])]
 rw[Vo (l:=L.2) (σ:=Unit) (s:=((0:Int),(((0:Int),([]:List (List Uy))),(0:Int)))) (λi _=>((i:Int),(((0:Int),([]:List (List Uy))),(0:Int)))) (λ_ _ _=>True) (λ_ _ _=>(0,(((L.2.length:Int),(((0:Int),([]:List (List Uy))),(0:Int))),()))) () rfl (by omega) trivial (λ_ _=>by
  simp only;rw[re];rfl) (λi rs ls _ hd hi c _=>by
   refine⟨(),?_,trivial,rfl⟩;have e:Ud L.2 i=rs:=by unfold Ud;rw[hi];rfl
   have f:=(v.own i).1;rw[e]at f;simp only;rw[rl c,TB,UY,Tq hi,TG (by omega)]
   rw[kK (λk=>(k,(((0:Int),([]:List (List Uy))),(0:Int)))) rs.length rfl (by omega) (λk a=>by
    have h:rs[k]?=zo rs[k]:=cP a;have d:rs[k].1≠x.1:=b _ (kd.2 ⟨rs,bo hi,List.getElem_mem a⟩);simp only
    rw[UE,zy (by omega),UY,Tq h,UD,zx d,TG (by omega)]) (r:=(0,(((-1:Int),(((0:Int),([]:List (List Uy))),(0:Int))),()))) rfl,TW]
   rw[Uk hi (by omega)]
   rfl),TW]
 rw[TX,zy rfl,UH];by_cases g:n<L.2.length
 ·rw[zy (by omega),UY,Tq (WN g),UD,zx (by omega),UY,UY,VE (dc _),Tc,zy rfl,VE (iP _)];have hs:D6 (Ud L.2 n) 0 (Ud L.2 n).length=Ud L.2 n:=by unfold D6;simp
  rw[hs,VE (by simp only[BG,ci,co];omega),bc (by omega) (by omega),TW];rfl
 ·rw[zx (by omega)];have e:Ud L.2 n=[]:=by unfold Ud;rw[a9 (by omega)];rfl
  rw[VE (by simp),bc (by omega) (by omega),TW,e];rfl
end
end Go.Proofs.YtfceigpbgndbgaaGreatDoor.Pl
