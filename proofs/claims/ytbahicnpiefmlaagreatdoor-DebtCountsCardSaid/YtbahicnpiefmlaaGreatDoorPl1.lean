/- Functions of the program and of the specification as plain functions, and laws about them. No condition. -/
import Derived.Test.YtbahicnpiefmlaaGreatDoorPl0
set_option linter.all false
open List renaming Sublist->sk, append_assoc->ci, append_nil->eo, drop_eq_getElem_cons->tg, drop_zero->tb, find?_cons->kd, flatMap_cons->xk, flatten_append->ns, flatten_cons->lc, flatten_eq_nil_iff->ul, foldl_append->xl, foldl_cons->gM, getElem?_eq_getElem->ee, getElem?_eq_none->a9, getElem?_eq_some_iff->a8, getElem?_map->sp, getElem?_of_mem->dc, getElem?_take->sw, getLast?_eq_getElem?->o3, head?->vv, head?_drop->r6, length->nb, length_append->iP, length_cons->co, length_map->x8, length_nil->ed, length_pos_iff->ey, length_set->x9, length_take->xw, map_append->rz, map_cons->hI, mem_append->oj, mem_cons->en, mem_flatten->l5, mem_map->oy, mem_map_of_mem->l6, mem_of_getElem?->bo, mem_singleton->s6, nil_append->ol, nodup_append->o4, nodup_cons->ox, replicate->yb, tail->s9, tail_drop->o5, take_add_one->li, take_append_drop->wl, take_length->xT
open Nat renaming le_refl->eb, lt_of_not_le->nP, min_eq_left->ta, sub_zero->l4, zero_add->eg, zero_le->hV
open Int renaming mul_le_mul->yk, toNat_natCast->bl, zero_add->sr
open Option renaming getD_some->ll, map_some->xm
open Bool renaming false_eq_true->iz
open UInt8 renaming lt_iff_toNat_lt->vL
open Prod renaming ext->sa
namespace Go.Proofs.YtbahicnpiefmlaaGreatDoor.Pl
section
open Go Sv
theorem Uw {S β:Type} {f:S->Option (LR S β)} {s0 s1 s2:S} {r:β} (a:f s0=some (.nx s1)) (b:f s1=some (.nx s2)) (c:f s2=some (.dn r)):loop f s0=some r :=
 Uu (n:=3) (by omega) ((UF a).trans ((UF b).trans (UP c)))
theorem Zl {α β:Type} {c:Bool} {n:Int} {l:List α} {K:Nat->α->Option β} {E:Unit->Option β} (k:Nat) {x:α} (hc:c=true) (b:n=(k:Int)) (d:l[k]? = some x):br c (λ_=>R0 n λa=>ix l a λe=>K a e) E=K k x:=by
 subst hc;subst b;rw [Sb,Tf,TB d]
theorem V3 {α β:Type} {n:Int} {l:List α} {K:Nat->α->Option β} (k:Nat) {x:α} (b:n=(k:Int)) (c:l[k]? = some x):R0 n (λa=>ix l a λd=>K a d)=K k x:=by
 subst b;rw [Tf,TB c]
theorem W6 {l:List Ti} {i:Nat} (h:i<=l.length):UN (l,(i:Int))=some (kx l i):=by
 unfold UN kx;simp only [Tn,Tl];rw [TJ];by_cases hi:i=l.length
 ·rw [if_pos (by omega),a9 (by omega)]
 ·have a:l[i]? = some l[i]:=by rw [ee (by omega)]
  rw [if_neg (by omega),Tf,TB a,a]
section
variable {a b:List Ti} (va:VL a) (vb:VL b)
theorem mu {i j:Nat} (hi:i<=a.length) (c:j<=b.length):Wb ([a,b],[(i:Int),(j:Int)])=some (Tt (kx a i) (kx b j)):=by
 unfold Wb;refine UJ (x:=(0,((2,[kx a i,kx b j]),()))) (Uw (s1:=(1,[kx a i,([],false)])) (s2:=(2,[kx a i,kx b j])) ?_ ?_ rfl) ?_
 ·show bd (UN (a,(i:Int))) _=_;rw [W6 hi];rfl
 ·show bd (UN (b,(j:Int))) _=_;rw [W6 c];rfl
 ·show bd (U6 [kx a i,kx b j]) _=_;rw [ZS (UU _ _) (UU _ _)];rfl
include va vb
theorem ZE:UW a=some (0,0):=by
 rw [XB _ (by have:=va.len;omega),YQ va]
theorem Y5:Vo [a,b]=some (0,0):=by
 unfold Vo;refine UJ (x:=(1,((0,(0,2)),()))) (Uw (s1:=(0,(0,1))) (s2:=(0,(0,2))) ?_ ?_ rfl) rfl
 ·show bd (UW a) _=_;rw [ZE va va];rfl
 ·show bd (UW b) _=_;rw [ZE vb vb];rfl
theorem fH (c:Bool):Wh ([a,b],c)=some (xP a b c 0,(0,0)):=by
 unfold Wh;rw [Y5 va vb,Sw,TP,if_pos rfl];refine UJ (x:=(0,((2,[kx a 0,kx b 0]),()))) (Uw (s1:=(1,[kx a 0,([],false)])) (s2:=(2,[kx a 0,kx b 0])) ?_ ?_ rfl) ?_
 ·show bd (UN (a,((0:Nat):Int))) _=_;rw [W6 (by omega)];rfl
 ·show bd (UN (b,((0:Nat):Int))) _=_;rw [W6 (by omega)];rfl
 ·show bd (U6 [kx a 0,kx b 0]) _=_;rw [ZS (UU _ _) (UU _ _)];rfl
end
theorem XI (x:Bool):Sv.beq x x=true:=by cases x<;>rfl
theorem YI (x:W9):seq x x=true:=by rw [Zo]
theorem cY (l:List UC) (h:l.length<=1000):UB (l,l)=some true:=by
 unfold UB;simp only [Tn,Tl]
 rw [TP,if_pos rfl,ZN (l:=l) (σ:=Unit) (s:=(0,false)) (λk _=>((k:Int),false)) (λ_ _ _=>some (1,(((l.length:Int),false),()))) () rfl (by omega) (λc=>by
  simp only;rw [re];rfl) (λk x m c _ a b => .inl ⟨(),by
   simp only;rw [rl b,Sb,Tf,TB a,Tf,TB a,YI,XI,show Hg (Nm true (Nm true true))=false from rfl,R6,Tq a (by omega)],rfl⟩),Sw]
 rfl
theorem cX (l:List Int) (h:l.length<=1000):Tv (l,l)=some true:=by
 unfold Tv;simp only [Tn,Tl]
 rw [TP,if_pos rfl,ZN (l:=l) (σ:=Unit) (s:=(0,false)) (λk _=>((k:Int),false)) (λ_ _ _=>some (1,(((l.length:Int),false),()))) () rfl (by omega) (λc=>by
  simp only;rw [re];rfl) (λk x m c _ a b => .inl ⟨(),by
   simp only;rw [rl b,Sb,Tf,TB a,Tf,TB a,TP,if_pos rfl,Tq a (by omega)],rfl⟩),Sw]
 rfl
theorem fE (t:Vf) (a:t.1.length<=1000) (b:t.2.1.length<=1000):WE (t,t)=some true:=by
 unfold WE;rw [TJ,if_pos rfl,cY _ a,Sw,Sb,cX _ b];rfl
theorem fF (p q:UC):WE (Tt p q,Tt p q)=some true:=fE _ (show 2<=1000 by omega) (show 2<=1000 by omega)
theorem gq {a b:List Ti} {i j:Nat} (h:XZ a b i j=true):wk (kx a i) (kx b j)=kx a i/\wn (kx a i) (kx b j)=0:=by
 unfold XZ at h;unfold wk wn;rw [if_pos h,if_pos h];exact ⟨rfl,rfl⟩
theorem gr {a b:List Ti} {i j:Nat} (h:XZ a b i j=false):wk (kx a i) (kx b j)=kx b j/\wn (kx a i) (kx b j)=1:=by
 unfold XZ at h;unfold wk wn;rw [if_neg (by simp [h]),if_neg (by simp [h])];exact ⟨rfl,rfl⟩
theorem eM (x y:W9):VI (x,y)=some (if SU x y=true then -1 else if SU y x=true then 1 else 0):=by
 unfold VI Vg;simp only [YI,cU,Sw,R6];rw [Wn,Wn];split
 ·rfl
 ·split<;>rfl
theorem eL (x y:Int):Uy (x,y)=some (if x<y then -1 else if x>y then 1 else 0):=by
 unfold Uy WI;simp only [Sw,TP,if_true,TN,TL];split
 ·rfl
 ·split<;>rfl
theorem iS (x y:Int):XJ [x,y]=some (if x≠0 then x else y):=by
 unfold XJ;by_cases h:x=0
 ·rw [if_neg (by simp [h])];by_cases a:y=0
  ·refine UJ (x:=(1,((0,2),()))) (Uw (s1:=(0,1)) (s2:=(0,2)) ?_ ?_ rfl) (by rw [a];rfl)
   ·refine (Zl 0 rfl rfl rfl).trans ?_;rw [TP,if_pos h];rfl
   ·refine (Zl 1 rfl rfl rfl).trans ?_;rw [TP,if_pos a];rfl
  ·refine UJ (x:=(0,((y,1),()))) (Uu (n:=2) (by omega) ((UF (s':=(0,1)) ?_).trans (UP ?_))) rfl
   ·refine (Zl 0 rfl rfl rfl).trans ?_;rw [TP,if_pos h];rfl
   ·refine (Zl 1 rfl rfl rfl).trans ?_;rw [TP,if_neg a]
 ·rw [if_pos h];refine UJ (x:=(0,((x,0),()))) (Uu (n:=1) (by omega) (UP ?_)) rfl;refine (Zl 0 rfl rfl rfl).trans ?_;rw [TP,if_neg h]
section
variable {a b:List Ti} (va:VL a) (vb:VL b)
include va vb
theorem Yj {i j:Nat} (I:Inv a b i j):Vn (ZC a b i j)=some (0,0):=by
 unfold Vn;rw [show (ZC a b i j).1=[a,b] from rfl,Y5 va vb,Sw,TP,if_pos rfl];rw [show (ZC a b i j).2.1=[(i:Int),(j:Int)] from rfl,TP,if_pos (show Ki (AS [(i:Int),(j:Int)])=Ki (AS [a,b]) from rfl)];refine UJ (x:=(1,((0,(0,2)),()))) (Uw (s1:=(0,(0,1))) (s2:=(0,(0,2))) ?_ ?_ rfl) ?_
 ·refine (Zl 0 rfl rfl rfl).trans ?_;rw [TN,if_neg (by omega),show R0 (((0:Int),((0:Int),(0:Int))).2.2)=λ(k:Nat->Option (LR (Int×(Int×Int)) (Nat×((Int×(Int×Int))×Unit))))=>k 0 from rfl];simp only;rw [TB (x:=a) rfl,TL,if_neg (by have:=I.ia;simp only [Tn,Tl];omega)];rfl
 ·refine (Zl 1 rfl rfl rfl).trans ?_;rw [TN,if_neg (by omega),show R0 (((0:Int),((0:Int),(1:Int))).2.2)=λ(k:Nat->Option (LR (Int×(Int×Int)) (Nat×((Int×(Int×Int))×Unit))))=>k 1 from rfl];simp only;rw [TB (x:=b) rfl,TL,if_neg (by have:=I.jb;simp only [Tn,Tl];omega)];rfl
 rw [show neq ((1:Nat),(((0:Int),((0:Int),(2:Int))),())).1 0=false from rfl,R6,mu I.ia I.jb,Sw,show (ZC a b i j).2.2=Tt (kx a i) (kx b j) from rfl,fF,Sw,show Hg true=false from rfl,R6,Xf (UU _ _) (UU _ _),Sw];by_cases hd:(wk (kx a i) (kx b j)).2=true
 ·rw [if_pos hd];rfl
 rw [if_neg hd,TP,if_pos rfl]
 have r : ∀ {x:Ti} {e:Nat},i=e+1->a[e]? = some x -> ¬ (if (if SU x.1 (wk (kx a i) (kx b j)).1=true then (-1:Int) else if SU (wk (kx a i) (kx b j)).1 x.1=true then 1 else 0)≠0 then (if SU x.1 (wk (kx a i) (kx b j)).1=true then (-1:Int) else if SU (wk (kx a i) (kx b j)).1 x.1=true then 1 else 0) else (if (0:Int)<(wn (kx a i) (kx b j):Int) then -1 else if (0:Int)>(wn (kx a i) (kx b j):Int) then 1 else 0))>0:=by
  intro x e hi c
  have o:SU (wk (kx a i) (kx b j)).1 x.1=false:=by
   cases g:XZ a b i j with
   | true =>
    rw [(gq g).1] at hd ⊢;unfold kx at hd ⊢;cases d:a[i]? with
    | none=>rw [d] at hd;exact absurd rfl hd
    | some y=>rw [hi] at d;exact U0 (va.lt c d)
   | false =>
    rw [(gr g).1] at hd ⊢;unfold kx at hd ⊢;cases d:b[j]? with
    | none=>rw [d] at hd;exact absurd rfl hd
    | some y=>exact I.pa e hi x y c d
  rw [o];have : ¬ (0:Int)>(wn (kx a i) (kx b j):Int):=by omega
  by_cases hs:SU x.1 (wk (kx a i) (kx b j)).1=true
  ·simp [hs]
  ·simp only [hs,iz,if_false,ne_eq,not_true,this];split<;>omega
 have s : ∀ {y:Ti} {j':Nat},j=j'+1->b[j']? = some y -> ¬ (if (if SU y.1 (wk (kx a i) (kx b j)).1=true then (-1:Int) else if SU (wk (kx a i) (kx b j)).1 y.1=true then 1 else 0)≠0 then (if SU y.1 (wk (kx a i) (kx b j)).1=true then (-1:Int) else if SU (wk (kx a i) (kx b j)).1 y.1=true then 1 else 0) else (if (1:Int)<(wn (kx a i) (kx b j):Int) then -1 else if (1:Int)>(wn (kx a i) (kx b j):Int) then 1 else 0))>0:=by
  intro y j' q d
  have p:SU y.1 (wk (kx a i) (kx b j)).1=true:=by
   cases g:XZ a b i j with
   | true =>
    rw [(gq g).1] at hd ⊢;unfold kx at hd ⊢;cases c:a[i]? with
    | none=>rw [c] at hd;exact absurd rfl hd
    | some x=>exact I.pb j' q y x d c
   | false =>
    rw [(gr g).1] at hd ⊢;unfold kx at hd ⊢;cases c:b[j]? with
    | none=>rw [c] at hd;exact absurd rfl hd
    | some x=>rw [q] at c;exact vb.lt d c
  rw [p];simp
 refine UJ (x:=(1,((0,(0,2)),()))) (Uw (s1:=(0,(0,1))) (s2:=(0,(0,2))) ?_ ?_ rfl) rfl
 ·refine (Zl 0 rfl rfl rfl).trans ?_;rw [TL];by_cases f:(i:Int)>0
  ·rw [if_pos f];obtain ⟨e,h⟩ : ∃ e,i=e+1:=⟨i-1,by omega⟩;have l:e<a.length:=by have:=I.ia;omega
   have c:a[e]? = some a[e]:=by simp [l]
   refine (V3 0 rfl (x:=a) rfl).trans ((V3 e ?_ c).trans ?_)
   ·rw [Si (by have:=va.len;have:=I.ia;omega)];omega
   rw [eM,Sw];show bd (Uy (0,(wn (kx a i) (kx b j):Int))) _=_;rw [eL,Sw,iS,Sw,TL,if_neg (r h c)];rfl
  ·rw [if_neg f];rfl
 ·refine (Zl 1 rfl rfl rfl).trans ?_;rw [TL];by_cases f:(j:Int)>0
  ·rw [if_pos f];obtain ⟨j',m⟩ : ∃ j',j=j'+1:=⟨j-1,by omega⟩;have n:j'<b.length:=by have:=I.jb;omega
   have d:b[j']? = some b[j']:=by simp [n]
   refine (V3 1 rfl (x:=b) rfl).trans ((V3 j' ?_ d).trans ?_)
   ·rw [Si (by have:=vb.len;have:=I.jb;omega)];omega
   rw [eM,Sw];show bd (Uy (1,(wn (kx a i) (kx b j):Int))) _=_;rw [eL,Sw,iS,Sw,TL,if_neg (s m d)];rfl
  ·rw [if_neg f];rfl
end
end
section
open Go Sv
theorem Wk {l:List Ti} {i:Nat} {x:Ti} (h:l[i]? = some x):kx l i=(x.1,false):=by unfold kx;rw [h]
theorem ZL {l:List Ti} {i:Nat} (h:l[i]? = none):kx l i=([],true):=by unfold kx;rw [h]
theorem Zn {l:List Ti} (v:VL l) {i:Nat} {x:Ti} (h:l[i]? = some x):(kx l (i+1)).2=true\/SU (kx l (i+1)).1 x.1=false:=by
 cases a:l[i+1]? with
 | none=>rw [ZL a];exact .inl rfl
 | some y=>rw [Wk a];exact .inr (U0 (v.lt h a))
theorem YZ {α β:Type} {n:Int} {l:List α} {K:Nat->α->Option β} (k:Nat) {x:α} (c:n=(k:Int)) (b:l[k]? = some x):R0 n (λa=>gd (KJ a (AS l)) λ_=>ix l a λd=>K a d)=K k x:=by
 subst c;rw [Tf,S2,if_pos (show k<AS l from (a8.1 b).1),TB b]
section
variable {a b:List Ti} (va:VL a) (vb:VL b)
include va vb
theorem nK {i j:Nat} (I:Inv a b i j) {x:Ti} (c:a[i]? = some x) (g:XZ a b i j=true):Uj (ZC a b i j)=some (x,(0,(ZC a b (i+1) j,0))):=by
 obtain ⟨e,h⟩:=gq g;have hi:=(a8.1 c).1;have l:=va.len;have hd:(wk (kx a i) (kx b j)).2=false:=by rw [e,Wk c]
 obtain ⟨m,f⟩:=Xn (p:=kx a i) (q:=kx b j) (k:=kx a (i+1)) (UU _ _) (UU _ _) (UU _ _) hd (by rw [e,Wk c];exact Zn va c)
 have d:rk (kx a i) (kx b j) (kx a (i+1))=(kx a (i+1),kx b j):=by
  unfold rk;unfold XZ at g;rw [if_pos g]
 rw [d] at f;unfold Uj;rw [Yj va vb I,Sw,TP,if_pos rfl];unfold Ts UA;refine UJ (YR (show 2<=1048576 by omega)) (UJ (YR (show 2<=1048576 by omega)) ?_);rw [show (ZC a b i j).2.2=Tt (kx a i) (kx b j) from rfl,Xf (UU _ _) (UU _ _),if_neg (by simp [hd]),Sw,TP,if_pos rfl,h];refine (YZ 0 rfl (x:=a) rfl).trans ((YZ 0 rfl (x:=(i:Int)) rfl).trans ((V3 i rfl c).trans ((YZ 0 rfl (x:=(i:Int)) rfl).trans ((YZ 0 rfl (x:=(i:Int)) rfl).trans ((YZ 0 rfl (x:=a) rfl).trans ((YZ 0 rfl (x:=SE .i64 (i:Int) 1) rfl).trans ?_))))));rw [Tw (by omega),W6 (show i+1<=a.length by omega),Sw,f,Sw];rfl
theorem nL {i j:Nat} (I:Inv a b i j) {y:Ti} (c:b[j]? = some y) (g:XZ a b i j=false):Uj (ZC a b i j)=some (y,(1,(ZC a b i (j+1),0))):=by
 obtain ⟨e,h⟩:=gr g;have hi:=(a8.1 c).1;have l:=vb.len;have hd:(wk (kx a i) (kx b j)).2=false:=by rw [e,Wk c]
 obtain ⟨m,f⟩:=Xn (p:=kx a i) (q:=kx b j) (k:=kx b (j+1)) (UU _ _) (UU _ _) (UU _ _) hd (by rw [e,Wk c];exact Zn vb c)
 have d:rk (kx a i) (kx b j) (kx b (j+1))=(kx a i,kx b (j+1)):=by
  unfold rk;unfold XZ at g;rw [if_neg (by simp [g])]
 rw [d] at f;unfold Uj;rw [Yj va vb I,Sw,TP,if_pos rfl];unfold Ts UA;refine UJ (YR (show 2<=1048576 by omega)) (UJ (YR (show 2<=1048576 by omega)) ?_);rw [show (ZC a b i j).2.2=Tt (kx a i) (kx b j) from rfl,Xf (UU _ _) (UU _ _),if_neg (by simp [hd]),Sw,TP,if_pos rfl,h];refine (YZ 1 rfl (x:=b) rfl).trans ((YZ 1 rfl (x:=(j:Int)) rfl).trans ((V3 j rfl c).trans ((YZ 1 rfl (x:=(j:Int)) rfl).trans ((YZ 1 rfl (x:=(j:Int)) rfl).trans ((YZ 1 rfl (x:=b) rfl).trans ((YZ 1 rfl (x:=SE .i64 (j:Int) 1) rfl).trans ?_))))));rw [Tw (by omega),W6 (show j+1<=b.length by omega),Sw,f,Sw];rfl
def Yt (a b:List Ti) (n:Nat):VF:=ZC a b (pos a b n).1 (pos a b n).2
def aF (a b:List Ti) (n:Nat):Nat:=if XZ a b (pos a b n).1 (pos a b n).2=true then 0 else 1
theorem Z4 {n:Nat} {x:Ti} (h:n<a.length+b.length) (c:Zg a b n=some x):Uj (Yt a b n)=some (x,((aF a b n:Int),(Yt a b (n+1),0))):=by
 obtain ⟨d,hs⟩:=V4 va vb (n:=n) (by omega);unfold Yt aF;rw [show pos a b (n+1)=if XZ a b (pos a b n).1 (pos a b n).2=true then ((pos a b n).1+1,(pos a b n).2) else ((pos a b n).1,(pos a b n).2+1) from rfl]
 unfold Zg at c;cases g:XZ a b (pos a b n).1 (pos a b n).2 with
 | true=>rw [if_pos g] at c;rw [nK va vb d c g];simp
 | false=>rw [if_neg (by simp [g])] at c;rw [nL va vb d c g];simp
end
theorem aH {s:Uc} (b:s.2.1.length<=32) (a:s.1=false->s.2.1=[]):V1 s=some 0:=by
 unfold V1;rw [Yq,Sw,if_neg (by omega),TP,if_pos rfl,UT,TU];cases h:s.1 with
 | true=>rfl
 | false=>rw [if_neg (by simp),UT,Vx,if_pos (a h)]
def keep (s:Uc) (x:Ti):Bool := !(s.1&&decide (x.1=s.2.1)) && !(s.2.2&&x.2.2.1)
theorem fc {s:Uc} {x:Ti} (e:s.2.1.length<=32) (f:s.1=false->s.2.1=[]) (g:kE x=0) (a:s.1=true->SU x.1 s.2.1=false):Ut (s,x)=some (keep s x,((true,(x.1,s.2.2)),0)):=by
 unfold Ut keep;rw [aH e f,Sw,TP,if_pos rfl,Wp,g,Sw,TP,if_pos rfl];obtain ⟨s1,s2,c⟩:=s;obtain ⟨h,i,d,j⟩:=x;simp only at a ⊢;cases s1 with
 | true =>
  have:=a rfl;simp only [Sb,R6,Wn,Vx,this,iz,if_false];by_cases b:h=s2
  ·simp [b]
  ·simp only [b,if_false,decide_false];cases c<;>cases d<;>rfl
 | false =>
  simp only [Sb,R6];cases c<;>cases d<;>rfl
def Vw:Uc->List Ti->List Ti
 | _,[]=>[]
 | s,x::l=>(if keep s x=true then [x] else [])++Vw (true,(x.1,s.2.2)) l
theorem Xu : ∀ (s:Uc) (l:List Ti),(Vw s l).length<=l.length
 | _,[]=>eb _
 | s,x::l=>by
  have:=Xu (true,(x.1,s.2.2)) l;unfold Vw;by_cases h:keep s x=true
  ·rw [if_pos h];simp;omega
  ·rw [if_neg h];simp;omega
def ZR:Uc->List Ti->Prop
 | _,[]=>True
 | s,x::l=>kE x=0/\(s.1=true->SU x.1 s.2.1=false)/\ZR (true,(x.1,s.2.2)) l
theorem Zz {x:Ti} (h:kE x=0):x.1.length<=32:=by
 unfold kE at h;by_cases hh:x.1.length>32\/x.2.1.length>64
 ·rw [if_pos hh] at h;cases h
 ·omega
theorem Uv {α β σ S:Type} {l:List α} (mk:Nat->σ->S) (Inv:List α->Nat->σ->Prop) (F:List α->Nat->σ->β) {f:S->Option (LR S β)} {s:S} (a:σ) (p:s=mk 0 a) (z:l.length<=9223372036854775807) (hi:Inv l 0 a)
  (w : ∀ a,Inv [] l.length a->f (mk l.length a)=some (.dn (F [] l.length a)))
  (hc : ∀ k x m a,l.drop k=x::m->l[k]? = some x->k<l.length->Inv (x::m) k a -> ∃ b,f (mk k a)=some (.nx (mk (k+1) b))/\Inv m (k+1) b/\F (x::m) k a=F m (k+1) b):loop f s=some (F l 0 a):=by
 subst p
 have e : ∀ (m:List α) (k n:Nat) (a:σ),l.drop k=m->k<=l.length->m.length<n->Inv m k a->IL n f (mk k a)=some (F m k a):=by
  intro m
  induction m with
  | nil =>
   intro k n a c u d hi;obtain ⟨n,rfl⟩ : ∃ j,n=j+1:=⟨n-1,by omega⟩
   have h:k=l.length:=by
    have:=congrArg nb c;simp at this;omega
   subst h;exact UP (w a hi)
  | cons x m y =>
   intro k n a c u d hi;obtain ⟨n,rfl⟩ : ∃ j,n=j+1:=⟨n-1,by omega⟩
   have o:l[k]? = some x:=by
    have:=congrArg vv c;rw [r6] at this;simpa using this
   have g:k<l.length:=(a8.1 o).1
   have i:l.drop (k+1)=m:=by
    have:=congrArg s9 c;rw [o5] at this;simpa using this
   obtain ⟨b,q,r,t⟩:=hc k x m a c o g hi;rw [UF q,t];exact y (k+1) n b i (by omega) (by simp at d;omega) r
 exact e l 0 _ a (by simp) (by omega) (by omega) hi
def Ur:Uc->List Ti->Uc
 | s,[]=>s
 | s,x::l=>Ur (true,(x.1,s.2.2)) l
theorem ax {β:Type} {out:List Ti} {n:Nat} (h:out.length<=n) (a:n<=20000) (x:Ti) (k:Unit->Option β):gd (CF (BF (AS out) (AS [x])) 1048576) k=k ():=Un (by simp only [BF,AS,co,ed];omega) k
theorem fD {l:List Ti} {b:Bool} (B:l.length<=20000) (A:ZR (false,([],b)) l):WL (l,b)=some (Vw (false,([],b)) l,(0,0)):=by
 unfold WL VD;simp only [Tn,Tl];rw [TL,if_neg (by omega),Sw]
 rw [Uv (l:=l) (σ:=Uc×List Ti) (s:=(0,(0,(0,((false,([],b)),[]))))) (λk a=>((0:Int),((k:Int),((0:Int),a))))
  (λm k a=>ZR a.1 m/\a.1.2.1.length<=32/\(a.1.1=false->a.1.2.1=[])/\a.2.length<=k/\k+m.length=l.length)
  (λm k a=>(1,((0,((l.length:Int),(0,(Ur a.1 m,a.2++Vw a.1 m)))),()))) ((false,([],b)),[]) rfl (by omega) ⟨A,by simp,λ_=>rfl,by simp,by simp⟩ ?_ ?_,Sw]
 ·simp;rfl
 ·intro a _;simp only;rw [re,R6];simp [Ur,Vw]
 ·rintro k x m ⟨s,out⟩ C r z ⟨⟨d,e,g⟩,i,j,n,o⟩;simp only at d e g i j n ⊢;refine ⟨((true,(x.1,s.2.2)),out++if keep s x=true then [x] else []),?_,⟨g,Zz d,(λh=>by cases h),?_,by simp at o;omega⟩,?_⟩
  ·rw [rl z,Sb,Tf,TB r,aH i j,Sw,TP,if_pos rfl,Wp,d,Sw,TP,if_pos rfl];unfold keep UG;obtain ⟨s1,s2,t⟩:=s;obtain ⟨f,u,c,w⟩:=x;simp only [Sw,Tq r (show l.length<=9223372036854775807 by omega)] at e ⊢;have q : ∀ {β:Type} (k:Unit->Option β),gd (CF (BF out.length [(f,(u,(c,w)))].length) 1048576) k=k ():=λk=>ax n (by simp at o;omega) (f,(u,(c,w))) k;cases s1 with
   | true =>
    have y:=e rfl;simp only [Sb,R6,Vx,y,q];by_cases p:f=s2
    ·simp [p]
    ·simp only [p,if_false,decide_false];cases t<;>cases c<;>simp [Sb,R6,Il]
   | false =>
    simp only [Sb,R6,q];cases t<;>cases c<;>simp [Sb,R6,Il]
  ·split<;>simp<;>omega
  ·simp only [Ur,Vw,ci]
end
section
open Go Sv
theorem bR : ∀ (l:List Ti) (s:Uc) (x:Ti),Vw s (l++[x])=Vw s l++(if keep (Ur s l) x=true then [x] else [])
 | [],s,x=>by
  show (if keep s x=true then [x] else [])++[]=[]++(if keep s x=true then [x] else [])
  rw [eo,ol]
 | y::l,s,x=>by
  show (if keep s y=true then [y] else [])++Vw _ (l++[x])=((if keep s y=true then [y] else [])++Vw _ l)++_
  rw [bR l,ci];rfl
theorem Yh : ∀ (l:List Ti) (s:Uc) (x:Ti),Ur s (l++[x])=(true,(x.1,(Ur s l).2.2))
 | [],s,x=>rfl
 | y::l,s,x=>by simp only [List.cons_append,Ur,Yh l]
theorem Wl : ∀ (l:List Ti) (s:Uc),(Ur s l).2.2=s.2.2
 | [],s=>rfl
 | y::l,s=>by rw [Ur,Wl l]
theorem cA : ∀ (l:List Ti) (s:Uc) (x:Ti),ZR s l->kE x=0->((Ur s l).1=true->SU x.1 (Ur s l).2.1=false)->ZR s (l++[x])
 | [],s,x,_,a,b=>⟨a,b,trivial⟩
 | y::l,s,x,⟨a,b,c⟩,d,h5=>⟨a,b,cA l _ x c d h5⟩
theorem aY : ∀ (l:List Ti) (s:Uc),ZR s l->s.2.1.length<=32->(s.1=false->s.2.1=[])->(Ur s l).2.1.length<=32/\((Ur s l).1=false->(Ur s l).2.1=[])
 | [],s,_,h1,h2=>⟨h1,h2⟩
 | y::l,s,⟨a,_,b⟩,_,_=>aY l _ b (Zz a) (λh=>by cases h)
abbrev s0 (a:Bool):Uc:=(false,([],a))
def VO (a b:List Ti) (c:Bool) (n:Nat):XH:=(Yt a b n,(Ur (s0 c) (Tx a b n),(Vw (s0 c) (Tx a b n),(n:Int))))
def Xa (a b:List Ti):Nat->List Int
 | 0=>[]
 | n+1=>Xa a b n++[(aF a b n:Int)]
theorem ZV (a b:List Ti) : ∀ n,(Xa a b n).length=n
 | 0=>rfl
 | n+1=>by simp [Xa,ZV a b n]
theorem X2 {S β:Type} {f:S->Option (LR S β)} {r:β} (mk:Nat->S) (a n:Nat) {s:S} (b:s=mk a) (d:a<=n) (e:n<18446744073709551616) (hs : ∀ k,a<=k->k<n->f (mk k)=some (.nx (mk (k+1)))) (c:f (mk n)=some (.dn r)):loop f s=some r:=by
 have h:=Z3 (f:=f) (r:=r) (λk=>mk (a+k)) (n-a) (s:=s) b (by omega) (λk d=>hs (a+k) (by omega) (by omega)) (by show f (mk (a+(n-a)))=_;rw [show a+(n-a)=n by omega];exact c);exact h
theorem Zr (l:List Ti) (h:l.length<=100000):V2 (l,l)=some true:=by
 unfold V2;simp only [Tn,Tl]
 rw [TP,if_pos rfl,ZN (l:=l) (σ:=Unit) (s:=(false,0)) (λk _=>(false,(k:Int))) (λ_ _ _=>some (1,((false,(l.length:Int)),()))) () rfl (by omega) (λc=>by
  simp only;rw [re];rfl) (λk x m c _ a b => .inl ⟨(),by
   simp only;rw [rl b,Sb,Tf,TB a,Tf,TB a,YI,YI,XI,show Oa x.2.2.2 x.2.2.2=true by unfold Oa;simp,show Hg (Nm true (Nm true (Nm true (Nm true true))))=false from rfl,R6,Tq a (by omega)],rfl⟩),Sw]
 rfl
section
variable {a b:List Ti} (va:VL a) (vb:VL b)
include va vb
theorem WO {n:Nat} {x:Ti} (c:Zg a b n=some x):Tx a b (n+1)=Tx a b n++[x]:=by
 show (match Zg a b n with
  | some x=>Tx a b n++[x]
  | none=>Tx a b n)=_
 rw [c]
theorem Wt (d:Bool) : ∀ {n:Nat},n<=a.length+b.length->ZR (s0 d) (Tx a b n)
 | 0,_=>trivial
 | n+1,h=>by
  obtain ⟨x,c,_⟩:=Vc va vb (n:=n) (by omega);rw [WO va vb c];refine cA _ _ _ (Wt d (by omega)) (iQ va vb c) λ_ => ?_;cases n with
  | zero=>rename_i f;cases f
  | succ m =>
   obtain ⟨y,e,_⟩:=Vc va vb (n:=m) (by omega);rw [WO va vb e,Yh];exact eY va vb (by omega) e c
theorem cd (c:Bool) {n:Nat} (h:n<=a.length+b.length):(Ur (s0 c) (Tx a b n)).2.1.length<=32/\((Ur (s0 c) (Tx a b n)).1=false->(Ur (s0 c) (Tx a b n)).2.1=[]) :=
 aY _ _ (Wt va vb c h) (by simp) (λ_=>rfl)
theorem nq {n:Nat} (h:n=a.length+b.length):(wk (kx a (pos a b n).1) (kx b (pos a b n).2)).2=true:=by
 obtain ⟨c,hs⟩:=V4 va vb (n:=n) (by omega);have d:=c.ia;have e:=c.jb;rw [ZL (a9 (by omega)),ZL (a9 (by omega))];rfl
theorem nr {n:Nat} {x:Ti} (c:Zg a b n=some x):(wk (kx a (pos a b n).1) (kx b (pos a b n).2)).2=false/\wn (kx a (pos a b n).1) (kx b (pos a b n).2)=aF a b n:=by
 unfold Zg at c;unfold aF;cases g:XZ a b (pos a b n).1 (pos a b n).2 with
 | true=>rw [if_pos g] at c;rw [(gq g).1,(gq g).2,Wk c];exact ⟨rfl,rfl⟩
 | false=>rw [if_neg (by simp [g])] at c;rw [(gr g).1,(gr g).2,Wk c];exact ⟨rfl,rfl⟩
theorem nJ:Xi [a,b]=some (Tx a b (a.length+b.length),(Xa a b (a.length+b.length),0)):=by
 have u:=va.len;have w:=vb.len;unfold Xi;rw [Y5 va vb,Sw,TP,if_pos rfl];refine Eq.trans (b:=bd (loop _ (0,[([],false),([],false)])) _) rfl ?_;refine UJ (x:=(0,((2,[kx a 0,kx b 0]),()))) (Uw (s1:=(1,[kx a 0,([],false)])) (s2:=(2,[kx a 0,kx b 0])) ?_ ?_ rfl) ?_
 ·show bd (UN (a,((0:Nat):Int))) _=_;rw [W6 (by omega)];rfl
 ·show bd (UN (b,((0:Nat):Int))) _=_;rw [W6 (by omega)];rfl
 rw [show ((0:Nat),(((2:Int),[kx a 0,kx b 0]),())).2.1.2=[kx a 0,kx b 0] from rfl,ZS (UU _ _) (UU _ _),Sw]
 refine UJ (x:=(0,((Tx a b (a.length+b.length),(Xa a b (a.length+b.length),((),([((pos a b (a.length+b.length)).1:Int),((pos a b (a.length+b.length)).2:Int)],Tt (kx a (pos a b (a.length+b.length)).1) (kx b (pos a b (a.length+b.length)).2))))),())))
  (X2 (λk=>(Tx a b k,(Xa a b k,((),([((pos a b k).1:Int),((pos a b k).2:Int)],Tt (kx a (pos a b k).1) (kx b (pos a b k).2)))))) 0 (a.length+b.length) rfl (by omega) (by omega) (λk _ r => ?_) ?_) rfl
 ·obtain ⟨x,c,_⟩:=Vc va vb (n:=k) r;obtain ⟨j,s⟩:=nr va vb c;obtain ⟨t,hs⟩:=V4 va vb (n:=k) (by omega);have h:(Tx a b k).length=k:=Uz va vb (by omega);have i:=ZV a b k;simp only;rw [Xf (UU _ _) (UU _ _),if_neg (by simp [j]),Sw,TP,if_pos rfl,s];rw [WO va vb c];unfold Zg at c;rw [show Xa a b (k+1)=Xa a b k++[(aF a b k:Int)] from rfl];unfold aF;rw [show pos a b (k+1)=if XZ a b (pos a b k).1 (pos a b k).2=true then ((pos a b k).1+1,(pos a b k).2) else ((pos a b k).1,(pos a b k).2+1) from rfl]
  have l : ∀ {β:Type} (y:Ti) (q:Unit->Option β),gd (CF (BF (AS (Tx a b k)) (AS [y])) 1048576) q=q ():=λy q=>Un (by simp only [BF,AS,h,co,ed];omega) q;have o : ∀ {β:Type} (y:Int) (q:Unit->Option β),gd (CF (BF (AS (Xa a b k)) (AS [y])) 1048576) q=q ():=λy q=>Un (by simp only [BF,AS,i,co,ed];omega) q;cases g:XZ a b (pos a b k).1 (pos a b k).2 with
  | true =>
   rw [if_pos g] at c;obtain ⟨d,_⟩:=gq g;obtain ⟨m,f⟩:=Xn (p:=kx a (pos a b k).1) (q:=kx b (pos a b k).2) (k:=kx a ((pos a b k).1+1)) (UU _ _) (UU _ _) (UU _ _) j (by rw [d,Wk c];exact Zn va c)
   have e:rk (kx a (pos a b k).1) (kx b (pos a b k).2) (kx a ((pos a b k).1+1))=(kx a ((pos a b k).1+1),kx b (pos a b k).2):=by
    unfold rk;unfold XZ at g;rw [if_pos g]
   rw [e] at f;have hi:=(a8.1 c).1;simp only [if_true];refine (YZ 0 rfl (x:=a) rfl).trans ((YZ 0 rfl (x:=((pos a b k).1:Int)) rfl).trans ((V3 _ rfl c).trans ?_));rw [l,o];refine (YZ 0 rfl (x:=((pos a b k).1:Int)) rfl).trans ((YZ 0 rfl (x:=((pos a b k).1:Int)) rfl).trans ((YZ 0 rfl (x:=a) rfl).trans ((YZ 0 rfl (x:=SE .i64 ((pos a b k).1:Int) 1) rfl).trans ?_)));rw [Tw (by omega),W6 (by omega),Sw,f,Sw];rfl
  | false =>
   rw [if_neg (by simp [g])] at c;obtain ⟨d,_⟩:=gr g;obtain ⟨m,f⟩:=Xn (p:=kx a (pos a b k).1) (q:=kx b (pos a b k).2) (k:=kx b ((pos a b k).2+1)) (UU _ _) (UU _ _) (UU _ _) j (by rw [d,Wk c];exact Zn vb c)
   have e:rk (kx a (pos a b k).1) (kx b (pos a b k).2) (kx b ((pos a b k).2+1))=(kx a (pos a b k).1,kx b ((pos a b k).2+1)):=by
    unfold rk;unfold XZ at g;rw [if_neg (by simp [g])]
   rw [e] at f;have hi:=(a8.1 c).1;simp only [iz,if_false];refine (YZ 1 rfl (x:=b) rfl).trans ((YZ 1 rfl (x:=((pos a b k).2:Int)) rfl).trans ((V3 _ rfl c).trans ?_));rw [l,o];refine (YZ 1 rfl (x:=((pos a b k).2:Int)) rfl).trans ((YZ 1 rfl (x:=((pos a b k).2:Int)) rfl).trans ((YZ 1 rfl (x:=b) rfl).trans ((YZ 1 rfl (x:=SE .i64 ((pos a b k).2:Int) 1) rfl).trans ?_)));rw [Tw (by omega),W6 (by omega),Sw,f,Sw];rfl
 ·simp only;rw [Xf (UU _ _) (UU _ _),if_pos (nq va vb rfl),Sw,TP,if_neg (by decide),TP,if_neg (by decide)]
end
end
section
open Go Sv
theorem eQ {β:Type} {out:List Ti} {n:Nat} (h:out.length<=n) (a:n<=20000) (x:Ti) (k:Unit->Option β):gd (CF (BF out.length [x].length) 1048576) k=k ():=ax h a x k
section
variable {a b:List Ti} (va:VL a) (vb:VL b)
include va vb
theorem XF {n:Nat} (h:n<=a.length+b.length):(Tx a b (a.length+b.length)).take n=Tx a b n:=ck va vb (eb _) h
theorem YX {n:Nat} {x:Ti} (c:Bool) (d:Zg a b n=some x):Ur (s0 c) (Tx a b (n+1))=(true,(x.1,c)):=by
 rw [WO va vb d,Yh,Wl]
theorem c0 (c:Bool) {n:Nat} (h:n<=a.length+b.length):Wi (VO a b c n)=some 0:=by
 obtain ⟨e,hs⟩:=V4 va vb (n:=n) h;have i:=va.len;have j:=vb.len;have f:=Xu (s0 c) (Tx a b n);have g:(Tx a b n).length=n:=Uz va vb h;unfold Wi;rw [show (VO a b c n).1=ZC a b (pos a b n).1 (pos a b n).2 from rfl,Yj va vb e,Sw,TP,if_pos rfl];refine UJ (x:=(0,((2,(n:Int)),()))) (Uw (s1:=(1,((pos a b n).1:Int))) (s2:=(2,(n:Int))) ?_ ?_ rfl) ?_
 ·refine (Zl 0 rfl rfl (x:=((pos a b n).1:Int)) rfl).trans ?_;show some (LR.nx ((1:Int),SE .i64 0 ((pos a b n).1:Int)))=_;rw [Sf (by omega),sr]
 ·refine (Zl 1 rfl rfl (x:=((pos a b n).2:Int)) rfl).trans ?_;show some (LR.nx ((2:Int),SE .i64 ((pos a b n).1:Int) ((pos a b n).2:Int)))=_;rw [Sf (by omega),show ((pos a b n).1:Int)+((pos a b n).2:Int)=(n:Int) by omega]
 simp only [Tn,Tl];rw [show (VO a b c n).2.2.1=Vw (s0 c) (Tx a b n) from rfl,show (VO a b c n).2.2.2=(n:Int) from rfl,show (VO a b c n).2.1=Ur (s0 c) (Tx a b n) from rfl,TL,if_neg (by omega),TL,if_neg (by omega),TP,if_pos rfl];rw [show (ZC a b (pos a b n).1 (pos a b n).2).1=[a,b] from rfl,nJ va vb,Sw,TP,if_pos rfl,Tf];rw [Un (by rw [Uz va vb (eb _)];exact h),Un (hV _)];rw [show D0 (Tx a b (a.length+b.length)) 0 n=Tx a b n from by unfold D0;rw [tb,l4];exact XF va vb h,Wl];rw [show (s0 c).2.2=c from rfl,fD (by omega) (Wt va vb c h),Sw,TP,if_pos rfl];unfold VD;rw [Sw,TL];cases n with
 | zero =>
  rw [if_neg (by omega),Zr _ (by omega),Sw,cU,R6];show br (Hg (Nm (Sv.beq false false) (Nm (seq [] []) (Nm (Sv.beq c c) true)))) _ _=_;rw [XI,XI,YI];rfl
 | succ m =>
  obtain ⟨x,d,_⟩:=Vc va vb (n:=m) (by omega);rw [if_pos (by omega),show SJ .i64 ((m+1:Nat):Int) 1=(m:Int) by rw [Si (by omega)];omega,Tf];rw [TB (x:=x) (by rw [X4 va vb (eb _) (by omega)];exact d),Zr _ (by omega),Sw,cU,R6,YX va vb c d];rw [XI,XI,YI];rfl
theorem iM {n:Nat} (h:n<=a.length+b.length):XN (Yt a b n)=some (((a.length+b.length-n:Nat):Int),0):=by
 obtain ⟨c,hs⟩:=V4 va vb (n:=n) h;have f:=va.len;have g:=vb.len;have d:=c.ia;have e:=c.jb;unfold XN;rw [show Yt a b n=ZC a b (pos a b n).1 (pos a b n).2 from rfl,Yj va vb c,Sw,TP,if_pos rfl];refine UJ (x:=(0,((2,((a.length+b.length-n:Nat):Int)),()))) (Uw (s1:=(1,(a.length:Int)-((pos a b n).1:Int))) (s2:=(2,((a.length+b.length-n:Nat):Int))) ?_ ?_ rfl) rfl
 ·refine (Zl 0 rfl rfl (x:=a) rfl).trans ((V3 0 rfl (x:=((pos a b n).1:Int)) rfl).trans ?_);simp only [Tn,Tl];rw [Si (by omega)];show some (LR.nx ((1:Int),SE .i64 0 ((a.length:Int)-((pos a b n).1:Int))))=_;rw [Sf (by omega),sr]
 ·refine (Zl 1 rfl rfl (x:=b) rfl).trans ((V3 1 rfl (x:=((pos a b n).2:Int)) rfl).trans ?_);simp only [Tn,Tl];rw [Si (by omega)];show some (LR.nx ((2:Int),SE .i64 ((a.length:Int)-((pos a b n).1:Int)) ((b.length:Int)-((pos a b n).2:Int))))=_;rw [Sf (by omega),show (a.length:Int)-((pos a b n).1:Int)+((b.length:Int)-((pos a b n).2:Int))=((a.length+b.length-n:Nat):Int) by omega]
theorem Zd (c:Bool) {n:Nat} (h:n<=a.length+b.length):UV (VO a b c n)=some (((a.length+b.length-n:Nat):Int),0):=by
 unfold UV;rw [c0 va vb c h,Sw,TP,if_pos rfl,show (VO a b c n).1=Yt a b n from rfl,iM va vb h];rfl
theorem Zq (c:Bool) {n:Nat} {x:Ti} (d:Zg a b n=some x):VO a b c (n+1)=(Yt a b (n+1),((true,(x.1,c)),(Vw (s0 c) (Tx a b n)++(if keep (Ur (s0 c) (Tx a b n)) x=true then [x] else []),((n+1:Nat):Int)))):=by
 unfold VO;rw [WO va vb d,Yh,Wl,bR]
theorem YJ (c:Bool) {n:Nat} {x:Ti} (h:n<a.length+b.length) (e:Zg a b n=some x):Ut (Ur (s0 c) (Tx a b n),x)=some (keep (Ur (s0 c) (Tx a b n)) x,((true,(x.1,c)),0)):=by
 have d:=cd va vb c (n:=n) (by omega);rw [fc d.1 d.2 (iQ va vb e),Wl];intro g;cases n with
 | zero=>cases g
 | succ m =>
  obtain ⟨y,f,_⟩:=Vc va vb (n:=m) (by omega);rw [YX va vb c f];exact eY va vb (by omega) f e
def qX (k:Int) (s:XH):Int×(Int×(List (List Ti)×(List Int×(List UC×(List Int×(Int×(Bool×(W9×(Bool×(List Ti×Int)))))))))) :=
 (k,(0,(s.1.1,(s.1.2.1,(s.1.2.2.1,(s.1.2.2.2.1,(s.1.2.2.2.2,(s.2.1.1,(s.2.1.2.1,(s.2.1.2.2,(s.2.2.1,s.2.2.2)))))))))))
theorem ah (c:Bool) {n:Nat} (h:n<=a.length+b.length) {k:Nat}:Ui (VO a b c n,(k:Int))=some (VO a b c (n+min k (a.length+b.length-n)),(((min k (a.length+b.length-n):Nat):Int),0)):=by
 have w:=va.len;have z:=vb.len;have d : ∀ m,m<=a.length+b.length->(Vw (s0 c) (Tx a b m)).length<=m:=λm s=>by have:=Xu (s0 c) (Tx a b m);have:=Uz va vb s;omega
 obtain ⟨u,t⟩ : ∃ u,u=min k (a.length+b.length-n):=⟨_,rfl⟩
 have i:TW (k:Int) ((a.length+b.length-n:Nat):Int)=(u:Int):=by
  unfold TW;split<;>omega
 rw [<- t];unfold Ui;rw [Zd va vb c h,Sw,TP,if_pos rfl];simp only [i,Tn,Tl];rw [TN,if_neg (by omega),show (VO a b c n).2.2.2=(n:Int) from rfl,Sf (by omega),TL,if_neg (by omega)];rw [show (VO a b c n).2.2.1=Vw (s0 c) (Tx a b n) from rfl,show (VO a b c n).1=Yt a b n from rfl,Un (by have:=d n h;omega),Un (show (Yt a b n).2.1.length<=1048576 from (show 2<=1048576 by omega)),TN];by_cases r:u=0
 ·rw [r,if_neg (by omega)];rfl
 rw [if_pos (by omega)];obtain ⟨x,o,_⟩:=Vc va vb (n:=n) (by omega);rw [Z4 va vb (by omega) o,Sw,TP,if_pos rfl,show (VO a b c n).2.1=Ur (s0 c) (Tx a b n) from rfl,YJ va vb c (by omega) o,Sw,TP,if_pos rfl]
 have q : ∀ j,1<=j->j<u -> ∃ y,Zg a b (n+j)=some y:=λj f g=>by
  obtain ⟨y,e,_⟩:=Vc va vb (n:=n+j) (by omega);exact ⟨y,e⟩
 rw [TU];have hS:=Zq va vb c o;cases p:keep (Ur (s0 c) (Tx a b n)) x with
 | true =>
  rw [p] at hS;rw [if_pos rfl,eQ (d n h) (by omega)];refine UJ (x:=(1,(qX u (VO a b c (n+u)),()))) (X2 (λj=>qX j (VO a b c (n+j))) 1 u ?_ (by omega) (by omega) (λj f g => ?_) ?_) ?_
  ·rw [hS,show SE .i64 (n:Int) 1=((n+1:Nat):Int) from Tw (by omega)];rfl
  ·obtain ⟨y,e⟩:=q j f g;show br (S7 (j:Int) (u:Int)) _ _=_;rw [TN,if_pos (by omega)];show bd (Uj (Yt a b (n+j))) _=_;rw [Z4 va vb (by omega) e,Sw,TP,if_pos rfl];show bd (Ut (Ur (s0 c) (Tx a b (n+j)),y)) _=_;rw [YJ va vb c (by omega) e,Sw,TP,if_pos rfl,TU,show n+(j+1)=n+j+1 by omega,Zq va vb c e];cases l:keep (Ur (s0 c) (Tx a b (n+j))) y with
   | true =>
    rw [if_pos rfl,if_pos rfl];show gd (CF (BF (AS (Vw (s0 c) (Tx a b (n+j)))) (AS [y])) 1048576) _=_;rw [ax (d _ (by omega)) (by omega)];show some (LR.nx (SE .i64 (j:Int) 1,_))=_;unfold qX;simp only [Tw (show j+1<=9223372036854775807 by omega),Il];rw [show SE .i64 (VO a b c (n+j)).2.2.2 1=((n+j+1:Nat):Int) from Tw (by omega)];rfl
   | false =>
    rw [if_neg (by simp),if_neg (by simp)];show some (LR.nx (SE .i64 (j:Int) 1,_))=_;unfold qX;simp only [Tw (show j+1<=9223372036854775807 by omega)];rw [show SE .i64 (VO a b c (n+j)).2.2.2 1=((n+j+1:Nat):Int) from Tw (by omega),eo];rfl
  ·show br (S7 (u:Int) (u:Int)) _ _=_;rw [TN,if_neg (by omega)]
  ·rfl
 | false =>
  rw [p] at hS;rw [if_neg (by simp)];refine UJ (x:=(1,(qX u (VO a b c (n+u)),()))) (X2 (λj=>qX j (VO a b c (n+j))) 1 u ?_ (by omega) (by omega) (λj f g => ?_) ?_) ?_
  ·rw [hS,show SE .i64 (n:Int) 1=((n+1:Nat):Int) from Tw (by omega),if_neg (by simp),eo];rfl
  ·obtain ⟨y,e⟩:=q j f g;show br (S7 (j:Int) (u:Int)) _ _=_;rw [TN,if_pos (by omega)];show bd (Uj (Yt a b (n+j))) _=_;rw [Z4 va vb (by omega) e,Sw,TP,if_pos rfl];show bd (Ut (Ur (s0 c) (Tx a b (n+j)),y)) _=_;rw [YJ va vb c (by omega) e,Sw,TP,if_pos rfl,TU,show n+(j+1)=n+j+1 by omega,Zq va vb c e];cases l:keep (Ur (s0 c) (Tx a b (n+j))) y with
   | true =>
    rw [if_pos rfl,if_pos rfl];show gd (CF (BF (AS (Vw (s0 c) (Tx a b (n+j)))) (AS [y])) 1048576) _=_;rw [ax (d _ (by omega)) (by omega)];show some (LR.nx (SE .i64 (j:Int) 1,_))=_;unfold qX;simp only [Tw (show j+1<=9223372036854775807 by omega),Il];rw [show SE .i64 (VO a b c (n+j)).2.2.2 1=((n+j+1:Nat):Int) from Tw (by omega)];rfl
   | false =>
    rw [if_neg (by simp),if_neg (by simp)];show some (LR.nx (SE .i64 (j:Int) 1,_))=_;unfold qX;simp only [Tw (show j+1<=9223372036854775807 by omega)];rw [show SE .i64 (VO a b c (n+j)).2.2.2 1=((n+j+1:Nat):Int) from Tw (by omega),eo];rfl
  ·show br (S7 (u:Int) (u:Int)) _ _=_;rw [TN,if_neg (by omega)]
  ·rfl
end
end
section
open Go Sv
theorem XE {α β σ S:Type} {l:List α} (mk:Nat->σ->S) (I:List α->Nat->σ->Prop) (Q:β->Prop) {f:S->Option (LR S β)} {s:S} (a:σ) (t:s=mk 0 a) (z:l.length<=9223372036854775807) (hi:I l 0 a)
  (w : ∀ a,I [] l.length a -> ∃ r,f (mk l.length a)=some (.dn r)/\Q r)
  (hc : ∀ k x m a,l.drop k=x::m->l[k]? = some x->k<l.length->I (x::m) k a->(∃ b,f (mk k a)=some (.nx (mk (k+1) b))/\I m (k+1) b) \/ ∃ r,f (mk k a)=some (.dn r)/\Q r) : ∃ r,loop f s=some r/\Q r:=by
 subst t
 have h : ∀ (m:List α) (k n:Nat) (a:σ),l.drop k=m->k<=l.length->m.length<n->I m k a -> ∃ r,IL n f (mk k a)=some r/\Q r:=by
  intro m
  induction m with
  | nil =>
   intro k n a e u g hi;obtain ⟨n,rfl⟩ : ∃ j,n=j+1:=⟨n-1,by omega⟩
   have o:k=l.length:=by
    have:=congrArg nb e;simp at this;omega
   subst o;obtain ⟨r,c,d⟩:=w a hi;exact ⟨r,UP c,d⟩
  | cons x m y =>
   intro k n a e u g hi;obtain ⟨n,rfl⟩ : ∃ j,n=j+1:=⟨n-1,by omega⟩
   have q:l[k]? = some x:=by
    have:=congrArg vv e;rw [r6] at this;simpa using this
   have i:k<l.length:=(a8.1 q).1
   have p:l.drop (k+1)=m:=by
    have:=congrArg s9 e;rw [o5] at this;simpa using this
   rcases hc k x m a e q i hi with ⟨b,c,d⟩ | ⟨r,c,d⟩
   ·rw [UF c];exact y (k+1) n b p (by omega) (by simp at g;omega) d
   ·exact ⟨r,UP c,d⟩
 exact h l 0 _ a (by simp) (by omega) (by omega) hi
theorem Xz {α:Type} (l m:List α) (g:l.length=m.length) (j:l.length<=9223372036854775806) {f:(Int×Bool)->Option (LR (Int×Bool) (Nat×((Int×Bool)×Unit)))}
  (hs : ∀ (k:Nat) x y,l[k]? = some x->m[k]? = some y->(x=y->f ((k:Int),false)=some (.nx (((k+1:Nat):Int),false)))/\(x≠y->f ((k:Int),false)=some (.dn (0,(((k:Int),false),())))))
  (d:f ((l.length:Int),false)=some (.dn (1,(((l.length:Int),false),())))) :
  ∃ r,loop f (0,false)=some r/\((l=m/\r.1=1)\/(l≠m/\r.1=0/\r.2.1.2=false)):=by
 refine XE (l:=l) (σ:=Unit) (λk _=>((k:Int),false)) (λt k _=>t=l.drop k/\l.take k=m.take k) _ () rfl (by omega) ⟨by simp,by simp⟩ (λi h => ?_) (λk x t i hd b n h => ?_)
 ·refine ⟨_,d,.inl ⟨?_,rfl⟩⟩;have:=h.2;rw [xT,g,xT] at this;exact this
 ·have c:k<m.length:=by omega
  have a:m[k]? = some m[k]:=by simp [c]
  by_cases e:x=m[k]
  ·refine .inl ⟨(),(hs k x m[k] b a).1 e,?_,?_⟩
   ·have:=congrArg s9 hd;rw [o5] at this;simp at this;exact this.symm
   ·rw [li,li,h.2,b,a,e]
  ·refine .inr ⟨_,(hs k x m[k] b a).2 e,.inr ⟨?_,rfl,rfl⟩⟩;intro e2;subst e2;rw [b] at a;exact e (Option.some.inj a)
theorem beq_eq (a b:Bool):Sv.beq a b=decide (a=b):=by cases a<;>cases b<;>rfl
theorem Vb (a b:Int):Oa a b=decide (a=b):=by
 unfold Oa;by_cases h:a=b<;>simp [h]
theorem YA (p q:Prop) [Decidable p] [Decidable q]:Nm (decide p) (decide q)=decide (p/\q):=by unfold Nm;simp
theorem Ux (p:Prop) [Decidable p]:Hg (decide p)=decide (¬ p):=by unfold Hg;simp
theorem ZD (a:Bool):Nm a true=a:=by cases a<;>rfl
theorem fL (l m:List UC) (s:l.length<=9223372036854775806):UB (l,m)=some (decide (l=m)):=by
 unfold UB;simp only [Tn,Tl];rw [TP];by_cases b:(l.length:Int)=(m.length:Int)
 ·rw [if_pos b];have c:l.length=m.length:=by omega
  obtain ⟨r,p,a⟩:=Xz l m c s (f:=λs0=>br (S7 s0.1 (l.length:Int)) (λ_=>R0 s0.1 λt=>ix l t λn=>R0 s0.1 λw=>ix m w λo=>br (Hg (Nm (seq n.1 o.1) (Nm (Sv.beq n.2 o.2) true))) (λ_=>some (.dn ((0,((s0.1,false),()))))) λ_=>some (.nx (SE .i64 s0.1 1,s0.2))) λ_=>some (.dn ((1,(s0,()))))) (λk x y d j=>by
    have i:=(a8.1 d).1
    have g : ∀ {β:Type} (u v:Unit->Option β),br (Hg (Nm (seq x.1 y.1) (Nm (Sv.beq x.2 y.2) true))) u v=if x=y then v () else u ():=by
     intro β u v;rw [ZD,ZA,beq_eq,YA,Ux,U4];by_cases e:x=y
     ·subst e;simp
     ·rw [if_pos (λh=>e (sa h.1 h.2)),if_neg e]
    constructor
    ·intro e;simp only;rw [rl i,Sb,Tf,TB d,Tf,TB j,g,if_pos e,Tw (by omega)]
    ·intro e;simp only
     rw [rl i,Sb,Tf,TB d,Tf,TB j,g,if_neg e]) (by simp only;rw [re];rfl)
  refine UJ p ?_;rcases a with ⟨e,a⟩ | ⟨e,a,q⟩
  ·rw [Sx,a];simp [e]
  ·rw [Sx,a];simp [e,q]
 ·rw [if_neg b];have : ¬ l=m:=λe=>b (by rw [e]);simp [this]
theorem Yf (l m:List Int) (n:l.length<=9223372036854775806):Tv (l,m)=some (decide (l=m)):=by
 unfold Tv;simp only [Tn,Tl];rw [TP];by_cases b:(l.length:Int)=(m.length:Int)
 ·rw [if_pos b];have c:l.length=m.length:=by omega
  obtain ⟨r,i,a⟩:=Xz l m c n (f:=λs0=>br (S7 s0.1 (l.length:Int)) (λ_=>R0 s0.1 λo=>ix l o λq=>R0 s0.1 λp=>ix m p λs=>br (Rx q s) (λ_=>some (.dn ((0,((s0.1,false),()))))) λ_=>some (.nx (SE .i64 s0.1 1,s0.2))) λ_=>some (.dn ((1,(s0,()))))) (λk x y d h=>by
    have g:=(a8.1 d).1;constructor
    ·intro e;simp only;rw [rl g,Sb,Tf,TB d,Tf,TB h,TP,if_pos e,Tw (by omega)]
    ·intro e;simp only
     rw [rl g,Sb,Tf,TB d,Tf,TB h,TP,if_neg e]) (by simp only;rw [re];rfl)
  refine UJ i ?_;rcases a with ⟨e,a⟩ | ⟨e,a,j⟩
  ·rw [Sx,a];simp [e]
  ·rw [Sx,a];simp [e,j]
 ·rw [if_neg b];have : ¬ l=m:=λe=>b (by rw [e]);simp [this]
theorem bN {β:Type} (x y:Ti) (u v:Unit->Option β):br (Hg (Nm (seq x.1 y.1) (Nm (seq x.2.1 y.2.1) (Nm (Sv.beq x.2.2.1 y.2.2.1) (Nm (Oa x.2.2.2 y.2.2.2) true))))) u v=if x=y then v () else u ():=by
 rw [ZD,ZA,ZA,beq_eq,Vb,YA,YA,YA,Ux,U4];by_cases e:x=y
 ·subst e;simp
 ·rw [if_pos (λh=>e (sa h.1 (sa h.2.1 (sa h.2.2.1 h.2.2.2)))),if_neg e]
theorem WT (l m:List Ti) (p:l.length<=9223372036854775806):Ub (l,m)=some (decide (l=m)):=by
 unfold Ub;simp only [Tn,Tl];rw [TP];by_cases d:(l.length:Int)=(m.length:Int)
 ·rw [if_pos d];have g:l.length=m.length:=by omega
  obtain ⟨r,n,a⟩:=Xz l m g p (f:=λs0=>br (S7 s0.1 (l.length:Int)) (λ_=>R0 s0.1 λq=>ix l q λb=>R0 s0.1 λs=>ix m s λc=>br (Hg (Nm (seq b.1 c.1) (Nm (seq b.2.1 c.2.1) (Nm (Sv.beq b.2.2.1 c.2.2.1) (Nm (Oa b.2.2.2 c.2.2.2) true))))) (λ_=>some (.dn ((0,((s0.1,false),()))))) λ_=>some (.nx (SE .i64 s0.1 1,s0.2))) λ_=>some (.dn ((1,(s0,()))))) (λk x y h j=>by
    have i:=(a8.1 h).1;constructor
    ·intro e;simp only;rw [rl i,Sb,Tf,TB h,Tf,TB j,bN,if_pos e,Tw (by omega)]
    ·intro e;simp only
     rw [rl i,Sb,Tf,TB h,Tf,TB j,bN,if_neg e]) (by simp only;rw [re];rfl)
  refine UJ n ?_;rcases a with ⟨e,a⟩ | ⟨e,a,o⟩
  ·rw [Sx,a];simp [e]
  ·rw [Sx,a];simp [e,o]
 ·rw [if_neg d];have : ¬ l=m:=λe=>d (by rw [e]);simp [this]
theorem Xd (l m:List Ti) (a:l.length<=9223372036854775806):Uh (l,m)=some (decide (l=m)):=by
 unfold Uh;rw [WT l m a];rfl
instance:DecidableEq Ti:=inferInstance
instance:DecidableEq (List Ti):=inferInstance
instance:DecidableEq (List (List Ti)):=inferInstance
instance:DecidableEq UC:=inferInstance
instance:DecidableEq Vf:=inferInstance
instance:DecidableEq VF:=inferInstance
instance:DecidableEq Uc:=inferInstance
instance:DecidableEq XH:=inferInstance
theorem bc (x y:XH) (n:x.1.1.length<=1000) (i : ∀ l∈x.1.1,l.length<=1000000) (o:x.1.2.1.length<=1000) (p:x.1.2.2.1.length<=1000) (q:x.1.2.2.2.1.length<=1000) (s:x.2.2.1.length<=1000000):Vd (x,y)=some (decide (x=y)):=by
 obtain ⟨⟨a,E,F,G,M⟩,⟨xs,L,J⟩,I,K⟩:=x;obtain ⟨⟨b,N,P,S,Z⟩,⟨X,Y,O⟩,W,U⟩:=y;simp only at n i o p q s;unfold Vd;simp only [Tn,Tl];rw [TP];by_cases g:(a.length:Int)=(b.length:Int)
 ·rw [if_pos g];have h:a.length=b.length:=by omega
  obtain ⟨r,z,d⟩:=Xz a b h (by omega) (f:=λs0=>br (S7 s0.1 (a.length:Int)) (λ_=>R0 s0.1 λu=>ix a u λC=>R0 s0.1 λw=>ix b w λD=>bd (Uh (C,D)) λB=>br (Hg B) (λ_=>some (.dn ((0,((s0.1,false),()))))) λ_=>some (.nx (SE .i64 s0.1 1,s0.2))) λ_=>some (.dn ((1,(s0,()))))) (λk x y c m=>by
    have j:=(a8.1 c).1;have t:=i x (bo c);constructor
    ·intro e;simp only;rw [rl j,Sb,Tf,TB c,Tf,TB m,Xd _ _ (by omega),Sw,Ux,U4,if_neg (by simp [e]),Tw (by omega)]
    ·intro e;simp only
     rw [rl j,Sb,Tf,TB c,Tf,TB m,Xd _ _ (by omega),Sw,Ux,U4,if_pos e]) (by simp only;rw [re];rfl)
  refine UJ z ?_;simp only [Yf _ _ (show E.length<=9223372036854775806 by omega),Yf _ _ (show G.length<=9223372036854775806 by omega),fL _ _ (show F.length<=9223372036854775806 by omega),Xd _ _ (show I.length<=9223372036854775806 by omega),Sw,U4,Vb,ZA,beq_eq,ZD,YA,Sx];rw [TU];rcases d with ⟨e,d⟩ | ⟨e,d,A⟩
  ·rw [if_neg (show ¬ r.1=0 by omega)]
   repeat' split
   all_goals simp_all
  ·rw [if_pos d,if_neg (show ¬ r.2.1.2=true by simp [A])];simp [e]
 ·rw [if_neg g];have : ¬ a=b:=λe=>g (by rw [e]);simp [this]
end
section
open Go Sv
def kR (a:List Int) (most:Int) (r:UK):Int :=
 if r.1<1\/r.1>1000000 then 7 else if (WC r.2).2≠0 then (WC r.2).2 else if r.2.length=0 then 4 else if (r.2.length:Int)>most then 3 else if r.1∈a then 8 else 0
def Yn (most:Int):Nat->List Int->List UK->Option (Nat×Int)
 | _,_,[]=>none
 | k,ids,r::rs=>if kR ids most r≠0 then some (k,kR ids most r) else Yn most (k+1) (ids++[r.1]) rs
def Um (B:Int) (i:Nat):Int:=B*2 ^ i
def Yl (B:Int):Nat->List Int->List (List UK)->Option (Nat×(Nat×Int))
 | _,_,[]=>none
 | i,ids,rs::ls=>if rs.length>2 then some (i,(0,3)) else match Yn (Um B i) 0 ids rs with
  | some (k,e)=>some (i,(k,e))
  | none=>Yl B (i+1) (ids++rs.map (·.1)) ls
def VG (L:Tk):Int×(Int×Int) :=
 if L.1<1\/L.1>16 then (0,(0,7)) else if L.2.length>12 then (0,(0,3)) else match Yl L.1 0 [] L.2 with
  | some (i,(k,e))=>((i:Int),((k:Int),e))
  | none=>if L.2.getLast? = some [] then (((L.2.length-1:Nat):Int),(0,6)) else (0,(0,0))
theorem fA {most:Int} : ∀ {rs:List UK} {k:Nat} {a:List Int} {c:Nat} {e:Int},Yn most k a rs=some (c,e)->e≠0
 | [],_,_,_,_,h=>by cases h
 | r::rs,k,a,c,e,h=>by
  unfold Yn at h;by_cases b:kR a most r≠0
  ·rw [if_pos b] at h;cases h;exact b
  ·rw [if_neg b] at h;exact fA h
theorem bA {B:Int} : ∀ {ls:List (List UK)} {i:Nat} {a:List Int} {d f:Nat} {e:Int},Yl B i a ls=some (d,(f,e))->e≠0
 | [],_,_,_,_,_,h=>by cases h
 | rs::ls,i,a,d,f,e,h=>by
  unfold Yl at h;by_cases c:rs.length>2
  ·rw [if_pos c] at h;cases h;decide
  ·rw [if_neg c] at h;cases b:Yn (Um B i) 0 a rs with
   | none=>rw [b] at h;exact bA h
   | some x=>rw [b] at h;cases h;exact fA b
def aM (a:List Int):List (Int×Bool):=a.map λi=>(i,true)
theorem iN (c:List Int) (i:Int):SN (MU (λa b=>Oa a b) (aM c) i) false=decide (i∈c):=by
 induction c with
 | nil=>rfl
 | cons j c d =>
  show SN (bif Oa i j then some true else MU (λa b=>Oa a b) (aM c) i) false=_
  rw [Vb];by_cases h:i=j
  ·simp [h,SN]
  ·simp only [h,decide_false,cond_false,en,false_or];exact d
theorem iO {c:List Int} {i:Int} (h:i ∉ c):IT (λa b=>Oa a b) (aM c) i true=aM (c++[i]):=by
 induction c with
 | nil=>rfl
 | cons j c f =>
  show (bif Oa i j then (i,true)::aM c else (j,true)::IT (λa b=>Oa a b) (aM c) i true)=_
  rw [Vb];have d : ¬ i=j:=λe=>h (by simp [e]);rw [f (λe=>h (by simp [e]))];simp only [d,decide_false,cond_false];rfl
theorem bE (r:UK) (b:r.2.length<=9223372036854775807):XV r=some (if r.1<1\/r.1>1000000 then (-1,7) else WC r.2):=by
 unfold XV;rw [TN,TL,XB _ b,Sw];by_cases h:r.1<1
 ·rw [if_pos h,if_pos (.inl h)]
 ·rw [if_neg h];by_cases a:r.1>1000000
  ·rw [if_pos a,if_pos (.inr a)]
  ·rw [if_neg a,if_neg (by omega)]
theorem aZ (r:UK) (most:Int) (b:r.2.length<=9223372036854775807):VS (r,most)=some (kR [] most r):=by
 unfold VS kR;rw [bE r b,Sw];simp only [Tn,Tl];by_cases h:r.1<1\/r.1>1000000
 ·rw [if_pos h,if_pos h];rfl
 ·rw [if_neg h,if_neg h,TP];by_cases a:(WC r.2).2=0
  ·rw [if_pos a,if_neg (by simp [a]),TJ,TL]
   repeat' split
   all_goals first | rfl | (exfalso;omega) | simp_all
  ·rw [if_neg a,if_pos a]
theorem qj (a:List Int) (most:Int) (r:UK):kR a most r=if kR [] most r=0 then (if r.1∈a then 8 else 0) else kR [] most r:=by
 unfold kR
 repeat' split
 all_goals simp_all
theorem qq (i:Nat) (h:i<=12):(2:Int) ^ i<=4096/\1<=(2:Int) ^ i:=by
 have a:(2:Nat) ^ i<=2 ^ 12:=Nat.pow_le_pow_right (by omega) h;have b:1<=(2:Nat) ^ i:=Nat.one_le_two_pow;have c:((2 ^ i:Nat):Int)=(2:Int) ^ i:=by simp
 omega
theorem cF {B:Int} {i:Nat} (a:1<=B) (b:B<=16) (hi:i<=12):1<=Um B i/\Um B i<=65536:=by
 obtain ⟨c,d⟩:=qq i hi;unfold Um;constructor
 ·have:=yk a d (by omega) (by omega);omega
 ·have:=yk b c (by omega) (by omega);omega
theorem ZW {B:Int} {i:Nat} (a:1<=B) (b:B<=16) (hi:i<=12):Ra .i64 B (i:Int)=Um B i:=by
 have c:=cF a b hi;unfold Ra;rw [show min ((i:Int).toNat) IntKind.i64.bits=i by rw [bl];exact ta (Nat.le_trans hi (by decide))];unfold Um at c ⊢;exact IntWalk.i64_in _ (by omega)
def Q1:Option (Nat×(Nat×Int))->Int->Int->Int->Prop
 | some (i,(k,e)),a,b,c=>a=(k:Int)/\b=(i:Int)/\c=e
 | none,_,_,c=>c=0
def Q2 (m:List (Int×Bool)):Option (Nat×Int)->Nat->Int->Int->List (Int×Bool)->Prop
 | some (k,e),r,a,c,_=>r=0/\a=(k:Int)/\c=e
 | none,r,_,c,m'=>r=1/\c=0/\m'=m
theorem YE (L:Tk) (hb:L.2.length<=1048576) (hr : ∀ rs∈L.2,rs.length<=1048576 /\ ∀ r∈rs,r.2.length<=9223372036854775807):VB L=some (VG L):=by
 unfold VB VG;simp only [Tn,Tl];rw [TN,TL,TL];by_cases z:L.1<1
 ·rw [if_pos z,if_pos (.inl z)]
 rw [if_neg z];by_cases A:L.1>16
 ·rw [if_pos A,if_pos (.inr A)]
 rw [if_neg A,if_neg (show ¬ (L.1<1\/L.1>16) by omega)];by_cases hl:(L.2.length:Int)>12
 ·rw [if_pos hl,if_pos (by omega)]
 rw [if_neg hl,if_neg (by omega)];have hl2:L.2.length<=12:=by omega
 obtain ⟨T,I⟩ : ∃ T,T=Yl L.1 0 [] L.2:=⟨_,rfl⟩;rw [<- I]
 have C : ∀ W:Int,W=0->T=none->(br (Rx W 0) (λ_=>(none:Option (Int×(Int×Int)))) λ_=>br (S5 (L.2.length:Int) 0) (λ_=>R0 (SJ .i64 (L.2.length:Int) 1) λO=>ix L.2 O λX=>br (Oa (X.length:Int) 0) (λ_=>some ((SJ .i64 (L.2.length:Int) 1,(0,6)))) λ_=>some ((0,(0,0)))) λ_=>some ((0,(0,0))))=some (if L.2.getLast? = some [] then (((L.2.length-1:Nat):Int),(0,6)) else (0,(0,0))):=by
  intro W o _;rw [TP,if_pos o,TL];by_cases hn:L.2=[]
  ·rw [hn];rfl
  ·have hp:=ey.2 hn;rw [if_pos (by omega),show SJ .i64 (L.2.length:Int) 1=((L.2.length-1:Nat):Int) by rw [Si (by omega)];omega,Tf,o3];have n:L.2[L.2.length-1]? = some (L.2[L.2.length-1]'(by omega)):=by simp
   rw [TB n,n,TJ];by_cases N:L.2[L.2.length-1]'(by omega)=[]
   ·rw [N];simp
   ·rw [if_neg (by have:=ey.2 N;omega),if_neg (by simp [N])]
 obtain ⟨r,S,b⟩:=XE (l:=L.2) (σ:=Int×(Int×List Int)) (λi j=>(j.1,(j.2.1,((0:Int),((i:Int),aM j.2.2)))))
  (λm i j=>Yl L.1 i j.2.2 m=T) (λ(r:Nat×((Int×(Int×(Int×(Int×List (Int×Bool)))))×Unit))=>Q1 T r.2.1.1 r.2.1.2.1 r.2.1.2.2.1)
  (f:=λs0=>br (S7 s0.2.2.2.1 (L.2.length:Int)) (λ_=>R0 s0.2.2.2.1 λk1=>ix L.2 k1 λY=>br (S5 (Y.length:Int) 2) (λ_=>some (.dn ((0,((0,(s0.2.2.2.1,(3,s0.2.2.2))),()))))) λ_=>bd (loop (λa=>br (S7 a.2.1 (Y.length:Int)) (λ_=>R0 a.2.1 λP=>ix Y P λp=>gd (Rw s0.2.2.2.1 0) λ_=>bd (VS (p,Ra .i64 L.1 s0.2.2.2.1)) λg=>br (Oa g 0) (λ_=>br (SN (MU ((λJ=>(λK=>Oa J K))) a.2.2.2 p.1) false) (λ_=>some (.dn ((0,((a.2.1,(a.2.1,(8,a.2.2.2))),()))))) λ_=>br (Rx g 0) (λ_=>some (.dn ((0,((a.2.1,(a.2.1,(g,a.2.2.2))),()))))) λ_=>some (.nx ((a.2.1,(SE .i64 a.2.1 1,(g,IT ((λM=>(λw=>Oa M w))) a.2.2.2 p.1 true)))))) λ_=>br (Rx g 0) (λ_=>some (.dn ((0,((a.2.1,(a.2.1,(g,a.2.2.2))),()))))) λ_=>some (.nx ((a.2.1,(SE .i64 a.2.1 1,(g,IT ((λx=>(λy=>Oa x y))) a.2.2.2 p.1 true)))))) λ_=>some (.dn ((1,(a,()))))) ((0,(0,(s0.2.2.1,s0.2.2.2.2))))) λd=>br (neq d.1 0) (λ_=>some (.dn ((0,((d.2.1.1,(s0.2.2.2.1,(d.2.1.2.2.1,(s0.2.2.2.1,d.2.1.2.2.2)))),()))))) λ_=>some (.nx ((d.2.1.1,(s0.2.2.2.1,(d.2.1.2.2.1,(SE .i64 s0.2.2.2.1 1,d.2.1.2.2.2))))))) λ_=>some (.dn ((0,(s0,())))))
  (s:=(0,(0,(0,(0,[]))))) (0,(0,[])) rfl (by omega) I.symm (λj h=>by
   refine ⟨_,by simp only;rw [re];rfl,?_⟩;simp only at h ⊢;rw [<- h];exact rfl) (λi rs m j hd n hi h=>by
   obtain ⟨s1,s2,c⟩:=j;simp only at h ⊢;obtain ⟨hrs1,F⟩:=hr rs (bo n);rw [rl hi,Sb,Tf,TB n,TL];unfold Yl at h;by_cases Z:rs.length>2
   ·rw [if_pos (by omega)];rw [if_pos Z] at h;refine .inr ⟨_,rfl,?_⟩;rw [<- h];exact ⟨rfl,rfl,rfl⟩
   rw [if_neg (by omega)];rw [if_neg Z] at h;obtain ⟨U,hU⟩ : ∃ U,U=Yn (Um L.1 i) 0 c rs:=⟨_,rfl⟩;rw [<- hU] at h
   obtain ⟨r,S,b⟩:=XE (l:=rs) (σ:=Int) (λk j=>(j,((k:Int),((0:Int),aM (c++(rs.take k).map (·.1))))))
    (λm k _=>Yn (Um L.1 i) k (c++(rs.take k).map (·.1)) m=U) (λ(r:Nat×((Int×(Int×(Int×List (Int×Bool))))×Unit))=>Q2 (aM (c++rs.map (·.1))) U r.1 r.2.1.1 r.2.1.2.2.1 r.2.1.2.2.2)
    (f:=λa=>br (S7 a.2.1 (rs.length:Int)) (λ_=>R0 a.2.1 λP=>ix rs P λp=>gd (Rw (i:Int) 0) λ_=>bd (VS (p,Ra .i64 L.1 (i:Int))) λg=>br (Oa g 0) (λ_=>br (SN (MU ((λJ=>(λK=>Oa J K))) a.2.2.2 p.1) false) (λ_=>some (.dn ((0,((a.2.1,(a.2.1,(8,a.2.2.2))),()))))) λ_=>br (Rx g 0) (λ_=>some (.dn ((0,((a.2.1,(a.2.1,(g,a.2.2.2))),()))))) λ_=>some (.nx ((a.2.1,(SE .i64 a.2.1 1,(g,IT ((λM=>(λw=>Oa M w))) a.2.2.2 p.1 true)))))) λ_=>br (Rx g 0) (λ_=>some (.dn ((0,((a.2.1,(a.2.1,(g,a.2.2.2))),()))))) λ_=>some (.nx ((a.2.1,(SE .i64 a.2.1 1,(g,IT ((λx=>(λy=>Oa x y))) a.2.2.2 p.1 true)))))) λ_=>some (.dn ((1,(a,())))))
    (s:=(0,(0,(0,aM c)))) 0 (by simp) (by omega) (by simp [hU]) (λj h=>by
     refine ⟨_,by simp only;rw [re];rfl,?_⟩;rw [<- h];exact ⟨rfl,rfl,by simp⟩) (λk r m j hd n hk h=>by
     simp only at h ⊢;have hr2:=F r (bo n);have G:(rs.take (k+1)).map (·.1)=(rs.take k).map (·.1)++[r.1]:=by rw [li,n];simp
     rw [rl hk,Sb,Tf,TB n,show gd (Rw (i:Int) 0)=λ(q:Unit->Option (LR (Int×(Int×(Int×List (Int×Bool)))) (Nat×((Int×(Int×(Int×List (Int×Bool))))×Unit))))=>q () from by unfold Rw;simp [gd];rfl,ZW (by omega) (by omega) (by omega)];simp only;rw [aZ _ _ (by omega),Sw,TJ,iN,TP];unfold Yn at h;rw [qj] at h;by_cases o:kR [] (Um L.1 i) r=0
     ·rw [if_pos o] at h;rw [if_pos o,if_pos o,U4];by_cases E:r.1∈c++(rs.take k).map (·.1)
      ·rw [if_pos E];rw [if_pos E,if_pos (by decide)] at h;refine .inr ⟨_,rfl,?_⟩;rw [<- h];exact ⟨rfl,rfl,rfl⟩
      ·rw [if_neg E];rw [if_neg E,if_neg (by decide)] at h;refine .inl ⟨(k:Int),?_,?_⟩
       ·rw [iO E,o,Tq n (by omega),G,ci]
       ·rw [G,<- ci];exact h
     ·rw [if_neg o,if_pos o] at h;rw [if_neg o,if_neg o];refine .inr ⟨_,rfl,?_⟩;rw [<- h]
      exact ⟨rfl,rfl,rfl⟩)
   rw [S,Sw,Sx];cases D:U with
   | some u =>
    obtain ⟨k,e⟩:=u;rw [D] at b h;rw [if_pos b.1];refine .inr ⟨_,rfl,?_⟩;rw [<- h];exact ⟨b.2.1,rfl,b.2.2⟩
   | none =>
    rw [D] at b h;rw [if_neg (show ¬ r.1=0 by have:=b.1;omega)];refine .inl ⟨(r.2.1.1,((i:Int),c++rs.map (·.1))),?_,h⟩
    rw [b.2.1,b.2.2,Tq n (by omega)])
 refine UJ S ?_;cases B:T with
 | some t =>
  obtain ⟨i,k,e⟩:=t;rw [B] at b I;rw [TP,if_neg (by rw [b.2.2];exact bA I.symm),b.1,b.2.1,b.2.2]
 | none =>
  rw [B] at b;have h:=C _ b B;have q3:r.2.1.2.2.1=0:=b;rw [TP,if_pos q3] at h ⊢;exact h
end
section
open Go Sv
structure VR (most:Int) (r:UK):Prop where
 id1:1<=r.1
 id2:r.1<=1000000
 vl:VL r.2
 ne:r.2≠[]
 le:(r.2.length:Int)<=most
theorem iJ {a:List Int} {most:Int} {r:UK}:kR a most r=0<->VR most r/\r.1 ∉ a:=by
 unfold kR;constructor
 ·intro h;by_cases f:r.1<1\/r.1>1000000
  ·rw [if_pos f] at h;cases h
  rw [if_neg f] at h;by_cases b:(WC r.2).2≠0
  ·rw [if_pos b] at h;exact absurd h b
  rw [if_neg b] at h;by_cases c:r.2.length=0
  ·rw [if_pos c] at h;cases h
  rw [if_neg c] at h;by_cases g:(r.2.length:Int)>most
  ·rw [if_pos g] at h;cases h
  rw [if_neg g] at h;by_cases d:r.1∈a
  ·rw [if_pos d] at h;cases h
  exact ⟨⟨by omega,by omega,ZU.1 (by simpa using b),by intro e;rw [e] at c;exact c rfl,by omega⟩,d⟩
 ·rintro ⟨h,d⟩;rw [if_neg (by have:=h.id1;have:=h.id2;omega),if_neg (by simp [ZU.2 h.vl]),if_neg (by have:=ey.2 h.ne;omega),if_neg (by have:=h.le;omega),if_neg d]
def oD (r:UK):Int:=r.1
theorem Zc {most:Int} : ∀ {rs:List UK} {k:Nat} {a:List Int},Yn most k a rs=none<->(∀ r∈rs,VR most r/\r.1 ∉ a)/\(rs.map oD).Nodup
 | [],k,a=>by simp [Yn]
 | r::rs,k,a=>by
  unfold Yn;by_cases h:kR a most r=0
  ·rw [if_neg (by simp [h]),Zc (rs:=rs)];have f:=iJ.1 h;simp only [en,forall_eq_or_imp,hI,ox,oj,List.not_mem_nil,or_false,oy,not_exists,not_and,not_or];constructor
   ·rintro ⟨b,d⟩;exact ⟨⟨f,λx c=>⟨(b x c).1,(b x c).2.1⟩⟩,λx c e=>(b x c).2.2 e,d⟩
   ·rintro ⟨⟨_,b⟩,d,g⟩;exact ⟨λx c=>⟨(b x c).1,(b x c).2,d x c⟩,g⟩
  ·rw [if_pos h];simp only [reduceCtorEq,false_iff,not_and];intro b;exact absurd (iJ.2 (b r (by simp))) h
theorem Yi {B:Int} : ∀ {ls:List (List UK)} {i:Nat} {c:List Int},Yl B i c ls=none<->(∀ k rs,ls[k]? = some rs->rs.length<=2 /\ ∀ r∈rs,VR (Um B (i+k)) r/\r.1 ∉ c)/\(ls.flatten.map oD).Nodup
 | [],i,c=>by simp [Yl]
 | rs::ls,i,c=>by
  unfold Yl;by_cases h:rs.length>2
  ·rw [if_pos h];simp only [reduceCtorEq,false_iff,not_and];intro j;have:=(j 0 rs rfl).1;omega
  ·rw [if_neg h];cases g:Yn (Um B i) 0 c rs with
   | some x =>
    simp only [reduceCtorEq,false_iff,not_and];intro j l
    have m:Yn (Um B i) 0 c rs=none:=Zc.2 ⟨(j 0 rs rfl).2,by
     simp only [lc,rz] at l
     exact (o4.1 l).1⟩
    rw [g] at m;cases m
   | none =>
    have q:=Zc.1 g;simp only;rw [Yi (ls:=ls)];simp only [lc,rz,oj,not_or,oy];constructor
    ·rintro ⟨j,l⟩;refine ⟨λk d n => ?_,?_⟩
     ·cases k with
      | zero=>cases n;exact ⟨by omega,q.1⟩
      | succ k =>
       have m:=j k d n
       exact ⟨m.1,λr g=>by
        have:=m.2 r g;rw [show i+(k+1)=i+1+k by omega]
        exact ⟨this.1,this.2.1⟩⟩
     ·rw [o4];refine ⟨q.2,l,?_⟩;intro a s b t e;subst e;obtain ⟨r,g,e1⟩:=oy.1 s;obtain ⟨p,f,e2⟩:=oy.1 t;obtain ⟨d,o,f⟩:=l5.1 f;obtain ⟨k,n⟩:=dc o;exact ((j k d n).2 p f).2.2 ⟨r,g,by unfold oD at e1 e2;omega⟩
    ·rintro ⟨j,l⟩;rw [o4] at l;refine ⟨λk d n => ?_,l.2.1⟩;have m:=j (k+1) d n;refine ⟨m.1,λr g => ?_⟩;have:=m.2 r g;rw [show i+(k+1)=i+1+k by omega] at this;refine ⟨this.1,this.2,?_⟩;rintro ⟨p,f,e⟩;exact l.2.2 (oD p) (l6 f) (oD r) (l6 (l5.2 ⟨d,bo n,g⟩)) e
structure VLev (L:Tk):Prop where
 B1:1<=L.1
 B2:L.1<=16
 len:L.2.length<=12
 lev : ∀ i rs,L.2[i]? = some rs->rs.length<=2 /\ ∀ r∈rs,VR (Um L.1 i) r
 ids:(L.2.flatten.map oD).Nodup
 last:L.2.getLast? ≠ some []
theorem XC {L:Tk}:(VG L).2.2=0<->VLev L:=by
 unfold VG;constructor
 ·intro h;by_cases c:L.1<1\/L.1>16
  ·rw [if_pos c] at h;cases h
  rw [if_neg c] at h;by_cases d:L.2.length>12
  ·rw [if_pos d] at h;cases h
  rw [if_neg d] at h;cases a:Yl L.1 0 [] L.2 with
  | some x =>
   obtain ⟨i,k,e⟩:=x;rw [a] at h;exact absurd h (bA a)
  | none =>
   rw [a] at h;simp only at h;by_cases f:L.2.getLast? = some []
   ·rw [if_pos f] at h;cases h
   ·have g:=Yi.1 a
    exact ⟨by omega,by omega,by omega,λi rs hi=>by
     have:=g.1 i rs hi;rw [eg] at this
     exact ⟨this.1,λr b=>(this.2 r b).1⟩,g.2,f⟩
 ·intro h
  have a:Yl L.1 0 [] L.2=none:=Yi.2 ⟨λk rs j=>by
   have:=h.lev k rs j;rw [eg]
   exact ⟨this.1,λr b=>⟨this.2 r b,by simp⟩⟩,h.ids⟩
  rw [if_neg (by have:=h.B1;have:=h.B2;omega),if_neg (by have:=h.len;omega),a];simp only;rw [if_neg h.last]
theorem Wm {L:Tk} (h:VLev L):VG L=(0,(0,0)):=by
 have a:Yl L.1 0 [] L.2=none:=Yi.2 ⟨λk rs b=>by
  have:=h.lev k rs b;rw [eg]
  exact ⟨this.1,λr c=>⟨this.2 r c,by simp⟩⟩,h.ids⟩
 unfold VG;rw [if_neg (by have:=h.B1;have:=h.B2;omega),if_neg (by have:=h.len;omega),a];simp only;rw [if_neg h.last]
def WA (l:List (List UK)):Int:=l.foldl (λm rs=>rs.foldl (λm r=>TX m r.1) m) 0
def Tp:Nat->List (List UK)->List Int
 | _,[]=>[]
 | i,rs::ls=>(if rs.length=2 then [(i:Int)] else [])++Tp (i+1) ls
theorem bZ (L:Tk) (e:L.2.length<=1048576) (c : ∀ rs∈L.2,rs.length<=1048576):WJ L=some (WA L.2):=by
 unfold WJ;simp only [Tn,Tl]
 rw [Uv (l:=L.2) (σ:=Int) (s:=((0:Int),(0:Int))) (λi m=>(m,(i:Int))) (λ_ _ _=>True) (λls _ m=>(0,((ls.foldl (λm rs=>rs.foldl (λm r=>TX m r.1) m) m,(L.2.length:Int)),()))) 0 rfl (by omega) trivial (λm _=>by
  simp only;rw [re];rfl) (λi rs ls m hd a hi _=>by
   refine ⟨rs.foldl (λm r=>TX m r.1) m,?_,trivial,rfl⟩;have d:=c rs (bo a);simp only
   rw [rl hi,Sb,Tf,TB a,Uv (l:=rs) (σ:=Int) (s:=((0:Int),m)) (λi m=>((i:Int),m)) (λ_ _ _=>True) (λl _ m=>(0,(((rs.length:Int),l.foldl (λm r=>TX m r.1) m),()))) m rfl (by omega) trivial (λm _=>by
    simp only;rw [re];rfl) (λk r l m hd a b _=>by
     refine ⟨TX m r.1,?_,trivial,rfl⟩;simp only
     rw [rl b,Sb,Tf,TB a,Tq a (by omega)]),Sw,Tq a (by omega)]),Sw]
 rfl
def Yk (L:Tk) (a:List Int) (i:Nat) (j:Job):Bool:=match a[i]? with
 | none=>true
 | some d=>if j.1≠d then true else if j.2.2.1.2.2=true/\j.1≠(L.2.length:Int)-1 then true else match L.2[d.toNat]? with
  | some [r0,r1]=>if j.2.2.2.2<0\/j.2.2.2.2>((r1.2.length+r0.2.length:Nat):Int) then true else decide (VO r1.2 r0.2 j.2.2.1.2.2 j.2.2.2.2.toNat≠j.2)
  | _=>true
def WN (L:Tk) (a:List Int):Nat->List Job->Option Nat
 | _,[]=>none
 | i,j::js=>if Yk L a i j=true then some i else WN L a (i+1) js
def Tj (s:Th):Int×Int :=
 if (VG s.1).2.2≠0 then (-1,(VG s.1).2.2) else if s.2.2<1\/s.2.2>1000001 then (-1,7) else if s.2.2<=WA s.1.2 then (-1,6) else match WN s.1 (Tp 0 s.1.2) 0 s.2.1 with
  | some i=>((i:Int),6)
  | none=>if s.2.1.length<(Tp 0 s.1.2).length then (-1,4) else (0,0)
theorem XX : ∀ {ls:List (List UK)} {i k:Nat} {d:Int},(Tp i ls)[k]? = some d -> ∃ n:Nat,d=((i+n:Nat):Int) /\ ∃ e f,ls[n]? = some [e,f]
 | [],i,k,d,h=>by cases h
 | rs::ls,i,k,d,h=>by
  unfold Tp at h;by_cases a:rs.length=2
  ·rw [if_pos a] at h;cases k with
   | zero =>
    simp at h;refine ⟨0,by simp [<- h],?_⟩
    match rs,a with
    | [e,f],_=>exact ⟨e,f,rfl⟩
   | succ k =>
    simp at h;obtain ⟨n,b,c⟩:=XX h;exact ⟨n+1,by rw [b];congr 1;omega,c⟩
  ·rw [if_neg a] at h;simp at h;obtain ⟨n,b,c⟩:=XX h;exact ⟨n+1,by rw [b];congr 1;omega,c⟩
theorem VV : ∀ (ls:List (List UK)) (i:Nat),(Tp i ls).length<=ls.length
 | [],i=>eb _
 | rs::ls,i=>by
  have:=VV ls (i+1);unfold Tp;split<;>simp<;>omega
theorem bM {L:Tk} {n:Nat} {a b:UK} (c:Bool) (h:L.2[n]? = some [a,b]) (d:VL a.2) (e:VL b.2):U5 (L,((n:Int),c))=some ((n:Int),VO b.2 a.2 c 0):=by
 unfold U5;simp only;rw [Tf,TB h,TB (x:=b) rfl,TB (x:=a) rfl,fH e d];rfl
theorem aO {a b:List Ti} (va:VL a) (d:VL b) (c:Bool) {n:Nat} (h:n<=a.length+b.length):(VO a b c n).1.1.length<=1000/\(∀ l∈(VO a b c n).1.1,l.length<=1000000)/\(VO a b c n).1.2.1.length<=1000/\(VO a b c n).1.2.2.1.length<=1000/\(VO a b c n).1.2.2.2.1.length<=1000/\(VO a b c n).2.2.1.length<=1000000:=by
 have j:=va.len;have k:=d.len;refine ⟨show 2<=1000 by omega,λl f => ?_,show 2<=1000 by omega,show 2<=1000 by omega,show 2<=1000 by omega,?_⟩
 ·have:l=a\/l=b:=by simpa [VO,Yt,ZC] using f
  rcases this with e | e<;>subst e<;>omega
 ·have g:=Xu (s0 c) (Tx a b n);have i:=Uz va d h;show (Vw (s0 c) (Tx a b n)).length<=_;omega
theorem qi {L:Tk} {n:Nat} {a b:UK} {j:Job} (h:L.2[n]? = some [a,b]) (e:VL a.2) (f:VL b.2) {β:Type} (A B:Option β) :
  (bd (U5 (L,((n:Int),j.2.2.1.2.2))) λc=>bd (UV c.2) λl=>br (S7 j.2.2.2.2 0) (λ_=>A) λ_=>br (S5 j.2.2.2.2 l.1) (λ_=>A) λ_=>bd (Ui (c.2,j.2.2.2.2)) λm=>bd (Vd (m.1,j.2)) λo=>br (Hg o) (λ_=>A) λ_=>B)
  = if j.2.2.2.2<0\/j.2.2.2.2>((b.2.length+a.2.length:Nat):Int) then A else if VO b.2 a.2 j.2.2.1.2.2 j.2.2.2.2.toNat=j.2 then B else A:=by
 rw [bM _ h e f,Sw,Zd f e _ (hV _),Sw,TN,TL,l4];by_cases g:j.2.2.2.2<0
 ·rw [if_pos g,if_pos (.inl g)]
 rw [if_neg g];by_cases i:j.2.2.2.2>((b.2.length+a.2.length:Nat):Int)
 ·rw [if_pos i,if_pos (.inr i)]
 rw [if_neg i,if_neg (show ¬ (j.2.2.2.2<0\/j.2.2.2.2>((b.2.length+a.2.length:Nat):Int)) by omega)];obtain ⟨k,p⟩ : ∃ k:Nat,j.2.2.2.2=(k:Int):=⟨j.2.2.2.2.toNat,by omega⟩;rw [p,ah f e _ (hV _),Sw,l4,eg,ta (by omega),bl];obtain ⟨s1,s2,q,r,s,t⟩:=aO f e j.2.2.1.2.2 (n:=k) (by omega);rw [bc _ _ s1 s2 q r s t,Sw,Ux,U4];by_cases d:VO b.2 a.2 j.2.2.1.2.2 k=j.2
 ·rw [if_neg (by simp [d]),if_pos d]
 ·rw [if_pos d,if_neg d]
theorem cb (s:Th) (N:s.1.2.length<=1048576) (hr : ∀ rs∈s.1.2,rs.length<=1048576 /\ ∀ r∈rs,r.2.length<=9223372036854775807) (hj:s.2.1.length<=1048576):Us s=some (Tj s):=by
 unfold Us Tj;simp only [Tn,Tl];rw [YE _ N hr,Sw,TP];by_cases z:(VG s.1).2.2=0;rotate_left
 ·rw [if_neg z,if_pos z]
 rw [if_pos z,if_neg (by simp [z]),TN,TL,bZ _ N (λrs h=>(hr rs h).1),Sw];have v:=XC.1 z;by_cases C:s.2.2<1
 ·rw [if_pos C,if_pos (.inl C)]
 rw [if_neg C];by_cases p:s.2.2>1000001
 ·rw [if_pos p,if_pos (.inr p)]
 rw [if_neg p,if_neg (show ¬ (s.2.2<1\/s.2.2>1000001) by omega),TM];by_cases o:s.2.2<=WA s.1.2
 ·rw [if_pos o,if_pos o]
 rw [if_neg o,if_neg o]
 rw [Uv (l:=s.1.2) (σ:=List Int) (s:=((0:Int),([]:List Int))) (λi m=>((i:Int),m)) (λls i m=>m++Tp i ls=Tp 0 s.1.2) (λ_ _ _=>(0,(((s.1.2.length:Int),Tp 0 s.1.2),()))) [] rfl (by omega) rfl (λm h=>by
  simp only;rw [re,R6,<- h];simp [Tp]) (λi rs ls m hd E hi h=>by
   refine ⟨m++(if rs.length=2 then [(i:Int)] else []),?_,?_,rfl⟩
   ·simp only;rw [rl hi,Sb,Tf,TB E,TJ]
    have hm:m.length<=1048575:=by
     have D:=congrArg nb h;have q:=VV s.1.2 0;have u:=v.len;rw [iP] at D;omega
    by_cases D:rs.length=2
    ·rw [if_pos (by omega),if_pos D,Un (by simp only [BF,AS,co,ed];omega),Tq E (by omega)];rfl
    ·rw [if_neg (by omega),if_neg D,eo,Tq E (by omega)]
   ·rw [ci];exact h),Sw]
 simp only;obtain ⟨a,g⟩ : ∃ a,a=Tp 0 s.1.2:=⟨_,rfl⟩;have hdl:a.length<=12:=by have:=VV s.1.2 0;have:=v.len;rw [g];omega
 rw [<- g];obtain ⟨T,hT⟩ : ∃ T,T=WN s.1 a 0 s.2.1:=⟨_,rfl⟩;rw [<- hT]
 obtain ⟨r,q1,I⟩:=XE (l:=s.2.1) (σ:=Unit) (λi _=>((0:Int),((0:Int),(i:Int)))) (λjs i _=>WN s.1 a i js=T) (λ(r:Nat×((Int×(Int×Int))×Unit))=>(T=none/\r.1=1)\/(∃ i:Nat,T=some i/\r.1=0/\r.2.1.1=6/\r.2.1.2.1=(i:Int)))
  (f:=λb=>br (S7 b.2.2 (s.2.1.length:Int)) (λ_=>R0 b.2.2 λk7=>ix s.2.1 k7 λe=>br (Rw b.2.2 (a.length:Int)) (λ_=>some (.dn ((0,((6,(b.2.2,b.2.2)),()))))) λ_=>R0 b.2.2 λk9=>gd (KJ k9 a.length) λ_=>ix a k9 λx10=>br (Rx e.1 x10) (λ_=>some (.dn ((0,((6,(b.2.2,b.2.2)),()))))) λ_=>br e.2.2.1.2.2 (λ_=>bd (VQ (s.1,e.1)) λP=>br (Hg P) (λ_=>some (.dn ((0,((6,(b.2.2,b.2.2)),()))))) λ_=>bd (U5 ((s.1,(e.1,e.2.2.1.2.2)))) λL=>bd (UV L.2) λS=>br (S7 e.2.2.2.2 0) (λ_=>some (.dn ((0,((6,(b.2.2,b.2.2)),()))))) λ_=>br (S5 e.2.2.2.2 S.1) (λ_=>some (.dn ((0,((6,(b.2.2,b.2.2)),()))))) λ_=>bd (Ui (L.2,e.2.2.2.2)) λU=>bd (Vd (U.1,e.2)) λW=>br (Hg W) (λ_=>some (.dn ((0,((6,(b.2.2,b.2.2)),()))))) λ_=>some (.nx ((b.1,(b.2.1,SE .i64 b.2.2 1))))) λ_=>bd (U5 ((s.1,(e.1,e.2.2.1.2.2)))) λM=>bd (UV M.2) λX=>br (S7 e.2.2.2.2 0) (λ_=>some (.dn ((0,((6,(b.2.2,b.2.2)),()))))) λ_=>br (S5 e.2.2.2.2 X.1) (λ_=>some (.dn ((0,((6,(b.2.2,b.2.2)),()))))) λ_=>bd (Ui (M.2,e.2.2.2.2)) λY=>bd (Vd (Y.1,e.2)) λZ=>br (Hg Z) (λ_=>some (.dn ((0,((6,(b.2.2,b.2.2)),()))))) λ_=>some (.nx ((b.1,(b.2.1,SE .i64 b.2.2 1))))) λ_=>some (.dn ((1,(b,())))))
  (s:=(0,(0,0))) () rfl (by omega) hT.symm (λ_ h=>by
   refine ⟨_,by simp only;rw [re];rfl,.inl ⟨by rw [<- h];rfl,rfl⟩⟩) (λi j js _ hd E hi h=>by
   simp only;rw [rl hi,Sb,Tf,TB E,TK];unfold WN at h
   have c:Yk s.1 a i j=true -> ∃ r:Nat×((Int×(Int×Int))×Unit),(some (LR.dn ((0,((6,((i:Int),(i:Int))),()))):LR (Int×(Int×Int)) _))=some (.dn r)/\((T=none/\r.1=1)\/(∃ i:Nat,T=some i/\r.1=0/\r.2.1.1=6/\r.2.1.2.1=(i:Int))):=λN=>by
    rw [if_pos N] at h;exact ⟨_,rfl,.inr ⟨i,h.symm,rfl,rfl,rfl⟩⟩
   have x:Yk s.1 a i j=false -> ∃ st':Unit,(some (LR.nx ((0:Int),((0:Int),SE .i64 (i:Int) 1))):Option (LR _ (Nat×((Int×(Int×Int))×Unit))))=some (.nx ((0:Int),((0:Int),((i+1:Nat):Int))))/\WN s.1 a (i+1) js=T:=λhg=>by
    rw [if_neg (by simp [hg])] at h;exact ⟨(),by rw [Tq E (by omega)],h⟩
   by_cases C:(i:Int)>=(a.length:Int)
   ·rw [if_pos C];exact .inr (c (by unfold Yk;rw [a9 (by omega)]))
   rw [if_neg C,Tf,S2,if_pos (by omega)];have w:a[i]? = some (a[i]'(by omega)):=by simp
   rw [TB w,TP];obtain ⟨n,O,J,K,y⟩:=XX (ls:=s.1.2) (i:=0) (k:=i) (d:=a[i]'(by omega)) (by rw [<- g];exact w);rw [eg] at O
   have t:Yk s.1 a i j=(if j.1≠(a[i]'(by omega)) then true else if j.2.2.1.2.2=true/\j.1≠(s.1.2.length:Int)-1 then true else if j.2.2.2.2<0\/j.2.2.2.2>((K.2.length+J.2.length:Nat):Int) then true else decide (VO K.2 J.2 j.2.2.1.2.2 j.2.2.2.2.toNat≠j.2)):=by
    unfold Yk;rw [w];simp only;rw [O,bl,y]
   by_cases p:j.1=(a[i]'(by omega));rotate_left
   ·rw [if_neg p];exact .inr (c (by rw [t,if_pos p]))
   rw [if_pos p];rw [if_neg (by simp [p])] at t;have F:j.1=(n:Int):=by rw [p,O]
   have hv:=(v.lev n _ y).2;have v0:=(hv J (by simp)).vl;have v1:=(hv K (by simp)).vl;have G:SJ .i64 (s.1.2.length:Int) 1=(s.1.2.length:Int)-1:=Si (by omega);unfold VQ;simp only [Tn,Tl];rw [Sw,G,Vb,Ux,U4,F,qi y v0 v1,TU];rw [F] at t;by_cases o:j.2.2.1.2.2=true/\(n:Int)≠(s.1.2.length:Int)-1
   ·rw [if_pos o.1,if_pos o.2];exact .inr (c (by rw [t,if_pos o]))
   rw [if_neg o] at t
   have D : ∀ {γ:Type} (A B:γ),(if j.2.2.1.2.2=true then if ¬(n:Int)=(s.1.2.length:Int)-1 then A else B else B)=B:=by
    intro γ A B;by_cases q:j.2.2.1.2.2=true
    ·rw [if_pos q,if_neg (λu=>o ⟨q,u⟩)]
    ·rw [if_neg q]
   rw [D];by_cases q:j.2.2.2.2<0\/j.2.2.2.2>((K.2.length+J.2.length:Nat):Int)
   ·rw [if_pos q];exact .inr (c (by rw [t,if_pos q]))
   rw [if_neg q];rw [if_neg q] at t;by_cases u:VO K.2 J.2 j.2.2.1.2.2 j.2.2.2.2.toNat=j.2
   ·rw [if_pos u];exact .inl (x (by rw [t];simp [u]))
   ·rw [if_neg u]
    exact .inr (c (by rw [t];simp [u])))
 rw [z];refine UJ q1 ?_;rw [Sx];rcases I with ⟨I,q3⟩ | ⟨i,I,q3,q4,q5⟩
 ·rw [if_neg (show ¬ r.1=0 by omega),I,TN];simp only;by_cases h7:s.2.1.length<a.length
  ·rw [if_pos (by omega),if_pos h7]
  ·rw [if_neg (by omega),if_neg h7]
 ·rw [if_pos q3,I,q4,q5]
end
section
open Go Sv
theorem ZP (x:Ti):Vp x=some (kE x):=by
 unfold Vp kE;rw [TL,Tn,YK];by_cases e:x.1.length>32
 ·rw [if_pos (by omega),if_pos (.inl e)]
 rw [if_neg (by omega),TL,Tn,YK];by_cases f:x.2.1.length>64
 ·rw [if_pos (by omega),if_pos (.inr f)]
 rw [if_neg (by omega : ¬ (x.2.1.length:Int)>64),if_neg (by omega),TU];by_cases b:x.2.2.1=true
 ·rw [if_pos b,UT,Vx];by_cases c:x.2.1=[]
  ·rw [if_pos c,if_neg (by simp [c]),TN,TL];by_cases a:x.2.2.2<1
   ·simp [a]
   ·by_cases d:x.2.2.2>1000000000<;>simp [a,d]
  ·rw [if_neg c,if_pos ⟨b,c⟩]
 ·rw [if_neg b,if_neg (by simp [b]),TN,TL];by_cases a:x.2.2.2<1
  ·simp [a]
  ·by_cases d:x.2.2.2>1000000000<;>simp [a,d]
def VP:List UInt8->List UInt8->Nat
 | x::a,y::b=>if x=y then VP a b+1 else 0
 | _,_=>0
theorem mv (x y:UInt8):Oa (Tb x) (Tb y)=decide (x=y):=by
 rw [Vb];unfold Tb;by_cases h:x=y
 ·simp [h]
 ·have : ¬ ((x.toNat:Int)=(y.toNat:Int)):=λe=>h (UInt8.toNat_inj.1 (by omega));simp [h,this]
theorem fJ (a b:List UInt8) (z:a.length<=9223372036854775806):Wc (a,b)=some (VP a b:Int):=by
 unfold Wc;simp only [Tn,YK]
 have key : ∀ (m:List UInt8) (k n:Nat),a.drop k=m->k<=a.length->k<=b.length->m.length<n->IL n (λs0=>br (S7 s0 (a.length:Int)) (λ_=>br (S7 s0 (b.length:Int)) (λ_=>R0 s0 λt=>ix a t λw=>R0 s0 λu=>ix b u λy=>br (Oa (Tb w) (Tb y)) (λ_=>some (LR.nx (SE .i64 s0 1))) λ_=>some (.dn ((0,(s0,()))))) λ_=>some (.dn ((0,(s0,()))))) λ_=>some (.dn ((0,(s0,()))))) (k:Int)=some ((0:Nat),(((k+VP m (b.drop k):Nat):Int),())):=by
  intro m
  induction m with
  | nil =>
   intro k n f r h p;obtain ⟨n,rfl⟩ : ∃ j,n=j+1:=⟨n-1,by omega⟩
   have i:k=a.length:=by
    have:=congrArg nb f;simp at this;omega
   subst i;refine UP ?_;rw [re];simp [R6,VP]
  | cons x m s =>
   intro k n f r h p;obtain ⟨n,rfl⟩ : ∃ j,n=j+1:=⟨n-1,by omega⟩
   have o:a[k]? = some x:=by
    have:=congrArg vv f;rw [r6] at this;simpa using this
   have c:k<a.length:=(a8.1 o).1
   have l:a.drop (k+1)=m:=by
    have:=congrArg s9 f;rw [o5] at this;simpa using this
   by_cases d:k<b.length
   ·have q:b[k]? = some b[k]:=by simp [d]
    rw [tg d];unfold VP;by_cases e:x=b[k]
    ·rw [if_pos e];refine (UF (s':=((k+1:Nat):Int)) ?_).trans ?_
     ·rw [rl c,Sb,rl d,Sb,Tf,TB o,Tf,TB q,mv,U4,if_pos e,Tw (by omega)]
     ·rw [s (k+1) n l (by omega) (by omega) (by simp at p;omega),show k+1+VP m (b.drop (k+1))=k+(VP m (b.drop (k+1))+1) by omega]
    ·rw [if_neg e];refine UP ?_;rw [rl c,Sb,rl d,Sb,Tf,TB o,Tf,TB q,mv,U4,if_neg e];simp
   ·have g:k=b.length:=by omega
    refine UP ?_;rw [rl c,Sb,g,re,R6,List.drop_length];simp [VP]
 refine UJ (Uu (n:=a.length+1) (by omega) (key a 0 (a.length+1) (by simp) (by omega) (by omega) (by omega))) ?_;simp
def Y7 (a b:W9):Int:=if SU a b=true then -1 else if a=b then 0 else 1
theorem bQ : ∀ (a b:W9),(VP a b<=a.length/\VP a b<=b.length)/\(VP a b=a.length->VP a b=b.length->Y7 a b=0)/\(VP a b=a.length->VP a b≠b.length->Y7 a b = -1)/\(VP a b≠a.length->VP a b=b.length->Y7 a b=1)/\(∀ x y,a[VP a b]? = some x->b[VP a b]? = some y->Y7 a b=if x.toNat<y.toNat then -1 else 1)
 | [],[]=>by simp [VP,Y7,ZQ]
 | [],y::b=>by simp [VP,Y7,bF]
 | x::a,[]=>by simp [VP,Y7,ZQ]
 | x::a,y::b=>by
  obtain ⟨⟨o,g⟩,i,j,k,l⟩:=bQ a b;by_cases e:x=y
  ·subst e
   have n:Y7 (x::a) (x::b)=Y7 a b:=by
    unfold Y7;rw [X9];simp
   have hc:VP (x::a) (x::b)=VP a b+1:=by simp [VP]
   rw [n,hc];refine ⟨⟨by simp;omega,by simp;omega⟩,λu v=>i (by simp at u;omega) (by simp at v;omega),λu v=>j (by simp at u;omega) (by simp at v;omega),λu v=>k (by simp at u;omega) (by simp at v;omega),λp q d f=>l p q (by simpa using d) (by simpa using f)⟩
  ·have hc:VP (x::a) (y::b)=0:=by simp [VP,e]
   rw [hc];refine ⟨⟨by omega,by omega⟩,λu=>by simp at u,λu=>by simp at u,λ_ u=>by simp at u,λp q d f => ?_⟩;simp at d f;subst d f;unfold Y7;rw [X9];have m : ¬ (x::a=y::b):=λh=>e (by injection h);by_cases c:x.toNat<y.toNat
   ·have:x<y:=vL.2 c;simp [this,c]
   ·have : ¬ x<y:=λh=>c (vL.1 h);simp [this,c,e]
theorem gx (a b:W9) (p:a.length<=1000000000) (q:b.length<=1000000000):WF (a,b)=some (Y7 a b):=by
 obtain ⟨⟨o,i⟩,j,k,l,m⟩:=bQ a b;unfold WF;simp only [Tn,YK];rw [fJ a b (by omega),Sw,TJ]
 have n:(if (VP a b:Int)<(b.length:Int) then (R0 (VP a b:Int) λc=>ix a c λe=>R0 (VP a b:Int) λd=>ix b d λf=>br (S7 (Tb e) (Tb f)) (λ_=>some (-1:Int)) λ_=>some 1) else some 1)=(if VP a b=a.length then (if (VP a b:Int)<(b.length:Int) then (R0 (VP a b:Int) λc=>ix a c λe=>R0 (VP a b:Int) λd=>ix b d λf=>br (S7 (Tb e) (Tb f)) (λ_=>some (-1:Int)) λ_=>some 1) else some 1) else some (Y7 a b)):=by
  by_cases u:VP a b=a.length
  ·rw [if_pos u]
  ·rw [if_neg u];by_cases v:VP a b=b.length
   ·rw [if_neg (by omega),l u v]
   ·rw [if_pos (by omega),Tf];have g:a[VP a b]? = some (a[VP a b]'(by omega)):=by simp
    have h:b[VP a b]? = some (b[VP a b]'(by omega)):=by simp
    rw [TB g,Tf,TB h,TN,m _ _ g h];unfold Tb;by_cases w:(a[VP a b]'(by omega)).toNat<(b[VP a b]'(by omega)).toNat
    ·rw [if_pos (by omega),if_pos w]
    ·rw [if_neg (by omega),if_neg w]
 by_cases u:VP a b=a.length
 ·rw [if_pos (by omega),TJ];by_cases v:VP a b=b.length
  ·rw [if_pos (by omega),j u v]
  ·rw [if_neg (by omega),TJ,if_pos (by omega),k u v]
 ·rw [if_neg (by omega),TJ,if_neg (by omega),TN,n,if_neg u]
theorem ec (a b:W9):Y7 a b>=0<->SU a b=false:=by
 unfold Y7;cases h:SU a b with
 | true=>simp
 | false=>simp;split<;>omega
theorem Ws (l:List Ti) (D:l.length<=9223372036854775807):VM l=some (WC l):=by
 unfold VM WC;simp only [Tn,Tl];rw [TL];by_cases h:l.length>5000
 ·rw [if_pos (by omega),if_pos h]
 rw [if_neg (by omega),if_neg h];obtain ⟨T,o⟩ : ∃ T,T=YP none 0 l:=⟨_,rfl⟩;rw [<- o]
 obtain ⟨r,w,j⟩:=XE (l:=l) (σ:=Unit) (s:=((0:Int),((0:Int),(0:Int)))) (λk _=>((0:Int),((0:Int),(k:Int)))) (λm k _=>YP (if k=0 then none else (l[k-1]?).map (·.1)) k m=T/\(∀ y,k≠0->l[k-1]? = some y->kE y=0)) (λ(r:Nat×((Int×(Int×Int))×Unit))=>(r.1=1/\T=(0,0))\/(r.1=0/\T=(r.2.1.2.1,r.2.1.1)))
  (f:=λs0=>br (S7 s0.2.2 (l.length:Int)) (λ_=>R0 s0.2.2 λq=>ix l q λA=>bd (Vp A) λd=>br (Oa d 0) (λ_=>br (S5 s0.2.2 0) (λ_=>R0 (SJ .i64 s0.2.2 1) λt=>ix l t λB=>R0 s0.2.2 λu=>ix l u λC=>bd (WF (B.1,C.1)) λz=>br (Rw z 0) (λ_=>some (.dn ((0,((6,(s0.2.2,s0.2.2)),()))))) λ_=>br (Rx d 0) (λ_=>some (.dn ((0,((d,(s0.2.2,s0.2.2)),()))))) λ_=>some (.nx ((s0.1,(s0.2.1,SE .i64 s0.2.2 1))))) λ_=>br (Rx d 0) (λ_=>some (.dn ((0,((d,(s0.2.2,s0.2.2)),()))))) λ_=>some (.nx ((s0.1,(s0.2.1,SE .i64 s0.2.2 1))))) λ_=>br (Rx d 0) (λ_=>some (.dn ((0,((d,(s0.2.2,s0.2.2)),()))))) λ_=>some (.nx ((s0.1,(s0.2.1,SE .i64 s0.2.2 1))))) λ_=>some (.dn ((1,(s0,())))))
  () rfl (by omega) ⟨o.symm,λ_ h=>absurd rfl h⟩ (λ_ h=>by
   refine ⟨_,by simp only;rw [re];rfl,.inl ⟨rfl,?_⟩⟩;rw [<- h.1];simp [YP]) (λk x m _ hd g p h=>by
   simp only;obtain ⟨h,c⟩:=h;rw [rl p,Sb,Tf,TB g,ZP,Sw,TJ];unfold YP at h
   have next:kE x=0->(T=YP (some x.1) (k+1) m)->YP (if k+1=0 then none else (l[k+1-1]?).map (·.1)) (k+1) m=T/\(∀ y,k+1≠0->l[k+1-1]? = some y->kE y=0):=λa e=>by
    rw [if_neg (by omega),Nat.add_sub_cancel,g,e];exact ⟨rfl,λy _ i=>by cases i;exact a⟩
   by_cases a:kE x=0
   ·rw [if_pos a,TL];rw [if_neg (by simp [a])] at h;by_cases b:k=0
    ·rw [if_neg (by omega),TP,if_pos a];rw [if_pos b] at h;exact .inl ⟨(),by rw [Tq g (by omega)],next a h.symm⟩
    ·have i:l[k-1]? = some (l[k-1]'(by omega)):=by rw [ee]
     rw [if_pos (by omega),show SJ .i64 (k:Int) 1=((k-1:Nat):Int) by rw [Si (by omega)];omega,Tf,TB i,Tf,TB g];rw [if_neg b,i] at h;simp only [xm] at h;rw [gx _ _ (by have:=Zz (c _ b i);omega) (by have:=Zz a;omega),Sw,TK];by_cases hs:SU (l[k-1]'(by omega)).1 x.1=true
     ·rw [if_neg (λe=>by rw [ec,hs] at e;cases e),TP,if_pos a];rw [if_pos hs] at h;exact .inl ⟨(),by rw [Tq g (by omega)],next a h.symm⟩
     ·rw [if_pos ((ec _ _).2 (by simpa using hs))];rw [if_neg hs] at h;exact .inr ⟨_,rfl,.inr ⟨rfl,h.symm⟩⟩
   ·rw [if_neg a,TP,if_neg a];rw [if_pos a] at h
    exact .inr ⟨_,rfl,.inr ⟨rfl,h.symm⟩⟩)
 refine UJ w ?_;rw [Sx];rcases j with ⟨j,n⟩ | ⟨j,n⟩
 ·rw [if_neg (show ¬ r.1=0 by omega),n]
 ·rw [if_pos j,n]
theorem my (p q:UC) (d:Vv p) (e:Vv q):Wf ([p,q],(0,1))=some (w0 p q):=by
 unfold Wf w0;refine (V3 0 rfl (x:=p) rfl).trans ((V3 1 rfl (x:=q) rfl).trans ?_);rw [beq_eq,Ux,U4,UT,TU];by_cases a:p.2=q.2
 ·rw [if_neg (show ¬ ¬ p.2=q.2 by simp [a]),if_neg (show ¬ p.2≠q.2 by simp [a])];by_cases b:p.2=true
  ·rw [if_pos b,d b,e (a ▸ b)];rfl
  ·rw [if_neg b,UT,Vx];by_cases c:p.1=q.1
   ·rw [if_pos c,if_neg (by simp [c])];rfl
   ·rw [if_neg c,if_pos c]
 ·rw [if_pos a,if_pos a]
theorem Zh (p q:UC) (n:Nat) (k:Int) (h:2<=k) (a:k<=100):NE Tz (n+1) ([p,q],k)=some (k-2,0):=by
 show Tz (NE Tz n) ([p,q],k)=_;unfold Tz;show br (Rw k 2) (λ_=>some (SJ .i64 k 2,0)) _=_;rw [TK,if_pos h,Si (by omega)]
theorem Z9 (p q:UC) (a:Vv p) (b:Vv q):We ([p,q],1)=some (if w0 p q=true then (0,1) else (1,0)):=by
 show Tz (NE Tz 99) ([p,q],1)=_;unfold Tz;show br (Rw (1:Int) 2) (λ_=>some (SJ .i64 (1:Int) 2,0)) (λ_=>bd (NE Tz (98+1) ([p,q],2)) λc=>bd (NE Tz (98+1) ([p,q],3)) _)=_;rw [TK,if_neg (by omega),Zh p q 98 2 (by omega) (by omega),Sw,Zh p q 98 3 (by omega) (by omega),Sw];show bd (Wf ([p,q],(0,1))) _=_;rw [my p q a b,Sw,TU];cases h:w0 p q<;>rfl
theorem mr (p q:UC) (a:Vv p) (c:Vv q):XP [p,q]=some (Tt p q):=by
 unfold XP;refine Eq.trans (b:=bd (loop _ (1,([p,q],([0,0],0)))) _) rfl ?_;refine UJ (x:=(0,((2,([p,q],([0,if w0 p q=true then 1 else 0],0))),()))) (Uu (n:=2) (by omega) ((UF (s':=(2,([p,q],([0,if w0 p q=true then 1 else 0],0)))) ?_).trans (UP rfl))) ?_
 ·show bd (We ([p,q],1)) _=_;rw [Z9 p q a c,Sw];refine (YZ 1 rfl (x:=(0:Int)) rfl).trans ?_;cases h:w0 p q<;>rfl
 ·rw [Z9 p q a c,Sw];unfold Tt;cases h:w0 p q<;>rfl
theorem fb {l:List UC} (h : ∀ k∈l,Vv k) (b:l≠[]) (e:l.length<=32):W1 l=some 0:=by
 unfold W1;simp only [Tn,Tl];rw [TJ,TL,if_neg (by have:=ey.2 b;omega),if_neg (by omega)]
 rw [Uv (l:=l) (σ:=Unit) (s:=((0:Int),(0:Int))) (λk _=>((k:Int),(0:Int))) (λ_ _ _=>True) (λ_ _ _=>(1,(((l.length:Int),0),()))) () rfl (by omega) trivial (λd _=>by
  simp only;rw [re];rfl) (λk x m d _ a c _=>⟨(),by
   simp only;rw [rl c,Sb,Tf,TB a,TU,Tq a (by omega)];by_cases hd:x.2=true
   ·rw [if_pos hd,Tf,TB a,UT,Vx,if_pos (h x (bo a) hd)]
   ·rw [if_neg hd],trivial,rfl⟩),Sw]
 rfl
theorem fI (p q:UC) (a:Vv p) (b:Vv q):WG [p,q]=some (Tt p q,0):=by
 unfold WG;rw [fb (by simp [a,b]) (by simp) (by simp),Sw,TP,if_pos rfl,mr p q a b,Sw]
end
section
open Go Sv
theorem W8:Ul=Ub:=rfl
theorem aB:XO=Tv:=rfl
theorem cu (l m:List UC) (i:l.length<=9223372036854775806) (j:l.length=m.length) : ∃ r,loop (λs1=>br (S7 s1.1 (l.length:Int)) (λ_=>R0 s1.1 λn=>ix l n λf=>R0 s1.1 λo=>ix m o λg=>br (Hg (Nm (seq f.1 g.1) (Nm (Sv.beq f.2 g.2) true))) (λ_=>some (LR.dn ((0:Nat),((s1.1,false),())))) λ_=>some (.nx (SE .i64 s1.1 1,s1.2))) λ_=>some (.dn ((1,(s1,()))))) ((0:Int),false)=some r/\((l=m/\r.1=1)\/(l≠m/\r.1=0/\r.2.1.2=false)):=by
 refine Xz l m j i (λk x y a d => ?_) (by simp only;rw [re];rfl);have c:=(a8.1 a).1
 have b : ∀ {β:Type} (u v:Unit->Option β),br (Hg (Nm (seq x.1 y.1) (Nm (Sv.beq x.2 y.2) true))) u v=if x=y then v () else u ():=by
  intro β u v;rw [ZD,ZA,beq_eq,YA,Ux,U4];by_cases e:x=y
  ·subst e;simp
  ·rw [if_pos (λh=>e (sa h.1 h.2)),if_neg e]
 constructor
 ·intro e;simp only;rw [rl c,Sb,Tf,TB a,Tf,TB d,b,if_pos e,Tw (by omega)]
 ·intro e;simp only;rw [rl c,Sb,Tf,TB a,Tf,TB d,b,if_neg e]
theorem aC (s t:Vf) (g:s.1.length<=1000) (h:s.2.1.length<=1000):Wd (s,t)=some (decide (s=t)):=by
 obtain ⟨b,d,k⟩:=s;obtain ⟨c,f,l⟩:=t;simp only at g h;unfold Wd;simp only [Tn,Tl];rw [TP];by_cases e1:(b.length:Int)=(c.length:Int);rotate_left
 ·rw [if_neg e1];have : ¬ b=c:=λe=>e1 (by rw [e]);simp [this]
 rw [if_pos e1,TP];by_cases e2:k=l;rotate_left
 ·rw [if_neg e2];simp [e2]
 rw [if_pos e2,aB,Yf _ _ (by omega),Sw,Ux,U4];by_cases e3:d=f;rotate_left
 ·rw [if_pos e3];simp [e3]
 rw [if_neg (show ¬ ¬ d=f by simp [e3])];obtain ⟨r,i,a⟩:=cu b c (by omega) (by omega);refine UJ i ?_;rw [Sx];rcases a with ⟨e,a⟩ | ⟨e,a,j⟩
 ·rw [if_neg (show ¬ r.1=0 by omega)];simp [e,e2,e3]
 ·rw [if_pos a,j];simp [e]
theorem bx (s t:VF) (u:s.1.length<=1000) (g : ∀ l∈s.1,l.length<=1000000) (w:s.2.1.length<=1000) (h:s.2.2.1.length<=1000) (i:s.2.2.2.1.length<=1000):XR (s,t)=some (decide (s=t)):=by
 obtain ⟨a,n,o⟩:=s;obtain ⟨d,p,q⟩:=t;simp only at u g w h i;unfold XR;simp only [Tn,Tl];rw [TP];by_cases e1:(a.length:Int)=(d.length:Int);rotate_left
 ·rw [if_neg e1];have : ¬ a=d:=λe=>e1 (by rw [e]);simp [this]
 rw [if_pos e1,aB,Yf _ _ (by omega),Sw,Ux,U4];by_cases e2:n=p;rotate_left
 ·rw [if_pos e2];simp [e2]
 rw [if_neg (show ¬ ¬ n=p by simp [e2]),aC _ _ h i,Sw,Ux,U4];by_cases e3:o=q;rotate_left
 ·rw [if_pos e3];simp [e3]
 rw [if_neg (show ¬ ¬ o=q by simp [e3])]
 obtain ⟨r,C,c⟩:=Xz a d (by omega) (by omega) (f:=λs2=>br (S7 s2.1 (a.length:Int)) (λ_=>R0 s2.1 λA=>ix a A λF=>R0 s2.1 λB=>ix d B λG=>bd (Ul (F,G)) λE=>br (Hg E) (λ_=>some (.dn ((0,((s2.1,false),()))))) λ_=>some (.nx (SE .i64 s2.1 1,s2.2))) λ_=>some (.dn ((1,(s2,()))))) (λk x y b m=>by
   have j:=(a8.1 b).1;have z:=g x (bo b);constructor
   ·intro e;simp only;rw [rl j,Sb,Tf,TB b,Tf,TB m,W8,WT _ _ (by omega),Sw,Ux,U4,if_neg (by simp [e]),Tw (by omega)]
   ·intro e;simp only
    rw [rl j,Sb,Tf,TB b,Tf,TB m,W8,WT _ _ (by omega),Sw,Ux,U4,if_pos e]) (by simp only;rw [re];rfl)
 refine UJ C ?_;rw [Sx];rcases c with ⟨e,c⟩ | ⟨e,c,D⟩
 ·rw [if_neg (show ¬ r.1=0 by omega)];simp [e,e2,e3]
 ·rw [if_pos c,D];simp [e]
theorem cv (x y:XH) (a:x.1.1.length<=1000) (b : ∀ l∈x.1.1,l.length<=1000000) (c:x.1.2.1.length<=1000) (d:x.1.2.2.1.length<=1000) (e:x.1.2.2.2.1.length<=1000) (f:x.2.2.1.length<=1000000):UY (x,y)=some (decide (x=y)):=by
 obtain ⟨i,⟨xs,k,h⟩,g,j⟩:=x;obtain ⟨n,⟨q,r,m⟩,p,o⟩:=y;simp only at a b c d e f;unfold UY;simp only [bx _ _ a b c d e,W8,WT _ _ (show g.length<=9223372036854775806 by omega),Sw,U4,Vb,ZA,beq_eq,ZD,YA]
 repeat' split
 all_goals simp_all
section
variable {a b:List Ti} (va:VL a) (vb:VL b)
include va vb
theorem Y8:Vs [a,b]=some (0,0):=by
 have c:=va.len;have d:=vb.len;unfold Vs;refine Eq.trans (b:=bd (loop _ (0,(0,0))) _) rfl ?_;refine UJ (x:=(1,((0,(0,2)),()))) (Uw (s1:=(0,(0,1))) (s2:=(0,(0,2))) ?_ ?_ rfl) rfl
 ·refine (Zl 0 rfl rfl (x:=a) rfl).trans ?_;rw [Ws _ (by omega),YQ va,Sw];rfl
 ·refine (Zl 1 rfl rfl (x:=b) rfl).trans ?_;rw [Ws _ (by omega),YQ vb,Sw];rfl
theorem YG {i j:Nat} (hi:i<=a.length) (g:j<=b.length):Vr ([a,b],[(i:Int),(j:Int)])=some (if i=a.length/\j=b.length then -1 else if XZ a b i j=true then 0 else 1):=by
 have k:=va.len;have l:=vb.len;unfold Vr;simp only [Tn,Tl];refine UJ (x:=(0,((if i=a.length/\j=b.length then -1 else if XZ a b i j=true then 0 else 1,2),()))) (Uw (s1:=(if i=a.length then -1 else 0,1)) (s2:=(if i=a.length/\j=b.length then -1 else if XZ a b i j=true then 0 else 1,2)) ?_ ?_ rfl) rfl
 ·refine (Zl 0 rfl rfl (x:=(i:Int)) rfl).trans ((V3 0 rfl (x:=a) rfl).trans ?_);rw [TN];by_cases h:i=a.length
  ·rw [if_neg (by omega),if_pos h];rfl
  ·rw [if_pos (by omega),if_neg h];rfl
 ·refine (Zl 1 rfl rfl (x:=(j:Int)) rfl).trans ((V3 1 rfl (x:=b) rfl).trans ?_);rw [TN];by_cases h:j=b.length
  ·rw [if_neg (by omega)];by_cases c:i=a.length
   ·rw [if_pos c,if_pos ⟨c,h⟩];rfl
   ·rw [if_neg c,if_neg (λe=>c e.1)];have d:a[i]? = some (a[i]'(by omega)):=by simp
    rw [eR d (a9 (by omega))];rfl
  ·have f:b[j]? = some (b[j]'(by omega)):=by simp
   rw [if_pos (by omega),TN,if_neg (λe:i=a.length/\j=b.length=>h e.2)];by_cases c:i=a.length
   ·rw [if_pos c,if_pos (by omega),eU (a9 (by omega)) f];rfl
   ·rw [if_neg c,if_neg (by omega)];have d:a[i]? = some (a[i]'(by omega)):=by simp
    refine (V3 1 rfl (x:=b) rfl).trans ((V3 1 rfl (x:=(j:Int)) rfl).trans ((V3 j rfl f).trans ((V3 0 rfl (x:=a) rfl).trans ((V3 0 rfl (x:=(i:Int)) rfl).trans ((V3 i rfl d).trans ?_)))));rw [Wn,Zw d f];cases hs:SU (b[j]'(by omega)).1 (a[i]'(by omega)).1<;>rfl
theorem YH {i j:Nat} (hi:i<=a.length) (e:j<=b.length):VT ([a,b],[(i:Int),(j:Int)])=some (ZC a b i j):=by
 have f:=va.len;have g:=vb.len;unfold VT;simp only [Tn,Tl];rw [Un (show [a,b].length<=1048576 from (show 2<=1048576 by omega)),Un (show [(i:Int),(j:Int)].length<=1048576 from (show 2<=1048576 by omega))];refine UJ (x:=(0,((2,[kx a i,kx b j]),()))) (Uw (s1:=(1,[kx a i])) (s2:=(2,[kx a i,kx b j])) ?_ ?_ rfl) ?_
 ·refine (Zl 0 rfl rfl (x:=(i:Int)) rfl).trans ((V3 0 rfl (x:=a) rfl).trans ?_);rw [Vb,Ux,U4];by_cases h:i=a.length
  ·have c:((i:Int)=(a.length:Int)):=by omega
   rw [if_neg (show ¬ ¬ ((i:Int)=(a.length:Int)) by simp [c]),ZL (a9 (by omega))];simp only [c,decide_true];rfl
  ·have d:a[i]? = some (a[i]'(by omega)):=by simp
   have c : ¬ ((i:Int)=(a.length:Int)):=by omega
   rw [if_pos c];refine (V3 0 rfl (x:=a) rfl).trans ((V3 0 rfl (x:=(i:Int)) rfl).trans ((V3 i rfl d).trans ?_));rw [Wk d];simp only [c,decide_false];rfl
 ·refine (Zl 1 rfl rfl (x:=(j:Int)) rfl).trans ((V3 1 rfl (x:=b) rfl).trans ?_);rw [Vb,Ux,U4];by_cases h:j=b.length
  ·have c:((j:Int)=(b.length:Int)):=by omega
   rw [if_neg (show ¬ ¬ ((j:Int)=(b.length:Int)) by simp [c]),ZL (l:=b) (i:=j) (a9 (by omega))];simp only [c,decide_true];rfl
  ·have d:b[j]? = some (b[j]'(by omega)):=by simp
   have c : ¬ ((j:Int)=(b.length:Int)):=by omega
   rw [if_pos c];refine (V3 1 rfl (x:=b) rfl).trans ((V3 1 rfl (x:=(j:Int)) rfl).trans ((V3 j rfl d).trans ?_));rw [Wk (l:=b) (i:=j) d];simp only [c,decide_false];rfl
 ·show bd (WG [kx a i,kx b j]) _=_;rw [fI _ _ (UU _ _) (UU _ _)];rfl
theorem e8 {i:Nat} {l:List Ti} (h:i≠0) (hi:i<=l.length) : ∃ x,l[i-1]? = some x:=⟨l[i-1]'(by omega),by simp⟩
theorem Za {i j:Nat} (I:Inv a b i j):Vq (ZC a b i j)=some (0,0):=by
 have s:=va.len;have t:=vb.len;have hi:=I.ia;have k:=I.jb;unfold Vq;rw [show (ZC a b i j).1=[a,b] from rfl,Y8 va vb,Sw,TP,if_pos rfl];rw [show (ZC a b i j).2.1=[(i:Int),(j:Int)] from rfl,TP,if_pos (show Ki (AS [(i:Int),(j:Int)])=Ki (AS [a,b]) from rfl)];refine UJ (x:=(1,((0,(0,2)),()))) (Uw (s1:=(0,(0,1))) (s2:=(0,(0,2))) ?_ ?_ rfl) ?_
 ·refine (Zl 0 rfl rfl (x:=(i:Int)) rfl).trans ?_;rw [TN,if_neg (by omega)];refine (V3 0 rfl (x:=(i:Int)) rfl).trans ((V3 0 rfl (x:=a) rfl).trans ?_);rw [TL,if_neg (by simp only [Tn,Tl];omega)];rfl
 ·refine (Zl 1 rfl rfl (x:=(j:Int)) rfl).trans ?_;rw [TN,if_neg (by omega)];refine (V3 1 rfl (x:=(j:Int)) rfl).trans ((V3 1 rfl (x:=b) rfl).trans ?_);rw [TL,if_neg (by simp only [Tn,Tl];omega)];rfl
 rw [show neq ((1:Nat),(((0:Int),((0:Int),(2:Int))),())).1 0=false from rfl,R6,YH va vb hi k,Sw,aC (ZC a b i j).2.2 (ZC a b i j).2.2 (show 2<=1000 by omega) (show 2<=1000 by omega),Sw,Ux,U4,if_neg (show ¬ ¬ (ZC a b i j).2.2=(ZC a b i j).2.2 by simp),YG va vb hi k,Sw];by_cases hd:i=a.length/\j=b.length
 ·rw [if_pos hd];refine UJ (x:=(1,((0,(0,0)),()))) (Uu (n:=1) (by omega) (UP ?_)) rfl;rfl
 rw [if_neg hd];cases g:XZ a b i j with
 | true =>
  rw [if_pos rfl]
  have p:i<a.length:=by
   refine nP λh' => ?_;have o:j<b.length:=by omega
   rw [eU (a9 h') (show b[j]? = some (b[j]'o) by simp)] at g;cases g
  have e:a[i]? = some (a[i]'p):=by simp
  refine UJ (x:=(1,((0,(0,2)),()))) (Uw (s1:=(0,(0,1))) (s2:=(0,(0,2))) ?_ ?_ rfl) rfl
  ·show br (S7 (0:Int) 2) _ _=_;rw [TN,if_pos (by omega),TK,if_pos (by omega)];refine (V3 0 rfl (x:=(i:Int)) rfl).trans ?_;rw [TJ];by_cases f:i=0
   ·rw [if_pos (by omega)];rfl
   ·rw [if_neg (by omega)];obtain ⟨y,d⟩:=e8 va vb (l:=a) f hi;refine (V3 0 rfl (x:=a) rfl).trans ((V3 0 rfl (x:=(i:Int)) rfl).trans ?_);rw [show SJ .i64 (i:Int) 1=((i-1:Nat):Int) by rw [Si (by omega)];omega,Tf,TB d];refine (V3 0 rfl (x:=a) rfl).trans ((V3 0 rfl (x:=(i:Int)) rfl).trans ((V3 i rfl e).trans ?_));have c:=va.lt d (show a[i-1+1]? = some _ by rw [show i-1+1=i by omega];exact e);rw [Wn,if_neg (by rw [U0 c];simp),Vx,if_neg (Yc c)];rfl
  ·show br (S7 (1:Int) 2) _ _=_;rw [TN,if_pos (by omega),TK,if_pos (by omega)];refine (V3 1 rfl (x:=(j:Int)) rfl).trans ?_;rw [TJ];by_cases f:j=0
   ·rw [if_pos (by omega)];rfl
   ·rw [if_neg (by omega)];obtain ⟨y,d⟩:=e8 va vb (l:=b) f k;refine (V3 1 rfl (x:=b) rfl).trans ((V3 1 rfl (x:=(j:Int)) rfl).trans ?_);rw [show SJ .i64 (j:Int) 1=((j-1:Nat):Int) by rw [Si (by omega)];omega,Tf,TB d];refine (V3 0 rfl (x:=a) rfl).trans ((V3 0 rfl (x:=(i:Int)) rfl).trans ((V3 i rfl e).trans ?_));have c:=I.pb (j-1) (by omega) y _ d e;rw [Wn,if_neg (by rw [U0 c];simp),Vx,if_neg (Yc c)];rfl
 | false =>
  rw [if_neg (by simp)]
  have h:j<b.length:=by
   refine nP λh' => ?_;have m:i<a.length:=by omega
   rw [eR (show a[i]? = some (a[i]'m) by simp) (a9 h')] at g;cases g
  have e:b[j]? = some (b[j]'h):=by simp
  refine UJ (x:=(1,((0,(0,2)),()))) (Uw (s1:=(0,(0,1))) (s2:=(0,(0,2))) ?_ ?_ rfl) rfl
  ·show br (S7 (0:Int) 2) _ _=_;rw [TN,if_pos (by omega),TK,if_pos (by omega)];refine (V3 0 rfl (x:=(i:Int)) rfl).trans ?_;rw [TJ];by_cases f:i=0
   ·rw [if_pos (by omega)];rfl
   ·rw [if_neg (by omega)];obtain ⟨y,d⟩:=e8 va vb (l:=a) f hi;refine (V3 0 rfl (x:=a) rfl).trans ((V3 0 rfl (x:=(i:Int)) rfl).trans ?_);rw [show SJ .i64 (i:Int) 1=((i-1:Nat):Int) by rw [Si (by omega)];omega,Tf,TB d];refine (V3 1 rfl (x:=b) rfl).trans ((V3 1 rfl (x:=(j:Int)) rfl).trans ((V3 j rfl e).trans ?_));have q:=I.pa (i-1) (by omega) y _ d e;rw [Wn,if_neg (by rw [q];simp),Vx];by_cases r:y.1=(b[j]'h).1
    ·rw [if_pos r];rfl
    ·rw [if_neg r];rfl
  ·show br (S7 (1:Int) 2) _ _=_;rw [TN,if_pos (by omega),TK,if_pos (by omega)];refine (V3 1 rfl (x:=(j:Int)) rfl).trans ?_;rw [TJ];by_cases f:j=0
   ·rw [if_pos (by omega)];rfl
   ·rw [if_neg (by omega)];obtain ⟨y,d⟩:=e8 va vb (l:=b) f k;refine (V3 1 rfl (x:=b) rfl).trans ((V3 1 rfl (x:=(j:Int)) rfl).trans ?_);rw [show SJ .i64 (j:Int) 1=((j-1:Nat):Int) by rw [Si (by omega)];omega,Tf,TB d];refine (V3 1 rfl (x:=b) rfl).trans ((V3 1 rfl (x:=(j:Int)) rfl).trans ((V3 j rfl e).trans ?_));have c:=vb.lt d (show b[j-1+1]? = some _ by rw [show j-1+1=j by omega];exact e);rw [Wn,if_neg (by rw [U0 c];simp),Vx,if_neg (Yc c)];rfl
end
end
section
open Go Sv
section
variable {a b:List Ti} (va:VL a) (vb:VL b)
include va vb
theorem iY {n:Nat} {x:Ti} (h:n<a.length+b.length) (d:Zg a b n=some x):V6 (Yt a b n)=some (x,((aF a b n:Int),(Yt a b (n+1),0))):=by
 obtain ⟨i,hs⟩:=V4 va vb (n:=n) (by omega);obtain ⟨j,k⟩:=V4 va vb (n:=n+1) (by omega);have l:=va.len;have m:=vb.len;have e:=i.ia;have f:=i.jb;unfold V6;rw [show Yt a b n=ZC a b (pos a b n).1 (pos a b n).2 from rfl,Za va vb i,Sw,TP,if_pos rfl,show (ZC a b (pos a b n).1 (pos a b n).2).1=[a,b] from rfl,show (ZC a b (pos a b n).1 (pos a b n).2).2.1=[((pos a b n).1:Int),((pos a b n).2:Int)] from rfl,YG va vb e f,Sw,if_neg (λhh:(pos a b n).1=a.length/\(pos a b n).2=b.length=>by omega)];unfold Zg at d;have c:pos a b (n+1)=if XZ a b (pos a b n).1 (pos a b n).2=true then ((pos a b n).1+1,(pos a b n).2) else ((pos a b n).1,(pos a b n).2+1):=rfl
 unfold Yt aF;cases g:XZ a b (pos a b n).1 (pos a b n).2 with
 | true =>
  rw [g,if_pos rfl] at c;rw [g,if_pos rfl] at d;have hi:=(a8.1 d).1;rw [if_pos rfl,TN,if_neg (by omega),Un (show AS [((pos a b n).1:Int),((pos a b n).2:Int)]<=1048576 from (show 2<=1048576 by omega))];refine (YZ 0 rfl (x:=((pos a b n).1:Int)) rfl).trans ((YZ 0 rfl (x:=((pos a b n).1:Int)) rfl).trans ((V3 0 rfl (x:=a) rfl).trans ((V3 0 rfl (x:=((pos a b n).1:Int)) rfl).trans ((V3 _ rfl d).trans ?_))));rw [Tw (by omega),show lset [((pos a b n).1:Int),((pos a b n).2:Int)] 0 (((pos a b n).1+1:Nat):Int)=[(((pos a b n).1+1:Nat):Int),((pos a b n).2:Int)] from rfl,YH va vb (by omega) f,Sw,c];rfl
 | false =>
  rw [g,if_neg (by simp)] at c;rw [g,if_neg (by simp)] at d;have hi:=(a8.1 d).1;rw [if_neg (by simp),TN,if_neg (by omega),Un (show AS [((pos a b n).1:Int),((pos a b n).2:Int)]<=1048576 from (show 2<=1048576 by omega))];refine (YZ 1 rfl (x:=((pos a b n).2:Int)) rfl).trans ((YZ 1 rfl (x:=((pos a b n).2:Int)) rfl).trans ((V3 1 rfl (x:=b) rfl).trans ((V3 1 rfl (x:=((pos a b n).2:Int)) rfl).trans ((V3 _ rfl d).trans ?_))));rw [Tw (by omega),show lset [((pos a b n).1:Int),((pos a b n).2:Int)] 1 (((pos a b n).2+1:Nat):Int)=[((pos a b n).1:Int),(((pos a b n).2+1:Nat):Int)] from rfl,YH va vb e (by omega),Sw,c];rfl
theorem iX {n:Nat} (h:n<=a.length+b.length):XQ (Yt a b n)=some (((a.length+b.length-n:Nat):Int),0):=by
 obtain ⟨c,hs⟩:=V4 va vb (n:=n) h;have f:=va.len;have g:=vb.len;have d:=c.ia;have e:=c.jb;unfold XQ;rw [show Yt a b n=ZC a b (pos a b n).1 (pos a b n).2 from rfl,Za va vb c,Sw,TP,if_pos rfl];refine UJ (x:=(0,((2,((a.length+b.length-n:Nat):Int)),()))) (Uw (s1:=(1,(a.length:Int)-((pos a b n).1:Int))) (s2:=(2,((a.length+b.length-n:Nat):Int))) ?_ ?_ rfl) rfl
 ·refine (Zl 0 rfl rfl (x:=a) rfl).trans ((V3 0 rfl (x:=((pos a b n).1:Int)) rfl).trans ?_);simp only [Tn,Tl];rw [show SE .i64 (0:Int) (a.length:Int)=(a.length:Int) by rw [Sf (by omega),sr],Si (by omega)];rfl
 ·refine (Zl 1 rfl rfl (x:=b) rfl).trans ((V3 1 rfl (x:=((pos a b n).2:Int)) rfl).trans ?_);simp only [Tn,Tl];show some (LR.nx ((2:Int),SJ .i64 (SE .i64 ((a.length:Int)-((pos a b n).1:Int)) (b.length:Int)) ((pos a b n).2:Int)))=_;rw [Sf (by omega),Si (by omega),show (a.length:Int)-((pos a b n).1:Int)+(b.length:Int)-((pos a b n).2:Int)=((a.length+b.length-n:Nat):Int) by omega]
theorem ei:WR [a,b]=some (Tx a b (a.length+b.length),(Xa a b (a.length+b.length),0)):=by
 have l:=va.len;have m:=vb.len;unfold WR;rw [Y8 va vb,Sw,TP,if_pos rfl];refine Eq.trans (b:=bd (loop _ ([],([],([],(0,([],[0,0])))))) _) rfl ?_
 refine UJ (x:=(0,((Xa a b (a.length+b.length),(Tx a b (a.length+b.length),0)),())))
  (X2 (λk=>([],(Tx a b k,([],(0,(Xa a b k,[((pos a b k).1:Int),((pos a b k).2:Int)])))))) 0 (a.length+b.length) rfl (by omega) (by omega) (λk _ j => ?_) ?_) rfl
 ·obtain ⟨x,c,_⟩:=Vc va vb (n:=k) j;obtain ⟨d,hs⟩:=V4 va vb (n:=k) (by omega);have e:(Tx a b k).length=k:=Uz va vb (by omega);have f:=ZV a b k;simp only;rw [YG va vb d.ia d.jb,Sw,if_neg (λhh:(pos a b k).1=a.length/\(pos a b k).2=b.length=>by omega)];rw [WO va vb c];unfold Zg at c;rw [show Xa a b (k+1)=Xa a b k++[(aF a b k:Int)] from rfl];unfold aF;rw [show pos a b (k+1)=if XZ a b (pos a b k).1 (pos a b k).2=true then ((pos a b k).1+1,(pos a b k).2) else ((pos a b k).1,(pos a b k).2+1) from rfl]
  have h : ∀ {β:Type} (y:Ti) (q:Unit->Option β),gd (CF (BF (AS (Tx a b k)) (AS [y])) 1048576) q=q ():=λy q=>Un (by simp only [BF,AS,e,co,ed];omega) q;have i : ∀ {β:Type} (y:Int) (q:Unit->Option β),gd (CF (BF (AS (Xa a b k)) (AS [y])) 1048576) q=q ():=λy q=>Un (by simp only [BF,AS,f,co,ed];omega) q;cases g:XZ a b (pos a b k).1 (pos a b k).2 with
  | true =>
   rw [g,if_pos rfl] at c;have hi:=(a8.1 c).1;simp only [if_true];rw [TN,if_neg (by omega)];refine (V3 0 rfl (x:=a) rfl).trans ((YZ 0 rfl (x:=((pos a b k).1:Int)) rfl).trans ((V3 _ rfl c).trans ?_));rw [h,i];refine (YZ 0 rfl (x:=((pos a b k).1:Int)) rfl).trans ((YZ 0 rfl (x:=((pos a b k).1:Int)) rfl).trans ?_);rw [Tw (by omega)];rfl
  | false =>
   rw [g,if_neg (by simp)] at c;have hi:=(a8.1 c).1;simp only [iz,if_false];rw [TN,if_neg (by omega)];refine (V3 1 rfl (x:=b) rfl).trans ((YZ 1 rfl (x:=((pos a b k).2:Int)) rfl).trans ((V3 _ rfl c).trans ?_));rw [h,i];refine (YZ 1 rfl (x:=((pos a b k).2:Int)) rfl).trans ((YZ 1 rfl (x:=((pos a b k).2:Int)) rfl).trans ?_);rw [Tw (by omega)];rfl
 ·obtain ⟨d,hs⟩:=V4 va vb (n:=a.length+b.length) (eb _);simp only;rw [YG va vb d.ia d.jb,Sw,if_pos (show (pos a b (a.length+b.length)).1=a.length/\(pos a b (a.length+b.length)).2=b.length by have:=d.ia;have:=d.jb;omega),TN,if_pos (by omega)]
end
theorem cD {s:Uc} (b:s.2.1.length<=32) (a:s.1=false->s.2.1=[]):W2 s=some 0:=by
 unfold W2;rw [TL,if_neg (by simp only [Tn,YK];omega),UT,TU];cases h:s.1 with
 | true=>rfl
 | false=>rw [if_neg (by simp),UT,Vx,if_pos (a h)]
theorem cx {s:Uc} {x:Ti} (e:s.2.1.length<=32) (f:s.1=false->s.2.1=[]) (g:kE x=0) (a:s.1=true->SU x.1 s.2.1=false):XS (s,x)=some (keep s x,((true,(x.1,s.2.2)),0)):=by
 unfold XS keep;rw [cD e f,Sw,TJ,if_pos rfl,ZP,g,Sw,TJ,if_pos rfl];obtain ⟨s1,s2,c⟩:=s;obtain ⟨h,i,d,j⟩:=x;simp only at a ⊢;cases s1 with
 | true =>
  have:=a rfl;simp only [Sb,Wn,this,iz,if_false,TP,if_true,UT,Vx];by_cases b:h=s2
  ·simp [b,R6]
  ·simp only [b,if_false,decide_false];cases c<;>cases d<;>rfl
 | false =>
  simp only [R6,TP,if_true,UT];cases c<;>cases d<;>rfl
theorem cq {l:List Ti} {b:Bool} (t:l.length<=20000) (r:ZR (false,([],b)) l):Wg (l,b)=some (Vw (false,([],b)) l,(0,0)):=by
 unfold Wg VU;simp only [Tn,Tl];rw [TL,if_neg (by omega),Sw]
 rw [Uv (l:=l) (σ:=Uc×List Ti) (s:=(0,(0,([],([],(0,(false,([],b)))))))) (λk a=>((0:Int),((k:Int),(([]:List Ti),(a.2,((0:Int),a.1))))))
  (λm k a=>ZR a.1 m/\a.1.2.1.length<=32/\(a.1.1=false->a.1.2.1=[])/\a.2.length<=k/\k+m.length=l.length)
  (λm k a=>(1,((0,((l.length:Int),([],(a.2++Vw a.1 m,(0,Ur a.1 m))))),()))) ((false,([],b)),[]) rfl (by omega) ⟨r,by simp,λ_=>rfl,by simp,by simp⟩ ?_ ?_,Sw]
 ·simp;rfl
 ·intro a _;simp only;rw [re,R6];simp [Ur,Vw]
 ·rintro k x m ⟨s,out⟩ u d p ⟨⟨c,e,f⟩,g,i,j,n⟩;simp only at c e f g i j ⊢;refine ⟨((true,(x.1,s.2.2)),out++if keep s x=true then [x] else []),?_,⟨f,Zz c,(λh=>by cases h),?_,by simp at n;omega⟩,?_⟩
  ·rw [rl p,Sb,Tf,TB d,cx g i c e,Sw,TP,if_pos rfl,TU,Tf,TB d];have o : ∀ {β:Type} (k:Unit->Option β),gd (CF (BF out.length [x].length) 1048576) k=k ():=λk=>eQ j (by simp at n;omega) x k;rw [o,Tq d (show l.length<=9223372036854775807 by omega)];cases q:keep s x<;>simp [Il]
  ·split<;>simp<;>omega
  ·simp only [Ur,Vw,ci]
section
variable {a b:List Ti} (va:VL a) (vb:VL b)
include va vb
theorem aQ (c:Bool) {n:Nat} (h:n<=a.length+b.length):Va (Tx a b n,c)=some (Vw (s0 c) (Tx a b n),Ur (s0 c) (Tx a b n)):=by
 have f:=va.len;have g:=vb.len;have d:(Tx a b n).length=n:=Uz va vb h;unfold Va;simp only [Tn,Tl];rw [cq (by omega) (Wt va vb c h),Sw];unfold VU;rw [Sw,TL,d];cases n with
 | zero=>rw [if_neg (by omega)];rfl
 | succ m =>
  obtain ⟨x,e,_⟩:=Vc va vb (n:=m) (by omega);rw [if_pos (by omega),show SJ .i64 ((m+1:Nat):Int) 1=(m:Int) by rw [Si (by omega)];omega,Tf,TB (x:=x) (by rw [X4 va vb h (by omega)];exact e),YX va vb c e]
theorem cC (c:Bool) {n:Nat} (h:n<=a.length+b.length):V7 (VO a b c n)=some (n:Int):=by
 obtain ⟨d,hs⟩:=V4 va vb (n:=n) h;have e:=va.len;have f:=vb.len;unfold V7;refine UJ (x:=(0,(((n:Int),2),()))) (Uw (s1:=(((pos a b n).1:Int),1)) (s2:=((n:Int),2)) ?_ ?_ rfl) rfl
 ·refine (Zl 0 rfl rfl (x:=((pos a b n).1:Int)) rfl).trans ?_;show some (LR.nx (SE .i64 0 ((pos a b n).1:Int),(1:Int)))=_;rw [Sf (by omega),sr]
 ·refine (Zl 1 rfl rfl (x:=((pos a b n).2:Int)) rfl).trans ?_;show some (LR.nx (SE .i64 ((pos a b n).1:Int) ((pos a b n).2:Int),(2:Int)))=_;rw [Sf (by omega),show ((pos a b n).1:Int)+((pos a b n).2:Int)=(n:Int) by omega]
theorem cE (c:Bool) {n:Nat} (h:n<=a.length+b.length):W4 (VO a b c n)=some 0:=by
 obtain ⟨d,hs⟩:=V4 va vb (n:=n) h;have g:=va.len;have i:=vb.len;have e:=Xu (s0 c) (Tx a b n);have f:(Tx a b n).length=n:=Uz va vb h;unfold W4;rw [show (VO a b c n).1=ZC a b (pos a b n).1 (pos a b n).2 from rfl,Za va vb d,Sw,TP,if_pos rfl,cC va vb c h,Sw];simp only [Tn,Tl];rw [show (VO a b c n).2.2.1=Vw (s0 c) (Tx a b n) from rfl,show (VO a b c n).2.2.2=(n:Int) from rfl,show (VO a b c n).2.1=Ur (s0 c) (Tx a b n) from rfl,TL,if_neg (by omega),TL,if_neg (by omega),TP,if_pos rfl];rw [show (ZC a b (pos a b n).1 (pos a b n).2).1=[a,b] from rfl,ei va vb,Sw,Tf];rw [Un (by rw [Uz va vb (eb _)];exact h),Un (hV _)];rw [show D0 (Tx a b (a.length+b.length)) 0 n=Tx a b n from by unfold D0;rw [tb,l4];exact XF va vb h,Wl];rw [show (s0 c).2.2=c from rfl,aQ va vb c h,Sw,W8,WT _ _ (by omega),Sw,Ux,U4,if_neg (by simp),Wl,XI,XI,YI];rfl
theorem Y9 (c:Bool) {n:Nat} (h:n<=a.length+b.length):UH (VO a b c n)=some (((a.length+b.length-n:Nat):Int),0):=by
 unfold UH;rw [cE va vb c h,Sw,TP,if_pos rfl,show (VO a b c n).1=Yt a b n from rfl,iX va vb h];rfl
theorem cy (c:Bool) {n:Nat} (h:n<=a.length+b.length) {k:Nat}:UZ (VO a b c n,(k:Int))=some (VO a b c (n+min k (a.length+b.length-n)),(((min k (a.length+b.length-n):Nat):Int),0)):=by
 have i:=va.len;have l:=vb.len;obtain ⟨u,e⟩ : ∃ u,u=min k (a.length+b.length-n):=⟨_,rfl⟩
 have d:TW (k:Int) ((a.length+b.length-n:Nat):Int)=(u:Int):=by
  unfold TW;split<;>omega
 rw [<- e];unfold UZ;rw [Y9 va vb c h,Sw,TJ,if_pos rfl];simp only [d,Tn,Tl];rw [TN,if_neg (by omega),TP,if_pos rfl,cC va vb c h,Sw,Sf (by omega),TL,if_neg (by omega)]
 refine UJ (x:=(0,(((u:Int),((Yt a b (n+u)).1,((Yt a b (n+u)).2.1,((Yt a b (n+u)).2.2.1,((Yt a b (n+u)).2.2.2.1,((Yt a b (n+u)).2.2.2.2,((VO a b c n).2.1.1,((VO a b c n).2.1.2.1,((VO a b c n).2.1.2.2,(VO a b c n).2.2))))))))),())))
  (X2 (λj=>((j:Int),((Yt a b (n+j)).1,((Yt a b (n+j)).2.1,((Yt a b (n+j)).2.2.1,((Yt a b (n+j)).2.2.2.1,((Yt a b (n+j)).2.2.2.2,((VO a b c n).2.1.1,((VO a b c n).2.1.2.1,((VO a b c n).2.1.2.2,(VO a b c n).2.2)))))))))) 0 u rfl (by omega) (by omega) (λj _ g => ?_) ?_) ?_
 ·obtain ⟨y,f,_⟩:=Vc va vb (n:=n+j) (by omega);show br (S7 (j:Int) (u:Int)) _ _=_;rw [TN,if_pos (by omega)];show bd (V6 (Yt a b (n+j))) _=_;rw [iY va vb (by omega) f,Sw,Tw (by omega)];rfl
 ·show br (S7 (u:Int) (u:Int)) _ _=_;rw [TN,if_neg (by omega)]
 ·rw [show (VO a b c n).1.1=[a,b] from rfl,ei va vb,Sw,show (VO a b c n).2.2.2=(n:Int) from rfl,show SE .i64 (n:Int) (u:Int)=((n+u:Nat):Int) by rw [Sf (by omega)];omega,Tf];rw [Un (by rw [Uz va vb (eb _)];omega),Un (hV _)];rw [show D0 (Tx a b (a.length+b.length)) 0 (n+u)=Tx a b (n+u) from by unfold D0;rw [tb,l4];exact XF va vb (by omega),show (VO a b c n).2.1.2.2=c from Wl _ _,aQ va vb c (by omega),Sw];rfl
end
end
section
open Go Sv
theorem af (B:Int) (i:Nat):Um B (i+1)=2*Um B i:=by
 unfold Um;rw [Int.pow_succ,<- Int.mul_assoc,Int.mul_comm]
theorem im {B:Int} {i:Nat} (a:1<=B) (b:B<=16) (hi:i<=12):V9 (B,(i:Int))=some (Um B i):=by
 unfold V9;refine UJ (x:=(0,((Um B i,(i:Int)),()))) (Z3 (λk=>(Um B k,(k:Int))) i (by simp [Um]) (by omega) (λk d => ?_) ?_) rfl
 ·have c:=cF a b (show k<=12 by omega);simp only;rw [TN,if_pos (by omega),Sh (by omega),Tw (by omega),af]
 ·simp only;rw [TN,if_neg (by omega)]
theorem nS (r:UK) (b:r.2.length<=9223372036854775807):W0 r=some (if r.1<1\/r.1>1000000 then (-1,7) else WC r.2):=by
 unfold W0;rw [TN,TL,Ws _ b,Sw];by_cases h:r.1<1
 ·rw [if_pos h,if_pos (.inl h)]
 ·rw [if_neg h];by_cases a:r.1>1000000
  ·rw [if_pos a,if_pos (.inr a)]
  ·rw [if_neg a,if_neg (by omega)]
theorem ig (r:UK) (most:Int) (a:List Int) (y:r.2.length<=9223372036854775807) (hi:a.length<=1048576):V8 (r,(most,a))=some (kR a most r):=by
 unfold V8 kR;rw [nS r (by omega),Sw];simp only [Tn,Tl];by_cases h:r.1<1\/r.1>1000000
 ·rw [if_pos h,if_pos h];rfl
 rw [if_neg h,if_neg h,TP];by_cases b:(WC r.2).2=0;rotate_left
 ·rw [if_neg b,if_pos b]
 rw [if_pos b,if_neg (show ¬ (WC r.2).2≠0 by simp [b]),TJ,TL];by_cases i:r.2.length=0
 ·rw [if_pos (by omega),if_pos i]
 rw [if_neg (by omega),if_neg i];by_cases c:(r.2.length:Int)>most
 ·rw [if_pos c,if_pos c]
 rw [if_neg c,if_neg c]
 obtain ⟨q,p,d⟩:=XE (l:=a) (σ:=Unit) (s:=((0:Int),(0:Int))) (λk _=>((k:Int),(0:Int))) (λm k _=>r.1∈a<->r.1∈m) (λ(q:Nat×((Int×Int)×Unit))=>(q.1=1/\r.1 ∉ a)\/(q.1=0/\r.1∈a/\q.2.1.2=8))
  (f:=λs1=>br (S7 s1.1 (a.length:Int)) (λ_=>R0 s1.1 λo=>ix a o λw=>br (Oa w r.1) (λ_=>some (.dn ((0,((s1.1,8),()))))) λ_=>some (.nx (SE .i64 s1.1 1,s1.2))) λ_=>some (.dn ((1,(s1,())))))
  () rfl (by omega) Iff.rfl (λ_ h=>⟨_,by simp only;rw [re];rfl,.inl ⟨rfl,by simpa using h⟩⟩) (λk x m _ hd j n h=>by
   simp only;rw [rl n,Sb,Tf,TB j,TJ];by_cases e:x=r.1
   ·rw [if_pos e];exact .inr ⟨_,rfl,.inr ⟨rfl,by rw [h,e];simp,rfl⟩⟩
   ·rw [if_neg e];exact .inl ⟨(),by rw [Tq j (by omega)],by rw [h,en];exact ⟨λu=>u.elim (λe2=>absurd e2.symm e) id,.inr⟩⟩)
 refine UJ p ?_;rw [Sx];rcases d with ⟨d,g⟩ | ⟨d,g,t⟩
 ·rw [if_neg (show ¬ q.1=0 by omega),if_neg g]
 ·rw [if_pos d,if_pos g,t]
theorem e9 (L:Tk) (hb:L.2.length<=9223372036854775807) (hr : ∀ rs∈L.2,rs.length<=9223372036854775807 /\ ∀ r∈rs,r.2.length<=9223372036854775807):U7 L=some (VG L):=by
 unfold U7 VG;simp only [Tn,Tl];rw [TN,TL,TL];by_cases n:L.1<1
 ·rw [if_pos n,if_pos (.inl n)]
 rw [if_neg n];by_cases o:L.1>16
 ·rw [if_pos o,if_pos (.inr o)]
 rw [if_neg o,if_neg (show ¬ (L.1<1\/L.1>16) by omega)];by_cases S:(L.2.length:Int)>12
 ·rw [if_pos S,if_pos (by omega)]
 rw [if_neg S,if_neg (by omega)];have hl2:L.2.length<=12:=by omega
 obtain ⟨T,N⟩ : ∃ T,T=Yl L.1 0 [] L.2:=⟨_,rfl⟩;rw [<- N]
 have p:T=none->(br (S5 (L.2.length:Int) 0) (λ_=>R0 (SJ .i64 (L.2.length:Int) 1) λD=>ix L.2 D λJ=>br (Oa (J.length:Int) 0) (λ_=>some ((SJ .i64 (L.2.length:Int) 1,((0:Int),(6:Int))))) λ_=>some ((0,(0,0)))) λ_=>some ((0,(0,0))))=some (if L.2.getLast? = some [] then (((L.2.length-1:Nat):Int),(0,6)) else (0,(0,0))):=by
  intro _;rw [TL];by_cases X:L.2=[]
  ·rw [X];rfl
  ·have hp:=ey.2 X;rw [if_pos (by omega),show SJ .i64 (L.2.length:Int) 1=((L.2.length-1:Nat):Int) by rw [Si (by omega)];omega,Tf,o3];have d:L.2[L.2.length-1]? = some (L.2[L.2.length-1]'(by omega)):=by simp
   rw [TB d,d,TJ];by_cases C:L.2[L.2.length-1]'(by omega)=[]
   ·rw [C];simp
   ·rw [if_neg (by have:=ey.2 C;omega),if_neg (by simp [C])]
 obtain ⟨r,G,j⟩:=XE (l:=L.2) (σ:=List Int) (s:=((0:Int),(([]:List Int),((0:Int),((0:Int),(0:Int)))))) (λi a=>((0:Int),(a,((0:Int),((0:Int),(i:Int))))))
  (λm i a=>Yl L.1 i a m=T/\a.length<=2*i) (λ(r:Nat×((Int×(List Int×(Int×(Int×Int))))×Unit))=>(r.1=1/\T=none)\/(r.1=0/\Q1 T r.2.1.1 r.2.1.2.2.1 r.2.1.2.2.2.1/\T≠none))
  (f:=λ(s0:(Int×((List Int)×(Int×(Int×Int)))))=>br (S7 s0.2.2.2.2 (L.2.length:Int)) (λ_=>R0 s0.2.2.2.2 λk1=>ix L.2 k1 λB=>br (S5 (B.length:Int) 2) (λ_=>some (.dn ((0,((0,(s0.2.1,(s0.2.2.2.2,(3,s0.2.2.2.2)))),()))))) λ_=>bd (loop (λ(b:(Int×((List Int)×(Int×(Int×Int)))))=>br (S7 b.2.2.2.2 (B.length:Int)) (λ_=>R0 b.2.2.2.2 λE=>ix B E λK=>bd (V9 (L.1,s0.2.2.2.2)) λI=>bd (V8 ((K,(I,b.2.1)))) λy=>br (Rx y 0) (λ_=>some (.dn ((0,((b.2.2.2.2,(b.2.1,(s0.2.2.2.2,(y,b.2.2.2.2)))),()))))) λ_=>R0 b.2.2.2.2 λF=>ix B F λz=>gd (CF (BF b.2.1.length [z.1].length) 1048576) λ_=>some (.nx ((b.1,(Il b.2.1 [z.1],(b.2.2.1,(b.2.2.2.1,SE .i64 b.2.2.2.2 1))))))) λ_=>some (.dn ((1,(b,()))))) ((s0.1,(s0.2.1,(s0.2.2.1,(s0.2.2.2.1,0)))))) λc=>br (neq c.1 0) (λ_=>some (.dn ((0,((c.2.1.1,(c.2.1.2.1,(c.2.1.2.2.1,(c.2.1.2.2.2.1,s0.2.2.2.2)))),()))))) λ_=>some (.nx ((c.2.1.1,(c.2.1.2.1,(c.2.1.2.2.1,(c.2.1.2.2.2.1,SE .i64 s0.2.2.2.2 1))))))) λ_=>some (.dn ((1,(s0,())))))
  [] rfl (by omega) ⟨N.symm,by simp⟩ (λa h=>by
   refine ⟨_,by simp only;rw [re];rfl,.inl ⟨rfl,?_⟩⟩;rw [<- h.1];rfl) (λi rs m a hd d hi h=>by
   obtain ⟨h,P⟩:=h;simp only;obtain ⟨Y,u⟩:=hr rs (bo d);rw [rl hi,Sb,Tf,TB d,TL];unfold Yl at h;by_cases M:rs.length>2
   ·rw [if_pos (by omega)];rw [if_pos M] at h;refine .inr ⟨_,rfl,.inr ⟨rfl,?_,by rw [<- h];simp⟩⟩;rw [<- h];exact ⟨rfl,rfl,rfl⟩
   rw [if_neg (by omega)];rw [if_neg M] at h;obtain ⟨U,O⟩ : ∃ U,U=Yn (Um L.1 i) 0 a rs:=⟨_,rfl⟩;rw [<- O] at h
   obtain ⟨r,G,j⟩:=XE (l:=rs) (σ:=Unit) (s:=((0:Int),(a,((0:Int),((0:Int),(0:Int)))))) (λk _=>((0:Int),(a++(rs.take k).map (·.1),((0:Int),((0:Int),(k:Int))))))
    (λm k _=>Yn (Um L.1 i) k (a++(rs.take k).map (·.1)) m=U) (λ(r:Nat×((Int×(List Int×(Int×(Int×Int))))×Unit))=>(r.1=1/\U=none/\r.2.1=(0,(a++rs.map (·.1),(0,(0,(rs.length:Int))))))\/(r.1=0 /\ ∃ k e,U=some (k,e)/\r.2.1.1=(k:Int)/\r.2.1.2.2.1=(i:Int)/\r.2.1.2.2.2.1=e))
    (f:=λ(b:(Int×((List Int)×(Int×(Int×Int)))))=>br (S7 b.2.2.2.2 (rs.length:Int)) (λ_=>R0 b.2.2.2.2 λE=>ix rs E λK=>bd (V9 (L.1,(i:Int))) λI=>bd (V8 ((K,(I,b.2.1)))) λy=>br (Rx y 0) (λ_=>some (.dn ((0,((b.2.2.2.2,(b.2.1,((i:Int),(y,b.2.2.2.2)))),()))))) λ_=>R0 b.2.2.2.2 λF=>ix rs F λz=>gd (CF (BF b.2.1.length [z.1].length) 1048576) λ_=>some (.nx ((b.1,(Il b.2.1 [z.1],(b.2.2.1,(b.2.2.2.1,SE .i64 b.2.2.2.2 1))))))) λ_=>some (.dn ((1,(b,())))))
    () (by simp) (by omega) (by simp [O]) (λ_ h=>by
     refine ⟨_,by simp only;rw [re];rfl,.inl ⟨rfl,by rw [<- h];rfl,by simp⟩⟩) (λk r m _ hd d Z h=>by
     simp only;have hr2:=u r (bo d);have w:(rs.take (k+1)).map (·.1)=(rs.take k).map (·.1)++[r.1]:=by rw [li,d];simp
     have W:(a++(rs.take k).map (·.1)).length<=100:=by simp;omega
     rw [rl Z,Sb,Tf,TB d,im (by omega) (by omega) (by omega),Sw,ig _ _ _ (by omega) (by omega),Sw,TP];unfold Yn at h;by_cases A:kR (a++(rs.take k).map (·.1)) (Um L.1 i) r=0
     ·rw [if_neg (λhh:kR (a++(rs.take k).map (·.1)) (Um L.1 i) r≠0=>hh A)] at h;rw [if_pos A,Tf,TB d,Un (by simp only [BF,co,ed];omega)];refine .inl ⟨(),?_,?_⟩
      ·rw [Tq d (by omega),w,<- ci];rfl
      ·rw [w,<- ci];exact h
     ·rw [if_pos A] at h;rw [if_neg A]
      exact .inr ⟨_,rfl,.inr ⟨rfl,_,_,h.symm,rfl,rfl,rfl⟩⟩)
   rw [G,Sw,Sx];rcases j with ⟨j,g,x⟩ | ⟨j,k,e,g,x,q5,q6⟩
   ·rw [if_neg (show ¬ r.1=0 by omega),x,Tq d (by omega)];rw [g] at h;exact .inl ⟨a++rs.map (·.1),rfl,h,by simp;omega⟩
   ·rw [if_pos j];rw [g] at h;refine .inr ⟨_,rfl,.inr ⟨rfl,?_,by rw [<- h];simp⟩⟩;rw [<- h]
    exact ⟨x,q5,q6⟩)
 refine UJ G ?_;rw [Sx];rcases j with ⟨j,g⟩ | ⟨j,g,x⟩
 ·rw [if_neg (show ¬ r.1=0 by omega),g];exact p g
 ·rw [if_pos j];cases q:T with
  | none=>exact absurd q x
  | some t =>
   obtain ⟨i,k,e⟩:=t;rw [q] at g;rw [g.1,g.2.1,g.2.2]
theorem ij (L:Tk) (b:L.2.length<=1048576) (a : ∀ rs∈L.2,rs.length<=1048576 /\ ∀ r∈rs,r.2.length<=9223372036854775807):U7 L=some (VG L):=e9 L (by omega) λrs h=>⟨by have:=(a rs h).1;omega,(a rs h).2⟩
def Ue (ls:List (List UK)):List UK:=ls.flatMap List.reverse
theorem VLev.small {L:Tk} (v:VLev L):L.2.length<=1048576 /\ ∀ rs∈L.2,rs.length<=1048576 /\ ∀ r∈rs,r.2.length<=9223372036854775807:=by
 refine ⟨by have:=v.len;omega,λrs a => ?_⟩;obtain ⟨i,hi⟩:=dc a;obtain ⟨d,b⟩:=v.lev i rs hi;exact ⟨by omega,λr c=>by have:=(b r c).vl.len;omega⟩
theorem YY : ∀ (ls:List (List UK)),(∀ rs∈ls,rs.length<=2)->(Ue ls).length<=2*ls.length
 | [],_=>by simp [Ue]
 | rs::ls,h=>by
  have a:=YY ls λr b=>h r (by simp [b]);have c:=h rs (by simp);unfold Ue at a ⊢;rw [xk,iP,List.length_reverse,co];omega
theorem VLev.two {L:Tk} (v:VLev L) : ∀ rs∈L.2,rs.length<=2:=λrs a=>by
 obtain ⟨i,hi⟩:=dc a;exact (v.lev i rs hi).1
theorem aD {L:Tk} (v:VLev L):V0 L=some (Ue L.2,0):=by
 obtain ⟨d,b⟩:=v.small;have e:=v.len;unfold V0;simp only [Tn,Tl];rw [ij _ d b,Wm v,Sw,TP,if_pos rfl]
 rw [Uv (l:=L.2) (σ:=List UK) (s:=(([]:List UK),(0:Int))) (λi m=>(m,(i:Int))) (λls i m=>(∀ rs∈ls,rs.length<=2)/\m.length<=2*i) (λls _ m=>(0,((m++Ue ls,(L.2.length:Int)),()))) [] rfl (by omega) ⟨v.two,by simp⟩ (λm _=>by
  simp only;rw [re,R6];simp [Ue]) (λi rs ls m hd a hi h=>by
   refine ⟨m++rs.reverse,?_,⟨λr b=>h.1 r (by simp [b]),by have:=h.1 rs (by simp);simp;omega⟩,by simp [Ue]⟩;have c:=h.1 rs (by simp);have f:m.length<=24:=by have:=h.2;omega
   simp only;rw [rl hi,Sb,Tf,TB a];have gg : ∀ {β:Type} (z:List UK) (x:UK) (k:Unit->Option β),z.length<=100->gd (CF (BF z.length [x].length) 1048576) k=k ():=λz x k g=>Un (by simp only [BF,co,ed];omega) k
   match rs,c,a with
   | [],_,a =>
    refine UJ (x:=(0,((m,-1),()))) (Uu (n:=1) (by omega) (UP rfl)) ?_;rw [Tq a (by omega)];simp
   | [r0],_,a =>
    refine UJ (x:=(0,((m++[r0],-1),()))) (Uu (n:=2) (by omega) ((UF (s':=(m++[r0],-1)) ?_).trans (UP rfl))) ?_
    ·show br (Rw (0:Int) 0) _ _=_;rw [TK,if_pos (by omega),Tf,TB a];refine (V3 0 rfl (x:=r0) rfl).trans ?_;rw [gg m _ _ (by omega)];rfl
    ·rw [Tq a (by omega)];simp
   | [r0,r1],_,a =>
    refine UJ (x:=(0,((m++[r1]++[r0],-1),()))) (Uu (n:=3) (by omega) ((UF (s':=(m++[r1],0)) ?_).trans ((UF (s':=(m++[r1]++[r0],-1)) ?_).trans (UP rfl)))) ?_
    ·show br (Rw (1:Int) 0) _ _=_;rw [TK,if_pos (by omega),Tf,TB a];refine (V3 1 rfl (x:=r1) rfl).trans ?_;rw [gg m _ _ (by omega)];rfl
    ·show br (Rw (0:Int) 0) _ _=_;rw [TK,if_pos (by omega),Tf,TB a];refine (V3 0 rfl (x:=r0) rfl).trans ?_;rw [gg (m++[r1]) _ _ (by simp;omega)];rfl
    ·rw [Tq a (by omega)];simp),Sw]
 simp
theorem Wj (a b:Int):TX a b=max a b:=by unfold TX;split<;>omega
theorem WD : ∀ (l:List UK) (m:Int),0<=m->l.foldl (λm r=>TX m r.1) m=max m (l.foldl (λm r=>TX m r.1) 0)
 | [],m,h=>by simp;omega
 | r::l,m,h=>by
  have a:=WD l (TX m r.1) (by rw [Wj];omega);have b:=WD l (TX 0 r.1) (by rw [Wj];omega);simp only [gM];rw [a,b,Wj,Wj];omega
theorem aK (l:List UK) (m:Int) (h:0<=m):l.reverse.foldl (λm r=>TX m r.1) m=l.foldl (λm r=>TX m r.1) m:=by
 induction l generalizing m with
 | nil=>rfl
 | cons r l a =>
  rw [List.reverse_cons,xl,a m h,gM];simp only [gM,List.foldl_nil];rw [WD l m h,WD l (TX m r.1) (by rw [Wj];omega),Wj,Wj];omega
theorem aw (l:List UK) (m:Int) (h:0<=m):0<=l.foldl (λm r=>TX m r.1) m:=by
 rw [WD l m h];omega
theorem YN : ∀ (ls:List (List UK)) (m:Int),0<=m->(Ue ls).foldl (λm r=>TX m r.1) m=ls.foldl (λm rs=>rs.foldl (λm r=>TX m r.1) m) m
 | [],m,_=>rfl
 | rs::ls,m,h=>by
  have a:=YN ls (rs.foldl (λm r=>TX m r.1) m) (aw _ _ h);unfold Ue at a ⊢;rw [xk,xl,aK rs m h,gM,a]
theorem bC {L:Tk} (v:VLev L):U9 L=some (WA L.2):=by
 have c:=v.len;have d:=YY L.2 v.two;unfold U9;simp only [Tn,Tl];rw [aD v,Sw]
 rw [Uv (l:=Ue L.2) (σ:=Int) (s:=((0:Int),(0:Int))) (λi m=>(m,(i:Int))) (λ_ _ _=>True) (λl _ m=>(0,((l.foldl (λm r=>TX m r.1) m,((Ue L.2).length:Int)),()))) 0 rfl (by omega) trivial (λm _=>by
  simp only;rw [re,R6];rfl) (λk r l m hd a b _=>⟨TX m r.1,by
   simp only
   rw [rl b,Sb,Tf,TB a,Tq a (by omega)],trivial,rfl⟩),Sw]
 rw [YN _ _ (by omega)];rfl
theorem ej {L:Tk} (d:L.2.length<=1000):VN L=some (Tp 0 L.2):=by
 unfold VN;simp only [Tn,Tl]
 rw [Uv (l:=L.2) (σ:=List Int) (s:=(([]:List Int),(0:Int))) (λi m=>(m,(i:Int))) (λls i m=>m++Tp i ls=Tp 0 L.2) (λ_ _ _=>(0,((Tp 0 L.2,(L.2.length:Int)),()))) [] rfl (by omega) rfl (λm h=>by
  simp only;rw [re,R6,<- h];simp [Tp]) (λi rs ls m hd b hi h=>by
   refine ⟨m++(if rs.length=2 then [(i:Int)] else []),?_,?_,rfl⟩
   ·simp only;rw [rl hi,Sb,Tf,TB b,TJ]
    have e:m.length<=1000:=by
     have a:=congrArg nb h;have c:=VV L.2 0;rw [iP] at a;omega
    by_cases a:rs.length=2
    ·rw [if_pos (by omega),if_pos a,Un (by simp only [BF,co,ed];omega),Tq b (by omega)];rfl
    ·rw [if_neg (by omega),if_neg a,eo,Tq b (by omega)]
   ·rw [ci];exact h),Sw]
theorem qu {L:Tk} (v:VLev L) (k:Int):YD (L,k)=some (if k<0\/k>=12 then 7 else 0):=by
 obtain ⟨c,d⟩:=v.small;unfold YD;rw [ij _ c d,Wm v,Sw,TJ,if_pos rfl,TN,TK];by_cases a:k<0
 ·rw [if_pos a,if_pos (.inl a)]
 ·rw [if_neg a];by_cases b:k>=12
  ·rw [if_pos b,if_pos (.inr b)]
  ·rw [if_neg b,if_neg (by omega)]
theorem cw {L:Tk} (v:VLev L) {n:Nat} (b:n<L.2.length):Uk (L,(n:Int))=some (decide ((n:Int)=(L.2.length:Int)-1)):=by
 have a:=v.len;unfold Uk Xt;simp only [Tn,Tl];rw [qu v,Sw,if_neg (by omega),TP,if_pos rfl,Sw,Tw (by omega)];unfold S5;rw [Ux];by_cases h:(n:Int)=(L.2.length:Int)-1
 ·simp [h]
 ·simp [h];omega
theorem cr {a b:List Ti} (va:VL a) (d:VL b) (c:Bool):W3 ([a,b],c)=some (VO a b c 0,(0,0)):=by
 unfold W3 Xs VU;rw [Y8 va d,Sw,TP,if_pos rfl];refine Eq.trans (b:=bd (bd (VT ([a,b],[((0:Nat):Int),((0:Nat):Int)])) _) _) rfl ?_;rw [YH va d (hV _) (hV _)];rfl
theorem fa {L:Tk} {n:Nat} {a b:UK} (c:Bool) (h:L.2[n]? = some [a,b]) (d:VL a.2) (e:VL b.2):UI (L,((n:Int),c))=some ((n:Int),VO b.2 a.2 c 0):=by
 have f:=(a8.1 h).1;unfold UI;simp only [Tn,Tl];rw [TK,if_neg (by omega),Tf,TB h,TB (x:=b) rfl,TB (x:=a) rfl,cr e d];rfl
theorem nQ {L:Tk} {n:Nat} {a b:UK} {j:Job} (h:L.2[n]? = some [a,b]) (e:VL a.2) (f:VL b.2) {β:Type} (A B:Option β) :
  (bd (UI (L,((n:Int),j.2.2.1.2.2))) λc=>bd (UH c.2) λl=>br (S7 j.2.2.2.2 0) (λ_=>A) λ_=>br (S5 j.2.2.2.2 l.1) (λ_=>A) λ_=>bd (UZ (c.2,j.2.2.2.2)) λm=>bd (UY (m.1,j.2)) λo=>br (Hg o) (λ_=>A) λ_=>B)
  = if j.2.2.2.2<0\/j.2.2.2.2>((b.2.length+a.2.length:Nat):Int) then A else if VO b.2 a.2 j.2.2.1.2.2 j.2.2.2.2.toNat=j.2 then B else A:=by
 rw [fa _ h e f,Sw,Y9 f e _ (hV _),Sw,TN,TL,l4];by_cases g:j.2.2.2.2<0
 ·rw [if_pos g,if_pos (.inl g)]
 rw [if_neg g];by_cases i:j.2.2.2.2>((b.2.length+a.2.length:Nat):Int)
 ·rw [if_pos i,if_pos (.inr i)]
 rw [if_neg i,if_neg (show ¬ (j.2.2.2.2<0\/j.2.2.2.2>((b.2.length+a.2.length:Nat):Int)) by omega)];obtain ⟨k,p⟩ : ∃ k:Nat,j.2.2.2.2=(k:Int):=⟨j.2.2.2.2.toNat,by omega⟩;rw [p,cy f e _ (hV _),Sw,l4,eg,ta (by omega),bl];obtain ⟨s1,s2,q,r,s,t⟩:=aO f e j.2.2.1.2.2 (n:=k) (by omega);rw [cv _ _ s1 s2 q r s t,Sw,Ux,U4];by_cases d:VO b.2 a.2 j.2.2.1.2.2 k=j.2
 ·rw [if_neg (by simp [d]),if_pos d]
 ·rw [if_pos d,if_neg d]
end
section
open Go Sv
theorem bD (s:Th) (J:s.1.2.length<=9223372036854775807) (hr : ∀ rs∈s.1.2,rs.length<=9223372036854775807 /\ ∀ r∈rs,r.2.length<=9223372036854775807) (hj:s.2.1.length<=9223372036854775807):U8 s=some (Tj s):=by
 unfold U8 Tj;simp only [Tn,Tl];rw [e9 _ J hr,Sw,TJ];by_cases o:(VG s.1).2.2=0;rotate_left
 ·rw [if_neg o,if_pos o,TJ,if_neg o,TP,if_neg o]
 rw [if_pos o,if_neg (show ¬ (VG s.1).2.2≠0 by simp [o]),TN,TL];have v:=XC.1 o;by_cases y:s.2.2<1
 ·rw [if_pos y,if_pos (.inl y)]
 rw [if_neg y];by_cases p:s.2.2>1000001
 ·rw [if_pos p,if_pos (.inr p)]
 rw [if_neg p,if_neg (show ¬ (s.2.2<1\/s.2.2>1000001) by omega),TJ,if_pos o,bC v,Sw,TM];by_cases m:s.2.2<=WA s.1.2
 ·rw [if_pos m,if_pos m]
 rw [if_neg m,if_neg m,TP,if_pos o,ej (by have:=v.len;omega),Sw];obtain ⟨a,g⟩ : ∃ a,a=Tp 0 s.1.2:=⟨_,rfl⟩;have hdl:a.length<=12:=by have:=VV s.1.2 0;have:=v.len;rw [g];omega
 rw [<- g];obtain ⟨T,Z⟩ : ∃ T,T=WN s.1 a 0 s.2.1:=⟨_,rfl⟩;rw [<- Z]
 obtain ⟨r,q1,D⟩:=XE (l:=s.2.1) (σ:=Unit) (λi _=>((0:Int),((0:Int),(i:Int)))) (λjs i _=>WN s.1 a i js=T) (λ(r:Nat×((Int×(Int×Int))×Unit))=>(T=none/\r.1=1)\/(∃ i:Nat,T=some i/\r.1=0/\r.2.1.1=6/\r.2.1.2.1=(i:Int)))
  (f:=λb=>br (S7 b.2.2 (s.2.1.length:Int)) (λ_=>R0 b.2.2 λk7=>ix s.2.1 k7 λe=>br (Rw b.2.2 (a.length:Int)) (λ_=>some (.dn ((0,((6,(b.2.2,b.2.2)),()))))) λ_=>R0 b.2.2 λk9=>ix a k9 λX=>br (Rx e.1 X) (λ_=>some (.dn ((0,((6,(b.2.2,b.2.2)),()))))) λ_=>br e.2.2.1.2.2 (λ_=>bd (Uk (s.1,e.1)) λM=>br (Hg M) (λ_=>some (.dn ((0,((6,(b.2.2,b.2.2)),()))))) λ_=>bd (UI ((s.1,(e.1,e.2.2.1.2.2)))) λG=>bd (UH G.2) λN=>br (S7 e.2.2.2.2 0) (λ_=>some (.dn ((0,((6,(b.2.2,b.2.2)),()))))) λ_=>br (S5 e.2.2.2.2 N.1) (λ_=>some (.dn ((0,((6,(b.2.2,b.2.2)),()))))) λ_=>bd (UZ (G.2,e.2.2.2.2)) λO=>bd (UY (O.1,e.2)) λP=>br (Hg P) (λ_=>some (.dn ((0,((6,(b.2.2,b.2.2)),()))))) λ_=>some (.nx ((b.1,(b.2.1,SE .i64 b.2.2 1))))) λ_=>bd (UI ((s.1,(e.1,e.2.2.1.2.2)))) λI=>bd (UH I.2) λS=>br (S7 e.2.2.2.2 0) (λ_=>some (.dn ((0,((6,(b.2.2,b.2.2)),()))))) λ_=>br (S5 e.2.2.2.2 S.1) (λ_=>some (.dn ((0,((6,(b.2.2,b.2.2)),()))))) λ_=>bd (UZ (I.2,e.2.2.2.2)) λU=>bd (UY (U.1,e.2)) λW=>br (Hg W) (λ_=>some (.dn ((0,((6,(b.2.2,b.2.2)),()))))) λ_=>some (.nx ((b.1,(b.2.1,SE .i64 b.2.2 1))))) λ_=>some (.dn ((1,(b,())))))
  (s:=(0,(0,0))) () rfl (by omega) Z.symm (λ_ h=>by
   refine ⟨_,by simp only;rw [re];rfl,.inl ⟨by rw [<- h];rfl,rfl⟩⟩) (λi j js _ hd hx hi h=>by
   simp only;rw [rl hi,Sb,Tf,TB hx,TK];unfold WN at h
   have c:Yk s.1 a i j=true -> ∃ r:Nat×((Int×(Int×Int))×Unit),(some (LR.dn ((0,((6,((i:Int),(i:Int))),()))):LR (Int×(Int×Int)) _))=some (.dn r)/\((T=none/\r.1=1)\/(∃ i:Nat,T=some i/\r.1=0/\r.2.1.1=6/\r.2.1.2.1=(i:Int))):=λJ=>by
    rw [if_pos J] at h;exact ⟨_,rfl,.inr ⟨i,h.symm,rfl,rfl,rfl⟩⟩
   have x:Yk s.1 a i j=false -> ∃ st':Unit,(some (LR.nx ((0:Int),((0:Int),SE .i64 (i:Int) 1))):Option (LR _ (Nat×((Int×(Int×Int))×Unit))))=some (.nx ((0:Int),((0:Int),((i+1:Nat):Int))))/\WN s.1 a (i+1) js=T:=λhg=>by
    rw [if_neg (by simp [hg])] at h;exact ⟨(),by rw [Tq hx (by omega)],h⟩
   by_cases y:(i:Int)>=(a.length:Int)
   ·rw [if_pos y];exact .inr (c (by unfold Yk;rw [a9 (by omega)]))
   rw [if_neg y,Tf];have w:a[i]? = some (a[i]'(by omega)):=by simp
   rw [TB w,TP];obtain ⟨n,K,E,F,t⟩:=XX (ls:=s.1.2) (i:=0) (k:=i) (d:=a[i]'(by omega)) (by rw [<- g];exact w);rw [eg] at K
   have q:Yk s.1 a i j=(if j.1≠(a[i]'(by omega)) then true else if j.2.2.1.2.2=true/\j.1≠(s.1.2.length:Int)-1 then true else if j.2.2.2.2<0\/j.2.2.2.2>((F.2.length+E.2.length:Nat):Int) then true else decide (VO F.2 E.2 j.2.2.1.2.2 j.2.2.2.2.toNat≠j.2)):=by
    unfold Yk;rw [w];simp only;rw [K,bl,t]
   by_cases p:j.1=(a[i]'(by omega));rotate_left
   ·rw [if_neg p];exact .inr (c (by rw [q,if_pos p]))
   rw [if_pos p];rw [if_neg (by simp [p])] at q;have C:j.1=(n:Int):=by rw [p,K]
   have hv:=(v.lev n _ t).2;have v0:=(hv E (by simp)).vl;have v1:=(hv F (by simp)).vl;have L:=(a8.1 t).1;rw [C,cw v L,Sw,Ux,U4,nQ t v0 v1,TU];rw [C] at q;by_cases m:j.2.2.1.2.2=true/\(n:Int)≠(s.1.2.length:Int)-1
   ·rw [if_pos m.1,if_pos m.2];exact .inr (c (by rw [q,if_pos m]))
   rw [if_neg m] at q
   have h4 : ∀ {γ:Type} (A B:γ),(if j.2.2.1.2.2=true then if ¬(n:Int)=(s.1.2.length:Int)-1 then A else B else B)=B:=by
    intro γ A B;by_cases u:j.2.2.1.2.2=true
    ·rw [if_pos u,if_neg (λz=>m ⟨u,z⟩)]
    ·rw [if_neg u]
   rw [h4];by_cases u:j.2.2.2.2<0\/j.2.2.2.2>((F.2.length+E.2.length:Nat):Int)
   ·rw [if_pos u];exact .inr (c (by rw [q,if_pos u]))
   rw [if_neg u];rw [if_neg u] at q;by_cases z:VO F.2 E.2 j.2.2.1.2.2 j.2.2.2.2.toNat=j.2
   ·rw [if_pos z];exact .inl (x (by rw [q];simp [z]))
   ·rw [if_neg z]
    exact .inr (c (by rw [q];simp [z])))
 refine UJ q1 ?_;rw [Sx];rcases D with ⟨D,q3⟩ | ⟨i,D,q3,q4,q5⟩
 ·rw [if_neg (show ¬ r.1=0 by omega),D,TN];simp only;by_cases Y:s.2.1.length<a.length
  ·rw [if_pos (by omega),if_pos Y]
  ·rw [if_neg (by omega),if_neg Y]
 ·rw [if_pos q3,D,q4,q5]
theorem cB (s:Th) (b:s.1.2.length<=1048576) (a : ∀ rs∈s.1.2,rs.length<=1048576 /\ ∀ r∈rs,r.2.length<=9223372036854775807) (c:s.2.1.length<=1048576):U8 s=some (Tj s):=bD s (by omega) (λrs h=>⟨by have:=(a rs h).1;omega,(a rs h).2⟩) (by omega)
end
section
open Go Sv
def JobAt (L:Tk) (n:Nat) (j:Job):Prop := ∃ a b c k,L.2[n]? = some [a,b]/\j=((n:Int),VO b.2 a.2 c k)/\k<=b.2.length+a.2.length/\(c=true->n+1=L.2.length)/\VL a.2/\VL b.2
structure VSt (s:Th):Prop where
 lev:VLev s.1
 n1:1<=s.2.2
 n2:s.2.2<=1000001
 n3:WA s.1.2<s.2.2
 due:s.2.1.map (·.1)=Tp 0 s.1.2
 job : ∀ j∈s.2.1,∃ n,JobAt s.1 n j
theorem aj (a b:List Ti) (c:Bool) (k:Nat):(VO a b c k).2.1.2.2=c:=by
 show (Ur (s0 c) (Tx a b k)).2.2=c;rw [Wl]
theorem Zy {L:Tk} (v:VLev L) {i:Nat} {j:Job}:Yk L (Tp 0 L.2) i j=false <-> ∃ n,(Tp 0 L.2)[i]? = some j.1/\JobAt L n j:=by
 constructor
 ·intro h;unfold Yk at h;cases hd:(Tp 0 L.2)[i]? with
  | none=>rw [hd] at h;cases h
  | some d =>
   rw [hd] at h;simp only at h;by_cases e:j.1=d;rotate_left
   ·rw [if_pos e] at h;cases h
   rw [if_neg (by simp [e])] at h;by_cases f:j.2.2.1.2.2=true/\j.1≠(L.2.length:Int)-1
   ·rw [if_pos f] at h;cases h
   rw [if_neg f] at h;obtain ⟨n,l,a,b,c⟩:=XX hd;rw [eg] at l;rw [l,bl,c] at h;simp only at h;by_cases o:j.2.2.2.2<0\/j.2.2.2.2>((b.2.length+a.2.length:Nat):Int)
   ·rw [if_pos o] at h;cases h
   rw [if_neg o] at h;have r:VO b.2 a.2 j.2.2.1.2.2 j.2.2.2.2.toNat=j.2:=by simpa using h
   have q:=(v.lev n _ c).2;refine ⟨n,by rw [e],a,b,j.2.2.1.2.2,j.2.2.2.2.toNat,c,sa (by rw [e,l]) r.symm,by omega,λg => ?_,(q a (by simp)).vl,(q b (by simp)).vl⟩
   have s:j.1=(L.2.length:Int)-1:=by
    by_cases p:j.1=(L.2.length:Int)-1
    ·exact p
    ·exact absurd ⟨g,p⟩ f
   omega
 ·rintro ⟨n,hd,a,b,m,k,c,rfl,t,g,u,w⟩;unfold Yk;rw [hd];simp only;rw [if_neg (by simp),aj,if_neg (λh:m=true/\(n:Int)≠(L.2.length:Int)-1=>h.2 (by have:=g h.1;omega)),bl,c];simp only;rw [show (VO b.2 a.2 m k).2.2.2=(k:Int) from rfl,if_neg (by omega),bl];simp
theorem YW {L:Tk} {a:List Int} : ∀ {js:List Job} {i:Nat},WN L a i js=none <-> ∀ k j,js[k]? = some j->Yk L a (i+k) j=false
 | [],i=>by simp [WN]
 | j::js,i=>by
  unfold WN;by_cases h:Yk L a i j=true
  ·rw [if_pos h];simp only [reduceCtorEq,false_iff];intro b;have:=b 0 j rfl;rw [Nat.add_zero,h] at this;cases this
  ·rw [if_neg h,YW (js:=js)];constructor
   ·intro b k j' c;cases k with
    | zero=>cases c;simpa using h
    | succ k=>rw [show i+(k+1)=i+1+k by omega];exact b k j' c
   ·intro b k j' c;rw [show i+1+k=i+(k+1) by omega];exact b (k+1) j' c
theorem UD {s:Th}:(Tj s).2=0<->VSt s:=by
 unfold Tj;constructor
 ·intro h;by_cases d:(VG s.1).2.2≠0
  ·rw [if_pos d] at h;exact absurd h d
  rw [if_neg d] at h;have v:=XC.1 (Decidable.not_not.1 d);by_cases f:s.2.2<1\/s.2.2>1000001
  ·rw [if_pos f] at h;cases h
  rw [if_neg f] at h;by_cases g:s.2.2<=WA s.1.2
  ·rw [if_pos g] at h;cases h
  rw [if_neg g] at h;cases b:WN s.1 (Tp 0 s.1.2) 0 s.2.1 with
  | some i=>rw [b] at h;cases h
  | none =>
   rw [b] at h;simp only at h;by_cases l:s.2.1.length<(Tp 0 s.1.2).length
   ·rw [if_pos l] at h;cases h
   have m:=YW.1 b
   have c : ∀ k j,s.2.1[k]? = some j -> ∃ n,(Tp 0 s.1.2)[k]? = some j.1/\JobAt s.1 n j:=λk j a=>by
    have:=m k j a;rw [eg] at this;exact (Zy v).1 this
   refine ⟨v,by omega,by omega,by omega,?_,λj o => ?_⟩
   ·apply List.ext_getElem?;intro k;rw [sp];cases a:s.2.1[k]? with
    | some j=>obtain ⟨n,e,_⟩:=c k j a;rw [e];rfl
    | none =>
     have:=List.getElem?_eq_none_iff.1 a;rw [a9 (by omega)];rfl
   ·obtain ⟨k,a⟩:=dc o;obtain ⟨n,_,h⟩:=c k j a;exact ⟨n,h⟩
 ·intro v;rw [if_neg (by simp [XC.2 v.lev]),if_neg (by have:=v.n1;have:=v.n2;omega),if_neg (by have:=v.n3;omega)]
  have b:WN s.1 (Tp 0 s.1.2) 0 s.2.1=none:=YW.2 λk j a=>by
   rw [eg];obtain ⟨n,p⟩:=v.job j (bo a);exact (Zy v.lev).2 ⟨n,by rw [<- v.due,sp,a];rfl,p⟩
  rw [b];simp only;rw [if_neg (by rw [<- v.due];simp)]
structure Sm (s:Th):Prop where
 lv:s.1.2.length<=1048576
 rs : ∀ rs∈s.1.2,rs.length<=1048576 /\ ∀ r∈rs,r.2.length<=9223372036854775807
 js:s.2.1.length<=1048576
theorem uS {s:Th} (m:Sm s):Us s=some (Tj s):=cb s m.lv m.rs m.js
theorem qt {s:Th} (m:Sm s):U8 s=some (Tj s):=cB s m.lv m.rs m.js
theorem VSt.jlen {s:Th} (v:VSt s):s.2.1.length=(Tp 0 s.1.2).length:=by rw [<- v.due];simp
theorem VSt.jsmall {s:Th} (v:VSt s):s.2.1.length<=12:=by
 have:=v.jlen;have:=VV s.1.2 0;have:=v.lev.len;omega
theorem VSt.sm {s:Th} (v:VSt s):Sm s:=⟨v.lev.small.1,v.lev.small.2,by have:=v.jsmall;omega⟩
def Zm (x:Int):Nat->List Int->Option Nat
 | _,[]=>none
 | k,y::l=>if y=x then some k else Zm x (k+1) l
theorem cZ {x:Int} : ∀ {l:List Int} {k i:Nat},Zm x k l=some i->k<=i/\l[i-k]? = some x
 | [],_,_,h=>by cases h
 | y::l,k,i,h=>by
  unfold Zm at h;by_cases e:y=x
  ·rw [if_pos e] at h;cases h;simp [e]
  ·rw [if_neg e] at h;obtain ⟨b,a⟩:=cZ h;exact ⟨by omega,by rw [show i-k=(i-(k+1))+1 by omega];simpa using a⟩
theorem au {x:Int} : ∀ {l:List Int} {k:Nat},x∈l -> ∃ i,Zm x k l=some i
 | [],_,h=>by cases h
 | y::l,k,h=>by
  unfold Zm;by_cases e:y=x
  ·rw [if_pos e];exact ⟨k,rfl⟩
  ·rw [if_neg e];exact au (by rcases en.1 h with h | h;exact absurd h.symm e;exact h)
def ZG (s:Th) (a:Int):Int×Int:=if (Tj s).2≠0 then (0,(Tj s).2) else match Zm a 0 (Tp 0 s.1.2) with
 | some i=>((i:Int),0)
 | none=>(0,4)
theorem aq {s:Th} (m:Sm s) (a:Int):WP (s,a)=some (ZG s a):=by
 unfold WP ZG;simp only [Tn,Tl];rw [uS m,Sw,TP];by_cases b:(Tj s).2=0;rotate_left
 ·rw [if_neg b,if_pos b]
 rw [if_pos b,if_neg (show ¬ (Tj s).2≠0 by simp [b])];have v:=UD.1 b;have w:=v.jsmall;rw [<- v.due];obtain ⟨T,g⟩ : ∃ T,T=Zm a 0 (s.2.1.map (·.1)):=⟨_,rfl⟩;rw [<- g]
 obtain ⟨r,q,c⟩:=XE (l:=s.2.1) (σ:=Unit) (s:=((0:Int),(0:Int))) (λk _=>((0:Int),(k:Int))) (λjs k _=>Zm a k (js.map (·.1))=T) (λ(r:Nat×((Int×Int)×Unit))=>(r.1=1/\T=none)\/(r.1=0 /\ ∃ i:Nat,T=some i/\r.2.1.1=(i:Int)))
  (f:=λs1=>br (S7 s1.2 (s.2.1.length:Int)) (λ_=>R0 s1.2 λp=>ix s.2.1 p λu=>br (Oa u.1 a) (λ_=>some (.dn ((0,((s1.2,s1.2),()))))) λ_=>some (.nx (s1.1,SE .i64 s1.2 1))) λ_=>some (.dn ((1,(s1,())))))
  () rfl (by omega) g.symm (λ_ h=>⟨_,by simp only;rw [re];rfl,.inl ⟨rfl,by rw [<- h];rfl⟩⟩) (λk j js _ hd n o h=>by
   simp only;rw [rl o,Sb,Tf,TB n,TJ];unfold Zm at h;simp only [hI] at h;by_cases e:j.1=a
   ·rw [if_pos e];rw [if_pos e] at h;exact .inr ⟨_,rfl,.inr ⟨rfl,k,h.symm,rfl⟩⟩
   ·rw [if_neg e];rw [if_neg e] at h
    exact .inl ⟨(),by rw [Tq n (by omega)],h⟩)
 refine UJ q ?_;rw [Sx];rcases c with ⟨c,d⟩ | ⟨c,i,d,t⟩
 ·rw [if_neg (show ¬ r.1=0 by omega),d];rfl
 ·rw [if_pos c,d,t,TN,if_neg (by omega)]
theorem aE {s:Th} (m:Sm s):VH s=some (if (Tj s).2≠0 then ([],(Tj s).2) else (Tp 0 s.1.2,0)):=by
 unfold VH;rw [qt m,Sw,TP];by_cases a:(Tj s).2=0
 ·rw [if_pos a,if_neg (show ¬ (Tj s).2≠0 by simp [a]),ej (by have:=(UD.1 a).lev.len;omega),Sw]
 ·rw [if_neg a,if_pos a]
theorem ie {s:Th} (m:Sm s) (a:Int):XT (s,a)=some (ZG s a):=by
 unfold XT ZG;simp only [Tn,Tl];rw [aE m,Sw,TP];by_cases c:(Tj s).2=0;rotate_left
 ·rw [if_pos c,if_neg c,if_pos c]
 rw [if_neg (show ¬ (Tj s).2≠0 by simp [c]),if_pos rfl,if_neg (show ¬ (Tj s).2≠0 by simp [c])];have v:=UD.1 c;have z:=v.jsmall;have hd:=v.jlen;obtain ⟨b,d⟩ : ∃ b,b=Tp 0 s.1.2:=⟨_,rfl⟩;rw [<- d] at hd ⊢;obtain ⟨T,o⟩ : ∃ T,T=Zm a 0 b:=⟨_,rfl⟩;rw [<- o];simp only
 obtain ⟨r,u,g⟩:=XE (l:=b) (σ:=Unit) (s:=((0:Int),((0:Int),(0:Int)))) (λk _=>((0:Int),((0:Int),(k:Int)))) (λjs k _=>Zm a k js=T) (λ(r:Nat×((Int×(Int×Int))×Unit))=>(r.1=1/\T=none)\/(r.1=0 /\ ∃ i:Nat,T=some i/\r.2.1.2.1=(i:Int)/\r.2.1.1=0))
  (f:=λs1=>br (S7 s1.2.2 (b.length:Int)) (λ_=>R0 s1.2.2 λt=>ix b t λy=>br (Oa y a) (λ_=>some (.dn ((0,((0,(s1.2.2,s1.2.2)),()))))) λ_=>some (.nx ((s1.1,(s1.2.1,SE .i64 s1.2.2 1))))) λ_=>some (.dn ((1,(s1,())))))
  () rfl (by omega) o.symm (λ_ h=>⟨_,by simp only;rw [re];rfl,.inl ⟨rfl,by rw [<- h];rfl⟩⟩) (λk j js _ hd p q h=>by
   simp only;rw [rl q,Sb,Tf,TB p,TJ];unfold Zm at h;by_cases e:j=a
   ·rw [if_pos e];rw [if_pos e] at h;exact .inr ⟨_,rfl,.inr ⟨rfl,k,h.symm,rfl,rfl⟩⟩
   ·rw [if_neg e];rw [if_neg e] at h
    exact .inl ⟨(),by rw [Tq p (by omega)],h⟩)
 refine UJ u ?_;rw [Sx];rcases g with ⟨g,n⟩ | ⟨g,i,n,w,x⟩
 ·rw [if_neg (show ¬ r.1=0 by omega),n]
 ·rw [if_pos g,n,w,x]
end
section
open Go Sv
def UL (L:Tk) (j:Job):Nat:=match L.2[j.1.toNat]? with
 | some [r0,r1]=>r1.2.length+r0.2.length-j.2.2.2.2.toNat
 | _=>0
def XG (L:Tk) (j:Job):Bool:=decide ((j.2.2.2.1.length:Int)<=Um L.1 j.1.toNat)
def Zi (L:Tk) (n:Nat):Bool:=decide (n<12/\((L.2[n]?).getD []).length<2)
def Wo (L:Tk) (j:Job):Bool:=decide (0<UL L j)||(XG L j||Zi L (j.1.toNat+1))
def bH (s:Th) (a:Int):Option Job:=match Zm a 0 (Tp 0 s.1.2) with
 | some i=>s.2.1[i]?
 | none=>none
theorem VSt.at {s:Th} (v:VSt s) {a:Int} {i:Nat} (h:Zm a 0 (Tp 0 s.1.2)=some i) : ∃ (j:Job) (n:Nat),s.2.1[i]? = some j/\a=(n:Int)/\j.1=(n:Int)/\JobAt s.1 n j/\n<s.1.2.length:=by
 obtain ⟨_,b⟩:=cZ h;rw [l4] at b;rw [<- v.due,sp] at b;cases c:s.2.1[i]? with
 | none=>rw [c] at b;cases b
 | some j =>
  rw [c] at b;simp only [xm,Option.some.injEq] at b;obtain ⟨n,g⟩:=v.job j (bo c);have d:=g;obtain ⟨o,p,m,k,l,e,_⟩:=g;have f:j.1=(n:Int):=by rw [e]
  exact ⟨j,n,rfl,by rw [<- b,f],f,d,(a8.1 l).1⟩
theorem JobAt.left {L:Tk} {n:Nat} {j:Job} (h:JobAt L n j):UV j.2=some ((UL L j:Int),0)/\UH j.2=some ((UL L j:Int),0)/\UL L j<=10000:=by
 obtain ⟨b,c,a,k,i,rfl,g,_,d,f⟩:=h;have l:=d.len;have m:=f.len
 have e:UL L ((n:Int),VO c.2 b.2 a k)=c.2.length+b.2.length-k:=by
  unfold UL;simp only [bl,i];show c.2.length+b.2.length-((k:Int)).toNat=_;rw [bl]
 rw [e];exact ⟨Zd f d a g,Y9 f d a g,by omega⟩
theorem fX {L:Tk} (v:VLev L) {n:Nat} (c:n<12):Wy (L.1,(n:Int))=some (Um L.1 n,0):=by
 have a:=v.B1;have b:=v.B2;unfold Wy;rw [TN,if_neg (by omega),TL,if_neg (by omega),TN,if_neg (by omega),TK,if_neg (by omega),ZW a b (by omega)];have:Rw (n:Int) 0=true:=by unfold Rw;simp
 rw [this];rfl
theorem bB {L:Tk} (v:VLev L) (k:Int):WQ (L,k)=some (if k<0\/k>=12 then 7 else 0):=by
 obtain ⟨c,d⟩:=v.small;unfold WQ;rw [YE _ c d,Wm v,Sw,TP,if_pos rfl,TN,TK];by_cases a:k<0
 ·rw [if_pos a,if_pos (.inl a)]
 ·rw [if_neg a];by_cases b:k>=12
  ·rw [if_pos b,if_pos (.inr b)]
  ·rw [if_neg b,if_neg (by omega)]
theorem ql (l:List UK):S7 (l.length:Int) 2=decide (l.length<2):=by
 unfold S7;rw [decide_eq_decide];omega
theorem fW {L:Tk} (v:VLev L) {n:Nat} (d:n<=12):Wx (L,(n:Int))=some (Zi L n,if n>=12 then 7 else 0):=by
 unfold Wx Zi;simp only [Tn,Tl];rw [bB v,Sw,TP];by_cases h:n>=12
 ·rw [if_pos (show (n:Int)<0\/(n:Int)>=12 by omega),if_neg (by decide),if_pos h];simp;omega
 ·rw [if_neg (show ¬ ((n:Int)<0\/(n:Int)>=12) by omega),if_pos rfl,if_neg h,TN];have a:n<12:=by omega
  by_cases c:n<L.2.length
  ·have b:L.2[n]? = some (L.2[n]'c):=by simp
   rw [if_pos (by omega),Tf,TB b,b,ql,ll];simp [a]
  ·rw [if_neg (by omega),a9 (by omega)];simp [a]
abbrev uU:=Th×(Job×Int)
theorem cI {s:Th} (v:VLev s.1) {n:Nat} {j:Job} (a:j.1=(n:Int)) (b:n<12) (l:Int):Ua (s,(j,l))=some (XG s.1 j):=by
 unfold Ua XG;simp only [Tn,Tl];rw [a,fX v b,Sw,TJ,if_pos rfl,bl];rfl
theorem ii {s:Th} (v:VLev s.1) {n:Nat} {j:Job} (a:j.1=(n:Int)) (b:n<12) (l:Int):VJ (s,(j,l))=some (Zi s.1 (n+1)):=by
 unfold VJ;simp only;rw [a,Tw (by omega),fW v (by omega),Sw,TJ];by_cases h:n+1>=12
 ·rw [if_pos h,if_neg (show ¬ (7:Int)=0 by decide)];unfold Zi;simp;omega
 ·rw [if_neg h,if_pos rfl]
theorem cV {s:Th} (v:VLev s.1) {n:Nat} {j:Job} (a:j.1=(n:Int)) (b:n<12) (l:Nat) (d:l=UL s.1 j):Ug (s,(j,(l:Int)))=some (Wo s.1 j):=by
 have c:UQ (s,(j,(l:Int)))=some (decide (0<UL s.1 j)):=by
  unfold UQ S5;rw [d];simp
 have e1:=cI v a b (l:Int);have e2:=ii v a b (l:Int);unfold Ug Wo;rw [c,e1,e2,a,bl];simp only [Sw];cases e:decide (0<UL s.1 j) with
 | true=>exact UJ (x:=(0,((0,true),()))) (Uu (n:=1) (by omega) (UP rfl)) rfl
 | false =>
  cases f:XG s.1 j with
  | true=>exact UJ (x:=(0,((1,true),()))) (Uu (n:=2) (by omega) ((UF (s':=(1,false)) rfl).trans (UP rfl))) rfl
  | false =>
   cases g:Zi s.1 (n+1) with
   | true=>exact UJ (x:=(0,((2,true),()))) (Uu (n:=3) (by omega) ((UF (s':=(1,false)) rfl).trans ((UF (s':=(2,false)) rfl).trans (UP rfl)))) rfl
   | false=>exact UJ (x:=(1,((3,false),()))) (Uu (n:=4) (by omega) ((UF (s':=(1,false)) rfl).trans ((UF (s':=(2,false)) rfl).trans ((UF (s':=(3,false)) rfl).trans (UP rfl))))) rfl
end
section
open Go Sv
def Xr {α:Type} (z:α) (f:Th->Job->α×Int) (s:Th) (a:Int):α×Int:=if (Tj s).2≠0 then (z,(Tj s).2) else match bH s a with
 | some j=>f s j
 | none=>(z,4)
def z0:uU:=(((0,[]),([],0)),((0,(([],([],([],([],0)))),((false,([],false)),([],0)))),0))
theorem gy {s:Th} (m:Sm s) (a:Int):Vh (s,a)=some (Xr z0 (λs j=>((s,(j,(UL s.1 j:Int))),0)) s a):=by
 unfold Vh;rw [aq m,Sw];unfold Xr bH ZG;by_cases b:(Tj s).2=0;rotate_left
 ·rw [if_pos b,TP,if_neg b,if_pos b];rfl
 rw [if_neg (show ¬ (Tj s).2≠0 by simp [b]),if_neg (show ¬ (Tj s).2≠0 by simp [b])];have v:=UD.1 b;cases e:Zm a 0 (Tp 0 s.1.2) with
 | none=>rfl
 | some i =>
  obtain ⟨j,n,c,g,f,d,h⟩:=v.at e;simp only;rw [TP,if_pos rfl,Tf,TB c,c,(JobAt.left d).1,Sw]
theorem qc {s:Th} (m:Sm s) (a:Int):Wv (s,a)=some (Xr false (λs j=>(Wo s.1 j,0)) s a):=by
 unfold Wv;rw [gy m,Sw];unfold Xr;by_cases b:(Tj s).2=0;rotate_left
 ·rw [if_pos b,TP,if_neg b,if_pos b]
 rw [if_neg (show ¬ (Tj s).2≠0 by simp [b]),if_neg (show ¬ (Tj s).2≠0 by simp [b])];have v:=UD.1 b;unfold bH;cases d:Zm a 0 (Tp 0 s.1.2) with
 | none=>rfl
 | some i =>
  obtain ⟨j,n,e,g,c,f,h⟩:=v.at d;have:=v.lev.len;simp only [e];rw [TP,if_pos rfl,cV v.lev c (by omega) _ rfl,Sw]
theorem Zb {s:Th} (m:Sm s) (a:Int):XU (s,a)=some (Xr 0 (λs j=>((UL s.1 j:Int),0)) s a):=by
 unfold XU;rw [ie m,Sw];unfold Xr bH ZG;by_cases b:(Tj s).2=0;rotate_left
 ·rw [if_pos b,TP,if_neg b,if_pos b]
 rw [if_neg (show ¬ (Tj s).2≠0 by simp [b]),if_neg (show ¬ (Tj s).2≠0 by simp [b])];have v:=UD.1 b;cases e:Zm a 0 (Tp 0 s.1.2) with
 | none=>rfl
 | some i =>
  obtain ⟨j,n,c,g,f,d,h⟩:=v.at e;simp only [c];rw [TP,if_pos rfl,Tf,TB c,(JobAt.left d).2.1,Sw]
theorem eh {s:Th} (m:Sm s):VX s=some (if (Tj s).2≠0 then ([],(Tj s).2) else (Tp 0 s.1.2,0)):=by
 unfold VX;simp only [Tn,Tl];rw [uS m,Sw,TP];by_cases a:(Tj s).2=0;rotate_left
 ·rw [if_neg a,if_pos a]
 rw [if_pos a,if_neg (show ¬ (Tj s).2≠0 by simp [a])];have e:=(UD.1 a).lev.len
 rw [Uv (l:=s.1.2) (σ:=List Int) (s:=((0:Int),([]:List Int))) (λi m=>((i:Int),m)) (λls i m=>m++Tp i ls=Tp 0 s.1.2) (λ_ _ _=>(0,(((s.1.2.length:Int),Tp 0 s.1.2),()))) [] rfl (by omega) rfl (λm h=>by
  simp only;rw [re,R6,<- h];simp [Tp]) (λi rs ls m hd c hi h=>by
   refine ⟨m++(if rs.length=2 then [(i:Int)] else []),?_,?_,rfl⟩
   ·simp only;rw [rl hi,Sb,Tf,TB c,TJ]
    have f:m.length<=1000:=by
     have b:=congrArg nb h;have d:=VV s.1.2 0;rw [iP] at b;omega
    by_cases b:rs.length=2
    ·rw [if_pos (by omega),if_pos b,Un (by simp only [BF,co,ed];omega),Tq c (by omega)];rfl
    ·rw [if_neg (by omega),if_neg b,eo,Tq c (by omega)]
   ·rw [ci];exact h),Sw]
def YT (s:Th):List Int->Option Int
 | []=>none
 | d::l=>if (Xr false (λs j=>(Wo s.1 j,0)) s d).1=true then some d else YT s l
def Xl (s:Th):Int×Int:=if (Tj s).2≠0 then (0,(Tj s).2) else if Tp 0 s.1.2=[] then (0,4) else match YT s (Tp 0 s.1.2) with
 | some d=>(d,0)
 | none=>(0,9)
theorem VSt.atDue {s:Th} (v:VSt s) {d:Int} (h:d∈Tp 0 s.1.2) : ∃ (j:Job) (n:Nat),bH s d=some j/\d=(n:Int)/\j.1=(n:Int)/\JobAt s.1 n j/\n<s.1.2.length:=by
 obtain ⟨i,b⟩:=au (k:=0) h;obtain ⟨j,n,e,f,a,c,g⟩:=v.at b;exact ⟨j,n,by unfold bH;rw [b];exact e,f,a,c,g⟩
end
section
open Go Sv
theorem nF {β:Type} (k:Unit->Option β):gd true k=k ():=rfl
def To (l:List (List UK)) (i:Nat):List UK:=(l[i]?).getD []
def YS (l:List (List UK)):Nat->Nat
 | 0=>0
 | k+1=>if To l k=[] then YS l k else k+1
def X6 (l:List (List UK)) (n:Nat):List (List UK):=l++yb (n+1-l.length) []
def Yb (l:List (List UK)) (n:Nat) (r:List UK):List (List UK):=(X6 l n).set n r
def Xe (l:List (List UK)):List (List UK):=l.take (YS l l.length)
def U3 (L:Tk) (n:Nat) (r:List UK):Tk:=(L.1,Xe (Yb L.2 n r))
theorem an (l:List (List UK)) : ∀ k,YS l k<=k
 | 0=>eb _
 | k+1=>by
  unfold YS;split
  ·exact Nat.le_succ_of_le (an l k)
  ·exact eb _
theorem Zt (l:List (List UK)) : ∀ {k i:Nat},YS l k<=i->i<k->To l i=[]
 | 0,_,_,h=>by omega
 | k+1,i,h1,h2=>by
  unfold YS at h1;split at h1
  ·rename_i a;by_cases hi:i=k
   ·rw [hi];exact a
   ·exact Zt l h1 (by omega)
  ·omega
theorem aR (l:List (List UK)) : ∀ {k m:Nat},YS l k=m+1->To l m≠[]
 | 0,m,h=>by cases h
 | k+1,m,h=>by
  unfold YS at h;split at h
  ·exact aR l h
  ·rename_i a;have:m=k:=by omega
   rw [this];exact a
theorem ad (l:List (List UK)) (i:Nat):To (Xe l) i=To l i:=by
 unfold Xe;by_cases h:i<YS l l.length
 ·unfold To;rw [sw,if_pos h]
 ·have a:To (l.take (YS l l.length)) i=[]:=by
   unfold To;rw [sw,if_neg h];rfl
  rw [a];by_cases b:i<l.length
  ·exact (Zt l (by omega) b).symm
  ·unfold To;rw [a9 (by omega)];rfl
theorem eE (l:List (List UK)):(Xe l).getLast? ≠ some []:=by
 have b:(Xe l).length=YS l l.length:=by
  have:=an l l.length;unfold Xe;rw [xw];omega
 cases hd:YS l l.length with
 | zero =>
  have:Xe l=[]:=List.length_eq_zero_iff.1 (by rw [b,hd]);rw [this];simp
 | succ m =>
  have c:=aR l hd;rw [o3,b,hd];intro d;have a:To (Xe l) m=[]:=by unfold To;rw [show m=m+1-1 by omega,d];rfl
  rw [ad] at a;exact c a
theorem ZO (l:List (List UK)) (n:Nat):(X6 l n).length=max l.length (n+1):=by
 unfold X6;simp;omega
theorem bp (l:List (List UK)) (n i:Nat):To (X6 l n) i=To l i:=by
 unfold To X6;by_cases h:i<l.length
 ·rw [List.getElem?_append_left h]
 ·rw [List.getElem?_append_right (by omega),List.getElem?_replicate,a9 (l:=l) (by omega)];split<;>rfl
theorem iZ (l:List (List UK)) (n i:Nat) (r:List UK):To (Yb l n r) i=if i=n then r else To l i:=by
 unfold Yb;by_cases h:i=n
 ·rw [if_pos h,h];have:=ZO l n;unfold To;rw [List.getElem?_set_self (by omega)];rfl
 ·rw [if_neg h];unfold To;rw [List.getElem?_set_ne (λe=>h e.symm)];exact bp l n i
theorem WS (L:Tk) (n i:Nat) (r:List UK):To (U3 L n r).2 i=if i=n then r else To L.2 i:=by
 show To (Xe _) i=_;rw [ad,iZ]
theorem eF (L:Tk) (n:Nat) (r:List UK):(U3 L n r).2.getLast? ≠ some []:=eE _
theorem gp (L:Tk) (n:Nat) (r:List UK):(U3 L n r).2.length<=max L.2.length (n+1):=by
 show (Xe _).length<=_;unfold Xe;rw [xw];have:(Yb L.2 n r).length=max L.2.length (n+1):=by unfold Yb;rw [x9,ZO]
 omega
theorem fM (l:List (List UK)):(Xe l).flatten=l.flatten:=by
 have h:l=Xe l++l.drop (YS l l.length):=(wl _ _).symm
 have a:(l.drop (YS l l.length)).flatten=[]:=by
  rw [ul];intro x c;obtain ⟨i,hi⟩:=dc c;rw [List.getElem?_drop] at hi;have b:=(a8.1 hi).1;have:=Zt l (k:=l.length) (i:=YS l l.length+i) (by omega) b;unfold To at this;rw [hi] at this;exact this
 conv=>rhs;rw [h,ns,a,eo]
theorem iB (l:List (List UK)) (n:Nat):(X6 l n).flatten=l.flatten:=by
 unfold X6;rw [ns]
 have:(yb (n+1-l.length) ([]:List UK)).flatten=[]:=by
  rw [ul];intro x a;exact (List.mem_replicate.1 a).2
 rw [this,eo]
theorem XY (L:Tk) (n:Nat) (r:List UK) : ∃ p q,L.2.flatten=p++(To L.2 n++q)/\(U3 L n r).2.flatten=p++(r++q):=by
 have a:n<(X6 L.2 n).length:=by rw [ZO];omega
 refine ⟨((X6 L.2 n).take n).flatten,((X6 L.2 n).drop (n+1)).flatten,?_,?_⟩
 ·rw [<- bp L.2 n n,<- iB L.2 n]
  have:X6 L.2 n=(X6 L.2 n).take n++((X6 L.2 n)[n]::(X6 L.2 n).drop (n+1)):=by
   rw [<- tg a,wl]
  have b:To (X6 L.2 n) n=(X6 L.2 n)[n]:=by unfold To;rw [ee a];rfl
  rw [b]
  conv=>lhs;rw [this]
  rw [ns,lc]
 ·show (Xe (Yb L.2 n r)).flatten=_;rw [fM];unfold Yb;rw [List.set_eq_take_append_cons_drop,if_pos a,ns,lc]
theorem VLev.own {L:Tk} (v:VLev L) (i:Nat):(To L.2 i).length<=2 /\ ∀ r∈To L.2 i,VR (Um L.1 i) r:=by
 unfold To;cases h:L.2[i]? with
 | none=>exact ⟨by simp,λr a=>by cases a⟩
 | some rs=>exact v.lev i rs h
theorem VLev.with' {L:Tk} (v:VLev L) {n:Nat} (f:n<12) {r:List UK} (d:r.length<=2) (e : ∀ x∈r,VR (Um L.1 n) x) (b:((U3 L n r).2.flatten.map oD).Nodup):VLev (U3 L n r):=by
 refine ⟨v.B1,v.B2,?_,λi rs hi => ?_,b,eF L n r⟩
 ·have:=gp L n r;have:=v.len;omega
 ·have a:=WS L n i r;unfold To at a;rw [hi] at a;simp only [ll] at a;rw [a];split
  ·rename_i c;rw [c];exact ⟨d,e⟩
  ·exact v.own i
theorem VLev.leave {L:Tk} (v:VLev L) {n:Nat} (c:n<12):VLev (U3 L n []):=by
 refine v.with' c (by simp) (λ_ h=>by cases h) ?_
 obtain ⟨p,q,a,b⟩:=XY L n [];have:=v.ids;rw [a] at this;rw [b,ol];refine sk.nodup (sk.map _ ?_) this;exact sk.append (sk.refl _) (List.sublist_append_right _ _)
theorem VLev.arrive {L:Tk} (v:VLev L) {n:Nat} (g:n<12) {x:UK} (j:(To L.2 n).length<2) (i:VR (Um L.1 n) x) (b : ∀ y∈L.2.flatten,y.1≠x.1):VLev (U3 L n (To L.2 n++[x])):=by
 refine v.with' g (by simp;omega) (λy hy => ?_) ?_
 ·rcases oj.1 hy with hy | hy
  ·exact (v.own n).2 y hy
  ·rw [s6.1 hy];exact i
 ·obtain ⟨p,q,c,d⟩:=XY L n (To L.2 n++[x])
  have h:(U3 L n (To L.2 n++[x])).2.flatten.Perm (x::L.2.flatten):=by
   rw [c,d,ci];refine List.Perm.trans ?_ (List.perm_middle (l₁:=p++To L.2 n) (l₂:=q) (a:=x) |>.trans (by rw [ci]));rw [ci];exact List.Perm.refl _
  refine (h.map oD).nodup_iff.2 (ox.2 ⟨λf => ?_,v.ids⟩);obtain ⟨y,hy,e⟩:=oy.1 f;exact b y hy e
theorem Z5 {l:List (List UK)} {x:UK}:x∈l.flatten <-> ∃ i,x∈To l i:=by
 rw [l5];constructor
 ·rintro ⟨rs,a,b⟩;obtain ⟨i,hi⟩:=dc a;exact ⟨i,by unfold To;rw [hi];exact b⟩
 ·rintro ⟨i,h⟩;unfold To at h;cases hi:l[i]? with
  | none=>rw [hi] at h;cases h
  | some rs=>rw [hi] at h;exact ⟨rs,bo hi,h⟩
theorem ZJ {l:List (List UK)} {x:UK} (h:x∈l.flatten):x.1<=WA l:=by
 have d : ∀ (rs:List UK) (m:Int),m<=rs.foldl (λm r=>TX m r.1) m /\ ∀ x∈rs,x.1<=rs.foldl (λm r=>TX m r.1) m:=by
  intro rs
  induction rs with
  | nil=>intro m;exact ⟨by simp,λx hx=>by cases hx⟩
  | cons r rs c =>
   intro m;obtain ⟨b,a⟩:=c (TX m r.1);rw [Wj] at b a;simp only [gM,Wj] at b a ⊢;refine ⟨by omega,λx hx => ?_⟩;rcases en.1 hx with e | hx
   ·rw [e];omega
   ·exact a x hx
 have two : ∀ (ls:List (List UK)) (m:Int),m<=ls.foldl (λm rs=>rs.foldl (λm r=>TX m r.1) m) m /\ ∀ rs∈ls,∀ x∈rs,x.1<=ls.foldl (λm rs=>rs.foldl (λm r=>TX m r.1) m) m:=by
  intro ls
  induction ls with
  | nil=>intro m;exact ⟨by simp,λx hx=>by cases hx⟩
  | cons rs ls c =>
   intro m;obtain ⟨b,a⟩:=c (rs.foldl (λm r=>TX m r.1) m);obtain ⟨i,g⟩:=d rs m;simp only [gM];refine ⟨by omega,λf hrs x hx => ?_⟩;rcases en.1 hrs with e | hrs
   ·subst e;have:=g x hx;omega
   ·exact a f hrs x hx
 obtain ⟨rs,b,a⟩:=l5.1 h;exact (two l 0).2 rs b x a
end
section
open Go Sv
theorem aS {M:List (List UK)} {f:Int->Option (LR Int (Nat×(Int×Unit)))} (a:f 0=some (.dn (0,(0,())))) (hs : ∀ k,k<M.length->f ((k+1:Nat):Int)=if To M k=[] then some (.nx (k:Int)) else some (.dn (0,(((k+1:Nat):Int),())))) : ∀ k,k<=M.length->IL (k+1) f (k:Int)=some (0,((YS M k:Nat):Int),())
 | 0,_=>UP a
 | k+1,hk=>by
  have h:=hs k (by omega);unfold YS;by_cases b:To M k=[]
  ·rw [if_pos b] at h ⊢;rw [UF h];exact aS a hs k (by omega)
  ·rw [if_neg b] at h ⊢;exact UP h
theorem qn (L:List (List UK)) (n:Nat):LC (Rc (max L.length (n+1)) ([]:List UK)) 0 L (AS (Rc (max L.length (n+1)) ([]:List UK)))=X6 L n:=by
 have a:AS (Rc (max L.length (n+1)) ([]:List UK))=max L.length (n+1):=by unfold AS Rc;simp
 rw [a];unfold LC X6 Rc;rw [List.take_of_length_le (by omega:L.length<=max L.length (n+1))];simp only [List.take_zero,ol,List.drop_replicate,eg]
 congr 2
 omega
theorem iL (l:List (List UK)) (n:Nat) (r:List UK):lset (X6 l n) n r=Yb l n r:=rfl
theorem Xm {l:List (List UK)} {i:Nat} (h:i<l.length):l[i]? = some (To l i):=by
 unfold To;rw [ee h];rfl
theorem eV {β:Type} (l:List UK) (x y:Unit->Option β):br (Oa (l.length:Int) 0) x y=if l=[] then x () else y ():=by
 rw [TJ];by_cases h:l=[]
 ·rw [if_pos h,if_pos (by rw [h];rfl)]
 ·rw [if_neg h,if_neg (by have:=ey.2 h;omega)]
theorem ZY {L:Tk} (h:L.2.length<=1000) {n:Nat} (i:n<1000) (r:List UK):Vl (L,((n:Int),r))=some (U3 L n r):=by
 have b:TX (Ki (AS L.2)) (SE .i64 (n:Int) 1)=((max L.2.length (n+1):Nat):Int):=by
  rw [Tw (by omega),Wj,Tn,Tl];omega
 unfold Vl;simp only [b,Tf,qn,iL];have d:(X6 L.2 n).length=max L.2.length (n+1):=ZO _ _;have j:(Yb L.2 n r).length=max L.2.length (n+1):=by unfold Yb;rw [x9,d]
 rw [Un (by omega),S2,if_pos (by rw [Tl,d];omega),TB (Xm (by omega))]
 have c:=aS (M:=Yb L.2 n r) (f:=λa=>br (S5 a 0) (λ_=>R0 (SJ .i64 a 1) λe=>gd (KJ e (AS (Yb L.2 n r))) λ_=>ix (Yb L.2 n r) e λg=>br (Oa (Ki (AS g)) 0) (λ_=>some (.nx (SJ .i64 a 1))) λ_=>some (.dn ((0,(a,()))))) λ_=>some (.dn ((0,(a,()))))) rfl (λk b=>by
  have hi:SJ .i64 ((k+1:Nat):Int) 1=(k:Int):=by rw [Si (by omega)];omega
  simp only [hi,Tf];rw [TL,if_pos (by omega),S2,if_pos (by rw [Tl];omega),TB (Xm b)]
  exact eV _ _ _) _ (eb _)
 rw [Tn,show AS (Yb L.2 n r)=(Yb L.2 n r).length from rfl];refine UJ (Uu (by omega) c) ?_;have hd:=an (Yb L.2 n r) (Yb L.2 n r).length;simp only [Tf];rw [Un hd,S1,if_pos (by omega),Sy,if_pos (by omega),S1,if_pos (by unfold BF Pa;omega)];unfold U3 Xe D0 BF Pa;simp
end
section
open Go Sv
def ba (d:Int) (j:Job):Bool:=Oa d j.1
def Uq (js:List Job) (d:Int):Option Job:=js.find? (ba d)
def ZK (js:List Job):List (Int×Job):=js.map λj=>(j.1,j)
def zJ:Job:=(0,(([],([],([],([],0)))),((false,([],false)),([],0))))
def YO (L:Tk) (d:Int):Job:=match To L.2 d.toNat with
 | [r0,r1]=>(d,VO r1.2 r0.2 (decide (d=(L.2.length:Int)-1)) 0)
 | _=>zJ
def Xk (s:Th) (L:Tk) (a d:Int):Job:=(if d=a then none else Uq s.2.1 d).getD (YO L d)
def Ys (s:Th) (L:Tk) (next a:Int):Th:=(L,((Tp 0 L.2).map (Xk s L a),next))
theorem ab (d:Int) : ∀ js:List Job,MU (λa b=>Oa a b) (ZK js) d=Uq js d
 | []=>rfl
 | j::js=>by
  show (bif Oa d j.1 then some j else MU (λa b=>Oa a b) (ZK js) d)=(j::js).find? (ba d)
  rw [kd,ab d js];show _=match Oa d j.1 with | true=>some j | false=>Uq js d
  cases Oa d j.1<;>rfl
theorem ac {j:Job} : ∀ {js:List Job},j.1 ∉ js.map (·.1)->IT (λa b=>Oa a b) (ZK js) j.1 j=ZK (js++[j])
 | [],_=>rfl
 | i::js,h=>by
  show (bif Oa j.1 i.1 then (j.1,j)::ZK js else (i.1,i)::IT (λa b=>Oa a b) (ZK js) j.1 j)=(i.1,i)::ZK (js++[j])
  have d:Oa j.1 i.1=false:=by rw [Vb];simp;intro e;exact h (by simp [e])
  rw [d,cond_false,ac (λc=>h (by simp at c ⊢;exact .inr c))]
theorem Yz {js:List Job} {d:Int} (h:d ∉ js.map (·.1)):Uq js d=none:=by
 unfold Uq;rw [List.find?_eq_none];intro j a;unfold ba;rw [Vb];simp only [decide_eq_true_eq];intro e;exact h (by rw [e];exact l6 a)
theorem aa {x d:Int} : ∀ {js:List Job},(js.map (·.1)).Nodup->MU (λa b=>Oa a b) (IS (λa b=>Oa a b) (ZK js) x) d=if d=x then none else Uq js d
 | [],_=>by split<;>rfl
 | j::js,h=>by
  rw [hI,ox] at h;show MU (λa b=>Oa a b) (bif Oa x j.1 then ZK js else (j.1,j)::IS (λa b=>Oa a b) (ZK js) x) d=_
  have f:Uq (j::js) d=if d=j.1 then some j else Uq js d:=by
   unfold Uq;rw [kd];unfold ba;rw [Vb];by_cases e:d=j.1<;>simp [e]
  rw [Vb,f];by_cases c:x=j.1
  ·rw [show decide (x=j.1)=true by simp [c],cond_true,ab];by_cases hd:d=x
   ·rw [if_pos hd];exact Yz (by rw [hd,c];exact h.1)
   ·rw [if_neg hd,if_neg (by rw [<- c];exact hd)]
  ·rw [show decide (x=j.1)=false by simp [c],cond_false];show (bif Oa d j.1 then some j else MU (λa b=>Oa a b) (IS (λa b=>Oa a b) (ZK js) x) d)=_
   rw [aa h.2,Vb];by_cases hd:d=j.1
   ·rw [show decide (d=j.1)=true by simp [hd],cond_true,if_pos hd,if_neg (by rw [hd];exact λe=>c e.symm)]
   ·rw [show decide (d=j.1)=false by simp [hd],cond_false,if_neg hd]
theorem VR.vl' {L:Tk} (v:VLev L) {n:Nat} {r:UK} (h:r∈To L.2 n):VL r.2:=((v.own n).2 r h).vl
theorem fV (L:Tk) (a:L.2.length<=1000) (n:Nat):VQ (L,(n:Int))=some (decide ((n:Int)=(L.2.length:Int)-1)):=by
 unfold VQ;simp only [Tn,Tl];rw [Si (by omega),Vb]
theorem g9 {L:Tk} (v:VLev L) {n:Nat} (h:(To L.2 n).length=2):XK (L,(n:Int))=some (YO L n,0):=by
 have d:n<L.2.length:=by
  by_cases e:n<L.2.length
  ·exact e
  ·unfold To at h;rw [a9 (by omega)] at h;cases h
 have i:=v.len;obtain ⟨f,g⟩:=v.small;unfold XK;simp only [Tn,Tl];rw [YE _ f g,Wm v,Sw,TP,if_pos rfl,TN,if_neg (by omega),TK,if_neg (by omega),TK,if_neg (by omega),Tf,TB (Xm d),TN,if_neg (by omega),fV L (by omega) n,Sw]
 obtain ⟨b,c,a⟩ : ∃ b c,To L.2 n=[b,c]:=by
  match hq:To L.2 n with
  | [b,c]=>exact ⟨b,c,rfl⟩
  | []=>rw [hq] at h;cases h
  | [_]=>rw [hq] at h;cases h
  | _::_::_::_=>rw [hq] at h;simp at h
 rw [bM _ (by rw [Xm d,a]) (VR.vl' v (n:=n) (by rw [a];simp)) (VR.vl' v (n:=n) (by rw [a];simp)),Sw];unfold YO;rw [bl,a]
theorem YC (i:Nat) (rs:List UK) (ls:List (List UK)):Tp i (rs::ls)=(if rs.length=2 then [(i:Int)] else [])++Tp (i+1) ls:=rfl
theorem Zf {s:Th} (f:(s.2.1.map (·.1)).Nodup) (r:s.2.1.length<=1000) {L:Tk} (v:VLev L) (next a:Int):UE (s,(L,(next,a)))=some (Ys s L next a,0):=by
 have t:=v.len;unfold UE;simp only [Tn,Tl]
 rw [Uv (l:=s.2.1) (σ:=List (Int×Job)) (s:=((0:Int),([]:List (Int×Job)))) (λi m=>((i:Int),m)) (λls i m => ∃ p,s.2.1=p++ls/\m=ZK p) (λ_ _ _=>(0,(((s.2.1.length:Int),ZK s.2.1),()))) [] rfl (by omega) ⟨[],rfl,rfl⟩ (λm h=>by
  obtain ⟨p,d,rfl⟩:=h
  simp only;rw [re,R6,d,eo]) (λi x ls m hd b hi h=>by
   obtain ⟨p,d,rfl⟩:=h;refine ⟨ZK (p++[x]),?_,⟨p++[x],by rw [d];simp,rfl⟩,rfl⟩;simp only;rw [rl hi,Sb,Tf,TB b,Tq b (by omega),ac];intro g;rw [d,rz,o4] at f
   exact f.2.2 _ g x.1 (by simp) rfl),Sw]
 simp only
 rw [Uv (l:=L.2) (σ:=List Job) (s:=((0:Int),((0:Int),(((0:Int),(([]:List (List UK)),(([]:List Job),(0:Int)))),(L.1,(L.2,(([]:List Job),next))))))) (λi js=>((0:Int),((i:Int),(((0:Int),(([]:List (List UK)),(([]:List Job),(0:Int)))),(L.1,(L.2,(js,next))))))) (λls i js=>js++(Tp i ls).map (Xk s L a)=(Tp 0 L.2).map (Xk s L a)) (λ_ _ _=>(0,(((0:Int),((L.2.length:Int),(((0:Int),(([]:List (List UK)),(([]:List Job),(0:Int)))),(L.1,(L.2,((Tp 0 L.2).map (Xk s L a),next)))))),()))) [] rfl (by omega) rfl (λm h=>by
  simp only;rw [re,R6,<- h];simp [Tp]) (λi rs ls m hd b hi h=>by
   have k:To L.2 i=rs:=by unfold To;rw [b];rfl
   have o:=(v.own i).1;rw [k] at o;refine ⟨m++(if rs.length=2 then [Xk s L a i] else []),?_,?_,rfl⟩
   ·simp only;rw [rl hi,Sb,Tf,TB b,TN]
    have g:m.length<=1000:=by
     have c:=congrArg nb h;have q:=VV L.2 0;rw [iP,x8,x8] at c;omega
    by_cases c:rs.length=2;rotate_left
    ·rw [if_pos (by omega),if_neg c,eo,Tq b (by omega)]
    rw [if_neg (by omega),if_pos c,aa f];have e:Xk s L a i=(if (i:Int)=a then none else Uq s.2.1 i).getD (YO L i):=rfl
    cases n:(if (i:Int)=a then none else Uq s.2.1 (i:Int)) with
    | none =>
     rw [n,Option.getD_none] at e;rw [e,g9 v (by rw [k];exact c),UT,TU,if_neg (show ¬ Ta (none:Option Job)=true by simp [Ta]),Sw];simp only;rw [TP,if_pos rfl,Un (by simp only [BF,co,ed];omega),Tq b (by omega)];rfl
    | some j =>
     rw [n,ll] at e;rw [e,UT,TU,if_pos (show Ta (some j)=true from rfl),Un (by simp only [BF,co,ed];omega),Tq b (by omega)];rfl
   ·rw [ci,<- h,YC,rz]
    congr 2
    split<;>rfl),Sw]
 rfl
end
section
open Go Sv
def pS (s:Uc):Option W9:=if s.1=true then some s.2.1 else none
theorem Asc.weak : ∀ {l:List Ti} {p c:Option W9},(∀ a,c=some a -> ∃ q,p=some q/\SU q a=false)->Asc p l->Asc c l
 | [],_,_,_,_=>trivial
 | x::l,p,c,h,⟨g,i⟩=>⟨λa b=>by
  obtain ⟨q,e,j⟩:=h a b;have d:=g q e;by_cases f:a=q
  ·rw [f];exact d
  ·exact WB (ZB j (λe=>f e.symm)) d,i⟩
theorem bS : ∀ (l:List Ti) (s:Uc),ZR s l->Asc (pS s) (Vw s l)
 | [],_,_=>trivial
 | x::l,s,⟨_,g,h⟩=>by
  have i:=bS l _ h;have f:Asc (some x.1) (Vw (true,(x.1,s.2.2)) l):=i;unfold Vw;by_cases c:keep s x=true
  ·rw [if_pos c];refine ⟨λq d => ?_,f⟩;unfold pS at d;by_cases b:s.1=true
   ·rw [if_pos b] at d;cases d;refine ZB (g b) λe => ?_;unfold keep at c;rw [b,e] at c;simp at c
   ·rw [if_neg b] at d;cases d
  ·rw [if_neg c,ol];refine f.weak λj a=>⟨x.1,rfl,?_⟩;unfold pS at a;by_cases b:s.1=true
   ·rw [if_pos b] at a;cases a;exact g b
   ·rw [if_neg b] at a;cases a
theorem bU : ∀ {l:List Ti} {s:Uc} {x:Ti},x∈Vw s l->x∈l
 | y::l,s,x,h=>by
  unfold Vw at h;rcases oj.1 h with h | h
  ·split at h
   ·rw [s6.1 h];simp
   ·cases h
  ·exact List.mem_cons_of_mem _ (bU h)
theorem ew : ∀ {l:List Ti} {s:Uc},ZR s l -> ∀ x∈l,kE x=0
 | y::l,s,⟨a,_,b⟩,x,h=>by
  rcases en.1 h with e | h
  ·rw [e];exact a
  ·exact ew b x h
theorem iT {a b:List Ti} (va:VL a) (f:VL b) (c:Bool) {k:Nat} (d:k<=a.length+b.length) (j:a.length+b.length<=5000):VL (VO a b c k).2.2.1/\(VO a b c k).2.2.1.length<=a.length+b.length:=by
 have e:=Wt va f c d
 have i:(Vw (s0 c) (Tx a b k)).length<=k:=by
  have:=Xu (s0 c) (Tx a b k);rw [Uz va f d] at this;exact this
 have g:(VO a b c k).2.2.1=Vw (s0 c) (Tx a b k):=rfl;rw [g];exact ⟨⟨by omega,λx h=>ew e x (bU h),bS _ _ e⟩,by omega⟩
theorem cj {L:Tk} (v:VLev L) {n:Nat} (h:To L.2 n≠[]):VZ (L,(n:Int))=some (U3 L n [],(To L.2 n,0)):=by
 have b:n<L.2.length:=by
  by_cases a:n<L.2.length
  ·exact a
  ·unfold To at h;rw [a9 (by omega)] at h;exact absurd rfl h
 have d:=v.len;have c:=(v.own n).1;unfold VZ;simp only [Tn,Tl];rw [bB v,Sw,if_neg (by omega),TP,if_pos rfl,TN,if_pos (by omega),Tf,TB (Xm b),eV,if_neg h,ZY (by omega) (by omega),Sw,Un (by omega)]
theorem fT {S β:Type} {f:S->Option (LR S β)} {r:β} (mk:Int->S) (n:Nat) {s:S} (b:s=mk ((n:Int)-1)) (g:n<1000000) (hs : ∀ k,k<n->f (mk (k:Int))=some (.nx (mk ((k:Int)-1)))) (c:f (mk (-1))=some (.dn r)):loop f s=some r:=by
 subst b
 have a : ∀ k,k<=n->IL (k+1) f (mk ((k:Int)-1))=some r:=by
  intro k
  induction k with
  | zero=>intro _;exact UP c
  | succ k d =>
   intro e;have:=hs k (by omega);rw [show ((k+1:Nat):Int)-1=(k:Int) by omega,UF this];exact d (by omega)
 exact Uu (by omega) (a n (eb _))
theorem bj {L:Tk} (v:VLev L) {n:Nat} (m:n<12) {x:UK} (p:x.2.length<=1048576) (b : ∀ y∈L.2.flatten,y.1≠x.1) (j:(To L.2 n).length<2) :
  UR (L,((n:Int),x))=some (if kR [] (Um L.1 n) x≠0 then ((0,[]),kR [] (Um L.1 n) x) else (U3 L n (To L.2 n++[x]),0)):=by
 have o:=v.len;unfold UR;simp only [Tn,Tl];rw [bB v,Sw,if_neg (by omega),TP,if_pos rfl,ZW v.B1 v.B2 (by omega),aZ x _ (by omega),show Rw (n:Int) 0=true by unfold Rw;simp];rw [nF,Sw,TP];by_cases a:kR [] (Um L.1 n) x=0;rotate_left
 ·rw [if_neg a,if_pos a]
 rw [if_pos a,if_neg (by simp [a])]
 rw [Uv (l:=L.2) (σ:=Unit) (s:=((0:Int),(((0:Int),([]:List (List UK))),(0:Int)))) (λi _=>((i:Int),(((0:Int),([]:List (List UK))),(0:Int)))) (λ_ _ _=>True) (λ_ _ _=>(0,(((L.2.length:Int),(((0:Int),([]:List (List UK))),(0:Int))),()))) () rfl (by omega) trivial (λ_ _=>by
  simp only;rw [re];rfl) (λi rs ls _ hd hi c _=>by
   refine ⟨(),?_,trivial,rfl⟩;have e:To L.2 i=rs:=by unfold To;rw [hi];rfl
   have f:=(v.own i).1;rw [e] at f;simp only;rw [rl c,Sb,Tf,TB hi,Si (by omega)]
   rw [fT (λk=>(k,(((0:Int),([]:List (List UK))),(0:Int)))) rs.length rfl (by omega) (λk a=>by
    have h:rs[k]? = some rs[k]:=ee a;have d:rs[k].1≠x.1:=b _ (l5.2 ⟨rs,bo hi,List.getElem_mem a⟩);simp only
    rw [TK,if_pos (by omega),Tf,TB h,TJ,if_neg d,Si (by omega)]) (r:=(0,(((-1:Int),(((0:Int),([]:List (List UK))),(0:Int))),()))) rfl,Sw]
   rw [Tq hi (by omega)]
   rfl),Sw]
 rw [Sx,if_pos rfl,TN];by_cases g:n<L.2.length
 ·rw [if_pos (by omega),Tf,TB (Xm g),TJ,if_neg (by omega),Tf,Tf,Un (eb _),S0,if_pos rfl,Un (hV _)];have hs:D0 (To L.2 n) 0 (To L.2 n).length=To L.2 n:=by unfold D0;simp
  rw [hs,Un (by simp only [BF,co,ed];omega),ZY (by omega) (by omega),Sw];rfl
 ·rw [if_neg (by omega)];have e:To L.2 n=[]:=by unfold To;rw [a9 (by omega)];rfl
  rw [Un (by simp),ZY (by omega) (by omega),Sw,e];rfl
end
end Go.Proofs.YtbahicnpiefmlaaGreatDoor.Pl
