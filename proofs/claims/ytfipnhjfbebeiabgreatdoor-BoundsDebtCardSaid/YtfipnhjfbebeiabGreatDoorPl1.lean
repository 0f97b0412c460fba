/- Functions of the program and of the specification as plain functions, and laws about them. No condition. -/
import Derived.Test.YtfipnhjfbebeiabGreatDoorPl0
set_option linter.all false
open List renaming Sublist->s7, append_assoc->cP, append_nil->gs, drop_eq_getElem_cons->vv, drop_zero->vt, find?_cons->iz, flatMap_cons->xT, flatten_append->ns, flatten_cons->li, flatten_eq_nil_iff->xb, foldl_append->x6, foldl_cons->iP, getElem?_eq_getElem->eg, getElem?_eq_none->a9, getElem?_eq_some_iff->a8, getElem?_map->s8, getElem?_of_mem->eo, getElem?_take->q9, getLast?_eq_getElem?->pg, head?->xk, head?_drop->sr, length->nb, length_append->hM, length_cons->ci, length_map->sw, length_nil->co, length_pos_iff->eb, length_set->yw, length_take->tw, map_append->oj, map_cons->kd, mem_append->ol, mem_cons->ey, mem_flatten->l5, mem_map->o3, mem_map_of_mem->l6, mem_of_getElem?->bo, mem_singleton->tb, nil_append->ox, nodup_append->rz, nodup_cons->oy, replicate->FF, tail->tT, tail_drop->rY, take_add_one->gM, take_append_drop->xm, take_length->yn
open Nat renaming le_refl->dc, lt_of_not_le->nP, min_eq_left->ul, sub_zero->l4, zero_add->ee, zero_le->lc
open Int renaming mul_le_mul->Tf, toNat_natCast->bl, zero_add->ta
open Option renaming getD_some->hI, map_some->x9
open Bool renaming false_eq_true->ll
open UInt8 renaming lt_iff_toNat_lt->xl
open Prod renaming ext->s9
namespace Go.Proofs.YtfipnhjfbebeiabGreatDoor.Pl
section
open Go Sv
theorem VB {S β:Type} {f:S->Option (LR S β)} {s0 s1 s2:S} {r:β} (a:f s0=some (.nx s1)) (b:f s1=some (.nx s2)) (c:f s2=some (.dn r)):loop f s0=some r :=
 U3 (n:=3) (by omega) ((UL a).trans ((UL b).trans (UR c)))
theorem aN {α β:Type} {c:Bool} {n:Int} {l:List α} {K:Nat->α->Option β} {E:Unit->Option β} (k:Nat) {x:α} (hc:c=true) (b:n=(k:Int)) (d:l[k]? = some x):br c (λ_=>R1 n λa=>ix l a λe=>K a e) E=K k x:=by
 subst hc;subst b;rw [Sc,Ti,TC d]
theorem WU {α β:Type} {n:Int} {l:List α} {K:Nat->α->Option β} (k:Nat) {x:α} (b:n=(k:Int)) (c:l[k]? = some x):R1 n (λa=>ix l a λd=>K a d)=K k x:=by
 subst b;rw [Ti,TC c]
theorem Xb {l:List Tj} {i:Nat} (h:i<=l.length):UU (l,(i:Int))=some (kx l i):=by
 unfold UU kx;simp only [Tq,Tn];rw [TK];by_cases hi:i=l.length
 ·rw [if_pos (by omega),a9 (by omega)]
 ·have a:l[i]? = some l[i]:=by rw [eg (by omega)]
  rw [if_neg (by omega),Ti,TC a,a]
section
variable {a b:List Tj} (va:VL a) (vb:VL b)
theorem pH {i j:Nat} (hi:i<=a.length) (c:j<=b.length):W6 ([a,b],[(i:Int),(j:Int)])=some (Tt (kx a i) (kx b j)):=by
 unfold W6;refine UI (x:=(0,((2,[kx a i,kx b j]),()))) (VB (s1:=(1,[kx a i,([],false)])) (s2:=(2,[kx a i,kx b j])) ?_ ?_ rfl) ?_
 ·show bd (UU (a,(i:Int))) _=_;rw [Xb hi];rfl
 ·show bd (UU (b,(j:Int))) _=_;rw [Xb c];rfl
 ·show bd (VQ [kx a i,kx b j]) _=_;rw [Z3 (Ub _ _) (Ub _ _)];rfl
include va vb
theorem Zn:UT a=some (0,0):=by
 rw [WM _ (by have:=va.len;omega),Yw va]
theorem Zb:V9 [a,b]=some (0,0):=by
 unfold V9;refine UI (x:=(1,((0,(0,2)),()))) (VB (s1:=(0,(0,1))) (s2:=(0,(0,2))) ?_ ?_ rfl) rfl
 ·show bd (UT a) _=_;rw [Zn va va];rfl
 ·show bd (UT b) _=_;rw [Zn vb vb];rfl
theorem gr (c:Bool):XE ([a,b],c)=some (zd a b c 0,(0,0)):=by
 unfold XE;rw [Zb va vb,Sx,TQ,if_pos rfl];refine UI (x:=(0,((2,[kx a 0,kx b 0]),()))) (VB (s1:=(1,[kx a 0,([],false)])) (s2:=(2,[kx a 0,kx b 0])) ?_ ?_ rfl) ?_
 ·show bd (UU (a,((0:Nat):Int))) _=_;rw [Xb (by omega)];rfl
 ·show bd (UU (b,((0:Nat):Int))) _=_;rw [Xb (by omega)];rfl
 ·show bd (VQ [kx a 0,kx b 0]) _=_;rw [Z3 (Ub _ _) (Ub _ _)];rfl
end
theorem X6 (x:Bool):Sv.beq x x=true:=by cases x<;>rfl
theorem Yq (x:Xe):seq x x=true:=by rw [aT]
theorem d9 (l:List UG) (h:l.length<=1000):UF (l,l)=some true:=by
 unfold UF;simp only [Tq,Tn]
 rw [TQ,if_pos rfl,Zw (l:=l) (σ:=Unit) (s:=(0,false)) (λk _=>((k:Int),false)) (λ_ _ _=>some (1,(((l.length:Int),false),()))) () rfl (by omega) (λc=>by
  simp only;rw [re];rfl) (λk x m c _ a b => .inl ⟨(),by
   simp only;rw [rl b,Sc,Ti,TC a,Ti,TC a,Yq,X6,show Hg (Nm true (Nm true true))=false from rfl,R7,Tv a (by omega)],rfl⟩),Sx]
 rfl
theorem d8 (l:List Int) (h:l.length<=1000):Tz (l,l)=some true:=by
 unfold Tz;simp only [Tq,Tn]
 rw [TQ,if_pos rfl,Zw (l:=l) (σ:=Unit) (s:=(0,false)) (λk _=>((k:Int),false)) (λ_ _ _=>some (1,(((l.length:Int),false),()))) () rfl (by omega) (λc=>by
  simp only;rw [re];rfl) (λk x m c _ a b => .inl ⟨(),by
   simp only;rw [rl b,Sc,Ti,TC a,Ti,TC a,TQ,if_pos rfl,Tv a (by omega)],rfl⟩),Sx]
 rfl
theorem gn (t:Vz) (a:t.1.length<=1000) (b:t.2.1.length<=1000):Wi (t,t)=some true:=by
 unfold Wi;rw [TK,if_pos rfl,d9 _ a,Sx,Sc,d8 _ b];rfl
theorem gp (p q:UG):Wi (Tt p q,Tt p q)=some true:=gn _ (show 2<=1000 by omega) (show 2<=1000 by omega)
theorem jS {a b:List Tj} {i j:Nat} (h:Xv a b i j=true):wk (kx a i) (kx b j)=kx a i/\wn (kx a i) (kx b j)=0:=by
 unfold Xv at h;unfold wk wn;rw [if_pos h,if_pos h];exact ⟨rfl,rfl⟩
theorem jT {a b:List Tj} {i j:Nat} (h:Xv a b i j=false):wk (kx a i) (kx b j)=kx b j/\wn (kx a i) (kx b j)=1:=by
 unfold Xv at h;unfold wk wn;rw [if_neg (by simp [h]),if_neg (by simp [h])];exact ⟨rfl,rfl⟩
theorem gF (x y:Xe):Vg (x,y)=some (if SV x y=true then -1 else if SV y x=true then 1 else 0):=by
 unfold Vg V0;simp only [Yq,dw,Sx,R7];rw [XJ,XJ];split
 ·rfl
 ·split<;>rfl
theorem gE (x y:Int):VE (x,y)=some (if x<y then -1 else if x>y then 1 else 0):=by
 unfold VE Wn;simp only [Sx,TQ,if_true,TP,TM];split
 ·rfl
 ·split<;>rfl
theorem kC (x y:Int):Xj [x,y]=some (if x≠0 then x else y):=by
 unfold Xj;by_cases h:x=0
 ·rw [if_neg (by simp [h])];by_cases a:y=0
  ·refine UI (x:=(1,((0,2),()))) (VB (s1:=(0,1)) (s2:=(0,2)) ?_ ?_ rfl) (by rw [a];rfl)
   ·refine (aN 0 rfl rfl rfl).trans ?_;rw [TQ,if_pos h];rfl
   ·refine (aN 1 rfl rfl rfl).trans ?_;rw [TQ,if_pos a];rfl
  ·refine UI (x:=(0,((y,1),()))) (U3 (n:=2) (by omega) ((UL (s':=(0,1)) ?_).trans (UR ?_))) rfl
   ·refine (aN 0 rfl rfl rfl).trans ?_;rw [TQ,if_pos h];rfl
   ·refine (aN 1 rfl rfl rfl).trans ?_;rw [TQ,if_neg a]
 ·rw [if_pos h];refine UI (x:=(0,((x,0),()))) (U3 (n:=1) (by omega) (UR ?_)) rfl;refine (aN 0 rfl rfl rfl).trans ?_;rw [TQ,if_neg h]
section
variable {a b:List Tj} (va:VL a) (vb:VL b)
include va vb
theorem ZM {i j:Nat} (I:Inv a b i j):V8 (Zj a b i j)=some (0,0):=by
 unfold V8;rw [show (Zj a b i j).1=[a,b] from rfl,Zb va vb,Sx,TQ,if_pos rfl];rw [show (Zj a b i j).2.1=[(i:Int),(j:Int)] from rfl,TQ,if_pos (show Ki (AS [(i:Int),(j:Int)])=Ki (AS [a,b]) from rfl)];refine UI (x:=(1,((0,(0,2)),()))) (VB (s1:=(0,(0,1))) (s2:=(0,(0,2))) ?_ ?_ rfl) ?_
 ·refine (aN 0 rfl rfl rfl).trans ?_;rw [TP,if_neg (by omega),show R1 (((0:Int),((0:Int),(0:Int))).2.2)=λ(k:Nat->Option (LR (Int×(Int×Int)) (Nat×((Int×(Int×Int))×Unit))))=>k 0 from rfl];simp only;rw [TC (x:=a) rfl,TM,if_neg (by have:=I.ia;simp only [Tq,Tn];omega)];rfl
 ·refine (aN 1 rfl rfl rfl).trans ?_;rw [TP,if_neg (by omega),show R1 (((0:Int),((0:Int),(1:Int))).2.2)=λ(k:Nat->Option (LR (Int×(Int×Int)) (Nat×((Int×(Int×Int))×Unit))))=>k 1 from rfl];simp only;rw [TC (x:=b) rfl,TM,if_neg (by have:=I.jb;simp only [Tq,Tn];omega)];rfl
 rw [show neq ((1:Nat),(((0:Int),((0:Int),(2:Int))),())).1 0=false from rfl,R7,pH I.ia I.jb,Sx,show (Zj a b i j).2.2=Tt (kx a i) (kx b j) from rfl,gp,Sx,show Hg true=false from rfl,R7,X5 (Ub _ _) (Ub _ _),Sx];by_cases hd:(wk (kx a i) (kx b j)).2=true
 ·rw [if_pos hd];rfl
 rw [if_neg hd,TQ,if_pos rfl]
 have r : ∀ {x:Tj} {e:Nat},i=e+1->a[e]? = some x -> ¬ (if (if SV x.1 (wk (kx a i) (kx b j)).1=true then (-1:Int) else if SV (wk (kx a i) (kx b j)).1 x.1=true then 1 else 0)≠0 then (if SV x.1 (wk (kx a i) (kx b j)).1=true then (-1:Int) else if SV (wk (kx a i) (kx b j)).1 x.1=true then 1 else 0) else (if (0:Int)<(wn (kx a i) (kx b j):Int) then -1 else if (0:Int)>(wn (kx a i) (kx b j):Int) then 1 else 0))>0:=by
  intro x e hi c
  have o:SV (wk (kx a i) (kx b j)).1 x.1=false:=by
   cases g:Xv a b i j with
   | true =>
    rw [(jS g).1] at hd ⊢;unfold kx at hd ⊢;cases d:a[i]? with
    | none=>rw [d] at hd;exact absurd rfl hd
    | some y=>rw [hi] at d;exact VH (va.lt c d)
   | false =>
    rw [(jT g).1] at hd ⊢;unfold kx at hd ⊢;cases d:b[j]? with
    | none=>rw [d] at hd;exact absurd rfl hd
    | some y=>exact I.pa e hi x y c d
  rw [o];have : ¬ (0:Int)>(wn (kx a i) (kx b j):Int):=by omega
  by_cases hs:SV x.1 (wk (kx a i) (kx b j)).1=true
  ·simp [hs]
  ·simp only [hs,ll,if_false,ne_eq,not_true,this];split<;>omega
 have s : ∀ {y:Tj} {j':Nat},j=j'+1->b[j']? = some y -> ¬ (if (if SV y.1 (wk (kx a i) (kx b j)).1=true then (-1:Int) else if SV (wk (kx a i) (kx b j)).1 y.1=true then 1 else 0)≠0 then (if SV y.1 (wk (kx a i) (kx b j)).1=true then (-1:Int) else if SV (wk (kx a i) (kx b j)).1 y.1=true then 1 else 0) else (if (1:Int)<(wn (kx a i) (kx b j):Int) then -1 else if (1:Int)>(wn (kx a i) (kx b j):Int) then 1 else 0))>0:=by
  intro y j' q d
  have p:SV y.1 (wk (kx a i) (kx b j)).1=true:=by
   cases g:Xv a b i j with
   | true =>
    rw [(jS g).1] at hd ⊢;unfold kx at hd ⊢;cases c:a[i]? with
    | none=>rw [c] at hd;exact absurd rfl hd
    | some x=>exact I.pb j' q y x d c
   | false =>
    rw [(jT g).1] at hd ⊢;unfold kx at hd ⊢;cases c:b[j]? with
    | none=>rw [c] at hd;exact absurd rfl hd
    | some x=>rw [q] at c;exact vb.lt d c
  rw [p];simp
 refine UI (x:=(1,((0,(0,2)),()))) (VB (s1:=(0,(0,1))) (s2:=(0,(0,2))) ?_ ?_ rfl) rfl
 ·refine (aN 0 rfl rfl rfl).trans ?_;rw [TM];by_cases f:(i:Int)>0
  ·rw [if_pos f];obtain ⟨e,h⟩ : ∃ e,i=e+1:=⟨i-1,by omega⟩;have l:e<a.length:=by have:=I.ia;omega
   have c:a[e]? = some a[e]:=by simp [l]
   refine (WU 0 rfl (x:=a) rfl).trans ((WU e ?_ c).trans ?_)
   ·rw [Sj (by have:=va.len;have:=I.ia;omega)];omega
   rw [gF,Sx];show bd (VE (0,(wn (kx a i) (kx b j):Int))) _=_;rw [gE,Sx,kC,Sx,TM,if_neg (r h c)];rfl
  ·rw [if_neg f];rfl
 ·refine (aN 1 rfl rfl rfl).trans ?_;rw [TM];by_cases f:(j:Int)>0
  ·rw [if_pos f];obtain ⟨j',m⟩ : ∃ j',j=j'+1:=⟨j-1,by omega⟩;have n:j'<b.length:=by have:=I.jb;omega
   have d:b[j']? = some b[j']:=by simp [n]
   refine (WU 1 rfl (x:=b) rfl).trans ((WU j' ?_ d).trans ?_)
   ·rw [Sj (by have:=vb.len;have:=I.jb;omega)];omega
   rw [gF,Sx];show bd (VE (1,(wn (kx a i) (kx b j):Int))) _=_;rw [gE,Sx,kC,Sx,TM,if_neg (s m d)];rfl
  ·rw [if_neg f];rfl
end
end
section
open Go Sv
theorem XH {l:List Tj} {i:Nat} {x:Tj} (h:l[i]? = some x):kx l i=(x.1,false):=by unfold kx;rw [h]
theorem Zu {l:List Tj} {i:Nat} (h:l[i]? = none):kx l i=([],true):=by unfold kx;rw [h]
theorem aQ {l:List Tj} (v:VL l) {i:Nat} {x:Tj} (h:l[i]? = some x):(kx l (i+1)).2=true\/SV (kx l (i+1)).1 x.1=false:=by
 cases a:l[i+1]? with
 | none=>rw [Zu a];exact .inl rfl
 | some y=>rw [XH a];exact .inr (VH (v.lt h a))
theorem ZA {α β:Type} {n:Int} {l:List α} {K:Nat->α->Option β} (k:Nat) {x:α} (c:n=(k:Int)) (b:l[k]? = some x):R1 n (λa=>gd (KJ a (AS l)) λ_=>ix l a λd=>K a d)=K k x:=by
 subst c;rw [Ti,S3,if_pos (show k<AS l from (a8.1 b).1),TC b]
section
variable {a b:List Tj} (va:VL a) (vb:VL b)
include va vb
theorem pn {i j:Nat} (I:Inv a b i j) {x:Tj} (c:a[i]? = some x) (g:Xv a b i j=true):Uz (Zj a b i j)=some (x,(0,(Zj a b (i+1) j,0))):=by
 obtain ⟨e,h⟩:=jS g;have hi:=(a8.1 c).1;have l:=va.len;have hd:(wk (kx a i) (kx b j)).2=false:=by rw [e,XH c]
 obtain ⟨m,f⟩:=YH (p:=kx a i) (q:=kx b j) (k:=kx a (i+1)) (Ub _ _) (Ub _ _) (Ub _ _) hd (by rw [e,XH c];exact aQ va c)
 have d:rk (kx a i) (kx b j) (kx a (i+1))=(kx a (i+1),kx b j):=by
  unfold rk;unfold Xv at g;rw [if_pos g]
 rw [d] at f;unfold Uz;rw [ZM va vb I,Sx,TQ,if_pos rfl];unfold Tw UE;refine UI (Yx (show 2<=1048576 by omega)) (UI (Yx (show 2<=1048576 by omega)) ?_);rw [show (Zj a b i j).2.2=Tt (kx a i) (kx b j) from rfl,X5 (Ub _ _) (Ub _ _),if_neg (by simp [hd]),Sx,TQ,if_pos rfl,h];refine (ZA 0 rfl (x:=a) rfl).trans ((ZA 0 rfl (x:=(i:Int)) rfl).trans ((WU i rfl c).trans ((ZA 0 rfl (x:=(i:Int)) rfl).trans ((ZA 0 rfl (x:=(i:Int)) rfl).trans ((ZA 0 rfl (x:=a) rfl).trans ((ZA 0 rfl (x:=SF .i64 (i:Int) 1) rfl).trans ?_))))));rw [Tu (by omega),Xb (show i+1<=a.length by omega),Sx,f,Sx];rfl
theorem po {i j:Nat} (I:Inv a b i j) {y:Tj} (c:b[j]? = some y) (g:Xv a b i j=false):Uz (Zj a b i j)=some (y,(1,(Zj a b i (j+1),0))):=by
 obtain ⟨e,h⟩:=jT g;have hi:=(a8.1 c).1;have l:=vb.len;have hd:(wk (kx a i) (kx b j)).2=false:=by rw [e,XH c]
 obtain ⟨m,f⟩:=YH (p:=kx a i) (q:=kx b j) (k:=kx b (j+1)) (Ub _ _) (Ub _ _) (Ub _ _) hd (by rw [e,XH c];exact aQ vb c)
 have d:rk (kx a i) (kx b j) (kx b (j+1))=(kx a i,kx b (j+1)):=by
  unfold rk;unfold Xv at g;rw [if_neg (by simp [g])]
 rw [d] at f;unfold Uz;rw [ZM va vb I,Sx,TQ,if_pos rfl];unfold Tw UE;refine UI (Yx (show 2<=1048576 by omega)) (UI (Yx (show 2<=1048576 by omega)) ?_);rw [show (Zj a b i j).2.2=Tt (kx a i) (kx b j) from rfl,X5 (Ub _ _) (Ub _ _),if_neg (by simp [hd]),Sx,TQ,if_pos rfl,h];refine (ZA 1 rfl (x:=b) rfl).trans ((ZA 1 rfl (x:=(j:Int)) rfl).trans ((WU j rfl c).trans ((ZA 1 rfl (x:=(j:Int)) rfl).trans ((ZA 1 rfl (x:=(j:Int)) rfl).trans ((ZA 1 rfl (x:=b) rfl).trans ((ZA 1 rfl (x:=SF .i64 (j:Int) 1) rfl).trans ?_))))));rw [Tu (by omega),Xb (show j+1<=b.length by omega),Sx,f,Sx];rfl
def ZW (a b:List Tj) (n:Nat):Va:=Zj a b (pos a b n).1 (pos a b n).2
def bB (a b:List Tj) (n:Nat):Nat:=if Xv a b (pos a b n).1 (pos a b n).2=true then 0 else 1
theorem aj {n:Nat} {x:Tj} (h:n<a.length+b.length) (c:aJ a b n=some x):Uz (ZW a b n)=some (x,((bB a b n:Int),(ZW a b (n+1),0))):=by
 obtain ⟨d,hs⟩:=WV va vb (n:=n) (by omega);unfold ZW bB;rw [show pos a b (n+1)=if Xv a b (pos a b n).1 (pos a b n).2=true then ((pos a b n).1+1,(pos a b n).2) else ((pos a b n).1,(pos a b n).2+1) from rfl]
 unfold aJ at c;cases g:Xv a b (pos a b n).1 (pos a b n).2 with
 | true=>rw [if_pos g] at c;rw [pn va vb d c g];simp
 | false=>rw [if_neg (by simp [g])] at c;rw [po va vb d c g];simp
end
theorem bC {s:Uk} (b:s.2.1.length<=32) (a:s.1=false->s.2.1=[]):WS s=some 0:=by
 unfold WS;rw [ZT,Sx,if_neg (by omega),TQ,if_pos rfl,US,TV];cases h:s.1 with
 | true=>rfl
 | false=>rw [if_neg (by simp),US,WK,if_pos (a h)]
def keep (s:Uk) (x:Tj):Bool := !(s.1&&decide (x.1=s.2.1)) && !(s.2.2&&x.2.2.1)
theorem iO {s:Uk} {x:Tj} (e:s.2.1.length<=32) (f:s.1=false->s.2.1=[]) (g:kE x=0) (a:s.1=true->SV x.1 s.2.1=false):U9 (s,x)=some (keep s x,((true,(x.1,s.2.2)),0)):=by
 unfold U9 keep;rw [bC e f,Sx,TQ,if_pos rfl,XL,g,Sx,TQ,if_pos rfl];obtain ⟨s1,s2,c⟩:=s;obtain ⟨h,i,d,j⟩:=x;simp only at a ⊢;cases s1 with
 | true =>
  have:=a rfl;simp only [Sc,R7,XJ,WK,this,ll,if_false];by_cases b:h=s2
  ·simp [b]
  ·simp only [b,if_false,decide_false];cases c<;>cases d<;>rfl
 | false =>
  simp only [Sc,R7];cases c<;>cases d<;>rfl
def WJ:Uk->List Tj->List Tj
 | _,[]=>[]
 | s,x::l=>(if keep s x=true then [x] else [])++WJ (true,(x.1,s.2.2)) l
theorem YO : ∀ (s:Uk) (l:List Tj),(WJ s l).length<=l.length
 | _,[]=>dc _
 | s,x::l=>by
  have:=YO (true,(x.1,s.2.2)) l;unfold WJ;by_cases h:keep s x=true
  ·rw [if_pos h];simp;omega
  ·rw [if_neg h];simp;omega
def Z1:Uk->List Tj->Prop
 | _,[]=>True
 | s,x::l=>kE x=0/\(s.1=true->SV x.1 s.2.1=false)/\Z1 (true,(x.1,s.2.2)) l
theorem af {x:Tj} (h:kE x=0):x.1.length<=32:=by
 unfold kE at h;by_cases hh:x.1.length>32\/x.2.1.length>64
 ·rw [if_pos hh] at h;cases h
 ·omega
theorem Ut {α β σ S:Type} {l:List α} (mk:Nat->σ->S) (Inv:List α->Nat->σ->Prop) (F:List α->Nat->σ->β) {f:S->Option (LR S β)} {s:S} (a:σ) (p:s=mk 0 a) (z:l.length<=9223372036854775807) (hi:Inv l 0 a)
  (w : ∀ a,Inv [] l.length a->f (mk l.length a)=some (.dn (F [] l.length a)))
  (hc : ∀ k x m a,l.drop k=x::m->l[k]? = some x->k<l.length->Inv (x::m) k a -> ∃ b,f (mk k a)=some (.nx (mk (k+1) b))/\Inv m (k+1) b/\F (x::m) k a=F m (k+1) b):loop f s=some (F l 0 a):=by
 subst p
 have e : ∀ (m:List α) (k n:Nat) (a:σ),l.drop k=m->k<=l.length->m.length<n->Inv m k a->IL n f (mk k a)=some (F m k a):=by
  intro m
  induction m with
  | nil =>
   intro k n a c u d hi;obtain ⟨n,rfl⟩ : ∃ j,n=j+1:=⟨n-1,by omega⟩
   have h:k=l.length:=by
    have:=congrArg nb c;simp at this;omega
   subst h;exact UR (w a hi)
  | cons x m y =>
   intro k n a c u d hi;obtain ⟨n,rfl⟩ : ∃ j,n=j+1:=⟨n-1,by omega⟩
   have o:l[k]? = some x:=by
    have:=congrArg xk c;rw [sr] at this;simpa using this
   have g:k<l.length:=(a8.1 o).1
   have i:l.drop (k+1)=m:=by
    have:=congrArg tT c;rw [rY] at this;simpa using this
   obtain ⟨b,q,r,t⟩:=hc k x m a c o g hi;rw [UL q,t];exact y (k+1) n b i (by omega) (by simp at d;omega) r
 exact e l 0 _ a (by simp) (by omega) (by omega) hi
def U6:Uk->List Tj->Uk
 | s,[]=>s
 | s,x::l=>U6 (true,(x.1,s.2.2)) l
theorem cG {β:Type} {out:List Tj} {n:Nat} (h:out.length<=n) (a:n<=20000) (x:Tj) (k:Unit->Option β):gd (CF (BF (AS out) (AS [x])) 1048576) k=k ():=Ua (by simp only [BF,AS,ci,co];omega) k
theorem gi {l:List Tj} {b:Bool} (B:l.length<=20000) (A:Z1 (false,([],b)) l):Wq (l,b)=some (WJ (false,([],b)) l,(0,0)):=by
 unfold Wq VY;simp only [Tq,Tn];rw [TM,if_neg (by omega),Sx]
 rw [Ut (l:=l) (σ:=Uk×List Tj) (s:=(0,(0,(0,((false,([],b)),[]))))) (λk a=>((0:Int),((k:Int),((0:Int),a))))
  (λm k a=>Z1 a.1 m/\a.1.2.1.length<=32/\(a.1.1=false->a.1.2.1=[])/\a.2.length<=k/\k+m.length=l.length)
  (λm k a=>(1,((0,((l.length:Int),(0,(U6 a.1 m,a.2++WJ a.1 m)))),()))) ((false,([],b)),[]) rfl (by omega) ⟨A,by simp,λ_=>rfl,by simp,by simp⟩ ?_ ?_,Sx]
 ·simp;rfl
 ·intro a _;simp only;rw [re,R7];simp [U6,WJ]
 ·rintro k x m ⟨s,out⟩ C r z ⟨⟨d,e,g⟩,i,j,n,o⟩;simp only at d e g i j n ⊢;refine ⟨((true,(x.1,s.2.2)),out++if keep s x=true then [x] else []),?_,⟨g,af d,(λh=>by cases h),?_,by simp at o;omega⟩,?_⟩
  ·rw [rl z,Sc,Ti,TC r,bC i j,Sx,TQ,if_pos rfl,XL,d,Sx,TQ,if_pos rfl];unfold keep UP;obtain ⟨s1,s2,t⟩:=s;obtain ⟨f,u,c,w⟩:=x;simp only [Sx,Tv r (show l.length<=9223372036854775807 by omega)] at e ⊢;have q : ∀ {β:Type} (k:Unit->Option β),gd (CF (BF out.length [(f,(u,(c,w)))].length) 1048576) k=k ():=λk=>cG n (by simp at o;omega) (f,(u,(c,w))) k;cases s1 with
   | true =>
    have y:=e rfl;simp only [Sc,R7,WK,y,q];by_cases p:f=s2
    ·simp [p]
    ·simp only [p,if_false,decide_false];cases t<;>cases c<;>simp [Sc,R7,Il]
   | false =>
    simp only [Sc,R7,q];cases t<;>cases c<;>simp [Sc,R7,Il]
  ·split<;>simp<;>omega
  ·simp only [U6,WJ,cP]
end
section
open Go Sv
theorem cu : ∀ (l:List Tj) (s:Uk) (x:Tj),WJ s (l++[x])=WJ s l++(if keep (U6 s l) x=true then [x] else [])
 | [],s,x=>by
  show (if keep s x=true then [x] else [])++[]=[]++(if keep s x=true then [x] else [])
  rw [gs,ox]
 | y::l,s,x=>by
  show (if keep s y=true then [y] else [])++WJ _ (l++[x])=((if keep s y=true then [y] else [])++WJ _ l)++_
  rw [cu l,cP];rfl
theorem ZK : ∀ (l:List Tj) (s:Uk) (x:Tj),U6 s (l++[x])=(true,(x.1,(U6 s l).2.2))
 | [],s,x=>rfl
 | y::l,s,x=>by simp only [List.cons_append,U6,ZK l]
theorem XI : ∀ (l:List Tj) (s:Uk),(U6 s l).2.2=s.2.2
 | [],s=>rfl
 | y::l,s=>by rw [U6,XI l]
theorem dV : ∀ (l:List Tj) (s:Uk) (x:Tj),Z1 s l->kE x=0->((U6 s l).1=true->SV x.1 (U6 s l).2.1=false)->Z1 s (l++[x])
 | [],s,x,_,a,b=>⟨a,b,trivial⟩
 | y::l,s,x,⟨a,b,c⟩,d,h5=>⟨a,b,dV l _ x c d h5⟩
theorem bU : ∀ (l:List Tj) (s:Uk),Z1 s l->s.2.1.length<=32->(s.1=false->s.2.1=[])->(U6 s l).2.1.length<=32/\((U6 s l).1=false->(U6 s l).2.1=[])
 | [],s,_,h1,h2=>⟨h1,h2⟩
 | y::l,s,⟨a,_,b⟩,_,_=>bU l _ b (af a) (λh=>by cases h)
abbrev s0 (a:Bool):Uk:=(false,([],a))
def Vc (a b:List Tj) (c:Bool) (n:Nat):Xi:=(ZW a b n,(U6 (s0 c) (UB a b n),(WJ (s0 c) (UB a b n),(n:Int))))
def Xw (a b:List Tj):Nat->List Int
 | 0=>[]
 | n+1=>Xw a b n++[(bB a b n:Int)]
theorem Z6 (a b:List Tj) : ∀ n,(Xw a b n).length=n
 | 0=>rfl
 | n+1=>by simp [Xw,Z6 a b n]
theorem YU {S β:Type} {f:S->Option (LR S β)} {r:β} (mk:Nat->S) (a n:Nat) {s:S} (b:s=mk a) (d:a<=n) (e:n<18446744073709551616) (hs : ∀ k,a<=k->k<n->f (mk k)=some (.nx (mk (k+1)))) (c:f (mk n)=some (.dn r)):loop f s=some r:=by
 have h:=Y8 (f:=f) (r:=r) (λk=>mk (a+k)) (n-a) (s:=s) b (by omega) (λk d=>hs (a+k) (by omega) (by omega)) (by show f (mk (a+(n-a)))=_;rw [show a+(n-a)=n by omega];exact c);exact h
theorem aY (l:List Tj) (h:l.length<=100000):WT (l,l)=some true:=by
 unfold WT;simp only [Tq,Tn]
 rw [TQ,if_pos rfl,Zw (l:=l) (σ:=Unit) (s:=(false,0)) (λk _=>(false,(k:Int))) (λ_ _ _=>some (1,((false,(l.length:Int)),()))) () rfl (by omega) (λc=>by
  simp only;rw [re];rfl) (λk x m c _ a b => .inl ⟨(),by
   simp only;rw [rl b,Sc,Ti,TC a,Ti,TC a,Yq,Yq,X6,show Oa x.2.2.2 x.2.2.2=true by unfold Oa;simp,show Hg (Nm true (Nm true (Nm true (Nm true true))))=false from rfl,R7,Tv a (by omega)],rfl⟩),Sx]
 rfl
section
variable {a b:List Tj} (va:VL a) (vb:VL b)
include va vb
theorem Ws {n:Nat} {x:Tj} (c:aJ a b n=some x):UB a b (n+1)=UB a b n++[x]:=by
 show (match aJ a b n with
  | some x=>UB a b n++[x]
  | none=>UB a b n)=_
 rw [c]
theorem XO (d:Bool) : ∀ {n:Nat},n<=a.length+b.length->Z1 (s0 d) (UB a b n)
 | 0,_=>trivial
 | n+1,h=>by
  obtain ⟨x,c,_⟩:=Vx va vb (n:=n) (by omega);rw [Ws va vb c];refine dV _ _ _ (XO d (by omega)) (kB va vb c) λ_ => ?_;cases n with
  | zero=>rename_i f;cases f
  | succ m =>
   obtain ⟨y,e,_⟩:=Vx va vb (n:=m) (by omega);rw [Ws va vb e,ZK];exact gT va vb (by omega) e c
theorem eE (c:Bool) {n:Nat} (h:n<=a.length+b.length):(U6 (s0 c) (UB a b n)).2.1.length<=32/\((U6 (s0 c) (UB a b n)).1=false->(U6 (s0 c) (UB a b n)).2.1=[]) :=
 bU _ _ (XO va vb c h) (by simp) (λ_=>rfl)
theorem qT {n:Nat} (h:n=a.length+b.length):(wk (kx a (pos a b n).1) (kx b (pos a b n).2)).2=true:=by
 obtain ⟨c,hs⟩:=WV va vb (n:=n) (by omega);have d:=c.ia;have e:=c.jb;rw [Zu (a9 (by omega)),Zu (a9 (by omega))];rfl
theorem qU {n:Nat} {x:Tj} (c:aJ a b n=some x):(wk (kx a (pos a b n).1) (kx b (pos a b n).2)).2=false/\wn (kx a (pos a b n).1) (kx b (pos a b n).2)=bB a b n:=by
 unfold aJ at c;unfold bB;cases g:Xv a b (pos a b n).1 (pos a b n).2 with
 | true=>rw [if_pos g] at c;rw [(jS g).1,(jS g).2,XH c];exact ⟨rfl,rfl⟩
 | false=>rw [if_neg (by simp [g])] at c;rw [(jT g).1,(jT g).2,XH c];exact ⟨rfl,rfl⟩
theorem pk:YD [a,b]=some (UB a b (a.length+b.length),(Xw a b (a.length+b.length),0)):=by
 have u:=va.len;have w:=vb.len;unfold YD;rw [Zb va vb,Sx,TQ,if_pos rfl];refine Eq.trans (b:=bd (loop _ (0,[([],false),([],false)])) _) rfl ?_;refine UI (x:=(0,((2,[kx a 0,kx b 0]),()))) (VB (s1:=(1,[kx a 0,([],false)])) (s2:=(2,[kx a 0,kx b 0])) ?_ ?_ rfl) ?_
 ·show bd (UU (a,((0:Nat):Int))) _=_;rw [Xb (by omega)];rfl
 ·show bd (UU (b,((0:Nat):Int))) _=_;rw [Xb (by omega)];rfl
 rw [show ((0:Nat),(((2:Int),[kx a 0,kx b 0]),())).2.1.2=[kx a 0,kx b 0] from rfl,Z3 (Ub _ _) (Ub _ _),Sx]
 refine UI (x:=(0,((UB a b (a.length+b.length),(Xw a b (a.length+b.length),((),([((pos a b (a.length+b.length)).1:Int),((pos a b (a.length+b.length)).2:Int)],Tt (kx a (pos a b (a.length+b.length)).1) (kx b (pos a b (a.length+b.length)).2))))),())))
  (YU (λk=>(UB a b k,(Xw a b k,((),([((pos a b k).1:Int),((pos a b k).2:Int)],Tt (kx a (pos a b k).1) (kx b (pos a b k).2)))))) 0 (a.length+b.length) rfl (by omega) (by omega) (λk _ r => ?_) ?_) rfl
 ·obtain ⟨x,c,_⟩:=Vx va vb (n:=k) r;obtain ⟨j,s⟩:=qU va vb c;obtain ⟨t,hs⟩:=WV va vb (n:=k) (by omega);have h:(UB a b k).length=k:=VF va vb (by omega);have i:=Z6 a b k;simp only;rw [X5 (Ub _ _) (Ub _ _),if_neg (by simp [j]),Sx,TQ,if_pos rfl,s];rw [Ws va vb c];unfold aJ at c;rw [show Xw a b (k+1)=Xw a b k++[(bB a b k:Int)] from rfl];unfold bB;rw [show pos a b (k+1)=if Xv a b (pos a b k).1 (pos a b k).2=true then ((pos a b k).1+1,(pos a b k).2) else ((pos a b k).1,(pos a b k).2+1) from rfl]
  have l : ∀ {β:Type} (y:Tj) (q:Unit->Option β),gd (CF (BF (AS (UB a b k)) (AS [y])) 1048576) q=q ():=λy q=>Ua (by simp only [BF,AS,h,ci,co];omega) q;have o : ∀ {β:Type} (y:Int) (q:Unit->Option β),gd (CF (BF (AS (Xw a b k)) (AS [y])) 1048576) q=q ():=λy q=>Ua (by simp only [BF,AS,i,ci,co];omega) q;cases g:Xv a b (pos a b k).1 (pos a b k).2 with
  | true =>
   rw [if_pos g] at c;obtain ⟨d,_⟩:=jS g;obtain ⟨m,f⟩:=YH (p:=kx a (pos a b k).1) (q:=kx b (pos a b k).2) (k:=kx a ((pos a b k).1+1)) (Ub _ _) (Ub _ _) (Ub _ _) j (by rw [d,XH c];exact aQ va c)
   have e:rk (kx a (pos a b k).1) (kx b (pos a b k).2) (kx a ((pos a b k).1+1))=(kx a ((pos a b k).1+1),kx b (pos a b k).2):=by
    unfold rk;unfold Xv at g;rw [if_pos g]
   rw [e] at f;have hi:=(a8.1 c).1;simp only [if_true];refine (ZA 0 rfl (x:=a) rfl).trans ((ZA 0 rfl (x:=((pos a b k).1:Int)) rfl).trans ((WU _ rfl c).trans ?_));rw [l,o];refine (ZA 0 rfl (x:=((pos a b k).1:Int)) rfl).trans ((ZA 0 rfl (x:=((pos a b k).1:Int)) rfl).trans ((ZA 0 rfl (x:=a) rfl).trans ((ZA 0 rfl (x:=SF .i64 ((pos a b k).1:Int) 1) rfl).trans ?_)));rw [Tu (by omega),Xb (by omega),Sx,f,Sx];rfl
  | false =>
   rw [if_neg (by simp [g])] at c;obtain ⟨d,_⟩:=jT g;obtain ⟨m,f⟩:=YH (p:=kx a (pos a b k).1) (q:=kx b (pos a b k).2) (k:=kx b ((pos a b k).2+1)) (Ub _ _) (Ub _ _) (Ub _ _) j (by rw [d,XH c];exact aQ vb c)
   have e:rk (kx a (pos a b k).1) (kx b (pos a b k).2) (kx b ((pos a b k).2+1))=(kx a (pos a b k).1,kx b ((pos a b k).2+1)):=by
    unfold rk;unfold Xv at g;rw [if_neg (by simp [g])]
   rw [e] at f;have hi:=(a8.1 c).1;simp only [ll,if_false];refine (ZA 1 rfl (x:=b) rfl).trans ((ZA 1 rfl (x:=((pos a b k).2:Int)) rfl).trans ((WU _ rfl c).trans ?_));rw [l,o];refine (ZA 1 rfl (x:=((pos a b k).2:Int)) rfl).trans ((ZA 1 rfl (x:=((pos a b k).2:Int)) rfl).trans ((ZA 1 rfl (x:=b) rfl).trans ((ZA 1 rfl (x:=SF .i64 ((pos a b k).2:Int) 1) rfl).trans ?_)));rw [Tu (by omega),Xb (by omega),Sx,f,Sx];rfl
 ·simp only;rw [X5 (Ub _ _) (Ub _ _),if_pos (qT va vb rfl),Sx,TQ,if_neg (by decide),TQ,if_neg (by decide)]
end
end
section
open Go Sv
theorem gN {β:Type} {out:List Tj} {n:Nat} (h:out.length<=n) (a:n<=20000) (x:Tj) (k:Unit->Option β):gd (CF (BF out.length [x].length) 1048576) k=k ():=cG h a x k
section
variable {a b:List Tj} (va:VL a) (vb:VL b)
include va vb
theorem Xh {n:Nat} (h:n<=a.length+b.length):(UB a b (a.length+b.length)).take n=UB a b n:=eJ va vb (dc _) h
theorem Y6 {n:Nat} {x:Tj} (c:Bool) (d:aJ a b n=some x):U6 (s0 c) (UB a b (n+1))=(true,(x.1,c)):=by
 rw [Ws va vb d,ZK,XI]
theorem eX (c:Bool) {n:Nat} (h:n<=a.length+b.length):XF (Vc a b c n)=some 0:=by
 obtain ⟨e,hs⟩:=WV va vb (n:=n) h;have i:=va.len;have j:=vb.len;have f:=YO (s0 c) (UB a b n);have g:(UB a b n).length=n:=VF va vb h;unfold XF;rw [show (Vc a b c n).1=Zj a b (pos a b n).1 (pos a b n).2 from rfl,ZM va vb e,Sx,TQ,if_pos rfl];refine UI (x:=(0,((2,(n:Int)),()))) (VB (s1:=(1,((pos a b n).1:Int))) (s2:=(2,(n:Int))) ?_ ?_ rfl) ?_
 ·refine (aN 0 rfl rfl (x:=((pos a b n).1:Int)) rfl).trans ?_;show some (LR.nx ((1:Int),SF .i64 0 ((pos a b n).1:Int)))=_;rw [Sh (by omega),ta]
 ·refine (aN 1 rfl rfl (x:=((pos a b n).2:Int)) rfl).trans ?_;show some (LR.nx ((2:Int),SF .i64 ((pos a b n).1:Int) ((pos a b n).2:Int)))=_;rw [Sh (by omega),show ((pos a b n).1:Int)+((pos a b n).2:Int)=(n:Int) by omega]
 simp only [Tq,Tn];rw [show (Vc a b c n).2.2.1=WJ (s0 c) (UB a b n) from rfl,show (Vc a b c n).2.2.2=(n:Int) from rfl,show (Vc a b c n).2.1=U6 (s0 c) (UB a b n) from rfl,TM,if_neg (by omega),TM,if_neg (by omega),TQ,if_pos rfl];rw [show (Zj a b (pos a b n).1 (pos a b n).2).1=[a,b] from rfl,pk va vb,Sx,TQ,if_pos rfl,Ti];rw [Ua (by rw [VF va vb (dc _)];exact h),Ua (lc _)];rw [show D0 (UB a b (a.length+b.length)) 0 n=UB a b n from by unfold D0;rw [vt,l4];exact Xh va vb h,XI];rw [show (s0 c).2.2=c from rfl,gi (by omega) (XO va vb c h),Sx,TQ,if_pos rfl];unfold VY;rw [Sx,TM];cases n with
 | zero =>
  rw [if_neg (by omega),aY _ (by omega),Sx,dw,R7];show br (Hg (Nm (Sv.beq false false) (Nm (seq [] []) (Nm (Sv.beq c c) true)))) _ _=_;rw [X6,X6,Yq];rfl
 | succ m =>
  obtain ⟨x,d,_⟩:=Vx va vb (n:=m) (by omega);rw [if_pos (by omega),show SK .i64 ((m+1:Nat):Int) 1=(m:Int) by rw [Sj (by omega)];omega,Ti];rw [TC (x:=x) (by rw [YW va vb (dc _) (by omega)];exact d),aY _ (by omega),Sx,dw,R7,Y6 va vb c d];rw [X6,X6,Yq];rfl
theorem j8 {n:Nat} (h:n<=a.length+b.length):Xl (ZW a b n)=some (((a.length+b.length-n:Nat):Int),0):=by
 obtain ⟨c,hs⟩:=WV va vb (n:=n) h;have f:=va.len;have g:=vb.len;have d:=c.ia;have e:=c.jb;unfold Xl;rw [show ZW a b n=Zj a b (pos a b n).1 (pos a b n).2 from rfl,ZM va vb c,Sx,TQ,if_pos rfl];refine UI (x:=(0,((2,((a.length+b.length-n:Nat):Int)),()))) (VB (s1:=(1,(a.length:Int)-((pos a b n).1:Int))) (s2:=(2,((a.length+b.length-n:Nat):Int))) ?_ ?_ rfl) rfl
 ·refine (aN 0 rfl rfl (x:=a) rfl).trans ((WU 0 rfl (x:=((pos a b n).1:Int)) rfl).trans ?_);simp only [Tq,Tn];rw [Sj (by omega)];show some (LR.nx ((1:Int),SF .i64 0 ((a.length:Int)-((pos a b n).1:Int))))=_;rw [Sh (by omega),ta]
 ·refine (aN 1 rfl rfl (x:=b) rfl).trans ((WU 1 rfl (x:=((pos a b n).2:Int)) rfl).trans ?_);simp only [Tq,Tn];rw [Sj (by omega)];show some (LR.nx ((2:Int),SF .i64 ((a.length:Int)-((pos a b n).1:Int)) ((b.length:Int)-((pos a b n).2:Int))))=_;rw [Sh (by omega),show (a.length:Int)-((pos a b n).1:Int)+((b.length:Int)-((pos a b n).2:Int))=((a.length+b.length-n:Nat):Int) by omega]
theorem aF (c:Bool) {n:Nat} (h:n<=a.length+b.length):Uc (Vc a b c n)=some (((a.length+b.length-n:Nat):Int),0):=by
 unfold Uc;rw [eX va vb c h,Sx,TQ,if_pos rfl,show (Vc a b c n).1=ZW a b n from rfl,j8 va vb h];rfl
theorem aW (c:Bool) {n:Nat} {x:Tj} (d:aJ a b n=some x):Vc a b c (n+1)=(ZW a b (n+1),((true,(x.1,c)),(WJ (s0 c) (UB a b n)++(if keep (U6 (s0 c) (UB a b n)) x=true then [x] else []),((n+1:Nat):Int)))):=by
 unfold Vc;rw [Ws va vb d,ZK,XI,cu]
theorem Yr (c:Bool) {n:Nat} {x:Tj} (h:n<a.length+b.length) (e:aJ a b n=some x):U9 (U6 (s0 c) (UB a b n),x)=some (keep (U6 (s0 c) (UB a b n)) x,((true,(x.1,c)),0)):=by
 have d:=eE va vb c (n:=n) (by omega);rw [iO d.1 d.2 (kB va vb e),XI];intro g;cases n with
 | zero=>cases g
 | succ m =>
  obtain ⟨y,f,_⟩:=Vx va vb (n:=m) (by omega);rw [Y6 va vb c f];exact gT va vb (by omega) f e
def sc (k:Int) (s:Xi):Int×(Int×(List (List Tj)×(List Int×(List UG×(List Int×(Int×(Bool×(Xe×(Bool×(List Tj×Int)))))))))) :=
 (k,(0,(s.1.1,(s.1.2.1,(s.1.2.2.1,(s.1.2.2.2.1,(s.1.2.2.2.2,(s.2.1.1,(s.2.1.2.1,(s.2.1.2.2,(s.2.2.1,s.2.2.2)))))))))))
theorem bj (c:Bool) {n:Nat} (h:n<=a.length+b.length) {k:Nat}:Ux (Vc a b c n,(k:Int))=some (Vc a b c (n+min k (a.length+b.length-n)),(((min k (a.length+b.length-n):Nat):Int),0)):=by
 have w:=va.len;have z:=vb.len;have d : ∀ m,m<=a.length+b.length->(WJ (s0 c) (UB a b m)).length<=m:=λm s=>by have:=YO (s0 c) (UB a b m);have:=VF va vb s;omega
 obtain ⟨u,t⟩ : ∃ u,u=min k (a.length+b.length-n):=⟨_,rfl⟩
 have i:TX (k:Int) ((a.length+b.length-n:Nat):Int)=(u:Int):=by
  unfold TX;split<;>omega
 rw [<- t];unfold Ux;rw [aF va vb c h,Sx,TQ,if_pos rfl];simp only [i,Tq,Tn];rw [TP,if_neg (by omega),show (Vc a b c n).2.2.2=(n:Int) from rfl,Sh (by omega),TM,if_neg (by omega)];rw [show (Vc a b c n).2.2.1=WJ (s0 c) (UB a b n) from rfl,show (Vc a b c n).1=ZW a b n from rfl,Ua (by have:=d n h;omega),Ua (show (ZW a b n).2.1.length<=1048576 from (show 2<=1048576 by omega)),TP];by_cases r:u=0
 ·rw [r,if_neg (by omega)];rfl
 rw [if_pos (by omega)];obtain ⟨x,o,_⟩:=Vx va vb (n:=n) (by omega);rw [aj va vb (by omega) o,Sx,TQ,if_pos rfl,show (Vc a b c n).2.1=U6 (s0 c) (UB a b n) from rfl,Yr va vb c (by omega) o,Sx,TQ,if_pos rfl]
 have q : ∀ j,1<=j->j<u -> ∃ y,aJ a b (n+j)=some y:=λj f g=>by
  obtain ⟨y,e,_⟩:=Vx va vb (n:=n+j) (by omega);exact ⟨y,e⟩
 rw [TV];have hS:=aW va vb c o;cases p:keep (U6 (s0 c) (UB a b n)) x with
 | true =>
  rw [p] at hS;rw [if_pos rfl,gN (d n h) (by omega)];refine UI (x:=(1,(sc u (Vc a b c (n+u)),()))) (YU (λj=>sc j (Vc a b c (n+j))) 1 u ?_ (by omega) (by omega) (λj f g => ?_) ?_) ?_
  ·rw [hS,show SF .i64 (n:Int) 1=((n+1:Nat):Int) from Tu (by omega)];rfl
  ·obtain ⟨y,e⟩:=q j f g;show br (S8 (j:Int) (u:Int)) _ _=_;rw [TP,if_pos (by omega)];show bd (Uz (ZW a b (n+j))) _=_;rw [aj va vb (by omega) e,Sx,TQ,if_pos rfl];show bd (U9 (U6 (s0 c) (UB a b (n+j)),y)) _=_;rw [Yr va vb c (by omega) e,Sx,TQ,if_pos rfl,TV,show n+(j+1)=n+j+1 by omega,aW va vb c e];cases l:keep (U6 (s0 c) (UB a b (n+j))) y with
   | true =>
    rw [if_pos rfl,if_pos rfl];show gd (CF (BF (AS (WJ (s0 c) (UB a b (n+j)))) (AS [y])) 1048576) _=_;rw [cG (d _ (by omega)) (by omega)];show some (LR.nx (SF .i64 (j:Int) 1,_))=_;unfold sc;simp only [Tu (show j+1<=9223372036854775807 by omega),Il];rw [show SF .i64 (Vc a b c (n+j)).2.2.2 1=((n+j+1:Nat):Int) from Tu (by omega)];rfl
   | false =>
    rw [if_neg (by simp),if_neg (by simp)];show some (LR.nx (SF .i64 (j:Int) 1,_))=_;unfold sc;simp only [Tu (show j+1<=9223372036854775807 by omega)];rw [show SF .i64 (Vc a b c (n+j)).2.2.2 1=((n+j+1:Nat):Int) from Tu (by omega),gs];rfl
  ·show br (S8 (u:Int) (u:Int)) _ _=_;rw [TP,if_neg (by omega)]
  ·rfl
 | false =>
  rw [p] at hS;rw [if_neg (by simp)];refine UI (x:=(1,(sc u (Vc a b c (n+u)),()))) (YU (λj=>sc j (Vc a b c (n+j))) 1 u ?_ (by omega) (by omega) (λj f g => ?_) ?_) ?_
  ·rw [hS,show SF .i64 (n:Int) 1=((n+1:Nat):Int) from Tu (by omega),if_neg (by simp),gs];rfl
  ·obtain ⟨y,e⟩:=q j f g;show br (S8 (j:Int) (u:Int)) _ _=_;rw [TP,if_pos (by omega)];show bd (Uz (ZW a b (n+j))) _=_;rw [aj va vb (by omega) e,Sx,TQ,if_pos rfl];show bd (U9 (U6 (s0 c) (UB a b (n+j)),y)) _=_;rw [Yr va vb c (by omega) e,Sx,TQ,if_pos rfl,TV,show n+(j+1)=n+j+1 by omega,aW va vb c e];cases l:keep (U6 (s0 c) (UB a b (n+j))) y with
   | true =>
    rw [if_pos rfl,if_pos rfl];show gd (CF (BF (AS (WJ (s0 c) (UB a b (n+j)))) (AS [y])) 1048576) _=_;rw [cG (d _ (by omega)) (by omega)];show some (LR.nx (SF .i64 (j:Int) 1,_))=_;unfold sc;simp only [Tu (show j+1<=9223372036854775807 by omega),Il];rw [show SF .i64 (Vc a b c (n+j)).2.2.2 1=((n+j+1:Nat):Int) from Tu (by omega)];rfl
   | false =>
    rw [if_neg (by simp),if_neg (by simp)];show some (LR.nx (SF .i64 (j:Int) 1,_))=_;unfold sc;simp only [Tu (show j+1<=9223372036854775807 by omega)];rw [show SF .i64 (Vc a b c (n+j)).2.2.2 1=((n+j+1:Nat):Int) from Tu (by omega),gs];rfl
  ·show br (S8 (u:Int) (u:Int)) _ _=_;rw [TP,if_neg (by omega)]
  ·rfl
end
end
section
open Go Sv
theorem Wg {α β σ S:Type} {l:List α} (mk:Nat->σ->S) (I:List α->Nat->σ->Prop) (Q:β->Prop) {f:S->Option (LR S β)} {s:S} (a:σ) (t:s=mk 0 a) (z:l.length<=9223372036854775807) (hi:I l 0 a)
  (w : ∀ a,I [] l.length a -> ∃ r,f (mk l.length a)=some (.dn r)/\Q r)
  (hc : ∀ k x m a,l.drop k=x::m->l[k]? = some x->k<l.length->I (x::m) k a->(∃ b,f (mk k a)=some (.nx (mk (k+1) b))/\I m (k+1) b) \/ ∃ r,f (mk k a)=some (.dn r)/\Q r) : ∃ r,loop f s=some r/\Q r:=by
 subst t
 have h : ∀ (m:List α) (k n:Nat) (a:σ),l.drop k=m->k<=l.length->m.length<n->I m k a -> ∃ r,IL n f (mk k a)=some r/\Q r:=by
  intro m
  induction m with
  | nil =>
   intro k n a e u g hi;obtain ⟨n,rfl⟩ : ∃ j,n=j+1:=⟨n-1,by omega⟩
   have o:k=l.length:=by
    have:=congrArg nb e;simp at this;omega
   subst o;obtain ⟨r,c,d⟩:=w a hi;exact ⟨r,UR c,d⟩
  | cons x m y =>
   intro k n a e u g hi;obtain ⟨n,rfl⟩ : ∃ j,n=j+1:=⟨n-1,by omega⟩
   have q:l[k]? = some x:=by
    have:=congrArg xk e;rw [sr] at this;simpa using this
   have i:k<l.length:=(a8.1 q).1
   have p:l.drop (k+1)=m:=by
    have:=congrArg tT e;rw [rY] at this;simpa using this
   rcases hc k x m a e q i hi with ⟨b,c,d⟩ | ⟨r,c,d⟩
   ·rw [UL c];exact y (k+1) n b p (by omega) (by simp at g;omega) d
   ·exact ⟨r,UR c,d⟩
 exact h l 0 _ a (by simp) (by omega) (by omega) hi
theorem YT {α:Type} (l m:List α) (g:l.length=m.length) (j:l.length<=9223372036854775806) {f:(Int×Bool)->Option (LR (Int×Bool) (Nat×((Int×Bool)×Unit)))}
  (hs : ∀ (k:Nat) x y,l[k]? = some x->m[k]? = some y->(x=y->f ((k:Int),false)=some (.nx (((k+1:Nat):Int),false)))/\(x≠y->f ((k:Int),false)=some (.dn (0,(((k:Int),false),())))))
  (d:f ((l.length:Int),false)=some (.dn (1,(((l.length:Int),false),())))) :
  ∃ r,loop f (0,false)=some r/\((l=m/\r.1=1)\/(l≠m/\r.1=0/\r.2.1.2=false)):=by
 refine Wg (l:=l) (σ:=Unit) (λk _=>((k:Int),false)) (λt k _=>t=l.drop k/\l.take k=m.take k) _ () rfl (by omega) ⟨by simp,by simp⟩ (λi h => ?_) (λk x t i hd b n h => ?_)
 ·refine ⟨_,d,.inl ⟨?_,rfl⟩⟩;have:=h.2;rw [yn,g,yn] at this;exact this
 ·have c:k<m.length:=by omega
  have a:m[k]? = some m[k]:=by simp [c]
  by_cases e:x=m[k]
  ·refine .inl ⟨(),(hs k x m[k] b a).1 e,?_,?_⟩
   ·have:=congrArg tT hd;rw [rY] at this;simp at this;exact this.symm
   ·rw [gM,gM,h.2,b,a,e]
  ·refine .inr ⟨_,(hs k x m[k] b a).2 e,.inr ⟨?_,rfl,rfl⟩⟩;intro e2;subst e2;rw [b] at a;exact e (Option.some.inj a)
theorem beq_eq (a b:Bool):Sv.beq a b=decide (a=b):=by cases a<;>cases b<;>rfl
theorem Vw (a b:Int):Oa a b=decide (a=b):=by
 unfold Oa;by_cases h:a=b<;>simp [h]
theorem Yc (p q:Prop) [Decidable p] [Decidable q]:Nm (decide p) (decide q)=decide (p/\q):=by unfold Nm;simp
theorem VC (p:Prop) [Decidable p]:Hg (decide p)=decide (¬ p):=by unfold Hg;simp
theorem Zm (a:Bool):Nm a true=a:=by cases a<;>rfl
theorem gx (l m:List UG) (s:l.length<=9223372036854775806):UF (l,m)=some (decide (l=m)):=by
 unfold UF;simp only [Tq,Tn];rw [TQ];by_cases b:(l.length:Int)=(m.length:Int)
 ·rw [if_pos b];have c:l.length=m.length:=by omega
  obtain ⟨r,p,a⟩:=YT l m c s (f:=λs0=>br (S8 s0.1 (l.length:Int)) (λ_=>R1 s0.1 λt=>ix l t λn=>R1 s0.1 λw=>ix m w λo=>br (Hg (Nm (seq n.1 o.1) (Nm (Sv.beq n.2 o.2) true))) (λ_=>some (.dn ((0,((s0.1,false),()))))) λ_=>some (.nx (SF .i64 s0.1 1,s0.2))) λ_=>some (.dn ((1,(s0,()))))) (λk x y d j=>by
    have i:=(a8.1 d).1
    have g : ∀ {β:Type} (u v:Unit->Option β),br (Hg (Nm (seq x.1 y.1) (Nm (Sv.beq x.2 y.2) true))) u v=if x=y then v () else u ():=by
     intro β u v;rw [Zm,Zh,beq_eq,Yc,VC,VJ];by_cases e:x=y
     ·subst e;simp
     ·rw [if_pos (λh=>e (s9 h.1 h.2)),if_neg e]
    constructor
    ·intro e;simp only;rw [rl i,Sc,Ti,TC d,Ti,TC j,g,if_pos e,Tu (by omega)]
    ·intro e;simp only
     rw [rl i,Sc,Ti,TC d,Ti,TC j,g,if_neg e]) (by simp only;rw [re];rfl)
  refine UI p ?_;rcases a with ⟨e,a⟩ | ⟨e,a,q⟩
  ·rw [Sy,a];simp [e]
  ·rw [Sy,a];simp [e,q]
 ·rw [if_neg b];have : ¬ l=m:=λe=>b (by rw [e]);simp [this]
theorem ZH (l m:List Int) (n:l.length<=9223372036854775806):Tz (l,m)=some (decide (l=m)):=by
 unfold Tz;simp only [Tq,Tn];rw [TQ];by_cases b:(l.length:Int)=(m.length:Int)
 ·rw [if_pos b];have c:l.length=m.length:=by omega
  obtain ⟨r,i,a⟩:=YT l m c n (f:=λs0=>br (S8 s0.1 (l.length:Int)) (λ_=>R1 s0.1 λo=>ix l o λq=>R1 s0.1 λp=>ix m p λs=>br (Ry q s) (λ_=>some (.dn ((0,((s0.1,false),()))))) λ_=>some (.nx (SF .i64 s0.1 1,s0.2))) λ_=>some (.dn ((1,(s0,()))))) (λk x y d h=>by
    have g:=(a8.1 d).1;constructor
    ·intro e;simp only;rw [rl g,Sc,Ti,TC d,Ti,TC h,TQ,if_pos e,Tu (by omega)]
    ·intro e;simp only
     rw [rl g,Sc,Ti,TC d,Ti,TC h,TQ,if_neg e]) (by simp only;rw [re];rfl)
  refine UI i ?_;rcases a with ⟨e,a⟩ | ⟨e,a,j⟩
  ·rw [Sy,a];simp [e]
  ·rw [Sy,a];simp [e,j]
 ·rw [if_neg b];have : ¬ l=m:=λe=>b (by rw [e]);simp [this]
theorem cj {β:Type} (x y:Tj) (u v:Unit->Option β):br (Hg (Nm (seq x.1 y.1) (Nm (seq x.2.1 y.2.1) (Nm (Sv.beq x.2.2.1 y.2.2.1) (Nm (Oa x.2.2.2 y.2.2.2) true))))) u v=if x=y then v () else u ():=by
 rw [Zm,Zh,Zh,beq_eq,Vw,Yc,Yc,Yc,VC,VJ];by_cases e:x=y
 ·subst e;simp
 ·rw [if_pos (λh=>e (s9 h.1 (s9 h.2.1 (s9 h.2.2.1 h.2.2.2)))),if_neg e]
theorem W1 (l m:List Tj) (p:l.length<=9223372036854775806):Ui (l,m)=some (decide (l=m)):=by
 unfold Ui;simp only [Tq,Tn];rw [TQ];by_cases d:(l.length:Int)=(m.length:Int)
 ·rw [if_pos d];have g:l.length=m.length:=by omega
  obtain ⟨r,n,a⟩:=YT l m g p (f:=λs0=>br (S8 s0.1 (l.length:Int)) (λ_=>R1 s0.1 λq=>ix l q λb=>R1 s0.1 λs=>ix m s λc=>br (Hg (Nm (seq b.1 c.1) (Nm (seq b.2.1 c.2.1) (Nm (Sv.beq b.2.2.1 c.2.2.1) (Nm (Oa b.2.2.2 c.2.2.2) true))))) (λ_=>some (.dn ((0,((s0.1,false),()))))) λ_=>some (.nx (SF .i64 s0.1 1,s0.2))) λ_=>some (.dn ((1,(s0,()))))) (λk x y h j=>by
    have i:=(a8.1 h).1;constructor
    ·intro e;simp only;rw [rl i,Sc,Ti,TC h,Ti,TC j,cj,if_pos e,Tu (by omega)]
    ·intro e;simp only
     rw [rl i,Sc,Ti,TC h,Ti,TC j,cj,if_neg e]) (by simp only;rw [re];rfl)
  refine UI n ?_;rcases a with ⟨e,a⟩ | ⟨e,a,o⟩
  ·rw [Sy,a];simp [e]
  ·rw [Sy,a];simp [e,o]
 ·rw [if_neg d];have : ¬ l=m:=λe=>d (by rw [e]);simp [this]
theorem X3 (l m:List Tj) (a:l.length<=9223372036854775806):Us (l,m)=some (decide (l=m)):=by
 unfold Us;rw [W1 l m a];rfl
instance:DecidableEq Tj:=inferInstance
instance:DecidableEq (List Tj):=inferInstance
instance:DecidableEq (List (List Tj)):=inferInstance
instance:DecidableEq UG:=inferInstance
instance:DecidableEq Vz:=inferInstance
instance:DecidableEq Va:=inferInstance
instance:DecidableEq Uk:=inferInstance
instance:DecidableEq Xi:=inferInstance
theorem dF (x y:Xi) (n:x.1.1.length<=1000) (i : ∀ l∈x.1.1,l.length<=1000000) (o:x.1.2.1.length<=1000) (p:x.1.2.2.1.length<=1000) (q:x.1.2.2.2.1.length<=1000) (s:x.2.2.1.length<=1000000):Vy (x,y)=some (decide (x=y)):=by
 obtain ⟨⟨a,E,F,G,M⟩,⟨xs,L,J⟩,I,K⟩:=x;obtain ⟨⟨b,N,P,S,Z⟩,⟨X,Y,O⟩,W,U⟩:=y;simp only at n i o p q s;unfold Vy;simp only [Tq,Tn];rw [TQ];by_cases g:(a.length:Int)=(b.length:Int)
 ·rw [if_pos g];have h:a.length=b.length:=by omega
  obtain ⟨r,z,d⟩:=YT a b h (by omega) (f:=λs0=>br (S8 s0.1 (a.length:Int)) (λ_=>R1 s0.1 λu=>ix a u λC=>R1 s0.1 λw=>ix b w λD=>bd (Us (C,D)) λB=>br (Hg B) (λ_=>some (.dn ((0,((s0.1,false),()))))) λ_=>some (.nx (SF .i64 s0.1 1,s0.2))) λ_=>some (.dn ((1,(s0,()))))) (λk x y c m=>by
    have j:=(a8.1 c).1;have t:=i x (bo c);constructor
    ·intro e;simp only;rw [rl j,Sc,Ti,TC c,Ti,TC m,X3 _ _ (by omega),Sx,VC,VJ,if_neg (by simp [e]),Tu (by omega)]
    ·intro e;simp only
     rw [rl j,Sc,Ti,TC c,Ti,TC m,X3 _ _ (by omega),Sx,VC,VJ,if_pos e]) (by simp only;rw [re];rfl)
  refine UI z ?_;simp only [ZH _ _ (show E.length<=9223372036854775806 by omega),ZH _ _ (show G.length<=9223372036854775806 by omega),gx _ _ (show F.length<=9223372036854775806 by omega),X3 _ _ (show I.length<=9223372036854775806 by omega),Sx,VJ,Vw,Zh,beq_eq,Zm,Yc,Sy];rw [TV];rcases d with ⟨e,d⟩ | ⟨e,d,A⟩
  ·rw [if_neg (show ¬ r.1=0 by omega)]
   repeat' split
   all_goals simp_all
  ·rw [if_pos d,if_neg (show ¬ r.2.1.2=true by simp [A])];simp [e]
 ·rw [if_neg g];have : ¬ a=b:=λe=>g (by rw [e]);simp [this]
end
section
open Go Sv
def kR (a:List Int) (most:Int) (r:UN):Int :=
 if r.1<1\/r.1>1000000 then 7 else if (WL r.2).2≠0 then (WL r.2).2 else if r.2.length=0 then 4 else if (r.2.length:Int)>most then 3 else if r.1∈a then 8 else 0
def ZP (most:Int):Nat->List Int->List UN->Option (Nat×Int)
 | _,_,[]=>none
 | k,ids,r::rs=>if kR ids most r≠0 then some (k,kR ids most r) else ZP most (k+1) (ids++[r.1]) rs
def Uo (B:Int) (i:Nat):Int:=B*2 ^ i
def ZO (B:Int):Nat->List Int->List (List UN)->Option (Nat×(Nat×Int))
 | _,_,[]=>none
 | i,ids,rs::ls=>if rs.length>2 then some (i,(0,3)) else match ZP (Uo B i) 0 ids rs with
  | some (k,e)=>some (i,(k,e))
  | none=>ZO B (i+1) (ids++rs.map (·.1)) ls
def Vb (L:Tl):Int×(Int×Int) :=
 if L.1<1\/L.1>16 then (0,(0,7)) else if L.2.length>12 then (0,(0,3)) else match ZO L.1 0 [] L.2 with
  | some (i,(k,e))=>((i:Int),((k:Int),e))
  | none=>if L.2.getLast? = some [] then (((L.2.length-1:Nat):Int),(0,6)) else (0,(0,0))
theorem gb {most:Int} : ∀ {rs:List UN} {k:Nat} {a:List Int} {c:Nat} {e:Int},ZP most k a rs=some (c,e)->e≠0
 | [],_,_,_,_,h=>by cases h
 | r::rs,k,a,c,e,h=>by
  unfold ZP at h;by_cases b:kR a most r≠0
  ·rw [if_pos b] at h;cases h;exact b
  ·rw [if_neg b] at h;exact gb h
theorem cM {B:Int} : ∀ {ls:List (List UN)} {i:Nat} {a:List Int} {d f:Nat} {e:Int},ZO B i a ls=some (d,(f,e))->e≠0
 | [],_,_,_,_,_,h=>by cases h
 | rs::ls,i,a,d,f,e,h=>by
  unfold ZO at h;by_cases c:rs.length>2
  ·rw [if_pos c] at h;cases h;decide
  ·rw [if_neg c] at h;cases b:ZP (Uo B i) 0 a rs with
   | none=>rw [b] at h;exact cM h
   | some x=>rw [b] at h;cases h;exact gb b
def bI (a:List Int):List (Int×Bool):=a.map λi=>(i,true)
theorem j9 (c:List Int) (i:Int):SO (MU (λa b=>Oa a b) (bI c) i) false=decide (i∈c):=by
 induction c with
 | nil=>rfl
 | cons j c d =>
  show SO (bif Oa i j then some true else MU (λa b=>Oa a b) (bI c) i) false=_
  rw [Vw];by_cases h:i=j
  ·simp [h,SO]
  ·simp only [h,decide_false,cond_false,ey,false_or];exact d
theorem kA {c:List Int} {i:Int} (h:i ∉ c):IT (λa b=>Oa a b) (bI c) i true=bI (c++[i]):=by
 induction c with
 | nil=>rfl
 | cons j c f =>
  show (bif Oa i j then (i,true)::bI c else (j,true)::IT (λa b=>Oa a b) (bI c) i true)=_
  rw [Vw];have d : ¬ i=j:=λe=>h (by simp [e]);rw [f (λe=>h (by simp [e]))];simp only [d,decide_false,cond_false];rfl
theorem cV (r:UN) (b:r.2.length<=9223372036854775807):Xs r=some (if r.1<1\/r.1>1000000 then (-1,7) else WL r.2):=by
 unfold Xs;rw [TP,TM,WM _ b,Sx];by_cases h:r.1<1
 ·rw [if_pos h,if_pos (.inl h)]
 ·rw [if_neg h];by_cases a:r.1>1000000
  ·rw [if_pos a,if_pos (.inr a)]
  ·rw [if_neg a,if_neg (by omega)]
theorem bV (r:UN) (most:Int) (b:r.2.length<=9223372036854775807):Vn (r,most)=some (kR [] most r):=by
 unfold Vn kR;rw [cV r b,Sx];simp only [Tq,Tn];by_cases h:r.1<1\/r.1>1000000
 ·rw [if_pos h,if_pos h];rfl
 ·rw [if_neg h,if_neg h,TQ];by_cases a:(WL r.2).2=0
  ·rw [if_pos a,if_neg (by simp [a]),TK,TM]
   repeat' split
   all_goals first | rfl | (exfalso;omega) | simp_all
  ·rw [if_neg a,if_pos a]
theorem su (a:List Int) (most:Int) (r:UN):kR a most r=if kR [] most r=0 then (if r.1∈a then 8 else 0) else kR [] most r:=by
 unfold kR
 repeat' split
 all_goals simp_all
theorem tH (i:Nat) (h:i<=12):(2:Int) ^ i<=4096/\1<=(2:Int) ^ i:=by
 have a:(2:Nat) ^ i<=2 ^ 12:=Nat.pow_le_pow_right (by omega) h;have b:1<=(2:Nat) ^ i:=Nat.one_le_two_pow;have c:((2 ^ i:Nat):Int)=(2:Int) ^ i:=by simp
 omega
theorem de {B:Int} {i:Nat} (a:1<=B) (b:B<=16) (hi:i<=12):1<=Uo B i/\Uo B i<=65536:=by
 obtain ⟨c,d⟩:=tH i hi;unfold Uo;constructor
 ·have:=Tf a d (by omega) (by omega);omega
 ·have:=Tf b c (by omega) (by omega);omega
theorem ZI {B:Int} {i:Nat} (a:1<=B) (b:B<=16) (hi:i<=12):Rb .i64 B (i:Int)=Uo B i:=by
 have c:=de a b hi;unfold Rb;rw [show min ((i:Int).toNat) IntKind.i64.bits=i by rw [bl];exact ul (Nat.le_trans hi (by decide))];unfold Uo at c ⊢;exact IntWalk.i64_in _ (by omega)
def Q1:Option (Nat×(Nat×Int))->Int->Int->Int->Prop
 | some (i,(k,e)),a,b,c=>a=(k:Int)/\b=(i:Int)/\c=e
 | none,_,_,c=>c=0
def Q2 (m:List (Int×Bool)):Option (Nat×Int)->Nat->Int->Int->List (Int×Bool)->Prop
 | some (k,e),r,a,c,_=>r=0/\a=(k:Int)/\c=e
 | none,r,_,c,m'=>r=1/\c=0/\m'=m
theorem Yn (L:Tl) (hb:L.2.length<=1048576) (hr : ∀ rs∈L.2,rs.length<=1048576 /\ ∀ r∈rs,r.2.length<=9223372036854775807):VW L=some (Vb L):=by
 unfold VW Vb;simp only [Tq,Tn];rw [TP,TM,TM];by_cases z:L.1<1
 ·rw [if_pos z,if_pos (.inl z)]
 rw [if_neg z];by_cases A:L.1>16
 ·rw [if_pos A,if_pos (.inr A)]
 rw [if_neg A,if_neg (show ¬ (L.1<1\/L.1>16) by omega)];by_cases hl:(L.2.length:Int)>12
 ·rw [if_pos hl,if_pos (by omega)]
 rw [if_neg hl,if_neg (by omega)];have hl2:L.2.length<=12:=by omega
 obtain ⟨T,I⟩ : ∃ T,T=ZO L.1 0 [] L.2:=⟨_,rfl⟩;rw [<- I]
 have C : ∀ W:Int,W=0->T=none->(br (Ry W 0) (λ_=>(none:Option (Int×(Int×Int)))) λ_=>br (S6 (L.2.length:Int) 0) (λ_=>R1 (SK .i64 (L.2.length:Int) 1) λO=>ix L.2 O λX=>br (Oa (X.length:Int) 0) (λ_=>some ((SK .i64 (L.2.length:Int) 1,(0,6)))) λ_=>some ((0,(0,0)))) λ_=>some ((0,(0,0))))=some (if L.2.getLast? = some [] then (((L.2.length-1:Nat):Int),(0,6)) else (0,(0,0))):=by
  intro W o _;rw [TQ,if_pos o,TM];by_cases hn:L.2=[]
  ·rw [hn];rfl
  ·have hp:=eb.2 hn;rw [if_pos (by omega),show SK .i64 (L.2.length:Int) 1=((L.2.length-1:Nat):Int) by rw [Sj (by omega)];omega,Ti,pg];have n:L.2[L.2.length-1]? = some (L.2[L.2.length-1]'(by omega)):=by simp
   rw [TC n,n,TK];by_cases N:L.2[L.2.length-1]'(by omega)=[]
   ·rw [N];simp
   ·rw [if_neg (by have:=eb.2 N;omega),if_neg (by simp [N])]
 obtain ⟨r,S,b⟩:=Wg (l:=L.2) (σ:=Int×(Int×List Int)) (λi j=>(j.1,(j.2.1,((0:Int),((i:Int),bI j.2.2)))))
  (λm i j=>ZO L.1 i j.2.2 m=T) (λ(r:Nat×((Int×(Int×(Int×(Int×List (Int×Bool)))))×Unit))=>Q1 T r.2.1.1 r.2.1.2.1 r.2.1.2.2.1)
  (f:=λs0=>br (S8 s0.2.2.2.1 (L.2.length:Int)) (λ_=>R1 s0.2.2.2.1 λk1=>ix L.2 k1 λY=>br (S6 (Y.length:Int) 2) (λ_=>some (.dn ((0,((0,(s0.2.2.2.1,(3,s0.2.2.2))),()))))) λ_=>bd (loop (λa=>br (S8 a.2.1 (Y.length:Int)) (λ_=>R1 a.2.1 λP=>ix Y P λp=>gd (Rx s0.2.2.2.1 0) λ_=>bd (Vn (p,Rb .i64 L.1 s0.2.2.2.1)) λg=>br (Oa g 0) (λ_=>br (SO (MU ((λJ=>(λK=>Oa J K))) a.2.2.2 p.1) false) (λ_=>some (.dn ((0,((a.2.1,(a.2.1,(8,a.2.2.2))),()))))) λ_=>br (Ry g 0) (λ_=>some (.dn ((0,((a.2.1,(a.2.1,(g,a.2.2.2))),()))))) λ_=>some (.nx ((a.2.1,(SF .i64 a.2.1 1,(g,IT ((λM=>(λw=>Oa M w))) a.2.2.2 p.1 true)))))) λ_=>br (Ry g 0) (λ_=>some (.dn ((0,((a.2.1,(a.2.1,(g,a.2.2.2))),()))))) λ_=>some (.nx ((a.2.1,(SF .i64 a.2.1 1,(g,IT ((λx=>(λy=>Oa x y))) a.2.2.2 p.1 true)))))) λ_=>some (.dn ((1,(a,()))))) ((0,(0,(s0.2.2.1,s0.2.2.2.2))))) λd=>br (neq d.1 0) (λ_=>some (.dn ((0,((d.2.1.1,(s0.2.2.2.1,(d.2.1.2.2.1,(s0.2.2.2.1,d.2.1.2.2.2)))),()))))) λ_=>some (.nx ((d.2.1.1,(s0.2.2.2.1,(d.2.1.2.2.1,(SF .i64 s0.2.2.2.1 1,d.2.1.2.2.2))))))) λ_=>some (.dn ((0,(s0,())))))
  (s:=(0,(0,(0,(0,[]))))) (0,(0,[])) rfl (by omega) I.symm (λj h=>by
   refine ⟨_,by simp only;rw [re];rfl,?_⟩;simp only at h ⊢;rw [<- h];exact rfl) (λi rs m j hd n hi h=>by
   obtain ⟨s1,s2,c⟩:=j;simp only at h ⊢;obtain ⟨hrs1,F⟩:=hr rs (bo n);rw [rl hi,Sc,Ti,TC n,TM];unfold ZO at h;by_cases Z:rs.length>2
   ·rw [if_pos (by omega)];rw [if_pos Z] at h;refine .inr ⟨_,rfl,?_⟩;rw [<- h];exact ⟨rfl,rfl,rfl⟩
   rw [if_neg (by omega)];rw [if_neg Z] at h;obtain ⟨U,hU⟩ : ∃ U,U=ZP (Uo L.1 i) 0 c rs:=⟨_,rfl⟩;rw [<- hU] at h
   obtain ⟨r,S,b⟩:=Wg (l:=rs) (σ:=Int) (λk j=>(j,((k:Int),((0:Int),bI (c++(rs.take k).map (·.1))))))
    (λm k _=>ZP (Uo L.1 i) k (c++(rs.take k).map (·.1)) m=U) (λ(r:Nat×((Int×(Int×(Int×List (Int×Bool))))×Unit))=>Q2 (bI (c++rs.map (·.1))) U r.1 r.2.1.1 r.2.1.2.2.1 r.2.1.2.2.2)
    (f:=λa=>br (S8 a.2.1 (rs.length:Int)) (λ_=>R1 a.2.1 λP=>ix rs P λp=>gd (Rx (i:Int) 0) λ_=>bd (Vn (p,Rb .i64 L.1 (i:Int))) λg=>br (Oa g 0) (λ_=>br (SO (MU ((λJ=>(λK=>Oa J K))) a.2.2.2 p.1) false) (λ_=>some (.dn ((0,((a.2.1,(a.2.1,(8,a.2.2.2))),()))))) λ_=>br (Ry g 0) (λ_=>some (.dn ((0,((a.2.1,(a.2.1,(g,a.2.2.2))),()))))) λ_=>some (.nx ((a.2.1,(SF .i64 a.2.1 1,(g,IT ((λM=>(λw=>Oa M w))) a.2.2.2 p.1 true)))))) λ_=>br (Ry g 0) (λ_=>some (.dn ((0,((a.2.1,(a.2.1,(g,a.2.2.2))),()))))) λ_=>some (.nx ((a.2.1,(SF .i64 a.2.1 1,(g,IT ((λx=>(λy=>Oa x y))) a.2.2.2 p.1 true)))))) λ_=>some (.dn ((1,(a,())))))
    (s:=(0,(0,(0,bI c)))) 0 (by simp) (by omega) (by simp [hU]) (λj h=>by
     refine ⟨_,by simp only;rw [re];rfl,?_⟩;rw [<- h];exact ⟨rfl,rfl,by simp⟩) (λk r m j hd n hk h=>by
     simp only at h ⊢;have hr2:=F r (bo n);have G:(rs.take (k+1)).map (·.1)=(rs.take k).map (·.1)++[r.1]:=by rw [gM,n];simp
     rw [rl hk,Sc,Ti,TC n,show gd (Rx (i:Int) 0)=λ(q:Unit->Option (LR (Int×(Int×(Int×List (Int×Bool)))) (Nat×((Int×(Int×(Int×List (Int×Bool))))×Unit))))=>q () from by unfold Rx;simp [gd];rfl,ZI (by omega) (by omega) (by omega)];simp only;rw [bV _ _ (by omega),Sx,TK,j9,TQ];unfold ZP at h;rw [su] at h;by_cases o:kR [] (Uo L.1 i) r=0
     ·rw [if_pos o] at h;rw [if_pos o,if_pos o,VJ];by_cases E:r.1∈c++(rs.take k).map (·.1)
      ·rw [if_pos E];rw [if_pos E,if_pos (by decide)] at h;refine .inr ⟨_,rfl,?_⟩;rw [<- h];exact ⟨rfl,rfl,rfl⟩
      ·rw [if_neg E];rw [if_neg E,if_neg (by decide)] at h;refine .inl ⟨(k:Int),?_,?_⟩
       ·rw [kA E,o,Tv n (by omega),G,cP]
       ·rw [G,<- cP];exact h
     ·rw [if_neg o,if_pos o] at h;rw [if_neg o,if_neg o];refine .inr ⟨_,rfl,?_⟩;rw [<- h]
      exact ⟨rfl,rfl,rfl⟩)
   rw [S,Sx,Sy];cases D:U with
   | some u =>
    obtain ⟨k,e⟩:=u;rw [D] at b h;rw [if_pos b.1];refine .inr ⟨_,rfl,?_⟩;rw [<- h];exact ⟨b.2.1,rfl,b.2.2⟩
   | none =>
    rw [D] at b h;rw [if_neg (show ¬ r.1=0 by have:=b.1;omega)];refine .inl ⟨(r.2.1.1,((i:Int),c++rs.map (·.1))),?_,h⟩
    rw [b.2.1,b.2.2,Tv n (by omega)])
 refine UI S ?_;cases B:T with
 | some t =>
  obtain ⟨i,k,e⟩:=t;rw [B] at b I;rw [TQ,if_neg (by rw [b.2.2];exact cM I.symm),b.1,b.2.1,b.2.2]
 | none =>
  rw [B] at b;have h:=C _ b B;have q3:r.2.1.2.2.1=0:=b;rw [TQ,if_pos q3] at h ⊢;exact h
end
section
open Go Sv
structure VR (most:Int) (r:UN):Prop where
 id1:1<=r.1
 id2:r.1<=1000000
 vl:VL r.2
 ne:r.2≠[]
 le:(r.2.length:Int)<=most
theorem jy {a:List Int} {most:Int} {r:UN}:kR a most r=0<->VR most r/\r.1 ∉ a:=by
 unfold kR;constructor
 ·intro h;by_cases f:r.1<1\/r.1>1000000
  ·rw [if_pos f] at h;cases h
  rw [if_neg f] at h;by_cases b:(WL r.2).2≠0
  ·rw [if_pos b] at h;exact absurd h b
  rw [if_neg b] at h;by_cases c:r.2.length=0
  ·rw [if_pos c] at h;cases h
  rw [if_neg c] at h;by_cases g:(r.2.length:Int)>most
  ·rw [if_pos g] at h;cases h
  rw [if_neg g] at h;by_cases d:r.1∈a
  ·rw [if_pos d] at h;cases h
  exact ⟨⟨by omega,by omega,Z5.1 (by simpa using b),by intro e;rw [e] at c;exact c rfl,by omega⟩,d⟩
 ·rintro ⟨h,d⟩;rw [if_neg (by have:=h.id1;have:=h.id2;omega),if_neg (by simp [Z5.2 h.vl]),if_neg (by have:=eb.2 h.ne;omega),if_neg (by have:=h.le;omega),if_neg d]
def qf (r:UN):Int:=r.1
theorem aE {most:Int} : ∀ {rs:List UN} {k:Nat} {a:List Int},ZP most k a rs=none<->(∀ r∈rs,VR most r/\r.1 ∉ a)/\(rs.map qf).Nodup
 | [],k,a=>by simp [ZP]
 | r::rs,k,a=>by
  unfold ZP;by_cases h:kR a most r=0
  ·rw [if_neg (by simp [h]),aE (rs:=rs)];have f:=jy.1 h;simp only [ey,forall_eq_or_imp,kd,oy,ol,List.not_mem_nil,or_false,o3,not_exists,not_and,not_or];constructor
   ·rintro ⟨b,d⟩;exact ⟨⟨f,λx c=>⟨(b x c).1,(b x c).2.1⟩⟩,λx c e=>(b x c).2.2 e,d⟩
   ·rintro ⟨⟨_,b⟩,d,g⟩;exact ⟨λx c=>⟨(b x c).1,(b x c).2,d x c⟩,g⟩
  ·rw [if_pos h];simp only [reduceCtorEq,false_iff,not_and];intro b;exact absurd (jy.2 (b r (by simp))) h
theorem ZL {B:Int} : ∀ {ls:List (List UN)} {i:Nat} {c:List Int},ZO B i c ls=none<->(∀ k rs,ls[k]? = some rs->rs.length<=2 /\ ∀ r∈rs,VR (Uo B (i+k)) r/\r.1 ∉ c)/\(ls.flatten.map qf).Nodup
 | [],i,c=>by simp [ZO]
 | rs::ls,i,c=>by
  unfold ZO;by_cases h:rs.length>2
  ·rw [if_pos h];simp only [reduceCtorEq,false_iff,not_and];intro j;have:=(j 0 rs rfl).1;omega
  ·rw [if_neg h];cases g:ZP (Uo B i) 0 c rs with
   | some x =>
    simp only [reduceCtorEq,false_iff,not_and];intro j l
    have m:ZP (Uo B i) 0 c rs=none:=aE.2 ⟨(j 0 rs rfl).2,by
     simp only [li,oj] at l
     exact (rz.1 l).1⟩
    rw [g] at m;cases m
   | none =>
    have q:=aE.1 g;simp only;rw [ZL (ls:=ls)];simp only [li,oj,ol,not_or,o3];constructor
    ·rintro ⟨j,l⟩;refine ⟨λk d n => ?_,?_⟩
     ·cases k with
      | zero=>cases n;exact ⟨by omega,q.1⟩
      | succ k =>
       have m:=j k d n
       exact ⟨m.1,λr g=>by
        have:=m.2 r g;rw [show i+(k+1)=i+1+k by omega]
        exact ⟨this.1,this.2.1⟩⟩
     ·rw [rz];refine ⟨q.2,l,?_⟩;intro a s b t e;subst e;obtain ⟨r,g,e1⟩:=o3.1 s;obtain ⟨p,f,e2⟩:=o3.1 t;obtain ⟨d,o,f⟩:=l5.1 f;obtain ⟨k,n⟩:=eo o;exact ((j k d n).2 p f).2.2 ⟨r,g,by unfold qf at e1 e2;omega⟩
    ·rintro ⟨j,l⟩;rw [rz] at l;refine ⟨λk d n => ?_,l.2.1⟩;have m:=j (k+1) d n;refine ⟨m.1,λr g => ?_⟩;have:=m.2 r g;rw [show i+(k+1)=i+1+k by omega] at this;refine ⟨this.1,this.2,?_⟩;rintro ⟨p,f,e⟩;exact l.2.2 (qf p) (l6 f) (qf r) (l6 (l5.2 ⟨d,bo n,g⟩)) e
structure VLev (L:Tl):Prop where
 B1:1<=L.1
 B2:L.1<=16
 len:L.2.length<=12
 lev : ∀ i rs,L.2[i]? = some rs->rs.length<=2 /\ ∀ r∈rs,VR (Uo L.1 i) r
 ids:(L.2.flatten.map qf).Nodup
 last:L.2.getLast? ≠ some []
theorem Xf {L:Tl}:(Vb L).2.2=0<->VLev L:=by
 unfold Vb;constructor
 ·intro h;by_cases c:L.1<1\/L.1>16
  ·rw [if_pos c] at h;cases h
  rw [if_neg c] at h;by_cases d:L.2.length>12
  ·rw [if_pos d] at h;cases h
  rw [if_neg d] at h;cases a:ZO L.1 0 [] L.2 with
  | some x =>
   obtain ⟨i,k,e⟩:=x;rw [a] at h;exact absurd h (cM a)
  | none =>
   rw [a] at h;simp only at h;by_cases f:L.2.getLast? = some []
   ·rw [if_pos f] at h;cases h
   ·have g:=ZL.1 a
    exact ⟨by omega,by omega,by omega,λi rs hi=>by
     have:=g.1 i rs hi;rw [ee] at this
     exact ⟨this.1,λr b=>(this.2 r b).1⟩,g.2,f⟩
 ·intro h
  have a:ZO L.1 0 [] L.2=none:=ZL.2 ⟨λk rs j=>by
   have:=h.lev k rs j;rw [ee]
   exact ⟨this.1,λr b=>⟨this.2 r b,by simp⟩⟩,h.ids⟩
  rw [if_neg (by have:=h.B1;have:=h.B2;omega),if_neg (by have:=h.len;omega),a];simp only;rw [if_neg h.last]
theorem Wa {L:Tl} (h:VLev L):Vb L=(0,(0,0)):=by
 have a:ZO L.1 0 [] L.2=none:=ZL.2 ⟨λk rs b=>by
  have:=h.lev k rs b;rw [ee]
  exact ⟨this.1,λr c=>⟨this.2 r c,by simp⟩⟩,h.ids⟩
 unfold Vb;rw [if_neg (by have:=h.B1;have:=h.B2;omega),if_neg (by have:=h.len;omega),a];simp only;rw [if_neg h.last]
def WZ (l:List (List UN)):Int:=l.foldl (λm rs=>rs.foldl (λm r=>TY m r.1) m) 0
def Tp:Nat->List (List UN)->List Int
 | _,[]=>[]
 | i,rs::ls=>(if rs.length=2 then [(i:Int)] else [])++Tp (i+1) ls
theorem dD (L:Tl) (e:L.2.length<=1048576) (c : ∀ rs∈L.2,rs.length<=1048576):Wo L=some (WZ L.2):=by
 unfold Wo;simp only [Tq,Tn]
 rw [Ut (l:=L.2) (σ:=Int) (s:=((0:Int),(0:Int))) (λi m=>(m,(i:Int))) (λ_ _ _=>True) (λls _ m=>(0,((ls.foldl (λm rs=>rs.foldl (λm r=>TY m r.1) m) m,(L.2.length:Int)),()))) 0 rfl (by omega) trivial (λm _=>by
  simp only;rw [re];rfl) (λi rs ls m hd a hi _=>by
   refine ⟨rs.foldl (λm r=>TY m r.1) m,?_,trivial,rfl⟩;have d:=c rs (bo a);simp only
   rw [rl hi,Sc,Ti,TC a,Ut (l:=rs) (σ:=Int) (s:=((0:Int),m)) (λi m=>((i:Int),m)) (λ_ _ _=>True) (λl _ m=>(0,(((rs.length:Int),l.foldl (λm r=>TY m r.1) m),()))) m rfl (by omega) trivial (λm _=>by
    simp only;rw [re];rfl) (λk r l m hd a b _=>by
     refine ⟨TY m r.1,?_,trivial,rfl⟩;simp only
     rw [rl b,Sc,Ti,TC a,Tv a (by omega)]),Sx,Tv a (by omega)]),Sx]
 rfl
def ZN (L:Tl) (a:List Int) (i:Nat) (j:Job):Bool:=match a[i]? with
 | none=>true
 | some d=>if j.1≠d then true else if j.2.2.1.2.2=true/\j.1≠(L.2.length:Int)-1 then true else match L.2[d.toNat]? with
  | some [r0,r1]=>if j.2.2.2.2<0\/j.2.2.2.2>((r1.2.length+r0.2.length:Nat):Int) then true else decide (Vc r1.2 r0.2 j.2.2.1.2.2 j.2.2.2.2.toNat≠j.2)
  | _=>true
def Wr (L:Tl) (a:List Int):Nat->List Job->Option Nat
 | _,[]=>none
 | i,j::js=>if ZN L a i j=true then some i else Wr L a (i+1) js
def Tk (s:Th):Int×Int :=
 if (Vb s.1).2.2≠0 then (-1,(Vb s.1).2.2) else if s.2.2<1\/s.2.2>1000001 then (-1,7) else if s.2.2<=WZ s.1.2 then (-1,6) else match Wr s.1 (Tp 0 s.1.2) 0 s.2.1 with
  | some i=>((i:Int),6)
  | none=>if s.2.1.length<(Tp 0 s.1.2).length then (-1,4) else (0,0)
theorem Xt : ∀ {ls:List (List UN)} {i k:Nat} {d:Int},(Tp i ls)[k]? = some d -> ∃ n:Nat,d=((i+n:Nat):Int) /\ ∃ e f,ls[n]? = some [e,f]
 | [],i,k,d,h=>by cases h
 | rs::ls,i,k,d,h=>by
  unfold Tp at h;by_cases a:rs.length=2
  ·rw [if_pos a] at h;cases k with
   | zero =>
    simp at h;refine ⟨0,by simp [<- h],?_⟩
    match rs,a with
    | [e,f],_=>exact ⟨e,f,rfl⟩
   | succ k =>
    simp at h;obtain ⟨n,b,c⟩:=Xt h;exact ⟨n+1,by rw [b];congr 1;omega,c⟩
  ·rw [if_neg a] at h;simp at h;obtain ⟨n,b,c⟩:=Xt h;exact ⟨n+1,by rw [b];congr 1;omega,c⟩
theorem VD : ∀ (ls:List (List UN)) (i:Nat),(Tp i ls).length<=ls.length
 | [],i=>dc _
 | rs::ls,i=>by
  have:=VD ls (i+1);unfold Tp;split<;>simp<;>omega
theorem cg {L:Tl} {n:Nat} {a b:UN} (c:Bool) (h:L.2[n]? = some [a,b]) (d:VL a.2) (e:VL b.2):VN (L,((n:Int),c))=some ((n:Int),Vc b.2 a.2 c 0):=by
 unfold VN;simp only;rw [Ti,TC h,TC (x:=b) rfl,TC (x:=a) rfl,gr e d];rfl
theorem bK {a b:List Tj} (va:VL a) (d:VL b) (c:Bool) {n:Nat} (h:n<=a.length+b.length):(Vc a b c n).1.1.length<=1000/\(∀ l∈(Vc a b c n).1.1,l.length<=1000000)/\(Vc a b c n).1.2.1.length<=1000/\(Vc a b c n).1.2.2.1.length<=1000/\(Vc a b c n).1.2.2.2.1.length<=1000/\(Vc a b c n).2.2.1.length<=1000000:=by
 have j:=va.len;have k:=d.len;refine ⟨show 2<=1000 by omega,λl f => ?_,show 2<=1000 by omega,show 2<=1000 by omega,show 2<=1000 by omega,?_⟩
 ·have:l=a\/l=b:=by simpa [Vc,ZW,Zj] using f
  rcases this with e | e<;>subst e<;>omega
 ·have g:=YO (s0 c) (UB a b n);have i:=VF va d h;show (WJ (s0 c) (UB a b n)).length<=_;omega
theorem ss {L:Tl} {n:Nat} {a b:UN} {j:Job} (h:L.2[n]? = some [a,b]) (e:VL a.2) (f:VL b.2) {β:Type} (A B:Option β) :
  (bd (VN (L,((n:Int),j.2.2.1.2.2))) λc=>bd (Uc c.2) λl=>br (S8 j.2.2.2.2 0) (λ_=>A) λ_=>br (S6 j.2.2.2.2 l.1) (λ_=>A) λ_=>bd (Ux (c.2,j.2.2.2.2)) λm=>bd (Vy (m.1,j.2)) λo=>br (Hg o) (λ_=>A) λ_=>B)
  = if j.2.2.2.2<0\/j.2.2.2.2>((b.2.length+a.2.length:Nat):Int) then A else if Vc b.2 a.2 j.2.2.1.2.2 j.2.2.2.2.toNat=j.2 then B else A:=by
 rw [cg _ h e f,Sx,aF f e _ (lc _),Sx,TP,TM,l4];by_cases g:j.2.2.2.2<0
 ·rw [if_pos g,if_pos (.inl g)]
 rw [if_neg g];by_cases i:j.2.2.2.2>((b.2.length+a.2.length:Nat):Int)
 ·rw [if_pos i,if_pos (.inr i)]
 rw [if_neg i,if_neg (show ¬ (j.2.2.2.2<0\/j.2.2.2.2>((b.2.length+a.2.length:Nat):Int)) by omega)];obtain ⟨k,p⟩ : ∃ k:Nat,j.2.2.2.2=(k:Int):=⟨j.2.2.2.2.toNat,by omega⟩;rw [p,bj f e _ (lc _),Sx,l4,ee,ul (by omega),bl];obtain ⟨s1,s2,q,r,s,t⟩:=bK f e j.2.2.1.2.2 (n:=k) (by omega);rw [dF _ _ s1 s2 q r s t,Sx,VC,VJ];by_cases d:Vc b.2 a.2 j.2.2.1.2.2 k=j.2
 ·rw [if_neg (by simp [d]),if_pos d]
 ·rw [if_pos d,if_neg d]
theorem eC (s:Th) (N:s.1.2.length<=1048576) (hr : ∀ rs∈s.1.2,rs.length<=1048576 /\ ∀ r∈rs,r.2.length<=9223372036854775807) (hj:s.2.1.length<=1048576):VM s=some (Tk s):=by
 unfold VM Tk;simp only [Tq,Tn];rw [Yn _ N hr,Sx,TQ];by_cases z:(Vb s.1).2.2=0;rotate_left
 ·rw [if_neg z,if_pos z]
 rw [if_pos z,if_neg (by simp [z]),TP,TM,dD _ N (λrs h=>(hr rs h).1),Sx];have v:=Xf.1 z;by_cases C:s.2.2<1
 ·rw [if_pos C,if_pos (.inl C)]
 rw [if_neg C];by_cases p:s.2.2>1000001
 ·rw [if_pos p,if_pos (.inr p)]
 rw [if_neg p,if_neg (show ¬ (s.2.2<1\/s.2.2>1000001) by omega),TN];by_cases o:s.2.2<=WZ s.1.2
 ·rw [if_pos o,if_pos o]
 rw [if_neg o,if_neg o]
 rw [Ut (l:=s.1.2) (σ:=List Int) (s:=((0:Int),([]:List Int))) (λi m=>((i:Int),m)) (λls i m=>m++Tp i ls=Tp 0 s.1.2) (λ_ _ _=>(0,(((s.1.2.length:Int),Tp 0 s.1.2),()))) [] rfl (by omega) rfl (λm h=>by
  simp only;rw [re,R7,<- h];simp [Tp]) (λi rs ls m hd E hi h=>by
   refine ⟨m++(if rs.length=2 then [(i:Int)] else []),?_,?_,rfl⟩
   ·simp only;rw [rl hi,Sc,Ti,TC E,TK]
    have hm:m.length<=1048575:=by
     have D:=congrArg nb h;have q:=VD s.1.2 0;have u:=v.len;rw [hM] at D;omega
    by_cases D:rs.length=2
    ·rw [if_pos (by omega),if_pos D,Ua (by simp only [BF,AS,ci,co];omega),Tv E (by omega)];rfl
    ·rw [if_neg (by omega),if_neg D,gs,Tv E (by omega)]
   ·rw [cP];exact h),Sx]
 simp only;obtain ⟨a,g⟩ : ∃ a,a=Tp 0 s.1.2:=⟨_,rfl⟩;have hdl:a.length<=12:=by have:=VD s.1.2 0;have:=v.len;rw [g];omega
 rw [<- g];obtain ⟨T,hT⟩ : ∃ T,T=Wr s.1 a 0 s.2.1:=⟨_,rfl⟩;rw [<- hT]
 obtain ⟨r,q1,I⟩:=Wg (l:=s.2.1) (σ:=Unit) (λi _=>((0:Int),((0:Int),(i:Int)))) (λjs i _=>Wr s.1 a i js=T) (λ(r:Nat×((Int×(Int×Int))×Unit))=>(T=none/\r.1=1)\/(∃ i:Nat,T=some i/\r.1=0/\r.2.1.1=6/\r.2.1.2.1=(i:Int)))
  (f:=λb=>br (S8 b.2.2 (s.2.1.length:Int)) (λ_=>R1 b.2.2 λk7=>ix s.2.1 k7 λe=>br (Rx b.2.2 (a.length:Int)) (λ_=>some (.dn ((0,((6,(b.2.2,b.2.2)),()))))) λ_=>R1 b.2.2 λk9=>gd (KJ k9 a.length) λ_=>ix a k9 λx10=>br (Ry e.1 x10) (λ_=>some (.dn ((0,((6,(b.2.2,b.2.2)),()))))) λ_=>br e.2.2.1.2.2 (λ_=>bd (Vm (s.1,e.1)) λP=>br (Hg P) (λ_=>some (.dn ((0,((6,(b.2.2,b.2.2)),()))))) λ_=>bd (VN ((s.1,(e.1,e.2.2.1.2.2)))) λL=>bd (Uc L.2) λS=>br (S8 e.2.2.2.2 0) (λ_=>some (.dn ((0,((6,(b.2.2,b.2.2)),()))))) λ_=>br (S6 e.2.2.2.2 S.1) (λ_=>some (.dn ((0,((6,(b.2.2,b.2.2)),()))))) λ_=>bd (Ux (L.2,e.2.2.2.2)) λU=>bd (Vy (U.1,e.2)) λW=>br (Hg W) (λ_=>some (.dn ((0,((6,(b.2.2,b.2.2)),()))))) λ_=>some (.nx ((b.1,(b.2.1,SF .i64 b.2.2 1))))) λ_=>bd (VN ((s.1,(e.1,e.2.2.1.2.2)))) λM=>bd (Uc M.2) λX=>br (S8 e.2.2.2.2 0) (λ_=>some (.dn ((0,((6,(b.2.2,b.2.2)),()))))) λ_=>br (S6 e.2.2.2.2 X.1) (λ_=>some (.dn ((0,((6,(b.2.2,b.2.2)),()))))) λ_=>bd (Ux (M.2,e.2.2.2.2)) λY=>bd (Vy (Y.1,e.2)) λZ=>br (Hg Z) (λ_=>some (.dn ((0,((6,(b.2.2,b.2.2)),()))))) λ_=>some (.nx ((b.1,(b.2.1,SF .i64 b.2.2 1))))) λ_=>some (.dn ((1,(b,())))))
  (s:=(0,(0,0))) () rfl (by omega) hT.symm (λ_ h=>by
   refine ⟨_,by simp only;rw [re];rfl,.inl ⟨by rw [<- h];rfl,rfl⟩⟩) (λi j js _ hd E hi h=>by
   simp only;rw [rl hi,Sc,Ti,TC E,TL];unfold Wr at h
   have c:ZN s.1 a i j=true -> ∃ r:Nat×((Int×(Int×Int))×Unit),(some (LR.dn ((0,((6,((i:Int),(i:Int))),()))):LR (Int×(Int×Int)) _))=some (.dn r)/\((T=none/\r.1=1)\/(∃ i:Nat,T=some i/\r.1=0/\r.2.1.1=6/\r.2.1.2.1=(i:Int))):=λN=>by
    rw [if_pos N] at h;exact ⟨_,rfl,.inr ⟨i,h.symm,rfl,rfl,rfl⟩⟩
   have x:ZN s.1 a i j=false -> ∃ st':Unit,(some (LR.nx ((0:Int),((0:Int),SF .i64 (i:Int) 1))):Option (LR _ (Nat×((Int×(Int×Int))×Unit))))=some (.nx ((0:Int),((0:Int),((i+1:Nat):Int))))/\Wr s.1 a (i+1) js=T:=λhg=>by
    rw [if_neg (by simp [hg])] at h;exact ⟨(),by rw [Tv E (by omega)],h⟩
   by_cases C:(i:Int)>=(a.length:Int)
   ·rw [if_pos C];exact .inr (c (by unfold ZN;rw [a9 (by omega)]))
   rw [if_neg C,Ti,S3,if_pos (by omega)];have w:a[i]? = some (a[i]'(by omega)):=by simp
   rw [TC w,TQ];obtain ⟨n,O,J,K,y⟩:=Xt (ls:=s.1.2) (i:=0) (k:=i) (d:=a[i]'(by omega)) (by rw [<- g];exact w);rw [ee] at O
   have t:ZN s.1 a i j=(if j.1≠(a[i]'(by omega)) then true else if j.2.2.1.2.2=true/\j.1≠(s.1.2.length:Int)-1 then true else if j.2.2.2.2<0\/j.2.2.2.2>((K.2.length+J.2.length:Nat):Int) then true else decide (Vc K.2 J.2 j.2.2.1.2.2 j.2.2.2.2.toNat≠j.2)):=by
    unfold ZN;rw [w];simp only;rw [O,bl,y]
   by_cases p:j.1=(a[i]'(by omega));rotate_left
   ·rw [if_neg p];exact .inr (c (by rw [t,if_pos p]))
   rw [if_pos p];rw [if_neg (by simp [p])] at t;have F:j.1=(n:Int):=by rw [p,O]
   have hv:=(v.lev n _ y).2;have v0:=(hv J (by simp)).vl;have v1:=(hv K (by simp)).vl;have G:SK .i64 (s.1.2.length:Int) 1=(s.1.2.length:Int)-1:=Sj (by omega);unfold Vm;simp only [Tq,Tn];rw [Sx,G,Vw,VC,VJ,F,ss y v0 v1,TV];rw [F] at t;by_cases o:j.2.2.1.2.2=true/\(n:Int)≠(s.1.2.length:Int)-1
   ·rw [if_pos o.1,if_pos o.2];exact .inr (c (by rw [t,if_pos o]))
   rw [if_neg o] at t
   have D : ∀ {γ:Type} (A B:γ),(if j.2.2.1.2.2=true then if ¬(n:Int)=(s.1.2.length:Int)-1 then A else B else B)=B:=by
    intro γ A B;by_cases q:j.2.2.1.2.2=true
    ·rw [if_pos q,if_neg (λu=>o ⟨q,u⟩)]
    ·rw [if_neg q]
   rw [D];by_cases q:j.2.2.2.2<0\/j.2.2.2.2>((K.2.length+J.2.length:Nat):Int)
   ·rw [if_pos q];exact .inr (c (by rw [t,if_pos q]))
   rw [if_neg q];rw [if_neg q] at t;by_cases u:Vc K.2 J.2 j.2.2.1.2.2 j.2.2.2.2.toNat=j.2
   ·rw [if_pos u];exact .inl (x (by rw [t];simp [u]))
   ·rw [if_neg u]
    exact .inr (c (by rw [t];simp [u])))
 rw [z];refine UI q1 ?_;rw [Sy];rcases I with ⟨I,q3⟩ | ⟨i,I,q3,q4,q5⟩
 ·rw [if_neg (show ¬ r.1=0 by omega),I,TP];simp only;by_cases h7:s.2.1.length<a.length
  ·rw [if_pos (by omega),if_pos h7]
  ·rw [if_neg (by omega),if_neg h7]
 ·rw [if_pos q3,I,q4,q5]
end
section
open Go Sv
theorem Zy (x:Tj):WA x=some (kE x):=by
 unfold WA kE;rw [TM,Tq,Ys];by_cases e:x.1.length>32
 ·rw [if_pos (by omega),if_pos (.inl e)]
 rw [if_neg (by omega),TM,Tq,Ys];by_cases f:x.2.1.length>64
 ·rw [if_pos (by omega),if_pos (.inr f)]
 rw [if_neg (by omega : ¬ (x.2.1.length:Int)>64),if_neg (by omega),TV];by_cases b:x.2.2.1=true
 ·rw [if_pos b,US,WK];by_cases c:x.2.1=[]
  ·rw [if_pos c,if_neg (by simp [c]),TP,TM];by_cases a:x.2.2.2<1
   ·simp [a]
   ·by_cases d:x.2.2.2>1000000000<;>simp [a,d]
  ·rw [if_neg c,if_pos ⟨b,c⟩]
 ·rw [if_neg b,if_neg (by simp [b]),TP,TM];by_cases a:x.2.2.2<1
  ·simp [a]
  ·by_cases d:x.2.2.2>1000000000<;>simp [a,d]
def Vl:List UInt8->List UInt8->Nat
 | x::a,y::b=>if x=y then Vl a b+1 else 0
 | _,_=>0
theorem pI (x y:UInt8):Oa (Tc x) (Tc y)=decide (x=y):=by
 rw [Vw];unfold Tc;by_cases h:x=y
 ·simp [h]
 ·have : ¬ ((x.toNat:Int)=(y.toNat:Int)):=λe=>h (UInt8.toNat_inj.1 (by omega));simp [h,this]
theorem gw (a b:List UInt8) (z:a.length<=9223372036854775806):W7 (a,b)=some (Vl a b:Int):=by
 unfold W7;simp only [Tq,Ys]
 have key : ∀ (m:List UInt8) (k n:Nat),a.drop k=m->k<=a.length->k<=b.length->m.length<n->IL n (λs0=>br (S8 s0 (a.length:Int)) (λ_=>br (S8 s0 (b.length:Int)) (λ_=>R1 s0 λt=>ix a t λw=>R1 s0 λu=>ix b u λy=>br (Oa (Tc w) (Tc y)) (λ_=>some (LR.nx (SF .i64 s0 1))) λ_=>some (.dn ((0,(s0,()))))) λ_=>some (.dn ((0,(s0,()))))) λ_=>some (.dn ((0,(s0,()))))) (k:Int)=some ((0:Nat),(((k+Vl m (b.drop k):Nat):Int),())):=by
  intro m
  induction m with
  | nil =>
   intro k n f r h p;obtain ⟨n,rfl⟩ : ∃ j,n=j+1:=⟨n-1,by omega⟩
   have i:k=a.length:=by
    have:=congrArg nb f;simp at this;omega
   subst i;refine UR ?_;rw [re];simp [R7,Vl]
  | cons x m s =>
   intro k n f r h p;obtain ⟨n,rfl⟩ : ∃ j,n=j+1:=⟨n-1,by omega⟩
   have o:a[k]? = some x:=by
    have:=congrArg xk f;rw [sr] at this;simpa using this
   have c:k<a.length:=(a8.1 o).1
   have l:a.drop (k+1)=m:=by
    have:=congrArg tT f;rw [rY] at this;simpa using this
   by_cases d:k<b.length
   ·have q:b[k]? = some b[k]:=by simp [d]
    rw [vv d];unfold Vl;by_cases e:x=b[k]
    ·rw [if_pos e];refine (UL (s':=((k+1:Nat):Int)) ?_).trans ?_
     ·rw [rl c,Sc,rl d,Sc,Ti,TC o,Ti,TC q,pI,VJ,if_pos e,Tu (by omega)]
     ·rw [s (k+1) n l (by omega) (by omega) (by simp at p;omega),show k+1+Vl m (b.drop (k+1))=k+(Vl m (b.drop (k+1))+1) by omega]
    ·rw [if_neg e];refine UR ?_;rw [rl c,Sc,rl d,Sc,Ti,TC o,Ti,TC q,pI,VJ,if_neg e];simp
   ·have g:k=b.length:=by omega
    refine UR ?_;rw [rl c,Sc,g,re,R7,List.drop_length];simp [Vl]
 refine UI (U3 (n:=a.length+1) (by omega) (key a 0 (a.length+1) (by simp) (by omega) (by omega) (by omega))) ?_;simp
def Zd (a b:Xe):Int:=if SV a b=true then -1 else if a=b then 0 else 1
theorem cq : ∀ (a b:Xe),(Vl a b<=a.length/\Vl a b<=b.length)/\(Vl a b=a.length->Vl a b=b.length->Zd a b=0)/\(Vl a b=a.length->Vl a b≠b.length->Zd a b = -1)/\(Vl a b≠a.length->Vl a b=b.length->Zd a b=1)/\(∀ x y,a[Vl a b]? = some x->b[Vl a b]? = some y->Zd a b=if x.toNat<y.toNat then -1 else 1)
 | [],[]=>by simp [Vl,Zd,Zz]
 | [],y::b=>by simp [Vl,Zd,cW]
 | x::a,[]=>by simp [Vl,Zd,Zz]
 | x::a,y::b=>by
  obtain ⟨⟨o,g⟩,i,j,k,l⟩:=cq a b;by_cases e:x=y
  ·subst e
   have n:Zd (x::a) (x::b)=Zd a b:=by
    unfold Zd;rw [YZ];simp
   have hc:Vl (x::a) (x::b)=Vl a b+1:=by simp [Vl]
   rw [n,hc];refine ⟨⟨by simp;omega,by simp;omega⟩,λu v=>i (by simp at u;omega) (by simp at v;omega),λu v=>j (by simp at u;omega) (by simp at v;omega),λu v=>k (by simp at u;omega) (by simp at v;omega),λp q d f=>l p q (by simpa using d) (by simpa using f)⟩
  ·have hc:Vl (x::a) (y::b)=0:=by simp [Vl,e]
   rw [hc];refine ⟨⟨by omega,by omega⟩,λu=>by simp at u,λu=>by simp at u,λ_ u=>by simp at u,λp q d f => ?_⟩;simp at d f;subst d f;unfold Zd;rw [YZ];have m : ¬ (x::a=y::b):=λh=>e (by injection h);by_cases c:x.toNat<y.toNat
   ·have:x<y:=xl.2 c;simp [this,c]
   ·have : ¬ x<y:=λh=>c (xl.1 h);simp [this,c,e]
theorem jc (a b:Xe) (p:a.length<=1000000000) (q:b.length<=1000000000):Wj (a,b)=some (Zd a b):=by
 obtain ⟨⟨o,i⟩,j,k,l,m⟩:=cq a b;unfold Wj;simp only [Tq,Ys];rw [gw a b (by omega),Sx,TK]
 have n:(if (Vl a b:Int)<(b.length:Int) then (R1 (Vl a b:Int) λc=>ix a c λe=>R1 (Vl a b:Int) λd=>ix b d λf=>br (S8 (Tc e) (Tc f)) (λ_=>some (-1:Int)) λ_=>some 1) else some 1)=(if Vl a b=a.length then (if (Vl a b:Int)<(b.length:Int) then (R1 (Vl a b:Int) λc=>ix a c λe=>R1 (Vl a b:Int) λd=>ix b d λf=>br (S8 (Tc e) (Tc f)) (λ_=>some (-1:Int)) λ_=>some 1) else some 1) else some (Zd a b)):=by
  by_cases u:Vl a b=a.length
  ·rw [if_pos u]
  ·rw [if_neg u];by_cases v:Vl a b=b.length
   ·rw [if_neg (by omega),l u v]
   ·rw [if_pos (by omega),Ti];have g:a[Vl a b]? = some (a[Vl a b]'(by omega)):=by simp
    have h:b[Vl a b]? = some (b[Vl a b]'(by omega)):=by simp
    rw [TC g,Ti,TC h,TP,m _ _ g h];unfold Tc;by_cases w:(a[Vl a b]'(by omega)).toNat<(b[Vl a b]'(by omega)).toNat
    ·rw [if_pos (by omega),if_pos w]
    ·rw [if_neg (by omega),if_neg w]
 by_cases u:Vl a b=a.length
 ·rw [if_pos (by omega),TK];by_cases v:Vl a b=b.length
  ·rw [if_pos (by omega),j u v]
  ·rw [if_neg (by omega),TK,if_pos (by omega),k u v]
 ·rw [if_neg (by omega),TK,if_neg (by omega),TP,n,if_neg u]
theorem gU (a b:Xe):Zd a b>=0<->SV a b=false:=by
 unfold Zd;cases h:SV a b with
 | true=>simp
 | false=>simp;split<;>omega
theorem XN (l:List Tj) (D:l.length<=9223372036854775807):Vi l=some (WL l):=by
 unfold Vi WL;simp only [Tq,Tn];rw [TM];by_cases h:l.length>5000
 ·rw [if_pos (by omega),if_pos h]
 rw [if_neg (by omega),if_neg h];obtain ⟨T,o⟩ : ∃ T,T=Yv none 0 l:=⟨_,rfl⟩;rw [<- o]
 obtain ⟨r,w,j⟩:=Wg (l:=l) (σ:=Unit) (s:=((0:Int),((0:Int),(0:Int)))) (λk _=>((0:Int),((0:Int),(k:Int)))) (λm k _=>Yv (if k=0 then none else (l[k-1]?).map (·.1)) k m=T/\(∀ y,k≠0->l[k-1]? = some y->kE y=0)) (λ(r:Nat×((Int×(Int×Int))×Unit))=>(r.1=1/\T=(0,0))\/(r.1=0/\T=(r.2.1.2.1,r.2.1.1)))
  (f:=λs0=>br (S8 s0.2.2 (l.length:Int)) (λ_=>R1 s0.2.2 λq=>ix l q λA=>bd (WA A) λd=>br (Oa d 0) (λ_=>br (S6 s0.2.2 0) (λ_=>R1 (SK .i64 s0.2.2 1) λt=>ix l t λB=>R1 s0.2.2 λu=>ix l u λC=>bd (Wj (B.1,C.1)) λz=>br (Rx z 0) (λ_=>some (.dn ((0,((6,(s0.2.2,s0.2.2)),()))))) λ_=>br (Ry d 0) (λ_=>some (.dn ((0,((d,(s0.2.2,s0.2.2)),()))))) λ_=>some (.nx ((s0.1,(s0.2.1,SF .i64 s0.2.2 1))))) λ_=>br (Ry d 0) (λ_=>some (.dn ((0,((d,(s0.2.2,s0.2.2)),()))))) λ_=>some (.nx ((s0.1,(s0.2.1,SF .i64 s0.2.2 1))))) λ_=>br (Ry d 0) (λ_=>some (.dn ((0,((d,(s0.2.2,s0.2.2)),()))))) λ_=>some (.nx ((s0.1,(s0.2.1,SF .i64 s0.2.2 1))))) λ_=>some (.dn ((1,(s0,())))))
  () rfl (by omega) ⟨o.symm,λ_ h=>absurd rfl h⟩ (λ_ h=>by
   refine ⟨_,by simp only;rw [re];rfl,.inl ⟨rfl,?_⟩⟩;rw [<- h.1];simp [Yv]) (λk x m _ hd g p h=>by
   simp only;obtain ⟨h,c⟩:=h;rw [rl p,Sc,Ti,TC g,Zy,Sx,TK];unfold Yv at h
   have next:kE x=0->(T=Yv (some x.1) (k+1) m)->Yv (if k+1=0 then none else (l[k+1-1]?).map (·.1)) (k+1) m=T/\(∀ y,k+1≠0->l[k+1-1]? = some y->kE y=0):=λa e=>by
    rw [if_neg (by omega),Nat.add_sub_cancel,g,e];exact ⟨rfl,λy _ i=>by cases i;exact a⟩
   by_cases a:kE x=0
   ·rw [if_pos a,TM];rw [if_neg (by simp [a])] at h;by_cases b:k=0
    ·rw [if_neg (by omega),TQ,if_pos a];rw [if_pos b] at h;exact .inl ⟨(),by rw [Tv g (by omega)],next a h.symm⟩
    ·have i:l[k-1]? = some (l[k-1]'(by omega)):=by rw [eg]
     rw [if_pos (by omega),show SK .i64 (k:Int) 1=((k-1:Nat):Int) by rw [Sj (by omega)];omega,Ti,TC i,Ti,TC g];rw [if_neg b,i] at h;simp only [x9] at h;rw [jc _ _ (by have:=af (c _ b i);omega) (by have:=af a;omega),Sx,TL];by_cases hs:SV (l[k-1]'(by omega)).1 x.1=true
     ·rw [if_neg (λe=>by rw [gU,hs] at e;cases e),TQ,if_pos a];rw [if_pos hs] at h;exact .inl ⟨(),by rw [Tv g (by omega)],next a h.symm⟩
     ·rw [if_pos ((gU _ _).2 (by simpa using hs))];rw [if_neg hs] at h;exact .inr ⟨_,rfl,.inr ⟨rfl,h.symm⟩⟩
   ·rw [if_neg a,TQ,if_neg a];rw [if_pos a] at h
    exact .inr ⟨_,rfl,.inr ⟨rfl,h.symm⟩⟩)
 refine UI w ?_;rw [Sy];rcases j with ⟨j,n⟩ | ⟨j,n⟩
 ·rw [if_neg (show ¬ r.1=0 by omega),n]
 ·rw [if_pos j,n]
theorem pK (p q:UG) (d:WH p) (e:WH q):XB ([p,q],(0,1))=some (w0 p q):=by
 unfold XB w0;refine (WU 0 rfl (x:=p) rfl).trans ((WU 1 rfl (x:=q) rfl).trans ?_);rw [beq_eq,VC,VJ,US,TV];by_cases a:p.2=q.2
 ·rw [if_neg (show ¬ ¬ p.2=q.2 by simp [a]),if_neg (show ¬ p.2≠q.2 by simp [a])];by_cases b:p.2=true
  ·rw [if_pos b,d b,e (a ▸ b)];rfl
  ·rw [if_neg b,US,WK];by_cases c:p.1=q.1
   ·rw [if_pos c,if_neg (by simp [c])];rfl
   ·rw [if_neg c,if_pos c]
 ·rw [if_pos a,if_pos a]
theorem aK (p q:UG) (n:Nat) (k:Int) (h:2<=k) (a:k<=100):NE UC (n+1) ([p,q],k)=some (k-2,0):=by
 show UC (NE UC n) ([p,q],k)=_;unfold UC;show br (Rx k 2) (λ_=>some (SK .i64 k 2,0)) _=_;rw [TL,if_pos h,Sj (by omega)]
theorem ap (p q:UG) (a:WH p) (b:WH q):W9 ([p,q],1)=some (if w0 p q=true then (0,1) else (1,0)):=by
 show UC (NE UC 99) ([p,q],1)=_;unfold UC;show br (Rx (1:Int) 2) (λ_=>some (SK .i64 (1:Int) 2,0)) (λ_=>bd (NE UC (98+1) ([p,q],2)) λc=>bd (NE UC (98+1) ([p,q],3)) _)=_;rw [TL,if_neg (by omega),aK p q 98 2 (by omega) (by omega),Sx,aK p q 98 3 (by omega) (by omega),Sx];show bd (XB ([p,q],(0,1))) _=_;rw [pK p q a b,Sx,TV];cases h:w0 p q<;>rfl
theorem pG (p q:UG) (a:WH p) (c:WH q):Xn [p,q]=some (Tt p q):=by
 unfold Xn;refine Eq.trans (b:=bd (loop _ (1,([p,q],([0,0],0)))) _) rfl ?_;refine UI (x:=(0,((2,([p,q],([0,if w0 p q=true then 1 else 0],0))),()))) (U3 (n:=2) (by omega) ((UL (s':=(2,([p,q],([0,if w0 p q=true then 1 else 0],0)))) ?_).trans (UR rfl))) ?_
 ·show bd (W9 ([p,q],1)) _=_;rw [ap p q a c,Sx];refine (ZA 1 rfl (x:=(0:Int)) rfl).trans ?_;cases h:w0 p q<;>rfl
 ·rw [ap p q a c,Sx];unfold Tt;cases h:w0 p q<;>rfl
theorem iK {l:List UG} (h : ∀ k∈l,WH k) (b:l≠[]) (e:l.length<=32):XW l=some 0:=by
 unfold XW;simp only [Tq,Tn];rw [TK,TM,if_neg (by have:=eb.2 b;omega),if_neg (by omega)]
 rw [Ut (l:=l) (σ:=Unit) (s:=((0:Int),(0:Int))) (λk _=>((k:Int),(0:Int))) (λ_ _ _=>True) (λ_ _ _=>(1,(((l.length:Int),0),()))) () rfl (by omega) trivial (λd _=>by
  simp only;rw [re];rfl) (λk x m d _ a c _=>⟨(),by
   simp only;rw [rl c,Sc,Ti,TC a,TV,Tv a (by omega)];by_cases hd:x.2=true
   ·rw [if_pos hd,Ti,TC a,US,WK,if_pos (h x (bo a) hd)]
   ·rw [if_neg hd],trivial,rfl⟩),Sx]
 rfl
theorem gv (p q:UG) (a:WH p) (b:WH q):Wk [p,q]=some (Tt p q,0):=by
 unfold Wk;rw [iK (by simp [a,b]) (by simp) (by simp),Sx,TQ,if_pos rfl,pG p q a b,Sx]
end
section
open Go Sv
theorem Xd:U0=Ui:=rfl
theorem aq:Xm=Tz:=rfl
theorem eP (l m:List UG) (i:l.length<=9223372036854775806) (j:l.length=m.length) : ∃ r,loop (λs1=>br (S8 s1.1 (l.length:Int)) (λ_=>R1 s1.1 λn=>ix l n λf=>R1 s1.1 λo=>ix m o λg=>br (Hg (Nm (seq f.1 g.1) (Nm (Sv.beq f.2 g.2) true))) (λ_=>some (LR.dn ((0:Nat),((s1.1,false),())))) λ_=>some (.nx (SF .i64 s1.1 1,s1.2))) λ_=>some (.dn ((1,(s1,()))))) ((0:Int),false)=some r/\((l=m/\r.1=1)\/(l≠m/\r.1=0/\r.2.1.2=false)):=by
 refine YT l m j i (λk x y a d => ?_) (by simp only;rw [re];rfl);have c:=(a8.1 a).1
 have b : ∀ {β:Type} (u v:Unit->Option β),br (Hg (Nm (seq x.1 y.1) (Nm (Sv.beq x.2 y.2) true))) u v=if x=y then v () else u ():=by
  intro β u v;rw [Zm,Zh,beq_eq,Yc,VC,VJ];by_cases e:x=y
  ·subst e;simp
  ·rw [if_pos (λh=>e (s9 h.1 h.2)),if_neg e]
 constructor
 ·intro e;simp only;rw [rl c,Sc,Ti,TC a,Ti,TC d,b,if_pos e,Tu (by omega)]
 ·intro e;simp only;rw [rl c,Sc,Ti,TC a,Ti,TC d,b,if_neg e]
theorem au (s t:Vz) (g:s.1.length<=1000) (h:s.2.1.length<=1000):W8 (s,t)=some (decide (s=t)):=by
 obtain ⟨b,d,k⟩:=s;obtain ⟨c,f,l⟩:=t;simp only at g h;unfold W8;simp only [Tq,Tn];rw [TQ];by_cases e1:(b.length:Int)=(c.length:Int);rotate_left
 ·rw [if_neg e1];have : ¬ b=c:=λe=>e1 (by rw [e]);simp [this]
 rw [if_pos e1,TQ];by_cases e2:k=l;rotate_left
 ·rw [if_neg e2];simp [e2]
 rw [if_pos e2,aq,ZH _ _ (by omega),Sx,VC,VJ];by_cases e3:d=f;rotate_left
 ·rw [if_pos e3];simp [e3]
 rw [if_neg (show ¬ ¬ d=f by simp [e3])];obtain ⟨r,i,a⟩:=eP b c (by omega) (by omega);refine UI i ?_;rw [Sy];rcases a with ⟨e,a⟩ | ⟨e,a,j⟩
 ·rw [if_neg (show ¬ r.1=0 by omega)];simp [e,e2,e3]
 ·rw [if_pos a,j];simp [e]
theorem dU (s t:Va) (u:s.1.length<=1000) (g : ∀ l∈s.1,l.length<=1000000) (w:s.2.1.length<=1000) (h:s.2.2.1.length<=1000) (i:s.2.2.2.1.length<=1000):Xp (s,t)=some (decide (s=t)):=by
 obtain ⟨a,n,o⟩:=s;obtain ⟨d,p,q⟩:=t;simp only at u g w h i;unfold Xp;simp only [Tq,Tn];rw [TQ];by_cases e1:(a.length:Int)=(d.length:Int);rotate_left
 ·rw [if_neg e1];have : ¬ a=d:=λe=>e1 (by rw [e]);simp [this]
 rw [if_pos e1,aq,ZH _ _ (by omega),Sx,VC,VJ];by_cases e2:n=p;rotate_left
 ·rw [if_pos e2];simp [e2]
 rw [if_neg (show ¬ ¬ n=p by simp [e2]),au _ _ h i,Sx,VC,VJ];by_cases e3:o=q;rotate_left
 ·rw [if_pos e3];simp [e3]
 rw [if_neg (show ¬ ¬ o=q by simp [e3])]
 obtain ⟨r,C,c⟩:=YT a d (by omega) (by omega) (f:=λs2=>br (S8 s2.1 (a.length:Int)) (λ_=>R1 s2.1 λA=>ix a A λF=>R1 s2.1 λB=>ix d B λG=>bd (U0 (F,G)) λE=>br (Hg E) (λ_=>some (.dn ((0,((s2.1,false),()))))) λ_=>some (.nx (SF .i64 s2.1 1,s2.2))) λ_=>some (.dn ((1,(s2,()))))) (λk x y b m=>by
   have j:=(a8.1 b).1;have z:=g x (bo b);constructor
   ·intro e;simp only;rw [rl j,Sc,Ti,TC b,Ti,TC m,Xd,W1 _ _ (by omega),Sx,VC,VJ,if_neg (by simp [e]),Tu (by omega)]
   ·intro e;simp only
    rw [rl j,Sc,Ti,TC b,Ti,TC m,Xd,W1 _ _ (by omega),Sx,VC,VJ,if_pos e]) (by simp only;rw [re];rfl)
 refine UI C ?_;rw [Sy];rcases c with ⟨e,c⟩ | ⟨e,c,D⟩
 ·rw [if_neg (show ¬ r.1=0 by omega)];simp [e,e2,e3]
 ·rw [if_pos c,D];simp [e]
theorem eQ (x y:Xi) (a:x.1.1.length<=1000) (b : ∀ l∈x.1.1,l.length<=1000000) (c:x.1.2.1.length<=1000) (d:x.1.2.2.1.length<=1000) (e:x.1.2.2.2.1.length<=1000) (f:x.2.2.1.length<=1000000):Uf (x,y)=some (decide (x=y)):=by
 obtain ⟨i,⟨xs,k,h⟩,g,j⟩:=x;obtain ⟨n,⟨q,r,m⟩,p,o⟩:=y;simp only at a b c d e f;unfold Uf;simp only [dU _ _ a b c d e,Xd,W1 _ _ (show g.length<=9223372036854775806 by omega),Sx,VJ,Vw,Zh,beq_eq,Zm,Yc]
 repeat' split
 all_goals simp_all
section
variable {a b:List Tj} (va:VL a) (vb:VL b)
include va vb
theorem Zf:WD [a,b]=some (0,0):=by
 have c:=va.len;have d:=vb.len;unfold WD;refine Eq.trans (b:=bd (loop _ (0,(0,0))) _) rfl ?_;refine UI (x:=(1,((0,(0,2)),()))) (VB (s1:=(0,(0,1))) (s2:=(0,(0,2))) ?_ ?_ rfl) rfl
 ·refine (aN 0 rfl rfl (x:=a) rfl).trans ?_;rw [XN _ (by omega),Yw va,Sx];rfl
 ·refine (aN 1 rfl rfl (x:=b) rfl).trans ?_;rw [XN _ (by omega),Yw vb,Sx];rfl
theorem Yo {i j:Nat} (hi:i<=a.length) (g:j<=b.length):WC ([a,b],[(i:Int),(j:Int)])=some (if i=a.length/\j=b.length then -1 else if Xv a b i j=true then 0 else 1):=by
 have k:=va.len;have l:=vb.len;unfold WC;simp only [Tq,Tn];refine UI (x:=(0,((if i=a.length/\j=b.length then -1 else if Xv a b i j=true then 0 else 1,2),()))) (VB (s1:=(if i=a.length then -1 else 0,1)) (s2:=(if i=a.length/\j=b.length then -1 else if Xv a b i j=true then 0 else 1,2)) ?_ ?_ rfl) rfl
 ·refine (aN 0 rfl rfl (x:=(i:Int)) rfl).trans ((WU 0 rfl (x:=a) rfl).trans ?_);rw [TP];by_cases h:i=a.length
  ·rw [if_neg (by omega),if_pos h];rfl
  ·rw [if_pos (by omega),if_neg h];rfl
 ·refine (aN 1 rfl rfl (x:=(j:Int)) rfl).trans ((WU 1 rfl (x:=b) rfl).trans ?_);rw [TP];by_cases h:j=b.length
  ·rw [if_neg (by omega)];by_cases c:i=a.length
   ·rw [if_pos c,if_pos ⟨c,h⟩];rfl
   ·rw [if_neg c,if_neg (λe=>c e.1)];have d:a[i]? = some (a[i]'(by omega)):=by simp
    rw [gP d (a9 (by omega))];rfl
  ·have f:b[j]? = some (b[j]'(by omega)):=by simp
   rw [if_pos (by omega),TP,if_neg (λe:i=a.length/\j=b.length=>h e.2)];by_cases c:i=a.length
   ·rw [if_pos c,if_pos (by omega),gQ (a9 (by omega)) f];rfl
   ·rw [if_neg c,if_neg (by omega)];have d:a[i]? = some (a[i]'(by omega)):=by simp
    refine (WU 1 rfl (x:=b) rfl).trans ((WU 1 rfl (x:=(j:Int)) rfl).trans ((WU j rfl f).trans ((WU 0 rfl (x:=a) rfl).trans ((WU 0 rfl (x:=(i:Int)) rfl).trans ((WU i rfl d).trans ?_)))));rw [XJ,ac d f];cases hs:SV (b[j]'(by omega)).1 (a[i]'(by omega)).1<;>rfl
theorem Yp {i j:Nat} (hi:i<=a.length) (e:j<=b.length):Vo ([a,b],[(i:Int),(j:Int)])=some (Zj a b i j):=by
 have f:=va.len;have g:=vb.len;unfold Vo;simp only [Tq,Tn];rw [Ua (show [a,b].length<=1048576 from (show 2<=1048576 by omega)),Ua (show [(i:Int),(j:Int)].length<=1048576 from (show 2<=1048576 by omega))];refine UI (x:=(0,((2,[kx a i,kx b j]),()))) (VB (s1:=(1,[kx a i])) (s2:=(2,[kx a i,kx b j])) ?_ ?_ rfl) ?_
 ·refine (aN 0 rfl rfl (x:=(i:Int)) rfl).trans ((WU 0 rfl (x:=a) rfl).trans ?_);rw [Vw,VC,VJ];by_cases h:i=a.length
  ·have c:((i:Int)=(a.length:Int)):=by omega
   rw [if_neg (show ¬ ¬ ((i:Int)=(a.length:Int)) by simp [c]),Zu (a9 (by omega))];simp only [c,decide_true];rfl
  ·have d:a[i]? = some (a[i]'(by omega)):=by simp
   have c : ¬ ((i:Int)=(a.length:Int)):=by omega
   rw [if_pos c];refine (WU 0 rfl (x:=a) rfl).trans ((WU 0 rfl (x:=(i:Int)) rfl).trans ((WU i rfl d).trans ?_));rw [XH d];simp only [c,decide_false];rfl
 ·refine (aN 1 rfl rfl (x:=(j:Int)) rfl).trans ((WU 1 rfl (x:=b) rfl).trans ?_);rw [Vw,VC,VJ];by_cases h:j=b.length
  ·have c:((j:Int)=(b.length:Int)):=by omega
   rw [if_neg (show ¬ ¬ ((j:Int)=(b.length:Int)) by simp [c]),Zu (l:=b) (i:=j) (a9 (by omega))];simp only [c,decide_true];rfl
  ·have d:b[j]? = some (b[j]'(by omega)):=by simp
   have c : ¬ ((j:Int)=(b.length:Int)):=by omega
   rw [if_pos c];refine (WU 1 rfl (x:=b) rfl).trans ((WU 1 rfl (x:=(j:Int)) rfl).trans ((WU j rfl d).trans ?_));rw [XH (l:=b) (i:=j) d];simp only [c,decide_false];rfl
 ·show bd (Wk [kx a i,kx b j]) _=_;rw [gv _ _ (Ub _ _) (Ub _ _)];rfl
theorem gZ {i:Nat} {l:List Tj} (h:i≠0) (hi:i<=l.length) : ∃ x,l[i-1]? = some x:=⟨l[i-1]'(by omega),by simp⟩
theorem aD {i j:Nat} (I:Inv a b i j):WB (Zj a b i j)=some (0,0):=by
 have s:=va.len;have t:=vb.len;have hi:=I.ia;have k:=I.jb;unfold WB;rw [show (Zj a b i j).1=[a,b] from rfl,Zf va vb,Sx,TQ,if_pos rfl];rw [show (Zj a b i j).2.1=[(i:Int),(j:Int)] from rfl,TQ,if_pos (show Ki (AS [(i:Int),(j:Int)])=Ki (AS [a,b]) from rfl)];refine UI (x:=(1,((0,(0,2)),()))) (VB (s1:=(0,(0,1))) (s2:=(0,(0,2))) ?_ ?_ rfl) ?_
 ·refine (aN 0 rfl rfl (x:=(i:Int)) rfl).trans ?_;rw [TP,if_neg (by omega)];refine (WU 0 rfl (x:=(i:Int)) rfl).trans ((WU 0 rfl (x:=a) rfl).trans ?_);rw [TM,if_neg (by simp only [Tq,Tn];omega)];rfl
 ·refine (aN 1 rfl rfl (x:=(j:Int)) rfl).trans ?_;rw [TP,if_neg (by omega)];refine (WU 1 rfl (x:=(j:Int)) rfl).trans ((WU 1 rfl (x:=b) rfl).trans ?_);rw [TM,if_neg (by simp only [Tq,Tn];omega)];rfl
 rw [show neq ((1:Nat),(((0:Int),((0:Int),(2:Int))),())).1 0=false from rfl,R7,Yp va vb hi k,Sx,au (Zj a b i j).2.2 (Zj a b i j).2.2 (show 2<=1000 by omega) (show 2<=1000 by omega),Sx,VC,VJ,if_neg (show ¬ ¬ (Zj a b i j).2.2=(Zj a b i j).2.2 by simp),Yo va vb hi k,Sx];by_cases hd:i=a.length/\j=b.length
 ·rw [if_pos hd];refine UI (x:=(1,((0,(0,0)),()))) (U3 (n:=1) (by omega) (UR ?_)) rfl;rfl
 rw [if_neg hd];cases g:Xv a b i j with
 | true =>
  rw [if_pos rfl]
  have p:i<a.length:=by
   refine nP λh' => ?_;have o:j<b.length:=by omega
   rw [gQ (a9 h') (show b[j]? = some (b[j]'o) by simp)] at g;cases g
  have e:a[i]? = some (a[i]'p):=by simp
  refine UI (x:=(1,((0,(0,2)),()))) (VB (s1:=(0,(0,1))) (s2:=(0,(0,2))) ?_ ?_ rfl) rfl
  ·show br (S8 (0:Int) 2) _ _=_;rw [TP,if_pos (by omega),TL,if_pos (by omega)];refine (WU 0 rfl (x:=(i:Int)) rfl).trans ?_;rw [TK];by_cases f:i=0
   ·rw [if_pos (by omega)];rfl
   ·rw [if_neg (by omega)];obtain ⟨y,d⟩:=gZ va vb (l:=a) f hi;refine (WU 0 rfl (x:=a) rfl).trans ((WU 0 rfl (x:=(i:Int)) rfl).trans ?_);rw [show SK .i64 (i:Int) 1=((i-1:Nat):Int) by rw [Sj (by omega)];omega,Ti,TC d];refine (WU 0 rfl (x:=a) rfl).trans ((WU 0 rfl (x:=(i:Int)) rfl).trans ((WU i rfl e).trans ?_));have c:=va.lt d (show a[i-1+1]? = some _ by rw [show i-1+1=i by omega];exact e);rw [XJ,if_neg (by rw [VH c];simp),WK,if_neg (ZF c)];rfl
  ·show br (S8 (1:Int) 2) _ _=_;rw [TP,if_pos (by omega),TL,if_pos (by omega)];refine (WU 1 rfl (x:=(j:Int)) rfl).trans ?_;rw [TK];by_cases f:j=0
   ·rw [if_pos (by omega)];rfl
   ·rw [if_neg (by omega)];obtain ⟨y,d⟩:=gZ va vb (l:=b) f k;refine (WU 1 rfl (x:=b) rfl).trans ((WU 1 rfl (x:=(j:Int)) rfl).trans ?_);rw [show SK .i64 (j:Int) 1=((j-1:Nat):Int) by rw [Sj (by omega)];omega,Ti,TC d];refine (WU 0 rfl (x:=a) rfl).trans ((WU 0 rfl (x:=(i:Int)) rfl).trans ((WU i rfl e).trans ?_));have c:=I.pb (j-1) (by omega) y _ d e;rw [XJ,if_neg (by rw [VH c];simp),WK,if_neg (ZF c)];rfl
 | false =>
  rw [if_neg (by simp)]
  have h:j<b.length:=by
   refine nP λh' => ?_;have m:i<a.length:=by omega
   rw [gP (show a[i]? = some (a[i]'m) by simp) (a9 h')] at g;cases g
  have e:b[j]? = some (b[j]'h):=by simp
  refine UI (x:=(1,((0,(0,2)),()))) (VB (s1:=(0,(0,1))) (s2:=(0,(0,2))) ?_ ?_ rfl) rfl
  ·show br (S8 (0:Int) 2) _ _=_;rw [TP,if_pos (by omega),TL,if_pos (by omega)];refine (WU 0 rfl (x:=(i:Int)) rfl).trans ?_;rw [TK];by_cases f:i=0
   ·rw [if_pos (by omega)];rfl
   ·rw [if_neg (by omega)];obtain ⟨y,d⟩:=gZ va vb (l:=a) f hi;refine (WU 0 rfl (x:=a) rfl).trans ((WU 0 rfl (x:=(i:Int)) rfl).trans ?_);rw [show SK .i64 (i:Int) 1=((i-1:Nat):Int) by rw [Sj (by omega)];omega,Ti,TC d];refine (WU 1 rfl (x:=b) rfl).trans ((WU 1 rfl (x:=(j:Int)) rfl).trans ((WU j rfl e).trans ?_));have q:=I.pa (i-1) (by omega) y _ d e;rw [XJ,if_neg (by rw [q];simp),WK];by_cases r:y.1=(b[j]'h).1
    ·rw [if_pos r];rfl
    ·rw [if_neg r];rfl
  ·show br (S8 (1:Int) 2) _ _=_;rw [TP,if_pos (by omega),TL,if_pos (by omega)];refine (WU 1 rfl (x:=(j:Int)) rfl).trans ?_;rw [TK];by_cases f:j=0
   ·rw [if_pos (by omega)];rfl
   ·rw [if_neg (by omega)];obtain ⟨y,d⟩:=gZ va vb (l:=b) f k;refine (WU 1 rfl (x:=b) rfl).trans ((WU 1 rfl (x:=(j:Int)) rfl).trans ?_);rw [show SK .i64 (j:Int) 1=((j-1:Nat):Int) by rw [Sj (by omega)];omega,Ti,TC d];refine (WU 1 rfl (x:=b) rfl).trans ((WU 1 rfl (x:=(j:Int)) rfl).trans ((WU j rfl e).trans ?_));have c:=vb.lt d (show b[j-1+1]? = some _ by rw [show j-1+1=j by omega];exact e);rw [XJ,if_neg (by rw [VH c];simp),WK,if_neg (ZF c)];rfl
end
end
section
open Go Sv
section
variable {a b:List Tj} (va:VL a) (vb:VL b)
include va vb
theorem kL {n:Nat} {x:Tj} (h:n<a.length+b.length) (d:aJ a b n=some x):WW (ZW a b n)=some (x,((bB a b n:Int),(ZW a b (n+1),0))):=by
 obtain ⟨i,hs⟩:=WV va vb (n:=n) (by omega);obtain ⟨j,k⟩:=WV va vb (n:=n+1) (by omega);have l:=va.len;have m:=vb.len;have e:=i.ia;have f:=i.jb;unfold WW;rw [show ZW a b n=Zj a b (pos a b n).1 (pos a b n).2 from rfl,aD va vb i,Sx,TQ,if_pos rfl,show (Zj a b (pos a b n).1 (pos a b n).2).1=[a,b] from rfl,show (Zj a b (pos a b n).1 (pos a b n).2).2.1=[((pos a b n).1:Int),((pos a b n).2:Int)] from rfl,Yo va vb e f,Sx,if_neg (λhh:(pos a b n).1=a.length/\(pos a b n).2=b.length=>by omega)];unfold aJ at d;have c:pos a b (n+1)=if Xv a b (pos a b n).1 (pos a b n).2=true then ((pos a b n).1+1,(pos a b n).2) else ((pos a b n).1,(pos a b n).2+1):=rfl
 unfold ZW bB;cases g:Xv a b (pos a b n).1 (pos a b n).2 with
 | true =>
  rw [g,if_pos rfl] at c;rw [g,if_pos rfl] at d;have hi:=(a8.1 d).1;rw [if_pos rfl,TP,if_neg (by omega),Ua (show AS [((pos a b n).1:Int),((pos a b n).2:Int)]<=1048576 from (show 2<=1048576 by omega))];refine (ZA 0 rfl (x:=((pos a b n).1:Int)) rfl).trans ((ZA 0 rfl (x:=((pos a b n).1:Int)) rfl).trans ((WU 0 rfl (x:=a) rfl).trans ((WU 0 rfl (x:=((pos a b n).1:Int)) rfl).trans ((WU _ rfl d).trans ?_))));rw [Tu (by omega),show lset [((pos a b n).1:Int),((pos a b n).2:Int)] 0 (((pos a b n).1+1:Nat):Int)=[(((pos a b n).1+1:Nat):Int),((pos a b n).2:Int)] from rfl,Yp va vb (by omega) f,Sx,c];rfl
 | false =>
  rw [g,if_neg (by simp)] at c;rw [g,if_neg (by simp)] at d;have hi:=(a8.1 d).1;rw [if_neg (by simp),TP,if_neg (by omega),Ua (show AS [((pos a b n).1:Int),((pos a b n).2:Int)]<=1048576 from (show 2<=1048576 by omega))];refine (ZA 1 rfl (x:=((pos a b n).2:Int)) rfl).trans ((ZA 1 rfl (x:=((pos a b n).2:Int)) rfl).trans ((WU 1 rfl (x:=b) rfl).trans ((WU 1 rfl (x:=((pos a b n).2:Int)) rfl).trans ((WU _ rfl d).trans ?_))));rw [Tu (by omega),show lset [((pos a b n).1:Int),((pos a b n).2:Int)] 1 (((pos a b n).2+1:Nat):Int)=[((pos a b n).1:Int),(((pos a b n).2+1:Nat):Int)] from rfl,Yp va vb e (by omega),Sx,c];rfl
theorem kK {n:Nat} (h:n<=a.length+b.length):Xo (ZW a b n)=some (((a.length+b.length-n:Nat):Int),0):=by
 obtain ⟨c,hs⟩:=WV va vb (n:=n) h;have f:=va.len;have g:=vb.len;have d:=c.ia;have e:=c.jb;unfold Xo;rw [show ZW a b n=Zj a b (pos a b n).1 (pos a b n).2 from rfl,aD va vb c,Sx,TQ,if_pos rfl];refine UI (x:=(0,((2,((a.length+b.length-n:Nat):Int)),()))) (VB (s1:=(1,(a.length:Int)-((pos a b n).1:Int))) (s2:=(2,((a.length+b.length-n:Nat):Int))) ?_ ?_ rfl) rfl
 ·refine (aN 0 rfl rfl (x:=a) rfl).trans ((WU 0 rfl (x:=((pos a b n).1:Int)) rfl).trans ?_);simp only [Tq,Tn];rw [show SF .i64 (0:Int) (a.length:Int)=(a.length:Int) by rw [Sh (by omega),ta],Sj (by omega)];rfl
 ·refine (aN 1 rfl rfl (x:=b) rfl).trans ((WU 1 rfl (x:=((pos a b n).2:Int)) rfl).trans ?_);simp only [Tq,Tn];show some (LR.nx ((2:Int),SK .i64 (SF .i64 ((a.length:Int)-((pos a b n).1:Int)) (b.length:Int)) ((pos a b n).2:Int)))=_;rw [Sh (by omega),Sj (by omega),show (a.length:Int)-((pos a b n).1:Int)+(b.length:Int)-((pos a b n).2:Int)=((a.length+b.length-n:Nat):Int) by omega]
theorem gW:Ww [a,b]=some (UB a b (a.length+b.length),(Xw a b (a.length+b.length),0)):=by
 have l:=va.len;have m:=vb.len;unfold Ww;rw [Zf va vb,Sx,TQ,if_pos rfl];refine Eq.trans (b:=bd (loop _ ([],([],([],(0,([],[0,0])))))) _) rfl ?_
 refine UI (x:=(0,((Xw a b (a.length+b.length),(UB a b (a.length+b.length),0)),())))
  (YU (λk=>([],(UB a b k,([],(0,(Xw a b k,[((pos a b k).1:Int),((pos a b k).2:Int)])))))) 0 (a.length+b.length) rfl (by omega) (by omega) (λk _ j => ?_) ?_) rfl
 ·obtain ⟨x,c,_⟩:=Vx va vb (n:=k) j;obtain ⟨d,hs⟩:=WV va vb (n:=k) (by omega);have e:(UB a b k).length=k:=VF va vb (by omega);have f:=Z6 a b k;simp only;rw [Yo va vb d.ia d.jb,Sx,if_neg (λhh:(pos a b k).1=a.length/\(pos a b k).2=b.length=>by omega)];rw [Ws va vb c];unfold aJ at c;rw [show Xw a b (k+1)=Xw a b k++[(bB a b k:Int)] from rfl];unfold bB;rw [show pos a b (k+1)=if Xv a b (pos a b k).1 (pos a b k).2=true then ((pos a b k).1+1,(pos a b k).2) else ((pos a b k).1,(pos a b k).2+1) from rfl]
  have h : ∀ {β:Type} (y:Tj) (q:Unit->Option β),gd (CF (BF (AS (UB a b k)) (AS [y])) 1048576) q=q ():=λy q=>Ua (by simp only [BF,AS,e,ci,co];omega) q;have i : ∀ {β:Type} (y:Int) (q:Unit->Option β),gd (CF (BF (AS (Xw a b k)) (AS [y])) 1048576) q=q ():=λy q=>Ua (by simp only [BF,AS,f,ci,co];omega) q;cases g:Xv a b (pos a b k).1 (pos a b k).2 with
  | true =>
   rw [g,if_pos rfl] at c;have hi:=(a8.1 c).1;simp only [if_true];rw [TP,if_neg (by omega)];refine (WU 0 rfl (x:=a) rfl).trans ((ZA 0 rfl (x:=((pos a b k).1:Int)) rfl).trans ((WU _ rfl c).trans ?_));rw [h,i];refine (ZA 0 rfl (x:=((pos a b k).1:Int)) rfl).trans ((ZA 0 rfl (x:=((pos a b k).1:Int)) rfl).trans ?_);rw [Tu (by omega)];rfl
  | false =>
   rw [g,if_neg (by simp)] at c;have hi:=(a8.1 c).1;simp only [ll,if_false];rw [TP,if_neg (by omega)];refine (WU 1 rfl (x:=b) rfl).trans ((ZA 1 rfl (x:=((pos a b k).2:Int)) rfl).trans ((WU _ rfl c).trans ?_));rw [h,i];refine (ZA 1 rfl (x:=((pos a b k).2:Int)) rfl).trans ((ZA 1 rfl (x:=((pos a b k).2:Int)) rfl).trans ?_);rw [Tu (by omega)];rfl
 ·obtain ⟨d,hs⟩:=WV va vb (n:=a.length+b.length) (dc _);simp only;rw [Yo va vb d.ia d.jb,Sx,if_pos (show (pos a b (a.length+b.length)).1=a.length/\(pos a b (a.length+b.length)).2=b.length by have:=d.ia;have:=d.jb;omega),TP,if_pos (by omega)]
end
theorem dY {s:Uk} (b:s.2.1.length<=32) (a:s.1=false->s.2.1=[]):XX s=some 0:=by
 unfold XX;rw [TM,if_neg (by simp only [Tq,Ys];omega),US,TV];cases h:s.1 with
 | true=>rfl
 | false=>rw [if_neg (by simp),US,WK,if_pos (a h)]
theorem eU {s:Uk} {x:Tj} (e:s.2.1.length<=32) (f:s.1=false->s.2.1=[]) (g:kE x=0) (a:s.1=true->SV x.1 s.2.1=false):Xq (s,x)=some (keep s x,((true,(x.1,s.2.2)),0)):=by
 unfold Xq keep;rw [dY e f,Sx,TK,if_pos rfl,Zy,g,Sx,TK,if_pos rfl];obtain ⟨s1,s2,c⟩:=s;obtain ⟨h,i,d,j⟩:=x;simp only at a ⊢;cases s1 with
 | true =>
  have:=a rfl;simp only [Sc,XJ,this,ll,if_false,TQ,if_true,US,WK];by_cases b:h=s2
  ·simp [b,R7]
  ·simp only [b,if_false,decide_false];cases c<;>cases d<;>rfl
 | false =>
  simp only [R7,TQ,if_true,US];cases c<;>cases d<;>rfl
theorem eL {l:List Tj} {b:Bool} (t:l.length<=20000) (r:Z1 (false,([],b)) l):XC (l,b)=some (WJ (false,([],b)) l,(0,0)):=by
 unfold XC Vp;simp only [Tq,Tn];rw [TM,if_neg (by omega),Sx]
 rw [Ut (l:=l) (σ:=Uk×List Tj) (s:=(0,(0,([],([],(0,(false,([],b)))))))) (λk a=>((0:Int),((k:Int),(([]:List Tj),(a.2,((0:Int),a.1))))))
  (λm k a=>Z1 a.1 m/\a.1.2.1.length<=32/\(a.1.1=false->a.1.2.1=[])/\a.2.length<=k/\k+m.length=l.length)
  (λm k a=>(1,((0,((l.length:Int),([],(a.2++WJ a.1 m,(0,U6 a.1 m))))),()))) ((false,([],b)),[]) rfl (by omega) ⟨r,by simp,λ_=>rfl,by simp,by simp⟩ ?_ ?_,Sx]
 ·simp;rfl
 ·intro a _;simp only;rw [re,R7];simp [U6,WJ]
 ·rintro k x m ⟨s,out⟩ u d p ⟨⟨c,e,f⟩,g,i,j,n⟩;simp only at c e f g i j ⊢;refine ⟨((true,(x.1,s.2.2)),out++if keep s x=true then [x] else []),?_,⟨f,af c,(λh=>by cases h),?_,by simp at n;omega⟩,?_⟩
  ·rw [rl p,Sc,Ti,TC d,eU g i c e,Sx,TQ,if_pos rfl,TV,Ti,TC d];have o : ∀ {β:Type} (k:Unit->Option β),gd (CF (BF out.length [x].length) 1048576) k=k ():=λk=>gN j (by simp at n;omega) x k;rw [o,Tv d (show l.length<=9223372036854775807 by omega)];cases q:keep s x<;>simp [Il]
  ·split<;>simp<;>omega
  ·simp only [U6,WJ,cP]
section
variable {a b:List Tj} (va:VL a) (vb:VL b)
include va vb
theorem bL (c:Bool) {n:Nat} (h:n<=a.length+b.length):Vu (UB a b n,c)=some (WJ (s0 c) (UB a b n),U6 (s0 c) (UB a b n)):=by
 have f:=va.len;have g:=vb.len;have d:(UB a b n).length=n:=VF va vb h;unfold Vu;simp only [Tq,Tn];rw [eL (by omega) (XO va vb c h),Sx];unfold Vp;rw [Sx,TM,d];cases n with
 | zero=>rw [if_neg (by omega)];rfl
 | succ m =>
  obtain ⟨x,e,_⟩:=Vx va vb (n:=m) (by omega);rw [if_pos (by omega),show SK .i64 ((m+1:Nat):Int) 1=(m:Int) by rw [Sj (by omega)];omega,Ti,TC (x:=x) (by rw [YW va vb h (by omega)];exact e),Y6 va vb c e]
theorem dX (c:Bool) {n:Nat} (h:n<=a.length+b.length):WX (Vc a b c n)=some (n:Int):=by
 obtain ⟨d,hs⟩:=WV va vb (n:=n) h;have e:=va.len;have f:=vb.len;unfold WX;refine UI (x:=(0,(((n:Int),2),()))) (VB (s1:=(((pos a b n).1:Int),1)) (s2:=((n:Int),2)) ?_ ?_ rfl) rfl
 ·refine (aN 0 rfl rfl (x:=((pos a b n).1:Int)) rfl).trans ?_;show some (LR.nx (SF .i64 0 ((pos a b n).1:Int),(1:Int)))=_;rw [Sh (by omega),ta]
 ·refine (aN 1 rfl rfl (x:=((pos a b n).2:Int)) rfl).trans ?_;show some (LR.nx (SF .i64 ((pos a b n).1:Int) ((pos a b n).2:Int),(2:Int)))=_;rw [Sh (by omega),show ((pos a b n).1:Int)+((pos a b n).2:Int)=(n:Int) by omega]
theorem da (c:Bool) {n:Nat} (h:n<=a.length+b.length):XZ (Vc a b c n)=some 0:=by
 obtain ⟨d,hs⟩:=WV va vb (n:=n) h;have g:=va.len;have i:=vb.len;have e:=YO (s0 c) (UB a b n);have f:(UB a b n).length=n:=VF va vb h;unfold XZ;rw [show (Vc a b c n).1=Zj a b (pos a b n).1 (pos a b n).2 from rfl,aD va vb d,Sx,TQ,if_pos rfl,dX va vb c h,Sx];simp only [Tq,Tn];rw [show (Vc a b c n).2.2.1=WJ (s0 c) (UB a b n) from rfl,show (Vc a b c n).2.2.2=(n:Int) from rfl,show (Vc a b c n).2.1=U6 (s0 c) (UB a b n) from rfl,TM,if_neg (by omega),TM,if_neg (by omega),TQ,if_pos rfl];rw [show (Zj a b (pos a b n).1 (pos a b n).2).1=[a,b] from rfl,gW va vb,Sx,Ti];rw [Ua (by rw [VF va vb (dc _)];exact h),Ua (lc _)];rw [show D0 (UB a b (a.length+b.length)) 0 n=UB a b n from by unfold D0;rw [vt,l4];exact Xh va vb h,XI];rw [show (s0 c).2.2=c from rfl,bL va vb c h,Sx,Xd,W1 _ _ (by omega),Sx,VC,VJ,if_neg (by simp),XI,X6,X6,Yq];rfl
theorem Zg (c:Bool) {n:Nat} (h:n<=a.length+b.length):UQ (Vc a b c n)=some (((a.length+b.length-n:Nat):Int),0):=by
 unfold UQ;rw [da va vb c h,Sx,TQ,if_pos rfl,show (Vc a b c n).1=ZW a b n from rfl,kK va vb h];rfl
theorem bA (c:Bool) {n:Nat} (h:n<=a.length+b.length) {k:Nat}:UJ (Vc a b c n,(k:Int))=some (Vc a b c (n+min k (a.length+b.length-n)),(((min k (a.length+b.length-n):Nat):Int),0)):=by
 have i:=va.len;have l:=vb.len;obtain ⟨u,e⟩ : ∃ u,u=min k (a.length+b.length-n):=⟨_,rfl⟩
 have d:TX (k:Int) ((a.length+b.length-n:Nat):Int)=(u:Int):=by
  unfold TX;split<;>omega
 rw [<- e];unfold UJ;rw [Zg va vb c h,Sx,TK,if_pos rfl];simp only [d,Tq,Tn];rw [TP,if_neg (by omega),TQ,if_pos rfl,dX va vb c h,Sx,Sh (by omega),TM,if_neg (by omega)]
 refine UI (x:=(0,(((u:Int),((ZW a b (n+u)).1,((ZW a b (n+u)).2.1,((ZW a b (n+u)).2.2.1,((ZW a b (n+u)).2.2.2.1,((ZW a b (n+u)).2.2.2.2,((Vc a b c n).2.1.1,((Vc a b c n).2.1.2.1,((Vc a b c n).2.1.2.2,(Vc a b c n).2.2))))))))),())))
  (YU (λj=>((j:Int),((ZW a b (n+j)).1,((ZW a b (n+j)).2.1,((ZW a b (n+j)).2.2.1,((ZW a b (n+j)).2.2.2.1,((ZW a b (n+j)).2.2.2.2,((Vc a b c n).2.1.1,((Vc a b c n).2.1.2.1,((Vc a b c n).2.1.2.2,(Vc a b c n).2.2)))))))))) 0 u rfl (by omega) (by omega) (λj _ g => ?_) ?_) ?_
 ·obtain ⟨y,f,_⟩:=Vx va vb (n:=n+j) (by omega);show br (S8 (j:Int) (u:Int)) _ _=_;rw [TP,if_pos (by omega)];show bd (WW (ZW a b (n+j))) _=_;rw [kL va vb (by omega) f,Sx,Tu (by omega)];rfl
 ·show br (S8 (u:Int) (u:Int)) _ _=_;rw [TP,if_neg (by omega)]
 ·rw [show (Vc a b c n).1.1=[a,b] from rfl,gW va vb,Sx,show (Vc a b c n).2.2.2=(n:Int) from rfl,show SF .i64 (n:Int) (u:Int)=((n+u:Nat):Int) by rw [Sh (by omega)];omega,Ti];rw [Ua (by rw [VF va vb (dc _)];omega),Ua (lc _)];rw [show D0 (UB a b (a.length+b.length)) 0 (n+u)=UB a b (n+u) from by unfold D0;rw [vt,l4];exact Xh va vb (by omega),show (Vc a b c n).2.1.2.2=c from XI _ _,bL va vb c (by omega),Sx];rfl
end
end
section
open Go Sv
theorem bh (B:Int) (i:Nat):Uo B (i+1)=2*Uo B i:=by
 unfold Uo;rw [Int.pow_succ,<- Int.mul_assoc,Int.mul_comm]
theorem dZ {B:Int} {i:Nat} (a:1<=B) (b:B<=16) (hi:i<=12):V1 (B,(i:Int))=some (Uo B i):=by
 unfold V1;refine UI (x:=(0,((Uo B i,(i:Int)),()))) (Y8 (λk=>(Uo B k,(k:Int))) i (by simp [Uo]) (by omega) (λk d => ?_) ?_) rfl
 ·have c:=de a b (show k<=12 by omega);simp only;rw [TP,if_pos (by omega),Si (by omega),Tu (by omega),bh]
 ·simp only;rw [TP,if_neg (by omega)]
theorem p9 (r:UN) (b:r.2.length<=9223372036854775807):XV r=some (if r.1<1\/r.1>1000000 then (-1,7) else WL r.2):=by
 unfold XV;rw [TP,TM,XN _ b,Sx];by_cases h:r.1<1
 ·rw [if_pos h,if_pos (.inl h)]
 ·rw [if_neg h];by_cases a:r.1>1000000
  ·rw [if_pos a,if_pos (.inr a)]
  ·rw [if_neg a,if_neg (by omega)]
theorem kT (r:UN) (most:Int) (a:List Int) (y:r.2.length<=9223372036854775807) (hi:a.length<=1048576):WY (r,(most,a))=some (kR a most r):=by
 unfold WY kR;rw [p9 r (by omega),Sx];simp only [Tq,Tn];by_cases h:r.1<1\/r.1>1000000
 ·rw [if_pos h,if_pos h];rfl
 rw [if_neg h,if_neg h,TQ];by_cases b:(WL r.2).2=0;rotate_left
 ·rw [if_neg b,if_pos b]
 rw [if_pos b,if_neg (show ¬ (WL r.2).2≠0 by simp [b]),TK,TM];by_cases i:r.2.length=0
 ·rw [if_pos (by omega),if_pos i]
 rw [if_neg (by omega),if_neg i];by_cases c:(r.2.length:Int)>most
 ·rw [if_pos c,if_pos c]
 rw [if_neg c,if_neg c]
 obtain ⟨q,p,d⟩:=Wg (l:=a) (σ:=Unit) (s:=((0:Int),(0:Int))) (λk _=>((k:Int),(0:Int))) (λm k _=>r.1∈a<->r.1∈m) (λ(q:Nat×((Int×Int)×Unit))=>(q.1=1/\r.1 ∉ a)\/(q.1=0/\r.1∈a/\q.2.1.2=8))
  (f:=λs1=>br (S8 s1.1 (a.length:Int)) (λ_=>R1 s1.1 λo=>ix a o λw=>br (Oa w r.1) (λ_=>some (.dn ((0,((s1.1,8),()))))) λ_=>some (.nx (SF .i64 s1.1 1,s1.2))) λ_=>some (.dn ((1,(s1,())))))
  () rfl (by omega) Iff.rfl (λ_ h=>⟨_,by simp only;rw [re];rfl,.inl ⟨rfl,by simpa using h⟩⟩) (λk x m _ hd j n h=>by
   simp only;rw [rl n,Sc,Ti,TC j,TK];by_cases e:x=r.1
   ·rw [if_pos e];exact .inr ⟨_,rfl,.inr ⟨rfl,by rw [h,e];simp,rfl⟩⟩
   ·rw [if_neg e];exact .inl ⟨(),by rw [Tv j (by omega)],by rw [h,ey];exact ⟨λu=>u.elim (λe2=>absurd e2.symm e) id,.inr⟩⟩)
 refine UI p ?_;rw [Sy];rcases d with ⟨d,g⟩ | ⟨d,g,t⟩
 ·rw [if_neg (show ¬ q.1=0 by omega),if_neg g]
 ·rw [if_pos d,if_pos g,t]
theorem ga (L:Tl) (hb:L.2.length<=9223372036854775807) (hr : ∀ rs∈L.2,rs.length<=9223372036854775807 /\ ∀ r∈rs,r.2.length<=9223372036854775807):U7 L=some (Vb L):=by
 unfold U7 Vb;simp only [Tq,Tn];rw [TP,TM,TM];by_cases n:L.1<1
 ·rw [if_pos n,if_pos (.inl n)]
 rw [if_neg n];by_cases o:L.1>16
 ·rw [if_pos o,if_pos (.inr o)]
 rw [if_neg o,if_neg (show ¬ (L.1<1\/L.1>16) by omega)];by_cases S:(L.2.length:Int)>12
 ·rw [if_pos S,if_pos (by omega)]
 rw [if_neg S,if_neg (by omega)];have hl2:L.2.length<=12:=by omega
 obtain ⟨T,N⟩ : ∃ T,T=ZO L.1 0 [] L.2:=⟨_,rfl⟩;rw [<- N]
 have p:T=none->(br (S6 (L.2.length:Int) 0) (λ_=>R1 (SK .i64 (L.2.length:Int) 1) λD=>ix L.2 D λJ=>br (Oa (J.length:Int) 0) (λ_=>some ((SK .i64 (L.2.length:Int) 1,((0:Int),(6:Int))))) λ_=>some ((0,(0,0)))) λ_=>some ((0,(0,0))))=some (if L.2.getLast? = some [] then (((L.2.length-1:Nat):Int),(0,6)) else (0,(0,0))):=by
  intro _;rw [TM];by_cases X:L.2=[]
  ·rw [X];rfl
  ·have hp:=eb.2 X;rw [if_pos (by omega),show SK .i64 (L.2.length:Int) 1=((L.2.length-1:Nat):Int) by rw [Sj (by omega)];omega,Ti,pg];have d:L.2[L.2.length-1]? = some (L.2[L.2.length-1]'(by omega)):=by simp
   rw [TC d,d,TK];by_cases C:L.2[L.2.length-1]'(by omega)=[]
   ·rw [C];simp
   ·rw [if_neg (by have:=eb.2 C;omega),if_neg (by simp [C])]
 obtain ⟨r,G,j⟩:=Wg (l:=L.2) (σ:=List Int) (s:=((0:Int),(([]:List Int),((0:Int),((0:Int),(0:Int)))))) (λi a=>((0:Int),(a,((0:Int),((0:Int),(i:Int))))))
  (λm i a=>ZO L.1 i a m=T/\a.length<=2*i) (λ(r:Nat×((Int×(List Int×(Int×(Int×Int))))×Unit))=>(r.1=1/\T=none)\/(r.1=0/\Q1 T r.2.1.1 r.2.1.2.2.1 r.2.1.2.2.2.1/\T≠none))
  (f:=λ(s0:(Int×((List Int)×(Int×(Int×Int)))))=>br (S8 s0.2.2.2.2 (L.2.length:Int)) (λ_=>R1 s0.2.2.2.2 λk1=>ix L.2 k1 λB=>br (S6 (B.length:Int) 2) (λ_=>some (.dn ((0,((0,(s0.2.1,(s0.2.2.2.2,(3,s0.2.2.2.2)))),()))))) λ_=>bd (loop (λ(b:(Int×((List Int)×(Int×(Int×Int)))))=>br (S8 b.2.2.2.2 (B.length:Int)) (λ_=>R1 b.2.2.2.2 λE=>ix B E λK=>bd (V1 (L.1,s0.2.2.2.2)) λI=>bd (WY ((K,(I,b.2.1)))) λy=>br (Ry y 0) (λ_=>some (.dn ((0,((b.2.2.2.2,(b.2.1,(s0.2.2.2.2,(y,b.2.2.2.2)))),()))))) λ_=>R1 b.2.2.2.2 λF=>ix B F λz=>gd (CF (BF b.2.1.length [z.1].length) 1048576) λ_=>some (.nx ((b.1,(Il b.2.1 [z.1],(b.2.2.1,(b.2.2.2.1,SF .i64 b.2.2.2.2 1))))))) λ_=>some (.dn ((1,(b,()))))) ((s0.1,(s0.2.1,(s0.2.2.1,(s0.2.2.2.1,0)))))) λc=>br (neq c.1 0) (λ_=>some (.dn ((0,((c.2.1.1,(c.2.1.2.1,(c.2.1.2.2.1,(c.2.1.2.2.2.1,s0.2.2.2.2)))),()))))) λ_=>some (.nx ((c.2.1.1,(c.2.1.2.1,(c.2.1.2.2.1,(c.2.1.2.2.2.1,SF .i64 s0.2.2.2.2 1))))))) λ_=>some (.dn ((1,(s0,())))))
  [] rfl (by omega) ⟨N.symm,by simp⟩ (λa h=>by
   refine ⟨_,by simp only;rw [re];rfl,.inl ⟨rfl,?_⟩⟩;rw [<- h.1];rfl) (λi rs m a hd d hi h=>by
   obtain ⟨h,P⟩:=h;simp only;obtain ⟨Y,u⟩:=hr rs (bo d);rw [rl hi,Sc,Ti,TC d,TM];unfold ZO at h;by_cases M:rs.length>2
   ·rw [if_pos (by omega)];rw [if_pos M] at h;refine .inr ⟨_,rfl,.inr ⟨rfl,?_,by rw [<- h];simp⟩⟩;rw [<- h];exact ⟨rfl,rfl,rfl⟩
   rw [if_neg (by omega)];rw [if_neg M] at h;obtain ⟨U,O⟩ : ∃ U,U=ZP (Uo L.1 i) 0 a rs:=⟨_,rfl⟩;rw [<- O] at h
   obtain ⟨r,G,j⟩:=Wg (l:=rs) (σ:=Unit) (s:=((0:Int),(a,((0:Int),((0:Int),(0:Int)))))) (λk _=>((0:Int),(a++(rs.take k).map (·.1),((0:Int),((0:Int),(k:Int))))))
    (λm k _=>ZP (Uo L.1 i) k (a++(rs.take k).map (·.1)) m=U) (λ(r:Nat×((Int×(List Int×(Int×(Int×Int))))×Unit))=>(r.1=1/\U=none/\r.2.1=(0,(a++rs.map (·.1),(0,(0,(rs.length:Int))))))\/(r.1=0 /\ ∃ k e,U=some (k,e)/\r.2.1.1=(k:Int)/\r.2.1.2.2.1=(i:Int)/\r.2.1.2.2.2.1=e))
    (f:=λ(b:(Int×((List Int)×(Int×(Int×Int)))))=>br (S8 b.2.2.2.2 (rs.length:Int)) (λ_=>R1 b.2.2.2.2 λE=>ix rs E λK=>bd (V1 (L.1,(i:Int))) λI=>bd (WY ((K,(I,b.2.1)))) λy=>br (Ry y 0) (λ_=>some (.dn ((0,((b.2.2.2.2,(b.2.1,((i:Int),(y,b.2.2.2.2)))),()))))) λ_=>R1 b.2.2.2.2 λF=>ix rs F λz=>gd (CF (BF b.2.1.length [z.1].length) 1048576) λ_=>some (.nx ((b.1,(Il b.2.1 [z.1],(b.2.2.1,(b.2.2.2.1,SF .i64 b.2.2.2.2 1))))))) λ_=>some (.dn ((1,(b,())))))
    () (by simp) (by omega) (by simp [O]) (λ_ h=>by
     refine ⟨_,by simp only;rw [re];rfl,.inl ⟨rfl,by rw [<- h];rfl,by simp⟩⟩) (λk r m _ hd d Z h=>by
     simp only;have hr2:=u r (bo d);have w:(rs.take (k+1)).map (·.1)=(rs.take k).map (·.1)++[r.1]:=by rw [gM,d];simp
     have W:(a++(rs.take k).map (·.1)).length<=100:=by simp;omega
     rw [rl Z,Sc,Ti,TC d,dZ (by omega) (by omega) (by omega),Sx,kT _ _ _ (by omega) (by omega),Sx,TQ];unfold ZP at h;by_cases A:kR (a++(rs.take k).map (·.1)) (Uo L.1 i) r=0
     ·rw [if_neg (λhh:kR (a++(rs.take k).map (·.1)) (Uo L.1 i) r≠0=>hh A)] at h;rw [if_pos A,Ti,TC d,Ua (by simp only [BF,ci,co];omega)];refine .inl ⟨(),?_,?_⟩
      ·rw [Tv d (by omega),w,<- cP];rfl
      ·rw [w,<- cP];exact h
     ·rw [if_pos A] at h;rw [if_neg A]
      exact .inr ⟨_,rfl,.inr ⟨rfl,_,_,h.symm,rfl,rfl,rfl⟩⟩)
   rw [G,Sx,Sy];rcases j with ⟨j,g,x⟩ | ⟨j,k,e,g,x,q5,q6⟩
   ·rw [if_neg (show ¬ r.1=0 by omega),x,Tv d (by omega)];rw [g] at h;exact .inl ⟨a++rs.map (·.1),rfl,h,by simp;omega⟩
   ·rw [if_pos j];rw [g] at h;refine .inr ⟨_,rfl,.inr ⟨rfl,?_,by rw [<- h];simp⟩⟩;rw [<- h]
    exact ⟨x,q5,q6⟩)
 refine UI G ?_;rw [Sy];rcases j with ⟨j,g⟩ | ⟨j,g,x⟩
 ·rw [if_neg (show ¬ r.1=0 by omega),g];exact p g
 ·rw [if_pos j];cases q:T with
  | none=>exact absurd q x
  | some t =>
   obtain ⟨i,k,e⟩:=t;rw [q] at g;rw [g.1,g.2.1,g.2.2]
theorem eR (L:Tl) (b:L.2.length<=1048576) (a : ∀ rs∈L.2,rs.length<=1048576 /\ ∀ r∈rs,r.2.length<=9223372036854775807):U7 L=some (Vb L):=ga L (by omega) λrs h=>⟨by have:=(a rs h).1;omega,(a rs h).2⟩
def Um (ls:List (List UN)):List UN:=ls.flatMap List.reverse
theorem VLev.small {L:Tl} (v:VLev L):L.2.length<=1048576 /\ ∀ rs∈L.2,rs.length<=1048576 /\ ∀ r∈rs,r.2.length<=9223372036854775807:=by
 refine ⟨by have:=v.len;omega,λrs a => ?_⟩;obtain ⟨i,hi⟩:=eo a;obtain ⟨d,b⟩:=v.lev i rs hi;exact ⟨by omega,λr c=>by have:=(b r c).vl.len;omega⟩
theorem Y9 : ∀ (ls:List (List UN)),(∀ rs∈ls,rs.length<=2)->(Um ls).length<=2*ls.length
 | [],_=>by simp [Um]
 | rs::ls,h=>by
  have a:=Y9 ls λr b=>h r (by simp [b]);have c:=h rs (by simp);unfold Um at a ⊢;rw [xT,hM,List.length_reverse,ci];omega
theorem VLev.two {L:Tl} (v:VLev L) : ∀ rs∈L.2,rs.length<=2:=λrs a=>by
 obtain ⟨i,hi⟩:=eo a;exact (v.lev i rs hi).1
theorem ay {L:Tl} (v:VLev L):WR L=some (Um L.2,0):=by
 obtain ⟨d,b⟩:=v.small;have e:=v.len;unfold WR;simp only [Tq,Tn];rw [eR _ d b,Wa v,Sx,TQ,if_pos rfl]
 rw [Ut (l:=L.2) (σ:=List UN) (s:=(([]:List UN),(0:Int))) (λi m=>(m,(i:Int))) (λls i m=>(∀ rs∈ls,rs.length<=2)/\m.length<=2*i) (λls _ m=>(0,((m++Um ls,(L.2.length:Int)),()))) [] rfl (by omega) ⟨v.two,by simp⟩ (λm _=>by
  simp only;rw [re,R7];simp [Um]) (λi rs ls m hd a hi h=>by
   refine ⟨m++rs.reverse,?_,⟨λr b=>h.1 r (by simp [b]),by have:=h.1 rs (by simp);simp;omega⟩,by simp [Um]⟩;have c:=h.1 rs (by simp);have f:m.length<=24:=by have:=h.2;omega
   simp only;rw [rl hi,Sc,Ti,TC a];have gg : ∀ {β:Type} (z:List UN) (x:UN) (k:Unit->Option β),z.length<=100->gd (CF (BF z.length [x].length) 1048576) k=k ():=λz x k g=>Ua (by simp only [BF,ci,co];omega) k
   match rs,c,a with
   | [],_,a =>
    refine UI (x:=(0,((m,-1),()))) (U3 (n:=1) (by omega) (UR rfl)) ?_;rw [Tv a (by omega)];simp
   | [r0],_,a =>
    refine UI (x:=(0,((m++[r0],-1),()))) (U3 (n:=2) (by omega) ((UL (s':=(m++[r0],-1)) ?_).trans (UR rfl))) ?_
    ·show br (Rx (0:Int) 0) _ _=_;rw [TL,if_pos (by omega),Ti,TC a];refine (WU 0 rfl (x:=r0) rfl).trans ?_;rw [gg m _ _ (by omega)];rfl
    ·rw [Tv a (by omega)];simp
   | [r0,r1],_,a =>
    refine UI (x:=(0,((m++[r1]++[r0],-1),()))) (U3 (n:=3) (by omega) ((UL (s':=(m++[r1],0)) ?_).trans ((UL (s':=(m++[r1]++[r0],-1)) ?_).trans (UR rfl)))) ?_
    ·show br (Rx (1:Int) 0) _ _=_;rw [TL,if_pos (by omega),Ti,TC a];refine (WU 1 rfl (x:=r1) rfl).trans ?_;rw [gg m _ _ (by omega)];rfl
    ·show br (Rx (0:Int) 0) _ _=_;rw [TL,if_pos (by omega),Ti,TC a];refine (WU 0 rfl (x:=r0) rfl).trans ?_;rw [gg (m++[r1]) _ _ (by simp;omega)];rfl
    ·rw [Tv a (by omega)];simp),Sx]
 simp
theorem XG (a b:Int):TY a b=max a b:=by unfold TY;split<;>omega
theorem Wh : ∀ (l:List UN) (m:Int),0<=m->l.foldl (λm r=>TY m r.1) m=max m (l.foldl (λm r=>TY m r.1) 0)
 | [],m,h=>by simp;omega
 | r::l,m,h=>by
  have a:=Wh l (TY m r.1) (by rw [XG];omega);have b:=Wh l (TY 0 r.1) (by rw [XG];omega);simp only [iP];rw [a,b,XG,XG];omega
theorem bG (l:List UN) (m:Int) (h:0<=m):l.reverse.foldl (λm r=>TY m r.1) m=l.foldl (λm r=>TY m r.1) m:=by
 induction l generalizing m with
 | nil=>rfl
 | cons r l a =>
  rw [List.reverse_cons,x6,a m h,iP];simp only [iP,List.foldl_nil];rw [Wh l m h,Wh l (TY m r.1) (by rw [XG];omega),XG,XG];omega
theorem cF (l:List UN) (m:Int) (h:0<=m):0<=l.foldl (λm r=>TY m r.1) m:=by
 rw [Wh l m h];omega
theorem Yt : ∀ (ls:List (List UN)) (m:Int),0<=m->(Um ls).foldl (λm r=>TY m r.1) m=ls.foldl (λm rs=>rs.foldl (λm r=>TY m r.1) m) m
 | [],m,_=>rfl
 | rs::ls,m,h=>by
  have a:=Yt ls (rs.foldl (λm r=>TY m r.1) m) (cF _ _ h);unfold Um at a ⊢;rw [xT,x6,bG rs m h,iP,a]
theorem cS {L:Tl} (v:VLev L):VU L=some (WZ L.2):=by
 have c:=v.len;have d:=Y9 L.2 v.two;unfold VU;simp only [Tq,Tn];rw [ay v,Sx]
 rw [Ut (l:=Um L.2) (σ:=Int) (s:=((0:Int),(0:Int))) (λi m=>(m,(i:Int))) (λ_ _ _=>True) (λl _ m=>(0,((l.foldl (λm r=>TY m r.1) m,((Um L.2).length:Int)),()))) 0 rfl (by omega) trivial (λm _=>by
  simp only;rw [re,R7];rfl) (λk r l m hd a b _=>⟨TY m r.1,by
   simp only
   rw [rl b,Sc,Ti,TC a,Tv a (by omega)],trivial,rfl⟩),Sx]
 rw [Yt _ _ (by omega)];rfl
theorem aS {L:Tl} (d:L.2.length<=1000):Uh L=some (Tp 0 L.2):=by
 unfold Uh;simp only [Tq,Tn]
 rw [Ut (l:=L.2) (σ:=List Int) (s:=(([]:List Int),(0:Int))) (λi m=>(m,(i:Int))) (λls i m=>m++Tp i ls=Tp 0 L.2) (λ_ _ _=>(0,((Tp 0 L.2,(L.2.length:Int)),()))) [] rfl (by omega) rfl (λm h=>by
  simp only;rw [re,R7,<- h];simp [Tp]) (λi rs ls m hd b hi h=>by
   refine ⟨m++(if rs.length=2 then [(i:Int)] else []),?_,?_,rfl⟩
   ·simp only;rw [rl hi,Sc,Ti,TC b,TK]
    have e:m.length<=1000:=by
     have a:=congrArg nb h;have c:=VD L.2 0;rw [hM] at a;omega
    by_cases a:rs.length=2
    ·rw [if_pos (by omega),if_pos a,Ua (by simp only [BF,ci,co];omega),Tv b (by omega)];rfl
    ·rw [if_neg (by omega),if_neg a,gs,Tv b (by omega)]
   ·rw [cP];exact h),Sx]
theorem tI {L:Tl} (v:VLev L) (k:Int):Yi (L,k)=some (if k<0\/k>=12 then 7 else 0):=by
 obtain ⟨c,d⟩:=v.small;unfold Yi;rw [eR _ c d,Wa v,Sx,TK,if_pos rfl,TP,TL];by_cases a:k<0
 ·rw [if_pos a,if_pos (.inl a)]
 ·rw [if_neg a];by_cases b:k>=12
  ·rw [if_pos b,if_pos (.inr b)]
  ·rw [if_neg b,if_neg (by omega)]
theorem ax {L:Tl} (v:VLev L) {n:Nat} (b:n<L.2.length):UV (L,(n:Int))=some (decide ((n:Int)=(L.2.length:Int)-1)):=by
 have a:=v.len;unfold UV YK;simp only [Tq,Tn];rw [tI v,Sx,if_neg (by omega),TQ,if_pos rfl,Sx,Tu (by omega)];unfold S6;rw [VC];by_cases h:(n:Int)=(L.2.length:Int)-1
 ·simp [h]
 ·simp [h];omega
theorem eO {a b:List Tj} (va:VL a) (d:VL b) (c:Bool):XY ([a,b],c)=some (Vc a b c 0,(0,0)):=by
 unfold XY YJ Vp;rw [Zf va d,Sx,TQ,if_pos rfl];refine Eq.trans (b:=bd (bd (Vo ([a,b],[((0:Nat):Int),((0:Nat):Int)])) _) _) rfl ?_;rw [Yp va d (lc _) (lc _)];rfl
theorem ba {L:Tl} {n:Nat} {a b:UN} (c:Bool) (h:L.2[n]? = some [a,b]) (d:VL a.2) (e:VL b.2):UD (L,((n:Int),c))=some ((n:Int),Vc b.2 a.2 c 0):=by
 have f:=(a8.1 h).1;unfold UD;simp only [Tq,Tn];rw [TL,if_neg (by omega),Ti,TC h,TC (x:=b) rfl,TC (x:=a) rfl,eO e d];rfl
theorem pz {L:Tl} {n:Nat} {a b:UN} {j:Job} (h:L.2[n]? = some [a,b]) (e:VL a.2) (f:VL b.2) {β:Type} (A B:Option β) :
  (bd (UD (L,((n:Int),j.2.2.1.2.2))) λc=>bd (UQ c.2) λl=>br (S8 j.2.2.2.2 0) (λ_=>A) λ_=>br (S6 j.2.2.2.2 l.1) (λ_=>A) λ_=>bd (UJ (c.2,j.2.2.2.2)) λm=>bd (Uf (m.1,j.2)) λo=>br (Hg o) (λ_=>A) λ_=>B)
  = if j.2.2.2.2<0\/j.2.2.2.2>((b.2.length+a.2.length:Nat):Int) then A else if Vc b.2 a.2 j.2.2.1.2.2 j.2.2.2.2.toNat=j.2 then B else A:=by
 rw [ba _ h e f,Sx,Zg f e _ (lc _),Sx,TP,TM,l4];by_cases g:j.2.2.2.2<0
 ·rw [if_pos g,if_pos (.inl g)]
 rw [if_neg g];by_cases i:j.2.2.2.2>((b.2.length+a.2.length:Nat):Int)
 ·rw [if_pos i,if_pos (.inr i)]
 rw [if_neg i,if_neg (show ¬ (j.2.2.2.2<0\/j.2.2.2.2>((b.2.length+a.2.length:Nat):Int)) by omega)];obtain ⟨k,p⟩ : ∃ k:Nat,j.2.2.2.2=(k:Int):=⟨j.2.2.2.2.toNat,by omega⟩;rw [p,bA f e _ (lc _),Sx,l4,ee,ul (by omega),bl];obtain ⟨s1,s2,q,r,s,t⟩:=bK f e j.2.2.1.2.2 (n:=k) (by omega);rw [eQ _ _ s1 s2 q r s t,Sx,VC,VJ];by_cases d:Vc b.2 a.2 j.2.2.1.2.2 k=j.2
 ·rw [if_neg (by simp [d]),if_pos d]
 ·rw [if_pos d,if_neg d]
end
section
open Go Sv
theorem cU (s:Th) (J:s.1.2.length<=9223372036854775807) (hr : ∀ rs∈s.1.2,rs.length<=9223372036854775807 /\ ∀ r∈rs,r.2.length<=9223372036854775807) (hj:s.2.1.length<=9223372036854775807):Vq s=some (Tk s):=by
 unfold Vq Tk;simp only [Tq,Tn];rw [ga _ J hr,Sx,TK];by_cases o:(Vb s.1).2.2=0;rotate_left
 ·rw [if_neg o,if_pos o,TK,if_neg o,TQ,if_neg o]
 rw [if_pos o,if_neg (show ¬ (Vb s.1).2.2≠0 by simp [o]),TP,TM];have v:=Xf.1 o;by_cases y:s.2.2<1
 ·rw [if_pos y,if_pos (.inl y)]
 rw [if_neg y];by_cases p:s.2.2>1000001
 ·rw [if_pos p,if_pos (.inr p)]
 rw [if_neg p,if_neg (show ¬ (s.2.2<1\/s.2.2>1000001) by omega),TK,if_pos o,cS v,Sx,TN];by_cases m:s.2.2<=WZ s.1.2
 ·rw [if_pos m,if_pos m]
 rw [if_neg m,if_neg m,TQ,if_pos o,aS (by have:=v.len;omega),Sx];obtain ⟨a,g⟩ : ∃ a,a=Tp 0 s.1.2:=⟨_,rfl⟩;have hdl:a.length<=12:=by have:=VD s.1.2 0;have:=v.len;rw [g];omega
 rw [<- g];obtain ⟨T,Z⟩ : ∃ T,T=Wr s.1 a 0 s.2.1:=⟨_,rfl⟩;rw [<- Z]
 obtain ⟨r,q1,D⟩:=Wg (l:=s.2.1) (σ:=Unit) (λi _=>((0:Int),((0:Int),(i:Int)))) (λjs i _=>Wr s.1 a i js=T) (λ(r:Nat×((Int×(Int×Int))×Unit))=>(T=none/\r.1=1)\/(∃ i:Nat,T=some i/\r.1=0/\r.2.1.1=6/\r.2.1.2.1=(i:Int)))
  (f:=λb=>br (S8 b.2.2 (s.2.1.length:Int)) (λ_=>R1 b.2.2 λk7=>ix s.2.1 k7 λe=>br (Rx b.2.2 (a.length:Int)) (λ_=>some (.dn ((0,((6,(b.2.2,b.2.2)),()))))) λ_=>R1 b.2.2 λk9=>ix a k9 λX=>br (Ry e.1 X) (λ_=>some (.dn ((0,((6,(b.2.2,b.2.2)),()))))) λ_=>br e.2.2.1.2.2 (λ_=>bd (UV (s.1,e.1)) λM=>br (Hg M) (λ_=>some (.dn ((0,((6,(b.2.2,b.2.2)),()))))) λ_=>bd (UD ((s.1,(e.1,e.2.2.1.2.2)))) λG=>bd (UQ G.2) λN=>br (S8 e.2.2.2.2 0) (λ_=>some (.dn ((0,((6,(b.2.2,b.2.2)),()))))) λ_=>br (S6 e.2.2.2.2 N.1) (λ_=>some (.dn ((0,((6,(b.2.2,b.2.2)),()))))) λ_=>bd (UJ (G.2,e.2.2.2.2)) λO=>bd (Uf (O.1,e.2)) λP=>br (Hg P) (λ_=>some (.dn ((0,((6,(b.2.2,b.2.2)),()))))) λ_=>some (.nx ((b.1,(b.2.1,SF .i64 b.2.2 1))))) λ_=>bd (UD ((s.1,(e.1,e.2.2.1.2.2)))) λI=>bd (UQ I.2) λS=>br (S8 e.2.2.2.2 0) (λ_=>some (.dn ((0,((6,(b.2.2,b.2.2)),()))))) λ_=>br (S6 e.2.2.2.2 S.1) (λ_=>some (.dn ((0,((6,(b.2.2,b.2.2)),()))))) λ_=>bd (UJ (I.2,e.2.2.2.2)) λU=>bd (Uf (U.1,e.2)) λW=>br (Hg W) (λ_=>some (.dn ((0,((6,(b.2.2,b.2.2)),()))))) λ_=>some (.nx ((b.1,(b.2.1,SF .i64 b.2.2 1))))) λ_=>some (.dn ((1,(b,())))))
  (s:=(0,(0,0))) () rfl (by omega) Z.symm (λ_ h=>by
   refine ⟨_,by simp only;rw [re];rfl,.inl ⟨by rw [<- h];rfl,rfl⟩⟩) (λi j js _ hd hx hi h=>by
   simp only;rw [rl hi,Sc,Ti,TC hx,TL];unfold Wr at h
   have c:ZN s.1 a i j=true -> ∃ r:Nat×((Int×(Int×Int))×Unit),(some (LR.dn ((0,((6,((i:Int),(i:Int))),()))):LR (Int×(Int×Int)) _))=some (.dn r)/\((T=none/\r.1=1)\/(∃ i:Nat,T=some i/\r.1=0/\r.2.1.1=6/\r.2.1.2.1=(i:Int))):=λJ=>by
    rw [if_pos J] at h;exact ⟨_,rfl,.inr ⟨i,h.symm,rfl,rfl,rfl⟩⟩
   have x:ZN s.1 a i j=false -> ∃ st':Unit,(some (LR.nx ((0:Int),((0:Int),SF .i64 (i:Int) 1))):Option (LR _ (Nat×((Int×(Int×Int))×Unit))))=some (.nx ((0:Int),((0:Int),((i+1:Nat):Int))))/\Wr s.1 a (i+1) js=T:=λhg=>by
    rw [if_neg (by simp [hg])] at h;exact ⟨(),by rw [Tv hx (by omega)],h⟩
   by_cases y:(i:Int)>=(a.length:Int)
   ·rw [if_pos y];exact .inr (c (by unfold ZN;rw [a9 (by omega)]))
   rw [if_neg y,Ti];have w:a[i]? = some (a[i]'(by omega)):=by simp
   rw [TC w,TQ];obtain ⟨n,K,E,F,t⟩:=Xt (ls:=s.1.2) (i:=0) (k:=i) (d:=a[i]'(by omega)) (by rw [<- g];exact w);rw [ee] at K
   have q:ZN s.1 a i j=(if j.1≠(a[i]'(by omega)) then true else if j.2.2.1.2.2=true/\j.1≠(s.1.2.length:Int)-1 then true else if j.2.2.2.2<0\/j.2.2.2.2>((F.2.length+E.2.length:Nat):Int) then true else decide (Vc F.2 E.2 j.2.2.1.2.2 j.2.2.2.2.toNat≠j.2)):=by
    unfold ZN;rw [w];simp only;rw [K,bl,t]
   by_cases p:j.1=(a[i]'(by omega));rotate_left
   ·rw [if_neg p];exact .inr (c (by rw [q,if_pos p]))
   rw [if_pos p];rw [if_neg (by simp [p])] at q;have C:j.1=(n:Int):=by rw [p,K]
   have hv:=(v.lev n _ t).2;have v0:=(hv E (by simp)).vl;have v1:=(hv F (by simp)).vl;have L:=(a8.1 t).1;rw [C,ax v L,Sx,VC,VJ,pz t v0 v1,TV];rw [C] at q;by_cases m:j.2.2.1.2.2=true/\(n:Int)≠(s.1.2.length:Int)-1
   ·rw [if_pos m.1,if_pos m.2];exact .inr (c (by rw [q,if_pos m]))
   rw [if_neg m] at q
   have h4 : ∀ {γ:Type} (A B:γ),(if j.2.2.1.2.2=true then if ¬(n:Int)=(s.1.2.length:Int)-1 then A else B else B)=B:=by
    intro γ A B;by_cases u:j.2.2.1.2.2=true
    ·rw [if_pos u,if_neg (λz=>m ⟨u,z⟩)]
    ·rw [if_neg u]
   rw [h4];by_cases u:j.2.2.2.2<0\/j.2.2.2.2>((F.2.length+E.2.length:Nat):Int)
   ·rw [if_pos u];exact .inr (c (by rw [q,if_pos u]))
   rw [if_neg u];rw [if_neg u] at q;by_cases z:Vc F.2 E.2 j.2.2.1.2.2 j.2.2.2.2.toNat=j.2
   ·rw [if_pos z];exact .inl (x (by rw [q];simp [z]))
   ·rw [if_neg z]
    exact .inr (c (by rw [q];simp [z])))
 refine UI q1 ?_;rw [Sy];rcases D with ⟨D,q3⟩ | ⟨i,D,q3,q4,q5⟩
 ·rw [if_neg (show ¬ r.1=0 by omega),D,TP];simp only;by_cases Y:s.2.1.length<a.length
  ·rw [if_pos (by omega),if_pos Y]
  ·rw [if_neg (by omega),if_neg Y]
 ·rw [if_pos q3,D,q4,q5]
theorem dW (s:Th) (b:s.1.2.length<=1048576) (a : ∀ rs∈s.1.2,rs.length<=1048576 /\ ∀ r∈rs,r.2.length<=9223372036854775807) (c:s.2.1.length<=1048576):Vq s=some (Tk s):=cU s (by omega) (λrs h=>⟨by have:=(a rs h).1;omega,(a rs h).2⟩) (by omega)
end
section
open Go Sv
def JobAt (L:Tl) (n:Nat) (j:Job):Prop := ∃ a b c k,L.2[n]? = some [a,b]/\j=((n:Int),Vc b.2 a.2 c k)/\k<=b.2.length+a.2.length/\(c=true->n+1=L.2.length)/\VL a.2/\VL b.2
structure VSt (s:Th):Prop where
 lev:VLev s.1
 n1:1<=s.2.2
 n2:s.2.2<=1000001
 n3:WZ s.1.2<s.2.2
 due:s.2.1.map (·.1)=Tp 0 s.1.2
 job : ∀ j∈s.2.1,∃ n,JobAt s.1 n j
theorem aV (a b:List Tj) (c:Bool) (k:Nat):(Vc a b c k).2.1.2.2=c:=by
 show (U6 (s0 c) (UB a b k)).2.2=c;rw [XI]
theorem ad {L:Tl} (v:VLev L) {i:Nat} {j:Job}:ZN L (Tp 0 L.2) i j=false <-> ∃ n,(Tp 0 L.2)[i]? = some j.1/\JobAt L n j:=by
 constructor
 ·intro h;unfold ZN at h;cases hd:(Tp 0 L.2)[i]? with
  | none=>rw [hd] at h;cases h
  | some d =>
   rw [hd] at h;simp only at h;by_cases e:j.1=d;rotate_left
   ·rw [if_pos e] at h;cases h
   rw [if_neg (by simp [e])] at h;by_cases f:j.2.2.1.2.2=true/\j.1≠(L.2.length:Int)-1
   ·rw [if_pos f] at h;cases h
   rw [if_neg f] at h;obtain ⟨n,l,a,b,c⟩:=Xt hd;rw [ee] at l;rw [l,bl,c] at h;simp only at h;by_cases o:j.2.2.2.2<0\/j.2.2.2.2>((b.2.length+a.2.length:Nat):Int)
   ·rw [if_pos o] at h;cases h
   rw [if_neg o] at h;have r:Vc b.2 a.2 j.2.2.1.2.2 j.2.2.2.2.toNat=j.2:=by simpa using h
   have q:=(v.lev n _ c).2;refine ⟨n,by rw [e],a,b,j.2.2.1.2.2,j.2.2.2.2.toNat,c,s9 (by rw [e,l]) r.symm,by omega,λg => ?_,(q a (by simp)).vl,(q b (by simp)).vl⟩
   have s:j.1=(L.2.length:Int)-1:=by
    by_cases p:j.1=(L.2.length:Int)-1
    ·exact p
    ·exact absurd ⟨g,p⟩ f
   omega
 ·rintro ⟨n,hd,a,b,m,k,c,rfl,t,g,u,w⟩;unfold ZN;rw [hd];simp only;rw [if_neg (by simp),aV,if_neg (λh:m=true/\(n:Int)≠(L.2.length:Int)-1=>h.2 (by have:=g h.1;omega)),bl,c];simp only;rw [show (Vc b.2 a.2 m k).2.2.2=(k:Int) from rfl,if_neg (by omega),bl];simp
theorem Y5 {L:Tl} {a:List Int} : ∀ {js:List Job} {i:Nat},Wr L a i js=none <-> ∀ k j,js[k]? = some j->ZN L a (i+k) j=false
 | [],i=>by simp [Wr]
 | j::js,i=>by
  unfold Wr;by_cases h:ZN L a i j=true
  ·rw [if_pos h];simp only [reduceCtorEq,false_iff];intro b;have:=b 0 j rfl;rw [Nat.add_zero,h] at this;cases this
  ·rw [if_neg h,Y5 (js:=js)];constructor
   ·intro b k j' c;cases k with
    | zero=>cases c;simpa using h
    | succ k=>rw [show i+(k+1)=i+1+k by omega];exact b k j' c
   ·intro b k j' c;rw [show i+1+k=i+(k+1) by omega];exact b (k+1) j' c
theorem Ts {s:Th}:(Tk s).2=0<->VSt s:=by
 unfold Tk;constructor
 ·intro h;by_cases d:(Vb s.1).2.2≠0
  ·rw [if_pos d] at h;exact absurd h d
  rw [if_neg d] at h;have v:=Xf.1 (Decidable.not_not.1 d);by_cases f:s.2.2<1\/s.2.2>1000001
  ·rw [if_pos f] at h;cases h
  rw [if_neg f] at h;by_cases g:s.2.2<=WZ s.1.2
  ·rw [if_pos g] at h;cases h
  rw [if_neg g] at h;cases b:Wr s.1 (Tp 0 s.1.2) 0 s.2.1 with
  | some i=>rw [b] at h;cases h
  | none =>
   rw [b] at h;simp only at h;by_cases l:s.2.1.length<(Tp 0 s.1.2).length
   ·rw [if_pos l] at h;cases h
   have m:=Y5.1 b
   have c : ∀ k j,s.2.1[k]? = some j -> ∃ n,(Tp 0 s.1.2)[k]? = some j.1/\JobAt s.1 n j:=λk j a=>by
    have:=m k j a;rw [ee] at this;exact (ad v).1 this
   refine ⟨v,by omega,by omega,by omega,?_,λj o => ?_⟩
   ·apply List.ext_getElem?;intro k;rw [s8];cases a:s.2.1[k]? with
    | some j=>obtain ⟨n,e,_⟩:=c k j a;rw [e];rfl
    | none =>
     have:=List.getElem?_eq_none_iff.1 a;rw [a9 (by omega)];rfl
   ·obtain ⟨k,a⟩:=eo o;obtain ⟨n,_,h⟩:=c k j a;exact ⟨n,h⟩
 ·intro v;rw [if_neg (by simp [Xf.2 v.lev]),if_neg (by have:=v.n1;have:=v.n2;omega),if_neg (by have:=v.n3;omega)]
  have b:Wr s.1 (Tp 0 s.1.2) 0 s.2.1=none:=Y5.2 λk j a=>by
   rw [ee];obtain ⟨n,p⟩:=v.job j (bo a);exact (ad v.lev).2 ⟨n,by rw [<- v.due,s8,a];rfl,p⟩
  rw [b];simp only;rw [if_neg (by rw [<- v.due];simp)]
structure Sm (s:Th):Prop where
 lv:s.1.2.length<=1048576
 rs : ∀ rs∈s.1.2,rs.length<=1048576 /\ ∀ r∈rs,r.2.length<=9223372036854775807
 js:s.2.1.length<=1048576
theorem ua {s:Th} (m:Sm s):VM s=some (Tk s):=eC s m.lv m.rs m.js
theorem ur {s:Th} (m:Sm s):Vq s=some (Tk s):=dW s m.lv m.rs m.js
theorem VSt.jlen {s:Th} (v:VSt s):s.2.1.length=(Tp 0 s.1.2).length:=by rw [<- v.due];simp
theorem VSt.jsmall {s:Th} (v:VSt s):s.2.1.length<=12:=by
 have:=v.jlen;have:=VD s.1.2 0;have:=v.lev.len;omega
theorem VSt.sm {s:Th} (v:VSt s):Sm s:=⟨v.lev.small.1,v.lev.small.2,by have:=v.jsmall;omega⟩
def Zl (x:Int):Nat->List Int->Option Nat
 | _,[]=>none
 | k,y::l=>if y=x then some k else Zl x (k+1) l
theorem eA {x:Int} : ∀ {l:List Int} {k i:Nat},Zl x k l=some i->k<=i/\l[i-k]? = some x
 | [],_,_,h=>by cases h
 | y::l,k,i,h=>by
  unfold Zl at h;by_cases e:y=x
  ·rw [if_pos e] at h;cases h;simp [e]
  ·rw [if_neg e] at h;obtain ⟨b,a⟩:=eA h;exact ⟨by omega,by rw [show i-k=(i-(k+1))+1 by omega];simpa using a⟩
theorem cE {x:Int} : ∀ {l:List Int} {k:Nat},x∈l -> ∃ i,Zl x k l=some i
 | [],_,h=>by cases h
 | y::l,k,h=>by
  unfold Zl;by_cases e:y=x
  ·rw [if_pos e];exact ⟨k,rfl⟩
  ·rw [if_neg e];exact cE (by rcases ey.1 h with h | h;exact absurd h.symm e;exact h)
def X8 (s:Th) (a:Int):Int×Int:=if (Tk s).2≠0 then (0,(Tk s).2) else match Zl a 0 (Tp 0 s.1.2) with
 | some i=>((i:Int),0)
 | none=>(0,4)
theorem cC {s:Th} (m:Sm s) (a:Int):Wu (s,a)=some (X8 s a):=by
 unfold Wu X8;simp only [Tq,Tn];rw [ua m,Sx,TQ];by_cases b:(Tk s).2=0;rotate_left
 ·rw [if_neg b,if_pos b]
 rw [if_pos b,if_neg (show ¬ (Tk s).2≠0 by simp [b])];have v:=Ts.1 b;have w:=v.jsmall;rw [<- v.due];obtain ⟨T,g⟩ : ∃ T,T=Zl a 0 (s.2.1.map (·.1)):=⟨_,rfl⟩;rw [<- g]
 obtain ⟨r,q,c⟩:=Wg (l:=s.2.1) (σ:=Unit) (s:=((0:Int),(0:Int))) (λk _=>((0:Int),(k:Int))) (λjs k _=>Zl a k (js.map (·.1))=T) (λ(r:Nat×((Int×Int)×Unit))=>(r.1=1/\T=none)\/(r.1=0 /\ ∃ i:Nat,T=some i/\r.2.1.1=(i:Int)))
  (f:=λs1=>br (S8 s1.2 (s.2.1.length:Int)) (λ_=>R1 s1.2 λp=>ix s.2.1 p λu=>br (Oa u.1 a) (λ_=>some (.dn ((0,((s1.2,s1.2),()))))) λ_=>some (.nx (s1.1,SF .i64 s1.2 1))) λ_=>some (.dn ((1,(s1,())))))
  () rfl (by omega) g.symm (λ_ h=>⟨_,by simp only;rw [re];rfl,.inl ⟨rfl,by rw [<- h];rfl⟩⟩) (λk j js _ hd n o h=>by
   simp only;rw [rl o,Sc,Ti,TC n,TK];unfold Zl at h;simp only [kd] at h;by_cases e:j.1=a
   ·rw [if_pos e];rw [if_pos e] at h;exact .inr ⟨_,rfl,.inr ⟨rfl,k,h.symm,rfl⟩⟩
   ·rw [if_neg e];rw [if_neg e] at h
    exact .inl ⟨(),by rw [Tv n (by omega)],h⟩)
 refine UI q ?_;rw [Sy];rcases c with ⟨c,d⟩ | ⟨c,i,d,t⟩
 ·rw [if_neg (show ¬ r.1=0 by omega),d];rfl
 ·rw [if_pos c,d,t,TP,if_neg (by omega)]
theorem az {s:Th} (m:Sm s):Vf s=some (if (Tk s).2≠0 then ([],(Tk s).2) else (Tp 0 s.1.2,0)):=by
 unfold Vf;rw [ur m,Sx,TQ];by_cases a:(Tk s).2=0
 ·rw [if_pos a,if_neg (show ¬ (Tk s).2≠0 by simp [a]),aS (by have:=(Ts.1 a).lev.len;omega),Sx]
 ·rw [if_neg a,if_pos a]
theorem ZC {s:Th} (m:Sm s) (a:Int):Uq (s,a)=some (X8 s a):=by
 unfold Uq X8;simp only [Tq,Tn];rw [az m,Sx,TQ];by_cases c:(Tk s).2=0;rotate_left
 ·rw [if_pos c,if_neg c,if_pos c]
 rw [if_neg (show ¬ (Tk s).2≠0 by simp [c]),if_pos rfl,if_neg (show ¬ (Tk s).2≠0 by simp [c])];have v:=Ts.1 c;have z:=v.jsmall;have hd:=v.jlen;obtain ⟨b,d⟩ : ∃ b,b=Tp 0 s.1.2:=⟨_,rfl⟩;rw [<- d] at hd ⊢;obtain ⟨T,o⟩ : ∃ T,T=Zl a 0 b:=⟨_,rfl⟩;rw [<- o];simp only
 obtain ⟨r,u,g⟩:=Wg (l:=b) (σ:=Unit) (s:=((0:Int),((0:Int),(0:Int)))) (λk _=>((0:Int),((0:Int),(k:Int)))) (λjs k _=>Zl a k js=T) (λ(r:Nat×((Int×(Int×Int))×Unit))=>(r.1=1/\T=none)\/(r.1=0 /\ ∃ i:Nat,T=some i/\r.2.1.2.1=(i:Int)/\r.2.1.1=0))
  (f:=λs1=>br (S8 s1.2.2 (b.length:Int)) (λ_=>R1 s1.2.2 λt=>ix b t λy=>br (Oa y a) (λ_=>some (.dn ((0,((0,(s1.2.2,s1.2.2)),()))))) λ_=>some (.nx ((s1.1,(s1.2.1,SF .i64 s1.2.2 1))))) λ_=>some (.dn ((1,(s1,())))))
  () rfl (by omega) o.symm (λ_ h=>⟨_,by simp only;rw [re];rfl,.inl ⟨rfl,by rw [<- h];rfl⟩⟩) (λk j js _ hd p q h=>by
   simp only;rw [rl q,Sc,Ti,TC p,TK];unfold Zl at h;by_cases e:j=a
   ·rw [if_pos e];rw [if_pos e] at h;exact .inr ⟨_,rfl,.inr ⟨rfl,k,h.symm,rfl,rfl⟩⟩
   ·rw [if_neg e];rw [if_neg e] at h
    exact .inl ⟨(),by rw [Tv p (by omega)],h⟩)
 refine UI u ?_;rw [Sy];rcases g with ⟨g,n⟩ | ⟨g,i,n,w,x⟩
 ·rw [if_neg (show ¬ r.1=0 by omega),n]
 ·rw [if_pos g,n,w,x]
end
section
open Go Sv
def UA (L:Tl) (j:Job):Nat:=match L.2[j.1.toNat]? with
 | some [r0,r1]=>r1.2.length+r0.2.length-j.2.2.2.2.toNat
 | _=>0
def V2 (L:Tl) (j:Job):Bool:=decide ((j.2.2.2.1.length:Int)<=Uo L.1 j.1.toNat)
def ZU (L:Tl) (n:Nat):Bool:=decide (n<12/\((L.2[n]?).getD []).length<2)
def WE (L:Tl) (j:Job):Bool:=decide (0<UA L j)||(V2 L j||ZU L (j.1.toNat+1))
def aO (s:Th) (a:Int):Option Job:=match Zl a 0 (Tp 0 s.1.2) with
 | some i=>s.2.1[i]?
 | none=>none
theorem VSt.at {s:Th} (v:VSt s) {a:Int} {i:Nat} (h:Zl a 0 (Tp 0 s.1.2)=some i) : ∃ (j:Job) (n:Nat),s.2.1[i]? = some j/\a=(n:Int)/\j.1=(n:Int)/\JobAt s.1 n j/\n<s.1.2.length:=by
 obtain ⟨_,b⟩:=eA h;rw [l4] at b;rw [<- v.due,s8] at b;cases c:s.2.1[i]? with
 | none=>rw [c] at b;cases b
 | some j =>
  rw [c] at b;simp only [x9,Option.some.injEq] at b;obtain ⟨n,g⟩:=v.job j (bo c);have d:=g;obtain ⟨o,p,m,k,l,e,_⟩:=g;have f:j.1=(n:Int):=by rw [e]
  exact ⟨j,n,rfl,by rw [<- b,f],f,d,(a8.1 l).1⟩
theorem JobAt.left {L:Tl} {n:Nat} {j:Job} (h:JobAt L n j):Uc j.2=some ((UA L j:Int),0)/\UQ j.2=some ((UA L j:Int),0)/\UA L j<=10000:=by
 obtain ⟨b,c,a,k,i,rfl,g,_,d,f⟩:=h;have l:=d.len;have m:=f.len
 have e:UA L ((n:Int),Vc c.2 b.2 a k)=c.2.length+b.2.length-k:=by
  unfold UA;simp only [bl,i];show c.2.length+b.2.length-((k:Int)).toNat=_;rw [bl]
 rw [e];exact ⟨aF f d a g,Zg f d a g,by omega⟩
theorem iE {L:Tl} (v:VLev L) {n:Nat} (c:n<12):XT (L.1,(n:Int))=some (Uo L.1 n,0):=by
 have a:=v.B1;have b:=v.B2;unfold XT;rw [TP,if_neg (by omega),TM,if_neg (by omega),TP,if_neg (by omega),TL,if_neg (by omega),ZI a b (by omega)];have:Rx (n:Int) 0=true:=by unfold Rx;simp
 rw [this];rfl
theorem kM {L:Tl} (v:VLev L) {n:Nat} (c:n<12):Yh (L.1,(n:Int))=some (Uo L.1 n,0):=by
 have a:=v.B1;have b:=v.B2;unfold Yh;rw [TP,if_neg (by omega),TM,if_neg (by omega),TP,if_neg (by omega),TL,if_neg (by omega),dZ a b (by omega),Sx]
theorem cN {L:Tl} (v:VLev L) (k:Int):Wv (L,k)=some (if k<0\/k>=12 then 7 else 0):=by
 obtain ⟨c,d⟩:=v.small;unfold Wv;rw [Yn _ c d,Wa v,Sx,TQ,if_pos rfl,TP,TL];by_cases a:k<0
 ·rw [if_pos a,if_pos (.inl a)]
 ·rw [if_neg a];by_cases b:k>=12
  ·rw [if_pos b,if_pos (.inr b)]
  ·rw [if_neg b,if_neg (by omega)]
theorem j7 (l:List UN):S8 (l.length:Int) 2=decide (l.length<2):=by
 unfold S8;rw [decide_eq_decide];omega
theorem iD {L:Tl} (v:VLev L) {n:Nat} (d:n<=12):XS (L,(n:Int))=some (ZU L n,if n>=12 then 7 else 0):=by
 unfold XS ZU;simp only [Tq,Tn];rw [cN v,Sx,TQ];by_cases h:n>=12
 ·rw [if_pos (show (n:Int)<0\/(n:Int)>=12 by omega),if_neg (by decide),if_pos h];simp;omega
 ·rw [if_neg (show ¬ ((n:Int)<0\/(n:Int)>=12) by omega),if_pos rfl,if_neg h,TP];have a:n<12:=by omega
  by_cases c:n<L.2.length
  ·have b:L.2[n]? = some (L.2[n]'c):=by simp
   rw [if_pos (by omega),Ti,TC b,b,j7,hI];simp [a]
  ·rw [if_neg (by omega),a9 (by omega)];simp [a]
theorem kY {s:Th} (v:VLev s.1) {n:Nat} (c:n<12):Yl (s,(n:Int))=some (ZU s.1 (n+1)):=by
 unfold Yl ZU;simp only [Tq,Tn];rw [Tu (by omega),TP];by_cases h:n+1<12
 ·rw [if_pos (by omega),TL];by_cases b:n+1<s.1.2.length
  ·have a:s.1.2[n+1]? = some (s.1.2[n+1]'b):=by simp
   rw [if_neg (by omega),Ti,TC a,a,j7,hI];simp [h]
  ·rw [if_pos (by omega),a9 (by omega)];simp [h]
 ·rw [if_neg (by omega)];simp;omega
abbrev wT:=Th×(Job×Int)
theorem bE {s:Th} (v:VLev s.1) {n:Nat} {j:Job} (a:j.1=(n:Int)) (b:n<12) (l:Int):UX (s,(j,l))=some (V2 s.1 j):=by
 unfold UX V2;simp only [Tq,Tn];rw [a,iE v b,Sx,TK,if_pos rfl,bl];rfl
theorem bf {s:Th} (v:VLev s.1) {n:Nat} {j:Job} (a:j.1=(n:Int)) (b:n<12):Wl (s,j)=some (V2 s.1 j):=by
 unfold Wl V2;simp only [Tq,Tn];rw [a,kM v b,Sx,bl];rfl
theorem kV {s:Th} (v:VLev s.1) {n:Nat} {j:Job} (a:j.1=(n:Int)) (b:n<12) (l:Int):Vh (s,(j,l))=some (ZU s.1 (n+1)):=by
 unfold Vh;simp only;rw [a,Tu (by omega),iD v (by omega),Sx,TK];by_cases h:n+1>=12
 ·rw [if_pos h,if_neg (show ¬ (7:Int)=0 by decide)];unfold ZU;simp;omega
 ·rw [if_neg h,if_pos rfl]
theorem bu {s:Th} (v:VLev s.1) {n:Nat} {j:Job} (a:j.1=(n:Int)) (b:n<12) (l:Nat) (d:l=UA s.1 j):Ug (s,(j,(l:Int)))=some (WE s.1 j):=by
 have c:UK (s,(j,(l:Int)))=some (decide (0<UA s.1 j)):=by
  unfold UK S6;rw [d];simp
 have e1:=bE v a b (l:Int);have e2:=kV v a b (l:Int);unfold Ug WE;rw [c,e1,e2,a,bl];simp only [Sx];cases e:decide (0<UA s.1 j) with
 | true=>exact UI (x:=(0,((0,true),()))) (U3 (n:=1) (by omega) (UR rfl)) rfl
 | false =>
  cases f:V2 s.1 j with
  | true=>exact UI (x:=(0,((1,true),()))) (U3 (n:=2) (by omega) ((UL (s':=(1,false)) rfl).trans (UR rfl))) rfl
  | false =>
   cases g:ZU s.1 (n+1) with
   | true=>exact UI (x:=(0,((2,true),()))) (U3 (n:=3) (by omega) ((UL (s':=(1,false)) rfl).trans ((UL (s':=(2,false)) rfl).trans (UR rfl)))) rfl
   | false=>exact UI (x:=(1,((3,false),()))) (U3 (n:=4) (by omega) ((UL (s':=(1,false)) rfl).trans ((UL (s':=(2,false)) rfl).trans ((UL (s':=(3,false)) rfl).trans (UR rfl))))) rfl
end
section
open Go Sv
def We {α:Type} (z:α) (f:Th->Job->α×Int) (s:Th) (a:Int):α×Int:=if (Tk s).2≠0 then (z,(Tk s).2) else match aO s a with
 | some j=>f s j
 | none=>(z,4)
def z0:wT:=(((0,[]),([],0)),((0,(([],([],([],([],0)))),((false,([],false)),([],0)))),0))
theorem cd {s:Th} (m:Sm s) (a:Int):VK (s,a)=some (We z0 (λs j=>((s,(j,(UA s.1 j:Int))),0)) s a):=by
 unfold VK;rw [cC m,Sx];unfold We aO X8;by_cases b:(Tk s).2=0;rotate_left
 ·rw [if_pos b,TQ,if_neg b,if_pos b];rfl
 rw [if_neg (show ¬ (Tk s).2≠0 by simp [b]),if_neg (show ¬ (Tk s).2≠0 by simp [b])];have v:=Ts.1 b;cases e:Zl a 0 (Tp 0 s.1.2) with
 | none=>rfl
 | some i =>
  obtain ⟨j,n,c,g,f,d,h⟩:=v.at e;simp only;rw [TQ,if_pos rfl,Ti,TC c,c,(JobAt.left d).1,Sx]
theorem sf {s:Th} (m:Sm s) (a:Int):XR (s,a)=some (We false (λs j=>(WE s.1 j,0)) s a):=by
 unfold XR;rw [cd m,Sx];unfold We;by_cases b:(Tk s).2=0;rotate_left
 ·rw [if_pos b,TQ,if_neg b,if_pos b]
 rw [if_neg (show ¬ (Tk s).2≠0 by simp [b]),if_neg (show ¬ (Tk s).2≠0 by simp [b])];have v:=Ts.1 b;unfold aO;cases d:Zl a 0 (Tp 0 s.1.2) with
 | none=>rfl
 | some i =>
  obtain ⟨j,n,e,g,c,f,h⟩:=v.at d;have:=v.lev.len;simp only [e];rw [TQ,if_pos rfl,bu v.lev c (by omega) _ rfl,Sx]
theorem YY {s:Th} (m:Sm s) (a:Int):U8 (s,a)=some (We 0 (λs j=>((UA s.1 j:Int),0)) s a):=by
 unfold U8;rw [ZC m,Sx];unfold We aO X8;by_cases b:(Tk s).2=0;rotate_left
 ·rw [if_pos b,TQ,if_neg b,if_pos b]
 rw [if_neg (show ¬ (Tk s).2≠0 by simp [b]),if_neg (show ¬ (Tk s).2≠0 by simp [b])];have v:=Ts.1 b;cases e:Zl a 0 (Tp 0 s.1.2) with
 | none=>rfl
 | some i =>
  obtain ⟨j,n,c,g,f,d,h⟩:=v.at e;simp only [c];rw [TQ,if_pos rfl,Ti,TC c,(JobAt.left d).2.1,Sx]
theorem cR {s:Th} (m:Sm s) (a:Int):Wx (s,a)=some (We false (λs j=>(WE s.1 j,0)) s a):=by
 unfold Wx;rw [YY m,Sx,ZC m,Sx];unfold We;by_cases b:(Tk s).2=0;rotate_left
 ·rw [if_pos b,TQ,if_neg b,if_pos b]
 rw [if_neg (show ¬ (Tk s).2≠0 by simp [b]),if_neg (show ¬ (Tk s).2≠0 by simp [b])];have v:=Ts.1 b;unfold aO X8;cases f:Zl a 0 (Tp 0 s.1.2) with
 | none=>rfl
 | some i =>
  obtain ⟨j,n,e,g,c,h,k⟩:=v.at f;have:=v.lev.len;rw [if_neg (show ¬ (Tk s).2≠0 by simp [b])];simp only [e];rw [TQ,if_pos rfl,TM,Ti,TC e,bf v.lev c (by omega),Sx,g,kY v.lev (by omega),Sx];unfold WE;rw [c,bl];by_cases d:0<UA s.1 j
  ·rw [if_pos (by omega)];simp [d]
  ·rw [if_neg (by omega)];cases V2 s.1 j<;>simp [d,Sc,R7]
def Z0 (s:Th) (j:Job):Int×Int:=if 0<UA s.1 j then (0,9) else if V2 s.1 j=true then (j.1,0) else (j.1+1,0)
theorem te {s:Th} (m:Sm s) (a:Int):YP (s,a)=some (We 0 Z0 s a):=by
 unfold YP;rw [cd m,Sx];unfold We;by_cases b:(Tk s).2=0;rotate_left
 ·rw [if_pos b,TQ,if_neg b,if_pos b]
 rw [if_neg (show ¬ (Tk s).2≠0 by simp [b]),if_neg (show ¬ (Tk s).2≠0 by simp [b])];have v:=Ts.1 b;unfold aO;cases f:Zl a 0 (Tp 0 s.1.2) with
 | none=>rfl
 | some i =>
  obtain ⟨j,n,g,h,c,k,l⟩:=v.at f;have:=v.lev.len;simp only [g];unfold UK Z0;rw [TQ,if_pos rfl,Sx,TM,bE v.lev c (by omega),Sx,h,Tu (by omega),c];by_cases e:0<UA s.1 j
  ·rw [if_pos (show ((UA s.1 j:Int))>0 by omega),if_pos e]
  ·rw [if_neg (show ¬ ((UA s.1 j:Int))>0 by omega),if_neg e,TV];by_cases d:V2 s.1 j=true
   ·rw [if_pos d,if_pos d]
   ·rw [if_neg d,if_neg d];rfl
theorem eM {s:Th} (m:Sm s) (a:Int):Xz (s,a)=some (We 0 Z0 s a):=by
 unfold Xz;rw [YY m,Sx,ZC m];unfold We;by_cases b:(Tk s).2=0;rotate_left
 ·rw [if_pos b,TK,if_neg b,TQ,if_neg b,if_pos b]
 rw [if_neg (show ¬ (Tk s).2≠0 by simp [b]),if_neg (show ¬ (Tk s).2≠0 by simp [b])];have v:=Ts.1 b;unfold aO X8;cases g:Zl a 0 (Tp 0 s.1.2) with
 | none=>rfl
 | some i =>
  obtain ⟨j,n,f,h,c,k,l⟩:=v.at g;have:=v.lev.len;rw [if_neg (show ¬ (Tk s).2≠0 by simp [b])];simp only [f];unfold Z0;rw [TK,if_pos rfl,TM];by_cases e:0<UA s.1 j
  ·rw [if_pos (show ((UA s.1 j:Int))>0 by omega),if_pos e]
  ·rw [if_neg (show ¬ ((UA s.1 j:Int))>0 by omega),if_neg e,TQ,if_pos rfl,Sx,Ti,TC f,bf v.lev c (by omega),Sx,TV,h,Tu (by omega),c];by_cases d:V2 s.1 j=true
   ·rw [if_pos d,if_pos d]
   ·rw [if_neg d,if_neg d];rfl
theorem gV {s:Th} (m:Sm s):WP s=some (if (Tk s).2≠0 then ([],(Tk s).2) else (Tp 0 s.1.2,0)):=by
 unfold WP;simp only [Tq,Tn];rw [ua m,Sx,TQ];by_cases a:(Tk s).2=0;rotate_left
 ·rw [if_neg a,if_pos a]
 rw [if_pos a,if_neg (show ¬ (Tk s).2≠0 by simp [a])];have e:=(Ts.1 a).lev.len
 rw [Ut (l:=s.1.2) (σ:=List Int) (s:=((0:Int),([]:List Int))) (λi m=>((i:Int),m)) (λls i m=>m++Tp i ls=Tp 0 s.1.2) (λ_ _ _=>(0,(((s.1.2.length:Int),Tp 0 s.1.2),()))) [] rfl (by omega) rfl (λm h=>by
  simp only;rw [re,R7,<- h];simp [Tp]) (λi rs ls m hd c hi h=>by
   refine ⟨m++(if rs.length=2 then [(i:Int)] else []),?_,?_,rfl⟩
   ·simp only;rw [rl hi,Sc,Ti,TC c,TK]
    have f:m.length<=1000:=by
     have b:=congrArg nb h;have d:=VD s.1.2 0;rw [hM] at b;omega
    by_cases b:rs.length=2
    ·rw [if_pos (by omega),if_pos b,Ua (by simp only [BF,ci,co];omega),Tv c (by omega)];rfl
    ·rw [if_neg (by omega),if_neg b,gs,Tv c (by omega)]
   ·rw [cP];exact h),Sx]
def WN (s:Th):List Int->Option Int
 | []=>none
 | d::l=>if (We false (λs j=>(WE s.1 j,0)) s d).1=true then some d else WN s l
def VG (s:Th):Int×Int:=if (Tk s).2≠0 then (0,(Tk s).2) else if Tp 0 s.1.2=[] then (0,4) else match WN s (Tp 0 s.1.2) with
 | some d=>(d,0)
 | none=>(0,9)
theorem VSt.atDue {s:Th} (v:VSt s) {d:Int} (h:d∈Tp 0 s.1.2) : ∃ (j:Job) (n:Nat),aO s d=some j/\d=(n:Int)/\j.1=(n:Int)/\JobAt s.1 n j/\n<s.1.2.length:=by
 obtain ⟨i,b⟩:=cE (k:=0) h;obtain ⟨j,n,e,f,a,c,g⟩:=v.at b;exact ⟨j,n,by unfold aO;rw [b];exact e,f,a,c,g⟩
theorem pP {s:Th} (m:Sm s):VA s=some (VG s):=by
 unfold VA VG;rw [gV m,Sx];by_cases a:(Tk s).2=0;rotate_left
 ·rw [if_pos a,TQ,if_neg a,if_pos a]
 rw [if_neg (show ¬ (Tk s).2≠0 by simp [a]),if_neg (show ¬ (Tk s).2≠0 by simp [a]),TQ,if_pos rfl];have v:=Ts.1 a;have z:(Tp 0 s.1.2).length<=12:=by have:=VD s.1.2 0;have:=v.lev.len;omega
 simp only [Tq,Tn];rw [TK];by_cases b:Tp 0 s.1.2=[]
 ·rw [if_pos (by rw [b];rfl),if_pos b]
 rw [if_neg (by have:=eb.2 b;omega),if_neg b];obtain ⟨T,q⟩ : ∃ T,T=WN s (Tp 0 s.1.2):=⟨_,rfl⟩;rw [<- q]
 obtain ⟨r,C,u⟩:=Wg (l:=Tp 0 s.1.2) (σ:=Unit) (s:=((0:Int),(false,((0:Int),(0:Int))))) (λk _=>((0:Int),(false,((k:Int),(0:Int))))) (λl k _=>WN s l=T) (λ(r:Nat×((Int×(Bool×(Int×Int)))×Unit))=>r.1=1/\((T=none/\r.2.1.2.1=false)\/(∃ d,T=some d/\r.2.1.2.1=true/\r.2.1.2.2.2=d)))
  (f:=λs1=>br (S8 s1.2.2.1 ((Tp 0 s.1.2).length:Int)) (λ_=>R1 s1.2.2.1 λB=>ix (Tp 0 s.1.2) B λw=>bd (VK (s,w)) λp=>br (Ry p.2 0) (λ_=>some (.dn ((0,((p.2,(s1.2.1,(s1.2.2.1,0))),()))))) λ_=>bd (Ug p.1) λE=>br E (λ_=>some (.dn ((1,((s1.1,(true,(s1.2.2.1,w))),()))))) λ_=>some (.nx ((s1.1,(s1.2.1,(SF .i64 s1.2.2.1 1,s1.2.2.2)))))) λ_=>some (.dn ((1,(s1,())))))
  () rfl (by omega) q.symm (λ_ h=>⟨_,by simp only;rw [re];rfl,rfl,.inl ⟨by rw [<- h];rfl,rfl⟩⟩) (λk d l _ hd i A h=>by
   simp only;obtain ⟨j,n,t,G,g,F,b⟩:=v.atDue (bo i);have:=v.lev.len;unfold WN at h;have x:We false (λs j=>(WE s.1 j,0)) s d=(WE s.1 j,0):=by unfold We;rw [if_neg (show ¬ (Tk s).2≠0 by simp [a]),t]
   have y:We z0 (λs j=>((s,(j,(UA s.1 j:Int))),0)) s d=((s,(j,(UA s.1 j:Int))),0):=by unfold We;rw [if_neg (show ¬ (Tk s).2≠0 by simp [a]),t]
   rw [x] at h;rw [rl A,Sc,Ti,TC i,cd m,y,Sx,TQ,if_pos rfl,bu v.lev g (by omega) _ rfl,Sx,TV];by_cases e:WE s.1 j=true
   ·rw [if_pos e];rw [if_pos e] at h;exact .inr ⟨_,rfl,rfl,.inr ⟨d,h.symm,rfl,rfl⟩⟩
   ·rw [if_neg e];rw [if_neg e] at h
    exact .inl ⟨(),by rw [Tv i (by omega)],h⟩)
 refine UI C ?_;obtain ⟨u,c⟩:=u;rw [Sy,if_neg (show ¬ r.1=0 by omega),US,TV];rcases c with ⟨c,o⟩ | ⟨d,c,o,D⟩
 ·rw [if_neg (by simp [o]),c]
 ·rw [if_pos o,c,D]
theorem iH {s:Th} (m:Sm s):Yj s=some (VG s):=by
 unfold Yj VG;rw [az m,Sx];by_cases a:(Tk s).2=0;rotate_left
 ·rw [if_pos a,TQ,if_neg a,if_pos a]
 rw [if_neg (show ¬ (Tk s).2≠0 by simp [a]),if_neg (show ¬ (Tk s).2≠0 by simp [a]),TQ,if_pos rfl];have v:=Ts.1 a;have o:(Tp 0 s.1.2).length<=12:=by have:=VD s.1.2 0;have:=v.lev.len;omega
 simp only [Tq,Tn];rw [TK];by_cases b:Tp 0 s.1.2=[]
 ·rw [if_pos (by rw [b];rfl),if_pos b]
 rw [if_neg (by have:=eb.2 b;omega),if_neg b];obtain ⟨T,n⟩ : ∃ T,T=WN s (Tp 0 s.1.2):=⟨_,rfl⟩;rw [<- n]
 obtain ⟨r,u,c⟩:=Wg (l:=Tp 0 s.1.2) (σ:=Unit) (s:=((0:Int),((0:Int),(0:Int)))) (λk _=>((0:Int),((0:Int),(k:Int)))) (λl k _=>WN s l=T) (λ(r:Nat×((Int×(Int×Int))×Unit))=>(r.1=1/\T=none)\/(r.1=0 /\ ∃ d,T=some d/\r.2.1.2.1=d/\r.2.1.1=0))
  (f:=λs1=>br (S8 s1.2.2 ((Tp 0 s.1.2).length:Int)) (λ_=>R1 s1.2.2 λq=>ix (Tp 0 s.1.2) q λz=>bd (Wx (s,z)) λy=>br y.1 (λ_=>R1 s1.2.2 λt=>ix (Tp 0 s.1.2) t λA=>some (.dn ((0,((0,(A,s1.2.2)),()))))) λ_=>some (.nx ((s1.1,(s1.2.1,SF .i64 s1.2.2 1))))) λ_=>some (.dn ((1,(s1,())))))
  () rfl (by omega) n.symm (λ_ h=>⟨_,by simp only;rw [re];rfl,.inl ⟨rfl,by rw [<- h];rfl⟩⟩) (λk d l _ hd g p h=>by
   simp only;unfold WN at h;rw [rl p,Sc,Ti,TC g,cR m,Sx,TV,Ti,TC g];by_cases e:(We false (λs j=>(WE s.1 j,0)) s d).1=true
   ·rw [if_pos e];rw [if_pos e] at h;exact .inr ⟨_,rfl,.inr ⟨rfl,d,h.symm,rfl,rfl⟩⟩
   ·rw [if_neg e];rw [if_neg e] at h
    exact .inl ⟨(),by rw [Tv g (by omega)],h⟩)
 refine UI u ?_;rw [Sy];rcases c with ⟨c,i⟩ | ⟨c,d,i,w,x⟩
 ·rw [if_neg (show ¬ r.1=0 by omega),i]
 ·rw [if_pos c,i,w,x]
end
section
open Go Sv
theorem gO {β:Type} (k:Unit->Option β):gd true k=k ():=rfl
def To (l:List (List UN)) (i:Nat):List UN:=(l[i]?).getD []
def Ye (l:List (List UN)):Nat->Nat
 | 0=>0
 | k+1=>if To l k=[] then Ye l k else k+1
def YX (l:List (List UN)) (n:Nat):List (List UN):=l++FF (n+1-l.length) []
def Wt (l:List (List UN)) (n:Nat) (r:List UN):List (List UN):=(YX l n).set n r
def X4 (l:List (List UN)):List (List UN):=l.take (Ye l l.length)
def Uu (L:Tl) (n:Nat) (r:List UN):Tl:=(L.1,X4 (Wt L.2 n r))
theorem cA (l:List (List UN)) : ∀ k,Ye l k<=k
 | 0=>dc _
 | k+1=>by
  unfold Ye;split
  ·exact Nat.le_succ_of_le (cA l k)
  ·exact dc _
theorem aa (l:List (List UN)) : ∀ {k i:Nat},Ye l k<=i->i<k->To l i=[]
 | 0,_,_,h=>by omega
 | k+1,i,h1,h2=>by
  unfold Ye at h1;split at h1
  ·rename_i a;by_cases hi:i=k
   ·rw [hi];exact a
   ·exact aa l h1 (by omega)
  ·omega
theorem bN (l:List (List UN)) : ∀ {k m:Nat},Ye l k=m+1->To l m≠[]
 | 0,m,h=>by cases h
 | k+1,m,h=>by
  unfold Ye at h;split at h
  ·exact bN l h
  ·rename_i a;have:m=k:=by omega
   rw [this];exact a
theorem bZ (l:List (List UN)) (i:Nat):To (X4 l) i=To l i:=by
 unfold X4;by_cases h:i<Ye l l.length
 ·unfold To;rw [q9,if_pos h]
 ·have a:To (l.take (Ye l l.length)) i=[]:=by
   unfold To;rw [q9,if_neg h];rfl
  rw [a];by_cases b:i<l.length
  ·exact (aa l (by omega) b).symm
  ·unfold To;rw [a9 (by omega)];rfl
theorem fy (l:List (List UN)):(X4 l).getLast? ≠ some []:=by
 have b:(X4 l).length=Ye l l.length:=by
  have:=cA l l.length;unfold X4;rw [tw];omega
 cases hd:Ye l l.length with
 | zero =>
  have:X4 l=[]:=List.length_eq_zero_iff.1 (by rw [b,hd]);rw [this];simp
 | succ m =>
  have c:=bN l hd;rw [pg,b,hd];intro d;have a:To (X4 l) m=[]:=by unfold To;rw [show m=m+1-1 by omega,d];rfl
  rw [bZ] at a;exact c a
theorem ZB (l:List (List UN)) (n:Nat):(YX l n).length=max l.length (n+1):=by
 unfold YX;simp;omega
theorem dO (l:List (List UN)) (n i:Nat):To (YX l n) i=To l i:=by
 unfold To YX;by_cases h:i<l.length
 ·rw [List.getElem?_append_left h]
 ·rw [List.getElem?_append_right (by omega),List.getElem?_replicate,a9 (l:=l) (by omega)];split<;>rfl
theorem dT (l:List (List UN)) (n i:Nat) (r:List UN):To (Wt l n r) i=if i=n then r else To l i:=by
 unfold Wt;by_cases h:i=n
 ·rw [if_pos h,h];have:=ZB l n;unfold To;rw [List.getElem?_set_self (by omega)];rfl
 ·rw [if_neg h];unfold To;rw [List.getElem?_set_ne (λe=>h e.symm)];exact dO l n i
theorem Wy (L:Tl) (n i:Nat) (r:List UN):To (Uu L n r).2 i=if i=n then r else To L.2 i:=by
 show To (X4 _) i=_;rw [bZ,dT]
theorem f8 (L:Tl) (n:Nat) (r:List UN):(Uu L n r).2.getLast? ≠ some []:=fy _
theorem jR (L:Tl) (n:Nat) (r:List UN):(Uu L n r).2.length<=max L.2.length (n+1):=by
 show (X4 _).length<=_;unfold X4;rw [tw];have:(Wt L.2 n r).length=max L.2.length (n+1):=by unfold Wt;rw [yw,ZB]
 omega
theorem gy (l:List (List UN)):(X4 l).flatten=l.flatten:=by
 have h:l=X4 l++l.drop (Ye l l.length):=(xm _ _).symm
 have a:(l.drop (Ye l l.length)).flatten=[]:=by
  rw [xb];intro x c;obtain ⟨i,hi⟩:=eo c;rw [List.getElem?_drop] at hi;have b:=(a8.1 hi).1;have:=aa l (k:=l.length) (i:=Ye l l.length+i) (by omega) b;unfold To at this;rw [hi] at this;exact this
 conv=>rhs;rw [h,ns,a,gs]
theorem jp (l:List (List UN)) (n:Nat):(YX l n).flatten=l.flatten:=by
 unfold YX;rw [ns]
 have:(FF (n+1-l.length) ([]:List UN)).flatten=[]:=by
  rw [xb];intro x a;exact (List.mem_replicate.1 a).2
 rw [this,gs]
theorem Xu (L:Tl) (n:Nat) (r:List UN) : ∃ p q,L.2.flatten=p++(To L.2 n++q)/\(Uu L n r).2.flatten=p++(r++q):=by
 have a:n<(YX L.2 n).length:=by rw [ZB];omega
 refine ⟨((YX L.2 n).take n).flatten,((YX L.2 n).drop (n+1)).flatten,?_,?_⟩
 ·rw [<- dO L.2 n n,<- jp L.2 n]
  have:YX L.2 n=(YX L.2 n).take n++((YX L.2 n)[n]::(YX L.2 n).drop (n+1)):=by
   rw [<- vv a,xm]
  have b:To (YX L.2 n) n=(YX L.2 n)[n]:=by unfold To;rw [eg a];rfl
  rw [b]
  conv=>lhs;rw [this]
  rw [ns,li]
 ·show (X4 (Wt L.2 n r)).flatten=_;rw [gy];unfold Wt;rw [List.set_eq_take_append_cons_drop,if_pos a,ns,li]
theorem VLev.own {L:Tl} (v:VLev L) (i:Nat):(To L.2 i).length<=2 /\ ∀ r∈To L.2 i,VR (Uo L.1 i) r:=by
 unfold To;cases h:L.2[i]? with
 | none=>exact ⟨by simp,λr a=>by cases a⟩
 | some rs=>exact v.lev i rs h
theorem VLev.with' {L:Tl} (v:VLev L) {n:Nat} (f:n<12) {r:List UN} (d:r.length<=2) (e : ∀ x∈r,VR (Uo L.1 n) x) (b:((Uu L n r).2.flatten.map qf).Nodup):VLev (Uu L n r):=by
 refine ⟨v.B1,v.B2,?_,λi rs hi => ?_,b,f8 L n r⟩
 ·have:=jR L n r;have:=v.len;omega
 ·have a:=Wy L n i r;unfold To at a;rw [hi] at a;simp only [hI] at a;rw [a];split
  ·rename_i c;rw [c];exact ⟨d,e⟩
  ·exact v.own i
theorem VLev.leave {L:Tl} (v:VLev L) {n:Nat} (c:n<12):VLev (Uu L n []):=by
 refine v.with' c (by simp) (λ_ h=>by cases h) ?_
 obtain ⟨p,q,a,b⟩:=Xu L n [];have:=v.ids;rw [a] at this;rw [b,ox];refine s7.nodup (s7.map _ ?_) this;exact s7.append (s7.refl _) (List.sublist_append_right _ _)
theorem VLev.arrive {L:Tl} (v:VLev L) {n:Nat} (g:n<12) {x:UN} (j:(To L.2 n).length<2) (i:VR (Uo L.1 n) x) (b : ∀ y∈L.2.flatten,y.1≠x.1):VLev (Uu L n (To L.2 n++[x])):=by
 refine v.with' g (by simp;omega) (λy hy => ?_) ?_
 ·rcases ol.1 hy with hy | hy
  ·exact (v.own n).2 y hy
  ·rw [tb.1 hy];exact i
 ·obtain ⟨p,q,c,d⟩:=Xu L n (To L.2 n++[x])
  have h:(Uu L n (To L.2 n++[x])).2.flatten.Perm (x::L.2.flatten):=by
   rw [c,d,cP];refine List.Perm.trans ?_ (List.perm_middle (l₁:=p++To L.2 n) (l₂:=q) (a:=x) |>.trans (by rw [cP]));rw [cP];exact List.Perm.refl _
  refine (h.map qf).nodup_iff.2 (oy.2 ⟨λf => ?_,v.ids⟩);obtain ⟨y,hy,e⟩:=o3.1 f;exact b y hy e
theorem ak {l:List (List UN)} {x:UN}:x∈l.flatten <-> ∃ i,x∈To l i:=by
 rw [l5];constructor
 ·rintro ⟨rs,a,b⟩;obtain ⟨i,hi⟩:=eo a;exact ⟨i,by unfold To;rw [hi];exact b⟩
 ·rintro ⟨i,h⟩;unfold To at h;cases hi:l[i]? with
  | none=>rw [hi] at h;cases h
  | some rs=>rw [hi] at h;exact ⟨rs,bo hi,h⟩
theorem Zs {l:List (List UN)} {x:UN} (h:x∈l.flatten):x.1<=WZ l:=by
 have d : ∀ (rs:List UN) (m:Int),m<=rs.foldl (λm r=>TY m r.1) m /\ ∀ x∈rs,x.1<=rs.foldl (λm r=>TY m r.1) m:=by
  intro rs
  induction rs with
  | nil=>intro m;exact ⟨by simp,λx hx=>by cases hx⟩
  | cons r rs c =>
   intro m;obtain ⟨b,a⟩:=c (TY m r.1);rw [XG] at b a;simp only [iP,XG] at b a ⊢;refine ⟨by omega,λx hx => ?_⟩;rcases ey.1 hx with e | hx
   ·rw [e];omega
   ·exact a x hx
 have two : ∀ (ls:List (List UN)) (m:Int),m<=ls.foldl (λm rs=>rs.foldl (λm r=>TY m r.1) m) m /\ ∀ rs∈ls,∀ x∈rs,x.1<=ls.foldl (λm rs=>rs.foldl (λm r=>TY m r.1) m) m:=by
  intro ls
  induction ls with
  | nil=>intro m;exact ⟨by simp,λx hx=>by cases hx⟩
  | cons rs ls c =>
   intro m;obtain ⟨b,a⟩:=c (rs.foldl (λm r=>TY m r.1) m);obtain ⟨i,g⟩:=d rs m;simp only [iP];refine ⟨by omega,λf hrs x hx => ?_⟩;rcases ey.1 hrs with e | hrs
   ·subst e;have:=g x hx;omega
   ·exact a f hrs x hx
 obtain ⟨rs,b,a⟩:=l5.1 h;exact (two l 0).2 rs b x a
end
section
open Go Sv
theorem bO {M:List (List UN)} {f:Int->Option (LR Int (Nat×(Int×Unit)))} (a:f 0=some (.dn (0,(0,())))) (hs : ∀ k,k<M.length->f ((k+1:Nat):Int)=if To M k=[] then some (.nx (k:Int)) else some (.dn (0,(((k+1:Nat):Int),())))) : ∀ k,k<=M.length->IL (k+1) f (k:Int)=some (0,((Ye M k:Nat):Int),())
 | 0,_=>UR a
 | k+1,hk=>by
  have h:=hs k (by omega);unfold Ye;by_cases b:To M k=[]
  ·rw [if_pos b] at h ⊢;rw [UL h];exact bO a hs k (by omega)
  ·rw [if_neg b] at h ⊢;exact UR h
theorem tC (L:List (List UN)) (n:Nat):LC (Rd (max L.length (n+1)) ([]:List UN)) 0 L (AS (Rd (max L.length (n+1)) ([]:List UN)))=YX L n:=by
 have a:AS (Rd (max L.length (n+1)) ([]:List UN))=max L.length (n+1):=by unfold AS Rd;simp
 rw [a];unfold LC YX Rd;rw [List.take_of_length_le (by omega:L.length<=max L.length (n+1))];simp only [List.take_zero,ox,List.drop_replicate,ee]
 congr 2
 omega
theorem j0 (l:List (List UN)) (n:Nat) (r:List UN):lset (YX l n) n r=Wt l n r:=rfl
theorem WI {l:List (List UN)} {i:Nat} (h:i<l.length):l[i]? = some (To l i):=by
 unfold To;rw [eg h];rfl
theorem cJ {β:Type} (l:List UN) (x y:Unit->Option β):br (Oa (l.length:Int) 0) x y=if l=[] then x () else y ():=by
 rw [TK];by_cases h:l=[]
 ·rw [if_pos h,if_pos (by rw [h];rfl)]
 ·rw [if_neg h,if_neg (by have:=eb.2 h;omega)]
theorem Z8 {L:Tl} (h:L.2.length<=1000) {n:Nat} (i:n<1000) (r:List UN):V6 (L,((n:Int),r))=some (Uu L n r):=by
 have b:TY (Ki (AS L.2)) (SF .i64 (n:Int) 1)=((max L.2.length (n+1):Nat):Int):=by
  rw [Tu (by omega),XG,Tq,Tn];omega
 unfold V6;simp only [b,Ti,tC,j0];have d:(YX L.2 n).length=max L.2.length (n+1):=ZB _ _;have j:(Wt L.2 n r).length=max L.2.length (n+1):=by unfold Wt;rw [yw,d]
 rw [Ua (by omega),S3,if_pos (by rw [Tn,d];omega),TC (WI (by omega))]
 have c:=bO (M:=Wt L.2 n r) (f:=λa=>br (S6 a 0) (λ_=>R1 (SK .i64 a 1) λe=>gd (KJ e (AS (Wt L.2 n r))) λ_=>ix (Wt L.2 n r) e λg=>br (Oa (Ki (AS g)) 0) (λ_=>some (.nx (SK .i64 a 1))) λ_=>some (.dn ((0,(a,()))))) λ_=>some (.dn ((0,(a,()))))) rfl (λk b=>by
  have hi:SK .i64 ((k+1:Nat):Int) 1=(k:Int):=by rw [Sj (by omega)];omega
  simp only [hi,Ti];rw [TM,if_pos (by omega),S3,if_pos (by rw [Tn];omega),TC (WI b)]
  exact cJ _ _ _) _ (dc _)
 rw [Tq,show AS (Wt L.2 n r)=(Wt L.2 n r).length from rfl];refine UI (U3 (by omega) c) ?_;have hd:=cA (Wt L.2 n r) (Wt L.2 n r).length;simp only [Ti];rw [Ua hd,S2,if_pos (by omega),Sz,if_pos (by omega),S2,if_pos (by unfold BF Pa;omega)];unfold Uu X4 D0 BF Pa;simp
end
section
open Go Sv
def cI (d:Int) (j:Job):Bool:=Oa d j.1
def Uj (js:List Job) (d:Int):Option Job:=js.find? (cI d)
def Zt (js:List Job):List (Int×Job):=js.map λj=>(j.1,j)
def zJ:Job:=(0,(([],([],([],([],0)))),((false,([],false)),([],0))))
def Wf (L:Tl) (d:Int):Job:=match To L.2 d.toNat with
 | [r0,r1]=>(d,Vc r1.2 r0.2 (decide (d=(L.2.length:Int)-1)) 0)
 | _=>zJ
def Wm (s:Th) (L:Tl) (a d:Int):Job:=(if d=a then none else Uj s.2.1 d).getD (Wf L d)
def ZG (s:Th) (L:Tl) (next a:Int):Th:=(L,((Tp 0 L.2).map (Wm s L a),next))
theorem bX (d:Int) : ∀ js:List Job,MU (λa b=>Oa a b) (Zt js) d=Uj js d
 | []=>rfl
 | j::js=>by
  show (bif Oa d j.1 then some j else MU (λa b=>Oa a b) (Zt js) d)=(j::js).find? (cI d)
  rw [iz,bX d js];show _=match Oa d j.1 with | true=>some j | false=>Uj js d
  cases Oa d j.1<;>rfl
theorem bY {j:Job} : ∀ {js:List Job},j.1 ∉ js.map (·.1)->IT (λa b=>Oa a b) (Zt js) j.1 j=Zt (js++[j])
 | [],_=>rfl
 | i::js,h=>by
  show (bif Oa j.1 i.1 then (j.1,j)::Zt js else (i.1,i)::IT (λa b=>Oa a b) (Zt js) j.1 j)=(i.1,i)::Zt (js++[j])
  have d:Oa j.1 i.1=false:=by rw [Vw];simp;intro e;exact h (by simp [e])
  rw [d,cond_false,bY (λc=>h (by simp at c ⊢;exact .inr c))]
theorem Ym {js:List Job} {d:Int} (h:d ∉ js.map (·.1)):Uj js d=none:=by
 unfold Uj;rw [List.find?_eq_none];intro j a;unfold cI;rw [Vw];simp only [decide_eq_true_eq];intro e;exact h (by rw [e];exact l6 a)
theorem bW {x d:Int} : ∀ {js:List Job},(js.map (·.1)).Nodup->MU (λa b=>Oa a b) (IS (λa b=>Oa a b) (Zt js) x) d=if d=x then none else Uj js d
 | [],_=>by split<;>rfl
 | j::js,h=>by
  rw [kd,oy] at h;show MU (λa b=>Oa a b) (bif Oa x j.1 then Zt js else (j.1,j)::IS (λa b=>Oa a b) (Zt js) x) d=_
  have f:Uj (j::js) d=if d=j.1 then some j else Uj js d:=by
   unfold Uj;rw [iz];unfold cI;rw [Vw];by_cases e:d=j.1<;>simp [e]
  rw [Vw,f];by_cases c:x=j.1
  ·rw [show decide (x=j.1)=true by simp [c],cond_true,bX];by_cases hd:d=x
   ·rw [if_pos hd];exact Ym (by rw [hd,c];exact h.1)
   ·rw [if_neg hd,if_neg (by rw [<- c];exact hd)]
  ·rw [show decide (x=j.1)=false by simp [c],cond_false];show (bif Oa d j.1 then some j else MU (λa b=>Oa a b) (IS (λa b=>Oa a b) (Zt js) x) d)=_
   rw [bW h.2,Vw];by_cases hd:d=j.1
   ·rw [show decide (d=j.1)=true by simp [hd],cond_true,if_pos hd,if_neg (by rw [hd];exact λe=>c e.symm)]
   ·rw [show decide (d=j.1)=false by simp [hd],cond_false,if_neg hd]
theorem VR.vl' {L:Tl} (v:VLev L) {n:Nat} {r:UN} (h:r∈To L.2 n):VL r.2:=((v.own n).2 r h).vl
theorem iC (L:Tl) (a:L.2.length<=1000) (n:Nat):Vm (L,(n:Int))=some (decide ((n:Int)=(L.2.length:Int)-1)):=by
 unfold Vm;simp only [Tq,Tn];rw [Sj (by omega),Vw]
theorem jf {L:Tl} (v:VLev L) {n:Nat} (h:(To L.2 n).length=2):Xk (L,(n:Int))=some (Wf L n,0):=by
 have d:n<L.2.length:=by
  by_cases e:n<L.2.length
  ·exact e
  ·unfold To at h;rw [a9 (by omega)] at h;cases h
 have i:=v.len;obtain ⟨f,g⟩:=v.small;unfold Xk;simp only [Tq,Tn];rw [Yn _ f g,Wa v,Sx,TQ,if_pos rfl,TP,if_neg (by omega),TL,if_neg (by omega),TL,if_neg (by omega),Ti,TC (WI d),TP,if_neg (by omega),iC L (by omega) n,Sx]
 obtain ⟨b,c,a⟩ : ∃ b c,To L.2 n=[b,c]:=by
  match hq:To L.2 n with
  | [b,c]=>exact ⟨b,c,rfl⟩
  | []=>rw [hq] at h;cases h
  | [_]=>rw [hq] at h;cases h
  | _::_::_::_=>rw [hq] at h;simp at h
 rw [cg _ (by rw [WI d,a]) (VR.vl' v (n:=n) (by rw [a];simp)) (VR.vl' v (n:=n) (by rw [a];simp)),Sx];unfold Wf;rw [bl,a]
theorem XK (i:Nat) (rs:List UN) (ls:List (List UN)):Tp i (rs::ls)=(if rs.length=2 then [(i:Int)] else [])++Tp (i+1) ls:=rfl
theorem aI {s:Th} (f:(s.2.1.map (·.1)).Nodup) (r:s.2.1.length<=1000) {L:Tl} (v:VLev L) (next a:Int):UO (s,(L,(next,a)))=some (ZG s L next a,0):=by
 have t:=v.len;unfold UO;simp only [Tq,Tn]
 rw [Ut (l:=s.2.1) (σ:=List (Int×Job)) (s:=((0:Int),([]:List (Int×Job)))) (λi m=>((i:Int),m)) (λls i m => ∃ p,s.2.1=p++ls/\m=Zt p) (λ_ _ _=>(0,(((s.2.1.length:Int),Zt s.2.1),()))) [] rfl (by omega) ⟨[],rfl,rfl⟩ (λm h=>by
  obtain ⟨p,d,rfl⟩:=h
  simp only;rw [re,R7,d,gs]) (λi x ls m hd b hi h=>by
   obtain ⟨p,d,rfl⟩:=h;refine ⟨Zt (p++[x]),?_,⟨p++[x],by rw [d];simp,rfl⟩,rfl⟩;simp only;rw [rl hi,Sc,Ti,TC b,Tv b (by omega),bY];intro g;rw [d,oj,rz] at f
   exact f.2.2 _ g x.1 (by simp) rfl),Sx]
 simp only
 rw [Ut (l:=L.2) (σ:=List Job) (s:=((0:Int),((0:Int),(((0:Int),(([]:List (List UN)),(([]:List Job),(0:Int)))),(L.1,(L.2,(([]:List Job),next))))))) (λi js=>((0:Int),((i:Int),(((0:Int),(([]:List (List UN)),(([]:List Job),(0:Int)))),(L.1,(L.2,(js,next))))))) (λls i js=>js++(Tp i ls).map (Wm s L a)=(Tp 0 L.2).map (Wm s L a)) (λ_ _ _=>(0,(((0:Int),((L.2.length:Int),(((0:Int),(([]:List (List UN)),(([]:List Job),(0:Int)))),(L.1,(L.2,((Tp 0 L.2).map (Wm s L a),next)))))),()))) [] rfl (by omega) rfl (λm h=>by
  simp only;rw [re,R7,<- h];simp [Tp]) (λi rs ls m hd b hi h=>by
   have k:To L.2 i=rs:=by unfold To;rw [b];rfl
   have o:=(v.own i).1;rw [k] at o;refine ⟨m++(if rs.length=2 then [Wm s L a i] else []),?_,?_,rfl⟩
   ·simp only;rw [rl hi,Sc,Ti,TC b,TP]
    have g:m.length<=1000:=by
     have c:=congrArg nb h;have q:=VD L.2 0;rw [hM,sw,sw] at c;omega
    by_cases c:rs.length=2;rotate_left
    ·rw [if_pos (by omega),if_neg c,gs,Tv b (by omega)]
    rw [if_neg (by omega),if_pos c,bW f];have e:Wm s L a i=(if (i:Int)=a then none else Uj s.2.1 i).getD (Wf L i):=rfl
    cases n:(if (i:Int)=a then none else Uj s.2.1 (i:Int)) with
    | none =>
     rw [n,Option.getD_none] at e;rw [e,jf v (by rw [k];exact c),US,TV,if_neg (show ¬ Tb (none:Option Job)=true by simp [Tb]),Sx];simp only;rw [TQ,if_pos rfl,Ua (by simp only [BF,ci,co];omega),Tv b (by omega)];rfl
    | some j =>
     rw [n,hI] at e;rw [e,US,TV,if_pos (show Tb (some j)=true from rfl),Ua (by simp only [BF,ci,co];omega),Tv b (by omega)];rfl
   ·rw [cP,<- h,XK,oj]
    congr 2
    split<;>rfl),Sx]
 rfl
end
section
open Go Sv
def pS (s:Uk):Option Xe:=if s.1=true then some s.2.1 else none
theorem Asc.weak : ∀ {l:List Tj} {p c:Option Xe},(∀ a,c=some a -> ∃ q,p=some q/\SV q a=false)->Asc p l->Asc c l
 | [],_,_,_,_=>trivial
 | x::l,p,c,h,⟨g,i⟩=>⟨λa b=>by
  obtain ⟨q,e,j⟩:=h a b;have d:=g q e;by_cases f:a=q
  ·rw [f];exact d
  ·exact Wc (Zi j (λe=>f e.symm)) d,i⟩
theorem cv : ∀ (l:List Tj) (s:Uk),Z1 s l->Asc (pS s) (WJ s l)
 | [],_,_=>trivial
 | x::l,s,⟨_,g,h⟩=>by
  have i:=cv l _ h;have f:Asc (some x.1) (WJ (true,(x.1,s.2.2)) l):=i;unfold WJ;by_cases c:keep s x=true
  ·rw [if_pos c];refine ⟨λq d => ?_,f⟩;unfold pS at d;by_cases b:s.1=true
   ·rw [if_pos b] at d;cases d;refine Zi (g b) λe => ?_;unfold keep at c;rw [b,e] at c;simp at c
   ·rw [if_neg b] at d;cases d
  ·rw [if_neg c,ox];refine f.weak λj a=>⟨x.1,rfl,?_⟩;unfold pS at a;by_cases b:s.1=true
   ·rw [if_pos b] at a;cases a;exact g b
   ·rw [if_neg b] at a;cases a
theorem cx : ∀ {l:List Tj} {s:Uk} {x:Tj},x∈WJ s l->x∈l
 | y::l,s,x,h=>by
  unfold WJ at h;rcases ol.1 h with h | h
  ·split at h
   ·rw [tb.1 h];simp
   ·cases h
  ·exact List.mem_cons_of_mem _ (cx h)
theorem gX : ∀ {l:List Tj} {s:Uk},Z1 s l -> ∀ x∈l,kE x=0
 | y::l,s,⟨a,_,b⟩,x,h=>by
  rcases ey.1 h with e | h
  ·rw [e];exact a
  ·exact gX b x h
theorem kD {a b:List Tj} (va:VL a) (f:VL b) (c:Bool) {k:Nat} (d:k<=a.length+b.length) (j:a.length+b.length<=5000):VL (Vc a b c k).2.2.1/\(Vc a b c k).2.2.1.length<=a.length+b.length:=by
 have e:=XO va f c d
 have i:(WJ (s0 c) (UB a b k)).length<=k:=by
  have:=YO (s0 c) (UB a b k);rw [VF va f d] at this;exact this
 have g:(Vc a b c k).2.2.1=WJ (s0 c) (UB a b k):=rfl;rw [g];exact ⟨⟨by omega,λx h=>gX e x (cx h),cv _ _ e⟩,by omega⟩
theorem eI {L:Tl} (v:VLev L) {n:Nat} (h:To L.2 n≠[]):Vt (L,(n:Int))=some (Uu L n [],(To L.2 n,0)):=by
 have b:n<L.2.length:=by
  by_cases a:n<L.2.length
  ·exact a
  ·unfold To at h;rw [a9 (by omega)] at h;exact absurd rfl h
 have d:=v.len;have c:=(v.own n).1;unfold Vt;simp only [Tq,Tn];rw [cN v,Sx,if_neg (by omega),TQ,if_pos rfl,TP,if_pos (by omega),Ti,TC (WI b),cJ,if_neg h,Z8 (by omega) (by omega),Sx,Ua (by omega)]
theorem iA {S β:Type} {f:S->Option (LR S β)} {r:β} (mk:Int->S) (n:Nat) {s:S} (b:s=mk ((n:Int)-1)) (g:n<1000000) (hs : ∀ k,k<n->f (mk (k:Int))=some (.nx (mk ((k:Int)-1)))) (c:f (mk (-1))=some (.dn r)):loop f s=some r:=by
 subst b
 have a : ∀ k,k<=n->IL (k+1) f (mk ((k:Int)-1))=some r:=by
  intro k
  induction k with
  | zero=>intro _;exact UR c
  | succ k d =>
   intro e;have:=hs k (by omega);rw [show ((k+1:Nat):Int)-1=(k:Int) by omega,UL this];exact d (by omega)
 exact U3 (by omega) (a n (dc _))
theorem dI {L:Tl} (v:VLev L) {n:Nat} (m:n<12) {x:UN} (p:x.2.length<=1048576) (b : ∀ y∈L.2.flatten,y.1≠x.1) (j:(To L.2 n).length<2) :
  UY (L,((n:Int),x))=some (if kR [] (Uo L.1 n) x≠0 then ((0,[]),kR [] (Uo L.1 n) x) else (Uu L n (To L.2 n++[x]),0)):=by
 have o:=v.len;unfold UY;simp only [Tq,Tn];rw [cN v,Sx,if_neg (by omega),TQ,if_pos rfl,ZI v.B1 v.B2 (by omega),bV x _ (by omega),show Rx (n:Int) 0=true by unfold Rx;simp];rw [gO,Sx,TQ];by_cases a:kR [] (Uo L.1 n) x=0;rotate_left
 ·rw [if_neg a,if_pos a]
 rw [if_pos a,if_neg (by simp [a])]
 rw [Ut (l:=L.2) (σ:=Unit) (s:=((0:Int),(((0:Int),([]:List (List UN))),(0:Int)))) (λi _=>((i:Int),(((0:Int),([]:List (List UN))),(0:Int)))) (λ_ _ _=>True) (λ_ _ _=>(0,(((L.2.length:Int),(((0:Int),([]:List (List UN))),(0:Int))),()))) () rfl (by omega) trivial (λ_ _=>by
  simp only;rw [re];rfl) (λi rs ls _ hd hi c _=>by
   refine ⟨(),?_,trivial,rfl⟩;have e:To L.2 i=rs:=by unfold To;rw [hi];rfl
   have f:=(v.own i).1;rw [e] at f;simp only;rw [rl c,Sc,Ti,TC hi,Sj (by omega)]
   rw [iA (λk=>(k,(((0:Int),([]:List (List UN))),(0:Int)))) rs.length rfl (by omega) (λk a=>by
    have h:rs[k]? = some rs[k]:=eg a;have d:rs[k].1≠x.1:=b _ (l5.2 ⟨rs,bo hi,List.getElem_mem a⟩);simp only
    rw [TL,if_pos (by omega),Ti,TC h,TK,if_neg d,Sj (by omega)]) (r:=(0,(((-1:Int),(((0:Int),([]:List (List UN))),(0:Int))),()))) rfl,Sx]
   rw [Tv hi (by omega)]
   rfl),Sx]
 rw [Sy,if_pos rfl,TP];by_cases g:n<L.2.length
 ·rw [if_pos (by omega),Ti,TC (WI g),TK,if_neg (by omega),Ti,Ti,Ua (dc _),S1,if_pos rfl,Ua (lc _)];have hs:D0 (To L.2 n) 0 (To L.2 n).length=To L.2 n:=by unfold D0;simp
  rw [hs,Ua (by simp only [BF,ci,co];omega),Z8 (by omega) (by omega),Sx];rfl
 ·rw [if_neg (by omega)];have e:To L.2 n=[]:=by unfold To;rw [a9 (by omega)];rfl
  rw [Ua (by simp),Z8 (by omega) (by omega),Sx,e];rfl
end
end Go.Proofs.YtfipnhjfbebeiabGreatDoor.Pl
