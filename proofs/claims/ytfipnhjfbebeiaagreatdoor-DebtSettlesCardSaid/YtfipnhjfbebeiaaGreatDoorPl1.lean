/- Functions of the program and of the specification as plain functions, and laws about them. No condition. -/
import Derived.Test.YtfipnhjfbebeiaaGreatDoorPl0
set_option linter.all false
open List renaming Sublist->tb, append_assoc->eb, append_nil->gs, drop_eq_getElem_cons->sk, drop_zero->xb, find?_cons->iP, flatMap_cons->x5, flatten_append->nn, flatten_cons->kd, flatten_eq_nil_iff->xm, foldl_append->x6, foldl_cons->hI, getElem?_eq_getElem->co, getElem?_eq_none->a9, getElem?_eq_some_iff->a8, getElem?_map->tg, getElem?_of_mem->ee, getElem?_take->pg, getLast?_eq_getElem?->o3, head?->xn, head?_drop->s7, length->nb, length_append->hV, length_cons->ci, length_map->s8, length_nil->cP, length_pos_iff->ed, length_set->yn, length_take->vL, map_append->sw, map_cons->ll, mem_append->nP, mem_cons->ey, mem_flatten->l5, mem_map->oy, mem_map_of_mem->l6, mem_of_getElem?->bo, mem_singleton->tT, nil_append->oj, nodup_append->rz, nodup_cons->ol, replicate->yw, tail->wl, tail_drop->rY, take_add_one->gM, take_append_drop->s9, take_length->yb
open Nat renaming le_refl->dc, lt_of_not_le->ns, min_eq_left->xa, sub_zero->l4, zero_add->eg, zero_le->lc
open Int renaming mul_le_mul->Ds, toNat_natCast->bl, zero_add->tw
open Option renaming getD_some->hM, map_some->x9
open Bool renaming false_eq_true->li
open UInt8 renaming lt_iff_toNat_lt->xo
open Prod renaming ext->tk
namespace Go.Proofs.YtfipnhjfbebeiaaGreatDoor.Pl
section
open Go Sv
theorem U8 {S β:Type} {f:S->Option (LR S β)} {s0 s1 s2:S} {r:β} (a:f s0=some (.nx s1)) (b:f s1=some (.nx s2)) (c:f s2=some (.dn r)):loop f s0=some r :=
 U0 (n:=3) (by omega) ((UN a).trans ((UN b).trans (US c)))
theorem aT {α β:Type} {c:Bool} {n:Int} {l:List α} {K:Nat->α->Option β} {E:Unit->Option β} (k:Nat) {x:α} (hc:c=true) (b:n=(k:Int)) (d:l[k]? = some x):br c (λ_=>R1 n λa=>ix l a λe=>K a e) E=K k x:=by
 subst hc;subst b;rw [Sc,Ti,TC d]
theorem WM {α β:Type} {n:Int} {l:List α} {K:Nat->α->Option β} (k:Nat) {x:α} (b:n=(k:Int)) (c:l[k]? = some x):R1 n (λa=>ix l a λd=>K a d)=K k x:=by
 subst b;rw [Ti,TC c]
theorem XZ {l:List Tj} {i:Nat} (h:i<=l.length):UV (l,(i:Int))=some (kx l i):=by
 unfold UV kx;simp only [Tp,Tn];rw [TK];by_cases hi:i=l.length
 ·rw [if_pos (by omega),a9 (by omega)]
 ·have a:l[i]? = some l[i]:=by rw [co (by omega)]
  rw [if_neg (by omega),Ti,TC a,a]
section
variable {a b:List Tj} (va:VL a) (vb:VL b)
theorem o0 {i j:Nat} (hi:i<=a.length) (c:j<=b.length):W6 ([a,b],[(i:Int),(j:Int)])=some (Tt (kx a i) (kx b j)):=by
 unfold W6;refine UB (x:=(0,((2,[kx a i,kx b j]),()))) (U8 (s1:=(1,[kx a i,([],false)])) (s2:=(2,[kx a i,kx b j])) ?_ ?_ rfl) ?_
 ·show bd (UV (a,(i:Int))) _=_;rw [XZ hi];rfl
 ·show bd (UV (b,(j:Int))) _=_;rw [XZ c];rfl
 ·show bd (VP [kx a i,kx b j]) _=_;rw [Z6 (Uc _ _) (Uc _ _)];rfl
include va vb
theorem Zn:Ue a=some (0,0):=by
 rw [Xc _ (by have:=va.len;omega),Y7 va]
theorem Zc:V5 [a,b]=some (0,0):=by
 unfold V5;refine UB (x:=(1,((0,(0,2)),()))) (U8 (s1:=(0,(0,1))) (s2:=(0,(0,2))) ?_ ?_ rfl) rfl
 ·show bd (Ue a) _=_;rw [Zn va va];rfl
 ·show bd (Ue b) _=_;rw [Zn vb vb];rfl
theorem gj (c:Bool):XF ([a,b],c)=some (zR a b c 0,(0,0)):=by
 unfold XF;rw [Zc va vb,Sx,TQ,if_pos rfl];refine UB (x:=(0,((2,[kx a 0,kx b 0]),()))) (U8 (s1:=(1,[kx a 0,([],false)])) (s2:=(2,[kx a 0,kx b 0])) ?_ ?_ rfl) ?_
 ·show bd (UV (a,((0:Nat):Int))) _=_;rw [XZ (by omega)];rfl
 ·show bd (UV (b,((0:Nat):Int))) _=_;rw [XZ (by omega)];rfl
 ·show bd (VP [kx a 0,kx b 0]) _=_;rw [Z6 (Uc _ _) (Uc _ _)];rfl
end
theorem YE (x:Bool):Sv.beq x x=true:=by cases x<;>rfl
theorem Yr (x:Xb):seq x x=true:=by rw [aX]
theorem eI (l:List UI) (h:l.length<=1000):UH (l,l)=some true:=by
 unfold UH;simp only [Tp,Tn]
 rw [TQ,if_pos rfl,Zu (l:=l) (σ:=Unit) (s:=(0,false)) (λk _=>((k:Int),false)) (λ_ _ _=>some (1,(((l.length:Int),false),()))) () rfl (by omega) (λc=>by
  simp only;rw [re];rfl) (λk x m c _ a b => .inl ⟨(),by
   simp only;rw [rl b,Sc,Ti,TC a,Ti,TC a,Yr,YE,show Hg (Nm true (Nm true true))=false from rfl,R7,Tv a (by omega)],rfl⟩),Sx]
 rfl
theorem eG (l:List Int) (h:l.length<=1000):Tz (l,l)=some true:=by
 unfold Tz;simp only [Tp,Tn]
 rw [TQ,if_pos rfl,Zu (l:=l) (σ:=Unit) (s:=(0,false)) (λk _=>((k:Int),false)) (λ_ _ _=>some (1,(((l.length:Int),false),()))) () rfl (by omega) (λc=>by
  simp only;rw [re];rfl) (λk x m c _ a b => .inl ⟨(),by
   simp only;rw [rl b,Sc,Ti,TC a,Ti,TC a,TQ,if_pos rfl,Tv a (by omega)],rfl⟩),Sx]
 rfl
theorem gh (t:Vw) (a:t.1.length<=1000) (b:t.2.1.length<=1000):Wa (t,t)=some true:=by
 unfold Wa;rw [TK,if_pos rfl,eI _ a,Sx,Sc,eG _ b];rfl
theorem gi (p q:UI):Wa (Tt p q,Tt p q)=some true:=gh _ (show 2<=1000 by omega) (show 2<=1000 by omega)
theorem jN {a b:List Tj} {i j:Nat} (h:X2 a b i j=true):wk (kx a i) (kx b j)=kx a i/\wn (kx a i) (kx b j)=0:=by
 unfold X2 at h;unfold wk wn;rw [if_pos h,if_pos h];exact ⟨rfl,rfl⟩
theorem jO {a b:List Tj} {i j:Nat} (h:X2 a b i j=false):wk (kx a i) (kx b j)=kx b j/\wn (kx a i) (kx b j)=1:=by
 unfold X2 at h;unfold wk wn;rw [if_neg (by simp [h]),if_neg (by simp [h])];exact ⟨rfl,rfl⟩
theorem gH (x y:Xb):Vb (x,y)=some (if SV x y=true then -1 else if SV y x=true then 1 else 0):=by
 unfold Vb Vx;simp only [Yr,Y5,Sx,R7];rw [Wy,Wy];split
 ·rfl
 ·split<;>rfl
theorem gG (x y:Int):VB (x,y)=some (if x<y then -1 else if x>y then 1 else 0):=by
 unfold VB Wg;simp only [Sx,TQ,if_true,TP,TM];split
 ·rfl
 ·split<;>rfl
theorem jy (x y:Int):Xk [x,y]=some (if x≠0 then x else y):=by
 unfold Xk;by_cases h:x=0
 ·rw [if_neg (by simp [h])];by_cases a:y=0
  ·refine UB (x:=(1,((0,2),()))) (U8 (s1:=(0,1)) (s2:=(0,2)) ?_ ?_ rfl) (by rw [a];rfl)
   ·refine (aT 0 rfl rfl rfl).trans ?_;rw [TQ,if_pos h];rfl
   ·refine (aT 1 rfl rfl rfl).trans ?_;rw [TQ,if_pos a];rfl
  ·refine UB (x:=(0,((y,1),()))) (U0 (n:=2) (by omega) ((UN (s':=(0,1)) ?_).trans (US ?_))) rfl
   ·refine (aT 0 rfl rfl rfl).trans ?_;rw [TQ,if_pos h];rfl
   ·refine (aT 1 rfl rfl rfl).trans ?_;rw [TQ,if_neg a]
 ·rw [if_pos h];refine UB (x:=(0,((x,0),()))) (U0 (n:=1) (by omega) (US ?_)) rfl;refine (aT 0 rfl rfl rfl).trans ?_;rw [TQ,if_neg h]
section
variable {a b:List Tj} (va:VL a) (vb:VL b)
include va vb
theorem ZO {i j:Nat} (I:Inv a b i j):V4 (Zk a b i j)=some (0,0):=by
 unfold V4;rw [show (Zk a b i j).1=[a,b] from rfl,Zc va vb,Sx,TQ,if_pos rfl];rw [show (Zk a b i j).2.1=[(i:Int),(j:Int)] from rfl,TQ,if_pos (show Ki (AS [(i:Int),(j:Int)])=Ki (AS [a,b]) from rfl)];refine UB (x:=(1,((0,(0,2)),()))) (U8 (s1:=(0,(0,1))) (s2:=(0,(0,2))) ?_ ?_ rfl) ?_
 ·refine (aT 0 rfl rfl rfl).trans ?_;rw [TP,if_neg (by omega),show R1 (((0:Int),((0:Int),(0:Int))).2.2)=λ(k:Nat->Option (LR (Int×(Int×Int)) (Nat×((Int×(Int×Int))×Unit))))=>k 0 from rfl];simp only;rw [TC (x:=a) rfl,TM,if_neg (by have:=I.ia;simp only [Tp,Tn];omega)];rfl
 ·refine (aT 1 rfl rfl rfl).trans ?_;rw [TP,if_neg (by omega),show R1 (((0:Int),((0:Int),(1:Int))).2.2)=λ(k:Nat->Option (LR (Int×(Int×Int)) (Nat×((Int×(Int×Int))×Unit))))=>k 1 from rfl];simp only;rw [TC (x:=b) rfl,TM,if_neg (by have:=I.jb;simp only [Tp,Tn];omega)];rfl
 rw [show neq ((1:Nat),(((0:Int),((0:Int),(2:Int))),())).1 0=false from rfl,R7,o0 I.ia I.jb,Sx,show (Zk a b i j).2.2=Tt (kx a i) (kx b j) from rfl,gi,Sx,show Hg true=false from rfl,R7,YB (Uc _ _) (Uc _ _),Sx];by_cases hd:(wk (kx a i) (kx b j)).2=true
 ·rw [if_pos hd];rfl
 rw [if_neg hd,TQ,if_pos rfl]
 have r : ∀ {x:Tj} {e:Nat},i=e+1->a[e]? = some x -> ¬ (if (if SV x.1 (wk (kx a i) (kx b j)).1=true then (-1:Int) else if SV (wk (kx a i) (kx b j)).1 x.1=true then 1 else 0)≠0 then (if SV x.1 (wk (kx a i) (kx b j)).1=true then (-1:Int) else if SV (wk (kx a i) (kx b j)).1 x.1=true then 1 else 0) else (if (0:Int)<(wn (kx a i) (kx b j):Int) then -1 else if (0:Int)>(wn (kx a i) (kx b j):Int) then 1 else 0))>0:=by
  intro x e hi c
  have o:SV (wk (kx a i) (kx b j)).1 x.1=false:=by
   cases g:X2 a b i j with
   | true =>
    rw [(jN g).1] at hd ⊢;unfold kx at hd ⊢;cases d:a[i]? with
    | none=>rw [d] at hd;exact absurd rfl hd
    | some y=>rw [hi] at d;exact VD (va.lt c d)
   | false =>
    rw [(jO g).1] at hd ⊢;unfold kx at hd ⊢;cases d:b[j]? with
    | none=>rw [d] at hd;exact absurd rfl hd
    | some y=>exact I.pa e hi x y c d
  rw [o];have : ¬ (0:Int)>(wn (kx a i) (kx b j):Int):=by omega
  by_cases hs:SV x.1 (wk (kx a i) (kx b j)).1=true
  ·simp [hs]
  ·simp only [hs,li,if_false,ne_eq,not_true,this];split<;>omega
 have s : ∀ {y:Tj} {j':Nat},j=j'+1->b[j']? = some y -> ¬ (if (if SV y.1 (wk (kx a i) (kx b j)).1=true then (-1:Int) else if SV (wk (kx a i) (kx b j)).1 y.1=true then 1 else 0)≠0 then (if SV y.1 (wk (kx a i) (kx b j)).1=true then (-1:Int) else if SV (wk (kx a i) (kx b j)).1 y.1=true then 1 else 0) else (if (1:Int)<(wn (kx a i) (kx b j):Int) then -1 else if (1:Int)>(wn (kx a i) (kx b j):Int) then 1 else 0))>0:=by
  intro y j' q d
  have p:SV y.1 (wk (kx a i) (kx b j)).1=true:=by
   cases g:X2 a b i j with
   | true =>
    rw [(jN g).1] at hd ⊢;unfold kx at hd ⊢;cases c:a[i]? with
    | none=>rw [c] at hd;exact absurd rfl hd
    | some x=>exact I.pb j' q y x d c
   | false =>
    rw [(jO g).1] at hd ⊢;unfold kx at hd ⊢;cases c:b[j]? with
    | none=>rw [c] at hd;exact absurd rfl hd
    | some x=>rw [q] at c;exact vb.lt d c
  rw [p];simp
 refine UB (x:=(1,((0,(0,2)),()))) (U8 (s1:=(0,(0,1))) (s2:=(0,(0,2))) ?_ ?_ rfl) rfl
 ·refine (aT 0 rfl rfl rfl).trans ?_;rw [TM];by_cases f:(i:Int)>0
  ·rw [if_pos f];obtain ⟨e,h⟩ : ∃ e,i=e+1:=⟨i-1,by omega⟩;have l:e<a.length:=by have:=I.ia;omega
   have c:a[e]? = some a[e]:=by simp [l]
   refine (WM 0 rfl (x:=a) rfl).trans ((WM e ?_ c).trans ?_)
   ·rw [Sj (by have:=va.len;have:=I.ia;omega)];omega
   rw [gH,Sx];show bd (VB (0,(wn (kx a i) (kx b j):Int))) _=_;rw [gG,Sx,jy,Sx,TM,if_neg (r h c)];rfl
  ·rw [if_neg f];rfl
 ·refine (aT 1 rfl rfl rfl).trans ?_;rw [TM];by_cases f:(j:Int)>0
  ·rw [if_pos f];obtain ⟨j',m⟩ : ∃ j',j=j'+1:=⟨j-1,by omega⟩;have n:j'<b.length:=by have:=I.jb;omega
   have d:b[j']? = some b[j']:=by simp [n]
   refine (WM 1 rfl (x:=b) rfl).trans ((WM j' ?_ d).trans ?_)
   ·rw [Sj (by have:=vb.len;have:=I.jb;omega)];omega
   rw [gH,Sx];show bd (VB (1,(wn (kx a i) (kx b j):Int))) _=_;rw [gG,Sx,jy,Sx,TM,if_neg (s m d)];rfl
  ·rw [if_neg f];rfl
end
end
section
open Go Sv
theorem XI {l:List Tj} {i:Nat} {x:Tj} (h:l[i]? = some x):kx l i=(x.1,false):=by unfold kx;rw [h]
theorem Zs {l:List Tj} {i:Nat} (h:l[i]? = none):kx l i=([],true):=by unfold kx;rw [h]
theorem aU {l:List Tj} (v:VL l) {i:Nat} {x:Tj} (h:l[i]? = some x):(kx l (i+1)).2=true\/SV (kx l (i+1)).1 x.1=false:=by
 cases a:l[i+1]? with
 | none=>rw [Zs a];exact .inl rfl
 | some y=>rw [XI a];exact .inr (VD (v.lt h a))
theorem ZE {α β:Type} {n:Int} {l:List α} {K:Nat->α->Option β} (k:Nat) {x:α} (c:n=(k:Int)) (b:l[k]? = some x):R1 n (λa=>gd (KJ a (AS l)) λ_=>ix l a λd=>K a d)=K k x:=by
 subst c;rw [Ti,S3,if_pos (show k<AS l from (a8.1 b).1),TC b]
section
variable {a b:List Tj} (va:VL a) (vb:VL b)
include va vb
theorem pT {i j:Nat} (I:Inv a b i j) {x:Tj} (c:a[i]? = some x) (g:X2 a b i j=true):Ux (Zk a b i j)=some (x,(0,(Zk a b (i+1) j,0))):=by
 obtain ⟨e,h⟩:=jN g;have hi:=(a8.1 c).1;have l:=va.len;have hd:(wk (kx a i) (kx b j)).2=false:=by rw [e,XI c]
 obtain ⟨m,f⟩:=YL (p:=kx a i) (q:=kx b j) (k:=kx a (i+1)) (Uc _ _) (Uc _ _) (Uc _ _) hd (by rw [e,XI c];exact aU va c)
 have d:rk (kx a i) (kx b j) (kx a (i+1))=(kx a (i+1),kx b j):=by
  unfold rk;unfold X2 at g;rw [if_pos g]
 rw [d] at f;unfold Ux;rw [ZO va vb I,Sx,TQ,if_pos rfl];unfold Tw UG;refine UB (Y8 (show 2<=1048576 by omega)) (UB (Y8 (show 2<=1048576 by omega)) ?_);rw [show (Zk a b i j).2.2=Tt (kx a i) (kx b j) from rfl,YB (Uc _ _) (Uc _ _),if_neg (by simp [hd]),Sx,TQ,if_pos rfl,h];refine (ZE 0 rfl (x:=a) rfl).trans ((ZE 0 rfl (x:=(i:Int)) rfl).trans ((WM i rfl c).trans ((ZE 0 rfl (x:=(i:Int)) rfl).trans ((ZE 0 rfl (x:=(i:Int)) rfl).trans ((ZE 0 rfl (x:=a) rfl).trans ((ZE 0 rfl (x:=SF .i64 (i:Int) 1) rfl).trans ?_))))));rw [Ts (by omega),XZ (show i+1<=a.length by omega),Sx,f,Sx];rfl
theorem pU {i j:Nat} (I:Inv a b i j) {y:Tj} (c:b[j]? = some y) (g:X2 a b i j=false):Ux (Zk a b i j)=some (y,(1,(Zk a b i (j+1),0))):=by
 obtain ⟨e,h⟩:=jO g;have hi:=(a8.1 c).1;have l:=vb.len;have hd:(wk (kx a i) (kx b j)).2=false:=by rw [e,XI c]
 obtain ⟨m,f⟩:=YL (p:=kx a i) (q:=kx b j) (k:=kx b (j+1)) (Uc _ _) (Uc _ _) (Uc _ _) hd (by rw [e,XI c];exact aU vb c)
 have d:rk (kx a i) (kx b j) (kx b (j+1))=(kx a i,kx b (j+1)):=by
  unfold rk;unfold X2 at g;rw [if_neg (by simp [g])]
 rw [d] at f;unfold Ux;rw [ZO va vb I,Sx,TQ,if_pos rfl];unfold Tw UG;refine UB (Y8 (show 2<=1048576 by omega)) (UB (Y8 (show 2<=1048576 by omega)) ?_);rw [show (Zk a b i j).2.2=Tt (kx a i) (kx b j) from rfl,YB (Uc _ _) (Uc _ _),if_neg (by simp [hd]),Sx,TQ,if_pos rfl,h];refine (ZE 1 rfl (x:=b) rfl).trans ((ZE 1 rfl (x:=(j:Int)) rfl).trans ((WM j rfl c).trans ((ZE 1 rfl (x:=(j:Int)) rfl).trans ((ZE 1 rfl (x:=(j:Int)) rfl).trans ((ZE 1 rfl (x:=b) rfl).trans ((ZE 1 rfl (x:=SF .i64 (j:Int) 1) rfl).trans ?_))))));rw [Ts (by omega),XZ (show j+1<=b.length by omega),Sx,f,Sx];rfl
def ZW (a b:List Tj) (n:Nat):VY:=Zk a b (pos a b n).1 (pos a b n).2
def bJ (a b:List Tj) (n:Nat):Nat:=if X2 a b (pos a b n).1 (pos a b n).2=true then 0 else 1
theorem aw {n:Nat} {x:Tj} (h:n<a.length+b.length) (c:aQ a b n=some x):Ux (ZW a b n)=some (x,((bJ a b n:Int),(ZW a b (n+1),0))):=by
 obtain ⟨d,hs⟩:=WN va vb (n:=n) (by omega);unfold ZW bJ;rw [show pos a b (n+1)=if X2 a b (pos a b n).1 (pos a b n).2=true then ((pos a b n).1+1,(pos a b n).2) else ((pos a b n).1,(pos a b n).2+1) from rfl]
 unfold aQ at c;cases g:X2 a b (pos a b n).1 (pos a b n).2 with
 | true=>rw [if_pos g] at c;rw [pT va vb d c g];simp
 | false=>rw [if_neg (by simp [g])] at c;rw [pU va vb d c g];simp
end
theorem bK {s:Ul} (b:s.2.1.length<=32) (a:s.1=false->s.2.1=[]):WK s=some 0:=by
 unfold WK;rw [ZU,Sx,if_neg (by omega),TQ,if_pos rfl,UT,TV];cases h:s.1 with
 | true=>rfl
 | false=>rw [if_neg (by simp),UT,WB,if_pos (a h)]
def keep (s:Ul) (x:Tj):Bool := !(s.1&&decide (x.1=s.2.1)) && !(s.2.2&&x.2.2.1)
theorem iK {s:Ul} {x:Tj} (e:s.2.1.length<=32) (f:s.1=false->s.2.1=[]) (g:kE x=0) (a:s.1=true->SV x.1 s.2.1=false):U6 (s,x)=some (keep s x,((true,(x.1,s.2.2)),0)):=by
 unfold U6 keep;rw [bK e f,Sx,TQ,if_pos rfl,XM,g,Sx,TQ,if_pos rfl];obtain ⟨s1,s2,c⟩:=s;obtain ⟨h,i,d,j⟩:=x;simp only at a ⊢;cases s1 with
 | true =>
  have:=a rfl;simp only [Sc,R7,Wy,WB,this,li,if_false];by_cases b:h=s2
  ·simp [b]
  ·simp only [b,if_false,decide_false];cases c<;>cases d<;>rfl
 | false =>
  simp only [Sc,R7];cases c<;>cases d<;>rfl
def WF:Ul->List Tj->List Tj
 | _,[]=>[]
 | s,x::l=>(if keep s x=true then [x] else [])++WF (true,(x.1,s.2.2)) l
theorem YQ : ∀ (s:Ul) (l:List Tj),(WF s l).length<=l.length
 | _,[]=>dc _
 | s,x::l=>by
  have:=YQ (true,(x.1,s.2.2)) l;unfold WF;by_cases h:keep s x=true
  ·rw [if_pos h];simp;omega
  ·rw [if_neg h];simp;omega
def Z3:Ul->List Tj->Prop
 | _,[]=>True
 | s,x::l=>kE x=0/\(s.1=true->SV x.1 s.2.1=false)/\Z3 (true,(x.1,s.2.2)) l
theorem ap {x:Tj} (h:kE x=0):x.1.length<=32:=by
 unfold kE at h;by_cases hh:x.1.length>32\/x.2.1.length>64
 ·rw [if_pos hh] at h;cases h
 ·omega
theorem Un {α β σ S:Type} {l:List α} (mk:Nat->σ->S) (Inv:List α->Nat->σ->Prop) (F:List α->Nat->σ->β) {f:S->Option (LR S β)} {s:S} (a:σ) (p:s=mk 0 a) (z:l.length<=9223372036854775807) (hi:Inv l 0 a)
  (w : ∀ a,Inv [] l.length a->f (mk l.length a)=some (.dn (F [] l.length a)))
  (hc : ∀ k x m a,l.drop k=x::m->l[k]? = some x->k<l.length->Inv (x::m) k a -> ∃ b,f (mk k a)=some (.nx (mk (k+1) b))/\Inv m (k+1) b/\F (x::m) k a=F m (k+1) b):loop f s=some (F l 0 a):=by
 subst p
 have e : ∀ (m:List α) (k n:Nat) (a:σ),l.drop k=m->k<=l.length->m.length<n->Inv m k a->IL n f (mk k a)=some (F m k a):=by
  intro m
  induction m with
  | nil =>
   intro k n a c u d hi;obtain ⟨n,rfl⟩ : ∃ j,n=j+1:=⟨n-1,by omega⟩
   have h:k=l.length:=by
    have:=congrArg nb c;simp at this;omega
   subst h;exact US (w a hi)
  | cons x m y =>
   intro k n a c u d hi;obtain ⟨n,rfl⟩ : ∃ j,n=j+1:=⟨n-1,by omega⟩
   have o:l[k]? = some x:=by
    have:=congrArg xn c;rw [s7] at this;simpa using this
   have g:k<l.length:=(a8.1 o).1
   have i:l.drop (k+1)=m:=by
    have:=congrArg wl c;rw [rY] at this;simpa using this
   obtain ⟨b,q,r,t⟩:=hc k x m a c o g hi;rw [UN q,t];exact y (k+1) n b i (by omega) (by simp at d;omega) r
 exact e l 0 _ a (by simp) (by omega) (by omega) hi
def U2:Ul->List Tj->Ul
 | s,[]=>s
 | s,x::l=>U2 (true,(x.1,s.2.2)) l
theorem cO {β:Type} {out:List Tj} {n:Nat} (h:out.length<=n) (a:n<=20000) (x:Tj) (k:Unit->Option β):gd (CF (BF (AS out) (AS [x])) 1048576) k=k ():=UP (by simp only [BF,AS,ci,cP];omega) k
theorem gf {l:List Tj} {b:Bool} (B:l.length<=20000) (A:Z3 (false,([],b)) l):Wm (l,b)=some (WF (false,([],b)) l,(0,0)):=by
 unfold Wm VW;simp only [Tp,Tn];rw [TM,if_neg (by omega),Sx]
 rw [Un (l:=l) (σ:=Ul×List Tj) (s:=(0,(0,(0,((false,([],b)),[]))))) (λk a=>((0:Int),((k:Int),((0:Int),a))))
  (λm k a=>Z3 a.1 m/\a.1.2.1.length<=32/\(a.1.1=false->a.1.2.1=[])/\a.2.length<=k/\k+m.length=l.length)
  (λm k a=>(1,((0,((l.length:Int),(0,(U2 a.1 m,a.2++WF a.1 m)))),()))) ((false,([],b)),[]) rfl (by omega) ⟨A,by simp,λ_=>rfl,by simp,by simp⟩ ?_ ?_,Sx]
 ·simp;rfl
 ·intro a _;simp only;rw [re,R7];simp [U2,WF]
 ·rintro k x m ⟨s,out⟩ C r z ⟨⟨d,e,g⟩,i,j,n,o⟩;simp only at d e g i j n ⊢;refine ⟨((true,(x.1,s.2.2)),out++if keep s x=true then [x] else []),?_,⟨g,ap d,(λh=>by cases h),?_,by simp at o;omega⟩,?_⟩
  ·rw [rl z,Sc,Ti,TC r,bK i j,Sx,TQ,if_pos rfl,XM,d,Sx,TQ,if_pos rfl];unfold keep UQ;obtain ⟨s1,s2,t⟩:=s;obtain ⟨f,u,c,w⟩:=x;simp only [Sx,Tv r (show l.length<=9223372036854775807 by omega)] at e ⊢;have q : ∀ {β:Type} (k:Unit->Option β),gd (CF (BF out.length [(f,(u,(c,w)))].length) 1048576) k=k ():=λk=>cO n (by simp at o;omega) (f,(u,(c,w))) k;cases s1 with
   | true =>
    have y:=e rfl;simp only [Sc,R7,WB,y,q];by_cases p:f=s2
    ·simp [p]
    ·simp only [p,if_false,decide_false];cases t<;>cases c<;>simp [Sc,R7,Il]
   | false =>
    simp only [Sc,R7,q];cases t<;>cases c<;>simp [Sc,R7,Il]
  ·split<;>simp<;>omega
  ·simp only [U2,WF,eb]
end
section
open Go Sv
theorem cy : ∀ (l:List Tj) (s:Ul) (x:Tj),WF s (l++[x])=WF s l++(if keep (U2 s l) x=true then [x] else [])
 | [],s,x=>by
  show (if keep s x=true then [x] else [])++[]=[]++(if keep s x=true then [x] else [])
  rw [gs,oj]
 | y::l,s,x=>by
  show (if keep s y=true then [y] else [])++WF _ (l++[x])=((if keep s y=true then [y] else [])++WF _ l)++_
  rw [cy l,eb];rfl
theorem ZM : ∀ (l:List Tj) (s:Ul) (x:Tj),U2 s (l++[x])=(true,(x.1,(U2 s l).2.2))
 | [],s,x=>rfl
 | y::l,s,x=>by simp only [List.cons_append,U2,ZM l]
theorem XJ : ∀ (l:List Tj) (s:Ul),(U2 s l).2.2=s.2.2
 | [],s=>rfl
 | y::l,s=>by rw [U2,XJ l]
theorem dX : ∀ (l:List Tj) (s:Ul) (x:Tj),Z3 s l->kE x=0->((U2 s l).1=true->SV x.1 (U2 s l).2.1=false)->Z3 s (l++[x])
 | [],s,x,_,a,b=>⟨a,b,trivial⟩
 | y::l,s,x,⟨a,b,c⟩,d,h5=>⟨a,b,dX l _ x c d h5⟩
theorem bf : ∀ (l:List Tj) (s:Ul),Z3 s l->s.2.1.length<=32->(s.1=false->s.2.1=[])->(U2 s l).2.1.length<=32/\((U2 s l).1=false->(U2 s l).2.1=[])
 | [],s,_,h1,h2=>⟨h1,h2⟩
 | y::l,s,⟨a,_,b⟩,_,_=>bf l _ b (ap a) (λh=>by cases h)
abbrev s0 (a:Bool):Ul:=(false,([],a))
def Va (a b:List Tj) (c:Bool) (n:Nat):Xj:=(ZW a b n,(U2 (s0 c) (UC a b n),(WF (s0 c) (UC a b n),(n:Int))))
def X3 (a b:List Tj):Nat->List Int
 | 0=>[]
 | n+1=>X3 a b n++[(bJ a b n:Int)]
theorem aB (a b:List Tj) : ∀ n,(X3 a b n).length=n
 | 0=>rfl
 | n+1=>by simp [X3,aB a b n]
theorem YX {S β:Type} {f:S->Option (LR S β)} {r:β} (mk:Nat->S) (a n:Nat) {s:S} (b:s=mk a) (d:a<=n) (e:n<18446744073709551616) (hs : ∀ k,a<=k->k<n->f (mk k)=some (.nx (mk (k+1)))) (c:f (mk n)=some (.dn r)):loop f s=some r:=by
 have h:=Xf (f:=f) (r:=r) (λk=>mk (a+k)) (n-a) (s:=s) b (by omega) (λk d=>hs (a+k) (by omega) (by omega)) (by show f (mk (a+(n-a)))=_;rw [show a+(n-a)=n by omega];exact c);exact h
theorem ac (l:List Tj) (h:l.length<=100000):WL (l,l)=some true:=by
 unfold WL;simp only [Tp,Tn]
 rw [TQ,if_pos rfl,Zu (l:=l) (σ:=Unit) (s:=(false,0)) (λk _=>(false,(k:Int))) (λ_ _ _=>some (1,((false,(l.length:Int)),()))) () rfl (by omega) (λc=>by
  simp only;rw [re];rfl) (λk x m c _ a b => .inl ⟨(),by
   simp only;rw [rl b,Sc,Ti,TC a,Ti,TC a,Yr,Yr,YE,show Oa x.2.2.2 x.2.2.2=true by unfold Oa;simp,show Hg (Nm true (Nm true (Nm true (Nm true true))))=false from rfl,R7,Tv a (by omega)],rfl⟩),Sx]
 rfl
section
variable {a b:List Tj} (va:VL a) (vb:VL b)
include va vb
theorem Wq {n:Nat} {x:Tj} (c:aQ a b n=some x):UC a b (n+1)=UC a b n++[x]:=by
 show (match aQ a b n with
  | some x=>UC a b n++[x]
  | none=>UC a b n)=_
 rw [c]
theorem XP (d:Bool) : ∀ {n:Nat},n<=a.length+b.length->Z3 (s0 d) (UC a b n)
 | 0,_=>trivial
 | n+1,h=>by
  obtain ⟨x,c,_⟩:=Vu va vb (n:=n) (by omega);rw [Wq va vb c];refine dX _ _ _ (XP d (by omega)) (jw va vb c) λ_ => ?_;cases n with
  | zero=>rename_i f;cases f
  | succ m =>
   obtain ⟨y,e,_⟩:=Vu va vb (n:=m) (by omega);rw [Wq va vb e,ZM];exact gP va vb (by omega) e c
theorem eM (c:Bool) {n:Nat} (h:n<=a.length+b.length):(U2 (s0 c) (UC a b n)).2.1.length<=32/\((U2 (s0 c) (UC a b n)).1=false->(U2 (s0 c) (UC a b n)).2.1=[]) :=
 bf _ _ (XP va vb c h) (by simp) (λ_=>rfl)
theorem qK {n:Nat} (h:n=a.length+b.length):(wk (kx a (pos a b n).1) (kx b (pos a b n).2)).2=true:=by
 obtain ⟨c,hs⟩:=WN va vb (n:=n) (by omega);have d:=c.ia;have e:=c.jb;rw [Zs (a9 (by omega)),Zs (a9 (by omega))];rfl
theorem qN {n:Nat} {x:Tj} (c:aQ a b n=some x):(wk (kx a (pos a b n).1) (kx b (pos a b n).2)).2=false/\wn (kx a (pos a b n).1) (kx b (pos a b n).2)=bJ a b n:=by
 unfold aQ at c;unfold bJ;cases g:X2 a b (pos a b n).1 (pos a b n).2 with
 | true=>rw [if_pos g] at c;rw [(jN g).1,(jN g).2,XI c];exact ⟨rfl,rfl⟩
 | false=>rw [if_neg (by simp [g])] at c;rw [(jO g).1,(jO g).2,XI c];exact ⟨rfl,rfl⟩
theorem pR:YJ [a,b]=some (UC a b (a.length+b.length),(X3 a b (a.length+b.length),0)):=by
 have u:=va.len;have w:=vb.len;unfold YJ;rw [Zc va vb,Sx,TQ,if_pos rfl];refine Eq.trans (b:=bd (loop _ (0,[([],false),([],false)])) _) rfl ?_;refine UB (x:=(0,((2,[kx a 0,kx b 0]),()))) (U8 (s1:=(1,[kx a 0,([],false)])) (s2:=(2,[kx a 0,kx b 0])) ?_ ?_ rfl) ?_
 ·show bd (UV (a,((0:Nat):Int))) _=_;rw [XZ (by omega)];rfl
 ·show bd (UV (b,((0:Nat):Int))) _=_;rw [XZ (by omega)];rfl
 rw [show ((0:Nat),(((2:Int),[kx a 0,kx b 0]),())).2.1.2=[kx a 0,kx b 0] from rfl,Z6 (Uc _ _) (Uc _ _),Sx]
 refine UB (x:=(0,((UC a b (a.length+b.length),(X3 a b (a.length+b.length),((),([((pos a b (a.length+b.length)).1:Int),((pos a b (a.length+b.length)).2:Int)],Tt (kx a (pos a b (a.length+b.length)).1) (kx b (pos a b (a.length+b.length)).2))))),())))
  (YX (λk=>(UC a b k,(X3 a b k,((),([((pos a b k).1:Int),((pos a b k).2:Int)],Tt (kx a (pos a b k).1) (kx b (pos a b k).2)))))) 0 (a.length+b.length) rfl (by omega) (by omega) (λk _ r => ?_) ?_) rfl
 ·obtain ⟨x,c,_⟩:=Vu va vb (n:=k) r;obtain ⟨j,s⟩:=qN va vb c;obtain ⟨t,hs⟩:=WN va vb (n:=k) (by omega);have h:(UC a b k).length=k:=VC va vb (by omega);have i:=aB a b k;simp only;rw [YB (Uc _ _) (Uc _ _),if_neg (by simp [j]),Sx,TQ,if_pos rfl,s];rw [Wq va vb c];unfold aQ at c;rw [show X3 a b (k+1)=X3 a b k++[(bJ a b k:Int)] from rfl];unfold bJ;rw [show pos a b (k+1)=if X2 a b (pos a b k).1 (pos a b k).2=true then ((pos a b k).1+1,(pos a b k).2) else ((pos a b k).1,(pos a b k).2+1) from rfl]
  have l : ∀ {β:Type} (y:Tj) (q:Unit->Option β),gd (CF (BF (AS (UC a b k)) (AS [y])) 1048576) q=q ():=λy q=>UP (by simp only [BF,AS,h,ci,cP];omega) q;have o : ∀ {β:Type} (y:Int) (q:Unit->Option β),gd (CF (BF (AS (X3 a b k)) (AS [y])) 1048576) q=q ():=λy q=>UP (by simp only [BF,AS,i,ci,cP];omega) q;cases g:X2 a b (pos a b k).1 (pos a b k).2 with
  | true =>
   rw [if_pos g] at c;obtain ⟨d,_⟩:=jN g;obtain ⟨m,f⟩:=YL (p:=kx a (pos a b k).1) (q:=kx b (pos a b k).2) (k:=kx a ((pos a b k).1+1)) (Uc _ _) (Uc _ _) (Uc _ _) j (by rw [d,XI c];exact aU va c)
   have e:rk (kx a (pos a b k).1) (kx b (pos a b k).2) (kx a ((pos a b k).1+1))=(kx a ((pos a b k).1+1),kx b (pos a b k).2):=by
    unfold rk;unfold X2 at g;rw [if_pos g]
   rw [e] at f;have hi:=(a8.1 c).1;simp only [if_true];refine (ZE 0 rfl (x:=a) rfl).trans ((ZE 0 rfl (x:=((pos a b k).1:Int)) rfl).trans ((WM _ rfl c).trans ?_));rw [l,o];refine (ZE 0 rfl (x:=((pos a b k).1:Int)) rfl).trans ((ZE 0 rfl (x:=((pos a b k).1:Int)) rfl).trans ((ZE 0 rfl (x:=a) rfl).trans ((ZE 0 rfl (x:=SF .i64 ((pos a b k).1:Int) 1) rfl).trans ?_)));rw [Ts (by omega),XZ (by omega),Sx,f,Sx];rfl
  | false =>
   rw [if_neg (by simp [g])] at c;obtain ⟨d,_⟩:=jO g;obtain ⟨m,f⟩:=YL (p:=kx a (pos a b k).1) (q:=kx b (pos a b k).2) (k:=kx b ((pos a b k).2+1)) (Uc _ _) (Uc _ _) (Uc _ _) j (by rw [d,XI c];exact aU vb c)
   have e:rk (kx a (pos a b k).1) (kx b (pos a b k).2) (kx b ((pos a b k).2+1))=(kx a (pos a b k).1,kx b ((pos a b k).2+1)):=by
    unfold rk;unfold X2 at g;rw [if_neg (by simp [g])]
   rw [e] at f;have hi:=(a8.1 c).1;simp only [li,if_false];refine (ZE 1 rfl (x:=b) rfl).trans ((ZE 1 rfl (x:=((pos a b k).2:Int)) rfl).trans ((WM _ rfl c).trans ?_));rw [l,o];refine (ZE 1 rfl (x:=((pos a b k).2:Int)) rfl).trans ((ZE 1 rfl (x:=((pos a b k).2:Int)) rfl).trans ((ZE 1 rfl (x:=b) rfl).trans ((ZE 1 rfl (x:=SF .i64 ((pos a b k).2:Int) 1) rfl).trans ?_)));rw [Ts (by omega),XZ (by omega),Sx,f,Sx];rfl
 ·simp only;rw [YB (Uc _ _) (Uc _ _),if_pos (qK va vb rfl),Sx,TQ,if_neg (by decide),TQ,if_neg (by decide)]
end
end
section
open Go Sv
theorem gJ {β:Type} {out:List Tj} {n:Nat} (h:out.length<=n) (a:n<=20000) (x:Tj) (k:Unit->Option β):gd (CF (BF out.length [x].length) 1048576) k=k ():=cO h a x k
section
variable {a b:List Tj} (va:VL a) (vb:VL b)
include va vb
theorem Xh {n:Nat} (h:n<=a.length+b.length):(UC a b (a.length+b.length)).take n=UC a b n:=eR va vb (dc _) h
theorem ZD {n:Nat} {x:Tj} (c:Bool) (d:aQ a b n=some x):U2 (s0 c) (UC a b (n+1))=(true,(x.1,c)):=by
 rw [Wq va vb d,ZM,XJ]
theorem eu (c:Bool) {n:Nat} (h:n<=a.length+b.length):XG (Va a b c n)=some 0:=by
 obtain ⟨e,hs⟩:=WN va vb (n:=n) h;have i:=va.len;have j:=vb.len;have f:=YQ (s0 c) (UC a b n);have g:(UC a b n).length=n:=VC va vb h;unfold XG;rw [show (Va a b c n).1=Zk a b (pos a b n).1 (pos a b n).2 from rfl,ZO va vb e,Sx,TQ,if_pos rfl];refine UB (x:=(0,((2,(n:Int)),()))) (U8 (s1:=(1,((pos a b n).1:Int))) (s2:=(2,(n:Int))) ?_ ?_ rfl) ?_
 ·refine (aT 0 rfl rfl (x:=((pos a b n).1:Int)) rfl).trans ?_;show some (LR.nx ((1:Int),SF .i64 0 ((pos a b n).1:Int)))=_;rw [Sh (by omega),tw]
 ·refine (aT 1 rfl rfl (x:=((pos a b n).2:Int)) rfl).trans ?_;show some (LR.nx ((2:Int),SF .i64 ((pos a b n).1:Int) ((pos a b n).2:Int)))=_;rw [Sh (by omega),show ((pos a b n).1:Int)+((pos a b n).2:Int)=(n:Int) by omega]
 simp only [Tp,Tn];rw [show (Va a b c n).2.2.1=WF (s0 c) (UC a b n) from rfl,show (Va a b c n).2.2.2=(n:Int) from rfl,show (Va a b c n).2.1=U2 (s0 c) (UC a b n) from rfl,TM,if_neg (by omega),TM,if_neg (by omega),TQ,if_pos rfl];rw [show (Zk a b (pos a b n).1 (pos a b n).2).1=[a,b] from rfl,pR va vb,Sx,TQ,if_pos rfl,Ti];rw [UP (by rw [VC va vb (dc _)];exact h),UP (lc _)];rw [show D0 (UC a b (a.length+b.length)) 0 n=UC a b n from by unfold D0;rw [xb,l4];exact Xh va vb h,XJ];rw [show (s0 c).2.2=c from rfl,gf (by omega) (XP va vb c h),Sx,TQ,if_pos rfl];unfold VW;rw [Sx,TM];cases n with
 | zero =>
  rw [if_neg (by omega),ac _ (by omega),Sx,Y5,R7];show br (Hg (Nm (Sv.beq false false) (Nm (seq [] []) (Nm (Sv.beq c c) true)))) _ _=_;rw [YE,YE,Yr];rfl
 | succ m =>
  obtain ⟨x,d,_⟩:=Vu va vb (n:=m) (by omega);rw [if_pos (by omega),show SK .i64 ((m+1:Nat):Int) 1=(m:Int) by rw [Sj (by omega)];omega,Ti];rw [TC (x:=x) (by rw [YZ va vb (dc _) (by omega)];exact d),ac _ (by omega),Sx,Y5,R7,ZD va vb c d];rw [YE,YE,Yr];rfl
theorem jt {n:Nat} (h:n<=a.length+b.length):Xo (ZW a b n)=some (((a.length+b.length-n:Nat):Int),0):=by
 obtain ⟨c,hs⟩:=WN va vb (n:=n) h;have f:=va.len;have g:=vb.len;have d:=c.ia;have e:=c.jb;unfold Xo;rw [show ZW a b n=Zk a b (pos a b n).1 (pos a b n).2 from rfl,ZO va vb c,Sx,TQ,if_pos rfl];refine UB (x:=(0,((2,((a.length+b.length-n:Nat):Int)),()))) (U8 (s1:=(1,(a.length:Int)-((pos a b n).1:Int))) (s2:=(2,((a.length+b.length-n:Nat):Int))) ?_ ?_ rfl) rfl
 ·refine (aT 0 rfl rfl (x:=a) rfl).trans ((WM 0 rfl (x:=((pos a b n).1:Int)) rfl).trans ?_);simp only [Tp,Tn];rw [Sj (by omega)];show some (LR.nx ((1:Int),SF .i64 0 ((a.length:Int)-((pos a b n).1:Int))))=_;rw [Sh (by omega),tw]
 ·refine (aT 1 rfl rfl (x:=b) rfl).trans ((WM 1 rfl (x:=((pos a b n).2:Int)) rfl).trans ?_);simp only [Tp,Tn];rw [Sj (by omega)];show some (LR.nx ((2:Int),SF .i64 ((a.length:Int)-((pos a b n).1:Int)) ((b.length:Int)-((pos a b n).2:Int))))=_;rw [Sh (by omega),show (a.length:Int)-((pos a b n).1:Int)+((b.length:Int)-((pos a b n).2:Int))=((a.length+b.length-n:Nat):Int) by omega]
theorem aK (c:Bool) {n:Nat} (h:n<=a.length+b.length):Ud (Va a b c n)=some (((a.length+b.length-n:Nat):Int),0):=by
 unfold Ud;rw [eu va vb c h,Sx,TQ,if_pos rfl,show (Va a b c n).1=ZW a b n from rfl,jt va vb h];rfl
theorem aa (c:Bool) {n:Nat} {x:Tj} (d:aQ a b n=some x):Va a b c (n+1)=(ZW a b (n+1),((true,(x.1,c)),(WF (s0 c) (UC a b n)++(if keep (U2 (s0 c) (UC a b n)) x=true then [x] else []),((n+1:Nat):Int)))):=by
 unfold Va;rw [Wq va vb d,ZM,XJ,cy]
theorem Ys (c:Bool) {n:Nat} {x:Tj} (h:n<a.length+b.length) (e:aQ a b n=some x):U6 (U2 (s0 c) (UC a b n),x)=some (keep (U2 (s0 c) (UC a b n)) x,((true,(x.1,c)),0)):=by
 have d:=eM va vb c (n:=n) (by omega);rw [iK d.1 d.2 (jw va vb e),XJ];intro g;cases n with
 | zero=>cases g
 | succ m =>
  obtain ⟨y,f,_⟩:=Vu va vb (n:=m) (by omega);rw [ZD va vb c f];exact gP va vb (by omega) f e
def sQ (k:Int) (s:Xj):Int×(Int×(List (List Tj)×(List Int×(List UI×(List Int×(Int×(Bool×(Xb×(Bool×(List Tj×Int)))))))))) :=
 (k,(0,(s.1.1,(s.1.2.1,(s.1.2.2.1,(s.1.2.2.2.1,(s.1.2.2.2.2,(s.2.1.1,(s.2.1.2.1,(s.2.1.2.2,(s.2.2.1,s.2.2.2)))))))))))
theorem cB (c:Bool) {n:Nat} (h:n<=a.length+b.length) {k:Nat}:Uv (Va a b c n,(k:Int))=some (Va a b c (n+min k (a.length+b.length-n)),(((min k (a.length+b.length-n):Nat):Int),0)):=by
 have w:=va.len;have z:=vb.len;have d : ∀ m,m<=a.length+b.length->(WF (s0 c) (UC a b m)).length<=m:=λm s=>by have:=YQ (s0 c) (UC a b m);have:=VC va vb s;omega
 obtain ⟨u,t⟩ : ∃ u,u=min k (a.length+b.length-n):=⟨_,rfl⟩
 have i:TX (k:Int) ((a.length+b.length-n:Nat):Int)=(u:Int):=by
  unfold TX;split<;>omega
 rw [<- t];unfold Uv;rw [aK va vb c h,Sx,TQ,if_pos rfl];simp only [i,Tp,Tn];rw [TP,if_neg (by omega),show (Va a b c n).2.2.2=(n:Int) from rfl,Sh (by omega),TM,if_neg (by omega)];rw [show (Va a b c n).2.2.1=WF (s0 c) (UC a b n) from rfl,show (Va a b c n).1=ZW a b n from rfl,UP (by have:=d n h;omega),UP (show (ZW a b n).2.1.length<=1048576 from (show 2<=1048576 by omega)),TP];by_cases r:u=0
 ·rw [r,if_neg (by omega)];rfl
 rw [if_pos (by omega)];obtain ⟨x,o,_⟩:=Vu va vb (n:=n) (by omega);rw [aw va vb (by omega) o,Sx,TQ,if_pos rfl,show (Va a b c n).2.1=U2 (s0 c) (UC a b n) from rfl,Ys va vb c (by omega) o,Sx,TQ,if_pos rfl]
 have q : ∀ j,1<=j->j<u -> ∃ y,aQ a b (n+j)=some y:=λj f g=>by
  obtain ⟨y,e,_⟩:=Vu va vb (n:=n+j) (by omega);exact ⟨y,e⟩
 rw [TV];have hS:=aa va vb c o;cases p:keep (U2 (s0 c) (UC a b n)) x with
 | true =>
  rw [p] at hS;rw [if_pos rfl,gJ (d n h) (by omega)];refine UB (x:=(1,(sQ u (Va a b c (n+u)),()))) (YX (λj=>sQ j (Va a b c (n+j))) 1 u ?_ (by omega) (by omega) (λj f g => ?_) ?_) ?_
  ·rw [hS,show SF .i64 (n:Int) 1=((n+1:Nat):Int) from Ts (by omega)];rfl
  ·obtain ⟨y,e⟩:=q j f g;show br (S8 (j:Int) (u:Int)) _ _=_;rw [TP,if_pos (by omega)];show bd (Ux (ZW a b (n+j))) _=_;rw [aw va vb (by omega) e,Sx,TQ,if_pos rfl];show bd (U6 (U2 (s0 c) (UC a b (n+j)),y)) _=_;rw [Ys va vb c (by omega) e,Sx,TQ,if_pos rfl,TV,show n+(j+1)=n+j+1 by omega,aa va vb c e];cases l:keep (U2 (s0 c) (UC a b (n+j))) y with
   | true =>
    rw [if_pos rfl,if_pos rfl];show gd (CF (BF (AS (WF (s0 c) (UC a b (n+j)))) (AS [y])) 1048576) _=_;rw [cO (d _ (by omega)) (by omega)];show some (LR.nx (SF .i64 (j:Int) 1,_))=_;unfold sQ;simp only [Ts (show j+1<=9223372036854775807 by omega),Il];rw [show SF .i64 (Va a b c (n+j)).2.2.2 1=((n+j+1:Nat):Int) from Ts (by omega)];rfl
   | false =>
    rw [if_neg (by simp),if_neg (by simp)];show some (LR.nx (SF .i64 (j:Int) 1,_))=_;unfold sQ;simp only [Ts (show j+1<=9223372036854775807 by omega)];rw [show SF .i64 (Va a b c (n+j)).2.2.2 1=((n+j+1:Nat):Int) from Ts (by omega),gs];rfl
  ·show br (S8 (u:Int) (u:Int)) _ _=_;rw [TP,if_neg (by omega)]
  ·rfl
 | false =>
  rw [p] at hS;rw [if_neg (by simp)];refine UB (x:=(1,(sQ u (Va a b c (n+u)),()))) (YX (λj=>sQ j (Va a b c (n+j))) 1 u ?_ (by omega) (by omega) (λj f g => ?_) ?_) ?_
  ·rw [hS,show SF .i64 (n:Int) 1=((n+1:Nat):Int) from Ts (by omega),if_neg (by simp),gs];rfl
  ·obtain ⟨y,e⟩:=q j f g;show br (S8 (j:Int) (u:Int)) _ _=_;rw [TP,if_pos (by omega)];show bd (Ux (ZW a b (n+j))) _=_;rw [aw va vb (by omega) e,Sx,TQ,if_pos rfl];show bd (U6 (U2 (s0 c) (UC a b (n+j)),y)) _=_;rw [Ys va vb c (by omega) e,Sx,TQ,if_pos rfl,TV,show n+(j+1)=n+j+1 by omega,aa va vb c e];cases l:keep (U2 (s0 c) (UC a b (n+j))) y with
   | true =>
    rw [if_pos rfl,if_pos rfl];show gd (CF (BF (AS (WF (s0 c) (UC a b (n+j)))) (AS [y])) 1048576) _=_;rw [cO (d _ (by omega)) (by omega)];show some (LR.nx (SF .i64 (j:Int) 1,_))=_;unfold sQ;simp only [Ts (show j+1<=9223372036854775807 by omega),Il];rw [show SF .i64 (Va a b c (n+j)).2.2.2 1=((n+j+1:Nat):Int) from Ts (by omega)];rfl
   | false =>
    rw [if_neg (by simp),if_neg (by simp)];show some (LR.nx (SF .i64 (j:Int) 1,_))=_;unfold sQ;simp only [Ts (show j+1<=9223372036854775807 by omega)];rw [show SF .i64 (Va a b c (n+j)).2.2.2 1=((n+j+1:Nat):Int) from Ts (by omega),gs];rfl
  ·show br (S8 (u:Int) (u:Int)) _ _=_;rw [TP,if_neg (by omega)]
  ·rfl
end
end
section
open Go Sv
theorem Wp {α β σ S:Type} {l:List α} (mk:Nat->σ->S) (I:List α->Nat->σ->Prop) (Q:β->Prop) {f:S->Option (LR S β)} {s:S} (a:σ) (t:s=mk 0 a) (z:l.length<=9223372036854775807) (hi:I l 0 a)
  (w : ∀ a,I [] l.length a -> ∃ r,f (mk l.length a)=some (.dn r)/\Q r)
  (hc : ∀ k x m a,l.drop k=x::m->l[k]? = some x->k<l.length->I (x::m) k a->(∃ b,f (mk k a)=some (.nx (mk (k+1) b))/\I m (k+1) b) \/ ∃ r,f (mk k a)=some (.dn r)/\Q r) : ∃ r,loop f s=some r/\Q r:=by
 subst t
 have h : ∀ (m:List α) (k n:Nat) (a:σ),l.drop k=m->k<=l.length->m.length<n->I m k a -> ∃ r,IL n f (mk k a)=some r/\Q r:=by
  intro m
  induction m with
  | nil =>
   intro k n a e u g hi;obtain ⟨n,rfl⟩ : ∃ j,n=j+1:=⟨n-1,by omega⟩
   have o:k=l.length:=by
    have:=congrArg nb e;simp at this;omega
   subst o;obtain ⟨r,c,d⟩:=w a hi;exact ⟨r,US c,d⟩
  | cons x m y =>
   intro k n a e u g hi;obtain ⟨n,rfl⟩ : ∃ j,n=j+1:=⟨n-1,by omega⟩
   have q:l[k]? = some x:=by
    have:=congrArg xn e;rw [s7] at this;simpa using this
   have i:k<l.length:=(a8.1 q).1
   have p:l.drop (k+1)=m:=by
    have:=congrArg wl e;rw [rY] at this;simpa using this
   rcases hc k x m a e q i hi with ⟨b,c,d⟩ | ⟨r,c,d⟩
   ·rw [UN c];exact y (k+1) n b p (by omega) (by simp at g;omega) d
   ·exact ⟨r,US c,d⟩
 exact h l 0 _ a (by simp) (by omega) (by omega) hi
theorem YW {α:Type} (l m:List α) (g:l.length=m.length) (j:l.length<=9223372036854775806) {f:(Int×Bool)->Option (LR (Int×Bool) (Nat×((Int×Bool)×Unit)))}
  (hs : ∀ (k:Nat) x y,l[k]? = some x->m[k]? = some y->(x=y->f ((k:Int),false)=some (.nx (((k+1:Nat):Int),false)))/\(x≠y->f ((k:Int),false)=some (.dn (0,(((k:Int),false),())))))
  (d:f ((l.length:Int),false)=some (.dn (1,(((l.length:Int),false),())))) :
  ∃ r,loop f (0,false)=some r/\((l=m/\r.1=1)\/(l≠m/\r.1=0/\r.2.1.2=false)):=by
 refine Wp (l:=l) (σ:=Unit) (λk _=>((k:Int),false)) (λt k _=>t=l.drop k/\l.take k=m.take k) _ () rfl (by omega) ⟨by simp,by simp⟩ (λi h => ?_) (λk x t i hd b n h => ?_)
 ·refine ⟨_,d,.inl ⟨?_,rfl⟩⟩;have:=h.2;rw [yb,g,yb] at this;exact this
 ·have c:k<m.length:=by omega
  have a:m[k]? = some m[k]:=by simp [c]
  by_cases e:x=m[k]
  ·refine .inl ⟨(),(hs k x m[k] b a).1 e,?_,?_⟩
   ·have:=congrArg wl hd;rw [rY] at this;simp at this;exact this.symm
   ·rw [gM,gM,h.2,b,a,e]
  ·refine .inr ⟨_,(hs k x m[k] b a).2 e,.inr ⟨?_,rfl,rfl⟩⟩;intro e2;subst e2;rw [b] at a;exact e (Option.some.inj a)
theorem beq_eq (a b:Bool):Sv.beq a b=decide (a=b):=by cases a<;>cases b<;>rfl
theorem Vt (a b:Int):Oa a b=decide (a=b):=by
 unfold Oa;by_cases h:a=b<;>simp [h]
theorem Yd (p q:Prop) [Decidable p] [Decidable q]:Nm (decide p) (decide q)=decide (p/\q):=by unfold Nm;simp
theorem U9 (p:Prop) [Decidable p]:Hg (decide p)=decide (¬ p):=by unfold Hg;simp
theorem Zm (a:Bool):Nm a true=a:=by cases a<;>rfl
theorem gq (l m:List UI) (s:l.length<=9223372036854775806):UH (l,m)=some (decide (l=m)):=by
 unfold UH;simp only [Tp,Tn];rw [TQ];by_cases b:(l.length:Int)=(m.length:Int)
 ·rw [if_pos b];have c:l.length=m.length:=by omega
  obtain ⟨r,p,a⟩:=YW l m c s (f:=λs0=>br (S8 s0.1 (l.length:Int)) (λ_=>R1 s0.1 λt=>ix l t λn=>R1 s0.1 λw=>ix m w λo=>br (Hg (Nm (seq n.1 o.1) (Nm (Sv.beq n.2 o.2) true))) (λ_=>some (.dn ((0,((s0.1,false),()))))) λ_=>some (.nx (SF .i64 s0.1 1,s0.2))) λ_=>some (.dn ((1,(s0,()))))) (λk x y d j=>by
    have i:=(a8.1 d).1
    have g : ∀ {β:Type} (u v:Unit->Option β),br (Hg (Nm (seq x.1 y.1) (Nm (Sv.beq x.2 y.2) true))) u v=if x=y then v () else u ():=by
     intro β u v;rw [Zm,Zi,beq_eq,Yd,U9,VE];by_cases e:x=y
     ·subst e;simp
     ·rw [if_pos (λh=>e (tk h.1 h.2)),if_neg e]
    constructor
    ·intro e;simp only;rw [rl i,Sc,Ti,TC d,Ti,TC j,g,if_pos e,Ts (by omega)]
    ·intro e;simp only
     rw [rl i,Sc,Ti,TC d,Ti,TC j,g,if_neg e]) (by simp only;rw [re];rfl)
  refine UB p ?_;rcases a with ⟨e,a⟩ | ⟨e,a,q⟩
  ·rw [Sy,a];simp [e]
  ·rw [Sy,a];simp [e,q]
 ·rw [if_neg b];have : ¬ l=m:=λe=>b (by rw [e]);simp [this]
theorem ZK (l m:List Int) (n:l.length<=9223372036854775806):Tz (l,m)=some (decide (l=m)):=by
 unfold Tz;simp only [Tp,Tn];rw [TQ];by_cases b:(l.length:Int)=(m.length:Int)
 ·rw [if_pos b];have c:l.length=m.length:=by omega
  obtain ⟨r,i,a⟩:=YW l m c n (f:=λs0=>br (S8 s0.1 (l.length:Int)) (λ_=>R1 s0.1 λo=>ix l o λq=>R1 s0.1 λp=>ix m p λs=>br (Ry q s) (λ_=>some (.dn ((0,((s0.1,false),()))))) λ_=>some (.nx (SF .i64 s0.1 1,s0.2))) λ_=>some (.dn ((1,(s0,()))))) (λk x y d h=>by
    have g:=(a8.1 d).1;constructor
    ·intro e;simp only;rw [rl g,Sc,Ti,TC d,Ti,TC h,TQ,if_pos e,Ts (by omega)]
    ·intro e;simp only
     rw [rl g,Sc,Ti,TC d,Ti,TC h,TQ,if_neg e]) (by simp only;rw [re];rfl)
  refine UB i ?_;rcases a with ⟨e,a⟩ | ⟨e,a,j⟩
  ·rw [Sy,a];simp [e]
  ·rw [Sy,a];simp [e,j]
 ·rw [if_neg b];have : ¬ l=m:=λe=>b (by rw [e]);simp [this]
theorem af {β:Type} (x y:Tj) (u v:Unit->Option β):br (Hg (Nm (seq x.1 y.1) (Nm (seq x.2.1 y.2.1) (Nm (Sv.beq x.2.2.1 y.2.2.1) (Nm (Oa x.2.2.2 y.2.2.2) true))))) u v=if x=y then v () else u ():=by
 rw [Zm,Zi,Zi,beq_eq,Vt,Yd,Yd,Yd,U9,VE];by_cases e:x=y
 ·subst e;simp
 ·rw [if_pos (λh=>e (tk h.1 (tk h.2.1 (tk h.2.2.1 h.2.2.2)))),if_neg e]
theorem Wz (l m:List Tj) (p:l.length<=9223372036854775806):Uj (l,m)=some (decide (l=m)):=by
 unfold Uj;simp only [Tp,Tn];rw [TQ];by_cases d:(l.length:Int)=(m.length:Int)
 ·rw [if_pos d];have g:l.length=m.length:=by omega
  obtain ⟨r,n,a⟩:=YW l m g p (f:=λs0=>br (S8 s0.1 (l.length:Int)) (λ_=>R1 s0.1 λq=>ix l q λb=>R1 s0.1 λs=>ix m s λc=>br (Hg (Nm (seq b.1 c.1) (Nm (seq b.2.1 c.2.1) (Nm (Sv.beq b.2.2.1 c.2.2.1) (Nm (Oa b.2.2.2 c.2.2.2) true))))) (λ_=>some (.dn ((0,((s0.1,false),()))))) λ_=>some (.nx (SF .i64 s0.1 1,s0.2))) λ_=>some (.dn ((1,(s0,()))))) (λk x y h j=>by
    have i:=(a8.1 h).1;constructor
    ·intro e;simp only;rw [rl i,Sc,Ti,TC h,Ti,TC j,af,if_pos e,Ts (by omega)]
    ·intro e;simp only
     rw [rl i,Sc,Ti,TC h,Ti,TC j,af,if_neg e]) (by simp only;rw [re];rfl)
  refine UB n ?_;rcases a with ⟨e,a⟩ | ⟨e,a,o⟩
  ·rw [Sy,a];simp [e]
  ·rw [Sy,a];simp [e,o]
 ·rw [if_neg d];have : ¬ l=m:=λe=>d (by rw [e]);simp [this]
theorem X9 (l m:List Tj) (a:l.length<=9223372036854775806):Uq (l,m)=some (decide (l=m)):=by
 unfold Uq;rw [Wz l m a];rfl
instance:DecidableEq Tj:=inferInstance
instance:DecidableEq (List Tj):=inferInstance
instance:DecidableEq (List (List Tj)):=inferInstance
instance:DecidableEq UI:=inferInstance
instance:DecidableEq Vw:=inferInstance
instance:DecidableEq VY:=inferInstance
instance:DecidableEq Ul:=inferInstance
instance:DecidableEq Xj:=inferInstance
theorem dH (x y:Xj) (n:x.1.1.length<=1000) (i : ∀ l∈x.1.1,l.length<=1000000) (o:x.1.2.1.length<=1000) (p:x.1.2.2.1.length<=1000) (q:x.1.2.2.2.1.length<=1000) (s:x.2.2.1.length<=1000000):Vv (x,y)=some (decide (x=y)):=by
 obtain ⟨⟨a,E,F,G,M⟩,⟨xs,L,J⟩,I,K⟩:=x;obtain ⟨⟨b,N,P,S,Z⟩,⟨X,Y,O⟩,W,U⟩:=y;simp only at n i o p q s;unfold Vv;simp only [Tp,Tn];rw [TQ];by_cases g:(a.length:Int)=(b.length:Int)
 ·rw [if_pos g];have h:a.length=b.length:=by omega
  obtain ⟨r,z,d⟩:=YW a b h (by omega) (f:=λs0=>br (S8 s0.1 (a.length:Int)) (λ_=>R1 s0.1 λu=>ix a u λC=>R1 s0.1 λw=>ix b w λD=>bd (Uq (C,D)) λB=>br (Hg B) (λ_=>some (.dn ((0,((s0.1,false),()))))) λ_=>some (.nx (SF .i64 s0.1 1,s0.2))) λ_=>some (.dn ((1,(s0,()))))) (λk x y c m=>by
    have j:=(a8.1 c).1;have t:=i x (bo c);constructor
    ·intro e;simp only;rw [rl j,Sc,Ti,TC c,Ti,TC m,X9 _ _ (by omega),Sx,U9,VE,if_neg (by simp [e]),Ts (by omega)]
    ·intro e;simp only
     rw [rl j,Sc,Ti,TC c,Ti,TC m,X9 _ _ (by omega),Sx,U9,VE,if_pos e]) (by simp only;rw [re];rfl)
  refine UB z ?_;simp only [ZK _ _ (show E.length<=9223372036854775806 by omega),ZK _ _ (show G.length<=9223372036854775806 by omega),gq _ _ (show F.length<=9223372036854775806 by omega),X9 _ _ (show I.length<=9223372036854775806 by omega),Sx,VE,Vt,Zi,beq_eq,Zm,Yd,Sy];rw [TV];rcases d with ⟨e,d⟩ | ⟨e,d,A⟩
  ·rw [if_neg (show ¬ r.1=0 by omega)]
   repeat' split
   all_goals simp_all
  ·rw [if_pos d,if_neg (show ¬ r.2.1.2=true by simp [A])];simp [e]
 ·rw [if_neg g];have : ¬ a=b:=λe=>g (by rw [e]);simp [this]
end
section
open Go Sv
def kR (a:List Int) (most:Int) (r:UK):Int :=
 if r.1<1\/r.1>1000000 then 7 else if (WX r.2).2≠0 then (WX r.2).2 else if r.2.length=0 then 4 else if (r.2.length:Int)>most then 3 else if r.1∈a then 8 else 0
def ZS (most:Int):Nat->List Int->List UK->Option (Nat×Int)
 | _,_,[]=>none
 | k,ids,r::rs=>if kR ids most r≠0 then some (k,kR ids most r) else ZS most (k+1) (ids++[r.1]) rs
def Us (B:Int) (i:Nat):Int:=B*2 ^ i
def ZR (B:Int):Nat->List Int->List (List UK)->Option (Nat×(Nat×Int))
 | _,_,[]=>none
 | i,ids,rs::ls=>if rs.length>2 then some (i,(0,3)) else match ZS (Us B i) 0 ids rs with
  | some (k,e)=>some (i,(k,e))
  | none=>ZR B (i+1) (ids++rs.map (·.1)) ls
def VZ (L:Tl):Int×(Int×Int) :=
 if L.1<1\/L.1>16 then (0,(0,7)) else if L.2.length>12 then (0,(0,3)) else match ZR L.1 0 [] L.2 with
  | some (i,(k,e))=>((i:Int),((k:Int),e))
  | none=>if L.2.getLast? = some [] then (((L.2.length-1:Nat):Int),(0,6)) else (0,(0,0))
theorem gX {most:Int} : ∀ {rs:List UK} {k:Nat} {a:List Int} {c:Nat} {e:Int},ZS most k a rs=some (c,e)->e≠0
 | [],_,_,_,_,h=>by cases h
 | r::rs,k,a,c,e,h=>by
  unfold ZS at h;by_cases b:kR a most r≠0
  ·rw [if_pos b] at h;cases h;exact b
  ·rw [if_neg b] at h;exact gX h
theorem cV {B:Int} : ∀ {ls:List (List UK)} {i:Nat} {a:List Int} {d f:Nat} {e:Int},ZR B i a ls=some (d,(f,e))->e≠0
 | [],_,_,_,_,_,h=>by cases h
 | rs::ls,i,a,d,f,e,h=>by
  unfold ZR at h;by_cases c:rs.length>2
  ·rw [if_pos c] at h;cases h;decide
  ·rw [if_neg c] at h;cases b:ZS (Us B i) 0 a rs with
   | none=>rw [b] at h;exact cV h
   | some x=>rw [b] at h;cases h;exact gX b
def bS (a:List Int):List (Int×Bool):=a.map λi=>(i,true)
theorem ju (c:List Int) (i:Int):SO (MU (λa b=>Oa a b) (bS c) i) false=decide (i∈c):=by
 induction c with
 | nil=>rfl
 | cons j c d =>
  show SO (bif Oa i j then some true else MU (λa b=>Oa a b) (bS c) i) false=_
  rw [Vt];by_cases h:i=j
  ·simp [h,SO]
  ·simp only [h,decide_false,cond_false,ey,false_or];exact d
theorem jv {c:List Int} {i:Int} (h:i ∉ c):IT (λa b=>Oa a b) (bS c) i true=bS (c++[i]):=by
 induction c with
 | nil=>rfl
 | cons j c f =>
  show (bif Oa i j then (i,true)::bS c else (j,true)::IT (λa b=>Oa a b) (bS c) i true)=_
  rw [Vt];have d : ¬ i=j:=λe=>h (by simp [e]);rw [f (λe=>h (by simp [e]))];simp only [d,decide_false,cond_false];rfl
theorem ca (r:UK) (b:r.2.length<=9223372036854775807):Xw r=some (if r.1<1\/r.1>1000000 then (-1,7) else WX r.2):=by
 unfold Xw;rw [TP,TM,Xc _ b,Sx];by_cases h:r.1<1
 ·rw [if_pos h,if_pos (.inl h)]
 ·rw [if_neg h];by_cases a:r.1>1000000
  ·rw [if_pos a,if_pos (.inr a)]
  ·rw [if_neg a,if_neg (by omega)]
theorem bj (r:UK) (most:Int) (b:r.2.length<=9223372036854775807):Vj (r,most)=some (kR [] most r):=by
 unfold Vj kR;rw [ca r b,Sx];simp only [Tp,Tn];by_cases h:r.1<1\/r.1>1000000
 ·rw [if_pos h,if_pos h];rfl
 ·rw [if_neg h,if_neg h,TQ];by_cases a:(WX r.2).2=0
  ·rw [if_pos a,if_neg (by simp [a]),TK,TM]
   repeat' split
   all_goals first | rfl | (exfalso;omega) | simp_all
  ·rw [if_neg a,if_pos a]
theorem se (a:List Int) (most:Int) (r:UK):kR a most r=if kR [] most r=0 then (if r.1∈a then 8 else 0) else kR [] most r:=by
 unfold kR
 repeat' split
 all_goals simp_all
theorem sy (i:Nat) (h:i<=12):(2:Int) ^ i<=4096/\1<=(2:Int) ^ i:=by
 have a:(2:Nat) ^ i<=2 ^ 12:=Nat.pow_le_pow_right (by omega) h;have b:1<=(2:Nat) ^ i:=Nat.one_le_two_pow;have c:((2 ^ i:Nat):Int)=(2:Int) ^ i:=by simp
 omega
theorem du {B:Int} {i:Nat} (a:1<=B) (b:B<=16) (hi:i<=12):1<=Us B i/\Us B i<=65536:=by
 obtain ⟨c,d⟩:=sy i hi;unfold Us;constructor
 ·have:=Ds a d (by omega) (by omega);omega
 ·have:=Ds b c (by omega) (by omega);omega
theorem aC {B:Int} {i:Nat} (a:1<=B) (b:B<=16) (hi:i<=12):Rb .i64 B (i:Int)=Us B i:=by
 have c:=du a b hi;unfold Rb;rw [show min ((i:Int).toNat) IntKind.i64.bits=i by rw [bl];exact xa (Nat.le_trans hi (by decide))];unfold Us at c ⊢;exact IntWalk.i64_in _ (by omega)
def Q1:Option (Nat×(Nat×Int))->Int->Int->Int->Prop
 | some (i,(k,e)),a,b,c=>a=(k:Int)/\b=(i:Int)/\c=e
 | none,_,_,c=>c=0
def Q2 (m:List (Int×Bool)):Option (Nat×Int)->Nat->Int->Int->List (Int×Bool)->Prop
 | some (k,e),r,a,c,_=>r=0/\a=(k:Int)/\c=e
 | none,r,_,c,m'=>r=1/\c=0/\m'=m
theorem Yo (L:Tl) (hb:L.2.length<=1048576) (hr : ∀ rs∈L.2,rs.length<=1048576 /\ ∀ r∈rs,r.2.length<=9223372036854775807):VU L=some (VZ L):=by
 unfold VU VZ;simp only [Tp,Tn];rw [TP,TM,TM];by_cases z:L.1<1
 ·rw [if_pos z,if_pos (.inl z)]
 rw [if_neg z];by_cases A:L.1>16
 ·rw [if_pos A,if_pos (.inr A)]
 rw [if_neg A,if_neg (show ¬ (L.1<1\/L.1>16) by omega)];by_cases hl:(L.2.length:Int)>12
 ·rw [if_pos hl,if_pos (by omega)]
 rw [if_neg hl,if_neg (by omega)];have hl2:L.2.length<=12:=by omega
 obtain ⟨T,I⟩ : ∃ T,T=ZR L.1 0 [] L.2:=⟨_,rfl⟩;rw [<- I]
 have C : ∀ W:Int,W=0->T=none->(br (Ry W 0) (λ_=>(none:Option (Int×(Int×Int)))) λ_=>br (S6 (L.2.length:Int) 0) (λ_=>R1 (SK .i64 (L.2.length:Int) 1) λO=>ix L.2 O λX=>br (Oa (X.length:Int) 0) (λ_=>some ((SK .i64 (L.2.length:Int) 1,(0,6)))) λ_=>some ((0,(0,0)))) λ_=>some ((0,(0,0))))=some (if L.2.getLast? = some [] then (((L.2.length-1:Nat):Int),(0,6)) else (0,(0,0))):=by
  intro W o _;rw [TQ,if_pos o,TM];by_cases hn:L.2=[]
  ·rw [hn];rfl
  ·have hp:=ed.2 hn;rw [if_pos (by omega),show SK .i64 (L.2.length:Int) 1=((L.2.length-1:Nat):Int) by rw [Sj (by omega)];omega,Ti,o3];have n:L.2[L.2.length-1]? = some (L.2[L.2.length-1]'(by omega)):=by simp
   rw [TC n,n,TK];by_cases N:L.2[L.2.length-1]'(by omega)=[]
   ·rw [N];simp
   ·rw [if_neg (by have:=ed.2 N;omega),if_neg (by simp [N])]
 obtain ⟨r,S,b⟩:=Wp (l:=L.2) (σ:=Int×(Int×List Int)) (λi j=>(j.1,(j.2.1,((0:Int),((i:Int),bS j.2.2)))))
  (λm i j=>ZR L.1 i j.2.2 m=T) (λ(r:Nat×((Int×(Int×(Int×(Int×List (Int×Bool)))))×Unit))=>Q1 T r.2.1.1 r.2.1.2.1 r.2.1.2.2.1)
  (f:=λs0=>br (S8 s0.2.2.2.1 (L.2.length:Int)) (λ_=>R1 s0.2.2.2.1 λk1=>ix L.2 k1 λY=>br (S6 (Y.length:Int) 2) (λ_=>some (.dn ((0,((0,(s0.2.2.2.1,(3,s0.2.2.2))),()))))) λ_=>bd (loop (λa=>br (S8 a.2.1 (Y.length:Int)) (λ_=>R1 a.2.1 λP=>ix Y P λp=>gd (Rx s0.2.2.2.1 0) λ_=>bd (Vj (p,Rb .i64 L.1 s0.2.2.2.1)) λg=>br (Oa g 0) (λ_=>br (SO (MU ((λJ=>(λK=>Oa J K))) a.2.2.2 p.1) false) (λ_=>some (.dn ((0,((a.2.1,(a.2.1,(8,a.2.2.2))),()))))) λ_=>br (Ry g 0) (λ_=>some (.dn ((0,((a.2.1,(a.2.1,(g,a.2.2.2))),()))))) λ_=>some (.nx ((a.2.1,(SF .i64 a.2.1 1,(g,IT ((λM=>(λw=>Oa M w))) a.2.2.2 p.1 true)))))) λ_=>br (Ry g 0) (λ_=>some (.dn ((0,((a.2.1,(a.2.1,(g,a.2.2.2))),()))))) λ_=>some (.nx ((a.2.1,(SF .i64 a.2.1 1,(g,IT ((λx=>(λy=>Oa x y))) a.2.2.2 p.1 true)))))) λ_=>some (.dn ((1,(a,()))))) ((0,(0,(s0.2.2.1,s0.2.2.2.2))))) λd=>br (neq d.1 0) (λ_=>some (.dn ((0,((d.2.1.1,(s0.2.2.2.1,(d.2.1.2.2.1,(s0.2.2.2.1,d.2.1.2.2.2)))),()))))) λ_=>some (.nx ((d.2.1.1,(s0.2.2.2.1,(d.2.1.2.2.1,(SF .i64 s0.2.2.2.1 1,d.2.1.2.2.2))))))) λ_=>some (.dn ((0,(s0,())))))
  (s:=(0,(0,(0,(0,[]))))) (0,(0,[])) rfl (by omega) I.symm (λj h=>by
   refine ⟨_,by simp only;rw [re];rfl,?_⟩;simp only at h ⊢;rw [<- h];exact rfl) (λi rs m j hd n hi h=>by
   obtain ⟨s1,s2,c⟩:=j;simp only at h ⊢;obtain ⟨hrs1,F⟩:=hr rs (bo n);rw [rl hi,Sc,Ti,TC n,TM];unfold ZR at h;by_cases Z:rs.length>2
   ·rw [if_pos (by omega)];rw [if_pos Z] at h;refine .inr ⟨_,rfl,?_⟩;rw [<- h];exact ⟨rfl,rfl,rfl⟩
   rw [if_neg (by omega)];rw [if_neg Z] at h;obtain ⟨U,hU⟩ : ∃ U,U=ZS (Us L.1 i) 0 c rs:=⟨_,rfl⟩;rw [<- hU] at h
   obtain ⟨r,S,b⟩:=Wp (l:=rs) (σ:=Int) (λk j=>(j,((k:Int),((0:Int),bS (c++(rs.take k).map (·.1))))))
    (λm k _=>ZS (Us L.1 i) k (c++(rs.take k).map (·.1)) m=U) (λ(r:Nat×((Int×(Int×(Int×List (Int×Bool))))×Unit))=>Q2 (bS (c++rs.map (·.1))) U r.1 r.2.1.1 r.2.1.2.2.1 r.2.1.2.2.2)
    (f:=λa=>br (S8 a.2.1 (rs.length:Int)) (λ_=>R1 a.2.1 λP=>ix rs P λp=>gd (Rx (i:Int) 0) λ_=>bd (Vj (p,Rb .i64 L.1 (i:Int))) λg=>br (Oa g 0) (λ_=>br (SO (MU ((λJ=>(λK=>Oa J K))) a.2.2.2 p.1) false) (λ_=>some (.dn ((0,((a.2.1,(a.2.1,(8,a.2.2.2))),()))))) λ_=>br (Ry g 0) (λ_=>some (.dn ((0,((a.2.1,(a.2.1,(g,a.2.2.2))),()))))) λ_=>some (.nx ((a.2.1,(SF .i64 a.2.1 1,(g,IT ((λM=>(λw=>Oa M w))) a.2.2.2 p.1 true)))))) λ_=>br (Ry g 0) (λ_=>some (.dn ((0,((a.2.1,(a.2.1,(g,a.2.2.2))),()))))) λ_=>some (.nx ((a.2.1,(SF .i64 a.2.1 1,(g,IT ((λx=>(λy=>Oa x y))) a.2.2.2 p.1 true)))))) λ_=>some (.dn ((1,(a,())))))
    (s:=(0,(0,(0,bS c)))) 0 (by simp) (by omega) (by simp [hU]) (λj h=>by
     refine ⟨_,by simp only;rw [re];rfl,?_⟩;rw [<- h];exact ⟨rfl,rfl,by simp⟩) (λk r m j hd n hk h=>by
     simp only at h ⊢;have hr2:=F r (bo n);have G:(rs.take (k+1)).map (·.1)=(rs.take k).map (·.1)++[r.1]:=by rw [gM,n];simp
     rw [rl hk,Sc,Ti,TC n,show gd (Rx (i:Int) 0)=λ(q:Unit->Option (LR (Int×(Int×(Int×List (Int×Bool)))) (Nat×((Int×(Int×(Int×List (Int×Bool))))×Unit))))=>q () from by unfold Rx;simp [gd];rfl,aC (by omega) (by omega) (by omega)];simp only;rw [bj _ _ (by omega),Sx,TK,ju,TQ];unfold ZS at h;rw [se] at h;by_cases o:kR [] (Us L.1 i) r=0
     ·rw [if_pos o] at h;rw [if_pos o,if_pos o,VE];by_cases E:r.1∈c++(rs.take k).map (·.1)
      ·rw [if_pos E];rw [if_pos E,if_pos (by decide)] at h;refine .inr ⟨_,rfl,?_⟩;rw [<- h];exact ⟨rfl,rfl,rfl⟩
      ·rw [if_neg E];rw [if_neg E,if_neg (by decide)] at h;refine .inl ⟨(k:Int),?_,?_⟩
       ·rw [jv E,o,Tv n (by omega),G,eb]
       ·rw [G,<- eb];exact h
     ·rw [if_neg o,if_pos o] at h;rw [if_neg o,if_neg o];refine .inr ⟨_,rfl,?_⟩;rw [<- h]
      exact ⟨rfl,rfl,rfl⟩)
   rw [S,Sx,Sy];cases D:U with
   | some u =>
    obtain ⟨k,e⟩:=u;rw [D] at b h;rw [if_pos b.1];refine .inr ⟨_,rfl,?_⟩;rw [<- h];exact ⟨b.2.1,rfl,b.2.2⟩
   | none =>
    rw [D] at b h;rw [if_neg (show ¬ r.1=0 by have:=b.1;omega)];refine .inl ⟨(r.2.1.1,((i:Int),c++rs.map (·.1))),?_,h⟩
    rw [b.2.1,b.2.2,Tv n (by omega)])
 refine UB S ?_;cases B:T with
 | some t =>
  obtain ⟨i,k,e⟩:=t;rw [B] at b I;rw [TQ,if_neg (by rw [b.2.2];exact cV I.symm),b.1,b.2.1,b.2.2]
 | none =>
  rw [B] at b;have h:=C _ b B;have q3:r.2.1.2.2.1=0:=b;rw [TQ,if_pos q3] at h ⊢;exact h
end
section
open Go Sv
structure VR (most:Int) (r:UK):Prop where
 id1:1<=r.1
 id2:r.1<=1000000
 vl:VL r.2
 ne:r.2≠[]
 le:(r.2.length:Int)<=most
theorem jm {a:List Int} {most:Int} {r:UK}:kR a most r=0<->VR most r/\r.1 ∉ a:=by
 unfold kR;constructor
 ·intro h;by_cases f:r.1<1\/r.1>1000000
  ·rw [if_pos f] at h;cases h
  rw [if_neg f] at h;by_cases b:(WX r.2).2≠0
  ·rw [if_pos b] at h;exact absurd h b
  rw [if_neg b] at h;by_cases c:r.2.length=0
  ·rw [if_pos c] at h;cases h
  rw [if_neg c] at h;by_cases g:(r.2.length:Int)>most
  ·rw [if_pos g] at h;cases h
  rw [if_neg g] at h;by_cases d:r.1∈a
  ·rw [if_pos d] at h;cases h
  exact ⟨⟨by omega,by omega,Z8.1 (by simpa using b),by intro e;rw [e] at c;exact c rfl,by omega⟩,d⟩
 ·rintro ⟨h,d⟩;rw [if_neg (by have:=h.id1;have:=h.id2;omega),if_neg (by simp [Z8.2 h.vl]),if_neg (by have:=ed.2 h.ne;omega),if_neg (by have:=h.le;omega),if_neg d]
def qU (r:UK):Int:=r.1
theorem aJ {most:Int} : ∀ {rs:List UK} {k:Nat} {a:List Int},ZS most k a rs=none<->(∀ r∈rs,VR most r/\r.1 ∉ a)/\(rs.map qU).Nodup
 | [],k,a=>by simp [ZS]
 | r::rs,k,a=>by
  unfold ZS;by_cases h:kR a most r=0
  ·rw [if_neg (by simp [h]),aJ (rs:=rs)];have f:=jm.1 h;simp only [ey,forall_eq_or_imp,ll,ol,nP,List.not_mem_nil,or_false,oy,not_exists,not_and,not_or];constructor
   ·rintro ⟨b,d⟩;exact ⟨⟨f,λx c=>⟨(b x c).1,(b x c).2.1⟩⟩,λx c e=>(b x c).2.2 e,d⟩
   ·rintro ⟨⟨_,b⟩,d,g⟩;exact ⟨λx c=>⟨(b x c).1,(b x c).2,d x c⟩,g⟩
  ·rw [if_pos h];simp only [reduceCtorEq,false_iff,not_and];intro b;exact absurd (jm.2 (b r (by simp))) h
theorem ZN {B:Int} : ∀ {ls:List (List UK)} {i:Nat} {c:List Int},ZR B i c ls=none<->(∀ k rs,ls[k]? = some rs->rs.length<=2 /\ ∀ r∈rs,VR (Us B (i+k)) r/\r.1 ∉ c)/\(ls.flatten.map qU).Nodup
 | [],i,c=>by simp [ZR]
 | rs::ls,i,c=>by
  unfold ZR;by_cases h:rs.length>2
  ·rw [if_pos h];simp only [reduceCtorEq,false_iff,not_and];intro j;have:=(j 0 rs rfl).1;omega
  ·rw [if_neg h];cases g:ZS (Us B i) 0 c rs with
   | some x =>
    simp only [reduceCtorEq,false_iff,not_and];intro j l
    have m:ZS (Us B i) 0 c rs=none:=aJ.2 ⟨(j 0 rs rfl).2,by
     simp only [kd,sw] at l
     exact (rz.1 l).1⟩
    rw [g] at m;cases m
   | none =>
    have q:=aJ.1 g;simp only;rw [ZN (ls:=ls)];simp only [kd,sw,nP,not_or,oy];constructor
    ·rintro ⟨j,l⟩;refine ⟨λk d n => ?_,?_⟩
     ·cases k with
      | zero=>cases n;exact ⟨by omega,q.1⟩
      | succ k =>
       have m:=j k d n
       exact ⟨m.1,λr g=>by
        have:=m.2 r g;rw [show i+(k+1)=i+1+k by omega]
        exact ⟨this.1,this.2.1⟩⟩
     ·rw [rz];refine ⟨q.2,l,?_⟩;intro a s b t e;subst e;obtain ⟨r,g,e1⟩:=oy.1 s;obtain ⟨p,f,e2⟩:=oy.1 t;obtain ⟨d,o,f⟩:=l5.1 f;obtain ⟨k,n⟩:=ee o;exact ((j k d n).2 p f).2.2 ⟨r,g,by unfold qU at e1 e2;omega⟩
    ·rintro ⟨j,l⟩;rw [rz] at l;refine ⟨λk d n => ?_,l.2.1⟩;have m:=j (k+1) d n;refine ⟨m.1,λr g => ?_⟩;have:=m.2 r g;rw [show i+(k+1)=i+1+k by omega] at this;refine ⟨this.1,this.2,?_⟩;rintro ⟨p,f,e⟩;exact l.2.2 (qU p) (l6 f) (qU r) (l6 (l5.2 ⟨d,bo n,g⟩)) e
structure VLev (L:Tl):Prop where
 B1:1<=L.1
 B2:L.1<=16
 len:L.2.length<=12
 lev : ∀ i rs,L.2[i]? = some rs->rs.length<=2 /\ ∀ r∈rs,VR (Us L.1 i) r
 ids:(L.2.flatten.map qU).Nodup
 last:L.2.getLast? ≠ some []
theorem Xg {L:Tl}:(VZ L).2.2=0<->VLev L:=by
 unfold VZ;constructor
 ·intro h;by_cases c:L.1<1\/L.1>16
  ·rw [if_pos c] at h;cases h
  rw [if_neg c] at h;by_cases d:L.2.length>12
  ·rw [if_pos d] at h;cases h
  rw [if_neg d] at h;cases a:ZR L.1 0 [] L.2 with
  | some x =>
   obtain ⟨i,k,e⟩:=x;rw [a] at h;exact absurd h (cV a)
  | none =>
   rw [a] at h;simp only at h;by_cases f:L.2.getLast? = some []
   ·rw [if_pos f] at h;cases h
   ·have g:=ZN.1 a
    exact ⟨by omega,by omega,by omega,λi rs hi=>by
     have:=g.1 i rs hi;rw [eg] at this
     exact ⟨this.1,λr b=>(this.2 r b).1⟩,g.2,f⟩
 ·intro h
  have a:ZR L.1 0 [] L.2=none:=ZN.2 ⟨λk rs j=>by
   have:=h.lev k rs j;rw [eg]
   exact ⟨this.1,λr b=>⟨this.2 r b,by simp⟩⟩,h.ids⟩
  rw [if_neg (by have:=h.B1;have:=h.B2;omega),if_neg (by have:=h.len;omega),a];simp only;rw [if_neg h.last]
theorem WU {L:Tl} (h:VLev L):VZ L=(0,(0,0)):=by
 have a:ZR L.1 0 [] L.2=none:=ZN.2 ⟨λk rs b=>by
  have:=h.lev k rs b;rw [eg]
  exact ⟨this.1,λr c=>⟨this.2 r c,by simp⟩⟩,h.ids⟩
 unfold VZ;rw [if_neg (by have:=h.B1;have:=h.B2;omega),if_neg (by have:=h.len;omega),a];simp only;rw [if_neg h.last]
def WT (l:List (List UK)):Int:=l.foldl (λm rs=>rs.foldl (λm r=>TY m r.1) m) 0
def To:Nat->List (List UK)->List Int
 | _,[]=>[]
 | i,rs::ls=>(if rs.length=2 then [(i:Int)] else [])++To (i+1) ls
theorem dG (L:Tl) (e:L.2.length<=1048576) (c : ∀ rs∈L.2,rs.length<=1048576):Wh L=some (WT L.2):=by
 unfold Wh;simp only [Tp,Tn]
 rw [Un (l:=L.2) (σ:=Int) (s:=((0:Int),(0:Int))) (λi m=>(m,(i:Int))) (λ_ _ _=>True) (λls _ m=>(0,((ls.foldl (λm rs=>rs.foldl (λm r=>TY m r.1) m) m,(L.2.length:Int)),()))) 0 rfl (by omega) trivial (λm _=>by
  simp only;rw [re];rfl) (λi rs ls m hd a hi _=>by
   refine ⟨rs.foldl (λm r=>TY m r.1) m,?_,trivial,rfl⟩;have d:=c rs (bo a);simp only
   rw [rl hi,Sc,Ti,TC a,Un (l:=rs) (σ:=Int) (s:=((0:Int),m)) (λi m=>((i:Int),m)) (λ_ _ _=>True) (λl _ m=>(0,(((rs.length:Int),l.foldl (λm r=>TY m r.1) m),()))) m rfl (by omega) trivial (λm _=>by
    simp only;rw [re];rfl) (λk r l m hd a b _=>by
     refine ⟨TY m r.1,?_,trivial,rfl⟩;simp only
     rw [rl b,Sc,Ti,TC a,Tv a (by omega)]),Sx,Tv a (by omega)]),Sx]
 rfl
def ZQ (L:Tl) (a:List Int) (i:Nat) (j:Job):Bool:=match a[i]? with
 | none=>true
 | some d=>if j.1≠d then true else if j.2.2.1.2.2=true/\j.1≠(L.2.length:Int)-1 then true else match L.2[d.toNat]? with
  | some [r0,r1]=>if j.2.2.2.2<0\/j.2.2.2.2>((r1.2.length+r0.2.length:Nat):Int) then true else decide (Va r1.2 r0.2 j.2.2.1.2.2 j.2.2.2.2.toNat≠j.2)
  | _=>true
def Wo (L:Tl) (a:List Int):Nat->List Job->Option Nat
 | _,[]=>none
 | i,j::js=>if ZQ L a i j=true then some i else Wo L a (i+1) js
def Tk (s:Th):Int×Int :=
 if (VZ s.1).2.2≠0 then (-1,(VZ s.1).2.2) else if s.2.2<1\/s.2.2>1000001 then (-1,7) else if s.2.2<=WT s.1.2 then (-1,6) else match Wo s.1 (To 0 s.1.2) 0 s.2.1 with
  | some i=>((i:Int),6)
  | none=>if s.2.1.length<(To 0 s.1.2).length then (-1,4) else (0,0)
theorem Xy : ∀ {ls:List (List UK)} {i k:Nat} {d:Int},(To i ls)[k]? = some d -> ∃ n:Nat,d=((i+n:Nat):Int) /\ ∃ e f,ls[n]? = some [e,f]
 | [],i,k,d,h=>by cases h
 | rs::ls,i,k,d,h=>by
  unfold To at h;by_cases a:rs.length=2
  ·rw [if_pos a] at h;cases k with
   | zero =>
    simp at h;refine ⟨0,by simp [<- h],?_⟩
    match rs,a with
    | [e,f],_=>exact ⟨e,f,rfl⟩
   | succ k =>
    simp at h;obtain ⟨n,b,c⟩:=Xy h;exact ⟨n+1,by rw [b];congr 1;omega,c⟩
  ·rw [if_neg a] at h;simp at h;obtain ⟨n,b,c⟩:=Xy h;exact ⟨n+1,by rw [b];congr 1;omega,c⟩
theorem VQ : ∀ (ls:List (List UK)) (i:Nat),(To i ls).length<=ls.length
 | [],i=>dc _
 | rs::ls,i=>by
  have:=VQ ls (i+1);unfold To;split<;>simp<;>omega
theorem cu {L:Tl} {n:Nat} {a b:UK} (c:Bool) (h:L.2[n]? = some [a,b]) (d:VL a.2) (e:VL b.2):VK (L,((n:Int),c))=some ((n:Int),Va b.2 a.2 c 0):=by
 unfold VK;simp only;rw [Ti,TC h,TC (x:=b) rfl,TC (x:=a) rfl,gj e d];rfl
theorem Z4 {a b:List Tj} (va:VL a) (d:VL b) (c:Bool) {n:Nat} (h:n<=a.length+b.length):(Va a b c n).1.1.length<=1000/\(∀ l∈(Va a b c n).1.1,l.length<=1000000)/\(Va a b c n).1.2.1.length<=1000/\(Va a b c n).1.2.2.1.length<=1000/\(Va a b c n).1.2.2.2.1.length<=1000/\(Va a b c n).2.2.1.length<=1000000:=by
 have j:=va.len;have k:=d.len;refine ⟨show 2<=1000 by omega,λl f => ?_,show 2<=1000 by omega,show 2<=1000 by omega,show 2<=1000 by omega,?_⟩
 ·have:l=a\/l=b:=by simpa [Va,ZW,Zk] using f
  rcases this with e | e<;>subst e<;>omega
 ·have g:=YQ (s0 c) (UC a b n);have i:=VC va d h;show (WF (s0 c) (UC a b n)).length<=_;omega
theorem sc {L:Tl} {n:Nat} {a b:UK} {j:Job} (h:L.2[n]? = some [a,b]) (e:VL a.2) (f:VL b.2) {β:Type} (A B:Option β) :
  (bd (VK (L,((n:Int),j.2.2.1.2.2))) λc=>bd (Ud c.2) λl=>br (S8 j.2.2.2.2 0) (λ_=>A) λ_=>br (S6 j.2.2.2.2 l.1) (λ_=>A) λ_=>bd (Uv (c.2,j.2.2.2.2)) λm=>bd (Vv (m.1,j.2)) λo=>br (Hg o) (λ_=>A) λ_=>B)
  = if j.2.2.2.2<0\/j.2.2.2.2>((b.2.length+a.2.length:Nat):Int) then A else if Va b.2 a.2 j.2.2.1.2.2 j.2.2.2.2.toNat=j.2 then B else A:=by
 rw [cu _ h e f,Sx,aK f e _ (lc _),Sx,TP,TM,l4];by_cases g:j.2.2.2.2<0
 ·rw [if_pos g,if_pos (.inl g)]
 rw [if_neg g];by_cases i:j.2.2.2.2>((b.2.length+a.2.length:Nat):Int)
 ·rw [if_pos i,if_pos (.inr i)]
 rw [if_neg i,if_neg (show ¬ (j.2.2.2.2<0\/j.2.2.2.2>((b.2.length+a.2.length:Nat):Int)) by omega)];obtain ⟨k,p⟩ : ∃ k:Nat,j.2.2.2.2=(k:Int):=⟨j.2.2.2.2.toNat,by omega⟩;rw [p,cB f e _ (lc _),Sx,l4,eg,xa (by omega),bl];obtain ⟨s1,s2,q,r,s,t⟩:=Z4 f e j.2.2.1.2.2 (n:=k) (by omega);rw [dH _ _ s1 s2 q r s t,Sx,U9,VE];by_cases d:Va b.2 a.2 j.2.2.1.2.2 k=j.2
 ·rw [if_neg (by simp [d]),if_pos d]
 ·rw [if_pos d,if_neg d]
theorem eL (s:Th) (N:s.1.2.length<=1048576) (hr : ∀ rs∈s.1.2,rs.length<=1048576 /\ ∀ r∈rs,r.2.length<=9223372036854775807) (hj:s.2.1.length<=1048576):U3 s=some (Tk s):=by
 unfold U3 Tk;simp only [Tp,Tn];rw [Yo _ N hr,Sx,TQ];by_cases z:(VZ s.1).2.2=0;rotate_left
 ·rw [if_neg z,if_pos z]
 rw [if_pos z,if_neg (by simp [z]),TP,TM,dG _ N (λrs h=>(hr rs h).1),Sx];have v:=Xg.1 z;by_cases C:s.2.2<1
 ·rw [if_pos C,if_pos (.inl C)]
 rw [if_neg C];by_cases p:s.2.2>1000001
 ·rw [if_pos p,if_pos (.inr p)]
 rw [if_neg p,if_neg (show ¬ (s.2.2<1\/s.2.2>1000001) by omega),TN];by_cases o:s.2.2<=WT s.1.2
 ·rw [if_pos o,if_pos o]
 rw [if_neg o,if_neg o]
 rw [Un (l:=s.1.2) (σ:=List Int) (s:=((0:Int),([]:List Int))) (λi m=>((i:Int),m)) (λls i m=>m++To i ls=To 0 s.1.2) (λ_ _ _=>(0,(((s.1.2.length:Int),To 0 s.1.2),()))) [] rfl (by omega) rfl (λm h=>by
  simp only;rw [re,R7,<- h];simp [To]) (λi rs ls m hd E hi h=>by
   refine ⟨m++(if rs.length=2 then [(i:Int)] else []),?_,?_,rfl⟩
   ·simp only;rw [rl hi,Sc,Ti,TC E,TK]
    have hm:m.length<=1048575:=by
     have D:=congrArg nb h;have q:=VQ s.1.2 0;have u:=v.len;rw [hV] at D;omega
    by_cases D:rs.length=2
    ·rw [if_pos (by omega),if_pos D,UP (by simp only [BF,AS,ci,cP];omega),Tv E (by omega)];rfl
    ·rw [if_neg (by omega),if_neg D,gs,Tv E (by omega)]
   ·rw [eb];exact h),Sx]
 simp only;obtain ⟨a,g⟩ : ∃ a,a=To 0 s.1.2:=⟨_,rfl⟩;have hdl:a.length<=12:=by have:=VQ s.1.2 0;have:=v.len;rw [g];omega
 rw [<- g];obtain ⟨T,hT⟩ : ∃ T,T=Wo s.1 a 0 s.2.1:=⟨_,rfl⟩;rw [<- hT]
 obtain ⟨r,q1,I⟩:=Wp (l:=s.2.1) (σ:=Unit) (λi _=>((0:Int),((0:Int),(i:Int)))) (λjs i _=>Wo s.1 a i js=T) (λ(r:Nat×((Int×(Int×Int))×Unit))=>(T=none/\r.1=1)\/(∃ i:Nat,T=some i/\r.1=0/\r.2.1.1=6/\r.2.1.2.1=(i:Int)))
  (f:=λb=>br (S8 b.2.2 (s.2.1.length:Int)) (λ_=>R1 b.2.2 λk7=>ix s.2.1 k7 λe=>br (Rx b.2.2 (a.length:Int)) (λ_=>some (.dn ((0,((6,(b.2.2,b.2.2)),()))))) λ_=>R1 b.2.2 λk9=>gd (KJ k9 a.length) λ_=>ix a k9 λx10=>br (Ry e.1 x10) (λ_=>some (.dn ((0,((6,(b.2.2,b.2.2)),()))))) λ_=>br e.2.2.1.2.2 (λ_=>bd (Vi (s.1,e.1)) λP=>br (Hg P) (λ_=>some (.dn ((0,((6,(b.2.2,b.2.2)),()))))) λ_=>bd (VK ((s.1,(e.1,e.2.2.1.2.2)))) λL=>bd (Ud L.2) λS=>br (S8 e.2.2.2.2 0) (λ_=>some (.dn ((0,((6,(b.2.2,b.2.2)),()))))) λ_=>br (S6 e.2.2.2.2 S.1) (λ_=>some (.dn ((0,((6,(b.2.2,b.2.2)),()))))) λ_=>bd (Uv (L.2,e.2.2.2.2)) λU=>bd (Vv (U.1,e.2)) λW=>br (Hg W) (λ_=>some (.dn ((0,((6,(b.2.2,b.2.2)),()))))) λ_=>some (.nx ((b.1,(b.2.1,SF .i64 b.2.2 1))))) λ_=>bd (VK ((s.1,(e.1,e.2.2.1.2.2)))) λM=>bd (Ud M.2) λX=>br (S8 e.2.2.2.2 0) (λ_=>some (.dn ((0,((6,(b.2.2,b.2.2)),()))))) λ_=>br (S6 e.2.2.2.2 X.1) (λ_=>some (.dn ((0,((6,(b.2.2,b.2.2)),()))))) λ_=>bd (Uv (M.2,e.2.2.2.2)) λY=>bd (Vv (Y.1,e.2)) λZ=>br (Hg Z) (λ_=>some (.dn ((0,((6,(b.2.2,b.2.2)),()))))) λ_=>some (.nx ((b.1,(b.2.1,SF .i64 b.2.2 1))))) λ_=>some (.dn ((1,(b,())))))
  (s:=(0,(0,0))) () rfl (by omega) hT.symm (λ_ h=>by
   refine ⟨_,by simp only;rw [re];rfl,.inl ⟨by rw [<- h];rfl,rfl⟩⟩) (λi j js _ hd E hi h=>by
   simp only;rw [rl hi,Sc,Ti,TC E,TL];unfold Wo at h
   have c:ZQ s.1 a i j=true -> ∃ r:Nat×((Int×(Int×Int))×Unit),(some (LR.dn ((0,((6,((i:Int),(i:Int))),()))):LR (Int×(Int×Int)) _))=some (.dn r)/\((T=none/\r.1=1)\/(∃ i:Nat,T=some i/\r.1=0/\r.2.1.1=6/\r.2.1.2.1=(i:Int))):=λN=>by
    rw [if_pos N] at h;exact ⟨_,rfl,.inr ⟨i,h.symm,rfl,rfl,rfl⟩⟩
   have x:ZQ s.1 a i j=false -> ∃ st':Unit,(some (LR.nx ((0:Int),((0:Int),SF .i64 (i:Int) 1))):Option (LR _ (Nat×((Int×(Int×Int))×Unit))))=some (.nx ((0:Int),((0:Int),((i+1:Nat):Int))))/\Wo s.1 a (i+1) js=T:=λhg=>by
    rw [if_neg (by simp [hg])] at h;exact ⟨(),by rw [Tv E (by omega)],h⟩
   by_cases C:(i:Int)>=(a.length:Int)
   ·rw [if_pos C];exact .inr (c (by unfold ZQ;rw [a9 (by omega)]))
   rw [if_neg C,Ti,S3,if_pos (by omega)];have w:a[i]? = some (a[i]'(by omega)):=by simp
   rw [TC w,TQ];obtain ⟨n,O,J,K,y⟩:=Xy (ls:=s.1.2) (i:=0) (k:=i) (d:=a[i]'(by omega)) (by rw [<- g];exact w);rw [eg] at O
   have t:ZQ s.1 a i j=(if j.1≠(a[i]'(by omega)) then true else if j.2.2.1.2.2=true/\j.1≠(s.1.2.length:Int)-1 then true else if j.2.2.2.2<0\/j.2.2.2.2>((K.2.length+J.2.length:Nat):Int) then true else decide (Va K.2 J.2 j.2.2.1.2.2 j.2.2.2.2.toNat≠j.2)):=by
    unfold ZQ;rw [w];simp only;rw [O,bl,y]
   by_cases p:j.1=(a[i]'(by omega));rotate_left
   ·rw [if_neg p];exact .inr (c (by rw [t,if_pos p]))
   rw [if_pos p];rw [if_neg (by simp [p])] at t;have F:j.1=(n:Int):=by rw [p,O]
   have hv:=(v.lev n _ y).2;have v0:=(hv J (by simp)).vl;have v1:=(hv K (by simp)).vl;have G:SK .i64 (s.1.2.length:Int) 1=(s.1.2.length:Int)-1:=Sj (by omega);unfold Vi;simp only [Tp,Tn];rw [Sx,G,Vt,U9,VE,F,sc y v0 v1,TV];rw [F] at t;by_cases o:j.2.2.1.2.2=true/\(n:Int)≠(s.1.2.length:Int)-1
   ·rw [if_pos o.1,if_pos o.2];exact .inr (c (by rw [t,if_pos o]))
   rw [if_neg o] at t
   have D : ∀ {γ:Type} (A B:γ),(if j.2.2.1.2.2=true then if ¬(n:Int)=(s.1.2.length:Int)-1 then A else B else B)=B:=by
    intro γ A B;by_cases q:j.2.2.1.2.2=true
    ·rw [if_pos q,if_neg (λu=>o ⟨q,u⟩)]
    ·rw [if_neg q]
   rw [D];by_cases q:j.2.2.2.2<0\/j.2.2.2.2>((K.2.length+J.2.length:Nat):Int)
   ·rw [if_pos q];exact .inr (c (by rw [t,if_pos q]))
   rw [if_neg q];rw [if_neg q] at t;by_cases u:Va K.2 J.2 j.2.2.1.2.2 j.2.2.2.2.toNat=j.2
   ·rw [if_pos u];exact .inl (x (by rw [t];simp [u]))
   ·rw [if_neg u]
    exact .inr (c (by rw [t];simp [u])))
 rw [z];refine UB q1 ?_;rw [Sy];rcases I with ⟨I,q3⟩ | ⟨i,I,q3,q4,q5⟩
 ·rw [if_neg (show ¬ r.1=0 by omega),I,TP];simp only;by_cases h7:s.2.1.length<a.length
  ·rw [if_pos (by omega),if_pos h7]
  ·rw [if_neg (by omega),if_neg h7]
 ·rw [if_pos q3,I,q4,q5]
end
section
open Go Sv
theorem Zx (x:Tj):V6 x=some (kE x):=by
 unfold V6 kE;rw [TM,Tp,Yt];by_cases e:x.1.length>32
 ·rw [if_pos (by omega),if_pos (.inl e)]
 rw [if_neg (by omega),TM,Tp,Yt];by_cases f:x.2.1.length>64
 ·rw [if_pos (by omega),if_pos (.inr f)]
 rw [if_neg (by omega : ¬ (x.2.1.length:Int)>64),if_neg (by omega),TV];by_cases b:x.2.2.1=true
 ·rw [if_pos b,UT,WB];by_cases c:x.2.1=[]
  ·rw [if_pos c,if_neg (by simp [c]),TP,TM];by_cases a:x.2.2.2<1
   ·simp [a]
   ·by_cases d:x.2.2.2>1000000000<;>simp [a,d]
  ·rw [if_neg c,if_pos ⟨b,c⟩]
 ·rw [if_neg b,if_neg (by simp [b]),TP,TM];by_cases a:x.2.2.2<1
  ·simp [a]
  ·by_cases d:x.2.2.2>1000000000<;>simp [a,d]
def Vh:List UInt8->List UInt8->Nat
 | x::a,y::b=>if x=y then Vh a b+1 else 0
 | _,_=>0
theorem o6 (x y:UInt8):Oa (Tc x) (Tc y)=decide (x=y):=by
 rw [Vt];unfold Tc;by_cases h:x=y
 ·simp [h]
 ·have : ¬ ((x.toNat:Int)=(y.toNat:Int)):=λe=>h (UInt8.toNat_inj.1 (by omega));simp [h,this]
theorem gn (a b:List UInt8) (z:a.length<=9223372036854775806):W7 (a,b)=some (Vh a b:Int):=by
 unfold W7;simp only [Tp,Yt]
 have key : ∀ (m:List UInt8) (k n:Nat),a.drop k=m->k<=a.length->k<=b.length->m.length<n->IL n (λs0=>br (S8 s0 (a.length:Int)) (λ_=>br (S8 s0 (b.length:Int)) (λ_=>R1 s0 λt=>ix a t λw=>R1 s0 λu=>ix b u λy=>br (Oa (Tc w) (Tc y)) (λ_=>some (LR.nx (SF .i64 s0 1))) λ_=>some (.dn ((0,(s0,()))))) λ_=>some (.dn ((0,(s0,()))))) λ_=>some (.dn ((0,(s0,()))))) (k:Int)=some ((0:Nat),(((k+Vh m (b.drop k):Nat):Int),())):=by
  intro m
  induction m with
  | nil =>
   intro k n f r h p;obtain ⟨n,rfl⟩ : ∃ j,n=j+1:=⟨n-1,by omega⟩
   have i:k=a.length:=by
    have:=congrArg nb f;simp at this;omega
   subst i;refine US ?_;rw [re];simp [R7,Vh]
  | cons x m s =>
   intro k n f r h p;obtain ⟨n,rfl⟩ : ∃ j,n=j+1:=⟨n-1,by omega⟩
   have o:a[k]? = some x:=by
    have:=congrArg xn f;rw [s7] at this;simpa using this
   have c:k<a.length:=(a8.1 o).1
   have l:a.drop (k+1)=m:=by
    have:=congrArg wl f;rw [rY] at this;simpa using this
   by_cases d:k<b.length
   ·have q:b[k]? = some b[k]:=by simp [d]
    rw [sk d];unfold Vh;by_cases e:x=b[k]
    ·rw [if_pos e];refine (UN (s':=((k+1:Nat):Int)) ?_).trans ?_
     ·rw [rl c,Sc,rl d,Sc,Ti,TC o,Ti,TC q,o6,VE,if_pos e,Ts (by omega)]
     ·rw [s (k+1) n l (by omega) (by omega) (by simp at p;omega),show k+1+Vh m (b.drop (k+1))=k+(Vh m (b.drop (k+1))+1) by omega]
    ·rw [if_neg e];refine US ?_;rw [rl c,Sc,rl d,Sc,Ti,TC o,Ti,TC q,o6,VE,if_neg e];simp
   ·have g:k=b.length:=by omega
    refine US ?_;rw [rl c,Sc,g,re,R7,List.drop_length];simp [Vh]
 refine UB (U0 (n:=a.length+1) (by omega) (key a 0 (a.length+1) (by simp) (by omega) (by omega) (by omega))) ?_;simp
def Zf (a b:Xb):Int:=if SV a b=true then -1 else if a=b then 0 else 1
theorem cw : ∀ (a b:Xb),(Vh a b<=a.length/\Vh a b<=b.length)/\(Vh a b=a.length->Vh a b=b.length->Zf a b=0)/\(Vh a b=a.length->Vh a b≠b.length->Zf a b = -1)/\(Vh a b≠a.length->Vh a b=b.length->Zf a b=1)/\(∀ x y,a[Vh a b]? = some x->b[Vh a b]? = some y->Zf a b=if x.toNat<y.toNat then -1 else 1)
 | [],[]=>by simp [Vh,Zf,Z0]
 | [],y::b=>by simp [Vh,Zf,cd]
 | x::a,[]=>by simp [Vh,Zf,Z0]
 | x::a,y::b=>by
  obtain ⟨⟨o,g⟩,i,j,k,l⟩:=cw a b;by_cases e:x=y
  ·subst e
   have n:Zf (x::a) (x::b)=Zf a b:=by
    unfold Zf;rw [Yc];simp
   have hc:Vh (x::a) (x::b)=Vh a b+1:=by simp [Vh]
   rw [n,hc];refine ⟨⟨by simp;omega,by simp;omega⟩,λu v=>i (by simp at u;omega) (by simp at v;omega),λu v=>j (by simp at u;omega) (by simp at v;omega),λu v=>k (by simp at u;omega) (by simp at v;omega),λp q d f=>l p q (by simpa using d) (by simpa using f)⟩
  ·have hc:Vh (x::a) (y::b)=0:=by simp [Vh,e]
   rw [hc];refine ⟨⟨by omega,by omega⟩,λu=>by simp at u,λu=>by simp at u,λ_ u=>by simp at u,λp q d f => ?_⟩;simp at d f;subst d f;unfold Zf;rw [Yc];have m : ¬ (x::a=y::b):=λh=>e (by injection h);by_cases c:x.toNat<y.toNat
   ·have:x<y:=xo.2 c;simp [this,c]
   ·have : ¬ x<y:=λh=>c (xo.1 h);simp [this,c,e]
theorem jU (a b:Xb) (p:a.length<=1000000000) (q:b.length<=1000000000):Wb (a,b)=some (Zf a b):=by
 obtain ⟨⟨o,i⟩,j,k,l,m⟩:=cw a b;unfold Wb;simp only [Tp,Yt];rw [gn a b (by omega),Sx,TK]
 have n:(if (Vh a b:Int)<(b.length:Int) then (R1 (Vh a b:Int) λc=>ix a c λe=>R1 (Vh a b:Int) λd=>ix b d λf=>br (S8 (Tc e) (Tc f)) (λ_=>some (-1:Int)) λ_=>some 1) else some 1)=(if Vh a b=a.length then (if (Vh a b:Int)<(b.length:Int) then (R1 (Vh a b:Int) λc=>ix a c λe=>R1 (Vh a b:Int) λd=>ix b d λf=>br (S8 (Tc e) (Tc f)) (λ_=>some (-1:Int)) λ_=>some 1) else some 1) else some (Zf a b)):=by
  by_cases u:Vh a b=a.length
  ·rw [if_pos u]
  ·rw [if_neg u];by_cases v:Vh a b=b.length
   ·rw [if_neg (by omega),l u v]
   ·rw [if_pos (by omega),Ti];have g:a[Vh a b]? = some (a[Vh a b]'(by omega)):=by simp
    have h:b[Vh a b]? = some (b[Vh a b]'(by omega)):=by simp
    rw [TC g,Ti,TC h,TP,m _ _ g h];unfold Tc;by_cases w:(a[Vh a b]'(by omega)).toNat<(b[Vh a b]'(by omega)).toNat
    ·rw [if_pos (by omega),if_pos w]
    ·rw [if_neg (by omega),if_neg w]
 by_cases u:Vh a b=a.length
 ·rw [if_pos (by omega),TK];by_cases v:Vh a b=b.length
  ·rw [if_pos (by omega),j u v]
  ·rw [if_neg (by omega),TK,if_pos (by omega),k u v]
 ·rw [if_neg (by omega),TK,if_neg (by omega),TP,n,if_neg u]
theorem gQ (a b:Xb):Zf a b>=0<->SV a b=false:=by
 unfold Zf;cases h:SV a b with
 | true=>simp
 | false=>simp;split<;>omega
theorem XO (l:List Tj) (D:l.length<=9223372036854775807):Ve l=some (WX l):=by
 unfold Ve WX;simp only [Tp,Tn];rw [TM];by_cases h:l.length>5000
 ·rw [if_pos (by omega),if_pos h]
 rw [if_neg (by omega),if_neg h];obtain ⟨T,o⟩ : ∃ T,T=Y6 none 0 l:=⟨_,rfl⟩;rw [<- o]
 obtain ⟨r,w,j⟩:=Wp (l:=l) (σ:=Unit) (s:=((0:Int),((0:Int),(0:Int)))) (λk _=>((0:Int),((0:Int),(k:Int)))) (λm k _=>Y6 (if k=0 then none else (l[k-1]?).map (·.1)) k m=T/\(∀ y,k≠0->l[k-1]? = some y->kE y=0)) (λ(r:Nat×((Int×(Int×Int))×Unit))=>(r.1=1/\T=(0,0))\/(r.1=0/\T=(r.2.1.2.1,r.2.1.1)))
  (f:=λs0=>br (S8 s0.2.2 (l.length:Int)) (λ_=>R1 s0.2.2 λq=>ix l q λA=>bd (V6 A) λd=>br (Oa d 0) (λ_=>br (S6 s0.2.2 0) (λ_=>R1 (SK .i64 s0.2.2 1) λt=>ix l t λB=>R1 s0.2.2 λu=>ix l u λC=>bd (Wb (B.1,C.1)) λz=>br (Rx z 0) (λ_=>some (.dn ((0,((6,(s0.2.2,s0.2.2)),()))))) λ_=>br (Ry d 0) (λ_=>some (.dn ((0,((d,(s0.2.2,s0.2.2)),()))))) λ_=>some (.nx ((s0.1,(s0.2.1,SF .i64 s0.2.2 1))))) λ_=>br (Ry d 0) (λ_=>some (.dn ((0,((d,(s0.2.2,s0.2.2)),()))))) λ_=>some (.nx ((s0.1,(s0.2.1,SF .i64 s0.2.2 1))))) λ_=>br (Ry d 0) (λ_=>some (.dn ((0,((d,(s0.2.2,s0.2.2)),()))))) λ_=>some (.nx ((s0.1,(s0.2.1,SF .i64 s0.2.2 1))))) λ_=>some (.dn ((1,(s0,())))))
  () rfl (by omega) ⟨o.symm,λ_ h=>absurd rfl h⟩ (λ_ h=>by
   refine ⟨_,by simp only;rw [re];rfl,.inl ⟨rfl,?_⟩⟩;rw [<- h.1];simp [Y6]) (λk x m _ hd g p h=>by
   simp only;obtain ⟨h,c⟩:=h;rw [rl p,Sc,Ti,TC g,Zx,Sx,TK];unfold Y6 at h
   have next:kE x=0->(T=Y6 (some x.1) (k+1) m)->Y6 (if k+1=0 then none else (l[k+1-1]?).map (·.1)) (k+1) m=T/\(∀ y,k+1≠0->l[k+1-1]? = some y->kE y=0):=λa e=>by
    rw [if_neg (by omega),Nat.add_sub_cancel,g,e];exact ⟨rfl,λy _ i=>by cases i;exact a⟩
   by_cases a:kE x=0
   ·rw [if_pos a,TM];rw [if_neg (by simp [a])] at h;by_cases b:k=0
    ·rw [if_neg (by omega),TQ,if_pos a];rw [if_pos b] at h;exact .inl ⟨(),by rw [Tv g (by omega)],next a h.symm⟩
    ·have i:l[k-1]? = some (l[k-1]'(by omega)):=by rw [co]
     rw [if_pos (by omega),show SK .i64 (k:Int) 1=((k-1:Nat):Int) by rw [Sj (by omega)];omega,Ti,TC i,Ti,TC g];rw [if_neg b,i] at h;simp only [x9] at h;rw [jU _ _ (by have:=ap (c _ b i);omega) (by have:=ap a;omega),Sx,TL];by_cases hs:SV (l[k-1]'(by omega)).1 x.1=true
     ·rw [if_neg (λe=>by rw [gQ,hs] at e;cases e),TQ,if_pos a];rw [if_pos hs] at h;exact .inl ⟨(),by rw [Tv g (by omega)],next a h.symm⟩
     ·rw [if_pos ((gQ _ _).2 (by simpa using hs))];rw [if_neg hs] at h;exact .inr ⟨_,rfl,.inr ⟨rfl,h.symm⟩⟩
   ·rw [if_neg a,TQ,if_neg a];rw [if_pos a] at h
    exact .inr ⟨_,rfl,.inr ⟨rfl,h.symm⟩⟩)
 refine UB w ?_;rw [Sy];rcases j with ⟨j,n⟩ | ⟨j,n⟩
 ·rw [if_neg (show ¬ r.1=0 by omega),n]
 ·rw [if_pos j,n]
theorem o8 (p q:UI) (d:WD p) (e:WD q):XB ([p,q],(0,1))=some (w0 p q):=by
 unfold XB w0;refine (WM 0 rfl (x:=p) rfl).trans ((WM 1 rfl (x:=q) rfl).trans ?_);rw [beq_eq,U9,VE,UT,TV];by_cases a:p.2=q.2
 ·rw [if_neg (show ¬ ¬ p.2=q.2 by simp [a]),if_neg (show ¬ p.2≠q.2 by simp [a])];by_cases b:p.2=true
  ·rw [if_pos b,d b,e (a ▸ b)];rfl
  ·rw [if_neg b,UT,WB];by_cases c:p.1=q.1
   ·rw [if_pos c,if_neg (by simp [c])];rfl
   ·rw [if_neg c,if_pos c]
 ·rw [if_pos a,if_pos a]
theorem aR (p q:UI) (n:Nat) (k:Int) (h:2<=k) (a:k<=100):NE UD (n+1) ([p,q],k)=some (k-2,0):=by
 show UD (NE UD n) ([p,q],k)=_;unfold UD;show br (Rx k 2) (λ_=>some (SK .i64 k 2,0)) _=_;rw [TL,if_pos h,Sj (by omega)]
theorem bB (p q:UI) (a:WD p) (b:WD q):W9 ([p,q],1)=some (if w0 p q=true then (0,1) else (1,0)):=by
 show UD (NE UD 99) ([p,q],1)=_;unfold UD;show br (Rx (1:Int) 2) (λ_=>some (SK .i64 (1:Int) 2,0)) (λ_=>bd (NE UD (98+1) ([p,q],2)) λc=>bd (NE UD (98+1) ([p,q],3)) _)=_;rw [TL,if_neg (by omega),aR p q 98 2 (by omega) (by omega),Sx,aR p q 98 3 (by omega) (by omega),Sx];show bd (XB ([p,q],(0,1))) _=_;rw [o8 p q a b,Sx,TV];cases h:w0 p q<;>rfl
theorem oz (p q:UI) (a:WD p) (c:WD q):Xq [p,q]=some (Tt p q):=by
 unfold Xq;refine Eq.trans (b:=bd (loop _ (1,([p,q],([0,0],0)))) _) rfl ?_;refine UB (x:=(0,((2,([p,q],([0,if w0 p q=true then 1 else 0],0))),()))) (U0 (n:=2) (by omega) ((UN (s':=(2,([p,q],([0,if w0 p q=true then 1 else 0],0)))) ?_).trans (US rfl))) ?_
 ·show bd (W9 ([p,q],1)) _=_;rw [bB p q a c,Sx];refine (ZE 1 rfl (x:=(0:Int)) rfl).trans ?_;cases h:w0 p q<;>rfl
 ·rw [bB p q a c,Sx];unfold Tt;cases h:w0 p q<;>rfl
theorem iH {l:List UI} (h : ∀ k∈l,WD k) (b:l≠[]) (e:l.length<=32):XV l=some 0:=by
 unfold XV;simp only [Tp,Tn];rw [TK,TM,if_neg (by have:=ed.2 b;omega),if_neg (by omega)]
 rw [Un (l:=l) (σ:=Unit) (s:=((0:Int),(0:Int))) (λk _=>((k:Int),(0:Int))) (λ_ _ _=>True) (λ_ _ _=>(1,(((l.length:Int),0),()))) () rfl (by omega) trivial (λd _=>by
  simp only;rw [re];rfl) (λk x m d _ a c _=>⟨(),by
   simp only;rw [rl c,Sc,Ti,TC a,TV,Tv a (by omega)];by_cases hd:x.2=true
   ·rw [if_pos hd,Ti,TC a,UT,WB,if_pos (h x (bo a) hd)]
   ·rw [if_neg hd],trivial,rfl⟩),Sx]
 rfl
theorem gm (p q:UI) (a:WD p) (b:WD q):Wc [p,q]=some (Tt p q,0):=by
 unfold Wc;rw [iH (by simp [a,b]) (by simp) (by simp),Sx,TQ,if_pos rfl,oz p q a b,Sx]
end
section
open Go Sv
theorem Xa:Uz=Uj:=rfl
theorem bC:Xp=Tz:=rfl
theorem eZ (l m:List UI) (i:l.length<=9223372036854775806) (j:l.length=m.length) : ∃ r,loop (λs1=>br (S8 s1.1 (l.length:Int)) (λ_=>R1 s1.1 λn=>ix l n λf=>R1 s1.1 λo=>ix m o λg=>br (Hg (Nm (seq f.1 g.1) (Nm (Sv.beq f.2 g.2) true))) (λ_=>some (LR.dn ((0:Nat),((s1.1,false),())))) λ_=>some (.nx (SF .i64 s1.1 1,s1.2))) λ_=>some (.dn ((1,(s1,()))))) ((0:Int),false)=some r/\((l=m/\r.1=1)\/(l≠m/\r.1=0/\r.2.1.2=false)):=by
 refine YW l m j i (λk x y a d => ?_) (by simp only;rw [re];rfl);have c:=(a8.1 a).1
 have b : ∀ {β:Type} (u v:Unit->Option β),br (Hg (Nm (seq x.1 y.1) (Nm (Sv.beq x.2 y.2) true))) u v=if x=y then v () else u ():=by
  intro β u v;rw [Zm,Zi,beq_eq,Yd,U9,VE];by_cases e:x=y
  ·subst e;simp
  ·rw [if_pos (λh=>e (tk h.1 h.2)),if_neg e]
 constructor
 ·intro e;simp only;rw [rl c,Sc,Ti,TC a,Ti,TC d,b,if_pos e,Ts (by omega)]
 ·intro e;simp only;rw [rl c,Sc,Ti,TC a,Ti,TC d,b,if_neg e]
theorem bE (s t:Vw) (g:s.1.length<=1000) (h:s.2.1.length<=1000):W8 (s,t)=some (decide (s=t)):=by
 obtain ⟨b,d,k⟩:=s;obtain ⟨c,f,l⟩:=t;simp only at g h;unfold W8;simp only [Tp,Tn];rw [TQ];by_cases e1:(b.length:Int)=(c.length:Int);rotate_left
 ·rw [if_neg e1];have : ¬ b=c:=λe=>e1 (by rw [e]);simp [this]
 rw [if_pos e1,TQ];by_cases e2:k=l;rotate_left
 ·rw [if_neg e2];simp [e2]
 rw [if_pos e2,bC,ZK _ _ (by omega),Sx,U9,VE];by_cases e3:d=f;rotate_left
 ·rw [if_pos e3];simp [e3]
 rw [if_neg (show ¬ ¬ d=f by simp [e3])];obtain ⟨r,i,a⟩:=eZ b c (by omega) (by omega);refine UB i ?_;rw [Sy];rcases a with ⟨e,a⟩ | ⟨e,a,j⟩
 ·rw [if_neg (show ¬ r.1=0 by omega)];simp [e,e2,e3]
 ·rw [if_pos a,j];simp [e]
theorem dW (s t:VY) (u:s.1.length<=1000) (g : ∀ l∈s.1,l.length<=1000000) (w:s.2.1.length<=1000) (h:s.2.2.1.length<=1000) (i:s.2.2.2.1.length<=1000):Xs (s,t)=some (decide (s=t)):=by
 obtain ⟨a,n,o⟩:=s;obtain ⟨d,p,q⟩:=t;simp only at u g w h i;unfold Xs;simp only [Tp,Tn];rw [TQ];by_cases e1:(a.length:Int)=(d.length:Int);rotate_left
 ·rw [if_neg e1];have : ¬ a=d:=λe=>e1 (by rw [e]);simp [this]
 rw [if_pos e1,bC,ZK _ _ (by omega),Sx,U9,VE];by_cases e2:n=p;rotate_left
 ·rw [if_pos e2];simp [e2]
 rw [if_neg (show ¬ ¬ n=p by simp [e2]),bE _ _ h i,Sx,U9,VE];by_cases e3:o=q;rotate_left
 ·rw [if_pos e3];simp [e3]
 rw [if_neg (show ¬ ¬ o=q by simp [e3])]
 obtain ⟨r,C,c⟩:=YW a d (by omega) (by omega) (f:=λs2=>br (S8 s2.1 (a.length:Int)) (λ_=>R1 s2.1 λA=>ix a A λF=>R1 s2.1 λB=>ix d B λG=>bd (Uz (F,G)) λE=>br (Hg E) (λ_=>some (.dn ((0,((s2.1,false),()))))) λ_=>some (.nx (SF .i64 s2.1 1,s2.2))) λ_=>some (.dn ((1,(s2,()))))) (λk x y b m=>by
   have j:=(a8.1 b).1;have z:=g x (bo b);constructor
   ·intro e;simp only;rw [rl j,Sc,Ti,TC b,Ti,TC m,Xa,Wz _ _ (by omega),Sx,U9,VE,if_neg (by simp [e]),Ts (by omega)]
   ·intro e;simp only
    rw [rl j,Sc,Ti,TC b,Ti,TC m,Xa,Wz _ _ (by omega),Sx,U9,VE,if_pos e]) (by simp only;rw [re];rfl)
 refine UB C ?_;rw [Sy];rcases c with ⟨e,c⟩ | ⟨e,c,D⟩
 ·rw [if_neg (show ¬ r.1=0 by omega)];simp [e,e2,e3]
 ·rw [if_pos c,D];simp [e]
theorem bD (x y:Xj) (a:x.1.1.length<=1000) (b : ∀ l∈x.1.1,l.length<=1000000) (c:x.1.2.1.length<=1000) (d:x.1.2.2.1.length<=1000) (e:x.1.2.2.2.1.length<=1000) (f:x.2.2.1.length<=1000000):UZ (x,y)=some (decide (x=y)):=by
 obtain ⟨i,⟨xs,k,h⟩,g,j⟩:=x;obtain ⟨n,⟨q,r,m⟩,p,o⟩:=y;simp only at a b c d e f;unfold UZ;simp only [dW _ _ a b c d e,Xa,Wz _ _ (show g.length<=9223372036854775806 by omega),Sx,VE,Vt,Zi,beq_eq,Zm,Yd]
 repeat' split
 all_goals simp_all
section
variable {a b:List Tj} (va:VL a) (vb:VL b)
include va vb
theorem Zg:V9 [a,b]=some (0,0):=by
 have c:=va.len;have d:=vb.len;unfold V9;refine Eq.trans (b:=bd (loop _ (0,(0,0))) _) rfl ?_;refine UB (x:=(1,((0,(0,2)),()))) (U8 (s1:=(0,(0,1))) (s2:=(0,(0,2))) ?_ ?_ rfl) rfl
 ·refine (aT 0 rfl rfl (x:=a) rfl).trans ?_;rw [XO _ (by omega),Y7 va,Sx];rfl
 ·refine (aT 1 rfl rfl (x:=b) rfl).trans ?_;rw [XO _ (by omega),Y7 vb,Sx];rfl
theorem Yp {i j:Nat} (hi:i<=a.length) (g:j<=b.length):V8 ([a,b],[(i:Int),(j:Int)])=some (if i=a.length/\j=b.length then -1 else if X2 a b i j=true then 0 else 1):=by
 have k:=va.len;have l:=vb.len;unfold V8;simp only [Tp,Tn];refine UB (x:=(0,((if i=a.length/\j=b.length then -1 else if X2 a b i j=true then 0 else 1,2),()))) (U8 (s1:=(if i=a.length then -1 else 0,1)) (s2:=(if i=a.length/\j=b.length then -1 else if X2 a b i j=true then 0 else 1,2)) ?_ ?_ rfl) rfl
 ·refine (aT 0 rfl rfl (x:=(i:Int)) rfl).trans ((WM 0 rfl (x:=a) rfl).trans ?_);rw [TP];by_cases h:i=a.length
  ·rw [if_neg (by omega),if_pos h];rfl
  ·rw [if_pos (by omega),if_neg h];rfl
 ·refine (aT 1 rfl rfl (x:=(j:Int)) rfl).trans ((WM 1 rfl (x:=b) rfl).trans ?_);rw [TP];by_cases h:j=b.length
  ·rw [if_neg (by omega)];by_cases c:i=a.length
   ·rw [if_pos c,if_pos ⟨c,h⟩];rfl
   ·rw [if_neg c,if_neg (λe=>c e.1)];have d:a[i]? = some (a[i]'(by omega)):=by simp
    rw [gK d (a9 (by omega))];rfl
  ·have f:b[j]? = some (b[j]'(by omega)):=by simp
   rw [if_pos (by omega),TP,if_neg (λe:i=a.length/\j=b.length=>h e.2)];by_cases c:i=a.length
   ·rw [if_pos c,if_pos (by omega),gL (a9 (by omega)) f];rfl
   ·rw [if_neg c,if_neg (by omega)];have d:a[i]? = some (a[i]'(by omega)):=by simp
    refine (WM 1 rfl (x:=b) rfl).trans ((WM 1 rfl (x:=(j:Int)) rfl).trans ((WM j rfl f).trans ((WM 0 rfl (x:=a) rfl).trans ((WM 0 rfl (x:=(i:Int)) rfl).trans ((WM i rfl d).trans ?_)))));rw [Wy,am d f];cases hs:SV (b[j]'(by omega)).1 (a[i]'(by omega)).1<;>rfl
theorem Yq {i j:Nat} (hi:i<=a.length) (e:j<=b.length):Vk ([a,b],[(i:Int),(j:Int)])=some (Zk a b i j):=by
 have f:=va.len;have g:=vb.len;unfold Vk;simp only [Tp,Tn];rw [UP (show [a,b].length<=1048576 from (show 2<=1048576 by omega)),UP (show [(i:Int),(j:Int)].length<=1048576 from (show 2<=1048576 by omega))];refine UB (x:=(0,((2,[kx a i,kx b j]),()))) (U8 (s1:=(1,[kx a i])) (s2:=(2,[kx a i,kx b j])) ?_ ?_ rfl) ?_
 ·refine (aT 0 rfl rfl (x:=(i:Int)) rfl).trans ((WM 0 rfl (x:=a) rfl).trans ?_);rw [Vt,U9,VE];by_cases h:i=a.length
  ·have c:((i:Int)=(a.length:Int)):=by omega
   rw [if_neg (show ¬ ¬ ((i:Int)=(a.length:Int)) by simp [c]),Zs (a9 (by omega))];simp only [c,decide_true];rfl
  ·have d:a[i]? = some (a[i]'(by omega)):=by simp
   have c : ¬ ((i:Int)=(a.length:Int)):=by omega
   rw [if_pos c];refine (WM 0 rfl (x:=a) rfl).trans ((WM 0 rfl (x:=(i:Int)) rfl).trans ((WM i rfl d).trans ?_));rw [XI d];simp only [c,decide_false];rfl
 ·refine (aT 1 rfl rfl (x:=(j:Int)) rfl).trans ((WM 1 rfl (x:=b) rfl).trans ?_);rw [Vt,U9,VE];by_cases h:j=b.length
  ·have c:((j:Int)=(b.length:Int)):=by omega
   rw [if_neg (show ¬ ¬ ((j:Int)=(b.length:Int)) by simp [c]),Zs (l:=b) (i:=j) (a9 (by omega))];simp only [c,decide_true];rfl
  ·have d:b[j]? = some (b[j]'(by omega)):=by simp
   have c : ¬ ((j:Int)=(b.length:Int)):=by omega
   rw [if_pos c];refine (WM 1 rfl (x:=b) rfl).trans ((WM 1 rfl (x:=(j:Int)) rfl).trans ((WM j rfl d).trans ?_));rw [XI (l:=b) (i:=j) d];simp only [c,decide_false];rfl
 ·show bd (Wc [kx a i,kx b j]) _=_;rw [gm _ _ (Uc _ _) (Uc _ _)];rfl
theorem gV {i:Nat} {l:List Tj} (h:i≠0) (hi:i<=l.length) : ∃ x,l[i-1]? = some x:=⟨l[i-1]'(by omega),by simp⟩
theorem aI {i j:Nat} (I:Inv a b i j):V7 (Zk a b i j)=some (0,0):=by
 have s:=va.len;have t:=vb.len;have hi:=I.ia;have k:=I.jb;unfold V7;rw [show (Zk a b i j).1=[a,b] from rfl,Zg va vb,Sx,TQ,if_pos rfl];rw [show (Zk a b i j).2.1=[(i:Int),(j:Int)] from rfl,TQ,if_pos (show Ki (AS [(i:Int),(j:Int)])=Ki (AS [a,b]) from rfl)];refine UB (x:=(1,((0,(0,2)),()))) (U8 (s1:=(0,(0,1))) (s2:=(0,(0,2))) ?_ ?_ rfl) ?_
 ·refine (aT 0 rfl rfl (x:=(i:Int)) rfl).trans ?_;rw [TP,if_neg (by omega)];refine (WM 0 rfl (x:=(i:Int)) rfl).trans ((WM 0 rfl (x:=a) rfl).trans ?_);rw [TM,if_neg (by simp only [Tp,Tn];omega)];rfl
 ·refine (aT 1 rfl rfl (x:=(j:Int)) rfl).trans ?_;rw [TP,if_neg (by omega)];refine (WM 1 rfl (x:=(j:Int)) rfl).trans ((WM 1 rfl (x:=b) rfl).trans ?_);rw [TM,if_neg (by simp only [Tp,Tn];omega)];rfl
 rw [show neq ((1:Nat),(((0:Int),((0:Int),(2:Int))),())).1 0=false from rfl,R7,Yq va vb hi k,Sx,bE (Zk a b i j).2.2 (Zk a b i j).2.2 (show 2<=1000 by omega) (show 2<=1000 by omega),Sx,U9,VE,if_neg (show ¬ ¬ (Zk a b i j).2.2=(Zk a b i j).2.2 by simp),Yp va vb hi k,Sx];by_cases hd:i=a.length/\j=b.length
 ·rw [if_pos hd];refine UB (x:=(1,((0,(0,0)),()))) (U0 (n:=1) (by omega) (US ?_)) rfl;rfl
 rw [if_neg hd];cases g:X2 a b i j with
 | true =>
  rw [if_pos rfl]
  have p:i<a.length:=by
   refine ns λh' => ?_;have o:j<b.length:=by omega
   rw [gL (a9 h') (show b[j]? = some (b[j]'o) by simp)] at g;cases g
  have e:a[i]? = some (a[i]'p):=by simp
  refine UB (x:=(1,((0,(0,2)),()))) (U8 (s1:=(0,(0,1))) (s2:=(0,(0,2))) ?_ ?_ rfl) rfl
  ·show br (S8 (0:Int) 2) _ _=_;rw [TP,if_pos (by omega),TL,if_pos (by omega)];refine (WM 0 rfl (x:=(i:Int)) rfl).trans ?_;rw [TK];by_cases f:i=0
   ·rw [if_pos (by omega)];rfl
   ·rw [if_neg (by omega)];obtain ⟨y,d⟩:=gV va vb (l:=a) f hi;refine (WM 0 rfl (x:=a) rfl).trans ((WM 0 rfl (x:=(i:Int)) rfl).trans ?_);rw [show SK .i64 (i:Int) 1=((i-1:Nat):Int) by rw [Sj (by omega)];omega,Ti,TC d];refine (WM 0 rfl (x:=a) rfl).trans ((WM 0 rfl (x:=(i:Int)) rfl).trans ((WM i rfl e).trans ?_));have c:=va.lt d (show a[i-1+1]? = some _ by rw [show i-1+1=i by omega];exact e);rw [Wy,if_neg (by rw [VD c];simp),WB,if_neg (ZI c)];rfl
  ·show br (S8 (1:Int) 2) _ _=_;rw [TP,if_pos (by omega),TL,if_pos (by omega)];refine (WM 1 rfl (x:=(j:Int)) rfl).trans ?_;rw [TK];by_cases f:j=0
   ·rw [if_pos (by omega)];rfl
   ·rw [if_neg (by omega)];obtain ⟨y,d⟩:=gV va vb (l:=b) f k;refine (WM 1 rfl (x:=b) rfl).trans ((WM 1 rfl (x:=(j:Int)) rfl).trans ?_);rw [show SK .i64 (j:Int) 1=((j-1:Nat):Int) by rw [Sj (by omega)];omega,Ti,TC d];refine (WM 0 rfl (x:=a) rfl).trans ((WM 0 rfl (x:=(i:Int)) rfl).trans ((WM i rfl e).trans ?_));have c:=I.pb (j-1) (by omega) y _ d e;rw [Wy,if_neg (by rw [VD c];simp),WB,if_neg (ZI c)];rfl
 | false =>
  rw [if_neg (by simp)]
  have h:j<b.length:=by
   refine ns λh' => ?_;have m:i<a.length:=by omega
   rw [gK (show a[i]? = some (a[i]'m) by simp) (a9 h')] at g;cases g
  have e:b[j]? = some (b[j]'h):=by simp
  refine UB (x:=(1,((0,(0,2)),()))) (U8 (s1:=(0,(0,1))) (s2:=(0,(0,2))) ?_ ?_ rfl) rfl
  ·show br (S8 (0:Int) 2) _ _=_;rw [TP,if_pos (by omega),TL,if_pos (by omega)];refine (WM 0 rfl (x:=(i:Int)) rfl).trans ?_;rw [TK];by_cases f:i=0
   ·rw [if_pos (by omega)];rfl
   ·rw [if_neg (by omega)];obtain ⟨y,d⟩:=gV va vb (l:=a) f hi;refine (WM 0 rfl (x:=a) rfl).trans ((WM 0 rfl (x:=(i:Int)) rfl).trans ?_);rw [show SK .i64 (i:Int) 1=((i-1:Nat):Int) by rw [Sj (by omega)];omega,Ti,TC d];refine (WM 1 rfl (x:=b) rfl).trans ((WM 1 rfl (x:=(j:Int)) rfl).trans ((WM j rfl e).trans ?_));have q:=I.pa (i-1) (by omega) y _ d e;rw [Wy,if_neg (by rw [q];simp),WB];by_cases r:y.1=(b[j]'h).1
    ·rw [if_pos r];rfl
    ·rw [if_neg r];rfl
  ·show br (S8 (1:Int) 2) _ _=_;rw [TP,if_pos (by omega),TL,if_pos (by omega)];refine (WM 1 rfl (x:=(j:Int)) rfl).trans ?_;rw [TK];by_cases f:j=0
   ·rw [if_pos (by omega)];rfl
   ·rw [if_neg (by omega)];obtain ⟨y,d⟩:=gV va vb (l:=b) f k;refine (WM 1 rfl (x:=b) rfl).trans ((WM 1 rfl (x:=(j:Int)) rfl).trans ?_);rw [show SK .i64 (j:Int) 1=((j-1:Nat):Int) by rw [Sj (by omega)];omega,Ti,TC d];refine (WM 1 rfl (x:=b) rfl).trans ((WM 1 rfl (x:=(j:Int)) rfl).trans ((WM j rfl e).trans ?_));have c:=vb.lt d (show b[j-1+1]? = some _ by rw [show j-1+1=j by omega];exact e);rw [Wy,if_neg (by rw [VD c];simp),WB,if_neg (ZI c)];rfl
end
end
section
open Go Sv
section
variable {a b:List Tj} (va:VL a) (vb:VL b)
include va vb
theorem kA {n:Nat} {x:Tj} (h:n<a.length+b.length) (d:aQ a b n=some x):WP (ZW a b n)=some (x,((bJ a b n:Int),(ZW a b (n+1),0))):=by
 obtain ⟨i,hs⟩:=WN va vb (n:=n) (by omega);obtain ⟨j,k⟩:=WN va vb (n:=n+1) (by omega);have l:=va.len;have m:=vb.len;have e:=i.ia;have f:=i.jb;unfold WP;rw [show ZW a b n=Zk a b (pos a b n).1 (pos a b n).2 from rfl,aI va vb i,Sx,TQ,if_pos rfl,show (Zk a b (pos a b n).1 (pos a b n).2).1=[a,b] from rfl,show (Zk a b (pos a b n).1 (pos a b n).2).2.1=[((pos a b n).1:Int),((pos a b n).2:Int)] from rfl,Yp va vb e f,Sx,if_neg (λhh:(pos a b n).1=a.length/\(pos a b n).2=b.length=>by omega)];unfold aQ at d;have c:pos a b (n+1)=if X2 a b (pos a b n).1 (pos a b n).2=true then ((pos a b n).1+1,(pos a b n).2) else ((pos a b n).1,(pos a b n).2+1):=rfl
 unfold ZW bJ;cases g:X2 a b (pos a b n).1 (pos a b n).2 with
 | true =>
  rw [g,if_pos rfl] at c;rw [g,if_pos rfl] at d;have hi:=(a8.1 d).1;rw [if_pos rfl,TP,if_neg (by omega),UP (show AS [((pos a b n).1:Int),((pos a b n).2:Int)]<=1048576 from (show 2<=1048576 by omega))];refine (ZE 0 rfl (x:=((pos a b n).1:Int)) rfl).trans ((ZE 0 rfl (x:=((pos a b n).1:Int)) rfl).trans ((WM 0 rfl (x:=a) rfl).trans ((WM 0 rfl (x:=((pos a b n).1:Int)) rfl).trans ((WM _ rfl d).trans ?_))));rw [Ts (by omega),show lset [((pos a b n).1:Int),((pos a b n).2:Int)] 0 (((pos a b n).1+1:Nat):Int)=[(((pos a b n).1+1:Nat):Int),((pos a b n).2:Int)] from rfl,Yq va vb (by omega) f,Sx,c];rfl
 | false =>
  rw [g,if_neg (by simp)] at c;rw [g,if_neg (by simp)] at d;have hi:=(a8.1 d).1;rw [if_neg (by simp),TP,if_neg (by omega),UP (show AS [((pos a b n).1:Int),((pos a b n).2:Int)]<=1048576 from (show 2<=1048576 by omega))];refine (ZE 1 rfl (x:=((pos a b n).2:Int)) rfl).trans ((ZE 1 rfl (x:=((pos a b n).2:Int)) rfl).trans ((WM 1 rfl (x:=b) rfl).trans ((WM 1 rfl (x:=((pos a b n).2:Int)) rfl).trans ((WM _ rfl d).trans ?_))));rw [Ts (by omega),show lset [((pos a b n).1:Int),((pos a b n).2:Int)] 1 (((pos a b n).2+1:Nat):Int)=[((pos a b n).1:Int),(((pos a b n).2+1:Nat):Int)] from rfl,Yq va vb e (by omega),Sx,c];rfl
theorem j9 {n:Nat} (h:n<=a.length+b.length):Xr (ZW a b n)=some (((a.length+b.length-n:Nat):Int),0):=by
 obtain ⟨c,hs⟩:=WN va vb (n:=n) h;have f:=va.len;have g:=vb.len;have d:=c.ia;have e:=c.jb;unfold Xr;rw [show ZW a b n=Zk a b (pos a b n).1 (pos a b n).2 from rfl,aI va vb c,Sx,TQ,if_pos rfl];refine UB (x:=(0,((2,((a.length+b.length-n:Nat):Int)),()))) (U8 (s1:=(1,(a.length:Int)-((pos a b n).1:Int))) (s2:=(2,((a.length+b.length-n:Nat):Int))) ?_ ?_ rfl) rfl
 ·refine (aT 0 rfl rfl (x:=a) rfl).trans ((WM 0 rfl (x:=((pos a b n).1:Int)) rfl).trans ?_);simp only [Tp,Tn];rw [show SF .i64 (0:Int) (a.length:Int)=(a.length:Int) by rw [Sh (by omega),tw],Sj (by omega)];rfl
 ·refine (aT 1 rfl rfl (x:=b) rfl).trans ((WM 1 rfl (x:=((pos a b n).2:Int)) rfl).trans ?_);simp only [Tp,Tn];show some (LR.nx ((2:Int),SK .i64 (SF .i64 ((a.length:Int)-((pos a b n).1:Int)) (b.length:Int)) ((pos a b n).2:Int)))=_;rw [Sh (by omega),Sj (by omega),show (a.length:Int)-((pos a b n).1:Int)+(b.length:Int)-((pos a b n).2:Int)=((a.length+b.length-n:Nat):Int) by omega]
theorem gS:Wu [a,b]=some (UC a b (a.length+b.length),(X3 a b (a.length+b.length),0)):=by
 have l:=va.len;have m:=vb.len;unfold Wu;rw [Zg va vb,Sx,TQ,if_pos rfl];refine Eq.trans (b:=bd (loop _ ([],([],([],(0,([],[0,0])))))) _) rfl ?_
 refine UB (x:=(0,((X3 a b (a.length+b.length),(UC a b (a.length+b.length),0)),())))
  (YX (λk=>([],(UC a b k,([],(0,(X3 a b k,[((pos a b k).1:Int),((pos a b k).2:Int)])))))) 0 (a.length+b.length) rfl (by omega) (by omega) (λk _ j => ?_) ?_) rfl
 ·obtain ⟨x,c,_⟩:=Vu va vb (n:=k) j;obtain ⟨d,hs⟩:=WN va vb (n:=k) (by omega);have e:(UC a b k).length=k:=VC va vb (by omega);have f:=aB a b k;simp only;rw [Yp va vb d.ia d.jb,Sx,if_neg (λhh:(pos a b k).1=a.length/\(pos a b k).2=b.length=>by omega)];rw [Wq va vb c];unfold aQ at c;rw [show X3 a b (k+1)=X3 a b k++[(bJ a b k:Int)] from rfl];unfold bJ;rw [show pos a b (k+1)=if X2 a b (pos a b k).1 (pos a b k).2=true then ((pos a b k).1+1,(pos a b k).2) else ((pos a b k).1,(pos a b k).2+1) from rfl]
  have h : ∀ {β:Type} (y:Tj) (q:Unit->Option β),gd (CF (BF (AS (UC a b k)) (AS [y])) 1048576) q=q ():=λy q=>UP (by simp only [BF,AS,e,ci,cP];omega) q;have i : ∀ {β:Type} (y:Int) (q:Unit->Option β),gd (CF (BF (AS (X3 a b k)) (AS [y])) 1048576) q=q ():=λy q=>UP (by simp only [BF,AS,f,ci,cP];omega) q;cases g:X2 a b (pos a b k).1 (pos a b k).2 with
  | true =>
   rw [g,if_pos rfl] at c;have hi:=(a8.1 c).1;simp only [if_true];rw [TP,if_neg (by omega)];refine (WM 0 rfl (x:=a) rfl).trans ((ZE 0 rfl (x:=((pos a b k).1:Int)) rfl).trans ((WM _ rfl c).trans ?_));rw [h,i];refine (ZE 0 rfl (x:=((pos a b k).1:Int)) rfl).trans ((ZE 0 rfl (x:=((pos a b k).1:Int)) rfl).trans ?_);rw [Ts (by omega)];rfl
  | false =>
   rw [g,if_neg (by simp)] at c;have hi:=(a8.1 c).1;simp only [li,if_false];rw [TP,if_neg (by omega)];refine (WM 1 rfl (x:=b) rfl).trans ((ZE 1 rfl (x:=((pos a b k).2:Int)) rfl).trans ((WM _ rfl c).trans ?_));rw [h,i];refine (ZE 1 rfl (x:=((pos a b k).2:Int)) rfl).trans ((ZE 1 rfl (x:=((pos a b k).2:Int)) rfl).trans ?_);rw [Ts (by omega)];rfl
 ·obtain ⟨d,hs⟩:=WN va vb (n:=a.length+b.length) (dc _);simp only;rw [Yp va vb d.ia d.jb,Sx,if_pos (show (pos a b (a.length+b.length)).1=a.length/\(pos a b (a.length+b.length)).2=b.length by have:=d.ia;have:=d.jb;omega),TP,if_pos (by omega)]
end
theorem de {s:Ul} (b:s.2.1.length<=32) (a:s.1=false->s.2.1=[]):XW s=some 0:=by
 unfold XW;rw [TM,if_neg (by simp only [Tp,Yt];omega),UT,TV];cases h:s.1 with
 | true=>rfl
 | false=>rw [if_neg (by simp),UT,WB,if_pos (a h)]
theorem eh {s:Ul} {x:Tj} (e:s.2.1.length<=32) (f:s.1=false->s.2.1=[]) (g:kE x=0) (a:s.1=true->SV x.1 s.2.1=false):Xt (s,x)=some (keep s x,((true,(x.1,s.2.2)),0)):=by
 unfold Xt keep;rw [de e f,Sx,TK,if_pos rfl,Zx,g,Sx,TK,if_pos rfl];obtain ⟨s1,s2,c⟩:=s;obtain ⟨h,i,d,j⟩:=x;simp only at a ⊢;cases s1 with
 | true =>
  have:=a rfl;simp only [Sc,Wy,this,li,if_false,TQ,if_true,UT,WB];by_cases b:h=s2
  ·simp [b,R7]
  ·simp only [b,if_false,decide_false];cases c<;>cases d<;>rfl
 | false =>
  simp only [R7,TQ,if_true,UT];cases c<;>cases d<;>rfl
theorem eW {l:List Tj} {b:Bool} (t:l.length<=20000) (r:Z3 (false,([],b)) l):XC (l,b)=some (WF (false,([],b)) l,(0,0)):=by
 unfold XC Vl;simp only [Tp,Tn];rw [TM,if_neg (by omega),Sx]
 rw [Un (l:=l) (σ:=Ul×List Tj) (s:=(0,(0,([],([],(0,(false,([],b)))))))) (λk a=>((0:Int),((k:Int),(([]:List Tj),(a.2,((0:Int),a.1))))))
  (λm k a=>Z3 a.1 m/\a.1.2.1.length<=32/\(a.1.1=false->a.1.2.1=[])/\a.2.length<=k/\k+m.length=l.length)
  (λm k a=>(1,((0,((l.length:Int),([],(a.2++WF a.1 m,(0,U2 a.1 m))))),()))) ((false,([],b)),[]) rfl (by omega) ⟨r,by simp,λ_=>rfl,by simp,by simp⟩ ?_ ?_,Sx]
 ·simp;rfl
 ·intro a _;simp only;rw [re,R7];simp [U2,WF]
 ·rintro k x m ⟨s,out⟩ u d p ⟨⟨c,e,f⟩,g,i,j,n⟩;simp only at c e f g i j ⊢;refine ⟨((true,(x.1,s.2.2)),out++if keep s x=true then [x] else []),?_,⟨f,ap c,(λh=>by cases h),?_,by simp at n;omega⟩,?_⟩
  ·rw [rl p,Sc,Ti,TC d,eh g i c e,Sx,TQ,if_pos rfl,TV,Ti,TC d];have o : ∀ {β:Type} (k:Unit->Option β),gd (CF (BF out.length [x].length) 1048576) k=k ():=λk=>gJ j (by simp at n;omega) x k;rw [o,Tv d (show l.length<=9223372036854775807 by omega)];cases q:keep s x<;>simp [Il]
  ·split<;>simp<;>omega
  ·simp only [U2,WF,eb]
section
variable {a b:List Tj} (va:VL a) (vb:VL b)
include va vb
theorem bV (c:Bool) {n:Nat} (h:n<=a.length+b.length):Vr (UC a b n,c)=some (WF (s0 c) (UC a b n),U2 (s0 c) (UC a b n)):=by
 have f:=va.len;have g:=vb.len;have d:(UC a b n).length=n:=VC va vb h;unfold Vr;simp only [Tp,Tn];rw [eW (by omega) (XP va vb c h),Sx];unfold Vl;rw [Sx,TM,d];cases n with
 | zero=>rw [if_neg (by omega)];rfl
 | succ m =>
  obtain ⟨x,e,_⟩:=Vu va vb (n:=m) (by omega);rw [if_pos (by omega),show SK .i64 ((m+1:Nat):Int) 1=(m:Int) by rw [Sj (by omega)];omega,Ti,TC (x:=x) (by rw [YZ va vb h (by omega)];exact e),ZD va vb c e]
theorem db (c:Bool) {n:Nat} (h:n<=a.length+b.length):WQ (Va a b c n)=some (n:Int):=by
 obtain ⟨d,hs⟩:=WN va vb (n:=n) h;have e:=va.len;have f:=vb.len;unfold WQ;refine UB (x:=(0,(((n:Int),2),()))) (U8 (s1:=(((pos a b n).1:Int),1)) (s2:=((n:Int),2)) ?_ ?_ rfl) rfl
 ·refine (aT 0 rfl rfl (x:=((pos a b n).1:Int)) rfl).trans ?_;show some (LR.nx (SF .i64 0 ((pos a b n).1:Int),(1:Int)))=_;rw [Sh (by omega),tw]
 ·refine (aT 1 rfl rfl (x:=((pos a b n).2:Int)) rfl).trans ?_;show some (LR.nx (SF .i64 ((pos a b n).1:Int) ((pos a b n).2:Int),(2:Int)))=_;rw [Sh (by omega),show ((pos a b n).1:Int)+((pos a b n).2:Int)=(n:Int) by omega]
theorem dh (c:Bool) {n:Nat} (h:n<=a.length+b.length):XY (Va a b c n)=some 0:=by
 obtain ⟨d,hs⟩:=WN va vb (n:=n) h;have g:=va.len;have i:=vb.len;have e:=YQ (s0 c) (UC a b n);have f:(UC a b n).length=n:=VC va vb h;unfold XY;rw [show (Va a b c n).1=Zk a b (pos a b n).1 (pos a b n).2 from rfl,aI va vb d,Sx,TQ,if_pos rfl,db va vb c h,Sx];simp only [Tp,Tn];rw [show (Va a b c n).2.2.1=WF (s0 c) (UC a b n) from rfl,show (Va a b c n).2.2.2=(n:Int) from rfl,show (Va a b c n).2.1=U2 (s0 c) (UC a b n) from rfl,TM,if_neg (by omega),TM,if_neg (by omega),TQ,if_pos rfl];rw [show (Zk a b (pos a b n).1 (pos a b n).2).1=[a,b] from rfl,gS va vb,Sx,Ti];rw [UP (by rw [VC va vb (dc _)];exact h),UP (lc _)];rw [show D0 (UC a b (a.length+b.length)) 0 n=UC a b n from by unfold D0;rw [xb,l4];exact Xh va vb h,XJ];rw [show (s0 c).2.2=c from rfl,bV va vb c h,Sx,Xa,Wz _ _ (by omega),Sx,U9,VE,if_neg (by simp),XJ,YE,YE,Yr];rfl
theorem Zh (c:Bool) {n:Nat} (h:n<=a.length+b.length):UR (Va a b c n)=some (((a.length+b.length-n:Nat):Int),0):=by
 unfold UR;rw [dh va vb c h,Sx,TQ,if_pos rfl,show (Va a b c n).1=ZW a b n from rfl,j9 va vb h];rfl
theorem bI (c:Bool) {n:Nat} (h:n<=a.length+b.length) {k:Nat}:UJ (Va a b c n,(k:Int))=some (Va a b c (n+min k (a.length+b.length-n)),(((min k (a.length+b.length-n):Nat):Int),0)):=by
 have i:=va.len;have l:=vb.len;obtain ⟨u,e⟩ : ∃ u,u=min k (a.length+b.length-n):=⟨_,rfl⟩
 have d:TX (k:Int) ((a.length+b.length-n:Nat):Int)=(u:Int):=by
  unfold TX;split<;>omega
 rw [<- e];unfold UJ;rw [Zh va vb c h,Sx,TK,if_pos rfl];simp only [d,Tp,Tn];rw [TP,if_neg (by omega),TQ,if_pos rfl,db va vb c h,Sx,Sh (by omega),TM,if_neg (by omega)]
 refine UB (x:=(0,(((u:Int),((ZW a b (n+u)).1,((ZW a b (n+u)).2.1,((ZW a b (n+u)).2.2.1,((ZW a b (n+u)).2.2.2.1,((ZW a b (n+u)).2.2.2.2,((Va a b c n).2.1.1,((Va a b c n).2.1.2.1,((Va a b c n).2.1.2.2,(Va a b c n).2.2))))))))),())))
  (YX (λj=>((j:Int),((ZW a b (n+j)).1,((ZW a b (n+j)).2.1,((ZW a b (n+j)).2.2.1,((ZW a b (n+j)).2.2.2.1,((ZW a b (n+j)).2.2.2.2,((Va a b c n).2.1.1,((Va a b c n).2.1.2.1,((Va a b c n).2.1.2.2,(Va a b c n).2.2)))))))))) 0 u rfl (by omega) (by omega) (λj _ g => ?_) ?_) ?_
 ·obtain ⟨y,f,_⟩:=Vu va vb (n:=n+j) (by omega);show br (S8 (j:Int) (u:Int)) _ _=_;rw [TP,if_pos (by omega)];show bd (WP (ZW a b (n+j))) _=_;rw [kA va vb (by omega) f,Sx,Ts (by omega)];rfl
 ·show br (S8 (u:Int) (u:Int)) _ _=_;rw [TP,if_neg (by omega)]
 ·rw [show (Va a b c n).1.1=[a,b] from rfl,gS va vb,Sx,show (Va a b c n).2.2.2=(n:Int) from rfl,show SF .i64 (n:Int) (u:Int)=((n+u:Nat):Int) by rw [Sh (by omega)];omega,Ti];rw [UP (by rw [VC va vb (dc _)];omega),UP (lc _)];rw [show D0 (UC a b (a.length+b.length)) 0 (n+u)=UC a b (n+u) from by unfold D0;rw [xb,l4];exact Xh va vb (by omega),show (Va a b c n).2.1.2.2=c from XJ _ _,bV va vb c (by omega),Sx];rfl
end
end
section
open Go Sv
theorem cA (B:Int) (i:Nat):Us B (i+1)=2*Us B i:=by
 unfold Us;rw [Int.pow_succ,<- Int.mul_assoc,Int.mul_comm]
theorem dg {B:Int} {i:Nat} (a:1<=B) (b:B<=16) (hi:i<=12):Vy (B,(i:Int))=some (Us B i):=by
 unfold Vy;refine UB (x:=(0,((Us B i,(i:Int)),()))) (Xf (λk=>(Us B k,(k:Int))) i (by simp [Us]) (by omega) (λk d => ?_) ?_) rfl
 ·have c:=du a b (show k<=12 by omega);simp only;rw [TP,if_pos (by omega),Si (by omega),Ts (by omega),cA]
 ·simp only;rw [TP,if_neg (by omega)]
theorem pn (r:UK) (b:r.2.length<=9223372036854775807):XU r=some (if r.1<1\/r.1>1000000 then (-1,7) else WX r.2):=by
 unfold XU;rw [TP,TM,XO _ b,Sx];by_cases h:r.1<1
 ·rw [if_pos h,if_pos (.inl h)]
 ·rw [if_neg h];by_cases a:r.1>1000000
  ·rw [if_pos a,if_pos (.inr a)]
  ·rw [if_neg a,if_neg (by omega)]
theorem kI (r:UK) (most:Int) (a:List Int) (y:r.2.length<=9223372036854775807) (hi:a.length<=1048576):WS (r,(most,a))=some (kR a most r):=by
 unfold WS kR;rw [pn r (by omega),Sx];simp only [Tp,Tn];by_cases h:r.1<1\/r.1>1000000
 ·rw [if_pos h,if_pos h];rfl
 rw [if_neg h,if_neg h,TQ];by_cases b:(WX r.2).2=0;rotate_left
 ·rw [if_neg b,if_pos b]
 rw [if_pos b,if_neg (show ¬ (WX r.2).2≠0 by simp [b]),TK,TM];by_cases i:r.2.length=0
 ·rw [if_pos (by omega),if_pos i]
 rw [if_neg (by omega),if_neg i];by_cases c:(r.2.length:Int)>most
 ·rw [if_pos c,if_pos c]
 rw [if_neg c,if_neg c]
 obtain ⟨q,p,d⟩:=Wp (l:=a) (σ:=Unit) (s:=((0:Int),(0:Int))) (λk _=>((k:Int),(0:Int))) (λm k _=>r.1∈a<->r.1∈m) (λ(q:Nat×((Int×Int)×Unit))=>(q.1=1/\r.1 ∉ a)\/(q.1=0/\r.1∈a/\q.2.1.2=8))
  (f:=λs1=>br (S8 s1.1 (a.length:Int)) (λ_=>R1 s1.1 λo=>ix a o λw=>br (Oa w r.1) (λ_=>some (.dn ((0,((s1.1,8),()))))) λ_=>some (.nx (SF .i64 s1.1 1,s1.2))) λ_=>some (.dn ((1,(s1,())))))
  () rfl (by omega) Iff.rfl (λ_ h=>⟨_,by simp only;rw [re];rfl,.inl ⟨rfl,by simpa using h⟩⟩) (λk x m _ hd j n h=>by
   simp only;rw [rl n,Sc,Ti,TC j,TK];by_cases e:x=r.1
   ·rw [if_pos e];exact .inr ⟨_,rfl,.inr ⟨rfl,by rw [h,e];simp,rfl⟩⟩
   ·rw [if_neg e];exact .inl ⟨(),by rw [Tv j (by omega)],by rw [h,ey];exact ⟨λu=>u.elim (λe2=>absurd e2.symm e) id,.inr⟩⟩)
 refine UB p ?_;rw [Sy];rcases d with ⟨d,g⟩ | ⟨d,g,t⟩
 ·rw [if_neg (show ¬ q.1=0 by omega),if_neg g]
 ·rw [if_pos d,if_pos g,t]
theorem gW (L:Tl) (hb:L.2.length<=9223372036854775807) (hr : ∀ rs∈L.2,rs.length<=9223372036854775807 /\ ∀ r∈rs,r.2.length<=9223372036854775807):U4 L=some (VZ L):=by
 unfold U4 VZ;simp only [Tp,Tn];rw [TP,TM,TM];by_cases n:L.1<1
 ·rw [if_pos n,if_pos (.inl n)]
 rw [if_neg n];by_cases o:L.1>16
 ·rw [if_pos o,if_pos (.inr o)]
 rw [if_neg o,if_neg (show ¬ (L.1<1\/L.1>16) by omega)];by_cases S:(L.2.length:Int)>12
 ·rw [if_pos S,if_pos (by omega)]
 rw [if_neg S,if_neg (by omega)];have hl2:L.2.length<=12:=by omega
 obtain ⟨T,N⟩ : ∃ T,T=ZR L.1 0 [] L.2:=⟨_,rfl⟩;rw [<- N]
 have p:T=none->(br (S6 (L.2.length:Int) 0) (λ_=>R1 (SK .i64 (L.2.length:Int) 1) λD=>ix L.2 D λJ=>br (Oa (J.length:Int) 0) (λ_=>some ((SK .i64 (L.2.length:Int) 1,((0:Int),(6:Int))))) λ_=>some ((0,(0,0)))) λ_=>some ((0,(0,0))))=some (if L.2.getLast? = some [] then (((L.2.length-1:Nat):Int),(0,6)) else (0,(0,0))):=by
  intro _;rw [TM];by_cases X:L.2=[]
  ·rw [X];rfl
  ·have hp:=ed.2 X;rw [if_pos (by omega),show SK .i64 (L.2.length:Int) 1=((L.2.length-1:Nat):Int) by rw [Sj (by omega)];omega,Ti,o3];have d:L.2[L.2.length-1]? = some (L.2[L.2.length-1]'(by omega)):=by simp
   rw [TC d,d,TK];by_cases C:L.2[L.2.length-1]'(by omega)=[]
   ·rw [C];simp
   ·rw [if_neg (by have:=ed.2 C;omega),if_neg (by simp [C])]
 obtain ⟨r,G,j⟩:=Wp (l:=L.2) (σ:=List Int) (s:=((0:Int),(([]:List Int),((0:Int),((0:Int),(0:Int)))))) (λi a=>((0:Int),(a,((0:Int),((0:Int),(i:Int))))))
  (λm i a=>ZR L.1 i a m=T/\a.length<=2*i) (λ(r:Nat×((Int×(List Int×(Int×(Int×Int))))×Unit))=>(r.1=1/\T=none)\/(r.1=0/\Q1 T r.2.1.1 r.2.1.2.2.1 r.2.1.2.2.2.1/\T≠none))
  (f:=λ(s0:(Int×((List Int)×(Int×(Int×Int)))))=>br (S8 s0.2.2.2.2 (L.2.length:Int)) (λ_=>R1 s0.2.2.2.2 λk1=>ix L.2 k1 λB=>br (S6 (B.length:Int) 2) (λ_=>some (.dn ((0,((0,(s0.2.1,(s0.2.2.2.2,(3,s0.2.2.2.2)))),()))))) λ_=>bd (loop (λ(b:(Int×((List Int)×(Int×(Int×Int)))))=>br (S8 b.2.2.2.2 (B.length:Int)) (λ_=>R1 b.2.2.2.2 λE=>ix B E λK=>bd (Vy (L.1,s0.2.2.2.2)) λI=>bd (WS ((K,(I,b.2.1)))) λy=>br (Ry y 0) (λ_=>some (.dn ((0,((b.2.2.2.2,(b.2.1,(s0.2.2.2.2,(y,b.2.2.2.2)))),()))))) λ_=>R1 b.2.2.2.2 λF=>ix B F λz=>gd (CF (BF b.2.1.length [z.1].length) 1048576) λ_=>some (.nx ((b.1,(Il b.2.1 [z.1],(b.2.2.1,(b.2.2.2.1,SF .i64 b.2.2.2.2 1))))))) λ_=>some (.dn ((1,(b,()))))) ((s0.1,(s0.2.1,(s0.2.2.1,(s0.2.2.2.1,0)))))) λc=>br (neq c.1 0) (λ_=>some (.dn ((0,((c.2.1.1,(c.2.1.2.1,(c.2.1.2.2.1,(c.2.1.2.2.2.1,s0.2.2.2.2)))),()))))) λ_=>some (.nx ((c.2.1.1,(c.2.1.2.1,(c.2.1.2.2.1,(c.2.1.2.2.2.1,SF .i64 s0.2.2.2.2 1))))))) λ_=>some (.dn ((1,(s0,())))))
  [] rfl (by omega) ⟨N.symm,by simp⟩ (λa h=>by
   refine ⟨_,by simp only;rw [re];rfl,.inl ⟨rfl,?_⟩⟩;rw [<- h.1];rfl) (λi rs m a hd d hi h=>by
   obtain ⟨h,P⟩:=h;simp only;obtain ⟨Y,u⟩:=hr rs (bo d);rw [rl hi,Sc,Ti,TC d,TM];unfold ZR at h;by_cases M:rs.length>2
   ·rw [if_pos (by omega)];rw [if_pos M] at h;refine .inr ⟨_,rfl,.inr ⟨rfl,?_,by rw [<- h];simp⟩⟩;rw [<- h];exact ⟨rfl,rfl,rfl⟩
   rw [if_neg (by omega)];rw [if_neg M] at h;obtain ⟨U,O⟩ : ∃ U,U=ZS (Us L.1 i) 0 a rs:=⟨_,rfl⟩;rw [<- O] at h
   obtain ⟨r,G,j⟩:=Wp (l:=rs) (σ:=Unit) (s:=((0:Int),(a,((0:Int),((0:Int),(0:Int)))))) (λk _=>((0:Int),(a++(rs.take k).map (·.1),((0:Int),((0:Int),(k:Int))))))
    (λm k _=>ZS (Us L.1 i) k (a++(rs.take k).map (·.1)) m=U) (λ(r:Nat×((Int×(List Int×(Int×(Int×Int))))×Unit))=>(r.1=1/\U=none/\r.2.1=(0,(a++rs.map (·.1),(0,(0,(rs.length:Int))))))\/(r.1=0 /\ ∃ k e,U=some (k,e)/\r.2.1.1=(k:Int)/\r.2.1.2.2.1=(i:Int)/\r.2.1.2.2.2.1=e))
    (f:=λ(b:(Int×((List Int)×(Int×(Int×Int)))))=>br (S8 b.2.2.2.2 (rs.length:Int)) (λ_=>R1 b.2.2.2.2 λE=>ix rs E λK=>bd (Vy (L.1,(i:Int))) λI=>bd (WS ((K,(I,b.2.1)))) λy=>br (Ry y 0) (λ_=>some (.dn ((0,((b.2.2.2.2,(b.2.1,((i:Int),(y,b.2.2.2.2)))),()))))) λ_=>R1 b.2.2.2.2 λF=>ix rs F λz=>gd (CF (BF b.2.1.length [z.1].length) 1048576) λ_=>some (.nx ((b.1,(Il b.2.1 [z.1],(b.2.2.1,(b.2.2.2.1,SF .i64 b.2.2.2.2 1))))))) λ_=>some (.dn ((1,(b,())))))
    () (by simp) (by omega) (by simp [O]) (λ_ h=>by
     refine ⟨_,by simp only;rw [re];rfl,.inl ⟨rfl,by rw [<- h];rfl,by simp⟩⟩) (λk r m _ hd d Z h=>by
     simp only;have hr2:=u r (bo d);have w:(rs.take (k+1)).map (·.1)=(rs.take k).map (·.1)++[r.1]:=by rw [gM,d];simp
     have W:(a++(rs.take k).map (·.1)).length<=100:=by simp;omega
     rw [rl Z,Sc,Ti,TC d,dg (by omega) (by omega) (by omega),Sx,kI _ _ _ (by omega) (by omega),Sx,TQ];unfold ZS at h;by_cases A:kR (a++(rs.take k).map (·.1)) (Us L.1 i) r=0
     ·rw [if_neg (λhh:kR (a++(rs.take k).map (·.1)) (Us L.1 i) r≠0=>hh A)] at h;rw [if_pos A,Ti,TC d,UP (by simp only [BF,ci,cP];omega)];refine .inl ⟨(),?_,?_⟩
      ·rw [Tv d (by omega),w,<- eb];rfl
      ·rw [w,<- eb];exact h
     ·rw [if_pos A] at h;rw [if_neg A]
      exact .inr ⟨_,rfl,.inr ⟨rfl,_,_,h.symm,rfl,rfl,rfl⟩⟩)
   rw [G,Sx,Sy];rcases j with ⟨j,g,x⟩ | ⟨j,k,e,g,x,q5,q6⟩
   ·rw [if_neg (show ¬ r.1=0 by omega),x,Tv d (by omega)];rw [g] at h;exact .inl ⟨a++rs.map (·.1),rfl,h,by simp;omega⟩
   ·rw [if_pos j];rw [g] at h;refine .inr ⟨_,rfl,.inr ⟨rfl,?_,by rw [<- h];simp⟩⟩;rw [<- h]
    exact ⟨x,q5,q6⟩)
 refine UB G ?_;rw [Sy];rcases j with ⟨j,g⟩ | ⟨j,g,x⟩
 ·rw [if_neg (show ¬ r.1=0 by omega),g];exact p g
 ·rw [if_pos j];cases q:T with
  | none=>exact absurd q x
  | some t =>
   obtain ⟨i,k,e⟩:=t;rw [q] at g;rw [g.1,g.2.1,g.2.2]
theorem ec (L:Tl) (b:L.2.length<=1048576) (a : ∀ rs∈L.2,rs.length<=1048576 /\ ∀ r∈rs,r.2.length<=9223372036854775807):U4 L=some (VZ L):=gW L (by omega) λrs h=>⟨by have:=(a rs h).1;omega,(a rs h).2⟩
def UU (ls:List (List UK)):List UK:=ls.flatMap List.reverse
theorem VLev.small {L:Tl} (v:VLev L):L.2.length<=1048576 /\ ∀ rs∈L.2,rs.length<=1048576 /\ ∀ r∈rs,r.2.length<=9223372036854775807:=by
 refine ⟨by have:=v.len;omega,λrs a => ?_⟩;obtain ⟨i,hi⟩:=ee a;obtain ⟨d,b⟩:=v.lev i rs hi;exact ⟨by omega,λr c=>by have:=(b r c).vl.len;omega⟩
theorem YK : ∀ (ls:List (List UK)),(∀ rs∈ls,rs.length<=2)->(UU ls).length<=2*ls.length
 | [],_=>by simp [UU]
 | rs::ls,h=>by
  have a:=YK ls λr b=>h r (by simp [b]);have c:=h rs (by simp);unfold UU at a ⊢;rw [x5,hV,List.length_reverse,ci];omega
theorem VLev.two {L:Tl} (v:VLev L) : ∀ rs∈L.2,rs.length<=2:=λrs a=>by
 obtain ⟨i,hi⟩:=ee a;exact (v.lev i rs hi).1
theorem bH {L:Tl} (v:VLev L):WJ L=some (UU L.2,0):=by
 obtain ⟨d,b⟩:=v.small;have e:=v.len;unfold WJ;simp only [Tp,Tn];rw [ec _ d b,WU v,Sx,TQ,if_pos rfl]
 rw [Un (l:=L.2) (σ:=List UK) (s:=(([]:List UK),(0:Int))) (λi m=>(m,(i:Int))) (λls i m=>(∀ rs∈ls,rs.length<=2)/\m.length<=2*i) (λls _ m=>(0,((m++UU ls,(L.2.length:Int)),()))) [] rfl (by omega) ⟨v.two,by simp⟩ (λm _=>by
  simp only;rw [re,R7];simp [UU]) (λi rs ls m hd a hi h=>by
   refine ⟨m++rs.reverse,?_,⟨λr b=>h.1 r (by simp [b]),by have:=h.1 rs (by simp);simp;omega⟩,by simp [UU]⟩;have c:=h.1 rs (by simp);have f:m.length<=24:=by have:=h.2;omega
   simp only;rw [rl hi,Sc,Ti,TC a];have gg : ∀ {β:Type} (z:List UK) (x:UK) (k:Unit->Option β),z.length<=100->gd (CF (BF z.length [x].length) 1048576) k=k ():=λz x k g=>UP (by simp only [BF,ci,cP];omega) k
   match rs,c,a with
   | [],_,a =>
    refine UB (x:=(0,((m,-1),()))) (U0 (n:=1) (by omega) (US rfl)) ?_;rw [Tv a (by omega)];simp
   | [r0],_,a =>
    refine UB (x:=(0,((m++[r0],-1),()))) (U0 (n:=2) (by omega) ((UN (s':=(m++[r0],-1)) ?_).trans (US rfl))) ?_
    ·show br (Rx (0:Int) 0) _ _=_;rw [TL,if_pos (by omega),Ti,TC a];refine (WM 0 rfl (x:=r0) rfl).trans ?_;rw [gg m _ _ (by omega)];rfl
    ·rw [Tv a (by omega)];simp
   | [r0,r1],_,a =>
    refine UB (x:=(0,((m++[r1]++[r0],-1),()))) (U0 (n:=3) (by omega) ((UN (s':=(m++[r1],0)) ?_).trans ((UN (s':=(m++[r1]++[r0],-1)) ?_).trans (US rfl)))) ?_
    ·show br (Rx (1:Int) 0) _ _=_;rw [TL,if_pos (by omega),Ti,TC a];refine (WM 1 rfl (x:=r1) rfl).trans ?_;rw [gg m _ _ (by omega)];rfl
    ·show br (Rx (0:Int) 0) _ _=_;rw [TL,if_pos (by omega),Ti,TC a];refine (WM 0 rfl (x:=r0) rfl).trans ?_;rw [gg (m++[r1]) _ _ (by simp;omega)];rfl
    ·rw [Tv a (by omega)];simp),Sx]
 simp
theorem XH (a b:Int):TY a b=max a b:=by unfold TY;split<;>omega
theorem WY : ∀ (l:List UK) (m:Int),0<=m->l.foldl (λm r=>TY m r.1) m=max m (l.foldl (λm r=>TY m r.1) 0)
 | [],m,h=>by simp;omega
 | r::l,m,h=>by
  have a:=WY l (TY m r.1) (by rw [XH];omega);have b:=WY l (TY 0 r.1) (by rw [XH];omega);simp only [hI];rw [a,b,XH,XH];omega
theorem bQ (l:List UK) (m:Int) (h:0<=m):l.reverse.foldl (λm r=>TY m r.1) m=l.foldl (λm r=>TY m r.1) m:=by
 induction l generalizing m with
 | nil=>rfl
 | cons r l a =>
  rw [List.reverse_cons,x6,a m h,hI];simp only [hI,List.foldl_nil];rw [WY l m h,WY l (TY m r.1) (by rw [XH];omega),XH,XH];omega
theorem cN (l:List UK) (m:Int) (h:0<=m):0<=l.foldl (λm r=>TY m r.1) m:=by
 rw [WY l m h];omega
theorem Yx : ∀ (ls:List (List UK)) (m:Int),0<=m->(UU ls).foldl (λm r=>TY m r.1) m=ls.foldl (λm rs=>rs.foldl (λm r=>TY m r.1) m) m
 | [],m,_=>rfl
 | rs::ls,m,h=>by
  have a:=Yx ls (rs.foldl (λm r=>TY m r.1) m) (cN _ _ h);unfold UU at a ⊢;rw [x5,x6,bQ rs m h,hI,a]
theorem cZ {L:Tl} (v:VLev L):VS L=some (WT L.2):=by
 have c:=v.len;have d:=YK L.2 v.two;unfold VS;simp only [Tp,Tn];rw [bH v,Sx]
 rw [Un (l:=UU L.2) (σ:=Int) (s:=((0:Int),(0:Int))) (λi m=>(m,(i:Int))) (λ_ _ _=>True) (λl _ m=>(0,((l.foldl (λm r=>TY m r.1) m,((UU L.2).length:Int)),()))) 0 rfl (by omega) trivial (λm _=>by
  simp only;rw [re,R7];rfl) (λk r l m hd a b _=>⟨TY m r.1,by
   simp only
   rw [rl b,Sc,Ti,TC a,Tv a (by omega)],trivial,rfl⟩),Sx]
 rw [Yx _ _ (by omega)];rfl
theorem aW {L:Tl} (d:L.2.length<=1000):Ui L=some (To 0 L.2):=by
 unfold Ui;simp only [Tp,Tn]
 rw [Un (l:=L.2) (σ:=List Int) (s:=(([]:List Int),(0:Int))) (λi m=>(m,(i:Int))) (λls i m=>m++To i ls=To 0 L.2) (λ_ _ _=>(0,((To 0 L.2,(L.2.length:Int)),()))) [] rfl (by omega) rfl (λm h=>by
  simp only;rw [re,R7,<- h];simp [To]) (λi rs ls m hd b hi h=>by
   refine ⟨m++(if rs.length=2 then [(i:Int)] else []),?_,?_,rfl⟩
   ·simp only;rw [rl hi,Sc,Ti,TC b,TK]
    have e:m.length<=1000:=by
     have a:=congrArg nb h;have c:=VQ L.2 0;rw [hV] at a;omega
    by_cases a:rs.length=2
    ·rw [if_pos (by omega),if_pos a,UP (by simp only [BF,ci,cP];omega),Tv b (by omega)];rfl
    ·rw [if_neg (by omega),if_neg a,gs,Tv b (by omega)]
   ·rw [eb];exact h),Sx]
theorem tC {L:Tl} (v:VLev L) (k:Int):Yj (L,k)=some (if k<0\/k>=12 then 7 else 0):=by
 obtain ⟨c,d⟩:=v.small;unfold Yj;rw [ec _ c d,WU v,Sx,TK,if_pos rfl,TP,TL];by_cases a:k<0
 ·rw [if_pos a,if_pos (.inl a)]
 ·rw [if_neg a];by_cases b:k>=12
  ·rw [if_pos b,if_pos (.inr b)]
  ·rw [if_neg b,if_neg (by omega)]
theorem bG {L:Tl} (v:VLev L) {n:Nat} (b:n<L.2.length):UW (L,(n:Int))=some (decide ((n:Int)=(L.2.length:Int)-1)):=by
 have a:=v.len;unfold UW YN;simp only [Tp,Tn];rw [tC v,Sx,if_neg (by omega),TQ,if_pos rfl,Sx,Ts (by omega)];unfold S6;rw [U9];by_cases h:(n:Int)=(L.2.length:Int)-1
 ·simp [h]
 ·simp [h];omega
theorem eY {a b:List Tj} (va:VL a) (d:VL b) (c:Bool):XX ([a,b],c)=some (Va a b c 0,(0,0)):=by
 unfold XX YM Vl;rw [Zg va d,Sx,TQ,if_pos rfl];refine Eq.trans (b:=bd (bd (Vk ([a,b],[((0:Nat):Int),((0:Nat):Int)])) _) _) rfl ?_;rw [Yq va d (lc _) (lc _)];rfl
theorem bu {L:Tl} {n:Nat} {a b:UK} (c:Bool) (h:L.2[n]? = some [a,b]) (d:VL a.2) (e:VL b.2):UF (L,((n:Int),c))=some ((n:Int),Va b.2 a.2 c 0):=by
 have f:=(a8.1 h).1;unfold UF;simp only [Tp,Tn];rw [TL,if_neg (by omega),Ti,TC h,TC (x:=b) rfl,TC (x:=a) rfl,eY e d];rfl
theorem pj {L:Tl} {n:Nat} {a b:UK} {j:Job} (h:L.2[n]? = some [a,b]) (e:VL a.2) (f:VL b.2) {β:Type} (A B:Option β) :
  (bd (UF (L,((n:Int),j.2.2.1.2.2))) λc=>bd (UR c.2) λl=>br (S8 j.2.2.2.2 0) (λ_=>A) λ_=>br (S6 j.2.2.2.2 l.1) (λ_=>A) λ_=>bd (UJ (c.2,j.2.2.2.2)) λm=>bd (UZ (m.1,j.2)) λo=>br (Hg o) (λ_=>A) λ_=>B)
  = if j.2.2.2.2<0\/j.2.2.2.2>((b.2.length+a.2.length:Nat):Int) then A else if Va b.2 a.2 j.2.2.1.2.2 j.2.2.2.2.toNat=j.2 then B else A:=by
 rw [bu _ h e f,Sx,Zh f e _ (lc _),Sx,TP,TM,l4];by_cases g:j.2.2.2.2<0
 ·rw [if_pos g,if_pos (.inl g)]
 rw [if_neg g];by_cases i:j.2.2.2.2>((b.2.length+a.2.length:Nat):Int)
 ·rw [if_pos i,if_pos (.inr i)]
 rw [if_neg i,if_neg (show ¬ (j.2.2.2.2<0\/j.2.2.2.2>((b.2.length+a.2.length:Nat):Int)) by omega)];obtain ⟨k,p⟩ : ∃ k:Nat,j.2.2.2.2=(k:Int):=⟨j.2.2.2.2.toNat,by omega⟩;rw [p,bI f e _ (lc _),Sx,l4,eg,xa (by omega),bl];obtain ⟨s1,s2,q,r,s,t⟩:=Z4 f e j.2.2.1.2.2 (n:=k) (by omega);rw [bD _ _ s1 s2 q r s t,Sx,U9,VE];by_cases d:Va b.2 a.2 j.2.2.1.2.2 k=j.2
 ·rw [if_neg (by simp [d]),if_pos d]
 ·rw [if_pos d,if_neg d]
end
section
open Go Sv
theorem Zy (s:Th) (J:s.1.2.length<=9223372036854775807) (hr : ∀ rs∈s.1.2,rs.length<=9223372036854775807 /\ ∀ r∈rs,r.2.length<=9223372036854775807) (hj:s.2.1.length<=9223372036854775807):U5 s=some (Tk s):=by
 unfold U5 Tk;simp only [Tp,Tn];rw [gW _ J hr,Sx,TK];by_cases o:(VZ s.1).2.2=0;rotate_left
 ·rw [if_neg o,if_pos o,TK,if_neg o,TQ,if_neg o]
 rw [if_pos o,if_neg (show ¬ (VZ s.1).2.2≠0 by simp [o]),TP,TM];have v:=Xg.1 o;by_cases y:s.2.2<1
 ·rw [if_pos y,if_pos (.inl y)]
 rw [if_neg y];by_cases p:s.2.2>1000001
 ·rw [if_pos p,if_pos (.inr p)]
 rw [if_neg p,if_neg (show ¬ (s.2.2<1\/s.2.2>1000001) by omega),TK,if_pos o,cZ v,Sx,TN];by_cases m:s.2.2<=WT s.1.2
 ·rw [if_pos m,if_pos m]
 rw [if_neg m,if_neg m,TQ,if_pos o,aW (by have:=v.len;omega),Sx];obtain ⟨a,g⟩ : ∃ a,a=To 0 s.1.2:=⟨_,rfl⟩;have hdl:a.length<=12:=by have:=VQ s.1.2 0;have:=v.len;rw [g];omega
 rw [<- g];obtain ⟨T,Z⟩ : ∃ T,T=Wo s.1 a 0 s.2.1:=⟨_,rfl⟩;rw [<- Z]
 obtain ⟨r,q1,D⟩:=Wp (l:=s.2.1) (σ:=Unit) (λi _=>((0:Int),((0:Int),(i:Int)))) (λjs i _=>Wo s.1 a i js=T) (λ(r:Nat×((Int×(Int×Int))×Unit))=>(T=none/\r.1=1)\/(∃ i:Nat,T=some i/\r.1=0/\r.2.1.1=6/\r.2.1.2.1=(i:Int)))
  (f:=λb=>br (S8 b.2.2 (s.2.1.length:Int)) (λ_=>R1 b.2.2 λk7=>ix s.2.1 k7 λe=>br (Rx b.2.2 (a.length:Int)) (λ_=>some (.dn ((0,((6,(b.2.2,b.2.2)),()))))) λ_=>R1 b.2.2 λk9=>ix a k9 λX=>br (Ry e.1 X) (λ_=>some (.dn ((0,((6,(b.2.2,b.2.2)),()))))) λ_=>br e.2.2.1.2.2 (λ_=>bd (UW (s.1,e.1)) λM=>br (Hg M) (λ_=>some (.dn ((0,((6,(b.2.2,b.2.2)),()))))) λ_=>bd (UF ((s.1,(e.1,e.2.2.1.2.2)))) λG=>bd (UR G.2) λN=>br (S8 e.2.2.2.2 0) (λ_=>some (.dn ((0,((6,(b.2.2,b.2.2)),()))))) λ_=>br (S6 e.2.2.2.2 N.1) (λ_=>some (.dn ((0,((6,(b.2.2,b.2.2)),()))))) λ_=>bd (UJ (G.2,e.2.2.2.2)) λO=>bd (UZ (O.1,e.2)) λP=>br (Hg P) (λ_=>some (.dn ((0,((6,(b.2.2,b.2.2)),()))))) λ_=>some (.nx ((b.1,(b.2.1,SF .i64 b.2.2 1))))) λ_=>bd (UF ((s.1,(e.1,e.2.2.1.2.2)))) λI=>bd (UR I.2) λS=>br (S8 e.2.2.2.2 0) (λ_=>some (.dn ((0,((6,(b.2.2,b.2.2)),()))))) λ_=>br (S6 e.2.2.2.2 S.1) (λ_=>some (.dn ((0,((6,(b.2.2,b.2.2)),()))))) λ_=>bd (UJ (I.2,e.2.2.2.2)) λU=>bd (UZ (U.1,e.2)) λW=>br (Hg W) (λ_=>some (.dn ((0,((6,(b.2.2,b.2.2)),()))))) λ_=>some (.nx ((b.1,(b.2.1,SF .i64 b.2.2 1))))) λ_=>some (.dn ((1,(b,())))))
  (s:=(0,(0,0))) () rfl (by omega) Z.symm (λ_ h=>by
   refine ⟨_,by simp only;rw [re];rfl,.inl ⟨by rw [<- h];rfl,rfl⟩⟩) (λi j js _ hd hx hi h=>by
   simp only;rw [rl hi,Sc,Ti,TC hx,TL];unfold Wo at h
   have c:ZQ s.1 a i j=true -> ∃ r:Nat×((Int×(Int×Int))×Unit),(some (LR.dn ((0,((6,((i:Int),(i:Int))),()))):LR (Int×(Int×Int)) _))=some (.dn r)/\((T=none/\r.1=1)\/(∃ i:Nat,T=some i/\r.1=0/\r.2.1.1=6/\r.2.1.2.1=(i:Int))):=λJ=>by
    rw [if_pos J] at h;exact ⟨_,rfl,.inr ⟨i,h.symm,rfl,rfl,rfl⟩⟩
   have x:ZQ s.1 a i j=false -> ∃ st':Unit,(some (LR.nx ((0:Int),((0:Int),SF .i64 (i:Int) 1))):Option (LR _ (Nat×((Int×(Int×Int))×Unit))))=some (.nx ((0:Int),((0:Int),((i+1:Nat):Int))))/\Wo s.1 a (i+1) js=T:=λhg=>by
    rw [if_neg (by simp [hg])] at h;exact ⟨(),by rw [Tv hx (by omega)],h⟩
   by_cases y:(i:Int)>=(a.length:Int)
   ·rw [if_pos y];exact .inr (c (by unfold ZQ;rw [a9 (by omega)]))
   rw [if_neg y,Ti];have w:a[i]? = some (a[i]'(by omega)):=by simp
   rw [TC w,TQ];obtain ⟨n,K,E,F,t⟩:=Xy (ls:=s.1.2) (i:=0) (k:=i) (d:=a[i]'(by omega)) (by rw [<- g];exact w);rw [eg] at K
   have q:ZQ s.1 a i j=(if j.1≠(a[i]'(by omega)) then true else if j.2.2.1.2.2=true/\j.1≠(s.1.2.length:Int)-1 then true else if j.2.2.2.2<0\/j.2.2.2.2>((F.2.length+E.2.length:Nat):Int) then true else decide (Va F.2 E.2 j.2.2.1.2.2 j.2.2.2.2.toNat≠j.2)):=by
    unfold ZQ;rw [w];simp only;rw [K,bl,t]
   by_cases p:j.1=(a[i]'(by omega));rotate_left
   ·rw [if_neg p];exact .inr (c (by rw [q,if_pos p]))
   rw [if_pos p];rw [if_neg (by simp [p])] at q;have C:j.1=(n:Int):=by rw [p,K]
   have hv:=(v.lev n _ t).2;have v0:=(hv E (by simp)).vl;have v1:=(hv F (by simp)).vl;have L:=(a8.1 t).1;rw [C,bG v L,Sx,U9,VE,pj t v0 v1,TV];rw [C] at q;by_cases m:j.2.2.1.2.2=true/\(n:Int)≠(s.1.2.length:Int)-1
   ·rw [if_pos m.1,if_pos m.2];exact .inr (c (by rw [q,if_pos m]))
   rw [if_neg m] at q
   have h4 : ∀ {γ:Type} (A B:γ),(if j.2.2.1.2.2=true then if ¬(n:Int)=(s.1.2.length:Int)-1 then A else B else B)=B:=by
    intro γ A B;by_cases u:j.2.2.1.2.2=true
    ·rw [if_pos u,if_neg (λz=>m ⟨u,z⟩)]
    ·rw [if_neg u]
   rw [h4];by_cases u:j.2.2.2.2<0\/j.2.2.2.2>((F.2.length+E.2.length:Nat):Int)
   ·rw [if_pos u];exact .inr (c (by rw [q,if_pos u]))
   rw [if_neg u];rw [if_neg u] at q;by_cases z:Va F.2 E.2 j.2.2.1.2.2 j.2.2.2.2.toNat=j.2
   ·rw [if_pos z];exact .inl (x (by rw [q];simp [z]))
   ·rw [if_neg z]
    exact .inr (c (by rw [q];simp [z])))
 refine UB q1 ?_;rw [Sy];rcases D with ⟨D,q3⟩ | ⟨i,D,q3,q4,q5⟩
 ·rw [if_neg (show ¬ r.1=0 by omega),D,TP];simp only;by_cases Y:s.2.1.length<a.length
  ·rw [if_pos (by omega),if_pos Y]
  ·rw [if_neg (by omega),if_neg Y]
 ·rw [if_pos q3,D,q4,q5]
theorem dY (s:Th) (b:s.1.2.length<=1048576) (a : ∀ rs∈s.1.2,rs.length<=1048576 /\ ∀ r∈rs,r.2.length<=9223372036854775807) (c:s.2.1.length<=1048576):U5 s=some (Tk s):=Zy s (by omega) (λrs h=>⟨by have:=(a rs h).1;omega,(a rs h).2⟩) (by omega)
end
section
open Go Sv
def JobAt (L:Tl) (n:Nat) (j:Job):Prop := ∃ a b c k,L.2[n]? = some [a,b]/\j=((n:Int),Va b.2 a.2 c k)/\k<=b.2.length+a.2.length/\(c=true->n+1=L.2.length)/\VL a.2/\VL b.2
structure VSt (s:Th):Prop where
 lev:VLev s.1
 n1:1<=s.2.2
 n2:s.2.2<=1000001
 n3:WT s.1.2<s.2.2
 due:s.2.1.map (·.1)=To 0 s.1.2
 job : ∀ j∈s.2.1,∃ n,JobAt s.1 n j
theorem aZ (a b:List Tj) (c:Bool) (k:Nat):(Va a b c k).2.1.2.2=c:=by
 show (U2 (s0 c) (UC a b k)).2.2=c;rw [XJ]
theorem an {L:Tl} (v:VLev L) {i:Nat} {j:Job}:ZQ L (To 0 L.2) i j=false <-> ∃ n,(To 0 L.2)[i]? = some j.1/\JobAt L n j:=by
 constructor
 ·intro h;unfold ZQ at h;cases hd:(To 0 L.2)[i]? with
  | none=>rw [hd] at h;cases h
  | some d =>
   rw [hd] at h;simp only at h;by_cases e:j.1=d;rotate_left
   ·rw [if_pos e] at h;cases h
   rw [if_neg (by simp [e])] at h;by_cases f:j.2.2.1.2.2=true/\j.1≠(L.2.length:Int)-1
   ·rw [if_pos f] at h;cases h
   rw [if_neg f] at h;obtain ⟨n,l,a,b,c⟩:=Xy hd;rw [eg] at l;rw [l,bl,c] at h;simp only at h;by_cases o:j.2.2.2.2<0\/j.2.2.2.2>((b.2.length+a.2.length:Nat):Int)
   ·rw [if_pos o] at h;cases h
   rw [if_neg o] at h;have r:Va b.2 a.2 j.2.2.1.2.2 j.2.2.2.2.toNat=j.2:=by simpa using h
   have q:=(v.lev n _ c).2;refine ⟨n,by rw [e],a,b,j.2.2.1.2.2,j.2.2.2.2.toNat,c,tk (by rw [e,l]) r.symm,by omega,λg => ?_,(q a (by simp)).vl,(q b (by simp)).vl⟩
   have s:j.1=(L.2.length:Int)-1:=by
    by_cases p:j.1=(L.2.length:Int)-1
    ·exact p
    ·exact absurd ⟨g,p⟩ f
   omega
 ·rintro ⟨n,hd,a,b,m,k,c,rfl,t,g,u,w⟩;unfold ZQ;rw [hd];simp only;rw [if_neg (by simp),aZ,if_neg (λh:m=true/\(n:Int)≠(L.2.length:Int)-1=>h.2 (by have:=g h.1;omega)),bl,c];simp only;rw [show (Va b.2 a.2 m k).2.2.2=(k:Int) from rfl,if_neg (by omega),bl];simp
theorem ZC {L:Tl} {a:List Int} : ∀ {js:List Job} {i:Nat},Wo L a i js=none <-> ∀ k j,js[k]? = some j->ZQ L a (i+k) j=false
 | [],i=>by simp [Wo]
 | j::js,i=>by
  unfold Wo;by_cases h:ZQ L a i j=true
  ·rw [if_pos h];simp only [reduceCtorEq,false_iff];intro b;have:=b 0 j rfl;rw [Nat.add_zero,h] at this;cases this
  ·rw [if_neg h,ZC (js:=js)];constructor
   ·intro b k j' c;cases k with
    | zero=>cases c;simpa using h
    | succ k=>rw [show i+(k+1)=i+1+k by omega];exact b k j' c
   ·intro b k j' c;rw [show i+1+k=i+(k+1) by omega];exact b (k+1) j' c
theorem Tu {s:Th}:(Tk s).2=0<->VSt s:=by
 unfold Tk;constructor
 ·intro h;by_cases d:(VZ s.1).2.2≠0
  ·rw [if_pos d] at h;exact absurd h d
  rw [if_neg d] at h;have v:=Xg.1 (Decidable.not_not.1 d);by_cases f:s.2.2<1\/s.2.2>1000001
  ·rw [if_pos f] at h;cases h
  rw [if_neg f] at h;by_cases g:s.2.2<=WT s.1.2
  ·rw [if_pos g] at h;cases h
  rw [if_neg g] at h;cases b:Wo s.1 (To 0 s.1.2) 0 s.2.1 with
  | some i=>rw [b] at h;cases h
  | none =>
   rw [b] at h;simp only at h;by_cases l:s.2.1.length<(To 0 s.1.2).length
   ·rw [if_pos l] at h;cases h
   have m:=ZC.1 b
   have c : ∀ k j,s.2.1[k]? = some j -> ∃ n,(To 0 s.1.2)[k]? = some j.1/\JobAt s.1 n j:=λk j a=>by
    have:=m k j a;rw [eg] at this;exact (an v).1 this
   refine ⟨v,by omega,by omega,by omega,?_,λj o => ?_⟩
   ·apply List.ext_getElem?;intro k;rw [tg];cases a:s.2.1[k]? with
    | some j=>obtain ⟨n,e,_⟩:=c k j a;rw [e];rfl
    | none =>
     have:=List.getElem?_eq_none_iff.1 a;rw [a9 (by omega)];rfl
   ·obtain ⟨k,a⟩:=ee o;obtain ⟨n,_,h⟩:=c k j a;exact ⟨n,h⟩
 ·intro v;rw [if_neg (by simp [Xg.2 v.lev]),if_neg (by have:=v.n1;have:=v.n2;omega),if_neg (by have:=v.n3;omega)]
  have b:Wo s.1 (To 0 s.1.2) 0 s.2.1=none:=ZC.2 λk j a=>by
   rw [eg];obtain ⟨n,p⟩:=v.job j (bo a);exact (an v.lev).2 ⟨n,by rw [<- v.due,tg,a];rfl,p⟩
  rw [b];simp only;rw [if_neg (by rw [<- v.due];simp)]
structure Sm (s:Th):Prop where
 lv:s.1.2.length<=1048576
 rs : ∀ rs∈s.1.2,rs.length<=1048576 /\ ∀ r∈rs,r.2.length<=9223372036854775807
 js:s.2.1.length<=1048576
theorem tX {s:Th} (m:Sm s):U3 s=some (Tk s):=eL s m.lv m.rs m.js
theorem tB {s:Th} (m:Sm s):U5 s=some (Tk s):=dY s m.lv m.rs m.js
theorem VSt.jlen {s:Th} (v:VSt s):s.2.1.length=(To 0 s.1.2).length:=by rw [<- v.due];simp
theorem VSt.jsmall {s:Th} (v:VSt s):s.2.1.length<=12:=by
 have:=v.jlen;have:=VQ s.1.2 0;have:=v.lev.len;omega
theorem VSt.sm {s:Th} (v:VSt s):Sm s:=⟨v.lev.small.1,v.lev.small.2,by have:=v.jsmall;omega⟩
def Zl (x:Int):Nat->List Int->Option Nat
 | _,[]=>none
 | k,y::l=>if y=x then some k else Zl x (k+1) l
theorem eJ {x:Int} : ∀ {l:List Int} {k i:Nat},Zl x k l=some i->k<=i/\l[i-k]? = some x
 | [],_,_,h=>by cases h
 | y::l,k,i,h=>by
  unfold Zl at h;by_cases e:y=x
  ·rw [if_pos e] at h;cases h;simp [e]
  ·rw [if_neg e] at h;obtain ⟨b,a⟩:=eJ h;exact ⟨by omega,by rw [show i-k=(i-(k+1))+1 by omega];simpa using a⟩
theorem cM {x:Int} : ∀ {l:List Int} {k:Nat},x∈l -> ∃ i,Zl x k l=some i
 | [],_,h=>by cases h
 | y::l,k,h=>by
  unfold Zl;by_cases e:y=x
  ·rw [if_pos e];exact ⟨k,rfl⟩
  ·rw [if_neg e];exact cM (by rcases ey.1 h with h | h;exact absurd h.symm e;exact h)
def YF (s:Th) (a:Int):Int×Int:=if (Tk s).2≠0 then (0,(Tk s).2) else match Zl a 0 (To 0 s.1.2) with
 | some i=>((i:Int),0)
 | none=>(0,4)
theorem cK {s:Th} (m:Sm s) (a:Int):Ws (s,a)=some (YF s a):=by
 unfold Ws YF;simp only [Tp,Tn];rw [tX m,Sx,TQ];by_cases b:(Tk s).2=0;rotate_left
 ·rw [if_neg b,if_pos b]
 rw [if_pos b,if_neg (show ¬ (Tk s).2≠0 by simp [b])];have v:=Tu.1 b;have w:=v.jsmall;rw [<- v.due];obtain ⟨T,g⟩ : ∃ T,T=Zl a 0 (s.2.1.map (·.1)):=⟨_,rfl⟩;rw [<- g]
 obtain ⟨r,q,c⟩:=Wp (l:=s.2.1) (σ:=Unit) (s:=((0:Int),(0:Int))) (λk _=>((0:Int),(k:Int))) (λjs k _=>Zl a k (js.map (·.1))=T) (λ(r:Nat×((Int×Int)×Unit))=>(r.1=1/\T=none)\/(r.1=0 /\ ∃ i:Nat,T=some i/\r.2.1.1=(i:Int)))
  (f:=λs1=>br (S8 s1.2 (s.2.1.length:Int)) (λ_=>R1 s1.2 λp=>ix s.2.1 p λu=>br (Oa u.1 a) (λ_=>some (.dn ((0,((s1.2,s1.2),()))))) λ_=>some (.nx (s1.1,SF .i64 s1.2 1))) λ_=>some (.dn ((1,(s1,())))))
  () rfl (by omega) g.symm (λ_ h=>⟨_,by simp only;rw [re];rfl,.inl ⟨rfl,by rw [<- h];rfl⟩⟩) (λk j js _ hd n o h=>by
   simp only;rw [rl o,Sc,Ti,TC n,TK];unfold Zl at h;simp only [ll] at h;by_cases e:j.1=a
   ·rw [if_pos e];rw [if_pos e] at h;exact .inr ⟨_,rfl,.inr ⟨rfl,k,h.symm,rfl⟩⟩
   ·rw [if_neg e];rw [if_neg e] at h
    exact .inl ⟨(),by rw [Tv n (by omega)],h⟩)
 refine UB q ?_;rw [Sy];rcases c with ⟨c,d⟩ | ⟨c,i,d,t⟩
 ·rw [if_neg (show ¬ r.1=0 by omega),d];rfl
 ·rw [if_pos c,d,t,TP,if_neg (by omega)]
theorem da {s:Th} (m:Sm s):Wj s=some (if (Tk s).2≠0 then ([],(Tk s).2) else (To 0 s.1.2,0)):=by
 unfold Wj;rw [tB m,Sx,TQ];by_cases a:(Tk s).2=0
 ·rw [if_pos a,if_neg (show ¬ (Tk s).2≠0 by simp [a]),aW (by have:=(Tu.1 a).lev.len;omega),Sx]
 ·rw [if_neg a,if_pos a]
theorem ZG {s:Th} (m:Sm s) (a:Int):Uy (s,a)=some (YF s a):=by
 unfold Uy YF;simp only [Tp,Tn];rw [da m,Sx,TQ];by_cases c:(Tk s).2=0;rotate_left
 ·rw [if_pos c,if_neg c,if_pos c]
 rw [if_neg (show ¬ (Tk s).2≠0 by simp [c]),if_pos rfl,if_neg (show ¬ (Tk s).2≠0 by simp [c])];have v:=Tu.1 c;have z:=v.jsmall;have hd:=v.jlen;obtain ⟨b,d⟩ : ∃ b,b=To 0 s.1.2:=⟨_,rfl⟩;rw [<- d] at hd ⊢;obtain ⟨T,o⟩ : ∃ T,T=Zl a 0 b:=⟨_,rfl⟩;rw [<- o];simp only
 obtain ⟨r,u,g⟩:=Wp (l:=b) (σ:=Unit) (s:=((0:Int),((0:Int),(0:Int)))) (λk _=>((0:Int),((0:Int),(k:Int)))) (λjs k _=>Zl a k js=T) (λ(r:Nat×((Int×(Int×Int))×Unit))=>(r.1=1/\T=none)\/(r.1=0 /\ ∃ i:Nat,T=some i/\r.2.1.2.1=(i:Int)/\r.2.1.1=0))
  (f:=λs1=>br (S8 s1.2.2 (b.length:Int)) (λ_=>R1 s1.2.2 λt=>ix b t λy=>br (Oa y a) (λ_=>some (.dn ((0,((0,(s1.2.2,s1.2.2)),()))))) λ_=>some (.nx ((s1.1,(s1.2.1,SF .i64 s1.2.2 1))))) λ_=>some (.dn ((1,(s1,())))))
  () rfl (by omega) o.symm (λ_ h=>⟨_,by simp only;rw [re];rfl,.inl ⟨rfl,by rw [<- h];rfl⟩⟩) (λk j js _ hd p q h=>by
   simp only;rw [rl q,Sc,Ti,TC p,TK];unfold Zl at h;by_cases e:j=a
   ·rw [if_pos e];rw [if_pos e] at h;exact .inr ⟨_,rfl,.inr ⟨rfl,k,h.symm,rfl,rfl⟩⟩
   ·rw [if_neg e];rw [if_neg e] at h
    exact .inl ⟨(),by rw [Tv p (by omega)],h⟩)
 refine UB u ?_;rw [Sy];rcases g with ⟨g,n⟩ | ⟨g,i,n,w,x⟩
 ·rw [if_neg (show ¬ r.1=0 by omega),n]
 ·rw [if_pos g,n,w,x]
end
section
open Go Sv
def UA (L:Tl) (j:Job):Nat:=match L.2[j.1.toNat]? with
 | some [r0,r1]=>r1.2.length+r0.2.length-j.2.2.2.2.toNat
 | _=>0
def Vn (L:Tl) (j:Job):Bool:=decide ((j.2.2.2.1.length:Int)<=Us L.1 j.1.toNat)
def Yy (L:Tl) (n:Nat):Bool:=decide (n<12/\((L.2[n]?).getD []).length<2)
def Vg (L:Tl) (j:Job):Bool:=decide (0<UA L j)||(Vn L j||Yy L (j.1.toNat+1))
def aL (s:Th) (a:Int):Option Job:=match Zl a 0 (To 0 s.1.2) with
 | some i=>s.2.1[i]?
 | none=>none
theorem VSt.at {s:Th} (v:VSt s) {a:Int} {i:Nat} (h:Zl a 0 (To 0 s.1.2)=some i) : ∃ (j:Job) (n:Nat),s.2.1[i]? = some j/\a=(n:Int)/\j.1=(n:Int)/\JobAt s.1 n j/\n<s.1.2.length:=by
 obtain ⟨_,b⟩:=eJ h;rw [l4] at b;rw [<- v.due,tg] at b;cases c:s.2.1[i]? with
 | none=>rw [c] at b;cases b
 | some j =>
  rw [c] at b;simp only [x9,Option.some.injEq] at b;obtain ⟨n,g⟩:=v.job j (bo c);have d:=g;obtain ⟨o,p,m,k,l,e,_⟩:=g;have f:j.1=(n:Int):=by rw [e]
  exact ⟨j,n,rfl,by rw [<- b,f],f,d,(a8.1 l).1⟩
theorem JobAt.left {L:Tl} {n:Nat} {j:Job} (h:JobAt L n j):Ud j.2=some ((UA L j:Int),0)/\UR j.2=some ((UA L j:Int),0)/\UA L j<=10000:=by
 obtain ⟨b,c,a,k,i,rfl,g,_,d,f⟩:=h;have l:=d.len;have m:=f.len
 have e:UA L ((n:Int),Va c.2 b.2 a k)=c.2.length+b.2.length-k:=by
  unfold UA;simp only [bl,i];show c.2.length+b.2.length-((k:Int)).toNat=_;rw [bl]
 rw [e];exact ⟨aK f d a g,Zh f d a g,by omega⟩
theorem iC {L:Tl} (v:VLev L) {n:Nat} (c:n<12):XS (L.1,(n:Int))=some (Us L.1 n,0):=by
 have a:=v.B1;have b:=v.B2;unfold XS;rw [TP,if_neg (by omega),TM,if_neg (by omega),TP,if_neg (by omega),TL,if_neg (by omega),aC a b (by omega)];have:Rx (n:Int) 0=true:=by unfold Rx;simp
 rw [this];rfl
theorem kB {L:Tl} (v:VLev L) {n:Nat} (c:n<12):Yi (L.1,(n:Int))=some (Us L.1 n,0):=by
 have a:=v.B1;have b:=v.B2;unfold Yi;rw [TP,if_neg (by omega),TM,if_neg (by omega),TP,if_neg (by omega),TL,if_neg (by omega),dg a b (by omega),Sx]
theorem cW {L:Tl} (v:VLev L) (k:Int):Wt (L,k)=some (if k<0\/k>=12 then 7 else 0):=by
 obtain ⟨c,d⟩:=v.small;unfold Wt;rw [Yo _ c d,WU v,Sx,TQ,if_pos rfl,TP,TL];by_cases a:k<0
 ·rw [if_pos a,if_pos (.inl a)]
 ·rw [if_neg a];by_cases b:k>=12
  ·rw [if_pos b,if_pos (.inr b)]
  ·rw [if_neg b,if_neg (by omega)]
theorem jr (l:List UK):S8 (l.length:Int) 2=decide (l.length<2):=by
 unfold S8;rw [decide_eq_decide];omega
theorem iB {L:Tl} (v:VLev L) {n:Nat} (d:n<=12):XR (L,(n:Int))=some (Yy L n,if n>=12 then 7 else 0):=by
 unfold XR Yy;simp only [Tp,Tn];rw [cW v,Sx,TQ];by_cases h:n>=12
 ·rw [if_pos (show (n:Int)<0\/(n:Int)>=12 by omega),if_neg (by decide),if_pos h];simp;omega
 ·rw [if_neg (show ¬ ((n:Int)<0\/(n:Int)>=12) by omega),if_pos rfl,if_neg h,TP];have a:n<12:=by omega
  by_cases c:n<L.2.length
  ·have b:L.2[n]? = some (L.2[n]'c):=by simp
   rw [if_pos (by omega),Ti,TC b,b,jr,hM];simp [a]
  ·rw [if_neg (by omega),a9 (by omega)];simp [a]
theorem kM {s:Th} (v:VLev s.1) {n:Nat} (c:n<12):Ym (s,(n:Int))=some (Yy s.1 (n+1)):=by
 unfold Ym Yy;simp only [Tp,Tn];rw [Ts (by omega),TP];by_cases h:n+1<12
 ·rw [if_pos (by omega),TL];by_cases b:n+1<s.1.2.length
  ·have a:s.1.2[n+1]? = some (s.1.2[n+1]'b):=by simp
   rw [if_neg (by omega),Ti,TC a,a,jr,hM];simp [h]
  ·rw [if_pos (by omega),a9 (by omega)];simp [h]
 ·rw [if_neg (by omega)];simp;omega
abbrev wD:=Th×(Job×Int)
theorem bM {s:Th} (v:VLev s.1) {n:Nat} {j:Job} (a:j.1=(n:Int)) (b:n<12) (l:Int):UY (s,(j,l))=some (Vn s.1 j):=by
 unfold UY Vn;simp only [Tp,Tn];rw [a,iC v b,Sx,TK,if_pos rfl,bl];rfl
theorem bw {s:Th} (v:VLev s.1) {n:Nat} {j:Job} (a:j.1=(n:Int)) (b:n<12):Wd (s,j)=some (Vn s.1 j):=by
 unfold Wd Vn;simp only [Tp,Tn];rw [a,kB v b,Sx,bl];rfl
theorem kJ {s:Th} (v:VLev s.1) {n:Nat} {j:Job} (a:j.1=(n:Int)) (b:n<12) (l:Int):Vc (s,(j,l))=some (Yy s.1 (n+1)):=by
 unfold Vc;simp only;rw [a,Ts (by omega),iB v (by omega),Sx,TK];by_cases h:n+1>=12
 ·rw [if_pos h,if_neg (show ¬ (7:Int)=0 by decide)];unfold Yy;simp;omega
 ·rw [if_neg h,if_pos rfl]
theorem cF {s:Th} (v:VLev s.1) {n:Nat} {j:Job} (a:j.1=(n:Int)) (b:n<12) (l:Nat) (d:l=UA s.1 j):Uh (s,(j,(l:Int)))=some (Vg s.1 j):=by
 have c:UL (s,(j,(l:Int)))=some (decide (0<UA s.1 j)):=by
  unfold UL S6;rw [d];simp
 have e1:=bM v a b (l:Int);have e2:=kJ v a b (l:Int);unfold Uh Vg;rw [c,e1,e2,a,bl];simp only [Sx];cases e:decide (0<UA s.1 j) with
 | true=>exact UB (x:=(0,((0,true),()))) (U0 (n:=1) (by omega) (US rfl)) rfl
 | false =>
  cases f:Vn s.1 j with
  | true=>exact UB (x:=(0,((1,true),()))) (U0 (n:=2) (by omega) ((UN (s':=(1,false)) rfl).trans (US rfl))) rfl
  | false =>
   cases g:Yy s.1 (n+1) with
   | true=>exact UB (x:=(0,((2,true),()))) (U0 (n:=3) (by omega) ((UN (s':=(1,false)) rfl).trans ((UN (s':=(2,false)) rfl).trans (US rfl)))) rfl
   | false=>exact UB (x:=(1,((3,false),()))) (U0 (n:=4) (by omega) ((UN (s':=(1,false)) rfl).trans ((UN (s':=(2,false)) rfl).trans ((UN (s':=(3,false)) rfl).trans (US rfl))))) rfl
end
section
open Go Sv
def WA {α:Type} (z:α) (f:Th->Job->α×Int) (s:Th) (a:Int):α×Int:=if (Tk s).2≠0 then (z,(Tk s).2) else match aL s a with
 | some j=>f s j
 | none=>(z,4)
def z0:wD:=(((0,[]),([],0)),((0,(([],([],([],([],0)))),((false,([],false)),([],0)))),0))
theorem cp {s:Th} (m:Sm s) (a:Int):VJ (s,a)=some (WA z0 (λs j=>((s,(j,(UA s.1 j:Int))),0)) s a):=by
 unfold VJ;rw [cK m,Sx];unfold WA aL YF;by_cases b:(Tk s).2=0;rotate_left
 ·rw [if_pos b,TQ,if_neg b,if_pos b];rfl
 rw [if_neg (show ¬ (Tk s).2≠0 by simp [b]),if_neg (show ¬ (Tk s).2≠0 by simp [b])];have v:=Tu.1 b;cases e:Zl a 0 (To 0 s.1.2) with
 | none=>rfl
 | some i =>
  obtain ⟨j,n,c,g,f,d,h⟩:=v.at e;simp only;rw [TQ,if_pos rfl,Ti,TC c,c,(JobAt.left d).1,Sx]
theorem dz {s:Th} (m:Sm s) (a:Int):WZ (s,a)=some (WA false (λs j=>(Vg s.1 j,0)) s a):=by
 unfold WZ;rw [cp m,Sx];unfold WA;by_cases b:(Tk s).2=0;rotate_left
 ·rw [if_pos b,TQ,if_neg b,if_pos b]
 rw [if_neg (show ¬ (Tk s).2≠0 by simp [b]),if_neg (show ¬ (Tk s).2≠0 by simp [b])];have v:=Tu.1 b;unfold aL;cases d:Zl a 0 (To 0 s.1.2) with
 | none=>rfl
 | some i =>
  obtain ⟨j,n,e,g,c,f,h⟩:=v.at d;have:=v.lev.len;simp only [e];rw [TQ,if_pos rfl,cF v.lev c (by omega) _ rfl,Sx]
theorem Yb {s:Th} (m:Sm s) (a:Int):VM (s,a)=some (WA 0 (λs j=>((UA s.1 j:Int),0)) s a):=by
 unfold VM;rw [ZG m,Sx];unfold WA aL YF;by_cases b:(Tk s).2=0;rotate_left
 ·rw [if_pos b,TQ,if_neg b,if_pos b]
 rw [if_neg (show ¬ (Tk s).2≠0 by simp [b]),if_neg (show ¬ (Tk s).2≠0 by simp [b])];have v:=Tu.1 b;cases e:Zl a 0 (To 0 s.1.2) with
 | none=>rfl
 | some i =>
  obtain ⟨j,n,c,g,f,d,h⟩:=v.at e;simp only [c];rw [TQ,if_pos rfl,Ti,TC c,(JobAt.left d).2.1,Sx]
theorem cY {s:Th} (m:Sm s) (a:Int):Wv (s,a)=some (WA false (λs j=>(Vg s.1 j,0)) s a):=by
 unfold Wv;rw [Yb m,Sx,ZG m,Sx];unfold WA;by_cases b:(Tk s).2=0;rotate_left
 ·rw [if_pos b,TQ,if_neg b,if_pos b]
 rw [if_neg (show ¬ (Tk s).2≠0 by simp [b]),if_neg (show ¬ (Tk s).2≠0 by simp [b])];have v:=Tu.1 b;unfold aL YF;cases f:Zl a 0 (To 0 s.1.2) with
 | none=>rfl
 | some i =>
  obtain ⟨j,n,e,g,c,h,k⟩:=v.at f;have:=v.lev.len;rw [if_neg (show ¬ (Tk s).2≠0 by simp [b])];simp only [e];rw [TQ,if_pos rfl,TM,Ti,TC e,bw v.lev c (by omega),Sx,g,kM v.lev (by omega),Sx];unfold Vg;rw [c,bl];by_cases d:0<UA s.1 j
  ·rw [if_pos (by omega)];simp [d]
  ·rw [if_neg (by omega)];cases Vn s.1 j<;>simp [d,Sc,R7]
def Z1 (s:Th) (j:Job):Int×Int:=if 0<UA s.1 j then (0,9) else if Vn s.1 j=true then (j.1,0) else (j.1+1,0)
theorem tW {s:Th} (m:Sm s) (a:Int):YR (s,a)=some (WA 0 Z1 s a):=by
 unfold YR;rw [cp m,Sx];unfold WA;by_cases b:(Tk s).2=0;rotate_left
 ·rw [if_pos b,TQ,if_neg b,if_pos b]
 rw [if_neg (show ¬ (Tk s).2≠0 by simp [b]),if_neg (show ¬ (Tk s).2≠0 by simp [b])];have v:=Tu.1 b;unfold aL;cases f:Zl a 0 (To 0 s.1.2) with
 | none=>rfl
 | some i =>
  obtain ⟨j,n,g,h,c,k,l⟩:=v.at f;have:=v.lev.len;simp only [g];unfold UL Z1;rw [TQ,if_pos rfl,Sx,TM,bM v.lev c (by omega),Sx,h,Ts (by omega),c];by_cases e:0<UA s.1 j
  ·rw [if_pos (show ((UA s.1 j:Int))>0 by omega),if_pos e]
  ·rw [if_neg (show ¬ ((UA s.1 j:Int))>0 by omega),if_neg e,TV];by_cases d:Vn s.1 j=true
   ·rw [if_pos d,if_pos d]
   ·rw [if_neg d,if_neg d];rfl
theorem eX {s:Th} (m:Sm s) (a:Int):X7 (s,a)=some (WA 0 Z1 s a):=by
 unfold X7;rw [Yb m,Sx,ZG m];unfold WA;by_cases b:(Tk s).2=0;rotate_left
 ·rw [if_pos b,TK,if_neg b,TQ,if_neg b,if_pos b]
 rw [if_neg (show ¬ (Tk s).2≠0 by simp [b]),if_neg (show ¬ (Tk s).2≠0 by simp [b])];have v:=Tu.1 b;unfold aL YF;cases g:Zl a 0 (To 0 s.1.2) with
 | none=>rfl
 | some i =>
  obtain ⟨j,n,f,h,c,k,l⟩:=v.at g;have:=v.lev.len;rw [if_neg (show ¬ (Tk s).2≠0 by simp [b])];simp only [f];unfold Z1;rw [TK,if_pos rfl,TM];by_cases e:0<UA s.1 j
  ·rw [if_pos (show ((UA s.1 j:Int))>0 by omega),if_pos e]
  ·rw [if_neg (show ¬ ((UA s.1 j:Int))>0 by omega),if_neg e,TQ,if_pos rfl,Sx,Ti,TC f,bw v.lev c (by omega),Sx,TV,h,Ts (by omega),c];by_cases d:Vn s.1 j=true
   ·rw [if_pos d,if_pos d]
   ·rw [if_neg d,if_neg d];rfl
theorem gR {s:Th} (m:Sm s):Vo s=some (if (Tk s).2≠0 then ([],(Tk s).2) else (To 0 s.1.2,0)):=by
 unfold Vo;simp only [Tp,Tn];rw [tX m,Sx,TQ];by_cases a:(Tk s).2=0;rotate_left
 ·rw [if_neg a,if_pos a]
 rw [if_pos a,if_neg (show ¬ (Tk s).2≠0 by simp [a])];have e:=(Tu.1 a).lev.len
 rw [Un (l:=s.1.2) (σ:=List Int) (s:=((0:Int),([]:List Int))) (λi m=>((i:Int),m)) (λls i m=>m++To i ls=To 0 s.1.2) (λ_ _ _=>(0,(((s.1.2.length:Int),To 0 s.1.2),()))) [] rfl (by omega) rfl (λm h=>by
  simp only;rw [re,R7,<- h];simp [To]) (λi rs ls m hd c hi h=>by
   refine ⟨m++(if rs.length=2 then [(i:Int)] else []),?_,?_,rfl⟩
   ·simp only;rw [rl hi,Sc,Ti,TC c,TK]
    have f:m.length<=1000:=by
     have b:=congrArg nb h;have d:=VQ s.1.2 0;rw [hV] at b;omega
    by_cases b:rs.length=2
    ·rw [if_pos (by omega),if_pos b,UP (by simp only [BF,ci,cP];omega),Tv c (by omega)];rfl
    ·rw [if_neg (by omega),if_neg b,gs,Tv c (by omega)]
   ·rw [eb];exact h),Sx]
def VH (s:Th):List Int->Option Int
 | []=>none
 | d::l=>if (WA false (λs j=>(Vg s.1 j,0)) s d).1=true then some d else VH s l
def Ur (s:Th):Int×Int:=if (Tk s).2≠0 then (0,(Tk s).2) else if To 0 s.1.2=[] then (0,4) else match VH s (To 0 s.1.2) with
 | some d=>(d,0)
 | none=>(0,9)
theorem VSt.atDue {s:Th} (v:VSt s) {d:Int} (h:d∈To 0 s.1.2) : ∃ (j:Job) (n:Nat),aL s d=some j/\d=(n:Int)/\j.1=(n:Int)/\JobAt s.1 n j/\n<s.1.2.length:=by
 obtain ⟨i,b⟩:=cM (k:=0) h;obtain ⟨j,n,e,f,a,c,g⟩:=v.at b;exact ⟨j,n,by unfold aL;rw [b];exact e,f,a,c,g⟩
theorem pD {s:Th} (m:Sm s):U7 s=some (Ur s):=by
 unfold U7 Ur;rw [gR m,Sx];by_cases a:(Tk s).2=0;rotate_left
 ·rw [if_pos a,TQ,if_neg a,if_pos a]
 rw [if_neg (show ¬ (Tk s).2≠0 by simp [a]),if_neg (show ¬ (Tk s).2≠0 by simp [a]),TQ,if_pos rfl];have v:=Tu.1 a;have z:(To 0 s.1.2).length<=12:=by have:=VQ s.1.2 0;have:=v.lev.len;omega
 simp only [Tp,Tn];rw [TK];by_cases b:To 0 s.1.2=[]
 ·rw [if_pos (by rw [b];rfl),if_pos b]
 rw [if_neg (by have:=ed.2 b;omega),if_neg b];obtain ⟨T,q⟩ : ∃ T,T=VH s (To 0 s.1.2):=⟨_,rfl⟩;rw [<- q]
 obtain ⟨r,C,u⟩:=Wp (l:=To 0 s.1.2) (σ:=Unit) (s:=((0:Int),(false,((0:Int),(0:Int))))) (λk _=>((0:Int),(false,((k:Int),(0:Int))))) (λl k _=>VH s l=T) (λ(r:Nat×((Int×(Bool×(Int×Int)))×Unit))=>r.1=1/\((T=none/\r.2.1.2.1=false)\/(∃ d,T=some d/\r.2.1.2.1=true/\r.2.1.2.2.2=d)))
  (f:=λs1=>br (S8 s1.2.2.1 ((To 0 s.1.2).length:Int)) (λ_=>R1 s1.2.2.1 λB=>ix (To 0 s.1.2) B λw=>bd (VJ (s,w)) λp=>br (Ry p.2 0) (λ_=>some (.dn ((0,((p.2,(s1.2.1,(s1.2.2.1,0))),()))))) λ_=>bd (Uh p.1) λE=>br E (λ_=>some (.dn ((1,((s1.1,(true,(s1.2.2.1,w))),()))))) λ_=>some (.nx ((s1.1,(s1.2.1,(SF .i64 s1.2.2.1 1,s1.2.2.2)))))) λ_=>some (.dn ((1,(s1,())))))
  () rfl (by omega) q.symm (λ_ h=>⟨_,by simp only;rw [re];rfl,rfl,.inl ⟨by rw [<- h];rfl,rfl⟩⟩) (λk d l _ hd i A h=>by
   simp only;obtain ⟨j,n,t,G,g,F,b⟩:=v.atDue (bo i);have:=v.lev.len;unfold VH at h;have x:WA false (λs j=>(Vg s.1 j,0)) s d=(Vg s.1 j,0):=by unfold WA;rw [if_neg (show ¬ (Tk s).2≠0 by simp [a]),t]
   have y:WA z0 (λs j=>((s,(j,(UA s.1 j:Int))),0)) s d=((s,(j,(UA s.1 j:Int))),0):=by unfold WA;rw [if_neg (show ¬ (Tk s).2≠0 by simp [a]),t]
   rw [x] at h;rw [rl A,Sc,Ti,TC i,cp m,y,Sx,TQ,if_pos rfl,cF v.lev g (by omega) _ rfl,Sx,TV];by_cases e:Vg s.1 j=true
   ·rw [if_pos e];rw [if_pos e] at h;exact .inr ⟨_,rfl,rfl,.inr ⟨d,h.symm,rfl,rfl⟩⟩
   ·rw [if_neg e];rw [if_neg e] at h
    exact .inl ⟨(),by rw [Tv i (by omega)],h⟩)
 refine UB C ?_;obtain ⟨u,c⟩:=u;rw [Sy,if_neg (show ¬ r.1=0 by omega),UT,TV];rcases c with ⟨c,o⟩ | ⟨d,c,o,D⟩
 ·rw [if_neg (by simp [o]),c]
 ·rw [if_pos o,c,D]
theorem iE {s:Th} (m:Sm s):Yk s=some (Ur s):=by
 unfold Yk Ur;rw [da m,Sx];by_cases a:(Tk s).2=0;rotate_left
 ·rw [if_pos a,TQ,if_neg a,if_pos a]
 rw [if_neg (show ¬ (Tk s).2≠0 by simp [a]),if_neg (show ¬ (Tk s).2≠0 by simp [a]),TQ,if_pos rfl];have v:=Tu.1 a;have o:(To 0 s.1.2).length<=12:=by have:=VQ s.1.2 0;have:=v.lev.len;omega
 simp only [Tp,Tn];rw [TK];by_cases b:To 0 s.1.2=[]
 ·rw [if_pos (by rw [b];rfl),if_pos b]
 rw [if_neg (by have:=ed.2 b;omega),if_neg b];obtain ⟨T,n⟩ : ∃ T,T=VH s (To 0 s.1.2):=⟨_,rfl⟩;rw [<- n]
 obtain ⟨r,u,c⟩:=Wp (l:=To 0 s.1.2) (σ:=Unit) (s:=((0:Int),((0:Int),(0:Int)))) (λk _=>((0:Int),((0:Int),(k:Int)))) (λl k _=>VH s l=T) (λ(r:Nat×((Int×(Int×Int))×Unit))=>(r.1=1/\T=none)\/(r.1=0 /\ ∃ d,T=some d/\r.2.1.2.1=d/\r.2.1.1=0))
  (f:=λs1=>br (S8 s1.2.2 ((To 0 s.1.2).length:Int)) (λ_=>R1 s1.2.2 λq=>ix (To 0 s.1.2) q λz=>bd (Wv (s,z)) λy=>br y.1 (λ_=>R1 s1.2.2 λt=>ix (To 0 s.1.2) t λA=>some (.dn ((0,((0,(A,s1.2.2)),()))))) λ_=>some (.nx ((s1.1,(s1.2.1,SF .i64 s1.2.2 1))))) λ_=>some (.dn ((1,(s1,())))))
  () rfl (by omega) n.symm (λ_ h=>⟨_,by simp only;rw [re];rfl,.inl ⟨rfl,by rw [<- h];rfl⟩⟩) (λk d l _ hd g p h=>by
   simp only;unfold VH at h;rw [rl p,Sc,Ti,TC g,cY m,Sx,TV,Ti,TC g];by_cases e:(WA false (λs j=>(Vg s.1 j,0)) s d).1=true
   ·rw [if_pos e];rw [if_pos e] at h;exact .inr ⟨_,rfl,.inr ⟨rfl,d,h.symm,rfl,rfl⟩⟩
   ·rw [if_neg e];rw [if_neg e] at h
    exact .inl ⟨(),by rw [Tv g (by omega)],h⟩)
 refine UB u ?_;rw [Sy];rcases c with ⟨c,i⟩ | ⟨c,d,i,w,x⟩
 ·rw [if_neg (show ¬ r.1=0 by omega),i]
 ·rw [if_pos c,i,w,x]
end
section
open Go Sv
theorem pN {β:Type} (k:Unit->Option β):gd true k=k ():=rfl
def Tq (l:List (List UK)) (i:Nat):List UK:=(l[i]?).getD []
def Ye (l:List (List UK)):Nat->Nat
 | 0=>0
 | k+1=>if Tq l k=[] then Ye l k else k+1
def Ya (l:List (List UK)) (n:Nat):List (List UK):=l++yw (n+1-l.length) []
def Wr (l:List (List UK)) (n:Nat) (r:List UK):List (List UK):=(Ya l n).set n r
def YA (l:List (List UK)):List (List UK):=l.take (Ye l l.length)
def Ut (L:Tl) (n:Nat) (r:List UK):Tl:=(L.1,YA (Wr L.2 n r))
theorem cJ (l:List (List UK)) : ∀ k,Ye l k<=k
 | 0=>dc _
 | k+1=>by
  unfold Ye;split
  ·exact Nat.le_succ_of_le (cJ l k)
  ·exact dc _
theorem aj (l:List (List UK)) : ∀ {k i:Nat},Ye l k<=i->i<k->Tq l i=[]
 | 0,_,_,h=>by omega
 | k+1,i,h1,h2=>by
  unfold Ye at h1;split at h1
  ·rename_i a;by_cases hi:i=k
   ·rw [hi];exact a
   ·exact aj l h1 (by omega)
  ·omega
theorem bW (l:List (List UK)) : ∀ {k m:Nat},Ye l k=m+1->Tq l m≠[]
 | 0,m,h=>by cases h
 | k+1,m,h=>by
  unfold Ye at h;split at h
  ·exact bW l h
  ·rename_i a;have:m=k:=by omega
   rw [this];exact a
theorem bq (l:List (List UK)) (i:Nat):Tq (YA l) i=Tq l i:=by
 unfold YA;by_cases h:i<Ye l l.length
 ·unfold Tq;rw [pg,if_pos h]
 ·have a:Tq (l.take (Ye l l.length)) i=[]:=by
   unfold Tq;rw [pg,if_neg h];rfl
  rw [a];by_cases b:i<l.length
  ·exact (aj l (by omega) b).symm
  ·unfold Tq;rw [a9 (by omega)];rfl
theorem gC (l:List (List UK)):(YA l).getLast? ≠ some []:=by
 have b:(YA l).length=Ye l l.length:=by
  have:=cJ l l.length;unfold YA;rw [vL];omega
 cases hd:Ye l l.length with
 | zero =>
  have:YA l=[]:=List.length_eq_zero_iff.1 (by rw [b,hd]);rw [this];simp
 | succ m =>
  have c:=bW l hd;rw [o3,b,hd];intro d;have a:Tq (YA l) m=[]:=by unfold Tq;rw [show m=m+1-1 by omega,d];rfl
  rw [bq] at a;exact c a
theorem ZF (l:List (List UK)) (n:Nat):(Ya l n).length=max l.length (n+1):=by
 unfold Ya;simp;omega
theorem dR (l:List (List UK)) (n i:Nat):Tq (Ya l n) i=Tq l i:=by
 unfold Tq Ya;by_cases h:i<l.length
 ·rw [List.getElem?_append_left h]
 ·rw [List.getElem?_append_right (by omega),List.getElem?_replicate,a9 (l:=l) (by omega)];split<;>rfl
theorem dV (l:List (List UK)) (n i:Nat) (r:List UK):Tq (Wr l n r) i=if i=n then r else Tq l i:=by
 unfold Wr;by_cases h:i=n
 ·rw [if_pos h,h];have:=ZF l n;unfold Tq;rw [List.getElem?_set_self (by omega)];rfl
 ·rw [if_neg h];unfold Tq;rw [List.getElem?_set_ne (λe=>h e.symm)];exact dR l n i
theorem Wx (L:Tl) (n i:Nat) (r:List UK):Tq (Ut L n r).2 i=if i=n then r else Tq L.2 i:=by
 show Tq (YA _) i=_;rw [bq,dV]
theorem gD (L:Tl) (n:Nat) (r:List UK):(Ut L n r).2.getLast? ≠ some []:=gC _
theorem jM (L:Tl) (n:Nat) (r:List UK):(Ut L n r).2.length<=max L.2.length (n+1):=by
 show (YA _).length<=_;unfold YA;rw [vL];have:(Wr L.2 n r).length=max L.2.length (n+1):=by unfold Wr;rw [yn,ZF]
 omega
theorem gr (l:List (List UK)):(YA l).flatten=l.flatten:=by
 have h:l=YA l++l.drop (Ye l l.length):=(s9 _ _).symm
 have a:(l.drop (Ye l l.length)).flatten=[]:=by
  rw [xm];intro x c;obtain ⟨i,hi⟩:=ee c;rw [List.getElem?_drop] at hi;have b:=(a8.1 hi).1;have:=aj l (k:=l.length) (i:=Ye l l.length+i) (by omega) b;unfold Tq at this;rw [hi] at this;exact this
 conv=>rhs;rw [h,nn,a,gs]
theorem jg (l:List (List UK)) (n:Nat):(Ya l n).flatten=l.flatten:=by
 unfold Ya;rw [nn]
 have:(yw (n+1-l.length) ([]:List UK)).flatten=[]:=by
  rw [xm];intro x a;exact (List.mem_replicate.1 a).2
 rw [this,gs]
theorem Xz (L:Tl) (n:Nat) (r:List UK) : ∃ p q,L.2.flatten=p++(Tq L.2 n++q)/\(Ut L n r).2.flatten=p++(r++q):=by
 have a:n<(Ya L.2 n).length:=by rw [ZF];omega
 refine ⟨((Ya L.2 n).take n).flatten,((Ya L.2 n).drop (n+1)).flatten,?_,?_⟩
 ·rw [<- dR L.2 n n,<- jg L.2 n]
  have:Ya L.2 n=(Ya L.2 n).take n++((Ya L.2 n)[n]::(Ya L.2 n).drop (n+1)):=by
   rw [<- sk a,s9]
  have b:Tq (Ya L.2 n) n=(Ya L.2 n)[n]:=by unfold Tq;rw [co a];rfl
  rw [b]
  conv=>lhs;rw [this]
  rw [nn,kd]
 ·show (YA (Wr L.2 n r)).flatten=_;rw [gr];unfold Wr;rw [List.set_eq_take_append_cons_drop,if_pos a,nn,kd]
theorem VLev.own {L:Tl} (v:VLev L) (i:Nat):(Tq L.2 i).length<=2 /\ ∀ r∈Tq L.2 i,VR (Us L.1 i) r:=by
 unfold Tq;cases h:L.2[i]? with
 | none=>exact ⟨by simp,λr a=>by cases a⟩
 | some rs=>exact v.lev i rs h
theorem VLev.with' {L:Tl} (v:VLev L) {n:Nat} (f:n<12) {r:List UK} (d:r.length<=2) (e : ∀ x∈r,VR (Us L.1 n) x) (b:((Ut L n r).2.flatten.map qU).Nodup):VLev (Ut L n r):=by
 refine ⟨v.B1,v.B2,?_,λi rs hi => ?_,b,gD L n r⟩
 ·have:=jM L n r;have:=v.len;omega
 ·have a:=Wx L n i r;unfold Tq at a;rw [hi] at a;simp only [hM] at a;rw [a];split
  ·rename_i c;rw [c];exact ⟨d,e⟩
  ·exact v.own i
theorem VLev.leave {L:Tl} (v:VLev L) {n:Nat} (c:n<12):VLev (Ut L n []):=by
 refine v.with' c (by simp) (λ_ h=>by cases h) ?_
 obtain ⟨p,q,a,b⟩:=Xz L n [];have:=v.ids;rw [a] at this;rw [b,oj];refine tb.nodup (tb.map _ ?_) this;exact tb.append (tb.refl _) (List.sublist_append_right _ _)
theorem VLev.arrive {L:Tl} (v:VLev L) {n:Nat} (g:n<12) {x:UK} (j:(Tq L.2 n).length<2) (i:VR (Us L.1 n) x) (b : ∀ y∈L.2.flatten,y.1≠x.1):VLev (Ut L n (Tq L.2 n++[x])):=by
 refine v.with' g (by simp;omega) (λy hy => ?_) ?_
 ·rcases nP.1 hy with hy | hy
  ·exact (v.own n).2 y hy
  ·rw [tT.1 hy];exact i
 ·obtain ⟨p,q,c,d⟩:=Xz L n (Tq L.2 n++[x])
  have h:(Ut L n (Tq L.2 n++[x])).2.flatten.Perm (x::L.2.flatten):=by
   rw [c,d,eb];refine List.Perm.trans ?_ (List.perm_middle (l₁:=p++Tq L.2 n) (l₂:=q) (a:=x) |>.trans (by rw [eb]));rw [eb];exact List.Perm.refl _
  refine (h.map qU).nodup_iff.2 (ol.2 ⟨λf => ?_,v.ids⟩);obtain ⟨y,hy,e⟩:=oy.1 f;exact b y hy e
theorem ax {l:List (List UK)} {x:UK}:x∈l.flatten <-> ∃ i,x∈Tq l i:=by
 rw [l5];constructor
 ·rintro ⟨rs,a,b⟩;obtain ⟨i,hi⟩:=ee a;exact ⟨i,by unfold Tq;rw [hi];exact b⟩
 ·rintro ⟨i,h⟩;unfold Tq at h;cases hi:l[i]? with
  | none=>rw [hi] at h;cases h
  | some rs=>rw [hi] at h;exact ⟨rs,bo hi,h⟩
theorem Zq {l:List (List UK)} {x:UK} (h:x∈l.flatten):x.1<=WT l:=by
 have d : ∀ (rs:List UK) (m:Int),m<=rs.foldl (λm r=>TY m r.1) m /\ ∀ x∈rs,x.1<=rs.foldl (λm r=>TY m r.1) m:=by
  intro rs
  induction rs with
  | nil=>intro m;exact ⟨by simp,λx hx=>by cases hx⟩
  | cons r rs c =>
   intro m;obtain ⟨b,a⟩:=c (TY m r.1);rw [XH] at b a;simp only [hI,XH] at b a ⊢;refine ⟨by omega,λx hx => ?_⟩;rcases ey.1 hx with e | hx
   ·rw [e];omega
   ·exact a x hx
 have two : ∀ (ls:List (List UK)) (m:Int),m<=ls.foldl (λm rs=>rs.foldl (λm r=>TY m r.1) m) m /\ ∀ rs∈ls,∀ x∈rs,x.1<=ls.foldl (λm rs=>rs.foldl (λm r=>TY m r.1) m) m:=by
  intro ls
  induction ls with
  | nil=>intro m;exact ⟨by simp,λx hx=>by cases hx⟩
  | cons rs ls c =>
   intro m;obtain ⟨b,a⟩:=c (rs.foldl (λm r=>TY m r.1) m);obtain ⟨i,g⟩:=d rs m;simp only [hI];refine ⟨by omega,λf hrs x hx => ?_⟩;rcases ey.1 hrs with e | hrs
   ·subst e;have:=g x hx;omega
   ·exact a f hrs x hx
 obtain ⟨rs,b,a⟩:=l5.1 h;exact (two l 0).2 rs b x a
end
section
open Go Sv
theorem bX {M:List (List UK)} {f:Int->Option (LR Int (Nat×(Int×Unit)))} (a:f 0=some (.dn (0,(0,())))) (hs : ∀ k,k<M.length->f ((k+1:Nat):Int)=if Tq M k=[] then some (.nx (k:Int)) else some (.dn (0,(((k+1:Nat):Int),())))) : ∀ k,k<=M.length->IL (k+1) f (k:Int)=some (0,((Ye M k:Nat):Int),())
 | 0,_=>US a
 | k+1,hk=>by
  have h:=hs k (by omega);unfold Ye;by_cases b:Tq M k=[]
  ·rw [if_pos b] at h ⊢;rw [UN h];exact bX a hs k (by omega)
  ·rw [if_neg b] at h ⊢;exact US h
theorem ss (L:List (List UK)) (n:Nat):LC (Rd (max L.length (n+1)) ([]:List UK)) 0 L (AS (Rd (max L.length (n+1)) ([]:List UK)))=Ya L n:=by
 have a:AS (Rd (max L.length (n+1)) ([]:List UK))=max L.length (n+1):=by unfold AS Rd;simp
 rw [a];unfold LC Ya Rd;rw [List.take_of_length_le (by omega:L.length<=max L.length (n+1))];simp only [List.take_zero,oj,List.drop_replicate,eg]
 congr 2
 omega
theorem jq (l:List (List UK)) (n:Nat) (r:List UK):lset (Ya l n) n r=Wr l n r:=rfl
theorem WE {l:List (List UK)} {i:Nat} (h:i<l.length):l[i]? = some (Tq l i):=by
 unfold Tq;rw [co h];rfl
theorem cR {β:Type} (l:List UK) (x y:Unit->Option β):br (Oa (l.length:Int) 0) x y=if l=[] then x () else y ():=by
 rw [TK];by_cases h:l=[]
 ·rw [if_pos h,if_pos (by rw [h];rfl)]
 ·rw [if_neg h,if_neg (by have:=ed.2 h;omega)]
theorem aE {L:Tl} (h:L.2.length<=1000) {n:Nat} (i:n<1000) (r:List UK):V2 (L,((n:Int),r))=some (Ut L n r):=by
 have b:TY (Ki (AS L.2)) (SF .i64 (n:Int) 1)=((max L.2.length (n+1):Nat):Int):=by
  rw [Ts (by omega),XH,Tp,Tn];omega
 unfold V2;simp only [b,Ti,ss,jq];have d:(Ya L.2 n).length=max L.2.length (n+1):=ZF _ _;have j:(Wr L.2 n r).length=max L.2.length (n+1):=by unfold Wr;rw [yn,d]
 rw [UP (by omega),S3,if_pos (by rw [Tn,d];omega),TC (WE (by omega))]
 have c:=bX (M:=Wr L.2 n r) (f:=λa=>br (S6 a 0) (λ_=>R1 (SK .i64 a 1) λe=>gd (KJ e (AS (Wr L.2 n r))) λ_=>ix (Wr L.2 n r) e λg=>br (Oa (Ki (AS g)) 0) (λ_=>some (.nx (SK .i64 a 1))) λ_=>some (.dn ((0,(a,()))))) λ_=>some (.dn ((0,(a,()))))) rfl (λk b=>by
  have hi:SK .i64 ((k+1:Nat):Int) 1=(k:Int):=by rw [Sj (by omega)];omega
  simp only [hi,Ti];rw [TM,if_pos (by omega),S3,if_pos (by rw [Tn];omega),TC (WE b)]
  exact cR _ _ _) _ (dc _)
 rw [Tp,show AS (Wr L.2 n r)=(Wr L.2 n r).length from rfl];refine UB (U0 (by omega) c) ?_;have hd:=cJ (Wr L.2 n r) (Wr L.2 n r).length;simp only [Ti];rw [UP hd,S2,if_pos (by omega),Sz,if_pos (by omega),S2,if_pos (by unfold BF Pa;omega)];unfold Ut YA D0 BF Pa;simp
end
section
open Go Sv
def cQ (d:Int) (j:Job):Bool:=Oa d j.1
def Uk (js:List Job) (d:Int):Option Job:=js.find? (cQ d)
def Zr (js:List Job):List (Int×Job):=js.map λj=>(j.1,j)
def zJ:Job:=(0,(([],([],([],([],0)))),((false,([],false)),([],0))))
def WW (L:Tl) (d:Int):Job:=match Tq L.2 d.toNat with
 | [r0,r1]=>(d,Va r1.2 r0.2 (decide (d=(L.2.length:Int)-1)) 0)
 | _=>zJ
def We (s:Th) (L:Tl) (a d:Int):Job:=(if d=a then none else Uk s.2.1 d).getD (WW L d)
def ZJ (s:Th) (L:Tl) (next a:Int):Th:=(L,((To 0 L.2).map (We s L a),next))
theorem bn (d:Int) : ∀ js:List Job,MU (λa b=>Oa a b) (Zr js) d=Uk js d
 | []=>rfl
 | j::js=>by
  show (bif Oa d j.1 then some j else MU (λa b=>Oa a b) (Zr js) d)=(j::js).find? (cQ d)
  rw [iP,bn d js];show _=match Oa d j.1 with | true=>some j | false=>Uk js d
  cases Oa d j.1<;>rfl
theorem bp {j:Job} : ∀ {js:List Job},j.1 ∉ js.map (·.1)->IT (λa b=>Oa a b) (Zr js) j.1 j=Zr (js++[j])
 | [],_=>rfl
 | i::js,h=>by
  show (bif Oa j.1 i.1 then (j.1,j)::Zr js else (i.1,i)::IT (λa b=>Oa a b) (Zr js) j.1 j)=(i.1,i)::Zr (js++[j])
  have d:Oa j.1 i.1=false:=by rw [Vt];simp;intro e;exact h (by simp [e])
  rw [d,cond_false,bp (λc=>h (by simp at c ⊢;exact .inr c))]
theorem Yn {js:List Job} {d:Int} (h:d ∉ js.map (·.1)):Uk js d=none:=by
 unfold Uk;rw [List.find?_eq_none];intro j a;unfold cQ;rw [Vt];simp only [decide_eq_true_eq];intro e;exact h (by rw [e];exact l6 a)
theorem bm {x d:Int} : ∀ {js:List Job},(js.map (·.1)).Nodup->MU (λa b=>Oa a b) (IS (λa b=>Oa a b) (Zr js) x) d=if d=x then none else Uk js d
 | [],_=>by split<;>rfl
 | j::js,h=>by
  rw [ll,ol] at h;show MU (λa b=>Oa a b) (bif Oa x j.1 then Zr js else (j.1,j)::IS (λa b=>Oa a b) (Zr js) x) d=_
  have f:Uk (j::js) d=if d=j.1 then some j else Uk js d:=by
   unfold Uk;rw [iP];unfold cQ;rw [Vt];by_cases e:d=j.1<;>simp [e]
  rw [Vt,f];by_cases c:x=j.1
  ·rw [show decide (x=j.1)=true by simp [c],cond_true,bn];by_cases hd:d=x
   ·rw [if_pos hd];exact Yn (by rw [hd,c];exact h.1)
   ·rw [if_neg hd,if_neg (by rw [<- c];exact hd)]
  ·rw [show decide (x=j.1)=false by simp [c],cond_false];show (bif Oa d j.1 then some j else MU (λa b=>Oa a b) (IS (λa b=>Oa a b) (Zr js) x) d)=_
   rw [bm h.2,Vt];by_cases hd:d=j.1
   ·rw [show decide (d=j.1)=true by simp [hd],cond_true,if_pos hd,if_neg (by rw [hd];exact λe=>c e.symm)]
   ·rw [show decide (d=j.1)=false by simp [hd],cond_false,if_neg hd]
theorem VR.vl' {L:Tl} (v:VLev L) {n:Nat} {r:UK} (h:r∈Tq L.2 n):VL r.2:=((v.own n).2 r h).vl
theorem iA (L:Tl) (a:L.2.length<=1000) (n:Nat):Vi (L,(n:Int))=some (decide ((n:Int)=(L.2.length:Int)-1)):=by
 unfold Vi;simp only [Tp,Tn];rw [Sj (by omega),Vt]
theorem jY {L:Tl} (v:VLev L) {n:Nat} (h:(Tq L.2 n).length=2):Xl (L,(n:Int))=some (WW L n,0):=by
 have d:n<L.2.length:=by
  by_cases e:n<L.2.length
  ·exact e
  ·unfold Tq at h;rw [a9 (by omega)] at h;cases h
 have i:=v.len;obtain ⟨f,g⟩:=v.small;unfold Xl;simp only [Tp,Tn];rw [Yo _ f g,WU v,Sx,TQ,if_pos rfl,TP,if_neg (by omega),TL,if_neg (by omega),TL,if_neg (by omega),Ti,TC (WE d),TP,if_neg (by omega),iA L (by omega) n,Sx]
 obtain ⟨b,c,a⟩ : ∃ b c,Tq L.2 n=[b,c]:=by
  match hq:Tq L.2 n with
  | [b,c]=>exact ⟨b,c,rfl⟩
  | []=>rw [hq] at h;cases h
  | [_]=>rw [hq] at h;cases h
  | _::_::_::_=>rw [hq] at h;simp at h
 rw [cu _ (by rw [WE d,a]) (VR.vl' v (n:=n) (by rw [a];simp)) (VR.vl' v (n:=n) (by rw [a];simp)),Sx];unfold WW;rw [bl,a]
theorem XL (i:Nat) (rs:List UK) (ls:List (List UK)):To i (rs::ls)=(if rs.length=2 then [(i:Int)] else [])++To (i+1) ls:=rfl
theorem aO {s:Th} (f:(s.2.1.map (·.1)).Nodup) (r:s.2.1.length<=1000) {L:Tl} (v:VLev L) (next a:Int):UO (s,(L,(next,a)))=some (ZJ s L next a,0):=by
 have t:=v.len;unfold UO;simp only [Tp,Tn]
 rw [Un (l:=s.2.1) (σ:=List (Int×Job)) (s:=((0:Int),([]:List (Int×Job)))) (λi m=>((i:Int),m)) (λls i m => ∃ p,s.2.1=p++ls/\m=Zr p) (λ_ _ _=>(0,(((s.2.1.length:Int),Zr s.2.1),()))) [] rfl (by omega) ⟨[],rfl,rfl⟩ (λm h=>by
  obtain ⟨p,d,rfl⟩:=h
  simp only;rw [re,R7,d,gs]) (λi x ls m hd b hi h=>by
   obtain ⟨p,d,rfl⟩:=h;refine ⟨Zr (p++[x]),?_,⟨p++[x],by rw [d];simp,rfl⟩,rfl⟩;simp only;rw [rl hi,Sc,Ti,TC b,Tv b (by omega),bp];intro g;rw [d,sw,rz] at f
   exact f.2.2 _ g x.1 (by simp) rfl),Sx]
 simp only
 rw [Un (l:=L.2) (σ:=List Job) (s:=((0:Int),((0:Int),(((0:Int),(([]:List (List UK)),(([]:List Job),(0:Int)))),(L.1,(L.2,(([]:List Job),next))))))) (λi js=>((0:Int),((i:Int),(((0:Int),(([]:List (List UK)),(([]:List Job),(0:Int)))),(L.1,(L.2,(js,next))))))) (λls i js=>js++(To i ls).map (We s L a)=(To 0 L.2).map (We s L a)) (λ_ _ _=>(0,(((0:Int),((L.2.length:Int),(((0:Int),(([]:List (List UK)),(([]:List Job),(0:Int)))),(L.1,(L.2,((To 0 L.2).map (We s L a),next)))))),()))) [] rfl (by omega) rfl (λm h=>by
  simp only;rw [re,R7,<- h];simp [To]) (λi rs ls m hd b hi h=>by
   have k:Tq L.2 i=rs:=by unfold Tq;rw [b];rfl
   have o:=(v.own i).1;rw [k] at o;refine ⟨m++(if rs.length=2 then [We s L a i] else []),?_,?_,rfl⟩
   ·simp only;rw [rl hi,Sc,Ti,TC b,TP]
    have g:m.length<=1000:=by
     have c:=congrArg nb h;have q:=VQ L.2 0;rw [hV,s8,s8] at c;omega
    by_cases c:rs.length=2;rotate_left
    ·rw [if_pos (by omega),if_neg c,gs,Tv b (by omega)]
    rw [if_neg (by omega),if_pos c,bm f];have e:We s L a i=(if (i:Int)=a then none else Uk s.2.1 i).getD (WW L i):=rfl
    cases n:(if (i:Int)=a then none else Uk s.2.1 (i:Int)) with
    | none =>
     rw [n,Option.getD_none] at e;rw [e,jY v (by rw [k];exact c),UT,TV,if_neg (show ¬ Tb (none:Option Job)=true by simp [Tb]),Sx];simp only;rw [TQ,if_pos rfl,UP (by simp only [BF,ci,cP];omega),Tv b (by omega)];rfl
    | some j =>
     rw [n,hM] at e;rw [e,UT,TV,if_pos (show Tb (some j)=true from rfl),UP (by simp only [BF,ci,cP];omega),Tv b (by omega)];rfl
   ·rw [eb,<- h,XL,sw]
    congr 2
    split<;>rfl),Sx]
 rfl
end
section
open Go Sv
def pS (s:Ul):Option Xb:=if s.1=true then some s.2.1 else none
theorem Asc.weak : ∀ {l:List Tj} {p c:Option Xb},(∀ a,c=some a -> ∃ q,p=some q/\SV q a=false)->Asc p l->Asc c l
 | [],_,_,_,_=>trivial
 | x::l,p,c,h,⟨g,i⟩=>⟨λa b=>by
  obtain ⟨q,e,j⟩:=h a b;have d:=g q e;by_cases f:a=q
  ·rw [f];exact d
  ·exact WV (Zj j (λe=>f e.symm)) d,i⟩
theorem cz : ∀ (l:List Tj) (s:Ul),Z3 s l->Asc (pS s) (WF s l)
 | [],_,_=>trivial
 | x::l,s,⟨_,g,h⟩=>by
  have i:=cz l _ h;have f:Asc (some x.1) (WF (true,(x.1,s.2.2)) l):=i;unfold WF;by_cases c:keep s x=true
  ·rw [if_pos c];refine ⟨λq d => ?_,f⟩;unfold pS at d;by_cases b:s.1=true
   ·rw [if_pos b] at d;cases d;refine Zj (g b) λe => ?_;unfold keep at c;rw [b,e] at c;simp at c
   ·rw [if_neg b] at d;cases d
  ·rw [if_neg c,oj];refine f.weak λj a=>⟨x.1,rfl,?_⟩;unfold pS at a;by_cases b:s.1=true
   ·rw [if_pos b] at a;cases a;exact g b
   ·rw [if_neg b] at a;cases a
theorem dB : ∀ {l:List Tj} {s:Ul} {x:Tj},x∈WF s l->x∈l
 | y::l,s,x,h=>by
  unfold WF at h;rcases nP.1 h with h | h
  ·split at h
   ·rw [tT.1 h];simp
   ·cases h
  ·exact List.mem_cons_of_mem _ (dB h)
theorem gT : ∀ {l:List Tj} {s:Ul},Z3 s l -> ∀ x∈l,kE x=0
 | y::l,s,⟨a,_,b⟩,x,h=>by
  rcases ey.1 h with e | h
  ·rw [e];exact a
  ·exact gT b x h
theorem eV {a b:List Tj} (va:VL a) (f:VL b) (c:Bool) {k:Nat} (d:k<=a.length+b.length) (j:a.length+b.length<=5000):VL (Va a b c k).2.2.1/\(Va a b c k).2.2.1.length<=a.length+b.length:=by
 have e:=XP va f c d
 have i:(WF (s0 c) (UC a b k)).length<=k:=by
  have:=YQ (s0 c) (UC a b k);rw [VC va f d] at this;exact this
 have g:(Va a b c k).2.2.1=WF (s0 c) (UC a b k):=rfl;rw [g];exact ⟨⟨by omega,λx h=>gT e x (dB h),cz _ _ e⟩,by omega⟩
theorem eQ {L:Tl} (v:VLev L) {n:Nat} (h:Tq L.2 n≠[]):Vq (L,(n:Int))=some (Ut L n [],(Tq L.2 n,0)):=by
 have b:n<L.2.length:=by
  by_cases a:n<L.2.length
  ·exact a
  ·unfold Tq at h;rw [a9 (by omega)] at h;exact absurd rfl h
 have d:=v.len;have c:=(v.own n).1;unfold Vq;simp only [Tp,Tn];rw [cW v,Sx,if_neg (by omega),TQ,if_pos rfl,TP,if_pos (by omega),Ti,TC (WE b),cR,if_neg h,aE (by omega) (by omega),Sx,UP (by omega)]
theorem hC {S β:Type} {f:S->Option (LR S β)} {r:β} (mk:Int->S) (n:Nat) {s:S} (b:s=mk ((n:Int)-1)) (g:n<1000000) (hs : ∀ k,k<n->f (mk (k:Int))=some (.nx (mk ((k:Int)-1)))) (c:f (mk (-1))=some (.dn r)):loop f s=some r:=by
 subst b
 have a : ∀ k,k<=n->IL (k+1) f (mk ((k:Int)-1))=some r:=by
  intro k
  induction k with
  | zero=>intro _;exact US c
  | succ k d =>
   intro e;have:=hs k (by omega);rw [show ((k+1:Nat):Int)-1=(k:Int) by omega,UN this];exact d (by omega)
 exact U0 (by omega) (a n (dc _))
theorem dL {L:Tl} (v:VLev L) {n:Nat} (m:n<12) {x:UK} (p:x.2.length<=1048576) (b : ∀ y∈L.2.flatten,y.1≠x.1) (j:(Tq L.2 n).length<2) :
  Ua (L,((n:Int),x))=some (if kR [] (Us L.1 n) x≠0 then ((0,[]),kR [] (Us L.1 n) x) else (Ut L n (Tq L.2 n++[x]),0)):=by
 have o:=v.len;unfold Ua;simp only [Tp,Tn];rw [cW v,Sx,if_neg (by omega),TQ,if_pos rfl,aC v.B1 v.B2 (by omega),bj x _ (by omega),show Rx (n:Int) 0=true by unfold Rx;simp];rw [pN,Sx,TQ];by_cases a:kR [] (Us L.1 n) x=0;rotate_left
 ·rw [if_neg a,if_pos a]
 rw [if_pos a,if_neg (by simp [a])]
 rw [Un (l:=L.2) (σ:=Unit) (s:=((0:Int),(((0:Int),([]:List (List UK))),(0:Int)))) (λi _=>((i:Int),(((0:Int),([]:List (List UK))),(0:Int)))) (λ_ _ _=>True) (λ_ _ _=>(0,(((L.2.length:Int),(((0:Int),([]:List (List UK))),(0:Int))),()))) () rfl (by omega) trivial (λ_ _=>by
  simp only;rw [re];rfl) (λi rs ls _ hd hi c _=>by
   refine ⟨(),?_,trivial,rfl⟩;have e:Tq L.2 i=rs:=by unfold Tq;rw [hi];rfl
   have f:=(v.own i).1;rw [e] at f;simp only;rw [rl c,Sc,Ti,TC hi,Sj (by omega)]
   rw [hC (λk=>(k,(((0:Int),([]:List (List UK))),(0:Int)))) rs.length rfl (by omega) (λk a=>by
    have h:rs[k]? = some rs[k]:=co a;have d:rs[k].1≠x.1:=b _ (l5.2 ⟨rs,bo hi,List.getElem_mem a⟩);simp only
    rw [TL,if_pos (by omega),Ti,TC h,TK,if_neg d,Sj (by omega)]) (r:=(0,(((-1:Int),(((0:Int),([]:List (List UK))),(0:Int))),()))) rfl,Sx]
   rw [Tv hi (by omega)]
   rfl),Sx]
 rw [Sy,if_pos rfl,TP];by_cases g:n<L.2.length
 ·rw [if_pos (by omega),Ti,TC (WE g),TK,if_neg (by omega),Ti,Ti,UP (dc _),S1,if_pos rfl,UP (lc _)];have hs:D0 (Tq L.2 n) 0 (Tq L.2 n).length=Tq L.2 n:=by unfold D0;simp
  rw [hs,UP (by simp only [BF,ci,cP];omega),aE (by omega) (by omega),Sx];rfl
 ·rw [if_neg (by omega)];have e:Tq L.2 n=[]:=by unfold Tq;rw [a9 (by omega)];rfl
  rw [UP (by simp),aE (by omega) (by omega),Sx,e];rfl
end
end Go.Proofs.YtfipnhjfbebeiaaGreatDoor.Pl
