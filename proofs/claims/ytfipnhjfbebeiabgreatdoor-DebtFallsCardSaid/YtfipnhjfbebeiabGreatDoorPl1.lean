/- Functions of the program and of the specification as plain functions, and laws about them. No condition. -/
import Derived.Test.YtfipnhjfbebeiabGreatDoorPl0
set_option linter.all false
open List renaming Sublist->s9, append_assoc->eb, append_nil->ey, drop_eq_getElem_cons->sa, drop_zero->vL, find?_cons->iz, flatMap_cons->xr, flatten_append->mR, flatten_cons->iP, flatten_eq_nil_iff->xb, foldl_append->xw, foldl_cons->gM, getElem?_eq_getElem->co, getElem?_eq_none->a9, getElem?_eq_some_iff->a8, getElem?_map->ta, getElem?_of_mem->ed, getElem?_take->o3, getLast?_eq_getElem?->oy, head?->xk, head?_drop->sw, length->mu, length_append->hM, length_cons->ci, length_map->s6, length_nil->cP, length_pos_iff->ec, length_set->yb, length_take->ul, map_append->nn, map_cons->li, mem_append->ns, mem_cons->eo, mem_flatten->l4, mem_map->ox, mem_map_of_mem->l5, mem_of_getElem?->bo, mem_singleton->tk, nil_append->nP, nodup_append->pg, nodup_cons->oj, replicate->yo, tail->vt, tail_drop->rz, take_add_one->gs, take_append_drop->s7, take_length->x8
open Nat renaming le_refl->dc, lt_of_not_le->nb, min_eq_left->vv, sub_zero->ll, zero_add->ee, zero_le->kd
open Int renaming mul_le_mul->yw, toNat_natCast->bl, zero_add->tg
open Option renaming getD_some->hI, map_some->x5
open Bool renaming false_eq_true->lc
open UInt8 renaming lt_iff_toNat_lt->xl
open Prod renaming ext->tb
namespace Go.Proofs.YtfipnhjfbebeiabGreatDoor.Pl
section
open Go Sv
theorem VA {S β:Type} {f:S->Option (LR S β)} {s0 s1 s2:S} {r:β} (a:f s0=some (.nx s1)) (b:f s1=some (.nx s2)) (c:f s2=some (.dn r)):loop f s0=some r :=
 U4 (n:=3) (by omega) ((UN a).trans ((UN b).trans (UT c)))
theorem aX {α β:Type} {c:Bool} {n:Int} {l:List α} {K:Nat->α->Option β} {E:Unit->Option β} (k:Nat) {x:α} (hc:c=true) (b:n=(k:Int)) (d:l[k]? = some x):br c (λ_=>R1 n λa=>ix l a λe=>K a e) E=K k x:=by
 subst hc;subst b;rw [Sc,Ti,TC d]
theorem WL {α β:Type} {n:Int} {l:List α} {K:Nat->α->Option β} (k:Nat) {x:α} (b:n=(k:Int)) (c:l[k]? = some x):R1 n (λa=>ix l a λd=>K a d)=K k x:=by
 subst b;rw [Ti,TC c]
theorem XZ {l:List Tj} {i:Nat} (h:i<=l.length):UW (l,(i:Int))=some (kx l i):=by
 unfold UW kx;simp only [Tq,Tn];rw [TK];by_cases hi:i=l.length
 ·rw [if_pos (by omega),a9 (by omega)]
 ·have a:l[i]? = some l[i]:=by rw [co (by omega)]
  rw [if_neg (by omega),Ti,TC a,a]
section
variable {a b:List Tj} (va:VL a) (vb:VL b)
theorem pB {i j:Nat} (hi:i<=a.length) (c:j<=b.length):W7 ([a,b],[(i:Int),(j:Int)])=some (Tt (kx a i) (kx b j)):=by
 unfold W7;refine UC (x:=(0,((2,[kx a i,kx b j]),()))) (VA (s1:=(1,[kx a i,([],false)])) (s2:=(2,[kx a i,kx b j])) ?_ ?_ rfl) ?_
 ·show bd (UW (a,(i:Int))) _=_;rw [XZ hi];rfl
 ·show bd (UW (b,(j:Int))) _=_;rw [XZ c];rfl
 ·show bd (VP [kx a i,kx b j]) _=_;rw [Z8 (Ud _ _) (Ud _ _)];rfl
include va vb
theorem Zq:Uf a=some (0,0):=by
 rw [Xc _ (by have:=va.len;omega),Y9 va]
theorem Zf:V5 [a,b]=some (0,0):=by
 unfold V5;refine UC (x:=(1,((0,(0,2)),()))) (VA (s1:=(0,(0,1))) (s2:=(0,(0,2))) ?_ ?_ rfl) rfl
 ·show bd (Uf a) _=_;rw [Zq va va];rfl
 ·show bd (Uf b) _=_;rw [Zq vb vb];rfl
theorem gv (c:Bool):XF ([a,b],c)=some (zY a b c 0,(0,0)):=by
 unfold XF;rw [Zf va vb,Sx,TQ,if_pos rfl];refine UC (x:=(0,((2,[kx a 0,kx b 0]),()))) (VA (s1:=(1,[kx a 0,([],false)])) (s2:=(2,[kx a 0,kx b 0])) ?_ ?_ rfl) ?_
 ·show bd (UW (a,((0:Nat):Int))) _=_;rw [XZ (by omega)];rfl
 ·show bd (UW (b,((0:Nat):Int))) _=_;rw [XZ (by omega)];rfl
 ·show bd (VP [kx a 0,kx b 0]) _=_;rw [Z8 (Ud _ _) (Ud _ _)];rfl
end
theorem YD (x:Bool):Sv.beq x x=true:=by cases x<;>rfl
theorem Yu (x:Xb):seq x x=true:=by rw [ab]
theorem eP (l:List UI) (h:l.length<=1000):UH (l,l)=some true:=by
 unfold UH;simp only [Tq,Tn]
 rw [TQ,if_pos rfl,Zx (l:=l) (σ:=Unit) (s:=(0,false)) (λk _=>((k:Int),false)) (λ_ _ _=>some (1,(((l.length:Int),false),()))) () rfl (by omega) (λc=>by
  simp only;rw [re];rfl) (λk x m c _ a b => .inl ⟨(),by
   simp only;rw [rl b,Sc,Ti,TC a,Ti,TC a,Yu,YD,show Hg (Nm true (Nm true true))=false from rfl,R7,Tv a (by omega)],rfl⟩),Sx]
 rfl
theorem eO (l:List Int) (h:l.length<=1000):Tz (l,l)=some true:=by
 unfold Tz;simp only [Tq,Tn]
 rw [TQ,if_pos rfl,Zx (l:=l) (σ:=Unit) (s:=(0,false)) (λk _=>((k:Int),false)) (λ_ _ _=>some (1,(((l.length:Int),false),()))) () rfl (by omega) (λc=>by
  simp only;rw [re];rfl) (λk x m c _ a b => .inl ⟨(),by
   simp only;rw [rl b,Sc,Ti,TC a,Ti,TC a,TQ,if_pos rfl,Tv a (by omega)],rfl⟩),Sx]
 rfl
theorem gr (t:Vw) (a:t.1.length<=1000) (b:t.2.1.length<=1000):Wa (t,t)=some true:=by
 unfold Wa;rw [TK,if_pos rfl,eP _ a,Sx,Sc,eO _ b];rfl
theorem gu (p q:UI):Wa (Tt p q,Tt p q)=some true:=gr _ (show 2<=1000 by omega) (show 2<=1000 by omega)
theorem jT {a b:List Tj} {i j:Nat} (h:Xz a b i j=true):wk (kx a i) (kx b j)=kx a i/\wn (kx a i) (kx b j)=0:=by
 unfold Xz at h;unfold wk wn;rw [if_pos h,if_pos h];exact ⟨rfl,rfl⟩
theorem jU {a b:List Tj} {i j:Nat} (h:Xz a b i j=false):wk (kx a i) (kx b j)=kx b j/\wn (kx a i) (kx b j)=1:=by
 unfold Xz at h;unfold wk wn;rw [if_neg (by simp [h]),if_neg (by simp [h])];exact ⟨rfl,rfl⟩
theorem gQ (x y:Xb):Vc (x,y)=some (if SV x y=true then -1 else if SV y x=true then 1 else 0):=by
 unfold Vc Vx;simp only [Yu,Yg,Sx,R7];rw [Wz,Wz];split
 ·rfl
 ·split<;>rfl
theorem gP (x y:Int):VC (x,y)=some (if x<y then -1 else if x>y then 1 else 0):=by
 unfold VC Wf;simp only [Sx,TQ,if_true,TP,TM];split
 ·rfl
 ·split<;>rfl
theorem kB (x y:Int):Xh [x,y]=some (if x≠0 then x else y):=by
 unfold Xh;by_cases h:x=0
 ·rw [if_neg (by simp [h])];by_cases a:y=0
  ·refine UC (x:=(1,((0,2),()))) (VA (s1:=(0,1)) (s2:=(0,2)) ?_ ?_ rfl) (by rw [a];rfl)
   ·refine (aX 0 rfl rfl rfl).trans ?_;rw [TQ,if_pos h];rfl
   ·refine (aX 1 rfl rfl rfl).trans ?_;rw [TQ,if_pos a];rfl
  ·refine UC (x:=(0,((y,1),()))) (U4 (n:=2) (by omega) ((UN (s':=(0,1)) ?_).trans (UT ?_))) rfl
   ·refine (aX 0 rfl rfl rfl).trans ?_;rw [TQ,if_pos h];rfl
   ·refine (aX 1 rfl rfl rfl).trans ?_;rw [TQ,if_neg a]
 ·rw [if_pos h];refine UC (x:=(0,((x,0),()))) (U4 (n:=1) (by omega) (UT ?_)) rfl;refine (aX 0 rfl rfl rfl).trans ?_;rw [TQ,if_neg h]
section
variable {a b:List Tj} (va:VL a) (vb:VL b)
include va vb
theorem ZP {i j:Nat} (I:Inv a b i j):V4 (Zn a b i j)=some (0,0):=by
 unfold V4;rw [show (Zn a b i j).1=[a,b] from rfl,Zf va vb,Sx,TQ,if_pos rfl];rw [show (Zn a b i j).2.1=[(i:Int),(j:Int)] from rfl,TQ,if_pos (show Ki (AS [(i:Int),(j:Int)])=Ki (AS [a,b]) from rfl)];refine UC (x:=(1,((0,(0,2)),()))) (VA (s1:=(0,(0,1))) (s2:=(0,(0,2))) ?_ ?_ rfl) ?_
 ·refine (aX 0 rfl rfl rfl).trans ?_;rw [TP,if_neg (by omega),show R1 (((0:Int),((0:Int),(0:Int))).2.2)=λ(k:Nat->Option (LR (Int×(Int×Int)) (Nat×((Int×(Int×Int))×Unit))))=>k 0 from rfl];simp only;rw [TC (x:=a) rfl,TM,if_neg (by have:=I.ia;simp only [Tq,Tn];omega)];rfl
 ·refine (aX 1 rfl rfl rfl).trans ?_;rw [TP,if_neg (by omega),show R1 (((0:Int),((0:Int),(1:Int))).2.2)=λ(k:Nat->Option (LR (Int×(Int×Int)) (Nat×((Int×(Int×Int))×Unit))))=>k 1 from rfl];simp only;rw [TC (x:=b) rfl,TM,if_neg (by have:=I.jb;simp only [Tq,Tn];omega)];rfl
 rw [show neq ((1:Nat),(((0:Int),((0:Int),(2:Int))),())).1 0=false from rfl,R7,pB I.ia I.jb,Sx,show (Zn a b i j).2.2=Tt (kx a i) (kx b j) from rfl,gu,Sx,show Hg true=false from rfl,R7,YA (Ud _ _) (Ud _ _),Sx];by_cases hd:(wk (kx a i) (kx b j)).2=true
 ·rw [if_pos hd];rfl
 rw [if_neg hd,TQ,if_pos rfl]
 have r : ∀ {x:Tj} {e:Nat},i=e+1->a[e]? = some x -> ¬ (if (if SV x.1 (wk (kx a i) (kx b j)).1=true then (-1:Int) else if SV (wk (kx a i) (kx b j)).1 x.1=true then 1 else 0)≠0 then (if SV x.1 (wk (kx a i) (kx b j)).1=true then (-1:Int) else if SV (wk (kx a i) (kx b j)).1 x.1=true then 1 else 0) else (if (0:Int)<(wn (kx a i) (kx b j):Int) then -1 else if (0:Int)>(wn (kx a i) (kx b j):Int) then 1 else 0))>0:=by
  intro x e hi c
  have o:SV (wk (kx a i) (kx b j)).1 x.1=false:=by
   cases g:Xz a b i j with
   | true =>
    rw [(jT g).1] at hd ⊢;unfold kx at hd ⊢;cases d:a[i]? with
    | none=>rw [d] at hd;exact absurd rfl hd
    | some y=>rw [hi] at d;exact VF (va.lt c d)
   | false =>
    rw [(jU g).1] at hd ⊢;unfold kx at hd ⊢;cases d:b[j]? with
    | none=>rw [d] at hd;exact absurd rfl hd
    | some y=>exact I.pa e hi x y c d
  rw [o];have : ¬ (0:Int)>(wn (kx a i) (kx b j):Int):=by omega
  by_cases hs:SV x.1 (wk (kx a i) (kx b j)).1=true
  ·simp [hs]
  ·simp only [hs,lc,if_false,ne_eq,not_true,this];split<;>omega
 have s : ∀ {y:Tj} {j':Nat},j=j'+1->b[j']? = some y -> ¬ (if (if SV y.1 (wk (kx a i) (kx b j)).1=true then (-1:Int) else if SV (wk (kx a i) (kx b j)).1 y.1=true then 1 else 0)≠0 then (if SV y.1 (wk (kx a i) (kx b j)).1=true then (-1:Int) else if SV (wk (kx a i) (kx b j)).1 y.1=true then 1 else 0) else (if (1:Int)<(wn (kx a i) (kx b j):Int) then -1 else if (1:Int)>(wn (kx a i) (kx b j):Int) then 1 else 0))>0:=by
  intro y j' q d
  have p:SV y.1 (wk (kx a i) (kx b j)).1=true:=by
   cases g:Xz a b i j with
   | true =>
    rw [(jT g).1] at hd ⊢;unfold kx at hd ⊢;cases c:a[i]? with
    | none=>rw [c] at hd;exact absurd rfl hd
    | some x=>exact I.pb j' q y x d c
   | false =>
    rw [(jU g).1] at hd ⊢;unfold kx at hd ⊢;cases c:b[j]? with
    | none=>rw [c] at hd;exact absurd rfl hd
    | some x=>rw [q] at c;exact vb.lt d c
  rw [p];simp
 refine UC (x:=(1,((0,(0,2)),()))) (VA (s1:=(0,(0,1))) (s2:=(0,(0,2))) ?_ ?_ rfl) rfl
 ·refine (aX 0 rfl rfl rfl).trans ?_;rw [TM];by_cases f:(i:Int)>0
  ·rw [if_pos f];obtain ⟨e,h⟩ : ∃ e,i=e+1:=⟨i-1,by omega⟩;have l:e<a.length:=by have:=I.ia;omega
   have c:a[e]? = some a[e]:=by simp [l]
   refine (WL 0 rfl (x:=a) rfl).trans ((WL e ?_ c).trans ?_)
   ·rw [Sj (by have:=va.len;have:=I.ia;omega)];omega
   rw [gQ,Sx];show bd (VC (0,(wn (kx a i) (kx b j):Int))) _=_;rw [gP,Sx,kB,Sx,TM,if_neg (r h c)];rfl
  ·rw [if_neg f];rfl
 ·refine (aX 1 rfl rfl rfl).trans ?_;rw [TM];by_cases f:(j:Int)>0
  ·rw [if_pos f];obtain ⟨j',m⟩ : ∃ j',j=j'+1:=⟨j-1,by omega⟩;have n:j'<b.length:=by have:=I.jb;omega
   have d:b[j']? = some b[j']:=by simp [n]
   refine (WL 1 rfl (x:=b) rfl).trans ((WL j' ?_ d).trans ?_)
   ·rw [Sj (by have:=vb.len;have:=I.jb;omega)];omega
   rw [gQ,Sx];show bd (VC (1,(wn (kx a i) (kx b j):Int))) _=_;rw [gP,Sx,kB,Sx,TM,if_neg (s m d)];rfl
  ·rw [if_neg f];rfl
end
end
section
open Go Sv
theorem XI {l:List Tj} {i:Nat} {x:Tj} (h:l[i]? = some x):kx l i=(x.1,false):=by unfold kx;rw [h]
theorem Zv {l:List Tj} {i:Nat} (h:l[i]? = none):kx l i=([],true):=by unfold kx;rw [h]
theorem aY {l:List Tj} (v:VL l) {i:Nat} {x:Tj} (h:l[i]? = some x):(kx l (i+1)).2=true\/SV (kx l (i+1)).1 x.1=false:=by
 cases a:l[i+1]? with
 | none=>rw [Zv a];exact .inl rfl
 | some y=>rw [XI a];exact .inr (VF (v.lt h a))
theorem ZG {α β:Type} {n:Int} {l:List α} {K:Nat->α->Option β} (k:Nat) {x:α} (c:n=(k:Int)) (b:l[k]? = some x):R1 n (λa=>gd (KJ a (AS l)) λ_=>ix l a λd=>K a d)=K k x:=by
 subst c;rw [Ti,S3,if_pos (show k<AS l from (a8.1 b).1),TC b]
section
variable {a b:List Tj} (va:VL a) (vb:VL b)
include va vb
theorem pZ {i j:Nat} (I:Inv a b i j) {x:Tj} (c:a[i]? = some x) (g:Xz a b i j=true):U0 (Zn a b i j)=some (x,(0,(Zn a b (i+1) j,0))):=by
 obtain ⟨e,h⟩:=jT g;have hi:=(a8.1 c).1;have l:=va.len;have hd:(wk (kx a i) (kx b j)).2=false:=by rw [e,XI c]
 obtain ⟨m,f⟩:=YL (p:=kx a i) (q:=kx b j) (k:=kx a (i+1)) (Ud _ _) (Ud _ _) (Ud _ _) hd (by rw [e,XI c];exact aY va c)
 have d:rk (kx a i) (kx b j) (kx a (i+1))=(kx a (i+1),kx b j):=by
  unfold rk;unfold Xz at g;rw [if_pos g]
 rw [d] at f;unfold U0;rw [ZP va vb I,Sx,TQ,if_pos rfl];unfold Tw UG;refine UC (ZA (show 2<=1048576 by omega)) (UC (ZA (show 2<=1048576 by omega)) ?_);rw [show (Zn a b i j).2.2=Tt (kx a i) (kx b j) from rfl,YA (Ud _ _) (Ud _ _),if_neg (by simp [hd]),Sx,TQ,if_pos rfl,h];refine (ZG 0 rfl (x:=a) rfl).trans ((ZG 0 rfl (x:=(i:Int)) rfl).trans ((WL i rfl c).trans ((ZG 0 rfl (x:=(i:Int)) rfl).trans ((ZG 0 rfl (x:=(i:Int)) rfl).trans ((ZG 0 rfl (x:=a) rfl).trans ((ZG 0 rfl (x:=SF .i64 (i:Int) 1) rfl).trans ?_))))));rw [Tu (by omega),XZ (show i+1<=a.length by omega),Sx,f,Sx];rfl
theorem pf {i j:Nat} (I:Inv a b i j) {y:Tj} (c:b[j]? = some y) (g:Xz a b i j=false):U0 (Zn a b i j)=some (y,(1,(Zn a b i (j+1),0))):=by
 obtain ⟨e,h⟩:=jU g;have hi:=(a8.1 c).1;have l:=vb.len;have hd:(wk (kx a i) (kx b j)).2=false:=by rw [e,XI c]
 obtain ⟨m,f⟩:=YL (p:=kx a i) (q:=kx b j) (k:=kx b (j+1)) (Ud _ _) (Ud _ _) (Ud _ _) hd (by rw [e,XI c];exact aY vb c)
 have d:rk (kx a i) (kx b j) (kx b (j+1))=(kx a i,kx b (j+1)):=by
  unfold rk;unfold Xz at g;rw [if_neg (by simp [g])]
 rw [d] at f;unfold U0;rw [ZP va vb I,Sx,TQ,if_pos rfl];unfold Tw UG;refine UC (ZA (show 2<=1048576 by omega)) (UC (ZA (show 2<=1048576 by omega)) ?_);rw [show (Zn a b i j).2.2=Tt (kx a i) (kx b j) from rfl,YA (Ud _ _) (Ud _ _),if_neg (by simp [hd]),Sx,TQ,if_pos rfl,h];refine (ZG 1 rfl (x:=b) rfl).trans ((ZG 1 rfl (x:=(j:Int)) rfl).trans ((WL j rfl c).trans ((ZG 1 rfl (x:=(j:Int)) rfl).trans ((ZG 1 rfl (x:=(j:Int)) rfl).trans ((ZG 1 rfl (x:=b) rfl).trans ((ZG 1 rfl (x:=SF .i64 (j:Int) 1) rfl).trans ?_))))));rw [Tu (by omega),XZ (show j+1<=b.length by omega),Sx,f,Sx];rfl
def ZZ (a b:List Tj) (n:Nat):VZ:=Zn a b (pos a b n).1 (pos a b n).2
def bQ (a b:List Tj) (n:Nat):Nat:=if Xz a b (pos a b n).1 (pos a b n).2=true then 0 else 1
theorem bA {n:Nat} {x:Tj} (h:n<a.length+b.length) (c:aU a b n=some x):U0 (ZZ a b n)=some (x,((bQ a b n:Int),(ZZ a b (n+1),0))):=by
 obtain ⟨d,hs⟩:=WM va vb (n:=n) (by omega);unfold ZZ bQ;rw [show pos a b (n+1)=if Xz a b (pos a b n).1 (pos a b n).2=true then ((pos a b n).1+1,(pos a b n).2) else ((pos a b n).1,(pos a b n).2+1) from rfl]
 unfold aU at c;cases g:Xz a b (pos a b n).1 (pos a b n).2 with
 | true=>rw [if_pos g] at c;rw [pZ va vb d c g];simp
 | false=>rw [if_neg (by simp [g])] at c;rw [pf va vb d c g];simp
end
theorem bR {s:Ul} (b:s.2.1.length<=32) (a:s.1=false->s.2.1=[]):WJ s=some 0:=by
 unfold WJ;rw [ZX,Sx,if_neg (by omega),TQ,if_pos rfl,UU,TV];cases h:s.1 with
 | true=>rfl
 | false=>rw [if_neg (by simp),UU,WB,if_pos (a h)]
def keep (s:Ul) (x:Tj):Bool := !(s.1&&decide (x.1=s.2.1)) && !(s.2.2&&x.2.2.1)
theorem iU {s:Ul} {x:Tj} (e:s.2.1.length<=32) (f:s.1=false->s.2.1=[]) (g:kE x=0) (a:s.1=true->SV x.1 s.2.1=false):U9 (s,x)=some (keep s x,((true,(x.1,s.2.2)),0)):=by
 unfold U9 keep;rw [bR e f,Sx,TQ,if_pos rfl,XK,g,Sx,TQ,if_pos rfl];obtain ⟨s1,s2,c⟩:=s;obtain ⟨h,i,d,j⟩:=x;simp only at a ⊢;cases s1 with
 | true =>
  have:=a rfl;simp only [Sc,R7,Wz,WB,this,lc,if_false];by_cases b:h=s2
  ·simp [b]
  ·simp only [b,if_false,decide_false];cases c<;>cases d<;>rfl
 | false =>
  simp only [Sc,R7];cases c<;>cases d<;>rfl
def WF:Ul->List Tj->List Tj
 | _,[]=>[]
 | s,x::l=>(if keep s x=true then [x] else [])++WF (true,(x.1,s.2.2)) l
theorem YQ : ∀ (s:Ul) (l:List Tj),(WF s l).length<=l.length
 | _,[]=>dc _
 | s,x::l=>by
  have:=YQ (true,(x.1,s.2.2)) l;unfold WF;by_cases h:keep s x=true
  ·rw [if_pos h];simp;omega
  ·rw [if_neg h];simp;omega
def Z5:Ul->List Tj->Prop
 | _,[]=>True
 | s,x::l=>kE x=0/\(s.1=true->SV x.1 s.2.1=false)/\Z5 (true,(x.1,s.2.2)) l
theorem ax {x:Tj} (h:kE x=0):x.1.length<=32:=by
 unfold kE at h;by_cases hh:x.1.length>32\/x.2.1.length>64
 ·rw [if_pos hh] at h;cases h
 ·omega
theorem Un {α β σ S:Type} {l:List α} (mk:Nat->σ->S) (Inv:List α->Nat->σ->Prop) (F:List α->Nat->σ->β) {f:S->Option (LR S β)} {s:S} (a:σ) (p:s=mk 0 a) (z:l.length<=9223372036854775807) (hi:Inv l 0 a)
  (w : ∀ a,Inv [] l.length a->f (mk l.length a)=some (.dn (F [] l.length a)))
  (hc : ∀ k x m a,l.drop k=x::m->l[k]? = some x->k<l.length->Inv (x::m) k a -> ∃ b,f (mk k a)=some (.nx (mk (k+1) b))/\Inv m (k+1) b/\F (x::m) k a=F m (k+1) b):loop f s=some (F l 0 a):=by
 subst p
 have e : ∀ (m:List α) (k n:Nat) (a:σ),l.drop k=m->k<=l.length->m.length<n->Inv m k a->IL n f (mk k a)=some (F m k a):=by
  intro m
  induction m with
  | nil =>
   intro k n a c u d hi;obtain ⟨n,rfl⟩ : ∃ j,n=j+1:=⟨n-1,by omega⟩
   have h:k=l.length:=by
    have:=congrArg mu c;simp at this;omega
   subst h;exact UT (w a hi)
  | cons x m y =>
   intro k n a c u d hi;obtain ⟨n,rfl⟩ : ∃ j,n=j+1:=⟨n-1,by omega⟩
   have o:l[k]? = some x:=by
    have:=congrArg xk c;rw [sw] at this;simpa using this
   have g:k<l.length:=(a8.1 o).1
   have i:l.drop (k+1)=m:=by
    have:=congrArg vt c;rw [rz] at this;simpa using this
   obtain ⟨b,q,r,t⟩:=hc k x m a c o g hi;rw [UN q,t];exact y (k+1) n b i (by omega) (by simp at d;omega) r
 exact e l 0 _ a (by simp) (by omega) (by omega) hi
def U6:Ul->List Tj->Ul
 | s,[]=>s
 | s,x::l=>U6 (true,(x.1,s.2.2)) l
theorem cY {β:Type} {out:List Tj} {n:Nat} (h:out.length<=n) (a:n<=20000) (x:Tj) (k:Unit->Option β):gd (CF (BF (AS out) (AS [x])) 1048576) k=k ():=UP (by simp only [BF,AS,ci,cP];omega) k
theorem gq {l:List Tj} {b:Bool} (B:l.length<=20000) (A:Z5 (false,([],b)) l):Wl (l,b)=some (WF (false,([],b)) l,(0,0)):=by
 unfold Wl VX;simp only [Tq,Tn];rw [TM,if_neg (by omega),Sx]
 rw [Un (l:=l) (σ:=Ul×List Tj) (s:=(0,(0,(0,((false,([],b)),[]))))) (λk a=>((0:Int),((k:Int),((0:Int),a))))
  (λm k a=>Z5 a.1 m/\a.1.2.1.length<=32/\(a.1.1=false->a.1.2.1=[])/\a.2.length<=k/\k+m.length=l.length)
  (λm k a=>(1,((0,((l.length:Int),(0,(U6 a.1 m,a.2++WF a.1 m)))),()))) ((false,([],b)),[]) rfl (by omega) ⟨A,by simp,λ_=>rfl,by simp,by simp⟩ ?_ ?_,Sx]
 ·simp;rfl
 ·intro a _;simp only;rw [re,R7];simp [U6,WF]
 ·rintro k x m ⟨s,out⟩ C r z ⟨⟨d,e,g⟩,i,j,n,o⟩;simp only at d e g i j n ⊢;refine ⟨((true,(x.1,s.2.2)),out++if keep s x=true then [x] else []),?_,⟨g,ax d,(λh=>by cases h),?_,by simp at o;omega⟩,?_⟩
  ·rw [rl z,Sc,Ti,TC r,bR i j,Sx,TQ,if_pos rfl,XK,d,Sx,TQ,if_pos rfl];unfold keep UQ;obtain ⟨s1,s2,t⟩:=s;obtain ⟨f,u,c,w⟩:=x;simp only [Sx,Tv r (show l.length<=9223372036854775807 by omega)] at e ⊢;have q : ∀ {β:Type} (k:Unit->Option β),gd (CF (BF out.length [(f,(u,(c,w)))].length) 1048576) k=k ():=λk=>cY n (by simp at o;omega) (f,(u,(c,w))) k;cases s1 with
   | true =>
    have y:=e rfl;simp only [Sc,R7,WB,y,q];by_cases p:f=s2
    ·simp [p]
    ·simp only [p,if_false,decide_false];cases t<;>cases c<;>simp [Sc,R7,Il]
   | false =>
    simp only [Sc,R7,q];cases t<;>cases c<;>simp [Sc,R7,Il]
  ·split<;>simp<;>omega
  ·simp only [U6,WF,eb]
end
section
open Go Sv
theorem dF : ∀ (l:List Tj) (s:Ul) (x:Tj),WF s (l++[x])=WF s l++(if keep (U6 s l) x=true then [x] else [])
 | [],s,x=>by
  show (if keep s x=true then [x] else [])++[]=[]++(if keep s x=true then [x] else [])
  rw [ey,nP]
 | y::l,s,x=>by
  show (if keep s y=true then [y] else [])++WF _ (l++[x])=((if keep s y=true then [y] else [])++WF _ l)++_
  rw [dF l,eb];rfl
theorem ZN : ∀ (l:List Tj) (s:Ul) (x:Tj),U6 s (l++[x])=(true,(x.1,(U6 s l).2.2))
 | [],s,x=>rfl
 | y::l,s,x=>by simp only [List.cons_append,U6,ZN l]
theorem XJ : ∀ (l:List Tj) (s:Ul),(U6 s l).2.2=s.2.2
 | [],s=>rfl
 | y::l,s=>by rw [U6,XJ l]
theorem dj : ∀ (l:List Tj) (s:Ul) (x:Tj),Z5 s l->kE x=0->((U6 s l).1=true->SV x.1 (U6 s l).2.1=false)->Z5 s (l++[x])
 | [],s,x,_,a,b=>⟨a,b,trivial⟩
 | y::l,s,x,⟨a,b,c⟩,d,h5=>⟨a,b,dj l _ x c d h5⟩
theorem bp : ∀ (l:List Tj) (s:Ul),Z5 s l->s.2.1.length<=32->(s.1=false->s.2.1=[])->(U6 s l).2.1.length<=32/\((U6 s l).1=false->(U6 s l).2.1=[])
 | [],s,_,h1,h2=>⟨h1,h2⟩
 | y::l,s,⟨a,_,b⟩,_,_=>bp l _ b (ax a) (λh=>by cases h)
abbrev s0 (a:Bool):Ul:=(false,([],a))
def Vb (a b:List Tj) (c:Bool) (n:Nat):Xg:=(ZZ a b n,(U6 (s0 c) (UD a b n),(WF (s0 c) (UD a b n),(n:Int))))
def X3 (a b:List Tj):Nat->List Int
 | 0=>[]
 | n+1=>X3 a b n++[(bQ a b n:Int)]
theorem aD (a b:List Tj) : ∀ n,(X3 a b n).length=n
 | 0=>rfl
 | n+1=>by simp [X3,aD a b n]
theorem YX {S β:Type} {f:S->Option (LR S β)} {r:β} (mk:Nat->S) (a n:Nat) {s:S} (b:s=mk a) (d:a<=n) (e:n<18446744073709551616) (hs : ∀ k,a<=k->k<n->f (mk k)=some (.nx (mk (k+1)))) (c:f (mk n)=some (.dn r)):loop f s=some r:=by
 have h:=X6 (f:=f) (r:=r) (λk=>mk (a+k)) (n-a) (s:=s) b (by omega) (λk d=>hs (a+k) (by omega) (by omega)) (by show f (mk (a+(n-a)))=_;rw [show a+(n-a)=n by omega];exact c);exact h
theorem ah (l:List Tj) (h:l.length<=100000):WK (l,l)=some true:=by
 unfold WK;simp only [Tq,Tn]
 rw [TQ,if_pos rfl,Zx (l:=l) (σ:=Unit) (s:=(false,0)) (λk _=>(false,(k:Int))) (λ_ _ _=>some (1,((false,(l.length:Int)),()))) () rfl (by omega) (λc=>by
  simp only;rw [re];rfl) (λk x m c _ a b => .inl ⟨(),by
   simp only;rw [rl b,Sc,Ti,TC a,Ti,TC a,Yu,Yu,YD,show Oa x.2.2.2 x.2.2.2=true by unfold Oa;simp,show Hg (Nm true (Nm true (Nm true (Nm true true))))=false from rfl,R7,Tv a (by omega)],rfl⟩),Sx]
 rfl
section
variable {a b:List Tj} (va:VL a) (vb:VL b)
include va vb
theorem Wr {n:Nat} {x:Tj} (c:aU a b n=some x):UD a b (n+1)=UD a b n++[x]:=by
 show (match aU a b n with
  | some x=>UD a b n++[x]
  | none=>UD a b n)=_
 rw [c]
theorem XO (d:Bool) : ∀ {n:Nat},n<=a.length+b.length->Z5 (s0 d) (UD a b n)
 | 0,_=>trivial
 | n+1,h=>by
  obtain ⟨x,c,_⟩:=Vu va vb (n:=n) (by omega);rw [Wr va vb c];refine dj _ _ _ (XO d (by omega)) (kA va vb c) λ_ => ?_;cases n with
  | zero=>rename_i f;cases f
  | succ m =>
   obtain ⟨y,e,_⟩:=Vu va vb (n:=m) (by omega);rw [Wr va vb e,ZN];exact gX va vb (by omega) e c
theorem eV (c:Bool) {n:Nat} (h:n<=a.length+b.length):(U6 (s0 c) (UD a b n)).2.1.length<=32/\((U6 (s0 c) (UD a b n)).1=false->(U6 (s0 c) (UD a b n)).2.1=[]) :=
 bp _ _ (XO va vb c h) (by simp) (λ_=>rfl)
theorem qR {n:Nat} (h:n=a.length+b.length):(wk (kx a (pos a b n).1) (kx b (pos a b n).2)).2=true:=by
 obtain ⟨c,hs⟩:=WM va vb (n:=n) (by omega);have d:=c.ia;have e:=c.jb;rw [Zv (a9 (by omega)),Zv (a9 (by omega))];rfl
theorem qT {n:Nat} {x:Tj} (c:aU a b n=some x):(wk (kx a (pos a b n).1) (kx b (pos a b n).2)).2=false/\wn (kx a (pos a b n).1) (kx b (pos a b n).2)=bQ a b n:=by
 unfold aU at c;unfold bQ;cases g:Xz a b (pos a b n).1 (pos a b n).2 with
 | true=>rw [if_pos g] at c;rw [(jT g).1,(jT g).2,XI c];exact ⟨rfl,rfl⟩
 | false=>rw [if_neg (by simp [g])] at c;rw [(jU g).1,(jU g).2,XI c];exact ⟨rfl,rfl⟩
theorem pY:YI [a,b]=some (UD a b (a.length+b.length),(X3 a b (a.length+b.length),0)):=by
 have u:=va.len;have w:=vb.len;unfold YI;rw [Zf va vb,Sx,TQ,if_pos rfl];refine Eq.trans (b:=bd (loop _ (0,[([],false),([],false)])) _) rfl ?_;refine UC (x:=(0,((2,[kx a 0,kx b 0]),()))) (VA (s1:=(1,[kx a 0,([],false)])) (s2:=(2,[kx a 0,kx b 0])) ?_ ?_ rfl) ?_
 ·show bd (UW (a,((0:Nat):Int))) _=_;rw [XZ (by omega)];rfl
 ·show bd (UW (b,((0:Nat):Int))) _=_;rw [XZ (by omega)];rfl
 rw [show ((0:Nat),(((2:Int),[kx a 0,kx b 0]),())).2.1.2=[kx a 0,kx b 0] from rfl,Z8 (Ud _ _) (Ud _ _),Sx]
 refine UC (x:=(0,((UD a b (a.length+b.length),(X3 a b (a.length+b.length),((),([((pos a b (a.length+b.length)).1:Int),((pos a b (a.length+b.length)).2:Int)],Tt (kx a (pos a b (a.length+b.length)).1) (kx b (pos a b (a.length+b.length)).2))))),())))
  (YX (λk=>(UD a b k,(X3 a b k,((),([((pos a b k).1:Int),((pos a b k).2:Int)],Tt (kx a (pos a b k).1) (kx b (pos a b k).2)))))) 0 (a.length+b.length) rfl (by omega) (by omega) (λk _ r => ?_) ?_) rfl
 ·obtain ⟨x,c,_⟩:=Vu va vb (n:=k) r;obtain ⟨j,s⟩:=qT va vb c;obtain ⟨t,hs⟩:=WM va vb (n:=k) (by omega);have h:(UD a b k).length=k:=VE va vb (by omega);have i:=aD a b k;simp only;rw [YA (Ud _ _) (Ud _ _),if_neg (by simp [j]),Sx,TQ,if_pos rfl,s];rw [Wr va vb c];unfold aU at c;rw [show X3 a b (k+1)=X3 a b k++[(bQ a b k:Int)] from rfl];unfold bQ;rw [show pos a b (k+1)=if Xz a b (pos a b k).1 (pos a b k).2=true then ((pos a b k).1+1,(pos a b k).2) else ((pos a b k).1,(pos a b k).2+1) from rfl]
  have l : ∀ {β:Type} (y:Tj) (q:Unit->Option β),gd (CF (BF (AS (UD a b k)) (AS [y])) 1048576) q=q ():=λy q=>UP (by simp only [BF,AS,h,ci,cP];omega) q;have o : ∀ {β:Type} (y:Int) (q:Unit->Option β),gd (CF (BF (AS (X3 a b k)) (AS [y])) 1048576) q=q ():=λy q=>UP (by simp only [BF,AS,i,ci,cP];omega) q;cases g:Xz a b (pos a b k).1 (pos a b k).2 with
  | true =>
   rw [if_pos g] at c;obtain ⟨d,_⟩:=jT g;obtain ⟨m,f⟩:=YL (p:=kx a (pos a b k).1) (q:=kx b (pos a b k).2) (k:=kx a ((pos a b k).1+1)) (Ud _ _) (Ud _ _) (Ud _ _) j (by rw [d,XI c];exact aY va c)
   have e:rk (kx a (pos a b k).1) (kx b (pos a b k).2) (kx a ((pos a b k).1+1))=(kx a ((pos a b k).1+1),kx b (pos a b k).2):=by
    unfold rk;unfold Xz at g;rw [if_pos g]
   rw [e] at f;have hi:=(a8.1 c).1;simp only [if_true];refine (ZG 0 rfl (x:=a) rfl).trans ((ZG 0 rfl (x:=((pos a b k).1:Int)) rfl).trans ((WL _ rfl c).trans ?_));rw [l,o];refine (ZG 0 rfl (x:=((pos a b k).1:Int)) rfl).trans ((ZG 0 rfl (x:=((pos a b k).1:Int)) rfl).trans ((ZG 0 rfl (x:=a) rfl).trans ((ZG 0 rfl (x:=SF .i64 ((pos a b k).1:Int) 1) rfl).trans ?_)));rw [Tu (by omega),XZ (by omega),Sx,f,Sx];rfl
  | false =>
   rw [if_neg (by simp [g])] at c;obtain ⟨d,_⟩:=jU g;obtain ⟨m,f⟩:=YL (p:=kx a (pos a b k).1) (q:=kx b (pos a b k).2) (k:=kx b ((pos a b k).2+1)) (Ud _ _) (Ud _ _) (Ud _ _) j (by rw [d,XI c];exact aY vb c)
   have e:rk (kx a (pos a b k).1) (kx b (pos a b k).2) (kx b ((pos a b k).2+1))=(kx a (pos a b k).1,kx b ((pos a b k).2+1)):=by
    unfold rk;unfold Xz at g;rw [if_neg (by simp [g])]
   rw [e] at f;have hi:=(a8.1 c).1;simp only [lc,if_false];refine (ZG 1 rfl (x:=b) rfl).trans ((ZG 1 rfl (x:=((pos a b k).2:Int)) rfl).trans ((WL _ rfl c).trans ?_));rw [l,o];refine (ZG 1 rfl (x:=((pos a b k).2:Int)) rfl).trans ((ZG 1 rfl (x:=((pos a b k).2:Int)) rfl).trans ((ZG 1 rfl (x:=b) rfl).trans ((ZG 1 rfl (x:=SF .i64 ((pos a b k).2:Int) 1) rfl).trans ?_)));rw [Tu (by omega),XZ (by omega),Sx,f,Sx];rfl
 ·simp only;rw [YA (Ud _ _) (Ud _ _),if_pos (qR va vb rfl),Sx,TQ,if_neg (by decide),TQ,if_neg (by decide)]
end
end
section
open Go Sv
theorem gS {β:Type} {out:List Tj} {n:Nat} (h:out.length<=n) (a:n<=20000) (x:Tj) (k:Unit->Option β):gd (CF (BF out.length [x].length) 1048576) k=k ():=cY h a x k
section
variable {a b:List Tj} (va:VL a) (vb:VL b)
include va vb
theorem Xe {n:Nat} (h:n<=a.length+b.length):(UD a b (a.length+b.length)).take n=UD a b n:=eZ va vb (dc _) h
theorem ZF {n:Nat} {x:Tj} (c:Bool) (d:aU a b n=some x):U6 (s0 c) (UD a b (n+1))=(true,(x.1,c)):=by
 rw [Wr va vb d,ZN,XJ]
theorem fF (c:Bool) {n:Nat} (h:n<=a.length+b.length):XG (Vb a b c n)=some 0:=by
 obtain ⟨e,hs⟩:=WM va vb (n:=n) h;have i:=va.len;have j:=vb.len;have f:=YQ (s0 c) (UD a b n);have g:(UD a b n).length=n:=VE va vb h;unfold XG;rw [show (Vb a b c n).1=Zn a b (pos a b n).1 (pos a b n).2 from rfl,ZP va vb e,Sx,TQ,if_pos rfl];refine UC (x:=(0,((2,(n:Int)),()))) (VA (s1:=(1,((pos a b n).1:Int))) (s2:=(2,(n:Int))) ?_ ?_ rfl) ?_
 ·refine (aX 0 rfl rfl (x:=((pos a b n).1:Int)) rfl).trans ?_;show some (LR.nx ((1:Int),SF .i64 0 ((pos a b n).1:Int)))=_;rw [Sh (by omega),tg]
 ·refine (aX 1 rfl rfl (x:=((pos a b n).2:Int)) rfl).trans ?_;show some (LR.nx ((2:Int),SF .i64 ((pos a b n).1:Int) ((pos a b n).2:Int)))=_;rw [Sh (by omega),show ((pos a b n).1:Int)+((pos a b n).2:Int)=(n:Int) by omega]
 simp only [Tq,Tn];rw [show (Vb a b c n).2.2.1=WF (s0 c) (UD a b n) from rfl,show (Vb a b c n).2.2.2=(n:Int) from rfl,show (Vb a b c n).2.1=U6 (s0 c) (UD a b n) from rfl,TM,if_neg (by omega),TM,if_neg (by omega),TQ,if_pos rfl];rw [show (Zn a b (pos a b n).1 (pos a b n).2).1=[a,b] from rfl,pY va vb,Sx,TQ,if_pos rfl,Ti];rw [UP (by rw [VE va vb (dc _)];exact h),UP (kd _)];rw [show D0 (UD a b (a.length+b.length)) 0 n=UD a b n from by unfold D0;rw [vL,ll];exact Xe va vb h,XJ];rw [show (s0 c).2.2=c from rfl,gq (by omega) (XO va vb c h),Sx,TQ,if_pos rfl];unfold VX;rw [Sx,TM];cases n with
 | zero =>
  rw [if_neg (by omega),ah _ (by omega),Sx,Yg,R7];show br (Hg (Nm (Sv.beq false false) (Nm (seq [] []) (Nm (Sv.beq c c) true)))) _ _=_;rw [YD,YD,Yu];rfl
 | succ m =>
  obtain ⟨x,d,_⟩:=Vu va vb (n:=m) (by omega);rw [if_pos (by omega),show SK .i64 ((m+1:Nat):Int) 1=(m:Int) by rw [Sj (by omega)];omega,Ti];rw [TC (x:=x) (by rw [YZ va vb (dc _) (by omega)];exact d),ah _ (by omega),Sx,Yg,R7,ZF va vb c d];rw [YD,YD,Yu];rfl
theorem j7 {n:Nat} (h:n<=a.length+b.length):Xm (ZZ a b n)=some (((a.length+b.length-n:Nat):Int),0):=by
 obtain ⟨c,hs⟩:=WM va vb (n:=n) h;have f:=va.len;have g:=vb.len;have d:=c.ia;have e:=c.jb;unfold Xm;rw [show ZZ a b n=Zn a b (pos a b n).1 (pos a b n).2 from rfl,ZP va vb c,Sx,TQ,if_pos rfl];refine UC (x:=(0,((2,((a.length+b.length-n:Nat):Int)),()))) (VA (s1:=(1,(a.length:Int)-((pos a b n).1:Int))) (s2:=(2,((a.length+b.length-n:Nat):Int))) ?_ ?_ rfl) rfl
 ·refine (aX 0 rfl rfl (x:=a) rfl).trans ((WL 0 rfl (x:=((pos a b n).1:Int)) rfl).trans ?_);simp only [Tq,Tn];rw [Sj (by omega)];show some (LR.nx ((1:Int),SF .i64 0 ((a.length:Int)-((pos a b n).1:Int))))=_;rw [Sh (by omega),tg]
 ·refine (aX 1 rfl rfl (x:=b) rfl).trans ((WL 1 rfl (x:=((pos a b n).2:Int)) rfl).trans ?_);simp only [Tq,Tn];rw [Sj (by omega)];show some (LR.nx ((2:Int),SF .i64 ((a.length:Int)-((pos a b n).1:Int)) ((b.length:Int)-((pos a b n).2:Int))))=_;rw [Sh (by omega),show (a.length:Int)-((pos a b n).1:Int)+((b.length:Int)-((pos a b n).2:Int))=((a.length+b.length-n:Nat):Int) by omega]
theorem aN (c:Bool) {n:Nat} (h:n<=a.length+b.length):Ue (Vb a b c n)=some (((a.length+b.length-n:Nat):Int),0):=by
 unfold Ue;rw [fF va vb c h,Sx,TQ,if_pos rfl,show (Vb a b c n).1=ZZ a b n from rfl,j7 va vb h];rfl
theorem ae (c:Bool) {n:Nat} {x:Tj} (d:aU a b n=some x):Vb a b c (n+1)=(ZZ a b (n+1),((true,(x.1,c)),(WF (s0 c) (UD a b n)++(if keep (U6 (s0 c) (UD a b n)) x=true then [x] else []),((n+1:Nat):Int)))):=by
 unfold Vb;rw [Wr va vb d,ZN,XJ,dF]
theorem Yv (c:Bool) {n:Nat} {x:Tj} (h:n<a.length+b.length) (e:aU a b n=some x):U9 (U6 (s0 c) (UD a b n),x)=some (keep (U6 (s0 c) (UD a b n)) x,((true,(x.1,c)),0)):=by
 have d:=eV va vb c (n:=n) (by omega);rw [iU d.1 d.2 (kA va vb e),XJ];intro g;cases n with
 | zero=>cases g
 | succ m =>
  obtain ⟨y,f,_⟩:=Vu va vb (n:=m) (by omega);rw [ZF va vb c f];exact gX va vb (by omega) f e
def sW (k:Int) (s:Xg):Int×(Int×(List (List Tj)×(List Int×(List UI×(List Int×(Int×(Bool×(Xb×(Bool×(List Tj×Int)))))))))) :=
 (k,(0,(s.1.1,(s.1.2.1,(s.1.2.2.1,(s.1.2.2.2.1,(s.1.2.2.2.2,(s.2.1.1,(s.2.1.2.1,(s.2.1.2.2,(s.2.2.1,s.2.2.2)))))))))))
theorem cG (c:Bool) {n:Nat} (h:n<=a.length+b.length) {k:Nat}:Uy (Vb a b c n,(k:Int))=some (Vb a b c (n+min k (a.length+b.length-n)),(((min k (a.length+b.length-n):Nat):Int),0)):=by
 have w:=va.len;have z:=vb.len;have d : ∀ m,m<=a.length+b.length->(WF (s0 c) (UD a b m)).length<=m:=λm s=>by have:=YQ (s0 c) (UD a b m);have:=VE va vb s;omega
 obtain ⟨u,t⟩ : ∃ u,u=min k (a.length+b.length-n):=⟨_,rfl⟩
 have i:TX (k:Int) ((a.length+b.length-n:Nat):Int)=(u:Int):=by
  unfold TX;split<;>omega
 rw [<- t];unfold Uy;rw [aN va vb c h,Sx,TQ,if_pos rfl];simp only [i,Tq,Tn];rw [TP,if_neg (by omega),show (Vb a b c n).2.2.2=(n:Int) from rfl,Sh (by omega),TM,if_neg (by omega)];rw [show (Vb a b c n).2.2.1=WF (s0 c) (UD a b n) from rfl,show (Vb a b c n).1=ZZ a b n from rfl,UP (by have:=d n h;omega),UP (show (ZZ a b n).2.1.length<=1048576 from (show 2<=1048576 by omega)),TP];by_cases r:u=0
 ·rw [r,if_neg (by omega)];rfl
 rw [if_pos (by omega)];obtain ⟨x,o,_⟩:=Vu va vb (n:=n) (by omega);rw [bA va vb (by omega) o,Sx,TQ,if_pos rfl,show (Vb a b c n).2.1=U6 (s0 c) (UD a b n) from rfl,Yv va vb c (by omega) o,Sx,TQ,if_pos rfl]
 have q : ∀ j,1<=j->j<u -> ∃ y,aU a b (n+j)=some y:=λj f g=>by
  obtain ⟨y,e,_⟩:=Vu va vb (n:=n+j) (by omega);exact ⟨y,e⟩
 rw [TV];have hS:=ae va vb c o;cases p:keep (U6 (s0 c) (UD a b n)) x with
 | true =>
  rw [p] at hS;rw [if_pos rfl,gS (d n h) (by omega)];refine UC (x:=(1,(sW u (Vb a b c (n+u)),()))) (YX (λj=>sW j (Vb a b c (n+j))) 1 u ?_ (by omega) (by omega) (λj f g => ?_) ?_) ?_
  ·rw [hS,show SF .i64 (n:Int) 1=((n+1:Nat):Int) from Tu (by omega)];rfl
  ·obtain ⟨y,e⟩:=q j f g;show br (S8 (j:Int) (u:Int)) _ _=_;rw [TP,if_pos (by omega)];show bd (U0 (ZZ a b (n+j))) _=_;rw [bA va vb (by omega) e,Sx,TQ,if_pos rfl];show bd (U9 (U6 (s0 c) (UD a b (n+j)),y)) _=_;rw [Yv va vb c (by omega) e,Sx,TQ,if_pos rfl,TV,show n+(j+1)=n+j+1 by omega,ae va vb c e];cases l:keep (U6 (s0 c) (UD a b (n+j))) y with
   | true =>
    rw [if_pos rfl,if_pos rfl];show gd (CF (BF (AS (WF (s0 c) (UD a b (n+j)))) (AS [y])) 1048576) _=_;rw [cY (d _ (by omega)) (by omega)];show some (LR.nx (SF .i64 (j:Int) 1,_))=_;unfold sW;simp only [Tu (show j+1<=9223372036854775807 by omega),Il];rw [show SF .i64 (Vb a b c (n+j)).2.2.2 1=((n+j+1:Nat):Int) from Tu (by omega)];rfl
   | false =>
    rw [if_neg (by simp),if_neg (by simp)];show some (LR.nx (SF .i64 (j:Int) 1,_))=_;unfold sW;simp only [Tu (show j+1<=9223372036854775807 by omega)];rw [show SF .i64 (Vb a b c (n+j)).2.2.2 1=((n+j+1:Nat):Int) from Tu (by omega),ey];rfl
  ·show br (S8 (u:Int) (u:Int)) _ _=_;rw [TP,if_neg (by omega)]
  ·rfl
 | false =>
  rw [p] at hS;rw [if_neg (by simp)];refine UC (x:=(1,(sW u (Vb a b c (n+u)),()))) (YX (λj=>sW j (Vb a b c (n+j))) 1 u ?_ (by omega) (by omega) (λj f g => ?_) ?_) ?_
  ·rw [hS,show SF .i64 (n:Int) 1=((n+1:Nat):Int) from Tu (by omega),if_neg (by simp),ey];rfl
  ·obtain ⟨y,e⟩:=q j f g;show br (S8 (j:Int) (u:Int)) _ _=_;rw [TP,if_pos (by omega)];show bd (U0 (ZZ a b (n+j))) _=_;rw [bA va vb (by omega) e,Sx,TQ,if_pos rfl];show bd (U9 (U6 (s0 c) (UD a b (n+j)),y)) _=_;rw [Yv va vb c (by omega) e,Sx,TQ,if_pos rfl,TV,show n+(j+1)=n+j+1 by omega,ae va vb c e];cases l:keep (U6 (s0 c) (UD a b (n+j))) y with
   | true =>
    rw [if_pos rfl,if_pos rfl];show gd (CF (BF (AS (WF (s0 c) (UD a b (n+j)))) (AS [y])) 1048576) _=_;rw [cY (d _ (by omega)) (by omega)];show some (LR.nx (SF .i64 (j:Int) 1,_))=_;unfold sW;simp only [Tu (show j+1<=9223372036854775807 by omega),Il];rw [show SF .i64 (Vb a b c (n+j)).2.2.2 1=((n+j+1:Nat):Int) from Tu (by omega)];rfl
   | false =>
    rw [if_neg (by simp),if_neg (by simp)];show some (LR.nx (SF .i64 (j:Int) 1,_))=_;unfold sW;simp only [Tu (show j+1<=9223372036854775807 by omega)];rw [show SF .i64 (Vb a b c (n+j)).2.2.2 1=((n+j+1:Nat):Int) from Tu (by omega),ey];rfl
  ·show br (S8 (u:Int) (u:Int)) _ _=_;rw [TP,if_neg (by omega)]
  ·rfl
end
end
section
open Go Sv
theorem Wq {α β σ S:Type} {l:List α} (mk:Nat->σ->S) (I:List α->Nat->σ->Prop) (Q:β->Prop) {f:S->Option (LR S β)} {s:S} (a:σ) (t:s=mk 0 a) (z:l.length<=9223372036854775807) (hi:I l 0 a)
  (w : ∀ a,I [] l.length a -> ∃ r,f (mk l.length a)=some (.dn r)/\Q r)
  (hc : ∀ k x m a,l.drop k=x::m->l[k]? = some x->k<l.length->I (x::m) k a->(∃ b,f (mk k a)=some (.nx (mk (k+1) b))/\I m (k+1) b) \/ ∃ r,f (mk k a)=some (.dn r)/\Q r) : ∃ r,loop f s=some r/\Q r:=by
 subst t
 have h : ∀ (m:List α) (k n:Nat) (a:σ),l.drop k=m->k<=l.length->m.length<n->I m k a -> ∃ r,IL n f (mk k a)=some r/\Q r:=by
  intro m
  induction m with
  | nil =>
   intro k n a e u g hi;obtain ⟨n,rfl⟩ : ∃ j,n=j+1:=⟨n-1,by omega⟩
   have o:k=l.length:=by
    have:=congrArg mu e;simp at this;omega
   subst o;obtain ⟨r,c,d⟩:=w a hi;exact ⟨r,UT c,d⟩
  | cons x m y =>
   intro k n a e u g hi;obtain ⟨n,rfl⟩ : ∃ j,n=j+1:=⟨n-1,by omega⟩
   have q:l[k]? = some x:=by
    have:=congrArg xk e;rw [sw] at this;simpa using this
   have i:k<l.length:=(a8.1 q).1
   have p:l.drop (k+1)=m:=by
    have:=congrArg vt e;rw [rz] at this;simpa using this
   rcases hc k x m a e q i hi with ⟨b,c,d⟩ | ⟨r,c,d⟩
   ·rw [UN c];exact y (k+1) n b p (by omega) (by simp at g;omega) d
   ·exact ⟨r,UT c,d⟩
 exact h l 0 _ a (by simp) (by omega) (by omega) hi
theorem YW {α:Type} (l m:List α) (g:l.length=m.length) (j:l.length<=9223372036854775806) {f:(Int×Bool)->Option (LR (Int×Bool) (Nat×((Int×Bool)×Unit)))}
  (hs : ∀ (k:Nat) x y,l[k]? = some x->m[k]? = some y->(x=y->f ((k:Int),false)=some (.nx (((k+1:Nat):Int),false)))/\(x≠y->f ((k:Int),false)=some (.dn (0,(((k:Int),false),())))))
  (d:f ((l.length:Int),false)=some (.dn (1,(((l.length:Int),false),())))) :
  ∃ r,loop f (0,false)=some r/\((l=m/\r.1=1)\/(l≠m/\r.1=0/\r.2.1.2=false)):=by
 refine Wq (l:=l) (σ:=Unit) (λk _=>((k:Int),false)) (λt k _=>t=l.drop k/\l.take k=m.take k) _ () rfl (by omega) ⟨by simp,by simp⟩ (λi h => ?_) (λk x t i hd b n h => ?_)
 ·refine ⟨_,d,.inl ⟨?_,rfl⟩⟩;have:=h.2;rw [x8,g,x8] at this;exact this
 ·have c:k<m.length:=by omega
  have a:m[k]? = some m[k]:=by simp [c]
  by_cases e:x=m[k]
  ·refine .inl ⟨(),(hs k x m[k] b a).1 e,?_,?_⟩
   ·have:=congrArg vt hd;rw [rz] at this;simp at this;exact this.symm
   ·rw [gs,gs,h.2,b,a,e]
  ·refine .inr ⟨_,(hs k x m[k] b a).2 e,.inr ⟨?_,rfl,rfl⟩⟩;intro e2;subst e2;rw [b] at a;exact e (Option.some.inj a)
theorem beq_eq (a b:Bool):Sv.beq a b=decide (a=b):=by cases a<;>cases b<;>rfl
theorem Vt (a b:Int):Oa a b=decide (a=b):=by
 unfold Oa;by_cases h:a=b<;>simp [h]
theorem Yf (p q:Prop) [Decidable p] [Decidable q]:Nm (decide p) (decide q)=decide (p/\q):=by unfold Nm;simp
theorem VB (p:Prop) [Decidable p]:Hg (decide p)=decide (¬ p):=by unfold Hg;simp
theorem Zp (a:Bool):Nm a true=a:=by cases a<;>rfl
theorem g9 (l m:List UI) (s:l.length<=9223372036854775806):UH (l,m)=some (decide (l=m)):=by
 unfold UH;simp only [Tq,Tn];rw [TQ];by_cases b:(l.length:Int)=(m.length:Int)
 ·rw [if_pos b];have c:l.length=m.length:=by omega
  obtain ⟨r,p,a⟩:=YW l m c s (f:=λs0=>br (S8 s0.1 (l.length:Int)) (λ_=>R1 s0.1 λt=>ix l t λn=>R1 s0.1 λw=>ix m w λo=>br (Hg (Nm (seq n.1 o.1) (Nm (Sv.beq n.2 o.2) true))) (λ_=>some (.dn ((0,((s0.1,false),()))))) λ_=>some (.nx (SF .i64 s0.1 1,s0.2))) λ_=>some (.dn ((1,(s0,()))))) (λk x y d j=>by
    have i:=(a8.1 d).1
    have g : ∀ {β:Type} (u v:Unit->Option β),br (Hg (Nm (seq x.1 y.1) (Nm (Sv.beq x.2 y.2) true))) u v=if x=y then v () else u ():=by
     intro β u v;rw [Zp,Zl,beq_eq,Yf,VB,VG];by_cases e:x=y
     ·subst e;simp
     ·rw [if_pos (λh=>e (tb h.1 h.2)),if_neg e]
    constructor
    ·intro e;simp only;rw [rl i,Sc,Ti,TC d,Ti,TC j,g,if_pos e,Tu (by omega)]
    ·intro e;simp only
     rw [rl i,Sc,Ti,TC d,Ti,TC j,g,if_neg e]) (by simp only;rw [re];rfl)
  refine UC p ?_;rcases a with ⟨e,a⟩ | ⟨e,a,q⟩
  ·rw [Sy,a];simp [e]
  ·rw [Sy,a];simp [e,q]
 ·rw [if_neg b];have : ¬ l=m:=λe=>b (by rw [e]);simp [this]
theorem ZL (l m:List Int) (n:l.length<=9223372036854775806):Tz (l,m)=some (decide (l=m)):=by
 unfold Tz;simp only [Tq,Tn];rw [TQ];by_cases b:(l.length:Int)=(m.length:Int)
 ·rw [if_pos b];have c:l.length=m.length:=by omega
  obtain ⟨r,i,a⟩:=YW l m c n (f:=λs0=>br (S8 s0.1 (l.length:Int)) (λ_=>R1 s0.1 λo=>ix l o λq=>R1 s0.1 λp=>ix m p λs=>br (Ry q s) (λ_=>some (.dn ((0,((s0.1,false),()))))) λ_=>some (.nx (SF .i64 s0.1 1,s0.2))) λ_=>some (.dn ((1,(s0,()))))) (λk x y d h=>by
    have g:=(a8.1 d).1;constructor
    ·intro e;simp only;rw [rl g,Sc,Ti,TC d,Ti,TC h,TQ,if_pos e,Tu (by omega)]
    ·intro e;simp only
     rw [rl g,Sc,Ti,TC d,Ti,TC h,TQ,if_neg e]) (by simp only;rw [re];rfl)
  refine UC i ?_;rcases a with ⟨e,a⟩ | ⟨e,a,j⟩
  ·rw [Sy,a];simp [e]
  ·rw [Sy,a];simp [e,j]
 ·rw [if_neg b];have : ¬ l=m:=λe=>b (by rw [e]);simp [this]
theorem al {β:Type} (x y:Tj) (u v:Unit->Option β):br (Hg (Nm (seq x.1 y.1) (Nm (seq x.2.1 y.2.1) (Nm (Sv.beq x.2.2.1 y.2.2.1) (Nm (Oa x.2.2.2 y.2.2.2) true))))) u v=if x=y then v () else u ():=by
 rw [Zp,Zl,Zl,beq_eq,Vt,Yf,Yf,Yf,VB,VG];by_cases e:x=y
 ·subst e;simp
 ·rw [if_pos (λh=>e (tb h.1 (tb h.2.1 (tb h.2.2.1 h.2.2.2)))),if_neg e]
theorem W0 (l m:List Tj) (p:l.length<=9223372036854775806):Uj (l,m)=some (decide (l=m)):=by
 unfold Uj;simp only [Tq,Tn];rw [TQ];by_cases d:(l.length:Int)=(m.length:Int)
 ·rw [if_pos d];have g:l.length=m.length:=by omega
  obtain ⟨r,n,a⟩:=YW l m g p (f:=λs0=>br (S8 s0.1 (l.length:Int)) (λ_=>R1 s0.1 λq=>ix l q λb=>R1 s0.1 λs=>ix m s λc=>br (Hg (Nm (seq b.1 c.1) (Nm (seq b.2.1 c.2.1) (Nm (Sv.beq b.2.2.1 c.2.2.1) (Nm (Oa b.2.2.2 c.2.2.2) true))))) (λ_=>some (.dn ((0,((s0.1,false),()))))) λ_=>some (.nx (SF .i64 s0.1 1,s0.2))) λ_=>some (.dn ((1,(s0,()))))) (λk x y h j=>by
    have i:=(a8.1 h).1;constructor
    ·intro e;simp only;rw [rl i,Sc,Ti,TC h,Ti,TC j,al,if_pos e,Tu (by omega)]
    ·intro e;simp only
     rw [rl i,Sc,Ti,TC h,Ti,TC j,al,if_neg e]) (by simp only;rw [re];rfl)
  refine UC n ?_;rcases a with ⟨e,a⟩ | ⟨e,a,o⟩
  ·rw [Sy,a];simp [e]
  ·rw [Sy,a];simp [e,o]
 ·rw [if_neg d];have : ¬ l=m:=λe=>d (by rw [e]);simp [this]
theorem X8 (l m:List Tj) (a:l.length<=9223372036854775806):Uu (l,m)=some (decide (l=m)):=by
 unfold Uu;rw [W0 l m a];rfl
instance:DecidableEq Tj:=inferInstance
instance:DecidableEq (List Tj):=inferInstance
instance:DecidableEq (List (List Tj)):=inferInstance
instance:DecidableEq UI:=inferInstance
instance:DecidableEq Vw:=inferInstance
instance:DecidableEq VZ:=inferInstance
instance:DecidableEq Ul:=inferInstance
instance:DecidableEq Xg:=inferInstance
theorem dO (x y:Xg) (n:x.1.1.length<=1000) (i : ∀ l∈x.1.1,l.length<=1000000) (o:x.1.2.1.length<=1000) (p:x.1.2.2.1.length<=1000) (q:x.1.2.2.2.1.length<=1000) (s:x.2.2.1.length<=1000000):Vv (x,y)=some (decide (x=y)):=by
 obtain ⟨⟨a,E,F,G,M⟩,⟨xs,L,J⟩,I,K⟩:=x;obtain ⟨⟨b,N,P,S,Z⟩,⟨X,Y,O⟩,W,U⟩:=y;simp only at n i o p q s;unfold Vv;simp only [Tq,Tn];rw [TQ];by_cases g:(a.length:Int)=(b.length:Int)
 ·rw [if_pos g];have h:a.length=b.length:=by omega
  obtain ⟨r,z,d⟩:=YW a b h (by omega) (f:=λs0=>br (S8 s0.1 (a.length:Int)) (λ_=>R1 s0.1 λu=>ix a u λC=>R1 s0.1 λw=>ix b w λD=>bd (Uu (C,D)) λB=>br (Hg B) (λ_=>some (.dn ((0,((s0.1,false),()))))) λ_=>some (.nx (SF .i64 s0.1 1,s0.2))) λ_=>some (.dn ((1,(s0,()))))) (λk x y c m=>by
    have j:=(a8.1 c).1;have t:=i x (bo c);constructor
    ·intro e;simp only;rw [rl j,Sc,Ti,TC c,Ti,TC m,X8 _ _ (by omega),Sx,VB,VG,if_neg (by simp [e]),Tu (by omega)]
    ·intro e;simp only
     rw [rl j,Sc,Ti,TC c,Ti,TC m,X8 _ _ (by omega),Sx,VB,VG,if_pos e]) (by simp only;rw [re];rfl)
  refine UC z ?_;simp only [ZL _ _ (show E.length<=9223372036854775806 by omega),ZL _ _ (show G.length<=9223372036854775806 by omega),g9 _ _ (show F.length<=9223372036854775806 by omega),X8 _ _ (show I.length<=9223372036854775806 by omega),Sx,VG,Vt,Zl,beq_eq,Zp,Yf,Sy];rw [TV];rcases d with ⟨e,d⟩ | ⟨e,d,A⟩
  ·rw [if_neg (show ¬ r.1=0 by omega)]
   repeat' split
   all_goals simp_all
  ·rw [if_pos d,if_neg (show ¬ r.2.1.2=true by simp [A])];simp [e]
 ·rw [if_neg g];have : ¬ a=b:=λe=>g (by rw [e]);simp [this]
end
section
open Go Sv
def kR (a:List Int) (most:Int) (r:UJ):Int :=
 if r.1<1\/r.1>1000000 then 7 else if (WX r.2).2≠0 then (WX r.2).2 else if r.2.length=0 then 4 else if (r.2.length:Int)>most then 3 else if r.1∈a then 8 else 0
def ZV (most:Int):Nat->List Int->List UJ->Option (Nat×Int)
 | _,_,[]=>none
 | k,ids,r::rs=>if kR ids most r≠0 then some (k,kR ids most r) else ZV most (k+1) (ids++[r.1]) rs
def Uv (B:Int) (i:Nat):Int:=B*2 ^ i
def ZU (B:Int):Nat->List Int->List (List UJ)->Option (Nat×(Nat×Int))
 | _,_,[]=>none
 | i,ids,rs::ls=>if rs.length>2 then some (i,(0,3)) else match ZV (Uv B i) 0 ids rs with
  | some (k,e)=>some (i,(k,e))
  | none=>ZU B (i+1) (ids++rs.map (·.1)) ls
def Va (L:Tl):Int×(Int×Int) :=
 if L.1<1\/L.1>16 then (0,(0,7)) else if L.2.length>12 then (0,(0,3)) else match ZU L.1 0 [] L.2 with
  | some (i,(k,e))=>((i:Int),((k:Int),e))
  | none=>if L.2.getLast? = some [] then (((L.2.length-1:Nat):Int),(0,6)) else (0,(0,0))
theorem gj {most:Int} : ∀ {rs:List UJ} {k:Nat} {a:List Int} {c:Nat} {e:Int},ZV most k a rs=some (c,e)->e≠0
 | [],_,_,_,_,h=>by cases h
 | r::rs,k,a,c,e,h=>by
  unfold ZV at h;by_cases b:kR a most r≠0
  ·rw [if_pos b] at h;cases h;exact b
  ·rw [if_neg b] at h;exact gj h
theorem cd {B:Int} : ∀ {ls:List (List UJ)} {i:Nat} {a:List Int} {d f:Nat} {e:Int},ZU B i a ls=some (d,(f,e))->e≠0
 | [],_,_,_,_,_,h=>by cases h
 | rs::ls,i,a,d,f,e,h=>by
  unfold ZU at h;by_cases c:rs.length>2
  ·rw [if_pos c] at h;cases h;decide
  ·rw [if_neg c] at h;cases b:ZV (Uv B i) 0 a rs with
   | none=>rw [b] at h;exact cd h
   | some x=>rw [b] at h;cases h;exact gj b
def ba (a:List Int):List (Int×Bool):=a.map λi=>(i,true)
theorem j8 (c:List Int) (i:Int):SO (MU (λa b=>Oa a b) (ba c) i) false=decide (i∈c):=by
 induction c with
 | nil=>rfl
 | cons j c d =>
  show SO (bif Oa i j then some true else MU (λa b=>Oa a b) (ba c) i) false=_
  rw [Vt];by_cases h:i=j
  ·simp [h,SO]
  ·simp only [h,decide_false,cond_false,eo,false_or];exact d
theorem j9 {c:List Int} {i:Int} (h:i ∉ c):IT (λa b=>Oa a b) (ba c) i true=ba (c++[i]):=by
 induction c with
 | nil=>rfl
 | cons j c f =>
  show (bif Oa i j then (i,true)::ba c else (j,true)::IT (λa b=>Oa a b) (ba c) i true)=_
  rw [Vt];have d : ¬ i=j:=λe=>h (by simp [e]);rw [f (λe=>h (by simp [e]))];simp only [d,decide_false,cond_false];rfl
theorem cm (r:UJ) (b:r.2.length<=9223372036854775807):Xv r=some (if r.1<1\/r.1>1000000 then (-1,7) else WX r.2):=by
 unfold Xv;rw [TP,TM,Xc _ b,Sx];by_cases h:r.1<1
 ·rw [if_pos h,if_pos (.inl h)]
 ·rw [if_neg h];by_cases a:r.1>1000000
  ·rw [if_pos a,if_pos (.inr a)]
  ·rw [if_neg a,if_neg (by omega)]
theorem bw (r:UJ) (most:Int) (b:r.2.length<=9223372036854775807):Vk (r,most)=some (kR [] most r):=by
 unfold Vk kR;rw [cm r b,Sx];simp only [Tq,Tn];by_cases h:r.1<1\/r.1>1000000
 ·rw [if_pos h,if_pos h];rfl
 ·rw [if_neg h,if_neg h,TQ];by_cases a:(WX r.2).2=0
  ·rw [if_pos a,if_neg (by simp [a]),TK,TM]
   repeat' split
   all_goals first | rfl | (exfalso;omega) | simp_all
  ·rw [if_neg a,if_pos a]
theorem su (a:List Int) (most:Int) (r:UJ):kR a most r=if kR [] most r=0 then (if r.1∈a then 8 else 0) else kR [] most r:=by
 unfold kR
 repeat' split
 all_goals simp_all
theorem tI (i:Nat) (h:i<=12):(2:Int) ^ i<=4096/\1<=(2:Int) ^ i:=by
 have a:(2:Nat) ^ i<=2 ^ 12:=Nat.pow_le_pow_right (by omega) h;have b:1<=(2:Nat) ^ i:=Nat.one_le_two_pow;have c:((2 ^ i:Nat):Int)=(2:Int) ^ i:=by simp
 omega
theorem d7 {B:Int} {i:Nat} (a:1<=B) (b:B<=16) (hi:i<=12):1<=Uv B i/\Uv B i<=65536:=by
 obtain ⟨c,d⟩:=tI i hi;unfold Uv;constructor
 ·have:=yw a d (by omega) (by omega);omega
 ·have:=yw b c (by omega) (by omega);omega
theorem aE {B:Int} {i:Nat} (a:1<=B) (b:B<=16) (hi:i<=12):Rb .i64 B (i:Int)=Uv B i:=by
 have c:=d7 a b hi;unfold Rb;rw [show min ((i:Int).toNat) IntKind.i64.bits=i by rw [bl];exact vv (Nat.le_trans hi (by decide))];unfold Uv at c ⊢;exact IntWalk.i64_in _ (by omega)
def Q1:Option (Nat×(Nat×Int))->Int->Int->Int->Prop
 | some (i,(k,e)),a,b,c=>a=(k:Int)/\b=(i:Int)/\c=e
 | none,_,_,c=>c=0
def Q2 (m:List (Int×Bool)):Option (Nat×Int)->Nat->Int->Int->List (Int×Bool)->Prop
 | some (k,e),r,a,c,_=>r=0/\a=(k:Int)/\c=e
 | none,r,_,c,m'=>r=1/\c=0/\m'=m
theorem Yr (L:Tl) (hb:L.2.length<=1048576) (hr : ∀ rs∈L.2,rs.length<=1048576 /\ ∀ r∈rs,r.2.length<=9223372036854775807):VV L=some (Va L):=by
 unfold VV Va;simp only [Tq,Tn];rw [TP,TM,TM];by_cases z:L.1<1
 ·rw [if_pos z,if_pos (.inl z)]
 rw [if_neg z];by_cases A:L.1>16
 ·rw [if_pos A,if_pos (.inr A)]
 rw [if_neg A,if_neg (show ¬ (L.1<1\/L.1>16) by omega)];by_cases hl:(L.2.length:Int)>12
 ·rw [if_pos hl,if_pos (by omega)]
 rw [if_neg hl,if_neg (by omega)];have hl2:L.2.length<=12:=by omega
 obtain ⟨T,I⟩ : ∃ T,T=ZU L.1 0 [] L.2:=⟨_,rfl⟩;rw [<- I]
 have C : ∀ W:Int,W=0->T=none->(br (Ry W 0) (λ_=>(none:Option (Int×(Int×Int)))) λ_=>br (S6 (L.2.length:Int) 0) (λ_=>R1 (SK .i64 (L.2.length:Int) 1) λO=>ix L.2 O λX=>br (Oa (X.length:Int) 0) (λ_=>some ((SK .i64 (L.2.length:Int) 1,(0,6)))) λ_=>some ((0,(0,0)))) λ_=>some ((0,(0,0))))=some (if L.2.getLast? = some [] then (((L.2.length-1:Nat):Int),(0,6)) else (0,(0,0))):=by
  intro W o _;rw [TQ,if_pos o,TM];by_cases hn:L.2=[]
  ·rw [hn];rfl
  ·have hp:=ec.2 hn;rw [if_pos (by omega),show SK .i64 (L.2.length:Int) 1=((L.2.length-1:Nat):Int) by rw [Sj (by omega)];omega,Ti,oy];have n:L.2[L.2.length-1]? = some (L.2[L.2.length-1]'(by omega)):=by simp
   rw [TC n,n,TK];by_cases N:L.2[L.2.length-1]'(by omega)=[]
   ·rw [N];simp
   ·rw [if_neg (by have:=ec.2 N;omega),if_neg (by simp [N])]
 obtain ⟨r,S,b⟩:=Wq (l:=L.2) (σ:=Int×(Int×List Int)) (λi j=>(j.1,(j.2.1,((0:Int),((i:Int),ba j.2.2)))))
  (λm i j=>ZU L.1 i j.2.2 m=T) (λ(r:Nat×((Int×(Int×(Int×(Int×List (Int×Bool)))))×Unit))=>Q1 T r.2.1.1 r.2.1.2.1 r.2.1.2.2.1)
  (f:=λs0=>br (S8 s0.2.2.2.1 (L.2.length:Int)) (λ_=>R1 s0.2.2.2.1 λk1=>ix L.2 k1 λY=>br (S6 (Y.length:Int) 2) (λ_=>some (.dn ((0,((0,(s0.2.2.2.1,(3,s0.2.2.2))),()))))) λ_=>bd (loop (λa=>br (S8 a.2.1 (Y.length:Int)) (λ_=>R1 a.2.1 λP=>ix Y P λp=>gd (Rx s0.2.2.2.1 0) λ_=>bd (Vk (p,Rb .i64 L.1 s0.2.2.2.1)) λg=>br (Oa g 0) (λ_=>br (SO (MU ((λJ=>(λK=>Oa J K))) a.2.2.2 p.1) false) (λ_=>some (.dn ((0,((a.2.1,(a.2.1,(8,a.2.2.2))),()))))) λ_=>br (Ry g 0) (λ_=>some (.dn ((0,((a.2.1,(a.2.1,(g,a.2.2.2))),()))))) λ_=>some (.nx ((a.2.1,(SF .i64 a.2.1 1,(g,IT ((λM=>(λw=>Oa M w))) a.2.2.2 p.1 true)))))) λ_=>br (Ry g 0) (λ_=>some (.dn ((0,((a.2.1,(a.2.1,(g,a.2.2.2))),()))))) λ_=>some (.nx ((a.2.1,(SF .i64 a.2.1 1,(g,IT ((λx=>(λy=>Oa x y))) a.2.2.2 p.1 true)))))) λ_=>some (.dn ((1,(a,()))))) ((0,(0,(s0.2.2.1,s0.2.2.2.2))))) λd=>br (neq d.1 0) (λ_=>some (.dn ((0,((d.2.1.1,(s0.2.2.2.1,(d.2.1.2.2.1,(s0.2.2.2.1,d.2.1.2.2.2)))),()))))) λ_=>some (.nx ((d.2.1.1,(s0.2.2.2.1,(d.2.1.2.2.1,(SF .i64 s0.2.2.2.1 1,d.2.1.2.2.2))))))) λ_=>some (.dn ((0,(s0,())))))
  (s:=(0,(0,(0,(0,[]))))) (0,(0,[])) rfl (by omega) I.symm (λj h=>by
   refine ⟨_,by simp only;rw [re];rfl,?_⟩;simp only at h ⊢;rw [<- h];exact rfl) (λi rs m j hd n hi h=>by
   obtain ⟨s1,s2,c⟩:=j;simp only at h ⊢;obtain ⟨hrs1,F⟩:=hr rs (bo n);rw [rl hi,Sc,Ti,TC n,TM];unfold ZU at h;by_cases Z:rs.length>2
   ·rw [if_pos (by omega)];rw [if_pos Z] at h;refine .inr ⟨_,rfl,?_⟩;rw [<- h];exact ⟨rfl,rfl,rfl⟩
   rw [if_neg (by omega)];rw [if_neg Z] at h;obtain ⟨U,hU⟩ : ∃ U,U=ZV (Uv L.1 i) 0 c rs:=⟨_,rfl⟩;rw [<- hU] at h
   obtain ⟨r,S,b⟩:=Wq (l:=rs) (σ:=Int) (λk j=>(j,((k:Int),((0:Int),ba (c++(rs.take k).map (·.1))))))
    (λm k _=>ZV (Uv L.1 i) k (c++(rs.take k).map (·.1)) m=U) (λ(r:Nat×((Int×(Int×(Int×List (Int×Bool))))×Unit))=>Q2 (ba (c++rs.map (·.1))) U r.1 r.2.1.1 r.2.1.2.2.1 r.2.1.2.2.2)
    (f:=λa=>br (S8 a.2.1 (rs.length:Int)) (λ_=>R1 a.2.1 λP=>ix rs P λp=>gd (Rx (i:Int) 0) λ_=>bd (Vk (p,Rb .i64 L.1 (i:Int))) λg=>br (Oa g 0) (λ_=>br (SO (MU ((λJ=>(λK=>Oa J K))) a.2.2.2 p.1) false) (λ_=>some (.dn ((0,((a.2.1,(a.2.1,(8,a.2.2.2))),()))))) λ_=>br (Ry g 0) (λ_=>some (.dn ((0,((a.2.1,(a.2.1,(g,a.2.2.2))),()))))) λ_=>some (.nx ((a.2.1,(SF .i64 a.2.1 1,(g,IT ((λM=>(λw=>Oa M w))) a.2.2.2 p.1 true)))))) λ_=>br (Ry g 0) (λ_=>some (.dn ((0,((a.2.1,(a.2.1,(g,a.2.2.2))),()))))) λ_=>some (.nx ((a.2.1,(SF .i64 a.2.1 1,(g,IT ((λx=>(λy=>Oa x y))) a.2.2.2 p.1 true)))))) λ_=>some (.dn ((1,(a,())))))
    (s:=(0,(0,(0,ba c)))) 0 (by simp) (by omega) (by simp [hU]) (λj h=>by
     refine ⟨_,by simp only;rw [re];rfl,?_⟩;rw [<- h];exact ⟨rfl,rfl,by simp⟩) (λk r m j hd n hk h=>by
     simp only at h ⊢;have hr2:=F r (bo n);have G:(rs.take (k+1)).map (·.1)=(rs.take k).map (·.1)++[r.1]:=by rw [gs,n];simp
     rw [rl hk,Sc,Ti,TC n,show gd (Rx (i:Int) 0)=λ(q:Unit->Option (LR (Int×(Int×(Int×List (Int×Bool)))) (Nat×((Int×(Int×(Int×List (Int×Bool))))×Unit))))=>q () from by unfold Rx;simp [gd];rfl,aE (by omega) (by omega) (by omega)];simp only;rw [bw _ _ (by omega),Sx,TK,j8,TQ];unfold ZV at h;rw [su] at h;by_cases o:kR [] (Uv L.1 i) r=0
     ·rw [if_pos o] at h;rw [if_pos o,if_pos o,VG];by_cases E:r.1∈c++(rs.take k).map (·.1)
      ·rw [if_pos E];rw [if_pos E,if_pos (by decide)] at h;refine .inr ⟨_,rfl,?_⟩;rw [<- h];exact ⟨rfl,rfl,rfl⟩
      ·rw [if_neg E];rw [if_neg E,if_neg (by decide)] at h;refine .inl ⟨(k:Int),?_,?_⟩
       ·rw [j9 E,o,Tv n (by omega),G,eb]
       ·rw [G,<- eb];exact h
     ·rw [if_neg o,if_pos o] at h;rw [if_neg o,if_neg o];refine .inr ⟨_,rfl,?_⟩;rw [<- h]
      exact ⟨rfl,rfl,rfl⟩)
   rw [S,Sx,Sy];cases D:U with
   | some u =>
    obtain ⟨k,e⟩:=u;rw [D] at b h;rw [if_pos b.1];refine .inr ⟨_,rfl,?_⟩;rw [<- h];exact ⟨b.2.1,rfl,b.2.2⟩
   | none =>
    rw [D] at b h;rw [if_neg (show ¬ r.1=0 by have:=b.1;omega)];refine .inl ⟨(r.2.1.1,((i:Int),c++rs.map (·.1))),?_,h⟩
    rw [b.2.1,b.2.2,Tv n (by omega)])
 refine UC S ?_;cases B:T with
 | some t =>
  obtain ⟨i,k,e⟩:=t;rw [B] at b I;rw [TQ,if_neg (by rw [b.2.2];exact cd I.symm),b.1,b.2.1,b.2.2]
 | none =>
  rw [B] at b;have h:=C _ b B;have q3:r.2.1.2.2.1=0:=b;rw [TQ,if_pos q3] at h ⊢;exact h
end
section
open Go Sv
structure VR (most:Int) (r:UJ):Prop where
 id1:1<=r.1
 id2:r.1<=1000000
 vl:VL r.2
 ne:r.2≠[]
 le:(r.2.length:Int)<=most
theorem jw {a:List Int} {most:Int} {r:UJ}:kR a most r=0<->VR most r/\r.1 ∉ a:=by
 unfold kR;constructor
 ·intro h;by_cases f:r.1<1\/r.1>1000000
  ·rw [if_pos f] at h;cases h
  rw [if_neg f] at h;by_cases b:(WX r.2).2≠0
  ·rw [if_pos b] at h;exact absurd h b
  rw [if_neg b] at h;by_cases c:r.2.length=0
  ·rw [if_pos c] at h;cases h
  rw [if_neg c] at h;by_cases g:(r.2.length:Int)>most
  ·rw [if_pos g] at h;cases h
  rw [if_neg g] at h;by_cases d:r.1∈a
  ·rw [if_pos d] at h;cases h
  exact ⟨⟨by omega,by omega,aA.1 (by simpa using b),by intro e;rw [e] at c;exact c rfl,by omega⟩,d⟩
 ·rintro ⟨h,d⟩;rw [if_neg (by have:=h.id1;have:=h.id2;omega),if_neg (by simp [aA.2 h.vl]),if_neg (by have:=ec.2 h.ne;omega),if_neg (by have:=h.le;omega),if_neg d]
def qg (r:UJ):Int:=r.1
theorem aK {most:Int} : ∀ {rs:List UJ} {k:Nat} {a:List Int},ZV most k a rs=none<->(∀ r∈rs,VR most r/\r.1 ∉ a)/\(rs.map qg).Nodup
 | [],k,a=>by simp [ZV]
 | r::rs,k,a=>by
  unfold ZV;by_cases h:kR a most r=0
  ·rw [if_neg (by simp [h]),aK (rs:=rs)];have f:=jw.1 h;simp only [eo,forall_eq_or_imp,li,oj,ns,List.not_mem_nil,or_false,ox,not_exists,not_and,not_or];constructor
   ·rintro ⟨b,d⟩;exact ⟨⟨f,λx c=>⟨(b x c).1,(b x c).2.1⟩⟩,λx c e=>(b x c).2.2 e,d⟩
   ·rintro ⟨⟨_,b⟩,d,g⟩;exact ⟨λx c=>⟨(b x c).1,(b x c).2,d x c⟩,g⟩
  ·rw [if_pos h];simp only [reduceCtorEq,false_iff,not_and];intro b;exact absurd (jw.2 (b r (by simp))) h
theorem ZO {B:Int} : ∀ {ls:List (List UJ)} {i:Nat} {c:List Int},ZU B i c ls=none<->(∀ k rs,ls[k]? = some rs->rs.length<=2 /\ ∀ r∈rs,VR (Uv B (i+k)) r/\r.1 ∉ c)/\(ls.flatten.map qg).Nodup
 | [],i,c=>by simp [ZU]
 | rs::ls,i,c=>by
  unfold ZU;by_cases h:rs.length>2
  ·rw [if_pos h];simp only [reduceCtorEq,false_iff,not_and];intro j;have:=(j 0 rs rfl).1;omega
  ·rw [if_neg h];cases g:ZV (Uv B i) 0 c rs with
   | some x =>
    simp only [reduceCtorEq,false_iff,not_and];intro j l
    have m:ZV (Uv B i) 0 c rs=none:=aK.2 ⟨(j 0 rs rfl).2,by
     simp only [iP,nn] at l
     exact (pg.1 l).1⟩
    rw [g] at m;cases m
   | none =>
    have q:=aK.1 g;simp only;rw [ZO (ls:=ls)];simp only [iP,nn,ns,not_or,ox];constructor
    ·rintro ⟨j,l⟩;refine ⟨λk d n => ?_,?_⟩
     ·cases k with
      | zero=>cases n;exact ⟨by omega,q.1⟩
      | succ k =>
       have m:=j k d n
       exact ⟨m.1,λr g=>by
        have:=m.2 r g;rw [show i+(k+1)=i+1+k by omega]
        exact ⟨this.1,this.2.1⟩⟩
     ·rw [pg];refine ⟨q.2,l,?_⟩;intro a s b t e;subst e;obtain ⟨r,g,e1⟩:=ox.1 s;obtain ⟨p,f,e2⟩:=ox.1 t;obtain ⟨d,o,f⟩:=l4.1 f;obtain ⟨k,n⟩:=ed o;exact ((j k d n).2 p f).2.2 ⟨r,g,by unfold qg at e1 e2;omega⟩
    ·rintro ⟨j,l⟩;rw [pg] at l;refine ⟨λk d n => ?_,l.2.1⟩;have m:=j (k+1) d n;refine ⟨m.1,λr g => ?_⟩;have:=m.2 r g;rw [show i+(k+1)=i+1+k by omega] at this;refine ⟨this.1,this.2,?_⟩;rintro ⟨p,f,e⟩;exact l.2.2 (qg p) (l5 f) (qg r) (l5 (l4.2 ⟨d,bo n,g⟩)) e
structure VLev (L:Tl):Prop where
 B1:1<=L.1
 B2:L.1<=16
 len:L.2.length<=12
 lev : ∀ i rs,L.2[i]? = some rs->rs.length<=2 /\ ∀ r∈rs,VR (Uv L.1 i) r
 ids:(L.2.flatten.map qg).Nodup
 last:L.2.getLast? ≠ some []
theorem Xd {L:Tl}:(Va L).2.2=0<->VLev L:=by
 unfold Va;constructor
 ·intro h;by_cases c:L.1<1\/L.1>16
  ·rw [if_pos c] at h;cases h
  rw [if_neg c] at h;by_cases d:L.2.length>12
  ·rw [if_pos d] at h;cases h
  rw [if_neg d] at h;cases a:ZU L.1 0 [] L.2 with
  | some x =>
   obtain ⟨i,k,e⟩:=x;rw [a] at h;exact absurd h (cd a)
  | none =>
   rw [a] at h;simp only at h;by_cases f:L.2.getLast? = some []
   ·rw [if_pos f] at h;cases h
   ·have g:=ZO.1 a
    exact ⟨by omega,by omega,by omega,λi rs hi=>by
     have:=g.1 i rs hi;rw [ee] at this
     exact ⟨this.1,λr b=>(this.2 r b).1⟩,g.2,f⟩
 ·intro h
  have a:ZU L.1 0 [] L.2=none:=ZO.2 ⟨λk rs j=>by
   have:=h.lev k rs j;rw [ee]
   exact ⟨this.1,λr b=>⟨this.2 r b,by simp⟩⟩,h.ids⟩
  rw [if_neg (by have:=h.B1;have:=h.B2;omega),if_neg (by have:=h.len;omega),a];simp only;rw [if_neg h.last]
theorem WT {L:Tl} (h:VLev L):Va L=(0,(0,0)):=by
 have a:ZU L.1 0 [] L.2=none:=ZO.2 ⟨λk rs b=>by
  have:=h.lev k rs b;rw [ee]
  exact ⟨this.1,λr c=>⟨this.2 r c,by simp⟩⟩,h.ids⟩
 unfold Va;rw [if_neg (by have:=h.B1;have:=h.B2;omega),if_neg (by have:=h.len;omega),a];simp only;rw [if_neg h.last]
def WS (l:List (List UJ)):Int:=l.foldl (λm rs=>rs.foldl (λm r=>TY m r.1) m) 0
def Tp:Nat->List (List UJ)->List Int
 | _,[]=>[]
 | i,rs::ls=>(if rs.length=2 then [(i:Int)] else [])++Tp (i+1) ls
theorem dN (L:Tl) (e:L.2.length<=1048576) (c : ∀ rs∈L.2,rs.length<=1048576):Wg L=some (WS L.2):=by
 unfold Wg;simp only [Tq,Tn]
 rw [Un (l:=L.2) (σ:=Int) (s:=((0:Int),(0:Int))) (λi m=>(m,(i:Int))) (λ_ _ _=>True) (λls _ m=>(0,((ls.foldl (λm rs=>rs.foldl (λm r=>TY m r.1) m) m,(L.2.length:Int)),()))) 0 rfl (by omega) trivial (λm _=>by
  simp only;rw [re];rfl) (λi rs ls m hd a hi _=>by
   refine ⟨rs.foldl (λm r=>TY m r.1) m,?_,trivial,rfl⟩;have d:=c rs (bo a);simp only
   rw [rl hi,Sc,Ti,TC a,Un (l:=rs) (σ:=Int) (s:=((0:Int),m)) (λi m=>((i:Int),m)) (λ_ _ _=>True) (λl _ m=>(0,(((rs.length:Int),l.foldl (λm r=>TY m r.1) m),()))) m rfl (by omega) trivial (λm _=>by
    simp only;rw [re];rfl) (λk r l m hd a b _=>by
     refine ⟨TY m r.1,?_,trivial,rfl⟩;simp only
     rw [rl b,Sc,Ti,TC a,Tv a (by omega)]),Sx,Tv a (by omega)]),Sx]
 rfl
def ZT (L:Tl) (a:List Int) (i:Nat) (j:Job):Bool:=match a[i]? with
 | none=>true
 | some d=>if j.1≠d then true else if j.2.2.1.2.2=true/\j.1≠(L.2.length:Int)-1 then true else match L.2[d.toNat]? with
  | some [r0,r1]=>if j.2.2.2.2<0\/j.2.2.2.2>((r1.2.length+r0.2.length:Nat):Int) then true else decide (Vb r1.2 r0.2 j.2.2.1.2.2 j.2.2.2.2.toNat≠j.2)
  | _=>true
def Wp (L:Tl) (a:List Int):Nat->List Job->Option Nat
 | _,[]=>none
 | i,j::js=>if ZT L a i j=true then some i else Wp L a (i+1) js
def Tk (s:Th):Int×Int :=
 if (Va s.1).2.2≠0 then (-1,(Va s.1).2.2) else if s.2.2<1\/s.2.2>1000001 then (-1,7) else if s.2.2<=WS s.1.2 then (-1,6) else match Wp s.1 (Tp 0 s.1.2) 0 s.2.1 with
  | some i=>((i:Int),6)
  | none=>if s.2.1.length<(Tp 0 s.1.2).length then (-1,4) else (0,0)
theorem Xx : ∀ {ls:List (List UJ)} {i k:Nat} {d:Int},(Tp i ls)[k]? = some d -> ∃ n:Nat,d=((i+n:Nat):Int) /\ ∃ e f,ls[n]? = some [e,f]
 | [],i,k,d,h=>by cases h
 | rs::ls,i,k,d,h=>by
  unfold Tp at h;by_cases a:rs.length=2
  ·rw [if_pos a] at h;cases k with
   | zero =>
    simp at h;refine ⟨0,by simp [<- h],?_⟩
    match rs,a with
    | [e,f],_=>exact ⟨e,f,rfl⟩
   | succ k =>
    simp at h;obtain ⟨n,b,c⟩:=Xx h;exact ⟨n+1,by rw [b];congr 1;omega,c⟩
  ·rw [if_neg a] at h;simp at h;obtain ⟨n,b,c⟩:=Xx h;exact ⟨n+1,by rw [b];congr 1;omega,c⟩
theorem VS : ∀ (ls:List (List UJ)) (i:Nat),(Tp i ls).length<=ls.length
 | [],i=>dc _
 | rs::ls,i=>by
  have:=VS ls (i+1);unfold Tp;split<;>simp<;>omega
theorem dB {L:Tl} {n:Nat} {a b:UJ} (c:Bool) (h:L.2[n]? = some [a,b]) (d:VL a.2) (e:VL b.2):VM (L,((n:Int),c))=some ((n:Int),Vb b.2 a.2 c 0):=by
 unfold VM;simp only;rw [Ti,TC h,TC (x:=b) rfl,TC (x:=a) rfl,gv e d];rfl
theorem Z6 {a b:List Tj} (va:VL a) (d:VL b) (c:Bool) {n:Nat} (h:n<=a.length+b.length):(Vb a b c n).1.1.length<=1000/\(∀ l∈(Vb a b c n).1.1,l.length<=1000000)/\(Vb a b c n).1.2.1.length<=1000/\(Vb a b c n).1.2.2.1.length<=1000/\(Vb a b c n).1.2.2.2.1.length<=1000/\(Vb a b c n).2.2.1.length<=1000000:=by
 have j:=va.len;have k:=d.len;refine ⟨show 2<=1000 by omega,λl f => ?_,show 2<=1000 by omega,show 2<=1000 by omega,show 2<=1000 by omega,?_⟩
 ·have:l=a\/l=b:=by simpa [Vb,ZZ,Zn] using f
  rcases this with e | e<;>subst e<;>omega
 ·have g:=YQ (s0 c) (UD a b n);have i:=VE va d h;show (WF (s0 c) (UD a b n)).length<=_;omega
theorem ss {L:Tl} {n:Nat} {a b:UJ} {j:Job} (h:L.2[n]? = some [a,b]) (e:VL a.2) (f:VL b.2) {β:Type} (A B:Option β) :
  (bd (VM (L,((n:Int),j.2.2.1.2.2))) λc=>bd (Ue c.2) λl=>br (S8 j.2.2.2.2 0) (λ_=>A) λ_=>br (S6 j.2.2.2.2 l.1) (λ_=>A) λ_=>bd (Uy (c.2,j.2.2.2.2)) λm=>bd (Vv (m.1,j.2)) λo=>br (Hg o) (λ_=>A) λ_=>B)
  = if j.2.2.2.2<0\/j.2.2.2.2>((b.2.length+a.2.length:Nat):Int) then A else if Vb b.2 a.2 j.2.2.1.2.2 j.2.2.2.2.toNat=j.2 then B else A:=by
 rw [dB _ h e f,Sx,aN f e _ (kd _),Sx,TP,TM,ll];by_cases g:j.2.2.2.2<0
 ·rw [if_pos g,if_pos (.inl g)]
 rw [if_neg g];by_cases i:j.2.2.2.2>((b.2.length+a.2.length:Nat):Int)
 ·rw [if_pos i,if_pos (.inr i)]
 rw [if_neg i,if_neg (show ¬ (j.2.2.2.2<0\/j.2.2.2.2>((b.2.length+a.2.length:Nat):Int)) by omega)];obtain ⟨k,p⟩ : ∃ k:Nat,j.2.2.2.2=(k:Int):=⟨j.2.2.2.2.toNat,by omega⟩;rw [p,cG f e _ (kd _),Sx,ll,ee,vv (by omega),bl];obtain ⟨s1,s2,q,r,s,t⟩:=Z6 f e j.2.2.1.2.2 (n:=k) (by omega);rw [dO _ _ s1 s2 q r s t,Sx,VB,VG];by_cases d:Vb b.2 a.2 j.2.2.1.2.2 k=j.2
 ·rw [if_neg (by simp [d]),if_pos d]
 ·rw [if_pos d,if_neg d]
theorem eU (s:Th) (N:s.1.2.length<=1048576) (hr : ∀ rs∈s.1.2,rs.length<=1048576 /\ ∀ r∈rs,r.2.length<=9223372036854775807) (hj:s.2.1.length<=1048576):U7 s=some (Tk s):=by
 unfold U7 Tk;simp only [Tq,Tn];rw [Yr _ N hr,Sx,TQ];by_cases z:(Va s.1).2.2=0;rotate_left
 ·rw [if_neg z,if_pos z]
 rw [if_pos z,if_neg (by simp [z]),TP,TM,dN _ N (λrs h=>(hr rs h).1),Sx];have v:=Xd.1 z;by_cases C:s.2.2<1
 ·rw [if_pos C,if_pos (.inl C)]
 rw [if_neg C];by_cases p:s.2.2>1000001
 ·rw [if_pos p,if_pos (.inr p)]
 rw [if_neg p,if_neg (show ¬ (s.2.2<1\/s.2.2>1000001) by omega),TN];by_cases o:s.2.2<=WS s.1.2
 ·rw [if_pos o,if_pos o]
 rw [if_neg o,if_neg o]
 rw [Un (l:=s.1.2) (σ:=List Int) (s:=((0:Int),([]:List Int))) (λi m=>((i:Int),m)) (λls i m=>m++Tp i ls=Tp 0 s.1.2) (λ_ _ _=>(0,(((s.1.2.length:Int),Tp 0 s.1.2),()))) [] rfl (by omega) rfl (λm h=>by
  simp only;rw [re,R7,<- h];simp [Tp]) (λi rs ls m hd E hi h=>by
   refine ⟨m++(if rs.length=2 then [(i:Int)] else []),?_,?_,rfl⟩
   ·simp only;rw [rl hi,Sc,Ti,TC E,TK]
    have hm:m.length<=1048575:=by
     have D:=congrArg mu h;have q:=VS s.1.2 0;have u:=v.len;rw [hM] at D;omega
    by_cases D:rs.length=2
    ·rw [if_pos (by omega),if_pos D,UP (by simp only [BF,AS,ci,cP];omega),Tv E (by omega)];rfl
    ·rw [if_neg (by omega),if_neg D,ey,Tv E (by omega)]
   ·rw [eb];exact h),Sx]
 simp only;obtain ⟨a,g⟩ : ∃ a,a=Tp 0 s.1.2:=⟨_,rfl⟩;have hdl:a.length<=12:=by have:=VS s.1.2 0;have:=v.len;rw [g];omega
 rw [<- g];obtain ⟨T,hT⟩ : ∃ T,T=Wp s.1 a 0 s.2.1:=⟨_,rfl⟩;rw [<- hT]
 obtain ⟨r,q1,I⟩:=Wq (l:=s.2.1) (σ:=Unit) (λi _=>((0:Int),((0:Int),(i:Int)))) (λjs i _=>Wp s.1 a i js=T) (λ(r:Nat×((Int×(Int×Int))×Unit))=>(T=none/\r.1=1)\/(∃ i:Nat,T=some i/\r.1=0/\r.2.1.1=6/\r.2.1.2.1=(i:Int)))
  (f:=λb=>br (S8 b.2.2 (s.2.1.length:Int)) (λ_=>R1 b.2.2 λk7=>ix s.2.1 k7 λe=>br (Rx b.2.2 (a.length:Int)) (λ_=>some (.dn ((0,((6,(b.2.2,b.2.2)),()))))) λ_=>R1 b.2.2 λk9=>gd (KJ k9 a.length) λ_=>ix a k9 λx10=>br (Ry e.1 x10) (λ_=>some (.dn ((0,((6,(b.2.2,b.2.2)),()))))) λ_=>br e.2.2.1.2.2 (λ_=>bd (Vj (s.1,e.1)) λP=>br (Hg P) (λ_=>some (.dn ((0,((6,(b.2.2,b.2.2)),()))))) λ_=>bd (VM ((s.1,(e.1,e.2.2.1.2.2)))) λL=>bd (Ue L.2) λS=>br (S8 e.2.2.2.2 0) (λ_=>some (.dn ((0,((6,(b.2.2,b.2.2)),()))))) λ_=>br (S6 e.2.2.2.2 S.1) (λ_=>some (.dn ((0,((6,(b.2.2,b.2.2)),()))))) λ_=>bd (Uy (L.2,e.2.2.2.2)) λU=>bd (Vv (U.1,e.2)) λW=>br (Hg W) (λ_=>some (.dn ((0,((6,(b.2.2,b.2.2)),()))))) λ_=>some (.nx ((b.1,(b.2.1,SF .i64 b.2.2 1))))) λ_=>bd (VM ((s.1,(e.1,e.2.2.1.2.2)))) λM=>bd (Ue M.2) λX=>br (S8 e.2.2.2.2 0) (λ_=>some (.dn ((0,((6,(b.2.2,b.2.2)),()))))) λ_=>br (S6 e.2.2.2.2 X.1) (λ_=>some (.dn ((0,((6,(b.2.2,b.2.2)),()))))) λ_=>bd (Uy (M.2,e.2.2.2.2)) λY=>bd (Vv (Y.1,e.2)) λZ=>br (Hg Z) (λ_=>some (.dn ((0,((6,(b.2.2,b.2.2)),()))))) λ_=>some (.nx ((b.1,(b.2.1,SF .i64 b.2.2 1))))) λ_=>some (.dn ((1,(b,())))))
  (s:=(0,(0,0))) () rfl (by omega) hT.symm (λ_ h=>by
   refine ⟨_,by simp only;rw [re];rfl,.inl ⟨by rw [<- h];rfl,rfl⟩⟩) (λi j js _ hd E hi h=>by
   simp only;rw [rl hi,Sc,Ti,TC E,TL];unfold Wp at h
   have c:ZT s.1 a i j=true -> ∃ r:Nat×((Int×(Int×Int))×Unit),(some (LR.dn ((0,((6,((i:Int),(i:Int))),()))):LR (Int×(Int×Int)) _))=some (.dn r)/\((T=none/\r.1=1)\/(∃ i:Nat,T=some i/\r.1=0/\r.2.1.1=6/\r.2.1.2.1=(i:Int))):=λN=>by
    rw [if_pos N] at h;exact ⟨_,rfl,.inr ⟨i,h.symm,rfl,rfl,rfl⟩⟩
   have x:ZT s.1 a i j=false -> ∃ st':Unit,(some (LR.nx ((0:Int),((0:Int),SF .i64 (i:Int) 1))):Option (LR _ (Nat×((Int×(Int×Int))×Unit))))=some (.nx ((0:Int),((0:Int),((i+1:Nat):Int))))/\Wp s.1 a (i+1) js=T:=λhg=>by
    rw [if_neg (by simp [hg])] at h;exact ⟨(),by rw [Tv E (by omega)],h⟩
   by_cases C:(i:Int)>=(a.length:Int)
   ·rw [if_pos C];exact .inr (c (by unfold ZT;rw [a9 (by omega)]))
   rw [if_neg C,Ti,S3,if_pos (by omega)];have w:a[i]? = some (a[i]'(by omega)):=by simp
   rw [TC w,TQ];obtain ⟨n,O,J,K,y⟩:=Xx (ls:=s.1.2) (i:=0) (k:=i) (d:=a[i]'(by omega)) (by rw [<- g];exact w);rw [ee] at O
   have t:ZT s.1 a i j=(if j.1≠(a[i]'(by omega)) then true else if j.2.2.1.2.2=true/\j.1≠(s.1.2.length:Int)-1 then true else if j.2.2.2.2<0\/j.2.2.2.2>((K.2.length+J.2.length:Nat):Int) then true else decide (Vb K.2 J.2 j.2.2.1.2.2 j.2.2.2.2.toNat≠j.2)):=by
    unfold ZT;rw [w];simp only;rw [O,bl,y]
   by_cases p:j.1=(a[i]'(by omega));rotate_left
   ·rw [if_neg p];exact .inr (c (by rw [t,if_pos p]))
   rw [if_pos p];rw [if_neg (by simp [p])] at t;have F:j.1=(n:Int):=by rw [p,O]
   have hv:=(v.lev n _ y).2;have v0:=(hv J (by simp)).vl;have v1:=(hv K (by simp)).vl;have G:SK .i64 (s.1.2.length:Int) 1=(s.1.2.length:Int)-1:=Sj (by omega);unfold Vj;simp only [Tq,Tn];rw [Sx,G,Vt,VB,VG,F,ss y v0 v1,TV];rw [F] at t;by_cases o:j.2.2.1.2.2=true/\(n:Int)≠(s.1.2.length:Int)-1
   ·rw [if_pos o.1,if_pos o.2];exact .inr (c (by rw [t,if_pos o]))
   rw [if_neg o] at t
   have D : ∀ {γ:Type} (A B:γ),(if j.2.2.1.2.2=true then if ¬(n:Int)=(s.1.2.length:Int)-1 then A else B else B)=B:=by
    intro γ A B;by_cases q:j.2.2.1.2.2=true
    ·rw [if_pos q,if_neg (λu=>o ⟨q,u⟩)]
    ·rw [if_neg q]
   rw [D];by_cases q:j.2.2.2.2<0\/j.2.2.2.2>((K.2.length+J.2.length:Nat):Int)
   ·rw [if_pos q];exact .inr (c (by rw [t,if_pos q]))
   rw [if_neg q];rw [if_neg q] at t;by_cases u:Vb K.2 J.2 j.2.2.1.2.2 j.2.2.2.2.toNat=j.2
   ·rw [if_pos u];exact .inl (x (by rw [t];simp [u]))
   ·rw [if_neg u]
    exact .inr (c (by rw [t];simp [u])))
 rw [z];refine UC q1 ?_;rw [Sy];rcases I with ⟨I,q3⟩ | ⟨i,I,q3,q4,q5⟩
 ·rw [if_neg (show ¬ r.1=0 by omega),I,TP];simp only;by_cases h7:s.2.1.length<a.length
  ·rw [if_pos (by omega),if_pos h7]
  ·rw [if_neg (by omega),if_neg h7]
 ·rw [if_pos q3,I,q4,q5]
end
section
open Go Sv
theorem Z0 (x:Tj):V6 x=some (kE x):=by
 unfold V6 kE;rw [TM,Tq,Yw];by_cases e:x.1.length>32
 ·rw [if_pos (by omega),if_pos (.inl e)]
 rw [if_neg (by omega),TM,Tq,Yw];by_cases f:x.2.1.length>64
 ·rw [if_pos (by omega),if_pos (.inr f)]
 rw [if_neg (by omega : ¬ (x.2.1.length:Int)>64),if_neg (by omega),TV];by_cases b:x.2.2.1=true
 ·rw [if_pos b,UU,WB];by_cases c:x.2.1=[]
  ·rw [if_pos c,if_neg (by simp [c]),TP,TM];by_cases a:x.2.2.2<1
   ·simp [a]
   ·by_cases d:x.2.2.2>1000000000<;>simp [a,d]
  ·rw [if_neg c,if_pos ⟨b,c⟩]
 ·rw [if_neg b,if_neg (by simp [b]),TP,TM];by_cases a:x.2.2.2<1
  ·simp [a]
  ·by_cases d:x.2.2.2>1000000000<;>simp [a,d]
def Vi:List UInt8->List UInt8->Nat
 | x::a,y::b=>if x=y then Vi a b+1 else 0
 | _,_=>0
theorem pC (x y:UInt8):Oa (Tc x) (Tc y)=decide (x=y):=by
 rw [Vt];unfold Tc;by_cases h:x=y
 ·simp [h]
 ·have : ¬ ((x.toNat:Int)=(y.toNat:Int)):=λe=>h (UInt8.toNat_inj.1 (by omega));simp [h,this]
theorem gx (a b:List UInt8) (z:a.length<=9223372036854775806):W8 (a,b)=some (Vi a b:Int):=by
 unfold W8;simp only [Tq,Yw]
 have key : ∀ (m:List UInt8) (k n:Nat),a.drop k=m->k<=a.length->k<=b.length->m.length<n->IL n (λs0=>br (S8 s0 (a.length:Int)) (λ_=>br (S8 s0 (b.length:Int)) (λ_=>R1 s0 λt=>ix a t λw=>R1 s0 λu=>ix b u λy=>br (Oa (Tc w) (Tc y)) (λ_=>some (LR.nx (SF .i64 s0 1))) λ_=>some (.dn ((0,(s0,()))))) λ_=>some (.dn ((0,(s0,()))))) λ_=>some (.dn ((0,(s0,()))))) (k:Int)=some ((0:Nat),(((k+Vi m (b.drop k):Nat):Int),())):=by
  intro m
  induction m with
  | nil =>
   intro k n f r h p;obtain ⟨n,rfl⟩ : ∃ j,n=j+1:=⟨n-1,by omega⟩
   have i:k=a.length:=by
    have:=congrArg mu f;simp at this;omega
   subst i;refine UT ?_;rw [re];simp [R7,Vi]
  | cons x m s =>
   intro k n f r h p;obtain ⟨n,rfl⟩ : ∃ j,n=j+1:=⟨n-1,by omega⟩
   have o:a[k]? = some x:=by
    have:=congrArg xk f;rw [sw] at this;simpa using this
   have c:k<a.length:=(a8.1 o).1
   have l:a.drop (k+1)=m:=by
    have:=congrArg vt f;rw [rz] at this;simpa using this
   by_cases d:k<b.length
   ·have q:b[k]? = some b[k]:=by simp [d]
    rw [sa d];unfold Vi;by_cases e:x=b[k]
    ·rw [if_pos e];refine (UN (s':=((k+1:Nat):Int)) ?_).trans ?_
     ·rw [rl c,Sc,rl d,Sc,Ti,TC o,Ti,TC q,pC,VG,if_pos e,Tu (by omega)]
     ·rw [s (k+1) n l (by omega) (by omega) (by simp at p;omega),show k+1+Vi m (b.drop (k+1))=k+(Vi m (b.drop (k+1))+1) by omega]
    ·rw [if_neg e];refine UT ?_;rw [rl c,Sc,rl d,Sc,Ti,TC o,Ti,TC q,pC,VG,if_neg e];simp
   ·have g:k=b.length:=by omega
    refine UT ?_;rw [rl c,Sc,g,re,R7,List.drop_length];simp [Vi]
 refine UC (U4 (n:=a.length+1) (by omega) (key a 0 (a.length+1) (by simp) (by omega) (by omega) (by omega))) ?_;simp
def Zi (a b:Xb):Int:=if SV a b=true then -1 else if a=b then 0 else 1
theorem dD : ∀ (a b:Xb),(Vi a b<=a.length/\Vi a b<=b.length)/\(Vi a b=a.length->Vi a b=b.length->Zi a b=0)/\(Vi a b=a.length->Vi a b≠b.length->Zi a b = -1)/\(Vi a b≠a.length->Vi a b=b.length->Zi a b=1)/\(∀ x y,a[Vi a b]? = some x->b[Vi a b]? = some y->Zi a b=if x.toNat<y.toNat then -1 else 1)
 | [],[]=>by simp [Vi,Zi,Z3]
 | [],y::b=>by simp [Vi,Zi,cr]
 | x::a,[]=>by simp [Vi,Zi,Z3]
 | x::a,y::b=>by
  obtain ⟨⟨o,g⟩,i,j,k,l⟩:=dD a b;by_cases e:x=y
  ·subst e
   have n:Zi (x::a) (x::b)=Zi a b:=by
    unfold Zi;rw [Yd];simp
   have hc:Vi (x::a) (x::b)=Vi a b+1:=by simp [Vi]
   rw [n,hc];refine ⟨⟨by simp;omega,by simp;omega⟩,λu v=>i (by simp at u;omega) (by simp at v;omega),λu v=>j (by simp at u;omega) (by simp at v;omega),λu v=>k (by simp at u;omega) (by simp at v;omega),λp q d f=>l p q (by simpa using d) (by simpa using f)⟩
  ·have hc:Vi (x::a) (y::b)=0:=by simp [Vi,e]
   rw [hc];refine ⟨⟨by omega,by omega⟩,λu=>by simp at u,λu=>by simp at u,λ_ u=>by simp at u,λp q d f => ?_⟩;simp at d f;subst d f;unfold Zi;rw [Yd];have m : ¬ (x::a=y::b):=λh=>e (by injection h);by_cases c:x.toNat<y.toNat
   ·have:x<y:=xl.2 c;simp [this,c]
   ·have : ¬ x<y:=λh=>c (xl.1 h);simp [this,c,e]
theorem ja (a b:Xb) (p:a.length<=1000000000) (q:b.length<=1000000000):Wb (a,b)=some (Zi a b):=by
 obtain ⟨⟨o,i⟩,j,k,l,m⟩:=dD a b;unfold Wb;simp only [Tq,Yw];rw [gx a b (by omega),Sx,TK]
 have n:(if (Vi a b:Int)<(b.length:Int) then (R1 (Vi a b:Int) λc=>ix a c λe=>R1 (Vi a b:Int) λd=>ix b d λf=>br (S8 (Tc e) (Tc f)) (λ_=>some (-1:Int)) λ_=>some 1) else some 1)=(if Vi a b=a.length then (if (Vi a b:Int)<(b.length:Int) then (R1 (Vi a b:Int) λc=>ix a c λe=>R1 (Vi a b:Int) λd=>ix b d λf=>br (S8 (Tc e) (Tc f)) (λ_=>some (-1:Int)) λ_=>some 1) else some 1) else some (Zi a b)):=by
  by_cases u:Vi a b=a.length
  ·rw [if_pos u]
  ·rw [if_neg u];by_cases v:Vi a b=b.length
   ·rw [if_neg (by omega),l u v]
   ·rw [if_pos (by omega),Ti];have g:a[Vi a b]? = some (a[Vi a b]'(by omega)):=by simp
    have h:b[Vi a b]? = some (b[Vi a b]'(by omega)):=by simp
    rw [TC g,Ti,TC h,TP,m _ _ g h];unfold Tc;by_cases w:(a[Vi a b]'(by omega)).toNat<(b[Vi a b]'(by omega)).toNat
    ·rw [if_pos (by omega),if_pos w]
    ·rw [if_neg (by omega),if_neg w]
 by_cases u:Vi a b=a.length
 ·rw [if_pos (by omega),TK];by_cases v:Vi a b=b.length
  ·rw [if_pos (by omega),j u v]
  ·rw [if_neg (by omega),TK,if_pos (by omega),k u v]
 ·rw [if_neg (by omega),TK,if_neg (by omega),TP,n,if_neg u]
theorem gY (a b:Xb):Zi a b>=0<->SV a b=false:=by
 unfold Zi;cases h:SV a b with
 | true=>simp
 | false=>simp;split<;>omega
theorem XN (l:List Tj) (D:l.length<=9223372036854775807):Vf l=some (WX l):=by
 unfold Vf WX;simp only [Tq,Tn];rw [TM];by_cases h:l.length>5000
 ·rw [if_pos (by omega),if_pos h]
 rw [if_neg (by omega),if_neg h];obtain ⟨T,o⟩ : ∃ T,T=Y8 none 0 l:=⟨_,rfl⟩;rw [<- o]
 obtain ⟨r,w,j⟩:=Wq (l:=l) (σ:=Unit) (s:=((0:Int),((0:Int),(0:Int)))) (λk _=>((0:Int),((0:Int),(k:Int)))) (λm k _=>Y8 (if k=0 then none else (l[k-1]?).map (·.1)) k m=T/\(∀ y,k≠0->l[k-1]? = some y->kE y=0)) (λ(r:Nat×((Int×(Int×Int))×Unit))=>(r.1=1/\T=(0,0))\/(r.1=0/\T=(r.2.1.2.1,r.2.1.1)))
  (f:=λs0=>br (S8 s0.2.2 (l.length:Int)) (λ_=>R1 s0.2.2 λq=>ix l q λA=>bd (V6 A) λd=>br (Oa d 0) (λ_=>br (S6 s0.2.2 0) (λ_=>R1 (SK .i64 s0.2.2 1) λt=>ix l t λB=>R1 s0.2.2 λu=>ix l u λC=>bd (Wb (B.1,C.1)) λz=>br (Rx z 0) (λ_=>some (.dn ((0,((6,(s0.2.2,s0.2.2)),()))))) λ_=>br (Ry d 0) (λ_=>some (.dn ((0,((d,(s0.2.2,s0.2.2)),()))))) λ_=>some (.nx ((s0.1,(s0.2.1,SF .i64 s0.2.2 1))))) λ_=>br (Ry d 0) (λ_=>some (.dn ((0,((d,(s0.2.2,s0.2.2)),()))))) λ_=>some (.nx ((s0.1,(s0.2.1,SF .i64 s0.2.2 1))))) λ_=>br (Ry d 0) (λ_=>some (.dn ((0,((d,(s0.2.2,s0.2.2)),()))))) λ_=>some (.nx ((s0.1,(s0.2.1,SF .i64 s0.2.2 1))))) λ_=>some (.dn ((1,(s0,())))))
  () rfl (by omega) ⟨o.symm,λ_ h=>absurd rfl h⟩ (λ_ h=>by
   refine ⟨_,by simp only;rw [re];rfl,.inl ⟨rfl,?_⟩⟩;rw [<- h.1];simp [Y8]) (λk x m _ hd g p h=>by
   simp only;obtain ⟨h,c⟩:=h;rw [rl p,Sc,Ti,TC g,Z0,Sx,TK];unfold Y8 at h
   have next:kE x=0->(T=Y8 (some x.1) (k+1) m)->Y8 (if k+1=0 then none else (l[k+1-1]?).map (·.1)) (k+1) m=T/\(∀ y,k+1≠0->l[k+1-1]? = some y->kE y=0):=λa e=>by
    rw [if_neg (by omega),Nat.add_sub_cancel,g,e];exact ⟨rfl,λy _ i=>by cases i;exact a⟩
   by_cases a:kE x=0
   ·rw [if_pos a,TM];rw [if_neg (by simp [a])] at h;by_cases b:k=0
    ·rw [if_neg (by omega),TQ,if_pos a];rw [if_pos b] at h;exact .inl ⟨(),by rw [Tv g (by omega)],next a h.symm⟩
    ·have i:l[k-1]? = some (l[k-1]'(by omega)):=by rw [co]
     rw [if_pos (by omega),show SK .i64 (k:Int) 1=((k-1:Nat):Int) by rw [Sj (by omega)];omega,Ti,TC i,Ti,TC g];rw [if_neg b,i] at h;simp only [x5] at h;rw [ja _ _ (by have:=ax (c _ b i);omega) (by have:=ax a;omega),Sx,TL];by_cases hs:SV (l[k-1]'(by omega)).1 x.1=true
     ·rw [if_neg (λe=>by rw [gY,hs] at e;cases e),TQ,if_pos a];rw [if_pos hs] at h;exact .inl ⟨(),by rw [Tv g (by omega)],next a h.symm⟩
     ·rw [if_pos ((gY _ _).2 (by simpa using hs))];rw [if_neg hs] at h;exact .inr ⟨_,rfl,.inr ⟨rfl,h.symm⟩⟩
   ·rw [if_neg a,TQ,if_neg a];rw [if_pos a] at h
    exact .inr ⟨_,rfl,.inr ⟨rfl,h.symm⟩⟩)
 refine UC w ?_;rw [Sy];rcases j with ⟨j,n⟩ | ⟨j,n⟩
 ·rw [if_neg (show ¬ r.1=0 by omega),n]
 ·rw [if_pos j,n]
theorem pE (p q:UI) (d:WD p) (e:WD q):XC ([p,q],(0,1))=some (w0 p q):=by
 unfold XC w0;refine (WL 0 rfl (x:=p) rfl).trans ((WL 1 rfl (x:=q) rfl).trans ?_);rw [beq_eq,VB,VG,UU,TV];by_cases a:p.2=q.2
 ·rw [if_neg (show ¬ ¬ p.2=q.2 by simp [a]),if_neg (show ¬ p.2≠q.2 by simp [a])];by_cases b:p.2=true
  ·rw [if_pos b,d b,e (a ▸ b)];rfl
  ·rw [if_neg b,UU,WB];by_cases c:p.1=q.1
   ·rw [if_pos c,if_neg (by simp [c])];rfl
   ·rw [if_neg c,if_pos c]
 ·rw [if_pos a,if_pos a]
theorem aV (p q:UI) (n:Nat) (k:Int) (h:2<=k) (a:k<=100):NE UE (n+1) ([p,q],k)=some (k-2,0):=by
 show UE (NE UE n) ([p,q],k)=_;unfold UE;show br (Rx k 2) (λ_=>some (SK .i64 k 2,0)) _=_;rw [TL,if_pos h,Sj (by omega)]
theorem bG (p q:UI) (a:WD p) (b:WD q):XB ([p,q],1)=some (if w0 p q=true then (0,1) else (1,0)):=by
 show UE (NE UE 99) ([p,q],1)=_;unfold UE;show br (Rx (1:Int) 2) (λ_=>some (SK .i64 (1:Int) 2,0)) (λ_=>bd (NE UE (98+1) ([p,q],2)) λc=>bd (NE UE (98+1) ([p,q],3)) _)=_;rw [TL,if_neg (by omega),aV p q 98 2 (by omega) (by omega),Sx,aV p q 98 3 (by omega) (by omega),Sx];show bd (XC ([p,q],(0,1))) _=_;rw [pE p q a b,Sx,TV];cases h:w0 p q<;>rfl
theorem pA (p q:UI) (a:WD p) (c:WD q):Xo [p,q]=some (Tt p q):=by
 unfold Xo;refine Eq.trans (b:=bd (loop _ (1,([p,q],([0,0],0)))) _) rfl ?_;refine UC (x:=(0,((2,([p,q],([0,if w0 p q=true then 1 else 0],0))),()))) (U4 (n:=2) (by omega) ((UN (s':=(2,([p,q],([0,if w0 p q=true then 1 else 0],0)))) ?_).trans (UT rfl))) ?_
 ·show bd (XB ([p,q],1)) _=_;rw [bG p q a c,Sx];refine (ZG 1 rfl (x:=(0:Int)) rfl).trans ?_;cases h:w0 p q<;>rfl
 ·rw [bG p q a c,Sx];unfold Tt;cases h:w0 p q<;>rfl
theorem iQ {l:List UI} (h : ∀ k∈l,WD k) (b:l≠[]) (e:l.length<=32):XV l=some 0:=by
 unfold XV;simp only [Tq,Tn];rw [TK,TM,if_neg (by have:=ec.2 b;omega),if_neg (by omega)]
 rw [Un (l:=l) (σ:=Unit) (s:=((0:Int),(0:Int))) (λk _=>((k:Int),(0:Int))) (λ_ _ _=>True) (λ_ _ _=>(1,(((l.length:Int),0),()))) () rfl (by omega) trivial (λd _=>by
  simp only;rw [re];rfl) (λk x m d _ a c _=>⟨(),by
   simp only;rw [rl c,Sc,Ti,TC a,TV,Tv a (by omega)];by_cases hd:x.2=true
   ·rw [if_pos hd,Ti,TC a,UU,WB,if_pos (h x (bo a) hd)]
   ·rw [if_neg hd],trivial,rfl⟩),Sx]
 rfl
theorem gw (p q:UI) (a:WD p) (b:WD q):Wc [p,q]=some (Tt p q,0):=by
 unfold Wc;rw [iQ (by simp [a,b]) (by simp) (by simp),Sx,TQ,if_pos rfl,pA p q a b,Sx]
end
section
open Go Sv
theorem Xa:U3=Uj:=rfl
theorem bH:Xn=Tz:=rfl
theorem ez (l m:List UI) (i:l.length<=9223372036854775806) (j:l.length=m.length) : ∃ r,loop (λs1=>br (S8 s1.1 (l.length:Int)) (λ_=>R1 s1.1 λn=>ix l n λf=>R1 s1.1 λo=>ix m o λg=>br (Hg (Nm (seq f.1 g.1) (Nm (Sv.beq f.2 g.2) true))) (λ_=>some (LR.dn ((0:Nat),((s1.1,false),())))) λ_=>some (.nx (SF .i64 s1.1 1,s1.2))) λ_=>some (.dn ((1,(s1,()))))) ((0:Int),false)=some r/\((l=m/\r.1=1)\/(l≠m/\r.1=0/\r.2.1.2=false)):=by
 refine YW l m j i (λk x y a d => ?_) (by simp only;rw [re];rfl);have c:=(a8.1 a).1
 have b : ∀ {β:Type} (u v:Unit->Option β),br (Hg (Nm (seq x.1 y.1) (Nm (Sv.beq x.2 y.2) true))) u v=if x=y then v () else u ():=by
  intro β u v;rw [Zp,Zl,beq_eq,Yf,VB,VG];by_cases e:x=y
  ·subst e;simp
  ·rw [if_pos (λh=>e (tb h.1 h.2)),if_neg e]
 constructor
 ·intro e;simp only;rw [rl c,Sc,Ti,TC a,Ti,TC d,b,if_pos e,Tu (by omega)]
 ·intro e;simp only;rw [rl c,Sc,Ti,TC a,Ti,TC d,b,if_neg e]
theorem bJ (s t:Vw) (g:s.1.length<=1000) (h:s.2.1.length<=1000):W9 (s,t)=some (decide (s=t)):=by
 obtain ⟨b,d,k⟩:=s;obtain ⟨c,f,l⟩:=t;simp only at g h;unfold W9;simp only [Tq,Tn];rw [TQ];by_cases e1:(b.length:Int)=(c.length:Int);rotate_left
 ·rw [if_neg e1];have : ¬ b=c:=λe=>e1 (by rw [e]);simp [this]
 rw [if_pos e1,TQ];by_cases e2:k=l;rotate_left
 ·rw [if_neg e2];simp [e2]
 rw [if_pos e2,bH,ZL _ _ (by omega),Sx,VB,VG];by_cases e3:d=f;rotate_left
 ·rw [if_pos e3];simp [e3]
 rw [if_neg (show ¬ ¬ d=f by simp [e3])];obtain ⟨r,i,a⟩:=ez b c (by omega) (by omega);refine UC i ?_;rw [Sy];rcases a with ⟨e,a⟩ | ⟨e,a,j⟩
 ·rw [if_neg (show ¬ r.1=0 by omega)];simp [e,e2,e3]
 ·rw [if_pos a,j];simp [e]
theorem di (s t:VZ) (u:s.1.length<=1000) (g : ∀ l∈s.1,l.length<=1000000) (w:s.2.1.length<=1000) (h:s.2.2.1.length<=1000) (i:s.2.2.2.1.length<=1000):Xq (s,t)=some (decide (s=t)):=by
 obtain ⟨a,n,o⟩:=s;obtain ⟨d,p,q⟩:=t;simp only at u g w h i;unfold Xq;simp only [Tq,Tn];rw [TQ];by_cases e1:(a.length:Int)=(d.length:Int);rotate_left
 ·rw [if_neg e1];have : ¬ a=d:=λe=>e1 (by rw [e]);simp [this]
 rw [if_pos e1,bH,ZL _ _ (by omega),Sx,VB,VG];by_cases e2:n=p;rotate_left
 ·rw [if_pos e2];simp [e2]
 rw [if_neg (show ¬ ¬ n=p by simp [e2]),bJ _ _ h i,Sx,VB,VG];by_cases e3:o=q;rotate_left
 ·rw [if_pos e3];simp [e3]
 rw [if_neg (show ¬ ¬ o=q by simp [e3])]
 obtain ⟨r,C,c⟩:=YW a d (by omega) (by omega) (f:=λs2=>br (S8 s2.1 (a.length:Int)) (λ_=>R1 s2.1 λA=>ix a A λF=>R1 s2.1 λB=>ix d B λG=>bd (U3 (F,G)) λE=>br (Hg E) (λ_=>some (.dn ((0,((s2.1,false),()))))) λ_=>some (.nx (SF .i64 s2.1 1,s2.2))) λ_=>some (.dn ((1,(s2,()))))) (λk x y b m=>by
   have j:=(a8.1 b).1;have z:=g x (bo b);constructor
   ·intro e;simp only;rw [rl j,Sc,Ti,TC b,Ti,TC m,Xa,W0 _ _ (by omega),Sx,VB,VG,if_neg (by simp [e]),Tu (by omega)]
   ·intro e;simp only
    rw [rl j,Sc,Ti,TC b,Ti,TC m,Xa,W0 _ _ (by omega),Sx,VB,VG,if_pos e]) (by simp only;rw [re];rfl)
 refine UC C ?_;rw [Sy];rcases c with ⟨e,c⟩ | ⟨e,c,D⟩
 ·rw [if_neg (show ¬ r.1=0 by omega)];simp [e,e2,e3]
 ·rw [if_pos c,D];simp [e]
theorem bI (x y:Xg) (a:x.1.1.length<=1000) (b : ∀ l∈x.1.1,l.length<=1000000) (c:x.1.2.1.length<=1000) (d:x.1.2.2.1.length<=1000) (e:x.1.2.2.2.1.length<=1000) (f:x.2.2.1.length<=1000000):Ua (x,y)=some (decide (x=y)):=by
 obtain ⟨i,⟨xs,k,h⟩,g,j⟩:=x;obtain ⟨n,⟨q,r,m⟩,p,o⟩:=y;simp only at a b c d e f;unfold Ua;simp only [di _ _ a b c d e,Xa,W0 _ _ (show g.length<=9223372036854775806 by omega),Sx,VG,Vt,Zl,beq_eq,Zp,Yf]
 repeat' split
 all_goals simp_all
section
variable {a b:List Tj} (va:VL a) (vb:VL b)
include va vb
theorem Zj:V9 [a,b]=some (0,0):=by
 have c:=va.len;have d:=vb.len;unfold V9;refine Eq.trans (b:=bd (loop _ (0,(0,0))) _) rfl ?_;refine UC (x:=(1,((0,(0,2)),()))) (VA (s1:=(0,(0,1))) (s2:=(0,(0,2))) ?_ ?_ rfl) rfl
 ·refine (aX 0 rfl rfl (x:=a) rfl).trans ?_;rw [XN _ (by omega),Y9 va,Sx];rfl
 ·refine (aX 1 rfl rfl (x:=b) rfl).trans ?_;rw [XN _ (by omega),Y9 vb,Sx];rfl
theorem Ys {i j:Nat} (hi:i<=a.length) (g:j<=b.length):V8 ([a,b],[(i:Int),(j:Int)])=some (if i=a.length/\j=b.length then -1 else if Xz a b i j=true then 0 else 1):=by
 have k:=va.len;have l:=vb.len;unfold V8;simp only [Tq,Tn];refine UC (x:=(0,((if i=a.length/\j=b.length then -1 else if Xz a b i j=true then 0 else 1,2),()))) (VA (s1:=(if i=a.length then -1 else 0,1)) (s2:=(if i=a.length/\j=b.length then -1 else if Xz a b i j=true then 0 else 1,2)) ?_ ?_ rfl) rfl
 ·refine (aX 0 rfl rfl (x:=(i:Int)) rfl).trans ((WL 0 rfl (x:=a) rfl).trans ?_);rw [TP];by_cases h:i=a.length
  ·rw [if_neg (by omega),if_pos h];rfl
  ·rw [if_pos (by omega),if_neg h];rfl
 ·refine (aX 1 rfl rfl (x:=(j:Int)) rfl).trans ((WL 1 rfl (x:=b) rfl).trans ?_);rw [TP];by_cases h:j=b.length
  ·rw [if_neg (by omega)];by_cases c:i=a.length
   ·rw [if_pos c,if_pos ⟨c,h⟩];rfl
   ·rw [if_neg c,if_neg (λe=>c e.1)];have d:a[i]? = some (a[i]'(by omega)):=by simp
    rw [gT d (a9 (by omega))];rfl
  ·have f:b[j]? = some (b[j]'(by omega)):=by simp
   rw [if_pos (by omega),TP,if_neg (λe:i=a.length/\j=b.length=>h e.2)];by_cases c:i=a.length
   ·rw [if_pos c,if_pos (by omega),gU (a9 (by omega)) f];rfl
   ·rw [if_neg c,if_neg (by omega)];have d:a[i]? = some (a[i]'(by omega)):=by simp
    refine (WL 1 rfl (x:=b) rfl).trans ((WL 1 rfl (x:=(j:Int)) rfl).trans ((WL j rfl f).trans ((WL 0 rfl (x:=a) rfl).trans ((WL 0 rfl (x:=(i:Int)) rfl).trans ((WL i rfl d).trans ?_)))));rw [Wz,aq d f];cases hs:SV (b[j]'(by omega)).1 (a[i]'(by omega)).1<;>rfl
theorem Yt {i j:Nat} (hi:i<=a.length) (e:j<=b.length):Vl ([a,b],[(i:Int),(j:Int)])=some (Zn a b i j):=by
 have f:=va.len;have g:=vb.len;unfold Vl;simp only [Tq,Tn];rw [UP (show [a,b].length<=1048576 from (show 2<=1048576 by omega)),UP (show [(i:Int),(j:Int)].length<=1048576 from (show 2<=1048576 by omega))];refine UC (x:=(0,((2,[kx a i,kx b j]),()))) (VA (s1:=(1,[kx a i])) (s2:=(2,[kx a i,kx b j])) ?_ ?_ rfl) ?_
 ·refine (aX 0 rfl rfl (x:=(i:Int)) rfl).trans ((WL 0 rfl (x:=a) rfl).trans ?_);rw [Vt,VB,VG];by_cases h:i=a.length
  ·have c:((i:Int)=(a.length:Int)):=by omega
   rw [if_neg (show ¬ ¬ ((i:Int)=(a.length:Int)) by simp [c]),Zv (a9 (by omega))];simp only [c,decide_true];rfl
  ·have d:a[i]? = some (a[i]'(by omega)):=by simp
   have c : ¬ ((i:Int)=(a.length:Int)):=by omega
   rw [if_pos c];refine (WL 0 rfl (x:=a) rfl).trans ((WL 0 rfl (x:=(i:Int)) rfl).trans ((WL i rfl d).trans ?_));rw [XI d];simp only [c,decide_false];rfl
 ·refine (aX 1 rfl rfl (x:=(j:Int)) rfl).trans ((WL 1 rfl (x:=b) rfl).trans ?_);rw [Vt,VB,VG];by_cases h:j=b.length
  ·have c:((j:Int)=(b.length:Int)):=by omega
   rw [if_neg (show ¬ ¬ ((j:Int)=(b.length:Int)) by simp [c]),Zv (l:=b) (i:=j) (a9 (by omega))];simp only [c,decide_true];rfl
  ·have d:b[j]? = some (b[j]'(by omega)):=by simp
   have c : ¬ ((j:Int)=(b.length:Int)):=by omega
   rw [if_pos c];refine (WL 1 rfl (x:=b) rfl).trans ((WL 1 rfl (x:=(j:Int)) rfl).trans ((WL j rfl d).trans ?_));rw [XI (l:=b) (i:=j) d];simp only [c,decide_false];rfl
 ·show bd (Wc [kx a i,kx b j]) _=_;rw [gw _ _ (Ud _ _) (Ud _ _)];rfl
theorem gh {i:Nat} {l:List Tj} (h:i≠0) (hi:i<=l.length) : ∃ x,l[i-1]? = some x:=⟨l[i-1]'(by omega),by simp⟩
theorem aJ {i j:Nat} (I:Inv a b i j):V7 (Zn a b i j)=some (0,0):=by
 have s:=va.len;have t:=vb.len;have hi:=I.ia;have k:=I.jb;unfold V7;rw [show (Zn a b i j).1=[a,b] from rfl,Zj va vb,Sx,TQ,if_pos rfl];rw [show (Zn a b i j).2.1=[(i:Int),(j:Int)] from rfl,TQ,if_pos (show Ki (AS [(i:Int),(j:Int)])=Ki (AS [a,b]) from rfl)];refine UC (x:=(1,((0,(0,2)),()))) (VA (s1:=(0,(0,1))) (s2:=(0,(0,2))) ?_ ?_ rfl) ?_
 ·refine (aX 0 rfl rfl (x:=(i:Int)) rfl).trans ?_;rw [TP,if_neg (by omega)];refine (WL 0 rfl (x:=(i:Int)) rfl).trans ((WL 0 rfl (x:=a) rfl).trans ?_);rw [TM,if_neg (by simp only [Tq,Tn];omega)];rfl
 ·refine (aX 1 rfl rfl (x:=(j:Int)) rfl).trans ?_;rw [TP,if_neg (by omega)];refine (WL 1 rfl (x:=(j:Int)) rfl).trans ((WL 1 rfl (x:=b) rfl).trans ?_);rw [TM,if_neg (by simp only [Tq,Tn];omega)];rfl
 rw [show neq ((1:Nat),(((0:Int),((0:Int),(2:Int))),())).1 0=false from rfl,R7,Yt va vb hi k,Sx,bJ (Zn a b i j).2.2 (Zn a b i j).2.2 (show 2<=1000 by omega) (show 2<=1000 by omega),Sx,VB,VG,if_neg (show ¬ ¬ (Zn a b i j).2.2=(Zn a b i j).2.2 by simp),Ys va vb hi k,Sx];by_cases hd:i=a.length/\j=b.length
 ·rw [if_pos hd];refine UC (x:=(1,((0,(0,0)),()))) (U4 (n:=1) (by omega) (UT ?_)) rfl;rfl
 rw [if_neg hd];cases g:Xz a b i j with
 | true =>
  rw [if_pos rfl]
  have p:i<a.length:=by
   refine nb λh' => ?_;have o:j<b.length:=by omega
   rw [gU (a9 h') (show b[j]? = some (b[j]'o) by simp)] at g;cases g
  have e:a[i]? = some (a[i]'p):=by simp
  refine UC (x:=(1,((0,(0,2)),()))) (VA (s1:=(0,(0,1))) (s2:=(0,(0,2))) ?_ ?_ rfl) rfl
  ·show br (S8 (0:Int) 2) _ _=_;rw [TP,if_pos (by omega),TL,if_pos (by omega)];refine (WL 0 rfl (x:=(i:Int)) rfl).trans ?_;rw [TK];by_cases f:i=0
   ·rw [if_pos (by omega)];rfl
   ·rw [if_neg (by omega)];obtain ⟨y,d⟩:=gh va vb (l:=a) f hi;refine (WL 0 rfl (x:=a) rfl).trans ((WL 0 rfl (x:=(i:Int)) rfl).trans ?_);rw [show SK .i64 (i:Int) 1=((i-1:Nat):Int) by rw [Sj (by omega)];omega,Ti,TC d];refine (WL 0 rfl (x:=a) rfl).trans ((WL 0 rfl (x:=(i:Int)) rfl).trans ((WL i rfl e).trans ?_));have c:=va.lt d (show a[i-1+1]? = some _ by rw [show i-1+1=i by omega];exact e);rw [Wz,if_neg (by rw [VF c];simp),WB,if_neg (ZJ c)];rfl
  ·show br (S8 (1:Int) 2) _ _=_;rw [TP,if_pos (by omega),TL,if_pos (by omega)];refine (WL 1 rfl (x:=(j:Int)) rfl).trans ?_;rw [TK];by_cases f:j=0
   ·rw [if_pos (by omega)];rfl
   ·rw [if_neg (by omega)];obtain ⟨y,d⟩:=gh va vb (l:=b) f k;refine (WL 1 rfl (x:=b) rfl).trans ((WL 1 rfl (x:=(j:Int)) rfl).trans ?_);rw [show SK .i64 (j:Int) 1=((j-1:Nat):Int) by rw [Sj (by omega)];omega,Ti,TC d];refine (WL 0 rfl (x:=a) rfl).trans ((WL 0 rfl (x:=(i:Int)) rfl).trans ((WL i rfl e).trans ?_));have c:=I.pb (j-1) (by omega) y _ d e;rw [Wz,if_neg (by rw [VF c];simp),WB,if_neg (ZJ c)];rfl
 | false =>
  rw [if_neg (by simp)]
  have h:j<b.length:=by
   refine nb λh' => ?_;have m:i<a.length:=by omega
   rw [gT (show a[i]? = some (a[i]'m) by simp) (a9 h')] at g;cases g
  have e:b[j]? = some (b[j]'h):=by simp
  refine UC (x:=(1,((0,(0,2)),()))) (VA (s1:=(0,(0,1))) (s2:=(0,(0,2))) ?_ ?_ rfl) rfl
  ·show br (S8 (0:Int) 2) _ _=_;rw [TP,if_pos (by omega),TL,if_pos (by omega)];refine (WL 0 rfl (x:=(i:Int)) rfl).trans ?_;rw [TK];by_cases f:i=0
   ·rw [if_pos (by omega)];rfl
   ·rw [if_neg (by omega)];obtain ⟨y,d⟩:=gh va vb (l:=a) f hi;refine (WL 0 rfl (x:=a) rfl).trans ((WL 0 rfl (x:=(i:Int)) rfl).trans ?_);rw [show SK .i64 (i:Int) 1=((i-1:Nat):Int) by rw [Sj (by omega)];omega,Ti,TC d];refine (WL 1 rfl (x:=b) rfl).trans ((WL 1 rfl (x:=(j:Int)) rfl).trans ((WL j rfl e).trans ?_));have q:=I.pa (i-1) (by omega) y _ d e;rw [Wz,if_neg (by rw [q];simp),WB];by_cases r:y.1=(b[j]'h).1
    ·rw [if_pos r];rfl
    ·rw [if_neg r];rfl
  ·show br (S8 (1:Int) 2) _ _=_;rw [TP,if_pos (by omega),TL,if_pos (by omega)];refine (WL 1 rfl (x:=(j:Int)) rfl).trans ?_;rw [TK];by_cases f:j=0
   ·rw [if_pos (by omega)];rfl
   ·rw [if_neg (by omega)];obtain ⟨y,d⟩:=gh va vb (l:=b) f k;refine (WL 1 rfl (x:=b) rfl).trans ((WL 1 rfl (x:=(j:Int)) rfl).trans ?_);rw [show SK .i64 (j:Int) 1=((j-1:Nat):Int) by rw [Sj (by omega)];omega,Ti,TC d];refine (WL 1 rfl (x:=b) rfl).trans ((WL 1 rfl (x:=(j:Int)) rfl).trans ((WL j rfl e).trans ?_));have c:=vb.lt d (show b[j-1+1]? = some _ by rw [show j-1+1=j by omega];exact e);rw [Wz,if_neg (by rw [VF c];simp),WB,if_neg (ZJ c)];rfl
end
end
section
open Go Sv
section
variable {a b:List Tj} (va:VL a) (vb:VL b)
include va vb
theorem kI {n:Nat} {x:Tj} (h:n<a.length+b.length) (d:aU a b n=some x):WN (ZZ a b n)=some (x,((bQ a b n:Int),(ZZ a b (n+1),0))):=by
 obtain ⟨i,hs⟩:=WM va vb (n:=n) (by omega);obtain ⟨j,k⟩:=WM va vb (n:=n+1) (by omega);have l:=va.len;have m:=vb.len;have e:=i.ia;have f:=i.jb;unfold WN;rw [show ZZ a b n=Zn a b (pos a b n).1 (pos a b n).2 from rfl,aJ va vb i,Sx,TQ,if_pos rfl,show (Zn a b (pos a b n).1 (pos a b n).2).1=[a,b] from rfl,show (Zn a b (pos a b n).1 (pos a b n).2).2.1=[((pos a b n).1:Int),((pos a b n).2:Int)] from rfl,Ys va vb e f,Sx,if_neg (λhh:(pos a b n).1=a.length/\(pos a b n).2=b.length=>by omega)];unfold aU at d;have c:pos a b (n+1)=if Xz a b (pos a b n).1 (pos a b n).2=true then ((pos a b n).1+1,(pos a b n).2) else ((pos a b n).1,(pos a b n).2+1):=rfl
 unfold ZZ bQ;cases g:Xz a b (pos a b n).1 (pos a b n).2 with
 | true =>
  rw [g,if_pos rfl] at c;rw [g,if_pos rfl] at d;have hi:=(a8.1 d).1;rw [if_pos rfl,TP,if_neg (by omega),UP (show AS [((pos a b n).1:Int),((pos a b n).2:Int)]<=1048576 from (show 2<=1048576 by omega))];refine (ZG 0 rfl (x:=((pos a b n).1:Int)) rfl).trans ((ZG 0 rfl (x:=((pos a b n).1:Int)) rfl).trans ((WL 0 rfl (x:=a) rfl).trans ((WL 0 rfl (x:=((pos a b n).1:Int)) rfl).trans ((WL _ rfl d).trans ?_))));rw [Tu (by omega),show lset [((pos a b n).1:Int),((pos a b n).2:Int)] 0 (((pos a b n).1+1:Nat):Int)=[(((pos a b n).1+1:Nat):Int),((pos a b n).2:Int)] from rfl,Yt va vb (by omega) f,Sx,c];rfl
 | false =>
  rw [g,if_neg (by simp)] at c;rw [g,if_neg (by simp)] at d;have hi:=(a8.1 d).1;rw [if_neg (by simp),TP,if_neg (by omega),UP (show AS [((pos a b n).1:Int),((pos a b n).2:Int)]<=1048576 from (show 2<=1048576 by omega))];refine (ZG 1 rfl (x:=((pos a b n).2:Int)) rfl).trans ((ZG 1 rfl (x:=((pos a b n).2:Int)) rfl).trans ((WL 1 rfl (x:=b) rfl).trans ((WL 1 rfl (x:=((pos a b n).2:Int)) rfl).trans ((WL _ rfl d).trans ?_))));rw [Tu (by omega),show lset [((pos a b n).1:Int),((pos a b n).2:Int)] 1 (((pos a b n).2+1:Nat):Int)=[((pos a b n).1:Int),(((pos a b n).2+1:Nat):Int)] from rfl,Yt va vb e (by omega),Sx,c];rfl
theorem kH {n:Nat} (h:n<=a.length+b.length):Xp (ZZ a b n)=some (((a.length+b.length-n:Nat):Int),0):=by
 obtain ⟨c,hs⟩:=WM va vb (n:=n) h;have f:=va.len;have g:=vb.len;have d:=c.ia;have e:=c.jb;unfold Xp;rw [show ZZ a b n=Zn a b (pos a b n).1 (pos a b n).2 from rfl,aJ va vb c,Sx,TQ,if_pos rfl];refine UC (x:=(0,((2,((a.length+b.length-n:Nat):Int)),()))) (VA (s1:=(1,(a.length:Int)-((pos a b n).1:Int))) (s2:=(2,((a.length+b.length-n:Nat):Int))) ?_ ?_ rfl) rfl
 ·refine (aX 0 rfl rfl (x:=a) rfl).trans ((WL 0 rfl (x:=((pos a b n).1:Int)) rfl).trans ?_);simp only [Tq,Tn];rw [show SF .i64 (0:Int) (a.length:Int)=(a.length:Int) by rw [Sh (by omega),tg],Sj (by omega)];rfl
 ·refine (aX 1 rfl rfl (x:=b) rfl).trans ((WL 1 rfl (x:=((pos a b n).2:Int)) rfl).trans ?_);simp only [Tq,Tn];show some (LR.nx ((2:Int),SK .i64 (SF .i64 ((a.length:Int)-((pos a b n).1:Int)) (b.length:Int)) ((pos a b n).2:Int)))=_;rw [Sh (by omega),Sj (by omega),show (a.length:Int)-((pos a b n).1:Int)+(b.length:Int)-((pos a b n).2:Int)=((a.length+b.length-n:Nat):Int) by omega]
theorem ga:Wv [a,b]=some (UD a b (a.length+b.length),(X3 a b (a.length+b.length),0)):=by
 have l:=va.len;have m:=vb.len;unfold Wv;rw [Zj va vb,Sx,TQ,if_pos rfl];refine Eq.trans (b:=bd (loop _ ([],([],([],(0,([],[0,0])))))) _) rfl ?_
 refine UC (x:=(0,((X3 a b (a.length+b.length),(UD a b (a.length+b.length),0)),())))
  (YX (λk=>([],(UD a b k,([],(0,(X3 a b k,[((pos a b k).1:Int),((pos a b k).2:Int)])))))) 0 (a.length+b.length) rfl (by omega) (by omega) (λk _ j => ?_) ?_) rfl
 ·obtain ⟨x,c,_⟩:=Vu va vb (n:=k) j;obtain ⟨d,hs⟩:=WM va vb (n:=k) (by omega);have e:(UD a b k).length=k:=VE va vb (by omega);have f:=aD a b k;simp only;rw [Ys va vb d.ia d.jb,Sx,if_neg (λhh:(pos a b k).1=a.length/\(pos a b k).2=b.length=>by omega)];rw [Wr va vb c];unfold aU at c;rw [show X3 a b (k+1)=X3 a b k++[(bQ a b k:Int)] from rfl];unfold bQ;rw [show pos a b (k+1)=if Xz a b (pos a b k).1 (pos a b k).2=true then ((pos a b k).1+1,(pos a b k).2) else ((pos a b k).1,(pos a b k).2+1) from rfl]
  have h : ∀ {β:Type} (y:Tj) (q:Unit->Option β),gd (CF (BF (AS (UD a b k)) (AS [y])) 1048576) q=q ():=λy q=>UP (by simp only [BF,AS,e,ci,cP];omega) q;have i : ∀ {β:Type} (y:Int) (q:Unit->Option β),gd (CF (BF (AS (X3 a b k)) (AS [y])) 1048576) q=q ():=λy q=>UP (by simp only [BF,AS,f,ci,cP];omega) q;cases g:Xz a b (pos a b k).1 (pos a b k).2 with
  | true =>
   rw [g,if_pos rfl] at c;have hi:=(a8.1 c).1;simp only [if_true];rw [TP,if_neg (by omega)];refine (WL 0 rfl (x:=a) rfl).trans ((ZG 0 rfl (x:=((pos a b k).1:Int)) rfl).trans ((WL _ rfl c).trans ?_));rw [h,i];refine (ZG 0 rfl (x:=((pos a b k).1:Int)) rfl).trans ((ZG 0 rfl (x:=((pos a b k).1:Int)) rfl).trans ?_);rw [Tu (by omega)];rfl
  | false =>
   rw [g,if_neg (by simp)] at c;have hi:=(a8.1 c).1;simp only [lc,if_false];rw [TP,if_neg (by omega)];refine (WL 1 rfl (x:=b) rfl).trans ((ZG 1 rfl (x:=((pos a b k).2:Int)) rfl).trans ((WL _ rfl c).trans ?_));rw [h,i];refine (ZG 1 rfl (x:=((pos a b k).2:Int)) rfl).trans ((ZG 1 rfl (x:=((pos a b k).2:Int)) rfl).trans ?_);rw [Tu (by omega)];rfl
 ·obtain ⟨d,hs⟩:=WM va vb (n:=a.length+b.length) (dc _);simp only;rw [Ys va vb d.ia d.jb,Sx,if_pos (show (pos a b (a.length+b.length)).1=a.length/\(pos a b (a.length+b.length)).2=b.length by have:=d.ia;have:=d.jb;omega),TP,if_pos (by omega)]
end
theorem dt {s:Ul} (b:s.2.1.length<=32) (a:s.1=false->s.2.1=[]):XW s=some 0:=by
 unfold XW;rw [TM,if_neg (by simp only [Tq,Yw];omega),UU,TV];cases h:s.1 with
 | true=>rfl
 | false=>rw [if_neg (by simp),UU,WB,if_pos (a h)]
theorem fC {s:Ul} {x:Tj} (e:s.2.1.length<=32) (f:s.1=false->s.2.1=[]) (g:kE x=0) (a:s.1=true->SV x.1 s.2.1=false):Xr (s,x)=some (keep s x,((true,(x.1,s.2.2)),0)):=by
 unfold Xr keep;rw [dt e f,Sx,TK,if_pos rfl,Z0,g,Sx,TK,if_pos rfl];obtain ⟨s1,s2,c⟩:=s;obtain ⟨h,i,d,j⟩:=x;simp only at a ⊢;cases s1 with
 | true =>
  have:=a rfl;simp only [Sc,Wz,this,lc,if_false,TQ,if_true,UU,WB];by_cases b:h=s2
  ·simp [b,R7]
  ·simp only [b,if_false,decide_false];cases c<;>cases d<;>rfl
 | false =>
  simp only [R7,TQ,if_true,UU];cases c<;>cases d<;>rfl
theorem ej {l:List Tj} {b:Bool} (t:l.length<=20000) (r:Z5 (false,([],b)) l):XD (l,b)=some (WF (false,([],b)) l,(0,0)):=by
 unfold XD Vm;simp only [Tq,Tn];rw [TM,if_neg (by omega),Sx]
 rw [Un (l:=l) (σ:=Ul×List Tj) (s:=(0,(0,([],([],(0,(false,([],b)))))))) (λk a=>((0:Int),((k:Int),(([]:List Tj),(a.2,((0:Int),a.1))))))
  (λm k a=>Z5 a.1 m/\a.1.2.1.length<=32/\(a.1.1=false->a.1.2.1=[])/\a.2.length<=k/\k+m.length=l.length)
  (λm k a=>(1,((0,((l.length:Int),([],(a.2++WF a.1 m,(0,U6 a.1 m))))),()))) ((false,([],b)),[]) rfl (by omega) ⟨r,by simp,λ_=>rfl,by simp,by simp⟩ ?_ ?_,Sx]
 ·simp;rfl
 ·intro a _;simp only;rw [re,R7];simp [U6,WF]
 ·rintro k x m ⟨s,out⟩ u d p ⟨⟨c,e,f⟩,g,i,j,n⟩;simp only at c e f g i j ⊢;refine ⟨((true,(x.1,s.2.2)),out++if keep s x=true then [x] else []),?_,⟨f,ax c,(λh=>by cases h),?_,by simp at n;omega⟩,?_⟩
  ·rw [rl p,Sc,Ti,TC d,fC g i c e,Sx,TQ,if_pos rfl,TV,Ti,TC d];have o : ∀ {β:Type} (k:Unit->Option β),gd (CF (BF out.length [x].length) 1048576) k=k ():=λk=>gS j (by simp at n;omega) x k;rw [o,Tv d (show l.length<=9223372036854775807 by omega)];cases q:keep s x<;>simp [Il]
  ·split<;>simp<;>omega
  ·simp only [U6,WF,eb]
section
variable {a b:List Tj} (va:VL a) (vb:VL b)
include va vb
theorem bc (c:Bool) {n:Nat} (h:n<=a.length+b.length):Vs (UD a b n,c)=some (WF (s0 c) (UD a b n),U6 (s0 c) (UD a b n)):=by
 have f:=va.len;have g:=vb.len;have d:(UD a b n).length=n:=VE va vb h;unfold Vs;simp only [Tq,Tn];rw [ej (by omega) (XO va vb c h),Sx];unfold Vm;rw [Sx,TM,d];cases n with
 | zero=>rw [if_neg (by omega)];rfl
 | succ m =>
  obtain ⟨x,e,_⟩:=Vu va vb (n:=m) (by omega);rw [if_pos (by omega),show SK .i64 ((m+1:Nat):Int) 1=(m:Int) by rw [Sj (by omega)];omega,Ti,TC (x:=x) (by rw [YZ va vb h (by omega)];exact e),ZF va vb c e]
theorem dq (c:Bool) {n:Nat} (h:n<=a.length+b.length):WO (Vb a b c n)=some (n:Int):=by
 obtain ⟨d,hs⟩:=WM va vb (n:=n) h;have e:=va.len;have f:=vb.len;unfold WO;refine UC (x:=(0,(((n:Int),2),()))) (VA (s1:=(((pos a b n).1:Int),1)) (s2:=((n:Int),2)) ?_ ?_ rfl) rfl
 ·refine (aX 0 rfl rfl (x:=((pos a b n).1:Int)) rfl).trans ?_;show some (LR.nx (SF .i64 0 ((pos a b n).1:Int),(1:Int)))=_;rw [Sh (by omega),tg]
 ·refine (aX 1 rfl rfl (x:=((pos a b n).2:Int)) rfl).trans ?_;show some (LR.nx (SF .i64 ((pos a b n).1:Int) ((pos a b n).2:Int),(2:Int)))=_;rw [Sh (by omega),show ((pos a b n).1:Int)+((pos a b n).2:Int)=(n:Int) by omega]
theorem dv (c:Bool) {n:Nat} (h:n<=a.length+b.length):XY (Vb a b c n)=some 0:=by
 obtain ⟨d,hs⟩:=WM va vb (n:=n) h;have g:=va.len;have i:=vb.len;have e:=YQ (s0 c) (UD a b n);have f:(UD a b n).length=n:=VE va vb h;unfold XY;rw [show (Vb a b c n).1=Zn a b (pos a b n).1 (pos a b n).2 from rfl,aJ va vb d,Sx,TQ,if_pos rfl,dq va vb c h,Sx];simp only [Tq,Tn];rw [show (Vb a b c n).2.2.1=WF (s0 c) (UD a b n) from rfl,show (Vb a b c n).2.2.2=(n:Int) from rfl,show (Vb a b c n).2.1=U6 (s0 c) (UD a b n) from rfl,TM,if_neg (by omega),TM,if_neg (by omega),TQ,if_pos rfl];rw [show (Zn a b (pos a b n).1 (pos a b n).2).1=[a,b] from rfl,ga va vb,Sx,Ti];rw [UP (by rw [VE va vb (dc _)];exact h),UP (kd _)];rw [show D0 (UD a b (a.length+b.length)) 0 n=UD a b n from by unfold D0;rw [vL,ll];exact Xe va vb h,XJ];rw [show (s0 c).2.2=c from rfl,bc va vb c h,Sx,Xa,W0 _ _ (by omega),Sx,VB,VG,if_neg (by simp),XJ,YD,YD,Yu];rfl
theorem Zk (c:Bool) {n:Nat} (h:n<=a.length+b.length):US (Vb a b c n)=some (((a.length+b.length-n:Nat):Int),0):=by
 unfold US;rw [dv va vb c h,Sx,TQ,if_pos rfl,show (Vb a b c n).1=ZZ a b n from rfl,kH va vb h];rfl
theorem bN (c:Bool) {n:Nat} (h:n<=a.length+b.length) {k:Nat}:UK (Vb a b c n,(k:Int))=some (Vb a b c (n+min k (a.length+b.length-n)),(((min k (a.length+b.length-n):Nat):Int),0)):=by
 have i:=va.len;have l:=vb.len;obtain ⟨u,e⟩ : ∃ u,u=min k (a.length+b.length-n):=⟨_,rfl⟩
 have d:TX (k:Int) ((a.length+b.length-n:Nat):Int)=(u:Int):=by
  unfold TX;split<;>omega
 rw [<- e];unfold UK;rw [Zk va vb c h,Sx,TK,if_pos rfl];simp only [d,Tq,Tn];rw [TP,if_neg (by omega),TQ,if_pos rfl,dq va vb c h,Sx,Sh (by omega),TM,if_neg (by omega)]
 refine UC (x:=(0,(((u:Int),((ZZ a b (n+u)).1,((ZZ a b (n+u)).2.1,((ZZ a b (n+u)).2.2.1,((ZZ a b (n+u)).2.2.2.1,((ZZ a b (n+u)).2.2.2.2,((Vb a b c n).2.1.1,((Vb a b c n).2.1.2.1,((Vb a b c n).2.1.2.2,(Vb a b c n).2.2))))))))),())))
  (YX (λj=>((j:Int),((ZZ a b (n+j)).1,((ZZ a b (n+j)).2.1,((ZZ a b (n+j)).2.2.1,((ZZ a b (n+j)).2.2.2.1,((ZZ a b (n+j)).2.2.2.2,((Vb a b c n).2.1.1,((Vb a b c n).2.1.2.1,((Vb a b c n).2.1.2.2,(Vb a b c n).2.2)))))))))) 0 u rfl (by omega) (by omega) (λj _ g => ?_) ?_) ?_
 ·obtain ⟨y,f,_⟩:=Vu va vb (n:=n+j) (by omega);show br (S8 (j:Int) (u:Int)) _ _=_;rw [TP,if_pos (by omega)];show bd (WN (ZZ a b (n+j))) _=_;rw [kI va vb (by omega) f,Sx,Tu (by omega)];rfl
 ·show br (S8 (u:Int) (u:Int)) _ _=_;rw [TP,if_neg (by omega)]
 ·rw [show (Vb a b c n).1.1=[a,b] from rfl,ga va vb,Sx,show (Vb a b c n).2.2.2=(n:Int) from rfl,show SF .i64 (n:Int) (u:Int)=((n+u:Nat):Int) by rw [Sh (by omega)];omega,Ti];rw [UP (by rw [VE va vb (dc _)];omega),UP (kd _)];rw [show D0 (UD a b (a.length+b.length)) 0 (n+u)=UD a b (n+u) from by unfold D0;rw [vL,ll];exact Xe va vb (by omega),show (Vb a b c n).2.1.2.2=c from XJ _ _,bc va vb c (by omega),Sx];rfl
end
end
section
open Go Sv
theorem cF (B:Int) (i:Nat):Uv B (i+1)=2*Uv B i:=by
 unfold Uv;rw [Int.pow_succ,<- Int.mul_assoc,Int.mul_comm]
theorem du {B:Int} {i:Nat} (a:1<=B) (b:B<=16) (hi:i<=12):Vy (B,(i:Int))=some (Uv B i):=by
 unfold Vy;refine UC (x:=(0,((Uv B i,(i:Int)),()))) (X6 (λk=>(Uv B k,(k:Int))) i (by simp [Uv]) (by omega) (λk d => ?_) ?_) rfl
 ·have c:=d7 a b (show k<=12 by omega);simp only;rw [TP,if_pos (by omega),Si (by omega),Tu (by omega),cF]
 ·simp only;rw [TP,if_neg (by omega)]
theorem py (r:UJ) (b:r.2.length<=9223372036854775807):XU r=some (if r.1<1\/r.1>1000000 then (-1,7) else WX r.2):=by
 unfold XU;rw [TP,TM,XN _ b,Sx];by_cases h:r.1<1
 ·rw [if_pos h,if_pos (.inl h)]
 ·rw [if_neg h];by_cases a:r.1>1000000
  ·rw [if_pos a,if_pos (.inr a)]
  ·rw [if_neg a,if_neg (by omega)]
theorem kP (r:UJ) (most:Int) (a:List Int) (y:r.2.length<=9223372036854775807) (hi:a.length<=1048576):WR (r,(most,a))=some (kR a most r):=by
 unfold WR kR;rw [py r (by omega),Sx];simp only [Tq,Tn];by_cases h:r.1<1\/r.1>1000000
 ·rw [if_pos h,if_pos h];rfl
 rw [if_neg h,if_neg h,TQ];by_cases b:(WX r.2).2=0;rotate_left
 ·rw [if_neg b,if_pos b]
 rw [if_pos b,if_neg (show ¬ (WX r.2).2≠0 by simp [b]),TK,TM];by_cases i:r.2.length=0
 ·rw [if_pos (by omega),if_pos i]
 rw [if_neg (by omega),if_neg i];by_cases c:(r.2.length:Int)>most
 ·rw [if_pos c,if_pos c]
 rw [if_neg c,if_neg c]
 obtain ⟨q,p,d⟩:=Wq (l:=a) (σ:=Unit) (s:=((0:Int),(0:Int))) (λk _=>((k:Int),(0:Int))) (λm k _=>r.1∈a<->r.1∈m) (λ(q:Nat×((Int×Int)×Unit))=>(q.1=1/\r.1 ∉ a)\/(q.1=0/\r.1∈a/\q.2.1.2=8))
  (f:=λs1=>br (S8 s1.1 (a.length:Int)) (λ_=>R1 s1.1 λo=>ix a o λw=>br (Oa w r.1) (λ_=>some (.dn ((0,((s1.1,8),()))))) λ_=>some (.nx (SF .i64 s1.1 1,s1.2))) λ_=>some (.dn ((1,(s1,())))))
  () rfl (by omega) Iff.rfl (λ_ h=>⟨_,by simp only;rw [re];rfl,.inl ⟨rfl,by simpa using h⟩⟩) (λk x m _ hd j n h=>by
   simp only;rw [rl n,Sc,Ti,TC j,TK];by_cases e:x=r.1
   ·rw [if_pos e];exact .inr ⟨_,rfl,.inr ⟨rfl,by rw [h,e];simp,rfl⟩⟩
   ·rw [if_neg e];exact .inl ⟨(),by rw [Tv j (by omega)],by rw [h,eo];exact ⟨λu=>u.elim (λe2=>absurd e2.symm e) id,.inr⟩⟩)
 refine UC p ?_;rw [Sy];rcases d with ⟨d,g⟩ | ⟨d,g,t⟩
 ·rw [if_neg (show ¬ q.1=0 by omega),if_neg g]
 ·rw [if_pos d,if_pos g,t]
theorem gi (L:Tl) (hb:L.2.length<=9223372036854775807) (hr : ∀ rs∈L.2,rs.length<=9223372036854775807 /\ ∀ r∈rs,r.2.length<=9223372036854775807):U8 L=some (Va L):=by
 unfold U8 Va;simp only [Tq,Tn];rw [TP,TM,TM];by_cases n:L.1<1
 ·rw [if_pos n,if_pos (.inl n)]
 rw [if_neg n];by_cases o:L.1>16
 ·rw [if_pos o,if_pos (.inr o)]
 rw [if_neg o,if_neg (show ¬ (L.1<1\/L.1>16) by omega)];by_cases S:(L.2.length:Int)>12
 ·rw [if_pos S,if_pos (by omega)]
 rw [if_neg S,if_neg (by omega)];have hl2:L.2.length<=12:=by omega
 obtain ⟨T,N⟩ : ∃ T,T=ZU L.1 0 [] L.2:=⟨_,rfl⟩;rw [<- N]
 have p:T=none->(br (S6 (L.2.length:Int) 0) (λ_=>R1 (SK .i64 (L.2.length:Int) 1) λD=>ix L.2 D λJ=>br (Oa (J.length:Int) 0) (λ_=>some ((SK .i64 (L.2.length:Int) 1,((0:Int),(6:Int))))) λ_=>some ((0,(0,0)))) λ_=>some ((0,(0,0))))=some (if L.2.getLast? = some [] then (((L.2.length-1:Nat):Int),(0,6)) else (0,(0,0))):=by
  intro _;rw [TM];by_cases X:L.2=[]
  ·rw [X];rfl
  ·have hp:=ec.2 X;rw [if_pos (by omega),show SK .i64 (L.2.length:Int) 1=((L.2.length-1:Nat):Int) by rw [Sj (by omega)];omega,Ti,oy];have d:L.2[L.2.length-1]? = some (L.2[L.2.length-1]'(by omega)):=by simp
   rw [TC d,d,TK];by_cases C:L.2[L.2.length-1]'(by omega)=[]
   ·rw [C];simp
   ·rw [if_neg (by have:=ec.2 C;omega),if_neg (by simp [C])]
 obtain ⟨r,G,j⟩:=Wq (l:=L.2) (σ:=List Int) (s:=((0:Int),(([]:List Int),((0:Int),((0:Int),(0:Int)))))) (λi a=>((0:Int),(a,((0:Int),((0:Int),(i:Int))))))
  (λm i a=>ZU L.1 i a m=T/\a.length<=2*i) (λ(r:Nat×((Int×(List Int×(Int×(Int×Int))))×Unit))=>(r.1=1/\T=none)\/(r.1=0/\Q1 T r.2.1.1 r.2.1.2.2.1 r.2.1.2.2.2.1/\T≠none))
  (f:=λ(s0:(Int×((List Int)×(Int×(Int×Int)))))=>br (S8 s0.2.2.2.2 (L.2.length:Int)) (λ_=>R1 s0.2.2.2.2 λk1=>ix L.2 k1 λB=>br (S6 (B.length:Int) 2) (λ_=>some (.dn ((0,((0,(s0.2.1,(s0.2.2.2.2,(3,s0.2.2.2.2)))),()))))) λ_=>bd (loop (λ(b:(Int×((List Int)×(Int×(Int×Int)))))=>br (S8 b.2.2.2.2 (B.length:Int)) (λ_=>R1 b.2.2.2.2 λE=>ix B E λK=>bd (Vy (L.1,s0.2.2.2.2)) λI=>bd (WR ((K,(I,b.2.1)))) λy=>br (Ry y 0) (λ_=>some (.dn ((0,((b.2.2.2.2,(b.2.1,(s0.2.2.2.2,(y,b.2.2.2.2)))),()))))) λ_=>R1 b.2.2.2.2 λF=>ix B F λz=>gd (CF (BF b.2.1.length [z.1].length) 1048576) λ_=>some (.nx ((b.1,(Il b.2.1 [z.1],(b.2.2.1,(b.2.2.2.1,SF .i64 b.2.2.2.2 1))))))) λ_=>some (.dn ((1,(b,()))))) ((s0.1,(s0.2.1,(s0.2.2.1,(s0.2.2.2.1,0)))))) λc=>br (neq c.1 0) (λ_=>some (.dn ((0,((c.2.1.1,(c.2.1.2.1,(c.2.1.2.2.1,(c.2.1.2.2.2.1,s0.2.2.2.2)))),()))))) λ_=>some (.nx ((c.2.1.1,(c.2.1.2.1,(c.2.1.2.2.1,(c.2.1.2.2.2.1,SF .i64 s0.2.2.2.2 1))))))) λ_=>some (.dn ((1,(s0,())))))
  [] rfl (by omega) ⟨N.symm,by simp⟩ (λa h=>by
   refine ⟨_,by simp only;rw [re];rfl,.inl ⟨rfl,?_⟩⟩;rw [<- h.1];rfl) (λi rs m a hd d hi h=>by
   obtain ⟨h,P⟩:=h;simp only;obtain ⟨Y,u⟩:=hr rs (bo d);rw [rl hi,Sc,Ti,TC d,TM];unfold ZU at h;by_cases M:rs.length>2
   ·rw [if_pos (by omega)];rw [if_pos M] at h;refine .inr ⟨_,rfl,.inr ⟨rfl,?_,by rw [<- h];simp⟩⟩;rw [<- h];exact ⟨rfl,rfl,rfl⟩
   rw [if_neg (by omega)];rw [if_neg M] at h;obtain ⟨U,O⟩ : ∃ U,U=ZV (Uv L.1 i) 0 a rs:=⟨_,rfl⟩;rw [<- O] at h
   obtain ⟨r,G,j⟩:=Wq (l:=rs) (σ:=Unit) (s:=((0:Int),(a,((0:Int),((0:Int),(0:Int)))))) (λk _=>((0:Int),(a++(rs.take k).map (·.1),((0:Int),((0:Int),(k:Int))))))
    (λm k _=>ZV (Uv L.1 i) k (a++(rs.take k).map (·.1)) m=U) (λ(r:Nat×((Int×(List Int×(Int×(Int×Int))))×Unit))=>(r.1=1/\U=none/\r.2.1=(0,(a++rs.map (·.1),(0,(0,(rs.length:Int))))))\/(r.1=0 /\ ∃ k e,U=some (k,e)/\r.2.1.1=(k:Int)/\r.2.1.2.2.1=(i:Int)/\r.2.1.2.2.2.1=e))
    (f:=λ(b:(Int×((List Int)×(Int×(Int×Int)))))=>br (S8 b.2.2.2.2 (rs.length:Int)) (λ_=>R1 b.2.2.2.2 λE=>ix rs E λK=>bd (Vy (L.1,(i:Int))) λI=>bd (WR ((K,(I,b.2.1)))) λy=>br (Ry y 0) (λ_=>some (.dn ((0,((b.2.2.2.2,(b.2.1,((i:Int),(y,b.2.2.2.2)))),()))))) λ_=>R1 b.2.2.2.2 λF=>ix rs F λz=>gd (CF (BF b.2.1.length [z.1].length) 1048576) λ_=>some (.nx ((b.1,(Il b.2.1 [z.1],(b.2.2.1,(b.2.2.2.1,SF .i64 b.2.2.2.2 1))))))) λ_=>some (.dn ((1,(b,())))))
    () (by simp) (by omega) (by simp [O]) (λ_ h=>by
     refine ⟨_,by simp only;rw [re];rfl,.inl ⟨rfl,by rw [<- h];rfl,by simp⟩⟩) (λk r m _ hd d Z h=>by
     simp only;have hr2:=u r (bo d);have w:(rs.take (k+1)).map (·.1)=(rs.take k).map (·.1)++[r.1]:=by rw [gs,d];simp
     have W:(a++(rs.take k).map (·.1)).length<=100:=by simp;omega
     rw [rl Z,Sc,Ti,TC d,du (by omega) (by omega) (by omega),Sx,kP _ _ _ (by omega) (by omega),Sx,TQ];unfold ZV at h;by_cases A:kR (a++(rs.take k).map (·.1)) (Uv L.1 i) r=0
     ·rw [if_neg (λhh:kR (a++(rs.take k).map (·.1)) (Uv L.1 i) r≠0=>hh A)] at h;rw [if_pos A,Ti,TC d,UP (by simp only [BF,ci,cP];omega)];refine .inl ⟨(),?_,?_⟩
      ·rw [Tv d (by omega),w,<- eb];rfl
      ·rw [w,<- eb];exact h
     ·rw [if_pos A] at h;rw [if_neg A]
      exact .inr ⟨_,rfl,.inr ⟨rfl,_,_,h.symm,rfl,rfl,rfl⟩⟩)
   rw [G,Sx,Sy];rcases j with ⟨j,g,x⟩ | ⟨j,k,e,g,x,q5,q6⟩
   ·rw [if_neg (show ¬ r.1=0 by omega),x,Tv d (by omega)];rw [g] at h;exact .inl ⟨a++rs.map (·.1),rfl,h,by simp;omega⟩
   ·rw [if_pos j];rw [g] at h;refine .inr ⟨_,rfl,.inr ⟨rfl,?_,by rw [<- h];simp⟩⟩;rw [<- h]
    exact ⟨x,q5,q6⟩)
 refine UC G ?_;rw [Sy];rcases j with ⟨j,g⟩ | ⟨j,g,x⟩
 ·rw [if_neg (show ¬ r.1=0 by omega),g];exact p g
 ·rw [if_pos j];cases q:T with
  | none=>exact absurd q x
  | some t =>
   obtain ⟨i,k,e⟩:=t;rw [q] at g;rw [g.1,g.2.1,g.2.2]
theorem fA (L:Tl) (b:L.2.length<=1048576) (a : ∀ rs∈L.2,rs.length<=1048576 /\ ∀ r∈rs,r.2.length<=9223372036854775807):U8 L=some (Va L):=gi L (by omega) λrs h=>⟨by have:=(a rs h).1;omega,(a rs h).2⟩
def UV (ls:List (List UJ)):List UJ:=ls.flatMap List.reverse
theorem VLev.small {L:Tl} (v:VLev L):L.2.length<=1048576 /\ ∀ rs∈L.2,rs.length<=1048576 /\ ∀ r∈rs,r.2.length<=9223372036854775807:=by
 refine ⟨by have:=v.len;omega,λrs a => ?_⟩;obtain ⟨i,hi⟩:=ed a;obtain ⟨d,b⟩:=v.lev i rs hi;exact ⟨by omega,λr c=>by have:=(b r c).vl.len;omega⟩
theorem YK : ∀ (ls:List (List UJ)),(∀ rs∈ls,rs.length<=2)->(UV ls).length<=2*ls.length
 | [],_=>by simp [UV]
 | rs::ls,h=>by
  have a:=YK ls λr b=>h r (by simp [b]);have c:=h rs (by simp);unfold UV at a ⊢;rw [xr,hM,List.length_reverse,ci];omega
theorem VLev.two {L:Tl} (v:VLev L) : ∀ rs∈L.2,rs.length<=2:=λrs a=>by
 obtain ⟨i,hi⟩:=ed a;exact (v.lev i rs hi).1
theorem bM {L:Tl} (v:VLev L):WI L=some (UV L.2,0):=by
 obtain ⟨d,b⟩:=v.small;have e:=v.len;unfold WI;simp only [Tq,Tn];rw [fA _ d b,WT v,Sx,TQ,if_pos rfl]
 rw [Un (l:=L.2) (σ:=List UJ) (s:=(([]:List UJ),(0:Int))) (λi m=>(m,(i:Int))) (λls i m=>(∀ rs∈ls,rs.length<=2)/\m.length<=2*i) (λls _ m=>(0,((m++UV ls,(L.2.length:Int)),()))) [] rfl (by omega) ⟨v.two,by simp⟩ (λm _=>by
  simp only;rw [re,R7];simp [UV]) (λi rs ls m hd a hi h=>by
   refine ⟨m++rs.reverse,?_,⟨λr b=>h.1 r (by simp [b]),by have:=h.1 rs (by simp);simp;omega⟩,by simp [UV]⟩;have c:=h.1 rs (by simp);have f:m.length<=24:=by have:=h.2;omega
   simp only;rw [rl hi,Sc,Ti,TC a];have gg : ∀ {β:Type} (z:List UJ) (x:UJ) (k:Unit->Option β),z.length<=100->gd (CF (BF z.length [x].length) 1048576) k=k ():=λz x k g=>UP (by simp only [BF,ci,cP];omega) k
   match rs,c,a with
   | [],_,a =>
    refine UC (x:=(0,((m,-1),()))) (U4 (n:=1) (by omega) (UT rfl)) ?_;rw [Tv a (by omega)];simp
   | [r0],_,a =>
    refine UC (x:=(0,((m++[r0],-1),()))) (U4 (n:=2) (by omega) ((UN (s':=(m++[r0],-1)) ?_).trans (UT rfl))) ?_
    ·show br (Rx (0:Int) 0) _ _=_;rw [TL,if_pos (by omega),Ti,TC a];refine (WL 0 rfl (x:=r0) rfl).trans ?_;rw [gg m _ _ (by omega)];rfl
    ·rw [Tv a (by omega)];simp
   | [r0,r1],_,a =>
    refine UC (x:=(0,((m++[r1]++[r0],-1),()))) (U4 (n:=3) (by omega) ((UN (s':=(m++[r1],0)) ?_).trans ((UN (s':=(m++[r1]++[r0],-1)) ?_).trans (UT rfl)))) ?_
    ·show br (Rx (1:Int) 0) _ _=_;rw [TL,if_pos (by omega),Ti,TC a];refine (WL 1 rfl (x:=r1) rfl).trans ?_;rw [gg m _ _ (by omega)];rfl
    ·show br (Rx (0:Int) 0) _ _=_;rw [TL,if_pos (by omega),Ti,TC a];refine (WL 0 rfl (x:=r0) rfl).trans ?_;rw [gg (m++[r1]) _ _ (by simp;omega)];rfl
    ·rw [Tv a (by omega)];simp),Sx]
 simp
theorem XH (a b:Int):TY a b=max a b:=by unfold TY;split<;>omega
theorem WY : ∀ (l:List UJ) (m:Int),0<=m->l.foldl (λm r=>TY m r.1) m=max m (l.foldl (λm r=>TY m r.1) 0)
 | [],m,h=>by simp;omega
 | r::l,m,h=>by
  have a:=WY l (TY m r.1) (by rw [XH];omega);have b:=WY l (TY 0 r.1) (by rw [XH];omega);simp only [gM];rw [a,b,XH,XH];omega
theorem bY (l:List UJ) (m:Int) (h:0<=m):l.reverse.foldl (λm r=>TY m r.1) m=l.foldl (λm r=>TY m r.1) m:=by
 induction l generalizing m with
 | nil=>rfl
 | cons r l a =>
  rw [List.reverse_cons,xw,a m h,gM];simp only [gM,List.foldl_nil];rw [WY l m h,WY l (TY m r.1) (by rw [XH];omega),XH,XH];omega
theorem cX (l:List UJ) (m:Int) (h:0<=m):0<=l.foldl (λm r=>TY m r.1) m:=by
 rw [WY l m h];omega
theorem Yz : ∀ (ls:List (List UJ)) (m:Int),0<=m->(UV ls).foldl (λm r=>TY m r.1) m=ls.foldl (λm rs=>rs.foldl (λm r=>TY m r.1) m) m
 | [],m,_=>rfl
 | rs::ls,m,h=>by
  have a:=Yz ls (rs.foldl (λm r=>TY m r.1) m) (cX _ _ h);unfold UV at a ⊢;rw [xr,xw,bY rs m h,gM,a]
theorem ck {L:Tl} (v:VLev L):VT L=some (WS L.2):=by
 have c:=v.len;have d:=YK L.2 v.two;unfold VT;simp only [Tq,Tn];rw [bM v,Sx]
 rw [Un (l:=UV L.2) (σ:=Int) (s:=((0:Int),(0:Int))) (λi m=>(m,(i:Int))) (λ_ _ _=>True) (λl _ m=>(0,((l.foldl (λm r=>TY m r.1) m,((UV L.2).length:Int)),()))) 0 rfl (by omega) trivial (λm _=>by
  simp only;rw [re,R7];rfl) (λk r l m hd a b _=>⟨TY m r.1,by
   simp only
   rw [rl b,Sc,Ti,TC a,Tv a (by omega)],trivial,rfl⟩),Sx]
 rw [Yz _ _ (by omega)];rfl
theorem aa {L:Tl} (d:L.2.length<=1000):Ui L=some (Tp 0 L.2):=by
 unfold Ui;simp only [Tq,Tn]
 rw [Un (l:=L.2) (σ:=List Int) (s:=(([]:List Int),(0:Int))) (λi m=>(m,(i:Int))) (λls i m=>m++Tp i ls=Tp 0 L.2) (λ_ _ _=>(0,((Tp 0 L.2,(L.2.length:Int)),()))) [] rfl (by omega) rfl (λm h=>by
  simp only;rw [re,R7,<- h];simp [Tp]) (λi rs ls m hd b hi h=>by
   refine ⟨m++(if rs.length=2 then [(i:Int)] else []),?_,?_,rfl⟩
   ·simp only;rw [rl hi,Sc,Ti,TC b,TK]
    have e:m.length<=1000:=by
     have a:=congrArg mu h;have c:=VS L.2 0;rw [hM] at a;omega
    by_cases a:rs.length=2
    ·rw [if_pos (by omega),if_pos a,UP (by simp only [BF,ci,cP];omega),Tv b (by omega)];rfl
    ·rw [if_neg (by omega),if_neg a,ey,Tv b (by omega)]
   ·rw [eb];exact h),Sx]
theorem tJ {L:Tl} (v:VLev L) (k:Int):Ym (L,k)=some (if k<0\/k>=12 then 7 else 0):=by
 obtain ⟨c,d⟩:=v.small;unfold Ym;rw [fA _ c d,WT v,Sx,TK,if_pos rfl,TP,TL];by_cases a:k<0
 ·rw [if_pos a,if_pos (.inl a)]
 ·rw [if_neg a];by_cases b:k>=12
  ·rw [if_pos b,if_pos (.inr b)]
  ·rw [if_neg b,if_neg (by omega)]
theorem bL {L:Tl} (v:VLev L) {n:Nat} (b:n<L.2.length):UX (L,(n:Int))=some (decide ((n:Int)=(L.2.length:Int)-1)):=by
 have a:=v.len;unfold UX YO;simp only [Tq,Tn];rw [tJ v,Sx,if_neg (by omega),TQ,if_pos rfl,Sx,Tu (by omega)];unfold S6;rw [VB];by_cases h:(n:Int)=(L.2.length:Int)-1
 ·simp [h]
 ·simp [h];omega
theorem ew {a b:List Tj} (va:VL a) (d:VL b) (c:Bool):XX ([a,b],c)=some (Vb a b c 0,(0,0)):=by
 unfold XX YN Vm;rw [Zj va d,Sx,TQ,if_pos rfl];refine Eq.trans (b:=bd (bd (Vl ([a,b],[((0:Nat):Int),((0:Nat):Int)])) _) _) rfl ?_;rw [Yt va d (kd _) (kd _)];rfl
theorem cC {L:Tl} {n:Nat} {a b:UJ} (c:Bool) (h:L.2[n]? = some [a,b]) (d:VL a.2) (e:VL b.2):UF (L,((n:Int),c))=some ((n:Int),Vb b.2 a.2 c 0):=by
 have f:=(a8.1 h).1;unfold UF;simp only [Tq,Tn];rw [TL,if_neg (by omega),Ti,TC h,TC (x:=b) rfl,TC (x:=a) rfl,ew e d];rfl
theorem pw {L:Tl} {n:Nat} {a b:UJ} {j:Job} (h:L.2[n]? = some [a,b]) (e:VL a.2) (f:VL b.2) {β:Type} (A B:Option β) :
  (bd (UF (L,((n:Int),j.2.2.1.2.2))) λc=>bd (US c.2) λl=>br (S8 j.2.2.2.2 0) (λ_=>A) λ_=>br (S6 j.2.2.2.2 l.1) (λ_=>A) λ_=>bd (UK (c.2,j.2.2.2.2)) λm=>bd (Ua (m.1,j.2)) λo=>br (Hg o) (λ_=>A) λ_=>B)
  = if j.2.2.2.2<0\/j.2.2.2.2>((b.2.length+a.2.length:Nat):Int) then A else if Vb b.2 a.2 j.2.2.1.2.2 j.2.2.2.2.toNat=j.2 then B else A:=by
 rw [cC _ h e f,Sx,Zk f e _ (kd _),Sx,TP,TM,ll];by_cases g:j.2.2.2.2<0
 ·rw [if_pos g,if_pos (.inl g)]
 rw [if_neg g];by_cases i:j.2.2.2.2>((b.2.length+a.2.length:Nat):Int)
 ·rw [if_pos i,if_pos (.inr i)]
 rw [if_neg i,if_neg (show ¬ (j.2.2.2.2<0\/j.2.2.2.2>((b.2.length+a.2.length:Nat):Int)) by omega)];obtain ⟨k,p⟩ : ∃ k:Nat,j.2.2.2.2=(k:Int):=⟨j.2.2.2.2.toNat,by omega⟩;rw [p,bN f e _ (kd _),Sx,ll,ee,vv (by omega),bl];obtain ⟨s1,s2,q,r,s,t⟩:=Z6 f e j.2.2.1.2.2 (n:=k) (by omega);rw [bI _ _ s1 s2 q r s t,Sx,VB,VG];by_cases d:Vb b.2 a.2 j.2.2.1.2.2 k=j.2
 ·rw [if_neg (by simp [d]),if_pos d]
 ·rw [if_pos d,if_neg d]
end
section
open Go Sv
theorem Z1 (s:Th) (J:s.1.2.length<=9223372036854775807) (hr : ∀ rs∈s.1.2,rs.length<=9223372036854775807 /\ ∀ r∈rs,r.2.length<=9223372036854775807) (hj:s.2.1.length<=9223372036854775807):VQ s=some (Tk s):=by
 unfold VQ Tk;simp only [Tq,Tn];rw [gi _ J hr,Sx,TK];by_cases o:(Va s.1).2.2=0;rotate_left
 ·rw [if_neg o,if_pos o,TK,if_neg o,TQ,if_neg o]
 rw [if_pos o,if_neg (show ¬ (Va s.1).2.2≠0 by simp [o]),TP,TM];have v:=Xd.1 o;by_cases y:s.2.2<1
 ·rw [if_pos y,if_pos (.inl y)]
 rw [if_neg y];by_cases p:s.2.2>1000001
 ·rw [if_pos p,if_pos (.inr p)]
 rw [if_neg p,if_neg (show ¬ (s.2.2<1\/s.2.2>1000001) by omega),TK,if_pos o,ck v,Sx,TN];by_cases m:s.2.2<=WS s.1.2
 ·rw [if_pos m,if_pos m]
 rw [if_neg m,if_neg m,TQ,if_pos o,aa (by have:=v.len;omega),Sx];obtain ⟨a,g⟩ : ∃ a,a=Tp 0 s.1.2:=⟨_,rfl⟩;have hdl:a.length<=12:=by have:=VS s.1.2 0;have:=v.len;rw [g];omega
 rw [<- g];obtain ⟨T,Z⟩ : ∃ T,T=Wp s.1 a 0 s.2.1:=⟨_,rfl⟩;rw [<- Z]
 obtain ⟨r,q1,D⟩:=Wq (l:=s.2.1) (σ:=Unit) (λi _=>((0:Int),((0:Int),(i:Int)))) (λjs i _=>Wp s.1 a i js=T) (λ(r:Nat×((Int×(Int×Int))×Unit))=>(T=none/\r.1=1)\/(∃ i:Nat,T=some i/\r.1=0/\r.2.1.1=6/\r.2.1.2.1=(i:Int)))
  (f:=λb=>br (S8 b.2.2 (s.2.1.length:Int)) (λ_=>R1 b.2.2 λk7=>ix s.2.1 k7 λe=>br (Rx b.2.2 (a.length:Int)) (λ_=>some (.dn ((0,((6,(b.2.2,b.2.2)),()))))) λ_=>R1 b.2.2 λk9=>ix a k9 λX=>br (Ry e.1 X) (λ_=>some (.dn ((0,((6,(b.2.2,b.2.2)),()))))) λ_=>br e.2.2.1.2.2 (λ_=>bd (UX (s.1,e.1)) λM=>br (Hg M) (λ_=>some (.dn ((0,((6,(b.2.2,b.2.2)),()))))) λ_=>bd (UF ((s.1,(e.1,e.2.2.1.2.2)))) λG=>bd (US G.2) λN=>br (S8 e.2.2.2.2 0) (λ_=>some (.dn ((0,((6,(b.2.2,b.2.2)),()))))) λ_=>br (S6 e.2.2.2.2 N.1) (λ_=>some (.dn ((0,((6,(b.2.2,b.2.2)),()))))) λ_=>bd (UK (G.2,e.2.2.2.2)) λO=>bd (Ua (O.1,e.2)) λP=>br (Hg P) (λ_=>some (.dn ((0,((6,(b.2.2,b.2.2)),()))))) λ_=>some (.nx ((b.1,(b.2.1,SF .i64 b.2.2 1))))) λ_=>bd (UF ((s.1,(e.1,e.2.2.1.2.2)))) λI=>bd (US I.2) λS=>br (S8 e.2.2.2.2 0) (λ_=>some (.dn ((0,((6,(b.2.2,b.2.2)),()))))) λ_=>br (S6 e.2.2.2.2 S.1) (λ_=>some (.dn ((0,((6,(b.2.2,b.2.2)),()))))) λ_=>bd (UK (I.2,e.2.2.2.2)) λU=>bd (Ua (U.1,e.2)) λW=>br (Hg W) (λ_=>some (.dn ((0,((6,(b.2.2,b.2.2)),()))))) λ_=>some (.nx ((b.1,(b.2.1,SF .i64 b.2.2 1))))) λ_=>some (.dn ((1,(b,())))))
  (s:=(0,(0,0))) () rfl (by omega) Z.symm (λ_ h=>by
   refine ⟨_,by simp only;rw [re];rfl,.inl ⟨by rw [<- h];rfl,rfl⟩⟩) (λi j js _ hd hx hi h=>by
   simp only;rw [rl hi,Sc,Ti,TC hx,TL];unfold Wp at h
   have c:ZT s.1 a i j=true -> ∃ r:Nat×((Int×(Int×Int))×Unit),(some (LR.dn ((0,((6,((i:Int),(i:Int))),()))):LR (Int×(Int×Int)) _))=some (.dn r)/\((T=none/\r.1=1)\/(∃ i:Nat,T=some i/\r.1=0/\r.2.1.1=6/\r.2.1.2.1=(i:Int))):=λJ=>by
    rw [if_pos J] at h;exact ⟨_,rfl,.inr ⟨i,h.symm,rfl,rfl,rfl⟩⟩
   have x:ZT s.1 a i j=false -> ∃ st':Unit,(some (LR.nx ((0:Int),((0:Int),SF .i64 (i:Int) 1))):Option (LR _ (Nat×((Int×(Int×Int))×Unit))))=some (.nx ((0:Int),((0:Int),((i+1:Nat):Int))))/\Wp s.1 a (i+1) js=T:=λhg=>by
    rw [if_neg (by simp [hg])] at h;exact ⟨(),by rw [Tv hx (by omega)],h⟩
   by_cases y:(i:Int)>=(a.length:Int)
   ·rw [if_pos y];exact .inr (c (by unfold ZT;rw [a9 (by omega)]))
   rw [if_neg y,Ti];have w:a[i]? = some (a[i]'(by omega)):=by simp
   rw [TC w,TQ];obtain ⟨n,K,E,F,t⟩:=Xx (ls:=s.1.2) (i:=0) (k:=i) (d:=a[i]'(by omega)) (by rw [<- g];exact w);rw [ee] at K
   have q:ZT s.1 a i j=(if j.1≠(a[i]'(by omega)) then true else if j.2.2.1.2.2=true/\j.1≠(s.1.2.length:Int)-1 then true else if j.2.2.2.2<0\/j.2.2.2.2>((F.2.length+E.2.length:Nat):Int) then true else decide (Vb F.2 E.2 j.2.2.1.2.2 j.2.2.2.2.toNat≠j.2)):=by
    unfold ZT;rw [w];simp only;rw [K,bl,t]
   by_cases p:j.1=(a[i]'(by omega));rotate_left
   ·rw [if_neg p];exact .inr (c (by rw [q,if_pos p]))
   rw [if_pos p];rw [if_neg (by simp [p])] at q;have C:j.1=(n:Int):=by rw [p,K]
   have hv:=(v.lev n _ t).2;have v0:=(hv E (by simp)).vl;have v1:=(hv F (by simp)).vl;have L:=(a8.1 t).1;rw [C,bL v L,Sx,VB,VG,pw t v0 v1,TV];rw [C] at q;by_cases m:j.2.2.1.2.2=true/\(n:Int)≠(s.1.2.length:Int)-1
   ·rw [if_pos m.1,if_pos m.2];exact .inr (c (by rw [q,if_pos m]))
   rw [if_neg m] at q
   have h4 : ∀ {γ:Type} (A B:γ),(if j.2.2.1.2.2=true then if ¬(n:Int)=(s.1.2.length:Int)-1 then A else B else B)=B:=by
    intro γ A B;by_cases u:j.2.2.1.2.2=true
    ·rw [if_pos u,if_neg (λz=>m ⟨u,z⟩)]
    ·rw [if_neg u]
   rw [h4];by_cases u:j.2.2.2.2<0\/j.2.2.2.2>((F.2.length+E.2.length:Nat):Int)
   ·rw [if_pos u];exact .inr (c (by rw [q,if_pos u]))
   rw [if_neg u];rw [if_neg u] at q;by_cases z:Vb F.2 E.2 j.2.2.1.2.2 j.2.2.2.2.toNat=j.2
   ·rw [if_pos z];exact .inl (x (by rw [q];simp [z]))
   ·rw [if_neg z]
    exact .inr (c (by rw [q];simp [z])))
 refine UC q1 ?_;rw [Sy];rcases D with ⟨D,q3⟩ | ⟨i,D,q3,q4,q5⟩
 ·rw [if_neg (show ¬ r.1=0 by omega),D,TP];simp only;by_cases Y:s.2.1.length<a.length
  ·rw [if_pos (by omega),if_pos Y]
  ·rw [if_neg (by omega),if_neg Y]
 ·rw [if_pos q3,D,q4,q5]
theorem dk (s:Th) (b:s.1.2.length<=1048576) (a : ∀ rs∈s.1.2,rs.length<=1048576 /\ ∀ r∈rs,r.2.length<=9223372036854775807) (c:s.2.1.length<=1048576):VQ s=some (Tk s):=Z1 s (by omega) (λrs h=>⟨by have:=(a rs h).1;omega,(a rs h).2⟩) (by omega)
end
section
open Go Sv
def JobAt (L:Tl) (n:Nat) (j:Job):Prop := ∃ a b c k,L.2[n]? = some [a,b]/\j=((n:Int),Vb b.2 a.2 c k)/\k<=b.2.length+a.2.length/\(c=true->n+1=L.2.length)/\VL a.2/\VL b.2
structure VSt (s:Th):Prop where
 lev:VLev s.1
 n1:1<=s.2.2
 n2:s.2.2<=1000001
 n3:WS s.1.2<s.2.2
 due:s.2.1.map (·.1)=Tp 0 s.1.2
 job : ∀ j∈s.2.1,∃ n,JobAt s.1 n j
theorem ad (a b:List Tj) (c:Bool) (k:Nat):(Vb a b c k).2.1.2.2=c:=by
 show (U6 (s0 c) (UD a b k)).2.2=c;rw [XJ]
theorem au {L:Tl} (v:VLev L) {i:Nat} {j:Job}:ZT L (Tp 0 L.2) i j=false <-> ∃ n,(Tp 0 L.2)[i]? = some j.1/\JobAt L n j:=by
 constructor
 ·intro h;unfold ZT at h;cases hd:(Tp 0 L.2)[i]? with
  | none=>rw [hd] at h;cases h
  | some d =>
   rw [hd] at h;simp only at h;by_cases e:j.1=d;rotate_left
   ·rw [if_pos e] at h;cases h
   rw [if_neg (by simp [e])] at h;by_cases f:j.2.2.1.2.2=true/\j.1≠(L.2.length:Int)-1
   ·rw [if_pos f] at h;cases h
   rw [if_neg f] at h;obtain ⟨n,l,a,b,c⟩:=Xx hd;rw [ee] at l;rw [l,bl,c] at h;simp only at h;by_cases o:j.2.2.2.2<0\/j.2.2.2.2>((b.2.length+a.2.length:Nat):Int)
   ·rw [if_pos o] at h;cases h
   rw [if_neg o] at h;have r:Vb b.2 a.2 j.2.2.1.2.2 j.2.2.2.2.toNat=j.2:=by simpa using h
   have q:=(v.lev n _ c).2;refine ⟨n,by rw [e],a,b,j.2.2.1.2.2,j.2.2.2.2.toNat,c,tb (by rw [e,l]) r.symm,by omega,λg => ?_,(q a (by simp)).vl,(q b (by simp)).vl⟩
   have s:j.1=(L.2.length:Int)-1:=by
    by_cases p:j.1=(L.2.length:Int)-1
    ·exact p
    ·exact absurd ⟨g,p⟩ f
   omega
 ·rintro ⟨n,hd,a,b,m,k,c,rfl,t,g,u,w⟩;unfold ZT;rw [hd];simp only;rw [if_neg (by simp),ad,if_neg (λh:m=true/\(n:Int)≠(L.2.length:Int)-1=>h.2 (by have:=g h.1;omega)),bl,c];simp only;rw [show (Vb b.2 a.2 m k).2.2.2=(k:Int) from rfl,if_neg (by omega),bl];simp
theorem ZE {L:Tl} {a:List Int} : ∀ {js:List Job} {i:Nat},Wp L a i js=none <-> ∀ k j,js[k]? = some j->ZT L a (i+k) j=false
 | [],i=>by simp [Wp]
 | j::js,i=>by
  unfold Wp;by_cases h:ZT L a i j=true
  ·rw [if_pos h];simp only [reduceCtorEq,false_iff];intro b;have:=b 0 j rfl;rw [Nat.add_zero,h] at this;cases this
  ·rw [if_neg h,ZE (js:=js)];constructor
   ·intro b k j' c;cases k with
    | zero=>cases c;simpa using h
    | succ k=>rw [show i+(k+1)=i+1+k by omega];exact b k j' c
   ·intro b k j' c;rw [show i+1+k=i+(k+1) by omega];exact b (k+1) j' c
theorem Ts {s:Th}:(Tk s).2=0<->VSt s:=by
 unfold Tk;constructor
 ·intro h;by_cases d:(Va s.1).2.2≠0
  ·rw [if_pos d] at h;exact absurd h d
  rw [if_neg d] at h;have v:=Xd.1 (Decidable.not_not.1 d);by_cases f:s.2.2<1\/s.2.2>1000001
  ·rw [if_pos f] at h;cases h
  rw [if_neg f] at h;by_cases g:s.2.2<=WS s.1.2
  ·rw [if_pos g] at h;cases h
  rw [if_neg g] at h;cases b:Wp s.1 (Tp 0 s.1.2) 0 s.2.1 with
  | some i=>rw [b] at h;cases h
  | none =>
   rw [b] at h;simp only at h;by_cases l:s.2.1.length<(Tp 0 s.1.2).length
   ·rw [if_pos l] at h;cases h
   have m:=ZE.1 b
   have c : ∀ k j,s.2.1[k]? = some j -> ∃ n,(Tp 0 s.1.2)[k]? = some j.1/\JobAt s.1 n j:=λk j a=>by
    have:=m k j a;rw [ee] at this;exact (au v).1 this
   refine ⟨v,by omega,by omega,by omega,?_,λj o => ?_⟩
   ·apply List.ext_getElem?;intro k;rw [ta];cases a:s.2.1[k]? with
    | some j=>obtain ⟨n,e,_⟩:=c k j a;rw [e];rfl
    | none =>
     have:=List.getElem?_eq_none_iff.1 a;rw [a9 (by omega)];rfl
   ·obtain ⟨k,a⟩:=ed o;obtain ⟨n,_,h⟩:=c k j a;exact ⟨n,h⟩
 ·intro v;rw [if_neg (by simp [Xd.2 v.lev]),if_neg (by have:=v.n1;have:=v.n2;omega),if_neg (by have:=v.n3;omega)]
  have b:Wp s.1 (Tp 0 s.1.2) 0 s.2.1=none:=ZE.2 λk j a=>by
   rw [ee];obtain ⟨n,p⟩:=v.job j (bo a);exact (au v.lev).2 ⟨n,by rw [<- v.due,ta,a];rfl,p⟩
  rw [b];simp only;rw [if_neg (by rw [<- v.due];simp)]
structure Sm (s:Th):Prop where
 lv:s.1.2.length<=1048576
 rs : ∀ rs∈s.1.2,rs.length<=1048576 /\ ∀ r∈rs,r.2.length<=9223372036854775807
 js:s.2.1.length<=1048576
theorem tn {s:Th} (m:Sm s):U7 s=some (Tk s):=eU s m.lv m.rs m.js
theorem ur {s:Th} (m:Sm s):VQ s=some (Tk s):=dk s m.lv m.rs m.js
theorem VSt.jlen {s:Th} (v:VSt s):s.2.1.length=(Tp 0 s.1.2).length:=by rw [<- v.due];simp
theorem VSt.jsmall {s:Th} (v:VSt s):s.2.1.length<=12:=by
 have:=v.jlen;have:=VS s.1.2 0;have:=v.lev.len;omega
theorem VSt.sm {s:Th} (v:VSt s):Sm s:=⟨v.lev.small.1,v.lev.small.2,by have:=v.jsmall;omega⟩
def Zo (x:Int):Nat->List Int->Option Nat
 | _,[]=>none
 | k,y::l=>if y=x then some k else Zo x (k+1) l
theorem eQ {x:Int} : ∀ {l:List Int} {k i:Nat},Zo x k l=some i->k<=i/\l[i-k]? = some x
 | [],_,_,h=>by cases h
 | y::l,k,i,h=>by
  unfold Zo at h;by_cases e:y=x
  ·rw [if_pos e] at h;cases h;simp [e]
  ·rw [if_neg e] at h;obtain ⟨b,a⟩:=eQ h;exact ⟨by omega,by rw [show i-k=(i-(k+1))+1 by omega];simpa using a⟩
theorem cW {x:Int} : ∀ {l:List Int} {k:Nat},x∈l -> ∃ i,Zo x k l=some i
 | [],_,h=>by cases h
 | y::l,k,h=>by
  unfold Zo;by_cases e:y=x
  ·rw [if_pos e];exact ⟨k,rfl⟩
  ·rw [if_neg e];exact cW (by rcases eo.1 h with h | h;exact absurd h.symm e;exact h)
def YE (s:Th) (a:Int):Int×Int:=if (Tk s).2≠0 then (0,(Tk s).2) else match Zo a 0 (Tp 0 s.1.2) with
 | some i=>((i:Int),0)
 | none=>(0,4)
theorem cU {s:Th} (m:Sm s) (a:Int):Wt (s,a)=some (YE s a):=by
 unfold Wt YE;simp only [Tq,Tn];rw [tn m,Sx,TQ];by_cases b:(Tk s).2=0;rotate_left
 ·rw [if_neg b,if_pos b]
 rw [if_pos b,if_neg (show ¬ (Tk s).2≠0 by simp [b])];have v:=Ts.1 b;have w:=v.jsmall;rw [<- v.due];obtain ⟨T,g⟩ : ∃ T,T=Zo a 0 (s.2.1.map (·.1)):=⟨_,rfl⟩;rw [<- g]
 obtain ⟨r,q,c⟩:=Wq (l:=s.2.1) (σ:=Unit) (s:=((0:Int),(0:Int))) (λk _=>((0:Int),(k:Int))) (λjs k _=>Zo a k (js.map (·.1))=T) (λ(r:Nat×((Int×Int)×Unit))=>(r.1=1/\T=none)\/(r.1=0 /\ ∃ i:Nat,T=some i/\r.2.1.1=(i:Int)))
  (f:=λs1=>br (S8 s1.2 (s.2.1.length:Int)) (λ_=>R1 s1.2 λp=>ix s.2.1 p λu=>br (Oa u.1 a) (λ_=>some (.dn ((0,((s1.2,s1.2),()))))) λ_=>some (.nx (s1.1,SF .i64 s1.2 1))) λ_=>some (.dn ((1,(s1,())))))
  () rfl (by omega) g.symm (λ_ h=>⟨_,by simp only;rw [re];rfl,.inl ⟨rfl,by rw [<- h];rfl⟩⟩) (λk j js _ hd n o h=>by
   simp only;rw [rl o,Sc,Ti,TC n,TK];unfold Zo at h;simp only [li] at h;by_cases e:j.1=a
   ·rw [if_pos e];rw [if_pos e] at h;exact .inr ⟨_,rfl,.inr ⟨rfl,k,h.symm,rfl⟩⟩
   ·rw [if_neg e];rw [if_neg e] at h
    exact .inl ⟨(),by rw [Tv n (by omega)],h⟩)
 refine UC q ?_;rw [Sy];rcases c with ⟨c,d⟩ | ⟨c,i,d,t⟩
 ·rw [if_neg (show ¬ r.1=0 by omega),d];rfl
 ·rw [if_pos c,d,t,TP,if_neg (by omega)]
theorem dm {s:Th} (m:Sm s):Wi s=some (if (Tk s).2≠0 then ([],(Tk s).2) else (Tp 0 s.1.2,0)):=by
 unfold Wi;rw [ur m,Sx,TQ];by_cases a:(Tk s).2=0
 ·rw [if_pos a,if_neg (show ¬ (Tk s).2≠0 by simp [a]),aa (by have:=(Ts.1 a).lev.len;omega),Sx]
 ·rw [if_neg a,if_pos a]
theorem ZI {s:Th} (m:Sm s) (a:Int):U1 (s,a)=some (YE s a):=by
 unfold U1 YE;simp only [Tq,Tn];rw [dm m,Sx,TQ];by_cases c:(Tk s).2=0;rotate_left
 ·rw [if_pos c,if_neg c,if_pos c]
 rw [if_neg (show ¬ (Tk s).2≠0 by simp [c]),if_pos rfl,if_neg (show ¬ (Tk s).2≠0 by simp [c])];have v:=Ts.1 c;have z:=v.jsmall;have hd:=v.jlen;obtain ⟨b,d⟩ : ∃ b,b=Tp 0 s.1.2:=⟨_,rfl⟩;rw [<- d] at hd ⊢;obtain ⟨T,o⟩ : ∃ T,T=Zo a 0 b:=⟨_,rfl⟩;rw [<- o];simp only
 obtain ⟨r,u,g⟩:=Wq (l:=b) (σ:=Unit) (s:=((0:Int),((0:Int),(0:Int)))) (λk _=>((0:Int),((0:Int),(k:Int)))) (λjs k _=>Zo a k js=T) (λ(r:Nat×((Int×(Int×Int))×Unit))=>(r.1=1/\T=none)\/(r.1=0 /\ ∃ i:Nat,T=some i/\r.2.1.2.1=(i:Int)/\r.2.1.1=0))
  (f:=λs1=>br (S8 s1.2.2 (b.length:Int)) (λ_=>R1 s1.2.2 λt=>ix b t λy=>br (Oa y a) (λ_=>some (.dn ((0,((0,(s1.2.2,s1.2.2)),()))))) λ_=>some (.nx ((s1.1,(s1.2.1,SF .i64 s1.2.2 1))))) λ_=>some (.dn ((1,(s1,())))))
  () rfl (by omega) o.symm (λ_ h=>⟨_,by simp only;rw [re];rfl,.inl ⟨rfl,by rw [<- h];rfl⟩⟩) (λk j js _ hd p q h=>by
   simp only;rw [rl q,Sc,Ti,TC p,TK];unfold Zo at h;by_cases e:j=a
   ·rw [if_pos e];rw [if_pos e] at h;exact .inr ⟨_,rfl,.inr ⟨rfl,k,h.symm,rfl,rfl⟩⟩
   ·rw [if_neg e];rw [if_neg e] at h
    exact .inl ⟨(),by rw [Tv p (by omega)],h⟩)
 refine UC u ?_;rw [Sy];rcases g with ⟨g,n⟩ | ⟨g,i,n,w,x⟩
 ·rw [if_neg (show ¬ r.1=0 by omega),n]
 ·rw [if_pos g,n,w,x]
end
section
open Go Sv
def UA (L:Tl) (j:Job):Nat:=match L.2[j.1.toNat]? with
 | some [r0,r1]=>r1.2.length+r0.2.length-j.2.2.2.2.toNat
 | _=>0
def Vo (L:Tl) (j:Job):Bool:=decide ((j.2.2.2.1.length:Int)<=Uv L.1 j.1.toNat)
def Y5 (L:Tl) (n:Nat):Bool:=decide (n<12/\((L.2[n]?).getD []).length<2)
def Vh (L:Tl) (j:Job):Bool:=decide (0<UA L j)||(Vo L j||Y5 L (j.1.toNat+1))
def aO (s:Th) (a:Int):Option Job:=match Zo a 0 (Tp 0 s.1.2) with
 | some i=>s.2.1[i]?
 | none=>none
theorem VSt.at {s:Th} (v:VSt s) {a:Int} {i:Nat} (h:Zo a 0 (Tp 0 s.1.2)=some i) : ∃ (j:Job) (n:Nat),s.2.1[i]? = some j/\a=(n:Int)/\j.1=(n:Int)/\JobAt s.1 n j/\n<s.1.2.length:=by
 obtain ⟨_,b⟩:=eQ h;rw [ll] at b;rw [<- v.due,ta] at b;cases c:s.2.1[i]? with
 | none=>rw [c] at b;cases b
 | some j =>
  rw [c] at b;simp only [x5,Option.some.injEq] at b;obtain ⟨n,g⟩:=v.job j (bo c);have d:=g;obtain ⟨o,p,m,k,l,e,_⟩:=g;have f:j.1=(n:Int):=by rw [e]
  exact ⟨j,n,rfl,by rw [<- b,f],f,d,(a8.1 l).1⟩
theorem JobAt.left {L:Tl} {n:Nat} {j:Job} (h:JobAt L n j):Ue j.2=some ((UA L j:Int),0)/\US j.2=some ((UA L j:Int),0)/\UA L j<=10000:=by
 obtain ⟨b,c,a,k,i,rfl,g,_,d,f⟩:=h;have l:=d.len;have m:=f.len
 have e:UA L ((n:Int),Vb c.2 b.2 a k)=c.2.length+b.2.length-k:=by
  unfold UA;simp only [bl,i];show c.2.length+b.2.length-((k:Int)).toNat=_;rw [bl]
 rw [e];exact ⟨aN f d a g,Zk f d a g,by omega⟩
theorem iK {L:Tl} (v:VLev L) {n:Nat} (c:n<12):XS (L.1,(n:Int))=some (Uv L.1 n,0):=by
 have a:=v.B1;have b:=v.B2;unfold XS;rw [TP,if_neg (by omega),TM,if_neg (by omega),TP,if_neg (by omega),TL,if_neg (by omega),aE a b (by omega)];have:Rx (n:Int) 0=true:=by unfold Rx;simp
 rw [this];rfl
theorem kJ {L:Tl} (v:VLev L) {n:Nat} (c:n<12):Yl (L.1,(n:Int))=some (Uv L.1 n,0):=by
 have a:=v.B1;have b:=v.B2;unfold Yl;rw [TP,if_neg (by omega),TM,if_neg (by omega),TP,if_neg (by omega),TL,if_neg (by omega),du a b (by omega),Sx]
theorem cf {L:Tl} (v:VLev L) (k:Int):Wu (L,k)=some (if k<0\/k>=12 then 7 else 0):=by
 obtain ⟨c,d⟩:=v.small;unfold Wu;rw [Yr _ c d,WT v,Sx,TQ,if_pos rfl,TP,TL];by_cases a:k<0
 ·rw [if_pos a,if_pos (.inl a)]
 ·rw [if_neg a];by_cases b:k>=12
  ·rw [if_pos b,if_pos (.inr b)]
  ·rw [if_neg b,if_neg (by omega)]
theorem j0 (l:List UJ):S8 (l.length:Int) 2=decide (l.length<2):=by
 unfold S8;rw [decide_eq_decide];omega
theorem iJ {L:Tl} (v:VLev L) {n:Nat} (d:n<=12):XR (L,(n:Int))=some (Y5 L n,if n>=12 then 7 else 0):=by
 unfold XR Y5;simp only [Tq,Tn];rw [cf v,Sx,TQ];by_cases h:n>=12
 ·rw [if_pos (show (n:Int)<0\/(n:Int)>=12 by omega),if_neg (by decide),if_pos h];simp;omega
 ·rw [if_neg (show ¬ ((n:Int)<0\/(n:Int)>=12) by omega),if_pos rfl,if_neg h,TP];have a:n<12:=by omega
  by_cases c:n<L.2.length
  ·have b:L.2[n]? = some (L.2[n]'c):=by simp
   rw [if_pos (by omega),Ti,TC b,b,j0,hI];simp [a]
  ·rw [if_neg (by omega),a9 (by omega)];simp [a]
theorem kU {s:Th} (v:VLev s.1) {n:Nat} (c:n<12):Yp (s,(n:Int))=some (Y5 s.1 (n+1)):=by
 unfold Yp Y5;simp only [Tq,Tn];rw [Tu (by omega),TP];by_cases h:n+1<12
 ·rw [if_pos (by omega),TL];by_cases b:n+1<s.1.2.length
  ·have a:s.1.2[n+1]? = some (s.1.2[n+1]'b):=by simp
   rw [if_neg (by omega),Ti,TC a,a,j0,hI];simp [h]
  ·rw [if_pos (by omega),a9 (by omega)];simp [h]
 ·rw [if_neg (by omega)];simp;omega
abbrev wS:=Th×(Job×Int)
theorem bT {s:Th} (v:VLev s.1) {n:Nat} {j:Job} (a:j.1=(n:Int)) (b:n<12) (l:Int):UZ (s,(j,l))=some (Vo s.1 j):=by
 unfold UZ Vo;simp only [Tq,Tn];rw [a,iK v b,Sx,TK,if_pos rfl,bl];rfl
theorem cD {s:Th} (v:VLev s.1) {n:Nat} {j:Job} (a:j.1=(n:Int)) (b:n<12):Wd (s,j)=some (Vo s.1 j):=by
 unfold Wd Vo;simp only [Tq,Tn];rw [a,kJ v b,Sx,bl];rfl
theorem kQ {s:Th} (v:VLev s.1) {n:Nat} {j:Job} (a:j.1=(n:Int)) (b:n<12) (l:Int):Vd (s,(j,l))=some (Y5 s.1 (n+1)):=by
 unfold Vd;simp only;rw [a,Tu (by omega),iJ v (by omega),Sx,TK];by_cases h:n+1>=12
 ·rw [if_pos h,if_neg (show ¬ (7:Int)=0 by decide)];unfold Y5;simp;omega
 ·rw [if_neg h,if_pos rfl]
theorem cN {s:Th} (v:VLev s.1) {n:Nat} {j:Job} (a:j.1=(n:Int)) (b:n<12) (l:Nat) (d:l=UA s.1 j):Uh (s,(j,(l:Int)))=some (Vh s.1 j):=by
 have c:UL (s,(j,(l:Int)))=some (decide (0<UA s.1 j)):=by
  unfold UL S6;rw [d];simp
 have e1:=bT v a b (l:Int);have e2:=kQ v a b (l:Int);unfold Uh Vh;rw [c,e1,e2,a,bl];simp only [Sx];cases e:decide (0<UA s.1 j) with
 | true=>exact UC (x:=(0,((0,true),()))) (U4 (n:=1) (by omega) (UT rfl)) rfl
 | false =>
  cases f:Vo s.1 j with
  | true=>exact UC (x:=(0,((1,true),()))) (U4 (n:=2) (by omega) ((UN (s':=(1,false)) rfl).trans (UT rfl))) rfl
  | false =>
   cases g:Y5 s.1 (n+1) with
   | true=>exact UC (x:=(0,((2,true),()))) (U4 (n:=3) (by omega) ((UN (s':=(1,false)) rfl).trans ((UN (s':=(2,false)) rfl).trans (UT rfl)))) rfl
   | false=>exact UC (x:=(1,((3,false),()))) (U4 (n:=4) (by omega) ((UN (s':=(1,false)) rfl).trans ((UN (s':=(2,false)) rfl).trans ((UN (s':=(3,false)) rfl).trans (UT rfl))))) rfl
end
section
open Go Sv
def WA {α:Type} (z:α) (f:Th->Job->α×Int) (s:Th) (a:Int):α×Int:=if (Tk s).2≠0 then (z,(Tk s).2) else match aO s a with
 | some j=>f s j
 | none=>(z,4)
def z0:wS:=(((0,[]),([],0)),((0,(([],([],([],([],0)))),((false,([],false)),([],0)))),0))
theorem cz {s:Th} (m:Sm s) (a:Int):VK (s,a)=some (WA z0 (λs j=>((s,(j,(UA s.1 j:Int))),0)) s a):=by
 unfold VK;rw [cU m,Sx];unfold WA aO YE;by_cases b:(Tk s).2=0;rotate_left
 ·rw [if_pos b,TQ,if_neg b,if_pos b];rfl
 rw [if_neg (show ¬ (Tk s).2≠0 by simp [b]),if_neg (show ¬ (Tk s).2≠0 by simp [b])];have v:=Ts.1 b;cases e:Zo a 0 (Tp 0 s.1.2) with
 | none=>rfl
 | some i =>
  obtain ⟨j,n,c,g,f,d,h⟩:=v.at e;simp only;rw [TQ,if_pos rfl,Ti,TC c,c,(JobAt.left d).1,Sx]
theorem eC {s:Th} (m:Sm s) (a:Int):WZ (s,a)=some (WA false (λs j=>(Vh s.1 j,0)) s a):=by
 unfold WZ;rw [cz m,Sx];unfold WA;by_cases b:(Tk s).2=0;rotate_left
 ·rw [if_pos b,TQ,if_neg b,if_pos b]
 rw [if_neg (show ¬ (Tk s).2≠0 by simp [b]),if_neg (show ¬ (Tk s).2≠0 by simp [b])];have v:=Ts.1 b;unfold aO;cases d:Zo a 0 (Tp 0 s.1.2) with
 | none=>rfl
 | some i =>
  obtain ⟨j,n,e,g,c,f,h⟩:=v.at d;have:=v.lev.len;simp only [e];rw [TQ,if_pos rfl,cN v.lev c (by omega) _ rfl,Sx]
theorem Yb {s:Th} (m:Sm s) (a:Int):VN (s,a)=some (WA 0 (λs j=>((UA s.1 j:Int),0)) s a):=by
 unfold VN;rw [ZI m,Sx];unfold WA aO YE;by_cases b:(Tk s).2=0;rotate_left
 ·rw [if_pos b,TQ,if_neg b,if_pos b]
 rw [if_neg (show ¬ (Tk s).2≠0 by simp [b]),if_neg (show ¬ (Tk s).2≠0 by simp [b])];have v:=Ts.1 b;cases e:Zo a 0 (Tp 0 s.1.2) with
 | none=>rfl
 | some i =>
  obtain ⟨j,n,c,g,f,d,h⟩:=v.at e;simp only [c];rw [TQ,if_pos rfl,Ti,TC c,(JobAt.left d).2.1,Sx]
theorem cj {s:Th} (m:Sm s) (a:Int):Ww (s,a)=some (WA false (λs j=>(Vh s.1 j,0)) s a):=by
 unfold Ww;rw [Yb m,Sx,ZI m,Sx];unfold WA;by_cases b:(Tk s).2=0;rotate_left
 ·rw [if_pos b,TQ,if_neg b,if_pos b]
 rw [if_neg (show ¬ (Tk s).2≠0 by simp [b]),if_neg (show ¬ (Tk s).2≠0 by simp [b])];have v:=Ts.1 b;unfold aO YE;cases f:Zo a 0 (Tp 0 s.1.2) with
 | none=>rfl
 | some i =>
  obtain ⟨j,n,e,g,c,h,k⟩:=v.at f;have:=v.lev.len;rw [if_neg (show ¬ (Tk s).2≠0 by simp [b])];simp only [e];rw [TQ,if_pos rfl,TM,Ti,TC e,cD v.lev c (by omega),Sx,g,kU v.lev (by omega),Sx];unfold Vh;rw [c,bl];by_cases d:0<UA s.1 j
  ·rw [if_pos (by omega)];simp [d]
  ·rw [if_neg (by omega)];cases Vo s.1 j<;>simp [d,Sc,R7]
def Z4 (s:Th) (j:Job):Int×Int:=if 0<UA s.1 j then (0,9) else if Vo s.1 j=true then (j.1,0) else (j.1+1,0)
theorem tj {s:Th} (m:Sm s) (a:Int):YR (s,a)=some (WA 0 Z4 s a):=by
 unfold YR;rw [cz m,Sx];unfold WA;by_cases b:(Tk s).2=0;rotate_left
 ·rw [if_pos b,TQ,if_neg b,if_pos b]
 rw [if_neg (show ¬ (Tk s).2≠0 by simp [b]),if_neg (show ¬ (Tk s).2≠0 by simp [b])];have v:=Ts.1 b;unfold aO;cases f:Zo a 0 (Tp 0 s.1.2) with
 | none=>rfl
 | some i =>
  obtain ⟨j,n,g,h,c,k,l⟩:=v.at f;have:=v.lev.len;simp only [g];unfold UL Z4;rw [TQ,if_pos rfl,Sx,TM,bT v.lev c (by omega),Sx,h,Tu (by omega),c];by_cases e:0<UA s.1 j
  ·rw [if_pos (show ((UA s.1 j:Int))>0 by omega),if_pos e]
  ·rw [if_neg (show ¬ ((UA s.1 j:Int))>0 by omega),if_neg e,TV];by_cases d:Vo s.1 j=true
   ·rw [if_pos d,if_pos d]
   ·rw [if_neg d,if_neg d];rfl
theorem eu {s:Th} (m:Sm s) (a:Int):X5 (s,a)=some (WA 0 Z4 s a):=by
 unfold X5;rw [Yb m,Sx,ZI m];unfold WA;by_cases b:(Tk s).2=0;rotate_left
 ·rw [if_pos b,TK,if_neg b,TQ,if_neg b,if_pos b]
 rw [if_neg (show ¬ (Tk s).2≠0 by simp [b]),if_neg (show ¬ (Tk s).2≠0 by simp [b])];have v:=Ts.1 b;unfold aO YE;cases g:Zo a 0 (Tp 0 s.1.2) with
 | none=>rfl
 | some i =>
  obtain ⟨j,n,f,h,c,k,l⟩:=v.at g;have:=v.lev.len;rw [if_neg (show ¬ (Tk s).2≠0 by simp [b])];simp only [f];unfold Z4;rw [TK,if_pos rfl,TM];by_cases e:0<UA s.1 j
  ·rw [if_pos (show ((UA s.1 j:Int))>0 by omega),if_pos e]
  ·rw [if_neg (show ¬ ((UA s.1 j:Int))>0 by omega),if_neg e,TQ,if_pos rfl,Sx,Ti,TC f,cD v.lev c (by omega),Sx,TV,h,Tu (by omega),c];by_cases d:Vo s.1 j=true
   ·rw [if_pos d,if_pos d]
   ·rw [if_neg d,if_neg d];rfl
theorem gZ {s:Th} (m:Sm s):Vp s=some (if (Tk s).2≠0 then ([],(Tk s).2) else (Tp 0 s.1.2,0)):=by
 unfold Vp;simp only [Tq,Tn];rw [tn m,Sx,TQ];by_cases a:(Tk s).2=0;rotate_left
 ·rw [if_neg a,if_pos a]
 rw [if_pos a,if_neg (show ¬ (Tk s).2≠0 by simp [a])];have e:=(Ts.1 a).lev.len
 rw [Un (l:=s.1.2) (σ:=List Int) (s:=((0:Int),([]:List Int))) (λi m=>((i:Int),m)) (λls i m=>m++Tp i ls=Tp 0 s.1.2) (λ_ _ _=>(0,(((s.1.2.length:Int),Tp 0 s.1.2),()))) [] rfl (by omega) rfl (λm h=>by
  simp only;rw [re,R7,<- h];simp [Tp]) (λi rs ls m hd c hi h=>by
   refine ⟨m++(if rs.length=2 then [(i:Int)] else []),?_,?_,rfl⟩
   ·simp only;rw [rl hi,Sc,Ti,TC c,TK]
    have f:m.length<=1000:=by
     have b:=congrArg mu h;have d:=VS s.1.2 0;rw [hM] at b;omega
    by_cases b:rs.length=2
    ·rw [if_pos (by omega),if_pos b,UP (by simp only [BF,ci,cP];omega),Tv c (by omega)];rfl
    ·rw [if_neg (by omega),if_neg b,ey,Tv c (by omega)]
   ·rw [eb];exact h),Sx]
def VJ (s:Th):List Int->Option Int
 | []=>none
 | d::l=>if (WA false (λs j=>(Vh s.1 j,0)) s d).1=true then some d else VJ s l
def Ut (s:Th):Int×Int:=if (Tk s).2≠0 then (0,(Tk s).2) else if Tp 0 s.1.2=[] then (0,4) else match VJ s (Tp 0 s.1.2) with
 | some d=>(d,0)
 | none=>(0,9)
theorem VSt.atDue {s:Th} (v:VSt s) {d:Int} (h:d∈Tp 0 s.1.2) : ∃ (j:Job) (n:Nat),aO s d=some j/\d=(n:Int)/\j.1=(n:Int)/\JobAt s.1 n j/\n<s.1.2.length:=by
 obtain ⟨i,b⟩:=cW (k:=0) h;obtain ⟨j,n,e,f,a,c,g⟩:=v.at b;exact ⟨j,n,by unfold aO;rw [b];exact e,f,a,c,g⟩
theorem pJ {s:Th} (m:Sm s):Uz s=some (Ut s):=by
 unfold Uz Ut;rw [gZ m,Sx];by_cases a:(Tk s).2=0;rotate_left
 ·rw [if_pos a,TQ,if_neg a,if_pos a]
 rw [if_neg (show ¬ (Tk s).2≠0 by simp [a]),if_neg (show ¬ (Tk s).2≠0 by simp [a]),TQ,if_pos rfl];have v:=Ts.1 a;have z:(Tp 0 s.1.2).length<=12:=by have:=VS s.1.2 0;have:=v.lev.len;omega
 simp only [Tq,Tn];rw [TK];by_cases b:Tp 0 s.1.2=[]
 ·rw [if_pos (by rw [b];rfl),if_pos b]
 rw [if_neg (by have:=ec.2 b;omega),if_neg b];obtain ⟨T,q⟩ : ∃ T,T=VJ s (Tp 0 s.1.2):=⟨_,rfl⟩;rw [<- q]
 obtain ⟨r,C,u⟩:=Wq (l:=Tp 0 s.1.2) (σ:=Unit) (s:=((0:Int),(false,((0:Int),(0:Int))))) (λk _=>((0:Int),(false,((k:Int),(0:Int))))) (λl k _=>VJ s l=T) (λ(r:Nat×((Int×(Bool×(Int×Int)))×Unit))=>r.1=1/\((T=none/\r.2.1.2.1=false)\/(∃ d,T=some d/\r.2.1.2.1=true/\r.2.1.2.2.2=d)))
  (f:=λs1=>br (S8 s1.2.2.1 ((Tp 0 s.1.2).length:Int)) (λ_=>R1 s1.2.2.1 λB=>ix (Tp 0 s.1.2) B λw=>bd (VK (s,w)) λp=>br (Ry p.2 0) (λ_=>some (.dn ((0,((p.2,(s1.2.1,(s1.2.2.1,0))),()))))) λ_=>bd (Uh p.1) λE=>br E (λ_=>some (.dn ((1,((s1.1,(true,(s1.2.2.1,w))),()))))) λ_=>some (.nx ((s1.1,(s1.2.1,(SF .i64 s1.2.2.1 1,s1.2.2.2)))))) λ_=>some (.dn ((1,(s1,())))))
  () rfl (by omega) q.symm (λ_ h=>⟨_,by simp only;rw [re];rfl,rfl,.inl ⟨by rw [<- h];rfl,rfl⟩⟩) (λk d l _ hd i A h=>by
   simp only;obtain ⟨j,n,t,G,g,F,b⟩:=v.atDue (bo i);have:=v.lev.len;unfold VJ at h;have x:WA false (λs j=>(Vh s.1 j,0)) s d=(Vh s.1 j,0):=by unfold WA;rw [if_neg (show ¬ (Tk s).2≠0 by simp [a]),t]
   have y:WA z0 (λs j=>((s,(j,(UA s.1 j:Int))),0)) s d=((s,(j,(UA s.1 j:Int))),0):=by unfold WA;rw [if_neg (show ¬ (Tk s).2≠0 by simp [a]),t]
   rw [x] at h;rw [rl A,Sc,Ti,TC i,cz m,y,Sx,TQ,if_pos rfl,cN v.lev g (by omega) _ rfl,Sx,TV];by_cases e:Vh s.1 j=true
   ·rw [if_pos e];rw [if_pos e] at h;exact .inr ⟨_,rfl,rfl,.inr ⟨d,h.symm,rfl,rfl⟩⟩
   ·rw [if_neg e];rw [if_neg e] at h
    exact .inl ⟨(),by rw [Tv i (by omega)],h⟩)
 refine UC C ?_;obtain ⟨u,c⟩:=u;rw [Sy,if_neg (show ¬ r.1=0 by omega),UU,TV];rcases c with ⟨c,o⟩ | ⟨d,c,o,D⟩
 ·rw [if_neg (by simp [o]),c]
 ·rw [if_pos o,c,D]
theorem iM {s:Th} (m:Sm s):Yn s=some (Ut s):=by
 unfold Yn Ut;rw [dm m,Sx];by_cases a:(Tk s).2=0;rotate_left
 ·rw [if_pos a,TQ,if_neg a,if_pos a]
 rw [if_neg (show ¬ (Tk s).2≠0 by simp [a]),if_neg (show ¬ (Tk s).2≠0 by simp [a]),TQ,if_pos rfl];have v:=Ts.1 a;have o:(Tp 0 s.1.2).length<=12:=by have:=VS s.1.2 0;have:=v.lev.len;omega
 simp only [Tq,Tn];rw [TK];by_cases b:Tp 0 s.1.2=[]
 ·rw [if_pos (by rw [b];rfl),if_pos b]
 rw [if_neg (by have:=ec.2 b;omega),if_neg b];obtain ⟨T,n⟩ : ∃ T,T=VJ s (Tp 0 s.1.2):=⟨_,rfl⟩;rw [<- n]
 obtain ⟨r,u,c⟩:=Wq (l:=Tp 0 s.1.2) (σ:=Unit) (s:=((0:Int),((0:Int),(0:Int)))) (λk _=>((0:Int),((0:Int),(k:Int)))) (λl k _=>VJ s l=T) (λ(r:Nat×((Int×(Int×Int))×Unit))=>(r.1=1/\T=none)\/(r.1=0 /\ ∃ d,T=some d/\r.2.1.2.1=d/\r.2.1.1=0))
  (f:=λs1=>br (S8 s1.2.2 ((Tp 0 s.1.2).length:Int)) (λ_=>R1 s1.2.2 λq=>ix (Tp 0 s.1.2) q λz=>bd (Ww (s,z)) λy=>br y.1 (λ_=>R1 s1.2.2 λt=>ix (Tp 0 s.1.2) t λA=>some (.dn ((0,((0,(A,s1.2.2)),()))))) λ_=>some (.nx ((s1.1,(s1.2.1,SF .i64 s1.2.2 1))))) λ_=>some (.dn ((1,(s1,())))))
  () rfl (by omega) n.symm (λ_ h=>⟨_,by simp only;rw [re];rfl,.inl ⟨rfl,by rw [<- h];rfl⟩⟩) (λk d l _ hd g p h=>by
   simp only;unfold VJ at h;rw [rl p,Sc,Ti,TC g,cj m,Sx,TV,Ti,TC g];by_cases e:(WA false (λs j=>(Vh s.1 j,0)) s d).1=true
   ·rw [if_pos e];rw [if_pos e] at h;exact .inr ⟨_,rfl,.inr ⟨rfl,d,h.symm,rfl,rfl⟩⟩
   ·rw [if_neg e];rw [if_neg e] at h
    exact .inl ⟨(),by rw [Tv g (by omega)],h⟩)
 refine UC u ?_;rw [Sy];rcases c with ⟨c,i⟩ | ⟨c,d,i,w,x⟩
 ·rw [if_neg (show ¬ r.1=0 by omega),i]
 ·rw [if_pos c,i,w,x]
end
section
open Go Sv
theorem pU {β:Type} (k:Unit->Option β):gd true k=k ():=rfl
def To (l:List (List UJ)) (i:Nat):List UJ:=(l[i]?).getD []
def Yh (l:List (List UJ)):Nat->Nat
 | 0=>0
 | k+1=>if To l k=[] then Yh l k else k+1
def Ya (l:List (List UJ)) (n:Nat):List (List UJ):=l++yo (n+1-l.length) []
def Ws (l:List (List UJ)) (n:Nat) (r:List UJ):List (List UJ):=(Ya l n).set n r
def X9 (l:List (List UJ)):List (List UJ):=l.take (Yh l l.length)
def Uw (L:Tl) (n:Nat) (r:List UJ):Tl:=(L.1,X9 (Ws L.2 n r))
theorem cR (l:List (List UJ)) : ∀ k,Yh l k<=k
 | 0=>dc _
 | k+1=>by
  unfold Yh;split
  ·exact Nat.le_succ_of_le (cR l k)
  ·exact dc _
theorem an (l:List (List UJ)) : ∀ {k i:Nat},Yh l k<=i->i<k->To l i=[]
 | 0,_,_,h=>by omega
 | k+1,i,h1,h2=>by
  unfold Yh at h1;split at h1
  ·rename_i a;by_cases hi:i=k
   ·rw [hi];exact a
   ·exact an l h1 (by omega)
  ·omega
theorem bf (l:List (List UJ)) : ∀ {k m:Nat},Yh l k=m+1->To l m≠[]
 | 0,m,h=>by cases h
 | k+1,m,h=>by
  unfold Yh at h;split at h
  ·exact bf l h
  ·rename_i a;have:m=k:=by omega
   rw [this];exact a
theorem cB (l:List (List UJ)) (i:Nat):To (X9 l) i=To l i:=by
 unfold X9;by_cases h:i<Yh l l.length
 ·unfold To;rw [o3,if_pos h]
 ·have a:To (l.take (Yh l l.length)) i=[]:=by
   unfold To;rw [o3,if_neg h];rfl
  rw [a];by_cases b:i<l.length
  ·exact (an l (by omega) b).symm
  ·unfold To;rw [a9 (by omega)];rfl
theorem gK (l:List (List UJ)):(X9 l).getLast? ≠ some []:=by
 have b:(X9 l).length=Yh l l.length:=by
  have:=cR l l.length;unfold X9;rw [ul];omega
 cases hd:Yh l l.length with
 | zero =>
  have:X9 l=[]:=List.length_eq_zero_iff.1 (by rw [b,hd]);rw [this];simp
 | succ m =>
  have c:=bf l hd;rw [oy,b,hd];intro d;have a:To (X9 l) m=[]:=by unfold To;rw [show m=m+1-1 by omega,d];rfl
  rw [cB] at a;exact c a
theorem ZH (l:List (List UJ)) (n:Nat):(Ya l n).length=max l.length (n+1):=by
 unfold Ya;simp;omega
theorem da (l:List (List UJ)) (n i:Nat):To (Ya l n) i=To l i:=by
 unfold To Ya;by_cases h:i<l.length
 ·rw [List.getElem?_append_left h]
 ·rw [List.getElem?_append_right (by omega),List.getElem?_replicate,a9 (l:=l) (by omega)];split<;>rfl
theorem dh (l:List (List UJ)) (n i:Nat) (r:List UJ):To (Ws l n r) i=if i=n then r else To l i:=by
 unfold Ws;by_cases h:i=n
 ·rw [if_pos h,h];have:=ZH l n;unfold To;rw [List.getElem?_set_self (by omega)];rfl
 ·rw [if_neg h];unfold To;rw [List.getElem?_set_ne (λe=>h e.symm)];exact da l n i
theorem Wx (L:Tl) (n i:Nat) (r:List UJ):To (Uw L n r).2 i=if i=n then r else To L.2 i:=by
 show To (X9 _) i=_;rw [cB,dh]
theorem gL (L:Tl) (n:Nat) (r:List UJ):(Uw L n r).2.getLast? ≠ some []:=gK _
theorem jS (L:Tl) (n:Nat) (r:List UJ):(Uw L n r).2.length<=max L.2.length (n+1):=by
 show (X9 _).length<=_;unfold X9;rw [ul];have:(Ws L.2 n r).length=max L.2.length (n+1):=by unfold Ws;rw [yb,ZH]
 omega
theorem hC (l:List (List UJ)):(X9 l).flatten=l.flatten:=by
 have h:l=X9 l++l.drop (Yh l l.length):=(s7 _ _).symm
 have a:(l.drop (Yh l l.length)).flatten=[]:=by
  rw [xb];intro x c;obtain ⟨i,hi⟩:=ed c;rw [List.getElem?_drop] at hi;have b:=(a8.1 hi).1;have:=an l (k:=l.length) (i:=Yh l l.length+i) (by omega) b;unfold To at this;rw [hi] at this;exact this
 conv=>rhs;rw [h,mR,a,ey]
theorem jp (l:List (List UJ)) (n:Nat):(Ya l n).flatten=l.flatten:=by
 unfold Ya;rw [mR]
 have:(yo (n+1-l.length) ([]:List UJ)).flatten=[]:=by
  rw [xb];intro x a;exact (List.mem_replicate.1 a).2
 rw [this,ey]
theorem Xy (L:Tl) (n:Nat) (r:List UJ) : ∃ p q,L.2.flatten=p++(To L.2 n++q)/\(Uw L n r).2.flatten=p++(r++q):=by
 have a:n<(Ya L.2 n).length:=by rw [ZH];omega
 refine ⟨((Ya L.2 n).take n).flatten,((Ya L.2 n).drop (n+1)).flatten,?_,?_⟩
 ·rw [<- da L.2 n n,<- jp L.2 n]
  have:Ya L.2 n=(Ya L.2 n).take n++((Ya L.2 n)[n]::(Ya L.2 n).drop (n+1)):=by
   rw [<- sa a,s7]
  have b:To (Ya L.2 n) n=(Ya L.2 n)[n]:=by unfold To;rw [co a];rfl
  rw [b]
  conv=>lhs;rw [this]
  rw [mR,iP]
 ·show (X9 (Ws L.2 n r)).flatten=_;rw [hC];unfold Ws;rw [List.set_eq_take_append_cons_drop,if_pos a,mR,iP]
theorem VLev.own {L:Tl} (v:VLev L) (i:Nat):(To L.2 i).length<=2 /\ ∀ r∈To L.2 i,VR (Uv L.1 i) r:=by
 unfold To;cases h:L.2[i]? with
 | none=>exact ⟨by simp,λr a=>by cases a⟩
 | some rs=>exact v.lev i rs h
theorem VLev.with' {L:Tl} (v:VLev L) {n:Nat} (f:n<12) {r:List UJ} (d:r.length<=2) (e : ∀ x∈r,VR (Uv L.1 n) x) (b:((Uw L n r).2.flatten.map qg).Nodup):VLev (Uw L n r):=by
 refine ⟨v.B1,v.B2,?_,λi rs hi => ?_,b,gL L n r⟩
 ·have:=jS L n r;have:=v.len;omega
 ·have a:=Wx L n i r;unfold To at a;rw [hi] at a;simp only [hI] at a;rw [a];split
  ·rename_i c;rw [c];exact ⟨d,e⟩
  ·exact v.own i
theorem VLev.leave {L:Tl} (v:VLev L) {n:Nat} (c:n<12):VLev (Uw L n []):=by
 refine v.with' c (by simp) (λ_ h=>by cases h) ?_
 obtain ⟨p,q,a,b⟩:=Xy L n [];have:=v.ids;rw [a] at this;rw [b,nP];refine s9.nodup (s9.map _ ?_) this;exact s9.append (s9.refl _) (List.sublist_append_right _ _)
theorem VLev.arrive {L:Tl} (v:VLev L) {n:Nat} (g:n<12) {x:UJ} (j:(To L.2 n).length<2) (i:VR (Uv L.1 n) x) (b : ∀ y∈L.2.flatten,y.1≠x.1):VLev (Uw L n (To L.2 n++[x])):=by
 refine v.with' g (by simp;omega) (λy hy => ?_) ?_
 ·rcases ns.1 hy with hy | hy
  ·exact (v.own n).2 y hy
  ·rw [tk.1 hy];exact i
 ·obtain ⟨p,q,c,d⟩:=Xy L n (To L.2 n++[x])
  have h:(Uw L n (To L.2 n++[x])).2.flatten.Perm (x::L.2.flatten):=by
   rw [c,d,eb];refine List.Perm.trans ?_ (List.perm_middle (l₁:=p++To L.2 n) (l₂:=q) (a:=x) |>.trans (by rw [eb]));rw [eb];exact List.Perm.refl _
  refine (h.map qg).nodup_iff.2 (oj.2 ⟨λf => ?_,v.ids⟩);obtain ⟨y,hy,e⟩:=ox.1 f;exact b y hy e
theorem bB {l:List (List UJ)} {x:UJ}:x∈l.flatten <-> ∃ i,x∈To l i:=by
 rw [l4];constructor
 ·rintro ⟨rs,a,b⟩;obtain ⟨i,hi⟩:=ed a;exact ⟨i,by unfold To;rw [hi];exact b⟩
 ·rintro ⟨i,h⟩;unfold To at h;cases hi:l[i]? with
  | none=>rw [hi] at h;cases h
  | some rs=>rw [hi] at h;exact ⟨rs,bo hi,h⟩
theorem Zt {l:List (List UJ)} {x:UJ} (h:x∈l.flatten):x.1<=WS l:=by
 have d : ∀ (rs:List UJ) (m:Int),m<=rs.foldl (λm r=>TY m r.1) m /\ ∀ x∈rs,x.1<=rs.foldl (λm r=>TY m r.1) m:=by
  intro rs
  induction rs with
  | nil=>intro m;exact ⟨by simp,λx hx=>by cases hx⟩
  | cons r rs c =>
   intro m;obtain ⟨b,a⟩:=c (TY m r.1);rw [XH] at b a;simp only [gM,XH] at b a ⊢;refine ⟨by omega,λx hx => ?_⟩;rcases eo.1 hx with e | hx
   ·rw [e];omega
   ·exact a x hx
 have two : ∀ (ls:List (List UJ)) (m:Int),m<=ls.foldl (λm rs=>rs.foldl (λm r=>TY m r.1) m) m /\ ∀ rs∈ls,∀ x∈rs,x.1<=ls.foldl (λm rs=>rs.foldl (λm r=>TY m r.1) m) m:=by
  intro ls
  induction ls with
  | nil=>intro m;exact ⟨by simp,λx hx=>by cases hx⟩
  | cons rs ls c =>
   intro m;obtain ⟨b,a⟩:=c (rs.foldl (λm r=>TY m r.1) m);obtain ⟨i,g⟩:=d rs m;simp only [gM];refine ⟨by omega,λf hrs x hx => ?_⟩;rcases eo.1 hrs with e | hrs
   ·subst e;have:=g x hx;omega
   ·exact a f hrs x hx
 obtain ⟨rs,b,a⟩:=l4.1 h;exact (two l 0).2 rs b x a
end
section
open Go Sv
theorem bg {M:List (List UJ)} {f:Int->Option (LR Int (Nat×(Int×Unit)))} (a:f 0=some (.dn (0,(0,())))) (hs : ∀ k,k<M.length->f ((k+1:Nat):Int)=if To M k=[] then some (.nx (k:Int)) else some (.dn (0,(((k+1:Nat):Int),())))) : ∀ k,k<=M.length->IL (k+1) f (k:Int)=some (0,((Yh M k:Nat):Int),())
 | 0,_=>UT a
 | k+1,hk=>by
  have h:=hs k (by omega);unfold Yh;by_cases b:To M k=[]
  ·rw [if_pos b] at h ⊢;rw [UN h];exact bg a hs k (by omega)
  ·rw [if_neg b] at h ⊢;exact UT h
theorem tD (L:List (List UJ)) (n:Nat):LC (Rd (max L.length (n+1)) ([]:List UJ)) 0 L (AS (Rd (max L.length (n+1)) ([]:List UJ)))=Ya L n:=by
 have a:AS (Rd (max L.length (n+1)) ([]:List UJ))=max L.length (n+1):=by unfold AS Rd;simp
 rw [a];unfold LC Ya Rd;rw [List.take_of_length_le (by omega:L.length<=max L.length (n+1))];simp only [List.take_zero,nP,List.drop_replicate,ee]
 congr 2
 omega
theorem jz (l:List (List UJ)) (n:Nat) (r:List UJ):lset (Ya l n) n r=Ws l n r:=rfl
theorem WE {l:List (List UJ)} {i:Nat} (h:i<l.length):l[i]? = some (To l i):=by
 unfold To;rw [co h];rfl
theorem ca {β:Type} (l:List UJ) (x y:Unit->Option β):br (Oa (l.length:Int) 0) x y=if l=[] then x () else y ():=by
 rw [TK];by_cases h:l=[]
 ·rw [if_pos h,if_pos (by rw [h];rfl)]
 ·rw [if_neg h,if_neg (by have:=ec.2 h;omega)]
theorem aG {L:Tl} (h:L.2.length<=1000) {n:Nat} (i:n<1000) (r:List UJ):V2 (L,((n:Int),r))=some (Uw L n r):=by
 have b:TY (Ki (AS L.2)) (SF .i64 (n:Int) 1)=((max L.2.length (n+1):Nat):Int):=by
  rw [Tu (by omega),XH,Tq,Tn];omega
 unfold V2;simp only [b,Ti,tD,jz];have d:(Ya L.2 n).length=max L.2.length (n+1):=ZH _ _;have j:(Ws L.2 n r).length=max L.2.length (n+1):=by unfold Ws;rw [yb,d]
 rw [UP (by omega),S3,if_pos (by rw [Tn,d];omega),TC (WE (by omega))]
 have c:=bg (M:=Ws L.2 n r) (f:=λa=>br (S6 a 0) (λ_=>R1 (SK .i64 a 1) λe=>gd (KJ e (AS (Ws L.2 n r))) λ_=>ix (Ws L.2 n r) e λg=>br (Oa (Ki (AS g)) 0) (λ_=>some (.nx (SK .i64 a 1))) λ_=>some (.dn ((0,(a,()))))) λ_=>some (.dn ((0,(a,()))))) rfl (λk b=>by
  have hi:SK .i64 ((k+1:Nat):Int) 1=(k:Int):=by rw [Sj (by omega)];omega
  simp only [hi,Ti];rw [TM,if_pos (by omega),S3,if_pos (by rw [Tn];omega),TC (WE b)]
  exact ca _ _ _) _ (dc _)
 rw [Tq,show AS (Ws L.2 n r)=(Ws L.2 n r).length from rfl];refine UC (U4 (by omega) c) ?_;have hd:=cR (Ws L.2 n r) (Ws L.2 n r).length;simp only [Ti];rw [UP hd,S2,if_pos (by omega),Sz,if_pos (by omega),S2,if_pos (by unfold BF Pa;omega)];unfold Uw X9 D0 BF Pa;simp
end
section
open Go Sv
def cZ (d:Int) (j:Job):Bool:=Oa d j.1
def Uk (js:List Job) (d:Int):Option Job:=js.find? (cZ d)
def Zu (js:List Job):List (Int×Job):=js.map λj=>(j.1,j)
def zJ:Job:=(0,(([],([],([],([],0)))),((false,([],false)),([],0))))
def WW (L:Tl) (d:Int):Job:=match To L.2 d.toNat with
 | [r0,r1]=>(d,Vb r1.2 r0.2 (decide (d=(L.2.length:Int)-1)) 0)
 | _=>zJ
def We (s:Th) (L:Tl) (a d:Int):Job:=(if d=a then none else Uk s.2.1 d).getD (WW L d)
def ZK (s:Th) (L:Tl) (next a:Int):Th:=(L,((Tp 0 L.2).map (We s L a),next))
theorem bz (d:Int) : ∀ js:List Job,MU (λa b=>Oa a b) (Zu js) d=Uk js d
 | []=>rfl
 | j::js=>by
  show (bif Oa d j.1 then some j else MU (λa b=>Oa a b) (Zu js) d)=(j::js).find? (cZ d)
  rw [iz,bz d js];show _=match Oa d j.1 with | true=>some j | false=>Uk js d
  cases Oa d j.1<;>rfl
theorem cA {j:Job} : ∀ {js:List Job},j.1 ∉ js.map (·.1)->IT (λa b=>Oa a b) (Zu js) j.1 j=Zu (js++[j])
 | [],_=>rfl
 | i::js,h=>by
  show (bif Oa j.1 i.1 then (j.1,j)::Zu js else (i.1,i)::IT (λa b=>Oa a b) (Zu js) j.1 j)=(i.1,i)::Zu (js++[j])
  have d:Oa j.1 i.1=false:=by rw [Vt];simp;intro e;exact h (by simp [e])
  rw [d,cond_false,cA (λc=>h (by simp at c ⊢;exact .inr c))]
theorem Yq {js:List Job} {d:Int} (h:d ∉ js.map (·.1)):Uk js d=none:=by
 unfold Uk;rw [List.find?_eq_none];intro j a;unfold cZ;rw [Vt];simp only [decide_eq_true_eq];intro e;exact h (by rw [e];exact l5 a)
theorem bx {x d:Int} : ∀ {js:List Job},(js.map (·.1)).Nodup->MU (λa b=>Oa a b) (IS (λa b=>Oa a b) (Zu js) x) d=if d=x then none else Uk js d
 | [],_=>by split<;>rfl
 | j::js,h=>by
  rw [li,oj] at h;show MU (λa b=>Oa a b) (bif Oa x j.1 then Zu js else (j.1,j)::IS (λa b=>Oa a b) (Zu js) x) d=_
  have f:Uk (j::js) d=if d=j.1 then some j else Uk js d:=by
   unfold Uk;rw [iz];unfold cZ;rw [Vt];by_cases e:d=j.1<;>simp [e]
  rw [Vt,f];by_cases c:x=j.1
  ·rw [show decide (x=j.1)=true by simp [c],cond_true,bz];by_cases hd:d=x
   ·rw [if_pos hd];exact Yq (by rw [hd,c];exact h.1)
   ·rw [if_neg hd,if_neg (by rw [<- c];exact hd)]
  ·rw [show decide (x=j.1)=false by simp [c],cond_false];show (bif Oa d j.1 then some j else MU (λa b=>Oa a b) (IS (λa b=>Oa a b) (Zu js) x) d)=_
   rw [bx h.2,Vt];by_cases hd:d=j.1
   ·rw [show decide (d=j.1)=true by simp [hd],cond_true,if_pos hd,if_neg (by rw [hd];exact λe=>c e.symm)]
   ·rw [show decide (d=j.1)=false by simp [hd],cond_false,if_neg hd]
theorem VR.vl' {L:Tl} (v:VLev L) {n:Nat} {r:UJ} (h:r∈To L.2 n):VL r.2:=((v.own n).2 r h).vl
theorem iI (L:Tl) (a:L.2.length<=1000) (n:Nat):Vj (L,(n:Int))=some (decide ((n:Int)=(L.2.length:Int)-1)):=by
 unfold Vj;simp only [Tq,Tn];rw [Sj (by omega),Vt]
theorem je {L:Tl} (v:VLev L) {n:Nat} (h:(To L.2 n).length=2):Xj (L,(n:Int))=some (WW L n,0):=by
 have d:n<L.2.length:=by
  by_cases e:n<L.2.length
  ·exact e
  ·unfold To at h;rw [a9 (by omega)] at h;cases h
 have i:=v.len;obtain ⟨f,g⟩:=v.small;unfold Xj;simp only [Tq,Tn];rw [Yr _ f g,WT v,Sx,TQ,if_pos rfl,TP,if_neg (by omega),TL,if_neg (by omega),TL,if_neg (by omega),Ti,TC (WE d),TP,if_neg (by omega),iI L (by omega) n,Sx]
 obtain ⟨b,c,a⟩ : ∃ b c,To L.2 n=[b,c]:=by
  match hq:To L.2 n with
  | [b,c]=>exact ⟨b,c,rfl⟩
  | []=>rw [hq] at h;cases h
  | [_]=>rw [hq] at h;cases h
  | _::_::_::_=>rw [hq] at h;simp at h
 rw [dB _ (by rw [WE d,a]) (VR.vl' v (n:=n) (by rw [a];simp)) (VR.vl' v (n:=n) (by rw [a];simp)),Sx];unfold WW;rw [bl,a]
theorem Wm (i:Nat) (rs:List UJ) (ls:List (List UJ)):Tp i (rs::ls)=(if rs.length=2 then [(i:Int)] else [])++Tp (i+1) ls:=rfl
theorem aT {s:Th} (f:(s.2.1.map (·.1)).Nodup) (r:s.2.1.length<=1000) {L:Tl} (v:VLev L) (next a:Int):UO (s,(L,(next,a)))=some (ZK s L next a,0):=by
 have t:=v.len;unfold UO;simp only [Tq,Tn]
 rw [Un (l:=s.2.1) (σ:=List (Int×Job)) (s:=((0:Int),([]:List (Int×Job)))) (λi m=>((i:Int),m)) (λls i m => ∃ p,s.2.1=p++ls/\m=Zu p) (λ_ _ _=>(0,(((s.2.1.length:Int),Zu s.2.1),()))) [] rfl (by omega) ⟨[],rfl,rfl⟩ (λm h=>by
  obtain ⟨p,d,rfl⟩:=h
  simp only;rw [re,R7,d,ey]) (λi x ls m hd b hi h=>by
   obtain ⟨p,d,rfl⟩:=h;refine ⟨Zu (p++[x]),?_,⟨p++[x],by rw [d];simp,rfl⟩,rfl⟩;simp only;rw [rl hi,Sc,Ti,TC b,Tv b (by omega),cA];intro g;rw [d,nn,pg] at f
   exact f.2.2 _ g x.1 (by simp) rfl),Sx]
 simp only
 rw [Un (l:=L.2) (σ:=List Job) (s:=((0:Int),((0:Int),(((0:Int),(([]:List (List UJ)),(([]:List Job),(0:Int)))),(L.1,(L.2,(([]:List Job),next))))))) (λi js=>((0:Int),((i:Int),(((0:Int),(([]:List (List UJ)),(([]:List Job),(0:Int)))),(L.1,(L.2,(js,next))))))) (λls i js=>js++(Tp i ls).map (We s L a)=(Tp 0 L.2).map (We s L a)) (λ_ _ _=>(0,(((0:Int),((L.2.length:Int),(((0:Int),(([]:List (List UJ)),(([]:List Job),(0:Int)))),(L.1,(L.2,((Tp 0 L.2).map (We s L a),next)))))),()))) [] rfl (by omega) rfl (λm h=>by
  simp only;rw [re,R7,<- h];simp [Tp]) (λi rs ls m hd b hi h=>by
   have k:To L.2 i=rs:=by unfold To;rw [b];rfl
   have o:=(v.own i).1;rw [k] at o;refine ⟨m++(if rs.length=2 then [We s L a i] else []),?_,?_,rfl⟩
   ·simp only;rw [rl hi,Sc,Ti,TC b,TP]
    have g:m.length<=1000:=by
     have c:=congrArg mu h;have q:=VS L.2 0;rw [hM,s6,s6] at c;omega
    by_cases c:rs.length=2;rotate_left
    ·rw [if_pos (by omega),if_neg c,ey,Tv b (by omega)]
    rw [if_neg (by omega),if_pos c,bx f];have e:We s L a i=(if (i:Int)=a then none else Uk s.2.1 i).getD (WW L i):=rfl
    cases n:(if (i:Int)=a then none else Uk s.2.1 (i:Int)) with
    | none =>
     rw [n,Option.getD_none] at e;rw [e,je v (by rw [k];exact c),UU,TV,if_neg (show ¬ Tb (none:Option Job)=true by simp [Tb]),Sx];simp only;rw [TQ,if_pos rfl,UP (by simp only [BF,ci,cP];omega),Tv b (by omega)];rfl
    | some j =>
     rw [n,hI] at e;rw [e,UU,TV,if_pos (show Tb (some j)=true from rfl),UP (by simp only [BF,ci,cP];omega),Tv b (by omega)];rfl
   ·rw [eb,<- h,Wm,nn]
    congr 2
    split<;>rfl),Sx]
 rfl
end
section
open Go Sv
def pS (s:Ul):Option Xb:=if s.1=true then some s.2.1 else none
theorem Asc.weak : ∀ {l:List Tj} {p c:Option Xb},(∀ a,c=some a -> ∃ q,p=some q/\SV q a=false)->Asc p l->Asc c l
 | [],_,_,_,_=>trivial
 | x::l,p,c,h,⟨g,i⟩=>⟨λa b=>by
  obtain ⟨q,e,j⟩:=h a b;have d:=g q e;by_cases f:a=q
  ·rw [f];exact d
  ·exact WV (Zm j (λe=>f e.symm)) d,i⟩
theorem dG : ∀ (l:List Tj) (s:Ul),Z5 s l->Asc (pS s) (WF s l)
 | [],_,_=>trivial
 | x::l,s,⟨_,g,h⟩=>by
  have i:=dG l _ h;have f:Asc (some x.1) (WF (true,(x.1,s.2.2)) l):=i;unfold WF;by_cases c:keep s x=true
  ·rw [if_pos c];refine ⟨λq d => ?_,f⟩;unfold pS at d;by_cases b:s.1=true
   ·rw [if_pos b] at d;cases d;refine Zm (g b) λe => ?_;unfold keep at c;rw [b,e] at c;simp at c
   ·rw [if_neg b] at d;cases d
  ·rw [if_neg c,nP];refine f.weak λj a=>⟨x.1,rfl,?_⟩;unfold pS at a;by_cases b:s.1=true
   ·rw [if_pos b] at a;cases a;exact g b
   ·rw [if_neg b] at a;cases a
theorem dI : ∀ {l:List Tj} {s:Ul} {x:Tj},x∈WF s l->x∈l
 | y::l,s,x,h=>by
  unfold WF at h;rcases ns.1 h with h | h
  ·split at h
   ·rw [tk.1 h];simp
   ·cases h
  ·exact List.mem_cons_of_mem _ (dI h)
theorem gb : ∀ {l:List Tj} {s:Ul},Z5 s l -> ∀ x∈l,kE x=0
 | y::l,s,⟨a,_,b⟩,x,h=>by
  rcases eo.1 h with e | h
  ·rw [e];exact a
  ·exact gb b x h
theorem ei {a b:List Tj} (va:VL a) (f:VL b) (c:Bool) {k:Nat} (d:k<=a.length+b.length) (j:a.length+b.length<=5000):VL (Vb a b c k).2.2.1/\(Vb a b c k).2.2.1.length<=a.length+b.length:=by
 have e:=XO va f c d
 have i:(WF (s0 c) (UD a b k)).length<=k:=by
  have:=YQ (s0 c) (UD a b k);rw [VE va f d] at this;exact this
 have g:(Vb a b c k).2.2.1=WF (s0 c) (UD a b k):=rfl;rw [g];exact ⟨⟨by omega,λx h=>gb e x (dI h),dG _ _ e⟩,by omega⟩
theorem eY {L:Tl} (v:VLev L) {n:Nat} (h:To L.2 n≠[]):Vr (L,(n:Int))=some (Uw L n [],(To L.2 n,0)):=by
 have b:n<L.2.length:=by
  by_cases a:n<L.2.length
  ·exact a
  ·unfold To at h;rw [a9 (by omega)] at h;exact absurd rfl h
 have d:=v.len;have c:=(v.own n).1;unfold Vr;simp only [Tq,Tn];rw [cf v,Sx,if_neg (by omega),TQ,if_pos rfl,TP,if_pos (by omega),Ti,TC (WE b),ca,if_neg h,aG (by omega) (by omega),Sx,UP (by omega)]
theorem iG {S β:Type} {f:S->Option (LR S β)} {r:β} (mk:Int->S) (n:Nat) {s:S} (b:s=mk ((n:Int)-1)) (g:n<1000000) (hs : ∀ k,k<n->f (mk (k:Int))=some (.nx (mk ((k:Int)-1)))) (c:f (mk (-1))=some (.dn r)):loop f s=some r:=by
 subst b
 have a : ∀ k,k<=n->IL (k+1) f (mk ((k:Int)-1))=some r:=by
  intro k
  induction k with
  | zero=>intro _;exact UT c
  | succ k d =>
   intro e;have:=hs k (by omega);rw [show ((k+1:Nat):Int)-1=(k:Int) by omega,UN this];exact d (by omega)
 exact U4 (by omega) (a n (dc _))
theorem dU {L:Tl} (v:VLev L) {n:Nat} (m:n<12) {x:UJ} (p:x.2.length<=1048576) (b : ∀ y∈L.2.flatten,y.1≠x.1) (j:(To L.2 n).length<2) :
  Ub (L,((n:Int),x))=some (if kR [] (Uv L.1 n) x≠0 then ((0,[]),kR [] (Uv L.1 n) x) else (Uw L n (To L.2 n++[x]),0)):=by
 have o:=v.len;unfold Ub;simp only [Tq,Tn];rw [cf v,Sx,if_neg (by omega),TQ,if_pos rfl,aE v.B1 v.B2 (by omega),bw x _ (by omega),show Rx (n:Int) 0=true by unfold Rx;simp];rw [pU,Sx,TQ];by_cases a:kR [] (Uv L.1 n) x=0;rotate_left
 ·rw [if_neg a,if_pos a]
 rw [if_pos a,if_neg (by simp [a])]
 rw [Un (l:=L.2) (σ:=Unit) (s:=((0:Int),(((0:Int),([]:List (List UJ))),(0:Int)))) (λi _=>((i:Int),(((0:Int),([]:List (List UJ))),(0:Int)))) (λ_ _ _=>True) (λ_ _ _=>(0,(((L.2.length:Int),(((0:Int),([]:List (List UJ))),(0:Int))),()))) () rfl (by omega) trivial (λ_ _=>by
  simp only;rw [re];rfl) (λi rs ls _ hd hi c _=>by
   refine ⟨(),?_,trivial,rfl⟩;have e:To L.2 i=rs:=by unfold To;rw [hi];rfl
   have f:=(v.own i).1;rw [e] at f;simp only;rw [rl c,Sc,Ti,TC hi,Sj (by omega)]
   rw [iG (λk=>(k,(((0:Int),([]:List (List UJ))),(0:Int)))) rs.length rfl (by omega) (λk a=>by
    have h:rs[k]? = some rs[k]:=co a;have d:rs[k].1≠x.1:=b _ (l4.2 ⟨rs,bo hi,List.getElem_mem a⟩);simp only
    rw [TL,if_pos (by omega),Ti,TC h,TK,if_neg d,Sj (by omega)]) (r:=(0,(((-1:Int),(((0:Int),([]:List (List UJ))),(0:Int))),()))) rfl,Sx]
   rw [Tv hi (by omega)]
   rfl),Sx]
 rw [Sy,if_pos rfl,TP];by_cases g:n<L.2.length
 ·rw [if_pos (by omega),Ti,TC (WE g),TK,if_neg (by omega),Ti,Ti,UP (dc _),S1,if_pos rfl,UP (kd _)];have hs:D0 (To L.2 n) 0 (To L.2 n).length=To L.2 n:=by unfold D0;simp
  rw [hs,UP (by simp only [BF,ci,cP];omega),aG (by omega) (by omega),Sx];rfl
 ·rw [if_neg (by omega)];have e:To L.2 n=[]:=by unfold To;rw [a9 (by omega)];rfl
  rw [UP (by simp),aG (by omega) (by omega),Sx,e];rfl
end
end Go.Proofs.YtfipnhjfbebeiabGreatDoor.Pl
