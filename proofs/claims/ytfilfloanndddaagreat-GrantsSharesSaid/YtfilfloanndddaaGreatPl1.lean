/- Functions of the program and of the specification as plain functions, and laws about them. No condition. -/
import Derived.Test.YtfilfloanndddaaGreatPl0
set_option linter.all false
namespace Go.Proofs.YtfilfloanndddaaGreat.Pl
open Go Go.Proofs.YtfilfloanndddaaGreat.Sv
theorem Cu {S β:Type} {f:S->Option (LR S β)} {s0 s1 s2:S} {r:β} (a:f s0=some (.nx s1)) (c:f s1=some (.nx s2)) (b:f s2=some (.dn r)):loop f s0=some r :=
 Cm (n:=3) (by omega) ((BL a).trans ((BL c).trans (BY b)))
theorem O5 {α β:Type} {c:Bool} {n:Int} {l:List α} {K:Nat->α->Option β} {E:Unit->Option β} (k:Nat) {x:α} (hc:c=true) (d:n=(k:Int)) (e:l[k]? = some x):br c (λ_=>AT n λa=>ix l a λb=>K a b) E=K k x:=by
 subst hc;subst d;rw [AU,AE,AL e]
theorem FN {α β:Type} {n:Int} {l:List α} {K:Nat->α->Option β} (k:Nat) {x:α} (d:n=(k:Int)) (c:l[k]? = some x):AT n (λa=>ix l a λb=>K a b)=K k x:=by
 subst d;rw [AE,AL c]
theorem Hc {l:List AD} {i:Nat} (h:i<=l.length):BS (l,(i:Int))=some (kx l i):=by
 unfold BS kx;simp only [AX,AR];rw [A2];by_cases hi:i=l.length
 ·rw [if_pos (by omega),List.getElem?_eq_none (by omega)]
 ·have a:l[i]? = some l[i]:=by rw [List.getElem?_eq_getElem (by omega)]
  rw [if_neg (by omega),AE,AL a,a]
section
variable {a b:List AD} (va:VL a) (vb:VL b)
theorem da {i j:Nat} (hi:i<=a.length) (c:j<=b.length):Gn ([a,b],[(i:Int),(j:Int)])=some (Tt (kx a i) (kx b j)):=by
 unfold Gn;refine BH (x:=(0,((2,[kx a i,kx b j]),()))) (Cu (s1:=(1,[kx a i,([],false)])) (s2:=(2,[kx a i,kx b j])) ?_ ?_ rfl) ?_
 ·show bd (BS (a,(i:Int))) _=_;rw [Hc hi];rfl
 ·show bd (BS (b,(j:Int))) _=_;rw [Hc c];rfl
 ·show bd (Cg [kx a i,kx b j]) _=_;rw [OM (Bo _ _) (Bo _ _)];rfl
include va vb
theorem NR:BZ a=some (0,0):=by
 rw [Ho _ (by have:=va.len;omega),Kt va]
theorem MS:Dp [a,b]=some (0,0):=by
 unfold Dp;refine BH (x:=(1,((0,(0,2)),()))) (Cu (s1:=(0,(0,1))) (s2:=(0,(0,2))) ?_ ?_ rfl) rfl
 ·show bd (BZ a) _=_;rw [NR va va];rfl
 ·show bd (BZ b) _=_;rw [NR vb vb];rfl
theorem Zq (c:Bool):FB ([a,b],c)=some (tp a b c 0,(0,0)):=by
 unfold FB;rw [MS va vb,AB,AP,if_pos rfl];refine BH (x:=(0,((2,[kx a 0,kx b 0]),()))) (Cu (s1:=(1,[kx a 0,([],false)])) (s2:=(2,[kx a 0,kx b 0])) ?_ ?_ rfl) ?_
 ·show bd (BS (a,((0:Nat):Int))) _=_;rw [Hc (by omega)];rfl
 ·show bd (BS (b,((0:Nat):Int))) _=_;rw [Hc (by omega)];rfl
 ·show bd (Cg [kx a 0,kx b 0]) _=_;rw [OM (Bo _ _) (Bo _ _)];rfl
end
theorem Ip (x:Bool):Sv.beq x x=true:=by cases x<;>rfl
theorem J2 (x:Hn):seq x x=true:=by rw [PK]
theorem We (l:List AN) (h:l.length<=1000):As (l,l)=some true:=by
 unfold As;simp only [AX,AR]
 rw [AP,if_pos rfl,NQ (l:=l) (σ:=Unit) (s:=(0,false)) (λk _=>((k:Int),false)) (λ_ _ _=>some (1,(((l.length:Int),false),()))) () rfl (by omega) (λb=>by
  simp only;rw [re];rfl) (λk x m b _ a c => .inl ⟨(),by
   simp only;rw [rl c,AU,AE,AL a,AE,AL a,J2,Ip,show Ad (Az true (Az true true))=false from rfl,Av,Ao a (by omega)],rfl⟩),AB]
 rfl
theorem Wf (l:List Int) (h:l.length<=1000):Ah (l,l)=some true:=by
 unfold Ah;simp only [AX,AR]
 rw [AP,if_pos rfl,NQ (l:=l) (σ:=Unit) (s:=(0,false)) (λk _=>((k:Int),false)) (λ_ _ _=>some (1,(((l.length:Int),false),()))) () rfl (by omega) (λb=>by
  simp only;rw [re];rfl) (λk x m b _ a c => .inl ⟨(),by
   simp only;rw [rl c,AU,AE,AL a,AE,AL a,AP,if_pos rfl,Ao a (by omega)],rfl⟩),AB]
 rfl
theorem Zr (t:ET) (b:t.1.length<=1000) (a:t.2.1.length<=1000):En (t,t)=some true:=by
 unfold En;rw [A2,if_pos rfl,We _ b,AB,AU,Wf _ a];rfl
theorem Zs (p q:AN):En (Tt p q,Tt p q)=some true:=Zr _ (show 2<=1000 by omega) (show 2<=1000 by omega)
theorem Zt {a b:List AD} {i j:Nat} (h:H8 a b i j=true):wk (kx a i) (kx b j)=kx a i/\wn (kx a i) (kx b j)=0:=by
 unfold H8 at h;unfold wk wn;rw [if_pos h,if_pos h];exact ⟨rfl,rfl⟩
theorem Zu {a b:List AD} {i j:Nat} (h:H8 a b i j=false):wk (kx a i) (kx b j)=kx b j/\wn (kx a i) (kx b j)=1:=by
 unfold H8 at h;unfold wk wn;rw [if_neg (by simp [h]),if_neg (by simp [h])];exact ⟨rfl,rfl⟩
theorem Yf (x y:Hn):Cs (x,y)=some (if Cy x y=true then -1 else if Cy y x=true then 1 else 0):=by
 unfold Cs DN;simp only [J2,MQ,AB,Av];rw [HM,HM];split
 ·rfl
 ·split<;>rfl
theorem Yg (x y:Int):CS (x,y)=some (if x<y then -1 else if x>y then 1 else 0):=by
 unfold CS Ef;simp only [AB,AP,if_true,A1,Am];split
 ·rfl
 ·split<;>rfl
theorem db (x y:Int):Gp [x,y]=some (if x≠0 then x else y):=by
 unfold Gp;by_cases h:x=0
 ·rw [if_neg (by simp [h])];by_cases a:y=0
  ·refine BH (x:=(1,((0,2),()))) (Cu (s1:=(0,1)) (s2:=(0,2)) ?_ ?_ rfl) (by rw [a];rfl)
   ·refine (O5 0 rfl rfl rfl).trans ?_;rw [AP,if_pos h];rfl
   ·refine (O5 1 rfl rfl rfl).trans ?_;rw [AP,if_pos a];rfl
  ·refine BH (x:=(0,((y,1),()))) (Cm (n:=2) (by omega) ((BL (s':=(0,1)) ?_).trans (BY ?_))) rfl
   ·refine (O5 0 rfl rfl rfl).trans ?_;rw [AP,if_pos h];rfl
   ·refine (O5 1 rfl rfl rfl).trans ?_;rw [AP,if_neg a]
 ·rw [if_pos h];refine BH (x:=(0,((x,0),()))) (Cm (n:=1) (by omega) (BY ?_)) rfl;refine (O5 0 rfl rfl rfl).trans ?_;rw [AP,if_neg h]
section
variable {a b:List AD} (va:VL a) (vb:VL b)
include va vb
theorem LV {i j:Nat} (I:Inv a b i j):Dr (Mb a b i j)=some (0,0):=by
 unfold Dr;rw [show (Mb a b i j).1=[a,b] from rfl,MS va vb,AB,AP,if_pos rfl];rw [show (Mb a b i j).2.1=[(i:Int),(j:Int)] from rfl,AP,if_pos (show Ab (AA [(i:Int),(j:Int)])=Ab (AA [a,b]) from rfl)];refine BH (x:=(1,((0,(0,2)),()))) (Cu (s1:=(0,(0,1))) (s2:=(0,(0,2))) ?_ ?_ rfl) ?_
 ·refine (O5 0 rfl rfl rfl).trans ?_;rw [A1,if_neg (by omega),show AT (((0:Int),((0:Int),(0:Int))).2.2)=λ(k:Nat->Option (LR (Int×(Int×Int)) (Nat×((Int×(Int×Int))×Unit))))=>k 0 from rfl];simp only;rw [AL (x:=a) rfl,Am,if_neg (by have:=I.ia;simp only [AX,AR];omega)];rfl
 ·refine (O5 1 rfl rfl rfl).trans ?_;rw [A1,if_neg (by omega),show AT (((0:Int),((0:Int),(1:Int))).2.2)=λ(k:Nat->Option (LR (Int×(Int×Int)) (Nat×((Int×(Int×Int))×Unit))))=>k 1 from rfl];simp only;rw [AL (x:=b) rfl,Am,if_neg (by have:=I.jb;simp only [AX,AR];omega)];rfl
 rw [show neq ((1:Nat),(((0:Int),((0:Int),(2:Int))),())).1 0=false from rfl,Av,da I.ia I.jb,AB,show (Mb a b i j).2.2=Tt (kx a i) (kx b j) from rfl,Zs,AB,show Ad true=false from rfl,Av,IS (Bo _ _) (Bo _ _),AB];by_cases c:(wk (kx a i) (kx b j)).2=true
 ·rw [if_pos c];rfl
 rw [if_neg c,AP,if_pos rfl]
 have s : ∀ {x:AD} {f:Nat},i=f+1->a[f]? = some x -> ¬ (if (if Cy x.1 (wk (kx a i) (kx b j)).1=true then (-1:Int) else if Cy (wk (kx a i) (kx b j)).1 x.1=true then 1 else 0)≠0 then (if Cy x.1 (wk (kx a i) (kx b j)).1=true then (-1:Int) else if Cy (wk (kx a i) (kx b j)).1 x.1=true then 1 else 0) else (if (0:Int)<(wn (kx a i) (kx b j):Int) then -1 else if (0:Int)>(wn (kx a i) (kx b j):Int) then 1 else 0))>0:=by
  intro x f hi d
  have n:Cy (wk (kx a i) (kx b j)).1 x.1=false:=by
   cases g:H8 a b i j with
   | true =>
    rw [(Zt g).1] at c ⊢;unfold kx at c ⊢;cases e:a[i]? with
    | none=>rw [e] at c;exact absurd rfl c
    | some y=>rw [hi] at e;exact C3 (va.lt d e)
   | false =>
    rw [(Zu g).1] at c ⊢;unfold kx at c ⊢;cases e:b[j]? with
    | none=>rw [e] at c;exact absurd rfl c
    | some y=>exact I.pa f hi x y d e
  rw [n];have : ¬ (0:Int)>(wn (kx a i) (kx b j):Int):=by omega
  by_cases hs:Cy x.1 (wk (kx a i) (kx b j)).1=true
  ·simp [hs]
  ·simp only [hs,Bool.false_eq_true,if_false,ne_eq,not_true,this];split<;>omega
 have t : ∀ {y:AD} {j':Nat},j=j'+1->b[j']? = some y -> ¬ (if (if Cy y.1 (wk (kx a i) (kx b j)).1=true then (-1:Int) else if Cy (wk (kx a i) (kx b j)).1 y.1=true then 1 else 0)≠0 then (if Cy y.1 (wk (kx a i) (kx b j)).1=true then (-1:Int) else if Cy (wk (kx a i) (kx b j)).1 y.1=true then 1 else 0) else (if (1:Int)<(wn (kx a i) (kx b j):Int) then -1 else if (1:Int)>(wn (kx a i) (kx b j):Int) then 1 else 0))>0:=by
  intro y j' r e
  have l:Cy y.1 (wk (kx a i) (kx b j)).1=true:=by
   cases g:H8 a b i j with
   | true =>
    rw [(Zt g).1] at c ⊢;unfold kx at c ⊢;cases d:a[i]? with
    | none=>rw [d] at c;exact absurd rfl c
    | some x=>exact I.pb j' r y x e d
   | false =>
    rw [(Zu g).1] at c ⊢;unfold kx at c ⊢;cases d:b[j]? with
    | none=>rw [d] at c;exact absurd rfl c
    | some x=>rw [r] at d;exact vb.lt e d
  rw [l];simp
 refine BH (x:=(1,((0,(0,2)),()))) (Cu (s1:=(0,(0,1))) (s2:=(0,(0,2))) ?_ ?_ rfl) rfl
 ·refine (O5 0 rfl rfl rfl).trans ?_;rw [Am];by_cases h:(i:Int)>0
  ·rw [if_pos h];obtain ⟨f,o⟩ : ∃ f,i=f+1:=⟨i-1,by omega⟩;have m:f<a.length:=by have:=I.ia;omega
   have d:a[f]? = some a[f]:=by simp [m]
   refine (FN 0 rfl (x:=a) rfl).trans ((FN f ?_ d).trans ?_)
   ·rw [CR (by have:=va.len;have:=I.ia;omega)];omega
   rw [Yf,AB];show bd (CS (0,(wn (kx a i) (kx b j):Int))) _=_;rw [Yg,AB,db,AB,Am,if_neg (s o d)];rfl
  ·rw [if_neg h];rfl
 ·refine (O5 1 rfl rfl rfl).trans ?_;rw [Am];by_cases h:(j:Int)>0
  ·rw [if_pos h];obtain ⟨j',p⟩ : ∃ j',j=j'+1:=⟨j-1,by omega⟩;have q:j'<b.length:=by have:=I.jb;omega
   have e:b[j']? = some b[j']:=by simp [q]
   refine (FN 1 rfl (x:=b) rfl).trans ((FN j' ?_ e).trans ?_)
   ·rw [CR (by have:=vb.len;have:=I.jb;omega)];omega
   rw [Yf,AB];show bd (CS (1,(wn (kx a i) (kx b j):Int))) _=_;rw [Yg,AB,db,AB,Am,if_neg (t p e)];rfl
  ·rw [if_neg h];rfl
end
end Go.Proofs.YtfilfloanndddaaGreat.Pl
namespace Go.Proofs.YtfilfloanndddaaGreat.Pl
open Go Go.Proofs.YtfilfloanndddaaGreat.Sv
theorem G1 {l:List AD} {i:Nat} {x:AD} (h:l[i]? = some x):kx l i=(x.1,false):=by unfold kx;rw [h]
theorem NS {l:List AD} {i:Nat} (h:l[i]? = none):kx l i=([],true):=by unfold kx;rw [h]
theorem PL {l:List AD} (v:VL l) {i:Nat} {x:AD} (h:l[i]? = some x):(kx l (i+1)).2=true\/Cy (kx l (i+1)).1 x.1=false:=by
 cases a:l[i+1]? with
 | none=>rw [NS a];exact .inl rfl
 | some y=>rw [G1 a];exact .inr (C3 (v.lt h a))
theorem Kv {α β:Type} {n:Int} {l:List α} {K:Nat->α->Option β} (k:Nat) {x:α} (d:n=(k:Int)) (b:l[k]? = some x):AT n (λa=>gd (C7 a (AA l)) λ_=>ix l a λc=>K a c)=K k x:=by
 subst d;rw [AE,Kq,if_pos (show k<AA l from (List.getElem?_eq_some_iff.1 b).1),AL b]
section
variable {a b:List AD} (va:VL a) (vb:VL b)
include va vb
theorem kw {i j:Nat} (I:Inv a b i j) {x:AD} (c:a[i]? = some x) (g:H8 a b i j=true):CF (Mb a b i j)=some (x,(0,(Mb a b (i+1) j,0))):=by
 obtain ⟨f,l⟩:=Zt g;have hi:=(List.getElem?_eq_some_iff.1 c).1;have n:=va.len;have e:(wk (kx a i) (kx b j)).2=false:=by rw [f,G1 c]
 obtain ⟨m,h⟩:=Io (p:=kx a i) (q:=kx b j) (k:=kx a (i+1)) (Bo _ _) (Bo _ _) (Bo _ _) e (by rw [f,G1 c];exact PL va c)
 have d:rk (kx a i) (kx b j) (kx a (i+1))=(kx a (i+1),kx b j):=by
  unfold rk;unfold H8 at g;rw [if_pos g]
 rw [d] at h;unfold CF;rw [LV va vb I,AB,AP,if_pos rfl];unfold Aq A7;refine BH (Ku (show 2<=1048576 by omega)) (BH (Ku (show 2<=1048576 by omega)) ?_);rw [show (Mb a b i j).2.2=Tt (kx a i) (kx b j) from rfl,IS (Bo _ _) (Bo _ _),if_neg (by simp [e]),AB,AP,if_pos rfl,l];refine (Kv 0 rfl (x:=a) rfl).trans ((Kv 0 rfl (x:=(i:Int)) rfl).trans ((FN i rfl c).trans ((Kv 0 rfl (x:=(i:Int)) rfl).trans ((Kv 0 rfl (x:=(i:Int)) rfl).trans ((Kv 0 rfl (x:=a) rfl).trans ((Kv 0 rfl (x:=AI .i64 (i:Int) 1) rfl).trans ?_))))));rw [Af (by omega),Hc (show i+1<=a.length by omega),AB,h,AB];rfl
theorem ky {i j:Nat} (I:Inv a b i j) {y:AD} (c:b[j]? = some y) (g:H8 a b i j=false):CF (Mb a b i j)=some (y,(1,(Mb a b i (j+1),0))):=by
 obtain ⟨h,l⟩:=Zu g;have hi:=(List.getElem?_eq_some_iff.1 c).1;have n:=vb.len;have e:(wk (kx a i) (kx b j)).2=false:=by rw [h,G1 c]
 obtain ⟨m,f⟩:=Io (p:=kx a i) (q:=kx b j) (k:=kx b (j+1)) (Bo _ _) (Bo _ _) (Bo _ _) e (by rw [h,G1 c];exact PL vb c)
 have d:rk (kx a i) (kx b j) (kx b (j+1))=(kx a i,kx b (j+1)):=by
  unfold rk;unfold H8 at g;rw [if_neg (by simp [g])]
 rw [d] at f;unfold CF;rw [LV va vb I,AB,AP,if_pos rfl];unfold Aq A7;refine BH (Ku (show 2<=1048576 by omega)) (BH (Ku (show 2<=1048576 by omega)) ?_);rw [show (Mb a b i j).2.2=Tt (kx a i) (kx b j) from rfl,IS (Bo _ _) (Bo _ _),if_neg (by simp [e]),AB,AP,if_pos rfl,l];refine (Kv 1 rfl (x:=b) rfl).trans ((Kv 1 rfl (x:=(j:Int)) rfl).trans ((FN j rfl c).trans ((Kv 1 rfl (x:=(j:Int)) rfl).trans ((Kv 1 rfl (x:=(j:Int)) rfl).trans ((Kv 1 rfl (x:=b) rfl).trans ((Kv 1 rfl (x:=AI .i64 (j:Int) 1) rfl).trans ?_))))));rw [Af (by omega),Hc (show j+1<=b.length by omega),AB,f,AB];rfl
def MT (a b:List AD) (n:Nat):AM:=Mb a b (Ap a b n).1 (Ap a b n).2
def QH (a b:List AD) (n:Nat):Nat:=if H8 a b (Ap a b n).1 (Ap a b n).2=true then 0 else 1
theorem QI {n:Nat} {x:AD} (h:n<a.length+b.length) (c:Ox a b n=some x):CF (MT a b n)=some (x,((QH a b n:Int),(MT a b (n+1),0))):=by
 obtain ⟨d,hs⟩:=FM va vb (n:=n) (by omega);unfold MT QH;rw [show Ap a b (n+1)=if H8 a b (Ap a b n).1 (Ap a b n).2=true then ((Ap a b n).1+1,(Ap a b n).2) else ((Ap a b n).1,(Ap a b n).2+1) from rfl]
 unfold Ox at c;cases g:H8 a b (Ap a b n).1 (Ap a b n).2 with
 | true=>rw [if_pos g] at c;rw [kw va vb d c g];simp
 | false=>rw [if_neg (by simp [g])] at c;rw [ky va vb d c g];simp
end
theorem QJ {s:B0} (b:s.2.1.length<=32) (a:s.1=false->s.2.1=[]):D7 s=some 0:=by
 unfold D7;rw [Lp,AB,if_neg (by omega),AP,if_pos rfl,BX,Es];cases h:s.1 with
 | true=>rfl
 | false=>rw [if_neg (by simp),BX,FL,if_pos (a h)]
def keep (s:B0) (x:AD):Bool := !(s.1&&decide (x.1=s.2.1)) && !(s.2.2&&x.2.2.1)
theorem Zv {s:B0} {x:AD} (g:s.2.1.length<=32) (e:s.1=false->s.2.1=[]) (h:kE x=0) (b:s.1=true->Cy x.1 s.2.1=false):CO (s,x)=some (keep s x,((true,(x.1,s.2.2)),0)):=by
 unfold CO keep;rw [QJ g e,AB,AP,if_pos rfl,HN,h,AB,AP,if_pos rfl];obtain ⟨s1,s2,a⟩:=s;obtain ⟨f,j,c,i⟩:=x;simp only at b ⊢;cases s1 with
 | true =>
  have:=b rfl;simp only [AU,Av,HM,FL,this,Bool.false_eq_true,if_false];by_cases d:f=s2
  ·simp [d]
  ·simp only [d,if_false,decide_false];cases a<;>cases c<;>rfl
 | false =>
  simp only [AU,Av];cases a<;>cases c<;>rfl
def E1:B0->List AD->List AD
 | _,[]=>[]
 | s,x::l=>(if keep s x=true then [x] else [])++E1 (true,(x.1,s.2.2)) l
theorem JS : ∀ (s:B0) (l:List AD),(E1 s l).length<=l.length
 | _,[]=>Nat.le_refl _
 | s,x::l=>by
  have:=JS (true,(x.1,s.2.2)) l;unfold E1;by_cases h:keep s x=true
  ·rw [if_pos h];simp;omega
  ·rw [if_neg h];simp;omega
def ON:B0->List AD->Prop
 | _,[]=>True
 | s,x::l=>kE x=0/\(s.1=true->Cy x.1 s.2.1=false)/\ON (true,(x.1,s.2.2)) l
theorem QK {x:AD} (h:kE x=0):x.1.length<=32:=by
 unfold kE at h;by_cases hh:x.1.length>32\/x.2.1.length>64
 ·rw [if_pos hh] at h;cases h
 ·omega
theorem DS {α β σ S:Type} {l:List α} (mk:Nat->σ->S) (Inv:List α->Nat->σ->Prop) (F:List α->Nat->σ->β) {f:S->Option (LR S β)} {s:S} (a:σ) (r:s=mk 0 a) (z:l.length<=9223372036854775807) (hi:Inv l 0 a)
  (p : ∀ a,Inv [] l.length a->f (mk l.length a)=some (.dn (F [] l.length a)))
  (hc : ∀ k x m a,l.drop k=x::m->l[k]? = some x->k<l.length->Inv (x::m) k a -> ∃ b,f (mk k a)=some (.nx (mk (k+1) b))/\Inv m (k+1) b/\F (x::m) k a=F m (k+1) b):loop f s=some (F l 0 a):=by
 subst r
 have d : ∀ (m:List α) (k n:Nat) (a:σ),l.drop k=m->k<=l.length->m.length<n->Inv m k a->Di n f (mk k a)=some (F m k a):=by
  intro m
  induction m with
  | nil =>
   intro k n a c t e hi;obtain ⟨n,rfl⟩ : ∃ j,n=j+1:=⟨n-1,by omega⟩
   have i:k=l.length:=by
    have:=congrArg List.length c;simp at this;omega
   subst i;exact BY (p a hi)
  | cons x m w =>
   intro k n a c t e hi;obtain ⟨n,rfl⟩ : ∃ j,n=j+1:=⟨n-1,by omega⟩
   have o:l[k]? = some x:=by
    have:=congrArg List.head? c;rw [List.head?_drop] at this;simpa using this
   have h:k<l.length:=(List.getElem?_eq_some_iff.1 o).1
   have g:l.drop (k+1)=m:=by
    have:=congrArg List.tail c;rw [List.tail_drop] at this;simpa using this
   obtain ⟨b,u,q,y⟩:=hc k x m a c o h hi;rw [BL u,y];exact w (k+1) n b g (by omega) (by simp at e;omega) q
 exact d l 0 _ a (by simp) (by omega) (by omega) hi
def Ce:B0->List AD->B0
 | s,[]=>s
 | s,x::l=>Ce (true,(x.1,s.2.2)) l
theorem TB {β:Type} {out:List AD} {n:Nat} (h:out.length<=n) (a:n<=20000) (x:AD) (k:Unit->Option β):gd (BP (Ag (AA out) (AA [x])) 1048576) k=k ():=Bj (by simp only [Ag,AA,List.length_cons,List.length_nil];omega) k
theorem Zw {l:List AD} {b:Bool} (C:l.length<=20000) (y:ON (false,([],b)) l):Eg (l,b)=some (E1 (false,([],b)) l,(0,0)):=by
 unfold Eg Cq;simp only [AX,AR];rw [Am,if_neg (by omega),AB]
 rw [DS (l:=l) (σ:=B0×List AD) (s:=(0,(0,(0,((false,([],b)),[]))))) (λk a=>((0:Int),((k:Int),((0:Int),a))))
  (λm k a=>ON a.1 m/\a.1.2.1.length<=32/\(a.1.1=false->a.1.2.1=[])/\a.2.length<=k/\k+m.length=l.length)
  (λm k a=>(1,((0,((l.length:Int),(0,(Ce a.1 m,a.2++E1 a.1 m)))),()))) ((false,([],b)),[]) rfl (by omega) ⟨y,by simp,λ_=>rfl,by simp,by simp⟩ ?_ ?_,AB]
 ·simp;rfl
 ·intro a _;simp only;rw [re,Av];simp [Ce,E1]
 ·rintro k x m ⟨s,out⟩ B w z ⟨⟨e,d,j⟩,q,o,t,n⟩;simp only at e d j q o t ⊢;refine ⟨((true,(x.1,s.2.2)),out++if keep s x=true then [x] else []),?_,⟨j,QK e,(λh=>by cases h),?_,by simp at n;omega⟩,?_⟩
  ·rw [rl z,AU,AE,AL w,QJ q o,AB,AP,if_pos rfl,HN,e,AB,AP,if_pos rfl];unfold keep BJ;obtain ⟨s1,s2,g⟩:=s;obtain ⟨f,i,c,u⟩:=x;simp only [AB,Ao w (show l.length<=9223372036854775807 by omega)] at d ⊢;have p : ∀ {β:Type} (k:Unit->Option β),gd (BP (Ag out.length [(f,(i,(c,u)))].length) 1048576) k=k ():=λk=>TB t (by simp at n;omega) (f,(i,(c,u))) k;cases s1 with
   | true =>
    have A:=d rfl;simp only [AU,Av,FL,A,p];by_cases r:f=s2
    ·simp [r]
    ·simp only [r,if_false,decide_false];cases g<;>cases c<;>simp [AU,Av,Bu]
   | false =>
    simp only [AU,Av,p];cases g<;>cases c<;>simp [AU,Av,Bu]
  ·split<;>simp<;>omega
  ·simp only [Ce,E1,List.append_assoc]
end Go.Proofs.YtfilfloanndddaaGreat.Pl
namespace Go.Proofs.YtfilfloanndddaaGreat.Pl
open Go Go.Proofs.YtfilfloanndddaaGreat.Sv
theorem U1 : ∀ (l:List AD) (s:B0) (x:AD),E1 s (l++[x])=E1 s l++(if keep (Ce s l) x=true then [x] else [])
 | [],s,x=>by
  show (if keep s x=true then [x] else [])++[]=[]++(if keep s x=true then [x] else [])
  rw [List.append_nil,List.nil_append]
 | y::l,s,x=>by
  show (if keep s y=true then [y] else [])++E1 _ (l++[x])=((if keep s y=true then [y] else [])++E1 _ l)++_
  rw [U1 l,List.append_assoc];rfl
theorem LW : ∀ (l:List AD) (s:B0) (x:AD),Ce s (l++[x])=(true,(x.1,(Ce s l).2.2))
 | [],s,x=>rfl
 | y::l,s,x=>by simp only [List.cons_append,Ce,LW l]
theorem G2 : ∀ (l:List AD) (s:B0),(Ce s l).2.2=s.2.2
 | [],s=>rfl
 | y::l,s=>by rw [Ce,G2 l]
theorem U2 : ∀ (l:List AD) (s:B0) (x:AD),ON s l->kE x=0->((Ce s l).1=true->Cy x.1 (Ce s l).2.1=false)->ON s (l++[x])
 | [],s,x,_,b,a=>⟨b,a,trivial⟩
 | y::l,s,x,⟨b,a,d⟩,c,h5=>⟨b,a,U2 l _ x d c h5⟩
theorem Rq : ∀ (l:List AD) (s:B0),ON s l->s.2.1.length<=32->(s.1=false->s.2.1=[])->(Ce s l).2.1.length<=32/\((Ce s l).1=false->(Ce s l).2.1=[])
 | [],s,_,h1,h2=>⟨h1,h2⟩
 | y::l,s,⟨b,_,a⟩,_,_=>Rq l _ a (QK b) (λh=>by cases h)
abbrev s0 (a:Bool):B0:=(false,([],a))
def DY (a b:List AD) (c:Bool) (n:Nat):H3:=(MT a b n,(Ce (s0 c) (A3 a b n),(E1 (s0 c) (A3 a b n),(n:Int))))
def IT (a b:List AD):Nat->List Int
 | 0=>[]
 | n+1=>IT a b n++[(QH a b n:Int)]
theorem OO (a b:List AD) : ∀ n,(IT a b n).length=n
 | 0=>rfl
 | n+1=>by simp [IT,OO a b n]
theorem JT {S β:Type} {f:S->Option (LR S β)} {r:β} (mk:Nat->S) (a n:Nat) {s:S} (b:s=mk a) (c:a<=n) (e:n<18446744073709551616) (hs : ∀ k,a<=k->k<n->f (mk k)=some (.nx (mk (k+1)))) (d:f (mk n)=some (.dn r)):loop f s=some r:=by
 have h:=IR (f:=f) (r:=r) (λk=>mk (a+k)) (n-a) (s:=s) b (by omega) (λk c=>hs (a+k) (by omega) (by omega)) (by show f (mk (a+(n-a)))=_;rw [show a+(n-a)=n by omega];exact d);exact h
theorem QL (l:List AD) (h:l.length<=100000):D8 (l,l)=some true:=by
 unfold D8;simp only [AX,AR]
 rw [AP,if_pos rfl,NQ (l:=l) (σ:=Unit) (s:=(false,0)) (λk _=>(false,(k:Int))) (λ_ _ _=>some (1,((false,(l.length:Int)),()))) () rfl (by omega) (λb=>by
  simp only;rw [re];rfl) (λk x m b _ a c => .inl ⟨(),by
   simp only;rw [rl c,AU,AE,AL a,AE,AL a,J2,J2,Ip,show A8 x.2.2.2 x.2.2.2=true by unfold A8;simp,show Ad (Az true (Az true (Az true (Az true true))))=false from rfl,Av,Ao a (by omega)],rfl⟩),AB]
 rfl
section
variable {a b:List AD} (va:VL a) (vb:VL b)
include va vb
theorem GG {n:Nat} {x:AD} (c:Ox a b n=some x):A3 a b (n+1)=A3 a b n++[x]:=by
 show (match Ox a b n with
  | some x=>A3 a b n++[x]
  | none=>A3 a b n)=_
 rw [c]
theorem HP (d:Bool) : ∀ {n:Nat},n<=a.length+b.length->ON (s0 d) (A3 a b n)
 | 0,_=>trivial
 | n+1,h=>by
  obtain ⟨x,c,_⟩:=EB va vb (n:=n) (by omega);rw [GG va vb c];refine U2 _ _ _ (HP d (by omega)) (dX va vb c) λ_ => ?_;cases n with
  | zero=>rename_i f;cases f
  | succ m =>
   obtain ⟨y,e,_⟩:=EB va vb (n:=m) (by omega);rw [GG va vb e,LW];exact Ye va vb (by omega) e c
theorem Wg (c:Bool) {n:Nat} (h:n<=a.length+b.length):(Ce (s0 c) (A3 a b n)).2.1.length<=32/\((Ce (s0 c) (A3 a b n)).1=false->(Ce (s0 c) (A3 a b n)).2.1=[]) :=
 Rq _ _ (HP va vb c h) (by simp) (λ_=>rfl)
theorem kz {n:Nat} (h:n=a.length+b.length):(wk (kx a (Ap a b n).1) (kx b (Ap a b n).2)).2=true:=by
 obtain ⟨c,hs⟩:=FM va vb (n:=n) (by omega);have e:=c.ia;have d:=c.jb;rw [NS (List.getElem?_eq_none (by omega)),NS (List.getElem?_eq_none (by omega))];rfl
theorem lA {n:Nat} {x:AD} (c:Ox a b n=some x):(wk (kx a (Ap a b n).1) (kx b (Ap a b n).2)).2=false/\wn (kx a (Ap a b n).1) (kx b (Ap a b n).2)=QH a b n:=by
 unfold Ox at c;unfold QH;cases g:H8 a b (Ap a b n).1 (Ap a b n).2 with
 | true=>rw [if_pos g] at c;rw [(Zt g).1,(Zt g).2,G1 c];exact ⟨rfl,rfl⟩
 | false=>rw [if_neg (by simp [g])] at c;rw [(Zu g).1,(Zu g).2,G1 c];exact ⟨rfl,rfl⟩
theorem lB:Hl [a,b]=some (A3 a b (a.length+b.length),(IT a b (a.length+b.length),0)):=by
 have t:=va.len;have w:=vb.len;unfold Hl;rw [MS va vb,AB,AP,if_pos rfl];refine Eq.trans (b:=bd (loop _ (0,[([],false),([],false)])) _) rfl ?_;refine BH (x:=(0,((2,[kx a 0,kx b 0]),()))) (Cu (s1:=(1,[kx a 0,([],false)])) (s2:=(2,[kx a 0,kx b 0])) ?_ ?_ rfl) ?_
 ·show bd (BS (a,((0:Nat):Int))) _=_;rw [Hc (by omega)];rfl
 ·show bd (BS (b,((0:Nat):Int))) _=_;rw [Hc (by omega)];rfl
 rw [show ((0:Nat),(((2:Int),[kx a 0,kx b 0]),())).2.1.2=[kx a 0,kx b 0] from rfl,OM (Bo _ _) (Bo _ _),AB]
 refine BH (x:=(0,((A3 a b (a.length+b.length),(IT a b (a.length+b.length),((),([((Ap a b (a.length+b.length)).1:Int),((Ap a b (a.length+b.length)).2:Int)],Tt (kx a (Ap a b (a.length+b.length)).1) (kx b (Ap a b (a.length+b.length)).2))))),())))
  (JT (λk=>(A3 a b k,(IT a b k,((),([((Ap a b k).1:Int),((Ap a b k).2:Int)],Tt (kx a (Ap a b k).1) (kx b (Ap a b k).2)))))) 0 (a.length+b.length) rfl (by omega) (by omega) (λk _ s => ?_) ?_) rfl
 ·obtain ⟨x,c,_⟩:=EB va vb (n:=k) s;obtain ⟨j,r⟩:=lA va vb c;obtain ⟨u,hs⟩:=FM va vb (n:=k) (by omega);have i:(A3 a b k).length=k:=C4 va vb (by omega);have h:=OO a b k;simp only;rw [IS (Bo _ _) (Bo _ _),if_neg (by simp [j]),AB,AP,if_pos rfl,r];rw [GG va vb c];unfold Ox at c;rw [show IT a b (k+1)=IT a b k++[(QH a b k:Int)] from rfl];unfold QH;rw [show Ap a b (k+1)=if H8 a b (Ap a b k).1 (Ap a b k).2=true then ((Ap a b k).1+1,(Ap a b k).2) else ((Ap a b k).1,(Ap a b k).2+1) from rfl]
  have l : ∀ {β:Type} (y:AD) (q:Unit->Option β),gd (BP (Ag (AA (A3 a b k)) (AA [y])) 1048576) q=q ():=λy q=>Bj (by simp only [Ag,AA,i,List.length_cons,List.length_nil];omega) q;have o : ∀ {β:Type} (y:Int) (q:Unit->Option β),gd (BP (Ag (AA (IT a b k)) (AA [y])) 1048576) q=q ():=λy q=>Bj (by simp only [Ag,AA,h,List.length_cons,List.length_nil];omega) q;cases g:H8 a b (Ap a b k).1 (Ap a b k).2 with
  | true =>
   rw [if_pos g] at c;obtain ⟨e,_⟩:=Zt g;obtain ⟨m,f⟩:=Io (p:=kx a (Ap a b k).1) (q:=kx b (Ap a b k).2) (k:=kx a ((Ap a b k).1+1)) (Bo _ _) (Bo _ _) (Bo _ _) j (by rw [e,G1 c];exact PL va c)
   have d:rk (kx a (Ap a b k).1) (kx b (Ap a b k).2) (kx a ((Ap a b k).1+1))=(kx a ((Ap a b k).1+1),kx b (Ap a b k).2):=by
    unfold rk;unfold H8 at g;rw [if_pos g]
   rw [d] at f;have hi:=(List.getElem?_eq_some_iff.1 c).1;simp only [if_true];refine (Kv 0 rfl (x:=a) rfl).trans ((Kv 0 rfl (x:=((Ap a b k).1:Int)) rfl).trans ((FN _ rfl c).trans ?_));rw [l,o];refine (Kv 0 rfl (x:=((Ap a b k).1:Int)) rfl).trans ((Kv 0 rfl (x:=((Ap a b k).1:Int)) rfl).trans ((Kv 0 rfl (x:=a) rfl).trans ((Kv 0 rfl (x:=AI .i64 ((Ap a b k).1:Int) 1) rfl).trans ?_)));rw [Af (by omega),Hc (by omega),AB,f,AB];rfl
  | false =>
   rw [if_neg (by simp [g])] at c;obtain ⟨e,_⟩:=Zu g;obtain ⟨m,f⟩:=Io (p:=kx a (Ap a b k).1) (q:=kx b (Ap a b k).2) (k:=kx b ((Ap a b k).2+1)) (Bo _ _) (Bo _ _) (Bo _ _) j (by rw [e,G1 c];exact PL vb c)
   have d:rk (kx a (Ap a b k).1) (kx b (Ap a b k).2) (kx b ((Ap a b k).2+1))=(kx a (Ap a b k).1,kx b ((Ap a b k).2+1)):=by
    unfold rk;unfold H8 at g;rw [if_neg (by simp [g])]
   rw [d] at f;have hi:=(List.getElem?_eq_some_iff.1 c).1;simp only [Bool.false_eq_true,if_false];refine (Kv 1 rfl (x:=b) rfl).trans ((Kv 1 rfl (x:=((Ap a b k).2:Int)) rfl).trans ((FN _ rfl c).trans ?_));rw [l,o];refine (Kv 1 rfl (x:=((Ap a b k).2:Int)) rfl).trans ((Kv 1 rfl (x:=((Ap a b k).2:Int)) rfl).trans ((Kv 1 rfl (x:=b) rfl).trans ((Kv 1 rfl (x:=AI .i64 ((Ap a b k).2:Int) 1) rfl).trans ?_)));rw [Af (by omega),Hc (by omega),AB,f,AB];rfl
 ·simp only;rw [IS (Bo _ _) (Bo _ _),if_pos (kz va vb rfl),AB,AP,if_neg (by decide),AP,if_neg (by decide)]
end
end Go.Proofs.YtfilfloanndddaaGreat.Pl
namespace Go.Proofs.YtfilfloanndddaaGreat.Pl
open Go Go.Proofs.YtfilfloanndddaaGreat.Sv
theorem Yh {β:Type} {out:List AD} {n:Nat} (h:out.length<=n) (a:n<=20000) (x:AD) (k:Unit->Option β):gd (BP (Ag out.length [x].length) 1048576) k=k ():=TB h a x k
section
variable {a b:List AD} (va:VL a) (vb:VL b)
include va vb
theorem Hx {n:Nat} (h:n<=a.length+b.length):(A3 a b (a.length+b.length)).take n=A3 a b n:=Wa va vb (Nat.le_refl _) h
theorem Kw {n:Nat} {x:AD} (c:Bool) (d:Ox a b n=some x):Ce (s0 c) (A3 a b (n+1))=(true,(x.1,c)):=by
 rw [GG va vb d,LW,G2]
theorem Wh (c:Bool) {n:Nat} (h:n<=a.length+b.length):FC (DY a b c n)=some 0:=by
 obtain ⟨f,hs⟩:=FM va vb (n:=n) h;have i:=va.len;have j:=vb.len;have e:=JS (s0 c) (A3 a b n);have g:(A3 a b n).length=n:=C4 va vb h;unfold FC;rw [show (DY a b c n).1=Mb a b (Ap a b n).1 (Ap a b n).2 from rfl,LV va vb f,AB,AP,if_pos rfl];refine BH (x:=(0,((2,(n:Int)),()))) (Cu (s1:=(1,((Ap a b n).1:Int))) (s2:=(2,(n:Int))) ?_ ?_ rfl) ?_
 ·refine (O5 0 rfl rfl (x:=((Ap a b n).1:Int)) rfl).trans ?_;show some (LR.nx ((1:Int),AI .i64 0 ((Ap a b n).1:Int)))=_;rw [DV (by omega),Int.zero_add]
 ·refine (O5 1 rfl rfl (x:=((Ap a b n).2:Int)) rfl).trans ?_;show some (LR.nx ((2:Int),AI .i64 ((Ap a b n).1:Int) ((Ap a b n).2:Int)))=_;rw [DV (by omega),show ((Ap a b n).1:Int)+((Ap a b n).2:Int)=(n:Int) by omega]
 simp only [AX,AR];rw [show (DY a b c n).2.2.1=E1 (s0 c) (A3 a b n) from rfl,show (DY a b c n).2.2.2=(n:Int) from rfl,show (DY a b c n).2.1=Ce (s0 c) (A3 a b n) from rfl,Am,if_neg (by omega),Am,if_neg (by omega),AP,if_pos rfl];rw [show (Mb a b (Ap a b n).1 (Ap a b n).2).1=[a,b] from rfl,lB va vb,AB,AP,if_pos rfl,AE];rw [Bj (by rw [C4 va vb (Nat.le_refl _)];exact h),Bj (Nat.zero_le _)];rw [show EI (A3 a b (a.length+b.length)) 0 n=A3 a b n from by unfold EI;rw [List.drop_zero,Nat.sub_zero];exact Hx va vb h,G2];rw [show (s0 c).2.2=c from rfl,Zw (by omega) (HP va vb c h),AB,AP,if_pos rfl];unfold Cq;rw [AB,Am];cases n with
 | zero =>
  rw [if_neg (by omega),QL _ (by omega),AB,MQ,Av];show br (Ad (Az (Sv.beq false false) (Az (seq [] []) (Az (Sv.beq c c) true)))) _ _=_;rw [Ip,Ip,J2];rfl
 | succ m =>
  obtain ⟨x,d,_⟩:=EB va vb (n:=m) (by omega);rw [if_pos (by omega),show CA .i64 ((m+1:Nat):Int) 1=(m:Int) by rw [CR (by omega)];omega,AE];rw [AL (x:=x) (by rw [JR va vb (Nat.le_refl _) (by omega)];exact d),QL _ (by omega),AB,MQ,Av,Kw va vb c d];rw [Ip,Ip,J2];rfl
theorem de {n:Nat} (h:n<=a.length+b.length):Gq (MT a b n)=some (((a.length+b.length-n:Nat):Int),0):=by
 obtain ⟨c,hs⟩:=FM va vb (n:=n) h;have f:=va.len;have d:=vb.len;have g:=c.ia;have e:=c.jb;unfold Gq;rw [show MT a b n=Mb a b (Ap a b n).1 (Ap a b n).2 from rfl,LV va vb c,AB,AP,if_pos rfl];refine BH (x:=(0,((2,((a.length+b.length-n:Nat):Int)),()))) (Cu (s1:=(1,(a.length:Int)-((Ap a b n).1:Int))) (s2:=(2,((a.length+b.length-n:Nat):Int))) ?_ ?_ rfl) rfl
 ·refine (O5 0 rfl rfl (x:=a) rfl).trans ((FN 0 rfl (x:=((Ap a b n).1:Int)) rfl).trans ?_);simp only [AX,AR];rw [CR (by omega)];show some (LR.nx ((1:Int),AI .i64 0 ((a.length:Int)-((Ap a b n).1:Int))))=_;rw [DV (by omega),Int.zero_add]
 ·refine (O5 1 rfl rfl (x:=b) rfl).trans ((FN 1 rfl (x:=((Ap a b n).2:Int)) rfl).trans ?_);simp only [AX,AR];rw [CR (by omega)];show some (LR.nx ((2:Int),AI .i64 ((a.length:Int)-((Ap a b n).1:Int)) ((b.length:Int)-((Ap a b n).2:Int))))=_;rw [DV (by omega),show (a.length:Int)-((Ap a b n).1:Int)+((b.length:Int)-((Ap a b n).2:Int))=((a.length+b.length-n:Nat):Int) by omega]
theorem OP (c:Bool) {n:Nat} (h:n<=a.length+b.length):Bp (DY a b c n)=some (((a.length+b.length-n:Nat):Int),0):=by
 unfold Bp;rw [Wh va vb c h,AB,AP,if_pos rfl,show (DY a b c n).1=MT a b n from rfl,de va vb h];rfl
theorem QM (c:Bool) {n:Nat} {x:AD} (d:Ox a b n=some x):DY a b c (n+1)=(MT a b (n+1),((true,(x.1,c)),(E1 (s0 c) (A3 a b n)++(if keep (Ce (s0 c) (A3 a b n)) x=true then [x] else []),((n+1:Nat):Int)))):=by
 unfold DY;rw [GG va vb d,LW,G2,U1]
theorem J3 (c:Bool) {n:Nat} {x:AD} (h:n<a.length+b.length) (e:Ox a b n=some x):CO (Ce (s0 c) (A3 a b n),x)=some (keep (Ce (s0 c) (A3 a b n)) x,((true,(x.1,c)),0)):=by
 have d:=Wg va vb c (n:=n) (by omega);rw [Zv d.1 d.2 (dX va vb e),G2];intro g;cases n with
 | zero=>cases g
 | succ m =>
  obtain ⟨y,f,_⟩:=EB va vb (n:=m) (by omega);rw [Kw va vb c f];exact Ye va vb (by omega) f e
def lz (k:Int) (s:H3):Int×(Int×(List (List AD)×(List Int×(List AN×(List Int×(Int×(Bool×(Hn×(Bool×(List AD×Int)))))))))) :=
 (k,(0,(s.1.1,(s.1.2.1,(s.1.2.2.1,(s.1.2.2.2.1,(s.1.2.2.2.2,(s.2.1.1,(s.2.1.2.1,(s.2.1.2.2,(s.2.2.1,s.2.2.2)))))))))))
theorem Rr (c:Bool) {n:Nat} (h:n<=a.length+b.length) {k:Nat}:CC (DY a b c n,(k:Int))=some (DY a b c (n+min k (a.length+b.length-n)),(((min k (a.length+b.length-n):Nat):Int),0)):=by
 have w:=va.len;have z:=vb.len;have d : ∀ m,m<=a.length+b.length->(E1 (s0 c) (A3 a b m)).length<=m:=λm r=>by have:=JS (s0 c) (A3 a b m);have:=C4 va vb r;omega
 obtain ⟨u,t⟩ : ∃ u,u=min k (a.length+b.length-n):=⟨_,rfl⟩
 have o:Ok (k:Int) ((a.length+b.length-n:Nat):Int)=(u:Int):=by
  unfold Ok;split<;>omega
 rw [<- t];unfold CC;rw [OP va vb c h,AB,AP,if_pos rfl];simp only [o,AX,AR];rw [A1,if_neg (by omega),show (DY a b c n).2.2.2=(n:Int) from rfl,DV (by omega),Am,if_neg (by omega)];rw [show (DY a b c n).2.2.1=E1 (s0 c) (A3 a b n) from rfl,show (DY a b c n).1=MT a b n from rfl,Bj (by have:=d n h;omega),Bj (show (MT a b n).2.1.length<=1048576 from (show 2<=1048576 by omega)),A1];by_cases s:u=0
 ·rw [s,if_neg (by omega)];rfl
 rw [if_pos (by omega)];obtain ⟨x,l,_⟩:=EB va vb (n:=n) (by omega);rw [QI va vb (by omega) l,AB,AP,if_pos rfl,show (DY a b c n).2.1=Ce (s0 c) (A3 a b n) from rfl,J3 va vb c (by omega) l,AB,AP,if_pos rfl]
 have p : ∀ j,1<=j->j<u -> ∃ y,Ox a b (n+j)=some y:=λj g f=>by
  obtain ⟨y,e,_⟩:=EB va vb (n:=n+j) (by omega);exact ⟨y,e⟩
 rw [Es];have hS:=QM va vb c l;cases q:keep (Ce (s0 c) (A3 a b n)) x with
 | true =>
  rw [q] at hS;rw [if_pos rfl,Yh (d n h) (by omega)];refine BH (x:=(1,(lz u (DY a b c (n+u)),()))) (JT (λj=>lz j (DY a b c (n+j))) 1 u ?_ (by omega) (by omega) (λj g f => ?_) ?_) ?_
  ·rw [hS,show AI .i64 (n:Int) 1=((n+1:Nat):Int) from Af (by omega)];rfl
  ·obtain ⟨y,e⟩:=p j g f;show br (Ak (j:Int) (u:Int)) _ _=_;rw [A1,if_pos (by omega)];show bd (CF (MT a b (n+j))) _=_;rw [QI va vb (by omega) e,AB,AP,if_pos rfl];show bd (CO (Ce (s0 c) (A3 a b (n+j)),y)) _=_;rw [J3 va vb c (by omega) e,AB,AP,if_pos rfl,Es,show n+(j+1)=n+j+1 by omega,QM va vb c e];cases i:keep (Ce (s0 c) (A3 a b (n+j))) y with
   | true =>
    rw [if_pos rfl,if_pos rfl];show gd (BP (Ag (AA (E1 (s0 c) (A3 a b (n+j)))) (AA [y])) 1048576) _=_;rw [TB (d _ (by omega)) (by omega)];show some (LR.nx (AI .i64 (j:Int) 1,_))=_;unfold lz;simp only [Af (show j+1<=9223372036854775807 by omega),Bu];rw [show AI .i64 (DY a b c (n+j)).2.2.2 1=((n+j+1:Nat):Int) from Af (by omega)];rfl
   | false =>
    rw [if_neg (by simp),if_neg (by simp)];show some (LR.nx (AI .i64 (j:Int) 1,_))=_;unfold lz;simp only [Af (show j+1<=9223372036854775807 by omega)];rw [show AI .i64 (DY a b c (n+j)).2.2.2 1=((n+j+1:Nat):Int) from Af (by omega),List.append_nil];rfl
  ·show br (Ak (u:Int) (u:Int)) _ _=_;rw [A1,if_neg (by omega)]
  ·rfl
 | false =>
  rw [q] at hS;rw [if_neg (by simp)];refine BH (x:=(1,(lz u (DY a b c (n+u)),()))) (JT (λj=>lz j (DY a b c (n+j))) 1 u ?_ (by omega) (by omega) (λj g f => ?_) ?_) ?_
  ·rw [hS,show AI .i64 (n:Int) 1=((n+1:Nat):Int) from Af (by omega),if_neg (by simp),List.append_nil];rfl
  ·obtain ⟨y,e⟩:=p j g f;show br (Ak (j:Int) (u:Int)) _ _=_;rw [A1,if_pos (by omega)];show bd (CF (MT a b (n+j))) _=_;rw [QI va vb (by omega) e,AB,AP,if_pos rfl];show bd (CO (Ce (s0 c) (A3 a b (n+j)),y)) _=_;rw [J3 va vb c (by omega) e,AB,AP,if_pos rfl,Es,show n+(j+1)=n+j+1 by omega,QM va vb c e];cases i:keep (Ce (s0 c) (A3 a b (n+j))) y with
   | true =>
    rw [if_pos rfl,if_pos rfl];show gd (BP (Ag (AA (E1 (s0 c) (A3 a b (n+j)))) (AA [y])) 1048576) _=_;rw [TB (d _ (by omega)) (by omega)];show some (LR.nx (AI .i64 (j:Int) 1,_))=_;unfold lz;simp only [Af (show j+1<=9223372036854775807 by omega),Bu];rw [show AI .i64 (DY a b c (n+j)).2.2.2 1=((n+j+1:Nat):Int) from Af (by omega)];rfl
   | false =>
    rw [if_neg (by simp),if_neg (by simp)];show some (LR.nx (AI .i64 (j:Int) 1,_))=_;unfold lz;simp only [Af (show j+1<=9223372036854775807 by omega)];rw [show AI .i64 (DY a b c (n+j)).2.2.2 1=((n+j+1:Nat):Int) from Af (by omega),List.append_nil];rfl
  ·show br (Ak (u:Int) (u:Int)) _ _=_;rw [A1,if_neg (by omega)]
  ·rfl
end
end Go.Proofs.YtfilfloanndddaaGreat.Pl
namespace Go.Proofs.YtfilfloanndddaaGreat.Pl
open Go Go.Proofs.YtfilfloanndddaaGreat.Sv
theorem GH {α β σ S:Type} {l:List α} (mk:Nat->σ->S) (I:List α->Nat->σ->Prop) (Q:β->Prop) {f:S->Option (LR S β)} {s:S} (a:σ) (u:s=mk 0 a) (z:l.length<=9223372036854775807) (hi:I l 0 a)
  (t : ∀ a,I [] l.length a -> ∃ r,f (mk l.length a)=some (.dn r)/\Q r)
  (hc : ∀ k x m a,l.drop k=x::m->l[k]? = some x->k<l.length->I (x::m) k a->(∃ b,f (mk k a)=some (.nx (mk (k+1) b))/\I m (k+1) b) \/ ∃ r,f (mk k a)=some (.dn r)/\Q r) : ∃ r,loop f s=some r/\Q r:=by
 subst u
 have d : ∀ (m:List α) (k n:Nat) (a:σ),l.drop k=m->k<=l.length->m.length<n->I m k a -> ∃ r,Di n f (mk k a)=some r/\Q r:=by
  intro m
  induction m with
  | nil =>
   intro k n a c w g hi;obtain ⟨n,rfl⟩ : ∃ j,n=j+1:=⟨n-1,by omega⟩
   have p:k=l.length:=by
    have:=congrArg List.length c;simp at this;omega
   subst p;obtain ⟨r,h,e⟩:=t a hi;exact ⟨r,BY h,e⟩
  | cons x m y =>
   intro k n a c w g hi;obtain ⟨n,rfl⟩ : ∃ j,n=j+1:=⟨n-1,by omega⟩
   have q:l[k]? = some x:=by
    have:=congrArg List.head? c;rw [List.head?_drop] at this;simpa using this
   have o:k<l.length:=(List.getElem?_eq_some_iff.1 q).1
   have i:l.drop (k+1)=m:=by
    have:=congrArg List.tail c;rw [List.tail_drop] at this;simpa using this
   rcases hc k x m a c q o hi with ⟨b,h,e⟩ | ⟨r,h,e⟩
   ·rw [BL h];exact y (k+1) n b i (by omega) (by simp at g;omega) e
   ·exact ⟨r,BY h,e⟩
 exact d l 0 _ a (by simp) (by omega) (by omega) hi
theorem JU {α:Type} (l m:List α) (g:l.length=m.length) (n:l.length<=9223372036854775806) {f:(Int×Bool)->Option (LR (Int×Bool) (Nat×((Int×Bool)×Unit)))}
  (hs : ∀ (k:Nat) x y,l[k]? = some x->m[k]? = some y->(x=y->f ((k:Int),false)=some (.nx (((k+1:Nat):Int),false)))/\(x≠y->f ((k:Int),false)=some (.dn (0,(((k:Int),false),())))))
  (j:f ((l.length:Int),false)=some (.dn (1,(((l.length:Int),false),())))) :
  ∃ r,loop f (0,false)=some r/\((l=m/\r.1=1)\/(l≠m/\r.1=0/\r.2.1.2=false)):=by
 refine GH (l:=l) (σ:=Unit) (λk _=>((k:Int),false)) (λt k _=>t=l.drop k/\l.take k=m.take k) _ () rfl (by omega) ⟨by simp,by simp⟩ (λi h => ?_) (λk x t i d b o h => ?_)
 ·refine ⟨_,j,.inl ⟨?_,rfl⟩⟩;have:=h.2;rw [List.take_length,g,List.take_length] at this;exact this
 ·have c:k<m.length:=by omega
  have a:m[k]? = some m[k]:=by simp [c]
  by_cases e:x=m[k]
  ·refine .inl ⟨(),(hs k x m[k] b a).1 e,?_,?_⟩
   ·have:=congrArg List.tail d;rw [List.tail_drop] at this;simp at this;exact this.symm
   ·rw [List.take_add_one,List.take_add_one,h.2,b,a,e]
  ·refine .inr ⟨_,(hs k x m[k] b a).2 e,.inr ⟨?_,rfl,rfl⟩⟩;intro e2;subst e2;rw [b] at a;exact e (Option.some.inj a)
theorem beq_eq (a b:Bool):Sv.beq a b=decide (a=b):=by cases a<;>cases b<;>rfl
theorem Db (a b:Int):A8 a b=decide (a=b):=by
 unfold A8;by_cases h:a=b<;>simp [h]
theorem J4 (p q:Prop) [Decidable p] [Decidable q]:Az (decide p) (decide q)=decide (p/\q):=by unfold Az;simp
theorem C5 (p:Prop) [Decidable p]:Ad (decide p)=decide (¬ p):=by unfold Ad;simp
theorem NT (a:Bool):Az a true=a:=by cases a<;>rfl
theorem Zx (l m:List AN) (p:l.length<=9223372036854775806):As (l,m)=some (decide (l=m)):=by
 unfold As;simp only [AX,AR];rw [AP];by_cases d:(l.length:Int)=(m.length:Int)
 ·rw [if_pos d];have b:l.length=m.length:=by omega
  obtain ⟨r,q,a⟩:=JU l m b p (f:=λs0=>br (Ak s0.1 (l.length:Int)) (λ_=>AT s0.1 λt=>ix l t λi=>AT s0.1 λs=>ix m s λg=>br (Ad (Az (seq i.1 g.1) (Az (Sv.beq i.2 g.2) true))) (λ_=>some (.dn ((0,((s0.1,false),()))))) λ_=>some (.nx (AI .i64 s0.1 1,s0.2))) λ_=>some (.dn ((1,(s0,()))))) (λk x y c o=>by
    have j:=(List.getElem?_eq_some_iff.1 c).1
    have n : ∀ {β:Type} (u v:Unit->Option β),br (Ad (Az (seq x.1 y.1) (Az (Sv.beq x.2 y.2) true))) u v=if x=y then v () else u ():=by
     intro β u v;rw [NT,MP,beq_eq,J4,C5,C9];by_cases e:x=y
     ·subst e;simp
     ·rw [if_pos (λh=>e (Prod.ext h.1 h.2)),if_neg e]
    constructor
    ·intro e;simp only;rw [rl j,AU,AE,AL c,AE,AL o,n,if_pos e,Af (by omega)]
    ·intro e;simp only
     rw [rl j,AU,AE,AL c,AE,AL o,n,if_neg e]) (by simp only;rw [re];rfl)
  refine BH q ?_;rcases a with ⟨e,a⟩ | ⟨e,a,w⟩
  ·rw [Cc,a];simp [e]
  ·rw [Cc,a];simp [e,w]
 ·rw [if_neg d];have : ¬ l=m:=λe=>d (by rw [e]);simp [this]
theorem JV (l m:List Int) (j:l.length<=9223372036854775806):Ah (l,m)=some (decide (l=m)):=by
 unfold Ah;simp only [AX,AR];rw [AP];by_cases d:(l.length:Int)=(m.length:Int)
 ·rw [if_pos d];have b:l.length=m.length:=by omega
  obtain ⟨r,n,a⟩:=JU l m b j (f:=λs0=>br (Ak s0.1 (l.length:Int)) (λ_=>AT s0.1 λq=>ix l q λo=>AT s0.1 λp=>ix m p λi=>br (Ay o i) (λ_=>some (.dn ((0,((s0.1,false),()))))) λ_=>some (.nx (AI .i64 s0.1 1,s0.2))) λ_=>some (.dn ((1,(s0,()))))) (λk x y c h=>by
    have g:=(List.getElem?_eq_some_iff.1 c).1;constructor
    ·intro e;simp only;rw [rl g,AU,AE,AL c,AE,AL h,AP,if_pos e,Af (by omega)]
    ·intro e;simp only
     rw [rl g,AU,AE,AL c,AE,AL h,AP,if_neg e]) (by simp only;rw [re];rfl)
  refine BH n ?_;rcases a with ⟨e,a⟩ | ⟨e,a,s⟩
  ·rw [Cc,a];simp [e]
  ·rw [Cc,a];simp [e,s]
 ·rw [if_neg d];have : ¬ l=m:=λe=>d (by rw [e]);simp [this]
theorem QN {β:Type} (x y:AD) (u v:Unit->Option β):br (Ad (Az (seq x.1 y.1) (Az (seq x.2.1 y.2.1) (Az (Sv.beq x.2.2.1 y.2.2.1) (Az (A8 x.2.2.2 y.2.2.2) true))))) u v=if x=y then v () else u ():=by
 rw [NT,MP,MP,beq_eq,Db,J4,J4,J4,C5,C9];by_cases e:x=y
 ·subst e;simp
 ·rw [if_pos (λh=>e (Prod.ext h.1 (Prod.ext h.2.1 (Prod.ext h.2.2.1 h.2.2.2)))),if_neg e]
theorem G3 (l m:List AD) (n:l.length<=9223372036854775806):Bd (l,m)=some (decide (l=m)):=by
 unfold Bd;simp only [AX,AR];rw [AP];by_cases h:(l.length:Int)=(m.length:Int)
 ·rw [if_pos h];have d:l.length=m.length:=by omega
  obtain ⟨r,o,a⟩:=JU l m d n (f:=λs0=>br (Ak s0.1 (l.length:Int)) (λ_=>AT s0.1 λq=>ix l q λc=>AT s0.1 λp=>ix m p λb=>br (Ad (Az (seq c.1 b.1) (Az (seq c.2.1 b.2.1) (Az (Sv.beq c.2.2.1 b.2.2.1) (Az (A8 c.2.2.2 b.2.2.2) true))))) (λ_=>some (.dn ((0,((s0.1,false),()))))) λ_=>some (.nx (AI .i64 s0.1 1,s0.2))) λ_=>some (.dn ((1,(s0,()))))) (λk x y g j=>by
    have i:=(List.getElem?_eq_some_iff.1 g).1;constructor
    ·intro e;simp only;rw [rl i,AU,AE,AL g,AE,AL j,QN,if_pos e,Af (by omega)]
    ·intro e;simp only
     rw [rl i,AU,AE,AL g,AE,AL j,QN,if_neg e]) (by simp only;rw [re];rfl)
  refine BH o ?_;rcases a with ⟨e,a⟩ | ⟨e,a,s⟩
  ·rw [Cc,a];simp [e]
  ·rw [Cc,a];simp [e,s]
 ·rw [if_neg h];have : ¬ l=m:=λe=>h (by rw [e]);simp [this]
theorem IU (l m:List AD) (a:l.length<=9223372036854775806):Bw (l,m)=some (decide (l=m)):=by
 unfold Bw;rw [G3 l m a];rfl
instance:DecidableEq AD:=inferInstance
instance:DecidableEq (List AD):=inferInstance
instance:DecidableEq (List (List AD)):=inferInstance
instance:DecidableEq AN:=inferInstance
instance:DecidableEq ET:=inferInstance
instance:DecidableEq AM:=inferInstance
instance:DecidableEq B0:=inferInstance
instance:DecidableEq H3:=inferInstance
theorem U3 (x y:H3) (o:x.1.1.length<=1000) (i : ∀ l∈x.1.1,l.length<=1000000) (z:x.1.2.1.length<=1000) (C:x.1.2.2.1.length<=1000) (B:x.1.2.2.2.1.length<=1000) (F:x.2.2.1.length<=1000000):Dj (x,y)=some (decide (x=y)):=by
 obtain ⟨⟨a,A,t,u,P⟩,⟨xs,X,M⟩,n,W⟩:=x;obtain ⟨⟨b,S,U,N,J⟩,⟨K,L,Z⟩,O,Y⟩:=y;simp only at o i z C B F;unfold Dj;simp only [AX,AR];rw [AP];by_cases h:(a.length:Int)=(b.length:Int)
 ·rw [if_pos h];have g:a.length=b.length:=by omega
  obtain ⟨r,D,c⟩:=JU a b g (by omega) (f:=λs0=>br (Ak s0.1 (a.length:Int)) (λ_=>AT s0.1 λp=>ix a p λq=>AT s0.1 λI=>ix b I λG=>bd (Bw (q,G)) λs=>br (Ad s) (λ_=>some (.dn ((0,((s0.1,false),()))))) λ_=>some (.nx (AI .i64 s0.1 1,s0.2))) λ_=>some (.dn ((1,(s0,()))))) (λk x y d m=>by
    have j:=(List.getElem?_eq_some_iff.1 d).1;have w:=i x (List.mem_of_getElem? d);constructor
    ·intro e;simp only;rw [rl j,AU,AE,AL d,AE,AL m,IU _ _ (by omega),AB,C5,C9,if_neg (by simp [e]),Af (by omega)]
    ·intro e;simp only
     rw [rl j,AU,AE,AL d,AE,AL m,IU _ _ (by omega),AB,C5,C9,if_pos e]) (by simp only;rw [re];rfl)
  refine BH D ?_;simp only [JV _ _ (show A.length<=9223372036854775806 by omega),JV _ _ (show u.length<=9223372036854775806 by omega),Zx _ _ (show t.length<=9223372036854775806 by omega),IU _ _ (show n.length<=9223372036854775806 by omega),AB,C9,Db,MP,beq_eq,NT,J4,Cc];rw [Es];rcases c with ⟨e,c⟩ | ⟨e,c,E⟩
  ·rw [if_neg (show ¬ r.1=0 by omega)]
   repeat' split
   all_goals simp_all
  ·rw [if_pos c,if_neg (show ¬ r.2.1.2=true by simp [E])];simp [e]
 ·rw [if_neg h];have : ¬ a=b:=λe=>h (by rw [e]);simp [this]
end Go.Proofs.YtfilfloanndddaaGreat.Pl
namespace Go.Proofs.YtfilfloanndddaaGreat.Pl
open Go Go.Proofs.YtfilfloanndddaaGreat.Sv
def kR (b:List Int) (a:Int) (r:BI):Int :=
 if r.1<1\/r.1>1000000 then 7 else if (Fl r.2).2≠0 then (Fl r.2).2 else if r.2.length=0 then 4 else if (r.2.length:Int)>a then 3 else if r.1∈b then 8 else 0
def Lb (a:Int):Nat->List Int->List BI->Option (Nat×Int)
 | _,_,[]=>none
 | k,ids,r::rs=>if kR ids a r≠0 then some (k,kR ids a r) else Lb a (k+1) (ids++[r.1]) rs
def CU (B:Int) (i:Nat):Int:=B*2 ^ i
def Lc (B:Int):Nat->List Int->List (List BI)->Option (Nat×(Nat×Int))
 | _,_,[]=>none
 | i,ids,rs::ls=>if rs.length>2 then some (i,(0,3)) else match Lb (CU B i) 0 ids rs with
  | some (k,e)=>some (i,(k,e))
  | none=>Lc B (i+1) (ids++rs.map (·.1)) ls
def Ez (L:AJ):Int×(Int×Int) :=
 if L.1<1\/L.1>16 then (0,(0,7)) else if L.2.length>12 then (0,(0,3)) else match Lc L.1 0 [] L.2 with
  | some (i,(k,e))=>((i:Int),((k:Int),e))
  | none=>if L.2.getLast? = some [] then (((L.2.length-1:Nat):Int),(0,6)) else (0,(0,0))
theorem Yi {a:Int} : ∀ {rs:List BI} {k:Nat} {b:List Int} {d:Nat} {e:Int},Lb a k b rs=some (d,e)->e≠0
 | [],_,_,_,_,h=>by cases h
 | r::rs,k,b,d,e,h=>by
  unfold Lb at h;by_cases c:kR b a r≠0
  ·rw [if_pos c] at h;cases h;exact c
  ·rw [if_neg c] at h;exact Yi h
theorem TC {B:Int} : ∀ {ls:List (List BI)} {i:Nat} {a:List Int} {c d:Nat} {e:Int},Lc B i a ls=some (c,(d,e))->e≠0
 | [],_,_,_,_,_,h=>by cases h
 | rs::ls,i,a,c,d,e,h=>by
  unfold Lc at h;by_cases f:rs.length>2
  ·rw [if_pos f] at h;cases h;decide
  ·rw [if_neg f] at h;cases b:Lb (CU B i) 0 a rs with
   | none=>rw [b] at h;exact TC h
   | some x=>rw [b] at h;cases h;exact Yi b
def Q4 (a:List Int):List (Int×Bool):=a.map λi=>(i,true)
theorem dg (c:List Int) (i:Int):Qy (JF (λa b=>A8 a b) (Q4 c) i) false=decide (i∈c):=by
 induction c with
 | nil=>rfl
 | cons j c d =>
  show Qy (bif A8 i j then some true else JF (λa b=>A8 a b) (Q4 c) i) false=_
  rw [Db];by_cases h:i=j
  ·simp [h,Qy]
  ·simp only [h,decide_false,cond_false,List.mem_cons,false_or];exact d
theorem dh {c:List Int} {i:Int} (h:i ∉ c):IW (λa b=>A8 a b) (Q4 c) i true=Q4 (c++[i]):=by
 induction c with
 | nil=>rfl
 | cons j c d =>
  show (bif A8 i j then (i,true)::Q4 c else (j,true)::IW (λa b=>A8 a b) (Q4 c) i true)=_
  rw [Db];have f : ¬ i=j:=λe=>h (by simp [e]);rw [d (λe=>h (by simp [e]))];simp only [f,decide_false,cond_false];rfl
theorem TD (r:BI) (b:r.2.length<=9223372036854775807):Gm r=some (if r.1<1\/r.1>1000000 then (-1,7) else Fl r.2):=by
 unfold Gm;rw [A1,Am,Ho _ b,AB];by_cases h:r.1<1
 ·rw [if_pos h,if_pos (.inl h)]
 ·rw [if_neg h];by_cases a:r.1>1000000
  ·rw [if_pos a,if_pos (.inr a)]
  ·rw [if_neg a,if_neg (by omega)]
theorem Rs (r:BI) (a:Int) (c:r.2.length<=9223372036854775807):DE (r,a)=some (kR [] a r):=by
 unfold DE kR;rw [TD r c,AB];simp only [AX,AR];by_cases h:r.1<1\/r.1>1000000
 ·rw [if_pos h,if_pos h];rfl
 ·rw [if_neg h,if_neg h,AP];by_cases b:(Fl r.2).2=0
  ·rw [if_pos b,if_neg (by simp [b]),A2,Am]
   repeat' split
   all_goals first | rfl | (exfalso;omega) | simp_all
  ·rw [if_neg b,if_pos b]
theorem mh (b:List Int) (a:Int) (r:BI):kR b a r=if kR [] a r=0 then (if r.1∈b then 8 else 0) else kR [] a r:=by
 unfold kR
 repeat' split
 all_goals simp_all
theorem mi (i:Nat) (h:i<=12):(2:Int) ^ i<=4096/\1<=(2:Int) ^ i:=by
 have c:(2:Nat) ^ i<=2 ^ 12:=Nat.pow_le_pow_right (by omega) h;have a:1<=(2:Nat) ^ i:=Nat.one_le_two_pow;have b:((2 ^ i:Nat):Int)=(2:Int) ^ i:=by simp
 omega
theorem U4 {B:Int} {i:Nat} (d:1<=B) (b:B<=16) (hi:i<=12):1<=CU B i/\CU B i<=65536:=by
 obtain ⟨c,a⟩:=mi i hi;unfold CU;constructor
 ·have:=Int.mul_le_mul d a (by omega) (by omega);omega
 ·have:=Int.mul_le_mul b c (by omega) (by omega);omega
theorem OQ {B:Int} {i:Nat} (c:1<=B) (a:B<=16) (hi:i<=12):UO .i64 B (i:Int)=CU B i:=by
 have b:=U4 c a hi;unfold UO;rw [show min ((i:Int).toNat) IntKind.i64.bits=i by rw [Int.toNat_natCast];exact Nat.min_eq_left (Nat.le_trans hi (by decide))];unfold CU at b ⊢;exact IntWalk.i64_in _ (by omega)
def Q1:Option (Nat×(Nat×Int))->Int->Int->Int->Prop
 | some (i,(k,e)),a,b,c=>a=(k:Int)/\b=(i:Int)/\c=e
 | none,_,_,c=>c=0
def Q2 (m:List (Int×Bool)):Option (Nat×Int)->Nat->Int->Int->List (Int×Bool)->Prop
 | some (k,e),r,a,c,_=>r=0/\a=(k:Int)/\c=e
 | none,r,_,c,m'=>r=1/\c=0/\m'=m
theorem MU (L:AJ) (hb:L.2.length<=1048576) (hr : ∀ rs∈L.2,rs.length<=1048576 /\ ∀ r∈rs,r.2.length<=9223372036854775807):DM L=some (Ez L):=by
 unfold DM Ez;simp only [AX,AR];rw [A1,Am,Am];by_cases w:L.1<1
 ·rw [if_pos w,if_pos (.inl w)]
 rw [if_neg w];by_cases x:L.1>16
 ·rw [if_pos x,if_pos (.inr x)]
 rw [if_neg x,if_neg (show ¬ (L.1<1\/L.1>16) by omega)];by_cases hl:(L.2.length:Int)>12
 ·rw [if_pos hl,if_pos (by omega)]
 rw [if_neg hl,if_neg (by omega)];have hl2:L.2.length<=12:=by omega
 obtain ⟨T,I⟩ : ∃ T,T=Lc L.1 0 [] L.2:=⟨_,rfl⟩;rw [<- I]
 have B : ∀ Y:Int,Y=0->T=none->(br (Ay Y 0) (λ_=>(none:Option (Int×(Int×Int)))) λ_=>br (CD (L.2.length:Int) 0) (λ_=>AT (CA .i64 (L.2.length:Int) 1) λN=>ix L.2 N λX=>br (A8 (X.length:Int) 0) (λ_=>some ((CA .i64 (L.2.length:Int) 1,(0,6)))) λ_=>some ((0,(0,0)))) λ_=>some ((0,(0,0))))=some (if L.2.getLast? = some [] then (((L.2.length-1:Nat):Int),(0,6)) else (0,(0,0))):=by
  intro Y o _;rw [AP,if_pos o,Am];by_cases hn:L.2=[]
  ·rw [hn];rfl
  ·have hp:=List.length_pos_iff.2 hn;rw [if_pos (by omega),show CA .i64 (L.2.length:Int) 1=((L.2.length-1:Nat):Int) by rw [CR (by omega)];omega,AE,List.getLast?_eq_getElem?];have n:L.2[L.2.length-1]? = some (L.2[L.2.length-1]'(by omega)):=by simp
   rw [AL n,n,A2];by_cases W:L.2[L.2.length-1]'(by omega)=[]
   ·rw [W];simp
   ·rw [if_neg (by have:=List.length_pos_iff.2 W;omega),if_neg (by simp [W])]
 obtain ⟨r,O,b⟩:=GH (l:=L.2) (σ:=Int×(Int×List Int)) (λi j=>(j.1,(j.2.1,((0:Int),((i:Int),Q4 j.2.2)))))
  (λm i j=>Lc L.1 i j.2.2 m=T) (λ(r:Nat×((Int×(Int×(Int×(Int×List (Int×Bool)))))×Unit))=>Q1 T r.2.1.1 r.2.1.2.1 r.2.1.2.2.1)
  (f:=λs0=>br (Ak s0.2.2.2.1 (L.2.length:Int)) (λ_=>AT s0.2.2.2.1 λk1=>ix L.2 k1 λK=>br (CD (K.length:Int) 2) (λ_=>some (.dn ((0,((0,(s0.2.2.2.1,(3,s0.2.2.2))),()))))) λ_=>bd (loop (λa=>br (Ak a.2.1 (K.length:Int)) (λ_=>AT a.2.1 λM=>ix K M λp=>gd (HY s0.2.2.2.1 0) λ_=>bd (DE (p,UO .i64 L.1 s0.2.2.2.1)) λc=>br (A8 c 0) (λ_=>br (Qy (JF ((λP=>(λS=>A8 P S))) a.2.2.2 p.1) false) (λ_=>some (.dn ((0,((a.2.1,(a.2.1,(8,a.2.2.2))),()))))) λ_=>br (Ay c 0) (λ_=>some (.dn ((0,((a.2.1,(a.2.1,(c,a.2.2.2))),()))))) λ_=>some (.nx ((a.2.1,(AI .i64 a.2.1 1,(c,IW ((λJ=>(λz=>A8 J z))) a.2.2.2 p.1 true)))))) λ_=>br (Ay c 0) (λ_=>some (.dn ((0,((a.2.1,(a.2.1,(c,a.2.2.2))),()))))) λ_=>some (.nx ((a.2.1,(AI .i64 a.2.1 1,(c,IW ((λA=>(λC=>A8 A C))) a.2.2.2 p.1 true)))))) λ_=>some (.dn ((1,(a,()))))) ((0,(0,(s0.2.2.1,s0.2.2.2.2))))) λg=>br (neq g.1 0) (λ_=>some (.dn ((0,((g.2.1.1,(s0.2.2.2.1,(g.2.1.2.2.1,(s0.2.2.2.1,g.2.1.2.2.2)))),()))))) λ_=>some (.nx ((g.2.1.1,(s0.2.2.2.1,(g.2.1.2.2.1,(AI .i64 s0.2.2.2.1 1,g.2.1.2.2.2))))))) λ_=>some (.dn ((0,(s0,())))))
  (s:=(0,(0,(0,(0,[]))))) (0,(0,[])) rfl (by omega) I.symm (λj h=>by
   refine ⟨_,by simp only;rw [re];rfl,?_⟩;simp only at h ⊢;rw [<- h];exact rfl) (λi rs m j hd n hi h=>by
   obtain ⟨s1,s2,d⟩:=j;simp only at h ⊢;obtain ⟨Z,F⟩:=hr rs (List.mem_of_getElem? n);rw [rl hi,AU,AE,AL n,Am];unfold Lc at h;by_cases h3:rs.length>2
   ·rw [if_pos (by omega)];rw [if_pos h3] at h;refine .inr ⟨_,rfl,?_⟩;rw [<- h];exact ⟨rfl,rfl,rfl⟩
   rw [if_neg (by omega)];rw [if_neg h3] at h;obtain ⟨U,hU⟩ : ∃ U,U=Lb (CU L.1 i) 0 d rs:=⟨_,rfl⟩;rw [<- hU] at h
   obtain ⟨r,O,b⟩:=GH (l:=rs) (σ:=Int) (λk j=>(j,((k:Int),((0:Int),Q4 (d++(rs.take k).map (·.1))))))
    (λm k _=>Lb (CU L.1 i) k (d++(rs.take k).map (·.1)) m=U) (λ(r:Nat×((Int×(Int×(Int×List (Int×Bool))))×Unit))=>Q2 (Q4 (d++rs.map (·.1))) U r.1 r.2.1.1 r.2.1.2.2.1 r.2.1.2.2.2)
    (f:=λa=>br (Ak a.2.1 (rs.length:Int)) (λ_=>AT a.2.1 λM=>ix rs M λp=>gd (HY (i:Int) 0) λ_=>bd (DE (p,UO .i64 L.1 (i:Int))) λc=>br (A8 c 0) (λ_=>br (Qy (JF ((λP=>(λS=>A8 P S))) a.2.2.2 p.1) false) (λ_=>some (.dn ((0,((a.2.1,(a.2.1,(8,a.2.2.2))),()))))) λ_=>br (Ay c 0) (λ_=>some (.dn ((0,((a.2.1,(a.2.1,(c,a.2.2.2))),()))))) λ_=>some (.nx ((a.2.1,(AI .i64 a.2.1 1,(c,IW ((λJ=>(λz=>A8 J z))) a.2.2.2 p.1 true)))))) λ_=>br (Ay c 0) (λ_=>some (.dn ((0,((a.2.1,(a.2.1,(c,a.2.2.2))),()))))) λ_=>some (.nx ((a.2.1,(AI .i64 a.2.1 1,(c,IW ((λA=>(λC=>A8 A C))) a.2.2.2 p.1 true)))))) λ_=>some (.dn ((1,(a,())))))
    (s:=(0,(0,(0,Q4 d)))) 0 (by simp) (by omega) (by simp [hU]) (λj h=>by
     refine ⟨_,by simp only;rw [re];rfl,?_⟩;rw [<- h];exact ⟨rfl,rfl,by simp⟩) (λk r m j hd n hk h=>by
     simp only at h ⊢;have hr2:=F r (List.mem_of_getElem? n);have G:(rs.take (k+1)).map (·.1)=(rs.take k).map (·.1)++[r.1]:=by rw [List.take_add_one,n];simp
     rw [rl hk,AU,AE,AL n,show gd (HY (i:Int) 0)=λ(q:Unit->Option (LR (Int×(Int×(Int×List (Int×Bool)))) (Nat×((Int×(Int×(Int×List (Int×Bool))))×Unit))))=>q () from by unfold HY;simp [gd];rfl,OQ (by omega) (by omega) (by omega)];simp only;rw [Rs _ _ (by omega),AB,A2,dg,AP];unfold Lb at h;rw [mh] at h;by_cases o:kR [] (CU L.1 i) r=0
     ·rw [if_pos o] at h;rw [if_pos o,if_pos o,C9];by_cases D:r.1∈d++(rs.take k).map (·.1)
      ·rw [if_pos D];rw [if_pos D,if_pos (by decide)] at h;refine .inr ⟨_,rfl,?_⟩;rw [<- h];exact ⟨rfl,rfl,rfl⟩
      ·rw [if_neg D];rw [if_neg D,if_neg (by decide)] at h;refine .inl ⟨(k:Int),?_,?_⟩
       ·rw [dh D,o,Ao n (by omega),G,List.append_assoc]
       ·rw [G,<- List.append_assoc];exact h
     ·rw [if_neg o,if_pos o] at h;rw [if_neg o,if_neg o];refine .inr ⟨_,rfl,?_⟩;rw [<- h]
      exact ⟨rfl,rfl,rfl⟩)
   rw [O,AB,Cc];cases E:U with
   | some u =>
    obtain ⟨k,e⟩:=u;rw [E] at b h;rw [if_pos b.1];refine .inr ⟨_,rfl,?_⟩;rw [<- h];exact ⟨b.2.1,rfl,b.2.2⟩
   | none =>
    rw [E] at b h;rw [if_neg (show ¬ r.1=0 by have:=b.1;omega)];refine .inl ⟨(r.2.1.1,((i:Int),d++rs.map (·.1))),?_,h⟩
    rw [b.2.1,b.2.2,Ao n (by omega)])
 refine BH O ?_;cases y:T with
 | some t =>
  obtain ⟨i,k,e⟩:=t;rw [y] at b I;rw [AP,if_neg (by rw [b.2.2];exact TC I.symm),b.1,b.2.1,b.2.2]
 | none =>
  rw [y] at b;have h:=B _ b y;have q3:r.2.1.2.2.1=0:=b;rw [AP,if_pos q3] at h ⊢;exact h
end Go.Proofs.YtfilfloanndddaaGreat.Pl
namespace Go.Proofs.YtfilfloanndddaaGreat.Pl
open Go Go.Proofs.YtfilfloanndddaaGreat.Sv
structure VR (most:Int) (r:BI):Prop where
 id1:1<=r.1
 id2:r.1<=1000000
 vl:VL r.2
 ne:r.2≠[]
 le:(r.2.length:Int)<=most
theorem di {b:List Int} {a:Int} {r:BI}:kR b a r=0<->VR a r/\r.1 ∉ b:=by
 unfold kR;constructor
 ·intro h;by_cases i:r.1<1\/r.1>1000000
  ·rw [if_pos i] at h;cases h
  rw [if_neg i] at h;by_cases d:(Fl r.2).2≠0
  ·rw [if_pos d] at h;exact absurd h d
  rw [if_neg d] at h;by_cases f:r.2.length=0
  ·rw [if_pos f] at h;cases h
  rw [if_neg f] at h;by_cases g:(r.2.length:Int)>a
  ·rw [if_pos g] at h;cases h
  rw [if_neg g] at h;by_cases c:r.1∈b
  ·rw [if_pos c] at h;cases h
  exact ⟨⟨by omega,by omega,OK.1 (by simpa using d),by intro e;rw [e] at f;exact f rfl,by omega⟩,c⟩
 ·rintro ⟨h,c⟩;rw [if_neg (by have:=h.id1;have:=h.id2;omega),if_neg (by simp [OK.2 h.vl]),if_neg (by have:=List.length_pos_iff.2 h.ne;omega),if_neg (by have:=h.le;omega),if_neg c]
def l7 (r:BI):Int:=r.1
theorem OS {a:Int} : ∀ {rs:List BI} {k:Nat} {b:List Int},Lb a k b rs=none<->(∀ r∈rs,VR a r/\r.1 ∉ b)/\(rs.map l7).Nodup
 | [],k,b=>by simp [Lb]
 | r::rs,k,b=>by
  unfold Lb;by_cases h:kR b a r=0
  ·rw [if_neg (by simp [h]),OS (rs:=rs)];have i:=di.1 h;simp only [List.mem_cons,forall_eq_or_imp,List.map_cons,List.nodup_cons,List.mem_append,List.not_mem_nil,or_false,List.mem_map,not_exists,not_and,not_or];constructor
   ·rintro ⟨d,f⟩;exact ⟨⟨i,λx c=>⟨(d x c).1,(d x c).2.1⟩⟩,λx c e=>(d x c).2.2 e,f⟩
   ·rintro ⟨⟨_,d⟩,f,g⟩;exact ⟨λx c=>⟨(d x c).1,(d x c).2,f x c⟩,g⟩
  ·rw [if_pos h];simp only [reduceCtorEq,false_iff,not_and];intro d;exact absurd (di.2 (d r (by simp))) h
theorem LX {B:Int} : ∀ {ls:List (List BI)} {i:Nat} {c:List Int},Lc B i c ls=none<->(∀ k rs,ls[k]? = some rs->rs.length<=2 /\ ∀ r∈rs,VR (CU B (i+k)) r/\r.1 ∉ c)/\(ls.flatten.map l7).Nodup
 | [],i,c=>by simp [Lc]
 | rs::ls,i,c=>by
  unfold Lc;by_cases h:rs.length>2
  ·rw [if_pos h];simp only [reduceCtorEq,false_iff,not_and];intro l;have:=(l 0 rs rfl).1;omega
  ·rw [if_neg h];cases g:Lb (CU B i) 0 c rs with
   | some x =>
    simp only [reduceCtorEq,false_iff,not_and];intro l m
    have j:Lb (CU B i) 0 c rs=none:=OS.2 ⟨(l 0 rs rfl).2,by
     simp only [List.flatten_cons,List.map_append] at m
     exact (List.nodup_append.1 m).1⟩
    rw [g] at j;cases j
   | none =>
    have q:=OS.1 g;simp only;rw [LX (ls:=ls)];simp only [List.flatten_cons,List.map_append,List.mem_append,not_or,List.mem_map];constructor
    ·rintro ⟨l,m⟩;refine ⟨λk d n => ?_,?_⟩
     ·cases k with
      | zero=>cases n;exact ⟨by omega,q.1⟩
      | succ k =>
       have j:=l k d n
       exact ⟨j.1,λr g=>by
        have:=j.2 r g;rw [show i+(k+1)=i+1+k by omega]
        exact ⟨this.1,this.2.1⟩⟩
     ·rw [List.nodup_append];refine ⟨q.2,m,?_⟩;intro a s b t e;subst e;obtain ⟨r,g,e1⟩:=List.mem_map.1 s;obtain ⟨p,f,e2⟩:=List.mem_map.1 t;obtain ⟨d,o,f⟩:=List.mem_flatten.1 f;obtain ⟨k,n⟩:=List.getElem?_of_mem o;exact ((l k d n).2 p f).2.2 ⟨r,g,by unfold l7 at e1 e2;omega⟩
    ·rintro ⟨l,m⟩;rw [List.nodup_append] at m;refine ⟨λk d n => ?_,m.2.1⟩;have j:=l (k+1) d n;refine ⟨j.1,λr g => ?_⟩;have:=j.2 r g;rw [show i+(k+1)=i+1+k by omega] at this;refine ⟨this.1,this.2,?_⟩;rintro ⟨p,f,e⟩;exact m.2.2 (l7 p) (List.mem_map_of_mem f) (l7 r) (List.mem_map_of_mem (List.mem_flatten.2 ⟨d,List.mem_of_getElem? n,g⟩)) e
structure VLev (L:AJ):Prop where
 B1:1<=L.1
 B2:L.1<=16
 len:L.2.length<=12
 lev : ∀ i rs,L.2[i]? = some rs->rs.length<=2 /\ ∀ r∈rs,VR (CU L.1 i) r
 ids:(L.2.flatten.map l7).Nodup
 last:L.2.getLast? ≠ some []
theorem Iq {L:AJ}:(Ez L).2.2=0<->VLev L:=by
 unfold Ez;constructor
 ·intro h;by_cases f:L.1<1\/L.1>16
  ·rw [if_pos f] at h;cases h
  rw [if_neg f] at h;by_cases d:L.2.length>12
  ·rw [if_pos d] at h;cases h
  rw [if_neg d] at h;cases a:Lc L.1 0 [] L.2 with
  | some x =>
   obtain ⟨i,k,e⟩:=x;rw [a] at h;exact absurd h (TC a)
  | none =>
   rw [a] at h;simp only at h;by_cases g:L.2.getLast? = some []
   ·rw [if_pos g] at h;cases h
   ·have c:=LX.1 a
    exact ⟨by omega,by omega,by omega,λi rs hi=>by
     have:=c.1 i rs hi;rw [Nat.zero_add] at this
     exact ⟨this.1,λr b=>(this.2 r b).1⟩,c.2,g⟩
 ·intro h
  have a:Lc L.1 0 [] L.2=none:=LX.2 ⟨λk rs j=>by
   have:=h.lev k rs j;rw [Nat.zero_add]
   exact ⟨this.1,λr b=>⟨this.2 r b,by simp⟩⟩,h.ids⟩
  rw [if_neg (by have:=h.B1;have:=h.B2;omega),if_neg (by have:=h.len;omega),a];simp only;rw [if_neg h.last]
theorem G4 {L:AJ} (h:VLev L):Ez L=(0,(0,0)):=by
 have a:Lc L.1 0 [] L.2=none:=LX.2 ⟨λk rs b=>by
  have:=h.lev k rs b;rw [Nat.zero_add]
  exact ⟨this.1,λr c=>⟨this.2 r c,by simp⟩⟩,h.ids⟩
 unfold Ez;rw [if_neg (by have:=h.B1;have:=h.B2;omega),if_neg (by have:=h.len;omega),a];simp only;rw [if_neg h.last]
def Fh (l:List (List BI)):Int:=l.foldl (λm rs=>rs.foldl (λm r=>LL m r.1) m) 0
def Aa:Nat->List (List BI)->List Int
 | _,[]=>[]
 | i,rs::ls=>(if rs.length=2 then [(i:Int)] else [])++Aa (i+1) ls
theorem U5 (L:AJ) (e:L.2.length<=1048576) (d : ∀ rs∈L.2,rs.length<=1048576):Ee L=some (Fh L.2):=by
 unfold Ee;simp only [AX,AR]
 rw [DS (l:=L.2) (σ:=Int) (s:=((0:Int),(0:Int))) (λi m=>(m,(i:Int))) (λ_ _ _=>True) (λls _ m=>(0,((ls.foldl (λm rs=>rs.foldl (λm r=>LL m r.1) m) m,(L.2.length:Int)),()))) 0 rfl (by omega) trivial (λm _=>by
  simp only;rw [re];rfl) (λi rs ls m b a hi _=>by
   refine ⟨rs.foldl (λm r=>LL m r.1) m,?_,trivial,rfl⟩;have f:=d rs (List.mem_of_getElem? a);simp only
   rw [rl hi,AU,AE,AL a,DS (l:=rs) (σ:=Int) (s:=((0:Int),m)) (λi m=>((i:Int),m)) (λ_ _ _=>True) (λl _ m=>(0,(((rs.length:Int),l.foldl (λm r=>LL m r.1) m),()))) m rfl (by omega) trivial (λm _=>by
    simp only;rw [re];rfl) (λk r l m b a c _=>by
     refine ⟨LL m r.1,?_,trivial,rfl⟩;simp only
     rw [rl c,AU,AE,AL a,Ao a (by omega)]),AB,Ao a (by omega)]),AB]
 rfl
def Ld (L:AJ) (a:List Int) (i:Nat) (j:Job):Bool:=match a[i]? with
 | none=>true
 | some d=>if j.1≠d then true else if j.2.2.1.2.2=true/\j.1≠(L.2.length:Int)-1 then true else match L.2[d.toNat]? with
  | some [r0,r1]=>if j.2.2.2.2<0\/j.2.2.2.2>((r1.2.length+r0.2.length:Nat):Int) then true else decide (DY r1.2 r0.2 j.2.2.1.2.2 j.2.2.2.2.toNat≠j.2)
  | _=>true
def GI (L:AJ) (a:List Int):Nat->List Job->Option Nat
 | _,[]=>none
 | i,j::js=>if Ld L a i j=true then some i else GI L a (i+1) js
def AO (s:AG):Int×Int :=
 if (Ez s.1).2.2≠0 then (-1,(Ez s.1).2.2) else if s.2.2<1\/s.2.2>1000001 then (-1,7) else if s.2.2<=Fh s.1.2 then (-1,6) else match GI s.1 (Aa 0 s.1.2) 0 s.2.1 with
  | some i=>((i:Int),6)
  | none=>if s.2.1.length<(Aa 0 s.1.2).length then (-1,4) else (0,0)
theorem H9 : ∀ {ls:List (List BI)} {i k:Nat} {d:Int},(Aa i ls)[k]? = some d -> ∃ n:Nat,d=((i+n:Nat):Int) /\ ∃ c e,ls[n]? = some [c,e]
 | [],i,k,d,h=>by cases h
 | rs::ls,i,k,d,h=>by
  unfold Aa at h;by_cases b:rs.length=2
  ·rw [if_pos b] at h;cases k with
   | zero =>
    simp at h;refine ⟨0,by simp [<- h],?_⟩
    match rs,b with
    | [c,e],_=>exact ⟨c,e,rfl⟩
   | succ k =>
    simp at h;obtain ⟨n,f,a⟩:=H9 h;exact ⟨n+1,by rw [f];congr 1;omega,a⟩
  ·rw [if_neg b] at h;simp at h;obtain ⟨n,f,a⟩:=H9 h;exact ⟨n+1,by rw [f];congr 1;omega,a⟩
theorem EC : ∀ (ls:List (List BI)) (i:Nat),(Aa i ls).length<=ls.length
 | [],i=>Nat.le_refl _
 | rs::ls,i=>by
  have:=EC ls (i+1);unfold Aa;split<;>simp<;>omega
theorem U6 {L:AJ} {n:Nat} {a b:BI} (c:Bool) (h:L.2[n]? = some [a,b]) (d:VL a.2) (e:VL b.2):Ch (L,((n:Int),c))=some ((n:Int),DY b.2 a.2 c 0):=by
 unfold Ch;simp only;rw [AE,AL h,AL (x:=b) rfl,AL (x:=a) rfl,Zq e d];rfl
theorem OT {a b:List AD} (va:VL a) (d:VL b) (c:Bool) {n:Nat} (h:n<=a.length+b.length):(DY a b c n).1.1.length<=1000/\(∀ l∈(DY a b c n).1.1,l.length<=1000000)/\(DY a b c n).1.2.1.length<=1000/\(DY a b c n).1.2.2.1.length<=1000/\(DY a b c n).1.2.2.2.1.length<=1000/\(DY a b c n).2.2.1.length<=1000000:=by
 have g:=va.len;have k:=d.len;refine ⟨show 2<=1000 by omega,λl f => ?_,show 2<=1000 by omega,show 2<=1000 by omega,show 2<=1000 by omega,?_⟩
 ·have:l=a\/l=b:=by simpa [DY,MT,Mb] using f
  rcases this with e | e<;>subst e<;>omega
 ·have j:=JS (s0 c) (A3 a b n);have i:=C4 va d h;show (E1 (s0 c) (A3 a b n)).length<=_;omega
theorem mj {L:AJ} {n:Nat} {a b:BI} {j:Job} (h:L.2[n]? = some [a,b]) (d:VL a.2) (e:VL b.2) {β:Type} (A B:Option β) :
  (bd (Ch (L,((n:Int),j.2.2.1.2.2))) λc=>bd (Bp c.2) λo=>br (Ak j.2.2.2.2 0) (λ_=>A) λ_=>br (CD j.2.2.2.2 o.1) (λ_=>A) λ_=>bd (CC (c.2,j.2.2.2.2)) λg=>bd (Dj (g.1,j.2)) λl=>br (Ad l) (λ_=>A) λ_=>B)
  = if j.2.2.2.2<0\/j.2.2.2.2>((b.2.length+a.2.length:Nat):Int) then A else if DY b.2 a.2 j.2.2.1.2.2 j.2.2.2.2.toNat=j.2 then B else A:=by
 rw [U6 _ h d e,AB,OP e d _ (Nat.zero_le _),AB,A1,Am,Nat.sub_zero];by_cases m:j.2.2.2.2<0
 ·rw [if_pos m,if_pos (.inl m)]
 rw [if_neg m];by_cases i:j.2.2.2.2>((b.2.length+a.2.length:Nat):Int)
 ·rw [if_pos i,if_pos (.inr i)]
 rw [if_neg i,if_neg (show ¬ (j.2.2.2.2<0\/j.2.2.2.2>((b.2.length+a.2.length:Nat):Int)) by omega)];obtain ⟨k,t⟩ : ∃ k:Nat,j.2.2.2.2=(k:Int):=⟨j.2.2.2.2.toNat,by omega⟩;rw [t,Rr e d _ (Nat.zero_le _),AB,Nat.sub_zero,Nat.zero_add,Nat.min_eq_left (by omega),Int.toNat_natCast];obtain ⟨s1,s2,q,r,p,s⟩:=OT e d j.2.2.1.2.2 (n:=k) (by omega);rw [U3 _ _ s1 s2 q r p s,AB,C5,C9];by_cases f:DY b.2 a.2 j.2.2.1.2.2 k=j.2
 ·rw [if_neg (by simp [f]),if_pos f]
 ·rw [if_pos f,if_neg f]
theorem Wi (s:AG) (N:s.1.2.length<=1048576) (hr : ∀ rs∈s.1.2,rs.length<=1048576 /\ ∀ r∈rs,r.2.length<=9223372036854775807) (hj:s.2.1.length<=1048576):CT s=some (AO s):=by
 unfold CT AO;simp only [AX,AR];rw [MU _ N hr,AB,AP];by_cases E:(Ez s.1).2.2=0;rotate_left
 ·rw [if_neg E,if_pos E]
 rw [if_pos E,if_neg (by simp [E]),A1,Am,U5 _ N (λrs h=>(hr rs h).1),AB];have v:=Iq.1 E;by_cases z:s.2.2<1
 ·rw [if_pos z,if_pos (.inl z)]
 rw [if_neg z];by_cases p:s.2.2>1000001
 ·rw [if_pos p,if_pos (.inr p)]
 rw [if_neg p,if_neg (show ¬ (s.2.2<1\/s.2.2>1000001) by omega),Ya];by_cases o:s.2.2<=Fh s.1.2
 ·rw [if_pos o,if_pos o]
 rw [if_neg o,if_neg o]
 rw [DS (l:=s.1.2) (σ:=List Int) (s:=((0:Int),([]:List Int))) (λi m=>((i:Int),m)) (λls i m=>m++Aa i ls=Aa 0 s.1.2) (λ_ _ _=>(0,(((s.1.2.length:Int),Aa 0 s.1.2),()))) [] rfl (by omega) rfl (λm h=>by
  simp only;rw [re,Av,<- h];simp [Aa]) (λi rs ls m hd D hi h=>by
   refine ⟨m++(if rs.length=2 then [(i:Int)] else []),?_,?_,rfl⟩
   ·simp only;rw [rl hi,AU,AE,AL D,A2]
    have hm:m.length<=1048575:=by
     have C:=congrArg List.length h;have t:=EC s.1.2 0;have w:=v.len;rw [List.length_append] at C;omega
    by_cases C:rs.length=2
    ·rw [if_pos (by omega),if_pos C,Bj (by simp only [Ag,AA,List.length_cons,List.length_nil];omega),Ao D (by omega)];rfl
    ·rw [if_neg (by omega),if_neg C,List.append_nil,Ao D (by omega)]
   ·rw [List.append_assoc];exact h),AB]
 simp only;obtain ⟨a,g⟩ : ∃ a,a=Aa 0 s.1.2:=⟨_,rfl⟩;have hdl:a.length<=12:=by have:=EC s.1.2 0;have:=v.len;rw [g];omega
 rw [<- g];obtain ⟨T,hT⟩ : ∃ T,T=GI s.1 a 0 s.2.1:=⟨_,rfl⟩;rw [<- hT]
 obtain ⟨r,q1,G⟩:=GH (l:=s.2.1) (σ:=Unit) (λi _=>((0:Int),((0:Int),(i:Int)))) (λjs i _=>GI s.1 a i js=T) (λ(r:Nat×((Int×(Int×Int))×Unit))=>(T=none/\r.1=1)\/(∃ i:Nat,T=some i/\r.1=0/\r.2.1.1=6/\r.2.1.2.1=(i:Int)))
  (f:=λb=>br (Ak b.2.2 (s.2.1.length:Int)) (λ_=>AT b.2.2 λk7=>ix s.2.1 k7 λe=>br (HY b.2.2 (a.length:Int)) (λ_=>some (.dn ((0,((6,(b.2.2,b.2.2)),()))))) λ_=>AT b.2.2 λk9=>gd (C7 k9 a.length) λ_=>ix a k9 λS=>br (Ay e.1 S) (λ_=>some (.dn ((0,((6,(b.2.2,b.2.2)),()))))) λ_=>br e.2.2.1.2.2 (λ_=>bd (DG (s.1,e.1)) λY=>br (Ad Y) (λ_=>some (.dn ((0,((6,(b.2.2,b.2.2)),()))))) λ_=>bd (Ch ((s.1,(e.1,e.2.2.1.2.2)))) λI=>bd (Bp I.2) λX=>br (Ak e.2.2.2.2 0) (λ_=>some (.dn ((0,((6,(b.2.2,b.2.2)),()))))) λ_=>br (CD e.2.2.2.2 X.1) (λ_=>some (.dn ((0,((6,(b.2.2,b.2.2)),()))))) λ_=>bd (CC (I.2,e.2.2.2.2)) λP=>bd (Dj (P.1,e.2)) λZ=>br (Ad Z) (λ_=>some (.dn ((0,((6,(b.2.2,b.2.2)),()))))) λ_=>some (.nx ((b.1,(b.2.1,AI .i64 b.2.2 1))))) λ_=>bd (Ch ((s.1,(e.1,e.2.2.1.2.2)))) λF=>bd (Bp F.2) λr17=>br (Ak e.2.2.2.2 0) (λ_=>some (.dn ((0,((6,(b.2.2,b.2.2)),()))))) λ_=>br (CD e.2.2.2.2 r17.1) (λ_=>some (.dn ((0,((6,(b.2.2,b.2.2)),()))))) λ_=>bd (CC (F.2,e.2.2.2.2)) λO=>bd (Dj (O.1,e.2)) λU=>br (Ad U) (λ_=>some (.dn ((0,((6,(b.2.2,b.2.2)),()))))) λ_=>some (.nx ((b.1,(b.2.1,AI .i64 b.2.2 1))))) λ_=>some (.dn ((1,(b,())))))
  (s:=(0,(0,0))) () rfl (by omega) hT.symm (λ_ h=>by
   refine ⟨_,by simp only;rw [re];rfl,.inl ⟨by rw [<- h];rfl,rfl⟩⟩) (λi j js _ hd D hi h=>by
   simp only;rw [rl hi,AU,AE,AL D,EK];unfold GI at h
   have c:Ld s.1 a i j=true -> ∃ r:Nat×((Int×(Int×Int))×Unit),(some (LR.dn ((0,((6,((i:Int),(i:Int))),()))):LR (Int×(Int×Int)) _))=some (.dn r)/\((T=none/\r.1=1)\/(∃ i:Nat,T=some i/\r.1=0/\r.2.1.1=6/\r.2.1.2.1=(i:Int))):=λN=>by
    rw [if_pos N] at h;exact ⟨_,rfl,.inr ⟨i,h.symm,rfl,rfl,rfl⟩⟩
   have y:Ld s.1 a i j=false -> ∃ st':Unit,(some (LR.nx ((0:Int),((0:Int),AI .i64 (i:Int) 1))):Option (LR _ (Nat×((Int×(Int×Int))×Unit))))=some (.nx ((0:Int),((0:Int),((i+1:Nat):Int))))/\GI s.1 a (i+1) js=T:=λhg=>by
    rw [if_neg (by simp [hg])] at h;exact ⟨(),by rw [Ao D (by omega)],h⟩
   by_cases z:(i:Int)>=(a.length:Int)
   ·rw [if_pos z];exact .inr (c (by unfold Ld;rw [List.getElem?_eq_none (by omega)]))
   rw [if_neg z,AE,Kq,if_pos (by omega)];have u:a[i]? = some (a[i]'(by omega)):=by simp
   rw [AL u,AP];obtain ⟨n,W,L,J,x⟩:=H9 (ls:=s.1.2) (i:=0) (k:=i) (d:=a[i]'(by omega)) (by rw [<- g];exact u);rw [Nat.zero_add] at W
   have q:Ld s.1 a i j=(if j.1≠(a[i]'(by omega)) then true else if j.2.2.1.2.2=true/\j.1≠(s.1.2.length:Int)-1 then true else if j.2.2.2.2<0\/j.2.2.2.2>((J.2.length+L.2.length:Nat):Int) then true else decide (DY J.2 L.2 j.2.2.1.2.2 j.2.2.2.2.toNat≠j.2)):=by
    unfold Ld;rw [u];simp only;rw [W,Int.toNat_natCast,x]
   by_cases p:j.1=(a[i]'(by omega));rotate_left
   ·rw [if_neg p];exact .inr (c (by rw [q,if_pos p]))
   rw [if_pos p];rw [if_neg (by simp [p])] at q;have K:j.1=(n:Int):=by rw [p,W]
   have hv:=(v.lev n _ x).2;have v0:=(hv L (by simp)).vl;have v1:=(hv J (by simp)).vl;have M:CA .i64 (s.1.2.length:Int) 1=(s.1.2.length:Int)-1:=CR (by omega);unfold DG;simp only [AX,AR];rw [AB,M,Db,C5,C9,K,mj x v0 v1,Es];rw [K] at q;by_cases o:j.2.2.1.2.2=true/\(n:Int)≠(s.1.2.length:Int)-1
   ·rw [if_pos o.1,if_pos o.2];exact .inr (c (by rw [q,if_pos o]))
   rw [if_neg o] at q
   have C : ∀ {γ:Type} (A B:γ),(if j.2.2.1.2.2=true then if ¬(n:Int)=(s.1.2.length:Int)-1 then A else B else B)=B:=by
    intro γ A B;by_cases t:j.2.2.1.2.2=true
    ·rw [if_pos t,if_neg (λw=>o ⟨t,w⟩)]
    ·rw [if_neg t]
   rw [C];by_cases t:j.2.2.2.2<0\/j.2.2.2.2>((J.2.length+L.2.length:Nat):Int)
   ·rw [if_pos t];exact .inr (c (by rw [q,if_pos t]))
   rw [if_neg t];rw [if_neg t] at q;by_cases w:DY J.2 L.2 j.2.2.1.2.2 j.2.2.2.2.toNat=j.2
   ·rw [if_pos w];exact .inl (y (by rw [q];simp [w]))
   ·rw [if_neg w]
    exact .inr (c (by rw [q];simp [w])))
 rw [E];refine BH q1 ?_;rw [Cc];rcases G with ⟨G,q3⟩ | ⟨i,G,q3,q4,q5⟩
 ·rw [if_neg (show ¬ r.1=0 by omega),G,A1];simp only;by_cases h7:s.2.1.length<a.length
  ·rw [if_pos (by omega),if_pos h7]
  ·rw [if_neg (by omega),if_neg h7]
 ·rw [if_pos q3,G,q4,q5]
end Go.Proofs.YtfilfloanndddaaGreat.Pl
namespace Go.Proofs.YtfilfloanndddaaGreat.Pl
open Go Go.Proofs.YtfilfloanndddaaGreat.Sv
theorem NU (x:AD):Du x=some (kE x):=by
 unfold Du kE;rw [Am,AX,J1];by_cases f:x.1.length>32
 ·rw [if_pos (by omega),if_pos (.inl f)]
 rw [if_neg (by omega),Am,AX,J1];by_cases e:x.2.1.length>64
 ·rw [if_pos (by omega),if_pos (.inr e)]
 rw [if_neg (by omega : ¬ (x.2.1.length:Int)>64),if_neg (by omega),Es];by_cases c:x.2.2.1=true
 ·rw [if_pos c,BX,FL];by_cases b:x.2.1=[]
  ·rw [if_pos b,if_neg (by simp [b]),A1,Am];by_cases a:x.2.2.2<1
   ·simp [a]
   ·by_cases d:x.2.2.2>1000000000<;>simp [a,d]
  ·rw [if_neg b,if_pos ⟨c,b⟩]
 ·rw [if_neg c,if_neg (by simp [c]),A1,Am];by_cases a:x.2.2.2<1
  ·simp [a]
  ·by_cases d:x.2.2.2>1000000000<;>simp [a,d]
def D0:List UInt8->List UInt8->Nat
 | x::a,y::b=>if x=y then D0 a b+1 else 0
 | _,_=>0
theorem dj (x y:UInt8):A8 (UP x) (UP y)=decide (x=y):=by
 rw [Db];unfold UP;by_cases h:x=y
 ·simp [h]
 ·have : ¬ ((x.toNat:Int)=(y.toNat:Int)):=λe=>h (UInt8.toNat_inj.1 (by omega));simp [h,this]
theorem Zy (a b:List UInt8) (z:a.length<=9223372036854775806):FD (a,b)=some (D0 a b:Int):=by
 unfold FD;simp only [AX,J1]
 have key : ∀ (m:List UInt8) (k n:Nat),a.drop k=m->k<=a.length->k<=b.length->m.length<n->Di n (λs0=>br (Ak s0 (a.length:Int)) (λ_=>br (Ak s0 (b.length:Int)) (λ_=>AT s0 λy=>ix a y λt=>AT s0 λs=>ix b s λr=>br (A8 (UP t) (UP r)) (λ_=>some (LR.nx (AI .i64 s0 1))) λ_=>some (.dn ((0,(s0,()))))) λ_=>some (.dn ((0,(s0,()))))) λ_=>some (.dn ((0,(s0,()))))) (k:Int)=some ((0:Nat),(((k+D0 m (b.drop k):Nat):Int),())):=by
  intro m
  induction m with
  | nil =>
   intro k n d u h p;obtain ⟨n,rfl⟩ : ∃ j,n=j+1:=⟨n-1,by omega⟩
   have o:k=a.length:=by
    have:=congrArg List.length d;simp at this;omega
   subst o;refine BY ?_;rw [re];simp [Av,D0]
  | cons x m w =>
   intro k n d u h p;obtain ⟨n,rfl⟩ : ∃ j,n=j+1:=⟨n-1,by omega⟩
   have l:a[k]? = some x:=by
    have:=congrArg List.head? d;rw [List.head?_drop] at this;simpa using this
   have c:k<a.length:=(List.getElem?_eq_some_iff.1 l).1
   have g:a.drop (k+1)=m:=by
    have:=congrArg List.tail d;rw [List.tail_drop] at this;simpa using this
   by_cases f:k<b.length
   ·have q:b[k]? = some b[k]:=by simp [f]
    rw [List.drop_eq_getElem_cons f];unfold D0;by_cases e:x=b[k]
    ·rw [if_pos e];refine (BL (s':=((k+1:Nat):Int)) ?_).trans ?_
     ·rw [rl c,AU,rl f,AU,AE,AL l,AE,AL q,dj,C9,if_pos e,Af (by omega)]
     ·rw [w (k+1) n g (by omega) (by omega) (by simp at p;omega),show k+1+D0 m (b.drop (k+1))=k+(D0 m (b.drop (k+1))+1) by omega]
    ·rw [if_neg e];refine BY ?_;rw [rl c,AU,rl f,AU,AE,AL l,AE,AL q,dj,C9,if_neg e];simp
   ·have i:k=b.length:=by omega
    refine BY ?_;rw [rl c,AU,i,re,Av,List.drop_length];simp [D0]
 refine BH (Cm (n:=a.length+1) (by omega) (key a 0 (a.length+1) (by simp) (by omega) (by omega) (by omega))) ?_;simp
def MV (a b:Hn):Int:=if Cy a b=true then -1 else if a=b then 0 else 1
theorem U7 : ∀ (a b:Hn),(D0 a b<=a.length/\D0 a b<=b.length)/\(D0 a b=a.length->D0 a b=b.length->MV a b=0)/\(D0 a b=a.length->D0 a b≠b.length->MV a b = -1)/\(D0 a b≠a.length->D0 a b=b.length->MV a b=1)/\(∀ x y,a[D0 a b]? = some x->b[D0 a b]? = some y->MV a b=if x.toNat<y.toNat then -1 else 1)
 | [],[]=>by simp [D0,MV,NP]
 | [],y::b=>by simp [D0,MV,S9]
 | x::a,[]=>by simp [D0,MV,NP]
 | x::a,y::b=>by
  obtain ⟨⟨o,g⟩,m,j,n,k⟩:=U7 a b;by_cases e:x=y
  ·subst e
   have i:MV (x::a) (x::b)=MV a b:=by
    unfold MV;rw [JQ];simp
   have hc:D0 (x::a) (x::b)=D0 a b+1:=by simp [D0]
   rw [i,hc];refine ⟨⟨by simp;omega,by simp;omega⟩,λu v=>m (by simp at u;omega) (by simp at v;omega),λu v=>j (by simp at u;omega) (by simp at v;omega),λu v=>n (by simp at u;omega) (by simp at v;omega),λp q f d=>k p q (by simpa using f) (by simpa using d)⟩
  ·have hc:D0 (x::a) (y::b)=0:=by simp [D0,e]
   rw [hc];refine ⟨⟨by omega,by omega⟩,λu=>by simp at u,λu=>by simp at u,λ_ u=>by simp at u,λp q f d => ?_⟩;simp at f d;subst f d;unfold MV;rw [JQ];have l : ¬ (x::a=y::b):=λh=>e (by injection h);by_cases c:x.toNat<y.toNat
   ·have:x<y:=UInt8.lt_iff_toNat_lt.2 c;simp [this,c]
   ·have : ¬ x<y:=λh=>c (UInt8.lt_iff_toNat_lt.1 h);simp [this,c,e]
theorem dk (a b:Hn) (o:a.length<=1000000000) (p:b.length<=1000000000):Eo (a,b)=some (MV a b):=by
 obtain ⟨⟨q,i⟩,m,j,n,k⟩:=U7 a b;unfold Eo;simp only [AX,J1];rw [Zy a b (by omega),AB,A2]
 have l:(if (D0 a b:Int)<(b.length:Int) then (AT (D0 a b:Int) λf=>ix a f λd=>AT (D0 a b:Int) λe=>ix b e λc=>br (Ak (UP d) (UP c)) (λ_=>some (-1:Int)) λ_=>some 1) else some 1)=(if D0 a b=a.length then (if (D0 a b:Int)<(b.length:Int) then (AT (D0 a b:Int) λf=>ix a f λd=>AT (D0 a b:Int) λe=>ix b e λc=>br (Ak (UP d) (UP c)) (λ_=>some (-1:Int)) λ_=>some 1) else some 1) else some (MV a b)):=by
  by_cases u:D0 a b=a.length
  ·rw [if_pos u]
  ·rw [if_neg u];by_cases v:D0 a b=b.length
   ·rw [if_neg (by omega),n u v]
   ·rw [if_pos (by omega),AE];have g:a[D0 a b]? = some (a[D0 a b]'(by omega)):=by simp
    have h:b[D0 a b]? = some (b[D0 a b]'(by omega)):=by simp
    rw [AL g,AE,AL h,A1,k _ _ g h];unfold UP;by_cases w:(a[D0 a b]'(by omega)).toNat<(b[D0 a b]'(by omega)).toNat
    ·rw [if_pos (by omega),if_pos w]
    ·rw [if_neg (by omega),if_neg w]
 by_cases u:D0 a b=a.length
 ·rw [if_pos (by omega),A2];by_cases v:D0 a b=b.length
  ·rw [if_pos (by omega),m u v]
  ·rw [if_neg (by omega),A2,if_pos (by omega),j u v]
 ·rw [if_neg (by omega),A2,if_neg (by omega),A1,l,if_neg u]
theorem Yj (a b:Hn):MV a b>=0<->Cy a b=false:=by
 unfold MV;cases h:Cy a b with
 | true=>simp
 | false=>simp;split<;>omega
theorem HQ (l:List AD) (E:l.length<=9223372036854775807):C2 l=some (Fl l):=by
 unfold C2 Fl;simp only [AX,AR];rw [Am];by_cases h:l.length>5000
 ·rw [if_pos (by omega),if_pos h]
 rw [if_neg (by omega),if_neg h];obtain ⟨T,o⟩ : ∃ T,T=Ks none 0 l:=⟨_,rfl⟩;rw [<- o]
 obtain ⟨r,A,j⟩:=GH (l:=l) (σ:=Unit) (s:=((0:Int),((0:Int),(0:Int)))) (λk _=>((0:Int),((0:Int),(k:Int)))) (λm k _=>Ks (if k=0 then none else (l[k-1]?).map (·.1)) k m=T/\(∀ y,k≠0->l[k-1]? = some y->kE y=0)) (λ(r:Nat×((Int×(Int×Int))×Unit))=>(r.1=1/\T=(0,0))\/(r.1=0/\T=(r.2.1.2.1,r.2.1.1)))
  (f:=λs0=>br (Ak s0.2.2 (l.length:Int)) (λ_=>AT s0.2.2 λq=>ix l q λu=>bd (Du u) λb=>br (A8 b 0) (λ_=>br (CD s0.2.2 0) (λ_=>AT (CA .i64 s0.2.2 1) λw=>ix l w λp=>AT s0.2.2 λB=>ix l B λC=>bd (Eo (p.1,C.1)) λt=>br (HY t 0) (λ_=>some (.dn ((0,((6,(s0.2.2,s0.2.2)),()))))) λ_=>br (Ay b 0) (λ_=>some (.dn ((0,((b,(s0.2.2,s0.2.2)),()))))) λ_=>some (.nx ((s0.1,(s0.2.1,AI .i64 s0.2.2 1))))) λ_=>br (Ay b 0) (λ_=>some (.dn ((0,((b,(s0.2.2,s0.2.2)),()))))) λ_=>some (.nx ((s0.1,(s0.2.1,AI .i64 s0.2.2 1))))) λ_=>br (Ay b 0) (λ_=>some (.dn ((0,((b,(s0.2.2,s0.2.2)),()))))) λ_=>some (.nx ((s0.1,(s0.2.1,AI .i64 s0.2.2 1))))) λ_=>some (.dn ((1,(s0,())))))
  () rfl (by omega) ⟨o.symm,λ_ h=>absurd rfl h⟩ (λ_ h=>by
   refine ⟨_,by simp only;rw [re];rfl,.inl ⟨rfl,?_⟩⟩;rw [<- h.1];simp [Ks]) (λk x m _ D i z h=>by
   simp only;obtain ⟨h,c⟩:=h;rw [rl z,AU,AE,AL i,NU,AB,A2];unfold Ks at h
   have next:kE x=0->(T=Ks (some x.1) (k+1) m)->Ks (if k+1=0 then none else (l[k+1-1]?).map (·.1)) (k+1) m=T/\(∀ y,k+1≠0->l[k+1-1]? = some y->kE y=0):=λa e=>by
    rw [if_neg (by omega),Nat.add_sub_cancel,i,e];exact ⟨rfl,λy _ g=>by cases g;exact a⟩
   by_cases a:kE x=0
   ·rw [if_pos a,Am];rw [if_neg (by simp [a])] at h;by_cases d:k=0
    ·rw [if_neg (by omega),AP,if_pos a];rw [if_pos d] at h;exact .inl ⟨(),by rw [Ao i (by omega)],next a h.symm⟩
    ·have g:l[k-1]? = some (l[k-1]'(by omega)):=by rw [List.getElem?_eq_getElem]
     rw [if_pos (by omega),show CA .i64 (k:Int) 1=((k-1:Nat):Int) by rw [CR (by omega)];omega,AE,AL g,AE,AL i];rw [if_neg d,g] at h;simp only [Option.map_some] at h;rw [dk _ _ (by have:=QK (c _ d g);omega) (by have:=QK a;omega),AB,EK];by_cases hs:Cy (l[k-1]'(by omega)).1 x.1=true
     ·rw [if_neg (λe=>by rw [Yj,hs] at e;cases e),AP,if_pos a];rw [if_pos hs] at h;exact .inl ⟨(),by rw [Ao i (by omega)],next a h.symm⟩
     ·rw [if_pos ((Yj _ _).2 (by simpa using hs))];rw [if_neg hs] at h;exact .inr ⟨_,rfl,.inr ⟨rfl,h.symm⟩⟩
   ·rw [if_neg a,AP,if_neg a];rw [if_pos a] at h
    exact .inr ⟨_,rfl,.inr ⟨rfl,h.symm⟩⟩)
 refine BH A ?_;rw [Cc];rcases j with ⟨j,n⟩ | ⟨j,n⟩
 ·rw [if_neg (show ¬ r.1=0 by omega),n]
 ·rw [if_pos j,n]
theorem dl (p q:AN) (e:Ey p) (d:Ey q):Fb ([p,q],(0,1))=some (w0 p q):=by
 unfold Fb w0;refine (FN 0 rfl (x:=p) rfl).trans ((FN 1 rfl (x:=q) rfl).trans ?_);rw [beq_eq,C5,C9,BX,Es];by_cases a:p.2=q.2
 ·rw [if_neg (show ¬ ¬ p.2=q.2 by simp [a]),if_neg (show ¬ p.2≠q.2 by simp [a])];by_cases b:p.2=true
  ·rw [if_pos b,e b,d (a ▸ b)];rfl
  ·rw [if_neg b,BX,FL];by_cases c:p.1=q.1
   ·rw [if_pos c,if_neg (by simp [c])];rfl
   ·rw [if_neg c,if_pos c]
 ·rw [if_pos a,if_pos a]
theorem Oy (p q:AN) (n:Nat) (k:Int) (h:2<=k) (a:k<=100):Ko A4 (n+1) ([p,q],k)=some (k-2,0):=by
 show A4 (Ko A4 n) ([p,q],k)=_;unfold A4;show br (HY k 2) (λ_=>some (CA .i64 k 2,0)) _=_;rw [EK,if_pos h,CR (by omega)]
theorem QO (p q:AN) (a:Ey p) (b:Ey q):Gr ([p,q],1)=some (if w0 p q=true then (0,1) else (1,0)):=by
 show A4 (Ko A4 99) ([p,q],1)=_;unfold A4;show br (HY (1:Int) 2) (λ_=>some (CA .i64 (1:Int) 2,0)) (λ_=>bd (Ko A4 (98+1) ([p,q],2)) λc=>bd (Ko A4 (98+1) ([p,q],3)) _)=_;rw [EK,if_neg (by omega),Oy p q 98 2 (by omega) (by omega),AB,Oy p q 98 3 (by omega) (by omega),AB];show bd (Fb ([p,q],(0,1))) _=_;rw [dl p q a b,AB,Es];cases h:w0 p q<;>rfl
theorem dm (p q:AN) (a:Ey p) (c:Ey q):Gs [p,q]=some (Tt p q):=by
 unfold Gs;refine Eq.trans (b:=bd (loop _ (1,([p,q],([0,0],0)))) _) rfl ?_;refine BH (x:=(0,((2,([p,q],([0,if w0 p q=true then 1 else 0],0))),()))) (Cm (n:=2) (by omega) ((BL (s':=(2,([p,q],([0,if w0 p q=true then 1 else 0],0)))) ?_).trans (BY rfl))) ?_
 ·show bd (Gr ([p,q],1)) _=_;rw [QO p q a c,AB];refine (Kv 1 rfl (x:=(0:Int)) rfl).trans ?_;cases h:w0 p q<;>rfl
 ·rw [QO p q a c,AB];unfold Tt;cases h:w0 p q<;>rfl
theorem Zz {l:List AN} (h : ∀ k∈l,Ey k) (c:l≠[]) (f:l.length<=32):Ft l=some 0:=by
 unfold Ft;simp only [AX,AR];rw [A2,Am,if_neg (by have:=List.length_pos_iff.2 c;omega),if_neg (by omega)]
 rw [DS (l:=l) (σ:=Unit) (s:=((0:Int),(0:Int))) (λk _=>((k:Int),(0:Int))) (λ_ _ _=>True) (λ_ _ _=>(1,(((l.length:Int),0),()))) () rfl (by omega) trivial (λe _=>by
  simp only;rw [re];rfl) (λk x m e _ a d _=>⟨(),by
   simp only;rw [rl d,AU,AE,AL a,Es,Ao a (by omega)];by_cases b:x.2=true
   ·rw [if_pos b,AE,AL a,BX,FL,if_pos (h x (List.mem_of_getElem? a) b)]
   ·rw [if_neg b],trivial,rfl⟩),AB]
 rfl
theorem Z0 (p q:AN) (a:Ey p) (b:Ey q):Ep [p,q]=some (Tt p q,0):=by
 unfold Ep;rw [Zz (by simp [a,b]) (by simp) (by simp),AB,AP,if_pos rfl,dm p q a b,AB]
end Go.Proofs.YtfilfloanndddaaGreat.Pl
namespace Go.Proofs.YtfilfloanndddaaGreat.Pl
open Go Go.Proofs.YtfilfloanndddaaGreat.Sv
theorem Hd:B6=Bd:=rfl
theorem QP:Gt=Ah:=rfl
theorem Wj (l m:List AN) (i:l.length<=9223372036854775806) (n:l.length=m.length) : ∃ r,loop (λs1=>br (Ak s1.1 (l.length:Int)) (λ_=>AT s1.1 λo=>ix l o λd=>AT s1.1 λj=>ix m j λb=>br (Ad (Az (seq d.1 b.1) (Az (Sv.beq d.2 b.2) true))) (λ_=>some (LR.dn ((0:Nat),((s1.1,false),())))) λ_=>some (.nx (AI .i64 s1.1 1,s1.2))) λ_=>some (.dn ((1,(s1,()))))) ((0:Int),false)=some r/\((l=m/\r.1=1)\/(l≠m/\r.1=0/\r.2.1.2=false)):=by
 refine JU l m n i (λk x y a g => ?_) (by simp only;rw [re];rfl);have c:=(List.getElem?_eq_some_iff.1 a).1
 have f : ∀ {β:Type} (u v:Unit->Option β),br (Ad (Az (seq x.1 y.1) (Az (Sv.beq x.2 y.2) true))) u v=if x=y then v () else u ():=by
  intro β u v;rw [NT,MP,beq_eq,J4,C5,C9];by_cases e:x=y
  ·subst e;simp
  ·rw [if_pos (λh=>e (Prod.ext h.1 h.2)),if_neg e]
 constructor
 ·intro e;simp only;rw [rl c,AU,AE,AL a,AE,AL g,f,if_pos e,Af (by omega)]
 ·intro e;simp only;rw [rl c,AU,AE,AL a,AE,AL g,f,if_neg e]
theorem QQ (s t:ET) (j:s.1.length<=1000) (g:s.2.1.length<=1000):Fc (s,t)=some (decide (s=t)):=by
 obtain ⟨c,d,l⟩:=s;obtain ⟨b,f,k⟩:=t;simp only at j g;unfold Fc;simp only [AX,AR];rw [AP];by_cases e1:(c.length:Int)=(b.length:Int);rotate_left
 ·rw [if_neg e1];have : ¬ c=b:=λe=>e1 (by rw [e]);simp [this]
 rw [if_pos e1,AP];by_cases e2:l=k;rotate_left
 ·rw [if_neg e2];simp [e2]
 rw [if_pos e2,QP,JV _ _ (by omega),AB,C5,C9];by_cases e3:d=f;rotate_left
 ·rw [if_pos e3];simp [e3]
 rw [if_neg (show ¬ ¬ d=f by simp [e3])];obtain ⟨r,i,a⟩:=Wj c b (by omega) (by omega);refine BH i ?_;rw [Cc];rcases a with ⟨e,a⟩ | ⟨e,a,h⟩
 ·rw [if_neg (show ¬ r.1=0 by omega)];simp [e,e2,e3]
 ·rw [if_pos a,h];simp [e]
theorem U8 (s t:AM) (u:s.1.length<=1000) (h : ∀ l∈s.1,l.length<=1000000) (B:s.2.1.length<=1000) (p:s.2.2.1.length<=1000) (o:s.2.2.2.1.length<=1000):Gw (s,t)=some (decide (s=t)):=by
 obtain ⟨a,g,m⟩:=s;obtain ⟨c,i,q⟩:=t;simp only at u h B p o;unfold Gw;simp only [AX,AR];rw [AP];by_cases e1:(a.length:Int)=(c.length:Int);rotate_left
 ·rw [if_neg e1];have : ¬ a=c:=λe=>e1 (by rw [e]);simp [this]
 rw [if_pos e1,QP,JV _ _ (by omega),AB,C5,C9];by_cases e2:g=i;rotate_left
 ·rw [if_pos e2];simp [e2]
 rw [if_neg (show ¬ ¬ g=i by simp [e2]),QQ _ _ p o,AB,C5,C9];by_cases e3:m=q;rotate_left
 ·rw [if_pos e3];simp [e3]
 rw [if_neg (show ¬ ¬ m=q by simp [e3])]
 obtain ⟨r,C,b⟩:=JU a c (by omega) (by omega) (f:=λs2=>br (Ak s2.1 (a.length:Int)) (λ_=>AT s2.1 λG=>ix a G λF=>AT s2.1 λw=>ix c w λD=>bd (B6 (F,D)) λz=>br (Ad z) (λ_=>some (.dn ((0,((s2.1,false),()))))) λ_=>some (.nx (AI .i64 s2.1 1,s2.2))) λ_=>some (.dn ((1,(s2,()))))) (λk x y d n=>by
   have j:=(List.getElem?_eq_some_iff.1 d).1;have A:=h x (List.mem_of_getElem? d);constructor
   ·intro e;simp only;rw [rl j,AU,AE,AL d,AE,AL n,Hd,G3 _ _ (by omega),AB,C5,C9,if_neg (by simp [e]),Af (by omega)]
   ·intro e;simp only
    rw [rl j,AU,AE,AL d,AE,AL n,Hd,G3 _ _ (by omega),AB,C5,C9,if_pos e]) (by simp only;rw [re];rfl)
 refine BH C ?_;rw [Cc];rcases b with ⟨e,b⟩ | ⟨e,b,E⟩
 ·rw [if_neg (show ¬ r.1=0 by omega)];simp [e,e2,e3]
 ·rw [if_pos b,E];simp [e]
theorem QR (x y:H3) (d:x.1.1.length<=1000) (c : ∀ l∈x.1.1,l.length<=1000000) (e:x.1.2.1.length<=1000) (b:x.1.2.2.1.length<=1000) (a:x.1.2.2.2.1.length<=1000) (f:x.2.2.1.length<=1000000):Ba (x,y)=some (decide (x=y)):=by
 obtain ⟨m,⟨xs,n,j⟩,g,h⟩:=x;obtain ⟨o,⟨i,p,q⟩,r,k⟩:=y;simp only at d c e b a f;unfold Ba;simp only [U8 _ _ d c e b a,Hd,G3 _ _ (show g.length<=9223372036854775806 by omega),AB,C9,Db,MP,beq_eq,NT,J4]
 repeat' split
 all_goals simp_all
section
variable {a b:List AD} (va:VL a) (vb:VL b)
include va vb
theorem MW:Dv [a,b]=some (0,0):=by
 have c:=va.len;have d:=vb.len;unfold Dv;refine Eq.trans (b:=bd (loop _ (0,(0,0))) _) rfl ?_;refine BH (x:=(1,((0,(0,2)),()))) (Cu (s1:=(0,(0,1))) (s2:=(0,(0,2))) ?_ ?_ rfl) rfl
 ·refine (O5 0 rfl rfl (x:=a) rfl).trans ?_;rw [HQ _ (by omega),Kt va,AB];rfl
 ·refine (O5 1 rfl rfl (x:=b) rfl).trans ?_;rw [HQ _ (by omega),Kt vb,AB];rfl
theorem J5 {i j:Nat} (hi:i<=a.length) (l:j<=b.length):Dw ([a,b],[(i:Int),(j:Int)])=some (if i=a.length/\j=b.length then -1 else if H8 a b i j=true then 0 else 1):=by
 have k:=va.len;have g:=vb.len;unfold Dw;simp only [AX,AR];refine BH (x:=(0,((if i=a.length/\j=b.length then -1 else if H8 a b i j=true then 0 else 1,2),()))) (Cu (s1:=(if i=a.length then -1 else 0,1)) (s2:=(if i=a.length/\j=b.length then -1 else if H8 a b i j=true then 0 else 1,2)) ?_ ?_ rfl) rfl
 ·refine (O5 0 rfl rfl (x:=(i:Int)) rfl).trans ((FN 0 rfl (x:=a) rfl).trans ?_);rw [A1];by_cases h:i=a.length
  ·rw [if_neg (by omega),if_pos h];rfl
  ·rw [if_pos (by omega),if_neg h];rfl
 ·refine (O5 1 rfl rfl (x:=(j:Int)) rfl).trans ((FN 1 rfl (x:=b) rfl).trans ?_);rw [A1];by_cases h:j=b.length
  ·rw [if_neg (by omega)];by_cases c:i=a.length
   ·rw [if_pos c,if_pos ⟨c,h⟩];rfl
   ·rw [if_neg c,if_neg (λe=>c e.1)];have d:a[i]? = some (a[i]'(by omega)):=by simp
    rw [Yc d (List.getElem?_eq_none (by omega))];rfl
  ·have f:b[j]? = some (b[j]'(by omega)):=by simp
   rw [if_pos (by omega),A1,if_neg (λe:i=a.length/\j=b.length=>h e.2)];by_cases c:i=a.length
   ·rw [if_pos c,if_pos (by omega),Yd (List.getElem?_eq_none (by omega)) f];rfl
   ·rw [if_neg c,if_neg (by omega)];have d:a[i]? = some (a[i]'(by omega)):=by simp
    refine (FN 1 rfl (x:=b) rfl).trans ((FN 1 rfl (x:=(j:Int)) rfl).trans ((FN j rfl f).trans ((FN 0 rfl (x:=a) rfl).trans ((FN 0 rfl (x:=(i:Int)) rfl).trans ((FN i rfl d).trans ?_)))));rw [HM,QG d f];cases hs:Cy (b[j]'(by omega)).1 (a[i]'(by omega)).1<;>rfl
theorem J6 {i j:Nat} (hi:i<=a.length) (f:j<=b.length):DH ([a,b],[(i:Int),(j:Int)])=some (Mb a b i j):=by
 have e:=va.len;have g:=vb.len;unfold DH;simp only [AX,AR];rw [Bj (show [a,b].length<=1048576 from (show 2<=1048576 by omega)),Bj (show [(i:Int),(j:Int)].length<=1048576 from (show 2<=1048576 by omega))];refine BH (x:=(0,((2,[kx a i,kx b j]),()))) (Cu (s1:=(1,[kx a i])) (s2:=(2,[kx a i,kx b j])) ?_ ?_ rfl) ?_
 ·refine (O5 0 rfl rfl (x:=(i:Int)) rfl).trans ((FN 0 rfl (x:=a) rfl).trans ?_);rw [Db,C5,C9];by_cases h:i=a.length
  ·have c:((i:Int)=(a.length:Int)):=by omega
   rw [if_neg (show ¬ ¬ ((i:Int)=(a.length:Int)) by simp [c]),NS (List.getElem?_eq_none (by omega))];simp only [c,decide_true];rfl
  ·have d:a[i]? = some (a[i]'(by omega)):=by simp
   have c : ¬ ((i:Int)=(a.length:Int)):=by omega
   rw [if_pos c];refine (FN 0 rfl (x:=a) rfl).trans ((FN 0 rfl (x:=(i:Int)) rfl).trans ((FN i rfl d).trans ?_));rw [G1 d];simp only [c,decide_false];rfl
 ·refine (O5 1 rfl rfl (x:=(j:Int)) rfl).trans ((FN 1 rfl (x:=b) rfl).trans ?_);rw [Db,C5,C9];by_cases h:j=b.length
  ·have c:((j:Int)=(b.length:Int)):=by omega
   rw [if_neg (show ¬ ¬ ((j:Int)=(b.length:Int)) by simp [c]),NS (l:=b) (i:=j) (List.getElem?_eq_none (by omega))];simp only [c,decide_true];rfl
  ·have d:b[j]? = some (b[j]'(by omega)):=by simp
   have c : ¬ ((j:Int)=(b.length:Int)):=by omega
   rw [if_pos c];refine (FN 1 rfl (x:=b) rfl).trans ((FN 1 rfl (x:=(j:Int)) rfl).trans ((FN j rfl d).trans ?_));rw [G1 (l:=b) (i:=j) d];simp only [c,decide_false];rfl
 ·show bd (Ep [kx a i,kx b j]) _=_;rw [Z0 _ _ (Bo _ _) (Bo _ _)];rfl
theorem Yk {i:Nat} {l:List AD} (h:i≠0) (hi:i<=l.length) : ∃ x,l[i-1]? = some x:=⟨l[i-1]'(by omega),by simp⟩
theorem OU {i j:Nat} (I:Inv a b i j):Dx (Mb a b i j)=some (0,0):=by
 have t:=va.len;have u:=vb.len;have hi:=I.ia;have k:=I.jb;unfold Dx;rw [show (Mb a b i j).1=[a,b] from rfl,MW va vb,AB,AP,if_pos rfl];rw [show (Mb a b i j).2.1=[(i:Int),(j:Int)] from rfl,AP,if_pos (show Ab (AA [(i:Int),(j:Int)])=Ab (AA [a,b]) from rfl)];refine BH (x:=(1,((0,(0,2)),()))) (Cu (s1:=(0,(0,1))) (s2:=(0,(0,2))) ?_ ?_ rfl) ?_
 ·refine (O5 0 rfl rfl (x:=(i:Int)) rfl).trans ?_;rw [A1,if_neg (by omega)];refine (FN 0 rfl (x:=(i:Int)) rfl).trans ((FN 0 rfl (x:=a) rfl).trans ?_);rw [Am,if_neg (by simp only [AX,AR];omega)];rfl
 ·refine (O5 1 rfl rfl (x:=(j:Int)) rfl).trans ?_;rw [A1,if_neg (by omega)];refine (FN 1 rfl (x:=(j:Int)) rfl).trans ((FN 1 rfl (x:=b) rfl).trans ?_);rw [Am,if_neg (by simp only [AX,AR];omega)];rfl
 rw [show neq ((1:Nat),(((0:Int),((0:Int),(2:Int))),())).1 0=false from rfl,Av,J6 va vb hi k,AB,QQ (Mb a b i j).2.2 (Mb a b i j).2.2 (show 2<=1000 by omega) (show 2<=1000 by omega),AB,C5,C9,if_neg (show ¬ ¬ (Mb a b i j).2.2=(Mb a b i j).2.2 by simp),J5 va vb hi k,AB];by_cases r:i=a.length/\j=b.length
 ·rw [if_pos r];refine BH (x:=(1,((0,(0,0)),()))) (Cm (n:=1) (by omega) (BY ?_)) rfl;rfl
 rw [if_neg r];cases g:H8 a b i j with
 | true =>
  rw [if_pos rfl]
  have q:i<a.length:=by
   refine Nat.lt_of_not_le λh' => ?_;have p:j<b.length:=by omega
   rw [Yd (List.getElem?_eq_none h') (show b[j]? = some (b[j]'p) by simp)] at g;cases g
  have e:a[i]? = some (a[i]'q):=by simp
  refine BH (x:=(1,((0,(0,2)),()))) (Cu (s1:=(0,(0,1))) (s2:=(0,(0,2))) ?_ ?_ rfl) rfl
  ·show br (Ak (0:Int) 2) _ _=_;rw [A1,if_pos (by omega),EK,if_pos (by omega)];refine (FN 0 rfl (x:=(i:Int)) rfl).trans ?_;rw [A2];by_cases f:i=0
   ·rw [if_pos (by omega)];rfl
   ·rw [if_neg (by omega)];obtain ⟨y,d⟩:=Yk va vb (l:=a) f hi;refine (FN 0 rfl (x:=a) rfl).trans ((FN 0 rfl (x:=(i:Int)) rfl).trans ?_);rw [show CA .i64 (i:Int) 1=((i-1:Nat):Int) by rw [CR (by omega)];omega,AE,AL d];refine (FN 0 rfl (x:=a) rfl).trans ((FN 0 rfl (x:=(i:Int)) rfl).trans ((FN i rfl e).trans ?_));have c:=va.lt d (show a[i-1+1]? = some _ by rw [show i-1+1=i by omega];exact e);rw [HM,if_neg (by rw [C3 c];simp),FL,if_neg (Kr c)];rfl
  ·show br (Ak (1:Int) 2) _ _=_;rw [A1,if_pos (by omega),EK,if_pos (by omega)];refine (FN 1 rfl (x:=(j:Int)) rfl).trans ?_;rw [A2];by_cases f:j=0
   ·rw [if_pos (by omega)];rfl
   ·rw [if_neg (by omega)];obtain ⟨y,d⟩:=Yk va vb (l:=b) f k;refine (FN 1 rfl (x:=b) rfl).trans ((FN 1 rfl (x:=(j:Int)) rfl).trans ?_);rw [show CA .i64 (j:Int) 1=((j-1:Nat):Int) by rw [CR (by omega)];omega,AE,AL d];refine (FN 0 rfl (x:=a) rfl).trans ((FN 0 rfl (x:=(i:Int)) rfl).trans ((FN i rfl e).trans ?_));have c:=I.pb (j-1) (by omega) y _ d e;rw [HM,if_neg (by rw [C3 c];simp),FL,if_neg (Kr c)];rfl
 | false =>
  rw [if_neg (by simp)]
  have h:j<b.length:=by
   refine Nat.lt_of_not_le λh' => ?_;have m:i<a.length:=by omega
   rw [Yc (show a[i]? = some (a[i]'m) by simp) (List.getElem?_eq_none h')] at g;cases g
  have e:b[j]? = some (b[j]'h):=by simp
  refine BH (x:=(1,((0,(0,2)),()))) (Cu (s1:=(0,(0,1))) (s2:=(0,(0,2))) ?_ ?_ rfl) rfl
  ·show br (Ak (0:Int) 2) _ _=_;rw [A1,if_pos (by omega),EK,if_pos (by omega)];refine (FN 0 rfl (x:=(i:Int)) rfl).trans ?_;rw [A2];by_cases f:i=0
   ·rw [if_pos (by omega)];rfl
   ·rw [if_neg (by omega)];obtain ⟨y,d⟩:=Yk va vb (l:=a) f hi;refine (FN 0 rfl (x:=a) rfl).trans ((FN 0 rfl (x:=(i:Int)) rfl).trans ?_);rw [show CA .i64 (i:Int) 1=((i-1:Nat):Int) by rw [CR (by omega)];omega,AE,AL d];refine (FN 1 rfl (x:=b) rfl).trans ((FN 1 rfl (x:=(j:Int)) rfl).trans ((FN j rfl e).trans ?_));have o:=I.pa (i-1) (by omega) y _ d e;rw [HM,if_neg (by rw [o];simp),FL];by_cases s:y.1=(b[j]'h).1
    ·rw [if_pos s];rfl
    ·rw [if_neg s];rfl
  ·show br (Ak (1:Int) 2) _ _=_;rw [A1,if_pos (by omega),EK,if_pos (by omega)];refine (FN 1 rfl (x:=(j:Int)) rfl).trans ?_;rw [A2];by_cases f:j=0
   ·rw [if_pos (by omega)];rfl
   ·rw [if_neg (by omega)];obtain ⟨y,d⟩:=Yk va vb (l:=b) f k;refine (FN 1 rfl (x:=b) rfl).trans ((FN 1 rfl (x:=(j:Int)) rfl).trans ?_);rw [show CA .i64 (j:Int) 1=((j-1:Nat):Int) by rw [CR (by omega)];omega,AE,AL d];refine (FN 1 rfl (x:=b) rfl).trans ((FN 1 rfl (x:=(j:Int)) rfl).trans ((FN j rfl e).trans ?_));have c:=vb.lt d (show b[j-1+1]? = some _ by rw [show j-1+1=j by omega];exact e);rw [HM,if_neg (by rw [C3 c];simp),FL,if_neg (Kr c)];rfl
end
end Go.Proofs.YtfilfloanndddaaGreat.Pl
namespace Go.Proofs.YtfilfloanndddaaGreat.Pl
open Go Go.Proofs.YtfilfloanndddaaGreat.Sv
section
variable {a b:List AD} (va:VL a) (vb:VL b)
include va vb
theorem dq {n:Nat} {x:AD} (h:n<a.length+b.length) (d:Ox a b n=some x):EW (MT a b n)=some (x,((QH a b n:Int),(MT a b (n+1),0))):=by
 obtain ⟨i,hs⟩:=FM va vb (n:=n) (by omega);obtain ⟨j,k⟩:=FM va vb (n:=n+1) (by omega);have l:=va.len;have m:=vb.len;have e:=i.ia;have f:=i.jb;unfold EW;rw [show MT a b n=Mb a b (Ap a b n).1 (Ap a b n).2 from rfl,OU va vb i,AB,AP,if_pos rfl,show (Mb a b (Ap a b n).1 (Ap a b n).2).1=[a,b] from rfl,show (Mb a b (Ap a b n).1 (Ap a b n).2).2.1=[((Ap a b n).1:Int),((Ap a b n).2:Int)] from rfl,J5 va vb e f,AB,if_neg (λhh:(Ap a b n).1=a.length/\(Ap a b n).2=b.length=>by omega)];unfold Ox at d;have c:Ap a b (n+1)=if H8 a b (Ap a b n).1 (Ap a b n).2=true then ((Ap a b n).1+1,(Ap a b n).2) else ((Ap a b n).1,(Ap a b n).2+1):=rfl
 unfold MT QH;cases g:H8 a b (Ap a b n).1 (Ap a b n).2 with
 | true =>
  rw [g,if_pos rfl] at c;rw [g,if_pos rfl] at d;have hi:=(List.getElem?_eq_some_iff.1 d).1;rw [if_pos rfl,A1,if_neg (by omega),Bj (show AA [((Ap a b n).1:Int),((Ap a b n).2:Int)]<=1048576 from (show 2<=1048576 by omega))];refine (Kv 0 rfl (x:=((Ap a b n).1:Int)) rfl).trans ((Kv 0 rfl (x:=((Ap a b n).1:Int)) rfl).trans ((FN 0 rfl (x:=a) rfl).trans ((FN 0 rfl (x:=((Ap a b n).1:Int)) rfl).trans ((FN _ rfl d).trans ?_))));rw [Af (by omega),show lset [((Ap a b n).1:Int),((Ap a b n).2:Int)] 0 (((Ap a b n).1+1:Nat):Int)=[(((Ap a b n).1+1:Nat):Int),((Ap a b n).2:Int)] from rfl,J6 va vb (by omega) f,AB,c];rfl
 | false =>
  rw [g,if_neg (by simp)] at c;rw [g,if_neg (by simp)] at d;have hi:=(List.getElem?_eq_some_iff.1 d).1;rw [if_neg (by simp),A1,if_neg (by omega),Bj (show AA [((Ap a b n).1:Int),((Ap a b n).2:Int)]<=1048576 from (show 2<=1048576 by omega))];refine (Kv 1 rfl (x:=((Ap a b n).2:Int)) rfl).trans ((Kv 1 rfl (x:=((Ap a b n).2:Int)) rfl).trans ((FN 1 rfl (x:=b) rfl).trans ((FN 1 rfl (x:=((Ap a b n).2:Int)) rfl).trans ((FN _ rfl d).trans ?_))));rw [Af (by omega),show lset [((Ap a b n).1:Int),((Ap a b n).2:Int)] 1 (((Ap a b n).2+1:Nat):Int)=[((Ap a b n).1:Int),(((Ap a b n).2+1:Nat):Int)] from rfl,J6 va vb e (by omega),AB,c];rfl
theorem dt {n:Nat} (h:n<=a.length+b.length):Gv (MT a b n)=some (((a.length+b.length-n:Nat):Int),0):=by
 obtain ⟨c,hs⟩:=FM va vb (n:=n) h;have f:=va.len;have d:=vb.len;have g:=c.ia;have e:=c.jb;unfold Gv;rw [show MT a b n=Mb a b (Ap a b n).1 (Ap a b n).2 from rfl,OU va vb c,AB,AP,if_pos rfl];refine BH (x:=(0,((2,((a.length+b.length-n:Nat):Int)),()))) (Cu (s1:=(1,(a.length:Int)-((Ap a b n).1:Int))) (s2:=(2,((a.length+b.length-n:Nat):Int))) ?_ ?_ rfl) rfl
 ·refine (O5 0 rfl rfl (x:=a) rfl).trans ((FN 0 rfl (x:=((Ap a b n).1:Int)) rfl).trans ?_);simp only [AX,AR];rw [show AI .i64 (0:Int) (a.length:Int)=(a.length:Int) by rw [DV (by omega),Int.zero_add],CR (by omega)];rfl
 ·refine (O5 1 rfl rfl (x:=b) rfl).trans ((FN 1 rfl (x:=((Ap a b n).2:Int)) rfl).trans ?_);simp only [AX,AR];show some (LR.nx ((2:Int),CA .i64 (AI .i64 ((a.length:Int)-((Ap a b n).1:Int)) (b.length:Int)) ((Ap a b n).2:Int)))=_;rw [DV (by omega),CR (by omega),show (a.length:Int)-((Ap a b n).1:Int)+(b.length:Int)-((Ap a b n).2:Int)=((a.length+b.length-n:Nat):Int) by omega]
theorem Yl:FG [a,b]=some (A3 a b (a.length+b.length),(IT a b (a.length+b.length),0)):=by
 have l:=va.len;have m:=vb.len;unfold FG;rw [MW va vb,AB,AP,if_pos rfl];refine Eq.trans (b:=bd (loop _ ([],([],([],(0,([],[0,0])))))) _) rfl ?_
 refine BH (x:=(0,((IT a b (a.length+b.length),(A3 a b (a.length+b.length),0)),())))
  (JT (λk=>([],(A3 a b k,([],(0,(IT a b k,[((Ap a b k).1:Int),((Ap a b k).2:Int)])))))) 0 (a.length+b.length) rfl (by omega) (by omega) (λk _ j => ?_) ?_) rfl
 ·obtain ⟨x,c,_⟩:=EB va vb (n:=k) j;obtain ⟨d,hs⟩:=FM va vb (n:=k) (by omega);have f:(A3 a b k).length=k:=C4 va vb (by omega);have e:=OO a b k;simp only;rw [J5 va vb d.ia d.jb,AB,if_neg (λhh:(Ap a b k).1=a.length/\(Ap a b k).2=b.length=>by omega)];rw [GG va vb c];unfold Ox at c;rw [show IT a b (k+1)=IT a b k++[(QH a b k:Int)] from rfl];unfold QH;rw [show Ap a b (k+1)=if H8 a b (Ap a b k).1 (Ap a b k).2=true then ((Ap a b k).1+1,(Ap a b k).2) else ((Ap a b k).1,(Ap a b k).2+1) from rfl]
  have h : ∀ {β:Type} (y:AD) (q:Unit->Option β),gd (BP (Ag (AA (A3 a b k)) (AA [y])) 1048576) q=q ():=λy q=>Bj (by simp only [Ag,AA,f,List.length_cons,List.length_nil];omega) q;have i : ∀ {β:Type} (y:Int) (q:Unit->Option β),gd (BP (Ag (AA (IT a b k)) (AA [y])) 1048576) q=q ():=λy q=>Bj (by simp only [Ag,AA,e,List.length_cons,List.length_nil];omega) q;cases g:H8 a b (Ap a b k).1 (Ap a b k).2 with
  | true =>
   rw [g,if_pos rfl] at c;have hi:=(List.getElem?_eq_some_iff.1 c).1;simp only [if_true];rw [A1,if_neg (by omega)];refine (FN 0 rfl (x:=a) rfl).trans ((Kv 0 rfl (x:=((Ap a b k).1:Int)) rfl).trans ((FN _ rfl c).trans ?_));rw [h,i];refine (Kv 0 rfl (x:=((Ap a b k).1:Int)) rfl).trans ((Kv 0 rfl (x:=((Ap a b k).1:Int)) rfl).trans ?_);rw [Af (by omega)];rfl
  | false =>
   rw [g,if_neg (by simp)] at c;have hi:=(List.getElem?_eq_some_iff.1 c).1;simp only [Bool.false_eq_true,if_false];rw [A1,if_neg (by omega)];refine (FN 1 rfl (x:=b) rfl).trans ((Kv 1 rfl (x:=((Ap a b k).2:Int)) rfl).trans ((FN _ rfl c).trans ?_));rw [h,i];refine (Kv 1 rfl (x:=((Ap a b k).2:Int)) rfl).trans ((Kv 1 rfl (x:=((Ap a b k).2:Int)) rfl).trans ?_);rw [Af (by omega)];rfl
 ·obtain ⟨d,hs⟩:=FM va vb (n:=a.length+b.length) (Nat.le_refl _);simp only;rw [J5 va vb d.ia d.jb,AB,if_pos (show (Ap a b (a.length+b.length)).1=a.length/\(Ap a b (a.length+b.length)).2=b.length by have:=d.ia;have:=d.jb;omega),A1,if_pos (by omega)]
end
theorem U9 {s:B0} (b:s.2.1.length<=32) (a:s.1=false->s.2.1=[]):Fv s=some 0:=by
 unfold Fv;rw [Am,if_neg (by simp only [AX,J1];omega),BX,Es];cases h:s.1 with
 | true=>rfl
 | false=>rw [if_neg (by simp),BX,FL,if_pos (a h)]
theorem Wk {s:B0} {x:AD} (g:s.2.1.length<=32) (e:s.1=false->s.2.1=[]) (h:kE x=0) (b:s.1=true->Cy x.1 s.2.1=false):Gu (s,x)=some (keep s x,((true,(x.1,s.2.2)),0)):=by
 unfold Gu keep;rw [U9 g e,AB,A2,if_pos rfl,NU,h,AB,A2,if_pos rfl];obtain ⟨s1,s2,a⟩:=s;obtain ⟨f,j,c,i⟩:=x;simp only at b ⊢;cases s1 with
 | true =>
  have:=b rfl;simp only [AU,HM,this,Bool.false_eq_true,if_false,AP,if_true,BX,FL];by_cases d:f=s2
  ·simp [d,Av]
  ·simp only [d,if_false,decide_false];cases a<;>cases c<;>rfl
 | false =>
  simp only [Av,AP,if_true,BX];cases a<;>cases c<;>rfl
theorem Wl {l:List AD} {b:Bool} (u:l.length<=20000) (r:ON (false,([],b)) l):FH (l,b)=some (E1 (false,([],b)) l,(0,0)):=by
 unfold FH DI;simp only [AX,AR];rw [Am,if_neg (by omega),AB]
 rw [DS (l:=l) (σ:=B0×List AD) (s:=(0,(0,([],([],(0,(false,([],b)))))))) (λk a=>((0:Int),((k:Int),(([]:List AD),(a.2,((0:Int),a.1))))))
  (λm k a=>ON a.1 m/\a.1.2.1.length<=32/\(a.1.1=false->a.1.2.1=[])/\a.2.length<=k/\k+m.length=l.length)
  (λm k a=>(1,((0,((l.length:Int),([],(a.2++E1 a.1 m,(0,Ce a.1 m))))),()))) ((false,([],b)),[]) rfl (by omega) ⟨r,by simp,λ_=>rfl,by simp,by simp⟩ ?_ ?_,AB]
 ·simp;rfl
 ·intro a _;simp only;rw [re,Av];simp [Ce,E1]
 ·rintro k x m ⟨s,out⟩ t c q ⟨⟨d,i,e⟩,j,g,n,f⟩;simp only at d i e j g n ⊢;refine ⟨((true,(x.1,s.2.2)),out++if keep s x=true then [x] else []),?_,⟨e,QK d,(λh=>by cases h),?_,by simp at f;omega⟩,?_⟩
  ·rw [rl q,AU,AE,AL c,Wk j g d i,AB,AP,if_pos rfl,Es,AE,AL c];have p : ∀ {β:Type} (k:Unit->Option β),gd (BP (Ag out.length [x].length) 1048576) k=k ():=λk=>Yh n (by simp at f;omega) x k;rw [p,Ao c (show l.length<=9223372036854775807 by omega)];cases o:keep s x<;>simp [Bu]
  ·split<;>simp<;>omega
  ·simp only [Ce,E1,List.append_assoc]
section
variable {a b:List AD} (va:VL a) (vb:VL b)
include va vb
theorem Rt (c:Bool) {n:Nat} (h:n<=a.length+b.length):DO (A3 a b n,c)=some (E1 (s0 c) (A3 a b n),Ce (s0 c) (A3 a b n)):=by
 have f:=va.len;have g:=vb.len;have d:(A3 a b n).length=n:=C4 va vb h;unfold DO;simp only [AX,AR];rw [Wl (by omega) (HP va vb c h),AB];unfold DI;rw [AB,Am,d];cases n with
 | zero=>rw [if_neg (by omega)];rfl
 | succ m =>
  obtain ⟨x,e,_⟩:=EB va vb (n:=m) (by omega);rw [if_pos (by omega),show CA .i64 ((m+1:Nat):Int) 1=(m:Int) by rw [CR (by omega)];omega,AE,AL (x:=x) (by rw [JR va vb h (by omega)];exact e),Kw va vb c e]
theorem VA (c:Bool) {n:Nat} (h:n<=a.length+b.length):EV (DY a b c n)=some (n:Int):=by
 obtain ⟨f,hs⟩:=FM va vb (n:=n) h;have d:=va.len;have e:=vb.len;unfold EV;refine BH (x:=(0,(((n:Int),2),()))) (Cu (s1:=(((Ap a b n).1:Int),1)) (s2:=((n:Int),2)) ?_ ?_ rfl) rfl
 ·refine (O5 0 rfl rfl (x:=((Ap a b n).1:Int)) rfl).trans ?_;show some (LR.nx (AI .i64 0 ((Ap a b n).1:Int),(1:Int)))=_;rw [DV (by omega),Int.zero_add]
 ·refine (O5 1 rfl rfl (x:=((Ap a b n).2:Int)) rfl).trans ?_;show some (LR.nx (AI .i64 ((Ap a b n).1:Int) ((Ap a b n).2:Int),(2:Int)))=_;rw [DV (by omega),show ((Ap a b n).1:Int)+((Ap a b n).2:Int)=(n:Int) by omega]
theorem VB (c:Bool) {n:Nat} (h:n<=a.length+b.length):Fw (DY a b c n)=some 0:=by
 obtain ⟨e,hs⟩:=FM va vb (n:=n) h;have g:=va.len;have i:=vb.len;have d:=JS (s0 c) (A3 a b n);have f:(A3 a b n).length=n:=C4 va vb h;unfold Fw;rw [show (DY a b c n).1=Mb a b (Ap a b n).1 (Ap a b n).2 from rfl,OU va vb e,AB,AP,if_pos rfl,VA va vb c h,AB];simp only [AX,AR];rw [show (DY a b c n).2.2.1=E1 (s0 c) (A3 a b n) from rfl,show (DY a b c n).2.2.2=(n:Int) from rfl,show (DY a b c n).2.1=Ce (s0 c) (A3 a b n) from rfl,Am,if_neg (by omega),Am,if_neg (by omega),AP,if_pos rfl];rw [show (Mb a b (Ap a b n).1 (Ap a b n).2).1=[a,b] from rfl,Yl va vb,AB,AE];rw [Bj (by rw [C4 va vb (Nat.le_refl _)];exact h),Bj (Nat.zero_le _)];rw [show EI (A3 a b (a.length+b.length)) 0 n=A3 a b n from by unfold EI;rw [List.drop_zero,Nat.sub_zero];exact Hx va vb h,G2];rw [show (s0 c).2.2=c from rfl,Rt va vb c h,AB,Hd,G3 _ _ (by omega),AB,C5,C9,if_neg (by simp),G2,Ip,Ip,J2];rfl
theorem MX (c:Bool) {n:Nat} (h:n<=a.length+b.length):BN (DY a b c n)=some (((a.length+b.length-n:Nat):Int),0):=by
 unfold BN;rw [VB va vb c h,AB,AP,if_pos rfl,show (DY a b c n).1=MT a b n from rfl,dt va vb h];rfl
theorem QS (c:Bool) {n:Nat} (h:n<=a.length+b.length) {k:Nat}:BE (DY a b c n,(k:Int))=some (DY a b c (n+min k (a.length+b.length-n)),(((min k (a.length+b.length-n):Nat):Int),0)):=by
 have g:=va.len;have l:=vb.len;obtain ⟨u,e⟩ : ∃ u,u=min k (a.length+b.length-n):=⟨_,rfl⟩
 have d:Ok (k:Int) ((a.length+b.length-n:Nat):Int)=(u:Int):=by
  unfold Ok;split<;>omega
 rw [<- e];unfold BE;rw [MX va vb c h,AB,A2,if_pos rfl];simp only [d,AX,AR];rw [A1,if_neg (by omega),AP,if_pos rfl,VA va vb c h,AB,DV (by omega),Am,if_neg (by omega)]
 refine BH (x:=(0,(((u:Int),((MT a b (n+u)).1,((MT a b (n+u)).2.1,((MT a b (n+u)).2.2.1,((MT a b (n+u)).2.2.2.1,((MT a b (n+u)).2.2.2.2,((DY a b c n).2.1.1,((DY a b c n).2.1.2.1,((DY a b c n).2.1.2.2,(DY a b c n).2.2))))))))),())))
  (JT (λj=>((j:Int),((MT a b (n+j)).1,((MT a b (n+j)).2.1,((MT a b (n+j)).2.2.1,((MT a b (n+j)).2.2.2.1,((MT a b (n+j)).2.2.2.2,((DY a b c n).2.1.1,((DY a b c n).2.1.2.1,((DY a b c n).2.1.2.2,(DY a b c n).2.2)))))))))) 0 u rfl (by omega) (by omega) (λj _ i => ?_) ?_) ?_
 ·obtain ⟨y,f,_⟩:=EB va vb (n:=n+j) (by omega);show br (Ak (j:Int) (u:Int)) _ _=_;rw [A1,if_pos (by omega)];show bd (EW (MT a b (n+j))) _=_;rw [dq va vb (by omega) f,AB,Af (by omega)];rfl
 ·show br (Ak (u:Int) (u:Int)) _ _=_;rw [A1,if_neg (by omega)]
 ·rw [show (DY a b c n).1.1=[a,b] from rfl,Yl va vb,AB,show (DY a b c n).2.2.2=(n:Int) from rfl,show AI .i64 (n:Int) (u:Int)=((n+u:Nat):Int) by rw [DV (by omega)];omega,AE];rw [Bj (by rw [C4 va vb (Nat.le_refl _)];omega),Bj (Nat.zero_le _)];rw [show EI (A3 a b (a.length+b.length)) 0 (n+u)=A3 a b (n+u) from by unfold EI;rw [List.drop_zero,Nat.sub_zero];exact Hx va vb (by omega),show (DY a b c n).2.1.2.2=c from G2 _ _,Rt va vb c (by omega),AB];rfl
end
end Go.Proofs.YtfilfloanndddaaGreat.Pl
namespace Go.Proofs.YtfilfloanndddaaGreat.Pl
open Go Go.Proofs.YtfilfloanndddaaGreat.Sv
theorem Ru (B:Int) (i:Nat):CU B (i+1)=2*CU B i:=by
 unfold CU;rw [Int.pow_succ,<- Int.mul_assoc,Int.mul_comm]
theorem VC {B:Int} {i:Nat} (b:1<=B) (a:B<=16) (hi:i<=12):Dk (B,(i:Int))=some (CU B i):=by
 unfold Dk;refine BH (x:=(0,((CU B i,(i:Int)),()))) (IR (λk=>(CU B k,(k:Int))) i (by simp [CU]) (by omega) (λk d => ?_) ?_) rfl
 ·have c:=U4 b a (show k<=12 by omega);simp only;rw [A1,if_pos (by omega),kq (by omega),Af (by omega),Ru]
 ·simp only;rw [A1,if_neg (by omega)]
theorem lC (r:BI) (b:r.2.length<=9223372036854775807):Fs r=some (if r.1<1\/r.1>1000000 then (-1,7) else Fl r.2):=by
 unfold Fs;rw [A1,Am,HQ _ b,AB];by_cases h:r.1<1
 ·rw [if_pos h,if_pos (.inl h)]
 ·rw [if_neg h];by_cases a:r.1>1000000
  ·rw [if_pos a,if_pos (.inr a)]
  ·rw [if_neg a,if_neg (by omega)]
theorem du (r:BI) (b:Int) (a:List Int) (A:r.2.length<=9223372036854775807) (hi:a.length<=1048576):EU (r,(b,a))=some (kR a b r):=by
 unfold EU kR;rw [lC r (by omega),AB];simp only [AX,AR];by_cases h:r.1<1\/r.1>1000000
 ·rw [if_pos h,if_pos h];rfl
 rw [if_neg h,if_neg h,AP];by_cases c:(Fl r.2).2=0;rotate_left
 ·rw [if_neg c,if_pos c]
 rw [if_pos c,if_neg (show ¬ (Fl r.2).2≠0 by simp [c]),A2,Am];by_cases n:r.2.length=0
 ·rw [if_pos (by omega),if_pos n]
 rw [if_neg (by omega),if_neg n];by_cases d:(r.2.length:Int)>b
 ·rw [if_pos d,if_pos d]
 rw [if_neg d,if_neg d]
 obtain ⟨q,o,g⟩:=GH (l:=a) (σ:=Unit) (s:=((0:Int),(0:Int))) (λk _=>((k:Int),(0:Int))) (λm k _=>r.1∈a<->r.1∈m) (λ(q:Nat×((Int×Int)×Unit))=>(q.1=1/\r.1 ∉ a)\/(q.1=0/\r.1∈a/\q.2.1.2=8))
  (f:=λs1=>br (Ak s1.1 (a.length:Int)) (λ_=>AT s1.1 λp=>ix a p λy=>br (A8 y r.1) (λ_=>some (.dn ((0,((s1.1,8),()))))) λ_=>some (.nx (AI .i64 s1.1 1,s1.2))) λ_=>some (.dn ((1,(s1,())))))
  () rfl (by omega) Iff.rfl (λ_ h=>⟨_,by simp only;rw [re];rfl,.inl ⟨rfl,by simpa using h⟩⟩) (λk x m _ z j w h=>by
   simp only;rw [rl w,AU,AE,AL j,A2];by_cases e:x=r.1
   ·rw [if_pos e];exact .inr ⟨_,rfl,.inr ⟨rfl,by rw [h,e];simp,rfl⟩⟩
   ·rw [if_neg e];exact .inl ⟨(),by rw [Ao j (by omega)],by rw [h,List.mem_cons];exact ⟨λu=>u.elim (λe2=>absurd e2.symm e) id,.inr⟩⟩)
 refine BH o ?_;rw [Cc];rcases g with ⟨g,i⟩ | ⟨g,i,t⟩
 ·rw [if_neg (show ¬ q.1=0 by omega),if_neg i]
 ·rw [if_pos g,if_pos i,t]
theorem TE (L:AJ) (hb:L.2.length<=1048576) (hr : ∀ rs∈L.2,rs.length<=1048576 /\ ∀ r∈rs,r.2.length<=9223372036854775807):Ci L=some (Ez L):=by
 unfold Ci Ez;simp only [AX,AR];rw [A1,Am,Am];by_cases n:L.1<1
 ·rw [if_pos n,if_pos (.inl n)]
 rw [if_neg n];by_cases o:L.1>16
 ·rw [if_pos o,if_pos (.inr o)]
 rw [if_neg o,if_neg (show ¬ (L.1<1\/L.1>16) by omega)];by_cases Y:(L.2.length:Int)>12
 ·rw [if_pos Y,if_pos (by omega)]
 rw [if_neg Y,if_neg (by omega)];have hl2:L.2.length<=12:=by omega
 obtain ⟨T,N⟩ : ∃ T,T=Lc L.1 0 [] L.2:=⟨_,rfl⟩;rw [<- N]
 have p:T=none->(br (CD (L.2.length:Int) 0) (λ_=>AT (CA .i64 (L.2.length:Int) 1) λF=>ix L.2 F λK=>br (A8 (K.length:Int) 0) (λ_=>some ((CA .i64 (L.2.length:Int) 1,((0:Int),(6:Int))))) λ_=>some ((0,(0,0)))) λ_=>some ((0,(0,0))))=some (if L.2.getLast? = some [] then (((L.2.length-1:Nat):Int),(0,6)) else (0,(0,0))):=by
  intro _;rw [Am];by_cases W:L.2=[]
  ·rw [W];rfl
  ·have hp:=List.length_pos_iff.2 W;rw [if_pos (by omega),show CA .i64 (L.2.length:Int) 1=((L.2.length-1:Nat):Int) by rw [CR (by omega)];omega,AE,List.getLast?_eq_getElem?];have d:L.2[L.2.length-1]? = some (L.2[L.2.length-1]'(by omega)):=by simp
   rw [AL d,d,A2];by_cases J:L.2[L.2.length-1]'(by omega)=[]
   ·rw [J];simp
   ·rw [if_neg (by have:=List.length_pos_iff.2 J;omega),if_neg (by simp [J])]
 obtain ⟨r,I,j⟩:=GH (l:=L.2) (σ:=List Int) (s:=((0:Int),(([]:List Int),((0:Int),((0:Int),(0:Int)))))) (λi a=>((0:Int),(a,((0:Int),((0:Int),(i:Int))))))
  (λm i a=>Lc L.1 i a m=T/\a.length<=2*i) (λ(r:Nat×((Int×(List Int×(Int×(Int×Int))))×Unit))=>(r.1=1/\T=none)\/(r.1=0/\Q1 T r.2.1.1 r.2.1.2.2.1 r.2.1.2.2.2.1/\T≠none))
  (f:=λ(s0:(Int×((List Int)×(Int×(Int×Int)))))=>br (Ak s0.2.2.2.2 (L.2.length:Int)) (λ_=>AT s0.2.2.2.2 λZ=>ix L.2 Z λA=>br (CD (A.length:Int) 2) (λ_=>some (.dn ((0,((0,(s0.2.1,(s0.2.2.2.2,(3,s0.2.2.2.2)))),()))))) λ_=>bd (loop (λ(b:(Int×((List Int)×(Int×(Int×Int)))))=>br (Ak b.2.2.2.2 (A.length:Int)) (λ_=>AT b.2.2.2.2 λE=>ix A E λC=>bd (Dk (L.1,s0.2.2.2.2)) λG=>bd (EU ((C,(G,b.2.1)))) λw=>br (Ay w 0) (λ_=>some (.dn ((0,((b.2.2.2.2,(b.2.1,(s0.2.2.2.2,(w,b.2.2.2.2)))),()))))) λ_=>AT b.2.2.2.2 λD=>ix A D λx=>gd (BP (Ag b.2.1.length [x.1].length) 1048576) λ_=>some (.nx ((b.1,(Bu b.2.1 [x.1],(b.2.2.1,(b.2.2.2.1,AI .i64 b.2.2.2.2 1))))))) λ_=>some (.dn ((1,(b,()))))) ((s0.1,(s0.2.1,(s0.2.2.1,(s0.2.2.2.1,0)))))) λc=>br (neq c.1 0) (λ_=>some (.dn ((0,((c.2.1.1,(c.2.1.2.1,(c.2.1.2.2.1,(c.2.1.2.2.2.1,s0.2.2.2.2)))),()))))) λ_=>some (.nx ((c.2.1.1,(c.2.1.2.1,(c.2.1.2.2.1,(c.2.1.2.2.2.1,AI .i64 s0.2.2.2.2 1))))))) λ_=>some (.dn ((1,(s0,())))))
  [] rfl (by omega) ⟨N.symm,by simp⟩ (λa h=>by
   refine ⟨_,by simp only;rw [re];rfl,.inl ⟨rfl,?_⟩⟩;rw [<- h.1];rfl) (λi rs m a hd d hi h=>by
   obtain ⟨h,X⟩:=h;simp only;obtain ⟨O,y⟩:=hr rs (List.mem_of_getElem? d);rw [rl hi,AU,AE,AL d,Am];unfold Lc at h;by_cases S:rs.length>2
   ·rw [if_pos (by omega)];rw [if_pos S] at h;refine .inr ⟨_,rfl,.inr ⟨rfl,?_,by rw [<- h];simp⟩⟩;rw [<- h];exact ⟨rfl,rfl,rfl⟩
   rw [if_neg (by omega)];rw [if_neg S] at h;obtain ⟨U,P⟩ : ∃ U,U=Lb (CU L.1 i) 0 a rs:=⟨_,rfl⟩;rw [<- P] at h
   obtain ⟨r,I,j⟩:=GH (l:=rs) (σ:=Unit) (s:=((0:Int),(a,((0:Int),((0:Int),(0:Int)))))) (λk _=>((0:Int),(a++(rs.take k).map (·.1),((0:Int),((0:Int),(k:Int))))))
    (λm k _=>Lb (CU L.1 i) k (a++(rs.take k).map (·.1)) m=U) (λ(r:Nat×((Int×(List Int×(Int×(Int×Int))))×Unit))=>(r.1=1/\U=none/\r.2.1=(0,(a++rs.map (·.1),(0,(0,(rs.length:Int))))))\/(r.1=0 /\ ∃ k e,U=some (k,e)/\r.2.1.1=(k:Int)/\r.2.1.2.2.1=(i:Int)/\r.2.1.2.2.2.1=e))
    (f:=λ(b:(Int×((List Int)×(Int×(Int×Int)))))=>br (Ak b.2.2.2.2 (rs.length:Int)) (λ_=>AT b.2.2.2.2 λE=>ix rs E λC=>bd (Dk (L.1,(i:Int))) λG=>bd (EU ((C,(G,b.2.1)))) λw=>br (Ay w 0) (λ_=>some (.dn ((0,((b.2.2.2.2,(b.2.1,((i:Int),(w,b.2.2.2.2)))),()))))) λ_=>AT b.2.2.2.2 λD=>ix rs D λx=>gd (BP (Ag b.2.1.length [x.1].length) 1048576) λ_=>some (.nx ((b.1,(Bu b.2.1 [x.1],(b.2.2.1,(b.2.2.2.1,AI .i64 b.2.2.2.2 1))))))) λ_=>some (.dn ((1,(b,())))))
    () (by simp) (by omega) (by simp [P]) (λ_ h=>by
     refine ⟨_,by simp only;rw [re];rfl,.inl ⟨rfl,by rw [<- h];rfl,by simp⟩⟩) (λk r m _ hd d hk h=>by
     simp only;have hr2:=y r (List.mem_of_getElem? d);have z:(rs.take (k+1)).map (·.1)=(rs.take k).map (·.1)++[r.1]:=by rw [List.take_add_one,d];simp
     have M:(a++(rs.take k).map (·.1)).length<=100:=by simp;omega
     rw [rl hk,AU,AE,AL d,VC (by omega) (by omega) (by omega),AB,du _ _ _ (by omega) (by omega),AB,AP];unfold Lb at h;by_cases B:kR (a++(rs.take k).map (·.1)) (CU L.1 i) r=0
     ·rw [if_neg (λhh:kR (a++(rs.take k).map (·.1)) (CU L.1 i) r≠0=>hh B)] at h;rw [if_pos B,AE,AL d,Bj (by simp only [Ag,List.length_cons,List.length_nil];omega)];refine .inl ⟨(),?_,?_⟩
      ·rw [Ao d (by omega),z,<- List.append_assoc];rfl
      ·rw [z,<- List.append_assoc];exact h
     ·rw [if_pos B] at h;rw [if_neg B]
      exact .inr ⟨_,rfl,.inr ⟨rfl,_,_,h.symm,rfl,rfl,rfl⟩⟩)
   rw [I,AB,Cc];rcases j with ⟨j,g,u⟩ | ⟨j,k,e,g,u,q5,q6⟩
   ·rw [if_neg (show ¬ r.1=0 by omega),u,Ao d (by omega)];rw [g] at h;exact .inl ⟨a++rs.map (·.1),rfl,h,by simp;omega⟩
   ·rw [if_pos j];rw [g] at h;refine .inr ⟨_,rfl,.inr ⟨rfl,?_,by rw [<- h];simp⟩⟩;rw [<- h]
    exact ⟨u,q5,q6⟩)
 refine BH I ?_;rw [Cc];rcases j with ⟨j,g⟩ | ⟨j,g,u⟩
 ·rw [if_neg (show ¬ r.1=0 by omega),g];exact p g
 ·rw [if_pos j];cases q:T with
  | none=>exact absurd q u
  | some t =>
   obtain ⟨i,k,e⟩:=t;rw [q] at g;rw [g.1,g.2.1,g.2.2]
def Cn (ls:List (List BI)):List BI:=ls.flatMap List.reverse
theorem VLev.small {L:AJ} (v:VLev L):L.2.length<=1048576 /\ ∀ rs∈L.2,rs.length<=1048576 /\ ∀ r∈rs,r.2.length<=9223372036854775807:=by
 refine ⟨by have:=v.len;omega,λrs a => ?_⟩;obtain ⟨i,hi⟩:=List.getElem?_of_mem a;obtain ⟨d,c⟩:=v.lev i rs hi;exact ⟨by omega,λr b=>by have:=(c r b).vl.len;omega⟩
theorem Oz : ∀ (ls:List (List BI)),(∀ rs∈ls,rs.length<=2)->(Cn ls).length<=2*ls.length
 | [],_=>by simp [Cn]
 | rs::ls,h=>by
  have b:=Oz ls λr a=>h r (by simp [a]);have c:=h rs (by simp);unfold Cn at b ⊢;rw [List.flatMap_cons,List.length_append,List.length_reverse,List.length_cons];omega
theorem VLev.two {L:AJ} (v:VLev L) : ∀ rs∈L.2,rs.length<=2:=λrs a=>by
 obtain ⟨i,hi⟩:=List.getElem?_of_mem a;exact (v.lev i rs hi).1
theorem Wm {L:AJ} (v:VLev L):FE L=some (Cn L.2,0):=by
 obtain ⟨c,b⟩:=v.small;have j:=v.len;unfold FE;simp only [AX,AR];rw [TE _ c b,G4 v,AB,AP,if_pos rfl]
 rw [DS (l:=L.2) (σ:=List BI) (s:=(([]:List BI),(0:Int))) (λi m=>(m,(i:Int))) (λls i m=>(∀ rs∈ls,rs.length<=2)/\m.length<=2*i) (λls _ m=>(0,((m++Cn ls,(L.2.length:Int)),()))) [] rfl (by omega) ⟨v.two,by simp⟩ (λm _=>by
  simp only;rw [re,Av];simp [Cn]) (λi rs ls m f a hi h=>by
   refine ⟨m++rs.reverse,?_,⟨λr b=>h.1 r (by simp [b]),by have:=h.1 rs (by simp);simp;omega⟩,by simp [Cn]⟩;have d:=h.1 rs (by simp);have g:m.length<=24:=by have:=h.2;omega
   simp only;rw [rl hi,AU,AE,AL a];have gg : ∀ {β:Type} (z:List BI) (x:BI) (k:Unit->Option β),z.length<=100->gd (BP (Ag z.length [x].length) 1048576) k=k ():=λz x k e=>Bj (by simp only [Ag,List.length_cons,List.length_nil];omega) k
   match rs,d,a with
   | [],_,a =>
    refine BH (x:=(0,((m,-1),()))) (Cm (n:=1) (by omega) (BY rfl)) ?_;rw [Ao a (by omega)];simp
   | [r0],_,a =>
    refine BH (x:=(0,((m++[r0],-1),()))) (Cm (n:=2) (by omega) ((BL (s':=(m++[r0],-1)) ?_).trans (BY rfl))) ?_
    ·show br (HY (0:Int) 0) _ _=_;rw [EK,if_pos (by omega),AE,AL a];refine (FN 0 rfl (x:=r0) rfl).trans ?_;rw [gg m _ _ (by omega)];rfl
    ·rw [Ao a (by omega)];simp
   | [r0,r1],_,a =>
    refine BH (x:=(0,((m++[r1]++[r0],-1),()))) (Cm (n:=3) (by omega) ((BL (s':=(m++[r1],0)) ?_).trans ((BL (s':=(m++[r1]++[r0],-1)) ?_).trans (BY rfl)))) ?_
    ·show br (HY (1:Int) 0) _ _=_;rw [EK,if_pos (by omega),AE,AL a];refine (FN 1 rfl (x:=r1) rfl).trans ?_;rw [gg m _ _ (by omega)];rfl
    ·show br (HY (0:Int) 0) _ _=_;rw [EK,if_pos (by omega),AE,AL a];refine (FN 0 rfl (x:=r0) rfl).trans ?_;rw [gg (m++[r1]) _ _ (by simp;omega)];rfl
    ·rw [Ao a (by omega)];simp),AB]
 simp
theorem G5 (a b:Int):LL a b=max a b:=by unfold LL;split<;>omega
theorem Fz : ∀ (l:List BI) (m:Int),0<=m->l.foldl (λm r=>LL m r.1) m=max m (l.foldl (λm r=>LL m r.1) 0)
 | [],m,h=>by simp;omega
 | r::l,m,h=>by
  have b:=Fz l (LL m r.1) (by rw [G5];omega);have a:=Fz l (LL 0 r.1) (by rw [G5];omega);simp only [List.foldl_cons];rw [b,a,G5,G5];omega
theorem Q5 (l:List BI) (m:Int) (h:0<=m):l.reverse.foldl (λm r=>LL m r.1) m=l.foldl (λm r=>LL m r.1) m:=by
 induction l generalizing m with
 | nil=>rfl
 | cons r l a =>
  rw [List.reverse_cons,List.foldl_append,a m h,List.foldl_cons];simp only [List.foldl_cons,List.foldl_nil];rw [Fz l m h,Fz l (LL m r.1) (by rw [G5];omega),G5,G5];omega
theorem TF (l:List BI) (m:Int) (h:0<=m):0<=l.foldl (λm r=>LL m r.1) m:=by
 rw [Fz l m h];omega
theorem KJ : ∀ (ls:List (List BI)) (m:Int),0<=m->(Cn ls).foldl (λm r=>LL m r.1) m=ls.foldl (λm rs=>rs.foldl (λm r=>LL m r.1) m) m
 | [],m,_=>rfl
 | rs::ls,m,h=>by
  have a:=KJ ls (rs.foldl (λm r=>LL m r.1) m) (TF _ _ h);unfold Cn at a ⊢;rw [List.flatMap_cons,List.foldl_append,Q5 rs m h,List.foldl_cons,a]
theorem TG {L:AJ} (v:VLev L):Cd L=some (Fh L.2):=by
 have e:=v.len;have d:=Oz L.2 v.two;unfold Cd;simp only [AX,AR];rw [Wm v,AB]
 rw [DS (l:=Cn L.2) (σ:=Int) (s:=((0:Int),(0:Int))) (λi m=>(m,(i:Int))) (λ_ _ _=>True) (λl _ m=>(0,((l.foldl (λm r=>LL m r.1) m,((Cn L.2).length:Int)),()))) 0 rfl (by omega) trivial (λm _=>by
  simp only;rw [re,Av];rfl) (λk r l m c a b _=>⟨LL m r.1,by
   simp only
   rw [rl b,AU,AE,AL a,Ao a (by omega)],trivial,rfl⟩),AB]
 rw [KJ _ _ (by omega)];rfl
theorem PM {L:AJ} (f:L.2.length<=1000):Bq L=some (Aa 0 L.2):=by
 unfold Bq;simp only [AX,AR]
 rw [DS (l:=L.2) (σ:=List Int) (s:=(([]:List Int),(0:Int))) (λi m=>(m,(i:Int))) (λls i m=>m++Aa i ls=Aa 0 L.2) (λ_ _ _=>(0,((Aa 0 L.2,(L.2.length:Int)),()))) [] rfl (by omega) rfl (λm h=>by
  simp only;rw [re,Av,<- h];simp [Aa]) (λi rs ls m d b hi h=>by
   refine ⟨m++(if rs.length=2 then [(i:Int)] else []),?_,?_,rfl⟩
   ·simp only;rw [rl hi,AU,AE,AL b,A2]
    have c:m.length<=1000:=by
     have a:=congrArg List.length h;have e:=EC L.2 0;rw [List.length_append] at a;omega
    by_cases a:rs.length=2
    ·rw [if_pos (by omega),if_pos a,Bj (by simp only [Ag,List.length_cons,List.length_nil];omega),Ao b (by omega)];rfl
    ·rw [if_neg (by omega),if_neg a,List.append_nil,Ao b (by omega)]
   ·rw [List.append_assoc];exact h),AB]
theorem ml {L:AJ} (v:VLev L) (k:Int):IQ (L,k)=some (if k<0\/k>=12 then 7 else 0):=by
 obtain ⟨c,d⟩:=v.small;unfold IQ;rw [TE _ c d,G4 v,AB,A2,if_pos rfl,A1,EK];by_cases b:k<0
 ·rw [if_pos b,if_pos (.inl b)]
 ·rw [if_neg b];by_cases a:k>=12
  ·rw [if_pos a,if_pos (.inr a)]
  ·rw [if_neg a,if_neg (by omega)]
theorem QT {L:AJ} (v:VLev L) {n:Nat} (a:n<L.2.length):BT (L,(n:Int))=some (decide ((n:Int)=(L.2.length:Int)-1)):=by
 have b:=v.len;unfold BT HZ;simp only [AX,AR];rw [ml v,AB,if_neg (by omega),AP,if_pos rfl,AB,Af (by omega)];unfold CD;rw [C5];by_cases h:(n:Int)=(L.2.length:Int)-1
 ·simp [h]
 ·simp [h];omega
theorem Wn {a b:List AD} (va:VL a) (d:VL b) (c:Bool):Fu ([a,b],c)=some (DY a b c 0,(0,0)):=by
 unfold Fu Ha DI;rw [MW va d,AB,AP,if_pos rfl];refine Eq.trans (b:=bd (bd (DH ([a,b],[((0:Nat):Int),((0:Nat):Int)])) _) _) rfl ?_;rw [J6 va d (Nat.zero_le _) (Nat.zero_le _)];rfl
theorem Rv {L:AJ} {n:Nat} {a b:BI} (c:Bool) (h:L.2[n]? = some [a,b]) (d:VL a.2) (e:VL b.2):Aw (L,((n:Int),c))=some ((n:Int),DY b.2 a.2 c 0):=by
 have f:=(List.getElem?_eq_some_iff.1 h).1;unfold Aw;simp only [AX,AR];rw [EK,if_neg (by omega),AE,AL h,AL (x:=b) rfl,AL (x:=a) rfl,Wn e d];rfl
theorem lD {L:AJ} {n:Nat} {a b:BI} {j:Job} (h:L.2[n]? = some [a,b]) (d:VL a.2) (e:VL b.2) {β:Type} (A B:Option β) :
  (bd (Aw (L,((n:Int),j.2.2.1.2.2))) λc=>bd (BN c.2) λo=>br (Ak j.2.2.2.2 0) (λ_=>A) λ_=>br (CD j.2.2.2.2 o.1) (λ_=>A) λ_=>bd (BE (c.2,j.2.2.2.2)) λg=>bd (Ba (g.1,j.2)) λl=>br (Ad l) (λ_=>A) λ_=>B)
  = if j.2.2.2.2<0\/j.2.2.2.2>((b.2.length+a.2.length:Nat):Int) then A else if DY b.2 a.2 j.2.2.1.2.2 j.2.2.2.2.toNat=j.2 then B else A:=by
 rw [Rv _ h d e,AB,MX e d _ (Nat.zero_le _),AB,A1,Am,Nat.sub_zero];by_cases m:j.2.2.2.2<0
 ·rw [if_pos m,if_pos (.inl m)]
 rw [if_neg m];by_cases i:j.2.2.2.2>((b.2.length+a.2.length:Nat):Int)
 ·rw [if_pos i,if_pos (.inr i)]
 rw [if_neg i,if_neg (show ¬ (j.2.2.2.2<0\/j.2.2.2.2>((b.2.length+a.2.length:Nat):Int)) by omega)];obtain ⟨k,t⟩ : ∃ k:Nat,j.2.2.2.2=(k:Int):=⟨j.2.2.2.2.toNat,by omega⟩;rw [t,QS e d _ (Nat.zero_le _),AB,Nat.sub_zero,Nat.zero_add,Nat.min_eq_left (by omega),Int.toNat_natCast];obtain ⟨s1,s2,q,r,p,s⟩:=OT e d j.2.2.1.2.2 (n:=k) (by omega);rw [QR _ _ s1 s2 q r p s,AB,C5,C9];by_cases f:DY b.2 a.2 j.2.2.1.2.2 k=j.2
 ·rw [if_neg (by simp [f]),if_pos f]
 ·rw [if_pos f,if_neg f]
end Go.Proofs.YtfilfloanndddaaGreat.Pl
namespace Go.Proofs.YtfilfloanndddaaGreat.Pl
open Go Go.Proofs.YtfilfloanndddaaGreat.Sv
theorem VD (s:AG) (L:s.1.2.length<=1048576) (hr : ∀ rs∈s.1.2,rs.length<=1048576 /\ ∀ r∈rs,r.2.length<=9223372036854775807) (hj:s.2.1.length<=1048576):DJ s=some (AO s):=by
 unfold DJ AO;simp only [AX,AR];rw [TE _ L hr,AB,A2];by_cases t:(Ez s.1).2.2=0;rotate_left
 ·rw [if_neg t,if_pos t,A2,if_neg t,AP,if_neg t]
 rw [if_pos t,if_neg (show ¬ (Ez s.1).2.2≠0 by simp [t]),A1,Am];have v:=Iq.1 t;by_cases y:s.2.2<1
 ·rw [if_pos y,if_pos (.inl y)]
 rw [if_neg y];by_cases o:s.2.2>1000001
 ·rw [if_pos o,if_pos (.inr o)]
 rw [if_neg o,if_neg (show ¬ (s.2.2<1\/s.2.2>1000001) by omega),A2,if_pos t,TG v,AB,Ya];by_cases m:s.2.2<=Fh s.1.2
 ·rw [if_pos m,if_pos m]
 rw [if_neg m,if_neg m,AP,if_pos t,PM (by have:=v.len;omega),AB];obtain ⟨a,g⟩ : ∃ a,a=Aa 0 s.1.2:=⟨_,rfl⟩;have hdl:a.length<=12:=by have:=EC s.1.2 0;have:=v.len;rw [g];omega
 rw [<- g];obtain ⟨T,Z⟩ : ∃ T,T=GI s.1 a 0 s.2.1:=⟨_,rfl⟩;rw [<- Z]
 obtain ⟨r,q1,D⟩:=GH (l:=s.2.1) (σ:=Unit) (λi _=>((0:Int),((0:Int),(i:Int)))) (λjs i _=>GI s.1 a i js=T) (λ(r:Nat×((Int×(Int×Int))×Unit))=>(T=none/\r.1=1)\/(∃ i:Nat,T=some i/\r.1=0/\r.2.1.1=6/\r.2.1.2.1=(i:Int)))
  (f:=λb=>br (Ak b.2.2 (s.2.1.length:Int)) (λ_=>AT b.2.2 λk7=>ix s.2.1 k7 λe=>br (HY b.2.2 (a.length:Int)) (λ_=>some (.dn ((0,((6,(b.2.2,b.2.2)),()))))) λ_=>AT b.2.2 λk9=>ix a k9 λM=>br (Ay e.1 M) (λ_=>some (.dn ((0,((6,(b.2.2,b.2.2)),()))))) λ_=>br e.2.2.1.2.2 (λ_=>bd (BT (s.1,e.1)) λS=>br (Ad S) (λ_=>some (.dn ((0,((6,(b.2.2,b.2.2)),()))))) λ_=>bd (Aw ((s.1,(e.1,e.2.2.1.2.2)))) λE=>bd (BN E.2) λP=>br (Ak e.2.2.2.2 0) (λ_=>some (.dn ((0,((6,(b.2.2,b.2.2)),()))))) λ_=>br (CD e.2.2.2.2 P.1) (λ_=>some (.dn ((0,((6,(b.2.2,b.2.2)),()))))) λ_=>bd (BE (E.2,e.2.2.2.2)) λK=>bd (Ba (K.1,e.2)) λW=>br (Ad W) (λ_=>some (.dn ((0,((6,(b.2.2,b.2.2)),()))))) λ_=>some (.nx ((b.1,(b.2.1,AI .i64 b.2.2 1))))) λ_=>bd (Aw ((s.1,(e.1,e.2.2.1.2.2)))) λC=>bd (BN C.2) λX=>br (Ak e.2.2.2.2 0) (λ_=>some (.dn ((0,((6,(b.2.2,b.2.2)),()))))) λ_=>br (CD e.2.2.2.2 X.1) (λ_=>some (.dn ((0,((6,(b.2.2,b.2.2)),()))))) λ_=>bd (BE (C.2,e.2.2.2.2)) λJ=>bd (Ba (J.1,e.2)) λN=>br (Ad N) (λ_=>some (.dn ((0,((6,(b.2.2,b.2.2)),()))))) λ_=>some (.nx ((b.1,(b.2.1,AI .i64 b.2.2 1))))) λ_=>some (.dn ((1,(b,())))))
  (s:=(0,(0,0))) () rfl (by omega) Z.symm (λ_ h=>by
   refine ⟨_,by simp only;rw [re];rfl,.inl ⟨by rw [<- h];rfl,rfl⟩⟩) (λi j js _ hd hx hi h=>by
   simp only;rw [rl hi,AU,AE,AL hx,EK];unfold GI at h
   have c:Ld s.1 a i j=true -> ∃ r:Nat×((Int×(Int×Int))×Unit),(some (LR.dn ((0,((6,((i:Int),(i:Int))),()))):LR (Int×(Int×Int)) _))=some (.dn r)/\((T=none/\r.1=1)\/(∃ i:Nat,T=some i/\r.1=0/\r.2.1.1=6/\r.2.1.2.1=(i:Int))):=λL=>by
    rw [if_pos L] at h;exact ⟨_,rfl,.inr ⟨i,h.symm,rfl,rfl,rfl⟩⟩
   have x:Ld s.1 a i j=false -> ∃ st':Unit,(some (LR.nx ((0:Int),((0:Int),AI .i64 (i:Int) 1))):Option (LR _ (Nat×((Int×(Int×Int))×Unit))))=some (.nx ((0:Int),((0:Int),((i+1:Nat):Int))))/\GI s.1 a (i+1) js=T:=λhg=>by
    rw [if_neg (by simp [hg])] at h;exact ⟨(),by rw [Ao hx (by omega)],h⟩
   by_cases y:(i:Int)>=(a.length:Int)
   ·rw [if_pos y];exact .inr (c (by unfold Ld;rw [List.getElem?_eq_none (by omega)]))
   rw [if_neg y,AE];have w:a[i]? = some (a[i]'(by omega)):=by simp
   rw [AL w,AP];obtain ⟨n,O,I,F,q⟩:=H9 (ls:=s.1.2) (i:=0) (k:=i) (d:=a[i]'(by omega)) (by rw [<- g];exact w);rw [Nat.zero_add] at O
   have p:Ld s.1 a i j=(if j.1≠(a[i]'(by omega)) then true else if j.2.2.1.2.2=true/\j.1≠(s.1.2.length:Int)-1 then true else if j.2.2.2.2<0\/j.2.2.2.2>((F.2.length+I.2.length:Nat):Int) then true else decide (DY F.2 I.2 j.2.2.1.2.2 j.2.2.2.2.toNat≠j.2)):=by
    unfold Ld;rw [w];simp only;rw [O,Int.toNat_natCast,q]
   by_cases o:j.1=(a[i]'(by omega));rotate_left
   ·rw [if_neg o];exact .inr (c (by rw [p,if_pos o]))
   rw [if_pos o];rw [if_neg (by simp [o])] at p;have G:j.1=(n:Int):=by rw [o,O]
   have Y:=(v.lev n _ q).2;have v0:=(Y I (by simp)).vl;have v1:=(Y F (by simp)).vl;have U:=(List.getElem?_eq_some_iff.1 q).1;rw [G,QT v U,AB,C5,C9,lD q v0 v1,Es];rw [G] at p;by_cases m:j.2.2.1.2.2=true/\(n:Int)≠(s.1.2.length:Int)-1
   ·rw [if_pos m.1,if_pos m.2];exact .inr (c (by rw [p,if_pos m]))
   rw [if_neg m] at p
   have h4 : ∀ {γ:Type} (A B:γ),(if j.2.2.1.2.2=true then if ¬(n:Int)=(s.1.2.length:Int)-1 then A else B else B)=B:=by
    intro γ A B;by_cases u:j.2.2.1.2.2=true
    ·rw [if_pos u,if_neg (λz=>m ⟨u,z⟩)]
    ·rw [if_neg u]
   rw [h4];by_cases u:j.2.2.2.2<0\/j.2.2.2.2>((F.2.length+I.2.length:Nat):Int)
   ·rw [if_pos u];exact .inr (c (by rw [p,if_pos u]))
   rw [if_neg u];rw [if_neg u] at p;by_cases z:DY F.2 I.2 j.2.2.1.2.2 j.2.2.2.2.toNat=j.2
   ·rw [if_pos z];exact .inl (x (by rw [p];simp [z]))
   ·rw [if_neg z]
    exact .inr (c (by rw [p];simp [z])))
 refine BH q1 ?_;rw [Cc];rcases D with ⟨D,q3⟩ | ⟨i,D,q3,q4,q5⟩
 ·rw [if_neg (show ¬ r.1=0 by omega),D,A1];simp only;by_cases h7:s.2.1.length<a.length
  ·rw [if_pos (by omega),if_pos h7]
  ·rw [if_neg (by omega),if_neg h7]
 ·rw [if_pos q3,D,q4,q5]
end Go.Proofs.YtfilfloanndddaaGreat.Pl
namespace Go.Proofs.YtfilfloanndddaaGreat.Pl
open Go Go.Proofs.YtfilfloanndddaaGreat.Sv
def JobAt (L:AJ) (n:Nat) (j:Job):Prop := ∃ b a c k,L.2[n]? = some [b,a]/\j=((n:Int),DY a.2 b.2 c k)/\k<=a.2.length+b.2.length/\(c=true->n+1=L.2.length)/\VL b.2/\VL a.2
structure VSt (s:AG):Prop where
 lev:VLev s.1
 n1:1<=s.2.2
 n2:s.2.2<=1000001
 n3:Fh s.1.2<s.2.2
 due:s.2.1.map (·.1)=Aa 0 s.1.2
 job : ∀ j∈s.2.1,∃ n,JobAt s.1 n j
theorem QU (a b:List AD) (c:Bool) (k:Nat):(DY a b c k).2.1.2.2=c:=by
 show (Ce (s0 c) (A3 a b k)).2.2=c;rw [G2]
theorem QV {L:AJ} (v:VLev L) {i:Nat} {j:Job}:Ld L (Aa 0 L.2) i j=false <-> ∃ n,(Aa 0 L.2)[i]? = some j.1/\JobAt L n j:=by
 constructor
 ·intro h;unfold Ld at h;cases c:(Aa 0 L.2)[i]? with
  | none=>rw [c] at h;cases h
  | some d =>
   rw [c] at h;simp only at h;by_cases f:j.1=d;rotate_left
   ·rw [if_pos f] at h;cases h
   rw [if_neg (by simp [f])] at h;by_cases m:j.2.2.1.2.2=true/\j.1≠(L.2.length:Int)-1
   ·rw [if_pos m] at h;cases h
   rw [if_neg m] at h;obtain ⟨n,g,a,b,e⟩:=H9 c;rw [Nat.zero_add] at g;rw [g,Int.toNat_natCast,e] at h;simp only at h;by_cases r:j.2.2.2.2<0\/j.2.2.2.2>((b.2.length+a.2.length:Nat):Int)
   ·rw [if_pos r] at h;cases h
   rw [if_neg r] at h;have s:DY b.2 a.2 j.2.2.1.2.2 j.2.2.2.2.toNat=j.2:=by simpa using h
   have q:=(v.lev n _ e).2;refine ⟨n,by rw [f],a,b,j.2.2.1.2.2,j.2.2.2.2.toNat,e,Prod.ext (by rw [f,g]) s.symm,by omega,λl => ?_,(q a (by simp)).vl,(q b (by simp)).vl⟩
   have t:j.1=(L.2.length:Int)-1:=by
    by_cases o:j.1=(L.2.length:Int)-1
    ·exact o
    ·exact absurd ⟨l,o⟩ m
   omega
 ·rintro ⟨n,c,a,b,p,k,e,rfl,w,l,u,x⟩;unfold Ld;rw [c];simp only;rw [if_neg (by simp),QU,if_neg (λh:p=true/\(n:Int)≠(L.2.length:Int)-1=>h.2 (by have:=l h.1;omega)),Int.toNat_natCast,e];simp only;rw [show (DY b.2 a.2 p k).2.2.2=(k:Int) from rfl,if_neg (by omega),Int.toNat_natCast];simp
theorem Kx {L:AJ} {a:List Int} : ∀ {js:List Job} {i:Nat},GI L a i js=none <-> ∀ k j,js[k]? = some j->Ld L a (i+k) j=false
 | [],i=>by simp [GI]
 | j::js,i=>by
  unfold GI;by_cases h:Ld L a i j=true
  ·rw [if_pos h];simp only [reduceCtorEq,false_iff];intro b;have:=b 0 j rfl;rw [Nat.add_zero,h] at this;cases this
  ·rw [if_neg h,Kx (js:=js)];constructor
   ·intro b k j' c;cases k with
    | zero=>cases c;simpa using h
    | succ k=>rw [show i+(k+1)=i+1+k by omega];exact b k j' c
   ·intro b k j' c;rw [show i+1+k=i+(k+1) by omega];exact b (k+1) j' c
theorem Aj {s:AG}:(AO s).2=0<->VSt s:=by
 unfold AO;constructor
 ·intro h;by_cases d:(Ez s.1).2.2≠0
  ·rw [if_pos d] at h;exact absurd h d
  rw [if_neg d] at h;have v:=Iq.1 (Decidable.not_not.1 d);by_cases g:s.2.2<1\/s.2.2>1000001
  ·rw [if_pos g] at h;cases h
  rw [if_neg g] at h;by_cases f:s.2.2<=Fh s.1.2
  ·rw [if_pos f] at h;cases h
  rw [if_neg f] at h;cases b:GI s.1 (Aa 0 s.1.2) 0 s.2.1 with
  | some i=>rw [b] at h;cases h
  | none =>
   rw [b] at h;simp only at h;by_cases p:s.2.1.length<(Aa 0 s.1.2).length
   ·rw [if_pos p] at h;cases h
   have o:=Kx.1 b
   have c : ∀ k j,s.2.1[k]? = some j -> ∃ n,(Aa 0 s.1.2)[k]? = some j.1/\JobAt s.1 n j:=λk j a=>by
    have:=o k j a;rw [Nat.zero_add] at this;exact (QV v).1 this
   refine ⟨v,by omega,by omega,by omega,?_,λj l => ?_⟩
   ·apply List.ext_getElem?;intro k;rw [List.getElem?_map];cases a:s.2.1[k]? with
    | some j=>obtain ⟨n,e,_⟩:=c k j a;rw [e];rfl
    | none =>
     have:=List.getElem?_eq_none_iff.1 a;rw [List.getElem?_eq_none (by omega)];rfl
   ·obtain ⟨k,a⟩:=List.getElem?_of_mem l;obtain ⟨n,_,h⟩:=c k j a;exact ⟨n,h⟩
 ·intro v;rw [if_neg (by simp [Iq.2 v.lev]),if_neg (by have:=v.n1;have:=v.n2;omega),if_neg (by have:=v.n3;omega)]
  have b:GI s.1 (Aa 0 s.1.2) 0 s.2.1=none:=Kx.2 λk j a=>by
   rw [Nat.zero_add];obtain ⟨n,m⟩:=v.job j (List.mem_of_getElem? a);exact (QV v.lev).2 ⟨n,by rw [<- v.due,List.getElem?_map,a];rfl,m⟩
  rw [b];simp only;rw [if_neg (by rw [<- v.due];simp)]
structure Sm (s:AG):Prop where
 lv:s.1.2.length<=1048576
 rs : ∀ rs∈s.1.2,rs.length<=1048576 /\ ∀ r∈rs,r.2.length<=9223372036854775807
 js:s.2.1.length<=1048576
theorem ny {s:AG} (m:Sm s):CT s=some (AO s):=Wi s m.lv m.rs m.js
theorem mo {s:AG} (m:Sm s):DJ s=some (AO s):=VD s m.lv m.rs m.js
theorem VSt.jlen {s:AG} (v:VSt s):s.2.1.length=(Aa 0 s.1.2).length:=by rw [<- v.due];simp
theorem VSt.jsmall {s:AG} (v:VSt s):s.2.1.length<=12:=by
 have:=v.jlen;have:=EC s.1.2 0;have:=v.lev.len;omega
theorem VSt.sm {s:AG} (v:VSt s):Sm s:=⟨v.lev.small.1,v.lev.small.2,by have:=v.jsmall;omega⟩
def NV (x:Int):Nat->List Int->Option Nat
 | _,[]=>none
 | k,y::l=>if y=x then some k else NV x (k+1) l
theorem Wo {x:Int} : ∀ {l:List Int} {k i:Nat},NV x k l=some i->k<=i/\l[i-k]? = some x
 | [],_,_,h=>by cases h
 | y::l,k,i,h=>by
  unfold NV at h;by_cases e:y=x
  ·rw [if_pos e] at h;cases h;simp [e]
  ·rw [if_neg e] at h;obtain ⟨b,a⟩:=Wo h;exact ⟨by omega,by rw [show i-k=(i-(k+1))+1 by omega];simpa using a⟩
theorem TH {x:Int} : ∀ {l:List Int} {k:Nat},x∈l -> ∃ i,NV x k l=some i
 | [],_,h=>by cases h
 | y::l,k,h=>by
  unfold NV;by_cases e:y=x
  ·rw [if_pos e];exact ⟨k,rfl⟩
  ·rw [if_neg e];exact TH (by rcases List.mem_cons.1 h with h | h;exact absurd h.symm e;exact h)
def JW (s:AG) (a:Int):Int×Int:=if (AO s).2≠0 then (0,(AO s).2) else match NV a 0 (Aa 0 s.1.2) with
 | some i=>((i:Int),0)
 | none=>(0,4)
theorem Ym {s:AG} (m:Sm s) (a:Int):EL (s,a)=some (JW s a):=by
 unfold EL JW;simp only [AX,AR];rw [ny m,AB,AP];by_cases b:(AO s).2=0;rotate_left
 ·rw [if_neg b,if_pos b]
 rw [if_pos b,if_neg (show ¬ (AO s).2≠0 by simp [b])];have v:=Aj.1 b;have x:=v.jsmall;rw [<- v.due];obtain ⟨T,n⟩ : ∃ T,T=NV a 0 (s.2.1.map (·.1)):=⟨_,rfl⟩;rw [<- n]
 obtain ⟨r,o,c⟩:=GH (l:=s.2.1) (σ:=Unit) (s:=((0:Int),(0:Int))) (λk _=>((0:Int),(k:Int))) (λjs k _=>NV a k (js.map (·.1))=T) (λ(r:Nat×((Int×Int)×Unit))=>(r.1=1/\T=none)\/(r.1=0 /\ ∃ i:Nat,T=some i/\r.2.1.1=(i:Int)))
  (f:=λs1=>br (Ak s1.2 (s.2.1.length:Int)) (λ_=>AT s1.2 λq=>ix s.2.1 q λu=>br (A8 u.1 a) (λ_=>some (.dn ((0,((s1.2,s1.2),()))))) λ_=>some (.nx (s1.1,AI .i64 s1.2 1))) λ_=>some (.dn ((1,(s1,())))))
  () rfl (by omega) n.symm (λ_ h=>⟨_,by simp only;rw [re];rfl,.inl ⟨rfl,by rw [<- h];rfl⟩⟩) (λk j js _ w g t h=>by
   simp only;rw [rl t,AU,AE,AL g,A2];unfold NV at h;simp only [List.map_cons] at h;by_cases e:j.1=a
   ·rw [if_pos e];rw [if_pos e] at h;exact .inr ⟨_,rfl,.inr ⟨rfl,k,h.symm,rfl⟩⟩
   ·rw [if_neg e];rw [if_neg e] at h
    exact .inl ⟨(),by rw [Ao g (by omega)],h⟩)
 refine BH o ?_;rw [Cc];rcases c with ⟨c,d⟩ | ⟨c,i,d,p⟩
 ·rw [if_neg (show ¬ r.1=0 by omega),d];rfl
 ·rw [if_pos c,d,p,A1,if_neg (by omega)]
theorem VE {s:AG} (m:Sm s):De s=some (if (AO s).2≠0 then ([],(AO s).2) else (Aa 0 s.1.2,0)):=by
 unfold De;rw [mo m,AB,AP];by_cases a:(AO s).2=0
 ·rw [if_pos a,if_neg (show ¬ (AO s).2≠0 by simp [a]),PM (by have:=(Aj.1 a).lev.len;omega),AB]
 ·rw [if_neg a,if_pos a]
theorem Ky {s:AG} (m:Sm s) (a:Int):B3 (s,a)=some (JW s a):=by
 unfold B3 JW;simp only [AX,AR];rw [VE m,AB,AP];by_cases c:(AO s).2=0;rotate_left
 ·rw [if_pos c,if_neg c,if_pos c]
 rw [if_neg (show ¬ (AO s).2≠0 by simp [c]),if_pos rfl,if_neg (show ¬ (AO s).2≠0 by simp [c])];have v:=Aj.1 c;have A:=v.jsmall;have o:=v.jlen;obtain ⟨b,d⟩ : ∃ b,b=Aa 0 s.1.2:=⟨_,rfl⟩;rw [<- d] at o ⊢;obtain ⟨T,q⟩ : ∃ T,T=NV a 0 b:=⟨_,rfl⟩;rw [<- q];simp only
 obtain ⟨r,t,g⟩:=GH (l:=b) (σ:=Unit) (s:=((0:Int),((0:Int),(0:Int)))) (λk _=>((0:Int),((0:Int),(k:Int)))) (λjs k _=>NV a k js=T) (λ(r:Nat×((Int×(Int×Int))×Unit))=>(r.1=1/\T=none)\/(r.1=0 /\ ∃ i:Nat,T=some i/\r.2.1.2.1=(i:Int)/\r.2.1.1=0))
  (f:=λs1=>br (Ak s1.2.2 (b.length:Int)) (λ_=>AT s1.2.2 λx=>ix b x λz=>br (A8 z a) (λ_=>some (.dn ((0,((0,(s1.2.2,s1.2.2)),()))))) λ_=>some (.nx ((s1.1,(s1.2.1,AI .i64 s1.2.2 1))))) λ_=>some (.dn ((1,(s1,())))))
  () rfl (by omega) q.symm (λ_ h=>⟨_,by simp only;rw [re];rfl,.inl ⟨rfl,by rw [<- h];rfl⟩⟩) (λk j js _ o p y h=>by
   simp only;rw [rl y,AU,AE,AL p,A2];unfold NV at h;by_cases e:j=a
   ·rw [if_pos e];rw [if_pos e] at h;exact .inr ⟨_,rfl,.inr ⟨rfl,k,h.symm,rfl,rfl⟩⟩
   ·rw [if_neg e];rw [if_neg e] at h
    exact .inl ⟨(),by rw [Ao p (by omega)],h⟩)
 refine BH t ?_;rw [Cc];rcases g with ⟨g,n⟩ | ⟨g,i,n,w,u⟩
 ·rw [if_neg (show ¬ r.1=0 by omega),n]
 ·rw [if_pos g,n,w,u]
end Go.Proofs.YtfilfloanndddaaGreat.Pl
namespace Go.Proofs.YtfilfloanndddaaGreat.Pl
open Go Go.Proofs.YtfilfloanndddaaGreat.Sv
def BF (L:AJ) (j:Job):Nat:=match L.2[j.1.toNat]? with
 | some [r0,r1]=>r1.2.length+r0.2.length-j.2.2.2.2.toNat
 | _=>0
def Ea (L:AJ) (j:Job):Bool:=decide ((j.2.2.2.1.length:Int)<=CU L.1 j.1.toNat)
def Lq (L:AJ) (n:Nat):Bool:=decide (n<12/\((L.2[n]?).getD []).length<2)
def Et (L:AJ) (j:Job):Bool:=decide (0<BF L j)||(Ea L j||Lq L (j.1.toNat+1))
def Ql (s:AG) (a:Int):Option Job:=match NV a 0 (Aa 0 s.1.2) with
 | some i=>s.2.1[i]?
 | none=>none
theorem VSt.at {s:AG} (v:VSt s) {a:Int} {i:Nat} (h:NV a 0 (Aa 0 s.1.2)=some i) : ∃ (j:Job) (n:Nat),s.2.1[i]? = some j/\a=(n:Int)/\j.1=(n:Int)/\JobAt s.1 n j/\n<s.1.2.length:=by
 obtain ⟨_,b⟩:=Wo h;rw [Nat.sub_zero] at b;rw [<- v.due,List.getElem?_map] at b;cases c:s.2.1[i]? with
 | none=>rw [c] at b;cases b
 | some j =>
  rw [c] at b;simp only [Option.map_some,Option.some.injEq] at b;obtain ⟨n,f⟩:=v.job j (List.mem_of_getElem? c);have d:=f;obtain ⟨m,p,o,k,l,e,_⟩:=f;have g:j.1=(n:Int):=by rw [e]
  exact ⟨j,n,rfl,by rw [<- b,g],g,d,(List.getElem?_eq_some_iff.1 l).1⟩
theorem JobAt.left {L:AJ} {n:Nat} {j:Job} (h:JobAt L n j):Bp j.2=some ((BF L j:Int),0)/\BN j.2=some ((BF L j:Int),0)/\BF L j<=10000:=by
 obtain ⟨b,d,c,k,i,rfl,g,_,a,f⟩:=h;have m:=a.len;have l:=f.len
 have e:BF L ((n:Int),DY d.2 b.2 c k)=d.2.length+b.2.length-k:=by
  unfold BF;simp only [Int.toNat_natCast,i];show d.2.length+b.2.length-((k:Int)).toNat=_;rw [Int.toNat_natCast]
 rw [e];exact ⟨OP f a c g,MX f a c g,by omega⟩
theorem Z1 {L:AJ} (v:VLev L) {n:Nat} (c:n<12):Fx (L.1,(n:Int))=some (CU L.1 n,0):=by
 have b:=v.B1;have a:=v.B2;unfold Fx;rw [A1,if_neg (by omega),Am,if_neg (by omega),A1,if_neg (by omega),EK,if_neg (by omega),OQ b a (by omega)];have:HY (n:Int) 0=true:=by unfold HY;simp
 rw [this];rfl
theorem dv {L:AJ} (v:VLev L) {n:Nat} (c:n<12):Gy (L.1,(n:Int))=some (CU L.1 n,0):=by
 have b:=v.B1;have a:=v.B2;unfold Gy;rw [A1,if_neg (by omega),Am,if_neg (by omega),A1,if_neg (by omega),EK,if_neg (by omega),VC b a (by omega),AB]
theorem TI {L:AJ} (v:VLev L) (k:Int):FI (L,k)=some (if k<0\/k>=12 then 7 else 0):=by
 obtain ⟨c,d⟩:=v.small;unfold FI;rw [MU _ c d,G4 v,AB,AP,if_pos rfl,A1,EK];by_cases b:k<0
 ·rw [if_pos b,if_pos (.inl b)]
 ·rw [if_neg b];by_cases a:k>=12
  ·rw [if_pos a,if_pos (.inr a)]
  ·rw [if_neg a,if_neg (by omega)]
theorem dw (l:List BI):Ak (l.length:Int) 2=decide (l.length<2):=by
 unfold Ak;rw [decide_eq_decide];omega
theorem Z3 {L:AJ} (v:VLev L) {n:Nat} (d:n<=12):Fy (L,(n:Int))=some (Lq L n,if n>=12 then 7 else 0):=by
 unfold Fy Lq;simp only [AX,AR];rw [TI v,AB,AP];by_cases h:n>=12
 ·rw [if_pos (show (n:Int)<0\/(n:Int)>=12 by omega),if_neg (by decide),if_pos h];simp;omega
 ·rw [if_neg (show ¬ ((n:Int)<0\/(n:Int)>=12) by omega),if_pos rfl,if_neg h,A1];have a:n<12:=by omega
  by_cases c:n<L.2.length
  ·have b:L.2[n]? = some (L.2[n]'c):=by simp
   rw [if_pos (by omega),AE,AL b,b,dw,Option.getD_some];simp [a]
  ·rw [if_neg (by omega),List.getElem?_eq_none (by omega)];simp [a]
theorem dx {s:AG} (v:VLev s.1) {n:Nat} (c:n<12):Gz (s,(n:Int))=some (Lq s.1 (n+1)):=by
 unfold Gz Lq;simp only [AX,AR];rw [Af (by omega),A1];by_cases h:n+1<12
 ·rw [if_pos (by omega),EK];by_cases b:n+1<s.1.2.length
  ·have a:s.1.2[n+1]? = some (s.1.2[n+1]'b):=by simp
   rw [if_neg (by omega),AE,AL a,a,dw,Option.getD_some];simp [h]
  ·rw [if_pos (by omega),List.getElem?_eq_none (by omega)];simp [h]
 ·rw [if_neg (by omega)];simp;omega
abbrev pq:=AG×(Job×Int)
theorem QW {s:AG} (v:VLev s.1) {n:Nat} {j:Job} (b:j.1=(n:Int)) (a:n<12) (l:Int):BU (s,(j,l))=some (Ea s.1 j):=by
 unfold BU Ea;simp only [AX,AR];rw [b,Z1 v a,AB,A2,if_pos rfl,Int.toNat_natCast];rfl
theorem Rw {s:AG} (v:VLev s.1) {n:Nat} {j:Job} (b:j.1=(n:Int)) (a:n<12):Dz (s,j)=some (Ea s.1 j):=by
 unfold Dz Ea;simp only [AX,AR];rw [b,dv v a,AB,Int.toNat_natCast];rfl
theorem dy {s:AG} (v:VLev s.1) {n:Nat} {j:Job} (a:j.1=(n:Int)) (b:n<12) (l:Int):Ct (s,(j,l))=some (Lq s.1 (n+1)):=by
 unfold Ct;simp only;rw [a,Af (by omega),Z3 v (by omega),AB,A2];by_cases h:n+1>=12
 ·rw [if_pos h,if_neg (show ¬ (7:Int)=0 by decide)];unfold Lq;simp;omega
 ·rw [if_neg h,if_pos rfl]
theorem TJ {s:AG} (v:VLev s.1) {n:Nat} {j:Job} (a:j.1=(n:Int)) (b:n<12) (l:Nat) (d:l=BF s.1 j):Bi (s,(j,(l:Int)))=some (Et s.1 j):=by
 have c:BB (s,(j,(l:Int)))=some (decide (0<BF s.1 j)):=by
  unfold BB CD;rw [d];simp
 have e1:=QW v a b (l:Int);have e2:=dy v a b (l:Int);unfold Bi Et;rw [c,e1,e2,a,Int.toNat_natCast];simp only [AB];cases f:decide (0<BF s.1 j) with
 | true=>exact BH (x:=(0,((0,true),()))) (Cm (n:=1) (by omega) (BY rfl)) rfl
 | false =>
  cases g:Ea s.1 j with
  | true=>exact BH (x:=(0,((1,true),()))) (Cm (n:=2) (by omega) ((BL (s':=(1,false)) rfl).trans (BY rfl))) rfl
  | false =>
   cases e:Lq s.1 (n+1) with
   | true=>exact BH (x:=(0,((2,true),()))) (Cm (n:=3) (by omega) ((BL (s':=(1,false)) rfl).trans ((BL (s':=(2,false)) rfl).trans (BY rfl)))) rfl
   | false=>exact BH (x:=(1,((3,false),()))) (Cm (n:=4) (by omega) ((BL (s':=(1,false)) rfl).trans ((BL (s':=(2,false)) rfl).trans ((BL (s':=(3,false)) rfl).trans (BY rfl))))) rfl
end Go.Proofs.YtfilfloanndddaaGreat.Pl
namespace Go.Proofs.YtfilfloanndddaaGreat.Pl
open Go Go.Proofs.YtfilfloanndddaaGreat.Sv
def G6 {α:Type} (z:α) (f:AG->Job->α×Int) (s:AG) (a:Int):α×Int:=if (AO s).2≠0 then (z,(AO s).2) else match Ql s a with
 | some j=>f s j
 | none=>(z,4)
def z0:pq:=(((0,[]),([],0)),((0,(([],([],([],([],0)))),((false,([],false)),([],0)))),0))
theorem VF {s:AG} (m:Sm s) (a:Int):Ck (s,a)=some (G6 z0 (λs j=>((s,(j,(BF s.1 j:Int))),0)) s a):=by
 unfold Ck;rw [Ym m,AB];unfold G6 Ql JW;by_cases b:(AO s).2=0;rotate_left
 ·rw [if_pos b,AP,if_neg b,if_pos b];rfl
 rw [if_neg (show ¬ (AO s).2≠0 by simp [b]),if_neg (show ¬ (AO s).2≠0 by simp [b])];have v:=Aj.1 b;cases d:NV a 0 (Aa 0 s.1.2) with
 | none=>rfl
 | some i =>
  obtain ⟨j,n,c,h,e,f,g⟩:=v.at d;simp only;rw [AP,if_pos rfl,AE,AL c,c,(JobAt.left f).1,AB]
theorem mq {s:AG} (m:Sm s) (a:Int):Hb (s,a)=some (G6 false (λs j=>(Et s.1 j,0)) s a):=by
 unfold Hb;rw [VF m,AB];unfold G6;by_cases b:(AO s).2=0;rotate_left
 ·rw [if_pos b,AP,if_neg b,if_pos b]
 rw [if_neg (show ¬ (AO s).2≠0 by simp [b]),if_neg (show ¬ (AO s).2≠0 by simp [b])];have v:=Aj.1 b;unfold Ql;cases d:NV a 0 (Aa 0 s.1.2) with
 | none=>rfl
 | some i =>
  obtain ⟨j,n,e,g,c,h,f⟩:=v.at d;have:=v.lev.len;simp only [e];rw [AP,if_pos rfl,TJ v.lev c (by omega) _ rfl,AB]
theorem LY {s:AG} (m:Sm s) (a:Int):Cj (s,a)=some (G6 0 (λs j=>((BF s.1 j:Int),0)) s a):=by
 unfold Cj;rw [Ky m,AB];unfold G6 Ql JW;by_cases b:(AO s).2=0;rotate_left
 ·rw [if_pos b,AP,if_neg b,if_pos b]
 rw [if_neg (show ¬ (AO s).2≠0 by simp [b]),if_neg (show ¬ (AO s).2≠0 by simp [b])];have v:=Aj.1 b;cases d:NV a 0 (Aa 0 s.1.2) with
 | none=>rfl
 | some i =>
  obtain ⟨j,n,c,h,e,f,g⟩:=v.at d;simp only [c];rw [AP,if_pos rfl,AE,AL c,(JobAt.left f).2.1,AB]
theorem TK {s:AG} (m:Sm s) (a:Int):EM (s,a)=some (G6 false (λs j=>(Et s.1 j,0)) s a):=by
 unfold EM;rw [LY m,AB,Ky m,AB];unfold G6;by_cases b:(AO s).2=0;rotate_left
 ·rw [if_pos b,AP,if_neg b,if_pos b]
 rw [if_neg (show ¬ (AO s).2≠0 by simp [b]),if_neg (show ¬ (AO s).2≠0 by simp [b])];have v:=Aj.1 b;unfold Ql JW;cases f:NV a 0 (Aa 0 s.1.2) with
 | none=>rfl
 | some i =>
  obtain ⟨j,n,d,g,c,k,h⟩:=v.at f;have:=v.lev.len;rw [if_neg (show ¬ (AO s).2≠0 by simp [b])];simp only [d];rw [AP,if_pos rfl,Am,AE,AL d,Rw v.lev c (by omega),AB,g,dx v.lev (by omega),AB];unfold Et;rw [c,Int.toNat_natCast];by_cases e:0<BF s.1 j
  ·rw [if_pos (by omega)];simp [e]
  ·rw [if_neg (by omega)];cases Ea s.1 j<;>simp [e,AU,Av]
def NW (s:AG) (j:Job):Int×Int:=if 0<BF s.1 j then (0,9) else if Ea s.1 j=true then (j.1,0) else (j.1+1,0)
theorem nL {s:AG} (m:Sm s) (a:Int):JP (s,a)=some (G6 0 NW s a):=by
 unfold JP;rw [VF m,AB];unfold G6;by_cases b:(AO s).2=0;rotate_left
 ·rw [if_pos b,AP,if_neg b,if_pos b]
 rw [if_neg (show ¬ (AO s).2≠0 by simp [b]),if_neg (show ¬ (AO s).2≠0 by simp [b])];have v:=Aj.1 b;unfold Ql;cases f:NV a 0 (Aa 0 s.1.2) with
 | none=>rfl
 | some i =>
  obtain ⟨j,n,g,h,c,l,k⟩:=v.at f;have:=v.lev.len;simp only [g];unfold BB NW;rw [AP,if_pos rfl,AB,Am,QW v.lev c (by omega),AB,h,Af (by omega),c];by_cases e:0<BF s.1 j
  ·rw [if_pos (show ((BF s.1 j:Int))>0 by omega),if_pos e]
  ·rw [if_neg (show ¬ ((BF s.1 j:Int))>0 by omega),if_neg e,Es];by_cases d:Ea s.1 j=true
   ·rw [if_pos d,if_pos d]
   ·rw [if_neg d,if_neg d];rfl
theorem Wp {s:AG} (m:Sm s) (a:Int):FK (s,a)=some (G6 0 NW s a):=by
 unfold FK;rw [LY m,AB,Ky m];unfold G6;by_cases b:(AO s).2=0;rotate_left
 ·rw [if_pos b,A2,if_neg b,AP,if_neg b,if_pos b]
 rw [if_neg (show ¬ (AO s).2≠0 by simp [b]),if_neg (show ¬ (AO s).2≠0 by simp [b])];have v:=Aj.1 b;unfold Ql JW;cases g:NV a 0 (Aa 0 s.1.2) with
 | none=>rfl
 | some i =>
  obtain ⟨j,n,e,h,c,l,k⟩:=v.at g;have:=v.lev.len;rw [if_neg (show ¬ (AO s).2≠0 by simp [b])];simp only [e];unfold NW;rw [A2,if_pos rfl,Am];by_cases f:0<BF s.1 j
  ·rw [if_pos (show ((BF s.1 j:Int))>0 by omega),if_pos f]
  ·rw [if_neg (show ¬ ((BF s.1 j:Int))>0 by omega),if_neg f,AP,if_pos rfl,AB,AE,AL e,Rw v.lev c (by omega),AB,Es,h,Af (by omega),c];by_cases d:Ea s.1 j=true
   ·rw [if_pos d,if_pos d]
   ·rw [if_neg d,if_neg d];rfl
theorem lE {s:AG} (m:Sm s):FJ s=some (if (AO s).2≠0 then ([],(AO s).2) else (Aa 0 s.1.2,0)):=by
 unfold FJ;simp only [AX,AR];rw [ny m,AB,AP];by_cases a:(AO s).2=0;rotate_left
 ·rw [if_neg a,if_pos a]
 rw [if_pos a,if_neg (show ¬ (AO s).2≠0 by simp [a])];have g:=(Aj.1 a).lev.len
 rw [DS (l:=s.1.2) (σ:=List Int) (s:=((0:Int),([]:List Int))) (λi m=>((i:Int),m)) (λls i m=>m++Aa i ls=Aa 0 s.1.2) (λ_ _ _=>(0,(((s.1.2.length:Int),Aa 0 s.1.2),()))) [] rfl (by omega) rfl (λm h=>by
  simp only;rw [re,Av,<- h];simp [Aa]) (λi rs ls m e c hi h=>by
   refine ⟨m++(if rs.length=2 then [(i:Int)] else []),?_,?_,rfl⟩
   ·simp only;rw [rl hi,AU,AE,AL c,A2]
    have d:m.length<=1000:=by
     have b:=congrArg List.length h;have f:=EC s.1.2 0;rw [List.length_append] at b;omega
    by_cases b:rs.length=2
    ·rw [if_pos (by omega),if_pos b,Bj (by simp only [Ag,List.length_cons,List.length_nil];omega),Ao c (by omega)];rfl
    ·rw [if_neg (by omega),if_neg b,List.append_nil,Ao c (by omega)]
   ·rw [List.append_assoc];exact h),AB]
def FO (s:AG):List Int->Option Int
 | []=>none
 | d::l=>if (G6 false (λs j=>(Et s.1 j,0)) s d).1=true then some d else FO s l
def BO (s:AG):Int×Int:=if (AO s).2≠0 then (0,(AO s).2) else if Aa 0 s.1.2=[] then (0,4) else match FO s (Aa 0 s.1.2) with
 | some d=>(d,0)
 | none=>(0,9)
theorem VSt.atDue {s:AG} (v:VSt s) {d:Int} (h:d∈Aa 0 s.1.2) : ∃ (j:Job) (n:Nat),Ql s d=some j/\d=(n:Int)/\j.1=(n:Int)/\JobAt s.1 n j/\n<s.1.2.length:=by
 obtain ⟨i,b⟩:=TH (k:=0) h;obtain ⟨j,n,e,f,a,g,c⟩:=v.at b;exact ⟨j,n,by unfold Ql;rw [b];exact e,f,a,g,c⟩
theorem lF {s:AG} (m:Sm s):BW s=some (BO s):=by
 unfold BW BO;rw [lE m,AB];by_cases a:(AO s).2=0;rotate_left
 ·rw [if_pos a,AP,if_neg a,if_pos a]
 rw [if_neg (show ¬ (AO s).2≠0 by simp [a]),if_neg (show ¬ (AO s).2≠0 by simp [a]),AP,if_pos rfl];have v:=Aj.1 a;have C:(Aa 0 s.1.2).length<=12:=by have:=EC s.1.2 0;have:=v.lev.len;omega
 simp only [AX,AR];rw [A2];by_cases b:Aa 0 s.1.2=[]
 ·rw [if_pos (by rw [b];rfl),if_pos b]
 rw [if_neg (by have:=List.length_pos_iff.2 b;omega),if_neg b];obtain ⟨T,u⟩ : ∃ T,T=FO s (Aa 0 s.1.2):=⟨_,rfl⟩;rw [<- u]
 obtain ⟨r,B,q⟩:=GH (l:=Aa 0 s.1.2) (σ:=Unit) (s:=((0:Int),(false,((0:Int),(0:Int))))) (λk _=>((0:Int),(false,((k:Int),(0:Int))))) (λl k _=>FO s l=T) (λ(r:Nat×((Int×(Bool×(Int×Int)))×Unit))=>r.1=1/\((T=none/\r.2.1.2.1=false)\/(∃ d,T=some d/\r.2.1.2.1=true/\r.2.1.2.2.2=d)))
  (f:=λs1=>br (Ak s1.2.2.1 ((Aa 0 s.1.2).length:Int)) (λ_=>AT s1.2.2.1 λE=>ix (Aa 0 s.1.2) E λw=>bd (Ck (s,w)) λp=>br (Ay p.2 0) (λ_=>some (.dn ((0,((p.2,(s1.2.1,(s1.2.2.1,0))),()))))) λ_=>bd (Bi p.1) λz=>br z (λ_=>some (.dn ((1,((s1.1,(true,(s1.2.2.1,w))),()))))) λ_=>some (.nx ((s1.1,(s1.2.1,(AI .i64 s1.2.2.1 1,s1.2.2.2)))))) λ_=>some (.dn ((1,(s1,())))))
  () rfl (by omega) u.symm (λ_ h=>⟨_,by simp only;rw [re];rfl,rfl,.inl ⟨by rw [<- h];rfl,rfl⟩⟩) (λk d l _ F o A h=>by
   simp only;obtain ⟨j,n,t,I,i,G,b⟩:=v.atDue (List.mem_of_getElem? o);have:=v.lev.len;unfold FO at h;have y:G6 false (λs j=>(Et s.1 j,0)) s d=(Et s.1 j,0):=by unfold G6;rw [if_neg (show ¬ (AO s).2≠0 by simp [a]),t]
   have x:G6 z0 (λs j=>((s,(j,(BF s.1 j:Int))),0)) s d=((s,(j,(BF s.1 j:Int))),0):=by unfold G6;rw [if_neg (show ¬ (AO s).2≠0 by simp [a]),t]
   rw [y] at h;rw [rl A,AU,AE,AL o,VF m,x,AB,AP,if_pos rfl,TJ v.lev i (by omega) _ rfl,AB,Es];by_cases e:Et s.1 j=true
   ·rw [if_pos e];rw [if_pos e] at h;exact .inr ⟨_,rfl,rfl,.inr ⟨d,h.symm,rfl,rfl⟩⟩
   ·rw [if_neg e];rw [if_neg e] at h
    exact .inl ⟨(),by rw [Ao o (by omega)],h⟩)
 refine BH B ?_;obtain ⟨q,c⟩:=q;rw [Cc,if_neg (show ¬ r.1=0 by omega),BX,Es];rcases c with ⟨c,g⟩ | ⟨d,c,g,D⟩
 ·rw [if_neg (by simp [g]),c]
 ·rw [if_pos g,c,D]
theorem Z4 {s:AG} (m:Sm s):Fe s=some (BO s):=by
 unfold Fe BO;rw [VE m,AB];by_cases a:(AO s).2=0;rotate_left
 ·rw [if_pos a,AP,if_neg a,if_pos a]
 rw [if_neg (show ¬ (AO s).2≠0 by simp [a]),if_neg (show ¬ (AO s).2≠0 by simp [a]),AP,if_pos rfl];have v:=Aj.1 a;have t:(Aa 0 s.1.2).length<=12:=by have:=EC s.1.2 0;have:=v.lev.len;omega
 simp only [AX,AR];rw [A2];by_cases b:Aa 0 s.1.2=[]
 ·rw [if_pos (by rw [b];rfl),if_pos b]
 rw [if_neg (by have:=List.length_pos_iff.2 b;omega),if_neg b];obtain ⟨T,n⟩ : ∃ T,T=FO s (Aa 0 s.1.2):=⟨_,rfl⟩;rw [<- n]
 obtain ⟨r,q,c⟩:=GH (l:=Aa 0 s.1.2) (σ:=Unit) (s:=((0:Int),((0:Int),(0:Int)))) (λk _=>((0:Int),((0:Int),(k:Int)))) (λl k _=>FO s l=T) (λ(r:Nat×((Int×(Int×Int))×Unit))=>(r.1=1/\T=none)\/(r.1=0 /\ ∃ d,T=some d/\r.2.1.2.1=d/\r.2.1.1=0))
  (f:=λs1=>br (Ak s1.2.2 ((Aa 0 s.1.2).length:Int)) (λ_=>AT s1.2.2 λx=>ix (Aa 0 s.1.2) x λA=>bd (EM (s,A)) λp=>br p.1 (λ_=>AT s1.2.2 λo=>ix (Aa 0 s.1.2) o λz=>some (.dn ((0,((0,(z,s1.2.2)),()))))) λ_=>some (.nx ((s1.1,(s1.2.1,AI .i64 s1.2.2 1))))) λ_=>some (.dn ((1,(s1,())))))
  () rfl (by omega) n.symm (λ_ h=>⟨_,by simp only;rw [re];rfl,.inl ⟨rfl,by rw [<- h];rfl⟩⟩) (λk d l _ B g y h=>by
   simp only;unfold FO at h;rw [rl y,AU,AE,AL g,TK m,AB,Es,AE,AL g];by_cases e:(G6 false (λs j=>(Et s.1 j,0)) s d).1=true
   ·rw [if_pos e];rw [if_pos e] at h;exact .inr ⟨_,rfl,.inr ⟨rfl,d,h.symm,rfl,rfl⟩⟩
   ·rw [if_neg e];rw [if_neg e] at h
    exact .inl ⟨(),by rw [Ao g (by omega)],h⟩)
 refine BH q ?_;rw [Cc];rcases c with ⟨c,i⟩ | ⟨c,d,i,w,u⟩
 ·rw [if_neg (show ¬ r.1=0 by omega),i]
 ·rw [if_pos c,i,w,u]
end Go.Proofs.YtfilfloanndddaaGreat.Pl
namespace Go.Proofs.YtfilfloanndddaaGreat.Pl
open Go Go.Proofs.YtfilfloanndddaaGreat.Sv
theorem lG {β:Type} (k:Unit->Option β):gd true k=k ():=rfl
def AW (l:List (List BI)) (i:Nat):List BI:=(l[i]?).getD []
def J7 (l:List (List BI)):Nat->Nat
 | 0=>0
 | k+1=>if AW l k=[] then J7 l k else k+1
def JX (l:List (List BI)) (n:Nat):List (List BI):=l++List.replicate (n+1-l.length) []
def GJ (l:List (List BI)) (n:Nat) (r:List BI):List (List BI):=(JX l n).set n r
def IV (l:List (List BI)):List (List BI):=l.take (J7 l l.length)
def CN (L:AJ) (n:Nat) (r:List BI):AJ:=(L.1,IV (GJ L.2 n r))
theorem TL (l:List (List BI)) : ∀ k,J7 l k<=k
 | 0=>Nat.le_refl _
 | k+1=>by
  unfold J7;split
  ·exact Nat.le_succ_of_le (TL l k)
  ·exact Nat.le_refl _
theorem QX (l:List (List BI)) : ∀ {k i:Nat},J7 l k<=i->i<k->AW l i=[]
 | 0,_,_,h=>by omega
 | k+1,i,h1,h2=>by
  unfold J7 at h1;split at h1
  ·rename_i a;by_cases hi:i=k
   ·rw [hi];exact a
   ·exact QX l h1 (by omega)
  ·omega
theorem Rx (l:List (List BI)) : ∀ {k m:Nat},J7 l k=m+1->AW l m≠[]
 | 0,m,h=>by cases h
 | k+1,m,h=>by
  unfold J7 at h;split at h
  ·exact Rx l h
  ·rename_i a;have:m=k:=by omega
   rw [this];exact a
theorem Ry (l:List (List BI)) (i:Nat):AW (IV l) i=AW l i:=by
 unfold IV;by_cases h:i<J7 l l.length
 ·unfold AW;rw [List.getElem?_take,if_pos h]
 ·have b:AW (l.take (J7 l l.length)) i=[]:=by
   unfold AW;rw [List.getElem?_take,if_neg h];rfl
  rw [b];by_cases a:i<l.length
  ·exact (QX l (by omega) a).symm
  ·unfold AW;rw [List.getElem?_eq_none (by omega)];rfl
theorem Wq (l:List (List BI)):(IV l).getLast? ≠ some []:=by
 have b:(IV l).length=J7 l l.length:=by
  have:=TL l l.length;unfold IV;rw [List.length_take];omega
 cases a:J7 l l.length with
 | zero =>
  have:IV l=[]:=List.length_eq_zero_iff.1 (by rw [b,a]);rw [this];simp
 | succ m =>
  have e:=Rx l a;rw [List.getLast?_eq_getElem?,b,a];intro d;have c:AW (IV l) m=[]:=by unfold AW;rw [show m=m+1-1 by omega,d];rfl
  rw [Ry] at c;exact e c
theorem Kz (l:List (List BI)) (n:Nat):(JX l n).length=max l.length (n+1):=by
 unfold JX;simp;omega
theorem VG (l:List (List BI)) (n i:Nat):AW (JX l n) i=AW l i:=by
 unfold AW JX;by_cases h:i<l.length
 ·rw [List.getElem?_append_left h]
 ·rw [List.getElem?_append_right (by omega),List.getElem?_replicate,List.getElem?_eq_none (l:=l) (by omega)];split<;>rfl
theorem VH (l:List (List BI)) (n i:Nat) (r:List BI):AW (GJ l n r) i=if i=n then r else AW l i:=by
 unfold GJ;by_cases h:i=n
 ·rw [if_pos h,h];have:=Kz l n;unfold AW;rw [List.getElem?_set_self (by omega)];rfl
 ·rw [if_neg h];unfold AW;rw [List.getElem?_set_ne (λe=>h e.symm)];exact VG l n i
theorem GQ (L:AJ) (n i:Nat) (r:List BI):AW (CN L n r).2 i=if i=n then r else AW L.2 i:=by
 show AW (IV _) i=_;rw [Ry,VH]
theorem Wr (L:AJ) (n:Nat) (r:List BI):(CN L n r).2.getLast? ≠ some []:=Wq _
theorem Z5 (L:AJ) (n:Nat) (r:List BI):(CN L n r).2.length<=max L.2.length (n+1):=by
 show (IV _).length<=_;unfold IV;rw [List.length_take];have:(GJ L.2 n r).length=max L.2.length (n+1):=by unfold GJ;rw [List.length_set,Kz]
 omega
theorem Z6 (l:List (List BI)):(IV l).flatten=l.flatten:=by
 have h:l=IV l++l.drop (J7 l l.length):=(List.take_append_drop _ _).symm
 have a:(l.drop (J7 l l.length)).flatten=[]:=by
  rw [List.flatten_eq_nil_iff];intro x b;obtain ⟨i,hi⟩:=List.getElem?_of_mem b;rw [List.getElem?_drop] at hi;have c:=(List.getElem?_eq_some_iff.1 hi).1;have:=QX l (k:=l.length) (i:=J7 l l.length+i) (by omega) c;unfold AW at this;rw [hi] at this;exact this
 conv=>rhs;rw [h,List.flatten_append,a,List.append_nil]
theorem dz (l:List (List BI)) (n:Nat):(JX l n).flatten=l.flatten:=by
 unfold JX;rw [List.flatten_append]
 have:(List.replicate (n+1-l.length) ([]:List BI)).flatten=[]:=by
  rw [List.flatten_eq_nil_iff];intro x a;exact (List.mem_replicate.1 a).2
 rw [this,List.append_nil]
theorem IA (L:AJ) (n:Nat) (r:List BI) : ∃ p q,L.2.flatten=p++(AW L.2 n++q)/\(CN L n r).2.flatten=p++(r++q):=by
 have a:n<(JX L.2 n).length:=by rw [Kz];omega
 refine ⟨((JX L.2 n).take n).flatten,((JX L.2 n).drop (n+1)).flatten,?_,?_⟩
 ·rw [<- VG L.2 n n,<- dz L.2 n]
  have:JX L.2 n=(JX L.2 n).take n++((JX L.2 n)[n]::(JX L.2 n).drop (n+1)):=by
   rw [<- List.drop_eq_getElem_cons a,List.take_append_drop]
  have b:AW (JX L.2 n) n=(JX L.2 n)[n]:=by unfold AW;rw [List.getElem?_eq_getElem a];rfl
  rw [b]
  conv=>lhs;rw [this]
  rw [List.flatten_append,List.flatten_cons]
 ·show (IV (GJ L.2 n r)).flatten=_;rw [Z6];unfold GJ;rw [List.set_eq_take_append_cons_drop,if_pos a,List.flatten_append,List.flatten_cons]
theorem VLev.own {L:AJ} (v:VLev L) (i:Nat):(AW L.2 i).length<=2 /\ ∀ r∈AW L.2 i,VR (CU L.1 i) r:=by
 unfold AW;cases h:L.2[i]? with
 | none=>exact ⟨by simp,λr a=>by cases a⟩
 | some rs=>exact v.lev i rs h
theorem VLev.with' {L:AJ} (v:VLev L) {n:Nat} (f:n<12) {r:List BI} (c:r.length<=2) (e : ∀ x∈r,VR (CU L.1 n) x) (b:((CN L n r).2.flatten.map l7).Nodup):VLev (CN L n r):=by
 refine ⟨v.B1,v.B2,?_,λi rs hi => ?_,b,Wr L n r⟩
 ·have:=Z5 L n r;have:=v.len;omega
 ·have a:=GQ L n i r;unfold AW at a;rw [hi] at a;simp only [Option.getD_some] at a;rw [a];split
  ·rename_i d;rw [d];exact ⟨c,e⟩
  ·exact v.own i
theorem VLev.leave {L:AJ} (v:VLev L) {n:Nat} (a:n<12):VLev (CN L n []):=by
 refine v.with' a (by simp) (λ_ h=>by cases h) ?_
 obtain ⟨p,q,c,b⟩:=IA L n [];have:=v.ids;rw [c] at this;rw [b,List.nil_append];refine List.Sublist.nodup (List.Sublist.map _ ?_) this;exact List.Sublist.append (List.Sublist.refl _) (List.sublist_append_right _ _)
theorem VLev.arrive {L:AJ} (v:VLev L) {n:Nat} (d:n<12) {x:BI} (j:(AW L.2 n).length<2) (g:VR (CU L.1 n) x) (b : ∀ y∈L.2.flatten,y.1≠x.1):VLev (CN L n (AW L.2 n++[x])):=by
 refine v.with' d (by simp;omega) (λy hy => ?_) ?_
 ·rcases List.mem_append.1 hy with hy | hy
  ·exact (v.own n).2 y hy
  ·rw [List.mem_singleton.1 hy];exact g
 ·obtain ⟨p,q,i,f⟩:=IA L n (AW L.2 n++[x])
  have h:(CN L n (AW L.2 n++[x])).2.flatten.Perm (x::L.2.flatten):=by
   rw [i,f,List.append_assoc];refine List.Perm.trans ?_ (List.perm_middle (l₁:=p++AW L.2 n) (l₂:=q) (a:=x) |>.trans (by rw [List.append_assoc]));rw [List.append_assoc];exact List.Perm.refl _
  refine (h.map l7).nodup_iff.2 (List.nodup_cons.2 ⟨λc => ?_,v.ids⟩);obtain ⟨y,hy,e⟩:=List.mem_map.1 c;exact b y hy e
theorem QY {l:List (List BI)} {x:BI}:x∈l.flatten <-> ∃ i,x∈AW l i:=by
 rw [List.mem_flatten];constructor
 ·rintro ⟨rs,b,a⟩;obtain ⟨i,hi⟩:=List.getElem?_of_mem b;exact ⟨i,by unfold AW;rw [hi];exact a⟩
 ·rintro ⟨i,h⟩;unfold AW at h;cases hi:l[i]? with
  | none=>rw [hi] at h;cases h
  | some rs=>rw [hi] at h;exact ⟨rs,List.mem_of_getElem? hi,h⟩
theorem NX {l:List (List BI)} {x:BI} (h:x∈l.flatten):x.1<=Fh l:=by
 have c : ∀ (rs:List BI) (m:Int),m<=rs.foldl (λm r=>LL m r.1) m /\ ∀ x∈rs,x.1<=rs.foldl (λm r=>LL m r.1) m:=by
  intro rs
  induction rs with
  | nil=>intro m;exact ⟨by simp,λx hx=>by cases hx⟩
  | cons r rs d =>
   intro m;obtain ⟨b,a⟩:=d (LL m r.1);rw [G5] at b a;simp only [List.foldl_cons,G5] at b a ⊢;refine ⟨by omega,λx hx => ?_⟩;rcases List.mem_cons.1 hx with e | hx
   ·rw [e];omega
   ·exact a x hx
 have two : ∀ (ls:List (List BI)) (m:Int),m<=ls.foldl (λm rs=>rs.foldl (λm r=>LL m r.1) m) m /\ ∀ rs∈ls,∀ x∈rs,x.1<=ls.foldl (λm rs=>rs.foldl (λm r=>LL m r.1) m) m:=by
  intro ls
  induction ls with
  | nil=>intro m;exact ⟨by simp,λx hx=>by cases hx⟩
  | cons rs ls d =>
   intro m;obtain ⟨b,a⟩:=d (rs.foldl (λm r=>LL m r.1) m);obtain ⟨i,g⟩:=c rs m;simp only [List.foldl_cons];refine ⟨by omega,λf hrs x hx => ?_⟩;rcases List.mem_cons.1 hrs with e | hrs
   ·subst e;have:=g x hx;omega
   ·exact a f hrs x hx
 obtain ⟨rs,b,a⟩:=List.mem_flatten.1 h;exact (two l 0).2 rs b x a
end Go.Proofs.YtfilfloanndddaaGreat.Pl
namespace Go.Proofs.YtfilfloanndddaaGreat.Pl
open Go Go.Proofs.YtfilfloanndddaaGreat.Sv
theorem Rz {M:List (List BI)} {f:Int->Option (LR Int (Nat×(Int×Unit)))} (a:f 0=some (.dn (0,(0,())))) (hs : ∀ k,k<M.length->f ((k+1:Nat):Int)=if AW M k=[] then some (.nx (k:Int)) else some (.dn (0,(((k+1:Nat):Int),())))) : ∀ k,k<=M.length->Di (k+1) f (k:Int)=some (0,((J7 M k:Nat):Int),())
 | 0,_=>BY a
 | k+1,hk=>by
  have h:=hs k (by omega);unfold J7;by_cases b:AW M k=[]
  ·rw [if_pos b] at h ⊢;rw [BL h];exact Rz a hs k (by omega)
  ·rw [if_neg b] at h ⊢;exact BY h
theorem mr (L:List (List BI)) (n:Nat):Jl (D2 (max L.length (n+1)) ([]:List BI)) 0 L (AA (D2 (max L.length (n+1)) ([]:List BI)))=JX L n:=by
 have a:AA (D2 (max L.length (n+1)) ([]:List BI))=max L.length (n+1):=by unfold AA D2;simp
 rw [a];unfold Jl JX D2;rw [List.take_of_length_le (by omega:L.length<=max L.length (n+1))];simp only [List.take_zero,List.nil_append,List.drop_replicate,Nat.zero_add]
 congr 2
 omega
theorem d6 (l:List (List BI)) (n:Nat) (r:List BI):lset (JX l n) n r=GJ l n r:=rfl
theorem E0 {l:List (List BI)} {i:Nat} (h:i<l.length):l[i]? = some (AW l i):=by
 unfold AW;rw [List.getElem?_eq_getElem h];rfl
theorem TM {β:Type} (l:List BI) (x y:Unit->Option β):br (A8 (l.length:Int) 0) x y=if l=[] then x () else y ():=by
 rw [A2];by_cases h:l=[]
 ·rw [if_pos h,if_pos (by rw [h];rfl)]
 ·rw [if_neg h,if_neg (by have:=List.length_pos_iff.2 h;omega)]
theorem OV {L:AJ} (j:L.2.length<=1000) {n:Nat} (i:n<1000) (r:List BI):Dy (L,((n:Int),r))=some (CN L n r):=by
 have c:LL (Ab (AA L.2)) (AI .i64 (n:Int) 1)=((max L.2.length (n+1):Nat):Int):=by
  rw [Af (by omega),G5,AX,AR];omega
 unfold Dy;simp only [c,AE,mr,d6];have e:(JX L.2 n).length=max L.2.length (n+1):=Kz _ _;have l:(GJ L.2 n r).length=max L.2.length (n+1):=by unfold GJ;rw [List.length_set,e]
 rw [Bj (by omega),Kq,if_pos (by rw [AR,e];omega),AL (E0 (by omega))]
 have b:=Rz (M:=GJ L.2 n r) (f:=λa=>br (CD a 0) (λ_=>AT (CA .i64 a 1) λd=>gd (C7 d (AA (GJ L.2 n r))) λ_=>ix (GJ L.2 n r) d λh=>br (A8 (Ab (AA h)) 0) (λ_=>some (.nx (CA .i64 a 1))) λ_=>some (.dn ((0,(a,()))))) λ_=>some (.dn ((0,(a,()))))) rfl (λk c=>by
  have hi:CA .i64 ((k+1:Nat):Int) 1=(k:Int):=by rw [CR (by omega)];omega
  simp only [hi,AE];rw [Am,if_pos (by omega),Kq,if_pos (by rw [AR];omega),AL (E0 c)]
  exact TM _ _ _) _ (Nat.le_refl _)
 rw [AX,show AA (GJ L.2 n r)=(GJ L.2 n r).length from rfl];refine BH (Cm (by omega) b) ?_;have g:=TL (GJ L.2 n r) (GJ L.2 n r).length;simp only [AE];rw [Bj g,WY,if_pos (by omega),me,if_pos (by omega),WY,if_pos (by unfold Ag SV;omega)];unfold CN IV EI Ag SV;simp
end Go.Proofs.YtfilfloanndddaaGreat.Pl
namespace Go.Proofs.YtfilfloanndddaaGreat.Pl
open Go Go.Proofs.YtfilfloanndddaaGreat.Sv
def TN (d:Int) (j:Job):Bool:=A8 d j.1
def B8 (js:List Job) (d:Int):Option Job:=js.find? (TN d)
def NY (js:List Job):List (Int×Job):=js.map λj=>(j.1,j)
def zJ:Job:=(0,(([],([],([],([],0)))),((false,([],false)),([],0))))
def Fm (L:AJ) (d:Int):Job:=match AW L.2 d.toNat with
 | [r0,r1]=>(d,DY r1.2 r0.2 (decide (d=(L.2.length:Int)-1)) 0)
 | _=>zJ
def F1 (s:AG) (L:AJ) (a d:Int):Job:=(if d=a then none else B8 s.2.1 d).getD (Fm L d)
def K0 (s:AG) (L:AJ) (next a:Int):AG:=(L,((Aa 0 L.2).map (F1 s L a),next))
theorem R0 (d:Int) : ∀ js:List Job,JF (λa b=>A8 a b) (NY js) d=B8 js d
 | []=>rfl
 | j::js=>by
  show (bif A8 d j.1 then some j else JF (λa b=>A8 a b) (NY js) d)=(j::js).find? (TN d)
  rw [List.find?_cons,R0 d js];show _=match A8 d j.1 with | true=>some j | false=>B8 js d
  cases A8 d j.1<;>rfl
theorem R1 {j:Job} : ∀ {js:List Job},j.1 ∉ js.map (·.1)->IW (λa b=>A8 a b) (NY js) j.1 j=NY (js++[j])
 | [],_=>rfl
 | i::js,h=>by
  show (bif A8 j.1 i.1 then (j.1,j)::NY js else (i.1,i)::IW (λa b=>A8 a b) (NY js) j.1 j)=(i.1,i)::NY (js++[j])
  have d:A8 j.1 i.1=false:=by rw [Db];simp;intro e;exact h (by simp [e])
  rw [d,cond_false,R1 (λc=>h (by simp at c ⊢;exact .inr c))]
theorem J8 {js:List Job} {d:Int} (h:d ∉ js.map (·.1)):B8 js d=none:=by
 unfold B8;rw [List.find?_eq_none];intro j a;unfold TN;rw [Db];simp only [decide_eq_true_eq];intro e;exact h (by rw [e];exact List.mem_map_of_mem a)
theorem R2 {x d:Int} : ∀ {js:List Job},(js.map (·.1)).Nodup->JF (λa b=>A8 a b) (KN (λa b=>A8 a b) (NY js) x) d=if d=x then none else B8 js d
 | [],_=>by split<;>rfl
 | j::js,h=>by
  rw [List.map_cons,List.nodup_cons] at h;show JF (λa b=>A8 a b) (bif A8 x j.1 then NY js else (j.1,j)::KN (λa b=>A8 a b) (NY js) x) d=_
  have g:B8 (j::js) d=if d=j.1 then some j else B8 js d:=by
   unfold B8;rw [List.find?_cons];unfold TN;rw [Db];by_cases e:d=j.1<;>simp [e]
  rw [Db,g];by_cases f:x=j.1
  ·rw [show decide (x=j.1)=true by simp [f],cond_true,R0];by_cases c:d=x
   ·rw [if_pos c];exact J8 (by rw [c,f];exact h.1)
   ·rw [if_neg c,if_neg (by rw [<- f];exact c)]
  ·rw [show decide (x=j.1)=false by simp [f],cond_false];show (bif A8 d j.1 then some j else JF (λa b=>A8 a b) (KN (λa b=>A8 a b) (NY js) x) d)=_
   rw [R2 h.2,Db];by_cases c:d=j.1
   ·rw [show decide (d=j.1)=true by simp [c],cond_true,if_pos c,if_neg (by rw [c];exact λe=>f e.symm)]
   ·rw [show decide (d=j.1)=false by simp [c],cond_false,if_neg c]
theorem VR.vl' {L:AJ} (v:VLev L) {n:Nat} {r:BI} (h:r∈AW L.2 n):VL r.2:=((v.own n).2 r h).vl
theorem Z7 (L:AJ) (a:L.2.length<=1000) (n:Nat):DG (L,(n:Int))=some (decide ((n:Int)=(L.2.length:Int)-1)):=by
 unfold DG;simp only [AX,AR];rw [CR (by omega),Db]
theorem d7 {L:AJ} (v:VLev L) {n:Nat} (h:(AW L.2 n).length=2):Gx (L,(n:Int))=some (Fm L n,0):=by
 have d:n<L.2.length:=by
  by_cases f:n<L.2.length
  ·exact f
  ·unfold AW at h;rw [List.getElem?_eq_none (by omega)] at h;cases h
 have i:=v.len;obtain ⟨e,g⟩:=v.small;unfold Gx;simp only [AX,AR];rw [MU _ e g,G4 v,AB,AP,if_pos rfl,A1,if_neg (by omega),EK,if_neg (by omega),EK,if_neg (by omega),AE,AL (E0 d),A1,if_neg (by omega),Z7 L (by omega) n,AB]
 obtain ⟨b,c,a⟩ : ∃ b c,AW L.2 n=[b,c]:=by
  match hq:AW L.2 n with
  | [b,c]=>exact ⟨b,c,rfl⟩
  | []=>rw [hq] at h;cases h
  | [_]=>rw [hq] at h;cases h
  | _::_::_::_=>rw [hq] at h;simp at h
 rw [U6 _ (by rw [E0 d,a]) (VR.vl' v (n:=n) (by rw [a];simp)) (VR.vl' v (n:=n) (by rw [a];simp)),AB];unfold Fm;rw [Int.toNat_natCast,a]
theorem J9 (i:Nat) (rs:List BI) (ls:List (List BI)):Aa i (rs::ls)=(if rs.length=2 then [(i:Int)] else [])++Aa (i+1) ls:=rfl
theorem O0 {s:AG} (f:(s.2.1.map (·.1)).Nodup) (t:s.2.1.length<=1000) {L:AJ} (v:VLev L) (next a:Int):BK (s,(L,(next,a)))=some (K0 s L next a,0):=by
 have u:=v.len;unfold BK;simp only [AX,AR]
 rw [DS (l:=s.2.1) (σ:=List (Int×Job)) (s:=((0:Int),([]:List (Int×Job)))) (λi m=>((i:Int),m)) (λls i m => ∃ p,s.2.1=p++ls/\m=NY p) (λ_ _ _=>(0,(((s.2.1.length:Int),NY s.2.1),()))) [] rfl (by omega) ⟨[],rfl,rfl⟩ (λm h=>by
  obtain ⟨p,e,rfl⟩:=h
  simp only;rw [re,Av,e,List.append_nil]) (λi x ls m o b hi h=>by
   obtain ⟨p,e,rfl⟩:=h;refine ⟨NY (p++[x]),?_,⟨p++[x],by rw [e];simp,rfl⟩,rfl⟩;simp only;rw [rl hi,AU,AE,AL b,Ao b (by omega),R1];intro g;rw [e,List.map_append,List.nodup_append] at f
   exact f.2.2 _ g x.1 (by simp) rfl),AB]
 simp only
 rw [DS (l:=L.2) (σ:=List Job) (s:=((0:Int),((0:Int),(((0:Int),(([]:List (List BI)),(([]:List Job),(0:Int)))),(L.1,(L.2,(([]:List Job),next))))))) (λi js=>((0:Int),((i:Int),(((0:Int),(([]:List (List BI)),(([]:List Job),(0:Int)))),(L.1,(L.2,(js,next))))))) (λls i js=>js++(Aa i ls).map (F1 s L a)=(Aa 0 L.2).map (F1 s L a)) (λ_ _ _=>(0,(((0:Int),((L.2.length:Int),(((0:Int),(([]:List (List BI)),(([]:List Job),(0:Int)))),(L.1,(L.2,((Aa 0 L.2).map (F1 s L a),next)))))),()))) [] rfl (by omega) rfl (λm h=>by
  simp only;rw [re,Av,<- h];simp [Aa]) (λi rs ls m o b hi h=>by
   have n:AW L.2 i=rs:=by unfold AW;rw [b];rfl
   have q:=(v.own i).1;rw [n] at q;refine ⟨m++(if rs.length=2 then [F1 s L a i] else []),?_,?_,rfl⟩
   ·simp only;rw [rl hi,AU,AE,AL b,A1]
    have g:m.length<=1000:=by
     have c:=congrArg List.length h;have r:=EC L.2 0;rw [List.length_append,List.length_map,List.length_map] at c;omega
    by_cases c:rs.length=2;rotate_left
    ·rw [if_pos (by omega),if_neg c,List.append_nil,Ao b (by omega)]
    rw [if_neg (by omega),if_pos c,R2 f];have d:F1 s L a i=(if (i:Int)=a then none else B8 s.2.1 i).getD (Fm L i):=rfl
    cases k:(if (i:Int)=a then none else B8 s.2.1 (i:Int)) with
    | none =>
     rw [k,Option.getD_none] at d;rw [d,d7 v (by rw [n];exact c),BX,Es,if_neg (show ¬ nX (none:Option Job)=true by simp [nX]),AB];simp only;rw [AP,if_pos rfl,Bj (by simp only [Ag,List.length_cons,List.length_nil];omega),Ao b (by omega)];rfl
    | some j =>
     rw [k,Option.getD_some] at d;rw [d,BX,Es,if_pos (show nX (some j)=true from rfl),Bj (by simp only [Ag,List.length_cons,List.length_nil];omega),Ao b (by omega)];rfl
   ·rw [List.append_assoc,<- h,J9,List.map_append]
    congr 2
    split<;>rfl),AB]
 rfl
end Go.Proofs.YtfilfloanndddaaGreat.Pl
namespace Go.Proofs.YtfilfloanndddaaGreat.Pl
open Go Go.Proofs.YtfilfloanndddaaGreat.Sv
def pS (s:B0):Option Hn:=if s.1=true then some s.2.1 else none
theorem Asc.weak : ∀ {l:List AD} {p b:Option Hn},(∀ a,b=some a -> ∃ q,p=some q/\Cy q a=false)->Asc p l->Asc b l
 | [],_,_,_,_=>trivial
 | x::l,p,b,h,⟨j,i⟩=>⟨λa c=>by
  obtain ⟨q,e,g⟩:=h a c;have f:=j q e;by_cases d:a=q
  ·rw [d];exact f
  ·exact Fg (MO g (λe=>d e.symm)) f,i⟩
theorem VI : ∀ (l:List AD) (s:B0),ON s l->Asc (pS s) (E1 s l)
 | [],_,_=>trivial
 | x::l,s,⟨_,g,i⟩=>by
  have h:=VI l _ i;have d:Asc (some x.1) (E1 (true,(x.1,s.2.2)) l):=h;unfold E1;by_cases f:keep s x=true
  ·rw [if_pos f];refine ⟨λq c => ?_,d⟩;unfold pS at c;by_cases b:s.1=true
   ·rw [if_pos b] at c;cases c;refine MO (g b) λe => ?_;unfold keep at f;rw [b,e] at f;simp at f
   ·rw [if_neg b] at c;cases c
  ·rw [if_neg f,List.nil_append];refine d.weak λj a=>⟨x.1,rfl,?_⟩;unfold pS at a;by_cases b:s.1=true
   ·rw [if_pos b] at a;cases a;exact g b
   ·rw [if_neg b] at a;cases a
theorem VJ : ∀ {l:List AD} {s:B0} {x:AD},x∈E1 s l->x∈l
 | y::l,s,x,h=>by
  unfold E1 at h;rcases List.mem_append.1 h with h | h
  ·split at h
   ·rw [List.mem_singleton.1 h];simp
   ·cases h
  ·exact List.mem_cons_of_mem _ (VJ h)
theorem Yn : ∀ {l:List AD} {s:B0},ON s l -> ∀ x∈l,kE x=0
 | y::l,s,⟨b,_,a⟩,x,h=>by
  rcases List.mem_cons.1 h with e | h
  ·rw [e];exact b
  ·exact Yn a x h
theorem d8 {a b:List AD} (va:VL a) (d:VL b) (c:Bool) {k:Nat} (e:k<=a.length+b.length) (j:a.length+b.length<=5000):VL (DY a b c k).2.2.1/\(DY a b c k).2.2.1.length<=a.length+b.length:=by
 have f:=HP va d c e
 have i:(E1 (s0 c) (A3 a b k)).length<=k:=by
  have:=JS (s0 c) (A3 a b k);rw [C4 va d e] at this;exact this
 have h:(DY a b c k).2.2.1=E1 (s0 c) (A3 a b k):=rfl;rw [h];exact ⟨⟨by omega,λx g=>Yn f x (VJ g),VI _ _ f⟩,by omega⟩
theorem Ws {L:AJ} (v:VLev L) {n:Nat} (h:AW L.2 n≠[]):DQ (L,(n:Int))=some (CN L n [],(AW L.2 n,0)):=by
 have a:n<L.2.length:=by
  by_cases b:n<L.2.length
  ·exact b
  ·unfold AW at h;rw [List.getElem?_eq_none (by omega)] at h;exact absurd rfl h
 have d:=v.len;have c:=(v.own n).1;unfold DQ;simp only [AX,AR];rw [TI v,AB,if_neg (by omega),AP,if_pos rfl,A1,if_pos (by omega),AE,AL (E0 a),TM,if_neg h,OV (by omega) (by omega),AB,Bj (by omega)]
theorem Z8 {S β:Type} {f:S->Option (LR S β)} {r:β} (mk:Int->S) (n:Nat) {s:S} (b:s=mk ((n:Int)-1)) (e:n<1000000) (hs : ∀ k,k<n->f (mk (k:Int))=some (.nx (mk ((k:Int)-1)))) (d:f (mk (-1))=some (.dn r)):loop f s=some r:=by
 subst b
 have a : ∀ k,k<=n->Di (k+1) f (mk ((k:Int)-1))=some r:=by
  intro k
  induction k with
  | zero=>intro _;exact BY d
  | succ k c =>
   intro g;have:=hs k (by omega);rw [show ((k+1:Nat):Int)-1=(k:Int) by omega,BL this];exact c (by omega)
 exact Cm (by omega) (a n (Nat.le_refl _))
theorem VK {L:AJ} (v:VLev L) {n:Nat} (m:n<12) {x:BI} (o:x.2.length<=1048576) (e : ∀ y∈L.2.flatten,y.1≠x.1) (p:(AW L.2 n).length<2) :
  Bb (L,((n:Int),x))=some (if kR [] (CU L.1 n) x≠0 then ((0,[]),kR [] (CU L.1 n) x) else (CN L n (AW L.2 n++[x]),0)):=by
 have q:=v.len;unfold Bb;simp only [AX,AR];rw [TI v,AB,if_neg (by omega),AP,if_pos rfl,OQ v.B1 v.B2 (by omega),Rs x _ (by omega),show HY (n:Int) 0=true by unfold HY;simp];rw [lG,AB,AP];by_cases a:kR [] (CU L.1 n) x=0;rotate_left
 ·rw [if_neg a,if_pos a]
 rw [if_pos a,if_neg (by simp [a])]
 rw [DS (l:=L.2) (σ:=Unit) (s:=((0:Int),(((0:Int),([]:List (List BI))),(0:Int)))) (λi _=>((i:Int),(((0:Int),([]:List (List BI))),(0:Int)))) (λ_ _ _=>True) (λ_ _ _=>(0,(((L.2.length:Int),(((0:Int),([]:List (List BI))),(0:Int))),()))) () rfl (by omega) trivial (λ_ _=>by
  simp only;rw [re];rfl) (λi rs ls _ j hi b _=>by
   refine ⟨(),?_,trivial,rfl⟩;have c:AW L.2 i=rs:=by unfold AW;rw [hi];rfl
   have g:=(v.own i).1;rw [c] at g;simp only;rw [rl b,AU,AE,AL hi,CR (by omega)]
   rw [Z8 (λk=>(k,(((0:Int),([]:List (List BI))),(0:Int)))) rs.length rfl (by omega) (λk a=>by
    have f:rs[k]? = some rs[k]:=List.getElem?_eq_getElem a;have d:rs[k].1≠x.1:=e _ (List.mem_flatten.2 ⟨rs,List.mem_of_getElem? hi,List.getElem_mem a⟩);simp only
    rw [EK,if_pos (by omega),AE,AL f,A2,if_neg d,CR (by omega)]) (r:=(0,(((-1:Int),(((0:Int),([]:List (List BI))),(0:Int))),()))) rfl,AB]
   rw [Ao hi (by omega)]
   rfl),AB]
 rw [Cc,if_pos rfl,A1];by_cases h:n<L.2.length
 ·rw [if_pos (by omega),AE,AL (E0 h),A2,if_neg (by omega),AE,AE,Bj (Nat.le_refl _),mf,if_pos rfl,Bj (Nat.zero_le _)];have hs:EI (AW L.2 n) 0 (AW L.2 n).length=AW L.2 n:=by unfold EI;simp
  rw [hs,Bj (by simp only [Ag,List.length_cons,List.length_nil];omega),OV (by omega) (by omega),AB];rfl
 ·rw [if_neg (by omega)];have c:AW L.2 n=[]:=by unfold AW;rw [List.getElem?_eq_none (by omega)];rfl
  rw [Bj (by simp),OV (by omega) (by omega),AB,c];rfl
end Go.Proofs.YtfilfloanndddaaGreat.Pl
