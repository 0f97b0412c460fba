/- Functions of the program and of the specification as plain functions, and laws about them. No condition. -/
import Derived.Test.YtfilfloanndddaaGreatPl0
set_option linter.all false
namespace Go.Proofs.YtfilfloanndddaaGreat.Pl
section
open Go Go.Proofs.YtfilfloanndddaaGreat.Sv
theorem Uq {S β:Type} {f:S->Option (LR S β)} {s0 s1 s2:S} {r:β} (a:f s0=some (.nx s1)) (b:f s1=some (.nx s2)) (c:f s2=some (.dn r)):loop f s0=some r :=
 Uh (n:=3) (by omega) ((Th a).trans ((Th b).trans (Tp c)))
theorem ZV {α β:Type} {c:Bool} {n:Int} {l:List α} {K:Nat->α->Option β} {E:Unit->Option β} (k:Nat) {x:α} (hc:c=true) (b:n=(k:Int)) (d:l[k]? = some x):br c (λ_=>RX n λa=>ix l a λe=>K a e) E=K k x:=by
 subst hc;subst b;rw [R5,S9,Sb d]
theorem V9 {α β:Type} {n:Int} {l:List α} {K:Nat->α->Option β} (k:Nat) {x:α} (b:n=(k:Int)) (c:l[k]? = some x):RX n (λa=>ix l a λd=>K a d)=K k x:=by
 subst b;rw [S9,Sb c]
theorem W8 {l:List S8} {i:Nat} (h:i<=l.length):Tl (l,(i:Int))=some (kx l i):=by
 unfold Tl kx;simp only [TI,TF];rw [Sn];by_cases hi:i=l.length
 ·rw [if_pos (by omega),List.getElem?_eq_none (by omega)]
 ·have a:l[i]? = some l[i]:=by rw [List.getElem?_eq_getElem (by omega)]
  rw [if_neg (by omega),S9,Sb a,a]
section
variable {a b:List S8} (va:VL a) (vb:VL b)
theorem lu {i j:Nat} (hi:i<=a.length) (c:j<=b.length):Wk ([a,b],[(i:Int),(j:Int)])=some (Tt (kx a i) (kx b j)):=by
 unfold Wk;refine Tf (x:=(0,((2,[kx a i,kx b j]),()))) (Uq (s1:=(1,[kx a i,([],false)])) (s2:=(2,[kx a i,kx b j])) ?_ ?_ rfl) ?_
 ·show bd (Tl (a,(i:Int))) _=_;rw [W8 hi];rfl
 ·show bd (Tl (b,(j:Int))) _=_;rw [W8 c];rfl
 ·show bd (Uf [kx a i,kx b j]) _=_;rw [ZC (UD _ _) (UD _ _)];rfl
include va vb
theorem Yp:Ts a=some (0,0):=by
 rw [XD _ (by have:=va.len;omega),YB va]
theorem Yg:VN [a,b]=some (0,0):=by
 unfold VN;refine Tf (x:=(1,((0,(0,2)),()))) (Uq (s1:=(0,(0,1))) (s2:=(0,(0,2))) ?_ ?_ rfl) rfl
 ·show bd (Ts a) _=_;rw [Yp va va];rfl
 ·show bd (Ts b) _=_;rw [Yp vb vb];rfl
theorem eL (c:Bool):V7 ([a,b],c)=some (sE a b c 0,(0,0)):=by
 unfold V7;rw [Yg va vb,SL,Ss,if_pos rfl];refine Tf (x:=(0,((2,[kx a 0,kx b 0]),()))) (Uq (s1:=(1,[kx a 0,([],false)])) (s2:=(2,[kx a 0,kx b 0])) ?_ ?_ rfl) ?_
 ·show bd (Tl (a,((0:Nat):Int))) _=_;rw [W8 (by omega)];rfl
 ·show bd (Tl (b,((0:Nat):Int))) _=_;rw [W8 (by omega)];rfl
 ·show bd (Uf [kx a 0,kx b 0]) _=_;rw [ZC (UD _ _) (UD _ _)];rfl
end
theorem XY (x:Bool):Sv.beq x x=true:=by cases x<;>rfl
theorem X6 (x:XC):seq x x=true:=by rw [Zd]
theorem cZ (l:List TE) (h:l.length<=1000):TT (l,l)=some true:=by
 unfold TT;simp only [TI,TF]
 rw [Ss,if_pos rfl,Yz (l:=l) (σ:=Unit) (s:=(0,false)) (λk _=>((k:Int),false)) (λ_ _ _=>some (1,(((l.length:Int),false),()))) () rfl (by omega) (λc=>by
  simp only;rw [re];rfl) (λk x m c _ a b => .inl ⟨(),by
   simp only;rw [rl b,R5,S9,Sb a,S9,Sb a,X6,XY,show Hf (NX true (NX true true))=false from rfl,Rd,TN a (by omega)],rfl⟩),SL]
 rfl
theorem cY (l:List Int) (h:l.length<=1000):TL (l,l)=some true:=by
 unfold TL;simp only [TI,TF]
 rw [Ss,if_pos rfl,Yz (l:=l) (σ:=Unit) (s:=(0,false)) (λk _=>((k:Int),false)) (λ_ _ _=>some (1,(((l.length:Int),false),()))) () rfl (by omega) (λc=>by
  simp only;rw [re];rfl) (λk x m c _ a b => .inl ⟨(),by
   simp only;rw [rl b,R5,S9,Sb a,S9,Sb a,Ss,if_pos rfl,TN a (by omega)],rfl⟩),SL]
 rfl
theorem eI (t:Vd) (a:t.1.length<=1000) (b:t.2.1.length<=1000):Vo (t,t)=some true:=by
 unfold Vo;rw [Sn,if_pos rfl,cZ _ a,SL,R5,cY _ b];rfl
theorem eJ (p q:TE):Vo (Tt p q,Tt p q)=some true:=eI _ (show 2<=1000 by omega) (show 2<=1000 by omega)
theorem ft {a b:List S8} {i j:Nat} (h:XN a b i j=true):wk (kx a i) (kx b j)=kx a i/\wn (kx a i) (kx b j)=0:=by
 unfold XN at h;unfold wk wn;rw [if_pos h,if_pos h];exact ⟨rfl,rfl⟩
theorem fu {a b:List S8} {i j:Nat} (h:XN a b i j=false):wk (kx a i) (kx b j)=kx b j/\wn (kx a i) (kx b j)=1:=by
 unfold XN at h;unfold wk wn;rw [if_neg (by simp [h]),if_neg (by simp [h])];exact ⟨rfl,rfl⟩
theorem dm (x y:XC):Uj (x,y)=some (if Rz x y=true then -1 else if Rz y x=true then 1 else 0):=by
 unfold Uj U3;simp only [X6,cX,SL,Rd];rw [Wy,Wy];split
 ·rfl
 ·split<;>rfl
theorem dl (x y:Int):UU (x,y)=some (if x<y then -1 else if x>y then 1 else 0):=by
 unfold UU Vi;simp only [SL,Ss,if_true,Sr,Sp];split
 ·rfl
 ·split<;>rfl
theorem gW (x y:Int):Wh [x,y]=some (if x≠0 then x else y):=by
 unfold Wh;by_cases h:x=0
 ·rw [if_neg (by simp [h])];by_cases a:y=0
  ·refine Tf (x:=(1,((0,2),()))) (Uq (s1:=(0,1)) (s2:=(0,2)) ?_ ?_ rfl) (by rw [a];rfl)
   ·refine (ZV 0 rfl rfl rfl).trans ?_;rw [Ss,if_pos h];rfl
   ·refine (ZV 1 rfl rfl rfl).trans ?_;rw [Ss,if_pos a];rfl
  ·refine Tf (x:=(0,((y,1),()))) (Uh (n:=2) (by omega) ((Th (s':=(0,1)) ?_).trans (Tp ?_))) rfl
   ·refine (ZV 0 rfl rfl rfl).trans ?_;rw [Ss,if_pos h];rfl
   ·refine (ZV 1 rfl rfl rfl).trans ?_;rw [Ss,if_neg a]
 ·rw [if_pos h];refine Tf (x:=(0,((x,0),()))) (Uh (n:=1) (by omega) (Tp ?_)) rfl;refine (ZV 0 rfl rfl rfl).trans ?_;rw [Ss,if_neg h]
section
variable {a b:List S8} (va:VL a) (vb:VL b)
include va vb
theorem YR {i j:Nat} (I:Inv a b i j):VM (Ym a b i j)=some (0,0):=by
 unfold VM;rw [show (Ym a b i j).1=[a,b] from rfl,Yg va vb,SL,Ss,if_pos rfl];rw [show (Ym a b i j).2.1=[(i:Int),(j:Int)] from rfl,Ss,if_pos (show Kb (AS [(i:Int),(j:Int)])=Kb (AS [a,b]) from rfl)];refine Tf (x:=(1,((0,(0,2)),()))) (Uq (s1:=(0,(0,1))) (s2:=(0,(0,2))) ?_ ?_ rfl) ?_
 ·refine (ZV 0 rfl rfl rfl).trans ?_;rw [Sr,if_neg (by omega),show RX (((0:Int),((0:Int),(0:Int))).2.2)=λ(k:Nat->Option (LR (Int×(Int×Int)) (Nat×((Int×(Int×Int))×Unit))))=>k 0 from rfl];simp only;rw [Sb (x:=a) rfl,Sp,if_neg (by have:=I.ia;simp only [TI,TF];omega)];rfl
 ·refine (ZV 1 rfl rfl rfl).trans ?_;rw [Sr,if_neg (by omega),show RX (((0:Int),((0:Int),(1:Int))).2.2)=λ(k:Nat->Option (LR (Int×(Int×Int)) (Nat×((Int×(Int×Int))×Unit))))=>k 1 from rfl];simp only;rw [Sb (x:=b) rfl,Sp,if_neg (by have:=I.jb;simp only [TI,TF];omega)];rfl
 rw [show neq ((1:Nat),(((0:Int),((0:Int),(2:Int))),())).1 0=false from rfl,Rd,lu I.ia I.jb,SL,show (Ym a b i j).2.2=Tt (kx a i) (kx b j) from rfl,eJ,SL,show Hf true=false from rfl,Rd,XW (UD _ _) (UD _ _),SL];by_cases c:(wk (kx a i) (kx b j)).2=true
 ·rw [if_pos c];rfl
 rw [if_neg c,Ss,if_pos rfl]
 have s : ∀ {x:S8} {f:Nat},i=f+1->a[f]? = some x -> ¬ (if (if Rz x.1 (wk (kx a i) (kx b j)).1=true then (-1:Int) else if Rz (wk (kx a i) (kx b j)).1 x.1=true then 1 else 0)≠0 then (if Rz x.1 (wk (kx a i) (kx b j)).1=true then (-1:Int) else if Rz (wk (kx a i) (kx b j)).1 x.1=true then 1 else 0) else (if (0:Int)<(wn (kx a i) (kx b j):Int) then -1 else if (0:Int)>(wn (kx a i) (kx b j):Int) then 1 else 0))>0:=by
  intro x f hi d
  have p:Rz (wk (kx a i) (kx b j)).1 x.1=false:=by
   cases g:XN a b i j with
   | true =>
    rw [(ft g).1] at c ⊢;unfold kx at c ⊢;cases e:a[i]? with
    | none=>rw [e] at c;exact absurd rfl c
    | some y=>rw [hi] at e;exact Uu (va.lt d e)
   | false =>
    rw [(fu g).1] at c ⊢;unfold kx at c ⊢;cases e:b[j]? with
    | none=>rw [e] at c;exact absurd rfl c
    | some y=>exact I.pa f hi x y d e
  rw [p];have : ¬ (0:Int)>(wn (kx a i) (kx b j):Int):=by omega
  by_cases hs:Rz x.1 (wk (kx a i) (kx b j)).1=true
  ·simp [hs]
  ·simp only [hs,Bool.false_eq_true,if_false,ne_eq,not_true,this];split<;>omega
 have t : ∀ {y:S8} {j':Nat},j=j'+1->b[j']? = some y -> ¬ (if (if Rz y.1 (wk (kx a i) (kx b j)).1=true then (-1:Int) else if Rz (wk (kx a i) (kx b j)).1 y.1=true then 1 else 0)≠0 then (if Rz y.1 (wk (kx a i) (kx b j)).1=true then (-1:Int) else if Rz (wk (kx a i) (kx b j)).1 y.1=true then 1 else 0) else (if (1:Int)<(wn (kx a i) (kx b j):Int) then -1 else if (1:Int)>(wn (kx a i) (kx b j):Int) then 1 else 0))>0:=by
  intro y j' r e
  have q:Rz y.1 (wk (kx a i) (kx b j)).1=true:=by
   cases g:XN a b i j with
   | true =>
    rw [(ft g).1] at c ⊢;unfold kx at c ⊢;cases d:a[i]? with
    | none=>rw [d] at c;exact absurd rfl c
    | some x=>exact I.pb j' r y x e d
   | false =>
    rw [(fu g).1] at c ⊢;unfold kx at c ⊢;cases d:b[j]? with
    | none=>rw [d] at c;exact absurd rfl c
    | some x=>rw [r] at d;exact vb.lt e d
  rw [q];simp
 refine Tf (x:=(1,((0,(0,2)),()))) (Uq (s1:=(0,(0,1))) (s2:=(0,(0,2))) ?_ ?_ rfl) rfl
 ·refine (ZV 0 rfl rfl rfl).trans ?_;rw [Sp];by_cases h:(i:Int)>0
  ·rw [if_pos h];obtain ⟨f,l⟩ : ∃ f,i=f+1:=⟨i-1,by omega⟩;have m:f<a.length:=by have:=I.ia;omega
   have d:a[f]? = some a[f]:=by simp [m]
   refine (V9 0 rfl (x:=a) rfl).trans ((V9 f ?_ d).trans ?_)
   ·rw [SB (by have:=va.len;have:=I.ia;omega)];omega
   rw [dm,SL];show bd (UU (0,(wn (kx a i) (kx b j):Int))) _=_;rw [dl,SL,gW,SL,Sp,if_neg (s l d)];rfl
  ·rw [if_neg h];rfl
 ·refine (ZV 1 rfl rfl rfl).trans ?_;rw [Sp];by_cases h:(j:Int)>0
  ·rw [if_pos h];obtain ⟨j',n⟩ : ∃ j',j=j'+1:=⟨j-1,by omega⟩;have o:j'<b.length:=by have:=I.jb;omega
   have e:b[j']? = some b[j']:=by simp [o]
   refine (V9 1 rfl (x:=b) rfl).trans ((V9 j' ?_ e).trans ?_)
   ·rw [SB (by have:=vb.len;have:=I.jb;omega)];omega
   rw [dm,SL];show bd (UU (1,(wn (kx a i) (kx b j):Int))) _=_;rw [dl,SL,gW,SL,Sp,if_neg (t n e)];rfl
  ·rw [if_neg h];rfl
end
end
section
open Go Go.Proofs.YtfilfloanndddaaGreat.Sv
theorem Wu {l:List S8} {i:Nat} {x:S8} (h:l[i]? = some x):kx l i=(x.1,false):=by unfold kx;rw [h]
theorem Yw {l:List S8} {i:Nat} (h:l[i]? = none):kx l i=([],true):=by unfold kx;rw [h]
theorem Za {l:List S8} (v:VL l) {i:Nat} {x:S8} (h:l[i]? = some x):(kx l (i+1)).2=true\/Rz (kx l (i+1)).1 x.1=false:=by
 cases a:l[i+1]? with
 | none=>rw [Yw a];exact .inl rfl
 | some y=>rw [Wu a];exact .inr (Uu (v.lt h a))
theorem YH {α β:Type} {n:Int} {l:List α} {K:Nat->α->Option β} (k:Nat) {x:α} (c:n=(k:Int)) (b:l[k]? = some x):RX n (λa=>gd (KC a (AS l)) λ_=>ix l a λd=>K a d)=K k x:=by
 subst c;rw [S9,SR,if_pos (show k<AS l from (List.getElem?_eq_some_iff.1 b).1),Sb b]
section
variable {a b:List S8} (va:VL a) (vb:VL b)
include va vb
theorem mI {i j:Nat} (I:Inv a b i j) {x:S8} (c:a[i]? = some x) (g:XN a b i j=true):UP (Ym a b i j)=some (x,(0,(Ym a b (i+1) j,0))):=by
 obtain ⟨f,l⟩:=ft g;have hi:=(List.getElem?_eq_some_iff.1 c).1;have n:=va.len;have e:(wk (kx a i) (kx b j)).2=false:=by rw [f,Wu c]
 obtain ⟨m,h⟩:=Xa (p:=kx a i) (q:=kx b j) (k:=kx a (i+1)) (UD _ _) (UD _ _) (UD _ _) e (by rw [f,Wu c];exact Za va c)
 have d:rk (kx a i) (kx b j) (kx a (i+1))=(kx a (i+1),kx b j):=by
  unfold rk;unfold XN at g;rw [if_pos g]
 rw [d] at h;unfold UP;rw [YR va vb I,SL,Ss,if_pos rfl];unfold TQ TZ;refine Tf (YC (show 2<=1048576 by omega)) (Tf (YC (show 2<=1048576 by omega)) ?_);rw [show (Ym a b i j).2.2=Tt (kx a i) (kx b j) from rfl,XW (UD _ _) (UD _ _),if_neg (by simp [e]),SL,Ss,if_pos rfl,l];refine (YH 0 rfl (x:=a) rfl).trans ((YH 0 rfl (x:=(i:Int)) rfl).trans ((V9 i rfl c).trans ((YH 0 rfl (x:=(i:Int)) rfl).trans ((YH 0 rfl (x:=(i:Int)) rfl).trans ((YH 0 rfl (x:=a) rfl).trans ((YH 0 rfl (x:=Rl .i64 (i:Int) 1) rfl).trans ?_))))));rw [TK (by omega),W8 (show i+1<=a.length by omega),SL,h,SL];rfl
theorem mJ {i j:Nat} (I:Inv a b i j) {y:S8} (c:b[j]? = some y) (g:XN a b i j=false):UP (Ym a b i j)=some (y,(1,(Ym a b i (j+1),0))):=by
 obtain ⟨f,l⟩:=fu g;have hi:=(List.getElem?_eq_some_iff.1 c).1;have n:=vb.len;have e:(wk (kx a i) (kx b j)).2=false:=by rw [f,Wu c]
 obtain ⟨m,h⟩:=Xa (p:=kx a i) (q:=kx b j) (k:=kx b (j+1)) (UD _ _) (UD _ _) (UD _ _) e (by rw [f,Wu c];exact Za vb c)
 have d:rk (kx a i) (kx b j) (kx b (j+1))=(kx a i,kx b (j+1)):=by
  unfold rk;unfold XN at g;rw [if_neg (by simp [g])]
 rw [d] at h;unfold UP;rw [YR va vb I,SL,Ss,if_pos rfl];unfold TQ TZ;refine Tf (YC (show 2<=1048576 by omega)) (Tf (YC (show 2<=1048576 by omega)) ?_);rw [show (Ym a b i j).2.2=Tt (kx a i) (kx b j) from rfl,XW (UD _ _) (UD _ _),if_neg (by simp [e]),SL,Ss,if_pos rfl,l];refine (YH 1 rfl (x:=b) rfl).trans ((YH 1 rfl (x:=(j:Int)) rfl).trans ((V9 j rfl c).trans ((YH 1 rfl (x:=(j:Int)) rfl).trans ((YH 1 rfl (x:=(j:Int)) rfl).trans ((YH 1 rfl (x:=b) rfl).trans ((YH 1 rfl (x:=Rl .i64 (j:Int) 1) rfl).trans ?_))))));rw [TK (by omega),W8 (show j+1<=b.length by omega),SL,h,SL];rfl
def YZ (a b:List S8) (n:Nat):TC:=Ym a b (TP a b n).1 (TP a b n).2
def Z6 (a b:List S8) (n:Nat):Nat:=if XN a b (TP a b n).1 (TP a b n).2=true then 0 else 1
theorem Zu {n:Nat} {x:S8} (h:n<a.length+b.length) (c:ZS a b n=some x):UP (YZ a b n)=some (x,((Z6 a b n:Int),(YZ a b (n+1),0))):=by
 obtain ⟨d,hs⟩:=WA va vb (n:=n) (by omega);unfold YZ Z6;rw [show TP a b (n+1)=if XN a b (TP a b n).1 (TP a b n).2=true then ((TP a b n).1+1,(TP a b n).2) else ((TP a b n).1,(TP a b n).2+1) from rfl]
 unfold ZS at c;cases g:XN a b (TP a b n).1 (TP a b n).2 with
 | true=>rw [if_pos g] at c;rw [mI va vb d c g];simp
 | false=>rw [if_neg (by simp [g])] at c;rw [mJ va vb d c g];simp
end
theorem Z7 {s:UI} (b:s.2.1.length<=32) (a:s.1=false->s.2.1=[]):VZ s=some 0:=by
 unfold VZ;rw [YW,SL,if_neg (by omega),Ss,if_pos rfl,Tq,Sx];cases h:s.1 with
 | true=>rfl
 | false=>rw [if_neg (by simp),Tq,Vy,if_pos (a h)]
def keep (s:UI) (x:S8):Bool := !(s.1&&decide (x.1=s.2.1)) && !(s.2.2&&x.2.2.1)
theorem fC {s:UI} {x:S8} (e:s.2.1.length<=32) (f:s.1=false->s.2.1=[]) (g:kE x=0) (a:s.1=true->Rz x.1 s.2.1=false):UT (s,x)=some (keep s x,((true,(x.1,s.2.2)),0)):=by
 unfold UT keep;rw [Z7 e f,SL,Ss,if_pos rfl,W0,g,SL,Ss,if_pos rfl];obtain ⟨s1,s2,c⟩:=s;obtain ⟨h,i,d,j⟩:=x;simp only at a ⊢;cases s1 with
 | true =>
  have:=a rfl;simp only [R5,Rd,Wy,Vy,this,Bool.false_eq_true,if_false];by_cases b:h=s2
  ·simp [b]
  ·simp only [b,if_false,decide_false];cases c<;>cases d<;>rfl
 | false =>
  simp only [R5,Rd];cases c<;>cases d<;>rfl
def Vx:UI->List S8->List S8
 | _,[]=>[]
 | s,x::l=>(if keep s x=true then [x] else [])++Vx (true,(x.1,s.2.2)) l
theorem Xh : ∀ (s:UI) (l:List S8),(Vx s l).length<=l.length
 | _,[]=>Nat.le_refl _
 | s,x::l=>by
  have:=Xh (true,(x.1,s.2.2)) l;unfold Vx;by_cases h:keep s x=true
  ·rw [if_pos h];simp;omega
  ·rw [if_neg h];simp;omega
def ZA:UI->List S8->Prop
 | _,[]=>True
 | s,x::l=>kE x=0/\(s.1=true->Rz x.1 s.2.1=false)/\ZA (true,(x.1,s.2.2)) l
theorem Zq {x:S8} (h:kE x=0):x.1.length<=32:=by
 unfold kE at h;by_cases hh:x.1.length>32\/x.2.1.length>64
 ·rw [if_pos hh] at h;cases h
 ·omega
theorem U8 {α β σ S:Type} {l:List α} (mk:Nat->σ->S) (Inv:List α->Nat->σ->Prop) (F:List α->Nat->σ->β) {f:S->Option (LR S β)} {s:S} (a:σ) (p:s=mk 0 a) (z:l.length<=9223372036854775807) (hi:Inv l 0 a)
  (w : ∀ a,Inv [] l.length a->f (mk l.length a)=some (.dn (F [] l.length a)))
  (hc : ∀ k x m a,l.drop k=x::m->l[k]? = some x->k<l.length->Inv (x::m) k a -> ∃ b,f (mk k a)=some (.nx (mk (k+1) b))/\Inv m (k+1) b/\F (x::m) k a=F m (k+1) b):loop f s=some (F l 0 a):=by
 subst p
 have e : ∀ (m:List α) (k n:Nat) (a:σ),l.drop k=m->k<=l.length->m.length<n->Inv m k a->IJ n f (mk k a)=some (F m k a):=by
  intro m
  induction m with
  | nil =>
   intro k n a c u d hi;obtain ⟨n,rfl⟩ : ∃ j,n=j+1:=⟨n-1,by omega⟩
   have h:k=l.length:=by
    have:=congrArg List.length c;simp at this;omega
   subst h;exact Tp (w a hi)
  | cons x m y =>
   intro k n a c u d hi;obtain ⟨n,rfl⟩ : ∃ j,n=j+1:=⟨n-1,by omega⟩
   have o:l[k]? = some x:=by
    have:=congrArg List.head? c;rw [List.head?_drop] at this;simpa using this
   have g:k<l.length:=(List.getElem?_eq_some_iff.1 o).1
   have i:l.drop (k+1)=m:=by
    have:=congrArg List.tail c;rw [List.tail_drop] at this;simpa using this
   obtain ⟨b,q,r,t⟩:=hc k x m a c o g hi;rw [Th q,t];exact y (k+1) n b i (by omega) (by simp at d;omega) r
 exact e l 0 _ a (by simp) (by omega) (by omega) hi
def Uc:UI->List S8->UI
 | s,[]=>s
 | s,x::l=>Uc (true,(x.1,s.2.2)) l
theorem an {β:Type} {out:List S8} {n:Nat} (h:out.length<=n) (a:n<=20000) (x:S8) (k:Unit->Option β):gd (CD (BD (AS out) (AS [x])) 1048576) k=k ():=UC (by simp only [BD,AS,List.length_cons,List.length_nil];omega) k
theorem eG {l:List S8} {b:Bool} (B:l.length<=20000) (A:ZA (false,([],b)) l):Vl (l,b)=some (Vx (false,([],b)) l,(0,0)):=by
 unfold Vl Uo;simp only [TI,TF];rw [Sp,if_neg (by omega),SL]
 rw [U8 (l:=l) (σ:=UI×List S8) (s:=(0,(0,(0,((false,([],b)),[]))))) (λk a=>((0:Int),((k:Int),((0:Int),a))))
  (λm k a=>ZA a.1 m/\a.1.2.1.length<=32/\(a.1.1=false->a.1.2.1=[])/\a.2.length<=k/\k+m.length=l.length)
  (λm k a=>(1,((0,((l.length:Int),(0,(Uc a.1 m,a.2++Vx a.1 m)))),()))) ((false,([],b)),[]) rfl (by omega) ⟨A,by simp,λ_=>rfl,by simp,by simp⟩ ?_ ?_,SL]
 ·simp;rfl
 ·intro a _;simp only;rw [re,Rd];simp [Uc,Vx]
 ·rintro k x m ⟨s,out⟩ C r z ⟨⟨d,e,g⟩,i,j,n,o⟩;simp only at d e g i j n ⊢;refine ⟨((true,(x.1,s.2.2)),out++if keep s x=true then [x] else []),?_,⟨g,Zq d,(λh=>by cases h),?_,by simp at o;omega⟩,?_⟩
  ·rw [rl z,R5,S9,Sb r,Z7 i j,SL,Ss,if_pos rfl,W0,d,SL,Ss,if_pos rfl];unfold keep Td;obtain ⟨s1,s2,t⟩:=s;obtain ⟨f,u,c,w⟩:=x;simp only [SL,TN r (show l.length<=9223372036854775807 by omega)] at e ⊢;have q : ∀ {β:Type} (k:Unit->Option β),gd (CD (BD out.length [(f,(u,(c,w)))].length) 1048576) k=k ():=λk=>an n (by simp at o;omega) (f,(u,(c,w))) k;cases s1 with
   | true =>
    have y:=e rfl;simp only [R5,Rd,Vy,y,q];by_cases p:f=s2
    ·simp [p]
    ·simp only [p,if_false,decide_false];cases t<;>cases c<;>simp [R5,Rd,Ik]
   | false =>
    simp only [R5,Rd,q];cases t<;>cases c<;>simp [R5,Rd,Ik]
  ·split<;>simp<;>omega
  ·simp only [Uc,Vx,List.append_assoc]
end
section
open Go Go.Proofs.YtfilfloanndddaaGreat.Sv
theorem bU : ∀ (l:List S8) (s:UI) (x:S8),Vx s (l++[x])=Vx s l++(if keep (Uc s l) x=true then [x] else [])
 | [],s,x=>by
  show (if keep s x=true then [x] else [])++[]=[]++(if keep s x=true then [x] else [])
  rw [List.append_nil,List.nil_append]
 | y::l,s,x=>by
  show (if keep s y=true then [y] else [])++Vx _ (l++[x])=((if keep s y=true then [y] else [])++Vx _ l)++_
  rw [bU l,List.append_assoc];rfl
theorem YP : ∀ (l:List S8) (s:UI) (x:S8),Uc s (l++[x])=(true,(x.1,(Uc s l).2.2))
 | [],s,x=>rfl
 | y::l,s,x=>by simp only [List.cons_append,Uc,YP l]
theorem Wv : ∀ (l:List S8) (s:UI),(Uc s l).2.2=s.2.2
 | [],s=>rfl
 | y::l,s=>by rw [Uc,Wv l]
theorem cB : ∀ (l:List S8) (s:UI) (x:S8),ZA s l->kE x=0->((Uc s l).1=true->Rz x.1 (Uc s l).2.1=false)->ZA s (l++[x])
 | [],s,x,_,a,b=>⟨a,b,trivial⟩
 | y::l,s,x,⟨a,b,c⟩,d,h5=>⟨a,b,cB l _ x c d h5⟩
theorem aQ : ∀ (l:List S8) (s:UI),ZA s l->s.2.1.length<=32->(s.1=false->s.2.1=[])->(Uc s l).2.1.length<=32/\((Uc s l).1=false->(Uc s l).2.1=[])
 | [],s,_,h1,h2=>⟨h1,h2⟩
 | y::l,s,⟨a,_,b⟩,_,_=>aQ l _ b (Zq a) (λh=>by cases h)
abbrev s0 (a:Bool):UI:=(false,([],a))
def U9 (a b:List S8) (c:Bool) (n:Nat):XH:=(YZ a b n,(Uc (s0 c) (TX a b n),(Vx (s0 c) (TX a b n),(n:Int))))
def XO (a b:List S8):Nat->List Int
 | 0=>[]
 | n+1=>XO a b n++[(Z6 a b n:Int)]
theorem ZF (a b:List S8) : ∀ n,(XO a b n).length=n
 | 0=>rfl
 | n+1=>by simp [XO,ZF a b n]
theorem Xn {S β:Type} {f:S->Option (LR S β)} {r:β} (mk:Nat->S) (a n:Nat) {s:S} (b:s=mk a) (d:a<=n) (e:n<18446744073709551616) (hs : ∀ k,a<=k->k<n->f (mk k)=some (.nx (mk (k+1)))) (c:f (mk n)=some (.dn r)):loop f s=some r:=by
 have h:=Zt (f:=f) (r:=r) (λk=>mk (a+k)) (n-a) (s:=s) b (by omega) (λk d=>hs (a+k) (by omega) (by omega)) (by show f (mk (a+(n-a)))=_;rw [show a+(n-a)=n by omega];exact c);exact h
theorem Zi (l:List S8) (h:l.length<=100000):Va (l,l)=some true:=by
 unfold Va;simp only [TI,TF]
 rw [Ss,if_pos rfl,Yz (l:=l) (σ:=Unit) (s:=(false,0)) (λk _=>(false,(k:Int))) (λ_ _ _=>some (1,((false,(l.length:Int)),()))) () rfl (by omega) (λc=>by
  simp only;rw [re];rfl) (λk x m c _ a b => .inl ⟨(),by
   simp only;rw [rl b,R5,S9,Sb a,S9,Sb a,X6,X6,XY,show RR x.2.2.2 x.2.2.2=true by unfold RR;simp,show Hf (NX true (NX true (NX true (NX true true))))=false from rfl,Rd,TN a (by omega)],rfl⟩),SL]
 rfl
section
variable {a b:List S8} (va:VL a) (vb:VL b)
include va vb
theorem Wa {n:Nat} {x:S8} (c:ZS a b n=some x):TX a b (n+1)=TX a b n++[x]:=by
 show (match ZS a b n with
  | some x=>TX a b n++[x]
  | none=>TX a b n)=_
 rw [c]
theorem W3 (d:Bool) : ∀ {n:Nat},n<=a.length+b.length->ZA (s0 d) (TX a b n)
 | 0,_=>trivial
 | n+1,h=>by
  obtain ⟨x,c,_⟩:=Vb va vb (n:=n) (by omega);rw [Wa va vb c];refine cB _ _ _ (W3 d (by omega)) (gU va vb c) λ_ => ?_;cases n with
  | zero=>rename_i f;cases f
  | succ m =>
   obtain ⟨y,e,_⟩:=Vb va vb (n:=m) (by omega);rw [Wa va vb e,YP];exact d7 va vb (by omega) e c
theorem cc (c:Bool) {n:Nat} (h:n<=a.length+b.length):(Uc (s0 c) (TX a b n)).2.1.length<=32/\((Uc (s0 c) (TX a b n)).1=false->(Uc (s0 c) (TX a b n)).2.1=[]) :=
 aQ _ _ (W3 va vb c h) (by simp) (λ_=>rfl)
theorem mc {n:Nat} (h:n=a.length+b.length):(wk (kx a (TP a b n).1) (kx b (TP a b n).2)).2=true:=by
 obtain ⟨c,hs⟩:=WA va vb (n:=n) (by omega);have d:=c.ia;have e:=c.jb;rw [Yw (List.getElem?_eq_none (by omega)),Yw (List.getElem?_eq_none (by omega))];rfl
theorem md {n:Nat} {x:S8} (c:ZS a b n=some x):(wk (kx a (TP a b n).1) (kx b (TP a b n).2)).2=false/\wn (kx a (TP a b n).1) (kx b (TP a b n).2)=Z6 a b n:=by
 unfold ZS at c;unfold Z6;cases g:XN a b (TP a b n).1 (TP a b n).2 with
 | true=>rw [if_pos g] at c;rw [(ft g).1,(ft g).2,Wu c];exact ⟨rfl,rfl⟩
 | false=>rw [if_neg (by simp [g])] at c;rw [(fu g).1,(fu g).2,Wu c];exact ⟨rfl,rfl⟩
theorem mH:XF [a,b]=some (TX a b (a.length+b.length),(XO a b (a.length+b.length),0)):=by
 have u:=va.len;have w:=vb.len;unfold XF;rw [Yg va vb,SL,Ss,if_pos rfl];refine Eq.trans (b:=bd (loop _ (0,[([],false),([],false)])) _) rfl ?_;refine Tf (x:=(0,((2,[kx a 0,kx b 0]),()))) (Uq (s1:=(1,[kx a 0,([],false)])) (s2:=(2,[kx a 0,kx b 0])) ?_ ?_ rfl) ?_
 ·show bd (Tl (a,((0:Nat):Int))) _=_;rw [W8 (by omega)];rfl
 ·show bd (Tl (b,((0:Nat):Int))) _=_;rw [W8 (by omega)];rfl
 rw [show ((0:Nat),(((2:Int),[kx a 0,kx b 0]),())).2.1.2=[kx a 0,kx b 0] from rfl,ZC (UD _ _) (UD _ _),SL]
 refine Tf (x:=(0,((TX a b (a.length+b.length),(XO a b (a.length+b.length),((),([((TP a b (a.length+b.length)).1:Int),((TP a b (a.length+b.length)).2:Int)],Tt (kx a (TP a b (a.length+b.length)).1) (kx b (TP a b (a.length+b.length)).2))))),())))
  (Xn (λk=>(TX a b k,(XO a b k,((),([((TP a b k).1:Int),((TP a b k).2:Int)],Tt (kx a (TP a b k).1) (kx b (TP a b k).2)))))) 0 (a.length+b.length) rfl (by omega) (by omega) (λk _ r => ?_) ?_) rfl
 ·obtain ⟨x,c,_⟩:=Vb va vb (n:=k) r;obtain ⟨j,s⟩:=md va vb c;obtain ⟨t,hs⟩:=WA va vb (n:=k) (by omega);have h:(TX a b k).length=k:=Ut va vb (by omega);have i:=ZF a b k;simp only;rw [XW (UD _ _) (UD _ _),if_neg (by simp [j]),SL,Ss,if_pos rfl,s];rw [Wa va vb c];unfold ZS at c;rw [show XO a b (k+1)=XO a b k++[(Z6 a b k:Int)] from rfl];unfold Z6;rw [show TP a b (k+1)=if XN a b (TP a b k).1 (TP a b k).2=true then ((TP a b k).1+1,(TP a b k).2) else ((TP a b k).1,(TP a b k).2+1) from rfl]
  have l : ∀ {β:Type} (y:S8) (q:Unit->Option β),gd (CD (BD (AS (TX a b k)) (AS [y])) 1048576) q=q ():=λy q=>UC (by simp only [BD,AS,h,List.length_cons,List.length_nil];omega) q;have o : ∀ {β:Type} (y:Int) (q:Unit->Option β),gd (CD (BD (AS (XO a b k)) (AS [y])) 1048576) q=q ():=λy q=>UC (by simp only [BD,AS,i,List.length_cons,List.length_nil];omega) q;cases g:XN a b (TP a b k).1 (TP a b k).2 with
  | true =>
   rw [if_pos g] at c;obtain ⟨d,_⟩:=ft g;obtain ⟨m,f⟩:=Xa (p:=kx a (TP a b k).1) (q:=kx b (TP a b k).2) (k:=kx a ((TP a b k).1+1)) (UD _ _) (UD _ _) (UD _ _) j (by rw [d,Wu c];exact Za va c)
   have e:rk (kx a (TP a b k).1) (kx b (TP a b k).2) (kx a ((TP a b k).1+1))=(kx a ((TP a b k).1+1),kx b (TP a b k).2):=by
    unfold rk;unfold XN at g;rw [if_pos g]
   rw [e] at f;have hi:=(List.getElem?_eq_some_iff.1 c).1;simp only [if_true];refine (YH 0 rfl (x:=a) rfl).trans ((YH 0 rfl (x:=((TP a b k).1:Int)) rfl).trans ((V9 _ rfl c).trans ?_));rw [l,o];refine (YH 0 rfl (x:=((TP a b k).1:Int)) rfl).trans ((YH 0 rfl (x:=((TP a b k).1:Int)) rfl).trans ((YH 0 rfl (x:=a) rfl).trans ((YH 0 rfl (x:=Rl .i64 ((TP a b k).1:Int) 1) rfl).trans ?_)));rw [TK (by omega),W8 (by omega),SL,f,SL];rfl
  | false =>
   rw [if_neg (by simp [g])] at c;obtain ⟨d,_⟩:=fu g;obtain ⟨m,f⟩:=Xa (p:=kx a (TP a b k).1) (q:=kx b (TP a b k).2) (k:=kx b ((TP a b k).2+1)) (UD _ _) (UD _ _) (UD _ _) j (by rw [d,Wu c];exact Za vb c)
   have e:rk (kx a (TP a b k).1) (kx b (TP a b k).2) (kx b ((TP a b k).2+1))=(kx a (TP a b k).1,kx b ((TP a b k).2+1)):=by
    unfold rk;unfold XN at g;rw [if_neg (by simp [g])]
   rw [e] at f;have hi:=(List.getElem?_eq_some_iff.1 c).1;simp only [Bool.false_eq_true,if_false];refine (YH 1 rfl (x:=b) rfl).trans ((YH 1 rfl (x:=((TP a b k).2:Int)) rfl).trans ((V9 _ rfl c).trans ?_));rw [l,o];refine (YH 1 rfl (x:=((TP a b k).2:Int)) rfl).trans ((YH 1 rfl (x:=((TP a b k).2:Int)) rfl).trans ((YH 1 rfl (x:=b) rfl).trans ((YH 1 rfl (x:=Rl .i64 ((TP a b k).2:Int) 1) rfl).trans ?_)));rw [TK (by omega),W8 (by omega),SL,f,SL];rfl
 ·simp only;rw [XW (UD _ _) (UD _ _),if_pos (mc va vb rfl),SL,Ss,if_neg (by decide),Ss,if_neg (by decide)]
end
end
section
open Go Go.Proofs.YtfilfloanndddaaGreat.Sv
theorem du {β:Type} {out:List S8} {n:Nat} (h:out.length<=n) (a:n<=20000) (x:S8) (k:Unit->Option β):gd (CD (BD out.length [x].length) 1048576) k=k ():=an h a x k
section
variable {a b:List S8} (va:VL a) (vb:VL b)
include va vb
theorem XG {n:Nat} (h:n<=a.length+b.length):(TX a b (a.length+b.length)).take n=TX a b n:=cj va vb (Nat.le_refl _) h
theorem YG {n:Nat} {x:S8} (c:Bool) (d:ZS a b n=some x):Uc (s0 c) (TX a b (n+1))=(true,(x.1,c)):=by
 rw [Wa va vb d,YP,Wv]
theorem cw (c:Bool) {n:Nat} (h:n<=a.length+b.length):V8 (U9 a b c n)=some 0:=by
 obtain ⟨e,hs⟩:=WA va vb (n:=n) h;have i:=va.len;have j:=vb.len;have f:=Xh (s0 c) (TX a b n);have g:(TX a b n).length=n:=Ut va vb h;unfold V8;rw [show (U9 a b c n).1=Ym a b (TP a b n).1 (TP a b n).2 from rfl,YR va vb e,SL,Ss,if_pos rfl];refine Tf (x:=(0,((2,(n:Int)),()))) (Uq (s1:=(1,((TP a b n).1:Int))) (s2:=(2,(n:Int))) ?_ ?_ rfl) ?_
 ·refine (ZV 0 rfl rfl (x:=((TP a b n).1:Int)) rfl).trans ?_;show some (LR.nx ((1:Int),Rl .i64 0 ((TP a b n).1:Int)))=_;rw [R9 (by omega),Int.zero_add]
 ·refine (ZV 1 rfl rfl (x:=((TP a b n).2:Int)) rfl).trans ?_;show some (LR.nx ((2:Int),Rl .i64 ((TP a b n).1:Int) ((TP a b n).2:Int)))=_;rw [R9 (by omega),show ((TP a b n).1:Int)+((TP a b n).2:Int)=(n:Int) by omega]
 simp only [TI,TF];rw [show (U9 a b c n).2.2.1=Vx (s0 c) (TX a b n) from rfl,show (U9 a b c n).2.2.2=(n:Int) from rfl,show (U9 a b c n).2.1=Uc (s0 c) (TX a b n) from rfl,Sp,if_neg (by omega),Sp,if_neg (by omega),Ss,if_pos rfl];rw [show (Ym a b (TP a b n).1 (TP a b n).2).1=[a,b] from rfl,mH va vb,SL,Ss,if_pos rfl,S9];rw [UC (by rw [Ut va vb (Nat.le_refl _)];exact h),UC (Nat.zero_le _)];rw [show Dy (TX a b (a.length+b.length)) 0 n=TX a b n from by unfold Dy;rw [List.drop_zero,Nat.sub_zero];exact XG va vb h,Wv];rw [show (s0 c).2.2=c from rfl,eG (by omega) (W3 va vb c h),SL,Ss,if_pos rfl];unfold Uo;rw [SL,Sp];cases n with
 | zero =>
  rw [if_neg (by omega),Zi _ (by omega),SL,cX,Rd];show br (Hf (NX (Sv.beq false false) (NX (seq [] []) (NX (Sv.beq c c) true)))) _ _=_;rw [XY,XY,X6];rfl
 | succ m =>
  obtain ⟨x,d,_⟩:=Vb va vb (n:=m) (by omega);rw [if_pos (by omega),show Rp .i64 ((m+1:Nat):Int) 1=(m:Int) by rw [SB (by omega)];omega,S9];rw [Sb (x:=x) (by rw [Xp va vb (Nat.le_refl _) (by omega)];exact d),Zi _ (by omega),SL,cX,Rd,YG va vb c d];rw [XY,XY,X6];rfl
theorem gP {n:Nat} (h:n<=a.length+b.length):Wj (YZ a b n)=some (((a.length+b.length-n:Nat):Int),0):=by
 obtain ⟨c,hs⟩:=WA va vb (n:=n) h;have f:=va.len;have g:=vb.len;have d:=c.ia;have e:=c.jb;unfold Wj;rw [show YZ a b n=Ym a b (TP a b n).1 (TP a b n).2 from rfl,YR va vb c,SL,Ss,if_pos rfl];refine Tf (x:=(0,((2,((a.length+b.length-n:Nat):Int)),()))) (Uq (s1:=(1,(a.length:Int)-((TP a b n).1:Int))) (s2:=(2,((a.length+b.length-n:Nat):Int))) ?_ ?_ rfl) rfl
 ·refine (ZV 0 rfl rfl (x:=a) rfl).trans ((V9 0 rfl (x:=((TP a b n).1:Int)) rfl).trans ?_);simp only [TI,TF];rw [SB (by omega)];show some (LR.nx ((1:Int),Rl .i64 0 ((a.length:Int)-((TP a b n).1:Int))))=_;rw [R9 (by omega),Int.zero_add]
 ·refine (ZV 1 rfl rfl (x:=b) rfl).trans ((V9 1 rfl (x:=((TP a b n).2:Int)) rfl).trans ?_);simp only [TI,TF];rw [SB (by omega)];show some (LR.nx ((2:Int),Rl .i64 ((a.length:Int)-((TP a b n).1:Int)) ((b.length:Int)-((TP a b n).2:Int))))=_;rw [R9 (by omega),show (a.length:Int)-((TP a b n).1:Int)+((b.length:Int)-((TP a b n).2:Int))=((a.length+b.length-n:Nat):Int) by omega]
theorem ZO (c:Bool) {n:Nat} (h:n<=a.length+b.length):Tx (U9 a b c n)=some (((a.length+b.length-n:Nat):Int),0):=by
 unfold Tx;rw [cw va vb c h,SL,Ss,if_pos rfl,show (U9 a b c n).1=YZ a b n from rfl,gP va vb h];rfl
theorem Zg (c:Bool) {n:Nat} {x:S8} (d:ZS a b n=some x):U9 a b c (n+1)=(YZ a b (n+1),((true,(x.1,c)),(Vx (s0 c) (TX a b n)++(if keep (Uc (s0 c) (TX a b n)) x=true then [x] else []),((n+1:Nat):Int)))):=by
 unfold U9;rw [Wa va vb d,YP,Wv,bU]
theorem X7 (c:Bool) {n:Nat} {x:S8} (h:n<a.length+b.length) (e:ZS a b n=some x):UT (Uc (s0 c) (TX a b n),x)=some (keep (Uc (s0 c) (TX a b n)) x,((true,(x.1,c)),0)):=by
 have d:=cc va vb c (n:=n) (by omega);rw [fC d.1 d.2 (gU va vb e),Wv];intro g;cases n with
 | zero=>cases g
 | succ m =>
  obtain ⟨y,f,_⟩:=Vb va vb (n:=m) (by omega);rw [YG va vb c f];exact d7 va vb (by omega) f e
def ml (k:Int) (s:XH):Int×(Int×(List (List S8)×(List Int×(List TE×(List Int×(Int×(Bool×(XC×(Bool×(List S8×Int)))))))))) :=
 (k,(0,(s.1.1,(s.1.2.1,(s.1.2.2.1,(s.1.2.2.2.1,(s.1.2.2.2.2,(s.2.1.1,(s.2.1.2.1,(s.2.1.2.2,(s.2.2.1,s.2.2.2)))))))))))
theorem aa (c:Bool) {n:Nat} (h:n<=a.length+b.length) {k:Nat}:UO (U9 a b c n,(k:Int))=some (U9 a b c (n+min k (a.length+b.length-n)),(((min k (a.length+b.length-n):Nat):Int),0)):=by
 have w:=va.len;have z:=vb.len;have d : ∀ m,m<=a.length+b.length->(Vx (s0 c) (TX a b m)).length<=m:=λm s=>by have:=Xh (s0 c) (TX a b m);have:=Ut va vb s;omega
 obtain ⟨u,t⟩ : ∃ u,u=min k (a.length+b.length-n):=⟨_,rfl⟩
 have i:Sz (k:Int) ((a.length+b.length-n:Nat):Int)=(u:Int):=by
  unfold Sz;split<;>omega
 rw [<- t];unfold UO;rw [ZO va vb c h,SL,Ss,if_pos rfl];simp only [i,TI,TF];rw [Sr,if_neg (by omega),show (U9 a b c n).2.2.2=(n:Int) from rfl,R9 (by omega),Sp,if_neg (by omega)];rw [show (U9 a b c n).2.2.1=Vx (s0 c) (TX a b n) from rfl,show (U9 a b c n).1=YZ a b n from rfl,UC (by have:=d n h;omega),UC (show (YZ a b n).2.1.length<=1048576 from (show 2<=1048576 by omega)),Sr];by_cases r:u=0
 ·rw [r,if_neg (by omega)];rfl
 rw [if_pos (by omega)];obtain ⟨x,o,_⟩:=Vb va vb (n:=n) (by omega);rw [Zu va vb (by omega) o,SL,Ss,if_pos rfl,show (U9 a b c n).2.1=Uc (s0 c) (TX a b n) from rfl,X7 va vb c (by omega) o,SL,Ss,if_pos rfl]
 have q : ∀ j,1<=j->j<u -> ∃ y,ZS a b (n+j)=some y:=λj f g=>by
  obtain ⟨y,e,_⟩:=Vb va vb (n:=n+j) (by omega);exact ⟨y,e⟩
 rw [Sx];have hS:=Zg va vb c o;cases p:keep (Uc (s0 c) (TX a b n)) x with
 | true =>
  rw [p] at hS;rw [if_pos rfl,du (d n h) (by omega)];refine Tf (x:=(1,(ml u (U9 a b c (n+u)),()))) (Xn (λj=>ml j (U9 a b c (n+j))) 1 u ?_ (by omega) (by omega) (λj f g => ?_) ?_) ?_
  ·rw [hS,show Rl .i64 (n:Int) 1=((n+1:Nat):Int) from TK (by omega)];rfl
  ·obtain ⟨y,e⟩:=q j f g;show br (SW (j:Int) (u:Int)) _ _=_;rw [Sr,if_pos (by omega)];show bd (UP (YZ a b (n+j))) _=_;rw [Zu va vb (by omega) e,SL,Ss,if_pos rfl];show bd (UT (Uc (s0 c) (TX a b (n+j)),y)) _=_;rw [X7 va vb c (by omega) e,SL,Ss,if_pos rfl,Sx,show n+(j+1)=n+j+1 by omega,Zg va vb c e];cases l:keep (Uc (s0 c) (TX a b (n+j))) y with
   | true =>
    rw [if_pos rfl,if_pos rfl];show gd (CD (BD (AS (Vx (s0 c) (TX a b (n+j)))) (AS [y])) 1048576) _=_;rw [an (d _ (by omega)) (by omega)];show some (LR.nx (Rl .i64 (j:Int) 1,_))=_;unfold ml;simp only [TK (show j+1<=9223372036854775807 by omega),Ik];rw [show Rl .i64 (U9 a b c (n+j)).2.2.2 1=((n+j+1:Nat):Int) from TK (by omega)];rfl
   | false =>
    rw [if_neg (by simp),if_neg (by simp)];show some (LR.nx (Rl .i64 (j:Int) 1,_))=_;unfold ml;simp only [TK (show j+1<=9223372036854775807 by omega)];rw [show Rl .i64 (U9 a b c (n+j)).2.2.2 1=((n+j+1:Nat):Int) from TK (by omega),List.append_nil];rfl
  ·show br (SW (u:Int) (u:Int)) _ _=_;rw [Sr,if_neg (by omega)]
  ·rfl
 | false =>
  rw [p] at hS;rw [if_neg (by simp)];refine Tf (x:=(1,(ml u (U9 a b c (n+u)),()))) (Xn (λj=>ml j (U9 a b c (n+j))) 1 u ?_ (by omega) (by omega) (λj f g => ?_) ?_) ?_
  ·rw [hS,show Rl .i64 (n:Int) 1=((n+1:Nat):Int) from TK (by omega),if_neg (by simp),List.append_nil];rfl
  ·obtain ⟨y,e⟩:=q j f g;show br (SW (j:Int) (u:Int)) _ _=_;rw [Sr,if_pos (by omega)];show bd (UP (YZ a b (n+j))) _=_;rw [Zu va vb (by omega) e,SL,Ss,if_pos rfl];show bd (UT (Uc (s0 c) (TX a b (n+j)),y)) _=_;rw [X7 va vb c (by omega) e,SL,Ss,if_pos rfl,Sx,show n+(j+1)=n+j+1 by omega,Zg va vb c e];cases l:keep (Uc (s0 c) (TX a b (n+j))) y with
   | true =>
    rw [if_pos rfl,if_pos rfl];show gd (CD (BD (AS (Vx (s0 c) (TX a b (n+j)))) (AS [y])) 1048576) _=_;rw [an (d _ (by omega)) (by omega)];show some (LR.nx (Rl .i64 (j:Int) 1,_))=_;unfold ml;simp only [TK (show j+1<=9223372036854775807 by omega),Ik];rw [show Rl .i64 (U9 a b c (n+j)).2.2.2 1=((n+j+1:Nat):Int) from TK (by omega)];rfl
   | false =>
    rw [if_neg (by simp),if_neg (by simp)];show some (LR.nx (Rl .i64 (j:Int) 1,_))=_;unfold ml;simp only [TK (show j+1<=9223372036854775807 by omega)];rw [show Rl .i64 (U9 a b c (n+j)).2.2.2 1=((n+j+1:Nat):Int) from TK (by omega),List.append_nil];rfl
  ·show br (SW (u:Int) (u:Int)) _ _=_;rw [Sr,if_neg (by omega)]
  ·rfl
end
end
section
open Go Go.Proofs.YtfilfloanndddaaGreat.Sv
theorem WZ {α β σ S:Type} {l:List α} (mk:Nat->σ->S) (I:List α->Nat->σ->Prop) (Q:β->Prop) {f:S->Option (LR S β)} {s:S} (a:σ) (t:s=mk 0 a) (z:l.length<=9223372036854775807) (hi:I l 0 a)
  (w : ∀ a,I [] l.length a -> ∃ r,f (mk l.length a)=some (.dn r)/\Q r)
  (hc : ∀ k x m a,l.drop k=x::m->l[k]? = some x->k<l.length->I (x::m) k a->(∃ b,f (mk k a)=some (.nx (mk (k+1) b))/\I m (k+1) b) \/ ∃ r,f (mk k a)=some (.dn r)/\Q r) : ∃ r,loop f s=some r/\Q r:=by
 subst t
 have h : ∀ (m:List α) (k n:Nat) (a:σ),l.drop k=m->k<=l.length->m.length<n->I m k a -> ∃ r,IJ n f (mk k a)=some r/\Q r:=by
  intro m
  induction m with
  | nil =>
   intro k n a e u g hi;obtain ⟨n,rfl⟩ : ∃ j,n=j+1:=⟨n-1,by omega⟩
   have o:k=l.length:=by
    have:=congrArg List.length e;simp at this;omega
   subst o;obtain ⟨r,c,d⟩:=w a hi;exact ⟨r,Tp c,d⟩
  | cons x m y =>
   intro k n a e u g hi;obtain ⟨n,rfl⟩ : ∃ j,n=j+1:=⟨n-1,by omega⟩
   have q:l[k]? = some x:=by
    have:=congrArg List.head? e;rw [List.head?_drop] at this;simpa using this
   have i:k<l.length:=(List.getElem?_eq_some_iff.1 q).1
   have p:l.drop (k+1)=m:=by
    have:=congrArg List.tail e;rw [List.tail_drop] at this;simpa using this
   rcases hc k x m a e q i hi with ⟨b,c,d⟩ | ⟨r,c,d⟩
   ·rw [Th c];exact y (k+1) n b p (by omega) (by simp at g;omega) d
   ·exact ⟨r,Tp c,d⟩
 exact h l 0 _ a (by simp) (by omega) (by omega) hi
theorem Xm {α:Type} (l m:List α) (i:l.length=m.length) (n:l.length<=9223372036854775806) {f:(Int×Bool)->Option (LR (Int×Bool) (Nat×((Int×Bool)×Unit)))}
  (hs : ∀ (k:Nat) x y,l[k]? = some x->m[k]? = some y->(x=y->f ((k:Int),false)=some (.nx (((k+1:Nat):Int),false)))/\(x≠y->f ((k:Int),false)=some (.dn (0,(((k:Int),false),())))))
  (g:f ((l.length:Int),false)=some (.dn (1,(((l.length:Int),false),())))) :
  ∃ r,loop f (0,false)=some r/\((l=m/\r.1=1)\/(l≠m/\r.1=0/\r.2.1.2=false)):=by
 refine WZ (l:=l) (σ:=Unit) (λk _=>((k:Int),false)) (λt k _=>t=l.drop k/\l.take k=m.take k) _ () rfl (by omega) ⟨by simp,by simp⟩ (λj h => ?_) (λk x t j d b o h => ?_)
 ·refine ⟨_,g,.inl ⟨?_,rfl⟩⟩;have:=h.2;rw [List.take_length,i,List.take_length] at this;exact this
 ·have c:k<m.length:=by omega
  have a:m[k]? = some m[k]:=by simp [c]
  by_cases e:x=m[k]
  ·refine .inl ⟨(),(hs k x m[k] b a).1 e,?_,?_⟩
   ·have:=congrArg List.tail d;rw [List.tail_drop] at this;simp at this;exact this.symm
   ·rw [List.take_add_one,List.take_add_one,h.2,b,a,e]
  ·refine .inr ⟨_,(hs k x m[k] b a).2 e,.inr ⟨?_,rfl,rfl⟩⟩;intro e2;subst e2;rw [b] at a;exact e (Option.some.inj a)
theorem beq_eq (a b:Bool):Sv.beq a b=decide (a=b):=by cases a<;>cases b<;>rfl
theorem VU (a b:Int):RR a b=decide (a=b):=by
 unfold RR;by_cases h:a=b<;>simp [h]
theorem XX (p q:Prop) [Decidable p] [Decidable q]:NX (decide p) (decide q)=decide (p/\q):=by unfold NX;simp
theorem Ur (p:Prop) [Decidable p]:Hf (decide p)=decide (¬ p):=by unfold Hf;simp
theorem YM (a:Bool):NX a true=a:=by cases a<;>rfl
theorem eP (l m:List TE) (s:l.length<=9223372036854775806):TT (l,m)=some (decide (l=m)):=by
 unfold TT;simp only [TI,TF];rw [Ss];by_cases b:(l.length:Int)=(m.length:Int)
 ·rw [if_pos b];have c:l.length=m.length:=by omega
  obtain ⟨r,p,a⟩:=Xm l m c s (f:=λs0=>br (SW s0.1 (l.length:Int)) (λ_=>RX s0.1 λt=>ix l t λn=>RX s0.1 λw=>ix m w λo=>br (Hf (NX (seq n.1 o.1) (NX (Sv.beq n.2 o.2) true))) (λ_=>some (.dn ((0,((s0.1,false),()))))) λ_=>some (.nx (Rl .i64 s0.1 1,s0.2))) λ_=>some (.dn ((1,(s0,()))))) (λk x y d j=>by
    have i:=(List.getElem?_eq_some_iff.1 d).1
    have g : ∀ {β:Type} (u v:Unit->Option β),br (Hf (NX (seq x.1 y.1) (NX (Sv.beq x.2 y.2) true))) u v=if x=y then v () else u ():=by
     intro β u v;rw [YM,Yk,beq_eq,XX,Ur,Uw];by_cases e:x=y
     ·subst e;simp
     ·rw [if_pos (λh=>e (Prod.ext h.1 h.2)),if_neg e]
    constructor
    ·intro e;simp only;rw [rl i,R5,S9,Sb d,S9,Sb j,g,if_pos e,TK (by omega)]
    ·intro e;simp only
     rw [rl i,R5,S9,Sb d,S9,Sb j,g,if_neg e]) (by simp only;rw [re];rfl)
  refine Tf p ?_;rcases a with ⟨e,a⟩ | ⟨e,a,q⟩
  ·rw [SM,a];simp [e]
  ·rw [SM,a];simp [e,q]
 ·rw [if_neg b];have : ¬ l=m:=λe=>b (by rw [e]);simp [this]
theorem YN (l m:List Int) (n:l.length<=9223372036854775806):TL (l,m)=some (decide (l=m)):=by
 unfold TL;simp only [TI,TF];rw [Ss];by_cases b:(l.length:Int)=(m.length:Int)
 ·rw [if_pos b];have c:l.length=m.length:=by omega
  obtain ⟨r,i,a⟩:=Xm l m c n (f:=λs0=>br (SW s0.1 (l.length:Int)) (λ_=>RX s0.1 λo=>ix l o λq=>RX s0.1 λp=>ix m p λs=>br (RT q s) (λ_=>some (.dn ((0,((s0.1,false),()))))) λ_=>some (.nx (Rl .i64 s0.1 1,s0.2))) λ_=>some (.dn ((1,(s0,()))))) (λk x y d h=>by
    have g:=(List.getElem?_eq_some_iff.1 d).1;constructor
    ·intro e;simp only;rw [rl g,R5,S9,Sb d,S9,Sb h,Ss,if_pos e,TK (by omega)]
    ·intro e;simp only
     rw [rl g,R5,S9,Sb d,S9,Sb h,Ss,if_neg e]) (by simp only;rw [re];rfl)
  refine Tf i ?_;rcases a with ⟨e,a⟩ | ⟨e,a,j⟩
  ·rw [SM,a];simp [e]
  ·rw [SM,a];simp [e,j]
 ·rw [if_neg b];have : ¬ l=m:=λe=>b (by rw [e]);simp [this]
theorem bO {β:Type} (x y:S8) (u v:Unit->Option β):br (Hf (NX (seq x.1 y.1) (NX (seq x.2.1 y.2.1) (NX (Sv.beq x.2.2.1 y.2.2.1) (NX (RR x.2.2.2 y.2.2.2) true))))) u v=if x=y then v () else u ():=by
 rw [YM,Yk,Yk,beq_eq,VU,XX,XX,XX,Ur,Uw];by_cases e:x=y
 ·subst e;simp
 ·rw [if_pos (λh=>e (Prod.ext h.1 (Prod.ext h.2.1 (Prod.ext h.2.2.1 h.2.2.2)))),if_neg e]
theorem Wg (l m:List S8) (p:l.length<=9223372036854775806):Tw (l,m)=some (decide (l=m)):=by
 unfold Tw;simp only [TI,TF];rw [Ss];by_cases d:(l.length:Int)=(m.length:Int)
 ·rw [if_pos d];have g:l.length=m.length:=by omega
  obtain ⟨r,n,a⟩:=Xm l m g p (f:=λs0=>br (SW s0.1 (l.length:Int)) (λ_=>RX s0.1 λq=>ix l q λb=>RX s0.1 λs=>ix m s λc=>br (Hf (NX (seq b.1 c.1) (NX (seq b.2.1 c.2.1) (NX (Sv.beq b.2.2.1 c.2.2.1) (NX (RR b.2.2.2 c.2.2.2) true))))) (λ_=>some (.dn ((0,((s0.1,false),()))))) λ_=>some (.nx (Rl .i64 s0.1 1,s0.2))) λ_=>some (.dn ((1,(s0,()))))) (λk x y h j=>by
    have i:=(List.getElem?_eq_some_iff.1 h).1;constructor
    ·intro e;simp only;rw [rl i,R5,S9,Sb h,S9,Sb j,bO,if_pos e,TK (by omega)]
    ·intro e;simp only
     rw [rl i,R5,S9,Sb h,S9,Sb j,bO,if_neg e]) (by simp only;rw [re];rfl)
  refine Tf n ?_;rcases a with ⟨e,a⟩ | ⟨e,a,o⟩
  ·rw [SM,a];simp [e]
  ·rw [SM,a];simp [e,o]
 ·rw [if_neg d];have : ¬ l=m:=λe=>d (by rw [e]);simp [this]
theorem XS (l m:List S8) (a:l.length<=9223372036854775806):UG (l,m)=some (decide (l=m)):=by
 unfold UG;rw [Wg l m a];rfl
instance:DecidableEq S8:=inferInstance
instance:DecidableEq (List S8):=inferInstance
instance:DecidableEq (List (List S8)):=inferInstance
instance:DecidableEq TE:=inferInstance
instance:DecidableEq Vd:=inferInstance
instance:DecidableEq TC:=inferInstance
instance:DecidableEq UI:=inferInstance
instance:DecidableEq XH:=inferInstance
theorem bh (x y:XH) (n:x.1.1.length<=1000) (i : ∀ l∈x.1.1,l.length<=1000000) (o:x.1.2.1.length<=1000) (p:x.1.2.2.1.length<=1000) (q:x.1.2.2.2.1.length<=1000) (s:x.2.2.1.length<=1000000):VD (x,y)=some (decide (x=y)):=by
 obtain ⟨⟨a,E,F,G,M⟩,⟨xs,L,J⟩,I,K⟩:=x;obtain ⟨⟨b,N,P,S,Z⟩,⟨X,Y,O⟩,W,U⟩:=y;simp only at n i o p q s;unfold VD;simp only [TI,TF];rw [Ss];by_cases g:(a.length:Int)=(b.length:Int)
 ·rw [if_pos g];have h:a.length=b.length:=by omega
  obtain ⟨r,z,d⟩:=Xm a b h (by omega) (f:=λs0=>br (SW s0.1 (a.length:Int)) (λ_=>RX s0.1 λu=>ix a u λC=>RX s0.1 λw=>ix b w λD=>bd (UG (C,D)) λB=>br (Hf B) (λ_=>some (.dn ((0,((s0.1,false),()))))) λ_=>some (.nx (Rl .i64 s0.1 1,s0.2))) λ_=>some (.dn ((1,(s0,()))))) (λk x y c m=>by
    have j:=(List.getElem?_eq_some_iff.1 c).1;have t:=i x (List.mem_of_getElem? c);constructor
    ·intro e;simp only;rw [rl j,R5,S9,Sb c,S9,Sb m,XS _ _ (by omega),SL,Ur,Uw,if_neg (by simp [e]),TK (by omega)]
    ·intro e;simp only
     rw [rl j,R5,S9,Sb c,S9,Sb m,XS _ _ (by omega),SL,Ur,Uw,if_pos e]) (by simp only;rw [re];rfl)
  refine Tf z ?_;simp only [YN _ _ (show E.length<=9223372036854775806 by omega),YN _ _ (show G.length<=9223372036854775806 by omega),eP _ _ (show F.length<=9223372036854775806 by omega),XS _ _ (show I.length<=9223372036854775806 by omega),SL,Uw,VU,Yk,beq_eq,YM,XX,SM];rw [Sx];rcases d with ⟨e,d⟩ | ⟨e,d,A⟩
  ·rw [if_neg (show ¬ r.1=0 by omega)]
   repeat' split
   all_goals simp_all
  ·rw [if_pos d,if_neg (show ¬ r.2.1.2=true by simp [A])];simp [e]
 ·rw [if_neg g];have : ¬ a=b:=λe=>g (by rw [e]);simp [this]
end
section
open Go Go.Proofs.YtfilfloanndddaaGreat.Sv
def kR (a:List Int) (most:Int) (r:Te):Int :=
 if r.1<1\/r.1>1000000 then 7 else if (WL r.2).2≠0 then (WL r.2).2 else if r.2.length=0 then 4 else if (r.2.length:Int)>most then 3 else if r.1∈a then 8 else 0
def YU (most:Int):Nat->List Int->List Te->Option (Nat×Int)
 | _,_,[]=>none
 | k,ids,r::rs=>if kR ids most r≠0 then some (k,kR ids most r) else YU most (k+1) (ids++[r.1]) rs
def UX (B:Int) (i:Nat):Int:=B*2 ^ i
def YT (B:Int):Nat->List Int->List (List Te)->Option (Nat×(Nat×Int))
 | _,_,[]=>none
 | i,ids,rs::ls=>if rs.length>2 then some (i,(0,3)) else match YU (UX B i) 0 ids rs with
  | some (k,e)=>some (i,(k,e))
  | none=>YT B (i+1) (ids++rs.map (·.1)) ls
def Vv (L:TB):Int×(Int×Int) :=
 if L.1<1\/L.1>16 then (0,(0,7)) else if L.2.length>12 then (0,(0,3)) else match YT L.1 0 [] L.2 with
  | some (i,(k,e))=>((i:Int),((k:Int),e))
  | none=>if L.2.getLast? = some [] then (((L.2.length-1:Nat):Int),(0,6)) else (0,(0,0))
theorem eE {most:Int} : ∀ {rs:List Te} {k:Nat} {a:List Int} {c:Nat} {e:Int},YU most k a rs=some (c,e)->e≠0
 | [],_,_,_,_,h=>by cases h
 | r::rs,k,a,c,e,h=>by
  unfold YU at h;by_cases b:kR a most r≠0
  ·rw [if_pos b] at h;cases h;exact b
  ·rw [if_neg b] at h;exact eE h
theorem au {B:Int} : ∀ {ls:List (List Te)} {i:Nat} {a:List Int} {d f:Nat} {e:Int},YT B i a ls=some (d,(f,e))->e≠0
 | [],_,_,_,_,_,h=>by cases h
 | rs::ls,i,a,d,f,e,h=>by
  unfold YT at h;by_cases c:rs.length>2
  ·rw [if_pos c] at h;cases h;decide
  ·rw [if_neg c] at h;cases b:YU (UX B i) 0 a rs with
   | none=>rw [b] at h;exact au h
   | some x=>rw [b] at h;cases h;exact eE b
def aE (a:List Int):List (Int×Bool):=a.map λi=>(i,true)
theorem gQ (c:List Int) (i:Int):Rt (MI (λa b=>RR a b) (aE c) i) false=decide (i∈c):=by
 induction c with
 | nil=>rfl
 | cons j c d =>
  show Rt (bif RR i j then some true else MI (λa b=>RR a b) (aE c) i) false=_
  rw [VU];by_cases h:i=j
  ·simp [h,Rt]
  ·simp only [h,decide_false,cond_false,List.mem_cons,false_or];exact d
theorem gS {c:List Int} {i:Int} (h:i ∉ c):IR (λa b=>RR a b) (aE c) i true=aE (c++[i]):=by
 induction c with
 | nil=>rfl
 | cons j c f =>
  show (bif RR i j then (i,true)::aE c else (j,true)::IR (λa b=>RR a b) (aE c) i true)=_
  rw [VU];have d : ¬ i=j:=λe=>h (by simp [e]);rw [f (λe=>h (by simp [e]))];simp only [d,decide_false,cond_false];rfl
theorem bD (r:Te) (b:r.2.length<=9223372036854775807):Ws r=some (if r.1<1\/r.1>1000000 then (-1,7) else WL r.2):=by
 unfold Ws;rw [Sr,Sp,XD _ b,SL];by_cases h:r.1<1
 ·rw [if_pos h,if_pos (.inl h)]
 ·rw [if_neg h];by_cases a:r.1>1000000
  ·rw [if_pos a,if_pos (.inr a)]
  ·rw [if_neg a,if_neg (by omega)]
theorem aR (r:Te) (most:Int) (b:r.2.length<=9223372036854775807):U0 (r,most)=some (kR [] most r):=by
 unfold U0 kR;rw [bD r b,SL];simp only [TI,TF];by_cases h:r.1<1\/r.1>1000000
 ·rw [if_pos h,if_pos h];rfl
 ·rw [if_neg h,if_neg h,Ss];by_cases a:(WL r.2).2=0
  ·rw [if_pos a,if_neg (by simp [a]),Sn,Sp]
   repeat' split
   all_goals first | rfl | (exfalso;omega) | simp_all
  ·rw [if_neg a,if_pos a]
theorem mu (a:List Int) (most:Int) (r:Te):kR a most r=if kR [] most r=0 then (if r.1∈a then 8 else 0) else kR [] most r:=by
 unfold kR
 repeat' split
 all_goals simp_all
theorem m6 (i:Nat) (h:i<=12):(2:Int) ^ i<=4096/\1<=(2:Int) ^ i:=by
 have a:(2:Nat) ^ i<=2 ^ 12:=Nat.pow_le_pow_right (by omega) h;have b:1<=(2:Nat) ^ i:=Nat.one_le_two_pow;have c:((2 ^ i:Nat):Int)=(2:Int) ^ i:=by simp
 omega
theorem cN {B:Int} {i:Nat} (a:1<=B) (b:B<=16) (hi:i<=12):1<=UX B i/\UX B i<=65536:=by
 obtain ⟨c,d⟩:=m6 i hi;unfold UX;constructor
 ·have:=Int.mul_le_mul a d (by omega) (by omega);omega
 ·have:=Int.mul_le_mul b c (by omega) (by omega);omega
theorem ZG {B:Int} {i:Nat} (a:1<=B) (b:B<=16) (hi:i<=12):SZ .i64 B (i:Int)=UX B i:=by
 have c:=cN a b hi;unfold SZ;rw [show min ((i:Int).toNat) IntKind.i64.bits=i by rw [Int.toNat_natCast];exact Nat.min_eq_left (Nat.le_trans hi (by decide))];unfold UX at c ⊢;exact IntWalk.i64_in _ (by omega)
def Q1:Option (Nat×(Nat×Int))->Int->Int->Int->Prop
 | some (i,(k,e)),a,b,c=>a=(k:Int)/\b=(i:Int)/\c=e
 | none,_,_,c=>c=0
def Q2 (m:List (Int×Bool)):Option (Nat×Int)->Nat->Int->Int->List (Int×Bool)->Prop
 | some (k,e),r,a,c,_=>r=0/\a=(k:Int)/\c=e
 | none,r,_,c,m'=>r=1/\c=0/\m'=m
theorem Yf (L:TB) (hb:L.2.length<=1048576) (hr : ∀ rs∈L.2,rs.length<=1048576 /\ ∀ r∈rs,r.2.length<=9223372036854775807):U4 L=some (Vv L):=by
 unfold U4 Vv;simp only [TI,TF];rw [Sr,Sp,Sp];by_cases z:L.1<1
 ·rw [if_pos z,if_pos (.inl z)]
 rw [if_neg z];by_cases A:L.1>16
 ·rw [if_pos A,if_pos (.inr A)]
 rw [if_neg A,if_neg (show ¬ (L.1<1\/L.1>16) by omega)];by_cases hl:(L.2.length:Int)>12
 ·rw [if_pos hl,if_pos (by omega)]
 rw [if_neg hl,if_neg (by omega)];have hl2:L.2.length<=12:=by omega
 obtain ⟨T,I⟩ : ∃ T,T=YT L.1 0 [] L.2:=⟨_,rfl⟩;rw [<- I]
 have C : ∀ W:Int,W=0->T=none->(br (RT W 0) (λ_=>(none:Option (Int×(Int×Int)))) λ_=>br (SU (L.2.length:Int) 0) (λ_=>RX (Rp .i64 (L.2.length:Int) 1) λO=>ix L.2 O λX=>br (RR (X.length:Int) 0) (λ_=>some ((Rp .i64 (L.2.length:Int) 1,(0,6)))) λ_=>some ((0,(0,0)))) λ_=>some ((0,(0,0))))=some (if L.2.getLast? = some [] then (((L.2.length-1:Nat):Int),(0,6)) else (0,(0,0))):=by
  intro W o _;rw [Ss,if_pos o,Sp];by_cases hn:L.2=[]
  ·rw [hn];rfl
  ·have hp:=List.length_pos_iff.2 hn;rw [if_pos (by omega),show Rp .i64 (L.2.length:Int) 1=((L.2.length-1:Nat):Int) by rw [SB (by omega)];omega,S9,List.getLast?_eq_getElem?];have n:L.2[L.2.length-1]? = some (L.2[L.2.length-1]'(by omega)):=by simp
   rw [Sb n,n,Sn];by_cases N:L.2[L.2.length-1]'(by omega)=[]
   ·rw [N];simp
   ·rw [if_neg (by have:=List.length_pos_iff.2 N;omega),if_neg (by simp [N])]
 obtain ⟨r,S,b⟩:=WZ (l:=L.2) (σ:=Int×(Int×List Int)) (λi j=>(j.1,(j.2.1,((0:Int),((i:Int),aE j.2.2)))))
  (λm i j=>YT L.1 i j.2.2 m=T) (λ(r:Nat×((Int×(Int×(Int×(Int×List (Int×Bool)))))×Unit))=>Q1 T r.2.1.1 r.2.1.2.1 r.2.1.2.2.1)
  (f:=λs0=>br (SW s0.2.2.2.1 (L.2.length:Int)) (λ_=>RX s0.2.2.2.1 λk1=>ix L.2 k1 λY=>br (SU (Y.length:Int) 2) (λ_=>some (.dn ((0,((0,(s0.2.2.2.1,(3,s0.2.2.2))),()))))) λ_=>bd (loop (λa=>br (SW a.2.1 (Y.length:Int)) (λ_=>RX a.2.1 λP=>ix Y P λp=>gd (RS s0.2.2.2.1 0) λ_=>bd (U0 (p,SZ .i64 L.1 s0.2.2.2.1)) λg=>br (RR g 0) (λ_=>br (Rt (MI ((λJ=>(λK=>RR J K))) a.2.2.2 p.1) false) (λ_=>some (.dn ((0,((a.2.1,(a.2.1,(8,a.2.2.2))),()))))) λ_=>br (RT g 0) (λ_=>some (.dn ((0,((a.2.1,(a.2.1,(g,a.2.2.2))),()))))) λ_=>some (.nx ((a.2.1,(Rl .i64 a.2.1 1,(g,IR ((λM=>(λw=>RR M w))) a.2.2.2 p.1 true)))))) λ_=>br (RT g 0) (λ_=>some (.dn ((0,((a.2.1,(a.2.1,(g,a.2.2.2))),()))))) λ_=>some (.nx ((a.2.1,(Rl .i64 a.2.1 1,(g,IR ((λx=>(λy=>RR x y))) a.2.2.2 p.1 true)))))) λ_=>some (.dn ((1,(a,()))))) ((0,(0,(s0.2.2.1,s0.2.2.2.2))))) λd=>br (neq d.1 0) (λ_=>some (.dn ((0,((d.2.1.1,(s0.2.2.2.1,(d.2.1.2.2.1,(s0.2.2.2.1,d.2.1.2.2.2)))),()))))) λ_=>some (.nx ((d.2.1.1,(s0.2.2.2.1,(d.2.1.2.2.1,(Rl .i64 s0.2.2.2.1 1,d.2.1.2.2.2))))))) λ_=>some (.dn ((0,(s0,())))))
  (s:=(0,(0,(0,(0,[]))))) (0,(0,[])) rfl (by omega) I.symm (λj h=>by
   refine ⟨_,by simp only;rw [re];rfl,?_⟩;simp only at h ⊢;rw [<- h];exact rfl) (λi rs m j hd n hi h=>by
   obtain ⟨s1,s2,c⟩:=j;simp only at h ⊢;obtain ⟨hrs1,F⟩:=hr rs (List.mem_of_getElem? n);rw [rl hi,R5,S9,Sb n,Sp];unfold YT at h;by_cases Z:rs.length>2
   ·rw [if_pos (by omega)];rw [if_pos Z] at h;refine .inr ⟨_,rfl,?_⟩;rw [<- h];exact ⟨rfl,rfl,rfl⟩
   rw [if_neg (by omega)];rw [if_neg Z] at h;obtain ⟨U,hU⟩ : ∃ U,U=YU (UX L.1 i) 0 c rs:=⟨_,rfl⟩;rw [<- hU] at h
   obtain ⟨r,S,b⟩:=WZ (l:=rs) (σ:=Int) (λk j=>(j,((k:Int),((0:Int),aE (c++(rs.take k).map (·.1))))))
    (λm k _=>YU (UX L.1 i) k (c++(rs.take k).map (·.1)) m=U) (λ(r:Nat×((Int×(Int×(Int×List (Int×Bool))))×Unit))=>Q2 (aE (c++rs.map (·.1))) U r.1 r.2.1.1 r.2.1.2.2.1 r.2.1.2.2.2)
    (f:=λa=>br (SW a.2.1 (rs.length:Int)) (λ_=>RX a.2.1 λP=>ix rs P λp=>gd (RS (i:Int) 0) λ_=>bd (U0 (p,SZ .i64 L.1 (i:Int))) λg=>br (RR g 0) (λ_=>br (Rt (MI ((λJ=>(λK=>RR J K))) a.2.2.2 p.1) false) (λ_=>some (.dn ((0,((a.2.1,(a.2.1,(8,a.2.2.2))),()))))) λ_=>br (RT g 0) (λ_=>some (.dn ((0,((a.2.1,(a.2.1,(g,a.2.2.2))),()))))) λ_=>some (.nx ((a.2.1,(Rl .i64 a.2.1 1,(g,IR ((λM=>(λw=>RR M w))) a.2.2.2 p.1 true)))))) λ_=>br (RT g 0) (λ_=>some (.dn ((0,((a.2.1,(a.2.1,(g,a.2.2.2))),()))))) λ_=>some (.nx ((a.2.1,(Rl .i64 a.2.1 1,(g,IR ((λx=>(λy=>RR x y))) a.2.2.2 p.1 true)))))) λ_=>some (.dn ((1,(a,())))))
    (s:=(0,(0,(0,aE c)))) 0 (by simp) (by omega) (by simp [hU]) (λj h=>by
     refine ⟨_,by simp only;rw [re];rfl,?_⟩;rw [<- h];exact ⟨rfl,rfl,by simp⟩) (λk r m j hd n hk h=>by
     simp only at h ⊢;have hr2:=F r (List.mem_of_getElem? n);have G:(rs.take (k+1)).map (·.1)=(rs.take k).map (·.1)++[r.1]:=by rw [List.take_add_one,n];simp
     rw [rl hk,R5,S9,Sb n,show gd (RS (i:Int) 0)=λ(q:Unit->Option (LR (Int×(Int×(Int×List (Int×Bool)))) (Nat×((Int×(Int×(Int×List (Int×Bool))))×Unit))))=>q () from by unfold RS;simp [gd];rfl,ZG (by omega) (by omega) (by omega)];simp only;rw [aR _ _ (by omega),SL,Sn,gQ,Ss];unfold YU at h;rw [mu] at h;by_cases o:kR [] (UX L.1 i) r=0
     ·rw [if_pos o] at h;rw [if_pos o,if_pos o,Uw];by_cases E:r.1∈c++(rs.take k).map (·.1)
      ·rw [if_pos E];rw [if_pos E,if_pos (by decide)] at h;refine .inr ⟨_,rfl,?_⟩;rw [<- h];exact ⟨rfl,rfl,rfl⟩
      ·rw [if_neg E];rw [if_neg E,if_neg (by decide)] at h;refine .inl ⟨(k:Int),?_,?_⟩
       ·rw [gS E,o,TN n (by omega),G,List.append_assoc]
       ·rw [G,<- List.append_assoc];exact h
     ·rw [if_neg o,if_pos o] at h;rw [if_neg o,if_neg o];refine .inr ⟨_,rfl,?_⟩;rw [<- h]
      exact ⟨rfl,rfl,rfl⟩)
   rw [S,SL,SM];cases D:U with
   | some u =>
    obtain ⟨k,e⟩:=u;rw [D] at b h;rw [if_pos b.1];refine .inr ⟨_,rfl,?_⟩;rw [<- h];exact ⟨b.2.1,rfl,b.2.2⟩
   | none =>
    rw [D] at b h;rw [if_neg (show ¬ r.1=0 by have:=b.1;omega)];refine .inl ⟨(r.2.1.1,((i:Int),c++rs.map (·.1))),?_,h⟩
    rw [b.2.1,b.2.2,TN n (by omega)])
 refine Tf S ?_;cases B:T with
 | some t =>
  obtain ⟨i,k,e⟩:=t;rw [B] at b I;rw [Ss,if_neg (by rw [b.2.2];exact au I.symm),b.1,b.2.1,b.2.2]
 | none =>
  rw [B] at b;have h:=C _ b B;have q3:r.2.1.2.2.1=0:=b;rw [Ss,if_pos q3] at h ⊢;exact h
end
section
open Go Go.Proofs.YtfilfloanndddaaGreat.Sv
structure VR (most:Int) (r:Te):Prop where
 id1:1<=r.1
 id2:r.1<=1000000
 vl:VL r.2
 ne:r.2≠[]
 le:(r.2.length:Int)<=most
theorem gK {a:List Int} {most:Int} {r:Te}:kR a most r=0<->VR most r/\r.1 ∉ a:=by
 unfold kR;constructor
 ·intro h;by_cases f:r.1<1\/r.1>1000000
  ·rw [if_pos f] at h;cases h
  rw [if_neg f] at h;by_cases b:(WL r.2).2≠0
  ·rw [if_pos b] at h;exact absurd h b
  rw [if_neg b] at h;by_cases c:r.2.length=0
  ·rw [if_pos c] at h;cases h
  rw [if_neg c] at h;by_cases g:(r.2.length:Int)>most
  ·rw [if_pos g] at h;cases h
  rw [if_neg g] at h;by_cases d:r.1∈a
  ·rw [if_pos d] at h;cases h
  exact ⟨⟨by omega,by omega,ZE.1 (by simpa using b),by intro e;rw [e] at c;exact c rfl,by omega⟩,d⟩
 ·rintro ⟨h,d⟩;rw [if_neg (by have:=h.id1;have:=h.id2;omega),if_neg (by simp [ZE.2 h.vl]),if_neg (by have:=List.length_pos_iff.2 h.ne;omega),if_neg (by have:=h.le;omega),if_neg d]
def mj (r:Te):Int:=r.1
theorem ZM {most:Int} : ∀ {rs:List Te} {k:Nat} {a:List Int},YU most k a rs=none<->(∀ r∈rs,VR most r/\r.1 ∉ a)/\(rs.map mj).Nodup
 | [],k,a=>by simp [YU]
 | r::rs,k,a=>by
  unfold YU;by_cases h:kR a most r=0
  ·rw [if_neg (by simp [h]),ZM (rs:=rs)];have f:=gK.1 h;simp only [List.mem_cons,forall_eq_or_imp,List.map_cons,List.nodup_cons,List.mem_append,List.not_mem_nil,or_false,List.mem_map,not_exists,not_and,not_or];constructor
   ·rintro ⟨b,d⟩;exact ⟨⟨f,λx c=>⟨(b x c).1,(b x c).2.1⟩⟩,λx c e=>(b x c).2.2 e,d⟩
   ·rintro ⟨⟨_,b⟩,d,g⟩;exact ⟨λx c=>⟨(b x c).1,(b x c).2,d x c⟩,g⟩
  ·rw [if_pos h];simp only [reduceCtorEq,false_iff,not_and];intro b;exact absurd (gK.2 (b r (by simp))) h
theorem YQ {B:Int} : ∀ {ls:List (List Te)} {i:Nat} {c:List Int},YT B i c ls=none<->(∀ k rs,ls[k]? = some rs->rs.length<=2 /\ ∀ r∈rs,VR (UX B (i+k)) r/\r.1 ∉ c)/\(ls.flatten.map mj).Nodup
 | [],i,c=>by simp [YT]
 | rs::ls,i,c=>by
  unfold YT;by_cases h:rs.length>2
  ·rw [if_pos h];simp only [reduceCtorEq,false_iff,not_and];intro j;have:=(j 0 rs rfl).1;omega
  ·rw [if_neg h];cases g:YU (UX B i) 0 c rs with
   | some x =>
    simp only [reduceCtorEq,false_iff,not_and];intro j l
    have m:YU (UX B i) 0 c rs=none:=ZM.2 ⟨(j 0 rs rfl).2,by
     simp only [List.flatten_cons,List.map_append] at l
     exact (List.nodup_append.1 l).1⟩
    rw [g] at m;cases m
   | none =>
    have q:=ZM.1 g;simp only;rw [YQ (ls:=ls)];simp only [List.flatten_cons,List.map_append,List.mem_append,not_or,List.mem_map];constructor
    ·rintro ⟨j,l⟩;refine ⟨λk d n => ?_,?_⟩
     ·cases k with
      | zero=>cases n;exact ⟨by omega,q.1⟩
      | succ k =>
       have m:=j k d n
       exact ⟨m.1,λr g=>by
        have:=m.2 r g;rw [show i+(k+1)=i+1+k by omega]
        exact ⟨this.1,this.2.1⟩⟩
     ·rw [List.nodup_append];refine ⟨q.2,l,?_⟩;intro a s b t e;subst e;obtain ⟨r,g,e1⟩:=List.mem_map.1 s;obtain ⟨p,f,e2⟩:=List.mem_map.1 t;obtain ⟨d,o,f⟩:=List.mem_flatten.1 f;obtain ⟨k,n⟩:=List.getElem?_of_mem o;exact ((j k d n).2 p f).2.2 ⟨r,g,by unfold mj at e1 e2;omega⟩
    ·rintro ⟨j,l⟩;rw [List.nodup_append] at l;refine ⟨λk d n => ?_,l.2.1⟩;have m:=j (k+1) d n;refine ⟨m.1,λr g => ?_⟩;have:=m.2 r g;rw [show i+(k+1)=i+1+k by omega] at this;refine ⟨this.1,this.2,?_⟩;rintro ⟨p,f,e⟩;exact l.2.2 (mj p) (List.mem_map_of_mem f) (mj r) (List.mem_map_of_mem (List.mem_flatten.2 ⟨d,List.mem_of_getElem? n,g⟩)) e
structure VLev (L:TB):Prop where
 B1:1<=L.1
 B2:L.1<=16
 len:L.2.length<=12
 lev : ∀ i rs,L.2[i]? = some rs->rs.length<=2 /\ ∀ r∈rs,VR (UX L.1 i) r
 ids:(L.2.flatten.map mj).Nodup
 last:L.2.getLast? ≠ some []
theorem XZ {L:TB}:(Vv L).2.2=0<->VLev L:=by
 unfold Vv;constructor
 ·intro h;by_cases c:L.1<1\/L.1>16
  ·rw [if_pos c] at h;cases h
  rw [if_neg c] at h;by_cases d:L.2.length>12
  ·rw [if_pos d] at h;cases h
  rw [if_neg d] at h;cases a:YT L.1 0 [] L.2 with
  | some x =>
   obtain ⟨i,k,e⟩:=x;rw [a] at h;exact absurd h (au a)
  | none =>
   rw [a] at h;simp only at h;by_cases f:L.2.getLast? = some []
   ·rw [if_pos f] at h;cases h
   ·have g:=YQ.1 a
    exact ⟨by omega,by omega,by omega,λi rs hi=>by
     have:=g.1 i rs hi;rw [Nat.zero_add] at this
     exact ⟨this.1,λr b=>(this.2 r b).1⟩,g.2,f⟩
 ·intro h
  have a:YT L.1 0 [] L.2=none:=YQ.2 ⟨λk rs j=>by
   have:=h.lev k rs j;rw [Nat.zero_add]
   exact ⟨this.1,λr b=>⟨this.2 r b,by simp⟩⟩,h.ids⟩
  rw [if_neg (by have:=h.B1;have:=h.B2;omega),if_neg (by have:=h.len;omega),a];simp only;rw [if_neg h.last]
theorem Ww {L:TB} (h:VLev L):Vv L=(0,(0,0)):=by
 have a:YT L.1 0 [] L.2=none:=YQ.2 ⟨λk rs b=>by
  have:=h.lev k rs b;rw [Nat.zero_add]
  exact ⟨this.1,λr c=>⟨this.2 r c,by simp⟩⟩,h.ids⟩
 unfold Vv;rw [if_neg (by have:=h.B1;have:=h.B2;omega),if_neg (by have:=h.len;omega),a];simp only;rw [if_neg h.last]
def WG (l:List (List Te)):Int:=l.foldl (λm rs=>rs.foldl (λm r=>S0 m r.1) m) 0
def TH:Nat->List (List Te)->List Int
 | _,[]=>[]
 | i,rs::ls=>(if rs.length=2 then [(i:Int)] else [])++TH (i+1) ls
theorem bg (L:TB) (f:L.2.length<=1048576) (d : ∀ rs∈L.2,rs.length<=1048576):Vj L=some (WG L.2):=by
 unfold Vj;simp only [TI,TF]
 rw [U8 (l:=L.2) (σ:=Int) (s:=((0:Int),(0:Int))) (λi m=>(m,(i:Int))) (λ_ _ _=>True) (λls _ m=>(0,((ls.foldl (λm rs=>rs.foldl (λm r=>S0 m r.1) m) m,(L.2.length:Int)),()))) 0 rfl (by omega) trivial (λm _=>by
  simp only;rw [re];rfl) (λi rs ls m b a hi _=>by
   refine ⟨rs.foldl (λm r=>S0 m r.1) m,?_,trivial,rfl⟩;have e:=d rs (List.mem_of_getElem? a);simp only
   rw [rl hi,R5,S9,Sb a,U8 (l:=rs) (σ:=Int) (s:=((0:Int),m)) (λi m=>((i:Int),m)) (λ_ _ _=>True) (λl _ m=>(0,(((rs.length:Int),l.foldl (λm r=>S0 m r.1) m),()))) m rfl (by omega) trivial (λm _=>by
    simp only;rw [re];rfl) (λk r l m b a c _=>by
     refine ⟨S0 m r.1,?_,trivial,rfl⟩;simp only
     rw [rl c,R5,S9,Sb a,TN a (by omega)]),SL,TN a (by omega)]),SL]
 rfl
def YS (L:TB) (a:List Int) (i:Nat) (j:Job):Bool:=match a[i]? with
 | none=>true
 | some d=>if j.1≠d then true else if j.2.2.1.2.2=true/\j.1≠(L.2.length:Int)-1 then true else match L.2[d.toNat]? with
  | some [r0,r1]=>if j.2.2.2.2<0\/j.2.2.2.2>((r1.2.length+r0.2.length:Nat):Int) then true else decide (U9 r1.2 r0.2 j.2.2.1.2.2 j.2.2.2.2.toNat≠j.2)
  | _=>true
def WY (L:TB) (a:List Int):Nat->List Job->Option Nat
 | _,[]=>none
 | i,j::js=>if YS L a i j=true then some i else WY L a (i+1) js
def TD (s:TA):Int×Int :=
 if (Vv s.1).2.2≠0 then (-1,(Vv s.1).2.2) else if s.2.2<1\/s.2.2>1000001 then (-1,7) else if s.2.2<=WG s.1.2 then (-1,6) else match WY s.1 (TH 0 s.1.2) 0 s.2.1 with
  | some i=>((i:Int),6)
  | none=>if s.2.1.length<(TH 0 s.1.2).length then (-1,4) else (0,0)
theorem XL : ∀ {ls:List (List Te)} {i k:Nat} {d:Int},(TH i ls)[k]? = some d -> ∃ n:Nat,d=((i+n:Nat):Int) /\ ∃ e f,ls[n]? = some [e,f]
 | [],i,k,d,h=>by cases h
 | rs::ls,i,k,d,h=>by
  unfold TH at h;by_cases a:rs.length=2
  ·rw [if_pos a] at h;cases k with
   | zero =>
    simp at h;refine ⟨0,by simp [<- h],?_⟩
    match rs,a with
    | [e,f],_=>exact ⟨e,f,rfl⟩
   | succ k =>
    simp at h;obtain ⟨n,b,c⟩:=XL h;exact ⟨n+1,by rw [b];congr 1;omega,c⟩
  ·rw [if_neg a] at h;simp at h;obtain ⟨n,b,c⟩:=XL h;exact ⟨n+1,by rw [b];congr 1;omega,c⟩
theorem VX : ∀ (ls:List (List Te)) (i:Nat),(TH i ls).length<=ls.length
 | [],i=>Nat.le_refl _
 | rs::ls,i=>by
  have:=VX ls (i+1);unfold TH;split<;>simp<;>omega
theorem bN {L:TB} {n:Nat} {a b:Te} (c:Bool) (h:L.2[n]? = some [a,b]) (d:VL a.2) (e:VL b.2):Ue (L,((n:Int),c))=some ((n:Int),U9 b.2 a.2 c 0):=by
 unfold Ue;simp only;rw [S9,Sb h,Sb (x:=b) rfl,Sb (x:=a) rfl,eL e d];rfl
theorem aG {a b:List S8} (va:VL a) (d:VL b) (c:Bool) {n:Nat} (h:n<=a.length+b.length):(U9 a b c n).1.1.length<=1000/\(∀ l∈(U9 a b c n).1.1,l.length<=1000000)/\(U9 a b c n).1.2.1.length<=1000/\(U9 a b c n).1.2.2.1.length<=1000/\(U9 a b c n).1.2.2.2.1.length<=1000/\(U9 a b c n).2.2.1.length<=1000000:=by
 have j:=va.len;have k:=d.len;refine ⟨show 2<=1000 by omega,λl f => ?_,show 2<=1000 by omega,show 2<=1000 by omega,show 2<=1000 by omega,?_⟩
 ·have:l=a\/l=b:=by simpa [U9,YZ,Ym] using f
  rcases this with e | e<;>subst e<;>omega
 ·have g:=Xh (s0 c) (TX a b n);have i:=Ut va d h;show (Vx (s0 c) (TX a b n)).length<=_;omega
theorem mr {L:TB} {n:Nat} {a b:Te} {j:Job} (h:L.2[n]? = some [a,b]) (e:VL a.2) (f:VL b.2) {β:Type} (A B:Option β) :
  (bd (Ue (L,((n:Int),j.2.2.1.2.2))) λc=>bd (Tx c.2) λl=>br (SW j.2.2.2.2 0) (λ_=>A) λ_=>br (SU j.2.2.2.2 l.1) (λ_=>A) λ_=>bd (UO (c.2,j.2.2.2.2)) λm=>bd (VD (m.1,j.2)) λo=>br (Hf o) (λ_=>A) λ_=>B)
  = if j.2.2.2.2<0\/j.2.2.2.2>((b.2.length+a.2.length:Nat):Int) then A else if U9 b.2 a.2 j.2.2.1.2.2 j.2.2.2.2.toNat=j.2 then B else A:=by
 rw [bN _ h e f,SL,ZO f e _ (Nat.zero_le _),SL,Sr,Sp,Nat.sub_zero];by_cases g:j.2.2.2.2<0
 ·rw [if_pos g,if_pos (.inl g)]
 rw [if_neg g];by_cases i:j.2.2.2.2>((b.2.length+a.2.length:Nat):Int)
 ·rw [if_pos i,if_pos (.inr i)]
 rw [if_neg i,if_neg (show ¬ (j.2.2.2.2<0\/j.2.2.2.2>((b.2.length+a.2.length:Nat):Int)) by omega)];obtain ⟨k,p⟩ : ∃ k:Nat,j.2.2.2.2=(k:Int):=⟨j.2.2.2.2.toNat,by omega⟩;rw [p,aa f e _ (Nat.zero_le _),SL,Nat.sub_zero,Nat.zero_add,Nat.min_eq_left (by omega),Int.toNat_natCast];obtain ⟨s1,s2,q,r,s,t⟩:=aG f e j.2.2.1.2.2 (n:=k) (by omega);rw [bh _ _ s1 s2 q r s t,SL,Ur,Uw];by_cases d:U9 b.2 a.2 j.2.2.1.2.2 k=j.2
 ·rw [if_neg (by simp [d]),if_pos d]
 ·rw [if_pos d,if_neg d]
theorem cb (s:TA) (N:s.1.2.length<=1048576) (hr : ∀ rs∈s.1.2,rs.length<=1048576 /\ ∀ r∈rs,r.2.length<=9223372036854775807) (hj:s.2.1.length<=1048576):UV s=some (TD s):=by
 unfold UV TD;simp only [TI,TF];rw [Yf _ N hr,SL,Ss];by_cases z:(Vv s.1).2.2=0;rotate_left
 ·rw [if_neg z,if_pos z]
 rw [if_pos z,if_neg (by simp [z]),Sr,Sp,bg _ N (λrs h=>(hr rs h).1),SL];have v:=XZ.1 z;by_cases C:s.2.2<1
 ·rw [if_pos C,if_pos (.inl C)]
 rw [if_neg C];by_cases p:s.2.2>1000001
 ·rw [if_pos p,if_pos (.inr p)]
 rw [if_neg p,if_neg (show ¬ (s.2.2<1\/s.2.2>1000001) by omega),Sq];by_cases o:s.2.2<=WG s.1.2
 ·rw [if_pos o,if_pos o]
 rw [if_neg o,if_neg o]
 rw [U8 (l:=s.1.2) (σ:=List Int) (s:=((0:Int),([]:List Int))) (λi m=>((i:Int),m)) (λls i m=>m++TH i ls=TH 0 s.1.2) (λ_ _ _=>(0,(((s.1.2.length:Int),TH 0 s.1.2),()))) [] rfl (by omega) rfl (λm h=>by
  simp only;rw [re,Rd,<- h];simp [TH]) (λi rs ls m hd E hi h=>by
   refine ⟨m++(if rs.length=2 then [(i:Int)] else []),?_,?_,rfl⟩
   ·simp only;rw [rl hi,R5,S9,Sb E,Sn]
    have hm:m.length<=1048575:=by
     have D:=congrArg List.length h;have q:=VX s.1.2 0;have u:=v.len;rw [List.length_append] at D;omega
    by_cases D:rs.length=2
    ·rw [if_pos (by omega),if_pos D,UC (by simp only [BD,AS,List.length_cons,List.length_nil];omega),TN E (by omega)];rfl
    ·rw [if_neg (by omega),if_neg D,List.append_nil,TN E (by omega)]
   ·rw [List.append_assoc];exact h),SL]
 simp only;obtain ⟨a,g⟩ : ∃ a,a=TH 0 s.1.2:=⟨_,rfl⟩;have hdl:a.length<=12:=by have:=VX s.1.2 0;have:=v.len;rw [g];omega
 rw [<- g];obtain ⟨T,hT⟩ : ∃ T,T=WY s.1 a 0 s.2.1:=⟨_,rfl⟩;rw [<- hT]
 obtain ⟨r,q1,I⟩:=WZ (l:=s.2.1) (σ:=Unit) (λi _=>((0:Int),((0:Int),(i:Int)))) (λjs i _=>WY s.1 a i js=T) (λ(r:Nat×((Int×(Int×Int))×Unit))=>(T=none/\r.1=1)\/(∃ i:Nat,T=some i/\r.1=0/\r.2.1.1=6/\r.2.1.2.1=(i:Int)))
  (f:=λb=>br (SW b.2.2 (s.2.1.length:Int)) (λ_=>RX b.2.2 λk7=>ix s.2.1 k7 λe=>br (RS b.2.2 (a.length:Int)) (λ_=>some (.dn ((0,((6,(b.2.2,b.2.2)),()))))) λ_=>RX b.2.2 λk9=>gd (KC k9 a.length) λ_=>ix a k9 λx10=>br (RT e.1 x10) (λ_=>some (.dn ((0,((6,(b.2.2,b.2.2)),()))))) λ_=>br e.2.2.1.2.2 (λ_=>bd (Uz (s.1,e.1)) λP=>br (Hf P) (λ_=>some (.dn ((0,((6,(b.2.2,b.2.2)),()))))) λ_=>bd (Ue ((s.1,(e.1,e.2.2.1.2.2)))) λL=>bd (Tx L.2) λS=>br (SW e.2.2.2.2 0) (λ_=>some (.dn ((0,((6,(b.2.2,b.2.2)),()))))) λ_=>br (SU e.2.2.2.2 S.1) (λ_=>some (.dn ((0,((6,(b.2.2,b.2.2)),()))))) λ_=>bd (UO (L.2,e.2.2.2.2)) λU=>bd (VD (U.1,e.2)) λW=>br (Hf W) (λ_=>some (.dn ((0,((6,(b.2.2,b.2.2)),()))))) λ_=>some (.nx ((b.1,(b.2.1,Rl .i64 b.2.2 1))))) λ_=>bd (Ue ((s.1,(e.1,e.2.2.1.2.2)))) λM=>bd (Tx M.2) λX=>br (SW e.2.2.2.2 0) (λ_=>some (.dn ((0,((6,(b.2.2,b.2.2)),()))))) λ_=>br (SU e.2.2.2.2 X.1) (λ_=>some (.dn ((0,((6,(b.2.2,b.2.2)),()))))) λ_=>bd (UO (M.2,e.2.2.2.2)) λY=>bd (VD (Y.1,e.2)) λZ=>br (Hf Z) (λ_=>some (.dn ((0,((6,(b.2.2,b.2.2)),()))))) λ_=>some (.nx ((b.1,(b.2.1,Rl .i64 b.2.2 1))))) λ_=>some (.dn ((1,(b,())))))
  (s:=(0,(0,0))) () rfl (by omega) hT.symm (λ_ h=>by
   refine ⟨_,by simp only;rw [re];rfl,.inl ⟨by rw [<- h];rfl,rfl⟩⟩) (λi j js _ hd E hi h=>by
   simp only;rw [rl hi,R5,S9,Sb E,So];unfold WY at h
   have c:YS s.1 a i j=true -> ∃ r:Nat×((Int×(Int×Int))×Unit),(some (LR.dn ((0,((6,((i:Int),(i:Int))),()))):LR (Int×(Int×Int)) _))=some (.dn r)/\((T=none/\r.1=1)\/(∃ i:Nat,T=some i/\r.1=0/\r.2.1.1=6/\r.2.1.2.1=(i:Int))):=λN=>by
    rw [if_pos N] at h;exact ⟨_,rfl,.inr ⟨i,h.symm,rfl,rfl,rfl⟩⟩
   have x:YS s.1 a i j=false -> ∃ st':Unit,(some (LR.nx ((0:Int),((0:Int),Rl .i64 (i:Int) 1))):Option (LR _ (Nat×((Int×(Int×Int))×Unit))))=some (.nx ((0:Int),((0:Int),((i+1:Nat):Int))))/\WY s.1 a (i+1) js=T:=λhg=>by
    rw [if_neg (by simp [hg])] at h;exact ⟨(),by rw [TN E (by omega)],h⟩
   by_cases C:(i:Int)>=(a.length:Int)
   ·rw [if_pos C];exact .inr (c (by unfold YS;rw [List.getElem?_eq_none (by omega)]))
   rw [if_neg C,S9,SR,if_pos (by omega)];have w:a[i]? = some (a[i]'(by omega)):=by simp
   rw [Sb w,Ss];obtain ⟨n,O,J,K,y⟩:=XL (ls:=s.1.2) (i:=0) (k:=i) (d:=a[i]'(by omega)) (by rw [<- g];exact w);rw [Nat.zero_add] at O
   have t:YS s.1 a i j=(if j.1≠(a[i]'(by omega)) then true else if j.2.2.1.2.2=true/\j.1≠(s.1.2.length:Int)-1 then true else if j.2.2.2.2<0\/j.2.2.2.2>((K.2.length+J.2.length:Nat):Int) then true else decide (U9 K.2 J.2 j.2.2.1.2.2 j.2.2.2.2.toNat≠j.2)):=by
    unfold YS;rw [w];simp only;rw [O,Int.toNat_natCast,y]
   by_cases p:j.1=(a[i]'(by omega));rotate_left
   ·rw [if_neg p];exact .inr (c (by rw [t,if_pos p]))
   rw [if_pos p];rw [if_neg (by simp [p])] at t;have F:j.1=(n:Int):=by rw [p,O]
   have hv:=(v.lev n _ y).2;have v0:=(hv J (by simp)).vl;have v1:=(hv K (by simp)).vl;have G:Rp .i64 (s.1.2.length:Int) 1=(s.1.2.length:Int)-1:=SB (by omega);unfold Uz;simp only [TI,TF];rw [SL,G,VU,Ur,Uw,F,mr y v0 v1,Sx];rw [F] at t;by_cases o:j.2.2.1.2.2=true/\(n:Int)≠(s.1.2.length:Int)-1
   ·rw [if_pos o.1,if_pos o.2];exact .inr (c (by rw [t,if_pos o]))
   rw [if_neg o] at t
   have D : ∀ {γ:Type} (A B:γ),(if j.2.2.1.2.2=true then if ¬(n:Int)=(s.1.2.length:Int)-1 then A else B else B)=B:=by
    intro γ A B;by_cases q:j.2.2.1.2.2=true
    ·rw [if_pos q,if_neg (λu=>o ⟨q,u⟩)]
    ·rw [if_neg q]
   rw [D];by_cases q:j.2.2.2.2<0\/j.2.2.2.2>((K.2.length+J.2.length:Nat):Int)
   ·rw [if_pos q];exact .inr (c (by rw [t,if_pos q]))
   rw [if_neg q];rw [if_neg q] at t;by_cases u:U9 K.2 J.2 j.2.2.1.2.2 j.2.2.2.2.toNat=j.2
   ·rw [if_pos u];exact .inl (x (by rw [t];simp [u]))
   ·rw [if_neg u]
    exact .inr (c (by rw [t];simp [u])))
 rw [z];refine Tf q1 ?_;rw [SM];rcases I with ⟨I,q3⟩ | ⟨i,I,q3,q4,q5⟩
 ·rw [if_neg (show ¬ r.1=0 by omega),I,Sr];simp only;by_cases h7:s.2.1.length<a.length
  ·rw [if_pos (by omega),if_pos h7]
  ·rw [if_neg (by omega),if_neg h7]
 ·rw [if_pos q3,I,q4,q5]
end
section
open Go Go.Proofs.YtfilfloanndddaaGreat.Sv
theorem Y7 (x:S8):VO x=some (kE x):=by
 unfold VO kE;rw [Sp,TI,X8];by_cases e:x.1.length>32
 ·rw [if_pos (by omega),if_pos (.inl e)]
 rw [if_neg (by omega),Sp,TI,X8];by_cases f:x.2.1.length>64
 ·rw [if_pos (by omega),if_pos (.inr f)]
 rw [if_neg (by omega : ¬ (x.2.1.length:Int)>64),if_neg (by omega),Sx];by_cases b:x.2.2.1=true
 ·rw [if_pos b,Tq,Vy];by_cases c:x.2.1=[]
  ·rw [if_pos c,if_neg (by simp [c]),Sr,Sp];by_cases a:x.2.2.2<1
   ·simp [a]
   ·by_cases d:x.2.2.2>1000000000<;>simp [a,d]
  ·rw [if_neg c,if_pos ⟨b,c⟩]
 ·rw [if_neg b,if_neg (by simp [b]),Sr,Sp];by_cases a:x.2.2.2<1
  ·simp [a]
  ·by_cases d:x.2.2.2>1000000000<;>simp [a,d]
def VG:List UInt8->List UInt8->Nat
 | x::a,y::b=>if x=y then VG a b+1 else 0
 | _,_=>0
theorem lw (x y:UInt8):RR (S4 x) (S4 y)=decide (x=y):=by
 rw [VU];unfold S4;by_cases h:x=y
 ·simp [h]
 ·have : ¬ ((x.toNat:Int)=(y.toNat:Int)):=λe=>h (UInt8.toNat_inj.1 (by omega));simp [h,this]
theorem eO (a b:List UInt8) (z:a.length<=9223372036854775806):V3 (a,b)=some (VG a b:Int):=by
 unfold V3;simp only [TI,X8]
 have key : ∀ (m:List UInt8) (k n:Nat),a.drop k=m->k<=a.length->k<=b.length->m.length<n->IJ n (λs0=>br (SW s0 (a.length:Int)) (λ_=>br (SW s0 (b.length:Int)) (λ_=>RX s0 λt=>ix a t λw=>RX s0 λu=>ix b u λy=>br (RR (S4 w) (S4 y)) (λ_=>some (LR.nx (Rl .i64 s0 1))) λ_=>some (.dn ((0,(s0,()))))) λ_=>some (.dn ((0,(s0,()))))) λ_=>some (.dn ((0,(s0,()))))) (k:Int)=some ((0:Nat),(((k+VG m (b.drop k):Nat):Int),())):=by
  intro m
  induction m with
  | nil =>
   intro k n f r h p;obtain ⟨n,rfl⟩ : ∃ j,n=j+1:=⟨n-1,by omega⟩
   have i:k=a.length:=by
    have:=congrArg List.length f;simp at this;omega
   subst i;refine Tp ?_;rw [re];simp [Rd,VG]
  | cons x m s =>
   intro k n f r h p;obtain ⟨n,rfl⟩ : ∃ j,n=j+1:=⟨n-1,by omega⟩
   have o:a[k]? = some x:=by
    have:=congrArg List.head? f;rw [List.head?_drop] at this;simpa using this
   have c:k<a.length:=(List.getElem?_eq_some_iff.1 o).1
   have l:a.drop (k+1)=m:=by
    have:=congrArg List.tail f;rw [List.tail_drop] at this;simpa using this
   by_cases d:k<b.length
   ·have q:b[k]? = some b[k]:=by simp [d]
    rw [List.drop_eq_getElem_cons d];unfold VG;by_cases e:x=b[k]
    ·rw [if_pos e];refine (Th (s':=((k+1:Nat):Int)) ?_).trans ?_
     ·rw [rl c,R5,rl d,R5,S9,Sb o,S9,Sb q,lw,Uw,if_pos e,TK (by omega)]
     ·rw [s (k+1) n l (by omega) (by omega) (by simp at p;omega),show k+1+VG m (b.drop (k+1))=k+(VG m (b.drop (k+1))+1) by omega]
    ·rw [if_neg e];refine Tp ?_;rw [rl c,R5,rl d,R5,S9,Sb o,S9,Sb q,lw,Uw,if_neg e];simp
   ·have g:k=b.length:=by omega
    refine Tp ?_;rw [rl c,R5,g,re,Rd,List.drop_length];simp [VG]
 refine Tf (Uh (n:=a.length+1) (by omega) (key a 0 (a.length+1) (by simp) (by omega) (by omega) (by omega))) ?_;simp
def Yh (a b:XC):Int:=if Rz a b=true then -1 else if a=b then 0 else 1
theorem bT : ∀ (a b:XC),(VG a b<=a.length/\VG a b<=b.length)/\(VG a b=a.length->VG a b=b.length->Yh a b=0)/\(VG a b=a.length->VG a b≠b.length->Yh a b = -1)/\(VG a b≠a.length->VG a b=b.length->Yh a b=1)/\(∀ x y,a[VG a b]? = some x->b[VG a b]? = some y->Yh a b=if x.toNat<y.toNat then -1 else 1)
 | [],[]=>by simp [VG,Yh,Y8]
 | [],y::b=>by simp [VG,Yh,bF]
 | x::a,[]=>by simp [VG,Yh,Y8]
 | x::a,y::b=>by
  obtain ⟨⟨o,g⟩,i,j,k,l⟩:=bT a b;by_cases e:x=y
  ·subst e
   have n:Yh (x::a) (x::b)=Yh a b:=by
    unfold Yh;rw [Xs];simp
   have hc:VG (x::a) (x::b)=VG a b+1:=by simp [VG]
   rw [n,hc];refine ⟨⟨by simp;omega,by simp;omega⟩,λu v=>i (by simp at u;omega) (by simp at v;omega),λu v=>j (by simp at u;omega) (by simp at v;omega),λu v=>k (by simp at u;omega) (by simp at v;omega),λp q d f=>l p q (by simpa using d) (by simpa using f)⟩
  ·have hc:VG (x::a) (y::b)=0:=by simp [VG,e]
   rw [hc];refine ⟨⟨by omega,by omega⟩,λu=>by simp at u,λu=>by simp at u,λ_ u=>by simp at u,λp q d f => ?_⟩;simp at d f;subst d f;unfold Yh;rw [Xs];have m : ¬ (x::a=y::b):=λh=>e (by injection h);by_cases c:x.toNat<y.toNat
   ·have:x<y:=UInt8.lt_iff_toNat_lt.2 c;simp [this,c]
   ·have : ¬ x<y:=λh=>c (UInt8.lt_iff_toNat_lt.1 h);simp [this,c,e]
theorem f7 (a b:XC) (p:a.length<=1000000000) (q:b.length<=1000000000):Vp (a,b)=some (Yh a b):=by
 obtain ⟨⟨o,i⟩,j,k,l,m⟩:=bT a b;unfold Vp;simp only [TI,X8];rw [eO a b (by omega),SL,Sn]
 have n:(if (VG a b:Int)<(b.length:Int) then (RX (VG a b:Int) λc=>ix a c λe=>RX (VG a b:Int) λd=>ix b d λf=>br (SW (S4 e) (S4 f)) (λ_=>some (-1:Int)) λ_=>some 1) else some 1)=(if VG a b=a.length then (if (VG a b:Int)<(b.length:Int) then (RX (VG a b:Int) λc=>ix a c λe=>RX (VG a b:Int) λd=>ix b d λf=>br (SW (S4 e) (S4 f)) (λ_=>some (-1:Int)) λ_=>some 1) else some 1) else some (Yh a b)):=by
  by_cases u:VG a b=a.length
  ·rw [if_pos u]
  ·rw [if_neg u];by_cases v:VG a b=b.length
   ·rw [if_neg (by omega),l u v]
   ·rw [if_pos (by omega),S9];have g:a[VG a b]? = some (a[VG a b]'(by omega)):=by simp
    have h:b[VG a b]? = some (b[VG a b]'(by omega)):=by simp
    rw [Sb g,S9,Sb h,Sr,m _ _ g h];unfold S4;by_cases w:(a[VG a b]'(by omega)).toNat<(b[VG a b]'(by omega)).toNat
    ·rw [if_pos (by omega),if_pos w]
    ·rw [if_neg (by omega),if_neg w]
 by_cases u:VG a b=a.length
 ·rw [if_pos (by omega),Sn];by_cases v:VG a b=b.length
  ·rw [if_pos (by omega),j u v]
  ·rw [if_neg (by omega),Sn,if_pos (by omega),k u v]
 ·rw [if_neg (by omega),Sn,if_neg (by omega),Sr,n,if_neg u]
theorem d8 (a b:XC):Yh a b>=0<->Rz a b=false:=by
 unfold Yh;cases h:Rz a b with
 | true=>simp
 | false=>simp;split<;>omega
theorem W2 (l:List S8) (E:l.length<=9223372036854775807):Us l=some (WL l):=by
 unfold Us WL;simp only [TI,TF];rw [Sp];by_cases h:l.length>5000
 ·rw [if_pos (by omega),if_pos h]
 rw [if_neg (by omega),if_neg h];obtain ⟨T,o⟩ : ∃ T,T=YA none 0 l:=⟨_,rfl⟩;rw [<- o]
 obtain ⟨r,w,j⟩:=WZ (l:=l) (σ:=Unit) (s:=((0:Int),((0:Int),(0:Int)))) (λk _=>((0:Int),((0:Int),(k:Int)))) (λm k _=>YA (if k=0 then none else (l[k-1]?).map (·.1)) k m=T/\(∀ y,k≠0->l[k-1]? = some y->kE y=0)) (λ(r:Nat×((Int×(Int×Int))×Unit))=>(r.1=1/\T=(0,0))\/(r.1=0/\T=(r.2.1.2.1,r.2.1.1)))
  (f:=λs0=>br (SW s0.2.2 (l.length:Int)) (λ_=>RX s0.2.2 λq=>ix l q λA=>bd (VO A) λd=>br (RR d 0) (λ_=>br (SU s0.2.2 0) (λ_=>RX (Rp .i64 s0.2.2 1) λt=>ix l t λB=>RX s0.2.2 λu=>ix l u λC=>bd (Vp (B.1,C.1)) λz=>br (RS z 0) (λ_=>some (.dn ((0,((6,(s0.2.2,s0.2.2)),()))))) λ_=>br (RT d 0) (λ_=>some (.dn ((0,((d,(s0.2.2,s0.2.2)),()))))) λ_=>some (.nx ((s0.1,(s0.2.1,Rl .i64 s0.2.2 1))))) λ_=>br (RT d 0) (λ_=>some (.dn ((0,((d,(s0.2.2,s0.2.2)),()))))) λ_=>some (.nx ((s0.1,(s0.2.1,Rl .i64 s0.2.2 1))))) λ_=>br (RT d 0) (λ_=>some (.dn ((0,((d,(s0.2.2,s0.2.2)),()))))) λ_=>some (.nx ((s0.1,(s0.2.1,Rl .i64 s0.2.2 1))))) λ_=>some (.dn ((1,(s0,())))))
  () rfl (by omega) ⟨o.symm,λ_ h=>absurd rfl h⟩ (λ_ h=>by
   refine ⟨_,by simp only;rw [re];rfl,.inl ⟨rfl,?_⟩⟩;rw [<- h.1];simp [YA]) (λk x m _ D g p h=>by
   simp only;obtain ⟨h,c⟩:=h;rw [rl p,R5,S9,Sb g,Y7,SL,Sn];unfold YA at h
   have next:kE x=0->(T=YA (some x.1) (k+1) m)->YA (if k+1=0 then none else (l[k+1-1]?).map (·.1)) (k+1) m=T/\(∀ y,k+1≠0->l[k+1-1]? = some y->kE y=0):=λa e=>by
    rw [if_neg (by omega),Nat.add_sub_cancel,g,e];exact ⟨rfl,λy _ i=>by cases i;exact a⟩
   by_cases a:kE x=0
   ·rw [if_pos a,Sp];rw [if_neg (by simp [a])] at h;by_cases b:k=0
    ·rw [if_neg (by omega),Ss,if_pos a];rw [if_pos b] at h;exact .inl ⟨(),by rw [TN g (by omega)],next a h.symm⟩
    ·have i:l[k-1]? = some (l[k-1]'(by omega)):=by rw [List.getElem?_eq_getElem]
     rw [if_pos (by omega),show Rp .i64 (k:Int) 1=((k-1:Nat):Int) by rw [SB (by omega)];omega,S9,Sb i,S9,Sb g];rw [if_neg b,i] at h;simp only [Option.map_some] at h;rw [f7 _ _ (by have:=Zq (c _ b i);omega) (by have:=Zq a;omega),SL,So];by_cases hs:Rz (l[k-1]'(by omega)).1 x.1=true
     ·rw [if_neg (λe=>by rw [d8,hs] at e;cases e),Ss,if_pos a];rw [if_pos hs] at h;exact .inl ⟨(),by rw [TN g (by omega)],next a h.symm⟩
     ·rw [if_pos ((d8 _ _).2 (by simpa using hs))];rw [if_neg hs] at h;exact .inr ⟨_,rfl,.inr ⟨rfl,h.symm⟩⟩
   ·rw [if_neg a,Ss,if_neg a];rw [if_pos a] at h
    exact .inr ⟨_,rfl,.inr ⟨rfl,h.symm⟩⟩)
 refine Tf w ?_;rw [SM];rcases j with ⟨j,n⟩ | ⟨j,n⟩
 ·rw [if_neg (show ¬ r.1=0 by omega),n]
 ·rw [if_pos j,n]
theorem lx (p q:TE) (d:Vu p) (e:Vu q):WF ([p,q],(0,1))=some (w0 p q):=by
 unfold WF w0;refine (V9 0 rfl (x:=p) rfl).trans ((V9 1 rfl (x:=q) rfl).trans ?_);rw [beq_eq,Ur,Uw,Tq,Sx];by_cases a:p.2=q.2
 ·rw [if_neg (show ¬ ¬ p.2=q.2 by simp [a]),if_neg (show ¬ p.2≠q.2 by simp [a])];by_cases b:p.2=true
  ·rw [if_pos b,d b,e (a ▸ b)];rfl
  ·rw [if_neg b,Tq,Vy];by_cases c:p.1=q.1
   ·rw [if_pos c,if_neg (by simp [c])];rfl
   ·rw [if_neg c,if_pos c]
 ·rw [if_pos a,if_pos a]
theorem ZT (p q:TE) (n:Nat) (k:Int) (h:2<=k) (a:k<=100):Mx TY (n+1) ([p,q],k)=some (k-2,0):=by
 show TY (Mx TY n) ([p,q],k)=_;unfold TY;show br (RS k 2) (λ_=>some (Rp .i64 k 2,0)) _=_;rw [So,if_pos h,SB (by omega)]
theorem Zz (p q:TE) (a:Vu p) (b:Vu q):Wm ([p,q],1)=some (if w0 p q=true then (0,1) else (1,0)):=by
 show TY (Mx TY 99) ([p,q],1)=_;unfold TY;show br (RS (1:Int) 2) (λ_=>some (Rp .i64 (1:Int) 2,0)) (λ_=>bd (Mx TY (98+1) ([p,q],2)) λc=>bd (Mx TY (98+1) ([p,q],3)) _)=_;rw [So,if_neg (by omega),ZT p q 98 2 (by omega) (by omega),SL,ZT p q 98 3 (by omega) (by omega),SL];show bd (WF ([p,q],(0,1))) _=_;rw [lx p q a b,SL,Sx];cases h:w0 p q<;>rfl
theorem lr (p q:TE) (a:Vu p) (c:Vu q):Wn [p,q]=some (Tt p q):=by
 unfold Wn;refine Eq.trans (b:=bd (loop _ (1,([p,q],([0,0],0)))) _) rfl ?_;refine Tf (x:=(0,((2,([p,q],([0,if w0 p q=true then 1 else 0],0))),()))) (Uh (n:=2) (by omega) ((Th (s':=(2,([p,q],([0,if w0 p q=true then 1 else 0],0)))) ?_).trans (Tp rfl))) ?_
 ·show bd (Wm ([p,q],1)) _=_;rw [Zz p q a c,SL];refine (YH 1 rfl (x:=(0:Int)) rfl).trans ?_;cases h:w0 p q<;>rfl
 ·rw [Zz p q a c,SL];unfold Tt;cases h:w0 p q<;>rfl
theorem e9 {l:List TE} (h : ∀ k∈l,Vu k) (c:l≠[]) (f:l.length<=32):WR l=some 0:=by
 unfold WR;simp only [TI,TF];rw [Sn,Sp,if_neg (by have:=List.length_pos_iff.2 c;omega),if_neg (by omega)]
 rw [U8 (l:=l) (σ:=Unit) (s:=((0:Int),(0:Int))) (λk _=>((k:Int),(0:Int))) (λ_ _ _=>True) (λ_ _ _=>(1,(((l.length:Int),0),()))) () rfl (by omega) trivial (λe _=>by
  simp only;rw [re];rfl) (λk x m e _ a d _=>⟨(),by
   simp only;rw [rl d,R5,S9,Sb a,Sx,TN a (by omega)];by_cases b:x.2=true
   ·rw [if_pos b,S9,Sb a,Tq,Vy,if_pos (h x (List.mem_of_getElem? a) b)]
   ·rw [if_neg b],trivial,rfl⟩),SL]
 rfl
theorem eM (p q:TE) (a:Vu p) (b:Vu q):Vq [p,q]=some (Tt p q,0):=by
 unfold Vq;rw [e9 (by simp [a,b]) (by simp) (by simp),SL,Ss,if_pos rfl,lr p q a b,SL]
end
section
open Go Go.Proofs.YtfilfloanndddaaGreat.Sv
theorem XB:UL=Tw:=rfl
theorem Z0:Wl=TL:=rfl
theorem cq (l m:List TE) (i:l.length<=9223372036854775806) (j:l.length=m.length) : ∃ r,loop (λs1=>br (SW s1.1 (l.length:Int)) (λ_=>RX s1.1 λn=>ix l n λf=>RX s1.1 λo=>ix m o λg=>br (Hf (NX (seq f.1 g.1) (NX (Sv.beq f.2 g.2) true))) (λ_=>some (LR.dn ((0:Nat),((s1.1,false),())))) λ_=>some (.nx (Rl .i64 s1.1 1,s1.2))) λ_=>some (.dn ((1,(s1,()))))) ((0:Int),false)=some r/\((l=m/\r.1=1)\/(l≠m/\r.1=0/\r.2.1.2=false)):=by
 refine Xm l m j i (λk x y a d => ?_) (by simp only;rw [re];rfl);have c:=(List.getElem?_eq_some_iff.1 a).1
 have b : ∀ {β:Type} (u v:Unit->Option β),br (Hf (NX (seq x.1 y.1) (NX (Sv.beq x.2 y.2) true))) u v=if x=y then v () else u ():=by
  intro β u v;rw [YM,Yk,beq_eq,XX,Ur,Uw];by_cases e:x=y
  ·subst e;simp
  ·rw [if_pos (λh=>e (Prod.ext h.1 h.2)),if_neg e]
 constructor
 ·intro e;simp only;rw [rl c,R5,S9,Sb a,S9,Sb d,b,if_pos e,TK (by omega)]
 ·intro e;simp only;rw [rl c,R5,S9,Sb a,S9,Sb d,b,if_neg e]
theorem Z1 (s t:Vd) (g:s.1.length<=1000) (h:s.2.1.length<=1000):WE (s,t)=some (decide (s=t)):=by
 obtain ⟨b,d,k⟩:=s;obtain ⟨c,f,l⟩:=t;simp only at g h;unfold WE;simp only [TI,TF];rw [Ss];by_cases e1:(b.length:Int)=(c.length:Int);rotate_left
 ·rw [if_neg e1];have : ¬ b=c:=λe=>e1 (by rw [e]);simp [this]
 rw [if_pos e1,Ss];by_cases e2:k=l;rotate_left
 ·rw [if_neg e2];simp [e2]
 rw [if_pos e2,Z0,YN _ _ (by omega),SL,Ur,Uw];by_cases e3:d=f;rotate_left
 ·rw [if_pos e3];simp [e3]
 rw [if_neg (show ¬ ¬ d=f by simp [e3])];obtain ⟨r,i,a⟩:=cq b c (by omega) (by omega);refine Tf i ?_;rw [SM];rcases a with ⟨e,a⟩ | ⟨e,a,j⟩
 ·rw [if_neg (show ¬ r.1=0 by omega)];simp [e,e2,e3]
 ·rw [if_pos a,j];simp [e]
theorem cA (s t:TC) (u:s.1.length<=1000) (g : ∀ l∈s.1,l.length<=1000000) (w:s.2.1.length<=1000) (h:s.2.2.1.length<=1000) (i:s.2.2.2.1.length<=1000):Wp (s,t)=some (decide (s=t)):=by
 obtain ⟨a,n,o⟩:=s;obtain ⟨d,p,q⟩:=t;simp only at u g w h i;unfold Wp;simp only [TI,TF];rw [Ss];by_cases e1:(a.length:Int)=(d.length:Int);rotate_left
 ·rw [if_neg e1];have : ¬ a=d:=λe=>e1 (by rw [e]);simp [this]
 rw [if_pos e1,Z0,YN _ _ (by omega),SL,Ur,Uw];by_cases e2:n=p;rotate_left
 ·rw [if_pos e2];simp [e2]
 rw [if_neg (show ¬ ¬ n=p by simp [e2]),Z1 _ _ h i,SL,Ur,Uw];by_cases e3:o=q;rotate_left
 ·rw [if_pos e3];simp [e3]
 rw [if_neg (show ¬ ¬ o=q by simp [e3])]
 obtain ⟨r,C,c⟩:=Xm a d (by omega) (by omega) (f:=λs2=>br (SW s2.1 (a.length:Int)) (λ_=>RX s2.1 λA=>ix a A λF=>RX s2.1 λB=>ix d B λG=>bd (UL (F,G)) λE=>br (Hf E) (λ_=>some (.dn ((0,((s2.1,false),()))))) λ_=>some (.nx (Rl .i64 s2.1 1,s2.2))) λ_=>some (.dn ((1,(s2,()))))) (λk x y b m=>by
   have j:=(List.getElem?_eq_some_iff.1 b).1;have z:=g x (List.mem_of_getElem? b);constructor
   ·intro e;simp only;rw [rl j,R5,S9,Sb b,S9,Sb m,XB,Wg _ _ (by omega),SL,Ur,Uw,if_neg (by simp [e]),TK (by omega)]
   ·intro e;simp only
    rw [rl j,R5,S9,Sb b,S9,Sb m,XB,Wg _ _ (by omega),SL,Ur,Uw,if_pos e]) (by simp only;rw [re];rfl)
 refine Tf C ?_;rw [SM];rcases c with ⟨e,c⟩ | ⟨e,c,D⟩
 ·rw [if_neg (show ¬ r.1=0 by omega)];simp [e,e2,e3]
 ·rw [if_pos c,D];simp [e]
theorem cr (x y:XH) (a:x.1.1.length<=1000) (b : ∀ l∈x.1.1,l.length<=1000000) (c:x.1.2.1.length<=1000) (d:x.1.2.2.1.length<=1000) (e:x.1.2.2.2.1.length<=1000) (f:x.2.2.1.length<=1000000):UA (x,y)=some (decide (x=y)):=by
 obtain ⟨i,⟨xs,k,h⟩,g,j⟩:=x;obtain ⟨n,⟨q,r,m⟩,p,o⟩:=y;simp only at a b c d e f;unfold UA;simp only [cA _ _ a b c d e,XB,Wg _ _ (show g.length<=9223372036854775806 by omega),SL,Uw,VU,Yk,beq_eq,YM,XX]
 repeat' split
 all_goals simp_all
section
variable {a b:List S8} (va:VL a) (vb:VL b)
include va vb
theorem Yi:VS [a,b]=some (0,0):=by
 have c:=va.len;have d:=vb.len;unfold VS;refine Eq.trans (b:=bd (loop _ (0,(0,0))) _) rfl ?_;refine Tf (x:=(1,((0,(0,2)),()))) (Uq (s1:=(0,(0,1))) (s2:=(0,(0,2))) ?_ ?_ rfl) rfl
 ·refine (ZV 0 rfl rfl (x:=a) rfl).trans ?_;rw [W2 _ (by omega),YB va,SL];rfl
 ·refine (ZV 1 rfl rfl (x:=b) rfl).trans ?_;rw [W2 _ (by omega),YB vb,SL];rfl
theorem X4 {i j:Nat} (hi:i<=a.length) (g:j<=b.length):VQ ([a,b],[(i:Int),(j:Int)])=some (if i=a.length/\j=b.length then -1 else if XN a b i j=true then 0 else 1):=by
 have k:=va.len;have l:=vb.len;unfold VQ;simp only [TI,TF];refine Tf (x:=(0,((if i=a.length/\j=b.length then -1 else if XN a b i j=true then 0 else 1,2),()))) (Uq (s1:=(if i=a.length then -1 else 0,1)) (s2:=(if i=a.length/\j=b.length then -1 else if XN a b i j=true then 0 else 1,2)) ?_ ?_ rfl) rfl
 ·refine (ZV 0 rfl rfl (x:=(i:Int)) rfl).trans ((V9 0 rfl (x:=a) rfl).trans ?_);rw [Sr];by_cases h:i=a.length
  ·rw [if_neg (by omega),if_pos h];rfl
  ·rw [if_pos (by omega),if_neg h];rfl
 ·refine (ZV 1 rfl rfl (x:=(j:Int)) rfl).trans ((V9 1 rfl (x:=b) rfl).trans ?_);rw [Sr];by_cases h:j=b.length
  ·rw [if_neg (by omega)];by_cases c:i=a.length
   ·rw [if_pos c,if_pos ⟨c,h⟩];rfl
   ·rw [if_neg c,if_neg (λe=>c e.1)];have d:a[i]? = some (a[i]'(by omega)):=by simp
    rw [dv d (List.getElem?_eq_none (by omega))];rfl
  ·have f:b[j]? = some (b[j]'(by omega)):=by simp
   rw [if_pos (by omega),Sr,if_neg (λe:i=a.length/\j=b.length=>h e.2)];by_cases c:i=a.length
   ·rw [if_pos c,if_pos (by omega),dw (List.getElem?_eq_none (by omega)) f];rfl
   ·rw [if_neg c,if_neg (by omega)];have d:a[i]? = some (a[i]'(by omega)):=by simp
    refine (V9 1 rfl (x:=b) rfl).trans ((V9 1 rfl (x:=(j:Int)) rfl).trans ((V9 j rfl f).trans ((V9 0 rfl (x:=a) rfl).trans ((V9 0 rfl (x:=(i:Int)) rfl).trans ((V9 i rfl d).trans ?_)))));rw [Wy,Zn d f];cases hs:Rz (b[j]'(by omega)).1 (a[i]'(by omega)).1<;>rfl
theorem X5 {i j:Nat} (hi:i<=a.length) (e:j<=b.length):U1 ([a,b],[(i:Int),(j:Int)])=some (Ym a b i j):=by
 have f:=va.len;have g:=vb.len;unfold U1;simp only [TI,TF];rw [UC (show [a,b].length<=1048576 from (show 2<=1048576 by omega)),UC (show [(i:Int),(j:Int)].length<=1048576 from (show 2<=1048576 by omega))];refine Tf (x:=(0,((2,[kx a i,kx b j]),()))) (Uq (s1:=(1,[kx a i])) (s2:=(2,[kx a i,kx b j])) ?_ ?_ rfl) ?_
 ·refine (ZV 0 rfl rfl (x:=(i:Int)) rfl).trans ((V9 0 rfl (x:=a) rfl).trans ?_);rw [VU,Ur,Uw];by_cases h:i=a.length
  ·have c:((i:Int)=(a.length:Int)):=by omega
   rw [if_neg (show ¬ ¬ ((i:Int)=(a.length:Int)) by simp [c]),Yw (List.getElem?_eq_none (by omega))];simp only [c,decide_true];rfl
  ·have d:a[i]? = some (a[i]'(by omega)):=by simp
   have c : ¬ ((i:Int)=(a.length:Int)):=by omega
   rw [if_pos c];refine (V9 0 rfl (x:=a) rfl).trans ((V9 0 rfl (x:=(i:Int)) rfl).trans ((V9 i rfl d).trans ?_));rw [Wu d];simp only [c,decide_false];rfl
 ·refine (ZV 1 rfl rfl (x:=(j:Int)) rfl).trans ((V9 1 rfl (x:=b) rfl).trans ?_);rw [VU,Ur,Uw];by_cases h:j=b.length
  ·have c:((j:Int)=(b.length:Int)):=by omega
   rw [if_neg (show ¬ ¬ ((j:Int)=(b.length:Int)) by simp [c]),Yw (l:=b) (i:=j) (List.getElem?_eq_none (by omega))];simp only [c,decide_true];rfl
  ·have d:b[j]? = some (b[j]'(by omega)):=by simp
   have c : ¬ ((j:Int)=(b.length:Int)):=by omega
   rw [if_pos c];refine (V9 1 rfl (x:=b) rfl).trans ((V9 1 rfl (x:=(j:Int)) rfl).trans ((V9 j rfl d).trans ?_));rw [Wu (l:=b) (i:=j) d];simp only [c,decide_false];rfl
 ·show bd (Vq [kx a i,kx b j]) _=_;rw [eM _ _ (UD _ _) (UD _ _)];rfl
theorem eC {i:Nat} {l:List S8} (h:i≠0) (hi:i<=l.length) : ∃ x,l[i-1]? = some x:=⟨l[i-1]'(by omega),by simp⟩
theorem ZL {i j:Nat} (I:Inv a b i j):VP (Ym a b i j)=some (0,0):=by
 have t:=va.len;have u:=vb.len;have hi:=I.ia;have k:=I.jb;unfold VP;rw [show (Ym a b i j).1=[a,b] from rfl,Yi va vb,SL,Ss,if_pos rfl];rw [show (Ym a b i j).2.1=[(i:Int),(j:Int)] from rfl,Ss,if_pos (show Kb (AS [(i:Int),(j:Int)])=Kb (AS [a,b]) from rfl)];refine Tf (x:=(1,((0,(0,2)),()))) (Uq (s1:=(0,(0,1))) (s2:=(0,(0,2))) ?_ ?_ rfl) ?_
 ·refine (ZV 0 rfl rfl (x:=(i:Int)) rfl).trans ?_;rw [Sr,if_neg (by omega)];refine (V9 0 rfl (x:=(i:Int)) rfl).trans ((V9 0 rfl (x:=a) rfl).trans ?_);rw [Sp,if_neg (by simp only [TI,TF];omega)];rfl
 ·refine (ZV 1 rfl rfl (x:=(j:Int)) rfl).trans ?_;rw [Sr,if_neg (by omega)];refine (V9 1 rfl (x:=(j:Int)) rfl).trans ((V9 1 rfl (x:=b) rfl).trans ?_);rw [Sp,if_neg (by simp only [TI,TF];omega)];rfl
 rw [show neq ((1:Nat),(((0:Int),((0:Int),(2:Int))),())).1 0=false from rfl,Rd,X5 va vb hi k,SL,Z1 (Ym a b i j).2.2 (Ym a b i j).2.2 (show 2<=1000 by omega) (show 2<=1000 by omega),SL,Ur,Uw,if_neg (show ¬ ¬ (Ym a b i j).2.2=(Ym a b i j).2.2 by simp),X4 va vb hi k,SL];by_cases r:i=a.length/\j=b.length
 ·rw [if_pos r];refine Tf (x:=(1,((0,(0,0)),()))) (Uh (n:=1) (by omega) (Tp ?_)) rfl;rfl
 rw [if_neg r];cases g:XN a b i j with
 | true =>
  rw [if_pos rfl]
  have p:i<a.length:=by
   refine Nat.lt_of_not_le λh' => ?_;have o:j<b.length:=by omega
   rw [dw (List.getElem?_eq_none h') (show b[j]? = some (b[j]'o) by simp)] at g;cases g
  have e:a[i]? = some (a[i]'p):=by simp
  refine Tf (x:=(1,((0,(0,2)),()))) (Uq (s1:=(0,(0,1))) (s2:=(0,(0,2))) ?_ ?_ rfl) rfl
  ·show br (SW (0:Int) 2) _ _=_;rw [Sr,if_pos (by omega),So,if_pos (by omega)];refine (V9 0 rfl (x:=(i:Int)) rfl).trans ?_;rw [Sn];by_cases f:i=0
   ·rw [if_pos (by omega)];rfl
   ·rw [if_neg (by omega)];obtain ⟨y,d⟩:=eC va vb (l:=a) f hi;refine (V9 0 rfl (x:=a) rfl).trans ((V9 0 rfl (x:=(i:Int)) rfl).trans ?_);rw [show Rp .i64 (i:Int) 1=((i-1:Nat):Int) by rw [SB (by omega)];omega,S9,Sb d];refine (V9 0 rfl (x:=a) rfl).trans ((V9 0 rfl (x:=(i:Int)) rfl).trans ((V9 i rfl e).trans ?_));have c:=va.lt d (show a[i-1+1]? = some _ by rw [show i-1+1=i by omega];exact e);rw [Wy,if_neg (by rw [Uu c];simp),Vy,if_neg (YK c)];rfl
  ·show br (SW (1:Int) 2) _ _=_;rw [Sr,if_pos (by omega),So,if_pos (by omega)];refine (V9 1 rfl (x:=(j:Int)) rfl).trans ?_;rw [Sn];by_cases f:j=0
   ·rw [if_pos (by omega)];rfl
   ·rw [if_neg (by omega)];obtain ⟨y,d⟩:=eC va vb (l:=b) f k;refine (V9 1 rfl (x:=b) rfl).trans ((V9 1 rfl (x:=(j:Int)) rfl).trans ?_);rw [show Rp .i64 (j:Int) 1=((j-1:Nat):Int) by rw [SB (by omega)];omega,S9,Sb d];refine (V9 0 rfl (x:=a) rfl).trans ((V9 0 rfl (x:=(i:Int)) rfl).trans ((V9 i rfl e).trans ?_));have c:=I.pb (j-1) (by omega) y _ d e;rw [Wy,if_neg (by rw [Uu c];simp),Vy,if_neg (YK c)];rfl
 | false =>
  rw [if_neg (by simp)]
  have h:j<b.length:=by
   refine Nat.lt_of_not_le λh' => ?_;have m:i<a.length:=by omega
   rw [dv (show a[i]? = some (a[i]'m) by simp) (List.getElem?_eq_none h')] at g;cases g
  have e:b[j]? = some (b[j]'h):=by simp
  refine Tf (x:=(1,((0,(0,2)),()))) (Uq (s1:=(0,(0,1))) (s2:=(0,(0,2))) ?_ ?_ rfl) rfl
  ·show br (SW (0:Int) 2) _ _=_;rw [Sr,if_pos (by omega),So,if_pos (by omega)];refine (V9 0 rfl (x:=(i:Int)) rfl).trans ?_;rw [Sn];by_cases f:i=0
   ·rw [if_pos (by omega)];rfl
   ·rw [if_neg (by omega)];obtain ⟨y,d⟩:=eC va vb (l:=a) f hi;refine (V9 0 rfl (x:=a) rfl).trans ((V9 0 rfl (x:=(i:Int)) rfl).trans ?_);rw [show Rp .i64 (i:Int) 1=((i-1:Nat):Int) by rw [SB (by omega)];omega,S9,Sb d];refine (V9 1 rfl (x:=b) rfl).trans ((V9 1 rfl (x:=(j:Int)) rfl).trans ((V9 j rfl e).trans ?_));have q:=I.pa (i-1) (by omega) y _ d e;rw [Wy,if_neg (by rw [q];simp),Vy];by_cases s:y.1=(b[j]'h).1
    ·rw [if_pos s];rfl
    ·rw [if_neg s];rfl
  ·show br (SW (1:Int) 2) _ _=_;rw [Sr,if_pos (by omega),So,if_pos (by omega)];refine (V9 1 rfl (x:=(j:Int)) rfl).trans ?_;rw [Sn];by_cases f:j=0
   ·rw [if_pos (by omega)];rfl
   ·rw [if_neg (by omega)];obtain ⟨y,d⟩:=eC va vb (l:=b) f k;refine (V9 1 rfl (x:=b) rfl).trans ((V9 1 rfl (x:=(j:Int)) rfl).trans ?_);rw [show Rp .i64 (j:Int) 1=((j-1:Nat):Int) by rw [SB (by omega)];omega,S9,Sb d];refine (V9 1 rfl (x:=b) rfl).trans ((V9 1 rfl (x:=(j:Int)) rfl).trans ((V9 j rfl e).trans ?_));have c:=vb.lt d (show b[j-1+1]? = some _ by rw [show j-1+1=j by omega];exact e);rw [Wy,if_neg (by rw [Uu c];simp),Vy,if_neg (YK c)];rfl
end
end
section
open Go Go.Proofs.YtfilfloanndddaaGreat.Sv
section
variable {a b:List S8} (va:VL a) (vb:VL b)
include va vb
theorem gb {n:Nat} {x:S8} (h:n<a.length+b.length) (d:ZS a b n=some x):Ve (YZ a b n)=some (x,((Z6 a b n:Int),(YZ a b (n+1),0))):=by
 obtain ⟨i,hs⟩:=WA va vb (n:=n) (by omega);obtain ⟨j,k⟩:=WA va vb (n:=n+1) (by omega);have l:=va.len;have m:=vb.len;have e:=i.ia;have f:=i.jb;unfold Ve;rw [show YZ a b n=Ym a b (TP a b n).1 (TP a b n).2 from rfl,ZL va vb i,SL,Ss,if_pos rfl,show (Ym a b (TP a b n).1 (TP a b n).2).1=[a,b] from rfl,show (Ym a b (TP a b n).1 (TP a b n).2).2.1=[((TP a b n).1:Int),((TP a b n).2:Int)] from rfl,X4 va vb e f,SL,if_neg (λhh:(TP a b n).1=a.length/\(TP a b n).2=b.length=>by omega)];unfold ZS at d;have c:TP a b (n+1)=if XN a b (TP a b n).1 (TP a b n).2=true then ((TP a b n).1+1,(TP a b n).2) else ((TP a b n).1,(TP a b n).2+1):=rfl
 unfold YZ Z6;cases g:XN a b (TP a b n).1 (TP a b n).2 with
 | true =>
  rw [g,if_pos rfl] at c;rw [g,if_pos rfl] at d;have hi:=(List.getElem?_eq_some_iff.1 d).1;rw [if_pos rfl,Sr,if_neg (by omega),UC (show AS [((TP a b n).1:Int),((TP a b n).2:Int)]<=1048576 from (show 2<=1048576 by omega))];refine (YH 0 rfl (x:=((TP a b n).1:Int)) rfl).trans ((YH 0 rfl (x:=((TP a b n).1:Int)) rfl).trans ((V9 0 rfl (x:=a) rfl).trans ((V9 0 rfl (x:=((TP a b n).1:Int)) rfl).trans ((V9 _ rfl d).trans ?_))));rw [TK (by omega),show lset [((TP a b n).1:Int),((TP a b n).2:Int)] 0 (((TP a b n).1+1:Nat):Int)=[(((TP a b n).1+1:Nat):Int),((TP a b n).2:Int)] from rfl,X5 va vb (by omega) f,SL,c];rfl
 | false =>
  rw [g,if_neg (by simp)] at c;rw [g,if_neg (by simp)] at d;have hi:=(List.getElem?_eq_some_iff.1 d).1;rw [if_neg (by simp),Sr,if_neg (by omega),UC (show AS [((TP a b n).1:Int),((TP a b n).2:Int)]<=1048576 from (show 2<=1048576 by omega))];refine (YH 1 rfl (x:=((TP a b n).2:Int)) rfl).trans ((YH 1 rfl (x:=((TP a b n).2:Int)) rfl).trans ((V9 1 rfl (x:=b) rfl).trans ((V9 1 rfl (x:=((TP a b n).2:Int)) rfl).trans ((V9 _ rfl d).trans ?_))));rw [TK (by omega),show lset [((TP a b n).1:Int),((TP a b n).2:Int)] 1 (((TP a b n).2+1:Nat):Int)=[((TP a b n).1:Int),(((TP a b n).2+1:Nat):Int)] from rfl,X5 va vb e (by omega),SL,c];rfl
theorem ga {n:Nat} (h:n<=a.length+b.length):Wo (YZ a b n)=some (((a.length+b.length-n:Nat):Int),0):=by
 obtain ⟨c,hs⟩:=WA va vb (n:=n) h;have f:=va.len;have g:=vb.len;have d:=c.ia;have e:=c.jb;unfold Wo;rw [show YZ a b n=Ym a b (TP a b n).1 (TP a b n).2 from rfl,ZL va vb c,SL,Ss,if_pos rfl];refine Tf (x:=(0,((2,((a.length+b.length-n:Nat):Int)),()))) (Uq (s1:=(1,(a.length:Int)-((TP a b n).1:Int))) (s2:=(2,((a.length+b.length-n:Nat):Int))) ?_ ?_ rfl) rfl
 ·refine (ZV 0 rfl rfl (x:=a) rfl).trans ((V9 0 rfl (x:=((TP a b n).1:Int)) rfl).trans ?_);simp only [TI,TF];rw [show Rl .i64 (0:Int) (a.length:Int)=(a.length:Int) by rw [R9 (by omega),Int.zero_add],SB (by omega)];rfl
 ·refine (ZV 1 rfl rfl (x:=b) rfl).trans ((V9 1 rfl (x:=((TP a b n).2:Int)) rfl).trans ?_);simp only [TI,TF];show some (LR.nx ((2:Int),Rp .i64 (Rl .i64 ((a.length:Int)-((TP a b n).1:Int)) (b.length:Int)) ((TP a b n).2:Int)))=_;rw [R9 (by omega),SB (by omega),show (a.length:Int)-((TP a b n).1:Int)+(b.length:Int)-((TP a b n).2:Int)=((a.length+b.length-n:Nat):Int) by omega]
theorem d9:V4 [a,b]=some (TX a b (a.length+b.length),(XO a b (a.length+b.length),0)):=by
 have l:=va.len;have m:=vb.len;unfold V4;rw [Yi va vb,SL,Ss,if_pos rfl];refine Eq.trans (b:=bd (loop _ ([],([],([],(0,([],[0,0])))))) _) rfl ?_
 refine Tf (x:=(0,((XO a b (a.length+b.length),(TX a b (a.length+b.length),0)),())))
  (Xn (λk=>([],(TX a b k,([],(0,(XO a b k,[((TP a b k).1:Int),((TP a b k).2:Int)])))))) 0 (a.length+b.length) rfl (by omega) (by omega) (λk _ j => ?_) ?_) rfl
 ·obtain ⟨x,c,_⟩:=Vb va vb (n:=k) j;obtain ⟨d,hs⟩:=WA va vb (n:=k) (by omega);have e:(TX a b k).length=k:=Ut va vb (by omega);have f:=ZF a b k;simp only;rw [X4 va vb d.ia d.jb,SL,if_neg (λhh:(TP a b k).1=a.length/\(TP a b k).2=b.length=>by omega)];rw [Wa va vb c];unfold ZS at c;rw [show XO a b (k+1)=XO a b k++[(Z6 a b k:Int)] from rfl];unfold Z6;rw [show TP a b (k+1)=if XN a b (TP a b k).1 (TP a b k).2=true then ((TP a b k).1+1,(TP a b k).2) else ((TP a b k).1,(TP a b k).2+1) from rfl]
  have h : ∀ {β:Type} (y:S8) (q:Unit->Option β),gd (CD (BD (AS (TX a b k)) (AS [y])) 1048576) q=q ():=λy q=>UC (by simp only [BD,AS,e,List.length_cons,List.length_nil];omega) q;have i : ∀ {β:Type} (y:Int) (q:Unit->Option β),gd (CD (BD (AS (XO a b k)) (AS [y])) 1048576) q=q ():=λy q=>UC (by simp only [BD,AS,f,List.length_cons,List.length_nil];omega) q;cases g:XN a b (TP a b k).1 (TP a b k).2 with
  | true =>
   rw [g,if_pos rfl] at c;have hi:=(List.getElem?_eq_some_iff.1 c).1;simp only [if_true];rw [Sr,if_neg (by omega)];refine (V9 0 rfl (x:=a) rfl).trans ((YH 0 rfl (x:=((TP a b k).1:Int)) rfl).trans ((V9 _ rfl c).trans ?_));rw [h,i];refine (YH 0 rfl (x:=((TP a b k).1:Int)) rfl).trans ((YH 0 rfl (x:=((TP a b k).1:Int)) rfl).trans ?_);rw [TK (by omega)];rfl
  | false =>
   rw [g,if_neg (by simp)] at c;have hi:=(List.getElem?_eq_some_iff.1 c).1;simp only [Bool.false_eq_true,if_false];rw [Sr,if_neg (by omega)];refine (V9 1 rfl (x:=b) rfl).trans ((YH 1 rfl (x:=((TP a b k).2:Int)) rfl).trans ((V9 _ rfl c).trans ?_));rw [h,i];refine (YH 1 rfl (x:=((TP a b k).2:Int)) rfl).trans ((YH 1 rfl (x:=((TP a b k).2:Int)) rfl).trans ?_);rw [TK (by omega)];rfl
 ·obtain ⟨d,hs⟩:=WA va vb (n:=a.length+b.length) (Nat.le_refl _);simp only;rw [X4 va vb d.ia d.jb,SL,if_pos (show (TP a b (a.length+b.length)).1=a.length/\(TP a b (a.length+b.length)).2=b.length by have:=d.ia;have:=d.jb;omega),Sr,if_pos (by omega)]
end
theorem cF {s:UI} (b:s.2.1.length<=32) (a:s.1=false->s.2.1=[]):WS s=some 0:=by
 unfold WS;rw [Sp,if_neg (by simp only [TI,X8];omega),Tq,Sx];cases h:s.1 with
 | true=>rfl
 | false=>rw [if_neg (by simp),Tq,Vy,if_pos (a h)]
theorem cv {s:UI} {x:S8} (e:s.2.1.length<=32) (f:s.1=false->s.2.1=[]) (g:kE x=0) (a:s.1=true->Rz x.1 s.2.1=false):Wq (s,x)=some (keep s x,((true,(x.1,s.2.2)),0)):=by
 unfold Wq keep;rw [cF e f,SL,Sn,if_pos rfl,Y7,g,SL,Sn,if_pos rfl];obtain ⟨s1,s2,c⟩:=s;obtain ⟨h,i,d,j⟩:=x;simp only at a ⊢;cases s1 with
 | true =>
  have:=a rfl;simp only [R5,Wy,this,Bool.false_eq_true,if_false,Ss,if_true,Tq,Vy];by_cases b:h=s2
  ·simp [b,Rd]
  ·simp only [b,if_false,decide_false];cases c<;>cases d<;>rfl
 | false =>
  simp only [Rd,Ss,if_true,Tq];cases c<;>cases d<;>rfl
theorem ck {l:List S8} {b:Bool} (t:l.length<=20000) (r:ZA (false,([],b)) l):V5 (l,b)=some (Vx (false,([],b)) l,(0,0)):=by
 unfold V5 U2;simp only [TI,TF];rw [Sp,if_neg (by omega),SL]
 rw [U8 (l:=l) (σ:=UI×List S8) (s:=(0,(0,([],([],(0,(false,([],b)))))))) (λk a=>((0:Int),((k:Int),(([]:List S8),(a.2,((0:Int),a.1))))))
  (λm k a=>ZA a.1 m/\a.1.2.1.length<=32/\(a.1.1=false->a.1.2.1=[])/\a.2.length<=k/\k+m.length=l.length)
  (λm k a=>(1,((0,((l.length:Int),([],(a.2++Vx a.1 m,(0,Uc a.1 m))))),()))) ((false,([],b)),[]) rfl (by omega) ⟨r,by simp,λ_=>rfl,by simp,by simp⟩ ?_ ?_,SL]
 ·simp;rfl
 ·intro a _;simp only;rw [re,Rd];simp [Uc,Vx]
 ·rintro k x m ⟨s,out⟩ u d p ⟨⟨c,e,f⟩,g,i,j,n⟩;simp only at c e f g i j ⊢;refine ⟨((true,(x.1,s.2.2)),out++if keep s x=true then [x] else []),?_,⟨f,Zq c,(λh=>by cases h),?_,by simp at n;omega⟩,?_⟩
  ·rw [rl p,R5,S9,Sb d,cv g i c e,SL,Ss,if_pos rfl,Sx,S9,Sb d];have o : ∀ {β:Type} (k:Unit->Option β),gd (CD (BD out.length [x].length) 1048576) k=k ():=λk=>du j (by simp at n;omega) x k;rw [o,TN d (show l.length<=9223372036854775807 by omega)];cases q:keep s x<;>simp [Ik]
  ·split<;>simp<;>omega
  ·simp only [Uc,Vx,List.append_assoc]
section
variable {a b:List S8} (va:VL a) (vb:VL b)
include va vb
theorem aH (c:Bool) {n:Nat} (h:n<=a.length+b.length):U6 (TX a b n,c)=some (Vx (s0 c) (TX a b n),Uc (s0 c) (TX a b n)):=by
 have f:=va.len;have g:=vb.len;have d:(TX a b n).length=n:=Ut va vb h;unfold U6;simp only [TI,TF];rw [ck (by omega) (W3 va vb c h),SL];unfold U2;rw [SL,Sp,d];cases n with
 | zero=>rw [if_neg (by omega)];rfl
 | succ m =>
  obtain ⟨x,e,_⟩:=Vb va vb (n:=m) (by omega);rw [if_pos (by omega),show Rp .i64 ((m+1:Nat):Int) 1=(m:Int) by rw [SB (by omega)];omega,S9,Sb (x:=x) (by rw [Xp va vb h (by omega)];exact e),YG va vb c e]
theorem cE (c:Bool) {n:Nat} (h:n<=a.length+b.length):Vf (U9 a b c n)=some (n:Int):=by
 obtain ⟨d,hs⟩:=WA va vb (n:=n) h;have e:=va.len;have f:=vb.len;unfold Vf;refine Tf (x:=(0,(((n:Int),2),()))) (Uq (s1:=(((TP a b n).1:Int),1)) (s2:=((n:Int),2)) ?_ ?_ rfl) rfl
 ·refine (ZV 0 rfl rfl (x:=((TP a b n).1:Int)) rfl).trans ?_;show some (LR.nx (Rl .i64 0 ((TP a b n).1:Int),(1:Int)))=_;rw [R9 (by omega),Int.zero_add]
 ·refine (ZV 1 rfl rfl (x:=((TP a b n).2:Int)) rfl).trans ?_;show some (LR.nx (Rl .i64 ((TP a b n).1:Int) ((TP a b n).2:Int),(2:Int)))=_;rw [R9 (by omega),show ((TP a b n).1:Int)+((TP a b n).2:Int)=(n:Int) by omega]
theorem cI (c:Bool) {n:Nat} (h:n<=a.length+b.length):WU (U9 a b c n)=some 0:=by
 obtain ⟨d,hs⟩:=WA va vb (n:=n) h;have g:=va.len;have i:=vb.len;have e:=Xh (s0 c) (TX a b n);have f:(TX a b n).length=n:=Ut va vb h;unfold WU;rw [show (U9 a b c n).1=Ym a b (TP a b n).1 (TP a b n).2 from rfl,ZL va vb d,SL,Ss,if_pos rfl,cE va vb c h,SL];simp only [TI,TF];rw [show (U9 a b c n).2.2.1=Vx (s0 c) (TX a b n) from rfl,show (U9 a b c n).2.2.2=(n:Int) from rfl,show (U9 a b c n).2.1=Uc (s0 c) (TX a b n) from rfl,Sp,if_neg (by omega),Sp,if_neg (by omega),Ss,if_pos rfl];rw [show (Ym a b (TP a b n).1 (TP a b n).2).1=[a,b] from rfl,d9 va vb,SL,S9];rw [UC (by rw [Ut va vb (Nat.le_refl _)];exact h),UC (Nat.zero_le _)];rw [show Dy (TX a b (a.length+b.length)) 0 n=TX a b n from by unfold Dy;rw [List.drop_zero,Nat.sub_zero];exact XG va vb h,Wv];rw [show (s0 c).2.2=c from rfl,aH va vb c h,SL,XB,Wg _ _ (by omega),SL,Ur,Uw,if_neg (by simp),Wv,XY,XY,X6];rfl
theorem Yj (c:Bool) {n:Nat} (h:n<=a.length+b.length):Ti (U9 a b c n)=some (((a.length+b.length-n:Nat):Int),0):=by
 unfold Ti;rw [cI va vb c h,SL,Ss,if_pos rfl,show (U9 a b c n).1=YZ a b n from rfl,ga va vb h];rfl
theorem Z5 (c:Bool) {n:Nat} (h:n<=a.length+b.length) {k:Nat}:Tb (U9 a b c n,(k:Int))=some (U9 a b c (n+min k (a.length+b.length-n)),(((min k (a.length+b.length-n):Nat):Int),0)):=by
 have i:=va.len;have l:=vb.len;obtain ⟨u,e⟩ : ∃ u,u=min k (a.length+b.length-n):=⟨_,rfl⟩
 have d:Sz (k:Int) ((a.length+b.length-n:Nat):Int)=(u:Int):=by
  unfold Sz;split<;>omega
 rw [<- e];unfold Tb;rw [Yj va vb c h,SL,Sn,if_pos rfl];simp only [d,TI,TF];rw [Sr,if_neg (by omega),Ss,if_pos rfl,cE va vb c h,SL,R9 (by omega),Sp,if_neg (by omega)]
 refine Tf (x:=(0,(((u:Int),((YZ a b (n+u)).1,((YZ a b (n+u)).2.1,((YZ a b (n+u)).2.2.1,((YZ a b (n+u)).2.2.2.1,((YZ a b (n+u)).2.2.2.2,((U9 a b c n).2.1.1,((U9 a b c n).2.1.2.1,((U9 a b c n).2.1.2.2,(U9 a b c n).2.2))))))))),())))
  (Xn (λj=>((j:Int),((YZ a b (n+j)).1,((YZ a b (n+j)).2.1,((YZ a b (n+j)).2.2.1,((YZ a b (n+j)).2.2.2.1,((YZ a b (n+j)).2.2.2.2,((U9 a b c n).2.1.1,((U9 a b c n).2.1.2.1,((U9 a b c n).2.1.2.2,(U9 a b c n).2.2)))))))))) 0 u rfl (by omega) (by omega) (λj _ g => ?_) ?_) ?_
 ·obtain ⟨y,f,_⟩:=Vb va vb (n:=n+j) (by omega);show br (SW (j:Int) (u:Int)) _ _=_;rw [Sr,if_pos (by omega)];show bd (Ve (YZ a b (n+j))) _=_;rw [gb va vb (by omega) f,SL,TK (by omega)];rfl
 ·show br (SW (u:Int) (u:Int)) _ _=_;rw [Sr,if_neg (by omega)]
 ·rw [show (U9 a b c n).1.1=[a,b] from rfl,d9 va vb,SL,show (U9 a b c n).2.2.2=(n:Int) from rfl,show Rl .i64 (n:Int) (u:Int)=((n+u:Nat):Int) by rw [R9 (by omega)];omega,S9];rw [UC (by rw [Ut va vb (Nat.le_refl _)];omega),UC (Nat.zero_le _)];rw [show Dy (TX a b (a.length+b.length)) 0 (n+u)=TX a b (n+u) from by unfold Dy;rw [List.drop_zero,Nat.sub_zero];exact XG va vb (by omega),show (U9 a b c n).2.1.2.2=c from Wv _ _,aH va vb c (by omega),SL];rfl
end
end
section
open Go Go.Proofs.YtfilfloanndddaaGreat.Sv
theorem aZ (B:Int) (i:Nat):UX B (i+1)=2*UX B i:=by
 unfold UX;rw [Int.pow_succ,<- Int.mul_assoc,Int.mul_comm]
theorem cG {B:Int} {i:Nat} (a:1<=B) (b:B<=16) (hi:i<=12):VF (B,(i:Int))=some (UX B i):=by
 unfold VF;refine Tf (x:=(0,((UX B i,(i:Int)),()))) (Zt (λk=>(UX B k,(k:Int))) i (by simp [UX]) (by omega) (λk d => ?_) ?_) rfl
 ·have c:=cN a b (show k<=12 by omega);simp only;rw [Sr,if_pos (by omega),SA (by omega),TK (by omega),aZ]
 ·simp only;rw [Sr,if_neg (by omega)]
theorem mQ (r:Te) (b:r.2.length<=9223372036854775807):WQ r=some (if r.1<1\/r.1>1000000 then (-1,7) else WL r.2):=by
 unfold WQ;rw [Sr,Sp,W2 _ b,SL];by_cases h:r.1<1
 ·rw [if_pos h,if_pos (.inl h)]
 ·rw [if_neg h];by_cases a:r.1>1000000
  ·rw [if_pos a,if_pos (.inr a)]
  ·rw [if_neg a,if_neg (by omega)]
theorem gj (r:Te) (most:Int) (a:List Int) (z:r.2.length<=9223372036854775807) (hi:a.length<=1048576):Vg (r,(most,a))=some (kR a most r):=by
 unfold Vg kR;rw [mQ r (by omega),SL];simp only [TI,TF];by_cases h:r.1<1\/r.1>1000000
 ·rw [if_pos h,if_pos h];rfl
 rw [if_neg h,if_neg h,Ss];by_cases b:(WL r.2).2=0;rotate_left
 ·rw [if_neg b,if_pos b]
 rw [if_pos b,if_neg (show ¬ (WL r.2).2≠0 by simp [b]),Sn,Sp];by_cases i:r.2.length=0
 ·rw [if_pos (by omega),if_pos i]
 rw [if_neg (by omega),if_neg i];by_cases c:(r.2.length:Int)>most
 ·rw [if_pos c,if_pos c]
 rw [if_neg c,if_neg c]
 obtain ⟨q,p,d⟩:=WZ (l:=a) (σ:=Unit) (s:=((0:Int),(0:Int))) (λk _=>((k:Int),(0:Int))) (λm k _=>r.1∈a<->r.1∈m) (λ(q:Nat×((Int×Int)×Unit))=>(q.1=1/\r.1 ∉ a)\/(q.1=0/\r.1∈a/\q.2.1.2=8))
  (f:=λs1=>br (SW s1.1 (a.length:Int)) (λ_=>RX s1.1 λo=>ix a o λw=>br (RR w r.1) (λ_=>some (.dn ((0,((s1.1,8),()))))) λ_=>some (.nx (Rl .i64 s1.1 1,s1.2))) λ_=>some (.dn ((1,(s1,())))))
  () rfl (by omega) Iff.rfl (λ_ h=>⟨_,by simp only;rw [re];rfl,.inl ⟨rfl,by simpa using h⟩⟩) (λk x m _ y j n h=>by
   simp only;rw [rl n,R5,S9,Sb j,Sn];by_cases e:x=r.1
   ·rw [if_pos e];exact .inr ⟨_,rfl,.inr ⟨rfl,by rw [h,e];simp,rfl⟩⟩
   ·rw [if_neg e];exact .inl ⟨(),by rw [TN j (by omega)],by rw [h,List.mem_cons];exact ⟨λu=>u.elim (λe2=>absurd e2.symm e) id,.inr⟩⟩)
 refine Tf p ?_;rw [SM];rcases d with ⟨d,g⟩ | ⟨d,g,t⟩
 ·rw [if_neg (show ¬ q.1=0 by omega),if_neg g]
 ·rw [if_pos d,if_pos g,t]
theorem bC (L:TB) (hb:L.2.length<=1048576) (hr : ∀ rs∈L.2,rs.length<=1048576 /\ ∀ r∈rs,r.2.length<=9223372036854775807):Ug L=some (Vv L):=by
 unfold Ug Vv;simp only [TI,TF];rw [Sr,Sp,Sp];by_cases n:L.1<1
 ·rw [if_pos n,if_pos (.inl n)]
 rw [if_neg n];by_cases o:L.1>16
 ·rw [if_pos o,if_pos (.inr o)]
 rw [if_neg o,if_neg (show ¬ (L.1<1\/L.1>16) by omega)];by_cases S:(L.2.length:Int)>12
 ·rw [if_pos S,if_pos (by omega)]
 rw [if_neg S,if_neg (by omega)];have hl2:L.2.length<=12:=by omega
 obtain ⟨T,N⟩ : ∃ T,T=YT L.1 0 [] L.2:=⟨_,rfl⟩;rw [<- N]
 have p:T=none->(br (SU (L.2.length:Int) 0) (λ_=>RX (Rp .i64 (L.2.length:Int) 1) λD=>ix L.2 D λJ=>br (RR (J.length:Int) 0) (λ_=>some ((Rp .i64 (L.2.length:Int) 1,((0:Int),(6:Int))))) λ_=>some ((0,(0,0)))) λ_=>some ((0,(0,0))))=some (if L.2.getLast? = some [] then (((L.2.length-1:Nat):Int),(0,6)) else (0,(0,0))):=by
  intro _;rw [Sp];by_cases X:L.2=[]
  ·rw [X];rfl
  ·have hp:=List.length_pos_iff.2 X;rw [if_pos (by omega),show Rp .i64 (L.2.length:Int) 1=((L.2.length-1:Nat):Int) by rw [SB (by omega)];omega,S9,List.getLast?_eq_getElem?];have d:L.2[L.2.length-1]? = some (L.2[L.2.length-1]'(by omega)):=by simp
   rw [Sb d,d,Sn];by_cases C:L.2[L.2.length-1]'(by omega)=[]
   ·rw [C];simp
   ·rw [if_neg (by have:=List.length_pos_iff.2 C;omega),if_neg (by simp [C])]
 obtain ⟨r,G,j⟩:=WZ (l:=L.2) (σ:=List Int) (s:=((0:Int),(([]:List Int),((0:Int),((0:Int),(0:Int)))))) (λi a=>((0:Int),(a,((0:Int),((0:Int),(i:Int))))))
  (λm i a=>YT L.1 i a m=T/\a.length<=2*i) (λ(r:Nat×((Int×(List Int×(Int×(Int×Int))))×Unit))=>(r.1=1/\T=none)\/(r.1=0/\Q1 T r.2.1.1 r.2.1.2.2.1 r.2.1.2.2.2.1/\T≠none))
  (f:=λ(s0:(Int×((List Int)×(Int×(Int×Int)))))=>br (SW s0.2.2.2.2 (L.2.length:Int)) (λ_=>RX s0.2.2.2.2 λk1=>ix L.2 k1 λB=>br (SU (B.length:Int) 2) (λ_=>some (.dn ((0,((0,(s0.2.1,(s0.2.2.2.2,(3,s0.2.2.2.2)))),()))))) λ_=>bd (loop (λ(b:(Int×((List Int)×(Int×(Int×Int)))))=>br (SW b.2.2.2.2 (B.length:Int)) (λ_=>RX b.2.2.2.2 λE=>ix B E λK=>bd (VF (L.1,s0.2.2.2.2)) λI=>bd (Vg ((K,(I,b.2.1)))) λy=>br (RT y 0) (λ_=>some (.dn ((0,((b.2.2.2.2,(b.2.1,(s0.2.2.2.2,(y,b.2.2.2.2)))),()))))) λ_=>RX b.2.2.2.2 λF=>ix B F λz=>gd (CD (BD b.2.1.length [z.1].length) 1048576) λ_=>some (.nx ((b.1,(Ik b.2.1 [z.1],(b.2.2.1,(b.2.2.2.1,Rl .i64 b.2.2.2.2 1))))))) λ_=>some (.dn ((1,(b,()))))) ((s0.1,(s0.2.1,(s0.2.2.1,(s0.2.2.2.1,0)))))) λc=>br (neq c.1 0) (λ_=>some (.dn ((0,((c.2.1.1,(c.2.1.2.1,(c.2.1.2.2.1,(c.2.1.2.2.2.1,s0.2.2.2.2)))),()))))) λ_=>some (.nx ((c.2.1.1,(c.2.1.2.1,(c.2.1.2.2.1,(c.2.1.2.2.2.1,Rl .i64 s0.2.2.2.2 1))))))) λ_=>some (.dn ((1,(s0,())))))
  [] rfl (by omega) ⟨N.symm,by simp⟩ (λa h=>by
   refine ⟨_,by simp only;rw [re];rfl,.inl ⟨rfl,?_⟩⟩;rw [<- h.1];rfl) (λi rs m a Z d hi h=>by
   obtain ⟨h,P⟩:=h;simp only;obtain ⟨Y,u⟩:=hr rs (List.mem_of_getElem? d);rw [rl hi,R5,S9,Sb d,Sp];unfold YT at h;by_cases M:rs.length>2
   ·rw [if_pos (by omega)];rw [if_pos M] at h;refine .inr ⟨_,rfl,.inr ⟨rfl,?_,by rw [<- h];simp⟩⟩;rw [<- h];exact ⟨rfl,rfl,rfl⟩
   rw [if_neg (by omega)];rw [if_neg M] at h;obtain ⟨U,O⟩ : ∃ U,U=YU (UX L.1 i) 0 a rs:=⟨_,rfl⟩;rw [<- O] at h
   obtain ⟨r,G,j⟩:=WZ (l:=rs) (σ:=Unit) (s:=((0:Int),(a,((0:Int),((0:Int),(0:Int)))))) (λk _=>((0:Int),(a++(rs.take k).map (·.1),((0:Int),((0:Int),(k:Int))))))
    (λm k _=>YU (UX L.1 i) k (a++(rs.take k).map (·.1)) m=U) (λ(r:Nat×((Int×(List Int×(Int×(Int×Int))))×Unit))=>(r.1=1/\U=none/\r.2.1=(0,(a++rs.map (·.1),(0,(0,(rs.length:Int))))))\/(r.1=0 /\ ∃ k e,U=some (k,e)/\r.2.1.1=(k:Int)/\r.2.1.2.2.1=(i:Int)/\r.2.1.2.2.2.1=e))
    (f:=λ(b:(Int×((List Int)×(Int×(Int×Int)))))=>br (SW b.2.2.2.2 (rs.length:Int)) (λ_=>RX b.2.2.2.2 λE=>ix rs E λK=>bd (VF (L.1,(i:Int))) λI=>bd (Vg ((K,(I,b.2.1)))) λy=>br (RT y 0) (λ_=>some (.dn ((0,((b.2.2.2.2,(b.2.1,((i:Int),(y,b.2.2.2.2)))),()))))) λ_=>RX b.2.2.2.2 λF=>ix rs F λz=>gd (CD (BD b.2.1.length [z.1].length) 1048576) λ_=>some (.nx ((b.1,(Ik b.2.1 [z.1],(b.2.2.1,(b.2.2.2.1,Rl .i64 b.2.2.2.2 1))))))) λ_=>some (.dn ((1,(b,())))))
    () (by simp) (by omega) (by simp [O]) (λ_ h=>by
     refine ⟨_,by simp only;rw [re];rfl,.inl ⟨rfl,by rw [<- h];rfl,by simp⟩⟩) (λk r m _ Z d hk h=>by
     simp only;have hr2:=u r (List.mem_of_getElem? d);have w:(rs.take (k+1)).map (·.1)=(rs.take k).map (·.1)++[r.1]:=by rw [List.take_add_one,d];simp
     have W:(a++(rs.take k).map (·.1)).length<=100:=by simp;omega
     rw [rl hk,R5,S9,Sb d,cG (by omega) (by omega) (by omega),SL,gj _ _ _ (by omega) (by omega),SL,Ss];unfold YU at h;by_cases A:kR (a++(rs.take k).map (·.1)) (UX L.1 i) r=0
     ·rw [if_neg (λhh:kR (a++(rs.take k).map (·.1)) (UX L.1 i) r≠0=>hh A)] at h;rw [if_pos A,S9,Sb d,UC (by simp only [BD,List.length_cons,List.length_nil];omega)];refine .inl ⟨(),?_,?_⟩
      ·rw [TN d (by omega),w,<- List.append_assoc];rfl
      ·rw [w,<- List.append_assoc];exact h
     ·rw [if_pos A] at h;rw [if_neg A]
      exact .inr ⟨_,rfl,.inr ⟨rfl,_,_,h.symm,rfl,rfl,rfl⟩⟩)
   rw [G,SL,SM];rcases j with ⟨j,g,x⟩ | ⟨j,k,e,g,x,q5,q6⟩
   ·rw [if_neg (show ¬ r.1=0 by omega),x,TN d (by omega)];rw [g] at h;exact .inl ⟨a++rs.map (·.1),rfl,h,by simp;omega⟩
   ·rw [if_pos j];rw [g] at h;refine .inr ⟨_,rfl,.inr ⟨rfl,?_,by rw [<- h];simp⟩⟩;rw [<- h]
    exact ⟨x,q5,q6⟩)
 refine Tf G ?_;rw [SM];rcases j with ⟨j,g⟩ | ⟨j,g,x⟩
 ·rw [if_neg (show ¬ r.1=0 by omega),g];exact p g
 ·rw [if_pos j];cases q:T with
  | none=>exact absurd q x
  | some t =>
   obtain ⟨i,k,e⟩:=t;rw [q] at g;rw [g.1,g.2.1,g.2.2]
def Ui (ls:List (List Te)):List Te:=ls.flatMap List.reverse
theorem VLev.small {L:TB} (v:VLev L):L.2.length<=1048576 /\ ∀ rs∈L.2,rs.length<=1048576 /\ ∀ r∈rs,r.2.length<=9223372036854775807:=by
 refine ⟨by have:=v.len;omega,λrs a => ?_⟩;obtain ⟨i,hi⟩:=List.getElem?_of_mem a;obtain ⟨d,b⟩:=v.lev i rs hi;exact ⟨by omega,λr c=>by have:=(b r c).vl.len;omega⟩
theorem ZR : ∀ (ls:List (List Te)),(∀ rs∈ls,rs.length<=2)->(Ui ls).length<=2*ls.length
 | [],_=>by simp [Ui]
 | rs::ls,h=>by
  have a:=ZR ls λr b=>h r (by simp [b]);have c:=h rs (by simp);unfold Ui at a ⊢;rw [List.flatMap_cons,List.length_append,List.length_reverse,List.length_cons];omega
theorem VLev.two {L:TB} (v:VLev L) : ∀ rs∈L.2,rs.length<=2:=λrs a=>by
 obtain ⟨i,hi⟩:=List.getElem?_of_mem a;exact (v.lev i rs hi).1
theorem cu {L:TB} (v:VLev L):V6 L=some (Ui L.2,0):=by
 obtain ⟨d,b⟩:=v.small;have f:=v.len;unfold V6;simp only [TI,TF];rw [bC _ d b,Ww v,SL,Ss,if_pos rfl]
 rw [U8 (l:=L.2) (σ:=List Te) (s:=(([]:List Te),(0:Int))) (λi m=>(m,(i:Int))) (λls i m=>(∀ rs∈ls,rs.length<=2)/\m.length<=2*i) (λls _ m=>(0,((m++Ui ls,(L.2.length:Int)),()))) [] rfl (by omega) ⟨v.two,by simp⟩ (λm _=>by
  simp only;rw [re,Rd];simp [Ui]) (λi rs ls m e a hi h=>by
   refine ⟨m++rs.reverse,?_,⟨λr b=>h.1 r (by simp [b]),by have:=h.1 rs (by simp);simp;omega⟩,by simp [Ui]⟩;have c:=h.1 rs (by simp);have g:m.length<=24:=by have:=h.2;omega
   simp only;rw [rl hi,R5,S9,Sb a];have gg : ∀ {β:Type} (z:List Te) (x:Te) (k:Unit->Option β),z.length<=100->gd (CD (BD z.length [x].length) 1048576) k=k ():=λz x k j=>UC (by simp only [BD,List.length_cons,List.length_nil];omega) k
   match rs,c,a with
   | [],_,a =>
    refine Tf (x:=(0,((m,-1),()))) (Uh (n:=1) (by omega) (Tp rfl)) ?_;rw [TN a (by omega)];simp
   | [r0],_,a =>
    refine Tf (x:=(0,((m++[r0],-1),()))) (Uh (n:=2) (by omega) ((Th (s':=(m++[r0],-1)) ?_).trans (Tp rfl))) ?_
    ·show br (RS (0:Int) 0) _ _=_;rw [So,if_pos (by omega),S9,Sb a];refine (V9 0 rfl (x:=r0) rfl).trans ?_;rw [gg m _ _ (by omega)];rfl
    ·rw [TN a (by omega)];simp
   | [r0,r1],_,a =>
    refine Tf (x:=(0,((m++[r1]++[r0],-1),()))) (Uh (n:=3) (by omega) ((Th (s':=(m++[r1],0)) ?_).trans ((Th (s':=(m++[r1]++[r0],-1)) ?_).trans (Tp rfl)))) ?_
    ·show br (RS (1:Int) 0) _ _=_;rw [So,if_pos (by omega),S9,Sb a];refine (V9 1 rfl (x:=r1) rfl).trans ?_;rw [gg m _ _ (by omega)];rfl
    ·show br (RS (0:Int) 0) _ _=_;rw [So,if_pos (by omega),S9,Sb a];refine (V9 0 rfl (x:=r0) rfl).trans ?_;rw [gg (m++[r1]) _ _ (by simp;omega)];rfl
    ·rw [TN a (by omega)];simp),SL]
 simp
theorem Wt (a b:Int):S0 a b=max a b:=by unfold S0;split<;>omega
theorem WM : ∀ (l:List Te) (m:Int),0<=m->l.foldl (λm r=>S0 m r.1) m=max m (l.foldl (λm r=>S0 m r.1) 0)
 | [],m,h=>by simp;omega
 | r::l,m,h=>by
  have a:=WM l (S0 m r.1) (by rw [Wt];omega);have b:=WM l (S0 0 r.1) (by rw [Wt];omega);simp only [List.foldl_cons];rw [a,b,Wt,Wt];omega
theorem aD (l:List Te) (m:Int) (h:0<=m):l.reverse.foldl (λm r=>S0 m r.1) m=l.foldl (λm r=>S0 m r.1) m:=by
 induction l generalizing m with
 | nil=>rfl
 | cons r l a =>
  rw [List.reverse_cons,List.foldl_append,a m h,List.foldl_cons];simp only [List.foldl_cons,List.foldl_nil];rw [WM l m h,WM l (S0 m r.1) (by rw [Wt];omega),Wt,Wt];omega
theorem am (l:List Te) (m:Int) (h:0<=m):0<=l.foldl (λm r=>S0 m r.1) m:=by
 rw [WM l m h];omega
theorem X9 : ∀ (ls:List (List Te)) (m:Int),0<=m->(Ui ls).foldl (λm r=>S0 m r.1) m=ls.foldl (λm rs=>rs.foldl (λm r=>S0 m r.1) m) m
 | [],m,_=>rfl
 | rs::ls,m,h=>by
  have a:=X9 ls (rs.foldl (λm r=>S0 m r.1) m) (am _ _ h);unfold Ui at a ⊢;rw [List.flatMap_cons,List.foldl_append,aD rs m h,List.foldl_cons,a]
theorem bB {L:TB} (v:VLev L):Ub L=some (WG L.2):=by
 have d:=v.len;have e:=ZR L.2 v.two;unfold Ub;simp only [TI,TF];rw [cu v,SL]
 rw [U8 (l:=Ui L.2) (σ:=Int) (s:=((0:Int),(0:Int))) (λi m=>(m,(i:Int))) (λ_ _ _=>True) (λl _ m=>(0,((l.foldl (λm r=>S0 m r.1) m,((Ui L.2).length:Int)),()))) 0 rfl (by omega) trivial (λm _=>by
  simp only;rw [re,Rd];rfl) (λk r l m c a b _=>⟨S0 m r.1,by
   simp only
   rw [rl b,R5,S9,Sb a,TN a (by omega)],trivial,rfl⟩),SL]
 rw [X9 _ _ (by omega)];rfl
theorem Zc {L:TB} (e:L.2.length<=1000):UE L=some (TH 0 L.2):=by
 unfold UE;simp only [TI,TF]
 rw [U8 (l:=L.2) (σ:=List Int) (s:=(([]:List Int),(0:Int))) (λi m=>(m,(i:Int))) (λls i m=>m++TH i ls=TH 0 L.2) (λ_ _ _=>(0,((TH 0 L.2,(L.2.length:Int)),()))) [] rfl (by omega) rfl (λm h=>by
  simp only;rw [re,Rd,<- h];simp [TH]) (λi rs ls m d b hi h=>by
   refine ⟨m++(if rs.length=2 then [(i:Int)] else []),?_,?_,rfl⟩
   ·simp only;rw [rl hi,R5,S9,Sb b,Sn]
    have f:m.length<=1000:=by
     have a:=congrArg List.length h;have c:=VX L.2 0;rw [List.length_append] at a;omega
    by_cases a:rs.length=2
    ·rw [if_pos (by omega),if_pos a,UC (by simp only [BD,List.length_cons,List.length_nil];omega),TN b (by omega)];rfl
    ·rw [if_neg (by omega),if_neg a,List.append_nil,TN b (by omega)]
   ·rw [List.append_assoc];exact h),SL]
theorem m8 {L:TB} (v:VLev L) (k:Int):XP (L,k)=some (if k<0\/k>=12 then 7 else 0):=by
 obtain ⟨c,d⟩:=v.small;unfold XP;rw [bC _ c d,Ww v,SL,Sn,if_pos rfl,Sr,So];by_cases a:k<0
 ·rw [if_pos a,if_pos (.inl a)]
 ·rw [if_neg a];by_cases b:k>=12
  ·rw [if_pos b,if_pos (.inr b)]
  ·rw [if_neg b,if_neg (by omega)]
theorem Z4 {L:TB} (v:VLev L) {n:Nat} (b:n<L.2.length):Tn (L,(n:Int))=some (decide ((n:Int)=(L.2.length:Int)-1)):=by
 have a:=v.len;unfold Tn W7;simp only [TI,TF];rw [m8 v,SL,if_neg (by omega),Ss,if_pos rfl,SL,TK (by omega)];unfold SU;rw [Ur];by_cases h:(n:Int)=(L.2.length:Int)-1
 ·simp [h]
 ·simp [h];omega
theorem cp {a b:List S8} (va:VL a) (d:VL b) (c:Bool):WT ([a,b],c)=some (U9 a b c 0,(0,0)):=by
 unfold WT W6 U2;rw [Yi va d,SL,Ss,if_pos rfl];refine Eq.trans (b:=bd (bd (U1 ([a,b],[((0:Nat):Int),((0:Nat):Int)])) _) _) rfl ?_;rw [X5 va d (Nat.zero_le _) (Nat.zero_le _)];rfl
theorem aX {L:TB} {n:Nat} {a b:Te} (c:Bool) (h:L.2[n]? = some [a,b]) (d:VL a.2) (e:VL b.2):TU (L,((n:Int),c))=some ((n:Int),U9 b.2 a.2 c 0):=by
 have f:=(List.getElem?_eq_some_iff.1 h).1;unfold TU;simp only [TI,TF];rw [So,if_neg (by omega),S9,Sb h,Sb (x:=b) rfl,Sb (x:=a) rfl,cp e d];rfl
theorem mN {L:TB} {n:Nat} {a b:Te} {j:Job} (h:L.2[n]? = some [a,b]) (e:VL a.2) (f:VL b.2) {β:Type} (A B:Option β) :
  (bd (TU (L,((n:Int),j.2.2.1.2.2))) λc=>bd (Ti c.2) λl=>br (SW j.2.2.2.2 0) (λ_=>A) λ_=>br (SU j.2.2.2.2 l.1) (λ_=>A) λ_=>bd (Tb (c.2,j.2.2.2.2)) λm=>bd (UA (m.1,j.2)) λo=>br (Hf o) (λ_=>A) λ_=>B)
  = if j.2.2.2.2<0\/j.2.2.2.2>((b.2.length+a.2.length:Nat):Int) then A else if U9 b.2 a.2 j.2.2.1.2.2 j.2.2.2.2.toNat=j.2 then B else A:=by
 rw [aX _ h e f,SL,Yj f e _ (Nat.zero_le _),SL,Sr,Sp,Nat.sub_zero];by_cases g:j.2.2.2.2<0
 ·rw [if_pos g,if_pos (.inl g)]
 rw [if_neg g];by_cases i:j.2.2.2.2>((b.2.length+a.2.length:Nat):Int)
 ·rw [if_pos i,if_pos (.inr i)]
 rw [if_neg i,if_neg (show ¬ (j.2.2.2.2<0\/j.2.2.2.2>((b.2.length+a.2.length:Nat):Int)) by omega)];obtain ⟨k,p⟩ : ∃ k:Nat,j.2.2.2.2=(k:Int):=⟨j.2.2.2.2.toNat,by omega⟩;rw [p,Z5 f e _ (Nat.zero_le _),SL,Nat.sub_zero,Nat.zero_add,Nat.min_eq_left (by omega),Int.toNat_natCast];obtain ⟨s1,s2,q,r,s,t⟩:=aG f e j.2.2.1.2.2 (n:=k) (by omega);rw [cr _ _ s1 s2 q r s t,SL,Ur,Uw];by_cases d:U9 b.2 a.2 j.2.2.1.2.2 k=j.2
 ·rw [if_neg (by simp [d]),if_pos d]
 ·rw [if_pos d,if_neg d]
end
section
open Go Go.Proofs.YtfilfloanndddaaGreat.Sv
theorem cC (s:TA) (J:s.1.2.length<=1048576) (hr : ∀ rs∈s.1.2,rs.length<=1048576 /\ ∀ r∈rs,r.2.length<=9223372036854775807) (hj:s.2.1.length<=1048576):VT s=some (TD s):=by
 unfold VT TD;simp only [TI,TF];rw [bC _ J hr,SL,Sn];by_cases o:(Vv s.1).2.2=0;rotate_left
 ·rw [if_neg o,if_pos o,Sn,if_neg o,Ss,if_neg o]
 rw [if_pos o,if_neg (show ¬ (Vv s.1).2.2≠0 by simp [o]),Sr,Sp];have v:=XZ.1 o;by_cases y:s.2.2<1
 ·rw [if_pos y,if_pos (.inl y)]
 rw [if_neg y];by_cases p:s.2.2>1000001
 ·rw [if_pos p,if_pos (.inr p)]
 rw [if_neg p,if_neg (show ¬ (s.2.2<1\/s.2.2>1000001) by omega),Sn,if_pos o,bB v,SL,Sq];by_cases m:s.2.2<=WG s.1.2
 ·rw [if_pos m,if_pos m]
 rw [if_neg m,if_neg m,Ss,if_pos o,Zc (by have:=v.len;omega),SL];obtain ⟨a,g⟩ : ∃ a,a=TH 0 s.1.2:=⟨_,rfl⟩;have hdl:a.length<=12:=by have:=VX s.1.2 0;have:=v.len;rw [g];omega
 rw [<- g];obtain ⟨T,Z⟩ : ∃ T,T=WY s.1 a 0 s.2.1:=⟨_,rfl⟩;rw [<- Z]
 obtain ⟨r,q1,D⟩:=WZ (l:=s.2.1) (σ:=Unit) (λi _=>((0:Int),((0:Int),(i:Int)))) (λjs i _=>WY s.1 a i js=T) (λ(r:Nat×((Int×(Int×Int))×Unit))=>(T=none/\r.1=1)\/(∃ i:Nat,T=some i/\r.1=0/\r.2.1.1=6/\r.2.1.2.1=(i:Int)))
  (f:=λb=>br (SW b.2.2 (s.2.1.length:Int)) (λ_=>RX b.2.2 λk7=>ix s.2.1 k7 λe=>br (RS b.2.2 (a.length:Int)) (λ_=>some (.dn ((0,((6,(b.2.2,b.2.2)),()))))) λ_=>RX b.2.2 λk9=>ix a k9 λX=>br (RT e.1 X) (λ_=>some (.dn ((0,((6,(b.2.2,b.2.2)),()))))) λ_=>br e.2.2.1.2.2 (λ_=>bd (Tn (s.1,e.1)) λM=>br (Hf M) (λ_=>some (.dn ((0,((6,(b.2.2,b.2.2)),()))))) λ_=>bd (TU ((s.1,(e.1,e.2.2.1.2.2)))) λG=>bd (Ti G.2) λN=>br (SW e.2.2.2.2 0) (λ_=>some (.dn ((0,((6,(b.2.2,b.2.2)),()))))) λ_=>br (SU e.2.2.2.2 N.1) (λ_=>some (.dn ((0,((6,(b.2.2,b.2.2)),()))))) λ_=>bd (Tb (G.2,e.2.2.2.2)) λO=>bd (UA (O.1,e.2)) λP=>br (Hf P) (λ_=>some (.dn ((0,((6,(b.2.2,b.2.2)),()))))) λ_=>some (.nx ((b.1,(b.2.1,Rl .i64 b.2.2 1))))) λ_=>bd (TU ((s.1,(e.1,e.2.2.1.2.2)))) λI=>bd (Ti I.2) λS=>br (SW e.2.2.2.2 0) (λ_=>some (.dn ((0,((6,(b.2.2,b.2.2)),()))))) λ_=>br (SU e.2.2.2.2 S.1) (λ_=>some (.dn ((0,((6,(b.2.2,b.2.2)),()))))) λ_=>bd (Tb (I.2,e.2.2.2.2)) λU=>bd (UA (U.1,e.2)) λW=>br (Hf W) (λ_=>some (.dn ((0,((6,(b.2.2,b.2.2)),()))))) λ_=>some (.nx ((b.1,(b.2.1,Rl .i64 b.2.2 1))))) λ_=>some (.dn ((1,(b,())))))
  (s:=(0,(0,0))) () rfl (by omega) Z.symm (λ_ h=>by
   refine ⟨_,by simp only;rw [re];rfl,.inl ⟨by rw [<- h];rfl,rfl⟩⟩) (λi j js _ hd hx hi h=>by
   simp only;rw [rl hi,R5,S9,Sb hx,So];unfold WY at h
   have c:YS s.1 a i j=true -> ∃ r:Nat×((Int×(Int×Int))×Unit),(some (LR.dn ((0,((6,((i:Int),(i:Int))),()))):LR (Int×(Int×Int)) _))=some (.dn r)/\((T=none/\r.1=1)\/(∃ i:Nat,T=some i/\r.1=0/\r.2.1.1=6/\r.2.1.2.1=(i:Int))):=λJ=>by
    rw [if_pos J] at h;exact ⟨_,rfl,.inr ⟨i,h.symm,rfl,rfl,rfl⟩⟩
   have x:YS s.1 a i j=false -> ∃ st':Unit,(some (LR.nx ((0:Int),((0:Int),Rl .i64 (i:Int) 1))):Option (LR _ (Nat×((Int×(Int×Int))×Unit))))=some (.nx ((0:Int),((0:Int),((i+1:Nat):Int))))/\WY s.1 a (i+1) js=T:=λhg=>by
    rw [if_neg (by simp [hg])] at h;exact ⟨(),by rw [TN hx (by omega)],h⟩
   by_cases y:(i:Int)>=(a.length:Int)
   ·rw [if_pos y];exact .inr (c (by unfold YS;rw [List.getElem?_eq_none (by omega)]))
   rw [if_neg y,S9];have w:a[i]? = some (a[i]'(by omega)):=by simp
   rw [Sb w,Ss];obtain ⟨n,K,E,F,t⟩:=XL (ls:=s.1.2) (i:=0) (k:=i) (d:=a[i]'(by omega)) (by rw [<- g];exact w);rw [Nat.zero_add] at K
   have q:YS s.1 a i j=(if j.1≠(a[i]'(by omega)) then true else if j.2.2.1.2.2=true/\j.1≠(s.1.2.length:Int)-1 then true else if j.2.2.2.2<0\/j.2.2.2.2>((F.2.length+E.2.length:Nat):Int) then true else decide (U9 F.2 E.2 j.2.2.1.2.2 j.2.2.2.2.toNat≠j.2)):=by
    unfold YS;rw [w];simp only;rw [K,Int.toNat_natCast,t]
   by_cases p:j.1=(a[i]'(by omega));rotate_left
   ·rw [if_neg p];exact .inr (c (by rw [q,if_pos p]))
   rw [if_pos p];rw [if_neg (by simp [p])] at q;have C:j.1=(n:Int):=by rw [p,K]
   have hv:=(v.lev n _ t).2;have v0:=(hv E (by simp)).vl;have v1:=(hv F (by simp)).vl;have L:=(List.getElem?_eq_some_iff.1 t).1;rw [C,Z4 v L,SL,Ur,Uw,mN t v0 v1,Sx];rw [C] at q;by_cases m:j.2.2.1.2.2=true/\(n:Int)≠(s.1.2.length:Int)-1
   ·rw [if_pos m.1,if_pos m.2];exact .inr (c (by rw [q,if_pos m]))
   rw [if_neg m] at q
   have h4 : ∀ {γ:Type} (A B:γ),(if j.2.2.1.2.2=true then if ¬(n:Int)=(s.1.2.length:Int)-1 then A else B else B)=B:=by
    intro γ A B;by_cases u:j.2.2.1.2.2=true
    ·rw [if_pos u,if_neg (λz=>m ⟨u,z⟩)]
    ·rw [if_neg u]
   rw [h4];by_cases u:j.2.2.2.2<0\/j.2.2.2.2>((F.2.length+E.2.length:Nat):Int)
   ·rw [if_pos u];exact .inr (c (by rw [q,if_pos u]))
   rw [if_neg u];rw [if_neg u] at q;by_cases z:U9 F.2 E.2 j.2.2.1.2.2 j.2.2.2.2.toNat=j.2
   ·rw [if_pos z];exact .inl (x (by rw [q];simp [z]))
   ·rw [if_neg z]
    exact .inr (c (by rw [q];simp [z])))
 refine Tf q1 ?_;rw [SM];rcases D with ⟨D,q3⟩ | ⟨i,D,q3,q4,q5⟩
 ·rw [if_neg (show ¬ r.1=0 by omega),D,Sr];simp only;by_cases Y:s.2.1.length<a.length
  ·rw [if_pos (by omega),if_pos Y]
  ·rw [if_neg (by omega),if_neg Y]
 ·rw [if_pos q3,D,q4,q5]
end
section
open Go Go.Proofs.YtfilfloanndddaaGreat.Sv
def JobAt (L:TB) (n:Nat) (j:Job):Prop := ∃ a b c k,L.2[n]? = some [a,b]/\j=((n:Int),U9 b.2 a.2 c k)/\k<=b.2.length+a.2.length/\(c=true->n+1=L.2.length)/\VL a.2/\VL b.2
structure VSt (s:TA):Prop where
 lev:VLev s.1
 n1:1<=s.2.2
 n2:s.2.2<=1000001
 n3:WG s.1.2<s.2.2
 due:s.2.1.map (·.1)=TH 0 s.1.2
 job : ∀ j∈s.2.1,∃ n,JobAt s.1 n j
theorem Zf (a b:List S8) (c:Bool) (k:Nat):(U9 a b c k).2.1.2.2=c:=by
 show (Uc (s0 c) (TX a b k)).2.2=c;rw [Wv]
theorem Zo {L:TB} (v:VLev L) {i:Nat} {j:Job}:YS L (TH 0 L.2) i j=false <-> ∃ n,(TH 0 L.2)[i]? = some j.1/\JobAt L n j:=by
 constructor
 ·intro h;unfold YS at h;cases c:(TH 0 L.2)[i]? with
  | none=>rw [c] at h;cases h
  | some d =>
   rw [c] at h;simp only at h;by_cases f:j.1=d;rotate_left
   ·rw [if_pos f] at h;cases h
   rw [if_neg (by simp [f])] at h;by_cases g:j.2.2.1.2.2=true/\j.1≠(L.2.length:Int)-1
   ·rw [if_pos g] at h;cases h
   rw [if_neg g] at h;obtain ⟨n,m,a,b,e⟩:=XL c;rw [Nat.zero_add] at m;rw [m,Int.toNat_natCast,e] at h;simp only at h;by_cases p:j.2.2.2.2<0\/j.2.2.2.2>((b.2.length+a.2.length:Nat):Int)
   ·rw [if_pos p] at h;cases h
   rw [if_neg p] at h;have s:U9 b.2 a.2 j.2.2.1.2.2 j.2.2.2.2.toNat=j.2:=by simpa using h
   have r:=(v.lev n _ e).2;refine ⟨n,by rw [f],a,b,j.2.2.1.2.2,j.2.2.2.2.toNat,e,Prod.ext (by rw [f,m]) s.symm,by omega,λl => ?_,(r a (by simp)).vl,(r b (by simp)).vl⟩
   have t:j.1=(L.2.length:Int)-1:=by
    by_cases q:j.1=(L.2.length:Int)-1
    ·exact q
    ·exact absurd ⟨l,q⟩ g
   omega
 ·rintro ⟨n,c,a,b,o,k,e,rfl,u,l,w,x⟩;unfold YS;rw [c];simp only;rw [if_neg (by simp),Zf,if_neg (λh:o=true/\(n:Int)≠(L.2.length:Int)-1=>h.2 (by have:=l h.1;omega)),Int.toNat_natCast,e];simp only;rw [show (U9 b.2 a.2 o k).2.2.2=(k:Int) from rfl,if_neg (by omega),Int.toNat_natCast];simp
theorem YF {L:TB} {a:List Int} : ∀ {js:List Job} {i:Nat},WY L a i js=none <-> ∀ k j,js[k]? = some j->YS L a (i+k) j=false
 | [],i=>by simp [WY]
 | j::js,i=>by
  unfold WY;by_cases h:YS L a i j=true
  ·rw [if_pos h];simp only [reduceCtorEq,false_iff];intro b;have:=b 0 j rfl;rw [Nat.add_zero,h] at this;cases this
  ·rw [if_neg h,YF (js:=js)];constructor
   ·intro b k j' c;cases k with
    | zero=>cases c;simpa using h
    | succ k=>rw [show i+(k+1)=i+1+k by omega];exact b k j' c
   ·intro b k j' c;rw [show i+1+k=i+(k+1) by omega];exact b (k+1) j' c
theorem TJ {s:TA}:(TD s).2=0<->VSt s:=by
 unfold TD;constructor
 ·intro h;by_cases d:(Vv s.1).2.2≠0
  ·rw [if_pos d] at h;exact absurd h d
  rw [if_neg d] at h;have v:=XZ.1 (Decidable.not_not.1 d);by_cases f:s.2.2<1\/s.2.2>1000001
  ·rw [if_pos f] at h;cases h
  rw [if_neg f] at h;by_cases g:s.2.2<=WG s.1.2
  ·rw [if_pos g] at h;cases h
  rw [if_neg g] at h;cases b:WY s.1 (TH 0 s.1.2) 0 s.2.1 with
  | some i=>rw [b] at h;cases h
  | none =>
   rw [b] at h;simp only at h;by_cases l:s.2.1.length<(TH 0 s.1.2).length
   ·rw [if_pos l] at h;cases h
   have m:=YF.1 b
   have c : ∀ k j,s.2.1[k]? = some j -> ∃ n,(TH 0 s.1.2)[k]? = some j.1/\JobAt s.1 n j:=λk j a=>by
    have:=m k j a;rw [Nat.zero_add] at this;exact (Zo v).1 this
   refine ⟨v,by omega,by omega,by omega,?_,λj o => ?_⟩
   ·apply List.ext_getElem?;intro k;rw [List.getElem?_map];cases a:s.2.1[k]? with
    | some j=>obtain ⟨n,e,_⟩:=c k j a;rw [e];rfl
    | none =>
     have:=List.getElem?_eq_none_iff.1 a;rw [List.getElem?_eq_none (by omega)];rfl
   ·obtain ⟨k,a⟩:=List.getElem?_of_mem o;obtain ⟨n,_,h⟩:=c k j a;exact ⟨n,h⟩
 ·intro v;rw [if_neg (by simp [XZ.2 v.lev]),if_neg (by have:=v.n1;have:=v.n2;omega),if_neg (by have:=v.n3;omega)]
  have b:WY s.1 (TH 0 s.1.2) 0 s.2.1=none:=YF.2 λk j a=>by
   rw [Nat.zero_add];obtain ⟨n,p⟩:=v.job j (List.mem_of_getElem? a);exact (Zo v.lev).2 ⟨n,by rw [<- v.due,List.getElem?_map,a];rfl,p⟩
  rw [b];simp only;rw [if_neg (by rw [<- v.due];simp)]
structure Sm (s:TA):Prop where
 lv:s.1.2.length<=1048576
 rs : ∀ rs∈s.1.2,rs.length<=1048576 /\ ∀ r∈rs,r.2.length<=9223372036854775807
 js:s.2.1.length<=1048576
theorem nQ {s:TA} (m:Sm s):UV s=some (TD s):=cb s m.lv m.rs m.js
theorem oc {s:TA} (m:Sm s):VT s=some (TD s):=cC s m.lv m.rs m.js
theorem VSt.jlen {s:TA} (v:VSt s):s.2.1.length=(TH 0 s.1.2).length:=by rw [<- v.due];simp
theorem VSt.jsmall {s:TA} (v:VSt s):s.2.1.length<=12:=by
 have:=v.jlen;have:=VX s.1.2 0;have:=v.lev.len;omega
theorem VSt.sm {s:TA} (v:VSt s):Sm s:=⟨v.lev.small.1,v.lev.small.2,by have:=v.jsmall;omega⟩
def Yd (x:Int):Nat->List Int->Option Nat
 | _,[]=>none
 | k,y::l=>if y=x then some k else Yd x (k+1) l
theorem ak {x:Int} : ∀ {l:List Int} {k i:Nat},Yd x k l=some i->k<=i/\l[i-k]? = some x
 | [],_,_,h=>by cases h
 | y::l,k,i,h=>by
  unfold Yd at h;by_cases e:y=x
  ·rw [if_pos e] at h;cases h;simp [e]
  ·rw [if_neg e] at h;obtain ⟨b,a⟩:=ak h;exact ⟨by omega,by rw [show i-k=(i-(k+1))+1 by omega];simpa using a⟩
theorem al {x:Int} : ∀ {l:List Int} {k:Nat},x∈l -> ∃ i,Yd x k l=some i
 | [],_,h=>by cases h
 | y::l,k,h=>by
  unfold Yd;by_cases e:y=x
  ·rw [if_pos e];exact ⟨k,rfl⟩
  ·rw [if_neg e];exact al (by rcases List.mem_cons.1 h with h | h;exact absurd h.symm e;exact h)
def Vz (s:TA) (a:Int):Int×Int:=if (TD s).2≠0 then (0,(TD s).2) else match Yd a 0 (TH 0 s.1.2) with
 | some i=>((i:Int),0)
 | none=>(0,4)
theorem ZZ {s:TA} (m:Sm s) (a:Int):Uy (s,a)=some (Vz s a):=by
 unfold Uy Vz;simp only [TI,TF];rw [nQ m,SL,Ss];by_cases b:(TD s).2=0;rotate_left
 ·rw [if_neg b,if_pos b]
 rw [if_pos b,if_neg (show ¬ (TD s).2≠0 by simp [b])];have v:=TJ.1 b;have x:=v.jsmall;rw [<- v.due];obtain ⟨T,g⟩ : ∃ T,T=Yd a 0 (s.2.1.map (·.1)):=⟨_,rfl⟩;rw [<- g]
 obtain ⟨r,q,c⟩:=WZ (l:=s.2.1) (σ:=Unit) (s:=((0:Int),(0:Int))) (λk _=>((0:Int),(k:Int))) (λjs k _=>Yd a k (js.map (·.1))=T) (λ(r:Nat×((Int×Int)×Unit))=>(r.1=1/\T=none)\/(r.1=0 /\ ∃ i:Nat,T=some i/\r.2.1.1=(i:Int)))
  (f:=λs1=>br (SW s1.2 (s.2.1.length:Int)) (λ_=>RX s1.2 λp=>ix s.2.1 p λu=>br (RR u.1 a) (λ_=>some (.dn ((0,((s1.2,s1.2),()))))) λ_=>some (.nx (s1.1,Rl .i64 s1.2 1))) λ_=>some (.dn ((1,(s1,())))))
  () rfl (by omega) g.symm (λ_ h=>⟨_,by simp only;rw [re];rfl,.inl ⟨rfl,by rw [<- h];rfl⟩⟩) (λk j js _ w n o h=>by
   simp only;rw [rl o,R5,S9,Sb n,Sn];unfold Yd at h;simp only [List.map_cons] at h;by_cases e:j.1=a
   ·rw [if_pos e];rw [if_pos e] at h;exact .inr ⟨_,rfl,.inr ⟨rfl,k,h.symm,rfl⟩⟩
   ·rw [if_neg e];rw [if_neg e] at h
    exact .inl ⟨(),by rw [TN n (by omega)],h⟩)
 refine Tf q ?_;rw [SM];rcases c with ⟨c,d⟩ | ⟨c,i,d,t⟩
 ·rw [if_neg (show ¬ r.1=0 by omega),d];rfl
 ·rw [if_pos c,d,t,Sr,if_neg (by omega)]
theorem cD {s:TA} (m:Sm s):VB s=some (if (TD s).2≠0 then ([],(TD s).2) else (TH 0 s.1.2,0)):=by
 unfold VB;rw [oc m,SL,Ss];by_cases a:(TD s).2=0
 ·rw [if_pos a,if_neg (show ¬ (TD s).2≠0 by simp [a]),Zc (by have:=(TJ.1 a).lev.len;omega),SL]
 ·rw [if_neg a,if_pos a]
theorem YJ {s:TA} (m:Sm s) (a:Int):UJ (s,a)=some (Vz s a):=by
 unfold UJ Vz;simp only [TI,TF];rw [cD m,SL,Ss];by_cases c:(TD s).2=0;rotate_left
 ·rw [if_pos c,if_neg c,if_pos c]
 rw [if_neg (show ¬ (TD s).2≠0 by simp [c]),if_pos rfl,if_neg (show ¬ (TD s).2≠0 by simp [c])];have v:=TJ.1 c;have A:=v.jsmall;have p:=v.jlen;obtain ⟨b,d⟩ : ∃ b,b=TH 0 s.1.2:=⟨_,rfl⟩;rw [<- d] at p ⊢;obtain ⟨T,o⟩ : ∃ T,T=Yd a 0 b:=⟨_,rfl⟩;rw [<- o];simp only
 obtain ⟨r,w,g⟩:=WZ (l:=b) (σ:=Unit) (s:=((0:Int),((0:Int),(0:Int)))) (λk _=>((0:Int),((0:Int),(k:Int)))) (λjs k _=>Yd a k js=T) (λ(r:Nat×((Int×(Int×Int))×Unit))=>(r.1=1/\T=none)\/(r.1=0 /\ ∃ i:Nat,T=some i/\r.2.1.2.1=(i:Int)/\r.2.1.1=0))
  (f:=λs1=>br (SW s1.2.2 (b.length:Int)) (λ_=>RX s1.2.2 λu=>ix b u λz=>br (RR z a) (λ_=>some (.dn ((0,((0,(s1.2.2,s1.2.2)),()))))) λ_=>some (.nx ((s1.1,(s1.2.1,Rl .i64 s1.2.2 1))))) λ_=>some (.dn ((1,(s1,())))))
  () rfl (by omega) o.symm (λ_ h=>⟨_,by simp only;rw [re];rfl,.inl ⟨rfl,by rw [<- h];rfl⟩⟩) (λk j js _ p q t h=>by
   simp only;rw [rl t,R5,S9,Sb q,Sn];unfold Yd at h;by_cases e:j=a
   ·rw [if_pos e];rw [if_pos e] at h;exact .inr ⟨_,rfl,.inr ⟨rfl,k,h.symm,rfl,rfl⟩⟩
   ·rw [if_neg e];rw [if_neg e] at h
    exact .inl ⟨(),by rw [TN q (by omega)],h⟩)
 refine Tf w ?_;rw [SM];rcases g with ⟨g,n⟩ | ⟨g,i,n,x,y⟩
 ·rw [if_neg (show ¬ r.1=0 by omega),n]
 ·rw [if_pos g,n,x,y]
end
section
open Go Go.Proofs.YtfilfloanndddaaGreat.Sv
def TM (L:TB) (j:Job):Nat:=match L.2[j.1.toNat]? with
 | some [r0,r1]=>r1.2.length+r0.2.length-j.2.2.2.2.toNat
 | _=>0
def Vh (L:TB) (j:Job):Bool:=decide ((j.2.2.2.1.length:Int)<=UX L.1 j.1.toNat)
def YX (L:TB) (n:Nat):Bool:=decide (n<12/\((L.2[n]?).getD []).length<2)
def Vs (L:TB) (j:Job):Bool:=decide (0<TM L j)||(Vh L j||YX L (j.1.toNat+1))
def ZW (s:TA) (a:Int):Option Job:=match Yd a 0 (TH 0 s.1.2) with
 | some i=>s.2.1[i]?
 | none=>none
theorem VSt.at {s:TA} (v:VSt s) {a:Int} {i:Nat} (h:Yd a 0 (TH 0 s.1.2)=some i) : ∃ (j:Job) (n:Nat),s.2.1[i]? = some j/\a=(n:Int)/\j.1=(n:Int)/\JobAt s.1 n j/\n<s.1.2.length:=by
 obtain ⟨_,b⟩:=ak h;rw [Nat.sub_zero] at b;rw [<- v.due,List.getElem?_map] at b;cases c:s.2.1[i]? with
 | none=>rw [c] at b;cases b
 | some j =>
  rw [c] at b;simp only [Option.map_some,Option.some.injEq] at b;obtain ⟨n,g⟩:=v.job j (List.mem_of_getElem? c);have d:=g;obtain ⟨o,p,m,k,l,e,_⟩:=g;have f:j.1=(n:Int):=by rw [e]
  exact ⟨j,n,rfl,by rw [<- b,f],f,d,(List.getElem?_eq_some_iff.1 l).1⟩
theorem JobAt.left {L:TB} {n:Nat} {j:Job} (h:JobAt L n j):Tx j.2=some ((TM L j:Int),0)/\Ti j.2=some ((TM L j:Int),0)/\TM L j<=10000:=by
 obtain ⟨b,c,a,k,i,rfl,g,_,d,f⟩:=h;have l:=d.len;have m:=f.len
 have e:TM L ((n:Int),U9 c.2 b.2 a k)=c.2.length+b.2.length-k:=by
  unfold TM;simp only [Int.toNat_natCast,i];show c.2.length+b.2.length-((k:Int)).toNat=_;rw [Int.toNat_natCast]
 rw [e];exact ⟨ZO f d a g,Yj f d a g,by omega⟩
theorem eh {L:TB} (v:VLev L) {n:Nat} (c:n<12):WO (L.1,(n:Int))=some (UX L.1 n,0):=by
 have a:=v.B1;have b:=v.B2;unfold WO;rw [Sr,if_neg (by omega),Sp,if_neg (by omega),Sr,if_neg (by omega),So,if_neg (by omega),ZG a b (by omega)];have:RS (n:Int) 0=true:=by unfold RS;simp
 rw [this];rfl
theorem gf {L:TB} (v:VLev L) {n:Nat} (c:n<12):Xx (L.1,(n:Int))=some (UX L.1 n,0):=by
 have a:=v.B1;have b:=v.B2;unfold Xx;rw [Sr,if_neg (by omega),Sp,if_neg (by omega),Sr,if_neg (by omega),So,if_neg (by omega),cG a b (by omega),SL]
theorem aw {L:TB} (v:VLev L) (k:Int):V2 (L,k)=some (if k<0\/k>=12 then 7 else 0):=by
 obtain ⟨c,d⟩:=v.small;unfold V2;rw [Yf _ c d,Ww v,SL,Ss,if_pos rfl,Sr,So];by_cases a:k<0
 ·rw [if_pos a,if_pos (.inl a)]
 ·rw [if_neg a];by_cases b:k>=12
  ·rw [if_pos b,if_pos (.inr b)]
  ·rw [if_neg b,if_neg (by omega)]
theorem gO (l:List Te):SW (l.length:Int) 2=decide (l.length<2):=by
 unfold SW;rw [decide_eq_decide];omega
theorem ef {L:TB} (v:VLev L) {n:Nat} (d:n<=12):WN (L,(n:Int))=some (YX L n,if n>=12 then 7 else 0):=by
 unfold WN YX;simp only [TI,TF];rw [aw v,SL,Ss];by_cases h:n>=12
 ·rw [if_pos (show (n:Int)<0\/(n:Int)>=12 by omega),if_neg (by decide),if_pos h];simp;omega
 ·rw [if_neg (show ¬ ((n:Int)<0\/(n:Int)>=12) by omega),if_pos rfl,if_neg h,Sr];have a:n<12:=by omega
  by_cases c:n<L.2.length
  ·have b:L.2[n]? = some (L.2[n]'c):=by simp
   rw [if_pos (by omega),S9,Sb b,b,gO,Option.getD_some];simp [a]
  ·rw [if_neg (by omega),List.getElem?_eq_none (by omega)];simp [a]
theorem gq {s:TA} (v:VLev s.1) {n:Nat} (c:n<12):X2 (s,(n:Int))=some (YX s.1 (n+1)):=by
 unfold X2 YX;simp only [TI,TF];rw [TK (by omega),Sr];by_cases h:n+1<12
 ·rw [if_pos (by omega),So];by_cases b:n+1<s.1.2.length
  ·have a:s.1.2[n+1]? = some (s.1.2[n+1]'b):=by simp
   rw [if_neg (by omega),S9,Sb a,a,gO,Option.getD_some];simp [h]
  ·rw [if_pos (by omega),List.getElem?_eq_none (by omega)];simp [h]
 ·rw [if_neg (by omega)];simp;omega
abbrev oi:=TA×(Job×Int)
theorem aA {s:TA} (v:VLev s.1) {n:Nat} {j:Job} (a:j.1=(n:Int)) (b:n<12) (l:Int):Tk (s,(j,l))=some (Vh s.1 j):=by
 unfold Tk Vh;simp only [TI,TF];rw [a,eh v b,SL,Sn,if_pos rfl,Int.toNat_natCast];rfl
theorem aY {s:TA} (v:VLev s.1) {n:Nat} {j:Job} (a:j.1=(n:Int)) (b:n<12):WV (s,j)=some (Vh s.1 j):=by
 unfold WV Vh;simp only [TI,TF];rw [a,gf v b,SL,Int.toNat_natCast];rfl
theorem gm {s:TA} (v:VLev s.1) {n:Nat} {j:Job} (a:j.1=(n:Int)) (b:n<12) (l:Int):Ul (s,(j,l))=some (YX s.1 (n+1)):=by
 unfold Ul;simp only;rw [a,TK (by omega),ef v (by omega),SL,Sn];by_cases h:n+1>=12
 ·rw [if_pos h,if_neg (show ¬ (7:Int)=0 by decide)];unfold YX;simp;omega
 ·rw [if_neg h,if_pos rfl]
theorem ah {s:TA} (v:VLev s.1) {n:Nat} {j:Job} (a:j.1=(n:Int)) (b:n<12) (l:Nat) (d:l=TM s.1 j):Tz (s,(j,(l:Int)))=some (Vs s.1 j):=by
 have c:Ta (s,(j,(l:Int)))=some (decide (0<TM s.1 j)):=by
  unfold Ta SU;rw [d];simp
 have e1:=aA v a b (l:Int);have e2:=gm v a b (l:Int);unfold Tz Vs;rw [c,e1,e2,a,Int.toNat_natCast];simp only [SL];cases e:decide (0<TM s.1 j) with
 | true=>exact Tf (x:=(0,((0,true),()))) (Uh (n:=1) (by omega) (Tp rfl)) rfl
 | false =>
  cases f:Vh s.1 j with
  | true=>exact Tf (x:=(0,((1,true),()))) (Uh (n:=2) (by omega) ((Th (s':=(1,false)) rfl).trans (Tp rfl))) rfl
  | false =>
   cases g:YX s.1 (n+1) with
   | true=>exact Tf (x:=(0,((2,true),()))) (Uh (n:=3) (by omega) ((Th (s':=(1,false)) rfl).trans ((Th (s':=(2,false)) rfl).trans (Tp rfl)))) rfl
   | false=>exact Tf (x:=(1,((3,false),()))) (Uh (n:=4) (by omega) ((Th (s':=(1,false)) rfl).trans ((Th (s':=(2,false)) rfl).trans ((Th (s':=(3,false)) rfl).trans (Tp rfl))))) rfl
end
section
open Go Go.Proofs.YtfilfloanndddaaGreat.Sv
def WJ {α:Type} (z:α) (f:TA->Job->α×Int) (s:TA) (a:Int):α×Int:=if (TD s).2≠0 then (z,(TD s).2) else match ZW s a with
 | some j=>f s j
 | none=>(z,4)
def z0:oi:=(((0,[]),([],0)),((0,(([],([],([],([],0)))),((false,([],false)),([],0)))),0))
theorem bK {s:TA} (m:Sm s) (a:Int):Ud (s,a)=some (WJ z0 (λs j=>((s,(j,(TM s.1 j:Int))),0)) s a):=by
 unfold Ud;rw [ZZ m,SL];unfold WJ ZW Vz;by_cases b:(TD s).2=0;rotate_left
 ·rw [if_pos b,Ss,if_neg b,if_pos b];rfl
 rw [if_neg (show ¬ (TD s).2≠0 by simp [b]),if_neg (show ¬ (TD s).2≠0 by simp [b])];have v:=TJ.1 b;cases e:Yd a 0 (TH 0 s.1.2) with
 | none=>rfl
 | some i =>
  obtain ⟨j,n,c,g,f,d,h⟩:=v.at e;simp only;rw [Ss,if_pos rfl,S9,Sb c,c,(JobAt.left d).1,SL]
theorem mo {s:TA} (m:Sm s) (a:Int):W5 (s,a)=some (WJ false (λs j=>(Vs s.1 j,0)) s a):=by
 unfold W5;rw [bK m,SL];unfold WJ;by_cases b:(TD s).2=0;rotate_left
 ·rw [if_pos b,Ss,if_neg b,if_pos b]
 rw [if_neg (show ¬ (TD s).2≠0 by simp [b]),if_neg (show ¬ (TD s).2≠0 by simp [b])];have v:=TJ.1 b;unfold ZW;cases d:Yd a 0 (TH 0 s.1.2) with
 | none=>rfl
 | some i =>
  obtain ⟨j,n,e,g,c,f,h⟩:=v.at d;have:=v.lev.len;simp only [e];rw [Ss,if_pos rfl,ah v.lev c (by omega) _ rfl,SL]
theorem Xr {s:TA} (m:Sm s) (a:Int):UW (s,a)=some (WJ 0 (λs j=>((TM s.1 j:Int),0)) s a):=by
 unfold UW;rw [YJ m,SL];unfold WJ ZW Vz;by_cases b:(TD s).2=0;rotate_left
 ·rw [if_pos b,Ss,if_neg b,if_pos b]
 rw [if_neg (show ¬ (TD s).2≠0 by simp [b]),if_neg (show ¬ (TD s).2≠0 by simp [b])];have v:=TJ.1 b;cases e:Yd a 0 (TH 0 s.1.2) with
 | none=>rfl
 | some i =>
  obtain ⟨j,n,c,g,f,d,h⟩:=v.at e;simp only [c];rw [Ss,if_pos rfl,S9,Sb c,(JobAt.left d).2.1,SL]
theorem bA {s:TA} (m:Sm s) (a:Int):Wd (s,a)=some (WJ false (λs j=>(Vs s.1 j,0)) s a):=by
 unfold Wd;rw [Xr m,SL,YJ m,SL];unfold WJ;by_cases b:(TD s).2=0;rotate_left
 ·rw [if_pos b,Ss,if_neg b,if_pos b]
 rw [if_neg (show ¬ (TD s).2≠0 by simp [b]),if_neg (show ¬ (TD s).2≠0 by simp [b])];have v:=TJ.1 b;unfold ZW Vz;cases f:Yd a 0 (TH 0 s.1.2) with
 | none=>rfl
 | some i =>
  obtain ⟨j,n,e,g,c,h,k⟩:=v.at f;have:=v.lev.len;rw [if_neg (show ¬ (TD s).2≠0 by simp [b])];simp only [e];rw [Ss,if_pos rfl,Sp,S9,Sb e,aY v.lev c (by omega),SL,g,gq v.lev (by omega),SL];unfold Vs;rw [c,Int.toNat_natCast];by_cases d:0<TM s.1 j
  ·rw [if_pos (by omega)];simp [d]
  ·rw [if_neg (by omega)];cases Vh s.1 j<;>simp [d,R5,Rd]
def Y9 (s:TA) (j:Job):Int×Int:=if 0<TM s.1 j then (0,9) else if Vh s.1 j=true then (j.1,0) else (j.1+1,0)
theorem nO {s:TA} (m:Sm s) (a:Int):Xi (s,a)=some (WJ 0 Y9 s a):=by
 unfold Xi;rw [bK m,SL];unfold WJ;by_cases b:(TD s).2=0;rotate_left
 ·rw [if_pos b,Ss,if_neg b,if_pos b]
 rw [if_neg (show ¬ (TD s).2≠0 by simp [b]),if_neg (show ¬ (TD s).2≠0 by simp [b])];have v:=TJ.1 b;unfold ZW;cases f:Yd a 0 (TH 0 s.1.2) with
 | none=>rfl
 | some i =>
  obtain ⟨j,n,g,h,c,k,l⟩:=v.at f;have:=v.lev.len;simp only [g];unfold Ta Y9;rw [Ss,if_pos rfl,SL,Sp,aA v.lev c (by omega),SL,h,TK (by omega),c];by_cases e:0<TM s.1 j
  ·rw [if_pos (show ((TM s.1 j:Int))>0 by omega),if_pos e]
  ·rw [if_neg (show ¬ ((TM s.1 j:Int))>0 by omega),if_neg e,Sx];by_cases d:Vh s.1 j=true
   ·rw [if_pos d,if_pos d]
   ·rw [if_neg d,if_neg d];rfl
theorem cm {s:TA} (m:Sm s) (a:Int):XQ (s,a)=some (WJ 0 Y9 s a):=by
 unfold XQ;rw [Xr m,SL,YJ m];unfold WJ;by_cases b:(TD s).2=0;rotate_left
 ·rw [if_pos b,Sn,if_neg b,Ss,if_neg b,if_pos b]
 rw [if_neg (show ¬ (TD s).2≠0 by simp [b]),if_neg (show ¬ (TD s).2≠0 by simp [b])];have v:=TJ.1 b;unfold ZW Vz;cases g:Yd a 0 (TH 0 s.1.2) with
 | none=>rfl
 | some i =>
  obtain ⟨j,n,f,h,c,k,l⟩:=v.at g;have:=v.lev.len;rw [if_neg (show ¬ (TD s).2≠0 by simp [b])];simp only [f];unfold Y9;rw [Sn,if_pos rfl,Sp];by_cases e:0<TM s.1 j
  ·rw [if_pos (show ((TM s.1 j:Int))>0 by omega),if_pos e]
  ·rw [if_neg (show ¬ ((TM s.1 j:Int))>0 by omega),if_neg e,Ss,if_pos rfl,SL,S9,Sb f,aY v.lev c (by omega),SL,Sx,h,TK (by omega),c];by_cases d:Vh s.1 j=true
   ·rw [if_pos d,if_pos d]
   ·rw [if_neg d,if_neg d];rfl
theorem mM {s:TA} (m:Sm s):V1 s=some (if (TD s).2≠0 then ([],(TD s).2) else (TH 0 s.1.2,0)):=by
 unfold V1;simp only [TI,TF];rw [nQ m,SL,Ss];by_cases a:(TD s).2=0;rotate_left
 ·rw [if_neg a,if_pos a]
 rw [if_pos a,if_neg (show ¬ (TD s).2≠0 by simp [a])];have f:=(TJ.1 a).lev.len
 rw [U8 (l:=s.1.2) (σ:=List Int) (s:=((0:Int),([]:List Int))) (λi m=>((i:Int),m)) (λls i m=>m++TH i ls=TH 0 s.1.2) (λ_ _ _=>(0,(((s.1.2.length:Int),TH 0 s.1.2),()))) [] rfl (by omega) rfl (λm h=>by
  simp only;rw [re,Rd,<- h];simp [TH]) (λi rs ls m e c hi h=>by
   refine ⟨m++(if rs.length=2 then [(i:Int)] else []),?_,?_,rfl⟩
   ·simp only;rw [rl hi,R5,S9,Sb c,Sn]
    have g:m.length<=1000:=by
     have b:=congrArg List.length h;have d:=VX s.1.2 0;rw [List.length_append] at b;omega
    by_cases b:rs.length=2
    ·rw [if_pos (by omega),if_pos b,UC (by simp only [BD,List.length_cons,List.length_nil];omega),TN c (by omega)];rfl
    ·rw [if_neg (by omega),if_neg b,List.append_nil,TN c (by omega)]
   ·rw [List.append_assoc];exact h),SL]
def V0 (s:TA):List Int->Option Int
 | []=>none
 | d::l=>if (WJ false (λs j=>(Vs s.1 j,0)) s d).1=true then some d else V0 s l
def To (s:TA):Int×Int:=if (TD s).2≠0 then (0,(TD s).2) else if TH 0 s.1.2=[] then (0,4) else match V0 s (TH 0 s.1.2) with
 | some d=>(d,0)
 | none=>(0,9)
theorem VSt.atDue {s:TA} (v:VSt s) {d:Int} (h:d∈TH 0 s.1.2) : ∃ (j:Job) (n:Nat),ZW s d=some j/\d=(n:Int)/\j.1=(n:Int)/\JobAt s.1 n j/\n<s.1.2.length:=by
 obtain ⟨i,b⟩:=al (k:=0) h;obtain ⟨j,n,e,f,a,c,g⟩:=v.at b;exact ⟨j,n,by unfold ZW;rw [b];exact e,f,a,c,g⟩
theorem l8 {s:TA} (m:Sm s):TV s=some (To s):=by
 unfold TV To;rw [mM m,SL];by_cases a:(TD s).2=0;rotate_left
 ·rw [if_pos a,Ss,if_neg a,if_pos a]
 rw [if_neg (show ¬ (TD s).2≠0 by simp [a]),if_neg (show ¬ (TD s).2≠0 by simp [a]),Ss,if_pos rfl];have v:=TJ.1 a;have z:(TH 0 s.1.2).length<=12:=by have:=VX s.1.2 0;have:=v.lev.len;omega
 simp only [TI,TF];rw [Sn];by_cases b:TH 0 s.1.2=[]
 ·rw [if_pos (by rw [b];rfl),if_pos b]
 rw [if_neg (by have:=List.length_pos_iff.2 b;omega),if_neg b];obtain ⟨T,q⟩ : ∃ T,T=V0 s (TH 0 s.1.2):=⟨_,rfl⟩;rw [<- q]
 obtain ⟨r,C,u⟩:=WZ (l:=TH 0 s.1.2) (σ:=Unit) (s:=((0:Int),(false,((0:Int),(0:Int))))) (λk _=>((0:Int),(false,((k:Int),(0:Int))))) (λl k _=>V0 s l=T) (λ(r:Nat×((Int×(Bool×(Int×Int)))×Unit))=>r.1=1/\((T=none/\r.2.1.2.1=false)\/(∃ d,T=some d/\r.2.1.2.1=true/\r.2.1.2.2.2=d)))
  (f:=λs1=>br (SW s1.2.2.1 ((TH 0 s.1.2).length:Int)) (λ_=>RX s1.2.2.1 λB=>ix (TH 0 s.1.2) B λw=>bd (Ud (s,w)) λp=>br (RT p.2 0) (λ_=>some (.dn ((0,((p.2,(s1.2.1,(s1.2.2.1,0))),()))))) λ_=>bd (Tz p.1) λE=>br E (λ_=>some (.dn ((1,((s1.1,(true,(s1.2.2.1,w))),()))))) λ_=>some (.nx ((s1.1,(s1.2.1,(Rl .i64 s1.2.2.1 1,s1.2.2.2)))))) λ_=>some (.dn ((1,(s1,())))))
  () rfl (by omega) q.symm (λ_ h=>⟨_,by simp only;rw [re];rfl,rfl,.inl ⟨by rw [<- h];rfl,rfl⟩⟩) (λk d l _ G i A h=>by
   simp only;obtain ⟨j,n,t,I,g,F,b⟩:=v.atDue (List.mem_of_getElem? i);have:=v.lev.len;unfold V0 at h;have x:WJ false (λs j=>(Vs s.1 j,0)) s d=(Vs s.1 j,0):=by unfold WJ;rw [if_neg (show ¬ (TD s).2≠0 by simp [a]),t]
   have y:WJ z0 (λs j=>((s,(j,(TM s.1 j:Int))),0)) s d=((s,(j,(TM s.1 j:Int))),0):=by unfold WJ;rw [if_neg (show ¬ (TD s).2≠0 by simp [a]),t]
   rw [x] at h;rw [rl A,R5,S9,Sb i,bK m,y,SL,Ss,if_pos rfl,ah v.lev g (by omega) _ rfl,SL,Sx];by_cases e:Vs s.1 j=true
   ·rw [if_pos e];rw [if_pos e] at h;exact .inr ⟨_,rfl,rfl,.inr ⟨d,h.symm,rfl,rfl⟩⟩
   ·rw [if_neg e];rw [if_neg e] at h
    exact .inl ⟨(),by rw [TN i (by omega)],h⟩)
 refine Tf C ?_;obtain ⟨u,c⟩:=u;rw [SM,if_neg (show ¬ r.1=0 by omega),Tq,Sx];rcases c with ⟨c,o⟩ | ⟨d,c,o,D⟩
 ·rw [if_neg (by simp [o]),c]
 ·rw [if_pos o,c,D]
theorem ew {s:TA} (m:Sm s):Xy s=some (To s):=by
 unfold Xy To;rw [cD m,SL];by_cases a:(TD s).2=0;rotate_left
 ·rw [if_pos a,Ss,if_neg a,if_pos a]
 rw [if_neg (show ¬ (TD s).2≠0 by simp [a]),if_neg (show ¬ (TD s).2≠0 by simp [a]),Ss,if_pos rfl];have v:=TJ.1 a;have o:(TH 0 s.1.2).length<=12:=by have:=VX s.1.2 0;have:=v.lev.len;omega
 simp only [TI,TF];rw [Sn];by_cases b:TH 0 s.1.2=[]
 ·rw [if_pos (by rw [b];rfl),if_pos b]
 rw [if_neg (by have:=List.length_pos_iff.2 b;omega),if_neg b];obtain ⟨T,n⟩ : ∃ T,T=V0 s (TH 0 s.1.2):=⟨_,rfl⟩;rw [<- n]
 obtain ⟨r,u,c⟩:=WZ (l:=TH 0 s.1.2) (σ:=Unit) (s:=((0:Int),((0:Int),(0:Int)))) (λk _=>((0:Int),((0:Int),(k:Int)))) (λl k _=>V0 s l=T) (λ(r:Nat×((Int×(Int×Int))×Unit))=>(r.1=1/\T=none)\/(r.1=0 /\ ∃ d,T=some d/\r.2.1.2.1=d/\r.2.1.1=0))
  (f:=λs1=>br (SW s1.2.2 ((TH 0 s.1.2).length:Int)) (λ_=>RX s1.2.2 λq=>ix (TH 0 s.1.2) q λz=>bd (Wd (s,z)) λy=>br y.1 (λ_=>RX s1.2.2 λt=>ix (TH 0 s.1.2) t λA=>some (.dn ((0,((0,(A,s1.2.2)),()))))) λ_=>some (.nx ((s1.1,(s1.2.1,Rl .i64 s1.2.2 1))))) λ_=>some (.dn ((1,(s1,())))))
  () rfl (by omega) n.symm (λ_ h=>⟨_,by simp only;rw [re];rfl,.inl ⟨rfl,by rw [<- h];rfl⟩⟩) (λk d l _ B g p h=>by
   simp only;unfold V0 at h;rw [rl p,R5,S9,Sb g,bA m,SL,Sx,S9,Sb g];by_cases e:(WJ false (λs j=>(Vs s.1 j,0)) s d).1=true
   ·rw [if_pos e];rw [if_pos e] at h;exact .inr ⟨_,rfl,.inr ⟨rfl,d,h.symm,rfl,rfl⟩⟩
   ·rw [if_neg e];rw [if_neg e] at h
    exact .inl ⟨(),by rw [TN g (by omega)],h⟩)
 refine Tf u ?_;rw [SM];rcases c with ⟨c,i⟩ | ⟨c,d,i,w,x⟩
 ·rw [if_neg (show ¬ r.1=0 by omega),i]
 ·rw [if_pos c,i,w,x]
end
section
open Go Go.Proofs.YtfilfloanndddaaGreat.Sv
theorem mC {β:Type} (k:Unit->Option β):gd true k=k ():=rfl
def TG (l:List (List Te)) (i:Nat):List Te:=(l[i]?).getD []
def Xv (l:List (List Te)):Nat->Nat
 | 0=>0
 | k+1=>if TG l k=[] then Xv l k else k+1
def Xq (l:List (List Te)) (n:Nat):List (List Te):=l++List.replicate (n+1-l.length) []
def Wb (l:List (List Te)) (n:Nat) (r:List Te):List (List Te):=(Xq l n).set n r
def XU (l:List (List Te)):List (List Te):=l.take (Xv l l.length)
def UR (L:TB) (n:Nat) (r:List Te):TB:=(L.1,XU (Wb L.2 n r))
theorem aj (l:List (List Te)) : ∀ k,Xv l k<=k
 | 0=>Nat.le_refl _
 | k+1=>by
  unfold Xv;split
  ·exact Nat.le_succ_of_le (aj l k)
  ·exact Nat.le_refl _
theorem Zl (l:List (List Te)) : ∀ {k i:Nat},Xv l k<=i->i<k->TG l i=[]
 | 0,_,_,h=>by omega
 | k+1,i,h1,h2=>by
  unfold Xv at h1;split at h1
  ·rename_i a;by_cases hi:i=k
   ·rw [hi];exact a
   ·exact Zl l h1 (by omega)
  ·omega
theorem aI (l:List (List Te)) : ∀ {k m:Nat},Xv l k=m+1->TG l m≠[]
 | 0,m,h=>by cases h
 | k+1,m,h=>by
  unfold Xv at h;split at h
  ·exact aI l h
  ·rename_i a;have:m=k:=by omega
   rw [this];exact a
theorem aW (l:List (List Te)) (i:Nat):TG (XU l) i=TG l i:=by
 unfold XU;by_cases h:i<Xv l l.length
 ·unfold TG;rw [List.getElem?_take,if_pos h]
 ·have a:TG (l.take (Xv l l.length)) i=[]:=by
   unfold TG;rw [List.getElem?_take,if_neg h];rfl
  rw [a];by_cases b:i<l.length
  ·exact (Zl l (by omega) b).symm
  ·unfold TG;rw [List.getElem?_eq_none (by omega)];rfl
theorem de (l:List (List Te)):(XU l).getLast? ≠ some []:=by
 have c:(XU l).length=Xv l l.length:=by
  have:=aj l l.length;unfold XU;rw [List.length_take];omega
 cases a:Xv l l.length with
 | zero =>
  have:XU l=[]:=List.length_eq_zero_iff.1 (by rw [c,a]);rw [this];simp
 | succ m =>
  have d:=aI l a;rw [List.getLast?_eq_getElem?,c,a];intro e;have b:TG (XU l) m=[]:=by unfold TG;rw [show m=m+1-1 by omega,e];rfl
  rw [aW] at b;exact d b
theorem YI (l:List (List Te)) (n:Nat):(Xq l n).length=max l.length (n+1):=by
 unfold Xq;simp;omega
theorem bq (l:List (List Te)) (n i:Nat):TG (Xq l n) i=TG l i:=by
 unfold TG Xq;by_cases h:i<l.length
 ·rw [List.getElem?_append_left h]
 ·rw [List.getElem?_append_right (by omega),List.getElem?_replicate,List.getElem?_eq_none (l:=l) (by omega)];split<;>rfl
theorem bz (l:List (List Te)) (n i:Nat) (r:List Te):TG (Wb l n r) i=if i=n then r else TG l i:=by
 unfold Wb;by_cases h:i=n
 ·rw [if_pos h,h];have:=YI l n;unfold TG;rw [List.getElem?_set_self (by omega)];rfl
 ·rw [if_neg h];unfold TG;rw [List.getElem?_set_ne (λe=>h e.symm)];exact bq l n i
theorem Wf (L:TB) (n i:Nat) (r:List Te):TG (UR L n r).2 i=if i=n then r else TG L.2 i:=by
 show TG (XU _) i=_;rw [aW,bz]
theorem dg (L:TB) (n:Nat) (r:List Te):(UR L n r).2.getLast? ≠ some []:=de _
theorem fq (L:TB) (n:Nat) (r:List Te):(UR L n r).2.length<=max L.2.length (n+1):=by
 show (XU _).length<=_;unfold XU;rw [List.length_take];have:(Wb L.2 n r).length=max L.2.length (n+1):=by unfold Wb;rw [List.length_set,YI]
 omega
theorem eQ (l:List (List Te)):(XU l).flatten=l.flatten:=by
 have h:l=XU l++l.drop (Xv l l.length):=(List.take_append_drop _ _).symm
 have a:(l.drop (Xv l l.length)).flatten=[]:=by
  rw [List.flatten_eq_nil_iff];intro x c;obtain ⟨i,hi⟩:=List.getElem?_of_mem c;rw [List.getElem?_drop] at hi;have b:=(List.getElem?_eq_some_iff.1 hi).1;have:=Zl l (k:=l.length) (i:=Xv l l.length+i) (by omega) b;unfold TG at this;rw [hi] at this;exact this
 conv=>rhs;rw [h,List.flatten_append,a,List.append_nil]
theorem gF (l:List (List Te)) (n:Nat):(Xq l n).flatten=l.flatten:=by
 unfold Xq;rw [List.flatten_append]
 have:(List.replicate (n+1-l.length) ([]:List Te)).flatten=[]:=by
  rw [List.flatten_eq_nil_iff];intro x a;exact (List.mem_replicate.1 a).2
 rw [this,List.append_nil]
theorem XM (L:TB) (n:Nat) (r:List Te) : ∃ p q,L.2.flatten=p++(TG L.2 n++q)/\(UR L n r).2.flatten=p++(r++q):=by
 have a:n<(Xq L.2 n).length:=by rw [YI];omega
 refine ⟨((Xq L.2 n).take n).flatten,((Xq L.2 n).drop (n+1)).flatten,?_,?_⟩
 ·rw [<- bq L.2 n n,<- gF L.2 n]
  have:Xq L.2 n=(Xq L.2 n).take n++((Xq L.2 n)[n]::(Xq L.2 n).drop (n+1)):=by
   rw [<- List.drop_eq_getElem_cons a,List.take_append_drop]
  have b:TG (Xq L.2 n) n=(Xq L.2 n)[n]:=by unfold TG;rw [List.getElem?_eq_getElem a];rfl
  rw [b]
  conv=>lhs;rw [this]
  rw [List.flatten_append,List.flatten_cons]
 ·show (XU (Wb L.2 n r)).flatten=_;rw [eQ];unfold Wb;rw [List.set_eq_take_append_cons_drop,if_pos a,List.flatten_append,List.flatten_cons]
theorem VLev.own {L:TB} (v:VLev L) (i:Nat):(TG L.2 i).length<=2 /\ ∀ r∈TG L.2 i,VR (UX L.1 i) r:=by
 unfold TG;cases h:L.2[i]? with
 | none=>exact ⟨by simp,λr a=>by cases a⟩
 | some rs=>exact v.lev i rs h
theorem VLev.with' {L:TB} (v:VLev L) {n:Nat} (f:n<12) {r:List Te} (d:r.length<=2) (e : ∀ x∈r,VR (UX L.1 n) x) (b:((UR L n r).2.flatten.map mj).Nodup):VLev (UR L n r):=by
 refine ⟨v.B1,v.B2,?_,λi rs hi => ?_,b,dg L n r⟩
 ·have:=fq L n r;have:=v.len;omega
 ·have a:=Wf L n i r;unfold TG at a;rw [hi] at a;simp only [Option.getD_some] at a;rw [a];split
  ·rename_i c;rw [c];exact ⟨d,e⟩
  ·exact v.own i
theorem VLev.leave {L:TB} (v:VLev L) {n:Nat} (c:n<12):VLev (UR L n []):=by
 refine v.with' c (by simp) (λ_ h=>by cases h) ?_
 obtain ⟨p,q,a,b⟩:=XM L n [];have:=v.ids;rw [a] at this;rw [b,List.nil_append];refine List.Sublist.nodup (List.Sublist.map _ ?_) this;exact List.Sublist.append (List.Sublist.refl _) (List.sublist_append_right _ _)
theorem VLev.arrive {L:TB} (v:VLev L) {n:Nat} (g:n<12) {x:Te} (j:(TG L.2 n).length<2) (i:VR (UX L.1 n) x) (b : ∀ y∈L.2.flatten,y.1≠x.1):VLev (UR L n (TG L.2 n++[x])):=by
 refine v.with' g (by simp;omega) (λy hy => ?_) ?_
 ·rcases List.mem_append.1 hy with hy | hy
  ·exact (v.own n).2 y hy
  ·rw [List.mem_singleton.1 hy];exact i
 ·obtain ⟨p,q,c,d⟩:=XM L n (TG L.2 n++[x])
  have h:(UR L n (TG L.2 n++[x])).2.flatten.Perm (x::L.2.flatten):=by
   rw [c,d,List.append_assoc];refine List.Perm.trans ?_ (List.perm_middle (l₁:=p++TG L.2 n) (l₂:=q) (a:=x) |>.trans (by rw [List.append_assoc]));rw [List.append_assoc];exact List.Perm.refl _
  refine (h.map mj).nodup_iff.2 (List.nodup_cons.2 ⟨λf => ?_,v.ids⟩);obtain ⟨y,hy,e⟩:=List.mem_map.1 f;exact b y hy e
theorem Zv {l:List (List Te)} {x:Te}:x∈l.flatten <-> ∃ i,x∈TG l i:=by
 rw [List.mem_flatten];constructor
 ·rintro ⟨rs,a,b⟩;obtain ⟨i,hi⟩:=List.getElem?_of_mem a;exact ⟨i,by unfold TG;rw [hi];exact b⟩
 ·rintro ⟨i,h⟩;unfold TG at h;cases hi:l[i]? with
  | none=>rw [hi] at h;cases h
  | some rs=>rw [hi] at h;exact ⟨rs,List.mem_of_getElem? hi,h⟩
theorem Yu {l:List (List Te)} {x:Te} (h:x∈l.flatten):x.1<=WG l:=by
 have d : ∀ (rs:List Te) (m:Int),m<=rs.foldl (λm r=>S0 m r.1) m /\ ∀ x∈rs,x.1<=rs.foldl (λm r=>S0 m r.1) m:=by
  intro rs
  induction rs with
  | nil=>intro m;exact ⟨by simp,λx hx=>by cases hx⟩
  | cons r rs c =>
   intro m;obtain ⟨b,a⟩:=c (S0 m r.1);rw [Wt] at b a;simp only [List.foldl_cons,Wt] at b a ⊢;refine ⟨by omega,λx hx => ?_⟩;rcases List.mem_cons.1 hx with e | hx
   ·rw [e];omega
   ·exact a x hx
 have two : ∀ (ls:List (List Te)) (m:Int),m<=ls.foldl (λm rs=>rs.foldl (λm r=>S0 m r.1) m) m /\ ∀ rs∈ls,∀ x∈rs,x.1<=ls.foldl (λm rs=>rs.foldl (λm r=>S0 m r.1) m) m:=by
  intro ls
  induction ls with
  | nil=>intro m;exact ⟨by simp,λx hx=>by cases hx⟩
  | cons rs ls c =>
   intro m;obtain ⟨b,a⟩:=c (rs.foldl (λm r=>S0 m r.1) m);obtain ⟨i,g⟩:=d rs m;simp only [List.foldl_cons];refine ⟨by omega,λf hrs x hx => ?_⟩;rcases List.mem_cons.1 hrs with e | hrs
   ·subst e;have:=g x hx;omega
   ·exact a f hrs x hx
 obtain ⟨rs,b,a⟩:=List.mem_flatten.1 h;exact (two l 0).2 rs b x a
end
section
open Go Go.Proofs.YtfilfloanndddaaGreat.Sv
theorem aJ {M:List (List Te)} {f:Int->Option (LR Int (Nat×(Int×Unit)))} (a:f 0=some (.dn (0,(0,())))) (hs : ∀ k,k<M.length->f ((k+1:Nat):Int)=if TG M k=[] then some (.nx (k:Int)) else some (.dn (0,(((k+1:Nat):Int),())))) : ∀ k,k<=M.length->IJ (k+1) f (k:Int)=some (0,((Xv M k:Nat):Int),())
 | 0,_=>Tp a
 | k+1,hk=>by
  have h:=hs k (by omega);unfold Xv;by_cases b:TG M k=[]
  ·rw [if_pos b] at h ⊢;rw [Th h];exact aJ a hs k (by omega)
  ·rw [if_neg b] at h ⊢;exact Tp h
theorem mz (L:List (List Te)) (n:Nat):K5 (Q8 (max L.length (n+1)) ([]:List Te)) 0 L (AS (Q8 (max L.length (n+1)) ([]:List Te)))=Xq L n:=by
 have a:AS (Q8 (max L.length (n+1)) ([]:List Te))=max L.length (n+1):=by unfold AS Q8;simp
 rw [a];unfold K5 Xq Q8;rw [List.take_of_length_le (by omega:L.length<=max L.length (n+1))];simp only [List.take_zero,List.nil_append,List.drop_replicate,Nat.zero_add]
 congr 2
 omega
theorem gN (l:List (List Te)) (n:Nat) (r:List Te):lset (Xq l n) n r=Wb l n r:=rfl
theorem Vw {l:List (List Te)} {i:Nat} (h:i<l.length):l[i]? = some (TG l i):=by
 unfold TG;rw [List.getElem?_eq_getElem h];rfl
theorem ap {β:Type} (l:List Te) (x y:Unit->Option β):br (RR (l.length:Int) 0) x y=if l=[] then x () else y ():=by
 rw [Sn];by_cases h:l=[]
 ·rw [if_pos h,if_pos (by rw [h];rfl)]
 ·rw [if_neg h,if_neg (by have:=List.length_pos_iff.2 h;omega)]
theorem ZI {L:TB} (i:L.2.length<=1000) {n:Nat} (j:n<1000) (r:List Te):VJ (L,((n:Int),r))=some (UR L n r):=by
 have b:S0 (Kb (AS L.2)) (Rl .i64 (n:Int) 1)=((max L.2.length (n+1):Nat):Int):=by
  rw [TK (by omega),Wt,TI,TF];omega
 unfold VJ;simp only [b,S9,mz,gN];have d:(Xq L.2 n).length=max L.2.length (n+1):=YI _ _;have l:(Wb L.2 n r).length=max L.2.length (n+1):=by unfold Wb;rw [List.length_set,d]
 rw [UC (by omega),SR,if_pos (by rw [TF,d];omega),Sb (Vw (by omega))]
 have c:=aJ (M:=Wb L.2 n r) (f:=λa=>br (SU a 0) (λ_=>RX (Rp .i64 a 1) λe=>gd (KC e (AS (Wb L.2 n r))) λ_=>ix (Wb L.2 n r) e λh=>br (RR (Kb (AS h)) 0) (λ_=>some (.nx (Rp .i64 a 1))) λ_=>some (.dn ((0,(a,()))))) λ_=>some (.dn ((0,(a,()))))) rfl (λk b=>by
  have hi:Rp .i64 ((k+1:Nat):Int) 1=(k:Int):=by rw [SB (by omega)];omega
  simp only [hi,S9];rw [Sp,if_pos (by omega),SR,if_pos (by rw [TF];omega),Sb (Vw b)]
  exact ap _ _ _) _ (Nat.le_refl _)
 rw [TI,show AS (Wb L.2 n r)=(Wb L.2 n r).length from rfl];refine Tf (Uh (by omega) c) ?_;have g:=aj (Wb L.2 n r) (Wb L.2 n r).length;simp only [S9];rw [UC g,SQ,if_pos (by omega),SN,if_pos (by omega),SQ,if_pos (by unfold BD PA;omega)];unfold UR XU Dy BD PA;simp
end
section
open Go Go.Proofs.YtfilfloanndddaaGreat.Sv
def ao (d:Int) (j:Job):Bool:=RR d j.1
def UH (js:List Job) (d:Int):Option Job:=js.find? (ao d)
def Yv (js:List Job):List (Int×Job):=js.map λj=>(j.1,j)
def zJ:Job:=(0,(([],([],([],([],0)))),((false,([],false)),([],0))))
def WK (L:TB) (d:Int):Job:=match TG L.2 d.toNat with
 | [r0,r1]=>(d,U9 r1.2 r0.2 (decide (d=(L.2.length:Int)-1)) 0)
 | _=>zJ
def WW (s:TA) (L:TB) (a d:Int):Job:=(if d=a then none else UH s.2.1 d).getD (WK L d)
def YL (s:TA) (L:TB) (next a:Int):TA:=(L,((TH 0 L.2).map (WW s L a),next))
theorem aT (d:Int) : ∀ js:List Job,MI (λa b=>RR a b) (Yv js) d=UH js d
 | []=>rfl
 | j::js=>by
  show (bif RR d j.1 then some j else MI (λa b=>RR a b) (Yv js) d)=(j::js).find? (ao d)
  rw [List.find?_cons,aT d js];show _=match RR d j.1 with | true=>some j | false=>UH js d
  cases RR d j.1<;>rfl
theorem aU {j:Job} : ∀ {js:List Job},j.1 ∉ js.map (·.1)->IR (λa b=>RR a b) (Yv js) j.1 j=Yv (js++[j])
 | [],_=>rfl
 | i::js,h=>by
  show (bif RR j.1 i.1 then (j.1,j)::Yv js else (i.1,i)::IR (λa b=>RR a b) (Yv js) j.1 j)=(i.1,i)::Yv (js++[j])
  have d:RR j.1 i.1=false:=by rw [VU];simp;intro e;exact h (by simp [e])
  rw [d,cond_false,aU (λc=>h (by simp at c ⊢;exact .inr c))]
theorem X3 {js:List Job} {d:Int} (h:d ∉ js.map (·.1)):UH js d=none:=by
 unfold UH;rw [List.find?_eq_none];intro j a;unfold ao;rw [VU];simp only [decide_eq_true_eq];intro e;exact h (by rw [e];exact List.mem_map_of_mem a)
theorem aS {x d:Int} : ∀ {js:List Job},(js.map (·.1)).Nodup->MI (λa b=>RR a b) (IQ (λa b=>RR a b) (Yv js) x) d=if d=x then none else UH js d
 | [],_=>by split<;>rfl
 | j::js,h=>by
  rw [List.map_cons,List.nodup_cons] at h;show MI (λa b=>RR a b) (bif RR x j.1 then Yv js else (j.1,j)::IQ (λa b=>RR a b) (Yv js) x) d=_
  have g:UH (j::js) d=if d=j.1 then some j else UH js d:=by
   unfold UH;rw [List.find?_cons];unfold ao;rw [VU];by_cases e:d=j.1<;>simp [e]
  rw [VU,g];by_cases f:x=j.1
  ·rw [show decide (x=j.1)=true by simp [f],cond_true,aT];by_cases c:d=x
   ·rw [if_pos c];exact X3 (by rw [c,f];exact h.1)
   ·rw [if_neg c,if_neg (by rw [<- f];exact c)]
  ·rw [show decide (x=j.1)=false by simp [f],cond_false];show (bif RR d j.1 then some j else MI (λa b=>RR a b) (IQ (λa b=>RR a b) (Yv js) x) d)=_
   rw [aS h.2,VU];by_cases c:d=j.1
   ·rw [show decide (d=j.1)=true by simp [c],cond_true,if_pos c,if_neg (by rw [c];exact λe=>f e.symm)]
   ·rw [show decide (d=j.1)=false by simp [c],cond_false,if_neg c]
theorem VR.vl' {L:TB} (v:VLev L) {n:Nat} {r:Te} (h:r∈TG L.2 n):VL r.2:=((v.own n).2 r h).vl
theorem ec (L:TB) (a:L.2.length<=1000) (n:Nat):Uz (L,(n:Int))=some (decide ((n:Int)=(L.2.length:Int)-1)):=by
 unfold Uz;simp only [TI,TF];rw [SB (by omega),VU]
theorem gA {L:TB} (v:VLev L) {n:Nat} (h:(TG L.2 n).length=2):Wi (L,(n:Int))=some (WK L n,0):=by
 have d:n<L.2.length:=by
  by_cases e:n<L.2.length
  ·exact e
  ·unfold TG at h;rw [List.getElem?_eq_none (by omega)] at h;cases h
 have i:=v.len;obtain ⟨f,g⟩:=v.small;unfold Wi;simp only [TI,TF];rw [Yf _ f g,Ww v,SL,Ss,if_pos rfl,Sr,if_neg (by omega),So,if_neg (by omega),So,if_neg (by omega),S9,Sb (Vw d),Sr,if_neg (by omega),ec L (by omega) n,SL]
 obtain ⟨b,c,a⟩ : ∃ b c,TG L.2 n=[b,c]:=by
  match hq:TG L.2 n with
  | [b,c]=>exact ⟨b,c,rfl⟩
  | []=>rw [hq] at h;cases h
  | [_]=>rw [hq] at h;cases h
  | _::_::_::_=>rw [hq] at h;simp at h
 rw [bN _ (by rw [Vw d,a]) (VR.vl' v (n:=n) (by rw [a];simp)) (VR.vl' v (n:=n) (by rw [a];simp)),SL];unfold WK;rw [Int.toNat_natCast,a]
theorem Xw (i:Nat) (rs:List Te) (ls:List (List Te)):TH i (rs::ls)=(if rs.length=2 then [(i:Int)] else [])++TH (i+1) ls:=rfl
theorem ZP {s:TA} (f:(s.2.1.map (·.1)).Nodup) (t:s.2.1.length<=1000) {L:TB} (v:VLev L) (next a:Int):Tc (s,(L,(next,a)))=some (YL s L next a,0):=by
 have u:=v.len;unfold Tc;simp only [TI,TF]
 rw [U8 (l:=s.2.1) (σ:=List (Int×Job)) (s:=((0:Int),([]:List (Int×Job)))) (λi m=>((i:Int),m)) (λls i m => ∃ p,s.2.1=p++ls/\m=Yv p) (λ_ _ _=>(0,(((s.2.1.length:Int),Yv s.2.1),()))) [] rfl (by omega) ⟨[],rfl,rfl⟩ (λm h=>by
  obtain ⟨p,d,rfl⟩:=h
  simp only;rw [re,Rd,d,List.append_nil]) (λi x ls m q b hi h=>by
   obtain ⟨p,d,rfl⟩:=h;refine ⟨Yv (p++[x]),?_,⟨p++[x],by rw [d];simp,rfl⟩,rfl⟩;simp only;rw [rl hi,R5,S9,Sb b,TN b (by omega),aU];intro g;rw [d,List.map_append,List.nodup_append] at f
   exact f.2.2 _ g x.1 (by simp) rfl),SL]
 simp only
 rw [U8 (l:=L.2) (σ:=List Job) (s:=((0:Int),((0:Int),(((0:Int),(([]:List (List Te)),(([]:List Job),(0:Int)))),(L.1,(L.2,(([]:List Job),next))))))) (λi js=>((0:Int),((i:Int),(((0:Int),(([]:List (List Te)),(([]:List Job),(0:Int)))),(L.1,(L.2,(js,next))))))) (λls i js=>js++(TH i ls).map (WW s L a)=(TH 0 L.2).map (WW s L a)) (λ_ _ _=>(0,(((0:Int),((L.2.length:Int),(((0:Int),(([]:List (List Te)),(([]:List Job),(0:Int)))),(L.1,(L.2,((TH 0 L.2).map (WW s L a),next)))))),()))) [] rfl (by omega) rfl (λm h=>by
  simp only;rw [re,Rd,<- h];simp [TH]) (λi rs ls m q b hi h=>by
   have k:TG L.2 i=rs:=by unfold TG;rw [b];rfl
   have o:=(v.own i).1;rw [k] at o;refine ⟨m++(if rs.length=2 then [WW s L a i] else []),?_,?_,rfl⟩
   ·simp only;rw [rl hi,R5,S9,Sb b,Sr]
    have g:m.length<=1000:=by
     have c:=congrArg List.length h;have r:=VX L.2 0;rw [List.length_append,List.length_map,List.length_map] at c;omega
    by_cases c:rs.length=2;rotate_left
    ·rw [if_pos (by omega),if_neg c,List.append_nil,TN b (by omega)]
    rw [if_neg (by omega),if_pos c,aS f];have e:WW s L a i=(if (i:Int)=a then none else UH s.2.1 i).getD (WK L i):=rfl
    cases n:(if (i:Int)=a then none else UH s.2.1 (i:Int)) with
    | none =>
     rw [n,Option.getD_none] at e;rw [e,gA v (by rw [k];exact c),Tq,Sx,if_neg (show ¬ S3 (none:Option Job)=true by simp [S3]),SL];simp only;rw [Ss,if_pos rfl,UC (by simp only [BD,List.length_cons,List.length_nil];omega),TN b (by omega)];rfl
    | some j =>
     rw [n,Option.getD_some] at e;rw [e,Tq,Sx,if_pos (show S3 (some j)=true from rfl),UC (by simp only [BD,List.length_cons,List.length_nil];omega),TN b (by omega)];rfl
   ·rw [List.append_assoc,<- h,Xw,List.map_append]
    congr 2
    split<;>rfl),SL]
 rfl
end
section
open Go Go.Proofs.YtfilfloanndddaaGreat.Sv
def pS (s:UI):Option XC:=if s.1=true then some s.2.1 else none
theorem Asc.weak : ∀ {l:List S8} {p c:Option XC},(∀ a,c=some a -> ∃ q,p=some q/\Rz q a=false)->Asc p l->Asc c l
 | [],_,_,_,_=>trivial
 | x::l,p,c,h,⟨g,i⟩=>⟨λa b=>by
  obtain ⟨q,e,j⟩:=h a b;have d:=g q e;by_cases f:a=q
  ·rw [f];exact d
  ·exact WI (Yl j (λe=>f e.symm)) d,i⟩
theorem bV : ∀ (l:List S8) (s:UI),ZA s l->Asc (pS s) (Vx s l)
 | [],_,_=>trivial
 | x::l,s,⟨_,g,h⟩=>by
  have i:=bV l _ h;have f:Asc (some x.1) (Vx (true,(x.1,s.2.2)) l):=i;unfold Vx;by_cases c:keep s x=true
  ·rw [if_pos c];refine ⟨λq d => ?_,f⟩;unfold pS at d;by_cases b:s.1=true
   ·rw [if_pos b] at d;cases d;refine Yl (g b) λe => ?_;unfold keep at c;rw [b,e] at c;simp at c
   ·rw [if_neg b] at d;cases d
  ·rw [if_neg c,List.nil_append];refine f.weak λj a=>⟨x.1,rfl,?_⟩;unfold pS at a;by_cases b:s.1=true
   ·rw [if_pos b] at a;cases a;exact g b
   ·rw [if_neg b] at a;cases a
theorem bX : ∀ {l:List S8} {s:UI} {x:S8},x∈Vx s l->x∈l
 | y::l,s,x,h=>by
  unfold Vx at h;rcases List.mem_append.1 h with h | h
  ·split at h
   ·rw [List.mem_singleton.1 h];simp
   ·cases h
  ·exact List.mem_cons_of_mem _ (bX h)
theorem eA : ∀ {l:List S8} {s:UI},ZA s l -> ∀ x∈l,kE x=0
 | y::l,s,⟨a,_,b⟩,x,h=>by
  rcases List.mem_cons.1 h with e | h
  ·rw [e];exact a
  ·exact eA b x h
theorem gY {a b:List S8} (va:VL a) (f:VL b) (c:Bool) {k:Nat} (d:k<=a.length+b.length) (j:a.length+b.length<=5000):VL (U9 a b c k).2.2.1/\(U9 a b c k).2.2.1.length<=a.length+b.length:=by
 have e:=W3 va f c d
 have i:(Vx (s0 c) (TX a b k)).length<=k:=by
  have:=Xh (s0 c) (TX a b k);rw [Ut va f d] at this;exact this
 have g:(U9 a b c k).2.2.1=Vx (s0 c) (TX a b k):=rfl;rw [g];exact ⟨⟨by omega,λx h=>eA e x (bX h),bV _ _ e⟩,by omega⟩
theorem cg {L:TB} (v:VLev L) {n:Nat} (h:TG L.2 n≠[]):U5 (L,(n:Int))=some (UR L n [],(TG L.2 n,0)):=by
 have b:n<L.2.length:=by
  by_cases a:n<L.2.length
  ·exact a
  ·unfold TG at h;rw [List.getElem?_eq_none (by omega)] at h;exact absurd rfl h
 have d:=v.len;have c:=(v.own n).1;unfold U5;simp only [TI,TF];rw [aw v,SL,if_neg (by omega),Ss,if_pos rfl,Sr,if_pos (by omega),S9,Sb (Vw b),ap,if_neg h,ZI (by omega) (by omega),SL,UC (by omega)]
theorem eY {S β:Type} {f:S->Option (LR S β)} {r:β} (mk:Int->S) (n:Nat) {s:S} (b:s=mk ((n:Int)-1)) (g:n<1000000) (hs : ∀ k,k<n->f (mk (k:Int))=some (.nx (mk ((k:Int)-1)))) (c:f (mk (-1))=some (.dn r)):loop f s=some r:=by
 subst b
 have a : ∀ k,k<=n->IJ (k+1) f (mk ((k:Int)-1))=some r:=by
  intro k
  induction k with
  | zero=>intro _;exact Tp c
  | succ k d =>
   intro e;have:=hs k (by omega);rw [show ((k+1:Nat):Int)-1=(k:Int) by omega,Th this];exact d (by omega)
 exact Uh (by omega) (a n (Nat.le_refl _))
theorem bn {L:TB} (v:VLev L) {n:Nat} (o:n<12) {x:Te} (q:x.2.length<=1048576) (b : ∀ y∈L.2.flatten,y.1≠x.1) (m:(TG L.2 n).length<2) :
  Tu (L,((n:Int),x))=some (if kR [] (UX L.1 n) x≠0 then ((0,[]),kR [] (UX L.1 n) x) else (UR L n (TG L.2 n++[x]),0)):=by
 have p:=v.len;unfold Tu;simp only [TI,TF];rw [aw v,SL,if_neg (by omega),Ss,if_pos rfl,ZG v.B1 v.B2 (by omega),aR x _ (by omega),show RS (n:Int) 0=true by unfold RS;simp];rw [mC,SL,Ss];by_cases a:kR [] (UX L.1 n) x=0;rotate_left
 ·rw [if_neg a,if_pos a]
 rw [if_pos a,if_neg (by simp [a])]
 rw [U8 (l:=L.2) (σ:=Unit) (s:=((0:Int),(((0:Int),([]:List (List Te))),(0:Int)))) (λi _=>((i:Int),(((0:Int),([]:List (List Te))),(0:Int)))) (λ_ _ _=>True) (λ_ _ _=>(0,(((L.2.length:Int),(((0:Int),([]:List (List Te))),(0:Int))),()))) () rfl (by omega) trivial (λ_ _=>by
  simp only;rw [re];rfl) (λi rs ls _ j hi c _=>by
   refine ⟨(),?_,trivial,rfl⟩;have e:TG L.2 i=rs:=by unfold TG;rw [hi];rfl
   have f:=(v.own i).1;rw [e] at f;simp only;rw [rl c,R5,S9,Sb hi,SB (by omega)]
   rw [eY (λk=>(k,(((0:Int),([]:List (List Te))),(0:Int)))) rs.length rfl (by omega) (λk a=>by
    have h:rs[k]? = some rs[k]:=List.getElem?_eq_getElem a;have d:rs[k].1≠x.1:=b _ (List.mem_flatten.2 ⟨rs,List.mem_of_getElem? hi,List.getElem_mem a⟩);simp only
    rw [So,if_pos (by omega),S9,Sb h,Sn,if_neg d,SB (by omega)]) (r:=(0,(((-1:Int),(((0:Int),([]:List (List Te))),(0:Int))),()))) rfl,SL]
   rw [TN hi (by omega)]
   rfl),SL]
 rw [SM,if_pos rfl,Sr];by_cases g:n<L.2.length
 ·rw [if_pos (by omega),S9,Sb (Vw g),Sn,if_neg (by omega),S9,S9,UC (Nat.le_refl _),SP,if_pos rfl,UC (Nat.zero_le _)];have hs:Dy (TG L.2 n) 0 (TG L.2 n).length=TG L.2 n:=by unfold Dy;simp
  rw [hs,UC (by simp only [BD,List.length_cons,List.length_nil];omega),ZI (by omega) (by omega),SL];rfl
 ·rw [if_neg (by omega)];have e:TG L.2 n=[]:=by unfold TG;rw [List.getElem?_eq_none (by omega)];rfl
  rw [UC (by simp),ZI (by omega) (by omega),SL,e];rfl
end
end Go.Proofs.YtfilfloanndddaaGreat.Pl
