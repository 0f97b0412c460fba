/- Functions of the program and of the specification as plain functions, and laws about them. No condition. -/
import Derived.Test.YtfilfloanndddaaGreatPl0
set_option linter.all false
namespace Go.Proofs.YtfilfloanndddaaGreat.Pl
section
open Go Go.Proofs.YtfilfloanndddaaGreat.Sv
theorem Uq {S β:Type} {f:S->Option (LR S β)} {s0 s1 s2:S} {r:β} (a:f s0=some (.nx s1)) (b:f s1=some (.nx s2)) (c:f s2=some (.dn r)):loop f s0=some r :=
 Ui (n:=3) (by omega) ((Th a).trans ((Th b).trans (Tp c)))
theorem Zb {α β:Type} {c:Bool} {n:Int} {l:List α} {K:Nat->α->Option β} {E:Unit->Option β} (k:Nat) {x:α} (hc:c=true) (b:n=(k:Int)) (d:l[k]? = some x):br c (λ_=>RX n λa=>ix l a λe=>K a e) E=K k x:=by
 subst hc;subst b;rw [R5,S9,Sb d]
theorem WG {α β:Type} {n:Int} {l:List α} {K:Nat->α->Option β} (k:Nat) {x:α} (b:n=(k:Int)) (c:l[k]? = some x):RX n (λa=>ix l a λd=>K a d)=K k x:=by
 subst b;rw [S9,Sb c]
theorem XI {l:List S8} {i:Nat} (h:i<=l.length):Tk (l,(i:Int))=some (kx l i):=by
 unfold Tk kx;simp only [TH,TF];rw [Sn];by_cases hi:i=l.length
 ·rw [if_pos (by omega),List.getElem?_eq_none (by omega)]
 ·have a:l[i]? = some l[i]:=by rw [List.getElem?_eq_getElem (by omega)]
  rw [if_neg (by omega),S9,Sb a,a]
section
variable {a b:List S8} (va:VL a) (vb:VL b)
theorem ma {i j:Nat} (hi:i<=a.length) (c:j<=b.length):Wq ([a,b],[(i:Int),(j:Int)])=some (Tt (kx a i) (kx b j)):=by
 unfold Wq;refine TZ (x:=(0,((2,[kx a i,kx b j]),()))) (Uq (s1:=(1,[kx a i,([],false)])) (s2:=(2,[kx a i,kx b j])) ?_ ?_ rfl) ?_
 ·show bd (Tk (a,(i:Int))) _=_;rw [XI hi];rfl
 ·show bd (Tk (b,(j:Int))) _=_;rw [XI c];rfl
 ·show bd (Ue [kx a i,kx b j]) _=_;rw [ZH (UC _ _) (UC _ _)];rfl
include va vb
theorem Yv:Ts a=some (0,0):=by
 rw [XM _ (by have:=va.len;omega),YI va]
theorem Yn:VS [a,b]=some (0,0):=by
 unfold VS;refine TZ (x:=(1,((0,(0,2)),()))) (Uq (s1:=(0,(0,1))) (s2:=(0,(0,2))) ?_ ?_ rfl) rfl
 ·show bd (Ts a) _=_;rw [Yv va va];rfl
 ·show bd (Ts b) _=_;rw [Yv vb vb];rfl
theorem e8 (c:Bool):WE ([a,b],c)=some (tO a b c 0,(0,0)):=by
 unfold WE;rw [Yn va vb,SL,Ss,if_pos rfl];refine TZ (x:=(0,((2,[kx a 0,kx b 0]),()))) (Uq (s1:=(1,[kx a 0,([],false)])) (s2:=(2,[kx a 0,kx b 0])) ?_ ?_ rfl) ?_
 ·show bd (Tk (a,((0:Nat):Int))) _=_;rw [XI (by omega)];rfl
 ·show bd (Tk (b,((0:Nat):Int))) _=_;rw [XI (by omega)];rfl
 ·show bd (Ue [kx a 0,kx b 0]) _=_;rw [ZH (UC _ _) (UC _ _)];rfl
end
theorem Xe (x:Bool):Sv.beq x x=true:=by cases x<;>rfl
theorem X9 (x:XL):seq x x=true:=by rw [Zi]
theorem cZ (l:List TD) (h:l.length<=1000):TS (l,l)=some true:=by
 unfold TS;simp only [TH,TF]
 rw [Ss,if_pos rfl,Y9 (l:=l) (σ:=Unit) (s:=(0,false)) (λk _=>((k:Int),false)) (λ_ _ _=>some (1,(((l.length:Int),false),()))) () rfl (by omega) (λc=>by
  simp only;rw [re];rfl) (λk x m c _ a b => .inl ⟨(),by
   simp only;rw [rl b,R5,S9,Sb a,S9,Sb a,X9,Xe,show Hf (NX true (NX true true))=false from rfl,Rd,TM a (by omega)],rfl⟩),SL]
 rfl
theorem cY (l:List Int) (h:l.length<=1000):TK (l,l)=some true:=by
 unfold TK;simp only [TH,TF]
 rw [Ss,if_pos rfl,Y9 (l:=l) (σ:=Unit) (s:=(0,false)) (λk _=>((k:Int),false)) (λ_ _ _=>some (1,(((l.length:Int),false),()))) () rfl (by omega) (λc=>by
  simp only;rw [re];rfl) (λk x m c _ a b => .inl ⟨(),by
   simp only;rw [rl b,R5,S9,Sb a,S9,Sb a,Ss,if_pos rfl,TM a (by omega)],rfl⟩),SL]
 rfl
theorem eu (t:Vk) (a:t.1.length<=1000) (b:t.2.1.length<=1000):Vz (t,t)=some true:=by
 unfold Vz;rw [Sn,if_pos rfl,cZ _ a,SL,R5,cY _ b];rfl
theorem ew (p q:TD):Vz (Tt p q,Tt p q)=some true:=eu _ (show 2<=1000 by omega) (show 2<=1000 by omega)
theorem gh {a b:List S8} {i j:Nat} (h:XT a b i j=true):wk (kx a i) (kx b j)=kx a i/\wn (kx a i) (kx b j)=0:=by
 unfold XT at h;unfold wk wn;rw [if_pos h,if_pos h];exact ⟨rfl,rfl⟩
theorem gi {a b:List S8} {i j:Nat} (h:XT a b i j=false):wk (kx a i) (kx b j)=kx b j/\wn (kx a i) (kx b j)=1:=by
 unfold XT at h;unfold wk wn;rw [if_neg (by simp [h]),if_neg (by simp [h])];exact ⟨rfl,rfl⟩
theorem eG (x y:XL):Uk (x,y)=some (if Rz x y=true then -1 else if Rz y x=true then 1 else 0):=by
 unfold Uk U4;simp only [X9,Yk,SL,Rd];rw [W6,W6];split
 ·rfl
 ·split<;>rfl
theorem eF (x y:Int):UU (x,y)=some (if x<y then -1 else if x>y then 1 else 0):=by
 unfold UU Vs;simp only [SL,Ss,if_true,Sr,Sp];split
 ·rfl
 ·split<;>rfl
theorem iJ (x y:Int):Wn [x,y]=some (if x≠0 then x else y):=by
 unfold Wn;by_cases h:x=0
 ·rw [if_neg (by simp [h])];by_cases a:y=0
  ·refine TZ (x:=(1,((0,2),()))) (Uq (s1:=(0,1)) (s2:=(0,2)) ?_ ?_ rfl) (by rw [a];rfl)
   ·refine (Zb 0 rfl rfl rfl).trans ?_;rw [Ss,if_pos h];rfl
   ·refine (Zb 1 rfl rfl rfl).trans ?_;rw [Ss,if_pos a];rfl
  ·refine TZ (x:=(0,((y,1),()))) (Ui (n:=2) (by omega) ((Th (s':=(0,1)) ?_).trans (Tp ?_))) rfl
   ·refine (Zb 0 rfl rfl rfl).trans ?_;rw [Ss,if_pos h];rfl
   ·refine (Zb 1 rfl rfl rfl).trans ?_;rw [Ss,if_neg a]
 ·rw [if_pos h];refine TZ (x:=(0,((x,0),()))) (Ui (n:=1) (by omega) (Tp ?_)) rfl;refine (Zb 0 rfl rfl rfl).trans ?_;rw [Ss,if_neg h]
section
variable {a b:List S8} (va:VL a) (vb:VL b)
include va vb
theorem YX {i j:Nat} (I:Inv a b i j):VQ (Yt a b i j)=some (0,0):=by
 unfold VQ;rw [show (Yt a b i j).1=[a,b] from rfl,Yn va vb,SL,Ss,if_pos rfl];rw [show (Yt a b i j).2.1=[(i:Int),(j:Int)] from rfl,Ss,if_pos (show Kb (AS [(i:Int),(j:Int)])=Kb (AS [a,b]) from rfl)];refine TZ (x:=(1,((0,(0,2)),()))) (Uq (s1:=(0,(0,1))) (s2:=(0,(0,2))) ?_ ?_ rfl) ?_
 ·refine (Zb 0 rfl rfl rfl).trans ?_;rw [Sr,if_neg (by omega),show RX (((0:Int),((0:Int),(0:Int))).2.2)=λ(k:Nat->Option (LR (Int×(Int×Int)) (Nat×((Int×(Int×Int))×Unit))))=>k 0 from rfl];simp only;rw [Sb (x:=a) rfl,Sp,if_neg (by have:=I.ia;simp only [TH,TF];omega)];rfl
 ·refine (Zb 1 rfl rfl rfl).trans ?_;rw [Sr,if_neg (by omega),show RX (((0:Int),((0:Int),(1:Int))).2.2)=λ(k:Nat->Option (LR (Int×(Int×Int)) (Nat×((Int×(Int×Int))×Unit))))=>k 1 from rfl];simp only;rw [Sb (x:=b) rfl,Sp,if_neg (by have:=I.jb;simp only [TH,TF];omega)];rfl
 rw [show neq ((1:Nat),(((0:Int),((0:Int),(2:Int))),())).1 0=false from rfl,Rd,ma I.ia I.jb,SL,show (Yt a b i j).2.2=Tt (kx a i) (kx b j) from rfl,ew,SL,show Hf true=false from rfl,Rd,Xd (UC _ _) (UC _ _),SL];by_cases c:(wk (kx a i) (kx b j)).2=true
 ·rw [if_pos c];rfl
 rw [if_neg c,Ss,if_pos rfl]
 have s : ∀ {x:S8} {f:Nat},i=f+1->a[f]? = some x -> ¬ (if (if Rz x.1 (wk (kx a i) (kx b j)).1=true then (-1:Int) else if Rz (wk (kx a i) (kx b j)).1 x.1=true then 1 else 0)≠0 then (if Rz x.1 (wk (kx a i) (kx b j)).1=true then (-1:Int) else if Rz (wk (kx a i) (kx b j)).1 x.1=true then 1 else 0) else (if (0:Int)<(wn (kx a i) (kx b j):Int) then -1 else if (0:Int)>(wn (kx a i) (kx b j):Int) then 1 else 0))>0:=by
  intro x f hi d
  have p:Rz (wk (kx a i) (kx b j)).1 x.1=false:=by
   cases g:XT a b i j with
   | true =>
    rw [(gh g).1] at c ⊢;unfold kx at c ⊢;cases e:a[i]? with
    | none=>rw [e] at c;exact absurd rfl c
    | some y=>rw [hi] at e;exact Uv (va.lt d e)
   | false =>
    rw [(gi g).1] at c ⊢;unfold kx at c ⊢;cases e:b[j]? with
    | none=>rw [e] at c;exact absurd rfl c
    | some y=>exact I.pa f hi x y d e
  rw [p];have : ¬ (0:Int)>(wn (kx a i) (kx b j):Int):=by omega
  by_cases hs:Rz x.1 (wk (kx a i) (kx b j)).1=true
  ·simp [hs]
  ·simp only [hs,Bool.false_eq_true,if_false,ne_eq,not_true,this];split<;>omega
 have t : ∀ {y:S8} {j':Nat},j=j'+1->b[j']? = some y -> ¬ (if (if Rz y.1 (wk (kx a i) (kx b j)).1=true then (-1:Int) else if Rz (wk (kx a i) (kx b j)).1 y.1=true then 1 else 0)≠0 then (if Rz y.1 (wk (kx a i) (kx b j)).1=true then (-1:Int) else if Rz (wk (kx a i) (kx b j)).1 y.1=true then 1 else 0) else (if (1:Int)<(wn (kx a i) (kx b j):Int) then -1 else if (1:Int)>(wn (kx a i) (kx b j):Int) then 1 else 0))>0:=by
  intro y j' r e
  have q:Rz y.1 (wk (kx a i) (kx b j)).1=true:=by
   cases g:XT a b i j with
   | true =>
    rw [(gh g).1] at c ⊢;unfold kx at c ⊢;cases d:a[i]? with
    | none=>rw [d] at c;exact absurd rfl c
    | some x=>exact I.pb j' r y x e d
   | false =>
    rw [(gi g).1] at c ⊢;unfold kx at c ⊢;cases d:b[j]? with
    | none=>rw [d] at c;exact absurd rfl c
    | some x=>rw [r] at d;exact vb.lt e d
  rw [q];simp
 refine TZ (x:=(1,((0,(0,2)),()))) (Uq (s1:=(0,(0,1))) (s2:=(0,(0,2))) ?_ ?_ rfl) rfl
 ·refine (Zb 0 rfl rfl rfl).trans ?_;rw [Sp];by_cases h:(i:Int)>0
  ·rw [if_pos h];obtain ⟨f,l⟩ : ∃ f,i=f+1:=⟨i-1,by omega⟩;have m:f<a.length:=by have:=I.ia;omega
   have d:a[f]? = some a[f]:=by simp [m]
   refine (WG 0 rfl (x:=a) rfl).trans ((WG f ?_ d).trans ?_)
   ·rw [SB (by have:=va.len;have:=I.ia;omega)];omega
   rw [eG,SL];show bd (UU (0,(wn (kx a i) (kx b j):Int))) _=_;rw [eF,SL,iJ,SL,Sp,if_neg (s l d)];rfl
  ·rw [if_neg h];rfl
 ·refine (Zb 1 rfl rfl rfl).trans ?_;rw [Sp];by_cases h:(j:Int)>0
  ·rw [if_pos h];obtain ⟨j',n⟩ : ∃ j',j=j'+1:=⟨j-1,by omega⟩;have o:j'<b.length:=by have:=I.jb;omega
   have e:b[j']? = some b[j']:=by simp [o]
   refine (WG 1 rfl (x:=b) rfl).trans ((WG j' ?_ e).trans ?_)
   ·rw [SB (by have:=vb.len;have:=I.jb;omega)];omega
   rw [eG,SL];show bd (UU (1,(wn (kx a i) (kx b j):Int))) _=_;rw [eF,SL,iJ,SL,Sp,if_neg (t n e)];rfl
  ·rw [if_neg h];rfl
end
end
section
open Go Go.Proofs.YtfilfloanndddaaGreat.Sv
theorem W2 {l:List S8} {i:Nat} {x:S8} (h:l[i]? = some x):kx l i=(x.1,false):=by unfold kx;rw [h]
theorem Y6 {l:List S8} {i:Nat} (h:l[i]? = none):kx l i=([],true):=by unfold kx;rw [h]
theorem Zf {l:List S8} (v:VL l) {i:Nat} {x:S8} (h:l[i]? = some x):(kx l (i+1)).2=true\/Rz (kx l (i+1)).1 x.1=false:=by
 cases a:l[i+1]? with
 | none=>rw [Y6 a];exact .inl rfl
 | some y=>rw [W2 a];exact .inr (Uv (v.lt h a))
theorem YN {α β:Type} {n:Int} {l:List α} {K:Nat->α->Option β} (k:Nat) {x:α} (c:n=(k:Int)) (b:l[k]? = some x):RX n (λa=>gd (KC a (AS l)) λ_=>ix l a λd=>K a d)=K k x:=by
 subst c;rw [S9,SR,if_pos (show k<AS l from (List.getElem?_eq_some_iff.1 b).1),Sb b]
section
variable {a b:List S8} (va:VL a) (vb:VL b)
include va vb
theorem my {i j:Nat} (I:Inv a b i j) {x:S8} (c:a[i]? = some x) (g:XT a b i j=true):UP (Yt a b i j)=some (x,(0,(Yt a b (i+1) j,0))):=by
 obtain ⟨f,l⟩:=gh g;have hi:=(List.getElem?_eq_some_iff.1 c).1;have n:=va.len;have e:(wk (kx a i) (kx b j)).2=false:=by rw [f,W2 c]
 obtain ⟨m,h⟩:=Xh (p:=kx a i) (q:=kx b j) (k:=kx a (i+1)) (UC _ _) (UC _ _) (UC _ _) e (by rw [f,W2 c];exact Zf va c)
 have d:rk (kx a i) (kx b j) (kx a (i+1))=(kx a (i+1),kx b j):=by
  unfold rk;unfold XT at g;rw [if_pos g]
 rw [d] at h;unfold UP;rw [YX va vb I,SL,Ss,if_pos rfl];unfold TP TW;refine TZ (YJ (show 2<=1048576 by omega)) (TZ (YJ (show 2<=1048576 by omega)) ?_);rw [show (Yt a b i j).2.2=Tt (kx a i) (kx b j) from rfl,Xd (UC _ _) (UC _ _),if_neg (by simp [e]),SL,Ss,if_pos rfl,l];refine (YN 0 rfl (x:=a) rfl).trans ((YN 0 rfl (x:=(i:Int)) rfl).trans ((WG i rfl c).trans ((YN 0 rfl (x:=(i:Int)) rfl).trans ((YN 0 rfl (x:=(i:Int)) rfl).trans ((YN 0 rfl (x:=a) rfl).trans ((YN 0 rfl (x:=Rl .i64 (i:Int) 1) rfl).trans ?_))))));rw [TJ (by omega),XI (show i+1<=a.length by omega),SL,h,SL];rfl
theorem mz {i j:Nat} (I:Inv a b i j) {y:S8} (c:b[j]? = some y) (g:XT a b i j=false):UP (Yt a b i j)=some (y,(1,(Yt a b i (j+1),0))):=by
 obtain ⟨f,l⟩:=gi g;have hi:=(List.getElem?_eq_some_iff.1 c).1;have n:=vb.len;have e:(wk (kx a i) (kx b j)).2=false:=by rw [f,W2 c]
 obtain ⟨m,h⟩:=Xh (p:=kx a i) (q:=kx b j) (k:=kx b (j+1)) (UC _ _) (UC _ _) (UC _ _) e (by rw [f,W2 c];exact Zf vb c)
 have d:rk (kx a i) (kx b j) (kx b (j+1))=(kx a i,kx b (j+1)):=by
  unfold rk;unfold XT at g;rw [if_neg (by simp [g])]
 rw [d] at h;unfold UP;rw [YX va vb I,SL,Ss,if_pos rfl];unfold TP TW;refine TZ (YJ (show 2<=1048576 by omega)) (TZ (YJ (show 2<=1048576 by omega)) ?_);rw [show (Yt a b i j).2.2=Tt (kx a i) (kx b j) from rfl,Xd (UC _ _) (UC _ _),if_neg (by simp [e]),SL,Ss,if_pos rfl,l];refine (YN 1 rfl (x:=b) rfl).trans ((YN 1 rfl (x:=(j:Int)) rfl).trans ((WG j rfl c).trans ((YN 1 rfl (x:=(j:Int)) rfl).trans ((YN 1 rfl (x:=(j:Int)) rfl).trans ((YN 1 rfl (x:=b) rfl).trans ((YN 1 rfl (x:=Rl .i64 (j:Int) 1) rfl).trans ?_))))));rw [TJ (by omega),XI (show j+1<=b.length by omega),SL,h,SL];rfl
def Yg (a b:List S8) (n:Nat):TC:=Yt a b (TN a b n).1 (TN a b n).2
def aC (a b:List S8) (n:Nat):Nat:=if XT a b (TN a b n).1 (TN a b n).2=true then 0 else 1
theorem Z0 {n:Nat} {x:S8} (h:n<a.length+b.length) (c:ZY a b n=some x):UP (Yg a b n)=some (x,((aC a b n:Int),(Yg a b (n+1),0))):=by
 obtain ⟨d,hs⟩:=WH va vb (n:=n) (by omega);unfold Yg aC;rw [show TN a b (n+1)=if XT a b (TN a b n).1 (TN a b n).2=true then ((TN a b n).1+1,(TN a b n).2) else ((TN a b n).1,(TN a b n).2+1) from rfl]
 unfold ZY at c;cases g:XT a b (TN a b n).1 (TN a b n).2 with
 | true=>rw [if_pos g] at c;rw [my va vb d c g];simp
 | false=>rw [if_neg (by simp [g])] at c;rw [mz va vb d c g];simp
end
theorem aE {s:UI} (b:s.2.1.length<=32) (a:s.1=false->s.2.1=[]):Vg s=some 0:=by
 unfold Vg;rw [Yd,SL,if_neg (by omega),Ss,if_pos rfl,Tq,Sx];cases h:s.1 with
 | true=>rfl
 | false=>rw [if_neg (by simp),Tq,V6,if_pos (a h)]
def keep (s:UI) (x:S8):Bool := !(s.1&&decide (x.1=s.2.1)) && !(s.2.2&&x.2.2.1)
theorem fY {s:UI} {x:S8} (e:s.2.1.length<=32) (f:s.1=false->s.2.1=[]) (g:kE x=0) (a:s.1=true->Rz x.1 s.2.1=false):UT (s,x)=some (keep s x,((true,(x.1,s.2.2)),0)):=by
 unfold UT keep;rw [aE e f,SL,Ss,if_pos rfl,W8,g,SL,Ss,if_pos rfl];obtain ⟨s1,s2,c⟩:=s;obtain ⟨h,i,d,j⟩:=x;simp only at a ⊢;cases s1 with
 | true =>
  have:=a rfl;simp only [R5,Rd,W6,V6,this,Bool.false_eq_true,if_false];by_cases b:h=s2
  ·simp [b]
  ·simp only [b,if_false,decide_false];cases c<;>cases d<;>rfl
 | false =>
  simp only [R5,Rd];cases c<;>cases d<;>rfl
def V5:UI->List S8->List S8
 | _,[]=>[]
 | s,x::l=>(if keep s x=true then [x] else [])++V5 (true,(x.1,s.2.2)) l
theorem Xo : ∀ (s:UI) (l:List S8),(V5 s l).length<=l.length
 | _,[]=>Nat.le_refl _
 | s,x::l=>by
  have:=Xo (true,(x.1,s.2.2)) l;unfold V5;by_cases h:keep s x=true
  ·rw [if_pos h];simp;omega
  ·rw [if_neg h];simp;omega
def ZF:UI->List S8->Prop
 | _,[]=>True
 | s,x::l=>kE x=0/\(s.1=true->Rz x.1 s.2.1=false)/\ZF (true,(x.1,s.2.2)) l
theorem Zx {x:S8} (h:kE x=0):x.1.length<=32:=by
 unfold kE at h;by_cases hh:x.1.length>32\/x.2.1.length>64
 ·rw [if_pos hh] at h;cases h
 ·omega
theorem VB {α β σ S:Type} {l:List α} (mk:Nat->σ->S) (Inv:List α->Nat->σ->Prop) (F:List α->Nat->σ->β) {f:S->Option (LR S β)} {s:S} (a:σ) (p:s=mk 0 a) (z:l.length<=9223372036854775807) (hi:Inv l 0 a)
  (w : ∀ a,Inv [] l.length a->f (mk l.length a)=some (.dn (F [] l.length a)))
  (hc : ∀ k x m a,l.drop k=x::m->l[k]? = some x->k<l.length->Inv (x::m) k a -> ∃ b,f (mk k a)=some (.nx (mk (k+1) b))/\Inv m (k+1) b/\F (x::m) k a=F m (k+1) b):loop f s=some (F l 0 a):=by
 subst p
 have e : ∀ (m:List α) (k n:Nat) (a:σ),l.drop k=m->k<=l.length->m.length<n->Inv m k a->IJ n f (mk k a)=some (F m k a):=by
  intro m
  induction m with
  | nil =>
   intro k n a c u d hi;obtain ⟨n,rfl⟩ : ∃ j,n=j+1:=⟨n-1,by omega⟩
   have h:k=l.length:=by
    have:=congrArg List.length c;simp at this;omega
   subst h;exact Tp (w a hi)
  | cons x m y =>
   intro k n a c u d hi;obtain ⟨n,rfl⟩ : ∃ j,n=j+1:=⟨n-1,by omega⟩
   have o:l[k]? = some x:=by
    have:=congrArg List.head? c;rw [List.head?_drop] at this;simpa using this
   have g:k<l.length:=(List.getElem?_eq_some_iff.1 o).1
   have i:l.drop (k+1)=m:=by
    have:=congrArg List.tail c;rw [List.tail_drop] at this;simpa using this
   obtain ⟨b,q,r,t⟩:=hc k x m a c o g hi;rw [Th q,t];exact y (k+1) n b i (by omega) (by simp at d;omega) r
 exact e l 0 _ a (by simp) (by omega) (by omega) hi
def Ub:UI->List S8->UI
 | s,[]=>s
 | s,x::l=>Ub (true,(x.1,s.2.2)) l
theorem ao {β:Type} {out:List S8} {n:Nat} (h:out.length<=n) (a:n<=20000) (x:S8) (k:Unit->Option β):gd (CD (BD (AS out) (AS [x])) 1048576) k=k ():=UB (by simp only [BD,AS,List.length_cons,List.length_nil];omega) k
theorem ej {l:List S8} {b:Bool} (B:l.length<=20000) (A:ZF (false,([],b)) l):Vx (l,b)=some (V5 (false,([],b)) l,(0,0)):=by
 unfold Vx Uo;simp only [TH,TF];rw [Sp,if_neg (by omega),SL]
 rw [VB (l:=l) (σ:=UI×List S8) (s:=(0,(0,(0,((false,([],b)),[]))))) (λk a=>((0:Int),((k:Int),((0:Int),a))))
  (λm k a=>ZF a.1 m/\a.1.2.1.length<=32/\(a.1.1=false->a.1.2.1=[])/\a.2.length<=k/\k+m.length=l.length)
  (λm k a=>(1,((0,((l.length:Int),(0,(Ub a.1 m,a.2++V5 a.1 m)))),()))) ((false,([],b)),[]) rfl (by omega) ⟨A,by simp,λ_=>rfl,by simp,by simp⟩ ?_ ?_,SL]
 ·simp;rfl
 ·intro a _;simp only;rw [re,Rd];simp [Ub,V5]
 ·rintro k x m ⟨s,out⟩ C r z ⟨⟨d,e,g⟩,i,j,n,o⟩;simp only at d e g i j n ⊢;refine ⟨((true,(x.1,s.2.2)),out++if keep s x=true then [x] else []),?_,⟨g,Zx d,(λh=>by cases h),?_,by simp at o;omega⟩,?_⟩
  ·rw [rl z,R5,S9,Sb r,aE i j,SL,Ss,if_pos rfl,W8,d,SL,Ss,if_pos rfl];unfold keep Td;obtain ⟨s1,s2,t⟩:=s;obtain ⟨f,u,c,w⟩:=x;simp only [SL,TM r (show l.length<=9223372036854775807 by omega)] at e ⊢;have q : ∀ {β:Type} (k:Unit->Option β),gd (CD (BD out.length [(f,(u,(c,w)))].length) 1048576) k=k ():=λk=>ao n (by simp at o;omega) (f,(u,(c,w))) k;cases s1 with
   | true =>
    have y:=e rfl;simp only [R5,Rd,V6,y,q];by_cases p:f=s2
    ·simp [p]
    ·simp only [p,if_false,decide_false];cases t<;>cases c<;>simp [R5,Rd,Ik]
   | false =>
    simp only [R5,Rd,q];cases t<;>cases c<;>simp [R5,Rd,Ik]
  ·split<;>simp<;>omega
  ·simp only [Ub,V5,List.append_assoc]
end
section
open Go Go.Proofs.YtfilfloanndddaaGreat.Sv
theorem bS : ∀ (l:List S8) (s:UI) (x:S8),V5 s (l++[x])=V5 s l++(if keep (Ub s l) x=true then [x] else [])
 | [],s,x=>by
  show (if keep s x=true then [x] else [])++[]=[]++(if keep s x=true then [x] else [])
  rw [List.append_nil,List.nil_append]
 | y::l,s,x=>by
  show (if keep s y=true then [y] else [])++V5 _ (l++[x])=((if keep s y=true then [y] else [])++V5 _ l)++_
  rw [bS l,List.append_assoc];rfl
theorem YV : ∀ (l:List S8) (s:UI) (x:S8),Ub s (l++[x])=(true,(x.1,(Ub s l).2.2))
 | [],s,x=>rfl
 | y::l,s,x=>by simp only [List.cons_append,Ub,YV l]
theorem W3 : ∀ (l:List S8) (s:UI),(Ub s l).2.2=s.2.2
 | [],s=>rfl
 | y::l,s=>by rw [Ub,W3 l]
theorem cA : ∀ (l:List S8) (s:UI) (x:S8),ZF s l->kE x=0->((Ub s l).1=true->Rz x.1 (Ub s l).2.1=false)->ZF s (l++[x])
 | [],s,x,_,a,b=>⟨a,b,trivial⟩
 | y::l,s,x,⟨a,b,c⟩,d,h5=>⟨a,b,cA l _ x c d h5⟩
theorem aT : ∀ (l:List S8) (s:UI),ZF s l->s.2.1.length<=32->(s.1=false->s.2.1=[])->(Ub s l).2.1.length<=32/\((Ub s l).1=false->(Ub s l).2.1=[])
 | [],s,_,h1,h2=>⟨h1,h2⟩
 | y::l,s,⟨a,_,b⟩,_,_=>aT l _ b (Zx a) (λh=>by cases h)
abbrev s0 (a:Bool):UI:=(false,([],a))
def VC (a b:List S8) (c:Bool) (n:Nat):XQ:=(Yg a b n,(Ub (s0 c) (TU a b n),(V5 (s0 c) (TU a b n),(n:Int))))
def XX (a b:List S8):Nat->List Int
 | 0=>[]
 | n+1=>XX a b n++[(aC a b n:Int)]
theorem ZL (a b:List S8) : ∀ n,(XX a b n).length=n
 | 0=>rfl
 | n+1=>by simp [XX,ZL a b n]
theorem XU {S β:Type} {f:S->Option (LR S β)} {r:β} (mk:Nat->S) (a n:Nat) {s:S} (b:s=mk a) (d:a<=n) (e:n<18446744073709551616) (hs : ∀ k,a<=k->k<n->f (mk k)=some (.nx (mk (k+1)))) (c:f (mk n)=some (.dn r)):loop f s=some r:=by
 have h:=XZ (f:=f) (r:=r) (λk=>mk (a+k)) (n-a) (s:=s) b (by omega) (λk d=>hs (a+k) (by omega) (by omega)) (by show f (mk (a+(n-a)))=_;rw [show a+(n-a)=n by omega];exact c);exact h
theorem Zn (l:List S8) (h:l.length<=100000):Vh (l,l)=some true:=by
 unfold Vh;simp only [TH,TF]
 rw [Ss,if_pos rfl,Y9 (l:=l) (σ:=Unit) (s:=(false,0)) (λk _=>(false,(k:Int))) (λ_ _ _=>some (1,((false,(l.length:Int)),()))) () rfl (by omega) (λc=>by
  simp only;rw [re];rfl) (λk x m c _ a b => .inl ⟨(),by
   simp only;rw [rl b,R5,S9,Sb a,S9,Sb a,X9,X9,Xe,show RR x.2.2.2 x.2.2.2=true by unfold RR;simp,show Hf (NX true (NX true (NX true (NX true true))))=false from rfl,Rd,TM a (by omega)],rfl⟩),SL]
 rfl
section
variable {a b:List S8} (va:VL a) (vb:VL b)
include va vb
theorem Wf {n:Nat} {x:S8} (c:ZY a b n=some x):TU a b (n+1)=TU a b n++[x]:=by
 show (match ZY a b n with
  | some x=>TU a b n++[x]
  | none=>TU a b n)=_
 rw [c]
theorem XD (d:Bool) : ∀ {n:Nat},n<=a.length+b.length->ZF (s0 d) (TU a b n)
 | 0,_=>trivial
 | n+1,h=>by
  obtain ⟨x,c,_⟩:=Vi va vb (n:=n) (by omega);rw [Wf va vb c];refine cA _ _ _ (XD d (by omega)) (iI va vb c) λ_ => ?_;cases n with
  | zero=>rename_i f;cases f
  | succ m =>
   obtain ⟨y,e,_⟩:=Vi va vb (n:=m) (by omega);rw [Wf va vb e,YV];exact eV va vb (by omega) e c
theorem cd (c:Bool) {n:Nat} (h:n<=a.length+b.length):(Ub (s0 c) (TU a b n)).2.1.length<=32/\((Ub (s0 c) (TU a b n)).1=false->(Ub (s0 c) (TU a b n)).2.1=[]) :=
 aT _ _ (XD va vb c h) (by simp) (λ_=>rfl)
theorem nN {n:Nat} (h:n=a.length+b.length):(wk (kx a (TN a b n).1) (kx b (TN a b n).2)).2=true:=by
 obtain ⟨c,hs⟩:=WH va vb (n:=n) (by omega);have d:=c.ia;have e:=c.jb;rw [Y6 (List.getElem?_eq_none (by omega)),Y6 (List.getElem?_eq_none (by omega))];rfl
theorem nO {n:Nat} {x:S8} (c:ZY a b n=some x):(wk (kx a (TN a b n).1) (kx b (TN a b n).2)).2=false/\wn (kx a (TN a b n).1) (kx b (TN a b n).2)=aC a b n:=by
 unfold ZY at c;unfold aC;cases g:XT a b (TN a b n).1 (TN a b n).2 with
 | true=>rw [if_pos g] at c;rw [(gh g).1,(gh g).2,W2 c];exact ⟨rfl,rfl⟩
 | false=>rw [if_neg (by simp [g])] at c;rw [(gi g).1,(gi g).2,W2 c];exact ⟨rfl,rfl⟩
theorem mw:XO [a,b]=some (TU a b (a.length+b.length),(XX a b (a.length+b.length),0)):=by
 have u:=va.len;have w:=vb.len;unfold XO;rw [Yn va vb,SL,Ss,if_pos rfl];refine Eq.trans (b:=bd (loop _ (0,[([],false),([],false)])) _) rfl ?_;refine TZ (x:=(0,((2,[kx a 0,kx b 0]),()))) (Uq (s1:=(1,[kx a 0,([],false)])) (s2:=(2,[kx a 0,kx b 0])) ?_ ?_ rfl) ?_
 ·show bd (Tk (a,((0:Nat):Int))) _=_;rw [XI (by omega)];rfl
 ·show bd (Tk (b,((0:Nat):Int))) _=_;rw [XI (by omega)];rfl
 rw [show ((0:Nat),(((2:Int),[kx a 0,kx b 0]),())).2.1.2=[kx a 0,kx b 0] from rfl,ZH (UC _ _) (UC _ _),SL]
 refine TZ (x:=(0,((TU a b (a.length+b.length),(XX a b (a.length+b.length),((),([((TN a b (a.length+b.length)).1:Int),((TN a b (a.length+b.length)).2:Int)],Tt (kx a (TN a b (a.length+b.length)).1) (kx b (TN a b (a.length+b.length)).2))))),())))
  (XU (λk=>(TU a b k,(XX a b k,((),([((TN a b k).1:Int),((TN a b k).2:Int)],Tt (kx a (TN a b k).1) (kx b (TN a b k).2)))))) 0 (a.length+b.length) rfl (by omega) (by omega) (λk _ r => ?_) ?_) rfl
 ·obtain ⟨x,c,_⟩:=Vi va vb (n:=k) r;obtain ⟨j,s⟩:=nO va vb c;obtain ⟨t,hs⟩:=WH va vb (n:=k) (by omega);have h:(TU a b k).length=k:=Uu va vb (by omega);have i:=ZL a b k;simp only;rw [Xd (UC _ _) (UC _ _),if_neg (by simp [j]),SL,Ss,if_pos rfl,s];rw [Wf va vb c];unfold ZY at c;rw [show XX a b (k+1)=XX a b k++[(aC a b k:Int)] from rfl];unfold aC;rw [show TN a b (k+1)=if XT a b (TN a b k).1 (TN a b k).2=true then ((TN a b k).1+1,(TN a b k).2) else ((TN a b k).1,(TN a b k).2+1) from rfl]
  have l : ∀ {β:Type} (y:S8) (q:Unit->Option β),gd (CD (BD (AS (TU a b k)) (AS [y])) 1048576) q=q ():=λy q=>UB (by simp only [BD,AS,h,List.length_cons,List.length_nil];omega) q;have o : ∀ {β:Type} (y:Int) (q:Unit->Option β),gd (CD (BD (AS (XX a b k)) (AS [y])) 1048576) q=q ():=λy q=>UB (by simp only [BD,AS,i,List.length_cons,List.length_nil];omega) q;cases g:XT a b (TN a b k).1 (TN a b k).2 with
  | true =>
   rw [if_pos g] at c;obtain ⟨d,_⟩:=gh g;obtain ⟨m,f⟩:=Xh (p:=kx a (TN a b k).1) (q:=kx b (TN a b k).2) (k:=kx a ((TN a b k).1+1)) (UC _ _) (UC _ _) (UC _ _) j (by rw [d,W2 c];exact Zf va c)
   have e:rk (kx a (TN a b k).1) (kx b (TN a b k).2) (kx a ((TN a b k).1+1))=(kx a ((TN a b k).1+1),kx b (TN a b k).2):=by
    unfold rk;unfold XT at g;rw [if_pos g]
   rw [e] at f;have hi:=(List.getElem?_eq_some_iff.1 c).1;simp only [if_true];refine (YN 0 rfl (x:=a) rfl).trans ((YN 0 rfl (x:=((TN a b k).1:Int)) rfl).trans ((WG _ rfl c).trans ?_));rw [l,o];refine (YN 0 rfl (x:=((TN a b k).1:Int)) rfl).trans ((YN 0 rfl (x:=((TN a b k).1:Int)) rfl).trans ((YN 0 rfl (x:=a) rfl).trans ((YN 0 rfl (x:=Rl .i64 ((TN a b k).1:Int) 1) rfl).trans ?_)));rw [TJ (by omega),XI (by omega),SL,f,SL];rfl
  | false =>
   rw [if_neg (by simp [g])] at c;obtain ⟨d,_⟩:=gi g;obtain ⟨m,f⟩:=Xh (p:=kx a (TN a b k).1) (q:=kx b (TN a b k).2) (k:=kx b ((TN a b k).2+1)) (UC _ _) (UC _ _) (UC _ _) j (by rw [d,W2 c];exact Zf vb c)
   have e:rk (kx a (TN a b k).1) (kx b (TN a b k).2) (kx b ((TN a b k).2+1))=(kx a (TN a b k).1,kx b ((TN a b k).2+1)):=by
    unfold rk;unfold XT at g;rw [if_neg (by simp [g])]
   rw [e] at f;have hi:=(List.getElem?_eq_some_iff.1 c).1;simp only [Bool.false_eq_true,if_false];refine (YN 1 rfl (x:=b) rfl).trans ((YN 1 rfl (x:=((TN a b k).2:Int)) rfl).trans ((WG _ rfl c).trans ?_));rw [l,o];refine (YN 1 rfl (x:=((TN a b k).2:Int)) rfl).trans ((YN 1 rfl (x:=((TN a b k).2:Int)) rfl).trans ((YN 1 rfl (x:=b) rfl).trans ((YN 1 rfl (x:=Rl .i64 ((TN a b k).2:Int) 1) rfl).trans ?_)));rw [TJ (by omega),XI (by omega),SL,f,SL];rfl
 ·simp only;rw [Xd (UC _ _) (UC _ _),if_pos (nN va vb rfl),SL,Ss,if_neg (by decide),Ss,if_neg (by decide)]
end
end
section
open Go Go.Proofs.YtfilfloanndddaaGreat.Sv
theorem eM {β:Type} {out:List S8} {n:Nat} (h:out.length<=n) (a:n<=20000) (x:S8) (k:Unit->Option β):gd (CD (BD out.length [x].length) 1048576) k=k ():=ao h a x k
section
variable {a b:List S8} (va:VL a) (vb:VL b)
include va vb
theorem XP {n:Nat} (h:n<=a.length+b.length):(TU a b (a.length+b.length)).take n=TU a b n:=cm va vb (Nat.le_refl _) h
theorem YM {n:Nat} {x:S8} (c:Bool) (d:ZY a b n=some x):Ub (s0 c) (TU a b (n+1))=(true,(x.1,c)):=by
 rw [Wf va vb d,YV,W3]
theorem cy (c:Bool) {n:Nat} (h:n<=a.length+b.length):WF (VC a b c n)=some 0:=by
 obtain ⟨e,hs⟩:=WH va vb (n:=n) h;have i:=va.len;have j:=vb.len;have f:=Xo (s0 c) (TU a b n);have g:(TU a b n).length=n:=Uu va vb h;unfold WF;rw [show (VC a b c n).1=Yt a b (TN a b n).1 (TN a b n).2 from rfl,YX va vb e,SL,Ss,if_pos rfl];refine TZ (x:=(0,((2,(n:Int)),()))) (Uq (s1:=(1,((TN a b n).1:Int))) (s2:=(2,(n:Int))) ?_ ?_ rfl) ?_
 ·refine (Zb 0 rfl rfl (x:=((TN a b n).1:Int)) rfl).trans ?_;show some (LR.nx ((1:Int),Rl .i64 0 ((TN a b n).1:Int)))=_;rw [R9 (by omega),Int.zero_add]
 ·refine (Zb 1 rfl rfl (x:=((TN a b n).2:Int)) rfl).trans ?_;show some (LR.nx ((2:Int),Rl .i64 ((TN a b n).1:Int) ((TN a b n).2:Int)))=_;rw [R9 (by omega),show ((TN a b n).1:Int)+((TN a b n).2:Int)=(n:Int) by omega]
 simp only [TH,TF];rw [show (VC a b c n).2.2.1=V5 (s0 c) (TU a b n) from rfl,show (VC a b c n).2.2.2=(n:Int) from rfl,show (VC a b c n).2.1=Ub (s0 c) (TU a b n) from rfl,Sp,if_neg (by omega),Sp,if_neg (by omega),Ss,if_pos rfl];rw [show (Yt a b (TN a b n).1 (TN a b n).2).1=[a,b] from rfl,mw va vb,SL,Ss,if_pos rfl,S9];rw [UB (by rw [Uu va vb (Nat.le_refl _)];exact h),UB (Nat.zero_le _)];rw [show Dy (TU a b (a.length+b.length)) 0 n=TU a b n from by unfold Dy;rw [List.drop_zero,Nat.sub_zero];exact XP va vb h,W3];rw [show (s0 c).2.2=c from rfl,ej (by omega) (XD va vb c h),SL,Ss,if_pos rfl];unfold Uo;rw [SL,Sp];cases n with
 | zero =>
  rw [if_neg (by omega),Zn _ (by omega),SL,Yk,Rd];show br (Hf (NX (Sv.beq false false) (NX (seq [] []) (NX (Sv.beq c c) true)))) _ _=_;rw [Xe,Xe,X9];rfl
 | succ m =>
  obtain ⟨x,d,_⟩:=Vi va vb (n:=m) (by omega);rw [if_pos (by omega),show Rp .i64 ((m+1:Nat):Int) 1=(m:Int) by rw [SB (by omega)];omega,S9];rw [Sb (x:=x) (by rw [Xv va vb (Nat.le_refl _) (by omega)];exact d),Zn _ (by omega),SL,Yk,Rd,YM va vb c d];rw [Xe,Xe,X9];rfl
theorem iE {n:Nat} (h:n<=a.length+b.length):Wp (Yg a b n)=some (((a.length+b.length-n:Nat):Int),0):=by
 obtain ⟨c,hs⟩:=WH va vb (n:=n) h;have f:=va.len;have g:=vb.len;have d:=c.ia;have e:=c.jb;unfold Wp;rw [show Yg a b n=Yt a b (TN a b n).1 (TN a b n).2 from rfl,YX va vb c,SL,Ss,if_pos rfl];refine TZ (x:=(0,((2,((a.length+b.length-n:Nat):Int)),()))) (Uq (s1:=(1,(a.length:Int)-((TN a b n).1:Int))) (s2:=(2,((a.length+b.length-n:Nat):Int))) ?_ ?_ rfl) rfl
 ·refine (Zb 0 rfl rfl (x:=a) rfl).trans ((WG 0 rfl (x:=((TN a b n).1:Int)) rfl).trans ?_);simp only [TH,TF];rw [SB (by omega)];show some (LR.nx ((1:Int),Rl .i64 0 ((a.length:Int)-((TN a b n).1:Int))))=_;rw [R9 (by omega),Int.zero_add]
 ·refine (Zb 1 rfl rfl (x:=b) rfl).trans ((WG 1 rfl (x:=((TN a b n).2:Int)) rfl).trans ?_);simp only [TH,TF];rw [SB (by omega)];show some (LR.nx ((2:Int),Rl .i64 ((a.length:Int)-((TN a b n).1:Int)) ((b.length:Int)-((TN a b n).2:Int))))=_;rw [R9 (by omega),show (a.length:Int)-((TN a b n).1:Int)+((b.length:Int)-((TN a b n).2:Int))=((a.length+b.length-n:Nat):Int) by omega]
theorem ZT (c:Bool) {n:Nat} (h:n<=a.length+b.length):UD (VC a b c n)=some (((a.length+b.length-n:Nat):Int),0):=by
 unfold UD;rw [cy va vb c h,SL,Ss,if_pos rfl,show (VC a b c n).1=Yg a b n from rfl,iE va vb h];rfl
theorem Zl (c:Bool) {n:Nat} {x:S8} (d:ZY a b n=some x):VC a b c (n+1)=(Yg a b (n+1),((true,(x.1,c)),(V5 (s0 c) (TU a b n)++(if keep (Ub (s0 c) (TU a b n)) x=true then [x] else []),((n+1:Nat):Int)))):=by
 unfold VC;rw [Wf va vb d,YV,W3,bS]
theorem YA (c:Bool) {n:Nat} {x:S8} (h:n<a.length+b.length) (e:ZY a b n=some x):UT (Ub (s0 c) (TU a b n),x)=some (keep (Ub (s0 c) (TU a b n)) x,((true,(x.1,c)),0)):=by
 have d:=cd va vb c (n:=n) (by omega);rw [fY d.1 d.2 (iI va vb e),W3];intro g;cases n with
 | zero=>cases g
 | succ m =>
  obtain ⟨y,f,_⟩:=Vi va vb (n:=m) (by omega);rw [YM va vb c f];exact eV va vb (by omega) f e
def nV (k:Int) (s:XQ):Int×(Int×(List (List S8)×(List Int×(List TD×(List Int×(Int×(Bool×(XL×(Bool×(List S8×Int)))))))))) :=
 (k,(0,(s.1.1,(s.1.2.1,(s.1.2.2.1,(s.1.2.2.2.1,(s.1.2.2.2.2,(s.2.1.1,(s.2.1.2.1,(s.2.1.2.2,(s.2.2.1,s.2.2.2)))))))))))
theorem ad (c:Bool) {n:Nat} (h:n<=a.length+b.length) {k:Nat}:UO (VC a b c n,(k:Int))=some (VC a b c (n+min k (a.length+b.length-n)),(((min k (a.length+b.length-n):Nat):Int),0)):=by
 have w:=va.len;have z:=vb.len;have d : ∀ m,m<=a.length+b.length->(V5 (s0 c) (TU a b m)).length<=m:=λm s=>by have:=Xo (s0 c) (TU a b m);have:=Uu va vb s;omega
 obtain ⟨u,t⟩ : ∃ u,u=min k (a.length+b.length-n):=⟨_,rfl⟩
 have i:Sz (k:Int) ((a.length+b.length-n:Nat):Int)=(u:Int):=by
  unfold Sz;split<;>omega
 rw [<- t];unfold UO;rw [ZT va vb c h,SL,Ss,if_pos rfl];simp only [i,TH,TF];rw [Sr,if_neg (by omega),show (VC a b c n).2.2.2=(n:Int) from rfl,R9 (by omega),Sp,if_neg (by omega)];rw [show (VC a b c n).2.2.1=V5 (s0 c) (TU a b n) from rfl,show (VC a b c n).1=Yg a b n from rfl,UB (by have:=d n h;omega),UB (show (Yg a b n).2.1.length<=1048576 from (show 2<=1048576 by omega)),Sr];by_cases r:u=0
 ·rw [r,if_neg (by omega)];rfl
 rw [if_pos (by omega)];obtain ⟨x,o,_⟩:=Vi va vb (n:=n) (by omega);rw [Z0 va vb (by omega) o,SL,Ss,if_pos rfl,show (VC a b c n).2.1=Ub (s0 c) (TU a b n) from rfl,YA va vb c (by omega) o,SL,Ss,if_pos rfl]
 have q : ∀ j,1<=j->j<u -> ∃ y,ZY a b (n+j)=some y:=λj f g=>by
  obtain ⟨y,e,_⟩:=Vi va vb (n:=n+j) (by omega);exact ⟨y,e⟩
 rw [Sx];have hS:=Zl va vb c o;cases p:keep (Ub (s0 c) (TU a b n)) x with
 | true =>
  rw [p] at hS;rw [if_pos rfl,eM (d n h) (by omega)];refine TZ (x:=(1,(nV u (VC a b c (n+u)),()))) (XU (λj=>nV j (VC a b c (n+j))) 1 u ?_ (by omega) (by omega) (λj f g => ?_) ?_) ?_
  ·rw [hS,show Rl .i64 (n:Int) 1=((n+1:Nat):Int) from TJ (by omega)];rfl
  ·obtain ⟨y,e⟩:=q j f g;show br (SW (j:Int) (u:Int)) _ _=_;rw [Sr,if_pos (by omega)];show bd (UP (Yg a b (n+j))) _=_;rw [Z0 va vb (by omega) e,SL,Ss,if_pos rfl];show bd (UT (Ub (s0 c) (TU a b (n+j)),y)) _=_;rw [YA va vb c (by omega) e,SL,Ss,if_pos rfl,Sx,show n+(j+1)=n+j+1 by omega,Zl va vb c e];cases l:keep (Ub (s0 c) (TU a b (n+j))) y with
   | true =>
    rw [if_pos rfl,if_pos rfl];show gd (CD (BD (AS (V5 (s0 c) (TU a b (n+j)))) (AS [y])) 1048576) _=_;rw [ao (d _ (by omega)) (by omega)];show some (LR.nx (Rl .i64 (j:Int) 1,_))=_;unfold nV;simp only [TJ (show j+1<=9223372036854775807 by omega),Ik];rw [show Rl .i64 (VC a b c (n+j)).2.2.2 1=((n+j+1:Nat):Int) from TJ (by omega)];rfl
   | false =>
    rw [if_neg (by simp),if_neg (by simp)];show some (LR.nx (Rl .i64 (j:Int) 1,_))=_;unfold nV;simp only [TJ (show j+1<=9223372036854775807 by omega)];rw [show Rl .i64 (VC a b c (n+j)).2.2.2 1=((n+j+1:Nat):Int) from TJ (by omega),List.append_nil];rfl
  ·show br (SW (u:Int) (u:Int)) _ _=_;rw [Sr,if_neg (by omega)]
  ·rfl
 | false =>
  rw [p] at hS;rw [if_neg (by simp)];refine TZ (x:=(1,(nV u (VC a b c (n+u)),()))) (XU (λj=>nV j (VC a b c (n+j))) 1 u ?_ (by omega) (by omega) (λj f g => ?_) ?_) ?_
  ·rw [hS,show Rl .i64 (n:Int) 1=((n+1:Nat):Int) from TJ (by omega),if_neg (by simp),List.append_nil];rfl
  ·obtain ⟨y,e⟩:=q j f g;show br (SW (j:Int) (u:Int)) _ _=_;rw [Sr,if_pos (by omega)];show bd (UP (Yg a b (n+j))) _=_;rw [Z0 va vb (by omega) e,SL,Ss,if_pos rfl];show bd (UT (Ub (s0 c) (TU a b (n+j)),y)) _=_;rw [YA va vb c (by omega) e,SL,Ss,if_pos rfl,Sx,show n+(j+1)=n+j+1 by omega,Zl va vb c e];cases l:keep (Ub (s0 c) (TU a b (n+j))) y with
   | true =>
    rw [if_pos rfl,if_pos rfl];show gd (CD (BD (AS (V5 (s0 c) (TU a b (n+j)))) (AS [y])) 1048576) _=_;rw [ao (d _ (by omega)) (by omega)];show some (LR.nx (Rl .i64 (j:Int) 1,_))=_;unfold nV;simp only [TJ (show j+1<=9223372036854775807 by omega),Ik];rw [show Rl .i64 (VC a b c (n+j)).2.2.2 1=((n+j+1:Nat):Int) from TJ (by omega)];rfl
   | false =>
    rw [if_neg (by simp),if_neg (by simp)];show some (LR.nx (Rl .i64 (j:Int) 1,_))=_;unfold nV;simp only [TJ (show j+1<=9223372036854775807 by omega)];rw [show Rl .i64 (VC a b c (n+j)).2.2.2 1=((n+j+1:Nat):Int) from TJ (by omega),List.append_nil];rfl
  ·show br (SW (u:Int) (u:Int)) _ _=_;rw [Sr,if_neg (by omega)]
  ·rfl
end
end
section
open Go Go.Proofs.YtfilfloanndddaaGreat.Sv
theorem We {α β σ S:Type} {l:List α} (mk:Nat->σ->S) (I:List α->Nat->σ->Prop) (Q:β->Prop) {f:S->Option (LR S β)} {s:S} (a:σ) (t:s=mk 0 a) (z:l.length<=9223372036854775807) (hi:I l 0 a)
  (w : ∀ a,I [] l.length a -> ∃ r,f (mk l.length a)=some (.dn r)/\Q r)
  (hc : ∀ k x m a,l.drop k=x::m->l[k]? = some x->k<l.length->I (x::m) k a->(∃ b,f (mk k a)=some (.nx (mk (k+1) b))/\I m (k+1) b) \/ ∃ r,f (mk k a)=some (.dn r)/\Q r) : ∃ r,loop f s=some r/\Q r:=by
 subst t
 have h : ∀ (m:List α) (k n:Nat) (a:σ),l.drop k=m->k<=l.length->m.length<n->I m k a -> ∃ r,IJ n f (mk k a)=some r/\Q r:=by
  intro m
  induction m with
  | nil =>
   intro k n a e u g hi;obtain ⟨n,rfl⟩ : ∃ j,n=j+1:=⟨n-1,by omega⟩
   have o:k=l.length:=by
    have:=congrArg List.length e;simp at this;omega
   subst o;obtain ⟨r,c,d⟩:=w a hi;exact ⟨r,Tp c,d⟩
  | cons x m y =>
   intro k n a e u g hi;obtain ⟨n,rfl⟩ : ∃ j,n=j+1:=⟨n-1,by omega⟩
   have q:l[k]? = some x:=by
    have:=congrArg List.head? e;rw [List.head?_drop] at this;simpa using this
   have i:k<l.length:=(List.getElem?_eq_some_iff.1 q).1
   have p:l.drop (k+1)=m:=by
    have:=congrArg List.tail e;rw [List.tail_drop] at this;simpa using this
   rcases hc k x m a e q i hi with ⟨b,c,d⟩ | ⟨r,c,d⟩
   ·rw [Th c];exact y (k+1) n b p (by omega) (by simp at g;omega) d
   ·exact ⟨r,Tp c,d⟩
 exact h l 0 _ a (by simp) (by omega) (by omega) hi
theorem Xu {α:Type} (l m:List α) (i:l.length=m.length) (n:l.length<=9223372036854775806) {f:(Int×Bool)->Option (LR (Int×Bool) (Nat×((Int×Bool)×Unit)))}
  (hs : ∀ (k:Nat) x y,l[k]? = some x->m[k]? = some y->(x=y->f ((k:Int),false)=some (.nx (((k+1:Nat):Int),false)))/\(x≠y->f ((k:Int),false)=some (.dn (0,(((k:Int),false),())))))
  (g:f ((l.length:Int),false)=some (.dn (1,(((l.length:Int),false),())))) :
  ∃ r,loop f (0,false)=some r/\((l=m/\r.1=1)\/(l≠m/\r.1=0/\r.2.1.2=false)):=by
 refine We (l:=l) (σ:=Unit) (λk _=>((k:Int),false)) (λt k _=>t=l.drop k/\l.take k=m.take k) _ () rfl (by omega) ⟨by simp,by simp⟩ (λj h => ?_) (λk x t j d b o h => ?_)
 ·refine ⟨_,g,.inl ⟨?_,rfl⟩⟩;have:=h.2;rw [List.take_length,i,List.take_length] at this;exact this
 ·have c:k<m.length:=by omega
  have a:m[k]? = some m[k]:=by simp [c]
  by_cases e:x=m[k]
  ·refine .inl ⟨(),(hs k x m[k] b a).1 e,?_,?_⟩
   ·have:=congrArg List.tail d;rw [List.tail_drop] at this;simp at this;exact this.symm
   ·rw [List.take_add_one,List.take_add_one,h.2,b,a,e]
  ·refine .inr ⟨_,(hs k x m[k] b a).2 e,.inr ⟨?_,rfl,rfl⟩⟩;intro e2;subst e2;rw [b] at a;exact e (Option.some.inj a)
theorem beq_eq (a b:Bool):Sv.beq a b=decide (a=b):=by cases a<;>cases b<;>rfl
theorem VZ (a b:Int):RR a b=decide (a=b):=by
 unfold RR;by_cases h:a=b<;>simp [h]
theorem X2 (p q:Prop) [Decidable p] [Decidable q]:NX (decide p) (decide q)=decide (p/\q):=by unfold NX;simp
theorem Us (p:Prop) [Decidable p]:Hf (decide p)=decide (¬ p):=by unfold Hf;simp
theorem Yu (a:Bool):NX a true=a:=by cases a<;>rfl
theorem fB (l m:List TD) (s:l.length<=9223372036854775806):TS (l,m)=some (decide (l=m)):=by
 unfold TS;simp only [TH,TF];rw [Ss];by_cases b:(l.length:Int)=(m.length:Int)
 ·rw [if_pos b];have c:l.length=m.length:=by omega
  obtain ⟨r,p,a⟩:=Xu l m c s (f:=λs0=>br (SW s0.1 (l.length:Int)) (λ_=>RX s0.1 λt=>ix l t λn=>RX s0.1 λw=>ix m w λo=>br (Hf (NX (seq n.1 o.1) (NX (Sv.beq n.2 o.2) true))) (λ_=>some (.dn ((0,((s0.1,false),()))))) λ_=>some (.nx (Rl .i64 s0.1 1,s0.2))) λ_=>some (.dn ((1,(s0,()))))) (λk x y d j=>by
    have i:=(List.getElem?_eq_some_iff.1 d).1
    have g : ∀ {β:Type} (u v:Unit->Option β),br (Hf (NX (seq x.1 y.1) (NX (Sv.beq x.2 y.2) true))) u v=if x=y then v () else u ():=by
     intro β u v;rw [Yu,Yr,beq_eq,X2,Us,Ux];by_cases e:x=y
     ·subst e;simp
     ·rw [if_pos (λh=>e (Prod.ext h.1 h.2)),if_neg e]
    constructor
    ·intro e;simp only;rw [rl i,R5,S9,Sb d,S9,Sb j,g,if_pos e,TJ (by omega)]
    ·intro e;simp only
     rw [rl i,R5,S9,Sb d,S9,Sb j,g,if_neg e]) (by simp only;rw [re];rfl)
  refine TZ p ?_;rcases a with ⟨e,a⟩ | ⟨e,a,q⟩
  ·rw [SM,a];simp [e]
  ·rw [SM,a];simp [e,q]
 ·rw [if_neg b];have : ¬ l=m:=λe=>b (by rw [e]);simp [this]
theorem YT (l m:List Int) (n:l.length<=9223372036854775806):TK (l,m)=some (decide (l=m)):=by
 unfold TK;simp only [TH,TF];rw [Ss];by_cases b:(l.length:Int)=(m.length:Int)
 ·rw [if_pos b];have c:l.length=m.length:=by omega
  obtain ⟨r,i,a⟩:=Xu l m c n (f:=λs0=>br (SW s0.1 (l.length:Int)) (λ_=>RX s0.1 λo=>ix l o λq=>RX s0.1 λp=>ix m p λs=>br (RT q s) (λ_=>some (.dn ((0,((s0.1,false),()))))) λ_=>some (.nx (Rl .i64 s0.1 1,s0.2))) λ_=>some (.dn ((1,(s0,()))))) (λk x y d h=>by
    have g:=(List.getElem?_eq_some_iff.1 d).1;constructor
    ·intro e;simp only;rw [rl g,R5,S9,Sb d,S9,Sb h,Ss,if_pos e,TJ (by omega)]
    ·intro e;simp only
     rw [rl g,R5,S9,Sb d,S9,Sb h,Ss,if_neg e]) (by simp only;rw [re];rfl)
  refine TZ i ?_;rcases a with ⟨e,a⟩ | ⟨e,a,j⟩
  ·rw [SM,a];simp [e]
  ·rw [SM,a];simp [e,j]
 ·rw [if_neg b];have : ¬ l=m:=λe=>b (by rw [e]);simp [this]
theorem Zs {β:Type} (x y:S8) (u v:Unit->Option β):br (Hf (NX (seq x.1 y.1) (NX (seq x.2.1 y.2.1) (NX (Sv.beq x.2.2.1 y.2.2.1) (NX (RR x.2.2.2 y.2.2.2) true))))) u v=if x=y then v () else u ():=by
 rw [Yu,Yr,Yr,beq_eq,VZ,X2,X2,X2,Us,Ux];by_cases e:x=y
 ·subst e;simp
 ·rw [if_pos (λh=>e (Prod.ext h.1 (Prod.ext h.2.1 (Prod.ext h.2.2.1 h.2.2.2)))),if_neg e]
theorem Wm (l m:List S8) (p:l.length<=9223372036854775806):Tx (l,m)=some (decide (l=m)):=by
 unfold Tx;simp only [TH,TF];rw [Ss];by_cases d:(l.length:Int)=(m.length:Int)
 ·rw [if_pos d];have g:l.length=m.length:=by omega
  obtain ⟨r,n,a⟩:=Xu l m g p (f:=λs0=>br (SW s0.1 (l.length:Int)) (λ_=>RX s0.1 λq=>ix l q λb=>RX s0.1 λs=>ix m s λc=>br (Hf (NX (seq b.1 c.1) (NX (seq b.2.1 c.2.1) (NX (Sv.beq b.2.2.1 c.2.2.1) (NX (RR b.2.2.2 c.2.2.2) true))))) (λ_=>some (.dn ((0,((s0.1,false),()))))) λ_=>some (.nx (Rl .i64 s0.1 1,s0.2))) λ_=>some (.dn ((1,(s0,()))))) (λk x y h j=>by
    have i:=(List.getElem?_eq_some_iff.1 h).1;constructor
    ·intro e;simp only;rw [rl i,R5,S9,Sb h,S9,Sb j,Zs,if_pos e,TJ (by omega)]
    ·intro e;simp only
     rw [rl i,R5,S9,Sb h,S9,Sb j,Zs,if_neg e]) (by simp only;rw [re];rfl)
  refine TZ n ?_;rcases a with ⟨e,a⟩ | ⟨e,a,o⟩
  ·rw [SM,a];simp [e]
  ·rw [SM,a];simp [e,o]
 ·rw [if_neg d];have : ¬ l=m:=λe=>d (by rw [e]);simp [this]
theorem Xa (l m:List S8) (a:l.length<=9223372036854775806):UG (l,m)=some (decide (l=m)):=by
 unfold UG;rw [Wm l m a];rfl
instance:DecidableEq S8:=inferInstance
instance:DecidableEq (List S8):=inferInstance
instance:DecidableEq (List (List S8)):=inferInstance
instance:DecidableEq TD:=inferInstance
instance:DecidableEq Vk:=inferInstance
instance:DecidableEq TC:=inferInstance
instance:DecidableEq UI:=inferInstance
instance:DecidableEq XQ:=inferInstance
theorem bc (x y:XQ) (n:x.1.1.length<=1000) (i : ∀ l∈x.1.1,l.length<=1000000) (o:x.1.2.1.length<=1000) (p:x.1.2.2.1.length<=1000) (q:x.1.2.2.2.1.length<=1000) (s:x.2.2.1.length<=1000000):VH (x,y)=some (decide (x=y)):=by
 obtain ⟨⟨a,E,F,G,M⟩,⟨xs,L,J⟩,I,K⟩:=x;obtain ⟨⟨b,N,P,S,Z⟩,⟨X,Y,O⟩,W,U⟩:=y;simp only at n i o p q s;unfold VH;simp only [TH,TF];rw [Ss];by_cases g:(a.length:Int)=(b.length:Int)
 ·rw [if_pos g];have h:a.length=b.length:=by omega
  obtain ⟨r,z,d⟩:=Xu a b h (by omega) (f:=λs0=>br (SW s0.1 (a.length:Int)) (λ_=>RX s0.1 λu=>ix a u λC=>RX s0.1 λw=>ix b w λD=>bd (UG (C,D)) λB=>br (Hf B) (λ_=>some (.dn ((0,((s0.1,false),()))))) λ_=>some (.nx (Rl .i64 s0.1 1,s0.2))) λ_=>some (.dn ((1,(s0,()))))) (λk x y c m=>by
    have j:=(List.getElem?_eq_some_iff.1 c).1;have t:=i x (List.mem_of_getElem? c);constructor
    ·intro e;simp only;rw [rl j,R5,S9,Sb c,S9,Sb m,Xa _ _ (by omega),SL,Us,Ux,if_neg (by simp [e]),TJ (by omega)]
    ·intro e;simp only
     rw [rl j,R5,S9,Sb c,S9,Sb m,Xa _ _ (by omega),SL,Us,Ux,if_pos e]) (by simp only;rw [re];rfl)
  refine TZ z ?_;simp only [YT _ _ (show E.length<=9223372036854775806 by omega),YT _ _ (show G.length<=9223372036854775806 by omega),fB _ _ (show F.length<=9223372036854775806 by omega),Xa _ _ (show I.length<=9223372036854775806 by omega),SL,Ux,VZ,Yr,beq_eq,Yu,X2,SM];rw [Sx];rcases d with ⟨e,d⟩ | ⟨e,d,A⟩
  ·rw [if_neg (show ¬ r.1=0 by omega)]
   repeat' split
   all_goals simp_all
  ·rw [if_pos d,if_neg (show ¬ r.2.1.2=true by simp [A])];simp [e]
 ·rw [if_neg g];have : ¬ a=b:=λe=>g (by rw [e]);simp [this]
end
section
open Go Go.Proofs.YtfilfloanndddaaGreat.Sv
def kR (a:List Int) (most:Int) (r:TY):Int :=
 if r.1<1\/r.1>1000000 then 7 else if (WR r.2).2≠0 then (WR r.2).2 else if r.2.length=0 then 4 else if (r.2.length:Int)>most then 3 else if r.1∈a then 8 else 0
def Yb (most:Int):Nat->List Int->List TY->Option (Nat×Int)
 | _,_,[]=>none
 | k,ids,r::rs=>if kR ids most r≠0 then some (k,kR ids most r) else Yb most (k+1) (ids++[r.1]) rs
def UW (B:Int) (i:Nat):Int:=B*2 ^ i
def Ya (B:Int):Nat->List Int->List (List TY)->Option (Nat×(Nat×Int))
 | _,_,[]=>none
 | i,ids,rs::ls=>if rs.length>2 then some (i,(0,3)) else match Yb (UW B i) 0 ids rs with
  | some (k,e)=>some (i,(k,e))
  | none=>Ya B (i+1) (ids++rs.map (·.1)) ls
def V3 (L:TB):Int×(Int×Int) :=
 if L.1<1\/L.1>16 then (0,(0,7)) else if L.2.length>12 then (0,(0,3)) else match Ya L.1 0 [] L.2 with
  | some (i,(k,e))=>((i:Int),((k:Int),e))
  | none=>if L.2.getLast? = some [] then (((L.2.length-1:Nat):Int),(0,6)) else (0,(0,0))
theorem eh {most:Int} : ∀ {rs:List TY} {k:Nat} {a:List Int} {c:Nat} {e:Int},Yb most k a rs=some (c,e)->e≠0
 | [],_,_,_,_,h=>by cases h
 | r::rs,k,a,c,e,h=>by
  unfold Yb at h;by_cases b:kR a most r≠0
  ·rw [if_pos b] at h;cases h;exact b
  ·rw [if_neg b] at h;exact eh h
theorem ax {B:Int} : ∀ {ls:List (List TY)} {i:Nat} {a:List Int} {d f:Nat} {e:Int},Ya B i a ls=some (d,(f,e))->e≠0
 | [],_,_,_,_,_,h=>by cases h
 | rs::ls,i,a,d,f,e,h=>by
  unfold Ya at h;by_cases c:rs.length>2
  ·rw [if_pos c] at h;cases h;decide
  ·rw [if_neg c] at h;cases b:Yb (UW B i) 0 a rs with
   | none=>rw [b] at h;exact ax h
   | some x=>rw [b] at h;cases h;exact eh b
def aM (a:List Int):List (Int×Bool):=a.map λi=>(i,true)
theorem iF (c:List Int) (i:Int):Rt (MI (λa b=>RR a b) (aM c) i) false=decide (i∈c):=by
 induction c with
 | nil=>rfl
 | cons j c d =>
  show Rt (bif RR i j then some true else MI (λa b=>RR a b) (aM c) i) false=_
  rw [VZ];by_cases h:i=j
  ·simp [h,Rt]
  ·simp only [h,decide_false,cond_false,List.mem_cons,false_or];exact d
theorem iH {c:List Int} {i:Int} (h:i ∉ c):IR (λa b=>RR a b) (aM c) i true=aM (c++[i]):=by
 induction c with
 | nil=>rfl
 | cons j c f =>
  show (bif RR i j then (i,true)::aM c else (j,true)::IR (λa b=>RR a b) (aM c) i true)=_
  rw [VZ];have d : ¬ i=j:=λe=>h (by simp [e]);rw [f (λe=>h (by simp [e]))];simp only [d,decide_false,cond_false];rfl
theorem bC (r:TY) (b:r.2.length<=9223372036854775807):W0 r=some (if r.1<1\/r.1>1000000 then (-1,7) else WR r.2):=by
 unfold W0;rw [Sr,Sp,XM _ b,SL];by_cases h:r.1<1
 ·rw [if_pos h,if_pos (.inl h)]
 ·rw [if_neg h];by_cases a:r.1>1000000
  ·rw [if_pos a,if_pos (.inr a)]
  ·rw [if_neg a,if_neg (by omega)]
theorem aU (r:TY) (most:Int) (b:r.2.length<=9223372036854775807):U0 (r,most)=some (kR [] most r):=by
 unfold U0 kR;rw [bC r b,SL];simp only [TH,TF];by_cases h:r.1<1\/r.1>1000000
 ·rw [if_pos h,if_pos h];rfl
 ·rw [if_neg h,if_neg h,Ss];by_cases a:(WR r.2).2=0
  ·rw [if_pos a,if_neg (by simp [a]),Sn,Sp]
   repeat' split
   all_goals first | rfl | (exfalso;omega) | simp_all
  ·rw [if_neg a,if_pos a]
theorem na (a:List Int) (most:Int) (r:TY):kR a most r=if kR [] most r=0 then (if r.1∈a then 8 else 0) else kR [] most r:=by
 unfold kR
 repeat' split
 all_goals simp_all
theorem nj (i:Nat) (h:i<=12):(2:Int) ^ i<=4096/\1<=(2:Int) ^ i:=by
 have a:(2:Nat) ^ i<=2 ^ 12:=Nat.pow_le_pow_right (by omega) h;have b:1<=(2:Nat) ^ i:=Nat.one_le_two_pow;have c:((2 ^ i:Nat):Int)=(2:Int) ^ i:=by simp
 omega
theorem cO {B:Int} {i:Nat} (a:1<=B) (b:B<=16) (hi:i<=12):1<=UW B i/\UW B i<=65536:=by
 obtain ⟨c,d⟩:=nj i hi;unfold UW;constructor
 ·have:=Int.mul_le_mul a d (by omega) (by omega);omega
 ·have:=Int.mul_le_mul b c (by omega) (by omega);omega
theorem ZM {B:Int} {i:Nat} (a:1<=B) (b:B<=16) (hi:i<=12):SZ .i64 B (i:Int)=UW B i:=by
 have c:=cO a b hi;unfold SZ;rw [show min ((i:Int).toNat) IntKind.i64.bits=i by rw [Int.toNat_natCast];exact Nat.min_eq_left (Nat.le_trans hi (by decide))];unfold UW at c ⊢;exact IntWalk.i64_in _ (by omega)
def Q1:Option (Nat×(Nat×Int))->Int->Int->Int->Prop
 | some (i,(k,e)),a,b,c=>a=(k:Int)/\b=(i:Int)/\c=e
 | none,_,_,c=>c=0
def Q2 (m:List (Int×Bool)):Option (Nat×Int)->Nat->Int->Int->List (Int×Bool)->Prop
 | some (k,e),r,a,c,_=>r=0/\a=(k:Int)/\c=e
 | none,r,_,c,m'=>r=1/\c=0/\m'=m
theorem Ym (L:TB) (hb:L.2.length<=1048576) (hr : ∀ rs∈L.2,rs.length<=1048576 /\ ∀ r∈rs,r.2.length<=9223372036854775807):U7 L=some (V3 L):=by
 unfold U7 V3;simp only [TH,TF];rw [Sr,Sp,Sp];by_cases z:L.1<1
 ·rw [if_pos z,if_pos (.inl z)]
 rw [if_neg z];by_cases A:L.1>16
 ·rw [if_pos A,if_pos (.inr A)]
 rw [if_neg A,if_neg (show ¬ (L.1<1\/L.1>16) by omega)];by_cases hl:(L.2.length:Int)>12
 ·rw [if_pos hl,if_pos (by omega)]
 rw [if_neg hl,if_neg (by omega)];have hl2:L.2.length<=12:=by omega
 obtain ⟨T,I⟩ : ∃ T,T=Ya L.1 0 [] L.2:=⟨_,rfl⟩;rw [<- I]
 have C : ∀ W:Int,W=0->T=none->(br (RT W 0) (λ_=>(none:Option (Int×(Int×Int)))) λ_=>br (SU (L.2.length:Int) 0) (λ_=>RX (Rp .i64 (L.2.length:Int) 1) λO=>ix L.2 O λX=>br (RR (X.length:Int) 0) (λ_=>some ((Rp .i64 (L.2.length:Int) 1,(0,6)))) λ_=>some ((0,(0,0)))) λ_=>some ((0,(0,0))))=some (if L.2.getLast? = some [] then (((L.2.length-1:Nat):Int),(0,6)) else (0,(0,0))):=by
  intro W o _;rw [Ss,if_pos o,Sp];by_cases hn:L.2=[]
  ·rw [hn];rfl
  ·have hp:=List.length_pos_iff.2 hn;rw [if_pos (by omega),show Rp .i64 (L.2.length:Int) 1=((L.2.length-1:Nat):Int) by rw [SB (by omega)];omega,S9,List.getLast?_eq_getElem?];have n:L.2[L.2.length-1]? = some (L.2[L.2.length-1]'(by omega)):=by simp
   rw [Sb n,n,Sn];by_cases N:L.2[L.2.length-1]'(by omega)=[]
   ·rw [N];simp
   ·rw [if_neg (by have:=List.length_pos_iff.2 N;omega),if_neg (by simp [N])]
 obtain ⟨r,S,b⟩:=We (l:=L.2) (σ:=Int×(Int×List Int)) (λi j=>(j.1,(j.2.1,((0:Int),((i:Int),aM j.2.2)))))
  (λm i j=>Ya L.1 i j.2.2 m=T) (λ(r:Nat×((Int×(Int×(Int×(Int×List (Int×Bool)))))×Unit))=>Q1 T r.2.1.1 r.2.1.2.1 r.2.1.2.2.1)
  (f:=λs0=>br (SW s0.2.2.2.1 (L.2.length:Int)) (λ_=>RX s0.2.2.2.1 λk1=>ix L.2 k1 λY=>br (SU (Y.length:Int) 2) (λ_=>some (.dn ((0,((0,(s0.2.2.2.1,(3,s0.2.2.2))),()))))) λ_=>bd (loop (λa=>br (SW a.2.1 (Y.length:Int)) (λ_=>RX a.2.1 λP=>ix Y P λp=>gd (RS s0.2.2.2.1 0) λ_=>bd (U0 (p,SZ .i64 L.1 s0.2.2.2.1)) λg=>br (RR g 0) (λ_=>br (Rt (MI ((λJ=>(λK=>RR J K))) a.2.2.2 p.1) false) (λ_=>some (.dn ((0,((a.2.1,(a.2.1,(8,a.2.2.2))),()))))) λ_=>br (RT g 0) (λ_=>some (.dn ((0,((a.2.1,(a.2.1,(g,a.2.2.2))),()))))) λ_=>some (.nx ((a.2.1,(Rl .i64 a.2.1 1,(g,IR ((λM=>(λw=>RR M w))) a.2.2.2 p.1 true)))))) λ_=>br (RT g 0) (λ_=>some (.dn ((0,((a.2.1,(a.2.1,(g,a.2.2.2))),()))))) λ_=>some (.nx ((a.2.1,(Rl .i64 a.2.1 1,(g,IR ((λx=>(λy=>RR x y))) a.2.2.2 p.1 true)))))) λ_=>some (.dn ((1,(a,()))))) ((0,(0,(s0.2.2.1,s0.2.2.2.2))))) λd=>br (neq d.1 0) (λ_=>some (.dn ((0,((d.2.1.1,(s0.2.2.2.1,(d.2.1.2.2.1,(s0.2.2.2.1,d.2.1.2.2.2)))),()))))) λ_=>some (.nx ((d.2.1.1,(s0.2.2.2.1,(d.2.1.2.2.1,(Rl .i64 s0.2.2.2.1 1,d.2.1.2.2.2))))))) λ_=>some (.dn ((0,(s0,())))))
  (s:=(0,(0,(0,(0,[]))))) (0,(0,[])) rfl (by omega) I.symm (λj h=>by
   refine ⟨_,by simp only;rw [re];rfl,?_⟩;simp only at h ⊢;rw [<- h];exact rfl) (λi rs m j hd n hi h=>by
   obtain ⟨s1,s2,c⟩:=j;simp only at h ⊢;obtain ⟨hrs1,F⟩:=hr rs (List.mem_of_getElem? n);rw [rl hi,R5,S9,Sb n,Sp];unfold Ya at h;by_cases Z:rs.length>2
   ·rw [if_pos (by omega)];rw [if_pos Z] at h;refine .inr ⟨_,rfl,?_⟩;rw [<- h];exact ⟨rfl,rfl,rfl⟩
   rw [if_neg (by omega)];rw [if_neg Z] at h;obtain ⟨U,hU⟩ : ∃ U,U=Yb (UW L.1 i) 0 c rs:=⟨_,rfl⟩;rw [<- hU] at h
   obtain ⟨r,S,b⟩:=We (l:=rs) (σ:=Int) (λk j=>(j,((k:Int),((0:Int),aM (c++(rs.take k).map (·.1))))))
    (λm k _=>Yb (UW L.1 i) k (c++(rs.take k).map (·.1)) m=U) (λ(r:Nat×((Int×(Int×(Int×List (Int×Bool))))×Unit))=>Q2 (aM (c++rs.map (·.1))) U r.1 r.2.1.1 r.2.1.2.2.1 r.2.1.2.2.2)
    (f:=λa=>br (SW a.2.1 (rs.length:Int)) (λ_=>RX a.2.1 λP=>ix rs P λp=>gd (RS (i:Int) 0) λ_=>bd (U0 (p,SZ .i64 L.1 (i:Int))) λg=>br (RR g 0) (λ_=>br (Rt (MI ((λJ=>(λK=>RR J K))) a.2.2.2 p.1) false) (λ_=>some (.dn ((0,((a.2.1,(a.2.1,(8,a.2.2.2))),()))))) λ_=>br (RT g 0) (λ_=>some (.dn ((0,((a.2.1,(a.2.1,(g,a.2.2.2))),()))))) λ_=>some (.nx ((a.2.1,(Rl .i64 a.2.1 1,(g,IR ((λM=>(λw=>RR M w))) a.2.2.2 p.1 true)))))) λ_=>br (RT g 0) (λ_=>some (.dn ((0,((a.2.1,(a.2.1,(g,a.2.2.2))),()))))) λ_=>some (.nx ((a.2.1,(Rl .i64 a.2.1 1,(g,IR ((λx=>(λy=>RR x y))) a.2.2.2 p.1 true)))))) λ_=>some (.dn ((1,(a,())))))
    (s:=(0,(0,(0,aM c)))) 0 (by simp) (by omega) (by simp [hU]) (λj h=>by
     refine ⟨_,by simp only;rw [re];rfl,?_⟩;rw [<- h];exact ⟨rfl,rfl,by simp⟩) (λk r m j hd n hk h=>by
     simp only at h ⊢;have hr2:=F r (List.mem_of_getElem? n);have G:(rs.take (k+1)).map (·.1)=(rs.take k).map (·.1)++[r.1]:=by rw [List.take_add_one,n];simp
     rw [rl hk,R5,S9,Sb n,show gd (RS (i:Int) 0)=λ(q:Unit->Option (LR (Int×(Int×(Int×List (Int×Bool)))) (Nat×((Int×(Int×(Int×List (Int×Bool))))×Unit))))=>q () from by unfold RS;simp [gd];rfl,ZM (by omega) (by omega) (by omega)];simp only;rw [aU _ _ (by omega),SL,Sn,iF,Ss];unfold Yb at h;rw [na] at h;by_cases o:kR [] (UW L.1 i) r=0
     ·rw [if_pos o] at h;rw [if_pos o,if_pos o,Ux];by_cases E:r.1∈c++(rs.take k).map (·.1)
      ·rw [if_pos E];rw [if_pos E,if_pos (by decide)] at h;refine .inr ⟨_,rfl,?_⟩;rw [<- h];exact ⟨rfl,rfl,rfl⟩
      ·rw [if_neg E];rw [if_neg E,if_neg (by decide)] at h;refine .inl ⟨(k:Int),?_,?_⟩
       ·rw [iH E,o,TM n (by omega),G,List.append_assoc]
       ·rw [G,<- List.append_assoc];exact h
     ·rw [if_neg o,if_pos o] at h;rw [if_neg o,if_neg o];refine .inr ⟨_,rfl,?_⟩;rw [<- h]
      exact ⟨rfl,rfl,rfl⟩)
   rw [S,SL,SM];cases D:U with
   | some u =>
    obtain ⟨k,e⟩:=u;rw [D] at b h;rw [if_pos b.1];refine .inr ⟨_,rfl,?_⟩;rw [<- h];exact ⟨b.2.1,rfl,b.2.2⟩
   | none =>
    rw [D] at b h;rw [if_neg (show ¬ r.1=0 by have:=b.1;omega)];refine .inl ⟨(r.2.1.1,((i:Int),c++rs.map (·.1))),?_,h⟩
    rw [b.2.1,b.2.2,TM n (by omega)])
 refine TZ S ?_;cases B:T with
 | some t =>
  obtain ⟨i,k,e⟩:=t;rw [B] at b I;rw [Ss,if_neg (by rw [b.2.2];exact ax I.symm),b.1,b.2.1,b.2.2]
 | none =>
  rw [B] at b;have h:=C _ b B;have q3:r.2.1.2.2.1=0:=b;rw [Ss,if_pos q3] at h ⊢;exact h
end
section
open Go Go.Proofs.YtfilfloanndddaaGreat.Sv
structure VR (most:Int) (r:TY):Prop where
 id1:1<=r.1
 id2:r.1<=1000000
 vl:VL r.2
 ne:r.2≠[]
 le:(r.2.length:Int)<=most
theorem iA {a:List Int} {most:Int} {r:TY}:kR a most r=0<->VR most r/\r.1 ∉ a:=by
 unfold kR;constructor
 ·intro h;by_cases f:r.1<1\/r.1>1000000
  ·rw [if_pos f] at h;cases h
  rw [if_neg f] at h;by_cases b:(WR r.2).2≠0
  ·rw [if_pos b] at h;exact absurd h b
  rw [if_neg b] at h;by_cases c:r.2.length=0
  ·rw [if_pos c] at h;cases h
  rw [if_neg c] at h;by_cases g:(r.2.length:Int)>most
  ·rw [if_pos g] at h;cases h
  rw [if_neg g] at h;by_cases d:r.1∈a
  ·rw [if_pos d] at h;cases h
  exact ⟨⟨by omega,by omega,ZJ.1 (by simpa using b),by intro e;rw [e] at c;exact c rfl,by omega⟩,d⟩
 ·rintro ⟨h,d⟩;rw [if_neg (by have:=h.id1;have:=h.id2;omega),if_neg (by simp [ZJ.2 h.vl]),if_neg (by have:=List.length_pos_iff.2 h.ne;omega),if_neg (by have:=h.le;omega),if_neg d]
def nU (r:TY):Int:=r.1
theorem ZS {most:Int} : ∀ {rs:List TY} {k:Nat} {a:List Int},Yb most k a rs=none<->(∀ r∈rs,VR most r/\r.1 ∉ a)/\(rs.map nU).Nodup
 | [],k,a=>by simp [Yb]
 | r::rs,k,a=>by
  unfold Yb;by_cases h:kR a most r=0
  ·rw [if_neg (by simp [h]),ZS (rs:=rs)];have f:=iA.1 h;simp only [List.mem_cons,forall_eq_or_imp,List.map_cons,List.nodup_cons,List.mem_append,List.not_mem_nil,or_false,List.mem_map,not_exists,not_and,not_or];constructor
   ·rintro ⟨b,d⟩;exact ⟨⟨f,λx c=>⟨(b x c).1,(b x c).2.1⟩⟩,λx c e=>(b x c).2.2 e,d⟩
   ·rintro ⟨⟨_,b⟩,d,g⟩;exact ⟨λx c=>⟨(b x c).1,(b x c).2,d x c⟩,g⟩
  ·rw [if_pos h];simp only [reduceCtorEq,false_iff,not_and];intro b;exact absurd (iA.2 (b r (by simp))) h
theorem YW {B:Int} : ∀ {ls:List (List TY)} {i:Nat} {c:List Int},Ya B i c ls=none<->(∀ k rs,ls[k]? = some rs->rs.length<=2 /\ ∀ r∈rs,VR (UW B (i+k)) r/\r.1 ∉ c)/\(ls.flatten.map nU).Nodup
 | [],i,c=>by simp [Ya]
 | rs::ls,i,c=>by
  unfold Ya;by_cases h:rs.length>2
  ·rw [if_pos h];simp only [reduceCtorEq,false_iff,not_and];intro j;have:=(j 0 rs rfl).1;omega
  ·rw [if_neg h];cases g:Yb (UW B i) 0 c rs with
   | some x =>
    simp only [reduceCtorEq,false_iff,not_and];intro j l
    have m:Yb (UW B i) 0 c rs=none:=ZS.2 ⟨(j 0 rs rfl).2,by
     simp only [List.flatten_cons,List.map_append] at l
     exact (List.nodup_append.1 l).1⟩
    rw [g] at m;cases m
   | none =>
    have q:=ZS.1 g;simp only;rw [YW (ls:=ls)];simp only [List.flatten_cons,List.map_append,List.mem_append,not_or,List.mem_map];constructor
    ·rintro ⟨j,l⟩;refine ⟨λk d n => ?_,?_⟩
     ·cases k with
      | zero=>cases n;exact ⟨by omega,q.1⟩
      | succ k =>
       have m:=j k d n
       exact ⟨m.1,λr g=>by
        have:=m.2 r g;rw [show i+(k+1)=i+1+k by omega]
        exact ⟨this.1,this.2.1⟩⟩
     ·rw [List.nodup_append];refine ⟨q.2,l,?_⟩;intro a s b t e;subst e;obtain ⟨r,g,e1⟩:=List.mem_map.1 s;obtain ⟨p,f,e2⟩:=List.mem_map.1 t;obtain ⟨d,o,f⟩:=List.mem_flatten.1 f;obtain ⟨k,n⟩:=List.getElem?_of_mem o;exact ((j k d n).2 p f).2.2 ⟨r,g,by unfold nU at e1 e2;omega⟩
    ·rintro ⟨j,l⟩;rw [List.nodup_append] at l;refine ⟨λk d n => ?_,l.2.1⟩;have m:=j (k+1) d n;refine ⟨m.1,λr g => ?_⟩;have:=m.2 r g;rw [show i+(k+1)=i+1+k by omega] at this;refine ⟨this.1,this.2,?_⟩;rintro ⟨p,f,e⟩;exact l.2.2 (nU p) (List.mem_map_of_mem f) (nU r) (List.mem_map_of_mem (List.mem_flatten.2 ⟨d,List.mem_of_getElem? n,g⟩)) e
structure VLev (L:TB):Prop where
 B1:1<=L.1
 B2:L.1<=16
 len:L.2.length<=12
 lev : ∀ i rs,L.2[i]? = some rs->rs.length<=2 /\ ∀ r∈rs,VR (UW L.1 i) r
 ids:(L.2.flatten.map nU).Nodup
 last:L.2.getLast? ≠ some []
theorem Xf {L:TB}:(V3 L).2.2=0<->VLev L:=by
 unfold V3;constructor
 ·intro h;by_cases c:L.1<1\/L.1>16
  ·rw [if_pos c] at h;cases h
  rw [if_neg c] at h;by_cases d:L.2.length>12
  ·rw [if_pos d] at h;cases h
  rw [if_neg d] at h;cases a:Ya L.1 0 [] L.2 with
  | some x =>
   obtain ⟨i,k,e⟩:=x;rw [a] at h;exact absurd h (ax a)
  | none =>
   rw [a] at h;simp only at h;by_cases f:L.2.getLast? = some []
   ·rw [if_pos f] at h;cases h
   ·have g:=YW.1 a
    exact ⟨by omega,by omega,by omega,λi rs hi=>by
     have:=g.1 i rs hi;rw [Nat.zero_add] at this
     exact ⟨this.1,λr b=>(this.2 r b).1⟩,g.2,f⟩
 ·intro h
  have a:Ya L.1 0 [] L.2=none:=YW.2 ⟨λk rs j=>by
   have:=h.lev k rs j;rw [Nat.zero_add]
   exact ⟨this.1,λr b=>⟨this.2 r b,by simp⟩⟩,h.ids⟩
  rw [if_neg (by have:=h.B1;have:=h.B2;omega),if_neg (by have:=h.len;omega),a];simp only;rw [if_neg h.last]
theorem W4 {L:TB} (h:VLev L):V3 L=(0,(0,0)):=by
 have a:Ya L.1 0 [] L.2=none:=YW.2 ⟨λk rs b=>by
  have:=h.lev k rs b;rw [Nat.zero_add]
  exact ⟨this.1,λr c=>⟨this.2 r c,by simp⟩⟩,h.ids⟩
 unfold V3;rw [if_neg (by have:=h.B1;have:=h.B2;omega),if_neg (by have:=h.len;omega),a];simp only;rw [if_neg h.last]
def WO (l:List (List TY)):Int:=l.foldl (λm rs=>rs.foldl (λm r=>S0 m r.1) m) 0
def TI:Nat->List (List TY)->List Int
 | _,[]=>[]
 | i,rs::ls=>(if rs.length=2 then [(i:Int)] else [])++TI (i+1) ls
theorem ba (L:TB) (f:L.2.length<=1048576) (d : ∀ rs∈L.2,rs.length<=1048576):Vt L=some (WO L.2):=by
 unfold Vt;simp only [TH,TF]
 rw [VB (l:=L.2) (σ:=Int) (s:=((0:Int),(0:Int))) (λi m=>(m,(i:Int))) (λ_ _ _=>True) (λls _ m=>(0,((ls.foldl (λm rs=>rs.foldl (λm r=>S0 m r.1) m) m,(L.2.length:Int)),()))) 0 rfl (by omega) trivial (λm _=>by
  simp only;rw [re];rfl) (λi rs ls m b a hi _=>by
   refine ⟨rs.foldl (λm r=>S0 m r.1) m,?_,trivial,rfl⟩;have e:=d rs (List.mem_of_getElem? a);simp only
   rw [rl hi,R5,S9,Sb a,VB (l:=rs) (σ:=Int) (s:=((0:Int),m)) (λi m=>((i:Int),m)) (λ_ _ _=>True) (λl _ m=>(0,(((rs.length:Int),l.foldl (λm r=>S0 m r.1) m),()))) m rfl (by omega) trivial (λm _=>by
    simp only;rw [re];rfl) (λk r l m b a c _=>by
     refine ⟨S0 m r.1,?_,trivial,rfl⟩;simp only
     rw [rl c,R5,S9,Sb a,TM a (by omega)]),SL,TM a (by omega)]),SL]
 rfl
def YZ (L:TB) (a:List Int) (i:Nat) (j:Job):Bool:=match a[i]? with
 | none=>true
 | some d=>if j.1≠d then true else if j.2.2.1.2.2=true/\j.1≠(L.2.length:Int)-1 then true else match L.2[d.toNat]? with
  | some [r0,r1]=>if j.2.2.2.2<0\/j.2.2.2.2>((r1.2.length+r0.2.length:Nat):Int) then true else decide (VC r1.2 r0.2 j.2.2.1.2.2 j.2.2.2.2.toNat≠j.2)
  | _=>true
def Wd (L:TB) (a:List Int):Nat->List Job->Option Nat
 | _,[]=>none
 | i,j::js=>if YZ L a i j=true then some i else Wd L a (i+1) js
def TE (s:TA):Int×Int :=
 if (V3 s.1).2.2≠0 then (-1,(V3 s.1).2.2) else if s.2.2<1\/s.2.2>1000001 then (-1,7) else if s.2.2<=WO s.1.2 then (-1,6) else match Wd s.1 (TI 0 s.1.2) 0 s.2.1 with
  | some i=>((i:Int),6)
  | none=>if s.2.1.length<(TI 0 s.1.2).length then (-1,4) else (0,0)
theorem XR : ∀ {ls:List (List TY)} {i k:Nat} {d:Int},(TI i ls)[k]? = some d -> ∃ n:Nat,d=((i+n:Nat):Int) /\ ∃ e f,ls[n]? = some [e,f]
 | [],i,k,d,h=>by cases h
 | rs::ls,i,k,d,h=>by
  unfold TI at h;by_cases a:rs.length=2
  ·rw [if_pos a] at h;cases k with
   | zero =>
    simp at h;refine ⟨0,by simp [<- h],?_⟩
    match rs,a with
    | [e,f],_=>exact ⟨e,f,rfl⟩
   | succ k =>
    simp at h;obtain ⟨n,b,c⟩:=XR h;exact ⟨n+1,by rw [b];congr 1;omega,c⟩
  ·rw [if_neg a] at h;simp at h;obtain ⟨n,b,c⟩:=XR h;exact ⟨n+1,by rw [b];congr 1;omega,c⟩
theorem Vc : ∀ (ls:List (List TY)) (i:Nat),(TI i ls).length<=ls.length
 | [],i=>Nat.le_refl _
 | rs::ls,i=>by
  have:=Vc ls (i+1);unfold TI;split<;>simp<;>omega
theorem bM {L:TB} {n:Nat} {a b:TY} (c:Bool) (h:L.2[n]? = some [a,b]) (d:VL a.2) (e:VL b.2):Ud (L,((n:Int),c))=some ((n:Int),VC b.2 a.2 c 0):=by
 unfold Ud;simp only;rw [S9,Sb h,Sb (x:=b) rfl,Sb (x:=a) rfl,e8 e d];rfl
theorem ZG {a b:List S8} (va:VL a) (d:VL b) (c:Bool) {n:Nat} (h:n<=a.length+b.length):(VC a b c n).1.1.length<=1000/\(∀ l∈(VC a b c n).1.1,l.length<=1000000)/\(VC a b c n).1.2.1.length<=1000/\(VC a b c n).1.2.2.1.length<=1000/\(VC a b c n).1.2.2.2.1.length<=1000/\(VC a b c n).2.2.1.length<=1000000:=by
 have j:=va.len;have k:=d.len;refine ⟨show 2<=1000 by omega,λl f => ?_,show 2<=1000 by omega,show 2<=1000 by omega,show 2<=1000 by omega,?_⟩
 ·have:l=a\/l=b:=by simpa [VC,Yg,Yt] using f
  rcases this with e | e<;>subst e<;>omega
 ·have g:=Xo (s0 c) (TU a b n);have i:=Uu va d h;show (V5 (s0 c) (TU a b n)).length<=_;omega
theorem nZ {L:TB} {n:Nat} {a b:TY} {j:Job} (h:L.2[n]? = some [a,b]) (e:VL a.2) (f:VL b.2) {β:Type} (A B:Option β) :
  (bd (Ud (L,((n:Int),j.2.2.1.2.2))) λc=>bd (UD c.2) λl=>br (SW j.2.2.2.2 0) (λ_=>A) λ_=>br (SU j.2.2.2.2 l.1) (λ_=>A) λ_=>bd (UO (c.2,j.2.2.2.2)) λm=>bd (VH (m.1,j.2)) λo=>br (Hf o) (λ_=>A) λ_=>B)
  = if j.2.2.2.2<0\/j.2.2.2.2>((b.2.length+a.2.length:Nat):Int) then A else if VC b.2 a.2 j.2.2.1.2.2 j.2.2.2.2.toNat=j.2 then B else A:=by
 rw [bM _ h e f,SL,ZT f e _ (Nat.zero_le _),SL,Sr,Sp,Nat.sub_zero];by_cases g:j.2.2.2.2<0
 ·rw [if_pos g,if_pos (.inl g)]
 rw [if_neg g];by_cases i:j.2.2.2.2>((b.2.length+a.2.length:Nat):Int)
 ·rw [if_pos i,if_pos (.inr i)]
 rw [if_neg i,if_neg (show ¬ (j.2.2.2.2<0\/j.2.2.2.2>((b.2.length+a.2.length:Nat):Int)) by omega)];obtain ⟨k,p⟩ : ∃ k:Nat,j.2.2.2.2=(k:Int):=⟨j.2.2.2.2.toNat,by omega⟩;rw [p,ad f e _ (Nat.zero_le _),SL,Nat.sub_zero,Nat.zero_add,Nat.min_eq_left (by omega),Int.toNat_natCast];obtain ⟨s1,s2,q,r,s,t⟩:=ZG f e j.2.2.1.2.2 (n:=k) (by omega);rw [bc _ _ s1 s2 q r s t,SL,Us,Ux];by_cases d:VC b.2 a.2 j.2.2.1.2.2 k=j.2
 ·rw [if_neg (by simp [d]),if_pos d]
 ·rw [if_pos d,if_neg d]
theorem cc (s:TA) (N:s.1.2.length<=1048576) (hr : ∀ rs∈s.1.2,rs.length<=1048576 /\ ∀ r∈rs,r.2.length<=9223372036854775807) (hj:s.2.1.length<=1048576):UV s=some (TE s):=by
 unfold UV TE;simp only [TH,TF];rw [Ym _ N hr,SL,Ss];by_cases z:(V3 s.1).2.2=0;rotate_left
 ·rw [if_neg z,if_pos z]
 rw [if_pos z,if_neg (by simp [z]),Sr,Sp,ba _ N (λrs h=>(hr rs h).1),SL];have v:=Xf.1 z;by_cases C:s.2.2<1
 ·rw [if_pos C,if_pos (.inl C)]
 rw [if_neg C];by_cases p:s.2.2>1000001
 ·rw [if_pos p,if_pos (.inr p)]
 rw [if_neg p,if_neg (show ¬ (s.2.2<1\/s.2.2>1000001) by omega),Sq];by_cases o:s.2.2<=WO s.1.2
 ·rw [if_pos o,if_pos o]
 rw [if_neg o,if_neg o]
 rw [VB (l:=s.1.2) (σ:=List Int) (s:=((0:Int),([]:List Int))) (λi m=>((i:Int),m)) (λls i m=>m++TI i ls=TI 0 s.1.2) (λ_ _ _=>(0,(((s.1.2.length:Int),TI 0 s.1.2),()))) [] rfl (by omega) rfl (λm h=>by
  simp only;rw [re,Rd,<- h];simp [TI]) (λi rs ls m hd E hi h=>by
   refine ⟨m++(if rs.length=2 then [(i:Int)] else []),?_,?_,rfl⟩
   ·simp only;rw [rl hi,R5,S9,Sb E,Sn]
    have hm:m.length<=1048575:=by
     have D:=congrArg List.length h;have q:=Vc s.1.2 0;have u:=v.len;rw [List.length_append] at D;omega
    by_cases D:rs.length=2
    ·rw [if_pos (by omega),if_pos D,UB (by simp only [BD,AS,List.length_cons,List.length_nil];omega),TM E (by omega)];rfl
    ·rw [if_neg (by omega),if_neg D,List.append_nil,TM E (by omega)]
   ·rw [List.append_assoc];exact h),SL]
 simp only;obtain ⟨a,g⟩ : ∃ a,a=TI 0 s.1.2:=⟨_,rfl⟩;have hdl:a.length<=12:=by have:=Vc s.1.2 0;have:=v.len;rw [g];omega
 rw [<- g];obtain ⟨T,hT⟩ : ∃ T,T=Wd s.1 a 0 s.2.1:=⟨_,rfl⟩;rw [<- hT]
 obtain ⟨r,q1,I⟩:=We (l:=s.2.1) (σ:=Unit) (λi _=>((0:Int),((0:Int),(i:Int)))) (λjs i _=>Wd s.1 a i js=T) (λ(r:Nat×((Int×(Int×Int))×Unit))=>(T=none/\r.1=1)\/(∃ i:Nat,T=some i/\r.1=0/\r.2.1.1=6/\r.2.1.2.1=(i:Int)))
  (f:=λb=>br (SW b.2.2 (s.2.1.length:Int)) (λ_=>RX b.2.2 λk7=>ix s.2.1 k7 λe=>br (RS b.2.2 (a.length:Int)) (λ_=>some (.dn ((0,((6,(b.2.2,b.2.2)),()))))) λ_=>RX b.2.2 λk9=>gd (KC k9 a.length) λ_=>ix a k9 λx10=>br (RT e.1 x10) (λ_=>some (.dn ((0,((6,(b.2.2,b.2.2)),()))))) λ_=>br e.2.2.1.2.2 (λ_=>bd (Uz (s.1,e.1)) λP=>br (Hf P) (λ_=>some (.dn ((0,((6,(b.2.2,b.2.2)),()))))) λ_=>bd (Ud ((s.1,(e.1,e.2.2.1.2.2)))) λL=>bd (UD L.2) λS=>br (SW e.2.2.2.2 0) (λ_=>some (.dn ((0,((6,(b.2.2,b.2.2)),()))))) λ_=>br (SU e.2.2.2.2 S.1) (λ_=>some (.dn ((0,((6,(b.2.2,b.2.2)),()))))) λ_=>bd (UO (L.2,e.2.2.2.2)) λU=>bd (VH (U.1,e.2)) λW=>br (Hf W) (λ_=>some (.dn ((0,((6,(b.2.2,b.2.2)),()))))) λ_=>some (.nx ((b.1,(b.2.1,Rl .i64 b.2.2 1))))) λ_=>bd (Ud ((s.1,(e.1,e.2.2.1.2.2)))) λM=>bd (UD M.2) λX=>br (SW e.2.2.2.2 0) (λ_=>some (.dn ((0,((6,(b.2.2,b.2.2)),()))))) λ_=>br (SU e.2.2.2.2 X.1) (λ_=>some (.dn ((0,((6,(b.2.2,b.2.2)),()))))) λ_=>bd (UO (M.2,e.2.2.2.2)) λY=>bd (VH (Y.1,e.2)) λZ=>br (Hf Z) (λ_=>some (.dn ((0,((6,(b.2.2,b.2.2)),()))))) λ_=>some (.nx ((b.1,(b.2.1,Rl .i64 b.2.2 1))))) λ_=>some (.dn ((1,(b,())))))
  (s:=(0,(0,0))) () rfl (by omega) hT.symm (λ_ h=>by
   refine ⟨_,by simp only;rw [re];rfl,.inl ⟨by rw [<- h];rfl,rfl⟩⟩) (λi j js _ hd E hi h=>by
   simp only;rw [rl hi,R5,S9,Sb E,So];unfold Wd at h
   have c:YZ s.1 a i j=true -> ∃ r:Nat×((Int×(Int×Int))×Unit),(some (LR.dn ((0,((6,((i:Int),(i:Int))),()))):LR (Int×(Int×Int)) _))=some (.dn r)/\((T=none/\r.1=1)\/(∃ i:Nat,T=some i/\r.1=0/\r.2.1.1=6/\r.2.1.2.1=(i:Int))):=λN=>by
    rw [if_pos N] at h;exact ⟨_,rfl,.inr ⟨i,h.symm,rfl,rfl,rfl⟩⟩
   have x:YZ s.1 a i j=false -> ∃ st':Unit,(some (LR.nx ((0:Int),((0:Int),Rl .i64 (i:Int) 1))):Option (LR _ (Nat×((Int×(Int×Int))×Unit))))=some (.nx ((0:Int),((0:Int),((i+1:Nat):Int))))/\Wd s.1 a (i+1) js=T:=λhg=>by
    rw [if_neg (by simp [hg])] at h;exact ⟨(),by rw [TM E (by omega)],h⟩
   by_cases C:(i:Int)>=(a.length:Int)
   ·rw [if_pos C];exact .inr (c (by unfold YZ;rw [List.getElem?_eq_none (by omega)]))
   rw [if_neg C,S9,SR,if_pos (by omega)];have w:a[i]? = some (a[i]'(by omega)):=by simp
   rw [Sb w,Ss];obtain ⟨n,O,J,K,y⟩:=XR (ls:=s.1.2) (i:=0) (k:=i) (d:=a[i]'(by omega)) (by rw [<- g];exact w);rw [Nat.zero_add] at O
   have t:YZ s.1 a i j=(if j.1≠(a[i]'(by omega)) then true else if j.2.2.1.2.2=true/\j.1≠(s.1.2.length:Int)-1 then true else if j.2.2.2.2<0\/j.2.2.2.2>((K.2.length+J.2.length:Nat):Int) then true else decide (VC K.2 J.2 j.2.2.1.2.2 j.2.2.2.2.toNat≠j.2)):=by
    unfold YZ;rw [w];simp only;rw [O,Int.toNat_natCast,y]
   by_cases p:j.1=(a[i]'(by omega));rotate_left
   ·rw [if_neg p];exact .inr (c (by rw [t,if_pos p]))
   rw [if_pos p];rw [if_neg (by simp [p])] at t;have F:j.1=(n:Int):=by rw [p,O]
   have hv:=(v.lev n _ y).2;have v0:=(hv J (by simp)).vl;have v1:=(hv K (by simp)).vl;have G:Rp .i64 (s.1.2.length:Int) 1=(s.1.2.length:Int)-1:=SB (by omega);unfold Uz;simp only [TH,TF];rw [SL,G,VZ,Us,Ux,F,nZ y v0 v1,Sx];rw [F] at t;by_cases o:j.2.2.1.2.2=true/\(n:Int)≠(s.1.2.length:Int)-1
   ·rw [if_pos o.1,if_pos o.2];exact .inr (c (by rw [t,if_pos o]))
   rw [if_neg o] at t
   have D : ∀ {γ:Type} (A B:γ),(if j.2.2.1.2.2=true then if ¬(n:Int)=(s.1.2.length:Int)-1 then A else B else B)=B:=by
    intro γ A B;by_cases q:j.2.2.1.2.2=true
    ·rw [if_pos q,if_neg (λu=>o ⟨q,u⟩)]
    ·rw [if_neg q]
   rw [D];by_cases q:j.2.2.2.2<0\/j.2.2.2.2>((K.2.length+J.2.length:Nat):Int)
   ·rw [if_pos q];exact .inr (c (by rw [t,if_pos q]))
   rw [if_neg q];rw [if_neg q] at t;by_cases u:VC K.2 J.2 j.2.2.1.2.2 j.2.2.2.2.toNat=j.2
   ·rw [if_pos u];exact .inl (x (by rw [t];simp [u]))
   ·rw [if_neg u]
    exact .inr (c (by rw [t];simp [u])))
 rw [z];refine TZ q1 ?_;rw [SM];rcases I with ⟨I,q3⟩ | ⟨i,I,q3,q4,q5⟩
 ·rw [if_neg (show ¬ r.1=0 by omega),I,Sr];simp only;by_cases h7:s.2.1.length<a.length
  ·rw [if_pos (by omega),if_pos h7]
  ·rw [if_neg (by omega),if_neg h7]
 ·rw [if_pos q3,I,q4,q5]
end
section
open Go Go.Proofs.YtfilfloanndddaaGreat.Sv
theorem ZC (x:S8):VT x=some (kE x):=by
 unfold VT kE;rw [Sp,TH,YC];by_cases e:x.1.length>32
 ·rw [if_pos (by omega),if_pos (.inl e)]
 rw [if_neg (by omega),Sp,TH,YC];by_cases f:x.2.1.length>64
 ·rw [if_pos (by omega),if_pos (.inr f)]
 rw [if_neg (by omega : ¬ (x.2.1.length:Int)>64),if_neg (by omega),Sx];by_cases b:x.2.2.1=true
 ·rw [if_pos b,Tq,V6];by_cases c:x.2.1=[]
  ·rw [if_pos c,if_neg (by simp [c]),Sr,Sp];by_cases a:x.2.2.2<1
   ·simp [a]
   ·by_cases d:x.2.2.2>1000000000<;>simp [a,d]
  ·rw [if_neg c,if_pos ⟨b,c⟩]
 ·rw [if_neg b,if_neg (by simp [b]),Sr,Sp];by_cases a:x.2.2.2<1
  ·simp [a]
  ·by_cases d:x.2.2.2>1000000000<;>simp [a,d]
def VM:List UInt8->List UInt8->Nat
 | x::a,y::b=>if x=y then VM a b+1 else 0
 | _,_=>0
theorem mb (x y:UInt8):RR (S4 x) (S4 y)=decide (x=y):=by
 rw [VZ];unfold S4;by_cases h:x=y
 ·simp [h]
 ·have : ¬ ((x.toNat:Int)=(y.toNat:Int)):=λe=>h (UInt8.toNat_inj.1 (by omega));simp [h,this]
theorem fA (a b:List UInt8) (z:a.length<=9223372036854775806):V9 (a,b)=some (VM a b:Int):=by
 unfold V9;simp only [TH,YC]
 have key : ∀ (m:List UInt8) (k n:Nat),a.drop k=m->k<=a.length->k<=b.length->m.length<n->IJ n (λs0=>br (SW s0 (a.length:Int)) (λ_=>br (SW s0 (b.length:Int)) (λ_=>RX s0 λt=>ix a t λw=>RX s0 λu=>ix b u λy=>br (RR (S4 w) (S4 y)) (λ_=>some (LR.nx (Rl .i64 s0 1))) λ_=>some (.dn ((0,(s0,()))))) λ_=>some (.dn ((0,(s0,()))))) λ_=>some (.dn ((0,(s0,()))))) (k:Int)=some ((0:Nat),(((k+VM m (b.drop k):Nat):Int),())):=by
  intro m
  induction m with
  | nil =>
   intro k n f r h p;obtain ⟨n,rfl⟩ : ∃ j,n=j+1:=⟨n-1,by omega⟩
   have i:k=a.length:=by
    have:=congrArg List.length f;simp at this;omega
   subst i;refine Tp ?_;rw [re];simp [Rd,VM]
  | cons x m s =>
   intro k n f r h p;obtain ⟨n,rfl⟩ : ∃ j,n=j+1:=⟨n-1,by omega⟩
   have o:a[k]? = some x:=by
    have:=congrArg List.head? f;rw [List.head?_drop] at this;simpa using this
   have c:k<a.length:=(List.getElem?_eq_some_iff.1 o).1
   have l:a.drop (k+1)=m:=by
    have:=congrArg List.tail f;rw [List.tail_drop] at this;simpa using this
   by_cases d:k<b.length
   ·have q:b[k]? = some b[k]:=by simp [d]
    rw [List.drop_eq_getElem_cons d];unfold VM;by_cases e:x=b[k]
    ·rw [if_pos e];refine (Th (s':=((k+1:Nat):Int)) ?_).trans ?_
     ·rw [rl c,R5,rl d,R5,S9,Sb o,S9,Sb q,mb,Ux,if_pos e,TJ (by omega)]
     ·rw [s (k+1) n l (by omega) (by omega) (by simp at p;omega),show k+1+VM m (b.drop (k+1))=k+(VM m (b.drop (k+1))+1) by omega]
    ·rw [if_neg e];refine Tp ?_;rw [rl c,R5,rl d,R5,S9,Sb o,S9,Sb q,mb,Ux,if_neg e];simp
   ·have g:k=b.length:=by omega
    refine Tp ?_;rw [rl c,R5,g,re,Rd,List.drop_length];simp [VM]
 refine TZ (Ui (n:=a.length+1) (by omega) (key a 0 (a.length+1) (by simp) (by omega) (by omega) (by omega))) ?_;simp
def Yo (a b:XL):Int:=if Rz a b=true then -1 else if a=b then 0 else 1
theorem bQ : ∀ (a b:XL),(VM a b<=a.length/\VM a b<=b.length)/\(VM a b=a.length->VM a b=b.length->Yo a b=0)/\(VM a b=a.length->VM a b≠b.length->Yo a b = -1)/\(VM a b≠a.length->VM a b=b.length->Yo a b=1)/\(∀ x y,a[VM a b]? = some x->b[VM a b]? = some y->Yo a b=if x.toNat<y.toNat then -1 else 1)
 | [],[]=>by simp [VM,Yo,ZD]
 | [],y::b=>by simp [VM,Yo,bF]
 | x::a,[]=>by simp [VM,Yo,ZD]
 | x::a,y::b=>by
  obtain ⟨⟨o,g⟩,i,j,k,l⟩:=bQ a b;by_cases e:x=y
  ·subst e
   have n:Yo (x::a) (x::b)=Yo a b:=by
    unfold Yo;rw [Xx];simp
   have hc:VM (x::a) (x::b)=VM a b+1:=by simp [VM]
   rw [n,hc];refine ⟨⟨by simp;omega,by simp;omega⟩,λu v=>i (by simp at u;omega) (by simp at v;omega),λu v=>j (by simp at u;omega) (by simp at v;omega),λu v=>k (by simp at u;omega) (by simp at v;omega),λp q d f=>l p q (by simpa using d) (by simpa using f)⟩
  ·have hc:VM (x::a) (y::b)=0:=by simp [VM,e]
   rw [hc];refine ⟨⟨by omega,by omega⟩,λu=>by simp at u,λu=>by simp at u,λ_ u=>by simp at u,λp q d f => ?_⟩;simp at d f;subst d f;unfold Yo;rw [Xx];have m : ¬ (x::a=y::b):=λh=>e (by injection h);by_cases c:x.toNat<y.toNat
   ·have:x<y:=UInt8.lt_iff_toNat_lt.2 c;simp [this,c]
   ·have : ¬ x<y:=λh=>c (UInt8.lt_iff_toNat_lt.1 h);simp [this,c,e]
theorem gp (a b:XL) (p:a.length<=1000000000) (q:b.length<=1000000000):V0 (a,b)=some (Yo a b):=by
 obtain ⟨⟨o,i⟩,j,k,l,m⟩:=bQ a b;unfold V0;simp only [TH,YC];rw [fA a b (by omega),SL,Sn]
 have n:(if (VM a b:Int)<(b.length:Int) then (RX (VM a b:Int) λc=>ix a c λe=>RX (VM a b:Int) λd=>ix b d λf=>br (SW (S4 e) (S4 f)) (λ_=>some (-1:Int)) λ_=>some 1) else some 1)=(if VM a b=a.length then (if (VM a b:Int)<(b.length:Int) then (RX (VM a b:Int) λc=>ix a c λe=>RX (VM a b:Int) λd=>ix b d λf=>br (SW (S4 e) (S4 f)) (λ_=>some (-1:Int)) λ_=>some 1) else some 1) else some (Yo a b)):=by
  by_cases u:VM a b=a.length
  ·rw [if_pos u]
  ·rw [if_neg u];by_cases v:VM a b=b.length
   ·rw [if_neg (by omega),l u v]
   ·rw [if_pos (by omega),S9];have g:a[VM a b]? = some (a[VM a b]'(by omega)):=by simp
    have h:b[VM a b]? = some (b[VM a b]'(by omega)):=by simp
    rw [Sb g,S9,Sb h,Sr,m _ _ g h];unfold S4;by_cases w:(a[VM a b]'(by omega)).toNat<(b[VM a b]'(by omega)).toNat
    ·rw [if_pos (by omega),if_pos w]
    ·rw [if_neg (by omega),if_neg w]
 by_cases u:VM a b=a.length
 ·rw [if_pos (by omega),Sn];by_cases v:VM a b=b.length
  ·rw [if_pos (by omega),j u v]
  ·rw [if_neg (by omega),Sn,if_pos (by omega),k u v]
 ·rw [if_neg (by omega),Sn,if_neg (by omega),Sr,n,if_neg u]
theorem eX (a b:XL):Yo a b>=0<->Rz a b=false:=by
 unfold Yo;cases h:Rz a b with
 | true=>simp
 | false=>simp;split<;>omega
theorem XC (l:List S8) (E:l.length<=9223372036854775807):Ut l=some (WR l):=by
 unfold Ut WR;simp only [TH,TF];rw [Sp];by_cases h:l.length>5000
 ·rw [if_pos (by omega),if_pos h]
 rw [if_neg (by omega),if_neg h];obtain ⟨T,o⟩ : ∃ T,T=YH none 0 l:=⟨_,rfl⟩;rw [<- o]
 obtain ⟨r,w,j⟩:=We (l:=l) (σ:=Unit) (s:=((0:Int),((0:Int),(0:Int)))) (λk _=>((0:Int),((0:Int),(k:Int)))) (λm k _=>YH (if k=0 then none else (l[k-1]?).map (·.1)) k m=T/\(∀ y,k≠0->l[k-1]? = some y->kE y=0)) (λ(r:Nat×((Int×(Int×Int))×Unit))=>(r.1=1/\T=(0,0))\/(r.1=0/\T=(r.2.1.2.1,r.2.1.1)))
  (f:=λs0=>br (SW s0.2.2 (l.length:Int)) (λ_=>RX s0.2.2 λq=>ix l q λA=>bd (VT A) λd=>br (RR d 0) (λ_=>br (SU s0.2.2 0) (λ_=>RX (Rp .i64 s0.2.2 1) λt=>ix l t λB=>RX s0.2.2 λu=>ix l u λC=>bd (V0 (B.1,C.1)) λz=>br (RS z 0) (λ_=>some (.dn ((0,((6,(s0.2.2,s0.2.2)),()))))) λ_=>br (RT d 0) (λ_=>some (.dn ((0,((d,(s0.2.2,s0.2.2)),()))))) λ_=>some (.nx ((s0.1,(s0.2.1,Rl .i64 s0.2.2 1))))) λ_=>br (RT d 0) (λ_=>some (.dn ((0,((d,(s0.2.2,s0.2.2)),()))))) λ_=>some (.nx ((s0.1,(s0.2.1,Rl .i64 s0.2.2 1))))) λ_=>br (RT d 0) (λ_=>some (.dn ((0,((d,(s0.2.2,s0.2.2)),()))))) λ_=>some (.nx ((s0.1,(s0.2.1,Rl .i64 s0.2.2 1))))) λ_=>some (.dn ((1,(s0,())))))
  () rfl (by omega) ⟨o.symm,λ_ h=>absurd rfl h⟩ (λ_ h=>by
   refine ⟨_,by simp only;rw [re];rfl,.inl ⟨rfl,?_⟩⟩;rw [<- h.1];simp [YH]) (λk x m _ D g p h=>by
   simp only;obtain ⟨h,c⟩:=h;rw [rl p,R5,S9,Sb g,ZC,SL,Sn];unfold YH at h
   have next:kE x=0->(T=YH (some x.1) (k+1) m)->YH (if k+1=0 then none else (l[k+1-1]?).map (·.1)) (k+1) m=T/\(∀ y,k+1≠0->l[k+1-1]? = some y->kE y=0):=λa e=>by
    rw [if_neg (by omega),Nat.add_sub_cancel,g,e];exact ⟨rfl,λy _ i=>by cases i;exact a⟩
   by_cases a:kE x=0
   ·rw [if_pos a,Sp];rw [if_neg (by simp [a])] at h;by_cases b:k=0
    ·rw [if_neg (by omega),Ss,if_pos a];rw [if_pos b] at h;exact .inl ⟨(),by rw [TM g (by omega)],next a h.symm⟩
    ·have i:l[k-1]? = some (l[k-1]'(by omega)):=by rw [List.getElem?_eq_getElem]
     rw [if_pos (by omega),show Rp .i64 (k:Int) 1=((k-1:Nat):Int) by rw [SB (by omega)];omega,S9,Sb i,S9,Sb g];rw [if_neg b,i] at h;simp only [Option.map_some] at h;rw [gp _ _ (by have:=Zx (c _ b i);omega) (by have:=Zx a;omega),SL,So];by_cases hs:Rz (l[k-1]'(by omega)).1 x.1=true
     ·rw [if_neg (λe=>by rw [eX,hs] at e;cases e),Ss,if_pos a];rw [if_pos hs] at h;exact .inl ⟨(),by rw [TM g (by omega)],next a h.symm⟩
     ·rw [if_pos ((eX _ _).2 (by simpa using hs))];rw [if_neg hs] at h;exact .inr ⟨_,rfl,.inr ⟨rfl,h.symm⟩⟩
   ·rw [if_neg a,Ss,if_neg a];rw [if_pos a] at h
    exact .inr ⟨_,rfl,.inr ⟨rfl,h.symm⟩⟩)
 refine TZ w ?_;rw [SM];rcases j with ⟨j,n⟩ | ⟨j,n⟩
 ·rw [if_neg (show ¬ r.1=0 by omega),n]
 ·rw [if_pos j,n]
theorem me (p q:TD) (d:V2 p) (e:V2 q):WM ([p,q],(0,1))=some (w0 p q):=by
 unfold WM w0;refine (WG 0 rfl (x:=p) rfl).trans ((WG 1 rfl (x:=q) rfl).trans ?_);rw [beq_eq,Us,Ux,Tq,Sx];by_cases a:p.2=q.2
 ·rw [if_neg (show ¬ ¬ p.2=q.2 by simp [a]),if_neg (show ¬ p.2≠q.2 by simp [a])];by_cases b:p.2=true
  ·rw [if_pos b,d b,e (a ▸ b)];rfl
  ·rw [if_neg b,Tq,V6];by_cases c:p.1=q.1
   ·rw [if_pos c,if_neg (by simp [c])];rfl
   ·rw [if_neg c,if_pos c]
 ·rw [if_pos a,if_pos a]
theorem ZZ (p q:TD) (n:Nat) (k:Int) (h:2<=k) (a:k<=100):Mx TV (n+1) ([p,q],k)=some (k-2,0):=by
 show TV (Mx TV n) ([p,q],k)=_;unfold TV;show br (RS k 2) (λ_=>some (Rp .i64 k 2,0)) _=_;rw [So,if_pos h,SB (by omega)]
theorem Z5 (p q:TD) (a:V2 p) (b:V2 q):Ws ([p,q],1)=some (if w0 p q=true then (0,1) else (1,0)):=by
 show TV (Mx TV 99) ([p,q],1)=_;unfold TV;show br (RS (1:Int) 2) (λ_=>some (Rp .i64 (1:Int) 2,0)) (λ_=>bd (Mx TV (98+1) ([p,q],2)) λc=>bd (Mx TV (98+1) ([p,q],3)) _)=_;rw [So,if_neg (by omega),ZZ p q 98 2 (by omega) (by omega),SL,ZZ p q 98 3 (by omega) (by omega),SL];show bd (WM ([p,q],(0,1))) _=_;rw [me p q a b,SL,Sx];cases h:w0 p q<;>rfl
theorem mZ (p q:TD) (a:V2 p) (c:V2 q):Wt [p,q]=some (Tt p q):=by
 unfold Wt;refine Eq.trans (b:=bd (loop _ (1,([p,q],([0,0],0)))) _) rfl ?_;refine TZ (x:=(0,((2,([p,q],([0,if w0 p q=true then 1 else 0],0))),()))) (Ui (n:=2) (by omega) ((Th (s':=(2,([p,q],([0,if w0 p q=true then 1 else 0],0)))) ?_).trans (Tp rfl))) ?_
 ·show bd (Ws ([p,q],1)) _=_;rw [Z5 p q a c,SL];refine (YN 1 rfl (x:=(0:Int)) rfl).trans ?_;cases h:w0 p q<;>rfl
 ·rw [Z5 p q a c,SL];unfold Tt;cases h:w0 p q<;>rfl
theorem fU {l:List TD} (h : ∀ k∈l,V2 k) (c:l≠[]) (f:l.length<=32):WX l=some 0:=by
 unfold WX;simp only [TH,TF];rw [Sn,Sp,if_neg (by have:=List.length_pos_iff.2 c;omega),if_neg (by omega)]
 rw [VB (l:=l) (σ:=Unit) (s:=((0:Int),(0:Int))) (λk _=>((k:Int),(0:Int))) (λ_ _ _=>True) (λ_ _ _=>(1,(((l.length:Int),0),()))) () rfl (by omega) trivial (λe _=>by
  simp only;rw [re];rfl) (λk x m e _ a d _=>⟨(),by
   simp only;rw [rl d,R5,S9,Sb a,Sx,TM a (by omega)];by_cases b:x.2=true
   ·rw [if_pos b,S9,Sb a,Tq,V6,if_pos (h x (List.mem_of_getElem? a) b)]
   ·rw [if_neg b],trivial,rfl⟩),SL]
 rfl
theorem e9 (p q:TD) (a:V2 p) (b:V2 q):V1 [p,q]=some (Tt p q,0):=by
 unfold V1;rw [fU (by simp [a,b]) (by simp) (by simp),SL,Ss,if_pos rfl,mZ p q a b,SL]
end
section
open Go Go.Proofs.YtfilfloanndddaaGreat.Sv
theorem XK:UL=Tx:=rfl
theorem Z6:Wr=TK:=rfl
theorem cu (l m:List TD) (i:l.length<=9223372036854775806) (j:l.length=m.length) : ∃ r,loop (λs1=>br (SW s1.1 (l.length:Int)) (λ_=>RX s1.1 λn=>ix l n λf=>RX s1.1 λo=>ix m o λg=>br (Hf (NX (seq f.1 g.1) (NX (Sv.beq f.2 g.2) true))) (λ_=>some (LR.dn ((0:Nat),((s1.1,false),())))) λ_=>some (.nx (Rl .i64 s1.1 1,s1.2))) λ_=>some (.dn ((1,(s1,()))))) ((0:Int),false)=some r/\((l=m/\r.1=1)\/(l≠m/\r.1=0/\r.2.1.2=false)):=by
 refine Xu l m j i (λk x y a d => ?_) (by simp only;rw [re];rfl);have c:=(List.getElem?_eq_some_iff.1 a).1
 have b : ∀ {β:Type} (u v:Unit->Option β),br (Hf (NX (seq x.1 y.1) (NX (Sv.beq x.2 y.2) true))) u v=if x=y then v () else u ():=by
  intro β u v;rw [Yu,Yr,beq_eq,X2,Us,Ux];by_cases e:x=y
  ·subst e;simp
  ·rw [if_pos (λh=>e (Prod.ext h.1 h.2)),if_neg e]
 constructor
 ·intro e;simp only;rw [rl c,R5,S9,Sb a,S9,Sb d,b,if_pos e,TJ (by omega)]
 ·intro e;simp only;rw [rl c,R5,S9,Sb a,S9,Sb d,b,if_neg e]
theorem Z8 (s t:Vk) (g:s.1.length<=1000) (h:s.2.1.length<=1000):WL (s,t)=some (decide (s=t)):=by
 obtain ⟨b,d,k⟩:=s;obtain ⟨c,f,l⟩:=t;simp only at g h;unfold WL;simp only [TH,TF];rw [Ss];by_cases e1:(b.length:Int)=(c.length:Int);rotate_left
 ·rw [if_neg e1];have : ¬ b=c:=λe=>e1 (by rw [e]);simp [this]
 rw [if_pos e1,Ss];by_cases e2:k=l;rotate_left
 ·rw [if_neg e2];simp [e2]
 rw [if_pos e2,Z6,YT _ _ (by omega),SL,Us,Ux];by_cases e3:d=f;rotate_left
 ·rw [if_pos e3];simp [e3]
 rw [if_neg (show ¬ ¬ d=f by simp [e3])];obtain ⟨r,i,a⟩:=cu b c (by omega) (by omega);refine TZ i ?_;rw [SM];rcases a with ⟨e,a⟩ | ⟨e,a,j⟩
 ·rw [if_neg (show ¬ r.1=0 by omega)];simp [e,e2,e3]
 ·rw [if_pos a,j];simp [e]
theorem bz (s t:TC) (u:s.1.length<=1000) (g : ∀ l∈s.1,l.length<=1000000) (w:s.2.1.length<=1000) (h:s.2.2.1.length<=1000) (i:s.2.2.2.1.length<=1000):Wv (s,t)=some (decide (s=t)):=by
 obtain ⟨a,n,o⟩:=s;obtain ⟨d,p,q⟩:=t;simp only at u g w h i;unfold Wv;simp only [TH,TF];rw [Ss];by_cases e1:(a.length:Int)=(d.length:Int);rotate_left
 ·rw [if_neg e1];have : ¬ a=d:=λe=>e1 (by rw [e]);simp [this]
 rw [if_pos e1,Z6,YT _ _ (by omega),SL,Us,Ux];by_cases e2:n=p;rotate_left
 ·rw [if_pos e2];simp [e2]
 rw [if_neg (show ¬ ¬ n=p by simp [e2]),Z8 _ _ h i,SL,Us,Ux];by_cases e3:o=q;rotate_left
 ·rw [if_pos e3];simp [e3]
 rw [if_neg (show ¬ ¬ o=q by simp [e3])]
 obtain ⟨r,C,c⟩:=Xu a d (by omega) (by omega) (f:=λs2=>br (SW s2.1 (a.length:Int)) (λ_=>RX s2.1 λA=>ix a A λF=>RX s2.1 λB=>ix d B λG=>bd (UL (F,G)) λE=>br (Hf E) (λ_=>some (.dn ((0,((s2.1,false),()))))) λ_=>some (.nx (Rl .i64 s2.1 1,s2.2))) λ_=>some (.dn ((1,(s2,()))))) (λk x y b m=>by
   have j:=(List.getElem?_eq_some_iff.1 b).1;have z:=g x (List.mem_of_getElem? b);constructor
   ·intro e;simp only;rw [rl j,R5,S9,Sb b,S9,Sb m,XK,Wm _ _ (by omega),SL,Us,Ux,if_neg (by simp [e]),TJ (by omega)]
   ·intro e;simp only
    rw [rl j,R5,S9,Sb b,S9,Sb m,XK,Wm _ _ (by omega),SL,Us,Ux,if_pos e]) (by simp only;rw [re];rfl)
 refine TZ C ?_;rw [SM];rcases c with ⟨e,c⟩ | ⟨e,c,D⟩
 ·rw [if_neg (show ¬ r.1=0 by omega)];simp [e,e2,e3]
 ·rw [if_pos c,D];simp [e]
theorem Z7 (x y:XQ) (a:x.1.1.length<=1000) (b : ∀ l∈x.1.1,l.length<=1000000) (c:x.1.2.1.length<=1000) (d:x.1.2.2.1.length<=1000) (e:x.1.2.2.2.1.length<=1000) (f:x.2.2.1.length<=1000000):Tu (x,y)=some (decide (x=y)):=by
 obtain ⟨i,⟨xs,k,h⟩,g,j⟩:=x;obtain ⟨n,⟨q,r,m⟩,p,o⟩:=y;simp only at a b c d e f;unfold Tu;simp only [bz _ _ a b c d e,XK,Wm _ _ (show g.length<=9223372036854775806 by omega),SL,Ux,VZ,Yr,beq_eq,Yu,X2]
 repeat' split
 all_goals simp_all
section
variable {a b:List S8} (va:VL a) (vb:VL b)
include va vb
theorem Yp:VW [a,b]=some (0,0):=by
 have c:=va.len;have d:=vb.len;unfold VW;refine Eq.trans (b:=bd (loop _ (0,(0,0))) _) rfl ?_;refine TZ (x:=(1,((0,(0,2)),()))) (Uq (s1:=(0,(0,1))) (s2:=(0,(0,2))) ?_ ?_ rfl) rfl
 ·refine (Zb 0 rfl rfl (x:=a) rfl).trans ?_;rw [XC _ (by omega),YI va,SL];rfl
 ·refine (Zb 1 rfl rfl (x:=b) rfl).trans ?_;rw [XC _ (by omega),YI vb,SL];rfl
theorem X7 {i j:Nat} (hi:i<=a.length) (g:j<=b.length):VV ([a,b],[(i:Int),(j:Int)])=some (if i=a.length/\j=b.length then -1 else if XT a b i j=true then 0 else 1):=by
 have k:=va.len;have l:=vb.len;unfold VV;simp only [TH,TF];refine TZ (x:=(0,((if i=a.length/\j=b.length then -1 else if XT a b i j=true then 0 else 1,2),()))) (Uq (s1:=(if i=a.length then -1 else 0,1)) (s2:=(if i=a.length/\j=b.length then -1 else if XT a b i j=true then 0 else 1,2)) ?_ ?_ rfl) rfl
 ·refine (Zb 0 rfl rfl (x:=(i:Int)) rfl).trans ((WG 0 rfl (x:=a) rfl).trans ?_);rw [Sr];by_cases h:i=a.length
  ·rw [if_neg (by omega),if_pos h];rfl
  ·rw [if_pos (by omega),if_neg h];rfl
 ·refine (Zb 1 rfl rfl (x:=(j:Int)) rfl).trans ((WG 1 rfl (x:=b) rfl).trans ?_);rw [Sr];by_cases h:j=b.length
  ·rw [if_neg (by omega)];by_cases c:i=a.length
   ·rw [if_pos c,if_pos ⟨c,h⟩];rfl
   ·rw [if_neg c,if_neg (λe=>c e.1)];have d:a[i]? = some (a[i]'(by omega)):=by simp
    rw [eO d (List.getElem?_eq_none (by omega))];rfl
  ·have f:b[j]? = some (b[j]'(by omega)):=by simp
   rw [if_pos (by omega),Sr,if_neg (λe:i=a.length/\j=b.length=>h e.2)];by_cases c:i=a.length
   ·rw [if_pos c,if_pos (by omega),eP (List.getElem?_eq_none (by omega)) f];rfl
   ·rw [if_neg c,if_neg (by omega)];have d:a[i]? = some (a[i]'(by omega)):=by simp
    refine (WG 1 rfl (x:=b) rfl).trans ((WG 1 rfl (x:=(j:Int)) rfl).trans ((WG j rfl f).trans ((WG 0 rfl (x:=a) rfl).trans ((WG 0 rfl (x:=(i:Int)) rfl).trans ((WG i rfl d).trans ?_)))));rw [W6,Zu d f];cases hs:Rz (b[j]'(by omega)).1 (a[i]'(by omega)).1<;>rfl
theorem X8 {i j:Nat} (hi:i<=a.length) (e:j<=b.length):U1 ([a,b],[(i:Int),(j:Int)])=some (Yt a b i j):=by
 have f:=va.len;have g:=vb.len;unfold U1;simp only [TH,TF];rw [UB (show [a,b].length<=1048576 from (show 2<=1048576 by omega)),UB (show [(i:Int),(j:Int)].length<=1048576 from (show 2<=1048576 by omega))];refine TZ (x:=(0,((2,[kx a i,kx b j]),()))) (Uq (s1:=(1,[kx a i])) (s2:=(2,[kx a i,kx b j])) ?_ ?_ rfl) ?_
 ·refine (Zb 0 rfl rfl (x:=(i:Int)) rfl).trans ((WG 0 rfl (x:=a) rfl).trans ?_);rw [VZ,Us,Ux];by_cases h:i=a.length
  ·have c:((i:Int)=(a.length:Int)):=by omega
   rw [if_neg (show ¬ ¬ ((i:Int)=(a.length:Int)) by simp [c]),Y6 (List.getElem?_eq_none (by omega))];simp only [c,decide_true];rfl
  ·have d:a[i]? = some (a[i]'(by omega)):=by simp
   have c : ¬ ((i:Int)=(a.length:Int)):=by omega
   rw [if_pos c];refine (WG 0 rfl (x:=a) rfl).trans ((WG 0 rfl (x:=(i:Int)) rfl).trans ((WG i rfl d).trans ?_));rw [W2 d];simp only [c,decide_false];rfl
 ·refine (Zb 1 rfl rfl (x:=(j:Int)) rfl).trans ((WG 1 rfl (x:=b) rfl).trans ?_);rw [VZ,Us,Ux];by_cases h:j=b.length
  ·have c:((j:Int)=(b.length:Int)):=by omega
   rw [if_neg (show ¬ ¬ ((j:Int)=(b.length:Int)) by simp [c]),Y6 (l:=b) (i:=j) (List.getElem?_eq_none (by omega))];simp only [c,decide_true];rfl
  ·have d:b[j]? = some (b[j]'(by omega)):=by simp
   have c : ¬ ((j:Int)=(b.length:Int)):=by omega
   rw [if_pos c];refine (WG 1 rfl (x:=b) rfl).trans ((WG 1 rfl (x:=(j:Int)) rfl).trans ((WG j rfl d).trans ?_));rw [W2 (l:=b) (i:=j) d];simp only [c,decide_false];rfl
 ·show bd (V1 [kx a i,kx b j]) _=_;rw [e9 _ _ (UC _ _) (UC _ _)];rfl
theorem ef {i:Nat} {l:List S8} (h:i≠0) (hi:i<=l.length) : ∃ x,l[i-1]? = some x:=⟨l[i-1]'(by omega),by simp⟩
theorem ZR {i j:Nat} (I:Inv a b i j):VU (Yt a b i j)=some (0,0):=by
 have t:=va.len;have u:=vb.len;have hi:=I.ia;have k:=I.jb;unfold VU;rw [show (Yt a b i j).1=[a,b] from rfl,Yp va vb,SL,Ss,if_pos rfl];rw [show (Yt a b i j).2.1=[(i:Int),(j:Int)] from rfl,Ss,if_pos (show Kb (AS [(i:Int),(j:Int)])=Kb (AS [a,b]) from rfl)];refine TZ (x:=(1,((0,(0,2)),()))) (Uq (s1:=(0,(0,1))) (s2:=(0,(0,2))) ?_ ?_ rfl) ?_
 ·refine (Zb 0 rfl rfl (x:=(i:Int)) rfl).trans ?_;rw [Sr,if_neg (by omega)];refine (WG 0 rfl (x:=(i:Int)) rfl).trans ((WG 0 rfl (x:=a) rfl).trans ?_);rw [Sp,if_neg (by simp only [TH,TF];omega)];rfl
 ·refine (Zb 1 rfl rfl (x:=(j:Int)) rfl).trans ?_;rw [Sr,if_neg (by omega)];refine (WG 1 rfl (x:=(j:Int)) rfl).trans ((WG 1 rfl (x:=b) rfl).trans ?_);rw [Sp,if_neg (by simp only [TH,TF];omega)];rfl
 rw [show neq ((1:Nat),(((0:Int),((0:Int),(2:Int))),())).1 0=false from rfl,Rd,X8 va vb hi k,SL,Z8 (Yt a b i j).2.2 (Yt a b i j).2.2 (show 2<=1000 by omega) (show 2<=1000 by omega),SL,Us,Ux,if_neg (show ¬ ¬ (Yt a b i j).2.2=(Yt a b i j).2.2 by simp),X7 va vb hi k,SL];by_cases r:i=a.length/\j=b.length
 ·rw [if_pos r];refine TZ (x:=(1,((0,(0,0)),()))) (Ui (n:=1) (by omega) (Tp ?_)) rfl;rfl
 rw [if_neg r];cases g:XT a b i j with
 | true =>
  rw [if_pos rfl]
  have p:i<a.length:=by
   refine Nat.lt_of_not_le λh' => ?_;have o:j<b.length:=by omega
   rw [eP (List.getElem?_eq_none h') (show b[j]? = some (b[j]'o) by simp)] at g;cases g
  have e:a[i]? = some (a[i]'p):=by simp
  refine TZ (x:=(1,((0,(0,2)),()))) (Uq (s1:=(0,(0,1))) (s2:=(0,(0,2))) ?_ ?_ rfl) rfl
  ·show br (SW (0:Int) 2) _ _=_;rw [Sr,if_pos (by omega),So,if_pos (by omega)];refine (WG 0 rfl (x:=(i:Int)) rfl).trans ?_;rw [Sn];by_cases f:i=0
   ·rw [if_pos (by omega)];rfl
   ·rw [if_neg (by omega)];obtain ⟨y,d⟩:=ef va vb (l:=a) f hi;refine (WG 0 rfl (x:=a) rfl).trans ((WG 0 rfl (x:=(i:Int)) rfl).trans ?_);rw [show Rp .i64 (i:Int) 1=((i-1:Nat):Int) by rw [SB (by omega)];omega,S9,Sb d];refine (WG 0 rfl (x:=a) rfl).trans ((WG 0 rfl (x:=(i:Int)) rfl).trans ((WG i rfl e).trans ?_));have c:=va.lt d (show a[i-1+1]? = some _ by rw [show i-1+1=i by omega];exact e);rw [W6,if_neg (by rw [Uv c];simp),V6,if_neg (YQ c)];rfl
  ·show br (SW (1:Int) 2) _ _=_;rw [Sr,if_pos (by omega),So,if_pos (by omega)];refine (WG 1 rfl (x:=(j:Int)) rfl).trans ?_;rw [Sn];by_cases f:j=0
   ·rw [if_pos (by omega)];rfl
   ·rw [if_neg (by omega)];obtain ⟨y,d⟩:=ef va vb (l:=b) f k;refine (WG 1 rfl (x:=b) rfl).trans ((WG 1 rfl (x:=(j:Int)) rfl).trans ?_);rw [show Rp .i64 (j:Int) 1=((j-1:Nat):Int) by rw [SB (by omega)];omega,S9,Sb d];refine (WG 0 rfl (x:=a) rfl).trans ((WG 0 rfl (x:=(i:Int)) rfl).trans ((WG i rfl e).trans ?_));have c:=I.pb (j-1) (by omega) y _ d e;rw [W6,if_neg (by rw [Uv c];simp),V6,if_neg (YQ c)];rfl
 | false =>
  rw [if_neg (by simp)]
  have h:j<b.length:=by
   refine Nat.lt_of_not_le λh' => ?_;have m:i<a.length:=by omega
   rw [eO (show a[i]? = some (a[i]'m) by simp) (List.getElem?_eq_none h')] at g;cases g
  have e:b[j]? = some (b[j]'h):=by simp
  refine TZ (x:=(1,((0,(0,2)),()))) (Uq (s1:=(0,(0,1))) (s2:=(0,(0,2))) ?_ ?_ rfl) rfl
  ·show br (SW (0:Int) 2) _ _=_;rw [Sr,if_pos (by omega),So,if_pos (by omega)];refine (WG 0 rfl (x:=(i:Int)) rfl).trans ?_;rw [Sn];by_cases f:i=0
   ·rw [if_pos (by omega)];rfl
   ·rw [if_neg (by omega)];obtain ⟨y,d⟩:=ef va vb (l:=a) f hi;refine (WG 0 rfl (x:=a) rfl).trans ((WG 0 rfl (x:=(i:Int)) rfl).trans ?_);rw [show Rp .i64 (i:Int) 1=((i-1:Nat):Int) by rw [SB (by omega)];omega,S9,Sb d];refine (WG 1 rfl (x:=b) rfl).trans ((WG 1 rfl (x:=(j:Int)) rfl).trans ((WG j rfl e).trans ?_));have q:=I.pa (i-1) (by omega) y _ d e;rw [W6,if_neg (by rw [q];simp),V6];by_cases s:y.1=(b[j]'h).1
    ·rw [if_pos s];rfl
    ·rw [if_neg s];rfl
  ·show br (SW (1:Int) 2) _ _=_;rw [Sr,if_pos (by omega),So,if_pos (by omega)];refine (WG 1 rfl (x:=(j:Int)) rfl).trans ?_;rw [Sn];by_cases f:j=0
   ·rw [if_pos (by omega)];rfl
   ·rw [if_neg (by omega)];obtain ⟨y,d⟩:=ef va vb (l:=b) f k;refine (WG 1 rfl (x:=b) rfl).trans ((WG 1 rfl (x:=(j:Int)) rfl).trans ?_);rw [show Rp .i64 (j:Int) 1=((j-1:Nat):Int) by rw [SB (by omega)];omega,S9,Sb d];refine (WG 1 rfl (x:=b) rfl).trans ((WG 1 rfl (x:=(j:Int)) rfl).trans ((WG j rfl e).trans ?_));have c:=vb.lt d (show b[j-1+1]? = some _ by rw [show j-1+1=j by omega];exact e);rw [W6,if_neg (by rw [Uv c];simp),V6,if_neg (YQ c)];rfl
end
end
section
open Go Go.Proofs.YtfilfloanndddaaGreat.Sv
section
variable {a b:List S8} (va:VL a) (vb:VL b)
include va vb
theorem iN {n:Nat} {x:S8} (h:n<a.length+b.length) (d:ZY a b n=some x):Vl (Yg a b n)=some (x,((aC a b n:Int),(Yg a b (n+1),0))):=by
 obtain ⟨i,hs⟩:=WH va vb (n:=n) (by omega);obtain ⟨j,k⟩:=WH va vb (n:=n+1) (by omega);have l:=va.len;have m:=vb.len;have e:=i.ia;have f:=i.jb;unfold Vl;rw [show Yg a b n=Yt a b (TN a b n).1 (TN a b n).2 from rfl,ZR va vb i,SL,Ss,if_pos rfl,show (Yt a b (TN a b n).1 (TN a b n).2).1=[a,b] from rfl,show (Yt a b (TN a b n).1 (TN a b n).2).2.1=[((TN a b n).1:Int),((TN a b n).2:Int)] from rfl,X7 va vb e f,SL,if_neg (λhh:(TN a b n).1=a.length/\(TN a b n).2=b.length=>by omega)];unfold ZY at d;have c:TN a b (n+1)=if XT a b (TN a b n).1 (TN a b n).2=true then ((TN a b n).1+1,(TN a b n).2) else ((TN a b n).1,(TN a b n).2+1):=rfl
 unfold Yg aC;cases g:XT a b (TN a b n).1 (TN a b n).2 with
 | true =>
  rw [g,if_pos rfl] at c;rw [g,if_pos rfl] at d;have hi:=(List.getElem?_eq_some_iff.1 d).1;rw [if_pos rfl,Sr,if_neg (by omega),UB (show AS [((TN a b n).1:Int),((TN a b n).2:Int)]<=1048576 from (show 2<=1048576 by omega))];refine (YN 0 rfl (x:=((TN a b n).1:Int)) rfl).trans ((YN 0 rfl (x:=((TN a b n).1:Int)) rfl).trans ((WG 0 rfl (x:=a) rfl).trans ((WG 0 rfl (x:=((TN a b n).1:Int)) rfl).trans ((WG _ rfl d).trans ?_))));rw [TJ (by omega),show lset [((TN a b n).1:Int),((TN a b n).2:Int)] 0 (((TN a b n).1+1:Nat):Int)=[(((TN a b n).1+1:Nat):Int),((TN a b n).2:Int)] from rfl,X8 va vb (by omega) f,SL,c];rfl
 | false =>
  rw [g,if_neg (by simp)] at c;rw [g,if_neg (by simp)] at d;have hi:=(List.getElem?_eq_some_iff.1 d).1;rw [if_neg (by simp),Sr,if_neg (by omega),UB (show AS [((TN a b n).1:Int),((TN a b n).2:Int)]<=1048576 from (show 2<=1048576 by omega))];refine (YN 1 rfl (x:=((TN a b n).2:Int)) rfl).trans ((YN 1 rfl (x:=((TN a b n).2:Int)) rfl).trans ((WG 1 rfl (x:=b) rfl).trans ((WG 1 rfl (x:=((TN a b n).2:Int)) rfl).trans ((WG _ rfl d).trans ?_))));rw [TJ (by omega),show lset [((TN a b n).1:Int),((TN a b n).2:Int)] 1 (((TN a b n).2+1:Nat):Int)=[((TN a b n).1:Int),(((TN a b n).2+1:Nat):Int)] from rfl,X8 va vb e (by omega),SL,c];rfl
theorem iM {n:Nat} (h:n<=a.length+b.length):Wu (Yg a b n)=some (((a.length+b.length-n:Nat):Int),0):=by
 obtain ⟨c,hs⟩:=WH va vb (n:=n) h;have f:=va.len;have g:=vb.len;have d:=c.ia;have e:=c.jb;unfold Wu;rw [show Yg a b n=Yt a b (TN a b n).1 (TN a b n).2 from rfl,ZR va vb c,SL,Ss,if_pos rfl];refine TZ (x:=(0,((2,((a.length+b.length-n:Nat):Int)),()))) (Uq (s1:=(1,(a.length:Int)-((TN a b n).1:Int))) (s2:=(2,((a.length+b.length-n:Nat):Int))) ?_ ?_ rfl) rfl
 ·refine (Zb 0 rfl rfl (x:=a) rfl).trans ((WG 0 rfl (x:=((TN a b n).1:Int)) rfl).trans ?_);simp only [TH,TF];rw [show Rl .i64 (0:Int) (a.length:Int)=(a.length:Int) by rw [R9 (by omega),Int.zero_add],SB (by omega)];rfl
 ·refine (Zb 1 rfl rfl (x:=b) rfl).trans ((WG 1 rfl (x:=((TN a b n).2:Int)) rfl).trans ?_);simp only [TH,TF];show some (LR.nx ((2:Int),Rp .i64 (Rl .i64 ((a.length:Int)-((TN a b n).1:Int)) (b.length:Int)) ((TN a b n).2:Int)))=_;rw [R9 (by omega),SB (by omega),show (a.length:Int)-((TN a b n).1:Int)+(b.length:Int)-((TN a b n).2:Int)=((a.length+b.length-n:Nat):Int) by omega]
theorem eY:WA [a,b]=some (TU a b (a.length+b.length),(XX a b (a.length+b.length),0)):=by
 have l:=va.len;have m:=vb.len;unfold WA;rw [Yp va vb,SL,Ss,if_pos rfl];refine Eq.trans (b:=bd (loop _ ([],([],([],(0,([],[0,0])))))) _) rfl ?_
 refine TZ (x:=(0,((XX a b (a.length+b.length),(TU a b (a.length+b.length),0)),())))
  (XU (λk=>([],(TU a b k,([],(0,(XX a b k,[((TN a b k).1:Int),((TN a b k).2:Int)])))))) 0 (a.length+b.length) rfl (by omega) (by omega) (λk _ j => ?_) ?_) rfl
 ·obtain ⟨x,c,_⟩:=Vi va vb (n:=k) j;obtain ⟨d,hs⟩:=WH va vb (n:=k) (by omega);have e:(TU a b k).length=k:=Uu va vb (by omega);have f:=ZL a b k;simp only;rw [X7 va vb d.ia d.jb,SL,if_neg (λhh:(TN a b k).1=a.length/\(TN a b k).2=b.length=>by omega)];rw [Wf va vb c];unfold ZY at c;rw [show XX a b (k+1)=XX a b k++[(aC a b k:Int)] from rfl];unfold aC;rw [show TN a b (k+1)=if XT a b (TN a b k).1 (TN a b k).2=true then ((TN a b k).1+1,(TN a b k).2) else ((TN a b k).1,(TN a b k).2+1) from rfl]
  have h : ∀ {β:Type} (y:S8) (q:Unit->Option β),gd (CD (BD (AS (TU a b k)) (AS [y])) 1048576) q=q ():=λy q=>UB (by simp only [BD,AS,e,List.length_cons,List.length_nil];omega) q;have i : ∀ {β:Type} (y:Int) (q:Unit->Option β),gd (CD (BD (AS (XX a b k)) (AS [y])) 1048576) q=q ():=λy q=>UB (by simp only [BD,AS,f,List.length_cons,List.length_nil];omega) q;cases g:XT a b (TN a b k).1 (TN a b k).2 with
  | true =>
   rw [g,if_pos rfl] at c;have hi:=(List.getElem?_eq_some_iff.1 c).1;simp only [if_true];rw [Sr,if_neg (by omega)];refine (WG 0 rfl (x:=a) rfl).trans ((YN 0 rfl (x:=((TN a b k).1:Int)) rfl).trans ((WG _ rfl c).trans ?_));rw [h,i];refine (YN 0 rfl (x:=((TN a b k).1:Int)) rfl).trans ((YN 0 rfl (x:=((TN a b k).1:Int)) rfl).trans ?_);rw [TJ (by omega)];rfl
  | false =>
   rw [g,if_neg (by simp)] at c;have hi:=(List.getElem?_eq_some_iff.1 c).1;simp only [Bool.false_eq_true,if_false];rw [Sr,if_neg (by omega)];refine (WG 1 rfl (x:=b) rfl).trans ((YN 1 rfl (x:=((TN a b k).2:Int)) rfl).trans ((WG _ rfl c).trans ?_));rw [h,i];refine (YN 1 rfl (x:=((TN a b k).2:Int)) rfl).trans ((YN 1 rfl (x:=((TN a b k).2:Int)) rfl).trans ?_);rw [TJ (by omega)];rfl
 ·obtain ⟨d,hs⟩:=WH va vb (n:=a.length+b.length) (Nat.le_refl _);simp only;rw [X7 va vb d.ia d.jb,SL,if_pos (show (TN a b (a.length+b.length)).1=a.length/\(TN a b (a.length+b.length)).2=b.length by have:=d.ia;have:=d.jb;omega),Sr,if_pos (by omega)]
end
theorem cE {s:UI} (b:s.2.1.length<=32) (a:s.1=false->s.2.1=[]):WY s=some 0:=by
 unfold WY;rw [Sp,if_neg (by simp only [TH,YC];omega),Tq,Sx];cases h:s.1 with
 | true=>rfl
 | false=>rw [if_neg (by simp),Tq,V6,if_pos (a h)]
theorem cw {s:UI} {x:S8} (e:s.2.1.length<=32) (f:s.1=false->s.2.1=[]) (g:kE x=0) (a:s.1=true->Rz x.1 s.2.1=false):Ww (s,x)=some (keep s x,((true,(x.1,s.2.2)),0)):=by
 unfold Ww keep;rw [cE e f,SL,Sn,if_pos rfl,ZC,g,SL,Sn,if_pos rfl];obtain ⟨s1,s2,c⟩:=s;obtain ⟨h,i,d,j⟩:=x;simp only at a ⊢;cases s1 with
 | true =>
  have:=a rfl;simp only [R5,W6,this,Bool.false_eq_true,if_false,Ss,if_true,Tq,V6];by_cases b:h=s2
  ·simp [b,Rd]
  ·simp only [b,if_false,decide_false];cases c<;>cases d<;>rfl
 | false =>
  simp only [Rd,Ss,if_true,Tq];cases c<;>cases d<;>rfl
theorem cp {l:List S8} {b:Bool} (t:l.length<=20000) (r:ZF (false,([],b)) l):WB (l,b)=some (V5 (false,([],b)) l,(0,0)):=by
 unfold WB U2;simp only [TH,TF];rw [Sp,if_neg (by omega),SL]
 rw [VB (l:=l) (σ:=UI×List S8) (s:=(0,(0,([],([],(0,(false,([],b)))))))) (λk a=>((0:Int),((k:Int),(([]:List S8),(a.2,((0:Int),a.1))))))
  (λm k a=>ZF a.1 m/\a.1.2.1.length<=32/\(a.1.1=false->a.1.2.1=[])/\a.2.length<=k/\k+m.length=l.length)
  (λm k a=>(1,((0,((l.length:Int),([],(a.2++V5 a.1 m,(0,Ub a.1 m))))),()))) ((false,([],b)),[]) rfl (by omega) ⟨r,by simp,λ_=>rfl,by simp,by simp⟩ ?_ ?_,SL]
 ·simp;rfl
 ·intro a _;simp only;rw [re,Rd];simp [Ub,V5]
 ·rintro k x m ⟨s,out⟩ u d p ⟨⟨c,e,f⟩,g,i,j,n⟩;simp only at c e f g i j ⊢;refine ⟨((true,(x.1,s.2.2)),out++if keep s x=true then [x] else []),?_,⟨f,Zx c,(λh=>by cases h),?_,by simp at n;omega⟩,?_⟩
  ·rw [rl p,R5,S9,Sb d,cw g i c e,SL,Ss,if_pos rfl,Sx,S9,Sb d];have o : ∀ {β:Type} (k:Unit->Option β),gd (CD (BD out.length [x].length) 1048576) k=k ():=λk=>eM j (by simp at n;omega) x k;rw [o,TM d (show l.length<=9223372036854775807 by omega)];cases q:keep s x<;>simp [Ik]
  ·split<;>simp<;>omega
  ·simp only [Ub,V5,List.append_assoc]
section
variable {a b:List S8} (va:VL a) (vb:VL b)
include va vb
theorem aN (c:Bool) {n:Nat} (h:n<=a.length+b.length):U9 (TU a b n,c)=some (V5 (s0 c) (TU a b n),Ub (s0 c) (TU a b n)):=by
 have f:=va.len;have g:=vb.len;have d:(TU a b n).length=n:=Uu va vb h;unfold U9;simp only [TH,TF];rw [cp (by omega) (XD va vb c h),SL];unfold U2;rw [SL,Sp,d];cases n with
 | zero=>rw [if_neg (by omega)];rfl
 | succ m =>
  obtain ⟨x,e,_⟩:=Vi va vb (n:=m) (by omega);rw [if_pos (by omega),show Rp .i64 ((m+1:Nat):Int) 1=(m:Int) by rw [SB (by omega)];omega,S9,Sb (x:=x) (by rw [Xv va vb h (by omega)];exact e),YM va vb c e]
theorem cD (c:Bool) {n:Nat} (h:n<=a.length+b.length):Vm (VC a b c n)=some (n:Int):=by
 obtain ⟨d,hs⟩:=WH va vb (n:=n) h;have e:=va.len;have f:=vb.len;unfold Vm;refine TZ (x:=(0,(((n:Int),2),()))) (Uq (s1:=(((TN a b n).1:Int),1)) (s2:=((n:Int),2)) ?_ ?_ rfl) rfl
 ·refine (Zb 0 rfl rfl (x:=((TN a b n).1:Int)) rfl).trans ?_;show some (LR.nx (Rl .i64 0 ((TN a b n).1:Int),(1:Int)))=_;rw [R9 (by omega),Int.zero_add]
 ·refine (Zb 1 rfl rfl (x:=((TN a b n).2:Int)) rfl).trans ?_;show some (LR.nx (Rl .i64 ((TN a b n).1:Int) ((TN a b n).2:Int),(2:Int)))=_;rw [R9 (by omega),show ((TN a b n).1:Int)+((TN a b n).2:Int)=(n:Int) by omega]
theorem cG (c:Bool) {n:Nat} (h:n<=a.length+b.length):Wa (VC a b c n)=some 0:=by
 obtain ⟨d,hs⟩:=WH va vb (n:=n) h;have g:=va.len;have i:=vb.len;have e:=Xo (s0 c) (TU a b n);have f:(TU a b n).length=n:=Uu va vb h;unfold Wa;rw [show (VC a b c n).1=Yt a b (TN a b n).1 (TN a b n).2 from rfl,ZR va vb d,SL,Ss,if_pos rfl,cD va vb c h,SL];simp only [TH,TF];rw [show (VC a b c n).2.2.1=V5 (s0 c) (TU a b n) from rfl,show (VC a b c n).2.2.2=(n:Int) from rfl,show (VC a b c n).2.1=Ub (s0 c) (TU a b n) from rfl,Sp,if_neg (by omega),Sp,if_neg (by omega),Ss,if_pos rfl];rw [show (Yt a b (TN a b n).1 (TN a b n).2).1=[a,b] from rfl,eY va vb,SL,S9];rw [UB (by rw [Uu va vb (Nat.le_refl _)];exact h),UB (Nat.zero_le _)];rw [show Dy (TU a b (a.length+b.length)) 0 n=TU a b n from by unfold Dy;rw [List.drop_zero,Nat.sub_zero];exact XP va vb h,W3];rw [show (s0 c).2.2=c from rfl,aN va vb c h,SL,XK,Wm _ _ (by omega),SL,Us,Ux,if_neg (by simp),W3,Xe,Xe,X9];rfl
theorem Yq (c:Bool) {n:Nat} (h:n<=a.length+b.length):Ti (VC a b c n)=some (((a.length+b.length-n:Nat):Int),0):=by
 unfold Ti;rw [cG va vb c h,SL,Ss,if_pos rfl,show (VC a b c n).1=Yg a b n from rfl,iM va vb h];rfl
theorem aB (c:Bool) {n:Nat} (h:n<=a.length+b.length) {k:Nat}:Ta (VC a b c n,(k:Int))=some (VC a b c (n+min k (a.length+b.length-n)),(((min k (a.length+b.length-n):Nat):Int),0)):=by
 have i:=va.len;have l:=vb.len;obtain ⟨u,e⟩ : ∃ u,u=min k (a.length+b.length-n):=⟨_,rfl⟩
 have d:Sz (k:Int) ((a.length+b.length-n:Nat):Int)=(u:Int):=by
  unfold Sz;split<;>omega
 rw [<- e];unfold Ta;rw [Yq va vb c h,SL,Sn,if_pos rfl];simp only [d,TH,TF];rw [Sr,if_neg (by omega),Ss,if_pos rfl,cD va vb c h,SL,R9 (by omega),Sp,if_neg (by omega)]
 refine TZ (x:=(0,(((u:Int),((Yg a b (n+u)).1,((Yg a b (n+u)).2.1,((Yg a b (n+u)).2.2.1,((Yg a b (n+u)).2.2.2.1,((Yg a b (n+u)).2.2.2.2,((VC a b c n).2.1.1,((VC a b c n).2.1.2.1,((VC a b c n).2.1.2.2,(VC a b c n).2.2))))))))),())))
  (XU (λj=>((j:Int),((Yg a b (n+j)).1,((Yg a b (n+j)).2.1,((Yg a b (n+j)).2.2.1,((Yg a b (n+j)).2.2.2.1,((Yg a b (n+j)).2.2.2.2,((VC a b c n).2.1.1,((VC a b c n).2.1.2.1,((VC a b c n).2.1.2.2,(VC a b c n).2.2)))))))))) 0 u rfl (by omega) (by omega) (λj _ g => ?_) ?_) ?_
 ·obtain ⟨y,f,_⟩:=Vi va vb (n:=n+j) (by omega);show br (SW (j:Int) (u:Int)) _ _=_;rw [Sr,if_pos (by omega)];show bd (Vl (Yg a b (n+j))) _=_;rw [iN va vb (by omega) f,SL,TJ (by omega)];rfl
 ·show br (SW (u:Int) (u:Int)) _ _=_;rw [Sr,if_neg (by omega)]
 ·rw [show (VC a b c n).1.1=[a,b] from rfl,eY va vb,SL,show (VC a b c n).2.2.2=(n:Int) from rfl,show Rl .i64 (n:Int) (u:Int)=((n+u:Nat):Int) by rw [R9 (by omega)];omega,S9];rw [UB (by rw [Uu va vb (Nat.le_refl _)];omega),UB (Nat.zero_le _)];rw [show Dy (TU a b (a.length+b.length)) 0 (n+u)=TU a b (n+u) from by unfold Dy;rw [List.drop_zero,Nat.sub_zero];exact XP va vb (by omega),show (VC a b c n).2.1.2.2=c from W3 _ _,aN va vb c (by omega),SL];rfl
end
end
section
open Go Go.Proofs.YtfilfloanndddaaGreat.Sv
theorem ac (B:Int) (i:Nat):UW B (i+1)=2*UW B i:=by
 unfold UW;rw [Int.pow_succ,<- Int.mul_assoc,Int.mul_comm]
theorem cF {B:Int} {i:Nat} (a:1<=B) (b:B<=16) (hi:i<=12):VI (B,(i:Int))=some (UW B i):=by
 unfold VI;refine TZ (x:=(0,((UW B i,(i:Int)),()))) (XZ (λk=>(UW B k,(k:Int))) i (by simp [UW]) (by omega) (λk d => ?_) ?_) rfl
 ·have c:=cO a b (show k<=12 by omega);simp only;rw [Sr,if_pos (by omega),SA (by omega),TJ (by omega),ac]
 ·simp only;rw [Sr,if_neg (by omega)]
theorem nB (r:TY) (b:r.2.length<=9223372036854775807):WW r=some (if r.1<1\/r.1>1000000 then (-1,7) else WR r.2):=by
 unfold WW;rw [Sr,Sp,XC _ b,SL];by_cases h:r.1<1
 ·rw [if_pos h,if_pos (.inl h)]
 ·rw [if_neg h];by_cases a:r.1>1000000
  ·rw [if_pos a,if_pos (.inr a)]
  ·rw [if_neg a,if_neg (by omega)]
theorem iS (r:TY) (most:Int) (a:List Int) (z:r.2.length<=9223372036854775807) (hi:a.length<=1048576):Vo (r,(most,a))=some (kR a most r):=by
 unfold Vo kR;rw [nB r (by omega),SL];simp only [TH,TF];by_cases h:r.1<1\/r.1>1000000
 ·rw [if_pos h,if_pos h];rfl
 rw [if_neg h,if_neg h,Ss];by_cases b:(WR r.2).2=0;rotate_left
 ·rw [if_neg b,if_pos b]
 rw [if_pos b,if_neg (show ¬ (WR r.2).2≠0 by simp [b]),Sn,Sp];by_cases i:r.2.length=0
 ·rw [if_pos (by omega),if_pos i]
 rw [if_neg (by omega),if_neg i];by_cases c:(r.2.length:Int)>most
 ·rw [if_pos c,if_pos c]
 rw [if_neg c,if_neg c]
 obtain ⟨q,p,d⟩:=We (l:=a) (σ:=Unit) (s:=((0:Int),(0:Int))) (λk _=>((k:Int),(0:Int))) (λm k _=>r.1∈a<->r.1∈m) (λ(q:Nat×((Int×Int)×Unit))=>(q.1=1/\r.1 ∉ a)\/(q.1=0/\r.1∈a/\q.2.1.2=8))
  (f:=λs1=>br (SW s1.1 (a.length:Int)) (λ_=>RX s1.1 λo=>ix a o λw=>br (RR w r.1) (λ_=>some (.dn ((0,((s1.1,8),()))))) λ_=>some (.nx (Rl .i64 s1.1 1,s1.2))) λ_=>some (.dn ((1,(s1,())))))
  () rfl (by omega) Iff.rfl (λ_ h=>⟨_,by simp only;rw [re];rfl,.inl ⟨rfl,by simpa using h⟩⟩) (λk x m _ y j n h=>by
   simp only;rw [rl n,R5,S9,Sb j,Sn];by_cases e:x=r.1
   ·rw [if_pos e];exact .inr ⟨_,rfl,.inr ⟨rfl,by rw [h,e];simp,rfl⟩⟩
   ·rw [if_neg e];exact .inl ⟨(),by rw [TM j (by omega)],by rw [h,List.mem_cons];exact ⟨λu=>u.elim (λe2=>absurd e2.symm e) id,.inr⟩⟩)
 refine TZ p ?_;rw [SM];rcases d with ⟨d,g⟩ | ⟨d,g,t⟩
 ·rw [if_neg (show ¬ q.1=0 by omega),if_neg g]
 ·rw [if_pos d,if_pos g,t]
theorem bB (L:TB) (hb:L.2.length<=1048576) (hr : ∀ rs∈L.2,rs.length<=1048576 /\ ∀ r∈rs,r.2.length<=9223372036854775807):Uf L=some (V3 L):=by
 unfold Uf V3;simp only [TH,TF];rw [Sr,Sp,Sp];by_cases n:L.1<1
 ·rw [if_pos n,if_pos (.inl n)]
 rw [if_neg n];by_cases o:L.1>16
 ·rw [if_pos o,if_pos (.inr o)]
 rw [if_neg o,if_neg (show ¬ (L.1<1\/L.1>16) by omega)];by_cases S:(L.2.length:Int)>12
 ·rw [if_pos S,if_pos (by omega)]
 rw [if_neg S,if_neg (by omega)];have hl2:L.2.length<=12:=by omega
 obtain ⟨T,N⟩ : ∃ T,T=Ya L.1 0 [] L.2:=⟨_,rfl⟩;rw [<- N]
 have p:T=none->(br (SU (L.2.length:Int) 0) (λ_=>RX (Rp .i64 (L.2.length:Int) 1) λD=>ix L.2 D λJ=>br (RR (J.length:Int) 0) (λ_=>some ((Rp .i64 (L.2.length:Int) 1,((0:Int),(6:Int))))) λ_=>some ((0,(0,0)))) λ_=>some ((0,(0,0))))=some (if L.2.getLast? = some [] then (((L.2.length-1:Nat):Int),(0,6)) else (0,(0,0))):=by
  intro _;rw [Sp];by_cases X:L.2=[]
  ·rw [X];rfl
  ·have hp:=List.length_pos_iff.2 X;rw [if_pos (by omega),show Rp .i64 (L.2.length:Int) 1=((L.2.length-1:Nat):Int) by rw [SB (by omega)];omega,S9,List.getLast?_eq_getElem?];have d:L.2[L.2.length-1]? = some (L.2[L.2.length-1]'(by omega)):=by simp
   rw [Sb d,d,Sn];by_cases C:L.2[L.2.length-1]'(by omega)=[]
   ·rw [C];simp
   ·rw [if_neg (by have:=List.length_pos_iff.2 C;omega),if_neg (by simp [C])]
 obtain ⟨r,G,j⟩:=We (l:=L.2) (σ:=List Int) (s:=((0:Int),(([]:List Int),((0:Int),((0:Int),(0:Int)))))) (λi a=>((0:Int),(a,((0:Int),((0:Int),(i:Int))))))
  (λm i a=>Ya L.1 i a m=T/\a.length<=2*i) (λ(r:Nat×((Int×(List Int×(Int×(Int×Int))))×Unit))=>(r.1=1/\T=none)\/(r.1=0/\Q1 T r.2.1.1 r.2.1.2.2.1 r.2.1.2.2.2.1/\T≠none))
  (f:=λ(s0:(Int×((List Int)×(Int×(Int×Int)))))=>br (SW s0.2.2.2.2 (L.2.length:Int)) (λ_=>RX s0.2.2.2.2 λk1=>ix L.2 k1 λB=>br (SU (B.length:Int) 2) (λ_=>some (.dn ((0,((0,(s0.2.1,(s0.2.2.2.2,(3,s0.2.2.2.2)))),()))))) λ_=>bd (loop (λ(b:(Int×((List Int)×(Int×(Int×Int)))))=>br (SW b.2.2.2.2 (B.length:Int)) (λ_=>RX b.2.2.2.2 λE=>ix B E λK=>bd (VI (L.1,s0.2.2.2.2)) λI=>bd (Vo ((K,(I,b.2.1)))) λy=>br (RT y 0) (λ_=>some (.dn ((0,((b.2.2.2.2,(b.2.1,(s0.2.2.2.2,(y,b.2.2.2.2)))),()))))) λ_=>RX b.2.2.2.2 λF=>ix B F λz=>gd (CD (BD b.2.1.length [z.1].length) 1048576) λ_=>some (.nx ((b.1,(Ik b.2.1 [z.1],(b.2.2.1,(b.2.2.2.1,Rl .i64 b.2.2.2.2 1))))))) λ_=>some (.dn ((1,(b,()))))) ((s0.1,(s0.2.1,(s0.2.2.1,(s0.2.2.2.1,0)))))) λc=>br (neq c.1 0) (λ_=>some (.dn ((0,((c.2.1.1,(c.2.1.2.1,(c.2.1.2.2.1,(c.2.1.2.2.2.1,s0.2.2.2.2)))),()))))) λ_=>some (.nx ((c.2.1.1,(c.2.1.2.1,(c.2.1.2.2.1,(c.2.1.2.2.2.1,Rl .i64 s0.2.2.2.2 1))))))) λ_=>some (.dn ((1,(s0,())))))
  [] rfl (by omega) ⟨N.symm,by simp⟩ (λa h=>by
   refine ⟨_,by simp only;rw [re];rfl,.inl ⟨rfl,?_⟩⟩;rw [<- h.1];rfl) (λi rs m a Z d hi h=>by
   obtain ⟨h,P⟩:=h;simp only;obtain ⟨Y,u⟩:=hr rs (List.mem_of_getElem? d);rw [rl hi,R5,S9,Sb d,Sp];unfold Ya at h;by_cases M:rs.length>2
   ·rw [if_pos (by omega)];rw [if_pos M] at h;refine .inr ⟨_,rfl,.inr ⟨rfl,?_,by rw [<- h];simp⟩⟩;rw [<- h];exact ⟨rfl,rfl,rfl⟩
   rw [if_neg (by omega)];rw [if_neg M] at h;obtain ⟨U,O⟩ : ∃ U,U=Yb (UW L.1 i) 0 a rs:=⟨_,rfl⟩;rw [<- O] at h
   obtain ⟨r,G,j⟩:=We (l:=rs) (σ:=Unit) (s:=((0:Int),(a,((0:Int),((0:Int),(0:Int)))))) (λk _=>((0:Int),(a++(rs.take k).map (·.1),((0:Int),((0:Int),(k:Int))))))
    (λm k _=>Yb (UW L.1 i) k (a++(rs.take k).map (·.1)) m=U) (λ(r:Nat×((Int×(List Int×(Int×(Int×Int))))×Unit))=>(r.1=1/\U=none/\r.2.1=(0,(a++rs.map (·.1),(0,(0,(rs.length:Int))))))\/(r.1=0 /\ ∃ k e,U=some (k,e)/\r.2.1.1=(k:Int)/\r.2.1.2.2.1=(i:Int)/\r.2.1.2.2.2.1=e))
    (f:=λ(b:(Int×((List Int)×(Int×(Int×Int)))))=>br (SW b.2.2.2.2 (rs.length:Int)) (λ_=>RX b.2.2.2.2 λE=>ix rs E λK=>bd (VI (L.1,(i:Int))) λI=>bd (Vo ((K,(I,b.2.1)))) λy=>br (RT y 0) (λ_=>some (.dn ((0,((b.2.2.2.2,(b.2.1,((i:Int),(y,b.2.2.2.2)))),()))))) λ_=>RX b.2.2.2.2 λF=>ix rs F λz=>gd (CD (BD b.2.1.length [z.1].length) 1048576) λ_=>some (.nx ((b.1,(Ik b.2.1 [z.1],(b.2.2.1,(b.2.2.2.1,Rl .i64 b.2.2.2.2 1))))))) λ_=>some (.dn ((1,(b,())))))
    () (by simp) (by omega) (by simp [O]) (λ_ h=>by
     refine ⟨_,by simp only;rw [re];rfl,.inl ⟨rfl,by rw [<- h];rfl,by simp⟩⟩) (λk r m _ Z d hk h=>by
     simp only;have hr2:=u r (List.mem_of_getElem? d);have w:(rs.take (k+1)).map (·.1)=(rs.take k).map (·.1)++[r.1]:=by rw [List.take_add_one,d];simp
     have W:(a++(rs.take k).map (·.1)).length<=100:=by simp;omega
     rw [rl hk,R5,S9,Sb d,cF (by omega) (by omega) (by omega),SL,iS _ _ _ (by omega) (by omega),SL,Ss];unfold Yb at h;by_cases A:kR (a++(rs.take k).map (·.1)) (UW L.1 i) r=0
     ·rw [if_neg (λhh:kR (a++(rs.take k).map (·.1)) (UW L.1 i) r≠0=>hh A)] at h;rw [if_pos A,S9,Sb d,UB (by simp only [BD,List.length_cons,List.length_nil];omega)];refine .inl ⟨(),?_,?_⟩
      ·rw [TM d (by omega),w,<- List.append_assoc];rfl
      ·rw [w,<- List.append_assoc];exact h
     ·rw [if_pos A] at h;rw [if_neg A]
      exact .inr ⟨_,rfl,.inr ⟨rfl,_,_,h.symm,rfl,rfl,rfl⟩⟩)
   rw [G,SL,SM];rcases j with ⟨j,g,x⟩ | ⟨j,k,e,g,x,q5,q6⟩
   ·rw [if_neg (show ¬ r.1=0 by omega),x,TM d (by omega)];rw [g] at h;exact .inl ⟨a++rs.map (·.1),rfl,h,by simp;omega⟩
   ·rw [if_pos j];rw [g] at h;refine .inr ⟨_,rfl,.inr ⟨rfl,?_,by rw [<- h];simp⟩⟩;rw [<- h]
    exact ⟨x,q5,q6⟩)
 refine TZ G ?_;rw [SM];rcases j with ⟨j,g⟩ | ⟨j,g,x⟩
 ·rw [if_neg (show ¬ r.1=0 by omega),g];exact p g
 ·rw [if_pos j];cases q:T with
  | none=>exact absurd q x
  | some t =>
   obtain ⟨i,k,e⟩:=t;rw [q] at g;rw [g.1,g.2.1,g.2.2]
def Uj (ls:List (List TY)):List TY:=ls.flatMap List.reverse
theorem VLev.small {L:TB} (v:VLev L):L.2.length<=1048576 /\ ∀ rs∈L.2,rs.length<=1048576 /\ ∀ r∈rs,r.2.length<=9223372036854775807:=by
 refine ⟨by have:=v.len;omega,λrs a => ?_⟩;obtain ⟨i,hi⟩:=List.getElem?_of_mem a;obtain ⟨d,b⟩:=v.lev i rs hi;exact ⟨by omega,λr c=>by have:=(b r c).vl.len;omega⟩
theorem ZX : ∀ (ls:List (List TY)),(∀ rs∈ls,rs.length<=2)->(Uj ls).length<=2*ls.length
 | [],_=>by simp [Uj]
 | rs::ls,h=>by
  have a:=ZX ls λr b=>h r (by simp [b]);have c:=h rs (by simp);unfold Uj at a ⊢;rw [List.flatMap_cons,List.length_append,List.length_reverse,List.length_cons];omega
theorem VLev.two {L:TB} (v:VLev L) : ∀ rs∈L.2,rs.length<=2:=λrs a=>by
 obtain ⟨i,hi⟩:=List.getElem?_of_mem a;exact (v.lev i rs hi).1
theorem cv {L:TB} (v:VLev L):WC L=some (Uj L.2,0):=by
 obtain ⟨d,b⟩:=v.small;have f:=v.len;unfold WC;simp only [TH,TF];rw [bB _ d b,W4 v,SL,Ss,if_pos rfl]
 rw [VB (l:=L.2) (σ:=List TY) (s:=(([]:List TY),(0:Int))) (λi m=>(m,(i:Int))) (λls i m=>(∀ rs∈ls,rs.length<=2)/\m.length<=2*i) (λls _ m=>(0,((m++Uj ls,(L.2.length:Int)),()))) [] rfl (by omega) ⟨v.two,by simp⟩ (λm _=>by
  simp only;rw [re,Rd];simp [Uj]) (λi rs ls m e a hi h=>by
   refine ⟨m++rs.reverse,?_,⟨λr b=>h.1 r (by simp [b]),by have:=h.1 rs (by simp);simp;omega⟩,by simp [Uj]⟩;have c:=h.1 rs (by simp);have g:m.length<=24:=by have:=h.2;omega
   simp only;rw [rl hi,R5,S9,Sb a];have gg : ∀ {β:Type} (z:List TY) (x:TY) (k:Unit->Option β),z.length<=100->gd (CD (BD z.length [x].length) 1048576) k=k ():=λz x k j=>UB (by simp only [BD,List.length_cons,List.length_nil];omega) k
   match rs,c,a with
   | [],_,a =>
    refine TZ (x:=(0,((m,-1),()))) (Ui (n:=1) (by omega) (Tp rfl)) ?_;rw [TM a (by omega)];simp
   | [r0],_,a =>
    refine TZ (x:=(0,((m++[r0],-1),()))) (Ui (n:=2) (by omega) ((Th (s':=(m++[r0],-1)) ?_).trans (Tp rfl))) ?_
    ·show br (RS (0:Int) 0) _ _=_;rw [So,if_pos (by omega),S9,Sb a];refine (WG 0 rfl (x:=r0) rfl).trans ?_;rw [gg m _ _ (by omega)];rfl
    ·rw [TM a (by omega)];simp
   | [r0,r1],_,a =>
    refine TZ (x:=(0,((m++[r1]++[r0],-1),()))) (Ui (n:=3) (by omega) ((Th (s':=(m++[r1],0)) ?_).trans ((Th (s':=(m++[r1]++[r0],-1)) ?_).trans (Tp rfl)))) ?_
    ·show br (RS (1:Int) 0) _ _=_;rw [So,if_pos (by omega),S9,Sb a];refine (WG 1 rfl (x:=r1) rfl).trans ?_;rw [gg m _ _ (by omega)];rfl
    ·show br (RS (0:Int) 0) _ _=_;rw [So,if_pos (by omega),S9,Sb a];refine (WG 0 rfl (x:=r0) rfl).trans ?_;rw [gg (m++[r1]) _ _ (by simp;omega)];rfl
    ·rw [TM a (by omega)];simp),SL]
 simp
theorem W1 (a b:Int):S0 a b=max a b:=by unfold S0;split<;>omega
theorem WS : ∀ (l:List TY) (m:Int),0<=m->l.foldl (λm r=>S0 m r.1) m=max m (l.foldl (λm r=>S0 m r.1) 0)
 | [],m,h=>by simp;omega
 | r::l,m,h=>by
  have a:=WS l (S0 m r.1) (by rw [W1];omega);have b:=WS l (S0 0 r.1) (by rw [W1];omega);simp only [List.foldl_cons];rw [a,b,W1,W1];omega
theorem aK (l:List TY) (m:Int) (h:0<=m):l.reverse.foldl (λm r=>S0 m r.1) m=l.foldl (λm r=>S0 m r.1) m:=by
 induction l generalizing m with
 | nil=>rfl
 | cons r l a =>
  rw [List.reverse_cons,List.foldl_append,a m h,List.foldl_cons];simp only [List.foldl_cons,List.foldl_nil];rw [WS l m h,WS l (S0 m r.1) (by rw [W1];omega),W1,W1];omega
theorem an (l:List TY) (m:Int) (h:0<=m):0<=l.foldl (λm r=>S0 m r.1) m:=by
 rw [WS l m h];omega
theorem YE : ∀ (ls:List (List TY)) (m:Int),0<=m->(Uj ls).foldl (λm r=>S0 m r.1) m=ls.foldl (λm rs=>rs.foldl (λm r=>S0 m r.1) m) m
 | [],m,_=>rfl
 | rs::ls,m,h=>by
  have a:=YE ls (rs.foldl (λm r=>S0 m r.1) m) (an _ _ h);unfold Uj at a ⊢;rw [List.flatMap_cons,List.foldl_append,aK rs m h,List.foldl_cons,a]
theorem bA {L:TB} (v:VLev L):Ua L=some (WO L.2):=by
 have d:=v.len;have e:=ZX L.2 v.two;unfold Ua;simp only [TH,TF];rw [cv v,SL]
 rw [VB (l:=Uj L.2) (σ:=Int) (s:=((0:Int),(0:Int))) (λi m=>(m,(i:Int))) (λ_ _ _=>True) (λl _ m=>(0,((l.foldl (λm r=>S0 m r.1) m,((Uj L.2).length:Int)),()))) 0 rfl (by omega) trivial (λm _=>by
  simp only;rw [re,Rd];rfl) (λk r l m c a b _=>⟨S0 m r.1,by
   simp only
   rw [rl b,R5,S9,Sb a,TM a (by omega)],trivial,rfl⟩),SL]
 rw [YE _ _ (by omega)];rfl
theorem Zh {L:TB} (e:L.2.length<=1000):UE L=some (TI 0 L.2):=by
 unfold UE;simp only [TH,TF]
 rw [VB (l:=L.2) (σ:=List Int) (s:=(([]:List Int),(0:Int))) (λi m=>(m,(i:Int))) (λls i m=>m++TI i ls=TI 0 L.2) (λ_ _ _=>(0,((TI 0 L.2,(L.2.length:Int)),()))) [] rfl (by omega) rfl (λm h=>by
  simp only;rw [re,Rd,<- h];simp [TI]) (λi rs ls m d b hi h=>by
   refine ⟨m++(if rs.length=2 then [(i:Int)] else []),?_,?_,rfl⟩
   ·simp only;rw [rl hi,R5,S9,Sb b,Sn]
    have f:m.length<=1000:=by
     have a:=congrArg List.length h;have c:=Vc L.2 0;rw [List.length_append] at a;omega
    by_cases a:rs.length=2
    ·rw [if_pos (by omega),if_pos a,UB (by simp only [BD,List.length_cons,List.length_nil];omega),TM b (by omega)];rfl
    ·rw [if_neg (by omega),if_neg a,List.append_nil,TM b (by omega)]
   ·rw [List.append_assoc];exact h),SL]
theorem nl {L:TB} (v:VLev L) (k:Int):XY (L,k)=some (if k<0\/k>=12 then 7 else 0):=by
 obtain ⟨c,d⟩:=v.small;unfold XY;rw [bB _ c d,W4 v,SL,Sn,if_pos rfl,Sr,So];by_cases a:k<0
 ·rw [if_pos a,if_pos (.inl a)]
 ·rw [if_neg a];by_cases b:k>=12
  ·rw [if_pos b,if_pos (.inr b)]
  ·rw [if_neg b,if_neg (by omega)]
theorem aA {L:TB} (v:VLev L) {n:Nat} (b:n<L.2.length):Tl (L,(n:Int))=some (decide ((n:Int)=(L.2.length:Int)-1)):=by
 have a:=v.len;unfold Tl XH;simp only [TH,TF];rw [nl v,SL,if_neg (by omega),Ss,if_pos rfl,SL,TJ (by omega)];unfold SU;rw [Us];by_cases h:(n:Int)=(L.2.length:Int)-1
 ·simp [h]
 ·simp [h];omega
theorem cr {a b:List S8} (va:VL a) (d:VL b) (c:Bool):WZ ([a,b],c)=some (VC a b c 0,(0,0)):=by
 unfold WZ XG U2;rw [Yp va d,SL,Ss,if_pos rfl];refine Eq.trans (b:=bd (bd (U1 ([a,b],[((0:Nat):Int),((0:Nat):Int)])) _) _) rfl ?_;rw [X8 va d (Nat.zero_le _) (Nat.zero_le _)];rfl
theorem aZ {L:TB} {n:Nat} {a b:TY} (c:Bool) (h:L.2[n]? = some [a,b]) (d:VL a.2) (e:VL b.2):TT (L,((n:Int),c))=some ((n:Int),VC b.2 a.2 c 0):=by
 have f:=(List.getElem?_eq_some_iff.1 h).1;unfold TT;simp only [TH,TF];rw [So,if_neg (by omega),S9,Sb h,Sb (x:=b) rfl,Sb (x:=a) rfl,cr e d];rfl
theorem m9 {L:TB} {n:Nat} {a b:TY} {j:Job} (h:L.2[n]? = some [a,b]) (e:VL a.2) (f:VL b.2) {β:Type} (A B:Option β) :
  (bd (TT (L,((n:Int),j.2.2.1.2.2))) λc=>bd (Ti c.2) λl=>br (SW j.2.2.2.2 0) (λ_=>A) λ_=>br (SU j.2.2.2.2 l.1) (λ_=>A) λ_=>bd (Ta (c.2,j.2.2.2.2)) λm=>bd (Tu (m.1,j.2)) λo=>br (Hf o) (λ_=>A) λ_=>B)
  = if j.2.2.2.2<0\/j.2.2.2.2>((b.2.length+a.2.length:Nat):Int) then A else if VC b.2 a.2 j.2.2.1.2.2 j.2.2.2.2.toNat=j.2 then B else A:=by
 rw [aZ _ h e f,SL,Yq f e _ (Nat.zero_le _),SL,Sr,Sp,Nat.sub_zero];by_cases g:j.2.2.2.2<0
 ·rw [if_pos g,if_pos (.inl g)]
 rw [if_neg g];by_cases i:j.2.2.2.2>((b.2.length+a.2.length:Nat):Int)
 ·rw [if_pos i,if_pos (.inr i)]
 rw [if_neg i,if_neg (show ¬ (j.2.2.2.2<0\/j.2.2.2.2>((b.2.length+a.2.length:Nat):Int)) by omega)];obtain ⟨k,p⟩ : ∃ k:Nat,j.2.2.2.2=(k:Int):=⟨j.2.2.2.2.toNat,by omega⟩;rw [p,aB f e _ (Nat.zero_le _),SL,Nat.sub_zero,Nat.zero_add,Nat.min_eq_left (by omega),Int.toNat_natCast];obtain ⟨s1,s2,q,r,s,t⟩:=ZG f e j.2.2.1.2.2 (n:=k) (by omega);rw [Z7 _ _ s1 s2 q r s t,SL,Us,Ux];by_cases d:VC b.2 a.2 j.2.2.1.2.2 k=j.2
 ·rw [if_neg (by simp [d]),if_pos d]
 ·rw [if_pos d,if_neg d]
end
section
open Go Go.Proofs.YtfilfloanndddaaGreat.Sv
theorem cB (s:TA) (J:s.1.2.length<=1048576) (hr : ∀ rs∈s.1.2,rs.length<=1048576 /\ ∀ r∈rs,r.2.length<=9223372036854775807) (hj:s.2.1.length<=1048576):VX s=some (TE s):=by
 unfold VX TE;simp only [TH,TF];rw [bB _ J hr,SL,Sn];by_cases o:(V3 s.1).2.2=0;rotate_left
 ·rw [if_neg o,if_pos o,Sn,if_neg o,Ss,if_neg o]
 rw [if_pos o,if_neg (show ¬ (V3 s.1).2.2≠0 by simp [o]),Sr,Sp];have v:=Xf.1 o;by_cases y:s.2.2<1
 ·rw [if_pos y,if_pos (.inl y)]
 rw [if_neg y];by_cases p:s.2.2>1000001
 ·rw [if_pos p,if_pos (.inr p)]
 rw [if_neg p,if_neg (show ¬ (s.2.2<1\/s.2.2>1000001) by omega),Sn,if_pos o,bA v,SL,Sq];by_cases m:s.2.2<=WO s.1.2
 ·rw [if_pos m,if_pos m]
 rw [if_neg m,if_neg m,Ss,if_pos o,Zh (by have:=v.len;omega),SL];obtain ⟨a,g⟩ : ∃ a,a=TI 0 s.1.2:=⟨_,rfl⟩;have hdl:a.length<=12:=by have:=Vc s.1.2 0;have:=v.len;rw [g];omega
 rw [<- g];obtain ⟨T,Z⟩ : ∃ T,T=Wd s.1 a 0 s.2.1:=⟨_,rfl⟩;rw [<- Z]
 obtain ⟨r,q1,D⟩:=We (l:=s.2.1) (σ:=Unit) (λi _=>((0:Int),((0:Int),(i:Int)))) (λjs i _=>Wd s.1 a i js=T) (λ(r:Nat×((Int×(Int×Int))×Unit))=>(T=none/\r.1=1)\/(∃ i:Nat,T=some i/\r.1=0/\r.2.1.1=6/\r.2.1.2.1=(i:Int)))
  (f:=λb=>br (SW b.2.2 (s.2.1.length:Int)) (λ_=>RX b.2.2 λk7=>ix s.2.1 k7 λe=>br (RS b.2.2 (a.length:Int)) (λ_=>some (.dn ((0,((6,(b.2.2,b.2.2)),()))))) λ_=>RX b.2.2 λk9=>ix a k9 λX=>br (RT e.1 X) (λ_=>some (.dn ((0,((6,(b.2.2,b.2.2)),()))))) λ_=>br e.2.2.1.2.2 (λ_=>bd (Tl (s.1,e.1)) λM=>br (Hf M) (λ_=>some (.dn ((0,((6,(b.2.2,b.2.2)),()))))) λ_=>bd (TT ((s.1,(e.1,e.2.2.1.2.2)))) λG=>bd (Ti G.2) λN=>br (SW e.2.2.2.2 0) (λ_=>some (.dn ((0,((6,(b.2.2,b.2.2)),()))))) λ_=>br (SU e.2.2.2.2 N.1) (λ_=>some (.dn ((0,((6,(b.2.2,b.2.2)),()))))) λ_=>bd (Ta (G.2,e.2.2.2.2)) λO=>bd (Tu (O.1,e.2)) λP=>br (Hf P) (λ_=>some (.dn ((0,((6,(b.2.2,b.2.2)),()))))) λ_=>some (.nx ((b.1,(b.2.1,Rl .i64 b.2.2 1))))) λ_=>bd (TT ((s.1,(e.1,e.2.2.1.2.2)))) λI=>bd (Ti I.2) λS=>br (SW e.2.2.2.2 0) (λ_=>some (.dn ((0,((6,(b.2.2,b.2.2)),()))))) λ_=>br (SU e.2.2.2.2 S.1) (λ_=>some (.dn ((0,((6,(b.2.2,b.2.2)),()))))) λ_=>bd (Ta (I.2,e.2.2.2.2)) λU=>bd (Tu (U.1,e.2)) λW=>br (Hf W) (λ_=>some (.dn ((0,((6,(b.2.2,b.2.2)),()))))) λ_=>some (.nx ((b.1,(b.2.1,Rl .i64 b.2.2 1))))) λ_=>some (.dn ((1,(b,())))))
  (s:=(0,(0,0))) () rfl (by omega) Z.symm (λ_ h=>by
   refine ⟨_,by simp only;rw [re];rfl,.inl ⟨by rw [<- h];rfl,rfl⟩⟩) (λi j js _ hd hx hi h=>by
   simp only;rw [rl hi,R5,S9,Sb hx,So];unfold Wd at h
   have c:YZ s.1 a i j=true -> ∃ r:Nat×((Int×(Int×Int))×Unit),(some (LR.dn ((0,((6,((i:Int),(i:Int))),()))):LR (Int×(Int×Int)) _))=some (.dn r)/\((T=none/\r.1=1)\/(∃ i:Nat,T=some i/\r.1=0/\r.2.1.1=6/\r.2.1.2.1=(i:Int))):=λJ=>by
    rw [if_pos J] at h;exact ⟨_,rfl,.inr ⟨i,h.symm,rfl,rfl,rfl⟩⟩
   have x:YZ s.1 a i j=false -> ∃ st':Unit,(some (LR.nx ((0:Int),((0:Int),Rl .i64 (i:Int) 1))):Option (LR _ (Nat×((Int×(Int×Int))×Unit))))=some (.nx ((0:Int),((0:Int),((i+1:Nat):Int))))/\Wd s.1 a (i+1) js=T:=λhg=>by
    rw [if_neg (by simp [hg])] at h;exact ⟨(),by rw [TM hx (by omega)],h⟩
   by_cases y:(i:Int)>=(a.length:Int)
   ·rw [if_pos y];exact .inr (c (by unfold YZ;rw [List.getElem?_eq_none (by omega)]))
   rw [if_neg y,S9];have w:a[i]? = some (a[i]'(by omega)):=by simp
   rw [Sb w,Ss];obtain ⟨n,K,E,F,t⟩:=XR (ls:=s.1.2) (i:=0) (k:=i) (d:=a[i]'(by omega)) (by rw [<- g];exact w);rw [Nat.zero_add] at K
   have q:YZ s.1 a i j=(if j.1≠(a[i]'(by omega)) then true else if j.2.2.1.2.2=true/\j.1≠(s.1.2.length:Int)-1 then true else if j.2.2.2.2<0\/j.2.2.2.2>((F.2.length+E.2.length:Nat):Int) then true else decide (VC F.2 E.2 j.2.2.1.2.2 j.2.2.2.2.toNat≠j.2)):=by
    unfold YZ;rw [w];simp only;rw [K,Int.toNat_natCast,t]
   by_cases p:j.1=(a[i]'(by omega));rotate_left
   ·rw [if_neg p];exact .inr (c (by rw [q,if_pos p]))
   rw [if_pos p];rw [if_neg (by simp [p])] at q;have C:j.1=(n:Int):=by rw [p,K]
   have hv:=(v.lev n _ t).2;have v0:=(hv E (by simp)).vl;have v1:=(hv F (by simp)).vl;have L:=(List.getElem?_eq_some_iff.1 t).1;rw [C,aA v L,SL,Us,Ux,m9 t v0 v1,Sx];rw [C] at q;by_cases m:j.2.2.1.2.2=true/\(n:Int)≠(s.1.2.length:Int)-1
   ·rw [if_pos m.1,if_pos m.2];exact .inr (c (by rw [q,if_pos m]))
   rw [if_neg m] at q
   have h4 : ∀ {γ:Type} (A B:γ),(if j.2.2.1.2.2=true then if ¬(n:Int)=(s.1.2.length:Int)-1 then A else B else B)=B:=by
    intro γ A B;by_cases u:j.2.2.1.2.2=true
    ·rw [if_pos u,if_neg (λz=>m ⟨u,z⟩)]
    ·rw [if_neg u]
   rw [h4];by_cases u:j.2.2.2.2<0\/j.2.2.2.2>((F.2.length+E.2.length:Nat):Int)
   ·rw [if_pos u];exact .inr (c (by rw [q,if_pos u]))
   rw [if_neg u];rw [if_neg u] at q;by_cases z:VC F.2 E.2 j.2.2.1.2.2 j.2.2.2.2.toNat=j.2
   ·rw [if_pos z];exact .inl (x (by rw [q];simp [z]))
   ·rw [if_neg z]
    exact .inr (c (by rw [q];simp [z])))
 refine TZ q1 ?_;rw [SM];rcases D with ⟨D,q3⟩ | ⟨i,D,q3,q4,q5⟩
 ·rw [if_neg (show ¬ r.1=0 by omega),D,Sr];simp only;by_cases Y:s.2.1.length<a.length
  ·rw [if_pos (by omega),if_pos Y]
  ·rw [if_neg (by omega),if_neg Y]
 ·rw [if_pos q3,D,q4,q5]
end
section
open Go Go.Proofs.YtfilfloanndddaaGreat.Sv
def JobAt (L:TB) (n:Nat) (j:Job):Prop := ∃ a b c k,L.2[n]? = some [a,b]/\j=((n:Int),VC b.2 a.2 c k)/\k<=b.2.length+a.2.length/\(c=true->n+1=L.2.length)/\VL a.2/\VL b.2
structure VSt (s:TA):Prop where
 lev:VLev s.1
 n1:1<=s.2.2
 n2:s.2.2<=1000001
 n3:WO s.1.2<s.2.2
 due:s.2.1.map (·.1)=TI 0 s.1.2
 job : ∀ j∈s.2.1,∃ n,JobAt s.1 n j
theorem Zk (a b:List S8) (c:Bool) (k:Nat):(VC a b c k).2.1.2.2=c:=by
 show (Ub (s0 c) (TU a b k)).2.2=c;rw [W3]
theorem Zv {L:TB} (v:VLev L) {i:Nat} {j:Job}:YZ L (TI 0 L.2) i j=false <-> ∃ n,(TI 0 L.2)[i]? = some j.1/\JobAt L n j:=by
 constructor
 ·intro h;unfold YZ at h;cases c:(TI 0 L.2)[i]? with
  | none=>rw [c] at h;cases h
  | some d =>
   rw [c] at h;simp only at h;by_cases f:j.1=d;rotate_left
   ·rw [if_pos f] at h;cases h
   rw [if_neg (by simp [f])] at h;by_cases g:j.2.2.1.2.2=true/\j.1≠(L.2.length:Int)-1
   ·rw [if_pos g] at h;cases h
   rw [if_neg g] at h;obtain ⟨n,m,a,b,e⟩:=XR c;rw [Nat.zero_add] at m;rw [m,Int.toNat_natCast,e] at h;simp only at h;by_cases p:j.2.2.2.2<0\/j.2.2.2.2>((b.2.length+a.2.length:Nat):Int)
   ·rw [if_pos p] at h;cases h
   rw [if_neg p] at h;have s:VC b.2 a.2 j.2.2.1.2.2 j.2.2.2.2.toNat=j.2:=by simpa using h
   have r:=(v.lev n _ e).2;refine ⟨n,by rw [f],a,b,j.2.2.1.2.2,j.2.2.2.2.toNat,e,Prod.ext (by rw [f,m]) s.symm,by omega,λl => ?_,(r a (by simp)).vl,(r b (by simp)).vl⟩
   have t:j.1=(L.2.length:Int)-1:=by
    by_cases q:j.1=(L.2.length:Int)-1
    ·exact q
    ·exact absurd ⟨l,q⟩ g
   omega
 ·rintro ⟨n,c,a,b,o,k,e,rfl,u,l,w,x⟩;unfold YZ;rw [c];simp only;rw [if_neg (by simp),Zk,if_neg (λh:o=true/\(n:Int)≠(L.2.length:Int)-1=>h.2 (by have:=l h.1;omega)),Int.toNat_natCast,e];simp only;rw [show (VC b.2 a.2 o k).2.2.2=(k:Int) from rfl,if_neg (by omega),Int.toNat_natCast];simp
theorem YL {L:TB} {a:List Int} : ∀ {js:List Job} {i:Nat},Wd L a i js=none <-> ∀ k j,js[k]? = some j->YZ L a (i+k) j=false
 | [],i=>by simp [Wd]
 | j::js,i=>by
  unfold Wd;by_cases h:YZ L a i j=true
  ·rw [if_pos h];simp only [reduceCtorEq,false_iff];intro b;have:=b 0 j rfl;rw [Nat.add_zero,h] at this;cases this
  ·rw [if_neg h,YL (js:=js)];constructor
   ·intro b k j' c;cases k with
    | zero=>cases c;simpa using h
    | succ k=>rw [show i+(k+1)=i+1+k by omega];exact b k j' c
   ·intro b k j' c;rw [show i+1+k=i+(k+1) by omega];exact b (k+1) j' c
theorem TL {s:TA}:(TE s).2=0<->VSt s:=by
 unfold TE;constructor
 ·intro h;by_cases d:(V3 s.1).2.2≠0
  ·rw [if_pos d] at h;exact absurd h d
  rw [if_neg d] at h;have v:=Xf.1 (Decidable.not_not.1 d);by_cases f:s.2.2<1\/s.2.2>1000001
  ·rw [if_pos f] at h;cases h
  rw [if_neg f] at h;by_cases g:s.2.2<=WO s.1.2
  ·rw [if_pos g] at h;cases h
  rw [if_neg g] at h;cases b:Wd s.1 (TI 0 s.1.2) 0 s.2.1 with
  | some i=>rw [b] at h;cases h
  | none =>
   rw [b] at h;simp only at h;by_cases l:s.2.1.length<(TI 0 s.1.2).length
   ·rw [if_pos l] at h;cases h
   have m:=YL.1 b
   have c : ∀ k j,s.2.1[k]? = some j -> ∃ n,(TI 0 s.1.2)[k]? = some j.1/\JobAt s.1 n j:=λk j a=>by
    have:=m k j a;rw [Nat.zero_add] at this;exact (Zv v).1 this
   refine ⟨v,by omega,by omega,by omega,?_,λj o => ?_⟩
   ·apply List.ext_getElem?;intro k;rw [List.getElem?_map];cases a:s.2.1[k]? with
    | some j=>obtain ⟨n,e,_⟩:=c k j a;rw [e];rfl
    | none =>
     have:=List.getElem?_eq_none_iff.1 a;rw [List.getElem?_eq_none (by omega)];rfl
   ·obtain ⟨k,a⟩:=List.getElem?_of_mem o;obtain ⟨n,_,h⟩:=c k j a;exact ⟨n,h⟩
 ·intro v;rw [if_neg (by simp [Xf.2 v.lev]),if_neg (by have:=v.n1;have:=v.n2;omega),if_neg (by have:=v.n3;omega)]
  have b:Wd s.1 (TI 0 s.1.2) 0 s.2.1=none:=YL.2 λk j a=>by
   rw [Nat.zero_add];obtain ⟨n,p⟩:=v.job j (List.mem_of_getElem? a);exact (Zv v.lev).2 ⟨n,by rw [<- v.due,List.getElem?_map,a];rfl,p⟩
  rw [b];simp only;rw [if_neg (by rw [<- v.due];simp)]
structure Sm (s:TA):Prop where
 lv:s.1.2.length<=1048576
 rs : ∀ rs∈s.1.2,rs.length<=1048576 /\ ∀ r∈rs,r.2.length<=9223372036854775807
 js:s.2.1.length<=1048576
theorem pJ {s:TA} (m:Sm s):UV s=some (TE s):=cc s m.lv m.rs m.js
theorem pR {s:TA} (m:Sm s):VX s=some (TE s):=cB s m.lv m.rs m.js
theorem VSt.jlen {s:TA} (v:VSt s):s.2.1.length=(TI 0 s.1.2).length:=by rw [<- v.due];simp
theorem VSt.jsmall {s:TA} (v:VSt s):s.2.1.length<=12:=by
 have:=v.jlen;have:=Vc s.1.2 0;have:=v.lev.len;omega
theorem VSt.sm {s:TA} (v:VSt s):Sm s:=⟨v.lev.small.1,v.lev.small.2,by have:=v.jsmall;omega⟩
def Yx (x:Int):Nat->List Int->Option Nat
 | _,[]=>none
 | k,y::l=>if y=x then some k else Yx x (k+1) l
theorem ca {x:Int} : ∀ {l:List Int} {k i:Nat},Yx x k l=some i->k<=i/\l[i-k]? = some x
 | [],_,_,h=>by cases h
 | y::l,k,i,h=>by
  unfold Yx at h;by_cases e:y=x
  ·rw [if_pos e] at h;cases h;simp [e]
  ·rw [if_neg e] at h;obtain ⟨b,a⟩:=ca h;exact ⟨by omega,by rw [show i-k=(i-(k+1))+1 by omega];simpa using a⟩
theorem am {x:Int} : ∀ {l:List Int} {k:Nat},x∈l -> ∃ i,Yx x k l=some i
 | [],_,h=>by cases h
 | y::l,k,h=>by
  unfold Yx;by_cases e:y=x
  ·rw [if_pos e];exact ⟨k,rfl⟩
  ·rw [if_neg e];exact am (by rcases List.mem_cons.1 h with h | h;exact absurd h.symm e;exact h)
def Xp (s:TA) (a:Int):Int×Int:=if (TE s).2≠0 then (0,(TE s).2) else match Yx a 0 (TI 0 s.1.2) with
 | some i=>((i:Int),0)
 | none=>(0,4)
theorem eK {s:TA} (m:Sm s) (a:Int):Vj (s,a)=some (Xp s a):=by
 unfold Vj Xp;simp only [TH,TF];rw [pJ m,SL,Ss];by_cases b:(TE s).2=0;rotate_left
 ·rw [if_neg b,if_pos b]
 rw [if_pos b,if_neg (show ¬ (TE s).2≠0 by simp [b])];have v:=TL.1 b;have x:=v.jsmall;rw [<- v.due];obtain ⟨T,g⟩ : ∃ T,T=Yx a 0 (s.2.1.map (·.1)):=⟨_,rfl⟩;rw [<- g]
 obtain ⟨r,q,c⟩:=We (l:=s.2.1) (σ:=Unit) (s:=((0:Int),(0:Int))) (λk _=>((0:Int),(k:Int))) (λjs k _=>Yx a k (js.map (·.1))=T) (λ(r:Nat×((Int×Int)×Unit))=>(r.1=1/\T=none)\/(r.1=0 /\ ∃ i:Nat,T=some i/\r.2.1.1=(i:Int)))
  (f:=λs1=>br (SW s1.2 (s.2.1.length:Int)) (λ_=>RX s1.2 λp=>ix s.2.1 p λu=>br (RR u.1 a) (λ_=>some (.dn ((0,((s1.2,s1.2),()))))) λ_=>some (.nx (s1.1,Rl .i64 s1.2 1))) λ_=>some (.dn ((1,(s1,())))))
  () rfl (by omega) g.symm (λ_ h=>⟨_,by simp only;rw [re];rfl,.inl ⟨rfl,by rw [<- h];rfl⟩⟩) (λk j js _ w n o h=>by
   simp only;rw [rl o,R5,S9,Sb n,Sn];unfold Yx at h;simp only [List.map_cons] at h;by_cases e:j.1=a
   ·rw [if_pos e];rw [if_pos e] at h;exact .inr ⟨_,rfl,.inr ⟨rfl,k,h.symm,rfl⟩⟩
   ·rw [if_neg e];rw [if_neg e] at h
    exact .inl ⟨(),by rw [TM n (by omega)],h⟩)
 refine TZ q ?_;rw [SM];rcases c with ⟨c,d⟩ | ⟨c,i,d,t⟩
 ·rw [if_neg (show ¬ r.1=0 by omega),d];rfl
 ·rw [if_pos c,d,t,Sr,if_neg (by omega)]
theorem cC {s:TA} (m:Sm s):VE s=some (if (TE s).2≠0 then ([],(TE s).2) else (TI 0 s.1.2,0)):=by
 unfold VE;rw [pR m,SL,Ss];by_cases a:(TE s).2=0
 ·rw [if_pos a,if_neg (show ¬ (TE s).2≠0 by simp [a]),Zh (by have:=(TL.1 a).lev.len;omega),SL]
 ·rw [if_neg a,if_pos a]
theorem YP {s:TA} (m:Sm s) (a:Int):UJ (s,a)=some (Xp s a):=by
 unfold UJ Xp;simp only [TH,TF];rw [cC m,SL,Ss];by_cases c:(TE s).2=0;rotate_left
 ·rw [if_pos c,if_neg c,if_pos c]
 rw [if_neg (show ¬ (TE s).2≠0 by simp [c]),if_pos rfl,if_neg (show ¬ (TE s).2≠0 by simp [c])];have v:=TL.1 c;have A:=v.jsmall;have p:=v.jlen;obtain ⟨b,d⟩ : ∃ b,b=TI 0 s.1.2:=⟨_,rfl⟩;rw [<- d] at p ⊢;obtain ⟨T,o⟩ : ∃ T,T=Yx a 0 b:=⟨_,rfl⟩;rw [<- o];simp only
 obtain ⟨r,w,g⟩:=We (l:=b) (σ:=Unit) (s:=((0:Int),((0:Int),(0:Int)))) (λk _=>((0:Int),((0:Int),(k:Int)))) (λjs k _=>Yx a k js=T) (λ(r:Nat×((Int×(Int×Int))×Unit))=>(r.1=1/\T=none)\/(r.1=0 /\ ∃ i:Nat,T=some i/\r.2.1.2.1=(i:Int)/\r.2.1.1=0))
  (f:=λs1=>br (SW s1.2.2 (b.length:Int)) (λ_=>RX s1.2.2 λu=>ix b u λz=>br (RR z a) (λ_=>some (.dn ((0,((0,(s1.2.2,s1.2.2)),()))))) λ_=>some (.nx ((s1.1,(s1.2.1,Rl .i64 s1.2.2 1))))) λ_=>some (.dn ((1,(s1,())))))
  () rfl (by omega) o.symm (λ_ h=>⟨_,by simp only;rw [re];rfl,.inl ⟨rfl,by rw [<- h];rfl⟩⟩) (λk j js _ p q t h=>by
   simp only;rw [rl t,R5,S9,Sb q,Sn];unfold Yx at h;by_cases e:j=a
   ·rw [if_pos e];rw [if_pos e] at h;exact .inr ⟨_,rfl,.inr ⟨rfl,k,h.symm,rfl,rfl⟩⟩
   ·rw [if_neg e];rw [if_neg e] at h
    exact .inl ⟨(),by rw [TM q (by omega)],h⟩)
 refine TZ w ?_;rw [SM];rcases g with ⟨g,n⟩ | ⟨g,i,n,x,y⟩
 ·rw [if_neg (show ¬ r.1=0 by omega),n]
 ·rw [if_pos g,n,x,y]
end
section
open Go Go.Proofs.YtfilfloanndddaaGreat.Sv
def Tb (L:TB) (j:Job):Nat:=match L.2[j.1.toNat]? with
 | some [r0,r1]=>r1.2.length+r0.2.length-j.2.2.2.2.toNat
 | _=>0
def Vp (L:TB) (j:Job):Bool:=decide ((j.2.2.2.1.length:Int)<=UW L.1 j.1.toNat)
def Ye (L:TB) (n:Nat):Bool:=decide (n<12/\((L.2[n]?).getD []).length<2)
def Vq (L:TB) (j:Job):Bool:=decide (0<Tb L j)||(Vp L j||Ye L (j.1.toNat+1))
def Zo (s:TA) (a:Int):Option Job:=match Yx a 0 (TI 0 s.1.2) with
 | some i=>s.2.1[i]?
 | none=>none
theorem VSt.at {s:TA} (v:VSt s) {a:Int} {i:Nat} (h:Yx a 0 (TI 0 s.1.2)=some i) : ∃ (j:Job) (n:Nat),s.2.1[i]? = some j/\a=(n:Int)/\j.1=(n:Int)/\JobAt s.1 n j/\n<s.1.2.length:=by
 obtain ⟨_,b⟩:=ca h;rw [Nat.sub_zero] at b;rw [<- v.due,List.getElem?_map] at b;cases c:s.2.1[i]? with
 | none=>rw [c] at b;cases b
 | some j =>
  rw [c] at b;simp only [Option.map_some,Option.some.injEq] at b;obtain ⟨n,g⟩:=v.job j (List.mem_of_getElem? c);have d:=g;obtain ⟨o,p,m,k,l,e,_⟩:=g;have f:j.1=(n:Int):=by rw [e]
  exact ⟨j,n,rfl,by rw [<- b,f],f,d,(List.getElem?_eq_some_iff.1 l).1⟩
theorem JobAt.left {L:TB} {n:Nat} {j:Job} (h:JobAt L n j):UD j.2=some ((Tb L j:Int),0)/\Ti j.2=some ((Tb L j:Int),0)/\Tb L j<=10000:=by
 obtain ⟨b,c,a,k,i,rfl,g,_,d,f⟩:=h;have l:=d.len;have m:=f.len
 have e:Tb L ((n:Int),VC c.2 b.2 a k)=c.2.length+b.2.length-k:=by
  unfold Tb;simp only [Int.toNat_natCast,i];show c.2.length+b.2.length-((k:Int)).toNat=_;rw [Int.toNat_natCast]
 rw [e];exact ⟨ZT f d a g,Yq f d a g,by omega⟩
theorem fN {L:TB} (v:VLev L) {n:Nat} (c:n<12):WU (L.1,(n:Int))=some (UW L.1 n,0):=by
 have a:=v.B1;have b:=v.B2;unfold WU;rw [Sr,if_neg (by omega),Sp,if_neg (by omega),Sr,if_neg (by omega),So,if_neg (by omega),ZM a b (by omega)];have:RS (n:Int) 0=true:=by unfold RS;simp
 rw [this];rfl
theorem iO {L:TB} (v:VLev L) {n:Nat} (c:n<12):Wy (L.1,(n:Int))=some (UW L.1 n,0):=by
 have a:=v.B1;have b:=v.B2;unfold Wy;rw [Sr,if_neg (by omega),Sp,if_neg (by omega),Sr,if_neg (by omega),So,if_neg (by omega),cF a b (by omega),SL]
theorem ay {L:TB} (v:VLev L) (k:Int):V8 (L,k)=some (if k<0\/k>=12 then 7 else 0):=by
 obtain ⟨c,d⟩:=v.small;unfold V8;rw [Ym _ c d,W4 v,SL,Ss,if_pos rfl,Sr,So];by_cases a:k<0
 ·rw [if_pos a,if_pos (.inl a)]
 ·rw [if_neg a];by_cases b:k>=12
  ·rw [if_pos b,if_pos (.inr b)]
  ·rw [if_neg b,if_neg (by omega)]
theorem iD (l:List TY):SW (l.length:Int) 2=decide (l.length<2):=by
 unfold SW;rw [decide_eq_decide];omega
theorem fM {L:TB} (v:VLev L) {n:Nat} (d:n<=12):WT (L,(n:Int))=some (Ye L n,if n>=12 then 7 else 0):=by
 unfold WT Ye;simp only [TH,TF];rw [ay v,SL,Ss];by_cases h:n>=12
 ·rw [if_pos (show (n:Int)<0\/(n:Int)>=12 by omega),if_neg (by decide),if_pos h];simp;omega
 ·rw [if_neg (show ¬ ((n:Int)<0\/(n:Int)>=12) by omega),if_pos rfl,if_neg h,Sr];have a:n<12:=by omega
  by_cases c:n<L.2.length
  ·have b:L.2[n]? = some (L.2[n]'c):=by simp
   rw [if_pos (by omega),S9,Sb b,b,iD,Option.getD_some];simp [a]
  ·rw [if_neg (by omega),List.getElem?_eq_none (by omega)];simp [a]
theorem iW {s:TA} (v:VLev s.1) {n:Nat} (c:n<12):Wz (s,(n:Int))=some (Ye s.1 (n+1)):=by
 unfold Wz Ye;simp only [TH,TF];rw [TJ (by omega),Sr];by_cases h:n+1<12
 ·rw [if_pos (by omega),So];by_cases b:n+1<s.1.2.length
  ·have a:s.1.2[n+1]? = some (s.1.2[n+1]'b):=by simp
   rw [if_neg (by omega),S9,Sb a,a,iD,Option.getD_some];simp [h]
  ·rw [if_pos (by omega),List.getElem?_eq_none (by omega)];simp [h]
 ·rw [if_neg (by omega)];simp;omega
abbrev pX:=TA×(Job×Int)
theorem aH {s:TA} (v:VLev s.1) {n:Nat} {j:Job} (a:j.1=(n:Int)) (b:n<12) (l:Int):Tj (s,(j,l))=some (Vp s.1 j):=by
 unfold Tj Vp;simp only [TH,TF];rw [a,fN v b,SL,Sn,if_pos rfl,Int.toNat_natCast];rfl
theorem aa {s:TA} (v:VLev s.1) {n:Nat} {j:Job} (a:j.1=(n:Int)) (b:n<12):VY (s,j)=some (Vp s.1 j):=by
 unfold VY Vp;simp only [TH,TF];rw [a,iO v b,SL,Int.toNat_natCast];rfl
theorem iT {s:TA} (v:VLev s.1) {n:Nat} {j:Job} (a:j.1=(n:Int)) (b:n<12) (l:Int):Ul (s,(j,l))=some (Ye s.1 (n+1)):=by
 unfold Ul;simp only;rw [a,TJ (by omega),fM v (by omega),SL,Sn];by_cases h:n+1>=12
 ·rw [if_pos h,if_neg (show ¬ (7:Int)=0 by decide)];unfold Ye;simp;omega
 ·rw [if_neg h,if_pos rfl]
theorem ai {s:TA} (v:VLev s.1) {n:Nat} {j:Job} (a:j.1=(n:Int)) (b:n<12) (l:Nat) (d:l=Tb s.1 j):Tz (s,(j,(l:Int)))=some (Vq s.1 j):=by
 have c:TX (s,(j,(l:Int)))=some (decide (0<Tb s.1 j)):=by
  unfold TX SU;rw [d];simp
 have e1:=aH v a b (l:Int);have e2:=iT v a b (l:Int);unfold Tz Vq;rw [c,e1,e2,a,Int.toNat_natCast];simp only [SL];cases e:decide (0<Tb s.1 j) with
 | true=>exact TZ (x:=(0,((0,true),()))) (Ui (n:=1) (by omega) (Tp rfl)) rfl
 | false =>
  cases f:Vp s.1 j with
  | true=>exact TZ (x:=(0,((1,true),()))) (Ui (n:=2) (by omega) ((Th (s':=(1,false)) rfl).trans (Tp rfl))) rfl
  | false =>
   cases g:Ye s.1 (n+1) with
   | true=>exact TZ (x:=(0,((2,true),()))) (Ui (n:=3) (by omega) ((Th (s':=(1,false)) rfl).trans ((Th (s':=(2,false)) rfl).trans (Tp rfl)))) rfl
   | false=>exact TZ (x:=(1,((3,false),()))) (Ui (n:=4) (by omega) ((Th (s':=(1,false)) rfl).trans ((Th (s':=(2,false)) rfl).trans ((Th (s':=(3,false)) rfl).trans (Tp rfl))))) rfl
end
section
open Go Go.Proofs.YtfilfloanndddaaGreat.Sv
def Wc {α:Type} (z:α) (f:TA->Job->α×Int) (s:TA) (a:Int):α×Int:=if (TE s).2≠0 then (z,(TE s).2) else match Zo s a with
 | some j=>f s j
 | none=>(z,4)
def z0:pX:=(((0,[]),([],0)),((0,(([],([],([],([],0)))),((false,([],false)),([],0)))),0))
theorem bJ {s:TA} (m:Sm s) (a:Int):Uc (s,a)=some (Wc z0 (λs j=>((s,(j,(Tb s.1 j:Int))),0)) s a):=by
 unfold Uc;rw [eK m,SL];unfold Wc Zo Xp;by_cases b:(TE s).2=0;rotate_left
 ·rw [if_pos b,Ss,if_neg b,if_pos b];rfl
 rw [if_neg (show ¬ (TE s).2≠0 by simp [b]),if_neg (show ¬ (TE s).2≠0 by simp [b])];have v:=TL.1 b;cases e:Yx a 0 (TI 0 s.1.2) with
 | none=>rfl
 | some i =>
  obtain ⟨j,n,c,g,f,d,h⟩:=v.at e;simp only;rw [Ss,if_pos rfl,S9,Sb c,c,(JobAt.left d).1,SL]
theorem nX {s:TA} (m:Sm s) (a:Int):XF (s,a)=some (Wc false (λs j=>(Vq s.1 j,0)) s a):=by
 unfold XF;rw [bJ m,SL];unfold Wc;by_cases b:(TE s).2=0;rotate_left
 ·rw [if_pos b,Ss,if_neg b,if_pos b]
 rw [if_neg (show ¬ (TE s).2≠0 by simp [b]),if_neg (show ¬ (TE s).2≠0 by simp [b])];have v:=TL.1 b;unfold Zo;cases d:Yx a 0 (TI 0 s.1.2) with
 | none=>rfl
 | some i =>
  obtain ⟨j,n,e,g,c,f,h⟩:=v.at d;have:=v.lev.len;simp only [e];rw [Ss,if_pos rfl,ai v.lev c (by omega) _ rfl,SL]
theorem YY {s:TA} (m:Sm s) (a:Int):Uh (s,a)=some (Wc 0 (λs j=>((Tb s.1 j:Int),0)) s a):=by
 unfold Uh;rw [YP m,SL];unfold Wc Zo Xp;by_cases b:(TE s).2=0;rotate_left
 ·rw [if_pos b,Ss,if_neg b,if_pos b]
 rw [if_neg (show ¬ (TE s).2≠0 by simp [b]),if_neg (show ¬ (TE s).2≠0 by simp [b])];have v:=TL.1 b;cases e:Yx a 0 (TI 0 s.1.2) with
 | none=>rfl
 | some i =>
  obtain ⟨j,n,c,g,f,d,h⟩:=v.at e;simp only [c];rw [Ss,if_pos rfl,S9,Sb c,(JobAt.left d).2.1,SL]
theorem Zg {s:TA} (m:Sm s) (a:Int):UR (s,a)=some (Wc false (λs j=>(Vq s.1 j,0)) s a):=by
 unfold UR;rw [YY m,SL,YP m,SL];unfold Wc;by_cases b:(TE s).2=0;rotate_left
 ·rw [if_pos b,Ss,if_neg b,if_pos b]
 rw [if_neg (show ¬ (TE s).2≠0 by simp [b]),if_neg (show ¬ (TE s).2≠0 by simp [b])];have v:=TL.1 b;unfold Zo Xp;cases f:Yx a 0 (TI 0 s.1.2) with
 | none=>rfl
 | some i =>
  obtain ⟨j,n,e,g,c,h,k⟩:=v.at f;have:=v.lev.len;rw [if_neg (show ¬ (TE s).2≠0 by simp [b])];simp only [e];rw [Ss,if_pos rfl,Sp,S9,Sb e,aa v.lev c (by omega),SL,g,iW v.lev (by omega),SL];unfold Vq;rw [c,Int.toNat_natCast];by_cases d:0<Tb s.1 j
  ·rw [if_pos (by omega)];simp [d]
  ·rw [if_neg (by omega)];cases Vp s.1 j<;>simp [d,R5,Rd]
def ZE (s:TA) (j:Job):Int×Int:=if 0<Tb s.1 j then (0,9) else if Vp s.1 j=true then (j.1,0) else (j.1+1,0)
theorem oG {s:TA} (m:Sm s) (a:Int):Xq (s,a)=some (Wc 0 ZE s a):=by
 unfold Xq;rw [bJ m,SL];unfold Wc;by_cases b:(TE s).2=0;rotate_left
 ·rw [if_pos b,Ss,if_neg b,if_pos b]
 rw [if_neg (show ¬ (TE s).2≠0 by simp [b]),if_neg (show ¬ (TE s).2≠0 by simp [b])];have v:=TL.1 b;unfold Zo;cases f:Yx a 0 (TI 0 s.1.2) with
 | none=>rfl
 | some i =>
  obtain ⟨j,n,g,h,c,k,l⟩:=v.at f;have:=v.lev.len;simp only [g];unfold TX ZE;rw [Ss,if_pos rfl,SL,Sp,aH v.lev c (by omega),SL,h,TJ (by omega),c];by_cases e:0<Tb s.1 j
  ·rw [if_pos (show ((Tb s.1 j:Int))>0 by omega),if_pos e]
  ·rw [if_neg (show ¬ ((Tb s.1 j:Int))>0 by omega),if_neg e,Sx];by_cases d:Vp s.1 j=true
   ·rw [if_pos d,if_pos d]
   ·rw [if_neg d,if_neg d];rfl
theorem cq {s:TA} (m:Sm s) (a:Int):WD (s,a)=some (Wc 0 ZE s a):=by
 unfold WD;rw [YY m,SL,YP m];unfold Wc;by_cases b:(TE s).2=0;rotate_left
 ·rw [if_pos b,Sn,if_neg b,Ss,if_neg b,if_pos b]
 rw [if_neg (show ¬ (TE s).2≠0 by simp [b]),if_neg (show ¬ (TE s).2≠0 by simp [b])];have v:=TL.1 b;unfold Zo Xp;cases g:Yx a 0 (TI 0 s.1.2) with
 | none=>rfl
 | some i =>
  obtain ⟨j,n,f,h,c,k,l⟩:=v.at g;have:=v.lev.len;rw [if_neg (show ¬ (TE s).2≠0 by simp [b])];simp only [f];unfold ZE;rw [Sn,if_pos rfl,Sp];by_cases e:0<Tb s.1 j
  ·rw [if_pos (show ((Tb s.1 j:Int))>0 by omega),if_pos e]
  ·rw [if_neg (show ¬ ((Tb s.1 j:Int))>0 by omega),if_neg e,Ss,if_pos rfl,SL,S9,Sb f,aa v.lev c (by omega),SL,Sx,h,TJ (by omega),c];by_cases d:Vp s.1 j=true
   ·rw [if_pos d,if_pos d]
   ·rw [if_neg d,if_neg d];rfl
theorem m8 {s:TA} (m:Sm s):V7 s=some (if (TE s).2≠0 then ([],(TE s).2) else (TI 0 s.1.2,0)):=by
 unfold V7;simp only [TH,TF];rw [pJ m,SL,Ss];by_cases a:(TE s).2=0;rotate_left
 ·rw [if_neg a,if_pos a]
 rw [if_pos a,if_neg (show ¬ (TE s).2≠0 by simp [a])];have f:=(TL.1 a).lev.len
 rw [VB (l:=s.1.2) (σ:=List Int) (s:=((0:Int),([]:List Int))) (λi m=>((i:Int),m)) (λls i m=>m++TI i ls=TI 0 s.1.2) (λ_ _ _=>(0,(((s.1.2.length:Int),TI 0 s.1.2),()))) [] rfl (by omega) rfl (λm h=>by
  simp only;rw [re,Rd,<- h];simp [TI]) (λi rs ls m e c hi h=>by
   refine ⟨m++(if rs.length=2 then [(i:Int)] else []),?_,?_,rfl⟩
   ·simp only;rw [rl hi,R5,S9,Sb c,Sn]
    have g:m.length<=1000:=by
     have b:=congrArg List.length h;have d:=Vc s.1.2 0;rw [List.length_append] at b;omega
    by_cases b:rs.length=2
    ·rw [if_pos (by omega),if_pos b,UB (by simp only [BD,List.length_cons,List.length_nil];omega),TM c (by omega)];rfl
    ·rw [if_neg (by omega),if_neg b,List.append_nil,TM c (by omega)]
   ·rw [List.append_assoc];exact h),SL]
def Vr (s:TA):List Int->Option Int
 | []=>none
 | d::l=>if (Wc false (λs j=>(Vq s.1 j,0)) s d).1=true then some d else Vr s l
def To (s:TA):Int×Int:=if (TE s).2≠0 then (0,(TE s).2) else if TI 0 s.1.2=[] then (0,4) else match Vr s (TI 0 s.1.2) with
 | some d=>(d,0)
 | none=>(0,9)
theorem VSt.atDue {s:TA} (v:VSt s) {d:Int} (h:d∈TI 0 s.1.2) : ∃ (j:Job) (n:Nat),Zo s d=some j/\d=(n:Int)/\j.1=(n:Int)/\JobAt s.1 n j/\n<s.1.2.length:=by
 obtain ⟨i,b⟩:=am (k:=0) h;obtain ⟨j,n,e,f,a,c,g⟩:=v.at b;exact ⟨j,n,by unfold Zo;rw [b];exact e,f,a,c,g⟩
theorem mh {s:TA} (m:Sm s):Te s=some (To s):=by
 unfold Te To;rw [m8 m,SL];by_cases a:(TE s).2=0;rotate_left
 ·rw [if_pos a,Ss,if_neg a,if_pos a]
 rw [if_neg (show ¬ (TE s).2≠0 by simp [a]),if_neg (show ¬ (TE s).2≠0 by simp [a]),Ss,if_pos rfl];have v:=TL.1 a;have z:(TI 0 s.1.2).length<=12:=by have:=Vc s.1.2 0;have:=v.lev.len;omega
 simp only [TH,TF];rw [Sn];by_cases b:TI 0 s.1.2=[]
 ·rw [if_pos (by rw [b];rfl),if_pos b]
 rw [if_neg (by have:=List.length_pos_iff.2 b;omega),if_neg b];obtain ⟨T,q⟩ : ∃ T,T=Vr s (TI 0 s.1.2):=⟨_,rfl⟩;rw [<- q]
 obtain ⟨r,C,u⟩:=We (l:=TI 0 s.1.2) (σ:=Unit) (s:=((0:Int),(false,((0:Int),(0:Int))))) (λk _=>((0:Int),(false,((k:Int),(0:Int))))) (λl k _=>Vr s l=T) (λ(r:Nat×((Int×(Bool×(Int×Int)))×Unit))=>r.1=1/\((T=none/\r.2.1.2.1=false)\/(∃ d,T=some d/\r.2.1.2.1=true/\r.2.1.2.2.2=d)))
  (f:=λs1=>br (SW s1.2.2.1 ((TI 0 s.1.2).length:Int)) (λ_=>RX s1.2.2.1 λB=>ix (TI 0 s.1.2) B λw=>bd (Uc (s,w)) λp=>br (RT p.2 0) (λ_=>some (.dn ((0,((p.2,(s1.2.1,(s1.2.2.1,0))),()))))) λ_=>bd (Tz p.1) λE=>br E (λ_=>some (.dn ((1,((s1.1,(true,(s1.2.2.1,w))),()))))) λ_=>some (.nx ((s1.1,(s1.2.1,(Rl .i64 s1.2.2.1 1,s1.2.2.2)))))) λ_=>some (.dn ((1,(s1,())))))
  () rfl (by omega) q.symm (λ_ h=>⟨_,by simp only;rw [re];rfl,rfl,.inl ⟨by rw [<- h];rfl,rfl⟩⟩) (λk d l _ G i A h=>by
   simp only;obtain ⟨j,n,t,I,g,F,b⟩:=v.atDue (List.mem_of_getElem? i);have:=v.lev.len;unfold Vr at h;have x:Wc false (λs j=>(Vq s.1 j,0)) s d=(Vq s.1 j,0):=by unfold Wc;rw [if_neg (show ¬ (TE s).2≠0 by simp [a]),t]
   have y:Wc z0 (λs j=>((s,(j,(Tb s.1 j:Int))),0)) s d=((s,(j,(Tb s.1 j:Int))),0):=by unfold Wc;rw [if_neg (show ¬ (TE s).2≠0 by simp [a]),t]
   rw [x] at h;rw [rl A,R5,S9,Sb i,bJ m,y,SL,Ss,if_pos rfl,ai v.lev g (by omega) _ rfl,SL,Sx];by_cases e:Vq s.1 j=true
   ·rw [if_pos e];rw [if_pos e] at h;exact .inr ⟨_,rfl,rfl,.inr ⟨d,h.symm,rfl,rfl⟩⟩
   ·rw [if_neg e];rw [if_neg e] at h
    exact .inl ⟨(),by rw [TM i (by omega)],h⟩)
 refine TZ C ?_;obtain ⟨u,c⟩:=u;rw [SM,if_neg (show ¬ r.1=0 by omega),Tq,Sx];rcases c with ⟨c,o⟩ | ⟨d,c,o,D⟩
 ·rw [if_neg (by simp [o]),c]
 ·rw [if_pos o,c,D]
theorem fR {s:TA} (m:Sm s):X5 s=some (To s):=by
 unfold X5 To;rw [cC m,SL];by_cases a:(TE s).2=0;rotate_left
 ·rw [if_pos a,Ss,if_neg a,if_pos a]
 rw [if_neg (show ¬ (TE s).2≠0 by simp [a]),if_neg (show ¬ (TE s).2≠0 by simp [a]),Ss,if_pos rfl];have v:=TL.1 a;have o:(TI 0 s.1.2).length<=12:=by have:=Vc s.1.2 0;have:=v.lev.len;omega
 simp only [TH,TF];rw [Sn];by_cases b:TI 0 s.1.2=[]
 ·rw [if_pos (by rw [b];rfl),if_pos b]
 rw [if_neg (by have:=List.length_pos_iff.2 b;omega),if_neg b];obtain ⟨T,n⟩ : ∃ T,T=Vr s (TI 0 s.1.2):=⟨_,rfl⟩;rw [<- n]
 obtain ⟨r,u,c⟩:=We (l:=TI 0 s.1.2) (σ:=Unit) (s:=((0:Int),((0:Int),(0:Int)))) (λk _=>((0:Int),((0:Int),(k:Int)))) (λl k _=>Vr s l=T) (λ(r:Nat×((Int×(Int×Int))×Unit))=>(r.1=1/\T=none)\/(r.1=0 /\ ∃ d,T=some d/\r.2.1.2.1=d/\r.2.1.1=0))
  (f:=λs1=>br (SW s1.2.2 ((TI 0 s.1.2).length:Int)) (λ_=>RX s1.2.2 λq=>ix (TI 0 s.1.2) q λz=>bd (UR (s,z)) λy=>br y.1 (λ_=>RX s1.2.2 λt=>ix (TI 0 s.1.2) t λA=>some (.dn ((0,((0,(A,s1.2.2)),()))))) λ_=>some (.nx ((s1.1,(s1.2.1,Rl .i64 s1.2.2 1))))) λ_=>some (.dn ((1,(s1,())))))
  () rfl (by omega) n.symm (λ_ h=>⟨_,by simp only;rw [re];rfl,.inl ⟨rfl,by rw [<- h];rfl⟩⟩) (λk d l _ B g p h=>by
   simp only;unfold Vr at h;rw [rl p,R5,S9,Sb g,Zg m,SL,Sx,S9,Sb g];by_cases e:(Wc false (λs j=>(Vq s.1 j,0)) s d).1=true
   ·rw [if_pos e];rw [if_pos e] at h;exact .inr ⟨_,rfl,.inr ⟨rfl,d,h.symm,rfl,rfl⟩⟩
   ·rw [if_neg e];rw [if_neg e] at h
    exact .inl ⟨(),by rw [TM g (by omega)],h⟩)
 refine TZ u ?_;rw [SM];rcases c with ⟨c,i⟩ | ⟨c,d,i,w,x⟩
 ·rw [if_neg (show ¬ r.1=0 by omega),i]
 ·rw [if_pos c,i,w,x]
end
section
open Go Go.Proofs.YtfilfloanndddaaGreat.Sv
theorem mq {β:Type} (k:Unit->Option β):gd true k=k ():=rfl
def TG (l:List (List TY)) (i:Nat):List TY:=(l[i]?).getD []
def X3 (l:List (List TY)):Nat->Nat
 | 0=>0
 | k+1=>if TG l k=[] then X3 l k else k+1
def Xw (l:List (List TY)) (n:Nat):List (List TY):=l++List.replicate (n+1-l.length) []
def Wg (l:List (List TY)) (n:Nat) (r:List TY):List (List TY):=(Xw l n).set n r
def Xb (l:List (List TY)):List (List TY):=l.take (X3 l l.length)
def US (L:TB) (n:Nat) (r:List TY):TB:=(L.1,Xb (Wg L.2 n r))
theorem ak (l:List (List TY)) : ∀ k,X3 l k<=k
 | 0=>Nat.le_refl _
 | k+1=>by
  unfold X3;split
  ·exact Nat.le_succ_of_le (ak l k)
  ·exact Nat.le_refl _
theorem Zt (l:List (List TY)) : ∀ {k i:Nat},X3 l k<=i->i<k->TG l i=[]
 | 0,_,_,h=>by omega
 | k+1,i,h1,h2=>by
  unfold X3 at h1;split at h1
  ·rename_i a;by_cases hi:i=k
   ·rw [hi];exact a
   ·exact Zt l h1 (by omega)
  ·omega
theorem aO (l:List (List TY)) : ∀ {k m:Nat},X3 l k=m+1->TG l m≠[]
 | 0,m,h=>by cases h
 | k+1,m,h=>by
  unfold X3 at h;split at h
  ·exact aO l h
  ·rename_i a;have:m=k:=by omega
   rw [this];exact a
theorem aY (l:List (List TY)) (i:Nat):TG (Xb l) i=TG l i:=by
 unfold Xb;by_cases h:i<X3 l l.length
 ·unfold TG;rw [List.getElem?_take,if_pos h]
 ·have a:TG (l.take (X3 l l.length)) i=[]:=by
   unfold TG;rw [List.getElem?_take,if_neg h];rfl
  rw [a];by_cases b:i<l.length
  ·exact (Zt l (by omega) b).symm
  ·unfold TG;rw [List.getElem?_eq_none (by omega)];rfl
theorem d8 (l:List (List TY)):(Xb l).getLast? ≠ some []:=by
 have c:(Xb l).length=X3 l l.length:=by
  have:=ak l l.length;unfold Xb;rw [List.length_take];omega
 cases a:X3 l l.length with
 | zero =>
  have:Xb l=[]:=List.length_eq_zero_iff.1 (by rw [c,a]);rw [this];simp
 | succ m =>
  have d:=aO l a;rw [List.getLast?_eq_getElem?,c,a];intro e;have b:TG (Xb l) m=[]:=by unfold TG;rw [show m=m+1-1 by omega,e];rfl
  rw [aY] at b;exact d b
theorem YO (l:List (List TY)) (n:Nat):(Xw l n).length=max l.length (n+1):=by
 unfold Xw;simp;omega
theorem bp (l:List (List TY)) (n i:Nat):TG (Xw l n) i=TG l i:=by
 unfold TG Xw;by_cases h:i<l.length
 ·rw [List.getElem?_append_left h]
 ·rw [List.getElem?_append_right (by omega),List.getElem?_replicate,List.getElem?_eq_none (l:=l) (by omega)];split<;>rfl
theorem bx (l:List (List TY)) (n i:Nat) (r:List TY):TG (Wg l n r) i=if i=n then r else TG l i:=by
 unfold Wg;by_cases h:i=n
 ·rw [if_pos h,h];have:=YO l n;unfold TG;rw [List.getElem?_set_self (by omega)];rfl
 ·rw [if_neg h];unfold TG;rw [List.getElem?_set_ne (λe=>h e.symm)];exact bp l n i
theorem Wi (L:TB) (n i:Nat) (r:List TY):TG (US L n r).2 i=if i=n then r else TG L.2 i:=by
 show TG (Xb _) i=_;rw [aY,bx]
theorem d9 (L:TB) (n:Nat) (r:List TY):(US L n r).2.getLast? ≠ some []:=d8 _
theorem gf (L:TB) (n:Nat) (r:List TY):(US L n r).2.length<=max L.2.length (n+1):=by
 show (Xb _).length<=_;unfold Xb;rw [List.length_take];have:(Wg L.2 n r).length=max L.2.length (n+1):=by unfold Wg;rw [List.length_set,YO]
 omega
theorem fC (l:List (List TY)):(Xb l).flatten=l.flatten:=by
 have h:l=Xb l++l.drop (X3 l l.length):=(List.take_append_drop _ _).symm
 have a:(l.drop (X3 l l.length)).flatten=[]:=by
  rw [List.flatten_eq_nil_iff];intro x c;obtain ⟨i,hi⟩:=List.getElem?_of_mem c;rw [List.getElem?_drop] at hi;have b:=(List.getElem?_eq_some_iff.1 hi).1;have:=Zt l (k:=l.length) (i:=X3 l l.length+i) (by omega) b;unfold TG at this;rw [hi] at this;exact this
 conv=>rhs;rw [h,List.flatten_append,a,List.append_nil]
theorem gz (l:List (List TY)) (n:Nat):(Xw l n).flatten=l.flatten:=by
 unfold Xw;rw [List.flatten_append]
 have:(List.replicate (n+1-l.length) ([]:List TY)).flatten=[]:=by
  rw [List.flatten_eq_nil_iff];intro x a;exact (List.mem_replicate.1 a).2
 rw [this,List.append_nil]
theorem XS (L:TB) (n:Nat) (r:List TY) : ∃ p q,L.2.flatten=p++(TG L.2 n++q)/\(US L n r).2.flatten=p++(r++q):=by
 have a:n<(Xw L.2 n).length:=by rw [YO];omega
 refine ⟨((Xw L.2 n).take n).flatten,((Xw L.2 n).drop (n+1)).flatten,?_,?_⟩
 ·rw [<- bp L.2 n n,<- gz L.2 n]
  have:Xw L.2 n=(Xw L.2 n).take n++((Xw L.2 n)[n]::(Xw L.2 n).drop (n+1)):=by
   rw [<- List.drop_eq_getElem_cons a,List.take_append_drop]
  have b:TG (Xw L.2 n) n=(Xw L.2 n)[n]:=by unfold TG;rw [List.getElem?_eq_getElem a];rfl
  rw [b]
  conv=>lhs;rw [this]
  rw [List.flatten_append,List.flatten_cons]
 ·show (Xb (Wg L.2 n r)).flatten=_;rw [fC];unfold Wg;rw [List.set_eq_take_append_cons_drop,if_pos a,List.flatten_append,List.flatten_cons]
theorem VLev.own {L:TB} (v:VLev L) (i:Nat):(TG L.2 i).length<=2 /\ ∀ r∈TG L.2 i,VR (UW L.1 i) r:=by
 unfold TG;cases h:L.2[i]? with
 | none=>exact ⟨by simp,λr a=>by cases a⟩
 | some rs=>exact v.lev i rs h
theorem VLev.with' {L:TB} (v:VLev L) {n:Nat} (f:n<12) {r:List TY} (d:r.length<=2) (e : ∀ x∈r,VR (UW L.1 n) x) (b:((US L n r).2.flatten.map nU).Nodup):VLev (US L n r):=by
 refine ⟨v.B1,v.B2,?_,λi rs hi => ?_,b,d9 L n r⟩
 ·have:=gf L n r;have:=v.len;omega
 ·have a:=Wi L n i r;unfold TG at a;rw [hi] at a;simp only [Option.getD_some] at a;rw [a];split
  ·rename_i c;rw [c];exact ⟨d,e⟩
  ·exact v.own i
theorem VLev.leave {L:TB} (v:VLev L) {n:Nat} (c:n<12):VLev (US L n []):=by
 refine v.with' c (by simp) (λ_ h=>by cases h) ?_
 obtain ⟨p,q,a,b⟩:=XS L n [];have:=v.ids;rw [a] at this;rw [b,List.nil_append];refine List.Sublist.nodup (List.Sublist.map _ ?_) this;exact List.Sublist.append (List.Sublist.refl _) (List.sublist_append_right _ _)
theorem VLev.arrive {L:TB} (v:VLev L) {n:Nat} (g:n<12) {x:TY} (j:(TG L.2 n).length<2) (i:VR (UW L.1 n) x) (b : ∀ y∈L.2.flatten,y.1≠x.1):VLev (US L n (TG L.2 n++[x])):=by
 refine v.with' g (by simp;omega) (λy hy => ?_) ?_
 ·rcases List.mem_append.1 hy with hy | hy
  ·exact (v.own n).2 y hy
  ·rw [List.mem_singleton.1 hy];exact i
 ·obtain ⟨p,q,c,d⟩:=XS L n (TG L.2 n++[x])
  have h:(US L n (TG L.2 n++[x])).2.flatten.Perm (x::L.2.flatten):=by
   rw [c,d,List.append_assoc];refine List.Perm.trans ?_ (List.perm_middle (l₁:=p++TG L.2 n) (l₂:=q) (a:=x) |>.trans (by rw [List.append_assoc]));rw [List.append_assoc];exact List.Perm.refl _
  refine (h.map nU).nodup_iff.2 (List.nodup_cons.2 ⟨λf => ?_,v.ids⟩);obtain ⟨y,hy,e⟩:=List.mem_map.1 f;exact b y hy e
theorem Z1 {l:List (List TY)} {x:TY}:x∈l.flatten <-> ∃ i,x∈TG l i:=by
 rw [List.mem_flatten];constructor
 ·rintro ⟨rs,a,b⟩;obtain ⟨i,hi⟩:=List.getElem?_of_mem a;exact ⟨i,by unfold TG;rw [hi];exact b⟩
 ·rintro ⟨i,h⟩;unfold TG at h;cases hi:l[i]? with
  | none=>rw [hi] at h;cases h
  | some rs=>rw [hi] at h;exact ⟨rs,List.mem_of_getElem? hi,h⟩
theorem Yz {l:List (List TY)} {x:TY} (h:x∈l.flatten):x.1<=WO l:=by
 have d : ∀ (rs:List TY) (m:Int),m<=rs.foldl (λm r=>S0 m r.1) m /\ ∀ x∈rs,x.1<=rs.foldl (λm r=>S0 m r.1) m:=by
  intro rs
  induction rs with
  | nil=>intro m;exact ⟨by simp,λx hx=>by cases hx⟩
  | cons r rs c =>
   intro m;obtain ⟨b,a⟩:=c (S0 m r.1);rw [W1] at b a;simp only [List.foldl_cons,W1] at b a ⊢;refine ⟨by omega,λx hx => ?_⟩;rcases List.mem_cons.1 hx with e | hx
   ·rw [e];omega
   ·exact a x hx
 have two : ∀ (ls:List (List TY)) (m:Int),m<=ls.foldl (λm rs=>rs.foldl (λm r=>S0 m r.1) m) m /\ ∀ rs∈ls,∀ x∈rs,x.1<=ls.foldl (λm rs=>rs.foldl (λm r=>S0 m r.1) m) m:=by
  intro ls
  induction ls with
  | nil=>intro m;exact ⟨by simp,λx hx=>by cases hx⟩
  | cons rs ls c =>
   intro m;obtain ⟨b,a⟩:=c (rs.foldl (λm r=>S0 m r.1) m);obtain ⟨i,g⟩:=d rs m;simp only [List.foldl_cons];refine ⟨by omega,λf hrs x hx => ?_⟩;rcases List.mem_cons.1 hrs with e | hrs
   ·subst e;have:=g x hx;omega
   ·exact a f hrs x hx
 obtain ⟨rs,b,a⟩:=List.mem_flatten.1 h;exact (two l 0).2 rs b x a
end
section
open Go Go.Proofs.YtfilfloanndddaaGreat.Sv
theorem aQ {M:List (List TY)} {f:Int->Option (LR Int (Nat×(Int×Unit)))} (a:f 0=some (.dn (0,(0,())))) (hs : ∀ k,k<M.length->f ((k+1:Nat):Int)=if TG M k=[] then some (.nx (k:Int)) else some (.dn (0,(((k+1:Nat):Int),())))) : ∀ k,k<=M.length->IJ (k+1) f (k:Int)=some (0,((X3 M k:Nat):Int),())
 | 0,_=>Tp a
 | k+1,hk=>by
  have h:=hs k (by omega);unfold X3;by_cases b:TG M k=[]
  ·rw [if_pos b] at h ⊢;rw [Th h];exact aQ a hs k (by omega)
  ·rw [if_neg b] at h ⊢;exact Tp h
theorem ni (L:List (List TY)) (n:Nat):K5 (Q8 (max L.length (n+1)) ([]:List TY)) 0 L (AS (Q8 (max L.length (n+1)) ([]:List TY)))=Xw L n:=by
 have a:AS (Q8 (max L.length (n+1)) ([]:List TY))=max L.length (n+1):=by unfold AS Q8;simp
 rw [a];unfold K5 Xw Q8;rw [List.take_of_length_le (by omega:L.length<=max L.length (n+1))];simp only [List.take_zero,List.nil_append,List.drop_replicate,Nat.zero_add]
 congr 2
 omega
theorem iC (l:List (List TY)) (n:Nat) (r:List TY):lset (Xw l n) n r=Wg l n r:=rfl
theorem V4 {l:List (List TY)} {i:Nat} (h:i<l.length):l[i]? = some (TG l i):=by
 unfold TG;rw [List.getElem?_eq_getElem h];rfl
theorem aq {β:Type} (l:List TY) (x y:Unit->Option β):br (RR (l.length:Int) 0) x y=if l=[] then x () else y ():=by
 rw [Sn];by_cases h:l=[]
 ·rw [if_pos h,if_pos (by rw [h];rfl)]
 ·rw [if_neg h,if_neg (by have:=List.length_pos_iff.2 h;omega)]
theorem ZO {L:TB} (i:L.2.length<=1000) {n:Nat} (j:n<1000) (r:List TY):VO (L,((n:Int),r))=some (US L n r):=by
 have b:S0 (Kb (AS L.2)) (Rl .i64 (n:Int) 1)=((max L.2.length (n+1):Nat):Int):=by
  rw [TJ (by omega),W1,TH,TF];omega
 unfold VO;simp only [b,S9,ni,iC];have d:(Xw L.2 n).length=max L.2.length (n+1):=YO _ _;have l:(Wg L.2 n r).length=max L.2.length (n+1):=by unfold Wg;rw [List.length_set,d]
 rw [UB (by omega),SR,if_pos (by rw [TF,d];omega),Sb (V4 (by omega))]
 have c:=aQ (M:=Wg L.2 n r) (f:=λa=>br (SU a 0) (λ_=>RX (Rp .i64 a 1) λe=>gd (KC e (AS (Wg L.2 n r))) λ_=>ix (Wg L.2 n r) e λh=>br (RR (Kb (AS h)) 0) (λ_=>some (.nx (Rp .i64 a 1))) λ_=>some (.dn ((0,(a,()))))) λ_=>some (.dn ((0,(a,()))))) rfl (λk b=>by
  have hi:Rp .i64 ((k+1:Nat):Int) 1=(k:Int):=by rw [SB (by omega)];omega
  simp only [hi,S9];rw [Sp,if_pos (by omega),SR,if_pos (by rw [TF];omega),Sb (V4 b)]
  exact aq _ _ _) _ (Nat.le_refl _)
 rw [TH,show AS (Wg L.2 n r)=(Wg L.2 n r).length from rfl];refine TZ (Ui (by omega) c) ?_;have g:=ak (Wg L.2 n r) (Wg L.2 n r).length;simp only [S9];rw [UB g,SQ,if_pos (by omega),SN,if_pos (by omega),SQ,if_pos (by unfold BD PA;omega)];unfold US Xb Dy BD PA;simp
end
section
open Go Go.Proofs.YtfilfloanndddaaGreat.Sv
def ap (d:Int) (j:Job):Bool:=RR d j.1
def UN (js:List Job) (d:Int):Option Job:=js.find? (ap d)
def Y5 (js:List Job):List (Int×Job):=js.map λj=>(j.1,j)
def zJ:Job:=(0,(([],([],([],([],0)))),((false,([],false)),([],0))))
def WQ (L:TB) (d:Int):Job:=match TG L.2 d.toNat with
 | [r0,r1]=>(d,VC r1.2 r0.2 (decide (d=(L.2.length:Int)-1)) 0)
 | _=>zJ
def Wb (s:TA) (L:TB) (a d:Int):Job:=(if d=a then none else UN s.2.1 d).getD (WQ L d)
def YS (s:TA) (L:TB) (next a:Int):TA:=(L,((TI 0 L.2).map (Wb s L a),next))
theorem aW (d:Int) : ∀ js:List Job,MI (λa b=>RR a b) (Y5 js) d=UN js d
 | []=>rfl
 | j::js=>by
  show (bif RR d j.1 then some j else MI (λa b=>RR a b) (Y5 js) d)=(j::js).find? (ap d)
  rw [List.find?_cons,aW d js];show _=match RR d j.1 with | true=>some j | false=>UN js d
  cases RR d j.1<;>rfl
theorem aX {j:Job} : ∀ {js:List Job},j.1 ∉ js.map (·.1)->IR (λa b=>RR a b) (Y5 js) j.1 j=Y5 (js++[j])
 | [],_=>rfl
 | i::js,h=>by
  show (bif RR j.1 i.1 then (j.1,j)::Y5 js else (i.1,i)::IR (λa b=>RR a b) (Y5 js) j.1 j)=(i.1,i)::Y5 (js++[j])
  have d:RR j.1 i.1=false:=by rw [VZ];simp;intro e;exact h (by simp [e])
  rw [d,cond_false,aX (λc=>h (by simp at c ⊢;exact .inr c))]
theorem X6 {js:List Job} {d:Int} (h:d ∉ js.map (·.1)):UN js d=none:=by
 unfold UN;rw [List.find?_eq_none];intro j a;unfold ap;rw [VZ];simp only [decide_eq_true_eq];intro e;exact h (by rw [e];exact List.mem_map_of_mem a)
theorem aV {x d:Int} : ∀ {js:List Job},(js.map (·.1)).Nodup->MI (λa b=>RR a b) (IQ (λa b=>RR a b) (Y5 js) x) d=if d=x then none else UN js d
 | [],_=>by split<;>rfl
 | j::js,h=>by
  rw [List.map_cons,List.nodup_cons] at h;show MI (λa b=>RR a b) (bif RR x j.1 then Y5 js else (j.1,j)::IQ (λa b=>RR a b) (Y5 js) x) d=_
  have g:UN (j::js) d=if d=j.1 then some j else UN js d:=by
   unfold UN;rw [List.find?_cons];unfold ap;rw [VZ];by_cases e:d=j.1<;>simp [e]
  rw [VZ,g];by_cases f:x=j.1
  ·rw [show decide (x=j.1)=true by simp [f],cond_true,aW];by_cases c:d=x
   ·rw [if_pos c];exact X6 (by rw [c,f];exact h.1)
   ·rw [if_neg c,if_neg (by rw [<- f];exact c)]
  ·rw [show decide (x=j.1)=false by simp [f],cond_false];show (bif RR d j.1 then some j else MI (λa b=>RR a b) (IQ (λa b=>RR a b) (Y5 js) x) d)=_
   rw [aV h.2,VZ];by_cases c:d=j.1
   ·rw [show decide (d=j.1)=true by simp [c],cond_true,if_pos c,if_neg (by rw [c];exact λe=>f e.symm)]
   ·rw [show decide (d=j.1)=false by simp [c],cond_false,if_neg c]
theorem VR.vl' {L:TB} (v:VLev L) {n:Nat} {r:TY} (h:r∈TG L.2 n):VL r.2:=((v.own n).2 r h).vl
theorem fL (L:TB) (a:L.2.length<=1000) (n:Nat):Uz (L,(n:Int))=some (decide ((n:Int)=(L.2.length:Int)-1)):=by
 unfold Uz;simp only [TH,TF];rw [SB (by omega),VZ]
theorem gu {L:TB} (v:VLev L) {n:Nat} (h:(TG L.2 n).length=2):Wo (L,(n:Int))=some (WQ L n,0):=by
 have d:n<L.2.length:=by
  by_cases e:n<L.2.length
  ·exact e
  ·unfold TG at h;rw [List.getElem?_eq_none (by omega)] at h;cases h
 have i:=v.len;obtain ⟨f,g⟩:=v.small;unfold Wo;simp only [TH,TF];rw [Ym _ f g,W4 v,SL,Ss,if_pos rfl,Sr,if_neg (by omega),So,if_neg (by omega),So,if_neg (by omega),S9,Sb (V4 d),Sr,if_neg (by omega),fL L (by omega) n,SL]
 obtain ⟨b,c,a⟩ : ∃ b c,TG L.2 n=[b,c]:=by
  match hq:TG L.2 n with
  | [b,c]=>exact ⟨b,c,rfl⟩
  | []=>rw [hq] at h;cases h
  | [_]=>rw [hq] at h;cases h
  | _::_::_::_=>rw [hq] at h;simp at h
 rw [bM _ (by rw [V4 d,a]) (VR.vl' v (n:=n) (by rw [a];simp)) (VR.vl' v (n:=n) (by rw [a];simp)),SL];unfold WQ;rw [Int.toNat_natCast,a]
theorem XW (i:Nat) (rs:List TY) (ls:List (List TY)):TI i (rs::ls)=(if rs.length=2 then [(i:Int)] else [])++TI (i+1) ls:=rfl
theorem ZV {s:TA} (f:(s.2.1.map (·.1)).Nodup) (t:s.2.1.length<=1000) {L:TB} (v:VLev L) (next a:Int):Tc (s,(L,(next,a)))=some (YS s L next a,0):=by
 have u:=v.len;unfold Tc;simp only [TH,TF]
 rw [VB (l:=s.2.1) (σ:=List (Int×Job)) (s:=((0:Int),([]:List (Int×Job)))) (λi m=>((i:Int),m)) (λls i m => ∃ p,s.2.1=p++ls/\m=Y5 p) (λ_ _ _=>(0,(((s.2.1.length:Int),Y5 s.2.1),()))) [] rfl (by omega) ⟨[],rfl,rfl⟩ (λm h=>by
  obtain ⟨p,d,rfl⟩:=h
  simp only;rw [re,Rd,d,List.append_nil]) (λi x ls m q b hi h=>by
   obtain ⟨p,d,rfl⟩:=h;refine ⟨Y5 (p++[x]),?_,⟨p++[x],by rw [d];simp,rfl⟩,rfl⟩;simp only;rw [rl hi,R5,S9,Sb b,TM b (by omega),aX];intro g;rw [d,List.map_append,List.nodup_append] at f
   exact f.2.2 _ g x.1 (by simp) rfl),SL]
 simp only
 rw [VB (l:=L.2) (σ:=List Job) (s:=((0:Int),((0:Int),(((0:Int),(([]:List (List TY)),(([]:List Job),(0:Int)))),(L.1,(L.2,(([]:List Job),next))))))) (λi js=>((0:Int),((i:Int),(((0:Int),(([]:List (List TY)),(([]:List Job),(0:Int)))),(L.1,(L.2,(js,next))))))) (λls i js=>js++(TI i ls).map (Wb s L a)=(TI 0 L.2).map (Wb s L a)) (λ_ _ _=>(0,(((0:Int),((L.2.length:Int),(((0:Int),(([]:List (List TY)),(([]:List Job),(0:Int)))),(L.1,(L.2,((TI 0 L.2).map (Wb s L a),next)))))),()))) [] rfl (by omega) rfl (λm h=>by
  simp only;rw [re,Rd,<- h];simp [TI]) (λi rs ls m q b hi h=>by
   have k:TG L.2 i=rs:=by unfold TG;rw [b];rfl
   have o:=(v.own i).1;rw [k] at o;refine ⟨m++(if rs.length=2 then [Wb s L a i] else []),?_,?_,rfl⟩
   ·simp only;rw [rl hi,R5,S9,Sb b,Sr]
    have g:m.length<=1000:=by
     have c:=congrArg List.length h;have r:=Vc L.2 0;rw [List.length_append,List.length_map,List.length_map] at c;omega
    by_cases c:rs.length=2;rotate_left
    ·rw [if_pos (by omega),if_neg c,List.append_nil,TM b (by omega)]
    rw [if_neg (by omega),if_pos c,aV f];have e:Wb s L a i=(if (i:Int)=a then none else UN s.2.1 i).getD (WQ L i):=rfl
    cases n:(if (i:Int)=a then none else UN s.2.1 (i:Int)) with
    | none =>
     rw [n,Option.getD_none] at e;rw [e,gu v (by rw [k];exact c),Tq,Sx,if_neg (show ¬ S3 (none:Option Job)=true by simp [S3]),SL];simp only;rw [Ss,if_pos rfl,UB (by simp only [BD,List.length_cons,List.length_nil];omega),TM b (by omega)];rfl
    | some j =>
     rw [n,Option.getD_some] at e;rw [e,Tq,Sx,if_pos (show S3 (some j)=true from rfl),UB (by simp only [BD,List.length_cons,List.length_nil];omega),TM b (by omega)];rfl
   ·rw [List.append_assoc,<- h,XW,List.map_append]
    congr 2
    split<;>rfl),SL]
 rfl
end
section
open Go Go.Proofs.YtfilfloanndddaaGreat.Sv
def pS (s:UI):Option XL:=if s.1=true then some s.2.1 else none
theorem Asc.weak : ∀ {l:List S8} {p c:Option XL},(∀ a,c=some a -> ∃ q,p=some q/\Rz q a=false)->Asc p l->Asc c l
 | [],_,_,_,_=>trivial
 | x::l,p,c,h,⟨g,i⟩=>⟨λa b=>by
  obtain ⟨q,e,j⟩:=h a b;have d:=g q e;by_cases f:a=q
  ·rw [f];exact d
  ·exact WP (Ys j (λe=>f e.symm)) d,i⟩
theorem bT : ∀ (l:List S8) (s:UI),ZF s l->Asc (pS s) (V5 s l)
 | [],_,_=>trivial
 | x::l,s,⟨_,g,h⟩=>by
  have i:=bT l _ h;have f:Asc (some x.1) (V5 (true,(x.1,s.2.2)) l):=i;unfold V5;by_cases c:keep s x=true
  ·rw [if_pos c];refine ⟨λq d => ?_,f⟩;unfold pS at d;by_cases b:s.1=true
   ·rw [if_pos b] at d;cases d;refine Ys (g b) λe => ?_;unfold keep at c;rw [b,e] at c;simp at c
   ·rw [if_neg b] at d;cases d
  ·rw [if_neg c,List.nil_append];refine f.weak λj a=>⟨x.1,rfl,?_⟩;unfold pS at a;by_cases b:s.1=true
   ·rw [if_pos b] at a;cases a;exact g b
   ·rw [if_neg b] at a;cases a
theorem bV : ∀ {l:List S8} {s:UI} {x:S8},x∈V5 s l->x∈l
 | y::l,s,x,h=>by
  unfold V5 at h;rcases List.mem_append.1 h with h | h
  ·split at h
   ·rw [List.mem_singleton.1 h];simp
   ·cases h
  ·exact List.mem_cons_of_mem _ (bV h)
theorem eZ : ∀ {l:List S8} {s:UI},ZF s l -> ∀ x∈l,kE x=0
 | y::l,s,⟨a,_,b⟩,x,h=>by
  rcases List.mem_cons.1 h with e | h
  ·rw [e];exact a
  ·exact eZ b x h
theorem iK {a b:List S8} (va:VL a) (f:VL b) (c:Bool) {k:Nat} (d:k<=a.length+b.length) (j:a.length+b.length<=5000):VL (VC a b c k).2.2.1/\(VC a b c k).2.2.1.length<=a.length+b.length:=by
 have e:=XD va f c d
 have i:(V5 (s0 c) (TU a b k)).length<=k:=by
  have:=Xo (s0 c) (TU a b k);rw [Uu va f d] at this;exact this
 have g:(VC a b c k).2.2.1=V5 (s0 c) (TU a b k):=rfl;rw [g];exact ⟨⟨by omega,λx h=>eZ e x (bV h),bT _ _ e⟩,by omega⟩
theorem ck {L:TB} (v:VLev L) {n:Nat} (h:TG L.2 n≠[]):U8 (L,(n:Int))=some (US L n [],(TG L.2 n,0)):=by
 have b:n<L.2.length:=by
  by_cases a:n<L.2.length
  ·exact a
  ·unfold TG at h;rw [List.getElem?_eq_none (by omega)] at h;exact absurd rfl h
 have d:=v.len;have c:=(v.own n).1;unfold U8;simp only [TH,TF];rw [ay v,SL,if_neg (by omega),Ss,if_pos rfl,Sr,if_pos (by omega),S9,Sb (V4 b),aq,if_neg h,ZO (by omega) (by omega),SL,UB (by omega)]
theorem fI {S β:Type} {f:S->Option (LR S β)} {r:β} (mk:Int->S) (n:Nat) {s:S} (b:s=mk ((n:Int)-1)) (g:n<1000000) (hs : ∀ k,k<n->f (mk (k:Int))=some (.nx (mk ((k:Int)-1)))) (c:f (mk (-1))=some (.dn r)):loop f s=some r:=by
 subst b
 have a : ∀ k,k<=n->IJ (k+1) f (mk ((k:Int)-1))=some r:=by
  intro k
  induction k with
  | zero=>intro _;exact Tp c
  | succ k d =>
   intro e;have:=hs k (by omega);rw [show ((k+1:Nat):Int)-1=(k:Int) by omega,Th this];exact d (by omega)
 exact Ui (by omega) (a n (Nat.le_refl _))
theorem bh {L:TB} (v:VLev L) {n:Nat} (o:n<12) {x:TY} (q:x.2.length<=1048576) (b : ∀ y∈L.2.flatten,y.1≠x.1) (m:(TG L.2 n).length<2) :
  Tv (L,((n:Int),x))=some (if kR [] (UW L.1 n) x≠0 then ((0,[]),kR [] (UW L.1 n) x) else (US L n (TG L.2 n++[x]),0)):=by
 have p:=v.len;unfold Tv;simp only [TH,TF];rw [ay v,SL,if_neg (by omega),Ss,if_pos rfl,ZM v.B1 v.B2 (by omega),aU x _ (by omega),show RS (n:Int) 0=true by unfold RS;simp];rw [mq,SL,Ss];by_cases a:kR [] (UW L.1 n) x=0;rotate_left
 ·rw [if_neg a,if_pos a]
 rw [if_pos a,if_neg (by simp [a])]
 rw [VB (l:=L.2) (σ:=Unit) (s:=((0:Int),(((0:Int),([]:List (List TY))),(0:Int)))) (λi _=>((i:Int),(((0:Int),([]:List (List TY))),(0:Int)))) (λ_ _ _=>True) (λ_ _ _=>(0,(((L.2.length:Int),(((0:Int),([]:List (List TY))),(0:Int))),()))) () rfl (by omega) trivial (λ_ _=>by
  simp only;rw [re];rfl) (λi rs ls _ j hi c _=>by
   refine ⟨(),?_,trivial,rfl⟩;have e:TG L.2 i=rs:=by unfold TG;rw [hi];rfl
   have f:=(v.own i).1;rw [e] at f;simp only;rw [rl c,R5,S9,Sb hi,SB (by omega)]
   rw [fI (λk=>(k,(((0:Int),([]:List (List TY))),(0:Int)))) rs.length rfl (by omega) (λk a=>by
    have h:rs[k]? = some rs[k]:=List.getElem?_eq_getElem a;have d:rs[k].1≠x.1:=b _ (List.mem_flatten.2 ⟨rs,List.mem_of_getElem? hi,List.getElem_mem a⟩);simp only
    rw [So,if_pos (by omega),S9,Sb h,Sn,if_neg d,SB (by omega)]) (r:=(0,(((-1:Int),(((0:Int),([]:List (List TY))),(0:Int))),()))) rfl,SL]
   rw [TM hi (by omega)]
   rfl),SL]
 rw [SM,if_pos rfl,Sr];by_cases g:n<L.2.length
 ·rw [if_pos (by omega),S9,Sb (V4 g),Sn,if_neg (by omega),S9,S9,UB (Nat.le_refl _),SP,if_pos rfl,UB (Nat.zero_le _)];have hs:Dy (TG L.2 n) 0 (TG L.2 n).length=TG L.2 n:=by unfold Dy;simp
  rw [hs,UB (by simp only [BD,List.length_cons,List.length_nil];omega),ZO (by omega) (by omega),SL];rfl
 ·rw [if_neg (by omega)];have e:TG L.2 n=[]:=by unfold TG;rw [List.getElem?_eq_none (by omega)];rfl
  rw [UB (by simp),ZO (by omega) (by omega),SL,e];rfl
end
end Go.Proofs.YtfilfloanndddaaGreat.Pl
