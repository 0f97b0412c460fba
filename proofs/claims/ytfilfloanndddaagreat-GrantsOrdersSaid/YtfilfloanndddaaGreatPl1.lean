/- Functions of the program and of the specification as plain functions, and laws about them. No condition. -/
import Derived.Test.YtfilfloanndddaaGreatPl0
set_option linter.all false
namespace Go.Proofs.YtfilfloanndddaaGreat.Pl
section
open Go Go.Proofs.YtfilfloanndddaaGreat.Sv
theorem Un {S β:Type} {f:S->Option (LR S β)} {s0 s1 s2:S} {r:β} (a:f s0=some (.nx s1)) (b:f s1=some (.nx s2)) (c:f s2=some (.dn r)):loop f s0=some r :=
 Ug (n:=3) (by omega) ((Tf a).trans ((Tf b).trans (Tl c)))
theorem ZQ {α β:Type} {c:Bool} {n:Int} {l:List α} {K:Nat->α->Option β} {E:Unit->Option β} (k:Nat) {x:α} (hc:c=true) (b:n=(k:Int)) (d:l[k]? = some x):br c (λ_=>RX n λa=>ix l a λe=>K a e) E=K k x:=by
 subst hc;subst b;rw [R5,S9,Sb d]
theorem Vv {α β:Type} {n:Int} {l:List α} {K:Nat->α->Option β} (k:Nat) {x:α} (b:n=(k:Int)) (c:l[k]? = some x):RX n (λa=>ix l a λd=>K a d)=K k x:=by
 subst b;rw [S9,Sb c]
theorem Wt {l:List S8} {i:Nat} (h:i<=l.length):Tj (l,(i:Int))=some (kx l i):=by
 unfold Tj kx;simp only [TH,TF];rw [Sn];by_cases hi:i=l.length
 ·rw [if_pos (by omega),List.getElem?_eq_none (by omega)]
 ·have a:l[i]? = some l[i]:=by rw [List.getElem?_eq_getElem (by omega)]
  rw [if_neg (by omega),S9,Sb a,a]
section
variable {a b:List S8} (va:VL a) (vb:VL b)
theorem kS {i j:Nat} (hi:i<=a.length) (c:j<=b.length):WX ([a,b],[(i:Int),(j:Int)])=some (Tt (kx a i) (kx b j)):=by
 unfold WX;refine Tc (x:=(0,((2,[kx a i,kx b j]),()))) (Un (s1:=(1,[kx a i,([],false)])) (s2:=(2,[kx a i,kx b j])) ?_ ?_ rfl) ?_
 ·show bd (Tj (a,(i:Int))) _=_;rw [Wt hi];rfl
 ·show bd (Tj (b,(j:Int))) _=_;rw [Wt c];rfl
 ·show bd (Ue [kx a i,kx b j]) _=_;rw [Y7 (UB _ _) (UB _ _)];rfl
include va vb
theorem Yl:To a=some (0,0):=by
 rw [Wx _ (by have:=va.len;omega),X7 va]
theorem Ya:VH [a,b]=some (0,0):=by
 unfold VH;refine Tc (x:=(1,((0,(0,2)),()))) (Un (s1:=(0,(0,1))) (s2:=(0,(0,2))) ?_ ?_ rfl) rfl
 ·show bd (To a) _=_;rw [Yl va va];rfl
 ·show bd (To b) _=_;rw [Yl vb vb];rfl
theorem dV (c:Bool):Vt ([a,b],c)=some (pk a b c 0,(0,0)):=by
 unfold Vt;rw [Ya va vb,SL,Ss,if_pos rfl];refine Tc (x:=(0,((2,[kx a 0,kx b 0]),()))) (Un (s1:=(1,[kx a 0,([],false)])) (s2:=(2,[kx a 0,kx b 0])) ?_ ?_ rfl) ?_
 ·show bd (Tj (a,((0:Nat):Int))) _=_;rw [Wt (by omega)];rfl
 ·show bd (Tj (b,((0:Nat):Int))) _=_;rw [Wt (by omega)];rfl
 ·show bd (Ue [kx a 0,kx b 0]) _=_;rw [Y7 (UB _ _) (UB _ _)];rfl
end
theorem XL (x:Bool):Sv.beq x x=true:=by cases x<;>rfl
theorem Xx (x:Ww):seq x x=true:=by rw [ZT]
theorem bz (l:List TD) (h:l.length<=1000):TS (l,l)=some true:=by
 unfold TS;simp only [TH,TF]
 rw [Ss,if_pos rfl,Yv (l:=l) (σ:=Unit) (s:=(0,false)) (λk _=>((k:Int),false)) (λ_ _ _=>some (1,(((l.length:Int),false),()))) () rfl (by omega) (λc=>by
  simp only;rw [re];rfl) (λk x m c _ a b => .inl ⟨(),by
   simp only;rw [rl b,R5,S9,Sb a,S9,Sb a,Xx,XL,show Hf (NX true (NX true true))=false from rfl,Rd,TL a (by omega)],rfl⟩),SL]
 rfl
theorem bx (l:List Int) (h:l.length<=1000):TJ (l,l)=some true:=by
 unfold TJ;simp only [TH,TF]
 rw [Ss,if_pos rfl,Yv (l:=l) (σ:=Unit) (s:=(0,false)) (λk _=>((k:Int),false)) (λ_ _ _=>some (1,(((l.length:Int),false),()))) () rfl (by omega) (λc=>by
  simp only;rw [re];rfl) (λk x m c _ a b => .inl ⟨(),by
   simp only;rw [rl b,R5,S9,Sb a,S9,Sb a,Ss,if_pos rfl,TL a (by omega)],rfl⟩),SL]
 rfl
theorem dS (t:VV) (a:t.1.length<=1000) (b:t.2.1.length<=1000):Vd (t,t)=some true:=by
 unfold Vd;rw [Sn,if_pos rfl,bz _ a,SL,R5,bx _ b];rfl
theorem dT (p q:TD):Vd (Tt p q,Tt p q)=some true:=dS _ (show 2<=1000 by omega) (show 2<=1000 by omega)
theorem eM {a b:List S8} {i j:Nat} (h:W8 a b i j=true):wk (kx a i) (kx b j)=kx a i/\wn (kx a i) (kx b j)=0:=by
 unfold W8 at h;unfold wk wn;rw [if_pos h,if_pos h];exact ⟨rfl,rfl⟩
theorem eO {a b:List S8} {i j:Nat} (h:W8 a b i j=false):wk (kx a i) (kx b j)=kx b j/\wn (kx a i) (kx b j)=1:=by
 unfold W8 at h;unfold wk wn;rw [if_neg (by simp [h]),if_neg (by simp [h])];exact ⟨rfl,rfl⟩
theorem cv (x y:Ww):Ui (x,y)=some (if Rz x y=true then -1 else if Rz y x=true then 1 else 0):=by
 unfold Ui U0;simp only [Xx,bw,SL,Rd];rw [Wj,Wj];split
 ·rfl
 ·split<;>rfl
theorem cu (x y:Int):US (x,y)=some (if x<y then -1 else if x>y then 1 else 0):=by
 unfold US VY;simp only [SL,Ss,if_true,Sr,Sp];split
 ·rfl
 ·split<;>rfl
theorem fH (x y:Int):WU [x,y]=some (if x≠0 then x else y):=by
 unfold WU;by_cases h:x=0
 ·rw [if_neg (by simp [h])];by_cases a:y=0
  ·refine Tc (x:=(1,((0,2),()))) (Un (s1:=(0,1)) (s2:=(0,2)) ?_ ?_ rfl) (by rw [a];rfl)
   ·refine (ZQ 0 rfl rfl rfl).trans ?_;rw [Ss,if_pos h];rfl
   ·refine (ZQ 1 rfl rfl rfl).trans ?_;rw [Ss,if_pos a];rfl
  ·refine Tc (x:=(0,((y,1),()))) (Ug (n:=2) (by omega) ((Tf (s':=(0,1)) ?_).trans (Tl ?_))) rfl
   ·refine (ZQ 0 rfl rfl rfl).trans ?_;rw [Ss,if_pos h];rfl
   ·refine (ZQ 1 rfl rfl rfl).trans ?_;rw [Ss,if_neg a]
 ·rw [if_pos h];refine Tc (x:=(0,((x,0),()))) (Ug (n:=1) (by omega) (Tl ?_)) rfl;refine (ZQ 0 rfl rfl rfl).trans ?_;rw [Ss,if_neg h]
section
variable {a b:List S8} (va:VL a) (vb:VL b)
include va vb
theorem YM {i j:Nat} (I:Inv a b i j):VG (Yg a b i j)=some (0,0):=by
 unfold VG;rw [show (Yg a b i j).1=[a,b] from rfl,Ya va vb,SL,Ss,if_pos rfl];rw [show (Yg a b i j).2.1=[(i:Int),(j:Int)] from rfl,Ss,if_pos (show Kb (AS [(i:Int),(j:Int)])=Kb (AS [a,b]) from rfl)];refine Tc (x:=(1,((0,(0,2)),()))) (Un (s1:=(0,(0,1))) (s2:=(0,(0,2))) ?_ ?_ rfl) ?_
 ·refine (ZQ 0 rfl rfl rfl).trans ?_;rw [Sr,if_neg (by omega),show RX (((0:Int),((0:Int),(0:Int))).2.2)=λ(k:Nat->Option (LR (Int×(Int×Int)) (Nat×((Int×(Int×Int))×Unit))))=>k 0 from rfl];simp only;rw [Sb (x:=a) rfl,Sp,if_neg (by have:=I.ia;simp only [TH,TF];omega)];rfl
 ·refine (ZQ 1 rfl rfl rfl).trans ?_;rw [Sr,if_neg (by omega),show RX (((0:Int),((0:Int),(1:Int))).2.2)=λ(k:Nat->Option (LR (Int×(Int×Int)) (Nat×((Int×(Int×Int))×Unit))))=>k 1 from rfl];simp only;rw [Sb (x:=b) rfl,Sp,if_neg (by have:=I.jb;simp only [TH,TF];omega)];rfl
 rw [show neq ((1:Nat),(((0:Int),((0:Int),(2:Int))),())).1 0=false from rfl,Rd,kS I.ia I.jb,SL,show (Yg a b i j).2.2=Tt (kx a i) (kx b j) from rfl,dT,SL,show Hf true=false from rfl,Rd,XJ (UB _ _) (UB _ _),SL];by_cases c:(wk (kx a i) (kx b j)).2=true
 ·rw [if_pos c];rfl
 rw [if_neg c,Ss,if_pos rfl]
 have s : ∀ {x:S8} {f:Nat},i=f+1->a[f]? = some x -> ¬ (if (if Rz x.1 (wk (kx a i) (kx b j)).1=true then (-1:Int) else if Rz (wk (kx a i) (kx b j)).1 x.1=true then 1 else 0)≠0 then (if Rz x.1 (wk (kx a i) (kx b j)).1=true then (-1:Int) else if Rz (wk (kx a i) (kx b j)).1 x.1=true then 1 else 0) else (if (0:Int)<(wn (kx a i) (kx b j):Int) then -1 else if (0:Int)>(wn (kx a i) (kx b j):Int) then 1 else 0))>0:=by
  intro x f hi d
  have p:Rz (wk (kx a i) (kx b j)).1 x.1=false:=by
   cases g:W8 a b i j with
   | true =>
    rw [(eM g).1] at c ⊢;unfold kx at c ⊢;cases e:a[i]? with
    | none=>rw [e] at c;exact absurd rfl c
    | some y=>rw [hi] at e;exact Us (va.lt d e)
   | false =>
    rw [(eO g).1] at c ⊢;unfold kx at c ⊢;cases e:b[j]? with
    | none=>rw [e] at c;exact absurd rfl c
    | some y=>exact I.pa f hi x y d e
  rw [p];have : ¬ (0:Int)>(wn (kx a i) (kx b j):Int):=by omega
  by_cases hs:Rz x.1 (wk (kx a i) (kx b j)).1=true
  ·simp [hs]
  ·simp only [hs,Bool.false_eq_true,if_false,ne_eq,not_true,this];split<;>omega
 have t : ∀ {y:S8} {j':Nat},j=j'+1->b[j']? = some y -> ¬ (if (if Rz y.1 (wk (kx a i) (kx b j)).1=true then (-1:Int) else if Rz (wk (kx a i) (kx b j)).1 y.1=true then 1 else 0)≠0 then (if Rz y.1 (wk (kx a i) (kx b j)).1=true then (-1:Int) else if Rz (wk (kx a i) (kx b j)).1 y.1=true then 1 else 0) else (if (1:Int)<(wn (kx a i) (kx b j):Int) then -1 else if (1:Int)>(wn (kx a i) (kx b j):Int) then 1 else 0))>0:=by
  intro y j' r e
  have q:Rz y.1 (wk (kx a i) (kx b j)).1=true:=by
   cases g:W8 a b i j with
   | true =>
    rw [(eM g).1] at c ⊢;unfold kx at c ⊢;cases d:a[i]? with
    | none=>rw [d] at c;exact absurd rfl c
    | some x=>exact I.pb j' r y x e d
   | false =>
    rw [(eO g).1] at c ⊢;unfold kx at c ⊢;cases d:b[j]? with
    | none=>rw [d] at c;exact absurd rfl c
    | some x=>rw [r] at d;exact vb.lt e d
  rw [q];simp
 refine Tc (x:=(1,((0,(0,2)),()))) (Un (s1:=(0,(0,1))) (s2:=(0,(0,2))) ?_ ?_ rfl) rfl
 ·refine (ZQ 0 rfl rfl rfl).trans ?_;rw [Sp];by_cases h:(i:Int)>0
  ·rw [if_pos h];obtain ⟨f,l⟩ : ∃ f,i=f+1:=⟨i-1,by omega⟩;have m:f<a.length:=by have:=I.ia;omega
   have d:a[f]? = some a[f]:=by simp [m]
   refine (Vv 0 rfl (x:=a) rfl).trans ((Vv f ?_ d).trans ?_)
   ·rw [SB (by have:=va.len;have:=I.ia;omega)];omega
   rw [cv,SL];show bd (US (0,(wn (kx a i) (kx b j):Int))) _=_;rw [cu,SL,fH,SL,Sp,if_neg (s l d)];rfl
  ·rw [if_neg h];rfl
 ·refine (ZQ 1 rfl rfl rfl).trans ?_;rw [Sp];by_cases h:(j:Int)>0
  ·rw [if_pos h];obtain ⟨j',n⟩ : ∃ j',j=j'+1:=⟨j-1,by omega⟩;have o:j'<b.length:=by have:=I.jb;omega
   have e:b[j']? = some b[j']:=by simp [o]
   refine (Vv 1 rfl (x:=b) rfl).trans ((Vv j' ?_ e).trans ?_)
   ·rw [SB (by have:=vb.len;have:=I.jb;omega)];omega
   rw [cv,SL];show bd (US (1,(wn (kx a i) (kx b j):Int))) _=_;rw [cu,SL,fH,SL,Sp,if_neg (t n e)];rfl
  ·rw [if_neg h];rfl
end
end
section
open Go Go.Proofs.YtfilfloanndddaaGreat.Sv
theorem Wf {l:List S8} {i:Nat} {x:S8} (h:l[i]? = some x):kx l i=(x.1,false):=by unfold kx;rw [h]
theorem Ys {l:List S8} {i:Nat} (h:l[i]? = none):kx l i=([],true):=by unfold kx;rw [h]
theorem ZR {l:List S8} (v:VL l) {i:Nat} {x:S8} (h:l[i]? = some x):(kx l (i+1)).2=true\/Rz (kx l (i+1)).1 x.1=false:=by
 cases a:l[i+1]? with
 | none=>rw [Ys a];exact .inl rfl
 | some y=>rw [Wf a];exact .inr (Us (v.lt h a))
theorem YC {α β:Type} {n:Int} {l:List α} {K:Nat->α->Option β} (k:Nat) {x:α} (c:n=(k:Int)) (b:l[k]? = some x):RX n (λa=>gd (KC a (AS l)) λ_=>ix l a λd=>K a d)=K k x:=by
 subst c;rw [S9,SR,if_pos (show k<AS l from (List.getElem?_eq_some_iff.1 b).1),Sb b]
section
variable {a b:List S8} (va:VL a) (vb:VL b)
include va vb
theorem ki {i j:Nat} (I:Inv a b i j) {x:S8} (c:a[i]? = some x) (g:W8 a b i j=true):UN (Yg a b i j)=some (x,(0,(Yg a b (i+1) j,0))):=by
 obtain ⟨f,l⟩:=eM g;have hi:=(List.getElem?_eq_some_iff.1 c).1;have n:=va.len;have e:(wk (kx a i) (kx b j)).2=false:=by rw [f,Wf c]
 obtain ⟨m,h⟩:=XO (p:=kx a i) (q:=kx b j) (k:=kx a (i+1)) (UB _ _) (UB _ _) (UB _ _) e (by rw [f,Wf c];exact ZR va c)
 have d:rk (kx a i) (kx b j) (kx a (i+1))=(kx a (i+1),kx b j):=by
  unfold rk;unfold W8 at g;rw [if_pos g]
 rw [d] at h;unfold UN;rw [YM va vb I,SL,Ss,if_pos rfl];unfold TP TW;refine Tc (X8 (show 2<=1048576 by omega)) (Tc (X8 (show 2<=1048576 by omega)) ?_);rw [show (Yg a b i j).2.2=Tt (kx a i) (kx b j) from rfl,XJ (UB _ _) (UB _ _),if_neg (by simp [e]),SL,Ss,if_pos rfl,l];refine (YC 0 rfl (x:=a) rfl).trans ((YC 0 rfl (x:=(i:Int)) rfl).trans ((Vv i rfl c).trans ((YC 0 rfl (x:=(i:Int)) rfl).trans ((YC 0 rfl (x:=(i:Int)) rfl).trans ((YC 0 rfl (x:=a) rfl).trans ((YC 0 rfl (x:=Rl .i64 (i:Int) 1) rfl).trans ?_))))));rw [TK (by omega),Wt (show i+1<=a.length by omega),SL,h,SL];rfl
theorem kj {i j:Nat} (I:Inv a b i j) {y:S8} (c:b[j]? = some y) (g:W8 a b i j=false):UN (Yg a b i j)=some (y,(1,(Yg a b i (j+1),0))):=by
 obtain ⟨f,l⟩:=eO g;have hi:=(List.getElem?_eq_some_iff.1 c).1;have n:=vb.len;have e:(wk (kx a i) (kx b j)).2=false:=by rw [f,Wf c]
 obtain ⟨m,h⟩:=XO (p:=kx a i) (q:=kx b j) (k:=kx b (j+1)) (UB _ _) (UB _ _) (UB _ _) e (by rw [f,Wf c];exact ZR vb c)
 have d:rk (kx a i) (kx b j) (kx b (j+1))=(kx a i,kx b (j+1)):=by
  unfold rk;unfold W8 at g;rw [if_neg (by simp [g])]
 rw [d] at h;unfold UN;rw [YM va vb I,SL,Ss,if_pos rfl];unfold TP TW;refine Tc (X8 (show 2<=1048576 by omega)) (Tc (X8 (show 2<=1048576 by omega)) ?_);rw [show (Yg a b i j).2.2=Tt (kx a i) (kx b j) from rfl,XJ (UB _ _) (UB _ _),if_neg (by simp [e]),SL,Ss,if_pos rfl,l];refine (YC 1 rfl (x:=b) rfl).trans ((YC 1 rfl (x:=(j:Int)) rfl).trans ((Vv j rfl c).trans ((YC 1 rfl (x:=(j:Int)) rfl).trans ((YC 1 rfl (x:=(j:Int)) rfl).trans ((YC 1 rfl (x:=b) rfl).trans ((YC 1 rfl (x:=Rl .i64 (j:Int) 1) rfl).trans ?_))))));rw [TK (by omega),Wt (show j+1<=b.length by omega),SL,h,SL];rfl
def YV (a b:List S8) (n:Nat):TC:=Yg a b (TM a b n).1 (TM a b n).2
def Zu (a b:List S8) (n:Nat):Nat:=if W8 a b (TM a b n).1 (TM a b n).2=true then 0 else 1
theorem Zi {n:Nat} {x:S8} (h:n<a.length+b.length) (c:ZM a b n=some x):UN (YV a b n)=some (x,((Zu a b n:Int),(YV a b (n+1),0))):=by
 obtain ⟨d,hs⟩:=Vw va vb (n:=n) (by omega);unfold YV Zu;rw [show TM a b (n+1)=if W8 a b (TM a b n).1 (TM a b n).2=true then ((TM a b n).1+1,(TM a b n).2) else ((TM a b n).1,(TM a b n).2+1) from rfl]
 unfold ZM at c;cases g:W8 a b (TM a b n).1 (TM a b n).2 with
 | true=>rw [if_pos g] at c;rw [ki va vb d c g];simp
 | false=>rw [if_neg (by simp [g])] at c;rw [kj va vb d c g];simp
end
theorem Zv {s:UH} (b:s.2.1.length<=32) (a:s.1=false->s.2.1=[]):VP s=some 0:=by
 unfold VP;rw [YS,SL,if_neg (by omega),Ss,if_pos rfl,Tn,Sx];cases h:s.1 with
 | true=>rfl
 | false=>rw [if_neg (by simp),Tn,Vm,if_pos (a h)]
def keep (s:UH) (x:S8):Bool := !(s.1&&decide (x.1=s.2.1)) && !(s.2.2&&x.2.2.1)
theorem d8 {s:UH} {x:S8} (e:s.2.1.length<=32) (f:s.1=false->s.2.1=[]) (g:kE x=0) (a:s.1=true->Rz x.1 s.2.1=false):UR (s,x)=some (keep s x,((true,(x.1,s.2.2)),0)):=by
 unfold UR keep;rw [Zv e f,SL,Ss,if_pos rfl,Wl,g,SL,Ss,if_pos rfl];obtain ⟨s1,s2,c⟩:=s;obtain ⟨h,i,d,j⟩:=x;simp only at a ⊢;cases s1 with
 | true =>
  have:=a rfl;simp only [R5,Rd,Wj,Vm,this,Bool.false_eq_true,if_false];by_cases b:h=s2
  ·simp [b]
  ·simp only [b,if_false,decide_false];cases c<;>cases d<;>rfl
 | false =>
  simp only [R5,Rd];cases c<;>cases d<;>rfl
def Vl:UH->List S8->List S8
 | _,[]=>[]
 | s,x::l=>(if keep s x=true then [x] else [])++Vl (true,(x.1,s.2.2)) l
theorem XX : ∀ (s:UH) (l:List S8),(Vl s l).length<=l.length
 | _,[]=>Nat.le_refl _
 | s,x::l=>by
  have:=XX (true,(x.1,s.2.2)) l;unfold Vl;by_cases h:keep s x=true
  ·rw [if_pos h];simp;omega
  ·rw [if_neg h];simp;omega
def Y6:UH->List S8->Prop
 | _,[]=>True
 | s,x::l=>kE x=0/\(s.1=true->Rz x.1 s.2.1=false)/\Y6 (true,(x.1,s.2.2)) l
theorem Ze {x:S8} (h:kE x=0):x.1.length<=32:=by
 unfold kE at h;by_cases hh:x.1.length>32\/x.2.1.length>64
 ·rw [if_pos hh] at h;cases h
 ·omega
theorem U5 {α β σ S:Type} {l:List α} (mk:Nat->σ->S) (Inv:List α->Nat->σ->Prop) (F:List α->Nat->σ->β) {f:S->Option (LR S β)} {s:S} (a:σ) (p:s=mk 0 a) (z:l.length<=9223372036854775807) (hi:Inv l 0 a)
  (w : ∀ a,Inv [] l.length a->f (mk l.length a)=some (.dn (F [] l.length a)))
  (hc : ∀ k x m a,l.drop k=x::m->l[k]? = some x->k<l.length->Inv (x::m) k a -> ∃ b,f (mk k a)=some (.nx (mk (k+1) b))/\Inv m (k+1) b/\F (x::m) k a=F m (k+1) b):loop f s=some (F l 0 a):=by
 subst p
 have e : ∀ (m:List α) (k n:Nat) (a:σ),l.drop k=m->k<=l.length->m.length<n->Inv m k a->IJ n f (mk k a)=some (F m k a):=by
  intro m
  induction m with
  | nil =>
   intro k n a c u d hi;obtain ⟨n,rfl⟩ : ∃ j,n=j+1:=⟨n-1,by omega⟩
   have h:k=l.length:=by
    have:=congrArg List.length c;simp at this;omega
   subst h;exact Tl (w a hi)
  | cons x m y =>
   intro k n a c u d hi;obtain ⟨n,rfl⟩ : ∃ j,n=j+1:=⟨n-1,by omega⟩
   have o:l[k]? = some x:=by
    have:=congrArg List.head? c;rw [List.head?_drop] at this;simpa using this
   have g:k<l.length:=(List.getElem?_eq_some_iff.1 o).1
   have i:l.drop (k+1)=m:=by
    have:=congrArg List.tail c;rw [List.tail_drop] at this;simpa using this
   obtain ⟨b,q,r,t⟩:=hc k x m a c o g hi;rw [Tf q,t];exact y (k+1) n b i (by omega) (by simp at d;omega) r
 exact e l 0 _ a (by simp) (by omega) (by omega) hi
def Ua:UH->List S8->UH
 | s,[]=>s
 | s,x::l=>Ua (true,(x.1,s.2.2)) l
theorem aX {β:Type} {out:List S8} {n:Nat} (h:out.length<=n) (a:n<=20000) (x:S8) (k:Unit->Option β):gd (CD (BD (AS out) (AS [x])) 1048576) k=k ():=Tw (by simp only [BD,AS,List.length_cons,List.length_nil];omega) k
theorem dQ {l:List S8} {b:Bool} (B:l.length<=20000) (A:Y6 (false,([],b)) l):Vb (l,b)=some (Vl (false,([],b)) l,(0,0)):=by
 unfold Vb Um;simp only [TH,TF];rw [Sp,if_neg (by omega),SL]
 rw [U5 (l:=l) (σ:=UH×List S8) (s:=(0,(0,(0,((false,([],b)),[]))))) (λk a=>((0:Int),((k:Int),((0:Int),a))))
  (λm k a=>Y6 a.1 m/\a.1.2.1.length<=32/\(a.1.1=false->a.1.2.1=[])/\a.2.length<=k/\k+m.length=l.length)
  (λm k a=>(1,((0,((l.length:Int),(0,(Ua a.1 m,a.2++Vl a.1 m)))),()))) ((false,([],b)),[]) rfl (by omega) ⟨A,by simp,λ_=>rfl,by simp,by simp⟩ ?_ ?_,SL]
 ·simp;rfl
 ·intro a _;simp only;rw [re,Rd];simp [Ua,Vl]
 ·rintro k x m ⟨s,out⟩ C r z ⟨⟨d,e,g⟩,i,j,n,o⟩;simp only at d e g i j n ⊢;refine ⟨((true,(x.1,s.2.2)),out++if keep s x=true then [x] else []),?_,⟨g,Ze d,(λh=>by cases h),?_,by simp at o;omega⟩,?_⟩
  ·rw [rl z,R5,S9,Sb r,Zv i j,SL,Ss,if_pos rfl,Wl,d,SL,Ss,if_pos rfl];unfold keep Ta;obtain ⟨s1,s2,t⟩:=s;obtain ⟨f,u,c,w⟩:=x;simp only [SL,TL r (show l.length<=9223372036854775807 by omega)] at e ⊢;have q : ∀ {β:Type} (k:Unit->Option β),gd (CD (BD out.length [(f,(u,(c,w)))].length) 1048576) k=k ():=λk=>aX n (by simp at o;omega) (f,(u,(c,w))) k;cases s1 with
   | true =>
    have y:=e rfl;simp only [R5,Rd,Vm,y,q];by_cases p:f=s2
    ·simp [p]
    ·simp only [p,if_false,decide_false];cases t<;>cases c<;>simp [R5,Rd,Ik]
   | false =>
    simp only [R5,Rd,q];cases t<;>cases c<;>simp [R5,Rd,Ik]
  ·split<;>simp<;>omega
  ·simp only [Ua,Vl,List.append_assoc]
end
section
open Go Go.Proofs.YtfilfloanndddaaGreat.Sv
theorem ay : ∀ (l:List S8) (s:UH) (x:S8),Vl s (l++[x])=Vl s l++(if keep (Ua s l) x=true then [x] else [])
 | [],s,x=>by
  show (if keep s x=true then [x] else [])++[]=[]++(if keep s x=true then [x] else [])
  rw [List.append_nil,List.nil_append]
 | y::l,s,x=>by
  show (if keep s y=true then [y] else [])++Vl _ (l++[x])=((if keep s y=true then [y] else [])++Vl _ l)++_
  rw [ay l,List.append_assoc];rfl
theorem YK : ∀ (l:List S8) (s:UH) (x:S8),Ua s (l++[x])=(true,(x.1,(Ua s l).2.2))
 | [],s,x=>rfl
 | y::l,s,x=>by simp only [List.cons_append,Ua,YK l]
theorem Wg : ∀ (l:List S8) (s:UH),(Ua s l).2.2=s.2.2
 | [],s=>rfl
 | y::l,s=>by rw [Ua,Wg l]
theorem bW : ∀ (l:List S8) (s:UH) (x:S8),Y6 s l->kE x=0->((Ua s l).1=true->Rz x.1 (Ua s l).2.1=false)->Y6 s (l++[x])
 | [],s,x,_,a,b=>⟨a,b,trivial⟩
 | y::l,s,x,⟨a,b,c⟩,d,h5=>⟨a,b,bW l _ x c d h5⟩
theorem aD : ∀ (l:List S8) (s:UH),Y6 s l->s.2.1.length<=32->(s.1=false->s.2.1=[])->(Ua s l).2.1.length<=32/\((Ua s l).1=false->(Ua s l).2.1=[])
 | [],s,_,h1,h2=>⟨h1,h2⟩
 | y::l,s,⟨a,_,b⟩,_,_=>aD l _ b (Ze a) (λh=>by cases h)
abbrev s0 (a:Bool):UH:=(false,([],a))
def U6 (a b:List S8) (c:Bool) (n:Nat):W3:=(YV a b n,(Ua (s0 c) (TU a b n),(Vl (s0 c) (TU a b n),(n:Int))))
def XD (a b:List S8):Nat->List Int
 | 0=>[]
 | n+1=>XD a b n++[(Zu a b n:Int)]
theorem ZA (a b:List S8) : ∀ n,(XD a b n).length=n
 | 0=>rfl
 | n+1=>by simp [XD,ZA a b n]
theorem Xe {S β:Type} {f:S->Option (LR S β)} {r:β} (mk:Nat->S) (a n:Nat) {s:S} (b:s=mk a) (d:a<=n) (e:n<18446744073709551616) (hs : ∀ k,a<=k->k<n->f (mk k)=some (.nx (mk (k+1)))) (c:f (mk n)=some (.dn r)):loop f s=some r:=by
 have h:=Zh (f:=f) (r:=r) (λk=>mk (a+k)) (n-a) (s:=s) b (by omega) (λk d=>hs (a+k) (by omega) (by omega)) (by show f (mk (a+(n-a)))=_;rw [show a+(n-a)=n by omega];exact c);exact h
theorem ZX (l:List S8) (h:l.length<=100000):VQ (l,l)=some true:=by
 unfold VQ;simp only [TH,TF]
 rw [Ss,if_pos rfl,Yv (l:=l) (σ:=Unit) (s:=(false,0)) (λk _=>(false,(k:Int))) (λ_ _ _=>some (1,((false,(l.length:Int)),()))) () rfl (by omega) (λc=>by
  simp only;rw [re];rfl) (λk x m c _ a b => .inl ⟨(),by
   simp only;rw [rl b,R5,S9,Sb a,S9,Sb a,Xx,Xx,XL,show RR x.2.2.2 x.2.2.2=true by unfold RR;simp,show Hf (NX true (NX true (NX true (NX true true))))=false from rfl,Rd,TL a (by omega)],rfl⟩),SL]
 rfl
section
variable {a b:List S8} (va:VL a) (vb:VL b)
include va vb
theorem WM {n:Nat} {x:S8} (c:ZM a b n=some x):TU a b (n+1)=TU a b n++[x]:=by
 show (match ZM a b n with
  | some x=>TU a b n++[x]
  | none=>TU a b n)=_
 rw [c]
theorem Wo (d:Bool) : ∀ {n:Nat},n<=a.length+b.length->Y6 (s0 d) (TU a b n)
 | 0,_=>trivial
 | n+1,h=>by
  obtain ⟨x,c,_⟩:=VT va vb (n:=n) (by omega);rw [WM va vb c];refine bW _ _ _ (Wo d (by omega)) (fG va vb c) λ_ => ?_;cases n with
  | zero=>rename_i f;cases f
  | succ m =>
   obtain ⟨y,e,_⟩:=VT va vb (n:=m) (by omega);rw [WM va vb e,YK];exact dG va vb (by omega) e c
theorem cE (c:Bool) {n:Nat} (h:n<=a.length+b.length):(Ua (s0 c) (TU a b n)).2.1.length<=32/\((Ua (s0 c) (TU a b n)).1=false->(Ua (s0 c) (TU a b n)).2.1=[]) :=
 aD _ _ (Wo va vb c h) (by simp) (λ_=>rfl)
theorem lF {n:Nat} (h:n=a.length+b.length):(wk (kx a (TM a b n).1) (kx b (TM a b n).2)).2=true:=by
 obtain ⟨c,hs⟩:=Vw va vb (n:=n) (by omega);have d:=c.ia;have e:=c.jb;rw [Ys (List.getElem?_eq_none (by omega)),Ys (List.getElem?_eq_none (by omega))];rfl
theorem lG {n:Nat} {x:S8} (c:ZM a b n=some x):(wk (kx a (TM a b n).1) (kx b (TM a b n).2)).2=false/\wn (kx a (TM a b n).1) (kx b (TM a b n).2)=Zu a b n:=by
 unfold ZM at c;unfold Zu;cases g:W8 a b (TM a b n).1 (TM a b n).2 with
 | true=>rw [if_pos g] at c;rw [(eM g).1,(eM g).2,Wf c];exact ⟨rfl,rfl⟩
 | false=>rw [if_neg (by simp [g])] at c;rw [(eO g).1,(eO g).2,Wf c];exact ⟨rfl,rfl⟩
theorem kh:Wz [a,b]=some (TU a b (a.length+b.length),(XD a b (a.length+b.length),0)):=by
 have u:=va.len;have w:=vb.len;unfold Wz;rw [Ya va vb,SL,Ss,if_pos rfl];refine Eq.trans (b:=bd (loop _ (0,[([],false),([],false)])) _) rfl ?_;refine Tc (x:=(0,((2,[kx a 0,kx b 0]),()))) (Un (s1:=(1,[kx a 0,([],false)])) (s2:=(2,[kx a 0,kx b 0])) ?_ ?_ rfl) ?_
 ·show bd (Tj (a,((0:Nat):Int))) _=_;rw [Wt (by omega)];rfl
 ·show bd (Tj (b,((0:Nat):Int))) _=_;rw [Wt (by omega)];rfl
 rw [show ((0:Nat),(((2:Int),[kx a 0,kx b 0]),())).2.1.2=[kx a 0,kx b 0] from rfl,Y7 (UB _ _) (UB _ _),SL]
 refine Tc (x:=(0,((TU a b (a.length+b.length),(XD a b (a.length+b.length),((),([((TM a b (a.length+b.length)).1:Int),((TM a b (a.length+b.length)).2:Int)],Tt (kx a (TM a b (a.length+b.length)).1) (kx b (TM a b (a.length+b.length)).2))))),())))
  (Xe (λk=>(TU a b k,(XD a b k,((),([((TM a b k).1:Int),((TM a b k).2:Int)],Tt (kx a (TM a b k).1) (kx b (TM a b k).2)))))) 0 (a.length+b.length) rfl (by omega) (by omega) (λk _ r => ?_) ?_) rfl
 ·obtain ⟨x,c,_⟩:=VT va vb (n:=k) r;obtain ⟨j,s⟩:=lG va vb c;obtain ⟨t,hs⟩:=Vw va vb (n:=k) (by omega);have h:(TU a b k).length=k:=Ur va vb (by omega);have i:=ZA a b k;simp only;rw [XJ (UB _ _) (UB _ _),if_neg (by simp [j]),SL,Ss,if_pos rfl,s];rw [WM va vb c];unfold ZM at c;rw [show XD a b (k+1)=XD a b k++[(Zu a b k:Int)] from rfl];unfold Zu;rw [show TM a b (k+1)=if W8 a b (TM a b k).1 (TM a b k).2=true then ((TM a b k).1+1,(TM a b k).2) else ((TM a b k).1,(TM a b k).2+1) from rfl]
  have l : ∀ {β:Type} (y:S8) (q:Unit->Option β),gd (CD (BD (AS (TU a b k)) (AS [y])) 1048576) q=q ():=λy q=>Tw (by simp only [BD,AS,h,List.length_cons,List.length_nil];omega) q;have o : ∀ {β:Type} (y:Int) (q:Unit->Option β),gd (CD (BD (AS (XD a b k)) (AS [y])) 1048576) q=q ():=λy q=>Tw (by simp only [BD,AS,i,List.length_cons,List.length_nil];omega) q;cases g:W8 a b (TM a b k).1 (TM a b k).2 with
  | true =>
   rw [if_pos g] at c;obtain ⟨d,_⟩:=eM g;obtain ⟨m,f⟩:=XO (p:=kx a (TM a b k).1) (q:=kx b (TM a b k).2) (k:=kx a ((TM a b k).1+1)) (UB _ _) (UB _ _) (UB _ _) j (by rw [d,Wf c];exact ZR va c)
   have e:rk (kx a (TM a b k).1) (kx b (TM a b k).2) (kx a ((TM a b k).1+1))=(kx a ((TM a b k).1+1),kx b (TM a b k).2):=by
    unfold rk;unfold W8 at g;rw [if_pos g]
   rw [e] at f;have hi:=(List.getElem?_eq_some_iff.1 c).1;simp only [if_true];refine (YC 0 rfl (x:=a) rfl).trans ((YC 0 rfl (x:=((TM a b k).1:Int)) rfl).trans ((Vv _ rfl c).trans ?_));rw [l,o];refine (YC 0 rfl (x:=((TM a b k).1:Int)) rfl).trans ((YC 0 rfl (x:=((TM a b k).1:Int)) rfl).trans ((YC 0 rfl (x:=a) rfl).trans ((YC 0 rfl (x:=Rl .i64 ((TM a b k).1:Int) 1) rfl).trans ?_)));rw [TK (by omega),Wt (by omega),SL,f,SL];rfl
  | false =>
   rw [if_neg (by simp [g])] at c;obtain ⟨d,_⟩:=eO g;obtain ⟨m,f⟩:=XO (p:=kx a (TM a b k).1) (q:=kx b (TM a b k).2) (k:=kx b ((TM a b k).2+1)) (UB _ _) (UB _ _) (UB _ _) j (by rw [d,Wf c];exact ZR vb c)
   have e:rk (kx a (TM a b k).1) (kx b (TM a b k).2) (kx b ((TM a b k).2+1))=(kx a (TM a b k).1,kx b ((TM a b k).2+1)):=by
    unfold rk;unfold W8 at g;rw [if_neg (by simp [g])]
   rw [e] at f;have hi:=(List.getElem?_eq_some_iff.1 c).1;simp only [Bool.false_eq_true,if_false];refine (YC 1 rfl (x:=b) rfl).trans ((YC 1 rfl (x:=((TM a b k).2:Int)) rfl).trans ((Vv _ rfl c).trans ?_));rw [l,o];refine (YC 1 rfl (x:=((TM a b k).2:Int)) rfl).trans ((YC 1 rfl (x:=((TM a b k).2:Int)) rfl).trans ((YC 1 rfl (x:=b) rfl).trans ((YC 1 rfl (x:=Rl .i64 ((TM a b k).2:Int) 1) rfl).trans ?_)));rw [TK (by omega),Wt (by omega),SL,f,SL];rfl
 ·simp only;rw [XJ (UB _ _) (UB _ _),if_pos (lF va vb rfl),SL,Ss,if_neg (by decide),Ss,if_neg (by decide)]
end
end
section
open Go Go.Proofs.YtfilfloanndddaaGreat.Sv
theorem cz {β:Type} {out:List S8} {n:Nat} (h:out.length<=n) (a:n<=20000) (x:S8) (k:Unit->Option β):gd (CD (BD out.length [x].length) 1048576) k=k ():=aX h a x k
section
variable {a b:List S8} (va:VL a) (vb:VL b)
include va vb
theorem W2 {n:Nat} (h:n<=a.length+b.length):(TU a b (a.length+b.length)).take n=TU a b n:=cJ va vb (Nat.le_refl _) h
theorem YB {n:Nat} {x:S8} (c:Bool) (d:ZM a b n=some x):Ua (s0 c) (TU a b (n+1))=(true,(x.1,c)):=by
 rw [WM va vb d,YK,Wg]
theorem cU (c:Bool) {n:Nat} (h:n<=a.length+b.length):Vu (U6 a b c n)=some 0:=by
 obtain ⟨e,hs⟩:=Vw va vb (n:=n) h;have i:=va.len;have j:=vb.len;have f:=XX (s0 c) (TU a b n);have g:(TU a b n).length=n:=Ur va vb h;unfold Vu;rw [show (U6 a b c n).1=Yg a b (TM a b n).1 (TM a b n).2 from rfl,YM va vb e,SL,Ss,if_pos rfl];refine Tc (x:=(0,((2,(n:Int)),()))) (Un (s1:=(1,((TM a b n).1:Int))) (s2:=(2,(n:Int))) ?_ ?_ rfl) ?_
 ·refine (ZQ 0 rfl rfl (x:=((TM a b n).1:Int)) rfl).trans ?_;show some (LR.nx ((1:Int),Rl .i64 0 ((TM a b n).1:Int)))=_;rw [R9 (by omega),Int.zero_add]
 ·refine (ZQ 1 rfl rfl (x:=((TM a b n).2:Int)) rfl).trans ?_;show some (LR.nx ((2:Int),Rl .i64 ((TM a b n).1:Int) ((TM a b n).2:Int)))=_;rw [R9 (by omega),show ((TM a b n).1:Int)+((TM a b n).2:Int)=(n:Int) by omega]
 simp only [TH,TF];rw [show (U6 a b c n).2.2.1=Vl (s0 c) (TU a b n) from rfl,show (U6 a b c n).2.2.2=(n:Int) from rfl,show (U6 a b c n).2.1=Ua (s0 c) (TU a b n) from rfl,Sp,if_neg (by omega),Sp,if_neg (by omega),Ss,if_pos rfl];rw [show (Yg a b (TM a b n).1 (TM a b n).2).1=[a,b] from rfl,kh va vb,SL,Ss,if_pos rfl,S9];rw [Tw (by rw [Ur va vb (Nat.le_refl _)];exact h),Tw (Nat.zero_le _)];rw [show Dy (TU a b (a.length+b.length)) 0 n=TU a b n from by unfold Dy;rw [List.drop_zero,Nat.sub_zero];exact W2 va vb h,Wg];rw [show (s0 c).2.2=c from rfl,dQ (by omega) (Wo va vb c h),SL,Ss,if_pos rfl];unfold Um;rw [SL,Sp];cases n with
 | zero =>
  rw [if_neg (by omega),ZX _ (by omega),SL,bw,Rd];show br (Hf (NX (Sv.beq false false) (NX (seq [] []) (NX (Sv.beq c c) true)))) _ _=_;rw [XL,XL,Xx];rfl
 | succ m =>
  obtain ⟨x,d,_⟩:=VT va vb (n:=m) (by omega);rw [if_pos (by omega),show Rp .i64 ((m+1:Nat):Int) 1=(m:Int) by rw [SB (by omega)];omega,S9];rw [Sb (x:=x) (by rw [Xf va vb (Nat.le_refl _) (by omega)];exact d),ZX _ (by omega),SL,bw,Rd,YB va vb c d];rw [XL,XL,Xx];rfl
theorem fC {n:Nat} (h:n<=a.length+b.length):WW (YV a b n)=some (((a.length+b.length-n:Nat):Int),0):=by
 obtain ⟨c,hs⟩:=Vw va vb (n:=n) h;have f:=va.len;have g:=vb.len;have d:=c.ia;have e:=c.jb;unfold WW;rw [show YV a b n=Yg a b (TM a b n).1 (TM a b n).2 from rfl,YM va vb c,SL,Ss,if_pos rfl];refine Tc (x:=(0,((2,((a.length+b.length-n:Nat):Int)),()))) (Un (s1:=(1,(a.length:Int)-((TM a b n).1:Int))) (s2:=(2,((a.length+b.length-n:Nat):Int))) ?_ ?_ rfl) rfl
 ·refine (ZQ 0 rfl rfl (x:=a) rfl).trans ((Vv 0 rfl (x:=((TM a b n).1:Int)) rfl).trans ?_);simp only [TH,TF];rw [SB (by omega)];show some (LR.nx ((1:Int),Rl .i64 0 ((a.length:Int)-((TM a b n).1:Int))))=_;rw [R9 (by omega),Int.zero_add]
 ·refine (ZQ 1 rfl rfl (x:=b) rfl).trans ((Vv 1 rfl (x:=((TM a b n).2:Int)) rfl).trans ?_);simp only [TH,TF];rw [SB (by omega)];show some (LR.nx ((2:Int),Rl .i64 ((a.length:Int)-((TM a b n).1:Int)) ((b.length:Int)-((TM a b n).2:Int))))=_;rw [R9 (by omega),show (a.length:Int)-((TM a b n).1:Int)+((b.length:Int)-((TM a b n).2:Int))=((a.length+b.length-n:Nat):Int) by omega]
theorem ZJ (c:Bool) {n:Nat} (h:n<=a.length+b.length):UC (U6 a b c n)=some (((a.length+b.length-n:Nat):Int),0):=by
 unfold UC;rw [cU va vb c h,SL,Ss,if_pos rfl,show (U6 a b c n).1=YV a b n from rfl,fC va vb h];rfl
theorem ZW (c:Bool) {n:Nat} {x:S8} (d:ZM a b n=some x):U6 a b c (n+1)=(YV a b (n+1),((true,(x.1,c)),(Vl (s0 c) (TU a b n)++(if keep (Ua (s0 c) (TU a b n)) x=true then [x] else []),((n+1:Nat):Int)))):=by
 unfold U6;rw [WM va vb d,YK,Wg,ay]
theorem Xy (c:Bool) {n:Nat} {x:S8} (h:n<a.length+b.length) (e:ZM a b n=some x):UR (Ua (s0 c) (TU a b n),x)=some (keep (Ua (s0 c) (TU a b n)) x,((true,(x.1,c)),0)):=by
 have d:=cE va vb c (n:=n) (by omega);rw [d8 d.1 d.2 (fG va vb e),Wg];intro g;cases n with
 | zero=>cases g
 | succ m =>
  obtain ⟨y,f,_⟩:=VT va vb (n:=m) (by omega);rw [YB va vb c f];exact dG va vb (by omega) f e
def lM (k:Int) (s:W3):Int×(Int×(List (List S8)×(List Int×(List TD×(List Int×(Int×(Bool×(Ww×(Bool×(List S8×Int)))))))))) :=
 (k,(0,(s.1.1,(s.1.2.1,(s.1.2.2.1,(s.1.2.2.2.1,(s.1.2.2.2.2,(s.2.1.1,(s.2.1.2.1,(s.2.1.2.2,(s.2.2.1,s.2.2.2)))))))))))
theorem aM (c:Bool) {n:Nat} (h:n<=a.length+b.length) {k:Nat}:UL (U6 a b c n,(k:Int))=some (U6 a b c (n+min k (a.length+b.length-n)),(((min k (a.length+b.length-n):Nat):Int),0)):=by
 have w:=va.len;have z:=vb.len;have d : ∀ m,m<=a.length+b.length->(Vl (s0 c) (TU a b m)).length<=m:=λm s=>by have:=XX (s0 c) (TU a b m);have:=Ur va vb s;omega
 obtain ⟨u,t⟩ : ∃ u,u=min k (a.length+b.length-n):=⟨_,rfl⟩
 have i:Sz (k:Int) ((a.length+b.length-n:Nat):Int)=(u:Int):=by
  unfold Sz;split<;>omega
 rw [<- t];unfold UL;rw [ZJ va vb c h,SL,Ss,if_pos rfl];simp only [i,TH,TF];rw [Sr,if_neg (by omega),show (U6 a b c n).2.2.2=(n:Int) from rfl,R9 (by omega),Sp,if_neg (by omega)];rw [show (U6 a b c n).2.2.1=Vl (s0 c) (TU a b n) from rfl,show (U6 a b c n).1=YV a b n from rfl,Tw (by have:=d n h;omega),Tw (show (YV a b n).2.1.length<=1048576 from (show 2<=1048576 by omega)),Sr];by_cases r:u=0
 ·rw [r,if_neg (by omega)];rfl
 rw [if_pos (by omega)];obtain ⟨x,o,_⟩:=VT va vb (n:=n) (by omega);rw [Zi va vb (by omega) o,SL,Ss,if_pos rfl,show (U6 a b c n).2.1=Ua (s0 c) (TU a b n) from rfl,Xy va vb c (by omega) o,SL,Ss,if_pos rfl]
 have q : ∀ j,1<=j->j<u -> ∃ y,ZM a b (n+j)=some y:=λj f g=>by
  obtain ⟨y,e,_⟩:=VT va vb (n:=n+j) (by omega);exact ⟨y,e⟩
 rw [Sx];have hS:=ZW va vb c o;cases p:keep (Ua (s0 c) (TU a b n)) x with
 | true =>
  rw [p] at hS;rw [if_pos rfl,cz (d n h) (by omega)];refine Tc (x:=(1,(lM u (U6 a b c (n+u)),()))) (Xe (λj=>lM j (U6 a b c (n+j))) 1 u ?_ (by omega) (by omega) (λj f g => ?_) ?_) ?_
  ·rw [hS,show Rl .i64 (n:Int) 1=((n+1:Nat):Int) from TK (by omega)];rfl
  ·obtain ⟨y,e⟩:=q j f g;show br (SW (j:Int) (u:Int)) _ _=_;rw [Sr,if_pos (by omega)];show bd (UN (YV a b (n+j))) _=_;rw [Zi va vb (by omega) e,SL,Ss,if_pos rfl];show bd (UR (Ua (s0 c) (TU a b (n+j)),y)) _=_;rw [Xy va vb c (by omega) e,SL,Ss,if_pos rfl,Sx,show n+(j+1)=n+j+1 by omega,ZW va vb c e];cases l:keep (Ua (s0 c) (TU a b (n+j))) y with
   | true =>
    rw [if_pos rfl,if_pos rfl];show gd (CD (BD (AS (Vl (s0 c) (TU a b (n+j)))) (AS [y])) 1048576) _=_;rw [aX (d _ (by omega)) (by omega)];show some (LR.nx (Rl .i64 (j:Int) 1,_))=_;unfold lM;simp only [TK (show j+1<=9223372036854775807 by omega),Ik];rw [show Rl .i64 (U6 a b c (n+j)).2.2.2 1=((n+j+1:Nat):Int) from TK (by omega)];rfl
   | false =>
    rw [if_neg (by simp),if_neg (by simp)];show some (LR.nx (Rl .i64 (j:Int) 1,_))=_;unfold lM;simp only [TK (show j+1<=9223372036854775807 by omega)];rw [show Rl .i64 (U6 a b c (n+j)).2.2.2 1=((n+j+1:Nat):Int) from TK (by omega),List.append_nil];rfl
  ·show br (SW (u:Int) (u:Int)) _ _=_;rw [Sr,if_neg (by omega)]
  ·rfl
 | false =>
  rw [p] at hS;rw [if_neg (by simp)];refine Tc (x:=(1,(lM u (U6 a b c (n+u)),()))) (Xe (λj=>lM j (U6 a b c (n+j))) 1 u ?_ (by omega) (by omega) (λj f g => ?_) ?_) ?_
  ·rw [hS,show Rl .i64 (n:Int) 1=((n+1:Nat):Int) from TK (by omega),if_neg (by simp),List.append_nil];rfl
  ·obtain ⟨y,e⟩:=q j f g;show br (SW (j:Int) (u:Int)) _ _=_;rw [Sr,if_pos (by omega)];show bd (UN (YV a b (n+j))) _=_;rw [Zi va vb (by omega) e,SL,Ss,if_pos rfl];show bd (UR (Ua (s0 c) (TU a b (n+j)),y)) _=_;rw [Xy va vb c (by omega) e,SL,Ss,if_pos rfl,Sx,show n+(j+1)=n+j+1 by omega,ZW va vb c e];cases l:keep (Ua (s0 c) (TU a b (n+j))) y with
   | true =>
    rw [if_pos rfl,if_pos rfl];show gd (CD (BD (AS (Vl (s0 c) (TU a b (n+j)))) (AS [y])) 1048576) _=_;rw [aX (d _ (by omega)) (by omega)];show some (LR.nx (Rl .i64 (j:Int) 1,_))=_;unfold lM;simp only [TK (show j+1<=9223372036854775807 by omega),Ik];rw [show Rl .i64 (U6 a b c (n+j)).2.2.2 1=((n+j+1:Nat):Int) from TK (by omega)];rfl
   | false =>
    rw [if_neg (by simp),if_neg (by simp)];show some (LR.nx (Rl .i64 (j:Int) 1,_))=_;unfold lM;simp only [TK (show j+1<=9223372036854775807 by omega)];rw [show Rl .i64 (U6 a b c (n+j)).2.2.2 1=((n+j+1:Nat):Int) from TK (by omega),List.append_nil];rfl
  ·show br (SW (u:Int) (u:Int)) _ _=_;rw [Sr,if_neg (by omega)]
  ·rfl
end
end
section
open Go Go.Proofs.YtfilfloanndddaaGreat.Sv
theorem WL {α β σ S:Type} {l:List α} (mk:Nat->σ->S) (I:List α->Nat->σ->Prop) (Q:β->Prop) {f:S->Option (LR S β)} {s:S} (a:σ) (t:s=mk 0 a) (z:l.length<=9223372036854775807) (hi:I l 0 a)
  (w : ∀ a,I [] l.length a -> ∃ r,f (mk l.length a)=some (.dn r)/\Q r)
  (hc : ∀ k x m a,l.drop k=x::m->l[k]? = some x->k<l.length->I (x::m) k a->(∃ b,f (mk k a)=some (.nx (mk (k+1) b))/\I m (k+1) b) \/ ∃ r,f (mk k a)=some (.dn r)/\Q r) : ∃ r,loop f s=some r/\Q r:=by
 subst t
 have h : ∀ (m:List α) (k n:Nat) (a:σ),l.drop k=m->k<=l.length->m.length<n->I m k a -> ∃ r,IJ n f (mk k a)=some r/\Q r:=by
  intro m
  induction m with
  | nil =>
   intro k n a e u g hi;obtain ⟨n,rfl⟩ : ∃ j,n=j+1:=⟨n-1,by omega⟩
   have o:k=l.length:=by
    have:=congrArg List.length e;simp at this;omega
   subst o;obtain ⟨r,c,d⟩:=w a hi;exact ⟨r,Tl c,d⟩
  | cons x m y =>
   intro k n a e u g hi;obtain ⟨n,rfl⟩ : ∃ j,n=j+1:=⟨n-1,by omega⟩
   have q:l[k]? = some x:=by
    have:=congrArg List.head? e;rw [List.head?_drop] at this;simpa using this
   have i:k<l.length:=(List.getElem?_eq_some_iff.1 q).1
   have p:l.drop (k+1)=m:=by
    have:=congrArg List.tail e;rw [List.tail_drop] at this;simpa using this
   rcases hc k x m a e q i hi with ⟨b,c,d⟩ | ⟨r,c,d⟩
   ·rw [Tf c];exact y (k+1) n b p (by omega) (by simp at g;omega) d
   ·exact ⟨r,Tl c,d⟩
 exact h l 0 _ a (by simp) (by omega) (by omega) hi
theorem Xd {α:Type} (l m:List α) (i:l.length=m.length) (n:l.length<=9223372036854775806) {f:(Int×Bool)->Option (LR (Int×Bool) (Nat×((Int×Bool)×Unit)))}
  (hs : ∀ (k:Nat) x y,l[k]? = some x->m[k]? = some y->(x=y->f ((k:Int),false)=some (.nx (((k+1:Nat):Int),false)))/\(x≠y->f ((k:Int),false)=some (.dn (0,(((k:Int),false),())))))
  (g:f ((l.length:Int),false)=some (.dn (1,(((l.length:Int),false),())))) :
  ∃ r,loop f (0,false)=some r/\((l=m/\r.1=1)\/(l≠m/\r.1=0/\r.2.1.2=false)):=by
 refine WL (l:=l) (σ:=Unit) (λk _=>((k:Int),false)) (λt k _=>t=l.drop k/\l.take k=m.take k) _ () rfl (by omega) ⟨by simp,by simp⟩ (λj h => ?_) (λk x t j d b o h => ?_)
 ·refine ⟨_,g,.inl ⟨?_,rfl⟩⟩;have:=h.2;rw [List.take_length,i,List.take_length] at this;exact this
 ·have c:k<m.length:=by omega
  have a:m[k]? = some m[k]:=by simp [c]
  by_cases e:x=m[k]
  ·refine .inl ⟨(),(hs k x m[k] b a).1 e,?_,?_⟩
   ·have:=congrArg List.tail d;rw [List.tail_drop] at this;simp at this;exact this.symm
   ·rw [List.take_add_one,List.take_add_one,h.2,b,a,e]
  ·refine .inr ⟨_,(hs k x m[k] b a).2 e,.inr ⟨?_,rfl,rfl⟩⟩;intro e2;subst e2;rw [b] at a;exact e (Option.some.inj a)
theorem beq_eq (a b:Bool):Sv.beq a b=decide (a=b):=by cases a<;>cases b<;>rfl
theorem VS (a b:Int):RR a b=decide (a=b):=by
 unfold RR;by_cases h:a=b<;>simp [h]
theorem Xj (p q:Prop) [Decidable p] [Decidable q]:NX (decide p) (decide q)=decide (p/\q):=by unfold NX;simp
theorem Uo (p:Prop) [Decidable p]:Hf (decide p)=decide (¬ p):=by unfold Hf;simp
theorem Yj (a:Bool):NX a true=a:=by cases a<;>rfl
theorem dY (l m:List TD) (s:l.length<=9223372036854775806):TS (l,m)=some (decide (l=m)):=by
 unfold TS;simp only [TH,TF];rw [Ss];by_cases b:(l.length:Int)=(m.length:Int)
 ·rw [if_pos b];have c:l.length=m.length:=by omega
  obtain ⟨r,p,a⟩:=Xd l m c s (f:=λs0=>br (SW s0.1 (l.length:Int)) (λ_=>RX s0.1 λt=>ix l t λn=>RX s0.1 λw=>ix m w λo=>br (Hf (NX (seq n.1 o.1) (NX (Sv.beq n.2 o.2) true))) (λ_=>some (.dn ((0,((s0.1,false),()))))) λ_=>some (.nx (Rl .i64 s0.1 1,s0.2))) λ_=>some (.dn ((1,(s0,()))))) (λk x y d j=>by
    have i:=(List.getElem?_eq_some_iff.1 d).1
    have g : ∀ {β:Type} (u v:Unit->Option β),br (Hf (NX (seq x.1 y.1) (NX (Sv.beq x.2 y.2) true))) u v=if x=y then v () else u ():=by
     intro β u v;rw [Yj,Ye,beq_eq,Xj,Uo,Ut];by_cases e:x=y
     ·subst e;simp
     ·rw [if_pos (λh=>e (Prod.ext h.1 h.2)),if_neg e]
    constructor
    ·intro e;simp only;rw [rl i,R5,S9,Sb d,S9,Sb j,g,if_pos e,TK (by omega)]
    ·intro e;simp only
     rw [rl i,R5,S9,Sb d,S9,Sb j,g,if_neg e]) (by simp only;rw [re];rfl)
  refine Tc p ?_;rcases a with ⟨e,a⟩ | ⟨e,a,q⟩
  ·rw [SM,a];simp [e]
  ·rw [SM,a];simp [e,q]
 ·rw [if_neg b];have : ¬ l=m:=λe=>b (by rw [e]);simp [this]
theorem XW (l m:List Int) (n:l.length<=9223372036854775806):TJ (l,m)=some (decide (l=m)):=by
 unfold TJ;simp only [TH,TF];rw [Ss];by_cases b:(l.length:Int)=(m.length:Int)
 ·rw [if_pos b];have c:l.length=m.length:=by omega
  obtain ⟨r,i,a⟩:=Xd l m c n (f:=λs0=>br (SW s0.1 (l.length:Int)) (λ_=>RX s0.1 λo=>ix l o λq=>RX s0.1 λp=>ix m p λs=>br (RT q s) (λ_=>some (.dn ((0,((s0.1,false),()))))) λ_=>some (.nx (Rl .i64 s0.1 1,s0.2))) λ_=>some (.dn ((1,(s0,()))))) (λk x y d h=>by
    have g:=(List.getElem?_eq_some_iff.1 d).1;constructor
    ·intro e;simp only;rw [rl g,R5,S9,Sb d,S9,Sb h,Ss,if_pos e,TK (by omega)]
    ·intro e;simp only
     rw [rl g,R5,S9,Sb d,S9,Sb h,Ss,if_neg e]) (by simp only;rw [re];rfl)
  refine Tc i ?_;rcases a with ⟨e,a⟩ | ⟨e,a,j⟩
  ·rw [SM,a];simp [e]
  ·rw [SM,a];simp [e,j]
 ·rw [if_neg b];have : ¬ l=m:=λe=>b (by rw [e]);simp [this]
theorem aq {β:Type} (x y:S8) (u v:Unit->Option β):br (Hf (NX (seq x.1 y.1) (NX (seq x.2.1 y.2.1) (NX (Sv.beq x.2.2.1 y.2.2.1) (NX (RR x.2.2.2 y.2.2.2) true))))) u v=if x=y then v () else u ():=by
 rw [Yj,Ye,Ye,beq_eq,VS,Xj,Xj,Xj,Uo,Ut];by_cases e:x=y
 ·subst e;simp
 ·rw [if_pos (λh=>e (Prod.ext h.1 (Prod.ext h.2.1 (Prod.ext h.2.2.1 h.2.2.2)))),if_neg e]
theorem WT (l m:List S8) (p:l.length<=9223372036854775806):Tu (l,m)=some (decide (l=m)):=by
 unfold Tu;simp only [TH,TF];rw [Ss];by_cases d:(l.length:Int)=(m.length:Int)
 ·rw [if_pos d];have g:l.length=m.length:=by omega
  obtain ⟨r,n,a⟩:=Xd l m g p (f:=λs0=>br (SW s0.1 (l.length:Int)) (λ_=>RX s0.1 λq=>ix l q λb=>RX s0.1 λs=>ix m s λc=>br (Hf (NX (seq b.1 c.1) (NX (seq b.2.1 c.2.1) (NX (Sv.beq b.2.2.1 c.2.2.1) (NX (RR b.2.2.2 c.2.2.2) true))))) (λ_=>some (.dn ((0,((s0.1,false),()))))) λ_=>some (.nx (Rl .i64 s0.1 1,s0.2))) λ_=>some (.dn ((1,(s0,()))))) (λk x y h j=>by
    have i:=(List.getElem?_eq_some_iff.1 h).1;constructor
    ·intro e;simp only;rw [rl i,R5,S9,Sb h,S9,Sb j,aq,if_pos e,TK (by omega)]
    ·intro e;simp only
     rw [rl i,R5,S9,Sb h,S9,Sb j,aq,if_neg e]) (by simp only;rw [re];rfl)
  refine Tc n ?_;rcases a with ⟨e,a⟩ | ⟨e,a,o⟩
  ·rw [SM,a];simp [e]
  ·rw [SM,a];simp [e,o]
 ·rw [if_neg d];have : ¬ l=m:=λe=>d (by rw [e]);simp [this]
theorem XH (l m:List S8) (a:l.length<=9223372036854775806):UG (l,m)=some (decide (l=m)):=by
 unfold UG;rw [WT l m a];rfl
instance:DecidableEq S8:=inferInstance
instance:DecidableEq (List S8):=inferInstance
instance:DecidableEq (List (List S8)):=inferInstance
instance:DecidableEq TD:=inferInstance
instance:DecidableEq VV:=inferInstance
instance:DecidableEq TC:=inferInstance
instance:DecidableEq UH:=inferInstance
instance:DecidableEq W3:=inferInstance
theorem bH (x y:W3) (n:x.1.1.length<=1000) (i : ∀ l∈x.1.1,l.length<=1000000) (o:x.1.2.1.length<=1000) (p:x.1.2.2.1.length<=1000) (q:x.1.2.2.2.1.length<=1000) (s:x.2.2.1.length<=1000000):U9 (x,y)=some (decide (x=y)):=by
 obtain ⟨⟨a,E,F,G,M⟩,⟨xs,L,J⟩,I,K⟩:=x;obtain ⟨⟨b,N,P,S,Z⟩,⟨X,Y,O⟩,W,U⟩:=y;simp only at n i o p q s;unfold U9;simp only [TH,TF];rw [Ss];by_cases g:(a.length:Int)=(b.length:Int)
 ·rw [if_pos g];have h:a.length=b.length:=by omega
  obtain ⟨r,z,d⟩:=Xd a b h (by omega) (f:=λs0=>br (SW s0.1 (a.length:Int)) (λ_=>RX s0.1 λu=>ix a u λC=>RX s0.1 λw=>ix b w λD=>bd (UG (C,D)) λB=>br (Hf B) (λ_=>some (.dn ((0,((s0.1,false),()))))) λ_=>some (.nx (Rl .i64 s0.1 1,s0.2))) λ_=>some (.dn ((1,(s0,()))))) (λk x y c m=>by
    have j:=(List.getElem?_eq_some_iff.1 c).1;have t:=i x (List.mem_of_getElem? c);constructor
    ·intro e;simp only;rw [rl j,R5,S9,Sb c,S9,Sb m,XH _ _ (by omega),SL,Uo,Ut,if_neg (by simp [e]),TK (by omega)]
    ·intro e;simp only
     rw [rl j,R5,S9,Sb c,S9,Sb m,XH _ _ (by omega),SL,Uo,Ut,if_pos e]) (by simp only;rw [re];rfl)
  refine Tc z ?_;simp only [XW _ _ (show E.length<=9223372036854775806 by omega),XW _ _ (show G.length<=9223372036854775806 by omega),dY _ _ (show F.length<=9223372036854775806 by omega),XH _ _ (show I.length<=9223372036854775806 by omega),SL,Ut,VS,Ye,beq_eq,Yj,Xj,SM];rw [Sx];rcases d with ⟨e,d⟩ | ⟨e,d,A⟩
  ·rw [if_neg (show ¬ r.1=0 by omega)]
   repeat' split
   all_goals simp_all
  ·rw [if_pos d,if_neg (show ¬ r.2.1.2=true by simp [A])];simp [e]
 ·rw [if_neg g];have : ¬ a=b:=λe=>g (by rw [e]);simp [this]
end
section
open Go Go.Proofs.YtfilfloanndddaaGreat.Sv
def kR (a:List Int) (most:Int) (r:Tb):Int :=
 if r.1<1\/r.1>1000000 then 7 else if (V5 r.2).2≠0 then (V5 r.2).2 else if r.2.length=0 then 4 else if (r.2.length:Int)>most then 3 else if r.1∈a then 8 else 0
def YQ (most:Int):Nat->List Int->List Tb->Option (Nat×Int)
 | _,_,[]=>none
 | k,ids,r::rs=>if kR ids most r≠0 then some (k,kR ids most r) else YQ most (k+1) (ids++[r.1]) rs
def UV (B:Int) (i:Nat):Int:=B*2 ^ i
def YP (B:Int):Nat->List Int->List (List Tb)->Option (Nat×(Nat×Int))
 | _,_,[]=>none
 | i,ids,rs::ls=>if rs.length>2 then some (i,(0,3)) else match YQ (UV B i) 0 ids rs with
  | some (k,e)=>some (i,(k,e))
  | none=>YP B (i+1) (ids++rs.map (·.1)) ls
def Vj (L:TB):Int×(Int×Int) :=
 if L.1<1\/L.1>16 then (0,(0,7)) else if L.2.length>12 then (0,(0,3)) else match YP L.1 0 [] L.2 with
  | some (i,(k,e))=>((i:Int),((k:Int),e))
  | none=>if L.2.getLast? = some [] then (((L.2.length-1:Nat):Int),(0,6)) else (0,(0,0))
theorem dN {most:Int} : ∀ {rs:List Tb} {k:Nat} {a:List Int} {c:Nat} {e:Int},YQ most k a rs=some (c,e)->e≠0
 | [],_,_,_,_,h=>by cases h
 | r::rs,k,a,c,e,h=>by
  unfold YQ at h;by_cases b:kR a most r≠0
  ·rw [if_pos b] at h;cases h;exact b
  ·rw [if_neg b] at h;exact dN h
theorem ab {B:Int} : ∀ {ls:List (List Tb)} {i:Nat} {a:List Int} {d f:Nat} {e:Int},YP B i a ls=some (d,(f,e))->e≠0
 | [],_,_,_,_,_,h=>by cases h
 | rs::ls,i,a,d,f,e,h=>by
  unfold YP at h;by_cases c:rs.length>2
  ·rw [if_pos c] at h;cases h;decide
  ·rw [if_neg c] at h;cases b:YQ (UV B i) 0 a rs with
   | none=>rw [b] at h;exact ab h
   | some x=>rw [b] at h;cases h;exact dN b
def Z5 (a:List Int):List (Int×Bool):=a.map λi=>(i,true)
theorem fD (c:List Int) (i:Int):Rt (MI (λa b=>RR a b) (Z5 c) i) false=decide (i∈c):=by
 induction c with
 | nil=>rfl
 | cons j c d =>
  show Rt (bif RR i j then some true else MI (λa b=>RR a b) (Z5 c) i) false=_
  rw [VS];by_cases h:i=j
  ·simp [h,Rt]
  ·simp only [h,decide_false,cond_false,List.mem_cons,false_or];exact d
theorem fF {c:List Int} {i:Int} (h:i ∉ c):IR (λa b=>RR a b) (Z5 c) i true=Z5 (c++[i]):=by
 induction c with
 | nil=>rfl
 | cons j c f =>
  show (bif RR i j then (i,true)::Z5 c else (j,true)::IR (λa b=>RR a b) (Z5 c) i true)=_
  rw [VS];have d : ¬ i=j:=λe=>h (by simp [e]);rw [f (λe=>h (by simp [e]))];simp only [d,decide_false,cond_false];rfl
theorem ai (r:Tb) (b:r.2.length<=9223372036854775807):Wd r=some (if r.1<1\/r.1>1000000 then (-1,7) else V5 r.2):=by
 unfold Wd;rw [Sr,Sp,Wx _ b,SL];by_cases h:r.1<1
 ·rw [if_pos h,if_pos (.inl h)]
 ·rw [if_neg h];by_cases a:r.1>1000000
  ·rw [if_pos a,if_pos (.inr a)]
  ·rw [if_neg a,if_neg (by omega)]
theorem aE (r:Tb) (most:Int) (b:r.2.length<=9223372036854775807):Uw (r,most)=some (kR [] most r):=by
 unfold Uw kR;rw [ai r b,SL];simp only [TH,TF];by_cases h:r.1<1\/r.1>1000000
 ·rw [if_pos h,if_pos h];rfl
 ·rw [if_neg h,if_neg h,Ss];by_cases a:(V5 r.2).2=0
  ·rw [if_pos a,if_neg (by simp [a]),Sn,Sp]
   repeat' split
   all_goals first | rfl | (exfalso;omega) | simp_all
  ·rw [if_neg a,if_pos a]
theorem lS (a:List Int) (most:Int) (r:Tb):kR a most r=if kR [] most r=0 then (if r.1∈a then 8 else 0) else kR [] most r:=by
 unfold kR
 repeat' split
 all_goals simp_all
theorem lW (i:Nat) (h:i<=12):(2:Int) ^ i<=4096/\1<=(2:Int) ^ i:=by
 have a:(2:Nat) ^ i<=2 ^ 12:=Nat.pow_le_pow_right (by omega) h;have b:1<=(2:Nat) ^ i:=Nat.one_le_two_pow;have c:((2 ^ i:Nat):Int)=(2:Int) ^ i:=by simp
 omega
theorem bj {B:Int} {i:Nat} (a:1<=B) (b:B<=16) (hi:i<=12):1<=UV B i/\UV B i<=65536:=by
 obtain ⟨c,d⟩:=lW i hi;unfold UV;constructor
 ·have:=Int.mul_le_mul a d (by omega) (by omega);omega
 ·have:=Int.mul_le_mul b c (by omega) (by omega);omega
theorem ZC {B:Int} {i:Nat} (a:1<=B) (b:B<=16) (hi:i<=12):SZ .i64 B (i:Int)=UV B i:=by
 have c:=bj a b hi;unfold SZ;rw [show min ((i:Int).toNat) IntKind.i64.bits=i by rw [Int.toNat_natCast];exact Nat.min_eq_left (Nat.le_trans hi (by decide))];unfold UV at c ⊢;exact IntWalk.i64_in _ (by omega)
def Q1:Option (Nat×(Nat×Int))->Int->Int->Int->Prop
 | some (i,(k,e)),a,b,c=>a=(k:Int)/\b=(i:Int)/\c=e
 | none,_,_,c=>c=0
def Q2 (m:List (Int×Bool)):Option (Nat×Int)->Nat->Int->Int->List (Int×Bool)->Prop
 | some (k,e),r,a,c,_=>r=0/\a=(k:Int)/\c=e
 | none,r,_,c,m'=>r=1/\c=0/\m'=m
theorem YZ (L:TB) (hb:L.2.length<=1048576) (hr : ∀ rs∈L.2,rs.length<=1048576 /\ ∀ r∈rs,r.2.length<=9223372036854775807):U2 L=some (Vj L):=by
 unfold U2 Vj;simp only [TH,TF];rw [Sr,Sp,Sp];by_cases z:L.1<1
 ·rw [if_pos z,if_pos (.inl z)]
 rw [if_neg z];by_cases A:L.1>16
 ·rw [if_pos A,if_pos (.inr A)]
 rw [if_neg A,if_neg (show ¬ (L.1<1\/L.1>16) by omega)];by_cases hl:(L.2.length:Int)>12
 ·rw [if_pos hl,if_pos (by omega)]
 rw [if_neg hl,if_neg (by omega)];have hl2:L.2.length<=12:=by omega
 obtain ⟨T,I⟩ : ∃ T,T=YP L.1 0 [] L.2:=⟨_,rfl⟩;rw [<- I]
 have C : ∀ W:Int,W=0->T=none->(br (RT W 0) (λ_=>(none:Option (Int×(Int×Int)))) λ_=>br (SU (L.2.length:Int) 0) (λ_=>RX (Rp .i64 (L.2.length:Int) 1) λO=>ix L.2 O λX=>br (RR (X.length:Int) 0) (λ_=>some ((Rp .i64 (L.2.length:Int) 1,(0,6)))) λ_=>some ((0,(0,0)))) λ_=>some ((0,(0,0))))=some (if L.2.getLast? = some [] then (((L.2.length-1:Nat):Int),(0,6)) else (0,(0,0))):=by
  intro W o _;rw [Ss,if_pos o,Sp];by_cases hn:L.2=[]
  ·rw [hn];rfl
  ·have hp:=List.length_pos_iff.2 hn;rw [if_pos (by omega),show Rp .i64 (L.2.length:Int) 1=((L.2.length-1:Nat):Int) by rw [SB (by omega)];omega,S9,List.getLast?_eq_getElem?];have n:L.2[L.2.length-1]? = some (L.2[L.2.length-1]'(by omega)):=by simp
   rw [Sb n,n,Sn];by_cases N:L.2[L.2.length-1]'(by omega)=[]
   ·rw [N];simp
   ·rw [if_neg (by have:=List.length_pos_iff.2 N;omega),if_neg (by simp [N])]
 obtain ⟨r,S,b⟩:=WL (l:=L.2) (σ:=Int×(Int×List Int)) (λi j=>(j.1,(j.2.1,((0:Int),((i:Int),Z5 j.2.2)))))
  (λm i j=>YP L.1 i j.2.2 m=T) (λ(r:Nat×((Int×(Int×(Int×(Int×List (Int×Bool)))))×Unit))=>Q1 T r.2.1.1 r.2.1.2.1 r.2.1.2.2.1)
  (f:=λs0=>br (SW s0.2.2.2.1 (L.2.length:Int)) (λ_=>RX s0.2.2.2.1 λk1=>ix L.2 k1 λY=>br (SU (Y.length:Int) 2) (λ_=>some (.dn ((0,((0,(s0.2.2.2.1,(3,s0.2.2.2))),()))))) λ_=>bd (loop (λa=>br (SW a.2.1 (Y.length:Int)) (λ_=>RX a.2.1 λP=>ix Y P λp=>gd (RS s0.2.2.2.1 0) λ_=>bd (Uw (p,SZ .i64 L.1 s0.2.2.2.1)) λg=>br (RR g 0) (λ_=>br (Rt (MI ((λJ=>(λK=>RR J K))) a.2.2.2 p.1) false) (λ_=>some (.dn ((0,((a.2.1,(a.2.1,(8,a.2.2.2))),()))))) λ_=>br (RT g 0) (λ_=>some (.dn ((0,((a.2.1,(a.2.1,(g,a.2.2.2))),()))))) λ_=>some (.nx ((a.2.1,(Rl .i64 a.2.1 1,(g,IR ((λM=>(λw=>RR M w))) a.2.2.2 p.1 true)))))) λ_=>br (RT g 0) (λ_=>some (.dn ((0,((a.2.1,(a.2.1,(g,a.2.2.2))),()))))) λ_=>some (.nx ((a.2.1,(Rl .i64 a.2.1 1,(g,IR ((λx=>(λy=>RR x y))) a.2.2.2 p.1 true)))))) λ_=>some (.dn ((1,(a,()))))) ((0,(0,(s0.2.2.1,s0.2.2.2.2))))) λd=>br (neq d.1 0) (λ_=>some (.dn ((0,((d.2.1.1,(s0.2.2.2.1,(d.2.1.2.2.1,(s0.2.2.2.1,d.2.1.2.2.2)))),()))))) λ_=>some (.nx ((d.2.1.1,(s0.2.2.2.1,(d.2.1.2.2.1,(Rl .i64 s0.2.2.2.1 1,d.2.1.2.2.2))))))) λ_=>some (.dn ((0,(s0,())))))
  (s:=(0,(0,(0,(0,[]))))) (0,(0,[])) rfl (by omega) I.symm (λj h=>by
   refine ⟨_,by simp only;rw [re];rfl,?_⟩;simp only at h ⊢;rw [<- h];exact rfl) (λi rs m j hd n hi h=>by
   obtain ⟨s1,s2,c⟩:=j;simp only at h ⊢;obtain ⟨hrs1,F⟩:=hr rs (List.mem_of_getElem? n);rw [rl hi,R5,S9,Sb n,Sp];unfold YP at h;by_cases Z:rs.length>2
   ·rw [if_pos (by omega)];rw [if_pos Z] at h;refine .inr ⟨_,rfl,?_⟩;rw [<- h];exact ⟨rfl,rfl,rfl⟩
   rw [if_neg (by omega)];rw [if_neg Z] at h;obtain ⟨U,hU⟩ : ∃ U,U=YQ (UV L.1 i) 0 c rs:=⟨_,rfl⟩;rw [<- hU] at h
   obtain ⟨r,S,b⟩:=WL (l:=rs) (σ:=Int) (λk j=>(j,((k:Int),((0:Int),Z5 (c++(rs.take k).map (·.1))))))
    (λm k _=>YQ (UV L.1 i) k (c++(rs.take k).map (·.1)) m=U) (λ(r:Nat×((Int×(Int×(Int×List (Int×Bool))))×Unit))=>Q2 (Z5 (c++rs.map (·.1))) U r.1 r.2.1.1 r.2.1.2.2.1 r.2.1.2.2.2)
    (f:=λa=>br (SW a.2.1 (rs.length:Int)) (λ_=>RX a.2.1 λP=>ix rs P λp=>gd (RS (i:Int) 0) λ_=>bd (Uw (p,SZ .i64 L.1 (i:Int))) λg=>br (RR g 0) (λ_=>br (Rt (MI ((λJ=>(λK=>RR J K))) a.2.2.2 p.1) false) (λ_=>some (.dn ((0,((a.2.1,(a.2.1,(8,a.2.2.2))),()))))) λ_=>br (RT g 0) (λ_=>some (.dn ((0,((a.2.1,(a.2.1,(g,a.2.2.2))),()))))) λ_=>some (.nx ((a.2.1,(Rl .i64 a.2.1 1,(g,IR ((λM=>(λw=>RR M w))) a.2.2.2 p.1 true)))))) λ_=>br (RT g 0) (λ_=>some (.dn ((0,((a.2.1,(a.2.1,(g,a.2.2.2))),()))))) λ_=>some (.nx ((a.2.1,(Rl .i64 a.2.1 1,(g,IR ((λx=>(λy=>RR x y))) a.2.2.2 p.1 true)))))) λ_=>some (.dn ((1,(a,())))))
    (s:=(0,(0,(0,Z5 c)))) 0 (by simp) (by omega) (by simp [hU]) (λj h=>by
     refine ⟨_,by simp only;rw [re];rfl,?_⟩;rw [<- h];exact ⟨rfl,rfl,by simp⟩) (λk r m j hd n hk h=>by
     simp only at h ⊢;have hr2:=F r (List.mem_of_getElem? n);have G:(rs.take (k+1)).map (·.1)=(rs.take k).map (·.1)++[r.1]:=by rw [List.take_add_one,n];simp
     rw [rl hk,R5,S9,Sb n,show gd (RS (i:Int) 0)=λ(q:Unit->Option (LR (Int×(Int×(Int×List (Int×Bool)))) (Nat×((Int×(Int×(Int×List (Int×Bool))))×Unit))))=>q () from by unfold RS;simp [gd];rfl,ZC (by omega) (by omega) (by omega)];simp only;rw [aE _ _ (by omega),SL,Sn,fD,Ss];unfold YQ at h;rw [lS] at h;by_cases o:kR [] (UV L.1 i) r=0
     ·rw [if_pos o] at h;rw [if_pos o,if_pos o,Ut];by_cases E:r.1∈c++(rs.take k).map (·.1)
      ·rw [if_pos E];rw [if_pos E,if_pos (by decide)] at h;refine .inr ⟨_,rfl,?_⟩;rw [<- h];exact ⟨rfl,rfl,rfl⟩
      ·rw [if_neg E];rw [if_neg E,if_neg (by decide)] at h;refine .inl ⟨(k:Int),?_,?_⟩
       ·rw [fF E,o,TL n (by omega),G,List.append_assoc]
       ·rw [G,<- List.append_assoc];exact h
     ·rw [if_neg o,if_pos o] at h;rw [if_neg o,if_neg o];refine .inr ⟨_,rfl,?_⟩;rw [<- h]
      exact ⟨rfl,rfl,rfl⟩)
   rw [S,SL,SM];cases D:U with
   | some u =>
    obtain ⟨k,e⟩:=u;rw [D] at b h;rw [if_pos b.1];refine .inr ⟨_,rfl,?_⟩;rw [<- h];exact ⟨b.2.1,rfl,b.2.2⟩
   | none =>
    rw [D] at b h;rw [if_neg (show ¬ r.1=0 by have:=b.1;omega)];refine .inl ⟨(r.2.1.1,((i:Int),c++rs.map (·.1))),?_,h⟩
    rw [b.2.1,b.2.2,TL n (by omega)])
 refine Tc S ?_;cases B:T with
 | some t =>
  obtain ⟨i,k,e⟩:=t;rw [B] at b I;rw [Ss,if_neg (by rw [b.2.2];exact ab I.symm),b.1,b.2.1,b.2.2]
 | none =>
  rw [B] at b;have h:=C _ b B;have q3:r.2.1.2.2.1=0:=b;rw [Ss,if_pos q3] at h ⊢;exact h
end
section
open Go Go.Proofs.YtfilfloanndddaaGreat.Sv
structure VR (most:Int) (r:Tb):Prop where
 id1:1<=r.1
 id2:r.1<=1000000
 vl:VL r.2
 ne:r.2≠[]
 le:(r.2.length:Int)<=most
theorem ez {a:List Int} {most:Int} {r:Tb}:kR a most r=0<->VR most r/\r.1 ∉ a:=by
 unfold kR;constructor
 ·intro h;by_cases f:r.1<1\/r.1>1000000
  ·rw [if_pos f] at h;cases h
  rw [if_neg f] at h;by_cases b:(V5 r.2).2≠0
  ·rw [if_pos b] at h;exact absurd h b
  rw [if_neg b] at h;by_cases c:r.2.length=0
  ·rw [if_pos c] at h;cases h
  rw [if_neg c] at h;by_cases g:(r.2.length:Int)>most
  ·rw [if_pos g] at h;cases h
  rw [if_neg g] at h;by_cases d:r.1∈a
  ·rw [if_pos d] at h;cases h
  exact ⟨⟨by omega,by omega,Y9.1 (by simpa using b),by intro e;rw [e] at c;exact c rfl,by omega⟩,d⟩
 ·rintro ⟨h,d⟩;rw [if_neg (by have:=h.id1;have:=h.id2;omega),if_neg (by simp [Y9.2 h.vl]),if_neg (by have:=List.length_pos_iff.2 h.ne;omega),if_neg (by have:=h.le;omega),if_neg d]
def lL (r:Tb):Int:=r.1
theorem ZH {most:Int} : ∀ {rs:List Tb} {k:Nat} {a:List Int},YQ most k a rs=none<->(∀ r∈rs,VR most r/\r.1 ∉ a)/\(rs.map lL).Nodup
 | [],k,a=>by simp [YQ]
 | r::rs,k,a=>by
  unfold YQ;by_cases h:kR a most r=0
  ·rw [if_neg (by simp [h]),ZH (rs:=rs)];have f:=ez.1 h;simp only [List.mem_cons,forall_eq_or_imp,List.map_cons,List.nodup_cons,List.mem_append,List.not_mem_nil,or_false,List.mem_map,not_exists,not_and,not_or];constructor
   ·rintro ⟨b,d⟩;exact ⟨⟨f,λx c=>⟨(b x c).1,(b x c).2.1⟩⟩,λx c e=>(b x c).2.2 e,d⟩
   ·rintro ⟨⟨_,b⟩,d,g⟩;exact ⟨λx c=>⟨(b x c).1,(b x c).2,d x c⟩,g⟩
  ·rw [if_pos h];simp only [reduceCtorEq,false_iff,not_and];intro b;exact absurd (ez.2 (b r (by simp))) h
theorem YL {B:Int} : ∀ {ls:List (List Tb)} {i:Nat} {c:List Int},YP B i c ls=none<->(∀ k rs,ls[k]? = some rs->rs.length<=2 /\ ∀ r∈rs,VR (UV B (i+k)) r/\r.1 ∉ c)/\(ls.flatten.map lL).Nodup
 | [],i,c=>by simp [YP]
 | rs::ls,i,c=>by
  unfold YP;by_cases h:rs.length>2
  ·rw [if_pos h];simp only [reduceCtorEq,false_iff,not_and];intro j;have:=(j 0 rs rfl).1;omega
  ·rw [if_neg h];cases g:YQ (UV B i) 0 c rs with
   | some x =>
    simp only [reduceCtorEq,false_iff,not_and];intro j l
    have m:YQ (UV B i) 0 c rs=none:=ZH.2 ⟨(j 0 rs rfl).2,by
     simp only [List.flatten_cons,List.map_append] at l
     exact (List.nodup_append.1 l).1⟩
    rw [g] at m;cases m
   | none =>
    have q:=ZH.1 g;simp only;rw [YL (ls:=ls)];simp only [List.flatten_cons,List.map_append,List.mem_append,not_or,List.mem_map];constructor
    ·rintro ⟨j,l⟩;refine ⟨λk d n => ?_,?_⟩
     ·cases k with
      | zero=>cases n;exact ⟨by omega,q.1⟩
      | succ k =>
       have m:=j k d n
       exact ⟨m.1,λr g=>by
        have:=m.2 r g;rw [show i+(k+1)=i+1+k by omega]
        exact ⟨this.1,this.2.1⟩⟩
     ·rw [List.nodup_append];refine ⟨q.2,l,?_⟩;intro a s b t e;subst e;obtain ⟨r,g,e1⟩:=List.mem_map.1 s;obtain ⟨p,f,e2⟩:=List.mem_map.1 t;obtain ⟨d,o,f⟩:=List.mem_flatten.1 f;obtain ⟨k,n⟩:=List.getElem?_of_mem o;exact ((j k d n).2 p f).2.2 ⟨r,g,by unfold lL at e1 e2;omega⟩
    ·rintro ⟨j,l⟩;rw [List.nodup_append] at l;refine ⟨λk d n => ?_,l.2.1⟩;have m:=j (k+1) d n;refine ⟨m.1,λr g => ?_⟩;have:=m.2 r g;rw [show i+(k+1)=i+1+k by omega] at this;refine ⟨this.1,this.2,?_⟩;rintro ⟨p,f,e⟩;exact l.2.2 (lL p) (List.mem_map_of_mem f) (lL r) (List.mem_map_of_mem (List.mem_flatten.2 ⟨d,List.mem_of_getElem? n,g⟩)) e
structure VLev (L:TB):Prop where
 B1:1<=L.1
 B2:L.1<=16
 len:L.2.length<=12
 lev : ∀ i rs,L.2[i]? = some rs->rs.length<=2 /\ ∀ r∈rs,VR (UV L.1 i) r
 ids:(L.2.flatten.map lL).Nodup
 last:L.2.getLast? ≠ some []
theorem XM {L:TB}:(Vj L).2.2=0<->VLev L:=by
 unfold Vj;constructor
 ·intro h;by_cases c:L.1<1\/L.1>16
  ·rw [if_pos c] at h;cases h
  rw [if_neg c] at h;by_cases d:L.2.length>12
  ·rw [if_pos d] at h;cases h
  rw [if_neg d] at h;cases a:YP L.1 0 [] L.2 with
  | some x =>
   obtain ⟨i,k,e⟩:=x;rw [a] at h;exact absurd h (ab a)
  | none =>
   rw [a] at h;simp only at h;by_cases f:L.2.getLast? = some []
   ·rw [if_pos f] at h;cases h
   ·have g:=YL.1 a
    exact ⟨by omega,by omega,by omega,λi rs hi=>by
     have:=g.1 i rs hi;rw [Nat.zero_add] at this
     exact ⟨this.1,λr b=>(this.2 r b).1⟩,g.2,f⟩
 ·intro h
  have a:YP L.1 0 [] L.2=none:=YL.2 ⟨λk rs j=>by
   have:=h.lev k rs j;rw [Nat.zero_add]
   exact ⟨this.1,λr b=>⟨this.2 r b,by simp⟩⟩,h.ids⟩
  rw [if_neg (by have:=h.B1;have:=h.B2;omega),if_neg (by have:=h.len;omega),a];simp only;rw [if_neg h.last]
theorem Wh {L:TB} (h:VLev L):Vj L=(0,(0,0)):=by
 have a:YP L.1 0 [] L.2=none:=YL.2 ⟨λk rs b=>by
  have:=h.lev k rs b;rw [Nat.zero_add]
  exact ⟨this.1,λr c=>⟨this.2 r c,by simp⟩⟩,h.ids⟩
 unfold Vj;rw [if_neg (by have:=h.B1;have:=h.B2;omega),if_neg (by have:=h.len;omega),a];simp only;rw [if_neg h.last]
def V2 (l:List (List Tb)):Int:=l.foldl (λm rs=>rs.foldl (λm r=>S0 m r.1) m) 0
def TI:Nat->List (List Tb)->List Int
 | _,[]=>[]
 | i,rs::ls=>(if rs.length=2 then [(i:Int)] else [])++TI (i+1) ls
theorem bG (L:TB) (f:L.2.length<=1048576) (d : ∀ rs∈L.2,rs.length<=1048576):VZ L=some (V2 L.2):=by
 unfold VZ;simp only [TH,TF]
 rw [U5 (l:=L.2) (σ:=Int) (s:=((0:Int),(0:Int))) (λi m=>(m,(i:Int))) (λ_ _ _=>True) (λls _ m=>(0,((ls.foldl (λm rs=>rs.foldl (λm r=>S0 m r.1) m) m,(L.2.length:Int)),()))) 0 rfl (by omega) trivial (λm _=>by
  simp only;rw [re];rfl) (λi rs ls m b a hi _=>by
   refine ⟨rs.foldl (λm r=>S0 m r.1) m,?_,trivial,rfl⟩;have e:=d rs (List.mem_of_getElem? a);simp only
   rw [rl hi,R5,S9,Sb a,U5 (l:=rs) (σ:=Int) (s:=((0:Int),m)) (λi m=>((i:Int),m)) (λ_ _ _=>True) (λl _ m=>(0,(((rs.length:Int),l.foldl (λm r=>S0 m r.1) m),()))) m rfl (by omega) trivial (λm _=>by
    simp only;rw [re];rfl) (λk r l m b a c _=>by
     refine ⟨S0 m r.1,?_,trivial,rfl⟩;simp only
     rw [rl c,R5,S9,Sb a,TL a (by omega)]),SL,TL a (by omega)]),SL]
 rfl
def YO (L:TB) (a:List Int) (i:Nat) (j:Job):Bool:=match a[i]? with
 | none=>true
 | some d=>if j.1≠d then true else if j.2.2.1.2.2=true/\j.1≠(L.2.length:Int)-1 then true else match L.2[d.toNat]? with
  | some [r0,r1]=>if j.2.2.2.2<0\/j.2.2.2.2>((r1.2.length+r0.2.length:Nat):Int) then true else decide (U6 r1.2 r0.2 j.2.2.1.2.2 j.2.2.2.2.toNat≠j.2)
  | _=>true
def WK (L:TB) (a:List Int):Nat->List Job->Option Nat
 | _,[]=>none
 | i,j::js=>if YO L a i j=true then some i else WK L a (i+1) js
def TE (s:TA):Int×Int :=
 if (Vj s.1).2.2≠0 then (-1,(Vj s.1).2.2) else if s.2.2<1\/s.2.2>1000001 then (-1,7) else if s.2.2<=V2 s.1.2 then (-1,6) else match WK s.1 (TI 0 s.1.2) 0 s.2.1 with
  | some i=>((i:Int),6)
  | none=>if s.2.1.length<(TI 0 s.1.2).length then (-1,4) else (0,0)
theorem W6 : ∀ {ls:List (List Tb)} {i k:Nat} {d:Int},(TI i ls)[k]? = some d -> ∃ n:Nat,d=((i+n:Nat):Int) /\ ∃ e f,ls[n]? = some [e,f]
 | [],i,k,d,h=>by cases h
 | rs::ls,i,k,d,h=>by
  unfold TI at h;by_cases a:rs.length=2
  ·rw [if_pos a] at h;cases k with
   | zero =>
    simp at h;refine ⟨0,by simp [<- h],?_⟩
    match rs,a with
    | [e,f],_=>exact ⟨e,f,rfl⟩
   | succ k =>
    simp at h;obtain ⟨n,b,c⟩:=W6 h;exact ⟨n+1,by rw [b];congr 1;omega,c⟩
  ·rw [if_neg a] at h;simp at h;obtain ⟨n,b,c⟩:=W6 h;exact ⟨n+1,by rw [b];congr 1;omega,c⟩
theorem VN : ∀ (ls:List (List Tb)) (i:Nat),(TI i ls).length<=ls.length
 | [],i=>Nat.le_refl _
 | rs::ls,i=>by
  have:=VN ls (i+1);unfold TI;split<;>simp<;>omega
theorem ap {L:TB} {n:Nat} {a b:Tb} (c:Bool) (h:L.2[n]? = some [a,b]) (d:VL a.2) (e:VL b.2):Uc (L,((n:Int),c))=some ((n:Int),U6 b.2 a.2 c 0):=by
 unfold Uc;simp only;rw [S9,Sb h,Sb (x:=b) rfl,Sb (x:=a) rfl,dV e d];rfl
theorem Z6 {a b:List S8} (va:VL a) (d:VL b) (c:Bool) {n:Nat} (h:n<=a.length+b.length):(U6 a b c n).1.1.length<=1000/\(∀ l∈(U6 a b c n).1.1,l.length<=1000000)/\(U6 a b c n).1.2.1.length<=1000/\(U6 a b c n).1.2.2.1.length<=1000/\(U6 a b c n).1.2.2.2.1.length<=1000/\(U6 a b c n).2.2.1.length<=1000000:=by
 have j:=va.len;have k:=d.len;refine ⟨show 2<=1000 by omega,λl f => ?_,show 2<=1000 by omega,show 2<=1000 by omega,show 2<=1000 by omega,?_⟩
 ·have:l=a\/l=b:=by simpa [U6,YV,Yg] using f
  rcases this with e | e<;>subst e<;>omega
 ·have g:=XX (s0 c) (TU a b n);have i:=Ur va d h;show (Vl (s0 c) (TU a b n)).length<=_;omega
theorem lR {L:TB} {n:Nat} {a b:Tb} {j:Job} (h:L.2[n]? = some [a,b]) (e:VL a.2) (f:VL b.2) {β:Type} (A B:Option β) :
  (bd (Uc (L,((n:Int),j.2.2.1.2.2))) λc=>bd (UC c.2) λl=>br (SW j.2.2.2.2 0) (λ_=>A) λ_=>br (SU j.2.2.2.2 l.1) (λ_=>A) λ_=>bd (UL (c.2,j.2.2.2.2)) λm=>bd (U9 (m.1,j.2)) λo=>br (Hf o) (λ_=>A) λ_=>B)
  = if j.2.2.2.2<0\/j.2.2.2.2>((b.2.length+a.2.length:Nat):Int) then A else if U6 b.2 a.2 j.2.2.1.2.2 j.2.2.2.2.toNat=j.2 then B else A:=by
 rw [ap _ h e f,SL,ZJ f e _ (Nat.zero_le _),SL,Sr,Sp,Nat.sub_zero];by_cases g:j.2.2.2.2<0
 ·rw [if_pos g,if_pos (.inl g)]
 rw [if_neg g];by_cases i:j.2.2.2.2>((b.2.length+a.2.length:Nat):Int)
 ·rw [if_pos i,if_pos (.inr i)]
 rw [if_neg i,if_neg (show ¬ (j.2.2.2.2<0\/j.2.2.2.2>((b.2.length+a.2.length:Nat):Int)) by omega)];obtain ⟨k,p⟩ : ∃ k:Nat,j.2.2.2.2=(k:Int):=⟨j.2.2.2.2.toNat,by omega⟩;rw [p,aM f e _ (Nat.zero_le _),SL,Nat.sub_zero,Nat.zero_add,Nat.min_eq_left (by omega),Int.toNat_natCast];obtain ⟨s1,s2,q,r,s,t⟩:=Z6 f e j.2.2.1.2.2 (n:=k) (by omega);rw [bH _ _ s1 s2 q r s t,SL,Uo,Ut];by_cases d:U6 b.2 a.2 j.2.2.1.2.2 k=j.2
 ·rw [if_neg (by simp [d]),if_pos d]
 ·rw [if_pos d,if_neg d]
theorem cC (s:TA) (N:s.1.2.length<=1048576) (hr : ∀ rs∈s.1.2,rs.length<=1048576 /\ ∀ r∈rs,r.2.length<=9223372036854775807) (hj:s.2.1.length<=1048576):UT s=some (TE s):=by
 unfold UT TE;simp only [TH,TF];rw [YZ _ N hr,SL,Ss];by_cases z:(Vj s.1).2.2=0;rotate_left
 ·rw [if_neg z,if_pos z]
 rw [if_pos z,if_neg (by simp [z]),Sr,Sp,bG _ N (λrs h=>(hr rs h).1),SL];have v:=XM.1 z;by_cases C:s.2.2<1
 ·rw [if_pos C,if_pos (.inl C)]
 rw [if_neg C];by_cases p:s.2.2>1000001
 ·rw [if_pos p,if_pos (.inr p)]
 rw [if_neg p,if_neg (show ¬ (s.2.2<1\/s.2.2>1000001) by omega),Sq];by_cases o:s.2.2<=V2 s.1.2
 ·rw [if_pos o,if_pos o]
 rw [if_neg o,if_neg o]
 rw [U5 (l:=s.1.2) (σ:=List Int) (s:=((0:Int),([]:List Int))) (λi m=>((i:Int),m)) (λls i m=>m++TI i ls=TI 0 s.1.2) (λ_ _ _=>(0,(((s.1.2.length:Int),TI 0 s.1.2),()))) [] rfl (by omega) rfl (λm h=>by
  simp only;rw [re,Rd,<- h];simp [TI]) (λi rs ls m hd E hi h=>by
   refine ⟨m++(if rs.length=2 then [(i:Int)] else []),?_,?_,rfl⟩
   ·simp only;rw [rl hi,R5,S9,Sb E,Sn]
    have hm:m.length<=1048575:=by
     have D:=congrArg List.length h;have q:=VN s.1.2 0;have u:=v.len;rw [List.length_append] at D;omega
    by_cases D:rs.length=2
    ·rw [if_pos (by omega),if_pos D,Tw (by simp only [BD,AS,List.length_cons,List.length_nil];omega),TL E (by omega)];rfl
    ·rw [if_neg (by omega),if_neg D,List.append_nil,TL E (by omega)]
   ·rw [List.append_assoc];exact h),SL]
 simp only;obtain ⟨a,g⟩ : ∃ a,a=TI 0 s.1.2:=⟨_,rfl⟩;have hdl:a.length<=12:=by have:=VN s.1.2 0;have:=v.len;rw [g];omega
 rw [<- g];obtain ⟨T,hT⟩ : ∃ T,T=WK s.1 a 0 s.2.1:=⟨_,rfl⟩;rw [<- hT]
 obtain ⟨r,q1,I⟩:=WL (l:=s.2.1) (σ:=Unit) (λi _=>((0:Int),((0:Int),(i:Int)))) (λjs i _=>WK s.1 a i js=T) (λ(r:Nat×((Int×(Int×Int))×Unit))=>(T=none/\r.1=1)\/(∃ i:Nat,T=some i/\r.1=0/\r.2.1.1=6/\r.2.1.2.1=(i:Int)))
  (f:=λb=>br (SW b.2.2 (s.2.1.length:Int)) (λ_=>RX b.2.2 λk7=>ix s.2.1 k7 λe=>br (RS b.2.2 (a.length:Int)) (λ_=>some (.dn ((0,((6,(b.2.2,b.2.2)),()))))) λ_=>RX b.2.2 λk9=>gd (KC k9 a.length) λ_=>ix a k9 λx10=>br (RT e.1 x10) (λ_=>some (.dn ((0,((6,(b.2.2,b.2.2)),()))))) λ_=>br e.2.2.1.2.2 (λ_=>bd (Uv (s.1,e.1)) λP=>br (Hf P) (λ_=>some (.dn ((0,((6,(b.2.2,b.2.2)),()))))) λ_=>bd (Uc ((s.1,(e.1,e.2.2.1.2.2)))) λL=>bd (UC L.2) λS=>br (SW e.2.2.2.2 0) (λ_=>some (.dn ((0,((6,(b.2.2,b.2.2)),()))))) λ_=>br (SU e.2.2.2.2 S.1) (λ_=>some (.dn ((0,((6,(b.2.2,b.2.2)),()))))) λ_=>bd (UL (L.2,e.2.2.2.2)) λU=>bd (U9 (U.1,e.2)) λW=>br (Hf W) (λ_=>some (.dn ((0,((6,(b.2.2,b.2.2)),()))))) λ_=>some (.nx ((b.1,(b.2.1,Rl .i64 b.2.2 1))))) λ_=>bd (Uc ((s.1,(e.1,e.2.2.1.2.2)))) λM=>bd (UC M.2) λX=>br (SW e.2.2.2.2 0) (λ_=>some (.dn ((0,((6,(b.2.2,b.2.2)),()))))) λ_=>br (SU e.2.2.2.2 X.1) (λ_=>some (.dn ((0,((6,(b.2.2,b.2.2)),()))))) λ_=>bd (UL (M.2,e.2.2.2.2)) λY=>bd (U9 (Y.1,e.2)) λZ=>br (Hf Z) (λ_=>some (.dn ((0,((6,(b.2.2,b.2.2)),()))))) λ_=>some (.nx ((b.1,(b.2.1,Rl .i64 b.2.2 1))))) λ_=>some (.dn ((1,(b,())))))
  (s:=(0,(0,0))) () rfl (by omega) hT.symm (λ_ h=>by
   refine ⟨_,by simp only;rw [re];rfl,.inl ⟨by rw [<- h];rfl,rfl⟩⟩) (λi j js _ hd E hi h=>by
   simp only;rw [rl hi,R5,S9,Sb E,So];unfold WK at h
   have c:YO s.1 a i j=true -> ∃ r:Nat×((Int×(Int×Int))×Unit),(some (LR.dn ((0,((6,((i:Int),(i:Int))),()))):LR (Int×(Int×Int)) _))=some (.dn r)/\((T=none/\r.1=1)\/(∃ i:Nat,T=some i/\r.1=0/\r.2.1.1=6/\r.2.1.2.1=(i:Int))):=λN=>by
    rw [if_pos N] at h;exact ⟨_,rfl,.inr ⟨i,h.symm,rfl,rfl,rfl⟩⟩
   have x:YO s.1 a i j=false -> ∃ st':Unit,(some (LR.nx ((0:Int),((0:Int),Rl .i64 (i:Int) 1))):Option (LR _ (Nat×((Int×(Int×Int))×Unit))))=some (.nx ((0:Int),((0:Int),((i+1:Nat):Int))))/\WK s.1 a (i+1) js=T:=λhg=>by
    rw [if_neg (by simp [hg])] at h;exact ⟨(),by rw [TL E (by omega)],h⟩
   by_cases C:(i:Int)>=(a.length:Int)
   ·rw [if_pos C];exact .inr (c (by unfold YO;rw [List.getElem?_eq_none (by omega)]))
   rw [if_neg C,S9,SR,if_pos (by omega)];have w:a[i]? = some (a[i]'(by omega)):=by simp
   rw [Sb w,Ss];obtain ⟨n,O,J,K,y⟩:=W6 (ls:=s.1.2) (i:=0) (k:=i) (d:=a[i]'(by omega)) (by rw [<- g];exact w);rw [Nat.zero_add] at O
   have t:YO s.1 a i j=(if j.1≠(a[i]'(by omega)) then true else if j.2.2.1.2.2=true/\j.1≠(s.1.2.length:Int)-1 then true else if j.2.2.2.2<0\/j.2.2.2.2>((K.2.length+J.2.length:Nat):Int) then true else decide (U6 K.2 J.2 j.2.2.1.2.2 j.2.2.2.2.toNat≠j.2)):=by
    unfold YO;rw [w];simp only;rw [O,Int.toNat_natCast,y]
   by_cases p:j.1=(a[i]'(by omega));rotate_left
   ·rw [if_neg p];exact .inr (c (by rw [t,if_pos p]))
   rw [if_pos p];rw [if_neg (by simp [p])] at t;have F:j.1=(n:Int):=by rw [p,O]
   have hv:=(v.lev n _ y).2;have v0:=(hv J (by simp)).vl;have v1:=(hv K (by simp)).vl;have G:Rp .i64 (s.1.2.length:Int) 1=(s.1.2.length:Int)-1:=SB (by omega);unfold Uv;simp only [TH,TF];rw [SL,G,VS,Uo,Ut,F,lR y v0 v1,Sx];rw [F] at t;by_cases o:j.2.2.1.2.2=true/\(n:Int)≠(s.1.2.length:Int)-1
   ·rw [if_pos o.1,if_pos o.2];exact .inr (c (by rw [t,if_pos o]))
   rw [if_neg o] at t
   have D : ∀ {γ:Type} (A B:γ),(if j.2.2.1.2.2=true then if ¬(n:Int)=(s.1.2.length:Int)-1 then A else B else B)=B:=by
    intro γ A B;by_cases q:j.2.2.1.2.2=true
    ·rw [if_pos q,if_neg (λu=>o ⟨q,u⟩)]
    ·rw [if_neg q]
   rw [D];by_cases q:j.2.2.2.2<0\/j.2.2.2.2>((K.2.length+J.2.length:Nat):Int)
   ·rw [if_pos q];exact .inr (c (by rw [t,if_pos q]))
   rw [if_neg q];rw [if_neg q] at t;by_cases u:U6 K.2 J.2 j.2.2.1.2.2 j.2.2.2.2.toNat=j.2
   ·rw [if_pos u];exact .inl (x (by rw [t];simp [u]))
   ·rw [if_neg u]
    exact .inr (c (by rw [t];simp [u])))
 rw [z];refine Tc q1 ?_;rw [SM];rcases I with ⟨I,q3⟩ | ⟨i,I,q3,q4,q5⟩
 ·rw [if_neg (show ¬ r.1=0 by omega),I,Sr];simp only;by_cases h7:s.2.1.length<a.length
  ·rw [if_pos (by omega),if_pos h7]
  ·rw [if_neg (by omega),if_neg h7]
 ·rw [if_pos q3,I,q4,q5]
end
section
open Go Go.Proofs.YtfilfloanndddaaGreat.Sv
theorem Yx (x:S8):VI x=some (kE x):=by
 unfold VI kE;rw [Sp,TH,Xz];by_cases e:x.1.length>32
 ·rw [if_pos (by omega),if_pos (.inl e)]
 rw [if_neg (by omega),Sp,TH,Xz];by_cases f:x.2.1.length>64
 ·rw [if_pos (by omega),if_pos (.inr f)]
 rw [if_neg (by omega : ¬ (x.2.1.length:Int)>64),if_neg (by omega),Sx];by_cases b:x.2.2.1=true
 ·rw [if_pos b,Tn,Vm];by_cases c:x.2.1=[]
  ·rw [if_pos c,if_neg (by simp [c]),Sr,Sp];by_cases a:x.2.2.2<1
   ·simp [a]
   ·by_cases d:x.2.2.2>1000000000<;>simp [a,d]
  ·rw [if_neg c,if_pos ⟨b,c⟩]
 ·rw [if_neg b,if_neg (by simp [b]),Sr,Sp];by_cases a:x.2.2.2<1
  ·simp [a]
  ·by_cases d:x.2.2.2>1000000000<;>simp [a,d]
def VD:List UInt8->List UInt8->Nat
 | x::a,y::b=>if x=y then VD a b+1 else 0
 | _,_=>0
theorem kT (x y:UInt8):RR (S4 x) (S4 y)=decide (x=y):=by
 rw [VS];unfold S4;by_cases h:x=y
 ·simp [h]
 ·have : ¬ ((x.toNat:Int)=(y.toNat:Int)):=λe=>h (UInt8.toNat_inj.1 (by omega));simp [h,this]
theorem dX (a b:List UInt8) (z:a.length<=9223372036854775806):Vq (a,b)=some (VD a b:Int):=by
 unfold Vq;simp only [TH,Xz]
 have key : ∀ (m:List UInt8) (k n:Nat),a.drop k=m->k<=a.length->k<=b.length->m.length<n->IJ n (λs0=>br (SW s0 (a.length:Int)) (λ_=>br (SW s0 (b.length:Int)) (λ_=>RX s0 λt=>ix a t λw=>RX s0 λu=>ix b u λy=>br (RR (S4 w) (S4 y)) (λ_=>some (LR.nx (Rl .i64 s0 1))) λ_=>some (.dn ((0,(s0,()))))) λ_=>some (.dn ((0,(s0,()))))) λ_=>some (.dn ((0,(s0,()))))) (k:Int)=some ((0:Nat),(((k+VD m (b.drop k):Nat):Int),())):=by
  intro m
  induction m with
  | nil =>
   intro k n f r h p;obtain ⟨n,rfl⟩ : ∃ j,n=j+1:=⟨n-1,by omega⟩
   have i:k=a.length:=by
    have:=congrArg List.length f;simp at this;omega
   subst i;refine Tl ?_;rw [re];simp [Rd,VD]
  | cons x m s =>
   intro k n f r h p;obtain ⟨n,rfl⟩ : ∃ j,n=j+1:=⟨n-1,by omega⟩
   have o:a[k]? = some x:=by
    have:=congrArg List.head? f;rw [List.head?_drop] at this;simpa using this
   have c:k<a.length:=(List.getElem?_eq_some_iff.1 o).1
   have l:a.drop (k+1)=m:=by
    have:=congrArg List.tail f;rw [List.tail_drop] at this;simpa using this
   by_cases d:k<b.length
   ·have q:b[k]? = some b[k]:=by simp [d]
    rw [List.drop_eq_getElem_cons d];unfold VD;by_cases e:x=b[k]
    ·rw [if_pos e];refine (Tf (s':=((k+1:Nat):Int)) ?_).trans ?_
     ·rw [rl c,R5,rl d,R5,S9,Sb o,S9,Sb q,kT,Ut,if_pos e,TK (by omega)]
     ·rw [s (k+1) n l (by omega) (by omega) (by simp at p;omega),show k+1+VD m (b.drop (k+1))=k+(VD m (b.drop (k+1))+1) by omega]
    ·rw [if_neg e];refine Tl ?_;rw [rl c,R5,rl d,R5,S9,Sb o,S9,Sb q,kT,Ut,if_neg e];simp
   ·have g:k=b.length:=by omega
    refine Tl ?_;rw [rl c,R5,g,re,Rd,List.drop_length];simp [VD]
 refine Tc (Ug (n:=a.length+1) (by omega) (key a 0 (a.length+1) (by simp) (by omega) (by omega) (by omega))) ?_;simp
def Yb (a b:Ww):Int:=if Rz a b=true then -1 else if a=b then 0 else 1
theorem ax : ∀ (a b:Ww),(VD a b<=a.length/\VD a b<=b.length)/\(VD a b=a.length->VD a b=b.length->Yb a b=0)/\(VD a b=a.length->VD a b≠b.length->Yb a b = -1)/\(VD a b≠a.length->VD a b=b.length->Yb a b=1)/\(∀ x y,a[VD a b]? = some x->b[VD a b]? = some y->Yb a b=if x.toNat<y.toNat then -1 else 1)
 | [],[]=>by simp [VD,Yb,Yy]
 | [],y::b=>by simp [VD,Yb,aj]
 | x::a,[]=>by simp [VD,Yb,Yy]
 | x::a,y::b=>by
  obtain ⟨⟨o,g⟩,i,j,k,l⟩:=ax a b;by_cases e:x=y
  ·subst e
   have n:Yb (x::a) (x::b)=Yb a b:=by
    unfold Yb;rw [Xh];simp
   have hc:VD (x::a) (x::b)=VD a b+1:=by simp [VD]
   rw [n,hc];refine ⟨⟨by simp;omega,by simp;omega⟩,λu v=>i (by simp at u;omega) (by simp at v;omega),λu v=>j (by simp at u;omega) (by simp at v;omega),λu v=>k (by simp at u;omega) (by simp at v;omega),λp q d f=>l p q (by simpa using d) (by simpa using f)⟩
  ·have hc:VD (x::a) (y::b)=0:=by simp [VD,e]
   rw [hc];refine ⟨⟨by omega,by omega⟩,λu=>by simp at u,λu=>by simp at u,λ_ u=>by simp at u,λp q d f => ?_⟩;simp at d f;subst d f;unfold Yb;rw [Xh];have m : ¬ (x::a=y::b):=λh=>e (by injection h);by_cases c:x.toNat<y.toNat
   ·have:x<y:=UInt8.lt_iff_toNat_lt.2 c;simp [this,c]
   ·have : ¬ x<y:=λh=>c (UInt8.lt_iff_toNat_lt.1 h);simp [this,c,e]
theorem eV (a b:Ww) (p:a.length<=1000000000) (q:b.length<=1000000000):Ve (a,b)=some (Yb a b):=by
 obtain ⟨⟨o,i⟩,j,k,l,m⟩:=ax a b;unfold Ve;simp only [TH,Xz];rw [dX a b (by omega),SL,Sn]
 have n:(if (VD a b:Int)<(b.length:Int) then (RX (VD a b:Int) λc=>ix a c λe=>RX (VD a b:Int) λd=>ix b d λf=>br (SW (S4 e) (S4 f)) (λ_=>some (-1:Int)) λ_=>some 1) else some 1)=(if VD a b=a.length then (if (VD a b:Int)<(b.length:Int) then (RX (VD a b:Int) λc=>ix a c λe=>RX (VD a b:Int) λd=>ix b d λf=>br (SW (S4 e) (S4 f)) (λ_=>some (-1:Int)) λ_=>some 1) else some 1) else some (Yb a b)):=by
  by_cases u:VD a b=a.length
  ·rw [if_pos u]
  ·rw [if_neg u];by_cases v:VD a b=b.length
   ·rw [if_neg (by omega),l u v]
   ·rw [if_pos (by omega),S9];have g:a[VD a b]? = some (a[VD a b]'(by omega)):=by simp
    have h:b[VD a b]? = some (b[VD a b]'(by omega)):=by simp
    rw [Sb g,S9,Sb h,Sr,m _ _ g h];unfold S4;by_cases w:(a[VD a b]'(by omega)).toNat<(b[VD a b]'(by omega)).toNat
    ·rw [if_pos (by omega),if_pos w]
    ·rw [if_neg (by omega),if_neg w]
 by_cases u:VD a b=a.length
 ·rw [if_pos (by omega),Sn];by_cases v:VD a b=b.length
  ·rw [if_pos (by omega),j u v]
  ·rw [if_neg (by omega),Sn,if_pos (by omega),k u v]
 ·rw [if_neg (by omega),Sn,if_neg (by omega),Sr,n,if_neg u]
theorem dI (a b:Ww):Yb a b>=0<->Rz a b=false:=by
 unfold Yb;cases h:Rz a b with
 | true=>simp
 | false=>simp;split<;>omega
theorem Wn (l:List S8) (E:l.length<=9223372036854775807):Uq l=some (V5 l):=by
 unfold Uq V5;simp only [TH,TF];rw [Sp];by_cases h:l.length>5000
 ·rw [if_pos (by omega),if_pos h]
 rw [if_neg (by omega),if_neg h];obtain ⟨T,o⟩ : ∃ T,T=X6 none 0 l:=⟨_,rfl⟩;rw [<- o]
 obtain ⟨r,w,j⟩:=WL (l:=l) (σ:=Unit) (s:=((0:Int),((0:Int),(0:Int)))) (λk _=>((0:Int),((0:Int),(k:Int)))) (λm k _=>X6 (if k=0 then none else (l[k-1]?).map (·.1)) k m=T/\(∀ y,k≠0->l[k-1]? = some y->kE y=0)) (λ(r:Nat×((Int×(Int×Int))×Unit))=>(r.1=1/\T=(0,0))\/(r.1=0/\T=(r.2.1.2.1,r.2.1.1)))
  (f:=λs0=>br (SW s0.2.2 (l.length:Int)) (λ_=>RX s0.2.2 λq=>ix l q λA=>bd (VI A) λd=>br (RR d 0) (λ_=>br (SU s0.2.2 0) (λ_=>RX (Rp .i64 s0.2.2 1) λt=>ix l t λB=>RX s0.2.2 λu=>ix l u λC=>bd (Ve (B.1,C.1)) λz=>br (RS z 0) (λ_=>some (.dn ((0,((6,(s0.2.2,s0.2.2)),()))))) λ_=>br (RT d 0) (λ_=>some (.dn ((0,((d,(s0.2.2,s0.2.2)),()))))) λ_=>some (.nx ((s0.1,(s0.2.1,Rl .i64 s0.2.2 1))))) λ_=>br (RT d 0) (λ_=>some (.dn ((0,((d,(s0.2.2,s0.2.2)),()))))) λ_=>some (.nx ((s0.1,(s0.2.1,Rl .i64 s0.2.2 1))))) λ_=>br (RT d 0) (λ_=>some (.dn ((0,((d,(s0.2.2,s0.2.2)),()))))) λ_=>some (.nx ((s0.1,(s0.2.1,Rl .i64 s0.2.2 1))))) λ_=>some (.dn ((1,(s0,())))))
  () rfl (by omega) ⟨o.symm,λ_ h=>absurd rfl h⟩ (λ_ h=>by
   refine ⟨_,by simp only;rw [re];rfl,.inl ⟨rfl,?_⟩⟩;rw [<- h.1];simp [X6]) (λk x m _ D g p h=>by
   simp only;obtain ⟨h,c⟩:=h;rw [rl p,R5,S9,Sb g,Yx,SL,Sn];unfold X6 at h
   have next:kE x=0->(T=X6 (some x.1) (k+1) m)->X6 (if k+1=0 then none else (l[k+1-1]?).map (·.1)) (k+1) m=T/\(∀ y,k+1≠0->l[k+1-1]? = some y->kE y=0):=λa e=>by
    rw [if_neg (by omega),Nat.add_sub_cancel,g,e];exact ⟨rfl,λy _ i=>by cases i;exact a⟩
   by_cases a:kE x=0
   ·rw [if_pos a,Sp];rw [if_neg (by simp [a])] at h;by_cases b:k=0
    ·rw [if_neg (by omega),Ss,if_pos a];rw [if_pos b] at h;exact .inl ⟨(),by rw [TL g (by omega)],next a h.symm⟩
    ·have i:l[k-1]? = some (l[k-1]'(by omega)):=by rw [List.getElem?_eq_getElem]
     rw [if_pos (by omega),show Rp .i64 (k:Int) 1=((k-1:Nat):Int) by rw [SB (by omega)];omega,S9,Sb i,S9,Sb g];rw [if_neg b,i] at h;simp only [Option.map_some] at h;rw [eV _ _ (by have:=Ze (c _ b i);omega) (by have:=Ze a;omega),SL,So];by_cases hs:Rz (l[k-1]'(by omega)).1 x.1=true
     ·rw [if_neg (λe=>by rw [dI,hs] at e;cases e),Ss,if_pos a];rw [if_pos hs] at h;exact .inl ⟨(),by rw [TL g (by omega)],next a h.symm⟩
     ·rw [if_pos ((dI _ _).2 (by simpa using hs))];rw [if_neg hs] at h;exact .inr ⟨_,rfl,.inr ⟨rfl,h.symm⟩⟩
   ·rw [if_neg a,Ss,if_neg a];rw [if_pos a] at h
    exact .inr ⟨_,rfl,.inr ⟨rfl,h.symm⟩⟩)
 refine Tc w ?_;rw [SM];rcases j with ⟨j,n⟩ | ⟨j,n⟩
 ·rw [if_neg (show ¬ r.1=0 by omega),n]
 ·rw [if_pos j,n]
theorem kU (p q:TD) (d:Vi p) (e:Vi q):V1 ([p,q],(0,1))=some (w0 p q):=by
 unfold V1 w0;refine (Vv 0 rfl (x:=p) rfl).trans ((Vv 1 rfl (x:=q) rfl).trans ?_);rw [beq_eq,Uo,Ut,Tn,Sx];by_cases a:p.2=q.2
 ·rw [if_neg (show ¬ ¬ p.2=q.2 by simp [a]),if_neg (show ¬ p.2≠q.2 by simp [a])];by_cases b:p.2=true
  ·rw [if_pos b,d b,e (a ▸ b)];rfl
  ·rw [if_neg b,Tn,Vm];by_cases c:p.1=q.1
   ·rw [if_pos c,if_neg (by simp [c])];rfl
   ·rw [if_neg c,if_pos c]
 ·rw [if_pos a,if_pos a]
theorem ZN (p q:TD) (n:Nat) (k:Int) (h:2<=k) (a:k<=100):Mx TV (n+1) ([p,q],k)=some (k-2,0):=by
 show TV (Mx TV n) ([p,q],k)=_;unfold TV;show br (RS k 2) (λ_=>some (Rp .i64 k 2,0)) _=_;rw [So,if_pos h,SB (by omega)]
theorem Zn (p q:TD) (a:Vi p) (b:Vi q):WY ([p,q],1)=some (if w0 p q=true then (0,1) else (1,0)):=by
 show TV (Mx TV 99) ([p,q],1)=_;unfold TV;show br (RS (1:Int) 2) (λ_=>some (Rp .i64 (1:Int) 2,0)) (λ_=>bd (Mx TV (98+1) ([p,q],2)) λc=>bd (Mx TV (98+1) ([p,q],3)) _)=_;rw [So,if_neg (by omega),ZN p q 98 2 (by omega) (by omega),SL,ZN p q 98 3 (by omega) (by omega),SL];show bd (V1 ([p,q],(0,1))) _=_;rw [kU p q a b,SL,Sx];cases h:w0 p q<;>rfl
theorem kQ (p q:TD) (a:Vi p) (c:Vi q):WZ [p,q]=some (Tt p q):=by
 unfold WZ;refine Eq.trans (b:=bd (loop _ (1,([p,q],([0,0],0)))) _) rfl ?_;refine Tc (x:=(0,((2,([p,q],([0,if w0 p q=true then 1 else 0],0))),()))) (Ug (n:=2) (by omega) ((Tf (s':=(2,([p,q],([0,if w0 p q=true then 1 else 0],0)))) ?_).trans (Tl rfl))) ?_
 ·show bd (WY ([p,q],1)) _=_;rw [Zn p q a c,SL];refine (YC 1 rfl (x:=(0:Int)) rfl).trans ?_;cases h:w0 p q<;>rfl
 ·rw [Zn p q a c,SL];unfold Tt;cases h:w0 p q<;>rfl
theorem dx {l:List TD} (h : ∀ k∈l,Vi k) (c:l≠[]) (f:l.length<=32):WB l=some 0:=by
 unfold WB;simp only [TH,TF];rw [Sn,Sp,if_neg (by have:=List.length_pos_iff.2 c;omega),if_neg (by omega)]
 rw [U5 (l:=l) (σ:=Unit) (s:=((0:Int),(0:Int))) (λk _=>((k:Int),(0:Int))) (λ_ _ _=>True) (λ_ _ _=>(1,(((l.length:Int),0),()))) () rfl (by omega) trivial (λe _=>by
  simp only;rw [re];rfl) (λk x m e _ a d _=>⟨(),by
   simp only;rw [rl d,R5,S9,Sb a,Sx,TL a (by omega)];by_cases b:x.2=true
   ·rw [if_pos b,S9,Sb a,Tn,Vm,if_pos (h x (List.mem_of_getElem? a) b)]
   ·rw [if_neg b],trivial,rfl⟩),SL]
 rfl
theorem dW (p q:TD) (a:Vi p) (b:Vi q):Vf [p,q]=some (Tt p q,0):=by
 unfold Vf;rw [dx (by simp [a,b]) (by simp) (by simp),SL,Ss,if_pos rfl,kQ p q a b,SL]
end
section
open Go Go.Proofs.YtfilfloanndddaaGreat.Sv
theorem Wv:Uu=Tu:=rfl
theorem Zo:Xm=TJ:=rfl
theorem cN (l m:List TD) (i:l.length<=9223372036854775806) (j:l.length=m.length) : ∃ r,loop (λs1=>br (SW s1.1 (l.length:Int)) (λ_=>RX s1.1 λn=>ix l n λf=>RX s1.1 λo=>ix m o λg=>br (Hf (NX (seq f.1 g.1) (NX (Sv.beq f.2 g.2) true))) (λ_=>some (LR.dn ((0:Nat),((s1.1,false),())))) λ_=>some (.nx (Rl .i64 s1.1 1,s1.2))) λ_=>some (.dn ((1,(s1,()))))) ((0:Int),false)=some r/\((l=m/\r.1=1)\/(l≠m/\r.1=0/\r.2.1.2=false)):=by
 refine Xd l m j i (λk x y a d => ?_) (by simp only;rw [re];rfl);have c:=(List.getElem?_eq_some_iff.1 a).1
 have b : ∀ {β:Type} (u v:Unit->Option β),br (Hf (NX (seq x.1 y.1) (NX (Sv.beq x.2 y.2) true))) u v=if x=y then v () else u ():=by
  intro β u v;rw [Yj,Ye,beq_eq,Xj,Uo,Ut];by_cases e:x=y
  ·subst e;simp
  ·rw [if_pos (λh=>e (Prod.ext h.1 h.2)),if_neg e]
 constructor
 ·intro e;simp only;rw [rl c,R5,S9,Sb a,S9,Sb d,b,if_pos e,TK (by omega)]
 ·intro e;simp only;rw [rl c,R5,S9,Sb a,S9,Sb d,b,if_neg e]
theorem Zp (s t:VV) (g:s.1.length<=1000) (h:s.2.1.length<=1000):W4 (s,t)=some (decide (s=t)):=by
 obtain ⟨b,d,k⟩:=s;obtain ⟨c,f,l⟩:=t;simp only at g h;unfold W4;simp only [TH,TF];rw [Ss];by_cases e1:(b.length:Int)=(c.length:Int);rotate_left
 ·rw [if_neg e1];have : ¬ b=c:=λe=>e1 (by rw [e]);simp [this]
 rw [if_pos e1,Ss];by_cases e2:k=l;rotate_left
 ·rw [if_neg e2];simp [e2]
 rw [if_pos e2,Zo,XW _ _ (by omega),SL,Uo,Ut];by_cases e3:d=f;rotate_left
 ·rw [if_pos e3];simp [e3]
 rw [if_neg (show ¬ ¬ d=f by simp [e3])];obtain ⟨r,i,a⟩:=cN b c (by omega) (by omega);refine Tc i ?_;rw [SM];rcases a with ⟨e,a⟩ | ⟨e,a,j⟩
 ·rw [if_neg (show ¬ r.1=0 by omega)];simp [e,e2,e3]
 ·rw [if_pos a,j];simp [e]
theorem bV (s t:TC) (u:s.1.length<=1000) (g : ∀ l∈s.1,l.length<=1000000) (w:s.2.1.length<=1000) (h:s.2.2.1.length<=1000) (i:s.2.2.2.1.length<=1000):Xo (s,t)=some (decide (s=t)):=by
 obtain ⟨a,n,o⟩:=s;obtain ⟨d,p,q⟩:=t;simp only at u g w h i;unfold Xo;simp only [TH,TF];rw [Ss];by_cases e1:(a.length:Int)=(d.length:Int);rotate_left
 ·rw [if_neg e1];have : ¬ a=d:=λe=>e1 (by rw [e]);simp [this]
 rw [if_pos e1,Zo,XW _ _ (by omega),SL,Uo,Ut];by_cases e2:n=p;rotate_left
 ·rw [if_pos e2];simp [e2]
 rw [if_neg (show ¬ ¬ n=p by simp [e2]),Zp _ _ h i,SL,Uo,Ut];by_cases e3:o=q;rotate_left
 ·rw [if_pos e3];simp [e3]
 rw [if_neg (show ¬ ¬ o=q by simp [e3])]
 obtain ⟨r,C,c⟩:=Xd a d (by omega) (by omega) (f:=λs2=>br (SW s2.1 (a.length:Int)) (λ_=>RX s2.1 λA=>ix a A λF=>RX s2.1 λB=>ix d B λG=>bd (Uu (F,G)) λE=>br (Hf E) (λ_=>some (.dn ((0,((s2.1,false),()))))) λ_=>some (.nx (Rl .i64 s2.1 1,s2.2))) λ_=>some (.dn ((1,(s2,()))))) (λk x y b m=>by
   have j:=(List.getElem?_eq_some_iff.1 b).1;have z:=g x (List.mem_of_getElem? b);constructor
   ·intro e;simp only;rw [rl j,R5,S9,Sb b,S9,Sb m,Wv,WT _ _ (by omega),SL,Uo,Ut,if_neg (by simp [e]),TK (by omega)]
   ·intro e;simp only
    rw [rl j,R5,S9,Sb b,S9,Sb m,Wv,WT _ _ (by omega),SL,Uo,Ut,if_pos e]) (by simp only;rw [re];rfl)
 refine Tc C ?_;rw [SM];rcases c with ⟨e,c⟩ | ⟨e,c,D⟩
 ·rw [if_neg (show ¬ r.1=0 by omega)];simp [e,e2,e3]
 ·rw [if_pos c,D];simp [e]
theorem cO (x y:W3) (a:x.1.1.length<=1000) (b : ∀ l∈x.1.1,l.length<=1000000) (c:x.1.2.1.length<=1000) (d:x.1.2.2.1.length<=1000) (e:x.1.2.2.2.1.length<=1000) (f:x.2.2.1.length<=1000000):UI (x,y)=some (decide (x=y)):=by
 obtain ⟨i,⟨xs,k,h⟩,g,j⟩:=x;obtain ⟨n,⟨q,r,m⟩,p,o⟩:=y;simp only at a b c d e f;unfold UI;simp only [bV _ _ a b c d e,Wv,WT _ _ (show g.length<=9223372036854775806 by omega),SL,Ut,VS,Ye,beq_eq,Yj,Xj]
 repeat' split
 all_goals simp_all
section
variable {a b:List S8} (va:VL a) (vb:VL b)
include va vb
theorem Yc:VJ [a,b]=some (0,0):=by
 have c:=va.len;have d:=vb.len;unfold VJ;refine Eq.trans (b:=bd (loop _ (0,(0,0))) _) rfl ?_;refine Tc (x:=(1,((0,(0,2)),()))) (Un (s1:=(0,(0,1))) (s2:=(0,(0,2))) ?_ ?_ rfl) rfl
 ·refine (ZQ 0 rfl rfl (x:=a) rfl).trans ?_;rw [Wn _ (by omega),X7 va,SL];rfl
 ·refine (ZQ 1 rfl rfl (x:=b) rfl).trans ?_;rw [Wn _ (by omega),X7 vb,SL];rfl
theorem Xv {i j:Nat} (hi:i<=a.length) (g:j<=b.length):WD ([a,b],[(i:Int),(j:Int)])=some (if i=a.length/\j=b.length then -1 else if W8 a b i j=true then 0 else 1):=by
 have k:=va.len;have l:=vb.len;unfold WD;simp only [TH,TF];refine Tc (x:=(0,((if i=a.length/\j=b.length then -1 else if W8 a b i j=true then 0 else 1,2),()))) (Un (s1:=(if i=a.length then -1 else 0,1)) (s2:=(if i=a.length/\j=b.length then -1 else if W8 a b i j=true then 0 else 1,2)) ?_ ?_ rfl) rfl
 ·refine (ZQ 0 rfl rfl (x:=(i:Int)) rfl).trans ((Vv 0 rfl (x:=a) rfl).trans ?_);rw [Sr];by_cases h:i=a.length
  ·rw [if_neg (by omega),if_pos h];rfl
  ·rw [if_pos (by omega),if_neg h];rfl
 ·refine (ZQ 1 rfl rfl (x:=(j:Int)) rfl).trans ((Vv 1 rfl (x:=b) rfl).trans ?_);rw [Sr];by_cases h:j=b.length
  ·rw [if_neg (by omega)];by_cases c:i=a.length
   ·rw [if_pos c,if_pos ⟨c,h⟩];rfl
   ·rw [if_neg c,if_neg (λe=>c e.1)];have d:a[i]? = some (a[i]'(by omega)):=by simp
    rw [dA d (List.getElem?_eq_none (by omega))];rfl
  ·have f:b[j]? = some (b[j]'(by omega)):=by simp
   rw [if_pos (by omega),Sr,if_neg (λe:i=a.length/\j=b.length=>h e.2)];by_cases c:i=a.length
   ·rw [if_pos c,if_pos (by omega),dB (List.getElem?_eq_none (by omega)) f];rfl
   ·rw [if_neg c,if_neg (by omega)];have d:a[i]? = some (a[i]'(by omega)):=by simp
    refine (Vv 1 rfl (x:=b) rfl).trans ((Vv 1 rfl (x:=(j:Int)) rfl).trans ((Vv j rfl f).trans ((Vv 0 rfl (x:=a) rfl).trans ((Vv 0 rfl (x:=(i:Int)) rfl).trans ((Vv i rfl d).trans ?_)))));rw [Wj,Zc d f];cases hs:Rz (b[j]'(by omega)).1 (a[i]'(by omega)).1<;>rfl
theorem Xw {i j:Nat} (hi:i<=a.length) (e:j<=b.length):Ux ([a,b],[(i:Int),(j:Int)])=some (Yg a b i j):=by
 have f:=va.len;have g:=vb.len;unfold Ux;simp only [TH,TF];rw [Tw (show [a,b].length<=1048576 from (show 2<=1048576 by omega)),Tw (show [(i:Int),(j:Int)].length<=1048576 from (show 2<=1048576 by omega))];refine Tc (x:=(0,((2,[kx a i,kx b j]),()))) (Un (s1:=(1,[kx a i])) (s2:=(2,[kx a i,kx b j])) ?_ ?_ rfl) ?_
 ·refine (ZQ 0 rfl rfl (x:=(i:Int)) rfl).trans ((Vv 0 rfl (x:=a) rfl).trans ?_);rw [VS,Uo,Ut];by_cases h:i=a.length
  ·have c:((i:Int)=(a.length:Int)):=by omega
   rw [if_neg (show ¬ ¬ ((i:Int)=(a.length:Int)) by simp [c]),Ys (List.getElem?_eq_none (by omega))];simp only [c,decide_true];rfl
  ·have d:a[i]? = some (a[i]'(by omega)):=by simp
   have c : ¬ ((i:Int)=(a.length:Int)):=by omega
   rw [if_pos c];refine (Vv 0 rfl (x:=a) rfl).trans ((Vv 0 rfl (x:=(i:Int)) rfl).trans ((Vv i rfl d).trans ?_));rw [Wf d];simp only [c,decide_false];rfl
 ·refine (ZQ 1 rfl rfl (x:=(j:Int)) rfl).trans ((Vv 1 rfl (x:=b) rfl).trans ?_);rw [VS,Uo,Ut];by_cases h:j=b.length
  ·have c:((j:Int)=(b.length:Int)):=by omega
   rw [if_neg (show ¬ ¬ ((j:Int)=(b.length:Int)) by simp [c]),Ys (l:=b) (i:=j) (List.getElem?_eq_none (by omega))];simp only [c,decide_true];rfl
  ·have d:b[j]? = some (b[j]'(by omega)):=by simp
   have c : ¬ ((j:Int)=(b.length:Int)):=by omega
   rw [if_pos c];refine (Vv 1 rfl (x:=b) rfl).trans ((Vv 1 rfl (x:=(j:Int)) rfl).trans ((Vv j rfl d).trans ?_));rw [Wf (l:=b) (i:=j) d];simp only [c,decide_false];rfl
 ·show bd (Vf [kx a i,kx b j]) _=_;rw [dW _ _ (UB _ _) (UB _ _)];rfl
theorem dM {i:Nat} {l:List S8} (h:i≠0) (hi:i<=l.length) : ∃ x,l[i-1]? = some x:=⟨l[i-1]'(by omega),by simp⟩
theorem ZG {i j:Nat} (I:Inv a b i j):WC (Yg a b i j)=some (0,0):=by
 have t:=va.len;have u:=vb.len;have hi:=I.ia;have k:=I.jb;unfold WC;rw [show (Yg a b i j).1=[a,b] from rfl,Yc va vb,SL,Ss,if_pos rfl];rw [show (Yg a b i j).2.1=[(i:Int),(j:Int)] from rfl,Ss,if_pos (show Kb (AS [(i:Int),(j:Int)])=Kb (AS [a,b]) from rfl)];refine Tc (x:=(1,((0,(0,2)),()))) (Un (s1:=(0,(0,1))) (s2:=(0,(0,2))) ?_ ?_ rfl) ?_
 ·refine (ZQ 0 rfl rfl (x:=(i:Int)) rfl).trans ?_;rw [Sr,if_neg (by omega)];refine (Vv 0 rfl (x:=(i:Int)) rfl).trans ((Vv 0 rfl (x:=a) rfl).trans ?_);rw [Sp,if_neg (by simp only [TH,TF];omega)];rfl
 ·refine (ZQ 1 rfl rfl (x:=(j:Int)) rfl).trans ?_;rw [Sr,if_neg (by omega)];refine (Vv 1 rfl (x:=(j:Int)) rfl).trans ((Vv 1 rfl (x:=b) rfl).trans ?_);rw [Sp,if_neg (by simp only [TH,TF];omega)];rfl
 rw [show neq ((1:Nat),(((0:Int),((0:Int),(2:Int))),())).1 0=false from rfl,Rd,Xw va vb hi k,SL,Zp (Yg a b i j).2.2 (Yg a b i j).2.2 (show 2<=1000 by omega) (show 2<=1000 by omega),SL,Uo,Ut,if_neg (show ¬ ¬ (Yg a b i j).2.2=(Yg a b i j).2.2 by simp),Xv va vb hi k,SL];by_cases r:i=a.length/\j=b.length
 ·rw [if_pos r];refine Tc (x:=(1,((0,(0,0)),()))) (Ug (n:=1) (by omega) (Tl ?_)) rfl;rfl
 rw [if_neg r];cases g:W8 a b i j with
 | true =>
  rw [if_pos rfl]
  have p:i<a.length:=by
   refine Nat.lt_of_not_le λh' => ?_;have o:j<b.length:=by omega
   rw [dB (List.getElem?_eq_none h') (show b[j]? = some (b[j]'o) by simp)] at g;cases g
  have e:a[i]? = some (a[i]'p):=by simp
  refine Tc (x:=(1,((0,(0,2)),()))) (Un (s1:=(0,(0,1))) (s2:=(0,(0,2))) ?_ ?_ rfl) rfl
  ·show br (SW (0:Int) 2) _ _=_;rw [Sr,if_pos (by omega),So,if_pos (by omega)];refine (Vv 0 rfl (x:=(i:Int)) rfl).trans ?_;rw [Sn];by_cases f:i=0
   ·rw [if_pos (by omega)];rfl
   ·rw [if_neg (by omega)];obtain ⟨y,d⟩:=dM va vb (l:=a) f hi;refine (Vv 0 rfl (x:=a) rfl).trans ((Vv 0 rfl (x:=(i:Int)) rfl).trans ?_);rw [show Rp .i64 (i:Int) 1=((i-1:Nat):Int) by rw [SB (by omega)];omega,S9,Sb d];refine (Vv 0 rfl (x:=a) rfl).trans ((Vv 0 rfl (x:=(i:Int)) rfl).trans ((Vv i rfl e).trans ?_));have c:=va.lt d (show a[i-1+1]? = some _ by rw [show i-1+1=i by omega];exact e);rw [Wj,if_neg (by rw [Us c];simp),Vm,if_neg (YG c)];rfl
  ·show br (SW (1:Int) 2) _ _=_;rw [Sr,if_pos (by omega),So,if_pos (by omega)];refine (Vv 1 rfl (x:=(j:Int)) rfl).trans ?_;rw [Sn];by_cases f:j=0
   ·rw [if_pos (by omega)];rfl
   ·rw [if_neg (by omega)];obtain ⟨y,d⟩:=dM va vb (l:=b) f k;refine (Vv 1 rfl (x:=b) rfl).trans ((Vv 1 rfl (x:=(j:Int)) rfl).trans ?_);rw [show Rp .i64 (j:Int) 1=((j-1:Nat):Int) by rw [SB (by omega)];omega,S9,Sb d];refine (Vv 0 rfl (x:=a) rfl).trans ((Vv 0 rfl (x:=(i:Int)) rfl).trans ((Vv i rfl e).trans ?_));have c:=I.pb (j-1) (by omega) y _ d e;rw [Wj,if_neg (by rw [Us c];simp),Vm,if_neg (YG c)];rfl
 | false =>
  rw [if_neg (by simp)]
  have h:j<b.length:=by
   refine Nat.lt_of_not_le λh' => ?_;have m:i<a.length:=by omega
   rw [dA (show a[i]? = some (a[i]'m) by simp) (List.getElem?_eq_none h')] at g;cases g
  have e:b[j]? = some (b[j]'h):=by simp
  refine Tc (x:=(1,((0,(0,2)),()))) (Un (s1:=(0,(0,1))) (s2:=(0,(0,2))) ?_ ?_ rfl) rfl
  ·show br (SW (0:Int) 2) _ _=_;rw [Sr,if_pos (by omega),So,if_pos (by omega)];refine (Vv 0 rfl (x:=(i:Int)) rfl).trans ?_;rw [Sn];by_cases f:i=0
   ·rw [if_pos (by omega)];rfl
   ·rw [if_neg (by omega)];obtain ⟨y,d⟩:=dM va vb (l:=a) f hi;refine (Vv 0 rfl (x:=a) rfl).trans ((Vv 0 rfl (x:=(i:Int)) rfl).trans ?_);rw [show Rp .i64 (i:Int) 1=((i-1:Nat):Int) by rw [SB (by omega)];omega,S9,Sb d];refine (Vv 1 rfl (x:=b) rfl).trans ((Vv 1 rfl (x:=(j:Int)) rfl).trans ((Vv j rfl e).trans ?_));have q:=I.pa (i-1) (by omega) y _ d e;rw [Wj,if_neg (by rw [q];simp),Vm];by_cases s:y.1=(b[j]'h).1
    ·rw [if_pos s];rfl
    ·rw [if_neg s];rfl
  ·show br (SW (1:Int) 2) _ _=_;rw [Sr,if_pos (by omega),So,if_pos (by omega)];refine (Vv 1 rfl (x:=(j:Int)) rfl).trans ?_;rw [Sn];by_cases f:j=0
   ·rw [if_pos (by omega)];rfl
   ·rw [if_neg (by omega)];obtain ⟨y,d⟩:=dM va vb (l:=b) f k;refine (Vv 1 rfl (x:=b) rfl).trans ((Vv 1 rfl (x:=(j:Int)) rfl).trans ?_);rw [show Rp .i64 (j:Int) 1=((j-1:Nat):Int) by rw [SB (by omega)];omega,S9,Sb d];refine (Vv 1 rfl (x:=b) rfl).trans ((Vv 1 rfl (x:=(j:Int)) rfl).trans ((Vv j rfl e).trans ?_));have c:=vb.lt d (show b[j-1+1]? = some _ by rw [show j-1+1=j by omega];exact e);rw [Wj,if_neg (by rw [Us c];simp),Vm,if_neg (YG c)];rfl
end
end
section
open Go Go.Proofs.YtfilfloanndddaaGreat.Sv
section
variable {a b:List S8} (va:VL a) (vb:VL b)
include va vb
theorem fL {n:Nat} {x:S8} (h:n<a.length+b.length) (d:ZM a b n=some x):Wa (YV a b n)=some (x,((Zu a b n:Int),(YV a b (n+1),0))):=by
 obtain ⟨i,hs⟩:=Vw va vb (n:=n) (by omega);obtain ⟨j,k⟩:=Vw va vb (n:=n+1) (by omega);have l:=va.len;have m:=vb.len;have e:=i.ia;have f:=i.jb;unfold Wa;rw [show YV a b n=Yg a b (TM a b n).1 (TM a b n).2 from rfl,ZG va vb i,SL,Ss,if_pos rfl,show (Yg a b (TM a b n).1 (TM a b n).2).1=[a,b] from rfl,show (Yg a b (TM a b n).1 (TM a b n).2).2.1=[((TM a b n).1:Int),((TM a b n).2:Int)] from rfl,Xv va vb e f,SL,if_neg (λhh:(TM a b n).1=a.length/\(TM a b n).2=b.length=>by omega)];unfold ZM at d;have c:TM a b (n+1)=if W8 a b (TM a b n).1 (TM a b n).2=true then ((TM a b n).1+1,(TM a b n).2) else ((TM a b n).1,(TM a b n).2+1):=rfl
 unfold YV Zu;cases g:W8 a b (TM a b n).1 (TM a b n).2 with
 | true =>
  rw [g,if_pos rfl] at c;rw [g,if_pos rfl] at d;have hi:=(List.getElem?_eq_some_iff.1 d).1;rw [if_pos rfl,Sr,if_neg (by omega),Tw (show AS [((TM a b n).1:Int),((TM a b n).2:Int)]<=1048576 from (show 2<=1048576 by omega))];refine (YC 0 rfl (x:=((TM a b n).1:Int)) rfl).trans ((YC 0 rfl (x:=((TM a b n).1:Int)) rfl).trans ((Vv 0 rfl (x:=a) rfl).trans ((Vv 0 rfl (x:=((TM a b n).1:Int)) rfl).trans ((Vv _ rfl d).trans ?_))));rw [TK (by omega),show lset [((TM a b n).1:Int),((TM a b n).2:Int)] 0 (((TM a b n).1+1:Nat):Int)=[(((TM a b n).1+1:Nat):Int),((TM a b n).2:Int)] from rfl,Xw va vb (by omega) f,SL,c];rfl
 | false =>
  rw [g,if_neg (by simp)] at c;rw [g,if_neg (by simp)] at d;have hi:=(List.getElem?_eq_some_iff.1 d).1;rw [if_neg (by simp),Sr,if_neg (by omega),Tw (show AS [((TM a b n).1:Int),((TM a b n).2:Int)]<=1048576 from (show 2<=1048576 by omega))];refine (YC 1 rfl (x:=((TM a b n).2:Int)) rfl).trans ((YC 1 rfl (x:=((TM a b n).2:Int)) rfl).trans ((Vv 1 rfl (x:=b) rfl).trans ((Vv 1 rfl (x:=((TM a b n).2:Int)) rfl).trans ((Vv _ rfl d).trans ?_))));rw [TK (by omega),show lset [((TM a b n).1:Int),((TM a b n).2:Int)] 1 (((TM a b n).2+1:Nat):Int)=[((TM a b n).1:Int),(((TM a b n).2+1:Nat):Int)] from rfl,Xw va vb e (by omega),SL,c];rfl
theorem fK {n:Nat} (h:n<=a.length+b.length):Xn (YV a b n)=some (((a.length+b.length-n:Nat):Int),0):=by
 obtain ⟨c,hs⟩:=Vw va vb (n:=n) h;have f:=va.len;have g:=vb.len;have d:=c.ia;have e:=c.jb;unfold Xn;rw [show YV a b n=Yg a b (TM a b n).1 (TM a b n).2 from rfl,ZG va vb c,SL,Ss,if_pos rfl];refine Tc (x:=(0,((2,((a.length+b.length-n:Nat):Int)),()))) (Un (s1:=(1,(a.length:Int)-((TM a b n).1:Int))) (s2:=(2,((a.length+b.length-n:Nat):Int))) ?_ ?_ rfl) rfl
 ·refine (ZQ 0 rfl rfl (x:=a) rfl).trans ((Vv 0 rfl (x:=((TM a b n).1:Int)) rfl).trans ?_);simp only [TH,TF];rw [show Rl .i64 (0:Int) (a.length:Int)=(a.length:Int) by rw [R9 (by omega),Int.zero_add],SB (by omega)];rfl
 ·refine (ZQ 1 rfl rfl (x:=b) rfl).trans ((Vv 1 rfl (x:=((TM a b n).2:Int)) rfl).trans ?_);simp only [TH,TF];show some (LR.nx ((2:Int),Rp .i64 (Rl .i64 ((a.length:Int)-((TM a b n).1:Int)) (b.length:Int)) ((TM a b n).2:Int)))=_;rw [R9 (by omega),SB (by omega),show (a.length:Int)-((TM a b n).1:Int)+(b.length:Int)-((TM a b n).2:Int)=((a.length+b.length-n:Nat):Int) by omega]
theorem dJ:W0 [a,b]=some (TU a b (a.length+b.length),(XD a b (a.length+b.length),0)):=by
 have l:=va.len;have m:=vb.len;unfold W0;rw [Yc va vb,SL,Ss,if_pos rfl];refine Eq.trans (b:=bd (loop _ ([],([],([],(0,([],[0,0])))))) _) rfl ?_
 refine Tc (x:=(0,((XD a b (a.length+b.length),(TU a b (a.length+b.length),0)),())))
  (Xe (λk=>([],(TU a b k,([],(0,(XD a b k,[((TM a b k).1:Int),((TM a b k).2:Int)])))))) 0 (a.length+b.length) rfl (by omega) (by omega) (λk _ j => ?_) ?_) rfl
 ·obtain ⟨x,c,_⟩:=VT va vb (n:=k) j;obtain ⟨d,hs⟩:=Vw va vb (n:=k) (by omega);have e:(TU a b k).length=k:=Ur va vb (by omega);have f:=ZA a b k;simp only;rw [Xv va vb d.ia d.jb,SL,if_neg (λhh:(TM a b k).1=a.length/\(TM a b k).2=b.length=>by omega)];rw [WM va vb c];unfold ZM at c;rw [show XD a b (k+1)=XD a b k++[(Zu a b k:Int)] from rfl];unfold Zu;rw [show TM a b (k+1)=if W8 a b (TM a b k).1 (TM a b k).2=true then ((TM a b k).1+1,(TM a b k).2) else ((TM a b k).1,(TM a b k).2+1) from rfl]
  have h : ∀ {β:Type} (y:S8) (q:Unit->Option β),gd (CD (BD (AS (TU a b k)) (AS [y])) 1048576) q=q ():=λy q=>Tw (by simp only [BD,AS,e,List.length_cons,List.length_nil];omega) q;have i : ∀ {β:Type} (y:Int) (q:Unit->Option β),gd (CD (BD (AS (XD a b k)) (AS [y])) 1048576) q=q ():=λy q=>Tw (by simp only [BD,AS,f,List.length_cons,List.length_nil];omega) q;cases g:W8 a b (TM a b k).1 (TM a b k).2 with
  | true =>
   rw [g,if_pos rfl] at c;have hi:=(List.getElem?_eq_some_iff.1 c).1;simp only [if_true];rw [Sr,if_neg (by omega)];refine (Vv 0 rfl (x:=a) rfl).trans ((YC 0 rfl (x:=((TM a b k).1:Int)) rfl).trans ((Vv _ rfl c).trans ?_));rw [h,i];refine (YC 0 rfl (x:=((TM a b k).1:Int)) rfl).trans ((YC 0 rfl (x:=((TM a b k).1:Int)) rfl).trans ?_);rw [TK (by omega)];rfl
  | false =>
   rw [g,if_neg (by simp)] at c;have hi:=(List.getElem?_eq_some_iff.1 c).1;simp only [Bool.false_eq_true,if_false];rw [Sr,if_neg (by omega)];refine (Vv 1 rfl (x:=b) rfl).trans ((YC 1 rfl (x:=((TM a b k).2:Int)) rfl).trans ((Vv _ rfl c).trans ?_));rw [h,i];refine (YC 1 rfl (x:=((TM a b k).2:Int)) rfl).trans ((YC 1 rfl (x:=((TM a b k).2:Int)) rfl).trans ?_);rw [TK (by omega)];rfl
 ·obtain ⟨d,hs⟩:=Vw va vb (n:=a.length+b.length) (Nat.le_refl _);simp only;rw [Xv va vb d.ia d.jb,SL,if_pos (show (TM a b (a.length+b.length)).1=a.length/\(TM a b (a.length+b.length)).2=b.length by have:=d.ia;have:=d.jb;omega),Sr,if_pos (by omega)]
end
theorem ba {s:UH} (b:s.2.1.length<=32) (a:s.1=false->s.2.1=[]):XS s=some 0:=by
 unfold XS;rw [Sp,if_neg (by simp only [TH,Xz];omega),Tn,Sx];cases h:s.1 with
 | true=>rfl
 | false=>rw [if_neg (by simp),Tn,Vm,if_pos (a h)]
theorem cR {s:UH} {x:S8} (e:s.2.1.length<=32) (f:s.1=false->s.2.1=[]) (g:kE x=0) (a:s.1=true->Rz x.1 s.2.1=false):Xp (s,x)=some (keep s x,((true,(x.1,s.2.2)),0)):=by
 unfold Xp keep;rw [ba e f,SL,Sn,if_pos rfl,Yx,g,SL,Sn,if_pos rfl];obtain ⟨s1,s2,c⟩:=s;obtain ⟨h,i,d,j⟩:=x;simp only at a ⊢;cases s1 with
 | true =>
  have:=a rfl;simp only [R5,Wj,this,Bool.false_eq_true,if_false,Ss,if_true,Tn,Vm];by_cases b:h=s2
  ·simp [b,Rd]
  ·simp only [b,if_false,decide_false];cases c<;>cases d<;>rfl
 | false =>
  simp only [Rd,Ss,if_true,Tn];cases c<;>cases d<;>rfl
theorem cK {l:List S8} {b:Bool} (t:l.length<=20000) (r:Y6 (false,([],b)) l):XE (l,b)=some (Vl (false,([],b)) l,(0,0)):=by
 unfold XE Uy;simp only [TH,TF];rw [Sp,if_neg (by omega),SL]
 rw [U5 (l:=l) (σ:=UH×List S8) (s:=(0,(0,([],([],(0,(false,([],b)))))))) (λk a=>((0:Int),((k:Int),(([]:List S8),(a.2,((0:Int),a.1))))))
  (λm k a=>Y6 a.1 m/\a.1.2.1.length<=32/\(a.1.1=false->a.1.2.1=[])/\a.2.length<=k/\k+m.length=l.length)
  (λm k a=>(1,((0,((l.length:Int),([],(a.2++Vl a.1 m,(0,Ua a.1 m))))),()))) ((false,([],b)),[]) rfl (by omega) ⟨r,by simp,λ_=>rfl,by simp,by simp⟩ ?_ ?_,SL]
 ·simp;rfl
 ·intro a _;simp only;rw [re,Rd];simp [Ua,Vl]
 ·rintro k x m ⟨s,out⟩ u d p ⟨⟨c,e,f⟩,g,i,j,n⟩;simp only at c e f g i j ⊢;refine ⟨((true,(x.1,s.2.2)),out++if keep s x=true then [x] else []),?_,⟨f,Ze c,(λh=>by cases h),?_,by simp at n;omega⟩,?_⟩
  ·rw [rl p,R5,S9,Sb d,cR g i c e,SL,Ss,if_pos rfl,Sx,S9,Sb d];have o : ∀ {β:Type} (k:Unit->Option β),gd (CD (BD out.length [x].length) 1048576) k=k ():=λk=>cz j (by simp at n;omega) x k;rw [o,TL d (show l.length<=9223372036854775807 by omega)];cases q:keep s x<;>simp [Ik]
  ·split<;>simp<;>omega
  ·simp only [Ua,Vl,List.append_assoc]
section
variable {a b:List S8} (va:VL a) (vb:VL b)
include va vb
theorem Z7 (c:Bool) {n:Nat} (h:n<=a.length+b.length):Vr (TU a b n,c)=some (Vl (s0 c) (TU a b n),Ua (s0 c) (TU a b n)):=by
 have f:=va.len;have g:=vb.len;have d:(TU a b n).length=n:=Ur va vb h;unfold Vr;simp only [TH,TF];rw [cK (by omega) (Wo va vb c h),SL];unfold Uy;rw [SL,Sp,d];cases n with
 | zero=>rw [if_neg (by omega)];rfl
 | succ m =>
  obtain ⟨x,e,_⟩:=VT va vb (n:=m) (by omega);rw [if_pos (by omega),show Rp .i64 ((m+1:Nat):Int) 1=(m:Int) by rw [SB (by omega)];omega,S9,Sb (x:=x) (by rw [Xf va vb h (by omega)];exact e),YB va vb c e]
theorem bZ (c:Bool) {n:Nat} (h:n<=a.length+b.length):Wb (U6 a b c n)=some (n:Int):=by
 obtain ⟨d,hs⟩:=Vw va vb (n:=n) h;have e:=va.len;have f:=vb.len;unfold Wb;refine Tc (x:=(0,(((n:Int),2),()))) (Un (s1:=(((TM a b n).1:Int),1)) (s2:=((n:Int),2)) ?_ ?_ rfl) rfl
 ·refine (ZQ 0 rfl rfl (x:=((TM a b n).1:Int)) rfl).trans ?_;show some (LR.nx (Rl .i64 0 ((TM a b n).1:Int),(1:Int)))=_;rw [R9 (by omega),Int.zero_add]
 ·refine (ZQ 1 rfl rfl (x:=((TM a b n).2:Int)) rfl).trans ?_;show some (LR.nx (Rl .i64 ((TM a b n).1:Int) ((TM a b n).2:Int),(2:Int)))=_;rw [R9 (by omega),show ((TM a b n).1:Int)+((TM a b n).2:Int)=(n:Int) by omega]
theorem bf (c:Bool) {n:Nat} (h:n<=a.length+b.length):XT (U6 a b c n)=some 0:=by
 obtain ⟨d,hs⟩:=Vw va vb (n:=n) h;have g:=va.len;have i:=vb.len;have e:=XX (s0 c) (TU a b n);have f:(TU a b n).length=n:=Ur va vb h;unfold XT;rw [show (U6 a b c n).1=Yg a b (TM a b n).1 (TM a b n).2 from rfl,ZG va vb d,SL,Ss,if_pos rfl,bZ va vb c h,SL];simp only [TH,TF];rw [show (U6 a b c n).2.2.1=Vl (s0 c) (TU a b n) from rfl,show (U6 a b c n).2.2.2=(n:Int) from rfl,show (U6 a b c n).2.1=Ua (s0 c) (TU a b n) from rfl,Sp,if_neg (by omega),Sp,if_neg (by omega),Ss,if_pos rfl];rw [show (Yg a b (TM a b n).1 (TM a b n).2).1=[a,b] from rfl,dJ va vb,SL,S9];rw [Tw (by rw [Ur va vb (Nat.le_refl _)];exact h),Tw (Nat.zero_le _)];rw [show Dy (TU a b (a.length+b.length)) 0 n=TU a b n from by unfold Dy;rw [List.drop_zero,Nat.sub_zero];exact W2 va vb h,Wg];rw [show (s0 c).2.2=c from rfl,Z7 va vb c h,SL,Wv,WT _ _ (by omega),SL,Uo,Ut,if_neg (by simp),Wg,XL,XL,Xx];rfl
theorem Yd (c:Bool) {n:Nat} (h:n<=a.length+b.length):Tp (U6 a b c n)=some (((a.length+b.length-n:Nat):Int),0):=by
 unfold Tp;rw [bf va vb c h,SL,Ss,if_pos rfl,show (U6 a b c n).1=YV a b n from rfl,fK va vb h];rfl
theorem Zs (c:Bool) {n:Nat} (h:n<=a.length+b.length) {k:Nat}:Th (U6 a b c n,(k:Int))=some (U6 a b c (n+min k (a.length+b.length-n)),(((min k (a.length+b.length-n):Nat):Int),0)):=by
 have i:=va.len;have l:=vb.len;obtain ⟨u,e⟩ : ∃ u,u=min k (a.length+b.length-n):=⟨_,rfl⟩
 have d:Sz (k:Int) ((a.length+b.length-n:Nat):Int)=(u:Int):=by
  unfold Sz;split<;>omega
 rw [<- e];unfold Th;rw [Yd va vb c h,SL,Sn,if_pos rfl];simp only [d,TH,TF];rw [Sr,if_neg (by omega),Ss,if_pos rfl,bZ va vb c h,SL,R9 (by omega),Sp,if_neg (by omega)]
 refine Tc (x:=(0,(((u:Int),((YV a b (n+u)).1,((YV a b (n+u)).2.1,((YV a b (n+u)).2.2.1,((YV a b (n+u)).2.2.2.1,((YV a b (n+u)).2.2.2.2,((U6 a b c n).2.1.1,((U6 a b c n).2.1.2.1,((U6 a b c n).2.1.2.2,(U6 a b c n).2.2))))))))),())))
  (Xe (λj=>((j:Int),((YV a b (n+j)).1,((YV a b (n+j)).2.1,((YV a b (n+j)).2.2.1,((YV a b (n+j)).2.2.2.1,((YV a b (n+j)).2.2.2.2,((U6 a b c n).2.1.1,((U6 a b c n).2.1.2.1,((U6 a b c n).2.1.2.2,(U6 a b c n).2.2)))))))))) 0 u rfl (by omega) (by omega) (λj _ g => ?_) ?_) ?_
 ·obtain ⟨y,f,_⟩:=VT va vb (n:=n+j) (by omega);show br (SW (j:Int) (u:Int)) _ _=_;rw [Sr,if_pos (by omega)];show bd (Wa (YV a b (n+j))) _=_;rw [fL va vb (by omega) f,SL,TK (by omega)];rfl
 ·show br (SW (u:Int) (u:Int)) _ _=_;rw [Sr,if_neg (by omega)]
 ·rw [show (U6 a b c n).1.1=[a,b] from rfl,dJ va vb,SL,show (U6 a b c n).2.2.2=(n:Int) from rfl,show Rl .i64 (n:Int) (u:Int)=((n+u:Nat):Int) by rw [R9 (by omega)];omega,S9];rw [Tw (by rw [Ur va vb (Nat.le_refl _)];omega),Tw (Nat.zero_le _)];rw [show Dy (TU a b (a.length+b.length)) 0 (n+u)=TU a b (n+u) from by unfold Dy;rw [List.drop_zero,Nat.sub_zero];exact W2 va vb (by omega),show (U6 a b c n).2.1.2.2=c from Wg _ _,Z7 va vb c (by omega),SL];rfl
end
end
section
open Go Go.Proofs.YtfilfloanndddaaGreat.Sv
theorem aL (B:Int) (i:Nat):UV B (i+1)=2*UV B i:=by
 unfold UV;rw [Int.pow_succ,<- Int.mul_assoc,Int.mul_comm]
theorem bc {B:Int} {i:Nat} (a:1<=B) (b:B<=16) (hi:i<=12):VB (B,(i:Int))=some (UV B i):=by
 unfold VB;refine Tc (x:=(0,((UV B i,(i:Int)),()))) (Zh (λk=>(UV B k,(k:Int))) i (by simp [UV]) (by omega) (λk d => ?_) ?_) rfl
 ·have c:=bj a b (show k<=12 by omega);simp only;rw [Sr,if_pos (by omega),SA (by omega),TK (by omega),aL]
 ·simp only;rw [Sr,if_neg (by omega)]
theorem kr (r:Tb) (b:r.2.length<=9223372036854775807):WA r=some (if r.1<1\/r.1>1000000 then (-1,7) else V5 r.2):=by
 unfold WA;rw [Sr,Sp,Wn _ b,SL];by_cases h:r.1<1
 ·rw [if_pos h,if_pos (.inl h)]
 ·rw [if_neg h];by_cases a:r.1>1000000
  ·rw [if_pos a,if_pos (.inr a)]
  ·rw [if_neg a,if_neg (by omega)]
theorem fQ (r:Tb) (most:Int) (a:List Int) (z:r.2.length<=9223372036854775807) (hi:a.length<=1048576):VW (r,(most,a))=some (kR a most r):=by
 unfold VW kR;rw [kr r (by omega),SL];simp only [TH,TF];by_cases h:r.1<1\/r.1>1000000
 ·rw [if_pos h,if_pos h];rfl
 rw [if_neg h,if_neg h,Ss];by_cases b:(V5 r.2).2=0;rotate_left
 ·rw [if_neg b,if_pos b]
 rw [if_pos b,if_neg (show ¬ (V5 r.2).2≠0 by simp [b]),Sn,Sp];by_cases i:r.2.length=0
 ·rw [if_pos (by omega),if_pos i]
 rw [if_neg (by omega),if_neg i];by_cases c:(r.2.length:Int)>most
 ·rw [if_pos c,if_pos c]
 rw [if_neg c,if_neg c]
 obtain ⟨q,p,d⟩:=WL (l:=a) (σ:=Unit) (s:=((0:Int),(0:Int))) (λk _=>((k:Int),(0:Int))) (λm k _=>r.1∈a<->r.1∈m) (λ(q:Nat×((Int×Int)×Unit))=>(q.1=1/\r.1 ∉ a)\/(q.1=0/\r.1∈a/\q.2.1.2=8))
  (f:=λs1=>br (SW s1.1 (a.length:Int)) (λ_=>RX s1.1 λo=>ix a o λw=>br (RR w r.1) (λ_=>some (.dn ((0,((s1.1,8),()))))) λ_=>some (.nx (Rl .i64 s1.1 1,s1.2))) λ_=>some (.dn ((1,(s1,())))))
  () rfl (by omega) Iff.rfl (λ_ h=>⟨_,by simp only;rw [re];rfl,.inl ⟨rfl,by simpa using h⟩⟩) (λk x m _ y j n h=>by
   simp only;rw [rl n,R5,S9,Sb j,Sn];by_cases e:x=r.1
   ·rw [if_pos e];exact .inr ⟨_,rfl,.inr ⟨rfl,by rw [h,e];simp,rfl⟩⟩
   ·rw [if_neg e];exact .inl ⟨(),by rw [TL j (by omega)],by rw [h,List.mem_cons];exact ⟨λu=>u.elim (λe2=>absurd e2.symm e) id,.inr⟩⟩)
 refine Tc p ?_;rw [SM];rcases d with ⟨d,g⟩ | ⟨d,g,t⟩
 ·rw [if_neg (show ¬ q.1=0 by omega),if_neg g]
 ·rw [if_pos d,if_pos g,t]
theorem ah (L:TB) (hb:L.2.length<=1048576) (hr : ∀ rs∈L.2,rs.length<=1048576 /\ ∀ r∈rs,r.2.length<=9223372036854775807):Uf L=some (Vj L):=by
 unfold Uf Vj;simp only [TH,TF];rw [Sr,Sp,Sp];by_cases n:L.1<1
 ·rw [if_pos n,if_pos (.inl n)]
 rw [if_neg n];by_cases o:L.1>16
 ·rw [if_pos o,if_pos (.inr o)]
 rw [if_neg o,if_neg (show ¬ (L.1<1\/L.1>16) by omega)];by_cases S:(L.2.length:Int)>12
 ·rw [if_pos S,if_pos (by omega)]
 rw [if_neg S,if_neg (by omega)];have hl2:L.2.length<=12:=by omega
 obtain ⟨T,N⟩ : ∃ T,T=YP L.1 0 [] L.2:=⟨_,rfl⟩;rw [<- N]
 have p:T=none->(br (SU (L.2.length:Int) 0) (λ_=>RX (Rp .i64 (L.2.length:Int) 1) λD=>ix L.2 D λJ=>br (RR (J.length:Int) 0) (λ_=>some ((Rp .i64 (L.2.length:Int) 1,((0:Int),(6:Int))))) λ_=>some ((0,(0,0)))) λ_=>some ((0,(0,0))))=some (if L.2.getLast? = some [] then (((L.2.length-1:Nat):Int),(0,6)) else (0,(0,0))):=by
  intro _;rw [Sp];by_cases X:L.2=[]
  ·rw [X];rfl
  ·have hp:=List.length_pos_iff.2 X;rw [if_pos (by omega),show Rp .i64 (L.2.length:Int) 1=((L.2.length-1:Nat):Int) by rw [SB (by omega)];omega,S9,List.getLast?_eq_getElem?];have d:L.2[L.2.length-1]? = some (L.2[L.2.length-1]'(by omega)):=by simp
   rw [Sb d,d,Sn];by_cases C:L.2[L.2.length-1]'(by omega)=[]
   ·rw [C];simp
   ·rw [if_neg (by have:=List.length_pos_iff.2 C;omega),if_neg (by simp [C])]
 obtain ⟨r,G,j⟩:=WL (l:=L.2) (σ:=List Int) (s:=((0:Int),(([]:List Int),((0:Int),((0:Int),(0:Int)))))) (λi a=>((0:Int),(a,((0:Int),((0:Int),(i:Int))))))
  (λm i a=>YP L.1 i a m=T/\a.length<=2*i) (λ(r:Nat×((Int×(List Int×(Int×(Int×Int))))×Unit))=>(r.1=1/\T=none)\/(r.1=0/\Q1 T r.2.1.1 r.2.1.2.2.1 r.2.1.2.2.2.1/\T≠none))
  (f:=λ(s0:(Int×((List Int)×(Int×(Int×Int)))))=>br (SW s0.2.2.2.2 (L.2.length:Int)) (λ_=>RX s0.2.2.2.2 λk1=>ix L.2 k1 λB=>br (SU (B.length:Int) 2) (λ_=>some (.dn ((0,((0,(s0.2.1,(s0.2.2.2.2,(3,s0.2.2.2.2)))),()))))) λ_=>bd (loop (λ(b:(Int×((List Int)×(Int×(Int×Int)))))=>br (SW b.2.2.2.2 (B.length:Int)) (λ_=>RX b.2.2.2.2 λE=>ix B E λK=>bd (VB (L.1,s0.2.2.2.2)) λI=>bd (VW ((K,(I,b.2.1)))) λy=>br (RT y 0) (λ_=>some (.dn ((0,((b.2.2.2.2,(b.2.1,(s0.2.2.2.2,(y,b.2.2.2.2)))),()))))) λ_=>RX b.2.2.2.2 λF=>ix B F λz=>gd (CD (BD b.2.1.length [z.1].length) 1048576) λ_=>some (.nx ((b.1,(Ik b.2.1 [z.1],(b.2.2.1,(b.2.2.2.1,Rl .i64 b.2.2.2.2 1))))))) λ_=>some (.dn ((1,(b,()))))) ((s0.1,(s0.2.1,(s0.2.2.1,(s0.2.2.2.1,0)))))) λc=>br (neq c.1 0) (λ_=>some (.dn ((0,((c.2.1.1,(c.2.1.2.1,(c.2.1.2.2.1,(c.2.1.2.2.2.1,s0.2.2.2.2)))),()))))) λ_=>some (.nx ((c.2.1.1,(c.2.1.2.1,(c.2.1.2.2.1,(c.2.1.2.2.2.1,Rl .i64 s0.2.2.2.2 1))))))) λ_=>some (.dn ((1,(s0,())))))
  [] rfl (by omega) ⟨N.symm,by simp⟩ (λa h=>by
   refine ⟨_,by simp only;rw [re];rfl,.inl ⟨rfl,?_⟩⟩;rw [<- h.1];rfl) (λi rs m a Z d hi h=>by
   obtain ⟨h,P⟩:=h;simp only;obtain ⟨Y,u⟩:=hr rs (List.mem_of_getElem? d);rw [rl hi,R5,S9,Sb d,Sp];unfold YP at h;by_cases M:rs.length>2
   ·rw [if_pos (by omega)];rw [if_pos M] at h;refine .inr ⟨_,rfl,.inr ⟨rfl,?_,by rw [<- h];simp⟩⟩;rw [<- h];exact ⟨rfl,rfl,rfl⟩
   rw [if_neg (by omega)];rw [if_neg M] at h;obtain ⟨U,O⟩ : ∃ U,U=YQ (UV L.1 i) 0 a rs:=⟨_,rfl⟩;rw [<- O] at h
   obtain ⟨r,G,j⟩:=WL (l:=rs) (σ:=Unit) (s:=((0:Int),(a,((0:Int),((0:Int),(0:Int)))))) (λk _=>((0:Int),(a++(rs.take k).map (·.1),((0:Int),((0:Int),(k:Int))))))
    (λm k _=>YQ (UV L.1 i) k (a++(rs.take k).map (·.1)) m=U) (λ(r:Nat×((Int×(List Int×(Int×(Int×Int))))×Unit))=>(r.1=1/\U=none/\r.2.1=(0,(a++rs.map (·.1),(0,(0,(rs.length:Int))))))\/(r.1=0 /\ ∃ k e,U=some (k,e)/\r.2.1.1=(k:Int)/\r.2.1.2.2.1=(i:Int)/\r.2.1.2.2.2.1=e))
    (f:=λ(b:(Int×((List Int)×(Int×(Int×Int)))))=>br (SW b.2.2.2.2 (rs.length:Int)) (λ_=>RX b.2.2.2.2 λE=>ix rs E λK=>bd (VB (L.1,(i:Int))) λI=>bd (VW ((K,(I,b.2.1)))) λy=>br (RT y 0) (λ_=>some (.dn ((0,((b.2.2.2.2,(b.2.1,((i:Int),(y,b.2.2.2.2)))),()))))) λ_=>RX b.2.2.2.2 λF=>ix rs F λz=>gd (CD (BD b.2.1.length [z.1].length) 1048576) λ_=>some (.nx ((b.1,(Ik b.2.1 [z.1],(b.2.2.1,(b.2.2.2.1,Rl .i64 b.2.2.2.2 1))))))) λ_=>some (.dn ((1,(b,())))))
    () (by simp) (by omega) (by simp [O]) (λ_ h=>by
     refine ⟨_,by simp only;rw [re];rfl,.inl ⟨rfl,by rw [<- h];rfl,by simp⟩⟩) (λk r m _ Z d hk h=>by
     simp only;have hr2:=u r (List.mem_of_getElem? d);have w:(rs.take (k+1)).map (·.1)=(rs.take k).map (·.1)++[r.1]:=by rw [List.take_add_one,d];simp
     have W:(a++(rs.take k).map (·.1)).length<=100:=by simp;omega
     rw [rl hk,R5,S9,Sb d,bc (by omega) (by omega) (by omega),SL,fQ _ _ _ (by omega) (by omega),SL,Ss];unfold YQ at h;by_cases A:kR (a++(rs.take k).map (·.1)) (UV L.1 i) r=0
     ·rw [if_neg (λhh:kR (a++(rs.take k).map (·.1)) (UV L.1 i) r≠0=>hh A)] at h;rw [if_pos A,S9,Sb d,Tw (by simp only [BD,List.length_cons,List.length_nil];omega)];refine .inl ⟨(),?_,?_⟩
      ·rw [TL d (by omega),w,<- List.append_assoc];rfl
      ·rw [w,<- List.append_assoc];exact h
     ·rw [if_pos A] at h;rw [if_neg A]
      exact .inr ⟨_,rfl,.inr ⟨rfl,_,_,h.symm,rfl,rfl,rfl⟩⟩)
   rw [G,SL,SM];rcases j with ⟨j,g,x⟩ | ⟨j,k,e,g,x,q5,q6⟩
   ·rw [if_neg (show ¬ r.1=0 by omega),x,TL d (by omega)];rw [g] at h;exact .inl ⟨a++rs.map (·.1),rfl,h,by simp;omega⟩
   ·rw [if_pos j];rw [g] at h;refine .inr ⟨_,rfl,.inr ⟨rfl,?_,by rw [<- h];simp⟩⟩;rw [<- h]
    exact ⟨x,q5,q6⟩)
 refine Tc G ?_;rw [SM];rcases j with ⟨j,g⟩ | ⟨j,g,x⟩
 ·rw [if_neg (show ¬ r.1=0 by omega),g];exact p g
 ·rw [if_pos j];cases q:T with
  | none=>exact absurd q x
  | some t =>
   obtain ⟨i,k,e⟩:=t;rw [q] at g;rw [g.1,g.2.1,g.2.2]
def Uh (ls:List (List Tb)):List Tb:=ls.flatMap List.reverse
theorem VLev.small {L:TB} (v:VLev L):L.2.length<=1048576 /\ ∀ rs∈L.2,rs.length<=1048576 /\ ∀ r∈rs,r.2.length<=9223372036854775807:=by
 refine ⟨by have:=v.len;omega,λrs a => ?_⟩;obtain ⟨i,hi⟩:=List.getElem?_of_mem a;obtain ⟨d,b⟩:=v.lev i rs hi;exact ⟨by omega,λr c=>by have:=(b r c).vl.len;omega⟩
theorem ZL : ∀ (ls:List (List Tb)),(∀ rs∈ls,rs.length<=2)->(Uh ls).length<=2*ls.length
 | [],_=>by simp [Uh]
 | rs::ls,h=>by
  have a:=ZL ls λr b=>h r (by simp [b]);have c:=h rs (by simp);unfold Uh at a ⊢;rw [List.flatMap_cons,List.length_append,List.length_reverse,List.length_cons];omega
theorem VLev.two {L:TB} (v:VLev L) : ∀ rs∈L.2,rs.length<=2:=λrs a=>by
 obtain ⟨i,hi⟩:=List.getElem?_of_mem a;exact (v.lev i rs hi).1
theorem cQ {L:TB} (v:VLev L):Vs L=some (Uh L.2,0):=by
 obtain ⟨d,b⟩:=v.small;have f:=v.len;unfold Vs;simp only [TH,TF];rw [ah _ d b,Wh v,SL,Ss,if_pos rfl]
 rw [U5 (l:=L.2) (σ:=List Tb) (s:=(([]:List Tb),(0:Int))) (λi m=>(m,(i:Int))) (λls i m=>(∀ rs∈ls,rs.length<=2)/\m.length<=2*i) (λls _ m=>(0,((m++Uh ls,(L.2.length:Int)),()))) [] rfl (by omega) ⟨v.two,by simp⟩ (λm _=>by
  simp only;rw [re,Rd];simp [Uh]) (λi rs ls m e a hi h=>by
   refine ⟨m++rs.reverse,?_,⟨λr b=>h.1 r (by simp [b]),by have:=h.1 rs (by simp);simp;omega⟩,by simp [Uh]⟩;have c:=h.1 rs (by simp);have g:m.length<=24:=by have:=h.2;omega
   simp only;rw [rl hi,R5,S9,Sb a];have gg : ∀ {β:Type} (z:List Tb) (x:Tb) (k:Unit->Option β),z.length<=100->gd (CD (BD z.length [x].length) 1048576) k=k ():=λz x k j=>Tw (by simp only [BD,List.length_cons,List.length_nil];omega) k
   match rs,c,a with
   | [],_,a =>
    refine Tc (x:=(0,((m,-1),()))) (Ug (n:=1) (by omega) (Tl rfl)) ?_;rw [TL a (by omega)];simp
   | [r0],_,a =>
    refine Tc (x:=(0,((m++[r0],-1),()))) (Ug (n:=2) (by omega) ((Tf (s':=(m++[r0],-1)) ?_).trans (Tl rfl))) ?_
    ·show br (RS (0:Int) 0) _ _=_;rw [So,if_pos (by omega),S9,Sb a];refine (Vv 0 rfl (x:=r0) rfl).trans ?_;rw [gg m _ _ (by omega)];rfl
    ·rw [TL a (by omega)];simp
   | [r0,r1],_,a =>
    refine Tc (x:=(0,((m++[r1]++[r0],-1),()))) (Ug (n:=3) (by omega) ((Tf (s':=(m++[r1],0)) ?_).trans ((Tf (s':=(m++[r1]++[r0],-1)) ?_).trans (Tl rfl)))) ?_
    ·show br (RS (1:Int) 0) _ _=_;rw [So,if_pos (by omega),S9,Sb a];refine (Vv 1 rfl (x:=r1) rfl).trans ?_;rw [gg m _ _ (by omega)];rfl
    ·show br (RS (0:Int) 0) _ _=_;rw [So,if_pos (by omega),S9,Sb a];refine (Vv 0 rfl (x:=r0) rfl).trans ?_;rw [gg (m++[r1]) _ _ (by simp;omega)];rfl
    ·rw [TL a (by omega)];simp),SL]
 simp
theorem We (a b:Int):S0 a b=max a b:=by unfold S0;split<;>omega
theorem V6 : ∀ (l:List Tb) (m:Int),0<=m->l.foldl (λm r=>S0 m r.1) m=max m (l.foldl (λm r=>S0 m r.1) 0)
 | [],m,h=>by simp;omega
 | r::l,m,h=>by
  have a:=V6 l (S0 m r.1) (by rw [We];omega);have b:=V6 l (S0 0 r.1) (by rw [We];omega);simp only [List.foldl_cons];rw [a,b,We,We];omega
theorem Z4 (l:List Tb) (m:Int) (h:0<=m):l.reverse.foldl (λm r=>S0 m r.1) m=l.foldl (λm r=>S0 m r.1) m:=by
 induction l generalizing m with
 | nil=>rfl
 | cons r l a =>
  rw [List.reverse_cons,List.foldl_append,a m h,List.foldl_cons];simp only [List.foldl_cons,List.foldl_nil];rw [V6 l m h,V6 l (S0 m r.1) (by rw [We];omega),We,We];omega
theorem aW (l:List Tb) (m:Int) (h:0<=m):0<=l.foldl (λm r=>S0 m r.1) m:=by
 rw [V6 l m h];omega
theorem X2 : ∀ (ls:List (List Tb)) (m:Int),0<=m->(Uh ls).foldl (λm r=>S0 m r.1) m=ls.foldl (λm rs=>rs.foldl (λm r=>S0 m r.1) m) m
 | [],m,_=>rfl
 | rs::ls,m,h=>by
  have a:=X2 ls (rs.foldl (λm r=>S0 m r.1) m) (aW _ _ h);unfold Uh at a ⊢;rw [List.flatMap_cons,List.foldl_append,Z4 rs m h,List.foldl_cons,a]
theorem af {L:TB} (v:VLev L):UZ L=some (V2 L.2):=by
 have d:=v.len;have e:=ZL L.2 v.two;unfold UZ;simp only [TH,TF];rw [cQ v,SL]
 rw [U5 (l:=Uh L.2) (σ:=Int) (s:=((0:Int),(0:Int))) (λi m=>(m,(i:Int))) (λ_ _ _=>True) (λl _ m=>(0,((l.foldl (λm r=>S0 m r.1) m,((Uh L.2).length:Int)),()))) 0 rfl (by omega) trivial (λm _=>by
  simp only;rw [re,Rd];rfl) (λk r l m c a b _=>⟨S0 m r.1,by
   simp only
   rw [rl b,R5,S9,Sb a,TL a (by omega)],trivial,rfl⟩),SL]
 rw [X2 _ _ (by omega)];rfl
theorem ZS {L:TB} (e:L.2.length<=1000):UD L=some (TI 0 L.2):=by
 unfold UD;simp only [TH,TF]
 rw [U5 (l:=L.2) (σ:=List Int) (s:=(([]:List Int),(0:Int))) (λi m=>(m,(i:Int))) (λls i m=>m++TI i ls=TI 0 L.2) (λ_ _ _=>(0,((TI 0 L.2,(L.2.length:Int)),()))) [] rfl (by omega) rfl (λm h=>by
  simp only;rw [re,Rd,<- h];simp [TI]) (λi rs ls m d b hi h=>by
   refine ⟨m++(if rs.length=2 then [(i:Int)] else []),?_,?_,rfl⟩
   ·simp only;rw [rl hi,R5,S9,Sb b,Sn]
    have f:m.length<=1000:=by
     have a:=congrArg List.length h;have c:=VN L.2 0;rw [List.length_append] at a;omega
    by_cases a:rs.length=2
    ·rw [if_pos (by omega),if_pos a,Tw (by simp only [BD,List.length_cons,List.length_nil];omega),TL b (by omega)];rfl
    ·rw [if_neg (by omega),if_neg a,List.append_nil,TL b (by omega)]
   ·rw [List.append_assoc];exact h),SL]
theorem lY {L:TB} (v:VLev L) (k:Int):XF (L,k)=some (if k<0\/k>=12 then 7 else 0):=by
 obtain ⟨c,d⟩:=v.small;unfold XF;rw [ah _ c d,Wh v,SL,Sn,if_pos rfl,Sr,So];by_cases a:k<0
 ·rw [if_pos a,if_pos (.inl a)]
 ·rw [if_neg a];by_cases b:k>=12
  ·rw [if_pos b,if_pos (.inr b)]
  ·rw [if_neg b,if_neg (by omega)]
theorem Zr {L:TB} (v:VLev L) {n:Nat} (b:n<L.2.length):Tk (L,(n:Int))=some (decide ((n:Int)=(L.2.length:Int)-1)):=by
 have a:=v.len;unfold Tk Ws;simp only [TH,TF];rw [lY v,SL,if_neg (by omega),Ss,if_pos rfl,SL,TK (by omega)];unfold SU;rw [Uo];by_cases h:(n:Int)=(L.2.length:Int)-1
 ·simp [h]
 ·simp [h];omega
theorem cM {a b:List S8} (va:VL a) (d:VL b) (c:Bool):WE ([a,b],c)=some (U6 a b c 0,(0,0)):=by
 unfold WE Wr Uy;rw [Yc va d,SL,Ss,if_pos rfl];refine Eq.trans (b:=bd (bd (Ux ([a,b],[((0:Nat):Int),((0:Nat):Int)])) _) _) rfl ?_;rw [Xw va d (Nat.zero_le _) (Nat.zero_le _)];rfl
theorem aJ {L:TB} {n:Nat} {a b:Tb} (c:Bool) (h:L.2[n]? = some [a,b]) (d:VL a.2) (e:VL b.2):TT (L,((n:Int),c))=some ((n:Int),U6 b.2 a.2 c 0):=by
 have f:=(List.getElem?_eq_some_iff.1 h).1;unfold TT;simp only [TH,TF];rw [So,if_neg (by omega),S9,Sb h,Sb (x:=b) rfl,Sb (x:=a) rfl,cM e d];rfl
theorem ko {L:TB} {n:Nat} {a b:Tb} {j:Job} (h:L.2[n]? = some [a,b]) (e:VL a.2) (f:VL b.2) {β:Type} (A B:Option β) :
  (bd (TT (L,((n:Int),j.2.2.1.2.2))) λc=>bd (Tp c.2) λl=>br (SW j.2.2.2.2 0) (λ_=>A) λ_=>br (SU j.2.2.2.2 l.1) (λ_=>A) λ_=>bd (Th (c.2,j.2.2.2.2)) λm=>bd (UI (m.1,j.2)) λo=>br (Hf o) (λ_=>A) λ_=>B)
  = if j.2.2.2.2<0\/j.2.2.2.2>((b.2.length+a.2.length:Nat):Int) then A else if U6 b.2 a.2 j.2.2.1.2.2 j.2.2.2.2.toNat=j.2 then B else A:=by
 rw [aJ _ h e f,SL,Yd f e _ (Nat.zero_le _),SL,Sr,Sp,Nat.sub_zero];by_cases g:j.2.2.2.2<0
 ·rw [if_pos g,if_pos (.inl g)]
 rw [if_neg g];by_cases i:j.2.2.2.2>((b.2.length+a.2.length:Nat):Int)
 ·rw [if_pos i,if_pos (.inr i)]
 rw [if_neg i,if_neg (show ¬ (j.2.2.2.2<0\/j.2.2.2.2>((b.2.length+a.2.length:Nat):Int)) by omega)];obtain ⟨k,p⟩ : ∃ k:Nat,j.2.2.2.2=(k:Int):=⟨j.2.2.2.2.toNat,by omega⟩;rw [p,Zs f e _ (Nat.zero_le _),SL,Nat.sub_zero,Nat.zero_add,Nat.min_eq_left (by omega),Int.toNat_natCast];obtain ⟨s1,s2,q,r,s,t⟩:=Z6 f e j.2.2.1.2.2 (n:=k) (by omega);rw [cO _ _ s1 s2 q r s t,SL,Uo,Ut];by_cases d:U6 b.2 a.2 j.2.2.1.2.2 k=j.2
 ·rw [if_neg (by simp [d]),if_pos d]
 ·rw [if_pos d,if_neg d]
end
section
open Go Go.Proofs.YtfilfloanndddaaGreat.Sv
theorem bX (s:TA) (J:s.1.2.length<=1048576) (hr : ∀ rs∈s.1.2,rs.length<=1048576 /\ ∀ r∈rs,r.2.length<=9223372036854775807) (hj:s.2.1.length<=1048576):WF s=some (TE s):=by
 unfold WF TE;simp only [TH,TF];rw [ah _ J hr,SL,Sn];by_cases o:(Vj s.1).2.2=0;rotate_left
 ·rw [if_neg o,if_pos o,Sn,if_neg o,Ss,if_neg o]
 rw [if_pos o,if_neg (show ¬ (Vj s.1).2.2≠0 by simp [o]),Sr,Sp];have v:=XM.1 o;by_cases y:s.2.2<1
 ·rw [if_pos y,if_pos (.inl y)]
 rw [if_neg y];by_cases p:s.2.2>1000001
 ·rw [if_pos p,if_pos (.inr p)]
 rw [if_neg p,if_neg (show ¬ (s.2.2<1\/s.2.2>1000001) by omega),Sn,if_pos o,af v,SL,Sq];by_cases m:s.2.2<=V2 s.1.2
 ·rw [if_pos m,if_pos m]
 rw [if_neg m,if_neg m,Ss,if_pos o,ZS (by have:=v.len;omega),SL];obtain ⟨a,g⟩ : ∃ a,a=TI 0 s.1.2:=⟨_,rfl⟩;have hdl:a.length<=12:=by have:=VN s.1.2 0;have:=v.len;rw [g];omega
 rw [<- g];obtain ⟨T,Z⟩ : ∃ T,T=WK s.1 a 0 s.2.1:=⟨_,rfl⟩;rw [<- Z]
 obtain ⟨r,q1,D⟩:=WL (l:=s.2.1) (σ:=Unit) (λi _=>((0:Int),((0:Int),(i:Int)))) (λjs i _=>WK s.1 a i js=T) (λ(r:Nat×((Int×(Int×Int))×Unit))=>(T=none/\r.1=1)\/(∃ i:Nat,T=some i/\r.1=0/\r.2.1.1=6/\r.2.1.2.1=(i:Int)))
  (f:=λb=>br (SW b.2.2 (s.2.1.length:Int)) (λ_=>RX b.2.2 λk7=>ix s.2.1 k7 λe=>br (RS b.2.2 (a.length:Int)) (λ_=>some (.dn ((0,((6,(b.2.2,b.2.2)),()))))) λ_=>RX b.2.2 λk9=>ix a k9 λX=>br (RT e.1 X) (λ_=>some (.dn ((0,((6,(b.2.2,b.2.2)),()))))) λ_=>br e.2.2.1.2.2 (λ_=>bd (Tk (s.1,e.1)) λM=>br (Hf M) (λ_=>some (.dn ((0,((6,(b.2.2,b.2.2)),()))))) λ_=>bd (TT ((s.1,(e.1,e.2.2.1.2.2)))) λG=>bd (Tp G.2) λN=>br (SW e.2.2.2.2 0) (λ_=>some (.dn ((0,((6,(b.2.2,b.2.2)),()))))) λ_=>br (SU e.2.2.2.2 N.1) (λ_=>some (.dn ((0,((6,(b.2.2,b.2.2)),()))))) λ_=>bd (Th (G.2,e.2.2.2.2)) λO=>bd (UI (O.1,e.2)) λP=>br (Hf P) (λ_=>some (.dn ((0,((6,(b.2.2,b.2.2)),()))))) λ_=>some (.nx ((b.1,(b.2.1,Rl .i64 b.2.2 1))))) λ_=>bd (TT ((s.1,(e.1,e.2.2.1.2.2)))) λI=>bd (Tp I.2) λS=>br (SW e.2.2.2.2 0) (λ_=>some (.dn ((0,((6,(b.2.2,b.2.2)),()))))) λ_=>br (SU e.2.2.2.2 S.1) (λ_=>some (.dn ((0,((6,(b.2.2,b.2.2)),()))))) λ_=>bd (Th (I.2,e.2.2.2.2)) λU=>bd (UI (U.1,e.2)) λW=>br (Hf W) (λ_=>some (.dn ((0,((6,(b.2.2,b.2.2)),()))))) λ_=>some (.nx ((b.1,(b.2.1,Rl .i64 b.2.2 1))))) λ_=>some (.dn ((1,(b,())))))
  (s:=(0,(0,0))) () rfl (by omega) Z.symm (λ_ h=>by
   refine ⟨_,by simp only;rw [re];rfl,.inl ⟨by rw [<- h];rfl,rfl⟩⟩) (λi j js _ hd hx hi h=>by
   simp only;rw [rl hi,R5,S9,Sb hx,So];unfold WK at h
   have c:YO s.1 a i j=true -> ∃ r:Nat×((Int×(Int×Int))×Unit),(some (LR.dn ((0,((6,((i:Int),(i:Int))),()))):LR (Int×(Int×Int)) _))=some (.dn r)/\((T=none/\r.1=1)\/(∃ i:Nat,T=some i/\r.1=0/\r.2.1.1=6/\r.2.1.2.1=(i:Int))):=λJ=>by
    rw [if_pos J] at h;exact ⟨_,rfl,.inr ⟨i,h.symm,rfl,rfl,rfl⟩⟩
   have x:YO s.1 a i j=false -> ∃ st':Unit,(some (LR.nx ((0:Int),((0:Int),Rl .i64 (i:Int) 1))):Option (LR _ (Nat×((Int×(Int×Int))×Unit))))=some (.nx ((0:Int),((0:Int),((i+1:Nat):Int))))/\WK s.1 a (i+1) js=T:=λhg=>by
    rw [if_neg (by simp [hg])] at h;exact ⟨(),by rw [TL hx (by omega)],h⟩
   by_cases y:(i:Int)>=(a.length:Int)
   ·rw [if_pos y];exact .inr (c (by unfold YO;rw [List.getElem?_eq_none (by omega)]))
   rw [if_neg y,S9];have w:a[i]? = some (a[i]'(by omega)):=by simp
   rw [Sb w,Ss];obtain ⟨n,K,E,F,t⟩:=W6 (ls:=s.1.2) (i:=0) (k:=i) (d:=a[i]'(by omega)) (by rw [<- g];exact w);rw [Nat.zero_add] at K
   have q:YO s.1 a i j=(if j.1≠(a[i]'(by omega)) then true else if j.2.2.1.2.2=true/\j.1≠(s.1.2.length:Int)-1 then true else if j.2.2.2.2<0\/j.2.2.2.2>((F.2.length+E.2.length:Nat):Int) then true else decide (U6 F.2 E.2 j.2.2.1.2.2 j.2.2.2.2.toNat≠j.2)):=by
    unfold YO;rw [w];simp only;rw [K,Int.toNat_natCast,t]
   by_cases p:j.1=(a[i]'(by omega));rotate_left
   ·rw [if_neg p];exact .inr (c (by rw [q,if_pos p]))
   rw [if_pos p];rw [if_neg (by simp [p])] at q;have C:j.1=(n:Int):=by rw [p,K]
   have hv:=(v.lev n _ t).2;have v0:=(hv E (by simp)).vl;have v1:=(hv F (by simp)).vl;have L:=(List.getElem?_eq_some_iff.1 t).1;rw [C,Zr v L,SL,Uo,Ut,ko t v0 v1,Sx];rw [C] at q;by_cases m:j.2.2.1.2.2=true/\(n:Int)≠(s.1.2.length:Int)-1
   ·rw [if_pos m.1,if_pos m.2];exact .inr (c (by rw [q,if_pos m]))
   rw [if_neg m] at q
   have h4 : ∀ {γ:Type} (A B:γ),(if j.2.2.1.2.2=true then if ¬(n:Int)=(s.1.2.length:Int)-1 then A else B else B)=B:=by
    intro γ A B;by_cases u:j.2.2.1.2.2=true
    ·rw [if_pos u,if_neg (λz=>m ⟨u,z⟩)]
    ·rw [if_neg u]
   rw [h4];by_cases u:j.2.2.2.2<0\/j.2.2.2.2>((F.2.length+E.2.length:Nat):Int)
   ·rw [if_pos u];exact .inr (c (by rw [q,if_pos u]))
   rw [if_neg u];rw [if_neg u] at q;by_cases z:U6 F.2 E.2 j.2.2.1.2.2 j.2.2.2.2.toNat=j.2
   ·rw [if_pos z];exact .inl (x (by rw [q];simp [z]))
   ·rw [if_neg z]
    exact .inr (c (by rw [q];simp [z])))
 refine Tc q1 ?_;rw [SM];rcases D with ⟨D,q3⟩ | ⟨i,D,q3,q4,q5⟩
 ·rw [if_neg (show ¬ r.1=0 by omega),D,Sr];simp only;by_cases Y:s.2.1.length<a.length
  ·rw [if_pos (by omega),if_pos Y]
  ·rw [if_neg (by omega),if_neg Y]
 ·rw [if_pos q3,D,q4,q5]
end
section
open Go Go.Proofs.YtfilfloanndddaaGreat.Sv
def JobAt (L:TB) (n:Nat) (j:Job):Prop := ∃ a b c k,L.2[n]? = some [a,b]/\j=((n:Int),U6 b.2 a.2 c k)/\k<=b.2.length+a.2.length/\(c=true->n+1=L.2.length)/\VL a.2/\VL b.2
structure VSt (s:TA):Prop where
 lev:VLev s.1
 n1:1<=s.2.2
 n2:s.2.2<=1000001
 n3:V2 s.1.2<s.2.2
 due:s.2.1.map (·.1)=TI 0 s.1.2
 job : ∀ j∈s.2.1,∃ n,JobAt s.1 n j
theorem ZV (a b:List S8) (c:Bool) (k:Nat):(U6 a b c k).2.1.2.2=c:=by
 show (Ua (s0 c) (TU a b k)).2.2=c;rw [Wg]
theorem Zd {L:TB} (v:VLev L) {i:Nat} {j:Job}:YO L (TI 0 L.2) i j=false <-> ∃ n,(TI 0 L.2)[i]? = some j.1/\JobAt L n j:=by
 constructor
 ·intro h;unfold YO at h;cases c:(TI 0 L.2)[i]? with
  | none=>rw [c] at h;cases h
  | some d =>
   rw [c] at h;simp only at h;by_cases f:j.1=d;rotate_left
   ·rw [if_pos f] at h;cases h
   rw [if_neg (by simp [f])] at h;by_cases g:j.2.2.1.2.2=true/\j.1≠(L.2.length:Int)-1
   ·rw [if_pos g] at h;cases h
   rw [if_neg g] at h;obtain ⟨n,m,a,b,e⟩:=W6 c;rw [Nat.zero_add] at m;rw [m,Int.toNat_natCast,e] at h;simp only at h;by_cases p:j.2.2.2.2<0\/j.2.2.2.2>((b.2.length+a.2.length:Nat):Int)
   ·rw [if_pos p] at h;cases h
   rw [if_neg p] at h;have s:U6 b.2 a.2 j.2.2.1.2.2 j.2.2.2.2.toNat=j.2:=by simpa using h
   have r:=(v.lev n _ e).2;refine ⟨n,by rw [f],a,b,j.2.2.1.2.2,j.2.2.2.2.toNat,e,Prod.ext (by rw [f,m]) s.symm,by omega,λl => ?_,(r a (by simp)).vl,(r b (by simp)).vl⟩
   have t:j.1=(L.2.length:Int)-1:=by
    by_cases q:j.1=(L.2.length:Int)-1
    ·exact q
    ·exact absurd ⟨l,q⟩ g
   omega
 ·rintro ⟨n,c,a,b,o,k,e,rfl,u,l,w,x⟩;unfold YO;rw [c];simp only;rw [if_neg (by simp),ZV,if_neg (λh:o=true/\(n:Int)≠(L.2.length:Int)-1=>h.2 (by have:=l h.1;omega)),Int.toNat_natCast,e];simp only;rw [show (U6 b.2 a.2 o k).2.2.2=(k:Int) from rfl,if_neg (by omega),Int.toNat_natCast];simp
theorem YA {L:TB} {a:List Int} : ∀ {js:List Job} {i:Nat},WK L a i js=none <-> ∀ k j,js[k]? = some j->YO L a (i+k) j=false
 | [],i=>by simp [WK]
 | j::js,i=>by
  unfold WK;by_cases h:YO L a i j=true
  ·rw [if_pos h];simp only [reduceCtorEq,false_iff];intro b;have:=b 0 j rfl;rw [Nat.add_zero,h] at this;cases this
  ·rw [if_neg h,YA (js:=js)];constructor
   ·intro b k j' c;cases k with
    | zero=>cases c;simpa using h
    | succ k=>rw [show i+(k+1)=i+1+k by omega];exact b k j' c
   ·intro b k j' c;rw [show i+1+k=i+(k+1) by omega];exact b (k+1) j' c
theorem TN {s:TA}:(TE s).2=0<->VSt s:=by
 unfold TE;constructor
 ·intro h;by_cases d:(Vj s.1).2.2≠0
  ·rw [if_pos d] at h;exact absurd h d
  rw [if_neg d] at h;have v:=XM.1 (Decidable.not_not.1 d);by_cases f:s.2.2<1\/s.2.2>1000001
  ·rw [if_pos f] at h;cases h
  rw [if_neg f] at h;by_cases g:s.2.2<=V2 s.1.2
  ·rw [if_pos g] at h;cases h
  rw [if_neg g] at h;cases b:WK s.1 (TI 0 s.1.2) 0 s.2.1 with
  | some i=>rw [b] at h;cases h
  | none =>
   rw [b] at h;simp only at h;by_cases l:s.2.1.length<(TI 0 s.1.2).length
   ·rw [if_pos l] at h;cases h
   have m:=YA.1 b
   have c : ∀ k j,s.2.1[k]? = some j -> ∃ n,(TI 0 s.1.2)[k]? = some j.1/\JobAt s.1 n j:=λk j a=>by
    have:=m k j a;rw [Nat.zero_add] at this;exact (Zd v).1 this
   refine ⟨v,by omega,by omega,by omega,?_,λj o => ?_⟩
   ·apply List.ext_getElem?;intro k;rw [List.getElem?_map];cases a:s.2.1[k]? with
    | some j=>obtain ⟨n,e,_⟩:=c k j a;rw [e];rfl
    | none =>
     have:=List.getElem?_eq_none_iff.1 a;rw [List.getElem?_eq_none (by omega)];rfl
   ·obtain ⟨k,a⟩:=List.getElem?_of_mem o;obtain ⟨n,_,h⟩:=c k j a;exact ⟨n,h⟩
 ·intro v;rw [if_neg (by simp [XM.2 v.lev]),if_neg (by have:=v.n1;have:=v.n2;omega),if_neg (by have:=v.n3;omega)]
  have b:WK s.1 (TI 0 s.1.2) 0 s.2.1=none:=YA.2 λk j a=>by
   rw [Nat.zero_add];obtain ⟨n,p⟩:=v.job j (List.mem_of_getElem? a);exact (Zd v.lev).2 ⟨n,by rw [<- v.due,List.getElem?_map,a];rfl,p⟩
  rw [b];simp only;rw [if_neg (by rw [<- v.due];simp)]
structure Sm (s:TA):Prop where
 lv:s.1.2.length<=1048576
 rs : ∀ rs∈s.1.2,rs.length<=1048576 /\ ∀ r∈rs,r.2.length<=9223372036854775807
 js:s.2.1.length<=1048576
theorem mi {s:TA} (m:Sm s):UT s=some (TE s):=cC s m.lv m.rs m.js
theorem mv {s:TA} (m:Sm s):WF s=some (TE s):=bX s m.lv m.rs m.js
theorem VSt.jlen {s:TA} (v:VSt s):s.2.1.length=(TI 0 s.1.2).length:=by rw [<- v.due];simp
theorem VSt.jsmall {s:TA} (v:VSt s):s.2.1.length<=12:=by
 have:=v.jlen;have:=VN s.1.2 0;have:=v.lev.len;omega
theorem VSt.sm {s:TA} (v:VSt s):Sm s:=⟨v.lev.small.1,v.lev.small.2,by have:=v.jsmall;omega⟩
def Yo (x:Int):Nat->List Int->Option Nat
 | _,[]=>none
 | k,y::l=>if y=x then some k else Yo x (k+1) l
theorem cA {x:Int} : ∀ {l:List Int} {k i:Nat},Yo x k l=some i->k<=i/\l[i-k]? = some x
 | [],_,_,h=>by cases h
 | y::l,k,i,h=>by
  unfold Yo at h;by_cases e:y=x
  ·rw [if_pos e] at h;cases h;simp [e]
  ·rw [if_neg e] at h;obtain ⟨b,a⟩:=cA h;exact ⟨by omega,by rw [show i-k=(i-(k+1))+1 by omega];simpa using a⟩
theorem aV {x:Int} : ∀ {l:List Int} {k:Nat},x∈l -> ∃ i,Yo x k l=some i
 | [],_,h=>by cases h
 | y::l,k,h=>by
  unfold Yo;by_cases e:y=x
  ·rw [if_pos e];exact ⟨k,rfl⟩
  ·rw [if_neg e];exact aV (by rcases List.mem_cons.1 h with h | h;exact absurd h.symm e;exact h)
def XY (s:TA) (a:Int):Int×Int:=if (TE s).2≠0 then (0,(TE s).2) else match Yo a 0 (TI 0 s.1.2) with
 | some i=>((i:Int),0)
 | none=>(0,4)
theorem cx {s:TA} (m:Sm s) (a:Int):VU (s,a)=some (XY s a):=by
 unfold VU XY;simp only [TH,TF];rw [mi m,SL,Ss];by_cases b:(TE s).2=0;rotate_left
 ·rw [if_neg b,if_pos b]
 rw [if_pos b,if_neg (show ¬ (TE s).2≠0 by simp [b])];have v:=TN.1 b;have x:=v.jsmall;rw [<- v.due];obtain ⟨T,g⟩ : ∃ T,T=Yo a 0 (s.2.1.map (·.1)):=⟨_,rfl⟩;rw [<- g]
 obtain ⟨r,q,c⟩:=WL (l:=s.2.1) (σ:=Unit) (s:=((0:Int),(0:Int))) (λk _=>((0:Int),(k:Int))) (λjs k _=>Yo a k (js.map (·.1))=T) (λ(r:Nat×((Int×Int)×Unit))=>(r.1=1/\T=none)\/(r.1=0 /\ ∃ i:Nat,T=some i/\r.2.1.1=(i:Int)))
  (f:=λs1=>br (SW s1.2 (s.2.1.length:Int)) (λ_=>RX s1.2 λp=>ix s.2.1 p λu=>br (RR u.1 a) (λ_=>some (.dn ((0,((s1.2,s1.2),()))))) λ_=>some (.nx (s1.1,Rl .i64 s1.2 1))) λ_=>some (.dn ((1,(s1,())))))
  () rfl (by omega) g.symm (λ_ h=>⟨_,by simp only;rw [re];rfl,.inl ⟨rfl,by rw [<- h];rfl⟩⟩) (λk j js _ w n o h=>by
   simp only;rw [rl o,R5,S9,Sb n,Sn];unfold Yo at h;simp only [List.map_cons] at h;by_cases e:j.1=a
   ·rw [if_pos e];rw [if_pos e] at h;exact .inr ⟨_,rfl,.inr ⟨rfl,k,h.symm,rfl⟩⟩
   ·rw [if_neg e];rw [if_neg e] at h
    exact .inl ⟨(),by rw [TL n (by omega)],h⟩)
 refine Tc q ?_;rw [SM];rcases c with ⟨c,d⟩ | ⟨c,i,d,t⟩
 ·rw [if_neg (show ¬ r.1=0 by omega),d];rfl
 ·rw [if_pos c,d,t,Sr,if_neg (by omega)]
theorem bY {s:TA} (m:Sm s):WI s=some (if (TE s).2≠0 then ([],(TE s).2) else (TI 0 s.1.2,0)):=by
 unfold WI;rw [mv m,SL,Ss];by_cases a:(TE s).2=0
 ·rw [if_pos a,if_neg (show ¬ (TE s).2≠0 by simp [a]),ZS (by have:=(TN.1 a).lev.len;omega),SL]
 ·rw [if_neg a,if_pos a]
theorem YF {s:TA} (m:Sm s) (a:Int):UU (s,a)=some (XY s a):=by
 unfold UU XY;simp only [TH,TF];rw [bY m,SL,Ss];by_cases c:(TE s).2=0;rotate_left
 ·rw [if_pos c,if_neg c,if_pos c]
 rw [if_neg (show ¬ (TE s).2≠0 by simp [c]),if_pos rfl,if_neg (show ¬ (TE s).2≠0 by simp [c])];have v:=TN.1 c;have A:=v.jsmall;have p:=v.jlen;obtain ⟨b,d⟩ : ∃ b,b=TI 0 s.1.2:=⟨_,rfl⟩;rw [<- d] at p ⊢;obtain ⟨T,o⟩ : ∃ T,T=Yo a 0 b:=⟨_,rfl⟩;rw [<- o];simp only
 obtain ⟨r,w,g⟩:=WL (l:=b) (σ:=Unit) (s:=((0:Int),((0:Int),(0:Int)))) (λk _=>((0:Int),((0:Int),(k:Int)))) (λjs k _=>Yo a k js=T) (λ(r:Nat×((Int×(Int×Int))×Unit))=>(r.1=1/\T=none)\/(r.1=0 /\ ∃ i:Nat,T=some i/\r.2.1.2.1=(i:Int)/\r.2.1.1=0))
  (f:=λs1=>br (SW s1.2.2 (b.length:Int)) (λ_=>RX s1.2.2 λu=>ix b u λz=>br (RR z a) (λ_=>some (.dn ((0,((0,(s1.2.2,s1.2.2)),()))))) λ_=>some (.nx ((s1.1,(s1.2.1,Rl .i64 s1.2.2 1))))) λ_=>some (.dn ((1,(s1,())))))
  () rfl (by omega) o.symm (λ_ h=>⟨_,by simp only;rw [re];rfl,.inl ⟨rfl,by rw [<- h];rfl⟩⟩) (λk j js _ p q t h=>by
   simp only;rw [rl t,R5,S9,Sb q,Sn];unfold Yo at h;by_cases e:j=a
   ·rw [if_pos e];rw [if_pos e] at h;exact .inr ⟨_,rfl,.inr ⟨rfl,k,h.symm,rfl,rfl⟩⟩
   ·rw [if_neg e];rw [if_neg e] at h
    exact .inl ⟨(),by rw [TL q (by omega)],h⟩)
 refine Tc w ?_;rw [SM];rcases g with ⟨g,n⟩ | ⟨g,i,n,x,y⟩
 ·rw [if_neg (show ¬ r.1=0 by omega),n]
 ·rw [if_pos g,n,x,y]
end
section
open Go Go.Proofs.YtfilfloanndddaaGreat.Sv
def TY (L:TB) (j:Job):Nat:=match L.2[j.1.toNat]? with
 | some [r0,r1]=>r1.2.length+r0.2.length-j.2.2.2.2.toNat
 | _=>0
def VX (L:TB) (j:Job):Bool:=decide ((j.2.2.2.1.length:Int)<=UV L.1 j.1.toNat)
def YT (L:TB) (n:Nat):Bool:=decide (n<12/\((L.2[n]?).getD []).length<2)
def Vg (L:TB) (j:Job):Bool:=decide (0<TY L j)||(VX L j||YT L (j.1.toNat+1))
def Z3 (s:TA) (a:Int):Option Job:=match Yo a 0 (TI 0 s.1.2) with
 | some i=>s.2.1[i]?
 | none=>none
theorem VSt.at {s:TA} (v:VSt s) {a:Int} {i:Nat} (h:Yo a 0 (TI 0 s.1.2)=some i) : ∃ (j:Job) (n:Nat),s.2.1[i]? = some j/\a=(n:Int)/\j.1=(n:Int)/\JobAt s.1 n j/\n<s.1.2.length:=by
 obtain ⟨_,b⟩:=cA h;rw [Nat.sub_zero] at b;rw [<- v.due,List.getElem?_map] at b;cases c:s.2.1[i]? with
 | none=>rw [c] at b;cases b
 | some j =>
  rw [c] at b;simp only [Option.map_some,Option.some.injEq] at b;obtain ⟨n,g⟩:=v.job j (List.mem_of_getElem? c);have d:=g;obtain ⟨o,p,m,k,l,e,_⟩:=g;have f:j.1=(n:Int):=by rw [e]
  exact ⟨j,n,rfl,by rw [<- b,f],f,d,(List.getElem?_eq_some_iff.1 l).1⟩
theorem JobAt.left {L:TB} {n:Nat} {j:Job} (h:JobAt L n j):UC j.2=some ((TY L j:Int),0)/\Tp j.2=some ((TY L j:Int),0)/\TY L j<=10000:=by
 obtain ⟨b,c,a,k,i,rfl,g,_,d,f⟩:=h;have l:=d.len;have m:=f.len
 have e:TY L ((n:Int),U6 c.2 b.2 a k)=c.2.length+b.2.length-k:=by
  unfold TY;simp only [Int.toNat_natCast,i];show c.2.length+b.2.length-((k:Int)).toNat=_;rw [Int.toNat_natCast]
 rw [e];exact ⟨ZJ f d a g,Yd f d a g,by omega⟩
theorem dl {L:TB} (v:VLev L) {n:Nat} (c:n<12):V8 (L.1,(n:Int))=some (UV L.1 n,0):=by
 have a:=v.B1;have b:=v.B2;unfold V8;rw [Sr,if_neg (by omega),Sp,if_neg (by omega),Sr,if_neg (by omega),So,if_neg (by omega),ZC a b (by omega)];have:RS (n:Int) 0=true:=by unfold RS;simp
 rw [this];rfl
theorem fM {L:TB} (v:VLev L) {n:Nat} (c:n<12):Xq (L.1,(n:Int))=some (UV L.1 n,0):=by
 have a:=v.B1;have b:=v.B2;unfold Xq;rw [Sr,if_neg (by omega),Sp,if_neg (by omega),Sr,if_neg (by omega),So,if_neg (by omega),bc a b (by omega),SL]
theorem ac {L:TB} (v:VLev L) (k:Int):Vp (L,k)=some (if k<0\/k>=12 then 7 else 0):=by
 obtain ⟨c,d⟩:=v.small;unfold Vp;rw [YZ _ c d,Wh v,SL,Ss,if_pos rfl,Sr,So];by_cases a:k<0
 ·rw [if_pos a,if_pos (.inl a)]
 ·rw [if_neg a];by_cases b:k>=12
  ·rw [if_pos b,if_pos (.inr b)]
  ·rw [if_neg b,if_neg (by omega)]
theorem fB (l:List Tb):SW (l.length:Int) 2=decide (l.length<2):=by
 unfold SW;rw [decide_eq_decide];omega
theorem dk {L:TB} (v:VLev L) {n:Nat} (d:n<=12):V7 (L,(n:Int))=some (YT L n,if n>=12 then 7 else 0):=by
 unfold V7 YT;simp only [TH,TF];rw [ac v,SL,Ss];by_cases h:n>=12
 ·rw [if_pos (show (n:Int)<0\/(n:Int)>=12 by omega),if_neg (by decide),if_pos h];simp;omega
 ·rw [if_neg (show ¬ ((n:Int)<0\/(n:Int)>=12) by omega),if_pos rfl,if_neg h,Sr];have a:n<12:=by omega
  by_cases c:n<L.2.length
  ·have b:L.2[n]? = some (L.2[n]'c):=by simp
   rw [if_pos (by omega),S9,Sb b,b,fB,Option.getD_some];simp [a]
  ·rw [if_neg (by omega),List.getElem?_eq_none (by omega)];simp [a]
theorem fU {s:TA} (v:VLev s.1) {n:Nat} (c:n<12):Xt (s,(n:Int))=some (YT s.1 (n+1)):=by
 unfold Xt YT;simp only [TH,TF];rw [TK (by omega),Sr];by_cases h:n+1<12
 ·rw [if_pos (by omega),So];by_cases b:n+1<s.1.2.length
  ·have a:s.1.2[n+1]? = some (s.1.2[n+1]'b):=by simp
   rw [if_neg (by omega),S9,Sb a,a,fB,Option.getD_some];simp [h]
  ·rw [if_pos (by omega),List.getElem?_eq_none (by omega)];simp [h]
 ·rw [if_neg (by omega)];simp;omega
abbrev m6:=TA×(Job×Int)
theorem Zy {s:TA} (v:VLev s.1) {n:Nat} {j:Job} (a:j.1=(n:Int)) (b:n<12) (l:Int):Ti (s,(j,l))=some (VX s.1 j):=by
 unfold Ti VX;simp only [TH,TF];rw [a,dl v b,SL,Sn,if_pos rfl,Int.toNat_natCast];rfl
theorem aK {s:TA} (v:VLev s.1) {n:Nat} {j:Job} (a:j.1=(n:Int)) (b:n<12):WG (s,j)=some (VX s.1 j):=by
 unfold WG VX;simp only [TH,TF];rw [a,fM v b,SL,Int.toNat_natCast];rfl
theorem fR {s:TA} (v:VLev s.1) {n:Nat} {j:Job} (a:j.1=(n:Int)) (b:n<12) (l:Int):Uj (s,(j,l))=some (YT s.1 (n+1)):=by
 unfold Uj;simp only;rw [a,TK (by omega),dk v (by omega),SL,Sn];by_cases h:n+1>=12
 ·rw [if_pos h,if_neg (show ¬ (7:Int)=0 by decide)];unfold YT;simp;omega
 ·rw [if_neg h,if_pos rfl]
theorem aR {s:TA} (v:VLev s.1) {n:Nat} {j:Job} (a:j.1=(n:Int)) (b:n<12) (l:Nat) (d:l=TY s.1 j):Tz (s,(j,(l:Int)))=some (Vg s.1 j):=by
 have c:TX (s,(j,(l:Int)))=some (decide (0<TY s.1 j)):=by
  unfold TX SU;rw [d];simp
 have e1:=Zy v a b (l:Int);have e2:=fR v a b (l:Int);unfold Tz Vg;rw [c,e1,e2,a,Int.toNat_natCast];simp only [SL];cases e:decide (0<TY s.1 j) with
 | true=>exact Tc (x:=(0,((0,true),()))) (Ug (n:=1) (by omega) (Tl rfl)) rfl
 | false =>
  cases f:VX s.1 j with
  | true=>exact Tc (x:=(0,((1,true),()))) (Ug (n:=2) (by omega) ((Tf (s':=(1,false)) rfl).trans (Tl rfl))) rfl
  | false =>
   cases g:YT s.1 (n+1) with
   | true=>exact Tc (x:=(0,((2,true),()))) (Ug (n:=3) (by omega) ((Tf (s':=(1,false)) rfl).trans ((Tf (s':=(2,false)) rfl).trans (Tl rfl)))) rfl
   | false=>exact Tc (x:=(1,((3,false),()))) (Ug (n:=4) (by omega) ((Tf (s':=(1,false)) rfl).trans ((Tf (s':=(2,false)) rfl).trans ((Tf (s':=(3,false)) rfl).trans (Tl rfl))))) rfl
end
section
open Go Go.Proofs.YtfilfloanndddaaGreat.Sv
def WS {α:Type} (z:α) (f:TA->Job->α×Int) (s:TA) (a:Int):α×Int:=if (TE s).2≠0 then (z,(TE s).2) else match Z3 s a with
 | some j=>f s j
 | none=>(z,4)
def z0:m6:=(((0,[]),([],0)),((0,(([],([],([],([],0)))),((false,([],false)),([],0)))),0))
theorem an {s:TA} (m:Sm s) (a:Int):Ub (s,a)=some (WS z0 (λs j=>((s,(j,(TY s.1 j:Int))),0)) s a):=by
 unfold Ub;rw [cx m,SL];unfold WS Z3 XY;by_cases b:(TE s).2=0;rotate_left
 ·rw [if_pos b,Ss,if_neg b,if_pos b];rfl
 rw [if_neg (show ¬ (TE s).2≠0 by simp [b]),if_neg (show ¬ (TE s).2≠0 by simp [b])];have v:=TN.1 b;cases e:Yo a 0 (TI 0 s.1.2) with
 | none=>rfl
 | some i =>
  obtain ⟨j,n,c,g,f,d,h⟩:=v.at e;simp only;rw [Ss,if_pos rfl,S9,Sb c,c,(JobAt.left d).1,SL]
theorem lO {s:TA} (m:Sm s) (a:Int):Wq (s,a)=some (WS false (λs j=>(Vg s.1 j,0)) s a):=by
 unfold Wq;rw [an m,SL];unfold WS;by_cases b:(TE s).2=0;rotate_left
 ·rw [if_pos b,Ss,if_neg b,if_pos b]
 rw [if_neg (show ¬ (TE s).2≠0 by simp [b]),if_neg (show ¬ (TE s).2≠0 by simp [b])];have v:=TN.1 b;unfold Z3;cases d:Yo a 0 (TI 0 s.1.2) with
 | none=>rfl
 | some i =>
  obtain ⟨j,n,e,g,c,f,h⟩:=v.at d;have:=v.lev.len;simp only [e];rw [Ss,if_pos rfl,aR v.lev c (by omega) _ rfl,SL]
theorem YN {s:TA} (m:Sm s) (a:Int):VC (s,a)=some (WS 0 (λs j=>((TY s.1 j:Int),0)) s a):=by
 unfold VC;rw [YF m,SL];unfold WS Z3 XY;by_cases b:(TE s).2=0;rotate_left
 ·rw [if_pos b,Ss,if_neg b,if_pos b]
 rw [if_neg (show ¬ (TE s).2≠0 by simp [b]),if_neg (show ¬ (TE s).2≠0 by simp [b])];have v:=TN.1 b;cases e:Yo a 0 (TI 0 s.1.2) with
 | none=>rfl
 | some i =>
  obtain ⟨j,n,c,g,f,d,h⟩:=v.at e;simp only [c];rw [Ss,if_pos rfl,S9,Sb c,(JobAt.left d).2.1,SL]
theorem ae {s:TA} (m:Sm s) (a:Int):WP (s,a)=some (WS false (λs j=>(Vg s.1 j,0)) s a):=by
 unfold WP;rw [YN m,SL,YF m,SL];unfold WS;by_cases b:(TE s).2=0;rotate_left
 ·rw [if_pos b,Ss,if_neg b,if_pos b]
 rw [if_neg (show ¬ (TE s).2≠0 by simp [b]),if_neg (show ¬ (TE s).2≠0 by simp [b])];have v:=TN.1 b;unfold Z3 XY;cases f:Yo a 0 (TI 0 s.1.2) with
 | none=>rfl
 | some i =>
  obtain ⟨j,n,e,g,c,h,k⟩:=v.at f;have:=v.lev.len;rw [if_neg (show ¬ (TE s).2≠0 by simp [b])];simp only [e];rw [Ss,if_pos rfl,Sp,S9,Sb e,aK v.lev c (by omega),SL,g,fU v.lev (by omega),SL];unfold Vg;rw [c,Int.toNat_natCast];by_cases d:0<TY s.1 j
  ·rw [if_pos (by omega)];simp [d]
  ·rw [if_neg (by omega)];cases VX s.1 j<;>simp [d,R5,Rd]
def Y5 (s:TA) (j:Job):Int×Int:=if 0<TY s.1 j then (0,9) else if VX s.1 j=true then (j.1,0) else (j.1+1,0)
theorem l9 {s:TA} (m:Sm s) (a:Int):XZ (s,a)=some (WS 0 Y5 s a):=by
 unfold XZ;rw [an m,SL];unfold WS;by_cases b:(TE s).2=0;rotate_left
 ·rw [if_pos b,Ss,if_neg b,if_pos b]
 rw [if_neg (show ¬ (TE s).2≠0 by simp [b]),if_neg (show ¬ (TE s).2≠0 by simp [b])];have v:=TN.1 b;unfold Z3;cases f:Yo a 0 (TI 0 s.1.2) with
 | none=>rfl
 | some i =>
  obtain ⟨j,n,g,h,c,k,l⟩:=v.at f;have:=v.lev.len;simp only [g];unfold TX Y5;rw [Ss,if_pos rfl,SL,Sp,Zy v.lev c (by omega),SL,h,TK (by omega),c];by_cases e:0<TY s.1 j
  ·rw [if_pos (show ((TY s.1 j:Int))>0 by omega),if_pos e]
  ·rw [if_neg (show ¬ ((TY s.1 j:Int))>0 by omega),if_neg e,Sx];by_cases d:VX s.1 j=true
   ·rw [if_pos d,if_pos d]
   ·rw [if_neg d,if_neg d];rfl
theorem cL {s:TA} (m:Sm s) (a:Int):XG (s,a)=some (WS 0 Y5 s a):=by
 unfold XG;rw [YN m,SL,YF m];unfold WS;by_cases b:(TE s).2=0;rotate_left
 ·rw [if_pos b,Sn,if_neg b,Ss,if_neg b,if_pos b]
 rw [if_neg (show ¬ (TE s).2≠0 by simp [b]),if_neg (show ¬ (TE s).2≠0 by simp [b])];have v:=TN.1 b;unfold Z3 XY;cases g:Yo a 0 (TI 0 s.1.2) with
 | none=>rfl
 | some i =>
  obtain ⟨j,n,f,h,c,k,l⟩:=v.at g;have:=v.lev.len;rw [if_neg (show ¬ (TE s).2≠0 by simp [b])];simp only [f];unfold Y5;rw [Sn,if_pos rfl,Sp];by_cases e:0<TY s.1 j
  ·rw [if_pos (show ((TY s.1 j:Int))>0 by omega),if_pos e]
  ·rw [if_neg (show ¬ ((TY s.1 j:Int))>0 by omega),if_neg e,Ss,if_pos rfl,SL,S9,Sb f,aK v.lev c (by omega),SL,Sx,h,TK (by omega),c];by_cases d:VX s.1 j=true
   ·rw [if_pos d,if_pos d]
   ·rw [if_neg d,if_neg d];rfl
theorem kn {s:TA} (m:Sm s):Vo s=some (if (TE s).2≠0 then ([],(TE s).2) else (TI 0 s.1.2,0)):=by
 unfold Vo;simp only [TH,TF];rw [mi m,SL,Ss];by_cases a:(TE s).2=0;rotate_left
 ·rw [if_neg a,if_pos a]
 rw [if_pos a,if_neg (show ¬ (TE s).2≠0 by simp [a])];have f:=(TN.1 a).lev.len
 rw [U5 (l:=s.1.2) (σ:=List Int) (s:=((0:Int),([]:List Int))) (λi m=>((i:Int),m)) (λls i m=>m++TI i ls=TI 0 s.1.2) (λ_ _ _=>(0,(((s.1.2.length:Int),TI 0 s.1.2),()))) [] rfl (by omega) rfl (λm h=>by
  simp only;rw [re,Rd,<- h];simp [TI]) (λi rs ls m e c hi h=>by
   refine ⟨m++(if rs.length=2 then [(i:Int)] else []),?_,?_,rfl⟩
   ·simp only;rw [rl hi,R5,S9,Sb c,Sn]
    have g:m.length<=1000:=by
     have b:=congrArg List.length h;have d:=VN s.1.2 0;rw [List.length_append] at b;omega
    by_cases b:rs.length=2
    ·rw [if_pos (by omega),if_pos b,Tw (by simp only [BD,List.length_cons,List.length_nil];omega),TL c (by omega)];rfl
    ·rw [if_neg (by omega),if_neg b,List.append_nil,TL c (by omega)]
   ·rw [List.append_assoc];exact h),SL]
def Vn (s:TA):List Int->Option Int
 | []=>none
 | d::l=>if (WS false (λs j=>(Vg s.1 j,0)) s d).1=true then some d else Vn s l
def Tx (s:TA):Int×Int:=if (TE s).2≠0 then (0,(TE s).2) else if TI 0 s.1.2=[] then (0,4) else match Vn s (TI 0 s.1.2) with
 | some d=>(d,0)
 | none=>(0,9)
theorem VSt.atDue {s:TA} (v:VSt s) {d:Int} (h:d∈TI 0 s.1.2) : ∃ (j:Job) (n:Nat),Z3 s d=some j/\d=(n:Int)/\j.1=(n:Int)/\JobAt s.1 n j/\n<s.1.2.length:=by
 obtain ⟨i,b⟩:=aV (k:=0) h;obtain ⟨j,n,e,f,a,c,g⟩:=v.at b;exact ⟨j,n,by unfold Z3;rw [b];exact e,f,a,c,g⟩
theorem kX {s:TA} (m:Sm s):Td s=some (Tx s):=by
 unfold Td Tx;rw [kn m,SL];by_cases a:(TE s).2=0;rotate_left
 ·rw [if_pos a,Ss,if_neg a,if_pos a]
 rw [if_neg (show ¬ (TE s).2≠0 by simp [a]),if_neg (show ¬ (TE s).2≠0 by simp [a]),Ss,if_pos rfl];have v:=TN.1 a;have z:(TI 0 s.1.2).length<=12:=by have:=VN s.1.2 0;have:=v.lev.len;omega
 simp only [TH,TF];rw [Sn];by_cases b:TI 0 s.1.2=[]
 ·rw [if_pos (by rw [b];rfl),if_pos b]
 rw [if_neg (by have:=List.length_pos_iff.2 b;omega),if_neg b];obtain ⟨T,q⟩ : ∃ T,T=Vn s (TI 0 s.1.2):=⟨_,rfl⟩;rw [<- q]
 obtain ⟨r,C,u⟩:=WL (l:=TI 0 s.1.2) (σ:=Unit) (s:=((0:Int),(false,((0:Int),(0:Int))))) (λk _=>((0:Int),(false,((k:Int),(0:Int))))) (λl k _=>Vn s l=T) (λ(r:Nat×((Int×(Bool×(Int×Int)))×Unit))=>r.1=1/\((T=none/\r.2.1.2.1=false)\/(∃ d,T=some d/\r.2.1.2.1=true/\r.2.1.2.2.2=d)))
  (f:=λs1=>br (SW s1.2.2.1 ((TI 0 s.1.2).length:Int)) (λ_=>RX s1.2.2.1 λB=>ix (TI 0 s.1.2) B λw=>bd (Ub (s,w)) λp=>br (RT p.2 0) (λ_=>some (.dn ((0,((p.2,(s1.2.1,(s1.2.2.1,0))),()))))) λ_=>bd (Tz p.1) λE=>br E (λ_=>some (.dn ((1,((s1.1,(true,(s1.2.2.1,w))),()))))) λ_=>some (.nx ((s1.1,(s1.2.1,(Rl .i64 s1.2.2.1 1,s1.2.2.2)))))) λ_=>some (.dn ((1,(s1,())))))
  () rfl (by omega) q.symm (λ_ h=>⟨_,by simp only;rw [re];rfl,rfl,.inl ⟨by rw [<- h];rfl,rfl⟩⟩) (λk d l _ G i A h=>by
   simp only;obtain ⟨j,n,t,I,g,F,b⟩:=v.atDue (List.mem_of_getElem? i);have:=v.lev.len;unfold Vn at h;have x:WS false (λs j=>(Vg s.1 j,0)) s d=(Vg s.1 j,0):=by unfold WS;rw [if_neg (show ¬ (TE s).2≠0 by simp [a]),t]
   have y:WS z0 (λs j=>((s,(j,(TY s.1 j:Int))),0)) s d=((s,(j,(TY s.1 j:Int))),0):=by unfold WS;rw [if_neg (show ¬ (TE s).2≠0 by simp [a]),t]
   rw [x] at h;rw [rl A,R5,S9,Sb i,an m,y,SL,Ss,if_pos rfl,aR v.lev g (by omega) _ rfl,SL,Sx];by_cases e:Vg s.1 j=true
   ·rw [if_pos e];rw [if_pos e] at h;exact .inr ⟨_,rfl,rfl,.inr ⟨d,h.symm,rfl,rfl⟩⟩
   ·rw [if_neg e];rw [if_neg e] at h
    exact .inl ⟨(),by rw [TL i (by omega)],h⟩)
 refine Tc C ?_;obtain ⟨u,c⟩:=u;rw [SM,if_neg (show ¬ r.1=0 by omega),Tn,Sx];rcases c with ⟨c,o⟩ | ⟨d,c,o,D⟩
 ·rw [if_neg (by simp [o]),c]
 ·rw [if_pos o,c,D]
theorem du {s:TA} (m:Sm s):Xr s=some (Tx s):=by
 unfold Xr Tx;rw [bY m,SL];by_cases a:(TE s).2=0;rotate_left
 ·rw [if_pos a,Ss,if_neg a,if_pos a]
 rw [if_neg (show ¬ (TE s).2≠0 by simp [a]),if_neg (show ¬ (TE s).2≠0 by simp [a]),Ss,if_pos rfl];have v:=TN.1 a;have o:(TI 0 s.1.2).length<=12:=by have:=VN s.1.2 0;have:=v.lev.len;omega
 simp only [TH,TF];rw [Sn];by_cases b:TI 0 s.1.2=[]
 ·rw [if_pos (by rw [b];rfl),if_pos b]
 rw [if_neg (by have:=List.length_pos_iff.2 b;omega),if_neg b];obtain ⟨T,n⟩ : ∃ T,T=Vn s (TI 0 s.1.2):=⟨_,rfl⟩;rw [<- n]
 obtain ⟨r,u,c⟩:=WL (l:=TI 0 s.1.2) (σ:=Unit) (s:=((0:Int),((0:Int),(0:Int)))) (λk _=>((0:Int),((0:Int),(k:Int)))) (λl k _=>Vn s l=T) (λ(r:Nat×((Int×(Int×Int))×Unit))=>(r.1=1/\T=none)\/(r.1=0 /\ ∃ d,T=some d/\r.2.1.2.1=d/\r.2.1.1=0))
  (f:=λs1=>br (SW s1.2.2 ((TI 0 s.1.2).length:Int)) (λ_=>RX s1.2.2 λq=>ix (TI 0 s.1.2) q λz=>bd (WP (s,z)) λy=>br y.1 (λ_=>RX s1.2.2 λt=>ix (TI 0 s.1.2) t λA=>some (.dn ((0,((0,(A,s1.2.2)),()))))) λ_=>some (.nx ((s1.1,(s1.2.1,Rl .i64 s1.2.2 1))))) λ_=>some (.dn ((1,(s1,())))))
  () rfl (by omega) n.symm (λ_ h=>⟨_,by simp only;rw [re];rfl,.inl ⟨rfl,by rw [<- h];rfl⟩⟩) (λk d l _ B g p h=>by
   simp only;unfold Vn at h;rw [rl p,R5,S9,Sb g,ae m,SL,Sx,S9,Sb g];by_cases e:(WS false (λs j=>(Vg s.1 j,0)) s d).1=true
   ·rw [if_pos e];rw [if_pos e] at h;exact .inr ⟨_,rfl,.inr ⟨rfl,d,h.symm,rfl,rfl⟩⟩
   ·rw [if_neg e];rw [if_neg e] at h
    exact .inl ⟨(),by rw [TL g (by omega)],h⟩)
 refine Tc u ?_;rw [SM];rcases c with ⟨c,i⟩ | ⟨c,d,i,w,x⟩
 ·rw [if_neg (show ¬ r.1=0 by omega),i]
 ·rw [if_pos c,i,w,x]
end
section
open Go Go.Proofs.YtfilfloanndddaaGreat.Sv
theorem kc {β:Type} (k:Unit->Option β):gd true k=k ():=rfl
def TG (l:List (List Tb)) (i:Nat):List Tb:=(l[i]?).getD []
def Xk (l:List (List Tb)):Nat->Nat
 | 0=>0
 | k+1=>if TG l k=[] then Xk l k else k+1
def Xg (l:List (List Tb)) (n:Nat):List (List Tb):=l++List.replicate (n+1-l.length) []
def WN (l:List (List Tb)) (n:Nat) (r:List Tb):List (List Tb):=(Xg l n).set n r
def XI (l:List (List Tb)):List (List Tb):=l.take (Xk l l.length)
def UP (L:TB) (n:Nat) (r:List Tb):TB:=(L.1,XI (WN L.2 n r))
theorem aT (l:List (List Tb)) : ∀ k,Xk l k<=k
 | 0=>Nat.le_refl _
 | k+1=>by
  unfold Xk;split
  ·exact Nat.le_succ_of_le (aT l k)
  ·exact Nat.le_refl _
theorem Zb (l:List (List Tb)) : ∀ {k i:Nat},Xk l k<=i->i<k->TG l i=[]
 | 0,_,_,h=>by omega
 | k+1,i,h1,h2=>by
  unfold Xk at h1;split at h1
  ·rename_i a;by_cases hi:i=k
   ·rw [hi];exact a
   ·exact Zb l h1 (by omega)
  ·omega
theorem Z8 (l:List (List Tb)) : ∀ {k m:Nat},Xk l k=m+1->TG l m≠[]
 | 0,m,h=>by cases h
 | k+1,m,h=>by
  unfold Xk at h;split at h
  ·exact Z8 l h
  ·rename_i a;have:m=k:=by omega
   rw [this];exact a
theorem aI (l:List (List Tb)) (i:Nat):TG (XI l) i=TG l i:=by
 unfold XI;by_cases h:i<Xk l l.length
 ·unfold TG;rw [List.getElem?_take,if_pos h]
 ·have a:TG (l.take (Xk l l.length)) i=[]:=by
   unfold TG;rw [List.getElem?_take,if_neg h];rfl
  rw [a];by_cases b:i<l.length
  ·exact (Zb l (by omega) b).symm
  ·unfold TG;rw [List.getElem?_eq_none (by omega)];rfl
theorem cf (l:List (List Tb)):(XI l).getLast? ≠ some []:=by
 have c:(XI l).length=Xk l l.length:=by
  have:=aT l l.length;unfold XI;rw [List.length_take];omega
 cases a:Xk l l.length with
 | zero =>
  have:XI l=[]:=List.length_eq_zero_iff.1 (by rw [c,a]);rw [this];simp
 | succ m =>
  have d:=Z8 l a;rw [List.getLast?_eq_getElem?,c,a];intro e;have b:TG (XI l) m=[]:=by unfold TG;rw [show m=m+1-1 by omega,e];rfl
  rw [aI] at b;exact d b
theorem YE (l:List (List Tb)) (n:Nat):(Xg l n).length=max l.length (n+1):=by
 unfold Xg;simp;omega
theorem bQ (l:List (List Tb)) (n i:Nat):TG (Xg l n) i=TG l i:=by
 unfold TG Xg;by_cases h:i<l.length
 ·rw [List.getElem?_append_left h]
 ·rw [List.getElem?_append_right (by omega),List.getElem?_replicate,List.getElem?_eq_none (l:=l) (by omega)];split<;>rfl
theorem bU (l:List (List Tb)) (n i:Nat) (r:List Tb):TG (WN l n r) i=if i=n then r else TG l i:=by
 unfold WN;by_cases h:i=n
 ·rw [if_pos h,h];have:=YE l n;unfold TG;rw [List.getElem?_set_self (by omega)];rfl
 ·rw [if_neg h];unfold TG;rw [List.getElem?_set_ne (λe=>h e.symm)];exact bQ l n i
theorem WQ (L:TB) (n i:Nat) (r:List Tb):TG (UP L n r).2 i=if i=n then r else TG L.2 i:=by
 show TG (XI _) i=_;rw [aI,bU]
theorem cg (L:TB) (n:Nat) (r:List Tb):(UP L n r).2.getLast? ≠ some []:=cf _
theorem eL (L:TB) (n:Nat) (r:List Tb):(UP L n r).2.length<=max L.2.length (n+1):=by
 show (XI _).length<=_;unfold XI;rw [List.length_take];have:(WN L.2 n r).length=max L.2.length (n+1):=by unfold WN;rw [List.length_set,YE]
 omega
theorem dZ (l:List (List Tb)):(XI l).flatten=l.flatten:=by
 have h:l=XI l++l.drop (Xk l l.length):=(List.take_append_drop _ _).symm
 have a:(l.drop (Xk l l.length)).flatten=[]:=by
  rw [List.flatten_eq_nil_iff];intro x c;obtain ⟨i,hi⟩:=List.getElem?_of_mem c;rw [List.getElem?_drop] at hi;have b:=(List.getElem?_eq_some_iff.1 hi).1;have:=Zb l (k:=l.length) (i:=Xk l l.length+i) (by omega) b;unfold TG at this;rw [hi] at this;exact this
 conv=>rhs;rw [h,List.flatten_append,a,List.append_nil]
theorem eh (l:List (List Tb)) (n:Nat):(Xg l n).flatten=l.flatten:=by
 unfold Xg;rw [List.flatten_append]
 have:(List.replicate (n+1-l.length) ([]:List Tb)).flatten=[]:=by
  rw [List.flatten_eq_nil_iff];intro x a;exact (List.mem_replicate.1 a).2
 rw [this,List.append_nil]
theorem W7 (L:TB) (n:Nat) (r:List Tb) : ∃ p q,L.2.flatten=p++(TG L.2 n++q)/\(UP L n r).2.flatten=p++(r++q):=by
 have a:n<(Xg L.2 n).length:=by rw [YE];omega
 refine ⟨((Xg L.2 n).take n).flatten,((Xg L.2 n).drop (n+1)).flatten,?_,?_⟩
 ·rw [<- bQ L.2 n n,<- eh L.2 n]
  have:Xg L.2 n=(Xg L.2 n).take n++((Xg L.2 n)[n]::(Xg L.2 n).drop (n+1)):=by
   rw [<- List.drop_eq_getElem_cons a,List.take_append_drop]
  have b:TG (Xg L.2 n) n=(Xg L.2 n)[n]:=by unfold TG;rw [List.getElem?_eq_getElem a];rfl
  rw [b]
  conv=>lhs;rw [this]
  rw [List.flatten_append,List.flatten_cons]
 ·show (XI (WN L.2 n r)).flatten=_;rw [dZ];unfold WN;rw [List.set_eq_take_append_cons_drop,if_pos a,List.flatten_append,List.flatten_cons]
theorem VLev.own {L:TB} (v:VLev L) (i:Nat):(TG L.2 i).length<=2 /\ ∀ r∈TG L.2 i,VR (UV L.1 i) r:=by
 unfold TG;cases h:L.2[i]? with
 | none=>exact ⟨by simp,λr a=>by cases a⟩
 | some rs=>exact v.lev i rs h
theorem VLev.with' {L:TB} (v:VLev L) {n:Nat} (f:n<12) {r:List Tb} (d:r.length<=2) (e : ∀ x∈r,VR (UV L.1 n) x) (b:((UP L n r).2.flatten.map lL).Nodup):VLev (UP L n r):=by
 refine ⟨v.B1,v.B2,?_,λi rs hi => ?_,b,cg L n r⟩
 ·have:=eL L n r;have:=v.len;omega
 ·have a:=WQ L n i r;unfold TG at a;rw [hi] at a;simp only [Option.getD_some] at a;rw [a];split
  ·rename_i c;rw [c];exact ⟨d,e⟩
  ·exact v.own i
theorem VLev.leave {L:TB} (v:VLev L) {n:Nat} (c:n<12):VLev (UP L n []):=by
 refine v.with' c (by simp) (λ_ h=>by cases h) ?_
 obtain ⟨p,q,a,b⟩:=W7 L n [];have:=v.ids;rw [a] at this;rw [b,List.nil_append];refine List.Sublist.nodup (List.Sublist.map _ ?_) this;exact List.Sublist.append (List.Sublist.refl _) (List.sublist_append_right _ _)
theorem VLev.arrive {L:TB} (v:VLev L) {n:Nat} (g:n<12) {x:Tb} (j:(TG L.2 n).length<2) (i:VR (UV L.1 n) x) (b : ∀ y∈L.2.flatten,y.1≠x.1):VLev (UP L n (TG L.2 n++[x])):=by
 refine v.with' g (by simp;omega) (λy hy => ?_) ?_
 ·rcases List.mem_append.1 hy with hy | hy
  ·exact (v.own n).2 y hy
  ·rw [List.mem_singleton.1 hy];exact i
 ·obtain ⟨p,q,c,d⟩:=W7 L n (TG L.2 n++[x])
  have h:(UP L n (TG L.2 n++[x])).2.flatten.Perm (x::L.2.flatten):=by
   rw [c,d,List.append_assoc];refine List.Perm.trans ?_ (List.perm_middle (l₁:=p++TG L.2 n) (l₂:=q) (a:=x) |>.trans (by rw [List.append_assoc]));rw [List.append_assoc];exact List.Perm.refl _
  refine (h.map lL).nodup_iff.2 (List.nodup_cons.2 ⟨λf => ?_,v.ids⟩);obtain ⟨y,hy,e⟩:=List.mem_map.1 f;exact b y hy e
theorem Zj {l:List (List Tb)} {x:Tb}:x∈l.flatten <-> ∃ i,x∈TG l i:=by
 rw [List.mem_flatten];constructor
 ·rintro ⟨rs,a,b⟩;obtain ⟨i,hi⟩:=List.getElem?_of_mem a;exact ⟨i,by unfold TG;rw [hi];exact b⟩
 ·rintro ⟨i,h⟩;unfold TG at h;cases hi:l[i]? with
  | none=>rw [hi] at h;cases h
  | some rs=>rw [hi] at h;exact ⟨rs,List.mem_of_getElem? hi,h⟩
theorem Yq {l:List (List Tb)} {x:Tb} (h:x∈l.flatten):x.1<=V2 l:=by
 have d : ∀ (rs:List Tb) (m:Int),m<=rs.foldl (λm r=>S0 m r.1) m /\ ∀ x∈rs,x.1<=rs.foldl (λm r=>S0 m r.1) m:=by
  intro rs
  induction rs with
  | nil=>intro m;exact ⟨by simp,λx hx=>by cases hx⟩
  | cons r rs c =>
   intro m;obtain ⟨b,a⟩:=c (S0 m r.1);rw [We] at b a;simp only [List.foldl_cons,We] at b a ⊢;refine ⟨by omega,λx hx => ?_⟩;rcases List.mem_cons.1 hx with e | hx
   ·rw [e];omega
   ·exact a x hx
 have two : ∀ (ls:List (List Tb)) (m:Int),m<=ls.foldl (λm rs=>rs.foldl (λm r=>S0 m r.1) m) m /\ ∀ rs∈ls,∀ x∈rs,x.1<=ls.foldl (λm rs=>rs.foldl (λm r=>S0 m r.1) m) m:=by
  intro ls
  induction ls with
  | nil=>intro m;exact ⟨by simp,λx hx=>by cases hx⟩
  | cons rs ls c =>
   intro m;obtain ⟨b,a⟩:=c (rs.foldl (λm r=>S0 m r.1) m);obtain ⟨i,g⟩:=d rs m;simp only [List.foldl_cons];refine ⟨by omega,λf hrs x hx => ?_⟩;rcases List.mem_cons.1 hrs with e | hrs
   ·subst e;have:=g x hx;omega
   ·exact a f hrs x hx
 obtain ⟨rs,b,a⟩:=List.mem_flatten.1 h;exact (two l 0).2 rs b x a
end
section
open Go Go.Proofs.YtfilfloanndddaaGreat.Sv
theorem Z9 {M:List (List Tb)} {f:Int->Option (LR Int (Nat×(Int×Unit)))} (a:f 0=some (.dn (0,(0,())))) (hs : ∀ k,k<M.length->f ((k+1:Nat):Int)=if TG M k=[] then some (.nx (k:Int)) else some (.dn (0,(((k+1:Nat):Int),())))) : ∀ k,k<=M.length->IJ (k+1) f (k:Int)=some (0,((Xk M k:Nat):Int),())
 | 0,_=>Tl a
 | k+1,hk=>by
  have h:=hs k (by omega);unfold Xk;by_cases b:TG M k=[]
  ·rw [if_pos b] at h ⊢;rw [Tf h];exact Z9 a hs k (by omega)
  ·rw [if_neg b] at h ⊢;exact Tl h
theorem lV (L:List (List Tb)) (n:Nat):K5 (Q8 (max L.length (n+1)) ([]:List Tb)) 0 L (AS (Q8 (max L.length (n+1)) ([]:List Tb)))=Xg L n:=by
 have a:AS (Q8 (max L.length (n+1)) ([]:List Tb))=max L.length (n+1):=by unfold AS Q8;simp
 rw [a];unfold K5 Xg Q8;rw [List.take_of_length_le (by omega:L.length<=max L.length (n+1))];simp only [List.take_zero,List.nil_append,List.drop_replicate,Nat.zero_add]
 congr 2
 omega
theorem fA (l:List (List Tb)) (n:Nat) (r:List Tb):lset (Xg l n) n r=WN l n r:=rfl
theorem Vk {l:List (List Tb)} {i:Nat} (h:i<l.length):l[i]? = some (TG l i):=by
 unfold TG;rw [List.getElem?_eq_getElem h];rfl
theorem aZ {β:Type} (l:List Tb) (x y:Unit->Option β):br (RR (l.length:Int) 0) x y=if l=[] then x () else y ():=by
 rw [Sn];by_cases h:l=[]
 ·rw [if_pos h,if_pos (by rw [h];rfl)]
 ·rw [if_neg h,if_neg (by have:=List.length_pos_iff.2 h;omega)]
theorem ZE {L:TB} (i:L.2.length<=1000) {n:Nat} (j:n<1000) (r:List Tb):VE (L,((n:Int),r))=some (UP L n r):=by
 have b:S0 (Kb (AS L.2)) (Rl .i64 (n:Int) 1)=((max L.2.length (n+1):Nat):Int):=by
  rw [TK (by omega),We,TH,TF];omega
 unfold VE;simp only [b,S9,lV,fA];have d:(Xg L.2 n).length=max L.2.length (n+1):=YE _ _;have l:(WN L.2 n r).length=max L.2.length (n+1):=by unfold WN;rw [List.length_set,d]
 rw [Tw (by omega),SR,if_pos (by rw [TF,d];omega),Sb (Vk (by omega))]
 have c:=Z9 (M:=WN L.2 n r) (f:=λa=>br (SU a 0) (λ_=>RX (Rp .i64 a 1) λe=>gd (KC e (AS (WN L.2 n r))) λ_=>ix (WN L.2 n r) e λh=>br (RR (Kb (AS h)) 0) (λ_=>some (.nx (Rp .i64 a 1))) λ_=>some (.dn ((0,(a,()))))) λ_=>some (.dn ((0,(a,()))))) rfl (λk b=>by
  have hi:Rp .i64 ((k+1:Nat):Int) 1=(k:Int):=by rw [SB (by omega)];omega
  simp only [hi,S9];rw [Sp,if_pos (by omega),SR,if_pos (by rw [TF];omega),Sb (Vk b)]
  exact aZ _ _ _) _ (Nat.le_refl _)
 rw [TH,show AS (WN L.2 n r)=(WN L.2 n r).length from rfl];refine Tc (Ug (by omega) c) ?_;have g:=aT (WN L.2 n r) (WN L.2 n r).length;simp only [S9];rw [Tw g,SQ,if_pos (by omega),SN,if_pos (by omega),SQ,if_pos (by unfold BD PA;omega)];unfold UP XI Dy BD PA;simp
end
section
open Go Go.Proofs.YtfilfloanndddaaGreat.Sv
def aY (d:Int) (j:Job):Bool:=RR d j.1
def UK (js:List Job) (d:Int):Option Job:=js.find? (aY d)
def Yr (js:List Job):List (Int×Job):=js.map λj=>(j.1,j)
def zJ:Job:=(0,(([],([],([],([],0)))),((false,([],false)),([],0))))
def V4 (L:TB) (d:Int):Job:=match TG L.2 d.toNat with
 | [r0,r1]=>(d,U6 r1.2 r0.2 (decide (d=(L.2.length:Int)-1)) 0)
 | _=>zJ
def WH (s:TA) (L:TB) (a d:Int):Job:=(if d=a then none else UK s.2.1 d).getD (V4 L d)
def YI (s:TA) (L:TB) (next a:Int):TA:=(L,((TI 0 L.2).map (WH s L a),next))
theorem aG (d:Int) : ∀ js:List Job,MI (λa b=>RR a b) (Yr js) d=UK js d
 | []=>rfl
 | j::js=>by
  show (bif RR d j.1 then some j else MI (λa b=>RR a b) (Yr js) d)=(j::js).find? (aY d)
  rw [List.find?_cons,aG d js];show _=match RR d j.1 with | true=>some j | false=>UK js d
  cases RR d j.1<;>rfl
theorem aH {j:Job} : ∀ {js:List Job},j.1 ∉ js.map (·.1)->IR (λa b=>RR a b) (Yr js) j.1 j=Yr (js++[j])
 | [],_=>rfl
 | i::js,h=>by
  show (bif RR j.1 i.1 then (j.1,j)::Yr js else (i.1,i)::IR (λa b=>RR a b) (Yr js) j.1 j)=(i.1,i)::Yr (js++[j])
  have d:RR j.1 i.1=false:=by rw [VS];simp;intro e;exact h (by simp [e])
  rw [d,cond_false,aH (λc=>h (by simp at c ⊢;exact .inr c))]
theorem Xu {js:List Job} {d:Int} (h:d ∉ js.map (·.1)):UK js d=none:=by
 unfold UK;rw [List.find?_eq_none];intro j a;unfold aY;rw [VS];simp only [decide_eq_true_eq];intro e;exact h (by rw [e];exact List.mem_map_of_mem a)
theorem aF {x d:Int} : ∀ {js:List Job},(js.map (·.1)).Nodup->MI (λa b=>RR a b) (IQ (λa b=>RR a b) (Yr js) x) d=if d=x then none else UK js d
 | [],_=>by split<;>rfl
 | j::js,h=>by
  rw [List.map_cons,List.nodup_cons] at h;show MI (λa b=>RR a b) (bif RR x j.1 then Yr js else (j.1,j)::IQ (λa b=>RR a b) (Yr js) x) d=_
  have g:UK (j::js) d=if d=j.1 then some j else UK js d:=by
   unfold UK;rw [List.find?_cons];unfold aY;rw [VS];by_cases e:d=j.1<;>simp [e]
  rw [VS,g];by_cases f:x=j.1
  ·rw [show decide (x=j.1)=true by simp [f],cond_true,aG];by_cases c:d=x
   ·rw [if_pos c];exact Xu (by rw [c,f];exact h.1)
   ·rw [if_neg c,if_neg (by rw [<- f];exact c)]
  ·rw [show decide (x=j.1)=false by simp [f],cond_false];show (bif RR d j.1 then some j else MI (λa b=>RR a b) (IQ (λa b=>RR a b) (Yr js) x) d)=_
   rw [aF h.2,VS];by_cases c:d=j.1
   ·rw [show decide (d=j.1)=true by simp [c],cond_true,if_pos c,if_neg (by rw [c];exact λe=>f e.symm)]
   ·rw [show decide (d=j.1)=false by simp [c],cond_false,if_neg c]
theorem VR.vl' {L:TB} (v:VLev L) {n:Nat} {r:Tb} (h:r∈TG L.2 n):VL r.2:=((v.own n).2 r h).vl
theorem dj (L:TB) (a:L.2.length<=1000) (n:Nat):Uv (L,(n:Int))=some (decide ((n:Int)=(L.2.length:Int)-1)):=by
 unfold Uv;simp only [TH,TF];rw [SB (by omega),VS]
theorem eX {L:TB} (v:VLev L) {n:Nat} (h:(TG L.2 n).length=2):WV (L,(n:Int))=some (V4 L n,0):=by
 have d:n<L.2.length:=by
  by_cases e:n<L.2.length
  ·exact e
  ·unfold TG at h;rw [List.getElem?_eq_none (by omega)] at h;cases h
 have i:=v.len;obtain ⟨f,g⟩:=v.small;unfold WV;simp only [TH,TF];rw [YZ _ f g,Wh v,SL,Ss,if_pos rfl,Sr,if_neg (by omega),So,if_neg (by omega),So,if_neg (by omega),S9,Sb (Vk d),Sr,if_neg (by omega),dj L (by omega) n,SL]
 obtain ⟨b,c,a⟩ : ∃ b c,TG L.2 n=[b,c]:=by
  match hq:TG L.2 n with
  | [b,c]=>exact ⟨b,c,rfl⟩
  | []=>rw [hq] at h;cases h
  | [_]=>rw [hq] at h;cases h
  | _::_::_::_=>rw [hq] at h;simp at h
 rw [ap _ (by rw [Vk d,a]) (VR.vl' v (n:=n) (by rw [a];simp)) (VR.vl' v (n:=n) (by rw [a];simp)),SL];unfold V4;rw [Int.toNat_natCast,a]
theorem Xl (i:Nat) (rs:List Tb) (ls:List (List Tb)):TI i (rs::ls)=(if rs.length=2 then [(i:Int)] else [])++TI (i+1) ls:=rfl
theorem ZK {s:TA} (f:(s.2.1.map (·.1)).Nodup) (t:s.2.1.length<=1000) {L:TB} (v:VLev L) (next a:Int):TZ (s,(L,(next,a)))=some (YI s L next a,0):=by
 have u:=v.len;unfold TZ;simp only [TH,TF]
 rw [U5 (l:=s.2.1) (σ:=List (Int×Job)) (s:=((0:Int),([]:List (Int×Job)))) (λi m=>((i:Int),m)) (λls i m => ∃ p,s.2.1=p++ls/\m=Yr p) (λ_ _ _=>(0,(((s.2.1.length:Int),Yr s.2.1),()))) [] rfl (by omega) ⟨[],rfl,rfl⟩ (λm h=>by
  obtain ⟨p,d,rfl⟩:=h
  simp only;rw [re,Rd,d,List.append_nil]) (λi x ls m q b hi h=>by
   obtain ⟨p,d,rfl⟩:=h;refine ⟨Yr (p++[x]),?_,⟨p++[x],by rw [d];simp,rfl⟩,rfl⟩;simp only;rw [rl hi,R5,S9,Sb b,TL b (by omega),aH];intro g;rw [d,List.map_append,List.nodup_append] at f
   exact f.2.2 _ g x.1 (by simp) rfl),SL]
 simp only
 rw [U5 (l:=L.2) (σ:=List Job) (s:=((0:Int),((0:Int),(((0:Int),(([]:List (List Tb)),(([]:List Job),(0:Int)))),(L.1,(L.2,(([]:List Job),next))))))) (λi js=>((0:Int),((i:Int),(((0:Int),(([]:List (List Tb)),(([]:List Job),(0:Int)))),(L.1,(L.2,(js,next))))))) (λls i js=>js++(TI i ls).map (WH s L a)=(TI 0 L.2).map (WH s L a)) (λ_ _ _=>(0,(((0:Int),((L.2.length:Int),(((0:Int),(([]:List (List Tb)),(([]:List Job),(0:Int)))),(L.1,(L.2,((TI 0 L.2).map (WH s L a),next)))))),()))) [] rfl (by omega) rfl (λm h=>by
  simp only;rw [re,Rd,<- h];simp [TI]) (λi rs ls m q b hi h=>by
   have k:TG L.2 i=rs:=by unfold TG;rw [b];rfl
   have o:=(v.own i).1;rw [k] at o;refine ⟨m++(if rs.length=2 then [WH s L a i] else []),?_,?_,rfl⟩
   ·simp only;rw [rl hi,R5,S9,Sb b,Sr]
    have g:m.length<=1000:=by
     have c:=congrArg List.length h;have r:=VN L.2 0;rw [List.length_append,List.length_map,List.length_map] at c;omega
    by_cases c:rs.length=2;rotate_left
    ·rw [if_pos (by omega),if_neg c,List.append_nil,TL b (by omega)]
    rw [if_neg (by omega),if_pos c,aF f];have e:WH s L a i=(if (i:Int)=a then none else UK s.2.1 i).getD (V4 L i):=rfl
    cases n:(if (i:Int)=a then none else UK s.2.1 (i:Int)) with
    | none =>
     rw [n,Option.getD_none] at e;rw [e,eX v (by rw [k];exact c),Tn,Sx,if_neg (show ¬ S3 (none:Option Job)=true by simp [S3]),SL];simp only;rw [Ss,if_pos rfl,Tw (by simp only [BD,List.length_cons,List.length_nil];omega),TL b (by omega)];rfl
    | some j =>
     rw [n,Option.getD_some] at e;rw [e,Tn,Sx,if_pos (show S3 (some j)=true from rfl),Tw (by simp only [BD,List.length_cons,List.length_nil];omega),TL b (by omega)];rfl
   ·rw [List.append_assoc,<- h,Xl,List.map_append]
    congr 2
    split<;>rfl),SL]
 rfl
end
section
open Go Go.Proofs.YtfilfloanndddaaGreat.Sv
def pS (s:UH):Option Ww:=if s.1=true then some s.2.1 else none
theorem Asc.weak : ∀ {l:List S8} {p c:Option Ww},(∀ a,c=some a -> ∃ q,p=some q/\Rz q a=false)->Asc p l->Asc c l
 | [],_,_,_,_=>trivial
 | x::l,p,c,h,⟨g,i⟩=>⟨λa b=>by
  obtain ⟨q,e,j⟩:=h a b;have d:=g q e;by_cases f:a=q
  ·rw [f];exact d
  ·exact V3 (Yf j (λe=>f e.symm)) d,i⟩
theorem az : ∀ (l:List S8) (s:UH),Y6 s l->Asc (pS s) (Vl s l)
 | [],_,_=>trivial
 | x::l,s,⟨_,g,h⟩=>by
  have i:=az l _ h;have f:Asc (some x.1) (Vl (true,(x.1,s.2.2)) l):=i;unfold Vl;by_cases c:keep s x=true
  ·rw [if_pos c];refine ⟨λq d => ?_,f⟩;unfold pS at d;by_cases b:s.1=true
   ·rw [if_pos b] at d;cases d;refine Yf (g b) λe => ?_;unfold keep at c;rw [b,e] at c;simp at c
   ·rw [if_neg b] at d;cases d
  ·rw [if_neg c,List.nil_append];refine f.weak λj a=>⟨x.1,rfl,?_⟩;unfold pS at a;by_cases b:s.1=true
   ·rw [if_pos b] at a;cases a;exact g b
   ·rw [if_neg b] at a;cases a
theorem bB : ∀ {l:List S8} {s:UH} {x:S8},x∈Vl s l->x∈l
 | y::l,s,x,h=>by
  unfold Vl at h;rcases List.mem_append.1 h with h | h
  ·split at h
   ·rw [List.mem_singleton.1 h];simp
   ·cases h
  ·exact List.mem_cons_of_mem _ (bB h)
theorem dK : ∀ {l:List S8} {s:UH},Y6 s l -> ∀ x∈l,kE x=0
 | y::l,s,⟨a,_,b⟩,x,h=>by
  rcases List.mem_cons.1 h with e | h
  ·rw [e];exact a
  ·exact dK b x h
theorem fI {a b:List S8} (va:VL a) (f:VL b) (c:Bool) {k:Nat} (d:k<=a.length+b.length) (j:a.length+b.length<=5000):VL (U6 a b c k).2.2.1/\(U6 a b c k).2.2.1.length<=a.length+b.length:=by
 have e:=Wo va f c d
 have i:(Vl (s0 c) (TU a b k)).length<=k:=by
  have:=XX (s0 c) (TU a b k);rw [Ur va f d] at this;exact this
 have g:(U6 a b c k).2.2.1=Vl (s0 c) (TU a b k):=rfl;rw [g];exact ⟨⟨by omega,λx h=>dK e x (bB h),az _ _ e⟩,by omega⟩
theorem cI {L:TB} (v:VLev L) {n:Nat} (h:TG L.2 n≠[]):U3 (L,(n:Int))=some (UP L n [],(TG L.2 n,0)):=by
 have b:n<L.2.length:=by
  by_cases a:n<L.2.length
  ·exact a
  ·unfold TG at h;rw [List.getElem?_eq_none (by omega)] at h;exact absurd rfl h
 have d:=v.len;have c:=(v.own n).1;unfold U3;simp only [TH,TF];rw [ac v,SL,if_neg (by omega),Ss,if_pos rfl,Sr,if_pos (by omega),S9,Sb (Vk b),aZ,if_neg h,ZE (by omega) (by omega),SL,Tw (by omega)]
theorem dh {S β:Type} {f:S->Option (LR S β)} {r:β} (mk:Int->S) (n:Nat) {s:S} (b:s=mk ((n:Int)-1)) (g:n<1000000) (hs : ∀ k,k<n->f (mk (k:Int))=some (.nx (mk ((k:Int)-1)))) (c:f (mk (-1))=some (.dn r)):loop f s=some r:=by
 subst b
 have a : ∀ k,k<=n->IJ (k+1) f (mk ((k:Int)-1))=some r:=by
  intro k
  induction k with
  | zero=>intro _;exact Tl c
  | succ k d =>
   intro e;have:=hs k (by omega);rw [show ((k+1:Nat):Int)-1=(k:Int) by omega,Tf this];exact d (by omega)
 exact Ug (by omega) (a n (Nat.le_refl _))
theorem bK {L:TB} (v:VLev L) {n:Nat} (o:n<12) {x:Tb} (q:x.2.length<=1048576) (b : ∀ y∈L.2.flatten,y.1≠x.1) (m:(TG L.2 n).length<2) :
  Tq (L,((n:Int),x))=some (if kR [] (UV L.1 n) x≠0 then ((0,[]),kR [] (UV L.1 n) x) else (UP L n (TG L.2 n++[x]),0)):=by
 have p:=v.len;unfold Tq;simp only [TH,TF];rw [ac v,SL,if_neg (by omega),Ss,if_pos rfl,ZC v.B1 v.B2 (by omega),aE x _ (by omega),show RS (n:Int) 0=true by unfold RS;simp];rw [kc,SL,Ss];by_cases a:kR [] (UV L.1 n) x=0;rotate_left
 ·rw [if_neg a,if_pos a]
 rw [if_pos a,if_neg (by simp [a])]
 rw [U5 (l:=L.2) (σ:=Unit) (s:=((0:Int),(((0:Int),([]:List (List Tb))),(0:Int)))) (λi _=>((i:Int),(((0:Int),([]:List (List Tb))),(0:Int)))) (λ_ _ _=>True) (λ_ _ _=>(0,(((L.2.length:Int),(((0:Int),([]:List (List Tb))),(0:Int))),()))) () rfl (by omega) trivial (λ_ _=>by
  simp only;rw [re];rfl) (λi rs ls _ j hi c _=>by
   refine ⟨(),?_,trivial,rfl⟩;have e:TG L.2 i=rs:=by unfold TG;rw [hi];rfl
   have f:=(v.own i).1;rw [e] at f;simp only;rw [rl c,R5,S9,Sb hi,SB (by omega)]
   rw [dh (λk=>(k,(((0:Int),([]:List (List Tb))),(0:Int)))) rs.length rfl (by omega) (λk a=>by
    have h:rs[k]? = some rs[k]:=List.getElem?_eq_getElem a;have d:rs[k].1≠x.1:=b _ (List.mem_flatten.2 ⟨rs,List.mem_of_getElem? hi,List.getElem_mem a⟩);simp only
    rw [So,if_pos (by omega),S9,Sb h,Sn,if_neg d,SB (by omega)]) (r:=(0,(((-1:Int),(((0:Int),([]:List (List Tb))),(0:Int))),()))) rfl,SL]
   rw [TL hi (by omega)]
   rfl),SL]
 rw [SM,if_pos rfl,Sr];by_cases g:n<L.2.length
 ·rw [if_pos (by omega),S9,Sb (Vk g),Sn,if_neg (by omega),S9,S9,Tw (Nat.le_refl _),SP,if_pos rfl,Tw (Nat.zero_le _)];have hs:Dy (TG L.2 n) 0 (TG L.2 n).length=TG L.2 n:=by unfold Dy;simp
  rw [hs,Tw (by simp only [BD,List.length_cons,List.length_nil];omega),ZE (by omega) (by omega),SL];rfl
 ·rw [if_neg (by omega)];have e:TG L.2 n=[]:=by unfold TG;rw [List.getElem?_eq_none (by omega)];rfl
  rw [Tw (by simp),ZE (by omega) (by omega),SL,e];rfl
end
end Go.Proofs.YtfilfloanndddaaGreat.Pl
