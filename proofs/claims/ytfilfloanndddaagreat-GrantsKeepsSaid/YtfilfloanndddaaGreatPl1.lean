/- Functions of the program and of the specification as plain functions, and laws about them. No condition. -/
import Derived.Test.YtfilfloanndddaaGreatPl0
set_option linter.all false
namespace Go.Proofs.YtfilfloanndddaaGreat.Pl
section
open Go Go.Proofs.YtfilfloanndddaaGreat.Sv
theorem Uo {S β:Type} {f:S->Option (LR S β)} {s0 s1 s2:S} {r:β} (a:f s0=some (.nx s1)) (b:f s1=some (.nx s2)) (c:f s2=some (.dn r)):loop f s0=some r :=
 Ui (n:=3) (by omega) ((Th a).trans ((Th b).trans (Tq c)))
theorem ZT {α β:Type} {c:Bool} {n:Int} {l:List α} {K:Nat->α->Option β} {E:Unit->Option β} (k:Nat) {x:α} (hc:c=true) (b:n=(k:Int)) (d:l[k]? = some x):br c (λ_=>RX n λa=>ix l a λe=>K a e) E=K k x:=by
 subst hc;subst b;rw [R5,S9,Sb d]
theorem V3 {α β:Type} {n:Int} {l:List α} {K:Nat->α->Option β} (k:Nat) {x:α} (b:n=(k:Int)) (c:l[k]? = some x):RX n (λa=>ix l a λd=>K a d)=K k x:=by
 subst b;rw [S9,Sb c]
theorem W6 {l:List S8} {i:Nat} (h:i<=l.length):Tl (l,(i:Int))=some (kx l i):=by
 unfold Tl kx;simp only [TH,TF];rw [Sn];by_cases hi:i=l.length
 ·rw [if_pos (by omega),List.getElem?_eq_none (by omega)]
 ·have a:l[i]? = some l[i]:=by rw [List.getElem?_eq_getElem (by omega)]
  rw [if_neg (by omega),S9,Sb a,a]
section
variable {a b:List S8} (va:VL a) (vb:VL b)
theorem lU {i j:Nat} (hi:i<=a.length) (c:j<=b.length):Wk ([a,b],[(i:Int),(j:Int)])=some (Tt (kx a i) (kx b j)):=by
 unfold Wk;refine TZ (x:=(0,((2,[kx a i,kx b j]),()))) (Uo (s1:=(1,[kx a i,([],false)])) (s2:=(2,[kx a i,kx b j])) ?_ ?_ rfl) ?_
 ·show bd (Tl (a,(i:Int))) _=_;rw [W6 hi];rfl
 ·show bd (Tl (b,(j:Int))) _=_;rw [W6 c];rfl
 ·show bd (Ug [kx a i,kx b j]) _=_;rw [ZC (UC _ _) (UC _ _)];rfl
include va vb
theorem Yr:Ts a=some (0,0):=by
 rw [XB _ (by have:=va.len;omega),X9 va]
theorem Yf:VO [a,b]=some (0,0):=by
 unfold VO;refine TZ (x:=(1,((0,(0,2)),()))) (Uo (s1:=(0,(0,1))) (s2:=(0,(0,2))) ?_ ?_ rfl) rfl
 ·show bd (Ts a) _=_;rw [Yr va va];rfl
 ·show bd (Ts b) _=_;rw [Yr vb vb];rfl
theorem d9 (c:Bool):V1 ([a,b],c)=some (rt a b c 0,(0,0)):=by
 unfold V1;rw [Yf va vb,SL,Ss,if_pos rfl];refine TZ (x:=(0,((2,[kx a 0,kx b 0]),()))) (Uo (s1:=(1,[kx a 0,([],false)])) (s2:=(2,[kx a 0,kx b 0])) ?_ ?_ rfl) ?_
 ·show bd (Tl (a,((0:Nat):Int))) _=_;rw [W6 (by omega)];rfl
 ·show bd (Tl (b,((0:Nat):Int))) _=_;rw [W6 (by omega)];rfl
 ·show bd (Ug [kx a 0,kx b 0]) _=_;rw [ZC (UC _ _) (UC _ _)];rfl
end
theorem XU (x:Bool):Sv.beq x x=true:=by cases x<;>rfl
theorem X3 (x:W8):seq x x=true:=by rw [ZX]
theorem cF (l:List TD) (h:l.length<=1000):TQ (l,l)=some true:=by
 unfold TQ;simp only [TH,TF]
 rw [Ss,if_pos rfl,Y6 (l:=l) (σ:=Unit) (s:=(0,false)) (λk _=>((k:Int),false)) (λ_ _ _=>some (1,(((l.length:Int),false),()))) () rfl (by omega) (λc=>by
  simp only;rw [re];rfl) (λk x m c _ a b => .inl ⟨(),by
   simp only;rw [rl b,R5,S9,Sb a,S9,Sb a,X3,XU,show Hf (NX true (NX true true))=false from rfl,Rd,TL a (by omega)],rfl⟩),SL]
 rfl
theorem cE (l:List Int) (h:l.length<=1000):TK (l,l)=some true:=by
 unfold TK;simp only [TH,TF]
 rw [Ss,if_pos rfl,Y6 (l:=l) (σ:=Unit) (s:=(0,false)) (λk _=>((k:Int),false)) (λ_ _ _=>some (1,(((l.length:Int),false),()))) () rfl (by omega) (λc=>by
  simp only;rw [re];rfl) (λk x m c _ a b => .inl ⟨(),by
   simp only;rw [rl b,R5,S9,Sb a,S9,Sb a,Ss,if_pos rfl,TL a (by omega)],rfl⟩),SL]
 rfl
theorem d7 (t:Vc) (a:t.1.length<=1000) (b:t.2.1.length<=1000):Vm (t,t)=some true:=by
 unfold Vm;rw [Sn,if_pos rfl,cF _ a,SL,R5,cE _ b];rfl
theorem d8 (p q:TD):Vm (Tt p q,Tt p q)=some true:=d7 _ (show 2<=1000 by omega) (show 2<=1000 by omega)
theorem fa {a b:List S8} {i j:Nat} (h:XK a b i j=true):wk (kx a i) (kx b j)=kx a i/\wn (kx a i) (kx b j)=0:=by
 unfold XK at h;unfold wk wn;rw [if_pos h,if_pos h];exact ⟨rfl,rfl⟩
theorem fb {a b:List S8} {i j:Nat} (h:XK a b i j=false):wk (kx a i) (kx b j)=kx b j/\wn (kx a i) (kx b j)=1:=by
 unfold XK at h;unfold wk wn;rw [if_neg (by simp [h]),if_neg (by simp [h])];exact ⟨rfl,rfl⟩
theorem dZ (x y:W8):Uj (x,y)=some (if Rz x y=true then -1 else if Rz y x=true then 1 else 0):=by
 unfold Uj U4;simp only [X3,aX,SL,Rd];rw [Wg,Wg];split
 ·rfl
 ·split<;>rfl
theorem dY (x y:Int):UV (x,y)=some (if x<y then -1 else if x>y then 1 else 0):=by
 unfold UV Vh;simp only [SL,Ss,if_true,Sr,Sp];split
 ·rfl
 ·split<;>rfl
theorem gJ (x y:Int):Wh [x,y]=some (if x≠0 then x else y):=by
 unfold Wh;by_cases h:x=0
 ·rw [if_neg (by simp [h])];by_cases a:y=0
  ·refine TZ (x:=(1,((0,2),()))) (Uo (s1:=(0,1)) (s2:=(0,2)) ?_ ?_ rfl) (by rw [a];rfl)
   ·refine (ZT 0 rfl rfl rfl).trans ?_;rw [Ss,if_pos h];rfl
   ·refine (ZT 1 rfl rfl rfl).trans ?_;rw [Ss,if_pos a];rfl
  ·refine TZ (x:=(0,((y,1),()))) (Ui (n:=2) (by omega) ((Th (s':=(0,1)) ?_).trans (Tq ?_))) rfl
   ·refine (ZT 0 rfl rfl rfl).trans ?_;rw [Ss,if_pos h];rfl
   ·refine (ZT 1 rfl rfl rfl).trans ?_;rw [Ss,if_neg a]
 ·rw [if_pos h];refine TZ (x:=(0,((x,0),()))) (Ui (n:=1) (by omega) (Tq ?_)) rfl;refine (ZT 0 rfl rfl rfl).trans ?_;rw [Ss,if_neg h]
section
variable {a b:List S8} (va:VL a) (vb:VL b)
include va vb
theorem YO {i j:Nat} (I:Inv a b i j):VN (Yn a b i j)=some (0,0):=by
 unfold VN;rw [show (Yn a b i j).1=[a,b] from rfl,Yf va vb,SL,Ss,if_pos rfl];rw [show (Yn a b i j).2.1=[(i:Int),(j:Int)] from rfl,Ss,if_pos (show Kb (AS [(i:Int),(j:Int)])=Kb (AS [a,b]) from rfl)];refine TZ (x:=(1,((0,(0,2)),()))) (Uo (s1:=(0,(0,1))) (s2:=(0,(0,2))) ?_ ?_ rfl) ?_
 ·refine (ZT 0 rfl rfl rfl).trans ?_;rw [Sr,if_neg (by omega),show RX (((0:Int),((0:Int),(0:Int))).2.2)=λ(k:Nat->Option (LR (Int×(Int×Int)) (Nat×((Int×(Int×Int))×Unit))))=>k 0 from rfl];simp only;rw [Sb (x:=a) rfl,Sp,if_neg (by have:=I.ia;simp only [TH,TF];omega)];rfl
 ·refine (ZT 1 rfl rfl rfl).trans ?_;rw [Sr,if_neg (by omega),show RX (((0:Int),((0:Int),(1:Int))).2.2)=λ(k:Nat->Option (LR (Int×(Int×Int)) (Nat×((Int×(Int×Int))×Unit))))=>k 1 from rfl];simp only;rw [Sb (x:=b) rfl,Sp,if_neg (by have:=I.jb;simp only [TH,TF];omega)];rfl
 rw [show neq ((1:Nat),(((0:Int),((0:Int),(2:Int))),())).1 0=false from rfl,Rd,lU I.ia I.jb,SL,show (Yn a b i j).2.2=Tt (kx a i) (kx b j) from rfl,d8,SL,show Hf true=false from rfl,Rd,XT (UC _ _) (UC _ _),SL];by_cases c:(wk (kx a i) (kx b j)).2=true
 ·rw [if_pos c];rfl
 rw [if_neg c,Ss,if_pos rfl]
 have s : ∀ {x:S8} {f:Nat},i=f+1->a[f]? = some x -> ¬ (if (if Rz x.1 (wk (kx a i) (kx b j)).1=true then (-1:Int) else if Rz (wk (kx a i) (kx b j)).1 x.1=true then 1 else 0)≠0 then (if Rz x.1 (wk (kx a i) (kx b j)).1=true then (-1:Int) else if Rz (wk (kx a i) (kx b j)).1 x.1=true then 1 else 0) else (if (0:Int)<(wn (kx a i) (kx b j):Int) then -1 else if (0:Int)>(wn (kx a i) (kx b j):Int) then 1 else 0))>0:=by
  intro x f hi d
  have p:Rz (wk (kx a i) (kx b j)).1 x.1=false:=by
   cases g:XK a b i j with
   | true =>
    rw [(fa g).1] at c ⊢;unfold kx at c ⊢;cases e:a[i]? with
    | none=>rw [e] at c;exact absurd rfl c
    | some y=>rw [hi] at e;exact Ut (va.lt d e)
   | false =>
    rw [(fb g).1] at c ⊢;unfold kx at c ⊢;cases e:b[j]? with
    | none=>rw [e] at c;exact absurd rfl c
    | some y=>exact I.pa f hi x y d e
  rw [p];have : ¬ (0:Int)>(wn (kx a i) (kx b j):Int):=by omega
  by_cases hs:Rz x.1 (wk (kx a i) (kx b j)).1=true
  ·simp [hs]
  ·simp only [hs,Bool.false_eq_true,if_false,ne_eq,not_true,this];split<;>omega
 have t : ∀ {y:S8} {j':Nat},j=j'+1->b[j']? = some y -> ¬ (if (if Rz y.1 (wk (kx a i) (kx b j)).1=true then (-1:Int) else if Rz (wk (kx a i) (kx b j)).1 y.1=true then 1 else 0)≠0 then (if Rz y.1 (wk (kx a i) (kx b j)).1=true then (-1:Int) else if Rz (wk (kx a i) (kx b j)).1 y.1=true then 1 else 0) else (if (1:Int)<(wn (kx a i) (kx b j):Int) then -1 else if (1:Int)>(wn (kx a i) (kx b j):Int) then 1 else 0))>0:=by
  intro y j' r e
  have q:Rz y.1 (wk (kx a i) (kx b j)).1=true:=by
   cases g:XK a b i j with
   | true =>
    rw [(fa g).1] at c ⊢;unfold kx at c ⊢;cases d:a[i]? with
    | none=>rw [d] at c;exact absurd rfl c
    | some x=>exact I.pb j' r y x e d
   | false =>
    rw [(fb g).1] at c ⊢;unfold kx at c ⊢;cases d:b[j]? with
    | none=>rw [d] at c;exact absurd rfl c
    | some x=>rw [r] at d;exact vb.lt e d
  rw [q];simp
 refine TZ (x:=(1,((0,(0,2)),()))) (Uo (s1:=(0,(0,1))) (s2:=(0,(0,2))) ?_ ?_ rfl) rfl
 ·refine (ZT 0 rfl rfl rfl).trans ?_;rw [Sp];by_cases h:(i:Int)>0
  ·rw [if_pos h];obtain ⟨f,l⟩ : ∃ f,i=f+1:=⟨i-1,by omega⟩;have m:f<a.length:=by have:=I.ia;omega
   have d:a[f]? = some a[f]:=by simp [m]
   refine (V3 0 rfl (x:=a) rfl).trans ((V3 f ?_ d).trans ?_)
   ·rw [SB (by have:=va.len;have:=I.ia;omega)];omega
   rw [dZ,SL];show bd (UV (0,(wn (kx a i) (kx b j):Int))) _=_;rw [dY,SL,gJ,SL,Sp,if_neg (s l d)];rfl
  ·rw [if_neg h];rfl
 ·refine (ZT 1 rfl rfl rfl).trans ?_;rw [Sp];by_cases h:(j:Int)>0
  ·rw [if_pos h];obtain ⟨j',n⟩ : ∃ j',j=j'+1:=⟨j-1,by omega⟩;have o:j'<b.length:=by have:=I.jb;omega
   have e:b[j']? = some b[j']:=by simp [o]
   refine (V3 1 rfl (x:=b) rfl).trans ((V3 j' ?_ e).trans ?_)
   ·rw [SB (by have:=vb.len;have:=I.jb;omega)];omega
   rw [dZ,SL];show bd (UV (1,(wn (kx a i) (kx b j):Int))) _=_;rw [dY,SL,gJ,SL,Sp,if_neg (t n e)];rfl
  ·rw [if_neg h];rfl
end
end
section
open Go Go.Proofs.YtfilfloanndddaaGreat.Sv
theorem Wv {l:List S8} {i:Nat} {x:S8} (h:l[i]? = some x):kx l i=(x.1,false):=by unfold kx;rw [h]
theorem Yy {l:List S8} {i:Nat} (h:l[i]? = none):kx l i=([],true):=by unfold kx;rw [h]
theorem ZV {l:List S8} (v:VL l) {i:Nat} {x:S8} (h:l[i]? = some x):(kx l (i+1)).2=true\/Rz (kx l (i+1)).1 x.1=false:=by
 cases a:l[i+1]? with
 | none=>rw [Yy a];exact .inl rfl
 | some y=>rw [Wv a];exact .inr (Ut (v.lt h a))
theorem YE {α β:Type} {n:Int} {l:List α} {K:Nat->α->Option β} (k:Nat) {x:α} (c:n=(k:Int)) (b:l[k]? = some x):RX n (λa=>gd (KC a (AS l)) λ_=>ix l a λd=>K a d)=K k x:=by
 subst c;rw [S9,SR,if_pos (show k<AS l from (List.getElem?_eq_some_iff.1 b).1),Sb b]
section
variable {a b:List S8} (va:VL a) (vb:VL b)
include va vb
theorem lx {i j:Nat} (I:Inv a b i j) {x:S8} (c:a[i]? = some x) (g:XK a b i j=true):UQ (Yn a b i j)=some (x,(0,(Yn a b (i+1) j,0))):=by
 obtain ⟨f,l⟩:=fa g;have hi:=(List.getElem?_eq_some_iff.1 c).1;have n:=va.len;have e:(wk (kx a i) (kx b j)).2=false:=by rw [f,Wv c]
 obtain ⟨m,h⟩:=XX (p:=kx a i) (q:=kx b j) (k:=kx a (i+1)) (UC _ _) (UC _ _) (UC _ _) e (by rw [f,Wv c];exact ZV va c)
 have d:rk (kx a i) (kx b j) (kx a (i+1))=(kx a (i+1),kx b j):=by
  unfold rk;unfold XK at g;rw [if_pos g]
 rw [d] at h;unfold UQ;rw [YO va vb I,SL,Ss,if_pos rfl];unfold TN TW;refine TZ (YA (show 2<=1048576 by omega)) (TZ (YA (show 2<=1048576 by omega)) ?_);rw [show (Yn a b i j).2.2=Tt (kx a i) (kx b j) from rfl,XT (UC _ _) (UC _ _),if_neg (by simp [e]),SL,Ss,if_pos rfl,l];refine (YE 0 rfl (x:=a) rfl).trans ((YE 0 rfl (x:=(i:Int)) rfl).trans ((V3 i rfl c).trans ((YE 0 rfl (x:=(i:Int)) rfl).trans ((YE 0 rfl (x:=(i:Int)) rfl).trans ((YE 0 rfl (x:=a) rfl).trans ((YE 0 rfl (x:=Rl .i64 (i:Int) 1) rfl).trans ?_))))));rw [TI (by omega),W6 (show i+1<=a.length by omega),SL,h,SL];rfl
theorem ly {i j:Nat} (I:Inv a b i j) {y:S8} (c:b[j]? = some y) (g:XK a b i j=false):UQ (Yn a b i j)=some (y,(1,(Yn a b i (j+1),0))):=by
 obtain ⟨f,l⟩:=fb g;have hi:=(List.getElem?_eq_some_iff.1 c).1;have n:=vb.len;have e:(wk (kx a i) (kx b j)).2=false:=by rw [f,Wv c]
 obtain ⟨m,h⟩:=XX (p:=kx a i) (q:=kx b j) (k:=kx b (j+1)) (UC _ _) (UC _ _) (UC _ _) e (by rw [f,Wv c];exact ZV vb c)
 have d:rk (kx a i) (kx b j) (kx b (j+1))=(kx a i,kx b (j+1)):=by
  unfold rk;unfold XK at g;rw [if_neg (by simp [g])]
 rw [d] at h;unfold UQ;rw [YO va vb I,SL,Ss,if_pos rfl];unfold TN TW;refine TZ (YA (show 2<=1048576 by omega)) (TZ (YA (show 2<=1048576 by omega)) ?_);rw [show (Yn a b i j).2.2=Tt (kx a i) (kx b j) from rfl,XT (UC _ _) (UC _ _),if_neg (by simp [e]),SL,Ss,if_pos rfl,l];refine (YE 1 rfl (x:=b) rfl).trans ((YE 1 rfl (x:=(j:Int)) rfl).trans ((V3 j rfl c).trans ((YE 1 rfl (x:=(j:Int)) rfl).trans ((YE 1 rfl (x:=(j:Int)) rfl).trans ((YE 1 rfl (x:=b) rfl).trans ((YE 1 rfl (x:=Rl .i64 (j:Int) 1) rfl).trans ?_))))));rw [TI (by omega),W6 (show j+1<=b.length by omega),SL,h,SL];rfl
def YZ (a b:List S8) (n:Nat):TC:=Yn a b (TM a b n).1 (TM a b n).2
def Zz (a b:List S8) (n:Nat):Nat:=if XK a b (TM a b n).1 (TM a b n).2=true then 0 else 1
theorem Zn {n:Nat} {x:S8} (h:n<a.length+b.length) (c:ZQ a b n=some x):UQ (YZ a b n)=some (x,((Zz a b n:Int),(YZ a b (n+1),0))):=by
 obtain ⟨d,hs⟩:=V4 va vb (n:=n) (by omega);unfold YZ Zz;rw [show TM a b (n+1)=if XK a b (TM a b n).1 (TM a b n).2=true then ((TM a b n).1+1,(TM a b n).2) else ((TM a b n).1,(TM a b n).2+1) from rfl]
 unfold ZQ at c;cases g:XK a b (TM a b n).1 (TM a b n).2 with
 | true=>rw [if_pos g] at c;rw [lx va vb d c g];simp
 | false=>rw [if_neg (by simp [g])] at c;rw [ly va vb d c g];simp
end
theorem Z0 {s:UI} (b:s.2.1.length<=32) (a:s.1=false->s.2.1=[]):VX s=some 0:=by
 unfold VX;rw [YW,SL,if_neg (by omega),Ss,if_pos rfl,To,Sx];cases h:s.1 with
 | true=>rfl
 | false=>rw [if_neg (by simp),To,Vp,if_pos (a h)]
def keep (s:UI) (x:S8):Bool := !(s.1&&decide (x.1=s.2.1)) && !(s.2.2&&x.2.2.1)
theorem ec {s:UI} {x:S8} (e:s.2.1.length<=32) (f:s.1=false->s.2.1=[]) (g:kE x=0) (a:s.1=true->Rz x.1 s.2.1=false):UU (s,x)=some (keep s x,((true,(x.1,s.2.2)),0)):=by
 unfold UU keep;rw [Z0 e f,SL,Ss,if_pos rfl,Wy,g,SL,Ss,if_pos rfl];obtain ⟨s1,s2,c⟩:=s;obtain ⟨h,i,d,j⟩:=x;simp only at a ⊢;cases s1 with
 | true =>
  have:=a rfl;simp only [R5,Rd,Wg,Vp,this,Bool.false_eq_true,if_false];by_cases b:h=s2
  ·simp [b]
  ·simp only [b,if_false,decide_false];cases c<;>cases d<;>rfl
 | false =>
  simp only [R5,Rd];cases c<;>cases d<;>rfl
def Vt:UI->List S8->List S8
 | _,[]=>[]
 | s,x::l=>(if keep s x=true then [x] else [])++Vt (true,(x.1,s.2.2)) l
theorem Xe : ∀ (s:UI) (l:List S8),(Vt s l).length<=l.length
 | _,[]=>Nat.le_refl _
 | s,x::l=>by
  have:=Xe (true,(x.1,s.2.2)) l;unfold Vt;by_cases h:keep s x=true
  ·rw [if_pos h];simp;omega
  ·rw [if_neg h];simp;omega
def ZB:UI->List S8->Prop
 | _,[]=>True
 | s,x::l=>kE x=0/\(s.1=true->Rz x.1 s.2.1=false)/\ZB (true,(x.1,s.2.2)) l
theorem Zj {x:S8} (h:kE x=0):x.1.length<=32:=by
 unfold kE at h;by_cases hh:x.1.length>32\/x.2.1.length>64
 ·rw [if_pos hh] at h;cases h
 ·omega
theorem Ub {α β σ S:Type} {l:List α} (mk:Nat->σ->S) (Inv:List α->Nat->σ->Prop) (F:List α->Nat->σ->β) {f:S->Option (LR S β)} {s:S} (a:σ) (p:s=mk 0 a) (z:l.length<=9223372036854775807) (hi:Inv l 0 a)
  (w : ∀ a,Inv [] l.length a->f (mk l.length a)=some (.dn (F [] l.length a)))
  (hc : ∀ k x m a,l.drop k=x::m->l[k]? = some x->k<l.length->Inv (x::m) k a -> ∃ b,f (mk k a)=some (.nx (mk (k+1) b))/\Inv m (k+1) b/\F (x::m) k a=F m (k+1) b):loop f s=some (F l 0 a):=by
 subst p
 have e : ∀ (m:List α) (k n:Nat) (a:σ),l.drop k=m->k<=l.length->m.length<n->Inv m k a->IJ n f (mk k a)=some (F m k a):=by
  intro m
  induction m with
  | nil =>
   intro k n a c u d hi;obtain ⟨n,rfl⟩ : ∃ j,n=j+1:=⟨n-1,by omega⟩
   have h:k=l.length:=by
    have:=congrArg List.length c;simp at this;omega
   subst h;exact Tq (w a hi)
  | cons x m y =>
   intro k n a c u d hi;obtain ⟨n,rfl⟩ : ∃ j,n=j+1:=⟨n-1,by omega⟩
   have o:l[k]? = some x:=by
    have:=congrArg List.head? c;rw [List.head?_drop] at this;simpa using this
   have g:k<l.length:=(List.getElem?_eq_some_iff.1 o).1
   have i:l.drop (k+1)=m:=by
    have:=congrArg List.tail c;rw [List.tail_drop] at this;simpa using this
   obtain ⟨b,q,r,t⟩:=hc k x m a c o g hi;rw [Th q,t];exact y (k+1) n b i (by omega) (by simp at d;omega) r
 exact e l 0 _ a (by simp) (by omega) (by omega) hi
def Ud:UI->List S8->UI
 | s,[]=>s
 | s,x::l=>Ud (true,(x.1,s.2.2)) l
theorem ae {β:Type} {out:List S8} {n:Nat} (h:out.length<=n) (a:n<=20000) (x:S8) (k:Unit->Option β):gd (CD (BD (AS out) (AS [x])) 1048576) k=k ():=Te (by simp only [BD,AS,List.length_cons,List.length_nil];omega) k
theorem dz {l:List S8} {b:Bool} (B:l.length<=20000) (A:ZB (false,([],b)) l):Vk (l,b)=some (Vt (false,([],b)) l,(0,0)):=by
 unfold Vk Un;simp only [TH,TF];rw [Sp,if_neg (by omega),SL]
 rw [Ub (l:=l) (σ:=UI×List S8) (s:=(0,(0,(0,((false,([],b)),[]))))) (λk a=>((0:Int),((k:Int),((0:Int),a))))
  (λm k a=>ZB a.1 m/\a.1.2.1.length<=32/\(a.1.1=false->a.1.2.1=[])/\a.2.length<=k/\k+m.length=l.length)
  (λm k a=>(1,((0,((l.length:Int),(0,(Ud a.1 m,a.2++Vt a.1 m)))),()))) ((false,([],b)),[]) rfl (by omega) ⟨A,by simp,λ_=>rfl,by simp,by simp⟩ ?_ ?_,SL]
 ·simp;rfl
 ·intro a _;simp only;rw [re,Rd];simp [Ud,Vt]
 ·rintro k x m ⟨s,out⟩ C r z ⟨⟨d,e,g⟩,i,j,n,o⟩;simp only at d e g i j n ⊢;refine ⟨((true,(x.1,s.2.2)),out++if keep s x=true then [x] else []),?_,⟨g,Zj d,(λh=>by cases h),?_,by simp at o;omega⟩,?_⟩
  ·rw [rl z,R5,S9,Sb r,Z0 i j,SL,Ss,if_pos rfl,Wy,d,SL,Ss,if_pos rfl];unfold keep Td;obtain ⟨s1,s2,t⟩:=s;obtain ⟨f,u,c,w⟩:=x;simp only [SL,TL r (show l.length<=9223372036854775807 by omega)] at e ⊢;have q : ∀ {β:Type} (k:Unit->Option β),gd (CD (BD out.length [(f,(u,(c,w)))].length) 1048576) k=k ():=λk=>ae n (by simp at o;omega) (f,(u,(c,w))) k;cases s1 with
   | true =>
    have y:=e rfl;simp only [R5,Rd,Vp,y,q];by_cases p:f=s2
    ·simp [p]
    ·simp only [p,if_false,decide_false];cases t<;>cases c<;>simp [R5,Rd,Ik]
   | false =>
    simp only [R5,Rd,q];cases t<;>cases c<;>simp [R5,Rd,Ik]
  ·split<;>simp<;>omega
  ·simp only [Ud,Vt,List.append_assoc]
end
section
open Go Go.Proofs.YtfilfloanndddaaGreat.Sv
theorem bF : ∀ (l:List S8) (s:UI) (x:S8),Vt s (l++[x])=Vt s l++(if keep (Ud s l) x=true then [x] else [])
 | [],s,x=>by
  show (if keep s x=true then [x] else [])++[]=[]++(if keep s x=true then [x] else [])
  rw [List.append_nil,List.nil_append]
 | y::l,s,x=>by
  show (if keep s y=true then [y] else [])++Vt _ (l++[x])=((if keep s y=true then [y] else [])++Vt _ l)++_
  rw [bF l,List.append_assoc];rfl
theorem YM : ∀ (l:List S8) (s:UI) (x:S8),Ud s (l++[x])=(true,(x.1,(Ud s l).2.2))
 | [],s,x=>rfl
 | y::l,s,x=>by simp only [List.cons_append,Ud,YM l]
theorem Ww : ∀ (l:List S8) (s:UI),(Ud s l).2.2=s.2.2
 | [],s=>rfl
 | y::l,s=>by rw [Ud,Ww l]
theorem bg : ∀ (l:List S8) (s:UI) (x:S8),ZB s l->kE x=0->((Ud s l).1=true->Rz x.1 (Ud s l).2.1=false)->ZB s (l++[x])
 | [],s,x,_,a,b=>⟨a,b,trivial⟩
 | y::l,s,x,⟨a,b,c⟩,d,h5=>⟨a,b,bg l _ x c d h5⟩
theorem aG : ∀ (l:List S8) (s:UI),ZB s l->s.2.1.length<=32->(s.1=false->s.2.1=[])->(Ud s l).2.1.length<=32/\((Ud s l).1=false->(Ud s l).2.1=[])
 | [],s,_,h1,h2=>⟨h1,h2⟩
 | y::l,s,⟨a,_,b⟩,_,_=>aG l _ b (Zj a) (λh=>by cases h)
abbrev s0 (a:Bool):UI:=(false,([],a))
def U9 (a b:List S8) (c:Bool) (n:Nat):XG:=(YZ a b n,(Ud (s0 c) (TU a b n),(Vt (s0 c) (TU a b n),(n:Int))))
def XM (a b:List S8):Nat->List Int
 | 0=>[]
 | n+1=>XM a b n++[(Zz a b n:Int)]
theorem ZG (a b:List S8) : ∀ n,(XM a b n).length=n
 | 0=>rfl
 | n+1=>by simp [XM,ZG a b n]
theorem Wd {S β:Type} {f:S->Option (LR S β)} {r:β} (mk:Nat->S) (a n:Nat) {s:S} (b:s=mk a) (d:a<=n) (e:n<18446744073709551616) (hs : ∀ k,a<=k->k<n->f (mk k)=some (.nx (mk (k+1)))) (c:f (mk n)=some (.dn r)):loop f s=some r:=by
 have h:=Zm (f:=f) (r:=r) (λk=>mk (a+k)) (n-a) (s:=s) b (by omega) (λk d=>hs (a+k) (by omega) (by omega)) (by show f (mk (a+(n-a)))=_;rw [show a+(n-a)=n by omega];exact c);exact h
theorem Zd (l:List S8) (h:l.length<=100000):VY (l,l)=some true:=by
 unfold VY;simp only [TH,TF]
 rw [Ss,if_pos rfl,Y6 (l:=l) (σ:=Unit) (s:=(false,0)) (λk _=>(false,(k:Int))) (λ_ _ _=>some (1,((false,(l.length:Int)),()))) () rfl (by omega) (λc=>by
  simp only;rw [re];rfl) (λk x m c _ a b => .inl ⟨(),by
   simp only;rw [rl b,R5,S9,Sb a,S9,Sb a,X3,X3,XU,show RR x.2.2.2 x.2.2.2=true by unfold RR;simp,show Hf (NX true (NX true (NX true (NX true true))))=false from rfl,Rd,TL a (by omega)],rfl⟩),SL]
 rfl
section
variable {a b:List S8} (va:VL a) (vb:VL b)
include va vb
theorem WY {n:Nat} {x:S8} (c:ZQ a b n=some x):TU a b (n+1)=TU a b n++[x]:=by
 show (match ZQ a b n with
  | some x=>TU a b n++[x]
  | none=>TU a b n)=_
 rw [c]
theorem W1 (d:Bool) : ∀ {n:Nat},n<=a.length+b.length->ZB (s0 d) (TU a b n)
 | 0,_=>trivial
 | n+1,h=>by
  obtain ⟨x,c,_⟩:=Va va vb (n:=n) (by omega);rw [WY va vb c];refine bg _ _ _ (W1 d (by omega)) (gI va vb c) λ_ => ?_;cases n with
  | zero=>rename_i f;cases f
  | succ m =>
   obtain ⟨y,e,_⟩:=Va va vb (n:=m) (by omega);rw [WY va vb e,YM];exact dm va vb (by omega) e c
theorem cN (c:Bool) {n:Nat} (h:n<=a.length+b.length):(Ud (s0 c) (TU a b n)).2.1.length<=32/\((Ud (s0 c) (TU a b n)).1=false->(Ud (s0 c) (TU a b n)).2.1=[]) :=
 aG _ _ (W1 va vb c h) (by simp) (λ_=>rfl)
theorem mN {n:Nat} (h:n=a.length+b.length):(wk (kx a (TM a b n).1) (kx b (TM a b n).2)).2=true:=by
 obtain ⟨c,hs⟩:=V4 va vb (n:=n) (by omega);have d:=c.ia;have e:=c.jb;rw [Yy (List.getElem?_eq_none (by omega)),Yy (List.getElem?_eq_none (by omega))];rfl
theorem mO {n:Nat} {x:S8} (c:ZQ a b n=some x):(wk (kx a (TM a b n).1) (kx b (TM a b n).2)).2=false/\wn (kx a (TM a b n).1) (kx b (TM a b n).2)=Zz a b n:=by
 unfold ZQ at c;unfold Zz;cases g:XK a b (TM a b n).1 (TM a b n).2 with
 | true=>rw [if_pos g] at c;rw [(fa g).1,(fa g).2,Wv c];exact ⟨rfl,rfl⟩
 | false=>rw [if_neg (by simp [g])] at c;rw [(fb g).1,(fb g).2,Wv c];exact ⟨rfl,rfl⟩
theorem lw:XD [a,b]=some (TU a b (a.length+b.length),(XM a b (a.length+b.length),0)):=by
 have u:=va.len;have w:=vb.len;unfold XD;rw [Yf va vb,SL,Ss,if_pos rfl];refine Eq.trans (b:=bd (loop _ (0,[([],false),([],false)])) _) rfl ?_;refine TZ (x:=(0,((2,[kx a 0,kx b 0]),()))) (Uo (s1:=(1,[kx a 0,([],false)])) (s2:=(2,[kx a 0,kx b 0])) ?_ ?_ rfl) ?_
 ·show bd (Tl (a,((0:Nat):Int))) _=_;rw [W6 (by omega)];rfl
 ·show bd (Tl (b,((0:Nat):Int))) _=_;rw [W6 (by omega)];rfl
 rw [show ((0:Nat),(((2:Int),[kx a 0,kx b 0]),())).2.1.2=[kx a 0,kx b 0] from rfl,ZC (UC _ _) (UC _ _),SL]
 refine TZ (x:=(0,((TU a b (a.length+b.length),(XM a b (a.length+b.length),((),([((TM a b (a.length+b.length)).1:Int),((TM a b (a.length+b.length)).2:Int)],Tt (kx a (TM a b (a.length+b.length)).1) (kx b (TM a b (a.length+b.length)).2))))),())))
  (Wd (λk=>(TU a b k,(XM a b k,((),([((TM a b k).1:Int),((TM a b k).2:Int)],Tt (kx a (TM a b k).1) (kx b (TM a b k).2)))))) 0 (a.length+b.length) rfl (by omega) (by omega) (λk _ r => ?_) ?_) rfl
 ·obtain ⟨x,c,_⟩:=Va va vb (n:=k) r;obtain ⟨j,s⟩:=mO va vb c;obtain ⟨t,hs⟩:=V4 va vb (n:=k) (by omega);have h:(TU a b k).length=k:=Us va vb (by omega);have i:=ZG a b k;simp only;rw [XT (UC _ _) (UC _ _),if_neg (by simp [j]),SL,Ss,if_pos rfl,s];rw [WY va vb c];unfold ZQ at c;rw [show XM a b (k+1)=XM a b k++[(Zz a b k:Int)] from rfl];unfold Zz;rw [show TM a b (k+1)=if XK a b (TM a b k).1 (TM a b k).2=true then ((TM a b k).1+1,(TM a b k).2) else ((TM a b k).1,(TM a b k).2+1) from rfl]
  have l : ∀ {β:Type} (y:S8) (q:Unit->Option β),gd (CD (BD (AS (TU a b k)) (AS [y])) 1048576) q=q ():=λy q=>Te (by simp only [BD,AS,h,List.length_cons,List.length_nil];omega) q;have o : ∀ {β:Type} (y:Int) (q:Unit->Option β),gd (CD (BD (AS (XM a b k)) (AS [y])) 1048576) q=q ():=λy q=>Te (by simp only [BD,AS,i,List.length_cons,List.length_nil];omega) q;cases g:XK a b (TM a b k).1 (TM a b k).2 with
  | true =>
   rw [if_pos g] at c;obtain ⟨d,_⟩:=fa g;obtain ⟨m,f⟩:=XX (p:=kx a (TM a b k).1) (q:=kx b (TM a b k).2) (k:=kx a ((TM a b k).1+1)) (UC _ _) (UC _ _) (UC _ _) j (by rw [d,Wv c];exact ZV va c)
   have e:rk (kx a (TM a b k).1) (kx b (TM a b k).2) (kx a ((TM a b k).1+1))=(kx a ((TM a b k).1+1),kx b (TM a b k).2):=by
    unfold rk;unfold XK at g;rw [if_pos g]
   rw [e] at f;have hi:=(List.getElem?_eq_some_iff.1 c).1;simp only [if_true];refine (YE 0 rfl (x:=a) rfl).trans ((YE 0 rfl (x:=((TM a b k).1:Int)) rfl).trans ((V3 _ rfl c).trans ?_));rw [l,o];refine (YE 0 rfl (x:=((TM a b k).1:Int)) rfl).trans ((YE 0 rfl (x:=((TM a b k).1:Int)) rfl).trans ((YE 0 rfl (x:=a) rfl).trans ((YE 0 rfl (x:=Rl .i64 ((TM a b k).1:Int) 1) rfl).trans ?_)));rw [TI (by omega),W6 (by omega),SL,f,SL];rfl
  | false =>
   rw [if_neg (by simp [g])] at c;obtain ⟨d,_⟩:=fb g;obtain ⟨m,f⟩:=XX (p:=kx a (TM a b k).1) (q:=kx b (TM a b k).2) (k:=kx b ((TM a b k).2+1)) (UC _ _) (UC _ _) (UC _ _) j (by rw [d,Wv c];exact ZV vb c)
   have e:rk (kx a (TM a b k).1) (kx b (TM a b k).2) (kx b ((TM a b k).2+1))=(kx a (TM a b k).1,kx b ((TM a b k).2+1)):=by
    unfold rk;unfold XK at g;rw [if_neg (by simp [g])]
   rw [e] at f;have hi:=(List.getElem?_eq_some_iff.1 c).1;simp only [Bool.false_eq_true,if_false];refine (YE 1 rfl (x:=b) rfl).trans ((YE 1 rfl (x:=((TM a b k).2:Int)) rfl).trans ((V3 _ rfl c).trans ?_));rw [l,o];refine (YE 1 rfl (x:=((TM a b k).2:Int)) rfl).trans ((YE 1 rfl (x:=((TM a b k).2:Int)) rfl).trans ((YE 1 rfl (x:=b) rfl).trans ((YE 1 rfl (x:=Rl .i64 ((TM a b k).2:Int) 1) rfl).trans ?_)));rw [TI (by omega),W6 (by omega),SL,f,SL];rfl
 ·simp only;rw [XT (UC _ _) (UC _ _),if_pos (mN va vb rfl),SL,Ss,if_neg (by decide),Ss,if_neg (by decide)]
end
end
section
open Go Go.Proofs.YtfilfloanndddaaGreat.Sv
theorem de {β:Type} {out:List S8} {n:Nat} (h:out.length<=n) (a:n<=20000) (x:S8) (k:Unit->Option β):gd (CD (BD out.length [x].length) 1048576) k=k ():=ae h a x k
section
variable {a b:List S8} (va:VL a) (vb:VL b)
include va vb
theorem XF {n:Nat} (h:n<=a.length+b.length):(TU a b (a.length+b.length)).take n=TU a b n:=cS va vb (Nat.le_refl _) h
theorem YD {n:Nat} {x:S8} (c:Bool) (d:ZQ a b n=some x):Ud (s0 c) (TU a b (n+1))=(true,(x.1,c)):=by
 rw [WY va vb d,YM,Ww]
theorem cc (c:Bool) {n:Nat} (h:n<=a.length+b.length):V2 (U9 a b c n)=some 0:=by
 obtain ⟨e,hs⟩:=V4 va vb (n:=n) h;have i:=va.len;have j:=vb.len;have f:=Xe (s0 c) (TU a b n);have g:(TU a b n).length=n:=Us va vb h;unfold V2;rw [show (U9 a b c n).1=Yn a b (TM a b n).1 (TM a b n).2 from rfl,YO va vb e,SL,Ss,if_pos rfl];refine TZ (x:=(0,((2,(n:Int)),()))) (Uo (s1:=(1,((TM a b n).1:Int))) (s2:=(2,(n:Int))) ?_ ?_ rfl) ?_
 ·refine (ZT 0 rfl rfl (x:=((TM a b n).1:Int)) rfl).trans ?_;show some (LR.nx ((1:Int),Rl .i64 0 ((TM a b n).1:Int)))=_;rw [R9 (by omega),Int.zero_add]
 ·refine (ZT 1 rfl rfl (x:=((TM a b n).2:Int)) rfl).trans ?_;show some (LR.nx ((2:Int),Rl .i64 ((TM a b n).1:Int) ((TM a b n).2:Int)))=_;rw [R9 (by omega),show ((TM a b n).1:Int)+((TM a b n).2:Int)=(n:Int) by omega]
 simp only [TH,TF];rw [show (U9 a b c n).2.2.1=Vt (s0 c) (TU a b n) from rfl,show (U9 a b c n).2.2.2=(n:Int) from rfl,show (U9 a b c n).2.1=Ud (s0 c) (TU a b n) from rfl,Sp,if_neg (by omega),Sp,if_neg (by omega),Ss,if_pos rfl];rw [show (Yn a b (TM a b n).1 (TM a b n).2).1=[a,b] from rfl,lw va vb,SL,Ss,if_pos rfl,S9];rw [Te (by rw [Us va vb (Nat.le_refl _)];exact h),Te (Nat.zero_le _)];rw [show Dy (TU a b (a.length+b.length)) 0 n=TU a b n from by unfold Dy;rw [List.drop_zero,Nat.sub_zero];exact XF va vb h,Ww];rw [show (s0 c).2.2=c from rfl,dz (by omega) (W1 va vb c h),SL,Ss,if_pos rfl];unfold Un;rw [SL,Sp];cases n with
 | zero =>
  rw [if_neg (by omega),Zd _ (by omega),SL,aX,Rd];show br (Hf (NX (Sv.beq false false) (NX (seq [] []) (NX (Sv.beq c c) true)))) _ _=_;rw [XU,XU,X3];rfl
 | succ m =>
  obtain ⟨x,d,_⟩:=Va va vb (n:=m) (by omega);rw [if_pos (by omega),show Rp .i64 ((m+1:Nat):Int) 1=(m:Int) by rw [SB (by omega)];omega,S9];rw [Sb (x:=x) (by rw [Xl va vb (Nat.le_refl _) (by omega)];exact d),Zd _ (by omega),SL,aX,Rd,YD va vb c d];rw [XU,XU,X3];rfl
theorem gF {n:Nat} (h:n<=a.length+b.length):Wj (YZ a b n)=some (((a.length+b.length-n:Nat):Int),0):=by
 obtain ⟨c,hs⟩:=V4 va vb (n:=n) h;have f:=va.len;have g:=vb.len;have d:=c.ia;have e:=c.jb;unfold Wj;rw [show YZ a b n=Yn a b (TM a b n).1 (TM a b n).2 from rfl,YO va vb c,SL,Ss,if_pos rfl];refine TZ (x:=(0,((2,((a.length+b.length-n:Nat):Int)),()))) (Uo (s1:=(1,(a.length:Int)-((TM a b n).1:Int))) (s2:=(2,((a.length+b.length-n:Nat):Int))) ?_ ?_ rfl) rfl
 ·refine (ZT 0 rfl rfl (x:=a) rfl).trans ((V3 0 rfl (x:=((TM a b n).1:Int)) rfl).trans ?_);simp only [TH,TF];rw [SB (by omega)];show some (LR.nx ((1:Int),Rl .i64 0 ((a.length:Int)-((TM a b n).1:Int))))=_;rw [R9 (by omega),Int.zero_add]
 ·refine (ZT 1 rfl rfl (x:=b) rfl).trans ((V3 1 rfl (x:=((TM a b n).2:Int)) rfl).trans ?_);simp only [TH,TF];rw [SB (by omega)];show some (LR.nx ((2:Int),Rl .i64 ((a.length:Int)-((TM a b n).1:Int)) ((b.length:Int)-((TM a b n).2:Int))))=_;rw [R9 (by omega),show (a.length:Int)-((TM a b n).1:Int)+((b.length:Int)-((TM a b n).2:Int))=((a.length+b.length-n:Nat):Int) by omega]
theorem ZO (c:Bool) {n:Nat} (h:n<=a.length+b.length):UD (U9 a b c n)=some (((a.length+b.length-n:Nat):Int),0):=by
 unfold UD;rw [cc va vb c h,SL,Ss,if_pos rfl,show (U9 a b c n).1=YZ a b n from rfl,gF va vb h];rfl
theorem Za (c:Bool) {n:Nat} {x:S8} (d:ZQ a b n=some x):U9 a b c (n+1)=(YZ a b (n+1),((true,(x.1,c)),(Vt (s0 c) (TU a b n)++(if keep (Ud (s0 c) (TU a b n)) x=true then [x] else []),((n+1:Nat):Int)))):=by
 unfold U9;rw [WY va vb d,YM,Ww,bF]
theorem X4 (c:Bool) {n:Nat} {x:S8} (h:n<a.length+b.length) (e:ZQ a b n=some x):UU (Ud (s0 c) (TU a b n),x)=some (keep (Ud (s0 c) (TU a b n)) x,((true,(x.1,c)),0)):=by
 have d:=cN va vb c (n:=n) (by omega);rw [ec d.1 d.2 (gI va vb e),Ww];intro g;cases n with
 | zero=>cases g
 | succ m =>
  obtain ⟨y,f,_⟩:=Va va vb (n:=m) (by omega);rw [YD va vb c f];exact dm va vb (by omega) f e
def mW (k:Int) (s:XG):Int×(Int×(List (List S8)×(List Int×(List TD×(List Int×(Int×(Bool×(W8×(Bool×(List S8×Int)))))))))) :=
 (k,(0,(s.1.1,(s.1.2.1,(s.1.2.2.1,(s.1.2.2.2.1,(s.1.2.2.2.2,(s.2.1.1,(s.2.1.2.1,(s.2.1.2.2,(s.2.2.1,s.2.2.2)))))))))))
theorem aT (c:Bool) {n:Nat} (h:n<=a.length+b.length) {k:Nat}:UO (U9 a b c n,(k:Int))=some (U9 a b c (n+min k (a.length+b.length-n)),(((min k (a.length+b.length-n):Nat):Int),0)):=by
 have w:=va.len;have z:=vb.len;have d : ∀ m,m<=a.length+b.length->(Vt (s0 c) (TU a b m)).length<=m:=λm s=>by have:=Xe (s0 c) (TU a b m);have:=Us va vb s;omega
 obtain ⟨u,t⟩ : ∃ u,u=min k (a.length+b.length-n):=⟨_,rfl⟩
 have i:Sz (k:Int) ((a.length+b.length-n:Nat):Int)=(u:Int):=by
  unfold Sz;split<;>omega
 rw [<- t];unfold UO;rw [ZO va vb c h,SL,Ss,if_pos rfl];simp only [i,TH,TF];rw [Sr,if_neg (by omega),show (U9 a b c n).2.2.2=(n:Int) from rfl,R9 (by omega),Sp,if_neg (by omega)];rw [show (U9 a b c n).2.2.1=Vt (s0 c) (TU a b n) from rfl,show (U9 a b c n).1=YZ a b n from rfl,Te (by have:=d n h;omega),Te (show (YZ a b n).2.1.length<=1048576 from (show 2<=1048576 by omega)),Sr];by_cases r:u=0
 ·rw [r,if_neg (by omega)];rfl
 rw [if_pos (by omega)];obtain ⟨x,o,_⟩:=Va va vb (n:=n) (by omega);rw [Zn va vb (by omega) o,SL,Ss,if_pos rfl,show (U9 a b c n).2.1=Ud (s0 c) (TU a b n) from rfl,X4 va vb c (by omega) o,SL,Ss,if_pos rfl]
 have q : ∀ j,1<=j->j<u -> ∃ y,ZQ a b (n+j)=some y:=λj f g=>by
  obtain ⟨y,e,_⟩:=Va va vb (n:=n+j) (by omega);exact ⟨y,e⟩
 rw [Sx];have hS:=Za va vb c o;cases p:keep (Ud (s0 c) (TU a b n)) x with
 | true =>
  rw [p] at hS;rw [if_pos rfl,de (d n h) (by omega)];refine TZ (x:=(1,(mW u (U9 a b c (n+u)),()))) (Wd (λj=>mW j (U9 a b c (n+j))) 1 u ?_ (by omega) (by omega) (λj f g => ?_) ?_) ?_
  ·rw [hS,show Rl .i64 (n:Int) 1=((n+1:Nat):Int) from TI (by omega)];rfl
  ·obtain ⟨y,e⟩:=q j f g;show br (SW (j:Int) (u:Int)) _ _=_;rw [Sr,if_pos (by omega)];show bd (UQ (YZ a b (n+j))) _=_;rw [Zn va vb (by omega) e,SL,Ss,if_pos rfl];show bd (UU (Ud (s0 c) (TU a b (n+j)),y)) _=_;rw [X4 va vb c (by omega) e,SL,Ss,if_pos rfl,Sx,show n+(j+1)=n+j+1 by omega,Za va vb c e];cases l:keep (Ud (s0 c) (TU a b (n+j))) y with
   | true =>
    rw [if_pos rfl,if_pos rfl];show gd (CD (BD (AS (Vt (s0 c) (TU a b (n+j)))) (AS [y])) 1048576) _=_;rw [ae (d _ (by omega)) (by omega)];show some (LR.nx (Rl .i64 (j:Int) 1,_))=_;unfold mW;simp only [TI (show j+1<=9223372036854775807 by omega),Ik];rw [show Rl .i64 (U9 a b c (n+j)).2.2.2 1=((n+j+1:Nat):Int) from TI (by omega)];rfl
   | false =>
    rw [if_neg (by simp),if_neg (by simp)];show some (LR.nx (Rl .i64 (j:Int) 1,_))=_;unfold mW;simp only [TI (show j+1<=9223372036854775807 by omega)];rw [show Rl .i64 (U9 a b c (n+j)).2.2.2 1=((n+j+1:Nat):Int) from TI (by omega),List.append_nil];rfl
  ·show br (SW (u:Int) (u:Int)) _ _=_;rw [Sr,if_neg (by omega)]
  ·rfl
 | false =>
  rw [p] at hS;rw [if_neg (by simp)];refine TZ (x:=(1,(mW u (U9 a b c (n+u)),()))) (Wd (λj=>mW j (U9 a b c (n+j))) 1 u ?_ (by omega) (by omega) (λj f g => ?_) ?_) ?_
  ·rw [hS,show Rl .i64 (n:Int) 1=((n+1:Nat):Int) from TI (by omega),if_neg (by simp),List.append_nil];rfl
  ·obtain ⟨y,e⟩:=q j f g;show br (SW (j:Int) (u:Int)) _ _=_;rw [Sr,if_pos (by omega)];show bd (UQ (YZ a b (n+j))) _=_;rw [Zn va vb (by omega) e,SL,Ss,if_pos rfl];show bd (UU (Ud (s0 c) (TU a b (n+j)),y)) _=_;rw [X4 va vb c (by omega) e,SL,Ss,if_pos rfl,Sx,show n+(j+1)=n+j+1 by omega,Za va vb c e];cases l:keep (Ud (s0 c) (TU a b (n+j))) y with
   | true =>
    rw [if_pos rfl,if_pos rfl];show gd (CD (BD (AS (Vt (s0 c) (TU a b (n+j)))) (AS [y])) 1048576) _=_;rw [ae (d _ (by omega)) (by omega)];show some (LR.nx (Rl .i64 (j:Int) 1,_))=_;unfold mW;simp only [TI (show j+1<=9223372036854775807 by omega),Ik];rw [show Rl .i64 (U9 a b c (n+j)).2.2.2 1=((n+j+1:Nat):Int) from TI (by omega)];rfl
   | false =>
    rw [if_neg (by simp),if_neg (by simp)];show some (LR.nx (Rl .i64 (j:Int) 1,_))=_;unfold mW;simp only [TI (show j+1<=9223372036854775807 by omega)];rw [show Rl .i64 (U9 a b c (n+j)).2.2.2 1=((n+j+1:Nat):Int) from TI (by omega),List.append_nil];rfl
  ·show br (SW (u:Int) (u:Int)) _ _=_;rw [Sr,if_neg (by omega)]
  ·rfl
end
end
section
open Go Go.Proofs.YtfilfloanndddaaGreat.Sv
theorem WK {α β σ S:Type} {l:List α} (mk:Nat->σ->S) (I:List α->Nat->σ->Prop) (Q:β->Prop) {f:S->Option (LR S β)} {s:S} (a:σ) (t:s=mk 0 a) (z:l.length<=9223372036854775807) (hi:I l 0 a)
  (w : ∀ a,I [] l.length a -> ∃ r,f (mk l.length a)=some (.dn r)/\Q r)
  (hc : ∀ k x m a,l.drop k=x::m->l[k]? = some x->k<l.length->I (x::m) k a->(∃ b,f (mk k a)=some (.nx (mk (k+1) b))/\I m (k+1) b) \/ ∃ r,f (mk k a)=some (.dn r)/\Q r) : ∃ r,loop f s=some r/\Q r:=by
 subst t
 have h : ∀ (m:List α) (k n:Nat) (a:σ),l.drop k=m->k<=l.length->m.length<n->I m k a -> ∃ r,IJ n f (mk k a)=some r/\Q r:=by
  intro m
  induction m with
  | nil =>
   intro k n a e u g hi;obtain ⟨n,rfl⟩ : ∃ j,n=j+1:=⟨n-1,by omega⟩
   have o:k=l.length:=by
    have:=congrArg List.length e;simp at this;omega
   subst o;obtain ⟨r,c,d⟩:=w a hi;exact ⟨r,Tq c,d⟩
  | cons x m y =>
   intro k n a e u g hi;obtain ⟨n,rfl⟩ : ∃ j,n=j+1:=⟨n-1,by omega⟩
   have q:l[k]? = some x:=by
    have:=congrArg List.head? e;rw [List.head?_drop] at this;simpa using this
   have i:k<l.length:=(List.getElem?_eq_some_iff.1 q).1
   have p:l.drop (k+1)=m:=by
    have:=congrArg List.tail e;rw [List.tail_drop] at this;simpa using this
   rcases hc k x m a e q i hi with ⟨b,c,d⟩ | ⟨r,c,d⟩
   ·rw [Th c];exact y (k+1) n b p (by omega) (by simp at g;omega) d
   ·exact ⟨r,Tq c,d⟩
 exact h l 0 _ a (by simp) (by omega) (by omega) hi
theorem Xk {α:Type} (l m:List α) (i:l.length=m.length) (n:l.length<=9223372036854775806) {f:(Int×Bool)->Option (LR (Int×Bool) (Nat×((Int×Bool)×Unit)))}
  (hs : ∀ (k:Nat) x y,l[k]? = some x->m[k]? = some y->(x=y->f ((k:Int),false)=some (.nx (((k+1:Nat):Int),false)))/\(x≠y->f ((k:Int),false)=some (.dn (0,(((k:Int),false),())))))
  (g:f ((l.length:Int),false)=some (.dn (1,(((l.length:Int),false),())))) :
  ∃ r,loop f (0,false)=some r/\((l=m/\r.1=1)\/(l≠m/\r.1=0/\r.2.1.2=false)):=by
 refine WK (l:=l) (σ:=Unit) (λk _=>((k:Int),false)) (λt k _=>t=l.drop k/\l.take k=m.take k) _ () rfl (by omega) ⟨by simp,by simp⟩ (λj h => ?_) (λk x t j d b o h => ?_)
 ·refine ⟨_,g,.inl ⟨?_,rfl⟩⟩;have:=h.2;rw [List.take_length,i,List.take_length] at this;exact this
 ·have c:k<m.length:=by omega
  have a:m[k]? = some m[k]:=by simp [c]
  by_cases e:x=m[k]
  ·refine .inl ⟨(),(hs k x m[k] b a).1 e,?_,?_⟩
   ·have:=congrArg List.tail d;rw [List.tail_drop] at this;simp at this;exact this.symm
   ·rw [List.take_add_one,List.take_add_one,h.2,b,a,e]
  ·refine .inr ⟨_,(hs k x m[k] b a).2 e,.inr ⟨?_,rfl,rfl⟩⟩;intro e2;subst e2;rw [b] at a;exact e (Option.some.inj a)
theorem beq_eq (a b:Bool):Sv.beq a b=decide (a=b):=by cases a<;>cases b<;>rfl
theorem VZ (a b:Int):RR a b=decide (a=b):=by
 unfold RR;by_cases h:a=b<;>simp [h]
theorem Xr (p q:Prop) [Decidable p] [Decidable q]:NX (decide p) (decide q)=decide (p/\q):=by unfold NX;simp
theorem Uq (p:Prop) [Decidable p]:Hf (decide p)=decide (¬ p):=by unfold Hf;simp
theorem Yp (a:Bool):NX a true=a:=by cases a<;>rfl
theorem eC (l m:List TD) (s:l.length<=9223372036854775806):TQ (l,m)=some (decide (l=m)):=by
 unfold TQ;simp only [TH,TF];rw [Ss];by_cases b:(l.length:Int)=(m.length:Int)
 ·rw [if_pos b];have c:l.length=m.length:=by omega
  obtain ⟨r,p,a⟩:=Xk l m c s (f:=λs0=>br (SW s0.1 (l.length:Int)) (λ_=>RX s0.1 λt=>ix l t λn=>RX s0.1 λw=>ix m w λo=>br (Hf (NX (seq n.1 o.1) (NX (Sv.beq n.2 o.2) true))) (λ_=>some (.dn ((0,((s0.1,false),()))))) λ_=>some (.nx (Rl .i64 s0.1 1,s0.2))) λ_=>some (.dn ((1,(s0,()))))) (λk x y d j=>by
    have i:=(List.getElem?_eq_some_iff.1 d).1
    have g : ∀ {β:Type} (u v:Unit->Option β),br (Hf (NX (seq x.1 y.1) (NX (Sv.beq x.2 y.2) true))) u v=if x=y then v () else u ():=by
     intro β u v;rw [Yp,Yk,beq_eq,Xr,Uq,Uv];by_cases e:x=y
     ·subst e;simp
     ·rw [if_pos (λh=>e (Prod.ext h.1 h.2)),if_neg e]
    constructor
    ·intro e;simp only;rw [rl i,R5,S9,Sb d,S9,Sb j,g,if_pos e,TI (by omega)]
    ·intro e;simp only
     rw [rl i,R5,S9,Sb d,S9,Sb j,g,if_neg e]) (by simp only;rw [re];rfl)
  refine TZ p ?_;rcases a with ⟨e,a⟩ | ⟨e,a,q⟩
  ·rw [SM,a];simp [e]
  ·rw [SM,a];simp [e,q]
 ·rw [if_neg b];have : ¬ l=m:=λe=>b (by rw [e]);simp [this]
theorem YK (l m:List Int) (n:l.length<=9223372036854775806):TK (l,m)=some (decide (l=m)):=by
 unfold TK;simp only [TH,TF];rw [Ss];by_cases b:(l.length:Int)=(m.length:Int)
 ·rw [if_pos b];have c:l.length=m.length:=by omega
  obtain ⟨r,i,a⟩:=Xk l m c n (f:=λs0=>br (SW s0.1 (l.length:Int)) (λ_=>RX s0.1 λo=>ix l o λq=>RX s0.1 λp=>ix m p λs=>br (RT q s) (λ_=>some (.dn ((0,((s0.1,false),()))))) λ_=>some (.nx (Rl .i64 s0.1 1,s0.2))) λ_=>some (.dn ((1,(s0,()))))) (λk x y d h=>by
    have g:=(List.getElem?_eq_some_iff.1 d).1;constructor
    ·intro e;simp only;rw [rl g,R5,S9,Sb d,S9,Sb h,Ss,if_pos e,TI (by omega)]
    ·intro e;simp only
     rw [rl g,R5,S9,Sb d,S9,Sb h,Ss,if_neg e]) (by simp only;rw [re];rfl)
  refine TZ i ?_;rcases a with ⟨e,a⟩ | ⟨e,a,j⟩
  ·rw [SM,a];simp [e]
  ·rw [SM,a];simp [e,j]
 ·rw [if_neg b];have : ¬ l=m:=λe=>b (by rw [e]);simp [this]
theorem bB {β:Type} (x y:S8) (u v:Unit->Option β):br (Hf (NX (seq x.1 y.1) (NX (seq x.2.1 y.2.1) (NX (Sv.beq x.2.2.1 y.2.2.1) (NX (RR x.2.2.2 y.2.2.2) true))))) u v=if x=y then v () else u ():=by
 rw [Yp,Yk,Yk,beq_eq,VZ,Xr,Xr,Xr,Uq,Uv];by_cases e:x=y
 ·subst e;simp
 ·rw [if_pos (λh=>e (Prod.ext h.1 (Prod.ext h.2.1 (Prod.ext h.2.2.1 h.2.2.2)))),if_neg e]
theorem V6 (l m:List S8) (p:l.length<=9223372036854775806):Tf (l,m)=some (decide (l=m)):=by
 unfold Tf;simp only [TH,TF];rw [Ss];by_cases d:(l.length:Int)=(m.length:Int)
 ·rw [if_pos d];have g:l.length=m.length:=by omega
  obtain ⟨r,n,a⟩:=Xk l m g p (f:=λs0=>br (SW s0.1 (l.length:Int)) (λ_=>RX s0.1 λq=>ix l q λb=>RX s0.1 λs=>ix m s λc=>br (Hf (NX (seq b.1 c.1) (NX (seq b.2.1 c.2.1) (NX (Sv.beq b.2.2.1 c.2.2.1) (NX (RR b.2.2.2 c.2.2.2) true))))) (λ_=>some (.dn ((0,((s0.1,false),()))))) λ_=>some (.nx (Rl .i64 s0.1 1,s0.2))) λ_=>some (.dn ((1,(s0,()))))) (λk x y h j=>by
    have i:=(List.getElem?_eq_some_iff.1 h).1;constructor
    ·intro e;simp only;rw [rl i,R5,S9,Sb h,S9,Sb j,bB,if_pos e,TI (by omega)]
    ·intro e;simp only
     rw [rl i,R5,S9,Sb h,S9,Sb j,bB,if_neg e]) (by simp only;rw [re];rfl)
  refine TZ n ?_;rcases a with ⟨e,a⟩ | ⟨e,a,o⟩
  ·rw [SM,a];simp [e]
  ·rw [SM,a];simp [e,o]
 ·rw [if_neg d];have : ¬ l=m:=λe=>d (by rw [e]);simp [this]
theorem XR (l m:List S8) (a:l.length<=9223372036854775806):UH (l,m)=some (decide (l=m)):=by
 unfold UH;rw [V6 l m a];rfl
instance:DecidableEq S8:=inferInstance
instance:DecidableEq (List S8):=inferInstance
instance:DecidableEq (List (List S8)):=inferInstance
instance:DecidableEq TD:=inferInstance
instance:DecidableEq Vc:=inferInstance
instance:DecidableEq TC:=inferInstance
instance:DecidableEq UI:=inferInstance
instance:DecidableEq XG:=inferInstance
theorem bO (x y:XG) (n:x.1.1.length<=1000) (i : ∀ l∈x.1.1,l.length<=1000000) (o:x.1.2.1.length<=1000) (p:x.1.2.2.1.length<=1000) (q:x.1.2.2.2.1.length<=1000) (s:x.2.2.1.length<=1000000):VD (x,y)=some (decide (x=y)):=by
 obtain ⟨⟨a,E,F,G,M⟩,⟨xs,L,J⟩,I,K⟩:=x;obtain ⟨⟨b,N,P,S,Z⟩,⟨X,Y,O⟩,W,U⟩:=y;simp only at n i o p q s;unfold VD;simp only [TH,TF];rw [Ss];by_cases g:(a.length:Int)=(b.length:Int)
 ·rw [if_pos g];have h:a.length=b.length:=by omega
  obtain ⟨r,z,d⟩:=Xk a b h (by omega) (f:=λs0=>br (SW s0.1 (a.length:Int)) (λ_=>RX s0.1 λu=>ix a u λC=>RX s0.1 λw=>ix b w λD=>bd (UH (C,D)) λB=>br (Hf B) (λ_=>some (.dn ((0,((s0.1,false),()))))) λ_=>some (.nx (Rl .i64 s0.1 1,s0.2))) λ_=>some (.dn ((1,(s0,()))))) (λk x y c m=>by
    have j:=(List.getElem?_eq_some_iff.1 c).1;have t:=i x (List.mem_of_getElem? c);constructor
    ·intro e;simp only;rw [rl j,R5,S9,Sb c,S9,Sb m,XR _ _ (by omega),SL,Uq,Uv,if_neg (by simp [e]),TI (by omega)]
    ·intro e;simp only
     rw [rl j,R5,S9,Sb c,S9,Sb m,XR _ _ (by omega),SL,Uq,Uv,if_pos e]) (by simp only;rw [re];rfl)
  refine TZ z ?_;simp only [YK _ _ (show E.length<=9223372036854775806 by omega),YK _ _ (show G.length<=9223372036854775806 by omega),eC _ _ (show F.length<=9223372036854775806 by omega),XR _ _ (show I.length<=9223372036854775806 by omega),SL,Uv,VZ,Yk,beq_eq,Yp,Xr,SM];rw [Sx];rcases d with ⟨e,d⟩ | ⟨e,d,A⟩
  ·rw [if_neg (show ¬ r.1=0 by omega)]
   repeat' split
   all_goals simp_all
  ·rw [if_pos d,if_neg (show ¬ r.2.1.2=true by simp [A])];simp [e]
 ·rw [if_neg g];have : ¬ a=b:=λe=>g (by rw [e]);simp [this]
end
section
open Go Go.Proofs.YtfilfloanndddaaGreat.Sv
def kR (a:List Int) (most:Int) (r:TY):Int :=
 if r.1<1\/r.1>1000000 then 7 else if (WI r.2).2≠0 then (WI r.2).2 else if r.2.length=0 then 4 else if (r.2.length:Int)>most then 3 else if r.1∈a then 8 else 0
def YU (most:Int):Nat->List Int->List TY->Option (Nat×Int)
 | _,_,[]=>none
 | k,ids,r::rs=>if kR ids most r≠0 then some (k,kR ids most r) else YU most (k+1) (ids++[r.1]) rs
def UY (B:Int) (i:Nat):Int:=B*2 ^ i
def YS (B:Int):Nat->List Int->List (List TY)->Option (Nat×(Nat×Int))
 | _,_,[]=>none
 | i,ids,rs::ls=>if rs.length>2 then some (i,(0,3)) else match YU (UY B i) 0 ids rs with
  | some (k,e)=>some (i,(k,e))
  | none=>YS B (i+1) (ids++rs.map (·.1)) ls
def Vs (L:TB):Int×(Int×Int) :=
 if L.1<1\/L.1>16 then (0,(0,7)) else if L.2.length>12 then (0,(0,3)) else match YS L.1 0 [] L.2 with
  | some (i,(k,e))=>((i:Int),((k:Int),e))
  | none=>if L.2.getLast? = some [] then (((L.2.length-1:Nat):Int),(0,6)) else (0,(0,0))
theorem dy {most:Int} : ∀ {rs:List TY} {k:Nat} {a:List Int} {c:Nat} {e:Int},YU most k a rs=some (c,e)->e≠0
 | [],_,_,_,_,h=>by cases h
 | r::rs,k,a,c,e,h=>by
  unfold YU at h;by_cases b:kR a most r≠0
  ·rw [if_pos b] at h;cases h;exact b
  ·rw [if_neg b] at h;exact dy h
theorem ak {B:Int} : ∀ {ls:List (List TY)} {i:Nat} {a:List Int} {d f:Nat} {e:Int},YS B i a ls=some (d,(f,e))->e≠0
 | [],_,_,_,_,_,h=>by cases h
 | rs::ls,i,a,d,f,e,h=>by
  unfold YS at h;by_cases c:rs.length>2
  ·rw [if_pos c] at h;cases h;decide
  ·rw [if_neg c] at h;cases b:YU (UY B i) 0 a rs with
   | none=>rw [b] at h;exact ak h
   | some x=>rw [b] at h;cases h;exact dy b
def Z8 (a:List Int):List (Int×Bool):=a.map λi=>(i,true)
theorem gG (c:List Int) (i:Int):Rt (MI (λa b=>RR a b) (Z8 c) i) false=decide (i∈c):=by
 induction c with
 | nil=>rfl
 | cons j c d =>
  show Rt (bif RR i j then some true else MI (λa b=>RR a b) (Z8 c) i) false=_
  rw [VZ];by_cases h:i=j
  ·simp [h,Rt]
  ·simp only [h,decide_false,cond_false,List.mem_cons,false_or];exact d
theorem gH {c:List Int} {i:Int} (h:i ∉ c):IR (λa b=>RR a b) (Z8 c) i true=Z8 (c++[i]):=by
 induction c with
 | nil=>rfl
 | cons j c f =>
  show (bif RR i j then (i,true)::Z8 c else (j,true)::IR (λa b=>RR a b) (Z8 c) i true)=_
  rw [VZ];have d : ¬ i=j:=λe=>h (by simp [e]);rw [f (λe=>h (by simp [e]))];simp only [d,decide_false,cond_false];rfl
theorem aq (r:TY) (b:r.2.length<=9223372036854775807):Wt r=some (if r.1<1\/r.1>1000000 then (-1,7) else WI r.2):=by
 unfold Wt;rw [Sr,Sp,XB _ b,SL];by_cases h:r.1<1
 ·rw [if_pos h,if_pos (.inl h)]
 ·rw [if_neg h];by_cases a:r.1>1000000
  ·rw [if_pos a,if_pos (.inr a)]
  ·rw [if_neg a,if_neg (by omega)]
theorem aJ (r:TY) (most:Int) (b:r.2.length<=9223372036854775807):Uy (r,most)=some (kR [] most r):=by
 unfold Uy kR;rw [aq r b,SL];simp only [TH,TF];by_cases h:r.1<1\/r.1>1000000
 ·rw [if_pos h,if_pos h];rfl
 ·rw [if_neg h,if_neg h,Ss];by_cases a:(WI r.2).2=0
  ·rw [if_pos a,if_neg (by simp [a]),Sn,Sp]
   repeat' split
   all_goals first | rfl | (exfalso;omega) | simp_all
  ·rw [if_neg a,if_pos a]
theorem mf (a:List Int) (most:Int) (r:TY):kR a most r=if kR [] most r=0 then (if r.1∈a then 8 else 0) else kR [] most r:=by
 unfold kR
 repeat' split
 all_goals simp_all
theorem mj (i:Nat) (h:i<=12):(2:Int) ^ i<=4096/\1<=(2:Int) ^ i:=by
 have a:(2:Nat) ^ i<=2 ^ 12:=Nat.pow_le_pow_right (by omega) h;have b:1<=(2:Nat) ^ i:=Nat.one_le_two_pow;have c:((2 ^ i:Nat):Int)=(2:Int) ^ i:=by simp
 omega
theorem bu {B:Int} {i:Nat} (a:1<=B) (b:B<=16) (hi:i<=12):1<=UY B i/\UY B i<=65536:=by
 obtain ⟨c,d⟩:=mj i hi;unfold UY;constructor
 ·have:=Int.mul_le_mul a d (by omega) (by omega);omega
 ·have:=Int.mul_le_mul b c (by omega) (by omega);omega
theorem ZH {B:Int} {i:Nat} (a:1<=B) (b:B<=16) (hi:i<=12):SZ .i64 B (i:Int)=UY B i:=by
 have c:=bu a b hi;unfold SZ;rw [show min ((i:Int).toNat) IntKind.i64.bits=i by rw [Int.toNat_natCast];exact Nat.min_eq_left (Nat.le_trans hi (by decide))];unfold UY at c ⊢;exact IntWalk.i64_in _ (by omega)
def Q1:Option (Nat×(Nat×Int))->Int->Int->Int->Prop
 | some (i,(k,e)),a,b,c=>a=(k:Int)/\b=(i:Int)/\c=e
 | none,_,_,c=>c=0
def Q2 (m:List (Int×Bool)):Option (Nat×Int)->Nat->Int->Int->List (Int×Bool)->Prop
 | some (k,e),r,a,c,_=>r=0/\a=(k:Int)/\c=e
 | none,r,_,c,m'=>r=1/\c=0/\m'=m
theorem Ye (L:TB) (hb:L.2.length<=1048576) (hr : ∀ rs∈L.2,rs.length<=1048576 /\ ∀ r∈rs,r.2.length<=9223372036854775807):U5 L=some (Vs L):=by
 unfold U5 Vs;simp only [TH,TF];rw [Sr,Sp,Sp];by_cases z:L.1<1
 ·rw [if_pos z,if_pos (.inl z)]
 rw [if_neg z];by_cases A:L.1>16
 ·rw [if_pos A,if_pos (.inr A)]
 rw [if_neg A,if_neg (show ¬ (L.1<1\/L.1>16) by omega)];by_cases hl:(L.2.length:Int)>12
 ·rw [if_pos hl,if_pos (by omega)]
 rw [if_neg hl,if_neg (by omega)];have hl2:L.2.length<=12:=by omega
 obtain ⟨T,I⟩ : ∃ T,T=YS L.1 0 [] L.2:=⟨_,rfl⟩;rw [<- I]
 have C : ∀ W:Int,W=0->T=none->(br (RT W 0) (λ_=>(none:Option (Int×(Int×Int)))) λ_=>br (SU (L.2.length:Int) 0) (λ_=>RX (Rp .i64 (L.2.length:Int) 1) λO=>ix L.2 O λX=>br (RR (X.length:Int) 0) (λ_=>some ((Rp .i64 (L.2.length:Int) 1,(0,6)))) λ_=>some ((0,(0,0)))) λ_=>some ((0,(0,0))))=some (if L.2.getLast? = some [] then (((L.2.length-1:Nat):Int),(0,6)) else (0,(0,0))):=by
  intro W o _;rw [Ss,if_pos o,Sp];by_cases hn:L.2=[]
  ·rw [hn];rfl
  ·have hp:=List.length_pos_iff.2 hn;rw [if_pos (by omega),show Rp .i64 (L.2.length:Int) 1=((L.2.length-1:Nat):Int) by rw [SB (by omega)];omega,S9,List.getLast?_eq_getElem?];have n:L.2[L.2.length-1]? = some (L.2[L.2.length-1]'(by omega)):=by simp
   rw [Sb n,n,Sn];by_cases N:L.2[L.2.length-1]'(by omega)=[]
   ·rw [N];simp
   ·rw [if_neg (by have:=List.length_pos_iff.2 N;omega),if_neg (by simp [N])]
 obtain ⟨r,S,b⟩:=WK (l:=L.2) (σ:=Int×(Int×List Int)) (λi j=>(j.1,(j.2.1,((0:Int),((i:Int),Z8 j.2.2)))))
  (λm i j=>YS L.1 i j.2.2 m=T) (λ(r:Nat×((Int×(Int×(Int×(Int×List (Int×Bool)))))×Unit))=>Q1 T r.2.1.1 r.2.1.2.1 r.2.1.2.2.1)
  (f:=λs0=>br (SW s0.2.2.2.1 (L.2.length:Int)) (λ_=>RX s0.2.2.2.1 λk1=>ix L.2 k1 λY=>br (SU (Y.length:Int) 2) (λ_=>some (.dn ((0,((0,(s0.2.2.2.1,(3,s0.2.2.2))),()))))) λ_=>bd (loop (λa=>br (SW a.2.1 (Y.length:Int)) (λ_=>RX a.2.1 λP=>ix Y P λp=>gd (RS s0.2.2.2.1 0) λ_=>bd (Uy (p,SZ .i64 L.1 s0.2.2.2.1)) λg=>br (RR g 0) (λ_=>br (Rt (MI ((λJ=>(λK=>RR J K))) a.2.2.2 p.1) false) (λ_=>some (.dn ((0,((a.2.1,(a.2.1,(8,a.2.2.2))),()))))) λ_=>br (RT g 0) (λ_=>some (.dn ((0,((a.2.1,(a.2.1,(g,a.2.2.2))),()))))) λ_=>some (.nx ((a.2.1,(Rl .i64 a.2.1 1,(g,IR ((λM=>(λw=>RR M w))) a.2.2.2 p.1 true)))))) λ_=>br (RT g 0) (λ_=>some (.dn ((0,((a.2.1,(a.2.1,(g,a.2.2.2))),()))))) λ_=>some (.nx ((a.2.1,(Rl .i64 a.2.1 1,(g,IR ((λx=>(λy=>RR x y))) a.2.2.2 p.1 true)))))) λ_=>some (.dn ((1,(a,()))))) ((0,(0,(s0.2.2.1,s0.2.2.2.2))))) λd=>br (neq d.1 0) (λ_=>some (.dn ((0,((d.2.1.1,(s0.2.2.2.1,(d.2.1.2.2.1,(s0.2.2.2.1,d.2.1.2.2.2)))),()))))) λ_=>some (.nx ((d.2.1.1,(s0.2.2.2.1,(d.2.1.2.2.1,(Rl .i64 s0.2.2.2.1 1,d.2.1.2.2.2))))))) λ_=>some (.dn ((0,(s0,())))))
  (s:=(0,(0,(0,(0,[]))))) (0,(0,[])) rfl (by omega) I.symm (λj h=>by
   refine ⟨_,by simp only;rw [re];rfl,?_⟩;simp only at h ⊢;rw [<- h];exact rfl) (λi rs m j hd n hi h=>by
   obtain ⟨s1,s2,c⟩:=j;simp only at h ⊢;obtain ⟨hrs1,F⟩:=hr rs (List.mem_of_getElem? n);rw [rl hi,R5,S9,Sb n,Sp];unfold YS at h;by_cases Z:rs.length>2
   ·rw [if_pos (by omega)];rw [if_pos Z] at h;refine .inr ⟨_,rfl,?_⟩;rw [<- h];exact ⟨rfl,rfl,rfl⟩
   rw [if_neg (by omega)];rw [if_neg Z] at h;obtain ⟨U,hU⟩ : ∃ U,U=YU (UY L.1 i) 0 c rs:=⟨_,rfl⟩;rw [<- hU] at h
   obtain ⟨r,S,b⟩:=WK (l:=rs) (σ:=Int) (λk j=>(j,((k:Int),((0:Int),Z8 (c++(rs.take k).map (·.1))))))
    (λm k _=>YU (UY L.1 i) k (c++(rs.take k).map (·.1)) m=U) (λ(r:Nat×((Int×(Int×(Int×List (Int×Bool))))×Unit))=>Q2 (Z8 (c++rs.map (·.1))) U r.1 r.2.1.1 r.2.1.2.2.1 r.2.1.2.2.2)
    (f:=λa=>br (SW a.2.1 (rs.length:Int)) (λ_=>RX a.2.1 λP=>ix rs P λp=>gd (RS (i:Int) 0) λ_=>bd (Uy (p,SZ .i64 L.1 (i:Int))) λg=>br (RR g 0) (λ_=>br (Rt (MI ((λJ=>(λK=>RR J K))) a.2.2.2 p.1) false) (λ_=>some (.dn ((0,((a.2.1,(a.2.1,(8,a.2.2.2))),()))))) λ_=>br (RT g 0) (λ_=>some (.dn ((0,((a.2.1,(a.2.1,(g,a.2.2.2))),()))))) λ_=>some (.nx ((a.2.1,(Rl .i64 a.2.1 1,(g,IR ((λM=>(λw=>RR M w))) a.2.2.2 p.1 true)))))) λ_=>br (RT g 0) (λ_=>some (.dn ((0,((a.2.1,(a.2.1,(g,a.2.2.2))),()))))) λ_=>some (.nx ((a.2.1,(Rl .i64 a.2.1 1,(g,IR ((λx=>(λy=>RR x y))) a.2.2.2 p.1 true)))))) λ_=>some (.dn ((1,(a,())))))
    (s:=(0,(0,(0,Z8 c)))) 0 (by simp) (by omega) (by simp [hU]) (λj h=>by
     refine ⟨_,by simp only;rw [re];rfl,?_⟩;rw [<- h];exact ⟨rfl,rfl,by simp⟩) (λk r m j hd n hk h=>by
     simp only at h ⊢;have hr2:=F r (List.mem_of_getElem? n);have G:(rs.take (k+1)).map (·.1)=(rs.take k).map (·.1)++[r.1]:=by rw [List.take_add_one,n];simp
     rw [rl hk,R5,S9,Sb n,show gd (RS (i:Int) 0)=λ(q:Unit->Option (LR (Int×(Int×(Int×List (Int×Bool)))) (Nat×((Int×(Int×(Int×List (Int×Bool))))×Unit))))=>q () from by unfold RS;simp [gd];rfl,ZH (by omega) (by omega) (by omega)];simp only;rw [aJ _ _ (by omega),SL,Sn,gG,Ss];unfold YU at h;rw [mf] at h;by_cases o:kR [] (UY L.1 i) r=0
     ·rw [if_pos o] at h;rw [if_pos o,if_pos o,Uv];by_cases E:r.1∈c++(rs.take k).map (·.1)
      ·rw [if_pos E];rw [if_pos E,if_pos (by decide)] at h;refine .inr ⟨_,rfl,?_⟩;rw [<- h];exact ⟨rfl,rfl,rfl⟩
      ·rw [if_neg E];rw [if_neg E,if_neg (by decide)] at h;refine .inl ⟨(k:Int),?_,?_⟩
       ·rw [gH E,o,TL n (by omega),G,List.append_assoc]
       ·rw [G,<- List.append_assoc];exact h
     ·rw [if_neg o,if_pos o] at h;rw [if_neg o,if_neg o];refine .inr ⟨_,rfl,?_⟩;rw [<- h]
      exact ⟨rfl,rfl,rfl⟩)
   rw [S,SL,SM];cases D:U with
   | some u =>
    obtain ⟨k,e⟩:=u;rw [D] at b h;rw [if_pos b.1];refine .inr ⟨_,rfl,?_⟩;rw [<- h];exact ⟨b.2.1,rfl,b.2.2⟩
   | none =>
    rw [D] at b h;rw [if_neg (show ¬ r.1=0 by have:=b.1;omega)];refine .inl ⟨(r.2.1.1,((i:Int),c++rs.map (·.1))),?_,h⟩
    rw [b.2.1,b.2.2,TL n (by omega)])
 refine TZ S ?_;cases B:T with
 | some t =>
  obtain ⟨i,k,e⟩:=t;rw [B] at b I;rw [Ss,if_neg (by rw [b.2.2];exact ak I.symm),b.1,b.2.1,b.2.2]
 | none =>
  rw [B] at b;have h:=C _ b B;have q3:r.2.1.2.2.1=0:=b;rw [Ss,if_pos q3] at h ⊢;exact h
end
section
open Go Go.Proofs.YtfilfloanndddaaGreat.Sv
structure VR (most:Int) (r:TY):Prop where
 id1:1<=r.1
 id2:r.1<=1000000
 vl:VL r.2
 ne:r.2≠[]
 le:(r.2.length:Int)<=most
theorem f9 {a:List Int} {most:Int} {r:TY}:kR a most r=0<->VR most r/\r.1 ∉ a:=by
 unfold kR;constructor
 ·intro h;by_cases f:r.1<1\/r.1>1000000
  ·rw [if_pos f] at h;cases h
  rw [if_neg f] at h;by_cases b:(WI r.2).2≠0
  ·rw [if_pos b] at h;exact absurd h b
  rw [if_neg b] at h;by_cases c:r.2.length=0
  ·rw [if_pos c] at h;cases h
  rw [if_neg c] at h;by_cases g:(r.2.length:Int)>most
  ·rw [if_pos g] at h;cases h
  rw [if_neg g] at h;by_cases d:r.1∈a
  ·rw [if_pos d] at h;cases h
  exact ⟨⟨by omega,by omega,ZE.1 (by simpa using b),by intro e;rw [e] at c;exact c rfl,by omega⟩,d⟩
 ·rintro ⟨h,d⟩;rw [if_neg (by have:=h.id1;have:=h.id2;omega),if_neg (by simp [ZE.2 h.vl]),if_neg (by have:=List.length_pos_iff.2 h.ne;omega),if_neg (by have:=h.le;omega),if_neg d]
def mV (r:TY):Int:=r.1
theorem ZN {most:Int} : ∀ {rs:List TY} {k:Nat} {a:List Int},YU most k a rs=none<->(∀ r∈rs,VR most r/\r.1 ∉ a)/\(rs.map mV).Nodup
 | [],k,a=>by simp [YU]
 | r::rs,k,a=>by
  unfold YU;by_cases h:kR a most r=0
  ·rw [if_neg (by simp [h]),ZN (rs:=rs)];have f:=f9.1 h;simp only [List.mem_cons,forall_eq_or_imp,List.map_cons,List.nodup_cons,List.mem_append,List.not_mem_nil,or_false,List.mem_map,not_exists,not_and,not_or];constructor
   ·rintro ⟨b,d⟩;exact ⟨⟨f,λx c=>⟨(b x c).1,(b x c).2.1⟩⟩,λx c e=>(b x c).2.2 e,d⟩
   ·rintro ⟨⟨_,b⟩,d,g⟩;exact ⟨λx c=>⟨(b x c).1,(b x c).2,d x c⟩,g⟩
  ·rw [if_pos h];simp only [reduceCtorEq,false_iff,not_and];intro b;exact absurd (f9.2 (b r (by simp))) h
theorem YN {B:Int} : ∀ {ls:List (List TY)} {i:Nat} {c:List Int},YS B i c ls=none<->(∀ k rs,ls[k]? = some rs->rs.length<=2 /\ ∀ r∈rs,VR (UY B (i+k)) r/\r.1 ∉ c)/\(ls.flatten.map mV).Nodup
 | [],i,c=>by simp [YS]
 | rs::ls,i,c=>by
  unfold YS;by_cases h:rs.length>2
  ·rw [if_pos h];simp only [reduceCtorEq,false_iff,not_and];intro j;have:=(j 0 rs rfl).1;omega
  ·rw [if_neg h];cases g:YU (UY B i) 0 c rs with
   | some x =>
    simp only [reduceCtorEq,false_iff,not_and];intro j l
    have m:YU (UY B i) 0 c rs=none:=ZN.2 ⟨(j 0 rs rfl).2,by
     simp only [List.flatten_cons,List.map_append] at l
     exact (List.nodup_append.1 l).1⟩
    rw [g] at m;cases m
   | none =>
    have q:=ZN.1 g;simp only;rw [YN (ls:=ls)];simp only [List.flatten_cons,List.map_append,List.mem_append,not_or,List.mem_map];constructor
    ·rintro ⟨j,l⟩;refine ⟨λk d n => ?_,?_⟩
     ·cases k with
      | zero=>cases n;exact ⟨by omega,q.1⟩
      | succ k =>
       have m:=j k d n
       exact ⟨m.1,λr g=>by
        have:=m.2 r g;rw [show i+(k+1)=i+1+k by omega]
        exact ⟨this.1,this.2.1⟩⟩
     ·rw [List.nodup_append];refine ⟨q.2,l,?_⟩;intro a s b t e;subst e;obtain ⟨r,g,e1⟩:=List.mem_map.1 s;obtain ⟨p,f,e2⟩:=List.mem_map.1 t;obtain ⟨d,o,f⟩:=List.mem_flatten.1 f;obtain ⟨k,n⟩:=List.getElem?_of_mem o;exact ((j k d n).2 p f).2.2 ⟨r,g,by unfold mV at e1 e2;omega⟩
    ·rintro ⟨j,l⟩;rw [List.nodup_append] at l;refine ⟨λk d n => ?_,l.2.1⟩;have m:=j (k+1) d n;refine ⟨m.1,λr g => ?_⟩;have:=m.2 r g;rw [show i+(k+1)=i+1+k by omega] at this;refine ⟨this.1,this.2,?_⟩;rintro ⟨p,f,e⟩;exact l.2.2 (mV p) (List.mem_map_of_mem f) (mV r) (List.mem_map_of_mem (List.mem_flatten.2 ⟨d,List.mem_of_getElem? n,g⟩)) e
structure VLev (L:TB):Prop where
 B1:1<=L.1
 B2:L.1<=16
 len:L.2.length<=12
 lev : ∀ i rs,L.2[i]? = some rs->rs.length<=2 /\ ∀ r∈rs,VR (UY L.1 i) r
 ids:(L.2.flatten.map mV).Nodup
 last:L.2.getLast? ≠ some []
theorem XE {L:TB}:(Vs L).2.2=0<->VLev L:=by
 unfold Vs;constructor
 ·intro h;by_cases c:L.1<1\/L.1>16
  ·rw [if_pos c] at h;cases h
  rw [if_neg c] at h;by_cases d:L.2.length>12
  ·rw [if_pos d] at h;cases h
  rw [if_neg d] at h;cases a:YS L.1 0 [] L.2 with
  | some x =>
   obtain ⟨i,k,e⟩:=x;rw [a] at h;exact absurd h (ak a)
  | none =>
   rw [a] at h;simp only at h;by_cases f:L.2.getLast? = some []
   ·rw [if_pos f] at h;cases h
   ·have g:=YN.1 a
    exact ⟨by omega,by omega,by omega,λi rs hi=>by
     have:=g.1 i rs hi;rw [Nat.zero_add] at this
     exact ⟨this.1,λr b=>(this.2 r b).1⟩,g.2,f⟩
 ·intro h
  have a:YS L.1 0 [] L.2=none:=YN.2 ⟨λk rs j=>by
   have:=h.lev k rs j;rw [Nat.zero_add]
   exact ⟨this.1,λr b=>⟨this.2 r b,by simp⟩⟩,h.ids⟩
  rw [if_neg (by have:=h.B1;have:=h.B2;omega),if_neg (by have:=h.len;omega),a];simp only;rw [if_neg h.last]
theorem Wx {L:TB} (h:VLev L):Vs L=(0,(0,0)):=by
 have a:YS L.1 0 [] L.2=none:=YN.2 ⟨λk rs b=>by
  have:=h.lev k rs b;rw [Nat.zero_add]
  exact ⟨this.1,λr c=>⟨this.2 r c,by simp⟩⟩,h.ids⟩
 unfold Vs;rw [if_neg (by have:=h.B1;have:=h.B2;omega),if_neg (by have:=h.len;omega),a];simp only;rw [if_neg h.last]
def WC (l:List (List TY)):Int:=l.foldl (λm rs=>rs.foldl (λm r=>S0 m r.1) m) 0
def TJ:Nat->List (List TY)->List Int
 | _,[]=>[]
 | i,rs::ls=>(if rs.length=2 then [(i:Int)] else [])++TJ (i+1) ls
theorem bN (L:TB) (f:L.2.length<=1048576) (d : ∀ rs∈L.2,rs.length<=1048576):Vi L=some (WC L.2):=by
 unfold Vi;simp only [TH,TF]
 rw [Ub (l:=L.2) (σ:=Int) (s:=((0:Int),(0:Int))) (λi m=>(m,(i:Int))) (λ_ _ _=>True) (λls _ m=>(0,((ls.foldl (λm rs=>rs.foldl (λm r=>S0 m r.1) m) m,(L.2.length:Int)),()))) 0 rfl (by omega) trivial (λm _=>by
  simp only;rw [re];rfl) (λi rs ls m b a hi _=>by
   refine ⟨rs.foldl (λm r=>S0 m r.1) m,?_,trivial,rfl⟩;have e:=d rs (List.mem_of_getElem? a);simp only
   rw [rl hi,R5,S9,Sb a,Ub (l:=rs) (σ:=Int) (s:=((0:Int),m)) (λi m=>((i:Int),m)) (λ_ _ _=>True) (λl _ m=>(0,(((rs.length:Int),l.foldl (λm r=>S0 m r.1) m),()))) m rfl (by omega) trivial (λm _=>by
    simp only;rw [re];rfl) (λk r l m b a c _=>by
     refine ⟨S0 m r.1,?_,trivial,rfl⟩;simp only
     rw [rl c,R5,S9,Sb a,TL a (by omega)]),SL,TL a (by omega)]),SL]
 rfl
def YR (L:TB) (a:List Int) (i:Nat) (j:Job):Bool:=match a[i]? with
 | none=>true
 | some d=>if j.1≠d then true else if j.2.2.1.2.2=true/\j.1≠(L.2.length:Int)-1 then true else match L.2[d.toNat]? with
  | some [r0,r1]=>if j.2.2.2.2<0\/j.2.2.2.2>((r1.2.length+r0.2.length:Nat):Int) then true else decide (U9 r1.2 r0.2 j.2.2.1.2.2 j.2.2.2.2.toNat≠j.2)
  | _=>true
def WJ (L:TB) (a:List Int):Nat->List Job->Option Nat
 | _,[]=>none
 | i,j::js=>if YR L a i j=true then some i else WJ L a (i+1) js
def TE (s:TA):Int×Int :=
 if (Vs s.1).2.2≠0 then (-1,(Vs s.1).2.2) else if s.2.2<1\/s.2.2>1000001 then (-1,7) else if s.2.2<=WC s.1.2 then (-1,6) else match WJ s.1 (TJ 0 s.1.2) 0 s.2.1 with
  | some i=>((i:Int),6)
  | none=>if s.2.1.length<(TJ 0 s.1.2).length then (-1,4) else (0,0)
theorem XI : ∀ {ls:List (List TY)} {i k:Nat} {d:Int},(TJ i ls)[k]? = some d -> ∃ n:Nat,d=((i+n:Nat):Int) /\ ∃ e f,ls[n]? = some [e,f]
 | [],i,k,d,h=>by cases h
 | rs::ls,i,k,d,h=>by
  unfold TJ at h;by_cases a:rs.length=2
  ·rw [if_pos a] at h;cases k with
   | zero =>
    simp at h;refine ⟨0,by simp [<- h],?_⟩
    match rs,a with
    | [e,f],_=>exact ⟨e,f,rfl⟩
   | succ k =>
    simp at h;obtain ⟨n,b,c⟩:=XI h;exact ⟨n+1,by rw [b];congr 1;omega,c⟩
  ·rw [if_neg a] at h;simp at h;obtain ⟨n,b,c⟩:=XI h;exact ⟨n+1,by rw [b];congr 1;omega,c⟩
theorem VV : ∀ (ls:List (List TY)) (i:Nat),(TJ i ls).length<=ls.length
 | [],i=>Nat.le_refl _
 | rs::ls,i=>by
  have:=VV ls (i+1);unfold TJ;split<;>simp<;>omega
theorem bA {L:TB} {n:Nat} {a b:TY} (c:Bool) (h:L.2[n]? = some [a,b]) (d:VL a.2) (e:VL b.2):Uf (L,((n:Int),c))=some ((n:Int),U9 b.2 a.2 c 0):=by
 unfold Uf;simp only;rw [S9,Sb h,Sb (x:=b) rfl,Sb (x:=a) rfl,d9 e d];rfl
theorem Z9 {a b:List S8} (va:VL a) (d:VL b) (c:Bool) {n:Nat} (h:n<=a.length+b.length):(U9 a b c n).1.1.length<=1000/\(∀ l∈(U9 a b c n).1.1,l.length<=1000000)/\(U9 a b c n).1.2.1.length<=1000/\(U9 a b c n).1.2.2.1.length<=1000/\(U9 a b c n).1.2.2.2.1.length<=1000/\(U9 a b c n).2.2.1.length<=1000000:=by
 have j:=va.len;have k:=d.len;refine ⟨show 2<=1000 by omega,λl f => ?_,show 2<=1000 by omega,show 2<=1000 by omega,show 2<=1000 by omega,?_⟩
 ·have:l=a\/l=b:=by simpa [U9,YZ,Yn] using f
  rcases this with e | e<;>subst e<;>omega
 ·have g:=Xe (s0 c) (TU a b n);have i:=Us va d h;show (Vt (s0 c) (TU a b n)).length<=_;omega
theorem me {L:TB} {n:Nat} {a b:TY} {j:Job} (h:L.2[n]? = some [a,b]) (e:VL a.2) (f:VL b.2) {β:Type} (A B:Option β) :
  (bd (Uf (L,((n:Int),j.2.2.1.2.2))) λc=>bd (UD c.2) λl=>br (SW j.2.2.2.2 0) (λ_=>A) λ_=>br (SU j.2.2.2.2 l.1) (λ_=>A) λ_=>bd (UO (c.2,j.2.2.2.2)) λm=>bd (VD (m.1,j.2)) λo=>br (Hf o) (λ_=>A) λ_=>B)
  = if j.2.2.2.2<0\/j.2.2.2.2>((b.2.length+a.2.length:Nat):Int) then A else if U9 b.2 a.2 j.2.2.1.2.2 j.2.2.2.2.toNat=j.2 then B else A:=by
 rw [bA _ h e f,SL,ZO f e _ (Nat.zero_le _),SL,Sr,Sp,Nat.sub_zero];by_cases g:j.2.2.2.2<0
 ·rw [if_pos g,if_pos (.inl g)]
 rw [if_neg g];by_cases i:j.2.2.2.2>((b.2.length+a.2.length:Nat):Int)
 ·rw [if_pos i,if_pos (.inr i)]
 rw [if_neg i,if_neg (show ¬ (j.2.2.2.2<0\/j.2.2.2.2>((b.2.length+a.2.length:Nat):Int)) by omega)];obtain ⟨k,p⟩ : ∃ k:Nat,j.2.2.2.2=(k:Int):=⟨j.2.2.2.2.toNat,by omega⟩;rw [p,aT f e _ (Nat.zero_le _),SL,Nat.sub_zero,Nat.zero_add,Nat.min_eq_left (by omega),Int.toNat_natCast];obtain ⟨s1,s2,q,r,s,t⟩:=Z9 f e j.2.2.1.2.2 (n:=k) (by omega);rw [bO _ _ s1 s2 q r s t,SL,Uq,Uv];by_cases d:U9 b.2 a.2 j.2.2.1.2.2 k=j.2
 ·rw [if_neg (by simp [d]),if_pos d]
 ·rw [if_pos d,if_neg d]
theorem cL (s:TA) (N:s.1.2.length<=1048576) (hr : ∀ rs∈s.1.2,rs.length<=1048576 /\ ∀ r∈rs,r.2.length<=9223372036854775807) (hj:s.2.1.length<=1048576):UP s=some (TE s):=by
 unfold UP TE;simp only [TH,TF];rw [Ye _ N hr,SL,Ss];by_cases z:(Vs s.1).2.2=0;rotate_left
 ·rw [if_neg z,if_pos z]
 rw [if_pos z,if_neg (by simp [z]),Sr,Sp,bN _ N (λrs h=>(hr rs h).1),SL];have v:=XE.1 z;by_cases C:s.2.2<1
 ·rw [if_pos C,if_pos (.inl C)]
 rw [if_neg C];by_cases p:s.2.2>1000001
 ·rw [if_pos p,if_pos (.inr p)]
 rw [if_neg p,if_neg (show ¬ (s.2.2<1\/s.2.2>1000001) by omega),Sq];by_cases o:s.2.2<=WC s.1.2
 ·rw [if_pos o,if_pos o]
 rw [if_neg o,if_neg o]
 rw [Ub (l:=s.1.2) (σ:=List Int) (s:=((0:Int),([]:List Int))) (λi m=>((i:Int),m)) (λls i m=>m++TJ i ls=TJ 0 s.1.2) (λ_ _ _=>(0,(((s.1.2.length:Int),TJ 0 s.1.2),()))) [] rfl (by omega) rfl (λm h=>by
  simp only;rw [re,Rd,<- h];simp [TJ]) (λi rs ls m hd E hi h=>by
   refine ⟨m++(if rs.length=2 then [(i:Int)] else []),?_,?_,rfl⟩
   ·simp only;rw [rl hi,R5,S9,Sb E,Sn]
    have hm:m.length<=1048575:=by
     have D:=congrArg List.length h;have q:=VV s.1.2 0;have u:=v.len;rw [List.length_append] at D;omega
    by_cases D:rs.length=2
    ·rw [if_pos (by omega),if_pos D,Te (by simp only [BD,AS,List.length_cons,List.length_nil];omega),TL E (by omega)];rfl
    ·rw [if_neg (by omega),if_neg D,List.append_nil,TL E (by omega)]
   ·rw [List.append_assoc];exact h),SL]
 simp only;obtain ⟨a,g⟩ : ∃ a,a=TJ 0 s.1.2:=⟨_,rfl⟩;have hdl:a.length<=12:=by have:=VV s.1.2 0;have:=v.len;rw [g];omega
 rw [<- g];obtain ⟨T,hT⟩ : ∃ T,T=WJ s.1 a 0 s.2.1:=⟨_,rfl⟩;rw [<- hT]
 obtain ⟨r,q1,I⟩:=WK (l:=s.2.1) (σ:=Unit) (λi _=>((0:Int),((0:Int),(i:Int)))) (λjs i _=>WJ s.1 a i js=T) (λ(r:Nat×((Int×(Int×Int))×Unit))=>(T=none/\r.1=1)\/(∃ i:Nat,T=some i/\r.1=0/\r.2.1.1=6/\r.2.1.2.1=(i:Int)))
  (f:=λb=>br (SW b.2.2 (s.2.1.length:Int)) (λ_=>RX b.2.2 λk7=>ix s.2.1 k7 λe=>br (RS b.2.2 (a.length:Int)) (λ_=>some (.dn ((0,((6,(b.2.2,b.2.2)),()))))) λ_=>RX b.2.2 λk9=>gd (KC k9 a.length) λ_=>ix a k9 λx10=>br (RT e.1 x10) (λ_=>some (.dn ((0,((6,(b.2.2,b.2.2)),()))))) λ_=>br e.2.2.1.2.2 (λ_=>bd (Ux (s.1,e.1)) λP=>br (Hf P) (λ_=>some (.dn ((0,((6,(b.2.2,b.2.2)),()))))) λ_=>bd (Uf ((s.1,(e.1,e.2.2.1.2.2)))) λL=>bd (UD L.2) λS=>br (SW e.2.2.2.2 0) (λ_=>some (.dn ((0,((6,(b.2.2,b.2.2)),()))))) λ_=>br (SU e.2.2.2.2 S.1) (λ_=>some (.dn ((0,((6,(b.2.2,b.2.2)),()))))) λ_=>bd (UO (L.2,e.2.2.2.2)) λU=>bd (VD (U.1,e.2)) λW=>br (Hf W) (λ_=>some (.dn ((0,((6,(b.2.2,b.2.2)),()))))) λ_=>some (.nx ((b.1,(b.2.1,Rl .i64 b.2.2 1))))) λ_=>bd (Uf ((s.1,(e.1,e.2.2.1.2.2)))) λM=>bd (UD M.2) λX=>br (SW e.2.2.2.2 0) (λ_=>some (.dn ((0,((6,(b.2.2,b.2.2)),()))))) λ_=>br (SU e.2.2.2.2 X.1) (λ_=>some (.dn ((0,((6,(b.2.2,b.2.2)),()))))) λ_=>bd (UO (M.2,e.2.2.2.2)) λY=>bd (VD (Y.1,e.2)) λZ=>br (Hf Z) (λ_=>some (.dn ((0,((6,(b.2.2,b.2.2)),()))))) λ_=>some (.nx ((b.1,(b.2.1,Rl .i64 b.2.2 1))))) λ_=>some (.dn ((1,(b,())))))
  (s:=(0,(0,0))) () rfl (by omega) hT.symm (λ_ h=>by
   refine ⟨_,by simp only;rw [re];rfl,.inl ⟨by rw [<- h];rfl,rfl⟩⟩) (λi j js _ hd E hi h=>by
   simp only;rw [rl hi,R5,S9,Sb E,So];unfold WJ at h
   have c:YR s.1 a i j=true -> ∃ r:Nat×((Int×(Int×Int))×Unit),(some (LR.dn ((0,((6,((i:Int),(i:Int))),()))):LR (Int×(Int×Int)) _))=some (.dn r)/\((T=none/\r.1=1)\/(∃ i:Nat,T=some i/\r.1=0/\r.2.1.1=6/\r.2.1.2.1=(i:Int))):=λN=>by
    rw [if_pos N] at h;exact ⟨_,rfl,.inr ⟨i,h.symm,rfl,rfl,rfl⟩⟩
   have x:YR s.1 a i j=false -> ∃ st':Unit,(some (LR.nx ((0:Int),((0:Int),Rl .i64 (i:Int) 1))):Option (LR _ (Nat×((Int×(Int×Int))×Unit))))=some (.nx ((0:Int),((0:Int),((i+1:Nat):Int))))/\WJ s.1 a (i+1) js=T:=λhg=>by
    rw [if_neg (by simp [hg])] at h;exact ⟨(),by rw [TL E (by omega)],h⟩
   by_cases C:(i:Int)>=(a.length:Int)
   ·rw [if_pos C];exact .inr (c (by unfold YR;rw [List.getElem?_eq_none (by omega)]))
   rw [if_neg C,S9,SR,if_pos (by omega)];have w:a[i]? = some (a[i]'(by omega)):=by simp
   rw [Sb w,Ss];obtain ⟨n,O,J,K,y⟩:=XI (ls:=s.1.2) (i:=0) (k:=i) (d:=a[i]'(by omega)) (by rw [<- g];exact w);rw [Nat.zero_add] at O
   have t:YR s.1 a i j=(if j.1≠(a[i]'(by omega)) then true else if j.2.2.1.2.2=true/\j.1≠(s.1.2.length:Int)-1 then true else if j.2.2.2.2<0\/j.2.2.2.2>((K.2.length+J.2.length:Nat):Int) then true else decide (U9 K.2 J.2 j.2.2.1.2.2 j.2.2.2.2.toNat≠j.2)):=by
    unfold YR;rw [w];simp only;rw [O,Int.toNat_natCast,y]
   by_cases p:j.1=(a[i]'(by omega));rotate_left
   ·rw [if_neg p];exact .inr (c (by rw [t,if_pos p]))
   rw [if_pos p];rw [if_neg (by simp [p])] at t;have F:j.1=(n:Int):=by rw [p,O]
   have hv:=(v.lev n _ y).2;have v0:=(hv J (by simp)).vl;have v1:=(hv K (by simp)).vl;have G:Rp .i64 (s.1.2.length:Int) 1=(s.1.2.length:Int)-1:=SB (by omega);unfold Ux;simp only [TH,TF];rw [SL,G,VZ,Uq,Uv,F,me y v0 v1,Sx];rw [F] at t;by_cases o:j.2.2.1.2.2=true/\(n:Int)≠(s.1.2.length:Int)-1
   ·rw [if_pos o.1,if_pos o.2];exact .inr (c (by rw [t,if_pos o]))
   rw [if_neg o] at t
   have D : ∀ {γ:Type} (A B:γ),(if j.2.2.1.2.2=true then if ¬(n:Int)=(s.1.2.length:Int)-1 then A else B else B)=B:=by
    intro γ A B;by_cases q:j.2.2.1.2.2=true
    ·rw [if_pos q,if_neg (λu=>o ⟨q,u⟩)]
    ·rw [if_neg q]
   rw [D];by_cases q:j.2.2.2.2<0\/j.2.2.2.2>((K.2.length+J.2.length:Nat):Int)
   ·rw [if_pos q];exact .inr (c (by rw [t,if_pos q]))
   rw [if_neg q];rw [if_neg q] at t;by_cases u:U9 K.2 J.2 j.2.2.1.2.2 j.2.2.2.2.toNat=j.2
   ·rw [if_pos u];exact .inl (x (by rw [t];simp [u]))
   ·rw [if_neg u]
    exact .inr (c (by rw [t];simp [u])))
 rw [z];refine TZ q1 ?_;rw [SM];rcases I with ⟨I,q3⟩ | ⟨i,I,q3,q4,q5⟩
 ·rw [if_neg (show ¬ r.1=0 by omega),I,Sr];simp only;by_cases h7:s.2.1.length<a.length
  ·rw [if_pos (by omega),if_pos h7]
  ·rw [if_neg (by omega),if_neg h7]
 ·rw [if_pos q3,I,q4,q5]
end
section
open Go Go.Proofs.YtfilfloanndddaaGreat.Sv
theorem Y8 (x:S8):VP x=some (kE x):=by
 unfold VP kE;rw [Sp,TH,X5];by_cases e:x.1.length>32
 ·rw [if_pos (by omega),if_pos (.inl e)]
 rw [if_neg (by omega),Sp,TH,X5];by_cases f:x.2.1.length>64
 ·rw [if_pos (by omega),if_pos (.inr f)]
 rw [if_neg (by omega : ¬ (x.2.1.length:Int)>64),if_neg (by omega),Sx];by_cases b:x.2.2.1=true
 ·rw [if_pos b,To,Vp];by_cases c:x.2.1=[]
  ·rw [if_pos c,if_neg (by simp [c]),Sr,Sp];by_cases a:x.2.2.2<1
   ·simp [a]
   ·by_cases d:x.2.2.2>1000000000<;>simp [a,d]
  ·rw [if_neg c,if_pos ⟨b,c⟩]
 ·rw [if_neg b,if_neg (by simp [b]),Sr,Sp];by_cases a:x.2.2.2<1
  ·simp [a]
  ·by_cases d:x.2.2.2>1000000000<;>simp [a,d]
def VI:List UInt8->List UInt8->Nat
 | x::a,y::b=>if x=y then VI a b+1 else 0
 | _,_=>0
theorem lV (x y:UInt8):RR (S4 x) (S4 y)=decide (x=y):=by
 rw [VZ];unfold S4;by_cases h:x=y
 ·simp [h]
 ·have : ¬ ((x.toNat:Int)=(y.toNat:Int)):=λe=>h (UInt8.toNat_inj.1 (by omega));simp [h,this]
theorem eB (a b:List UInt8) (z:a.length<=9223372036854775806):Vy (a,b)=some (VI a b:Int):=by
 unfold Vy;simp only [TH,X5]
 have key : ∀ (m:List UInt8) (k n:Nat),a.drop k=m->k<=a.length->k<=b.length->m.length<n->IJ n (λs0=>br (SW s0 (a.length:Int)) (λ_=>br (SW s0 (b.length:Int)) (λ_=>RX s0 λt=>ix a t λw=>RX s0 λu=>ix b u λy=>br (RR (S4 w) (S4 y)) (λ_=>some (LR.nx (Rl .i64 s0 1))) λ_=>some (.dn ((0,(s0,()))))) λ_=>some (.dn ((0,(s0,()))))) λ_=>some (.dn ((0,(s0,()))))) (k:Int)=some ((0:Nat),(((k+VI m (b.drop k):Nat):Int),())):=by
  intro m
  induction m with
  | nil =>
   intro k n f r h p;obtain ⟨n,rfl⟩ : ∃ j,n=j+1:=⟨n-1,by omega⟩
   have i:k=a.length:=by
    have:=congrArg List.length f;simp at this;omega
   subst i;refine Tq ?_;rw [re];simp [Rd,VI]
  | cons x m s =>
   intro k n f r h p;obtain ⟨n,rfl⟩ : ∃ j,n=j+1:=⟨n-1,by omega⟩
   have o:a[k]? = some x:=by
    have:=congrArg List.head? f;rw [List.head?_drop] at this;simpa using this
   have c:k<a.length:=(List.getElem?_eq_some_iff.1 o).1
   have l:a.drop (k+1)=m:=by
    have:=congrArg List.tail f;rw [List.tail_drop] at this;simpa using this
   by_cases d:k<b.length
   ·have q:b[k]? = some b[k]:=by simp [d]
    rw [List.drop_eq_getElem_cons d];unfold VI;by_cases e:x=b[k]
    ·rw [if_pos e];refine (Th (s':=((k+1:Nat):Int)) ?_).trans ?_
     ·rw [rl c,R5,rl d,R5,S9,Sb o,S9,Sb q,lV,Uv,if_pos e,TI (by omega)]
     ·rw [s (k+1) n l (by omega) (by omega) (by simp at p;omega),show k+1+VI m (b.drop (k+1))=k+(VI m (b.drop (k+1))+1) by omega]
    ·rw [if_neg e];refine Tq ?_;rw [rl c,R5,rl d,R5,S9,Sb o,S9,Sb q,lV,Uv,if_neg e];simp
   ·have g:k=b.length:=by omega
    refine Tq ?_;rw [rl c,R5,g,re,Rd,List.drop_length];simp [VI]
 refine TZ (Ui (n:=a.length+1) (by omega) (key a 0 (a.length+1) (by simp) (by omega) (by omega) (by omega))) ?_;simp
def Yh (a b:W8):Int:=if Rz a b=true then -1 else if a=b then 0 else 1
theorem bE : ∀ (a b:W8),(VI a b<=a.length/\VI a b<=b.length)/\(VI a b=a.length->VI a b=b.length->Yh a b=0)/\(VI a b=a.length->VI a b≠b.length->Yh a b = -1)/\(VI a b≠a.length->VI a b=b.length->Yh a b=1)/\(∀ x y,a[VI a b]? = some x->b[VI a b]? = some y->Yh a b=if x.toNat<y.toNat then -1 else 1)
 | [],[]=>by simp [VI,Yh,Y9]
 | [],y::b=>by simp [VI,Yh,aw]
 | x::a,[]=>by simp [VI,Yh,Y9]
 | x::a,y::b=>by
  obtain ⟨⟨o,g⟩,i,j,k,l⟩:=bE a b;by_cases e:x=y
  ·subst e
   have n:Yh (x::a) (x::b)=Yh a b:=by
    unfold Yh;rw [Xo];simp
   have hc:VI (x::a) (x::b)=VI a b+1:=by simp [VI]
   rw [n,hc];refine ⟨⟨by simp;omega,by simp;omega⟩,λu v=>i (by simp at u;omega) (by simp at v;omega),λu v=>j (by simp at u;omega) (by simp at v;omega),λu v=>k (by simp at u;omega) (by simp at v;omega),λp q d f=>l p q (by simpa using d) (by simpa using f)⟩
  ·have hc:VI (x::a) (y::b)=0:=by simp [VI,e]
   rw [hc];refine ⟨⟨by omega,by omega⟩,λu=>by simp at u,λu=>by simp at u,λ_ u=>by simp at u,λp q d f => ?_⟩;simp at d f;subst d f;unfold Yh;rw [Xo];have m : ¬ (x::a=y::b):=λh=>e (by injection h);by_cases c:x.toNat<y.toNat
   ·have:x<y:=UInt8.lt_iff_toNat_lt.2 c;simp [this,c]
   ·have : ¬ x<y:=λh=>c (UInt8.lt_iff_toNat_lt.1 h);simp [this,c,e]
theorem fh (a b:W8) (p:a.length<=1000000000) (q:b.length<=1000000000):Vn (a,b)=some (Yh a b):=by
 obtain ⟨⟨o,i⟩,j,k,l,m⟩:=bE a b;unfold Vn;simp only [TH,X5];rw [eB a b (by omega),SL,Sn]
 have n:(if (VI a b:Int)<(b.length:Int) then (RX (VI a b:Int) λc=>ix a c λe=>RX (VI a b:Int) λd=>ix b d λf=>br (SW (S4 e) (S4 f)) (λ_=>some (-1:Int)) λ_=>some 1) else some 1)=(if VI a b=a.length then (if (VI a b:Int)<(b.length:Int) then (RX (VI a b:Int) λc=>ix a c λe=>RX (VI a b:Int) λd=>ix b d λf=>br (SW (S4 e) (S4 f)) (λ_=>some (-1:Int)) λ_=>some 1) else some 1) else some (Yh a b)):=by
  by_cases u:VI a b=a.length
  ·rw [if_pos u]
  ·rw [if_neg u];by_cases v:VI a b=b.length
   ·rw [if_neg (by omega),l u v]
   ·rw [if_pos (by omega),S9];have g:a[VI a b]? = some (a[VI a b]'(by omega)):=by simp
    have h:b[VI a b]? = some (b[VI a b]'(by omega)):=by simp
    rw [Sb g,S9,Sb h,Sr,m _ _ g h];unfold S4;by_cases w:(a[VI a b]'(by omega)).toNat<(b[VI a b]'(by omega)).toNat
    ·rw [if_pos (by omega),if_pos w]
    ·rw [if_neg (by omega),if_neg w]
 by_cases u:VI a b=a.length
 ·rw [if_pos (by omega),Sn];by_cases v:VI a b=b.length
  ·rw [if_pos (by omega),j u v]
  ·rw [if_neg (by omega),Sn,if_pos (by omega),k u v]
 ·rw [if_neg (by omega),Sn,if_neg (by omega),Sr,n,if_neg u]
theorem dt (a b:W8):Yh a b>=0<->Rz a b=false:=by
 unfold Yh;cases h:Rz a b with
 | true=>simp
 | false=>simp;split<;>omega
theorem W0 (l:List S8) (E:l.length<=9223372036854775807):Ur l=some (WI l):=by
 unfold Ur WI;simp only [TH,TF];rw [Sp];by_cases h:l.length>5000
 ·rw [if_pos (by omega),if_pos h]
 rw [if_neg (by omega),if_neg h];obtain ⟨T,o⟩ : ∃ T,T=X8 none 0 l:=⟨_,rfl⟩;rw [<- o]
 obtain ⟨r,w,j⟩:=WK (l:=l) (σ:=Unit) (s:=((0:Int),((0:Int),(0:Int)))) (λk _=>((0:Int),((0:Int),(k:Int)))) (λm k _=>X8 (if k=0 then none else (l[k-1]?).map (·.1)) k m=T/\(∀ y,k≠0->l[k-1]? = some y->kE y=0)) (λ(r:Nat×((Int×(Int×Int))×Unit))=>(r.1=1/\T=(0,0))\/(r.1=0/\T=(r.2.1.2.1,r.2.1.1)))
  (f:=λs0=>br (SW s0.2.2 (l.length:Int)) (λ_=>RX s0.2.2 λq=>ix l q λA=>bd (VP A) λd=>br (RR d 0) (λ_=>br (SU s0.2.2 0) (λ_=>RX (Rp .i64 s0.2.2 1) λt=>ix l t λB=>RX s0.2.2 λu=>ix l u λC=>bd (Vn (B.1,C.1)) λz=>br (RS z 0) (λ_=>some (.dn ((0,((6,(s0.2.2,s0.2.2)),()))))) λ_=>br (RT d 0) (λ_=>some (.dn ((0,((d,(s0.2.2,s0.2.2)),()))))) λ_=>some (.nx ((s0.1,(s0.2.1,Rl .i64 s0.2.2 1))))) λ_=>br (RT d 0) (λ_=>some (.dn ((0,((d,(s0.2.2,s0.2.2)),()))))) λ_=>some (.nx ((s0.1,(s0.2.1,Rl .i64 s0.2.2 1))))) λ_=>br (RT d 0) (λ_=>some (.dn ((0,((d,(s0.2.2,s0.2.2)),()))))) λ_=>some (.nx ((s0.1,(s0.2.1,Rl .i64 s0.2.2 1))))) λ_=>some (.dn ((1,(s0,())))))
  () rfl (by omega) ⟨o.symm,λ_ h=>absurd rfl h⟩ (λ_ h=>by
   refine ⟨_,by simp only;rw [re];rfl,.inl ⟨rfl,?_⟩⟩;rw [<- h.1];simp [X8]) (λk x m _ D g p h=>by
   simp only;obtain ⟨h,c⟩:=h;rw [rl p,R5,S9,Sb g,Y8,SL,Sn];unfold X8 at h
   have next:kE x=0->(T=X8 (some x.1) (k+1) m)->X8 (if k+1=0 then none else (l[k+1-1]?).map (·.1)) (k+1) m=T/\(∀ y,k+1≠0->l[k+1-1]? = some y->kE y=0):=λa e=>by
    rw [if_neg (by omega),Nat.add_sub_cancel,g,e];exact ⟨rfl,λy _ i=>by cases i;exact a⟩
   by_cases a:kE x=0
   ·rw [if_pos a,Sp];rw [if_neg (by simp [a])] at h;by_cases b:k=0
    ·rw [if_neg (by omega),Ss,if_pos a];rw [if_pos b] at h;exact .inl ⟨(),by rw [TL g (by omega)],next a h.symm⟩
    ·have i:l[k-1]? = some (l[k-1]'(by omega)):=by rw [List.getElem?_eq_getElem]
     rw [if_pos (by omega),show Rp .i64 (k:Int) 1=((k-1:Nat):Int) by rw [SB (by omega)];omega,S9,Sb i,S9,Sb g];rw [if_neg b,i] at h;simp only [Option.map_some] at h;rw [fh _ _ (by have:=Zj (c _ b i);omega) (by have:=Zj a;omega),SL,So];by_cases hs:Rz (l[k-1]'(by omega)).1 x.1=true
     ·rw [if_neg (λe=>by rw [dt,hs] at e;cases e),Ss,if_pos a];rw [if_pos hs] at h;exact .inl ⟨(),by rw [TL g (by omega)],next a h.symm⟩
     ·rw [if_pos ((dt _ _).2 (by simpa using hs))];rw [if_neg hs] at h;exact .inr ⟨_,rfl,.inr ⟨rfl,h.symm⟩⟩
   ·rw [if_neg a,Ss,if_neg a];rw [if_pos a] at h
    exact .inr ⟨_,rfl,.inr ⟨rfl,h.symm⟩⟩)
 refine TZ w ?_;rw [SM];rcases j with ⟨j,n⟩ | ⟨j,n⟩
 ·rw [if_neg (show ¬ r.1=0 by omega),n]
 ·rw [if_pos j,n]
theorem lW (p q:TD) (d:Vr p) (e:Vr q):WB ([p,q],(0,1))=some (w0 p q):=by
 unfold WB w0;refine (V3 0 rfl (x:=p) rfl).trans ((V3 1 rfl (x:=q) rfl).trans ?_);rw [beq_eq,Uq,Uv,To,Sx];by_cases a:p.2=q.2
 ·rw [if_neg (show ¬ ¬ p.2=q.2 by simp [a]),if_neg (show ¬ p.2≠q.2 by simp [a])];by_cases b:p.2=true
  ·rw [if_pos b,d b,e (a ▸ b)];rfl
  ·rw [if_neg b,To,Vp];by_cases c:p.1=q.1
   ·rw [if_pos c,if_neg (by simp [c])];rfl
   ·rw [if_neg c,if_pos c]
 ·rw [if_pos a,if_pos a]
theorem ZR (p q:TD) (n:Nat) (k:Int) (h:2<=k) (a:k<=100):Mx TV (n+1) ([p,q],k)=some (k-2,0):=by
 show TV (Mx TV n) ([p,q],k)=_;unfold TV;show br (RS k 2) (λ_=>some (Rp .i64 k 2,0)) _=_;rw [So,if_pos h,SB (by omega)]
theorem Zr (p q:TD) (a:Vr p) (b:Vr q):Wn ([p,q],1)=some (if w0 p q=true then (0,1) else (1,0)):=by
 show TV (Mx TV 99) ([p,q],1)=_;unfold TV;show br (RS (1:Int) 2) (λ_=>some (Rp .i64 (1:Int) 2,0)) (λ_=>bd (Mx TV (98+1) ([p,q],2)) λc=>bd (Mx TV (98+1) ([p,q],3)) _)=_;rw [So,if_neg (by omega),ZR p q 98 2 (by omega) (by omega),SL,ZR p q 98 3 (by omega) (by omega),SL];show bd (WB ([p,q],(0,1))) _=_;rw [lW p q a b,SL,Sx];cases h:w0 p q<;>rfl
theorem lT (p q:TD) (a:Vr p) (c:Vr q):Wo [p,q]=some (Tt p q):=by
 unfold Wo;refine Eq.trans (b:=bd (loop _ (1,([p,q],([0,0],0)))) _) rfl ?_;refine TZ (x:=(0,((2,([p,q],([0,if w0 p q=true then 1 else 0],0))),()))) (Ui (n:=2) (by omega) ((Th (s':=(2,([p,q],([0,if w0 p q=true then 1 else 0],0)))) ?_).trans (Tq rfl))) ?_
 ·show bd (Wn ([p,q],1)) _=_;rw [Zr p q a c,SL];refine (YE 1 rfl (x:=(0:Int)) rfl).trans ?_;cases h:w0 p q<;>rfl
 ·rw [Zr p q a c,SL];unfold Tt;cases h:w0 p q<;>rfl
theorem eV {l:List TD} (h : ∀ k∈l,Vr k) (c:l≠[]) (f:l.length<=32):WQ l=some 0:=by
 unfold WQ;simp only [TH,TF];rw [Sn,Sp,if_neg (by have:=List.length_pos_iff.2 c;omega),if_neg (by omega)]
 rw [Ub (l:=l) (σ:=Unit) (s:=((0:Int),(0:Int))) (λk _=>((k:Int),(0:Int))) (λ_ _ _=>True) (λ_ _ _=>(1,(((l.length:Int),0),()))) () rfl (by omega) trivial (λe _=>by
  simp only;rw [re];rfl) (λk x m e _ a d _=>⟨(),by
   simp only;rw [rl d,R5,S9,Sb a,Sx,TL a (by omega)];by_cases b:x.2=true
   ·rw [if_pos b,S9,Sb a,To,Vp,if_pos (h x (List.mem_of_getElem? a) b)]
   ·rw [if_neg b],trivial,rfl⟩),SL]
 rfl
theorem eA (p q:TD) (a:Vr p) (b:Vr q):Vo [p,q]=some (Tt p q,0):=by
 unfold Vo;rw [eV (by simp [a,b]) (by simp) (by simp),SL,Ss,if_pos rfl,lT p q a b,SL]
end
section
open Go Go.Proofs.YtfilfloanndddaaGreat.Sv
theorem W7:UL=Tf:=rfl
theorem Zs:Wm=TK:=rfl
theorem cX (l m:List TD) (i:l.length<=9223372036854775806) (j:l.length=m.length) : ∃ r,loop (λs1=>br (SW s1.1 (l.length:Int)) (λ_=>RX s1.1 λn=>ix l n λf=>RX s1.1 λo=>ix m o λg=>br (Hf (NX (seq f.1 g.1) (NX (Sv.beq f.2 g.2) true))) (λ_=>some (LR.dn ((0:Nat),((s1.1,false),())))) λ_=>some (.nx (Rl .i64 s1.1 1,s1.2))) λ_=>some (.dn ((1,(s1,()))))) ((0:Int),false)=some r/\((l=m/\r.1=1)\/(l≠m/\r.1=0/\r.2.1.2=false)):=by
 refine Xk l m j i (λk x y a d => ?_) (by simp only;rw [re];rfl);have c:=(List.getElem?_eq_some_iff.1 a).1
 have b : ∀ {β:Type} (u v:Unit->Option β),br (Hf (NX (seq x.1 y.1) (NX (Sv.beq x.2 y.2) true))) u v=if x=y then v () else u ():=by
  intro β u v;rw [Yp,Yk,beq_eq,Xr,Uq,Uv];by_cases e:x=y
  ·subst e;simp
  ·rw [if_pos (λh=>e (Prod.ext h.1 h.2)),if_neg e]
 constructor
 ·intro e;simp only;rw [rl c,R5,S9,Sb a,S9,Sb d,b,if_pos e,TI (by omega)]
 ·intro e;simp only;rw [rl c,R5,S9,Sb a,S9,Sb d,b,if_neg e]
theorem Zt (s t:Vc) (g:s.1.length<=1000) (h:s.2.1.length<=1000):WA (s,t)=some (decide (s=t)):=by
 obtain ⟨b,d,k⟩:=s;obtain ⟨c,f,l⟩:=t;simp only at g h;unfold WA;simp only [TH,TF];rw [Ss];by_cases e1:(b.length:Int)=(c.length:Int);rotate_left
 ·rw [if_neg e1];have : ¬ b=c:=λe=>e1 (by rw [e]);simp [this]
 rw [if_pos e1,Ss];by_cases e2:k=l;rotate_left
 ·rw [if_neg e2];simp [e2]
 rw [if_pos e2,Zs,YK _ _ (by omega),SL,Uq,Uv];by_cases e3:d=f;rotate_left
 ·rw [if_pos e3];simp [e3]
 rw [if_neg (show ¬ ¬ d=f by simp [e3])];obtain ⟨r,i,a⟩:=cX b c (by omega) (by omega);refine TZ i ?_;rw [SM];rcases a with ⟨e,a⟩ | ⟨e,a,j⟩
 ·rw [if_neg (show ¬ r.1=0 by omega)];simp [e,e2,e3]
 ·rw [if_pos a,j];simp [e]
theorem bf (s t:TC) (u:s.1.length<=1000) (g : ∀ l∈s.1,l.length<=1000000) (w:s.2.1.length<=1000) (h:s.2.2.1.length<=1000) (i:s.2.2.2.1.length<=1000):Wq (s,t)=some (decide (s=t)):=by
 obtain ⟨a,n,o⟩:=s;obtain ⟨d,p,q⟩:=t;simp only at u g w h i;unfold Wq;simp only [TH,TF];rw [Ss];by_cases e1:(a.length:Int)=(d.length:Int);rotate_left
 ·rw [if_neg e1];have : ¬ a=d:=λe=>e1 (by rw [e]);simp [this]
 rw [if_pos e1,Zs,YK _ _ (by omega),SL,Uq,Uv];by_cases e2:n=p;rotate_left
 ·rw [if_pos e2];simp [e2]
 rw [if_neg (show ¬ ¬ n=p by simp [e2]),Zt _ _ h i,SL,Uq,Uv];by_cases e3:o=q;rotate_left
 ·rw [if_pos e3];simp [e3]
 rw [if_neg (show ¬ ¬ o=q by simp [e3])]
 obtain ⟨r,C,c⟩:=Xk a d (by omega) (by omega) (f:=λs2=>br (SW s2.1 (a.length:Int)) (λ_=>RX s2.1 λA=>ix a A λF=>RX s2.1 λB=>ix d B λG=>bd (UL (F,G)) λE=>br (Hf E) (λ_=>some (.dn ((0,((s2.1,false),()))))) λ_=>some (.nx (Rl .i64 s2.1 1,s2.2))) λ_=>some (.dn ((1,(s2,()))))) (λk x y b m=>by
   have j:=(List.getElem?_eq_some_iff.1 b).1;have z:=g x (List.mem_of_getElem? b);constructor
   ·intro e;simp only;rw [rl j,R5,S9,Sb b,S9,Sb m,W7,V6 _ _ (by omega),SL,Uq,Uv,if_neg (by simp [e]),TI (by omega)]
   ·intro e;simp only
    rw [rl j,R5,S9,Sb b,S9,Sb m,W7,V6 _ _ (by omega),SL,Uq,Uv,if_pos e]) (by simp only;rw [re];rfl)
 refine TZ C ?_;rw [SM];rcases c with ⟨e,c⟩ | ⟨e,c,D⟩
 ·rw [if_neg (show ¬ r.1=0 by omega)];simp [e,e2,e3]
 ·rw [if_pos c,D];simp [e]
theorem cY (x y:XG) (a:x.1.1.length<=1000) (b : ∀ l∈x.1.1,l.length<=1000000) (c:x.1.2.1.length<=1000) (d:x.1.2.2.1.length<=1000) (e:x.1.2.2.2.1.length<=1000) (f:x.2.2.1.length<=1000000):Tz (x,y)=some (decide (x=y)):=by
 obtain ⟨i,⟨xs,k,h⟩,g,j⟩:=x;obtain ⟨n,⟨q,r,m⟩,p,o⟩:=y;simp only at a b c d e f;unfold Tz;simp only [bf _ _ a b c d e,W7,V6 _ _ (show g.length<=9223372036854775806 by omega),SL,Uv,VZ,Yk,beq_eq,Yp,Xr]
 repeat' split
 all_goals simp_all
section
variable {a b:List S8} (va:VL a) (vb:VL b)
include va vb
theorem Yi:VT [a,b]=some (0,0):=by
 have c:=va.len;have d:=vb.len;unfold VT;refine Eq.trans (b:=bd (loop _ (0,(0,0))) _) rfl ?_;refine TZ (x:=(1,((0,(0,2)),()))) (Uo (s1:=(0,(0,1))) (s2:=(0,(0,2))) ?_ ?_ rfl) rfl
 ·refine (ZT 0 rfl rfl (x:=a) rfl).trans ?_;rw [W0 _ (by omega),X9 va,SL];rfl
 ·refine (ZT 1 rfl rfl (x:=b) rfl).trans ?_;rw [W0 _ (by omega),X9 vb,SL];rfl
theorem Xz {i j:Nat} (hi:i<=a.length) (g:j<=b.length):VS ([a,b],[(i:Int),(j:Int)])=some (if i=a.length/\j=b.length then -1 else if XK a b i j=true then 0 else 1):=by
 have k:=va.len;have l:=vb.len;unfold VS;simp only [TH,TF];refine TZ (x:=(0,((if i=a.length/\j=b.length then -1 else if XK a b i j=true then 0 else 1,2),()))) (Uo (s1:=(if i=a.length then -1 else 0,1)) (s2:=(if i=a.length/\j=b.length then -1 else if XK a b i j=true then 0 else 1,2)) ?_ ?_ rfl) rfl
 ·refine (ZT 0 rfl rfl (x:=(i:Int)) rfl).trans ((V3 0 rfl (x:=a) rfl).trans ?_);rw [Sr];by_cases h:i=a.length
  ·rw [if_neg (by omega),if_pos h];rfl
  ·rw [if_pos (by omega),if_neg h];rfl
 ·refine (ZT 1 rfl rfl (x:=(j:Int)) rfl).trans ((V3 1 rfl (x:=b) rfl).trans ?_);rw [Sr];by_cases h:j=b.length
  ·rw [if_neg (by omega)];by_cases c:i=a.length
   ·rw [if_pos c,if_pos ⟨c,h⟩];rfl
   ·rw [if_neg c,if_neg (λe=>c e.1)];have d:a[i]? = some (a[i]'(by omega)):=by simp
    rw [dg d (List.getElem?_eq_none (by omega))];rfl
  ·have f:b[j]? = some (b[j]'(by omega)):=by simp
   rw [if_pos (by omega),Sr,if_neg (λe:i=a.length/\j=b.length=>h e.2)];by_cases c:i=a.length
   ·rw [if_pos c,if_pos (by omega),dh (List.getElem?_eq_none (by omega)) f];rfl
   ·rw [if_neg c,if_neg (by omega)];have d:a[i]? = some (a[i]'(by omega)):=by simp
    refine (V3 1 rfl (x:=b) rfl).trans ((V3 1 rfl (x:=(j:Int)) rfl).trans ((V3 j rfl f).trans ((V3 0 rfl (x:=a) rfl).trans ((V3 0 rfl (x:=(i:Int)) rfl).trans ((V3 i rfl d).trans ?_)))));rw [Wg,Zh d f];cases hs:Rz (b[j]'(by omega)).1 (a[i]'(by omega)).1<;>rfl
theorem X2 {i j:Nat} (hi:i<=a.length) (e:j<=b.length):Uz ([a,b],[(i:Int),(j:Int)])=some (Yn a b i j):=by
 have f:=va.len;have g:=vb.len;unfold Uz;simp only [TH,TF];rw [Te (show [a,b].length<=1048576 from (show 2<=1048576 by omega)),Te (show [(i:Int),(j:Int)].length<=1048576 from (show 2<=1048576 by omega))];refine TZ (x:=(0,((2,[kx a i,kx b j]),()))) (Uo (s1:=(1,[kx a i])) (s2:=(2,[kx a i,kx b j])) ?_ ?_ rfl) ?_
 ·refine (ZT 0 rfl rfl (x:=(i:Int)) rfl).trans ((V3 0 rfl (x:=a) rfl).trans ?_);rw [VZ,Uq,Uv];by_cases h:i=a.length
  ·have c:((i:Int)=(a.length:Int)):=by omega
   rw [if_neg (show ¬ ¬ ((i:Int)=(a.length:Int)) by simp [c]),Yy (List.getElem?_eq_none (by omega))];simp only [c,decide_true];rfl
  ·have d:a[i]? = some (a[i]'(by omega)):=by simp
   have c : ¬ ((i:Int)=(a.length:Int)):=by omega
   rw [if_pos c];refine (V3 0 rfl (x:=a) rfl).trans ((V3 0 rfl (x:=(i:Int)) rfl).trans ((V3 i rfl d).trans ?_));rw [Wv d];simp only [c,decide_false];rfl
 ·refine (ZT 1 rfl rfl (x:=(j:Int)) rfl).trans ((V3 1 rfl (x:=b) rfl).trans ?_);rw [VZ,Uq,Uv];by_cases h:j=b.length
  ·have c:((j:Int)=(b.length:Int)):=by omega
   rw [if_neg (show ¬ ¬ ((j:Int)=(b.length:Int)) by simp [c]),Yy (l:=b) (i:=j) (List.getElem?_eq_none (by omega))];simp only [c,decide_true];rfl
  ·have d:b[j]? = some (b[j]'(by omega)):=by simp
   have c : ¬ ((j:Int)=(b.length:Int)):=by omega
   rw [if_pos c];refine (V3 1 rfl (x:=b) rfl).trans ((V3 1 rfl (x:=(j:Int)) rfl).trans ((V3 j rfl d).trans ?_));rw [Wv (l:=b) (i:=j) d];simp only [c,decide_false];rfl
 ·show bd (Vo [kx a i,kx b j]) _=_;rw [eA _ _ (UC _ _) (UC _ _)];rfl
theorem dx {i:Nat} {l:List S8} (h:i≠0) (hi:i<=l.length) : ∃ x,l[i-1]? = some x:=⟨l[i-1]'(by omega),by simp⟩
theorem ZM {i j:Nat} (I:Inv a b i j):VQ (Yn a b i j)=some (0,0):=by
 have t:=va.len;have u:=vb.len;have hi:=I.ia;have k:=I.jb;unfold VQ;rw [show (Yn a b i j).1=[a,b] from rfl,Yi va vb,SL,Ss,if_pos rfl];rw [show (Yn a b i j).2.1=[(i:Int),(j:Int)] from rfl,Ss,if_pos (show Kb (AS [(i:Int),(j:Int)])=Kb (AS [a,b]) from rfl)];refine TZ (x:=(1,((0,(0,2)),()))) (Uo (s1:=(0,(0,1))) (s2:=(0,(0,2))) ?_ ?_ rfl) ?_
 ·refine (ZT 0 rfl rfl (x:=(i:Int)) rfl).trans ?_;rw [Sr,if_neg (by omega)];refine (V3 0 rfl (x:=(i:Int)) rfl).trans ((V3 0 rfl (x:=a) rfl).trans ?_);rw [Sp,if_neg (by simp only [TH,TF];omega)];rfl
 ·refine (ZT 1 rfl rfl (x:=(j:Int)) rfl).trans ?_;rw [Sr,if_neg (by omega)];refine (V3 1 rfl (x:=(j:Int)) rfl).trans ((V3 1 rfl (x:=b) rfl).trans ?_);rw [Sp,if_neg (by simp only [TH,TF];omega)];rfl
 rw [show neq ((1:Nat),(((0:Int),((0:Int),(2:Int))),())).1 0=false from rfl,Rd,X2 va vb hi k,SL,Zt (Yn a b i j).2.2 (Yn a b i j).2.2 (show 2<=1000 by omega) (show 2<=1000 by omega),SL,Uq,Uv,if_neg (show ¬ ¬ (Yn a b i j).2.2=(Yn a b i j).2.2 by simp),Xz va vb hi k,SL];by_cases r:i=a.length/\j=b.length
 ·rw [if_pos r];refine TZ (x:=(1,((0,(0,0)),()))) (Ui (n:=1) (by omega) (Tq ?_)) rfl;rfl
 rw [if_neg r];cases g:XK a b i j with
 | true =>
  rw [if_pos rfl]
  have p:i<a.length:=by
   refine Nat.lt_of_not_le λh' => ?_;have o:j<b.length:=by omega
   rw [dh (List.getElem?_eq_none h') (show b[j]? = some (b[j]'o) by simp)] at g;cases g
  have e:a[i]? = some (a[i]'p):=by simp
  refine TZ (x:=(1,((0,(0,2)),()))) (Uo (s1:=(0,(0,1))) (s2:=(0,(0,2))) ?_ ?_ rfl) rfl
  ·show br (SW (0:Int) 2) _ _=_;rw [Sr,if_pos (by omega),So,if_pos (by omega)];refine (V3 0 rfl (x:=(i:Int)) rfl).trans ?_;rw [Sn];by_cases f:i=0
   ·rw [if_pos (by omega)];rfl
   ·rw [if_neg (by omega)];obtain ⟨y,d⟩:=dx va vb (l:=a) f hi;refine (V3 0 rfl (x:=a) rfl).trans ((V3 0 rfl (x:=(i:Int)) rfl).trans ?_);rw [show Rp .i64 (i:Int) 1=((i-1:Nat):Int) by rw [SB (by omega)];omega,S9,Sb d];refine (V3 0 rfl (x:=a) rfl).trans ((V3 0 rfl (x:=(i:Int)) rfl).trans ((V3 i rfl e).trans ?_));have c:=va.lt d (show a[i-1+1]? = some _ by rw [show i-1+1=i by omega];exact e);rw [Wg,if_neg (by rw [Ut c];simp),Vp,if_neg (YH c)];rfl
  ·show br (SW (1:Int) 2) _ _=_;rw [Sr,if_pos (by omega),So,if_pos (by omega)];refine (V3 1 rfl (x:=(j:Int)) rfl).trans ?_;rw [Sn];by_cases f:j=0
   ·rw [if_pos (by omega)];rfl
   ·rw [if_neg (by omega)];obtain ⟨y,d⟩:=dx va vb (l:=b) f k;refine (V3 1 rfl (x:=b) rfl).trans ((V3 1 rfl (x:=(j:Int)) rfl).trans ?_);rw [show Rp .i64 (j:Int) 1=((j-1:Nat):Int) by rw [SB (by omega)];omega,S9,Sb d];refine (V3 0 rfl (x:=a) rfl).trans ((V3 0 rfl (x:=(i:Int)) rfl).trans ((V3 i rfl e).trans ?_));have c:=I.pb (j-1) (by omega) y _ d e;rw [Wg,if_neg (by rw [Ut c];simp),Vp,if_neg (YH c)];rfl
 | false =>
  rw [if_neg (by simp)]
  have h:j<b.length:=by
   refine Nat.lt_of_not_le λh' => ?_;have m:i<a.length:=by omega
   rw [dg (show a[i]? = some (a[i]'m) by simp) (List.getElem?_eq_none h')] at g;cases g
  have e:b[j]? = some (b[j]'h):=by simp
  refine TZ (x:=(1,((0,(0,2)),()))) (Uo (s1:=(0,(0,1))) (s2:=(0,(0,2))) ?_ ?_ rfl) rfl
  ·show br (SW (0:Int) 2) _ _=_;rw [Sr,if_pos (by omega),So,if_pos (by omega)];refine (V3 0 rfl (x:=(i:Int)) rfl).trans ?_;rw [Sn];by_cases f:i=0
   ·rw [if_pos (by omega)];rfl
   ·rw [if_neg (by omega)];obtain ⟨y,d⟩:=dx va vb (l:=a) f hi;refine (V3 0 rfl (x:=a) rfl).trans ((V3 0 rfl (x:=(i:Int)) rfl).trans ?_);rw [show Rp .i64 (i:Int) 1=((i-1:Nat):Int) by rw [SB (by omega)];omega,S9,Sb d];refine (V3 1 rfl (x:=b) rfl).trans ((V3 1 rfl (x:=(j:Int)) rfl).trans ((V3 j rfl e).trans ?_));have q:=I.pa (i-1) (by omega) y _ d e;rw [Wg,if_neg (by rw [q];simp),Vp];by_cases s:y.1=(b[j]'h).1
    ·rw [if_pos s];rfl
    ·rw [if_neg s];rfl
  ·show br (SW (1:Int) 2) _ _=_;rw [Sr,if_pos (by omega),So,if_pos (by omega)];refine (V3 1 rfl (x:=(j:Int)) rfl).trans ?_;rw [Sn];by_cases f:j=0
   ·rw [if_pos (by omega)];rfl
   ·rw [if_neg (by omega)];obtain ⟨y,d⟩:=dx va vb (l:=b) f k;refine (V3 1 rfl (x:=b) rfl).trans ((V3 1 rfl (x:=(j:Int)) rfl).trans ?_);rw [show Rp .i64 (j:Int) 1=((j-1:Nat):Int) by rw [SB (by omega)];omega,S9,Sb d];refine (V3 1 rfl (x:=b) rfl).trans ((V3 1 rfl (x:=(j:Int)) rfl).trans ((V3 j rfl e).trans ?_));have c:=vb.lt d (show b[j-1+1]? = some _ by rw [show j-1+1=j by omega];exact e);rw [Wg,if_neg (by rw [Ut c];simp),Vp,if_neg (YH c)];rfl
end
end
section
open Go Go.Proofs.YtfilfloanndddaaGreat.Sv
section
variable {a b:List S8} (va:VL a) (vb:VL b)
include va vb
theorem gO {n:Nat} {x:S8} (h:n<a.length+b.length) (d:ZQ a b n=some x):Vd (YZ a b n)=some (x,((Zz a b n:Int),(YZ a b (n+1),0))):=by
 obtain ⟨i,hs⟩:=V4 va vb (n:=n) (by omega);obtain ⟨j,k⟩:=V4 va vb (n:=n+1) (by omega);have l:=va.len;have m:=vb.len;have e:=i.ia;have f:=i.jb;unfold Vd;rw [show YZ a b n=Yn a b (TM a b n).1 (TM a b n).2 from rfl,ZM va vb i,SL,Ss,if_pos rfl,show (Yn a b (TM a b n).1 (TM a b n).2).1=[a,b] from rfl,show (Yn a b (TM a b n).1 (TM a b n).2).2.1=[((TM a b n).1:Int),((TM a b n).2:Int)] from rfl,Xz va vb e f,SL,if_neg (λhh:(TM a b n).1=a.length/\(TM a b n).2=b.length=>by omega)];unfold ZQ at d;have c:TM a b (n+1)=if XK a b (TM a b n).1 (TM a b n).2=true then ((TM a b n).1+1,(TM a b n).2) else ((TM a b n).1,(TM a b n).2+1):=rfl
 unfold YZ Zz;cases g:XK a b (TM a b n).1 (TM a b n).2 with
 | true =>
  rw [g,if_pos rfl] at c;rw [g,if_pos rfl] at d;have hi:=(List.getElem?_eq_some_iff.1 d).1;rw [if_pos rfl,Sr,if_neg (by omega),Te (show AS [((TM a b n).1:Int),((TM a b n).2:Int)]<=1048576 from (show 2<=1048576 by omega))];refine (YE 0 rfl (x:=((TM a b n).1:Int)) rfl).trans ((YE 0 rfl (x:=((TM a b n).1:Int)) rfl).trans ((V3 0 rfl (x:=a) rfl).trans ((V3 0 rfl (x:=((TM a b n).1:Int)) rfl).trans ((V3 _ rfl d).trans ?_))));rw [TI (by omega),show lset [((TM a b n).1:Int),((TM a b n).2:Int)] 0 (((TM a b n).1+1:Nat):Int)=[(((TM a b n).1+1:Nat):Int),((TM a b n).2:Int)] from rfl,X2 va vb (by omega) f,SL,c];rfl
 | false =>
  rw [g,if_neg (by simp)] at c;rw [g,if_neg (by simp)] at d;have hi:=(List.getElem?_eq_some_iff.1 d).1;rw [if_neg (by simp),Sr,if_neg (by omega),Te (show AS [((TM a b n).1:Int),((TM a b n).2:Int)]<=1048576 from (show 2<=1048576 by omega))];refine (YE 1 rfl (x:=((TM a b n).2:Int)) rfl).trans ((YE 1 rfl (x:=((TM a b n).2:Int)) rfl).trans ((V3 1 rfl (x:=b) rfl).trans ((V3 1 rfl (x:=((TM a b n).2:Int)) rfl).trans ((V3 _ rfl d).trans ?_))));rw [TI (by omega),show lset [((TM a b n).1:Int),((TM a b n).2:Int)] 1 (((TM a b n).2+1:Nat):Int)=[((TM a b n).1:Int),(((TM a b n).2+1:Nat):Int)] from rfl,X2 va vb e (by omega),SL,c];rfl
theorem gN {n:Nat} (h:n<=a.length+b.length):Wp (YZ a b n)=some (((a.length+b.length-n:Nat):Int),0):=by
 obtain ⟨c,hs⟩:=V4 va vb (n:=n) h;have f:=va.len;have g:=vb.len;have d:=c.ia;have e:=c.jb;unfold Wp;rw [show YZ a b n=Yn a b (TM a b n).1 (TM a b n).2 from rfl,ZM va vb c,SL,Ss,if_pos rfl];refine TZ (x:=(0,((2,((a.length+b.length-n:Nat):Int)),()))) (Uo (s1:=(1,(a.length:Int)-((TM a b n).1:Int))) (s2:=(2,((a.length+b.length-n:Nat):Int))) ?_ ?_ rfl) rfl
 ·refine (ZT 0 rfl rfl (x:=a) rfl).trans ((V3 0 rfl (x:=((TM a b n).1:Int)) rfl).trans ?_);simp only [TH,TF];rw [show Rl .i64 (0:Int) (a.length:Int)=(a.length:Int) by rw [R9 (by omega),Int.zero_add],SB (by omega)];rfl
 ·refine (ZT 1 rfl rfl (x:=b) rfl).trans ((V3 1 rfl (x:=((TM a b n).2:Int)) rfl).trans ?_);simp only [TH,TF];show some (LR.nx ((2:Int),Rp .i64 (Rl .i64 ((a.length:Int)-((TM a b n).1:Int)) (b.length:Int)) ((TM a b n).2:Int)))=_;rw [R9 (by omega),SB (by omega),show (a.length:Int)-((TM a b n).1:Int)+(b.length:Int)-((TM a b n).2:Int)=((a.length+b.length-n:Nat):Int) by omega]
theorem du:Vz [a,b]=some (TU a b (a.length+b.length),(XM a b (a.length+b.length),0)):=by
 have l:=va.len;have m:=vb.len;unfold Vz;rw [Yi va vb,SL,Ss,if_pos rfl];refine Eq.trans (b:=bd (loop _ ([],([],([],(0,([],[0,0])))))) _) rfl ?_
 refine TZ (x:=(0,((XM a b (a.length+b.length),(TU a b (a.length+b.length),0)),())))
  (Wd (λk=>([],(TU a b k,([],(0,(XM a b k,[((TM a b k).1:Int),((TM a b k).2:Int)])))))) 0 (a.length+b.length) rfl (by omega) (by omega) (λk _ j => ?_) ?_) rfl
 ·obtain ⟨x,c,_⟩:=Va va vb (n:=k) j;obtain ⟨d,hs⟩:=V4 va vb (n:=k) (by omega);have e:(TU a b k).length=k:=Us va vb (by omega);have f:=ZG a b k;simp only;rw [Xz va vb d.ia d.jb,SL,if_neg (λhh:(TM a b k).1=a.length/\(TM a b k).2=b.length=>by omega)];rw [WY va vb c];unfold ZQ at c;rw [show XM a b (k+1)=XM a b k++[(Zz a b k:Int)] from rfl];unfold Zz;rw [show TM a b (k+1)=if XK a b (TM a b k).1 (TM a b k).2=true then ((TM a b k).1+1,(TM a b k).2) else ((TM a b k).1,(TM a b k).2+1) from rfl]
  have h : ∀ {β:Type} (y:S8) (q:Unit->Option β),gd (CD (BD (AS (TU a b k)) (AS [y])) 1048576) q=q ():=λy q=>Te (by simp only [BD,AS,e,List.length_cons,List.length_nil];omega) q;have i : ∀ {β:Type} (y:Int) (q:Unit->Option β),gd (CD (BD (AS (XM a b k)) (AS [y])) 1048576) q=q ():=λy q=>Te (by simp only [BD,AS,f,List.length_cons,List.length_nil];omega) q;cases g:XK a b (TM a b k).1 (TM a b k).2 with
  | true =>
   rw [g,if_pos rfl] at c;have hi:=(List.getElem?_eq_some_iff.1 c).1;simp only [if_true];rw [Sr,if_neg (by omega)];refine (V3 0 rfl (x:=a) rfl).trans ((YE 0 rfl (x:=((TM a b k).1:Int)) rfl).trans ((V3 _ rfl c).trans ?_));rw [h,i];refine (YE 0 rfl (x:=((TM a b k).1:Int)) rfl).trans ((YE 0 rfl (x:=((TM a b k).1:Int)) rfl).trans ?_);rw [TI (by omega)];rfl
  | false =>
   rw [g,if_neg (by simp)] at c;have hi:=(List.getElem?_eq_some_iff.1 c).1;simp only [Bool.false_eq_true,if_false];rw [Sr,if_neg (by omega)];refine (V3 1 rfl (x:=b) rfl).trans ((YE 1 rfl (x:=((TM a b k).2:Int)) rfl).trans ((V3 _ rfl c).trans ?_));rw [h,i];refine (YE 1 rfl (x:=((TM a b k).2:Int)) rfl).trans ((YE 1 rfl (x:=((TM a b k).2:Int)) rfl).trans ?_);rw [TI (by omega)];rfl
 ·obtain ⟨d,hs⟩:=V4 va vb (n:=a.length+b.length) (Nat.le_refl _);simp only;rw [Xz va vb d.ia d.jb,SL,if_pos (show (TM a b (a.length+b.length)).1=a.length/\(TM a b (a.length+b.length)).2=b.length by have:=d.ia;have:=d.jb;omega),Sr,if_pos (by omega)]
end
theorem bn {s:UI} (b:s.2.1.length<=32) (a:s.1=false->s.2.1=[]):WR s=some 0:=by
 unfold WR;rw [Sp,if_neg (by simp only [TH,X5];omega),To,Sx];cases h:s.1 with
 | true=>rfl
 | false=>rw [if_neg (by simp),To,Vp,if_pos (a h)]
theorem cZ {s:UI} {x:S8} (e:s.2.1.length<=32) (f:s.1=false->s.2.1=[]) (g:kE x=0) (a:s.1=true->Rz x.1 s.2.1=false):Wr (s,x)=some (keep s x,((true,(x.1,s.2.2)),0)):=by
 unfold Wr keep;rw [bn e f,SL,Sn,if_pos rfl,Y8,g,SL,Sn,if_pos rfl];obtain ⟨s1,s2,c⟩:=s;obtain ⟨h,i,d,j⟩:=x;simp only at a ⊢;cases s1 with
 | true =>
  have:=a rfl;simp only [R5,Wg,this,Bool.false_eq_true,if_false,Ss,if_true,To,Vp];by_cases b:h=s2
  ·simp [b,Rd]
  ·simp only [b,if_false,decide_false];cases c<;>cases d<;>rfl
 | false =>
  simp only [Rd,Ss,if_true,To];cases c<;>cases d<;>rfl
theorem cU {l:List S8} {b:Bool} (t:l.length<=20000) (r:ZB (false,([],b)) l):V0 (l,b)=some (Vt (false,([],b)) l,(0,0)):=by
 unfold V0 U0;simp only [TH,TF];rw [Sp,if_neg (by omega),SL]
 rw [Ub (l:=l) (σ:=UI×List S8) (s:=(0,(0,([],([],(0,(false,([],b)))))))) (λk a=>((0:Int),((k:Int),(([]:List S8),(a.2,((0:Int),a.1))))))
  (λm k a=>ZB a.1 m/\a.1.2.1.length<=32/\(a.1.1=false->a.1.2.1=[])/\a.2.length<=k/\k+m.length=l.length)
  (λm k a=>(1,((0,((l.length:Int),([],(a.2++Vt a.1 m,(0,Ud a.1 m))))),()))) ((false,([],b)),[]) rfl (by omega) ⟨r,by simp,λ_=>rfl,by simp,by simp⟩ ?_ ?_,SL]
 ·simp;rfl
 ·intro a _;simp only;rw [re,Rd];simp [Ud,Vt]
 ·rintro k x m ⟨s,out⟩ u d p ⟨⟨c,e,f⟩,g,i,j,n⟩;simp only at c e f g i j ⊢;refine ⟨((true,(x.1,s.2.2)),out++if keep s x=true then [x] else []),?_,⟨f,Zj c,(λh=>by cases h),?_,by simp at n;omega⟩,?_⟩
  ·rw [rl p,R5,S9,Sb d,cZ g i c e,SL,Ss,if_pos rfl,Sx,S9,Sb d];have o : ∀ {β:Type} (k:Unit->Option β),gd (CD (BD out.length [x].length) 1048576) k=k ():=λk=>de j (by simp at n;omega) x k;rw [o,TL d (show l.length<=9223372036854775807 by omega)];cases q:keep s x<;>simp [Ik]
  ·split<;>simp<;>omega
  ·simp only [Ud,Vt,List.append_assoc]
section
variable {a b:List S8} (va:VL a) (vb:VL b)
include va vb
theorem aA (c:Bool) {n:Nat} (h:n<=a.length+b.length):U7 (TU a b n,c)=some (Vt (s0 c) (TU a b n),Ud (s0 c) (TU a b n)):=by
 have f:=va.len;have g:=vb.len;have d:(TU a b n).length=n:=Us va vb h;unfold U7;simp only [TH,TF];rw [cU (by omega) (W1 va vb c h),SL];unfold U0;rw [SL,Sp,d];cases n with
 | zero=>rw [if_neg (by omega)];rfl
 | succ m =>
  obtain ⟨x,e,_⟩:=Va va vb (n:=m) (by omega);rw [if_pos (by omega),show Rp .i64 ((m+1:Nat):Int) 1=(m:Int) by rw [SB (by omega)];omega,S9,Sb (x:=x) (by rw [Xl va vb h (by omega)];exact e),YD va vb c e]
theorem bm (c:Bool) {n:Nat} (h:n<=a.length+b.length):Ve (U9 a b c n)=some (n:Int):=by
 obtain ⟨d,hs⟩:=V4 va vb (n:=n) h;have e:=va.len;have f:=vb.len;unfold Ve;refine TZ (x:=(0,(((n:Int),2),()))) (Uo (s1:=(((TM a b n).1:Int),1)) (s2:=((n:Int),2)) ?_ ?_ rfl) rfl
 ·refine (ZT 0 rfl rfl (x:=((TM a b n).1:Int)) rfl).trans ?_;show some (LR.nx (Rl .i64 0 ((TM a b n).1:Int),(1:Int)))=_;rw [R9 (by omega),Int.zero_add]
 ·refine (ZT 1 rfl rfl (x:=((TM a b n).2:Int)) rfl).trans ?_;show some (LR.nx (Rl .i64 ((TM a b n).1:Int) ((TM a b n).2:Int),(2:Int)))=_;rw [R9 (by omega),show ((TM a b n).1:Int)+((TM a b n).2:Int)=(n:Int) by omega]
theorem bp (c:Bool) {n:Nat} (h:n<=a.length+b.length):WT (U9 a b c n)=some 0:=by
 obtain ⟨d,hs⟩:=V4 va vb (n:=n) h;have g:=va.len;have i:=vb.len;have e:=Xe (s0 c) (TU a b n);have f:(TU a b n).length=n:=Us va vb h;unfold WT;rw [show (U9 a b c n).1=Yn a b (TM a b n).1 (TM a b n).2 from rfl,ZM va vb d,SL,Ss,if_pos rfl,bm va vb c h,SL];simp only [TH,TF];rw [show (U9 a b c n).2.2.1=Vt (s0 c) (TU a b n) from rfl,show (U9 a b c n).2.2.2=(n:Int) from rfl,show (U9 a b c n).2.1=Ud (s0 c) (TU a b n) from rfl,Sp,if_neg (by omega),Sp,if_neg (by omega),Ss,if_pos rfl];rw [show (Yn a b (TM a b n).1 (TM a b n).2).1=[a,b] from rfl,du va vb,SL,S9];rw [Te (by rw [Us va vb (Nat.le_refl _)];exact h),Te (Nat.zero_le _)];rw [show Dy (TU a b (a.length+b.length)) 0 n=TU a b n from by unfold Dy;rw [List.drop_zero,Nat.sub_zero];exact XF va vb h,Ww];rw [show (s0 c).2.2=c from rfl,aA va vb c h,SL,W7,V6 _ _ (by omega),SL,Uq,Uv,if_neg (by simp),Ww,XU,XU,X3];rfl
theorem Yj (c:Bool) {n:Nat} (h:n<=a.length+b.length):Ti (U9 a b c n)=some (((a.length+b.length-n:Nat):Int),0):=by
 unfold Ti;rw [bp va vb c h,SL,Ss,if_pos rfl,show (U9 a b c n).1=YZ a b n from rfl,gN va vb h];rfl
theorem Zx (c:Bool) {n:Nat} (h:n<=a.length+b.length) {k:Nat}:Ta (U9 a b c n,(k:Int))=some (U9 a b c (n+min k (a.length+b.length-n)),(((min k (a.length+b.length-n):Nat):Int),0)):=by
 have i:=va.len;have l:=vb.len;obtain ⟨u,e⟩ : ∃ u,u=min k (a.length+b.length-n):=⟨_,rfl⟩
 have d:Sz (k:Int) ((a.length+b.length-n:Nat):Int)=(u:Int):=by
  unfold Sz;split<;>omega
 rw [<- e];unfold Ta;rw [Yj va vb c h,SL,Sn,if_pos rfl];simp only [d,TH,TF];rw [Sr,if_neg (by omega),Ss,if_pos rfl,bm va vb c h,SL,R9 (by omega),Sp,if_neg (by omega)]
 refine TZ (x:=(0,(((u:Int),((YZ a b (n+u)).1,((YZ a b (n+u)).2.1,((YZ a b (n+u)).2.2.1,((YZ a b (n+u)).2.2.2.1,((YZ a b (n+u)).2.2.2.2,((U9 a b c n).2.1.1,((U9 a b c n).2.1.2.1,((U9 a b c n).2.1.2.2,(U9 a b c n).2.2))))))))),())))
  (Wd (λj=>((j:Int),((YZ a b (n+j)).1,((YZ a b (n+j)).2.1,((YZ a b (n+j)).2.2.1,((YZ a b (n+j)).2.2.2.1,((YZ a b (n+j)).2.2.2.2,((U9 a b c n).2.1.1,((U9 a b c n).2.1.2.1,((U9 a b c n).2.1.2.2,(U9 a b c n).2.2)))))))))) 0 u rfl (by omega) (by omega) (λj _ g => ?_) ?_) ?_
 ·obtain ⟨y,f,_⟩:=Va va vb (n:=n+j) (by omega);show br (SW (j:Int) (u:Int)) _ _=_;rw [Sr,if_pos (by omega)];show bd (Vd (YZ a b (n+j))) _=_;rw [gO va vb (by omega) f,SL,TI (by omega)];rfl
 ·show br (SW (u:Int) (u:Int)) _ _=_;rw [Sr,if_neg (by omega)]
 ·rw [show (U9 a b c n).1.1=[a,b] from rfl,du va vb,SL,show (U9 a b c n).2.2.2=(n:Int) from rfl,show Rl .i64 (n:Int) (u:Int)=((n+u:Nat):Int) by rw [R9 (by omega)];omega,S9];rw [Te (by rw [Us va vb (Nat.le_refl _)];omega),Te (Nat.zero_le _)];rw [show Dy (TU a b (a.length+b.length)) 0 (n+u)=TU a b (n+u) from by unfold Dy;rw [List.drop_zero,Nat.sub_zero];exact XF va vb (by omega),show (U9 a b c n).2.1.2.2=c from Ww _ _,aA va vb c (by omega),SL];rfl
end
end
section
open Go Go.Proofs.YtfilfloanndddaaGreat.Sv
theorem aS (B:Int) (i:Nat):UY B (i+1)=2*UY B i:=by
 unfold UY;rw [Int.pow_succ,<- Int.mul_assoc,Int.mul_comm]
theorem bo {B:Int} {i:Nat} (a:1<=B) (b:B<=16) (hi:i<=12):VF (B,(i:Int))=some (UY B i):=by
 unfold VF;refine TZ (x:=(0,((UY B i,(i:Int)),()))) (Zm (λk=>(UY B k,(k:Int))) i (by simp [UY]) (by omega) (λk d => ?_) ?_) rfl
 ·have c:=bu a b (show k<=12 by omega);simp only;rw [Sr,if_pos (by omega),SA (by omega),TI (by omega),aS]
 ·simp only;rw [Sr,if_neg (by omega)]
theorem mC (r:TY) (b:r.2.length<=9223372036854775807):WP r=some (if r.1<1\/r.1>1000000 then (-1,7) else WI r.2):=by
 unfold WP;rw [Sr,Sp,W0 _ b,SL];by_cases h:r.1<1
 ·rw [if_pos h,if_pos (.inl h)]
 ·rw [if_neg h];by_cases a:r.1>1000000
  ·rw [if_pos a,if_pos (.inr a)]
  ·rw [if_neg a,if_neg (by omega)]
theorem gS (r:TY) (most:Int) (a:List Int) (z:r.2.length<=9223372036854775807) (hi:a.length<=1048576):Vf (r,(most,a))=some (kR a most r):=by
 unfold Vf kR;rw [mC r (by omega),SL];simp only [TH,TF];by_cases h:r.1<1\/r.1>1000000
 ·rw [if_pos h,if_pos h];rfl
 rw [if_neg h,if_neg h,Ss];by_cases b:(WI r.2).2=0;rotate_left
 ·rw [if_neg b,if_pos b]
 rw [if_pos b,if_neg (show ¬ (WI r.2).2≠0 by simp [b]),Sn,Sp];by_cases i:r.2.length=0
 ·rw [if_pos (by omega),if_pos i]
 rw [if_neg (by omega),if_neg i];by_cases c:(r.2.length:Int)>most
 ·rw [if_pos c,if_pos c]
 rw [if_neg c,if_neg c]
 obtain ⟨q,p,d⟩:=WK (l:=a) (σ:=Unit) (s:=((0:Int),(0:Int))) (λk _=>((k:Int),(0:Int))) (λm k _=>r.1∈a<->r.1∈m) (λ(q:Nat×((Int×Int)×Unit))=>(q.1=1/\r.1 ∉ a)\/(q.1=0/\r.1∈a/\q.2.1.2=8))
  (f:=λs1=>br (SW s1.1 (a.length:Int)) (λ_=>RX s1.1 λo=>ix a o λw=>br (RR w r.1) (λ_=>some (.dn ((0,((s1.1,8),()))))) λ_=>some (.nx (Rl .i64 s1.1 1,s1.2))) λ_=>some (.dn ((1,(s1,())))))
  () rfl (by omega) Iff.rfl (λ_ h=>⟨_,by simp only;rw [re];rfl,.inl ⟨rfl,by simpa using h⟩⟩) (λk x m _ y j n h=>by
   simp only;rw [rl n,R5,S9,Sb j,Sn];by_cases e:x=r.1
   ·rw [if_pos e];exact .inr ⟨_,rfl,.inr ⟨rfl,by rw [h,e];simp,rfl⟩⟩
   ·rw [if_neg e];exact .inl ⟨(),by rw [TL j (by omega)],by rw [h,List.mem_cons];exact ⟨λu=>u.elim (λe2=>absurd e2.symm e) id,.inr⟩⟩)
 refine TZ p ?_;rw [SM];rcases d with ⟨d,g⟩ | ⟨d,g,t⟩
 ·rw [if_neg (show ¬ q.1=0 by omega),if_neg g]
 ·rw [if_pos d,if_pos g,t]
theorem ap (L:TB) (hb:L.2.length<=1048576) (hr : ∀ rs∈L.2,rs.length<=1048576 /\ ∀ r∈rs,r.2.length<=9223372036854775807):Uh L=some (Vs L):=by
 unfold Uh Vs;simp only [TH,TF];rw [Sr,Sp,Sp];by_cases n:L.1<1
 ·rw [if_pos n,if_pos (.inl n)]
 rw [if_neg n];by_cases o:L.1>16
 ·rw [if_pos o,if_pos (.inr o)]
 rw [if_neg o,if_neg (show ¬ (L.1<1\/L.1>16) by omega)];by_cases S:(L.2.length:Int)>12
 ·rw [if_pos S,if_pos (by omega)]
 rw [if_neg S,if_neg (by omega)];have hl2:L.2.length<=12:=by omega
 obtain ⟨T,N⟩ : ∃ T,T=YS L.1 0 [] L.2:=⟨_,rfl⟩;rw [<- N]
 have p:T=none->(br (SU (L.2.length:Int) 0) (λ_=>RX (Rp .i64 (L.2.length:Int) 1) λD=>ix L.2 D λJ=>br (RR (J.length:Int) 0) (λ_=>some ((Rp .i64 (L.2.length:Int) 1,((0:Int),(6:Int))))) λ_=>some ((0,(0,0)))) λ_=>some ((0,(0,0))))=some (if L.2.getLast? = some [] then (((L.2.length-1:Nat):Int),(0,6)) else (0,(0,0))):=by
  intro _;rw [Sp];by_cases X:L.2=[]
  ·rw [X];rfl
  ·have hp:=List.length_pos_iff.2 X;rw [if_pos (by omega),show Rp .i64 (L.2.length:Int) 1=((L.2.length-1:Nat):Int) by rw [SB (by omega)];omega,S9,List.getLast?_eq_getElem?];have d:L.2[L.2.length-1]? = some (L.2[L.2.length-1]'(by omega)):=by simp
   rw [Sb d,d,Sn];by_cases C:L.2[L.2.length-1]'(by omega)=[]
   ·rw [C];simp
   ·rw [if_neg (by have:=List.length_pos_iff.2 C;omega),if_neg (by simp [C])]
 obtain ⟨r,G,j⟩:=WK (l:=L.2) (σ:=List Int) (s:=((0:Int),(([]:List Int),((0:Int),((0:Int),(0:Int)))))) (λi a=>((0:Int),(a,((0:Int),((0:Int),(i:Int))))))
  (λm i a=>YS L.1 i a m=T/\a.length<=2*i) (λ(r:Nat×((Int×(List Int×(Int×(Int×Int))))×Unit))=>(r.1=1/\T=none)\/(r.1=0/\Q1 T r.2.1.1 r.2.1.2.2.1 r.2.1.2.2.2.1/\T≠none))
  (f:=λ(s0:(Int×((List Int)×(Int×(Int×Int)))))=>br (SW s0.2.2.2.2 (L.2.length:Int)) (λ_=>RX s0.2.2.2.2 λk1=>ix L.2 k1 λB=>br (SU (B.length:Int) 2) (λ_=>some (.dn ((0,((0,(s0.2.1,(s0.2.2.2.2,(3,s0.2.2.2.2)))),()))))) λ_=>bd (loop (λ(b:(Int×((List Int)×(Int×(Int×Int)))))=>br (SW b.2.2.2.2 (B.length:Int)) (λ_=>RX b.2.2.2.2 λE=>ix B E λK=>bd (VF (L.1,s0.2.2.2.2)) λI=>bd (Vf ((K,(I,b.2.1)))) λy=>br (RT y 0) (λ_=>some (.dn ((0,((b.2.2.2.2,(b.2.1,(s0.2.2.2.2,(y,b.2.2.2.2)))),()))))) λ_=>RX b.2.2.2.2 λF=>ix B F λz=>gd (CD (BD b.2.1.length [z.1].length) 1048576) λ_=>some (.nx ((b.1,(Ik b.2.1 [z.1],(b.2.2.1,(b.2.2.2.1,Rl .i64 b.2.2.2.2 1))))))) λ_=>some (.dn ((1,(b,()))))) ((s0.1,(s0.2.1,(s0.2.2.1,(s0.2.2.2.1,0)))))) λc=>br (neq c.1 0) (λ_=>some (.dn ((0,((c.2.1.1,(c.2.1.2.1,(c.2.1.2.2.1,(c.2.1.2.2.2.1,s0.2.2.2.2)))),()))))) λ_=>some (.nx ((c.2.1.1,(c.2.1.2.1,(c.2.1.2.2.1,(c.2.1.2.2.2.1,Rl .i64 s0.2.2.2.2 1))))))) λ_=>some (.dn ((1,(s0,())))))
  [] rfl (by omega) ⟨N.symm,by simp⟩ (λa h=>by
   refine ⟨_,by simp only;rw [re];rfl,.inl ⟨rfl,?_⟩⟩;rw [<- h.1];rfl) (λi rs m a Z d hi h=>by
   obtain ⟨h,P⟩:=h;simp only;obtain ⟨Y,u⟩:=hr rs (List.mem_of_getElem? d);rw [rl hi,R5,S9,Sb d,Sp];unfold YS at h;by_cases M:rs.length>2
   ·rw [if_pos (by omega)];rw [if_pos M] at h;refine .inr ⟨_,rfl,.inr ⟨rfl,?_,by rw [<- h];simp⟩⟩;rw [<- h];exact ⟨rfl,rfl,rfl⟩
   rw [if_neg (by omega)];rw [if_neg M] at h;obtain ⟨U,O⟩ : ∃ U,U=YU (UY L.1 i) 0 a rs:=⟨_,rfl⟩;rw [<- O] at h
   obtain ⟨r,G,j⟩:=WK (l:=rs) (σ:=Unit) (s:=((0:Int),(a,((0:Int),((0:Int),(0:Int)))))) (λk _=>((0:Int),(a++(rs.take k).map (·.1),((0:Int),((0:Int),(k:Int))))))
    (λm k _=>YU (UY L.1 i) k (a++(rs.take k).map (·.1)) m=U) (λ(r:Nat×((Int×(List Int×(Int×(Int×Int))))×Unit))=>(r.1=1/\U=none/\r.2.1=(0,(a++rs.map (·.1),(0,(0,(rs.length:Int))))))\/(r.1=0 /\ ∃ k e,U=some (k,e)/\r.2.1.1=(k:Int)/\r.2.1.2.2.1=(i:Int)/\r.2.1.2.2.2.1=e))
    (f:=λ(b:(Int×((List Int)×(Int×(Int×Int)))))=>br (SW b.2.2.2.2 (rs.length:Int)) (λ_=>RX b.2.2.2.2 λE=>ix rs E λK=>bd (VF (L.1,(i:Int))) λI=>bd (Vf ((K,(I,b.2.1)))) λy=>br (RT y 0) (λ_=>some (.dn ((0,((b.2.2.2.2,(b.2.1,((i:Int),(y,b.2.2.2.2)))),()))))) λ_=>RX b.2.2.2.2 λF=>ix rs F λz=>gd (CD (BD b.2.1.length [z.1].length) 1048576) λ_=>some (.nx ((b.1,(Ik b.2.1 [z.1],(b.2.2.1,(b.2.2.2.1,Rl .i64 b.2.2.2.2 1))))))) λ_=>some (.dn ((1,(b,())))))
    () (by simp) (by omega) (by simp [O]) (λ_ h=>by
     refine ⟨_,by simp only;rw [re];rfl,.inl ⟨rfl,by rw [<- h];rfl,by simp⟩⟩) (λk r m _ Z d hk h=>by
     simp only;have hr2:=u r (List.mem_of_getElem? d);have w:(rs.take (k+1)).map (·.1)=(rs.take k).map (·.1)++[r.1]:=by rw [List.take_add_one,d];simp
     have W:(a++(rs.take k).map (·.1)).length<=100:=by simp;omega
     rw [rl hk,R5,S9,Sb d,bo (by omega) (by omega) (by omega),SL,gS _ _ _ (by omega) (by omega),SL,Ss];unfold YU at h;by_cases A:kR (a++(rs.take k).map (·.1)) (UY L.1 i) r=0
     ·rw [if_neg (λhh:kR (a++(rs.take k).map (·.1)) (UY L.1 i) r≠0=>hh A)] at h;rw [if_pos A,S9,Sb d,Te (by simp only [BD,List.length_cons,List.length_nil];omega)];refine .inl ⟨(),?_,?_⟩
      ·rw [TL d (by omega),w,<- List.append_assoc];rfl
      ·rw [w,<- List.append_assoc];exact h
     ·rw [if_pos A] at h;rw [if_neg A]
      exact .inr ⟨_,rfl,.inr ⟨rfl,_,_,h.symm,rfl,rfl,rfl⟩⟩)
   rw [G,SL,SM];rcases j with ⟨j,g,x⟩ | ⟨j,k,e,g,x,q5,q6⟩
   ·rw [if_neg (show ¬ r.1=0 by omega),x,TL d (by omega)];rw [g] at h;exact .inl ⟨a++rs.map (·.1),rfl,h,by simp;omega⟩
   ·rw [if_pos j];rw [g] at h;refine .inr ⟨_,rfl,.inr ⟨rfl,?_,by rw [<- h];simp⟩⟩;rw [<- h]
    exact ⟨x,q5,q6⟩)
 refine TZ G ?_;rw [SM];rcases j with ⟨j,g⟩ | ⟨j,g,x⟩
 ·rw [if_neg (show ¬ r.1=0 by omega),g];exact p g
 ·rw [if_pos j];cases q:T with
  | none=>exact absurd q x
  | some t =>
   obtain ⟨i,k,e⟩:=t;rw [q] at g;rw [g.1,g.2.1,g.2.2]
def Tp (ls:List (List TY)):List TY:=ls.flatMap List.reverse
theorem VLev.small {L:TB} (v:VLev L):L.2.length<=1048576 /\ ∀ rs∈L.2,rs.length<=1048576 /\ ∀ r∈rs,r.2.length<=9223372036854775807:=by
 refine ⟨by have:=v.len;omega,λrs a => ?_⟩;obtain ⟨i,hi⟩:=List.getElem?_of_mem a;obtain ⟨d,b⟩:=v.lev i rs hi;exact ⟨by omega,λr c=>by have:=(b r c).vl.len;omega⟩
theorem XV : ∀ (ls:List (List TY)),(∀ rs∈ls,rs.length<=2)->(Tp ls).length<=2*ls.length
 | [],_=>by simp [Tp]
 | rs::ls,h=>by
  have a:=XV ls λr b=>h r (by simp [b]);have c:=h rs (by simp);unfold Tp at a ⊢;rw [List.flatMap_cons,List.length_append,List.length_reverse,List.length_cons];omega
theorem VLev.two {L:TB} (v:VLev L) : ∀ rs∈L.2,rs.length<=2:=λrs a=>by
 obtain ⟨i,hi⟩:=List.getElem?_of_mem a;exact (v.lev i rs hi).1
theorem Zw {L:TB} (v:VLev L):VW L=some (Tp L.2,0):=by
 obtain ⟨d,b⟩:=v.small;have f:=v.len;unfold VW;simp only [TH,TF];rw [ap _ d b,Wx v,SL,Ss,if_pos rfl]
 rw [Ub (l:=L.2) (σ:=List TY) (s:=(([]:List TY),(0:Int))) (λi m=>(m,(i:Int))) (λls i m=>(∀ rs∈ls,rs.length<=2)/\m.length<=2*i) (λls _ m=>(0,((m++Tp ls,(L.2.length:Int)),()))) [] rfl (by omega) ⟨v.two,by simp⟩ (λm _=>by
  simp only;rw [re,Rd];simp [Tp]) (λi rs ls m e a hi h=>by
   refine ⟨m++rs.reverse,?_,⟨λr b=>h.1 r (by simp [b]),by have:=h.1 rs (by simp);simp;omega⟩,by simp [Tp]⟩;have c:=h.1 rs (by simp);have g:m.length<=24:=by have:=h.2;omega
   simp only;rw [rl hi,R5,S9,Sb a];have gg : ∀ {β:Type} (z:List TY) (x:TY) (k:Unit->Option β),z.length<=100->gd (CD (BD z.length [x].length) 1048576) k=k ():=λz x k j=>Te (by simp only [BD,List.length_cons,List.length_nil];omega) k
   match rs,c,a with
   | [],_,a =>
    refine TZ (x:=(0,((m,-1),()))) (Ui (n:=1) (by omega) (Tq rfl)) ?_;rw [TL a (by omega)];simp
   | [r0],_,a =>
    refine TZ (x:=(0,((m++[r0],-1),()))) (Ui (n:=2) (by omega) ((Th (s':=(m++[r0],-1)) ?_).trans (Tq rfl))) ?_
    ·show br (RS (0:Int) 0) _ _=_;rw [So,if_pos (by omega),S9,Sb a];refine (V3 0 rfl (x:=r0) rfl).trans ?_;rw [gg m _ _ (by omega)];rfl
    ·rw [TL a (by omega)];simp
   | [r0,r1],_,a =>
    refine TZ (x:=(0,((m++[r1]++[r0],-1),()))) (Ui (n:=3) (by omega) ((Th (s':=(m++[r1],0)) ?_).trans ((Th (s':=(m++[r1]++[r0],-1)) ?_).trans (Tq rfl)))) ?_
    ·show br (RS (1:Int) 0) _ _=_;rw [So,if_pos (by omega),S9,Sb a];refine (V3 1 rfl (x:=r1) rfl).trans ?_;rw [gg m _ _ (by omega)];rfl
    ·show br (RS (0:Int) 0) _ _=_;rw [So,if_pos (by omega),S9,Sb a];refine (V3 0 rfl (x:=r0) rfl).trans ?_;rw [gg (m++[r1]) _ _ (by simp;omega)];rfl
    ·rw [TL a (by omega)];simp),SL]
 simp
theorem Wu (a b:Int):S0 a b=max a b:=by unfold S0;split<;>omega
theorem WL : ∀ (l:List TY) (m:Int),0<=m->l.foldl (λm r=>S0 m r.1) m=max m (l.foldl (λm r=>S0 m r.1) 0)
 | [],m,h=>by simp;omega
 | r::l,m,h=>by
  have a:=WL l (S0 m r.1) (by rw [Wu];omega);have b:=WL l (S0 0 r.1) (by rw [Wu];omega);simp only [List.foldl_cons];rw [a,b,Wu,Wu];omega
theorem Z6 (l:List TY) (m:Int) (h:0<=m):l.reverse.foldl (λm r=>S0 m r.1) m=l.foldl (λm r=>S0 m r.1) m:=by
 induction l generalizing m with
 | nil=>rfl
 | cons r l a =>
  rw [List.reverse_cons,List.foldl_append,a m h,List.foldl_cons];simp only [List.foldl_cons,List.foldl_nil];rw [WL l m h,WL l (S0 m r.1) (by rw [Wu];omega),Wu,Wu];omega
theorem ad (l:List TY) (m:Int) (h:0<=m):0<=l.foldl (λm r=>S0 m r.1) m:=by
 rw [WL l m h];omega
theorem X6 : ∀ (ls:List (List TY)) (m:Int),0<=m->(Tp ls).foldl (λm r=>S0 m r.1) m=ls.foldl (λm rs=>rs.foldl (λm r=>S0 m r.1) m) m
 | [],m,_=>rfl
 | rs::ls,m,h=>by
  have a:=X6 ls (rs.foldl (λm r=>S0 m r.1) m) (ad _ _ h);unfold Tp at a ⊢;rw [List.flatMap_cons,List.foldl_append,Z6 rs m h,List.foldl_cons,a]
theorem ao {L:TB} (v:VLev L):Uc L=some (WC L.2):=by
 have d:=v.len;have e:=XV L.2 v.two;unfold Uc;simp only [TH,TF];rw [Zw v,SL]
 rw [Ub (l:=Tp L.2) (σ:=Int) (s:=((0:Int),(0:Int))) (λi m=>(m,(i:Int))) (λ_ _ _=>True) (λl _ m=>(0,((l.foldl (λm r=>S0 m r.1) m,((Tp L.2).length:Int)),()))) 0 rfl (by omega) trivial (λm _=>by
  simp only;rw [re,Rd];rfl) (λk r l m c a b _=>⟨S0 m r.1,by
   simp only
   rw [rl b,R5,S9,Sb a,TL a (by omega)],trivial,rfl⟩),SL]
 rw [X6 _ _ (by omega)];rfl
theorem ZW {L:TB} (e:L.2.length<=1000):UE L=some (TJ 0 L.2):=by
 unfold UE;simp only [TH,TF]
 rw [Ub (l:=L.2) (σ:=List Int) (s:=(([]:List Int),(0:Int))) (λi m=>(m,(i:Int))) (λls i m=>m++TJ i ls=TJ 0 L.2) (λ_ _ _=>(0,((TJ 0 L.2,(L.2.length:Int)),()))) [] rfl (by omega) rfl (λm h=>by
  simp only;rw [re,Rd,<- h];simp [TJ]) (λi rs ls m d b hi h=>by
   refine ⟨m++(if rs.length=2 then [(i:Int)] else []),?_,?_,rfl⟩
   ·simp only;rw [rl hi,R5,S9,Sb b,Sn]
    have f:m.length<=1000:=by
     have a:=congrArg List.length h;have c:=VV L.2 0;rw [List.length_append] at a;omega
    by_cases a:rs.length=2
    ·rw [if_pos (by omega),if_pos a,Te (by simp only [BD,List.length_cons,List.length_nil];omega),TL b (by omega)];rfl
    ·rw [if_neg (by omega),if_neg a,List.append_nil,TL b (by omega)]
   ·rw [List.append_assoc];exact h),SL]
theorem mo {L:TB} (v:VLev L) (k:Int):XP (L,k)=some (if k<0\/k>=12 then 7 else 0):=by
 obtain ⟨c,d⟩:=v.small;unfold XP;rw [ap _ c d,Wx v,SL,Sn,if_pos rfl,Sr,So];by_cases a:k<0
 ·rw [if_pos a,if_pos (.inl a)]
 ·rw [if_neg a];by_cases b:k>=12
  ·rw [if_pos b,if_pos (.inr b)]
  ·rw [if_neg b,if_neg (by omega)]
theorem Zv {L:TB} (v:VLev L) {n:Nat} (b:n<L.2.length):Tn (L,(n:Int))=some (decide ((n:Int)=(L.2.length:Int)-1)):=by
 have a:=v.len;unfold Tn W5;simp only [TH,TF];rw [mo v,SL,if_neg (by omega),Ss,if_pos rfl,SL,TI (by omega)];unfold SU;rw [Uq];by_cases h:(n:Int)=(L.2.length:Int)-1
 ·simp [h]
 ·simp [h];omega
theorem cW {a b:List S8} (va:VL a) (d:VL b) (c:Bool):WS ([a,b],c)=some (U9 a b c 0,(0,0)):=by
 unfold WS W4 U0;rw [Yi va d,SL,Ss,if_pos rfl];refine Eq.trans (b:=bd (bd (Uz ([a,b],[((0:Nat):Int),((0:Nat):Int)])) _) _) rfl ?_;rw [X2 va d (Nat.zero_le _) (Nat.zero_le _)];rfl
theorem aQ {L:TB} {n:Nat} {a b:TY} (c:Bool) (h:L.2[n]? = some [a,b]) (d:VL a.2) (e:VL b.2):TT (L,((n:Int),c))=some ((n:Int),U9 b.2 a.2 c 0):=by
 have f:=(List.getElem?_eq_some_iff.1 h).1;unfold TT;simp only [TH,TF];rw [So,if_neg (by omega),S9,Sb h,Sb (x:=b) rfl,Sb (x:=a) rfl,cW e d];rfl
theorem mA {L:TB} {n:Nat} {a b:TY} {j:Job} (h:L.2[n]? = some [a,b]) (e:VL a.2) (f:VL b.2) {β:Type} (A B:Option β) :
  (bd (TT (L,((n:Int),j.2.2.1.2.2))) λc=>bd (Ti c.2) λl=>br (SW j.2.2.2.2 0) (λ_=>A) λ_=>br (SU j.2.2.2.2 l.1) (λ_=>A) λ_=>bd (Ta (c.2,j.2.2.2.2)) λm=>bd (Tz (m.1,j.2)) λo=>br (Hf o) (λ_=>A) λ_=>B)
  = if j.2.2.2.2<0\/j.2.2.2.2>((b.2.length+a.2.length:Nat):Int) then A else if U9 b.2 a.2 j.2.2.1.2.2 j.2.2.2.2.toNat=j.2 then B else A:=by
 rw [aQ _ h e f,SL,Yj f e _ (Nat.zero_le _),SL,Sr,Sp,Nat.sub_zero];by_cases g:j.2.2.2.2<0
 ·rw [if_pos g,if_pos (.inl g)]
 rw [if_neg g];by_cases i:j.2.2.2.2>((b.2.length+a.2.length:Nat):Int)
 ·rw [if_pos i,if_pos (.inr i)]
 rw [if_neg i,if_neg (show ¬ (j.2.2.2.2<0\/j.2.2.2.2>((b.2.length+a.2.length:Nat):Int)) by omega)];obtain ⟨k,p⟩ : ∃ k:Nat,j.2.2.2.2=(k:Int):=⟨j.2.2.2.2.toNat,by omega⟩;rw [p,Zx f e _ (Nat.zero_le _),SL,Nat.sub_zero,Nat.zero_add,Nat.min_eq_left (by omega),Int.toNat_natCast];obtain ⟨s1,s2,q,r,s,t⟩:=Z9 f e j.2.2.1.2.2 (n:=k) (by omega);rw [cY _ _ s1 s2 q r s t,SL,Uq,Uv];by_cases d:U9 b.2 a.2 j.2.2.1.2.2 k=j.2
 ·rw [if_neg (by simp [d]),if_pos d]
 ·rw [if_pos d,if_neg d]
end
section
open Go Go.Proofs.YtfilfloanndddaaGreat.Sv
theorem bh (s:TA) (J:s.1.2.length<=1048576) (hr : ∀ rs∈s.1.2,rs.length<=1048576 /\ ∀ r∈rs,r.2.length<=9223372036854775807) (hj:s.2.1.length<=1048576):U1 s=some (TE s):=by
 unfold U1 TE;simp only [TH,TF];rw [ap _ J hr,SL,Sn];by_cases o:(Vs s.1).2.2=0;rotate_left
 ·rw [if_neg o,if_pos o,Sn,if_neg o,Ss,if_neg o]
 rw [if_pos o,if_neg (show ¬ (Vs s.1).2.2≠0 by simp [o]),Sr,Sp];have v:=XE.1 o;by_cases y:s.2.2<1
 ·rw [if_pos y,if_pos (.inl y)]
 rw [if_neg y];by_cases p:s.2.2>1000001
 ·rw [if_pos p,if_pos (.inr p)]
 rw [if_neg p,if_neg (show ¬ (s.2.2<1\/s.2.2>1000001) by omega),Sn,if_pos o,ao v,SL,Sq];by_cases m:s.2.2<=WC s.1.2
 ·rw [if_pos m,if_pos m]
 rw [if_neg m,if_neg m,Ss,if_pos o,ZW (by have:=v.len;omega),SL];obtain ⟨a,g⟩ : ∃ a,a=TJ 0 s.1.2:=⟨_,rfl⟩;have hdl:a.length<=12:=by have:=VV s.1.2 0;have:=v.len;rw [g];omega
 rw [<- g];obtain ⟨T,Z⟩ : ∃ T,T=WJ s.1 a 0 s.2.1:=⟨_,rfl⟩;rw [<- Z]
 obtain ⟨r,q1,D⟩:=WK (l:=s.2.1) (σ:=Unit) (λi _=>((0:Int),((0:Int),(i:Int)))) (λjs i _=>WJ s.1 a i js=T) (λ(r:Nat×((Int×(Int×Int))×Unit))=>(T=none/\r.1=1)\/(∃ i:Nat,T=some i/\r.1=0/\r.2.1.1=6/\r.2.1.2.1=(i:Int)))
  (f:=λb=>br (SW b.2.2 (s.2.1.length:Int)) (λ_=>RX b.2.2 λk7=>ix s.2.1 k7 λe=>br (RS b.2.2 (a.length:Int)) (λ_=>some (.dn ((0,((6,(b.2.2,b.2.2)),()))))) λ_=>RX b.2.2 λk9=>ix a k9 λX=>br (RT e.1 X) (λ_=>some (.dn ((0,((6,(b.2.2,b.2.2)),()))))) λ_=>br e.2.2.1.2.2 (λ_=>bd (Tn (s.1,e.1)) λM=>br (Hf M) (λ_=>some (.dn ((0,((6,(b.2.2,b.2.2)),()))))) λ_=>bd (TT ((s.1,(e.1,e.2.2.1.2.2)))) λG=>bd (Ti G.2) λN=>br (SW e.2.2.2.2 0) (λ_=>some (.dn ((0,((6,(b.2.2,b.2.2)),()))))) λ_=>br (SU e.2.2.2.2 N.1) (λ_=>some (.dn ((0,((6,(b.2.2,b.2.2)),()))))) λ_=>bd (Ta (G.2,e.2.2.2.2)) λO=>bd (Tz (O.1,e.2)) λP=>br (Hf P) (λ_=>some (.dn ((0,((6,(b.2.2,b.2.2)),()))))) λ_=>some (.nx ((b.1,(b.2.1,Rl .i64 b.2.2 1))))) λ_=>bd (TT ((s.1,(e.1,e.2.2.1.2.2)))) λI=>bd (Ti I.2) λS=>br (SW e.2.2.2.2 0) (λ_=>some (.dn ((0,((6,(b.2.2,b.2.2)),()))))) λ_=>br (SU e.2.2.2.2 S.1) (λ_=>some (.dn ((0,((6,(b.2.2,b.2.2)),()))))) λ_=>bd (Ta (I.2,e.2.2.2.2)) λU=>bd (Tz (U.1,e.2)) λW=>br (Hf W) (λ_=>some (.dn ((0,((6,(b.2.2,b.2.2)),()))))) λ_=>some (.nx ((b.1,(b.2.1,Rl .i64 b.2.2 1))))) λ_=>some (.dn ((1,(b,())))))
  (s:=(0,(0,0))) () rfl (by omega) Z.symm (λ_ h=>by
   refine ⟨_,by simp only;rw [re];rfl,.inl ⟨by rw [<- h];rfl,rfl⟩⟩) (λi j js _ hd hx hi h=>by
   simp only;rw [rl hi,R5,S9,Sb hx,So];unfold WJ at h
   have c:YR s.1 a i j=true -> ∃ r:Nat×((Int×(Int×Int))×Unit),(some (LR.dn ((0,((6,((i:Int),(i:Int))),()))):LR (Int×(Int×Int)) _))=some (.dn r)/\((T=none/\r.1=1)\/(∃ i:Nat,T=some i/\r.1=0/\r.2.1.1=6/\r.2.1.2.1=(i:Int))):=λJ=>by
    rw [if_pos J] at h;exact ⟨_,rfl,.inr ⟨i,h.symm,rfl,rfl,rfl⟩⟩
   have x:YR s.1 a i j=false -> ∃ st':Unit,(some (LR.nx ((0:Int),((0:Int),Rl .i64 (i:Int) 1))):Option (LR _ (Nat×((Int×(Int×Int))×Unit))))=some (.nx ((0:Int),((0:Int),((i+1:Nat):Int))))/\WJ s.1 a (i+1) js=T:=λhg=>by
    rw [if_neg (by simp [hg])] at h;exact ⟨(),by rw [TL hx (by omega)],h⟩
   by_cases y:(i:Int)>=(a.length:Int)
   ·rw [if_pos y];exact .inr (c (by unfold YR;rw [List.getElem?_eq_none (by omega)]))
   rw [if_neg y,S9];have w:a[i]? = some (a[i]'(by omega)):=by simp
   rw [Sb w,Ss];obtain ⟨n,K,E,F,t⟩:=XI (ls:=s.1.2) (i:=0) (k:=i) (d:=a[i]'(by omega)) (by rw [<- g];exact w);rw [Nat.zero_add] at K
   have q:YR s.1 a i j=(if j.1≠(a[i]'(by omega)) then true else if j.2.2.1.2.2=true/\j.1≠(s.1.2.length:Int)-1 then true else if j.2.2.2.2<0\/j.2.2.2.2>((F.2.length+E.2.length:Nat):Int) then true else decide (U9 F.2 E.2 j.2.2.1.2.2 j.2.2.2.2.toNat≠j.2)):=by
    unfold YR;rw [w];simp only;rw [K,Int.toNat_natCast,t]
   by_cases p:j.1=(a[i]'(by omega));rotate_left
   ·rw [if_neg p];exact .inr (c (by rw [q,if_pos p]))
   rw [if_pos p];rw [if_neg (by simp [p])] at q;have C:j.1=(n:Int):=by rw [p,K]
   have hv:=(v.lev n _ t).2;have v0:=(hv E (by simp)).vl;have v1:=(hv F (by simp)).vl;have L:=(List.getElem?_eq_some_iff.1 t).1;rw [C,Zv v L,SL,Uq,Uv,mA t v0 v1,Sx];rw [C] at q;by_cases m:j.2.2.1.2.2=true/\(n:Int)≠(s.1.2.length:Int)-1
   ·rw [if_pos m.1,if_pos m.2];exact .inr (c (by rw [q,if_pos m]))
   rw [if_neg m] at q
   have h4 : ∀ {γ:Type} (A B:γ),(if j.2.2.1.2.2=true then if ¬(n:Int)=(s.1.2.length:Int)-1 then A else B else B)=B:=by
    intro γ A B;by_cases u:j.2.2.1.2.2=true
    ·rw [if_pos u,if_neg (λz=>m ⟨u,z⟩)]
    ·rw [if_neg u]
   rw [h4];by_cases u:j.2.2.2.2<0\/j.2.2.2.2>((F.2.length+E.2.length:Nat):Int)
   ·rw [if_pos u];exact .inr (c (by rw [q,if_pos u]))
   rw [if_neg u];rw [if_neg u] at q;by_cases z:U9 F.2 E.2 j.2.2.1.2.2 j.2.2.2.2.toNat=j.2
   ·rw [if_pos z];exact .inl (x (by rw [q];simp [z]))
   ·rw [if_neg z]
    exact .inr (c (by rw [q];simp [z])))
 refine TZ q1 ?_;rw [SM];rcases D with ⟨D,q3⟩ | ⟨i,D,q3,q4,q5⟩
 ·rw [if_neg (show ¬ r.1=0 by omega),D,Sr];simp only;by_cases Y:s.2.1.length<a.length
  ·rw [if_pos (by omega),if_pos Y]
  ·rw [if_neg (by omega),if_neg Y]
 ·rw [if_pos q3,D,q4,q5]
end
section
open Go Go.Proofs.YtfilfloanndddaaGreat.Sv
def JobAt (L:TB) (n:Nat) (j:Job):Prop := ∃ a b c k,L.2[n]? = some [a,b]/\j=((n:Int),U9 b.2 a.2 c k)/\k<=b.2.length+a.2.length/\(c=true->n+1=L.2.length)/\VL a.2/\VL b.2
structure VSt (s:TA):Prop where
 lev:VLev s.1
 n1:1<=s.2.2
 n2:s.2.2<=1000001
 n3:WC s.1.2<s.2.2
 due:s.2.1.map (·.1)=TJ 0 s.1.2
 job : ∀ j∈s.2.1,∃ n,JobAt s.1 n j
theorem ZZ (a b:List S8) (c:Bool) (k:Nat):(U9 a b c k).2.1.2.2=c:=by
 show (Ud (s0 c) (TU a b k)).2.2=c;rw [Ww]
theorem Zi {L:TB} (v:VLev L) {i:Nat} {j:Job}:YR L (TJ 0 L.2) i j=false <-> ∃ n,(TJ 0 L.2)[i]? = some j.1/\JobAt L n j:=by
 constructor
 ·intro h;unfold YR at h;cases c:(TJ 0 L.2)[i]? with
  | none=>rw [c] at h;cases h
  | some d =>
   rw [c] at h;simp only at h;by_cases f:j.1=d;rotate_left
   ·rw [if_pos f] at h;cases h
   rw [if_neg (by simp [f])] at h;by_cases g:j.2.2.1.2.2=true/\j.1≠(L.2.length:Int)-1
   ·rw [if_pos g] at h;cases h
   rw [if_neg g] at h;obtain ⟨n,m,a,b,e⟩:=XI c;rw [Nat.zero_add] at m;rw [m,Int.toNat_natCast,e] at h;simp only at h;by_cases p:j.2.2.2.2<0\/j.2.2.2.2>((b.2.length+a.2.length:Nat):Int)
   ·rw [if_pos p] at h;cases h
   rw [if_neg p] at h;have s:U9 b.2 a.2 j.2.2.1.2.2 j.2.2.2.2.toNat=j.2:=by simpa using h
   have r:=(v.lev n _ e).2;refine ⟨n,by rw [f],a,b,j.2.2.1.2.2,j.2.2.2.2.toNat,e,Prod.ext (by rw [f,m]) s.symm,by omega,λl => ?_,(r a (by simp)).vl,(r b (by simp)).vl⟩
   have t:j.1=(L.2.length:Int)-1:=by
    by_cases q:j.1=(L.2.length:Int)-1
    ·exact q
    ·exact absurd ⟨l,q⟩ g
   omega
 ·rintro ⟨n,c,a,b,o,k,e,rfl,u,l,w,x⟩;unfold YR;rw [c];simp only;rw [if_neg (by simp),ZZ,if_neg (λh:o=true/\(n:Int)≠(L.2.length:Int)-1=>h.2 (by have:=l h.1;omega)),Int.toNat_natCast,e];simp only;rw [show (U9 b.2 a.2 o k).2.2.2=(k:Int) from rfl,if_neg (by omega),Int.toNat_natCast];simp
theorem YC {L:TB} {a:List Int} : ∀ {js:List Job} {i:Nat},WJ L a i js=none <-> ∀ k j,js[k]? = some j->YR L a (i+k) j=false
 | [],i=>by simp [WJ]
 | j::js,i=>by
  unfold WJ;by_cases h:YR L a i j=true
  ·rw [if_pos h];simp only [reduceCtorEq,false_iff];intro b;have:=b 0 j rfl;rw [Nat.add_zero,h] at this;cases this
  ·rw [if_neg h,YC (js:=js)];constructor
   ·intro b k j' c;cases k with
    | zero=>cases c;simpa using h
    | succ k=>rw [show i+(k+1)=i+1+k by omega];exact b k j' c
   ·intro b k j' c;rw [show i+1+k=i+(k+1) by omega];exact b (k+1) j' c
theorem TS {s:TA}:(TE s).2=0<->VSt s:=by
 unfold TE;constructor
 ·intro h;by_cases d:(Vs s.1).2.2≠0
  ·rw [if_pos d] at h;exact absurd h d
  rw [if_neg d] at h;have v:=XE.1 (Decidable.not_not.1 d);by_cases f:s.2.2<1\/s.2.2>1000001
  ·rw [if_pos f] at h;cases h
  rw [if_neg f] at h;by_cases g:s.2.2<=WC s.1.2
  ·rw [if_pos g] at h;cases h
  rw [if_neg g] at h;cases b:WJ s.1 (TJ 0 s.1.2) 0 s.2.1 with
  | some i=>rw [b] at h;cases h
  | none =>
   rw [b] at h;simp only at h;by_cases l:s.2.1.length<(TJ 0 s.1.2).length
   ·rw [if_pos l] at h;cases h
   have m:=YC.1 b
   have c : ∀ k j,s.2.1[k]? = some j -> ∃ n,(TJ 0 s.1.2)[k]? = some j.1/\JobAt s.1 n j:=λk j a=>by
    have:=m k j a;rw [Nat.zero_add] at this;exact (Zi v).1 this
   refine ⟨v,by omega,by omega,by omega,?_,λj o => ?_⟩
   ·apply List.ext_getElem?;intro k;rw [List.getElem?_map];cases a:s.2.1[k]? with
    | some j=>obtain ⟨n,e,_⟩:=c k j a;rw [e];rfl
    | none =>
     have:=List.getElem?_eq_none_iff.1 a;rw [List.getElem?_eq_none (by omega)];rfl
   ·obtain ⟨k,a⟩:=List.getElem?_of_mem o;obtain ⟨n,_,h⟩:=c k j a;exact ⟨n,h⟩
 ·intro v;rw [if_neg (by simp [XE.2 v.lev]),if_neg (by have:=v.n1;have:=v.n2;omega),if_neg (by have:=v.n3;omega)]
  have b:WJ s.1 (TJ 0 s.1.2) 0 s.2.1=none:=YC.2 λk j a=>by
   rw [Nat.zero_add];obtain ⟨n,p⟩:=v.job j (List.mem_of_getElem? a);exact (Zi v.lev).2 ⟨n,by rw [<- v.due,List.getElem?_map,a];rfl,p⟩
  rw [b];simp only;rw [if_neg (by rw [<- v.due];simp)]
theorem ai {s:TA} (v:VSt s):TE s=(0,0):=by
 have h:=TS.2 v;unfold TE at h ⊢;rw [if_neg (by simp [XE.2 v.lev]),if_neg (by have:=v.n1;have:=v.n2;omega),if_neg (by have:=v.n3;omega)] at h ⊢;cases b:WJ s.1 (TJ 0 s.1.2) 0 s.2.1 with
 | some i=>rw [b] at h;cases h
 | none =>
  rw [b] at h;simp only at h ⊢;by_cases a:s.2.1.length<(TJ 0 s.1.2).length
  ·rw [if_pos a] at h;cases h
  ·rw [if_neg a]
structure Sm (s:TA):Prop where
 lv:s.1.2.length<=1048576
 rs : ∀ rs∈s.1.2,rs.length<=1048576 /\ ∀ r∈rs,r.2.length<=9223372036854775807
 js:s.2.1.length<=1048576
theorem oX {s:TA} (m:Sm s):UP s=some (TE s):=cL s m.lv m.rs m.js
theorem ml {s:TA} (m:Sm s):U1 s=some (TE s):=bh s m.lv m.rs m.js
theorem VSt.jlen {s:TA} (v:VSt s):s.2.1.length=(TJ 0 s.1.2).length:=by rw [<- v.due];simp
theorem VSt.jsmall {s:TA} (v:VSt s):s.2.1.length<=12:=by
 have:=v.jlen;have:=VV s.1.2 0;have:=v.lev.len;omega
theorem VSt.sm {s:TA} (v:VSt s):Sm s:=⟨v.lev.small.1,v.lev.small.2,by have:=v.jsmall;omega⟩
def Yu (x:Int):Nat->List Int->Option Nat
 | _,[]=>none
 | k,y::l=>if y=x then some k else Yu x (k+1) l
theorem cI {x:Int} : ∀ {l:List Int} {k i:Nat},Yu x k l=some i->k<=i/\l[i-k]? = some x
 | [],_,_,h=>by cases h
 | y::l,k,i,h=>by
  unfold Yu at h;by_cases e:y=x
  ·rw [if_pos e] at h;cases h;simp [e]
  ·rw [if_neg e] at h;obtain ⟨b,a⟩:=cI h;exact ⟨by omega,by rw [show i-k=(i-(k+1))+1 by omega];simpa using a⟩
theorem ac {x:Int} : ∀ {l:List Int} {k:Nat},x∈l -> ∃ i,Yu x k l=some i
 | [],_,h=>by cases h
 | y::l,k,h=>by
  unfold Yu;by_cases e:y=x
  ·rw [if_pos e];exact ⟨k,rfl⟩
  ·rw [if_neg e];exact ac (by rcases List.mem_cons.1 h with h | h;exact absurd h.symm e;exact h)
def Xf (s:TA) (a:Int):Int×Int:=if (TE s).2≠0 then (0,(TE s).2) else match Yu a 0 (TJ 0 s.1.2) with
 | some i=>((i:Int),0)
 | none=>(0,4)
theorem da {s:TA} (m:Sm s) (a:Int):Vb (s,a)=some (Xf s a):=by
 unfold Vb Xf;simp only [TH,TF];rw [oX m,SL,Ss];by_cases b:(TE s).2=0;rotate_left
 ·rw [if_neg b,if_pos b]
 rw [if_pos b,if_neg (show ¬ (TE s).2≠0 by simp [b])];have v:=TS.1 b;have x:=v.jsmall;rw [<- v.due];obtain ⟨T,g⟩ : ∃ T,T=Yu a 0 (s.2.1.map (·.1)):=⟨_,rfl⟩;rw [<- g]
 obtain ⟨r,q,c⟩:=WK (l:=s.2.1) (σ:=Unit) (s:=((0:Int),(0:Int))) (λk _=>((0:Int),(k:Int))) (λjs k _=>Yu a k (js.map (·.1))=T) (λ(r:Nat×((Int×Int)×Unit))=>(r.1=1/\T=none)\/(r.1=0 /\ ∃ i:Nat,T=some i/\r.2.1.1=(i:Int)))
  (f:=λs1=>br (SW s1.2 (s.2.1.length:Int)) (λ_=>RX s1.2 λp=>ix s.2.1 p λu=>br (RR u.1 a) (λ_=>some (.dn ((0,((s1.2,s1.2),()))))) λ_=>some (.nx (s1.1,Rl .i64 s1.2 1))) λ_=>some (.dn ((1,(s1,())))))
  () rfl (by omega) g.symm (λ_ h=>⟨_,by simp only;rw [re];rfl,.inl ⟨rfl,by rw [<- h];rfl⟩⟩) (λk j js _ w n o h=>by
   simp only;rw [rl o,R5,S9,Sb n,Sn];unfold Yu at h;simp only [List.map_cons] at h;by_cases e:j.1=a
   ·rw [if_pos e];rw [if_pos e] at h;exact .inr ⟨_,rfl,.inr ⟨rfl,k,h.symm,rfl⟩⟩
   ·rw [if_neg e];rw [if_neg e] at h
    exact .inl ⟨(),by rw [TL n (by omega)],h⟩)
 refine TZ q ?_;rw [SM];rcases c with ⟨c,d⟩ | ⟨c,i,d,t⟩
 ·rw [if_neg (show ¬ r.1=0 by omega),d];rfl
 ·rw [if_pos c,d,t,Sr,if_neg (by omega)]
theorem bj {s:TA} (m:Sm s):WW s=some (if (TE s).2≠0 then ([],(TE s).2) else (TJ 0 s.1.2,0)):=by
 unfold WW;rw [ml m,SL,Ss];by_cases a:(TE s).2=0
 ·rw [if_pos a,if_neg (show ¬ (TE s).2≠0 by simp [a]),ZW (by have:=(TS.1 a).lev.len;omega),SL]
 ·rw [if_neg a,if_pos a]
theorem YG {s:TA} (m:Sm s) (a:Int):UW (s,a)=some (Xf s a):=by
 unfold UW Xf;simp only [TH,TF];rw [bj m,SL,Ss];by_cases c:(TE s).2=0;rotate_left
 ·rw [if_pos c,if_neg c,if_pos c]
 rw [if_neg (show ¬ (TE s).2≠0 by simp [c]),if_pos rfl,if_neg (show ¬ (TE s).2≠0 by simp [c])];have v:=TS.1 c;have A:=v.jsmall;have p:=v.jlen;obtain ⟨b,d⟩ : ∃ b,b=TJ 0 s.1.2:=⟨_,rfl⟩;rw [<- d] at p ⊢;obtain ⟨T,o⟩ : ∃ T,T=Yu a 0 b:=⟨_,rfl⟩;rw [<- o];simp only
 obtain ⟨r,w,g⟩:=WK (l:=b) (σ:=Unit) (s:=((0:Int),((0:Int),(0:Int)))) (λk _=>((0:Int),((0:Int),(k:Int)))) (λjs k _=>Yu a k js=T) (λ(r:Nat×((Int×(Int×Int))×Unit))=>(r.1=1/\T=none)\/(r.1=0 /\ ∃ i:Nat,T=some i/\r.2.1.2.1=(i:Int)/\r.2.1.1=0))
  (f:=λs1=>br (SW s1.2.2 (b.length:Int)) (λ_=>RX s1.2.2 λu=>ix b u λz=>br (RR z a) (λ_=>some (.dn ((0,((0,(s1.2.2,s1.2.2)),()))))) λ_=>some (.nx ((s1.1,(s1.2.1,Rl .i64 s1.2.2 1))))) λ_=>some (.dn ((1,(s1,())))))
  () rfl (by omega) o.symm (λ_ h=>⟨_,by simp only;rw [re];rfl,.inl ⟨rfl,by rw [<- h];rfl⟩⟩) (λk j js _ p q t h=>by
   simp only;rw [rl t,R5,S9,Sb q,Sn];unfold Yu at h;by_cases e:j=a
   ·rw [if_pos e];rw [if_pos e] at h;exact .inr ⟨_,rfl,.inr ⟨rfl,k,h.symm,rfl,rfl⟩⟩
   ·rw [if_neg e];rw [if_neg e] at h
    exact .inl ⟨(),by rw [TL q (by omega)],h⟩)
 refine TZ w ?_;rw [SM];rcases g with ⟨g,n⟩ | ⟨g,i,n,x,y⟩
 ·rw [if_neg (show ¬ r.1=0 by omega),n]
 ·rw [if_pos g,n,x,y]
end
section
open Go Go.Proofs.YtfilfloanndddaaGreat.Sv
def Tb (L:TB) (j:Job):Nat:=match L.2[j.1.toNat]? with
 | some [r0,r1]=>r1.2.length+r0.2.length-j.2.2.2.2.toNat
 | _=>0
def Vg (L:TB) (j:Job):Bool:=decide ((j.2.2.2.1.length:Int)<=UY L.1 j.1.toNat)
def YX (L:TB) (n:Nat):Bool:=decide (n<12/\((L.2[n]?).getD []).length<2)
def Vq (L:TB) (j:Job):Bool:=decide (0<Tb L j)||(Vg L j||YX L (j.1.toNat+1))
def Z5 (s:TA) (a:Int):Option Job:=match Yu a 0 (TJ 0 s.1.2) with
 | some i=>s.2.1[i]?
 | none=>none
theorem VSt.at {s:TA} (v:VSt s) {a:Int} {i:Nat} (h:Yu a 0 (TJ 0 s.1.2)=some i) : ∃ (j:Job) (n:Nat),s.2.1[i]? = some j/\a=(n:Int)/\j.1=(n:Int)/\JobAt s.1 n j/\n<s.1.2.length:=by
 obtain ⟨_,b⟩:=cI h;rw [Nat.sub_zero] at b;rw [<- v.due,List.getElem?_map] at b;cases c:s.2.1[i]? with
 | none=>rw [c] at b;cases b
 | some j =>
  rw [c] at b;simp only [Option.map_some,Option.some.injEq] at b;obtain ⟨n,g⟩:=v.job j (List.mem_of_getElem? c);have d:=g;obtain ⟨o,p,m,k,l,e,_⟩:=g;have f:j.1=(n:Int):=by rw [e]
  exact ⟨j,n,rfl,by rw [<- b,f],f,d,(List.getElem?_eq_some_iff.1 l).1⟩
theorem JobAt.left {L:TB} {n:Nat} {j:Job} (h:JobAt L n j):UD j.2=some ((Tb L j:Int),0)/\Ti j.2=some ((Tb L j:Int),0)/\Tb L j<=10000:=by
 obtain ⟨b,c,a,k,i,rfl,g,_,d,f⟩:=h;have l:=d.len;have m:=f.len
 have e:Tb L ((n:Int),U9 c.2 b.2 a k)=c.2.length+b.2.length-k:=by
  unfold Tb;simp only [Int.toNat_natCast,i];show c.2.length+b.2.length-((k:Int)).toNat=_;rw [Int.toNat_natCast]
 rw [e];exact ⟨ZO f d a g,Yj f d a g,by omega⟩
theorem eO {L:TB} (v:VLev L) {n:Nat} (c:n<12):WN (L.1,(n:Int))=some (UY L.1 n,0):=by
 have a:=v.B1;have b:=v.B2;unfold WN;rw [Sr,if_neg (by omega),Sp,if_neg (by omega),Sr,if_neg (by omega),So,if_neg (by omega),ZH a b (by omega)];have:RS (n:Int) 0=true:=by unfold RS;simp
 rw [this];rfl
theorem gP {L:TB} (v:VLev L) {n:Nat} (c:n<12):Xu (L.1,(n:Int))=some (UY L.1 n,0):=by
 have a:=v.B1;have b:=v.B2;unfold Xu;rw [Sr,if_neg (by omega),Sp,if_neg (by omega),Sr,if_neg (by omega),So,if_neg (by omega),bo a b (by omega),SL]
theorem al {L:TB} (v:VLev L) (k:Int):Vx (L,k)=some (if k<0\/k>=12 then 7 else 0):=by
 obtain ⟨c,d⟩:=v.small;unfold Vx;rw [Ye _ c d,Wx v,SL,Ss,if_pos rfl,Sr,So];by_cases a:k<0
 ·rw [if_pos a,if_pos (.inl a)]
 ·rw [if_neg a];by_cases b:k>=12
  ·rw [if_pos b,if_pos (.inr b)]
  ·rw [if_neg b,if_neg (by omega)]
theorem gE (l:List TY):SW (l.length:Int) 2=decide (l.length<2):=by
 unfold SW;rw [decide_eq_decide];omega
theorem eM {L:TB} (v:VLev L) {n:Nat} (d:n<=12):WM (L,(n:Int))=some (YX L n,if n>=12 then 7 else 0):=by
 unfold WM YX;simp only [TH,TF];rw [al v,SL,Ss];by_cases h:n>=12
 ·rw [if_pos (show (n:Int)<0\/(n:Int)>=12 by omega),if_neg (by decide),if_pos h];simp;omega
 ·rw [if_neg (show ¬ ((n:Int)<0\/(n:Int)>=12) by omega),if_pos rfl,if_neg h,Sr];have a:n<12:=by omega
  by_cases c:n<L.2.length
  ·have b:L.2[n]? = some (L.2[n]'c):=by simp
   rw [if_pos (by omega),S9,Sb b,b,gE,Option.getD_some];simp [a]
  ·rw [if_neg (by omega),List.getElem?_eq_none (by omega)];simp [a]
theorem gW {s:TA} (v:VLev s.1) {n:Nat} (c:n<12):Xx (s,(n:Int))=some (YX s.1 (n+1)):=by
 unfold Xx YX;simp only [TH,TF];rw [TI (by omega),Sr];by_cases h:n+1<12
 ·rw [if_pos (by omega),So];by_cases b:n+1<s.1.2.length
  ·have a:s.1.2[n+1]? = some (s.1.2[n+1]'b):=by simp
   rw [if_neg (by omega),S9,Sb a,a,gE,Option.getD_some];simp [h]
  ·rw [if_pos (by omega),List.getElem?_eq_none (by omega)];simp [h]
 ·rw [if_neg (by omega)];simp;omega
abbrev oY:=TA×(Job×Int)
theorem Z3 {s:TA} (v:VLev s.1) {n:Nat} {j:Job} (a:j.1=(n:Int)) (b:n<12) (l:Int):Tk (s,(j,l))=some (Vg s.1 j):=by
 unfold Tk Vg;simp only [TH,TF];rw [a,eO v b,SL,Sn,if_pos rfl,Int.toNat_natCast];rfl
theorem aR {s:TA} (v:VLev s.1) {n:Nat} {j:Job} (a:j.1=(n:Int)) (b:n<12):WU (s,j)=some (Vg s.1 j):=by
 unfold WU Vg;simp only [TH,TF];rw [a,gP v b,SL,Int.toNat_natCast];rfl
theorem gT {s:TA} (v:VLev s.1) {n:Nat} {j:Job} (a:j.1=(n:Int)) (b:n<12) (l:Int):Ul (s,(j,l))=some (YX s.1 (n+1)):=by
 unfold Ul;simp only;rw [a,TI (by omega),eM v (by omega),SL,Sn];by_cases h:n+1>=12
 ·rw [if_pos h,if_neg (show ¬ (7:Int)=0 by decide)];unfold YX;simp;omega
 ·rw [if_neg h,if_pos rfl]
theorem aY {s:TA} (v:VLev s.1) {n:Nat} {j:Job} (a:j.1=(n:Int)) (b:n<12) (l:Nat) (d:l=Tb s.1 j):Tx (s,(j,(l:Int)))=some (Vq s.1 j):=by
 have c:TX (s,(j,(l:Int)))=some (decide (0<Tb s.1 j)):=by
  unfold TX SU;rw [d];simp
 have e1:=Z3 v a b (l:Int);have e2:=gT v a b (l:Int);unfold Tx Vq;rw [c,e1,e2,a,Int.toNat_natCast];simp only [SL];cases e:decide (0<Tb s.1 j) with
 | true=>exact TZ (x:=(0,((0,true),()))) (Ui (n:=1) (by omega) (Tq rfl)) rfl
 | false =>
  cases f:Vg s.1 j with
  | true=>exact TZ (x:=(0,((1,true),()))) (Ui (n:=2) (by omega) ((Th (s':=(1,false)) rfl).trans (Tq rfl))) rfl
  | false =>
   cases g:YX s.1 (n+1) with
   | true=>exact TZ (x:=(0,((2,true),()))) (Ui (n:=3) (by omega) ((Th (s':=(1,false)) rfl).trans ((Th (s':=(2,false)) rfl).trans (Tq rfl)))) rfl
   | false=>exact TZ (x:=(1,((3,false),()))) (Ui (n:=4) (by omega) ((Th (s':=(1,false)) rfl).trans ((Th (s':=(2,false)) rfl).trans ((Th (s':=(3,false)) rfl).trans (Tq rfl))))) rfl
end
section
open Go Go.Proofs.YtfilfloanndddaaGreat.Sv
def Wf {α:Type} (z:α) (f:TA->Job->α×Int) (s:TA) (a:Int):α×Int:=if (TE s).2≠0 then (z,(TE s).2) else match Z5 s a with
 | some j=>f s j
 | none=>(z,4)
def z0:oY:=(((0,[]),([],0)),((0,(([],([],([],([],0)))),((false,([],false)),([],0)))),0))
theorem az {s:TA} (m:Sm s) (a:Int):Ue (s,a)=some (Wf z0 (λs j=>((s,(j,(Tb s.1 j:Int))),0)) s a):=by
 unfold Ue;rw [da m,SL];unfold Wf Z5 Xf;by_cases b:(TE s).2=0;rotate_left
 ·rw [if_pos b,Ss,if_neg b,if_pos b];rfl
 rw [if_neg (show ¬ (TE s).2≠0 by simp [b]),if_neg (show ¬ (TE s).2≠0 by simp [b])];have v:=TS.1 b;cases e:Yu a 0 (TJ 0 s.1.2) with
 | none=>rfl
 | some i =>
  obtain ⟨j,n,c,g,f,d,h⟩:=v.at e;simp only;rw [Ss,if_pos rfl,S9,Sb c,c,(JobAt.left d).1,SL]
theorem mX {s:TA} (m:Sm s) (a:Int):W3 (s,a)=some (Wf false (λs j=>(Vq s.1 j,0)) s a):=by
 unfold W3;rw [az m,SL];unfold Wf;by_cases b:(TE s).2=0;rotate_left
 ·rw [if_pos b,Ss,if_neg b,if_pos b]
 rw [if_neg (show ¬ (TE s).2≠0 by simp [b]),if_neg (show ¬ (TE s).2≠0 by simp [b])];have v:=TS.1 b;unfold Z5;cases d:Yu a 0 (TJ 0 s.1.2) with
 | none=>rfl
 | some i =>
  obtain ⟨j,n,e,g,c,f,h⟩:=v.at d;have:=v.lev.len;simp only [e];rw [Ss,if_pos rfl,aY v.lev c (by omega) _ rfl,SL]
theorem YP {s:TA} (m:Sm s) (a:Int):VG (s,a)=some (Wf 0 (λs j=>((Tb s.1 j:Int),0)) s a):=by
 unfold VG;rw [YG m,SL];unfold Wf Z5 Xf;by_cases b:(TE s).2=0;rotate_left
 ·rw [if_pos b,Ss,if_neg b,if_pos b]
 rw [if_neg (show ¬ (TE s).2≠0 by simp [b]),if_neg (show ¬ (TE s).2≠0 by simp [b])];have v:=TS.1 b;cases e:Yu a 0 (TJ 0 s.1.2) with
 | none=>rfl
 | some i =>
  obtain ⟨j,n,c,g,f,d,h⟩:=v.at e;simp only [c];rw [Ss,if_pos rfl,S9,Sb c,(JobAt.left d).2.1,SL]
theorem an {s:TA} (m:Sm s) (a:Int):Wb (s,a)=some (Wf false (λs j=>(Vq s.1 j,0)) s a):=by
 unfold Wb;rw [YP m,SL,YG m,SL];unfold Wf;by_cases b:(TE s).2=0;rotate_left
 ·rw [if_pos b,Ss,if_neg b,if_pos b]
 rw [if_neg (show ¬ (TE s).2≠0 by simp [b]),if_neg (show ¬ (TE s).2≠0 by simp [b])];have v:=TS.1 b;unfold Z5 Xf;cases f:Yu a 0 (TJ 0 s.1.2) with
 | none=>rfl
 | some i =>
  obtain ⟨j,n,e,g,c,h,k⟩:=v.at f;have:=v.lev.len;rw [if_neg (show ¬ (TE s).2≠0 by simp [b])];simp only [e];rw [Ss,if_pos rfl,Sp,S9,Sb e,aR v.lev c (by omega),SL,g,gW v.lev (by omega),SL];unfold Vq;rw [c,Int.toNat_natCast];by_cases d:0<Tb s.1 j
  ·rw [if_pos (by omega)];simp [d]
  ·rw [if_neg (by omega)];cases Vg s.1 j<;>simp [d,R5,Rd]
def ZA (s:TA) (j:Job):Int×Int:=if 0<Tb s.1 j then (0,9) else if Vg s.1 j=true then (j.1,0) else (j.1+1,0)
theorem nD {s:TA} (m:Sm s) (a:Int):Xg (s,a)=some (Wf 0 ZA s a):=by
 unfold Xg;rw [az m,SL];unfold Wf;by_cases b:(TE s).2=0;rotate_left
 ·rw [if_pos b,Ss,if_neg b,if_pos b]
 rw [if_neg (show ¬ (TE s).2≠0 by simp [b]),if_neg (show ¬ (TE s).2≠0 by simp [b])];have v:=TS.1 b;unfold Z5;cases f:Yu a 0 (TJ 0 s.1.2) with
 | none=>rfl
 | some i =>
  obtain ⟨j,n,g,h,c,k,l⟩:=v.at f;have:=v.lev.len;simp only [g];unfold TX ZA;rw [Ss,if_pos rfl,SL,Sp,Z3 v.lev c (by omega),SL,h,TI (by omega),c];by_cases e:0<Tb s.1 j
  ·rw [if_pos (show ((Tb s.1 j:Int))>0 by omega),if_pos e]
  ·rw [if_neg (show ¬ ((Tb s.1 j:Int))>0 by omega),if_neg e,Sx];by_cases d:Vg s.1 j=true
   ·rw [if_pos d,if_pos d]
   ·rw [if_neg d,if_neg d];rfl
theorem cV {s:TA} (m:Sm s) (a:Int):XQ (s,a)=some (Wf 0 ZA s a):=by
 unfold XQ;rw [YP m,SL,YG m];unfold Wf;by_cases b:(TE s).2=0;rotate_left
 ·rw [if_pos b,Sn,if_neg b,Ss,if_neg b,if_pos b]
 rw [if_neg (show ¬ (TE s).2≠0 by simp [b]),if_neg (show ¬ (TE s).2≠0 by simp [b])];have v:=TS.1 b;unfold Z5 Xf;cases g:Yu a 0 (TJ 0 s.1.2) with
 | none=>rfl
 | some i =>
  obtain ⟨j,n,f,h,c,k,l⟩:=v.at g;have:=v.lev.len;rw [if_neg (show ¬ (TE s).2≠0 by simp [b])];simp only [f];unfold ZA;rw [Sn,if_pos rfl,Sp];by_cases e:0<Tb s.1 j
  ·rw [if_pos (show ((Tb s.1 j:Int))>0 by omega),if_pos e]
  ·rw [if_neg (show ¬ ((Tb s.1 j:Int))>0 by omega),if_neg e,Ss,if_pos rfl,SL,S9,Sb f,aR v.lev c (by omega),SL,Sx,h,TI (by omega),c];by_cases d:Vg s.1 j=true
   ·rw [if_pos d,if_pos d]
   ·rw [if_neg d,if_neg d];rfl
theorem l8 {s:TA} (m:Sm s):Vw s=some (if (TE s).2≠0 then ([],(TE s).2) else (TJ 0 s.1.2,0)):=by
 unfold Vw;simp only [TH,TF];rw [oX m,SL,Ss];by_cases a:(TE s).2=0;rotate_left
 ·rw [if_neg a,if_pos a]
 rw [if_pos a,if_neg (show ¬ (TE s).2≠0 by simp [a])];have f:=(TS.1 a).lev.len
 rw [Ub (l:=s.1.2) (σ:=List Int) (s:=((0:Int),([]:List Int))) (λi m=>((i:Int),m)) (λls i m=>m++TJ i ls=TJ 0 s.1.2) (λ_ _ _=>(0,(((s.1.2.length:Int),TJ 0 s.1.2),()))) [] rfl (by omega) rfl (λm h=>by
  simp only;rw [re,Rd,<- h];simp [TJ]) (λi rs ls m e c hi h=>by
   refine ⟨m++(if rs.length=2 then [(i:Int)] else []),?_,?_,rfl⟩
   ·simp only;rw [rl hi,R5,S9,Sb c,Sn]
    have g:m.length<=1000:=by
     have b:=congrArg List.length h;have d:=VV s.1.2 0;rw [List.length_append] at b;omega
    by_cases b:rs.length=2
    ·rw [if_pos (by omega),if_pos b,Te (by simp only [BD,List.length_cons,List.length_nil];omega),TL c (by omega)];rfl
    ·rw [if_neg (by omega),if_neg b,List.append_nil,TL c (by omega)]
   ·rw [List.append_assoc];exact h),SL]
def Vv (s:TA):List Int->Option Int
 | []=>none
 | d::l=>if (Wf false (λs j=>(Vq s.1 j,0)) s d).1=true then some d else Vv s l
def UG (s:TA):Int×Int:=if (TE s).2≠0 then (0,(TE s).2) else if TJ 0 s.1.2=[] then (0,4) else match Vv s (TJ 0 s.1.2) with
 | some d=>(d,0)
 | none=>(0,9)
theorem VSt.atDue {s:TA} (v:VSt s) {d:Int} (h:d∈TJ 0 s.1.2) : ∃ (j:Job) (n:Nat),Z5 s d=some j/\d=(n:Int)/\j.1=(n:Int)/\JobAt s.1 n j/\n<s.1.2.length:=by
 obtain ⟨i,b⟩:=ac (k:=0) h;obtain ⟨j,n,e,f,a,c,g⟩:=v.at b;exact ⟨j,n,by unfold Z5;rw [b];exact e,f,a,c,g⟩
theorem lZ {s:TA} (m:Sm s):Tv s=some (UG s):=by
 unfold Tv UG;rw [l8 m,SL];by_cases a:(TE s).2=0;rotate_left
 ·rw [if_pos a,Ss,if_neg a,if_pos a]
 rw [if_neg (show ¬ (TE s).2≠0 by simp [a]),if_neg (show ¬ (TE s).2≠0 by simp [a]),Ss,if_pos rfl];have v:=TS.1 a;have z:(TJ 0 s.1.2).length<=12:=by have:=VV s.1.2 0;have:=v.lev.len;omega
 simp only [TH,TF];rw [Sn];by_cases b:TJ 0 s.1.2=[]
 ·rw [if_pos (by rw [b];rfl),if_pos b]
 rw [if_neg (by have:=List.length_pos_iff.2 b;omega),if_neg b];obtain ⟨T,q⟩ : ∃ T,T=Vv s (TJ 0 s.1.2):=⟨_,rfl⟩;rw [<- q]
 obtain ⟨r,C,u⟩:=WK (l:=TJ 0 s.1.2) (σ:=Unit) (s:=((0:Int),(false,((0:Int),(0:Int))))) (λk _=>((0:Int),(false,((k:Int),(0:Int))))) (λl k _=>Vv s l=T) (λ(r:Nat×((Int×(Bool×(Int×Int)))×Unit))=>r.1=1/\((T=none/\r.2.1.2.1=false)\/(∃ d,T=some d/\r.2.1.2.1=true/\r.2.1.2.2.2=d)))
  (f:=λs1=>br (SW s1.2.2.1 ((TJ 0 s.1.2).length:Int)) (λ_=>RX s1.2.2.1 λB=>ix (TJ 0 s.1.2) B λw=>bd (Ue (s,w)) λp=>br (RT p.2 0) (λ_=>some (.dn ((0,((p.2,(s1.2.1,(s1.2.2.1,0))),()))))) λ_=>bd (Tx p.1) λE=>br E (λ_=>some (.dn ((1,((s1.1,(true,(s1.2.2.1,w))),()))))) λ_=>some (.nx ((s1.1,(s1.2.1,(Rl .i64 s1.2.2.1 1,s1.2.2.2)))))) λ_=>some (.dn ((1,(s1,())))))
  () rfl (by omega) q.symm (λ_ h=>⟨_,by simp only;rw [re];rfl,rfl,.inl ⟨by rw [<- h];rfl,rfl⟩⟩) (λk d l _ G i A h=>by
   simp only;obtain ⟨j,n,t,I,g,F,b⟩:=v.atDue (List.mem_of_getElem? i);have:=v.lev.len;unfold Vv at h;have x:Wf false (λs j=>(Vq s.1 j,0)) s d=(Vq s.1 j,0):=by unfold Wf;rw [if_neg (show ¬ (TE s).2≠0 by simp [a]),t]
   have y:Wf z0 (λs j=>((s,(j,(Tb s.1 j:Int))),0)) s d=((s,(j,(Tb s.1 j:Int))),0):=by unfold Wf;rw [if_neg (show ¬ (TE s).2≠0 by simp [a]),t]
   rw [x] at h;rw [rl A,R5,S9,Sb i,az m,y,SL,Ss,if_pos rfl,aY v.lev g (by omega) _ rfl,SL,Sx];by_cases e:Vq s.1 j=true
   ·rw [if_pos e];rw [if_pos e] at h;exact .inr ⟨_,rfl,rfl,.inr ⟨d,h.symm,rfl,rfl⟩⟩
   ·rw [if_neg e];rw [if_neg e] at h
    exact .inl ⟨(),by rw [TL i (by omega)],h⟩)
 refine TZ C ?_;obtain ⟨u,c⟩:=u;rw [SM,if_neg (show ¬ r.1=0 by omega),To,Sx];rcases c with ⟨c,o⟩ | ⟨d,c,o,D⟩
 ·rw [if_neg (by simp [o]),c]
 ·rw [if_pos o,c,D]
theorem eQ {s:TA} (m:Sm s):Xv s=some (UG s):=by
 unfold Xv UG;rw [bj m,SL];by_cases a:(TE s).2=0;rotate_left
 ·rw [if_pos a,Ss,if_neg a,if_pos a]
 rw [if_neg (show ¬ (TE s).2≠0 by simp [a]),if_neg (show ¬ (TE s).2≠0 by simp [a]),Ss,if_pos rfl];have v:=TS.1 a;have o:(TJ 0 s.1.2).length<=12:=by have:=VV s.1.2 0;have:=v.lev.len;omega
 simp only [TH,TF];rw [Sn];by_cases b:TJ 0 s.1.2=[]
 ·rw [if_pos (by rw [b];rfl),if_pos b]
 rw [if_neg (by have:=List.length_pos_iff.2 b;omega),if_neg b];obtain ⟨T,n⟩ : ∃ T,T=Vv s (TJ 0 s.1.2):=⟨_,rfl⟩;rw [<- n]
 obtain ⟨r,u,c⟩:=WK (l:=TJ 0 s.1.2) (σ:=Unit) (s:=((0:Int),((0:Int),(0:Int)))) (λk _=>((0:Int),((0:Int),(k:Int)))) (λl k _=>Vv s l=T) (λ(r:Nat×((Int×(Int×Int))×Unit))=>(r.1=1/\T=none)\/(r.1=0 /\ ∃ d,T=some d/\r.2.1.2.1=d/\r.2.1.1=0))
  (f:=λs1=>br (SW s1.2.2 ((TJ 0 s.1.2).length:Int)) (λ_=>RX s1.2.2 λq=>ix (TJ 0 s.1.2) q λz=>bd (Wb (s,z)) λy=>br y.1 (λ_=>RX s1.2.2 λt=>ix (TJ 0 s.1.2) t λA=>some (.dn ((0,((0,(A,s1.2.2)),()))))) λ_=>some (.nx ((s1.1,(s1.2.1,Rl .i64 s1.2.2 1))))) λ_=>some (.dn ((1,(s1,())))))
  () rfl (by omega) n.symm (λ_ h=>⟨_,by simp only;rw [re];rfl,.inl ⟨rfl,by rw [<- h];rfl⟩⟩) (λk d l _ B g p h=>by
   simp only;unfold Vv at h;rw [rl p,R5,S9,Sb g,an m,SL,Sx,S9,Sb g];by_cases e:(Wf false (λs j=>(Vq s.1 j,0)) s d).1=true
   ·rw [if_pos e];rw [if_pos e] at h;exact .inr ⟨_,rfl,.inr ⟨rfl,d,h.symm,rfl,rfl⟩⟩
   ·rw [if_neg e];rw [if_neg e] at h
    exact .inl ⟨(),by rw [TL g (by omega)],h⟩)
 refine TZ u ?_;rw [SM];rcases c with ⟨c,i⟩ | ⟨c,d,i,w,x⟩
 ·rw [if_neg (show ¬ r.1=0 by omega),i]
 ·rw [if_pos c,i,w,x]
end
section
open Go Go.Proofs.YtfilfloanndddaaGreat.Sv
theorem lj {β:Type} (k:Unit->Option β):gd true k=k ():=rfl
def TG (l:List (List TY)) (i:Nat):List TY:=(l[i]?).getD []
def Xs (l:List (List TY)):Nat->Nat
 | 0=>0
 | k+1=>if TG l k=[] then Xs l k else k+1
def Xn (l:List (List TY)) (n:Nat):List (List TY):=l++List.replicate (n+1-l.length) []
def WZ (l:List (List TY)) (n:Nat) (r:List TY):List (List TY):=(Xn l n).set n r
def XS (l:List (List TY)):List (List TY):=l.take (Xs l l.length)
def US (L:TB) (n:Nat) (r:List TY):TB:=(L.1,XS (WZ L.2 n r))
theorem aa (l:List (List TY)) : ∀ k,Xs l k<=k
 | 0=>Nat.le_refl _
 | k+1=>by
  unfold Xs;split
  ·exact Nat.le_succ_of_le (aa l k)
  ·exact Nat.le_refl _
theorem Zg (l:List (List TY)) : ∀ {k i:Nat},Xs l k<=i->i<k->TG l i=[]
 | 0,_,_,h=>by omega
 | k+1,i,h1,h2=>by
  unfold Xs at h1;split at h1
  ·rename_i a;by_cases hi:i=k
   ·rw [hi];exact a
   ·exact Zg l h1 (by omega)
  ·omega
theorem aB (l:List (List TY)) : ∀ {k m:Nat},Xs l k=m+1->TG l m≠[]
 | 0,m,h=>by cases h
 | k+1,m,h=>by
  unfold Xs at h;split at h
  ·exact aB l h
  ·rename_i a;have:m=k:=by omega
   rw [this];exact a
theorem aO (l:List (List TY)) (i:Nat):TG (XS l) i=TG l i:=by
 unfold XS;by_cases h:i<Xs l l.length
 ·unfold TG;rw [List.getElem?_take,if_pos h]
 ·have a:TG (l.take (Xs l l.length)) i=[]:=by
   unfold TG;rw [List.getElem?_take,if_neg h];rfl
  rw [a];by_cases b:i<l.length
  ·exact (Zg l (by omega) b).symm
  ·unfold TG;rw [List.getElem?_eq_none (by omega)];rfl
theorem dR (l:List (List TY)):(XS l).getLast? ≠ some []:=by
 have c:(XS l).length=Xs l l.length:=by
  have:=aa l l.length;unfold XS;rw [List.length_take];omega
 cases a:Xs l l.length with
 | zero =>
  have:XS l=[]:=List.length_eq_zero_iff.1 (by rw [c,a]);rw [this];simp
 | succ m =>
  have d:=aB l a;rw [List.getLast?_eq_getElem?,c,a];intro e;have b:TG (XS l) m=[]:=by unfold TG;rw [show m=m+1-1 by omega,e];rfl
  rw [aO] at b;exact d b
theorem YF (l:List (List TY)) (n:Nat):(Xn l n).length=max l.length (n+1):=by
 unfold Xn;simp;omega
theorem bX (l:List (List TY)) (n i:Nat):TG (Xn l n) i=TG l i:=by
 unfold TG Xn;by_cases h:i<l.length
 ·rw [List.getElem?_append_left h]
 ·rw [List.getElem?_append_right (by omega),List.getElem?_replicate,List.getElem?_eq_none (l:=l) (by omega)];split<;>rfl
theorem bc (l:List (List TY)) (n i:Nat) (r:List TY):TG (WZ l n r) i=if i=n then r else TG l i:=by
 unfold WZ;by_cases h:i=n
 ·rw [if_pos h,h];have:=YF l n;unfold TG;rw [List.getElem?_set_self (by omega)];rfl
 ·rw [if_neg h];unfold TG;rw [List.getElem?_set_ne (λe=>h e.symm)];exact bX l n i
theorem We (L:TB) (n i:Nat) (r:List TY):TG (US L n r).2 i=if i=n then r else TG L.2 i:=by
 show TG (XS _) i=_;rw [aO,bc]
theorem dS (L:TB) (n:Nat) (r:List TY):(US L n r).2.getLast? ≠ some []:=dR _
theorem fZ (L:TB) (n:Nat) (r:List TY):(US L n r).2.length<=max L.2.length (n+1):=by
 show (XS _).length<=_;unfold XS;rw [List.length_take];have:(WZ L.2 n r).length=max L.2.length (n+1):=by unfold WZ;rw [List.length_set,YF]
 omega
theorem eE (l:List (List TY)):(XS l).flatten=l.flatten:=by
 have h:l=XS l++l.drop (Xs l l.length):=(List.take_append_drop _ _).symm
 have a:(l.drop (Xs l l.length)).flatten=[]:=by
  rw [List.flatten_eq_nil_iff];intro x c;obtain ⟨i,hi⟩:=List.getElem?_of_mem c;rw [List.getElem?_drop] at hi;have b:=(List.getElem?_eq_some_iff.1 hi).1;have:=Zg l (k:=l.length) (i:=Xs l l.length+i) (by omega) b;unfold TG at this;rw [hi] at this;exact this
 conv=>rhs;rw [h,List.flatten_append,a,List.append_nil]
theorem fx (l:List (List TY)) (n:Nat):(Xn l n).flatten=l.flatten:=by
 unfold Xn;rw [List.flatten_append]
 have:(List.replicate (n+1-l.length) ([]:List TY)).flatten=[]:=by
  rw [List.flatten_eq_nil_iff];intro x a;exact (List.mem_replicate.1 a).2
 rw [this,List.append_nil]
theorem XJ (L:TB) (n:Nat) (r:List TY) : ∃ p q,L.2.flatten=p++(TG L.2 n++q)/\(US L n r).2.flatten=p++(r++q):=by
 have a:n<(Xn L.2 n).length:=by rw [YF];omega
 refine ⟨((Xn L.2 n).take n).flatten,((Xn L.2 n).drop (n+1)).flatten,?_,?_⟩
 ·rw [<- bX L.2 n n,<- fx L.2 n]
  have:Xn L.2 n=(Xn L.2 n).take n++((Xn L.2 n)[n]::(Xn L.2 n).drop (n+1)):=by
   rw [<- List.drop_eq_getElem_cons a,List.take_append_drop]
  have b:TG (Xn L.2 n) n=(Xn L.2 n)[n]:=by unfold TG;rw [List.getElem?_eq_getElem a];rfl
  rw [b]
  conv=>lhs;rw [this]
  rw [List.flatten_append,List.flatten_cons]
 ·show (XS (WZ L.2 n r)).flatten=_;rw [eE];unfold WZ;rw [List.set_eq_take_append_cons_drop,if_pos a,List.flatten_append,List.flatten_cons]
theorem VLev.own {L:TB} (v:VLev L) (i:Nat):(TG L.2 i).length<=2 /\ ∀ r∈TG L.2 i,VR (UY L.1 i) r:=by
 unfold TG;cases h:L.2[i]? with
 | none=>exact ⟨by simp,λr a=>by cases a⟩
 | some rs=>exact v.lev i rs h
theorem VLev.with' {L:TB} (v:VLev L) {n:Nat} (f:n<12) {r:List TY} (d:r.length<=2) (e : ∀ x∈r,VR (UY L.1 n) x) (b:((US L n r).2.flatten.map mV).Nodup):VLev (US L n r):=by
 refine ⟨v.B1,v.B2,?_,λi rs hi => ?_,b,dS L n r⟩
 ·have:=fZ L n r;have:=v.len;omega
 ·have a:=We L n i r;unfold TG at a;rw [hi] at a;simp only [Option.getD_some] at a;rw [a];split
  ·rename_i c;rw [c];exact ⟨d,e⟩
  ·exact v.own i
theorem VLev.leave {L:TB} (v:VLev L) {n:Nat} (c:n<12):VLev (US L n []):=by
 refine v.with' c (by simp) (λ_ h=>by cases h) ?_
 obtain ⟨p,q,a,b⟩:=XJ L n [];have:=v.ids;rw [a] at this;rw [b,List.nil_append];refine List.Sublist.nodup (List.Sublist.map _ ?_) this;exact List.Sublist.append (List.Sublist.refl _) (List.sublist_append_right _ _)
theorem VLev.arrive {L:TB} (v:VLev L) {n:Nat} (g:n<12) {x:TY} (j:(TG L.2 n).length<2) (i:VR (UY L.1 n) x) (b : ∀ y∈L.2.flatten,y.1≠x.1):VLev (US L n (TG L.2 n++[x])):=by
 refine v.with' g (by simp;omega) (λy hy => ?_) ?_
 ·rcases List.mem_append.1 hy with hy | hy
  ·exact (v.own n).2 y hy
  ·rw [List.mem_singleton.1 hy];exact i
 ·obtain ⟨p,q,c,d⟩:=XJ L n (TG L.2 n++[x])
  have h:(US L n (TG L.2 n++[x])).2.flatten.Perm (x::L.2.flatten):=by
   rw [c,d,List.append_assoc];refine List.Perm.trans ?_ (List.perm_middle (l₁:=p++TG L.2 n) (l₂:=q) (a:=x) |>.trans (by rw [List.append_assoc]));rw [List.append_assoc];exact List.Perm.refl _
  refine (h.map mV).nodup_iff.2 (List.nodup_cons.2 ⟨λf => ?_,v.ids⟩);obtain ⟨y,hy,e⟩:=List.mem_map.1 f;exact b y hy e
theorem Zo {l:List (List TY)} {x:TY}:x∈l.flatten <-> ∃ i,x∈TG l i:=by
 rw [List.mem_flatten];constructor
 ·rintro ⟨rs,a,b⟩;obtain ⟨i,hi⟩:=List.getElem?_of_mem a;exact ⟨i,by unfold TG;rw [hi];exact b⟩
 ·rintro ⟨i,h⟩;unfold TG at h;cases hi:l[i]? with
  | none=>rw [hi] at h;cases h
  | some rs=>rw [hi] at h;exact ⟨rs,List.mem_of_getElem? hi,h⟩
theorem Yw {l:List (List TY)} {x:TY} (h:x∈l.flatten):x.1<=WC l:=by
 have d : ∀ (rs:List TY) (m:Int),m<=rs.foldl (λm r=>S0 m r.1) m /\ ∀ x∈rs,x.1<=rs.foldl (λm r=>S0 m r.1) m:=by
  intro rs
  induction rs with
  | nil=>intro m;exact ⟨by simp,λx hx=>by cases hx⟩
  | cons r rs c =>
   intro m;obtain ⟨b,a⟩:=c (S0 m r.1);rw [Wu] at b a;simp only [List.foldl_cons,Wu] at b a ⊢;refine ⟨by omega,λx hx => ?_⟩;rcases List.mem_cons.1 hx with e | hx
   ·rw [e];omega
   ·exact a x hx
 have two : ∀ (ls:List (List TY)) (m:Int),m<=ls.foldl (λm rs=>rs.foldl (λm r=>S0 m r.1) m) m /\ ∀ rs∈ls,∀ x∈rs,x.1<=ls.foldl (λm rs=>rs.foldl (λm r=>S0 m r.1) m) m:=by
  intro ls
  induction ls with
  | nil=>intro m;exact ⟨by simp,λx hx=>by cases hx⟩
  | cons rs ls c =>
   intro m;obtain ⟨b,a⟩:=c (rs.foldl (λm r=>S0 m r.1) m);obtain ⟨i,g⟩:=d rs m;simp only [List.foldl_cons];refine ⟨by omega,λf hrs x hx => ?_⟩;rcases List.mem_cons.1 hrs with e | hrs
   ·subst e;have:=g x hx;omega
   ·exact a f hrs x hx
 obtain ⟨rs,b,a⟩:=List.mem_flatten.1 h;exact (two l 0).2 rs b x a
end
section
open Go Go.Proofs.YtfilfloanndddaaGreat.Sv
theorem aC {M:List (List TY)} {f:Int->Option (LR Int (Nat×(Int×Unit)))} (a:f 0=some (.dn (0,(0,())))) (hs : ∀ k,k<M.length->f ((k+1:Nat):Int)=if TG M k=[] then some (.nx (k:Int)) else some (.dn (0,(((k+1:Nat):Int),())))) : ∀ k,k<=M.length->IJ (k+1) f (k:Int)=some (0,((Xs M k:Nat):Int),())
 | 0,_=>Tq a
 | k+1,hk=>by
  have h:=hs k (by omega);unfold Xs;by_cases b:TG M k=[]
  ·rw [if_pos b] at h ⊢;rw [Th h];exact aC a hs k (by omega)
  ·rw [if_neg b] at h ⊢;exact Tq h
theorem mi (L:List (List TY)) (n:Nat):K5 (Q8 (max L.length (n+1)) ([]:List TY)) 0 L (AS (Q8 (max L.length (n+1)) ([]:List TY)))=Xn L n:=by
 have a:AS (Q8 (max L.length (n+1)) ([]:List TY))=max L.length (n+1):=by unfold AS Q8;simp
 rw [a];unfold K5 Xn Q8;rw [List.take_of_length_le (by omega:L.length<=max L.length (n+1))];simp only [List.take_zero,List.nil_append,List.drop_replicate,Nat.zero_add]
 congr 2
 omega
theorem gD (l:List (List TY)) (n:Nat) (r:List TY):lset (Xn l n) n r=WZ l n r:=rfl
theorem WE {l:List (List TY)} {i:Nat} (h:i<l.length):l[i]? = some (TG l i):=by
 unfold TG;rw [List.getElem?_eq_getElem h];rfl
theorem ah {β:Type} (l:List TY) (x y:Unit->Option β):br (RR (l.length:Int) 0) x y=if l=[] then x () else y ():=by
 rw [Sn];by_cases h:l=[]
 ·rw [if_pos h,if_pos (by rw [h];rfl)]
 ·rw [if_neg h,if_neg (by have:=List.length_pos_iff.2 h;omega)]
theorem ZJ {L:TB} (i:L.2.length<=1000) {n:Nat} (j:n<1000) (r:List TY):VK (L,((n:Int),r))=some (US L n r):=by
 have b:S0 (Kb (AS L.2)) (Rl .i64 (n:Int) 1)=((max L.2.length (n+1):Nat):Int):=by
  rw [TI (by omega),Wu,TH,TF];omega
 unfold VK;simp only [b,S9,mi,gD];have d:(Xn L.2 n).length=max L.2.length (n+1):=YF _ _;have l:(WZ L.2 n r).length=max L.2.length (n+1):=by unfold WZ;rw [List.length_set,d]
 rw [Te (by omega),SR,if_pos (by rw [TF,d];omega),Sb (WE (by omega))]
 have c:=aC (M:=WZ L.2 n r) (f:=λa=>br (SU a 0) (λ_=>RX (Rp .i64 a 1) λe=>gd (KC e (AS (WZ L.2 n r))) λ_=>ix (WZ L.2 n r) e λh=>br (RR (Kb (AS h)) 0) (λ_=>some (.nx (Rp .i64 a 1))) λ_=>some (.dn ((0,(a,()))))) λ_=>some (.dn ((0,(a,()))))) rfl (λk b=>by
  have hi:Rp .i64 ((k+1:Nat):Int) 1=(k:Int):=by rw [SB (by omega)];omega
  simp only [hi,S9];rw [Sp,if_pos (by omega),SR,if_pos (by rw [TF];omega),Sb (WE b)]
  exact ah _ _ _) _ (Nat.le_refl _)
 rw [TH,show AS (WZ L.2 n r)=(WZ L.2 n r).length from rfl];refine TZ (Ui (by omega) c) ?_;have g:=aa (WZ L.2 n r) (WZ L.2 n r).length;simp only [S9];rw [Te g,SQ,if_pos (by omega),SN,if_pos (by omega),SQ,if_pos (by unfold BD PA;omega)];unfold US XS Dy BD PA;simp
end
section
open Go Go.Proofs.YtfilfloanndddaaGreat.Sv
def af (d:Int) (j:Job):Bool:=RR d j.1
def UN (js:List Job) (d:Int):Option Job:=js.find? (af d)
def Yx (js:List Job):List (Int×Job):=js.map λj=>(j.1,j)
def zJ:Job:=(0,(([],([],([],([],0)))),((false,([],false)),([],0))))
def WH (L:TB) (d:Int):Job:=match TG L.2 d.toNat with
 | [r0,r1]=>(d,U9 r1.2 r0.2 (decide (d=(L.2.length:Int)-1)) 0)
 | _=>zJ
def WV (s:TA) (L:TB) (a d:Int):Job:=(if d=a then none else UN s.2.1 d).getD (WH L d)
def YJ (s:TA) (L:TB) (next a:Int):TA:=(L,((TJ 0 L.2).map (WV s L a),next))
theorem aM (d:Int) : ∀ js:List Job,MI (λa b=>RR a b) (Yx js) d=UN js d
 | []=>rfl
 | j::js=>by
  show (bif RR d j.1 then some j else MI (λa b=>RR a b) (Yx js) d)=(j::js).find? (af d)
  rw [List.find?_cons,aM d js];show _=match RR d j.1 with | true=>some j | false=>UN js d
  cases RR d j.1<;>rfl
theorem aN {j:Job} : ∀ {js:List Job},j.1 ∉ js.map (·.1)->IR (λa b=>RR a b) (Yx js) j.1 j=Yx (js++[j])
 | [],_=>rfl
 | i::js,h=>by
  show (bif RR j.1 i.1 then (j.1,j)::Yx js else (i.1,i)::IR (λa b=>RR a b) (Yx js) j.1 j)=(i.1,i)::Yx (js++[j])
  have d:RR j.1 i.1=false:=by rw [VZ];simp;intro e;exact h (by simp [e])
  rw [d,cond_false,aN (λc=>h (by simp at c ⊢;exact .inr c))]
theorem Xy {js:List Job} {d:Int} (h:d ∉ js.map (·.1)):UN js d=none:=by
 unfold UN;rw [List.find?_eq_none];intro j a;unfold af;rw [VZ];simp only [decide_eq_true_eq];intro e;exact h (by rw [e];exact List.mem_map_of_mem a)
theorem aL {x d:Int} : ∀ {js:List Job},(js.map (·.1)).Nodup->MI (λa b=>RR a b) (IQ (λa b=>RR a b) (Yx js) x) d=if d=x then none else UN js d
 | [],_=>by split<;>rfl
 | j::js,h=>by
  rw [List.map_cons,List.nodup_cons] at h;show MI (λa b=>RR a b) (bif RR x j.1 then Yx js else (j.1,j)::IQ (λa b=>RR a b) (Yx js) x) d=_
  have g:UN (j::js) d=if d=j.1 then some j else UN js d:=by
   unfold UN;rw [List.find?_cons];unfold af;rw [VZ];by_cases e:d=j.1<;>simp [e]
  rw [VZ,g];by_cases f:x=j.1
  ·rw [show decide (x=j.1)=true by simp [f],cond_true,aM];by_cases c:d=x
   ·rw [if_pos c];exact Xy (by rw [c,f];exact h.1)
   ·rw [if_neg c,if_neg (by rw [<- f];exact c)]
  ·rw [show decide (x=j.1)=false by simp [f],cond_false];show (bif RR d j.1 then some j else MI (λa b=>RR a b) (IQ (λa b=>RR a b) (Yx js) x) d)=_
   rw [aL h.2,VZ];by_cases c:d=j.1
   ·rw [show decide (d=j.1)=true by simp [c],cond_true,if_pos c,if_neg (by rw [c];exact λe=>f e.symm)]
   ·rw [show decide (d=j.1)=false by simp [c],cond_false,if_neg c]
theorem VR.vl' {L:TB} (v:VLev L) {n:Nat} {r:TY} (h:r∈TG L.2 n):VL r.2:=((v.own n).2 r h).vl
theorem eL (L:TB) (a:L.2.length<=1000) (n:Nat):Ux (L,(n:Int))=some (decide ((n:Int)=(L.2.length:Int)-1)):=by
 unfold Ux;simp only [TH,TF];rw [SB (by omega),VZ]
theorem fo {L:TB} (v:VLev L) {n:Nat} (h:(TG L.2 n).length=2):Wi (L,(n:Int))=some (WH L n,0):=by
 have d:n<L.2.length:=by
  by_cases e:n<L.2.length
  ·exact e
  ·unfold TG at h;rw [List.getElem?_eq_none (by omega)] at h;cases h
 have i:=v.len;obtain ⟨f,g⟩:=v.small;unfold Wi;simp only [TH,TF];rw [Ye _ f g,Wx v,SL,Ss,if_pos rfl,Sr,if_neg (by omega),So,if_neg (by omega),So,if_neg (by omega),S9,Sb (WE d),Sr,if_neg (by omega),eL L (by omega) n,SL]
 obtain ⟨b,c,a⟩ : ∃ b c,TG L.2 n=[b,c]:=by
  match hq:TG L.2 n with
  | [b,c]=>exact ⟨b,c,rfl⟩
  | []=>rw [hq] at h;cases h
  | [_]=>rw [hq] at h;cases h
  | _::_::_::_=>rw [hq] at h;simp at h
 rw [bA _ (by rw [WE d,a]) (VR.vl' v (n:=n) (by rw [a];simp)) (VR.vl' v (n:=n) (by rw [a];simp)),SL];unfold WH;rw [Int.toNat_natCast,a]
theorem Xt (i:Nat) (rs:List TY) (ls:List (List TY)):TJ i (rs::ls)=(if rs.length=2 then [(i:Int)] else [])++TJ (i+1) ls:=rfl
theorem ZP {s:TA} (f:(s.2.1.map (·.1)).Nodup) (t:s.2.1.length<=1000) {L:TB} (v:VLev L) (next a:Int):Tc (s,(L,(next,a)))=some (YJ s L next a,0):=by
 have u:=v.len;unfold Tc;simp only [TH,TF]
 rw [Ub (l:=s.2.1) (σ:=List (Int×Job)) (s:=((0:Int),([]:List (Int×Job)))) (λi m=>((i:Int),m)) (λls i m => ∃ p,s.2.1=p++ls/\m=Yx p) (λ_ _ _=>(0,(((s.2.1.length:Int),Yx s.2.1),()))) [] rfl (by omega) ⟨[],rfl,rfl⟩ (λm h=>by
  obtain ⟨p,d,rfl⟩:=h
  simp only;rw [re,Rd,d,List.append_nil]) (λi x ls m q b hi h=>by
   obtain ⟨p,d,rfl⟩:=h;refine ⟨Yx (p++[x]),?_,⟨p++[x],by rw [d];simp,rfl⟩,rfl⟩;simp only;rw [rl hi,R5,S9,Sb b,TL b (by omega),aN];intro g;rw [d,List.map_append,List.nodup_append] at f
   exact f.2.2 _ g x.1 (by simp) rfl),SL]
 simp only
 rw [Ub (l:=L.2) (σ:=List Job) (s:=((0:Int),((0:Int),(((0:Int),(([]:List (List TY)),(([]:List Job),(0:Int)))),(L.1,(L.2,(([]:List Job),next))))))) (λi js=>((0:Int),((i:Int),(((0:Int),(([]:List (List TY)),(([]:List Job),(0:Int)))),(L.1,(L.2,(js,next))))))) (λls i js=>js++(TJ i ls).map (WV s L a)=(TJ 0 L.2).map (WV s L a)) (λ_ _ _=>(0,(((0:Int),((L.2.length:Int),(((0:Int),(([]:List (List TY)),(([]:List Job),(0:Int)))),(L.1,(L.2,((TJ 0 L.2).map (WV s L a),next)))))),()))) [] rfl (by omega) rfl (λm h=>by
  simp only;rw [re,Rd,<- h];simp [TJ]) (λi rs ls m q b hi h=>by
   have k:TG L.2 i=rs:=by unfold TG;rw [b];rfl
   have o:=(v.own i).1;rw [k] at o;refine ⟨m++(if rs.length=2 then [WV s L a i] else []),?_,?_,rfl⟩
   ·simp only;rw [rl hi,R5,S9,Sb b,Sr]
    have g:m.length<=1000:=by
     have c:=congrArg List.length h;have r:=VV L.2 0;rw [List.length_append,List.length_map,List.length_map] at c;omega
    by_cases c:rs.length=2;rotate_left
    ·rw [if_pos (by omega),if_neg c,List.append_nil,TL b (by omega)]
    rw [if_neg (by omega),if_pos c,aL f];have e:WV s L a i=(if (i:Int)=a then none else UN s.2.1 i).getD (WH L i):=rfl
    cases n:(if (i:Int)=a then none else UN s.2.1 (i:Int)) with
    | none =>
     rw [n,Option.getD_none] at e;rw [e,fo v (by rw [k];exact c),To,Sx,if_neg (show ¬ S3 (none:Option Job)=true by simp [S3]),SL];simp only;rw [Ss,if_pos rfl,Te (by simp only [BD,List.length_cons,List.length_nil];omega),TL b (by omega)];rfl
    | some j =>
     rw [n,Option.getD_some] at e;rw [e,To,Sx,if_pos (show S3 (some j)=true from rfl),Te (by simp only [BD,List.length_cons,List.length_nil];omega),TL b (by omega)];rfl
   ·rw [List.append_assoc,<- h,Xt,List.map_append]
    congr 2
    split<;>rfl),SL]
 rfl
end
section
open Go Go.Proofs.YtfilfloanndddaaGreat.Sv
def pS (s:UI):Option W8:=if s.1=true then some s.2.1 else none
theorem Asc.weak : ∀ {l:List S8} {p c:Option W8},(∀ a,c=some a -> ∃ q,p=some q/\Rz q a=false)->Asc p l->Asc c l
 | [],_,_,_,_=>trivial
 | x::l,p,c,h,⟨g,i⟩=>⟨λa b=>by
  obtain ⟨q,e,j⟩:=h a b;have d:=g q e;by_cases f:a=q
  ·rw [f];exact d
  ·exact WF (Yl j (λe=>f e.symm)) d,i⟩
theorem bG : ∀ (l:List S8) (s:UI),ZB s l->Asc (pS s) (Vt s l)
 | [],_,_=>trivial
 | x::l,s,⟨_,g,h⟩=>by
  have i:=bG l _ h;have f:Asc (some x.1) (Vt (true,(x.1,s.2.2)) l):=i;unfold Vt;by_cases c:keep s x=true
  ·rw [if_pos c];refine ⟨λq d => ?_,f⟩;unfold pS at d;by_cases b:s.1=true
   ·rw [if_pos b] at d;cases d;refine Yl (g b) λe => ?_;unfold keep at c;rw [b,e] at c;simp at c
   ·rw [if_neg b] at d;cases d
  ·rw [if_neg c,List.nil_append];refine f.weak λj a=>⟨x.1,rfl,?_⟩;unfold pS at a;by_cases b:s.1=true
   ·rw [if_pos b] at a;cases a;exact g b
   ·rw [if_neg b] at a;cases a
theorem bI : ∀ {l:List S8} {s:UI} {x:S8},x∈Vt s l->x∈l
 | y::l,s,x,h=>by
  unfold Vt at h;rcases List.mem_append.1 h with h | h
  ·split at h
   ·rw [List.mem_singleton.1 h];simp
   ·cases h
  ·exact List.mem_cons_of_mem _ (bI h)
theorem dv : ∀ {l:List S8} {s:UI},ZB s l -> ∀ x∈l,kE x=0
 | y::l,s,⟨a,_,b⟩,x,h=>by
  rcases List.mem_cons.1 h with e | h
  ·rw [e];exact a
  ·exact dv b x h
theorem gK {a b:List S8} (va:VL a) (f:VL b) (c:Bool) {k:Nat} (d:k<=a.length+b.length) (j:a.length+b.length<=5000):VL (U9 a b c k).2.2.1/\(U9 a b c k).2.2.1.length<=a.length+b.length:=by
 have e:=W1 va f c d
 have i:(Vt (s0 c) (TU a b k)).length<=k:=by
  have:=Xe (s0 c) (TU a b k);rw [Us va f d] at this;exact this
 have g:(U9 a b c k).2.2.1=Vt (s0 c) (TU a b k):=rfl;rw [g];exact ⟨⟨by omega,λx h=>dv e x (bI h),bG _ _ e⟩,by omega⟩
theorem cR {L:TB} (v:VLev L) {n:Nat} (h:TG L.2 n≠[]):U6 (L,(n:Int))=some (US L n [],(TG L.2 n,0)):=by
 have b:n<L.2.length:=by
  by_cases a:n<L.2.length
  ·exact a
  ·unfold TG at h;rw [List.getElem?_eq_none (by omega)] at h;exact absurd rfl h
 have d:=v.len;have c:=(v.own n).1;unfold U6;simp only [TH,TF];rw [al v,SL,if_neg (by omega),Ss,if_pos rfl,Sr,if_pos (by omega),S9,Sb (WE b),ah,if_neg h,ZJ (by omega) (by omega),SL,Te (by omega)]
theorem eJ {S β:Type} {f:S->Option (LR S β)} {r:β} (mk:Int->S) (n:Nat) {s:S} (b:s=mk ((n:Int)-1)) (g:n<1000000) (hs : ∀ k,k<n->f (mk (k:Int))=some (.nx (mk ((k:Int)-1)))) (c:f (mk (-1))=some (.dn r)):loop f s=some r:=by
 subst b
 have a : ∀ k,k<=n->IJ (k+1) f (mk ((k:Int)-1))=some r:=by
  intro k
  induction k with
  | zero=>intro _;exact Tq c
  | succ k d =>
   intro e;have:=hs k (by omega);rw [show ((k+1:Nat):Int)-1=(k:Int) by omega,Th this];exact d (by omega)
 exact Ui (by omega) (a n (Nat.le_refl _))
theorem bS {L:TB} (v:VLev L) {n:Nat} (o:n<12) {x:TY} (q:x.2.length<=1048576) (b : ∀ y∈L.2.flatten,y.1≠x.1) (m:(TG L.2 n).length<2) :
  Tu (L,((n:Int),x))=some (if kR [] (UY L.1 n) x≠0 then ((0,[]),kR [] (UY L.1 n) x) else (US L n (TG L.2 n++[x]),0)):=by
 have p:=v.len;unfold Tu;simp only [TH,TF];rw [al v,SL,if_neg (by omega),Ss,if_pos rfl,ZH v.B1 v.B2 (by omega),aJ x _ (by omega),show RS (n:Int) 0=true by unfold RS;simp];rw [lj,SL,Ss];by_cases a:kR [] (UY L.1 n) x=0;rotate_left
 ·rw [if_neg a,if_pos a]
 rw [if_pos a,if_neg (by simp [a])]
 rw [Ub (l:=L.2) (σ:=Unit) (s:=((0:Int),(((0:Int),([]:List (List TY))),(0:Int)))) (λi _=>((i:Int),(((0:Int),([]:List (List TY))),(0:Int)))) (λ_ _ _=>True) (λ_ _ _=>(0,(((L.2.length:Int),(((0:Int),([]:List (List TY))),(0:Int))),()))) () rfl (by omega) trivial (λ_ _=>by
  simp only;rw [re];rfl) (λi rs ls _ j hi c _=>by
   refine ⟨(),?_,trivial,rfl⟩;have e:TG L.2 i=rs:=by unfold TG;rw [hi];rfl
   have f:=(v.own i).1;rw [e] at f;simp only;rw [rl c,R5,S9,Sb hi,SB (by omega)]
   rw [eJ (λk=>(k,(((0:Int),([]:List (List TY))),(0:Int)))) rs.length rfl (by omega) (λk a=>by
    have h:rs[k]? = some rs[k]:=List.getElem?_eq_getElem a;have d:rs[k].1≠x.1:=b _ (List.mem_flatten.2 ⟨rs,List.mem_of_getElem? hi,List.getElem_mem a⟩);simp only
    rw [So,if_pos (by omega),S9,Sb h,Sn,if_neg d,SB (by omega)]) (r:=(0,(((-1:Int),(((0:Int),([]:List (List TY))),(0:Int))),()))) rfl,SL]
   rw [TL hi (by omega)]
   rfl),SL]
 rw [SM,if_pos rfl,Sr];by_cases g:n<L.2.length
 ·rw [if_pos (by omega),S9,Sb (WE g),Sn,if_neg (by omega),S9,S9,Te (Nat.le_refl _),SP,if_pos rfl,Te (Nat.zero_le _)];have hs:Dy (TG L.2 n) 0 (TG L.2 n).length=TG L.2 n:=by unfold Dy;simp
  rw [hs,Te (by simp only [BD,List.length_cons,List.length_nil];omega),ZJ (by omega) (by omega),SL];rfl
 ·rw [if_neg (by omega)];have e:TG L.2 n=[]:=by unfold TG;rw [List.getElem?_eq_none (by omega)];rfl
  rw [Te (by simp),ZJ (by omega) (by omega),SL,e];rfl
end
end Go.Proofs.YtfilfloanndddaaGreat.Pl
