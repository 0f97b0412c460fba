/- Functions of the program and of the specification as plain functions, and laws about them. No condition. -/
import Derived.Test.YtfilfloanndddaaGreatPl0
set_option linter.all false
namespace Go.Proofs.YtfilfloanndddaaGreat.Pl
section
open Go Go.Proofs.YtfilfloanndddaaGreat.Sv
theorem Uo {S β:Type} {f:S->Option (LR S β)} {s0 s1 s2:S} {r:β} (a:f s0=some (.nx s1)) (b:f s1=some (.nx s2)) (c:f s2=some (.dn r)):loop f s0=some r :=
 Ui (n:=3) (by omega) ((Te a).trans ((Te b).trans (Tk c)))
theorem ZI {α β:Type} {c:Bool} {n:Int} {l:List α} {K:Nat->α->Option β} {E:Unit->Option β} (k:Nat) {x:α} (hc:c=true) (b:n=(k:Int)) (d:l[k]? = some x):br c (λ_=>RX n λa=>ix l a λe=>K a e) E=K k x:=by
 subst hc;subst b;rw [R5,S9,Sb d]
theorem V6 {α β:Type} {n:Int} {l:List α} {K:Nat->α->Option β} (k:Nat) {x:α} (b:n=(k:Int)) (c:l[k]? = some x):RX n (λa=>ix l a λd=>K a d)=K k x:=by
 subst b;rw [S9,Sb c]
theorem W8 {l:List S8} {i:Nat} (h:i<=l.length):Ti (l,(i:Int))=some (kx l i):=by
 unfold Ti kx;simp only [TH,TF];rw [Sn];by_cases hi:i=l.length
 ·rw [if_pos (by omega),List.getElem?_eq_none (by omega)]
 ·have a:l[i]? = some l[i]:=by rw [List.getElem?_eq_getElem (by omega)]
  rw [if_neg (by omega),S9,Sb a,a]
section
variable {a b:List S8} (va:VL a) (vb:VL b)
theorem lW {i j:Nat} (hi:i<=a.length) (c:j<=b.length):Wi ([a,b],[(i:Int),(j:Int)])=some (Tt (kx a i) (kx b j)):=by
 unfold Wi;refine Td (x:=(0,((2,[kx a i,kx b j]),()))) (Uo (s1:=(1,[kx a i,([],false)])) (s2:=(2,[kx a i,kx b j])) ?_ ?_ rfl) ?_
 ·show bd (Ti (a,(i:Int))) _=_;rw [W8 hi];rfl
 ·show bd (Ti (b,(j:Int))) _=_;rw [W8 c];rfl
 ·show bd (Ue [kx a i,kx b j]) _=_;rw [Yw (Tz _ _) (Tz _ _)];rfl
include va vb
theorem Yf:Tn a=some (0,0):=by
 rw [XD _ (by have:=va.len;omega),X2 va]
theorem YX:VJ [a,b]=some (0,0):=by
 unfold VJ;refine Td (x:=(1,((0,(0,2)),()))) (Uo (s1:=(0,(0,1))) (s2:=(0,(0,2))) ?_ ?_ rfl) rfl
 ·show bd (Tn a) _=_;rw [Yf va va];rfl
 ·show bd (Tn b) _=_;rw [Yf vb vb];rfl
theorem dw (c:Bool):V4 ([a,b],c)=some (rt a b c 0,(0,0)):=by
 unfold V4;rw [YX va vb,SL,Ss,if_pos rfl];refine Td (x:=(0,((2,[kx a 0,kx b 0]),()))) (Uo (s1:=(1,[kx a 0,([],false)])) (s2:=(2,[kx a 0,kx b 0])) ?_ ?_ rfl) ?_
 ·show bd (Ti (a,((0:Nat):Int))) _=_;rw [W8 (by omega)];rfl
 ·show bd (Ti (b,((0:Nat):Int))) _=_;rw [W8 (by omega)];rfl
 ·show bd (Ue [kx a 0,kx b 0]) _=_;rw [Yw (Tz _ _) (Tz _ _)];rfl
end
theorem XU (x:Bool):Sv.beq x x=true:=by cases x<;>rfl
theorem Xt (x:XC):seq x x=true:=by rw [ZM]
theorem bf (l:List TD) (h:l.length<=1000):TQ (l,l)=some true:=by
 unfold TQ;simp only [TH,TF]
 rw [Ss,if_pos rfl,Yo (l:=l) (σ:=Unit) (s:=(0,false)) (λk _=>((k:Int),false)) (λ_ _ _=>some (1,(((l.length:Int),false),()))) () rfl (by omega) (λc=>by
  simp only;rw [re];rfl) (λk x m c _ a b => .inl ⟨(),by
   simp only;rw [rl b,R5,S9,Sb a,S9,Sb a,Xt,XU,show Hf (NX true (NX true true))=false from rfl,Rd,TL a (by omega)],rfl⟩),SL]
 rfl
theorem bc (l:List Int) (h:l.length<=1000):TK (l,l)=some true:=by
 unfold TK;simp only [TH,TF]
 rw [Ss,if_pos rfl,Yo (l:=l) (σ:=Unit) (s:=(0,false)) (λk _=>((k:Int),false)) (λ_ _ _=>some (1,(((l.length:Int),false),()))) () rfl (by omega) (λc=>by
  simp only;rw [re];rfl) (λk x m c _ a b => .inl ⟨(),by
   simp only;rw [rl b,R5,S9,Sb a,S9,Sb a,Ss,if_pos rfl,TL a (by omega)],rfl⟩),SL]
 rfl
theorem dt (t:Va) (a:t.1.length<=1000) (b:t.2.1.length<=1000):Vn (t,t)=some true:=by
 unfold Vn;rw [Sn,if_pos rfl,bf _ a,SL,R5,bc _ b];rfl
theorem du (p q:TD):Vn (Tt p q,Tt p q)=some true:=dt _ (show 2<=1000 by omega) (show 2<=1000 by omega)
theorem fe {a b:List S8} {i j:Nat} (h:XL a b i j=true):wk (kx a i) (kx b j)=kx a i/\wn (kx a i) (kx b j)=0:=by
 unfold XL at h;unfold wk wn;rw [if_pos h,if_pos h];exact ⟨rfl,rfl⟩
theorem ff {a b:List S8} {i j:Nat} (h:XL a b i j=false):wk (kx a i) (kx b j)=kx b j/\wn (kx a i) (kx b j)=1:=by
 unfold XL at h;unfold wk wn;rw [if_neg (by simp [h]),if_neg (by simp [h])];exact ⟨rfl,rfl⟩
theorem dS (x y:XC):Uk (x,y)=some (if Rz x y=true then -1 else if Rz y x=true then 1 else 0):=by
 unfold Uk U1;simp only [Xt,ba,SL,Rd];rw [Wy,Wy];split
 ·rfl
 ·split<;>rfl
theorem dR (x y:Int):US (x,y)=some (if x<y then -1 else if x>y then 1 else 0):=by
 unfold US Vh;simp only [SL,Ss,if_true,Sr,Sp];split
 ·rfl
 ·split<;>rfl
theorem gK (x y:Int):We [x,y]=some (if x≠0 then x else y):=by
 unfold We;by_cases h:x=0
 ·rw [if_neg (by simp [h])];by_cases a:y=0
  ·refine Td (x:=(1,((0,2),()))) (Uo (s1:=(0,1)) (s2:=(0,2)) ?_ ?_ rfl) (by rw [a];rfl)
   ·refine (ZI 0 rfl rfl rfl).trans ?_;rw [Ss,if_pos h];rfl
   ·refine (ZI 1 rfl rfl rfl).trans ?_;rw [Ss,if_pos a];rfl
  ·refine Td (x:=(0,((y,1),()))) (Ui (n:=2) (by omega) ((Te (s':=(0,1)) ?_).trans (Tk ?_))) rfl
   ·refine (ZI 0 rfl rfl rfl).trans ?_;rw [Ss,if_pos h];rfl
   ·refine (ZI 1 rfl rfl rfl).trans ?_;rw [Ss,if_neg a]
 ·rw [if_pos h];refine Td (x:=(0,((x,0),()))) (Ui (n:=1) (by omega) (Tk ?_)) rfl;refine (ZI 0 rfl rfl rfl).trans ?_;rw [Ss,if_neg h]
section
variable {a b:List S8} (va:VL a) (vb:VL b)
include va vb
theorem YG {i j:Nat} (I:Inv a b i j):VI (Yd a b i j)=some (0,0):=by
 unfold VI;rw [show (Yd a b i j).1=[a,b] from rfl,YX va vb,SL,Ss,if_pos rfl];rw [show (Yd a b i j).2.1=[(i:Int),(j:Int)] from rfl,Ss,if_pos (show Kb (AS [(i:Int),(j:Int)])=Kb (AS [a,b]) from rfl)];refine Td (x:=(1,((0,(0,2)),()))) (Uo (s1:=(0,(0,1))) (s2:=(0,(0,2))) ?_ ?_ rfl) ?_
 ·refine (ZI 0 rfl rfl rfl).trans ?_;rw [Sr,if_neg (by omega),show RX (((0:Int),((0:Int),(0:Int))).2.2)=λ(k:Nat->Option (LR (Int×(Int×Int)) (Nat×((Int×(Int×Int))×Unit))))=>k 0 from rfl];simp only;rw [Sb (x:=a) rfl,Sp,if_neg (by have:=I.ia;simp only [TH,TF];omega)];rfl
 ·refine (ZI 1 rfl rfl rfl).trans ?_;rw [Sr,if_neg (by omega),show RX (((0:Int),((0:Int),(1:Int))).2.2)=λ(k:Nat->Option (LR (Int×(Int×Int)) (Nat×((Int×(Int×Int))×Unit))))=>k 1 from rfl];simp only;rw [Sb (x:=b) rfl,Sp,if_neg (by have:=I.jb;simp only [TH,TF];omega)];rfl
 rw [show neq ((1:Nat),(((0:Int),((0:Int),(2:Int))),())).1 0=false from rfl,Rd,lW I.ia I.jb,SL,show (Yd a b i j).2.2=Tt (kx a i) (kx b j) from rfl,du,SL,show Hf true=false from rfl,Rd,XS (Tz _ _) (Tz _ _),SL];by_cases c:(wk (kx a i) (kx b j)).2=true
 ·rw [if_pos c];rfl
 rw [if_neg c,Ss,if_pos rfl]
 have s : ∀ {x:S8} {f:Nat},i=f+1->a[f]? = some x -> ¬ (if (if Rz x.1 (wk (kx a i) (kx b j)).1=true then (-1:Int) else if Rz (wk (kx a i) (kx b j)).1 x.1=true then 1 else 0)≠0 then (if Rz x.1 (wk (kx a i) (kx b j)).1=true then (-1:Int) else if Rz (wk (kx a i) (kx b j)).1 x.1=true then 1 else 0) else (if (0:Int)<(wn (kx a i) (kx b j):Int) then -1 else if (0:Int)>(wn (kx a i) (kx b j):Int) then 1 else 0))>0:=by
  intro x f hi d
  have p:Rz (wk (kx a i) (kx b j)).1 x.1=false:=by
   cases g:XL a b i j with
   | true =>
    rw [(fe g).1] at c ⊢;unfold kx at c ⊢;cases e:a[i]? with
    | none=>rw [e] at c;exact absurd rfl c
    | some y=>rw [hi] at e;exact Ut (va.lt d e)
   | false =>
    rw [(ff g).1] at c ⊢;unfold kx at c ⊢;cases e:b[j]? with
    | none=>rw [e] at c;exact absurd rfl c
    | some y=>exact I.pa f hi x y d e
  rw [p];have : ¬ (0:Int)>(wn (kx a i) (kx b j):Int):=by omega
  by_cases hs:Rz x.1 (wk (kx a i) (kx b j)).1=true
  ·simp [hs]
  ·simp only [hs,Bool.false_eq_true,if_false,ne_eq,not_true,this];split<;>omega
 have t : ∀ {y:S8} {j':Nat},j=j'+1->b[j']? = some y -> ¬ (if (if Rz y.1 (wk (kx a i) (kx b j)).1=true then (-1:Int) else if Rz (wk (kx a i) (kx b j)).1 y.1=true then 1 else 0)≠0 then (if Rz y.1 (wk (kx a i) (kx b j)).1=true then (-1:Int) else if Rz (wk (kx a i) (kx b j)).1 y.1=true then 1 else 0) else (if (1:Int)<(wn (kx a i) (kx b j):Int) then -1 else if (1:Int)>(wn (kx a i) (kx b j):Int) then 1 else 0))>0:=by
  intro y j' r e
  have q:Rz y.1 (wk (kx a i) (kx b j)).1=true:=by
   cases g:XL a b i j with
   | true =>
    rw [(fe g).1] at c ⊢;unfold kx at c ⊢;cases d:a[i]? with
    | none=>rw [d] at c;exact absurd rfl c
    | some x=>exact I.pb j' r y x e d
   | false =>
    rw [(ff g).1] at c ⊢;unfold kx at c ⊢;cases d:b[j]? with
    | none=>rw [d] at c;exact absurd rfl c
    | some x=>rw [r] at d;exact vb.lt e d
  rw [q];simp
 refine Td (x:=(1,((0,(0,2)),()))) (Uo (s1:=(0,(0,1))) (s2:=(0,(0,2))) ?_ ?_ rfl) rfl
 ·refine (ZI 0 rfl rfl rfl).trans ?_;rw [Sp];by_cases h:(i:Int)>0
  ·rw [if_pos h];obtain ⟨f,l⟩ : ∃ f,i=f+1:=⟨i-1,by omega⟩;have m:f<a.length:=by have:=I.ia;omega
   have d:a[f]? = some a[f]:=by simp [m]
   refine (V6 0 rfl (x:=a) rfl).trans ((V6 f ?_ d).trans ?_)
   ·rw [SB (by have:=va.len;have:=I.ia;omega)];omega
   rw [dS,SL];show bd (US (0,(wn (kx a i) (kx b j):Int))) _=_;rw [dR,SL,gK,SL,Sp,if_neg (s l d)];rfl
  ·rw [if_neg h];rfl
 ·refine (ZI 1 rfl rfl rfl).trans ?_;rw [Sp];by_cases h:(j:Int)>0
  ·rw [if_pos h];obtain ⟨j',n⟩ : ∃ j',j=j'+1:=⟨j-1,by omega⟩;have o:j'<b.length:=by have:=I.jb;omega
   have e:b[j']? = some b[j']:=by simp [o]
   refine (V6 1 rfl (x:=b) rfl).trans ((V6 j' ?_ e).trans ?_)
   ·rw [SB (by have:=vb.len;have:=I.jb;omega)];omega
   rw [dS,SL];show bd (US (1,(wn (kx a i) (kx b j):Int))) _=_;rw [dR,SL,gK,SL,Sp,if_neg (t n e)];rfl
  ·rw [if_neg h];rfl
end
end
section
open Go Go.Proofs.YtfilfloanndddaaGreat.Sv
theorem Wu {l:List S8} {i:Nat} {x:S8} (h:l[i]? = some x):kx l i=(x.1,false):=by unfold kx;rw [h]
theorem Yl {l:List S8} {i:Nat} (h:l[i]? = none):kx l i=([],true):=by unfold kx;rw [h]
theorem ZJ {l:List S8} (v:VL l) {i:Nat} {x:S8} (h:l[i]? = some x):(kx l (i+1)).2=true\/Rz (kx l (i+1)).1 x.1=false:=by
 cases a:l[i+1]? with
 | none=>rw [Yl a];exact .inl rfl
 | some y=>rw [Wu a];exact .inr (Ut (v.lt h a))
theorem X7 {α β:Type} {n:Int} {l:List α} {K:Nat->α->Option β} (k:Nat) {x:α} (c:n=(k:Int)) (b:l[k]? = some x):RX n (λa=>gd (KC a (AS l)) λ_=>ix l a λd=>K a d)=K k x:=by
 subst c;rw [S9,SR,if_pos (show k<AS l from (List.getElem?_eq_some_iff.1 b).1),Sb b]
section
variable {a b:List S8} (va:VL a) (vb:VL b)
include va vb
theorem lx {i j:Nat} (I:Inv a b i j) {x:S8} (c:a[i]? = some x) (g:XL a b i j=true):UO (Yd a b i j)=some (x,(0,(Yd a b (i+1) j,0))):=by
 obtain ⟨f,l⟩:=fe g;have hi:=(List.getElem?_eq_some_iff.1 c).1;have n:=va.len;have e:(wk (kx a i) (kx b j)).2=false:=by rw [f,Wu c]
 obtain ⟨m,h⟩:=XW (p:=kx a i) (q:=kx b j) (k:=kx a (i+1)) (Tz _ _) (Tz _ _) (Tz _ _) e (by rw [f,Wu c];exact ZJ va c)
 have d:rk (kx a i) (kx b j) (kx a (i+1))=(kx a (i+1),kx b j):=by
  unfold rk;unfold XL at g;rw [if_pos g]
 rw [d] at h;unfold UO;rw [YG va vb I,SL,Ss,if_pos rfl];unfold TN TW;refine Td (X3 (show 2<=1048576 by omega)) (Td (X3 (show 2<=1048576 by omega)) ?_);rw [show (Yd a b i j).2.2=Tt (kx a i) (kx b j) from rfl,XS (Tz _ _) (Tz _ _),if_neg (by simp [e]),SL,Ss,if_pos rfl,l];refine (X7 0 rfl (x:=a) rfl).trans ((X7 0 rfl (x:=(i:Int)) rfl).trans ((V6 i rfl c).trans ((X7 0 rfl (x:=(i:Int)) rfl).trans ((X7 0 rfl (x:=(i:Int)) rfl).trans ((X7 0 rfl (x:=a) rfl).trans ((X7 0 rfl (x:=Rl .i64 (i:Int) 1) rfl).trans ?_))))));rw [TJ (by omega),W8 (show i+1<=a.length by omega),SL,h,SL];rfl
theorem ly {i j:Nat} (I:Inv a b i j) {y:S8} (c:b[j]? = some y) (g:XL a b i j=false):UO (Yd a b i j)=some (y,(1,(Yd a b i (j+1),0))):=by
 obtain ⟨f,l⟩:=ff g;have hi:=(List.getElem?_eq_some_iff.1 c).1;have n:=vb.len;have e:(wk (kx a i) (kx b j)).2=false:=by rw [f,Wu c]
 obtain ⟨m,h⟩:=XW (p:=kx a i) (q:=kx b j) (k:=kx b (j+1)) (Tz _ _) (Tz _ _) (Tz _ _) e (by rw [f,Wu c];exact ZJ vb c)
 have d:rk (kx a i) (kx b j) (kx b (j+1))=(kx a i,kx b (j+1)):=by
  unfold rk;unfold XL at g;rw [if_neg (by simp [g])]
 rw [d] at h;unfold UO;rw [YG va vb I,SL,Ss,if_pos rfl];unfold TN TW;refine Td (X3 (show 2<=1048576 by omega)) (Td (X3 (show 2<=1048576 by omega)) ?_);rw [show (Yd a b i j).2.2=Tt (kx a i) (kx b j) from rfl,XS (Tz _ _) (Tz _ _),if_neg (by simp [e]),SL,Ss,if_pos rfl,l];refine (X7 1 rfl (x:=b) rfl).trans ((X7 1 rfl (x:=(j:Int)) rfl).trans ((V6 j rfl c).trans ((X7 1 rfl (x:=(j:Int)) rfl).trans ((X7 1 rfl (x:=(j:Int)) rfl).trans ((X7 1 rfl (x:=b) rfl).trans ((X7 1 rfl (x:=Rl .i64 (j:Int) 1) rfl).trans ?_))))));rw [TJ (by omega),W8 (show j+1<=b.length by omega),SL,h,SL];rfl
def YS (a b:List S8) (n:Nat):TC:=Yd a b (TM a b n).1 (TM a b n).2
def Zl (a b:List S8) (n:Nat):Nat:=if XL a b (TM a b n).1 (TM a b n).2=true then 0 else 1
theorem Za {n:Nat} {x:S8} (h:n<a.length+b.length) (c:ZF a b n=some x):UO (YS a b n)=some (x,((Zl a b n:Int),(YS a b (n+1),0))):=by
 obtain ⟨d,hs⟩:=V7 va vb (n:=n) (by omega);unfold YS Zl;rw [show TM a b (n+1)=if XL a b (TM a b n).1 (TM a b n).2=true then ((TM a b n).1+1,(TM a b n).2) else ((TM a b n).1,(TM a b n).2+1) from rfl]
 unfold ZF at c;cases g:XL a b (TM a b n).1 (TM a b n).2 with
 | true=>rw [if_pos g] at c;rw [lx va vb d c g];simp
 | false=>rw [if_neg (by simp [g])] at c;rw [ly va vb d c g];simp
end
theorem Zm {s:UI} (b:s.2.1.length<=32) (a:s.1=false->s.2.1=[]):VV s=some 0:=by
 unfold VV;rw [YP,SL,if_neg (by omega),Ss,if_pos rfl,Tl,Sx];cases h:s.1 with
 | true=>rfl
 | false=>rw [if_neg (by simp),Tl,Vv,if_pos (a h)]
def keep (s:UI) (x:S8):Bool := !(s.1&&decide (x.1=s.2.1)) && !(s.2.2&&x.2.2.1)
theorem eP {s:UI} {x:S8} (e:s.2.1.length<=32) (f:s.1=false->s.2.1=[]) (g:kE x=0) (a:s.1=true->Rz x.1 s.2.1=false):UR (s,x)=some (keep s x,((true,(x.1,s.2.2)),0)):=by
 unfold UR keep;rw [Zm e f,SL,Ss,if_pos rfl,W0,g,SL,Ss,if_pos rfl];obtain ⟨s1,s2,c⟩:=s;obtain ⟨h,i,d,j⟩:=x;simp only at a ⊢;cases s1 with
 | true =>
  have:=a rfl;simp only [R5,Rd,Wy,Vv,this,Bool.false_eq_true,if_false];by_cases b:h=s2
  ·simp [b]
  ·simp only [b,if_false,decide_false];cases c<;>cases d<;>rfl
 | false =>
  simp only [R5,Rd];cases c<;>cases d<;>rfl
def Vu:UI->List S8->List S8
 | _,[]=>[]
 | s,x::l=>(if keep s x=true then [x] else [])++Vu (true,(x.1,s.2.2)) l
theorem Xb : ∀ (s:UI) (l:List S8),(Vu s l).length<=l.length
 | _,[]=>Nat.le_refl _
 | s,x::l=>by
  have:=Xb (true,(x.1,s.2.2)) l;unfold Vu;by_cases h:keep s x=true
  ·rw [if_pos h];simp;omega
  ·rw [if_neg h];simp;omega
def Yv:UI->List S8->Prop
 | _,[]=>True
 | s,x::l=>kE x=0/\(s.1=true->Rz x.1 s.2.1=false)/\Yv (true,(x.1,s.2.2)) l
theorem ZW {x:S8} (h:kE x=0):x.1.length<=32:=by
 unfold kE at h;by_cases hh:x.1.length>32\/x.2.1.length>64
 ·rw [if_pos hh] at h;cases h
 ·omega
theorem U6 {α β σ S:Type} {l:List α} (mk:Nat->σ->S) (Inv:List α->Nat->σ->Prop) (F:List α->Nat->σ->β) {f:S->Option (LR S β)} {s:S} (a:σ) (p:s=mk 0 a) (z:l.length<=9223372036854775807) (hi:Inv l 0 a)
  (w : ∀ a,Inv [] l.length a->f (mk l.length a)=some (.dn (F [] l.length a)))
  (hc : ∀ k x m a,l.drop k=x::m->l[k]? = some x->k<l.length->Inv (x::m) k a -> ∃ b,f (mk k a)=some (.nx (mk (k+1) b))/\Inv m (k+1) b/\F (x::m) k a=F m (k+1) b):loop f s=some (F l 0 a):=by
 subst p
 have e : ∀ (m:List α) (k n:Nat) (a:σ),l.drop k=m->k<=l.length->m.length<n->Inv m k a->IJ n f (mk k a)=some (F m k a):=by
  intro m
  induction m with
  | nil =>
   intro k n a c u d hi;obtain ⟨n,rfl⟩ : ∃ j,n=j+1:=⟨n-1,by omega⟩
   have h:k=l.length:=by
    have:=congrArg List.length c;simp at this;omega
   subst h;exact Tk (w a hi)
  | cons x m y =>
   intro k n a c u d hi;obtain ⟨n,rfl⟩ : ∃ j,n=j+1:=⟨n-1,by omega⟩
   have o:l[k]? = some x:=by
    have:=congrArg List.head? c;rw [List.head?_drop] at this;simpa using this
   have g:k<l.length:=(List.getElem?_eq_some_iff.1 o).1
   have i:l.drop (k+1)=m:=by
    have:=congrArg List.tail c;rw [List.tail_drop] at this;simpa using this
   obtain ⟨b,q,r,t⟩:=hc k x m a c o g hi;rw [Te q,t];exact y (k+1) n b i (by omega) (by simp at d;omega) r
 exact e l 0 _ a (by simp) (by omega) (by omega) hi
def Ua:UI->List S8->UI
 | s,[]=>s
 | s,x::l=>Ua (true,(x.1,s.2.2)) l
theorem aN {β:Type} {out:List S8} {n:Nat} (h:out.length<=n) (a:n<=20000) (x:S8) (k:Unit->Option β):gd (CD (BD (AS out) (AS [x])) 1048576) k=k ():=UC (by simp only [BD,AS,List.length_cons,List.length_nil];omega) k
theorem dq {l:List S8} {b:Bool} (B:l.length<=20000) (A:Yv (false,([],b)) l):Vk (l,b)=some (Vu (false,([],b)) l,(0,0)):=by
 unfold Vk Un;simp only [TH,TF];rw [Sp,if_neg (by omega),SL]
 rw [U6 (l:=l) (σ:=UI×List S8) (s:=(0,(0,(0,((false,([],b)),[]))))) (λk a=>((0:Int),((k:Int),((0:Int),a))))
  (λm k a=>Yv a.1 m/\a.1.2.1.length<=32/\(a.1.1=false->a.1.2.1=[])/\a.2.length<=k/\k+m.length=l.length)
  (λm k a=>(1,((0,((l.length:Int),(0,(Ua a.1 m,a.2++Vu a.1 m)))),()))) ((false,([],b)),[]) rfl (by omega) ⟨A,by simp,λ_=>rfl,by simp,by simp⟩ ?_ ?_,SL]
 ·simp;rfl
 ·intro a _;simp only;rw [re,Rd];simp [Ua,Vu]
 ·rintro k x m ⟨s,out⟩ C r z ⟨⟨d,e,g⟩,i,j,n,o⟩;simp only at d e g i j n ⊢;refine ⟨((true,(x.1,s.2.2)),out++if keep s x=true then [x] else []),?_,⟨g,ZW d,(λh=>by cases h),?_,by simp at o;omega⟩,?_⟩
  ·rw [rl z,R5,S9,Sb r,Zm i j,SL,Ss,if_pos rfl,W0,d,SL,Ss,if_pos rfl];unfold keep Tb;obtain ⟨s1,s2,t⟩:=s;obtain ⟨f,u,c,w⟩:=x;simp only [SL,TL r (show l.length<=9223372036854775807 by omega)] at e ⊢;have q : ∀ {β:Type} (k:Unit->Option β),gd (CD (BD out.length [(f,(u,(c,w)))].length) 1048576) k=k ():=λk=>aN n (by simp at o;omega) (f,(u,(c,w))) k;cases s1 with
   | true =>
    have y:=e rfl;simp only [R5,Rd,Vv,y,q];by_cases p:f=s2
    ·simp [p]
    ·simp only [p,if_false,decide_false];cases t<;>cases c<;>simp [R5,Rd,Ik]
   | false =>
    simp only [R5,Rd,q];cases t<;>cases c<;>simp [R5,Rd,Ik]
  ·split<;>simp<;>omega
  ·simp only [Ua,Vu,List.append_assoc]
end
section
open Go Go.Proofs.YtfilfloanndddaaGreat.Sv
theorem al : ∀ (l:List S8) (s:UI) (x:S8),Vu s (l++[x])=Vu s l++(if keep (Ua s l) x=true then [x] else [])
 | [],s,x=>by
  show (if keep s x=true then [x] else [])++[]=[]++(if keep s x=true then [x] else [])
  rw [List.append_nil,List.nil_append]
 | y::l,s,x=>by
  show (if keep s y=true then [y] else [])++Vu _ (l++[x])=((if keep s y=true then [y] else [])++Vu _ l)++_
  rw [al l,List.append_assoc];rfl
theorem YE : ∀ (l:List S8) (s:UI) (x:S8),Ua s (l++[x])=(true,(x.1,(Ua s l).2.2))
 | [],s,x=>rfl
 | y::l,s,x=>by simp only [List.cons_append,Ua,YE l]
theorem Wv : ∀ (l:List S8) (s:UI),(Ua s l).2.2=s.2.2
 | [],s=>rfl
 | y::l,s=>by rw [Ua,Wv l]
theorem bM : ∀ (l:List S8) (s:UI) (x:S8),Yv s l->kE x=0->((Ua s l).1=true->Rz x.1 (Ua s l).2.1=false)->Yv s (l++[x])
 | [],s,x,_,a,b=>⟨a,b,trivial⟩
 | y::l,s,x,⟨a,b,c⟩,d,h5=>⟨a,b,bM l _ x c d h5⟩
theorem Z1 : ∀ (l:List S8) (s:UI),Yv s l->s.2.1.length<=32->(s.1=false->s.2.1=[])->(Ua s l).2.1.length<=32/\((Ua s l).1=false->(Ua s l).2.1=[])
 | [],s,_,h1,h2=>⟨h1,h2⟩
 | y::l,s,⟨a,_,b⟩,_,_=>Z1 l _ b (ZW a) (λh=>by cases h)
abbrev s0 (a:Bool):UI:=(false,([],a))
def U7 (a b:List S8) (c:Bool) (n:Nat):XH:=(YS a b n,(Ua (s0 c) (TU a b n),(Vu (s0 c) (TU a b n),(n:Int))))
def XM (a b:List S8):Nat->List Int
 | 0=>[]
 | n+1=>XM a b n++[(Zl a b n:Int)]
theorem Yz (a b:List S8) : ∀ n,(XM a b n).length=n
 | 0=>rfl
 | n+1=>by simp [XM,Yz a b n]
theorem Xh {S β:Type} {f:S->Option (LR S β)} {r:β} (mk:Nat->S) (a n:Nat) {s:S} (b:s=mk a) (d:a<=n) (e:n<18446744073709551616) (hs : ∀ k,a<=k->k<n->f (mk k)=some (.nx (mk (k+1)))) (c:f (mk n)=some (.dn r)):loop f s=some r:=by
 have h:=ZZ (f:=f) (r:=r) (λk=>mk (a+k)) (n-a) (s:=s) b (by omega) (λk d=>hs (a+k) (by omega) (by omega)) (by show f (mk (a+(n-a)))=_;rw [show a+(n-a)=n by omega];exact c);exact h
theorem ZR (l:List S8) (h:l.length<=100000):VW (l,l)=some true:=by
 unfold VW;simp only [TH,TF]
 rw [Ss,if_pos rfl,Yo (l:=l) (σ:=Unit) (s:=(false,0)) (λk _=>(false,(k:Int))) (λ_ _ _=>some (1,((false,(l.length:Int)),()))) () rfl (by omega) (λc=>by
  simp only;rw [re];rfl) (λk x m c _ a b => .inl ⟨(),by
   simp only;rw [rl b,R5,S9,Sb a,S9,Sb a,Xt,Xt,XU,show RR x.2.2.2 x.2.2.2=true by unfold RR;simp,show Hf (NX true (NX true (NX true (NX true true))))=false from rfl,Rd,TL a (by omega)],rfl⟩),SL]
 rfl
section
variable {a b:List S8} (va:VL a) (vb:VL b)
include va vb
theorem WY {n:Nat} {x:S8} (c:ZF a b n=some x):TU a b (n+1)=TU a b n++[x]:=by
 show (match ZF a b n with
  | some x=>TU a b n++[x]
  | none=>TU a b n)=_
 rw [c]
theorem W3 (d:Bool) : ∀ {n:Nat},n<=a.length+b.length->Yv (s0 d) (TU a b n)
 | 0,_=>trivial
 | n+1,h=>by
  obtain ⟨x,c,_⟩:=VX va vb (n:=n) (by omega);rw [WY va vb c];refine bM _ _ _ (W3 d (by omega)) (gJ va vb c) λ_ => ?_;cases n with
  | zero=>rename_i f;cases f
  | succ m =>
   obtain ⟨y,e,_⟩:=VX va vb (n:=m) (by omega);rw [WY va vb e,YE];exact de va vb (by omega) e c
theorem bm (c:Bool) {n:Nat} (h:n<=a.length+b.length):(Ua (s0 c) (TU a b n)).2.1.length<=32/\((Ua (s0 c) (TU a b n)).1=false->(Ua (s0 c) (TU a b n)).2.1=[]) :=
 Z1 _ _ (W3 va vb c h) (by simp) (λ_=>rfl)
theorem mO {n:Nat} (h:n=a.length+b.length):(wk (kx a (TM a b n).1) (kx b (TM a b n).2)).2=true:=by
 obtain ⟨c,hs⟩:=V7 va vb (n:=n) (by omega);have d:=c.ia;have e:=c.jb;rw [Yl (List.getElem?_eq_none (by omega)),Yl (List.getElem?_eq_none (by omega))];rfl
theorem mQ {n:Nat} {x:S8} (c:ZF a b n=some x):(wk (kx a (TM a b n).1) (kx b (TM a b n).2)).2=false/\wn (kx a (TM a b n).1) (kx b (TM a b n).2)=Zl a b n:=by
 unfold ZF at c;unfold Zl;cases g:XL a b (TM a b n).1 (TM a b n).2 with
 | true=>rw [if_pos g] at c;rw [(fe g).1,(fe g).2,Wu c];exact ⟨rfl,rfl⟩
 | false=>rw [if_neg (by simp [g])] at c;rw [(ff g).1,(ff g).2,Wu c];exact ⟨rfl,rfl⟩
theorem lw:XF [a,b]=some (TU a b (a.length+b.length),(XM a b (a.length+b.length),0)):=by
 have u:=va.len;have w:=vb.len;unfold XF;rw [YX va vb,SL,Ss,if_pos rfl];refine Eq.trans (b:=bd (loop _ (0,[([],false),([],false)])) _) rfl ?_;refine Td (x:=(0,((2,[kx a 0,kx b 0]),()))) (Uo (s1:=(1,[kx a 0,([],false)])) (s2:=(2,[kx a 0,kx b 0])) ?_ ?_ rfl) ?_
 ·show bd (Ti (a,((0:Nat):Int))) _=_;rw [W8 (by omega)];rfl
 ·show bd (Ti (b,((0:Nat):Int))) _=_;rw [W8 (by omega)];rfl
 rw [show ((0:Nat),(((2:Int),[kx a 0,kx b 0]),())).2.1.2=[kx a 0,kx b 0] from rfl,Yw (Tz _ _) (Tz _ _),SL]
 refine Td (x:=(0,((TU a b (a.length+b.length),(XM a b (a.length+b.length),((),([((TM a b (a.length+b.length)).1:Int),((TM a b (a.length+b.length)).2:Int)],Tt (kx a (TM a b (a.length+b.length)).1) (kx b (TM a b (a.length+b.length)).2))))),())))
  (Xh (λk=>(TU a b k,(XM a b k,((),([((TM a b k).1:Int),((TM a b k).2:Int)],Tt (kx a (TM a b k).1) (kx b (TM a b k).2)))))) 0 (a.length+b.length) rfl (by omega) (by omega) (λk _ r => ?_) ?_) rfl
 ·obtain ⟨x,c,_⟩:=VX va vb (n:=k) r;obtain ⟨j,s⟩:=mQ va vb c;obtain ⟨t,hs⟩:=V7 va vb (n:=k) (by omega);have h:(TU a b k).length=k:=Us va vb (by omega);have i:=Yz a b k;simp only;rw [XS (Tz _ _) (Tz _ _),if_neg (by simp [j]),SL,Ss,if_pos rfl,s];rw [WY va vb c];unfold ZF at c;rw [show XM a b (k+1)=XM a b k++[(Zl a b k:Int)] from rfl];unfold Zl;rw [show TM a b (k+1)=if XL a b (TM a b k).1 (TM a b k).2=true then ((TM a b k).1+1,(TM a b k).2) else ((TM a b k).1,(TM a b k).2+1) from rfl]
  have l : ∀ {β:Type} (y:S8) (q:Unit->Option β),gd (CD (BD (AS (TU a b k)) (AS [y])) 1048576) q=q ():=λy q=>UC (by simp only [BD,AS,h,List.length_cons,List.length_nil];omega) q;have o : ∀ {β:Type} (y:Int) (q:Unit->Option β),gd (CD (BD (AS (XM a b k)) (AS [y])) 1048576) q=q ():=λy q=>UC (by simp only [BD,AS,i,List.length_cons,List.length_nil];omega) q;cases g:XL a b (TM a b k).1 (TM a b k).2 with
  | true =>
   rw [if_pos g] at c;obtain ⟨d,_⟩:=fe g;obtain ⟨m,f⟩:=XW (p:=kx a (TM a b k).1) (q:=kx b (TM a b k).2) (k:=kx a ((TM a b k).1+1)) (Tz _ _) (Tz _ _) (Tz _ _) j (by rw [d,Wu c];exact ZJ va c)
   have e:rk (kx a (TM a b k).1) (kx b (TM a b k).2) (kx a ((TM a b k).1+1))=(kx a ((TM a b k).1+1),kx b (TM a b k).2):=by
    unfold rk;unfold XL at g;rw [if_pos g]
   rw [e] at f;have hi:=(List.getElem?_eq_some_iff.1 c).1;simp only [if_true];refine (X7 0 rfl (x:=a) rfl).trans ((X7 0 rfl (x:=((TM a b k).1:Int)) rfl).trans ((V6 _ rfl c).trans ?_));rw [l,o];refine (X7 0 rfl (x:=((TM a b k).1:Int)) rfl).trans ((X7 0 rfl (x:=((TM a b k).1:Int)) rfl).trans ((X7 0 rfl (x:=a) rfl).trans ((X7 0 rfl (x:=Rl .i64 ((TM a b k).1:Int) 1) rfl).trans ?_)));rw [TJ (by omega),W8 (by omega),SL,f,SL];rfl
  | false =>
   rw [if_neg (by simp [g])] at c;obtain ⟨d,_⟩:=ff g;obtain ⟨m,f⟩:=XW (p:=kx a (TM a b k).1) (q:=kx b (TM a b k).2) (k:=kx b ((TM a b k).2+1)) (Tz _ _) (Tz _ _) (Tz _ _) j (by rw [d,Wu c];exact ZJ vb c)
   have e:rk (kx a (TM a b k).1) (kx b (TM a b k).2) (kx b ((TM a b k).2+1))=(kx a (TM a b k).1,kx b ((TM a b k).2+1)):=by
    unfold rk;unfold XL at g;rw [if_neg (by simp [g])]
   rw [e] at f;have hi:=(List.getElem?_eq_some_iff.1 c).1;simp only [Bool.false_eq_true,if_false];refine (X7 1 rfl (x:=b) rfl).trans ((X7 1 rfl (x:=((TM a b k).2:Int)) rfl).trans ((V6 _ rfl c).trans ?_));rw [l,o];refine (X7 1 rfl (x:=((TM a b k).2:Int)) rfl).trans ((X7 1 rfl (x:=((TM a b k).2:Int)) rfl).trans ((X7 1 rfl (x:=b) rfl).trans ((X7 1 rfl (x:=Rl .i64 ((TM a b k).2:Int) 1) rfl).trans ?_)));rw [TJ (by omega),W8 (by omega),SL,f,SL];rfl
 ·simp only;rw [XS (Tz _ _) (Tz _ _),if_pos (mO va vb rfl),SL,Ss,if_neg (by decide),Ss,if_neg (by decide)]
end
end
section
open Go Go.Proofs.YtfilfloanndddaaGreat.Sv
theorem dV {β:Type} {out:List S8} {n:Nat} (h:out.length<=n) (a:n<=20000) (x:S8) (k:Unit->Option β):gd (CD (BD out.length [x].length) 1048576) k=k ():=aN h a x k
section
variable {a b:List S8} (va:VL a) (vb:VL b)
include va vb
theorem XG {n:Nat} (h:n<=a.length+b.length):(TU a b (a.length+b.length)).take n=TU a b n:=bq va vb (Nat.le_refl _) h
theorem X6 {n:Nat} {x:S8} (c:Bool) (d:ZF a b n=some x):Ua (s0 c) (TU a b (n+1))=(true,(x.1,c)):=by
 rw [WY va vb d,YE,Wv]
theorem cE (c:Bool) {n:Nat} (h:n<=a.length+b.length):V5 (U7 a b c n)=some 0:=by
 obtain ⟨e,hs⟩:=V7 va vb (n:=n) h;have i:=va.len;have j:=vb.len;have f:=Xb (s0 c) (TU a b n);have g:(TU a b n).length=n:=Us va vb h;unfold V5;rw [show (U7 a b c n).1=Yd a b (TM a b n).1 (TM a b n).2 from rfl,YG va vb e,SL,Ss,if_pos rfl];refine Td (x:=(0,((2,(n:Int)),()))) (Uo (s1:=(1,((TM a b n).1:Int))) (s2:=(2,(n:Int))) ?_ ?_ rfl) ?_
 ·refine (ZI 0 rfl rfl (x:=((TM a b n).1:Int)) rfl).trans ?_;show some (LR.nx ((1:Int),Rl .i64 0 ((TM a b n).1:Int)))=_;rw [R9 (by omega),Int.zero_add]
 ·refine (ZI 1 rfl rfl (x:=((TM a b n).2:Int)) rfl).trans ?_;show some (LR.nx ((2:Int),Rl .i64 ((TM a b n).1:Int) ((TM a b n).2:Int)))=_;rw [R9 (by omega),show ((TM a b n).1:Int)+((TM a b n).2:Int)=(n:Int) by omega]
 simp only [TH,TF];rw [show (U7 a b c n).2.2.1=Vu (s0 c) (TU a b n) from rfl,show (U7 a b c n).2.2.2=(n:Int) from rfl,show (U7 a b c n).2.1=Ua (s0 c) (TU a b n) from rfl,Sp,if_neg (by omega),Sp,if_neg (by omega),Ss,if_pos rfl];rw [show (Yd a b (TM a b n).1 (TM a b n).2).1=[a,b] from rfl,lw va vb,SL,Ss,if_pos rfl,S9];rw [UC (by rw [Us va vb (Nat.le_refl _)];exact h),UC (Nat.zero_le _)];rw [show Dy (TU a b (a.length+b.length)) 0 n=TU a b n from by unfold Dy;rw [List.drop_zero,Nat.sub_zero];exact XG va vb h,Wv];rw [show (s0 c).2.2=c from rfl,dq (by omega) (W3 va vb c h),SL,Ss,if_pos rfl];unfold Un;rw [SL,Sp];cases n with
 | zero =>
  rw [if_neg (by omega),ZR _ (by omega),SL,ba,Rd];show br (Hf (NX (Sv.beq false false) (NX (seq [] []) (NX (Sv.beq c c) true)))) _ _=_;rw [XU,XU,Xt];rfl
 | succ m =>
  obtain ⟨x,d,_⟩:=VX va vb (n:=m) (by omega);rw [if_pos (by omega),show Rp .i64 ((m+1:Nat):Int) 1=(m:Int) by rw [SB (by omega)];omega,S9];rw [Sb (x:=x) (by rw [Xi va vb (Nat.le_refl _) (by omega)];exact d),ZR _ (by omega),SL,ba,Rd,X6 va vb c d];rw [XU,XU,Xt];rfl
theorem gF {n:Nat} (h:n<=a.length+b.length):Wh (YS a b n)=some (((a.length+b.length-n:Nat):Int),0):=by
 obtain ⟨c,hs⟩:=V7 va vb (n:=n) h;have f:=va.len;have g:=vb.len;have d:=c.ia;have e:=c.jb;unfold Wh;rw [show YS a b n=Yd a b (TM a b n).1 (TM a b n).2 from rfl,YG va vb c,SL,Ss,if_pos rfl];refine Td (x:=(0,((2,((a.length+b.length-n:Nat):Int)),()))) (Uo (s1:=(1,(a.length:Int)-((TM a b n).1:Int))) (s2:=(2,((a.length+b.length-n:Nat):Int))) ?_ ?_ rfl) rfl
 ·refine (ZI 0 rfl rfl (x:=a) rfl).trans ((V6 0 rfl (x:=((TM a b n).1:Int)) rfl).trans ?_);simp only [TH,TF];rw [SB (by omega)];show some (LR.nx ((1:Int),Rl .i64 0 ((a.length:Int)-((TM a b n).1:Int))))=_;rw [R9 (by omega),Int.zero_add]
 ·refine (ZI 1 rfl rfl (x:=b) rfl).trans ((V6 1 rfl (x:=((TM a b n).2:Int)) rfl).trans ?_);simp only [TH,TF];rw [SB (by omega)];show some (LR.nx ((2:Int),Rl .i64 ((a.length:Int)-((TM a b n).1:Int)) ((b.length:Int)-((TM a b n).2:Int))))=_;rw [R9 (by omega),show (a.length:Int)-((TM a b n).1:Int)+((b.length:Int)-((TM a b n).2:Int))=((a.length+b.length-n:Nat):Int) by omega]
theorem ZC (c:Bool) {n:Nat} (h:n<=a.length+b.length):UA (U7 a b c n)=some (((a.length+b.length-n:Nat):Int),0):=by
 unfold UA;rw [cE va vb c h,SL,Ss,if_pos rfl,show (U7 a b c n).1=YS a b n from rfl,gF va vb h];rfl
theorem ZP (c:Bool) {n:Nat} {x:S8} (d:ZF a b n=some x):U7 a b c (n+1)=(YS a b (n+1),((true,(x.1,c)),(Vu (s0 c) (TU a b n)++(if keep (Ua (s0 c) (TU a b n)) x=true then [x] else []),((n+1:Nat):Int)))):=by
 unfold U7;rw [WY va vb d,YE,Wv,al]
theorem Xu (c:Bool) {n:Nat} {x:S8} (h:n<a.length+b.length) (e:ZF a b n=some x):UR (Ua (s0 c) (TU a b n),x)=some (keep (Ua (s0 c) (TU a b n)) x,((true,(x.1,c)),0)):=by
 have d:=bm va vb c (n:=n) (by omega);rw [eP d.1 d.2 (gJ va vb e),Wv];intro g;cases n with
 | zero=>cases g
 | succ m =>
  obtain ⟨y,f,_⟩:=VX va vb (n:=m) (by omega);rw [X6 va vb c f];exact de va vb (by omega) f e
def mW (k:Int) (s:XH):Int×(Int×(List (List S8)×(List Int×(List TD×(List Int×(Int×(Bool×(XC×(Bool×(List S8×Int)))))))))) :=
 (k,(0,(s.1.1,(s.1.2.1,(s.1.2.2.1,(s.1.2.2.2.1,(s.1.2.2.2.2,(s.2.1.1,(s.2.1.2.1,(s.2.1.2.2,(s.2.2.1,s.2.2.2)))))))))))
theorem aB (c:Bool) {n:Nat} (h:n<=a.length+b.length) {k:Nat}:UN (U7 a b c n,(k:Int))=some (U7 a b c (n+min k (a.length+b.length-n)),(((min k (a.length+b.length-n):Nat):Int),0)):=by
 have w:=va.len;have z:=vb.len;have d : ∀ m,m<=a.length+b.length->(Vu (s0 c) (TU a b m)).length<=m:=λm s=>by have:=Xb (s0 c) (TU a b m);have:=Us va vb s;omega
 obtain ⟨u,t⟩ : ∃ u,u=min k (a.length+b.length-n):=⟨_,rfl⟩
 have i:Sz (k:Int) ((a.length+b.length-n:Nat):Int)=(u:Int):=by
  unfold Sz;split<;>omega
 rw [<- t];unfold UN;rw [ZC va vb c h,SL,Ss,if_pos rfl];simp only [i,TH,TF];rw [Sr,if_neg (by omega),show (U7 a b c n).2.2.2=(n:Int) from rfl,R9 (by omega),Sp,if_neg (by omega)];rw [show (U7 a b c n).2.2.1=Vu (s0 c) (TU a b n) from rfl,show (U7 a b c n).1=YS a b n from rfl,UC (by have:=d n h;omega),UC (show (YS a b n).2.1.length<=1048576 from (show 2<=1048576 by omega)),Sr];by_cases r:u=0
 ·rw [r,if_neg (by omega)];rfl
 rw [if_pos (by omega)];obtain ⟨x,o,_⟩:=VX va vb (n:=n) (by omega);rw [Za va vb (by omega) o,SL,Ss,if_pos rfl,show (U7 a b c n).2.1=Ua (s0 c) (TU a b n) from rfl,Xu va vb c (by omega) o,SL,Ss,if_pos rfl]
 have q : ∀ j,1<=j->j<u -> ∃ y,ZF a b (n+j)=some y:=λj f g=>by
  obtain ⟨y,e,_⟩:=VX va vb (n:=n+j) (by omega);exact ⟨y,e⟩
 rw [Sx];have hS:=ZP va vb c o;cases p:keep (Ua (s0 c) (TU a b n)) x with
 | true =>
  rw [p] at hS;rw [if_pos rfl,dV (d n h) (by omega)];refine Td (x:=(1,(mW u (U7 a b c (n+u)),()))) (Xh (λj=>mW j (U7 a b c (n+j))) 1 u ?_ (by omega) (by omega) (λj f g => ?_) ?_) ?_
  ·rw [hS,show Rl .i64 (n:Int) 1=((n+1:Nat):Int) from TJ (by omega)];rfl
  ·obtain ⟨y,e⟩:=q j f g;show br (SW (j:Int) (u:Int)) _ _=_;rw [Sr,if_pos (by omega)];show bd (UO (YS a b (n+j))) _=_;rw [Za va vb (by omega) e,SL,Ss,if_pos rfl];show bd (UR (Ua (s0 c) (TU a b (n+j)),y)) _=_;rw [Xu va vb c (by omega) e,SL,Ss,if_pos rfl,Sx,show n+(j+1)=n+j+1 by omega,ZP va vb c e];cases l:keep (Ua (s0 c) (TU a b (n+j))) y with
   | true =>
    rw [if_pos rfl,if_pos rfl];show gd (CD (BD (AS (Vu (s0 c) (TU a b (n+j)))) (AS [y])) 1048576) _=_;rw [aN (d _ (by omega)) (by omega)];show some (LR.nx (Rl .i64 (j:Int) 1,_))=_;unfold mW;simp only [TJ (show j+1<=9223372036854775807 by omega),Ik];rw [show Rl .i64 (U7 a b c (n+j)).2.2.2 1=((n+j+1:Nat):Int) from TJ (by omega)];rfl
   | false =>
    rw [if_neg (by simp),if_neg (by simp)];show some (LR.nx (Rl .i64 (j:Int) 1,_))=_;unfold mW;simp only [TJ (show j+1<=9223372036854775807 by omega)];rw [show Rl .i64 (U7 a b c (n+j)).2.2.2 1=((n+j+1:Nat):Int) from TJ (by omega),List.append_nil];rfl
  ·show br (SW (u:Int) (u:Int)) _ _=_;rw [Sr,if_neg (by omega)]
  ·rfl
 | false =>
  rw [p] at hS;rw [if_neg (by simp)];refine Td (x:=(1,(mW u (U7 a b c (n+u)),()))) (Xh (λj=>mW j (U7 a b c (n+j))) 1 u ?_ (by omega) (by omega) (λj f g => ?_) ?_) ?_
  ·rw [hS,show Rl .i64 (n:Int) 1=((n+1:Nat):Int) from TJ (by omega),if_neg (by simp),List.append_nil];rfl
  ·obtain ⟨y,e⟩:=q j f g;show br (SW (j:Int) (u:Int)) _ _=_;rw [Sr,if_pos (by omega)];show bd (UO (YS a b (n+j))) _=_;rw [Za va vb (by omega) e,SL,Ss,if_pos rfl];show bd (UR (Ua (s0 c) (TU a b (n+j)),y)) _=_;rw [Xu va vb c (by omega) e,SL,Ss,if_pos rfl,Sx,show n+(j+1)=n+j+1 by omega,ZP va vb c e];cases l:keep (Ua (s0 c) (TU a b (n+j))) y with
   | true =>
    rw [if_pos rfl,if_pos rfl];show gd (CD (BD (AS (Vu (s0 c) (TU a b (n+j)))) (AS [y])) 1048576) _=_;rw [aN (d _ (by omega)) (by omega)];show some (LR.nx (Rl .i64 (j:Int) 1,_))=_;unfold mW;simp only [TJ (show j+1<=9223372036854775807 by omega),Ik];rw [show Rl .i64 (U7 a b c (n+j)).2.2.2 1=((n+j+1:Nat):Int) from TJ (by omega)];rfl
   | false =>
    rw [if_neg (by simp),if_neg (by simp)];show some (LR.nx (Rl .i64 (j:Int) 1,_))=_;unfold mW;simp only [TJ (show j+1<=9223372036854775807 by omega)];rw [show Rl .i64 (U7 a b c (n+j)).2.2.2 1=((n+j+1:Nat):Int) from TJ (by omega),List.append_nil];rfl
  ·show br (SW (u:Int) (u:Int)) _ _=_;rw [Sr,if_neg (by omega)]
  ·rfl
end
end
section
open Go Go.Proofs.YtfilfloanndddaaGreat.Sv
theorem WX {α β σ S:Type} {l:List α} (mk:Nat->σ->S) (I:List α->Nat->σ->Prop) (Q:β->Prop) {f:S->Option (LR S β)} {s:S} (a:σ) (t:s=mk 0 a) (z:l.length<=9223372036854775807) (hi:I l 0 a)
  (w : ∀ a,I [] l.length a -> ∃ r,f (mk l.length a)=some (.dn r)/\Q r)
  (hc : ∀ k x m a,l.drop k=x::m->l[k]? = some x->k<l.length->I (x::m) k a->(∃ b,f (mk k a)=some (.nx (mk (k+1) b))/\I m (k+1) b) \/ ∃ r,f (mk k a)=some (.dn r)/\Q r) : ∃ r,loop f s=some r/\Q r:=by
 subst t
 have h : ∀ (m:List α) (k n:Nat) (a:σ),l.drop k=m->k<=l.length->m.length<n->I m k a -> ∃ r,IJ n f (mk k a)=some r/\Q r:=by
  intro m
  induction m with
  | nil =>
   intro k n a e u g hi;obtain ⟨n,rfl⟩ : ∃ j,n=j+1:=⟨n-1,by omega⟩
   have o:k=l.length:=by
    have:=congrArg List.length e;simp at this;omega
   subst o;obtain ⟨r,c,d⟩:=w a hi;exact ⟨r,Tk c,d⟩
  | cons x m y =>
   intro k n a e u g hi;obtain ⟨n,rfl⟩ : ∃ j,n=j+1:=⟨n-1,by omega⟩
   have q:l[k]? = some x:=by
    have:=congrArg List.head? e;rw [List.head?_drop] at this;simpa using this
   have i:k<l.length:=(List.getElem?_eq_some_iff.1 q).1
   have p:l.drop (k+1)=m:=by
    have:=congrArg List.tail e;rw [List.tail_drop] at this;simpa using this
   rcases hc k x m a e q i hi with ⟨b,c,d⟩ | ⟨r,c,d⟩
   ·rw [Te c];exact y (k+1) n b p (by omega) (by simp at g;omega) d
   ·exact ⟨r,Tk c,d⟩
 exact h l 0 _ a (by simp) (by omega) (by omega) hi
theorem Xg {α:Type} (l m:List α) (i:l.length=m.length) (n:l.length<=9223372036854775806) {f:(Int×Bool)->Option (LR (Int×Bool) (Nat×((Int×Bool)×Unit)))}
  (hs : ∀ (k:Nat) x y,l[k]? = some x->m[k]? = some y->(x=y->f ((k:Int),false)=some (.nx (((k+1:Nat):Int),false)))/\(x≠y->f ((k:Int),false)=some (.dn (0,(((k:Int),false),())))))
  (g:f ((l.length:Int),false)=some (.dn (1,(((l.length:Int),false),())))) :
  ∃ r,loop f (0,false)=some r/\((l=m/\r.1=1)\/(l≠m/\r.1=0/\r.2.1.2=false)):=by
 refine WX (l:=l) (σ:=Unit) (λk _=>((k:Int),false)) (λt k _=>t=l.drop k/\l.take k=m.take k) _ () rfl (by omega) ⟨by simp,by simp⟩ (λj h => ?_) (λk x t j d b o h => ?_)
 ·refine ⟨_,g,.inl ⟨?_,rfl⟩⟩;have:=h.2;rw [List.take_length,i,List.take_length] at this;exact this
 ·have c:k<m.length:=by omega
  have a:m[k]? = some m[k]:=by simp [c]
  by_cases e:x=m[k]
  ·refine .inl ⟨(),(hs k x m[k] b a).1 e,?_,?_⟩
   ·have:=congrArg List.tail d;rw [List.tail_drop] at this;simp at this;exact this.symm
   ·rw [List.take_add_one,List.take_add_one,h.2,b,a,e]
  ·refine .inr ⟨_,(hs k x m[k] b a).2 e,.inr ⟨?_,rfl,rfl⟩⟩;intro e2;subst e2;rw [b] at a;exact e (Option.some.inj a)
theorem beq_eq (a b:Bool):Sv.beq a b=decide (a=b):=by cases a<;>cases b<;>rfl
theorem VQ (a b:Int):RR a b=decide (a=b):=by
 unfold RR;by_cases h:a=b<;>simp [h]
theorem XT (p q:Prop) [Decidable p] [Decidable q]:NX (decide p) (decide q)=decide (p/\q):=by unfold NX;simp
theorem Uq (p:Prop) [Decidable p]:Hf (decide p)=decide (¬ p):=by unfold Hf;simp
theorem YB (a:Bool):NX a true=a:=by cases a<;>rfl
theorem d6 (l m:List TD) (s:l.length<=9223372036854775806):TQ (l,m)=some (decide (l=m)):=by
 unfold TQ;simp only [TH,TF];rw [Ss];by_cases b:(l.length:Int)=(m.length:Int)
 ·rw [if_pos b];have c:l.length=m.length:=by omega
  obtain ⟨r,p,a⟩:=Xg l m c s (f:=λs0=>br (SW s0.1 (l.length:Int)) (λ_=>RX s0.1 λt=>ix l t λn=>RX s0.1 λw=>ix m w λo=>br (Hf (NX (seq n.1 o.1) (NX (Sv.beq n.2 o.2) true))) (λ_=>some (.dn ((0,((s0.1,false),()))))) λ_=>some (.nx (Rl .i64 s0.1 1,s0.2))) λ_=>some (.dn ((1,(s0,()))))) (λk x y d j=>by
    have i:=(List.getElem?_eq_some_iff.1 d).1
    have g : ∀ {β:Type} (u v:Unit->Option β),br (Hf (NX (seq x.1 y.1) (NX (Sv.beq x.2 y.2) true))) u v=if x=y then v () else u ():=by
     intro β u v;rw [YB,Yb,beq_eq,XT,Uq,Uv];by_cases e:x=y
     ·subst e;simp
     ·rw [if_pos (λh=>e (Prod.ext h.1 h.2)),if_neg e]
    constructor
    ·intro e;simp only;rw [rl i,R5,S9,Sb d,S9,Sb j,g,if_pos e,TJ (by omega)]
    ·intro e;simp only
     rw [rl i,R5,S9,Sb d,S9,Sb j,g,if_neg e]) (by simp only;rw [re];rfl)
  refine Td p ?_;rcases a with ⟨e,a⟩ | ⟨e,a,q⟩
  ·rw [SM,a];simp [e]
  ·rw [SM,a];simp [e,q]
 ·rw [if_neg b];have : ¬ l=m:=λe=>b (by rw [e]);simp [this]
theorem YC (l m:List Int) (n:l.length<=9223372036854775806):TK (l,m)=some (decide (l=m)):=by
 unfold TK;simp only [TH,TF];rw [Ss];by_cases b:(l.length:Int)=(m.length:Int)
 ·rw [if_pos b];have c:l.length=m.length:=by omega
  obtain ⟨r,i,a⟩:=Xg l m c n (f:=λs0=>br (SW s0.1 (l.length:Int)) (λ_=>RX s0.1 λo=>ix l o λq=>RX s0.1 λp=>ix m p λs=>br (RT q s) (λ_=>some (.dn ((0,((s0.1,false),()))))) λ_=>some (.nx (Rl .i64 s0.1 1,s0.2))) λ_=>some (.dn ((1,(s0,()))))) (λk x y d h=>by
    have g:=(List.getElem?_eq_some_iff.1 d).1;constructor
    ·intro e;simp only;rw [rl g,R5,S9,Sb d,S9,Sb h,Ss,if_pos e,TJ (by omega)]
    ·intro e;simp only
     rw [rl g,R5,S9,Sb d,S9,Sb h,Ss,if_neg e]) (by simp only;rw [re];rfl)
  refine Td i ?_;rcases a with ⟨e,a⟩ | ⟨e,a,j⟩
  ·rw [SM,a];simp [e]
  ·rw [SM,a];simp [e,j]
 ·rw [if_neg b];have : ¬ l=m:=λe=>b (by rw [e]);simp [this]
theorem ah {β:Type} (x y:S8) (u v:Unit->Option β):br (Hf (NX (seq x.1 y.1) (NX (seq x.2.1 y.2.1) (NX (Sv.beq x.2.2.1 y.2.2.1) (NX (RR x.2.2.2 y.2.2.2) true))))) u v=if x=y then v () else u ():=by
 rw [YB,Yb,Yb,beq_eq,VQ,XT,XT,XT,Uq,Uv];by_cases e:x=y
 ·subst e;simp
 ·rw [if_pos (λh=>e (Prod.ext h.1 (Prod.ext h.2.1 (Prod.ext h.2.2.1 h.2.2.2)))),if_neg e]
theorem Wd (l m:List S8) (p:l.length<=9223372036854775806):Tu (l,m)=some (decide (l=m)):=by
 unfold Tu;simp only [TH,TF];rw [Ss];by_cases d:(l.length:Int)=(m.length:Int)
 ·rw [if_pos d];have g:l.length=m.length:=by omega
  obtain ⟨r,n,a⟩:=Xg l m g p (f:=λs0=>br (SW s0.1 (l.length:Int)) (λ_=>RX s0.1 λq=>ix l q λb=>RX s0.1 λs=>ix m s λc=>br (Hf (NX (seq b.1 c.1) (NX (seq b.2.1 c.2.1) (NX (Sv.beq b.2.2.1 c.2.2.1) (NX (RR b.2.2.2 c.2.2.2) true))))) (λ_=>some (.dn ((0,((s0.1,false),()))))) λ_=>some (.nx (Rl .i64 s0.1 1,s0.2))) λ_=>some (.dn ((1,(s0,()))))) (λk x y h j=>by
    have i:=(List.getElem?_eq_some_iff.1 h).1;constructor
    ·intro e;simp only;rw [rl i,R5,S9,Sb h,S9,Sb j,ah,if_pos e,TJ (by omega)]
    ·intro e;simp only
     rw [rl i,R5,S9,Sb h,S9,Sb j,ah,if_neg e]) (by simp only;rw [re];rfl)
  refine Td n ?_;rcases a with ⟨e,a⟩ | ⟨e,a,o⟩
  ·rw [SM,a];simp [e]
  ·rw [SM,a];simp [e,o]
 ·rw [if_neg d];have : ¬ l=m:=λe=>d (by rw [e]);simp [this]
theorem XQ (l m:List S8) (a:l.length<=9223372036854775806):UF (l,m)=some (decide (l=m)):=by
 unfold UF;rw [Wd l m a];rfl
instance:DecidableEq S8:=inferInstance
instance:DecidableEq (List S8):=inferInstance
instance:DecidableEq (List (List S8)):=inferInstance
instance:DecidableEq TD:=inferInstance
instance:DecidableEq Va:=inferInstance
instance:DecidableEq TC:=inferInstance
instance:DecidableEq UI:=inferInstance
instance:DecidableEq XH:=inferInstance
theorem ay (x y:XH) (n:x.1.1.length<=1000) (i : ∀ l∈x.1.1,l.length<=1000000) (o:x.1.2.1.length<=1000) (p:x.1.2.2.1.length<=1000) (q:x.1.2.2.2.1.length<=1000) (s:x.2.2.1.length<=1000000):VD (x,y)=some (decide (x=y)):=by
 obtain ⟨⟨a,E,F,G,M⟩,⟨xs,L,J⟩,I,K⟩:=x;obtain ⟨⟨b,N,P,S,Z⟩,⟨X,Y,O⟩,W,U⟩:=y;simp only at n i o p q s;unfold VD;simp only [TH,TF];rw [Ss];by_cases g:(a.length:Int)=(b.length:Int)
 ·rw [if_pos g];have h:a.length=b.length:=by omega
  obtain ⟨r,z,d⟩:=Xg a b h (by omega) (f:=λs0=>br (SW s0.1 (a.length:Int)) (λ_=>RX s0.1 λu=>ix a u λC=>RX s0.1 λw=>ix b w λD=>bd (UF (C,D)) λB=>br (Hf B) (λ_=>some (.dn ((0,((s0.1,false),()))))) λ_=>some (.nx (Rl .i64 s0.1 1,s0.2))) λ_=>some (.dn ((1,(s0,()))))) (λk x y c m=>by
    have j:=(List.getElem?_eq_some_iff.1 c).1;have t:=i x (List.mem_of_getElem? c);constructor
    ·intro e;simp only;rw [rl j,R5,S9,Sb c,S9,Sb m,XQ _ _ (by omega),SL,Uq,Uv,if_neg (by simp [e]),TJ (by omega)]
    ·intro e;simp only
     rw [rl j,R5,S9,Sb c,S9,Sb m,XQ _ _ (by omega),SL,Uq,Uv,if_pos e]) (by simp only;rw [re];rfl)
  refine Td z ?_;simp only [YC _ _ (show E.length<=9223372036854775806 by omega),YC _ _ (show G.length<=9223372036854775806 by omega),d6 _ _ (show F.length<=9223372036854775806 by omega),XQ _ _ (show I.length<=9223372036854775806 by omega),SL,Uv,VQ,Yb,beq_eq,YB,XT,SM];rw [Sx];rcases d with ⟨e,d⟩ | ⟨e,d,A⟩
  ·rw [if_neg (show ¬ r.1=0 by omega)]
   repeat' split
   all_goals simp_all
  ·rw [if_pos d,if_neg (show ¬ r.2.1.2=true by simp [A])];simp [e]
 ·rw [if_neg g];have : ¬ a=b:=λe=>g (by rw [e]);simp [this]
end
section
open Go Go.Proofs.YtfilfloanndddaaGreat.Sv
def kR (a:List Int) (most:Int) (r:Tc):Int :=
 if r.1<1\/r.1>1000000 then 7 else if (WJ r.2).2≠0 then (WJ r.2).2 else if r.2.length=0 then 4 else if (r.2.length:Int)>most then 3 else if r.1∈a then 8 else 0
def YN (most:Int):Nat->List Int->List Tc->Option (Nat×Int)
 | _,_,[]=>none
 | k,ids,r::rs=>if kR ids most r≠0 then some (k,kR ids most r) else YN most (k+1) (ids++[r.1]) rs
def UV (B:Int) (i:Nat):Int:=B*2 ^ i
def YL (B:Int):Nat->List Int->List (List Tc)->Option (Nat×(Nat×Int))
 | _,_,[]=>none
 | i,ids,rs::ls=>if rs.length>2 then some (i,(0,3)) else match YN (UV B i) 0 ids rs with
  | some (k,e)=>some (i,(k,e))
  | none=>YL B (i+1) (ids++rs.map (·.1)) ls
def Vs (L:TB):Int×(Int×Int) :=
 if L.1<1\/L.1>16 then (0,(0,7)) else if L.2.length>12 then (0,(0,3)) else match YL L.1 0 [] L.2 with
  | some (i,(k,e))=>((i:Int),((k:Int),e))
  | none=>if L.2.getLast? = some [] then (((L.2.length-1:Nat):Int),(0,6)) else (0,(0,0))
theorem dl {most:Int} : ∀ {rs:List Tc} {k:Nat} {a:List Int} {c:Nat} {e:Int},YN most k a rs=some (c,e)->e≠0
 | [],_,_,_,_,h=>by cases h
 | r::rs,k,a,c,e,h=>by
  unfold YN at h;by_cases b:kR a most r≠0
  ·rw [if_pos b] at h;cases h;exact b
  ·rw [if_neg b] at h;exact dl h
theorem aS {B:Int} : ∀ {ls:List (List Tc)} {i:Nat} {a:List Int} {d f:Nat} {e:Int},YL B i a ls=some (d,(f,e))->e≠0
 | [],_,_,_,_,_,h=>by cases h
 | rs::ls,i,a,d,f,e,h=>by
  unfold YL at h;by_cases c:rs.length>2
  ·rw [if_pos c] at h;cases h;decide
  ·rw [if_neg c] at h;cases b:YN (UV B i) 0 a rs with
   | none=>rw [b] at h;exact aS h
   | some x=>rw [b] at h;cases h;exact dl b
def Zt (a:List Int):List (Int×Bool):=a.map λi=>(i,true)
theorem gG (c:List Int) (i:Int):Rt (MI (λa b=>RR a b) (Zt c) i) false=decide (i∈c):=by
 induction c with
 | nil=>rfl
 | cons j c d =>
  show Rt (bif RR i j then some true else MI (λa b=>RR a b) (Zt c) i) false=_
  rw [VQ];by_cases h:i=j
  ·simp [h,Rt]
  ·simp only [h,decide_false,cond_false,List.mem_cons,false_or];exact d
theorem gH {c:List Int} {i:Int} (h:i ∉ c):IR (λa b=>RR a b) (Zt c) i true=Zt (c++[i]):=by
 induction c with
 | nil=>rfl
 | cons j c f =>
  show (bif RR i j then (i,true)::Zt c else (j,true)::IR (λa b=>RR a b) (Zt c) i true)=_
  rw [VQ];have d : ¬ i=j:=λe=>h (by simp [e]);rw [f (λe=>h (by simp [e]))];simp only [d,decide_false,cond_false];rfl
theorem aY (r:Tc) (b:r.2.length<=9223372036854775807):Ws r=some (if r.1<1\/r.1>1000000 then (-1,7) else WJ r.2):=by
 unfold Ws;rw [Sr,Sp,XD _ b,SL];by_cases h:r.1<1
 ·rw [if_pos h,if_pos (.inl h)]
 ·rw [if_neg h];by_cases a:r.1>1000000
  ·rw [if_pos a,if_pos (.inr a)]
  ·rw [if_neg a,if_neg (by omega)]
theorem Z3 (r:Tc) (most:Int) (b:r.2.length<=9223372036854775807):Ux (r,most)=some (kR [] most r):=by
 unfold Ux kR;rw [aY r b,SL];simp only [TH,TF];by_cases h:r.1<1\/r.1>1000000
 ·rw [if_pos h,if_pos h];rfl
 ·rw [if_neg h,if_neg h,Ss];by_cases a:(WJ r.2).2=0
  ·rw [if_pos a,if_neg (by simp [a]),Sn,Sp]
   repeat' split
   all_goals first | rfl | (exfalso;omega) | simp_all
  ·rw [if_neg a,if_pos a]
theorem ma (a:List Int) (most:Int) (r:Tc):kR a most r=if kR [] most r=0 then (if r.1∈a then 8 else 0) else kR [] most r:=by
 unfold kR
 repeat' split
 all_goals simp_all
theorem me (i:Nat) (h:i<=12):(2:Int) ^ i<=4096/\1<=(2:Int) ^ i:=by
 have a:(2:Nat) ^ i<=2 ^ 12:=Nat.pow_le_pow_right (by omega) h;have b:1<=(2:Nat) ^ i:=Nat.one_le_two_pow;have c:((2 ^ i:Nat):Int)=(2:Int) ^ i:=by simp
 omega
theorem bU {B:Int} {i:Nat} (a:1<=B) (b:B<=16) (hi:i<=12):1<=UV B i/\UV B i<=65536:=by
 obtain ⟨c,d⟩:=me i hi;unfold UV;constructor
 ·have:=Int.mul_le_mul a d (by omega) (by omega);omega
 ·have:=Int.mul_le_mul b c (by omega) (by omega);omega
theorem Y5 {B:Int} {i:Nat} (a:1<=B) (b:B<=16) (hi:i<=12):SZ .i64 B (i:Int)=UV B i:=by
 have c:=bU a b hi;unfold SZ;rw [show min ((i:Int).toNat) IntKind.i64.bits=i by rw [Int.toNat_natCast];exact Nat.min_eq_left (Nat.le_trans hi (by decide))];unfold UV at c ⊢;exact IntWalk.i64_in _ (by omega)
def Q1:Option (Nat×(Nat×Int))->Int->Int->Int->Prop
 | some (i,(k,e)),a,b,c=>a=(k:Int)/\b=(i:Int)/\c=e
 | none,_,_,c=>c=0
def Q2 (m:List (Int×Bool)):Option (Nat×Int)->Nat->Int->Int->List (Int×Bool)->Prop
 | some (k,e),r,a,c,_=>r=0/\a=(k:Int)/\c=e
 | none,r,_,c,m'=>r=1/\c=0/\m'=m
theorem YW (L:TB) (hb:L.2.length<=1048576) (hr : ∀ rs∈L.2,rs.length<=1048576 /\ ∀ r∈rs,r.2.length<=9223372036854775807):U2 L=some (Vs L):=by
 unfold U2 Vs;simp only [TH,TF];rw [Sr,Sp,Sp];by_cases z:L.1<1
 ·rw [if_pos z,if_pos (.inl z)]
 rw [if_neg z];by_cases A:L.1>16
 ·rw [if_pos A,if_pos (.inr A)]
 rw [if_neg A,if_neg (show ¬ (L.1<1\/L.1>16) by omega)];by_cases hl:(L.2.length:Int)>12
 ·rw [if_pos hl,if_pos (by omega)]
 rw [if_neg hl,if_neg (by omega)];have hl2:L.2.length<=12:=by omega
 obtain ⟨T,I⟩ : ∃ T,T=YL L.1 0 [] L.2:=⟨_,rfl⟩;rw [<- I]
 have C : ∀ W:Int,W=0->T=none->(br (RT W 0) (λ_=>(none:Option (Int×(Int×Int)))) λ_=>br (SU (L.2.length:Int) 0) (λ_=>RX (Rp .i64 (L.2.length:Int) 1) λO=>ix L.2 O λX=>br (RR (X.length:Int) 0) (λ_=>some ((Rp .i64 (L.2.length:Int) 1,(0,6)))) λ_=>some ((0,(0,0)))) λ_=>some ((0,(0,0))))=some (if L.2.getLast? = some [] then (((L.2.length-1:Nat):Int),(0,6)) else (0,(0,0))):=by
  intro W o _;rw [Ss,if_pos o,Sp];by_cases hn:L.2=[]
  ·rw [hn];rfl
  ·have hp:=List.length_pos_iff.2 hn;rw [if_pos (by omega),show Rp .i64 (L.2.length:Int) 1=((L.2.length-1:Nat):Int) by rw [SB (by omega)];omega,S9,List.getLast?_eq_getElem?];have n:L.2[L.2.length-1]? = some (L.2[L.2.length-1]'(by omega)):=by simp
   rw [Sb n,n,Sn];by_cases N:L.2[L.2.length-1]'(by omega)=[]
   ·rw [N];simp
   ·rw [if_neg (by have:=List.length_pos_iff.2 N;omega),if_neg (by simp [N])]
 obtain ⟨r,S,b⟩:=WX (l:=L.2) (σ:=Int×(Int×List Int)) (λi j=>(j.1,(j.2.1,((0:Int),((i:Int),Zt j.2.2)))))
  (λm i j=>YL L.1 i j.2.2 m=T) (λ(r:Nat×((Int×(Int×(Int×(Int×List (Int×Bool)))))×Unit))=>Q1 T r.2.1.1 r.2.1.2.1 r.2.1.2.2.1)
  (f:=λs0=>br (SW s0.2.2.2.1 (L.2.length:Int)) (λ_=>RX s0.2.2.2.1 λk1=>ix L.2 k1 λY=>br (SU (Y.length:Int) 2) (λ_=>some (.dn ((0,((0,(s0.2.2.2.1,(3,s0.2.2.2))),()))))) λ_=>bd (loop (λa=>br (SW a.2.1 (Y.length:Int)) (λ_=>RX a.2.1 λP=>ix Y P λp=>gd (RS s0.2.2.2.1 0) λ_=>bd (Ux (p,SZ .i64 L.1 s0.2.2.2.1)) λg=>br (RR g 0) (λ_=>br (Rt (MI ((λJ=>(λK=>RR J K))) a.2.2.2 p.1) false) (λ_=>some (.dn ((0,((a.2.1,(a.2.1,(8,a.2.2.2))),()))))) λ_=>br (RT g 0) (λ_=>some (.dn ((0,((a.2.1,(a.2.1,(g,a.2.2.2))),()))))) λ_=>some (.nx ((a.2.1,(Rl .i64 a.2.1 1,(g,IR ((λM=>(λw=>RR M w))) a.2.2.2 p.1 true)))))) λ_=>br (RT g 0) (λ_=>some (.dn ((0,((a.2.1,(a.2.1,(g,a.2.2.2))),()))))) λ_=>some (.nx ((a.2.1,(Rl .i64 a.2.1 1,(g,IR ((λx=>(λy=>RR x y))) a.2.2.2 p.1 true)))))) λ_=>some (.dn ((1,(a,()))))) ((0,(0,(s0.2.2.1,s0.2.2.2.2))))) λd=>br (neq d.1 0) (λ_=>some (.dn ((0,((d.2.1.1,(s0.2.2.2.1,(d.2.1.2.2.1,(s0.2.2.2.1,d.2.1.2.2.2)))),()))))) λ_=>some (.nx ((d.2.1.1,(s0.2.2.2.1,(d.2.1.2.2.1,(Rl .i64 s0.2.2.2.1 1,d.2.1.2.2.2))))))) λ_=>some (.dn ((0,(s0,())))))
  (s:=(0,(0,(0,(0,[]))))) (0,(0,[])) rfl (by omega) I.symm (λj h=>by
   refine ⟨_,by simp only;rw [re];rfl,?_⟩;simp only at h ⊢;rw [<- h];exact rfl) (λi rs m j hd n hi h=>by
   obtain ⟨s1,s2,c⟩:=j;simp only at h ⊢;obtain ⟨hrs1,F⟩:=hr rs (List.mem_of_getElem? n);rw [rl hi,R5,S9,Sb n,Sp];unfold YL at h;by_cases Z:rs.length>2
   ·rw [if_pos (by omega)];rw [if_pos Z] at h;refine .inr ⟨_,rfl,?_⟩;rw [<- h];exact ⟨rfl,rfl,rfl⟩
   rw [if_neg (by omega)];rw [if_neg Z] at h;obtain ⟨U,hU⟩ : ∃ U,U=YN (UV L.1 i) 0 c rs:=⟨_,rfl⟩;rw [<- hU] at h
   obtain ⟨r,S,b⟩:=WX (l:=rs) (σ:=Int) (λk j=>(j,((k:Int),((0:Int),Zt (c++(rs.take k).map (·.1))))))
    (λm k _=>YN (UV L.1 i) k (c++(rs.take k).map (·.1)) m=U) (λ(r:Nat×((Int×(Int×(Int×List (Int×Bool))))×Unit))=>Q2 (Zt (c++rs.map (·.1))) U r.1 r.2.1.1 r.2.1.2.2.1 r.2.1.2.2.2)
    (f:=λa=>br (SW a.2.1 (rs.length:Int)) (λ_=>RX a.2.1 λP=>ix rs P λp=>gd (RS (i:Int) 0) λ_=>bd (Ux (p,SZ .i64 L.1 (i:Int))) λg=>br (RR g 0) (λ_=>br (Rt (MI ((λJ=>(λK=>RR J K))) a.2.2.2 p.1) false) (λ_=>some (.dn ((0,((a.2.1,(a.2.1,(8,a.2.2.2))),()))))) λ_=>br (RT g 0) (λ_=>some (.dn ((0,((a.2.1,(a.2.1,(g,a.2.2.2))),()))))) λ_=>some (.nx ((a.2.1,(Rl .i64 a.2.1 1,(g,IR ((λM=>(λw=>RR M w))) a.2.2.2 p.1 true)))))) λ_=>br (RT g 0) (λ_=>some (.dn ((0,((a.2.1,(a.2.1,(g,a.2.2.2))),()))))) λ_=>some (.nx ((a.2.1,(Rl .i64 a.2.1 1,(g,IR ((λx=>(λy=>RR x y))) a.2.2.2 p.1 true)))))) λ_=>some (.dn ((1,(a,())))))
    (s:=(0,(0,(0,Zt c)))) 0 (by simp) (by omega) (by simp [hU]) (λj h=>by
     refine ⟨_,by simp only;rw [re];rfl,?_⟩;rw [<- h];exact ⟨rfl,rfl,by simp⟩) (λk r m j hd n hk h=>by
     simp only at h ⊢;have hr2:=F r (List.mem_of_getElem? n);have G:(rs.take (k+1)).map (·.1)=(rs.take k).map (·.1)++[r.1]:=by rw [List.take_add_one,n];simp
     rw [rl hk,R5,S9,Sb n,show gd (RS (i:Int) 0)=λ(q:Unit->Option (LR (Int×(Int×(Int×List (Int×Bool)))) (Nat×((Int×(Int×(Int×List (Int×Bool))))×Unit))))=>q () from by unfold RS;simp [gd];rfl,Y5 (by omega) (by omega) (by omega)];simp only;rw [Z3 _ _ (by omega),SL,Sn,gG,Ss];unfold YN at h;rw [ma] at h;by_cases o:kR [] (UV L.1 i) r=0
     ·rw [if_pos o] at h;rw [if_pos o,if_pos o,Uv];by_cases E:r.1∈c++(rs.take k).map (·.1)
      ·rw [if_pos E];rw [if_pos E,if_pos (by decide)] at h;refine .inr ⟨_,rfl,?_⟩;rw [<- h];exact ⟨rfl,rfl,rfl⟩
      ·rw [if_neg E];rw [if_neg E,if_neg (by decide)] at h;refine .inl ⟨(k:Int),?_,?_⟩
       ·rw [gH E,o,TL n (by omega),G,List.append_assoc]
       ·rw [G,<- List.append_assoc];exact h
     ·rw [if_neg o,if_pos o] at h;rw [if_neg o,if_neg o];refine .inr ⟨_,rfl,?_⟩;rw [<- h]
      exact ⟨rfl,rfl,rfl⟩)
   rw [S,SL,SM];cases D:U with
   | some u =>
    obtain ⟨k,e⟩:=u;rw [D] at b h;rw [if_pos b.1];refine .inr ⟨_,rfl,?_⟩;rw [<- h];exact ⟨b.2.1,rfl,b.2.2⟩
   | none =>
    rw [D] at b h;rw [if_neg (show ¬ r.1=0 by have:=b.1;omega)];refine .inl ⟨(r.2.1.1,((i:Int),c++rs.map (·.1))),?_,h⟩
    rw [b.2.1,b.2.2,TL n (by omega)])
 refine Td S ?_;cases B:T with
 | some t =>
  obtain ⟨i,k,e⟩:=t;rw [B] at b I;rw [Ss,if_neg (by rw [b.2.2];exact aS I.symm),b.1,b.2.1,b.2.2]
 | none =>
  rw [B] at b;have h:=C _ b B;have q3:r.2.1.2.2.1=0:=b;rw [Ss,if_pos q3] at h ⊢;exact h
end
section
open Go Go.Proofs.YtfilfloanndddaaGreat.Sv
structure VR (most:Int) (r:Tc):Prop where
 id1:1<=r.1
 id2:r.1<=1000000
 vl:VL r.2
 ne:r.2≠[]
 le:(r.2.length:Int)<=most
theorem gB {a:List Int} {most:Int} {r:Tc}:kR a most r=0<->VR most r/\r.1 ∉ a:=by
 unfold kR;constructor
 ·intro h;by_cases f:r.1<1\/r.1>1000000
  ·rw [if_pos f] at h;cases h
  rw [if_neg f] at h;by_cases b:(WJ r.2).2≠0
  ·rw [if_pos b] at h;exact absurd h b
  rw [if_neg b] at h;by_cases c:r.2.length=0
  ·rw [if_pos c] at h;cases h
  rw [if_neg c] at h;by_cases g:(r.2.length:Int)>most
  ·rw [if_pos g] at h;cases h
  rw [if_neg g] at h;by_cases d:r.1∈a
  ·rw [if_pos d] at h;cases h
  exact ⟨⟨by omega,by omega,Yy.1 (by simpa using b),by intro e;rw [e] at c;exact c rfl,by omega⟩,d⟩
 ·rintro ⟨h,d⟩;rw [if_neg (by have:=h.id1;have:=h.id2;omega),if_neg (by simp [Yy.2 h.vl]),if_neg (by have:=List.length_pos_iff.2 h.ne;omega),if_neg (by have:=h.le;omega),if_neg d]
def mV (r:Tc):Int:=r.1
theorem ZB {most:Int} : ∀ {rs:List Tc} {k:Nat} {a:List Int},YN most k a rs=none<->(∀ r∈rs,VR most r/\r.1 ∉ a)/\(rs.map mV).Nodup
 | [],k,a=>by simp [YN]
 | r::rs,k,a=>by
  unfold YN;by_cases h:kR a most r=0
  ·rw [if_neg (by simp [h]),ZB (rs:=rs)];have f:=gB.1 h;simp only [List.mem_cons,forall_eq_or_imp,List.map_cons,List.nodup_cons,List.mem_append,List.not_mem_nil,or_false,List.mem_map,not_exists,not_and,not_or];constructor
   ·rintro ⟨b,d⟩;exact ⟨⟨f,λx c=>⟨(b x c).1,(b x c).2.1⟩⟩,λx c e=>(b x c).2.2 e,d⟩
   ·rintro ⟨⟨_,b⟩,d,g⟩;exact ⟨λx c=>⟨(b x c).1,(b x c).2,d x c⟩,g⟩
  ·rw [if_pos h];simp only [reduceCtorEq,false_iff,not_and];intro b;exact absurd (gB.2 (b r (by simp))) h
theorem YF {B:Int} : ∀ {ls:List (List Tc)} {i:Nat} {c:List Int},YL B i c ls=none<->(∀ k rs,ls[k]? = some rs->rs.length<=2 /\ ∀ r∈rs,VR (UV B (i+k)) r/\r.1 ∉ c)/\(ls.flatten.map mV).Nodup
 | [],i,c=>by simp [YL]
 | rs::ls,i,c=>by
  unfold YL;by_cases h:rs.length>2
  ·rw [if_pos h];simp only [reduceCtorEq,false_iff,not_and];intro j;have:=(j 0 rs rfl).1;omega
  ·rw [if_neg h];cases g:YN (UV B i) 0 c rs with
   | some x =>
    simp only [reduceCtorEq,false_iff,not_and];intro j l
    have m:YN (UV B i) 0 c rs=none:=ZB.2 ⟨(j 0 rs rfl).2,by
     simp only [List.flatten_cons,List.map_append] at l
     exact (List.nodup_append.1 l).1⟩
    rw [g] at m;cases m
   | none =>
    have q:=ZB.1 g;simp only;rw [YF (ls:=ls)];simp only [List.flatten_cons,List.map_append,List.mem_append,not_or,List.mem_map];constructor
    ·rintro ⟨j,l⟩;refine ⟨λk d n => ?_,?_⟩
     ·cases k with
      | zero=>cases n;exact ⟨by omega,q.1⟩
      | succ k =>
       have m:=j k d n
       exact ⟨m.1,λr g=>by
        have:=m.2 r g;rw [show i+(k+1)=i+1+k by omega]
        exact ⟨this.1,this.2.1⟩⟩
     ·rw [List.nodup_append];refine ⟨q.2,l,?_⟩;intro a s b t e;subst e;obtain ⟨r,g,e1⟩:=List.mem_map.1 s;obtain ⟨p,f,e2⟩:=List.mem_map.1 t;obtain ⟨d,o,f⟩:=List.mem_flatten.1 f;obtain ⟨k,n⟩:=List.getElem?_of_mem o;exact ((j k d n).2 p f).2.2 ⟨r,g,by unfold mV at e1 e2;omega⟩
    ·rintro ⟨j,l⟩;rw [List.nodup_append] at l;refine ⟨λk d n => ?_,l.2.1⟩;have m:=j (k+1) d n;refine ⟨m.1,λr g => ?_⟩;have:=m.2 r g;rw [show i+(k+1)=i+1+k by omega] at this;refine ⟨this.1,this.2,?_⟩;rintro ⟨p,f,e⟩;exact l.2.2 (mV p) (List.mem_map_of_mem f) (mV r) (List.mem_map_of_mem (List.mem_flatten.2 ⟨d,List.mem_of_getElem? n,g⟩)) e
structure VLev (L:TB):Prop where
 B1:1<=L.1
 B2:L.1<=16
 len:L.2.length<=12
 lev : ∀ i rs,L.2[i]? = some rs->rs.length<=2 /\ ∀ r∈rs,VR (UV L.1 i) r
 ids:(L.2.flatten.map mV).Nodup
 last:L.2.getLast? ≠ some []
theorem XV {L:TB}:(Vs L).2.2=0<->VLev L:=by
 unfold Vs;constructor
 ·intro h;by_cases c:L.1<1\/L.1>16
  ·rw [if_pos c] at h;cases h
  rw [if_neg c] at h;by_cases d:L.2.length>12
  ·rw [if_pos d] at h;cases h
  rw [if_neg d] at h;cases a:YL L.1 0 [] L.2 with
  | some x =>
   obtain ⟨i,k,e⟩:=x;rw [a] at h;exact absurd h (aS a)
  | none =>
   rw [a] at h;simp only at h;by_cases f:L.2.getLast? = some []
   ·rw [if_pos f] at h;cases h
   ·have g:=YF.1 a
    exact ⟨by omega,by omega,by omega,λi rs hi=>by
     have:=g.1 i rs hi;rw [Nat.zero_add] at this
     exact ⟨this.1,λr b=>(this.2 r b).1⟩,g.2,f⟩
 ·intro h
  have a:YL L.1 0 [] L.2=none:=YF.2 ⟨λk rs j=>by
   have:=h.lev k rs j;rw [Nat.zero_add]
   exact ⟨this.1,λr b=>⟨this.2 r b,by simp⟩⟩,h.ids⟩
  rw [if_neg (by have:=h.B1;have:=h.B2;omega),if_neg (by have:=h.len;omega),a];simp only;rw [if_neg h.last]
theorem Ww {L:TB} (h:VLev L):Vs L=(0,(0,0)):=by
 have a:YL L.1 0 [] L.2=none:=YF.2 ⟨λk rs b=>by
  have:=h.lev k rs b;rw [Nat.zero_add]
  exact ⟨this.1,λr c=>⟨this.2 r c,by simp⟩⟩,h.ids⟩
 unfold Vs;rw [if_neg (by have:=h.B1;have:=h.B2;omega),if_neg (by have:=h.len;omega),a];simp only;rw [if_neg h.last]
def WF (l:List (List Tc)):Int:=l.foldl (λm rs=>rs.foldl (λm r=>S0 m r.1) m) 0
def TI:Nat->List (List Tc)->List Int
 | _,[]=>[]
 | i,rs::ls=>(if rs.length=2 then [(i:Int)] else [])++TI (i+1) ls
theorem ax (L:TB) (f:L.2.length<=1048576) (d : ∀ rs∈L.2,rs.length<=1048576):Vi L=some (WF L.2):=by
 unfold Vi;simp only [TH,TF]
 rw [U6 (l:=L.2) (σ:=Int) (s:=((0:Int),(0:Int))) (λi m=>(m,(i:Int))) (λ_ _ _=>True) (λls _ m=>(0,((ls.foldl (λm rs=>rs.foldl (λm r=>S0 m r.1) m) m,(L.2.length:Int)),()))) 0 rfl (by omega) trivial (λm _=>by
  simp only;rw [re];rfl) (λi rs ls m b a hi _=>by
   refine ⟨rs.foldl (λm r=>S0 m r.1) m,?_,trivial,rfl⟩;have e:=d rs (List.mem_of_getElem? a);simp only
   rw [rl hi,R5,S9,Sb a,U6 (l:=rs) (σ:=Int) (s:=((0:Int),m)) (λi m=>((i:Int),m)) (λ_ _ _=>True) (λl _ m=>(0,(((rs.length:Int),l.foldl (λm r=>S0 m r.1) m),()))) m rfl (by omega) trivial (λm _=>by
    simp only;rw [re];rfl) (λk r l m b a c _=>by
     refine ⟨S0 m r.1,?_,trivial,rfl⟩;simp only
     rw [rl c,R5,S9,Sb a,TL a (by omega)]),SL,TL a (by omega)]),SL]
 rfl
def YK (L:TB) (a:List Int) (i:Nat) (j:Job):Bool:=match a[i]? with
 | none=>true
 | some d=>if j.1≠d then true else if j.2.2.1.2.2=true/\j.1≠(L.2.length:Int)-1 then true else match L.2[d.toNat]? with
  | some [r0,r1]=>if j.2.2.2.2<0\/j.2.2.2.2>((r1.2.length+r0.2.length:Nat):Int) then true else decide (U7 r1.2 r0.2 j.2.2.1.2.2 j.2.2.2.2.toNat≠j.2)
  | _=>true
def WW (L:TB) (a:List Int):Nat->List Job->Option Nat
 | _,[]=>none
 | i,j::js=>if YK L a i j=true then some i else WW L a (i+1) js
def TE (s:TA):Int×Int :=
 if (Vs s.1).2.2≠0 then (-1,(Vs s.1).2.2) else if s.2.2<1\/s.2.2>1000001 then (-1,7) else if s.2.2<=WF s.1.2 then (-1,6) else match WW s.1 (TI 0 s.1.2) 0 s.2.1 with
  | some i=>((i:Int),6)
  | none=>if s.2.1.length<(TI 0 s.1.2).length then (-1,4) else (0,0)
theorem XJ : ∀ {ls:List (List Tc)} {i k:Nat} {d:Int},(TI i ls)[k]? = some d -> ∃ n:Nat,d=((i+n:Nat):Int) /\ ∃ e f,ls[n]? = some [e,f]
 | [],i,k,d,h=>by cases h
 | rs::ls,i,k,d,h=>by
  unfold TI at h;by_cases a:rs.length=2
  ·rw [if_pos a] at h;cases k with
   | zero =>
    simp at h;refine ⟨0,by simp [<- h],?_⟩
    match rs,a with
    | [e,f],_=>exact ⟨e,f,rfl⟩
   | succ k =>
    simp at h;obtain ⟨n,b,c⟩:=XJ h;exact ⟨n+1,by rw [b];congr 1;omega,c⟩
  ·rw [if_neg a] at h;simp at h;obtain ⟨n,b,c⟩:=XJ h;exact ⟨n+1,by rw [b];congr 1;omega,c⟩
theorem VU : ∀ (ls:List (List Tc)) (i:Nat),(TI i ls).length<=ls.length
 | [],i=>Nat.le_refl _
 | rs::ls,i=>by
  have:=VU ls (i+1);unfold TI;split<;>simp<;>omega
theorem af {L:TB} {n:Nat} {a b:Tc} (c:Bool) (h:L.2[n]? = some [a,b]) (d:VL a.2) (e:VL b.2):Ud (L,((n:Int),c))=some ((n:Int),U7 b.2 a.2 c 0):=by
 unfold Ud;simp only;rw [S9,Sb h,Sb (x:=b) rfl,Sb (x:=a) rfl,dw e d];rfl
theorem Zu {a b:List S8} (va:VL a) (d:VL b) (c:Bool) {n:Nat} (h:n<=a.length+b.length):(U7 a b c n).1.1.length<=1000/\(∀ l∈(U7 a b c n).1.1,l.length<=1000000)/\(U7 a b c n).1.2.1.length<=1000/\(U7 a b c n).1.2.2.1.length<=1000/\(U7 a b c n).1.2.2.2.1.length<=1000/\(U7 a b c n).2.2.1.length<=1000000:=by
 have j:=va.len;have k:=d.len;refine ⟨show 2<=1000 by omega,λl f => ?_,show 2<=1000 by omega,show 2<=1000 by omega,show 2<=1000 by omega,?_⟩
 ·have:l=a\/l=b:=by simpa [U7,YS,Yd] using f
  rcases this with e | e<;>subst e<;>omega
 ·have g:=Xb (s0 c) (TU a b n);have i:=Us va d h;show (Vu (s0 c) (TU a b n)).length<=_;omega
theorem mZ {L:TB} {n:Nat} {a b:Tc} {j:Job} (h:L.2[n]? = some [a,b]) (e:VL a.2) (f:VL b.2) {β:Type} (A B:Option β) :
  (bd (Ud (L,((n:Int),j.2.2.1.2.2))) λc=>bd (UA c.2) λl=>br (SW j.2.2.2.2 0) (λ_=>A) λ_=>br (SU j.2.2.2.2 l.1) (λ_=>A) λ_=>bd (UN (c.2,j.2.2.2.2)) λm=>bd (VD (m.1,j.2)) λo=>br (Hf o) (λ_=>A) λ_=>B)
  = if j.2.2.2.2<0\/j.2.2.2.2>((b.2.length+a.2.length:Nat):Int) then A else if U7 b.2 a.2 j.2.2.1.2.2 j.2.2.2.2.toNat=j.2 then B else A:=by
 rw [af _ h e f,SL,ZC f e _ (Nat.zero_le _),SL,Sr,Sp,Nat.sub_zero];by_cases g:j.2.2.2.2<0
 ·rw [if_pos g,if_pos (.inl g)]
 rw [if_neg g];by_cases i:j.2.2.2.2>((b.2.length+a.2.length:Nat):Int)
 ·rw [if_pos i,if_pos (.inr i)]
 rw [if_neg i,if_neg (show ¬ (j.2.2.2.2<0\/j.2.2.2.2>((b.2.length+a.2.length:Nat):Int)) by omega)];obtain ⟨k,p⟩ : ∃ k:Nat,j.2.2.2.2=(k:Int):=⟨j.2.2.2.2.toNat,by omega⟩;rw [p,aB f e _ (Nat.zero_le _),SL,Nat.sub_zero,Nat.zero_add,Nat.min_eq_left (by omega),Int.toNat_natCast];obtain ⟨s1,s2,q,r,s,t⟩:=Zu f e j.2.2.1.2.2 (n:=k) (by omega);rw [ay _ _ s1 s2 q r s t,SL,Uq,Uv];by_cases d:U7 b.2 a.2 j.2.2.1.2.2 k=j.2
 ·rw [if_neg (by simp [d]),if_pos d]
 ·rw [if_pos d,if_neg d]
theorem bh (s:TA) (N:s.1.2.length<=1048576) (hr : ∀ rs∈s.1.2,rs.length<=1048576 /\ ∀ r∈rs,r.2.length<=9223372036854775807) (hj:s.2.1.length<=1048576):UT s=some (TE s):=by
 unfold UT TE;simp only [TH,TF];rw [YW _ N hr,SL,Ss];by_cases z:(Vs s.1).2.2=0;rotate_left
 ·rw [if_neg z,if_pos z]
 rw [if_pos z,if_neg (by simp [z]),Sr,Sp,ax _ N (λrs h=>(hr rs h).1),SL];have v:=XV.1 z;by_cases C:s.2.2<1
 ·rw [if_pos C,if_pos (.inl C)]
 rw [if_neg C];by_cases p:s.2.2>1000001
 ·rw [if_pos p,if_pos (.inr p)]
 rw [if_neg p,if_neg (show ¬ (s.2.2<1\/s.2.2>1000001) by omega),Sq];by_cases o:s.2.2<=WF s.1.2
 ·rw [if_pos o,if_pos o]
 rw [if_neg o,if_neg o]
 rw [U6 (l:=s.1.2) (σ:=List Int) (s:=((0:Int),([]:List Int))) (λi m=>((i:Int),m)) (λls i m=>m++TI i ls=TI 0 s.1.2) (λ_ _ _=>(0,(((s.1.2.length:Int),TI 0 s.1.2),()))) [] rfl (by omega) rfl (λm h=>by
  simp only;rw [re,Rd,<- h];simp [TI]) (λi rs ls m hd E hi h=>by
   refine ⟨m++(if rs.length=2 then [(i:Int)] else []),?_,?_,rfl⟩
   ·simp only;rw [rl hi,R5,S9,Sb E,Sn]
    have hm:m.length<=1048575:=by
     have D:=congrArg List.length h;have q:=VU s.1.2 0;have u:=v.len;rw [List.length_append] at D;omega
    by_cases D:rs.length=2
    ·rw [if_pos (by omega),if_pos D,UC (by simp only [BD,AS,List.length_cons,List.length_nil];omega),TL E (by omega)];rfl
    ·rw [if_neg (by omega),if_neg D,List.append_nil,TL E (by omega)]
   ·rw [List.append_assoc];exact h),SL]
 simp only;obtain ⟨a,g⟩ : ∃ a,a=TI 0 s.1.2:=⟨_,rfl⟩;have hdl:a.length<=12:=by have:=VU s.1.2 0;have:=v.len;rw [g];omega
 rw [<- g];obtain ⟨T,hT⟩ : ∃ T,T=WW s.1 a 0 s.2.1:=⟨_,rfl⟩;rw [<- hT]
 obtain ⟨r,q1,I⟩:=WX (l:=s.2.1) (σ:=Unit) (λi _=>((0:Int),((0:Int),(i:Int)))) (λjs i _=>WW s.1 a i js=T) (λ(r:Nat×((Int×(Int×Int))×Unit))=>(T=none/\r.1=1)\/(∃ i:Nat,T=some i/\r.1=0/\r.2.1.1=6/\r.2.1.2.1=(i:Int)))
  (f:=λb=>br (SW b.2.2 (s.2.1.length:Int)) (λ_=>RX b.2.2 λk7=>ix s.2.1 k7 λe=>br (RS b.2.2 (a.length:Int)) (λ_=>some (.dn ((0,((6,(b.2.2,b.2.2)),()))))) λ_=>RX b.2.2 λk9=>gd (KC k9 a.length) λ_=>ix a k9 λx10=>br (RT e.1 x10) (λ_=>some (.dn ((0,((6,(b.2.2,b.2.2)),()))))) λ_=>br e.2.2.1.2.2 (λ_=>bd (Uw (s.1,e.1)) λP=>br (Hf P) (λ_=>some (.dn ((0,((6,(b.2.2,b.2.2)),()))))) λ_=>bd (Ud ((s.1,(e.1,e.2.2.1.2.2)))) λL=>bd (UA L.2) λS=>br (SW e.2.2.2.2 0) (λ_=>some (.dn ((0,((6,(b.2.2,b.2.2)),()))))) λ_=>br (SU e.2.2.2.2 S.1) (λ_=>some (.dn ((0,((6,(b.2.2,b.2.2)),()))))) λ_=>bd (UN (L.2,e.2.2.2.2)) λU=>bd (VD (U.1,e.2)) λW=>br (Hf W) (λ_=>some (.dn ((0,((6,(b.2.2,b.2.2)),()))))) λ_=>some (.nx ((b.1,(b.2.1,Rl .i64 b.2.2 1))))) λ_=>bd (Ud ((s.1,(e.1,e.2.2.1.2.2)))) λM=>bd (UA M.2) λX=>br (SW e.2.2.2.2 0) (λ_=>some (.dn ((0,((6,(b.2.2,b.2.2)),()))))) λ_=>br (SU e.2.2.2.2 X.1) (λ_=>some (.dn ((0,((6,(b.2.2,b.2.2)),()))))) λ_=>bd (UN (M.2,e.2.2.2.2)) λY=>bd (VD (Y.1,e.2)) λZ=>br (Hf Z) (λ_=>some (.dn ((0,((6,(b.2.2,b.2.2)),()))))) λ_=>some (.nx ((b.1,(b.2.1,Rl .i64 b.2.2 1))))) λ_=>some (.dn ((1,(b,())))))
  (s:=(0,(0,0))) () rfl (by omega) hT.symm (λ_ h=>by
   refine ⟨_,by simp only;rw [re];rfl,.inl ⟨by rw [<- h];rfl,rfl⟩⟩) (λi j js _ hd E hi h=>by
   simp only;rw [rl hi,R5,S9,Sb E,So];unfold WW at h
   have c:YK s.1 a i j=true -> ∃ r:Nat×((Int×(Int×Int))×Unit),(some (LR.dn ((0,((6,((i:Int),(i:Int))),()))):LR (Int×(Int×Int)) _))=some (.dn r)/\((T=none/\r.1=1)\/(∃ i:Nat,T=some i/\r.1=0/\r.2.1.1=6/\r.2.1.2.1=(i:Int))):=λN=>by
    rw [if_pos N] at h;exact ⟨_,rfl,.inr ⟨i,h.symm,rfl,rfl,rfl⟩⟩
   have x:YK s.1 a i j=false -> ∃ st':Unit,(some (LR.nx ((0:Int),((0:Int),Rl .i64 (i:Int) 1))):Option (LR _ (Nat×((Int×(Int×Int))×Unit))))=some (.nx ((0:Int),((0:Int),((i+1:Nat):Int))))/\WW s.1 a (i+1) js=T:=λhg=>by
    rw [if_neg (by simp [hg])] at h;exact ⟨(),by rw [TL E (by omega)],h⟩
   by_cases C:(i:Int)>=(a.length:Int)
   ·rw [if_pos C];exact .inr (c (by unfold YK;rw [List.getElem?_eq_none (by omega)]))
   rw [if_neg C,S9,SR,if_pos (by omega)];have w:a[i]? = some (a[i]'(by omega)):=by simp
   rw [Sb w,Ss];obtain ⟨n,O,J,K,y⟩:=XJ (ls:=s.1.2) (i:=0) (k:=i) (d:=a[i]'(by omega)) (by rw [<- g];exact w);rw [Nat.zero_add] at O
   have t:YK s.1 a i j=(if j.1≠(a[i]'(by omega)) then true else if j.2.2.1.2.2=true/\j.1≠(s.1.2.length:Int)-1 then true else if j.2.2.2.2<0\/j.2.2.2.2>((K.2.length+J.2.length:Nat):Int) then true else decide (U7 K.2 J.2 j.2.2.1.2.2 j.2.2.2.2.toNat≠j.2)):=by
    unfold YK;rw [w];simp only;rw [O,Int.toNat_natCast,y]
   by_cases p:j.1=(a[i]'(by omega));rotate_left
   ·rw [if_neg p];exact .inr (c (by rw [t,if_pos p]))
   rw [if_pos p];rw [if_neg (by simp [p])] at t;have F:j.1=(n:Int):=by rw [p,O]
   have hv:=(v.lev n _ y).2;have v0:=(hv J (by simp)).vl;have v1:=(hv K (by simp)).vl;have G:Rp .i64 (s.1.2.length:Int) 1=(s.1.2.length:Int)-1:=SB (by omega);unfold Uw;simp only [TH,TF];rw [SL,G,VQ,Uq,Uv,F,mZ y v0 v1,Sx];rw [F] at t;by_cases o:j.2.2.1.2.2=true/\(n:Int)≠(s.1.2.length:Int)-1
   ·rw [if_pos o.1,if_pos o.2];exact .inr (c (by rw [t,if_pos o]))
   rw [if_neg o] at t
   have D : ∀ {γ:Type} (A B:γ),(if j.2.2.1.2.2=true then if ¬(n:Int)=(s.1.2.length:Int)-1 then A else B else B)=B:=by
    intro γ A B;by_cases q:j.2.2.1.2.2=true
    ·rw [if_pos q,if_neg (λu=>o ⟨q,u⟩)]
    ·rw [if_neg q]
   rw [D];by_cases q:j.2.2.2.2<0\/j.2.2.2.2>((K.2.length+J.2.length:Nat):Int)
   ·rw [if_pos q];exact .inr (c (by rw [t,if_pos q]))
   rw [if_neg q];rw [if_neg q] at t;by_cases u:U7 K.2 J.2 j.2.2.1.2.2 j.2.2.2.2.toNat=j.2
   ·rw [if_pos u];exact .inl (x (by rw [t];simp [u]))
   ·rw [if_neg u]
    exact .inr (c (by rw [t];simp [u])))
 rw [z];refine Td q1 ?_;rw [SM];rcases I with ⟨I,q3⟩ | ⟨i,I,q3,q4,q5⟩
 ·rw [if_neg (show ¬ r.1=0 by omega),I,Sr];simp only;by_cases h7:s.2.1.length<a.length
  ·rw [if_pos (by omega),if_pos h7]
  ·rw [if_neg (by omega),if_neg h7]
 ·rw [if_pos q3,I,q4,q5]
end
section
open Go Go.Proofs.YtfilfloanndddaaGreat.Sv
theorem Yr (x:S8):VK x=some (kE x):=by
 unfold VK kE;rw [Sp,TH,Xv];by_cases e:x.1.length>32
 ·rw [if_pos (by omega),if_pos (.inl e)]
 rw [if_neg (by omega),Sp,TH,Xv];by_cases f:x.2.1.length>64
 ·rw [if_pos (by omega),if_pos (.inr f)]
 rw [if_neg (by omega : ¬ (x.2.1.length:Int)>64),if_neg (by omega),Sx];by_cases b:x.2.2.1=true
 ·rw [if_pos b,Tl,Vv];by_cases c:x.2.1=[]
  ·rw [if_pos c,if_neg (by simp [c]),Sr,Sp];by_cases a:x.2.2.2<1
   ·simp [a]
   ·by_cases d:x.2.2.2>1000000000<;>simp [a,d]
  ·rw [if_neg c,if_pos ⟨b,c⟩]
 ·rw [if_neg b,if_neg (by simp [b]),Sr,Sp];by_cases a:x.2.2.2<1
  ·simp [a]
  ·by_cases d:x.2.2.2>1000000000<;>simp [a,d]
def VF:List UInt8->List UInt8->Nat
 | x::a,y::b=>if x=y then VF a b+1 else 0
 | _,_=>0
theorem lX (x y:UInt8):RR (S4 x) (S4 y)=decide (x=y):=by
 rw [VQ];unfold S4;by_cases h:x=y
 ·simp [h]
 ·have : ¬ ((x.toNat:Int)=(y.toNat:Int)):=λe=>h (UInt8.toNat_inj.1 (by omega));simp [h,this]
theorem dz (a b:List UInt8) (z:a.length<=9223372036854775806):Vz (a,b)=some (VF a b:Int):=by
 unfold Vz;simp only [TH,Xv]
 have key : ∀ (m:List UInt8) (k n:Nat),a.drop k=m->k<=a.length->k<=b.length->m.length<n->IJ n (λs0=>br (SW s0 (a.length:Int)) (λ_=>br (SW s0 (b.length:Int)) (λ_=>RX s0 λt=>ix a t λw=>RX s0 λu=>ix b u λy=>br (RR (S4 w) (S4 y)) (λ_=>some (LR.nx (Rl .i64 s0 1))) λ_=>some (.dn ((0,(s0,()))))) λ_=>some (.dn ((0,(s0,()))))) λ_=>some (.dn ((0,(s0,()))))) (k:Int)=some ((0:Nat),(((k+VF m (b.drop k):Nat):Int),())):=by
  intro m
  induction m with
  | nil =>
   intro k n f r h p;obtain ⟨n,rfl⟩ : ∃ j,n=j+1:=⟨n-1,by omega⟩
   have i:k=a.length:=by
    have:=congrArg List.length f;simp at this;omega
   subst i;refine Tk ?_;rw [re];simp [Rd,VF]
  | cons x m s =>
   intro k n f r h p;obtain ⟨n,rfl⟩ : ∃ j,n=j+1:=⟨n-1,by omega⟩
   have o:a[k]? = some x:=by
    have:=congrArg List.head? f;rw [List.head?_drop] at this;simpa using this
   have c:k<a.length:=(List.getElem?_eq_some_iff.1 o).1
   have l:a.drop (k+1)=m:=by
    have:=congrArg List.tail f;rw [List.tail_drop] at this;simpa using this
   by_cases d:k<b.length
   ·have q:b[k]? = some b[k]:=by simp [d]
    rw [List.drop_eq_getElem_cons d];unfold VF;by_cases e:x=b[k]
    ·rw [if_pos e];refine (Te (s':=((k+1:Nat):Int)) ?_).trans ?_
     ·rw [rl c,R5,rl d,R5,S9,Sb o,S9,Sb q,lX,Uv,if_pos e,TJ (by omega)]
     ·rw [s (k+1) n l (by omega) (by omega) (by simp at p;omega),show k+1+VF m (b.drop (k+1))=k+(VF m (b.drop (k+1))+1) by omega]
    ·rw [if_neg e];refine Tk ?_;rw [rl c,R5,rl d,R5,S9,Sb o,S9,Sb q,lX,Uv,if_neg e];simp
   ·have g:k=b.length:=by omega
    refine Tk ?_;rw [rl c,R5,g,re,Rd,List.drop_length];simp [VF]
 refine Td (Ui (n:=a.length+1) (by omega) (key a 0 (a.length+1) (by simp) (by omega) (by omega) (by omega))) ?_;simp
def YY (a b:XC):Int:=if Rz a b=true then -1 else if a=b then 0 else 1
theorem ak : ∀ (a b:XC),(VF a b<=a.length/\VF a b<=b.length)/\(VF a b=a.length->VF a b=b.length->YY a b=0)/\(VF a b=a.length->VF a b≠b.length->YY a b = -1)/\(VF a b≠a.length->VF a b=b.length->YY a b=1)/\(∀ x y,a[VF a b]? = some x->b[VF a b]? = some y->YY a b=if x.toNat<y.toNat then -1 else 1)
 | [],[]=>by simp [VF,YY,Ys]
 | [],y::b=>by simp [VF,YY,aZ]
 | x::a,[]=>by simp [VF,YY,Ys]
 | x::a,y::b=>by
  obtain ⟨⟨o,g⟩,i,j,k,l⟩:=ak a b;by_cases e:x=y
  ·subst e
   have n:YY (x::a) (x::b)=YY a b:=by
    unfold YY;rw [Xl];simp
   have hc:VF (x::a) (x::b)=VF a b+1:=by simp [VF]
   rw [n,hc];refine ⟨⟨by simp;omega,by simp;omega⟩,λu v=>i (by simp at u;omega) (by simp at v;omega),λu v=>j (by simp at u;omega) (by simp at v;omega),λu v=>k (by simp at u;omega) (by simp at v;omega),λp q d f=>l p q (by simpa using d) (by simpa using f)⟩
  ·have hc:VF (x::a) (y::b)=0:=by simp [VF,e]
   rw [hc];refine ⟨⟨by omega,by omega⟩,λu=>by simp at u,λu=>by simp at u,λ_ u=>by simp at u,λp q d f => ?_⟩;simp at d f;subst d f;unfold YY;rw [Xl];have m : ¬ (x::a=y::b):=λh=>e (by injection h);by_cases c:x.toNat<y.toNat
   ·have:x<y:=UInt8.lt_iff_toNat_lt.2 c;simp [this,c]
   ·have : ¬ x<y:=λh=>c (UInt8.lt_iff_toNat_lt.1 h);simp [this,c,e]
theorem fm (a b:XC) (p:a.length<=1000000000) (q:b.length<=1000000000):Vo (a,b)=some (YY a b):=by
 obtain ⟨⟨o,i⟩,j,k,l,m⟩:=ak a b;unfold Vo;simp only [TH,Xv];rw [dz a b (by omega),SL,Sn]
 have n:(if (VF a b:Int)<(b.length:Int) then (RX (VF a b:Int) λc=>ix a c λe=>RX (VF a b:Int) λd=>ix b d λf=>br (SW (S4 e) (S4 f)) (λ_=>some (-1:Int)) λ_=>some 1) else some 1)=(if VF a b=a.length then (if (VF a b:Int)<(b.length:Int) then (RX (VF a b:Int) λc=>ix a c λe=>RX (VF a b:Int) λd=>ix b d λf=>br (SW (S4 e) (S4 f)) (λ_=>some (-1:Int)) λ_=>some 1) else some 1) else some (YY a b)):=by
  by_cases u:VF a b=a.length
  ·rw [if_pos u]
  ·rw [if_neg u];by_cases v:VF a b=b.length
   ·rw [if_neg (by omega),l u v]
   ·rw [if_pos (by omega),S9];have g:a[VF a b]? = some (a[VF a b]'(by omega)):=by simp
    have h:b[VF a b]? = some (b[VF a b]'(by omega)):=by simp
    rw [Sb g,S9,Sb h,Sr,m _ _ g h];unfold S4;by_cases w:(a[VF a b]'(by omega)).toNat<(b[VF a b]'(by omega)).toNat
    ·rw [if_pos (by omega),if_pos w]
    ·rw [if_neg (by omega),if_neg w]
 by_cases u:VF a b=a.length
 ·rw [if_pos (by omega),Sn];by_cases v:VF a b=b.length
  ·rw [if_pos (by omega),j u v]
  ·rw [if_neg (by omega),Sn,if_pos (by omega),k u v]
 ·rw [if_neg (by omega),Sn,if_neg (by omega),Sr,n,if_neg u]
theorem dg (a b:XC):YY a b>=0<->Rz a b=false:=by
 unfold YY;cases h:Rz a b with
 | true=>simp
 | false=>simp;split<;>omega
theorem W2 (l:List S8) (E:l.length<=9223372036854775807):Ur l=some (WJ l):=by
 unfold Ur WJ;simp only [TH,TF];rw [Sp];by_cases h:l.length>5000
 ·rw [if_pos (by omega),if_pos h]
 rw [if_neg (by omega),if_neg h];obtain ⟨T,o⟩ : ∃ T,T=Xz none 0 l:=⟨_,rfl⟩;rw [<- o]
 obtain ⟨r,w,j⟩:=WX (l:=l) (σ:=Unit) (s:=((0:Int),((0:Int),(0:Int)))) (λk _=>((0:Int),((0:Int),(k:Int)))) (λm k _=>Xz (if k=0 then none else (l[k-1]?).map (·.1)) k m=T/\(∀ y,k≠0->l[k-1]? = some y->kE y=0)) (λ(r:Nat×((Int×(Int×Int))×Unit))=>(r.1=1/\T=(0,0))\/(r.1=0/\T=(r.2.1.2.1,r.2.1.1)))
  (f:=λs0=>br (SW s0.2.2 (l.length:Int)) (λ_=>RX s0.2.2 λq=>ix l q λA=>bd (VK A) λd=>br (RR d 0) (λ_=>br (SU s0.2.2 0) (λ_=>RX (Rp .i64 s0.2.2 1) λt=>ix l t λB=>RX s0.2.2 λu=>ix l u λC=>bd (Vo (B.1,C.1)) λz=>br (RS z 0) (λ_=>some (.dn ((0,((6,(s0.2.2,s0.2.2)),()))))) λ_=>br (RT d 0) (λ_=>some (.dn ((0,((d,(s0.2.2,s0.2.2)),()))))) λ_=>some (.nx ((s0.1,(s0.2.1,Rl .i64 s0.2.2 1))))) λ_=>br (RT d 0) (λ_=>some (.dn ((0,((d,(s0.2.2,s0.2.2)),()))))) λ_=>some (.nx ((s0.1,(s0.2.1,Rl .i64 s0.2.2 1))))) λ_=>br (RT d 0) (λ_=>some (.dn ((0,((d,(s0.2.2,s0.2.2)),()))))) λ_=>some (.nx ((s0.1,(s0.2.1,Rl .i64 s0.2.2 1))))) λ_=>some (.dn ((1,(s0,())))))
  () rfl (by omega) ⟨o.symm,λ_ h=>absurd rfl h⟩ (λ_ h=>by
   refine ⟨_,by simp only;rw [re];rfl,.inl ⟨rfl,?_⟩⟩;rw [<- h.1];simp [Xz]) (λk x m _ D g p h=>by
   simp only;obtain ⟨h,c⟩:=h;rw [rl p,R5,S9,Sb g,Yr,SL,Sn];unfold Xz at h
   have next:kE x=0->(T=Xz (some x.1) (k+1) m)->Xz (if k+1=0 then none else (l[k+1-1]?).map (·.1)) (k+1) m=T/\(∀ y,k+1≠0->l[k+1-1]? = some y->kE y=0):=λa e=>by
    rw [if_neg (by omega),Nat.add_sub_cancel,g,e];exact ⟨rfl,λy _ i=>by cases i;exact a⟩
   by_cases a:kE x=0
   ·rw [if_pos a,Sp];rw [if_neg (by simp [a])] at h;by_cases b:k=0
    ·rw [if_neg (by omega),Ss,if_pos a];rw [if_pos b] at h;exact .inl ⟨(),by rw [TL g (by omega)],next a h.symm⟩
    ·have i:l[k-1]? = some (l[k-1]'(by omega)):=by rw [List.getElem?_eq_getElem]
     rw [if_pos (by omega),show Rp .i64 (k:Int) 1=((k-1:Nat):Int) by rw [SB (by omega)];omega,S9,Sb i,S9,Sb g];rw [if_neg b,i] at h;simp only [Option.map_some] at h;rw [fm _ _ (by have:=ZW (c _ b i);omega) (by have:=ZW a;omega),SL,So];by_cases hs:Rz (l[k-1]'(by omega)).1 x.1=true
     ·rw [if_neg (λe=>by rw [dg,hs] at e;cases e),Ss,if_pos a];rw [if_pos hs] at h;exact .inl ⟨(),by rw [TL g (by omega)],next a h.symm⟩
     ·rw [if_pos ((dg _ _).2 (by simpa using hs))];rw [if_neg hs] at h;exact .inr ⟨_,rfl,.inr ⟨rfl,h.symm⟩⟩
   ·rw [if_neg a,Ss,if_neg a];rw [if_pos a] at h
    exact .inr ⟨_,rfl,.inr ⟨rfl,h.symm⟩⟩)
 refine Td w ?_;rw [SM];rcases j with ⟨j,n⟩ | ⟨j,n⟩
 ·rw [if_neg (show ¬ r.1=0 by omega),n]
 ·rw [if_pos j,n]
theorem lY (p q:TD) (d:Vr p) (e:Vr q):WC ([p,q],(0,1))=some (w0 p q):=by
 unfold WC w0;refine (V6 0 rfl (x:=p) rfl).trans ((V6 1 rfl (x:=q) rfl).trans ?_);rw [beq_eq,Uq,Uv,Tl,Sx];by_cases a:p.2=q.2
 ·rw [if_neg (show ¬ ¬ p.2=q.2 by simp [a]),if_neg (show ¬ p.2≠q.2 by simp [a])];by_cases b:p.2=true
  ·rw [if_pos b,d b,e (a ▸ b)];rfl
  ·rw [if_neg b,Tl,Vv];by_cases c:p.1=q.1
   ·rw [if_pos c,if_neg (by simp [c])];rfl
   ·rw [if_neg c,if_pos c]
 ·rw [if_pos a,if_pos a]
theorem ZG (p q:TD) (n:Nat) (k:Int) (h:2<=k) (a:k<=100):Mx TV (n+1) ([p,q],k)=some (k-2,0):=by
 show TV (Mx TV n) ([p,q],k)=_;unfold TV;show br (RS k 2) (λ_=>some (Rp .i64 k 2,0)) _=_;rw [So,if_pos h,SB (by omega)]
theorem Ze (p q:TD) (a:Vr p) (b:Vr q):Wk ([p,q],1)=some (if w0 p q=true then (0,1) else (1,0)):=by
 show TV (Mx TV 99) ([p,q],1)=_;unfold TV;show br (RS (1:Int) 2) (λ_=>some (Rp .i64 (1:Int) 2,0)) (λ_=>bd (Mx TV (98+1) ([p,q],2)) λc=>bd (Mx TV (98+1) ([p,q],3)) _)=_;rw [So,if_neg (by omega),ZG p q 98 2 (by omega) (by omega),SL,ZG p q 98 3 (by omega) (by omega),SL];show bd (WC ([p,q],(0,1))) _=_;rw [lY p q a b,SL,Sx];cases h:w0 p q<;>rfl
theorem lV (p q:TD) (a:Vr p) (c:Vr q):Wl [p,q]=some (Tt p q):=by
 unfold Wl;refine Eq.trans (b:=bd (loop _ (1,([p,q],([0,0],0)))) _) rfl ?_;refine Td (x:=(0,((2,([p,q],([0,if w0 p q=true then 1 else 0],0))),()))) (Ui (n:=2) (by omega) ((Te (s':=(2,([p,q],([0,if w0 p q=true then 1 else 0],0)))) ?_).trans (Tk rfl))) ?_
 ·show bd (Wk ([p,q],1)) _=_;rw [Ze p q a c,SL];refine (X7 1 rfl (x:=(0:Int)) rfl).trans ?_;cases h:w0 p q<;>rfl
 ·rw [Ze p q a c,SL];unfold Tt;cases h:w0 p q<;>rfl
theorem eL {l:List TD} (h : ∀ k∈l,Vr k) (c:l≠[]) (f:l.length<=32):WR l=some 0:=by
 unfold WR;simp only [TH,TF];rw [Sn,Sp,if_neg (by have:=List.length_pos_iff.2 c;omega),if_neg (by omega)]
 rw [U6 (l:=l) (σ:=Unit) (s:=((0:Int),(0:Int))) (λk _=>((k:Int),(0:Int))) (λ_ _ _=>True) (λ_ _ _=>(1,(((l.length:Int),0),()))) () rfl (by omega) trivial (λe _=>by
  simp only;rw [re];rfl) (λk x m e _ a d _=>⟨(),by
   simp only;rw [rl d,R5,S9,Sb a,Sx,TL a (by omega)];by_cases b:x.2=true
   ·rw [if_pos b,S9,Sb a,Tl,Vv,if_pos (h x (List.mem_of_getElem? a) b)]
   ·rw [if_neg b],trivial,rfl⟩),SL]
 rfl
theorem dy (p q:TD) (a:Vr p) (b:Vr q):Vp [p,q]=some (Tt p q,0):=by
 unfold Vp;rw [eL (by simp [a,b]) (by simp) (by simp),SL,Ss,if_pos rfl,lV p q a b,SL]
end
section
open Go Go.Proofs.YtfilfloanndddaaGreat.Sv
theorem XB:UK=Tu:=rfl
theorem Zf:Wj=TK:=rfl
theorem bz (l m:List TD) (i:l.length<=9223372036854775806) (j:l.length=m.length) : ∃ r,loop (λs1=>br (SW s1.1 (l.length:Int)) (λ_=>RX s1.1 λn=>ix l n λf=>RX s1.1 λo=>ix m o λg=>br (Hf (NX (seq f.1 g.1) (NX (Sv.beq f.2 g.2) true))) (λ_=>some (LR.dn ((0:Nat),((s1.1,false),())))) λ_=>some (.nx (Rl .i64 s1.1 1,s1.2))) λ_=>some (.dn ((1,(s1,()))))) ((0:Int),false)=some r/\((l=m/\r.1=1)\/(l≠m/\r.1=0/\r.2.1.2=false)):=by
 refine Xg l m j i (λk x y a d => ?_) (by simp only;rw [re];rfl);have c:=(List.getElem?_eq_some_iff.1 a).1
 have b : ∀ {β:Type} (u v:Unit->Option β),br (Hf (NX (seq x.1 y.1) (NX (Sv.beq x.2 y.2) true))) u v=if x=y then v () else u ():=by
  intro β u v;rw [YB,Yb,beq_eq,XT,Uq,Uv];by_cases e:x=y
  ·subst e;simp
  ·rw [if_pos (λh=>e (Prod.ext h.1 h.2)),if_neg e]
 constructor
 ·intro e;simp only;rw [rl c,R5,S9,Sb a,S9,Sb d,b,if_pos e,TJ (by omega)]
 ·intro e;simp only;rw [rl c,R5,S9,Sb a,S9,Sb d,b,if_neg e]
theorem Zg (s t:Va) (g:s.1.length<=1000) (h:s.2.1.length<=1000):WB (s,t)=some (decide (s=t)):=by
 obtain ⟨b,d,k⟩:=s;obtain ⟨c,f,l⟩:=t;simp only at g h;unfold WB;simp only [TH,TF];rw [Ss];by_cases e1:(b.length:Int)=(c.length:Int);rotate_left
 ·rw [if_neg e1];have : ¬ b=c:=λe=>e1 (by rw [e]);simp [this]
 rw [if_pos e1,Ss];by_cases e2:k=l;rotate_left
 ·rw [if_neg e2];simp [e2]
 rw [if_pos e2,Zf,YC _ _ (by omega),SL,Uq,Uv];by_cases e3:d=f;rotate_left
 ·rw [if_pos e3];simp [e3]
 rw [if_neg (show ¬ ¬ d=f by simp [e3])];obtain ⟨r,i,a⟩:=bz b c (by omega) (by omega);refine Td i ?_;rw [SM];rcases a with ⟨e,a⟩ | ⟨e,a,j⟩
 ·rw [if_neg (show ¬ r.1=0 by omega)];simp [e,e2,e3]
 ·rw [if_pos a,j];simp [e]
theorem bL (s t:TC) (u:s.1.length<=1000) (g : ∀ l∈s.1,l.length<=1000000) (w:s.2.1.length<=1000) (h:s.2.2.1.length<=1000) (i:s.2.2.2.1.length<=1000):Wn (s,t)=some (decide (s=t)):=by
 obtain ⟨a,n,o⟩:=s;obtain ⟨d,p,q⟩:=t;simp only at u g w h i;unfold Wn;simp only [TH,TF];rw [Ss];by_cases e1:(a.length:Int)=(d.length:Int);rotate_left
 ·rw [if_neg e1];have : ¬ a=d:=λe=>e1 (by rw [e]);simp [this]
 rw [if_pos e1,Zf,YC _ _ (by omega),SL,Uq,Uv];by_cases e2:n=p;rotate_left
 ·rw [if_pos e2];simp [e2]
 rw [if_neg (show ¬ ¬ n=p by simp [e2]),Zg _ _ h i,SL,Uq,Uv];by_cases e3:o=q;rotate_left
 ·rw [if_pos e3];simp [e3]
 rw [if_neg (show ¬ ¬ o=q by simp [e3])]
 obtain ⟨r,C,c⟩:=Xg a d (by omega) (by omega) (f:=λs2=>br (SW s2.1 (a.length:Int)) (λ_=>RX s2.1 λA=>ix a A λF=>RX s2.1 λB=>ix d B λG=>bd (UK (F,G)) λE=>br (Hf E) (λ_=>some (.dn ((0,((s2.1,false),()))))) λ_=>some (.nx (Rl .i64 s2.1 1,s2.2))) λ_=>some (.dn ((1,(s2,()))))) (λk x y b m=>by
   have j:=(List.getElem?_eq_some_iff.1 b).1;have z:=g x (List.mem_of_getElem? b);constructor
   ·intro e;simp only;rw [rl j,R5,S9,Sb b,S9,Sb m,XB,Wd _ _ (by omega),SL,Uq,Uv,if_neg (by simp [e]),TJ (by omega)]
   ·intro e;simp only
    rw [rl j,R5,S9,Sb b,S9,Sb m,XB,Wd _ _ (by omega),SL,Uq,Uv,if_pos e]) (by simp only;rw [re];rfl)
 refine Td C ?_;rw [SM];rcases c with ⟨e,c⟩ | ⟨e,c,D⟩
 ·rw [if_neg (show ¬ r.1=0 by omega)];simp [e,e2,e3]
 ·rw [if_pos c,D];simp [e]
theorem cA (x y:XH) (a:x.1.1.length<=1000) (b : ∀ l∈x.1.1,l.length<=1000000) (c:x.1.2.1.length<=1000) (d:x.1.2.2.1.length<=1000) (e:x.1.2.2.2.1.length<=1000) (f:x.2.2.1.length<=1000000):Tw (x,y)=some (decide (x=y)):=by
 obtain ⟨i,⟨xs,k,h⟩,g,j⟩:=x;obtain ⟨n,⟨q,r,m⟩,p,o⟩:=y;simp only at a b c d e f;unfold Tw;simp only [bL _ _ a b c d e,XB,Wd _ _ (show g.length<=9223372036854775806 by omega),SL,Uv,VQ,Yb,beq_eq,YB,XT]
 repeat' split
 all_goals simp_all
section
variable {a b:List S8} (va:VL a) (vb:VL b)
include va vb
theorem YZ:VO [a,b]=some (0,0):=by
 have c:=va.len;have d:=vb.len;unfold VO;refine Eq.trans (b:=bd (loop _ (0,(0,0))) _) rfl ?_;refine Td (x:=(1,((0,(0,2)),()))) (Uo (s1:=(0,(0,1))) (s2:=(0,(0,2))) ?_ ?_ rfl) rfl
 ·refine (ZI 0 rfl rfl (x:=a) rfl).trans ?_;rw [W2 _ (by omega),X2 va,SL];rfl
 ·refine (ZI 1 rfl rfl (x:=b) rfl).trans ?_;rw [W2 _ (by omega),X2 vb,SL];rfl
theorem Xr {i j:Nat} (hi:i<=a.length) (g:j<=b.length):VN ([a,b],[(i:Int),(j:Int)])=some (if i=a.length/\j=b.length then -1 else if XL a b i j=true then 0 else 1):=by
 have k:=va.len;have l:=vb.len;unfold VN;simp only [TH,TF];refine Td (x:=(0,((if i=a.length/\j=b.length then -1 else if XL a b i j=true then 0 else 1,2),()))) (Uo (s1:=(if i=a.length then -1 else 0,1)) (s2:=(if i=a.length/\j=b.length then -1 else if XL a b i j=true then 0 else 1,2)) ?_ ?_ rfl) rfl
 ·refine (ZI 0 rfl rfl (x:=(i:Int)) rfl).trans ((V6 0 rfl (x:=a) rfl).trans ?_);rw [Sr];by_cases h:i=a.length
  ·rw [if_neg (by omega),if_pos h];rfl
  ·rw [if_pos (by omega),if_neg h];rfl
 ·refine (ZI 1 rfl rfl (x:=(j:Int)) rfl).trans ((V6 1 rfl (x:=b) rfl).trans ?_);rw [Sr];by_cases h:j=b.length
  ·rw [if_neg (by omega)];by_cases c:i=a.length
   ·rw [if_pos c,if_pos ⟨c,h⟩];rfl
   ·rw [if_neg c,if_neg (λe=>c e.1)];have d:a[i]? = some (a[i]'(by omega)):=by simp
    rw [dW d (List.getElem?_eq_none (by omega))];rfl
  ·have f:b[j]? = some (b[j]'(by omega)):=by simp
   rw [if_pos (by omega),Sr,if_neg (λe:i=a.length/\j=b.length=>h e.2)];by_cases c:i=a.length
   ·rw [if_pos c,if_pos (by omega),dX (List.getElem?_eq_none (by omega)) f];rfl
   ·rw [if_neg c,if_neg (by omega)];have d:a[i]? = some (a[i]'(by omega)):=by simp
    refine (V6 1 rfl (x:=b) rfl).trans ((V6 1 rfl (x:=(j:Int)) rfl).trans ((V6 j rfl f).trans ((V6 0 rfl (x:=a) rfl).trans ((V6 0 rfl (x:=(i:Int)) rfl).trans ((V6 i rfl d).trans ?_)))));rw [Wy,ZU d f];cases hs:Rz (b[j]'(by omega)).1 (a[i]'(by omega)).1<;>rfl
theorem Xs {i j:Nat} (hi:i<=a.length) (e:j<=b.length):Uy ([a,b],[(i:Int),(j:Int)])=some (Yd a b i j):=by
 have f:=va.len;have g:=vb.len;unfold Uy;simp only [TH,TF];rw [UC (show [a,b].length<=1048576 from (show 2<=1048576 by omega)),UC (show [(i:Int),(j:Int)].length<=1048576 from (show 2<=1048576 by omega))];refine Td (x:=(0,((2,[kx a i,kx b j]),()))) (Uo (s1:=(1,[kx a i])) (s2:=(2,[kx a i,kx b j])) ?_ ?_ rfl) ?_
 ·refine (ZI 0 rfl rfl (x:=(i:Int)) rfl).trans ((V6 0 rfl (x:=a) rfl).trans ?_);rw [VQ,Uq,Uv];by_cases h:i=a.length
  ·have c:((i:Int)=(a.length:Int)):=by omega
   rw [if_neg (show ¬ ¬ ((i:Int)=(a.length:Int)) by simp [c]),Yl (List.getElem?_eq_none (by omega))];simp only [c,decide_true];rfl
  ·have d:a[i]? = some (a[i]'(by omega)):=by simp
   have c : ¬ ((i:Int)=(a.length:Int)):=by omega
   rw [if_pos c];refine (V6 0 rfl (x:=a) rfl).trans ((V6 0 rfl (x:=(i:Int)) rfl).trans ((V6 i rfl d).trans ?_));rw [Wu d];simp only [c,decide_false];rfl
 ·refine (ZI 1 rfl rfl (x:=(j:Int)) rfl).trans ((V6 1 rfl (x:=b) rfl).trans ?_);rw [VQ,Uq,Uv];by_cases h:j=b.length
  ·have c:((j:Int)=(b.length:Int)):=by omega
   rw [if_neg (show ¬ ¬ ((j:Int)=(b.length:Int)) by simp [c]),Yl (l:=b) (i:=j) (List.getElem?_eq_none (by omega))];simp only [c,decide_true];rfl
  ·have d:b[j]? = some (b[j]'(by omega)):=by simp
   have c : ¬ ((j:Int)=(b.length:Int)):=by omega
   rw [if_pos c];refine (V6 1 rfl (x:=b) rfl).trans ((V6 1 rfl (x:=(j:Int)) rfl).trans ((V6 j rfl d).trans ?_));rw [Wu (l:=b) (i:=j) d];simp only [c,decide_false];rfl
 ·show bd (Vp [kx a i,kx b j]) _=_;rw [dy _ _ (Tz _ _) (Tz _ _)];rfl
theorem dk {i:Nat} {l:List S8} (h:i≠0) (hi:i<=l.length) : ∃ x,l[i-1]? = some x:=⟨l[i-1]'(by omega),by simp⟩
theorem ZA {i j:Nat} (I:Inv a b i j):VM (Yd a b i j)=some (0,0):=by
 have t:=va.len;have u:=vb.len;have hi:=I.ia;have k:=I.jb;unfold VM;rw [show (Yd a b i j).1=[a,b] from rfl,YZ va vb,SL,Ss,if_pos rfl];rw [show (Yd a b i j).2.1=[(i:Int),(j:Int)] from rfl,Ss,if_pos (show Kb (AS [(i:Int),(j:Int)])=Kb (AS [a,b]) from rfl)];refine Td (x:=(1,((0,(0,2)),()))) (Uo (s1:=(0,(0,1))) (s2:=(0,(0,2))) ?_ ?_ rfl) ?_
 ·refine (ZI 0 rfl rfl (x:=(i:Int)) rfl).trans ?_;rw [Sr,if_neg (by omega)];refine (V6 0 rfl (x:=(i:Int)) rfl).trans ((V6 0 rfl (x:=a) rfl).trans ?_);rw [Sp,if_neg (by simp only [TH,TF];omega)];rfl
 ·refine (ZI 1 rfl rfl (x:=(j:Int)) rfl).trans ?_;rw [Sr,if_neg (by omega)];refine (V6 1 rfl (x:=(j:Int)) rfl).trans ((V6 1 rfl (x:=b) rfl).trans ?_);rw [Sp,if_neg (by simp only [TH,TF];omega)];rfl
 rw [show neq ((1:Nat),(((0:Int),((0:Int),(2:Int))),())).1 0=false from rfl,Rd,Xs va vb hi k,SL,Zg (Yd a b i j).2.2 (Yd a b i j).2.2 (show 2<=1000 by omega) (show 2<=1000 by omega),SL,Uq,Uv,if_neg (show ¬ ¬ (Yd a b i j).2.2=(Yd a b i j).2.2 by simp),Xr va vb hi k,SL];by_cases r:i=a.length/\j=b.length
 ·rw [if_pos r];refine Td (x:=(1,((0,(0,0)),()))) (Ui (n:=1) (by omega) (Tk ?_)) rfl;rfl
 rw [if_neg r];cases g:XL a b i j with
 | true =>
  rw [if_pos rfl]
  have p:i<a.length:=by
   refine Nat.lt_of_not_le λh' => ?_;have o:j<b.length:=by omega
   rw [dX (List.getElem?_eq_none h') (show b[j]? = some (b[j]'o) by simp)] at g;cases g
  have e:a[i]? = some (a[i]'p):=by simp
  refine Td (x:=(1,((0,(0,2)),()))) (Uo (s1:=(0,(0,1))) (s2:=(0,(0,2))) ?_ ?_ rfl) rfl
  ·show br (SW (0:Int) 2) _ _=_;rw [Sr,if_pos (by omega),So,if_pos (by omega)];refine (V6 0 rfl (x:=(i:Int)) rfl).trans ?_;rw [Sn];by_cases f:i=0
   ·rw [if_pos (by omega)];rfl
   ·rw [if_neg (by omega)];obtain ⟨y,d⟩:=dk va vb (l:=a) f hi;refine (V6 0 rfl (x:=a) rfl).trans ((V6 0 rfl (x:=(i:Int)) rfl).trans ?_);rw [show Rp .i64 (i:Int) 1=((i-1:Nat):Int) by rw [SB (by omega)];omega,S9,Sb d];refine (V6 0 rfl (x:=a) rfl).trans ((V6 0 rfl (x:=(i:Int)) rfl).trans ((V6 i rfl e).trans ?_));have c:=va.lt d (show a[i-1+1]? = some _ by rw [show i-1+1=i by omega];exact e);rw [Wy,if_neg (by rw [Ut c];simp),Vv,if_neg (X9 c)];rfl
  ·show br (SW (1:Int) 2) _ _=_;rw [Sr,if_pos (by omega),So,if_pos (by omega)];refine (V6 1 rfl (x:=(j:Int)) rfl).trans ?_;rw [Sn];by_cases f:j=0
   ·rw [if_pos (by omega)];rfl
   ·rw [if_neg (by omega)];obtain ⟨y,d⟩:=dk va vb (l:=b) f k;refine (V6 1 rfl (x:=b) rfl).trans ((V6 1 rfl (x:=(j:Int)) rfl).trans ?_);rw [show Rp .i64 (j:Int) 1=((j-1:Nat):Int) by rw [SB (by omega)];omega,S9,Sb d];refine (V6 0 rfl (x:=a) rfl).trans ((V6 0 rfl (x:=(i:Int)) rfl).trans ((V6 i rfl e).trans ?_));have c:=I.pb (j-1) (by omega) y _ d e;rw [Wy,if_neg (by rw [Ut c];simp),Vv,if_neg (X9 c)];rfl
 | false =>
  rw [if_neg (by simp)]
  have h:j<b.length:=by
   refine Nat.lt_of_not_le λh' => ?_;have m:i<a.length:=by omega
   rw [dW (show a[i]? = some (a[i]'m) by simp) (List.getElem?_eq_none h')] at g;cases g
  have e:b[j]? = some (b[j]'h):=by simp
  refine Td (x:=(1,((0,(0,2)),()))) (Uo (s1:=(0,(0,1))) (s2:=(0,(0,2))) ?_ ?_ rfl) rfl
  ·show br (SW (0:Int) 2) _ _=_;rw [Sr,if_pos (by omega),So,if_pos (by omega)];refine (V6 0 rfl (x:=(i:Int)) rfl).trans ?_;rw [Sn];by_cases f:i=0
   ·rw [if_pos (by omega)];rfl
   ·rw [if_neg (by omega)];obtain ⟨y,d⟩:=dk va vb (l:=a) f hi;refine (V6 0 rfl (x:=a) rfl).trans ((V6 0 rfl (x:=(i:Int)) rfl).trans ?_);rw [show Rp .i64 (i:Int) 1=((i-1:Nat):Int) by rw [SB (by omega)];omega,S9,Sb d];refine (V6 1 rfl (x:=b) rfl).trans ((V6 1 rfl (x:=(j:Int)) rfl).trans ((V6 j rfl e).trans ?_));have q:=I.pa (i-1) (by omega) y _ d e;rw [Wy,if_neg (by rw [q];simp),Vv];by_cases s:y.1=(b[j]'h).1
    ·rw [if_pos s];rfl
    ·rw [if_neg s];rfl
  ·show br (SW (1:Int) 2) _ _=_;rw [Sr,if_pos (by omega),So,if_pos (by omega)];refine (V6 1 rfl (x:=(j:Int)) rfl).trans ?_;rw [Sn];by_cases f:j=0
   ·rw [if_pos (by omega)];rfl
   ·rw [if_neg (by omega)];obtain ⟨y,d⟩:=dk va vb (l:=b) f k;refine (V6 1 rfl (x:=b) rfl).trans ((V6 1 rfl (x:=(j:Int)) rfl).trans ?_);rw [show Rp .i64 (j:Int) 1=((j-1:Nat):Int) by rw [SB (by omega)];omega,S9,Sb d];refine (V6 1 rfl (x:=b) rfl).trans ((V6 1 rfl (x:=(j:Int)) rfl).trans ((V6 j rfl e).trans ?_));have c:=vb.lt d (show b[j-1+1]? = some _ by rw [show j-1+1=j by omega];exact e);rw [Wy,if_neg (by rw [Ut c];simp),Vv,if_neg (X9 c)];rfl
end
end
section
open Go Go.Proofs.YtfilfloanndddaaGreat.Sv
section
variable {a b:List S8} (va:VL a) (vb:VL b)
include va vb
theorem gQ {n:Nat} {x:S8} (h:n<a.length+b.length) (d:ZF a b n=some x):Vb (YS a b n)=some (x,((Zl a b n:Int),(YS a b (n+1),0))):=by
 obtain ⟨i,hs⟩:=V7 va vb (n:=n) (by omega);obtain ⟨j,k⟩:=V7 va vb (n:=n+1) (by omega);have l:=va.len;have m:=vb.len;have e:=i.ia;have f:=i.jb;unfold Vb;rw [show YS a b n=Yd a b (TM a b n).1 (TM a b n).2 from rfl,ZA va vb i,SL,Ss,if_pos rfl,show (Yd a b (TM a b n).1 (TM a b n).2).1=[a,b] from rfl,show (Yd a b (TM a b n).1 (TM a b n).2).2.1=[((TM a b n).1:Int),((TM a b n).2:Int)] from rfl,Xr va vb e f,SL,if_neg (λhh:(TM a b n).1=a.length/\(TM a b n).2=b.length=>by omega)];unfold ZF at d;have c:TM a b (n+1)=if XL a b (TM a b n).1 (TM a b n).2=true then ((TM a b n).1+1,(TM a b n).2) else ((TM a b n).1,(TM a b n).2+1):=rfl
 unfold YS Zl;cases g:XL a b (TM a b n).1 (TM a b n).2 with
 | true =>
  rw [g,if_pos rfl] at c;rw [g,if_pos rfl] at d;have hi:=(List.getElem?_eq_some_iff.1 d).1;rw [if_pos rfl,Sr,if_neg (by omega),UC (show AS [((TM a b n).1:Int),((TM a b n).2:Int)]<=1048576 from (show 2<=1048576 by omega))];refine (X7 0 rfl (x:=((TM a b n).1:Int)) rfl).trans ((X7 0 rfl (x:=((TM a b n).1:Int)) rfl).trans ((V6 0 rfl (x:=a) rfl).trans ((V6 0 rfl (x:=((TM a b n).1:Int)) rfl).trans ((V6 _ rfl d).trans ?_))));rw [TJ (by omega),show lset [((TM a b n).1:Int),((TM a b n).2:Int)] 0 (((TM a b n).1+1:Nat):Int)=[(((TM a b n).1+1:Nat):Int),((TM a b n).2:Int)] from rfl,Xs va vb (by omega) f,SL,c];rfl
 | false =>
  rw [g,if_neg (by simp)] at c;rw [g,if_neg (by simp)] at d;have hi:=(List.getElem?_eq_some_iff.1 d).1;rw [if_neg (by simp),Sr,if_neg (by omega),UC (show AS [((TM a b n).1:Int),((TM a b n).2:Int)]<=1048576 from (show 2<=1048576 by omega))];refine (X7 1 rfl (x:=((TM a b n).2:Int)) rfl).trans ((X7 1 rfl (x:=((TM a b n).2:Int)) rfl).trans ((V6 1 rfl (x:=b) rfl).trans ((V6 1 rfl (x:=((TM a b n).2:Int)) rfl).trans ((V6 _ rfl d).trans ?_))));rw [TJ (by omega),show lset [((TM a b n).1:Int),((TM a b n).2:Int)] 1 (((TM a b n).2+1:Nat):Int)=[((TM a b n).1:Int),(((TM a b n).2+1:Nat):Int)] from rfl,Xs va vb e (by omega),SL,c];rfl
theorem gO {n:Nat} (h:n<=a.length+b.length):Wm (YS a b n)=some (((a.length+b.length-n:Nat):Int),0):=by
 obtain ⟨c,hs⟩:=V7 va vb (n:=n) h;have f:=va.len;have g:=vb.len;have d:=c.ia;have e:=c.jb;unfold Wm;rw [show YS a b n=Yd a b (TM a b n).1 (TM a b n).2 from rfl,ZA va vb c,SL,Ss,if_pos rfl];refine Td (x:=(0,((2,((a.length+b.length-n:Nat):Int)),()))) (Uo (s1:=(1,(a.length:Int)-((TM a b n).1:Int))) (s2:=(2,((a.length+b.length-n:Nat):Int))) ?_ ?_ rfl) rfl
 ·refine (ZI 0 rfl rfl (x:=a) rfl).trans ((V6 0 rfl (x:=((TM a b n).1:Int)) rfl).trans ?_);simp only [TH,TF];rw [show Rl .i64 (0:Int) (a.length:Int)=(a.length:Int) by rw [R9 (by omega),Int.zero_add],SB (by omega)];rfl
 ·refine (ZI 1 rfl rfl (x:=b) rfl).trans ((V6 1 rfl (x:=((TM a b n).2:Int)) rfl).trans ?_);simp only [TH,TF];show some (LR.nx ((2:Int),Rp .i64 (Rl .i64 ((a.length:Int)-((TM a b n).1:Int)) (b.length:Int)) ((TM a b n).2:Int)))=_;rw [R9 (by omega),SB (by omega),show (a.length:Int)-((TM a b n).1:Int)+(b.length:Int)-((TM a b n).2:Int)=((a.length+b.length-n:Nat):Int) by omega]
theorem dh:V0 [a,b]=some (TU a b (a.length+b.length),(XM a b (a.length+b.length),0)):=by
 have l:=va.len;have m:=vb.len;unfold V0;rw [YZ va vb,SL,Ss,if_pos rfl];refine Eq.trans (b:=bd (loop _ ([],([],([],(0,([],[0,0])))))) _) rfl ?_
 refine Td (x:=(0,((XM a b (a.length+b.length),(TU a b (a.length+b.length),0)),())))
  (Xh (λk=>([],(TU a b k,([],(0,(XM a b k,[((TM a b k).1:Int),((TM a b k).2:Int)])))))) 0 (a.length+b.length) rfl (by omega) (by omega) (λk _ j => ?_) ?_) rfl
 ·obtain ⟨x,c,_⟩:=VX va vb (n:=k) j;obtain ⟨d,hs⟩:=V7 va vb (n:=k) (by omega);have e:(TU a b k).length=k:=Us va vb (by omega);have f:=Yz a b k;simp only;rw [Xr va vb d.ia d.jb,SL,if_neg (λhh:(TM a b k).1=a.length/\(TM a b k).2=b.length=>by omega)];rw [WY va vb c];unfold ZF at c;rw [show XM a b (k+1)=XM a b k++[(Zl a b k:Int)] from rfl];unfold Zl;rw [show TM a b (k+1)=if XL a b (TM a b k).1 (TM a b k).2=true then ((TM a b k).1+1,(TM a b k).2) else ((TM a b k).1,(TM a b k).2+1) from rfl]
  have h : ∀ {β:Type} (y:S8) (q:Unit->Option β),gd (CD (BD (AS (TU a b k)) (AS [y])) 1048576) q=q ():=λy q=>UC (by simp only [BD,AS,e,List.length_cons,List.length_nil];omega) q;have i : ∀ {β:Type} (y:Int) (q:Unit->Option β),gd (CD (BD (AS (XM a b k)) (AS [y])) 1048576) q=q ():=λy q=>UC (by simp only [BD,AS,f,List.length_cons,List.length_nil];omega) q;cases g:XL a b (TM a b k).1 (TM a b k).2 with
  | true =>
   rw [g,if_pos rfl] at c;have hi:=(List.getElem?_eq_some_iff.1 c).1;simp only [if_true];rw [Sr,if_neg (by omega)];refine (V6 0 rfl (x:=a) rfl).trans ((X7 0 rfl (x:=((TM a b k).1:Int)) rfl).trans ((V6 _ rfl c).trans ?_));rw [h,i];refine (X7 0 rfl (x:=((TM a b k).1:Int)) rfl).trans ((X7 0 rfl (x:=((TM a b k).1:Int)) rfl).trans ?_);rw [TJ (by omega)];rfl
  | false =>
   rw [g,if_neg (by simp)] at c;have hi:=(List.getElem?_eq_some_iff.1 c).1;simp only [Bool.false_eq_true,if_false];rw [Sr,if_neg (by omega)];refine (V6 1 rfl (x:=b) rfl).trans ((X7 1 rfl (x:=((TM a b k).2:Int)) rfl).trans ((V6 _ rfl c).trans ?_));rw [h,i];refine (X7 1 rfl (x:=((TM a b k).2:Int)) rfl).trans ((X7 1 rfl (x:=((TM a b k).2:Int)) rfl).trans ?_);rw [TJ (by omega)];rfl
 ·obtain ⟨d,hs⟩:=V7 va vb (n:=a.length+b.length) (Nat.le_refl _);simp only;rw [Xr va vb d.ia d.jb,SL,if_pos (show (TM a b (a.length+b.length)).1=a.length/\(TM a b (a.length+b.length)).2=b.length by have:=d.ia;have:=d.jb;omega),Sr,if_pos (by omega)]
end
theorem bR {s:UI} (b:s.2.1.length<=32) (a:s.1=false->s.2.1=[]):WS s=some 0:=by
 unfold WS;rw [Sp,if_neg (by simp only [TH,Xv];omega),Tl,Sx];cases h:s.1 with
 | true=>rfl
 | false=>rw [if_neg (by simp),Tl,Vv,if_pos (a h)]
theorem cC {s:UI} {x:S8} (e:s.2.1.length<=32) (f:s.1=false->s.2.1=[]) (g:kE x=0) (a:s.1=true->Rz x.1 s.2.1=false):Wo (s,x)=some (keep s x,((true,(x.1,s.2.2)),0)):=by
 unfold Wo keep;rw [bR e f,SL,Sn,if_pos rfl,Yr,g,SL,Sn,if_pos rfl];obtain ⟨s1,s2,c⟩:=s;obtain ⟨h,i,d,j⟩:=x;simp only at a ⊢;cases s1 with
 | true =>
  have:=a rfl;simp only [R5,Wy,this,Bool.false_eq_true,if_false,Ss,if_true,Tl,Vv];by_cases b:h=s2
  ·simp [b,Rd]
  ·simp only [b,if_false,decide_false];cases c<;>cases d<;>rfl
 | false =>
  simp only [Rd,Ss,if_true,Tl];cases c<;>cases d<;>rfl
theorem bu {l:List S8} {b:Bool} (t:l.length<=20000) (r:Yv (false,([],b)) l):V1 (l,b)=some (Vu (false,([],b)) l,(0,0)):=by
 unfold V1 Uz;simp only [TH,TF];rw [Sp,if_neg (by omega),SL]
 rw [U6 (l:=l) (σ:=UI×List S8) (s:=(0,(0,([],([],(0,(false,([],b)))))))) (λk a=>((0:Int),((k:Int),(([]:List S8),(a.2,((0:Int),a.1))))))
  (λm k a=>Yv a.1 m/\a.1.2.1.length<=32/\(a.1.1=false->a.1.2.1=[])/\a.2.length<=k/\k+m.length=l.length)
  (λm k a=>(1,((0,((l.length:Int),([],(a.2++Vu a.1 m,(0,Ua a.1 m))))),()))) ((false,([],b)),[]) rfl (by omega) ⟨r,by simp,λ_=>rfl,by simp,by simp⟩ ?_ ?_,SL]
 ·simp;rfl
 ·intro a _;simp only;rw [re,Rd];simp [Ua,Vu]
 ·rintro k x m ⟨s,out⟩ u d p ⟨⟨c,e,f⟩,g,i,j,n⟩;simp only at c e f g i j ⊢;refine ⟨((true,(x.1,s.2.2)),out++if keep s x=true then [x] else []),?_,⟨f,ZW c,(λh=>by cases h),?_,by simp at n;omega⟩,?_⟩
  ·rw [rl p,R5,S9,Sb d,cC g i c e,SL,Ss,if_pos rfl,Sx,S9,Sb d];have o : ∀ {β:Type} (k:Unit->Option β),gd (CD (BD out.length [x].length) 1048576) k=k ():=λk=>dV j (by simp at n;omega) x k;rw [o,TL d (show l.length<=9223372036854775807 by omega)];cases q:keep s x<;>simp [Ik]
  ·split<;>simp<;>omega
  ·simp only [Ua,Vu,List.append_assoc]
section
variable {a b:List S8} (va:VL a) (vb:VL b)
include va vb
theorem Zv (c:Bool) {n:Nat} (h:n<=a.length+b.length):U4 (TU a b n,c)=some (Vu (s0 c) (TU a b n),Ua (s0 c) (TU a b n)):=by
 have f:=va.len;have g:=vb.len;have d:(TU a b n).length=n:=Us va vb h;unfold U4;simp only [TH,TF];rw [bu (by omega) (W3 va vb c h),SL];unfold Uz;rw [SL,Sp,d];cases n with
 | zero=>rw [if_neg (by omega)];rfl
 | succ m =>
  obtain ⟨x,e,_⟩:=VX va vb (n:=m) (by omega);rw [if_pos (by omega),show Rp .i64 ((m+1:Nat):Int) 1=(m:Int) by rw [SB (by omega)];omega,S9,Sb (x:=x) (by rw [Xi va vb h (by omega)];exact e),X6 va vb c e]
theorem bQ (c:Bool) {n:Nat} (h:n<=a.length+b.length):Vc (U7 a b c n)=some (n:Int):=by
 obtain ⟨d,hs⟩:=V7 va vb (n:=n) h;have e:=va.len;have f:=vb.len;unfold Vc;refine Td (x:=(0,(((n:Int),2),()))) (Uo (s1:=(((TM a b n).1:Int),1)) (s2:=((n:Int),2)) ?_ ?_ rfl) rfl
 ·refine (ZI 0 rfl rfl (x:=((TM a b n).1:Int)) rfl).trans ?_;show some (LR.nx (Rl .i64 0 ((TM a b n).1:Int),(1:Int)))=_;rw [R9 (by omega),Int.zero_add]
 ·refine (ZI 1 rfl rfl (x:=((TM a b n).2:Int)) rfl).trans ?_;show some (LR.nx (Rl .i64 ((TM a b n).1:Int) ((TM a b n).2:Int),(2:Int)))=_;rw [R9 (by omega),show ((TM a b n).1:Int)+((TM a b n).2:Int)=(n:Int) by omega]
theorem bT (c:Bool) {n:Nat} (h:n<=a.length+b.length):WU (U7 a b c n)=some 0:=by
 obtain ⟨d,hs⟩:=V7 va vb (n:=n) h;have g:=va.len;have i:=vb.len;have e:=Xb (s0 c) (TU a b n);have f:(TU a b n).length=n:=Us va vb h;unfold WU;rw [show (U7 a b c n).1=Yd a b (TM a b n).1 (TM a b n).2 from rfl,ZA va vb d,SL,Ss,if_pos rfl,bQ va vb c h,SL];simp only [TH,TF];rw [show (U7 a b c n).2.2.1=Vu (s0 c) (TU a b n) from rfl,show (U7 a b c n).2.2.2=(n:Int) from rfl,show (U7 a b c n).2.1=Ua (s0 c) (TU a b n) from rfl,Sp,if_neg (by omega),Sp,if_neg (by omega),Ss,if_pos rfl];rw [show (Yd a b (TM a b n).1 (TM a b n).2).1=[a,b] from rfl,dh va vb,SL,S9];rw [UC (by rw [Us va vb (Nat.le_refl _)];exact h),UC (Nat.zero_le _)];rw [show Dy (TU a b (a.length+b.length)) 0 n=TU a b n from by unfold Dy;rw [List.drop_zero,Nat.sub_zero];exact XG va vb h,Wv];rw [show (s0 c).2.2=c from rfl,Zv va vb c h,SL,XB,Wd _ _ (by omega),SL,Uq,Uv,if_neg (by simp),Wv,XU,XU,Xt];rfl
theorem Ya (c:Bool) {n:Nat} (h:n<=a.length+b.length):Tf (U7 a b c n)=some (((a.length+b.length-n:Nat):Int),0):=by
 unfold Tf;rw [bT va vb c h,SL,Ss,if_pos rfl,show (U7 a b c n).1=YS a b n from rfl,gO va vb h];rfl
theorem Zj (c:Bool) {n:Nat} (h:n<=a.length+b.length) {k:Nat}:TY (U7 a b c n,(k:Int))=some (U7 a b c (n+min k (a.length+b.length-n)),(((min k (a.length+b.length-n):Nat):Int),0)):=by
 have i:=va.len;have l:=vb.len;obtain ⟨u,e⟩ : ∃ u,u=min k (a.length+b.length-n):=⟨_,rfl⟩
 have d:Sz (k:Int) ((a.length+b.length-n:Nat):Int)=(u:Int):=by
  unfold Sz;split<;>omega
 rw [<- e];unfold TY;rw [Ya va vb c h,SL,Sn,if_pos rfl];simp only [d,TH,TF];rw [Sr,if_neg (by omega),Ss,if_pos rfl,bQ va vb c h,SL,R9 (by omega),Sp,if_neg (by omega)]
 refine Td (x:=(0,(((u:Int),((YS a b (n+u)).1,((YS a b (n+u)).2.1,((YS a b (n+u)).2.2.1,((YS a b (n+u)).2.2.2.1,((YS a b (n+u)).2.2.2.2,((U7 a b c n).2.1.1,((U7 a b c n).2.1.2.1,((U7 a b c n).2.1.2.2,(U7 a b c n).2.2))))))))),())))
  (Xh (λj=>((j:Int),((YS a b (n+j)).1,((YS a b (n+j)).2.1,((YS a b (n+j)).2.2.1,((YS a b (n+j)).2.2.2.1,((YS a b (n+j)).2.2.2.2,((U7 a b c n).2.1.1,((U7 a b c n).2.1.2.1,((U7 a b c n).2.1.2.2,(U7 a b c n).2.2)))))))))) 0 u rfl (by omega) (by omega) (λj _ g => ?_) ?_) ?_
 ·obtain ⟨y,f,_⟩:=VX va vb (n:=n+j) (by omega);show br (SW (j:Int) (u:Int)) _ _=_;rw [Sr,if_pos (by omega)];show bd (Vb (YS a b (n+j))) _=_;rw [gQ va vb (by omega) f,SL,TJ (by omega)];rfl
 ·show br (SW (u:Int) (u:Int)) _ _=_;rw [Sr,if_neg (by omega)]
 ·rw [show (U7 a b c n).1.1=[a,b] from rfl,dh va vb,SL,show (U7 a b c n).2.2.2=(n:Int) from rfl,show Rl .i64 (n:Int) (u:Int)=((n+u:Nat):Int) by rw [R9 (by omega)];omega,S9];rw [UC (by rw [Us va vb (Nat.le_refl _)];omega),UC (Nat.zero_le _)];rw [show Dy (TU a b (a.length+b.length)) 0 (n+u)=TU a b (n+u) from by unfold Dy;rw [List.drop_zero,Nat.sub_zero];exact XG va vb (by omega),show (U7 a b c n).2.1.2.2=c from Wv _ _,Zv va vb c (by omega),SL];rfl
end
end
section
open Go Go.Proofs.YtfilfloanndddaaGreat.Sv
theorem aA (B:Int) (i:Nat):UV B (i+1)=2*UV B i:=by
 unfold UV;rw [Int.pow_succ,<- Int.mul_assoc,Int.mul_comm]
theorem bS {B:Int} {i:Nat} (a:1<=B) (b:B<=16) (hi:i<=12):VE (B,(i:Int))=some (UV B i):=by
 unfold VE;refine Td (x:=(0,((UV B i,(i:Int)),()))) (ZZ (λk=>(UV B k,(k:Int))) i (by simp [UV]) (by omega) (λk d => ?_) ?_) rfl
 ·have c:=bU a b (show k<=12 by omega);simp only;rw [Sr,if_pos (by omega),SA (by omega),TJ (by omega),aA]
 ·simp only;rw [Sr,if_neg (by omega)]
theorem mC (r:Tc) (b:r.2.length<=9223372036854775807):WQ r=some (if r.1<1\/r.1>1000000 then (-1,7) else WJ r.2):=by
 unfold WQ;rw [Sr,Sp,W2 _ b,SL];by_cases h:r.1<1
 ·rw [if_pos h,if_pos (.inl h)]
 ·rw [if_neg h];by_cases a:r.1>1000000
  ·rw [if_pos a,if_pos (.inr a)]
  ·rw [if_neg a,if_neg (by omega)]
theorem gU (r:Tc) (most:Int) (a:List Int) (z:r.2.length<=9223372036854775807) (hi:a.length<=1048576):Ve (r,(most,a))=some (kR a most r):=by
 unfold Ve kR;rw [mC r (by omega),SL];simp only [TH,TF];by_cases h:r.1<1\/r.1>1000000
 ·rw [if_pos h,if_pos h];rfl
 rw [if_neg h,if_neg h,Ss];by_cases b:(WJ r.2).2=0;rotate_left
 ·rw [if_neg b,if_pos b]
 rw [if_pos b,if_neg (show ¬ (WJ r.2).2≠0 by simp [b]),Sn,Sp];by_cases i:r.2.length=0
 ·rw [if_pos (by omega),if_pos i]
 rw [if_neg (by omega),if_neg i];by_cases c:(r.2.length:Int)>most
 ·rw [if_pos c,if_pos c]
 rw [if_neg c,if_neg c]
 obtain ⟨q,p,d⟩:=WX (l:=a) (σ:=Unit) (s:=((0:Int),(0:Int))) (λk _=>((k:Int),(0:Int))) (λm k _=>r.1∈a<->r.1∈m) (λ(q:Nat×((Int×Int)×Unit))=>(q.1=1/\r.1 ∉ a)\/(q.1=0/\r.1∈a/\q.2.1.2=8))
  (f:=λs1=>br (SW s1.1 (a.length:Int)) (λ_=>RX s1.1 λo=>ix a o λw=>br (RR w r.1) (λ_=>some (.dn ((0,((s1.1,8),()))))) λ_=>some (.nx (Rl .i64 s1.1 1,s1.2))) λ_=>some (.dn ((1,(s1,())))))
  () rfl (by omega) Iff.rfl (λ_ h=>⟨_,by simp only;rw [re];rfl,.inl ⟨rfl,by simpa using h⟩⟩) (λk x m _ y j n h=>by
   simp only;rw [rl n,R5,S9,Sb j,Sn];by_cases e:x=r.1
   ·rw [if_pos e];exact .inr ⟨_,rfl,.inr ⟨rfl,by rw [h,e];simp,rfl⟩⟩
   ·rw [if_neg e];exact .inl ⟨(),by rw [TL j (by omega)],by rw [h,List.mem_cons];exact ⟨λu=>u.elim (λe2=>absurd e2.symm e) id,.inr⟩⟩)
 refine Td p ?_;rw [SM];rcases d with ⟨d,g⟩ | ⟨d,g,t⟩
 ·rw [if_neg (show ¬ q.1=0 by omega),if_neg g]
 ·rw [if_pos d,if_pos g,t]
theorem aX (L:TB) (hb:L.2.length<=1048576) (hr : ∀ rs∈L.2,rs.length<=1048576 /\ ∀ r∈rs,r.2.length<=9223372036854775807):Uf L=some (Vs L):=by
 unfold Uf Vs;simp only [TH,TF];rw [Sr,Sp,Sp];by_cases n:L.1<1
 ·rw [if_pos n,if_pos (.inl n)]
 rw [if_neg n];by_cases o:L.1>16
 ·rw [if_pos o,if_pos (.inr o)]
 rw [if_neg o,if_neg (show ¬ (L.1<1\/L.1>16) by omega)];by_cases S:(L.2.length:Int)>12
 ·rw [if_pos S,if_pos (by omega)]
 rw [if_neg S,if_neg (by omega)];have hl2:L.2.length<=12:=by omega
 obtain ⟨T,N⟩ : ∃ T,T=YL L.1 0 [] L.2:=⟨_,rfl⟩;rw [<- N]
 have p:T=none->(br (SU (L.2.length:Int) 0) (λ_=>RX (Rp .i64 (L.2.length:Int) 1) λD=>ix L.2 D λJ=>br (RR (J.length:Int) 0) (λ_=>some ((Rp .i64 (L.2.length:Int) 1,((0:Int),(6:Int))))) λ_=>some ((0,(0,0)))) λ_=>some ((0,(0,0))))=some (if L.2.getLast? = some [] then (((L.2.length-1:Nat):Int),(0,6)) else (0,(0,0))):=by
  intro _;rw [Sp];by_cases X:L.2=[]
  ·rw [X];rfl
  ·have hp:=List.length_pos_iff.2 X;rw [if_pos (by omega),show Rp .i64 (L.2.length:Int) 1=((L.2.length-1:Nat):Int) by rw [SB (by omega)];omega,S9,List.getLast?_eq_getElem?];have d:L.2[L.2.length-1]? = some (L.2[L.2.length-1]'(by omega)):=by simp
   rw [Sb d,d,Sn];by_cases C:L.2[L.2.length-1]'(by omega)=[]
   ·rw [C];simp
   ·rw [if_neg (by have:=List.length_pos_iff.2 C;omega),if_neg (by simp [C])]
 obtain ⟨r,G,j⟩:=WX (l:=L.2) (σ:=List Int) (s:=((0:Int),(([]:List Int),((0:Int),((0:Int),(0:Int)))))) (λi a=>((0:Int),(a,((0:Int),((0:Int),(i:Int))))))
  (λm i a=>YL L.1 i a m=T/\a.length<=2*i) (λ(r:Nat×((Int×(List Int×(Int×(Int×Int))))×Unit))=>(r.1=1/\T=none)\/(r.1=0/\Q1 T r.2.1.1 r.2.1.2.2.1 r.2.1.2.2.2.1/\T≠none))
  (f:=λ(s0:(Int×((List Int)×(Int×(Int×Int)))))=>br (SW s0.2.2.2.2 (L.2.length:Int)) (λ_=>RX s0.2.2.2.2 λk1=>ix L.2 k1 λB=>br (SU (B.length:Int) 2) (λ_=>some (.dn ((0,((0,(s0.2.1,(s0.2.2.2.2,(3,s0.2.2.2.2)))),()))))) λ_=>bd (loop (λ(b:(Int×((List Int)×(Int×(Int×Int)))))=>br (SW b.2.2.2.2 (B.length:Int)) (λ_=>RX b.2.2.2.2 λE=>ix B E λK=>bd (VE (L.1,s0.2.2.2.2)) λI=>bd (Ve ((K,(I,b.2.1)))) λy=>br (RT y 0) (λ_=>some (.dn ((0,((b.2.2.2.2,(b.2.1,(s0.2.2.2.2,(y,b.2.2.2.2)))),()))))) λ_=>RX b.2.2.2.2 λF=>ix B F λz=>gd (CD (BD b.2.1.length [z.1].length) 1048576) λ_=>some (.nx ((b.1,(Ik b.2.1 [z.1],(b.2.2.1,(b.2.2.2.1,Rl .i64 b.2.2.2.2 1))))))) λ_=>some (.dn ((1,(b,()))))) ((s0.1,(s0.2.1,(s0.2.2.1,(s0.2.2.2.1,0)))))) λc=>br (neq c.1 0) (λ_=>some (.dn ((0,((c.2.1.1,(c.2.1.2.1,(c.2.1.2.2.1,(c.2.1.2.2.2.1,s0.2.2.2.2)))),()))))) λ_=>some (.nx ((c.2.1.1,(c.2.1.2.1,(c.2.1.2.2.1,(c.2.1.2.2.2.1,Rl .i64 s0.2.2.2.2 1))))))) λ_=>some (.dn ((1,(s0,())))))
  [] rfl (by omega) ⟨N.symm,by simp⟩ (λa h=>by
   refine ⟨_,by simp only;rw [re];rfl,.inl ⟨rfl,?_⟩⟩;rw [<- h.1];rfl) (λi rs m a Z d hi h=>by
   obtain ⟨h,P⟩:=h;simp only;obtain ⟨Y,u⟩:=hr rs (List.mem_of_getElem? d);rw [rl hi,R5,S9,Sb d,Sp];unfold YL at h;by_cases M:rs.length>2
   ·rw [if_pos (by omega)];rw [if_pos M] at h;refine .inr ⟨_,rfl,.inr ⟨rfl,?_,by rw [<- h];simp⟩⟩;rw [<- h];exact ⟨rfl,rfl,rfl⟩
   rw [if_neg (by omega)];rw [if_neg M] at h;obtain ⟨U,O⟩ : ∃ U,U=YN (UV L.1 i) 0 a rs:=⟨_,rfl⟩;rw [<- O] at h
   obtain ⟨r,G,j⟩:=WX (l:=rs) (σ:=Unit) (s:=((0:Int),(a,((0:Int),((0:Int),(0:Int)))))) (λk _=>((0:Int),(a++(rs.take k).map (·.1),((0:Int),((0:Int),(k:Int))))))
    (λm k _=>YN (UV L.1 i) k (a++(rs.take k).map (·.1)) m=U) (λ(r:Nat×((Int×(List Int×(Int×(Int×Int))))×Unit))=>(r.1=1/\U=none/\r.2.1=(0,(a++rs.map (·.1),(0,(0,(rs.length:Int))))))\/(r.1=0 /\ ∃ k e,U=some (k,e)/\r.2.1.1=(k:Int)/\r.2.1.2.2.1=(i:Int)/\r.2.1.2.2.2.1=e))
    (f:=λ(b:(Int×((List Int)×(Int×(Int×Int)))))=>br (SW b.2.2.2.2 (rs.length:Int)) (λ_=>RX b.2.2.2.2 λE=>ix rs E λK=>bd (VE (L.1,(i:Int))) λI=>bd (Ve ((K,(I,b.2.1)))) λy=>br (RT y 0) (λ_=>some (.dn ((0,((b.2.2.2.2,(b.2.1,((i:Int),(y,b.2.2.2.2)))),()))))) λ_=>RX b.2.2.2.2 λF=>ix rs F λz=>gd (CD (BD b.2.1.length [z.1].length) 1048576) λ_=>some (.nx ((b.1,(Ik b.2.1 [z.1],(b.2.2.1,(b.2.2.2.1,Rl .i64 b.2.2.2.2 1))))))) λ_=>some (.dn ((1,(b,())))))
    () (by simp) (by omega) (by simp [O]) (λ_ h=>by
     refine ⟨_,by simp only;rw [re];rfl,.inl ⟨rfl,by rw [<- h];rfl,by simp⟩⟩) (λk r m _ Z d hk h=>by
     simp only;have hr2:=u r (List.mem_of_getElem? d);have w:(rs.take (k+1)).map (·.1)=(rs.take k).map (·.1)++[r.1]:=by rw [List.take_add_one,d];simp
     have W:(a++(rs.take k).map (·.1)).length<=100:=by simp;omega
     rw [rl hk,R5,S9,Sb d,bS (by omega) (by omega) (by omega),SL,gU _ _ _ (by omega) (by omega),SL,Ss];unfold YN at h;by_cases A:kR (a++(rs.take k).map (·.1)) (UV L.1 i) r=0
     ·rw [if_neg (λhh:kR (a++(rs.take k).map (·.1)) (UV L.1 i) r≠0=>hh A)] at h;rw [if_pos A,S9,Sb d,UC (by simp only [BD,List.length_cons,List.length_nil];omega)];refine .inl ⟨(),?_,?_⟩
      ·rw [TL d (by omega),w,<- List.append_assoc];rfl
      ·rw [w,<- List.append_assoc];exact h
     ·rw [if_pos A] at h;rw [if_neg A]
      exact .inr ⟨_,rfl,.inr ⟨rfl,_,_,h.symm,rfl,rfl,rfl⟩⟩)
   rw [G,SL,SM];rcases j with ⟨j,g,x⟩ | ⟨j,k,e,g,x,q5,q6⟩
   ·rw [if_neg (show ¬ r.1=0 by omega),x,TL d (by omega)];rw [g] at h;exact .inl ⟨a++rs.map (·.1),rfl,h,by simp;omega⟩
   ·rw [if_pos j];rw [g] at h;refine .inr ⟨_,rfl,.inr ⟨rfl,?_,by rw [<- h];simp⟩⟩;rw [<- h]
    exact ⟨x,q5,q6⟩)
 refine Td G ?_;rw [SM];rcases j with ⟨j,g⟩ | ⟨j,g,x⟩
 ·rw [if_neg (show ¬ r.1=0 by omega),g];exact p g
 ·rw [if_pos j];cases q:T with
  | none=>exact absurd q x
  | some t =>
   obtain ⟨i,k,e⟩:=t;rw [q] at g;rw [g.1,g.2.1,g.2.2]
def Uj (ls:List (List Tc)):List Tc:=ls.flatMap List.reverse
theorem VLev.small {L:TB} (v:VLev L):L.2.length<=1048576 /\ ∀ rs∈L.2,rs.length<=1048576 /\ ∀ r∈rs,r.2.length<=9223372036854775807:=by
 refine ⟨by have:=v.len;omega,λrs a => ?_⟩;obtain ⟨i,hi⟩:=List.getElem?_of_mem a;obtain ⟨d,b⟩:=v.lev i rs hi;exact ⟨by omega,λr c=>by have:=(b r c).vl.len;omega⟩
theorem ZE : ∀ (ls:List (List Tc)),(∀ rs∈ls,rs.length<=2)->(Uj ls).length<=2*ls.length
 | [],_=>by simp [Uj]
 | rs::ls,h=>by
  have a:=ZE ls λr b=>h r (by simp [b]);have c:=h rs (by simp);unfold Uj at a ⊢;rw [List.flatMap_cons,List.length_append,List.length_reverse,List.length_cons];omega
theorem VLev.two {L:TB} (v:VLev L) : ∀ rs∈L.2,rs.length<=2:=λrs a=>by
 obtain ⟨i,hi⟩:=List.getElem?_of_mem a;exact (v.lev i rs hi).1
theorem cB {L:TB} (v:VLev L):V2 L=some (Uj L.2,0):=by
 obtain ⟨d,b⟩:=v.small;have f:=v.len;unfold V2;simp only [TH,TF];rw [aX _ d b,Ww v,SL,Ss,if_pos rfl]
 rw [U6 (l:=L.2) (σ:=List Tc) (s:=(([]:List Tc),(0:Int))) (λi m=>(m,(i:Int))) (λls i m=>(∀ rs∈ls,rs.length<=2)/\m.length<=2*i) (λls _ m=>(0,((m++Uj ls,(L.2.length:Int)),()))) [] rfl (by omega) ⟨v.two,by simp⟩ (λm _=>by
  simp only;rw [re,Rd];simp [Uj]) (λi rs ls m e a hi h=>by
   refine ⟨m++rs.reverse,?_,⟨λr b=>h.1 r (by simp [b]),by have:=h.1 rs (by simp);simp;omega⟩,by simp [Uj]⟩;have c:=h.1 rs (by simp);have g:m.length<=24:=by have:=h.2;omega
   simp only;rw [rl hi,R5,S9,Sb a];have gg : ∀ {β:Type} (z:List Tc) (x:Tc) (k:Unit->Option β),z.length<=100->gd (CD (BD z.length [x].length) 1048576) k=k ():=λz x k j=>UC (by simp only [BD,List.length_cons,List.length_nil];omega) k
   match rs,c,a with
   | [],_,a =>
    refine Td (x:=(0,((m,-1),()))) (Ui (n:=1) (by omega) (Tk rfl)) ?_;rw [TL a (by omega)];simp
   | [r0],_,a =>
    refine Td (x:=(0,((m++[r0],-1),()))) (Ui (n:=2) (by omega) ((Te (s':=(m++[r0],-1)) ?_).trans (Tk rfl))) ?_
    ·show br (RS (0:Int) 0) _ _=_;rw [So,if_pos (by omega),S9,Sb a];refine (V6 0 rfl (x:=r0) rfl).trans ?_;rw [gg m _ _ (by omega)];rfl
    ·rw [TL a (by omega)];simp
   | [r0,r1],_,a =>
    refine Td (x:=(0,((m++[r1]++[r0],-1),()))) (Ui (n:=3) (by omega) ((Te (s':=(m++[r1],0)) ?_).trans ((Te (s':=(m++[r1]++[r0],-1)) ?_).trans (Tk rfl)))) ?_
    ·show br (RS (1:Int) 0) _ _=_;rw [So,if_pos (by omega),S9,Sb a];refine (V6 1 rfl (x:=r1) rfl).trans ?_;rw [gg m _ _ (by omega)];rfl
    ·show br (RS (0:Int) 0) _ _=_;rw [So,if_pos (by omega),S9,Sb a];refine (V6 0 rfl (x:=r0) rfl).trans ?_;rw [gg (m++[r1]) _ _ (by simp;omega)];rfl
    ·rw [TL a (by omega)];simp),SL]
 simp
theorem Wt (a b:Int):S0 a b=max a b:=by unfold S0;split<;>omega
theorem WL : ∀ (l:List Tc) (m:Int),0<=m->l.foldl (λm r=>S0 m r.1) m=max m (l.foldl (λm r=>S0 m r.1) 0)
 | [],m,h=>by simp;omega
 | r::l,m,h=>by
  have a:=WL l (S0 m r.1) (by rw [Wt];omega);have b:=WL l (S0 0 r.1) (by rw [Wt];omega);simp only [List.foldl_cons];rw [a,b,Wt,Wt];omega
theorem Zs (l:List Tc) (m:Int) (h:0<=m):l.reverse.foldl (λm r=>S0 m r.1) m=l.foldl (λm r=>S0 m r.1) m:=by
 induction l generalizing m with
 | nil=>rfl
 | cons r l a =>
  rw [List.reverse_cons,List.foldl_append,a m h,List.foldl_cons];simp only [List.foldl_cons,List.foldl_nil];rw [WL l m h,WL l (S0 m r.1) (by rw [Wt];omega),Wt,Wt];omega
theorem aM (l:List Tc) (m:Int) (h:0<=m):0<=l.foldl (λm r=>S0 m r.1) m:=by
 rw [WL l m h];omega
theorem Xx : ∀ (ls:List (List Tc)) (m:Int),0<=m->(Uj ls).foldl (λm r=>S0 m r.1) m=ls.foldl (λm rs=>rs.foldl (λm r=>S0 m r.1) m) m
 | [],m,_=>rfl
 | rs::ls,m,h=>by
  have a:=Xx ls (rs.foldl (λm r=>S0 m r.1) m) (aM _ _ h);unfold Uj at a ⊢;rw [List.flatMap_cons,List.foldl_append,Zs rs m h,List.foldl_cons,a]
theorem aW {L:TB} (v:VLev L):UZ L=some (WF L.2):=by
 have d:=v.len;have e:=ZE L.2 v.two;unfold UZ;simp only [TH,TF];rw [cB v,SL]
 rw [U6 (l:=Uj L.2) (σ:=Int) (s:=((0:Int),(0:Int))) (λi m=>(m,(i:Int))) (λ_ _ _=>True) (λl _ m=>(0,((l.foldl (λm r=>S0 m r.1) m,((Uj L.2).length:Int)),()))) 0 rfl (by omega) trivial (λm _=>by
  simp only;rw [re,Rd];rfl) (λk r l m c a b _=>⟨S0 m r.1,by
   simp only
   rw [rl b,R5,S9,Sb a,TL a (by omega)],trivial,rfl⟩),SL]
 rw [Xx _ _ (by omega)];rfl
theorem ZL {L:TB} (e:L.2.length<=1000):UB L=some (TI 0 L.2):=by
 unfold UB;simp only [TH,TF]
 rw [U6 (l:=L.2) (σ:=List Int) (s:=(([]:List Int),(0:Int))) (λi m=>(m,(i:Int))) (λls i m=>m++TI i ls=TI 0 L.2) (λ_ _ _=>(0,((TI 0 L.2,(L.2.length:Int)),()))) [] rfl (by omega) rfl (λm h=>by
  simp only;rw [re,Rd,<- h];simp [TI]) (λi rs ls m d b hi h=>by
   refine ⟨m++(if rs.length=2 then [(i:Int)] else []),?_,?_,rfl⟩
   ·simp only;rw [rl hi,R5,S9,Sb b,Sn]
    have f:m.length<=1000:=by
     have a:=congrArg List.length h;have c:=VU L.2 0;rw [List.length_append] at a;omega
    by_cases a:rs.length=2
    ·rw [if_pos (by omega),if_pos a,UC (by simp only [BD,List.length_cons,List.length_nil];omega),TL b (by omega)];rfl
    ·rw [if_neg (by omega),if_neg a,List.append_nil,TL b (by omega)]
   ·rw [List.append_assoc];exact h),SL]
theorem mh {L:TB} (v:VLev L) (k:Int):XP (L,k)=some (if k<0\/k>=12 then 7 else 0):=by
 obtain ⟨c,d⟩:=v.small;unfold XP;rw [aX _ c d,Ww v,SL,Sn,if_pos rfl,Sr,So];by_cases a:k<0
 ·rw [if_pos a,if_pos (.inl a)]
 ·rw [if_neg a];by_cases b:k>=12
  ·rw [if_pos b,if_pos (.inr b)]
  ·rw [if_neg b,if_neg (by omega)]
theorem Zi {L:TB} (v:VLev L) {n:Nat} (b:n<L.2.length):Tj (L,(n:Int))=some (decide ((n:Int)=(L.2.length:Int)-1)):=by
 have a:=v.len;unfold Tj W7;simp only [TH,TF];rw [mh v,SL,if_neg (by omega),Ss,if_pos rfl,SL,TJ (by omega)];unfold SU;rw [Uq];by_cases h:(n:Int)=(L.2.length:Int)-1
 ·simp [h]
 ·simp [h];omega
theorem bx {a b:List S8} (va:VL a) (d:VL b) (c:Bool):WT ([a,b],c)=some (U7 a b c 0,(0,0)):=by
 unfold WT W6 Uz;rw [YZ va d,SL,Ss,if_pos rfl];refine Eq.trans (b:=bd (bd (Uy ([a,b],[((0:Nat):Int),((0:Nat):Int)])) _) _) rfl ?_;rw [Xs va d (Nat.zero_le _) (Nat.zero_le _)];rfl
theorem Z8 {L:TB} {n:Nat} {a b:Tc} (c:Bool) (h:L.2[n]? = some [a,b]) (d:VL a.2) (e:VL b.2):TT (L,((n:Int),c))=some ((n:Int),U7 b.2 a.2 c 0):=by
 have f:=(List.getElem?_eq_some_iff.1 h).1;unfold TT;simp only [TH,TF];rw [So,if_neg (by omega),S9,Sb h,Sb (x:=b) rfl,Sb (x:=a) rfl,bx e d];rfl
theorem mA {L:TB} {n:Nat} {a b:Tc} {j:Job} (h:L.2[n]? = some [a,b]) (e:VL a.2) (f:VL b.2) {β:Type} (A B:Option β) :
  (bd (TT (L,((n:Int),j.2.2.1.2.2))) λc=>bd (Tf c.2) λl=>br (SW j.2.2.2.2 0) (λ_=>A) λ_=>br (SU j.2.2.2.2 l.1) (λ_=>A) λ_=>bd (TY (c.2,j.2.2.2.2)) λm=>bd (Tw (m.1,j.2)) λo=>br (Hf o) (λ_=>A) λ_=>B)
  = if j.2.2.2.2<0\/j.2.2.2.2>((b.2.length+a.2.length:Nat):Int) then A else if U7 b.2 a.2 j.2.2.1.2.2 j.2.2.2.2.toNat=j.2 then B else A:=by
 rw [Z8 _ h e f,SL,Ya f e _ (Nat.zero_le _),SL,Sr,Sp,Nat.sub_zero];by_cases g:j.2.2.2.2<0
 ·rw [if_pos g,if_pos (.inl g)]
 rw [if_neg g];by_cases i:j.2.2.2.2>((b.2.length+a.2.length:Nat):Int)
 ·rw [if_pos i,if_pos (.inr i)]
 rw [if_neg i,if_neg (show ¬ (j.2.2.2.2<0\/j.2.2.2.2>((b.2.length+a.2.length:Nat):Int)) by omega)];obtain ⟨k,p⟩ : ∃ k:Nat,j.2.2.2.2=(k:Int):=⟨j.2.2.2.2.toNat,by omega⟩;rw [p,Zj f e _ (Nat.zero_le _),SL,Nat.sub_zero,Nat.zero_add,Nat.min_eq_left (by omega),Int.toNat_natCast];obtain ⟨s1,s2,q,r,s,t⟩:=Zu f e j.2.2.1.2.2 (n:=k) (by omega);rw [cA _ _ s1 s2 q r s t,SL,Uq,Uv];by_cases d:U7 b.2 a.2 j.2.2.1.2.2 k=j.2
 ·rw [if_neg (by simp [d]),if_pos d]
 ·rw [if_pos d,if_neg d]
end
section
open Go Go.Proofs.YtfilfloanndddaaGreat.Sv
theorem bN (s:TA) (J:s.1.2.length<=1048576) (hr : ∀ rs∈s.1.2,rs.length<=1048576 /\ ∀ r∈rs,r.2.length<=9223372036854775807) (hj:s.2.1.length<=1048576):U0 s=some (TE s):=by
 unfold U0 TE;simp only [TH,TF];rw [aX _ J hr,SL,Sn];by_cases o:(Vs s.1).2.2=0;rotate_left
 ·rw [if_neg o,if_pos o,Sn,if_neg o,Ss,if_neg o]
 rw [if_pos o,if_neg (show ¬ (Vs s.1).2.2≠0 by simp [o]),Sr,Sp];have v:=XV.1 o;by_cases y:s.2.2<1
 ·rw [if_pos y,if_pos (.inl y)]
 rw [if_neg y];by_cases p:s.2.2>1000001
 ·rw [if_pos p,if_pos (.inr p)]
 rw [if_neg p,if_neg (show ¬ (s.2.2<1\/s.2.2>1000001) by omega),Sn,if_pos o,aW v,SL,Sq];by_cases m:s.2.2<=WF s.1.2
 ·rw [if_pos m,if_pos m]
 rw [if_neg m,if_neg m,Ss,if_pos o,ZL (by have:=v.len;omega),SL];obtain ⟨a,g⟩ : ∃ a,a=TI 0 s.1.2:=⟨_,rfl⟩;have hdl:a.length<=12:=by have:=VU s.1.2 0;have:=v.len;rw [g];omega
 rw [<- g];obtain ⟨T,Z⟩ : ∃ T,T=WW s.1 a 0 s.2.1:=⟨_,rfl⟩;rw [<- Z]
 obtain ⟨r,q1,D⟩:=WX (l:=s.2.1) (σ:=Unit) (λi _=>((0:Int),((0:Int),(i:Int)))) (λjs i _=>WW s.1 a i js=T) (λ(r:Nat×((Int×(Int×Int))×Unit))=>(T=none/\r.1=1)\/(∃ i:Nat,T=some i/\r.1=0/\r.2.1.1=6/\r.2.1.2.1=(i:Int)))
  (f:=λb=>br (SW b.2.2 (s.2.1.length:Int)) (λ_=>RX b.2.2 λk7=>ix s.2.1 k7 λe=>br (RS b.2.2 (a.length:Int)) (λ_=>some (.dn ((0,((6,(b.2.2,b.2.2)),()))))) λ_=>RX b.2.2 λk9=>ix a k9 λX=>br (RT e.1 X) (λ_=>some (.dn ((0,((6,(b.2.2,b.2.2)),()))))) λ_=>br e.2.2.1.2.2 (λ_=>bd (Tj (s.1,e.1)) λM=>br (Hf M) (λ_=>some (.dn ((0,((6,(b.2.2,b.2.2)),()))))) λ_=>bd (TT ((s.1,(e.1,e.2.2.1.2.2)))) λG=>bd (Tf G.2) λN=>br (SW e.2.2.2.2 0) (λ_=>some (.dn ((0,((6,(b.2.2,b.2.2)),()))))) λ_=>br (SU e.2.2.2.2 N.1) (λ_=>some (.dn ((0,((6,(b.2.2,b.2.2)),()))))) λ_=>bd (TY (G.2,e.2.2.2.2)) λO=>bd (Tw (O.1,e.2)) λP=>br (Hf P) (λ_=>some (.dn ((0,((6,(b.2.2,b.2.2)),()))))) λ_=>some (.nx ((b.1,(b.2.1,Rl .i64 b.2.2 1))))) λ_=>bd (TT ((s.1,(e.1,e.2.2.1.2.2)))) λI=>bd (Tf I.2) λS=>br (SW e.2.2.2.2 0) (λ_=>some (.dn ((0,((6,(b.2.2,b.2.2)),()))))) λ_=>br (SU e.2.2.2.2 S.1) (λ_=>some (.dn ((0,((6,(b.2.2,b.2.2)),()))))) λ_=>bd (TY (I.2,e.2.2.2.2)) λU=>bd (Tw (U.1,e.2)) λW=>br (Hf W) (λ_=>some (.dn ((0,((6,(b.2.2,b.2.2)),()))))) λ_=>some (.nx ((b.1,(b.2.1,Rl .i64 b.2.2 1))))) λ_=>some (.dn ((1,(b,())))))
  (s:=(0,(0,0))) () rfl (by omega) Z.symm (λ_ h=>by
   refine ⟨_,by simp only;rw [re];rfl,.inl ⟨by rw [<- h];rfl,rfl⟩⟩) (λi j js _ hd hx hi h=>by
   simp only;rw [rl hi,R5,S9,Sb hx,So];unfold WW at h
   have c:YK s.1 a i j=true -> ∃ r:Nat×((Int×(Int×Int))×Unit),(some (LR.dn ((0,((6,((i:Int),(i:Int))),()))):LR (Int×(Int×Int)) _))=some (.dn r)/\((T=none/\r.1=1)\/(∃ i:Nat,T=some i/\r.1=0/\r.2.1.1=6/\r.2.1.2.1=(i:Int))):=λJ=>by
    rw [if_pos J] at h;exact ⟨_,rfl,.inr ⟨i,h.symm,rfl,rfl,rfl⟩⟩
   have x:YK s.1 a i j=false -> ∃ st':Unit,(some (LR.nx ((0:Int),((0:Int),Rl .i64 (i:Int) 1))):Option (LR _ (Nat×((Int×(Int×Int))×Unit))))=some (.nx ((0:Int),((0:Int),((i+1:Nat):Int))))/\WW s.1 a (i+1) js=T:=λhg=>by
    rw [if_neg (by simp [hg])] at h;exact ⟨(),by rw [TL hx (by omega)],h⟩
   by_cases y:(i:Int)>=(a.length:Int)
   ·rw [if_pos y];exact .inr (c (by unfold YK;rw [List.getElem?_eq_none (by omega)]))
   rw [if_neg y,S9];have w:a[i]? = some (a[i]'(by omega)):=by simp
   rw [Sb w,Ss];obtain ⟨n,K,E,F,t⟩:=XJ (ls:=s.1.2) (i:=0) (k:=i) (d:=a[i]'(by omega)) (by rw [<- g];exact w);rw [Nat.zero_add] at K
   have q:YK s.1 a i j=(if j.1≠(a[i]'(by omega)) then true else if j.2.2.1.2.2=true/\j.1≠(s.1.2.length:Int)-1 then true else if j.2.2.2.2<0\/j.2.2.2.2>((F.2.length+E.2.length:Nat):Int) then true else decide (U7 F.2 E.2 j.2.2.1.2.2 j.2.2.2.2.toNat≠j.2)):=by
    unfold YK;rw [w];simp only;rw [K,Int.toNat_natCast,t]
   by_cases p:j.1=(a[i]'(by omega));rotate_left
   ·rw [if_neg p];exact .inr (c (by rw [q,if_pos p]))
   rw [if_pos p];rw [if_neg (by simp [p])] at q;have C:j.1=(n:Int):=by rw [p,K]
   have hv:=(v.lev n _ t).2;have v0:=(hv E (by simp)).vl;have v1:=(hv F (by simp)).vl;have L:=(List.getElem?_eq_some_iff.1 t).1;rw [C,Zi v L,SL,Uq,Uv,mA t v0 v1,Sx];rw [C] at q;by_cases m:j.2.2.1.2.2=true/\(n:Int)≠(s.1.2.length:Int)-1
   ·rw [if_pos m.1,if_pos m.2];exact .inr (c (by rw [q,if_pos m]))
   rw [if_neg m] at q
   have h4 : ∀ {γ:Type} (A B:γ),(if j.2.2.1.2.2=true then if ¬(n:Int)=(s.1.2.length:Int)-1 then A else B else B)=B:=by
    intro γ A B;by_cases u:j.2.2.1.2.2=true
    ·rw [if_pos u,if_neg (λz=>m ⟨u,z⟩)]
    ·rw [if_neg u]
   rw [h4];by_cases u:j.2.2.2.2<0\/j.2.2.2.2>((F.2.length+E.2.length:Nat):Int)
   ·rw [if_pos u];exact .inr (c (by rw [q,if_pos u]))
   rw [if_neg u];rw [if_neg u] at q;by_cases z:U7 F.2 E.2 j.2.2.1.2.2 j.2.2.2.2.toNat=j.2
   ·rw [if_pos z];exact .inl (x (by rw [q];simp [z]))
   ·rw [if_neg z]
    exact .inr (c (by rw [q];simp [z])))
 refine Td q1 ?_;rw [SM];rcases D with ⟨D,q3⟩ | ⟨i,D,q3,q4,q5⟩
 ·rw [if_neg (show ¬ r.1=0 by omega),D,Sr];simp only;by_cases Y:s.2.1.length<a.length
  ·rw [if_pos (by omega),if_pos Y]
  ·rw [if_neg (by omega),if_neg Y]
 ·rw [if_pos q3,D,q4,q5]
end
section
open Go Go.Proofs.YtfilfloanndddaaGreat.Sv
def JobAt (L:TB) (n:Nat) (j:Job):Prop := ∃ a b c k,L.2[n]? = some [a,b]/\j=((n:Int),U7 b.2 a.2 c k)/\k<=b.2.length+a.2.length/\(c=true->n+1=L.2.length)/\VL a.2/\VL b.2
structure VSt (s:TA):Prop where
 lev:VLev s.1
 n1:1<=s.2.2
 n2:s.2.2<=1000001
 n3:WF s.1.2<s.2.2
 due:s.2.1.map (·.1)=TI 0 s.1.2
 job : ∀ j∈s.2.1,∃ n,JobAt s.1 n j
theorem ZO (a b:List S8) (c:Bool) (k:Nat):(U7 a b c k).2.1.2.2=c:=by
 show (Ua (s0 c) (TU a b k)).2.2=c;rw [Wv]
theorem ZV {L:TB} (v:VLev L) {i:Nat} {j:Job}:YK L (TI 0 L.2) i j=false <-> ∃ n,(TI 0 L.2)[i]? = some j.1/\JobAt L n j:=by
 constructor
 ·intro h;unfold YK at h;cases c:(TI 0 L.2)[i]? with
  | none=>rw [c] at h;cases h
  | some d =>
   rw [c] at h;simp only at h;by_cases f:j.1=d;rotate_left
   ·rw [if_pos f] at h;cases h
   rw [if_neg (by simp [f])] at h;by_cases g:j.2.2.1.2.2=true/\j.1≠(L.2.length:Int)-1
   ·rw [if_pos g] at h;cases h
   rw [if_neg g] at h;obtain ⟨n,m,a,b,e⟩:=XJ c;rw [Nat.zero_add] at m;rw [m,Int.toNat_natCast,e] at h;simp only at h;by_cases p:j.2.2.2.2<0\/j.2.2.2.2>((b.2.length+a.2.length:Nat):Int)
   ·rw [if_pos p] at h;cases h
   rw [if_neg p] at h;have s:U7 b.2 a.2 j.2.2.1.2.2 j.2.2.2.2.toNat=j.2:=by simpa using h
   have r:=(v.lev n _ e).2;refine ⟨n,by rw [f],a,b,j.2.2.1.2.2,j.2.2.2.2.toNat,e,Prod.ext (by rw [f,m]) s.symm,by omega,λl => ?_,(r a (by simp)).vl,(r b (by simp)).vl⟩
   have t:j.1=(L.2.length:Int)-1:=by
    by_cases q:j.1=(L.2.length:Int)-1
    ·exact q
    ·exact absurd ⟨l,q⟩ g
   omega
 ·rintro ⟨n,c,a,b,o,k,e,rfl,u,l,w,x⟩;unfold YK;rw [c];simp only;rw [if_neg (by simp),ZO,if_neg (λh:o=true/\(n:Int)≠(L.2.length:Int)-1=>h.2 (by have:=l h.1;omega)),Int.toNat_natCast,e];simp only;rw [show (U7 b.2 a.2 o k).2.2.2=(k:Int) from rfl,if_neg (by omega),Int.toNat_natCast];simp
theorem X5 {L:TB} {a:List Int} : ∀ {js:List Job} {i:Nat},WW L a i js=none <-> ∀ k j,js[k]? = some j->YK L a (i+k) j=false
 | [],i=>by simp [WW]
 | j::js,i=>by
  unfold WW;by_cases h:YK L a i j=true
  ·rw [if_pos h];simp only [reduceCtorEq,false_iff];intro b;have:=b 0 j rfl;rw [Nat.add_zero,h] at this;cases this
  ·rw [if_neg h,X5 (js:=js)];constructor
   ·intro b k j' c;cases k with
    | zero=>cases c;simpa using h
    | succ k=>rw [show i+(k+1)=i+1+k by omega];exact b k j' c
   ·intro b k j' c;rw [show i+1+k=i+(k+1) by omega];exact b (k+1) j' c
theorem TS {s:TA}:(TE s).2=0<->VSt s:=by
 unfold TE;constructor
 ·intro h;by_cases d:(Vs s.1).2.2≠0
  ·rw [if_pos d] at h;exact absurd h d
  rw [if_neg d] at h;have v:=XV.1 (Decidable.not_not.1 d);by_cases f:s.2.2<1\/s.2.2>1000001
  ·rw [if_pos f] at h;cases h
  rw [if_neg f] at h;by_cases g:s.2.2<=WF s.1.2
  ·rw [if_pos g] at h;cases h
  rw [if_neg g] at h;cases b:WW s.1 (TI 0 s.1.2) 0 s.2.1 with
  | some i=>rw [b] at h;cases h
  | none =>
   rw [b] at h;simp only at h;by_cases l:s.2.1.length<(TI 0 s.1.2).length
   ·rw [if_pos l] at h;cases h
   have m:=X5.1 b
   have c : ∀ k j,s.2.1[k]? = some j -> ∃ n,(TI 0 s.1.2)[k]? = some j.1/\JobAt s.1 n j:=λk j a=>by
    have:=m k j a;rw [Nat.zero_add] at this;exact (ZV v).1 this
   refine ⟨v,by omega,by omega,by omega,?_,λj o => ?_⟩
   ·apply List.ext_getElem?;intro k;rw [List.getElem?_map];cases a:s.2.1[k]? with
    | some j=>obtain ⟨n,e,_⟩:=c k j a;rw [e];rfl
    | none =>
     have:=List.getElem?_eq_none_iff.1 a;rw [List.getElem?_eq_none (by omega)];rfl
   ·obtain ⟨k,a⟩:=List.getElem?_of_mem o;obtain ⟨n,_,h⟩:=c k j a;exact ⟨n,h⟩
 ·intro v;rw [if_neg (by simp [XV.2 v.lev]),if_neg (by have:=v.n1;have:=v.n2;omega),if_neg (by have:=v.n3;omega)]
  have b:WW s.1 (TI 0 s.1.2) 0 s.2.1=none:=X5.2 λk j a=>by
   rw [Nat.zero_add];obtain ⟨n,p⟩:=v.job j (List.mem_of_getElem? a);exact (ZV v.lev).2 ⟨n,by rw [<- v.due,List.getElem?_map,a];rfl,p⟩
  rw [b];simp only;rw [if_neg (by rw [<- v.due];simp)]
structure Sm (s:TA):Prop where
 lv:s.1.2.length<=1048576
 rs : ∀ rs∈s.1.2,rs.length<=1048576 /\ ∀ r∈rs,r.2.length<=9223372036854775807
 js:s.2.1.length<=1048576
theorem oO {s:TA} (m:Sm s):UT s=some (TE s):=bh s m.lv m.rs m.js
theorem mg {s:TA} (m:Sm s):U0 s=some (TE s):=bN s m.lv m.rs m.js
theorem VSt.jlen {s:TA} (v:VSt s):s.2.1.length=(TI 0 s.1.2).length:=by rw [<- v.due];simp
theorem VSt.jsmall {s:TA} (v:VSt s):s.2.1.length<=12:=by
 have:=v.jlen;have:=VU s.1.2 0;have:=v.lev.len;omega
theorem VSt.sm {s:TA} (v:VSt s):Sm s:=⟨v.lev.small.1,v.lev.small.2,by have:=v.jsmall;omega⟩
def Ye (x:Int):Nat->List Int->Option Nat
 | _,[]=>none
 | k,y::l=>if y=x then some k else Ye x (k+1) l
theorem aK {x:Int} : ∀ {l:List Int} {k i:Nat},Ye x k l=some i->k<=i/\l[i-k]? = some x
 | [],_,_,h=>by cases h
 | y::l,k,i,h=>by
  unfold Ye at h;by_cases e:y=x
  ·rw [if_pos e] at h;cases h;simp [e]
  ·rw [if_neg e] at h;obtain ⟨b,a⟩:=aK h;exact ⟨by omega,by rw [show i-k=(i-(k+1))+1 by omega];simpa using a⟩
theorem aL {x:Int} : ∀ {l:List Int} {k:Nat},x∈l -> ∃ i,Ye x k l=some i
 | [],_,h=>by cases h
 | y::l,k,h=>by
  unfold Ye;by_cases e:y=x
  ·rw [if_pos e];exact ⟨k,rfl⟩
  ·rw [if_neg e];exact aL (by rcases List.mem_cons.1 h with h | h;exact absurd h.symm e;exact h)
def WH (s:TA) (a:Int):Int×Int:=if (TE s).2≠0 then (0,(TE s).2) else match Ye a 0 (TI 0 s.1.2) with
 | some i=>((i:Int),0)
 | none=>(0,4)
theorem aJ {s:TA} (m:Sm s) (a:Int):VC (s,a)=some (WH s a):=by
 unfold VC WH;simp only [TH,TF];rw [oO m,SL,Ss];by_cases b:(TE s).2=0;rotate_left
 ·rw [if_neg b,if_pos b]
 rw [if_pos b,if_neg (show ¬ (TE s).2≠0 by simp [b])];have v:=TS.1 b;have x:=v.jsmall;rw [<- v.due];obtain ⟨T,g⟩ : ∃ T,T=Ye a 0 (s.2.1.map (·.1)):=⟨_,rfl⟩;rw [<- g]
 obtain ⟨r,q,c⟩:=WX (l:=s.2.1) (σ:=Unit) (s:=((0:Int),(0:Int))) (λk _=>((0:Int),(k:Int))) (λjs k _=>Ye a k (js.map (·.1))=T) (λ(r:Nat×((Int×Int)×Unit))=>(r.1=1/\T=none)\/(r.1=0 /\ ∃ i:Nat,T=some i/\r.2.1.1=(i:Int)))
  (f:=λs1=>br (SW s1.2 (s.2.1.length:Int)) (λ_=>RX s1.2 λp=>ix s.2.1 p λu=>br (RR u.1 a) (λ_=>some (.dn ((0,((s1.2,s1.2),()))))) λ_=>some (.nx (s1.1,Rl .i64 s1.2 1))) λ_=>some (.dn ((1,(s1,())))))
  () rfl (by omega) g.symm (λ_ h=>⟨_,by simp only;rw [re];rfl,.inl ⟨rfl,by rw [<- h];rfl⟩⟩) (λk j js _ w n o h=>by
   simp only;rw [rl o,R5,S9,Sb n,Sn];unfold Ye at h;simp only [List.map_cons] at h;by_cases e:j.1=a
   ·rw [if_pos e];rw [if_pos e] at h;exact .inr ⟨_,rfl,.inr ⟨rfl,k,h.symm,rfl⟩⟩
   ·rw [if_neg e];rw [if_neg e] at h
    exact .inl ⟨(),by rw [TL n (by omega)],h⟩)
 refine Td q ?_;rw [SM];rcases c with ⟨c,d⟩ | ⟨c,i,d,t⟩
 ·rw [if_neg (show ¬ r.1=0 by omega),d];rfl
 ·rw [if_pos c,d,t,Sr,if_neg (by omega)]
theorem bO {s:TA} (m:Sm s):U9 s=some (if (TE s).2≠0 then ([],(TE s).2) else (TI 0 s.1.2,0)):=by
 unfold U9;rw [mg m,SL,Ss];by_cases a:(TE s).2=0
 ·rw [if_pos a,if_neg (show ¬ (TE s).2≠0 by simp [a]),ZL (by have:=(TS.1 a).lev.len;omega),SL]
 ·rw [if_neg a,if_pos a]
theorem Xk {s:TA} (m:Sm s) (a:Int):To (s,a)=some (WH s a):=by
 unfold To WH;simp only [TH,TF];rw [bO m,SL,Ss];by_cases c:(TE s).2=0;rotate_left
 ·rw [if_pos c,if_neg c,if_pos c]
 rw [if_neg (show ¬ (TE s).2≠0 by simp [c]),if_pos rfl,if_neg (show ¬ (TE s).2≠0 by simp [c])];have v:=TS.1 c;have A:=v.jsmall;have p:=v.jlen;obtain ⟨b,d⟩ : ∃ b,b=TI 0 s.1.2:=⟨_,rfl⟩;rw [<- d] at p ⊢;obtain ⟨T,o⟩ : ∃ T,T=Ye a 0 b:=⟨_,rfl⟩;rw [<- o];simp only
 obtain ⟨r,w,g⟩:=WX (l:=b) (σ:=Unit) (s:=((0:Int),((0:Int),(0:Int)))) (λk _=>((0:Int),((0:Int),(k:Int)))) (λjs k _=>Ye a k js=T) (λ(r:Nat×((Int×(Int×Int))×Unit))=>(r.1=1/\T=none)\/(r.1=0 /\ ∃ i:Nat,T=some i/\r.2.1.2.1=(i:Int)/\r.2.1.1=0))
  (f:=λs1=>br (SW s1.2.2 (b.length:Int)) (λ_=>RX s1.2.2 λu=>ix b u λz=>br (RR z a) (λ_=>some (.dn ((0,((0,(s1.2.2,s1.2.2)),()))))) λ_=>some (.nx ((s1.1,(s1.2.1,Rl .i64 s1.2.2 1))))) λ_=>some (.dn ((1,(s1,())))))
  () rfl (by omega) o.symm (λ_ h=>⟨_,by simp only;rw [re];rfl,.inl ⟨rfl,by rw [<- h];rfl⟩⟩) (λk j js _ p q t h=>by
   simp only;rw [rl t,R5,S9,Sb q,Sn];unfold Ye at h;by_cases e:j=a
   ·rw [if_pos e];rw [if_pos e] at h;exact .inr ⟨_,rfl,.inr ⟨rfl,k,h.symm,rfl,rfl⟩⟩
   ·rw [if_neg e];rw [if_neg e] at h
    exact .inl ⟨(),by rw [TL q (by omega)],h⟩)
 refine Td w ?_;rw [SM];rcases g with ⟨g,n⟩ | ⟨g,i,n,x,y⟩
 ·rw [if_neg (show ¬ r.1=0 by omega),n]
 ·rw [if_pos g,n,x,y]
end
section
open Go Go.Proofs.YtfilfloanndddaaGreat.Sv
def TZ (L:TB) (j:Job):Nat:=match L.2[j.1.toNat]? with
 | some [r0,r1]=>r1.2.length+r0.2.length-j.2.2.2.2.toNat
 | _=>0
def Vg (L:TB) (j:Job):Bool:=decide ((j.2.2.2.1.length:Int)<=UV L.1 j.1.toNat)
def YQ (L:TB) (n:Nat):Bool:=decide (n<12/\((L.2[n]?).getD []).length<2)
def Vq (L:TB) (j:Job):Bool:=decide (0<TZ L j)||(Vg L j||YQ L (j.1.toNat+1))
def Zr (s:TA) (a:Int):Option Job:=match Ye a 0 (TI 0 s.1.2) with
 | some i=>s.2.1[i]?
 | none=>none
theorem VSt.at {s:TA} (v:VSt s) {a:Int} {i:Nat} (h:Ye a 0 (TI 0 s.1.2)=some i) : ∃ (j:Job) (n:Nat),s.2.1[i]? = some j/\a=(n:Int)/\j.1=(n:Int)/\JobAt s.1 n j/\n<s.1.2.length:=by
 obtain ⟨_,b⟩:=aK h;rw [Nat.sub_zero] at b;rw [<- v.due,List.getElem?_map] at b;cases c:s.2.1[i]? with
 | none=>rw [c] at b;cases b
 | some j =>
  rw [c] at b;simp only [Option.map_some,Option.some.injEq] at b;obtain ⟨n,g⟩:=v.job j (List.mem_of_getElem? c);have d:=g;obtain ⟨o,p,m,k,l,e,_⟩:=g;have f:j.1=(n:Int):=by rw [e]
  exact ⟨j,n,rfl,by rw [<- b,f],f,d,(List.getElem?_eq_some_iff.1 l).1⟩
theorem JobAt.left {L:TB} {n:Nat} {j:Job} (h:JobAt L n j):UA j.2=some ((TZ L j:Int),0)/\Tf j.2=some ((TZ L j:Int),0)/\TZ L j<=10000:=by
 obtain ⟨b,c,a,k,i,rfl,g,_,d,f⟩:=h;have l:=d.len;have m:=f.len
 have e:TZ L ((n:Int),U7 c.2 b.2 a k)=c.2.length+b.2.length-k:=by
  unfold TZ;simp only [Int.toNat_natCast,i];show c.2.length+b.2.length-((k:Int)).toNat=_;rw [Int.toNat_natCast]
 rw [e];exact ⟨ZC f d a g,Ya f d a g,by omega⟩
theorem eG {L:TB} (v:VLev L) {n:Nat} (c:n<12):WO (L.1,(n:Int))=some (UV L.1 n,0):=by
 have a:=v.B1;have b:=v.B2;unfold WO;rw [Sr,if_neg (by omega),Sp,if_neg (by omega),Sr,if_neg (by omega),So,if_neg (by omega),Y5 a b (by omega)];have:RS (n:Int) 0=true:=by unfold RS;simp
 rw [this];rfl
theorem gR {L:TB} (v:VLev L) {n:Nat} (c:n<12):Wp (L.1,(n:Int))=some (UV L.1 n,0):=by
 have a:=v.B1;have b:=v.B2;unfold Wp;rw [Sr,if_neg (by omega),Sp,if_neg (by omega),Sr,if_neg (by omega),So,if_neg (by omega),bS a b (by omega),SL]
theorem aT {L:TB} (v:VLev L) (k:Int):Vy (L,k)=some (if k<0\/k>=12 then 7 else 0):=by
 obtain ⟨c,d⟩:=v.small;unfold Vy;rw [YW _ c d,Ww v,SL,Ss,if_pos rfl,Sr,So];by_cases a:k<0
 ·rw [if_pos a,if_pos (.inl a)]
 ·rw [if_neg a];by_cases b:k>=12
  ·rw [if_pos b,if_pos (.inr b)]
  ·rw [if_neg b,if_neg (by omega)]
theorem gE (l:List Tc):SW (l.length:Int) 2=decide (l.length<2):=by
 unfold SW;rw [decide_eq_decide];omega
theorem eF {L:TB} (v:VLev L) {n:Nat} (d:n<=12):WN (L,(n:Int))=some (YQ L n,if n>=12 then 7 else 0):=by
 unfold WN YQ;simp only [TH,TF];rw [aT v,SL,Ss];by_cases h:n>=12
 ·rw [if_pos (show (n:Int)<0\/(n:Int)>=12 by omega),if_neg (by decide),if_pos h];simp;omega
 ·rw [if_neg (show ¬ ((n:Int)<0\/(n:Int)>=12) by omega),if_pos rfl,if_neg h,Sr];have a:n<12:=by omega
  by_cases c:n<L.2.length
  ·have b:L.2[n]? = some (L.2[n]'c):=by simp
   rw [if_pos (by omega),S9,Sb b,b,gE,Option.getD_some];simp [a]
  ·rw [if_neg (by omega),List.getElem?_eq_none (by omega)];simp [a]
theorem gY {s:TA} (v:VLev s.1) {n:Nat} (c:n<12):Wq (s,(n:Int))=some (YQ s.1 (n+1)):=by
 unfold Wq YQ;simp only [TH,TF];rw [TJ (by omega),Sr];by_cases h:n+1<12
 ·rw [if_pos (by omega),So];by_cases b:n+1<s.1.2.length
  ·have a:s.1.2[n+1]? = some (s.1.2[n+1]'b):=by simp
   rw [if_neg (by omega),S9,Sb a,a,gE,Option.getD_some];simp [h]
  ·rw [if_pos (by omega),List.getElem?_eq_none (by omega)];simp [h]
 ·rw [if_neg (by omega)];simp;omega
abbrev oR:=TA×(Job×Int)
theorem Zo {s:TA} (v:VLev s.1) {n:Nat} {j:Job} (a:j.1=(n:Int)) (b:n<12) (l:Int):Th (s,(j,l))=some (Vg s.1 j):=by
 unfold Th Vg;simp only [TH,TF];rw [a,eG v b,SL,Sn,if_pos rfl,Int.toNat_natCast];rfl
theorem Z9 {s:TA} (v:VLev s.1) {n:Nat} {j:Job} (a:j.1=(n:Int)) (b:n<12):VP (s,j)=some (Vg s.1 j):=by
 unfold VP Vg;simp only [TH,TF];rw [a,gR v b,SL,Int.toNat_natCast];rfl
theorem gV {s:TA} (v:VLev s.1) {n:Nat} {j:Job} (a:j.1=(n:Int)) (b:n<12) (l:Int):Ul (s,(j,l))=some (YQ s.1 (n+1)):=by
 unfold Ul;simp only;rw [a,TJ (by omega),eF v (by omega),SL,Sn];by_cases h:n+1>=12
 ·rw [if_pos h,if_neg (show ¬ (7:Int)=0 by decide)];unfold YQ;simp;omega
 ·rw [if_neg h,if_pos rfl]
theorem aF {s:TA} (v:VLev s.1) {n:Nat} {j:Job} (a:j.1=(n:Int)) (b:n<12) (l:Nat) (d:l=TZ s.1 j):Tv (s,(j,(l:Int)))=some (Vq s.1 j):=by
 have c:TX (s,(j,(l:Int)))=some (decide (0<TZ s.1 j)):=by
  unfold TX SU;rw [d];simp
 have e1:=Zo v a b (l:Int);have e2:=gV v a b (l:Int);unfold Tv Vq;rw [c,e1,e2,a,Int.toNat_natCast];simp only [SL];cases e:decide (0<TZ s.1 j) with
 | true=>exact Td (x:=(0,((0,true),()))) (Ui (n:=1) (by omega) (Tk rfl)) rfl
 | false =>
  cases f:Vg s.1 j with
  | true=>exact Td (x:=(0,((1,true),()))) (Ui (n:=2) (by omega) ((Te (s':=(1,false)) rfl).trans (Tk rfl))) rfl
  | false =>
   cases g:YQ s.1 (n+1) with
   | true=>exact Td (x:=(0,((2,true),()))) (Ui (n:=3) (by omega) ((Te (s':=(1,false)) rfl).trans ((Te (s':=(2,false)) rfl).trans (Tk rfl)))) rfl
   | false=>exact Td (x:=(1,((3,false),()))) (Ui (n:=4) (by omega) ((Te (s':=(1,false)) rfl).trans ((Te (s':=(2,false)) rfl).trans ((Te (s':=(3,false)) rfl).trans (Tk rfl))))) rfl
end
section
open Go Go.Proofs.YtfilfloanndddaaGreat.Sv
def Wc {α:Type} (z:α) (f:TA->Job->α×Int) (s:TA) (a:Int):α×Int:=if (TE s).2≠0 then (z,(TE s).2) else match Zr s a with
 | some j=>f s j
 | none=>(z,4)
def z0:oR:=(((0,[]),([],0)),((0,(([],([],([],([],0)))),((false,([],false)),([],0)))),0))
theorem ae {s:TA} (m:Sm s) (a:Int):Uc (s,a)=some (Wc z0 (λs j=>((s,(j,(TZ s.1 j:Int))),0)) s a):=by
 unfold Uc;rw [aJ m,SL];unfold Wc Zr WH;by_cases b:(TE s).2=0;rotate_left
 ·rw [if_pos b,Ss,if_neg b,if_pos b];rfl
 rw [if_neg (show ¬ (TE s).2≠0 by simp [b]),if_neg (show ¬ (TE s).2≠0 by simp [b])];have v:=TS.1 b;cases e:Ye a 0 (TI 0 s.1.2) with
 | none=>rfl
 | some i =>
  obtain ⟨j,n,c,g,f,d,h⟩:=v.at e;simp only;rw [Ss,if_pos rfl,S9,Sb c,c,(JobAt.left d).1,SL]
theorem mX {s:TA} (m:Sm s) (a:Int):W5 (s,a)=some (Wc false (λs j=>(Vq s.1 j,0)) s a):=by
 unfold W5;rw [ae m,SL];unfold Wc;by_cases b:(TE s).2=0;rotate_left
 ·rw [if_pos b,Ss,if_neg b,if_pos b]
 rw [if_neg (show ¬ (TE s).2≠0 by simp [b]),if_neg (show ¬ (TE s).2≠0 by simp [b])];have v:=TS.1 b;unfold Zr;cases d:Ye a 0 (TI 0 s.1.2) with
 | none=>rfl
 | some i =>
  obtain ⟨j,n,e,g,c,f,h⟩:=v.at d;have:=v.lev.len;simp only [e];rw [Ss,if_pos rfl,aF v.lev c (by omega) _ rfl,SL]
theorem YJ {s:TA} (m:Sm s) (a:Int):Uh (s,a)=some (Wc 0 (λs j=>((TZ s.1 j:Int),0)) s a):=by
 unfold Uh;rw [Xk m,SL];unfold Wc Zr WH;by_cases b:(TE s).2=0;rotate_left
 ·rw [if_pos b,Ss,if_neg b,if_pos b]
 rw [if_neg (show ¬ (TE s).2≠0 by simp [b]),if_neg (show ¬ (TE s).2≠0 by simp [b])];have v:=TS.1 b;cases e:Ye a 0 (TI 0 s.1.2) with
 | none=>rfl
 | some i =>
  obtain ⟨j,n,c,g,f,d,h⟩:=v.at e;simp only [c];rw [Ss,if_pos rfl,S9,Sb c,(JobAt.left d).2.1,SL]
theorem aV {s:TA} (m:Sm s) (a:Int):VZ (s,a)=some (Wc false (λs j=>(Vq s.1 j,0)) s a):=by
 unfold VZ;rw [YJ m,SL,Xk m,SL];unfold Wc;by_cases b:(TE s).2=0;rotate_left
 ·rw [if_pos b,Ss,if_neg b,if_pos b]
 rw [if_neg (show ¬ (TE s).2≠0 by simp [b]),if_neg (show ¬ (TE s).2≠0 by simp [b])];have v:=TS.1 b;unfold Zr WH;cases f:Ye a 0 (TI 0 s.1.2) with
 | none=>rfl
 | some i =>
  obtain ⟨j,n,e,g,c,h,k⟩:=v.at f;have:=v.lev.len;rw [if_neg (show ¬ (TE s).2≠0 by simp [b])];simp only [e];rw [Ss,if_pos rfl,Sp,S9,Sb e,Z9 v.lev c (by omega),SL,g,gY v.lev (by omega),SL];unfold Vq;rw [c,Int.toNat_natCast];by_cases d:0<TZ s.1 j
  ·rw [if_pos (by omega)];simp [d]
  ·rw [if_neg (by omega)];cases Vg s.1 j<;>simp [d,R5,Rd]
def Yu (s:TA) (j:Job):Int×Int:=if 0<TZ s.1 j then (0,9) else if Vg s.1 j=true then (j.1,0) else (j.1+1,0)
theorem m8 {s:TA} (m:Sm s) (a:Int):Xc (s,a)=some (Wc 0 Yu s a):=by
 unfold Xc;rw [ae m,SL];unfold Wc;by_cases b:(TE s).2=0;rotate_left
 ·rw [if_pos b,Ss,if_neg b,if_pos b]
 rw [if_neg (show ¬ (TE s).2≠0 by simp [b]),if_neg (show ¬ (TE s).2≠0 by simp [b])];have v:=TS.1 b;unfold Zr;cases f:Ye a 0 (TI 0 s.1.2) with
 | none=>rfl
 | some i =>
  obtain ⟨j,n,g,h,c,k,l⟩:=v.at f;have:=v.lev.len;simp only [g];unfold TX Yu;rw [Ss,if_pos rfl,SL,Sp,Zo v.lev c (by omega),SL,h,TJ (by omega),c];by_cases e:0<TZ s.1 j
  ·rw [if_pos (show ((TZ s.1 j:Int))>0 by omega),if_pos e]
  ·rw [if_neg (show ¬ ((TZ s.1 j:Int))>0 by omega),if_neg e,Sx];by_cases d:Vg s.1 j=true
   ·rw [if_pos d,if_pos d]
   ·rw [if_neg d,if_neg d];rfl
theorem bw {s:TA} (m:Sm s) (a:Int):V3 (s,a)=some (Wc 0 Yu s a):=by
 unfold V3;rw [YJ m,SL,Xk m];unfold Wc;by_cases b:(TE s).2=0;rotate_left
 ·rw [if_pos b,Sn,if_neg b,Ss,if_neg b,if_pos b]
 rw [if_neg (show ¬ (TE s).2≠0 by simp [b]),if_neg (show ¬ (TE s).2≠0 by simp [b])];have v:=TS.1 b;unfold Zr WH;cases g:Ye a 0 (TI 0 s.1.2) with
 | none=>rfl
 | some i =>
  obtain ⟨j,n,f,h,c,k,l⟩:=v.at g;have:=v.lev.len;rw [if_neg (show ¬ (TE s).2≠0 by simp [b])];simp only [f];unfold Yu;rw [Sn,if_pos rfl,Sp];by_cases e:0<TZ s.1 j
  ·rw [if_pos (show ((TZ s.1 j:Int))>0 by omega),if_pos e]
  ·rw [if_neg (show ¬ ((TZ s.1 j:Int))>0 by omega),if_neg e,Ss,if_pos rfl,SL,S9,Sb f,Z9 v.lev c (by omega),SL,Sx,h,TJ (by omega),c];by_cases d:Vg s.1 j=true
   ·rw [if_pos d,if_pos d]
   ·rw [if_neg d,if_neg d];rfl
theorem l9 {s:TA} (m:Sm s):Vx s=some (if (TE s).2≠0 then ([],(TE s).2) else (TI 0 s.1.2,0)):=by
 unfold Vx;simp only [TH,TF];rw [oO m,SL,Ss];by_cases a:(TE s).2=0;rotate_left
 ·rw [if_neg a,if_pos a]
 rw [if_pos a,if_neg (show ¬ (TE s).2≠0 by simp [a])];have f:=(TS.1 a).lev.len
 rw [U6 (l:=s.1.2) (σ:=List Int) (s:=((0:Int),([]:List Int))) (λi m=>((i:Int),m)) (λls i m=>m++TI i ls=TI 0 s.1.2) (λ_ _ _=>(0,(((s.1.2.length:Int),TI 0 s.1.2),()))) [] rfl (by omega) rfl (λm h=>by
  simp only;rw [re,Rd,<- h];simp [TI]) (λi rs ls m e c hi h=>by
   refine ⟨m++(if rs.length=2 then [(i:Int)] else []),?_,?_,rfl⟩
   ·simp only;rw [rl hi,R5,S9,Sb c,Sn]
    have g:m.length<=1000:=by
     have b:=congrArg List.length h;have d:=VU s.1.2 0;rw [List.length_append] at b;omega
    by_cases b:rs.length=2
    ·rw [if_pos (by omega),if_pos b,UC (by simp only [BD,List.length_cons,List.length_nil];omega),TL c (by omega)];rfl
    ·rw [if_neg (by omega),if_neg b,List.append_nil,TL c (by omega)]
   ·rw [List.append_assoc];exact h),SL]
def Vw (s:TA):List Int->Option Int
 | []=>none
 | d::l=>if (Wc false (λs j=>(Vq s.1 j,0)) s d).1=true then some d else Vw s l
def UH (s:TA):Int×Int:=if (TE s).2≠0 then (0,(TE s).2) else if TI 0 s.1.2=[] then (0,4) else match Vw s (TI 0 s.1.2) with
 | some d=>(d,0)
 | none=>(0,9)
theorem VSt.atDue {s:TA} (v:VSt s) {d:Int} (h:d∈TI 0 s.1.2) : ∃ (j:Job) (n:Nat),Zr s d=some j/\d=(n:Int)/\j.1=(n:Int)/\JobAt s.1 n j/\n<s.1.2.length:=by
 obtain ⟨i,b⟩:=aL (k:=0) h;obtain ⟨j,n,e,f,a,c,g⟩:=v.at b;exact ⟨j,n,by unfold Zr;rw [b];exact e,f,a,c,g⟩
theorem lg {s:TA} (m:Sm s):UE s=some (UH s):=by
 unfold UE UH;rw [l9 m,SL];by_cases a:(TE s).2=0;rotate_left
 ·rw [if_pos a,Ss,if_neg a,if_pos a]
 rw [if_neg (show ¬ (TE s).2≠0 by simp [a]),if_neg (show ¬ (TE s).2≠0 by simp [a]),Ss,if_pos rfl];have v:=TS.1 a;have z:(TI 0 s.1.2).length<=12:=by have:=VU s.1.2 0;have:=v.lev.len;omega
 simp only [TH,TF];rw [Sn];by_cases b:TI 0 s.1.2=[]
 ·rw [if_pos (by rw [b];rfl),if_pos b]
 rw [if_neg (by have:=List.length_pos_iff.2 b;omega),if_neg b];obtain ⟨T,q⟩ : ∃ T,T=Vw s (TI 0 s.1.2):=⟨_,rfl⟩;rw [<- q]
 obtain ⟨r,C,u⟩:=WX (l:=TI 0 s.1.2) (σ:=Unit) (s:=((0:Int),(false,((0:Int),(0:Int))))) (λk _=>((0:Int),(false,((k:Int),(0:Int))))) (λl k _=>Vw s l=T) (λ(r:Nat×((Int×(Bool×(Int×Int)))×Unit))=>r.1=1/\((T=none/\r.2.1.2.1=false)\/(∃ d,T=some d/\r.2.1.2.1=true/\r.2.1.2.2.2=d)))
  (f:=λs1=>br (SW s1.2.2.1 ((TI 0 s.1.2).length:Int)) (λ_=>RX s1.2.2.1 λB=>ix (TI 0 s.1.2) B λw=>bd (Uc (s,w)) λp=>br (RT p.2 0) (λ_=>some (.dn ((0,((p.2,(s1.2.1,(s1.2.2.1,0))),()))))) λ_=>bd (Tv p.1) λE=>br E (λ_=>some (.dn ((1,((s1.1,(true,(s1.2.2.1,w))),()))))) λ_=>some (.nx ((s1.1,(s1.2.1,(Rl .i64 s1.2.2.1 1,s1.2.2.2)))))) λ_=>some (.dn ((1,(s1,())))))
  () rfl (by omega) q.symm (λ_ h=>⟨_,by simp only;rw [re];rfl,rfl,.inl ⟨by rw [<- h];rfl,rfl⟩⟩) (λk d l _ G i A h=>by
   simp only;obtain ⟨j,n,t,I,g,F,b⟩:=v.atDue (List.mem_of_getElem? i);have:=v.lev.len;unfold Vw at h;have x:Wc false (λs j=>(Vq s.1 j,0)) s d=(Vq s.1 j,0):=by unfold Wc;rw [if_neg (show ¬ (TE s).2≠0 by simp [a]),t]
   have y:Wc z0 (λs j=>((s,(j,(TZ s.1 j:Int))),0)) s d=((s,(j,(TZ s.1 j:Int))),0):=by unfold Wc;rw [if_neg (show ¬ (TE s).2≠0 by simp [a]),t]
   rw [x] at h;rw [rl A,R5,S9,Sb i,ae m,y,SL,Ss,if_pos rfl,aF v.lev g (by omega) _ rfl,SL,Sx];by_cases e:Vq s.1 j=true
   ·rw [if_pos e];rw [if_pos e] at h;exact .inr ⟨_,rfl,rfl,.inr ⟨d,h.symm,rfl,rfl⟩⟩
   ·rw [if_neg e];rw [if_neg e] at h
    exact .inl ⟨(),by rw [TL i (by omega)],h⟩)
 refine Td C ?_;obtain ⟨u,c⟩:=u;rw [SM,if_neg (show ¬ r.1=0 by omega),Tl,Sx];rcases c with ⟨c,o⟩ | ⟨d,c,o,D⟩
 ·rw [if_neg (by simp [o]),c]
 ·rw [if_pos o,c,D]
theorem eI {s:TA} (m:Sm s):WE s=some (UH s):=by
 unfold WE UH;rw [bO m,SL];by_cases a:(TE s).2=0;rotate_left
 ·rw [if_pos a,Ss,if_neg a,if_pos a]
 rw [if_neg (show ¬ (TE s).2≠0 by simp [a]),if_neg (show ¬ (TE s).2≠0 by simp [a]),Ss,if_pos rfl];have v:=TS.1 a;have o:(TI 0 s.1.2).length<=12:=by have:=VU s.1.2 0;have:=v.lev.len;omega
 simp only [TH,TF];rw [Sn];by_cases b:TI 0 s.1.2=[]
 ·rw [if_pos (by rw [b];rfl),if_pos b]
 rw [if_neg (by have:=List.length_pos_iff.2 b;omega),if_neg b];obtain ⟨T,n⟩ : ∃ T,T=Vw s (TI 0 s.1.2):=⟨_,rfl⟩;rw [<- n]
 obtain ⟨r,u,c⟩:=WX (l:=TI 0 s.1.2) (σ:=Unit) (s:=((0:Int),((0:Int),(0:Int)))) (λk _=>((0:Int),((0:Int),(k:Int)))) (λl k _=>Vw s l=T) (λ(r:Nat×((Int×(Int×Int))×Unit))=>(r.1=1/\T=none)\/(r.1=0 /\ ∃ d,T=some d/\r.2.1.2.1=d/\r.2.1.1=0))
  (f:=λs1=>br (SW s1.2.2 ((TI 0 s.1.2).length:Int)) (λ_=>RX s1.2.2 λq=>ix (TI 0 s.1.2) q λz=>bd (VZ (s,z)) λy=>br y.1 (λ_=>RX s1.2.2 λt=>ix (TI 0 s.1.2) t λA=>some (.dn ((0,((0,(A,s1.2.2)),()))))) λ_=>some (.nx ((s1.1,(s1.2.1,Rl .i64 s1.2.2 1))))) λ_=>some (.dn ((1,(s1,())))))
  () rfl (by omega) n.symm (λ_ h=>⟨_,by simp only;rw [re];rfl,.inl ⟨rfl,by rw [<- h];rfl⟩⟩) (λk d l _ B g p h=>by
   simp only;unfold Vw at h;rw [rl p,R5,S9,Sb g,aV m,SL,Sx,S9,Sb g];by_cases e:(Wc false (λs j=>(Vq s.1 j,0)) s d).1=true
   ·rw [if_pos e];rw [if_pos e] at h;exact .inr ⟨_,rfl,.inr ⟨rfl,d,h.symm,rfl,rfl⟩⟩
   ·rw [if_neg e];rw [if_neg e] at h
    exact .inl ⟨(),by rw [TL g (by omega)],h⟩)
 refine Td u ?_;rw [SM];rcases c with ⟨c,i⟩ | ⟨c,d,i,w,x⟩
 ·rw [if_neg (show ¬ r.1=0 by omega),i]
 ·rw [if_pos c,i,w,x]
end
section
open Go Go.Proofs.YtfilfloanndddaaGreat.Sv
theorem lq {β:Type} (k:Unit->Option β):gd true k=k ():=rfl
def TG (l:List (List Tc)) (i:Nat):List Tc:=(l[i]?).getD []
def Xn (l:List (List Tc)):Nat->Nat
 | 0=>0
 | k+1=>if TG l k=[] then Xn l k else k+1
def Xj (l:List (List Tc)) (n:Nat):List (List Tc):=l++List.replicate (n+1-l.length) []
def WZ (l:List (List Tc)) (n:Nat) (r:List Tc):List (List Tc):=(Xj l n).set n r
def XR (l:List (List Tc)):List (List Tc):=l.take (Xn l l.length)
def UQ (L:TB) (n:Nat) (r:List Tc):TB:=(L.1,XR (WZ L.2 n r))
theorem aH (l:List (List Tc)) : ∀ k,Xn l k<=k
 | 0=>Nat.le_refl _
 | k+1=>by
  unfold Xn;split
  ·exact Nat.le_succ_of_le (aH l k)
  ·exact Nat.le_refl _
theorem ZT (l:List (List Tc)) : ∀ {k i:Nat},Xn l k<=i->i<k->TG l i=[]
 | 0,_,_,h=>by omega
 | k+1,i,h1,h2=>by
  unfold Xn at h1;split at h1
  ·rename_i a;by_cases hi:i=k
   ·rw [hi];exact a
   ·exact ZT l h1 (by omega)
  ·omega
theorem Zw (l:List (List Tc)) : ∀ {k m:Nat},Xn l k=m+1->TG l m≠[]
 | 0,m,h=>by cases h
 | k+1,m,h=>by
  unfold Xn at h;split at h
  ·exact Zw l h
  ·rename_i a;have:m=k:=by omega
   rw [this];exact a
theorem Z7 (l:List (List Tc)) (i:Nat):TG (XR l) i=TG l i:=by
 unfold XR;by_cases h:i<Xn l l.length
 ·unfold TG;rw [List.getElem?_take,if_pos h]
 ·have a:TG (l.take (Xn l l.length)) i=[]:=by
   unfold TG;rw [List.getElem?_take,if_neg h];rfl
  rw [a];by_cases b:i<l.length
  ·exact (ZT l (by omega) b).symm
  ·unfold TG;rw [List.getElem?_eq_none (by omega)];rfl
theorem dH (l:List (List Tc)):(XR l).getLast? ≠ some []:=by
 have c:(XR l).length=Xn l l.length:=by
  have:=aH l l.length;unfold XR;rw [List.length_take];omega
 cases a:Xn l l.length with
 | zero =>
  have:XR l=[]:=List.length_eq_zero_iff.1 (by rw [c,a]);rw [this];simp
 | succ m =>
  have d:=Zw l a;rw [List.getLast?_eq_getElem?,c,a];intro e;have b:TG (XR l) m=[]:=by unfold TG;rw [show m=m+1-1 by omega,e];rfl
  rw [Z7] at b;exact d b
theorem X8 (l:List (List Tc)) (n:Nat):(Xj l n).length=max l.length (n+1):=by
 unfold Xj;simp;omega
theorem bG (l:List (List Tc)) (n i:Nat):TG (Xj l n) i=TG l i:=by
 unfold TG Xj;by_cases h:i<l.length
 ·rw [List.getElem?_append_left h]
 ·rw [List.getElem?_append_right (by omega),List.getElem?_replicate,List.getElem?_eq_none (l:=l) (by omega)];split<;>rfl
theorem bK (l:List (List Tc)) (n i:Nat) (r:List Tc):TG (WZ l n r) i=if i=n then r else TG l i:=by
 unfold WZ;by_cases h:i=n
 ·rw [if_pos h,h];have:=X8 l n;unfold TG;rw [List.getElem?_set_self (by omega)];rfl
 ·rw [if_neg h];unfold TG;rw [List.getElem?_set_ne (λe=>h e.symm)];exact bG l n i
theorem Wb (L:TB) (n i:Nat) (r:List Tc):TG (UQ L n r).2 i=if i=n then r else TG L.2 i:=by
 show TG (XR _) i=_;rw [Z7,bK]
theorem dI (L:TB) (n:Nat) (r:List Tc):(UQ L n r).2.getLast? ≠ some []:=dH _
theorem fc (L:TB) (n:Nat) (r:List Tc):(UQ L n r).2.length<=max L.2.length (n+1):=by
 show (XR _).length<=_;unfold XR;rw [List.length_take];have:(WZ L.2 n r).length=max L.2.length (n+1):=by unfold WZ;rw [List.length_set,X8]
 omega
theorem d7 (l:List (List Tc)):(XR l).flatten=l.flatten:=by
 have h:l=XR l++l.drop (Xn l l.length):=(List.take_append_drop _ _).symm
 have a:(l.drop (Xn l l.length)).flatten=[]:=by
  rw [List.flatten_eq_nil_iff];intro x c;obtain ⟨i,hi⟩:=List.getElem?_of_mem c;rw [List.getElem?_drop] at hi;have b:=(List.getElem?_eq_some_iff.1 hi).1;have:=ZT l (k:=l.length) (i:=Xn l l.length+i) (by omega) b;unfold TG at this;rw [hi] at this;exact this
 conv=>rhs;rw [h,List.flatten_append,a,List.append_nil]
theorem f6 (l:List (List Tc)) (n:Nat):(Xj l n).flatten=l.flatten:=by
 unfold Xj;rw [List.flatten_append]
 have:(List.replicate (n+1-l.length) ([]:List Tc)).flatten=[]:=by
  rw [List.flatten_eq_nil_iff];intro x a;exact (List.mem_replicate.1 a).2
 rw [this,List.append_nil]
theorem XK (L:TB) (n:Nat) (r:List Tc) : ∃ p q,L.2.flatten=p++(TG L.2 n++q)/\(UQ L n r).2.flatten=p++(r++q):=by
 have a:n<(Xj L.2 n).length:=by rw [X8];omega
 refine ⟨((Xj L.2 n).take n).flatten,((Xj L.2 n).drop (n+1)).flatten,?_,?_⟩
 ·rw [<- bG L.2 n n,<- f6 L.2 n]
  have:Xj L.2 n=(Xj L.2 n).take n++((Xj L.2 n)[n]::(Xj L.2 n).drop (n+1)):=by
   rw [<- List.drop_eq_getElem_cons a,List.take_append_drop]
  have b:TG (Xj L.2 n) n=(Xj L.2 n)[n]:=by unfold TG;rw [List.getElem?_eq_getElem a];rfl
  rw [b]
  conv=>lhs;rw [this]
  rw [List.flatten_append,List.flatten_cons]
 ·show (XR (WZ L.2 n r)).flatten=_;rw [d7];unfold WZ;rw [List.set_eq_take_append_cons_drop,if_pos a,List.flatten_append,List.flatten_cons]
theorem VLev.own {L:TB} (v:VLev L) (i:Nat):(TG L.2 i).length<=2 /\ ∀ r∈TG L.2 i,VR (UV L.1 i) r:=by
 unfold TG;cases h:L.2[i]? with
 | none=>exact ⟨by simp,λr a=>by cases a⟩
 | some rs=>exact v.lev i rs h
theorem VLev.with' {L:TB} (v:VLev L) {n:Nat} (f:n<12) {r:List Tc} (d:r.length<=2) (e : ∀ x∈r,VR (UV L.1 n) x) (b:((UQ L n r).2.flatten.map mV).Nodup):VLev (UQ L n r):=by
 refine ⟨v.B1,v.B2,?_,λi rs hi => ?_,b,dI L n r⟩
 ·have:=fc L n r;have:=v.len;omega
 ·have a:=Wb L n i r;unfold TG at a;rw [hi] at a;simp only [Option.getD_some] at a;rw [a];split
  ·rename_i c;rw [c];exact ⟨d,e⟩
  ·exact v.own i
theorem VLev.leave {L:TB} (v:VLev L) {n:Nat} (c:n<12):VLev (UQ L n []):=by
 refine v.with' c (by simp) (λ_ h=>by cases h) ?_
 obtain ⟨p,q,a,b⟩:=XK L n [];have:=v.ids;rw [a] at this;rw [b,List.nil_append];refine List.Sublist.nodup (List.Sublist.map _ ?_) this;exact List.Sublist.append (List.Sublist.refl _) (List.sublist_append_right _ _)
theorem VLev.arrive {L:TB} (v:VLev L) {n:Nat} (g:n<12) {x:Tc} (j:(TG L.2 n).length<2) (i:VR (UV L.1 n) x) (b : ∀ y∈L.2.flatten,y.1≠x.1):VLev (UQ L n (TG L.2 n++[x])):=by
 refine v.with' g (by simp;omega) (λy hy => ?_) ?_
 ·rcases List.mem_append.1 hy with hy | hy
  ·exact (v.own n).2 y hy
  ·rw [List.mem_singleton.1 hy];exact i
 ·obtain ⟨p,q,c,d⟩:=XK L n (TG L.2 n++[x])
  have h:(UQ L n (TG L.2 n++[x])).2.flatten.Perm (x::L.2.flatten):=by
   rw [c,d,List.append_assoc];refine List.Perm.trans ?_ (List.perm_middle (l₁:=p++TG L.2 n) (l₂:=q) (a:=x) |>.trans (by rw [List.append_assoc]));rw [List.append_assoc];exact List.Perm.refl _
  refine (h.map mV).nodup_iff.2 (List.nodup_cons.2 ⟨λf => ?_,v.ids⟩);obtain ⟨y,hy,e⟩:=List.mem_map.1 f;exact b y hy e
theorem Zb {l:List (List Tc)} {x:Tc}:x∈l.flatten <-> ∃ i,x∈TG l i:=by
 rw [List.mem_flatten];constructor
 ·rintro ⟨rs,a,b⟩;obtain ⟨i,hi⟩:=List.getElem?_of_mem a;exact ⟨i,by unfold TG;rw [hi];exact b⟩
 ·rintro ⟨i,h⟩;unfold TG at h;cases hi:l[i]? with
  | none=>rw [hi] at h;cases h
  | some rs=>rw [hi] at h;exact ⟨rs,List.mem_of_getElem? hi,h⟩
theorem Yj {l:List (List Tc)} {x:Tc} (h:x∈l.flatten):x.1<=WF l:=by
 have d : ∀ (rs:List Tc) (m:Int),m<=rs.foldl (λm r=>S0 m r.1) m /\ ∀ x∈rs,x.1<=rs.foldl (λm r=>S0 m r.1) m:=by
  intro rs
  induction rs with
  | nil=>intro m;exact ⟨by simp,λx hx=>by cases hx⟩
  | cons r rs c =>
   intro m;obtain ⟨b,a⟩:=c (S0 m r.1);rw [Wt] at b a;simp only [List.foldl_cons,Wt] at b a ⊢;refine ⟨by omega,λx hx => ?_⟩;rcases List.mem_cons.1 hx with e | hx
   ·rw [e];omega
   ·exact a x hx
 have two : ∀ (ls:List (List Tc)) (m:Int),m<=ls.foldl (λm rs=>rs.foldl (λm r=>S0 m r.1) m) m /\ ∀ rs∈ls,∀ x∈rs,x.1<=ls.foldl (λm rs=>rs.foldl (λm r=>S0 m r.1) m) m:=by
  intro ls
  induction ls with
  | nil=>intro m;exact ⟨by simp,λx hx=>by cases hx⟩
  | cons rs ls c =>
   intro m;obtain ⟨b,a⟩:=c (rs.foldl (λm r=>S0 m r.1) m);obtain ⟨i,g⟩:=d rs m;simp only [List.foldl_cons];refine ⟨by omega,λf hrs x hx => ?_⟩;rcases List.mem_cons.1 hrs with e | hrs
   ·subst e;have:=g x hx;omega
   ·exact a f hrs x hx
 obtain ⟨rs,b,a⟩:=List.mem_flatten.1 h;exact (two l 0).2 rs b x a
end
section
open Go Go.Proofs.YtfilfloanndddaaGreat.Sv
theorem Zx {M:List (List Tc)} {f:Int->Option (LR Int (Nat×(Int×Unit)))} (a:f 0=some (.dn (0,(0,())))) (hs : ∀ k,k<M.length->f ((k+1:Nat):Int)=if TG M k=[] then some (.nx (k:Int)) else some (.dn (0,(((k+1:Nat):Int),())))) : ∀ k,k<=M.length->IJ (k+1) f (k:Int)=some (0,((Xn M k:Nat):Int),())
 | 0,_=>Tk a
 | k+1,hk=>by
  have h:=hs k (by omega);unfold Xn;by_cases b:TG M k=[]
  ·rw [if_pos b] at h ⊢;rw [Te h];exact Zx a hs k (by omega)
  ·rw [if_neg b] at h ⊢;exact Tk h
theorem md (L:List (List Tc)) (n:Nat):K5 (Q8 (max L.length (n+1)) ([]:List Tc)) 0 L (AS (Q8 (max L.length (n+1)) ([]:List Tc)))=Xj L n:=by
 have a:AS (Q8 (max L.length (n+1)) ([]:List Tc))=max L.length (n+1):=by unfold AS Q8;simp
 rw [a];unfold K5 Xj Q8;rw [List.take_of_length_le (by omega:L.length<=max L.length (n+1))];simp only [List.take_zero,List.nil_append,List.drop_replicate,Nat.zero_add]
 congr 2
 omega
theorem gD (l:List (List Tc)) (n:Nat) (r:List Tc):lset (Xj l n) n r=WZ l n r:=rfl
theorem Vt {l:List (List Tc)} {i:Nat} (h:i<l.length):l[i]? = some (TG l i):=by
 unfold TG;rw [List.getElem?_eq_getElem h];rfl
theorem aQ {β:Type} (l:List Tc) (x y:Unit->Option β):br (RR (l.length:Int) 0) x y=if l=[] then x () else y ():=by
 rw [Sn];by_cases h:l=[]
 ·rw [if_pos h,if_pos (by rw [h];rfl)]
 ·rw [if_neg h,if_neg (by have:=List.length_pos_iff.2 h;omega)]
theorem Y7 {L:TB} (i:L.2.length<=1000) {n:Nat} (j:n<1000) (r:List Tc):VG (L,((n:Int),r))=some (UQ L n r):=by
 have b:S0 (Kb (AS L.2)) (Rl .i64 (n:Int) 1)=((max L.2.length (n+1):Nat):Int):=by
  rw [TJ (by omega),Wt,TH,TF];omega
 unfold VG;simp only [b,S9,md,gD];have d:(Xj L.2 n).length=max L.2.length (n+1):=X8 _ _;have l:(WZ L.2 n r).length=max L.2.length (n+1):=by unfold WZ;rw [List.length_set,d]
 rw [UC (by omega),SR,if_pos (by rw [TF,d];omega),Sb (Vt (by omega))]
 have c:=Zx (M:=WZ L.2 n r) (f:=λa=>br (SU a 0) (λ_=>RX (Rp .i64 a 1) λe=>gd (KC e (AS (WZ L.2 n r))) λ_=>ix (WZ L.2 n r) e λh=>br (RR (Kb (AS h)) 0) (λ_=>some (.nx (Rp .i64 a 1))) λ_=>some (.dn ((0,(a,()))))) λ_=>some (.dn ((0,(a,()))))) rfl (λk b=>by
  have hi:Rp .i64 ((k+1:Nat):Int) 1=(k:Int):=by rw [SB (by omega)];omega
  simp only [hi,S9];rw [Sp,if_pos (by omega),SR,if_pos (by rw [TF];omega),Sb (Vt b)]
  exact aQ _ _ _) _ (Nat.le_refl _)
 rw [TH,show AS (WZ L.2 n r)=(WZ L.2 n r).length from rfl];refine Td (Ui (by omega) c) ?_;have g:=aH (WZ L.2 n r) (WZ L.2 n r).length;simp only [S9];rw [UC g,SQ,if_pos (by omega),SN,if_pos (by omega),SQ,if_pos (by unfold BD PA;omega)];unfold UQ XR Dy BD PA;simp
end
section
open Go Go.Proofs.YtfilfloanndddaaGreat.Sv
def aO (d:Int) (j:Job):Bool:=RR d j.1
def UL (js:List Job) (d:Int):Option Job:=js.find? (aO d)
def Yk (js:List Job):List (Int×Job):=js.map λj=>(j.1,j)
def zJ:Job:=(0,(([],([],([],([],0)))),((false,([],false)),([],0))))
def WI (L:TB) (d:Int):Job:=match TG L.2 d.toNat with
 | [r0,r1]=>(d,U7 r1.2 r0.2 (decide (d=(L.2.length:Int)-1)) 0)
 | _=>zJ
def WV (s:TA) (L:TB) (a d:Int):Job:=(if d=a then none else UL s.2.1 d).getD (WI L d)
def YA (s:TA) (L:TB) (next a:Int):TA:=(L,((TI 0 L.2).map (WV s L a),next))
theorem Z5 (d:Int) : ∀ js:List Job,MI (λa b=>RR a b) (Yk js) d=UL js d
 | []=>rfl
 | j::js=>by
  show (bif RR d j.1 then some j else MI (λa b=>RR a b) (Yk js) d)=(j::js).find? (aO d)
  rw [List.find?_cons,Z5 d js];show _=match RR d j.1 with | true=>some j | false=>UL js d
  cases RR d j.1<;>rfl
theorem Z6 {j:Job} : ∀ {js:List Job},j.1 ∉ js.map (·.1)->IR (λa b=>RR a b) (Yk js) j.1 j=Yk (js++[j])
 | [],_=>rfl
 | i::js,h=>by
  show (bif RR j.1 i.1 then (j.1,j)::Yk js else (i.1,i)::IR (λa b=>RR a b) (Yk js) j.1 j)=(i.1,i)::Yk (js++[j])
  have d:RR j.1 i.1=false:=by rw [VQ];simp;intro e;exact h (by simp [e])
  rw [d,cond_false,Z6 (λc=>h (by simp at c ⊢;exact .inr c))]
theorem Xp {js:List Job} {d:Int} (h:d ∉ js.map (·.1)):UL js d=none:=by
 unfold UL;rw [List.find?_eq_none];intro j a;unfold aO;rw [VQ];simp only [decide_eq_true_eq];intro e;exact h (by rw [e];exact List.mem_map_of_mem a)
theorem Z4 {x d:Int} : ∀ {js:List Job},(js.map (·.1)).Nodup->MI (λa b=>RR a b) (IQ (λa b=>RR a b) (Yk js) x) d=if d=x then none else UL js d
 | [],_=>by split<;>rfl
 | j::js,h=>by
  rw [List.map_cons,List.nodup_cons] at h;show MI (λa b=>RR a b) (bif RR x j.1 then Yk js else (j.1,j)::IQ (λa b=>RR a b) (Yk js) x) d=_
  have g:UL (j::js) d=if d=j.1 then some j else UL js d:=by
   unfold UL;rw [List.find?_cons];unfold aO;rw [VQ];by_cases e:d=j.1<;>simp [e]
  rw [VQ,g];by_cases f:x=j.1
  ·rw [show decide (x=j.1)=true by simp [f],cond_true,Z5];by_cases c:d=x
   ·rw [if_pos c];exact Xp (by rw [c,f];exact h.1)
   ·rw [if_neg c,if_neg (by rw [<- f];exact c)]
  ·rw [show decide (x=j.1)=false by simp [f],cond_false];show (bif RR d j.1 then some j else MI (λa b=>RR a b) (IQ (λa b=>RR a b) (Yk js) x) d)=_
   rw [Z4 h.2,VQ];by_cases c:d=j.1
   ·rw [show decide (d=j.1)=true by simp [c],cond_true,if_pos c,if_neg (by rw [c];exact λe=>f e.symm)]
   ·rw [show decide (d=j.1)=false by simp [c],cond_false,if_neg c]
theorem VR.vl' {L:TB} (v:VLev L) {n:Nat} {r:Tc} (h:r∈TG L.2 n):VL r.2:=((v.own n).2 r h).vl
theorem eE (L:TB) (a:L.2.length<=1000) (n:Nat):Uw (L,(n:Int))=some (decide ((n:Int)=(L.2.length:Int)-1)):=by
 unfold Uw;simp only [TH,TF];rw [SB (by omega),VQ]
theorem fq {L:TB} (v:VLev L) {n:Nat} (h:(TG L.2 n).length=2):Wg (L,(n:Int))=some (WI L n,0):=by
 have d:n<L.2.length:=by
  by_cases e:n<L.2.length
  ·exact e
  ·unfold TG at h;rw [List.getElem?_eq_none (by omega)] at h;cases h
 have i:=v.len;obtain ⟨f,g⟩:=v.small;unfold Wg;simp only [TH,TF];rw [YW _ f g,Ww v,SL,Ss,if_pos rfl,Sr,if_neg (by omega),So,if_neg (by omega),So,if_neg (by omega),S9,Sb (Vt d),Sr,if_neg (by omega),eE L (by omega) n,SL]
 obtain ⟨b,c,a⟩ : ∃ b c,TG L.2 n=[b,c]:=by
  match hq:TG L.2 n with
  | [b,c]=>exact ⟨b,c,rfl⟩
  | []=>rw [hq] at h;cases h
  | [_]=>rw [hq] at h;cases h
  | _::_::_::_=>rw [hq] at h;simp at h
 rw [af _ (by rw [Vt d,a]) (VR.vl' v (n:=n) (by rw [a];simp)) (VR.vl' v (n:=n) (by rw [a];simp)),SL];unfold WI;rw [Int.toNat_natCast,a]
theorem Xo (i:Nat) (rs:List Tc) (ls:List (List Tc)):TI i (rs::ls)=(if rs.length=2 then [(i:Int)] else [])++TI (i+1) ls:=rfl
theorem ZD {s:TA} (f:(s.2.1.map (·.1)).Nodup) (t:s.2.1.length<=1000) {L:TB} (v:VLev L) (next a:Int):Ta (s,(L,(next,a)))=some (YA s L next a,0):=by
 have u:=v.len;unfold Ta;simp only [TH,TF]
 rw [U6 (l:=s.2.1) (σ:=List (Int×Job)) (s:=((0:Int),([]:List (Int×Job)))) (λi m=>((i:Int),m)) (λls i m => ∃ p,s.2.1=p++ls/\m=Yk p) (λ_ _ _=>(0,(((s.2.1.length:Int),Yk s.2.1),()))) [] rfl (by omega) ⟨[],rfl,rfl⟩ (λm h=>by
  obtain ⟨p,d,rfl⟩:=h
  simp only;rw [re,Rd,d,List.append_nil]) (λi x ls m q b hi h=>by
   obtain ⟨p,d,rfl⟩:=h;refine ⟨Yk (p++[x]),?_,⟨p++[x],by rw [d];simp,rfl⟩,rfl⟩;simp only;rw [rl hi,R5,S9,Sb b,TL b (by omega),Z6];intro g;rw [d,List.map_append,List.nodup_append] at f
   exact f.2.2 _ g x.1 (by simp) rfl),SL]
 simp only
 rw [U6 (l:=L.2) (σ:=List Job) (s:=((0:Int),((0:Int),(((0:Int),(([]:List (List Tc)),(([]:List Job),(0:Int)))),(L.1,(L.2,(([]:List Job),next))))))) (λi js=>((0:Int),((i:Int),(((0:Int),(([]:List (List Tc)),(([]:List Job),(0:Int)))),(L.1,(L.2,(js,next))))))) (λls i js=>js++(TI i ls).map (WV s L a)=(TI 0 L.2).map (WV s L a)) (λ_ _ _=>(0,(((0:Int),((L.2.length:Int),(((0:Int),(([]:List (List Tc)),(([]:List Job),(0:Int)))),(L.1,(L.2,((TI 0 L.2).map (WV s L a),next)))))),()))) [] rfl (by omega) rfl (λm h=>by
  simp only;rw [re,Rd,<- h];simp [TI]) (λi rs ls m q b hi h=>by
   have k:TG L.2 i=rs:=by unfold TG;rw [b];rfl
   have o:=(v.own i).1;rw [k] at o;refine ⟨m++(if rs.length=2 then [WV s L a i] else []),?_,?_,rfl⟩
   ·simp only;rw [rl hi,R5,S9,Sb b,Sr]
    have g:m.length<=1000:=by
     have c:=congrArg List.length h;have r:=VU L.2 0;rw [List.length_append,List.length_map,List.length_map] at c;omega
    by_cases c:rs.length=2;rotate_left
    ·rw [if_pos (by omega),if_neg c,List.append_nil,TL b (by omega)]
    rw [if_neg (by omega),if_pos c,Z4 f];have e:WV s L a i=(if (i:Int)=a then none else UL s.2.1 i).getD (WI L i):=rfl
    cases n:(if (i:Int)=a then none else UL s.2.1 (i:Int)) with
    | none =>
     rw [n,Option.getD_none] at e;rw [e,fq v (by rw [k];exact c),Tl,Sx,if_neg (show ¬ S3 (none:Option Job)=true by simp [S3]),SL];simp only;rw [Ss,if_pos rfl,UC (by simp only [BD,List.length_cons,List.length_nil];omega),TL b (by omega)];rfl
    | some j =>
     rw [n,Option.getD_some] at e;rw [e,Tl,Sx,if_pos (show S3 (some j)=true from rfl),UC (by simp only [BD,List.length_cons,List.length_nil];omega),TL b (by omega)];rfl
   ·rw [List.append_assoc,<- h,Xo,List.map_append]
    congr 2
    split<;>rfl),SL]
 rfl
end
section
open Go Go.Proofs.YtfilfloanndddaaGreat.Sv
def pS (s:UI):Option XC:=if s.1=true then some s.2.1 else none
theorem Asc.weak : ∀ {l:List S8} {p c:Option XC},(∀ a,c=some a -> ∃ q,p=some q/\Rz q a=false)->Asc p l->Asc c l
 | [],_,_,_,_=>trivial
 | x::l,p,c,h,⟨g,i⟩=>⟨λa b=>by
  obtain ⟨q,e,j⟩:=h a b;have d:=g q e;by_cases f:a=q
  ·rw [f];exact d
  ·exact WG (Yc j (λe=>f e.symm)) d,i⟩
theorem am : ∀ (l:List S8) (s:UI),Yv s l->Asc (pS s) (Vu s l)
 | [],_,_=>trivial
 | x::l,s,⟨_,g,h⟩=>by
  have i:=am l _ h;have f:Asc (some x.1) (Vu (true,(x.1,s.2.2)) l):=i;unfold Vu;by_cases c:keep s x=true
  ·rw [if_pos c];refine ⟨λq d => ?_,f⟩;unfold pS at d;by_cases b:s.1=true
   ·rw [if_pos b] at d;cases d;refine Yc (g b) λe => ?_;unfold keep at c;rw [b,e] at c;simp at c
   ·rw [if_neg b] at d;cases d
  ·rw [if_neg c,List.nil_append];refine f.weak λj a=>⟨x.1,rfl,?_⟩;unfold pS at a;by_cases b:s.1=true
   ·rw [if_pos b] at a;cases a;exact g b
   ·rw [if_neg b] at a;cases a
theorem ao : ∀ {l:List S8} {s:UI} {x:S8},x∈Vu s l->x∈l
 | y::l,s,x,h=>by
  unfold Vu at h;rcases List.mem_append.1 h with h | h
  ·split at h
   ·rw [List.mem_singleton.1 h];simp
   ·cases h
  ·exact List.mem_cons_of_mem _ (ao h)
theorem di : ∀ {l:List S8} {s:UI},Yv s l -> ∀ x∈l,kE x=0
 | y::l,s,⟨a,_,b⟩,x,h=>by
  rcases List.mem_cons.1 h with e | h
  ·rw [e];exact a
  ·exact di b x h
theorem gL {a b:List S8} (va:VL a) (f:VL b) (c:Bool) {k:Nat} (d:k<=a.length+b.length) (j:a.length+b.length<=5000):VL (U7 a b c k).2.2.1/\(U7 a b c k).2.2.1.length<=a.length+b.length:=by
 have e:=W3 va f c d
 have i:(Vu (s0 c) (TU a b k)).length<=k:=by
  have:=Xb (s0 c) (TU a b k);rw [Us va f d] at this;exact this
 have g:(U7 a b c k).2.2.1=Vu (s0 c) (TU a b k):=rfl;rw [g];exact ⟨⟨by omega,λx h=>di e x (ao h),am _ _ e⟩,by omega⟩
theorem bp {L:TB} (v:VLev L) {n:Nat} (h:TG L.2 n≠[]):U3 (L,(n:Int))=some (UQ L n [],(TG L.2 n,0)):=by
 have b:n<L.2.length:=by
  by_cases a:n<L.2.length
  ·exact a
  ·unfold TG at h;rw [List.getElem?_eq_none (by omega)] at h;exact absurd rfl h
 have d:=v.len;have c:=(v.own n).1;unfold U3;simp only [TH,TF];rw [aT v,SL,if_neg (by omega),Ss,if_pos rfl,Sr,if_pos (by omega),S9,Sb (Vt b),aQ,if_neg h,Y7 (by omega) (by omega),SL,UC (by omega)]
theorem eB {S β:Type} {f:S->Option (LR S β)} {r:β} (mk:Int->S) (n:Nat) {s:S} (b:s=mk ((n:Int)-1)) (g:n<1000000) (hs : ∀ k,k<n->f (mk (k:Int))=some (.nx (mk ((k:Int)-1)))) (c:f (mk (-1))=some (.dn r)):loop f s=some r:=by
 subst b
 have a : ∀ k,k<=n->IJ (k+1) f (mk ((k:Int)-1))=some r:=by
  intro k
  induction k with
  | zero=>intro _;exact Tk c
  | succ k d =>
   intro e;have:=hs k (by omega);rw [show ((k+1:Nat):Int)-1=(k:Int) by omega,Te this];exact d (by omega)
 exact Ui (by omega) (a n (Nat.le_refl _))
theorem bB {L:TB} (v:VLev L) {n:Nat} (o:n<12) {x:Tc} (q:x.2.length<=1048576) (b : ∀ y∈L.2.flatten,y.1≠x.1) (m:(TG L.2 n).length<2) :
  Tp (L,((n:Int),x))=some (if kR [] (UV L.1 n) x≠0 then ((0,[]),kR [] (UV L.1 n) x) else (UQ L n (TG L.2 n++[x]),0)):=by
 have p:=v.len;unfold Tp;simp only [TH,TF];rw [aT v,SL,if_neg (by omega),Ss,if_pos rfl,Y5 v.B1 v.B2 (by omega),Z3 x _ (by omega),show RS (n:Int) 0=true by unfold RS;simp];rw [lq,SL,Ss];by_cases a:kR [] (UV L.1 n) x=0;rotate_left
 ·rw [if_neg a,if_pos a]
 rw [if_pos a,if_neg (by simp [a])]
 rw [U6 (l:=L.2) (σ:=Unit) (s:=((0:Int),(((0:Int),([]:List (List Tc))),(0:Int)))) (λi _=>((i:Int),(((0:Int),([]:List (List Tc))),(0:Int)))) (λ_ _ _=>True) (λ_ _ _=>(0,(((L.2.length:Int),(((0:Int),([]:List (List Tc))),(0:Int))),()))) () rfl (by omega) trivial (λ_ _=>by
  simp only;rw [re];rfl) (λi rs ls _ j hi c _=>by
   refine ⟨(),?_,trivial,rfl⟩;have e:TG L.2 i=rs:=by unfold TG;rw [hi];rfl
   have f:=(v.own i).1;rw [e] at f;simp only;rw [rl c,R5,S9,Sb hi,SB (by omega)]
   rw [eB (λk=>(k,(((0:Int),([]:List (List Tc))),(0:Int)))) rs.length rfl (by omega) (λk a=>by
    have h:rs[k]? = some rs[k]:=List.getElem?_eq_getElem a;have d:rs[k].1≠x.1:=b _ (List.mem_flatten.2 ⟨rs,List.mem_of_getElem? hi,List.getElem_mem a⟩);simp only
    rw [So,if_pos (by omega),S9,Sb h,Sn,if_neg d,SB (by omega)]) (r:=(0,(((-1:Int),(((0:Int),([]:List (List Tc))),(0:Int))),()))) rfl,SL]
   rw [TL hi (by omega)]
   rfl),SL]
 rw [SM,if_pos rfl,Sr];by_cases g:n<L.2.length
 ·rw [if_pos (by omega),S9,Sb (Vt g),Sn,if_neg (by omega),S9,S9,UC (Nat.le_refl _),SP,if_pos rfl,UC (Nat.zero_le _)];have hs:Dy (TG L.2 n) 0 (TG L.2 n).length=TG L.2 n:=by unfold Dy;simp
  rw [hs,UC (by simp only [BD,List.length_cons,List.length_nil];omega),Y7 (by omega) (by omega),SL];rfl
 ·rw [if_neg (by omega)];have e:TG L.2 n=[]:=by unfold TG;rw [List.getElem?_eq_none (by omega)];rfl
  rw [UC (by simp),Y7 (by omega) (by omega),SL,e];rfl
end
end Go.Proofs.YtfilfloanndddaaGreat.Pl
