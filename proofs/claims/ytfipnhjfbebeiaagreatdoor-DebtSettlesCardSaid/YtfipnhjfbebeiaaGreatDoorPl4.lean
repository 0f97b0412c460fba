/- Functions of the program and of the specification as plain functions, and laws about them. No condition. -/
import Derived.Test.YtfipnhjfbebeiaaGreatDoorPl3
import Derived.KernelRfl
set_option linter.all false
open List renaming flatten_cons->kd, length_cons->ci, mem_of_getElem?->bo
open Nat renaming add_mul->yo, le_refl->dc, le_trans->ta, mul_le_mul->Te, mul_le_mul_right->ox, zero_add->eg
open Int renaming natCast_mul->yr
namespace Go.Proofs.YtfipnhjfbebeiaaGreatDoor.Pl
section
open Go Sv
def gY (n:Nat) (s:Th):Th×(Int×Int):=if (Ug n s).2.2≠0 then (zS,(0,(Ug n s).2.2)) else ((Ug n s).1,(((Ug n s).2.1.length:Int),0))
abbrev wC:=Int×(List (List UK)×(List Job×Int))
abbrev wB:=wC×((Int×Int)×(Int×(wC×Int)))
def tY (s:Th) (n m:Int):wB:=(wA s,((0,0),(n,(wA s,m))))
def DAt (s0:Th) (T:Th×(Nat×Int)) (k n:Nat) (m:Int) (s:Th):Prop :=
 Gd s0 s/\n+k<=1100000/\T=((Ug k s).1,(n+(Ug k s).2.1.length,(Ug k s).2.2))/\((m=(k:Int)/\0<k)\/(m = -1-(n:Int)/\YC 2000 s<k))
theorem DAt.pos {s0 s:Th} {T:Th×(Nat×Int)} {k n:Nat} {m:Int} (a:DAt s0 T k n m s) : ∃ b,k=b+1:=by
 obtain ⟨_,_,_,h⟩:=a;exact ⟨k-1,by omega⟩
theorem DAt.none {s0 s:Th} {T:Th×(Nat×Int)} {k n:Nat} {m:Int} (a:DAt s0 T k n m s) (e:VT s=4):T=(s,(n,0)):=by
 obtain ⟨b,rfl⟩:=a.pos;rw [a.2.2.1];simp [Ug,e]
theorem DAt.fail {s0 s:Th} {T:Th×(Nat×Int)} {k n:Nat} {m:Int} (a:DAt s0 T k n m s) (c:VT s≠4) (b:VT s≠0):T=(s,(n,VT s)):=by
 obtain ⟨d,rfl⟩:=a.pos;rw [a.2.2.1];simp [Ug,c,b]
theorem DAt.step {s0 s:Th} {T:Th×(Nat×Int)} {k n:Nat} {m:Int} (a:DAt s0 T k n m s) (e:VT s=0) :
  (m-1=0/\T=(XK s,(n+1,0)))\/(m-1≠0 /\ ∃ b,DAt s0 T b (n+1) (m-1) (XK s)):=by
 obtain ⟨b,rfl⟩:=a.pos;obtain ⟨g,o,i,c⟩:=a;obtain ⟨_,_,_,_,_,_,_,h⟩:=Ww g e;have p:=(Zv g g.2.2 e).1
 have d:T=((Ug b (XK s)).1,(n+1+(Ug b (XK s)).2.1.length,(Ug b (XK s)).2.2)):=by
  rw [i];simp [Ug,e];omega
 by_cases f:m-1=0
 ·refine .inl ⟨f,?_⟩;have l:b=0:=by omega
  rw [d,l];rfl
 ·refine .inr ⟨f,b,h,by omega,d,?_⟩;rcases c with ⟨c,j⟩ | ⟨c,j⟩
  ·exact .inl ⟨by omega,by omega⟩
  ·exact .inr ⟨by omega,by omega⟩
def DEnd (T:Th×(Nat×Int)) (r:Nat×(wB×Unit)):Prop :=
 (T.2.2=0/\(r.2.1.2.1.1=0\/r.2.1.2.1.1=1)/\r.2.1.2.2.1=(T.2.1:Int)/\r.2.1.2.2.2.1=wA T.1)\/(T.2.2≠0/\r.2.1.2.1=(2,T.2.2))
theorem DEnd.fin {T:Th×(Nat×Int)} {r:Nat×(wB×Unit)} (h:DEnd T r) :
  (br (Oa r.2.1.2.1.1 0) (λ_=>some ((((r.2.1.2.2.2.1.1,r.2.1.2.2.2.1.2.1),r.2.1.2.2.2.1.2.2),(r.2.1.2.2.1,(0:Int))))) λ_=>br (Oa r.2.1.2.1.1 1) (λ_=>some ((((r.2.1.2.2.2.1.1,r.2.1.2.2.2.1.2.1),r.2.1.2.2.2.1.2.2),(r.2.1.2.2.1,0)))) λ_=>some ((((0,[]),([],0)),(0,r.2.1.2.1.2))))=some (if T.2.2≠0 then (zS,(0,T.2.2)) else (T.1,((T.2.1:Int),0))):=by
 rcases h with ⟨a,h2,b,c⟩ | ⟨a,h2⟩
 ·rw [if_neg (by simp [a]),c,b,TK,TK];rcases h2 with h2 | h2
  ·rw [if_pos h2];rfl
  ·rw [if_neg (by rw [h2];decide),if_pos h2];rfl
 ·rw [if_pos a,h2,TK,if_neg (show ¬ ((2:Int)=0) by decide),TK,if_neg (show ¬ ((2:Int)=1) by decide)];rfl
theorem kP {s0 s:Th} {T:Th×(Nat×Int)} {k:Nat} {m:Int} (i:m≠0) (a:DAt s0 T k 0 m s):Wn (s,m)=some (if T.2.2≠0 then (zS,(0,T.2.2)) else (T.1,((T.2.1:Int),0))):=by
 unfold Wn;rw [TK,if_neg i];refine pE (λc => ∃ k t n m,c=tY t (n:Nat) m/\DAt s0 T k n m t) (DEnd T) (λc=>YC 2000 ((c.1.1,c.1.2.1),c.1.2.2)) ⟨k,s,0,m,rfl,a⟩ ?_ ?_ ?_
 ·show YC 2000 s<_;have:=aH a.1.1;omega
 ·rintro c ⟨k,t,n,m,rfl,a⟩;have b:=a.1;have j:SF .i64 (n:Int) 1=((n+1:Nat):Int):=Ts (by have:=a.2.1;omega);have hs:SK .i64 m 1=m-1:=Sj (by have:=a.2.1;have:=a.2.2.2;omega);rcases ub b with ⟨e1,e2⟩ | ⟨e1,e2,e3,e4⟩ | ⟨e1,e2,e3⟩
  ·refine .inr ⟨(0,((wA t,((1,0),(tY t n m).2.2)),())),?_,.inl ⟨by rw [a.none e1],.inr rfl,by rw [a.none e1];rfl,by rw [a.none e1];rfl⟩⟩;show bd (U7 t) _=_;rw [(aG b).1,Sx,TK,if_pos e2];rfl
  ·refine .inr ⟨(0,((((0,([],([],0))):wC),((2,VT t),(tY t n m).2.2)),())),?_,.inr ⟨by rw [a.fail e1 e2];exact e2,by rw [a.fail e1 e2]⟩⟩;show bd (U7 t) _=_;rw [(aG b).1,Sx,TK,if_neg e3,TK];rcases e4 with e4 | ⟨e4,e5⟩
   ·rw [if_neg (by rw [e4];exact e2),TQ,if_neg (by rw [e4];exact e2),e4]
   ·rw [if_pos e4];show bd (Uw (t,(Ur t).1)) _=_;rw [(dw b _).1,Sx,TQ,if_neg (by rw [e5];exact e2),e5]
  ·have o:=(Zv b b.2.2 e1).1;have h : ∀ {γ:Type} (x y:Unit->Option γ),br (Oa (SK .i64 m 1) 0) x y=if m-1=0 then x () else y ():=λx y=>by rw [hs,TK]
   have key : ∀ {R},R=(if m-1=0 then some (LR.dn (1,(tY (XK t) ((n+1:Nat):Int) (m-1),()))) else some (LR.nx (tY (XK t) ((n+1:Nat):Int) (m-1))))->(∃ s',R=some (.nx s')/\(∃ k t n m,s'=tY t (n:Nat) m/\DAt s0 T k n m t)/\YC 2000 ((s'.1.1,s'.1.2.1),s'.1.2.2)<YC 2000 t)\/(∃ x,R=some (.dn x)/\DEnd T x):=fun {R} e=>by
    rcases a.step e1 with ⟨f,d⟩ | ⟨f,l,d⟩
    ·rw [if_pos f] at e;exact .inr ⟨_,e,.inl ⟨by rw [d],.inl rfl,by rw [d];rfl,by rw [d];rfl⟩⟩
    ·rw [if_neg f] at e;exact .inl ⟨_,e,⟨l,_,_,_,rfl,d⟩,by show YC 2000 (XK t)<_;omega⟩
   refine key ?_;show bd (U7 t) _=_;rw [(aG b).1,Sx,TK,if_neg (by rw [e2];decide),TK,if_pos e2];show bd (Uw (t,(Ur t).1)) _=_;rw [(dw b _).1,Sx,TQ,if_pos e3];refine (h _ _).trans ?_;rw [<- j,<- hs];rfl
 ·intro r g;rw [pF];split
  ·exact g.fin
  ·exact g.fin
theorem uf {s0 s:Th} (g:Gd s0 s) {n:Nat} (a:n<=1000000):Wn (s,(n:Int))=some (gY n s):=by
 by_cases h:n=0
 ·subst h;rfl
 ·have:=kP (s0:=s0) (s:=s) (T:=((Ug n s).1,(0+(Ug n s).2.1.length,(Ug n s).2.2))) (k:=n) (m:=(n:Int)) (by omega) ⟨g,by omega,rfl,.inl ⟨rfl,by omega⟩⟩;rw [this];simp only [eg];rfl
theorem pq {s0 s:Th} (g:Gd s0 s):Wn (s,-1)=some (gY (YC 2000 s+1) s):=by
 have a:=aH g.1;have:=kP (s0:=s0) (s:=s) (T:=((Ug (YC 2000 s+1) s).1,(0+(Ug (YC 2000 s+1) s).2.1.length,(Ug (YC 2000 s+1) s).2.2))) (k:=YC 2000 s+1) (m := -1) (by omega) ⟨g,by omega,rfl,.inr ⟨by omega,by omega⟩⟩;rw [this];simp only [eg];rfl
theorem dZ {s0 s:Th} {N R Q:Nat} (g:Gd s0 s) (a:UE s.1.2.flatten<=N) (c:YC N s<=R) (b:YC N s<=Q):gY R s=gY Q s:=by
 have h : ∀ k,Ug (YC N s+k) s=Ug (YC N s) s:=iJ g a (dc _);unfold gY;rw [show R=YC N s+(R-YC N s) by omega,show Q=YC N s+(Q-YC N s) by omega,h,h]
def po (s:Th) (most:Int):Th×(Int×Int):=if ZZ s most≠0 then (zS,(0,ZZ s most)) else gY most.toNat s
theorem sT {s:Th} (m:Sm s) (hc:VSt s->UE s.1.2.flatten<=2000) (most:Int):X6 (s,most)=some (po s most):=by
 unfold X6 po;rw [tX m,Sx,TQ];by_cases a:(Tk s).2=0;rotate_left
 ·rw [if_neg a,jW a,if_pos a];rfl
 rw [if_pos a,TP,TM];by_cases b:most<0
 ·rw [if_pos b,cr a (.inl b),if_pos (by decide)];rfl
 by_cases c:most>1000000
 ·rw [if_neg b,if_pos c,cr a (.inr c),if_pos (by decide)];rfl
 rw [if_neg b,if_neg c,cq a (by omega),if_neg (by decide)];have v:=Tu.1 a;have:=uf (s0:=s) (s:=s) ⟨v,rfl,hc v⟩ (n:=most.toNat) (by omega);rw [Int.toNat_of_nonneg (by omega)] at this;rw [this];rfl
def ZP (s:Th):Th×(Int×Int):=if (Tk s).2≠0 then (zS,(0,(Tk s).2)) else gY (YC 2000 s+1) s
theorem bU {s:Th} (m:Sm s) (hc:VSt s->UE s.1.2.flatten<=2000):V1 s=some (ZP s):=by
 unfold V1 ZP;rw [tX m,Sx,TQ];by_cases a:(Tk s).2=0;rotate_left
 ·rw [if_neg a,if_pos a];rfl
 rw [if_pos a,if_neg (by simp [a])];have v:=Tu.1 a;rw [pq (s0:=s) ⟨v,rfl,hc v⟩];rfl
end
section
open Go Sv
def kG (s:Th):Int×Int:=if (Tk s).2≠0 then (0,(Tk s).2) else (((s.1.2.flatten.length*(UE s.1.2.flatten+1):Nat):Int),0)
def eC (s:Th):Int×Int:=if (Tk s).2≠0 then (0,(Tk s).2) else (((4*(UE s.1.2.flatten+s.1.1.toNat)+2*s.1.2.length:Nat):Int),0)
def dq (s:Th):Bool×Int:=if (Tk s).2≠0 then (false,(Tk s).2) else (decide (To 0 s.1.2=[]),0)
theorem ah {s:Th} (m:Sm s):WI s=some (if (Tk s).2≠0 then (0,(0,(Tk s).2)) else ((UE s.1.2.flatten:Int),((s.1.2.flatten.length:Int),0))):=by
 unfold WI;rw [tX m,Sx,TQ];by_cases a:(Tk s).2=0;rotate_left
 ·rw [if_neg a,if_pos a]
 have v:=Tu.1 a;rw [if_pos a,if_neg (by simp [a]),jS _ m.lv m.rs,Sx];unfold eE;rw [if_neg (by simp [WU v.lev])]
theorem kH {n c:Nat} (a:n<=24) (hc:c<=1000000):SG .i64 (n:Int) (SF .i64 (c:Int) 1)=((n*(c+1):Nat):Int):=by
 have h:n*(c+1)<=24*1000001:=Te a (by omega);rw [Ts (by omega),Si]
 ·exact (yr _ _).symm
 ·rw [<- yr];omega
theorem d7 {s:Th} (m:Sm s):WH s=some (kG s):=by
 unfold WH kG;rw [ah m,Sx,TQ];by_cases a:(Tk s).2=0;rotate_left
 ·rw [if_pos a,if_neg a,if_pos a]
 have v:=Tu.1 a;have b:=ak v.lev;have c:=(Yh v.lev).2;rw [if_neg (show ¬ (Tk s).2≠0 by simp [a]),if_neg (show ¬ (Tk s).2≠0 by simp [a]),if_pos rfl,kH b (by omega)]
end
section
open Go Sv
theorem jR {s:Th} (m:Sm s):W0 s=some (eC s):=by
 unfold W0 eC;rw [ah m,Sx,TQ];by_cases b:(Tk s).2=0;rotate_left
 ·rw [if_pos b,if_neg b,if_pos b]
 have v:=Tu.1 b;have c:=(Yh v.lev).2;have d:=v.lev.len;have e:=v.lev.B1;have f:=v.lev.B2;rw [if_neg (show ¬ (Tk s).2≠0 by simp [b]),if_neg (show ¬ (Tk s).2≠0 by simp [b]),if_pos rfl];simp only [Tp,Tn];rw [Sh (a:=(UE s.1.2.flatten:Int)) (by omega),Si (by omega),Si (by omega),Sh (by omega)];refine congrArg some (Prod.ext ?_ rfl);show _=((4*(UE s.1.2.flatten+s.1.1.toNat)+2*s.1.2.length:Nat):Int);omega
theorem pw:VO ()=some true:=by kernel_rfl
theorem pH {l:List UK} {c:Nat} (h : ∀ r∈l,r.2.length<=c):UE l<=l.length*c:=by
 induction l with
 | nil=>simp [UE]
 | cons r l b =>
  have d:=h r (by simp);have e:=b λx a=>h x (by simp [a]);rw [VA,ci,yo];omega
theorem je {L:List (List UK)} {c d:Nat} (h : ∀ rs∈L,UE rs<=d) (hc:L.length<=c):UE L.flatten<=c*d:=by
 refine ta ?_ (ox d hc);clear hc
 induction L with
 | nil=>simp [UE]
 | cons r l b =>
  have e:=h r (by simp);have f:=b λx a=>h x (by simp [a]);rw [kd,U1,ci,yo];omega
theorem jf {s:Th} (m:Sm s) (hs : ∀ rs∈s.1.2,∀ r∈rs,r.2.length<=30):YI s=some (decide (UE s.1.2.flatten<=60)):=by
 have f : ∀ rs∈s.1.2,UE rs<=1048576*30:=λrs h=>ta (pH (hs rs h)) (ox 30 (m.rs rs h).1);have g:=je f m.lv;unfold YI;simp only [Tp,Tn];refine UB (Un (l:=s.1.2) (σ:=Nat) (s:=((0:Int),(0:Int))) (λi a=>((a:Int),(i:Int))) (λls i a=>a+UE ls.flatten=UE s.1.2.flatten) (λ_ _ _=>(0,(((UE s.1.2.flatten:Int),(s.1.2.length:Int)),()))) 0 rfl (by have:=m.lv;omega) (by simp) (λa h => ?_) (λi rs ls a hd hi e h => ?_)) ?_
 ·simp only;rw [re,R7];have h':a+0=UE s.1.2.flatten:=h;rw [<- h'];simp
 ·rw [kd,U1] at h;have j:=bo hi;have o:=(m.rs rs j).1;refine ⟨a+UE rs,?_,by omega,rfl⟩;simp only;rw [rl e,Sc];refine UB (Un (l:=rs) (σ:=Nat) (s:=((a:Int),(0:Int))) (λk t=>((t:Int),(k:Int))) (λxs k t=>t+UE xs=a+UE rs) (λ_ _ _=>(0,((((a+UE rs:Nat):Int),(rs.length:Int)),()))) a rfl (by omega) rfl (λt c => ?_) (λk x xs t n d b c => ?_)) ?_
  ·simp only;rw [Ti,TC hi,re,R7];have h':t+0=a+UE rs:=c;rw [<- h'];simp
  ·rw [VA] at c;have p:=hs rs j x (bo d);refine ⟨t+x.2.length,?_,by omega,rfl⟩;simp only;rw [Ti,TC hi,rl b,Sc,Ti,TC hi,Ti,TC d,Sh (by omega),Tv d (by omega)]
   congr 3
  ·simp only;rw [Tv hi (by have:=m.lv;omega)]
 ·simp only;unfold S7;refine congrArg some (decide_eq_decide.2 ?_);omega
end
section
open Go Sv
theorem uY {s:Th} (h:s.1.2.length<=8):Lo s:=λi hi=>by
 unfold Tq;rw [List.getElem?_eq_none (by omega)];rfl
theorem pL {s:Th} (v:VSt s) (h:s.2.1=[]):To 0 s.1.2=[]:=by rw [<- v.due,h];rfl
theorem pX {s:Th} (v:VSt s) (h:s.2.1=[]) {i:Nat} {rs:List UK} (hi:s.1.2[i]? = some rs):rs.length<=1:=by
 have c:=(v.lev.lev i rs hi).1;by_cases b:rs.length=2
 ·have a:=Zo (ls:=s.1.2) (i:=0) (n:=i) (by unfold Tq;rw [hi];exact b);rw [pL v h] at a;cases a
 ·omega
theorem cc {s:Th} (v:VSt s) (d:UE s.1.2.flatten<=60) (hi:s.2.2<=900000) (g:s.1.2.length<=8) :
  ∃ (t:Th) (n:Nat),ZP s=(t,((n:Int),0))/\Gd s t/\UE t.1.2.flatten<=60/\t.2.1=[]/\n<=s.1.2.flatten.length*(UE s.1.2.flatten+1)/\po s (((s.1.2.flatten.length*(UE s.1.2.flatten+1):Nat):Int))=(t,((n:Int),0))/\ZP t=(t,(0,0)):=by
 have e:(Tk s).2=0:=Tu.2 v;have G:Gd s s:=⟨v,rfl,by omega⟩;have m:=aH v;have h:=j0 (UE s.1.2.flatten) v;have f:=ak v.lev;have k:s.1.2.flatten.length*(UE s.1.2.flatten+1)<=24*61:=Te f (by omega);obtain ⟨a,_,_⟩:=bz (n:=YC 2000 s+1) G d (uY g) (by omega);have l:=ZH (n:=YC 2000 s+1) (N:=UE s.1.2.flatten) G (dc _);have b:=ZH (n:=YC 2000 s+1) (N:=60) G d;have hd:=bx (N:=2000) (R:=YC 2000 s+1) G (by omega) (by omega) a;refine ⟨(Ug (YC 2000 s+1) s).1,(Ug (YC 2000 s+1) s).2.1.length,?_,b.2.2.1,b.2.2.2.1,hd,by omega,?_,?_⟩
 ·unfold ZP gY;rw [if_neg (by simp [e]),if_neg (by simp [a])]
 ·unfold po;rw [cq e (by omega),if_neg (by decide),Int.toNat_natCast];have i:gY (s.1.2.flatten.length*(UE s.1.2.flatten+1)) s=gY (s.1.2.flatten.length*(UE s.1.2.flatten+1)+YC 2000 s+1) s:=dZ G (dc _) h (by omega);have j:gY (YC 2000 s+1) s=gY (s.1.2.flatten.length*(UE s.1.2.flatten+1)+YC 2000 s+1) s:=dZ (N:=2000) G (by omega) (by omega) (by omega);rw [i,<- j];unfold gY;rw [if_neg (by simp [a])]
 ·have c:=b.2.2.1.1;unfold ZP gY;rw [if_neg (by simp [Tu.2 c]),dj c hd,if_neg (by simp)];rfl
theorem debtSettles {s:Th} (u:s.1.2.length<=9223372036854775807) (w : ∀ rs∈s.1.2,rs.length<=9223372036854775807 /\ ∀ r∈rs,r.2.length<=9223372036854775807) (x:s.2.1.length<=9223372036854775807):VI s=some true:=by
 unfold VI;obtain ⟨b,e,y⟩:=g9 s;rw [Zy s u w x,Sx,e,Sx,pw];simp only [Tp,Tn,Sx];cases b with
 | true=>rfl
 | false =>
  obtain ⟨m,hs⟩:=y rfl;rw [R7,TQ];by_cases c:(Tk s).2=0;rotate_left
  ·rw [if_neg c]
  have v:=Tu.1 c;rw [if_pos c,jf m hs,Sx,UT,VE];by_cases d:UE s.1.2.flatten<=60;rotate_left
  ·rw [if_neg d]
  rw [if_pos d,TM];by_cases hi:s.2.2>900000
  ·rw [if_pos hi]
  rw [if_neg hi,TM];by_cases i:(s.1.2.length:Int)>8
  ·rw [if_pos i]
  rw [if_neg i];have hc:VSt s->UE s.1.2.flatten<=2000:=λ_=>by omega
  obtain ⟨t,n,o,a,z,g,A,p,q⟩:=cc v d (by omega) (by omega);have l:=a.1.sm;have f:(Tk t).2=0:=Tu.2 a.1;have hd:=eF v;rw [sS m,Sx,if_neg (show ¬ (Tk s).2≠0 by simp [c]),jR m,Sx,d7 m,Sx,bU m hc,Sx,o,tB l,Sx,bU l (λ_=>by omega),Sx,q];unfold eC kG;rw [if_neg (show ¬ (Tk s).2≠0 by simp [c]),if_neg (show ¬ (Tk s).2≠0 by simp [c]),sT m hc,Sx,p];simp only;rw [TQ,if_pos rfl,TQ,if_pos rfl,TQ,if_pos rfl,TQ,if_pos rfl,TM,if_neg (by omega),TM,if_neg (by omega),TQ,if_pos f,g,TQ,if_pos (show (([]:List Job).length:Int)=0 from rfl)];refine UB (Xf (r:=(1,(((t.1.2.length:Int),false),()))) (λk=>((k:Int),false)) t.1.2.length rfl (by have:=a.1.lev.len;omega) (λk h => ?_) (by simp only;rw [re];rfl)) ?_
  ·have j:t.1.2[k]? = some t.1.2[k]:=List.getElem?_eq_getElem h;have:=pX a.1 g j;simp only;rw [rl h,Sc,Ti,TC j,TM,if_neg (by omega),Ts (by have:=a.1.lev.len;omega)]
  ·simp only;rw [Sy,if_neg (show ¬ (1=0) by omega),TK,if_pos rfl,TK,if_pos rfl,ej a.1,Sx,Sc,TK,if_pos rfl,TK,if_pos rfl,Sx,Sc,jV a.1.lev,Sx,jV v.lev,Sx,a.2.1,Zz _ (by have:=jp v.lev (by omega);omega),Sx,Sc]
theorem dt {s:Th} (h:RI [(true,tJb)] s):VI s=some true:=by
 obtain ⟨⟨_,c,b⟩,⟨d,_⟩,_⟩:=h;exact debtSettles c (λrs a=>⟨(b rs a).1,λr e=>((b rs a).2 r e).2.1⟩) d
end
end Go.Proofs.YtfipnhjfbebeiaaGreatDoor.Pl
