/- Functions of the program and of the specification as plain functions, and laws about them. No condition. -/
import Derived.Test.YtfipnhjfbebeiabGreatDoorPl3
import Derived.KernelRfl
set_option linter.all false
open List renaming flatten_cons->iP, length_cons->ci, mem_of_getElem?->bo
open Nat renaming add_mul->ym, le_refl->dc, le_trans->s8, mul_le_mul->FF, mul_le_mul_right->ol, zero_add->ee
open Int renaming natCast_mul->yn, toNat_natCast->bl
namespace Go.Proofs.YtfipnhjfbebeiabGreatDoor.Pl
section
open Go Sv
def fB (n:Nat) (s:Th):Th×(Int×Int):=if (UR n s).2.2≠0 then (zS,(0,(UR n s).2.2)) else ((UR n s).1,(((UR n s).2.1.length:Int),0))
abbrev wR:=Int×(List (List UJ)×(List Job×Int))
abbrev wQ:=wR×((Int×Int)×(Int×(wR×Int)))
def tp (s:Th) (n m:Int):wQ:=(wO s,((0,0),(n,(wO s,m))))
def DAt (s0:Th) (T:Th×(Nat×Int)) (k n:Nat) (m:Int) (s:Th):Prop :=
 Gd s0 s/\n+k<=1100000/\T=((UR k s).1,(n+(UR k s).2.1.length,(UR k s).2.2))/\((m=(k:Int)/\0<k)\/(m = -1-(n:Int)/\YB 2000 s<k))
theorem DAt.pos {s0 s:Th} {T:Th×(Nat×Int)} {k n:Nat} {m:Int} (a:DAt s0 T k n m s) : ∃ b,k=b+1:=by
 obtain ⟨_,_,_,h⟩:=a;exact ⟨k-1,by omega⟩
theorem DAt.none {s0 s:Th} {T:Th×(Nat×Int)} {k n:Nat} {m:Int} (a:DAt s0 T k n m s) (e:VU s=4):T=(s,(n,0)):=by
 obtain ⟨b,rfl⟩:=a.pos;rw [a.2.2.1];simp [UR,e]
theorem DAt.fail {s0 s:Th} {T:Th×(Nat×Int)} {k n:Nat} {m:Int} (a:DAt s0 T k n m s) (c:VU s≠4) (b:VU s≠0):T=(s,(n,VU s)):=by
 obtain ⟨d,rfl⟩:=a.pos;rw [a.2.2.1];simp [UR,c,b]
theorem DAt.step {s0 s:Th} {T:Th×(Nat×Int)} {k n:Nat} {m:Int} (a:DAt s0 T k n m s) (e:VU s=0) :
  (m-1=0/\T=(Wy s,(n+1,0)))\/(m-1≠0 /\ ∃ b,DAt s0 T b (n+1) (m-1) (Wy s)):=by
 obtain ⟨b,rfl⟩:=a.pos;obtain ⟨g,o,i,c⟩:=a;obtain ⟨_,_,_,_,_,_,_,h⟩:=WU g e;have p:=(Zy g g.2.2 e).1
 have d:T=((UR b (Wy s)).1,(n+1+(UR b (Wy s)).2.1.length,(UR b (Wy s)).2.2)):=by
  rw [i];simp [UR,e];omega
 by_cases f:m-1=0
 ·refine .inl ⟨f,?_⟩;have l:b=0:=by omega
  rw [d,l];rfl
 ·refine .inr ⟨f,b,h,by omega,d,?_⟩;rcases c with ⟨c,j⟩ | ⟨c,j⟩
  ·exact .inl ⟨by omega,by omega⟩
  ·exact .inr ⟨by omega,by omega⟩
def DEnd (T:Th×(Nat×Int)) (r:Nat×(wQ×Unit)):Prop :=
 (T.2.2=0/\(r.2.1.2.1.1=0\/r.2.1.2.1.1=1)/\r.2.1.2.2.1=(T.2.1:Int)/\r.2.1.2.2.2.1=wO T.1)\/(T.2.2≠0/\r.2.1.2.1=(2,T.2.2))
theorem DEnd.fin {T:Th×(Nat×Int)} {r:Nat×(wQ×Unit)} (h:DEnd T r) :
  (br (Oa r.2.1.2.1.1 0) (λ_=>some ((((r.2.1.2.2.2.1.1,r.2.1.2.2.2.1.2.1),r.2.1.2.2.2.1.2.2),(r.2.1.2.2.1,(0:Int))))) λ_=>br (Oa r.2.1.2.1.1 1) (λ_=>some ((((r.2.1.2.2.2.1.1,r.2.1.2.2.2.1.2.1),r.2.1.2.2.2.1.2.2),(r.2.1.2.2.1,0)))) λ_=>some ((((0,[]),([],0)),(0,r.2.1.2.1.2))))=some (if T.2.2≠0 then (zS,(0,T.2.2)) else (T.1,((T.2.1:Int),0))):=by
 rcases h with ⟨a,h2,b,c⟩ | ⟨a,h2⟩
 ·rw [if_neg (by simp [a]),c,b,TK,TK];rcases h2 with h2 | h2
  ·rw [if_pos h2];rfl
  ·rw [if_neg (by rw [h2];decide),if_pos h2];rfl
 ·rw [if_pos a,h2,TK,if_neg (show ¬ ((2:Int)=0) by decide),TK,if_neg (show ¬ ((2:Int)=1) by decide)];rfl
theorem kW {s0 s:Th} {T:Th×(Nat×Int)} {k:Nat} {m:Int} (j:m≠0) (a:DAt s0 T k 0 m s):Wo (s,m)=some (if T.2.2≠0 then (zS,(0,T.2.2)) else (T.1,((T.2.1:Int),0))):=by
 unfold Wo;rw [TK,if_neg j];refine pK (λd => ∃ k t n m,d=tp t (n:Nat) m/\DAt s0 T k n m t) (DEnd T) (λd=>YB 2000 ((d.1.1,d.1.2.1),d.1.2.2)) ⟨k,s,0,m,rfl,a⟩ ?_ ?_ ?_
 ·show YB 2000 s<_;have:=aI a.1.1;omega
 ·rintro d ⟨k,t,n,m,rfl,a⟩;have b:=a.1;have l:SF .i64 (n:Int) 1=((n+1:Nat):Int):=Tu (by have:=a.2.1;omega);have hs:SK .i64 m 1=m-1:=Sj (by have:=a.2.1;have:=a.2.2.2;omega);rcases qd b with ⟨e1,e2⟩ | ⟨e1,e2,e3,c⟩ | ⟨e1,e2,e3⟩
  ·refine .inr ⟨(0,((wO t,((1,0),(tp t n m).2.2)),())),?_,.inl ⟨by rw [a.none e1],.inr rfl,by rw [a.none e1];rfl,by rw [a.none e1];rfl⟩⟩;show bd (Uz t) _=_;rw [(ZQ b).1,Sx,TK,if_pos e2];rfl
  ·refine .inr ⟨(0,((((0,([],([],0))):wR),((2,VU t),(tp t n m).2.2)),())),?_,.inr ⟨by rw [a.fail e1 e2];exact e2,by rw [a.fail e1 e2]⟩⟩;show bd (Uz t) _=_;rw [(ZQ b).1,Sx,TK,if_neg e3,TK];rcases c with c | ⟨c,e5⟩
   ·rw [if_neg (by rw [c];exact e2),TQ,if_neg (by rw [c];exact e2),c]
   ·rw [if_pos c];show bd (Ur (t,(Ut t).1)) _=_;rw [(bU b _).1,Sx,TQ,if_neg (by rw [e5];exact e2),e5]
  ·have p:=(Zy b b.2.2 e1).1;have i : ∀ {γ:Type} (x y:Unit->Option γ),br (Oa (SK .i64 m 1) 0) x y=if m-1=0 then x () else y ():=λx y=>by rw [hs,TK]
   have key : ∀ {R},R=(if m-1=0 then some (LR.dn (1,(tp (Wy t) ((n+1:Nat):Int) (m-1),()))) else some (LR.nx (tp (Wy t) ((n+1:Nat):Int) (m-1))))->(∃ s',R=some (.nx s')/\(∃ k t n m,s'=tp t (n:Nat) m/\DAt s0 T k n m t)/\YB 2000 ((s'.1.1,s'.1.2.1),s'.1.2.2)<YB 2000 t)\/(∃ x,R=some (.dn x)/\DEnd T x):=fun {R} f=>by
    rcases a.step e1 with ⟨g,e⟩ | ⟨g,o,e⟩
    ·rw [if_pos g] at f;exact .inr ⟨_,f,.inl ⟨by rw [e],.inl rfl,by rw [e];rfl,by rw [e];rfl⟩⟩
    ·rw [if_neg g] at f;exact .inl ⟨_,f,⟨o,_,_,_,rfl,e⟩,by show YB 2000 (Wy t)<_;omega⟩
   refine key ?_;show bd (Uz t) _=_;rw [(ZQ b).1,Sx,TK,if_neg (by rw [e2];decide),TK,if_pos e2];show bd (Ur (t,(Ut t).1)) _=_;rw [(bU b _).1,Sx,TQ,if_pos e3];refine (i _ _).trans ?_;rw [<- l,<- hs];rfl
 ·intro r h;rw [pL];split
  ·exact h.fin
  ·exact h.fin
theorem uv {s0 s:Th} (g:Gd s0 s) {n:Nat} (a:n<=1000000):Wo (s,(n:Int))=some (fB n s):=by
 by_cases h:n=0
 ·subst h;rfl
 ·have:=kW (s0:=s0) (s:=s) (T:=((UR n s).1,(0+(UR n s).2.1.length,(UR n s).2.2))) (k:=n) (m:=(n:Int)) (by omega) ⟨g,by omega,rfl,.inl ⟨rfl,by omega⟩⟩;rw [this];simp only [ee];rfl
theorem pz {s0 s:Th} (g:Gd s0 s):Wo (s,-1)=some (fB (YB 2000 s+1) s):=by
 have a:=aI g.1;have:=kW (s0:=s0) (s:=s) (T:=((UR (YB 2000 s+1) s).1,(0+(UR (YB 2000 s+1) s).2.1.length,(UR (YB 2000 s+1) s).2.2))) (k:=YB 2000 s+1) (m := -1) (by omega) ⟨g,by omega,rfl,.inr ⟨by omega,by omega⟩⟩;rw [this];simp only [ee];rfl
theorem dl {s0 s:Th} {N R Q:Nat} (g:Gd s0 s) (a:UB s.1.2.flatten<=N) (c:YB N s<=R) (b:YB N s<=Q):fB R s=fB Q s:=by
 have h : ∀ k,UR (YB N s+k) s=UR (YB N s) s:=iS g a (dc _);unfold fB;rw [show R=YB N s+(R-YB N s) by omega,show Q=YB N s+(Q-YB N s) by omega,h,h]
def iT (s:Th) (most:Int):Th×(Int×Int):=if Zc s most≠0 then (zS,(0,Zc s most)) else fB most.toNat s
theorem eF {s:Th} (m:Sm s) (hc:VSt s->UB s.1.2.flatten<=2000) (most:Int):Wn (s,most)=some (iT s most):=by
 unfold Wn iT;rw [tn m,Sx,TQ];by_cases a:(Tk s).2=0;rotate_left
 ·rw [if_neg a,jc a,if_pos a];rfl
 rw [if_pos a,TP,TM];by_cases b:most<0
 ·rw [if_pos b,c0 a (.inl b),if_pos (by decide)];rfl
 by_cases c:most>1000000
 ·rw [if_neg b,if_pos c,c0 a (.inr c),if_pos (by decide)];rfl
 rw [if_neg b,if_neg c,aj a (by omega),if_neg (by decide)];have v:=Ts.1 a;have:=uv (s0:=s) (s:=s) ⟨v,rfl,hc v⟩ (n:=most.toNat) (by omega);rw [Int.toNat_of_nonneg (by omega)] at this;rw [this];rfl
def ZR (s:Th):Th×(Int×Int):=if (Tk s).2≠0 then (zS,(0,(Tk s).2)) else fB (YB 2000 s+1) s
theorem tf {s:Th} (m:Sm s) (hc:VSt s->UB s.1.2.flatten<=2000):XQ s=some (ZR s):=by
 unfold XQ ZR;rw [tn m,Sx,TQ];by_cases a:(Tk s).2=0;rotate_left
 ·rw [if_neg a,if_pos a];rfl
 rw [if_pos a,if_neg (by simp [a])];have v:=Ts.1 a;rw [pz (s0:=s) ⟨v,rfl,hc v⟩];rfl
end
section
open Go Sv
def qf (s:Th):Int×Int:=if (Tk s).2≠0 then (0,(Tk s).2) else (((s.1.2.flatten.length*(UB s.1.2.flatten+1):Nat):Int),0)
def jg (s:Th):Int×Int:=if (Tk s).2≠0 then (0,(Tk s).2) else (((4*(UB s.1.2.flatten+s.1.1.toNat)+2*s.1.2.length:Nat):Int),0)
def d6 (s:Th):Bool×Int:=if (Tk s).2≠0 then (false,(Tk s).2) else (decide (Tp 0 s.1.2=[]),0)
theorem am {s:Th} (m:Sm s):WH s=some (if (Tk s).2≠0 then (0,(0,(Tk s).2)) else ((UB s.1.2.flatten:Int),((s.1.2.flatten.length:Int),0))):=by
 unfold WH;rw [tn m,Sx,TQ];by_cases a:(Tk s).2=0;rotate_left
 ·rw [if_neg a,if_pos a]
 have v:=Ts.1 a;rw [if_pos a,if_neg (by simp [a]),jY _ m.lv m.rs,Sx];unfold eL;rw [if_neg (by simp [WT v.lev])]
theorem kO {n c:Nat} (a:n<=24) (hc:c<=1000000):SG .i64 (n:Int) (SF .i64 (c:Int) 1)=((n*(c+1):Nat):Int):=by
 have h:n*(c+1)<=24*1000001:=FF a (by omega);rw [Tu (by omega),Si]
 ·exact (yn _ _).symm
 ·rw [<- yn];omega
theorem sZ {s:Th} (m:Sm s):W1 s=some (qf s):=by
 unfold W1 qf;rw [am m,Sx,TQ];by_cases a:(Tk s).2=0;rotate_left
 ·rw [if_pos a,if_neg a,if_pos a]
 have v:=Ts.1 a;have b:=ao v.lev;have c:=(Yk v.lev).2;rw [if_neg (show ¬ (Tk s).2≠0 by simp [a]),if_neg (show ¬ (Tk s).2≠0 by simp [a]),if_pos rfl,kO b (by omega)]
end
section
open Go Sv
theorem tu {s:Th} (m:Sm s):Xi s=some (jg s):=by
 unfold Xi jg;rw [am m,Sx,TQ];by_cases b:(Tk s).2=0;rotate_left
 ·rw [if_pos b,if_neg b,if_pos b]
 have v:=Ts.1 b;have c:=(Yk v.lev).2;have d:=v.lev.len;have e:=v.lev.B1;have f:=v.lev.B2;rw [if_neg (show ¬ (Tk s).2≠0 by simp [b]),if_neg (show ¬ (Tk s).2≠0 by simp [b]),if_pos rfl];simp only [Tq,Tn];rw [Sh (a:=(UB s.1.2.flatten:Int)) (by omega),Si (by omega),Si (by omega),Sh (by omega)];refine congrArg some (Prod.ext ?_ rfl);show _=((4*(UB s.1.2.flatten+s.1.1.toNat)+2*s.1.2.length:Nat):Int);omega
theorem p9:Us ()=some true:=by kernel_rfl
theorem pN {l:List UJ} {c:Nat} (h : ∀ r∈l,r.2.length<=c):UB l<=l.length*c:=by
 induction l with
 | nil=>simp [UB]
 | cons r l b =>
  have d:=h r (by simp);have e:=b λx a=>h x (by simp [a]);rw [U2,ci,ym];omega
theorem jk {L:List (List UJ)} {c d:Nat} (h : ∀ rs∈L,UB rs<=d) (hc:L.length<=c):UB L.flatten<=c*d:=by
 refine s8 ?_ (ol d hc);clear hc
 induction L with
 | nil=>simp [UB]
 | cons r l b =>
  have e:=h r (by simp);have f:=b λx a=>h x (by simp [a]);rw [iP,U5,ci,ym];omega
theorem jo {s:Th} (m:Sm s) (hs : ∀ rs∈s.1.2,∀ r∈rs,r.2.length<=30):YH s=some (decide (UB s.1.2.flatten<=60)):=by
 have f : ∀ rs∈s.1.2,UB rs<=1048576*30:=λrs h=>s8 (pN (hs rs h)) (ol 30 (m.rs rs h).1);have g:=jk f m.lv;unfold YH;simp only [Tq,Tn];refine UC (Un (l:=s.1.2) (σ:=Nat) (s:=((0:Int),(0:Int))) (λi a=>((a:Int),(i:Int))) (λls i a=>a+UB ls.flatten=UB s.1.2.flatten) (λ_ _ _=>(0,(((UB s.1.2.flatten:Int),(s.1.2.length:Int)),()))) 0 rfl (by have:=m.lv;omega) (by simp) (λa h => ?_) (λi rs ls a hd hi e h => ?_)) ?_
 ·simp only;rw [re,R7];have h':a+0=UB s.1.2.flatten:=h;rw [<- h'];simp
 ·rw [iP,U5] at h;have j:=bo hi;have o:=(m.rs rs j).1;refine ⟨a+UB rs,?_,by omega,rfl⟩;simp only;rw [rl e,Sc];refine UC (Un (l:=rs) (σ:=Nat) (s:=((a:Int),(0:Int))) (λk t=>((t:Int),(k:Int))) (λxs k t=>t+UB xs=a+UB rs) (λ_ _ _=>(0,((((a+UB rs:Nat):Int),(rs.length:Int)),()))) a rfl (by omega) rfl (λt c => ?_) (λk x xs t n d b c => ?_)) ?_
  ·simp only;rw [Ti,TC hi,re,R7];have h':t+0=a+UB rs:=c;rw [<- h'];simp
  ·rw [U2] at c;have p:=hs rs j x (bo d);refine ⟨t+x.2.length,?_,by omega,rfl⟩;simp only;rw [Ti,TC hi,rl b,Sc,Ti,TC hi,Ti,TC d,Sh (by omega),Tv d (by omega)]
   congr 3
  ·simp only;rw [Tv hi (by have:=m.lv;omega)]
 ·simp only;unfold S7;refine congrArg some (decide_eq_decide.2 ?_);omega
end
section
open Go Sv
theorem jy {s:Th} (h:s.1.2.length<=8):Lo s:=λi hi=>by
 unfold To;rw [List.getElem?_eq_none (by omega)];rfl
theorem pR {s:Th} (v:VSt s) (h:s.2.1=[]):Tp 0 s.1.2=[]:=by rw [<- v.due,h];rfl
theorem wP {s:Th} (v:VSt s) (h:s.2.1=[]) {i:Nat} {rs:List UJ} (hi:s.1.2[i]? = some rs):rs.length<=1:=by
 have c:=(v.lev.lev i rs hi).1;by_cases b:rs.length=2
 ·have a:=Zr (ls:=s.1.2) (i:=0) (n:=i) (by unfold To;rw [hi];exact b);rw [pR v h] at a;cases a
 ·omega
theorem p8 {s:Th} (v:VSt s) (d:UB s.1.2.flatten<=60) (hi:s.2.2<=900000) (g:s.1.2.length<=8) :
  ∃ (t:Th) (n:Nat),ZR s=(t,((n:Int),0))/\Gd s t/\UB t.1.2.flatten<=60/\t.2.1=[]/\n<=s.1.2.flatten.length*(UB s.1.2.flatten+1)/\iT s (((s.1.2.flatten.length*(UB s.1.2.flatten+1):Nat):Int))=(t,((n:Int),0))/\ZR t=(t,(0,0)):=by
 have e:(Tk s).2=0:=Ts.2 v;have G:Gd s s:=⟨v,rfl,by omega⟩;have m:=aI v;have h:=kD (UB s.1.2.flatten) v;have f:=ao v.lev;have k:s.1.2.flatten.length*(UB s.1.2.flatten+1)<=24*61:=FF f (by omega);obtain ⟨a,_,_⟩:=aL (n:=YB 2000 s+1) G d (jy g) (by omega);have l:=Yc (n:=YB 2000 s+1) (N:=UB s.1.2.flatten) G (dc _);have b:=Yc (n:=YB 2000 s+1) (N:=60) G d;have hd:=cE (N:=2000) (R:=YB 2000 s+1) G (by omega) (by omega) a;refine ⟨(UR (YB 2000 s+1) s).1,(UR (YB 2000 s+1) s).2.1.length,?_,b.2.2.1,b.2.2.2.1,hd,by omega,?_,?_⟩
 ·unfold ZR fB;rw [if_neg (by simp [e]),if_neg (by simp [a])]
 ·unfold iT;rw [aj e (by omega),if_neg (by decide),bl];have i:fB (s.1.2.flatten.length*(UB s.1.2.flatten+1)) s=fB (s.1.2.flatten.length*(UB s.1.2.flatten+1)+YB 2000 s+1) s:=dl G (dc _) h (by omega);have j:fB (YB 2000 s+1) s=fB (s.1.2.flatten.length*(UB s.1.2.flatten+1)+YB 2000 s+1) s:=dl (N:=2000) G (by omega) (by omega) (by omega);rw [i,<- j];unfold fB;rw [if_neg (by simp [a])]
 ·have c:=b.2.2.1.1;unfold ZR fB;rw [if_neg (by simp [Ts.2 c]),dw c hd,if_neg (by simp)];rfl
theorem qc {b:Int} (h:0<=b/\b<=255) : ∃ k:Nat,k<20/\TS .i64 (TA .u8 b 20)=(k:Int):=by
 obtain ⟨n,rfl⟩ : ∃ n:Nat,b=(n:Int):=⟨b.toNat,by omega⟩;refine ⟨n % 20,Nat.mod_lt _ (by decide),?_⟩;have e:TA .u8 (n:Int) 20=((n % 20:Nat):Int):=rfl;rw [e];exact si (by omega)
theorem aM {s0 s:Th} (g:Gd s0 s) (e:UB s.1.2.flatten<=60) (lo:Lo s) {n:Nat} (hi:s.2.2+n<=1000001) (h:n<=1000000):iT s (n:Int)=((UR n s).1,(((UR n s).2.1.length:Int),0))/\(UR n s).2.2=0/\Gd s0 (UR n s).1/\UB (UR n s).1.1.2.flatten<=60/\Lo (UR n s).1/\(UR n s).1.2.2<=s.2.2+n/\(UR n s).2.1.length<=n:=by
 have f:(Tk s).2=0:=Ts.2 g.1;obtain ⟨d,c,a⟩:=aL (n:=n) g e lo hi;have b:=Yc (n:=n) (N:=60) g e;refine ⟨?_,d,b.2.2.1,b.2.2.2.1,c,a,b.1⟩;unfold iT;rw [aj f (by omega),if_neg (by decide),bl];unfold fB;rw [if_neg (by simp [d])]
theorem debtFalls {x:Th×(Int×Int)} (I:x.1.1.2.length<=9223372036854775807) (J : ∀ rs∈x.1.1.2,rs.length<=9223372036854775807 /\ ∀ r∈rs,r.2.length<=9223372036854775807) (K:x.1.2.1.length<=9223372036854775807) (W:0<=x.2.1/\x.2.1<=255) (X:0<=x.2.2/\x.2.2<=255):VD x=some true:=by
 obtain ⟨s,b0,y⟩:=x;unfold VD;obtain ⟨b,e,M⟩:=iF s;rw [Z1 s I J K,Sx,e,Sx,p9];simp only [Tq,Tn,Sx];cases b with
 | true=>rfl
 | false =>
  obtain ⟨m,hs⟩:=M rfl;rw [R7,TQ];by_cases p:(Tk s).2=0;rotate_left
  ·rw [if_neg p]
  have v:=Ts.1 p;rw [if_pos p,jo m hs,Sx,UU,VG];by_cases i:UB s.1.2.flatten<=60;rotate_left
  ·rw [if_neg i]
  rw [if_pos i,TM];by_cases hi:s.2.2>900000
  ·rw [if_pos hi]
  rw [if_neg hi,TM];by_cases z:(s.1.2.length:Int)>8
  ·rw [if_pos z]
  rw [if_neg z];obtain ⟨a,ha,D⟩:=qc W;obtain ⟨c,hc,E⟩:=qc X;have k:TS .i64 (TA .u8 (Oe [b0,y] 0) 20)=(a:Int):=D;have o:TS .i64 (TA .u8 (Oe [b0,y] 1) 20)=(c:Int):=E;have l:SF .i64 (a:Int) (c:Int)=((a+c:Nat):Int):=by rw [Sh (by omega)];omega
  have G:Gd s s:=⟨v,rfl,by omega⟩;obtain ⟨Z,p2,B,p4,p5,p6,p7⟩:=aM (n:=a) G i (jy (by omega)) (by omega) (by omega);obtain ⟨q1,q2,d,q4,C,q6,q7⟩:=aM (n:=c) B p4 p5 (by omega) (by omega);obtain ⟨r1,r2,r3,r4,r5,r6,r7⟩:=aM (n:=a+c) G i (jy (by omega)) (by omega) (by omega);have f:=bO a c s;rw [if_neg (by simp [p2])] at f;have Y:=B.1.sm;have A:=d.1.sm;rw [k,o,eF m (λ_=>by omega),Sx,Z,eF Y (λ_=>by omega),Sx,q1,l,eF m (λ_=>by omega),Sx,r1];simp only
  have g:SF .i64 ((UR a s).2.1.length:Int) ((UR c (UR a s).1).2.1.length:Int)=((UR (a+c) s).2.1.length:Int):=by
   rw [Sh (by omega),f];simp only [List.length_append];omega
  rw [TQ,if_pos rfl,TQ,if_pos rfl,TQ,if_pos rfl,g,TQ,if_pos rfl];have t:(UR (a+c) s).1=(UR c (UR a s).1).1:=by rw [f]
  rw [t,fE d.1,Sx,Yg,R7];obtain ⟨u,S⟩ : ∃ u,u=(UR c (UR a s).1).1:=⟨_,rfl⟩;rw [<- S] at d q4 C q6 A ⊢;rw [(ZQ d).1,Sx,TQ];rcases qd d with ⟨e1,e2⟩ | ⟨e1,e2,e3,e4⟩ | ⟨e1,e2,e3⟩
  ·rw [if_neg (by rw [e2];decide),TK,if_pos e2]
  ·exact absurd (dW d C (by omega)) (λh=>h.elim e1 e2)
  ·obtain ⟨n,j,z1,z2,z3,z4,F,w⟩:=WU d e1;have hd:=gz d.1 w.1 z2 z3 F;have N:=eM d.1;have P:=d.1.lev.len;have mx:=w.1.sm;rw [if_pos e2,(bU d _).1,Sx,jW A,Sx,if_neg (by simp [Ts.2 d.1])];have U:(V1 u (Ut u).1).1=Wy u:=rfl;rw [U,jW mx,Sx,if_neg (by simp [Ts.2 w.1])];simp only;rw [TQ,if_pos e3,TQ,if_pos rfl,TQ,if_pos rfl];have q:SK .i64 (X2 u:Int) 1=(X2 u:Int)-1:=Sj (by omega);rw [q];have L:(bF u).2=(V1 u (Ut u).1).2.1:=rfl;rw [L] at hd;rw [TV,TK,TK];rcases hd with hd | ⟨hd,O⟩
   ·rw [if_pos (show (X2 (Wy u):Int)=(X2 u:Int)-1 by omega)];split
    ·split<;>rfl
    ·rfl
   ·rw [if_pos hd,if_pos (by rw [O])]
theorem jm {x:Th×(Int×Int)} (h:RI [(true,tJb),(true,.pair (.int .u8) (.int .u8))] x):VD x=some true:=by
 obtain ⟨⟨⟨_,c,b⟩,⟨d,_⟩,_⟩,f,g⟩:=h;exact debtFalls c (λrs a=>⟨(b rs a).1,λr e=>((b rs a).2 r e).2.1⟩) d (sY f) (sY g)
end
end Go.Proofs.YtfipnhjfbebeiabGreatDoor.Pl
