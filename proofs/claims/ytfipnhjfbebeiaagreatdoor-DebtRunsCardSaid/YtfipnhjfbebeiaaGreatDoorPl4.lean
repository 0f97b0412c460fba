/- Functions of the program and of the specification as plain functions, and laws about them. No condition. -/
import Derived.Test.YtfipnhjfbebeiaaGreatDoorPl3
import Derived.KernelRfl
set_option linter.all false
open List renaming flatten_cons->kd, length_cons->ci, mem_of_getElem?->bo
open Nat renaming add_mul->yo, le_refl->eb, le_trans->ul, mul_le_mul->F2, mul_le_mul_right->s7, zero_add->ee
open Int renaming natCast_mul->yr, toNat_natCast->bl
namespace Go.Proofs.YtfipnhjfbebeiaaGreatDoor.Pl
section
open Go Sv
def bf (n:Nat) (s:Th):Th×(Int×Int):=if (Uf n s).2.2≠0 then (zS,(0,(Uf n s).2.2)) else ((Uf n s).1,(((Uf n s).2.1.length:Int),0))
abbrev uM:=Int×(List (List UO)×(List Job×Int))
abbrev wv:=uM×((Int×Int)×(Int×(uM×Int)))
def uL (s:Th) (n m:Int):wv:=(po s,((0,0),(n,(po s,m))))
def DAt (s0:Th) (T:Th×(Nat×Int)) (k n:Nat) (m:Int) (s:Th):Prop :=
 Gd s0 s/\n+k<=1100000/\T=((Uf k s).1,(n+(Uf k s).2.1.length,(Uf k s).2.2))/\((m=(k:Int)/\0<k)\/(m = -1-(n:Int)/\Yd 2000 s<k))
theorem DAt.pos {s0 s:Th} {T:Th×(Nat×Int)} {k n:Nat} {m:Int} (a:DAt s0 T k n m s) : ∃ b,k=b+1:=by
 obtain ⟨_,_,_,h⟩:=a;exact ⟨k-1,by omega⟩
theorem DAt.none {s0 s:Th} {T:Th×(Nat×Int)} {k n:Nat} {m:Int} (a:DAt s0 T k n m s) (e:Vj s=4):T=(s,(n,0)):=by
 obtain ⟨b,rfl⟩:=a.pos;rw [a.2.2.1];simp [Uf,e]
theorem DAt.fail {s0 s:Th} {T:Th×(Nat×Int)} {k n:Nat} {m:Int} (a:DAt s0 T k n m s) (c:Vj s≠4) (b:Vj s≠0):T=(s,(n,Vj s)):=by
 obtain ⟨d,rfl⟩:=a.pos;rw [a.2.2.1];simp [Uf,c,b]
theorem DAt.step {s0 s:Th} {T:Th×(Nat×Int)} {k n:Nat} {m:Int} (a:DAt s0 T k n m s) (e:Vj s=0) :
  (m-1=0/\T=(Xk s,(n+1,0)))\/(m-1≠0 /\ ∃ b,DAt s0 T b (n+1) (m-1) (Xk s)):=by
 obtain ⟨b,rfl⟩:=a.pos;obtain ⟨g,o,i,c⟩:=a;obtain ⟨_,_,_,_,_,_,_,h⟩:=XQ g e;have p:=(aO g g.2.2 e).1
 have d:T=((Uf b (Xk s)).1,(n+1+(Uf b (Xk s)).2.1.length,(Uf b (Xk s)).2.2)):=by
  rw [i];simp [Uf,e];omega
 by_cases f:m-1=0
 ·refine .inl ⟨f,?_⟩;have l:b=0:=by omega
  rw [d,l];rfl
 ·refine .inr ⟨f,b,h,by omega,d,?_⟩;rcases c with ⟨c,j⟩ | ⟨c,j⟩
  ·exact .inl ⟨by omega,by omega⟩
  ·exact .inr ⟨by omega,by omega⟩
def DEnd (T:Th×(Nat×Int)) (r:Nat×(wv×Unit)):Prop :=
 (T.2.2=0/\(r.2.1.2.1.1=0\/r.2.1.2.1.1=1)/\r.2.1.2.2.1=(T.2.1:Int)/\r.2.1.2.2.2.1=po T.1)\/(T.2.2≠0/\r.2.1.2.1=(2,T.2.2))
theorem DEnd.fin {T:Th×(Nat×Int)} {r:Nat×(wv×Unit)} (h:DEnd T r) :
  (br (Oa r.2.1.2.1.1 0) (λ_=>some ((((r.2.1.2.2.2.1.1,r.2.1.2.2.2.1.2.1),r.2.1.2.2.2.1.2.2),(r.2.1.2.2.1,(0:Int))))) λ_=>br (Oa r.2.1.2.1.1 1) (λ_=>some ((((r.2.1.2.2.2.1.1,r.2.1.2.2.2.1.2.1),r.2.1.2.2.2.1.2.2),(r.2.1.2.2.1,0)))) λ_=>some ((((0,[]),([],0)),(0,r.2.1.2.1.2))))=some (if T.2.2≠0 then (zS,(0,T.2.2)) else (T.1,((T.2.1:Int),0))):=by
 rcases h with ⟨a,h2,b,c⟩ | ⟨a,h2⟩
 ·rw [if_neg (by simp [a]),c,b,TK,TK];rcases h2 with h2 | h2
  ·rw [if_pos h2];rfl
  ·rw [if_neg (by rw [h2];decide),if_pos h2];rfl
 ·rw [if_pos a,h2,TK,if_neg (show ¬ ((2:Int)=0) by decide),TK,if_neg (show ¬ ((2:Int)=1) by decide)];rfl
theorem lA {s0 s:Th} {T:Th×(Nat×Int)} {k:Nat} {m:Int} (j:m≠0) (a:DAt s0 T k 0 m s):Wq (s,m)=some (if T.2.2≠0 then (zS,(0,T.2.2)) else (T.1,((T.2.1:Int),0))):=by
 unfold Wq;rw [TK,if_neg j];refine gP (λd => ∃ k t n m,d=uL t (n:Nat) m/\DAt s0 T k n m t) (DEnd T) (λd=>Yd 2000 ((d.1.1,d.1.2.1),d.1.2.2)) ⟨k,s,0,m,rfl,a⟩ ?_ ?_ ?_
 ·show Yd 2000 s<_;have:=ba a.1.1;omega
 ·rintro d ⟨k,t,n,m,rfl,a⟩;have b:=a.1;have l:SF .i64 (n:Int) 1=((n+1:Nat):Int):=Tu (by have:=a.2.1;omega);have hs:SK .i64 m 1=m-1:=Sj (by have:=a.2.1;have:=a.2.2.2;omega);rcases qy b with ⟨e1,e2⟩ | ⟨e1,e2,e3,c⟩ | ⟨e1,e2,e3⟩
  ·refine .inr ⟨(0,((po t,((1,0),(uL t n m).2.2)),())),?_,.inl ⟨by rw [a.none e1],.inr rfl,by rw [a.none e1];rfl,by rw [a.none e1];rfl⟩⟩;show bd (U9 t) _=_;rw [(X6 b).1,Sx,TK,if_pos e2];rfl
  ·refine .inr ⟨(0,((((0,([],([],0))):uM),((2,Vj t),(uL t n m).2.2)),())),?_,.inr ⟨by rw [a.fail e1 e2];exact e2,by rw [a.fail e1 e2]⟩⟩;show bd (U9 t) _=_;rw [(X6 b).1,Sx,TK,if_neg e3,TK];rcases c with c | ⟨c,e5⟩
   ·rw [if_neg (by rw [c];exact e2),TQ,if_neg (by rw [c];exact e2),c]
   ·rw [if_pos c];show bd (Uu (t,(U1 t).1)) _=_;rw [(Zy b _).1,Sx,TQ,if_neg (by rw [e5];exact e2),e5]
  ·have p:=(aO b b.2.2 e1).1;have i : ∀ {γ:Type} (x y:Unit->Option γ),br (Oa (SK .i64 m 1) 0) x y=if m-1=0 then x () else y ():=λx y=>by rw [hs,TK]
   have key : ∀ {R},R=(if m-1=0 then some (LR.dn (1,(uL (Xk t) ((n+1:Nat):Int) (m-1),()))) else some (LR.nx (uL (Xk t) ((n+1:Nat):Int) (m-1))))->(∃ s',R=some (.nx s')/\(∃ k t n m,s'=uL t (n:Nat) m/\DAt s0 T k n m t)/\Yd 2000 ((s'.1.1,s'.1.2.1),s'.1.2.2)<Yd 2000 t)\/(∃ x,R=some (.dn x)/\DEnd T x):=fun {R} f=>by
    rcases a.step e1 with ⟨g,e⟩ | ⟨g,o,e⟩
    ·rw [if_pos g] at f;exact .inr ⟨_,f,.inl ⟨by rw [e],.inl rfl,by rw [e];rfl,by rw [e];rfl⟩⟩
    ·rw [if_neg g] at f;exact .inl ⟨_,f,⟨o,_,_,_,rfl,e⟩,by show Yd 2000 (Xk t)<_;omega⟩
   refine key ?_;show bd (U9 t) _=_;rw [(X6 b).1,Sx,TK,if_neg (by rw [e2];decide),TK,if_pos e2];show bd (Uu (t,(U1 t).1)) _=_;rw [(Zy b _).1,Sx,TQ,if_pos e3];refine (i _ _).trans ?_;rw [<- l,<- hs];rfl
 ·intro r h;rw [gQ];split
  ·exact h.fin
  ·exact h.fin
theorem vG {s0 s:Th} (g:Gd s0 s) {n:Nat} (a:n<=1000000):Wq (s,(n:Int))=some (bf n s):=by
 by_cases h:n=0
 ·subst h;rfl
 ·have:=lA (s0:=s0) (s:=s) (T:=((Uf n s).1,(0+(Uf n s).2.1.length,(Uf n s).2.2))) (k:=n) (m:=(n:Int)) (by omega) ⟨g,by omega,rfl,.inl ⟨rfl,by omega⟩⟩;rw [this];simp only [ee];rfl
theorem qX {s0 s:Th} (g:Gd s0 s):Wq (s,-1)=some (bf (Yd 2000 s+1) s):=by
 have a:=ba g.1;have:=lA (s0:=s0) (s:=s) (T:=((Uf (Yd 2000 s+1) s).1,(0+(Uf (Yd 2000 s+1) s).2.1.length,(Uf (Yd 2000 s+1) s).2.2))) (k:=Yd 2000 s+1) (m := -1) (by omega) ⟨g,by omega,rfl,.inr ⟨by omega,by omega⟩⟩;rw [this];simp only [ee];rfl
theorem dT {s0 s:Th} {N R Q:Nat} (g:Gd s0 s) (a:UL s.1.2.flatten<=N) (c:Yd N s<=R) (b:Yd N s<=Q):bf R s=bf Q s:=by
 have h : ∀ k,Uf (Yd N s+k) s=Uf (Yd N s) s:=iX g a (eb _);unfold bf;rw [show R=Yd N s+(R-Yd N s) by omega,show Q=Yd N s+(Q-Yd N s) by omega,h,h]
def da (s:Th) (most:Int):Th×(Int×Int):=if Yg s most≠0 then (zS,(0,Yg s most)) else bf most.toNat s
theorem td {s:Th} (m:Sm s) (hc:VSt s->UL s.1.2.flatten<=2000) (most:Int):XO (s,most)=some (da s most):=by
 unfold XO da;rw [uK m,Sx,TQ];by_cases a:(Tk s).2=0;rotate_left
 ·rw [if_neg a,aX a,if_pos a];rfl
 rw [if_pos a,TP,TM];by_cases b:most<0
 ·rw [if_pos b,Yw a (.inl b),if_pos (by decide)];rfl
 by_cases c:most>1000000
 ·rw [if_neg b,if_pos c,Yw a (.inr c),if_pos (by decide)];rfl
 rw [if_neg b,if_neg c,aW a (by omega),if_neg (by decide)];have v:=Ts.1 a;have:=vG (s0:=s) (s:=s) ⟨v,rfl,hc v⟩ (n:=most.toNat) (by omega);rw [Int.toNat_of_nonneg (by omega)] at this;rw [this];rfl
def Yq (s:Th):Th×(Int×Int):=if (Tk s).2≠0 then (zS,(0,(Tk s).2)) else bf (Yd 2000 s+1) s
theorem gw {s:Th} (m:Sm s) (hc:VSt s->UL s.1.2.flatten<=2000):V2 s=some (Yq s):=by
 unfold V2 Yq;rw [uK m,Sx,TQ];by_cases a:(Tk s).2=0;rotate_left
 ·rw [if_neg a,if_pos a];rfl
 rw [if_pos a,if_neg (by simp [a])];have v:=Ts.1 a;rw [qX (s0:=s) ⟨v,rfl,hc v⟩];rfl
end
section
open Go Sv
abbrev tY:=Int×(Int×(Int×(uM×uM)))
def vA (s:Th) (n:Nat):tY:=(0,((n:Int),(0,(po zS,po s))))
theorem eP {s0 s:Th} (g:Gd s0 s) {n0:Nat} (q:n0<=1000000) {γ:Type} {K:Nat×(tY×Unit)->Option γ} {f:tY->Option (LR tY (Nat×(tY×Unit)))}
  (e : ∀ s1:tY,f s1=br (S8 s1.2.1 (n0:Int)) (λ_=>bd (U6 (((s1.2.2.2.2.1,s1.2.2.2.2.2.1),s1.2.2.2.2.2.2))) λi=>br (Oa i.2 4) (λ_=>some (.dn ((1,((s1.2.1,(s1.2.1,(0,(s1.2.2.2.2,s1.2.2.2.2)))),()))))) λ_=>br (Ry i.2 0) (λ_=>some (.dn ((1,((0,(s1.2.1,(i.2,((0,([],([],0))),s1.2.2.2.2)))),()))))) λ_=>bd (VN ((((s1.2.2.2.2.1,s1.2.2.2.2.2.1),s1.2.2.2.2.2.2),i.1))) λc=>br (Ry c.2.2 0) (λ_=>some (.dn ((1,((0,(s1.2.1,(c.2.2,((0,([],([],0))),s1.2.2.2.2)))),()))))) λ_=>some (.nx ((s1.1,(SF .i64 s1.2.1 1,(s1.2.2.1,(s1.2.2.2.1,(c.1.1.1,(c.1.1.2,c.1.2))))))))) λ_=>some (.dn ((0,(s1,())))))
  {R:Option γ} (m : ∀ r:Nat×(tY×Unit),((r.1=0/\bf n0 s=(((r.2.1.2.2.2.2.1,r.2.1.2.2.2.2.2.1),r.2.1.2.2.2.2.2.2),((n0:Int),0)))\/(r.1≠0/\bf n0 s=(((r.2.1.2.2.2.1.1,r.2.1.2.2.2.1.2.1),r.2.1.2.2.2.1.2.2),(r.2.1.1,r.2.1.2.2.1))))->K r=R):bd (loop f (vA s 0)) K=R:=by
 refine gP (λj => ∃ k t n,j=vA t n/\Gd s0 t/\n+k=n0/\bf n0 s=(if (Uf k t).2.2≠0 then (zS,(0,(Uf k t).2.2)) else ((Uf k t).1,(((n+(Uf k t).2.1.length:Nat):Int),0))))
  (λr=>(r.1=0/\bf n0 s=(((r.2.1.2.2.2.2.1,r.2.1.2.2.2.2.2.1),r.2.1.2.2.2.2.2.2),((n0:Int),0)))\/(r.1≠0/\bf n0 s=(((r.2.1.2.2.2.1.1,r.2.1.2.2.2.1.2.1),r.2.1.2.2.2.1.2.2),(r.2.1.1,r.2.1.2.2.1)))) (λj=>((n0:Int)-j.2.1).toNat) ⟨n0,s,0,rfl,g,by omega,by simp only [ee];rfl⟩ ?_ ?_ m
 ·show ((n0:Int)-((0:Nat):Int)).toNat<_;omega
 ·rintro j ⟨k,t,n,rfl,a,u,d⟩;cases k with
  | zero =>
   refine .inr ⟨(0,(vA t n,())),?_,.inl ⟨rfl,?_⟩⟩
   ·rw [e];show br (S8 (n:Int) (n0:Int)) _ _=_;rw [TP,if_neg (by omega)]
   ·rw [d];show (if (0:Int)≠0 then _ else (t,(((n+0:Nat):Int),(0:Int))))=_
    rw [if_neg (by decide),show n+0=n0 by omega];rfl
  | succ k =>
   rcases qy a with ⟨e1,e2⟩ | ⟨e1,e2,e3,b⟩ | ⟨e1,e2,e3⟩
   ·refine .inr ⟨(1,(((n:Int),((n:Int),(0,(po t,po t)))),())),?_,.inr ⟨λh=>absurd h (by simp),?_⟩⟩
    ·rw [e];show br (S8 (n:Int) (n0:Int)) (λ_=>bd (U6 t) _) _=_;rw [TP,if_pos (by omega),(X6 a).2,Sx,TK,if_pos e2];rfl
    ·rw [d];simp [Uf,e1];rfl
   ·refine .inr ⟨(1,((0,((n:Int),(Vj t,(po zS,po t)))),())),?_,.inr ⟨λh=>absurd h (by simp),?_⟩⟩
    ·rw [e];show br (S8 (n:Int) (n0:Int)) (λ_=>bd (U6 t) _) _=_;rw [TP,if_pos (by omega),(X6 a).2,Sx,TK,if_neg e3,TQ];rcases b with b | ⟨b,e5⟩
     ·rw [if_neg (by rw [b];exact e2),b];rfl
     ·rw [if_pos b];show bd (VN (t,(U1 t).1)) _=_;rw [(Zy a _).2,Sx,TQ,if_neg (by rw [e5];exact e2),e5];rfl
    ·rw [d];simp [Uf,e1,e2];rfl
   ·obtain ⟨_,_,_,_,_,_,_,l⟩:=XQ a e1;have p:SF .i64 (n:Int) 1=((n+1:Nat):Int):=Tu (by omega);refine .inl ⟨vA (Xk t) (n+1),?_,⟨k,Xk t,n+1,rfl,l,by omega,?_⟩,?_⟩
    ·rw [e];show br (S8 (n:Int) (n0:Int)) (λ_=>bd (U6 t) _) _=_;rw [TP,if_pos (by omega),(X6 a).2,Sx,TK,if_neg (by rw [e2];decide),TQ,if_pos e2];show bd (VN (t,(U1 t).1)) _=_;rw [(Zy a _).2,Sx,TQ,if_pos e3];unfold vA;rw [<- p];rfl
    ·rw [d];have o:((n+1+(Uf k (Xk t)).2.1.length:Nat):Int)=((n+(ap t::(Uf k (Xk t)).2.1).length:Nat):Int):=by simp only [ci];omega
     rw [o];simp only [Uf,e1,ne_eq,not_true_eq_false,if_false,show ¬ ((0:Int)=4) by decide]
    ·show ((n0:Int)-((n+1:Nat):Int)).toNat<((n0:Int)-(n:Int)).toNat;omega
theorem gh {s:Th} (m:Sm s) (hc:VSt s->UL s.1.2.flatten<=2000) (most:Int):Wx (s,most)=some (da s most):=by
 unfold Wx da;rw [qR m,Sx,TK];by_cases a:(Tk s).2=0;rotate_left
 ·rw [if_neg a,TQ,if_neg a,aX a,if_pos a];rfl
 rw [if_pos a,TP,TM];by_cases b:most<0
 ·rw [if_pos b,Yw a (.inl b),if_pos (by decide)];rfl
 by_cases c:most>1000000
 ·rw [if_neg b,if_pos c,Yw a (.inr c),if_pos (by decide)];rfl
 rw [if_neg b,if_neg c,TQ,if_pos a,aW a (by omega),if_neg (by decide)];have v:=Ts.1 a;obtain ⟨n0,rfl⟩ : ∃ n0:Nat,most=(n0:Int):=⟨most.toNat,by omega⟩;rw [bl];refine eP (s0:=s) ⟨v,rfl,hc v⟩ (n0:=n0) (by omega) (λs1=>rfl) λr f => ?_;rw [gQ];rcases f with ⟨d,e⟩ | ⟨d,e⟩
 ·rw [if_pos d,e]
 ·rw [if_neg d,e]
def dN (s:Th):Int×Int:=if (Tk s).2≠0 then (0,(Tk s).2) else (((s.1.2.flatten.length*(UL s.1.2.flatten+1):Nat):Int),0)
def dh (s:Th):Bool×Int:=if (Tk s).2≠0 then (false,(Tk s).2) else (decide (Tq 0 s.1.2=[]),0)
theorem dw {s:Th} (m:Sm s):WJ s=some (if (Tk s).2≠0 then (0,(0,(Tk s).2)) else ((UL s.1.2.flatten:Int),((s.1.2.flatten.length:Int),0))):=by
 unfold WJ;rw [uK m,Sx,TQ];by_cases a:(Tk s).2=0;rotate_left
 ·rw [if_neg a,if_pos a]
 have v:=Ts.1 a;rw [if_pos a,if_neg (by simp [a]),jy _ m.lv m.rs,Sx];unfold dv;rw [if_neg (by simp [WY v.lev])]
theorem dO {n c:Nat} (a:n<=24) (hc:c<=1000000):SG .i64 (n:Int) (SF .i64 (c:Int) 1)=((n*(c+1):Nat):Int):=by
 have h:n*(c+1)<=24*1000001:=F2 a (by omega);rw [Tu (by omega),Si]
 ·exact (yr _ _).symm
 ·rw [<- yr];omega
theorem tZ {s:Th} (m:Sm s):W0 s=some (dN s):=by
 unfold W0 dN;rw [dw m,Sx,TQ];by_cases a:(Tk s).2=0;rotate_left
 ·rw [if_pos a,if_neg a,if_pos a]
 have v:=Ts.1 a;have b:=Zm v.lev;have c:=(Yj v.lev).2;rw [if_neg (show ¬ (Tk s).2≠0 by simp [a]),if_neg (show ¬ (Tk s).2≠0 by simp [a]),if_pos rfl,dO b (by omega)]
theorem dJ {s:Th} (m:Sm s):Wo s=some (dN s):=by
 unfold Wo dN;rw [qR m,Sx,TQ];by_cases a:(Tk s).2=0;rotate_left
 ·rw [if_neg a,if_pos a]
 have v:=Ts.1 a;have b:=Zm v.lev;have c:=(Yj v.lev).2;rw [if_pos a,if_neg (show ¬ (Tk s).2≠0 by simp [a]),iQ v.lev,Sx,dO b (by omega)]
end
section
open Go Sv
theorem eI {s:Th} (m:Sm s) (hc:VSt s->UL s.1.2.flatten<=2000):WM s=some (Yq s):=by
 unfold WM;rw [dJ m,Sx,TQ];unfold dN Yq;by_cases a:(Tk s).2=0;rotate_left
 ·rw [if_pos a,if_pos a,if_neg a];rfl
 have v:=Ts.1 a;have c:=Zm v.lev;have b:=hc v;rw [if_neg (show ¬ (Tk s).2≠0 by simp [a]),if_neg (show ¬ (Tk s).2≠0 by simp [a]),if_pos rfl,gh m hc,Sx];have h:s.1.2.flatten.length*(UL s.1.2.flatten+1)<=24*2001:=F2 c (by omega);have d : ¬ ((((s.1.2.flatten.length*(UL s.1.2.flatten+1):Nat):Int))<0\/(((s.1.2.flatten.length*(UL s.1.2.flatten+1):Nat):Int))>1000000):=by omega
 unfold da;rw [aW a d,if_neg (by decide),bl];have G:Gd s s:=⟨v,rfl,b⟩;have e:=ke (UL s.1.2.flatten) v;have f:bf (s.1.2.flatten.length*(UL s.1.2.flatten+1)) s=bf (s.1.2.flatten.length*(UL s.1.2.flatten+1)+Yd 2000 s+1) s:=dT G (eb _) e (by omega);have g:bf (Yd 2000 s+1) s=bf (s.1.2.flatten.length*(UL s.1.2.flatten+1)+Yd 2000 s+1) s:=dT (N:=2000) G b (by omega) (by omega);show some (bf (s.1.2.flatten.length*(UL s.1.2.flatten+1)) s)=_;rw [f,g]
theorem qY:Ve ()=some true:=by kernel_rfl
theorem py {l:List UO} {c:Nat} (h : ∀ r∈l,r.2.length<=c):UL l<=l.length*c:=by
 induction l with
 | nil=>simp [UL]
 | cons r l b =>
  have d:=h r (by simp);have e:=b λx a=>h x (by simp [a]);rw [Vk,ci,yo];omega
theorem kH {L:List (List UO)} {c d:Nat} (h : ∀ rs∈L,UL rs<=d) (hc:L.length<=c):UL L.flatten<=c*d:=by
 refine ul ?_ (s7 d hc);clear hc
 induction L with
 | nil=>simp [UL]
 | cons r l b =>
  have e:=h r (by simp);have f:=b λx a=>h x (by simp [a]);rw [kd,U8,ci,yo];omega
theorem kI {s:Th} (m:Sm s) (hs : ∀ rs∈s.1.2,∀ r∈rs,r.2.length<=30):YI s=some (decide (UL s.1.2.flatten<=60)):=by
 have f : ∀ rs∈s.1.2,UL rs<=1048576*30:=λrs h=>ul (py (hs rs h)) (s7 30 (m.rs rs h).1);have g:=kH f m.lv;unfold YI;simp only [To,Tn];refine UH (Uw (l:=s.1.2) (σ:=Nat) (s:=((0:Int),(0:Int))) (λi a=>((a:Int),(i:Int))) (λls i a=>a+UL ls.flatten=UL s.1.2.flatten) (λ_ _ _=>(0,(((UL s.1.2.flatten:Int),(s.1.2.length:Int)),()))) 0 rfl (by have:=m.lv;omega) (by simp) (λa h => ?_) (λi rs ls a hd hi e h => ?_)) ?_
 ·simp only;rw [re,R7];have h':a+0=UL s.1.2.flatten:=h;rw [<- h'];simp
 ·rw [kd,U8] at h;have j:=bo hi;have o:=(m.rs rs j).1;refine ⟨a+UL rs,?_,by omega,rfl⟩;simp only;rw [rl e,Sc];refine UH (Uw (l:=rs) (σ:=Nat) (s:=((a:Int),(0:Int))) (λk t=>((t:Int),(k:Int))) (λxs k t=>t+UL xs=a+UL rs) (λ_ _ _=>(0,((((a+UL rs:Nat):Int),(rs.length:Int)),()))) a rfl (by omega) rfl (λt c => ?_) (λk x xs t n d b c => ?_)) ?_
  ·simp only;rw [Ti,TC hi,re,R7];have h':t+0=a+UL rs:=c;rw [<- h'];simp
  ·rw [Vk] at c;have p:=hs rs j x (bo d);refine ⟨t+x.2.length,?_,by omega,rfl⟩;simp only;rw [Ti,TC hi,rl b,Sc,Ti,TC hi,Ti,TC d,Sh (by omega),Tv d (by omega)]
   congr 3
  ·simp only;rw [Tv hi (by have:=m.lv;omega)]
 ·simp only;unfold S7;refine congrArg some (decide_eq_decide.2 ?_);omega
theorem dS {s0 s:Th} (g:Gd s0 s) (n:Nat):(bf n s).1=zS\/VSt (bf n s).1:=by
 unfold bf;split
 ·exact .inl rfl
 ·exact .inr (Zw (n:=n) g g.2.2).2.2.1.1
theorem iY {s:Th} (hc:VSt s->UL s.1.2.flatten<=2000) (g:Int):(da s g).1=zS\/VSt (da s g).1:=by
 unfold da;by_cases h:Yg s g=0
 ·rw [if_neg (by simp [h])];have v:=(j9 h).1;exact dS (s0:=s) ⟨v,rfl,hc v⟩ _
 ·rw [if_pos h];exact .inl rfl
theorem cU {s:Th} (hc:VSt s->UL s.1.2.flatten<=2000):(Yq s).1=zS\/VSt (Yq s).1:=by
 unfold Yq;by_cases h:(Tk s).2=0
 ·rw [if_neg (by simp [h])];have v:=Ts.1 h;exact dS (s0:=s) ⟨v,rfl,hc v⟩ _
 ·rw [if_pos h];exact .inl rfl
theorem debtRuns (x:Th×Int):WR x=some true:=by
 obtain ⟨s,most⟩:=x;unfold WR;obtain ⟨b,e,c⟩:=iI s;rw [e,Sx,qY];cases b with
 | true=>rfl
 | false =>
  obtain ⟨m,hs⟩:=c rfl;rw [R7,kI m hs,Sx,UQ,VF];by_cases a:UL s.1.2.flatten<=60;rotate_left
  ·rw [if_neg a];rfl
  rw [if_pos a];have hc:VSt s->UL s.1.2.flatten<=2000:=λ_=>by omega
  rw [TM,TN,td m hc,gh m hc];simp only [Sx];rw [aJ (iY hc most),Sx,UQ,Sc,TQ,if_pos rfl,TQ,if_pos rfl,gw m hc,eI m hc];simp only [Sx];rw [aJ (cU hc),Sx,Sc,TK,if_pos rfl,TK,if_pos rfl];split
  ·split<;>rfl
  ·rfl
end
end Go.Proofs.YtfipnhjfbebeiaaGreatDoor.Pl
