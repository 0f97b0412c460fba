/- Functions of the program and of the specification as plain functions, and laws about them. No condition. -/
import Derived.Test.YtfilfloanndddaaGreatPl2
import Derived.KernelRfl
set_option linter.all false
namespace Go.Proofs.YtfilfloanndddaaGreat.Pl
section
open Go Go.Proofs.YtfilfloanndddaaGreat.Sv
theorem Zd {α β γ:Type} {f:α->Option (LR α β)} {K:β->Option γ} {R:Option γ} (Inv:α->Prop) (Q:β->Prop) (m:α->Nat) {s:α} (hs:Inv s) (b:m s<18446744073709551616)
  (step : ∀ s,Inv s->(∃ s',f s=some (.nx s')/\Inv s'/\m s'<m s)\/(∃ x,f s=some (.dn x)/\Q x)) (a : ∀ x,Q x->K x=R):bd (loop f s) K=R:=by
 obtain ⟨x,e,q⟩:=Rr Inv Q m hs b step;rw [e];exact a x q
theorem Ze {β:Type} (n:Nat) (x y:Unit->Option β):br (neq n 0) x y=if n=0 then x () else y ():=by
 rw [SM]
def zU:Xy:=(0,(0,(0,(0,(0,(0,(0,(0,(0,(0,(0,(0,(0,(0,0))))))))))))))
def aL (g:Int) (u:Xy):Xy:=(u.1,(Rp .i64 g u.1,u.2.2))
def Wl (s:TA) (g:Int):Int:=if (TE s).2≠0 then (TE s).2 else if g<0\/g>1000000 then 7 else 0
def YB (s:TA) (g:Int):TA×(Xy×Int):=if Wl s g≠0 then (zS,(zU,Wl s g)) else if (Tn g.toNat s).2.2≠0 then (zS,(zU,(Tn g.toNat s).2.2)) else ((Tn g.toNat s).1,(aL g (U3 zU (Tn g.toNat s).2.1),0))
def ZQ (s:TA) (g:Int):List Int×Int:=if Wl s g≠0 then ([],Wl s g) else if (Tn g.toNat s).2.2≠0 then ([],(Tn g.toNat s).2.2) else ((Tn g.toNat s).2.1.map (·.1),0)
def fO (s:TA) (e:Int) (u:Xy):(Int×(List (List TY)×(List Job×(Int×Int))))×Xy:=((s.1.1,(s.1.2,(s.2.1,(s.2.2,e)))),u)
def iG (s:TA) (e:Int) (l:List Int) (u:Xy):(Int×(List (List TY)×(List Job×(Int×Int))))×(List Int×Xy):=((s.1.1,(s.1.2,(s.2.1,(s.2.2,e)))),(l,u))
theorem nS {s0 s:TA} (g:Gd s0 s):VK s=4/\(To s).2=4\/VK s≠4/\VK s≠0/\(To s).2≠4/\((To s).2=VK s\/(To s).2=0/\(Uw s (To s).1).2.2=VK s)\/VK s=0/\(To s).2=0/\(Uw s (To s).1).2.2=0:=by
 by_cases a:VK s=4
 ·exact .inl ⟨a,(bm g a).1⟩
 ·by_cases b:VK s=0
  ·have:=ZA g b;exact .inr (.inr ⟨b,this.1,this.2.2⟩)
  ·refine .inr (.inl ⟨a,b,?_⟩);unfold VK at a b ⊢;by_cases c:(To s).2≠0
   ·rw [if_pos c] at a ⊢;exact ⟨a,.inl rfl⟩
   ·have d:(To s).2=0:=by simpa using c
    rw [if_neg c];rw [d];exact ⟨by decide,.inr ⟨rfl,rfl⟩⟩
theorem oE {u:Xy} {x:Int×Bool} (h:0<=u.1/\u.1<=1000000):(Xc u x).1=u.1+1:=by
 show Rl .i64 u.1 1=_;exact R9 (by omega)
def At (s0:TA) (g:Int) (T:TA×((List Int×Xy)×Int)) (k:Nat) (s:TA) (l:List Int) (u:Xy):Prop:=Gd s0 s/\0<=u.1/\u.1+k=g/\g<=1000000/\(l.length:Int)=u.1/\T=((Tn k s).1,((l++(Tn k s).2.1.map (·.1),U3 u (Tn k s).2.1),(Tn k s).2.2))
theorem At.step {s0 s:TA} {g:Int} {T:TA×((List Int×Xy)×Int)} {k:Nat} {l:List Int} {u:Xy} (a:At s0 g T (k+1) s l u) (e:VK s=0):At s0 g T k (Wj s) (l++[(Wk s).1]) (Xc u (Wk s)):=by
 obtain ⟨c,h,i,d,j,f⟩:=a;obtain ⟨_,_,_,_,_,_,_,b⟩:=XB c e;have m:=oE (x:=Wk s) (show 0<=u.1/\u.1<=1000000 by omega);refine ⟨b,by omega,by omega,d,by simp;omega,?_⟩;rw [f];simp only [Tn,e,ne_eq,not_true_eq_false,if_false,List.map_cons,List.append_assoc,List.cons_append,List.nil_append];rfl
theorem At.none {s0 s:TA} {g:Int} {T:TA×((List Int×Xy)×Int)} {k:Nat} {l:List Int} {u:Xy} (a:At s0 g T k s l u) (e:VK s=4):T=(s,((l,u),0)):=by
 rw [a.2.2.2.2.2];cases k<;>simp [Tn,e,U3]
theorem At.fail {s0 s:TA} {g:Int} {T:TA×((List Int×Xy)×Int)} {k:Nat} {l:List Int} {u:Xy} (a:At s0 g T (k+1) s l u) (c:VK s≠4) (b:VK s≠0):T=(s,((l,u),VK s)):=by
 rw [a.2.2.2.2.2];simp [Tn,c,b,U3]
theorem At.last {s0 s:TA} {g:Int} {T:TA×((List Int×Xy)×Int)} {l:List Int} {u:Xy} (a:At s0 g T 0 s l u):T=(s,((l,u),0)):=by
 rw [a.2.2.2.2.2];simp [Tn,U3]
theorem au {s0 s:TA} (g:Gd s0 s) (e:VK s=0) : ∃ n:Nat,(To s).1=(n:Int)/\n<12/\(To s).1.toNat=n:=by
 obtain ⟨n,_,a,b,_⟩:=XB g e;exact ⟨n,a,b,by rw [show (To s).1=(n:Int) from a];simp⟩
theorem ZU {β:Type} {a b:Nat} (h:a<b) (k:Unit->Option β):gd (KC a b) k=k ():=by
 have:KC a b=true:=by unfold KC;simpa using h
 rw [this];rfl
theorem md {u:Xy} {s:TA} {n:Nat} (h:(To s).1.toNat=n) (a:(Uw s (To s).1).2.1=true):Xc u (Wk s)=(Rl .i64 u.1 1,(u.2.1,(Rl .i64 u.2.2.1 1,Yj u.2.2.2 n n))):=by
 unfold Xc Wk;rw [a,if_pos rfl,h]
theorem mc {u:Xy} {s:TA} {n:Nat} (h:(To s).1.toNat=n) (a:(Uw s (To s).1).2.1=false):Xc u (Wk s)=(Rl .i64 u.1 1,(u.2.1,(u.2.2.1,Yj u.2.2.2 n n))):=by
 unfold Xc Wk;rw [a,if_neg (by simp),h]
theorem aF {γ:Type} {t:TA} {u:Xy} {g:Int} {n:Nat} (c:0<=u.1/\u.1<=1000000) (e3:(Uw t (To t).1).2.2=0) (n3:(To t).1.toNat=n) (D N:Int->Xy->Option γ) :
  (br (Uw t (To t).1).2.1 (λ_=>br (RR (Rl .i64 u.1 1) g) (λ_=>D (Uw t (To t).1).2.2 (Rl .i64 u.1 1,(u.2.1,(Rl .i64 u.2.2.1 1,Yj u.2.2.2 n n)))) λ_=>N (Uw t (To t).1).2.2 (Rl .i64 u.1 1,(u.2.1,(Rl .i64 u.2.2.1 1,Yj u.2.2.2 n n)))) λ_=>br (RR (Rl .i64 u.1 1) g) (λ_=>D (Uw t (To t).1).2.2 (Rl .i64 u.1 1,(u.2.1,(u.2.2.1,Yj u.2.2.2 n n)))) λ_=>N (Uw t (To t).1).2.2 (Rl .i64 u.1 1,(u.2.1,(u.2.2.1,Yj u.2.2.2 n n))))=if u.1+1=g then D 0 (Xc u (Wk t)) else N 0 (Xc u (Wk t)):=by
 have hi:Rl .i64 u.1 1=u.1+1:=R9 (by omega);rw [Sx,Sn,Sn,hi,e3];by_cases a:(Uw t (To t).1).2.1=true
 ·rw [if_pos a,md n3 a,hi]
 ·have b:(Uw t (To t).1).2.1=false:=by simpa using a
  rw [if_neg a,mc n3 b,hi]
theorem Zq {s:TA} {g:Int} (h:(TE s).2≠0):Wl s g=(TE s).2:=if_pos h
theorem YG {s:TA} {g:Int} (a:(TE s).2=0) (h:g<0\/g>1000000):Wl s g=7:=by unfold Wl;rw [if_neg (by simp [a]),if_pos h]
theorem Zp {s:TA} {g:Int} (a:(TE s).2=0) (h : ¬ (g<0\/g>1000000)):Wl s g=0:=by unfold Wl;rw [if_neg (by simp [a]),if_neg h]
def uk (g:Int):((Int×(List (List TY)×(List Job×(Int×Int))))×Xy)->Option (LR ((Int×(List (List TY)×(List Job×(Int×Int))))×Xy) (Nat×(((Int×(List (List TY)×(List Job×(Int×Int))))×Xy)×Unit))) :=
 (λ(a:((Int×((List (List TY))×((List (Int×(TC×((Bool×TD)×((List S8)×Int)))))×(Int×Int))))×Xy))=>bd (Te (((a.1.1,a.1.2.1),(a.1.2.2.1,a.1.2.2.2.1)))) λc=>br (RR c.2 4) (λ_=>some (.dn ((0,(a,()))))) λ_=>br (RR c.2 0) (λ_=>bd (Tf ((((a.1.1,a.1.2.1),(a.1.2.2.1,a.1.2.2.2.1)),c.1))) λb=>br (RT b.2.2 0) (λ_=>some (.dn ((0,(((a.1.1,(a.1.2.1,(a.1.2.2.1,(a.1.2.2.2.1,b.2.2)))),a.2),()))))) λ_=>bd (Vd (c.1,b.2.1)) λi=>RX c.1 λf=>gd (KC f 12) λ_=>RX c.1 λh=>gd (KC h 12) λ_=>br b.2.1 (λ_=>br (RR (Rl .i64 a.2.1 1) g) (λ_=>some (.dn ((1,(((b.1.1.1,(b.1.1.2,(b.1.2.1,(b.1.2.2,b.2.2)))),(Rl .i64 a.2.1 1,(a.2.2.1,(Rl .i64 a.2.2.2.1 1,(Yj a.2.2.2.2 f h))))),()))))) λ_=>some (.nx (((b.1.1.1,(b.1.1.2,(b.1.2.1,(b.1.2.2,b.2.2)))),(Rl .i64 a.2.1 1,(a.2.2.1,(Rl .i64 a.2.2.2.1 1,(Yj a.2.2.2.2 f h)))))))) λ_=>br (RR (Rl .i64 a.2.1 1) g) (λ_=>some (.dn ((1,(((b.1.1.1,(b.1.1.2,(b.1.2.1,(b.1.2.2,b.2.2)))),(Rl .i64 a.2.1 1,(a.2.2.1,(a.2.2.2.1,(Yj a.2.2.2.2 f h))))),()))))) λ_=>some (.nx (((b.1.1.1,(b.1.1.2,(b.1.2.1,(b.1.2.2,b.2.2)))),(Rl .i64 a.2.1 1,(a.2.2.1,(a.2.2.2.1,(Yj a.2.2.2.2 f h)))))))) λ_=>br (RT c.2 0) (λ_=>some (.dn ((0,(((a.1.1,(a.1.2.1,(a.1.2.2.1,(a.1.2.2.2.1,c.2)))),a.2),()))))) λ_=>bd (Vd (c.1,false)) λj=>RX c.1 λd=>gd (KC d 12) λ_=>RX c.1 λe=>gd (KC e 12) λ_=>br (RR (Rl .i64 a.2.1 1) g) (λ_=>some (.dn ((1,(((0,([],([],(0,c.2)))),(Rl .i64 a.2.1 1,(a.2.2.1,(a.2.2.2.1,(Yj a.2.2.2.2 d e))))),()))))) λ_=>some (.nx (((0,([],([],(0,c.2)))),(Rl .i64 a.2.1 1,(a.2.2.1,(a.2.2.2.1,(Yj a.2.2.2.2 d e))))))))
theorem cN {s0 s:TA} (G:Gd s0 s) {g:Int} (J:g>0) (I:g<=1000000) {γ:Type} {K:(Nat×(((Int×(List (List TY)×(List Job×(Int×Int))))×Xy)×Unit))->Option γ} {R:Option γ} (h : ∀ r:(Nat×(((Int×(List (List TY)×(List Job×(Int×Int))))×Xy)×Unit)),r.2.1=fO (Tn g.toNat s).1 (Tn g.toNat s).2.2 (U3 zU (Tn g.toNat s).2.1)->K r=R):bd (loop (uk g) (fO s 0 zU)) K=R:=by
 obtain ⟨b,o⟩ : ∃ b:Nat,b=g.toNat:=⟨_,rfl⟩;rw [<- o] at h;obtain ⟨T,q⟩ : ∃ T,T=((Tn b s).1,(((Tn b s).2.1.map (·.1),U3 zU (Tn b s).2.1),(Tn b s).2.2)):=⟨_,rfl⟩;refine Zd (λi => ∃ k t l u,i=fO t 0 u/\At s0 g T (k+1) t l u) (λr=>r.2.1=fO T.1 T.2.2 T.2.1.2) (λi=>(g-i.2.1).toNat) ⟨b-1,s,[],zU,rfl,G,by decide,?_,by omega,rfl,?_⟩ ?_ ?_ ?_
 ·show (0:Int)+_=g;omega
 ·rw [q,show b-1+1=b by omega];rfl
 ·show (g-0).toNat<_;omega
 ·rintro i ⟨k,t,l,u,rfl,a⟩;obtain ⟨c,z,C,D,E,F⟩:=id a;rcases nS c with ⟨e1,e2⟩ | ⟨e1,e2,e3,d⟩ | ⟨e1,e2,e3⟩
  ·refine .inr ⟨(0,(fO t 0 u,())),?_,by rw [a.none e1]⟩;show bd (Te t) _=_;rw [(XV c).1,SL,Sn,if_pos e2]
  ·have B:=a.fail e1 e2;refine .inr ⟨(0,(fO t (VK t) u,())),?_,by rw [B]⟩;show bd (Te t) _=_;rw [(XV c).1,SL,Sn,if_neg e3,Sn];rcases d with d | ⟨d,e5⟩
   ·rw [if_neg (by rw [d];exact e2),Ss,if_neg (by rw [d];exact e2),d];rfl
   ·rw [if_pos d];show bd (Tf (t,(To t).1)) _=_;rw [(YR c _).1,SL,Ss,if_neg (by rw [e5];exact e2),e5];rfl
  ·obtain ⟨n,n1,n2,n3⟩:=au c e1;have L:=oE (x:=Wk t) (show 0<=u.1/\u.1<=1000000 by omega);have w:=a.step e1
   have j : ∀ {R},(if u.1+1=g then some (LR.dn (1,(fO (Wj t) 0 (Xc u (Wk t)),()))) else some (LR.nx (fO (Wj t) 0 (Xc u (Wk t)))))=R->(∃ s',R=some (.nx s')/\(∃ k t l u,s'=fO t 0 u/\At s0 g T (k+1) t l u)/\(g-s'.2.1).toNat<(g-(fO t 0 u).2.1).toNat)\/(∃ x,R=some (.dn x)/\x.2.1=fO T.1 T.2.2 T.2.1.2):=fun {R} f=>by
    by_cases y:u.1+1=g
    ·rw [if_pos y] at f;have h:k=0:=by omega
     subst h;exact .inr ⟨_,f.symm,by rw [w.last]⟩
    ·rw [if_neg y] at f;obtain ⟨p,m⟩ : ∃ p,k=p+1:=⟨k-1,by omega⟩;refine .inl ⟨_,f.symm,⟨p,_,_,_,rfl,by rw [<- m];exact w⟩,?_⟩;show (g-(Xc u (Wk t)).1).toNat<(g-u.1).toNat;omega
   refine j ?_;symm;show bd (Te t) _=_;rw [(XV c).1,SL,Sn,if_neg (by rw [e2];decide),Sn,if_pos e2];show bd (Tf (t,(To t).1)) _=_;rw [(YR c _).1,SL,Ss,if_pos e3];show bd (some ()) _=_;rw [SL,n1,S9,ZU n2,S9,ZU n2,<- n1];exact aF (u:=u) ⟨z,by omega⟩ e3 n3 (λe u=>some (LR.dn (1,(fO (Wj t) e u,())))) (λe u=>some (LR.nx (fO (Wj t) e u)))
 ·intro r A;refine h r ?_;rw [A,q]
theorem fE {s:TA} (m:Sm s) (hc:VSt s->UZ s.1.2.flatten<=2000) (g:Int):U6 (s,g)=some (YB s g):=by
 unfold U6 YB;rw [pJ m,SL,Ss];by_cases a:(TE s).2=0;rotate_left
 ·rw [if_neg a,Zq a,if_pos a,Ss,if_neg a];rfl
 rw [if_pos a,Sr,Sp];by_cases b:g<0
 ·rw [if_pos b,YG a (.inl b),if_pos (by decide)];rfl
 by_cases c:g>1000000
 ·rw [if_neg b,if_pos c,YG a (.inr c),if_pos (by decide)];rfl
 rw [if_neg b,if_neg c,Zp a (by omega),if_neg (by decide),Sp];have v:=TL.1 a;have G:Gd s s:=⟨v,rfl,hc v⟩;by_cases d:g>0;rotate_left
 ·have:g=0:=by omega
  subst this;rw [if_neg d];rfl
 rw [if_pos d];refine cN G d (by omega) λr e => ?_
 have key:(br (RT r.2.1.1.2.2.2.2 0) (λ_=>some (((((0:Int),([]:List (List TY))),(([]:List Job),(0:Int))),(zU,r.2.1.1.2.2.2.2)))) λ_=>some ((((r.2.1.1.1,r.2.1.1.2.1),(r.2.1.1.2.2.1,r.2.1.1.2.2.2.1)),((r.2.1.2.1,(Rp .i64 g r.2.1.2.1,r.2.1.2.2.2)),(0:Int)))))=some (if (Tn g.toNat s).2.2≠0 then (zS,(zU,(Tn g.toNat s).2.2)) else ((Tn g.toNat s).1,(aL g (U3 zU (Tn g.toNat s).2.1),0))):=by
  rw [e,Ss];show (if (Tn g.toNat s).2.2=0 then _ else _)=_
  by_cases h:(Tn g.toNat s).2.2=0
  ·rw [if_pos h,if_neg (by simp [h])];rfl
  ·rw [if_neg h,if_pos h];rfl
 rw [Ze];split
 ·exact key
 ·exact key
theorem fD {s:TA} (m:Sm s) (hc:VSt s->UZ s.1.2.flatten<=2000) (g:Int):U5 (s,g)=some (ZQ s g):=by
 unfold U5 ZQ;rw [pJ m,SL,Ss];by_cases c:(TE s).2=0;rotate_left
 ·rw [if_neg c,Zq c,if_pos c,Ss,if_neg c]
 rw [if_pos c,Sr,Sp];by_cases i:g<0
 ·rw [if_pos i,YG c (.inl i),if_pos (by decide)]
 by_cases q:g>1000000
 ·rw [if_neg i,if_pos q,YG c (.inr q),if_pos (by decide)]
 rw [if_neg i,if_neg q,Zp c (by omega),if_neg (by decide),Sp];have v:=TL.1 c;have G:Gd s s:=⟨v,rfl,hc v⟩;by_cases A:g>0;rotate_left
 ·have:g=0:=by omega
  subst this;rw [if_neg A];rfl
 rw [if_pos A];obtain ⟨b,y⟩ : ∃ b:Nat,b=g.toNat:=⟨_,rfl⟩;rw [<- y];obtain ⟨T,B⟩ : ∃ T,T=((Tn b s).1,(((Tn b s).2.1.map (·.1),U3 zU (Tn b s).2.1),(Tn b s).2.2)):=⟨_,rfl⟩;refine Zd (λo => ∃ k t l u,o=iG t 0 l u/\At s g T (k+1) t l u) (λr=>r.2.1=iG T.1 T.2.2 T.2.1.1 T.2.1.2) (λo=>(g-o.2.2.1).toNat) ⟨b-1,s,[],zU,rfl,G,by decide,?_,by omega,rfl,?_⟩ ?_ ?_ ?_
 ·show (0:Int)+_=g;omega
 ·rw [B,show b-1+1=b by omega];rfl
 ·show (g-0).toNat<_;omega
 ·rintro o ⟨k,t,l,u,rfl,a⟩;obtain ⟨d,E,K,L,M,N⟩:=id a;rcases nS d with ⟨e1,e2⟩ | ⟨e1,e2,e3,f⟩ | ⟨e1,e2,e3⟩
  ·refine .inr ⟨(0,(iG t 0 l u,())),?_,by rw [a.none e1]⟩;show bd (Te t) _=_;rw [(XV d).1,SL,Sn,if_pos e2]
  ·have J:=a.fail e1 e2;refine .inr ⟨(0,(iG t (VK t) l u,())),?_,by rw [J]⟩;show bd (Te t) _=_;rw [(XV d).1,SL,Sn,if_neg e3,Sn];rcases f with f | ⟨f,e5⟩
   ·rw [if_neg (by rw [f];exact e2),Ss,if_neg (by rw [f];exact e2),f];rfl
   ·rw [if_pos f];show bd (Tf (t,(To t).1)) _=_;rw [(YR d _).1,SL,Ss,if_neg (by rw [e5];exact e2),e5];rfl
  ·obtain ⟨n,n1,n2,n3⟩:=au d e1;have O:=oE (x:=Wk t) (show 0<=u.1/\u.1<=1000000 by omega);have C:=a.step e1
   have p : ∀ {R},(if u.1+1=g then some (LR.dn (1,(iG (Wj t) 0 (l++[(Wk t).1]) (Xc u (Wk t)),()))) else some (LR.nx (iG (Wj t) 0 (l++[(Wk t).1]) (Xc u (Wk t)))))=R->(∃ s',R=some (.nx s')/\(∃ k t l u,s'=iG t 0 l u/\At s g T (k+1) t l u)/\(g-s'.2.2.1).toNat<(g-(iG t 0 l u).2.2.1).toNat)\/(∃ x,R=some (.dn x)/\x.2.1=iG T.1 T.2.2 T.2.1.1 T.2.1.2):=fun {R} j=>by
    by_cases D:u.1+1=g
    ·rw [if_pos D] at j;have F:k=0:=by omega
     subst F;exact .inr ⟨_,j.symm,by rw [C.last]⟩
    ·rw [if_neg D] at j;obtain ⟨z,w⟩ : ∃ z,k=z+1:=⟨k-1,by omega⟩;refine .inl ⟨_,j.symm,⟨z,_,_,_,rfl,by rw [<- w];exact C⟩,?_⟩;show (g-(Xc u (Wk t)).1).toNat<(g-u.1).toNat;omega
   refine p ?_;symm;show bd (Te t) _=_;rw [(XV d).1,SL,Sn,if_neg (by rw [e2];decide),Sn,if_pos e2];show bd (Tf (t,(To t).1)) _=_;rw [(YR d _).1,SL,Ss,if_pos e3];show gd (CD (BD l.length [(To t).1].length) 1048576) _=_;rw [UB (by simp only [BD,List.length_cons,List.length_nil];omega),n1,S9,ZU n2,S9,ZU n2,<- n1];exact aF (u:=u) ⟨E,by omega⟩ e3 n3 (λe u=>some (LR.dn (1,(iG (Wj t) e (l++[(To t).1]) u,())))) (λe u=>some (LR.nx (iG (Wj t) e (l++[(To t).1]) u)))
 ·intro r I
  have key:(br (RT r.2.1.1.2.2.2.2 0) (λ_=>some (([]:List Int),r.2.1.1.2.2.2.2)) λ_=>some (r.2.1.2.1,(0:Int)))=some (if (Tn b s).2.2≠0 then ([],(Tn b s).2.2) else ((Tn b s).2.1.map (·.1),0)):=by
   rw [I,B,Ss];show (if (Tn b s).2.2=0 then _ else _)=_
   by_cases h:(Tn b s).2.2=0
   ·rw [if_pos h,if_neg (by simp [h])];rfl
   ·rw [if_neg h,if_pos h];rfl
  rw [Ze];split
  ·exact key
  ·exact key
end
section
open Go Go.Proofs.YtfilfloanndddaaGreat.Sv
end
section
open Go Go.Proofs.YtfilfloanndddaaGreat.Sv
theorem pM {s t:TA} {n:Nat} {j:Job} {b:Bool} (v:VSt s) (F:StepF s n j t b) {i:Nat} (a:i≠n) (f:(TG s.1.2 i).length=2):TG t.1.2 i=TG s.1.2 i/\UN t.2.1 (i:Int)=UN s.2.1 (i:Int):=by
 by_cases h:0<Tb s.1 j
 ·obtain ⟨_,e1,_,e2⟩:=F.read h;exact ⟨by rw [e1],by rw [e2,if_neg a]⟩
 ·obtain ⟨_,e1,_,e2,e3,g⟩:=F.inst (by omega)
  have e : ¬ (UQ j≠[]/\i=Xz s j):=λ⟨c,hi⟩=>by
   rcases e3 with e3 | ⟨e3,_,e5⟩
   ·exact a (by rw [hi,e3])
   ·have:=e5 c;rw [<- e3,<- hi] at this;omega
  have c:TG t.1.2 i=TG s.1.2 i:=by rw [e2,if_neg e,if_neg a]
  refine ⟨c,?_⟩;obtain ⟨j',d⟩:=v.hasJob f;rw [g,c,if_pos f,if_neg a,d];rfl
theorem pN {s0 s:TA} (g:Gd s0 s) (e:VK s=0) {i:Nat} (b:(TG s.1.2 i).length=2) (f:Wk s≠((i:Int),true)):(TG (Wj s).1.2 i).length=2:=by
 obtain ⟨n,j,d,k,h,hc,F,_⟩:=XB g e;by_cases a:i=n
 ·subst a;by_cases c:0<Tb s.1 j
  ·rw [(F.read c).2.1];exact b
  ·exact absurd (Prod.ext d (F.inst (by omega)).1) f
 ·rw [(pM g.1 F a b).1];exact b
def bj (a:Int):Nat->Nat->TA->Int×Int
 | 0,_,_=>(0,0)
 | k+1,n,s=>if VK s≠0 then (0,VK s) else if Wk s=(a,true) then (((n+1:Nat):Int),0) else bj a k (n+1) (Wj s)
theorem fQ {s:TA} (v:VSt s):gj 2000 s<=48024:=by
 have b:=nk 2000 v;have a:=gy v.lev;have:=Nat.mul_le_mul_right 2001 a;omega
def NAt (s0:TA) (a:Int) (T:Int×Int) (k n:Nat) (s:TA):Prop:=Gd s0 s/\gj 2000 s<k/\n+k<=60000/\T=bj a k n s /\ ∃ i:Nat,a=(i:Int)/\(TG s.1.2 i).length=2
theorem NAt.fail {s0 s:TA} {d:Int} {T:Int×Int} {k n:Nat} (a:NAt s0 d T k n s) (e:VK s≠0):T=(0,VK s):=by
 obtain ⟨_,f,_,c,_⟩:=a;obtain ⟨b,rfl⟩ : ∃ b,k=b+1:=⟨k-1,by omega⟩;rw [c];simp [bj,e]
theorem NAt.hit {s0 s:TA} {c:Int} {T:Int×Int} {k n:Nat} (a:NAt s0 c T k n s) (e:VK s=0) (h:Wk s=(c,true)):T=(((n+1:Nat):Int),0):=by
 obtain ⟨_,f,_,d,_⟩:=a;obtain ⟨b,rfl⟩ : ∃ b,k=b+1:=⟨k-1,by omega⟩;rw [d];simp [bj,e,h]
theorem NAt.next {s0 s:TA} {d:Int} {T:Int×Int} {k n:Nat} (a:NAt s0 d T k n s) (e:VK s=0) (h:Wk s≠(d,true)) : ∃ b,k=b+1/\NAt s0 d T b (n+1) (Wj s)/\gj 2000 (Wj s)<gj 2000 s:=by
 obtain ⟨c,m,o,j,i,f,l⟩:=a;obtain ⟨b,rfl⟩ : ∃ b,k=b+1:=⟨k-1,by omega⟩;obtain ⟨_,_,_,_,_,_,_,g⟩:=XB c e;have p:=(eW c c.2.2 e).1;refine ⟨b,rfl,⟨g,by omega,by omega,?_,i,f,pN c e l (by rw [<- f];exact h)⟩,by omega⟩;rw [j];simp [bj,e,h]
end
section
open Go Go.Proofs.YtfilfloanndddaaGreat.Sv
end
section
open Go Go.Proofs.YtfilfloanndddaaGreat.Sv
theorem eA (l:List S8) (b:Bool) (m:b=false) : ∃ r,loop (β:=Nat×((Int×Bool)×Unit)) (λa=>br (SW a.1 (l.length:Int)) (λ_=>br (SW a.1 50) (λ_=>RX a.1 λn=>ix l n λi=>br (SU (MW i.1:Int) 100) (λ_=>some (.dn ((0,((a.1,true),()))))) λ_=>RX a.1 λg=>ix l g λj=>br (SU (MW j.2.1:Int) 100) (λ_=>some (.dn ((0,((a.1,true),()))))) λ_=>some (.nx (Rl .i64 a.1 1,a.2))) λ_=>some (.dn ((1,(a,()))))) λ_=>some (.dn ((1,(a,()))))) ((0:Int),b)=some r/\((r.1=1/\r.2.1.2=false)\/(r.1=0/\r.2.1.2=true)):=by
 subst m
 exact Y8 (l:=l) (σ:=Unit) 50 (by omega) (λk _=>((k:Int),false)) (λ_ _=>True) (λ(r:Nat×((Int×Bool)×Unit))=>(r.1=1/\r.2.1.2=false)\/(r.1=0/\r.2.1.2=true)) () rfl trivial (λk _ h d _=>⟨_,(ml (c:=50) h d _ _ _ rfl),.inl ⟨rfl,rfl⟩⟩) (λk x _ f d _=>by
  simp only;have e:=(List.getElem?_eq_some_iff.1 f).1;rw [rl e,R5,show SW (k:Int) 50=true from eQ d,R5,S9,Sb f,Sp,S9,Sb f,Sp,TJ (by omega)]
  repeat' split
  all_goals first | exact .inr ⟨_,rfl,.inr ⟨rfl,rfl⟩⟩ | exact .inl ⟨(),rfl,trivial⟩)
def pW (n:Int) (rs:List TY):Prop:=0<=n/\n<=1000000000 /\ ∀ r∈rs,r.2.length<=5000
theorem bO {rs:List TY} {k:Nat} (h : ∀ r∈rs,r.2.length<=5000) (d:k<=20):UZ (rs.take k)<=100000:=by
 have b:=eI (l:=rs.take k) λr a=>h r (List.mem_of_mem_take a);have c:(rs.take k).length<=k:=by rw [List.length_take];omega
 omega
theorem fX {L:List (List TY)} {i:Nat} {rs:List TY} (hi:L[i]? = some rs) (n:Int) (b:Bool) (B:b=false) : ∃ r,loop (β:=Nat×((Int×(Int×Bool))×Unit)) (λs1=>RX (i:Int) λC=>ix L C λI=>br (SW s1.2.1 (I.length:Int)) (λ_=>br (SW s1.2.1 9) (λ_=>RX (i:Int) λD=>ix L D λJ=>RX s1.2.1 λE=>ix J E λf=>bd (loop (λa=>br (SW a.1 (f.2.length:Int)) (λ_=>br (SW a.1 50) (λ_=>RX a.1 λF=>ix f.2 F λw=>br (SU (MW w.1:Int) 100) (λ_=>some (.dn (((0:Nat),((a.1,true),()))))) λ_=>RX a.1 λt=>ix f.2 t λy=>br (SU (MW y.2.1:Int) 100) (λ_=>some (.dn ((0,((a.1,true),()))))) λ_=>some (.nx (Rl .i64 a.1 1,a.2))) λ_=>some (.dn ((1,(a,()))))) λ_=>some (.dn ((1,(a,()))))) ((0:Int),s1.2.2)) λe=>br (neq e.1 0) (λ_=>some (.dn ((1,((Rl .i64 s1.1 (f.2.length:Int),(s1.2.1,e.2.1.2)),()))))) λ_=>some (.nx ((Rl .i64 s1.1 (f.2.length:Int),(Rl .i64 s1.2.1 1,e.2.1.2))))) λ_=>some (.dn ((0,(s1,()))))) λ_=>some (.dn ((0,(s1,()))))) (n,((0:Int),b))=some r/\((r.1=0/\r.2.1.2.2=false/\(rs.length<=8->pW n rs->r.2.1.1=n+(UZ rs:Int)))\/(r.1=1/\r.2.1.2.2=true)):=by
 subst B
 exact Y8 (l:=rs) (σ:=Int) 9 (by omega) (λk m=>(m,((k:Int),false))) (λk m=>pW n rs->m=n+(UZ (rs.take k):Int)) (λ(r:Nat×((Int×(Int×Bool))×Unit))=>(r.1=0/\r.2.1.2.2=false/\(rs.length<=8->pW n rs->r.2.1.1=n+(UZ rs:Int)))\/(r.1=1/\r.2.1.2.2=true)) n rfl (λ_=>by simp [UZ]) (λk m h p o=>⟨_,by
  rw [S9,Sb hi];exact (ml (c:=9) h p _ _ _ rfl),.inl ⟨rfl,rfl,λP d=>by
   have q:k=rs.length:=by omega
   subst q;have:=o d;rw [List.take_length] at this
   exact this⟩⟩) (λk x m g p o=>by
  simp only;have s:=(List.getElem?_eq_some_iff.1 g).1;obtain ⟨r,G,j⟩:=eA x.2 false rfl;rw [S9,Sb hi,rl s,R5,show SW (k:Int) 9=true from eQ p,R5,S9,Sb hi,S9,Sb g,G,SL,SM,TJ (by omega)];rcases j with ⟨j,u⟩ | ⟨j,u⟩
  ·rw [if_neg (by omega),u];refine .inl ⟨_,rfl,λd => ?_⟩;have z:=o d
   have A:UZ (rs.take (k+1))=UZ (rs.take k)+x.2.length:=by
    rw [List.take_add_one,g,Vb];simp [UZ]
   have K:=d.2.2 x (List.mem_of_getElem? g);have M:=bO (k:=k) d.2.2 (by omega);have N:=d.1;have O:=d.2.1;show Rl .i64 m (x.2.length:Int)=_;rw [R9 (by omega),z,A];omega
  ·rw [if_pos j,u];exact .inr ⟨_,rfl,.inr ⟨rfl,rfl⟩⟩)
theorem gx (s:TA) (o : ∀ rs∈s.1.2,∀ r∈rs,r.2.length<=9223372036854775807) : ∃ b,Wh s=some b/\(b=false->Sm s/\(VLev s.1->UZ s.1.2.flatten<=40)):=by
 unfold Wh;simp only [TH,TF]
 obtain ⟨r,q1,u⟩:=Y8 (l:=s.1.2) (σ:=Int) (s:=((0:Int),(false,(0:Int)))) 20 (by omega) (λk n=>(n,(false,(k:Int)))) (λk n=>(∀ i rs,i<k->s.1.2[i]? = some rs->rs.length<=8)/\(VLev s.1->n=(UZ (s.1.2.take k).flatten:Int))) (λ(r:Nat×((Int×(Bool×Int))×Unit))=>(r.1=0/\r.2.1.2.1=false/\(∀ i rs,i<20->s.1.2[i]? = some rs->rs.length<=8)/\(VLev s.1->s.1.2.length<=15->r.2.1.1=(UZ s.1.2.flatten:Int)))\/(r.1=1/\r.2.1.2.1=true))
  (f:=λs0=>br (SW s0.2.2 (s.1.2.length:Int)) (λ_=>br (SW s0.2.2 20) (λ_=>bd (loop (λs1=>RX s0.2.2 λk2=>ix s.1.2 k2 λx3=>br (SW s1.2.1 (x3.length:Int)) (λ_=>br (SW s1.2.1 9) (λ_=>RX s0.2.2 λk4=>ix s.1.2 k4 λx5=>RX s1.2.1 λk6=>ix x5 k6 λL=>bd (loop (λq=>br (SW q.1 (L.2.length:Int)) (λ_=>br (SW q.1 50) (λ_=>RX q.1 λk9=>ix L.2 k9 λx10=>br (SU (MW x10.1:Int) 100) (λ_=>some (.dn (((0:Nat),((q.1,true),()))))) λ_=>RX q.1 λX=>ix L.2 X λx12=>br (SU (MW x12.2.1:Int) 100) (λ_=>some (.dn ((0,((q.1,true),()))))) λ_=>some (.nx (Rl .i64 q.1 1,q.2))) λ_=>some (.dn ((1,(q,()))))) λ_=>some (.dn ((1,(q,()))))) ((0:Int),s1.2.2)) λF=>br (neq F.1 0) (λ_=>some (.dn (((1:Nat),((Rl .i64 s1.1 (L.2.length:Int),(s1.2.1,F.2.1.2)),()))))) λ_=>some (.nx ((Rl .i64 s1.1 (L.2.length:Int),(Rl .i64 s1.2.1 1,F.2.1.2))))) λ_=>some (.dn ((0,(s1,()))))) λ_=>some (.dn ((0,(s1,()))))) ((s0.1,((0:Int),s0.2.1)))) λp=>br (neq p.1 0) (λ_=>RX s0.2.2 λY=>ix s.1.2 Y λx16=>br (SU (x16.length:Int) 8) (λ_=>some (.dn (((1:Nat),((p.2.1.1,(true,s0.2.2)),()))))) λ_=>some (.nx ((p.2.1.1,(p.2.1.2.2,Rl .i64 s0.2.2 1))))) λ_=>some (.dn ((1,((p.2.1.1,(p.2.1.2.2,s0.2.2)),()))))) λ_=>some (.dn ((0,(s0,()))))) λ_=>some (.dn ((0,(s0,())))))
  0 rfl ⟨λi rs h=>by omega,λ_=>by simp [UZ]⟩ (λk n h t I=>⟨_,(ml (c:=20) h t _ _ _ rfl),.inl ⟨rfl,rfl,λi rs hi o=>I.1 i rs (by have:=(List.getElem?_eq_some_iff.1 o).1;omega) o,λB h15=>by
   have:=I.2 B;rw [List.take_of_length_le (by omega)] at this
   exact this⟩⟩) (λk rs n o t I=>by
   simp only;have z:=(List.getElem?_eq_some_iff.1 o).1;obtain ⟨r,q1,u⟩:=fX o n false rfl;rw [rl z,R5,show SW (k:Int) 20=true from eQ t,R5,q1,SL,SM,S9,Sb o,Sp,TJ (by omega)];rcases u with ⟨u,E,q4⟩ | ⟨u,E⟩
   ·rw [if_pos u];by_cases S:(rs.length:Int)>8
    ·rw [if_pos S];exact .inr ⟨_,rfl,.inr ⟨rfl,rfl⟩⟩
    ·rw [if_neg S,E];refine .inl ⟨_,rfl,λi rs' hi C => ?_,λB => ?_⟩
     ·by_cases h:i=k
      ·subst h;rw [o] at C;cases C;omega
      ·exact I.1 i rs' (by omega) C
     ·have w:=I.2 B
      have A : ∀ l:List (List TY),(∀ rs∈l,rs∈s.1.2) -> ∀ r∈l.flatten,r.2.length<=5000:=λl hl r U=>by
       obtain ⟨rs1,h3,h4⟩:=List.mem_flatten.1 U;obtain ⟨i,hi⟩:=List.getElem?_of_mem (hl rs1 h3);have N:r∈TG s.1.2 i:=by unfold TG;rw [hi];exact h4
       exact ((B.own i).2 r N).vl.len
      have M:UZ (s.1.2.take (k+1)).flatten=UZ (s.1.2.take k).flatten+UZ rs:=by
       rw [List.take_add_one,o,List.flatten_append,Vb];simp
      have h3:=bO (k:=20) (rs:=(s.1.2.take k).flatten) (A _ λrs h=>List.mem_of_mem_take h)
      have h4:(s.1.2.take k).flatten.length<=1000:=by
       have N : ∀ l:List (List TY),(∀ rs∈l,rs.length<=2)->l.flatten.length<=2*l.length:=by
        intro l
        induction l with
        | nil=>intro _;simp
        | cons x l ih =>
         intro h;have h6:=h x (by simp);have h7:=ih λy C=>h y (by simp [C]);simp only [List.flatten_cons,List.length_append,List.length_cons];omega
       have:=N (s.1.2.take k) λrs h=>B.two rs (List.mem_of_mem_take h);have S:(s.1.2.take k).length<=20:=by simp;omega
       omega
      have N:=eI (A (s.1.2.take k) λrs h=>List.mem_of_mem_take h);have h6:pW n rs:=⟨by omega,by omega,λr U=>A [rs] (λx W=>by rw [List.mem_singleton.1 W];exact List.mem_of_getElem? o) r (by simpa using U)⟩;show r.2.1.1=_;rw [q4 (by omega) h6,w,M];omega
   ·rw [if_neg (by omega),E];exact .inr ⟨_,rfl,.inr ⟨rfl,rfl⟩⟩)
 refine (λh=>h) ?_;have P : ∀ {K:(Nat×((Int×(Bool×Int))×Unit))->Option Bool},(∃ b,K r=some b/\(b=false->Sm s/\(VLev s.1->UZ s.1.2.flatten<=40))) -> ∀ {m:Option (Nat×((Int×(Bool×Int))×Unit))},m=some r -> ∃ b,bd m K=some b/\(b=false->Sm s/\(VLev s.1->UZ s.1.2.flatten<=40)):=λh _ e=>by subst e;exact h
 refine P ?_ q1;rw [SM];rcases u with ⟨u,E,q4,q5⟩ | ⟨u,E⟩
 rotate_left
 ·rw [if_neg (by omega),E];exact ⟨_,rfl,λh=>by cases h⟩
 rw [if_pos u,E]
 obtain ⟨r2,p1,O⟩:=Y8 (l:=s.2.1) (σ:=Unit) (s:=(false,(0:Int))) 20 (by omega) (λk _=>(false,(k:Int))) (λ_ _=>True) (λ(r:Nat×((Bool×Int)×Unit))=>r.1=1\/(r.1=0/\r.2.1.1=true))
  (f:=λa=>br (SW a.2 (s.2.1.length:Int)) (λ_=>br (SW a.2 20) (λ_=>RX a.2 λZ=>ix s.2.1 Z λg=>br (SU (g.2.1.1.length:Int) 20) (λ_=>some (.dn ((0,((true,a.2),()))))) λ_=>br (SU (g.2.1.2.1.length:Int) 100) (λ_=>some (.dn ((0,((true,a.2),()))))) λ_=>br (SU (g.2.1.2.2.1.length:Int) 100) (λ_=>some (.dn ((0,((true,a.2),()))))) λ_=>br (SU (g.2.1.2.2.2.1.length:Int) 100) (λ_=>some (.dn ((0,((true,a.2),()))))) λ_=>bd (loop (λd=>br (SW d.1 (g.2.1.1.length:Int)) (λ_=>RX d.1 λD=>ix g.2.1.1 D λG=>some (.nx ((Rl .i64 d.1 1,Rl .i64 d.2 (G.length:Int))))) λ_=>some (.dn (((0:Nat),(d,()))))) (((0:Int),(g.2.2.2.1.length:Int)))) λr24=>br (SU r24.2.1.2 200) (λ_=>some (.dn ((0,((true,a.2),()))))) λ_=>some (.nx (a.1,Rl .i64 a.2 1))) λ_=>some (.dn ((1,(a,()))))) λ_=>some (.dn ((1,(a,())))))
  () rfl trivial (λk _ h t _=>⟨_,(ml (c:=20) h t _ _ _ rfl),.inl rfl⟩) (λk j _ o t _=>by
   simp only;have z:=(List.getElem?_eq_some_iff.1 o).1;rw [rl z,R5,show SW (k:Int) 20=true from eQ t,R5,S9,Sb o,Sp];by_cases w:(j.2.1.1.length:Int)>20
   ·rw [if_pos w];exact .inr ⟨_,rfl,.inr ⟨rfl,rfl⟩⟩
   rw [if_neg w]
   obtain ⟨r3,t1,_⟩:=We (l:=j.2.1.1) (σ:=Int) (s:=((0:Int),(j.2.2.2.1.length:Int))) (λk n=>((k:Int),n)) (λ_ _ _=>True) (λ(_:Nat×((Int×Int)×Unit))=>True)
    (f:=λd=>br (SW d.1 (j.2.1.1.length:Int)) (λ_=>RX d.1 λD=>ix j.2.1.1 D λG=>some (.nx ((Rl .i64 d.1 1,Rl .i64 d.2 (G.length:Int))))) λ_=>some (.dn (((0:Nat),(d,())))))
    (j.2.2.2.1.length:Int) rfl (by omega) trivial (λn _=>⟨_,by rw [re];rfl,trivial⟩) (λk y m n hd C t _ => .inl ⟨Rl .i64 n (y.length:Int),by rw [rl t,R5,S9,Sb C,TJ (by omega)],trivial⟩)
   rw [t1,SL,Sp,Sp,Sp,Sp,TJ (by omega)]
   repeat' split
   all_goals first | exact .inr ⟨_,rfl,.inr ⟨rfl,rfl⟩⟩ | exact .inl ⟨(),rfl,trivial⟩)
 rw [p1,SL,SM];rcases O with O | ⟨O,p3⟩
 rotate_left
 ·rw [if_pos O,p3];exact ⟨_,rfl,λh=>by cases h⟩
 rw [if_neg (by omega),Sp,Sp];by_cases w:r.2.1.1>40
 ·rw [if_pos w];exact ⟨_,rfl,λh=>by cases h⟩
 rw [if_neg w];by_cases M:(s.1.2.length:Int)>15
 ·rw [if_pos M];exact ⟨_,rfl,λh=>by cases h⟩
 rw [if_neg M];refine ⟨_,rfl,λh=>⟨⟨by omega,λrs J=>⟨?_,o rs J⟩,?_⟩,λB=>by have:=q5 B (by omega);omega⟩⟩
 ·obtain ⟨i,hi⟩:=List.getElem?_of_mem J;have:=q4 i rs (by have:=(List.getElem?_eq_some_iff.1 hi).1;omega) hi;omega
 ·unfold SU at h;simp at h;omega
end
section
open Go Go.Proofs.YtfilfloanndddaaGreat.Sv
set_option maxRecDepth 1000000
theorem Zc:VN ()=some true:=by kernel_rfl
theorem eJ (a:YD):oH a a=true:=by
 unfold oH;simp only [VZ,decide_true];rfl
theorem bK {s:TA} {g:Int} (h:Wl s g=0):VSt s/\0<=g/\g<=1000000:=by
 have a:(TE s).2=0:=by
  by_cases a:(TE s).2=0
  ·exact a
  ·rw [Zq a] at h;exact absurd h a
 by_cases b:g<0\/g>1000000
 ·rw [YG a b] at h;cases h
 ·exact ⟨TL.1 a,by omega,by omega⟩
theorem nh {s:TA} (f : ∀ rs∈s.1.2,∀ r∈rs,r.2.length<=9223372036854775807) {K:Bool->Option Bool} (c:K true=some true) (d:Sm s->(VSt s->UZ s.1.2.flatten<=40)->K false=some true):bd (Wh s) K=some true:=by
 obtain ⟨b,e,a⟩:=gx s f;rw [e,SL];cases b with
 | true=>exact c
 | false=>exact d (a rfl).1 λv=>(a rfl).2 v.lev
theorem oF {s:TA} (h:VSt s->UZ s.1.2.flatten<=40):VSt s->UZ s.1.2.flatten<=2000:=λv=>by have:=h v;omega
end
section
open Go Go.Proofs.YtfilfloanndddaaGreat.Sv
theorem nY {a:Int} (h : -9223372036854775808<=a/\a<=9223372036854775807):Su .i64 a=a:=by
 have:=R9 (a:=a) (b:=0) (by omega);unfold Rl at this;rw [Int.add_zero] at this;exact this
end
section
open Go Go.Proofs.YtfilfloanndddaaGreat.Sv
theorem bL {s:TA} (v:VSt s) {g:Int} (h:0<=g/\g<=1000000):Wl s g=0:=Zp (TL.2 v) (by omega)
theorem bo {s:TA} (v:VSt s) {g:Int} (h:0<=g/\g<=1000000):ZQ s g=if (Tn g.toNat s).2.2≠0 then ([],(Tn g.toNat s).2.2) else ((Tn g.toNat s).2.1.map (·.1),0):=by
 unfold ZQ;rw [bL v h,if_neg (by decide)]
theorem cM {s:TA} (v:VSt s) {g:Int} (h:0<=g/\g<=1000000):YB s g=if (Tn g.toNat s).2.2≠0 then (zS,(zU,(Tn g.toNat s).2.2)) else ((Tn g.toNat s).1,(aL g (U3 zU (Tn g.toNat s).2.1),0)):=by
 unfold YB;rw [bL v h,if_neg (by decide)]
theorem cx {s:TA} {n:Nat} (l:List (Int×Bool)) (g:Int) (h:l.length<=1000000):(aL g (U3 zU l)).1=(l.length:Int):=by
 have:=(cS l zU (by decide) (by show (0:Int)+_<=_;omega)).1;show (U3 zU l).1=_;rw [this];show (0:Int)+_=_;omega
end
section
open Go Go.Proofs.YtfilfloanndddaaGreat.Sv
theorem nM (u:Xy) (l:List (Int×Bool)) (x:Int×Bool):U3 u (l++[x])=Xc (U3 u l) x:=by simp [U3]
theorem cR : ∀ (l:List (Int×Bool)) (u:Xy),0<=u.2.2.1->u.2.2.1<=u.1->u.1+l.length<=2000000->(U3 u l).2.2.1<=(U3 u l).1
 | [],u,_,h,_=>h
 | x::l,u,h0,h,hb=>by
  have a:((x::l).length:Int)=(l.length:Int)+1:=by simp
  rw [a] at hb
  have e1:(Xc u x).1=u.1+1:=by
   show Rl .i64 u.1 1=_;exact R9 (by omega)
  have e2:(Xc u x).2.2.1=u.2.2.1\/(Xc u x).2.2.1=u.2.2.1+1:=by
   show (if x.2=true then Rl .i64 u.2.2.1 1 else u.2.2.1)=_\/(if x.2=true then Rl .i64 u.2.2.1 1 else u.2.2.1)=_
   split
   ·exact .inr (R9 (by omega))
   ·exact .inl rfl
  exact cR l (Xc u x) (by omega) (by omega) (by omega)
theorem fK {s0 s:TA} (g:Gd s0 s) (e:VK s=0) {n k:Nat} (f:(To s).1=(n:Int)) (A:k<n) : ∃ c o,UR (s,(k:Int))=some (c,o)/\(o=0->c=false):=by
 have v:=g.1;have m:(TE s).2=0:=TL.2 v;rw [Zg v.sm];unfold Wc;rw [if_neg (by simp [m])];cases t:Zo s (k:Int) with
 | none=>exact ⟨false,4,rfl,λh=>by cases h⟩
 | some j =>
  refine ⟨Vq s.1 j,0,rfl,λ_ => ?_⟩;obtain ⟨a,r,_⟩:=ZA g e;have x : ¬ TI 0 s.1.2=[]:=λh=>by rw [h] at r;cases r
  unfold To at a f;rw [if_neg (by simp [m]),if_neg x] at a f;cases i:Vr s (TI 0 s.1.2) with
  | none=>rw [i] at a;cases a
  | some d =>
   rw [i] at f;have y:d=(n:Int):=f;obtain ⟨p,q,e1,_,e3⟩:=X4 i
   have b:(k:Int)∈TI 0 s.1.2:=by
    have u:=gq v (k:Int);rw [t] at u;obtain ⟨b,l⟩:=Zw u.symm;rw [<- v.due,<- l];exact List.mem_map_of_mem b
   have z:(k:Int)∈p:=by
    have hs:=bR s.1.2 0;rw [e1] at b hs;rcases List.mem_append.1 b with h | h
    ·exact h
    ·obtain ⟨_,w,_⟩:=List.pairwise_append.1 hs;rcases List.mem_cons.1 h with h | h
     ·omega
     ·have:=(List.pairwise_cons.1 w).1 _ h;omega
   have:=e3 _ z;unfold Wc at this;rw [if_neg (by simp [m]),t] at this;simpa using this
theorem mr {a b:Int} (c:0<=a) (d:0<b):0<=SY .i64 a b/\SY .i64 a b<b:=by
 unfold SY;exact ⟨Int.tmod_nonneg _ c,Int.tmod_lt_of_pos _ d⟩
theorem ab (n:Nat) (s:TA):Tn (n+1) s=if VK s=4 then (s,([],0)) else if VK s≠0 then (s,([],VK s)) else ((Tn n (Wj s)).1,(Wk s::(Tn n (Wj s)).2.1,(Tn n (Wj s)).2.2)):=rfl
theorem iY {n:Nat} {s:TA} (h:(Tn n s).2.1=[]) (c:(Tn n s).2.2=0):(Tn n s).1=s:=by
 cases n with
 | zero=>rfl
 | succ n =>
  rw [ab] at h c ⊢;by_cases b:VK s=4
  ·rw [if_pos b]
  ·rw [if_neg b] at h ⊢;by_cases a:VK s≠0
   ·rw [if_pos a]
   ·rw [if_neg a] at h;cases h
theorem fW {n:Nat} {s:TA} (h:0<(Tn n s).2.1.length) : ∃ m,n=m+1/\VK s=0/\Tn n s=((Tn m (Wj s)).1,(Wk s::(Tn m (Wj s)).2.1,(Tn m (Wj s)).2.2)):=by
 cases n with
 | zero=>exact absurd h (by simp [Tn])
 | succ n =>
  rw [ab] at h ⊢;by_cases b:VK s=4
  ·rw [if_pos b] at h;exact absurd h (by simp)
  ·rw [if_neg b] at h ⊢;by_cases a:VK s≠0
   ·rw [if_pos a] at h;exact absurd h (by simp)
   ·rw [if_neg a];exact ⟨n,rfl,by simpa using a,rfl⟩
def mo (k:Nat) (u:Xy) (t:TA):Int×(Bool×(Int×(YD×(Int×(List (List TY)×(List Job×Int)))))):=((k:Int),(false,(u.2.2.1,(u.2.2.2,(t.1.1,(t.1.2,t.2))))))
def pQ (R:TA×(List (Int×Bool)×Int)):(Int×(Bool×(Int×(YD×(Int×(List (List TY)×(List Job×Int)))))))->Option (LR (Int×(Bool×(Int×(YD×(Int×(List (List TY)×(List Job×Int))))))) (Nat×((Int×(Bool×(Int×(YD×(Int×(List (List TY)×(List Job×Int)))))))×Unit))) :=
 (λ(a:(Int×(Bool×(Int×(YD×(Int×((List (List TY))×((List (Int×(TC×((Bool×TD)×((List S8)×Int)))))×Int))))))))=>br (SW a.1 (Kb (AS (R.2.1.map (·.1))))) (λ_=>bd (loop (λ(d:Bool×Int)=>RX a.1 λp=>ix (R.2.1.map (·.1)) p λq=>br (SW d.2 q) (λ_=>bd (UR ((((a.2.2.2.2.1,a.2.2.2.2.2.1),a.2.2.2.2.2.2),d.2))) λo=>br (RR o.2 0) (λ_=>br o.1 (λ_=>some (.dn ((0,((false,d.2),()))))) λ_=>some (.nx (d.1,Rl .i64 d.2 1))) λ_=>some (.nx (d.1,Rl .i64 d.2 1))) λ_=>some (.dn ((1,(d,()))))) (a.2.1,0)) λc=>br (neq c.1 0) (λ_=>some (.dn ((1,((a.1,(c.2.1.1,a.2.2)),()))))) λ_=>RX a.1 λk=>ix (R.2.1.map (·.1)) k λn=>bd (Uy ((((a.2.2.2.2.1,a.2.2.2.2.2.1),a.2.2.2.2.2.2),n))) λb=>br (RT b.2.2 0) (λ_=>some (.dn ((1,((a.1,(false,a.2.2)),()))))) λ_=>br b.2.1 (λ_=>RX a.1 λl=>ix (R.2.1.map (·.1)) l λi=>RX i λe=>gd (KC e 12) λ_=>RX i λf=>gd (KC f 12) λ_=>some (.nx ((Rl .i64 a.1 1,(c.2.1.1,(Rl .i64 a.2.2.1 1,((Yj a.2.2.2.1 e f),(b.1.1.1,(b.1.1.2,b.1.2))))))))) λ_=>RX a.1 λm=>ix (R.2.1.map (·.1)) m λj=>RX j λg=>gd (KC g 12) λ_=>RX j λh=>gd (KC h 12) λ_=>some (.nx ((Rl .i64 a.1 1,(c.2.1.1,(a.2.2.1,((Yj a.2.2.2.1 g h),(b.1.1.1,(b.1.1.2,b.1.2))))))))) λ_=>some (.dn ((0,(a,())))))
theorem ZW {s0:TA} {N:Nat} {R:TA×(List (Int×Bool)×Int)} (z:R.2.2=0) (P:R.2.1.length<=1000000) : ∀ l,(∃ k t,l=mo k (U3 zU (R.2.1.take k)) t/\k<=R.2.1.length/\Gd s0 t/\R=((Tn (N-k) t).1,(R.2.1.take k++(Tn (N-k) t).2.1,(Tn (N-k) t).2.2))) ->
  (∃ s',pQ R l=some (.nx s')/\(∃ k t,s'=mo k (U3 zU (R.2.1.take k)) t/\k<=R.2.1.length/\Gd s0 t/\R=((Tn (N-k) t).1,(R.2.1.take k++(Tn (N-k) t).2.1,(Tn (N-k) t).2.2)))/\R.2.1.length-s'.1.toNat<R.2.1.length-l.1.toNat)\/(∃ x,pQ R l=some (.dn x)/\x.1=0/\x.2.1=mo R.2.1.length (U3 zU R.2.1) R.1):=by
 rintro l ⟨k,t,rfl,G,i,h⟩;have I:=congrArg (λR=>R.2.1.length) h;simp only [List.length_append,List.length_take] at I;have F:(Tn (N-k) t).2.2=0:=by rw [h] at z;exact z
 by_cases p:k=R.2.1.length
 ·subst p;have J:(Tn (N-R.2.1.length) t).2.1=[]:=List.length_eq_zero_iff.1 (by omega)
  have L:R.1=t:=by
   have:=iY J F;rw [h];exact this
  refine .inr ⟨(0,(mo R.2.1.length (U3 zU (R.2.1.take R.2.1.length)) t,())),?_,rfl,by rw [List.take_length,L]⟩;show br (SW (R.2.1.length:Int) (Kb (AS (R.2.1.map (·.1))))) _ _=_;rw [Sr,if_neg (by simp [Kb,AS])]
 ·obtain ⟨m,O,e1,hc⟩:=fW (n:=N-k) (s:=t) (by omega);obtain ⟨n,n1,n2,n3⟩:=au i e1;obtain ⟨_,e2,e3⟩:=ZA i e1;obtain ⟨_,_,_,_,_,_,_,E⟩:=XB i e1;rw [hc] at h
  have A:R.2.1[k]? = some (Wk t):=by
   have:=congrArg (λR=>R.2.1[k]?) h;simp only at this;rw [this,List.getElem?_append_right (by simp;omega)];simp [List.length_take,Nat.min_eq_left G]
  have a:(R.2.1.map (·.1))[k]? = some (To t).1:=by rw [List.getElem?_map,A];rfl
  have j:R.2.1.take (k+1)=R.2.1.take k++[Wk t]:=by rw [List.take_add_one,A];rfl
  refine .inl ⟨mo (k+1) (U3 zU (R.2.1.take (k+1))) (Wj t),?_,⟨k+1,Wj t,rfl,by omega,E,?_⟩,?_⟩;rotate_left
  ·rw [j,show N-(k+1)=m by omega,List.append_assoc];exact h
  ·show R.2.1.length-((k+1:Nat):Int).toNat<R.2.1.length-(k:Int).toNat;omega
  show br (SW (k:Int) (Kb (AS (R.2.1.map (·.1))))) (λ_=>bd (loop _ (false,(0:Int))) _) _=_;rw [Sr,if_pos (by simp only [Kb,AS,List.length_map];omega)];refine TZ (x:=(1,((false,(n:Int)),()))) (XU (λq=>(false,(q:Int))) 0 n rfl (Nat.zero_le _) (by omega) (λq _ K => ?_) ?_) ?_
  ·show RX (k:Int) (λu=>ix (R.2.1.map (·.1)) u λy=>br (SW (q:Int) y) (λ_=>bd (UR (t,(q:Int))) _) _)=_;obtain ⟨c,D,B,C⟩:=fK i e1 n1 K;rw [S9,Sb a,Sr,if_pos (by omega),B,SL,Sn,TJ (by omega)];by_cases o:D=0
   ·rw [if_pos o,C o];rfl
   ·rw [if_neg o]
  ·show RX (k:Int) (λu=>ix (R.2.1.map (·.1)) u λy=>br (SW (n:Int) y) _ _)=_;rw [S9,Sb a,Sr,if_neg (by omega)]
  show br (neq 1 0) _ (λ_=>RX (k:Int) (λM=>ix (R.2.1.map (·.1)) M λw=>bd (Uy (t,w)) _))=_;rw [SM,if_neg (by decide),S9,Sb a,(YR i _).2,SL,Ss,if_pos e3,Sx];rw [j,nM];by_cases d:(Uw t (To t).1).2.1=true
  ·rw [if_pos d,md n3 d];show RX (k:Int) (λe=>ix (R.2.1.map (·.1)) e λb=>RX b λf=>gd (KC f 12) λ_=>RX b λg=>gd (KC g 12) _)=_;rw [S9,Sb a,n1,S9,ZU n2,S9,ZU n2];show some (LR.nx (Rl .i64 (k:Int) 1,_))=_;rw [TJ (by omega)];unfold Wj;rw [n1];rfl
  ·have r:(Uw t (To t).1).2.1=false:=by simpa using d
   rw [if_neg d,mc n3 r];show RX (k:Int) (λe=>ix (R.2.1.map (·.1)) e λb=>RX b λf=>gd (KC f 12) λ_=>RX b λg=>gd (KC g 12) _)=_;rw [S9,Sb a,n1,S9,ZU n2,S9,ZU n2];show some (LR.nx (Rl .i64 (k:Int) 1,_))=_;rw [TJ (by omega)];unfold Wj;rw [n1];rfl
theorem grantsLowest {x:TA×Int} (F : ∀ rs∈x.1.1.2,∀ r∈rs,r.2.length<=9223372036854775807) (B:0<=x.2/\x.2<=255):Um x=some true:=by
 obtain ⟨s,a⟩:=x;unfold Um;refine nh F ?_ λm hc => ?_
 ·rw [R5,Zc];rfl
 have hc:=oF hc;have q:0<=a/\a<=255:=B;show br false _ (λ_=>bd (U6 (s,SY .i64 (Su .i64 a) 60)) λo=>bd (U5 (s,SY .i64 (Su .i64 a) 60)) _)=_;have E:=mr (a:=a) (b:=60) q.1 (by decide);rw [nY (a:=a) (by omega)];obtain ⟨n,D⟩ : ∃ n,n=SY .i64 a 60:=⟨_,rfl⟩;rw [<- D] at E ⊢;rw [Rd,fE m hc,SL,fD m hc,SL,Ss];obtain ⟨N,A⟩ : ∃ N:Nat,N=n.toNat:=⟨_,rfl⟩;by_cases d:(YB s n).2.2=0;rotate_left
 ·have e1:(YB s n).2.1=zU/\(ZQ s n)=([],(YB s n).2.2):=by
   by_cases e:Wl s n=0
   ·have v:=(bK e).1;rw [cM v (by omega)] at d ⊢;rw [bo v (by omega)];by_cases c:(Tn n.toNat s).2.2=0
    ·rw [if_neg (by simp [c])] at d;exact absurd rfl d
    ·rw [if_pos c,if_pos c];exact ⟨rfl,rfl⟩
   ·unfold YB ZQ;rw [if_pos e,if_pos e];exact ⟨rfl,rfl⟩
  rw [if_neg d,e1.2,e1.1,Sn,if_pos rfl];show br true _ _=_;rw [R5];show br true _ _=_;rw [R5,Zc];rfl
 rw [if_pos d]
 have e:Wl s n=0:=by
  by_cases e:Wl s n=0
  ·exact e
  ·unfold YB at d;rw [if_pos e] at d;exact absurd d e
 have v:=(bK e).1;have j:=cM v (g:=n) (by omega);have l:=bo v (g:=n) (by omega);rw [<- A] at j l
 have c:(Tn N s).2.2=0:=by
  by_cases c:(Tn N s).2.2=0
  ·exact c
  ·rw [j,if_pos c] at d;exact absurd d c
 rw [if_neg (by simp [c])] at j l;have G:Gd s s:=⟨v,rfl,hc v⟩;obtain ⟨I,J,u,K,z⟩:=cI (N:=2000) (n:=N) G (hc v);have O:=fQ v;obtain ⟨R,p⟩ : ∃ R,R=Tn N s:=⟨_,rfl⟩;rw [<- p] at j l c I J u K z;rw [j,l,Ss,if_pos rfl];have y:=cx (s:=s) (n:=N) R.2.1 n (by omega)
 have L:(aL n (U3 zU R.2.1)).2.1=n-(R.2.1.length:Int):=by
  show Rp .i64 n (U3 zU R.2.1).1=_;rw [show (U3 zU R.2.1).1=_ from y];exact SB (by omega)
 have M:=cR R.2.1 zU (by decide) (by decide) (by show (0:Int)+_<=_;omega);rw [show (U3 zU R.2.1).1=_ from y] at M;show br (RT (Rl .i64 (aL n (U3 zU R.2.1)).1 (aL n (U3 zU R.2.1)).2.1) n) _ (λ_=>br (RT (Kb (AS (R.2.1.map (·.1)))) (aL n (U3 zU R.2.1)).1) _ λ_=>br (SU (U3 zU R.2.1).2.2.1 (aL n (U3 zU R.2.1)).1) _ λ_=>br (SU (aL n (U3 zU R.2.1)).2.1 0) (λ_=>br (SU (Kb (AS R.1.2.1)) 0) _ _) _)=_;rw [y,L,R9 (show _ by omega),Ss,if_pos (by omega),Ss,if_pos (by simp [Kb,AS]),Sp,if_neg (by omega),Sp];have f:n-(R.2.1.length:Int)>0->R.1.2.1=[]:=λh=>z c (by omega);split
 ·rename_i C;rw [Sp,if_neg (by rw [f C];decide)];refine Zd (λi => ∃ k t,i=mo k (U3 zU (R.2.1.take k)) t/\k<=R.2.1.length/\Gd s t/\R=((Tn (N-k) t).1,(R.2.1.take k++(Tn (N-k) t).2.1,(Tn (N-k) t).2.2))) (λr=>r.1=0/\r.2.1=mo R.2.1.length (U3 zU R.2.1) R.1) (λi=>R.2.1.length-i.1.toNat) ⟨0,s,rfl,Nat.zero_le _,G,by rw [p];simp⟩ (by show R.2.1.length-0<_;omega) (ZW c (by omega)) ?_;rintro r ⟨o,w⟩;rw [Ze,if_pos o,w];show br (oH (U3 zU R.2.1).2.2.2 (U3 zU R.2.1).2.2.2) (λ_=>br (RR (U3 zU R.2.1).2.2.1 (U3 zU R.2.1).2.2.1) (λ_=>bd (VJ (R.1,R.1)) _) _) _=_;rw [eJ,R5,Sn,if_pos rfl,aD u.1,SL,R5,Zc];rfl
 ·refine Zd (λi => ∃ k t,i=mo k (U3 zU (R.2.1.take k)) t/\k<=R.2.1.length/\Gd s t/\R=((Tn (N-k) t).1,(R.2.1.take k++(Tn (N-k) t).2.1,(Tn (N-k) t).2.2))) (λr=>r.1=0/\r.2.1=mo R.2.1.length (U3 zU R.2.1) R.1) (λi=>R.2.1.length-i.1.toNat) ⟨0,s,rfl,Nat.zero_le _,G,by rw [p];simp⟩ (by show R.2.1.length-0<_;omega) (ZW c (by omega)) ?_;rintro r ⟨o,w⟩;rw [Ze,if_pos o,w];show br (oH (U3 zU R.2.1).2.2.2 (U3 zU R.2.1).2.2.2) (λ_=>br (RR (U3 zU R.2.1).2.2.1 (U3 zU R.2.1).2.2.1) (λ_=>bd (VJ (R.1,R.1)) _) _) _=_;rw [eJ,R5,Sn,if_pos rfl,aD u.1,SL,R5,Zc];rfl
end
section
open Go Go.Proofs.YtfilfloanndddaaGreat.Sv
set_option maxRecDepth 100000
end
section
open Go Go.Proofs.YtfilfloanndddaaGreat.Sv
set_option maxRecDepth 100000
end
section
open Go Go.Proofs.YtfilfloanndddaaGreat.Sv
@[reducible] def tE:Ty:=.pair .str (.pair .str (.pair .bool (.int .i64)))
@[reducible] def tM:Ty:=.pair (.pair (.int .i64) (.sl true (.sl true (.pair (.int .i64) (.sl true tE))))) (.pair (.sl true (.pair (.int .i64) (.pair (.pair (.sl false (.sl true tE)) (.pair (.sl false (.int .i64)) (.pair (.sl true (.pair .str .bool)) (.pair (.sl false (.int .i64)) (.int .i64))))) (.pair (.pair .bool (.pair .str .bool)) (.pair (.sl true tE) (.int .i64)))))) (.int .i64))
theorem pL {s:TA} (h:Qk tM s) : ∀ rs∈s.1.2,∀ r∈rs,r.2.length<=9223372036854775807:=by
 obtain ⟨⟨_,d,c⟩,_⟩:=h;exact λrs b r a=>((c rs b).2 r a).2.1
theorem pV {b:Int} (h:Qk (.int .u8) b):0<=b/\b<=255:=by
 have a:(decide (IntKind.min .u8<=b)&&decide (b<=IntKind.max .u8))=true:=h;rw [Bool.and_eq_true,decide_eq_true_eq,decide_eq_true_eq] at a;exact a
theorem cj {x:TA×Int} (h:Ql [(true,tM),(false,.int .u8)] x):Um x=some true:=grantsLowest (pL h.1) (pV h.2)
end
end Go.Proofs.YtfilfloanndddaaGreat.Pl
