/- Functions of the program and of the specification as plain functions, and laws about them. No condition. -/
import Derived.Test.YtfilfloanndddaaGreatPl2
import Derived.KernelRfl
set_option linter.all false
namespace Go.Proofs.YtfilfloanndddaaGreat.Pl
section
open Go Go.Proofs.YtfilfloanndddaaGreat.Sv
theorem cq {α β γ:Type} {f:α->Option (LR α β)} {K:β->Option γ} {R:Option γ} (Inv:α->Prop) (Q:β->Prop) (m:α->Nat) {s:α} (hs:Inv s) (b:m s<18446744073709551616)
  (step : ∀ s,Inv s->(∃ s',f s=some (.nx s')/\Inv s'/\m s'<m s)\/(∃ x,f s=some (.dn x)/\Q x)) (a : ∀ x,Q x->K x=R):bd (loop f s) K=R:=by
 obtain ⟨x,e,q⟩:=Rr Inv Q m hs b step;rw [e];exact a x q
theorem cr {β:Type} (n:Nat) (x y:Unit->Option β):br (neq n 0) x y=if n=0 then x () else y ():=by
 rw [SM]
def zU:X4:=(0,(0,(0,(0,(0,(0,(0,(0,(0,(0,(0,(0,(0,(0,0))))))))))))))
def e9 (g:Int) (u:X4):X4:=(u.1,(Rp .i64 g u.1,u.2.2))
def XC (s:TA) (g:Int):Int:=if (TE s).2≠0 then (TE s).2 else if g<0\/g>1000000 then 7 else 0
def ZI (s:TA) (g:Int):TA×(X4×Int):=if XC s g≠0 then (zS,(zU,XC s g)) else if (Tv g.toNat s).2.2≠0 then (zS,(zU,(Tv g.toNat s).2.2)) else ((Tv g.toNat s).1,(e9 g (YH zU (Tv g.toNat s).2.1),0))
def YD (s:TA) (g:Int):List Int×Int:=if XC s g≠0 then ([],XC s g) else if (Tv g.toNat s).2.2≠0 then ([],(Tv g.toNat s).2.2) else ((Tv g.toNat s).2.1.map (·.1),0)
def dm (s:TA) (e:Int) (u:X4):(Int×(List (List Tb)×(List Job×(Int×Int))))×X4:=((s.1.1,(s.1.2,(s.2.1,(s.2.2,e)))),u)
def fE (s:TA) (e:Int) (l:List Int) (u:X4):(Int×(List (List Tb)×(List Job×(Int×Int))))×(List Int×X4):=((s.1.1,(s.1.2,(s.2.1,(s.2.2,e)))),(l,u))
theorem lJ {s0 s:TA} (g:Gd s0 s):Vh s=4/\(Tx s).2=4\/Vh s≠4/\Vh s≠0/\(Tx s).2≠4/\((Tx s).2=Vh s\/(Tx s).2=0/\(Uz s (Tx s).1).2.2=Vh s)\/Vh s=0/\(Tx s).2=0/\(Uz s (Tx s).1).2.2=0:=by
 by_cases a:Vh s=4
 ·exact .inl ⟨a,(bN g a).1⟩
 ·by_cases b:Vh s=0
  ·have:=bM g b;exact .inr (.inr ⟨b,this.1,this.2.2⟩)
  ·refine .inr (.inl ⟨a,b,?_⟩);unfold Vh at a b ⊢;by_cases c:(Tx s).2≠0
   ·rw [if_pos c] at a ⊢;exact ⟨a,.inl rfl⟩
   ·have d:(Tx s).2=0:=by simpa using c
    rw [if_neg c];rw [d];exact ⟨by decide,.inr ⟨rfl,rfl⟩⟩
theorem ly {u:X4} {x:Int×Bool} (h:0<=u.1/\u.1<=1000000):(X5 u x).1=u.1+1:=by
 show Rl .i64 u.1 1=_;exact R9 (by omega)
def At (s0:TA) (g:Int) (T:TA×((List Int×X4)×Int)) (k:Nat) (s:TA) (l:List Int) (u:X4):Prop:=Gd s0 s/\0<=u.1/\u.1+k=g/\g<=1000000/\(l.length:Int)=u.1/\T=((Tv k s).1,((l++(Tv k s).2.1.map (·.1),YH u (Tv k s).2.1),(Tv k s).2.2))
theorem At.step {s0 s:TA} {g:Int} {T:TA×((List Int×X4)×Int)} {k:Nat} {l:List Int} {u:X4} (a:At s0 g T (k+1) s l u) (e:Vh s=0):At s0 g T k (XK s) (l++[(W1 s).1]) (X5 u (W1 s)):=by
 obtain ⟨c,h,i,d,j,f⟩:=a;obtain ⟨_,_,_,_,_,_,_,b⟩:=XB c e;have m:=ly (x:=W1 s) (show 0<=u.1/\u.1<=1000000 by omega);refine ⟨b,by omega,by omega,d,by simp;omega,?_⟩;rw [f];simp only [Tv,e,ne_eq,not_true_eq_false,if_false,List.map_cons,List.append_assoc,List.cons_append,List.nil_append];rfl
theorem At.none {s0 s:TA} {g:Int} {T:TA×((List Int×X4)×Int)} {k:Nat} {l:List Int} {u:X4} (a:At s0 g T k s l u) (e:Vh s=4):T=(s,((l,u),0)):=by
 rw [a.2.2.2.2.2];cases k<;>simp [Tv,e,YH]
theorem At.fail {s0 s:TA} {g:Int} {T:TA×((List Int×X4)×Int)} {k:Nat} {l:List Int} {u:X4} (a:At s0 g T (k+1) s l u) (c:Vh s≠4) (b:Vh s≠0):T=(s,((l,u),Vh s)):=by
 rw [a.2.2.2.2.2];simp [Tv,c,b,YH]
theorem At.last {s0 s:TA} {g:Int} {T:TA×((List Int×X4)×Int)} {l:List Int} {u:X4} (a:At s0 g T 0 s l u):T=(s,((l,u),0)):=by
 rw [a.2.2.2.2.2];simp [Tv,YH]
theorem dE {s0 s:TA} (g:Gd s0 s) (e:Vh s=0) : ∃ n:Nat,(Tx s).1=(n:Int)/\n<12/\(Tx s).1.toNat=n:=by
 obtain ⟨n,_,a,b,_⟩:=XB g e;exact ⟨n,a,b,by rw [show (Tx s).1=(n:Int) from a];simp⟩
theorem c0 {β:Type} {a b:Nat} (h:a<b) (k:Unit->Option β):gd (KC a b) k=k ():=by
 have:KC a b=true:=by unfold KC;simpa using h
 rw [this];rfl
theorem l7 {u:X4} {s:TA} {n:Nat} (h:(Tx s).1.toNat=n) (a:(Uz s (Tx s).1).2.1=true):X5 u (W1 s)=(Rl .i64 u.1 1,(u.2.1,(Rl .i64 u.2.2.1 1,ZP u.2.2.2 n n))):=by
 unfold X5 W1;rw [a,if_pos rfl,h]
theorem lz {u:X4} {s:TA} {n:Nat} (h:(Tx s).1.toNat=n) (a:(Uz s (Tx s).1).2.1=false):X5 u (W1 s)=(Rl .i64 u.1 1,(u.2.1,(u.2.2.1,ZP u.2.2.2 n n))):=by
 unfold X5 W1;rw [a,if_neg (by simp),h]
theorem Zw {γ:Type} {t:TA} {u:X4} {g:Int} {n:Nat} (c:0<=u.1/\u.1<=1000000) (e3:(Uz t (Tx t).1).2.2=0) (n3:(Tx t).1.toNat=n) (D N:Int->X4->Option γ) :
  (br (Uz t (Tx t).1).2.1 (λ_=>br (RR (Rl .i64 u.1 1) g) (λ_=>D (Uz t (Tx t).1).2.2 (Rl .i64 u.1 1,(u.2.1,(Rl .i64 u.2.2.1 1,ZP u.2.2.2 n n)))) λ_=>N (Uz t (Tx t).1).2.2 (Rl .i64 u.1 1,(u.2.1,(Rl .i64 u.2.2.1 1,ZP u.2.2.2 n n)))) λ_=>br (RR (Rl .i64 u.1 1) g) (λ_=>D (Uz t (Tx t).1).2.2 (Rl .i64 u.1 1,(u.2.1,(u.2.2.1,ZP u.2.2.2 n n)))) λ_=>N (Uz t (Tx t).1).2.2 (Rl .i64 u.1 1,(u.2.1,(u.2.2.1,ZP u.2.2.2 n n))))=if u.1+1=g then D 0 (X5 u (W1 t)) else N 0 (X5 u (W1 t)):=by
 have hi:Rl .i64 u.1 1=u.1+1:=R9 (by omega);rw [Sx,Sn,Sn,hi,e3];by_cases a:(Uz t (Tx t).1).2.1=true
 ·rw [if_pos a,l7 n3 a,hi]
 ·have b:(Uz t (Tx t).1).2.1=false:=by simpa using a
  rw [if_neg a,lz n3 b,hi]
theorem XV {s:TA} {g:Int} (h:(TE s).2≠0):XC s g=(TE s).2:=if_pos h
theorem Yk {s:TA} {g:Int} (a:(TE s).2=0) (h:g<0\/g>1000000):XC s g=7:=by unfold XC;rw [if_neg (by simp [a]),if_pos h]
theorem ZY {s:TA} {g:Int} (a:(TE s).2=0) (h : ¬ (g<0\/g>1000000)):XC s g=0:=by unfold XC;rw [if_neg (by simp [a]),if_neg h]
def ql (g:Int):((Int×(List (List Tb)×(List Job×(Int×Int))))×X4)->Option (LR ((Int×(List (List Tb)×(List Job×(Int×Int))))×X4) (Nat×(((Int×(List (List Tb)×(List Job×(Int×Int))))×X4)×Unit))) :=
 (λ(a:((Int×((List (List Tb))×((List (Int×(TC×((Bool×TD)×((List S8)×Int)))))×(Int×Int))))×X4))=>bd (Td (((a.1.1,a.1.2.1),(a.1.2.2.1,a.1.2.2.2.1)))) λc=>br (RR c.2 4) (λ_=>some (.dn ((0,(a,()))))) λ_=>br (RR c.2 0) (λ_=>bd (Te ((((a.1.1,a.1.2.1),(a.1.2.2.1,a.1.2.2.2.1)),c.1))) λb=>br (RT b.2.2 0) (λ_=>some (.dn ((0,(((a.1.1,(a.1.2.1,(a.1.2.2.1,(a.1.2.2.2.1,b.2.2)))),a.2),()))))) λ_=>bd (VO (c.1,b.2.1)) λi=>RX c.1 λf=>gd (KC f 12) λ_=>RX c.1 λh=>gd (KC h 12) λ_=>br b.2.1 (λ_=>br (RR (Rl .i64 a.2.1 1) g) (λ_=>some (.dn ((1,(((b.1.1.1,(b.1.1.2,(b.1.2.1,(b.1.2.2,b.2.2)))),(Rl .i64 a.2.1 1,(a.2.2.1,(Rl .i64 a.2.2.2.1 1,(ZP a.2.2.2.2 f h))))),()))))) λ_=>some (.nx (((b.1.1.1,(b.1.1.2,(b.1.2.1,(b.1.2.2,b.2.2)))),(Rl .i64 a.2.1 1,(a.2.2.1,(Rl .i64 a.2.2.2.1 1,(ZP a.2.2.2.2 f h)))))))) λ_=>br (RR (Rl .i64 a.2.1 1) g) (λ_=>some (.dn ((1,(((b.1.1.1,(b.1.1.2,(b.1.2.1,(b.1.2.2,b.2.2)))),(Rl .i64 a.2.1 1,(a.2.2.1,(a.2.2.2.1,(ZP a.2.2.2.2 f h))))),()))))) λ_=>some (.nx (((b.1.1.1,(b.1.1.2,(b.1.2.1,(b.1.2.2,b.2.2)))),(Rl .i64 a.2.1 1,(a.2.2.1,(a.2.2.2.1,(ZP a.2.2.2.2 f h)))))))) λ_=>br (RT c.2 0) (λ_=>some (.dn ((0,(((a.1.1,(a.1.2.1,(a.1.2.2.1,(a.1.2.2.2.1,c.2)))),a.2),()))))) λ_=>bd (VO (c.1,false)) λj=>RX c.1 λd=>gd (KC d 12) λ_=>RX c.1 λe=>gd (KC e 12) λ_=>br (RR (Rl .i64 a.2.1 1) g) (λ_=>some (.dn ((1,(((0,([],([],(0,c.2)))),(Rl .i64 a.2.1 1,(a.2.2.1,(a.2.2.2.1,(ZP a.2.2.2.2 d e))))),()))))) λ_=>some (.nx (((0,([],([],(0,c.2)))),(Rl .i64 a.2.1 1,(a.2.2.1,(a.2.2.2.1,(ZP a.2.2.2.2 d e))))))))
theorem bh {s0 s:TA} (G:Gd s0 s) {g:Int} (L:g>0) (J:g<=1000000) {γ:Type} {K:(Nat×(((Int×(List (List Tb)×(List Job×(Int×Int))))×X4)×Unit))->Option γ} {R:Option γ} (h : ∀ r:(Nat×(((Int×(List (List Tb)×(List Job×(Int×Int))))×X4)×Unit)),r.2.1=dm (Tv g.toNat s).1 (Tv g.toNat s).2.2 (YH zU (Tv g.toNat s).2.1)->K r=R):bd (loop (ql g) (dm s 0 zU)) K=R:=by
 obtain ⟨b,o⟩ : ∃ b:Nat,b=g.toNat:=⟨_,rfl⟩;rw [<- o] at h;obtain ⟨T,w⟩ : ∃ T,T=((Tv b s).1,(((Tv b s).2.1.map (·.1),YH zU (Tv b s).2.1),(Tv b s).2.2)):=⟨_,rfl⟩;refine cq (λi => ∃ k t l u,i=dm t 0 u/\At s0 g T (k+1) t l u) (λr=>r.2.1=dm T.1 T.2.2 T.2.1.2) (λi=>(g-i.2.1).toNat) ⟨b-1,s,[],zU,rfl,G,by decide,?_,by omega,rfl,?_⟩ ?_ ?_ ?_
 ·show (0:Int)+_=g;omega
 ·rw [w,show b-1+1=b by omega];rfl
 ·show (g-0).toNat<_;omega
 ·rintro i ⟨k,t,l,u,rfl,a⟩;obtain ⟨c,A,D,E,F,I⟩:=id a;rcases lJ c with ⟨e1,e2⟩ | ⟨e1,e2,e3,d⟩ | ⟨e1,e2,e3⟩
  ·refine .inr ⟨(0,(dm t 0 u,())),?_,by rw [a.none e1]⟩;show bd (Td t) _=_;rw [(W9 c).1,SL,Sn,if_pos e2]
  ·have C:=a.fail e1 e2;refine .inr ⟨(0,(dm t (Vh t) u,())),?_,by rw [C]⟩;show bd (Td t) _=_;rw [(W9 c).1,SL,Sn,if_neg e3,Sn];rcases d with d | ⟨d,q⟩
   ·rw [if_neg (by rw [d];exact e2),Ss,if_neg (by rw [d];exact e2),d];rfl
   ·rw [if_pos d];show bd (Te (t,(Tx t).1)) _=_;rw [(Yz c _).1,SL,Ss,if_neg (by rw [q];exact e2),q];rfl
  ·obtain ⟨n,n1,n2,n3⟩:=dE c e1;have M:=ly (x:=W1 t) (show 0<=u.1/\u.1<=1000000 by omega);have y:=a.step e1
   have j : ∀ {R},(if u.1+1=g then some (LR.dn (1,(dm (XK t) 0 (X5 u (W1 t)),()))) else some (LR.nx (dm (XK t) 0 (X5 u (W1 t)))))=R->(∃ s',R=some (.nx s')/\(∃ k t l u,s'=dm t 0 u/\At s0 g T (k+1) t l u)/\(g-s'.2.1).toNat<(g-(dm t 0 u).2.1).toNat)\/(∃ x,R=some (.dn x)/\x.2.1=dm T.1 T.2.2 T.2.1.2):=fun {R} f=>by
    by_cases z:u.1+1=g
    ·rw [if_pos z] at f;have h:k=0:=by omega
     subst h;exact .inr ⟨_,f.symm,by rw [y.last]⟩
    ·rw [if_neg z] at f;obtain ⟨p,m⟩ : ∃ p,k=p+1:=⟨k-1,by omega⟩;refine .inl ⟨_,f.symm,⟨p,_,_,_,rfl,by rw [<- m];exact y⟩,?_⟩;show (g-(X5 u (W1 t)).1).toNat<(g-u.1).toNat;omega
   refine j ?_;symm;show bd (Td t) _=_;rw [(W9 c).1,SL,Sn,if_neg (by rw [e2];decide),Sn,if_pos e2];show bd (Te (t,(Tx t).1)) _=_;rw [(Yz c _).1,SL,Ss,if_pos e3];show bd (some ()) _=_;rw [SL,n1,S9,c0 n2,S9,c0 n2,<- n1];exact Zw (u:=u) ⟨A,by omega⟩ e3 n3 (λe u=>some (LR.dn (1,(dm (XK t) e u,())))) (λe u=>some (LR.nx (dm (XK t) e u)))
 ·intro r B;refine h r ?_;rw [B,w]
theorem da {s:TA} (m:Sm s) (hc:VSt s->UW s.1.2.flatten<=2000) (g:Int):U1 (s,g)=some (ZI s g):=by
 unfold U1 ZI;rw [mi m,SL,Ss];by_cases a:(TE s).2=0;rotate_left
 ·rw [if_neg a,XV a,if_pos a,Ss,if_neg a];rfl
 rw [if_pos a,Sr,Sp];by_cases b:g<0
 ·rw [if_pos b,Yk a (.inl b),if_pos (by decide)];rfl
 by_cases c:g>1000000
 ·rw [if_neg b,if_pos c,Yk a (.inr c),if_pos (by decide)];rfl
 rw [if_neg b,if_neg c,ZY a (by omega),if_neg (by decide),Sp];have v:=TN.1 a;have G:Gd s s:=⟨v,rfl,hc v⟩;by_cases d:g>0;rotate_left
 ·have:g=0:=by omega
  subst this;rw [if_neg d];rfl
 rw [if_pos d];refine bh G d (by omega) λr e => ?_
 have key:(br (RT r.2.1.1.2.2.2.2 0) (λ_=>some (((((0:Int),([]:List (List Tb))),(([]:List Job),(0:Int))),(zU,r.2.1.1.2.2.2.2)))) λ_=>some ((((r.2.1.1.1,r.2.1.1.2.1),(r.2.1.1.2.2.1,r.2.1.1.2.2.2.1)),((r.2.1.2.1,(Rp .i64 g r.2.1.2.1,r.2.1.2.2.2)),(0:Int)))))=some (if (Tv g.toNat s).2.2≠0 then (zS,(zU,(Tv g.toNat s).2.2)) else ((Tv g.toNat s).1,(e9 g (YH zU (Tv g.toNat s).2.1),0))):=by
  rw [e,Ss];show (if (Tv g.toNat s).2.2=0 then _ else _)=_
  by_cases h:(Tv g.toNat s).2.2=0
  ·rw [if_pos h,if_neg (by simp [h])];rfl
  ·rw [if_neg h,if_pos h];rfl
 rw [cr];split
 ·exact key
 ·exact key
theorem ZB {s:TA} (m:Sm s) (hc:VSt s->UW s.1.2.flatten<=2000) (g:Int):UF (s,g)=some (YD s g):=by
 unfold UF YD;rw [mi m,SL,Ss];by_cases c:(TE s).2=0;rotate_left
 ·rw [if_neg c,XV c,if_pos c,Ss,if_neg c]
 rw [if_pos c,Sr,Sp];by_cases i:g<0
 ·rw [if_pos i,Yk c (.inl i),if_pos (by decide)]
 by_cases q:g>1000000
 ·rw [if_neg i,if_pos q,Yk c (.inr q),if_pos (by decide)]
 rw [if_neg i,if_neg q,ZY c (by omega),if_neg (by decide),Sp];have v:=TN.1 c;have G:Gd s s:=⟨v,rfl,hc v⟩;by_cases B:g>0;rotate_left
 ·have:g=0:=by omega
  subst this;rw [if_neg B];rfl
 rw [if_pos B];obtain ⟨b,y⟩ : ∃ b:Nat,b=g.toNat:=⟨_,rfl⟩;rw [<- y];obtain ⟨T,C⟩ : ∃ T,T=((Tv b s).1,(((Tv b s).2.1.map (·.1),YH zU (Tv b s).2.1),(Tv b s).2.2)):=⟨_,rfl⟩;refine cq (λo => ∃ k t l u,o=fE t 0 l u/\At s g T (k+1) t l u) (λr=>r.2.1=fE T.1 T.2.2 T.2.1.1 T.2.1.2) (λo=>(g-o.2.2.1).toNat) ⟨b-1,s,[],zU,rfl,G,by decide,?_,by omega,rfl,?_⟩ ?_ ?_ ?_
 ·show (0:Int)+_=g;omega
 ·rw [C,show b-1+1=b by omega];rfl
 ·show (g-0).toNat<_;omega
 ·rintro o ⟨k,t,l,u,rfl,a⟩;obtain ⟨d,F,L,M,N,O⟩:=id a;rcases lJ d with ⟨e1,e2⟩ | ⟨e1,e2,e3,f⟩ | ⟨e1,e2,e3⟩
  ·refine .inr ⟨(0,(fE t 0 l u,())),?_,by rw [a.none e1]⟩;show bd (Td t) _=_;rw [(W9 d).1,SL,Sn,if_pos e2]
  ·have K:=a.fail e1 e2;refine .inr ⟨(0,(fE t (Vh t) l u,())),?_,by rw [K]⟩;show bd (Td t) _=_;rw [(W9 d).1,SL,Sn,if_neg e3,Sn];rcases f with f | ⟨f,A⟩
   ·rw [if_neg (by rw [f];exact e2),Ss,if_neg (by rw [f];exact e2),f];rfl
   ·rw [if_pos f];show bd (Te (t,(Tx t).1)) _=_;rw [(Yz d _).1,SL,Ss,if_neg (by rw [A];exact e2),A];rfl
  ·obtain ⟨n,n1,n2,n3⟩:=dE d e1;have P:=ly (x:=W1 t) (show 0<=u.1/\u.1<=1000000 by omega);have D:=a.step e1
   have p : ∀ {R},(if u.1+1=g then some (LR.dn (1,(fE (XK t) 0 (l++[(W1 t).1]) (X5 u (W1 t)),()))) else some (LR.nx (fE (XK t) 0 (l++[(W1 t).1]) (X5 u (W1 t)))))=R->(∃ s',R=some (.nx s')/\(∃ k t l u,s'=fE t 0 l u/\At s g T (k+1) t l u)/\(g-s'.2.2.1).toNat<(g-(fE t 0 l u).2.2.1).toNat)\/(∃ x,R=some (.dn x)/\x.2.1=fE T.1 T.2.2 T.2.1.1 T.2.1.2):=fun {R} j=>by
    by_cases E:u.1+1=g
    ·rw [if_pos E] at j;have I:k=0:=by omega
     subst I;exact .inr ⟨_,j.symm,by rw [D.last]⟩
    ·rw [if_neg E] at j;obtain ⟨z,w⟩ : ∃ z,k=z+1:=⟨k-1,by omega⟩;refine .inl ⟨_,j.symm,⟨z,_,_,_,rfl,by rw [<- w];exact D⟩,?_⟩;show (g-(X5 u (W1 t)).1).toNat<(g-u.1).toNat;omega
   refine p ?_;symm;show bd (Td t) _=_;rw [(W9 d).1,SL,Sn,if_neg (by rw [e2];decide),Sn,if_pos e2];show bd (Te (t,(Tx t).1)) _=_;rw [(Yz d _).1,SL,Ss,if_pos e3];show gd (CD (BD l.length [(Tx t).1].length) 1048576) _=_;rw [Tw (by simp only [BD,List.length_cons,List.length_nil];omega),n1,S9,c0 n2,S9,c0 n2,<- n1];exact Zw (u:=u) ⟨F,by omega⟩ e3 n3 (λe u=>some (LR.dn (1,(fE (XK t) e (l++[(Tx t).1]) u,())))) (λe u=>some (LR.nx (fE (XK t) e (l++[(Tx t).1]) u)))
 ·intro r J
  have key:(br (RT r.2.1.1.2.2.2.2 0) (λ_=>some (([]:List Int),r.2.1.1.2.2.2.2)) λ_=>some (r.2.1.2.1,(0:Int)))=some (if (Tv b s).2.2≠0 then ([],(Tv b s).2.2) else ((Tv b s).2.1.map (·.1),0)):=by
   rw [J,C,Ss];show (if (Tv b s).2.2=0 then _ else _)=_
   by_cases h:(Tv b s).2.2=0
   ·rw [if_pos h,if_neg (by simp [h])];rfl
   ·rw [if_neg h,if_pos h];rfl
  rw [cr];split
  ·exact key
  ·exact key
end
section
open Go Go.Proofs.YtfilfloanndddaaGreat.Sv
end
section
open Go Go.Proofs.YtfilfloanndddaaGreat.Sv
theorem mo {s t:TA} {n:Nat} {j:Job} {b:Bool} (v:VSt s) (F:StepF s n j t b) {i:Nat} (a:i≠n) (f:(TG s.1.2 i).length=2):TG t.1.2 i=TG s.1.2 i/\UK t.2.1 (i:Int)=UK s.2.1 (i:Int):=by
 by_cases k:0<TY s.1 j
 ·obtain ⟨_,e1,_,e2⟩:=F.read k;exact ⟨by rw [e1],by rw [e2,if_neg a]⟩
 ·obtain ⟨_,e1,_,e2,e3,g⟩:=F.inst (by omega)
  have e : ¬ (UO j≠[]/\i=Xi s j):=λ⟨c,hi⟩=>by
   rcases e3 with e3 | ⟨e3,_,h⟩
   ·exact a (by rw [hi,e3])
   ·have:=h c;rw [<- e3,<- hi] at this;omega
  have c:TG t.1.2 i=TG s.1.2 i:=by rw [e2,if_neg e,if_neg a]
  refine ⟨c,?_⟩;obtain ⟨j',d⟩:=v.hasJob f;rw [g,c,if_pos f,if_neg a,d];rfl
theorem mq {s0 s:TA} (g:Gd s0 s) (e:Vh s=0) {i:Nat} (b:(TG s.1.2 i).length=2) (f:W1 s≠((i:Int),true)):(TG (XK s).1.2 i).length=2:=by
 obtain ⟨n,j,d,k,h,hc,F,_⟩:=XB g e;by_cases a:i=n
 ·subst a;by_cases c:0<TY s.1 j
  ·rw [(F.read c).2.1];exact b
  ·exact absurd (Prod.ext d (F.inst (by omega)).1) f
 ·rw [(mo g.1 F a b).1];exact b
def bL (a:Int):Nat->Nat->TA->Int×Int
 | 0,_,_=>(0,0)
 | k+1,n,s=>if Vh s≠0 then (0,Vh s) else if W1 s=(a,true) then (((n+1:Nat):Int),0) else bL a k (n+1) (XK s)
theorem dt {s:TA} (v:VSt s):eP 2000 s<=48024:=by
 have b:=lX 2000 v;have a:=ef v.lev;have:=Nat.mul_le_mul_right 2001 a;omega
def NAt (s0:TA) (a:Int) (T:Int×Int) (k n:Nat) (s:TA):Prop:=Gd s0 s/\eP 2000 s<k/\n+k<=60000/\T=bL a k n s /\ ∃ i:Nat,a=(i:Int)/\(TG s.1.2 i).length=2
theorem NAt.fail {s0 s:TA} {d:Int} {T:Int×Int} {k n:Nat} (a:NAt s0 d T k n s) (e:Vh s≠0):T=(0,Vh s):=by
 obtain ⟨_,f,_,c,_⟩:=a;obtain ⟨b,rfl⟩ : ∃ b,k=b+1:=⟨k-1,by omega⟩;rw [c];simp [bL,e]
theorem NAt.hit {s0 s:TA} {c:Int} {T:Int×Int} {k n:Nat} (a:NAt s0 c T k n s) (e:Vh s=0) (h:W1 s=(c,true)):T=(((n+1:Nat):Int),0):=by
 obtain ⟨_,f,_,d,_⟩:=a;obtain ⟨b,rfl⟩ : ∃ b,k=b+1:=⟨k-1,by omega⟩;rw [d];simp [bL,e,h]
theorem NAt.next {s0 s:TA} {d:Int} {T:Int×Int} {k n:Nat} (a:NAt s0 d T k n s) (e:Vh s=0) (h:W1 s≠(d,true)) : ∃ b,k=b+1/\NAt s0 d T b (n+1) (XK s)/\eP 2000 (XK s)<eP 2000 s:=by
 obtain ⟨c,m,o,j,i,f,l⟩:=a;obtain ⟨b,rfl⟩ : ∃ b,k=b+1:=⟨k-1,by omega⟩;obtain ⟨_,_,_,_,_,_,_,g⟩:=XB c e;have p:=(dH c c.2.2 e).1;refine ⟨b,rfl,⟨g,by omega,by omega,?_,i,f,mq c e l (by rw [<- f];exact h)⟩,by omega⟩;rw [j];simp [bL,e,h]
end
section
open Go Go.Proofs.YtfilfloanndddaaGreat.Sv
end
section
open Go Go.Proofs.YtfilfloanndddaaGreat.Sv
theorem cj (l:List S8) (b:Bool) (m:b=false) : ∃ r,loop (β:=Nat×((Int×Bool)×Unit)) (λa=>br (SW a.1 (l.length:Int)) (λ_=>br (SW a.1 50) (λ_=>RX a.1 λn=>ix l n λi=>br (SU (MW i.1:Int) 100) (λ_=>some (.dn ((0,((a.1,true),()))))) λ_=>RX a.1 λg=>ix l g λj=>br (SU (MW j.2.1:Int) 100) (λ_=>some (.dn ((0,((a.1,true),()))))) λ_=>some (.nx (Rl .i64 a.1 1,a.2))) λ_=>some (.dn ((1,(a,()))))) λ_=>some (.dn ((1,(a,()))))) ((0:Int),b)=some r/\((r.1=1/\r.2.1.2=false)\/(r.1=0/\r.2.1.2=true)):=by
 subst m
 exact Yu (l:=l) (σ:=Unit) 50 (by omega) (λk _=>((k:Int),false)) (λ_ _=>True) (λ(r:Nat×((Int×Bool)×Unit))=>(r.1=1/\r.2.1.2=false)\/(r.1=0/\r.2.1.2=true)) () rfl trivial (λk _ h d _=>⟨_,(ka (c:=50) h d _ _ _ rfl),.inl ⟨rfl,rfl⟩⟩) (λk x _ f d _=>by
  simp only;have e:=(List.getElem?_eq_some_iff.1 f).1;rw [rl e,R5,show SW (k:Int) 50=true from dC d,R5,S9,Sb f,Sp,S9,Sb f,Sp,TK (by omega)]
  repeat' split
  all_goals first | exact .inr ⟨_,rfl,.inr ⟨rfl,rfl⟩⟩ | exact .inl ⟨(),rfl,trivial⟩)
def mz (n:Int) (rs:List Tb):Prop:=0<=n/\n<=1000000000 /\ ∀ r∈rs,r.2.length<=5000
theorem aw {rs:List Tb} {k:Nat} (h : ∀ r∈rs,r.2.length<=5000) (d:k<=20):UW (rs.take k)<=100000:=by
 have b:=cw (l:=rs.take k) λr a=>h r (List.mem_of_mem_take a);have c:(rs.take k).length<=k:=by rw [List.length_take];omega
 omega
theorem dz {L:List (List Tb)} {i:Nat} {rs:List Tb} (hi:L[i]? = some rs) (n:Int) (b:Bool) (B:b=false) : ∃ r,loop (β:=Nat×((Int×(Int×Bool))×Unit)) (λs1=>RX (i:Int) λC=>ix L C λI=>br (SW s1.2.1 (I.length:Int)) (λ_=>br (SW s1.2.1 9) (λ_=>RX (i:Int) λD=>ix L D λJ=>RX s1.2.1 λE=>ix J E λf=>bd (loop (λa=>br (SW a.1 (f.2.length:Int)) (λ_=>br (SW a.1 50) (λ_=>RX a.1 λF=>ix f.2 F λw=>br (SU (MW w.1:Int) 100) (λ_=>some (.dn (((0:Nat),((a.1,true),()))))) λ_=>RX a.1 λt=>ix f.2 t λy=>br (SU (MW y.2.1:Int) 100) (λ_=>some (.dn ((0,((a.1,true),()))))) λ_=>some (.nx (Rl .i64 a.1 1,a.2))) λ_=>some (.dn ((1,(a,()))))) λ_=>some (.dn ((1,(a,()))))) ((0:Int),s1.2.2)) λe=>br (neq e.1 0) (λ_=>some (.dn ((1,((Rl .i64 s1.1 (f.2.length:Int),(s1.2.1,e.2.1.2)),()))))) λ_=>some (.nx ((Rl .i64 s1.1 (f.2.length:Int),(Rl .i64 s1.2.1 1,e.2.1.2))))) λ_=>some (.dn ((0,(s1,()))))) λ_=>some (.dn ((0,(s1,()))))) (n,((0:Int),b))=some r/\((r.1=0/\r.2.1.2.2=false/\(rs.length<=8->mz n rs->r.2.1.1=n+(UW rs:Int)))\/(r.1=1/\r.2.1.2.2=true)):=by
 subst B
 exact Yu (l:=rs) (σ:=Int) 9 (by omega) (λk m=>(m,((k:Int),false))) (λk m=>mz n rs->m=n+(UW (rs.take k):Int)) (λ(r:Nat×((Int×(Int×Bool))×Unit))=>(r.1=0/\r.2.1.2.2=false/\(rs.length<=8->mz n rs->r.2.1.1=n+(UW rs:Int)))\/(r.1=1/\r.2.1.2.2=true)) n rfl (λ_=>by simp [UW]) (λk m h p o=>⟨_,by
  rw [S9,Sb hi];exact (ka (c:=9) h p _ _ _ rfl),.inl ⟨rfl,rfl,λP d=>by
   have q:k=rs.length:=by omega
   subst q;have:=o d;rw [List.take_length] at this
   exact this⟩⟩) (λk x m g p o=>by
  simp only;have s:=(List.getElem?_eq_some_iff.1 g).1;obtain ⟨r,G,j⟩:=cj x.2 false rfl;rw [S9,Sb hi,rl s,R5,show SW (k:Int) 9=true from dC p,R5,S9,Sb hi,S9,Sb g,G,SL,SM,TK (by omega)];rcases j with ⟨j,u⟩ | ⟨j,u⟩
  ·rw [if_neg (by omega),u];refine .inl ⟨_,rfl,λd => ?_⟩;have z:=o d
   have A:UW (rs.take (k+1))=UW (rs.take k)+x.2.length:=by
    rw [List.take_add_one,g,VM];simp [UW]
   have K:=d.2.2 x (List.mem_of_getElem? g);have M:=aw (k:=k) d.2.2 (by omega);have N:=d.1;have O:=d.2.1;show Rl .i64 m (x.2.length:Int)=_;rw [R9 (by omega),z,A];omega
  ·rw [if_pos j,u];exact .inr ⟨_,rfl,.inr ⟨rfl,rfl⟩⟩)
theorem ec (s:TA) (o : ∀ rs∈s.1.2,∀ r∈rs,r.2.length<=9223372036854775807) : ∃ b,WO s=some b/\(b=false->Sm s/\(VLev s.1->UW s.1.2.flatten<=40)):=by
 unfold WO;simp only [TH,TF]
 obtain ⟨r,q1,u⟩:=Yu (l:=s.1.2) (σ:=Int) (s:=((0:Int),(false,(0:Int)))) 20 (by omega) (λk n=>(n,(false,(k:Int)))) (λk n=>(∀ i rs,i<k->s.1.2[i]? = some rs->rs.length<=8)/\(VLev s.1->n=(UW (s.1.2.take k).flatten:Int))) (λ(r:Nat×((Int×(Bool×Int))×Unit))=>(r.1=0/\r.2.1.2.1=false/\(∀ i rs,i<20->s.1.2[i]? = some rs->rs.length<=8)/\(VLev s.1->s.1.2.length<=15->r.2.1.1=(UW s.1.2.flatten:Int)))\/(r.1=1/\r.2.1.2.1=true))
  (f:=λs0=>br (SW s0.2.2 (s.1.2.length:Int)) (λ_=>br (SW s0.2.2 20) (λ_=>bd (loop (λs1=>RX s0.2.2 λk2=>ix s.1.2 k2 λx3=>br (SW s1.2.1 (x3.length:Int)) (λ_=>br (SW s1.2.1 9) (λ_=>RX s0.2.2 λk4=>ix s.1.2 k4 λx5=>RX s1.2.1 λk6=>ix x5 k6 λL=>bd (loop (λq=>br (SW q.1 (L.2.length:Int)) (λ_=>br (SW q.1 50) (λ_=>RX q.1 λk9=>ix L.2 k9 λx10=>br (SU (MW x10.1:Int) 100) (λ_=>some (.dn (((0:Nat),((q.1,true),()))))) λ_=>RX q.1 λX=>ix L.2 X λx12=>br (SU (MW x12.2.1:Int) 100) (λ_=>some (.dn ((0,((q.1,true),()))))) λ_=>some (.nx (Rl .i64 q.1 1,q.2))) λ_=>some (.dn ((1,(q,()))))) λ_=>some (.dn ((1,(q,()))))) ((0:Int),s1.2.2)) λF=>br (neq F.1 0) (λ_=>some (.dn (((1:Nat),((Rl .i64 s1.1 (L.2.length:Int),(s1.2.1,F.2.1.2)),()))))) λ_=>some (.nx ((Rl .i64 s1.1 (L.2.length:Int),(Rl .i64 s1.2.1 1,F.2.1.2))))) λ_=>some (.dn ((0,(s1,()))))) λ_=>some (.dn ((0,(s1,()))))) ((s0.1,((0:Int),s0.2.1)))) λp=>br (neq p.1 0) (λ_=>RX s0.2.2 λY=>ix s.1.2 Y λx16=>br (SU (x16.length:Int) 8) (λ_=>some (.dn (((1:Nat),((p.2.1.1,(true,s0.2.2)),()))))) λ_=>some (.nx ((p.2.1.1,(p.2.1.2.2,Rl .i64 s0.2.2 1))))) λ_=>some (.dn ((1,((p.2.1.1,(p.2.1.2.2,s0.2.2)),()))))) λ_=>some (.dn ((0,(s0,()))))) λ_=>some (.dn ((0,(s0,())))))
  0 rfl ⟨λi rs h=>by omega,λ_=>by simp [UW]⟩ (λk n h t I=>⟨_,(ka (c:=20) h t _ _ _ rfl),.inl ⟨rfl,rfl,λi rs hi o=>I.1 i rs (by have:=(List.getElem?_eq_some_iff.1 o).1;omega) o,λB h15=>by
   have:=I.2 B;rw [List.take_of_length_le (by omega)] at this
   exact this⟩⟩) (λk rs n o t I=>by
   simp only;have z:=(List.getElem?_eq_some_iff.1 o).1;obtain ⟨r,q1,u⟩:=dz o n false rfl;rw [rl z,R5,show SW (k:Int) 20=true from dC t,R5,q1,SL,SM,S9,Sb o,Sp,TK (by omega)];rcases u with ⟨u,E,q4⟩ | ⟨u,E⟩
   ·rw [if_pos u];by_cases S:(rs.length:Int)>8
    ·rw [if_pos S];exact .inr ⟨_,rfl,.inr ⟨rfl,rfl⟩⟩
    ·rw [if_neg S,E];refine .inl ⟨_,rfl,λi rs' hi C => ?_,λB => ?_⟩
     ·by_cases h:i=k
      ·subst h;rw [o] at C;cases C;omega
      ·exact I.1 i rs' (by omega) C
     ·have w:=I.2 B
      have A : ∀ l:List (List Tb),(∀ rs∈l,rs∈s.1.2) -> ∀ r∈l.flatten,r.2.length<=5000:=λl hl r U=>by
       obtain ⟨rs1,h3,h4⟩:=List.mem_flatten.1 U;obtain ⟨i,hi⟩:=List.getElem?_of_mem (hl rs1 h3);have N:r∈TG s.1.2 i:=by unfold TG;rw [hi];exact h4
       exact ((B.own i).2 r N).vl.len
      have M:UW (s.1.2.take (k+1)).flatten=UW (s.1.2.take k).flatten+UW rs:=by
       rw [List.take_add_one,o,List.flatten_append,VM];simp
      have h3:=aw (k:=20) (rs:=(s.1.2.take k).flatten) (A _ λrs h=>List.mem_of_mem_take h)
      have h4:(s.1.2.take k).flatten.length<=1000:=by
       have N : ∀ l:List (List Tb),(∀ rs∈l,rs.length<=2)->l.flatten.length<=2*l.length:=by
        intro l
        induction l with
        | nil=>intro _;simp
        | cons x l ih =>
         intro h;have h6:=h x (by simp);have h7:=ih λy C=>h y (by simp [C]);simp only [List.flatten_cons,List.length_append,List.length_cons];omega
       have:=N (s.1.2.take k) λrs h=>B.two rs (List.mem_of_mem_take h);have S:(s.1.2.take k).length<=20:=by simp;omega
       omega
      have N:=cw (A (s.1.2.take k) λrs h=>List.mem_of_mem_take h);have h6:mz n rs:=⟨by omega,by omega,λr U=>A [rs] (λx W=>by rw [List.mem_singleton.1 W];exact List.mem_of_getElem? o) r (by simpa using U)⟩;show r.2.1.1=_;rw [q4 (by omega) h6,w,M];omega
   ·rw [if_neg (by omega),E];exact .inr ⟨_,rfl,.inr ⟨rfl,rfl⟩⟩)
 refine (λh=>h) ?_;have P : ∀ {K:(Nat×((Int×(Bool×Int))×Unit))->Option Bool},(∃ b,K r=some b/\(b=false->Sm s/\(VLev s.1->UW s.1.2.flatten<=40))) -> ∀ {m:Option (Nat×((Int×(Bool×Int))×Unit))},m=some r -> ∃ b,bd m K=some b/\(b=false->Sm s/\(VLev s.1->UW s.1.2.flatten<=40)):=λh _ e=>by subst e;exact h
 refine P ?_ q1;rw [SM];rcases u with ⟨u,E,q4,q5⟩ | ⟨u,E⟩
 rotate_left
 ·rw [if_neg (by omega),E];exact ⟨_,rfl,λh=>by cases h⟩
 rw [if_pos u,E]
 obtain ⟨r2,p1,O⟩:=Yu (l:=s.2.1) (σ:=Unit) (s:=(false,(0:Int))) 20 (by omega) (λk _=>(false,(k:Int))) (λ_ _=>True) (λ(r:Nat×((Bool×Int)×Unit))=>r.1=1\/(r.1=0/\r.2.1.1=true))
  (f:=λa=>br (SW a.2 (s.2.1.length:Int)) (λ_=>br (SW a.2 20) (λ_=>RX a.2 λZ=>ix s.2.1 Z λg=>br (SU (g.2.1.1.length:Int) 20) (λ_=>some (.dn ((0,((true,a.2),()))))) λ_=>br (SU (g.2.1.2.1.length:Int) 100) (λ_=>some (.dn ((0,((true,a.2),()))))) λ_=>br (SU (g.2.1.2.2.1.length:Int) 100) (λ_=>some (.dn ((0,((true,a.2),()))))) λ_=>br (SU (g.2.1.2.2.2.1.length:Int) 100) (λ_=>some (.dn ((0,((true,a.2),()))))) λ_=>bd (loop (λd=>br (SW d.1 (g.2.1.1.length:Int)) (λ_=>RX d.1 λD=>ix g.2.1.1 D λG=>some (.nx ((Rl .i64 d.1 1,Rl .i64 d.2 (G.length:Int))))) λ_=>some (.dn (((0:Nat),(d,()))))) (((0:Int),(g.2.2.2.1.length:Int)))) λr24=>br (SU r24.2.1.2 200) (λ_=>some (.dn ((0,((true,a.2),()))))) λ_=>some (.nx (a.1,Rl .i64 a.2 1))) λ_=>some (.dn ((1,(a,()))))) λ_=>some (.dn ((1,(a,())))))
  () rfl trivial (λk _ h t _=>⟨_,(ka (c:=20) h t _ _ _ rfl),.inl rfl⟩) (λk j _ o t _=>by
   simp only;have z:=(List.getElem?_eq_some_iff.1 o).1;rw [rl z,R5,show SW (k:Int) 20=true from dC t,R5,S9,Sb o,Sp];by_cases w:(j.2.1.1.length:Int)>20
   ·rw [if_pos w];exact .inr ⟨_,rfl,.inr ⟨rfl,rfl⟩⟩
   rw [if_neg w]
   obtain ⟨r3,t1,_⟩:=WL (l:=j.2.1.1) (σ:=Int) (s:=((0:Int),(j.2.2.2.1.length:Int))) (λk n=>((k:Int),n)) (λ_ _ _=>True) (λ(_:Nat×((Int×Int)×Unit))=>True)
    (f:=λd=>br (SW d.1 (j.2.1.1.length:Int)) (λ_=>RX d.1 λD=>ix j.2.1.1 D λG=>some (.nx ((Rl .i64 d.1 1,Rl .i64 d.2 (G.length:Int))))) λ_=>some (.dn (((0:Nat),(d,())))))
    (j.2.2.2.1.length:Int) rfl (by omega) trivial (λn _=>⟨_,by rw [re];rfl,trivial⟩) (λk y m n hd C t _ => .inl ⟨Rl .i64 n (y.length:Int),by rw [rl t,R5,S9,Sb C,TK (by omega)],trivial⟩)
   rw [t1,SL,Sp,Sp,Sp,Sp,TK (by omega)]
   repeat' split
   all_goals first | exact .inr ⟨_,rfl,.inr ⟨rfl,rfl⟩⟩ | exact .inl ⟨(),rfl,trivial⟩)
 rw [p1,SL,SM];rcases O with O | ⟨O,p3⟩
 rotate_left
 ·rw [if_pos O,p3];exact ⟨_,rfl,λh=>by cases h⟩
 rw [if_neg (by omega),Sp,Sp];by_cases w:r.2.1.1>40
 ·rw [if_pos w];exact ⟨_,rfl,λh=>by cases h⟩
 rw [if_neg w];by_cases M:(s.1.2.length:Int)>15
 ·rw [if_pos M];exact ⟨_,rfl,λh=>by cases h⟩
 rw [if_neg M];refine ⟨_,rfl,λh=>⟨⟨by omega,λrs J=>⟨?_,o rs J⟩,?_⟩,λB=>by have:=q5 B (by omega);omega⟩⟩
 ·obtain ⟨i,hi⟩:=List.getElem?_of_mem J;have:=q4 i rs (by have:=(List.getElem?_eq_some_iff.1 hi).1;omega) hi;omega
 ·unfold SU at h;simp at h;omega
end
section
open Go Go.Proofs.YtfilfloanndddaaGreat.Sv
set_option maxRecDepth 1000000
theorem Yi:Ud ()=some true:=by kernel_rfl
theorem d6:Vy=TJ:=rfl
theorem d7 (l m:List Int) (h:l.length<=1000000):Vy (l,m)=some (decide (l=m)):=by
 rw [d6];exact XW l m (by omega)
theorem lU {s:TA} (f : ∀ rs∈s.1.2,∀ r∈rs,r.2.length<=9223372036854775807) {K:Bool->Option Bool} (c:K true=some true) (d:Sm s->(VSt s->UW s.1.2.flatten<=40)->K false=some true):bd (WO s) K=some true:=by
 obtain ⟨b,e,a⟩:=ec s f;rw [e,SL];cases b with
 | true=>exact c
 | false=>exact d (a rfl).1 λv=>(a rfl).2 v.lev
theorem l8 {s:TA} (h:VSt s->UW s.1.2.flatten<=40):VSt s->UW s.1.2.flatten<=2000:=λv=>by have:=h v;omega
end
section
open Go Go.Proofs.YtfilfloanndddaaGreat.Sv
theorem ei {a:Int} (h : -9223372036854775808<=a/\a<=9223372036854775807):Su .i64 a=a:=by
 have:=R9 (a:=a) (b:=0) (by omega);unfold Rl at this;rw [Int.add_zero] at this;exact this
end
section
open Go Go.Proofs.YtfilfloanndddaaGreat.Sv
theorem ao {s:TA} (v:VSt s) {g:Int} (h:0<=g/\g<=1000000):XC s g=0:=ZY (TN.2 v) (by omega)
theorem ZZ {s:TA} (h:(TE s).2≠0) (g:Int):XC s g≠0:=by rw [XV h];exact h
theorem Zm {s:TA} (v:VSt s) {g:Int} (h:0<=g/\g<=1000000):YD s g=if (Tv g.toNat s).2.2≠0 then ([],(Tv g.toNat s).2.2) else ((Tv g.toNat s).2.1.map (·.1),0):=by
 unfold YD;rw [ao v h,if_neg (by decide)]
theorem fW {s:TA} (v:VSt s) {g:Int} (h:0<=g/\g<=1000000):ZI s g=if (Tv g.toNat s).2.2≠0 then (zS,(zU,(Tv g.toNat s).2.2)) else ((Tv g.toNat s).1,(e9 g (YH zU (Tv g.toNat s).2.1),0)):=by
 unfold ZI;rw [ao v h,if_neg (by decide)]
theorem cS {s:TA} {n:Nat} (l:List (Int×Bool)) (g:Int) (h:l.length<=1000000):(e9 g (YH zU l)).1=(l.length:Int):=by
 have:=(bn l zU (by decide) (by show (0:Int)+_<=_;omega)).1;show (YH zU l).1=_;rw [this];show (0:Int)+_=_;omega
theorem grantsOrders {x:TA×(Int×Int)} (C : ∀ rs∈x.1.1.2,∀ r∈rs,r.2.length<=9223372036854775807) (u:0<=x.2.1/\x.2.1<=255) (y:0<=x.2.2/\x.2.2<=255):Uk x=some true:=by
 obtain ⟨s,a,b⟩:=x;unfold Uk;refine lU C ?_ λm hc => ?_
 ·rw [R5,Yi];rfl
 have hc:=l8 hc;have w:0<=a/\a<=255:=u;have z:0<=b/\b<=255:=y;show br false _ (λ_=>bd (UF (s,Su .i64 a)) λM=>bd (UF (s,Rl .i64 (Su .i64 a) (Su .i64 b))) λO=>bd (U1 (s,Su .i64 a)) _)=_;rw [Rd,ei (a:=a) (by omega),ei (a:=b) (by omega),R9 (a:=a) (b:=b) (by omega),ZB m hc,SL,ZB m hc,SL,da m hc,SL,Ss];by_cases c:(TE s).2=0;rotate_left
 ·have e1:(YD s a).2=(TE s).2:=by unfold YD;rw [if_pos (ZZ c _),XV c]
  have e2:(YD s (a+b)).2=(TE s).2:=by unfold YD;rw [if_pos (ZZ c _),XV c]
  have e3:(ZI s a).2.2=(TE s).2:=by unfold ZI;rw [if_pos (ZZ c _),XV c]
  rw [if_neg (by rw [e1];exact c),Sn,if_neg (by rw [e1];exact c),Sn,if_pos (by rw [e1,e2]),Sn,if_pos (by rw [e1,e3]),Yi];rfl
 have v:=TN.1 c;have G:Gd s s:=⟨v,rfl,hc v⟩;obtain ⟨A,q⟩ : ∃ A:Nat,A=a.toNat:=⟨_,rfl⟩;obtain ⟨B,t⟩ : ∃ B:Nat,B=b.toNat:=⟨_,rfl⟩;have f:=Zm v (g:=a) (by omega);have d:=Zm v (g:=a+b) (by omega);have h:=fW v (g:=a) (by omega);have D:=bg A B s;rw [show (a+b).toNat=A+B by omega,D] at d;rw [<- q] at f h;by_cases e:(Tv A s).2.2=0;rotate_left
 ·rw [if_pos e] at f h;rw [if_pos e,if_pos e] at d;rw [f,d,h,if_neg e,Sn,if_neg e,Sn,if_pos rfl,Sn,if_pos rfl,Yi];rfl
 obtain ⟨J,K,l,o,L⟩:=Zt (N:=2000) (n:=A) G (hc v);have E:=dt v;rw [if_neg (by simp [e])] at f h;rw [if_neg (show ¬ (Tv A s).2.2≠0 by simp [e])] at d;rw [f,h,if_pos rfl,Ss];have p:=l.1;have k:=Zm p (g:=b) (by omega);rw [<- t] at k;have j:VSt (Tv A s).1->UW (Tv A s).1.1.2.flatten<=2000:=λ_=>o;obtain ⟨F,I,_⟩:=Zt (N:=2000) (n:=B) l o;by_cases i:(Tv B (Tv A s).1).2.2=0;rotate_left
 ·rw [if_pos i] at d;rw [d,if_neg i,Sn,if_pos rfl,Yi];rfl
 rw [if_neg (by simp [i])] at d k;rw [d,if_pos rfl];show bd (UF ((Tv A s).1,b)) _=_;rw [ZB p.sm j,SL,Sn,if_pos rfl,k,Sn,if_pos rfl];show br (RR (e9 a (YH zU (Tv A s).2.1)).1 (Kb (AS ((Tv A s).2.1.map (·.1))))) _ _=_;rw [Sn,cS (s:=s) (n:=A) _ _ (by omega),if_pos (by simp [Kb,AS]),Tw (by simp only [AS,List.length_map];omega),Tw (by simp only [AS,BD,List.length_map];omega)];show bd (Vy (_++_,_)) _=_;rw [d7 _ _ (by simp only [List.length_append,List.length_map];omega),SL,Ut,if_pos (by rw [List.map_append]),Yi];rfl
end
section
open Go Go.Proofs.YtfilfloanndddaaGreat.Sv
end
section
open Go Go.Proofs.YtfilfloanndddaaGreat.Sv
set_option maxRecDepth 100000
end
section
open Go Go.Proofs.YtfilfloanndddaaGreat.Sv
set_option maxRecDepth 100000
end
section
open Go Go.Proofs.YtfilfloanndddaaGreat.Sv
@[reducible] def tE:Ty:=.pair .str (.pair .str (.pair .bool (.int .i64)))
@[reducible] def pf:Ty:=.pair (.pair (.int .i64) (.sl true (.sl true (.pair (.int .i64) (.sl true tE))))) (.pair (.sl true (.pair (.int .i64) (.pair (.pair (.sl false (.sl true tE)) (.pair (.sl false (.int .i64)) (.pair (.sl true (.pair .str .bool)) (.pair (.sl false (.int .i64)) (.int .i64))))) (.pair (.pair .bool (.pair .str .bool)) (.pair (.sl true tE) (.int .i64)))))) (.int .i64))
theorem ml {s:TA} (h:Qk pf s) : ∀ rs∈s.1.2,∀ r∈rs,r.2.length<=9223372036854775807:=by
 obtain ⟨⟨_,d,c⟩,_⟩:=h;exact λrs b r a=>((c rs b).2 r a).2.1
theorem lN {b:Int} (h:Qk (.int .u8) b):0<=b/\b<=255:=by
 have a:(decide (IntKind.min .u8<=b)&&decide (b<=IntKind.max .u8))=true:=h;rw [Bool.and_eq_true,decide_eq_true_eq,decide_eq_true_eq] at a;exact a
theorem dq {x:TA×(Int×Int)} (h:Ql [(true,pf),(false,.int .u8),(false,.int .u8)] x):Uk x=some true:=grantsOrders (ml h.1) (lN h.2.1) (lN h.2.2)
end
end Go.Proofs.YtfilfloanndddaaGreat.Pl
