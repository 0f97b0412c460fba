/- Functions of the program and of the specification as plain functions, and laws about them. No condition. -/
import Derived.Test.YtfilfloanndddaaGreatPl2
import Derived.KernelRfl
set_option linter.all false
namespace Go.Proofs.YtfilfloanndddaaGreat.Pl
section
open Go Go.Proofs.YtfilfloanndddaaGreat.Sv
theorem af {α β γ:Type} {f:α->Option (LR α β)} {K:β->Option γ} {R:Option γ} (Inv:α->Prop) (Q:β->Prop) (m:α->Nat) {s:α} (hs:Inv s) (b:m s<18446744073709551616)
  (step : ∀ s,Inv s->(∃ s',f s=some (.nx s')/\Inv s'/\m s'<m s)\/(∃ x,f s=some (.dn x)/\Q x)) (a : ∀ x,Q x->K x=R):bd (loop f s) K=R:=by
 obtain ⟨x,e,q⟩:=Rr Inv Q m hs b step;rw [e];exact a x q
theorem ZX {β:Type} (n:Nat) (x y:Unit->Option β):br (neq n 0) x y=if n=0 then x () else y ():=by
 rw [SM]
def zU:Xt:=(0,(0,(0,(0,(0,(0,(0,(0,(0,(0,(0,(0,(0,(0,0))))))))))))))
def mw (g:Int) (u:Xt):Xt:=(u.1,(Rp .i64 g u.1,u.2.2))
def Xd (s:TA) (g:Int):Int:=if (TD s).2≠0 then (TD s).2 else if g<0\/g>1000000 then 7 else 0
def bE (s:TA) (g:Int):TA×(Xt×Int):=if Xd s g≠0 then (zS,(zU,Xd s g)) else if (Tj g.toNat s).2.2≠0 then (zS,(zU,(Tj g.toNat s).2.2)) else ((Tj g.toNat s).1,(mw g (XK zU (Tj g.toNat s).2.1),0))
def az (s:TA) (g:Int):List Int×Int:=if Xd s g≠0 then ([],Xd s g) else if (Tj g.toNat s).2.2≠0 then ([],(Tj g.toNat s).2.2) else ((Tj g.toNat s).2.1.map (·.1),0)
def ei (s:TA) (e:Int) (u:Xt):(Int×(List (List Te)×(List Job×(Int×Int))))×Xt:=((s.1.1,(s.1.2,(s.2.1,(s.2.2,e)))),u)
def gR (s:TA) (e:Int) (l:List Int) (u:Xt):(Int×(List (List Te)×(List Job×(Int×Int))))×(List Int×Xt):=((s.1.1,(s.1.2,(s.2.1,(s.2.2,e)))),(l,u))
theorem gV {s0 s:TA} (g:Gd s0 s):Ux s=4/\(To s).2=4\/Ux s≠4/\Ux s≠0/\(To s).2≠4/\((To s).2=Ux s\/(To s).2=0/\(Uv s (To s).1).2.2=Ux s)\/Ux s=0/\(To s).2=0/\(Uv s (To s).1).2.2=0:=by
 by_cases a:Ux s=4
 ·exact .inl ⟨a,(Zy g a).1⟩
 ·by_cases b:Ux s=0
  ·have:=bo g b;exact .inr (.inr ⟨b,this.1,this.2.2⟩)
  ·refine .inr (.inl ⟨a,b,?_⟩);unfold Ux at a b ⊢;by_cases c:(To s).2≠0
   ·rw [if_pos c] at a ⊢;exact ⟨a,.inl rfl⟩
   ·have d:(To s).2=0:=by simpa using c
    rw [if_neg c];rw [d];exact ⟨by decide,.inr ⟨rfl,rfl⟩⟩
theorem nK {u:Xt} {x:Int×Bool} (h:0<=u.1/\u.1<=1000000):(XV u x).1=u.1+1:=by
 show Rl .i64 u.1 1=_;exact R9 (by omega)
def At (s0:TA) (g:Int) (T:TA×((List Int×Xt)×Int)) (k:Nat) (s:TA) (l:List Int) (u:Xt):Prop:=Gd s0 s/\0<=u.1/\u.1+k=g/\g<=1000000/\(l.length:Int)=u.1/\T=((Tj k s).1,((l++(Tj k s).2.1.map (·.1),XK u (Tj k s).2.1),(Tj k s).2.2))
theorem At.step {s0 s:TA} {g:Int} {T:TA×((List Int×Xt)×Int)} {k:Nat} {l:List Int} {u:Xt} (a:At s0 g T (k+1) s l u) (e:Ux s=0):At s0 g T k (Vc s) (l++[(Vn s).1]) (XV u (Vn s)):=by
 obtain ⟨c,h,i,d,j,f⟩:=a;obtain ⟨_,_,_,_,_,_,_,b⟩:=Vr c e;have m:=nK (x:=Vn s) (show 0<=u.1/\u.1<=1000000 by omega);refine ⟨b,by omega,by omega,d,by simp;omega,?_⟩;rw [f];simp only [Tj,e,ne_eq,not_true_eq_false,if_false,List.map_cons,List.append_assoc,List.cons_append,List.nil_append];rfl
theorem At.none {s0 s:TA} {g:Int} {T:TA×((List Int×Xt)×Int)} {k:Nat} {l:List Int} {u:Xt} (a:At s0 g T k s l u) (e:Ux s=4):T=(s,((l,u),0)):=by
 rw [a.2.2.2.2.2];cases k<;>simp [Tj,e,XK]
theorem At.fail {s0 s:TA} {g:Int} {T:TA×((List Int×Xt)×Int)} {k:Nat} {l:List Int} {u:Xt} (a:At s0 g T (k+1) s l u) (c:Ux s≠4) (b:Ux s≠0):T=(s,((l,u),Ux s)):=by
 rw [a.2.2.2.2.2];simp [Tj,c,b,XK]
theorem At.last {s0 s:TA} {g:Int} {T:TA×((List Int×Xt)×Int)} {l:List Int} {u:Xt} (a:At s0 g T 0 s l u):T=(s,((l,u),0)):=by
 rw [a.2.2.2.2.2];simp [Tj,XK]
theorem dz {s0 s:TA} (g:Gd s0 s) (e:Ux s=0) : ∃ n:Nat,(To s).1=(n:Int)/\n<12/\(To s).1.toNat=n:=by
 obtain ⟨n,_,a,b,_⟩:=Vr g e;exact ⟨n,a,b,by rw [show (To s).1=(n:Int) from a];simp⟩
theorem aM {β:Type} {a b:Nat} (h:a<b) (k:Unit->Option β):gd (KC a b) k=k ():=by
 have:KC a b=true:=by unfold KC;simpa using h
 rw [this];rfl
theorem nM {u:Xt} {s:TA} {n:Nat} (h:(To s).1.toNat=n) (a:(Uv s (To s).1).2.1=true):XV u (Vn s)=(Rl .i64 u.1 1,(u.2.1,(Rl .i64 u.2.2.1 1,ZB u.2.2.2 n n))):=by
 unfold XV Vn;rw [a,if_pos rfl,h]
theorem nL {u:Xt} {s:TA} {n:Nat} (h:(To s).1.toNat=n) (a:(Uv s (To s).1).2.1=false):XV u (Vn s)=(Rl .i64 u.1 1,(u.2.1,(u.2.2.1,ZB u.2.2.2 n n))):=by
 unfold XV Vn;rw [a,if_neg (by simp),h]
theorem Z8 {γ:Type} {t:TA} {u:Xt} {g:Int} {n:Nat} (c:0<=u.1/\u.1<=1000000) (e3:(Uv t (To t).1).2.2=0) (n3:(To t).1.toNat=n) (D N:Int->Xt->Option γ) :
  (br (Uv t (To t).1).2.1 (λ_=>br (RR (Rl .i64 u.1 1) g) (λ_=>D (Uv t (To t).1).2.2 (Rl .i64 u.1 1,(u.2.1,(Rl .i64 u.2.2.1 1,ZB u.2.2.2 n n)))) λ_=>N (Uv t (To t).1).2.2 (Rl .i64 u.1 1,(u.2.1,(Rl .i64 u.2.2.1 1,ZB u.2.2.2 n n)))) λ_=>br (RR (Rl .i64 u.1 1) g) (λ_=>D (Uv t (To t).1).2.2 (Rl .i64 u.1 1,(u.2.1,(u.2.2.1,ZB u.2.2.2 n n)))) λ_=>N (Uv t (To t).1).2.2 (Rl .i64 u.1 1,(u.2.1,(u.2.2.1,ZB u.2.2.2 n n))))=if u.1+1=g then D 0 (XV u (Vn t)) else N 0 (XV u (Vn t)):=by
 have hi:Rl .i64 u.1 1=u.1+1:=R9 (by omega);rw [Sx,Sn,Sn,hi,e3];by_cases a:(Uv t (To t).1).2.1=true
 ·rw [if_pos a,nM n3 a,hi]
 ·have b:(Uv t (To t).1).2.1=false:=by simpa using a
  rw [if_neg a,nL n3 b,hi]
theorem bL {s:TA} {g:Int} (h:(TD s).2≠0):Xd s g=(TD s).2:=if_pos h
theorem Yo {s:TA} {g:Int} (a:(TD s).2=0) (h:g<0\/g>1000000):Xd s g=7:=by unfold Xd;rw [if_neg (by simp [a]),if_pos h]
theorem Zj {s:TA} {g:Int} (a:(TD s).2=0) (h : ¬ (g<0\/g>1000000)):Xd s g=0:=by unfold Xd;rw [if_neg (by simp [a]),if_neg h]
def tW (g:Int):((Int×(List (List Te)×(List Job×(Int×Int))))×Xt)->Option (LR ((Int×(List (List Te)×(List Job×(Int×Int))))×Xt) (Nat×(((Int×(List (List Te)×(List Job×(Int×Int))))×Xt)×Unit))) :=
 (λ(a:((Int×((List (List Te))×((List (Int×(TC×((Bool×TE)×((List S8)×Int)))))×(Int×Int))))×Xt))=>bd (TV (((a.1.1,a.1.2.1),(a.1.2.2.1,a.1.2.2.2.1)))) λc=>br (RR c.2 4) (λ_=>some (.dn ((0,(a,()))))) λ_=>br (RR c.2 0) (λ_=>bd (TW ((((a.1.1,a.1.2.1),(a.1.2.2.1,a.1.2.2.2.1)),c.1))) λb=>br (RT b.2.2 0) (λ_=>some (.dn ((0,(((a.1.1,(a.1.2.1,(a.1.2.2.1,(a.1.2.2.2.1,b.2.2)))),a.2),()))))) λ_=>bd (VY (c.1,b.2.1)) λi=>RX c.1 λf=>gd (KC f 12) λ_=>RX c.1 λh=>gd (KC h 12) λ_=>br b.2.1 (λ_=>br (RR (Rl .i64 a.2.1 1) g) (λ_=>some (.dn ((1,(((b.1.1.1,(b.1.1.2,(b.1.2.1,(b.1.2.2,b.2.2)))),(Rl .i64 a.2.1 1,(a.2.2.1,(Rl .i64 a.2.2.2.1 1,(ZB a.2.2.2.2 f h))))),()))))) λ_=>some (.nx (((b.1.1.1,(b.1.1.2,(b.1.2.1,(b.1.2.2,b.2.2)))),(Rl .i64 a.2.1 1,(a.2.2.1,(Rl .i64 a.2.2.2.1 1,(ZB a.2.2.2.2 f h)))))))) λ_=>br (RR (Rl .i64 a.2.1 1) g) (λ_=>some (.dn ((1,(((b.1.1.1,(b.1.1.2,(b.1.2.1,(b.1.2.2,b.2.2)))),(Rl .i64 a.2.1 1,(a.2.2.1,(a.2.2.2.1,(ZB a.2.2.2.2 f h))))),()))))) λ_=>some (.nx (((b.1.1.1,(b.1.1.2,(b.1.2.1,(b.1.2.2,b.2.2)))),(Rl .i64 a.2.1 1,(a.2.2.1,(a.2.2.2.1,(ZB a.2.2.2.2 f h)))))))) λ_=>br (RT c.2 0) (λ_=>some (.dn ((0,(((a.1.1,(a.1.2.1,(a.1.2.2.1,(a.1.2.2.2.1,c.2)))),a.2),()))))) λ_=>bd (VY (c.1,false)) λj=>RX c.1 λd=>gd (KC d 12) λ_=>RX c.1 λe=>gd (KC e 12) λ_=>br (RR (Rl .i64 a.2.1 1) g) (λ_=>some (.dn ((1,(((0,([],([],(0,c.2)))),(Rl .i64 a.2.1 1,(a.2.2.1,(a.2.2.2.1,(ZB a.2.2.2.2 d e))))),()))))) λ_=>some (.nx (((0,([],([],(0,c.2)))),(Rl .i64 a.2.1 1,(a.2.2.1,(a.2.2.2.1,(ZB a.2.2.2.2 d e))))))))
theorem cM {s0 s:TA} (G:Gd s0 s) {g:Int} (L:g>0) (J:g<=1000000) {γ:Type} {K:(Nat×(((Int×(List (List Te)×(List Job×(Int×Int))))×Xt)×Unit))->Option γ} {R:Option γ} (h : ∀ r:(Nat×(((Int×(List (List Te)×(List Job×(Int×Int))))×Xt)×Unit)),r.2.1=ei (Tj g.toNat s).1 (Tj g.toNat s).2.2 (XK zU (Tj g.toNat s).2.1)->K r=R):bd (loop (tW g) (ei s 0 zU)) K=R:=by
 obtain ⟨b,o⟩ : ∃ b:Nat,b=g.toNat:=⟨_,rfl⟩;rw [<- o] at h;obtain ⟨T,w⟩ : ∃ T,T=((Tj b s).1,(((Tj b s).2.1.map (·.1),XK zU (Tj b s).2.1),(Tj b s).2.2)):=⟨_,rfl⟩;refine af (λi => ∃ k t l u,i=ei t 0 u/\At s0 g T (k+1) t l u) (λr=>r.2.1=ei T.1 T.2.2 T.2.1.2) (λi=>(g-i.2.1).toNat) ⟨b-1,s,[],zU,rfl,G,by decide,?_,by omega,rfl,?_⟩ ?_ ?_ ?_
 ·show (0:Int)+_=g;omega
 ·rw [w,show b-1+1=b by omega];rfl
 ·show (g-0).toNat<_;omega
 ·rintro i ⟨k,t,l,u,rfl,a⟩;obtain ⟨c,A,D,E,F,I⟩:=id a;rcases gV c with ⟨e1,e2⟩ | ⟨e1,e2,e3,d⟩ | ⟨e1,e2,e3⟩
  ·refine .inr ⟨(0,(ei t 0 u,())),?_,by rw [a.none e1]⟩;show bd (TV t) _=_;rw [(WH c).1,SL,Sn,if_pos e2]
  ·have C:=a.fail e1 e2;refine .inr ⟨(0,(ei t (Ux t) u,())),?_,by rw [C]⟩;show bd (TV t) _=_;rw [(WH c).1,SL,Sn,if_neg e3,Sn];rcases d with d | ⟨d,q⟩
   ·rw [if_neg (by rw [d];exact e2),Ss,if_neg (by rw [d];exact e2),d];rfl
   ·rw [if_pos d];show bd (TW (t,(To t).1)) _=_;rw [(XT c _).1,SL,Ss,if_neg (by rw [q];exact e2),q];rfl
  ·obtain ⟨n,n1,n2,n3⟩:=dz c e1;have M:=nK (x:=Vn t) (show 0<=u.1/\u.1<=1000000 by omega);have y:=a.step e1
   have j : ∀ {R},(if u.1+1=g then some (LR.dn (1,(ei (Vc t) 0 (XV u (Vn t)),()))) else some (LR.nx (ei (Vc t) 0 (XV u (Vn t)))))=R->(∃ s',R=some (.nx s')/\(∃ k t l u,s'=ei t 0 u/\At s0 g T (k+1) t l u)/\(g-s'.2.1).toNat<(g-(ei t 0 u).2.1).toNat)\/(∃ x,R=some (.dn x)/\x.2.1=ei T.1 T.2.2 T.2.1.2):=fun {R} f=>by
    by_cases z:u.1+1=g
    ·rw [if_pos z] at f;have h:k=0:=by omega
     subst h;exact .inr ⟨_,f.symm,by rw [y.last]⟩
    ·rw [if_neg z] at f;obtain ⟨p,m⟩ : ∃ p,k=p+1:=⟨k-1,by omega⟩;refine .inl ⟨_,f.symm,⟨p,_,_,_,rfl,by rw [<- m];exact y⟩,?_⟩;show (g-(XV u (Vn t)).1).toNat<(g-u.1).toNat;omega
   refine j ?_;symm;show bd (TV t) _=_;rw [(WH c).1,SL,Sn,if_neg (by rw [e2];decide),Sn,if_pos e2];show bd (TW (t,(To t).1)) _=_;rw [(XT c _).1,SL,Ss,if_pos e3];show bd (some ()) _=_;rw [SL,n1,S9,aM n2,S9,aM n2,<- n1];exact Z8 (u:=u) ⟨A,by omega⟩ e3 n3 (λe u=>some (LR.dn (1,(ei (Vc t) e u,())))) (λe u=>some (LR.nx (ei (Vc t) e u)))
 ·intro r B;refine h r ?_;rw [B,w]
theorem aL {s:TA} (m:Sm s) (hc:VSt s->UY s.1.2.flatten<=2000) (g:Int):UN (s,g)=some (bE s g):=by
 unfold UN bE;rw [nQ m,SL,Ss];by_cases a:(TD s).2=0;rotate_left
 ·rw [if_neg a,bL a,if_pos a,Ss,if_neg a];rfl
 rw [if_pos a,Sr,Sp];by_cases b:g<0
 ·rw [if_pos b,Yo a (.inl b),if_pos (by decide)];rfl
 by_cases c:g>1000000
 ·rw [if_neg b,if_pos c,Yo a (.inr c),if_pos (by decide)];rfl
 rw [if_neg b,if_neg c,Zj a (by omega),if_neg (by decide),Sp];have v:=TJ.1 a;have G:Gd s s:=⟨v,rfl,hc v⟩;by_cases d:g>0;rotate_left
 ·have:g=0:=by omega
  subst this;rw [if_neg d];rfl
 rw [if_pos d];refine cM G d (by omega) λr e => ?_
 have key:(br (RT r.2.1.1.2.2.2.2 0) (λ_=>some (((((0:Int),([]:List (List Te))),(([]:List Job),(0:Int))),(zU,r.2.1.1.2.2.2.2)))) λ_=>some ((((r.2.1.1.1,r.2.1.1.2.1),(r.2.1.1.2.2.1,r.2.1.1.2.2.2.1)),((r.2.1.2.1,(Rp .i64 g r.2.1.2.1,r.2.1.2.2.2)),(0:Int)))))=some (if (Tj g.toNat s).2.2≠0 then (zS,(zU,(Tj g.toNat s).2.2)) else ((Tj g.toNat s).1,(mw g (XK zU (Tj g.toNat s).2.1),0))):=by
  rw [e,Ss];show (if (Tj g.toNat s).2.2=0 then _ else _)=_
  by_cases h:(Tj g.toNat s).2.2=0
  ·rw [if_pos h,if_neg (by simp [h])];rfl
  ·rw [if_neg h,if_pos h];rfl
 rw [ZX];split
 ·exact key
 ·exact key
theorem eR {s:TA} (m:Sm s) (hc:VSt s->UY s.1.2.flatten<=2000) (g:Int):Uk (s,g)=some (az s g):=by
 unfold Uk az;rw [nQ m,SL,Ss];by_cases c:(TD s).2=0;rotate_left
 ·rw [if_neg c,bL c,if_pos c,Ss,if_neg c]
 rw [if_pos c,Sr,Sp];by_cases i:g<0
 ·rw [if_pos i,Yo c (.inl i),if_pos (by decide)]
 by_cases q:g>1000000
 ·rw [if_neg i,if_pos q,Yo c (.inr q),if_pos (by decide)]
 rw [if_neg i,if_neg q,Zj c (by omega),if_neg (by decide),Sp];have v:=TJ.1 c;have G:Gd s s:=⟨v,rfl,hc v⟩;by_cases B:g>0;rotate_left
 ·have:g=0:=by omega
  subst this;rw [if_neg B];rfl
 rw [if_pos B];obtain ⟨b,y⟩ : ∃ b:Nat,b=g.toNat:=⟨_,rfl⟩;rw [<- y];obtain ⟨T,C⟩ : ∃ T,T=((Tj b s).1,(((Tj b s).2.1.map (·.1),XK zU (Tj b s).2.1),(Tj b s).2.2)):=⟨_,rfl⟩;refine af (λo => ∃ k t l u,o=gR t 0 l u/\At s g T (k+1) t l u) (λr=>r.2.1=gR T.1 T.2.2 T.2.1.1 T.2.1.2) (λo=>(g-o.2.2.1).toNat) ⟨b-1,s,[],zU,rfl,G,by decide,?_,by omega,rfl,?_⟩ ?_ ?_ ?_
 ·show (0:Int)+_=g;omega
 ·rw [C,show b-1+1=b by omega];rfl
 ·show (g-0).toNat<_;omega
 ·rintro o ⟨k,t,l,u,rfl,a⟩;obtain ⟨d,F,L,M,N,O⟩:=id a;rcases gV d with ⟨e1,e2⟩ | ⟨e1,e2,e3,f⟩ | ⟨e1,e2,e3⟩
  ·refine .inr ⟨(0,(gR t 0 l u,())),?_,by rw [a.none e1]⟩;show bd (TV t) _=_;rw [(WH d).1,SL,Sn,if_pos e2]
  ·have K:=a.fail e1 e2;refine .inr ⟨(0,(gR t (Ux t) l u,())),?_,by rw [K]⟩;show bd (TV t) _=_;rw [(WH d).1,SL,Sn,if_neg e3,Sn];rcases f with f | ⟨f,A⟩
   ·rw [if_neg (by rw [f];exact e2),Ss,if_neg (by rw [f];exact e2),f];rfl
   ·rw [if_pos f];show bd (TW (t,(To t).1)) _=_;rw [(XT d _).1,SL,Ss,if_neg (by rw [A];exact e2),A];rfl
  ·obtain ⟨n,n1,n2,n3⟩:=dz d e1;have P:=nK (x:=Vn t) (show 0<=u.1/\u.1<=1000000 by omega);have D:=a.step e1
   have p : ∀ {R},(if u.1+1=g then some (LR.dn (1,(gR (Vc t) 0 (l++[(Vn t).1]) (XV u (Vn t)),()))) else some (LR.nx (gR (Vc t) 0 (l++[(Vn t).1]) (XV u (Vn t)))))=R->(∃ s',R=some (.nx s')/\(∃ k t l u,s'=gR t 0 l u/\At s g T (k+1) t l u)/\(g-s'.2.2.1).toNat<(g-(gR t 0 l u).2.2.1).toNat)\/(∃ x,R=some (.dn x)/\x.2.1=gR T.1 T.2.2 T.2.1.1 T.2.1.2):=fun {R} j=>by
    by_cases E:u.1+1=g
    ·rw [if_pos E] at j;have I:k=0:=by omega
     subst I;exact .inr ⟨_,j.symm,by rw [D.last]⟩
    ·rw [if_neg E] at j;obtain ⟨z,w⟩ : ∃ z,k=z+1:=⟨k-1,by omega⟩;refine .inl ⟨_,j.symm,⟨z,_,_,_,rfl,by rw [<- w];exact D⟩,?_⟩;show (g-(XV u (Vn t)).1).toNat<(g-u.1).toNat;omega
   refine p ?_;symm;show bd (TV t) _=_;rw [(WH d).1,SL,Sn,if_neg (by rw [e2];decide),Sn,if_pos e2];show bd (TW (t,(To t).1)) _=_;rw [(XT d _).1,SL,Ss,if_pos e3];show gd (CD (BD l.length [(To t).1].length) 1048576) _=_;rw [UC (by simp only [BD,List.length_cons,List.length_nil];omega),n1,S9,aM n2,S9,aM n2,<- n1];exact Z8 (u:=u) ⟨F,by omega⟩ e3 n3 (λe u=>some (LR.dn (1,(gR (Vc t) e (l++[(To t).1]) u,())))) (λe u=>some (LR.nx (gR (Vc t) e (l++[(To t).1]) u)))
 ·intro r J
  have key:(br (RT r.2.1.1.2.2.2.2 0) (λ_=>some (([]:List Int),r.2.1.1.2.2.2.2)) λ_=>some (r.2.1.2.1,(0:Int)))=some (if (Tj b s).2.2≠0 then ([],(Tj b s).2.2) else ((Tj b s).2.1.map (·.1),0)):=by
   rw [J,C,Ss];show (if (Tj b s).2.2=0 then _ else _)=_
   by_cases h:(Tj b s).2.2=0
   ·rw [if_pos h,if_neg (by simp [h])];rfl
   ·rw [if_neg h,if_pos h];rfl
  rw [ZX];split
  ·exact key
  ·exact key
end
section
open Go Go.Proofs.YtfilfloanndddaaGreat.Sv
end
section
open Go Go.Proofs.YtfilfloanndddaaGreat.Sv
theorem mf {s t:TA} {n:Nat} {j:Job} {b:Bool} (v:VSt s) (F:StepF s n j t b) {i:Nat} (a:i≠n) (f:(TG s.1.2 i).length=2):TG t.1.2 i=TG s.1.2 i/\UH t.2.1 (i:Int)=UH s.2.1 (i:Int):=by
 by_cases k:0<TM s.1 j
 ·obtain ⟨_,e1,_,e2⟩:=F.read k;exact ⟨by rw [e1],by rw [e2,if_neg a]⟩
 ·obtain ⟨_,e1,_,e2,e3,g⟩:=F.inst (by omega)
  have e : ¬ (UQ j≠[]/\i=Xu s j):=λ⟨c,hi⟩=>by
   rcases e3 with e3 | ⟨e3,_,h⟩
   ·exact a (by rw [hi,e3])
   ·have:=h c;rw [<- e3,<- hi] at this;omega
  have c:TG t.1.2 i=TG s.1.2 i:=by rw [e2,if_neg e,if_neg a]
  refine ⟨c,?_⟩;obtain ⟨j',d⟩:=v.hasJob f;rw [g,c,if_pos f,if_neg a,d];rfl
theorem mg {s0 s:TA} (g:Gd s0 s) (e:Ux s=0) {i:Nat} (b:(TG s.1.2 i).length=2) (f:Vn s≠((i:Int),true)):(TG (Vc s).1.2 i).length=2:=by
 obtain ⟨n,j,d,k,h,hc,F,_⟩:=Vr g e;by_cases a:i=n
 ·subst a;by_cases c:0<TM s.1 j
  ·rw [(F.read c).2.1];exact b
  ·exact absurd (Prod.ext d (F.inst (by omega)).1) f
 ·rw [(mf g.1 F a b).1];exact b
def XR (a:Int):Nat->Nat->TA->Int×Int
 | 0,_,_=>(0,0)
 | k+1,n,s=>if Ux s≠0 then (0,Ux s) else if Vn s=(a,true) then (((n+1:Nat):Int),0) else XR a k (n+1) (Vc s)
def Y5 (s:TA) (a:Int):Int×Int:=if (TD s).2≠0 then (0,(TD s).2) else if a<0\/a>=12 then (0,7) else if (Vz s a).2≠0 then (0,(Vz s a).2) else XR a (aF 2000 s+1) 0 s
theorem bY {s:TA} {a:Int} (v:VSt s) (h:(Vz s a).2=0) : ∃ i:Nat,a=(i:Int)/\(TG s.1.2 i).length=2:=by
 have d:(TD s).2=0:=TJ.2 v;unfold Vz at h;rw [if_neg (by simp [d])] at h;cases b:Yd a 0 (TH 0 s.1.2) with
 | none=>rw [b] at h;cases h
 | some i =>
  obtain ⟨n,f,g,e,c⟩:=Zb (List.mem_of_getElem? (ak b).2);exact ⟨n,e,by rw [XJ.1 c];rfl⟩
theorem ZK {s:TA} (v:VSt s):aF 2000 s<=48024:=by
 have b:=m7 2000 v;have a:=gE v.lev;have:=Nat.mul_le_mul_right 2001 a;omega
theorem gT {s0 s:TA} (g:Gd s0 s) {i:Nat} (b:(TG s.1.2 i).length=2):Ux s≠4:=λh=>by
 have c:=(Zy g h).2;obtain ⟨j,a⟩:=g.1.hasJob b;rw [c] at a;cases a
def NAt (s0:TA) (a:Int) (T:Int×Int) (k n:Nat) (s:TA):Prop:=Gd s0 s/\aF 2000 s<k/\n+k<=60000/\T=XR a k n s /\ ∃ i:Nat,a=(i:Int)/\(TG s.1.2 i).length=2
theorem NAt.fail {s0 s:TA} {d:Int} {T:Int×Int} {k n:Nat} (a:NAt s0 d T k n s) (e:Ux s≠0):T=(0,Ux s):=by
 obtain ⟨_,f,_,c,_⟩:=a;obtain ⟨b,rfl⟩ : ∃ b,k=b+1:=⟨k-1,by omega⟩;rw [c];simp [XR,e]
theorem NAt.hit {s0 s:TA} {c:Int} {T:Int×Int} {k n:Nat} (a:NAt s0 c T k n s) (e:Ux s=0) (h:Vn s=(c,true)):T=(((n+1:Nat):Int),0):=by
 obtain ⟨_,f,_,d,_⟩:=a;obtain ⟨b,rfl⟩ : ∃ b,k=b+1:=⟨k-1,by omega⟩;rw [d];simp [XR,e,h]
theorem NAt.next {s0 s:TA} {d:Int} {T:Int×Int} {k n:Nat} (a:NAt s0 d T k n s) (e:Ux s=0) (h:Vn s≠(d,true)) : ∃ b,k=b+1/\NAt s0 d T b (n+1) (Vc s)/\aF 2000 (Vc s)<aF 2000 s:=by
 obtain ⟨c,m,o,j,i,f,l⟩:=a;obtain ⟨b,rfl⟩ : ∃ b,k=b+1:=⟨k-1,by omega⟩;obtain ⟨_,_,_,_,_,_,_,g⟩:=Vr c e;have p:=(ay c c.2.2 e).1;refine ⟨b,rfl,⟨g,by omega,by omega,?_,i,f,mg c e l (by rw [<- f];exact h)⟩,by omega⟩;rw [j];simp [XR,e,h]
theorem NAt.begin {s:TA} {a:Int} (G:Gd s s) (h:(Vz s a).2=0):NAt s a (XR a (aF 2000 s+1) 0 s) (aF 2000 s+1) 0 s :=
 ⟨G,by omega,by have:=ZK G.1;omega,rfl,bY G.1 h⟩
def rf (s:TA) (e:Int) (n:Nat):(Int×(List (List Te)×(List Job×(Int×Int))))×(Int×Int):=((s.1.1,(s.1.2,(s.2.1,(s.2.2,e)))),((n:Int),0))
theorem gG {s:TA} (m:Sm s) (hc:VSt s->UY s.1.2.flatten<=2000) (b:Int):VH (s,b)=some (Y5 s b):=by
 unfold VH Y5;rw [nQ m,SL,Ss];by_cases f:(TD s).2=0;rotate_left
 ·rw [if_neg f,if_pos f,Ss,if_neg f]
 rw [if_pos f,if_neg (show ¬ (TD s).2≠0 by simp [f]),Sr,So];by_cases h:b<0
 ·rw [if_pos h,if_pos (.inl h)]
 by_cases l:b>=12
 ·rw [if_neg h,if_pos l,if_pos (.inr l)]
 rw [if_neg h,if_neg l,if_neg (show ¬ (b<0\/b>=12) by omega)];show bd (Uy (s,b)) _=_;rw [ZZ m,SL,Ss];by_cases g:(Vz s b).2=0;rotate_left
 ·rw [if_neg g,if_pos g]
 rw [if_pos g,if_neg (show ¬ (Vz s b).2≠0 by simp [g])];have v:=TJ.1 f;have G:Gd s s:=⟨v,rfl,hc v⟩;obtain ⟨T,q⟩ : ∃ T,T=XR b (aF 2000 s+1) 0 s:=⟨_,rfl⟩;rw [<- q];refine af (λe => ∃ k n t,e=rf t 0 n/\NAt s b T k n t) (λr=>(r.1=0/\T=(0,r.2.1.1.2.2.2.2))\/(r.1=1/\T=r.2.1.2)) (λe=>aF 2000 ((e.1.1,e.1.2.1),(e.1.2.2.1,e.1.2.2.2.1))) ⟨_,0,s,rfl,by rw [q];exact NAt.begin G g⟩ ?_ ?_ ?_
 ·show aF 2000 s<_;have:=ZK v;omega
 ·rintro e ⟨k,n,t,rfl,a⟩;obtain ⟨c,E,F,I,i,J,B⟩:=id a;rcases gV c with ⟨e1,e2⟩ | ⟨e1,e2,e3,d⟩ | ⟨e1,e2,e3⟩
  ·exact absurd e1 (gT c B)
  ·refine .inr ⟨(0,(rf t (Ux t) n,())),?_,.inl ⟨rfl,a.fail e2⟩⟩;show bd (TV t) _=_;rw [(WH c).1,SL,Sn,if_neg e3,Sn];rcases d with d | ⟨d,p⟩
   ·rw [if_neg (by rw [d];exact e2),Ss,if_neg (by rw [d];exact e2),d];rfl
   ·rw [if_pos d];show bd (TW (t,(To t).1)) _=_;rw [(XT c _).1,SL,Ss,if_neg (by rw [p];exact e2),p];rfl
  ·have w:Rl .i64 (n:Int) 1=((n+1:Nat):Int):=TK (by omega)
   have u : ∀ {γ:Type} (x y:Unit->Option γ),br (NX (RR (To t).1 b) (NX (Sv.beq (Uv t (To t).1).2.1 true) true)) x y=if Vn t=(b,true) then x () else y ():=λx y=>by
    refine Je ?_ x y;unfold Vn;rw [YM,beq_eq,VU,XX,decide_eq_true_eq,Prod.mk.injEq]
   by_cases j:Vn t=(b,true)
   ·refine .inr ⟨(1,(((Vc t).1.1,((Vc t).1.2,((Vc t).2.1,((Vc t).2.2,0)))),(((n+1:Nat):Int),0)),()),?_,.inr ⟨rfl,a.hit e1 j⟩⟩;show bd (TV t) _=_;rw [(WH c).1,SL,Sn,if_neg (by rw [e2];decide),Sn,if_pos e2];show bd (TW (t,(To t).1)) _=_;rw [(XT c _).1,SL,Ss,if_pos e3,u,if_pos j,e3];show some (LR.dn (1,(_,(Rl .i64 (n:Int) 1,(0:Int))),()))=_;rw [w];rfl
   ·obtain ⟨D,K,A,C⟩:=a.next e1 j
    refine .inl ⟨rf (Vc t) 0 (n+1),?_,⟨D,n+1,_,rfl,A⟩,C⟩;show bd (TV t) _=_;rw [(WH c).1,SL,Sn,if_neg (by rw [e2];decide),Sn,if_pos e2];show bd (TW (t,(To t).1)) _=_;rw [(XT c _).1,SL,Ss,if_pos e3,u,if_neg j,e3];show some (LR.nx (_,(Rl .i64 (n:Int) 1,(0:Int))))=_;rw [w];rfl
 ·rintro r (⟨z,o⟩ | ⟨z,o⟩)
  ·rw [ZX,if_pos z,o]
  ·rw [ZX,if_neg (by omega),o]
end
section
open Go Go.Proofs.YtfilfloanndddaaGreat.Sv
end
section
open Go Go.Proofs.YtfilfloanndddaaGreat.Sv
theorem dh (l:List S8) (b:Bool) (m:b=false) : ∃ r,loop (β:=Nat×((Int×Bool)×Unit)) (λa=>br (SW a.1 (l.length:Int)) (λ_=>br (SW a.1 50) (λ_=>RX a.1 λn=>ix l n λi=>br (SU (MW i.1:Int) 100) (λ_=>some (.dn ((0,((a.1,true),()))))) λ_=>RX a.1 λg=>ix l g λj=>br (SU (MW j.2.1:Int) 100) (λ_=>some (.dn ((0,((a.1,true),()))))) λ_=>some (.nx (Rl .i64 a.1 1,a.2))) λ_=>some (.dn ((1,(a,()))))) λ_=>some (.dn ((1,(a,()))))) ((0:Int),b)=some r/\((r.1=1/\r.2.1.2=false)\/(r.1=0/\r.2.1.2=true)):=by
 subst m
 exact Yy (l:=l) (σ:=Unit) 50 (by omega) (λk _=>((k:Int),false)) (λ_ _=>True) (λ(r:Nat×((Int×Bool)×Unit))=>(r.1=1/\r.2.1.2=false)\/(r.1=0/\r.2.1.2=true)) () rfl trivial (λk _ h d _=>⟨_,(mB (c:=50) h d _ _ _ rfl),.inl ⟨rfl,rfl⟩⟩) (λk x _ f d _=>by
  simp only;have e:=(List.getElem?_eq_some_iff.1 f).1;rw [rl e,R5,show SW (k:Int) 50=true from dx d,R5,S9,Sb f,Sp,S9,Sb f,Sp,TK (by omega)]
  repeat' split
  all_goals first | exact .inr ⟨_,rfl,.inr ⟨rfl,rfl⟩⟩ | exact .inl ⟨(),rfl,trivial⟩)
def oh (n:Int) (rs:List Te):Prop:=0<=n/\n<=1000000000 /\ ∀ r∈rs,r.2.length<=5000
theorem bS {rs:List Te} {k:Nat} (h : ∀ r∈rs,r.2.length<=5000) (d:k<=20):UY (rs.take k)<=100000:=by
 have b:=dq (l:=rs.take k) λr a=>h r (List.mem_of_mem_take a);have c:(rs.take k).length<=k:=by rw [List.length_take];omega
 omega
theorem fB {L:List (List Te)} {i:Nat} {rs:List Te} (hi:L[i]? = some rs) (n:Int) (b:Bool) (B:b=false) : ∃ r,loop (β:=Nat×((Int×(Int×Bool))×Unit)) (λs1=>RX (i:Int) λC=>ix L C λI=>br (SW s1.2.1 (I.length:Int)) (λ_=>br (SW s1.2.1 9) (λ_=>RX (i:Int) λD=>ix L D λJ=>RX s1.2.1 λE=>ix J E λf=>bd (loop (λa=>br (SW a.1 (f.2.length:Int)) (λ_=>br (SW a.1 50) (λ_=>RX a.1 λF=>ix f.2 F λw=>br (SU (MW w.1:Int) 100) (λ_=>some (.dn (((0:Nat),((a.1,true),()))))) λ_=>RX a.1 λt=>ix f.2 t λy=>br (SU (MW y.2.1:Int) 100) (λ_=>some (.dn ((0,((a.1,true),()))))) λ_=>some (.nx (Rl .i64 a.1 1,a.2))) λ_=>some (.dn ((1,(a,()))))) λ_=>some (.dn ((1,(a,()))))) ((0:Int),s1.2.2)) λe=>br (neq e.1 0) (λ_=>some (.dn ((1,((Rl .i64 s1.1 (f.2.length:Int),(s1.2.1,e.2.1.2)),()))))) λ_=>some (.nx ((Rl .i64 s1.1 (f.2.length:Int),(Rl .i64 s1.2.1 1,e.2.1.2))))) λ_=>some (.dn ((0,(s1,()))))) λ_=>some (.dn ((0,(s1,()))))) (n,((0:Int),b))=some r/\((r.1=0/\r.2.1.2.2=false/\(rs.length<=8->oh n rs->r.2.1.1=n+(UY rs:Int)))\/(r.1=1/\r.2.1.2.2=true)):=by
 subst B
 exact Yy (l:=rs) (σ:=Int) 9 (by omega) (λk m=>(m,((k:Int),false))) (λk m=>oh n rs->m=n+(UY (rs.take k):Int)) (λ(r:Nat×((Int×(Int×Bool))×Unit))=>(r.1=0/\r.2.1.2.2=false/\(rs.length<=8->oh n rs->r.2.1.1=n+(UY rs:Int)))\/(r.1=1/\r.2.1.2.2=true)) n rfl (λ_=>by simp [UY]) (λk m h p o=>⟨_,by
  rw [S9,Sb hi];exact (mB (c:=9) h p _ _ _ rfl),.inl ⟨rfl,rfl,λP d=>by
   have q:k=rs.length:=by omega
   subst q;have:=o d;rw [List.take_length] at this
   exact this⟩⟩) (λk x m g p o=>by
  simp only;have s:=(List.getElem?_eq_some_iff.1 g).1;obtain ⟨r,G,j⟩:=dh x.2 false rfl;rw [S9,Sb hi,rl s,R5,show SW (k:Int) 9=true from dx p,R5,S9,Sb hi,S9,Sb g,G,SL,SM,TK (by omega)];rcases j with ⟨j,u⟩ | ⟨j,u⟩
  ·rw [if_neg (by omega),u];refine .inl ⟨_,rfl,λd => ?_⟩;have z:=o d
   have A:UY (rs.take (k+1))=UY (rs.take k)+x.2.length:=by
    rw [List.take_add_one,g,VW];simp [UY]
   have K:=d.2.2 x (List.mem_of_getElem? g);have M:=bS (k:=k) d.2.2 (by omega);have N:=d.1;have O:=d.2.1;show Rl .i64 m (x.2.length:Int)=_;rw [R9 (by omega),z,A];omega
  ·rw [if_pos j,u];exact .inr ⟨_,rfl,.inr ⟨rfl,rfl⟩⟩)
theorem gD (s:TA) (o : ∀ rs∈s.1.2,∀ r∈rs,r.2.length<=9223372036854775807) : ∃ b,Wc s=some b/\(b=false->Sm s/\(VLev s.1->UY s.1.2.flatten<=40)):=by
 unfold Wc;simp only [TI,TF]
 obtain ⟨r,q1,u⟩:=Yy (l:=s.1.2) (σ:=Int) (s:=((0:Int),(false,(0:Int)))) 20 (by omega) (λk n=>(n,(false,(k:Int)))) (λk n=>(∀ i rs,i<k->s.1.2[i]? = some rs->rs.length<=8)/\(VLev s.1->n=(UY (s.1.2.take k).flatten:Int))) (λ(r:Nat×((Int×(Bool×Int))×Unit))=>(r.1=0/\r.2.1.2.1=false/\(∀ i rs,i<20->s.1.2[i]? = some rs->rs.length<=8)/\(VLev s.1->s.1.2.length<=15->r.2.1.1=(UY s.1.2.flatten:Int)))\/(r.1=1/\r.2.1.2.1=true))
  (f:=λs0=>br (SW s0.2.2 (s.1.2.length:Int)) (λ_=>br (SW s0.2.2 20) (λ_=>bd (loop (λs1=>RX s0.2.2 λk2=>ix s.1.2 k2 λx3=>br (SW s1.2.1 (x3.length:Int)) (λ_=>br (SW s1.2.1 9) (λ_=>RX s0.2.2 λk4=>ix s.1.2 k4 λx5=>RX s1.2.1 λk6=>ix x5 k6 λL=>bd (loop (λq=>br (SW q.1 (L.2.length:Int)) (λ_=>br (SW q.1 50) (λ_=>RX q.1 λk9=>ix L.2 k9 λx10=>br (SU (MW x10.1:Int) 100) (λ_=>some (.dn (((0:Nat),((q.1,true),()))))) λ_=>RX q.1 λX=>ix L.2 X λx12=>br (SU (MW x12.2.1:Int) 100) (λ_=>some (.dn ((0,((q.1,true),()))))) λ_=>some (.nx (Rl .i64 q.1 1,q.2))) λ_=>some (.dn ((1,(q,()))))) λ_=>some (.dn ((1,(q,()))))) ((0:Int),s1.2.2)) λF=>br (neq F.1 0) (λ_=>some (.dn (((1:Nat),((Rl .i64 s1.1 (L.2.length:Int),(s1.2.1,F.2.1.2)),()))))) λ_=>some (.nx ((Rl .i64 s1.1 (L.2.length:Int),(Rl .i64 s1.2.1 1,F.2.1.2))))) λ_=>some (.dn ((0,(s1,()))))) λ_=>some (.dn ((0,(s1,()))))) ((s0.1,((0:Int),s0.2.1)))) λp=>br (neq p.1 0) (λ_=>RX s0.2.2 λY=>ix s.1.2 Y λx16=>br (SU (x16.length:Int) 8) (λ_=>some (.dn (((1:Nat),((p.2.1.1,(true,s0.2.2)),()))))) λ_=>some (.nx ((p.2.1.1,(p.2.1.2.2,Rl .i64 s0.2.2 1))))) λ_=>some (.dn ((1,((p.2.1.1,(p.2.1.2.2,s0.2.2)),()))))) λ_=>some (.dn ((0,(s0,()))))) λ_=>some (.dn ((0,(s0,())))))
  0 rfl ⟨λi rs h=>by omega,λ_=>by simp [UY]⟩ (λk n h t I=>⟨_,(mB (c:=20) h t _ _ _ rfl),.inl ⟨rfl,rfl,λi rs hi o=>I.1 i rs (by have:=(List.getElem?_eq_some_iff.1 o).1;omega) o,λB h15=>by
   have:=I.2 B;rw [List.take_of_length_le (by omega)] at this
   exact this⟩⟩) (λk rs n o t I=>by
   simp only;have z:=(List.getElem?_eq_some_iff.1 o).1;obtain ⟨r,q1,u⟩:=fB o n false rfl;rw [rl z,R5,show SW (k:Int) 20=true from dx t,R5,q1,SL,SM,S9,Sb o,Sp,TK (by omega)];rcases u with ⟨u,E,q4⟩ | ⟨u,E⟩
   ·rw [if_pos u];by_cases S:(rs.length:Int)>8
    ·rw [if_pos S];exact .inr ⟨_,rfl,.inr ⟨rfl,rfl⟩⟩
    ·rw [if_neg S,E];refine .inl ⟨_,rfl,λi rs' hi C => ?_,λB => ?_⟩
     ·by_cases h:i=k
      ·subst h;rw [o] at C;cases C;omega
      ·exact I.1 i rs' (by omega) C
     ·have w:=I.2 B
      have A : ∀ l:List (List Te),(∀ rs∈l,rs∈s.1.2) -> ∀ r∈l.flatten,r.2.length<=5000:=λl hl r U=>by
       obtain ⟨rs1,h3,h4⟩:=List.mem_flatten.1 U;obtain ⟨i,hi⟩:=List.getElem?_of_mem (hl rs1 h3);have N:r∈TG s.1.2 i:=by unfold TG;rw [hi];exact h4
       exact ((B.own i).2 r N).vl.len
      have M:UY (s.1.2.take (k+1)).flatten=UY (s.1.2.take k).flatten+UY rs:=by
       rw [List.take_add_one,o,List.flatten_append,VW];simp
      have h3:=bS (k:=20) (rs:=(s.1.2.take k).flatten) (A _ λrs h=>List.mem_of_mem_take h)
      have h4:(s.1.2.take k).flatten.length<=1000:=by
       have N : ∀ l:List (List Te),(∀ rs∈l,rs.length<=2)->l.flatten.length<=2*l.length:=by
        intro l
        induction l with
        | nil=>intro _;simp
        | cons x l ih =>
         intro h;have h6:=h x (by simp);have h7:=ih λy C=>h y (by simp [C]);simp only [List.flatten_cons,List.length_append,List.length_cons];omega
       have:=N (s.1.2.take k) λrs h=>B.two rs (List.mem_of_mem_take h);have S:(s.1.2.take k).length<=20:=by simp;omega
       omega
      have N:=dq (A (s.1.2.take k) λrs h=>List.mem_of_mem_take h);have h6:oh n rs:=⟨by omega,by omega,λr U=>A [rs] (λx W=>by rw [List.mem_singleton.1 W];exact List.mem_of_getElem? o) r (by simpa using U)⟩;show r.2.1.1=_;rw [q4 (by omega) h6,w,M];omega
   ·rw [if_neg (by omega),E];exact .inr ⟨_,rfl,.inr ⟨rfl,rfl⟩⟩)
 refine (λh=>h) ?_;have P : ∀ {K:(Nat×((Int×(Bool×Int))×Unit))->Option Bool},(∃ b,K r=some b/\(b=false->Sm s/\(VLev s.1->UY s.1.2.flatten<=40))) -> ∀ {m:Option (Nat×((Int×(Bool×Int))×Unit))},m=some r -> ∃ b,bd m K=some b/\(b=false->Sm s/\(VLev s.1->UY s.1.2.flatten<=40)):=λh _ e=>by subst e;exact h
 refine P ?_ q1;rw [SM];rcases u with ⟨u,E,q4,q5⟩ | ⟨u,E⟩
 rotate_left
 ·rw [if_neg (by omega),E];exact ⟨_,rfl,λh=>by cases h⟩
 rw [if_pos u,E]
 obtain ⟨r2,p1,O⟩:=Yy (l:=s.2.1) (σ:=Unit) (s:=(false,(0:Int))) 20 (by omega) (λk _=>(false,(k:Int))) (λ_ _=>True) (λ(r:Nat×((Bool×Int)×Unit))=>r.1=1\/(r.1=0/\r.2.1.1=true))
  (f:=λa=>br (SW a.2 (s.2.1.length:Int)) (λ_=>br (SW a.2 20) (λ_=>RX a.2 λZ=>ix s.2.1 Z λg=>br (SU (g.2.1.1.length:Int) 20) (λ_=>some (.dn ((0,((true,a.2),()))))) λ_=>br (SU (g.2.1.2.1.length:Int) 100) (λ_=>some (.dn ((0,((true,a.2),()))))) λ_=>br (SU (g.2.1.2.2.1.length:Int) 100) (λ_=>some (.dn ((0,((true,a.2),()))))) λ_=>br (SU (g.2.1.2.2.2.1.length:Int) 100) (λ_=>some (.dn ((0,((true,a.2),()))))) λ_=>bd (loop (λd=>br (SW d.1 (g.2.1.1.length:Int)) (λ_=>RX d.1 λD=>ix g.2.1.1 D λG=>some (.nx ((Rl .i64 d.1 1,Rl .i64 d.2 (G.length:Int))))) λ_=>some (.dn (((0:Nat),(d,()))))) (((0:Int),(g.2.2.2.1.length:Int)))) λr24=>br (SU r24.2.1.2 200) (λ_=>some (.dn ((0,((true,a.2),()))))) λ_=>some (.nx (a.1,Rl .i64 a.2 1))) λ_=>some (.dn ((1,(a,()))))) λ_=>some (.dn ((1,(a,())))))
  () rfl trivial (λk _ h t _=>⟨_,(mB (c:=20) h t _ _ _ rfl),.inl rfl⟩) (λk j _ o t _=>by
   simp only;have z:=(List.getElem?_eq_some_iff.1 o).1;rw [rl z,R5,show SW (k:Int) 20=true from dx t,R5,S9,Sb o,Sp];by_cases w:(j.2.1.1.length:Int)>20
   ·rw [if_pos w];exact .inr ⟨_,rfl,.inr ⟨rfl,rfl⟩⟩
   rw [if_neg w]
   obtain ⟨r3,t1,_⟩:=WZ (l:=j.2.1.1) (σ:=Int) (s:=((0:Int),(j.2.2.2.1.length:Int))) (λk n=>((k:Int),n)) (λ_ _ _=>True) (λ(_:Nat×((Int×Int)×Unit))=>True)
    (f:=λd=>br (SW d.1 (j.2.1.1.length:Int)) (λ_=>RX d.1 λD=>ix j.2.1.1 D λG=>some (.nx ((Rl .i64 d.1 1,Rl .i64 d.2 (G.length:Int))))) λ_=>some (.dn (((0:Nat),(d,())))))
    (j.2.2.2.1.length:Int) rfl (by omega) trivial (λn _=>⟨_,by rw [re];rfl,trivial⟩) (λk y m n hd C t _ => .inl ⟨Rl .i64 n (y.length:Int),by rw [rl t,R5,S9,Sb C,TK (by omega)],trivial⟩)
   rw [t1,SL,Sp,Sp,Sp,Sp,TK (by omega)]
   repeat' split
   all_goals first | exact .inr ⟨_,rfl,.inr ⟨rfl,rfl⟩⟩ | exact .inl ⟨(),rfl,trivial⟩)
 rw [p1,SL,SM];rcases O with O | ⟨O,p3⟩
 rotate_left
 ·rw [if_pos O,p3];exact ⟨_,rfl,λh=>by cases h⟩
 rw [if_neg (by omega),Sp,Sp];by_cases w:r.2.1.1>40
 ·rw [if_pos w];exact ⟨_,rfl,λh=>by cases h⟩
 rw [if_neg w];by_cases M:(s.1.2.length:Int)>15
 ·rw [if_pos M];exact ⟨_,rfl,λh=>by cases h⟩
 rw [if_neg M];refine ⟨_,rfl,λh=>⟨⟨by omega,λrs J=>⟨?_,o rs J⟩,?_⟩,λB=>by have:=q5 B (by omega);omega⟩⟩
 ·obtain ⟨i,hi⟩:=List.getElem?_of_mem J;have:=q4 i rs (by have:=(List.getElem?_eq_some_iff.1 hi).1;omega) hi;omega
 ·unfold SU at h;simp at h;omega
end
section
open Go Go.Proofs.YtfilfloanndddaaGreat.Sv
set_option maxRecDepth 1000000
theorem ae:VI ()=some true:=by kernel_rfl
theorem my {s:TA} (f : ∀ rs∈s.1.2,∀ r∈rs,r.2.length<=9223372036854775807) {K:Bool->Option Bool} (c:K true=some true) (d:Sm s->(VSt s->UY s.1.2.flatten<=40)->K false=some true):bd (Wc s) K=some true:=by
 obtain ⟨b,e,a⟩:=gD s f;rw [e,SL];cases b with
 | true=>exact c
 | false=>exact d (a rfl).1 λv=>(a rfl).2 v.lev
theorem nN {s:TA} (h:VSt s->UY s.1.2.flatten<=40):VSt s->UY s.1.2.flatten<=2000:=λv=>by have:=h v;omega
end
section
open Go Go.Proofs.YtfilfloanndddaaGreat.Sv
theorem mq {a:Int} (h : -9223372036854775808<=a/\a<=9223372036854775807):Su .i64 a=a:=by
 have:=R9 (a:=a) (b:=0) (by omega);unfold Rl at this;rw [Int.add_zero] at this;exact this
end
section
open Go Go.Proofs.YtfilfloanndddaaGreat.Sv
theorem bM {s:TA} (v:VSt s) {g:Int} (h:0<=g/\g<=1000000):Xd s g=0:=Zj (TJ.2 v) (by omega)
theorem gX {s:TA} (v:VSt s) {g:Int} (h:0<=g/\g<=1000000):az s g=if (Tj g.toNat s).2.2≠0 then ([],(Tj g.toNat s).2.2) else ((Tj g.toNat s).2.1.map (·.1),0):=by
 unfold az;rw [bM v h,if_neg (by decide)]
theorem cL {s:TA} (v:VSt s) {g:Int} (h:0<=g/\g<=1000000):bE s g=if (Tj g.toNat s).2.2≠0 then (zS,(zU,(Tj g.toNat s).2.2)) else ((Tj g.toNat s).1,(mw g (XK zU (Tj g.toNat s).2.1),0)):=by
 unfold bE;rw [bM v h,if_neg (by decide)]
end
section
open Go Go.Proofs.YtfilfloanndddaaGreat.Sv
theorem mb (u:Xt) (l:List (Int×Bool)) (x:Int×Bool):XK u (l++[x])=XV (XK u l) x:=by simp [XK]
theorem cR : ∀ (l:List (Int×Bool)) (u:Xt),0<=u.2.2.1->u.2.2.1<=u.1->u.1+l.length<=2000000->(XK u l).2.2.1<=(XK u l).1
 | [],u,_,h,_=>h
 | x::l,u,h0,h,hb=>by
  have a:((x::l).length:Int)=(l.length:Int)+1:=by simp
  rw [a] at hb
  have e1:(XV u x).1=u.1+1:=by
   show Rl .i64 u.1 1=_;exact R9 (by omega)
  have e2:(XV u x).2.2.1=u.2.2.1\/(XV u x).2.2.1=u.2.2.1+1:=by
   show (if x.2=true then Rl .i64 u.2.2.1 1 else u.2.2.1)=_\/(if x.2=true then Rl .i64 u.2.2.1 1 else u.2.2.1)=_
   split
   ·exact .inr (R9 (by omega))
   ·exact .inl rfl
  exact cR l (XV u x) (by omega) (by omega) (by omega)
theorem mD {a b:Int} (c:0<=a) (d:0<b):0<=SY .i64 a b/\SY .i64 a b<b:=by
 unfold SY;exact ⟨Int.tmod_nonneg _ c,Int.tmod_lt_of_pos _ d⟩
theorem ZN (n:Nat) (s:TA):Tj (n+1) s=if Ux s=4 then (s,([],0)) else if Ux s≠0 then (s,([],Ux s)) else ((Tj n (Vc s)).1,(Vn s::(Tj n (Vc s)).2.1,(Tj n (Vc s)).2.2)):=rfl
end
section
open Go Go.Proofs.YtfilfloanndddaaGreat.Sv
set_option maxRecDepth 100000
def lst (a:bH):List Int:=[a.1,a.2.1,a.2.2.1,a.2.2.2.1,a.2.2.2.2.1,a.2.2.2.2.2.1,a.2.2.2.2.2.2.1,a.2.2.2.2.2.2.2.1,a.2.2.2.2.2.2.2.2.1,a.2.2.2.2.2.2.2.2.2.1,a.2.2.2.2.2.2.2.2.2.2.1,a.2.2.2.2.2.2.2.2.2.2.2]
theorem oa {a b:Nat} (h:a≠b):neq a b=false:=by
 unfold neq;cases c:Nat.beq a b with
 | false=>rfl
 | true=>exact absurd (Nat.eq_of_beq_eq_true c) h
theorem mG (a:bH) {k n:Nat} (c:k<12):OO (lst (ZB a n n)) k=if k=n then Rl .i64 (OO (lst a) k) 1 else OO (lst a) k:=by
 by_cases h:k=n
 ·subst h;rw [if_pos rfl]
  match k,c with
  | 0,_ | 1,_ | 2,_ | 3,_ | 4,_ | 5,_ | 6,_ | 7,_ | 8,_ | 9,_ | 10,_ | 11,_=>rfl
 ·rw [if_neg h]
  have h' : ∀ i,i=k->Sw (neq n i)=λ_ b=>b:=λi hi=>by
   rw [oa (by omega)];rfl
  match k,c with
  | 0,_=>show Sw (neq n 0) _ _=_;rw [h' _ rfl];rfl
  | 1,_=>show Sw (neq n 1) _ _=_;rw [h' _ rfl];rfl
  | 2,_=>show Sw (neq n 2) _ _=_;rw [h' _ rfl];rfl
  | 3,_=>show Sw (neq n 3) _ _=_;rw [h' _ rfl];rfl
  | 4,_=>show Sw (neq n 4) _ _=_;rw [h' _ rfl];rfl
  | 5,_=>show Sw (neq n 5) _ _=_;rw [h' _ rfl];rfl
  | 6,_=>show Sw (neq n 6) _ _=_;rw [h' _ rfl];rfl
  | 7,_=>show Sw (neq n 7) _ _=_;rw [h' _ rfl];rfl
  | 8,_=>show Sw (neq n 8) _ _=_;rw [h' _ rfl];rfl
  | 9,_=>show Sw (neq n 9) _ _=_;rw [h' _ rfl];rfl
  | 10,_=>show Sw (neq n 10) _ _=_;rw [h' _ rfl];rfl
  | 11,_=>show Sw (neq n 11) _ _=_;rw [h' _ rfl];rfl
def fw (u:Xt) (k:Nat):Int:=OO (lst u.2.2.2) k
def Yc (k:Nat):List (Int×Bool)->Nat
 | []=>0
 | x::l=>(if x.1=(k:Int) then 1 else 0)+Yc k l
theorem ax {k:Nat} (d:k<12) : ∀ (l:List (Int×Bool)) (u:Xt),(∀ x∈l,0<=x.1)->0<=fw u k->fw u k+l.length<=2000000->fw (XK u l) k=fw u k+(Yc k l:Int)
 | [],u,_,_,_=>by simp [XK,Yc]
 | x::l,u,hx,h0,h=>by
  have f:((x::l).length:Int)=(l.length:Int)+1:=by simp
  rw [f] at h;have g:=hx x (by simp)
  have e:fw (XV u x) k=fw u k+(if x.1=(k:Int) then 1 else 0):=by
   show OO (lst (ZB u.2.2.2 x.1.toNat x.1.toNat)) k=_;rw [mG _ d];by_cases c:x.1=(k:Int)
   ·rw [if_pos (by omega),if_pos c];exact R9 (a:=fw u k) (b:=1) (by omega)
   ·rw [if_neg (by omega),if_neg c,Int.add_zero];rfl
  have:=ax d l (XV u x) (λy i=>hx y (by simp [i])) (by rw [e];split<;>omega) (by rw [e];split<;>omega);show fw (XK (XV u x) l) k=_;rw [this,e];show _=fw u k+(((if x.1=(k:Int) then 1 else 0)+Yc k l:Nat):Int)
  split<;>simp<;>omega
def ZQ (s:TA) (i:Nat):Nat:=match UH s.2.1 (i:Int) with
 | some j=>TM s.1 j
 | none=>0
theorem eW {s0 s:TA} (g:Gd s0 s) (e:Ux s=0) {i:Nat} (q:(TG s.1.2 i).length=2) (u:Vn s≠((i:Int),true)):ZQ (Vc s) i+(if (Vn s).1=(i:Int) then 1 else 0)=ZQ s i:=by
 obtain ⟨n,j,f,D,t,hc,F,p⟩:=Vr g e;by_cases b:i=n
 ·subst b;rw [if_pos f]
  have c:0<TM s.1 j:=by
   by_cases c:0<TM s.1 j
   ·exact c
   ·exact absurd (Prod.ext f (F.inst (by omega)).1) u
  obtain ⟨_,e1,_,e2⟩:=F.read c;have e3:UH (Vc s).2.1 (i:Int)=some (j.1,Xc s.1 j):=by rw [e2,if_pos rfl]
  obtain ⟨B,C,m,o,E,w⟩:=t.rd;have h:=p.1.jobAt e3;obtain ⟨z,A,d,x,y,_⟩:=h.rd;rw [e1,m] at d;cases d;unfold ZQ;rw [e3,F.job];have:=w c;show TM (Vc s).1 (j.1,Xc s.1 j)+1=TM s.1 j;omega
 ·rw [if_neg (by rw [f];omega)];obtain ⟨m,o⟩:=mf g.1 F b q;obtain ⟨j',a⟩:=g.1.hasJob q;have k:=g.1.jobAt a;have l:=p.1.jobAt (i:=i) (by rw [o];exact a);obtain ⟨B,C,d,x,y,_⟩:=k.rd;obtain ⟨z,A,r,G,I,_⟩:=l.rd;rw [m,d] at r;cases r;unfold ZQ;rw [o,a];show TM (Vc s).1 j'+0=TM s.1 j';omega
theorem aV {a:Int} : ∀ {k n:Nat} {s:TA},(XR a k n s).2≠0->(XR a k n s).1=0
 | 0,_,_,h=>absurd rfl h
 | k+1,n,s,h=>by
  unfold XR at h ⊢;by_cases b:Ux s≠0
  ·rw [if_pos b]
  ·rw [if_neg b] at h ⊢;by_cases c:Vn s=(a,true)
   ·rw [if_pos c] at h;exact absurd rfl h
   ·rw [if_neg c] at h ⊢;exact aV h
theorem ej {s0:TA} {i:Nat} (k:Nat) : ∀ (n:Nat) (s:TA),Gd s0 s->aF 2000 s<k->(TG s.1.2 i).length=2->(XR (i:Int) k n s).2=0 -> ∃ q t,XR (i:Int) k n s=(((n+q+1:Nat):Int),0)/\Tj q s=(t,((Tj q s).2.1,0))/\(Tj q s).2.1.length=q/\Ux t=0/\Vn t=((i:Int),true)/\Yc i (Tj q s).2.1=ZQ s i/\Gd s0 t:=by
 induction k with
 | zero=>intro n s _ h;exact absurd h (Nat.not_lt_zero _)
 | succ k B =>
  intro n s g C f h;unfold XR at h ⊢;by_cases c:Ux s≠0
  ·rw [if_pos c] at h;exact absurd h c
  ·rw [if_neg c] at h ⊢;have a:Ux s=0:=by simpa using c
   by_cases b:Vn s=((i:Int),true)
   ·rw [if_pos b];refine ⟨0,s,rfl,rfl,rfl,a,b,?_,g⟩;obtain ⟨m,j,l,_,_,_,F,_⟩:=Vr g a;rw [b] at l F
    have d:m=i:=by
     have:(i:Int)=(m:Int):=l;omega
    subst d;unfold ZQ;rw [F.job];show 0=TM s.1 j;by_cases A:0<TM s.1 j
    ·exact absurd (F.read A).1 (by simp)
    ·omega
   ·rw [if_neg b] at h ⊢;obtain ⟨_,_,_,_,_,_,_,z⟩:=Vr g a;have D:=(ay g g.2.2 a).1;obtain ⟨q,t,o,p,r,u,w,x,y⟩:=B (n+1) (Vc s) z (by omega) (mg g a f b) h
    have e:Tj (q+1) s=((Tj q (Vc s)).1,(Vn s::(Tj q (Vc s)).2.1,(Tj q (Vc s)).2.2)):=by
     rw [ZN,if_neg (by rw [a];decide),if_neg (by simp [a])]
    refine ⟨q+1,t,by rw [o,show n+1+q+1=n+(q+1)+1 by omega],?_,?_,u,w,?_,y⟩
    ·rw [e,p]
    ·rw [e];simpa using r
    ·rw [e];show (if (Vn s).1=(i:Int) then 1 else 0)+Yc i (Tj q (Vc s)).2.1=_
     have:=eW g a f b;rw [x];omega
theorem cQ {s0:TA} : ∀ {n:Nat} {s:TA},Gd s0 s -> ∀ x∈(Tj n s).2.1,0<=x.1
 | 0,_,_,x,h=>by simp [Tj] at h
 | n+1,s,g,x,h=>by
  rw [ZN] at h;by_cases b:Ux s=4
  ·rw [if_pos b] at h;simp at h
  ·rw [if_neg b] at h;by_cases a:Ux s≠0
   ·rw [if_pos a] at h;simp at h
   ·rw [if_neg a] at h;obtain ⟨e,_,d,_,_,_,_,c⟩:=Vr g (by simpa using a);rcases List.mem_cons.1 h with rfl | h
    ·rw [d];omega
    ·exact cQ c x h
end
section
open Go Go.Proofs.YtfilfloanndddaaGreat.Sv
set_option maxRecDepth 100000
theorem bQ (k:Nat) : ∀ (l m:List (Int×Bool)),Yc k (l++m)=Yc k l+Yc k m
 | [],m=>by simp [Yc]
 | x::l,m=>by
  show (if x.1=(k:Int) then 1 else 0)+Yc k (l++m)=(if x.1=(k:Int) then 1 else 0)+Yc k l+Yc k m
  rw [bQ k l m];omega
theorem Xo : ∀ k:Nat,k<12->fw zU k=0:=by decide +kernel
theorem grantsNeeded {x:TA×Int} (E : ∀ rs∈x.1.1.2,∀ r∈rs,r.2.length<=9223372036854775807) (hg:0<=x.2/\x.2<=255):Um x=some true:=by
 obtain ⟨s,a⟩:=x;unfold Um;refine my E ?_ λm hc => ?_
 ·rw [R5,ae];rfl
 have hc:=nN hc;have L:0<=a/\a<=255:=hg;have hr:=mD (a:=a) (b:=12) L.1 (by decide);obtain ⟨i,hi⟩ : ∃ i:Nat,SY .i64 a 12=(i:Int):=⟨(SY .i64 a 12).toNat,by omega⟩;have c:i<12:=by omega
 show br false _ (λ_=>bd (VH (s,SY .i64 (Su .i64 a) 12)) λu=>br (RT u.2 0) (λ_=>br (RR u.1 0) (λ_=>bd (VI ()) _) _) λ_=>bd (UN (s,Rp .i64 u.1 1)) λS=>bd (Uk (s,u.1)) λU=>bd (UN (s,u.1)) λW=>bd (We (s,SY .i64 (Su .i64 a) 12)) λX=>br (RT S.2.2 0) _ λ_=>br (RT U.2 0) _ λ_=>br (RT W.2.2 0) _ λ_=>br (RT X.2 0) _ λ_=>br (SW u.1 1) _ λ_=>br (RT (Kb (AS U.1)) u.1) _ λ_=>RX (Rp .i64 u.1 1) λP=>ix U.1 P λY=>br (RT Y (SY .i64 (Su .i64 a) 12)) _ λ_=>RX (SY .i64 (Su .i64 a) 12) λl=>gd (KC l 12) λ_=>br (RR (OO (lst W.2.1.2.2.2) l) X.1) (λ_=>RX (SY .i64 (Su .i64 a) 12) λo=>gd (KC o 12) λ_=>br (RR (OO (lst S.2.1.2.2.2) o) (Rp .i64 X.1 1)) (λ_=>br (RR W.2.1.2.2.1 (Rl .i64 S.2.1.2.2.1 1)) _ _) _) _)=_;rw [mq (a:=a) (by omega),hi,Rd,gG m hc,SL,Ss];by_cases k:(Y5 s (i:Int)).2=0;rotate_left
 ·have e1:(Y5 s (i:Int)).1=0:=by
   unfold Y5 at k ⊢;split
   ·rfl
   ·rename_i h1;rw [if_neg h1] at k;split
    ·rfl
    ·rename_i y;rw [if_neg y] at k;split
     ·rfl
     ·rename_i p;rw [if_neg p] at k;exact aV k
  rw [if_neg k,Sn,if_pos e1,ae];rfl
 rw [if_pos k]
 have w:(TD s).2=0:=by
  by_cases w:(TD s).2=0
  ·exact w
  ·unfold Y5 at k;rw [if_pos w] at k;exact absurd k w
 have p:(Vz s (i:Int)).2=0:=by
  by_cases p:(Vz s (i:Int)).2=0
  ·exact p
  ·unfold Y5 at k;rw [if_neg (by simp [w]),if_neg (by omega),if_pos p] at k;exact absurd k p
 have hS:Y5 s (i:Int)=XR (i:Int) (aF 2000 s+1) 0 s:=by
  unfold Y5;rw [if_neg (by simp [w]),if_neg (by omega),if_neg (by simp [p])]
 have v:=TJ.1 w;have G:Gd s s:=⟨v,rfl,hc v⟩;obtain ⟨e,hii,y⟩:=bY v p;have A:e=i:=by omega
 subst A;rw [hS] at k ⊢;obtain ⟨q,t,a1,I,F,Z,a5,J,a7⟩:=ej (aF 2000 s+1) 0 s G (by omega) y k;have O:=(cK (N:=2000) (n:=q) G (hc v)).2.1;have hp:=ZK v;obtain ⟨f,D⟩ : ∃ f,f=(Tj q s).2.1:=⟨_,rfl⟩;rw [<- D] at I F J O
 have a8:Tj (q+1) s=(Vc t,(f++[((e:Int),true)],0)):=by
  rw [cJ,I,if_neg (by simp)];show ((Tj 1 t).1,(f++(Tj 1 t).2.1,(Tj 1 t).2.2))=_
  have:Tj 1 t=(Vc t,([Vn t],0)):=by
   rw [ZN,if_neg (by rw [Z];decide),if_neg (by simp [Z])];rfl
  rw [this,a5]
 rw [a1,show 0+q+1=q+1 by omega];have o1:=cL v (g:=(q:Int)) (by omega);have o2:=cL v (g:=((q+1:Nat):Int)) (by omega);have o3:=gX v (g:=((q+1:Nat):Int)) (by omega);rw [Int.toNat_natCast,I,if_neg (by simp)] at o1;rw [Int.toNat_natCast,a8,if_neg (by simp)] at o2 o3;have C:Rp .i64 ((q+1:Nat):Int) 1=(q:Int):=by rw [SB (by omega)];omega
 have hd:=(v.debt (d:=(e:Int)) (by
  have:=ZY (i:=0) y
  rwa [Nat.zero_add] at this) m)
 have z:Yq s (e:Int)=ZQ s e+1:=by
  obtain ⟨j,hj⟩:=v.hasJob y;unfold Yq ZQ;rw [f8 v,hj]
 show bd (UN (s,Rp .i64 ((q+1:Nat):Int) 1)) _=_;rw [C,aL m hc,SL];show bd (Uk (s,((q+1:Nat):Int))) _=_;rw [eR m hc,SL,aL m hc,SL,hd.2.1,SL,o1,o2,o3];have nn : ∀ x∈f,0<=x.1:=λx E=>cQ (n:=q) G x (by rw [<- D];exact E);have l1:=ax c f zU nn (by rw [Xo _ c];exact Int.le_refl _) (by rw [Xo _ c];omega)
 have l2:=ax c (f++[((e:Int),true)]) zU (λx E=>by
  rcases List.mem_append.1 E with h | h
  ·exact nn x h
  ·rw [List.mem_singleton.1 h];show (0:Int)<=(e:Int);omega) (by rw [Xo _ c];exact Int.le_refl _) (by rw [Xo _ c];simp;omega)
 rw [Xo _ c,J,Int.zero_add] at l1;have K:Yc e [((e:Int),true)]=1:=by simp [Yc]
 rw [Xo _ c,bQ,J,K,Int.zero_add] at l2;have u3:=cR f zU (by decide) (by decide) (by show (0:Int)+_<=_;omega);have M:(XK zU (f++[((e:Int),true)])).2.2.1=Rl .i64 (XK zU f).2.2.1 1:=by rw [mb];rfl
 have B:((f++[((e:Int),true)]).map (·.1)).length=q+1:=by simp [F]
 rw [Ss,if_pos rfl,Ss,if_pos rfl,Ss,if_pos rfl,Ss,if_pos rfl,Sr,if_neg (by omega),Ss,if_pos (by show (((f++[((e:Int),true)]).map (·.1)).length:Int)=_;rw [B])];show RX (q:Int) (λP=>ix ((f++[((e:Int),true)]).map (·.1)) P λY=>br (RT Y (e:Int)) _ λ_=>RX (e:Int) λl=>gd (KC l 12) λ_=>br (RR (fw (XK zU (f++[((e:Int),true)])) l) (Yq s (e:Int):Int)) (λ_=>RX (e:Int) λo=>gd (KC o 12) λ_=>br (RR (fw (XK zU f) o) (Rp .i64 (Yq s (e:Int):Int) 1)) (λ_=>br (RR (XK zU (f++[((e:Int),true)])).2.2.1 (Rl .i64 (XK zU f).2.2.1 1)) _ _) _) _)=_;rw [S9,Sb (x:=(e:Int)) (by rw [List.map_append,List.getElem?_append_right (by simp [F])];simp [F]),Ss,if_pos rfl,S9,aM c,Sn,if_pos (by rw [l2,z]),S9,aM c,Sn,if_pos (by rw [l1,z,SB (by omega)];omega),Sn,if_pos M,ae];rfl
end
section
open Go Go.Proofs.YtfilfloanndddaaGreat.Sv
@[reducible] def tE:Ty:=.pair .str (.pair .str (.pair .bool (.int .i64)))
@[reducible] def sB:Ty:=.pair (.pair (.int .i64) (.sl true (.sl true (.pair (.int .i64) (.sl true tE))))) (.pair (.sl true (.pair (.int .i64) (.pair (.pair (.sl false (.sl true tE)) (.pair (.sl false (.int .i64)) (.pair (.sl true (.pair .str .bool)) (.pair (.sl false (.int .i64)) (.int .i64))))) (.pair (.pair .bool (.pair .str .bool)) (.pair (.sl true tE) (.int .i64)))))) (.int .i64))
theorem oX {s:TA} (h:Qk sB s) : ∀ rs∈s.1.2,∀ r∈rs,r.2.length<=9223372036854775807:=by
 obtain ⟨⟨_,d,c⟩,_⟩:=h;exact λrs b r a=>((c rs b).2 r a).2.1
theorem og {b:Int} (h:Qk (.int .u8) b):0<=b/\b<=255:=by
 have a:(decide (IntKind.min .u8<=b)&&decide (b<=IntKind.max .u8))=true:=h;rw [Bool.and_eq_true,decide_eq_true_eq,decide_eq_true_eq] at a;exact a
theorem eu {x:TA×Int} (h:Ql [(true,sB),(false,.int .u8)] x):Um x=some true:=grantsNeeded (oX h.1) (og h.2)
end
end Go.Proofs.YtfilfloanndddaaGreat.Pl
