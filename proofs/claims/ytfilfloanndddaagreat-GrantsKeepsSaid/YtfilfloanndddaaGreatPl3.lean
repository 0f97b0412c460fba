/- Functions of the program and of the specification as plain functions, and laws about them. No condition. -/
import Derived.Test.YtfilfloanndddaaGreatPl2
import Derived.KernelRfl
set_option linter.all false
namespace Go.Proofs.YtfilfloanndddaaGreat.Pl
section
open Go Go.Proofs.YtfilfloanndddaaGreat.Sv
theorem dX {α β γ:Type} {f:α->Option (LR α β)} {K:β->Option γ} {R:Option γ} (Inv:α->Prop) (Q:β->Prop) (m:α->Nat) {s:α} (hs:Inv s) (b:m s<18446744073709551616)
  (step : ∀ s,Inv s->(∃ s',f s=some (.nx s')/\Inv s'/\m s'<m s)\/(∃ x,f s=some (.dn x)/\Q x)) (a : ∀ x,Q x->K x=R):bd (loop f s) K=R:=by
 obtain ⟨x,e,q⟩:=Rr Inv Q m hs b step;rw [e];exact a x q
theorem Yq {β:Type} (n:Nat) (x y:Unit->Option β):br (neq n 0) x y=if n=0 then x () else y ():=by
 rw [SM]
def zU:W9:=(0,(0,(0,(0,(0,(0,(0,(0,(0,(0,(0,(0,(0,(0,0))))))))))))))
def Z7 (g:Int) (u:W9):W9:=(u.1,(Rp .i64 g u.1,u.2.2))
def dl (s:TA) (e:Int) (u:W9):(Int×(List (List TY)×(List Job×(Int×Int))))×W9:=((s.1.1,(s.1.2,(s.2.1,(s.2.2,e)))),u)
theorem oR {s0 s:TA} (g:Gd s0 s):WD s=4/\(UG s).2=4\/WD s≠4/\WD s≠0/\(UG s).2≠4/\((UG s).2=WD s\/(UG s).2=0/\(U2 s (UG s).1).2.2=WD s)\/WD s=0/\(UG s).2=0/\(U2 s (UG s).1).2.2=0:=by
 by_cases a:WD s=4
 ·exact .inl ⟨a,(bV g a).1⟩
 ·by_cases b:WD s=0
  ·have:=bU g b;exact .inr (.inr ⟨b,this.1,this.2.2⟩)
  ·refine .inr (.inl ⟨a,b,?_⟩);unfold WD at a b ⊢;by_cases c:(UG s).2≠0
   ·rw [if_pos c] at a ⊢;exact ⟨a,.inl rfl⟩
   ·have d:(UG s).2=0:=by simpa using c
    rw [if_neg c];rw [d];exact ⟨by decide,.inr ⟨rfl,rfl⟩⟩
theorem oV {u:W9} {x:Int×Bool} (h:0<=u.1/\u.1<=1000000):(Ym u x).1=u.1+1:=by
 show Rl .i64 u.1 1=_;exact R9 (by omega)
def At (s0:TA) (g:Int) (T:TA×((List Int×W9)×Int)) (k:Nat) (s:TA) (l:List Int) (u:W9):Prop:=Gd s0 s/\0<=u.1/\u.1+k=g/\g<=1000000/\(l.length:Int)=u.1/\T=((UA k s).1,((l++(UA k s).2.1.map (·.1),Xb u (UA k s).2.1),(UA k s).2.2))
theorem At.step {s0 s:TA} {g:Int} {T:TA×((List Int×W9)×Int)} {k:Nat} {l:List Int} {u:W9} (a:At s0 g T (k+1) s l u) (e:WD s=0):At s0 g T k (YT s) (l++[(Xm s).1]) (Ym u (Xm s)):=by
 obtain ⟨c,h,i,d,j,f⟩:=a;obtain ⟨_,_,_,_,_,_,_,b⟩:=XL c e;have m:=oV (x:=Xm s) (show 0<=u.1/\u.1<=1000000 by omega);refine ⟨b,by omega,by omega,d,by simp;omega,?_⟩;rw [f];simp only [UA,e,ne_eq,not_true_eq_false,if_false,List.map_cons,List.append_assoc,List.cons_append,List.nil_append];rfl
theorem At.none {s0 s:TA} {g:Int} {T:TA×((List Int×W9)×Int)} {k:Nat} {l:List Int} {u:W9} (a:At s0 g T k s l u) (e:WD s=4):T=(s,((l,u),0)):=by
 rw [a.2.2.2.2.2];cases k<;>simp [UA,e,Xb]
theorem At.fail {s0 s:TA} {g:Int} {T:TA×((List Int×W9)×Int)} {k:Nat} {l:List Int} {u:W9} (a:At s0 g T (k+1) s l u) (c:WD s≠4) (b:WD s≠0):T=(s,((l,u),WD s)):=by
 rw [a.2.2.2.2.2];simp [UA,c,b,Xb]
theorem At.last {s0 s:TA} {g:Int} {T:TA×((List Int×W9)×Int)} {l:List Int} {u:W9} (a:At s0 g T 0 s l u):T=(s,((l,u),0)):=by
 rw [a.2.2.2.2.2];simp [UA,Xb]
theorem lu {s0 s:TA} (g:Gd s0 s) (e:WD s=0) : ∃ n:Nat,(UG s).1=(n:Int)/\n<12/\(UG s).1.toNat=n:=by
 obtain ⟨n,_,a,b,_⟩:=XL g e;exact ⟨n,a,b,by rw [show (UG s).1=(n:Int) from a];simp⟩
theorem mR {β:Type} {a b:Nat} (h:a<b) (k:Unit->Option β):gd (KC a b) k=k ():=by
 have:KC a b=true:=by unfold KC;simpa using h
 rw [this];rfl
theorem nB {u:W9} {s:TA} {n:Nat} (h:(UG s).1.toNat=n) (a:(U2 s (UG s).1).2.1=true):Ym u (Xm s)=(Rl .i64 u.1 1,(u.2.1,(Rl .i64 u.2.2.1 1,Yc u.2.2.2 n n))):=by
 unfold Ym Xm;rw [a,if_pos rfl,h]
theorem nA {u:W9} {s:TA} {n:Nat} (h:(UG s).1.toNat=n) (a:(U2 s (UG s).1).2.1=false):Ym u (Xm s)=(Rl .i64 u.1 1,(u.2.1,(u.2.2.1,Yc u.2.2.2 n n))):=by
 unfold Ym Xm;rw [a,if_neg (by simp),h]
theorem ca {γ:Type} {t:TA} {u:W9} {g:Int} {n:Nat} (c:0<=u.1/\u.1<=1000000) (e3:(U2 t (UG t).1).2.2=0) (n3:(UG t).1.toNat=n) (D N:Int->W9->Option γ) :
  (br (U2 t (UG t).1).2.1 (λ_=>br (RR (Rl .i64 u.1 1) g) (λ_=>D (U2 t (UG t).1).2.2 (Rl .i64 u.1 1,(u.2.1,(Rl .i64 u.2.2.1 1,Yc u.2.2.2 n n)))) λ_=>N (U2 t (UG t).1).2.2 (Rl .i64 u.1 1,(u.2.1,(Rl .i64 u.2.2.1 1,Yc u.2.2.2 n n)))) λ_=>br (RR (Rl .i64 u.1 1) g) (λ_=>D (U2 t (UG t).1).2.2 (Rl .i64 u.1 1,(u.2.1,(u.2.2.1,Yc u.2.2.2 n n)))) λ_=>N (U2 t (UG t).1).2.2 (Rl .i64 u.1 1,(u.2.1,(u.2.2.1,Yc u.2.2.2 n n))))=if u.1+1=g then D 0 (Ym u (Xm t)) else N 0 (Ym u (Xm t)):=by
 have hi:Rl .i64 u.1 1=u.1+1:=R9 (by omega);rw [Sx,Sn,Sn,hi,e3];by_cases a:(U2 t (UG t).1).2.1=true
 ·rw [if_pos a,nB n3 a,hi]
 ·have b:(U2 t (UG t).1).2.1=false:=by simpa using a
  rw [if_neg a,nA n3 b,hi]
def rn (g:Int):((Int×(List (List TY)×(List Job×(Int×Int))))×W9)->Option (LR ((Int×(List (List TY)×(List Job×(Int×Int))))×W9) (Nat×(((Int×(List (List TY)×(List Job×(Int×Int))))×W9)×Unit))) :=
 (λ(a:((Int×((List (List TY))×((List (Int×(TC×((Bool×TD)×((List S8)×Int)))))×(Int×Int))))×W9))=>bd (Tv (((a.1.1,a.1.2.1),(a.1.2.2.1,a.1.2.2.2.1)))) λc=>br (RR c.2 4) (λ_=>some (.dn ((0,(a,()))))) λ_=>br (RR c.2 0) (λ_=>bd (Tj ((((a.1.1,a.1.2.1),(a.1.2.2.1,a.1.2.2.2.1)),c.1))) λb=>br (RT b.2.2 0) (λ_=>some (.dn ((0,(((a.1.1,(a.1.2.1,(a.1.2.2.1,(a.1.2.2.2.1,b.2.2)))),a.2),()))))) λ_=>bd (Uk (c.1,b.2.1)) λi=>RX c.1 λf=>gd (KC f 12) λ_=>RX c.1 λh=>gd (KC h 12) λ_=>br b.2.1 (λ_=>br (RR (Rl .i64 a.2.1 1) g) (λ_=>some (.dn ((1,(((b.1.1.1,(b.1.1.2,(b.1.2.1,(b.1.2.2,b.2.2)))),(Rl .i64 a.2.1 1,(a.2.2.1,(Rl .i64 a.2.2.2.1 1,(Yc a.2.2.2.2 f h))))),()))))) λ_=>some (.nx (((b.1.1.1,(b.1.1.2,(b.1.2.1,(b.1.2.2,b.2.2)))),(Rl .i64 a.2.1 1,(a.2.2.1,(Rl .i64 a.2.2.2.1 1,(Yc a.2.2.2.2 f h)))))))) λ_=>br (RR (Rl .i64 a.2.1 1) g) (λ_=>some (.dn ((1,(((b.1.1.1,(b.1.1.2,(b.1.2.1,(b.1.2.2,b.2.2)))),(Rl .i64 a.2.1 1,(a.2.2.1,(a.2.2.2.1,(Yc a.2.2.2.2 f h))))),()))))) λ_=>some (.nx (((b.1.1.1,(b.1.1.2,(b.1.2.1,(b.1.2.2,b.2.2)))),(Rl .i64 a.2.1 1,(a.2.2.1,(a.2.2.2.1,(Yc a.2.2.2.2 f h)))))))) λ_=>br (RT c.2 0) (λ_=>some (.dn ((0,(((a.1.1,(a.1.2.1,(a.1.2.2.1,(a.1.2.2.2.1,c.2)))),a.2),()))))) λ_=>bd (Uk (c.1,false)) λj=>RX c.1 λd=>gd (KC d 12) λ_=>RX c.1 λe=>gd (KC e 12) λ_=>br (RR (Rl .i64 a.2.1 1) g) (λ_=>some (.dn ((1,(((0,([],([],(0,c.2)))),(Rl .i64 a.2.1 1,(a.2.2.1,(a.2.2.2.1,(Yc a.2.2.2.2 d e))))),()))))) λ_=>some (.nx (((0,([],([],(0,c.2)))),(Rl .i64 a.2.1 1,(a.2.2.1,(a.2.2.2.1,(Yc a.2.2.2.2 d e))))))))
theorem bq {s0 s:TA} (G:Gd s0 s) {g:Int} (L:g>0) (J:g<=1000000) {γ:Type} {K:(Nat×(((Int×(List (List TY)×(List Job×(Int×Int))))×W9)×Unit))->Option γ} {R:Option γ} (h : ∀ r:(Nat×(((Int×(List (List TY)×(List Job×(Int×Int))))×W9)×Unit)),r.2.1=dl (UA g.toNat s).1 (UA g.toNat s).2.2 (Xb zU (UA g.toNat s).2.1)->K r=R):bd (loop (rn g) (dl s 0 zU)) K=R:=by
 obtain ⟨b,o⟩ : ∃ b:Nat,b=g.toNat:=⟨_,rfl⟩;rw [<- o] at h;obtain ⟨T,w⟩ : ∃ T,T=((UA b s).1,(((UA b s).2.1.map (·.1),Xb zU (UA b s).2.1),(UA b s).2.2)):=⟨_,rfl⟩;refine dX (λi => ∃ k t l u,i=dl t 0 u/\At s0 g T (k+1) t l u) (λr=>r.2.1=dl T.1 T.2.2 T.2.1.2) (λi=>(g-i.2.1).toNat) ⟨b-1,s,[],zU,rfl,G,by decide,?_,by omega,rfl,?_⟩ ?_ ?_ ?_
 ·show (0:Int)+_=g;omega
 ·rw [w,show b-1+1=b by omega];rfl
 ·show (g-0).toNat<_;omega
 ·rintro i ⟨k,t,l,u,rfl,a⟩;obtain ⟨c,A,D,E,F,I⟩:=id a;rcases oR c with ⟨e1,e2⟩ | ⟨e1,e2,e3,d⟩ | ⟨e1,e2,e3⟩
  ·refine .inr ⟨(0,(dl t 0 u,())),?_,by rw [a.none e1]⟩;show bd (Tv t) _=_;rw [(ZL c).1,SL,Sn,if_pos e2]
  ·have C:=a.fail e1 e2;refine .inr ⟨(0,(dl t (WD t) u,())),?_,by rw [C]⟩;show bd (Tv t) _=_;rw [(ZL c).1,SL,Sn,if_neg e3,Sn];rcases d with d | ⟨d,q⟩
   ·rw [if_neg (by rw [d];exact e2),Ss,if_neg (by rw [d];exact e2),d];rfl
   ·rw [if_pos d];show bd (Tj (t,(UG t).1)) _=_;rw [(bx c _).1,SL,Ss,if_neg (by rw [q];exact e2),q];rfl
  ·obtain ⟨n,n1,n2,n3⟩:=lu c e1;have M:=oV (x:=Xm t) (show 0<=u.1/\u.1<=1000000 by omega);have y:=a.step e1
   have j : ∀ {R},(if u.1+1=g then some (LR.dn (1,(dl (YT t) 0 (Ym u (Xm t)),()))) else some (LR.nx (dl (YT t) 0 (Ym u (Xm t)))))=R->(∃ s',R=some (.nx s')/\(∃ k t l u,s'=dl t 0 u/\At s0 g T (k+1) t l u)/\(g-s'.2.1).toNat<(g-(dl t 0 u).2.1).toNat)\/(∃ x,R=some (.dn x)/\x.2.1=dl T.1 T.2.2 T.2.1.2):=fun {R} f=>by
    by_cases z:u.1+1=g
    ·rw [if_pos z] at f;have h:k=0:=by omega
     subst h;exact .inr ⟨_,f.symm,by rw [y.last]⟩
    ·rw [if_neg z] at f;obtain ⟨p,m⟩ : ∃ p,k=p+1:=⟨k-1,by omega⟩;refine .inl ⟨_,f.symm,⟨p,_,_,_,rfl,by rw [<- m];exact y⟩,?_⟩;show (g-(Ym u (Xm t)).1).toNat<(g-u.1).toNat;omega
   refine j ?_;symm;show bd (Tv t) _=_;rw [(ZL c).1,SL,Sn,if_neg (by rw [e2];decide),Sn,if_pos e2];show bd (Tj (t,(UG t).1)) _=_;rw [(bx c _).1,SL,Ss,if_pos e3];show bd (some ()) _=_;rw [SL,n1,S9,mR n2,S9,mR n2,<- n1];exact ca (u:=u) ⟨A,by omega⟩ e3 n3 (λe u=>some (LR.dn (1,(dl (YT t) e u,())))) (λe u=>some (LR.nx (dl (YT t) e u)))
 ·intro r B;refine h r ?_;rw [B,w]
end
section
open Go Go.Proofs.YtfilfloanndddaaGreat.Sv
end
section
open Go Go.Proofs.YtfilfloanndddaaGreat.Sv
theorem oM {s t:TA} {n:Nat} {j:Job} {b:Bool} (v:VSt s) (F:StepF s n j t b) {i:Nat} (a:i≠n) (f:(TG s.1.2 i).length=2):TG t.1.2 i=TG s.1.2 i/\UN t.2.1 (i:Int)=UN s.2.1 (i:Int):=by
 by_cases k:0<Tb s.1 j
 ·obtain ⟨_,e1,_,e2⟩:=F.read k;exact ⟨by rw [e1],by rw [e2,if_neg a]⟩
 ·obtain ⟨_,e1,_,e2,e3,g⟩:=F.inst (by omega)
  have e : ¬ (UR j≠[]/\i=Xp s j):=λ⟨c,hi⟩=>by
   rcases e3 with e3 | ⟨e3,_,h⟩
   ·exact a (by rw [hi,e3])
   ·have:=h c;rw [<- e3,<- hi] at this;omega
  have c:TG t.1.2 i=TG s.1.2 i:=by rw [e2,if_neg e,if_neg a]
  refine ⟨c,?_⟩;obtain ⟨j',d⟩:=v.hasJob f;rw [g,c,if_pos f,if_neg a,d];rfl
theorem oN {s0 s:TA} (g:Gd s0 s) (e:WD s=0) {i:Nat} (b:(TG s.1.2 i).length=2) (f:Xm s≠((i:Int),true)):(TG (YT s).1.2 i).length=2:=by
 obtain ⟨n,j,d,k,h,hc,F,_⟩:=XL g e;by_cases a:i=n
 ·subst a;by_cases c:0<Tb s.1 j
  ·rw [(F.read c).2.1];exact b
  ·exact absurd (Prod.ext d (F.inst (by omega)).1) f
 ·rw [(oM g.1 F a b).1];exact b
def bT (a:Int):Nat->Nat->TA->Int×Int
 | 0,_,_=>(0,0)
 | k+1,n,s=>if WD s≠0 then (0,WD s) else if Xm s=(a,true) then (((n+1:Nat):Int),0) else bT a k (n+1) (YT s)
def NAt (s0:TA) (a:Int) (T:Int×Int) (k n:Nat) (s:TA):Prop:=Gd s0 s/\l9 2000 s<k/\n+k<=60000/\T=bT a k n s /\ ∃ i:Nat,a=(i:Int)/\(TG s.1.2 i).length=2
theorem NAt.fail {s0 s:TA} {d:Int} {T:Int×Int} {k n:Nat} (a:NAt s0 d T k n s) (e:WD s≠0):T=(0,WD s):=by
 obtain ⟨_,f,_,c,_⟩:=a;obtain ⟨b,rfl⟩ : ∃ b,k=b+1:=⟨k-1,by omega⟩;rw [c];simp [bT,e]
theorem NAt.hit {s0 s:TA} {c:Int} {T:Int×Int} {k n:Nat} (a:NAt s0 c T k n s) (e:WD s=0) (h:Xm s=(c,true)):T=(((n+1:Nat):Int),0):=by
 obtain ⟨_,f,_,d,_⟩:=a;obtain ⟨b,rfl⟩ : ∃ b,k=b+1:=⟨k-1,by omega⟩;rw [d];simp [bT,e,h]
theorem NAt.next {s0 s:TA} {d:Int} {T:Int×Int} {k n:Nat} (a:NAt s0 d T k n s) (e:WD s=0) (h:Xm s≠(d,true)) : ∃ b,k=b+1/\NAt s0 d T b (n+1) (YT s)/\l9 2000 (YT s)<l9 2000 s:=by
 obtain ⟨c,m,o,j,i,f,l⟩:=a;obtain ⟨b,rfl⟩ : ∃ b,k=b+1:=⟨k-1,by omega⟩;obtain ⟨_,_,_,_,_,_,_,g⟩:=XL c e;have p:=(dq c c.2.2 e).1;refine ⟨b,rfl,⟨g,by omega,by omega,?_,i,f,oN c e l (by rw [<- f];exact h)⟩,by omega⟩;rw [j];simp [bT,e,h]
end
section
open Go Go.Proofs.YtfilfloanndddaaGreat.Sv
end
section
open Go Go.Proofs.YtfilfloanndddaaGreat.Sv
theorem dT (l:List S8) (b:Bool) (m:b=false) : ∃ r,loop (β:=Nat×((Int×Bool)×Unit)) (λa=>br (SW a.1 (l.length:Int)) (λ_=>br (SW a.1 50) (λ_=>RX a.1 λn=>ix l n λi=>br (SU (MW i.1:Int) 100) (λ_=>some (.dn ((0,((a.1,true),()))))) λ_=>RX a.1 λg=>ix l g λj=>br (SU (MW j.2.1:Int) 100) (λ_=>some (.dn ((0,((a.1,true),()))))) λ_=>some (.nx (Rl .i64 a.1 1,a.2))) λ_=>some (.dn ((1,(a,()))))) λ_=>some (.dn ((1,(a,()))))) ((0:Int),b)=some r/\((r.1=1/\r.2.1.2=false)\/(r.1=0/\r.2.1.2=true)):=by
 subst m
 exact Y5 (l:=l) (σ:=Unit) 50 (by omega) (λk _=>((k:Int),false)) (λ_ _=>True) (λ(r:Nat×((Int×Bool)×Unit))=>(r.1=1/\r.2.1.2=false)\/(r.1=0/\r.2.1.2=true)) () rfl trivial (λk _ h d _=>⟨_,(lh (c:=50) h d _ _ _ rfl),.inl ⟨rfl,rfl⟩⟩) (λk x _ f d _=>by
  simp only;have e:=(List.getElem?_eq_some_iff.1 f).1;rw [rl e,R5,show SW (k:Int) 50=true from di d,R5,S9,Sb f,Sp,S9,Sb f,Sp,TI (by omega)]
  repeat' split
  all_goals first | exact .inr ⟨_,rfl,.inr ⟨rfl,rfl⟩⟩ | exact .inl ⟨(),rfl,trivial⟩)
def oW (n:Int) (rs:List TY):Prop:=0<=n/\n<=1000000000 /\ ∀ r∈rs,r.2.length<=5000
theorem bD {rs:List TY} {k:Nat} (h : ∀ r∈rs,r.2.length<=5000) (d:k<=20):UK (rs.take k)<=100000:=by
 have b:=ZU (l:=rs.take k) λr a=>h r (List.mem_of_mem_take a);have c:(rs.take k).length<=k:=by rw [List.length_take];omega
 omega
theorem eX {L:List (List TY)} {i:Nat} {rs:List TY} (hi:L[i]? = some rs) (n:Int) (b:Bool) (B:b=false) : ∃ r,loop (β:=Nat×((Int×(Int×Bool))×Unit)) (λs1=>RX (i:Int) λC=>ix L C λI=>br (SW s1.2.1 (I.length:Int)) (λ_=>br (SW s1.2.1 9) (λ_=>RX (i:Int) λD=>ix L D λJ=>RX s1.2.1 λE=>ix J E λf=>bd (loop (λa=>br (SW a.1 (f.2.length:Int)) (λ_=>br (SW a.1 50) (λ_=>RX a.1 λF=>ix f.2 F λw=>br (SU (MW w.1:Int) 100) (λ_=>some (.dn (((0:Nat),((a.1,true),()))))) λ_=>RX a.1 λt=>ix f.2 t λy=>br (SU (MW y.2.1:Int) 100) (λ_=>some (.dn ((0,((a.1,true),()))))) λ_=>some (.nx (Rl .i64 a.1 1,a.2))) λ_=>some (.dn ((1,(a,()))))) λ_=>some (.dn ((1,(a,()))))) ((0:Int),s1.2.2)) λe=>br (neq e.1 0) (λ_=>some (.dn ((1,((Rl .i64 s1.1 (f.2.length:Int),(s1.2.1,e.2.1.2)),()))))) λ_=>some (.nx ((Rl .i64 s1.1 (f.2.length:Int),(Rl .i64 s1.2.1 1,e.2.1.2))))) λ_=>some (.dn ((0,(s1,()))))) λ_=>some (.dn ((0,(s1,()))))) (n,((0:Int),b))=some r/\((r.1=0/\r.2.1.2.2=false/\(rs.length<=8->oW n rs->r.2.1.1=n+(UK rs:Int)))\/(r.1=1/\r.2.1.2.2=true)):=by
 subst B
 exact Y5 (l:=rs) (σ:=Int) 9 (by omega) (λk m=>(m,((k:Int),false))) (λk m=>oW n rs->m=n+(UK (rs.take k):Int)) (λ(r:Nat×((Int×(Int×Bool))×Unit))=>(r.1=0/\r.2.1.2.2=false/\(rs.length<=8->oW n rs->r.2.1.1=n+(UK rs:Int)))\/(r.1=1/\r.2.1.2.2=true)) n rfl (λ_=>by simp [UK]) (λk m h p o=>⟨_,by
  rw [S9,Sb hi];exact (lh (c:=9) h p _ _ _ rfl),.inl ⟨rfl,rfl,λP d=>by
   have q:k=rs.length:=by omega
   subst q;have:=o d;rw [List.take_length] at this
   exact this⟩⟩) (λk x m g p o=>by
  simp only;have s:=(List.getElem?_eq_some_iff.1 g).1;obtain ⟨r,G,j⟩:=dT x.2 false rfl;rw [S9,Sb hi,rl s,R5,show SW (k:Int) 9=true from di p,R5,S9,Sb hi,S9,Sb g,G,SL,SM,TI (by omega)];rcases j with ⟨j,u⟩ | ⟨j,u⟩
  ·rw [if_neg (by omega),u];refine .inl ⟨_,rfl,λd => ?_⟩;have z:=o d
   have A:UK (rs.take (k+1))=UK (rs.take k)+x.2.length:=by
    rw [List.take_add_one,g,U3];simp [UK]
   have K:=d.2.2 x (List.mem_of_getElem? g);have M:=bD (k:=k) d.2.2 (by omega);have N:=d.1;have O:=d.2.1;show Rl .i64 m (x.2.length:Int)=_;rw [R9 (by omega),z,A];omega
  ·rw [if_pos j,u];exact .inr ⟨_,rfl,.inr ⟨rfl,rfl⟩⟩)
theorem fw (s:TA) (o : ∀ rs∈s.1.2,∀ r∈rs,r.2.length<=9223372036854775807) : ∃ b,Wa s=some b/\(b=false->Sm s/\(VLev s.1->UK s.1.2.flatten<=40)):=by
 unfold Wa;simp only [TH,TF]
 obtain ⟨r,q1,u⟩:=Y5 (l:=s.1.2) (σ:=Int) (s:=((0:Int),(false,(0:Int)))) 20 (by omega) (λk n=>(n,(false,(k:Int)))) (λk n=>(∀ i rs,i<k->s.1.2[i]? = some rs->rs.length<=8)/\(VLev s.1->n=(UK (s.1.2.take k).flatten:Int))) (λ(r:Nat×((Int×(Bool×Int))×Unit))=>(r.1=0/\r.2.1.2.1=false/\(∀ i rs,i<20->s.1.2[i]? = some rs->rs.length<=8)/\(VLev s.1->s.1.2.length<=15->r.2.1.1=(UK s.1.2.flatten:Int)))\/(r.1=1/\r.2.1.2.1=true))
  (f:=λs0=>br (SW s0.2.2 (s.1.2.length:Int)) (λ_=>br (SW s0.2.2 20) (λ_=>bd (loop (λs1=>RX s0.2.2 λk2=>ix s.1.2 k2 λx3=>br (SW s1.2.1 (x3.length:Int)) (λ_=>br (SW s1.2.1 9) (λ_=>RX s0.2.2 λk4=>ix s.1.2 k4 λx5=>RX s1.2.1 λk6=>ix x5 k6 λL=>bd (loop (λq=>br (SW q.1 (L.2.length:Int)) (λ_=>br (SW q.1 50) (λ_=>RX q.1 λk9=>ix L.2 k9 λx10=>br (SU (MW x10.1:Int) 100) (λ_=>some (.dn (((0:Nat),((q.1,true),()))))) λ_=>RX q.1 λX=>ix L.2 X λx12=>br (SU (MW x12.2.1:Int) 100) (λ_=>some (.dn ((0,((q.1,true),()))))) λ_=>some (.nx (Rl .i64 q.1 1,q.2))) λ_=>some (.dn ((1,(q,()))))) λ_=>some (.dn ((1,(q,()))))) ((0:Int),s1.2.2)) λF=>br (neq F.1 0) (λ_=>some (.dn (((1:Nat),((Rl .i64 s1.1 (L.2.length:Int),(s1.2.1,F.2.1.2)),()))))) λ_=>some (.nx ((Rl .i64 s1.1 (L.2.length:Int),(Rl .i64 s1.2.1 1,F.2.1.2))))) λ_=>some (.dn ((0,(s1,()))))) λ_=>some (.dn ((0,(s1,()))))) ((s0.1,((0:Int),s0.2.1)))) λp=>br (neq p.1 0) (λ_=>RX s0.2.2 λY=>ix s.1.2 Y λx16=>br (SU (x16.length:Int) 8) (λ_=>some (.dn (((1:Nat),((p.2.1.1,(true,s0.2.2)),()))))) λ_=>some (.nx ((p.2.1.1,(p.2.1.2.2,Rl .i64 s0.2.2 1))))) λ_=>some (.dn ((1,((p.2.1.1,(p.2.1.2.2,s0.2.2)),()))))) λ_=>some (.dn ((0,(s0,()))))) λ_=>some (.dn ((0,(s0,())))))
  0 rfl ⟨λi rs h=>by omega,λ_=>by simp [UK]⟩ (λk n h t I=>⟨_,(lh (c:=20) h t _ _ _ rfl),.inl ⟨rfl,rfl,λi rs hi o=>I.1 i rs (by have:=(List.getElem?_eq_some_iff.1 o).1;omega) o,λB h15=>by
   have:=I.2 B;rw [List.take_of_length_le (by omega)] at this
   exact this⟩⟩) (λk rs n o t I=>by
   simp only;have z:=(List.getElem?_eq_some_iff.1 o).1;obtain ⟨r,q1,u⟩:=eX o n false rfl;rw [rl z,R5,show SW (k:Int) 20=true from di t,R5,q1,SL,SM,S9,Sb o,Sp,TI (by omega)];rcases u with ⟨u,E,q4⟩ | ⟨u,E⟩
   ·rw [if_pos u];by_cases S:(rs.length:Int)>8
    ·rw [if_pos S];exact .inr ⟨_,rfl,.inr ⟨rfl,rfl⟩⟩
    ·rw [if_neg S,E];refine .inl ⟨_,rfl,λi rs' hi C => ?_,λB => ?_⟩
     ·by_cases h:i=k
      ·subst h;rw [o] at C;cases C;omega
      ·exact I.1 i rs' (by omega) C
     ·have w:=I.2 B
      have A : ∀ l:List (List TY),(∀ rs∈l,rs∈s.1.2) -> ∀ r∈l.flatten,r.2.length<=5000:=λl hl r U=>by
       obtain ⟨rs1,h3,h4⟩:=List.mem_flatten.1 U;obtain ⟨i,hi⟩:=List.getElem?_of_mem (hl rs1 h3);have N:r∈TG s.1.2 i:=by unfold TG;rw [hi];exact h4
       exact ((B.own i).2 r N).vl.len
      have M:UK (s.1.2.take (k+1)).flatten=UK (s.1.2.take k).flatten+UK rs:=by
       rw [List.take_add_one,o,List.flatten_append,U3];simp
      have h3:=bD (k:=20) (rs:=(s.1.2.take k).flatten) (A _ λrs h=>List.mem_of_mem_take h)
      have h4:(s.1.2.take k).flatten.length<=1000:=by
       have N : ∀ l:List (List TY),(∀ rs∈l,rs.length<=2)->l.flatten.length<=2*l.length:=by
        intro l
        induction l with
        | nil=>intro _;simp
        | cons x l ih =>
         intro h;have h6:=h x (by simp);have h7:=ih λy C=>h y (by simp [C]);simp only [List.flatten_cons,List.length_append,List.length_cons];omega
       have:=N (s.1.2.take k) λrs h=>B.two rs (List.mem_of_mem_take h);have S:(s.1.2.take k).length<=20:=by simp;omega
       omega
      have N:=ZU (A (s.1.2.take k) λrs h=>List.mem_of_mem_take h);have h6:oW n rs:=⟨by omega,by omega,λr U=>A [rs] (λx W=>by rw [List.mem_singleton.1 W];exact List.mem_of_getElem? o) r (by simpa using U)⟩;show r.2.1.1=_;rw [q4 (by omega) h6,w,M];omega
   ·rw [if_neg (by omega),E];exact .inr ⟨_,rfl,.inr ⟨rfl,rfl⟩⟩)
 refine (λh=>h) ?_;have P : ∀ {K:(Nat×((Int×(Bool×Int))×Unit))->Option Bool},(∃ b,K r=some b/\(b=false->Sm s/\(VLev s.1->UK s.1.2.flatten<=40))) -> ∀ {m:Option (Nat×((Int×(Bool×Int))×Unit))},m=some r -> ∃ b,bd m K=some b/\(b=false->Sm s/\(VLev s.1->UK s.1.2.flatten<=40)):=λh _ e=>by subst e;exact h
 refine P ?_ q1;rw [SM];rcases u with ⟨u,E,q4,q5⟩ | ⟨u,E⟩
 rotate_left
 ·rw [if_neg (by omega),E];exact ⟨_,rfl,λh=>by cases h⟩
 rw [if_pos u,E]
 obtain ⟨r2,p1,O⟩:=Y5 (l:=s.2.1) (σ:=Unit) (s:=(false,(0:Int))) 20 (by omega) (λk _=>(false,(k:Int))) (λ_ _=>True) (λ(r:Nat×((Bool×Int)×Unit))=>r.1=1\/(r.1=0/\r.2.1.1=true))
  (f:=λa=>br (SW a.2 (s.2.1.length:Int)) (λ_=>br (SW a.2 20) (λ_=>RX a.2 λZ=>ix s.2.1 Z λg=>br (SU (g.2.1.1.length:Int) 20) (λ_=>some (.dn ((0,((true,a.2),()))))) λ_=>br (SU (g.2.1.2.1.length:Int) 100) (λ_=>some (.dn ((0,((true,a.2),()))))) λ_=>br (SU (g.2.1.2.2.1.length:Int) 100) (λ_=>some (.dn ((0,((true,a.2),()))))) λ_=>br (SU (g.2.1.2.2.2.1.length:Int) 100) (λ_=>some (.dn ((0,((true,a.2),()))))) λ_=>bd (loop (λd=>br (SW d.1 (g.2.1.1.length:Int)) (λ_=>RX d.1 λD=>ix g.2.1.1 D λG=>some (.nx ((Rl .i64 d.1 1,Rl .i64 d.2 (G.length:Int))))) λ_=>some (.dn (((0:Nat),(d,()))))) (((0:Int),(g.2.2.2.1.length:Int)))) λr24=>br (SU r24.2.1.2 200) (λ_=>some (.dn ((0,((true,a.2),()))))) λ_=>some (.nx (a.1,Rl .i64 a.2 1))) λ_=>some (.dn ((1,(a,()))))) λ_=>some (.dn ((1,(a,())))))
  () rfl trivial (λk _ h t _=>⟨_,(lh (c:=20) h t _ _ _ rfl),.inl rfl⟩) (λk j _ o t _=>by
   simp only;have z:=(List.getElem?_eq_some_iff.1 o).1;rw [rl z,R5,show SW (k:Int) 20=true from di t,R5,S9,Sb o,Sp];by_cases w:(j.2.1.1.length:Int)>20
   ·rw [if_pos w];exact .inr ⟨_,rfl,.inr ⟨rfl,rfl⟩⟩
   rw [if_neg w]
   obtain ⟨r3,t1,_⟩:=WK (l:=j.2.1.1) (σ:=Int) (s:=((0:Int),(j.2.2.2.1.length:Int))) (λk n=>((k:Int),n)) (λ_ _ _=>True) (λ(_:Nat×((Int×Int)×Unit))=>True)
    (f:=λd=>br (SW d.1 (j.2.1.1.length:Int)) (λ_=>RX d.1 λD=>ix j.2.1.1 D λG=>some (.nx ((Rl .i64 d.1 1,Rl .i64 d.2 (G.length:Int))))) λ_=>some (.dn (((0:Nat),(d,())))))
    (j.2.2.2.1.length:Int) rfl (by omega) trivial (λn _=>⟨_,by rw [re];rfl,trivial⟩) (λk y m n hd C t _ => .inl ⟨Rl .i64 n (y.length:Int),by rw [rl t,R5,S9,Sb C,TI (by omega)],trivial⟩)
   rw [t1,SL,Sp,Sp,Sp,Sp,TI (by omega)]
   repeat' split
   all_goals first | exact .inr ⟨_,rfl,.inr ⟨rfl,rfl⟩⟩ | exact .inl ⟨(),rfl,trivial⟩)
 rw [p1,SL,SM];rcases O with O | ⟨O,p3⟩
 rotate_left
 ·rw [if_pos O,p3];exact ⟨_,rfl,λh=>by cases h⟩
 rw [if_neg (by omega),Sp,Sp];by_cases w:r.2.1.1>40
 ·rw [if_pos w];exact ⟨_,rfl,λh=>by cases h⟩
 rw [if_neg w];by_cases M:(s.1.2.length:Int)>15
 ·rw [if_pos M];exact ⟨_,rfl,λh=>by cases h⟩
 rw [if_neg M];refine ⟨_,rfl,λh=>⟨⟨by omega,λrs J=>⟨?_,o rs J⟩,?_⟩,λB=>by have:=q5 B (by omega);omega⟩⟩
 ·obtain ⟨i,hi⟩:=List.getElem?_of_mem J;have:=q4 i rs (by have:=(List.getElem?_eq_some_iff.1 hi).1;omega) hi;omega
 ·unfold SU at h;simp at h;omega
end
section
open Go Go.Proofs.YtfilfloanndddaaGreat.Sv
set_option maxRecDepth 1000000
theorem Yo:VJ ()=some true:=by kernel_rfl
theorem mh {s:TA} (f : ∀ rs∈s.1.2,∀ r∈rs,r.2.length<=9223372036854775807) {K:Bool->Option Bool} (c:K true=some true) (d:Sm s->(VSt s->UK s.1.2.flatten<=40)->K false=some true):bd (Wa s) K=some true:=by
 obtain ⟨b,e,a⟩:=fw s f;rw [e,SL];cases b with
 | true=>exact c
 | false=>exact d (a rfl).1 λv=>(a rfl).2 v.lev
theorem nC {s:TA} (h:VSt s->UK s.1.2.flatten<=40):VSt s->UK s.1.2.flatten<=2000:=λv=>by have:=h v;omega
end
section
open Go Go.Proofs.YtfilfloanndddaaGreat.Sv
theorem md {a:Int} (h : -9223372036854775808<=a/\a<=9223372036854775807):Su .i64 a=a:=by
 have:=R9 (a:=a) (b:=0) (by omega);unfold Rl at this;rw [Int.add_zero] at this;exact this
end
section
open Go Go.Proofs.YtfilfloanndddaaGreat.Sv
theorem cb {s:TA} {n:Nat} (l:List (Int×Bool)) (g:Int) (h:l.length<=1000000):(Z7 g (Xb zU l)).1=(l.length:Int):=by
 have:=(bz l zU (by decide) (by show (0:Int)+_<=_;omega)).1;show (Xb zU l).1=_;rw [this];show (0:Int)+_=_;omega
end
section
open Go Go.Proofs.YtfilfloanndddaaGreat.Sv
set_option maxRecDepth 100000
def UX:List Int->TA->TA×(List W9×Int)
 | [],s=>(s,([],0))
 | g::l,s=>if (UA g.toNat s).2.2≠0 then (zS,([],(UA g.toNat s).2.2)) else if (UX l (UA g.toNat s).1).2.2≠0 then (zS,([],(UX l (UA g.toNat s).1).2.2)) else ((UX l (UA g.toNat s).1).1,(Z7 g (Xb zU (UA g.toNat s).2.1)::(UX l (UA g.toNat s).1).2.1,0))
def au (s:TA) (l:List Int):TA×(List W9×Int):=if (TE s).2≠0 then (zS,([],(TE s).2)) else UX l s
def Xq (a:List W9) (r:TA×(List W9×Int)):TA×(List W9×Int):=if r.2.2≠0 then (zS,([],r.2.2)) else (r.1,(a++r.2.1,0))
theorem d6 {a:List W9} {g:Int} {l:List Int} {s:TA} (h:(UA g.toNat s).2.2≠0):Xq a (UX (g::l) s)=(zS,([],(UA g.toNat s).2.2)):=by
 unfold UX Xq;rw [if_pos h,if_pos h]
theorem fi {b:List W9} {g:Int} {l:List Int} {s:TA} (h:(UA g.toNat s).2.2=0):Xq b (UX (g::l) s)=Xq (b++[Z7 g (Xb zU (UA g.toNat s).2.1)]) (UX l (UA g.toNat s).1):=by
 have e:UX (g::l) s=if (UA g.toNat s).2.2≠0 then (zS,([],(UA g.toNat s).2.2)) else if (UX l (UA g.toNat s).1).2.2≠0 then (zS,([],(UX l (UA g.toNat s).1).2.2)) else ((UX l (UA g.toNat s).1).1,(Z7 g (Xb zU (UA g.toNat s).2.1)::(UX l (UA g.toNat s).1).2.1,0)):=rfl
 rw [e,if_neg (by simp [h])];unfold Xq;by_cases a:(UX l (UA g.toNat s).1).2.2=0
 ·simp [a]
 ·simp [a]
def nE (s:TA) (e:Int):Int×(List (List TY)×(List Job×(Int×Int))):=(s.1.1,(s.1.2,(s.2.1,(s.2.2,e))))
abbrev oZ:=List W9×(Int×(Int×((Int×(List (List TY)×(List Job×(Int×Int))))×(Int×(List (List TY)×(List Job×Int))))))
def mT (a:List W9) (k:Nat) (t:TA):oZ:=(a,(0,((k:Int),(nE t 0,(0,([],([],0)))))))
theorem cJ {s:TA} (m:Sm s) (hc:VSt s->UK s.1.2.flatten<=2000) {l:List Int} (hl:l.length<=200) (z : ∀ g∈l,0<=g/\g<=1000000):VA (s,l)=some (au s l):=by
 unfold VA au;rw [oX m,SL,Ss];by_cases d:(TE s).2=0;rotate_left
 ·rw [if_neg d,if_pos d,Ss,if_neg d];rfl
 rw [if_pos d,if_neg (show ¬ (TE s).2≠0 by simp [d]),Sp,if_neg (by simp only [Kb,AS];omega)];have v:=TS.1 d;have G:Gd s s:=⟨v,rfl,hc v⟩;refine TZ (x:=(1,(((l.length:Int),((0:Int),())),()))) (Wd (λq=>((q:Int),((0:Int),()))) 0 l.length rfl (Nat.zero_le _) (by omega) (λq _ W => ?_) ?_) ?_
 ·obtain ⟨g,f⟩ : ∃ g,l[q]? = some g:=⟨l[q],by simp [W]⟩;have j:=z g (List.mem_of_getElem? f);show br (SW (q:Int) (Kb (AS l))) (λ_=>RX (q:Int) λY=>ix l Y λP=>br (SW P 0) _ λ_=>br (SU P 1000000) _ _) _=_;rw [Sr,if_pos (by simp only [Kb,AS];omega),S9,Sb f,Sr,if_neg (by omega),Sp,if_neg (by omega)];show some (LR.nx (Rl .i64 (q:Int) 1,_))=_;rw [TI (by omega)]
 ·show br (SW (l.length:Int) (Kb (AS l))) _ _=_;rw [Sr,if_neg (by simp [Kb,AS])]
 rw [Yq,if_neg (by simp)];obtain ⟨T,M⟩ : ∃ T,T=UX l s:=⟨_,rfl⟩;rw [<- M];refine dX (λA => ∃ a k t,A=mT a k t/\Gd s t/\k<=l.length/\a.length=k/\T=Xq a (UX (l.drop k) t)) (λr=>(r.1=0 /\ ∃ a k t,r.2.1=mT a k t/\T=(t,(a,0)))\/(r.1=1 /\ ∃ k t e w,r.2.1=([],(e,((k:Int),(nE t w,(0,([],([],0)))))))/\T=(zS,([],e)))) (λA=>l.length-A.2.2.1.toNat) ⟨[],0,s,rfl,G,Nat.zero_le _,rfl,?_⟩ (by show l.length-0<_;omega) ?_ ?_
 ·rw [M,List.drop_zero];unfold Xq;by_cases b:(UX l s).2.2=0
  ·rw [if_neg (by simp [b])];have:(UX l s).2.2=0:=b;rw [List.nil_append,<- this]
  ·rw [if_pos b];cases l with
   | nil=>exact absurd rfl b
   | cons g l =>
    unfold UX at b ⊢;split
    ·rfl
    ·rename_i C;rw [if_neg C] at b;split
     ·rfl
     ·rename_i h;rw [if_neg h] at b;exact absurd rfl b
 ·rintro A ⟨a,k,t,rfl,B,Z,X,i⟩;by_cases I:k=l.length
  ·subst I;rw [List.drop_length] at i;have D:T=(t,(a,0)):=by rw [i];simp [Xq,UX]
   refine .inr ⟨(0,(mT a l.length t,())),?_,.inl ⟨rfl,a,_,t,rfl,D⟩⟩;show br (SW (l.length:Int) (Kb (AS l))) _ _=_;rw [Sr,if_neg (by simp [Kb,AS])]
  ·have c:k<l.length:=by omega
   obtain ⟨g,f⟩ : ∃ g,l[k]? = some g:=⟨l[k],by simp [c]⟩;have j:=z g (List.mem_of_getElem? f)
   have U:l.drop k=g::l.drop (k+1):=by
    have C:=(List.getElem?_eq_some_iff.1 f).2;rw [List.drop_eq_getElem_cons c,C]
   rw [U] at i;have o : ∀ {γ:Type} (u:W9) (x:Unit->Option γ),gd (CD (BD (AS a) (AS [u])) 1048576) x=x ():=λu x=>Te (by simp only [BD,AS,List.length_cons,List.length_nil];omega) x;have F:=(Zy (N:=2000) (n:=g.toNat) B B.2.2).2.2.1
   have S : ∀ {R:Option (LR oZ (Nat×(oZ×Unit)))},(if (UA g.toNat t).2.2=0 then some (LR.nx (mT (a++[Z7 g (Xb zU (UA g.toNat t).2.1)]) (k+1) (UA g.toNat t).1)) else some (LR.dn (1,(([],((UA g.toNat t).2.2,((k:Int),(nE (UA g.toNat t).1 (UA g.toNat t).2.2,(0,([],([],0))))))),()))))=R ->
     (∃ s',R=some (.nx s')/\(∃ a k t,s'=mT a k t/\Gd s t/\k<=l.length/\a.length=k/\T=Xq a (UX (l.drop k) t))/\l.length-s'.2.2.1.toNat<l.length-(mT a k t).2.2.1.toNat)\/(∃ x,R=some (.dn x)/\((x.1=0 /\ ∃ a k t,x.2.1=mT a k t/\T=(t,(a,0)))\/(x.1=1 /\ ∃ k t e w,x.2.1=([],(e,((k:Int),(nE t w,(0,([],([],0)))))))/\T=(zS,([],e))))):=fun {R} y=>by
    by_cases b:(UA g.toNat t).2.2=0
    ·rw [if_pos b] at y;refine .inl ⟨_,y.symm,⟨_,_,_,rfl,F,c,by simp [X],by rw [i,fi b]⟩,?_⟩;show l.length-((k+1:Nat):Int).toNat<l.length-(k:Int).toNat;omega
    ·rw [if_neg b] at y;exact .inr ⟨_,y.symm,.inr ⟨rfl,_,_,_,_,rfl,by rw [i,d6 b]⟩⟩
   refine S ?_;symm;show br (SW (k:Int) (Kb (AS l))) (λ_=>RX (k:Int) λJ=>ix l J λp=>br (SU p 0) (λ_=>bd (loop (rn p) (dl t 0 zU)) _) _) _=_;rw [Sr,if_pos (by simp only [Kb,AS];omega),S9,Sb f,Sp];by_cases h:g>0
   ·rw [if_pos h];refine bq B h j.2 λr z => ?_
    have key:(gd (CD (BD (AS a) (AS [((r.2.1.2.1,(Rp .i64 g r.2.1.2.1,r.2.1.2.2.2)):W9)])) 1048576) λ_=>br (RT r.2.1.1.2.2.2.2 0) (λ_=>some (LR.dn (1,((([]:List W9),(r.2.1.1.2.2.2.2,((k:Int),(r.2.1.1,((0:Int),(([]:List (List TY)),(([]:List Job),(0:Int)))))))),())))) λ_=>some (LR.nx (Ik a [((r.2.1.2.1,(Rp .i64 g r.2.1.2.1,r.2.1.2.2.2)):W9)],((0:Int),(Rl .i64 (k:Int) 1,(r.2.1.1,((0:Int),(([]:List (List TY)),(([]:List Job),(0:Int))))))))))=(if (UA g.toNat t).2.2=0 then some (LR.nx (mT (a++[Z7 g (Xb zU (UA g.toNat t).2.1)]) (k+1) (UA g.toNat t).1)) else some (LR.dn (1,(([],((UA g.toNat t).2.2,((k:Int),(nE (UA g.toNat t).1 (UA g.toNat t).2.2,(0,([],([],0))))))),())))):=by
     rw [o,z,Ss,TI (by omega)];show (if (UA g.toNat t).2.2=0 then _ else _)=_
     by_cases b:(UA g.toNat t).2.2=0
     ·rw [if_pos b,if_pos b,b];rfl
     ·rw [if_neg b,if_neg b];rfl
    rw [Yq];split
    ·exact key
    ·exact key
   ·have E:g=0:=by omega
    subst E;rw [if_neg h,if_pos (show (UA (0:Int).toNat t).2.2=0 from rfl)];show gd (CD (BD (AS a) (AS [(Z7 0 zU:W9)])) 1048576) _=_;rw [o];show br (RT 0 0) _ (λ_=>some (LR.nx (a++[Z7 0 zU],((0:Int),(Rl .i64 (k:Int) 1,(nE t 0,((0:Int),(([]:List (List TY)),(([]:List Job),(0:Int))))))))))=_;rw [Ss,if_pos rfl,TI (by omega)];rfl
 ·rintro r (⟨O,a,k,t,K,L⟩ | ⟨O,k,t,e,w,K,L⟩)
  ·rw [Yq,if_pos O,K,L];rfl
  ·rw [Yq,if_neg (by omega),K,L];rfl
end
section
open Go Go.Proofs.YtfilfloanndddaaGreat.Sv
theorem lm {a b:Int} (c:0<=a) (d:0<b):0<=SY .i64 a b/\SY .i64 a b<b:=by
 unfold SY;exact ⟨Int.tmod_nonneg _ c,Int.tmod_lt_of_pos _ d⟩
end
section
open Go Go.Proofs.YtfilfloanndddaaGreat.Sv
set_option maxRecDepth 100000
end
section
open Go Go.Proofs.YtfilfloanndddaaGreat.Sv
set_option maxRecDepth 100000
end
section
open Go Go.Proofs.YtfilfloanndddaaGreat.Sv
@[reducible] def tE:Ty:=.pair .str (.pair .str (.pair .bool (.int .i64)))
@[reducible] def rp:Ty:=.pair (.pair (.int .i64) (.sl true (.sl true (.pair (.int .i64) (.sl true tE))))) (.pair (.sl true (.pair (.int .i64) (.pair (.pair (.sl false (.sl true tE)) (.pair (.sl false (.int .i64)) (.pair (.sl true (.pair .str .bool)) (.pair (.sl false (.int .i64)) (.int .i64))))) (.pair (.pair .bool (.pair .str .bool)) (.pair (.sl true tE) (.int .i64)))))) (.int .i64))
theorem oL {s:TA} (h:Qk rp s) : ∀ rs∈s.1.2,∀ r∈rs,r.2.length<=9223372036854775807:=by
 obtain ⟨⟨_,d,c⟩,_⟩:=h;exact λrs b r a=>((c rs b).2 r a).2.1
theorem oU {b:Int} (h:Qk (.int .u8) b):0<=b/\b<=255:=by
 have a:(decide (IntKind.min .u8<=b)&&decide (b<=IntKind.max .u8))=true:=h;rw [Bool.and_eq_true,decide_eq_true_eq,decide_eq_true_eq] at a;exact a
end
section
open Go Go.Proofs.YtfilfloanndddaaGreat.Sv
set_option maxRecDepth 100000
theorem eY:Wl=Tf:=rfl
theorem eZ (l:List S8) (h:l.length<=1000000):Wl (l,l)=some true:=by
 rw [eY,V6 l l (by omega)];simp
theorem aK {s0:TA} : ∀ {l:List Int} {s:TA},Gd s0 s->(∀ g∈l,0<=g/\g<=1000000)->(UX l s).2.2=0->Gd s0 (UX l s).1/\(UX l s).2.1.length=l.length /\ ∀ (i:Nat) u g,(UX l s).2.1[i]? = some u->l[i]? = some g->Rl .i64 u.1 u.2.1=g
 | [],s,G,_,_=>⟨G,rfl,λi u g h=>by simp [UX] at h⟩
 | g::l,s,G,hr,h=>by
  have e:UX (g::l) s=if (UA g.toNat s).2.2≠0 then (zS,([],(UA g.toNat s).2.2)) else if (UX l (UA g.toNat s).1).2.2≠0 then (zS,([],(UX l (UA g.toNat s).1).2.2)) else ((UX l (UA g.toNat s).1).1,(Z7 g (Xb zU (UA g.toNat s).2.1)::(UX l (UA g.toNat s).1).2.1,0)):=rfl
  by_cases d:(UA g.toNat s).2.2=0;rotate_left
  ·rw [e,if_pos d] at h;exact absurd h d
  rw [if_neg (by simp [d])] at e;by_cases a:(UX l (UA g.toNat s).1).2.2=0;rotate_left
  ·rw [e,if_pos a] at h;exact absurd h a
  rw [if_neg (by simp [a])] at e;obtain ⟨w,_,q,_,_⟩:=Zy (N:=2000) (n:=g.toNat) G G.2.2;have t:=hr g (by simp);obtain ⟨m,o,p⟩:=aK q (λx k=>hr x (by simp [k])) a;rw [e];refine ⟨m,by simp [o],λi u j b c => ?_⟩;cases i with
  | zero =>
   simp only [List.getElem?_cons_zero,Option.some.injEq] at b c;subst b;subst c;have f:=cb (s:=s) (n:=g.toNat) (UA g.toNat s).2.1 g (by omega)
   have r:(Z7 g (Xb zU (UA g.toNat s).2.1)).2.1=g-((UA g.toNat s).2.1.length:Int):=by
    show Rp .i64 g (Xb zU (UA g.toNat s).2.1).1=_;rw [show (Xb zU (UA g.toNat s).2.1).1=_ from f];exact SB (by omega)
   rw [f,r,R9 (by omega)];omega
  | succ i =>
   simp only [List.getElem?_cons_succ] at b c;exact p i u j b c
theorem gC {L:TB} (v:VLev L) (h:UK L.2.flatten<=2000):(K7 L).length<=1000000:=by
 have f:=List.length_filter_le Uw (ZS (Tp L.2) []);have b:=Ze (Tp L.2) []
 have g:UK (Tp L.2)<=120000:=by
  have:=ZU (l:=Tp L.2) (λr a=>by
   unfold Tp at a;obtain ⟨rs,c,d⟩:=List.mem_flatMap.1 a;obtain ⟨i,hi⟩:=List.getElem?_of_mem c;have e:r∈TG L.2 i:=by unfold TG;rw [hi];exact List.mem_reverse.1 d
   exact ((v.own i).2 r e).vl.len)
  have j:=XV L.2 v.two;have:=v.len;omega
 unfold K7;simp only [List.length_nil] at b;omega
theorem eP {l:List Int} (f:l.length<=1000000):loop (λ(a:(List Int×Int))=>br (SW a.2 (Kb (AS l))) (λ_=>RX a.2 λe=>ix l e λc=>gd (CD (BD (AS a.1) (AS ([SY .i64 (Su .i64 c) 40]))) 1048576) λ_=>some (.nx ((Ik a.1 ([SY .i64 (Su .i64 c) 40]),Rl .i64 a.2 1)))) λ_=>some (.dn (((0:Nat),(a,()))))) (([]:List Int),(0:Int))=some (0,((l.map (λx=>SY .i64 (Su .i64 x) 40),(l.length:Int)),())):=by
 refine Wd (λq=>((l.take q).map (λx=>SY .i64 (Su .i64 x) 40),(q:Int))) 0 l.length rfl (Nat.zero_le _) (by omega) (λq _ d => ?_) ?_
 ·obtain ⟨g,b⟩ : ∃ g,l[q]? = some g:=⟨l[q],by simp [d]⟩;show br (SW (q:Int) (Kb (AS l))) _ _=_;rw [Sr,if_pos (by simp only [Kb,AS];omega)];show RX (q:Int) _=_;rw [S9,Sb b];show gd (CD (BD (AS ((l.take q).map _)) (AS [_])) 1048576) _=_;rw [Te (by simp only [BD,AS,List.length_map,List.length_take,List.length_cons,List.length_nil];omega)];show some (LR.nx ((l.take q).map _++[_],Rl .i64 (q:Int) 1))=_;rw [TI (by omega),List.take_add_one,b,List.map_append];rfl
 ·show br (SW (l.length:Int) (Kb (AS l))) _ _=_;rw [Sr,if_neg (by simp [Kb,AS])];show some (LR.dn (0,(((l.take l.length).map _,_),())))=_;rw [List.take_length]
theorem grantsKeeps {x:TA×List Int} (P : ∀ rs∈x.1.1.2,∀ r∈rs,r.2.length<=9223372036854775807) (n : ∀ b∈x.2,0<=b/\b<=255):Uu x=some true:=by
 obtain ⟨s,l⟩:=x;unfold Uu;refine mh P ?_ λm hc => ?_
 ·rw [R5,Yo];rfl
 have hc:=nC hc;show br false _ (λ_=>br (SU (Kb (AS l)) 12) _ λ_=>bd (loop _ (([]:List Int),(0:Int))) _)=_;rw [Rd,Sp];by_cases p:(Kb (AS l))>12
 ·rw [if_pos p,Yo];rfl
 have M:l.length<=12:=by simp only [Kb,AS] at p;omega
 rw [if_neg p,eP (l:=l) (show l.length<=1000000 by omega),SL];obtain ⟨c,e⟩ : ∃ c,c=l.map (λx=>SY .i64 (Su .i64 x) 40):=⟨_,rfl⟩;rw [<- e];have L:c.length=l.length:=by rw [e];simp
 have i : ∀ g∈c,0<=g/\g<=1000000:=λg f=>by
  rw [e] at f;obtain ⟨y,S,rfl⟩:=List.mem_map.1 f;have z:=n y S;rw [md (by omega)];have:=lm (a:=y) (b:=40) z.1 (by decide);omega
 show bd (VA (s,c)) _=_;rw [cJ m hc (by omega) i,SL,Ss];unfold au;by_cases j:(TE s).2=0;rotate_left
 ·rw [if_pos j,if_neg j];show br (RR 0 0) _ _=_;rw [Sn,if_pos rfl,Yo];rfl
 rw [if_neg (show ¬ (TE s).2≠0 by simp [j])];have v:=TS.1 j;have G:Gd s s:=⟨v,rfl,hc v⟩;by_cases k:(UX c s).2.2=0;rotate_left
 ·have N : ∀ (l:List Int) (s:TA),(UX l s).2.2≠0->(UX l s).2.1=[]:=λl s h=>by
   cases l with
   | nil=>rfl
   | cons g l =>
    unfold UX at h ⊢;split
    ·rfl
    ·rename_i J;rw [if_neg J] at h;split
     ·rfl
     ·rename_i K;rw [if_neg K] at h;exact absurd rfl h
  rw [if_neg k,N _ _ k];show br (RR 0 0) _ _=_;rw [Sn,if_pos rfl,Yo];rfl
 obtain ⟨o,U,I⟩:=aK G i k;rw [if_pos k,Ss,if_pos (by simp only [Kb,AS];omega)];have e1:VH s.1=some (K7 s.1):=fj v.lev;have e2:VH (UX c s).1.1=some (K7 s.1):=by rw [fj o.1.lev,o.2.1]
 have e3:=eZ (K7 s.1) (gC v.lev (hc v));show bd (VH s.1) _=_;rw [e1,SL,e2,SL,e3,SL,To,R5];obtain ⟨d,w⟩ : ∃ d,d=(UX c s).2.1:=⟨_,rfl⟩;rw [<- w] at U I ⊢;refine TZ (x:=(1,((false,((d.length:Int),c)),()))) (Wd (λq=>(false,((q:Int),c))) 0 d.length rfl (Nat.zero_le _) (by omega) (λq _ O => ?_) ?_) ?_
 ·obtain ⟨u,t⟩ : ∃ u,d[q]? = some u:=⟨d[q],by simp [O]⟩;obtain ⟨g,n⟩ : ∃ g,c[q]? = some g:=⟨c[q]'(by omega),by simp⟩;show br (SW (q:Int) (Kb (AS d))) _ _=_;rw [Sr,if_pos (by simp only [Kb,AS];omega)];show RX (q:Int) (λA=>ix d A λD=>RX (q:Int) λB=>ix d B λE=>RX (q:Int) λC=>ix c C λF=>br (RT (Rl .i64 D.1 E.2.1) F) _ _)=_;rw [S9,Sb t,S9,Sb t,S9,Sb n,Ss,if_pos (I q u g t n)];show some (LR.nx (false,(Rl .i64 (q:Int) 1,c)))=_;rw [TI (by omega)]
 ·show br (SW (d.length:Int) (Kb (AS d))) _ _=_;rw [Sr,if_neg (by simp [Kb,AS])]
 rw [Yq,if_neg (by simp),ml o.1.sm,SL,ai o.1,Sn,if_pos rfl,Yo];rfl
theorem gA {x:TA×List Int} (h:Ql [(true,rp),(false,.sl false (.int .u8))] x):Uu x=some true:=grantsKeeps (oL h.1) λb a=>oU (h.2.2 b a)
end
end Go.Proofs.YtfilfloanndddaaGreat.Pl
