/- Functions of the program and of the specification as plain functions, and laws about them. No condition. -/
import Derived.Test.YtfilfloanndddaaGreatPl2
import Derived.KernelRfl
set_option linter.all false
namespace Go.Proofs.YtfilfloanndddaaGreat.Pl
open Go Go.Proofs.YtfilfloanndddaaGreat.Sv
theorem TY {α β γ:Type} {f:α->Option (LR α β)} {K:β->Option γ} {R:Option γ} (Inv:α->Prop) (Q:β->Prop) (m:α->Nat) {s:α} (hs:Inv s) (a:m s<18446744073709551616)
  (step : ∀ s,Inv s->(∃ s',f s=some (.nx s')/\Inv s'/\m s'<m s)\/(∃ x,f s=some (.dn x)/\Q x)) (b : ∀ x,Q x->K x=R):bd (loop f s) K=R:=by
 obtain ⟨x,e,q⟩:=dW Inv Q m hs a step;rw [e];exact b x q
theorem PN {β:Type} (n:Nat) (x y:Unit->Option β):br (neq n 0) x y=if n=0 then x () else y ():=by
 rw [Cc]
def zU:Je:=(0,(0,(0,(0,(0,(0,(0,(0,(0,(0,(0,(0,(0,(0,0))))))))))))))
def mv (g:Int) (u:Je):Je:=(u.1,(CA .i64 g u.1,u.2.2))
def GK (s:AG) (g:Int):Int:=if (AO s).2≠0 then (AO s).2 else if g<0\/g>1000000 then 7 else 0
def Ma (s:AG) (g:Int):AG×(Je×Int):=if GK s g≠0 then (zS,(zU,GK s g)) else if (CM g.toNat s).2.2≠0 then (zS,(zU,(CM g.toNat s).2.2)) else ((CM g.toNat s).1,(mv g (Q7 zU (CM g.toNat s).2.1),0))
def OX (s:AG) (g:Int):List Int×Int:=if GK s g≠0 then ([],GK s g) else if (CM g.toNat s).2.2≠0 then ([],(CM g.toNat s).2.2) else ((CM g.toNat s).2.1.map (·.1),0)
def eP (s:AG) (e:Int) (u:Je):(Int×(List (List BI)×(List Job×(Int×Int))))×Je:=((s.1.1,(s.1.2,(s.2.1,(s.2.2,e)))),u)
def eQ (s:AG) (e:Int) (l:List Int) (u:Je):(Int×(List (List BI)×(List Job×(Int×Int))))×(List Int×Je):=((s.1.1,(s.1.2,(s.2.1,(s.2.2,e)))),(l,u))
theorem eR {s0 s:AG} (g:Gd s0 s):E2 s=4/\(BO s).2=4\/E2 s≠4/\E2 s≠0/\(BO s).2≠4/\((BO s).2=E2 s\/(BO s).2=0/\(CY s (BO s).1).2.2=E2 s)\/E2 s=0/\(BO s).2=0/\(CY s (BO s).1).2.2=0:=by
 by_cases a:E2 s=4
 ·exact .inl ⟨a,(Vb g a).1⟩
 ·by_cases b:E2 s=0
  ·have:=Va g b;exact .inr (.inr ⟨b,this.1,this.2.2⟩)
  ·refine .inr (.inl ⟨a,b,?_⟩);unfold E2 at a b ⊢;by_cases c:(BO s).2≠0
   ·rw [if_pos c] at a ⊢;exact ⟨a,.inl rfl⟩
   ·have d:(BO s).2=0:=by simpa using c
    rw [if_neg c];rw [d];exact ⟨by decide,.inr ⟨rfl,rfl⟩⟩
theorem lM {u:Je} {x:Int×Bool} (h:0<=u.1/\u.1<=1000000):(K3 u x).1=u.1+1:=by
 show AI .i64 u.1 1=_;exact DV (by omega)
def At (s0:AG) (g:Int) (T:AG×((List Int×Je)×Int)) (k:Nat) (s:AG) (l:List Int) (u:Je):Prop:=Gd s0 s/\0<=u.1/\u.1+k=g/\g<=1000000/\(l.length:Int)=u.1/\T=((CM k s).1,((l++(CM k s).2.1.map (·.1),Q7 u (CM k s).2.1),(CM k s).2.2))
theorem At.step {s0 s:AG} {g:Int} {T:AG×((List Int×Je)×Int)} {k:Nat} {l:List Int} {u:Je} (a:At s0 g T (k+1) s l u) (e:E2 s=0):At s0 g T k (H4 s) (l++[(GT s).1]) (K3 u (GT s)):=by
 obtain ⟨d,i,m,c,h,b⟩:=a;obtain ⟨_,_,_,_,_,_,_,f⟩:=IB d e;have j:=lM (x:=GT s) (show 0<=u.1/\u.1<=1000000 by omega);refine ⟨f,by omega,by omega,c,by simp;omega,?_⟩;rw [b];simp only [CM,e,ne_eq,not_true_eq_false,if_false,List.map_cons,List.append_assoc,List.cons_append,List.nil_append];rfl
theorem At.none {s0 s:AG} {g:Int} {T:AG×((List Int×Je)×Int)} {k:Nat} {l:List Int} {u:Je} (a:At s0 g T k s l u) (e:E2 s=4):T=(s,((l,u),0)):=by
 rw [a.2.2.2.2.2];cases k<;>simp [CM,e,Q7]
theorem At.fail {s0 s:AG} {g:Int} {T:AG×((List Int×Je)×Int)} {k:Nat} {l:List Int} {u:Je} (a:At s0 g T (k+1) s l u) (b:E2 s≠4) (c:E2 s≠0):T=(s,((l,u),E2 s)):=by
 rw [a.2.2.2.2.2];simp [CM,b,c,Q7]
theorem At.last {s0 s:AG} {g:Int} {T:AG×((List Int×Je)×Int)} {l:List Int} {u:Je} (a:At s0 g T 0 s l u):T=(s,((l,u),0)):=by
 rw [a.2.2.2.2.2];simp [CM,Q7]
theorem TZ {s0 s:AG} (g:Gd s0 s) (e:E2 s=0) : ∃ n:Nat,(BO s).1=(n:Int)/\n<12/\(BO s).1.toNat=n:=by
 obtain ⟨n,_,a,b,_⟩:=IB g e;exact ⟨n,a,b,by rw [show (BO s).1=(n:Int) from a];simp⟩
theorem R7 {β:Type} {a b:Nat} (h:a<b) (k:Unit->Option β):gd (C7 a b) k=k ():=by
 have:C7 a b=true:=by unfold C7;simpa using h
 rw [this];rfl
theorem eU {u:Je} {s:AG} {n:Nat} (h:(BO s).1.toNat=n) (a:(CY s (BO s).1).2.1=true):K3 u (GT s)=(AI .i64 u.1 1,(u.2.1,(AI .i64 u.2.2.1 1,Q6 u.2.2.2 n n))):=by
 unfold K3 GT;rw [a,if_pos rfl,h]
theorem eV {u:Je} {s:AG} {n:Nat} (h:(BO s).1.toNat=n) (a:(CY s (BO s).1).2.1=false):K3 u (GT s)=(AI .i64 u.1 1,(u.2.1,(u.2.2.1,Q6 u.2.2.2 n n))):=by
 unfold K3 GT;rw [a,if_neg (by simp),h]
theorem Qh {γ:Type} {t:AG} {u:Je} {g:Int} {n:Nat} (c:0<=u.1/\u.1<=1000000) (e3:(CY t (BO t).1).2.2=0) (n3:(BO t).1.toNat=n) (D N:Int->Je->Option γ) :
  (br (CY t (BO t).1).2.1 (λ_=>br (A8 (AI .i64 u.1 1) g) (λ_=>D (CY t (BO t).1).2.2 (AI .i64 u.1 1,(u.2.1,(AI .i64 u.2.2.1 1,Q6 u.2.2.2 n n)))) λ_=>N (CY t (BO t).1).2.2 (AI .i64 u.1 1,(u.2.1,(AI .i64 u.2.2.1 1,Q6 u.2.2.2 n n)))) λ_=>br (A8 (AI .i64 u.1 1) g) (λ_=>D (CY t (BO t).1).2.2 (AI .i64 u.1 1,(u.2.1,(u.2.2.1,Q6 u.2.2.2 n n)))) λ_=>N (CY t (BO t).1).2.2 (AI .i64 u.1 1,(u.2.1,(u.2.2.1,Q6 u.2.2.2 n n))))=if u.1+1=g then D 0 (K3 u (GT t)) else N 0 (K3 u (GT t)):=by
 have hi:AI .i64 u.1 1=u.1+1:=DV (by omega);rw [Es,A2,A2,hi,e3];by_cases a:(CY t (BO t).1).2.1=true
 ·rw [if_pos a,eU n3 a,hi]
 ·have b:(CY t (BO t).1).2.1=false:=by simpa using a
  rw [if_neg a,eV n3 b,hi]
theorem Jb {s:AG} {g:Int} (h:(AO s).2≠0):GK s g=(AO s).2:=if_pos h
theorem HA {s:AG} {g:Int} (a:(AO s).2=0) (h:g<0\/g>1000000):GK s g=7:=by unfold GK;rw [if_neg (by simp [a]),if_pos h]
theorem Qi {s:AG} {g:Int} (a:(AO s).2=0) (h : ¬ (g<0\/g>1000000)):GK s g=0:=by unfold GK;rw [if_neg (by simp [a]),if_neg h]
theorem aH {s:AG} (m:Sm s) (hc:VSt s->CL s.1.2.flatten<=2000) (g:Int):EE (s,g)=some (Ma s g):=by
 unfold EE Ma;rw [ny m,AB,AP];by_cases c:(AO s).2=0;rotate_left
 ·rw [if_neg c,Jb c,if_pos c,AP,if_neg c];rfl
 rw [if_pos c,A1,Am];by_cases i:g<0
 ·rw [if_pos i,HA c (.inl i),if_pos (by decide)];rfl
 by_cases q:g>1000000
 ·rw [if_neg i,if_pos q,HA c (.inr q),if_pos (by decide)];rfl
 rw [if_neg i,if_neg q,Qi c (by omega),if_neg (by decide),Am];have v:=Aj.1 c;have G:Gd s s:=⟨v,rfl,hc v⟩;by_cases C:g>0;rotate_left
 ·have:g=0:=by omega
  subst this;rw [if_neg C];rfl
 rw [if_pos C];obtain ⟨b,y⟩ : ∃ b:Nat,b=g.toNat:=⟨_,rfl⟩;rw [<- y];obtain ⟨T,B⟩ : ∃ T,T=((CM b s).1,(((CM b s).2.1.map (·.1),Q7 zU (CM b s).2.1),(CM b s).2.2)):=⟨_,rfl⟩;refine TY (λj => ∃ k t l u,j=eP t 0 u/\At s g T (k+1) t l u) (λr=>r.2.1=eP T.1 T.2.2 T.2.1.2) (λj=>(g-j.2.1).toNat) ⟨b-1,s,[],zU,rfl,G,by decide,?_,by omega,rfl,?_⟩ ?_ ?_ ?_
 ·show (0:Int)+_=g;omega
 ·rw [B,show b-1+1=b by omega];rfl
 ·show (g-0).toNat<_;omega
 ·rintro j ⟨k,t,l,u,rfl,a⟩;obtain ⟨d,I,L,P,O,N⟩:=id a;rcases eR d with ⟨e1,e2⟩ | ⟨e1,e2,e3,f⟩ | ⟨e1,e2,e3⟩
  ·refine .inr ⟨(0,(eP t 0 u,())),?_,by rw [a.none e1]⟩;show bd (BW t) _=_;rw [(HS d).1,AB,A2,if_pos e2]
  ·have K:=a.fail e1 e2;refine .inr ⟨(0,(eP t (E2 t) u,())),?_,by rw [K]⟩;show bd (BW t) _=_;rw [(HS d).1,AB,A2,if_neg e3,A2];rcases f with f | ⟨f,E⟩
   ·rw [if_neg (by rw [f];exact e2),AP,if_neg (by rw [f];exact e2),f];rfl
   ·rw [if_pos f];show bd (BV (t,(BO t).1)) _=_;rw [(K2 d _).1,AB,AP,if_neg (by rw [E];exact e2),E];rfl
  ·obtain ⟨n,n1,n2,n3⟩:=TZ d e1;have M:=lM (x:=GT t) (show 0<=u.1/\u.1<=1000000 by omega);have A:=a.step e1
   have p : ∀ {R},(if u.1+1=g then some (LR.dn (1,(eP (H4 t) 0 (K3 u (GT t)),()))) else some (LR.nx (eP (H4 t) 0 (K3 u (GT t)))))=R->(∃ s',R=some (.nx s')/\(∃ k t l u,s'=eP t 0 u/\At s g T (k+1) t l u)/\(g-s'.2.1).toNat<(g-(eP t 0 u).2.1).toNat)\/(∃ x,R=some (.dn x)/\x.2.1=eP T.1 T.2.2 T.2.1.2):=fun {R} o=>by
    by_cases D:u.1+1=g
    ·rw [if_pos D] at o;have J:k=0:=by omega
     subst J;exact .inr ⟨_,o.symm,by rw [A.last]⟩
    ·rw [if_neg D] at o;obtain ⟨w,z⟩ : ∃ w,k=w+1:=⟨k-1,by omega⟩;refine .inl ⟨_,o.symm,⟨w,_,_,_,rfl,by rw [<- z];exact A⟩,?_⟩;show (g-(K3 u (GT t)).1).toNat<(g-u.1).toNat;omega
   refine p ?_;symm;show bd (BW t) _=_;rw [(HS d).1,AB,A2,if_neg (by rw [e2];decide),A2,if_pos e2];show bd (BV (t,(BO t).1)) _=_;rw [(K2 d _).1,AB,AP,if_pos e3];show bd (some ()) _=_;rw [AB,n1,AE,R7 n2,AE,R7 n2,<- n1];exact Qh (u:=u) ⟨I,by omega⟩ e3 n3 (λe u=>some (LR.dn (1,(eP (H4 t) e u,())))) (λe u=>some (LR.nx (eP (H4 t) e u)))
 ·intro r F
  have key:(br (Ay r.2.1.1.2.2.2.2 0) (λ_=>some (((((0:Int),([]:List (List BI))),(([]:List Job),(0:Int))),(zU,r.2.1.1.2.2.2.2)))) λ_=>some ((((r.2.1.1.1,r.2.1.1.2.1),(r.2.1.1.2.2.1,r.2.1.1.2.2.2.1)),((r.2.1.2.1,(CA .i64 g r.2.1.2.1,r.2.1.2.2.2)),(0:Int)))))=some (if (CM b s).2.2≠0 then (zS,(zU,(CM b s).2.2)) else ((CM b s).1,(mv g (Q7 zU (CM b s).2.1),0))):=by
   rw [F,B,AP];show (if (CM b s).2.2=0 then _ else _)=_
   by_cases h:(CM b s).2.2=0
   ·rw [if_pos h,if_neg (by simp [h])];rfl
   ·rw [if_neg h,if_pos h];rfl
  rw [PN];split
  ·exact key
  ·exact key
theorem aI {s:AG} (m:Sm s) (hc:VSt s->CL s.1.2.flatten<=2000) (g:Int):EF (s,g)=some (OX s g):=by
 unfold EF OX;rw [ny m,AB,AP];by_cases c:(AO s).2=0;rotate_left
 ·rw [if_neg c,Jb c,if_pos c,AP,if_neg c]
 rw [if_pos c,A1,Am];by_cases i:g<0
 ·rw [if_pos i,HA c (.inl i),if_pos (by decide)]
 by_cases q:g>1000000
 ·rw [if_neg i,if_pos q,HA c (.inr q),if_pos (by decide)]
 rw [if_neg i,if_neg q,Qi c (by omega),if_neg (by decide),Am];have v:=Aj.1 c;have G:Gd s s:=⟨v,rfl,hc v⟩;by_cases C:g>0;rotate_left
 ·have:g=0:=by omega
  subst this;rw [if_neg C];rfl
 rw [if_pos C];obtain ⟨b,y⟩ : ∃ b:Nat,b=g.toNat:=⟨_,rfl⟩;rw [<- y];obtain ⟨T,B⟩ : ∃ T,T=((CM b s).1,(((CM b s).2.1.map (·.1),Q7 zU (CM b s).2.1),(CM b s).2.2)):=⟨_,rfl⟩;refine TY (λj => ∃ k t l u,j=eQ t 0 l u/\At s g T (k+1) t l u) (λr=>r.2.1=eQ T.1 T.2.2 T.2.1.1 T.2.1.2) (λj=>(g-j.2.2.1).toNat) ⟨b-1,s,[],zU,rfl,G,by decide,?_,by omega,rfl,?_⟩ ?_ ?_ ?_
 ·show (0:Int)+_=g;omega
 ·rw [B,show b-1+1=b by omega];rfl
 ·show (g-0).toNat<_;omega
 ·rintro j ⟨k,t,l,u,rfl,a⟩;obtain ⟨d,I,L,P,O,N⟩:=id a;rcases eR d with ⟨e1,e2⟩ | ⟨e1,e2,e3,f⟩ | ⟨e1,e2,e3⟩
  ·refine .inr ⟨(0,(eQ t 0 l u,())),?_,by rw [a.none e1]⟩;show bd (BW t) _=_;rw [(HS d).1,AB,A2,if_pos e2]
  ·have K:=a.fail e1 e2;refine .inr ⟨(0,(eQ t (E2 t) l u,())),?_,by rw [K]⟩;show bd (BW t) _=_;rw [(HS d).1,AB,A2,if_neg e3,A2];rcases f with f | ⟨f,E⟩
   ·rw [if_neg (by rw [f];exact e2),AP,if_neg (by rw [f];exact e2),f];rfl
   ·rw [if_pos f];show bd (BV (t,(BO t).1)) _=_;rw [(K2 d _).1,AB,AP,if_neg (by rw [E];exact e2),E];rfl
  ·obtain ⟨n,n1,n2,n3⟩:=TZ d e1;have M:=lM (x:=GT t) (show 0<=u.1/\u.1<=1000000 by omega);have A:=a.step e1
   have p : ∀ {R},(if u.1+1=g then some (LR.dn (1,(eQ (H4 t) 0 (l++[(GT t).1]) (K3 u (GT t)),()))) else some (LR.nx (eQ (H4 t) 0 (l++[(GT t).1]) (K3 u (GT t)))))=R->(∃ s',R=some (.nx s')/\(∃ k t l u,s'=eQ t 0 l u/\At s g T (k+1) t l u)/\(g-s'.2.2.1).toNat<(g-(eQ t 0 l u).2.2.1).toNat)\/(∃ x,R=some (.dn x)/\x.2.1=eQ T.1 T.2.2 T.2.1.1 T.2.1.2):=fun {R} o=>by
    by_cases D:u.1+1=g
    ·rw [if_pos D] at o;have J:k=0:=by omega
     subst J;exact .inr ⟨_,o.symm,by rw [A.last]⟩
    ·rw [if_neg D] at o;obtain ⟨w,z⟩ : ∃ w,k=w+1:=⟨k-1,by omega⟩;refine .inl ⟨_,o.symm,⟨w,_,_,_,rfl,by rw [<- z];exact A⟩,?_⟩;show (g-(K3 u (GT t)).1).toNat<(g-u.1).toNat;omega
   refine p ?_;symm;show bd (BW t) _=_;rw [(HS d).1,AB,A2,if_neg (by rw [e2];decide),A2,if_pos e2];show bd (BV (t,(BO t).1)) _=_;rw [(K2 d _).1,AB,AP,if_pos e3];show gd (BP (Ag l.length [(BO t).1].length) 1048576) _=_;rw [Bj (by simp only [Ag,List.length_cons,List.length_nil];omega),n1,AE,R7 n2,AE,R7 n2,<- n1];exact Qh (u:=u) ⟨I,by omega⟩ e3 n3 (λe u=>some (LR.dn (1,(eQ (H4 t) e (l++[(BO t).1]) u,())))) (λe u=>some (LR.nx (eQ (H4 t) e (l++[(BO t).1]) u)))
 ·intro r F
  have key:(br (Ay r.2.1.1.2.2.2.2 0) (λ_=>some (([]:List Int),r.2.1.1.2.2.2.2)) λ_=>some (r.2.1.2.1,(0:Int)))=some (if (CM b s).2.2≠0 then ([],(CM b s).2.2) else ((CM b s).2.1.map (·.1),0)):=by
   rw [F,B,AP];show (if (CM b s).2.2=0 then _ else _)=_
   by_cases h:(CM b s).2.2=0
   ·rw [if_pos h,if_neg (by simp [h])];rfl
   ·rw [if_neg h,if_pos h];rfl
  rw [PN];split
  ·exact key
  ·exact key
end Go.Proofs.YtfilfloanndddaaGreat.Pl
namespace Go.Proofs.YtfilfloanndddaaGreat.Pl
open Go Go.Proofs.YtfilfloanndddaaGreat.Sv
theorem Qj {s:AG} (m:Sm s) (g:Int):Er (s,g)=some (GK s g):=by
 unfold Er;rw [mo m,AB,A2];by_cases a:(AO s).2=0;rotate_left
 ·rw [if_neg a,Jb a]
 rw [if_pos a,A1,Am];by_cases b:g<0
 ·rw [if_pos b,HA a (.inl b)]
 by_cases c:g>1000000
 ·rw [if_neg b,if_pos c,HA a (.inr c)]
 rw [if_neg b,if_neg c,Qi a (by omega),a]
theorem Wx {s0 s:AG} (g:Gd s0 s):Dm s=some (if (BO s).2≠0 then (s,(0,(false,(BO s).2))) else (H4 s,((BO s).1,((CY s (BO s).1).2.1,(CY s (BO s).1).2.2)))):=by
 unfold Dm;rw [(HS g).2,AB,AP];by_cases h:(BO s).2=0
 ·rw [if_pos h,if_neg (by simp [h])];show bd (EZ (s,(BO s).1)) _=_;rw [(K2 g _).2,AB];rfl
 ·rw [if_neg h,if_pos h]
abbrev td:=Int×(List Int×(List Int×((Int×(List (List BI)×(List Job×Int)))×((Int×(List (List BI)×(List Job×Int)))×(Je×Je)))))
def pQ (s:AG):Int×(List (List BI)×(List Job×Int)):=(s.1.1,(s.1.2,s.2))
def mw (s:AG) (l:List Int) (u:Je):td:=(0,(l,([],(pQ zS,(pQ s,(zU,u))))))
def oA (e:Int) (s:AG) (l:List Int) (u:Je):td:=(e,(l,([],(pQ zS,(pQ s,(zU,u))))))
def PP (s:AG) (g:Int):AG×(Je×(List Int×Int)):=if (CM g.toNat s).2.2≠0 then (zS,(zU,([],(CM g.toNat s).2.2))) else ((CM g.toNat s).1,(mv g (Q7 zU (CM g.toNat s).2.1),((CM g.toNat s).2.1.map (·.1),0)))
theorem O1 {s0 s:AG} (G:Gd s0 s) {g:Int} (B:0<=g) (A:g<=1000000):EG (s,g)=some (PP s g):=by
 unfold EG PP;obtain ⟨b,y⟩ : ∃ b:Nat,b=g.toNat:=⟨_,rfl⟩;rw [<- y];obtain ⟨T,e⟩ : ∃ T,T=((CM b s).1,(((CM b s).2.1.map (·.1),Q7 zU (CM b s).2.1),(CM b s).2.2)):=⟨_,rfl⟩;refine TY (λj => ∃ k t l u,j=mw t l u/\At s0 g T k t l u) (λr=>(r.1=0/\T.2.2=0/\r.2.1=mw T.1 T.2.1.1 T.2.1.2)\/(r.1=1/\T.2.2≠0 /\ ∃ t l u,r.2.1=oA T.2.2 t l u)) (λj=>(g-j.2.2.2.2.2.2.1).toNat) ⟨b,s,[],zU,rfl,G,by decide,?_,by omega,rfl,?_⟩ ?_ ?_ ?_
 ·show (0:Int)+_=g;omega
 ·rw [e];rfl
 ·show (g-0).toNat<_;omega
 ·rintro j ⟨k,t,l,u,rfl,a⟩;obtain ⟨p,E,C,J,I,F⟩:=id a;cases k with
  | zero =>
   refine .inr ⟨(0,(mw t l u,())),?_,.inl ⟨rfl,by rw [a.last],by rw [a.last]⟩⟩;show br (Ak u.1 g) _ _=_;rw [A1,if_neg (by omega)]
  | succ k =>
   have o:=Wx p;rcases eR p with ⟨e1,e2⟩ | ⟨e1,e2,e3,c⟩ | ⟨e1,e2,e3⟩
   ·refine .inr ⟨(0,(mw t l u,())),?_,.inl ⟨rfl,by rw [a.none e1],by rw [a.none e1]⟩⟩;show br (Ak u.1 g) (λ_=>bd (Dm t) _) _=_;rw [A1,if_pos (by omega),o,AB,if_pos (by rw [e2];decide),A2,if_pos e2]
   ·have d:=a.fail e1 e2;refine .inr ⟨(1,(oA (E2 t) t l u,())),?_,.inr ⟨rfl,by rw [d];exact e2,t,l,u,by rw [d]⟩⟩;show br (Ak u.1 g) (λ_=>bd (Dm t) _) _=_;rw [A1,if_pos (by omega),o,AB];rcases c with c | ⟨c,w⟩
    ·rw [if_pos (by rw [c];exact e2),A2,if_neg e3,AP,if_neg (by rw [c];exact e2),c];rfl
    ·rw [if_neg (by simp [c]),A2,if_neg (by rw [w];exact e1),AP,if_neg (by rw [w];exact e2),w];rfl
   ·obtain ⟨n,n1,n2,n3⟩:=TZ p e1;have D:=lM (x:=GT t) (show 0<=u.1/\u.1<=1000000 by omega);refine .inl ⟨mw (H4 t) (l++[(GT t).1]) (K3 u (GT t)),?_,⟨k,_,_,_,rfl,a.step e1⟩,?_⟩;rotate_left
    ·show (g-(K3 u (GT t)).1).toNat<(g-u.1).toNat;omega
    show br (Ak u.1 g) (λ_=>bd (Dm t) _) _=_;rw [A1,if_pos (by omega),o,AB,if_neg (by simp [e2]),A2,if_neg (by rw [e3];decide),AP,if_pos e3,n1,AE,R7 n2,AE,R7 n2,Es];have i : ∀ {γ:Type} (x:Unit->Option γ),gd (BP (Ag (AA l) (AA [(n:Int)])) 1048576) x=x ():=λx=>Bj (by simp only [Ag,AR,List.length_cons,List.length_nil];omega) x;by_cases d:(CY t (n:Int)).2.1=true
    ·rw [eU n3 (by rw [n1];exact d)];show (if (CY t (n:Int)).2.1=true then gd (BP (Ag (AA l) (AA [(n:Int)])) 1048576) _ else _)=_
     rw [if_pos d,i];show _=some (LR.nx (mw (H4 t) (l++[(BO t).1]) _));rw [n1];rfl
    ·have q:(CY t (n:Int)).2.1=false:=by simpa using d
     rw [eV n3 (by rw [n1];exact q)];show (if (CY t (n:Int)).2.1=true then _ else gd (BP (Ag (AA l) (AA [(n:Int)])) 1048576) _)=_
     rw [if_neg d,i];show _=some (LR.nx (mw (H4 t) (l++[(BO t).1]) _));rw [n1];rfl
 ·rintro r (⟨z,f,m⟩ | ⟨z,f,t,l,u,m⟩)
  ·have h:(CM b s).2.2=0:=by rw [e] at f;exact f
   rw [PN,if_pos z,m,e,if_neg (by simp [h])];rfl
  ·have h:(CM b s).2.2≠0:=by rw [e] at f;exact f
   rw [PN,if_neg (by omega),m,e,if_pos h];rfl
theorem aJ {s:AG} (m:Sm s) (hc:VSt s->CL s.1.2.flatten<=2000) (g:Int):F4 (s,g)=some (Ma s g):=by
 unfold F4 Ma;rw [Qj m,AB,AP];by_cases h:GK s g=0;rotate_left
 ·rw [if_neg h,if_pos h];rfl
 rw [if_pos h,if_neg (by simp [h])]
 have a:(AO s).2=0:=by
  by_cases a:(AO s).2=0
  ·exact a
  ·rw [Jb a] at h;exact absurd h a
 have b : ¬ (g<0\/g>1000000):=λb=>by rw [HA a b] at h;cases h
 rw [O1 (s0:=s) ⟨Aj.1 a,rfl,hc (Aj.1 a)⟩ (by omega) (by omega),AB];unfold PP;split<;>rfl
theorem aK {s:AG} (m:Sm s) (hc:VSt s->CL s.1.2.flatten<=2000) (g:Int):F5 (s,g)=some (OX s g):=by
 unfold F5 OX;rw [Qj m,AB,AP];by_cases h:GK s g=0;rotate_left
 ·rw [if_neg h,if_pos h]
 rw [if_pos h,if_neg (by simp [h])]
 have a:(AO s).2=0:=by
  by_cases a:(AO s).2=0
  ·exact a
  ·rw [Jb a] at h;exact absurd h a
 have b : ¬ (g<0\/g>1000000):=λb=>by rw [HA a b] at h;cases h
 rw [O1 (s0:=s) ⟨Aj.1 a,rfl,hc (Aj.1 a)⟩ (by omega) (by omega),AB];unfold PP;split<;>rfl
end Go.Proofs.YtfilfloanndddaaGreat.Pl
namespace Go.Proofs.YtfilfloanndddaaGreat.Pl
open Go Go.Proofs.YtfilfloanndddaaGreat.Sv
theorem oB {s t:AG} {n:Nat} {j:Job} {b:Bool} (v:VSt s) (F:StepF s n j t b) {i:Nat} (a:i≠n) (f:(AW s.1.2 i).length=2):AW t.1.2 i=AW s.1.2 i/\B8 t.2.1 (i:Int)=B8 s.2.1 (i:Int):=by
 by_cases g:0<BF s.1 j
 ·obtain ⟨_,e1,_,e2⟩:=F.read g;exact ⟨by rw [e1],by rw [e2,if_neg a]⟩
 ·obtain ⟨_,e1,_,e2,e3,k⟩:=F.inst (by omega)
  have d : ¬ (CI j≠[]/\i=Jd s j):=λ⟨c,hi⟩=>by
   rcases e3 with e3 | ⟨e3,_,h⟩
   ·exact a (by rw [hi,e3])
   ·have:=h c;rw [<- e3,<- hi] at this;omega
  have c:AW t.1.2 i=AW s.1.2 i:=by rw [e2,if_neg d,if_neg a]
  refine ⟨c,?_⟩;obtain ⟨j',e⟩:=v.hasJob f;rw [k,c,if_pos f,if_neg a,e];rfl
theorem oC {s0 s:AG} (g:Gd s0 s) (e:E2 s=0) {i:Nat} (b:(AW s.1.2 i).length=2) (c:GT s≠((i:Int),true)):(AW (H4 s).1.2 i).length=2:=by
 obtain ⟨n,j,f,h,k,hc,F,_⟩:=IB g e;by_cases a:i=n
 ·subst a;by_cases d:0<BF s.1 j
  ·rw [(F.read d).2.1];exact b
  ·exact absurd (Prod.ext f (F.inst (by omega)).1) c
 ·rw [(oB g.1 F a b).1];exact b
def Vc (a:Int):Nat->Nat->AG->Int×Int
 | 0,_,_=>(0,0)
 | k+1,n,s=>if E2 s≠0 then (0,E2 s) else if GT s=(a,true) then (((n+1:Nat):Int),0) else Vc a k (n+1) (H4 s)
theorem aL {s:AG} (v:VSt s):ba 2000 s<=48024:=by
 have b:=mu 2000 v;have a:=eN v.lev;have:=Nat.mul_le_mul_right 2001 a;omega
def NAt (s0:AG) (a:Int) (T:Int×Int) (k n:Nat) (s:AG):Prop:=Gd s0 s/\ba 2000 s<k/\n+k<=60000/\T=Vc a k n s /\ ∃ i:Nat,a=(i:Int)/\(AW s.1.2 i).length=2
theorem NAt.fail {s0 s:AG} {d:Int} {T:Int×Int} {k n:Nat} (a:NAt s0 d T k n s) (e:E2 s≠0):T=(0,E2 s):=by
 obtain ⟨_,f,_,c,_⟩:=a;obtain ⟨b,rfl⟩ : ∃ b,k=b+1:=⟨k-1,by omega⟩;rw [c];simp [Vc,e]
theorem NAt.hit {s0 s:AG} {c:Int} {T:Int×Int} {k n:Nat} (a:NAt s0 c T k n s) (e:E2 s=0) (h:GT s=(c,true)):T=(((n+1:Nat):Int),0):=by
 obtain ⟨_,f,_,d,_⟩:=a;obtain ⟨b,rfl⟩ : ∃ b,k=b+1:=⟨k-1,by omega⟩;rw [d];simp [Vc,e,h]
theorem NAt.next {s0 s:AG} {d:Int} {T:Int×Int} {k n:Nat} (a:NAt s0 d T k n s) (e:E2 s=0) (h:GT s≠(d,true)) : ∃ b,k=b+1/\NAt s0 d T b (n+1) (H4 s)/\ba 2000 (H4 s)<ba 2000 s:=by
 obtain ⟨c,m,p,j,i,f,g⟩:=a;obtain ⟨b,rfl⟩ : ∃ b,k=b+1:=⟨k-1,by omega⟩;obtain ⟨_,_,_,_,_,_,_,l⟩:=IB c e;have o:=(Yx c c.2.2 e).1;refine ⟨b,rfl,⟨l,by omega,by omega,?_,i,f,oC c e g (by rw [<- f];exact h)⟩,by omega⟩;rw [j];simp [Vc,e,h]
end Go.Proofs.YtfilfloanndddaaGreat.Pl
namespace Go.Proofs.YtfilfloanndddaaGreat.Pl
open Go Go.Proofs.YtfilfloanndddaaGreat.Sv
end Go.Proofs.YtfilfloanndddaaGreat.Pl
namespace Go.Proofs.YtfilfloanndddaaGreat.Pl
open Go Go.Proofs.YtfilfloanndddaaGreat.Sv
theorem Wy (l:List AD) (b:Bool) (n:b=false) : ∃ r,loop (β:=Nat×((Int×Bool)×Unit)) (λa=>br (Ak a.1 (l.length:Int)) (λ_=>br (Ak a.1 50) (λ_=>AT a.1 λm=>ix l m λe=>br (CD (Gc e.1:Int) 100) (λ_=>some (.dn ((0,((a.1,true),()))))) λ_=>AT a.1 λj=>ix l j λd=>br (CD (Gc d.2.1:Int) 100) (λ_=>some (.dn ((0,((a.1,true),()))))) λ_=>some (.nx (AI .i64 a.1 1,a.2))) λ_=>some (.dn ((1,(a,()))))) λ_=>some (.dn ((1,(a,()))))) ((0:Int),b)=some r/\((r.1=1/\r.2.1.2=false)\/(r.1=0/\r.2.1.2=true)):=by
 subst n
 exact Na (l:=l) (σ:=Unit) 50 (by omega) (λk _=>((k:Int),false)) (λ_ _=>True) (λ(r:Nat×((Int×Bool)×Unit))=>(r.1=1/\r.2.1.2=false)\/(r.1=0/\r.2.1.2=true)) () rfl trivial (λk _ h i _=>⟨_,(lI (c:=50) h i _ _ _ rfl),.inl ⟨rfl,rfl⟩⟩) (λk x _ g i _=>by
  simp only;have f:=(List.getElem?_eq_some_iff.1 g).1;rw [rl f,AU,show Ak (k:Int) 50=true from Yp i,AU,AE,AL g,Am,AE,AL g,Am,Af (by omega)]
  repeat' split
  all_goals first | exact .inr ⟨_,rfl,.inr ⟨rfl,rfl⟩⟩ | exact .inl ⟨(),rfl,trivial⟩)
def pR (n:Int) (rs:List BI):Prop:=0<=n/\n<=1000000000 /\ ∀ r∈rs,r.2.length<=5000
theorem Vd {rs:List BI} {k:Nat} (h : ∀ r∈rs,r.2.length<=5000) (b:k<=20):CL (rs.take k)<=100000:=by
 have d:=Yu (l:=rs.take k) λr a=>h r (List.mem_of_mem_take a);have c:(rs.take k).length<=k:=by rw [List.length_take];omega
 omega
theorem aM {L:List (List BI)} {i:Nat} {rs:List BI} (hi:L[i]? = some rs) (n:Int) (b:Bool) (D:b=false) : ∃ r,loop (β:=Nat×((Int×(Int×Bool))×Unit)) (λs1=>AT (i:Int) λI=>ix L I λF=>br (Ak s1.2.1 (F.length:Int)) (λ_=>br (Ak s1.2.1 9) (λ_=>AT (i:Int) λE=>ix L E λA=>AT s1.2.1 λJ=>ix A J λf=>bd (loop (λa=>br (Ak a.1 (f.2.length:Int)) (λ_=>br (Ak a.1 50) (λ_=>AT a.1 λz=>ix f.2 z λo=>br (CD (Gc o.1:Int) 100) (λ_=>some (.dn (((0:Nat),((a.1,true),()))))) λ_=>AT a.1 λt=>ix f.2 t λw=>br (CD (Gc w.2.1:Int) 100) (λ_=>some (.dn ((0,((a.1,true),()))))) λ_=>some (.nx (AI .i64 a.1 1,a.2))) λ_=>some (.dn ((1,(a,()))))) λ_=>some (.dn ((1,(a,()))))) ((0:Int),s1.2.2)) λe=>br (neq e.1 0) (λ_=>some (.dn ((1,((AI .i64 s1.1 (f.2.length:Int),(s1.2.1,e.2.1.2)),()))))) λ_=>some (.nx ((AI .i64 s1.1 (f.2.length:Int),(AI .i64 s1.2.1 1,e.2.1.2))))) λ_=>some (.dn ((0,(s1,()))))) λ_=>some (.dn ((0,(s1,()))))) (n,((0:Int),b))=some r/\((r.1=0/\r.2.1.2.2=false/\(rs.length<=8->pR n rs->r.2.1.1=n+(CL rs:Int)))\/(r.1=1/\r.2.1.2.2=true)):=by
 subst D
 exact Na (l:=rs) (σ:=Int) 9 (by omega) (λk m=>(m,((k:Int),false))) (λk m=>pR n rs->m=n+(CL (rs.take k):Int)) (λ(r:Nat×((Int×(Int×Bool))×Unit))=>(r.1=0/\r.2.1.2.2=false/\(rs.length<=8->pR n rs->r.2.1.1=n+(CL rs:Int)))\/(r.1=1/\r.2.1.2.2=true)) n rfl (λ_=>by simp [CL]) (λk m h q s=>⟨_,by
  rw [AE,AL hi];exact (lI (c:=9) h q _ _ _ rfl),.inl ⟨rfl,rfl,λM d=>by
   have y:k=rs.length:=by omega
   subst y;have:=s d;rw [List.take_length] at this
   exact this⟩⟩) (λk x m j q s=>by
  simp only;have p:=(List.getElem?_eq_some_iff.1 j).1;obtain ⟨r,G,g⟩:=Wy x.2 false rfl;rw [AE,AL hi,rl p,AU,show Ak (k:Int) 9=true from Yp q,AU,AE,AL hi,AE,AL j,G,AB,Cc,Af (by omega)];rcases g with ⟨g,u⟩ | ⟨g,u⟩
  ·rw [if_neg (by omega),u];refine .inl ⟨_,rfl,λd => ?_⟩;have C:=s d
   have B:CL (rs.take (k+1))=CL (rs.take k)+x.2.length:=by
    rw [List.take_add_one,j,ED];simp [CL]
   have K:=d.2.2 x (List.mem_of_getElem? j);have O:=Vd (k:=k) d.2.2 (by omega);have N:=d.1;have P:=d.2.1;show AI .i64 m (x.2.length:Int)=_;rw [DV (by omega),C,B];omega
  ·rw [if_pos g,u];exact .inr ⟨_,rfl,.inr ⟨rfl,rfl⟩⟩)
theorem eW (s:AG) (o : ∀ rs∈s.1.2,∀ r∈rs,r.2.length<=9223372036854775807) : ∃ b,GP s=some b/\(b=false->Sm s/\(VLev s.1->CL s.1.2.flatten<=40)):=by
 unfold GP;simp only [AX,AR]
 obtain ⟨r,q1,t⟩:=Na (l:=s.1.2) (σ:=Int) (s:=((0:Int),(false,(0:Int)))) 20 (by omega) (λk n=>(n,(false,(k:Int)))) (λk n=>(∀ i rs,i<k->s.1.2[i]? = some rs->rs.length<=8)/\(VLev s.1->n=(CL (s.1.2.take k).flatten:Int))) (λ(r:Nat×((Int×(Bool×Int))×Unit))=>(r.1=0/\r.2.1.2.1=false/\(∀ i rs,i<20->s.1.2[i]? = some rs->rs.length<=8)/\(VLev s.1->s.1.2.length<=15->r.2.1.1=(CL s.1.2.flatten:Int)))\/(r.1=1/\r.2.1.2.1=true))
  (f:=λs0=>br (Ak s0.2.2 (s.1.2.length:Int)) (λ_=>br (Ak s0.2.2 20) (λ_=>bd (loop (λs1=>AT s0.2.2 λk2=>ix s.1.2 k2 λx3=>br (Ak s1.2.1 (x3.length:Int)) (λ_=>br (Ak s1.2.1 9) (λ_=>AT s0.2.2 λk4=>ix s.1.2 k4 λx5=>AT s1.2.1 λk6=>ix x5 k6 λL=>bd (loop (λq=>br (Ak q.1 (L.2.length:Int)) (λ_=>br (Ak q.1 50) (λ_=>AT q.1 λk9=>ix L.2 k9 λY=>br (CD (Gc Y.1:Int) 100) (λ_=>some (.dn (((0:Nat),((q.1,true),()))))) λ_=>AT q.1 λk11=>ix L.2 k11 λx12=>br (CD (Gc x12.2.1:Int) 100) (λ_=>some (.dn ((0,((q.1,true),()))))) λ_=>some (.nx (AI .i64 q.1 1,q.2))) λ_=>some (.dn ((1,(q,()))))) λ_=>some (.dn ((1,(q,()))))) ((0:Int),s1.2.2)) λE=>br (neq E.1 0) (λ_=>some (.dn (((1:Nat),((AI .i64 s1.1 (L.2.length:Int),(s1.2.1,E.2.1.2)),()))))) λ_=>some (.nx ((AI .i64 s1.1 (L.2.length:Int),(AI .i64 s1.2.1 1,E.2.1.2))))) λ_=>some (.dn ((0,(s1,()))))) λ_=>some (.dn ((0,(s1,()))))) ((s0.1,((0:Int),s0.2.1)))) λp=>br (neq p.1 0) (λ_=>AT s0.2.2 λk15=>ix s.1.2 k15 λx16=>br (CD (x16.length:Int) 8) (λ_=>some (.dn (((1:Nat),((p.2.1.1,(true,s0.2.2)),()))))) λ_=>some (.nx ((p.2.1.1,(p.2.1.2.2,AI .i64 s0.2.2 1))))) λ_=>some (.dn ((1,((p.2.1.1,(p.2.1.2.2,s0.2.2)),()))))) λ_=>some (.dn ((0,(s0,()))))) λ_=>some (.dn ((0,(s0,())))))
  0 rfl ⟨λi rs h=>by omega,λ_=>by simp [CL]⟩ (λk n h u J=>⟨_,(lI (c:=20) h u _ _ _ rfl),.inl ⟨rfl,rfl,λi rs hi o=>J.1 i rs (by have:=(List.getElem?_eq_some_iff.1 o).1;omega) o,λz h15=>by
   have:=J.2 z;rw [List.take_of_length_le (by omega)] at this
   exact this⟩⟩) (λk rs n o u J=>by
   simp only;have B:=(List.getElem?_eq_some_iff.1 o).1;obtain ⟨r,q1,t⟩:=aM o n false rfl;rw [rl B,AU,show Ak (k:Int) 20=true from Yp u,AU,q1,AB,Cc,AE,AL o,Am,Af (by omega)];rcases t with ⟨t,F,Z⟩ | ⟨t,F⟩
   ·rw [if_pos t];by_cases h8:(rs.length:Int)>8
    ·rw [if_pos h8];exact .inr ⟨_,rfl,.inr ⟨rfl,rfl⟩⟩
    ·rw [if_neg h8,F];refine .inl ⟨_,rfl,λi U hi D => ?_,λz => ?_⟩
     ·by_cases h:i=k
      ·subst h;rw [o] at D;cases D;omega
      ·exact J.1 i U (by omega) D
     ·have w:=J.2 z
      have G : ∀ l:List (List BI),(∀ rs∈l,rs∈s.1.2) -> ∀ r∈l.flatten,r.2.length<=5000:=λl hl r W=>by
       obtain ⟨S,h3,h4⟩:=List.mem_flatten.1 W;obtain ⟨i,hi⟩:=List.getElem?_of_mem (hl S h3);have N:r∈AW s.1.2 i:=by unfold AW;rw [hi];exact h4
       exact ((z.own i).2 r N).vl.len
      have M:CL (s.1.2.take (k+1)).flatten=CL (s.1.2.take k).flatten+CL rs:=by
       rw [List.take_add_one,o,List.flatten_append,ED];simp
      have h3:=Vd (k:=20) (rs:=(s.1.2.take k).flatten) (G _ λrs h=>List.mem_of_mem_take h)
      have h4:(s.1.2.take k).flatten.length<=1000:=by
       have N : ∀ l:List (List BI),(∀ rs∈l,rs.length<=2)->l.flatten.length<=2*l.length:=by
        intro l
        induction l with
        | nil=>intro _;simp
        | cons x l ih =>
         intro h;have h6:=h x (by simp);have h7:=ih λy D=>h y (by simp [D]);simp only [List.flatten_cons,List.length_append,List.length_cons];omega
       have:=N (s.1.2.take k) λrs h=>z.two rs (List.mem_of_mem_take h);have h8:(s.1.2.take k).length<=20:=by simp;omega
       omega
      have N:=Yu (G (s.1.2.take k) λrs h=>List.mem_of_mem_take h);have h6:pR n rs:=⟨by omega,by omega,λr W=>G [rs] (λx hx'=>by rw [List.mem_singleton.1 hx'];exact List.mem_of_getElem? o) r (by simpa using W)⟩;show r.2.1.1=_;rw [Z (by omega) h6,w,M];omega
   ·rw [if_neg (by omega),F];exact .inr ⟨_,rfl,.inr ⟨rfl,rfl⟩⟩)
 refine (λh=>h) ?_;have P : ∀ {K:(Nat×((Int×(Bool×Int))×Unit))->Option Bool},(∃ b,K r=some b/\(b=false->Sm s/\(VLev s.1->CL s.1.2.flatten<=40))) -> ∀ {m:Option (Nat×((Int×(Bool×Int))×Unit))},m=some r -> ∃ b,bd m K=some b/\(b=false->Sm s/\(VLev s.1->CL s.1.2.flatten<=40)):=λh _ e=>by subst e;exact h
 refine P ?_ q1;rw [Cc];rcases t with ⟨t,F,Z,q5⟩ | ⟨t,F⟩
 rotate_left
 ·rw [if_neg (by omega),F];exact ⟨_,rfl,λh=>by cases h⟩
 rw [if_pos t,F]
 obtain ⟨r2,p1,O⟩:=Na (l:=s.2.1) (σ:=Unit) (s:=(false,(0:Int))) 20 (by omega) (λk _=>(false,(k:Int))) (λ_ _=>True) (λ(r:Nat×((Bool×Int)×Unit))=>r.1=1\/(r.1=0/\r.2.1.1=true))
  (f:=λa=>br (Ak a.2 (s.2.1.length:Int)) (λ_=>br (Ak a.2 20) (λ_=>AT a.2 λk19=>ix s.2.1 k19 λg=>br (CD (g.2.1.1.length:Int) 20) (λ_=>some (.dn ((0,((true,a.2),()))))) λ_=>br (CD (g.2.1.2.1.length:Int) 100) (λ_=>some (.dn ((0,((true,a.2),()))))) λ_=>br (CD (g.2.1.2.2.1.length:Int) 100) (λ_=>some (.dn ((0,((true,a.2),()))))) λ_=>br (CD (g.2.1.2.2.2.1.length:Int) 100) (λ_=>some (.dn ((0,((true,a.2),()))))) λ_=>bd (loop (λd=>br (Ak d.1 (g.2.1.1.length:Int)) (λ_=>AT d.1 λC=>ix g.2.1.1 C λA=>some (.nx ((AI .i64 d.1 1,AI .i64 d.2 (A.length:Int))))) λ_=>some (.dn (((0:Nat),(d,()))))) (((0:Int),(g.2.2.2.1.length:Int)))) λX=>br (CD X.2.1.2 200) (λ_=>some (.dn ((0,((true,a.2),()))))) λ_=>some (.nx (a.1,AI .i64 a.2 1))) λ_=>some (.dn ((1,(a,()))))) λ_=>some (.dn ((1,(a,())))))
  () rfl trivial (λk _ h u _=>⟨_,(lI (c:=20) h u _ _ _ rfl),.inl rfl⟩) (λk j _ o u _=>by
   simp only;have B:=(List.getElem?_eq_some_iff.1 o).1;rw [rl B,AU,show Ak (k:Int) 20=true from Yp u,AU,AE,AL o,Am];by_cases w:(j.2.1.1.length:Int)>20
   ·rw [if_pos w];exact .inr ⟨_,rfl,.inr ⟨rfl,rfl⟩⟩
   rw [if_neg w]
   obtain ⟨r3,t1,_⟩:=GH (l:=j.2.1.1) (σ:=Int) (s:=((0:Int),(j.2.2.2.1.length:Int))) (λk n=>((k:Int),n)) (λ_ _ _=>True) (λ(_:Nat×((Int×Int)×Unit))=>True)
    (f:=λd=>br (Ak d.1 (j.2.1.1.length:Int)) (λ_=>AT d.1 λC=>ix j.2.1.1 C λA=>some (.nx ((AI .i64 d.1 1,AI .i64 d.2 (A.length:Int))))) λ_=>some (.dn (((0:Nat),(d,())))))
    (j.2.2.2.1.length:Int) rfl (by omega) trivial (λn _=>⟨_,by rw [re];rfl,trivial⟩) (λk y m n hd D u _ => .inl ⟨AI .i64 n (y.length:Int),by rw [rl u,AU,AE,AL D,Af (by omega)],trivial⟩)
   rw [t1,AB,Am,Am,Am,Am,Af (by omega)]
   repeat' split
   all_goals first | exact .inr ⟨_,rfl,.inr ⟨rfl,rfl⟩⟩ | exact .inl ⟨(),rfl,trivial⟩)
 rw [p1,AB,Cc];rcases O with O | ⟨O,p3⟩
 rotate_left
 ·rw [if_pos O,p3];exact ⟨_,rfl,λh=>by cases h⟩
 rw [if_neg (by omega),Am,Am];by_cases w:r.2.1.1>40
 ·rw [if_pos w];exact ⟨_,rfl,λh=>by cases h⟩
 rw [if_neg w];by_cases M:(s.1.2.length:Int)>15
 ·rw [if_pos M];exact ⟨_,rfl,λh=>by cases h⟩
 rw [if_neg M];refine ⟨_,rfl,λh=>⟨⟨by omega,λrs I=>⟨?_,o rs I⟩,?_⟩,λz=>by have:=q5 z (by omega);omega⟩⟩
 ·obtain ⟨i,hi⟩:=List.getElem?_of_mem I;have:=Z i rs (by have:=(List.getElem?_eq_some_iff.1 hi).1;omega) hi;omega
 ·unfold CD at h;simp at h;omega
end Go.Proofs.YtfilfloanndddaaGreat.Pl
namespace Go.Proofs.YtfilfloanndddaaGreat.Pl
open Go Go.Proofs.YtfilfloanndddaaGreat.Sv
set_option maxRecDepth 1000000
theorem Yy:F3 ()=some true:=by kernel_rfl
theorem aN:G9=Ah:=rfl
theorem aO (l m:List Int) (h:l.length<=1000000):G9 (l,m)=some (decide (l=m)):=by
 rw [aN];exact JV l m (by omega)
theorem lN (a:Rp):pP a a=true:=by
 unfold pP;simp only [Db,decide_true];rfl
theorem lO (u:Je):Az (A8 u.1 u.1) (Az (A8 u.2.1 u.2.1) (Az (A8 u.2.2.1 u.2.2.1) (Az (pP u.2.2.2 u.2.2.2) true)))=true:=by
 rw [lN];simp only [Db,decide_true];rfl
theorem Ve {s:AG} {g:Int} (h:GK s g=0):VSt s/\0<=g/\g<=1000000:=by
 have a:(AO s).2=0:=by
  by_cases a:(AO s).2=0
  ·exact a
  ·rw [Jb a] at h;exact absurd h a
 by_cases b:g<0\/g>1000000
 ·rw [HA a b] at h;cases h
 ·exact ⟨Aj.1 a,by omega,by omega⟩
theorem Vf {s:AG} (hc:VSt s->CL s.1.2.flatten<=2000) (g:Int):(Ma s g).1=zS\/VSt (Ma s g).1:=by
 unfold Ma;by_cases h:GK s g=0;rotate_left
 ·rw [if_pos h];exact .inl rfl
 rw [if_neg (by simp [h])];by_cases a:(CM g.toNat s).2.2=0;rotate_left
 ·rw [if_pos a];exact .inl rfl
 rw [if_neg (by simp [a])];have v:=(Ve h).1;exact .inr (Qg (s0:=s) (N:=2000) ⟨v,rfl,hc v⟩ (hc v)).2.2.1.1
theorem Wz {s:AG} (hc:VSt s->CL s.1.2.flatten<=2000) (g:Int):(OX s g).1.length<=48024:=by
 unfold OX;by_cases h:GK s g=0;rotate_left
 ·rw [if_pos h];simp
 rw [if_neg (by simp [h])];by_cases a:(CM g.toNat s).2.2=0;rotate_left
 ·rw [if_pos a];simp
 rw [if_neg (by simp [a])];have v:=(Ve h).1;have b:=(Qg (s0:=s) (N:=2000) (n:=g.toNat) ⟨v,rfl,hc v⟩ (hc v)).2.1;have c:=aL v;simp only [List.length_map];omega
theorem Vg {t:AG} (h:t=zS\/VSt t):EY (t,t)=some true:=by
 rcases h with rfl | h
 ·exact nz
 ·exact Wv h
theorem my {s:AG} (c : ∀ rs∈s.1.2,∀ r∈rs,r.2.length<=9223372036854775807) {K:Bool->Option Bool} (f:K true=some true) (d:Sm s->(VSt s->CL s.1.2.flatten<=40)->K false=some true):bd (GP s) K=some true:=by
 obtain ⟨b,e,a⟩:=eW s c;rw [e,AB];cases b with
 | true=>exact f
 | false=>exact d (a rfl).1 λv=>(a rfl).2 v.lev
theorem mz {s:AG} (h:VSt s->CL s.1.2.flatten<=40):VSt s->CL s.1.2.flatten<=2000:=λv=>by have:=h v;omega
theorem grantsShares {x:AG×Int} (a : ∀ rs∈x.1.1.2,∀ r∈rs,r.2.length<=9223372036854775807):Cw x=some true:=by
 obtain ⟨s,g⟩:=x;unfold Cw;refine my a ?_ λm hc => ?_
 ·rw [AU,Yy];rfl
 have hc:=mz hc;rw [Av,aH m hc,AB,aJ m hc,AB,Vg (Vf hc g),AB,BX,AU,BX,lO,AU,AP,if_pos rfl,aI m hc,AB,aK m hc,AB,aO _ _ (by have:=Wz hc g;omega),AB,C9,if_pos rfl,A2,if_pos rfl,Yy];rfl
end Go.Proofs.YtfilfloanndddaaGreat.Pl
namespace Go.Proofs.YtfilfloanndddaaGreat.Pl
open Go Go.Proofs.YtfilfloanndddaaGreat.Sv
end Go.Proofs.YtfilfloanndddaaGreat.Pl
namespace Go.Proofs.YtfilfloanndddaaGreat.Pl
open Go Go.Proofs.YtfilfloanndddaaGreat.Sv
end Go.Proofs.YtfilfloanndddaaGreat.Pl
namespace Go.Proofs.YtfilfloanndddaaGreat.Pl
open Go Go.Proofs.YtfilfloanndddaaGreat.Sv
end Go.Proofs.YtfilfloanndddaaGreat.Pl
namespace Go.Proofs.YtfilfloanndddaaGreat.Pl
open Go Go.Proofs.YtfilfloanndddaaGreat.Sv
set_option maxRecDepth 100000
def lst (a:Rp):List Int:=[a.1,a.2.1,a.2.2.1,a.2.2.2.1,a.2.2.2.2.1,a.2.2.2.2.2.1,a.2.2.2.2.2.2.1,a.2.2.2.2.2.2.2.1,a.2.2.2.2.2.2.2.2.1,a.2.2.2.2.2.2.2.2.2.1,a.2.2.2.2.2.2.2.2.2.2.1,a.2.2.2.2.2.2.2.2.2.2.2]
end Go.Proofs.YtfilfloanndddaaGreat.Pl
namespace Go.Proofs.YtfilfloanndddaaGreat.Pl
open Go Go.Proofs.YtfilfloanndddaaGreat.Sv
set_option maxRecDepth 100000
end Go.Proofs.YtfilfloanndddaaGreat.Pl
namespace Go.Proofs.YtfilfloanndddaaGreat.Pl
open Go Go.Proofs.YtfilfloanndddaaGreat.Sv
@[reducible] def tE:Ty:=.pair .str (.pair .str (.pair .bool (.int .i64)))
@[reducible] def te:Ty:=.pair (.pair (.int .i64) (.sl true (.sl true (.pair (.int .i64) (.sl true tE))))) (.pair (.sl true (.pair (.int .i64) (.pair (.pair (.sl false (.sl true tE)) (.pair (.sl false (.int .i64)) (.pair (.sl true (.pair .str .bool)) (.pair (.sl false (.int .i64)) (.int .i64))))) (.pair (.pair .bool (.pair .str .bool)) (.pair (.sl true tE) (.int .i64)))))) (.int .i64))
theorem oD {s:AG} (h:kn te s) : ∀ rs∈s.1.2,∀ r∈rs,r.2.length<=9223372036854775807:=by
 obtain ⟨⟨_,d,c⟩,_⟩:=h;exact λrs a r b=>((c rs a).2 r b).2.1
theorem aQ {x:AG×Int} (h:dT [(true,te),(false,.int .i64)] x):Cw x=some true:=grantsShares (oD h.1)
end Go.Proofs.YtfilfloanndddaaGreat.Pl
