/- Functions of the program and of the specification as plain functions, and laws about them. No condition. -/
import Derived.Test.YtfilfloanndddaaGreatPl2
import Derived.KernelRfl
set_option linter.all false
namespace Go.Proofs.YtfilfloanndddaaGreat.Pl
section
open Go Go.Proofs.YtfilfloanndddaaGreat.Sv
theorem dO {α β γ:Type} {f:α->Option (LR α β)} {K:β->Option γ} {R:Option γ} (Inv:α->Prop) (Q:β->Prop) (m:α->Nat) {s:α} (hs:Inv s) (b:m s<18446744073709551616)
  (step : ∀ s,Inv s->(∃ s',f s=some (.nx s')/\Inv s'/\m s'<m s)\/(∃ x,f s=some (.dn x)/\Q x)) (a : ∀ x,Q x->K x=R):bd (loop f s) K=R:=by
 obtain ⟨x,e,q⟩:=Rr Inv Q m hs b step;rw [e];exact a x q
theorem dQ {β:Type} (n:Nat) (x y:Unit->Option β):br (neq n 0) x y=if n=0 then x () else y ():=by
 rw [SM]
theorem mT {s0 s:TA} (g:Gd s0 s):WK s=4/\(UH s).2=4\/WK s≠4/\WK s≠0/\(UH s).2≠4/\((UH s).2=WK s\/(UH s).2=0/\(VY s (UH s).1).2.2=WK s)\/WK s=0/\(UH s).2=0/\(VY s (UH s).1).2.2=0:=by
 by_cases a:WK s=4
 ·exact .inl ⟨a,(bE g a).1⟩
 ·by_cases b:WK s=0
  ·have:=bD g b;exact .inr (.inr ⟨b,this.1,this.2.2⟩)
  ·refine .inr (.inl ⟨a,b,?_⟩);unfold WK at a b ⊢;by_cases c:(UH s).2≠0
   ·rw [if_pos c] at a ⊢;exact ⟨a,.inl rfl⟩
   ·have d:(UH s).2=0:=by simpa using c
    rw [if_neg c];rw [d];exact ⟨by decide,.inr ⟨rfl,rfl⟩⟩
theorem rm {u:ab} {x:Int×Bool} (h:0<=u.1/\u.1<=1000000):(m6 u x).1=u.1+1:=by
 show Rl .i64 u.1 1=_;exact R9 (by omega)
def At (s0:TA) (g:Int) (T:TA×((List Int×ab)×Int)) (k:Nat) (s:TA) (l:List Int) (u:ab):Prop:=Gd s0 s/\0<=u.1/\u.1+k=g/\g<=1000000/\(l.length:Int)=u.1/\T=((Zk k s).1,((l++(Zk k s).2.1.map (·.1),mN u (Zk k s).2.1),(Zk k s).2.2))
theorem At.step {s0 s:TA} {g:Int} {T:TA×((List Int×ab)×Int)} {k:Nat} {l:List Int} {u:ab} (a:At s0 g T (k+1) s l u) (e:WK s=0):At s0 g T k (Xq s) (l++[(YM s).1]) (m6 u (YM s)):=by
 obtain ⟨c,h,i,d,j,f⟩:=a;obtain ⟨_,_,_,_,_,_,_,b⟩:=YI c e;have m:=rm (x:=YM s) (show 0<=u.1/\u.1<=1000000 by omega);refine ⟨b,by omega,by omega,d,by simp;omega,?_⟩;rw [f];simp only [Zk,e,ne_eq,not_true_eq_false,if_false,List.map_cons,List.append_assoc,List.cons_append,List.nil_append];rfl
theorem At.none {s0 s:TA} {g:Int} {T:TA×((List Int×ab)×Int)} {k:Nat} {l:List Int} {u:ab} (a:At s0 g T k s l u) (e:WK s=4):T=(s,((l,u),0)):=by
 rw [a.2.2.2.2.2];cases k<;>simp [Zk,e,mN]
theorem At.fail {s0 s:TA} {g:Int} {T:TA×((List Int×ab)×Int)} {k:Nat} {l:List Int} {u:ab} (a:At s0 g T (k+1) s l u) (c:WK s≠4) (b:WK s≠0):T=(s,((l,u),WK s)):=by
 rw [a.2.2.2.2.2];simp [Zk,c,b,mN]
theorem At.last {s0 s:TA} {g:Int} {T:TA×((List Int×ab)×Int)} {l:List Int} {u:ab} (a:At s0 g T 0 s l u):T=(s,((l,u),0)):=by
 rw [a.2.2.2.2.2];simp [Zk,mN]
end
section
open Go Go.Proofs.YtfilfloanndddaaGreat.Sv
theorem cD {s0 s:TA} (g:Gd s0 s):UU s=some (if (UH s).2≠0 then (s,(0,(false,(UH s).2))) else (Xq s,((UH s).1,((VY s (UH s).1).2.1,(VY s (UH s).1).2.2)))):=by
 unfold UU;rw [(YH g).2,SL,Ss];by_cases h:(UH s).2=0
 ·rw [if_pos h,if_neg (by simp [h])];show bd (Vf (s,(UH s).1)) _=_;rw [(Yt g _).2,SL];rfl
 ·rw [if_neg h,if_pos h]
end
section
open Go Go.Proofs.YtfilfloanndddaaGreat.Sv
theorem oH {s t:TA} {n:Nat} {j:Job} {b:Bool} (v:VSt s) (F:StepF s n j t b) {i:Nat} (a:i≠n) (f:(TG s.1.2 i).length=2):TG t.1.2 i=TG s.1.2 i/\UL t.2.1 (i:Int)=UL s.2.1 (i:Int):=by
 by_cases h:0<TZ s.1 j
 ·obtain ⟨_,e1,_,e2⟩:=F.read h;exact ⟨by rw [e1],by rw [e2,if_neg a]⟩
 ·obtain ⟨_,e1,_,e2,e3,e4⟩:=F.inst (by omega)
  have e : ¬ (UP j≠[]/\i=Xm s j):=λ⟨c,hi⟩=>by
   rcases e3 with e3 | ⟨e3,_,g⟩
   ·exact a (by rw [hi,e3])
   ·have:=g c;rw [<- e3,<- hi] at this;omega
  have c:TG t.1.2 i=TG s.1.2 i:=by rw [e2,if_neg e,if_neg a]
  refine ⟨c,?_⟩;obtain ⟨j',d⟩:=v.hasJob f;rw [e4,c,if_pos f,if_neg a,d];rfl
theorem oI {s0 s:TA} (g:Gd s0 s) (e:WK s=0) {i:Nat} (b:(TG s.1.2 i).length=2) (f:YM s≠((i:Int),true)):(TG (Xq s).1.2 i).length=2:=by
 obtain ⟨n,j,d,k,h,hc,F,_⟩:=YI g e;by_cases a:i=n
 ·subst a;by_cases c:0<TZ s.1 j
  ·rw [(F.read c).2.1];exact b
  ·exact absurd (Prod.ext d (F.inst (by omega)).1) f
 ·rw [(oH g.1 F a b).1];exact b
def Yp (a:Int):Nat->Nat->TA->Int×Int
 | 0,_,_=>(0,0)
 | k+1,n,s=>if WK s≠0 then (0,WK s) else if YM s=(a,true) then (((n+1:Nat):Int),0) else Yp a k (n+1) (Xq s)
def db (s:TA) (a:Int):Int×Int:=if (TE s).2≠0 then (0,(TE s).2) else if a<0\/a>=12 then (0,7) else if (WH s a).2≠0 then (0,(WH s a).2) else Yp a (aU 2000 s+1) 0 s
theorem fx {s:TA} {a:Int} (v:VSt s) (h:(WH s a).2=0) : ∃ i:Nat,a=(i:Int)/\(TG s.1.2 i).length=2:=by
 have d:(TE s).2=0:=TS.2 v;unfold WH at h;rw [if_neg (by simp [d])] at h;cases b:Ye a 0 (TI 0 s.1.2) with
 | none=>rw [b] at h;cases h
 | some i =>
  obtain ⟨n,f,g,e,c⟩:=ZK (List.mem_of_getElem? (aK b).2);exact ⟨n,e,by rw [XI.1 c];rfl⟩
theorem Y9 {s:TA} (v:VSt s):aU 2000 s<=48024:=by
 have b:=mf 2000 v;have a:=fy v.lev;have:=Nat.mul_le_mul_right 2001 a;omega
theorem bC {s0 s:TA} (g:Gd s0 s) {i:Nat} (b:(TG s.1.2 i).length=2):WK s≠4:=λh=>by
 have c:=(bE g h).2;obtain ⟨j,a⟩:=g.1.hasJob b;rw [c] at a;cases a
def NAt (s0:TA) (a:Int) (T:Int×Int) (k n:Nat) (s:TA):Prop:=Gd s0 s/\aU 2000 s<k/\n+k<=60000/\T=Yp a k n s /\ ∃ i:Nat,a=(i:Int)/\(TG s.1.2 i).length=2
theorem NAt.fail {s0 s:TA} {d:Int} {T:Int×Int} {k n:Nat} (a:NAt s0 d T k n s) (e:WK s≠0):T=(0,WK s):=by
 obtain ⟨_,f,_,c,_⟩:=a;obtain ⟨b,rfl⟩ : ∃ b,k=b+1:=⟨k-1,by omega⟩;rw [c];simp [Yp,e]
theorem NAt.hit {s0 s:TA} {c:Int} {T:Int×Int} {k n:Nat} (a:NAt s0 c T k n s) (e:WK s=0) (h:YM s=(c,true)):T=(((n+1:Nat):Int),0):=by
 obtain ⟨_,f,_,d,_⟩:=a;obtain ⟨b,rfl⟩ : ∃ b,k=b+1:=⟨k-1,by omega⟩;rw [d];simp [Yp,e,h]
theorem NAt.next {s0 s:TA} {d:Int} {T:Int×Int} {k n:Nat} (a:NAt s0 d T k n s) (e:WK s=0) (h:YM s≠(d,true)) : ∃ b,k=b+1/\NAt s0 d T b (n+1) (Xq s)/\aU 2000 (Xq s)<aU 2000 s:=by
 obtain ⟨c,m,o,j,i,f,l⟩:=a;obtain ⟨b,rfl⟩ : ∃ b,k=b+1:=⟨k-1,by omega⟩;obtain ⟨_,_,_,_,_,_,_,g⟩:=YI c e;have p:=(lz c c.2.2 e).1;refine ⟨b,rfl,⟨g,by omega,by omega,?_,i,f,oI c e l (by rw [<- f];exact h)⟩,by omega⟩;rw [j];simp [Yp,e,h]
theorem NAt.begin {s:TA} {a:Int} (G:Gd s s) (h:(WH s a).2=0):NAt s a (Yp a (aU 2000 s+1) 0 s) (aU 2000 s+1) 0 s :=
 ⟨G,by omega,by have:=Y9 G.1;omega,rfl,fx G.1 h⟩
def rR (s:TA) (e:Int) (n:Nat):(Int×(List (List Tc)×(List Job×(Int×Int))))×(Int×Int):=((s.1.1,(s.1.2,(s.2.1,(s.2.2,e)))),((n:Int),0))
theorem f7 {s:TA} (m:Sm s) (hc:VSt s->UY s.1.2.flatten<=2000) (b:Int):Vm (s,b)=some (db s b):=by
 unfold Vm db;rw [oO m,SL,Ss];by_cases e:(TE s).2=0;rotate_left
 ·rw [if_neg e,if_pos e,Ss,if_neg e]
 rw [if_pos e,if_neg (show ¬ (TE s).2≠0 by simp [e]),Sr,So];by_cases g:b<0
 ·rw [if_pos g,if_pos (.inl g)]
 by_cases j:b>=12
 ·rw [if_neg g,if_pos j,if_pos (.inr j)]
 rw [if_neg g,if_neg j,if_neg (show ¬ (b<0\/b>=12) by omega)];show bd (VC (s,b)) _=_;rw [aJ m,SL,Ss];by_cases f:(WH s b).2=0;rotate_left
 ·rw [if_neg f,if_pos f]
 rw [if_pos f,if_neg (show ¬ (WH s b).2≠0 by simp [f])];have v:=TS.1 e;have G:Gd s s:=⟨v,rfl,hc v⟩;obtain ⟨T,p⟩ : ∃ T,T=Yp b (aU 2000 s+1) 0 s:=⟨_,rfl⟩;rw [<- p];refine dO (λd => ∃ k n t,d=rR t 0 n/\NAt s b T k n t) (λr=>(r.1=0/\T=(0,r.2.1.1.2.2.2.2))\/(r.1=1/\T=r.2.1.2)) (λd=>aU 2000 ((d.1.1,d.1.2.1),(d.1.2.2.1,d.1.2.2.2.1))) ⟨_,0,s,rfl,by rw [p];exact NAt.begin G f⟩ ?_ ?_ ?_
 ·show aU 2000 s<_;have:=Y9 v;omega
 ·rintro d ⟨k,n,t,rfl,a⟩;obtain ⟨c,D,E,F,i,I,A⟩:=id a;rcases mT c with ⟨e1,e2⟩ | ⟨e1,e2,e3,e4⟩ | ⟨e1,e2,e3⟩
  ·exact absurd e1 (bC c A)
  ·refine .inr ⟨(0,(rR t (WK t) n,())),?_,.inl ⟨rfl,a.fail e2⟩⟩;show bd (UE t) _=_;rw [(YH c).1,SL,Sn,if_neg e3,Sn];rcases e4 with e4 | ⟨e4,o⟩
   ·rw [if_neg (by rw [e4];exact e2),Ss,if_neg (by rw [e4];exact e2),e4];rfl
   ·rw [if_pos e4];show bd (Tq (t,(UH t).1)) _=_;rw [(Yt c _).1,SL,Ss,if_neg (by rw [o];exact e2),o];rfl
  ·have u:Rl .i64 (n:Int) 1=((n+1:Nat):Int):=TJ (by omega)
   have q : ∀ {γ:Type} (x y:Unit->Option γ),br (NX (RR (UH t).1 b) (NX (Sv.beq (VY t (UH t).1).2.1 true) true)) x y=if YM t=(b,true) then x () else y ():=λx y=>by
    refine Je ?_ x y;unfold YM;rw [YB,beq_eq,VQ,XT,decide_eq_true_eq,Prod.mk.injEq]
   by_cases h:YM t=(b,true)
   ·refine .inr ⟨(1,(((Xq t).1.1,((Xq t).1.2,((Xq t).2.1,((Xq t).2.2,0)))),(((n+1:Nat):Int),0)),()),?_,.inr ⟨rfl,a.hit e1 h⟩⟩;show bd (UE t) _=_;rw [(YH c).1,SL,Sn,if_neg (by rw [e2];decide),Sn,if_pos e2];show bd (Tq (t,(UH t).1)) _=_;rw [(Yt c _).1,SL,Ss,if_pos e3,q,if_pos h,e3];show some (LR.dn (1,(_,(Rl .i64 (n:Int) 1,(0:Int))),()))=_;rw [u];rfl
   ·obtain ⟨C,J,z,B⟩:=a.next e1 h
    refine .inl ⟨rR (Xq t) 0 (n+1),?_,⟨C,n+1,_,rfl,z⟩,B⟩;show bd (UE t) _=_;rw [(YH c).1,SL,Sn,if_neg (by rw [e2];decide),Sn,if_pos e2];show bd (Tq (t,(UH t).1)) _=_;rw [(Yt c _).1,SL,Ss,if_pos e3,q,if_neg h,e3];show some (LR.nx (_,(Rl .i64 (n:Int) 1,(0:Int))))=_;rw [u];rfl
 ·rintro r (⟨w,l⟩ | ⟨w,l⟩)
  ·rw [dQ,if_pos w,l]
  ·rw [dQ,if_neg (by omega),l]
def oQ (s:TA) (n:Nat):Int×(Int×(Int×(Int×(List (List Tc)×(List Job×Int))))):=(0,(0,(((n+1:Nat):Int),(s.1.1,(s.1.2,s.2)))))
theorem gP {s:TA} (m:Sm s) (hc:VSt s->UY s.1.2.flatten<=2000) (b:Int):Wr (s,b)=some (db s b):=by
 unfold Wr db;rw [mg m,SL,Sn];by_cases c:(TE s).2=0;rotate_left
 ·rw [if_neg c,if_pos c,Sn,if_neg c,Ss,if_neg c]
 rw [if_pos c,if_neg (show ¬ (TE s).2≠0 by simp [c]),Sr,So];by_cases g:b<0
 ·rw [if_pos g,if_pos (.inl g)]
 by_cases l:b>=12
 ·rw [if_neg g,if_pos l,if_pos (.inr l)]
 rw [if_neg g,if_neg l,if_neg (show ¬ (b<0\/b>=12) by omega),Sn,if_pos c];show bd (To (s,b)) _=_;rw [Xk m,SL,Ss];by_cases e:(WH s b).2=0;rotate_left
 ·rw [if_neg e,if_pos e]
 rw [if_pos e,if_neg (show ¬ (WH s b).2≠0 by simp [e])];have v:=TS.1 c;have G:Gd s s:=⟨v,rfl,hc v⟩;obtain ⟨T,q⟩ : ∃ T,T=Yp b (aU 2000 s+1) 0 s:=⟨_,rfl⟩;rw [<- q];refine dO (λd => ∃ k n t,d=oQ t n/\NAt s b T k n t) (λr=>T=(r.2.1.2.1,r.2.1.1)) (λd=>aU 2000 ((d.2.2.2.1,d.2.2.2.2.1),d.2.2.2.2.2)) ⟨_,0,s,rfl,by rw [q];exact NAt.begin G e⟩ ?_ ?_ ?_
 ·show aU 2000 s<_;have:=Y9 v;omega
 ·rintro d ⟨k,n,t,rfl,a⟩;obtain ⟨j,E,F,I,i,J,w⟩:=id a;have f:=cD j;rcases mT j with ⟨e1,e2⟩ | ⟨e1,e2,e3,e4⟩ | ⟨e1,e2,e3⟩
  ·exact absurd e1 (bC j w)
  ·refine .inr ⟨(0,((WK t,(0,(oQ t n).2.2)),())),?_,a.fail e2⟩;show bd (UU t) _=_;rw [f,SL];rcases e4 with e4 | ⟨e4,o⟩
   ·rw [if_pos (by rw [e4];exact e2),Ss,if_neg (by rw [e4];exact e2),e4]
   ·rw [if_neg (by simp [e4]),Ss,if_neg (by rw [o];exact e2),o]
  ·have z:Rl .i64 ((n+1:Nat):Int) 1=((n+1+1:Nat):Int):=TJ (by omega)
   have p : ∀ {γ:Type} (x y:Option γ),(br (RR (UH t).1 b) (λ_=>br (VY t (UH t).1).2.1 (λ_=>x) λ_=>y) λ_=>y)=if YM t=(b,true) then x else y:=λx y=>by
    rw [Sn,Sx];unfold YM;by_cases C:(UH t).1=b<;>by_cases D:(VY t (UH t).1).2.1=true<;>simp [C,D]
   by_cases h:YM t=(b,true)
   ·refine .inr ⟨(0,((0,((((n+1:Nat):Int)),(oQ t n).2.2)),())),?_,a.hit e1 h⟩;show bd (UU t) _=_;rw [f,SL,if_neg (by simp [e2]),Ss,if_pos e3];refine (p _ _).trans ?_;rw [if_pos h];rfl
   ·obtain ⟨B,K,u,A⟩:=a.next e1 h
    refine .inl ⟨oQ (Xq t) (n+1),?_,⟨B,n+1,_,rfl,u⟩,A⟩;show bd (UU t) _=_;rw [f,SL,if_neg (by simp [e2]),Ss,if_pos e3];refine (p _ _).trans ?_;rw [if_neg h];show some (LR.nx (_,(_,(Rl .i64 ((n+1:Nat):Int) 1,_))))=_;rw [z];rfl
 ·intro r f;rw [f]
end
section
open Go Go.Proofs.YtfilfloanndddaaGreat.Sv
end
section
open Go Go.Proofs.YtfilfloanndddaaGreat.Sv
theorem dJ (l:List S8) (b:Bool) (m:b=false) : ∃ r,loop (β:=Nat×((Int×Bool)×Unit)) (λa=>br (SW a.1 (l.length:Int)) (λ_=>br (SW a.1 50) (λ_=>RX a.1 λn=>ix l n λi=>br (SU (MW i.1:Int) 100) (λ_=>some (.dn ((0,((a.1,true),()))))) λ_=>RX a.1 λg=>ix l g λj=>br (SU (MW j.2.1:Int) 100) (λ_=>some (.dn ((0,((a.1,true),()))))) λ_=>some (.nx (Rl .i64 a.1 1,a.2))) λ_=>some (.dn ((1,(a,()))))) λ_=>some (.dn ((1,(a,()))))) ((0:Int),b)=some r/\((r.1=1/\r.2.1.2=false)\/(r.1=0/\r.2.1.2=true)):=by
 subst m
 exact Yn (l:=l) (σ:=Unit) 50 (by omega) (λk _=>((k:Int),false)) (λ_ _=>True) (λ(r:Nat×((Int×Bool)×Unit))=>(r.1=1/\r.2.1.2=false)\/(r.1=0/\r.2.1.2=true)) () rfl trivial (λk _ h d _=>⟨_,(lm (c:=50) h d _ _ _ rfl),.inl ⟨rfl,rfl⟩⟩) (λk x _ f d _=>by
  simp only;have e:=(List.getElem?_eq_some_iff.1 f).1;rw [rl e,R5,show SW (k:Int) 50=true from dY d,R5,S9,Sb f,Sp,S9,Sb f,Sp,TJ (by omega)]
  repeat' split
  all_goals first | exact .inr ⟨_,rfl,.inr ⟨rfl,rfl⟩⟩ | exact .inl ⟨(),rfl,trivial⟩)
def oN (n:Int) (rs:List Tc):Prop:=0<=n/\n<=1000000000 /\ ∀ r∈rs,r.2.length<=5000
theorem aj {rs:List Tc} {k:Nat} (h : ∀ r∈rs,r.2.length<=5000) (d:k<=20):UY (rs.take k)<=100000:=by
 have b:=dT (l:=rs.take k) λr a=>h r (List.mem_of_mem_take a);have c:(rs.take k).length<=k:=by rw [List.length_take];omega
 omega
theorem eO {L:List (List Tc)} {i:Nat} {rs:List Tc} (hi:L[i]? = some rs) (n:Int) (b:Bool) (B:b=false) : ∃ r,loop (β:=Nat×((Int×(Int×Bool))×Unit)) (λs1=>RX (i:Int) λC=>ix L C λI=>br (SW s1.2.1 (I.length:Int)) (λ_=>br (SW s1.2.1 9) (λ_=>RX (i:Int) λD=>ix L D λJ=>RX s1.2.1 λE=>ix J E λf=>bd (loop (λa=>br (SW a.1 (f.2.length:Int)) (λ_=>br (SW a.1 50) (λ_=>RX a.1 λF=>ix f.2 F λw=>br (SU (MW w.1:Int) 100) (λ_=>some (.dn (((0:Nat),((a.1,true),()))))) λ_=>RX a.1 λt=>ix f.2 t λy=>br (SU (MW y.2.1:Int) 100) (λ_=>some (.dn ((0,((a.1,true),()))))) λ_=>some (.nx (Rl .i64 a.1 1,a.2))) λ_=>some (.dn ((1,(a,()))))) λ_=>some (.dn ((1,(a,()))))) ((0:Int),s1.2.2)) λe=>br (neq e.1 0) (λ_=>some (.dn ((1,((Rl .i64 s1.1 (f.2.length:Int),(s1.2.1,e.2.1.2)),()))))) λ_=>some (.nx ((Rl .i64 s1.1 (f.2.length:Int),(Rl .i64 s1.2.1 1,e.2.1.2))))) λ_=>some (.dn ((0,(s1,()))))) λ_=>some (.dn ((0,(s1,()))))) (n,((0:Int),b))=some r/\((r.1=0/\r.2.1.2.2=false/\(rs.length<=8->oN n rs->r.2.1.1=n+(UY rs:Int)))\/(r.1=1/\r.2.1.2.2=true)):=by
 subst B
 exact Yn (l:=rs) (σ:=Int) 9 (by omega) (λk m=>(m,((k:Int),false))) (λk m=>oN n rs->m=n+(UY (rs.take k):Int)) (λ(r:Nat×((Int×(Int×Bool))×Unit))=>(r.1=0/\r.2.1.2.2=false/\(rs.length<=8->oN n rs->r.2.1.1=n+(UY rs:Int)))\/(r.1=1/\r.2.1.2.2=true)) n rfl (λ_=>by simp [UY]) (λk m h p o=>⟨_,by
  rw [S9,Sb hi];exact (lm (c:=9) h p _ _ _ rfl),.inl ⟨rfl,rfl,λP d=>by
   have q:k=rs.length:=by omega
   subst q;have:=o d;rw [List.take_length] at this
   exact this⟩⟩) (λk x m g p o=>by
  simp only;have s:=(List.getElem?_eq_some_iff.1 g).1;obtain ⟨r,G,j⟩:=dJ x.2 false rfl;rw [S9,Sb hi,rl s,R5,show SW (k:Int) 9=true from dY p,R5,S9,Sb hi,S9,Sb g,G,SL,SM,TJ (by omega)];rcases j with ⟨j,u⟩ | ⟨j,u⟩
  ·rw [if_neg (by omega),u];refine .inl ⟨_,rfl,λd => ?_⟩;have z:=o d
   have A:UY (rs.take (k+1))=UY (rs.take k)+x.2.length:=by
    rw [List.take_add_one,g,VT];simp [UY]
   have K:=d.2.2 x (List.mem_of_getElem? g);have M:=aj (k:=k) d.2.2 (by omega);have N:=d.1;have O:=d.2.1;show Rl .i64 m (x.2.length:Int)=_;rw [R9 (by omega),z,A];omega
  ·rw [if_pos j,u];exact .inr ⟨_,rfl,.inr ⟨rfl,rfl⟩⟩)
theorem fw (s:TA) (o : ∀ rs∈s.1.2,∀ r∈rs,r.2.length<=9223372036854775807) : ∃ b,Wa s=some b/\(b=false->Sm s/\(VLev s.1->UY s.1.2.flatten<=40)):=by
 unfold Wa;simp only [TH,TF]
 obtain ⟨r,q1,u⟩:=Yn (l:=s.1.2) (σ:=Int) (s:=((0:Int),(false,(0:Int)))) 20 (by omega) (λk n=>(n,(false,(k:Int)))) (λk n=>(∀ i rs,i<k->s.1.2[i]? = some rs->rs.length<=8)/\(VLev s.1->n=(UY (s.1.2.take k).flatten:Int))) (λ(r:Nat×((Int×(Bool×Int))×Unit))=>(r.1=0/\r.2.1.2.1=false/\(∀ i rs,i<20->s.1.2[i]? = some rs->rs.length<=8)/\(VLev s.1->s.1.2.length<=15->r.2.1.1=(UY s.1.2.flatten:Int)))\/(r.1=1/\r.2.1.2.1=true))
  (f:=λs0=>br (SW s0.2.2 (s.1.2.length:Int)) (λ_=>br (SW s0.2.2 20) (λ_=>bd (loop (λs1=>RX s0.2.2 λk2=>ix s.1.2 k2 λx3=>br (SW s1.2.1 (x3.length:Int)) (λ_=>br (SW s1.2.1 9) (λ_=>RX s0.2.2 λk4=>ix s.1.2 k4 λx5=>RX s1.2.1 λk6=>ix x5 k6 λL=>bd (loop (λq=>br (SW q.1 (L.2.length:Int)) (λ_=>br (SW q.1 50) (λ_=>RX q.1 λk9=>ix L.2 k9 λx10=>br (SU (MW x10.1:Int) 100) (λ_=>some (.dn (((0:Nat),((q.1,true),()))))) λ_=>RX q.1 λX=>ix L.2 X λx12=>br (SU (MW x12.2.1:Int) 100) (λ_=>some (.dn ((0,((q.1,true),()))))) λ_=>some (.nx (Rl .i64 q.1 1,q.2))) λ_=>some (.dn ((1,(q,()))))) λ_=>some (.dn ((1,(q,()))))) ((0:Int),s1.2.2)) λF=>br (neq F.1 0) (λ_=>some (.dn (((1:Nat),((Rl .i64 s1.1 (L.2.length:Int),(s1.2.1,F.2.1.2)),()))))) λ_=>some (.nx ((Rl .i64 s1.1 (L.2.length:Int),(Rl .i64 s1.2.1 1,F.2.1.2))))) λ_=>some (.dn ((0,(s1,()))))) λ_=>some (.dn ((0,(s1,()))))) ((s0.1,((0:Int),s0.2.1)))) λp=>br (neq p.1 0) (λ_=>RX s0.2.2 λY=>ix s.1.2 Y λx16=>br (SU (x16.length:Int) 8) (λ_=>some (.dn (((1:Nat),((p.2.1.1,(true,s0.2.2)),()))))) λ_=>some (.nx ((p.2.1.1,(p.2.1.2.2,Rl .i64 s0.2.2 1))))) λ_=>some (.dn ((1,((p.2.1.1,(p.2.1.2.2,s0.2.2)),()))))) λ_=>some (.dn ((0,(s0,()))))) λ_=>some (.dn ((0,(s0,())))))
  0 rfl ⟨λi rs h=>by omega,λ_=>by simp [UY]⟩ (λk n h t I=>⟨_,(lm (c:=20) h t _ _ _ rfl),.inl ⟨rfl,rfl,λi rs hi o=>I.1 i rs (by have:=(List.getElem?_eq_some_iff.1 o).1;omega) o,λB h15=>by
   have:=I.2 B;rw [List.take_of_length_le (by omega)] at this
   exact this⟩⟩) (λk rs n o t I=>by
   simp only;have z:=(List.getElem?_eq_some_iff.1 o).1;obtain ⟨r,q1,u⟩:=eO o n false rfl;rw [rl z,R5,show SW (k:Int) 20=true from dY t,R5,q1,SL,SM,S9,Sb o,Sp,TJ (by omega)];rcases u with ⟨u,E,q4⟩ | ⟨u,E⟩
   ·rw [if_pos u];by_cases S:(rs.length:Int)>8
    ·rw [if_pos S];exact .inr ⟨_,rfl,.inr ⟨rfl,rfl⟩⟩
    ·rw [if_neg S,E];refine .inl ⟨_,rfl,λi rs' hi C => ?_,λB => ?_⟩
     ·by_cases h:i=k
      ·subst h;rw [o] at C;cases C;omega
      ·exact I.1 i rs' (by omega) C
     ·have w:=I.2 B
      have A : ∀ l:List (List Tc),(∀ rs∈l,rs∈s.1.2) -> ∀ r∈l.flatten,r.2.length<=5000:=λl hl r U=>by
       obtain ⟨rs1,h3,h4⟩:=List.mem_flatten.1 U;obtain ⟨i,hi⟩:=List.getElem?_of_mem (hl rs1 h3);have N:r∈TG s.1.2 i:=by unfold TG;rw [hi];exact h4
       exact ((B.own i).2 r N).vl.len
      have M:UY (s.1.2.take (k+1)).flatten=UY (s.1.2.take k).flatten+UY rs:=by
       rw [List.take_add_one,o,List.flatten_append,VT];simp
      have h3:=aj (k:=20) (rs:=(s.1.2.take k).flatten) (A _ λrs h=>List.mem_of_mem_take h)
      have h4:(s.1.2.take k).flatten.length<=1000:=by
       have N : ∀ l:List (List Tc),(∀ rs∈l,rs.length<=2)->l.flatten.length<=2*l.length:=by
        intro l
        induction l with
        | nil=>intro _;simp
        | cons x l ih =>
         intro h;have h6:=h x (by simp);have h7:=ih λy C=>h y (by simp [C]);simp only [List.flatten_cons,List.length_append,List.length_cons];omega
       have:=N (s.1.2.take k) λrs h=>B.two rs (List.mem_of_mem_take h);have S:(s.1.2.take k).length<=20:=by simp;omega
       omega
      have N:=dT (A (s.1.2.take k) λrs h=>List.mem_of_mem_take h);have h6:oN n rs:=⟨by omega,by omega,λr U=>A [rs] (λx W=>by rw [List.mem_singleton.1 W];exact List.mem_of_getElem? o) r (by simpa using U)⟩;show r.2.1.1=_;rw [q4 (by omega) h6,w,M];omega
   ·rw [if_neg (by omega),E];exact .inr ⟨_,rfl,.inr ⟨rfl,rfl⟩⟩)
 refine (λh=>h) ?_;have P : ∀ {K:(Nat×((Int×(Bool×Int))×Unit))->Option Bool},(∃ b,K r=some b/\(b=false->Sm s/\(VLev s.1->UY s.1.2.flatten<=40))) -> ∀ {m:Option (Nat×((Int×(Bool×Int))×Unit))},m=some r -> ∃ b,bd m K=some b/\(b=false->Sm s/\(VLev s.1->UY s.1.2.flatten<=40)):=λh _ e=>by subst e;exact h
 refine P ?_ q1;rw [SM];rcases u with ⟨u,E,q4,q5⟩ | ⟨u,E⟩
 rotate_left
 ·rw [if_neg (by omega),E];exact ⟨_,rfl,λh=>by cases h⟩
 rw [if_pos u,E]
 obtain ⟨r2,p1,O⟩:=Yn (l:=s.2.1) (σ:=Unit) (s:=(false,(0:Int))) 20 (by omega) (λk _=>(false,(k:Int))) (λ_ _=>True) (λ(r:Nat×((Bool×Int)×Unit))=>r.1=1\/(r.1=0/\r.2.1.1=true))
  (f:=λa=>br (SW a.2 (s.2.1.length:Int)) (λ_=>br (SW a.2 20) (λ_=>RX a.2 λZ=>ix s.2.1 Z λg=>br (SU (g.2.1.1.length:Int) 20) (λ_=>some (.dn ((0,((true,a.2),()))))) λ_=>br (SU (g.2.1.2.1.length:Int) 100) (λ_=>some (.dn ((0,((true,a.2),()))))) λ_=>br (SU (g.2.1.2.2.1.length:Int) 100) (λ_=>some (.dn ((0,((true,a.2),()))))) λ_=>br (SU (g.2.1.2.2.2.1.length:Int) 100) (λ_=>some (.dn ((0,((true,a.2),()))))) λ_=>bd (loop (λd=>br (SW d.1 (g.2.1.1.length:Int)) (λ_=>RX d.1 λD=>ix g.2.1.1 D λG=>some (.nx ((Rl .i64 d.1 1,Rl .i64 d.2 (G.length:Int))))) λ_=>some (.dn (((0:Nat),(d,()))))) (((0:Int),(g.2.2.2.1.length:Int)))) λr24=>br (SU r24.2.1.2 200) (λ_=>some (.dn ((0,((true,a.2),()))))) λ_=>some (.nx (a.1,Rl .i64 a.2 1))) λ_=>some (.dn ((1,(a,()))))) λ_=>some (.dn ((1,(a,())))))
  () rfl trivial (λk _ h t _=>⟨_,(lm (c:=20) h t _ _ _ rfl),.inl rfl⟩) (λk j _ o t _=>by
   simp only;have z:=(List.getElem?_eq_some_iff.1 o).1;rw [rl z,R5,show SW (k:Int) 20=true from dY t,R5,S9,Sb o,Sp];by_cases w:(j.2.1.1.length:Int)>20
   ·rw [if_pos w];exact .inr ⟨_,rfl,.inr ⟨rfl,rfl⟩⟩
   rw [if_neg w]
   obtain ⟨r3,t1,_⟩:=WX (l:=j.2.1.1) (σ:=Int) (s:=((0:Int),(j.2.2.2.1.length:Int))) (λk n=>((k:Int),n)) (λ_ _ _=>True) (λ(_:Nat×((Int×Int)×Unit))=>True)
    (f:=λd=>br (SW d.1 (j.2.1.1.length:Int)) (λ_=>RX d.1 λD=>ix j.2.1.1 D λG=>some (.nx ((Rl .i64 d.1 1,Rl .i64 d.2 (G.length:Int))))) λ_=>some (.dn (((0:Nat),(d,())))))
    (j.2.2.2.1.length:Int) rfl (by omega) trivial (λn _=>⟨_,by rw [re];rfl,trivial⟩) (λk y m n hd C t _ => .inl ⟨Rl .i64 n (y.length:Int),by rw [rl t,R5,S9,Sb C,TJ (by omega)],trivial⟩)
   rw [t1,SL,Sp,Sp,Sp,Sp,TJ (by omega)]
   repeat' split
   all_goals first | exact .inr ⟨_,rfl,.inr ⟨rfl,rfl⟩⟩ | exact .inl ⟨(),rfl,trivial⟩)
 rw [p1,SL,SM];rcases O with O | ⟨O,p3⟩
 rotate_left
 ·rw [if_pos O,p3];exact ⟨_,rfl,λh=>by cases h⟩
 rw [if_neg (by omega),Sp,Sp];by_cases w:r.2.1.1>40
 ·rw [if_pos w];exact ⟨_,rfl,λh=>by cases h⟩
 rw [if_neg w];by_cases M:(s.1.2.length:Int)>15
 ·rw [if_pos M];exact ⟨_,rfl,λh=>by cases h⟩
 rw [if_neg M];refine ⟨_,rfl,λh=>⟨⟨by omega,λrs J=>⟨?_,o rs J⟩,?_⟩,λB=>by have:=q5 B (by omega);omega⟩⟩
 ·obtain ⟨i,hi⟩:=List.getElem?_of_mem J;have:=q4 i rs (by have:=(List.getElem?_eq_some_iff.1 hi).1;omega) hi;omega
 ·unfold SU at h;simp at h;omega
end
section
open Go Go.Proofs.YtfilfloanndddaaGreat.Sv
set_option maxRecDepth 1000000
theorem dN:WM ()=some true:=by kernel_rfl
theorem mc {s:TA} (f : ∀ rs∈s.1.2,∀ r∈rs,r.2.length<=9223372036854775807) {K:Bool->Option Bool} (c:K true=some true) (d:Sm s->(VSt s->UY s.1.2.flatten<=40)->K false=some true):bd (Wa s) K=some true:=by
 obtain ⟨b,e,a⟩:=fw s f;rw [e,SL];cases b with
 | true=>exact c
 | false=>exact d (a rfl).1 λv=>(a rfl).2 v.lev
theorem m7 {s:TA} (h:VSt s->UY s.1.2.flatten<=40):VSt s->UY s.1.2.flatten<=2000:=λv=>by have:=h v;omega
theorem grantsNeeds {x:TA×Int} (a : ∀ rs∈x.1.1.2,∀ r∈rs,r.2.length<=9223372036854775807):Uu x=some true:=by
 obtain ⟨s,g⟩:=x;unfold Uu;refine mc a ?_ λm hc => ?_
 ·rw [R5,dN];rfl
 have hc:=m7 hc;rw [Rd,f7 m hc,SL,gP m hc,SL,Sn,if_pos rfl,Sn,if_pos rfl,dN];rfl
end
section
open Go Go.Proofs.YtfilfloanndddaaGreat.Sv
end
section
open Go Go.Proofs.YtfilfloanndddaaGreat.Sv
end
section
open Go Go.Proofs.YtfilfloanndddaaGreat.Sv
end
section
open Go Go.Proofs.YtfilfloanndddaaGreat.Sv
set_option maxRecDepth 100000
end
section
open Go Go.Proofs.YtfilfloanndddaaGreat.Sv
set_option maxRecDepth 100000
end
section
open Go Go.Proofs.YtfilfloanndddaaGreat.Sv
@[reducible] def tE:Ty:=.pair .str (.pair .str (.pair .bool (.int .i64)))
@[reducible] def rp:Ty:=.pair (.pair (.int .i64) (.sl true (.sl true (.pair (.int .i64) (.sl true tE))))) (.pair (.sl true (.pair (.int .i64) (.pair (.pair (.sl false (.sl true tE)) (.pair (.sl false (.int .i64)) (.pair (.sl true (.pair .str .bool)) (.pair (.sl false (.int .i64)) (.int .i64))))) (.pair (.pair .bool (.pair .str .bool)) (.pair (.sl true tE) (.int .i64)))))) (.int .i64))
theorem oG {s:TA} (h:Qk rp s) : ∀ rs∈s.1.2,∀ r∈rs,r.2.length<=9223372036854775807:=by
 obtain ⟨⟨_,d,c⟩,_⟩:=h;exact λrs b r a=>((c rs b).2 r a).2.1
theorem gI {x:TA×Int} (h:Ql [(true,rp),(false,.int .i64)] x):Uu x=some true:=grantsNeeds (oG h.1)
end
end Go.Proofs.YtfilfloanndddaaGreat.Pl
