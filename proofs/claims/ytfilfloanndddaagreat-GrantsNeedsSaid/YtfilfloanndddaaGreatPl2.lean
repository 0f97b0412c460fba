/- Functions of the program and of the specification as plain functions, and laws about them. No condition. -/
import Derived.Test.YtfilfloanndddaaGreatPl1
import Derived.KernelRfl
set_option linter.all false
namespace Go.Proofs.YtfilfloanndddaaGreat.Pl
section
open Go Go.Proofs.YtfilfloanndddaaGreat.Sv
def zS:TA:=((0,[]),([],0))
def UP (j:Job):List S8:=j.2.2.2.1
def Xm (s:TA) (j:Job):Nat:=if Vg s.1 j=true then j.1.toNat else j.1.toNat+1
def VS (s:TA) (j:Job):TB:=if UP j=[] then UQ s.1 j.1.toNat [] else UQ (UQ s.1 j.1.toNat []) (Xm s j) (TG (UQ s.1 j.1.toNat []).2 (Xm s j)++[(s.2.2,UP j)])
def XY (s:TA) (j:Job):Int:=if UP j=[] then s.2.2 else s.2.2+1
def YO (s:TA) (j:Job):TA×Int :=
 if 0<TZ s.1 j\/Vq s.1 j=false then (zS,9) else if s.2.2>1000000/\UP j≠[] then (zS,5) else (YA s (VS s j) (XY s j) j.1,0)
theorem Zy : ∀ (ls:List (List Tc)) (i:Nat),(TI i ls).Nodup /\ ∀ d∈TI i ls,(i:Int)<=d
 | [],_=>⟨.nil,λ_ h=>by cases h⟩
 | rs::ls,i=>by
  obtain ⟨b,a⟩:=Zy ls (i+1);rw [Xo];by_cases h:rs.length=2
  ·rw [if_pos h];refine ⟨List.nodup_cons.2 ⟨λc => ?_,b⟩,λd hd => ?_⟩
   ·have:=a _ c;omega
   ·rcases List.mem_cons.1 hd with e | hd
    ·omega
    ·have:=a d hd;omega
  ·rw [if_neg h];exact ⟨b,λd hd=>by have:=a d hd;omega⟩
theorem VSt.nodup {s:TA} (v:VSt s):(s.2.1.map (·.1)).Nodup:=by rw [v.due];exact (Zy _ _).1
theorem JobAt.out {L:TB} {n:Nat} {j:Job} (h:JobAt L n j) (v:VLev L) (hs:(∀ r∈TG L.2 n,r.2.length<=2000)):VL (UP j)/\((UP j).length:Int)<=2*UV L.1 n/\j.1=(n:Int)/\n<12/\TG L.2 n≠[]:=by
 obtain ⟨a,b,d,k,e,rfl,i,_,l,m⟩:=h;have c:TG L.2 n=[a,b]:=by unfold TG;rw [e];rfl
 have s:=hs a (by rw [c];simp);have t:=hs b (by rw [c];simp);have u:=((v.own n).2 a (by rw [c];simp)).le;have w:=((v.own n).2 b (by rw [c];simp)).le;obtain ⟨f,g⟩:=gL m l d i (by omega);have p:=(List.getElem?_eq_some_iff.1 e).1;have q:=v.len;refine ⟨f,?_,rfl,by omega,by rw [c];simp⟩
 have o:((UP ((n:Int),U7 b.2 a.2 d k)).length:Int)<=(b.2.length:Int)+(a.2.length:Int):=by
  have:(UP ((n:Int),U7 b.2 a.2 d k)).length<=b.2.length+a.2.length:=g;omega
 omega
def fi (L:TB):Prop := ∀ i,∀ r∈TG L.2 i,r.2.length<=2000
structure InstF (s:TA) (n:Nat) (j:Job):Prop where
 l1:VLev (UQ s.1 n [])
 to12:UP j≠[]->Xm s j<12
 vr:UP j≠[]->VR (UV s.1.1 (Xm s j)) (s.2.2,UP j)
 id : ∀ y∈(UQ s.1 n []).2.flatten,y.1≠s.2.2
 room:UP j≠[]->(TG (UQ s.1 n []).2 (Xm s j)).length<2
 lev:VLev (VS s j)
theorem dZ {s:TA} (v:VSt s) (A:fi s.1) {n:Nat} {j:Job} (z:JobAt s.1 n j) (G : ¬ 0<TZ s.1 j) (hc:Vq s.1 j=true) (x:UP j≠[]->s.2.2<=1000000):InstF s n j:=by
 obtain ⟨C,D,E,t,I⟩:=z.out v.lev (A n);have a:=v.lev.leave (n:=n) t;have e:j.1.toNat=n:=by rw [E];simp
 have b:Vg s.1 j≠true->n+1<12/\(TG s.1.2 (n+1)).length<2:=λhs=>by
  unfold Vq at hc;rw [show decide (0<TZ s.1 j)=false by simp;omega,e] at hc;cases o:Vg s.1 j with
  | true=>exact absurd o hs
  | false =>
   rw [o] at hc;simpa [YQ,TG] using hc
 have d : ∀ y∈(UQ s.1 n []).2.flatten,y.1≠s.2.2:=λy r=>by
  obtain ⟨p,q,i,k⟩:=XK s.1 n [];rw [k,List.nil_append] at r
  have B:y∈s.1.2.flatten:=by
   rw [i];rcases List.mem_append.1 r with h | h
   ·exact List.mem_append_left _ h
   ·exact List.mem_append_right _ (List.mem_append_right _ h)
  have:=Yj B;have:=v.n3;omega
 have m:Xm s j<12/\(TG (UQ s.1 n []).2 (Xm s j)).length<2/\((UP j).length:Int)<=UV s.1.1 (Xm s j):=by
  unfold Xm;by_cases hs:Vg s.1 j=true
  ·rw [if_pos hs,e];refine ⟨t,by rw [Wb,if_pos rfl];simp,?_⟩;have c:=hs;unfold Vg at c;rw [e] at c;exact of_decide_eq_true c
  ·rw [if_neg hs,e];obtain ⟨i,k⟩:=b hs;refine ⟨i,by rw [Wb,if_neg (by omega)];exact k,?_⟩;rw [aA];exact D
 obtain ⟨u,w,F⟩:=m;have g:UP j≠[]->VR (UV s.1.1 (Xm s j)) (s.2.2,UP j):=λf=>⟨v.n1,x f,C,f,F⟩;refine ⟨a,λ_=>u,g,d,λ_=>w,?_⟩;unfold VS;rw [e];by_cases l:UP j=[]
 ·rw [if_pos l];exact a
 ·rw [if_neg l];exact a.arrive u w (g l) d
theorem Zz {s:TA} (v:VSt s) (u:fi s.1) {n:Nat} {j:Job} (t:JobAt s.1 n j) (w : ¬ 0<TZ s.1 j) (hc:Vq s.1 j=true) (y:UP j≠[]->s.2.2<=1000000) (l:Int) :
  (bd (U3 (s.1,(n:Int))) λd=>br (RR d.2.2 0) (λ_=>br (SU (Kb (AS j.2.2.2.1)) 0) (λ_=>bd (Th (s,(j,l))) λK=>br (Hf K) (λ_=>bd (Tp ((d.1,(Rl .i64 (n:Int) 1,(s.2.2,j.2.2.2.1))))) λm=>br (RT m.2 0) (λ_=>some ((((0,[]),([],0)),m.2))) λ_=>bd (Ta ((s,(m.1,(Rl .i64 s.2.2 1,(n:Int)))))) λL=>some L) λ_=>bd (Tp ((d.1,((n:Int),(s.2.2,j.2.2.2.1))))) λo=>br (RT o.2 0) (λ_=>some ((((0,[]),([],0)),o.2))) λ_=>bd (Ta ((s,(o.1,(Rl .i64 s.2.2 1,(n:Int)))))) λM=>some M) λ_=>br (RT d.2.2 0) (λ_=>some ((((0,[]),([],0)),d.2.2))) λ_=>bd (Ta ((s,(d.1,(s.2.2,(n:Int)))))) λN=>some N) λ_=>br (RT d.2.2 0) (λ_=>some ((((0,[]),([],0)),d.2.2))) λ_=>bd (Ta ((s,(d.1,(s.2.2,(n:Int)))))) λk=>some k)
  = some (YA s (VS s j) (XY s j) j.1,0):=by
 have F:=dZ v u t w hc y;obtain ⟨G,O,g,I,J⟩:=t.out v.lev (u n);have i:j.1.toNat=n:=by rw [g];simp
 have D:=v.n2;have C:=v.n1;have A:=v.jsmall;have a:=F.lev;rw [bp v.lev J,SL];show (br (RR 0 0) _ _)=_;rw [Sn,if_pos rfl,TH,TF,Sp];by_cases b:UP j=[]
 ·rw [if_neg (show ¬ ((j.2.2.2.1.length:Int)>0) by rw [show j.2.2.2.1=[] from b];simp),Ss,if_pos rfl];unfold VS at a ⊢;rw [if_pos b,i] at a;rw [if_pos b,i,ZD v.nodup (by omega) a,SL];unfold XY;rw [if_pos b,g]
 ·rw [if_pos (show ((j.2.2.2.1.length:Int)>0) by have:=List.length_pos_iff.2 b;have h:(UP j).length=j.2.2.2.1.length:=rfl;omega),Zo v.lev g I,SL,Tl];have E:(UP j).length<=1048576:=by have:=G.len;omega
  have B:kR [] (UV (UQ s.1 n []).1 (Xm s j)) (s.2.2,UP j)=0:=gB.2 ⟨F.vr b,by simp⟩;have f:=bB F.l1 (F.to12 b) (x:=(s.2.2,UP j)) E F.id (F.room b);rw [if_neg (by simp [B])] at f
  have z:VS s j=UQ (UQ s.1 n []) (Xm s j) (TG (UQ s.1 n []).2 (Xm s j)++[(s.2.2,UP j)]):=by
   unfold VS;rw [if_neg b,i]
  have q:XY s j=s.2.2+1:=by unfold XY;rw [if_neg b]
  rw [<- z] at f;have p:Rl .i64 s.2.2 1=s.2.2+1:=R9 (by omega);have r:=ZD v.nodup (by omega) a (s.2.2+1) (n:Int);rw [Sx];have c:Xm s j=if Vg s.1 j=true then n else n+1:=by unfold Xm;rw [i]
  by_cases hs:Vg s.1 j=true
  ·rw [if_pos hs] at c ⊢;rw [c] at f;have e:Tp (UQ s.1 n [],((n:Int),(s.2.2,j.2.2.2.1)))=some (VS s j,0):=f;rw [e,SL,Ss,if_pos rfl,p,r,SL,q,g]
  ·rw [if_neg hs] at c ⊢;rw [c] at f;rw [TJ (by omega)];have e:Tp (UQ s.1 n [],(((n+1:Nat):Int),(s.2.2,j.2.2.2.1)))=some (VS s j,0):=f;rw [e,SL,Ss,if_pos rfl,p,r,SL,q,g]
theorem bX {s:TA} (m:Sm s) (k:fi s.1) (a:Int):VB (s,a)=some (Wc zS YO s a):=by
 unfold VB;rw [ae m,SL];unfold Wc;by_cases b:(TE s).2=0;rotate_left
 ·rw [if_pos b,Ss,if_neg b,if_pos b];rfl
 rw [if_neg (show ¬ (TE s).2≠0 by simp [b]),if_neg (show ¬ (TE s).2≠0 by simp [b])];have v:=TS.1 b;unfold Zr;cases p:Ye a 0 (TI 0 s.1.2) with
 | none=>rfl
 | some i =>
  obtain ⟨j,n,l,o,f,g,q⟩:=v.at p;have:=v.lev.len;subst o;simp only [l];unfold TX YO;rw [Ss,if_pos rfl,SL,Sp];by_cases e:0<TZ s.1 j
  ·rw [if_pos (show ((TZ s.1 j:Int))>0 by omega),if_pos (.inl e)];rfl
  rw [if_neg (show ¬ ((TZ s.1 j:Int))>0 by omega),aF v.lev f (by omega) _ rfl,SL,Tl,Sx];by_cases hc:Vq s.1 j=true;rotate_left
  ·rw [if_neg hc,if_pos (.inr (by simpa using hc))];rfl
  rw [if_pos hc,if_neg (show ¬ (0<TZ s.1 j\/Vq s.1 j=false) by rw [hc];simp;omega),Sp];by_cases d:s.2.2>1000000
  ·rw [if_pos d,TH,TF,Sp];by_cases c:UP j=[]
   ·rw [if_neg (show ¬ ((j.2.2.2.1.length:Int)>0) by rw [show j.2.2.2.1=[] from c];simp),if_neg (by simp [c])];exact Zz v k g e hc (λh=>absurd c h) _
   ·rw [if_pos (show ((j.2.2.2.1.length:Int)>0) by have:=List.length_pos_iff.2 c;have h:(UP j).length=j.2.2.2.1.length:=rfl;omega),if_pos ⟨d,c⟩];rfl
  ·rw [if_neg d,if_neg (by simp [d])];exact Zz v k g e hc (λh=>by omega) _
end
section
open Go Go.Proofs.YtfilfloanndddaaGreat.Sv
def Xy (L:TB) (j:Job):XH:=match TG L.2 j.1.toNat with
 | [r0,r1]=>U7 r1.2 r0.2 j.2.2.1.2.2 (j.2.2.2.2.toNat+1)
 | _=>j.2
def Yq (s:TA) (j:Job):TA:=(s.1,(lset s.2.1 ((Ye j.1 0 (TI 0 s.1.2)).getD 0) (j.1,Xy s.1 j),s.2.2))
theorem gS {s:TA} (m:Sm s) (v:VSt s) {a:Int} {i:Nat} (h:Ye a 0 (TI 0 s.1.2)=some i) {j:Job} (e:s.2.1[i]? = some j) (t:0<TZ s.1 j):XE (s,(a,1))=some (Yq s j,(1,0)):=by
 obtain ⟨j',n,f,y,u,q,D⟩:=v.at h;rw [e] at f;cases f;subst y;have r:(TE s).2=0:=TS.2 v
 have l:WH s (n:Int)=((i:Int),0):=by
  unfold WH;rw [if_neg (show ¬ (TE s).2≠0 by simp [r]),h]
 have w:=v.jsmall;have hi:=(List.getElem?_eq_some_iff.1 e).1;unfold XE;rw [oO m,SL,Ss,if_pos r,Sr,if_neg (show ¬ ((1:Int)<0) by omega),aJ m,SL,l,Ss,if_pos rfl,S9,Sb e,(JobAt.left q).1,SL,Sn,if_neg (show ¬ ((TZ s.1 j:Int)=0) by omega),S9,Sb e];obtain ⟨b,c,d,k,p,rfl,x,C,A,B⟩:=q;have z:TG s.1.2 n=[b,c]:=by unfold TG;rw [p];rfl
 have o:TZ s.1 ((n:Int),U7 c.2 b.2 d k)=c.2.length+b.2.length-k:=by
  unfold TZ;simp only [Int.toNat_natCast,p];show c.2.length+b.2.length-((k:Int)).toNat=_;rw [Int.toNat_natCast]
 rw [o] at t;have g:=aB B A d x (k:=1);rw [show min 1 (c.2.length+b.2.length-k)=1 by omega] at g;show (bd (UN (U7 c.2 b.2 d k,((1:Nat):Int))) λE=>_)=_;rw [g,SL];simp only;rw [Ss,if_pos rfl];unfold Ts;rw [UC (by simp only [AS];omega),SL,S9,SR,if_pos (by simp only [AS];exact hi),Sb e];unfold Yq Xy;simp only [Int.toNat_natCast,z,h,Option.getD_some];have e1:(U7 c.2 b.2 d k).2.1.2.2=d:=ZO _ _ _ _;have e2:(U7 c.2 b.2 d k).2.2.2.toNat=k:=by show ((k:Int)).toNat=k;rw [Int.toNat_natCast]
 rw [e1,e2];rfl
def XX (s:TA) (j:Job):TA×(Bool×Int):=if Vq s.1 j=false then (zS,(false,9)) else if 0<TZ s.1 j then (Yq s j,(false,0)) else ((YO s j).1,(RR (YO s j).2 0,(YO s j).2))
def VY (s:TA) (a:Int):TA×(Bool×Int):=if (TE s).2≠0 then (zS,(false,(TE s).2)) else match Zr s a with
 | some j=>XX s j
 | none=>(zS,(false,4))
theorem aD {s:TA} (m:Sm s) (g:fi s.1) (a:Int):Tq (s,a)=some (VY s a):=by
 unfold Tq;rw [ae m,SL,bX m g];unfold Wc VY;by_cases b:(TE s).2=0;rotate_left
 ·rw [if_pos b,Ss,if_neg b,if_pos b];rfl
 rw [if_neg (show ¬ (TE s).2≠0 by simp [b]),if_neg (show ¬ (TE s).2≠0 by simp [b]),if_neg (show ¬ (TE s).2≠0 by simp [b])];have v:=TS.1 b;unfold Zr;cases f:Ye a 0 (TI 0 s.1.2) with
 | none=>rfl
 | some i =>
  obtain ⟨j,n,e,k,d,h,l⟩:=v.at f;have:=v.lev.len;simp only [e];unfold XX TX;rw [Ss,if_pos rfl,aF v.lev d (by omega) _ rfl,SL,Tl,Sx];cases hc:Vq s.1 j with
  | false=>rw [if_neg (by simp),if_pos rfl];rfl
  | true =>
   rw [if_pos rfl,if_neg (by simp),SL,Sp];by_cases c:0<TZ s.1 j
   ·rw [if_pos (show ((TZ s.1 j:Int))>0 by omega),if_pos c,gS m v f e c];rfl
   ·rw [if_neg (show ¬ ((TZ s.1 j:Int))>0 by omega),if_neg c];rfl
end
section
open Go Go.Proofs.YtfilfloanndddaaGreat.Sv
theorem ZK {ls:List (List Tc)} {d:Int} (h:d∈TI 0 ls) : ∃ (n:Nat) (a b:Tc),d=(n:Int)/\ls[n]? = some [a,b]:=by
 obtain ⟨k,f⟩:=List.getElem?_of_mem h;obtain ⟨n,c,a,b,e⟩:=XJ f;exact ⟨n,a,b,by rw [c,Nat.zero_add],e⟩
theorem aw {l:List (List Tc)} {n:Int} (i:0<n) (h : ∀ x∈l.flatten,x.1<n):WF l<n:=by
 have f : ∀ (rs:List Tc) (m:Int),m<n->(∀ x∈rs,x.1<n)->rs.foldl (λm r=>S0 m r.1) m<n:=by
  intro rs
  induction rs with
  | nil=>intro m b _;exact b
  | cons r rs e =>
   intro m b c;rw [List.foldl_cons];refine e _ ?_ λx d=>c x (by simp [d]);rw [Wt];have:=c r (by simp);omega
 have two : ∀ (ls:List (List Tc)) (m:Int),m<n->(∀ rs∈ls,∀ x∈rs,x.1<n)->ls.foldl (λm rs=>rs.foldl (λm r=>S0 m r.1) m) m<n:=by
  intro ls
  induction ls with
  | nil=>intro m b _;exact b
  | cons rs ls e =>
   intro m b c;rw [List.foldl_cons];exact e _ (f rs m b (c rs (by simp))) λg a=>c g (by simp [a])
 exact two l 0 i λrs a x d=>h x (List.mem_flatten.2 ⟨rs,a,d⟩)
theorem lu {l:List (List Tc)} (e:l.getLast? ≠ some []) {n:Nat} (a:TG l n≠[]) (b : ∀ i,n<i->TG l i=[]):l.length=n+1:=by
 have f:n<l.length:=by
  by_cases h:n<l.length
  ·exact h
  ·unfold TG at a;rw [List.getElem?_eq_none (by omega)] at a;exact absurd rfl a
 by_cases c:l.length=n+1
 ·exact c
 ·exfalso;have d:=b (l.length-1) (by omega);refine e ?_;rw [List.getLast?_eq_getElem?,Vt (by omega),d]
theorem bj {js:List Job} {d:Int} {j:Job} (h:UL js d=some j):j∈js/\j.1=d:=by
 unfold UL at h;have a:=List.find?_some h;unfold aO at a;rw [VQ] at a;exact ⟨List.mem_of_find?_eq_some h,(of_decide_eq_true a).symm⟩
theorem fo {L:TB} (v:VLev L) {n:Nat} {b c:Tc} (h:L.2[n]? = some [b,c]):JobAt L n (WI L (n:Int)):=by
 have a:TG L.2 n=[b,c]:=by unfold TG;rw [h];rfl
 refine ⟨b,c,decide ((n:Int)=(L.2.length:Int)-1),0,h,?_,Nat.zero_le _,λd => ?_,VR.vl' v (n:=n) (by rw [a];simp),VR.vl' v (n:=n) (by rw [a];simp)⟩
 ·unfold WI;rw [Int.toNat_natCast,a]
 ·have:=of_decide_eq_true d;have:=(List.getElem?_eq_some_iff.1 h).1;omega
theorem lZ {s:TA} (v:VSt s) {L:TB} (u:VLev L) {next a:Int} (F:1<=next) (G:next<=1000001) (I : ∀ x∈L.2.flatten,x.1<next)
  (J : ∀ (n:Nat) (g h:Tc),s.1.2[n]? = some [g,h]->(n:Int)≠a->(∃ q r,L.2[n]? = some [q,r])->L.2[n]? = some [g,h]/\(n+1=s.1.2.length->n+1=L.2.length)):VSt (YA s L next a):=by
 have b : ∀ d∈TI 0 L.2,(WV s L a d).1=d /\ ∃ n,JobAt L n (WV s L a d):=λd c=>by
  obtain ⟨n,q,r,rfl,t⟩:=ZK c;unfold WV;cases l:(if (n:Int)=a then none else UL s.2.1 (n:Int)) with
  | none =>
   rw [Option.getD_none];have i:=fo u t;refine ⟨?_,n,i⟩;obtain ⟨_,_,_,_,_,e,_⟩:=i;rw [e]
  | some j =>
   rw [Option.getD_some];by_cases o:(n:Int)=a
   ·rw [if_pos o] at l;cases l
   rw [if_neg o] at l;obtain ⟨p,f⟩:=bj l;refine ⟨f,n,?_⟩;obtain ⟨m,g,h,E,k,w,rfl,y,z,A,B⟩:=v.job j p;have K:m=n:=by have:(m:Int)=(n:Int):=f;omega
   subst K;obtain ⟨C,D⟩:=J m g h w o ⟨q,r,t⟩;exact ⟨g,h,E,k,C,rfl,y,λi=>D (z i),A,B⟩
 refine ⟨u,F,G,aw (by show 0<next;omega) I,?_,λj p => ?_⟩
 ·show ((TI 0 L.2).map (WV s L a)).map (·.1)=TI 0 L.2;rw [List.map_map]
  conv=>rhs;rw [<- List.map_id (TI 0 L.2)]
  exact List.map_congr_left λd c=>(b d c).1
 ·obtain ⟨d,c,rfl⟩:=List.mem_map.1 p;exact (b d c).2
theorem XI {l:List (List Tc)} {n:Nat} {b c:Tc}:l[n]? = some [b,c]<->TG l n=[b,c]:=by
 unfold TG;constructor
 ·intro h;rw [h];rfl
 ·intro h;cases a:l[n]? with
  | none=>rw [a] at h;cases h
  | some rs=>rw [a] at h;exact congrArg some h
theorem Vl {s:TA} {j:Job} {n:Nat} (b:j.1.toNat=n) (i:Nat):TG (VS s j).2 i=if UP j≠[]/\i=Xm s j then (if i=n then [] else TG s.1.2 i)++[(s.2.2,UP j)] else if i=n then [] else TG s.1.2 i:=by
 unfold VS;rw [b];by_cases a:UP j=[]
 ·rw [if_pos a,if_neg (by simp [a]),Wb]
 ·rw [if_neg a,Wb];by_cases hi:i=Xm s j
  ·rw [if_pos hi,if_pos ⟨a,hi⟩,Wb,<- hi]
  ·rw [if_neg hi,if_neg (by simp [hi]),Wb]
theorem f8 {s:TA} (v:VSt s) (u:fi s.1) {n:Nat} {j:Job} (t:JobAt s.1 n j) (B : ¬ 0<TZ s.1 j) (hc:Vq s.1 j=true) (r:UP j≠[]->s.2.2<=1000000):VSt (YA s (VS s j) (XY s j) j.1):=by
 have F:=dZ v u t B hc r;obtain ⟨O,P,w,S,q⟩:=t.out v.lev (u n);have l:j.1.toNat=n:=by rw [w];simp
 have E:=v.n1;have G:=v.n2
 have k:s.2.2<=XY s j/\XY s j<=1000001/\(UP j≠[]->s.2.2<XY s j):=by
  unfold XY;by_cases d:UP j=[]
  ·rw [if_pos d];exact ⟨by omega,by omega,λh=>absurd d h⟩
  ·rw [if_neg d];have:=r d;exact ⟨by omega,by omega,λ_=>by omega⟩
 refine lZ v F.lev (by omega) k.2.1 (λx L => ?_) (λm z A D C N => ?_)
 ·obtain ⟨i,hi⟩:=Zb.1 L;rw [Vl l] at hi
  have b : ∀ {y:Tc},y∈(if i=n then [] else TG s.1.2 i)->y.1<XY s j:=fun {y} o=>by
   by_cases a:i=n
   ·rw [if_pos a] at o;cases o
   ·rw [if_neg a] at o;have:=Yj (Zb.2 ⟨i,o⟩);have:=v.n3;omega
  split at hi
  ·rename_i hh;rcases List.mem_append.1 hi with hi | hi
   ·exact b hi
   ·rw [List.mem_singleton.1 hi];exact k.2.2 hh.1
  ·exact b hi
 ·have f:m≠n:=λe=>C (by rw [w,e]);have g:TG s.1.2 m=[z,A]:=XI.1 D
  have p : ¬ (UP j≠[]/\m=Xm s j):=λ⟨d,J⟩=>by
   have:=F.room d;rw [Wb,<- J,if_neg f,g] at this;simp at this
  have c:TG (VS s j).2 m=[z,A]:=by rw [Vl l,if_neg p,if_neg f,g]
  refine ⟨XI.2 c,λM=>(lu F.lev.last (by rw [c];simp) λi hi => ?_).symm⟩;have a:TG s.1.2 i=[]:=by unfold TG;rw [List.getElem?_eq_none (by omega)];rfl
  have I:n<s.1.2.length:=by
   by_cases h:n<s.1.2.length
   ·exact h
   ·unfold TG at q;rw [List.getElem?_eq_none (by omega)] at q;exact absurd rfl q
  have K:Xm s j<=n+1:=by unfold Xm;rw [l];split<;>omega
  rw [Vl l,if_neg (by rintro ⟨_,h⟩;omega),a];split<;>rfl
theorem Job.steps {L:TB} {n:Nat} {j:Job} (f:JobAt L n j) (h:0<TZ L j):JobAt L n (j.1,Xy L j):=by
 obtain ⟨a,b,c,k,d,rfl,o,g,l,m⟩:=f;have i:=XI.1 d
 have e:TZ L ((n:Int),U7 b.2 a.2 c k)=b.2.length+a.2.length-k:=by
  unfold TZ;simp only [Int.toNat_natCast,d];show b.2.length+a.2.length-((k:Int)).toNat=_;rw [Int.toNat_natCast]
 rw [e] at h;refine ⟨a,b,c,k+1,d,?_,by omega,g,l,m⟩;unfold Xy;simp only [Int.toNat_natCast,i];have e1:(U7 b.2 a.2 c k).2.1.2.2=c:=ZO _ _ _ _;have e2:(U7 b.2 a.2 c k).2.2.2.toNat=k:=by show ((k:Int)).toNat=k;rw [Int.toNat_natCast]
 rw [e1,e2]
theorem gT {s:TA} (v:VSt s) {j:Job} {i n:Nat} (e:Ye j.1 0 (TI 0 s.1.2)=some i) (a:s.2.1[i]? = some j) (d:JobAt s.1 n j) (c:0<TZ s.1 j):VSt (Yq s j):=by
 unfold Yq;rw [e,Option.getD_some];refine ⟨v.lev,v.n1,v.n2,v.n3,?_,λx hx => ?_⟩
 ·show (s.2.1.set i (j.1,Xy s.1 j)).map (·.1)=_;rw [<- v.due,List.map_set];refine List.ext_getElem? λk => ?_;rw [List.getElem?_set];by_cases b:i=k
  ·subst b;have hi:=(List.getElem?_eq_some_iff.1 a).1;rw [if_pos rfl,List.length_map,if_pos hi,List.getElem?_map,a];rfl
  ·rw [if_neg b]
 ·rcases List.mem_or_eq_of_mem_set hx with hx | hx
  ·exact v.job x hx
  ·rw [hx];exact ⟨n,Job.steps d c⟩
end
section
open Go Go.Proofs.YtfilfloanndddaaGreat.Sv
theorem mR {B:Int} {M:List (List Tc)} {f:(Int×List (List Tc))->Option (LR (Int×List (List Tc)) (Nat×((Int×List (List Tc))×Unit)))} (a:f (B,[])=some (.dn (0,((B,[]),())))) (hs : ∀ k,k<M.length->f (B,M.take (k+1))=if TG M k=[] then some (.nx (B,M.take k)) else some (.dn (0,((B,M.take (k+1)),())))) : ∀ k,k<=M.length->IJ (k+1) f (B,M.take k)=some (0,((B,M.take (Xn M k)),()))
 | 0,_=>by rw [List.take_zero];exact Tk a
 | k+1,hk=>by
  have h:=hs k (by omega);unfold Xn;by_cases b:TG M k=[]
  ·rw [if_pos b] at h ⊢;rw [Te h];exact mR a hs k (by omega)
  ·rw [if_neg b] at h ⊢;exact Tk h
theorem lU {M:List (List Tc)} {k:Nat} (h:k<M.length):M.take (k+1)=M.take k++[TG M k]:=by
 rw [List.take_add_one,Vt h];rfl
theorem bJ {L:TB} (s:L.2.length<=1000) {n:Nat} (u:n<1000) {r:List Tc} (l:r.length<=1048576) (o : ∀ i,(TG L.2 i).length<=1048576):Ug (L,((n:Int),r))=some (UQ L n r):=by
 have t:(WZ L.2 n r).length=max L.2.length (n+1):=by unfold WZ;rw [List.length_set,X8]
 unfold Ug;simp only [TH,TF];refine Td (ZZ (r:=(0,((((max L.2.length (n+1):Nat):Int),(L.1,WZ L.2 n r)),()))) (λk=>((k:Int),(L.1,(WZ L.2 n r).take k))) (max L.2.length (n+1)) (by simp) (by omega) (λk j => ?_) ?_) ?_
 ·have c:((WZ L.2 n r).take k).length=k:=by rw [List.length_take];omega
  simp only [c];rw [lU (by omega),bK,TJ (by omega),Sr];by_cases g:k<L.2.length
  ·rw [if_pos (by omega),So,if_neg (by omega),S9,Sb (Vt g),Sn];by_cases a:k=n
   ·rw [if_pos (by omega),if_pos a,UC l,UC (by simp only [BD,List.length_cons,List.length_nil];omega)];rfl
   ·rw [if_neg (by omega),if_neg a,UC (o k),UC (by simp only [BD,List.length_cons,List.length_nil];omega)];rfl
  ·rw [if_neg (by omega),Sq,if_pos (by omega),So,if_pos (by omega),Sn];by_cases a:k=n
   ·rw [if_pos (by omega),if_pos a,UC l,UC (by simp only [BD,List.length_cons,List.length_nil];omega)];rfl
   ·rw [if_neg (by omega),if_neg a,UC (by simp only [BD,List.length_cons,List.length_nil];omega)];have:TG L.2 k=[]:=by unfold TG;rw [List.getElem?_eq_none (by omega)];rfl
    rw [this];rfl
 ·have c:(WZ L.2 n r).take (max L.2.length (n+1))=WZ L.2 n r:=List.take_of_length_le (by omega);simp only;rw [Sr,if_neg (by omega),Sq,if_neg (by omega),c]
 ·have d:=mR (B:=L.1) (M:=WZ L.2 n r) (f:=λb=>br (SU (b.2.length:Int) 0) (λ_=>RX (Rp .i64 (b.2.length:Int) 1) λp=>ix b.2 p λq=>br (RR (q.length:Int) 0) (λ_=>RX (Rp .i64 (b.2.length:Int) 1) λh=>gd (CD h b.2.length) λ_=>gd (CD 0 h) λ_=>some (.nx (b.1,Dy b.2 0 h))) λ_=>some (.dn ((0,(b,()))))) λ_=>some (.dn ((0,(b,()))))) rfl (λk j=>by
   have c:((WZ L.2 n r).take (k+1)).length=k+1:=by rw [List.length_take];omega
   have hi:Rp .i64 ((k+1:Nat):Int) 1=(k:Int):=by rw [SB (by omega)];omega
   have m:((WZ L.2 n r).take (k+1))[k]? = some (TG (WZ L.2 n r) k):=by rw [List.getElem?_take,if_pos (by omega),Vt j]
   simp only [c,hi];rw [Sp,if_pos (by omega),S9,Sb m,aQ];by_cases e:TG (WZ L.2 n r) k=[]
   ·rw [if_pos e,if_pos e,S9,UC (by omega),UC (by omega)]
    have:Dy ((WZ L.2 n r).take (k+1)) 0 k=(WZ L.2 n r).take k:=by
     unfold Dy;rw [List.drop_zero,Nat.sub_zero,List.take_take];congr 1;omega
    rw [this]
   ·rw [if_neg e,if_neg e]) _ (Nat.le_refl _)
  rw [List.take_of_length_le (Nat.le_refl _)] at d;exact Td (Ui (by omega) d) rfl
end
section
open Go Go.Proofs.YtfilfloanndddaaGreat.Sv
theorem eM {s:TA} (m:Sm s) (v:VSt s) {a:Int} {i:Nat} (h:Ye a 0 (TI 0 s.1.2)=some i) {j:Job} (e:s.2.1[i]? = some j) (t:0<TZ s.1 j):WD (s,(a,1))=some (Yq s j,(1,0)):=by
 obtain ⟨j',n,f,z,w,u,E⟩:=v.at h;rw [e] at f;cases f;subst z;have l:(TE s).2=0:=TS.2 v
 have o:WH s (n:Int)=((i:Int),0):=by
  unfold WH;rw [if_neg (show ¬ (TE s).2≠0 by simp [l]),h]
 have q:Wc (0:Int) (λs j=>((TZ s.1 j:Int),0)) s (n:Int)=((TZ s.1 j:Int),0):=by
  unfold Wc Zr;rw [if_neg (show ¬ (TE s).2≠0 by simp [l]),h];simp only [e]
 have x:=v.jsmall;have hi:=(List.getElem?_eq_some_iff.1 e).1;unfold WD;rw [mg m,SL,Sn,if_pos l,Sr,if_neg (show ¬ ((1:Int)<0) by omega),Ss,if_pos l,YJ m,q,SL,Sn,if_pos rfl,Sn,if_neg (show ¬ ((TZ s.1 j:Int)=0) by omega),Ss,if_pos rfl,Xk m,o,SL,S9,Sb e];obtain ⟨b,c,d,k,r,rfl,y,D,B,C⟩:=u;have A:TG s.1.2 n=[b,c]:=by unfold TG;rw [r];rfl
 have p:TZ s.1 ((n:Int),U7 c.2 b.2 d k)=c.2.length+b.2.length-k:=by
  unfold TZ;simp only [Int.toNat_natCast,r];show c.2.length+b.2.length-((k:Int)).toNat=_;rw [Int.toNat_natCast]
 rw [p] at t;have g:=Zj C B d y (k:=1);rw [show min 1 (c.2.length+b.2.length-k)=1 by omega] at g;show (bd (TY (U7 c.2 b.2 d k,((1:Nat):Int))) λF=>_)=_;rw [g,SL];simp only;rw [UC (by simp only [AS];omega),S9,SR,if_pos (by simp only [AS];exact hi),Sb e];unfold Yq Xy;simp only [Int.toNat_natCast,A,h,Option.getD_some];have e1:(U7 c.2 b.2 d k).2.1.2.2=d:=ZO _ _ _ _;have e2:(U7 c.2 b.2 d k).2.2.2.toNat=k:=by show ((k:Int)).toNat=k;rw [Int.toNat_natCast]
 rw [e1,e2];rfl
theorem eK {L:TB} (v:VLev L) {n:Nat} (h:(TG L.2 n).length=2):UG (L,(n:Int))=some (WI L n,0):=by
 have d:n<L.2.length:=by
  by_cases e:n<L.2.length
  ·exact e
  ·unfold TG at h;rw [List.getElem?_eq_none (by omega)] at h;cases h
 have i:=v.len;obtain ⟨f,g⟩:=v.small;unfold UG;simp only [TH,TF];rw [aX _ f g,Ww v,SL,Sn,if_pos rfl,Sr,if_neg (by omega),So,if_neg (by omega),Sn,if_pos rfl,So,if_neg (by omega),S9,Sb (Vt d),Sr,if_neg (by omega),Ss,if_pos rfl,Zi v d,SL]
 obtain ⟨b,c,a⟩ : ∃ b c,TG L.2 n=[b,c]:=by
  match hq:TG L.2 n with
  | [b,c]=>exact ⟨b,c,rfl⟩
  | []=>rw [hq] at h;cases h
  | [_]=>rw [hq] at h;cases h
  | _::_::_::_=>rw [hq] at h;simp at h
 rw [Z8 _ (by rw [Vt d,a]) (VR.vl' v (n:=n) (by rw [a];simp)) (VR.vl' v (n:=n) (by rw [a];simp)),SL];unfold WI;rw [Int.toNat_natCast,a]
end
section
open Go Go.Proofs.YtfilfloanndddaaGreat.Sv
abbrev fj:=(Int×((List (List S8))×((List Int)×((List TD)×((List Int)×(Int×(Bool×((List UInt8)×(Bool×((List S8)×Int))))))))))
def ap (j:Job):fj:=(j.1,(j.2.1.1,(j.2.1.2.1,(j.2.1.2.2.1,(j.2.1.2.2.2.1,(j.2.1.2.2.2.2,(j.2.2.1.1,(j.2.2.1.2.1,(j.2.2.1.2.2,(j.2.2.2.1,j.2.2.2.2))))))))))
theorem d9 (p:List Job) (x:Job) (d:Int):UL (p++[x]) d=(UL p d).or (if x.1=d then some x else none):=by
 unfold UL;rw [List.find?_append]
 congr 1
 rw [List.find?_cons];unfold aO;rw [VQ];by_cases h:x.1=d
 ·rw [if_pos h,show decide (d=x.1)=true by simp [h]]
 ·rw [if_neg h,show decide (d=x.1)=false by simp;exact λe=>h e.symm];rfl
theorem ft {s:TA} (w:(s.2.1.map (·.1)).Nodup) (E:s.2.1.length<=1000) (L:TB) (a:Int) {D:List Int} {i:Nat} {d:Int} (hi:D[i]? = some d):(loop (λ(c:Int×fj)=>br (SW c.1 (s.2.1.length:Int)) (λ_=>RX c.1 λm=>ix s.2.1 m λr=>RX (i:Int) λn=>ix D n λt=>br (RR r.1 t) (λ_=>RX (i:Int) λo=>ix D o λu=>br (RT u a) (λ_=>RX c.1 λq=>ix s.2.1 q λb=>some (.nx ((Rl .i64 c.1 1,(b.1,(b.2.1.1,(b.2.1.2.1,(b.2.1.2.2.1,(b.2.1.2.2.2.1,(b.2.1.2.2.2.2,(b.2.2.1.1,(b.2.2.1.2.1,(b.2.2.1.2.2,b.2.2.2))))))))))))) λ_=>some (.nx (Rl .i64 c.1 1,c.2))) λ_=>some (.nx (Rl .i64 c.1 1,c.2))) λ_=>some (.dn (((0:Nat),(c,()))))) ((0:Int),ap (WI L d)))=some (0,(((s.2.1.length:Int),ap (WV s L a d)),())):=by
 refine U6 (l:=s.2.1) (σ:=Job) (s:=((0:Int),ap (WI L d))) (λk j=>((k:Int),ap j)) (λls k j => ∃ p,s.2.1=p++ls/\j=(if d=a then none else UL p d).getD (WI L d)) (λ_ _ _=>(0,(((s.2.1.length:Int),ap (WV s L a d)),()))) (WI L d) rfl (by omega) ⟨[],rfl,by split<;>rfl⟩ (λj h => ?_) (λk x ls j C y z h => ?_)
 ·obtain ⟨p,e,rfl⟩:=h;rw [List.append_nil] at e;simp only;rw [re,Rd,<- e];rfl
 ·obtain ⟨p,e,rfl⟩:=h
  have B:x.1 ∉ p.map (·.1):=λA=>by
   rw [e,List.map_append,List.nodup_append] at w;exact w.2.2 _ A x.1 (by simp) rfl
  refine ⟨(if d=a then none else UL (p++[x]) d).getD (WI L d),?_,⟨p++[x],by rw [e];simp,rfl⟩,rfl⟩
  simp only;rw [rl z,R5,S9,Sb y,S9,Sb hi,Sn,TJ (by omega),d9];by_cases f:x.1=d
  ·rw [if_pos f,S9,Sb hi,Ss,S9,Sb y,if_pos f];by_cases g:d=a
   ·rw [if_pos g,if_pos g,if_pos g]
   ·rw [if_neg g,if_neg g,Xp (by rw [<- f];exact B)];rfl
  ·rw [if_neg f,if_neg f];have:(UL p d).or none=UL p d:=by cases UL p d<;>rfl
   rw [this]
theorem ZS {s:TA} (B:(s.2.1.map (·.1)).Nodup) (D:s.2.1.length<=1000) {L:TB} (v:VLev L) (next b:Int):loop (λ(g:(Int×(Int×((List (List Tc))×((List Job)×Int)))))=>br (SW g.1 ((TI 0 L.2).length:Int)) (λ_=>RX g.1 λm=>ix (TI 0 L.2) m λt=>bd (UG (((g.2.1,g.2.2.1),t))) λc=>bd (loop (λ(f:Int×fj)=>br (SW f.1 (s.2.1.length:Int)) (λ_=>RX f.1 λo=>ix s.2.1 o λu=>RX g.1 λp=>ix (TI 0 L.2) p λw=>br (RR u.1 w) (λ_=>RX g.1 λq=>ix (TI 0 L.2) q λx=>br (RT x b) (λ_=>RX f.1 λr=>ix s.2.1 r λe=>some (.nx ((Rl .i64 f.1 1,(e.1,(e.2.1.1,(e.2.1.2.1,(e.2.1.2.2.1,(e.2.1.2.2.2.1,(e.2.1.2.2.2.2,(e.2.2.1.1,(e.2.2.1.2.1,(e.2.2.1.2.2,e.2.2.2))))))))))))) λ_=>some (.nx (Rl .i64 f.1 1,f.2))) λ_=>some (.nx (Rl .i64 f.1 1,f.2))) λ_=>some (.dn (((0:Nat),(f,()))))) (((0:Int),(c.1.1,(c.1.2.1.1,(c.1.2.1.2.1,(c.1.2.1.2.2.1,(c.1.2.1.2.2.2.1,(c.1.2.1.2.2.2.2,(c.1.2.2.1.1,(c.1.2.2.1.2.1,(c.1.2.2.1.2.2,c.1.2.2.2)))))))))))) λa=>gd (CD (BD g.2.2.2.1.length [((a.2.1.2.1,((a.2.1.2.2.1,(a.2.1.2.2.2.1,(a.2.1.2.2.2.2.1,(a.2.1.2.2.2.2.2.1,a.2.1.2.2.2.2.2.2.1)))),((a.2.1.2.2.2.2.2.2.2.1,(a.2.1.2.2.2.2.2.2.2.2.1,a.2.1.2.2.2.2.2.2.2.2.2.1)),a.2.1.2.2.2.2.2.2.2.2.2.2))):Job)].length) 1048576) λ_=>some (.nx ((Rl .i64 g.1 1,(g.2.1,(g.2.2.1,(Ik g.2.2.2.1 ([(a.2.1.2.1,((a.2.1.2.2.1,(a.2.1.2.2.2.1,(a.2.1.2.2.2.2.1,(a.2.1.2.2.2.2.2.1,a.2.1.2.2.2.2.2.2.1)))),((a.2.1.2.2.2.2.2.2.2.1,(a.2.1.2.2.2.2.2.2.2.2.1,a.2.1.2.2.2.2.2.2.2.2.2.1)),a.2.1.2.2.2.2.2.2.2.2.2.2)))]),g.2.2.2.2))))))) λ_=>some (.dn (((0:Nat),(g,()))))) (((0:Int),(L.1,(L.2,(([]:List Job),next)))))=some (0,((((TI 0 L.2).length:Int),(L.1,(L.2,((TI 0 L.2).map (WV s L b),next)))),())):=by
 have I:=v.len;have F:=VU L.2 0;refine U6 (l:=TI 0 L.2) (σ:=List Job) (λi js=>((i:Int),(L.1,(L.2,(js,next))))) (λls i js=>js++ls.map (WV s L b)=(TI 0 L.2).map (WV s L b)) (λ_ _ _=>(0,((((TI 0 L.2).length:Int),(L.1,(L.2,((TI 0 L.2).map (WV s L b),next)))),()))) [] rfl (by omega) rfl (λjs h => ?_) (λi d ls js A hi C h => ?_)
 ·simp only;rw [re,Rd,<- h];simp
 ·refine ⟨js++[WV s L b d],?_,by rw [<- h];simp,rfl⟩;obtain ⟨n,J,K,k,E⟩:=ZK (List.mem_of_getElem? hi);have y:=eK v (n:=n) (by rw [XI.1 E];rfl);rw [<- k] at y
  have G:js.length<=1000:=by
   have z:=congrArg List.length h;rw [List.length_append,List.length_map,List.length_map] at z;omega
  simp only;rw [rl C,R5,S9,Sb hi];have j:UG ((L.1,L.2),d)=some (WI L d,0):=y;rw [j,SL];refine Td (ft B D L b hi) ?_;rw [UC (by simp only [BD,List.length_cons,List.length_nil];omega),TJ (by omega)];rfl
end
section
open Go Go.Proofs.YtfilfloanndddaaGreat.Sv
theorem Yn {α β σ S:Type} {l:List α} (c:Nat) (n:c<=1000) (mk:Nat->σ->S) (I:Nat->σ->Prop) (Q:β->Prop) {f:S->Option (LR S β)} {s:S} (a:σ) (i:s=mk 0 a) (hi:I 0 a)
  (p : ∀ k a,(k=l.length\/k=c)->k<=l.length->I k a -> ∃ r,f (mk k a)=some (.dn r)/\Q r)
  (hc : ∀ k x a,l[k]? = some x->k<c->I k a->(∃ b,f (mk k a)=some (.nx (mk (k+1) b))/\I (k+1) b) \/ ∃ r,f (mk k a)=some (.dn r)/\Q r) : ∃ r,loop f s=some r/\Q r:=by
 refine WX (l:=l.take c) mk (λ_ k a=>I k a/\k<=(l.take c).length) Q a i (by simp;omega) ⟨hi,by omega⟩ (λa h=>p _ a (by simp;omega) (by simp;omega) h.1) (λk x m a q e o h => ?_);have d:k<c:=by simp at o;omega
 have g:l[k]? = some x:=by rw [List.getElem?_take] at e;rw [if_pos d] at e;exact e
 rcases hc k x a g d h.1 with ⟨b,h1,j⟩ | h1
 ·exact .inl ⟨b,h1,j,by omega⟩
 ·exact .inr h1
theorem dY {k c:Nat} (h:k<c):SW (k:Int) (c:Int)=true:=by unfold SW;simp;omega
theorem lm {α β:Type} {l:List α} {k c:Nat} (h:k=l.length\/k=c) (b:k<=l.length) (A B C:Option β) (e:B=C):br (SW (k:Int) (l.length:Int)) (λ_=>br (SW (k:Int) (c:Int)) (λ_=>A) λ_=>B) (λ_=>C)=C:=by
 rw [Sr];by_cases a:(k:Int)<(l.length:Int)
 ·rw [if_pos a,Sr,if_neg (by omega),e]
 ·rw [if_neg a]
end
section
open Go Go.Proofs.YtfilfloanndddaaGreat.Sv
end
section
open Go Go.Proofs.YtfilfloanndddaaGreat.Sv
theorem gZ (L:TB) (n:Nat):Vd (L,(n:Int))=some (TG L.2 n):=by
 unfold Vd;simp only [TH,TF];rw [So];by_cases h:n<L.2.length
 ·rw [if_neg (by omega),S9,Sb (Vt h)]
 ·rw [if_pos (by omega)];unfold TG;rw [List.getElem?_eq_none (by omega)];rfl
theorem Zh {s:TA} (v:VSt s) (hf:fi s.1) {n:Nat} {j:Job} (ha:JobAt s.1 n j) (h0 : ¬ 0<TZ s.1 j) (hc:Vq s.1 j=true) (h5:UP j≠[]->s.2.2<=1000000) {X:Int} (D:X=(Xm s j:Int)) :
  (bd (Ug ((s.1,((n:Int),[])))) λp=>br (SU (Kb (AS j.2.2.2.1)) 0) (λ_=>bd (Vd (p,X)) λw=>gd (CD (AS w) 1048576) λ_=>gd (CD (BD (AS w) (AS ([(s.2.2,j.2.2.2.1)]))) 1048576) λ_=>bd (Ug ((p,(X,Ik w ([(s.2.2,j.2.2.2.1)]))))) λy=>bd (UB y) λq=>bd (loop (λ(c:(Int×(Int×((List (List Tc))×((List (Int×(TC×((Bool×TD)×((List S8)×Int)))))×Int)))))=>br (SW c.1 (Kb (AS q))) (λ_=>RX c.1 λE=>ix q E λY=>bd (UG (((c.2.1,c.2.2.1),Y))) λe=>bd (loop (λ(l:(Int×(Int×((List (List S8))×((List Int)×((List TD)×((List Int)×(Int×(Bool×((List UInt8)×(Bool×((List S8)×Int))))))))))))=>br (SW l.1 (Kb (AS s.2.1))) (λ_=>RX l.1 λG=>ix s.2.1 G λZ=>RX c.1 λI=>ix q I λx52=>br (RR Z.1 x52) (λ_=>RX c.1 λJ=>ix q J λx54=>br (RT x54 (n:Int)) (λ_=>RX l.1 λK=>ix s.2.1 K λg=>some (.nx ((Rl .i64 l.1 1,(g.1,(g.2.1.1,(g.2.1.2.1,(g.2.1.2.2.1,(g.2.1.2.2.2.1,(g.2.1.2.2.2.2,(g.2.2.1.1,(g.2.2.1.2.1,(g.2.2.1.2.2,g.2.2.2))))))))))))) λ_=>some (.nx (Rl .i64 l.1 1,l.2))) λ_=>some (.nx (Rl .i64 l.1 1,l.2))) λ_=>some (.dn ((0,(l,()))))) ((0,(e.1.1,(e.1.2.1.1,(e.1.2.1.2.1,(e.1.2.1.2.2.1,(e.1.2.1.2.2.2.1,(e.1.2.1.2.2.2.2,(e.1.2.2.1.1,(e.1.2.2.1.2.1,(e.1.2.2.1.2.2,e.1.2.2.2)))))))))))) λa=>gd (CD (BD (AS c.2.2.2.1) (AS ([(a.2.1.2.1,((a.2.1.2.2.1,(a.2.1.2.2.2.1,(a.2.1.2.2.2.2.1,(a.2.1.2.2.2.2.2.1,a.2.1.2.2.2.2.2.2.1)))),((a.2.1.2.2.2.2.2.2.2.1,(a.2.1.2.2.2.2.2.2.2.2.1,a.2.1.2.2.2.2.2.2.2.2.2.1)),a.2.1.2.2.2.2.2.2.2.2.2.2)))]))) 1048576) λ_=>some (.nx ((Rl .i64 c.1 1,(c.2.1,(c.2.2.1,(Ik c.2.2.2.1 ([(a.2.1.2.1,((a.2.1.2.2.1,(a.2.1.2.2.2.1,(a.2.1.2.2.2.2.1,(a.2.1.2.2.2.2.2.1,a.2.1.2.2.2.2.2.2.1)))),((a.2.1.2.2.2.2.2.2.2.1,(a.2.1.2.2.2.2.2.2.2.2.1,a.2.1.2.2.2.2.2.2.2.2.2.1)),a.2.1.2.2.2.2.2.2.2.2.2.2)))]),c.2.2.2.2))))))) λ_=>some (.dn ((0,(c,()))))) ((0,(y.1,(y.2,([],Rl .i64 s.2.2 1)))))) λz=>some ((((z.2.1.2.1,z.2.1.2.2.1),z.2.1.2.2.2),0))) λ_=>bd (UB p) λt=>bd (loop (λ(d:(Int×(Int×((List (List Tc))×((List (Int×(TC×((Bool×TD)×((List S8)×Int)))))×Int)))))=>br (SW d.1 (Kb (AS t))) (λ_=>RX d.1 λN=>ix t N λx62=>bd (UG (((d.2.1,d.2.2.1),x62))) λf=>bd (loop (λ(m:(Int×(Int×((List (List S8))×((List Int)×((List TD)×((List Int)×(Int×(Bool×((List UInt8)×(Bool×((List S8)×Int))))))))))))=>br (SW m.1 (Kb (AS s.2.1))) (λ_=>RX m.1 λO=>ix s.2.1 O λx66=>RX d.1 λP=>ix t P λx68=>br (RR x66.1 x68) (λ_=>RX d.1 λS=>ix t S λx70=>br (RT x70 (n:Int)) (λ_=>RX m.1 λU=>ix s.2.1 U λk=>some (.nx ((Rl .i64 m.1 1,(k.1,(k.2.1.1,(k.2.1.2.1,(k.2.1.2.2.1,(k.2.1.2.2.2.1,(k.2.1.2.2.2.2,(k.2.2.1.1,(k.2.2.1.2.1,(k.2.2.1.2.2,k.2.2.2))))))))))))) λ_=>some (.nx (Rl .i64 m.1 1,m.2))) λ_=>some (.nx (Rl .i64 m.1 1,m.2))) λ_=>some (.dn ((0,(m,()))))) ((0,(f.1.1,(f.1.2.1.1,(f.1.2.1.2.1,(f.1.2.1.2.2.1,(f.1.2.1.2.2.2.1,(f.1.2.1.2.2.2.2,(f.1.2.2.1.1,(f.1.2.2.1.2.1,(f.1.2.2.1.2.2,f.1.2.2.2)))))))))))) λb=>gd (CD (BD (AS d.2.2.2.1) (AS ([(b.2.1.2.1,((b.2.1.2.2.1,(b.2.1.2.2.2.1,(b.2.1.2.2.2.2.1,(b.2.1.2.2.2.2.2.1,b.2.1.2.2.2.2.2.2.1)))),((b.2.1.2.2.2.2.2.2.2.1,(b.2.1.2.2.2.2.2.2.2.2.1,b.2.1.2.2.2.2.2.2.2.2.2.1)),b.2.1.2.2.2.2.2.2.2.2.2.2)))]))) 1048576) λ_=>some (.nx ((Rl .i64 d.1 1,(d.2.1,(d.2.2.1,(Ik d.2.2.2.1 ([(b.2.1.2.1,((b.2.1.2.2.1,(b.2.1.2.2.2.1,(b.2.1.2.2.2.2.1,(b.2.1.2.2.2.2.2.1,b.2.1.2.2.2.2.2.2.1)))),((b.2.1.2.2.2.2.2.2.2.1,(b.2.1.2.2.2.2.2.2.2.2.1,b.2.1.2.2.2.2.2.2.2.2.2.1)),b.2.1.2.2.2.2.2.2.2.2.2.2)))]),d.2.2.2.2))))))) λ_=>some (.dn ((0,(d,()))))) ((0,(p.1,(p.2,([],s.2.2)))))) λA=>some ((((A.2.1.2.1,A.2.1.2.2.1),A.2.1.2.2.2),0)):Option (TA×Int))=some (YA s (VS s j) (XY s j) j.1,0):=by
 have F:=dZ v hf ha h0 hc h5;obtain ⟨o1,o2,W,o4,o5⟩:=ha.out v.lev (hf n);have hj:j.1.toNat=n:=by rw [W];simp
 have hn2:=v.n2;have hn1:=v.n1;have hjs:=v.jsmall;have o:=F.lev;have hl:=v.lev.len;have hl1:=F.l1.len;have small : ∀ {M:TB},VLev M -> ∀ i,(TG M.2 i).length<=1048576:=λvM i=>by have:=(vM.own i).1;omega
 rw [bJ (by omega) (by omega) (by simp) (small v.lev),SL];simp only [TH,TF];rw [Sp];by_cases u:UP j=[]
 ·rw [if_neg (show ¬ ((j.2.2.2.1.length:Int)>0) by rw [show j.2.2.2.1=[] from u];simp)];have B:VS s j=UQ s.1 n []:=by unfold VS;rw [if_pos u,hj]
  have C:XY s j=s.2.2:=by unfold XY;rw [if_pos u]
  rw [<- B,ZL (by have:=o.len;omega),SL];refine Td (ZS v.nodup (by omega) o s.2.2 (n:Int)) ?_;rw [C,W];rfl
 ·rw [if_pos (show ((j.2.2.2.1.length:Int)>0) by have:=List.length_pos_iff.2 u;have h:(UP j).length=j.2.2.2.1.length:=rfl;omega),D,gZ,SL];have hro:=F.room u;have ht:=F.to12 u
  have B:VS s j=UQ (UQ s.1 n []) (Xm s j) (TG (UQ s.1 n []).2 (Xm s j)++[(s.2.2,UP j)]):=by
   unfold VS;rw [if_neg u,hj]
  have C:XY s j=s.2.2+1:=by unfold XY;rw [if_neg u]
  rw [UC (by omega),UC (by simp only [BD,List.length_cons,List.length_nil];omega)];have hW:=bJ (L:=UQ s.1 n []) (n:=Xm s j) (r:=TG (UQ s.1 n []).2 (Xm s j)++[(s.2.2,UP j)]) (by omega) (by omega) (by simp;omega) (small F.l1);rw [<- B] at hW;refine Td (x:=VS s j) hW ?_;rw [ZL (by have:=o.len;omega),SL,R9 (by omega)];refine Td (ZS v.nodup (by omega) o (s.2.2+1) (n:Int)) ?_;rw [C,W];rfl
theorem bI {s:TA} (m:Sm s) (l:fi s.1) (a:Int):VA (s,a)=some (Wc zS YO s a):=by
 unfold VA;rw [bw m,SL,Xk m,aV m];unfold Wc;by_cases b:(TE s).2=0;rotate_left
 ·rw [if_pos b,Ss,if_neg b,if_pos b];rfl
 rw [if_neg (show ¬ (TE s).2≠0 by simp [b]),if_neg (show ¬ (TE s).2≠0 by simp [b]),if_neg (show ¬ (TE s).2≠0 by simp [b])];have v:=TS.1 b;unfold Zr WH;rw [if_neg (show ¬ (TE s).2≠0 by simp [b])];cases q:Ye a 0 (TI 0 s.1.2) with
 | none=>rfl
 | some i =>
  obtain ⟨j,n,o,p,f,k,r⟩:=v.at q;have:=v.lev.len;subst p;simp only [o];unfold YO Yu;by_cases c:0<TZ s.1 j
  ·rw [if_pos c,if_pos (.inl c)];rfl
  rw [if_neg c]
  have g:(if Vg s.1 j=true then (j.1,(0:Int)) else (j.1+1,0))=((Xm s j:Int),0):=by
   unfold Xm;split<;>rw [f]<;>simp
  rw [g,Ss,if_pos rfl,SL,S9,Sb o,SL,Tl,Sx];by_cases hc:Vq s.1 j=true;rotate_left
  ·rw [if_neg hc,if_pos (.inr (by simpa using hc))];rfl
  rw [if_pos hc,if_neg (show ¬ (0<TZ s.1 j\/Vq s.1 j=false) by rw [hc];simp;omega),Sp];by_cases e:s.2.2>1000000
  ·rw [if_pos e,Sp];by_cases d:UP j=[]
   ·rw [if_neg (show ¬ (Kb (AS j.2.2.2.1)>0) by rw [show j.2.2.2.1=[] from d];simp [TH,TF]),if_neg (by simp [d])];dsimp only;exact Zh v l k c hc (λh=>absurd d h) rfl
   ·rw [if_pos (show Kb (AS j.2.2.2.1)>0 by have:=List.length_pos_iff.2 d;have h:(UP j).length=j.2.2.2.1.length:=rfl;rw [TH,TF];omega),if_pos ⟨e,d⟩];rfl
  ·rw [if_neg e,if_neg (by simp [e])];dsimp only;exact Zh v l k c hc (λh=>by omega) rfl
theorem eJ {s:TA} (m:Sm s) (f:fi s.1) (a:Int):Vf (s,a)=some (VY s a):=by
 unfold Vf;rw [aV m,SL,YJ m,bI m f];unfold Wc VY;by_cases b:(TE s).2=0;rotate_left
 ·rw [if_pos b,if_pos b,Sn,if_neg b];rw [Ss,if_neg b,if_pos b];rfl
 rw [if_neg (show ¬ (TE s).2≠0 by simp [b]),if_neg (show ¬ (TE s).2≠0 by simp [b]),if_neg (show ¬ (TE s).2≠0 by simp [b]),if_neg (show ¬ (TE s).2≠0 by simp [b])];have v:=TS.1 b;unfold Zr;cases e:Ye a 0 (TI 0 s.1.2) with
 | none =>
  simp only;rw [Sn,if_neg (by omega),Ss,if_neg (by omega)];rfl
 | some i =>
  obtain ⟨j,n,d,k,g,h,l⟩:=v.at e;simp only [d];unfold XX;rw [Sn,if_pos rfl,Tl,Sx];by_cases hc:Vq s.1 j=true;rotate_left
  ·rw [if_neg hc,if_pos (by simpa using hc)];rfl
  rw [if_pos hc,if_neg (by simp [hc]),Ss,if_pos rfl,SL,Sp];by_cases c:0<TZ s.1 j
  ·rw [if_pos (show ((TZ s.1 j:Int))>0 by omega),if_pos c,eM m v e d c];rfl
  ·rw [if_neg (show ¬ ((TZ s.1 j:Int))>0 by omega),if_neg c];rfl
end
section
open Go Go.Proofs.YtfilfloanndddaaGreat.Sv
def UD (l:List S8) (k:XC):Option S8:=l.find? λx=>decide (x.1=k)
theorem UJ (x:S8) (l:List S8) (k:XC):UD (x::l) k=if x.1=k then some x else UD l k:=by
 unfold UD;rw [List.find?_cons];by_cases h:x.1=k<;>simp [h]
theorem Yi (l m:List S8) (k:XC):UD (l++m) k=(UD l k).or (UD m k):=by
 unfold UD;rw [List.find?_append]
theorem Xe (x:S8) (k:XC):UD [x] k=if x.1=k then some x else none:=by rw [UJ];rfl
theorem aq {l:List S8} {k:XC} {x:S8} (h:UD l k=some x):x.1=k/\x∈l:=by
 unfold UD at h;exact ⟨by simpa using List.find?_some h,List.mem_of_find?_eq_some h⟩
theorem Xd {l:List S8} {k:XC} (h : ∀ x∈l,x.1≠k):UD l k=none:=by
 unfold UD;rw [List.find?_eq_none];intro x a;simpa using h x a
theorem YU : ∀ {l:List S8} {q:XC},Asc (some q) l -> ∀ x∈l,Rz q x.1=true
 | x::l,q,⟨a,b⟩,y,hy=>by
  rcases List.mem_cons.1 hy with e | hy
  ·rw [e];exact a q rfl
  ·exact WG (a q rfl) (YU b y hy)
theorem dM : ∀ {l m:List S8} {p q:Option XC},Asc p l->Asc q m->(∀ k,UD l k=UD m k)->l=m
 | [],[],_,_,_,_,_=>rfl
 | [],y::m,_,_,_,_,h=>by
  have:=h y.1;rw [UJ,if_pos rfl] at this;cases this
 | x::l,[],_,_,_,_,h=>by
  have:=h x.1;rw [UJ,if_pos rfl] at this;cases this
 | x::l,y::m,p,q,⟨t,f⟩,⟨s,d⟩,h=>by
  have e1:=h x.1;have e2:=h y.1;rw [UJ,if_pos rfl,UJ] at e1;rw [UJ,UJ,if_pos rfl] at e2
  have g:x.1=y.1:=by
   by_cases b:y.1=x.1
   ·exact b.symm
   ·rw [if_neg b] at e1;rw [if_neg (λe=>b e.symm)] at e2;have n:=YU d x (aq e1.symm).2;have j:=YU f y (aq e2).2;rw [Ut n] at j;cases j
  rw [if_pos g.symm] at e1;have c:x=y:=Option.some.inj e1;subst c;refine congrArg (x::·) (dM f d λk => ?_);have b:=h k;rw [UJ,UJ] at b;by_cases a:x.1=k
  ·have o:UD l k=none:=Xd λz i=>by
    have:=YU f z i;rw [a] at this;exact λe=>X9 this e.symm
   have r:UD m k=none:=Xd λz i=>by
    have:=YU d z i;rw [a] at this;exact λe=>X9 this e.symm
   rw [o,r]
  ·rw [if_neg a,if_neg a] at b;exact b
theorem YT (P:S8->Bool) : ∀ {l:List S8} {p:Option XC},Asc p l->Asc p (l.filter P)
 | [],_,_=>trivial
 | x::l,p,⟨b,d⟩=>by
  have c:=YT P d;rw [List.filter_cons];cases P x with
  | true=>exact ⟨b,c⟩
  | false =>
   refine c.weak λe a=>⟨x.1,rfl,?_⟩;exact Ut (b e a)
theorem X4 (P:S8->Bool) (k:XC) : ∀ {l:List S8} {p:Option XC},Asc p l->UD (l.filter P) k=(UD l k).filter P
 | [],_,_=>rfl
 | x::l,p,⟨h,c⟩=>by
  have d:=X4 P k c;rw [List.filter_cons,UJ];by_cases a:x.1=k
  ·rw [if_pos a]
   have f:UD (l.filter P) k=none:=Xd λz g=>by
    have:=YU c z (List.mem_filter.1 g).1;rw [a] at this;exact λe=>X9 this e.symm
   cases b:P x with
   | true=>rw [if_pos rfl,UJ,if_pos a];simp [Option.filter,b]
   | false=>rw [if_neg (by simp),f];simp [Option.filter,b]
  ·rw [if_neg a];cases b:P x with
   | true=>rw [if_pos rfl,UJ,if_neg a];exact d
   | false=>simpa using d
def ZH:List S8->S8->List S8
 | [],x=>[x]
 | y::l,x=>if Rz y.1 x.1=true then y::ZH l x else if y.1=x.1 then y::l else x::y::l
theorem ac (x:S8) : ∀ {l:List S8} {p:Option XC},Asc p l->(∀ q,p=some q->Rz q x.1=true)->Asc p (ZH l x)
 | [],p,_,hp=>⟨hp,trivial⟩
 | y::l,p,⟨d,a⟩,hp=>by
  unfold ZH;by_cases h:Rz y.1 x.1=true
  ·rw [if_pos h];exact ⟨d,ac x a λq c=>by cases c;exact h⟩
  ·rw [if_neg h];by_cases b:y.1=x.1
   ·rw [if_pos b];exact ⟨d,a⟩
   ·rw [if_neg b];exact ⟨hp,λq c=>by cases c;exact Yc (by simpa using h) b,a⟩
theorem ad (x:S8) (k:XC) : ∀ {l:List S8} {p:Option XC},Asc p l->UD (ZH l x) k=(UD l k).or (if x.1=k then some x else none)
 | [],_,_=>by unfold ZH;rw [Xe];rfl
 | y::l,p,⟨f,d⟩=>by
  unfold ZH;by_cases h:Rz y.1 x.1=true
  ·rw [if_pos h,UJ,UJ,ad x k d];split<;>rfl
  ·rw [if_neg h];by_cases b:y.1=x.1
   ·rw [if_pos b,UJ,<- b];by_cases a:y.1=k
    ·rw [if_pos a];rfl
    ·rw [if_neg a,if_neg a];cases UD l k<;>rfl
   ·rw [if_neg b,UJ];have c:Rz x.1 y.1=true:=Yc (by simpa using h) b;by_cases a:x.1=k
    ·rw [if_pos a]
     have:UD (y::l) k=none:=Xd λz hz=>by
      rw [<- a];rcases List.mem_cons.1 hz with e | hz
      ·rw [e];exact b
      ·exact λe=>X9 (WG c (YU d z hz)) e.symm
     rw [this,if_pos a];rfl
    ·rw [if_neg a,if_neg a];cases UD (y::l) k<;>rfl
theorem dL (k:XC) : ∀ (r l:List S8),Asc none l->Asc none (r.foldl ZH l)/\UD (r.foldl ZH l) k=(UD l k).or (UD r k)
 | [],l,h=>⟨h,by show UD l k=_;cases UD l k<;>rfl⟩
 | x::r,l,h=>by
  obtain ⟨a,b⟩:=dL k r (ZH l x) (ac x h λ_ h=>by cases h);refine ⟨a,?_⟩;rw [List.foldl_cons,b,ad x k h,UJ,Option.or_assoc]
  congr 1
  split<;>rfl
def dv (rs:List Tc) (l:List S8):List S8:=rs.foldl (λout r=>r.2.foldl ZH out) l
def U5:List Tc->XC->Option S8
 | [],_=>none
 | r::rs,k=>(UD r.2 k).or (U5 rs k)
theorem aE (k:XC) : ∀ (rs:List Tc) (l:List S8),Asc none l->Asc none (dv rs l)/\UD (dv rs l) k=(UD l k).or (U5 rs k)
 | [],l,h=>⟨h,by show UD l k=_;cases UD l k<;>rfl⟩
 | r::rs,l,h=>by
  obtain ⟨a,b⟩:=dL k r.2 l h;obtain ⟨c,d⟩:=aE k rs (r.2.foldl ZH l) a;refine ⟨c,?_⟩;show UD (dv rs (r.2.foldl ZH l)) k=_;rw [d,b,Option.or_assoc];rfl
def W9 (x:S8):Bool := !x.2.2.1
def K7 (L:TB):List S8:=(dv (Uj L.2) []).filter W9
theorem gC {L M:TB} (h : ∀ k,(U5 (Uj L.2) k).filter W9=(U5 (Uj M.2) k).filter W9):K7 L=K7 M:=by
 have a:=λk=>aE k (Uj L.2) [] trivial;have b:=λk=>aE k (Uj M.2) [] trivial;refine dM (YT W9 (a []).1) (YT W9 (b []).1) λk => ?_;show UD ((dv (Uj L.2) []).filter W9) k=UD ((dv (Uj M.2) []).filter W9) k;rw [X4 W9 k (a []).1,X4 W9 k (b []).1,(a k).2,(b k).2];exact h k
theorem az : ∀ (a b:List Tc) (k:XC),U5 (a++b) k=(U5 a k).or (U5 b k)
 | [],b,k=>rfl
 | r::a,b,k=>by
  show (UD r.2 k).or (U5 (a++b) k)=((UD r.2 k).or (U5 a k)).or (U5 b k);rw [az a b k,Option.or_assoc]
theorem dj : ∀ {l:List S8} {s:UI} {k:XC},Yv s l->s.1=true->Rz k s.2.1=true->UD l k=none
 | [],_,_,_,_,_=>rfl
 | x::l,s,k,⟨_,c,d⟩,b,hk=>by
  have a:Rz k x.1=true:=bV hk (c b);rw [UJ,if_neg (λe=>X9 a e.symm)];exact dj d rfl a
theorem an (k:XC) : ∀ {l:List S8} {s:UI},Yv s l->UD (Vu s l) k=if s.1=true/\s.2.1=k then none else (UD l k).filter λx => !(s.2.2&&x.2.2.1)
 | [],s,_=>by unfold Vu;split<;>rfl
 | x::l,s,⟨_,g,c⟩=>by
  have f:=an k c;simp only [true_and] at f;unfold Vu;rw [Yi,f,UJ];by_cases a:x.1=k
  ·rw [if_pos a,if_pos a];by_cases hs:s.1=true/\s.2.1=k
   ·rw [if_pos hs];have:keep s x=false:=by unfold keep;rw [hs.1,hs.2,a];simp
    rw [this];rfl
   ·rw [if_neg hs]
    have:keep s x = !(s.2.2&&x.2.2.1):=by
     unfold keep
     have:(s.1&&decide (x.1=s.2.1))=false:=by
      cases b:s.1 with
      | false=>rfl
      | true =>
       simp only [Bool.true_and,decide_eq_false_iff_not];intro e;exact hs ⟨b,by rw [<- e];exact a⟩
     rw [this];rfl
    rw [this];cases d:(!(s.2.2&&x.2.2.1)) with
    | true=>rw [if_pos rfl,Xe,if_pos a];simp [Option.filter,d]
    | false=>rw [if_neg (by simp)];simp [Option.filter,d,UD]
  ·rw [if_neg a,if_neg a]
   have b:UD (if keep s x=true then [x] else []) k=none:=by
    split
    ·rw [Xe,if_neg a]
    ·rfl
   rw [b,Option.none_or];by_cases hs:s.1=true/\s.2.1=k
   ·rw [if_pos hs]
    have h:Rz k x.1=true:=by
     rw [<- hs.2];refine Yc (g hs.1) λe=>a ?_;rw [e];exact hs.2
    rw [dj c rfl h];rfl
   ·rw [if_neg hs]
theorem Zc {a b:List S8} (va:VL a) (l:VL b) (k:XC) : ∀ {n:Nat},n<=a.length+b.length->UD (TU a b n) k=(UD (a.take (TM a b n).1) k).or (UD (b.take (TM a b n).2) k)
 | 0,_=>rfl
 | n+1,h=>by
  have G:=Zc va l k (n:=n) (by omega);obtain ⟨q,hs⟩:=V7 va l (n:=n) (by omega);obtain ⟨x,c,_⟩:=VX va l (n:=n) (by omega);rw [WY va l c,Yi,G,Xe];unfold ZF at c;rw [show TM a b (n+1)=if XL a b (TM a b n).1 (TM a b n).2=true then ((TM a b n).1+1,(TM a b n).2) else ((TM a b n).1,(TM a b n).2+1) from rfl]
  revert c q;generalize (TM a b n).1=i;generalize (TM a b n).2=j;intro q c;cases g:XL a b i j with
  | true =>
   rw [if_pos g] at c;rw [if_pos rfl];simp only;rw [List.take_add_one,c,Option.toList_some,Yi,Xe,Option.or_assoc,Option.or_assoc]
   congr 1
   by_cases r:x.1=k
   ·rw [if_pos r]
    have:UD (b.take j) k=none:=Xd λy F=>by
     obtain ⟨m,o⟩:=List.getElem?_of_mem F;rw [List.getElem?_take] at o;split at o
     ·rename_i E;have D:=q.jb;have f:b[j-1]? = some b[j-1]:=List.getElem?_eq_getElem (by omega);have B:=q.pb (j-1) (by omega) _ x f c
      have C:Rz b[j-1].1 y.1=false:=by
       by_cases s:m=j-1
       ·subst s;rw [f] at o;cases o;exact W4 _
       ·have A:=l.asc
        have : ∀ d,m+d+1<=j-1 -> ∀ z,b[m+d+1]? = some z->Rz y.1 z.1=true:=by
         intro d
         induction d with
         | zero=>intro _ z t;exact l.lt o t
         | succ d u =>
          intro I z t;have p:b[m+d+1]? = some b[m+d+1]:=List.getElem?_eq_getElem (by omega);exact WG (u (by omega) _ p) (l.lt p t)
        exact Ut (this (j-1-m-1) (by omega) _ (by rw [show m+(j-1-m-1)+1=j-1 by omega];exact f))
      intro e;have w:Rz y.1 x.1=true:=Zn C B;rw [e,r,W4] at w;cases w
     ·cases o
    rw [this];rfl
   ·rw [if_neg r];cases UD (b.take j) k<;>rfl
  | false =>
   rw [if_neg (show ¬ XL a b i j=true by rw [g];decide)] at c;rw [if_neg (show ¬ (false=true) by decide)];simp only;rw [List.take_add_one,c,Option.toList_some,Yi,Xe,Option.or_assoc]
theorem l8 {a b:List S8} (va:VL a) (e:VL b) (c:Bool) (k:XC):UD (U7 a b c (a.length+b.length)).2.2.1 k=((UD a k).or (UD b k)).filter λx => !(c&&x.2.2.1):=by
 have f:=W3 va e c (Nat.le_refl (a.length+b.length));obtain ⟨d,hs⟩:=V7 va e (Nat.le_refl (a.length+b.length));show UD (Vu (s0 c) (TU a b (a.length+b.length))) k=_;rw [an k f,if_neg (by simp),Zc va e k (Nat.le_refl _)];rw [List.take_of_length_le (by have:=d.ia;have:=d.jb;omega),List.take_of_length_le (by have:=d.ia;have:=d.jb;omega)]
end
section
open Go Go.Proofs.YtfilfloanndddaaGreat.Sv
def Ym (f:Nat->Option S8):Nat->Nat->Option S8
 | _,0=>none
 | i,m+1=>(f i).or (Ym f (i+1) m)
theorem da (f:Nat->Option S8) : ∀ (m i:Nat),Ym f (i+1) m=Ym (λj=>f (j+1)) i m
 | 0,_=>rfl
 | m+1,i=>by
  show (f (i+1)).or (Ym f (i+1+1) m)=(f (i+1)).or (Ym (λj=>f (j+1)) (i+1) m);rw [da f m (i+1)]
theorem Xf {f g:Nat->Option S8} : ∀ (m i:Nat),(∀ j,i<=j->j<i+m->f j=g j)->Ym f i m=Ym g i m
 | 0,_,_=>rfl
 | m+1,i,h=>by
  show (f i).or (Ym f (i+1) m)=(g i).or (Ym g (i+1) m);rw [h i (by omega) (by omega),Xf m (i+1) λj a b=>h j (by omega) (by omega)]
theorem aR : ∀ (m i:Nat),Ym (λ_=>none) i m=none
 | 0,_=>rfl
 | m+1,i=>by show (none:Option S8).or _=_;rw [Option.none_or];exact aR m (i+1)
theorem ZY (f:Nat->Option S8) : ∀ (p i q:Nat),Ym f i (p+q)=(Ym f i p).or (Ym f (i+p) q)
 | 0,i,q=>by rw [Nat.zero_add];rfl
 | p+1,i,q=>by
  rw [show p+1+q=(p+q)+1 by omega];show (f i).or (Ym f (i+1) (p+q))=((f i).or (Ym f (i+1) p)).or (Ym f (i+(p+1)) q);rw [ZY f p (i+1) q,Option.or_assoc,show i+1+p=i+(p+1) by omega]
theorem Y8 (k:XC) : ∀ (ls:List (List Tc)) (K:Nat),ls.length<=K->U5 (Uj ls) k=Ym (λj=>U5 (TG ls j).reverse k) 0 K
 | [],K,_=>by
  have:(λj=>U5 (TG [] j).reverse k)=λ_=>none:=by
   funext j;have:TG [] j=[]:=rfl
   rw [this];rfl
  rw [this,aR];rfl
 | rs::ls,0,h=>by simp at h
 | rs::ls,K+1,h=>by
  have e:Uj (rs::ls)=rs.reverse++Uj ls:=rfl;rw [e,az,Y8 k ls K (by simpa using h)];show _=(U5 (TG (rs::ls) 0).reverse k).or (Ym (λj=>U5 (TG (rs::ls) j).reverse k) (0+1) K);rw [da];rfl
theorem eA {s:TA} (v:VSt s) (C:fi s.1) {n:Nat} {j:Job} (r:JobAt s.1 n j) (E : ¬ 0<TZ s.1 j) (hc:Vq s.1 j=true) (G:UP j≠[]->s.2.2<=1000000):K7 (VS s j)=K7 s.1:=by
 have F:=dZ v C r E hc G;obtain ⟨W,X,L,Y,Z⟩:=r.out v.lev (C n);have d:j.1.toNat=n:=by rw [L];simp
 obtain ⟨b,c,q,m,B,f,P,t,M,N⟩:=r;have K:=XI.1 B
 have O:TZ s.1 j=c.2.length+b.2.length-m:=by
  rw [f];unfold TZ;simp only [Int.toNat_natCast,B];show c.2.length+b.2.length-((m:Int)).toNat=_;rw [Int.toNat_natCast]
 have u:m=c.2.length+b.2.length:=by omega
 subst u
 have p : ∀ k,UD (UP j) k=((UD c.2 k).or (UD b.2 k)).filter λx => !(q&&x.2.2.1):=λk=>by
  rw [f];exact l8 N M q k
 refine gC λk => ?_;have S:=F.lev.len;have U:=v.lev.len;rw [Y8 k _ 14 (by omega),Y8 k _ 14 (by omega)];rw [show 14=n+(1+(13-n)) by omega,ZY,ZY _ n 0];have w:Xm s j=n\/Xm s j=n+1:=by unfold Xm;rw [d];split<;>omega
 have l:Ym (λi=>U5 (TG (VS s j).2 i).reverse k) 0 n=Ym (λi=>U5 (TG s.1.2 i).reverse k) 0 n:=Xf _ _ λi _ hi=>by
  rw [Vl d,if_neg (by rintro ⟨_,h⟩;omega),if_neg (by omega)]
 rw [l];generalize Ym (λi=>U5 (TG s.1.2 i).reverse k) 0 n=A
 have y:Ym (λi=>U5 (TG (VS s j).2 i).reverse k) (0+n) (1+(13-n))=(UD (UP j) k).or (Ym (λi=>U5 (TG s.1.2 i).reverse k) (n+1) (13-n)):=by
  rw [Nat.zero_add,Nat.add_comm 1];show (U5 (TG (VS s j).2 n).reverse k).or (Ym (λi=>U5 (TG (VS s j).2 i).reverse k) (n+1) (13-n))=_;by_cases a:UP j=[]
  ·rw [Vl d,if_neg (by simp [a]),if_pos rfl,a];refine congrArg _ (Xf _ _ λi hi _ => ?_);rw [Vl d,if_neg (by simp [a]),if_neg (by omega)]
  ·rcases w with ht | ht
   ·rw [Vl d,if_pos ⟨a,ht.symm⟩,if_pos rfl]
    have e:U5 (([]:List Tc)++[(s.2.2,UP j)]).reverse k=UD (UP j) k:=by
     show (UD (UP j) k).or none=_;cases UD (UP j) k<;>rfl
    rw [e];refine congrArg _ (Xf _ _ λi hi _ => ?_);rw [Vl d,if_neg (by rintro ⟨_,h⟩;omega),if_neg (by omega)]
   ·rw [Vl d,if_neg (by rintro ⟨_,h⟩;omega),if_pos rfl];have D:=F.to12 a;rw [show 13-n=(12-n)+1 by omega];show (none:Option S8).or ((U5 (TG (VS s j).2 (n+1)).reverse k).or (Ym _ (n+1+1) (12-n)))=(UD (UP j) k).or ((U5 (TG s.1.2 (n+1)).reverse k).or (Ym _ (n+1+1) (12-n)));rw [Vl d,if_pos ⟨a,ht.symm⟩,if_neg (by omega),List.reverse_append,Option.none_or];have e:U5 ([(s.2.2,UP j)].reverse++(TG s.1.2 (n+1)).reverse) k=(UD (UP j) k).or (U5 (TG s.1.2 (n+1)).reverse k):=rfl;rw [e,Option.or_assoc];refine congrArg _ (congrArg _ (Xf _ _ λi hi _ => ?_));rw [Vl d,if_neg (by rintro ⟨_,h⟩;omega),if_neg (by omega)]
 have o:Ym (λi=>U5 (TG s.1.2 i).reverse k) (0+n) (1+(13-n))=((UD c.2 k).or (UD b.2 k)).or (Ym (λi=>U5 (TG s.1.2 i).reverse k) (n+1) (13-n)):=by
  rw [Nat.zero_add,Nat.add_comm 1];show (U5 (TG s.1.2 n).reverse k).or _=_;rw [K];refine congrArg (λz=>Option.or z _) ?_;show (UD c.2 k).or ((UD b.2 k).or none)=_;cases UD b.2 k<;>rfl
 rw [y,o,p k];cases q with
 | false =>
  have:((UD c.2 k).or (UD b.2 k)).filter (λx => !(false&&x.2.2.1))=(UD c.2 k).or (UD b.2 k):=by
   cases (UD c.2 k).or (UD b.2 k)<;>simp [Option.filter]
  rw [this]
 | true =>
  have I:Ym (λi=>U5 (TG s.1.2 i).reverse k) (n+1) (13-n)=none:=by
   rw [Xf (g:=λ_=>none) _ _ λi hi _ => ?_,aR];have:TG s.1.2 i=[]:=by unfold TG;rw [List.getElem?_eq_none (by have:=t rfl;omega)];rfl
   rw [this];rfl
  rw [I];cases A with
  | some x=>rfl
  | none =>
   cases (UD c.2 k).or (UD b.2 k) with
   | none=>rfl
   | some x =>
    cases J:x.2.2.1<;>simp [Option.filter,W9,J]
end
section
open Go Go.Proofs.YtfilfloanndddaaGreat.Sv
end
section
open Go Go.Proofs.YtfilfloanndddaaGreat.Sv
end
section
open Go Go.Proofs.YtfilfloanndddaaGreat.Sv
def UY (l:List Tc):Nat:=(l.map λr=>r.2.length).sum
theorem Wz (r:Tc) (l:List Tc):UY (r::l)=r.2.length+UY l:=by simp [UY]
theorem VT (l m:List Tc):UY (l++m)=UY l+UY m:=by simp [UY]
theorem dT {l:List Tc} (h : ∀ r∈l,r.2.length<=5000):UY l<=l.length*5000:=by
 induction l with
 | nil=>simp [UY]
 | cons r l b =>
  rw [Wz,List.length_cons];have:=h r (by simp);have:=b λx a=>h x (by simp [a]);omega
end
section
open Go Go.Proofs.YtfilfloanndddaaGreat.Sv
end
section
open Go Go.Proofs.YtfilfloanndddaaGreat.Sv
end
section
open Go Go.Proofs.YtfilfloanndddaaGreat.Sv
end
section
open Go Go.Proofs.YtfilfloanndddaaGreat.Sv
end
section
open Go Go.Proofs.YtfilfloanndddaaGreat.Sv
end
section
open Go Go.Proofs.YtfilfloanndddaaGreat.Sv
def Gd (s0 s:TA):Prop:=VSt s/\K7 s.1=K7 s0.1/\UY s.1.2.flatten<=2000
theorem lh {l:List Tc} {r:Tc} (h:r∈l):r.2.length<=UY l:=by
 induction l with
 | nil=>cases h
 | cons x l a =>
  rw [Wz];rcases List.mem_cons.1 h with e | h
  ·rw [e];omega
  ·have:=a h;omega
theorem Yg {L:TB} (h:UY L.2.flatten<=2000):fi L:=λi r a=>by
 have:=lh (Zb.2 ⟨i,a⟩);omega
theorem ai {s:TA} (v:VSt s) (h:fi s.1) {n:Nat} {j:Job} (g:JobAt s.1 n j) (E : ¬ 0<TZ s.1 j):UY (VS s j).2.flatten<=UY s.1.2.flatten:=by
 obtain ⟨G,I,y,J,K⟩:=g.out v.lev (h n);have w:j.1.toNat=n:=by rw [y];simp
 have a:=h n;obtain ⟨d,e,m,k,u,c,x,F,B,C⟩:=g;have i:=XI.1 u;rw [i] at a;have D:=a d (by simp);have f:=a e (by simp)
 have l:(UP j).length<=e.2.length+d.2.length:=by
  rw [c];exact (gL C B m x (by omega)).2
 obtain ⟨p,q,f,o⟩:=XK s.1 n []
 have e1:UY s.1.2.flatten=UY p+((d.2.length+e.2.length)+UY q):=by
  rw [f,i,VT,VT,Wz,Wz];simp [UY]
 have e2:UY (UQ s.1 n []).2.flatten=UY p+UY q:=by rw [o,VT,VT];simp [UY]
 unfold VS;rw [w];by_cases b:UP j=[]
 ·rw [if_pos b];omega
 ·rw [if_neg b];obtain ⟨z,A,r,t⟩:=XK (UQ s.1 n []) (Xm s j) (TG (UQ s.1 n []).2 (Xm s j)++[(s.2.2,UP j)]);have e3:UY (UQ s.1 n []).2.flatten=UY z+(UY (TG (UQ s.1 n []).2 (Xm s j))+UY A):=by rw [r,VT,VT]
  rw [t,VT,VT,VT,Wz];simp only [UY,List.map_nil,List.sum_nil];simp only [UY] at e3 e2 e1;omega
theorem dU {s:TA} (v:VSt s) {d:Int} (h:d∈TI 0 s.1.2) : ∃ (i:Nat) (j:Job) (n:Nat),Ye d 0 (TI 0 s.1.2)=some i/\s.2.1[i]? = some j/\d=(n:Int)/\j.1=(n:Int)/\JobAt s.1 n j:=by
 obtain ⟨i,hi⟩:=aL (k:=0) h;obtain ⟨j,n,a,b,c,d,_⟩:=v.at hi;exact ⟨i,j,n,hi,a,b,c,d⟩
theorem d8 {s0 s:TA} (g:Gd s0 s) {d:Int} (h:d∈TI 0 s.1.2) : ∃ (c:Bool) (t:TA) (b:Bool) (e:Int),W5 (s,d)=some (c,0)/\Tq (s,d)=some (t,(b,e))/\(s.2.2<=1000000->c=decide (e=0))/\(e=0->Gd s0 t):=by
 obtain ⟨v,z,hc⟩:=g;have r:=Yg hc;have m:=v.sm;obtain ⟨i,j,n,hi,y,C,w,q⟩:=dU v h;have A:(TE s).2=0:=TS.2 v;have o:Zr s d=some j:=by unfold Zr;rw [hi];exact y
 have p:W5 (s,d)=some (Vq s.1 j,0):=by
  rw [mX m];unfold Wc;rw [if_neg (by simp [A]),o]
 have k:Tq (s,d)=some (XX s j):=by
  rw [aD m r];unfold VY;rw [if_neg (by simp [A]),o]
 refine ⟨Vq s.1 j,(XX s j).1,(XX s j).2.1,(XX s j).2.2,p,k,?_⟩;unfold XX;by_cases l:Vq s.1 j=false
 ·rw [if_pos l,l];exact ⟨λ_=>by simp,λh=>by cases h⟩
 have a:Vq s.1 j=true:=by simpa using l
 rw [if_neg l];by_cases f:0<TZ s.1 j
 ·rw [if_pos f];refine ⟨λ_=>by simp [a],λ_=>⟨gT v (by rw [w,<- C];exact hi) y q f,z,hc⟩⟩
 rw [if_neg f];unfold YO;rw [if_neg (λh=>h.elim f l)];by_cases u:s.2.2>1000000/\UP j≠[]
 ·rw [if_pos u];exact ⟨λh=>by omega,λh=>by cases h⟩
 rw [if_neg u]
 have x:UP j≠[]->s.2.2<=1000000:=λD=>by
  by_cases B:s.2.2>1000000
  ·exact absurd ⟨B,D⟩ u
  ·omega
 refine ⟨λ_=>by simp [a],λ_=>⟨f8 v r q f a x,?_,?_⟩⟩
 ·exact (eA v r q f a x).trans z
 ·have:=ai v r q f;show UY (VS s j).2.flatten<=2000;omega
theorem aI : ∀ {ls:List (List Tc)} {i n:Nat},(TG ls n).length=2->((i+n:Nat):Int)∈TI i ls
 | [],i,n,h=>by simp [TG] at h
 | rs::ls,i,0,h=>by
  have h':rs.length=2:=h;rw [Xo,if_pos h'];simp
 | rs::ls,i,n+1,h=>by
  rw [Xo];refine List.mem_append_right _ ?_;have:=aI (ls:=ls) (i:=i+1) (n:=n) h
  rwa [show i+1+n=i+(n+1) by omega] at this
end
section
open Go Go.Proofs.YtfilfloanndddaaGreat.Sv
def Wx (f:Nat->Nat):Nat->Nat
 | 0=>0
 | m+1=>Wx f m+f m
theorem Zq {f g:Nat->Nat} : ∀ {m:Nat},(∀ i,i<m->g i<=f i)->Wx g m<=Wx f m
 | 0,_=>Nat.le_refl _
 | m+1,h=>Nat.add_le_add (Zq λi hi=>h i (by omega)) (h m (by omega))
theorem Zp {f g:Nat->Nat} {n:Nat} (a:g n+1<=f n) : ∀ {m:Nat},n<m->(∀ i,i<m->i≠n->g i<=f i)->Wx g m+1<=Wx f m
 | 0,h,_=>absurd h (by omega)
 | m+1,h,ho=>by
  unfold Wx;by_cases e:n=m
  ·subst e;have:=Zq (f:=f) (g:=g) (m:=n) λi hi=>ho i (by omega) (by omega);omega
  ·have:=Zp a (m:=m) (by omega) λi hi=>ho i (by omega);have:=ho m (by omega) (λh=>e h.symm);omega
theorem aC {f g:Nat->Nat} {n:Nat} (a:g n+g (n+1)+1<=f n+f (n+1)) : ∀ {m:Nat},n+1<m->(∀ i,i<m->i≠n->i≠n+1->g i<=f i)->Wx g m+1<=Wx f m
 | 0,h,_=>absurd h (by omega)
 | m+1,h,ho=>by
  unfold Wx;by_cases e:n+1=m
  ·subst e;have:=Zq (f:=f) (g:=g) (m:=n) λi hi=>ho i (by omega) (by omega) (by omega);unfold Wx;omega
  ·have:=aC a (m:=m) (by omega) λi hi=>ho i (by omega);have:=ho m (by omega) (by omega) (by omega);omega
theorem YD : ∀ {js:List Job} {j:Job},(js.map (·.1)).Nodup->j∈js->UL js j.1=some j
 | [],_,_,h=>by cases h
 | i::js,j,hn,h=>by
  rw [List.map_cons,List.nodup_cons] at hn;unfold UL;rw [List.find?_cons];unfold aO;rw [VQ];rcases List.mem_cons.1 h with e | h
  ·subst e;simp
  ·have a : ¬ j.1=i.1:=λe=>hn.1 (by rw [<- e];exact List.mem_map_of_mem h);rw [decide_eq_false a];exact YD hn.2 h
theorem Z0 : ∀ {js:List Job} {i:Nat} {j:Job} (w:XH) (d:Int),(js.map (·.1)).Nodup->js[i]? = some j->UL (js.set i (j.1,w)) d=if d=j.1 then some (j.1,w) else UL js d
 | [],i,j,w,d,_,h=>by simp at h
 | x::js,0,j,w,d,hn,h=>by
  have e:x=j:=by simpa using h
  subst e;unfold UL;rw [List.set_cons_zero,List.find?_cons,List.find?_cons];unfold aO;rw [VQ];by_cases e:d=x.1<;>simp [e]
 | x::js,i+1,j,w,d,hn,h=>by
  rw [List.map_cons,List.nodup_cons] at hn;have h':js[i]? = some j:=by simpa using h
  have b:=Z0 w d hn.2 h';unfold UL at b ⊢;rw [List.set_cons_succ,List.find?_cons,List.find?_cons,b];have c:aO d x=decide (d=x.1):=VQ _ _;rw [c];by_cases e:d=x.1
  ·have a : ¬ d=j.1:=λe2=>hn.1 (by rw [<- e,e2];exact List.mem_map_of_mem (List.mem_of_getElem? h'));rw [decide_eq_true e];simp only [a,if_false]
  ·rw [decide_eq_false e]
theorem VSt.noJob {s:TA} (v:VSt s) {i:Nat} (h:(TG s.1.2 i).length≠2):UL s.2.1 (i:Int)=none:=by
 refine Xp λa=>h ?_;rw [v.due] at a;obtain ⟨n,c,d,e,b⟩:=ZK a;have:i=n:=by omega
 rw [this,XI.1 b];rfl
theorem VSt.hasJob {s:TA} (v:VSt s) {i:Nat} (h:(TG s.1.2 i).length=2) : ∃ j,UL s.2.1 (i:Int)=some j:=by
 have a:=aI (i:=0) h;rw [Nat.zero_add,<- v.due] at a;obtain ⟨j,b,e⟩:=List.mem_map.1 a;exact ⟨j,by rw [<- e];exact YD v.nodup b⟩
theorem mY {s:TA} (v:VSt s) (d:Int):Zr s d=UL s.2.1 d:=by
 by_cases h:d∈TI 0 s.1.2
 ·obtain ⟨j,n,a,b,c,_⟩:=v.atDue h;rw [a,b,<- c];refine (YD v.nodup ?_).symm;unfold Zr at a;split at a
  ·exact List.mem_of_getElem? a
  ·cases a
 ·rw [Xp (by rw [v.due];exact h)];unfold Zr;split
  ·rename_i i hi;have:=(aK hi).2;exact absurd (List.mem_of_getElem? this) h
  ·rfl
def mU (j:Job):Nat:=j.2.2.2.2.toNat
theorem JobAt.rd {L:TB} {n:Nat} {j:Job} (h:JobAt L n j) : ∃ a b,TG L.2 n=[a,b]/\mU j<=b.2.length+a.2.length/\TZ L j=b.2.length+a.2.length-mU j/\(0<TZ L j->mU (j.1,Xy L j)=mU j+1):=by
 obtain ⟨a,b,c,k,d,rfl,f,g,i,l⟩:=h;have e:=XI.1 d;have e1:(U7 b.2 a.2 c k).2.1.2.2=c:=ZO _ _ _ _;have e2:(U7 b.2 a.2 c k).2.2.2.toNat=k:=by show ((k:Int)).toNat=k;rw [Int.toNat_natCast]
 refine ⟨a,b,e,?_,?_,λ_ => ?_⟩
 ·show (U7 b.2 a.2 c k).2.2.2.toNat<=_;rw [e2];exact f
 ·unfold TZ mU;simp only [Int.toNat_natCast,d]
 ·show (Xy L ((n:Int),U7 b.2 a.2 c k)).2.2.2.toNat=(U7 b.2 a.2 c k).2.2.2.toNat+1;unfold Xy;simp only [Int.toNat_natCast,e];rw [e1,e2];show (((k+1:Nat):Int)).toNat=_;rw [Int.toNat_natCast]
structure StepF (s:TA) (n:Nat) (j:Job) (t:TA) (b:Bool):Prop where
 job:UL s.2.1 (n:Int)=some j
 read:0<TZ s.1 j->b=false/\t.1=s.1/\t.2.2=s.2.2 /\ ∀ i:Nat,UL t.2.1 (i:Int)=if i=n then some (j.1,Xy s.1 j) else UL s.2.1 (i:Int)
 inst:TZ s.1 j=0->b=true/\t.1=VS s j/\t.2.2=XY s j/\(∀ i,(TG t.1.2 i)=if UP j≠[]/\i=Xm s j then (if i=n then [] else TG s.1.2 i)++[(s.2.2,UP j)] else if i=n then [] else TG s.1.2 i)/\(Xm s j=n\/Xm s j=n+1/\n+1<12/\(UP j≠[]->(TG s.1.2 (n+1)).length<2)) /\
  ∀ i:Nat,UL t.2.1 (i:Int)=if (TG t.1.2 i).length=2 then some ((if i=n then none else UL s.2.1 (i:Int)).getD (WI t.1 (i:Int))) else none
theorem cF {s0 s:TA} (g:Gd s0 s) {d:Int} (h:d∈TI 0 s.1.2) (e:(VY s d).2.2=0) : ∃ (n:Nat) (j:Job),d=(n:Int)/\n<12/\JobAt s.1 n j/\Vq s.1 j=true/\StepF s n j (VY s d).1 (VY s d).2.1/\Gd s0 (VY s d).1:=by
 obtain ⟨v,Z,hc⟩:=g;have X:=Yg hc;have m:=v.sm;obtain ⟨c,t,b,er,_,K,_,Y⟩:=d8 ⟨v,Z,hc⟩ h;rw [aD m X] at K;have w:=Option.some.inj K;obtain ⟨i,j,n,hi,U,D,u,S⟩:=dU v h;have hz:(TE s).2=0:=TS.2 v;have C:Zr s d=some j:=by unfold Zr;rw [hi];exact U
 have hn:n<12:=by
  have:=v.lev.len;obtain ⟨_,_,_,_,W,_⟩:=S;have:=(List.getElem?_eq_some_iff.1 W).1;omega
 have F:UL s.2.1 (n:Int)=some j:=by rw [<- D,<- mY v,C]
 have hS:VY s d=XX s j:=by unfold VY;rw [if_neg (by simp [hz]),C]
 have A:Gd s0 (VY s d).1:=by rw [w];exact Y (by rw [<- e,w])
 have k:=A.1;rw [hS] at e k A ⊢;refine ⟨n,j,D,hn,S,?_,⟨F,λO => ?_,λO => ?_⟩,A⟩
 ·unfold XX at e;by_cases a:Vq s.1 j=false
  ·rw [if_pos a] at e;cases e
  ·simpa using a
 ·unfold XX at e ⊢;have a : ¬ Vq s.1 j=false:=λa=>by rw [if_pos a] at e;cases e
  rw [if_neg a,if_pos O];refine ⟨rfl,rfl,rfl,λo => ?_⟩;show UL (Yq s j).2.1 _=_;unfold Yq;rw [u,<- D,hi,Option.getD_some];show UL (s.2.1.set i (d,Xy s.1 j)) _=_;have:=Z0 (Xy s.1 j) (o:Int) v.nodup U;rw [u,<- D] at this;rw [this,D];by_cases p:o=n
  ·rw [if_pos (by rw [p]),if_pos p]
  ·rw [if_neg (by omega),if_neg p]
 ·unfold XX at e k ⊢;have a : ¬ Vq s.1 j=false:=λa=>by rw [if_pos a] at e;cases e
  have q:Vq s.1 j=true:=by simpa using a
  have z : ¬ 0<TZ s.1 j:=by omega
  rw [if_neg a,if_neg z] at e k ⊢;unfold YO at e k ⊢;rw [if_neg (λh=>h.elim z a)] at e k ⊢;by_cases P:s.2.2>1000000/\UP j≠[]
  ·rw [if_pos P] at e;cases e
  rw [if_neg P] at e k ⊢;have B:j.1.toNat=n:=by rw [u];simp
  have I : ∀ i,TG (VS s j).2 i=_:=λi=>Vl (s:=s) (j:=j) B i;refine ⟨rfl,rfl,rfl,I,?_,λo => ?_⟩
  ·unfold Xm;rw [B];by_cases hs:Vg s.1 j=true
   ·rw [if_pos hs];exact .inl rfl
   ·rw [if_neg hs]
    have hr:YQ s.1 (n+1)=true:=by
     unfold Vq at q;rw [B] at q;simpa [hs,z] using q
    have J:=of_decide_eq_true hr;exact .inr ⟨rfl,J.1,λ_=>J.2⟩
  ·have r:VSt (YA s (VS s j) (XY s j) j.1):=k;show UL (YA s (VS s j) (XY s j) j.1).2.1 (o:Int)=if (TG (VS s j).2 o).length=2 then some ((if o=n then none else UL s.2.1 (o:Int)).getD (WI (VS s j) (o:Int))) else none
   have ho:(TG (YA s (VS s j) (XY s j) j.1).1.2 o)=TG (VS s j).2 o:=rfl;by_cases L:(TG (VS s j).2 o).length=2
   ·rw [if_pos L];have N:=aI (i:=0) L;rw [Nat.zero_add] at N;have G:WV s (VS s j) j.1 (o:Int)∈(YA s (VS s j) (XY s j) j.1).2.1:=List.mem_map_of_mem N
    have E:(WV s (VS s j) j.1 (o:Int)).1=(o:Int):=by
     have M:(TI 0 (VS s j).2).map (λd=>(WV s (VS s j) j.1 d).1)=TI 0 (VS s j).2:=by
      have:=r.due;simpa [YA,List.map_map,Function.comp_def] using this
     have key : ∀ {l:List Int} {f:Int->Int},l.map f=l -> ∀ x∈l,f x=x:=by
      intro l f
      induction l with
      | nil=>intro _ x hx;cases hx
      | cons y l ih =>
       intro h x hx;rw [List.map_cons] at h;obtain ⟨k1,k2⟩:=List.cons.inj h;rcases List.mem_cons.1 hx with rfl | hx
       ·exact k1
       ·exact ih k2 x hx
     exact key M _ N
    have:=YD r.nodup G;rw [E] at this;rw [this];unfold WV;rw [u];by_cases p:o=n
    ·rw [if_pos (by omega),if_pos p]
    ·rw [if_neg (by omega),if_neg p]
   ·rw [if_neg L];exact r.noJob (by rw [ho];exact L)
end
section
open Go Go.Proofs.YtfilfloanndddaaGreat.Sv
def ld (s:TA) (i:Nat):Nat:=match UL s.2.1 (i:Int) with
 | some j=>mU j
 | none=>0
def bW (N:Nat) (s:TA) (i:Nat):Nat:=(TG s.1.2 i).length*(N+1)-ld s i
def aU (N:Nat) (s:TA):Nat:=Wx (bW N s) 12
theorem lj {L:TB} {n:Nat} {a b:Tc} (h:TG L.2 n=[a,b]):a.2.length+b.2.length<=UY L.2.flatten:=by
 obtain ⟨p,q,c,_⟩:=XK L n [];rw [c,h,VT,VT,Wz,Wz];omega
theorem VSt.rd0 {s:TA} (v:VSt s) {i:Nat} (h:(TG s.1.2 i).length≠2):ld s i=0:=by
 unfold ld;rw [v.noJob h]
theorem gN {N:Nat} {s t:TA} {n:Nat} {j:Job} {b:Bool} (v:VSt s) (A:UY s.1.2.flatten<=N) (q:n<12) (x:JobAt s.1 n j) (F:StepF s n j t b):aU N t+1<=aU N s:=by
 obtain ⟨D,E,l,B,C,y⟩:=x.rd;have hc:=lj l
 have hs:bW N s n=2*(N+1)-mU j:=by
  unfold bW ld;rw [F.job,l];rfl
 by_cases o:0<TZ s.1 j
 ·obtain ⟨_,e1,_,e2⟩:=F.read o;refine Zp (n:=n) ?_ q λi _ a => ?_
  ·have m:bW N t n=2*(N+1)-(mU j+1):=by
    unfold bW ld;rw [e2,if_pos rfl,e1,l,<- y o];rfl
   omega
  ·unfold bW ld;rw [e2,if_neg a,e1];exact Nat.le_refl _
 ·obtain ⟨_,e1,_,e2,e3,e4⟩:=F.inst (by omega)
  have d : ∀ i,i≠n -> ¬ (UP j≠[]/\i=Xm s j)->bW N t i<=bW N s i:=λi a hit=>by
   have e:TG t.1.2 i=TG s.1.2 i:=by rw [e2,if_neg hit,if_neg a]
   have c:ld t i=ld s i:=by
    by_cases c:(TG s.1.2 i).length=2
    ·obtain ⟨j',k⟩:=v.hasJob c;unfold ld;rw [e4,e,if_pos c,if_neg a,k];rfl
    ·rw [v.rd0 c];unfold ld;rw [e4,e,if_neg c]
   unfold bW;rw [e,c];exact Nat.le_refl _
  by_cases m:UP j≠[]/\Xm s j≠n
  ·obtain ⟨p,r⟩:=m;rcases e3 with e3 | ⟨e3,f,c⟩
   ·exact absurd e3 r
   have c:=c p;refine aC (n:=n) ?_ f λi _ a g=>d i a (by rw [e3];exact λh=>g h.2)
   have u:bW N t n=0:=by
    unfold bW;rw [e2,if_neg (by rw [e3];omega),if_pos rfl];simp
   have w:bW N t (n+1)<=((TG s.1.2 (n+1)).length+1)*(N+1):=by
    unfold bW;rw [e2,if_pos ⟨p,e3.symm⟩,if_neg (by omega),List.length_append];exact Nat.sub_le _ _
   have z:bW N s (n+1)=(TG s.1.2 (n+1)).length*(N+1):=by
    unfold bW;rw [v.rd0 (by omega)];rfl
   rw [Nat.add_mul] at w;omega
  ·refine Zp (n:=n) ?_ q λi _ a=>d i a (λh=>m ⟨h.1,by rw [<- h.2];exact a⟩)
   have u:bW N t n<=1*(N+1):=by
    refine Nat.le_trans (Nat.sub_le _ _) (Nat.mul_le_mul_right _ ?_);rw [e2,if_pos rfl];split<;>simp
   omega
theorem aa (L:List (List Tc)) : ∀ m,Wx (λi=>(TG L i).length) m=(L.take m).flatten.length
 | 0=>by simp [Wx]
 | m+1=>by
  unfold Wx;rw [aa L m];by_cases h:m<L.length
  ·have:L.take (m+1)=L.take m++[TG L m]:=by
    rw [List.take_add_one,Vt h];rfl
   rw [this,List.flatten_append];simp
  ·have:TG L m=[]:=by unfold TG;rw [List.getElem?_eq_none (by omega)];rfl
   rw [this,List.take_of_length_le (by omega),List.take_of_length_le (by omega)];simp
theorem dm (f:Nat->Nat) (c:Nat) : ∀ m,Wx (λi=>f i*c) m=Wx f m*c
 | 0=>by simp [Wx]
 | m+1=>by unfold Wx;rw [dm f c m,Nat.add_mul]
theorem mf (N:Nat) {s:TA} (v:VSt s):aU N s<=s.1.2.flatten.length*(N+1):=by
 have a:aU N s<=Wx (λi=>(TG s.1.2 i).length*(N+1)) 12:=Zq λi _=>Nat.sub_le _ _;have:=v.lev.len;rw [dm,aa,List.take_of_length_le (by omega)] at a;exact a
theorem fy {L:TB} (v:VLev L):L.2.flatten.length<=24:=by
 have h:=aa L.2 12;have:=v.len;rw [List.take_of_length_le (by omega)] at h;rw [<- h];exact Zq (f:=λ_=>2) λi _=>(v.own i).1
end
section
open Go Go.Proofs.YtfilfloanndddaaGreat.Sv
set_option linter.unusedVariables false
abbrev ab:=(Int×(Int×(Int×fh)))
def dx (a:fh) (k l:Nat):fh :=
 (Sw (neq l 0) (Rl .i64 (OO [a.1,a.2.1,a.2.2.1,a.2.2.2.1,a.2.2.2.2.1,a.2.2.2.2.2.1,a.2.2.2.2.2.2.1,a.2.2.2.2.2.2.2.1,a.2.2.2.2.2.2.2.2.1,a.2.2.2.2.2.2.2.2.2.1,a.2.2.2.2.2.2.2.2.2.2.1,a.2.2.2.2.2.2.2.2.2.2.2] k) 1) a.1,(Sw (neq l 1) (Rl .i64 (OO [a.1,a.2.1,a.2.2.1,a.2.2.2.1,a.2.2.2.2.1,a.2.2.2.2.2.1,a.2.2.2.2.2.2.1,a.2.2.2.2.2.2.2.1,a.2.2.2.2.2.2.2.2.1,a.2.2.2.2.2.2.2.2.2.1,a.2.2.2.2.2.2.2.2.2.2.1,a.2.2.2.2.2.2.2.2.2.2.2] k) 1) a.2.1,(Sw (neq l 2) (Rl .i64 (OO [a.1,a.2.1,a.2.2.1,a.2.2.2.1,a.2.2.2.2.1,a.2.2.2.2.2.1,a.2.2.2.2.2.2.1,a.2.2.2.2.2.2.2.1,a.2.2.2.2.2.2.2.2.1,a.2.2.2.2.2.2.2.2.2.1,a.2.2.2.2.2.2.2.2.2.2.1,a.2.2.2.2.2.2.2.2.2.2.2] k) 1) a.2.2.1,(Sw (neq l 3) (Rl .i64 (OO [a.1,a.2.1,a.2.2.1,a.2.2.2.1,a.2.2.2.2.1,a.2.2.2.2.2.1,a.2.2.2.2.2.2.1,a.2.2.2.2.2.2.2.1,a.2.2.2.2.2.2.2.2.1,a.2.2.2.2.2.2.2.2.2.1,a.2.2.2.2.2.2.2.2.2.2.1,a.2.2.2.2.2.2.2.2.2.2.2] k) 1) a.2.2.2.1,(Sw (neq l 4) (Rl .i64 (OO [a.1,a.2.1,a.2.2.1,a.2.2.2.1,a.2.2.2.2.1,a.2.2.2.2.2.1,a.2.2.2.2.2.2.1,a.2.2.2.2.2.2.2.1,a.2.2.2.2.2.2.2.2.1,a.2.2.2.2.2.2.2.2.2.1,a.2.2.2.2.2.2.2.2.2.2.1,a.2.2.2.2.2.2.2.2.2.2.2] k) 1) a.2.2.2.2.1,(Sw (neq l 5) (Rl .i64 (OO [a.1,a.2.1,a.2.2.1,a.2.2.2.1,a.2.2.2.2.1,a.2.2.2.2.2.1,a.2.2.2.2.2.2.1,a.2.2.2.2.2.2.2.1,a.2.2.2.2.2.2.2.2.1,a.2.2.2.2.2.2.2.2.2.1,a.2.2.2.2.2.2.2.2.2.2.1,a.2.2.2.2.2.2.2.2.2.2.2] k) 1) a.2.2.2.2.2.1,(Sw (neq l 6) (Rl .i64 (OO [a.1,a.2.1,a.2.2.1,a.2.2.2.1,a.2.2.2.2.1,a.2.2.2.2.2.1,a.2.2.2.2.2.2.1,a.2.2.2.2.2.2.2.1,a.2.2.2.2.2.2.2.2.1,a.2.2.2.2.2.2.2.2.2.1,a.2.2.2.2.2.2.2.2.2.2.1,a.2.2.2.2.2.2.2.2.2.2.2] k) 1) a.2.2.2.2.2.2.1,(Sw (neq l 7) (Rl .i64 (OO [a.1,a.2.1,a.2.2.1,a.2.2.2.1,a.2.2.2.2.1,a.2.2.2.2.2.1,a.2.2.2.2.2.2.1,a.2.2.2.2.2.2.2.1,a.2.2.2.2.2.2.2.2.1,a.2.2.2.2.2.2.2.2.2.1,a.2.2.2.2.2.2.2.2.2.2.1,a.2.2.2.2.2.2.2.2.2.2.2] k) 1) a.2.2.2.2.2.2.2.1,(Sw (neq l 8) (Rl .i64 (OO [a.1,a.2.1,a.2.2.1,a.2.2.2.1,a.2.2.2.2.1,a.2.2.2.2.2.1,a.2.2.2.2.2.2.1,a.2.2.2.2.2.2.2.1,a.2.2.2.2.2.2.2.2.1,a.2.2.2.2.2.2.2.2.2.1,a.2.2.2.2.2.2.2.2.2.2.1,a.2.2.2.2.2.2.2.2.2.2.2] k) 1) a.2.2.2.2.2.2.2.2.1,(Sw (neq l 9) (Rl .i64 (OO [a.1,a.2.1,a.2.2.1,a.2.2.2.1,a.2.2.2.2.1,a.2.2.2.2.2.1,a.2.2.2.2.2.2.1,a.2.2.2.2.2.2.2.1,a.2.2.2.2.2.2.2.2.1,a.2.2.2.2.2.2.2.2.2.1,a.2.2.2.2.2.2.2.2.2.2.1,a.2.2.2.2.2.2.2.2.2.2.2] k) 1) a.2.2.2.2.2.2.2.2.2.1,(Sw (neq l 10) (Rl .i64 (OO [a.1,a.2.1,a.2.2.1,a.2.2.2.1,a.2.2.2.2.1,a.2.2.2.2.2.1,a.2.2.2.2.2.2.1,a.2.2.2.2.2.2.2.1,a.2.2.2.2.2.2.2.2.1,a.2.2.2.2.2.2.2.2.2.1,a.2.2.2.2.2.2.2.2.2.2.1,a.2.2.2.2.2.2.2.2.2.2.2] k) 1) a.2.2.2.2.2.2.2.2.2.2.1,Sw (neq l 11) (Rl .i64 (OO [a.1,a.2.1,a.2.2.1,a.2.2.2.1,a.2.2.2.2.1,a.2.2.2.2.2.1,a.2.2.2.2.2.2.1,a.2.2.2.2.2.2.2.1,a.2.2.2.2.2.2.2.2.1,a.2.2.2.2.2.2.2.2.2.1,a.2.2.2.2.2.2.2.2.2.2.1,a.2.2.2.2.2.2.2.2.2.2.2] k) 1) a.2.2.2.2.2.2.2.2.2.2.2)))))))))))
def Vj (x:Unit):Option (TB×((List (Int×(TC×((Bool×TD)×((List S8)×Int)))))×Int)) :=
 bd (YV ((2,[[(1,[([(97:UInt8)],([],(false,1)))]),(2,[([(98:UInt8)],([],(false,2)))])]]))) λa=>some a.1
def Wf (x:(Int×Bool)):Option Unit :=
 some ()
def XO (x:((TB×((List (Int×(TC×((Bool×TD)×((List S8)×Int)))))×Int))×Int)):Option ((TB×((List (Int×(TC×((Bool×TD)×((List S8)×Int)))))×Int))×(ab×Int)) :=
 bd (UT x.1) λi=>br (RT i.2 0) (λ_=>br (RT i.2 0) (λ_=>some ((((0,[]),([],0)),((0,(0,(0,(0,(0,(0,(0,(0,(0,(0,(0,(0,(0,(0,0)))))))))))))),i.2)))) λ_=>br (SU x.2 0) (λ_=>bd (loop (β:=(Nat×(Unit×Unit))) (λs1=>none) ()) λj=>none) λ_=>none) λ_=>br (SW x.2 0) (λ_=>some ((((0,[]),([],0)),((0,(0,(0,(0,(0,(0,(0,(0,(0,(0,(0,(0,(0,(0,0)))))))))))))),7)))) λ_=>br (SU x.2 1000000) (λ_=>some ((((0,[]),([],0)),((0,(0,(0,(0,(0,(0,(0,(0,(0,(0,(0,(0,(0,(0,0)))))))))))))),7)))) λ_=>br (SU x.2 0) (λ_=>bd (loop (λ(a:((Int×((List (List Tc))×((List (Int×(TC×((Bool×TD)×((List S8)×Int)))))×(Int×Int))))×ab))=>bd (UE (((a.1.1,a.1.2.1),(a.1.2.2.1,a.1.2.2.2.1)))) λd=>br (RR d.2 4) (λ_=>some (.dn ((0,(a,()))))) λ_=>br (RR d.2 0) (λ_=>bd (Tq ((((a.1.1,a.1.2.1),(a.1.2.2.1,a.1.2.2.2.1)),d.1))) λc=>br (RT c.2.2 0) (λ_=>some (.dn ((0,(((a.1.1,(a.1.2.1,(a.1.2.2.1,(a.1.2.2.2.1,c.2.2)))),a.2),()))))) λ_=>bd (Wf (d.1,c.2.1)) λk=>RX d.1 λg=>gd (KC g 12) λ_=>RX d.1 λh=>gd (KC h 12) λ_=>br c.2.1 (λ_=>br (RR (Rl .i64 a.2.1 1) x.2) (λ_=>some (.dn ((1,(((c.1.1.1,(c.1.1.2,(c.1.2.1,(c.1.2.2,c.2.2)))),(Rl .i64 a.2.1 1,(a.2.2.1,(Rl .i64 a.2.2.2.1 1,(dx a.2.2.2.2 g h))))),()))))) λ_=>some (.nx (((c.1.1.1,(c.1.1.2,(c.1.2.1,(c.1.2.2,c.2.2)))),(Rl .i64 a.2.1 1,(a.2.2.1,(Rl .i64 a.2.2.2.1 1,(dx a.2.2.2.2 g h)))))))) λ_=>br (RR (Rl .i64 a.2.1 1) x.2) (λ_=>some (.dn ((1,(((c.1.1.1,(c.1.1.2,(c.1.2.1,(c.1.2.2,c.2.2)))),(Rl .i64 a.2.1 1,(a.2.2.1,(a.2.2.2.1,(dx a.2.2.2.2 g h))))),()))))) λ_=>some (.nx (((c.1.1.1,(c.1.1.2,(c.1.2.1,(c.1.2.2,c.2.2)))),(Rl .i64 a.2.1 1,(a.2.2.1,(a.2.2.2.1,(dx a.2.2.2.2 g h)))))))) λ_=>br (RT d.2 0) (λ_=>some (.dn ((0,(((a.1.1,(a.1.2.1,(a.1.2.2.1,(a.1.2.2.2.1,d.2)))),a.2),()))))) λ_=>bd (Wf (d.1,false)) λl=>RX d.1 λe=>gd (KC e 12) λ_=>RX d.1 λf=>gd (KC f 12) λ_=>br (RR (Rl .i64 a.2.1 1) x.2) (λ_=>some (.dn ((1,(((0,([],([],(0,d.2)))),(Rl .i64 a.2.1 1,(a.2.2.1,(a.2.2.2.1,(dx a.2.2.2.2 e f))))),()))))) λ_=>some (.nx (((0,([],([],(0,d.2)))),(Rl .i64 a.2.1 1,(a.2.2.1,(a.2.2.2.1,(dx a.2.2.2.2 e f)))))))) (((x.1.1.1,(x.1.1.2,(x.1.2.1,(x.1.2.2,0)))),(0,(0,(0,(0,(0,(0,(0,(0,(0,(0,(0,(0,(0,(0,0))))))))))))))))) λb=>br (neq b.1 0) (λ_=>br (RT b.2.1.1.2.2.2.2 0) (λ_=>some ((((0,[]),([],0)),((0,(0,(0,(0,(0,(0,(0,(0,(0,(0,(0,(0,(0,(0,0)))))))))))))),b.2.1.1.2.2.2.2)))) λ_=>some ((((b.2.1.1.1,b.2.1.1.2.1),(b.2.1.1.2.2.1,b.2.1.1.2.2.2.1)),((b.2.1.2.1,(Rp .i64 x.2 b.2.1.2.1,b.2.1.2.2.2)),0)))) λ_=>br (RT b.2.1.1.2.2.2.2 0) (λ_=>some ((((0,[]),([],0)),((0,(0,(0,(0,(0,(0,(0,(0,(0,(0,(0,(0,(0,(0,0)))))))))))))),b.2.1.1.2.2.2.2)))) λ_=>some ((((b.2.1.1.1,b.2.1.1.2.1),(b.2.1.1.2.2.1,b.2.1.1.2.2.2.1)),((b.2.1.2.1,(Rp .i64 x.2 b.2.1.2.1,b.2.1.2.2.2)),0)))) λ_=>some ((x.1,((0,(Rp .i64 x.2 0,(0,(0,(0,(0,(0,(0,(0,(0,(0,(0,(0,(0,0)))))))))))))),0)))
def XN (x:((TB×((List (Int×(TC×((Bool×TD)×((List S8)×Int)))))×Int))×Int)):Option ((List Int)×Int) :=
 bd (UT x.1) λi=>br (RT i.2 0) (λ_=>br (RT i.2 0) (λ_=>some ([],i.2)) λ_=>br (SU x.2 0) (λ_=>bd (loop (β:=(Nat×(Unit×Unit))) (λs1=>none) ()) λj=>none) λ_=>none) λ_=>br (SW x.2 0) (λ_=>some ([],7)) λ_=>br (SU x.2 1000000) (λ_=>some ([],7)) λ_=>br (SU x.2 0) (λ_=>bd (loop (λ(a:((Int×((List (List Tc))×((List (Int×(TC×((Bool×TD)×((List S8)×Int)))))×(Int×Int))))×((List Int)×ab)))=>bd (UE (((a.1.1,a.1.2.1),(a.1.2.2.1,a.1.2.2.2.1)))) λc=>br (RR c.2 4) (λ_=>some (.dn ((0,(a,()))))) λ_=>br (RR c.2 0) (λ_=>bd (Tq ((((a.1.1,a.1.2.1),(a.1.2.2.1,a.1.2.2.2.1)),c.1))) λb=>br (RT b.2.2 0) (λ_=>some (.dn ((0,(((a.1.1,(a.1.2.1,(a.1.2.2.1,(a.1.2.2.2.1,b.2.2)))),a.2),()))))) λ_=>gd (CD (BD (AS a.2.1) (AS [c.1])) 1048576) λ_=>RX c.1 λe=>gd (KC e 12) λ_=>RX c.1 λf=>gd (KC f 12) λ_=>br b.2.1 (λ_=>br (RR (Rl .i64 a.2.2.1 1) x.2) (λ_=>some (.dn ((1,(((b.1.1.1,(b.1.1.2,(b.1.2.1,(b.1.2.2,b.2.2)))),(Ik a.2.1 [c.1],(Rl .i64 a.2.2.1 1,(a.2.2.2.1,(Rl .i64 a.2.2.2.2.1 1,(dx a.2.2.2.2.2 e f)))))),()))))) λ_=>some (.nx (((b.1.1.1,(b.1.1.2,(b.1.2.1,(b.1.2.2,b.2.2)))),(Ik a.2.1 [c.1],(Rl .i64 a.2.2.1 1,(a.2.2.2.1,(Rl .i64 a.2.2.2.2.1 1,(dx a.2.2.2.2.2 e f))))))))) λ_=>br (RR (Rl .i64 a.2.2.1 1) x.2) (λ_=>some (.dn ((1,(((b.1.1.1,(b.1.1.2,(b.1.2.1,(b.1.2.2,b.2.2)))),(Ik a.2.1 [c.1],(Rl .i64 a.2.2.1 1,(a.2.2.2.1,(a.2.2.2.2.1,(dx a.2.2.2.2.2 e f)))))),()))))) λ_=>some (.nx (((b.1.1.1,(b.1.1.2,(b.1.2.1,(b.1.2.2,b.2.2)))),(Ik a.2.1 [c.1],(Rl .i64 a.2.2.1 1,(a.2.2.2.1,(a.2.2.2.2.1,(dx a.2.2.2.2.2 e f))))))))) λ_=>br (RT c.2 0) (λ_=>some (.dn ((0,(((a.1.1,(a.1.2.1,(a.1.2.2.1,(a.1.2.2.2.1,c.2)))),a.2),()))))) λ_=>gd (CD (BD (AS a.2.1) (AS [c.1])) 1048576) λ_=>RX c.1 λg=>gd (KC g 12) λ_=>RX c.1 λh=>gd (KC h 12) λ_=>br (RR (Rl .i64 a.2.2.1 1) x.2) (λ_=>some (.dn ((1,(((0,([],([],(0,c.2)))),(Ik a.2.1 [c.1],(Rl .i64 a.2.2.1 1,(a.2.2.2.1,(a.2.2.2.2.1,(dx a.2.2.2.2.2 g h)))))),()))))) λ_=>some (.nx (((0,([],([],(0,c.2)))),(Ik a.2.1 [c.1],(Rl .i64 a.2.2.1 1,(a.2.2.2.1,(a.2.2.2.2.1,(dx a.2.2.2.2.2 g h))))))))) (((x.1.1.1,(x.1.1.2,(x.1.2.1,(x.1.2.2,0)))),([],(0,(0,(0,(0,(0,(0,(0,(0,(0,(0,(0,(0,(0,(0,0)))))))))))))))))) λd=>br (neq d.1 0) (λ_=>br (RT d.2.1.1.2.2.2.2 0) (λ_=>some ([],d.2.1.1.2.2.2.2)) λ_=>some (d.2.1.2.1,0)) λ_=>br (RT d.2.1.1.2.2.2.2 0) (λ_=>some ([],d.2.1.1.2.2.2.2)) λ_=>some (d.2.1.2.1,0)) λ_=>some ([],0)
def Vm (x:((TB×((List (Int×(TC×((Bool×TD)×((List S8)×Int)))))×Int))×Int)):Option (Int×Int) :=
 bd (UT x.1) λd=>br (RT d.2 0) (λ_=>br (RT d.2 0) (λ_=>some (0,d.2)) λ_=>br (SW x.2 0) (λ_=>some (0,7)) λ_=>br (RS x.2 12) (λ_=>some (0,7)) λ_=>bd (VC x) λf=>br (RT f.2 0) (λ_=>some (0,f.2)) λ_=>bd (loop (β:=(Nat×(Unit×Unit))) (λs2=>none) ()) λh=>none) λ_=>br (SW x.2 0) (λ_=>some (0,7)) λ_=>br (RS x.2 12) (λ_=>some (0,7)) λ_=>bd (VC x) λg=>br (RT g.2 0) (λ_=>some (0,g.2)) λ_=>bd (loop (λ(a:((Int×((List (List Tc))×((List (Int×(TC×((Bool×TD)×((List S8)×Int)))))×(Int×Int))))×(Int×Int)))=>bd (UE (((a.1.1,a.1.2.1),(a.1.2.2.1,a.1.2.2.2.1)))) λc=>br (RR c.2 4) (λ_=>some (.dn ((0,(a,()))))) λ_=>br (RR c.2 0) (λ_=>bd (Tq ((((a.1.1,a.1.2.1),(a.1.2.2.1,a.1.2.2.2.1)),c.1))) λb=>br (RT b.2.2 0) (λ_=>some (.dn ((0,(((a.1.1,(a.1.2.1,(a.1.2.2.1,(a.1.2.2.2.1,b.2.2)))),a.2),()))))) λ_=>br (NX (RR c.1 x.2) (NX (beq b.2.1 true) true)) (λ_=>some (.dn ((1,(((b.1.1.1,(b.1.1.2,(b.1.2.1,(b.1.2.2,b.2.2)))),(Rl .i64 a.2.1 1,0)),()))))) λ_=>some (.nx (((b.1.1.1,(b.1.1.2,(b.1.2.1,(b.1.2.2,b.2.2)))),(Rl .i64 a.2.1 1,a.2.2))))) λ_=>br (RT c.2 0) (λ_=>some (.dn ((0,(((a.1.1,(a.1.2.1,(a.1.2.2.1,(a.1.2.2.2.1,c.2)))),a.2),()))))) λ_=>br (NX (RR c.1 x.2) (NX (beq false true) true)) (λ_=>some (.dn ((1,(((0,([],([],(0,c.2)))),(Rl .i64 a.2.1 1,0)),()))))) λ_=>some (.nx (((0,([],([],(0,c.2)))),(Rl .i64 a.2.1 1,a.2.2))))) (((x.1.1.1,(x.1.1.2,(x.1.2.1,(x.1.2.2,0)))),(0,0)))) λe=>br (neq e.1 0) (λ_=>some (0,e.2.1.1.2.2.2.2)) λ_=>some e.2.1.2
def WM (x:Unit):Option Bool :=
 bd (Vj ()) λd=>bd (XO (d,5)) λa=>bd (Vj ()) λe=>bd (XN (e,5)) λb=>bd (Vj ()) λf=>bd (Vm (f,0)) λc=>br (RR a.2.2 0) (λ_=>br (RR b.2 0) (λ_=>br (RR c.2 0) (λ_=>br (NX (RR a.2.1.1 3) (NX (RR a.2.1.2.1 2) (NX (RR a.2.1.2.2.1 1) (NX (NX (RR a.2.1.2.2.2.1 (Sw true 3 0)) (NX (RR a.2.1.2.2.2.2.1 (Sw false 3 0)) (NX (RR a.2.1.2.2.2.2.2.1 (Sw false 3 0)) (NX (RR a.2.1.2.2.2.2.2.2.1 (Sw false 3 0)) (NX (RR a.2.1.2.2.2.2.2.2.2.1 (Sw false 3 0)) (NX (RR a.2.1.2.2.2.2.2.2.2.2.1 (Sw false 3 0)) (NX (RR a.2.1.2.2.2.2.2.2.2.2.2.1 (Sw false 3 0)) (NX (RR a.2.1.2.2.2.2.2.2.2.2.2.2.1 (Sw false 3 0)) (NX (RR a.2.1.2.2.2.2.2.2.2.2.2.2.2.1 (Sw false 3 0)) (NX (RR a.2.1.2.2.2.2.2.2.2.2.2.2.2.2.1 (Sw false 3 0)) (NX (RR a.2.1.2.2.2.2.2.2.2.2.2.2.2.2.2.1 (Sw false 3 0)) (NX (RR a.2.1.2.2.2.2.2.2.2.2.2.2.2.2.2.2 (Sw false 3 0)) true)))))))))))) true)))) (λ_=>br (RR (Kb (AS a.1.2.1)) 0) (λ_=>br (RR (Kb (AS b.1)) 3) (λ_=>some (RR c.1 3)) λ_=>some false) λ_=>some false) λ_=>some false) λ_=>some false) λ_=>some false) λ_=>some false
def UU (x:(TB×((List (Int×(TC×((Bool×TD)×((List S8)×Int)))))×Int))):Option ((TB×((List (Int×(TC×((Bool×TD)×((List S8)×Int)))))×Int))×(Int×(Bool×Int))) :=
 bd (WE x) λa=>br (RT a.2 0) (λ_=>some ((x,(0,(false,a.2))))) λ_=>bd (Vf (x,a.1)) λb=>some ((b.1,(a.1,b.2)))
def Wr (x:((TB×((List (Int×(TC×((Bool×TD)×((List S8)×Int)))))×Int))×Int)):Option (Int×Int) :=
 bd (U0 x.1) λh=>br (RR h.2 0) (λ_=>br (SW x.2 0) (λ_=>some (0,7)) λ_=>br (RS x.2 12) (λ_=>some (0,7)) λ_=>br (RR h.2 0) (λ_=>bd (To x) λk=>br (RT k.2 0) (λ_=>some (0,k.2)) λ_=>bd (loop (λ(s2:(Int×(Int×(Int×(Int×((List (List Tc))×((List (Int×(TC×((Bool×TD)×((List S8)×Int)))))×Int)))))))=>bd (UU (((s2.2.2.2.1,s2.2.2.2.2.1),s2.2.2.2.2.2))) λf=>br (RT f.2.2.2 0) (λ_=>some (.dn ((0,((f.2.2.2,(0,s2.2.2)),()))))) λ_=>br (RR f.2.1 x.2) (λ_=>br f.2.2.1 (λ_=>some (.dn ((0,((0,(s2.2.2.1,s2.2.2)),()))))) λ_=>some (.nx ((s2.1,(s2.2.1,(Rl .i64 s2.2.2.1 1,(f.1.1.1,(f.1.1.2,f.1.2)))))))) λ_=>some (.nx ((s2.1,(s2.2.1,(Rl .i64 s2.2.2.1 1,(f.1.1.1,(f.1.1.2,f.1.2)))))))) ((0,(0,(1,(x.1.1.1,(x.1.1.2,x.1.2))))))) λl=>some (l.2.1.2.1,l.2.1.1)) λ_=>br (RT h.2 0) (λ_=>some (0,h.2)) λ_=>bd (loop (λ(d:(Int×(Int×(Int×(Int×((List (List Tc))×((List (Int×(TC×((Bool×TD)×((List S8)×Int)))))×Int)))))))=>bd (UU (((d.2.2.2.1,d.2.2.2.2.1),d.2.2.2.2.2))) λg=>br (RT g.2.2.2 0) (λ_=>some (.dn ((0,((g.2.2.2,(0,d.2.2)),()))))) λ_=>br (RR g.2.1 x.2) (λ_=>br g.2.2.1 (λ_=>some (.dn ((0,((0,(d.2.2.1,d.2.2)),()))))) λ_=>some (.nx ((d.1,(d.2.1,(Rl .i64 d.2.2.1 1,(g.1.1.1,(g.1.1.2,g.1.2)))))))) λ_=>some (.nx ((d.1,(d.2.1,(Rl .i64 d.2.2.1 1,(g.1.1.1,(g.1.1.2,g.1.2)))))))) ((0,(0,(1,(x.1.1.1,(x.1.1.2,x.1.2))))))) λm=>some (m.2.1.2.1,m.2.1.1)) λ_=>br (RR h.2 0) (λ_=>bd (To x) λn=>br (RT n.2 0) (λ_=>some (0,n.2)) λ_=>bd (loop (λ(e:(Int×(Int×(Int×(Int×((List (List Tc))×((List (Int×(TC×((Bool×TD)×((List S8)×Int)))))×Int)))))))=>bd (UU (((e.2.2.2.1,e.2.2.2.2.1),e.2.2.2.2.2))) λb=>br (RT b.2.2.2 0) (λ_=>some (.dn ((0,((b.2.2.2,(0,e.2.2)),()))))) λ_=>br (RR b.2.1 x.2) (λ_=>br b.2.2.1 (λ_=>some (.dn ((0,((0,(e.2.2.1,e.2.2)),()))))) λ_=>some (.nx ((e.1,(e.2.1,(Rl .i64 e.2.2.1 1,(b.1.1.1,(b.1.1.2,b.1.2)))))))) λ_=>some (.nx ((e.1,(e.2.1,(Rl .i64 e.2.2.1 1,(b.1.1.1,(b.1.1.2,b.1.2)))))))) ((0,(0,(1,(x.1.1.1,(x.1.1.2,x.1.2))))))) λi=>some (i.2.1.2.1,i.2.1.1)) λ_=>br (RT h.2 0) (λ_=>some (0,h.2)) λ_=>bd (loop (λ(a:(Int×(Int×(Int×(Int×((List (List Tc))×((List (Int×(TC×((Bool×TD)×((List S8)×Int)))))×Int)))))))=>bd (UU (((a.2.2.2.1,a.2.2.2.2.1),a.2.2.2.2.2))) λc=>br (RT c.2.2.2 0) (λ_=>some (.dn ((0,((c.2.2.2,(0,a.2.2)),()))))) λ_=>br (RR c.2.1 x.2) (λ_=>br c.2.2.1 (λ_=>some (.dn ((0,((0,(a.2.2.1,a.2.2)),()))))) λ_=>some (.nx ((a.1,(a.2.1,(Rl .i64 a.2.2.1 1,(c.1.1.1,(c.1.1.2,c.1.2)))))))) λ_=>some (.nx ((a.1,(a.2.1,(Rl .i64 a.2.2.1 1,(c.1.1.1,(c.1.1.2,c.1.2)))))))) ((0,(0,(1,(x.1.1.1,(x.1.1.2,x.1.2))))))) λj=>some (j.2.1.2.1,j.2.1.1)
def Uu (x:((TB×((List (Int×(TC×((Bool×TD)×((List S8)×Int)))))×Int))×Int)):Option Bool :=
 bd (Wa x.1) λc=>br c (λ_=>bd (WM ()) λd=>some d) λ_=>bd (Vm x) λa=>bd (Wr x) λb=>br (RR a.1 b.1) (λ_=>br (RR a.2 b.2) (λ_=>bd (WM ()) λe=>some e) λ_=>some false) λ_=>some false
end
section
open Go Go.Proofs.YtfilfloanndddaaGreat.Sv
def WK (s:TA):Int:=if (UH s).2≠0 then (UH s).2 else (VY s (UH s).1).2.2
def Xq (s:TA):TA:=(VY s (UH s).1).1
def YM (s:TA):Int×Bool:=((UH s).1,(VY s (UH s).1).2.1)
def Zk:Nat->TA->TA×(List (Int×Bool)×Int)
 | 0,s=>(s,([],0))
 | n+1,s=>if WK s=4 then (s,([],0)) else if WK s≠0 then (s,([],WK s)) else ((Zk n (Xq s)).1,(YM s::(Zk n (Xq s)).2.1,(Zk n (Xq s)).2.2))
theorem Yh {s:TA} : ∀ {l:List Int} {d:Int},Vw s l=some d -> ∃ p q,l=p++d::q/\(Wc false (λs j=>(Vq s.1 j,0)) s d).1=true /\ ∀ x∈p,¬ (Wc false (λs j=>(Vq s.1 j,0)) s x).1=true
 | [],_,h=>by cases h
 | x::l,d,h=>by
  unfold Vw at h;split at h
  ·rename_i a;cases h;exact ⟨[],l,rfl,a,λ_ h=>by cases h⟩
  ·rename_i a;obtain ⟨p,q,rfl,b,c⟩:=Yh h
   exact ⟨x::p,q,rfl,b,λy hy=>by
    rcases List.mem_cons.1 hy with rfl | hy
    ·exact a
    ·exact c y hy⟩
theorem Zd {s:TA} (v:VSt s):((UH s).2=4/\s.2.1=[])\/(UH s).2=9\/((UH s).2=0/\(UH s).1∈TI 0 s.1.2):=by
 have a:(TE s).2=0:=TS.2 v;unfold UH;rw [if_neg (by simp [a])];by_cases h:TI 0 s.1.2=[]
 ·rw [if_pos h];refine .inl ⟨rfl,?_⟩;have:=v.due;rw [h] at this;simpa using this
 ·rw [if_neg h];cases hc:Vw s (TI 0 s.1.2) with
  | none=>exact .inr (.inl rfl)
  | some d =>
   obtain ⟨p,q,e,_⟩:=Yh hc;exact .inr (.inr ⟨rfl,by rw [e];simp⟩)
theorem eQ (s:TA) (j:Job):(XX s j).2.2≠4:=by
 unfold XX;split
 ·simp
 ·split
  ·simp
  ·unfold YO;split
   ·simp
   ·split<;>simp
theorem ga {s:TA} (v:VSt s) {d:Int} (h:d∈TI 0 s.1.2):(VY s d).2.2≠4:=by
 have b:(TE s).2=0:=TS.2 v;obtain ⟨j,n,a,_⟩:=v.atDue h;unfold VY;rw [if_neg (by simp [b]),a];exact eQ s j
theorem YH {s0 s:TA} (g:Gd s0 s):UE s=some (UH s)/\WE s=some (UH s):=⟨lg g.1.sm,eI g.1.sm⟩
theorem Yt {s0 s:TA} (g:Gd s0 s) (d:Int):Tq (s,d)=some (VY s d)/\Vf (s,d)=some (VY s d) :=
 ⟨aD g.1.sm (Yg g.2.2) d,eJ g.1.sm (Yg g.2.2) d⟩
theorem bD {s0 s:TA} (g:Gd s0 s) (e:WK s=0):(UH s).2=0/\(UH s).1∈TI 0 s.1.2/\(VY s (UH s).1).2.2=0:=by
 unfold WK at e;rcases Zd g.1 with h | h | h
 ·rw [if_pos (by rw [h.1];decide),h.1] at e;cases e
 ·rw [if_pos (by rw [h];decide),h] at e;cases e
 ·rw [if_neg (by simp [h.1])] at e;exact ⟨h.1,h.2,e⟩
theorem YI {s0 s:TA} (g:Gd s0 s) (e:WK s=0) : ∃ (n:Nat) (j:Job),(YM s).1=(n:Int)/\n<12/\JobAt s.1 n j/\Vq s.1 j=true/\StepF s n j (Xq s) (YM s).2/\Gd s0 (Xq s):=by
 obtain ⟨_,a,b⟩:=bD g e;exact cF g a b
theorem bE {s0 s:TA} (g:Gd s0 s) (e:WK s=4):(UH s).2=4/\s.2.1=[]:=by
 unfold WK at e;rcases Zd g.1 with h | h | h
 ·exact h
 ·rw [if_pos (by rw [h];decide),h] at e;cases e
 ·rw [if_neg (by simp [h.1])] at e;exact absurd e (ga g.1 h.2)
theorem lz {s0 s:TA} {N:Nat} (g:Gd s0 s) (a:UY s.1.2.flatten<=N) (e:WK s=0):aU N (Xq s)+1<=aU N s/\UY (Xq s).1.2.flatten<=N:=by
 obtain ⟨n,j,_,d,c,_,F,_⟩:=YI g e;refine ⟨gN g.1 a d c F,?_⟩;by_cases b:0<TZ s.1 j
 ·rw [(F.read b).2.1];exact a
 ·rw [(F.inst (by omega)).2.1];exact Nat.le_trans (ai g.1 (Yg g.2.2) c b) a
def m6 (u:ab) (x:Int×Bool):ab:=(Rl .i64 u.1 1,(u.2.1,(if x.2=true then Rl .i64 u.2.2.1 1 else u.2.2.1,dx u.2.2.2 x.1.toNat x.1.toNat)))
def mN (u:ab) (l:List (Int×Bool)):ab:=l.foldl m6 u
end
end Go.Proofs.YtfilfloanndddaaGreat.Pl
