/- Functions of the program and of the specification as plain functions, and laws about them. No condition. -/
import Derived.Test.YtfilfloanndddaaGreatPl1
import Derived.KernelRfl
set_option linter.all false
namespace Go.Proofs.YtfilfloanndddaaGreat.Pl
section
open Go Go.Proofs.YtfilfloanndddaaGreat.Sv
def zS:TA:=((0,[]),([],0))
def UO (j:Job):List S8:=j.2.2.2.1
def Xi (s:TA) (j:Job):Nat:=if VX s.1 j=true then j.1.toNat else j.1.toNat+1
def VK (s:TA) (j:Job):TB:=if UO j=[] then UP s.1 j.1.toNat [] else UP (UP s.1 j.1.toNat []) (Xi s j) (TG (UP s.1 j.1.toNat []).2 (Xi s j)++[(s.2.2,UO j)])
def XU (s:TA) (j:Job):Int:=if UO j=[] then s.2.2 else s.2.2+1
def YR (s:TA) (j:Job):TA×Int :=
 if 0<TY s.1 j\/Vg s.1 j=false then (zS,9) else if s.2.2>1000000/\UO j≠[] then (zS,5) else (YI s (VK s j) (XU s j) j.1,0)
theorem aA : ∀ (ls:List (List Tb)) (i:Nat),(TI i ls).Nodup /\ ∀ d∈TI i ls,(i:Int)<=d
 | [],_=>⟨.nil,λ_ h=>by cases h⟩
 | rs::ls,i=>by
  obtain ⟨b,a⟩:=aA ls (i+1);rw [Xl];by_cases h:rs.length=2
  ·rw [if_pos h];refine ⟨List.nodup_cons.2 ⟨λc => ?_,b⟩,λd hd => ?_⟩
   ·have:=a _ c;omega
   ·rcases List.mem_cons.1 hd with e | hd
    ·omega
    ·have:=a d hd;omega
  ·rw [if_neg h];exact ⟨b,λd hd=>by have:=a d hd;omega⟩
theorem VSt.nodup {s:TA} (v:VSt s):(s.2.1.map (·.1)).Nodup:=by rw [v.due];exact (aA _ _).1
theorem JobAt.out {L:TB} {n:Nat} {j:Job} (h:JobAt L n j) (v:VLev L) (hs:(∀ r∈TG L.2 n,r.2.length<=2000)):VL (UO j)/\((UO j).length:Int)<=2*UV L.1 n/\j.1=(n:Int)/\n<12/\TG L.2 n≠[]:=by
 obtain ⟨a,b,d,k,e,rfl,i,_,l,m⟩:=h;have c:TG L.2 n=[a,b]:=by unfold TG;rw [e];rfl
 have s:=hs a (by rw [c];simp);have t:=hs b (by rw [c];simp);have u:=((v.own n).2 a (by rw [c];simp)).le;have w:=((v.own n).2 b (by rw [c];simp)).le;obtain ⟨f,g⟩:=fI m l d i (by omega);have p:=(List.getElem?_eq_some_iff.1 e).1;have q:=v.len;refine ⟨f,?_,rfl,by omega,by rw [c];simp⟩
 have o:((UO ((n:Int),U6 b.2 a.2 d k)).length:Int)<=(b.2.length:Int)+(a.2.length:Int):=by
  have:(UO ((n:Int),U6 b.2 a.2 d k)).length<=b.2.length+a.2.length:=g;omega
 omega
def eR (L:TB):Prop := ∀ i,∀ r∈TG L.2 i,r.2.length<=2000
structure InstF (s:TA) (n:Nat) (j:Job):Prop where
 l1:VLev (UP s.1 n [])
 to12:UO j≠[]->Xi s j<12
 vr:UO j≠[]->VR (UV s.1.1 (Xi s j)) (s.2.2,UO j)
 id : ∀ y∈(UP s.1 n []).2.flatten,y.1≠s.2.2
 room:UO j≠[]->(TG (UP s.1 n []).2 (Xi s j)).length<2
 lev:VLev (VK s j)
theorem dD {s:TA} (v:VSt s) (A:eR s.1) {n:Nat} {j:Job} (z:JobAt s.1 n j) (G : ¬ 0<TY s.1 j) (hc:Vg s.1 j=true) (x:UO j≠[]->s.2.2<=1000000):InstF s n j:=by
 obtain ⟨C,D,E,t,I⟩:=z.out v.lev (A n);have a:=v.lev.leave (n:=n) t;have e:j.1.toNat=n:=by rw [E];simp
 have b:VX s.1 j≠true->n+1<12/\(TG s.1.2 (n+1)).length<2:=λhs=>by
  unfold Vg at hc;rw [show decide (0<TY s.1 j)=false by simp;omega,e] at hc;cases o:VX s.1 j with
  | true=>exact absurd o hs
  | false =>
   rw [o] at hc;simpa [YT,TG] using hc
 have d : ∀ y∈(UP s.1 n []).2.flatten,y.1≠s.2.2:=λy r=>by
  obtain ⟨p,q,i,k⟩:=W7 s.1 n [];rw [k,List.nil_append] at r
  have B:y∈s.1.2.flatten:=by
   rw [i];rcases List.mem_append.1 r with h | h
   ·exact List.mem_append_left _ h
   ·exact List.mem_append_right _ (List.mem_append_right _ h)
  have:=Yq B;have:=v.n3;omega
 have m:Xi s j<12/\(TG (UP s.1 n []).2 (Xi s j)).length<2/\((UO j).length:Int)<=UV s.1.1 (Xi s j):=by
  unfold Xi;by_cases hs:VX s.1 j=true
  ·rw [if_pos hs,e];refine ⟨t,by rw [WQ,if_pos rfl];simp,?_⟩;have c:=hs;unfold VX at c;rw [e] at c;exact of_decide_eq_true c
  ·rw [if_neg hs,e];obtain ⟨i,k⟩:=b hs;refine ⟨i,by rw [WQ,if_neg (by omega)];exact k,?_⟩;rw [aL];exact D
 obtain ⟨u,w,F⟩:=m;have g:UO j≠[]->VR (UV s.1.1 (Xi s j)) (s.2.2,UO j):=λf=>⟨v.n1,x f,C,f,F⟩;refine ⟨a,λ_=>u,g,d,λ_=>w,?_⟩;unfold VK;rw [e];by_cases l:UO j=[]
 ·rw [if_pos l];exact a
 ·rw [if_neg l];exact a.arrive u w (g l) d
theorem aB {s:TA} (v:VSt s) (u:eR s.1) {n:Nat} {j:Job} (t:JobAt s.1 n j) (w : ¬ 0<TY s.1 j) (hc:Vg s.1 j=true) (y:UO j≠[]->s.2.2<=1000000) (l:Int) :
  (bd (U3 (s.1,(n:Int))) λd=>br (RR d.2.2 0) (λ_=>br (SU (Kb (AS j.2.2.2.1)) 0) (λ_=>bd (Ti (s,(j,l))) λK=>br (Hf K) (λ_=>bd (Tq ((d.1,(Rl .i64 (n:Int) 1,(s.2.2,j.2.2.2.1))))) λm=>br (RT m.2 0) (λ_=>some ((((0,[]),([],0)),m.2))) λ_=>bd (TZ ((s,(m.1,(Rl .i64 s.2.2 1,(n:Int)))))) λL=>some L) λ_=>bd (Tq ((d.1,((n:Int),(s.2.2,j.2.2.2.1))))) λo=>br (RT o.2 0) (λ_=>some ((((0,[]),([],0)),o.2))) λ_=>bd (TZ ((s,(o.1,(Rl .i64 s.2.2 1,(n:Int)))))) λM=>some M) λ_=>br (RT d.2.2 0) (λ_=>some ((((0,[]),([],0)),d.2.2))) λ_=>bd (TZ ((s,(d.1,(s.2.2,(n:Int)))))) λN=>some N) λ_=>br (RT d.2.2 0) (λ_=>some ((((0,[]),([],0)),d.2.2))) λ_=>bd (TZ ((s,(d.1,(s.2.2,(n:Int)))))) λk=>some k)
  = some (YI s (VK s j) (XU s j) j.1,0):=by
 have F:=dD v u t w hc y;obtain ⟨G,O,g,I,J⟩:=t.out v.lev (u n);have i:j.1.toNat=n:=by rw [g];simp
 have D:=v.n2;have C:=v.n1;have A:=v.jsmall;have a:=F.lev;rw [cI v.lev J,SL];show (br (RR 0 0) _ _)=_;rw [Sn,if_pos rfl,TH,TF,Sp];by_cases b:UO j=[]
 ·rw [if_neg (show ¬ ((j.2.2.2.1.length:Int)>0) by rw [show j.2.2.2.1=[] from b];simp),Ss,if_pos rfl];unfold VK at a ⊢;rw [if_pos b,i] at a;rw [if_pos b,i,ZK v.nodup (by omega) a,SL];unfold XU;rw [if_pos b,g]
 ·rw [if_pos (show ((j.2.2.2.1.length:Int)>0) by have:=List.length_pos_iff.2 b;have h:(UO j).length=j.2.2.2.1.length:=rfl;omega),Zy v.lev g I,SL,Tn];have E:(UO j).length<=1048576:=by have:=G.len;omega
  have B:kR [] (UV (UP s.1 n []).1 (Xi s j)) (s.2.2,UO j)=0:=ez.2 ⟨F.vr b,by simp⟩;have f:=bK F.l1 (F.to12 b) (x:=(s.2.2,UO j)) E F.id (F.room b);rw [if_neg (by simp [B])] at f
  have z:VK s j=UP (UP s.1 n []) (Xi s j) (TG (UP s.1 n []).2 (Xi s j)++[(s.2.2,UO j)]):=by
   unfold VK;rw [if_neg b,i]
  have q:XU s j=s.2.2+1:=by unfold XU;rw [if_neg b]
  rw [<- z] at f;have p:Rl .i64 s.2.2 1=s.2.2+1:=R9 (by omega);have r:=ZK v.nodup (by omega) a (s.2.2+1) (n:Int);rw [Sx];have c:Xi s j=if VX s.1 j=true then n else n+1:=by unfold Xi;rw [i]
  by_cases hs:VX s.1 j=true
  ·rw [if_pos hs] at c ⊢;rw [c] at f;have e:Tq (UP s.1 n [],((n:Int),(s.2.2,j.2.2.2.1)))=some (VK s j,0):=f;rw [e,SL,Ss,if_pos rfl,p,r,SL,q,g]
  ·rw [if_neg hs] at c ⊢;rw [c] at f;rw [TK (by omega)];have e:Tq (UP s.1 n [],(((n+1:Nat):Int),(s.2.2,j.2.2.2.1)))=some (VK s j,0):=f;rw [e,SL,Ss,if_pos rfl,p,r,SL,q,g]
theorem bp {s:TA} (m:Sm s) (k:eR s.1) (a:Int):U8 (s,a)=some (WS zS YR s a):=by
 unfold U8;rw [an m,SL];unfold WS;by_cases b:(TE s).2=0;rotate_left
 ·rw [if_pos b,Ss,if_neg b,if_pos b];rfl
 rw [if_neg (show ¬ (TE s).2≠0 by simp [b]),if_neg (show ¬ (TE s).2≠0 by simp [b])];have v:=TN.1 b;unfold Z3;cases p:Yo a 0 (TI 0 s.1.2) with
 | none=>rfl
 | some i =>
  obtain ⟨j,n,l,o,f,g,q⟩:=v.at p;have:=v.lev.len;subst o;simp only [l];unfold TX YR;rw [Ss,if_pos rfl,SL,Sp];by_cases e:0<TY s.1 j
  ·rw [if_pos (show ((TY s.1 j:Int))>0 by omega),if_pos (.inl e)];rfl
  rw [if_neg (show ¬ ((TY s.1 j:Int))>0 by omega),aR v.lev f (by omega) _ rfl,SL,Tn,Sx];by_cases hc:Vg s.1 j=true;rotate_left
  ·rw [if_neg hc,if_pos (.inr (by simpa using hc))];rfl
  rw [if_pos hc,if_neg (show ¬ (0<TY s.1 j\/Vg s.1 j=false) by rw [hc];simp;omega),Sp];by_cases d:s.2.2>1000000
  ·rw [if_pos d,TH,TF,Sp];by_cases c:UO j=[]
   ·rw [if_neg (show ¬ ((j.2.2.2.1.length:Int)>0) by rw [show j.2.2.2.1=[] from c];simp),if_neg (by simp [c])];exact aB v k g e hc (λh=>absurd c h) _
   ·rw [if_pos (show ((j.2.2.2.1.length:Int)>0) by have:=List.length_pos_iff.2 c;have h:(UO j).length=j.2.2.2.1.length:=rfl;omega),if_pos ⟨d,c⟩];rfl
  ·rw [if_neg d,if_neg (by simp [d])];exact aB v k g e hc (λh=>by omega) _
end
section
open Go Go.Proofs.YtfilfloanndddaaGreat.Sv
def X3 (L:TB) (j:Job):W3:=match TG L.2 j.1.toNat with
 | [r0,r1]=>U6 r1.2 r0.2 j.2.2.1.2.2 (j.2.2.2.2.toNat+1)
 | _=>j.2
def Yw (s:TA) (j:Job):TA:=(s.1,(lset s.2.1 ((Yo j.1 0 (TI 0 s.1.2)).getD 0) (j.1,X3 s.1 j),s.2.2))
theorem fN {s:TA} (m:Sm s) (v:VSt s) {a:Int} {i:Nat} (h:Yo a 0 (TI 0 s.1.2)=some i) {j:Job} (e:s.2.1[i]? = some j) (t:0<TY s.1 j):Wy (s,(a,1))=some (Yw s j,(1,0)):=by
 obtain ⟨j',n,f,y,u,q,D⟩:=v.at h;rw [e] at f;cases f;subst y;have r:(TE s).2=0:=TN.2 v
 have l:XY s (n:Int)=((i:Int),0):=by
  unfold XY;rw [if_neg (show ¬ (TE s).2≠0 by simp [r]),h]
 have w:=v.jsmall;have hi:=(List.getElem?_eq_some_iff.1 e).1;unfold Wy;rw [mi m,SL,Ss,if_pos r,Sr,if_neg (show ¬ ((1:Int)<0) by omega),cx m,SL,l,Ss,if_pos rfl,S9,Sb e,(JobAt.left q).1,SL,Sn,if_neg (show ¬ ((TY s.1 j:Int)=0) by omega),S9,Sb e];obtain ⟨b,c,d,k,p,rfl,x,C,A,B⟩:=q;have z:TG s.1.2 n=[b,c]:=by unfold TG;rw [p];rfl
 have o:TY s.1 ((n:Int),U6 c.2 b.2 d k)=c.2.length+b.2.length-k:=by
  unfold TY;simp only [Int.toNat_natCast,p];show c.2.length+b.2.length-((k:Int)).toNat=_;rw [Int.toNat_natCast]
 rw [o] at t;have g:=aM B A d x (k:=1);rw [show min 1 (c.2.length+b.2.length-k)=1 by omega] at g;show (bd (UL (U6 c.2 b.2 d k,((1:Nat):Int))) λE=>_)=_;rw [g,SL];simp only;rw [Ss,if_pos rfl];unfold Ts;rw [Tw (by simp only [AS];omega),SL,S9,SR,if_pos (by simp only [AS];exact hi),Sb e];unfold Yw X3;simp only [Int.toNat_natCast,z,h,Option.getD_some];have e1:(U6 c.2 b.2 d k).2.1.2.2=d:=ZV _ _ _ _;have e2:(U6 c.2 b.2 d k).2.2.2.toNat=k:=by show ((k:Int)).toNat=k;rw [Int.toNat_natCast]
 rw [e1,e2];rfl
def XP (s:TA) (j:Job):TA×(Bool×Int):=if Vg s.1 j=false then (zS,(false,9)) else if 0<TY s.1 j then (Yw s j,(false,0)) else ((YR s j).1,(RR (YR s j).2 0,(YR s j).2))
def Uz (s:TA) (a:Int):TA×(Bool×Int):=if (TE s).2≠0 then (zS,(false,(TE s).2)) else match Z3 s a with
 | some j=>XP s j
 | none=>(zS,(false,4))
theorem aO {s:TA} (m:Sm s) (g:eR s.1) (a:Int):Te (s,a)=some (Uz s a):=by
 unfold Te;rw [an m,SL,bp m g];unfold WS Uz;by_cases b:(TE s).2=0;rotate_left
 ·rw [if_pos b,Ss,if_neg b,if_pos b];rfl
 rw [if_neg (show ¬ (TE s).2≠0 by simp [b]),if_neg (show ¬ (TE s).2≠0 by simp [b]),if_neg (show ¬ (TE s).2≠0 by simp [b])];have v:=TN.1 b;unfold Z3;cases f:Yo a 0 (TI 0 s.1.2) with
 | none=>rfl
 | some i =>
  obtain ⟨j,n,e,k,d,h,l⟩:=v.at f;have:=v.lev.len;simp only [e];unfold XP TX;rw [Ss,if_pos rfl,aR v.lev d (by omega) _ rfl,SL,Tn,Sx];cases hc:Vg s.1 j with
  | false=>rw [if_neg (by simp),if_pos rfl];rfl
  | true =>
   rw [if_pos rfl,if_neg (by simp),SL,Sp];by_cases c:0<TY s.1 j
   ·rw [if_pos (show ((TY s.1 j:Int))>0 by omega),if_pos c,fN m v f e c];rfl
   ·rw [if_neg (show ¬ ((TY s.1 j:Int))>0 by omega),if_neg c];rfl
end
section
open Go Go.Proofs.YtfilfloanndddaaGreat.Sv
theorem ad {ls:List (List Tb)} {d:Int} (h:d∈TI 0 ls) : ∃ (n:Nat) (a b:Tb),d=(n:Int)/\ls[n]? = some [a,b]:=by
 obtain ⟨k,f⟩:=List.getElem?_of_mem h;obtain ⟨n,c,a,b,e⟩:=W6 f;exact ⟨n,a,b,by rw [c,Nat.zero_add],e⟩
theorem bF {l:List (List Tb)} {n:Int} (i:0<n) (h : ∀ x∈l.flatten,x.1<n):V2 l<n:=by
 have f : ∀ (rs:List Tb) (m:Int),m<n->(∀ x∈rs,x.1<n)->rs.foldl (λm r=>S0 m r.1) m<n:=by
  intro rs
  induction rs with
  | nil=>intro m b _;exact b
  | cons r rs e =>
   intro m b c;rw [List.foldl_cons];refine e _ ?_ λx d=>c x (by simp [d]);rw [We];have:=c r (by simp);omega
 have two : ∀ (ls:List (List Tb)) (m:Int),m<n->(∀ rs∈ls,∀ x∈rs,x.1<n)->ls.foldl (λm rs=>rs.foldl (λm r=>S0 m r.1) m) m<n:=by
  intro ls
  induction ls with
  | nil=>intro m b _;exact b
  | cons rs ls e =>
   intro m b c;rw [List.foldl_cons];exact e _ (f rs m b (c rs (by simp))) λg a=>c g (by simp [a])
 exact two l 0 i λrs a x d=>h x (List.mem_flatten.2 ⟨rs,a,d⟩)
theorem kg {l:List (List Tb)} (e:l.getLast? ≠ some []) {n:Nat} (a:TG l n≠[]) (b : ∀ i,n<i->TG l i=[]):l.length=n+1:=by
 have f:n<l.length:=by
  by_cases h:n<l.length
  ·exact h
  ·unfold TG at a;rw [List.getElem?_eq_none (by omega)] at a;exact absurd rfl a
 by_cases c:l.length=n+1
 ·exact c
 ·exfalso;have d:=b (l.length-1) (by omega);refine e ?_;rw [List.getLast?_eq_getElem?,Vk (by omega),d]
theorem cD {js:List Job} {d:Int} {j:Job} (h:UK js d=some j):j∈js/\j.1=d:=by
 unfold UK at h;have a:=List.find?_some h;unfold aY at a;rw [VS] at a;exact ⟨List.mem_of_find?_eq_some h,(of_decide_eq_true a).symm⟩
theorem eW {L:TB} (v:VLev L) {n:Nat} {b c:Tb} (h:L.2[n]? = some [b,c]):JobAt L n (V4 L (n:Int)):=by
 have a:TG L.2 n=[b,c]:=by unfold TG;rw [h];rfl
 refine ⟨b,c,decide ((n:Int)=(L.2.length:Int)-1),0,h,?_,Nat.zero_le _,λd => ?_,VR.vl' v (n:=n) (by rw [a];simp),VR.vl' v (n:=n) (by rw [a];simp)⟩
 ·unfold V4;rw [Int.toNat_natCast,a]
 ·have:=of_decide_eq_true d;have:=(List.getElem?_eq_some_iff.1 h).1;omega
theorem kV {s:TA} (v:VSt s) {L:TB} (u:VLev L) {next a:Int} (F:1<=next) (G:next<=1000001) (I : ∀ x∈L.2.flatten,x.1<next)
  (J : ∀ (n:Nat) (g h:Tb),s.1.2[n]? = some [g,h]->(n:Int)≠a->(∃ q r,L.2[n]? = some [q,r])->L.2[n]? = some [g,h]/\(n+1=s.1.2.length->n+1=L.2.length)):VSt (YI s L next a):=by
 have b : ∀ d∈TI 0 L.2,(WH s L a d).1=d /\ ∃ n,JobAt L n (WH s L a d):=λd c=>by
  obtain ⟨n,q,r,rfl,t⟩:=ad c;unfold WH;cases l:(if (n:Int)=a then none else UK s.2.1 (n:Int)) with
  | none =>
   rw [Option.getD_none];have i:=eW u t;refine ⟨?_,n,i⟩;obtain ⟨_,_,_,_,_,e,_⟩:=i;rw [e]
  | some j =>
   rw [Option.getD_some];by_cases o:(n:Int)=a
   ·rw [if_pos o] at l;cases l
   rw [if_neg o] at l;obtain ⟨p,f⟩:=cD l;refine ⟨f,n,?_⟩;obtain ⟨m,g,h,E,k,w,rfl,y,z,A,B⟩:=v.job j p;have K:m=n:=by have:(m:Int)=(n:Int):=f;omega
   subst K;obtain ⟨C,D⟩:=J m g h w o ⟨q,r,t⟩;exact ⟨g,h,E,k,C,rfl,y,λi=>D (z i),A,B⟩
 refine ⟨u,F,G,bF (by show 0<next;omega) I,?_,λj p => ?_⟩
 ·show ((TI 0 L.2).map (WH s L a)).map (·.1)=TI 0 L.2;rw [List.map_map]
  conv=>rhs;rw [<- List.map_id (TI 0 L.2)]
  exact List.map_congr_left λd c=>(b d c).1
 ·obtain ⟨d,c,rfl⟩:=List.mem_map.1 p;exact (b d c).2
theorem XN {l:List (List Tb)} {n:Nat} {b c:Tb}:l[n]? = some [b,c]<->TG l n=[b,c]:=by
 unfold TG;constructor
 ·intro h;rw [h];rfl
 ·intro h;cases a:l[n]? with
  | none=>rw [a] at h;cases h
  | some rs=>rw [a] at h;exact congrArg some h
theorem Vc {s:TA} {j:Job} {n:Nat} (b:j.1.toNat=n) (i:Nat):TG (VK s j).2 i=if UO j≠[]/\i=Xi s j then (if i=n then [] else TG s.1.2 i)++[(s.2.2,UO j)] else if i=n then [] else TG s.1.2 i:=by
 unfold VK;rw [b];by_cases a:UO j=[]
 ·rw [if_pos a,if_neg (by simp [a]),WQ]
 ·rw [if_neg a,WQ];by_cases hi:i=Xi s j
  ·rw [if_pos hi,if_pos ⟨a,hi⟩,WQ,<- hi]
  ·rw [if_neg hi,if_neg (by simp [hi]),WQ]
theorem ej {s:TA} (v:VSt s) (u:eR s.1) {n:Nat} {j:Job} (t:JobAt s.1 n j) (B : ¬ 0<TY s.1 j) (hc:Vg s.1 j=true) (r:UO j≠[]->s.2.2<=1000000):VSt (YI s (VK s j) (XU s j) j.1):=by
 have F:=dD v u t B hc r;obtain ⟨O,P,w,S,q⟩:=t.out v.lev (u n);have l:j.1.toNat=n:=by rw [w];simp
 have E:=v.n1;have G:=v.n2
 have k:s.2.2<=XU s j/\XU s j<=1000001/\(UO j≠[]->s.2.2<XU s j):=by
  unfold XU;by_cases d:UO j=[]
  ·rw [if_pos d];exact ⟨by omega,by omega,λh=>absurd d h⟩
  ·rw [if_neg d];have:=r d;exact ⟨by omega,by omega,λ_=>by omega⟩
 refine kV v F.lev (by omega) k.2.1 (λx L => ?_) (λm z A D C N => ?_)
 ·obtain ⟨i,hi⟩:=Zj.1 L;rw [Vc l] at hi
  have b : ∀ {y:Tb},y∈(if i=n then [] else TG s.1.2 i)->y.1<XU s j:=fun {y} o=>by
   by_cases a:i=n
   ·rw [if_pos a] at o;cases o
   ·rw [if_neg a] at o;have:=Yq (Zj.2 ⟨i,o⟩);have:=v.n3;omega
  split at hi
  ·rename_i hh;rcases List.mem_append.1 hi with hi | hi
   ·exact b hi
   ·rw [List.mem_singleton.1 hi];exact k.2.2 hh.1
  ·exact b hi
 ·have f:m≠n:=λe=>C (by rw [w,e]);have g:TG s.1.2 m=[z,A]:=XN.1 D
  have p : ¬ (UO j≠[]/\m=Xi s j):=λ⟨d,J⟩=>by
   have:=F.room d;rw [WQ,<- J,if_neg f,g] at this;simp at this
  have c:TG (VK s j).2 m=[z,A]:=by rw [Vc l,if_neg p,if_neg f,g]
  refine ⟨XN.2 c,λM=>(kg F.lev.last (by rw [c];simp) λi hi => ?_).symm⟩;have a:TG s.1.2 i=[]:=by unfold TG;rw [List.getElem?_eq_none (by omega)];rfl
  have I:n<s.1.2.length:=by
   by_cases h:n<s.1.2.length
   ·exact h
   ·unfold TG at q;rw [List.getElem?_eq_none (by omega)] at q;exact absurd rfl q
  have K:Xi s j<=n+1:=by unfold Xi;rw [l];split<;>omega
  rw [Vc l,if_neg (by rintro ⟨_,h⟩;omega),a];split<;>rfl
theorem Job.steps {L:TB} {n:Nat} {j:Job} (f:JobAt L n j) (h:0<TY L j):JobAt L n (j.1,X3 L j):=by
 obtain ⟨a,b,c,k,d,rfl,o,g,l,m⟩:=f;have i:=XN.1 d
 have e:TY L ((n:Int),U6 b.2 a.2 c k)=b.2.length+a.2.length-k:=by
  unfold TY;simp only [Int.toNat_natCast,d];show b.2.length+a.2.length-((k:Int)).toNat=_;rw [Int.toNat_natCast]
 rw [e] at h;refine ⟨a,b,c,k+1,d,?_,by omega,g,l,m⟩;unfold X3;simp only [Int.toNat_natCast,i];have e1:(U6 b.2 a.2 c k).2.1.2.2=c:=ZV _ _ _ _;have e2:(U6 b.2 a.2 c k).2.2.2.toNat=k:=by show ((k:Int)).toNat=k;rw [Int.toNat_natCast]
 rw [e1,e2]
theorem fO {s:TA} (v:VSt s) {j:Job} {i n:Nat} (e:Yo j.1 0 (TI 0 s.1.2)=some i) (a:s.2.1[i]? = some j) (d:JobAt s.1 n j) (c:0<TY s.1 j):VSt (Yw s j):=by
 unfold Yw;rw [e,Option.getD_some];refine ⟨v.lev,v.n1,v.n2,v.n3,?_,λx hx => ?_⟩
 ·show (s.2.1.set i (j.1,X3 s.1 j)).map (·.1)=_;rw [<- v.due,List.map_set];refine List.ext_getElem? λk => ?_;rw [List.getElem?_set];by_cases b:i=k
  ·subst b;have hi:=(List.getElem?_eq_some_iff.1 a).1;rw [if_pos rfl,List.length_map,if_pos hi,List.getElem?_map,a];rfl
  ·rw [if_neg b]
 ·rcases List.mem_or_eq_of_mem_set hx with hx | hx
  ·exact v.job x hx
  ·rw [hx];exact ⟨n,Job.steps d c⟩
end
section
open Go Go.Proofs.YtfilfloanndddaaGreat.Sv
theorem lH {B:Int} {M:List (List Tb)} {f:(Int×List (List Tb))->Option (LR (Int×List (List Tb)) (Nat×((Int×List (List Tb))×Unit)))} (a:f (B,[])=some (.dn (0,((B,[]),())))) (hs : ∀ k,k<M.length->f (B,M.take (k+1))=if TG M k=[] then some (.nx (B,M.take k)) else some (.dn (0,((B,M.take (k+1)),())))) : ∀ k,k<=M.length->IJ (k+1) f (B,M.take k)=some (0,((B,M.take (Xk M k)),()))
 | 0,_=>by rw [List.take_zero];exact Tl a
 | k+1,hk=>by
  have h:=hs k (by omega);unfold Xk;by_cases b:TG M k=[]
  ·rw [if_pos b] at h ⊢;rw [Tf h];exact lH a hs k (by omega)
  ·rw [if_neg b] at h ⊢;exact Tl h
theorem kP {M:List (List Tb)} {k:Nat} (h:k<M.length):M.take (k+1)=M.take k++[TG M k]:=by
 rw [List.take_add_one,Vk h];rfl
theorem bT {L:TB} (s:L.2.length<=1000) {n:Nat} (u:n<1000) {r:List Tb} (l:r.length<=1048576) (o : ∀ i,(TG L.2 i).length<=1048576):VA (L,((n:Int),r))=some (UP L n r):=by
 have t:(WN L.2 n r).length=max L.2.length (n+1):=by unfold WN;rw [List.length_set,YE]
 unfold VA;simp only [TH,TF];refine Tc (Zh (r:=(0,((((max L.2.length (n+1):Nat):Int),(L.1,WN L.2 n r)),()))) (λk=>((k:Int),(L.1,(WN L.2 n r).take k))) (max L.2.length (n+1)) (by simp) (by omega) (λk j => ?_) ?_) ?_
 ·have c:((WN L.2 n r).take k).length=k:=by rw [List.length_take];omega
  simp only [c];rw [kP (by omega),bU,TK (by omega),Sr];by_cases g:k<L.2.length
  ·rw [if_pos (by omega),So,if_neg (by omega),S9,Sb (Vk g),Sn];by_cases a:k=n
   ·rw [if_pos (by omega),if_pos a,Tw l,Tw (by simp only [BD,List.length_cons,List.length_nil];omega)];rfl
   ·rw [if_neg (by omega),if_neg a,Tw (o k),Tw (by simp only [BD,List.length_cons,List.length_nil];omega)];rfl
  ·rw [if_neg (by omega),Sq,if_pos (by omega),So,if_pos (by omega),Sn];by_cases a:k=n
   ·rw [if_pos (by omega),if_pos a,Tw l,Tw (by simp only [BD,List.length_cons,List.length_nil];omega)];rfl
   ·rw [if_neg (by omega),if_neg a,Tw (by simp only [BD,List.length_cons,List.length_nil];omega)];have:TG L.2 k=[]:=by unfold TG;rw [List.getElem?_eq_none (by omega)];rfl
    rw [this];rfl
 ·have c:(WN L.2 n r).take (max L.2.length (n+1))=WN L.2 n r:=List.take_of_length_le (by omega);simp only;rw [Sr,if_neg (by omega),Sq,if_neg (by omega),c]
 ·have d:=lH (B:=L.1) (M:=WN L.2 n r) (f:=λb=>br (SU (b.2.length:Int) 0) (λ_=>RX (Rp .i64 (b.2.length:Int) 1) λp=>ix b.2 p λq=>br (RR (q.length:Int) 0) (λ_=>RX (Rp .i64 (b.2.length:Int) 1) λh=>gd (CD h b.2.length) λ_=>gd (CD 0 h) λ_=>some (.nx (b.1,Dy b.2 0 h))) λ_=>some (.dn ((0,(b,()))))) λ_=>some (.dn ((0,(b,()))))) rfl (λk j=>by
   have c:((WN L.2 n r).take (k+1)).length=k+1:=by rw [List.length_take];omega
   have hi:Rp .i64 ((k+1:Nat):Int) 1=(k:Int):=by rw [SB (by omega)];omega
   have m:((WN L.2 n r).take (k+1))[k]? = some (TG (WN L.2 n r) k):=by rw [List.getElem?_take,if_pos (by omega),Vk j]
   simp only [c,hi];rw [Sp,if_pos (by omega),S9,Sb m,aZ];by_cases e:TG (WN L.2 n r) k=[]
   ·rw [if_pos e,if_pos e,S9,Tw (by omega),Tw (by omega)]
    have:Dy ((WN L.2 n r).take (k+1)) 0 k=(WN L.2 n r).take k:=by
     unfold Dy;rw [List.drop_zero,Nat.sub_zero,List.take_take];congr 1;omega
    rw [this]
   ·rw [if_neg e,if_neg e]) _ (Nat.le_refl _)
  rw [List.take_of_length_le (Nat.le_refl _)] at d;exact Tc (Ug (by omega) d) rfl
end
section
open Go Go.Proofs.YtfilfloanndddaaGreat.Sv
theorem dy {s:TA} (m:Sm s) (v:VSt s) {a:Int} {i:Nat} (h:Yo a 0 (TI 0 s.1.2)=some i) {j:Job} (e:s.2.1[i]? = some j) (t:0<TY s.1 j):W5 (s,(a,1))=some (Yw s j,(1,0)):=by
 obtain ⟨j',n,f,z,w,u,E⟩:=v.at h;rw [e] at f;cases f;subst z;have l:(TE s).2=0:=TN.2 v
 have o:XY s (n:Int)=((i:Int),0):=by
  unfold XY;rw [if_neg (show ¬ (TE s).2≠0 by simp [l]),h]
 have q:WS (0:Int) (λs j=>((TY s.1 j:Int),0)) s (n:Int)=((TY s.1 j:Int),0):=by
  unfold WS Z3;rw [if_neg (show ¬ (TE s).2≠0 by simp [l]),h];simp only [e]
 have x:=v.jsmall;have hi:=(List.getElem?_eq_some_iff.1 e).1;unfold W5;rw [mv m,SL,Sn,if_pos l,Sr,if_neg (show ¬ ((1:Int)<0) by omega),Ss,if_pos l,YN m,q,SL,Sn,if_pos rfl,Sn,if_neg (show ¬ ((TY s.1 j:Int)=0) by omega),Ss,if_pos rfl,YF m,o,SL,S9,Sb e];obtain ⟨b,c,d,k,r,rfl,y,D,B,C⟩:=u;have A:TG s.1.2 n=[b,c]:=by unfold TG;rw [r];rfl
 have p:TY s.1 ((n:Int),U6 c.2 b.2 d k)=c.2.length+b.2.length-k:=by
  unfold TY;simp only [Int.toNat_natCast,r];show c.2.length+b.2.length-((k:Int)).toNat=_;rw [Int.toNat_natCast]
 rw [p] at t;have g:=Zs C B d y (k:=1);rw [show min 1 (c.2.length+b.2.length-k)=1 by omega] at g;show (bd (Th (U6 c.2 b.2 d k,((1:Nat):Int))) λF=>_)=_;rw [g,SL];simp only;rw [Tw (by simp only [AS];omega),S9,SR,if_pos (by simp only [AS];exact hi),Sb e];unfold Yw X3;simp only [Int.toNat_natCast,A,h,Option.getD_some];have e1:(U6 c.2 b.2 d k).2.1.2.2=d:=ZV _ _ _ _;have e2:(U6 c.2 b.2 d k).2.2.2.toNat=k:=by show ((k:Int)).toNat=k;rw [Int.toNat_natCast]
 rw [e1,e2];rfl
theorem dw {L:TB} (v:VLev L) {n:Nat} (h:(TG L.2 n).length=2):UQ (L,(n:Int))=some (V4 L n,0):=by
 have d:n<L.2.length:=by
  by_cases e:n<L.2.length
  ·exact e
  ·unfold TG at h;rw [List.getElem?_eq_none (by omega)] at h;cases h
 have i:=v.len;obtain ⟨f,g⟩:=v.small;unfold UQ;simp only [TH,TF];rw [ah _ f g,Wh v,SL,Sn,if_pos rfl,Sr,if_neg (by omega),So,if_neg (by omega),Sn,if_pos rfl,So,if_neg (by omega),S9,Sb (Vk d),Sr,if_neg (by omega),Ss,if_pos rfl,Zr v d,SL]
 obtain ⟨b,c,a⟩ : ∃ b c,TG L.2 n=[b,c]:=by
  match hq:TG L.2 n with
  | [b,c]=>exact ⟨b,c,rfl⟩
  | []=>rw [hq] at h;cases h
  | [_]=>rw [hq] at h;cases h
  | _::_::_::_=>rw [hq] at h;simp at h
 rw [aJ _ (by rw [Vk d,a]) (VR.vl' v (n:=n) (by rw [a];simp)) (VR.vl' v (n:=n) (by rw [a];simp)),SL];unfold V4;rw [Int.toNat_natCast,a]
end
section
open Go Go.Proofs.YtfilfloanndddaaGreat.Sv
abbrev eU:=(Int×((List (List S8))×((List Int)×((List TD)×((List Int)×(Int×(Bool×((List UInt8)×(Bool×((List S8)×Int))))))))))
def bC (j:Job):eU:=(j.1,(j.2.1.1,(j.2.1.2.1,(j.2.1.2.2.1,(j.2.1.2.2.2.1,(j.2.1.2.2.2.2,(j.2.2.1.1,(j.2.2.1.2.1,(j.2.2.1.2.2,(j.2.2.2.1,j.2.2.2.2))))))))))
theorem de (p:List Job) (x:Job) (d:Int):UK (p++[x]) d=(UK p d).or (if x.1=d then some x else none):=by
 unfold UK;rw [List.find?_append]
 congr 1
 rw [List.find?_cons];unfold aY;rw [VS];by_cases h:x.1=d
 ·rw [if_pos h,show decide (d=x.1)=true by simp [h]]
 ·rw [if_neg h,show decide (d=x.1)=false by simp;exact λe=>h e.symm];rfl
theorem eY {s:TA} (w:(s.2.1.map (·.1)).Nodup) (E:s.2.1.length<=1000) (L:TB) (a:Int) {D:List Int} {i:Nat} {d:Int} (hi:D[i]? = some d):(loop (λ(c:Int×eU)=>br (SW c.1 (s.2.1.length:Int)) (λ_=>RX c.1 λm=>ix s.2.1 m λr=>RX (i:Int) λn=>ix D n λt=>br (RR r.1 t) (λ_=>RX (i:Int) λo=>ix D o λu=>br (RT u a) (λ_=>RX c.1 λq=>ix s.2.1 q λb=>some (.nx ((Rl .i64 c.1 1,(b.1,(b.2.1.1,(b.2.1.2.1,(b.2.1.2.2.1,(b.2.1.2.2.2.1,(b.2.1.2.2.2.2,(b.2.2.1.1,(b.2.2.1.2.1,(b.2.2.1.2.2,b.2.2.2))))))))))))) λ_=>some (.nx (Rl .i64 c.1 1,c.2))) λ_=>some (.nx (Rl .i64 c.1 1,c.2))) λ_=>some (.dn (((0:Nat),(c,()))))) ((0:Int),bC (V4 L d)))=some (0,(((s.2.1.length:Int),bC (WH s L a d)),())):=by
 refine U5 (l:=s.2.1) (σ:=Job) (s:=((0:Int),bC (V4 L d))) (λk j=>((k:Int),bC j)) (λls k j => ∃ p,s.2.1=p++ls/\j=(if d=a then none else UK p d).getD (V4 L d)) (λ_ _ _=>(0,(((s.2.1.length:Int),bC (WH s L a d)),()))) (V4 L d) rfl (by omega) ⟨[],rfl,by split<;>rfl⟩ (λj h => ?_) (λk x ls j C y z h => ?_)
 ·obtain ⟨p,e,rfl⟩:=h;rw [List.append_nil] at e;simp only;rw [re,Rd,<- e];rfl
 ·obtain ⟨p,e,rfl⟩:=h
  have B:x.1 ∉ p.map (·.1):=λA=>by
   rw [e,List.map_append,List.nodup_append] at w;exact w.2.2 _ A x.1 (by simp) rfl
  refine ⟨(if d=a then none else UK (p++[x]) d).getD (V4 L d),?_,⟨p++[x],by rw [e];simp,rfl⟩,rfl⟩
  simp only;rw [rl z,R5,S9,Sb y,S9,Sb hi,Sn,TK (by omega),de];by_cases f:x.1=d
  ·rw [if_pos f,S9,Sb hi,Ss,S9,Sb y,if_pos f];by_cases g:d=a
   ·rw [if_pos g,if_pos g,if_pos g]
   ·rw [if_neg g,if_neg g,Xu (by rw [<- f];exact B)];rfl
  ·rw [if_neg f,if_neg f];have:(UK p d).or none=UK p d:=by cases UK p d<;>rfl
   rw [this]
theorem Za {s:TA} (B:(s.2.1.map (·.1)).Nodup) (D:s.2.1.length<=1000) {L:TB} (v:VLev L) (next b:Int):loop (λ(g:(Int×(Int×((List (List Tb))×((List Job)×Int)))))=>br (SW g.1 ((TI 0 L.2).length:Int)) (λ_=>RX g.1 λm=>ix (TI 0 L.2) m λt=>bd (UQ (((g.2.1,g.2.2.1),t))) λc=>bd (loop (λ(f:Int×eU)=>br (SW f.1 (s.2.1.length:Int)) (λ_=>RX f.1 λo=>ix s.2.1 o λu=>RX g.1 λp=>ix (TI 0 L.2) p λw=>br (RR u.1 w) (λ_=>RX g.1 λq=>ix (TI 0 L.2) q λx=>br (RT x b) (λ_=>RX f.1 λr=>ix s.2.1 r λe=>some (.nx ((Rl .i64 f.1 1,(e.1,(e.2.1.1,(e.2.1.2.1,(e.2.1.2.2.1,(e.2.1.2.2.2.1,(e.2.1.2.2.2.2,(e.2.2.1.1,(e.2.2.1.2.1,(e.2.2.1.2.2,e.2.2.2))))))))))))) λ_=>some (.nx (Rl .i64 f.1 1,f.2))) λ_=>some (.nx (Rl .i64 f.1 1,f.2))) λ_=>some (.dn (((0:Nat),(f,()))))) (((0:Int),(c.1.1,(c.1.2.1.1,(c.1.2.1.2.1,(c.1.2.1.2.2.1,(c.1.2.1.2.2.2.1,(c.1.2.1.2.2.2.2,(c.1.2.2.1.1,(c.1.2.2.1.2.1,(c.1.2.2.1.2.2,c.1.2.2.2)))))))))))) λa=>gd (CD (BD g.2.2.2.1.length [((a.2.1.2.1,((a.2.1.2.2.1,(a.2.1.2.2.2.1,(a.2.1.2.2.2.2.1,(a.2.1.2.2.2.2.2.1,a.2.1.2.2.2.2.2.2.1)))),((a.2.1.2.2.2.2.2.2.2.1,(a.2.1.2.2.2.2.2.2.2.2.1,a.2.1.2.2.2.2.2.2.2.2.2.1)),a.2.1.2.2.2.2.2.2.2.2.2.2))):Job)].length) 1048576) λ_=>some (.nx ((Rl .i64 g.1 1,(g.2.1,(g.2.2.1,(Ik g.2.2.2.1 ([(a.2.1.2.1,((a.2.1.2.2.1,(a.2.1.2.2.2.1,(a.2.1.2.2.2.2.1,(a.2.1.2.2.2.2.2.1,a.2.1.2.2.2.2.2.2.1)))),((a.2.1.2.2.2.2.2.2.2.1,(a.2.1.2.2.2.2.2.2.2.2.1,a.2.1.2.2.2.2.2.2.2.2.2.1)),a.2.1.2.2.2.2.2.2.2.2.2.2)))]),g.2.2.2.2))))))) λ_=>some (.dn (((0:Nat),(g,()))))) (((0:Int),(L.1,(L.2,(([]:List Job),next)))))=some (0,((((TI 0 L.2).length:Int),(L.1,(L.2,((TI 0 L.2).map (WH s L b),next)))),())):=by
 have I:=v.len;have F:=VN L.2 0;refine U5 (l:=TI 0 L.2) (σ:=List Job) (λi js=>((i:Int),(L.1,(L.2,(js,next))))) (λls i js=>js++ls.map (WH s L b)=(TI 0 L.2).map (WH s L b)) (λ_ _ _=>(0,((((TI 0 L.2).length:Int),(L.1,(L.2,((TI 0 L.2).map (WH s L b),next)))),()))) [] rfl (by omega) rfl (λjs h => ?_) (λi d ls js A hi C h => ?_)
 ·simp only;rw [re,Rd,<- h];simp
 ·refine ⟨js++[WH s L b d],?_,by rw [<- h];simp,rfl⟩;obtain ⟨n,J,K,k,E⟩:=ad (List.mem_of_getElem? hi);have y:=dw v (n:=n) (by rw [XN.1 E];rfl);rw [<- k] at y
  have G:js.length<=1000:=by
   have z:=congrArg List.length h;rw [List.length_append,List.length_map,List.length_map] at z;omega
  simp only;rw [rl C,R5,S9,Sb hi];have j:UQ ((L.1,L.2),d)=some (V4 L d,0):=y;rw [j,SL];refine Tc (eY B D L b hi) ?_;rw [Tw (by simp only [BD,List.length_cons,List.length_nil];omega),TK (by omega)];rfl
end
section
open Go Go.Proofs.YtfilfloanndddaaGreat.Sv
theorem Yu {α β σ S:Type} {l:List α} (c:Nat) (n:c<=1000) (mk:Nat->σ->S) (I:Nat->σ->Prop) (Q:β->Prop) {f:S->Option (LR S β)} {s:S} (a:σ) (i:s=mk 0 a) (hi:I 0 a)
  (p : ∀ k a,(k=l.length\/k=c)->k<=l.length->I k a -> ∃ r,f (mk k a)=some (.dn r)/\Q r)
  (hc : ∀ k x a,l[k]? = some x->k<c->I k a->(∃ b,f (mk k a)=some (.nx (mk (k+1) b))/\I (k+1) b) \/ ∃ r,f (mk k a)=some (.dn r)/\Q r) : ∃ r,loop f s=some r/\Q r:=by
 refine WL (l:=l.take c) mk (λ_ k a=>I k a/\k<=(l.take c).length) Q a i (by simp;omega) ⟨hi,by omega⟩ (λa h=>p _ a (by simp;omega) (by simp;omega) h.1) (λk x m a q e o h => ?_);have d:k<c:=by simp at o;omega
 have g:l[k]? = some x:=by rw [List.getElem?_take] at e;rw [if_pos d] at e;exact e
 rcases hc k x a g d h.1 with ⟨b,h1,j⟩ | h1
 ·exact .inl ⟨b,h1,j,by omega⟩
 ·exact .inr h1
theorem dC {k c:Nat} (h:k<c):SW (k:Int) (c:Int)=true:=by unfold SW;simp;omega
theorem ka {α β:Type} {l:List α} {k c:Nat} (h:k=l.length\/k=c) (b:k<=l.length) (A B C:Option β) (e:B=C):br (SW (k:Int) (l.length:Int)) (λ_=>br (SW (k:Int) (c:Int)) (λ_=>A) λ_=>B) (λ_=>C)=C:=by
 rw [Sr];by_cases a:(k:Int)<(l.length:Int)
 ·rw [if_pos a,Sr,if_neg (by omega),e]
 ·rw [if_neg a]
end
section
open Go Go.Proofs.YtfilfloanndddaaGreat.Sv
end
section
open Go Go.Proofs.YtfilfloanndddaaGreat.Sv
theorem fV (L:TB) (n:Nat):Wc (L,(n:Int))=some (TG L.2 n):=by
 unfold Wc;simp only [TH,TF];rw [So];by_cases h:n<L.2.length
 ·rw [if_neg (by omega),S9,Sb (Vk h)]
 ·rw [if_pos (by omega)];unfold TG;rw [List.getElem?_eq_none (by omega)];rfl
theorem Zq {s:TA} (v:VSt s) (hf:eR s.1) {n:Nat} {j:Job} (ha:JobAt s.1 n j) (h0 : ¬ 0<TY s.1 j) (hc:Vg s.1 j=true) (h5:UO j≠[]->s.2.2<=1000000) {X:Int} (D:X=(Xi s j:Int)) :
  (bd (VA ((s.1,((n:Int),[])))) λp=>br (SU (Kb (AS j.2.2.2.1)) 0) (λ_=>bd (Wc (p,X)) λw=>gd (CD (AS w) 1048576) λ_=>gd (CD (BD (AS w) (AS ([(s.2.2,j.2.2.2.1)]))) 1048576) λ_=>bd (VA ((p,(X,Ik w ([(s.2.2,j.2.2.2.1)]))))) λy=>bd (UD y) λq=>bd (loop (λ(c:(Int×(Int×((List (List Tb))×((List (Int×(TC×((Bool×TD)×((List S8)×Int)))))×Int)))))=>br (SW c.1 (Kb (AS q))) (λ_=>RX c.1 λE=>ix q E λY=>bd (UQ (((c.2.1,c.2.2.1),Y))) λe=>bd (loop (λ(l:(Int×(Int×((List (List S8))×((List Int)×((List TD)×((List Int)×(Int×(Bool×((List UInt8)×(Bool×((List S8)×Int))))))))))))=>br (SW l.1 (Kb (AS s.2.1))) (λ_=>RX l.1 λG=>ix s.2.1 G λZ=>RX c.1 λI=>ix q I λx52=>br (RR Z.1 x52) (λ_=>RX c.1 λJ=>ix q J λx54=>br (RT x54 (n:Int)) (λ_=>RX l.1 λK=>ix s.2.1 K λg=>some (.nx ((Rl .i64 l.1 1,(g.1,(g.2.1.1,(g.2.1.2.1,(g.2.1.2.2.1,(g.2.1.2.2.2.1,(g.2.1.2.2.2.2,(g.2.2.1.1,(g.2.2.1.2.1,(g.2.2.1.2.2,g.2.2.2))))))))))))) λ_=>some (.nx (Rl .i64 l.1 1,l.2))) λ_=>some (.nx (Rl .i64 l.1 1,l.2))) λ_=>some (.dn ((0,(l,()))))) ((0,(e.1.1,(e.1.2.1.1,(e.1.2.1.2.1,(e.1.2.1.2.2.1,(e.1.2.1.2.2.2.1,(e.1.2.1.2.2.2.2,(e.1.2.2.1.1,(e.1.2.2.1.2.1,(e.1.2.2.1.2.2,e.1.2.2.2)))))))))))) λa=>gd (CD (BD (AS c.2.2.2.1) (AS ([(a.2.1.2.1,((a.2.1.2.2.1,(a.2.1.2.2.2.1,(a.2.1.2.2.2.2.1,(a.2.1.2.2.2.2.2.1,a.2.1.2.2.2.2.2.2.1)))),((a.2.1.2.2.2.2.2.2.2.1,(a.2.1.2.2.2.2.2.2.2.2.1,a.2.1.2.2.2.2.2.2.2.2.2.1)),a.2.1.2.2.2.2.2.2.2.2.2.2)))]))) 1048576) λ_=>some (.nx ((Rl .i64 c.1 1,(c.2.1,(c.2.2.1,(Ik c.2.2.2.1 ([(a.2.1.2.1,((a.2.1.2.2.1,(a.2.1.2.2.2.1,(a.2.1.2.2.2.2.1,(a.2.1.2.2.2.2.2.1,a.2.1.2.2.2.2.2.2.1)))),((a.2.1.2.2.2.2.2.2.2.1,(a.2.1.2.2.2.2.2.2.2.2.1,a.2.1.2.2.2.2.2.2.2.2.2.1)),a.2.1.2.2.2.2.2.2.2.2.2.2)))]),c.2.2.2.2))))))) λ_=>some (.dn ((0,(c,()))))) ((0,(y.1,(y.2,([],Rl .i64 s.2.2 1)))))) λz=>some ((((z.2.1.2.1,z.2.1.2.2.1),z.2.1.2.2.2),0))) λ_=>bd (UD p) λt=>bd (loop (λ(d:(Int×(Int×((List (List Tb))×((List (Int×(TC×((Bool×TD)×((List S8)×Int)))))×Int)))))=>br (SW d.1 (Kb (AS t))) (λ_=>RX d.1 λN=>ix t N λx62=>bd (UQ (((d.2.1,d.2.2.1),x62))) λf=>bd (loop (λ(m:(Int×(Int×((List (List S8))×((List Int)×((List TD)×((List Int)×(Int×(Bool×((List UInt8)×(Bool×((List S8)×Int))))))))))))=>br (SW m.1 (Kb (AS s.2.1))) (λ_=>RX m.1 λO=>ix s.2.1 O λx66=>RX d.1 λP=>ix t P λx68=>br (RR x66.1 x68) (λ_=>RX d.1 λS=>ix t S λx70=>br (RT x70 (n:Int)) (λ_=>RX m.1 λU=>ix s.2.1 U λk=>some (.nx ((Rl .i64 m.1 1,(k.1,(k.2.1.1,(k.2.1.2.1,(k.2.1.2.2.1,(k.2.1.2.2.2.1,(k.2.1.2.2.2.2,(k.2.2.1.1,(k.2.2.1.2.1,(k.2.2.1.2.2,k.2.2.2))))))))))))) λ_=>some (.nx (Rl .i64 m.1 1,m.2))) λ_=>some (.nx (Rl .i64 m.1 1,m.2))) λ_=>some (.dn ((0,(m,()))))) ((0,(f.1.1,(f.1.2.1.1,(f.1.2.1.2.1,(f.1.2.1.2.2.1,(f.1.2.1.2.2.2.1,(f.1.2.1.2.2.2.2,(f.1.2.2.1.1,(f.1.2.2.1.2.1,(f.1.2.2.1.2.2,f.1.2.2.2)))))))))))) λb=>gd (CD (BD (AS d.2.2.2.1) (AS ([(b.2.1.2.1,((b.2.1.2.2.1,(b.2.1.2.2.2.1,(b.2.1.2.2.2.2.1,(b.2.1.2.2.2.2.2.1,b.2.1.2.2.2.2.2.2.1)))),((b.2.1.2.2.2.2.2.2.2.1,(b.2.1.2.2.2.2.2.2.2.2.1,b.2.1.2.2.2.2.2.2.2.2.2.1)),b.2.1.2.2.2.2.2.2.2.2.2.2)))]))) 1048576) λ_=>some (.nx ((Rl .i64 d.1 1,(d.2.1,(d.2.2.1,(Ik d.2.2.2.1 ([(b.2.1.2.1,((b.2.1.2.2.1,(b.2.1.2.2.2.1,(b.2.1.2.2.2.2.1,(b.2.1.2.2.2.2.2.1,b.2.1.2.2.2.2.2.2.1)))),((b.2.1.2.2.2.2.2.2.2.1,(b.2.1.2.2.2.2.2.2.2.2.1,b.2.1.2.2.2.2.2.2.2.2.2.1)),b.2.1.2.2.2.2.2.2.2.2.2.2)))]),d.2.2.2.2))))))) λ_=>some (.dn ((0,(d,()))))) ((0,(p.1,(p.2,([],s.2.2)))))) λA=>some ((((A.2.1.2.1,A.2.1.2.2.1),A.2.1.2.2.2),0)):Option (TA×Int))=some (YI s (VK s j) (XU s j) j.1,0):=by
 have F:=dD v hf ha h0 hc h5;obtain ⟨o1,o2,W,o4,o5⟩:=ha.out v.lev (hf n);have hj:j.1.toNat=n:=by rw [W];simp
 have hn2:=v.n2;have hn1:=v.n1;have hjs:=v.jsmall;have o:=F.lev;have hl:=v.lev.len;have hl1:=F.l1.len;have small : ∀ {M:TB},VLev M -> ∀ i,(TG M.2 i).length<=1048576:=λvM i=>by have:=(vM.own i).1;omega
 rw [bT (by omega) (by omega) (by simp) (small v.lev),SL];simp only [TH,TF];rw [Sp];by_cases u:UO j=[]
 ·rw [if_neg (show ¬ ((j.2.2.2.1.length:Int)>0) by rw [show j.2.2.2.1=[] from u];simp)];have B:VK s j=UP s.1 n []:=by unfold VK;rw [if_pos u,hj]
  have C:XU s j=s.2.2:=by unfold XU;rw [if_pos u]
  rw [<- B,ZS (by have:=o.len;omega),SL];refine Tc (Za v.nodup (by omega) o s.2.2 (n:Int)) ?_;rw [C,W];rfl
 ·rw [if_pos (show ((j.2.2.2.1.length:Int)>0) by have:=List.length_pos_iff.2 u;have h:(UO j).length=j.2.2.2.1.length:=rfl;omega),D,fV,SL];have hro:=F.room u;have ht:=F.to12 u
  have B:VK s j=UP (UP s.1 n []) (Xi s j) (TG (UP s.1 n []).2 (Xi s j)++[(s.2.2,UO j)]):=by
   unfold VK;rw [if_neg u,hj]
  have C:XU s j=s.2.2+1:=by unfold XU;rw [if_neg u]
  rw [Tw (by omega),Tw (by simp only [BD,List.length_cons,List.length_nil];omega)];have hW:=bT (L:=UP s.1 n []) (n:=Xi s j) (r:=TG (UP s.1 n []).2 (Xi s j)++[(s.2.2,UO j)]) (by omega) (by omega) (by simp;omega) (small F.l1);rw [<- B] at hW;refine Tc (x:=VK s j) hW ?_;rw [ZS (by have:=o.len;omega),SL,R9 (by omega)];refine Tc (Za v.nodup (by omega) o (s.2.2+1) (n:Int)) ?_;rw [C,W];rfl
theorem bS {s:TA} (m:Sm s) (l:eR s.1) (a:Int):WJ (s,a)=some (WS zS YR s a):=by
 unfold WJ;rw [cL m,SL,YF m,ae m];unfold WS;by_cases b:(TE s).2=0;rotate_left
 ·rw [if_pos b,Ss,if_neg b,if_pos b];rfl
 rw [if_neg (show ¬ (TE s).2≠0 by simp [b]),if_neg (show ¬ (TE s).2≠0 by simp [b]),if_neg (show ¬ (TE s).2≠0 by simp [b])];have v:=TN.1 b;unfold Z3 XY;rw [if_neg (show ¬ (TE s).2≠0 by simp [b])];cases q:Yo a 0 (TI 0 s.1.2) with
 | none=>rfl
 | some i =>
  obtain ⟨j,n,o,p,f,k,r⟩:=v.at q;have:=v.lev.len;subst p;simp only [o];unfold YR Y5;by_cases c:0<TY s.1 j
  ·rw [if_pos c,if_pos (.inl c)];rfl
  rw [if_neg c]
  have g:(if VX s.1 j=true then (j.1,(0:Int)) else (j.1+1,0))=((Xi s j:Int),0):=by
   unfold Xi;split<;>rw [f]<;>simp
  rw [g,Ss,if_pos rfl,SL,S9,Sb o,SL,Tn,Sx];by_cases hc:Vg s.1 j=true;rotate_left
  ·rw [if_neg hc,if_pos (.inr (by simpa using hc))];rfl
  rw [if_pos hc,if_neg (show ¬ (0<TY s.1 j\/Vg s.1 j=false) by rw [hc];simp;omega),Sp];by_cases e:s.2.2>1000000
  ·rw [if_pos e,Sp];by_cases d:UO j=[]
   ·rw [if_neg (show ¬ (Kb (AS j.2.2.2.1)>0) by rw [show j.2.2.2.1=[] from d];simp [TH,TF]),if_neg (by simp [d])];dsimp only;exact Zq v l k c hc (λh=>absurd d h) rfl
   ·rw [if_pos (show Kb (AS j.2.2.2.1)>0 by have:=List.length_pos_iff.2 d;have h:(UO j).length=j.2.2.2.1.length:=rfl;rw [TH,TF];omega),if_pos ⟨e,d⟩];rfl
  ·rw [if_neg e,if_neg (by simp [e])];dsimp only;exact Zq v l k c hc (λh=>by omega) rfl
theorem dv {s:TA} (m:Sm s) (f:eR s.1) (a:Int):Xs (s,a)=some (Uz s a):=by
 unfold Xs;rw [ae m,SL,YN m,bS m f];unfold WS Uz;by_cases b:(TE s).2=0;rotate_left
 ·rw [if_pos b,if_pos b,Sn,if_neg b];rw [Ss,if_neg b,if_pos b];rfl
 rw [if_neg (show ¬ (TE s).2≠0 by simp [b]),if_neg (show ¬ (TE s).2≠0 by simp [b]),if_neg (show ¬ (TE s).2≠0 by simp [b]),if_neg (show ¬ (TE s).2≠0 by simp [b])];have v:=TN.1 b;unfold Z3;cases e:Yo a 0 (TI 0 s.1.2) with
 | none =>
  simp only;rw [Sn,if_neg (by omega),Ss,if_neg (by omega)];rfl
 | some i =>
  obtain ⟨j,n,d,k,g,h,l⟩:=v.at e;simp only [d];unfold XP;rw [Sn,if_pos rfl,Tn,Sx];by_cases hc:Vg s.1 j=true;rotate_left
  ·rw [if_neg hc,if_pos (by simpa using hc)];rfl
  rw [if_pos hc,if_neg (by simp [hc]),Ss,if_pos rfl,SL,Sp];by_cases c:0<TY s.1 j
  ·rw [if_pos (show ((TY s.1 j:Int))>0 by omega),if_pos c,dy m v e d c];rfl
  ·rw [if_neg (show ¬ ((TY s.1 j:Int))>0 by omega),if_neg c];rfl
end
section
open Go Go.Proofs.YtfilfloanndddaaGreat.Sv
def UE (l:List S8) (k:Ww):Option S8:=l.find? λx=>decide (x.1=k)
theorem UJ (x:S8) (l:List S8) (k:Ww):UE (x::l) k=if x.1=k then some x else UE l k:=by
 unfold UE;rw [List.find?_cons];by_cases h:x.1=k<;>simp [h]
theorem Yp (l m:List S8) (k:Ww):UE (l++m) k=(UE l k).or (UE m k):=by
 unfold UE;rw [List.find?_append]
theorem Xb (x:S8) (k:Ww):UE [x] k=if x.1=k then some x else none:=by rw [UJ];rfl
theorem bD {l:List S8} {k:Ww} {x:S8} (h:UE l k=some x):x.1=k/\x∈l:=by
 unfold UE at h;exact ⟨by simpa using List.find?_some h,List.mem_of_find?_eq_some h⟩
theorem Xa {l:List S8} {k:Ww} (h : ∀ x∈l,x.1≠k):UE l k=none:=by
 unfold UE;rw [List.find?_eq_none];intro x a;simpa using h x a
theorem YX : ∀ {l:List S8} {q:Ww},Asc (some q) l -> ∀ x∈l,Rz q x.1=true
 | x::l,q,⟨a,b⟩,y,hy=>by
  rcases List.mem_cons.1 hy with e | hy
  ·rw [e];exact a q rfl
  ·exact V3 (a q rfl) (YX b y hy)
theorem cp : ∀ {l m:List S8} {p q:Option Ww},Asc p l->Asc q m->(∀ k,UE l k=UE m k)->l=m
 | [],[],_,_,_,_,_=>rfl
 | [],y::m,_,_,_,_,h=>by
  have:=h y.1;rw [UJ,if_pos rfl] at this;cases this
 | x::l,[],_,_,_,_,h=>by
  have:=h x.1;rw [UJ,if_pos rfl] at this;cases this
 | x::l,y::m,p,q,⟨t,f⟩,⟨s,d⟩,h=>by
  have e1:=h x.1;have e2:=h y.1;rw [UJ,if_pos rfl,UJ] at e1;rw [UJ,UJ,if_pos rfl] at e2
  have g:x.1=y.1:=by
   by_cases b:y.1=x.1
   ·exact b.symm
   ·rw [if_neg b] at e1;rw [if_neg (λe=>b e.symm)] at e2;have n:=YX d x (bD e1.symm).2;have j:=YX f y (bD e2).2;rw [Us n] at j;cases j
  rw [if_pos g.symm] at e1;have c:x=y:=Option.some.inj e1;subst c;refine congrArg (x::·) (cp f d λk => ?_);have b:=h k;rw [UJ,UJ] at b;by_cases a:x.1=k
  ·have o:UE l k=none:=Xa λz i=>by
    have:=YX f z i;rw [a] at this;exact λe=>YG this e.symm
   have r:UE m k=none:=Xa λz i=>by
    have:=YX d z i;rw [a] at this;exact λe=>YG this e.symm
   rw [o,r]
  ·rw [if_neg a,if_neg a] at b;exact b
theorem YW (P:S8->Bool) : ∀ {l:List S8} {p:Option Ww},Asc p l->Asc p (l.filter P)
 | [],_,_=>trivial
 | x::l,p,⟨b,d⟩=>by
  have c:=YW P d;rw [List.filter_cons];cases P x with
  | true=>exact ⟨b,c⟩
  | false =>
   refine c.weak λe a=>⟨x.1,rfl,?_⟩;exact Us (b e a)
theorem X9 (P:S8->Bool) (k:Ww) : ∀ {l:List S8} {p:Option Ww},Asc p l->UE (l.filter P) k=(UE l k).filter P
 | [],_,_=>rfl
 | x::l,p,⟨h,c⟩=>by
  have d:=X9 P k c;rw [List.filter_cons,UJ];by_cases a:x.1=k
  ·rw [if_pos a]
   have f:UE (l.filter P) k=none:=Xa λz g=>by
    have:=YX c z (List.mem_filter.1 g).1;rw [a] at this;exact λe=>YG this e.symm
   cases b:P x with
   | true=>rw [if_pos rfl,UJ,if_pos a];simp [Option.filter,b]
   | false=>rw [if_neg (by simp),f];simp [Option.filter,b]
  ·rw [if_neg a];cases b:P x with
   | true=>rw [if_pos rfl,UJ,if_neg a];exact d
   | false=>simpa using d
def ZO:List S8->S8->List S8
 | [],x=>[x]
 | y::l,x=>if Rz y.1 x.1=true then y::ZO l x else if y.1=x.1 then y::l else x::y::l
theorem al (x:S8) : ∀ {l:List S8} {p:Option Ww},Asc p l->(∀ q,p=some q->Rz q x.1=true)->Asc p (ZO l x)
 | [],p,_,hp=>⟨hp,trivial⟩
 | y::l,p,⟨d,a⟩,hp=>by
  unfold ZO;by_cases h:Rz y.1 x.1=true
  ·rw [if_pos h];exact ⟨d,al x a λq c=>by cases c;exact h⟩
  ·rw [if_neg h];by_cases b:y.1=x.1
   ·rw [if_pos b];exact ⟨d,a⟩
   ·rw [if_neg b];exact ⟨hp,λq c=>by cases c;exact Yf (by simpa using h) b,a⟩
theorem am (x:S8) (k:Ww) : ∀ {l:List S8} {p:Option Ww},Asc p l->UE (ZO l x) k=(UE l k).or (if x.1=k then some x else none)
 | [],_,_=>by unfold ZO;rw [Xb];rfl
 | y::l,p,⟨f,d⟩=>by
  unfold ZO;by_cases h:Rz y.1 x.1=true
  ·rw [if_pos h,UJ,UJ,am x k d];split<;>rfl
  ·rw [if_neg h];by_cases b:y.1=x.1
   ·rw [if_pos b,UJ,<- b];by_cases a:y.1=k
    ·rw [if_pos a];rfl
    ·rw [if_neg a,if_neg a];cases UE l k<;>rfl
   ·rw [if_neg b,UJ];have c:Rz x.1 y.1=true:=Yf (by simpa using h) b;by_cases a:x.1=k
    ·rw [if_pos a]
     have:UE (y::l) k=none:=Xa λz hz=>by
      rw [<- a];rcases List.mem_cons.1 hz with e | hz
      ·rw [e];exact b
      ·exact λe=>YG (V3 c (YX d z hz)) e.symm
     rw [this,if_pos a];rfl
    ·rw [if_neg a,if_neg a];cases UE (y::l) k<;>rfl
theorem cm (k:Ww) : ∀ (r l:List S8),Asc none l->Asc none (r.foldl ZO l)/\UE (r.foldl ZO l) k=(UE l k).or (UE r k)
 | [],l,h=>⟨h,by show UE l k=_;cases UE l k<;>rfl⟩
 | x::r,l,h=>by
  obtain ⟨a,b⟩:=cm k r (ZO l x) (al x h λ_ h=>by cases h);refine ⟨a,?_⟩;rw [List.foldl_cons,b,am x k h,UJ,Option.or_assoc]
  congr 1
  split<;>rfl
def dU (rs:List Tb) (l:List S8):List S8:=rs.foldl (λout r=>r.2.foldl ZO out) l
def U4:List Tb->Ww->Option S8
 | [],_=>none
 | r::rs,k=>(UE r.2 k).or (U4 rs k)
theorem aQ (k:Ww) : ∀ (rs:List Tb) (l:List S8),Asc none l->Asc none (dU rs l)/\UE (dU rs l) k=(UE l k).or (U4 rs k)
 | [],l,h=>⟨h,by show UE l k=_;cases UE l k<;>rfl⟩
 | r::rs,l,h=>by
  obtain ⟨a,b⟩:=cm k r.2 l h;obtain ⟨c,d⟩:=aQ k rs (r.2.foldl ZO l) a;refine ⟨c,?_⟩;show UE (dU rs (r.2.foldl ZO l)) k=_;rw [d,b,Option.or_assoc];rfl
def Wu (x:S8):Bool := !x.2.2.1
def K7 (L:TB):List S8:=(dU (Uh L.2) []).filter Wu
theorem e8 {L M:TB} (h : ∀ k,(U4 (Uh L.2) k).filter Wu=(U4 (Uh M.2) k).filter Wu):K7 L=K7 M:=by
 have a:=λk=>aQ k (Uh L.2) [] trivial;have b:=λk=>aQ k (Uh M.2) [] trivial;refine cp (YW Wu (a []).1) (YW Wu (b []).1) λk => ?_;show UE ((dU (Uh L.2) []).filter Wu) k=UE ((dU (Uh M.2) []).filter Wu) k;rw [X9 Wu k (a []).1,X9 Wu k (b []).1,(a k).2,(b k).2];exact h k
theorem bI : ∀ (a b:List Tb) (k:Ww),U4 (a++b) k=(U4 a k).or (U4 b k)
 | [],b,k=>rfl
 | r::a,b,k=>by
  show (UE r.2 k).or (U4 (a++b) k)=((UE r.2 k).or (U4 a k)).or (U4 b k);rw [bI a b k,Option.or_assoc]
theorem dL : ∀ {l:List S8} {s:UH} {k:Ww},Y6 s l->s.1=true->Rz k s.2.1=true->UE l k=none
 | [],_,_,_,_,_=>rfl
 | x::l,s,k,⟨_,c,d⟩,b,hk=>by
  have a:Rz k x.1=true:=bm hk (c b);rw [UJ,if_neg (λe=>YG a e.symm)];exact dL d rfl a
theorem bA (k:Ww) : ∀ {l:List S8} {s:UH},Y6 s l->UE (Vl s l) k=if s.1=true/\s.2.1=k then none else (UE l k).filter λx => !(s.2.2&&x.2.2.1)
 | [],s,_=>by unfold Vl;split<;>rfl
 | x::l,s,⟨_,g,c⟩=>by
  have f:=bA k c;simp only [true_and] at f;unfold Vl;rw [Yp,f,UJ];by_cases a:x.1=k
  ·rw [if_pos a,if_pos a];by_cases hs:s.1=true/\s.2.1=k
   ·rw [if_pos hs];have:keep s x=false:=by unfold keep;rw [hs.1,hs.2,a];simp
    rw [this];rfl
   ·rw [if_neg hs]
    have:keep s x = !(s.2.2&&x.2.2.1):=by
     unfold keep
     have:(s.1&&decide (x.1=s.2.1))=false:=by
      cases b:s.1 with
      | false=>rfl
      | true =>
       simp only [Bool.true_and,decide_eq_false_iff_not];intro e;exact hs ⟨b,by rw [<- e];exact a⟩
     rw [this];rfl
    rw [this];cases d:(!(s.2.2&&x.2.2.1)) with
    | true=>rw [if_pos rfl,Xb,if_pos a];simp [Option.filter,d]
    | false=>rw [if_neg (by simp)];simp [Option.filter,d,UE]
  ·rw [if_neg a,if_neg a]
   have b:UE (if keep s x=true then [x] else []) k=none:=by
    split
    ·rw [Xb,if_neg a]
    ·rfl
   rw [b,Option.none_or];by_cases hs:s.1=true/\s.2.1=k
   ·rw [if_pos hs]
    have h:Rz k x.1=true:=by
     rw [<- hs.2];refine Yf (g hs.1) λe=>a ?_;rw [e];exact hs.2
    rw [dL c rfl h];rfl
   ·rw [if_neg hs]
theorem Zk {a b:List S8} (va:VL a) (l:VL b) (k:Ww) : ∀ {n:Nat},n<=a.length+b.length->UE (TU a b n) k=(UE (a.take (TM a b n).1) k).or (UE (b.take (TM a b n).2) k)
 | 0,_=>rfl
 | n+1,h=>by
  have G:=Zk va l k (n:=n) (by omega);obtain ⟨q,hs⟩:=Vw va l (n:=n) (by omega);obtain ⟨x,c,_⟩:=VT va l (n:=n) (by omega);rw [WM va l c,Yp,G,Xb];unfold ZM at c;rw [show TM a b (n+1)=if W8 a b (TM a b n).1 (TM a b n).2=true then ((TM a b n).1+1,(TM a b n).2) else ((TM a b n).1,(TM a b n).2+1) from rfl]
  revert c q;generalize (TM a b n).1=i;generalize (TM a b n).2=j;intro q c;cases g:W8 a b i j with
  | true =>
   rw [if_pos g] at c;rw [if_pos rfl];simp only;rw [List.take_add_one,c,Option.toList_some,Yp,Xb,Option.or_assoc,Option.or_assoc]
   congr 1
   by_cases r:x.1=k
   ·rw [if_pos r]
    have:UE (b.take j) k=none:=Xa λy F=>by
     obtain ⟨m,o⟩:=List.getElem?_of_mem F;rw [List.getElem?_take] at o;split at o
     ·rename_i E;have D:=q.jb;have f:b[j-1]? = some b[j-1]:=List.getElem?_eq_getElem (by omega);have B:=q.pb (j-1) (by omega) _ x f c
      have C:Rz b[j-1].1 y.1=false:=by
       by_cases s:m=j-1
       ·subst s;rw [f] at o;cases o;exact Wp _
       ·have A:=l.asc
        have : ∀ d,m+d+1<=j-1 -> ∀ z,b[m+d+1]? = some z->Rz y.1 z.1=true:=by
         intro d
         induction d with
         | zero=>intro _ z t;exact l.lt o t
         | succ d u =>
          intro I z t;have p:b[m+d+1]? = some b[m+d+1]:=List.getElem?_eq_getElem (by omega);exact V3 (u (by omega) _ p) (l.lt p t)
        exact Us (this (j-1-m-1) (by omega) _ (by rw [show m+(j-1-m-1)+1=j-1 by omega];exact f))
      intro e;have w:Rz y.1 x.1=true:=Zx C B;rw [e,r,Wp] at w;cases w
     ·cases o
    rw [this];rfl
   ·rw [if_neg r];cases UE (b.take j) k<;>rfl
  | false =>
   rw [if_neg (show ¬ W8 a b i j=true by rw [g];decide)] at c;rw [if_neg (show ¬ (false=true) by decide)];simp only;rw [List.take_add_one,c,Option.toList_some,Yp,Xb,Option.or_assoc]
theorem km {a b:List S8} (va:VL a) (e:VL b) (c:Bool) (k:Ww):UE (U6 a b c (a.length+b.length)).2.2.1 k=((UE a k).or (UE b k)).filter λx => !(c&&x.2.2.1):=by
 have f:=Wo va e c (Nat.le_refl (a.length+b.length));obtain ⟨d,hs⟩:=Vw va e (Nat.le_refl (a.length+b.length));show UE (Vl (s0 c) (TU a b (a.length+b.length))) k=_;rw [bA k f,if_neg (by simp),Zk va e k (Nat.le_refl _)];rw [List.take_of_length_le (by have:=d.ia;have:=d.jb;omega),List.take_of_length_le (by have:=d.ia;have:=d.jb;omega)]
end
section
open Go Go.Proofs.YtfilfloanndddaaGreat.Sv
def Yt (f:Nat->Option S8):Nat->Nat->Option S8
 | _,0=>none
 | i,m+1=>(f i).or (Yt f (i+1) m)
theorem dF (f:Nat->Option S8) : ∀ (m i:Nat),Yt f (i+1) m=Yt (λj=>f (j+1)) i m
 | 0,_=>rfl
 | m+1,i=>by
  show (f (i+1)).or (Yt f (i+1+1) m)=(f (i+1)).or (Yt (λj=>f (j+1)) (i+1) m);rw [dF f m (i+1)]
theorem Xc {f g:Nat->Option S8} : ∀ (m i:Nat),(∀ j,i<=j->j<i+m->f j=g j)->Yt f i m=Yt g i m
 | 0,_,_=>rfl
 | m+1,i,h=>by
  show (f i).or (Yt f (i+1) m)=(g i).or (Yt g (i+1) m);rw [h i (by omega) (by omega),Xc m (i+1) λj a b=>h j (by omega) (by omega)]
theorem aa : ∀ (m i:Nat),Yt (λ_=>none) i m=none
 | 0,_=>rfl
 | m+1,i=>by show (none:Option S8).or _=_;rw [Option.none_or];exact aa m (i+1)
theorem Zg (f:Nat->Option S8) : ∀ (p i q:Nat),Yt f i (p+q)=(Yt f i p).or (Yt f (i+p) q)
 | 0,i,q=>by rw [Nat.zero_add];rfl
 | p+1,i,q=>by
  rw [show p+1+q=(p+q)+1 by omega];show (f i).or (Yt f (i+1) (p+q))=((f i).or (Yt f (i+1) p)).or (Yt f (i+(p+1)) q);rw [Zg f p (i+1) q,Option.or_assoc,show i+1+p=i+(p+1) by omega]
theorem ZF (k:Ww) : ∀ (ls:List (List Tb)) (K:Nat),ls.length<=K->U4 (Uh ls) k=Yt (λj=>U4 (TG ls j).reverse k) 0 K
 | [],K,_=>by
  have:(λj=>U4 (TG [] j).reverse k)=λ_=>none:=by
   funext j;have:TG [] j=[]:=rfl
   rw [this];rfl
  rw [this,aa];rfl
 | rs::ls,0,h=>by simp at h
 | rs::ls,K+1,h=>by
  have e:Uh (rs::ls)=rs.reverse++Uh ls:=rfl;rw [e,bI,ZF k ls K (by simpa using h)];show _=(U4 (TG (rs::ls) 0).reverse k).or (Yt (λj=>U4 (TG (rs::ls) j).reverse k) (0+1) K);rw [dF];rfl
theorem dg {s:TA} (v:VSt s) (C:eR s.1) {n:Nat} {j:Job} (r:JobAt s.1 n j) (E : ¬ 0<TY s.1 j) (hc:Vg s.1 j=true) (G:UO j≠[]->s.2.2<=1000000):K7 (VK s j)=K7 s.1:=by
 have F:=dD v C r E hc G;obtain ⟨W,X,L,Y,Z⟩:=r.out v.lev (C n);have d:j.1.toNat=n:=by rw [L];simp
 obtain ⟨b,c,q,m,B,f,P,t,M,N⟩:=r;have K:=XN.1 B
 have O:TY s.1 j=c.2.length+b.2.length-m:=by
  rw [f];unfold TY;simp only [Int.toNat_natCast,B];show c.2.length+b.2.length-((m:Int)).toNat=_;rw [Int.toNat_natCast]
 have u:m=c.2.length+b.2.length:=by omega
 subst u
 have p : ∀ k,UE (UO j) k=((UE c.2 k).or (UE b.2 k)).filter λx => !(q&&x.2.2.1):=λk=>by
  rw [f];exact km N M q k
 refine e8 λk => ?_;have S:=F.lev.len;have U:=v.lev.len;rw [ZF k _ 14 (by omega),ZF k _ 14 (by omega)];rw [show 14=n+(1+(13-n)) by omega,Zg,Zg _ n 0];have w:Xi s j=n\/Xi s j=n+1:=by unfold Xi;rw [d];split<;>omega
 have l:Yt (λi=>U4 (TG (VK s j).2 i).reverse k) 0 n=Yt (λi=>U4 (TG s.1.2 i).reverse k) 0 n:=Xc _ _ λi _ hi=>by
  rw [Vc d,if_neg (by rintro ⟨_,h⟩;omega),if_neg (by omega)]
 rw [l];generalize Yt (λi=>U4 (TG s.1.2 i).reverse k) 0 n=A
 have y:Yt (λi=>U4 (TG (VK s j).2 i).reverse k) (0+n) (1+(13-n))=(UE (UO j) k).or (Yt (λi=>U4 (TG s.1.2 i).reverse k) (n+1) (13-n)):=by
  rw [Nat.zero_add,Nat.add_comm 1];show (U4 (TG (VK s j).2 n).reverse k).or (Yt (λi=>U4 (TG (VK s j).2 i).reverse k) (n+1) (13-n))=_;by_cases a:UO j=[]
  ·rw [Vc d,if_neg (by simp [a]),if_pos rfl,a];refine congrArg _ (Xc _ _ λi hi _ => ?_);rw [Vc d,if_neg (by simp [a]),if_neg (by omega)]
  ·rcases w with ht | ht
   ·rw [Vc d,if_pos ⟨a,ht.symm⟩,if_pos rfl]
    have e:U4 (([]:List Tb)++[(s.2.2,UO j)]).reverse k=UE (UO j) k:=by
     show (UE (UO j) k).or none=_;cases UE (UO j) k<;>rfl
    rw [e];refine congrArg _ (Xc _ _ λi hi _ => ?_);rw [Vc d,if_neg (by rintro ⟨_,h⟩;omega),if_neg (by omega)]
   ·rw [Vc d,if_neg (by rintro ⟨_,h⟩;omega),if_pos rfl];have D:=F.to12 a;rw [show 13-n=(12-n)+1 by omega];show (none:Option S8).or ((U4 (TG (VK s j).2 (n+1)).reverse k).or (Yt _ (n+1+1) (12-n)))=(UE (UO j) k).or ((U4 (TG s.1.2 (n+1)).reverse k).or (Yt _ (n+1+1) (12-n)));rw [Vc d,if_pos ⟨a,ht.symm⟩,if_neg (by omega),List.reverse_append,Option.none_or];have e:U4 ([(s.2.2,UO j)].reverse++(TG s.1.2 (n+1)).reverse) k=(UE (UO j) k).or (U4 (TG s.1.2 (n+1)).reverse k):=rfl;rw [e,Option.or_assoc];refine congrArg _ (congrArg _ (Xc _ _ λi hi _ => ?_));rw [Vc d,if_neg (by rintro ⟨_,h⟩;omega),if_neg (by omega)]
 have o:Yt (λi=>U4 (TG s.1.2 i).reverse k) (0+n) (1+(13-n))=((UE c.2 k).or (UE b.2 k)).or (Yt (λi=>U4 (TG s.1.2 i).reverse k) (n+1) (13-n)):=by
  rw [Nat.zero_add,Nat.add_comm 1];show (U4 (TG s.1.2 n).reverse k).or _=_;rw [K];refine congrArg (λz=>Option.or z _) ?_;show (UE c.2 k).or ((UE b.2 k).or none)=_;cases UE b.2 k<;>rfl
 rw [y,o,p k];cases q with
 | false =>
  have:((UE c.2 k).or (UE b.2 k)).filter (λx => !(false&&x.2.2.1))=(UE c.2 k).or (UE b.2 k):=by
   cases (UE c.2 k).or (UE b.2 k)<;>simp [Option.filter]
  rw [this]
 | true =>
  have I:Yt (λi=>U4 (TG s.1.2 i).reverse k) (n+1) (13-n)=none:=by
   rw [Xc (g:=λ_=>none) _ _ λi hi _ => ?_,aa];have:TG s.1.2 i=[]:=by unfold TG;rw [List.getElem?_eq_none (by have:=t rfl;omega)];rfl
   rw [this];rfl
  rw [I];cases A with
  | some x=>rfl
  | none =>
   cases (UE c.2 k).or (UE b.2 k) with
   | none=>rfl
   | some x =>
    cases J:x.2.2.1<;>simp [Option.filter,Wu,J]
end
section
open Go Go.Proofs.YtfilfloanndddaaGreat.Sv
end
section
open Go Go.Proofs.YtfilfloanndddaaGreat.Sv
end
section
open Go Go.Proofs.YtfilfloanndddaaGreat.Sv
def UW (l:List Tb):Nat:=(l.map λr=>r.2.length).sum
theorem Wk (r:Tb) (l:List Tb):UW (r::l)=r.2.length+UW l:=by simp [UW]
theorem VM (l m:List Tb):UW (l++m)=UW l+UW m:=by simp [UW]
theorem cw {l:List Tb} (h : ∀ r∈l,r.2.length<=5000):UW l<=l.length*5000:=by
 induction l with
 | nil=>simp [UW]
 | cons r l b =>
  rw [Wk,List.length_cons];have:=h r (by simp);have:=b λx a=>h x (by simp [a]);omega
end
section
open Go Go.Proofs.YtfilfloanndddaaGreat.Sv
end
section
open Go Go.Proofs.YtfilfloanndddaaGreat.Sv
end
section
open Go Go.Proofs.YtfilfloanndddaaGreat.Sv
end
section
open Go Go.Proofs.YtfilfloanndddaaGreat.Sv
end
section
open Go Go.Proofs.YtfilfloanndddaaGreat.Sv
end
section
open Go Go.Proofs.YtfilfloanndddaaGreat.Sv
def Gd (s0 s:TA):Prop:=VSt s/\K7 s.1=K7 s0.1/\UW s.1.2.flatten<=2000
theorem kY {l:List Tb} {r:Tb} (h:r∈l):r.2.length<=UW l:=by
 induction l with
 | nil=>cases h
 | cons x l a =>
  rw [Wk];rcases List.mem_cons.1 h with e | h
  ·rw [e];omega
  ·have:=a h;omega
theorem Ym {L:TB} (h:UW L.2.flatten<=2000):eR L:=λi r a=>by
 have:=kY (Zj.2 ⟨i,a⟩);omega
theorem au {s:TA} (v:VSt s) (h:eR s.1) {n:Nat} {j:Job} (g:JobAt s.1 n j) (E : ¬ 0<TY s.1 j):UW (VK s j).2.flatten<=UW s.1.2.flatten:=by
 obtain ⟨G,I,y,J,K⟩:=g.out v.lev (h n);have w:j.1.toNat=n:=by rw [y];simp
 have a:=h n;obtain ⟨d,e,m,k,u,c,x,F,B,C⟩:=g;have i:=XN.1 u;rw [i] at a;have D:=a d (by simp);have f:=a e (by simp)
 have l:(UO j).length<=e.2.length+d.2.length:=by
  rw [c];exact (fI C B m x (by omega)).2
 obtain ⟨p,q,f,o⟩:=W7 s.1 n []
 have e1:UW s.1.2.flatten=UW p+((d.2.length+e.2.length)+UW q):=by
  rw [f,i,VM,VM,Wk,Wk];simp [UW]
 have e2:UW (UP s.1 n []).2.flatten=UW p+UW q:=by rw [o,VM,VM];simp [UW]
 unfold VK;rw [w];by_cases b:UO j=[]
 ·rw [if_pos b];omega
 ·rw [if_neg b];obtain ⟨z,A,r,t⟩:=W7 (UP s.1 n []) (Xi s j) (TG (UP s.1 n []).2 (Xi s j)++[(s.2.2,UO j)]);have e3:UW (UP s.1 n []).2.flatten=UW z+(UW (TG (UP s.1 n []).2 (Xi s j))+UW A):=by rw [r,VM,VM]
  rw [t,VM,VM,VM,Wk];simp only [UW,List.map_nil,List.sum_nil];simp only [UW] at e3 e2 e1;omega
theorem cy {s:TA} (v:VSt s) {d:Int} (h:d∈TI 0 s.1.2) : ∃ (i:Nat) (j:Job) (n:Nat),Yo d 0 (TI 0 s.1.2)=some i/\s.2.1[i]? = some j/\d=(n:Int)/\j.1=(n:Int)/\JobAt s.1 n j:=by
 obtain ⟨i,hi⟩:=aV (k:=0) h;obtain ⟨j,n,a,b,c,d,_⟩:=v.at hi;exact ⟨i,j,n,hi,a,b,c,d⟩
theorem db {s0 s:TA} (g:Gd s0 s) {d:Int} (h:d∈TI 0 s.1.2) : ∃ (c:Bool) (t:TA) (b:Bool) (e:Int),Wq (s,d)=some (c,0)/\Te (s,d)=some (t,(b,e))/\(s.2.2<=1000000->c=decide (e=0))/\(e=0->Gd s0 t):=by
 obtain ⟨v,z,hc⟩:=g;have r:=Ym hc;have m:=v.sm;obtain ⟨i,j,n,hi,y,C,w,q⟩:=cy v h;have A:(TE s).2=0:=TN.2 v;have o:Z3 s d=some j:=by unfold Z3;rw [hi];exact y
 have p:Wq (s,d)=some (Vg s.1 j,0):=by
  rw [lO m];unfold WS;rw [if_neg (by simp [A]),o]
 have k:Te (s,d)=some (XP s j):=by
  rw [aO m r];unfold Uz;rw [if_neg (by simp [A]),o]
 refine ⟨Vg s.1 j,(XP s j).1,(XP s j).2.1,(XP s j).2.2,p,k,?_⟩;unfold XP;by_cases l:Vg s.1 j=false
 ·rw [if_pos l,l];exact ⟨λ_=>by simp,λh=>by cases h⟩
 have a:Vg s.1 j=true:=by simpa using l
 rw [if_neg l];by_cases f:0<TY s.1 j
 ·rw [if_pos f];refine ⟨λ_=>by simp [a],λ_=>⟨fO v (by rw [w,<- C];exact hi) y q f,z,hc⟩⟩
 rw [if_neg f];unfold YR;rw [if_neg (λh=>h.elim f l)];by_cases u:s.2.2>1000000/\UO j≠[]
 ·rw [if_pos u];exact ⟨λh=>by omega,λh=>by cases h⟩
 rw [if_neg u]
 have x:UO j≠[]->s.2.2<=1000000:=λD=>by
  by_cases B:s.2.2>1000000
  ·exact absurd ⟨B,D⟩ u
  ·omega
 refine ⟨λ_=>by simp [a],λ_=>⟨ej v r q f a x,?_,?_⟩⟩
 ·exact (dg v r q f a x).trans z
 ·have:=au v r q f;show UW (VK s j).2.flatten<=2000;omega
theorem aU : ∀ {ls:List (List Tb)} {i n:Nat},(TG ls n).length=2->((i+n:Nat):Int)∈TI i ls
 | [],i,n,h=>by simp [TG] at h
 | rs::ls,i,0,h=>by
  have h':rs.length=2:=h;rw [Xl,if_pos h'];simp
 | rs::ls,i,n+1,h=>by
  rw [Xl];refine List.mem_append_right _ ?_;have:=aU (ls:=ls) (i:=i+1) (n:=n) h
  rwa [show i+1+n=i+(n+1) by omega] at this
end
section
open Go Go.Proofs.YtfilfloanndddaaGreat.Sv
def Wi (f:Nat->Nat):Nat->Nat
 | 0=>0
 | m+1=>Wi f m+f m
theorem Z0 {f g:Nat->Nat} : ∀ {m:Nat},(∀ i,i<m->g i<=f i)->Wi g m<=Wi f m
 | 0,_=>Nat.le_refl _
 | m+1,h=>Nat.add_le_add (Z0 λi hi=>h i (by omega)) (h m (by omega))
theorem Zz {f g:Nat->Nat} {n:Nat} (a:g n+1<=f n) : ∀ {m:Nat},n<m->(∀ i,i<m->i≠n->g i<=f i)->Wi g m+1<=Wi f m
 | 0,h,_=>absurd h (by omega)
 | m+1,h,ho=>by
  unfold Wi;by_cases e:n=m
  ·subst e;have:=Z0 (f:=f) (g:=g) (m:=n) λi hi=>ho i (by omega) (by omega);omega
  ·have:=Zz a (m:=m) (by omega) λi hi=>ho i (by omega);have:=ho m (by omega) (λh=>e h.symm);omega
theorem aN {f g:Nat->Nat} {n:Nat} (a:g n+g (n+1)+1<=f n+f (n+1)) : ∀ {m:Nat},n+1<m->(∀ i,i<m->i≠n->i≠n+1->g i<=f i)->Wi g m+1<=Wi f m
 | 0,h,_=>absurd h (by omega)
 | m+1,h,ho=>by
  unfold Wi;by_cases e:n+1=m
  ·subst e;have:=Z0 (f:=f) (g:=g) (m:=n) λi hi=>ho i (by omega) (by omega) (by omega);unfold Wi;omega
  ·have:=aN a (m:=m) (by omega) λi hi=>ho i (by omega);have:=ho m (by omega) (by omega) (by omega);omega
theorem YJ : ∀ {js:List Job} {j:Job},(js.map (·.1)).Nodup->j∈js->UK js j.1=some j
 | [],_,_,h=>by cases h
 | i::js,j,hn,h=>by
  rw [List.map_cons,List.nodup_cons] at hn;unfold UK;rw [List.find?_cons];unfold aY;rw [VS];rcases List.mem_cons.1 h with e | h
  ·subst e;simp
  ·have a : ¬ j.1=i.1:=λe=>hn.1 (by rw [<- e];exact List.mem_map_of_mem h);rw [decide_eq_false a];exact YJ hn.2 h
theorem aC : ∀ {js:List Job} {i:Nat} {j:Job} (w:W3) (d:Int),(js.map (·.1)).Nodup->js[i]? = some j->UK (js.set i (j.1,w)) d=if d=j.1 then some (j.1,w) else UK js d
 | [],i,j,w,d,_,h=>by simp at h
 | x::js,0,j,w,d,hn,h=>by
  have e:x=j:=by simpa using h
  subst e;unfold UK;rw [List.set_cons_zero,List.find?_cons,List.find?_cons];unfold aY;rw [VS];by_cases e:d=x.1<;>simp [e]
 | x::js,i+1,j,w,d,hn,h=>by
  rw [List.map_cons,List.nodup_cons] at hn;have h':js[i]? = some j:=by simpa using h
  have b:=aC w d hn.2 h';unfold UK at b ⊢;rw [List.set_cons_succ,List.find?_cons,List.find?_cons,b];have c:aY d x=decide (d=x.1):=VS _ _;rw [c];by_cases e:d=x.1
  ·have a : ¬ d=j.1:=λe2=>hn.1 (by rw [<- e,e2];exact List.mem_map_of_mem (List.mem_of_getElem? h'));rw [decide_eq_true e];simp only [a,if_false]
  ·rw [decide_eq_false e]
theorem VSt.noJob {s:TA} (v:VSt s) {i:Nat} (h:(TG s.1.2 i).length≠2):UK s.2.1 (i:Int)=none:=by
 refine Xu λa=>h ?_;rw [v.due] at a;obtain ⟨n,c,d,e,b⟩:=ad a;have:i=n:=by omega
 rw [this,XN.1 b];rfl
theorem VSt.hasJob {s:TA} (v:VSt s) {i:Nat} (h:(TG s.1.2 i).length=2) : ∃ j,UK s.2.1 (i:Int)=some j:=by
 have a:=aU (i:=0) h;rw [Nat.zero_add,<- v.due] at a;obtain ⟨j,b,e⟩:=List.mem_map.1 a;exact ⟨j,by rw [<- e];exact YJ v.nodup b⟩
theorem lQ {s:TA} (v:VSt s) (d:Int):Z3 s d=UK s.2.1 d:=by
 by_cases h:d∈TI 0 s.1.2
 ·obtain ⟨j,n,a,b,c,_⟩:=v.atDue h;rw [a,b,<- c];refine (YJ v.nodup ?_).symm;unfold Z3 at a;split at a
  ·exact List.mem_of_getElem? a
  ·cases a
 ·rw [Xu (by rw [v.due];exact h)];unfold Z3;split
  ·rename_i i hi;have:=(cA hi).2;exact absurd (List.mem_of_getElem? this) h
  ·rfl
def lK (j:Job):Nat:=j.2.2.2.2.toNat
theorem JobAt.rd {L:TB} {n:Nat} {j:Job} (h:JobAt L n j) : ∃ a b,TG L.2 n=[a,b]/\lK j<=b.2.length+a.2.length/\TY L j=b.2.length+a.2.length-lK j/\(0<TY L j->lK (j.1,X3 L j)=lK j+1):=by
 obtain ⟨a,b,c,k,d,rfl,f,g,i,l⟩:=h;have e:=XN.1 d;have e1:(U6 b.2 a.2 c k).2.1.2.2=c:=ZV _ _ _ _;have e2:(U6 b.2 a.2 c k).2.2.2.toNat=k:=by show ((k:Int)).toNat=k;rw [Int.toNat_natCast]
 refine ⟨a,b,e,?_,?_,λ_ => ?_⟩
 ·show (U6 b.2 a.2 c k).2.2.2.toNat<=_;rw [e2];exact f
 ·unfold TY lK;simp only [Int.toNat_natCast,d]
 ·show (X3 L ((n:Int),U6 b.2 a.2 c k)).2.2.2.toNat=(U6 b.2 a.2 c k).2.2.2.toNat+1;unfold X3;simp only [Int.toNat_natCast,e];rw [e1,e2];show (((k+1:Nat):Int)).toNat=_;rw [Int.toNat_natCast]
structure StepF (s:TA) (n:Nat) (j:Job) (t:TA) (b:Bool):Prop where
 job:UK s.2.1 (n:Int)=some j
 read:0<TY s.1 j->b=false/\t.1=s.1/\t.2.2=s.2.2 /\ ∀ i:Nat,UK t.2.1 (i:Int)=if i=n then some (j.1,X3 s.1 j) else UK s.2.1 (i:Int)
 inst:TY s.1 j=0->b=true/\t.1=VK s j/\t.2.2=XU s j/\(∀ i,(TG t.1.2 i)=if UO j≠[]/\i=Xi s j then (if i=n then [] else TG s.1.2 i)++[(s.2.2,UO j)] else if i=n then [] else TG s.1.2 i)/\(Xi s j=n\/Xi s j=n+1/\n+1<12/\(UO j≠[]->(TG s.1.2 (n+1)).length<2)) /\
  ∀ i:Nat,UK t.2.1 (i:Int)=if (TG t.1.2 i).length=2 then some ((if i=n then none else UK s.2.1 (i:Int)).getD (V4 t.1 (i:Int))) else none
theorem cV {s0 s:TA} (g:Gd s0 s) {d:Int} (h:d∈TI 0 s.1.2) (e:(Uz s d).2.2=0) : ∃ (n:Nat) (j:Job),d=(n:Int)/\n<12/\JobAt s.1 n j/\Vg s.1 j=true/\StepF s n j (Uz s d).1 (Uz s d).2.1/\Gd s0 (Uz s d).1:=by
 obtain ⟨v,Z,hc⟩:=g;have X:=Ym hc;have m:=v.sm;obtain ⟨c,t,b,er,_,K,_,Y⟩:=db ⟨v,Z,hc⟩ h;rw [aO m X] at K;have w:=Option.some.inj K;obtain ⟨i,j,n,hi,U,D,u,S⟩:=cy v h;have hz:(TE s).2=0:=TN.2 v;have C:Z3 s d=some j:=by unfold Z3;rw [hi];exact U
 have hn:n<12:=by
  have:=v.lev.len;obtain ⟨_,_,_,_,W,_⟩:=S;have:=(List.getElem?_eq_some_iff.1 W).1;omega
 have F:UK s.2.1 (n:Int)=some j:=by rw [<- D,<- lQ v,C]
 have hS:Uz s d=XP s j:=by unfold Uz;rw [if_neg (by simp [hz]),C]
 have A:Gd s0 (Uz s d).1:=by rw [w];exact Y (by rw [<- e,w])
 have k:=A.1;rw [hS] at e k A ⊢;refine ⟨n,j,D,hn,S,?_,⟨F,λO => ?_,λO => ?_⟩,A⟩
 ·unfold XP at e;by_cases a:Vg s.1 j=false
  ·rw [if_pos a] at e;cases e
  ·simpa using a
 ·unfold XP at e ⊢;have a : ¬ Vg s.1 j=false:=λa=>by rw [if_pos a] at e;cases e
  rw [if_neg a,if_pos O];refine ⟨rfl,rfl,rfl,λo => ?_⟩;show UK (Yw s j).2.1 _=_;unfold Yw;rw [u,<- D,hi,Option.getD_some];show UK (s.2.1.set i (d,X3 s.1 j)) _=_;have:=aC (X3 s.1 j) (o:Int) v.nodup U;rw [u,<- D] at this;rw [this,D];by_cases p:o=n
  ·rw [if_pos (by rw [p]),if_pos p]
  ·rw [if_neg (by omega),if_neg p]
 ·unfold XP at e k ⊢;have a : ¬ Vg s.1 j=false:=λa=>by rw [if_pos a] at e;cases e
  have q:Vg s.1 j=true:=by simpa using a
  have z : ¬ 0<TY s.1 j:=by omega
  rw [if_neg a,if_neg z] at e k ⊢;unfold YR at e k ⊢;rw [if_neg (λh=>h.elim z a)] at e k ⊢;by_cases P:s.2.2>1000000/\UO j≠[]
  ·rw [if_pos P] at e;cases e
  rw [if_neg P] at e k ⊢;have B:j.1.toNat=n:=by rw [u];simp
  have I : ∀ i,TG (VK s j).2 i=_:=λi=>Vc (s:=s) (j:=j) B i;refine ⟨rfl,rfl,rfl,I,?_,λo => ?_⟩
  ·unfold Xi;rw [B];by_cases hs:VX s.1 j=true
   ·rw [if_pos hs];exact .inl rfl
   ·rw [if_neg hs]
    have hr:YT s.1 (n+1)=true:=by
     unfold Vg at q;rw [B] at q;simpa [hs,z] using q
    have J:=of_decide_eq_true hr;exact .inr ⟨rfl,J.1,λ_=>J.2⟩
  ·have r:VSt (YI s (VK s j) (XU s j) j.1):=k;show UK (YI s (VK s j) (XU s j) j.1).2.1 (o:Int)=if (TG (VK s j).2 o).length=2 then some ((if o=n then none else UK s.2.1 (o:Int)).getD (V4 (VK s j) (o:Int))) else none
   have ho:(TG (YI s (VK s j) (XU s j) j.1).1.2 o)=TG (VK s j).2 o:=rfl;by_cases L:(TG (VK s j).2 o).length=2
   ·rw [if_pos L];have N:=aU (i:=0) L;rw [Nat.zero_add] at N;have G:WH s (VK s j) j.1 (o:Int)∈(YI s (VK s j) (XU s j) j.1).2.1:=List.mem_map_of_mem N
    have E:(WH s (VK s j) j.1 (o:Int)).1=(o:Int):=by
     have M:(TI 0 (VK s j).2).map (λd=>(WH s (VK s j) j.1 d).1)=TI 0 (VK s j).2:=by
      have:=r.due;simpa [YI,List.map_map,Function.comp_def] using this
     have key : ∀ {l:List Int} {f:Int->Int},l.map f=l -> ∀ x∈l,f x=x:=by
      intro l f
      induction l with
      | nil=>intro _ x hx;cases hx
      | cons y l ih =>
       intro h x hx;rw [List.map_cons] at h;obtain ⟨k1,k2⟩:=List.cons.inj h;rcases List.mem_cons.1 hx with rfl | hx
       ·exact k1
       ·exact ih k2 x hx
     exact key M _ N
    have:=YJ r.nodup G;rw [E] at this;rw [this];unfold WH;rw [u];by_cases p:o=n
    ·rw [if_pos (by omega),if_pos p]
    ·rw [if_neg (by omega),if_neg p]
   ·rw [if_neg L];exact r.noJob (by rw [ho];exact L)
end
section
open Go Go.Proofs.YtfilfloanndddaaGreat.Sv
def kW (s:TA) (i:Nat):Nat:=match UK s.2.1 (i:Int) with
 | some j=>lK j
 | none=>0
def bo (N:Nat) (s:TA) (i:Nat):Nat:=(TG s.1.2 i).length*(N+1)-kW s i
def eP (N:Nat) (s:TA):Nat:=Wi (bo N s) 12
theorem kZ {L:TB} {n:Nat} {a b:Tb} (h:TG L.2 n=[a,b]):a.2.length+b.2.length<=UW L.2.flatten:=by
 obtain ⟨p,q,c,_⟩:=W7 L n [];rw [c,h,VM,VM,Wk,Wk];omega
theorem VSt.rd0 {s:TA} (v:VSt s) {i:Nat} (h:(TG s.1.2 i).length≠2):kW s i=0:=by
 unfold kW;rw [v.noJob h]
theorem fJ {N:Nat} {s t:TA} {n:Nat} {j:Job} {b:Bool} (v:VSt s) (B:UW s.1.2.flatten<=N) (r:n<12) (y:JobAt s.1 n j) (F:StepF s n j t b):eP N t+1<=eP N s:=by
 obtain ⟨E,G,l,C,D,z⟩:=y.rd;have hc:=kZ l
 have hs:bo N s n=2*(N+1)-lK j:=by
  unfold bo kW;rw [F.job,l];rfl
 by_cases p:0<TY s.1 j
 ·obtain ⟨_,e1,_,e2⟩:=F.read p;refine Zz (n:=n) ?_ r λi _ a => ?_
  ·have m:bo N t n=2*(N+1)-(lK j+1):=by
    unfold bo kW;rw [e2,if_pos rfl,e1,l,<- z p];rfl
   omega
  ·unfold bo kW;rw [e2,if_neg a,e1];exact Nat.le_refl _
 ·obtain ⟨_,e1,_,e2,e3,o⟩:=F.inst (by omega)
  have d : ∀ i,i≠n -> ¬ (UO j≠[]/\i=Xi s j)->bo N t i<=bo N s i:=λi a hit=>by
   have e:TG t.1.2 i=TG s.1.2 i:=by rw [e2,if_neg hit,if_neg a]
   have c:kW t i=kW s i:=by
    by_cases c:(TG s.1.2 i).length=2
    ·obtain ⟨j',k⟩:=v.hasJob c;unfold kW;rw [o,e,if_pos c,if_neg a,k];rfl
    ·rw [v.rd0 c];unfold kW;rw [o,e,if_neg c]
   unfold bo;rw [e,c];exact Nat.le_refl _
  by_cases m:UO j≠[]/\Xi s j≠n
  ·obtain ⟨q,u⟩:=m;rcases e3 with e3 | ⟨e3,f,c⟩
   ·exact absurd e3 u
   have c:=c q;refine aN (n:=n) ?_ f λi _ a g=>d i a (by rw [e3];exact λh=>g h.2)
   have w:bo N t n=0:=by
    unfold bo;rw [e2,if_neg (by rw [e3];omega),if_pos rfl];simp
   have x:bo N t (n+1)<=((TG s.1.2 (n+1)).length+1)*(N+1):=by
    unfold bo;rw [e2,if_pos ⟨q,e3.symm⟩,if_neg (by omega),List.length_append];exact Nat.sub_le _ _
   have A:bo N s (n+1)=(TG s.1.2 (n+1)).length*(N+1):=by
    unfold bo;rw [v.rd0 (by omega)];rfl
   rw [Nat.add_mul] at x;omega
  ·refine Zz (n:=n) ?_ r λi _ a=>d i a (λh=>m ⟨h.1,by rw [<- h.2];exact a⟩)
   have w:bo N t n<=1*(N+1):=by
    refine Nat.le_trans (Nat.sub_le _ _) (Nat.mul_le_mul_right _ ?_);rw [e2,if_pos rfl];split<;>simp
   omega
theorem ak (L:List (List Tb)) : ∀ m,Wi (λi=>(TG L i).length) m=(L.take m).flatten.length
 | 0=>by simp [Wi]
 | m+1=>by
  unfold Wi;rw [ak L m];by_cases h:m<L.length
  ·have:L.take (m+1)=L.take m++[TG L m]:=by
    rw [List.take_add_one,Vk h];rfl
   rw [this,List.flatten_append];simp
  ·have:TG L m=[]:=by unfold TG;rw [List.getElem?_eq_none (by omega)];rfl
   rw [this,List.take_of_length_le (by omega),List.take_of_length_le (by omega)];simp
theorem dO (f:Nat->Nat) (c:Nat) : ∀ m,Wi (λi=>f i*c) m=Wi f m*c
 | 0=>by simp [Wi]
 | m+1=>by unfold Wi;rw [dO f c m,Nat.add_mul]
theorem lX (N:Nat) {s:TA} (v:VSt s):eP N s<=s.1.2.flatten.length*(N+1):=by
 have a:eP N s<=Wi (λi=>(TG s.1.2 i).length*(N+1)) 12:=Z0 λi _=>Nat.sub_le _ _;have:=v.lev.len;rw [dO,ak,List.take_of_length_le (by omega)] at a;exact a
theorem ef {L:TB} (v:VLev L):L.2.flatten.length<=24:=by
 have h:=ak L.2 12;have:=v.len;rw [List.take_of_length_le (by omega)] at h;rw [<- h];exact Z0 (f:=λ_=>2) λi _=>(v.own i).1
end
section
open Go Go.Proofs.YtfilfloanndddaaGreat.Sv
set_option linter.unusedVariables false
abbrev X4:=(Int×(Int×(Int×eQ)))
def ZP (a:eQ) (k l:Nat):eQ :=
 (Sw (neq l 0) (Rl .i64 (OO [a.1,a.2.1,a.2.2.1,a.2.2.2.1,a.2.2.2.2.1,a.2.2.2.2.2.1,a.2.2.2.2.2.2.1,a.2.2.2.2.2.2.2.1,a.2.2.2.2.2.2.2.2.1,a.2.2.2.2.2.2.2.2.2.1,a.2.2.2.2.2.2.2.2.2.2.1,a.2.2.2.2.2.2.2.2.2.2.2] k) 1) a.1,(Sw (neq l 1) (Rl .i64 (OO [a.1,a.2.1,a.2.2.1,a.2.2.2.1,a.2.2.2.2.1,a.2.2.2.2.2.1,a.2.2.2.2.2.2.1,a.2.2.2.2.2.2.2.1,a.2.2.2.2.2.2.2.2.1,a.2.2.2.2.2.2.2.2.2.1,a.2.2.2.2.2.2.2.2.2.2.1,a.2.2.2.2.2.2.2.2.2.2.2] k) 1) a.2.1,(Sw (neq l 2) (Rl .i64 (OO [a.1,a.2.1,a.2.2.1,a.2.2.2.1,a.2.2.2.2.1,a.2.2.2.2.2.1,a.2.2.2.2.2.2.1,a.2.2.2.2.2.2.2.1,a.2.2.2.2.2.2.2.2.1,a.2.2.2.2.2.2.2.2.2.1,a.2.2.2.2.2.2.2.2.2.2.1,a.2.2.2.2.2.2.2.2.2.2.2] k) 1) a.2.2.1,(Sw (neq l 3) (Rl .i64 (OO [a.1,a.2.1,a.2.2.1,a.2.2.2.1,a.2.2.2.2.1,a.2.2.2.2.2.1,a.2.2.2.2.2.2.1,a.2.2.2.2.2.2.2.1,a.2.2.2.2.2.2.2.2.1,a.2.2.2.2.2.2.2.2.2.1,a.2.2.2.2.2.2.2.2.2.2.1,a.2.2.2.2.2.2.2.2.2.2.2] k) 1) a.2.2.2.1,(Sw (neq l 4) (Rl .i64 (OO [a.1,a.2.1,a.2.2.1,a.2.2.2.1,a.2.2.2.2.1,a.2.2.2.2.2.1,a.2.2.2.2.2.2.1,a.2.2.2.2.2.2.2.1,a.2.2.2.2.2.2.2.2.1,a.2.2.2.2.2.2.2.2.2.1,a.2.2.2.2.2.2.2.2.2.2.1,a.2.2.2.2.2.2.2.2.2.2.2] k) 1) a.2.2.2.2.1,(Sw (neq l 5) (Rl .i64 (OO [a.1,a.2.1,a.2.2.1,a.2.2.2.1,a.2.2.2.2.1,a.2.2.2.2.2.1,a.2.2.2.2.2.2.1,a.2.2.2.2.2.2.2.1,a.2.2.2.2.2.2.2.2.1,a.2.2.2.2.2.2.2.2.2.1,a.2.2.2.2.2.2.2.2.2.2.1,a.2.2.2.2.2.2.2.2.2.2.2] k) 1) a.2.2.2.2.2.1,(Sw (neq l 6) (Rl .i64 (OO [a.1,a.2.1,a.2.2.1,a.2.2.2.1,a.2.2.2.2.1,a.2.2.2.2.2.1,a.2.2.2.2.2.2.1,a.2.2.2.2.2.2.2.1,a.2.2.2.2.2.2.2.2.1,a.2.2.2.2.2.2.2.2.2.1,a.2.2.2.2.2.2.2.2.2.2.1,a.2.2.2.2.2.2.2.2.2.2.2] k) 1) a.2.2.2.2.2.2.1,(Sw (neq l 7) (Rl .i64 (OO [a.1,a.2.1,a.2.2.1,a.2.2.2.1,a.2.2.2.2.1,a.2.2.2.2.2.1,a.2.2.2.2.2.2.1,a.2.2.2.2.2.2.2.1,a.2.2.2.2.2.2.2.2.1,a.2.2.2.2.2.2.2.2.2.1,a.2.2.2.2.2.2.2.2.2.2.1,a.2.2.2.2.2.2.2.2.2.2.2] k) 1) a.2.2.2.2.2.2.2.1,(Sw (neq l 8) (Rl .i64 (OO [a.1,a.2.1,a.2.2.1,a.2.2.2.1,a.2.2.2.2.1,a.2.2.2.2.2.1,a.2.2.2.2.2.2.1,a.2.2.2.2.2.2.2.1,a.2.2.2.2.2.2.2.2.1,a.2.2.2.2.2.2.2.2.2.1,a.2.2.2.2.2.2.2.2.2.2.1,a.2.2.2.2.2.2.2.2.2.2.2] k) 1) a.2.2.2.2.2.2.2.2.1,(Sw (neq l 9) (Rl .i64 (OO [a.1,a.2.1,a.2.2.1,a.2.2.2.1,a.2.2.2.2.1,a.2.2.2.2.2.1,a.2.2.2.2.2.2.1,a.2.2.2.2.2.2.2.1,a.2.2.2.2.2.2.2.2.1,a.2.2.2.2.2.2.2.2.2.1,a.2.2.2.2.2.2.2.2.2.2.1,a.2.2.2.2.2.2.2.2.2.2.2] k) 1) a.2.2.2.2.2.2.2.2.2.1,(Sw (neq l 10) (Rl .i64 (OO [a.1,a.2.1,a.2.2.1,a.2.2.2.1,a.2.2.2.2.1,a.2.2.2.2.2.1,a.2.2.2.2.2.2.1,a.2.2.2.2.2.2.2.1,a.2.2.2.2.2.2.2.2.1,a.2.2.2.2.2.2.2.2.2.1,a.2.2.2.2.2.2.2.2.2.2.1,a.2.2.2.2.2.2.2.2.2.2.2] k) 1) a.2.2.2.2.2.2.2.2.2.2.1,Sw (neq l 11) (Rl .i64 (OO [a.1,a.2.1,a.2.2.1,a.2.2.2.1,a.2.2.2.2.1,a.2.2.2.2.2.1,a.2.2.2.2.2.2.1,a.2.2.2.2.2.2.2.1,a.2.2.2.2.2.2.2.2.1,a.2.2.2.2.2.2.2.2.2.1,a.2.2.2.2.2.2.2.2.2.2.1,a.2.2.2.2.2.2.2.2.2.2.2] k) 1) a.2.2.2.2.2.2.2.2.2.2.2)))))))))))
def Va (x:Unit):Option (TB×((List (Int×(TC×((Bool×TD)×((List S8)×Int)))))×Int)) :=
 bd (YY ((2,[[(1,[([(97:UInt8)],([],(false,1)))]),(2,[([(98:UInt8)],([],(false,2)))])]]))) λa=>some a.1
def VO (x:(Int×Bool)):Option Unit :=
 some ()
def U1 (x:((TB×((List (Int×(TC×((Bool×TD)×((List S8)×Int)))))×Int))×Int)):Option ((TB×((List (Int×(TC×((Bool×TD)×((List S8)×Int)))))×Int))×(X4×Int)) :=
 bd (UT x.1) λi=>br (RT i.2 0) (λ_=>br (RT i.2 0) (λ_=>some ((((0,[]),([],0)),((0,(0,(0,(0,(0,(0,(0,(0,(0,(0,(0,(0,(0,(0,0)))))))))))))),i.2)))) λ_=>br (SU x.2 0) (λ_=>bd (loop (β:=(Nat×(Unit×Unit))) (λs1=>none) ()) λj=>none) λ_=>none) λ_=>br (SW x.2 0) (λ_=>some ((((0,[]),([],0)),((0,(0,(0,(0,(0,(0,(0,(0,(0,(0,(0,(0,(0,(0,0)))))))))))))),7)))) λ_=>br (SU x.2 1000000) (λ_=>some ((((0,[]),([],0)),((0,(0,(0,(0,(0,(0,(0,(0,(0,(0,(0,(0,(0,(0,0)))))))))))))),7)))) λ_=>br (SU x.2 0) (λ_=>bd (loop (λ(a:((Int×((List (List Tb))×((List (Int×(TC×((Bool×TD)×((List S8)×Int)))))×(Int×Int))))×X4))=>bd (Td (((a.1.1,a.1.2.1),(a.1.2.2.1,a.1.2.2.2.1)))) λd=>br (RR d.2 4) (λ_=>some (.dn ((0,(a,()))))) λ_=>br (RR d.2 0) (λ_=>bd (Te ((((a.1.1,a.1.2.1),(a.1.2.2.1,a.1.2.2.2.1)),d.1))) λc=>br (RT c.2.2 0) (λ_=>some (.dn ((0,(((a.1.1,(a.1.2.1,(a.1.2.2.1,(a.1.2.2.2.1,c.2.2)))),a.2),()))))) λ_=>bd (VO (d.1,c.2.1)) λk=>RX d.1 λg=>gd (KC g 12) λ_=>RX d.1 λh=>gd (KC h 12) λ_=>br c.2.1 (λ_=>br (RR (Rl .i64 a.2.1 1) x.2) (λ_=>some (.dn ((1,(((c.1.1.1,(c.1.1.2,(c.1.2.1,(c.1.2.2,c.2.2)))),(Rl .i64 a.2.1 1,(a.2.2.1,(Rl .i64 a.2.2.2.1 1,(ZP a.2.2.2.2 g h))))),()))))) λ_=>some (.nx (((c.1.1.1,(c.1.1.2,(c.1.2.1,(c.1.2.2,c.2.2)))),(Rl .i64 a.2.1 1,(a.2.2.1,(Rl .i64 a.2.2.2.1 1,(ZP a.2.2.2.2 g h)))))))) λ_=>br (RR (Rl .i64 a.2.1 1) x.2) (λ_=>some (.dn ((1,(((c.1.1.1,(c.1.1.2,(c.1.2.1,(c.1.2.2,c.2.2)))),(Rl .i64 a.2.1 1,(a.2.2.1,(a.2.2.2.1,(ZP a.2.2.2.2 g h))))),()))))) λ_=>some (.nx (((c.1.1.1,(c.1.1.2,(c.1.2.1,(c.1.2.2,c.2.2)))),(Rl .i64 a.2.1 1,(a.2.2.1,(a.2.2.2.1,(ZP a.2.2.2.2 g h)))))))) λ_=>br (RT d.2 0) (λ_=>some (.dn ((0,(((a.1.1,(a.1.2.1,(a.1.2.2.1,(a.1.2.2.2.1,d.2)))),a.2),()))))) λ_=>bd (VO (d.1,false)) λl=>RX d.1 λe=>gd (KC e 12) λ_=>RX d.1 λf=>gd (KC f 12) λ_=>br (RR (Rl .i64 a.2.1 1) x.2) (λ_=>some (.dn ((1,(((0,([],([],(0,d.2)))),(Rl .i64 a.2.1 1,(a.2.2.1,(a.2.2.2.1,(ZP a.2.2.2.2 e f))))),()))))) λ_=>some (.nx (((0,([],([],(0,d.2)))),(Rl .i64 a.2.1 1,(a.2.2.1,(a.2.2.2.1,(ZP a.2.2.2.2 e f)))))))) (((x.1.1.1,(x.1.1.2,(x.1.2.1,(x.1.2.2,0)))),(0,(0,(0,(0,(0,(0,(0,(0,(0,(0,(0,(0,(0,(0,0))))))))))))))))) λb=>br (neq b.1 0) (λ_=>br (RT b.2.1.1.2.2.2.2 0) (λ_=>some ((((0,[]),([],0)),((0,(0,(0,(0,(0,(0,(0,(0,(0,(0,(0,(0,(0,(0,0)))))))))))))),b.2.1.1.2.2.2.2)))) λ_=>some ((((b.2.1.1.1,b.2.1.1.2.1),(b.2.1.1.2.2.1,b.2.1.1.2.2.2.1)),((b.2.1.2.1,(Rp .i64 x.2 b.2.1.2.1,b.2.1.2.2.2)),0)))) λ_=>br (RT b.2.1.1.2.2.2.2 0) (λ_=>some ((((0,[]),([],0)),((0,(0,(0,(0,(0,(0,(0,(0,(0,(0,(0,(0,(0,(0,0)))))))))))))),b.2.1.1.2.2.2.2)))) λ_=>some ((((b.2.1.1.1,b.2.1.1.2.1),(b.2.1.1.2.2.1,b.2.1.1.2.2.2.1)),((b.2.1.2.1,(Rp .i64 x.2 b.2.1.2.1,b.2.1.2.2.2)),0)))) λ_=>some ((x.1,((0,(Rp .i64 x.2 0,(0,(0,(0,(0,(0,(0,(0,(0,(0,(0,(0,(0,0)))))))))))))),0)))
def UF (x:((TB×((List (Int×(TC×((Bool×TD)×((List S8)×Int)))))×Int))×Int)):Option ((List Int)×Int) :=
 bd (UT x.1) λi=>br (RT i.2 0) (λ_=>br (RT i.2 0) (λ_=>some ([],i.2)) λ_=>br (SU x.2 0) (λ_=>bd (loop (β:=(Nat×(Unit×Unit))) (λs1=>none) ()) λj=>none) λ_=>none) λ_=>br (SW x.2 0) (λ_=>some ([],7)) λ_=>br (SU x.2 1000000) (λ_=>some ([],7)) λ_=>br (SU x.2 0) (λ_=>bd (loop (λ(a:((Int×((List (List Tb))×((List (Int×(TC×((Bool×TD)×((List S8)×Int)))))×(Int×Int))))×((List Int)×X4)))=>bd (Td (((a.1.1,a.1.2.1),(a.1.2.2.1,a.1.2.2.2.1)))) λc=>br (RR c.2 4) (λ_=>some (.dn ((0,(a,()))))) λ_=>br (RR c.2 0) (λ_=>bd (Te ((((a.1.1,a.1.2.1),(a.1.2.2.1,a.1.2.2.2.1)),c.1))) λb=>br (RT b.2.2 0) (λ_=>some (.dn ((0,(((a.1.1,(a.1.2.1,(a.1.2.2.1,(a.1.2.2.2.1,b.2.2)))),a.2),()))))) λ_=>gd (CD (BD (AS a.2.1) (AS [c.1])) 1048576) λ_=>RX c.1 λe=>gd (KC e 12) λ_=>RX c.1 λf=>gd (KC f 12) λ_=>br b.2.1 (λ_=>br (RR (Rl .i64 a.2.2.1 1) x.2) (λ_=>some (.dn ((1,(((b.1.1.1,(b.1.1.2,(b.1.2.1,(b.1.2.2,b.2.2)))),(Ik a.2.1 [c.1],(Rl .i64 a.2.2.1 1,(a.2.2.2.1,(Rl .i64 a.2.2.2.2.1 1,(ZP a.2.2.2.2.2 e f)))))),()))))) λ_=>some (.nx (((b.1.1.1,(b.1.1.2,(b.1.2.1,(b.1.2.2,b.2.2)))),(Ik a.2.1 [c.1],(Rl .i64 a.2.2.1 1,(a.2.2.2.1,(Rl .i64 a.2.2.2.2.1 1,(ZP a.2.2.2.2.2 e f))))))))) λ_=>br (RR (Rl .i64 a.2.2.1 1) x.2) (λ_=>some (.dn ((1,(((b.1.1.1,(b.1.1.2,(b.1.2.1,(b.1.2.2,b.2.2)))),(Ik a.2.1 [c.1],(Rl .i64 a.2.2.1 1,(a.2.2.2.1,(a.2.2.2.2.1,(ZP a.2.2.2.2.2 e f)))))),()))))) λ_=>some (.nx (((b.1.1.1,(b.1.1.2,(b.1.2.1,(b.1.2.2,b.2.2)))),(Ik a.2.1 [c.1],(Rl .i64 a.2.2.1 1,(a.2.2.2.1,(a.2.2.2.2.1,(ZP a.2.2.2.2.2 e f))))))))) λ_=>br (RT c.2 0) (λ_=>some (.dn ((0,(((a.1.1,(a.1.2.1,(a.1.2.2.1,(a.1.2.2.2.1,c.2)))),a.2),()))))) λ_=>gd (CD (BD (AS a.2.1) (AS [c.1])) 1048576) λ_=>RX c.1 λg=>gd (KC g 12) λ_=>RX c.1 λh=>gd (KC h 12) λ_=>br (RR (Rl .i64 a.2.2.1 1) x.2) (λ_=>some (.dn ((1,(((0,([],([],(0,c.2)))),(Ik a.2.1 [c.1],(Rl .i64 a.2.2.1 1,(a.2.2.2.1,(a.2.2.2.2.1,(ZP a.2.2.2.2.2 g h)))))),()))))) λ_=>some (.nx (((0,([],([],(0,c.2)))),(Ik a.2.1 [c.1],(Rl .i64 a.2.2.1 1,(a.2.2.2.1,(a.2.2.2.2.1,(ZP a.2.2.2.2.2 g h))))))))) (((x.1.1.1,(x.1.1.2,(x.1.2.1,(x.1.2.2,0)))),([],(0,(0,(0,(0,(0,(0,(0,(0,(0,(0,(0,(0,(0,(0,0)))))))))))))))))) λd=>br (neq d.1 0) (λ_=>br (RT d.2.1.1.2.2.2.2 0) (λ_=>some ([],d.2.1.1.2.2.2.2)) λ_=>some (d.2.1.2.1,0)) λ_=>br (RT d.2.1.1.2.2.2.2 0) (λ_=>some ([],d.2.1.1.2.2.2.2)) λ_=>some (d.2.1.2.1,0)) λ_=>some ([],0)
def XR (x:((TB×((List (Int×(TC×((Bool×TD)×((List S8)×Int)))))×Int))×Int)):Option (Int×Int) :=
 bd (UT x.1) λd=>br (RT d.2 0) (λ_=>br (RT d.2 0) (λ_=>some (0,d.2)) λ_=>br (SW x.2 0) (λ_=>some (0,7)) λ_=>br (RS x.2 12) (λ_=>some (0,7)) λ_=>bd (VU x) λf=>br (RT f.2 0) (λ_=>some (0,f.2)) λ_=>bd (loop (β:=(Nat×(Unit×Unit))) (λs2=>none) ()) λh=>none) λ_=>br (SW x.2 0) (λ_=>some (0,7)) λ_=>br (RS x.2 12) (λ_=>some (0,7)) λ_=>bd (VU x) λg=>br (RT g.2 0) (λ_=>some (0,g.2)) λ_=>bd (loop (λ(a:((Int×((List (List Tb))×((List (Int×(TC×((Bool×TD)×((List S8)×Int)))))×(Int×Int))))×(Int×Int)))=>bd (Td (((a.1.1,a.1.2.1),(a.1.2.2.1,a.1.2.2.2.1)))) λc=>br (RR c.2 4) (λ_=>some (.dn ((0,(a,()))))) λ_=>br (RR c.2 0) (λ_=>bd (Te ((((a.1.1,a.1.2.1),(a.1.2.2.1,a.1.2.2.2.1)),c.1))) λb=>br (RT b.2.2 0) (λ_=>some (.dn ((0,(((a.1.1,(a.1.2.1,(a.1.2.2.1,(a.1.2.2.2.1,b.2.2)))),a.2),()))))) λ_=>br (NX (RR c.1 x.2) (NX (beq b.2.1 true) true)) (λ_=>some (.dn ((1,(((b.1.1.1,(b.1.1.2,(b.1.2.1,(b.1.2.2,b.2.2)))),(Rl .i64 a.2.1 1,0)),()))))) λ_=>some (.nx (((b.1.1.1,(b.1.1.2,(b.1.2.1,(b.1.2.2,b.2.2)))),(Rl .i64 a.2.1 1,a.2.2))))) λ_=>br (RT c.2 0) (λ_=>some (.dn ((0,(((a.1.1,(a.1.2.1,(a.1.2.2.1,(a.1.2.2.2.1,c.2)))),a.2),()))))) λ_=>br (NX (RR c.1 x.2) (NX (beq false true) true)) (λ_=>some (.dn ((1,(((0,([],([],(0,c.2)))),(Rl .i64 a.2.1 1,0)),()))))) λ_=>some (.nx (((0,([],([],(0,c.2)))),(Rl .i64 a.2.1 1,a.2.2))))) (((x.1.1.1,(x.1.1.2,(x.1.2.1,(x.1.2.2,0)))),(0,0)))) λe=>br (neq e.1 0) (λ_=>some (0,e.2.1.1.2.2.2.2)) λ_=>some e.2.1.2
def Ud (x:Unit):Option Bool :=
 bd (Va ()) λd=>bd (U1 (d,5)) λa=>bd (Va ()) λe=>bd (UF (e,5)) λb=>bd (Va ()) λf=>bd (XR (f,0)) λc=>br (RR a.2.2 0) (λ_=>br (RR b.2 0) (λ_=>br (RR c.2 0) (λ_=>br (NX (RR a.2.1.1 3) (NX (RR a.2.1.2.1 2) (NX (RR a.2.1.2.2.1 1) (NX (NX (RR a.2.1.2.2.2.1 (Sw true 3 0)) (NX (RR a.2.1.2.2.2.2.1 (Sw false 3 0)) (NX (RR a.2.1.2.2.2.2.2.1 (Sw false 3 0)) (NX (RR a.2.1.2.2.2.2.2.2.1 (Sw false 3 0)) (NX (RR a.2.1.2.2.2.2.2.2.2.1 (Sw false 3 0)) (NX (RR a.2.1.2.2.2.2.2.2.2.2.1 (Sw false 3 0)) (NX (RR a.2.1.2.2.2.2.2.2.2.2.2.1 (Sw false 3 0)) (NX (RR a.2.1.2.2.2.2.2.2.2.2.2.2.1 (Sw false 3 0)) (NX (RR a.2.1.2.2.2.2.2.2.2.2.2.2.2.1 (Sw false 3 0)) (NX (RR a.2.1.2.2.2.2.2.2.2.2.2.2.2.2.1 (Sw false 3 0)) (NX (RR a.2.1.2.2.2.2.2.2.2.2.2.2.2.2.2.1 (Sw false 3 0)) (NX (RR a.2.1.2.2.2.2.2.2.2.2.2.2.2.2.2.2 (Sw false 3 0)) true)))))))))))) true)))) (λ_=>br (RR (Kb (AS a.1.2.1)) 0) (λ_=>br (RR (Kb (AS b.1)) 3) (λ_=>some (RR c.1 3)) λ_=>some false) λ_=>some false) λ_=>some false) λ_=>some false) λ_=>some false) λ_=>some false
def Vy (x:((List Int)×(List Int))):Option Bool :=
 br (RT (Kb (AS x.1)) (Kb (AS x.2))) (λ_=>some false) λ_=>bd (loop (λs0=>br (SW s0.1 (Kb (AS x.1))) (λ_=>RX s0.1 λb=>ix x.1 b λd=>RX s0.1 λc=>ix x.2 c λe=>br (RT d e) (λ_=>some (.dn ((0,((s0.1,false),()))))) λ_=>some (.nx (Rl .i64 s0.1 1,s0.2))) λ_=>some (.dn ((1,(s0,()))))) (0,false)) λa=>br (neq a.1 0) (λ_=>some a.2.1.2) λ_=>some true
def Uk (x:((TB×((List (Int×(TC×((Bool×TD)×((List S8)×Int)))))×Int))×(Int×Int))):Option Bool :=
 bd (WO x.1) λg=>br g (λ_=>bd (Ud ()) λh=>some h) λ_=>bd (UF (x.1,Su .i64 x.2.1)) λa=>bd (UF ((x.1,Rl .i64 (Su .i64 x.2.1) (Su .i64 x.2.2)))) λc=>bd (U1 (x.1,Su .i64 x.2.1)) λb=>br (RT a.2 0) (λ_=>br (RR a.2 0) (λ_=>bd (Ud ()) λi=>some i) λ_=>br (RR c.2 a.2) (λ_=>br (RR b.2.2 a.2) (λ_=>bd (Ud ()) λj=>some j) λ_=>some false) λ_=>some false) λ_=>br (RT c.2 0) (λ_=>br (RR a.2 0) (λ_=>bd (Ud ()) λk=>some k) λ_=>br (RR c.2 a.2) (λ_=>br (RR b.2.2 a.2) (λ_=>bd (Ud ()) λl=>some l) λ_=>some false) λ_=>some false) λ_=>bd (UF (b.1,Su .i64 x.2.2)) λf=>br (RR b.2.2 0) (λ_=>br (RR f.2 0) (λ_=>br (RR b.2.1.1 (Kb (AS a.1))) (λ_=>gd (CD (AS a.1) 1048576) λ_=>gd (CD (BD (AS a.1) (AS f.1)) 1048576) λ_=>bd (Vy (Ik a.1 f.1,c.1)) λd=>br d (λ_=>bd (Ud ()) λe=>some e) λ_=>some false) λ_=>some false) λ_=>some false) λ_=>some false
end
section
open Go Go.Proofs.YtfilfloanndddaaGreat.Sv
def Vh (s:TA):Int:=if (Tx s).2≠0 then (Tx s).2 else (Uz s (Tx s).1).2.2
def XK (s:TA):TA:=(Uz s (Tx s).1).1
def W1 (s:TA):Int×Bool:=((Tx s).1,(Uz s (Tx s).1).2.1)
def Tv:Nat->TA->TA×(List (Int×Bool)×Int)
 | 0,s=>(s,([],0))
 | n+1,s=>if Vh s=4 then (s,([],0)) else if Vh s≠0 then (s,([],Vh s)) else ((Tv n (XK s)).1,(W1 s::(Tv n (XK s)).2.1,(Tv n (XK s)).2.2))
theorem Yn {s:TA} : ∀ {l:List Int} {d:Int},Vn s l=some d -> ∃ p q,l=p++d::q/\(WS false (λs j=>(Vg s.1 j,0)) s d).1=true /\ ∀ x∈p,¬ (WS false (λs j=>(Vg s.1 j,0)) s x).1=true
 | [],_,h=>by cases h
 | x::l,d,h=>by
  unfold Vn at h;split at h
  ·rename_i a;cases h;exact ⟨[],l,rfl,a,λ_ h=>by cases h⟩
  ·rename_i a;obtain ⟨p,q,rfl,b,c⟩:=Yn h
   exact ⟨x::p,q,rfl,b,λy hy=>by
    rcases List.mem_cons.1 hy with rfl | hy
    ·exact a
    ·exact c y hy⟩
theorem Zl {s:TA} (v:VSt s):((Tx s).2=4/\s.2.1=[])\/(Tx s).2=9\/((Tx s).2=0/\(Tx s).1∈TI 0 s.1.2):=by
 have a:(TE s).2=0:=TN.2 v;unfold Tx;rw [if_neg (by simp [a])];by_cases h:TI 0 s.1.2=[]
 ·rw [if_pos h];refine .inl ⟨rfl,?_⟩;have:=v.due;rw [h] at this;simpa using this
 ·rw [if_neg h];cases hc:Vn s (TI 0 s.1.2) with
  | none=>exact .inr (.inl rfl)
  | some d =>
   obtain ⟨p,q,e,_⟩:=Yn hc;exact .inr (.inr ⟨rfl,by rw [e];simp⟩)
theorem d9 (s:TA) (j:Job):(XP s j).2.2≠4:=by
 unfold XP;split
 ·simp
 ·split
  ·simp
  ·unfold YR;split
   ·simp
   ·split<;>simp
theorem fX {s:TA} (v:VSt s) {d:Int} (h:d∈TI 0 s.1.2):(Uz s d).2.2≠4:=by
 have b:(TE s).2=0:=TN.2 v;obtain ⟨j,n,a,_⟩:=v.atDue h;unfold Uz;rw [if_neg (by simp [b]),a];exact d9 s j
theorem W9 {s0 s:TA} (g:Gd s0 s):Td s=some (Tx s)/\Xr s=some (Tx s):=⟨kX g.1.sm,du g.1.sm⟩
theorem Yz {s0 s:TA} (g:Gd s0 s) (d:Int):Te (s,d)=some (Uz s d)/\Xs (s,d)=some (Uz s d) :=
 ⟨aO g.1.sm (Ym g.2.2) d,dv g.1.sm (Ym g.2.2) d⟩
theorem bM {s0 s:TA} (g:Gd s0 s) (e:Vh s=0):(Tx s).2=0/\(Tx s).1∈TI 0 s.1.2/\(Uz s (Tx s).1).2.2=0:=by
 unfold Vh at e;rcases Zl g.1 with h | h | h
 ·rw [if_pos (by rw [h.1];decide),h.1] at e;cases e
 ·rw [if_pos (by rw [h];decide),h] at e;cases e
 ·rw [if_neg (by simp [h.1])] at e;exact ⟨h.1,h.2,e⟩
theorem XB {s0 s:TA} (g:Gd s0 s) (e:Vh s=0) : ∃ (n:Nat) (j:Job),(W1 s).1=(n:Int)/\n<12/\JobAt s.1 n j/\Vg s.1 j=true/\StepF s n j (XK s) (W1 s).2/\Gd s0 (XK s):=by
 obtain ⟨_,a,b⟩:=bM g e;exact cV g a b
theorem bN {s0 s:TA} (g:Gd s0 s) (e:Vh s=4):(Tx s).2=4/\s.2.1=[]:=by
 unfold Vh at e;rcases Zl g.1 with h | h | h
 ·exact h
 ·rw [if_pos (by rw [h];decide),h] at e;cases e
 ·rw [if_neg (by simp [h.1])] at e;exact absurd e (fX g.1 h.2)
theorem dH {s0 s:TA} {N:Nat} (g:Gd s0 s) (a:UW s.1.2.flatten<=N) (e:Vh s=0):eP N (XK s)+1<=eP N s/\UW (XK s).1.2.flatten<=N:=by
 obtain ⟨n,j,_,d,c,_,F,_⟩:=XB g e;refine ⟨fJ g.1 a d c F,?_⟩;by_cases b:0<TY s.1 j
 ·rw [(F.read b).2.1];exact a
 ·rw [(F.inst (by omega)).2.1];exact Nat.le_trans (au g.1 (Ym g.2.2) c b) a
theorem Zt {s0:TA} {N:Nat} : ∀ {n:Nat} {s:TA},Gd s0 s->UW s.1.2.flatten<=N->(Tv n s).2.1.length<=n/\(Tv n s).2.1.length+eP N (Tv n s).1<=eP N s/\Gd s0 (Tv n s).1/\UW (Tv n s).1.1.2.flatten<=N/\((Tv n s).2.2=0->(Tv n s).2.1.length<n->(Tv n s).1.2.1=[])
 | 0,s,g,hN=>⟨Nat.le_refl _,by simp [Tv],g,hN,λ_ h=>absurd h (by simp [Tv])⟩
 | n+1,s,g,hN=>by
  unfold Tv;by_cases b:Vh s=4
  ·rw [if_pos b];exact ⟨by simp,by simp,g,hN,λ_ _=>(bN g b).2⟩
  ·rw [if_neg b];by_cases a:Vh s=0
   ·rw [if_neg (by simp [a])];obtain ⟨_,_,_,_,_,_,_,d⟩:=XB g a;obtain ⟨m,f⟩:=dH g hN a;obtain ⟨i,o,j,k,l⟩:=Zt (n:=n) d f;refine ⟨by simpa using i,?_,j,k,λc e=>l c (by simpa using e)⟩;simp only [List.length_cons];omega
   ·rw [if_pos a];exact ⟨by simp,by simp,g,hN,λc=>absurd c a⟩
theorem bg : ∀ (n m:Nat) (s:TA),Tv (n+m) s=if (Tv n s).2.2≠0 then Tv n s else ((Tv m (Tv n s).1).1,((Tv n s).2.1++(Tv m (Tv n s).1).2.1,(Tv m (Tv n s).1).2.2))
 | 0,m,s=>by rw [Nat.zero_add];simp [Tv]
 | n+1,m,s=>by
  rw [show n+1+m=(n+m)+1 by omega];have d:=bg n m (XK s);simp only [Tv];by_cases a:Vh s=4
  ·simp only [a,if_true];cases m with
   | zero=>simp [Tv]
   | succ m=>simp [Tv,a]
  ·simp only [a,if_false];by_cases b:Vh s=0
   ·simp only [b,ne_eq,not_true_eq_false,if_false];rw [d];by_cases c:(Tv n (XK s)).2.2=0
    ·simp [c]
    ·simp [c]
   ·simp [b]
def X5 (u:X4) (x:Int×Bool):X4:=(Rl .i64 u.1 1,(u.2.1,(if x.2=true then Rl .i64 u.2.2.1 1 else u.2.2.1,ZP u.2.2.2 x.1.toNat x.1.toNat)))
def YH (u:X4) (l:List (Int×Bool)):X4:=l.foldl X5 u
theorem bn : ∀ (l:List (Int×Bool)) (u:X4),0<=u.1->u.1+l.length<=2000000->(YH u l).1=u.1+l.length/\(YH u l).2.1=u.2.1
 | [],u,_,_=>by simp [YH]
 | x::l,u,h0,h=>by
  have a:((x::l).length:Int)=(l.length:Int)+1:=by simp
  rw [a] at h ⊢
  have e:(X5 u x).1=u.1+1:=by
   show Rl .i64 u.1 1=_;exact R9 (by omega)
  obtain ⟨b,c⟩:=bn l (X5 u x) (by omega) (by omega);exact ⟨by show (YH (X5 u x) l).1=_;rw [b,e];omega,c⟩
end
end Go.Proofs.YtfilfloanndddaaGreat.Pl
