/- Functions of the program and of the specification as plain functions, and laws about them. No condition. -/
import Derived.Test.YtfilfloanndddaaGreatPl1
import Derived.KernelRfl
set_option linter.all false
namespace Go.Proofs.YtfilfloanndddaaGreat.Pl
section
open Go Go.Proofs.YtfilfloanndddaaGreat.Sv
def zS:TA:=((0,[]),([],0))
def UR (j:Job):List S8:=j.2.2.2.1
def Xp (s:TA) (j:Job):Nat:=if Vg s.1 j=true then j.1.toNat else j.1.toNat+1
def VU (s:TA) (j:Job):TB:=if UR j=[] then US s.1 j.1.toNat [] else US (US s.1 j.1.toNat []) (Xp s j) (TG (US s.1 j.1.toNat []).2 (Xp s j)++[(s.2.2,UR j)])
def Xa (s:TA) (j:Job):Int:=if UR j=[] then s.2.2 else s.2.2+1
def YV (s:TA) (j:Job):TA×Int :=
 if 0<Tb s.1 j\/Vq s.1 j=false then (zS,9) else if s.2.2>1000000/\UR j≠[] then (zS,5) else (YJ s (VU s j) (Xa s j) j.1,0)
theorem aD : ∀ (ls:List (List TY)) (i:Nat),(TJ i ls).Nodup /\ ∀ d∈TJ i ls,(i:Int)<=d
 | [],_=>⟨.nil,λ_ h=>by cases h⟩
 | rs::ls,i=>by
  obtain ⟨b,a⟩:=aD ls (i+1);rw [Xt];by_cases h:rs.length=2
  ·rw [if_pos h];refine ⟨List.nodup_cons.2 ⟨λc => ?_,b⟩,λd hd => ?_⟩
   ·have:=a _ c;omega
   ·rcases List.mem_cons.1 hd with e | hd
    ·omega
    ·have:=a d hd;omega
  ·rw [if_neg h];exact ⟨b,λd hd=>by have:=a d hd;omega⟩
theorem VSt.nodup {s:TA} (v:VSt s):(s.2.1.map (·.1)).Nodup:=by rw [v.due];exact (aD _ _).1
theorem JobAt.out {L:TB} {n:Nat} {j:Job} (h:JobAt L n j) (v:VLev L) (hs:(∀ r∈TG L.2 n,r.2.length<=2000)):VL (UR j)/\((UR j).length:Int)<=2*UY L.1 n/\j.1=(n:Int)/\n<12/\TG L.2 n≠[]:=by
 obtain ⟨a,b,d,k,e,rfl,i,_,l,m⟩:=h;have c:TG L.2 n=[a,b]:=by unfold TG;rw [e];rfl
 have s:=hs a (by rw [c];simp);have t:=hs b (by rw [c];simp);have u:=((v.own n).2 a (by rw [c];simp)).le;have w:=((v.own n).2 b (by rw [c];simp)).le;obtain ⟨f,g⟩:=gK m l d i (by omega);have p:=(List.getElem?_eq_some_iff.1 e).1;have q:=v.len;refine ⟨f,?_,rfl,by omega,by rw [c];simp⟩
 have o:((UR ((n:Int),U9 b.2 a.2 d k)).length:Int)<=(b.2.length:Int)+(a.2.length:Int):=by
  have:(UR ((n:Int),U9 b.2 a.2 d k)).length<=b.2.length+a.2.length:=g;omega
 omega
def fe (L:TB):Prop := ∀ i,∀ r∈TG L.2 i,r.2.length<=2000
structure InstF (s:TA) (n:Nat) (j:Job):Prop where
 l1:VLev (US s.1 n [])
 to12:UR j≠[]->Xp s j<12
 vr:UR j≠[]->VR (UY s.1.1 (Xp s j)) (s.2.2,UR j)
 id : ∀ y∈(US s.1 n []).2.flatten,y.1≠s.2.2
 room:UR j≠[]->(TG (US s.1 n []).2 (Xp s j)).length<2
 lev:VLev (VU s j)
theorem dj {s:TA} (v:VSt s) (A:fe s.1) {n:Nat} {j:Job} (z:JobAt s.1 n j) (G : ¬ 0<Tb s.1 j) (hc:Vq s.1 j=true) (x:UR j≠[]->s.2.2<=1000000):InstF s n j:=by
 obtain ⟨C,D,E,t,I⟩:=z.out v.lev (A n);have a:=v.lev.leave (n:=n) t;have e:j.1.toNat=n:=by rw [E];simp
 have b:Vg s.1 j≠true->n+1<12/\(TG s.1.2 (n+1)).length<2:=λhs=>by
  unfold Vq at hc;rw [show decide (0<Tb s.1 j)=false by simp;omega,e] at hc;cases o:Vg s.1 j with
  | true=>exact absurd o hs
  | false =>
   rw [o] at hc;simpa [YX,TG] using hc
 have d : ∀ y∈(US s.1 n []).2.flatten,y.1≠s.2.2:=λy r=>by
  obtain ⟨p,q,i,k⟩:=XJ s.1 n [];rw [k,List.nil_append] at r
  have B:y∈s.1.2.flatten:=by
   rw [i];rcases List.mem_append.1 r with h | h
   ·exact List.mem_append_left _ h
   ·exact List.mem_append_right _ (List.mem_append_right _ h)
  have:=Yw B;have:=v.n3;omega
 have m:Xp s j<12/\(TG (US s.1 n []).2 (Xp s j)).length<2/\((UR j).length:Int)<=UY s.1.1 (Xp s j):=by
  unfold Xp;by_cases hs:Vg s.1 j=true
  ·rw [if_pos hs,e];refine ⟨t,by rw [We,if_pos rfl];simp,?_⟩;have c:=hs;unfold Vg at c;rw [e] at c;exact of_decide_eq_true c
  ·rw [if_neg hs,e];obtain ⟨i,k⟩:=b hs;refine ⟨i,by rw [We,if_neg (by omega)];exact k,?_⟩;rw [aS];exact D
 obtain ⟨u,w,F⟩:=m;have g:UR j≠[]->VR (UY s.1.1 (Xp s j)) (s.2.2,UR j):=λf=>⟨v.n1,x f,C,f,F⟩;refine ⟨a,λ_=>u,g,d,λ_=>w,?_⟩;unfold VU;rw [e];by_cases l:UR j=[]
 ·rw [if_pos l];exact a
 ·rw [if_neg l];exact a.arrive u w (g l) d
theorem aE {s:TA} (v:VSt s) (u:fe s.1) {n:Nat} {j:Job} (t:JobAt s.1 n j) (w : ¬ 0<Tb s.1 j) (hc:Vq s.1 j=true) (y:UR j≠[]->s.2.2<=1000000) (l:Int) :
  (bd (U6 (s.1,(n:Int))) λd=>br (RR d.2.2 0) (λ_=>br (SU (Kb (AS j.2.2.2.1)) 0) (λ_=>bd (Tk (s,(j,l))) λK=>br (Hf K) (λ_=>bd (Tu ((d.1,(Rl .i64 (n:Int) 1,(s.2.2,j.2.2.2.1))))) λm=>br (RT m.2 0) (λ_=>some ((((0,[]),([],0)),m.2))) λ_=>bd (Tc ((s,(m.1,(Rl .i64 s.2.2 1,(n:Int)))))) λL=>some L) λ_=>bd (Tu ((d.1,((n:Int),(s.2.2,j.2.2.2.1))))) λo=>br (RT o.2 0) (λ_=>some ((((0,[]),([],0)),o.2))) λ_=>bd (Tc ((s,(o.1,(Rl .i64 s.2.2 1,(n:Int)))))) λM=>some M) λ_=>br (RT d.2.2 0) (λ_=>some ((((0,[]),([],0)),d.2.2))) λ_=>bd (Tc ((s,(d.1,(s.2.2,(n:Int)))))) λN=>some N) λ_=>br (RT d.2.2 0) (λ_=>some ((((0,[]),([],0)),d.2.2))) λ_=>bd (Tc ((s,(d.1,(s.2.2,(n:Int)))))) λk=>some k)
  = some (YJ s (VU s j) (Xa s j) j.1,0):=by
 have F:=dj v u t w hc y;obtain ⟨G,O,g,I,J⟩:=t.out v.lev (u n);have i:j.1.toNat=n:=by rw [g];simp
 have D:=v.n2;have C:=v.n1;have A:=v.jsmall;have a:=F.lev;rw [cR v.lev J,SL];show (br (RR 0 0) _ _)=_;rw [Sn,if_pos rfl,TH,TF,Sp];by_cases b:UR j=[]
 ·rw [if_neg (show ¬ ((j.2.2.2.1.length:Int)>0) by rw [show j.2.2.2.1=[] from b];simp),Ss,if_pos rfl];unfold VU at a ⊢;rw [if_pos b,i] at a;rw [if_pos b,i,ZP v.nodup (by omega) a,SL];unfold Xa;rw [if_pos b,g]
 ·rw [if_pos (show ((j.2.2.2.1.length:Int)>0) by have:=List.length_pos_iff.2 b;have h:(UR j).length=j.2.2.2.1.length:=rfl;omega),Z3 v.lev g I,SL,To];have E:(UR j).length<=1048576:=by have:=G.len;omega
  have B:kR [] (UY (US s.1 n []).1 (Xp s j)) (s.2.2,UR j)=0:=f9.2 ⟨F.vr b,by simp⟩;have f:=bS F.l1 (F.to12 b) (x:=(s.2.2,UR j)) E F.id (F.room b);rw [if_neg (by simp [B])] at f
  have z:VU s j=US (US s.1 n []) (Xp s j) (TG (US s.1 n []).2 (Xp s j)++[(s.2.2,UR j)]):=by
   unfold VU;rw [if_neg b,i]
  have q:Xa s j=s.2.2+1:=by unfold Xa;rw [if_neg b]
  rw [<- z] at f;have p:Rl .i64 s.2.2 1=s.2.2+1:=R9 (by omega);have r:=ZP v.nodup (by omega) a (s.2.2+1) (n:Int);rw [Sx];have c:Xp s j=if Vg s.1 j=true then n else n+1:=by unfold Xp;rw [i]
  by_cases hs:Vg s.1 j=true
  ·rw [if_pos hs] at c ⊢;rw [c] at f;have e:Tu (US s.1 n [],((n:Int),(s.2.2,j.2.2.2.1)))=some (VU s j,0):=f;rw [e,SL,Ss,if_pos rfl,p,r,SL,q,g]
  ·rw [if_neg hs] at c ⊢;rw [c] at f;rw [TI (by omega)];have e:Tu (US s.1 n [],(((n+1:Nat):Int),(s.2.2,j.2.2.2.1)))=some (VU s j,0):=f;rw [e,SL,Ss,if_pos rfl,p,r,SL,q,g]
theorem cB {s:TA} (m:Sm s) (k:fe s.1) (a:Int):VC (s,a)=some (Wf zS YV s a):=by
 unfold VC;rw [az m,SL];unfold Wf;by_cases b:(TE s).2=0;rotate_left
 ·rw [if_pos b,Ss,if_neg b,if_pos b];rfl
 rw [if_neg (show ¬ (TE s).2≠0 by simp [b]),if_neg (show ¬ (TE s).2≠0 by simp [b])];have v:=TS.1 b;unfold Z5;cases p:Yu a 0 (TJ 0 s.1.2) with
 | none=>rfl
 | some i =>
  obtain ⟨j,n,l,o,f,g,q⟩:=v.at p;have:=v.lev.len;subst o;simp only [l];unfold TX YV;rw [Ss,if_pos rfl,SL,Sp];by_cases e:0<Tb s.1 j
  ·rw [if_pos (show ((Tb s.1 j:Int))>0 by omega),if_pos (.inl e)];rfl
  rw [if_neg (show ¬ ((Tb s.1 j:Int))>0 by omega),aY v.lev f (by omega) _ rfl,SL,To,Sx];by_cases hc:Vq s.1 j=true;rotate_left
  ·rw [if_neg hc,if_pos (.inr (by simpa using hc))];rfl
  rw [if_pos hc,if_neg (show ¬ (0<Tb s.1 j\/Vq s.1 j=false) by rw [hc];simp;omega),Sp];by_cases d:s.2.2>1000000
  ·rw [if_pos d,TH,TF,Sp];by_cases c:UR j=[]
   ·rw [if_neg (show ¬ ((j.2.2.2.1.length:Int)>0) by rw [show j.2.2.2.1=[] from c];simp),if_neg (by simp [c])];exact aE v k g e hc (λh=>absurd c h) _
   ·rw [if_pos (show ((j.2.2.2.1.length:Int)>0) by have:=List.length_pos_iff.2 c;have h:(UR j).length=j.2.2.2.1.length:=rfl;omega),if_pos ⟨d,c⟩];rfl
  ·rw [if_neg d,if_neg (by simp [d])];exact aE v k g e hc (λh=>by omega) _
end
section
open Go Go.Proofs.YtfilfloanndddaaGreat.Sv
def X7 (L:TB) (j:Job):XG:=match TG L.2 j.1.toNat with
 | [r0,r1]=>U9 r1.2 r0.2 j.2.2.1.2.2 (j.2.2.2.2.toNat+1)
 | _=>j.2
def Y7 (s:TA) (j:Job):TA:=(s.1,(lset s.2.1 ((Yu j.1 0 (TJ 0 s.1.2)).getD 0) (j.1,X7 s.1 j),s.2.2))
theorem gQ {s:TA} (m:Sm s) (v:VSt s) {a:Int} {i:Nat} (h:Yu a 0 (TJ 0 s.1.2)=some i) {j:Job} (e:s.2.1[i]? = some j) (t:0<Tb s.1 j):XC (s,(a,1))=some (Y7 s j,(1,0)):=by
 obtain ⟨j',n,f,y,u,q,D⟩:=v.at h;rw [e] at f;cases f;subst y;have r:(TE s).2=0:=TS.2 v
 have l:Xf s (n:Int)=((i:Int),0):=by
  unfold Xf;rw [if_neg (show ¬ (TE s).2≠0 by simp [r]),h]
 have w:=v.jsmall;have hi:=(List.getElem?_eq_some_iff.1 e).1;unfold XC;rw [oX m,SL,Ss,if_pos r,Sr,if_neg (show ¬ ((1:Int)<0) by omega),da m,SL,l,Ss,if_pos rfl,S9,Sb e,(JobAt.left q).1,SL,Sn,if_neg (show ¬ ((Tb s.1 j:Int)=0) by omega),S9,Sb e];obtain ⟨b,c,d,k,p,rfl,x,C,A,B⟩:=q;have z:TG s.1.2 n=[b,c]:=by unfold TG;rw [p];rfl
 have o:Tb s.1 ((n:Int),U9 c.2 b.2 d k)=c.2.length+b.2.length-k:=by
  unfold Tb;simp only [Int.toNat_natCast,p];show c.2.length+b.2.length-((k:Int)).toNat=_;rw [Int.toNat_natCast]
 rw [o] at t;have g:=aT B A d x (k:=1);rw [show min 1 (c.2.length+b.2.length-k)=1 by omega] at g;show (bd (UO (U9 c.2 b.2 d k,((1:Nat):Int))) λE=>_)=_;rw [g,SL];simp only;rw [Ss,if_pos rfl];unfold Tw;rw [Te (by simp only [AS];omega),SL,S9,SR,if_pos (by simp only [AS];exact hi),Sb e];unfold Y7 X7;simp only [Int.toNat_natCast,z,h,Option.getD_some];have e1:(U9 c.2 b.2 d k).2.1.2.2=d:=ZZ _ _ _ _;have e2:(U9 c.2 b.2 d k).2.2.2.toNat=k:=by show ((k:Int)).toNat=k;rw [Int.toNat_natCast]
 rw [e1,e2];rfl
def XY (s:TA) (j:Job):TA×(Bool×Int):=if Vq s.1 j=false then (zS,(false,9)) else if 0<Tb s.1 j then (Y7 s j,(false,0)) else ((YV s j).1,(RR (YV s j).2 0,(YV s j).2))
def U2 (s:TA) (a:Int):TA×(Bool×Int):=if (TE s).2≠0 then (zS,(false,(TE s).2)) else match Z5 s a with
 | some j=>XY s j
 | none=>(zS,(false,4))
theorem aV {s:TA} (m:Sm s) (g:fe s.1) (a:Int):Tj (s,a)=some (U2 s a):=by
 unfold Tj;rw [az m,SL,cB m g];unfold Wf U2;by_cases b:(TE s).2=0;rotate_left
 ·rw [if_pos b,Ss,if_neg b,if_pos b];rfl
 rw [if_neg (show ¬ (TE s).2≠0 by simp [b]),if_neg (show ¬ (TE s).2≠0 by simp [b]),if_neg (show ¬ (TE s).2≠0 by simp [b])];have v:=TS.1 b;unfold Z5;cases f:Yu a 0 (TJ 0 s.1.2) with
 | none=>rfl
 | some i =>
  obtain ⟨j,n,e,k,d,h,l⟩:=v.at f;have:=v.lev.len;simp only [e];unfold XY TX;rw [Ss,if_pos rfl,aY v.lev d (by omega) _ rfl,SL,To,Sx];cases hc:Vq s.1 j with
  | false=>rw [if_neg (by simp),if_pos rfl];rfl
  | true =>
   rw [if_pos rfl,if_neg (by simp),SL,Sp];by_cases c:0<Tb s.1 j
   ·rw [if_pos (show ((Tb s.1 j:Int))>0 by omega),if_pos c,gQ m v f e c];rfl
   ·rw [if_neg (show ¬ ((Tb s.1 j:Int))>0 by omega),if_neg c];rfl
end
section
open Go Go.Proofs.YtfilfloanndddaaGreat.Sv
theorem am {ls:List (List TY)} {d:Int} (h:d∈TJ 0 ls) : ∃ (n:Nat) (a b:TY),d=(n:Int)/\ls[n]? = some [a,b]:=by
 obtain ⟨k,f⟩:=List.getElem?_of_mem h;obtain ⟨n,c,a,b,e⟩:=XI f;exact ⟨n,a,b,by rw [c,Nat.zero_add],e⟩
theorem bM {l:List (List TY)} {n:Int} (i:0<n) (h : ∀ x∈l.flatten,x.1<n):WC l<n:=by
 have f : ∀ (rs:List TY) (m:Int),m<n->(∀ x∈rs,x.1<n)->rs.foldl (λm r=>S0 m r.1) m<n:=by
  intro rs
  induction rs with
  | nil=>intro m b _;exact b
  | cons r rs e =>
   intro m b c;rw [List.foldl_cons];refine e _ ?_ λx d=>c x (by simp [d]);rw [Wu];have:=c r (by simp);omega
 have two : ∀ (ls:List (List TY)) (m:Int),m<n->(∀ rs∈ls,∀ x∈rs,x.1<n)->ls.foldl (λm rs=>rs.foldl (λm r=>S0 m r.1) m) m<n:=by
  intro ls
  induction ls with
  | nil=>intro m b _;exact b
  | cons rs ls e =>
   intro m b c;rw [List.foldl_cons];exact e _ (f rs m b (c rs (by simp))) λg a=>c g (by simp [a])
 exact two l 0 i λrs a x d=>h x (List.mem_flatten.2 ⟨rs,a,d⟩)
theorem lr {l:List (List TY)} (e:l.getLast? ≠ some []) {n:Nat} (a:TG l n≠[]) (b : ∀ i,n<i->TG l i=[]):l.length=n+1:=by
 have f:n<l.length:=by
  by_cases h:n<l.length
  ·exact h
  ·unfold TG at a;rw [List.getElem?_eq_none (by omega)] at a;exact absurd rfl a
 by_cases c:l.length=n+1
 ·exact c
 ·exfalso;have d:=b (l.length-1) (by omega);refine e ?_;rw [List.getLast?_eq_getElem?,WE (by omega),d]
theorem cM {js:List Job} {d:Int} {j:Job} (h:UN js d=some j):j∈js/\j.1=d:=by
 unfold UN at h;have a:=List.find?_some h;unfold af at a;rw [VZ] at a;exact ⟨List.mem_of_find?_eq_some h,(of_decide_eq_true a).symm⟩
theorem fm {L:TB} (v:VLev L) {n:Nat} {b c:TY} (h:L.2[n]? = some [b,c]):JobAt L n (WH L (n:Int)):=by
 have a:TG L.2 n=[b,c]:=by unfold TG;rw [h];rfl
 refine ⟨b,c,decide ((n:Int)=(L.2.length:Int)-1),0,h,?_,Nat.zero_le _,λd => ?_,VR.vl' v (n:=n) (by rw [a];simp),VR.vl' v (n:=n) (by rw [a];simp)⟩
 ·unfold WH;rw [Int.toNat_natCast,a]
 ·have:=of_decide_eq_true d;have:=(List.getElem?_eq_some_iff.1 h).1;omega
theorem lX {s:TA} (v:VSt s) {L:TB} (u:VLev L) {next a:Int} (F:1<=next) (G:next<=1000001) (I : ∀ x∈L.2.flatten,x.1<next)
  (J : ∀ (n:Nat) (g h:TY),s.1.2[n]? = some [g,h]->(n:Int)≠a->(∃ q r,L.2[n]? = some [q,r])->L.2[n]? = some [g,h]/\(n+1=s.1.2.length->n+1=L.2.length)):VSt (YJ s L next a):=by
 have b : ∀ d∈TJ 0 L.2,(WV s L a d).1=d /\ ∃ n,JobAt L n (WV s L a d):=λd c=>by
  obtain ⟨n,q,r,rfl,t⟩:=am c;unfold WV;cases l:(if (n:Int)=a then none else UN s.2.1 (n:Int)) with
  | none =>
   rw [Option.getD_none];have i:=fm u t;refine ⟨?_,n,i⟩;obtain ⟨_,_,_,_,_,e,_⟩:=i;rw [e]
  | some j =>
   rw [Option.getD_some];by_cases o:(n:Int)=a
   ·rw [if_pos o] at l;cases l
   rw [if_neg o] at l;obtain ⟨p,f⟩:=cM l;refine ⟨f,n,?_⟩;obtain ⟨m,g,h,E,k,w,rfl,y,z,A,B⟩:=v.job j p;have K:m=n:=by have:(m:Int)=(n:Int):=f;omega
   subst K;obtain ⟨C,D⟩:=J m g h w o ⟨q,r,t⟩;exact ⟨g,h,E,k,C,rfl,y,λi=>D (z i),A,B⟩
 refine ⟨u,F,G,bM (by show 0<next;omega) I,?_,λj p => ?_⟩
 ·show ((TJ 0 L.2).map (WV s L a)).map (·.1)=TJ 0 L.2;rw [List.map_map]
  conv=>rhs;rw [<- List.map_id (TJ 0 L.2)]
  exact List.map_congr_left λd c=>(b d c).1
 ·obtain ⟨d,c,rfl⟩:=List.mem_map.1 p;exact (b d c).2
theorem XW {l:List (List TY)} {n:Nat} {b c:TY}:l[n]? = some [b,c]<->TG l n=[b,c]:=by
 unfold TG;constructor
 ·intro h;rw [h];rfl
 ·intro h;cases a:l[n]? with
  | none=>rw [a] at h;cases h
  | some rs=>rw [a] at h;exact congrArg some h
theorem Vl {s:TA} {j:Job} {n:Nat} (b:j.1.toNat=n) (i:Nat):TG (VU s j).2 i=if UR j≠[]/\i=Xp s j then (if i=n then [] else TG s.1.2 i)++[(s.2.2,UR j)] else if i=n then [] else TG s.1.2 i:=by
 unfold VU;rw [b];by_cases a:UR j=[]
 ·rw [if_pos a,if_neg (by simp [a]),We]
 ·rw [if_neg a,We];by_cases hi:i=Xp s j
  ·rw [if_pos hi,if_pos ⟨a,hi⟩,We,<- hi]
  ·rw [if_neg hi,if_neg (by simp [hi]),We]
theorem fy {s:TA} (v:VSt s) (u:fe s.1) {n:Nat} {j:Job} (t:JobAt s.1 n j) (B : ¬ 0<Tb s.1 j) (hc:Vq s.1 j=true) (r:UR j≠[]->s.2.2<=1000000):VSt (YJ s (VU s j) (Xa s j) j.1):=by
 have F:=dj v u t B hc r;obtain ⟨O,P,w,S,q⟩:=t.out v.lev (u n);have l:j.1.toNat=n:=by rw [w];simp
 have E:=v.n1;have G:=v.n2
 have k:s.2.2<=Xa s j/\Xa s j<=1000001/\(UR j≠[]->s.2.2<Xa s j):=by
  unfold Xa;by_cases d:UR j=[]
  ·rw [if_pos d];exact ⟨by omega,by omega,λh=>absurd d h⟩
  ·rw [if_neg d];have:=r d;exact ⟨by omega,by omega,λ_=>by omega⟩
 refine lX v F.lev (by omega) k.2.1 (λx L => ?_) (λm z A D C N => ?_)
 ·obtain ⟨i,hi⟩:=Zo.1 L;rw [Vl l] at hi
  have b : ∀ {y:TY},y∈(if i=n then [] else TG s.1.2 i)->y.1<Xa s j:=fun {y} o=>by
   by_cases a:i=n
   ·rw [if_pos a] at o;cases o
   ·rw [if_neg a] at o;have:=Yw (Zo.2 ⟨i,o⟩);have:=v.n3;omega
  split at hi
  ·rename_i hh;rcases List.mem_append.1 hi with hi | hi
   ·exact b hi
   ·rw [List.mem_singleton.1 hi];exact k.2.2 hh.1
  ·exact b hi
 ·have f:m≠n:=λe=>C (by rw [w,e]);have g:TG s.1.2 m=[z,A]:=XW.1 D
  have p : ¬ (UR j≠[]/\m=Xp s j):=λ⟨d,J⟩=>by
   have:=F.room d;rw [We,<- J,if_neg f,g] at this;simp at this
  have c:TG (VU s j).2 m=[z,A]:=by rw [Vl l,if_neg p,if_neg f,g]
  refine ⟨XW.2 c,λM=>(lr F.lev.last (by rw [c];simp) λi hi => ?_).symm⟩;have a:TG s.1.2 i=[]:=by unfold TG;rw [List.getElem?_eq_none (by omega)];rfl
  have I:n<s.1.2.length:=by
   by_cases h:n<s.1.2.length
   ·exact h
   ·unfold TG at q;rw [List.getElem?_eq_none (by omega)] at q;exact absurd rfl q
  have K:Xp s j<=n+1:=by unfold Xp;rw [l];split<;>omega
  rw [Vl l,if_neg (by rintro ⟨_,h⟩;omega),a];split<;>rfl
theorem Job.steps {L:TB} {n:Nat} {j:Job} (f:JobAt L n j) (h:0<Tb L j):JobAt L n (j.1,X7 L j):=by
 obtain ⟨a,b,c,k,d,rfl,o,g,l,m⟩:=f;have i:=XW.1 d
 have e:Tb L ((n:Int),U9 b.2 a.2 c k)=b.2.length+a.2.length-k:=by
  unfold Tb;simp only [Int.toNat_natCast,d];show b.2.length+a.2.length-((k:Int)).toNat=_;rw [Int.toNat_natCast]
 rw [e] at h;refine ⟨a,b,c,k+1,d,?_,by omega,g,l,m⟩;unfold X7;simp only [Int.toNat_natCast,i];have e1:(U9 b.2 a.2 c k).2.1.2.2=c:=ZZ _ _ _ _;have e2:(U9 b.2 a.2 c k).2.2.2.toNat=k:=by show ((k:Int)).toNat=k;rw [Int.toNat_natCast]
 rw [e1,e2]
theorem gR {s:TA} (v:VSt s) {j:Job} {i n:Nat} (e:Yu j.1 0 (TJ 0 s.1.2)=some i) (a:s.2.1[i]? = some j) (d:JobAt s.1 n j) (c:0<Tb s.1 j):VSt (Y7 s j):=by
 unfold Y7;rw [e,Option.getD_some];refine ⟨v.lev,v.n1,v.n2,v.n3,?_,λx hx => ?_⟩
 ·show (s.2.1.set i (j.1,X7 s.1 j)).map (·.1)=_;rw [<- v.due,List.map_set];refine List.ext_getElem? λk => ?_;rw [List.getElem?_set];by_cases b:i=k
  ·subst b;have hi:=(List.getElem?_eq_some_iff.1 a).1;rw [if_pos rfl,List.length_map,if_pos hi,List.getElem?_map,a];rfl
  ·rw [if_neg b]
 ·rcases List.mem_or_eq_of_mem_set hx with hx | hx
  ·exact v.job x hx
  ·rw [hx];exact ⟨n,Job.steps d c⟩
end
section
open Go Go.Proofs.YtfilfloanndddaaGreat.Sv
theorem mQ {B:Int} {M:List (List TY)} {f:(Int×List (List TY))->Option (LR (Int×List (List TY)) (Nat×((Int×List (List TY))×Unit)))} (a:f (B,[])=some (.dn (0,((B,[]),())))) (hs : ∀ k,k<M.length->f (B,M.take (k+1))=if TG M k=[] then some (.nx (B,M.take k)) else some (.dn (0,((B,M.take (k+1)),())))) : ∀ k,k<=M.length->IJ (k+1) f (B,M.take k)=some (0,((B,M.take (Xs M k)),()))
 | 0,_=>by rw [List.take_zero];exact Tq a
 | k+1,hk=>by
  have h:=hs k (by omega);unfold Xs;by_cases b:TG M k=[]
  ·rw [if_pos b] at h ⊢;rw [Th h];exact mQ a hs k (by omega)
  ·rw [if_neg b] at h ⊢;exact Tq h
theorem lS {M:List (List TY)} {k:Nat} (h:k<M.length):M.take (k+1)=M.take k++[TG M k]:=by
 rw [List.take_add_one,WE h];rfl
theorem ba {L:TB} (s:L.2.length<=1000) {n:Nat} (u:n<1000) {r:List TY} (l:r.length<=1048576) (o : ∀ i,(TG L.2 i).length<=1048576):VE (L,((n:Int),r))=some (US L n r):=by
 have t:(WZ L.2 n r).length=max L.2.length (n+1):=by unfold WZ;rw [List.length_set,YF]
 unfold VE;simp only [TH,TF];refine TZ (Zm (r:=(0,((((max L.2.length (n+1):Nat):Int),(L.1,WZ L.2 n r)),()))) (λk=>((k:Int),(L.1,(WZ L.2 n r).take k))) (max L.2.length (n+1)) (by simp) (by omega) (λk j => ?_) ?_) ?_
 ·have c:((WZ L.2 n r).take k).length=k:=by rw [List.length_take];omega
  simp only [c];rw [lS (by omega),bc,TI (by omega),Sr];by_cases g:k<L.2.length
  ·rw [if_pos (by omega),So,if_neg (by omega),S9,Sb (WE g),Sn];by_cases a:k=n
   ·rw [if_pos (by omega),if_pos a,Te l,Te (by simp only [BD,List.length_cons,List.length_nil];omega)];rfl
   ·rw [if_neg (by omega),if_neg a,Te (o k),Te (by simp only [BD,List.length_cons,List.length_nil];omega)];rfl
  ·rw [if_neg (by omega),Sq,if_pos (by omega),So,if_pos (by omega),Sn];by_cases a:k=n
   ·rw [if_pos (by omega),if_pos a,Te l,Te (by simp only [BD,List.length_cons,List.length_nil];omega)];rfl
   ·rw [if_neg (by omega),if_neg a,Te (by simp only [BD,List.length_cons,List.length_nil];omega)];have:TG L.2 k=[]:=by unfold TG;rw [List.getElem?_eq_none (by omega)];rfl
    rw [this];rfl
 ·have c:(WZ L.2 n r).take (max L.2.length (n+1))=WZ L.2 n r:=List.take_of_length_le (by omega);simp only;rw [Sr,if_neg (by omega),Sq,if_neg (by omega),c]
 ·have d:=mQ (B:=L.1) (M:=WZ L.2 n r) (f:=λb=>br (SU (b.2.length:Int) 0) (λ_=>RX (Rp .i64 (b.2.length:Int) 1) λp=>ix b.2 p λq=>br (RR (q.length:Int) 0) (λ_=>RX (Rp .i64 (b.2.length:Int) 1) λh=>gd (CD h b.2.length) λ_=>gd (CD 0 h) λ_=>some (.nx (b.1,Dy b.2 0 h))) λ_=>some (.dn ((0,(b,()))))) λ_=>some (.dn ((0,(b,()))))) rfl (λk j=>by
   have c:((WZ L.2 n r).take (k+1)).length=k+1:=by rw [List.length_take];omega
   have hi:Rp .i64 ((k+1:Nat):Int) 1=(k:Int):=by rw [SB (by omega)];omega
   have m:((WZ L.2 n r).take (k+1))[k]? = some (TG (WZ L.2 n r) k):=by rw [List.getElem?_take,if_pos (by omega),WE j]
   simp only [c,hi];rw [Sp,if_pos (by omega),S9,Sb m,ah];by_cases e:TG (WZ L.2 n r) k=[]
   ·rw [if_pos e,if_pos e,S9,Te (by omega),Te (by omega)]
    have:Dy ((WZ L.2 n r).take (k+1)) 0 k=(WZ L.2 n r).take k:=by
     unfold Dy;rw [List.drop_zero,Nat.sub_zero,List.take_take];congr 1;omega
    rw [this]
   ·rw [if_neg e,if_neg e]) _ (Nat.le_refl _)
  rw [List.take_of_length_le (Nat.le_refl _)] at d;exact TZ (Ui (by omega) d) rfl
end
section
open Go Go.Proofs.YtfilfloanndddaaGreat.Sv
theorem eW {s:TA} (m:Sm s) (v:VSt s) {a:Int} {i:Nat} (h:Yu a 0 (TJ 0 s.1.2)=some i) {j:Job} (e:s.2.1[i]? = some j) (t:0<Tb s.1 j):XH (s,(a,1))=some (Y7 s j,(1,0)):=by
 obtain ⟨j',n,f,z,w,u,E⟩:=v.at h;rw [e] at f;cases f;subst z;have l:(TE s).2=0:=TS.2 v
 have o:Xf s (n:Int)=((i:Int),0):=by
  unfold Xf;rw [if_neg (show ¬ (TE s).2≠0 by simp [l]),h]
 have q:Wf (0:Int) (λs j=>((Tb s.1 j:Int),0)) s (n:Int)=((Tb s.1 j:Int),0):=by
  unfold Wf Z5;rw [if_neg (show ¬ (TE s).2≠0 by simp [l]),h];simp only [e]
 have x:=v.jsmall;have hi:=(List.getElem?_eq_some_iff.1 e).1;unfold XH;rw [ml m,SL,Sn,if_pos l,Sr,if_neg (show ¬ ((1:Int)<0) by omega),Ss,if_pos l,YP m,q,SL,Sn,if_pos rfl,Sn,if_neg (show ¬ ((Tb s.1 j:Int)=0) by omega),Ss,if_pos rfl,YG m,o,SL,S9,Sb e];obtain ⟨b,c,d,k,r,rfl,y,D,B,C⟩:=u;have A:TG s.1.2 n=[b,c]:=by unfold TG;rw [r];rfl
 have p:Tb s.1 ((n:Int),U9 c.2 b.2 d k)=c.2.length+b.2.length-k:=by
  unfold Tb;simp only [Int.toNat_natCast,r];show c.2.length+b.2.length-((k:Int)).toNat=_;rw [Int.toNat_natCast]
 rw [p] at t;have g:=Zx C B d y (k:=1);rw [show min 1 (c.2.length+b.2.length-k)=1 by omega] at g;show (bd (Ta (U9 c.2 b.2 d k,((1:Nat):Int))) λF=>_)=_;rw [g,SL];simp only;rw [Te (by simp only [AS];omega),S9,SR,if_pos (by simp only [AS];exact hi),Sb e];unfold Y7 X7;simp only [Int.toNat_natCast,A,h,Option.getD_some];have e1:(U9 c.2 b.2 d k).2.1.2.2=d:=ZZ _ _ _ _;have e2:(U9 c.2 b.2 d k).2.2.2.toNat=k:=by show ((k:Int)).toNat=k;rw [Int.toNat_natCast]
 rw [e1,e2];rfl
theorem eU {L:TB} (v:VLev L) {n:Nat} (h:(TG L.2 n).length=2):UT (L,(n:Int))=some (WH L n,0):=by
 have d:n<L.2.length:=by
  by_cases e:n<L.2.length
  ·exact e
  ·unfold TG at h;rw [List.getElem?_eq_none (by omega)] at h;cases h
 have i:=v.len;obtain ⟨f,g⟩:=v.small;unfold UT;simp only [TH,TF];rw [ap _ f g,Wx v,SL,Sn,if_pos rfl,Sr,if_neg (by omega),So,if_neg (by omega),Sn,if_pos rfl,So,if_neg (by omega),S9,Sb (WE d),Sr,if_neg (by omega),Ss,if_pos rfl,Zv v d,SL]
 obtain ⟨b,c,a⟩ : ∃ b c,TG L.2 n=[b,c]:=by
  match hq:TG L.2 n with
  | [b,c]=>exact ⟨b,c,rfl⟩
  | []=>rw [hq] at h;cases h
  | [_]=>rw [hq] at h;cases h
  | _::_::_::_=>rw [hq] at h;simp at h
 rw [aQ _ (by rw [WE d,a]) (VR.vl' v (n:=n) (by rw [a];simp)) (VR.vl' v (n:=n) (by rw [a];simp)),SL];unfold WH;rw [Int.toNat_natCast,a]
end
section
open Go Go.Proofs.YtfilfloanndddaaGreat.Sv
abbrev ff:=(Int×((List (List S8))×((List Int)×((List TD)×((List Int)×(Int×(Bool×((List UInt8)×(Bool×((List S8)×Int))))))))))
def bJ (j:Job):ff:=(j.1,(j.2.1.1,(j.2.1.2.1,(j.2.1.2.2.1,(j.2.1.2.2.2.1,(j.2.1.2.2.2.2,(j.2.2.1.1,(j.2.2.1.2.1,(j.2.2.1.2.2,(j.2.2.2.1,j.2.2.2.2))))))))))
theorem eG (p:List Job) (x:Job) (d:Int):UN (p++[x]) d=(UN p d).or (if x.1=d then some x else none):=by
 unfold UN;rw [List.find?_append]
 congr 1
 rw [List.find?_cons];unfold af;rw [VZ];by_cases h:x.1=d
 ·rw [if_pos h,show decide (d=x.1)=true by simp [h]]
 ·rw [if_neg h,show decide (d=x.1)=false by simp;exact λe=>h e.symm];rfl
theorem fq {s:TA} (w:(s.2.1.map (·.1)).Nodup) (E:s.2.1.length<=1000) (L:TB) (a:Int) {D:List Int} {i:Nat} {d:Int} (hi:D[i]? = some d):(loop (λ(c:Int×ff)=>br (SW c.1 (s.2.1.length:Int)) (λ_=>RX c.1 λm=>ix s.2.1 m λr=>RX (i:Int) λn=>ix D n λt=>br (RR r.1 t) (λ_=>RX (i:Int) λo=>ix D o λu=>br (RT u a) (λ_=>RX c.1 λq=>ix s.2.1 q λb=>some (.nx ((Rl .i64 c.1 1,(b.1,(b.2.1.1,(b.2.1.2.1,(b.2.1.2.2.1,(b.2.1.2.2.2.1,(b.2.1.2.2.2.2,(b.2.2.1.1,(b.2.2.1.2.1,(b.2.2.1.2.2,b.2.2.2))))))))))))) λ_=>some (.nx (Rl .i64 c.1 1,c.2))) λ_=>some (.nx (Rl .i64 c.1 1,c.2))) λ_=>some (.dn (((0:Nat),(c,()))))) ((0:Int),bJ (WH L d)))=some (0,(((s.2.1.length:Int),bJ (WV s L a d)),())):=by
 refine Ub (l:=s.2.1) (σ:=Job) (s:=((0:Int),bJ (WH L d))) (λk j=>((k:Int),bJ j)) (λls k j => ∃ p,s.2.1=p++ls/\j=(if d=a then none else UN p d).getD (WH L d)) (λ_ _ _=>(0,(((s.2.1.length:Int),bJ (WV s L a d)),()))) (WH L d) rfl (by omega) ⟨[],rfl,by split<;>rfl⟩ (λj h => ?_) (λk x ls j C y z h => ?_)
 ·obtain ⟨p,e,rfl⟩:=h;rw [List.append_nil] at e;simp only;rw [re,Rd,<- e];rfl
 ·obtain ⟨p,e,rfl⟩:=h
  have B:x.1 ∉ p.map (·.1):=λA=>by
   rw [e,List.map_append,List.nodup_append] at w;exact w.2.2 _ A x.1 (by simp) rfl
  refine ⟨(if d=a then none else UN (p++[x]) d).getD (WH L d),?_,⟨p++[x],by rw [e];simp,rfl⟩,rfl⟩
  simp only;rw [rl z,R5,S9,Sb y,S9,Sb hi,Sn,TI (by omega),eG];by_cases f:x.1=d
  ·rw [if_pos f,S9,Sb hi,Ss,S9,Sb y,if_pos f];by_cases g:d=a
   ·rw [if_pos g,if_pos g,if_pos g]
   ·rw [if_neg g,if_neg g,Xy (by rw [<- f];exact B)];rfl
  ·rw [if_neg f,if_neg f];have:(UN p d).or none=UN p d:=by cases UN p d<;>rfl
   rw [this]
theorem Zf {s:TA} (B:(s.2.1.map (·.1)).Nodup) (D:s.2.1.length<=1000) {L:TB} (v:VLev L) (next b:Int):loop (λ(g:(Int×(Int×((List (List TY))×((List Job)×Int)))))=>br (SW g.1 ((TJ 0 L.2).length:Int)) (λ_=>RX g.1 λm=>ix (TJ 0 L.2) m λt=>bd (UT (((g.2.1,g.2.2.1),t))) λc=>bd (loop (λ(f:Int×ff)=>br (SW f.1 (s.2.1.length:Int)) (λ_=>RX f.1 λo=>ix s.2.1 o λu=>RX g.1 λp=>ix (TJ 0 L.2) p λw=>br (RR u.1 w) (λ_=>RX g.1 λq=>ix (TJ 0 L.2) q λx=>br (RT x b) (λ_=>RX f.1 λr=>ix s.2.1 r λe=>some (.nx ((Rl .i64 f.1 1,(e.1,(e.2.1.1,(e.2.1.2.1,(e.2.1.2.2.1,(e.2.1.2.2.2.1,(e.2.1.2.2.2.2,(e.2.2.1.1,(e.2.2.1.2.1,(e.2.2.1.2.2,e.2.2.2))))))))))))) λ_=>some (.nx (Rl .i64 f.1 1,f.2))) λ_=>some (.nx (Rl .i64 f.1 1,f.2))) λ_=>some (.dn (((0:Nat),(f,()))))) (((0:Int),(c.1.1,(c.1.2.1.1,(c.1.2.1.2.1,(c.1.2.1.2.2.1,(c.1.2.1.2.2.2.1,(c.1.2.1.2.2.2.2,(c.1.2.2.1.1,(c.1.2.2.1.2.1,(c.1.2.2.1.2.2,c.1.2.2.2)))))))))))) λa=>gd (CD (BD g.2.2.2.1.length [((a.2.1.2.1,((a.2.1.2.2.1,(a.2.1.2.2.2.1,(a.2.1.2.2.2.2.1,(a.2.1.2.2.2.2.2.1,a.2.1.2.2.2.2.2.2.1)))),((a.2.1.2.2.2.2.2.2.2.1,(a.2.1.2.2.2.2.2.2.2.2.1,a.2.1.2.2.2.2.2.2.2.2.2.1)),a.2.1.2.2.2.2.2.2.2.2.2.2))):Job)].length) 1048576) λ_=>some (.nx ((Rl .i64 g.1 1,(g.2.1,(g.2.2.1,(Ik g.2.2.2.1 ([(a.2.1.2.1,((a.2.1.2.2.1,(a.2.1.2.2.2.1,(a.2.1.2.2.2.2.1,(a.2.1.2.2.2.2.2.1,a.2.1.2.2.2.2.2.2.1)))),((a.2.1.2.2.2.2.2.2.2.1,(a.2.1.2.2.2.2.2.2.2.2.1,a.2.1.2.2.2.2.2.2.2.2.2.1)),a.2.1.2.2.2.2.2.2.2.2.2.2)))]),g.2.2.2.2))))))) λ_=>some (.dn (((0:Nat),(g,()))))) (((0:Int),(L.1,(L.2,(([]:List Job),next)))))=some (0,((((TJ 0 L.2).length:Int),(L.1,(L.2,((TJ 0 L.2).map (WV s L b),next)))),())):=by
 have I:=v.len;have F:=VV L.2 0;refine Ub (l:=TJ 0 L.2) (σ:=List Job) (λi js=>((i:Int),(L.1,(L.2,(js,next))))) (λls i js=>js++ls.map (WV s L b)=(TJ 0 L.2).map (WV s L b)) (λ_ _ _=>(0,((((TJ 0 L.2).length:Int),(L.1,(L.2,((TJ 0 L.2).map (WV s L b),next)))),()))) [] rfl (by omega) rfl (λjs h => ?_) (λi d ls js A hi C h => ?_)
 ·simp only;rw [re,Rd,<- h];simp
 ·refine ⟨js++[WV s L b d],?_,by rw [<- h];simp,rfl⟩;obtain ⟨n,J,K,k,E⟩:=am (List.mem_of_getElem? hi);have y:=eU v (n:=n) (by rw [XW.1 E];rfl);rw [<- k] at y
  have G:js.length<=1000:=by
   have z:=congrArg List.length h;rw [List.length_append,List.length_map,List.length_map] at z;omega
  simp only;rw [rl C,R5,S9,Sb hi];have j:UT ((L.1,L.2),d)=some (WH L d,0):=y;rw [j,SL];refine TZ (fq B D L b hi) ?_;rw [Te (by simp only [BD,List.length_cons,List.length_nil];omega),TI (by omega)];rfl
end
section
open Go Go.Proofs.YtfilfloanndddaaGreat.Sv
theorem Y5 {α β σ S:Type} {l:List α} (c:Nat) (n:c<=1000) (mk:Nat->σ->S) (I:Nat->σ->Prop) (Q:β->Prop) {f:S->Option (LR S β)} {s:S} (a:σ) (i:s=mk 0 a) (hi:I 0 a)
  (p : ∀ k a,(k=l.length\/k=c)->k<=l.length->I k a -> ∃ r,f (mk k a)=some (.dn r)/\Q r)
  (hc : ∀ k x a,l[k]? = some x->k<c->I k a->(∃ b,f (mk k a)=some (.nx (mk (k+1) b))/\I (k+1) b) \/ ∃ r,f (mk k a)=some (.dn r)/\Q r) : ∃ r,loop f s=some r/\Q r:=by
 refine WK (l:=l.take c) mk (λ_ k a=>I k a/\k<=(l.take c).length) Q a i (by simp;omega) ⟨hi,by omega⟩ (λa h=>p _ a (by simp;omega) (by simp;omega) h.1) (λk x m a q e o h => ?_);have d:k<c:=by simp at o;omega
 have g:l[k]? = some x:=by rw [List.getElem?_take] at e;rw [if_pos d] at e;exact e
 rcases hc k x a g d h.1 with ⟨b,h1,j⟩ | h1
 ·exact .inl ⟨b,h1,j,by omega⟩
 ·exact .inr h1
theorem di {k c:Nat} (h:k<c):SW (k:Int) (c:Int)=true:=by unfold SW;simp;omega
theorem lh {α β:Type} {l:List α} {k c:Nat} (h:k=l.length\/k=c) (b:k<=l.length) (A B C:Option β) (e:B=C):br (SW (k:Int) (l.length:Int)) (λ_=>br (SW (k:Int) (c:Int)) (λ_=>A) λ_=>B) (λ_=>C)=C:=by
 rw [Sr];by_cases a:(k:Int)<(l.length:Int)
 ·rw [if_pos a,Sr,if_neg (by omega),e]
 ·rw [if_neg a]
end
section
open Go Go.Proofs.YtfilfloanndddaaGreat.Sv
end
section
open Go Go.Proofs.YtfilfloanndddaaGreat.Sv
theorem gX (L:TB) (n:Nat):Ws (L,(n:Int))=some (TG L.2 n):=by
 unfold Ws;simp only [TH,TF];rw [So];by_cases h:n<L.2.length
 ·rw [if_neg (by omega),S9,Sb (WE h)]
 ·rw [if_pos (by omega)];unfold TG;rw [List.getElem?_eq_none (by omega)];rfl
theorem Zu {s:TA} (v:VSt s) (hf:fe s.1) {n:Nat} {j:Job} (ha:JobAt s.1 n j) (h0 : ¬ 0<Tb s.1 j) (hc:Vq s.1 j=true) (h5:UR j≠[]->s.2.2<=1000000) {X:Int} (D:X=(Xp s j:Int)) :
  (bd (VE ((s.1,((n:Int),[])))) λp=>br (SU (Kb (AS j.2.2.2.1)) 0) (λ_=>bd (Ws (p,X)) λw=>gd (CD (AS w) 1048576) λ_=>gd (CD (BD (AS w) (AS ([(s.2.2,j.2.2.2.1)]))) 1048576) λ_=>bd (VE ((p,(X,Ik w ([(s.2.2,j.2.2.2.1)]))))) λy=>bd (UE y) λq=>bd (loop (λ(c:(Int×(Int×((List (List TY))×((List (Int×(TC×((Bool×TD)×((List S8)×Int)))))×Int)))))=>br (SW c.1 (Kb (AS q))) (λ_=>RX c.1 λE=>ix q E λY=>bd (UT (((c.2.1,c.2.2.1),Y))) λe=>bd (loop (λ(l:(Int×(Int×((List (List S8))×((List Int)×((List TD)×((List Int)×(Int×(Bool×((List UInt8)×(Bool×((List S8)×Int))))))))))))=>br (SW l.1 (Kb (AS s.2.1))) (λ_=>RX l.1 λG=>ix s.2.1 G λZ=>RX c.1 λI=>ix q I λx52=>br (RR Z.1 x52) (λ_=>RX c.1 λJ=>ix q J λx54=>br (RT x54 (n:Int)) (λ_=>RX l.1 λK=>ix s.2.1 K λg=>some (.nx ((Rl .i64 l.1 1,(g.1,(g.2.1.1,(g.2.1.2.1,(g.2.1.2.2.1,(g.2.1.2.2.2.1,(g.2.1.2.2.2.2,(g.2.2.1.1,(g.2.2.1.2.1,(g.2.2.1.2.2,g.2.2.2))))))))))))) λ_=>some (.nx (Rl .i64 l.1 1,l.2))) λ_=>some (.nx (Rl .i64 l.1 1,l.2))) λ_=>some (.dn ((0,(l,()))))) ((0,(e.1.1,(e.1.2.1.1,(e.1.2.1.2.1,(e.1.2.1.2.2.1,(e.1.2.1.2.2.2.1,(e.1.2.1.2.2.2.2,(e.1.2.2.1.1,(e.1.2.2.1.2.1,(e.1.2.2.1.2.2,e.1.2.2.2)))))))))))) λa=>gd (CD (BD (AS c.2.2.2.1) (AS ([(a.2.1.2.1,((a.2.1.2.2.1,(a.2.1.2.2.2.1,(a.2.1.2.2.2.2.1,(a.2.1.2.2.2.2.2.1,a.2.1.2.2.2.2.2.2.1)))),((a.2.1.2.2.2.2.2.2.2.1,(a.2.1.2.2.2.2.2.2.2.2.1,a.2.1.2.2.2.2.2.2.2.2.2.1)),a.2.1.2.2.2.2.2.2.2.2.2.2)))]))) 1048576) λ_=>some (.nx ((Rl .i64 c.1 1,(c.2.1,(c.2.2.1,(Ik c.2.2.2.1 ([(a.2.1.2.1,((a.2.1.2.2.1,(a.2.1.2.2.2.1,(a.2.1.2.2.2.2.1,(a.2.1.2.2.2.2.2.1,a.2.1.2.2.2.2.2.2.1)))),((a.2.1.2.2.2.2.2.2.2.1,(a.2.1.2.2.2.2.2.2.2.2.1,a.2.1.2.2.2.2.2.2.2.2.2.1)),a.2.1.2.2.2.2.2.2.2.2.2.2)))]),c.2.2.2.2))))))) λ_=>some (.dn ((0,(c,()))))) ((0,(y.1,(y.2,([],Rl .i64 s.2.2 1)))))) λz=>some ((((z.2.1.2.1,z.2.1.2.2.1),z.2.1.2.2.2),0))) λ_=>bd (UE p) λt=>bd (loop (λ(d:(Int×(Int×((List (List TY))×((List (Int×(TC×((Bool×TD)×((List S8)×Int)))))×Int)))))=>br (SW d.1 (Kb (AS t))) (λ_=>RX d.1 λN=>ix t N λx62=>bd (UT (((d.2.1,d.2.2.1),x62))) λf=>bd (loop (λ(m:(Int×(Int×((List (List S8))×((List Int)×((List TD)×((List Int)×(Int×(Bool×((List UInt8)×(Bool×((List S8)×Int))))))))))))=>br (SW m.1 (Kb (AS s.2.1))) (λ_=>RX m.1 λO=>ix s.2.1 O λx66=>RX d.1 λP=>ix t P λx68=>br (RR x66.1 x68) (λ_=>RX d.1 λS=>ix t S λx70=>br (RT x70 (n:Int)) (λ_=>RX m.1 λU=>ix s.2.1 U λk=>some (.nx ((Rl .i64 m.1 1,(k.1,(k.2.1.1,(k.2.1.2.1,(k.2.1.2.2.1,(k.2.1.2.2.2.1,(k.2.1.2.2.2.2,(k.2.2.1.1,(k.2.2.1.2.1,(k.2.2.1.2.2,k.2.2.2))))))))))))) λ_=>some (.nx (Rl .i64 m.1 1,m.2))) λ_=>some (.nx (Rl .i64 m.1 1,m.2))) λ_=>some (.dn ((0,(m,()))))) ((0,(f.1.1,(f.1.2.1.1,(f.1.2.1.2.1,(f.1.2.1.2.2.1,(f.1.2.1.2.2.2.1,(f.1.2.1.2.2.2.2,(f.1.2.2.1.1,(f.1.2.2.1.2.1,(f.1.2.2.1.2.2,f.1.2.2.2)))))))))))) λb=>gd (CD (BD (AS d.2.2.2.1) (AS ([(b.2.1.2.1,((b.2.1.2.2.1,(b.2.1.2.2.2.1,(b.2.1.2.2.2.2.1,(b.2.1.2.2.2.2.2.1,b.2.1.2.2.2.2.2.2.1)))),((b.2.1.2.2.2.2.2.2.2.1,(b.2.1.2.2.2.2.2.2.2.2.1,b.2.1.2.2.2.2.2.2.2.2.2.1)),b.2.1.2.2.2.2.2.2.2.2.2.2)))]))) 1048576) λ_=>some (.nx ((Rl .i64 d.1 1,(d.2.1,(d.2.2.1,(Ik d.2.2.2.1 ([(b.2.1.2.1,((b.2.1.2.2.1,(b.2.1.2.2.2.1,(b.2.1.2.2.2.2.1,(b.2.1.2.2.2.2.2.1,b.2.1.2.2.2.2.2.2.1)))),((b.2.1.2.2.2.2.2.2.2.1,(b.2.1.2.2.2.2.2.2.2.2.1,b.2.1.2.2.2.2.2.2.2.2.2.1)),b.2.1.2.2.2.2.2.2.2.2.2.2)))]),d.2.2.2.2))))))) λ_=>some (.dn ((0,(d,()))))) ((0,(p.1,(p.2,([],s.2.2)))))) λA=>some ((((A.2.1.2.1,A.2.1.2.2.1),A.2.1.2.2.2),0)):Option (TA×Int))=some (YJ s (VU s j) (Xa s j) j.1,0):=by
 have F:=dj v hf ha h0 hc h5;obtain ⟨o1,o2,W,o4,o5⟩:=ha.out v.lev (hf n);have hj:j.1.toNat=n:=by rw [W];simp
 have hn2:=v.n2;have hn1:=v.n1;have hjs:=v.jsmall;have o:=F.lev;have hl:=v.lev.len;have hl1:=F.l1.len;have small : ∀ {M:TB},VLev M -> ∀ i,(TG M.2 i).length<=1048576:=λvM i=>by have:=(vM.own i).1;omega
 rw [ba (by omega) (by omega) (by simp) (small v.lev),SL];simp only [TH,TF];rw [Sp];by_cases u:UR j=[]
 ·rw [if_neg (show ¬ ((j.2.2.2.1.length:Int)>0) by rw [show j.2.2.2.1=[] from u];simp)];have B:VU s j=US s.1 n []:=by unfold VU;rw [if_pos u,hj]
  have C:Xa s j=s.2.2:=by unfold Xa;rw [if_pos u]
  rw [<- B,ZW (by have:=o.len;omega),SL];refine TZ (Zf v.nodup (by omega) o s.2.2 (n:Int)) ?_;rw [C,W];rfl
 ·rw [if_pos (show ((j.2.2.2.1.length:Int)>0) by have:=List.length_pos_iff.2 u;have h:(UR j).length=j.2.2.2.1.length:=rfl;omega),D,gX,SL];have hro:=F.room u;have ht:=F.to12 u
  have B:VU s j=US (US s.1 n []) (Xp s j) (TG (US s.1 n []).2 (Xp s j)++[(s.2.2,UR j)]):=by
   unfold VU;rw [if_neg u,hj]
  have C:Xa s j=s.2.2+1:=by unfold Xa;rw [if_neg u]
  rw [Te (by omega),Te (by simp only [BD,List.length_cons,List.length_nil];omega)];have hW:=ba (L:=US s.1 n []) (n:=Xp s j) (r:=TG (US s.1 n []).2 (Xp s j)++[(s.2.2,UR j)]) (by omega) (by omega) (by simp;omega) (small F.l1);rw [<- B] at hW;refine TZ (x:=VU s j) hW ?_;rw [ZW (by have:=o.len;omega),SL,R9 (by omega)];refine TZ (Zf v.nodup (by omega) o (s.2.2+1) (n:Int)) ?_;rw [C,W];rfl
theorem bZ {s:TA} (m:Sm s) (l:fe s.1) (a:Int):WX (s,a)=some (Wf zS YV s a):=by
 unfold WX;rw [cV m,SL,YG m,an m];unfold Wf;by_cases b:(TE s).2=0;rotate_left
 ·rw [if_pos b,Ss,if_neg b,if_pos b];rfl
 rw [if_neg (show ¬ (TE s).2≠0 by simp [b]),if_neg (show ¬ (TE s).2≠0 by simp [b]),if_neg (show ¬ (TE s).2≠0 by simp [b])];have v:=TS.1 b;unfold Z5 Xf;rw [if_neg (show ¬ (TE s).2≠0 by simp [b])];cases q:Yu a 0 (TJ 0 s.1.2) with
 | none=>rfl
 | some i =>
  obtain ⟨j,n,o,p,f,k,r⟩:=v.at q;have:=v.lev.len;subst p;simp only [o];unfold YV ZA;by_cases c:0<Tb s.1 j
  ·rw [if_pos c,if_pos (.inl c)];rfl
  rw [if_neg c]
  have g:(if Vg s.1 j=true then (j.1,(0:Int)) else (j.1+1,0))=((Xp s j:Int),0):=by
   unfold Xp;split<;>rw [f]<;>simp
  rw [g,Ss,if_pos rfl,SL,S9,Sb o,SL,To,Sx];by_cases hc:Vq s.1 j=true;rotate_left
  ·rw [if_neg hc,if_pos (.inr (by simpa using hc))];rfl
  rw [if_pos hc,if_neg (show ¬ (0<Tb s.1 j\/Vq s.1 j=false) by rw [hc];simp;omega),Sp];by_cases e:s.2.2>1000000
  ·rw [if_pos e,Sp];by_cases d:UR j=[]
   ·rw [if_neg (show ¬ (Kb (AS j.2.2.2.1)>0) by rw [show j.2.2.2.1=[] from d];simp [TH,TF]),if_neg (by simp [d])];dsimp only;exact Zu v l k c hc (λh=>absurd d h) rfl
   ·rw [if_pos (show Kb (AS j.2.2.2.1)>0 by have:=List.length_pos_iff.2 d;have h:(UR j).length=j.2.2.2.1.length:=rfl;rw [TH,TF];omega),if_pos ⟨e,d⟩];rfl
  ·rw [if_neg e,if_neg (by simp [e])];dsimp only;exact Zu v l k c hc (λh=>by omega) rfl
theorem eR {s:TA} (m:Sm s) (f:fe s.1) (a:Int):Xw (s,a)=some (U2 s a):=by
 unfold Xw;rw [an m,SL,YP m,bZ m f];unfold Wf U2;by_cases b:(TE s).2=0;rotate_left
 ·rw [if_pos b,if_pos b,Sn,if_neg b];rw [Ss,if_neg b,if_pos b];rfl
 rw [if_neg (show ¬ (TE s).2≠0 by simp [b]),if_neg (show ¬ (TE s).2≠0 by simp [b]),if_neg (show ¬ (TE s).2≠0 by simp [b]),if_neg (show ¬ (TE s).2≠0 by simp [b])];have v:=TS.1 b;unfold Z5;cases e:Yu a 0 (TJ 0 s.1.2) with
 | none =>
  simp only;rw [Sn,if_neg (by omega),Ss,if_neg (by omega)];rfl
 | some i =>
  obtain ⟨j,n,d,k,g,h,l⟩:=v.at e;simp only [d];unfold XY;rw [Sn,if_pos rfl,To,Sx];by_cases hc:Vq s.1 j=true;rotate_left
  ·rw [if_neg hc,if_pos (by simpa using hc)];rfl
  rw [if_pos hc,if_neg (by simp [hc]),Ss,if_pos rfl,SL,Sp];by_cases c:0<Tb s.1 j
  ·rw [if_pos (show ((Tb s.1 j:Int))>0 by omega),if_pos c,eW m v e d c];rfl
  ·rw [if_neg (show ¬ ((Tb s.1 j:Int))>0 by omega),if_neg c];rfl
end
section
open Go Go.Proofs.YtfilfloanndddaaGreat.Sv
def UF (l:List S8) (k:W8):Option S8:=l.find? λx=>decide (x.1=k)
theorem UJ (x:S8) (l:List S8) (k:W8):UF (x::l) k=if x.1=k then some x else UF l k:=by
 unfold UF;rw [List.find?_cons];by_cases h:x.1=k<;>simp [h]
theorem Yv (l m:List S8) (k:W8):UF (l++m) k=(UF l k).or (UF m k):=by
 unfold UF;rw [List.find?_append]
theorem Xi (x:S8) (k:W8):UF [x] k=if x.1=k then some x else none:=by rw [UJ];rfl
theorem bK {l:List S8} {k:W8} {x:S8} (h:UF l k=some x):x.1=k/\x∈l:=by
 unfold UF at h;exact ⟨by simpa using List.find?_some h,List.mem_of_find?_eq_some h⟩
theorem Xh {l:List S8} {k:W8} (h : ∀ x∈l,x.1≠k):UF l k=none:=by
 unfold UF;rw [List.find?_eq_none];intro x a;simpa using h x a
theorem Yb : ∀ {l:List S8} {q:W8},Asc (some q) l -> ∀ x∈l,Rz q x.1=true
 | x::l,q,⟨a,b⟩,y,hy=>by
  rcases List.mem_cons.1 hy with e | hy
  ·rw [e];exact a q rfl
  ·exact WF (a q rfl) (Yb b y hy)
theorem dW : ∀ {l m:List S8} {p q:Option W8},Asc p l->Asc q m->(∀ k,UF l k=UF m k)->l=m
 | [],[],_,_,_,_,_=>rfl
 | [],y::m,_,_,_,_,h=>by
  have:=h y.1;rw [UJ,if_pos rfl] at this;cases this
 | x::l,[],_,_,_,_,h=>by
  have:=h x.1;rw [UJ,if_pos rfl] at this;cases this
 | x::l,y::m,p,q,⟨t,f⟩,⟨s,d⟩,h=>by
  have e1:=h x.1;have e2:=h y.1;rw [UJ,if_pos rfl,UJ] at e1;rw [UJ,UJ,if_pos rfl] at e2
  have g:x.1=y.1:=by
   by_cases b:y.1=x.1
   ·exact b.symm
   ·rw [if_neg b] at e1;rw [if_neg (λe=>b e.symm)] at e2;have n:=Yb d x (bK e1.symm).2;have j:=Yb f y (bK e2).2;rw [Ut n] at j;cases j
  rw [if_pos g.symm] at e1;have c:x=y:=Option.some.inj e1;subst c;refine congrArg (x::·) (dW f d λk => ?_);have b:=h k;rw [UJ,UJ] at b;by_cases a:x.1=k
  ·have o:UF l k=none:=Xh λz i=>by
    have:=Yb f z i;rw [a] at this;exact λe=>YH this e.symm
   have r:UF m k=none:=Xh λz i=>by
    have:=Yb d z i;rw [a] at this;exact λe=>YH this e.symm
   rw [o,r]
  ·rw [if_neg a,if_neg a] at b;exact b
theorem Ya (P:S8->Bool) : ∀ {l:List S8} {p:Option W8},Asc p l->Asc p (l.filter P)
 | [],_,_=>trivial
 | x::l,p,⟨b,d⟩=>by
  have c:=Ya P d;rw [List.filter_cons];cases P x with
  | true=>exact ⟨b,c⟩
  | false =>
   refine c.weak λe a=>⟨x.1,rfl,?_⟩;exact Ut (b e a)
theorem YB (P:S8->Bool) (k:W8) : ∀ {l:List S8} {p:Option W8},Asc p l->UF (l.filter P) k=(UF l k).filter P
 | [],_,_=>rfl
 | x::l,p,⟨h,c⟩=>by
  have d:=YB P k c;rw [List.filter_cons,UJ];by_cases a:x.1=k
  ·rw [if_pos a]
   have f:UF (l.filter P) k=none:=Xh λz g=>by
    have:=Yb c z (List.mem_filter.1 g).1;rw [a] at this;exact λe=>YH this e.symm
   cases b:P x with
   | true=>rw [if_pos rfl,UJ,if_pos a];simp [Option.filter,b]
   | false=>rw [if_neg (by simp),f];simp [Option.filter,b]
  ·rw [if_neg a];cases b:P x with
   | true=>rw [if_pos rfl,UJ,if_neg a];exact d
   | false=>simpa using d
def Vu:List S8->S8->List S8
 | [],x=>[x]
 | y::l,x=>if Rz y.1 x.1=true then y::Vu l x else if y.1=x.1 then y::l else x::y::l
theorem ax (x:S8) : ∀ {l:List S8} {p:Option W8},Asc p l->(∀ q,p=some q->Rz q x.1=true)->Asc p (Vu l x)
 | [],p,_,hp=>⟨hp,trivial⟩
 | y::l,p,⟨d,a⟩,hp=>by
  unfold Vu;by_cases h:Rz y.1 x.1=true
  ·rw [if_pos h];exact ⟨d,ax x a λq c=>by cases c;exact h⟩
  ·rw [if_neg h];by_cases b:y.1=x.1
   ·rw [if_pos b];exact ⟨d,a⟩
   ·rw [if_neg b];exact ⟨hp,λq c=>by cases c;exact Yl (by simpa using h) b,a⟩
theorem ay (x:S8) (k:W8) : ∀ {l:List S8} {p:Option W8},Asc p l->UF (Vu l x) k=(UF l k).or (if x.1=k then some x else none)
 | [],_,_=>by unfold Vu;rw [Xi];rfl
 | y::l,p,⟨f,d⟩=>by
  unfold Vu;by_cases h:Rz y.1 x.1=true
  ·rw [if_pos h,UJ,UJ,ay x k d];split<;>rfl
  ·rw [if_neg h];by_cases b:y.1=x.1
   ·rw [if_pos b,UJ,<- b];by_cases a:y.1=k
    ·rw [if_pos a];rfl
    ·rw [if_neg a,if_neg a];cases UF l k<;>rfl
   ·rw [if_neg b,UJ];have c:Rz x.1 y.1=true:=Yl (by simpa using h) b;by_cases a:x.1=k
    ·rw [if_pos a]
     have:UF (y::l) k=none:=Xh λz hz=>by
      rw [<- a];rcases List.mem_cons.1 hz with e | hz
      ·rw [e];exact b
      ·exact λe=>YH (WF c (Yb d z hz)) e.symm
     rw [this,if_pos a];rfl
    ·rw [if_neg a,if_neg a];cases UF (y::l) k<;>rfl
theorem dV (k:W8) : ∀ (r l:List S8),Asc none l->Asc none (r.foldl Vu l)/\UF (r.foldl Vu l) k=(UF l k).or (UF r k)
 | [],l,h=>⟨h,by show UF l k=_;cases UF l k<;>rfl⟩
 | x::r,l,h=>by
  obtain ⟨a,b⟩:=dV k r (Vu l x) (ax x h λ_ h=>by cases h);refine ⟨a,?_⟩;rw [List.foldl_cons,b,ay x k h,UJ,Option.or_assoc]
  congr 1
  split<;>rfl
def ZS (rs:List TY) (l:List S8):List S8:=rs.foldl (λout r=>r.2.foldl Vu out) l
def U8:List TY->W8->Option S8
 | [],_=>none
 | r::rs,k=>(UF r.2 k).or (U8 rs k)
theorem aW (k:W8) : ∀ (rs:List TY) (l:List S8),Asc none l->Asc none (ZS rs l)/\UF (ZS rs l) k=(UF l k).or (U8 rs k)
 | [],l,h=>⟨h,by show UF l k=_;cases UF l k<;>rfl⟩
 | r::rs,l,h=>by
  obtain ⟨a,b⟩:=dV k r.2 l h;obtain ⟨c,d⟩:=aW k rs (r.2.foldl Vu l) a;refine ⟨c,?_⟩;show UF (ZS rs (r.2.foldl Vu l)) k=_;rw [d,b,Option.or_assoc];rfl
def Uw (x:S8):Bool := !x.2.2.1
def K7 (L:TB):List S8:=(ZS (Tp L.2) []).filter Uw
theorem gB {L M:TB} (h : ∀ k,(U8 (Tp L.2) k).filter Uw=(U8 (Tp M.2) k).filter Uw):K7 L=K7 M:=by
 have a:=λk=>aW k (Tp L.2) [] trivial;have b:=λk=>aW k (Tp M.2) [] trivial;refine dW (Ya Uw (a []).1) (Ya Uw (b []).1) λk => ?_;show UF ((ZS (Tp L.2) []).filter Uw) k=UF ((ZS (Tp M.2) []).filter Uw) k;rw [YB Uw k (a []).1,YB Uw k (b []).1,(a k).2,(b k).2];exact h k
theorem bQ : ∀ (a b:List TY) (k:W8),U8 (a++b) k=(U8 a k).or (U8 b k)
 | [],b,k=>rfl
 | r::a,b,k=>by
  show (UF r.2 k).or (U8 (a++b) k)=((UF r.2 k).or (U8 a k)).or (U8 b k);rw [bQ a b k,Option.or_assoc]
theorem dw : ∀ {l:List S8} {s:UI} {k:W8},ZB s l->s.1=true->Rz k s.2.1=true->UF l k=none
 | [],_,_,_,_,_=>rfl
 | x::l,s,k,⟨_,c,d⟩,b,hk=>by
  have a:Rz k x.1=true:=bw hk (c b);rw [UJ,if_neg (λe=>YH a e.symm)];exact dw d rfl a
theorem bH (k:W8) : ∀ {l:List S8} {s:UI},ZB s l->UF (Vt s l) k=if s.1=true/\s.2.1=k then none else (UF l k).filter λx => !(s.2.2&&x.2.2.1)
 | [],s,_=>by unfold Vt;split<;>rfl
 | x::l,s,⟨_,g,c⟩=>by
  have f:=bH k c;simp only [true_and] at f;unfold Vt;rw [Yv,f,UJ];by_cases a:x.1=k
  ·rw [if_pos a,if_pos a];by_cases hs:s.1=true/\s.2.1=k
   ·rw [if_pos hs];have:keep s x=false:=by unfold keep;rw [hs.1,hs.2,a];simp
    rw [this];rfl
   ·rw [if_neg hs]
    have:keep s x = !(s.2.2&&x.2.2.1):=by
     unfold keep
     have:(s.1&&decide (x.1=s.2.1))=false:=by
      cases b:s.1 with
      | false=>rfl
      | true =>
       simp only [Bool.true_and,decide_eq_false_iff_not];intro e;exact hs ⟨b,by rw [<- e];exact a⟩
     rw [this];rfl
    rw [this];cases d:(!(s.2.2&&x.2.2.1)) with
    | true=>rw [if_pos rfl,Xi,if_pos a];simp [Option.filter,d]
    | false=>rw [if_neg (by simp)];simp [Option.filter,d,UF]
  ·rw [if_neg a,if_neg a]
   have b:UF (if keep s x=true then [x] else []) k=none:=by
    split
    ·rw [Xi,if_neg a]
    ·rfl
   rw [b,Option.none_or];by_cases hs:s.1=true/\s.2.1=k
   ·rw [if_pos hs]
    have h:Rz k x.1=true:=by
     rw [<- hs.2];refine Yl (g hs.1) λe=>a ?_;rw [e];exact hs.2
    rw [dw c rfl h];rfl
   ·rw [if_neg hs]
theorem Zp {a b:List S8} (va:VL a) (l:VL b) (k:W8) : ∀ {n:Nat},n<=a.length+b.length->UF (TU a b n) k=(UF (a.take (TM a b n).1) k).or (UF (b.take (TM a b n).2) k)
 | 0,_=>rfl
 | n+1,h=>by
  have G:=Zp va l k (n:=n) (by omega);obtain ⟨q,hs⟩:=V4 va l (n:=n) (by omega);obtain ⟨x,c,_⟩:=Va va l (n:=n) (by omega);rw [WY va l c,Yv,G,Xi];unfold ZQ at c;rw [show TM a b (n+1)=if XK a b (TM a b n).1 (TM a b n).2=true then ((TM a b n).1+1,(TM a b n).2) else ((TM a b n).1,(TM a b n).2+1) from rfl]
  revert c q;generalize (TM a b n).1=i;generalize (TM a b n).2=j;intro q c;cases g:XK a b i j with
  | true =>
   rw [if_pos g] at c;rw [if_pos rfl];simp only;rw [List.take_add_one,c,Option.toList_some,Yv,Xi,Option.or_assoc,Option.or_assoc]
   congr 1
   by_cases r:x.1=k
   ·rw [if_pos r]
    have:UF (b.take j) k=none:=Xh λy F=>by
     obtain ⟨m,o⟩:=List.getElem?_of_mem F;rw [List.getElem?_take] at o;split at o
     ·rename_i E;have D:=q.jb;have f:b[j-1]? = some b[j-1]:=List.getElem?_eq_getElem (by omega);have B:=q.pb (j-1) (by omega) _ x f c
      have C:Rz b[j-1].1 y.1=false:=by
       by_cases s:m=j-1
       ·subst s;rw [f] at o;cases o;exact W2 _
       ·have A:=l.asc
        have : ∀ d,m+d+1<=j-1 -> ∀ z,b[m+d+1]? = some z->Rz y.1 z.1=true:=by
         intro d
         induction d with
         | zero=>intro _ z t;exact l.lt o t
         | succ d u =>
          intro I z t;have p:b[m+d+1]? = some b[m+d+1]:=List.getElem?_eq_getElem (by omega);exact WF (u (by omega) _ p) (l.lt p t)
        exact Ut (this (j-1-m-1) (by omega) _ (by rw [show m+(j-1-m-1)+1=j-1 by omega];exact f))
      intro e;have w:Rz y.1 x.1=true:=Z1 C B;rw [e,r,W2] at w;cases w
     ·cases o
    rw [this];rfl
   ·rw [if_neg r];cases UF (b.take j) k<;>rfl
  | false =>
   rw [if_neg (show ¬ XK a b i j=true by rw [g];decide)] at c;rw [if_neg (show ¬ (false=true) by decide)];simp only;rw [List.take_add_one,c,Option.toList_some,Yv,Xi,Option.or_assoc]
theorem l7 {a b:List S8} (va:VL a) (e:VL b) (c:Bool) (k:W8):UF (U9 a b c (a.length+b.length)).2.2.1 k=((UF a k).or (UF b k)).filter λx => !(c&&x.2.2.1):=by
 have f:=W1 va e c (Nat.le_refl (a.length+b.length));obtain ⟨d,hs⟩:=V4 va e (Nat.le_refl (a.length+b.length));show UF (Vt (s0 c) (TU a b (a.length+b.length))) k=_;rw [bH k f,if_neg (by simp),Zp va e k (Nat.le_refl _)];rw [List.take_of_length_le (by have:=d.ia;have:=d.jb;omega),List.take_of_length_le (by have:=d.ia;have:=d.jb;omega)]
end
section
open Go Go.Proofs.YtfilfloanndddaaGreat.Sv
def Yz (f:Nat->Option S8):Nat->Nat->Option S8
 | _,0=>none
 | i,m+1=>(f i).or (Yz f (i+1) m)
theorem dk (f:Nat->Option S8) : ∀ (m i:Nat),Yz f (i+1) m=Yz (λj=>f (j+1)) i m
 | 0,_=>rfl
 | m+1,i=>by
  show (f (i+1)).or (Yz f (i+1+1) m)=(f (i+1)).or (Yz (λj=>f (j+1)) (i+1) m);rw [dk f m (i+1)]
theorem Xj {f g:Nat->Option S8} : ∀ (m i:Nat),(∀ j,i<=j->j<i+m->f j=g j)->Yz f i m=Yz g i m
 | 0,_,_=>rfl
 | m+1,i,h=>by
  show (f i).or (Yz f (i+1) m)=(g i).or (Yz g (i+1) m);rw [h i (by omega) (by omega),Xj m (i+1) λj a b=>h j (by omega) (by omega)]
theorem aj : ∀ (m i:Nat),Yz (λ_=>none) i m=none
 | 0,_=>rfl
 | m+1,i=>by show (none:Option S8).or _=_;rw [Option.none_or];exact aj m (i+1)
theorem Zl (f:Nat->Option S8) : ∀ (p i q:Nat),Yz f i (p+q)=(Yz f i p).or (Yz f (i+p) q)
 | 0,i,q=>by rw [Nat.zero_add];rfl
 | p+1,i,q=>by
  rw [show p+1+q=(p+q)+1 by omega];show (f i).or (Yz f (i+1) (p+q))=((f i).or (Yz f (i+1) p)).or (Yz f (i+(p+1)) q);rw [Zl f p (i+1) q,Option.or_assoc,show i+1+p=i+(p+1) by omega]
theorem ZK (k:W8) : ∀ (ls:List (List TY)) (K:Nat),ls.length<=K->U8 (Tp ls) k=Yz (λj=>U8 (TG ls j).reverse k) 0 K
 | [],K,_=>by
  have:(λj=>U8 (TG [] j).reverse k)=λ_=>none:=by
   funext j;have:TG [] j=[]:=rfl
   rw [this];rfl
  rw [this,aj];rfl
 | rs::ls,0,h=>by simp at h
 | rs::ls,K+1,h=>by
  have e:Tp (rs::ls)=rs.reverse++Tp ls:=rfl;rw [e,bQ,ZK k ls K (by simpa using h)];show _=(U8 (TG (rs::ls) 0).reverse k).or (Yz (λj=>U8 (TG (rs::ls) j).reverse k) (0+1) K);rw [dk];rfl
theorem eI {s:TA} (v:VSt s) (C:fe s.1) {n:Nat} {j:Job} (r:JobAt s.1 n j) (E : ¬ 0<Tb s.1 j) (hc:Vq s.1 j=true) (G:UR j≠[]->s.2.2<=1000000):K7 (VU s j)=K7 s.1:=by
 have F:=dj v C r E hc G;obtain ⟨W,X,L,Y,Z⟩:=r.out v.lev (C n);have d:j.1.toNat=n:=by rw [L];simp
 obtain ⟨b,c,q,m,B,f,P,t,M,N⟩:=r;have K:=XW.1 B
 have O:Tb s.1 j=c.2.length+b.2.length-m:=by
  rw [f];unfold Tb;simp only [Int.toNat_natCast,B];show c.2.length+b.2.length-((m:Int)).toNat=_;rw [Int.toNat_natCast]
 have u:m=c.2.length+b.2.length:=by omega
 subst u
 have p : ∀ k,UF (UR j) k=((UF c.2 k).or (UF b.2 k)).filter λx => !(q&&x.2.2.1):=λk=>by
  rw [f];exact l7 N M q k
 refine gB λk => ?_;have S:=F.lev.len;have U:=v.lev.len;rw [ZK k _ 14 (by omega),ZK k _ 14 (by omega)];rw [show 14=n+(1+(13-n)) by omega,Zl,Zl _ n 0];have w:Xp s j=n\/Xp s j=n+1:=by unfold Xp;rw [d];split<;>omega
 have l:Yz (λi=>U8 (TG (VU s j).2 i).reverse k) 0 n=Yz (λi=>U8 (TG s.1.2 i).reverse k) 0 n:=Xj _ _ λi _ hi=>by
  rw [Vl d,if_neg (by rintro ⟨_,h⟩;omega),if_neg (by omega)]
 rw [l];generalize Yz (λi=>U8 (TG s.1.2 i).reverse k) 0 n=A
 have y:Yz (λi=>U8 (TG (VU s j).2 i).reverse k) (0+n) (1+(13-n))=(UF (UR j) k).or (Yz (λi=>U8 (TG s.1.2 i).reverse k) (n+1) (13-n)):=by
  rw [Nat.zero_add,Nat.add_comm 1];show (U8 (TG (VU s j).2 n).reverse k).or (Yz (λi=>U8 (TG (VU s j).2 i).reverse k) (n+1) (13-n))=_;by_cases a:UR j=[]
  ·rw [Vl d,if_neg (by simp [a]),if_pos rfl,a];refine congrArg _ (Xj _ _ λi hi _ => ?_);rw [Vl d,if_neg (by simp [a]),if_neg (by omega)]
  ·rcases w with ht | ht
   ·rw [Vl d,if_pos ⟨a,ht.symm⟩,if_pos rfl]
    have e:U8 (([]:List TY)++[(s.2.2,UR j)]).reverse k=UF (UR j) k:=by
     show (UF (UR j) k).or none=_;cases UF (UR j) k<;>rfl
    rw [e];refine congrArg _ (Xj _ _ λi hi _ => ?_);rw [Vl d,if_neg (by rintro ⟨_,h⟩;omega),if_neg (by omega)]
   ·rw [Vl d,if_neg (by rintro ⟨_,h⟩;omega),if_pos rfl];have D:=F.to12 a;rw [show 13-n=(12-n)+1 by omega];show (none:Option S8).or ((U8 (TG (VU s j).2 (n+1)).reverse k).or (Yz _ (n+1+1) (12-n)))=(UF (UR j) k).or ((U8 (TG s.1.2 (n+1)).reverse k).or (Yz _ (n+1+1) (12-n)));rw [Vl d,if_pos ⟨a,ht.symm⟩,if_neg (by omega),List.reverse_append,Option.none_or];have e:U8 ([(s.2.2,UR j)].reverse++(TG s.1.2 (n+1)).reverse) k=(UF (UR j) k).or (U8 (TG s.1.2 (n+1)).reverse k):=rfl;rw [e,Option.or_assoc];refine congrArg _ (congrArg _ (Xj _ _ λi hi _ => ?_));rw [Vl d,if_neg (by rintro ⟨_,h⟩;omega),if_neg (by omega)]
 have o:Yz (λi=>U8 (TG s.1.2 i).reverse k) (0+n) (1+(13-n))=((UF c.2 k).or (UF b.2 k)).or (Yz (λi=>U8 (TG s.1.2 i).reverse k) (n+1) (13-n)):=by
  rw [Nat.zero_add,Nat.add_comm 1];show (U8 (TG s.1.2 n).reverse k).or _=_;rw [K];refine congrArg (λz=>Option.or z _) ?_;show (UF c.2 k).or ((UF b.2 k).or none)=_;cases UF b.2 k<;>rfl
 rw [y,o,p k];cases q with
 | false =>
  have:((UF c.2 k).or (UF b.2 k)).filter (λx => !(false&&x.2.2.1))=(UF c.2 k).or (UF b.2 k):=by
   cases (UF c.2 k).or (UF b.2 k)<;>simp [Option.filter]
  rw [this]
 | true =>
  have I:Yz (λi=>U8 (TG s.1.2 i).reverse k) (n+1) (13-n)=none:=by
   rw [Xj (g:=λ_=>none) _ _ λi hi _ => ?_,aj];have:TG s.1.2 i=[]:=by unfold TG;rw [List.getElem?_eq_none (by have:=t rfl;omega)];rfl
   rw [this];rfl
  rw [I];cases A with
  | some x=>rfl
  | none =>
   cases (UF c.2 k).or (UF b.2 k) with
   | none=>rfl
   | some x =>
    cases J:x.2.2.1<;>simp [Option.filter,Uw,J]
end
section
open Go Go.Proofs.YtfilfloanndddaaGreat.Sv
end
section
open Go Go.Proofs.YtfilfloanndddaaGreat.Sv
end
section
open Go Go.Proofs.YtfilfloanndddaaGreat.Sv
def UK (l:List TY):Nat:=(l.map λr=>r.2.length).sum
theorem V5 (r:TY) (l:List TY):UK (r::l)=r.2.length+UK l:=by simp [UK]
theorem U3 (l m:List TY):UK (l++m)=UK l+UK m:=by simp [UK]
theorem fu (l:List TY):UK l.reverse=UK l:=by simp [UK]
theorem ZU {l:List TY} (h : ∀ r∈l,r.2.length<=5000):UK l<=l.length*5000:=by
 induction l with
 | nil=>simp [UK]
 | cons r l b =>
  rw [V5,List.length_cons];have:=h r (by simp);have:=b λx a=>h x (by simp [a]);omega
theorem Yg : ∀ ls:List (List TY),UK (Tp ls)=UK ls.flatten/\(Tp ls).length=ls.flatten.length
 | []=>⟨rfl,rfl⟩
 | rs::ls=>by
  obtain ⟨a,b⟩:=Yg ls;have e:Tp (rs::ls)=rs.reverse++Tp ls:=rfl;rw [e,List.flatten_cons,U3,U3,fu,a];simp [b]
theorem cG {L:TB} (v:VLev L):L.2.flatten.length<=24/\UK L.2.flatten<=24*5000:=by
 have b:L.2.flatten.length<=24:=by
  have h:=XV L.2 v.two;have:=v.len;rw [(Yg L.2).2] at h;omega
 refine ⟨b,?_⟩
 have:=ZU (l:=L.2.flatten) λr a=>by
  obtain ⟨rs,c,d⟩:=List.mem_flatten.1 a;obtain ⟨i,hi⟩:=List.getElem?_of_mem c;exact ((v.lev i rs hi).2 r d).vl.len
 exact Nat.le_trans this (Nat.mul_le_mul_right _ b)
end
section
open Go Go.Proofs.YtfilfloanndddaaGreat.Sv
theorem Zc (x:S8) : ∀ l:List S8,(Vu l x).length<=l.length+1
 | []=>by unfold Vu;simp
 | y::l=>by
  unfold Vu;have:=Zc x l;split
  ·simp;omega
  ·split<;>simp
theorem aI {α:Type} (l:List α) (k:Nat):Dy l 0 k=l.take k:=by unfold Dy;simp
theorem aH {α:Type} (l:List α) (k:Nat):Dy l k l.length=l.drop k:=by
 unfold Dy;rw [List.take_of_length_le (by simp)]
theorem mZ (l:List S8) (x:S8) (E:l.length<=1000000):Wc (l,x)=some (Vu l x):=by
 unfold Wc;simp only [TH,TF]
 obtain ⟨r,B,C⟩:=WK (l:=l) (σ:=Unit) (λk _=>(k:Int)) (λm k _=>Vu l x=l.take k++Vu m x) (λ(r:Nat×(Int×Unit)) => ∃ k:Nat,r.2.1=(k:Int)/\k<=l.length/\Vu l x=l.take k++Vu (l.drop k) x /\ ∀ y,l[k]? = some y->Rz y.1 x.1=false)
  (f:=λs0=>br (SW s0 (l.length:Int)) (λ_=>RX s0 λA=>ix l A λD=>br (Rz D.1 x.1) (λ_=>some (.nx (Rl .i64 s0 1))) λ_=>some (.dn ((0,(s0,()))))) λ_=>some (.dn ((0,(s0,())))))
  (s:=(0:Int)) () rfl (by omega) rfl (λ_ h=>by
   refine ⟨(0,((l.length:Int),())),by rw [re];rfl,l.length,rfl,Nat.le_refl _,by rw [h];simp,λy j=>by simp at j⟩) (λk y m _ w b a h=>by
   rw [rl a,R5,S9,Sb b,Wg];unfold Vu at h;by_cases hs:Rz y.1 x.1=true
   ·rw [if_pos hs,TI (by omega)];rw [if_pos hs] at h;refine .inl ⟨(),rfl,?_⟩
    conv=>lhs;unfold Vu
    rw [h,List.take_add_one,b];simp
   ·rw [if_neg hs];refine .inr ⟨_,rfl,k,rfl,by omega,?_,λz t=>by rw [b] at t;cases t;simpa using hs⟩;rw [w]
    conv=>lhs;unfold Vu
    conv=>rhs;unfold Vu
    exact h)
 rw [B,SL];obtain ⟨k,e,a,q,j⟩:=C;have n : ∀ {β:Type} (c:Unit->Option β),gd (CD (l.take k).length 1048576) c=c ():=λc=>Te (by simp;omega) c;have o : ∀ {β:Type} (c:Unit->Option β),gd (CD (BD (l.take k).length [x].length) 1048576) c=c ():=λc=>Te (by simp [BD];omega) c;have p : ∀ {β:Type} (c:Unit->Option β),gd (CD (BD (Ik (l.take k) [x]).length (l.drop k).length) 1048576) c=c ():=λc=>Te (by simp [BD,Ik];omega) c;rw [e];by_cases h:k<l.length
 ·have b:l[k]? = some l[k]:=List.getElem?_eq_getElem h;have hs:=j _ b;have g:l.drop k=l[k]::l.drop (k+1):=List.drop_eq_getElem_cons h
  have u:Vu (l.drop k) x=if l[k].1=x.1 then l.drop k else x::l.drop k:=by
   rw [g]
   conv=>lhs;unfold Vu
   rw [if_neg (by rw [hs];simp)]
  rw [rl h,R5,S9,Sb b,Vp,q,u];by_cases d:l[k].1=x.1
  ·rw [if_pos d,if_pos d,List.take_append_drop]
  ·rw [if_neg d,if_neg d,S9,Te a,Te (by omega),aI,n,o,S9,Te (by omega),Te a,aH,p];unfold Ik;simp
 ·have i:k=l.length:=by omega
  subst i;rw [re,Rd,q,S9,Te a,Te (by omega),aI,n,o,S9,Te (by omega),Te a,aH,p];simp [Ik,Vu]
theorem ZF : ∀ (m l:List S8),(m.foldl Vu l).length<=l.length+m.length
 | [],l=>by simp
 | x::m,l=>by
  have a:=ZF m (Vu l x);have b:=Zc x l;simp only [List.foldl_cons,List.length_cons];omega
theorem Ze : ∀ (rs:List TY) (l:List S8),(ZS rs l).length<=l.length+UK rs
 | [],l=>by simp [ZS,UK]
 | r::rs,l=>by
  have a:=Ze rs (r.2.foldl Vu l);have b:=ZF r.2 l;rw [V5];show (ZS rs (r.2.foldl Vu l)).length<=_;omega
theorem ma {R:List TY} {i:Nat} {r:TY} (hi:R[i]? = some r) {out:List S8} (b:out.length+r.2.length<=500000):loop (λ(s2:TY)=>RX (i:Int) λd=>ix R d λj=>br (SW s2.1 (j.2.length:Int)) (λ_=>RX (i:Int) λe=>ix R e λm=>RX s2.1 λf=>ix m.2 f λn=>bd (Wc (s2.2,n)) λg=>some (.nx (Rl .i64 s2.1 1,g))) λ_=>some (.dn (((0:Nat),(s2,()))))) ((0:Int),out)=some (0,(((r.2.length:Int),r.2.foldl Vu out),())):=by
 refine Ub (l:=r.2) (σ:=List S8) (λk o=>((k:Int),o)) (λls _ o=>o.length+ls.length<=500000) (λls _ o=>(0,(((r.2.length:Int),ls.foldl Vu o),()))) out rfl (by omega) b (λo h => ?_) (λk x ls o p c a h => ?_)
 ·simp only;rw [S9,Sb hi,re];rfl
 ·have:=Zc x o;simp only [List.length_cons] at h;refine ⟨Vu o x,?_,by omega,rfl⟩;simp only;rw [S9,Sb hi,rl a,R5,S9,Sb hi,S9,Sb c,mZ _ _ (by omega),SL,TI (by omega)]
theorem fj {L:TB} (v:VLev L):VH L=some (K7 L):=by
 obtain ⟨p,q⟩:=cG v;obtain ⟨m,n⟩:=Yg L.2;unfold VH;simp only [TH,TF];rw [Zw v,SL];refine TZ (Ub (l:=Tp L.2) (σ:=List S8) (s:=(([]:List S8),(0:Int))) (λi o=>(o,(i:Int))) (λls _ o=>o.length+UK ls<=500000) (λls _ o=>(0,((ZS ls o,((Tp L.2).length:Int)),()))) [] rfl (by omega) (by simp;omega) (λo h => ?_) (λi r ls o j hi c h => ?_)) ?_
 ·simp only;rw [re];rfl
 ·rw [V5] at h;have b:=ZF r.2 o;refine ⟨r.2.foldl Vu o,?_,by omega,rfl⟩;simp only;rw [rl c,R5];refine TZ (ma hi (by omega)) ?_;rw [TI (by omega)]
 ·have a:=Ze (Tp L.2) [];simp only [List.length_nil,Nat.zero_add] at a;dsimp only;generalize f:ZS (Tp L.2) []=A at a;have g:K7 L=A.filter Uw:=by unfold K7;rw [f]
  rw [g];refine TZ (Ub (l:=A) (σ:=List S8) (s:=((0:Int),([]:List S8))) (λk o=>((k:Int),o)) (λls k o=>o.length<=k/\o++ls.filter Uw=A.filter Uw) (λ_ _ _=>(0,(((A.length:Int),A.filter Uw),()))) [] rfl (by omega) ⟨by simp,rfl⟩ (λo h => ?_) (λk x ls o j e c h => ?_)) rfl
  ·simp only;rw [re,Rd,<- h.2];simp
  ·obtain ⟨t,b⟩:=h;rw [List.filter_cons] at b;simp only;rw [rl c,R5,S9,Sb e];cases d:x.2.2.1 with
   | true =>
    have:Uw x=false:=by unfold Uw;rw [d];rfl
    rw [this] at b;refine ⟨o,?_,⟨by omega,by simpa using b⟩,trivial⟩;rw [aX,Rd,TI (by omega)]
   | false =>
    have:Uw x=true:=by unfold Uw;rw [d];rfl
    rw [this] at b;refine ⟨o++[x],?_,⟨by simp;omega,by simpa using b⟩,trivial⟩;rw [mc,R5,S9,Sb e,Te (by simp [BD];omega),TI (by omega)];rfl
end
section
open Go Go.Proofs.YtfilfloanndddaaGreat.Sv
end
section
open Go Go.Proofs.YtfilfloanndddaaGreat.Sv
end
section
open Go Go.Proofs.YtfilfloanndddaaGreat.Sv
end
section
open Go Go.Proofs.YtfilfloanndddaaGreat.Sv
end
section
open Go Go.Proofs.YtfilfloanndddaaGreat.Sv
def Gd (s0 s:TA):Prop:=VSt s/\K7 s.1=K7 s0.1/\UK s.1.2.flatten<=2000
theorem ld {l:List TY} {r:TY} (h:r∈l):r.2.length<=UK l:=by
 induction l with
 | nil=>cases h
 | cons x l a =>
  rw [V5];rcases List.mem_cons.1 h with e | h
  ·rw [e];omega
  ·have:=a h;omega
theorem Ys {L:TB} (h:UK L.2.flatten<=2000):fe L:=λi r a=>by
 have:=ld (Zo.2 ⟨i,a⟩);omega
theorem bC {s:TA} (v:VSt s) (h:fe s.1) {n:Nat} {j:Job} (g:JobAt s.1 n j) (E : ¬ 0<Tb s.1 j):UK (VU s j).2.flatten<=UK s.1.2.flatten:=by
 obtain ⟨G,I,y,J,K⟩:=g.out v.lev (h n);have w:j.1.toNat=n:=by rw [y];simp
 have a:=h n;obtain ⟨d,e,m,k,u,c,x,F,B,C⟩:=g;have i:=XW.1 u;rw [i] at a;have D:=a d (by simp);have f:=a e (by simp)
 have l:(UR j).length<=e.2.length+d.2.length:=by
  rw [c];exact (gK C B m x (by omega)).2
 obtain ⟨p,q,f,o⟩:=XJ s.1 n []
 have e1:UK s.1.2.flatten=UK p+((d.2.length+e.2.length)+UK q):=by
  rw [f,i,U3,U3,V5,V5];simp [UK]
 have e2:UK (US s.1 n []).2.flatten=UK p+UK q:=by rw [o,U3,U3];simp [UK]
 unfold VU;rw [w];by_cases b:UR j=[]
 ·rw [if_pos b];omega
 ·rw [if_neg b];obtain ⟨z,A,r,t⟩:=XJ (US s.1 n []) (Xp s j) (TG (US s.1 n []).2 (Xp s j)++[(s.2.2,UR j)]);have e3:UK (US s.1 n []).2.flatten=UK z+(UK (TG (US s.1 n []).2 (Xp s j))+UK A):=by rw [r,U3,U3]
  rw [t,U3,U3,U3,V5];simp only [UK,List.map_nil,List.sum_nil];simp only [UK] at e3 e2 e1;omega
theorem db {s:TA} (v:VSt s) {d:Int} (h:d∈TJ 0 s.1.2) : ∃ (i:Nat) (j:Job) (n:Nat),Yu d 0 (TJ 0 s.1.2)=some i/\s.2.1[i]? = some j/\d=(n:Int)/\j.1=(n:Int)/\JobAt s.1 n j:=by
 obtain ⟨i,hi⟩:=ac (k:=0) h;obtain ⟨j,n,a,b,c,d,_⟩:=v.at hi;exact ⟨i,j,n,hi,a,b,c,d⟩
theorem eF {s0 s:TA} (g:Gd s0 s) {d:Int} (h:d∈TJ 0 s.1.2) : ∃ (c:Bool) (t:TA) (b:Bool) (e:Int),W3 (s,d)=some (c,0)/\Tj (s,d)=some (t,(b,e))/\(s.2.2<=1000000->c=decide (e=0))/\(e=0->Gd s0 t):=by
 obtain ⟨v,z,hc⟩:=g;have r:=Ys hc;have m:=v.sm;obtain ⟨i,j,n,hi,y,C,w,q⟩:=db v h;have A:(TE s).2=0:=TS.2 v;have o:Z5 s d=some j:=by unfold Z5;rw [hi];exact y
 have p:W3 (s,d)=some (Vq s.1 j,0):=by
  rw [mX m];unfold Wf;rw [if_neg (by simp [A]),o]
 have k:Tj (s,d)=some (XY s j):=by
  rw [aV m r];unfold U2;rw [if_neg (by simp [A]),o]
 refine ⟨Vq s.1 j,(XY s j).1,(XY s j).2.1,(XY s j).2.2,p,k,?_⟩;unfold XY;by_cases l:Vq s.1 j=false
 ·rw [if_pos l,l];exact ⟨λ_=>by simp,λh=>by cases h⟩
 have a:Vq s.1 j=true:=by simpa using l
 rw [if_neg l];by_cases f:0<Tb s.1 j
 ·rw [if_pos f];refine ⟨λ_=>by simp [a],λ_=>⟨gR v (by rw [w,<- C];exact hi) y q f,z,hc⟩⟩
 rw [if_neg f];unfold YV;rw [if_neg (λh=>h.elim f l)];by_cases u:s.2.2>1000000/\UR j≠[]
 ·rw [if_pos u];exact ⟨λh=>by omega,λh=>by cases h⟩
 rw [if_neg u]
 have x:UR j≠[]->s.2.2<=1000000:=λD=>by
  by_cases B:s.2.2>1000000
  ·exact absurd ⟨B,D⟩ u
  ·omega
 refine ⟨λ_=>by simp [a],λ_=>⟨fy v r q f a x,?_,?_⟩⟩
 ·exact (eI v r q f a x).trans z
 ·have:=bC v r q f;show UK (VU s j).2.flatten<=2000;omega
theorem ab : ∀ {ls:List (List TY)} {i n:Nat},(TG ls n).length=2->((i+n:Nat):Int)∈TJ i ls
 | [],i,n,h=>by simp [TG] at h
 | rs::ls,i,0,h=>by
  have h':rs.length=2:=h;rw [Xt,if_pos h'];simp
 | rs::ls,i,n+1,h=>by
  rw [Xt];refine List.mem_append_right _ ?_;have:=ab (ls:=ls) (i:=i+1) (n:=n) h
  rwa [show i+1+n=i+(n+1) by omega] at this
end
section
open Go Go.Proofs.YtfilfloanndddaaGreat.Sv
def YI (f:Nat->Nat):Nat->Nat
 | 0=>0
 | m+1=>YI f m+f m
theorem cf {f g:Nat->Nat} : ∀ {m:Nat},(∀ i,i<m->g i<=f i)->YI g m<=YI f m
 | 0,_=>Nat.le_refl _
 | m+1,h=>Nat.add_le_add (cf λi hi=>h i (by omega)) (h m (by omega))
theorem Z4 {f g:Nat->Nat} {n:Nat} (a:g n+1<=f n) : ∀ {m:Nat},n<m->(∀ i,i<m->i≠n->g i<=f i)->YI g m+1<=YI f m
 | 0,h,_=>absurd h (by omega)
 | m+1,h,ho=>by
  unfold YI;by_cases e:n=m
  ·subst e;have:=cf (f:=f) (g:=g) (m:=n) λi hi=>ho i (by omega) (by omega);omega
  ·have:=Z4 a (m:=m) (by omega) λi hi=>ho i (by omega);have:=ho m (by omega) (λh=>e h.symm);omega
theorem aU {f g:Nat->Nat} {n:Nat} (a:g n+g (n+1)+1<=f n+f (n+1)) : ∀ {m:Nat},n+1<m->(∀ i,i<m->i≠n->i≠n+1->g i<=f i)->YI g m+1<=YI f m
 | 0,h,_=>absurd h (by omega)
 | m+1,h,ho=>by
  unfold YI;by_cases e:n+1=m
  ·subst e;have:=cf (f:=f) (g:=g) (m:=n) λi hi=>ho i (by omega) (by omega) (by omega);unfold YI;omega
  ·have:=aU a (m:=m) (by omega) λi hi=>ho i (by omega);have:=ho m (by omega) (by omega) (by omega);omega
theorem YL : ∀ {js:List Job} {j:Job},(js.map (·.1)).Nodup->j∈js->UN js j.1=some j
 | [],_,_,h=>by cases h
 | i::js,j,hn,h=>by
  rw [List.map_cons,List.nodup_cons] at hn;unfold UN;rw [List.find?_cons];unfold af;rw [VZ];rcases List.mem_cons.1 h with e | h
  ·subst e;simp
  ·have a : ¬ j.1=i.1:=λe=>hn.1 (by rw [<- e];exact List.mem_map_of_mem h);rw [decide_eq_false a];exact YL hn.2 h
theorem aF : ∀ {js:List Job} {i:Nat} {j:Job} (w:XG) (d:Int),(js.map (·.1)).Nodup->js[i]? = some j->UN (js.set i (j.1,w)) d=if d=j.1 then some (j.1,w) else UN js d
 | [],i,j,w,d,_,h=>by simp at h
 | x::js,0,j,w,d,hn,h=>by
  have e:x=j:=by simpa using h
  subst e;unfold UN;rw [List.set_cons_zero,List.find?_cons,List.find?_cons];unfold af;rw [VZ];by_cases e:d=x.1<;>simp [e]
 | x::js,i+1,j,w,d,hn,h=>by
  rw [List.map_cons,List.nodup_cons] at hn;have h':js[i]? = some j:=by simpa using h
  have b:=aF w d hn.2 h';unfold UN at b ⊢;rw [List.set_cons_succ,List.find?_cons,List.find?_cons,b];have c:af d x=decide (d=x.1):=VZ _ _;rw [c];by_cases e:d=x.1
  ·have a : ¬ d=j.1:=λe2=>hn.1 (by rw [<- e,e2];exact List.mem_map_of_mem (List.mem_of_getElem? h'));rw [decide_eq_true e];simp only [a,if_false]
  ·rw [decide_eq_false e]
theorem VSt.noJob {s:TA} (v:VSt s) {i:Nat} (h:(TG s.1.2 i).length≠2):UN s.2.1 (i:Int)=none:=by
 refine Xy λa=>h ?_;rw [v.due] at a;obtain ⟨n,c,d,e,b⟩:=am a;have:i=n:=by omega
 rw [this,XW.1 b];rfl
theorem VSt.hasJob {s:TA} (v:VSt s) {i:Nat} (h:(TG s.1.2 i).length=2) : ∃ j,UN s.2.1 (i:Int)=some j:=by
 have a:=ab (i:=0) h;rw [Nat.zero_add,<- v.due] at a;obtain ⟨j,b,e⟩:=List.mem_map.1 a;exact ⟨j,by rw [<- e];exact YL v.nodup b⟩
theorem mb {s:TA} (v:VSt s) (d:Int):Z5 s d=UN s.2.1 d:=by
 by_cases h:d∈TJ 0 s.1.2
 ·obtain ⟨j,n,a,b,c,_⟩:=v.atDue h;rw [a,b,<- c];refine (YL v.nodup ?_).symm;unfold Z5 at a;split at a
  ·exact List.mem_of_getElem? a
  ·cases a
 ·rw [Xy (by rw [v.due];exact h)];unfold Z5;split
  ·rename_i i hi;have:=(cI hi).2;exact absurd (List.mem_of_getElem? this) h
  ·rfl
def mU (j:Job):Nat:=j.2.2.2.2.toNat
theorem JobAt.rd {L:TB} {n:Nat} {j:Job} (h:JobAt L n j) : ∃ a b,TG L.2 n=[a,b]/\mU j<=b.2.length+a.2.length/\Tb L j=b.2.length+a.2.length-mU j/\(0<Tb L j->mU (j.1,X7 L j)=mU j+1):=by
 obtain ⟨a,b,c,k,d,rfl,f,g,i,l⟩:=h;have e:=XW.1 d;have e1:(U9 b.2 a.2 c k).2.1.2.2=c:=ZZ _ _ _ _;have e2:(U9 b.2 a.2 c k).2.2.2.toNat=k:=by show ((k:Int)).toNat=k;rw [Int.toNat_natCast]
 refine ⟨a,b,e,?_,?_,λ_ => ?_⟩
 ·show (U9 b.2 a.2 c k).2.2.2.toNat<=_;rw [e2];exact f
 ·unfold Tb mU;simp only [Int.toNat_natCast,d]
 ·show (X7 L ((n:Int),U9 b.2 a.2 c k)).2.2.2.toNat=(U9 b.2 a.2 c k).2.2.2.toNat+1;unfold X7;simp only [Int.toNat_natCast,e];rw [e1,e2];show (((k+1:Nat):Int)).toNat=_;rw [Int.toNat_natCast]
structure StepF (s:TA) (n:Nat) (j:Job) (t:TA) (b:Bool):Prop where
 job:UN s.2.1 (n:Int)=some j
 read:0<Tb s.1 j->b=false/\t.1=s.1/\t.2.2=s.2.2 /\ ∀ i:Nat,UN t.2.1 (i:Int)=if i=n then some (j.1,X7 s.1 j) else UN s.2.1 (i:Int)
 inst:Tb s.1 j=0->b=true/\t.1=VU s j/\t.2.2=Xa s j/\(∀ i,(TG t.1.2 i)=if UR j≠[]/\i=Xp s j then (if i=n then [] else TG s.1.2 i)++[(s.2.2,UR j)] else if i=n then [] else TG s.1.2 i)/\(Xp s j=n\/Xp s j=n+1/\n+1<12/\(UR j≠[]->(TG s.1.2 (n+1)).length<2)) /\
  ∀ i:Nat,UN t.2.1 (i:Int)=if (TG t.1.2 i).length=2 then some ((if i=n then none else UN s.2.1 (i:Int)).getD (WH t.1 (i:Int))) else none
theorem cd {s0 s:TA} (g:Gd s0 s) {d:Int} (h:d∈TJ 0 s.1.2) (e:(U2 s d).2.2=0) : ∃ (n:Nat) (j:Job),d=(n:Int)/\n<12/\JobAt s.1 n j/\Vq s.1 j=true/\StepF s n j (U2 s d).1 (U2 s d).2.1/\Gd s0 (U2 s d).1:=by
 obtain ⟨v,Z,hc⟩:=g;have X:=Ys hc;have m:=v.sm;obtain ⟨c,t,b,er,_,K,_,Y⟩:=eF ⟨v,Z,hc⟩ h;rw [aV m X] at K;have w:=Option.some.inj K;obtain ⟨i,j,n,hi,U,D,u,S⟩:=db v h;have hz:(TE s).2=0:=TS.2 v;have C:Z5 s d=some j:=by unfold Z5;rw [hi];exact U
 have hn:n<12:=by
  have:=v.lev.len;obtain ⟨_,_,_,_,W,_⟩:=S;have:=(List.getElem?_eq_some_iff.1 W).1;omega
 have F:UN s.2.1 (n:Int)=some j:=by rw [<- D,<- mb v,C]
 have hS:U2 s d=XY s j:=by unfold U2;rw [if_neg (by simp [hz]),C]
 have A:Gd s0 (U2 s d).1:=by rw [w];exact Y (by rw [<- e,w])
 have k:=A.1;rw [hS] at e k A ⊢;refine ⟨n,j,D,hn,S,?_,⟨F,λO => ?_,λO => ?_⟩,A⟩
 ·unfold XY at e;by_cases a:Vq s.1 j=false
  ·rw [if_pos a] at e;cases e
  ·simpa using a
 ·unfold XY at e ⊢;have a : ¬ Vq s.1 j=false:=λa=>by rw [if_pos a] at e;cases e
  rw [if_neg a,if_pos O];refine ⟨rfl,rfl,rfl,λo => ?_⟩;show UN (Y7 s j).2.1 _=_;unfold Y7;rw [u,<- D,hi,Option.getD_some];show UN (s.2.1.set i (d,X7 s.1 j)) _=_;have:=aF (X7 s.1 j) (o:Int) v.nodup U;rw [u,<- D] at this;rw [this,D];by_cases p:o=n
  ·rw [if_pos (by rw [p]),if_pos p]
  ·rw [if_neg (by omega),if_neg p]
 ·unfold XY at e k ⊢;have a : ¬ Vq s.1 j=false:=λa=>by rw [if_pos a] at e;cases e
  have q:Vq s.1 j=true:=by simpa using a
  have z : ¬ 0<Tb s.1 j:=by omega
  rw [if_neg a,if_neg z] at e k ⊢;unfold YV at e k ⊢;rw [if_neg (λh=>h.elim z a)] at e k ⊢;by_cases P:s.2.2>1000000/\UR j≠[]
  ·rw [if_pos P] at e;cases e
  rw [if_neg P] at e k ⊢;have B:j.1.toNat=n:=by rw [u];simp
  have I : ∀ i,TG (VU s j).2 i=_:=λi=>Vl (s:=s) (j:=j) B i;refine ⟨rfl,rfl,rfl,I,?_,λo => ?_⟩
  ·unfold Xp;rw [B];by_cases hs:Vg s.1 j=true
   ·rw [if_pos hs];exact .inl rfl
   ·rw [if_neg hs]
    have hr:YX s.1 (n+1)=true:=by
     unfold Vq at q;rw [B] at q;simpa [hs,z] using q
    have J:=of_decide_eq_true hr;exact .inr ⟨rfl,J.1,λ_=>J.2⟩
  ·have r:VSt (YJ s (VU s j) (Xa s j) j.1):=k;show UN (YJ s (VU s j) (Xa s j) j.1).2.1 (o:Int)=if (TG (VU s j).2 o).length=2 then some ((if o=n then none else UN s.2.1 (o:Int)).getD (WH (VU s j) (o:Int))) else none
   have ho:(TG (YJ s (VU s j) (Xa s j) j.1).1.2 o)=TG (VU s j).2 o:=rfl;by_cases L:(TG (VU s j).2 o).length=2
   ·rw [if_pos L];have N:=ab (i:=0) L;rw [Nat.zero_add] at N;have G:WV s (VU s j) j.1 (o:Int)∈(YJ s (VU s j) (Xa s j) j.1).2.1:=List.mem_map_of_mem N
    have E:(WV s (VU s j) j.1 (o:Int)).1=(o:Int):=by
     have M:(TJ 0 (VU s j).2).map (λd=>(WV s (VU s j) j.1 d).1)=TJ 0 (VU s j).2:=by
      have:=r.due;simpa [YJ,List.map_map,Function.comp_def] using this
     have key : ∀ {l:List Int} {f:Int->Int},l.map f=l -> ∀ x∈l,f x=x:=by
      intro l f
      induction l with
      | nil=>intro _ x hx;cases hx
      | cons y l ih =>
       intro h x hx;rw [List.map_cons] at h;obtain ⟨k1,k2⟩:=List.cons.inj h;rcases List.mem_cons.1 hx with rfl | hx
       ·exact k1
       ·exact ih k2 x hx
     exact key M _ N
    have:=YL r.nodup G;rw [E] at this;rw [this];unfold WV;rw [u];by_cases p:o=n
    ·rw [if_pos (by omega),if_pos p]
    ·rw [if_neg (by omega),if_neg p]
   ·rw [if_neg L];exact r.noJob (by rw [ho];exact L)
end
section
open Go Go.Proofs.YtfilfloanndddaaGreat.Sv
def lY (s:TA) (i:Nat):Nat:=match UN s.2.1 (i:Int) with
 | some j=>mU j
 | none=>0
def cA (N:Nat) (s:TA) (i:Nat):Nat:=(TG s.1.2 i).length*(N+1)-lY s i
def l9 (N:Nat) (s:TA):Nat:=YI (cA N s) 12
theorem lg {L:TB} {n:Nat} {a b:TY} (h:TG L.2 n=[a,b]):a.2.length+b.2.length<=UK L.2.flatten:=by
 obtain ⟨p,q,c,_⟩:=XJ L n [];rw [c,h,U3,U3,V5,V5];omega
theorem VSt.rd0 {s:TA} (v:VSt s) {i:Nat} (h:(TG s.1.2 i).length≠2):lY s i=0:=by
 unfold lY;rw [v.noJob h]
theorem gL {N:Nat} {s t:TA} {n:Nat} {j:Job} {b:Bool} (v:VSt s) (B:UK s.1.2.flatten<=N) (r:n<12) (y:JobAt s.1 n j) (F:StepF s n j t b):l9 N t+1<=l9 N s:=by
 obtain ⟨E,G,l,C,D,z⟩:=y.rd;have hc:=lg l
 have hs:cA N s n=2*(N+1)-mU j:=by
  unfold cA lY;rw [F.job,l];rfl
 by_cases p:0<Tb s.1 j
 ·obtain ⟨_,e1,_,e2⟩:=F.read p;refine Z4 (n:=n) ?_ r λi _ a => ?_
  ·have m:cA N t n=2*(N+1)-(mU j+1):=by
    unfold cA lY;rw [e2,if_pos rfl,e1,l,<- z p];rfl
   omega
  ·unfold cA lY;rw [e2,if_neg a,e1];exact Nat.le_refl _
 ·obtain ⟨_,e1,_,e2,e3,o⟩:=F.inst (by omega)
  have d : ∀ i,i≠n -> ¬ (UR j≠[]/\i=Xp s j)->cA N t i<=cA N s i:=λi a hit=>by
   have e:TG t.1.2 i=TG s.1.2 i:=by rw [e2,if_neg hit,if_neg a]
   have c:lY t i=lY s i:=by
    by_cases c:(TG s.1.2 i).length=2
    ·obtain ⟨j',k⟩:=v.hasJob c;unfold lY;rw [o,e,if_pos c,if_neg a,k];rfl
    ·rw [v.rd0 c];unfold lY;rw [o,e,if_neg c]
   unfold cA;rw [e,c];exact Nat.le_refl _
  by_cases m:UR j≠[]/\Xp s j≠n
  ·obtain ⟨q,u⟩:=m;rcases e3 with e3 | ⟨e3,f,c⟩
   ·exact absurd e3 u
   have c:=c q;refine aU (n:=n) ?_ f λi _ a g=>d i a (by rw [e3];exact λh=>g h.2)
   have w:cA N t n=0:=by
    unfold cA;rw [e2,if_neg (by rw [e3];omega),if_pos rfl];simp
   have x:cA N t (n+1)<=((TG s.1.2 (n+1)).length+1)*(N+1):=by
    unfold cA;rw [e2,if_pos ⟨q,e3.symm⟩,if_neg (by omega),List.length_append];exact Nat.sub_le _ _
   have A:cA N s (n+1)=(TG s.1.2 (n+1)).length*(N+1):=by
    unfold cA;rw [v.rd0 (by omega)];rfl
   rw [Nat.add_mul] at x;omega
  ·refine Z4 (n:=n) ?_ r λi _ a=>d i a (λh=>m ⟨h.1,by rw [<- h.2];exact a⟩)
   have w:cA N t n<=1*(N+1):=by
    refine Nat.le_trans (Nat.sub_le _ _) (Nat.mul_le_mul_right _ ?_);rw [e2,if_pos rfl];split<;>simp
   omega
end
section
open Go Go.Proofs.YtfilfloanndddaaGreat.Sv
set_option linter.unusedVariables false
abbrev W9:=(Int×(Int×(Int×fc)))
def Yc (a:fc) (k l:Nat):fc :=
 (Sw (neq l 0) (Rl .i64 (OO [a.1,a.2.1,a.2.2.1,a.2.2.2.1,a.2.2.2.2.1,a.2.2.2.2.2.1,a.2.2.2.2.2.2.1,a.2.2.2.2.2.2.2.1,a.2.2.2.2.2.2.2.2.1,a.2.2.2.2.2.2.2.2.2.1,a.2.2.2.2.2.2.2.2.2.2.1,a.2.2.2.2.2.2.2.2.2.2.2] k) 1) a.1,(Sw (neq l 1) (Rl .i64 (OO [a.1,a.2.1,a.2.2.1,a.2.2.2.1,a.2.2.2.2.1,a.2.2.2.2.2.1,a.2.2.2.2.2.2.1,a.2.2.2.2.2.2.2.1,a.2.2.2.2.2.2.2.2.1,a.2.2.2.2.2.2.2.2.2.1,a.2.2.2.2.2.2.2.2.2.2.1,a.2.2.2.2.2.2.2.2.2.2.2] k) 1) a.2.1,(Sw (neq l 2) (Rl .i64 (OO [a.1,a.2.1,a.2.2.1,a.2.2.2.1,a.2.2.2.2.1,a.2.2.2.2.2.1,a.2.2.2.2.2.2.1,a.2.2.2.2.2.2.2.1,a.2.2.2.2.2.2.2.2.1,a.2.2.2.2.2.2.2.2.2.1,a.2.2.2.2.2.2.2.2.2.2.1,a.2.2.2.2.2.2.2.2.2.2.2] k) 1) a.2.2.1,(Sw (neq l 3) (Rl .i64 (OO [a.1,a.2.1,a.2.2.1,a.2.2.2.1,a.2.2.2.2.1,a.2.2.2.2.2.1,a.2.2.2.2.2.2.1,a.2.2.2.2.2.2.2.1,a.2.2.2.2.2.2.2.2.1,a.2.2.2.2.2.2.2.2.2.1,a.2.2.2.2.2.2.2.2.2.2.1,a.2.2.2.2.2.2.2.2.2.2.2] k) 1) a.2.2.2.1,(Sw (neq l 4) (Rl .i64 (OO [a.1,a.2.1,a.2.2.1,a.2.2.2.1,a.2.2.2.2.1,a.2.2.2.2.2.1,a.2.2.2.2.2.2.1,a.2.2.2.2.2.2.2.1,a.2.2.2.2.2.2.2.2.1,a.2.2.2.2.2.2.2.2.2.1,a.2.2.2.2.2.2.2.2.2.2.1,a.2.2.2.2.2.2.2.2.2.2.2] k) 1) a.2.2.2.2.1,(Sw (neq l 5) (Rl .i64 (OO [a.1,a.2.1,a.2.2.1,a.2.2.2.1,a.2.2.2.2.1,a.2.2.2.2.2.1,a.2.2.2.2.2.2.1,a.2.2.2.2.2.2.2.1,a.2.2.2.2.2.2.2.2.1,a.2.2.2.2.2.2.2.2.2.1,a.2.2.2.2.2.2.2.2.2.2.1,a.2.2.2.2.2.2.2.2.2.2.2] k) 1) a.2.2.2.2.2.1,(Sw (neq l 6) (Rl .i64 (OO [a.1,a.2.1,a.2.2.1,a.2.2.2.1,a.2.2.2.2.1,a.2.2.2.2.2.1,a.2.2.2.2.2.2.1,a.2.2.2.2.2.2.2.1,a.2.2.2.2.2.2.2.2.1,a.2.2.2.2.2.2.2.2.2.1,a.2.2.2.2.2.2.2.2.2.2.1,a.2.2.2.2.2.2.2.2.2.2.2] k) 1) a.2.2.2.2.2.2.1,(Sw (neq l 7) (Rl .i64 (OO [a.1,a.2.1,a.2.2.1,a.2.2.2.1,a.2.2.2.2.1,a.2.2.2.2.2.1,a.2.2.2.2.2.2.1,a.2.2.2.2.2.2.2.1,a.2.2.2.2.2.2.2.2.1,a.2.2.2.2.2.2.2.2.2.1,a.2.2.2.2.2.2.2.2.2.2.1,a.2.2.2.2.2.2.2.2.2.2.2] k) 1) a.2.2.2.2.2.2.2.1,(Sw (neq l 8) (Rl .i64 (OO [a.1,a.2.1,a.2.2.1,a.2.2.2.1,a.2.2.2.2.1,a.2.2.2.2.2.1,a.2.2.2.2.2.2.1,a.2.2.2.2.2.2.2.1,a.2.2.2.2.2.2.2.2.1,a.2.2.2.2.2.2.2.2.2.1,a.2.2.2.2.2.2.2.2.2.2.1,a.2.2.2.2.2.2.2.2.2.2.2] k) 1) a.2.2.2.2.2.2.2.2.1,(Sw (neq l 9) (Rl .i64 (OO [a.1,a.2.1,a.2.2.1,a.2.2.2.1,a.2.2.2.2.1,a.2.2.2.2.2.1,a.2.2.2.2.2.2.1,a.2.2.2.2.2.2.2.1,a.2.2.2.2.2.2.2.2.1,a.2.2.2.2.2.2.2.2.2.1,a.2.2.2.2.2.2.2.2.2.2.1,a.2.2.2.2.2.2.2.2.2.2.2] k) 1) a.2.2.2.2.2.2.2.2.2.1,(Sw (neq l 10) (Rl .i64 (OO [a.1,a.2.1,a.2.2.1,a.2.2.2.1,a.2.2.2.2.1,a.2.2.2.2.2.1,a.2.2.2.2.2.2.1,a.2.2.2.2.2.2.2.1,a.2.2.2.2.2.2.2.2.1,a.2.2.2.2.2.2.2.2.2.1,a.2.2.2.2.2.2.2.2.2.2.1,a.2.2.2.2.2.2.2.2.2.2.2] k) 1) a.2.2.2.2.2.2.2.2.2.2.1,Sw (neq l 11) (Rl .i64 (OO [a.1,a.2.1,a.2.2.1,a.2.2.2.1,a.2.2.2.2.1,a.2.2.2.2.2.1,a.2.2.2.2.2.2.1,a.2.2.2.2.2.2.2.1,a.2.2.2.2.2.2.2.2.1,a.2.2.2.2.2.2.2.2.2.1,a.2.2.2.2.2.2.2.2.2.2.1,a.2.2.2.2.2.2.2.2.2.2.2] k) 1) a.2.2.2.2.2.2.2.2.2.2.2)))))))))))
def Vj (x:Unit):Option (TB×((List (Int×(TC×((Bool×TD)×((List S8)×Int)))))×Int)) :=
 bd (Yd ((2,[[(1,[([(97:UInt8)],([],(false,1)))]),(2,[([(98:UInt8)],([],(false,2)))])]]))) λa=>some a.1
def Uk (x:(Int×Bool)):Option Unit :=
 some ()
def XO (x:((TB×((List (Int×(TC×((Bool×TD)×((List S8)×Int)))))×Int))×Int)):Option ((TB×((List (Int×(TC×((Bool×TD)×((List S8)×Int)))))×Int))×(W9×Int)) :=
 bd (UP x.1) λi=>br (RT i.2 0) (λ_=>br (RT i.2 0) (λ_=>some ((((0,[]),([],0)),((0,(0,(0,(0,(0,(0,(0,(0,(0,(0,(0,(0,(0,(0,0)))))))))))))),i.2)))) λ_=>br (SU x.2 0) (λ_=>bd (loop (β:=(Nat×(Unit×Unit))) (λs1=>none) ()) λj=>none) λ_=>none) λ_=>br (SW x.2 0) (λ_=>some ((((0,[]),([],0)),((0,(0,(0,(0,(0,(0,(0,(0,(0,(0,(0,(0,(0,(0,0)))))))))))))),7)))) λ_=>br (SU x.2 1000000) (λ_=>some ((((0,[]),([],0)),((0,(0,(0,(0,(0,(0,(0,(0,(0,(0,(0,(0,(0,(0,0)))))))))))))),7)))) λ_=>br (SU x.2 0) (λ_=>bd (loop (λ(a:((Int×((List (List TY))×((List (Int×(TC×((Bool×TD)×((List S8)×Int)))))×(Int×Int))))×W9))=>bd (Tv (((a.1.1,a.1.2.1),(a.1.2.2.1,a.1.2.2.2.1)))) λd=>br (RR d.2 4) (λ_=>some (.dn ((0,(a,()))))) λ_=>br (RR d.2 0) (λ_=>bd (Tj ((((a.1.1,a.1.2.1),(a.1.2.2.1,a.1.2.2.2.1)),d.1))) λc=>br (RT c.2.2 0) (λ_=>some (.dn ((0,(((a.1.1,(a.1.2.1,(a.1.2.2.1,(a.1.2.2.2.1,c.2.2)))),a.2),()))))) λ_=>bd (Uk (d.1,c.2.1)) λk=>RX d.1 λg=>gd (KC g 12) λ_=>RX d.1 λh=>gd (KC h 12) λ_=>br c.2.1 (λ_=>br (RR (Rl .i64 a.2.1 1) x.2) (λ_=>some (.dn ((1,(((c.1.1.1,(c.1.1.2,(c.1.2.1,(c.1.2.2,c.2.2)))),(Rl .i64 a.2.1 1,(a.2.2.1,(Rl .i64 a.2.2.2.1 1,(Yc a.2.2.2.2 g h))))),()))))) λ_=>some (.nx (((c.1.1.1,(c.1.1.2,(c.1.2.1,(c.1.2.2,c.2.2)))),(Rl .i64 a.2.1 1,(a.2.2.1,(Rl .i64 a.2.2.2.1 1,(Yc a.2.2.2.2 g h)))))))) λ_=>br (RR (Rl .i64 a.2.1 1) x.2) (λ_=>some (.dn ((1,(((c.1.1.1,(c.1.1.2,(c.1.2.1,(c.1.2.2,c.2.2)))),(Rl .i64 a.2.1 1,(a.2.2.1,(a.2.2.2.1,(Yc a.2.2.2.2 g h))))),()))))) λ_=>some (.nx (((c.1.1.1,(c.1.1.2,(c.1.2.1,(c.1.2.2,c.2.2)))),(Rl .i64 a.2.1 1,(a.2.2.1,(a.2.2.2.1,(Yc a.2.2.2.2 g h)))))))) λ_=>br (RT d.2 0) (λ_=>some (.dn ((0,(((a.1.1,(a.1.2.1,(a.1.2.2.1,(a.1.2.2.2.1,d.2)))),a.2),()))))) λ_=>bd (Uk (d.1,false)) λl=>RX d.1 λe=>gd (KC e 12) λ_=>RX d.1 λf=>gd (KC f 12) λ_=>br (RR (Rl .i64 a.2.1 1) x.2) (λ_=>some (.dn ((1,(((0,([],([],(0,d.2)))),(Rl .i64 a.2.1 1,(a.2.2.1,(a.2.2.2.1,(Yc a.2.2.2.2 e f))))),()))))) λ_=>some (.nx (((0,([],([],(0,d.2)))),(Rl .i64 a.2.1 1,(a.2.2.1,(a.2.2.2.1,(Yc a.2.2.2.2 e f)))))))) (((x.1.1.1,(x.1.1.2,(x.1.2.1,(x.1.2.2,0)))),(0,(0,(0,(0,(0,(0,(0,(0,(0,(0,(0,(0,(0,(0,0))))))))))))))))) λb=>br (neq b.1 0) (λ_=>br (RT b.2.1.1.2.2.2.2 0) (λ_=>some ((((0,[]),([],0)),((0,(0,(0,(0,(0,(0,(0,(0,(0,(0,(0,(0,(0,(0,0)))))))))))))),b.2.1.1.2.2.2.2)))) λ_=>some ((((b.2.1.1.1,b.2.1.1.2.1),(b.2.1.1.2.2.1,b.2.1.1.2.2.2.1)),((b.2.1.2.1,(Rp .i64 x.2 b.2.1.2.1,b.2.1.2.2.2)),0)))) λ_=>br (RT b.2.1.1.2.2.2.2 0) (λ_=>some ((((0,[]),([],0)),((0,(0,(0,(0,(0,(0,(0,(0,(0,(0,(0,(0,(0,(0,0)))))))))))))),b.2.1.1.2.2.2.2)))) λ_=>some ((((b.2.1.1.1,b.2.1.1.2.1),(b.2.1.1.2.2.1,b.2.1.1.2.2.2.1)),((b.2.1.2.1,(Rp .i64 x.2 b.2.1.2.1,b.2.1.2.2.2)),0)))) λ_=>some ((x.1,((0,(Rp .i64 x.2 0,(0,(0,(0,(0,(0,(0,(0,(0,(0,(0,(0,(0,0)))))))))))))),0)))
def XN (x:((TB×((List (Int×(TC×((Bool×TD)×((List S8)×Int)))))×Int))×Int)):Option ((List Int)×Int) :=
 bd (UP x.1) λi=>br (RT i.2 0) (λ_=>br (RT i.2 0) (λ_=>some ([],i.2)) λ_=>br (SU x.2 0) (λ_=>bd (loop (β:=(Nat×(Unit×Unit))) (λs1=>none) ()) λj=>none) λ_=>none) λ_=>br (SW x.2 0) (λ_=>some ([],7)) λ_=>br (SU x.2 1000000) (λ_=>some ([],7)) λ_=>br (SU x.2 0) (λ_=>bd (loop (λ(a:((Int×((List (List TY))×((List (Int×(TC×((Bool×TD)×((List S8)×Int)))))×(Int×Int))))×((List Int)×W9)))=>bd (Tv (((a.1.1,a.1.2.1),(a.1.2.2.1,a.1.2.2.2.1)))) λc=>br (RR c.2 4) (λ_=>some (.dn ((0,(a,()))))) λ_=>br (RR c.2 0) (λ_=>bd (Tj ((((a.1.1,a.1.2.1),(a.1.2.2.1,a.1.2.2.2.1)),c.1))) λb=>br (RT b.2.2 0) (λ_=>some (.dn ((0,(((a.1.1,(a.1.2.1,(a.1.2.2.1,(a.1.2.2.2.1,b.2.2)))),a.2),()))))) λ_=>gd (CD (BD (AS a.2.1) (AS [c.1])) 1048576) λ_=>RX c.1 λe=>gd (KC e 12) λ_=>RX c.1 λf=>gd (KC f 12) λ_=>br b.2.1 (λ_=>br (RR (Rl .i64 a.2.2.1 1) x.2) (λ_=>some (.dn ((1,(((b.1.1.1,(b.1.1.2,(b.1.2.1,(b.1.2.2,b.2.2)))),(Ik a.2.1 [c.1],(Rl .i64 a.2.2.1 1,(a.2.2.2.1,(Rl .i64 a.2.2.2.2.1 1,(Yc a.2.2.2.2.2 e f)))))),()))))) λ_=>some (.nx (((b.1.1.1,(b.1.1.2,(b.1.2.1,(b.1.2.2,b.2.2)))),(Ik a.2.1 [c.1],(Rl .i64 a.2.2.1 1,(a.2.2.2.1,(Rl .i64 a.2.2.2.2.1 1,(Yc a.2.2.2.2.2 e f))))))))) λ_=>br (RR (Rl .i64 a.2.2.1 1) x.2) (λ_=>some (.dn ((1,(((b.1.1.1,(b.1.1.2,(b.1.2.1,(b.1.2.2,b.2.2)))),(Ik a.2.1 [c.1],(Rl .i64 a.2.2.1 1,(a.2.2.2.1,(a.2.2.2.2.1,(Yc a.2.2.2.2.2 e f)))))),()))))) λ_=>some (.nx (((b.1.1.1,(b.1.1.2,(b.1.2.1,(b.1.2.2,b.2.2)))),(Ik a.2.1 [c.1],(Rl .i64 a.2.2.1 1,(a.2.2.2.1,(a.2.2.2.2.1,(Yc a.2.2.2.2.2 e f))))))))) λ_=>br (RT c.2 0) (λ_=>some (.dn ((0,(((a.1.1,(a.1.2.1,(a.1.2.2.1,(a.1.2.2.2.1,c.2)))),a.2),()))))) λ_=>gd (CD (BD (AS a.2.1) (AS [c.1])) 1048576) λ_=>RX c.1 λg=>gd (KC g 12) λ_=>RX c.1 λh=>gd (KC h 12) λ_=>br (RR (Rl .i64 a.2.2.1 1) x.2) (λ_=>some (.dn ((1,(((0,([],([],(0,c.2)))),(Ik a.2.1 [c.1],(Rl .i64 a.2.2.1 1,(a.2.2.2.1,(a.2.2.2.2.1,(Yc a.2.2.2.2.2 g h)))))),()))))) λ_=>some (.nx (((0,([],([],(0,c.2)))),(Ik a.2.1 [c.1],(Rl .i64 a.2.2.1 1,(a.2.2.2.1,(a.2.2.2.2.1,(Yc a.2.2.2.2.2 g h))))))))) (((x.1.1.1,(x.1.1.2,(x.1.2.1,(x.1.2.2,0)))),([],(0,(0,(0,(0,(0,(0,(0,(0,(0,(0,(0,(0,(0,(0,0)))))))))))))))))) λd=>br (neq d.1 0) (λ_=>br (RT d.2.1.1.2.2.2.2 0) (λ_=>some ([],d.2.1.1.2.2.2.2)) λ_=>some (d.2.1.2.1,0)) λ_=>br (RT d.2.1.1.2.2.2.2 0) (λ_=>some ([],d.2.1.1.2.2.2.2)) λ_=>some (d.2.1.2.1,0)) λ_=>some ([],0)
def XZ (x:((TB×((List (Int×(TC×((Bool×TD)×((List S8)×Int)))))×Int))×Int)):Option (Int×Int) :=
 bd (UP x.1) λd=>br (RT d.2 0) (λ_=>br (RT d.2 0) (λ_=>some (0,d.2)) λ_=>br (SW x.2 0) (λ_=>some (0,7)) λ_=>br (RS x.2 12) (λ_=>some (0,7)) λ_=>bd (Vb x) λf=>br (RT f.2 0) (λ_=>some (0,f.2)) λ_=>bd (loop (β:=(Nat×(Unit×Unit))) (λs2=>none) ()) λh=>none) λ_=>br (SW x.2 0) (λ_=>some (0,7)) λ_=>br (RS x.2 12) (λ_=>some (0,7)) λ_=>bd (Vb x) λg=>br (RT g.2 0) (λ_=>some (0,g.2)) λ_=>bd (loop (λ(a:((Int×((List (List TY))×((List (Int×(TC×((Bool×TD)×((List S8)×Int)))))×(Int×Int))))×(Int×Int)))=>bd (Tv (((a.1.1,a.1.2.1),(a.1.2.2.1,a.1.2.2.2.1)))) λc=>br (RR c.2 4) (λ_=>some (.dn ((0,(a,()))))) λ_=>br (RR c.2 0) (λ_=>bd (Tj ((((a.1.1,a.1.2.1),(a.1.2.2.1,a.1.2.2.2.1)),c.1))) λb=>br (RT b.2.2 0) (λ_=>some (.dn ((0,(((a.1.1,(a.1.2.1,(a.1.2.2.1,(a.1.2.2.2.1,b.2.2)))),a.2),()))))) λ_=>br (NX (RR c.1 x.2) (NX (beq b.2.1 true) true)) (λ_=>some (.dn ((1,(((b.1.1.1,(b.1.1.2,(b.1.2.1,(b.1.2.2,b.2.2)))),(Rl .i64 a.2.1 1,0)),()))))) λ_=>some (.nx (((b.1.1.1,(b.1.1.2,(b.1.2.1,(b.1.2.2,b.2.2)))),(Rl .i64 a.2.1 1,a.2.2))))) λ_=>br (RT c.2 0) (λ_=>some (.dn ((0,(((a.1.1,(a.1.2.1,(a.1.2.2.1,(a.1.2.2.2.1,c.2)))),a.2),()))))) λ_=>br (NX (RR c.1 x.2) (NX (beq false true) true)) (λ_=>some (.dn ((1,(((0,([],([],(0,c.2)))),(Rl .i64 a.2.1 1,0)),()))))) λ_=>some (.nx (((0,([],([],(0,c.2)))),(Rl .i64 a.2.1 1,a.2.2))))) (((x.1.1.1,(x.1.1.2,(x.1.2.1,(x.1.2.2,0)))),(0,0)))) λe=>br (neq e.1 0) (λ_=>some (0,e.2.1.1.2.2.2.2)) λ_=>some e.2.1.2
def VJ (x:Unit):Option Bool :=
 bd (Vj ()) λd=>bd (XO (d,5)) λa=>bd (Vj ()) λe=>bd (XN (e,5)) λb=>bd (Vj ()) λf=>bd (XZ (f,0)) λc=>br (RR a.2.2 0) (λ_=>br (RR b.2 0) (λ_=>br (RR c.2 0) (λ_=>br (NX (RR a.2.1.1 3) (NX (RR a.2.1.2.1 2) (NX (RR a.2.1.2.2.1 1) (NX (NX (RR a.2.1.2.2.2.1 (Sw true 3 0)) (NX (RR a.2.1.2.2.2.2.1 (Sw false 3 0)) (NX (RR a.2.1.2.2.2.2.2.1 (Sw false 3 0)) (NX (RR a.2.1.2.2.2.2.2.2.1 (Sw false 3 0)) (NX (RR a.2.1.2.2.2.2.2.2.2.1 (Sw false 3 0)) (NX (RR a.2.1.2.2.2.2.2.2.2.2.1 (Sw false 3 0)) (NX (RR a.2.1.2.2.2.2.2.2.2.2.2.1 (Sw false 3 0)) (NX (RR a.2.1.2.2.2.2.2.2.2.2.2.2.1 (Sw false 3 0)) (NX (RR a.2.1.2.2.2.2.2.2.2.2.2.2.2.1 (Sw false 3 0)) (NX (RR a.2.1.2.2.2.2.2.2.2.2.2.2.2.2.1 (Sw false 3 0)) (NX (RR a.2.1.2.2.2.2.2.2.2.2.2.2.2.2.2.1 (Sw false 3 0)) (NX (RR a.2.1.2.2.2.2.2.2.2.2.2.2.2.2.2.2 (Sw false 3 0)) true)))))))))))) true)))) (λ_=>br (RR (Kb (AS a.1.2.1)) 0) (λ_=>br (RR (Kb (AS b.1)) 3) (λ_=>some (RR c.1 3)) λ_=>some false) λ_=>some false) λ_=>some false) λ_=>some false) λ_=>some false) λ_=>some false
def VA (x:((TB×((List (Int×(TC×((Bool×TD)×((List S8)×Int)))))×Int))×(List Int))):Option ((TB×((List (Int×(TC×((Bool×TD)×((List S8)×Int)))))×Int))×((List W9)×Int)) :=
 bd (UP x.1) λp=>br (RT p.2 0) (λ_=>br (RT p.2 0) (λ_=>some ((((0,[]),([],0)),([],p.2)))) λ_=>bd (loop (λ(s1:((List W9)×(Int×Int)))=>br (SW s1.2.2 (Kb (AS x.2))) (λ_=>RX s1.2.2 λu=>ix x.2 u λs=>br (SU s 0) (λ_=>bd (loop (β:=(Nat×(Unit×Unit))) (λF=>none) ()) λD=>none) λ_=>gd (CD (BD (AS s1.1) (AS ([(0,(Rp .i64 s 0,(0,(0,(0,(0,(0,(0,(0,(0,(0,(0,(0,(0,0))))))))))))))]))) 1048576) λ_=>none) λ_=>some (.dn ((0,(s1,()))))) (([],(p.2,0)))) λE=>none) λ_=>br (SU (Kb (AS x.2)) 200) (λ_=>some ((((0,[]),([],0)),([],3)))) λ_=>bd (loop (λl=>br (SW l.1 (Kb (AS x.2))) (λ_=>RX l.1 λw=>ix x.2 w λt=>br (SW t 0) (λ_=>some (.dn ((0,((l.1,(7,())),()))))) λ_=>br (SU t 1000000) (λ_=>some (.dn ((0,((l.1,(7,())),()))))) λ_=>some (.nx ((Rl .i64 l.1 1,(l.2.1,()))))) λ_=>some (.dn ((1,((l.1,(l.2.1,())),()))))) ((0,(0,())))) λj=>br (neq j.1 0) (λ_=>br (RT j.2.1.2.1 0) (λ_=>some ((((0,[]),([],0)),([],j.2.1.2.1)))) λ_=>bd (loop (λ(k:((List W9)×(Int×Int)))=>br (SW k.2.2 (Kb (AS x.2))) (λ_=>RX k.2.2 λq=>ix x.2 q λo=>br (SU o 0) (λ_=>bd (loop (β:=(Nat×(Unit×Unit))) (λC=>none) ()) λy=>none) λ_=>gd (CD (BD (AS k.1) (AS ([(0,(Rp .i64 o 0,(0,(0,(0,(0,(0,(0,(0,(0,(0,(0,(0,(0,0))))))))))))))]))) 1048576) λ_=>none) λ_=>some (.dn ((0,(k,()))))) (([],(j.2.1.2.1,0)))) λz=>none) λ_=>bd (loop (λ(b:((List W9)×(Int×(Int×((Int×((List (List TY))×((List (Int×(TC×((Bool×TD)×((List S8)×Int)))))×(Int×Int))))×(Int×((List (List TY))×((List (Int×(TC×((Bool×TD)×((List S8)×Int)))))×Int))))))))=>br (SW b.2.2.1 (Kb (AS x.2))) (λ_=>RX b.2.2.1 λr=>ix x.2 r λg=>br (SU g 0) (λ_=>bd (loop (λ(a:((Int×((List (List TY))×((List (Int×(TC×((Bool×TD)×((List S8)×Int)))))×(Int×Int))))×W9))=>bd (Tv (((a.1.1,a.1.2.1),(a.1.2.2.1,a.1.2.2.2.1)))) λe=>br (RR e.2 4) (λ_=>some (.dn ((0,(a,()))))) λ_=>br (RR e.2 0) (λ_=>bd (Tj ((((a.1.1,a.1.2.1),(a.1.2.2.1,a.1.2.2.2.1)),e.1))) λc=>br (RT c.2.2 0) (λ_=>some (.dn ((0,(((a.1.1,(a.1.2.1,(a.1.2.2.1,(a.1.2.2.2.1,c.2.2)))),a.2),()))))) λ_=>bd (Uk (e.1,c.2.1)) λA=>RX e.1 λh=>gd (KC h 12) λ_=>RX e.1 λi=>gd (KC i 12) λ_=>br c.2.1 (λ_=>br (RR (Rl .i64 a.2.1 1) g) (λ_=>some (.dn ((1,(((c.1.1.1,(c.1.1.2,(c.1.2.1,(c.1.2.2,c.2.2)))),(Rl .i64 a.2.1 1,(a.2.2.1,(Rl .i64 a.2.2.2.1 1,(Yc a.2.2.2.2 h i))))),()))))) λ_=>some (.nx (((c.1.1.1,(c.1.1.2,(c.1.2.1,(c.1.2.2,c.2.2)))),(Rl .i64 a.2.1 1,(a.2.2.1,(Rl .i64 a.2.2.2.1 1,(Yc a.2.2.2.2 h i)))))))) λ_=>br (RR (Rl .i64 a.2.1 1) g) (λ_=>some (.dn ((1,(((c.1.1.1,(c.1.1.2,(c.1.2.1,(c.1.2.2,c.2.2)))),(Rl .i64 a.2.1 1,(a.2.2.1,(a.2.2.2.1,(Yc a.2.2.2.2 h i))))),()))))) λ_=>some (.nx (((c.1.1.1,(c.1.1.2,(c.1.2.1,(c.1.2.2,c.2.2)))),(Rl .i64 a.2.1 1,(a.2.2.1,(a.2.2.2.1,(Yc a.2.2.2.2 h i)))))))) λ_=>br (RT e.2 0) (λ_=>some (.dn ((0,(((a.1.1,(a.1.2.1,(a.1.2.2.1,(a.1.2.2.2.1,e.2)))),a.2),()))))) λ_=>bd (Uk (e.1,false)) λB=>RX e.1 λm=>gd (KC m 12) λ_=>RX e.1 λn=>gd (KC n 12) λ_=>br (RR (Rl .i64 a.2.1 1) g) (λ_=>some (.dn ((1,(((0,([],([],(0,e.2)))),(Rl .i64 a.2.1 1,(a.2.2.1,(a.2.2.2.1,(Yc a.2.2.2.2 m n))))),()))))) λ_=>some (.nx (((0,([],([],(0,e.2)))),(Rl .i64 a.2.1 1,(a.2.2.1,(a.2.2.2.1,(Yc a.2.2.2.2 m n)))))))) ((b.2.2.2.1,(0,(0,(0,(0,(0,(0,(0,(0,(0,(0,(0,(0,(0,(0,0))))))))))))))))) λd=>br (neq d.1 0) (λ_=>gd (CD (BD (AS b.1) (AS ([(d.2.1.2.1,(Rp .i64 g d.2.1.2.1,d.2.1.2.2.2))]))) 1048576) λ_=>br (RT d.2.1.1.2.2.2.2 0) (λ_=>some (.dn ((1,(([],(d.2.1.1.2.2.2.2,(b.2.2.1,(d.2.1.1,b.2.2.2.2)))),()))))) λ_=>some (.nx ((Ik b.1 ([(d.2.1.2.1,(Rp .i64 g d.2.1.2.1,d.2.1.2.2.2))]),(b.2.1,(Rl .i64 b.2.2.1 1,(d.2.1.1,b.2.2.2.2))))))) λ_=>gd (CD (BD (AS b.1) (AS ([(d.2.1.2.1,(Rp .i64 g d.2.1.2.1,d.2.1.2.2.2))]))) 1048576) λ_=>br (RT d.2.1.1.2.2.2.2 0) (λ_=>some (.dn ((1,(([],(d.2.1.1.2.2.2.2,(b.2.2.1,(d.2.1.1,b.2.2.2.2)))),()))))) λ_=>some (.nx ((Ik b.1 ([(d.2.1.2.1,(Rp .i64 g d.2.1.2.1,d.2.1.2.2.2))]),(b.2.1,(Rl .i64 b.2.2.1 1,(d.2.1.1,b.2.2.2.2))))))) λ_=>gd (CD (BD (AS b.1) (AS ([(0,(Rp .i64 g 0,(0,(0,(0,(0,(0,(0,(0,(0,(0,(0,(0,(0,0))))))))))))))]))) 1048576) λ_=>br (RT b.2.2.2.1.2.2.2.2 0) (λ_=>some (.dn ((1,(([],(b.2.2.2.1.2.2.2.2,b.2.2)),()))))) λ_=>some (.nx ((Ik b.1 ([(0,(Rp .i64 g 0,(0,(0,(0,(0,(0,(0,(0,(0,(0,(0,(0,(0,0))))))))))))))]),(b.2.1,(Rl .i64 b.2.2.1 1,b.2.2.2)))))) λ_=>some (.dn ((0,(b,()))))) (([],(0,(0,((x.1.1.1,(x.1.1.2,(x.1.2.1,(x.1.2.2,0)))),(0,([],([],0))))))))) λf=>br (neq f.1 0) (λ_=>some ((((f.2.1.2.2.2.1.1,f.2.1.2.2.2.1.2.1),(f.2.1.2.2.2.1.2.2.1,f.2.1.2.2.2.1.2.2.2.1)),(f.2.1.1,0)))) λ_=>some ((((f.2.1.2.2.2.2.1,f.2.1.2.2.2.2.2.1),f.2.1.2.2.2.2.2.2),(f.2.1.1,f.2.1.2.1)))
def Wl (x:((List S8)×(List S8))):Option Bool :=
 br (RT (Kb (AS x.1)) (Kb (AS x.2))) (λ_=>some false) λ_=>bd (loop (λs0=>br (SW s0.1 (Kb (AS x.1))) (λ_=>RX s0.1 λd=>ix x.1 d λa=>RX s0.1 λe=>ix x.2 e λb=>br (Hf (NX (seq a.1 b.1) (NX (seq a.2.1 b.2.1) (NX (beq a.2.2.1 b.2.2.1) (NX (RR a.2.2.2 b.2.2.2) true))))) (λ_=>some (.dn ((0,((s0.1,false),()))))) λ_=>some (.nx (Rl .i64 s0.1 1,s0.2))) λ_=>some (.dn ((1,(s0,()))))) (0,false)) λc=>br (neq c.1 0) (λ_=>some c.2.1.2) λ_=>some true
def Uu (x:((TB×((List (Int×(TC×((Bool×TD)×((List S8)×Int)))))×Int))×(List Int))):Option Bool :=
 bd (Wa x.1) λr=>br r (λ_=>bd (VJ ()) λs=>some s) λ_=>br (SU (Kb (AS x.2)) 12) (λ_=>bd (VJ ()) λt=>some t) λ_=>bd (loop (λ(c:((List Int)×Int))=>br (SW c.2 (Kb (AS x.2))) (λ_=>RX c.2 λq=>ix x.2 q λp=>gd (CD (BD (AS c.1) (AS ([SY .i64 (Su .i64 p) 40]))) 1048576) λ_=>some (.nx ((Ik c.1 ([SY .i64 (Su .i64 p) 40]),Rl .i64 c.2 1)))) λ_=>some (.dn ((0,(c,()))))) ([],0)) λl=>bd (VA (x.1,l.2.1.1)) λb=>br (RT b.2.2 0) (λ_=>br (RR (Kb (AS b.2.1)) 0) (λ_=>bd (VJ ()) λu=>some u) λ_=>some false) λ_=>br (RT (Kb (AS b.2.1)) (Kb (AS l.2.1.1))) (λ_=>some false) λ_=>bd (VH x.1.1) λw=>bd (VH b.1.1) λh=>bd (Wl (w,h)) λi=>br (Hf i) (λ_=>some false) λ_=>bd (loop (λ(a:(Bool×(Int×(List Int))))=>br (SW a.2.1 (Kb (AS b.2.1))) (λ_=>RX a.2.1 λe=>ix b.2.1 e λm=>RX a.2.1 λf=>ix b.2.1 f λn=>RX a.2.1 λg=>ix a.2.2 g λo=>br (RT (Rl .i64 m.1 n.2.1) o) (λ_=>some (.dn ((0,((false,a.2),()))))) λ_=>some (.nx ((a.1,(Rl .i64 a.2.1 1,a.2.2))))) λ_=>some (.dn ((1,(a,()))))) ((false,(0,l.2.1.1)))) λd=>br (neq d.1 0) (λ_=>some d.2.1.1) λ_=>bd (U1 b.1) λj=>br (RR j.2 0) (λ_=>bd (VJ ()) λk=>some k) λ_=>some false
end
section
open Go Go.Proofs.YtfilfloanndddaaGreat.Sv
def WD (s:TA):Int:=if (UG s).2≠0 then (UG s).2 else (U2 s (UG s).1).2.2
def YT (s:TA):TA:=(U2 s (UG s).1).1
def Xm (s:TA):Int×Bool:=((UG s).1,(U2 s (UG s).1).2.1)
def UA:Nat->TA->TA×(List (Int×Bool)×Int)
 | 0,s=>(s,([],0))
 | n+1,s=>if WD s=4 then (s,([],0)) else if WD s≠0 then (s,([],WD s)) else ((UA n (YT s)).1,(Xm s::(UA n (YT s)).2.1,(UA n (YT s)).2.2))
theorem Yt {s:TA} : ∀ {l:List Int} {d:Int},Vv s l=some d -> ∃ p q,l=p++d::q/\(Wf false (λs j=>(Vq s.1 j,0)) s d).1=true /\ ∀ x∈p,¬ (Wf false (λs j=>(Vq s.1 j,0)) s x).1=true
 | [],_,h=>by cases h
 | x::l,d,h=>by
  unfold Vv at h;split at h
  ·rename_i a;cases h;exact ⟨[],l,rfl,a,λ_ h=>by cases h⟩
  ·rename_i a;obtain ⟨p,q,rfl,b,c⟩:=Yt h
   exact ⟨x::p,q,rfl,b,λy hy=>by
    rcases List.mem_cons.1 hy with rfl | hy
    ·exact a
    ·exact c y hy⟩
theorem Zq {s:TA} (v:VSt s):((UG s).2=4/\s.2.1=[])\/(UG s).2=9\/((UG s).2=0/\(UG s).1∈TJ 0 s.1.2):=by
 have a:(TE s).2=0:=TS.2 v;unfold UG;rw [if_neg (by simp [a])];by_cases h:TJ 0 s.1.2=[]
 ·rw [if_pos h];refine .inl ⟨rfl,?_⟩;have:=v.due;rw [h] at this;simpa using this
 ·rw [if_neg h];cases hc:Vv s (TJ 0 s.1.2) with
  | none=>exact .inr (.inl rfl)
  | some d =>
   obtain ⟨p,q,e,_⟩:=Yt hc;exact .inr (.inr ⟨rfl,by rw [e];simp⟩)
theorem ef (s:TA) (j:Job):(XY s j).2.2≠4:=by
 unfold XY;split
 ·simp
 ·split
  ·simp
  ·unfold YV;split
   ·simp
   ·split<;>simp
theorem gY {s:TA} (v:VSt s) {d:Int} (h:d∈TJ 0 s.1.2):(U2 s d).2.2≠4:=by
 have b:(TE s).2=0:=TS.2 v;obtain ⟨j,n,a,_⟩:=v.atDue h;unfold U2;rw [if_neg (by simp [b]),a];exact ef s j
theorem ZL {s0 s:TA} (g:Gd s0 s):Tv s=some (UG s)/\Xv s=some (UG s):=⟨lZ g.1.sm,eQ g.1.sm⟩
theorem bx {s0 s:TA} (g:Gd s0 s) (d:Int):Tj (s,d)=some (U2 s d)/\Xw (s,d)=some (U2 s d) :=
 ⟨aV g.1.sm (Ys g.2.2) d,eR g.1.sm (Ys g.2.2) d⟩
theorem bU {s0 s:TA} (g:Gd s0 s) (e:WD s=0):(UG s).2=0/\(UG s).1∈TJ 0 s.1.2/\(U2 s (UG s).1).2.2=0:=by
 unfold WD at e;rcases Zq g.1 with h | h | h
 ·rw [if_pos (by rw [h.1];decide),h.1] at e;cases e
 ·rw [if_pos (by rw [h];decide),h] at e;cases e
 ·rw [if_neg (by simp [h.1])] at e;exact ⟨h.1,h.2,e⟩
theorem XL {s0 s:TA} (g:Gd s0 s) (e:WD s=0) : ∃ (n:Nat) (j:Job),(Xm s).1=(n:Int)/\n<12/\JobAt s.1 n j/\Vq s.1 j=true/\StepF s n j (YT s) (Xm s).2/\Gd s0 (YT s):=by
 obtain ⟨_,a,b⟩:=bU g e;exact cd g a b
theorem bV {s0 s:TA} (g:Gd s0 s) (e:WD s=4):(UG s).2=4/\s.2.1=[]:=by
 unfold WD at e;rcases Zq g.1 with h | h | h
 ·exact h
 ·rw [if_pos (by rw [h];decide),h] at e;cases e
 ·rw [if_neg (by simp [h.1])] at e;exact absurd e (gY g.1 h.2)
theorem dq {s0 s:TA} {N:Nat} (g:Gd s0 s) (a:UK s.1.2.flatten<=N) (e:WD s=0):l9 N (YT s)+1<=l9 N s/\UK (YT s).1.2.flatten<=N:=by
 obtain ⟨n,j,_,d,c,_,F,_⟩:=XL g e;refine ⟨gL g.1 a d c F,?_⟩;by_cases b:0<Tb s.1 j
 ·rw [(F.read b).2.1];exact a
 ·rw [(F.inst (by omega)).2.1];exact Nat.le_trans (bC g.1 (Ys g.2.2) c b) a
theorem Zy {s0:TA} {N:Nat} : ∀ {n:Nat} {s:TA},Gd s0 s->UK s.1.2.flatten<=N->(UA n s).2.1.length<=n/\(UA n s).2.1.length+l9 N (UA n s).1<=l9 N s/\Gd s0 (UA n s).1/\UK (UA n s).1.1.2.flatten<=N/\((UA n s).2.2=0->(UA n s).2.1.length<n->(UA n s).1.2.1=[])
 | 0,s,g,hN=>⟨Nat.le_refl _,by simp [UA],g,hN,λ_ h=>absurd h (by simp [UA])⟩
 | n+1,s,g,hN=>by
  unfold UA;by_cases b:WD s=4
  ·rw [if_pos b];exact ⟨by simp,by simp,g,hN,λ_ _=>(bV g b).2⟩
  ·rw [if_neg b];by_cases a:WD s=0
   ·rw [if_neg (by simp [a])];obtain ⟨_,_,_,_,_,_,_,d⟩:=XL g a;obtain ⟨m,f⟩:=dq g hN a;obtain ⟨i,o,j,k,l⟩:=Zy (n:=n) d f;refine ⟨by simpa using i,?_,j,k,λc e=>l c (by simpa using e)⟩;simp only [List.length_cons];omega
   ·rw [if_pos a];exact ⟨by simp,by simp,g,hN,λc=>absurd c a⟩
def Ym (u:W9) (x:Int×Bool):W9:=(Rl .i64 u.1 1,(u.2.1,(if x.2=true then Rl .i64 u.2.2.1 1 else u.2.2.1,Yc u.2.2.2 x.1.toNat x.1.toNat)))
def Xb (u:W9) (l:List (Int×Bool)):W9:=l.foldl Ym u
theorem bz : ∀ (l:List (Int×Bool)) (u:W9),0<=u.1->u.1+l.length<=2000000->(Xb u l).1=u.1+l.length/\(Xb u l).2.1=u.2.1
 | [],u,_,_=>by simp [Xb]
 | x::l,u,h0,h=>by
  have a:((x::l).length:Int)=(l.length:Int)+1:=by simp
  rw [a] at h ⊢
  have e:(Ym u x).1=u.1+1:=by
   show Rl .i64 u.1 1=_;exact R9 (by omega)
  obtain ⟨b,c⟩:=bz l (Ym u x) (by omega) (by omega);exact ⟨by show (Xb (Ym u x) l).1=_;rw [b,e];omega,c⟩
end
end Go.Proofs.YtfilfloanndddaaGreat.Pl
