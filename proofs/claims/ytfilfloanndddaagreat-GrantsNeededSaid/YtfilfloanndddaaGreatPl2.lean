/- Functions of the program and of the specification as plain functions, and laws about them. No condition. -/
import Derived.Test.YtfilfloanndddaaGreatPl1
import Derived.KernelRfl
set_option linter.all false
namespace Go.Proofs.YtfilfloanndddaaGreat.Pl
section
open Go Go.Proofs.YtfilfloanndddaaGreat.Sv
def zS:TA:=((0,[]),([],0))
def UQ (j:Job):List S8:=j.2.2.2.1
def Xu (s:TA) (j:Job):Nat:=if Vh s.1 j=true then j.1.toNat else j.1.toNat+1
def VV (s:TA) (j:Job):TB:=if UQ j=[] then UR s.1 j.1.toNat [] else UR (UR s.1 j.1.toNat []) (Xu s j) (TG (UR s.1 j.1.toNat []).2 (Xu s j)++[(s.2.2,UQ j)])
def Xf (s:TA) (j:Job):Int:=if UQ j=[] then s.2.2 else s.2.2+1
def YV (s:TA) (j:Job):TA×Int :=
 if 0<TM s.1 j\/Vs s.1 j=false then (zS,9) else if s.2.2>1000000/\UQ j≠[] then (zS,5) else (YL s (VV s j) (Xf s j) j.1,0)
theorem aK : ∀ (ls:List (List Te)) (i:Nat),(TH i ls).Nodup /\ ∀ d∈TH i ls,(i:Int)<=d
 | [],_=>⟨.nil,λ_ h=>by cases h⟩
 | rs::ls,i=>by
  obtain ⟨b,a⟩:=aK ls (i+1);rw [Xw];by_cases h:rs.length=2
  ·rw [if_pos h];refine ⟨List.nodup_cons.2 ⟨λc => ?_,b⟩,λd hd => ?_⟩
   ·have:=a _ c;omega
   ·rcases List.mem_cons.1 hd with e | hd
    ·omega
    ·have:=a d hd;omega
  ·rw [if_neg h];exact ⟨b,λd hd=>by have:=a d hd;omega⟩
theorem VSt.nodup {s:TA} (v:VSt s):(s.2.1.map (·.1)).Nodup:=by rw [v.due];exact (aK _ _).1
theorem JobAt.out {L:TB} {n:Nat} {j:Job} (h:JobAt L n j) (v:VLev L) (hs:(∀ r∈TG L.2 n,r.2.length<=2000)):VL (UQ j)/\((UQ j).length:Int)<=2*UX L.1 n/\j.1=(n:Int)/\n<12/\TG L.2 n≠[]:=by
 obtain ⟨a,b,d,k,e,rfl,i,_,l,m⟩:=h;have c:TG L.2 n=[a,b]:=by unfold TG;rw [e];rfl
 have s:=hs a (by rw [c];simp);have t:=hs b (by rw [c];simp);have u:=((v.own n).2 a (by rw [c];simp)).le;have w:=((v.own n).2 b (by rw [c];simp)).le;obtain ⟨f,g⟩:=gY m l d i (by omega);have p:=(List.getElem?_eq_some_iff.1 e).1;have q:=v.len;refine ⟨f,?_,rfl,by omega,by rw [c];simp⟩
 have o:((UQ ((n:Int),U9 b.2 a.2 d k)).length:Int)<=(b.2.length:Int)+(a.2.length:Int):=by
  have:(UQ ((n:Int),U9 b.2 a.2 d k)).length<=b.2.length+a.2.length:=g;omega
 omega
def fx (L:TB):Prop := ∀ i,∀ r∈TG L.2 i,r.2.length<=2000
structure InstF (s:TA) (n:Nat) (j:Job):Prop where
 l1:VLev (UR s.1 n [])
 to12:UQ j≠[]->Xu s j<12
 vr:UQ j≠[]->VR (UX s.1.1 (Xu s j)) (s.2.2,UQ j)
 id : ∀ y∈(UR s.1 n []).2.flatten,y.1≠s.2.2
 room:UQ j≠[]->(TG (UR s.1 n []).2 (Xu s j)).length<2
 lev:VLev (VV s j)
theorem dy {s:TA} (v:VSt s) (A:fx s.1) {n:Nat} {j:Job} (z:JobAt s.1 n j) (G : ¬ 0<TM s.1 j) (hc:Vs s.1 j=true) (x:UQ j≠[]->s.2.2<=1000000):InstF s n j:=by
 obtain ⟨C,D,E,t,I⟩:=z.out v.lev (A n);have a:=v.lev.leave (n:=n) t;have e:j.1.toNat=n:=by rw [E];simp
 have b:Vh s.1 j≠true->n+1<12/\(TG s.1.2 (n+1)).length<2:=λhs=>by
  unfold Vs at hc;rw [show decide (0<TM s.1 j)=false by simp;omega,e] at hc;cases o:Vh s.1 j with
  | true=>exact absurd o hs
  | false =>
   rw [o] at hc;simpa [YX,TG] using hc
 have d : ∀ y∈(UR s.1 n []).2.flatten,y.1≠s.2.2:=λy r=>by
  obtain ⟨p,q,i,k⟩:=XM s.1 n [];rw [k,List.nil_append] at r
  have B:y∈s.1.2.flatten:=by
   rw [i];rcases List.mem_append.1 r with h | h
   ·exact List.mem_append_left _ h
   ·exact List.mem_append_right _ (List.mem_append_right _ h)
  have:=Yu B;have:=v.n3;omega
 have m:Xu s j<12/\(TG (UR s.1 n []).2 (Xu s j)).length<2/\((UQ j).length:Int)<=UX s.1.1 (Xu s j):=by
  unfold Xu;by_cases hs:Vh s.1 j=true
  ·rw [if_pos hs,e];refine ⟨t,by rw [Wf,if_pos rfl];simp,?_⟩;have c:=hs;unfold Vh at c;rw [e] at c;exact of_decide_eq_true c
  ·rw [if_neg hs,e];obtain ⟨i,k⟩:=b hs;refine ⟨i,by rw [Wf,if_neg (by omega)];exact k,?_⟩;rw [aZ];exact D
 obtain ⟨u,w,F⟩:=m;have g:UQ j≠[]->VR (UX s.1.1 (Xu s j)) (s.2.2,UQ j):=λf=>⟨v.n1,x f,C,f,F⟩;refine ⟨a,λ_=>u,g,d,λ_=>w,?_⟩;unfold VV;rw [e];by_cases l:UQ j=[]
 ·rw [if_pos l];exact a
 ·rw [if_neg l];exact a.arrive u w (g l) d
theorem aN {s:TA} (v:VSt s) (u:fx s.1) {n:Nat} {j:Job} (t:JobAt s.1 n j) (w : ¬ 0<TM s.1 j) (hc:Vs s.1 j=true) (y:UQ j≠[]->s.2.2<=1000000) (l:Int) :
  (bd (U5 (s.1,(n:Int))) λd=>br (RR d.2.2 0) (λ_=>br (SU (Kb (AS j.2.2.2.1)) 0) (λ_=>bd (Tk (s,(j,l))) λK=>br (Hf K) (λ_=>bd (Tu ((d.1,(Rl .i64 (n:Int) 1,(s.2.2,j.2.2.2.1))))) λm=>br (RT m.2 0) (λ_=>some ((((0,[]),([],0)),m.2))) λ_=>bd (Tc ((s,(m.1,(Rl .i64 s.2.2 1,(n:Int)))))) λL=>some L) λ_=>bd (Tu ((d.1,((n:Int),(s.2.2,j.2.2.2.1))))) λo=>br (RT o.2 0) (λ_=>some ((((0,[]),([],0)),o.2))) λ_=>bd (Tc ((s,(o.1,(Rl .i64 s.2.2 1,(n:Int)))))) λM=>some M) λ_=>br (RT d.2.2 0) (λ_=>some ((((0,[]),([],0)),d.2.2))) λ_=>bd (Tc ((s,(d.1,(s.2.2,(n:Int)))))) λN=>some N) λ_=>br (RT d.2.2 0) (λ_=>some ((((0,[]),([],0)),d.2.2))) λ_=>bd (Tc ((s,(d.1,(s.2.2,(n:Int)))))) λk=>some k)
  = some (YL s (VV s j) (Xf s j) j.1,0):=by
 have F:=dy v u t w hc y;obtain ⟨G,O,g,I,J⟩:=t.out v.lev (u n);have i:j.1.toNat=n:=by rw [g];simp
 have D:=v.n2;have C:=v.n1;have A:=v.jsmall;have a:=F.lev;rw [cg v.lev J,SL];show (br (RR 0 0) _ _)=_;rw [Sn,if_pos rfl,TI,TF,Sp];by_cases b:UQ j=[]
 ·rw [if_neg (show ¬ ((j.2.2.2.1.length:Int)>0) by rw [show j.2.2.2.1=[] from b];simp),Ss,if_pos rfl];unfold VV at a ⊢;rw [if_pos b,i] at a;rw [if_pos b,i,ZP v.nodup (by omega) a,SL];unfold Xf;rw [if_pos b,g]
 ·rw [if_pos (show ((j.2.2.2.1.length:Int)>0) by have:=List.length_pos_iff.2 b;have h:(UQ j).length=j.2.2.2.1.length:=rfl;omega),aA v.lev g I,SL,Tq];have E:(UQ j).length<=1048576:=by have:=G.len;omega
  have B:kR [] (UX (UR s.1 n []).1 (Xu s j)) (s.2.2,UQ j)=0:=gK.2 ⟨F.vr b,by simp⟩;have f:=bn F.l1 (F.to12 b) (x:=(s.2.2,UQ j)) E F.id (F.room b);rw [if_neg (by simp [B])] at f
  have z:VV s j=UR (UR s.1 n []) (Xu s j) (TG (UR s.1 n []).2 (Xu s j)++[(s.2.2,UQ j)]):=by
   unfold VV;rw [if_neg b,i]
  have q:Xf s j=s.2.2+1:=by unfold Xf;rw [if_neg b]
  rw [<- z] at f;have p:Rl .i64 s.2.2 1=s.2.2+1:=R9 (by omega);have r:=ZP v.nodup (by omega) a (s.2.2+1) (n:Int);rw [Sx];have c:Xu s j=if Vh s.1 j=true then n else n+1:=by unfold Xu;rw [i]
  by_cases hs:Vh s.1 j=true
  ·rw [if_pos hs] at c ⊢;rw [c] at f;have e:Tu (UR s.1 n [],((n:Int),(s.2.2,j.2.2.2.1)))=some (VV s j,0):=f;rw [e,SL,Ss,if_pos rfl,p,r,SL,q,g]
  ·rw [if_neg hs] at c ⊢;rw [c] at f;rw [TK (by omega)];have e:Tu (UR s.1 n [],(((n+1:Nat):Int),(s.2.2,j.2.2.2.1)))=some (VV s j,0):=f;rw [e,SL,Ss,if_pos rfl,p,r,SL,q,g]
theorem cU {s:TA} (m:Sm s) (k:fx s.1) (a:Int):VC (s,a)=some (WJ zS YV s a):=by
 unfold VC;rw [bK m,SL];unfold WJ;by_cases b:(TD s).2=0;rotate_left
 ·rw [if_pos b,Ss,if_neg b,if_pos b];rfl
 rw [if_neg (show ¬ (TD s).2≠0 by simp [b]),if_neg (show ¬ (TD s).2≠0 by simp [b])];have v:=TJ.1 b;unfold ZW;cases p:Yd a 0 (TH 0 s.1.2) with
 | none=>rfl
 | some i =>
  obtain ⟨j,n,l,o,f,g,q⟩:=v.at p;have:=v.lev.len;subst o;simp only [l];unfold Ta YV;rw [Ss,if_pos rfl,SL,Sp];by_cases e:0<TM s.1 j
  ·rw [if_pos (show ((TM s.1 j:Int))>0 by omega),if_pos (.inl e)];rfl
  rw [if_neg (show ¬ ((TM s.1 j:Int))>0 by omega),ah v.lev f (by omega) _ rfl,SL,Tq,Sx];by_cases hc:Vs s.1 j=true;rotate_left
  ·rw [if_neg hc,if_pos (.inr (by simpa using hc))];rfl
  rw [if_pos hc,if_neg (show ¬ (0<TM s.1 j\/Vs s.1 j=false) by rw [hc];simp;omega),Sp];by_cases d:s.2.2>1000000
  ·rw [if_pos d,TI,TF,Sp];by_cases c:UQ j=[]
   ·rw [if_neg (show ¬ ((j.2.2.2.1.length:Int)>0) by rw [show j.2.2.2.1=[] from c];simp),if_neg (by simp [c])];exact aN v k g e hc (λh=>absurd c h) _
   ·rw [if_pos (show ((j.2.2.2.1.length:Int)>0) by have:=List.length_pos_iff.2 c;have h:(UQ j).length=j.2.2.2.1.length:=rfl;omega),if_pos ⟨d,c⟩];rfl
  ·rw [if_neg d,if_neg (by simp [d])];exact aN v k g e hc (λh=>by omega) _
end
section
open Go Go.Proofs.YtfilfloanndddaaGreat.Sv
def Xc (L:TB) (j:Job):XH:=match TG L.2 j.1.toNat with
 | [r0,r1]=>U9 r1.2 r0.2 j.2.2.1.2.2 (j.2.2.2.2.toNat+1)
 | _=>j.2
def Y6 (s:TA) (j:Job):TA:=(s.1,(lset s.2.1 ((Yd j.1 0 (TH 0 s.1.2)).getD 0) (j.1,Xc s.1 j),s.2.2))
theorem gh {s:TA} (m:Sm s) (v:VSt s) {a:Int} {i:Nat} (h:Yd a 0 (TH 0 s.1.2)=some i) {j:Job} (e:s.2.1[i]? = some j) (t:0<TM s.1 j):XE (s,(a,1))=some (Y6 s j,(1,0)):=by
 obtain ⟨j',n,f,y,u,q,D⟩:=v.at h;rw [e] at f;cases f;subst y;have r:(TD s).2=0:=TJ.2 v
 have l:Vz s (n:Int)=((i:Int),0):=by
  unfold Vz;rw [if_neg (show ¬ (TD s).2≠0 by simp [r]),h]
 have w:=v.jsmall;have hi:=(List.getElem?_eq_some_iff.1 e).1;unfold XE;rw [nQ m,SL,Ss,if_pos r,Sr,if_neg (show ¬ ((1:Int)<0) by omega),ZZ m,SL,l,Ss,if_pos rfl,S9,Sb e,(JobAt.left q).1,SL,Sn,if_neg (show ¬ ((TM s.1 j:Int)=0) by omega),S9,Sb e];obtain ⟨b,c,d,k,p,rfl,x,C,A,B⟩:=q;have z:TG s.1.2 n=[b,c]:=by unfold TG;rw [p];rfl
 have o:TM s.1 ((n:Int),U9 c.2 b.2 d k)=c.2.length+b.2.length-k:=by
  unfold TM;simp only [Int.toNat_natCast,p];show c.2.length+b.2.length-((k:Int)).toNat=_;rw [Int.toNat_natCast]
 rw [o] at t;have g:=aa B A d x (k:=1);rw [show min 1 (c.2.length+b.2.length-k)=1 by omega] at g;show (bd (UO (U9 c.2 b.2 d k,((1:Nat):Int))) λE=>_)=_;rw [g,SL];simp only;rw [Ss,if_pos rfl];unfold Tv;rw [UC (by simp only [AS];omega),SL,S9,SR,if_pos (by simp only [AS];exact hi),Sb e];unfold Y6 Xc;simp only [Int.toNat_natCast,z,h,Option.getD_some];have e1:(U9 c.2 b.2 d k).2.1.2.2=d:=Zf _ _ _ _;have e2:(U9 c.2 b.2 d k).2.2.2.toNat=k:=by show ((k:Int)).toNat=k;rw [Int.toNat_natCast]
 rw [e1,e2];rfl
def Xb (s:TA) (j:Job):TA×(Bool×Int):=if Vs s.1 j=false then (zS,(false,9)) else if 0<TM s.1 j then (Y6 s j,(false,0)) else ((YV s j).1,(RR (YV s j).2 0,(YV s j).2))
def Uv (s:TA) (a:Int):TA×(Bool×Int):=if (TD s).2≠0 then (zS,(false,(TD s).2)) else match ZW s a with
 | some j=>Xb s j
 | none=>(zS,(false,4))
theorem ac {s:TA} (m:Sm s) (g:fx s.1) (a:Int):TW (s,a)=some (Uv s a):=by
 unfold TW;rw [bK m,SL,cU m g];unfold WJ Uv;by_cases b:(TD s).2=0;rotate_left
 ·rw [if_pos b,Ss,if_neg b,if_pos b];rfl
 rw [if_neg (show ¬ (TD s).2≠0 by simp [b]),if_neg (show ¬ (TD s).2≠0 by simp [b]),if_neg (show ¬ (TD s).2≠0 by simp [b])];have v:=TJ.1 b;unfold ZW;cases f:Yd a 0 (TH 0 s.1.2) with
 | none=>rfl
 | some i =>
  obtain ⟨j,n,e,k,d,h,l⟩:=v.at f;have:=v.lev.len;simp only [e];unfold Xb Ta;rw [Ss,if_pos rfl,ah v.lev d (by omega) _ rfl,SL,Tq,Sx];cases hc:Vs s.1 j with
  | false=>rw [if_neg (by simp),if_pos rfl];rfl
  | true =>
   rw [if_pos rfl,if_neg (by simp),SL,Sp];by_cases c:0<TM s.1 j
   ·rw [if_pos (show ((TM s.1 j:Int))>0 by omega),if_pos c,gh m v f e c];rfl
   ·rw [if_neg (show ¬ ((TM s.1 j:Int))>0 by omega),if_neg c];rfl
end
section
open Go Go.Proofs.YtfilfloanndddaaGreat.Sv
theorem Zb {ls:List (List Te)} {d:Int} (h:d∈TH 0 ls) : ∃ (n:Nat) (a b:Te),d=(n:Int)/\ls[n]? = some [a,b]:=by
 obtain ⟨k,f⟩:=List.getElem?_of_mem h;obtain ⟨n,c,a,b,e⟩:=XL f;exact ⟨n,a,b,by rw [c,Nat.zero_add],e⟩
theorem bf {l:List (List Te)} {n:Int} (i:0<n) (h : ∀ x∈l.flatten,x.1<n):WG l<n:=by
 have f : ∀ (rs:List Te) (m:Int),m<n->(∀ x∈rs,x.1<n)->rs.foldl (λm r=>S0 m r.1) m<n:=by
  intro rs
  induction rs with
  | nil=>intro m b _;exact b
  | cons r rs e =>
   intro m b c;rw [List.foldl_cons];refine e _ ?_ λx d=>c x (by simp [d]);rw [Wt];have:=c r (by simp);omega
 have two : ∀ (ls:List (List Te)) (m:Int),m<n->(∀ rs∈ls,∀ x∈rs,x.1<n)->ls.foldl (λm rs=>rs.foldl (λm r=>S0 m r.1) m) m<n:=by
  intro ls
  induction ls with
  | nil=>intro m b _;exact b
  | cons rs ls e =>
   intro m b c;rw [List.foldl_cons];exact e _ (f rs m b (c rs (by simp))) λg a=>c g (by simp [a])
 exact two l 0 i λrs a x d=>h x (List.mem_flatten.2 ⟨rs,a,d⟩)
theorem mF {l:List (List Te)} (e:l.getLast? ≠ some []) {n:Nat} (a:TG l n≠[]) (b : ∀ i,n<i->TG l i=[]):l.length=n+1:=by
 have f:n<l.length:=by
  by_cases h:n<l.length
  ·exact h
  ·unfold TG at a;rw [List.getElem?_eq_none (by omega)] at a;exact absurd rfl a
 by_cases c:l.length=n+1
 ·exact c
 ·exfalso;have d:=b (l.length-1) (by omega);refine e ?_;rw [List.getLast?_eq_getElem?,Vw (by omega),d]
theorem Zp {js:List Job} {d:Int} {j:Job} (h:UH js d=some j):j∈js/\j.1=d:=by
 unfold UH at h;have a:=List.find?_some h;unfold ao at a;rw [VU] at a;exact ⟨List.mem_of_find?_eq_some h,(of_decide_eq_true a).symm⟩
theorem f9 {L:TB} (v:VLev L) {n:Nat} {b c:Te} (h:L.2[n]? = some [b,c]):JobAt L n (WK L (n:Int)):=by
 have a:TG L.2 n=[b,c]:=by unfold TG;rw [h];rfl
 refine ⟨b,c,decide ((n:Int)=(L.2.length:Int)-1),0,h,?_,Nat.zero_le _,λd => ?_,VR.vl' v (n:=n) (by rw [a];simp),VR.vl' v (n:=n) (by rw [a];simp)⟩
 ·unfold WK;rw [Int.toNat_natCast,a]
 ·have:=of_decide_eq_true d;have:=(List.getElem?_eq_some_iff.1 h).1;omega
theorem ly {s:TA} (v:VSt s) {L:TB} (u:VLev L) {next a:Int} (F:1<=next) (G:next<=1000001) (I : ∀ x∈L.2.flatten,x.1<next)
  (J : ∀ (n:Nat) (g h:Te),s.1.2[n]? = some [g,h]->(n:Int)≠a->(∃ q r,L.2[n]? = some [q,r])->L.2[n]? = some [g,h]/\(n+1=s.1.2.length->n+1=L.2.length)):VSt (YL s L next a):=by
 have b : ∀ d∈TH 0 L.2,(WW s L a d).1=d /\ ∃ n,JobAt L n (WW s L a d):=λd c=>by
  obtain ⟨n,q,r,rfl,t⟩:=Zb c;unfold WW;cases l:(if (n:Int)=a then none else UH s.2.1 (n:Int)) with
  | none =>
   rw [Option.getD_none];have i:=f9 u t;refine ⟨?_,n,i⟩;obtain ⟨_,_,_,_,_,e,_⟩:=i;rw [e]
  | some j =>
   rw [Option.getD_some];by_cases o:(n:Int)=a
   ·rw [if_pos o] at l;cases l
   rw [if_neg o] at l;obtain ⟨p,f⟩:=Zp l;refine ⟨f,n,?_⟩;obtain ⟨m,g,h,E,k,w,rfl,y,z,A,B⟩:=v.job j p;have K:m=n:=by have:(m:Int)=(n:Int):=f;omega
   subst K;obtain ⟨C,D⟩:=J m g h w o ⟨q,r,t⟩;exact ⟨g,h,E,k,C,rfl,y,λi=>D (z i),A,B⟩
 refine ⟨u,F,G,bf (by show 0<next;omega) I,?_,λj p => ?_⟩
 ·show ((TH 0 L.2).map (WW s L a)).map (·.1)=TH 0 L.2;rw [List.map_map]
  conv=>rhs;rw [<- List.map_id (TH 0 L.2)]
  exact List.map_congr_left λd c=>(b d c).1
 ·obtain ⟨d,c,rfl⟩:=List.mem_map.1 p;exact (b d c).2
theorem XJ {l:List (List Te)} {n:Nat} {b c:Te}:l[n]? = some [b,c]<->TG l n=[b,c]:=by
 unfold TG;constructor
 ·intro h;rw [h];rfl
 ·intro h;cases a:l[n]? with
  | none=>rw [a] at h;cases h
  | some rs=>rw [a] at h;exact congrArg some h
theorem Vm {s:TA} {j:Job} {n:Nat} (b:j.1.toNat=n) (i:Nat):TG (VV s j).2 i=if UQ j≠[]/\i=Xu s j then (if i=n then [] else TG s.1.2 i)++[(s.2.2,UQ j)] else if i=n then [] else TG s.1.2 i:=by
 unfold VV;rw [b];by_cases a:UQ j=[]
 ·rw [if_pos a,if_neg (by simp [a]),Wf]
 ·rw [if_neg a,Wf];by_cases hi:i=Xu s j
  ·rw [if_pos hi,if_pos ⟨a,hi⟩,Wf,<- hi]
  ·rw [if_neg hi,if_neg (by simp [hi]),Wf]
theorem gH {s:TA} (v:VSt s) (u:fx s.1) {n:Nat} {j:Job} (t:JobAt s.1 n j) (B : ¬ 0<TM s.1 j) (hc:Vs s.1 j=true) (r:UQ j≠[]->s.2.2<=1000000):VSt (YL s (VV s j) (Xf s j) j.1):=by
 have F:=dy v u t B hc r;obtain ⟨O,P,w,S,q⟩:=t.out v.lev (u n);have l:j.1.toNat=n:=by rw [w];simp
 have E:=v.n1;have G:=v.n2
 have k:s.2.2<=Xf s j/\Xf s j<=1000001/\(UQ j≠[]->s.2.2<Xf s j):=by
  unfold Xf;by_cases d:UQ j=[]
  ·rw [if_pos d];exact ⟨by omega,by omega,λh=>absurd d h⟩
  ·rw [if_neg d];have:=r d;exact ⟨by omega,by omega,λ_=>by omega⟩
 refine ly v F.lev (by omega) k.2.1 (λx L => ?_) (λm z A D C N => ?_)
 ·obtain ⟨i,hi⟩:=Zv.1 L;rw [Vm l] at hi
  have b : ∀ {y:Te},y∈(if i=n then [] else TG s.1.2 i)->y.1<Xf s j:=fun {y} o=>by
   by_cases a:i=n
   ·rw [if_pos a] at o;cases o
   ·rw [if_neg a] at o;have:=Yu (Zv.2 ⟨i,o⟩);have:=v.n3;omega
  split at hi
  ·rename_i hh;rcases List.mem_append.1 hi with hi | hi
   ·exact b hi
   ·rw [List.mem_singleton.1 hi];exact k.2.2 hh.1
  ·exact b hi
 ·have f:m≠n:=λe=>C (by rw [w,e]);have g:TG s.1.2 m=[z,A]:=XJ.1 D
  have p : ¬ (UQ j≠[]/\m=Xu s j):=λ⟨d,J⟩=>by
   have:=F.room d;rw [Wf,<- J,if_neg f,g] at this;simp at this
  have c:TG (VV s j).2 m=[z,A]:=by rw [Vm l,if_neg p,if_neg f,g]
  refine ⟨XJ.2 c,λM=>(mF F.lev.last (by rw [c];simp) λi hi => ?_).symm⟩;have a:TG s.1.2 i=[]:=by unfold TG;rw [List.getElem?_eq_none (by omega)];rfl
  have I:n<s.1.2.length:=by
   by_cases h:n<s.1.2.length
   ·exact h
   ·unfold TG at q;rw [List.getElem?_eq_none (by omega)] at q;exact absurd rfl q
  have K:Xu s j<=n+1:=by unfold Xu;rw [l];split<;>omega
  rw [Vm l,if_neg (by rintro ⟨_,h⟩;omega),a];split<;>rfl
theorem Job.steps {L:TB} {n:Nat} {j:Job} (f:JobAt L n j) (h:0<TM L j):JobAt L n (j.1,Xc L j):=by
 obtain ⟨a,b,c,k,d,rfl,o,g,l,m⟩:=f;have i:=XJ.1 d
 have e:TM L ((n:Int),U9 b.2 a.2 c k)=b.2.length+a.2.length-k:=by
  unfold TM;simp only [Int.toNat_natCast,d];show b.2.length+a.2.length-((k:Int)).toNat=_;rw [Int.toNat_natCast]
 rw [e] at h;refine ⟨a,b,c,k+1,d,?_,by omega,g,l,m⟩;unfold Xc;simp only [Int.toNat_natCast,i];have e1:(U9 b.2 a.2 c k).2.1.2.2=c:=Zf _ _ _ _;have e2:(U9 b.2 a.2 c k).2.2.2.toNat=k:=by show ((k:Int)).toNat=k;rw [Int.toNat_natCast]
 rw [e1,e2]
theorem gi {s:TA} (v:VSt s) {j:Job} {i n:Nat} (e:Yd j.1 0 (TH 0 s.1.2)=some i) (a:s.2.1[i]? = some j) (d:JobAt s.1 n j) (c:0<TM s.1 j):VSt (Y6 s j):=by
 unfold Y6;rw [e,Option.getD_some];refine ⟨v.lev,v.n1,v.n2,v.n3,?_,λx hx => ?_⟩
 ·show (s.2.1.set i (j.1,Xc s.1 j)).map (·.1)=_;rw [<- v.due,List.map_set];refine List.ext_getElem? λk => ?_;rw [List.getElem?_set];by_cases b:i=k
  ·subst b;have hi:=(List.getElem?_eq_some_iff.1 a).1;rw [if_pos rfl,List.length_map,if_pos hi,List.getElem?_map,a];rfl
  ·rw [if_neg b]
 ·rcases List.mem_or_eq_of_mem_set hx with hx | hx
  ·exact v.job x hx
  ·rw [hx];exact ⟨n,Job.steps d c⟩
end
section
open Go Go.Proofs.YtfilfloanndddaaGreat.Sv
theorem me {B:Int} {M:List (List Te)} {f:(Int×List (List Te))->Option (LR (Int×List (List Te)) (Nat×((Int×List (List Te))×Unit)))} (a:f (B,[])=some (.dn (0,((B,[]),())))) (hs : ∀ k,k<M.length->f (B,M.take (k+1))=if TG M k=[] then some (.nx (B,M.take k)) else some (.dn (0,((B,M.take (k+1)),())))) : ∀ k,k<=M.length->IJ (k+1) f (B,M.take k)=some (0,((B,M.take (Xv M k)),()))
 | 0,_=>by rw [List.take_zero];exact Tp a
 | k+1,hk=>by
  have h:=hs k (by omega);unfold Xv;by_cases b:TG M k=[]
  ·rw [if_pos b] at h ⊢;rw [Th h];exact me a hs k (by omega)
  ·rw [if_neg b] at h ⊢;exact Tp h
theorem lq {M:List (List Te)} {k:Nat} (h:k<M.length):M.take (k+1)=M.take k++[TG M k]:=by
 rw [List.take_add_one,Vw h];rfl
theorem bx {L:TB} (s:L.2.length<=1000) {n:Nat} (u:n<1000) {r:List Te} (l:r.length<=1048576) (o : ∀ i,(TG L.2 i).length<=1048576):VE (L,((n:Int),r))=some (UR L n r):=by
 have t:(Wb L.2 n r).length=max L.2.length (n+1):=by unfold Wb;rw [List.length_set,YI]
 unfold VE;simp only [TI,TF];refine Tf (Zt (r:=(0,((((max L.2.length (n+1):Nat):Int),(L.1,Wb L.2 n r)),()))) (λk=>((k:Int),(L.1,(Wb L.2 n r).take k))) (max L.2.length (n+1)) (by simp) (by omega) (λk j => ?_) ?_) ?_
 ·have c:((Wb L.2 n r).take k).length=k:=by rw [List.length_take];omega
  simp only [c];rw [lq (by omega),bz,TK (by omega),Sr];by_cases g:k<L.2.length
  ·rw [if_pos (by omega),So,if_neg (by omega),S9,Sb (Vw g),Sn];by_cases a:k=n
   ·rw [if_pos (by omega),if_pos a,UC l,UC (by simp only [BD,List.length_cons,List.length_nil];omega)];rfl
   ·rw [if_neg (by omega),if_neg a,UC (o k),UC (by simp only [BD,List.length_cons,List.length_nil];omega)];rfl
  ·rw [if_neg (by omega),Sq,if_pos (by omega),So,if_pos (by omega),Sn];by_cases a:k=n
   ·rw [if_pos (by omega),if_pos a,UC l,UC (by simp only [BD,List.length_cons,List.length_nil];omega)];rfl
   ·rw [if_neg (by omega),if_neg a,UC (by simp only [BD,List.length_cons,List.length_nil];omega)];have:TG L.2 k=[]:=by unfold TG;rw [List.getElem?_eq_none (by omega)];rfl
    rw [this];rfl
 ·have c:(Wb L.2 n r).take (max L.2.length (n+1))=Wb L.2 n r:=List.take_of_length_le (by omega);simp only;rw [Sr,if_neg (by omega),Sq,if_neg (by omega),c]
 ·have d:=me (B:=L.1) (M:=Wb L.2 n r) (f:=λb=>br (SU (b.2.length:Int) 0) (λ_=>RX (Rp .i64 (b.2.length:Int) 1) λp=>ix b.2 p λq=>br (RR (q.length:Int) 0) (λ_=>RX (Rp .i64 (b.2.length:Int) 1) λh=>gd (CD h b.2.length) λ_=>gd (CD 0 h) λ_=>some (.nx (b.1,Dy b.2 0 h))) λ_=>some (.dn ((0,(b,()))))) λ_=>some (.dn ((0,(b,()))))) rfl (λk j=>by
   have c:((Wb L.2 n r).take (k+1)).length=k+1:=by rw [List.length_take];omega
   have hi:Rp .i64 ((k+1:Nat):Int) 1=(k:Int):=by rw [SB (by omega)];omega
   have m:((Wb L.2 n r).take (k+1))[k]? = some (TG (Wb L.2 n r) k):=by rw [List.getElem?_take,if_pos (by omega),Vw j]
   simp only [c,hi];rw [Sp,if_pos (by omega),S9,Sb m,ap];by_cases e:TG (Wb L.2 n r) k=[]
   ·rw [if_pos e,if_pos e,S9,UC (by omega),UC (by omega)]
    have:Dy ((Wb L.2 n r).take (k+1)) 0 k=(Wb L.2 n r).take k:=by
     unfold Dy;rw [List.drop_zero,Nat.sub_zero,List.take_take];congr 1;omega
    rw [this]
   ·rw [if_neg e,if_neg e]) _ (Nat.le_refl _)
  rw [List.take_of_length_le (Nat.le_refl _)] at d;exact Tf (Uh (by omega) d) rfl
end
section
open Go Go.Proofs.YtfilfloanndddaaGreat.Sv
theorem fA {s:TA} (m:Sm s) (v:VSt s) {a:Int} {i:Nat} (h:Yd a 0 (TH 0 s.1.2)=some i) {j:Job} (e:s.2.1[i]? = some j) (t:0<TM s.1 j):XI (s,(a,1))=some (Y6 s j,(1,0)):=by
 obtain ⟨j',n,f,z,w,u,E⟩:=v.at h;rw [e] at f;cases f;subst z;have l:(TD s).2=0:=TJ.2 v
 have o:Vz s (n:Int)=((i:Int),0):=by
  unfold Vz;rw [if_neg (show ¬ (TD s).2≠0 by simp [l]),h]
 have q:WJ (0:Int) (λs j=>((TM s.1 j:Int),0)) s (n:Int)=((TM s.1 j:Int),0):=by
  unfold WJ ZW;rw [if_neg (show ¬ (TD s).2≠0 by simp [l]),h];simp only [e]
 have x:=v.jsmall;have hi:=(List.getElem?_eq_some_iff.1 e).1;unfold XI;rw [oc m,SL,Sn,if_pos l,Sr,if_neg (show ¬ ((1:Int)<0) by omega),Ss,if_pos l,Xr m,q,SL,Sn,if_pos rfl,Sn,if_neg (show ¬ ((TM s.1 j:Int)=0) by omega),Ss,if_pos rfl,YJ m,o,SL,S9,Sb e];obtain ⟨b,c,d,k,r,rfl,y,D,B,C⟩:=u;have A:TG s.1.2 n=[b,c]:=by unfold TG;rw [r];rfl
 have p:TM s.1 ((n:Int),U9 c.2 b.2 d k)=c.2.length+b.2.length-k:=by
  unfold TM;simp only [Int.toNat_natCast,r];show c.2.length+b.2.length-((k:Int)).toNat=_;rw [Int.toNat_natCast]
 rw [p] at t;have g:=Z5 C B d y (k:=1);rw [show min 1 (c.2.length+b.2.length-k)=1 by omega] at g;show (bd (Tb (U9 c.2 b.2 d k,((1:Nat):Int))) λF=>_)=_;rw [g,SL];simp only;rw [UC (by simp only [AS];omega),S9,SR,if_pos (by simp only [AS];exact hi),Sb e];unfold Y6 Xc;simp only [Int.toNat_natCast,A,h,Option.getD_some];have e1:(U9 c.2 b.2 d k).2.1.2.2=d:=Zf _ _ _ _;have e2:(U9 c.2 b.2 d k).2.2.2.toNat=k:=by show ((k:Int)).toNat=k;rw [Int.toNat_natCast]
 rw [e1,e2];rfl
theorem e8 {L:TB} (v:VLev L) {n:Nat} (h:(TG L.2 n).length=2):US (L,(n:Int))=some (WK L n,0):=by
 have d:n<L.2.length:=by
  by_cases e:n<L.2.length
  ·exact e
  ·unfold TG at h;rw [List.getElem?_eq_none (by omega)] at h;cases h
 have i:=v.len;obtain ⟨f,g⟩:=v.small;unfold US;simp only [TI,TF];rw [bC _ f g,Ww v,SL,Sn,if_pos rfl,Sr,if_neg (by omega),So,if_neg (by omega),Sn,if_pos rfl,So,if_neg (by omega),S9,Sb (Vw d),Sr,if_neg (by omega),Ss,if_pos rfl,Z4 v d,SL]
 obtain ⟨b,c,a⟩ : ∃ b c,TG L.2 n=[b,c]:=by
  match hq:TG L.2 n with
  | [b,c]=>exact ⟨b,c,rfl⟩
  | []=>rw [hq] at h;cases h
  | [_]=>rw [hq] at h;cases h
  | _::_::_::_=>rw [hq] at h;simp at h
 rw [aX _ (by rw [Vw d,a]) (VR.vl' v (n:=n) (by rw [a];simp)) (VR.vl' v (n:=n) (by rw [a];simp)),SL];unfold WK;rw [Int.toNat_natCast,a]
end
section
open Go Go.Proofs.YtfilfloanndddaaGreat.Sv
abbrev fy:=(Int×((List (List S8))×((List Int)×((List TE)×((List Int)×(Int×(Bool×((List UInt8)×(Bool×((List S8)×Int))))))))))
def bZ (j:Job):fy:=(j.1,(j.2.1.1,(j.2.1.2.1,(j.2.1.2.2.1,(j.2.1.2.2.2.1,(j.2.1.2.2.2.2,(j.2.2.1.1,(j.2.2.1.2.1,(j.2.2.1.2.2,(j.2.2.2.1,j.2.2.2.2))))))))))
theorem eV (p:List Job) (x:Job) (d:Int):UH (p++[x]) d=(UH p d).or (if x.1=d then some x else none):=by
 unfold UH;rw [List.find?_append]
 congr 1
 rw [List.find?_cons];unfold ao;rw [VU];by_cases h:x.1=d
 ·rw [if_pos h,show decide (d=x.1)=true by simp [h]]
 ·rw [if_neg h,show decide (d=x.1)=false by simp;exact λe=>h e.symm];rfl
theorem gB {s:TA} (w:(s.2.1.map (·.1)).Nodup) (E:s.2.1.length<=1000) (L:TB) (a:Int) {D:List Int} {i:Nat} {d:Int} (hi:D[i]? = some d):(loop (λ(c:Int×fy)=>br (SW c.1 (s.2.1.length:Int)) (λ_=>RX c.1 λm=>ix s.2.1 m λr=>RX (i:Int) λn=>ix D n λt=>br (RR r.1 t) (λ_=>RX (i:Int) λo=>ix D o λu=>br (RT u a) (λ_=>RX c.1 λq=>ix s.2.1 q λb=>some (.nx ((Rl .i64 c.1 1,(b.1,(b.2.1.1,(b.2.1.2.1,(b.2.1.2.2.1,(b.2.1.2.2.2.1,(b.2.1.2.2.2.2,(b.2.2.1.1,(b.2.2.1.2.1,(b.2.2.1.2.2,b.2.2.2))))))))))))) λ_=>some (.nx (Rl .i64 c.1 1,c.2))) λ_=>some (.nx (Rl .i64 c.1 1,c.2))) λ_=>some (.dn (((0:Nat),(c,()))))) ((0:Int),bZ (WK L d)))=some (0,(((s.2.1.length:Int),bZ (WW s L a d)),())):=by
 refine U8 (l:=s.2.1) (σ:=Job) (s:=((0:Int),bZ (WK L d))) (λk j=>((k:Int),bZ j)) (λls k j => ∃ p,s.2.1=p++ls/\j=(if d=a then none else UH p d).getD (WK L d)) (λ_ _ _=>(0,(((s.2.1.length:Int),bZ (WW s L a d)),()))) (WK L d) rfl (by omega) ⟨[],rfl,by split<;>rfl⟩ (λj h => ?_) (λk x ls j C y z h => ?_)
 ·obtain ⟨p,e,rfl⟩:=h;rw [List.append_nil] at e;simp only;rw [re,Rd,<- e];rfl
 ·obtain ⟨p,e,rfl⟩:=h
  have B:x.1 ∉ p.map (·.1):=λA=>by
   rw [e,List.map_append,List.nodup_append] at w;exact w.2.2 _ A x.1 (by simp) rfl
  refine ⟨(if d=a then none else UH (p++[x]) d).getD (WK L d),?_,⟨p++[x],by rw [e];simp,rfl⟩,rfl⟩
  simp only;rw [rl z,R5,S9,Sb y,S9,Sb hi,Sn,TK (by omega),eV];by_cases f:x.1=d
  ·rw [if_pos f,S9,Sb hi,Ss,S9,Sb y,if_pos f];by_cases g:d=a
   ·rw [if_pos g,if_pos g,if_pos g]
   ·rw [if_neg g,if_neg g,X3 (by rw [<- f];exact B)];rfl
  ·rw [if_neg f,if_neg f];have:(UH p d).or none=UH p d:=by cases UH p d<;>rfl
   rw [this]
theorem Zk {s:TA} (B:(s.2.1.map (·.1)).Nodup) (D:s.2.1.length<=1000) {L:TB} (v:VLev L) (next b:Int):loop (λ(g:(Int×(Int×((List (List Te))×((List Job)×Int)))))=>br (SW g.1 ((TH 0 L.2).length:Int)) (λ_=>RX g.1 λm=>ix (TH 0 L.2) m λt=>bd (US (((g.2.1,g.2.2.1),t))) λc=>bd (loop (λ(f:Int×fy)=>br (SW f.1 (s.2.1.length:Int)) (λ_=>RX f.1 λo=>ix s.2.1 o λu=>RX g.1 λp=>ix (TH 0 L.2) p λw=>br (RR u.1 w) (λ_=>RX g.1 λq=>ix (TH 0 L.2) q λx=>br (RT x b) (λ_=>RX f.1 λr=>ix s.2.1 r λe=>some (.nx ((Rl .i64 f.1 1,(e.1,(e.2.1.1,(e.2.1.2.1,(e.2.1.2.2.1,(e.2.1.2.2.2.1,(e.2.1.2.2.2.2,(e.2.2.1.1,(e.2.2.1.2.1,(e.2.2.1.2.2,e.2.2.2))))))))))))) λ_=>some (.nx (Rl .i64 f.1 1,f.2))) λ_=>some (.nx (Rl .i64 f.1 1,f.2))) λ_=>some (.dn (((0:Nat),(f,()))))) (((0:Int),(c.1.1,(c.1.2.1.1,(c.1.2.1.2.1,(c.1.2.1.2.2.1,(c.1.2.1.2.2.2.1,(c.1.2.1.2.2.2.2,(c.1.2.2.1.1,(c.1.2.2.1.2.1,(c.1.2.2.1.2.2,c.1.2.2.2)))))))))))) λa=>gd (CD (BD g.2.2.2.1.length [((a.2.1.2.1,((a.2.1.2.2.1,(a.2.1.2.2.2.1,(a.2.1.2.2.2.2.1,(a.2.1.2.2.2.2.2.1,a.2.1.2.2.2.2.2.2.1)))),((a.2.1.2.2.2.2.2.2.2.1,(a.2.1.2.2.2.2.2.2.2.2.1,a.2.1.2.2.2.2.2.2.2.2.2.1)),a.2.1.2.2.2.2.2.2.2.2.2.2))):Job)].length) 1048576) λ_=>some (.nx ((Rl .i64 g.1 1,(g.2.1,(g.2.2.1,(Ik g.2.2.2.1 ([(a.2.1.2.1,((a.2.1.2.2.1,(a.2.1.2.2.2.1,(a.2.1.2.2.2.2.1,(a.2.1.2.2.2.2.2.1,a.2.1.2.2.2.2.2.2.1)))),((a.2.1.2.2.2.2.2.2.2.1,(a.2.1.2.2.2.2.2.2.2.2.1,a.2.1.2.2.2.2.2.2.2.2.2.1)),a.2.1.2.2.2.2.2.2.2.2.2.2)))]),g.2.2.2.2))))))) λ_=>some (.dn (((0:Nat),(g,()))))) (((0:Int),(L.1,(L.2,(([]:List Job),next)))))=some (0,((((TH 0 L.2).length:Int),(L.1,(L.2,((TH 0 L.2).map (WW s L b),next)))),())):=by
 have I:=v.len;have F:=VX L.2 0;refine U8 (l:=TH 0 L.2) (σ:=List Job) (λi js=>((i:Int),(L.1,(L.2,(js,next))))) (λls i js=>js++ls.map (WW s L b)=(TH 0 L.2).map (WW s L b)) (λ_ _ _=>(0,((((TH 0 L.2).length:Int),(L.1,(L.2,((TH 0 L.2).map (WW s L b),next)))),()))) [] rfl (by omega) rfl (λjs h => ?_) (λi d ls js A hi C h => ?_)
 ·simp only;rw [re,Rd,<- h];simp
 ·refine ⟨js++[WW s L b d],?_,by rw [<- h];simp,rfl⟩;obtain ⟨n,J,K,k,E⟩:=Zb (List.mem_of_getElem? hi);have y:=e8 v (n:=n) (by rw [XJ.1 E];rfl);rw [<- k] at y
  have G:js.length<=1000:=by
   have z:=congrArg List.length h;rw [List.length_append,List.length_map,List.length_map] at z;omega
  simp only;rw [rl C,R5,S9,Sb hi];have j:US ((L.1,L.2),d)=some (WK L d,0):=y;rw [j,SL];refine Tf (gB B D L b hi) ?_;rw [UC (by simp only [BD,List.length_cons,List.length_nil];omega),TK (by omega)];rfl
end
section
open Go Go.Proofs.YtfilfloanndddaaGreat.Sv
theorem Yy {α β σ S:Type} {l:List α} (c:Nat) (n:c<=1000) (mk:Nat->σ->S) (I:Nat->σ->Prop) (Q:β->Prop) {f:S->Option (LR S β)} {s:S} (a:σ) (i:s=mk 0 a) (hi:I 0 a)
  (p : ∀ k a,(k=l.length\/k=c)->k<=l.length->I k a -> ∃ r,f (mk k a)=some (.dn r)/\Q r)
  (hc : ∀ k x a,l[k]? = some x->k<c->I k a->(∃ b,f (mk k a)=some (.nx (mk (k+1) b))/\I (k+1) b) \/ ∃ r,f (mk k a)=some (.dn r)/\Q r) : ∃ r,loop f s=some r/\Q r:=by
 refine WZ (l:=l.take c) mk (λ_ k a=>I k a/\k<=(l.take c).length) Q a i (by simp;omega) ⟨hi,by omega⟩ (λa h=>p _ a (by simp;omega) (by simp;omega) h.1) (λk x m a q e o h => ?_);have d:k<c:=by simp at o;omega
 have g:l[k]? = some x:=by rw [List.getElem?_take] at e;rw [if_pos d] at e;exact e
 rcases hc k x a g d h.1 with ⟨b,h1,j⟩ | h1
 ·exact .inl ⟨b,h1,j,by omega⟩
 ·exact .inr h1
theorem dx {k c:Nat} (h:k<c):SW (k:Int) (c:Int)=true:=by unfold SW;simp;omega
theorem mB {α β:Type} {l:List α} {k c:Nat} (h:k=l.length\/k=c) (b:k<=l.length) (A B C:Option β) (e:B=C):br (SW (k:Int) (l.length:Int)) (λ_=>br (SW (k:Int) (c:Int)) (λ_=>A) λ_=>B) (λ_=>C)=C:=by
 rw [Sr];by_cases a:(k:Int)<(l.length:Int)
 ·rw [if_pos a,Sr,if_neg (by omega),e]
 ·rw [if_neg a]
end
section
open Go Go.Proofs.YtfilfloanndddaaGreat.Sv
end
section
open Go Go.Proofs.YtfilfloanndddaaGreat.Sv
theorem gr (L:TB) (n:Nat):Wr (L,(n:Int))=some (TG L.2 n):=by
 unfold Wr;simp only [TI,TF];rw [So];by_cases h:n<L.2.length
 ·rw [if_neg (by omega),S9,Sb (Vw h)]
 ·rw [if_pos (by omega)];unfold TG;rw [List.getElem?_eq_none (by omega)];rfl
theorem Z3 {s:TA} (v:VSt s) (hf:fx s.1) {n:Nat} {j:Job} (ha:JobAt s.1 n j) (h0 : ¬ 0<TM s.1 j) (hc:Vs s.1 j=true) (h5:UQ j≠[]->s.2.2<=1000000) {X:Int} (D:X=(Xu s j:Int)) :
  (bd (VE ((s.1,((n:Int),[])))) λp=>br (SU (Kb (AS j.2.2.2.1)) 0) (λ_=>bd (Wr (p,X)) λw=>gd (CD (AS w) 1048576) λ_=>gd (CD (BD (AS w) (AS ([(s.2.2,j.2.2.2.1)]))) 1048576) λ_=>bd (VE ((p,(X,Ik w ([(s.2.2,j.2.2.2.1)]))))) λy=>bd (UE y) λq=>bd (loop (λ(c:(Int×(Int×((List (List Te))×((List (Int×(TC×((Bool×TE)×((List S8)×Int)))))×Int)))))=>br (SW c.1 (Kb (AS q))) (λ_=>RX c.1 λE=>ix q E λY=>bd (US (((c.2.1,c.2.2.1),Y))) λe=>bd (loop (λ(l:(Int×(Int×((List (List S8))×((List Int)×((List TE)×((List Int)×(Int×(Bool×((List UInt8)×(Bool×((List S8)×Int))))))))))))=>br (SW l.1 (Kb (AS s.2.1))) (λ_=>RX l.1 λG=>ix s.2.1 G λZ=>RX c.1 λI=>ix q I λx52=>br (RR Z.1 x52) (λ_=>RX c.1 λJ=>ix q J λx54=>br (RT x54 (n:Int)) (λ_=>RX l.1 λK=>ix s.2.1 K λg=>some (.nx ((Rl .i64 l.1 1,(g.1,(g.2.1.1,(g.2.1.2.1,(g.2.1.2.2.1,(g.2.1.2.2.2.1,(g.2.1.2.2.2.2,(g.2.2.1.1,(g.2.2.1.2.1,(g.2.2.1.2.2,g.2.2.2))))))))))))) λ_=>some (.nx (Rl .i64 l.1 1,l.2))) λ_=>some (.nx (Rl .i64 l.1 1,l.2))) λ_=>some (.dn ((0,(l,()))))) ((0,(e.1.1,(e.1.2.1.1,(e.1.2.1.2.1,(e.1.2.1.2.2.1,(e.1.2.1.2.2.2.1,(e.1.2.1.2.2.2.2,(e.1.2.2.1.1,(e.1.2.2.1.2.1,(e.1.2.2.1.2.2,e.1.2.2.2)))))))))))) λa=>gd (CD (BD (AS c.2.2.2.1) (AS ([(a.2.1.2.1,((a.2.1.2.2.1,(a.2.1.2.2.2.1,(a.2.1.2.2.2.2.1,(a.2.1.2.2.2.2.2.1,a.2.1.2.2.2.2.2.2.1)))),((a.2.1.2.2.2.2.2.2.2.1,(a.2.1.2.2.2.2.2.2.2.2.1,a.2.1.2.2.2.2.2.2.2.2.2.1)),a.2.1.2.2.2.2.2.2.2.2.2.2)))]))) 1048576) λ_=>some (.nx ((Rl .i64 c.1 1,(c.2.1,(c.2.2.1,(Ik c.2.2.2.1 ([(a.2.1.2.1,((a.2.1.2.2.1,(a.2.1.2.2.2.1,(a.2.1.2.2.2.2.1,(a.2.1.2.2.2.2.2.1,a.2.1.2.2.2.2.2.2.1)))),((a.2.1.2.2.2.2.2.2.2.1,(a.2.1.2.2.2.2.2.2.2.2.1,a.2.1.2.2.2.2.2.2.2.2.2.1)),a.2.1.2.2.2.2.2.2.2.2.2.2)))]),c.2.2.2.2))))))) λ_=>some (.dn ((0,(c,()))))) ((0,(y.1,(y.2,([],Rl .i64 s.2.2 1)))))) λz=>some ((((z.2.1.2.1,z.2.1.2.2.1),z.2.1.2.2.2),0))) λ_=>bd (UE p) λt=>bd (loop (λ(d:(Int×(Int×((List (List Te))×((List (Int×(TC×((Bool×TE)×((List S8)×Int)))))×Int)))))=>br (SW d.1 (Kb (AS t))) (λ_=>RX d.1 λN=>ix t N λx62=>bd (US (((d.2.1,d.2.2.1),x62))) λf=>bd (loop (λ(m:(Int×(Int×((List (List S8))×((List Int)×((List TE)×((List Int)×(Int×(Bool×((List UInt8)×(Bool×((List S8)×Int))))))))))))=>br (SW m.1 (Kb (AS s.2.1))) (λ_=>RX m.1 λO=>ix s.2.1 O λx66=>RX d.1 λP=>ix t P λx68=>br (RR x66.1 x68) (λ_=>RX d.1 λS=>ix t S λx70=>br (RT x70 (n:Int)) (λ_=>RX m.1 λU=>ix s.2.1 U λk=>some (.nx ((Rl .i64 m.1 1,(k.1,(k.2.1.1,(k.2.1.2.1,(k.2.1.2.2.1,(k.2.1.2.2.2.1,(k.2.1.2.2.2.2,(k.2.2.1.1,(k.2.2.1.2.1,(k.2.2.1.2.2,k.2.2.2))))))))))))) λ_=>some (.nx (Rl .i64 m.1 1,m.2))) λ_=>some (.nx (Rl .i64 m.1 1,m.2))) λ_=>some (.dn ((0,(m,()))))) ((0,(f.1.1,(f.1.2.1.1,(f.1.2.1.2.1,(f.1.2.1.2.2.1,(f.1.2.1.2.2.2.1,(f.1.2.1.2.2.2.2,(f.1.2.2.1.1,(f.1.2.2.1.2.1,(f.1.2.2.1.2.2,f.1.2.2.2)))))))))))) λb=>gd (CD (BD (AS d.2.2.2.1) (AS ([(b.2.1.2.1,((b.2.1.2.2.1,(b.2.1.2.2.2.1,(b.2.1.2.2.2.2.1,(b.2.1.2.2.2.2.2.1,b.2.1.2.2.2.2.2.2.1)))),((b.2.1.2.2.2.2.2.2.2.1,(b.2.1.2.2.2.2.2.2.2.2.1,b.2.1.2.2.2.2.2.2.2.2.2.1)),b.2.1.2.2.2.2.2.2.2.2.2.2)))]))) 1048576) λ_=>some (.nx ((Rl .i64 d.1 1,(d.2.1,(d.2.2.1,(Ik d.2.2.2.1 ([(b.2.1.2.1,((b.2.1.2.2.1,(b.2.1.2.2.2.1,(b.2.1.2.2.2.2.1,(b.2.1.2.2.2.2.2.1,b.2.1.2.2.2.2.2.2.1)))),((b.2.1.2.2.2.2.2.2.2.1,(b.2.1.2.2.2.2.2.2.2.2.1,b.2.1.2.2.2.2.2.2.2.2.2.1)),b.2.1.2.2.2.2.2.2.2.2.2.2)))]),d.2.2.2.2))))))) λ_=>some (.dn ((0,(d,()))))) ((0,(p.1,(p.2,([],s.2.2)))))) λA=>some ((((A.2.1.2.1,A.2.1.2.2.1),A.2.1.2.2.2),0)):Option (TA×Int))=some (YL s (VV s j) (Xf s j) j.1,0):=by
 have F:=dy v hf ha h0 hc h5;obtain ⟨o1,o2,W,o4,o5⟩:=ha.out v.lev (hf n);have hj:j.1.toNat=n:=by rw [W];simp
 have hn2:=v.n2;have hn1:=v.n1;have hjs:=v.jsmall;have o:=F.lev;have hl:=v.lev.len;have hl1:=F.l1.len;have small : ∀ {M:TB},VLev M -> ∀ i,(TG M.2 i).length<=1048576:=λvM i=>by have:=(vM.own i).1;omega
 rw [bx (by omega) (by omega) (by simp) (small v.lev),SL];simp only [TI,TF];rw [Sp];by_cases u:UQ j=[]
 ·rw [if_neg (show ¬ ((j.2.2.2.1.length:Int)>0) by rw [show j.2.2.2.1=[] from u];simp)];have B:VV s j=UR s.1 n []:=by unfold VV;rw [if_pos u,hj]
  have C:Xf s j=s.2.2:=by unfold Xf;rw [if_pos u]
  rw [<- B,Zc (by have:=o.len;omega),SL];refine Tf (Zk v.nodup (by omega) o s.2.2 (n:Int)) ?_;rw [C,W];rfl
 ·rw [if_pos (show ((j.2.2.2.1.length:Int)>0) by have:=List.length_pos_iff.2 u;have h:(UQ j).length=j.2.2.2.1.length:=rfl;omega),D,gr,SL];have hro:=F.room u;have ht:=F.to12 u
  have B:VV s j=UR (UR s.1 n []) (Xu s j) (TG (UR s.1 n []).2 (Xu s j)++[(s.2.2,UQ j)]):=by
   unfold VV;rw [if_neg u,hj]
  have C:Xf s j=s.2.2+1:=by unfold Xf;rw [if_neg u]
  rw [UC (by omega),UC (by simp only [BD,List.length_cons,List.length_nil];omega)];have hW:=bx (L:=UR s.1 n []) (n:=Xu s j) (r:=TG (UR s.1 n []).2 (Xu s j)++[(s.2.2,UQ j)]) (by omega) (by omega) (by simp;omega) (small F.l1);rw [<- B] at hW;refine Tf (x:=VV s j) hW ?_;rw [Zc (by have:=o.len;omega),SL,R9 (by omega)];refine Tf (Zk v.nodup (by omega) o (s.2.2+1) (n:Int)) ?_;rw [C,W];rfl
theorem bw {s:TA} (m:Sm s) (l:fx s.1) (a:Int):WX (s,a)=some (WJ zS YV s a):=by
 unfold WX;rw [cm m,SL,YJ m,bA m];unfold WJ;by_cases b:(TD s).2=0;rotate_left
 ·rw [if_pos b,Ss,if_neg b,if_pos b];rfl
 rw [if_neg (show ¬ (TD s).2≠0 by simp [b]),if_neg (show ¬ (TD s).2≠0 by simp [b]),if_neg (show ¬ (TD s).2≠0 by simp [b])];have v:=TJ.1 b;unfold ZW Vz;rw [if_neg (show ¬ (TD s).2≠0 by simp [b])];cases q:Yd a 0 (TH 0 s.1.2) with
 | none=>rfl
 | some i =>
  obtain ⟨j,n,o,p,f,k,r⟩:=v.at q;have:=v.lev.len;subst p;simp only [o];unfold YV Y9;by_cases c:0<TM s.1 j
  ·rw [if_pos c,if_pos (.inl c)];rfl
  rw [if_neg c]
  have g:(if Vh s.1 j=true then (j.1,(0:Int)) else (j.1+1,0))=((Xu s j:Int),0):=by
   unfold Xu;split<;>rw [f]<;>simp
  rw [g,Ss,if_pos rfl,SL,S9,Sb o,SL,Tq,Sx];by_cases hc:Vs s.1 j=true;rotate_left
  ·rw [if_neg hc,if_pos (.inr (by simpa using hc))];rfl
  rw [if_pos hc,if_neg (show ¬ (0<TM s.1 j\/Vs s.1 j=false) by rw [hc];simp;omega),Sp];by_cases e:s.2.2>1000000
  ·rw [if_pos e,Sp];by_cases d:UQ j=[]
   ·rw [if_neg (show ¬ (Kb (AS j.2.2.2.1)>0) by rw [show j.2.2.2.1=[] from d];simp [TI,TF]),if_neg (by simp [d])];dsimp only;exact Z3 v l k c hc (λh=>absurd d h) rfl
   ·rw [if_pos (show Kb (AS j.2.2.2.1)>0 by have:=List.length_pos_iff.2 d;have h:(UQ j).length=j.2.2.2.1.length:=rfl;rw [TI,TF];omega),if_pos ⟨e,d⟩];rfl
  ·rw [if_neg e,if_neg (by simp [e])];dsimp only;exact Z3 v l k c hc (λh=>by omega) rfl
theorem ez {s:TA} (m:Sm s) (f:fx s.1) (a:Int):Xz (s,a)=some (Uv s a):=by
 unfold Xz;rw [bA m,SL,Xr m,bw m f];unfold WJ Uv;by_cases b:(TD s).2=0;rotate_left
 ·rw [if_pos b,if_pos b,Sn,if_neg b];rw [Ss,if_neg b,if_pos b];rfl
 rw [if_neg (show ¬ (TD s).2≠0 by simp [b]),if_neg (show ¬ (TD s).2≠0 by simp [b]),if_neg (show ¬ (TD s).2≠0 by simp [b]),if_neg (show ¬ (TD s).2≠0 by simp [b])];have v:=TJ.1 b;unfold ZW;cases e:Yd a 0 (TH 0 s.1.2) with
 | none =>
  simp only;rw [Sn,if_neg (by omega),Ss,if_neg (by omega)];rfl
 | some i =>
  obtain ⟨j,n,d,k,g,h,l⟩:=v.at e;simp only [d];unfold Xb;rw [Sn,if_pos rfl,Tq,Sx];by_cases hc:Vs s.1 j=true;rotate_left
  ·rw [if_neg hc,if_pos (by simpa using hc)];rfl
  rw [if_pos hc,if_neg (by simp [hc]),Ss,if_pos rfl,SL,Sp];by_cases c:0<TM s.1 j
  ·rw [if_pos (show ((TM s.1 j:Int))>0 by omega),if_pos c,fA m v e d c];rfl
  ·rw [if_neg (show ¬ ((TM s.1 j:Int))>0 by omega),if_neg c];rfl
end
section
open Go Go.Proofs.YtfilfloanndddaaGreat.Sv
def UF (l:List S8) (k:XC):Option S8:=l.find? λx=>decide (x.1=k)
theorem UK (x:S8) (l:List S8) (k:XC):UF (x::l) k=if x.1=k then some x else UF l k:=by
 unfold UF;rw [List.find?_cons];by_cases h:x.1=k<;>simp [h]
theorem Yt (l m:List S8) (k:XC):UF (l++m) k=(UF l k).or (UF m k):=by
 unfold UF;rw [List.find?_append]
theorem Xk (x:S8) (k:XC):UF [x] k=if x.1=k then some x else none:=by rw [UK];rfl
theorem ba {l:List S8} {k:XC} {x:S8} (h:UF l k=some x):x.1=k/\x∈l:=by
 unfold UF at h;exact ⟨by simpa using List.find?_some h,List.mem_of_find?_eq_some h⟩
theorem Xj {l:List S8} {k:XC} (h : ∀ x∈l,x.1≠k):UF l k=none:=by
 unfold UF;rw [List.find?_eq_none];intro x a;simpa using h x a
theorem Yb : ∀ {l:List S8} {q:XC},Asc (some q) l -> ∀ x∈l,Rz q x.1=true
 | x::l,q,⟨a,b⟩,y,hy=>by
  rcases List.mem_cons.1 hy with e | hy
  ·rw [e];exact a q rfl
  ·exact WI (a q rfl) (Yb b y hy)
theorem dk : ∀ {l m:List S8} {p q:Option XC},Asc p l->Asc q m->(∀ k,UF l k=UF m k)->l=m
 | [],[],_,_,_,_,_=>rfl
 | [],y::m,_,_,_,_,h=>by
  have:=h y.1;rw [UK,if_pos rfl] at this;cases this
 | x::l,[],_,_,_,_,h=>by
  have:=h x.1;rw [UK,if_pos rfl] at this;cases this
 | x::l,y::m,p,q,⟨t,f⟩,⟨s,d⟩,h=>by
  have e1:=h x.1;have e2:=h y.1;rw [UK,if_pos rfl,UK] at e1;rw [UK,UK,if_pos rfl] at e2
  have g:x.1=y.1:=by
   by_cases b:y.1=x.1
   ·exact b.symm
   ·rw [if_neg b] at e1;rw [if_neg (λe=>b e.symm)] at e2;have n:=Yb d x (ba e1.symm).2;have j:=Yb f y (ba e2).2;rw [Uu n] at j;cases j
  rw [if_pos g.symm] at e1;have c:x=y:=Option.some.inj e1;subst c;refine congrArg (x::·) (dk f d λk => ?_);have b:=h k;rw [UK,UK] at b;by_cases a:x.1=k
  ·have o:UF l k=none:=Xj λz i=>by
    have:=Yb f z i;rw [a] at this;exact λe=>YK this e.symm
   have r:UF m k=none:=Xj λz i=>by
    have:=Yb d z i;rw [a] at this;exact λe=>YK this e.symm
   rw [o,r]
  ·rw [if_neg a,if_neg a] at b;exact b
theorem Ya (P:S8->Bool) : ∀ {l:List S8} {p:Option XC},Asc p l->Asc p (l.filter P)
 | [],_,_=>trivial
 | x::l,p,⟨b,d⟩=>by
  have c:=Ya P d;rw [List.filter_cons];cases P x with
  | true=>exact ⟨b,c⟩
  | false =>
   refine c.weak λe a=>⟨x.1,rfl,?_⟩;exact Uu (b e a)
theorem YE (P:S8->Bool) (k:XC) : ∀ {l:List S8} {p:Option XC},Asc p l->UF (l.filter P) k=(UF l k).filter P
 | [],_,_=>rfl
 | x::l,p,⟨h,c⟩=>by
  have d:=YE P k c;rw [List.filter_cons,UK];by_cases a:x.1=k
  ·rw [if_pos a]
   have f:UF (l.filter P) k=none:=Xj λz g=>by
    have:=Yb c z (List.mem_filter.1 g).1;rw [a] at this;exact λe=>YK this e.symm
   cases b:P x with
   | true=>rw [if_pos rfl,UK,if_pos a];simp [Option.filter,b]
   | false=>rw [if_neg (by simp),f];simp [Option.filter,b]
  ·rw [if_neg a];cases b:P x with
   | true=>rw [if_pos rfl,UK,if_neg a];exact d
   | false=>simpa using d
def ZU:List S8->S8->List S8
 | [],x=>[x]
 | y::l,x=>if Rz y.1 x.1=true then y::ZU l x else if y.1=x.1 then y::l else x::y::l
theorem bI (x:S8) : ∀ {l:List S8} {p:Option XC},Asc p l->(∀ q,p=some q->Rz q x.1=true)->Asc p (ZU l x)
 | [],p,_,hp=>⟨hp,trivial⟩
 | y::l,p,⟨d,a⟩,hp=>by
  unfold ZU;by_cases h:Rz y.1 x.1=true
  ·rw [if_pos h];exact ⟨d,bI x a λq c=>by cases c;exact h⟩
  ·rw [if_neg h];by_cases b:y.1=x.1
   ·rw [if_pos b];exact ⟨d,a⟩
   ·rw [if_neg b];exact ⟨hp,λq c=>by cases c;exact Yl (by simpa using h) b,a⟩
theorem bJ (x:S8) (k:XC) : ∀ {l:List S8} {p:Option XC},Asc p l->UF (ZU l x) k=(UF l k).or (if x.1=k then some x else none)
 | [],_,_=>by unfold ZU;rw [Xk];rfl
 | y::l,p,⟨f,d⟩=>by
  unfold ZU;by_cases h:Rz y.1 x.1=true
  ·rw [if_pos h,UK,UK,bJ x k d];split<;>rfl
  ·rw [if_neg h];by_cases b:y.1=x.1
   ·rw [if_pos b,UK,<- b];by_cases a:y.1=k
    ·rw [if_pos a];rfl
    ·rw [if_neg a,if_neg a];cases UF l k<;>rfl
   ·rw [if_neg b,UK];have c:Rz x.1 y.1=true:=Yl (by simpa using h) b;by_cases a:x.1=k
    ·rw [if_pos a]
     have:UF (y::l) k=none:=Xj λz hz=>by
      rw [<- a];rcases List.mem_cons.1 hz with e | hz
      ·rw [e];exact b
      ·exact λe=>YK (WI c (Yb d z hz)) e.symm
     rw [this,if_pos a];rfl
    ·rw [if_neg a,if_neg a];cases UF (y::l) k<;>rfl
theorem dj (k:XC) : ∀ (r l:List S8),Asc none l->Asc none (r.foldl ZU l)/\UF (r.foldl ZU l) k=(UF l k).or (UF r k)
 | [],l,h=>⟨h,by show UF l k=_;cases UF l k<;>rfl⟩
 | x::r,l,h=>by
  obtain ⟨a,b⟩:=dj k r (ZU l x) (bI x h λ_ h=>by cases h);refine ⟨a,?_⟩;rw [List.foldl_cons,b,bJ x k h,UK,Option.or_assoc]
  congr 1
  split<;>rfl
def eK (rs:List Te) (l:List S8):List S8:=rs.foldl (λout r=>r.2.foldl ZU out) l
def U7:List Te->XC->Option S8
 | [],_=>none
 | r::rs,k=>(UF r.2 k).or (U7 rs k)
theorem ad (k:XC) : ∀ (rs:List Te) (l:List S8),Asc none l->Asc none (eK rs l)/\UF (eK rs l) k=(UF l k).or (U7 rs k)
 | [],l,h=>⟨h,by show UF l k=_;cases UF l k<;>rfl⟩
 | r::rs,l,h=>by
  obtain ⟨a,b⟩:=dj k r.2 l h;obtain ⟨c,d⟩:=ad k rs (r.2.foldl ZU l) a;refine ⟨c,?_⟩;show UF (eK rs (r.2.foldl ZU l)) k=_;rw [d,b,Option.or_assoc];rfl
def W9 (x:S8):Bool := !x.2.2.1
def K7 (L:TB):List S8:=(eK (Ui L.2) []).filter W9
theorem gL {L M:TB} (h : ∀ k,(U7 (Ui L.2) k).filter W9=(U7 (Ui M.2) k).filter W9):K7 L=K7 M:=by
 have a:=λk=>ad k (Ui L.2) [] trivial;have b:=λk=>ad k (Ui M.2) [] trivial;refine dk (Ya W9 (a []).1) (Ya W9 (b []).1) λk => ?_;show UF ((eK (Ui L.2) []).filter W9) k=UF ((eK (Ui M.2) []).filter W9) k;rw [YE W9 k (a []).1,YE W9 k (b []).1,(a k).2,(b k).2];exact h k
theorem bj : ∀ (a b:List Te) (k:XC),U7 (a++b) k=(U7 a k).or (U7 b k)
 | [],b,k=>rfl
 | r::a,b,k=>by
  show (UF r.2 k).or (U7 (a++b) k)=((UF r.2 k).or (U7 a k)).or (U7 b k);rw [bj a b k,Option.or_assoc]
theorem eB : ∀ {l:List S8} {s:UI} {k:XC},ZA s l->s.1=true->Rz k s.2.1=true->UF l k=none
 | [],_,_,_,_,_=>rfl
 | x::l,s,k,⟨_,c,d⟩,b,hk=>by
  have a:Rz k x.1=true:=cO hk (c b);rw [UK,if_neg (λe=>YK a e.symm)];exact eB d rfl a
theorem bW (k:XC) : ∀ {l:List S8} {s:UI},ZA s l->UF (Vx s l) k=if s.1=true/\s.2.1=k then none else (UF l k).filter λx => !(s.2.2&&x.2.2.1)
 | [],s,_=>by unfold Vx;split<;>rfl
 | x::l,s,⟨_,g,c⟩=>by
  have f:=bW k c;simp only [true_and] at f;unfold Vx;rw [Yt,f,UK];by_cases a:x.1=k
  ·rw [if_pos a,if_pos a];by_cases hs:s.1=true/\s.2.1=k
   ·rw [if_pos hs];have:keep s x=false:=by unfold keep;rw [hs.1,hs.2,a];simp
    rw [this];rfl
   ·rw [if_neg hs]
    have:keep s x = !(s.2.2&&x.2.2.1):=by
     unfold keep
     have:(s.1&&decide (x.1=s.2.1))=false:=by
      cases b:s.1 with
      | false=>rfl
      | true =>
       simp only [Bool.true_and,decide_eq_false_iff_not];intro e;exact hs ⟨b,by rw [<- e];exact a⟩
     rw [this];rfl
    rw [this];cases d:(!(s.2.2&&x.2.2.1)) with
    | true=>rw [if_pos rfl,Xk,if_pos a];simp [Option.filter,d]
    | false=>rw [if_neg (by simp)];simp [Option.filter,d,UF]
  ·rw [if_neg a,if_neg a]
   have b:UF (if keep s x=true then [x] else []) k=none:=by
    split
    ·rw [Xk,if_neg a]
    ·rfl
   rw [b,Option.none_or];by_cases hs:s.1=true/\s.2.1=k
   ·rw [if_pos hs]
    have h:Rz k x.1=true:=by
     rw [<- hs.2];refine Yl (g hs.1) λe=>a ?_;rw [e];exact hs.2
    rw [eB c rfl h];rfl
   ·rw [if_neg hs]
theorem Zw {a b:List S8} (va:VL a) (l:VL b) (k:XC) : ∀ {n:Nat},n<=a.length+b.length->UF (TX a b n) k=(UF (a.take (TP a b n).1) k).or (UF (b.take (TP a b n).2) k)
 | 0,_=>rfl
 | n+1,h=>by
  have G:=Zw va l k (n:=n) (by omega);obtain ⟨q,hs⟩:=WA va l (n:=n) (by omega);obtain ⟨x,c,_⟩:=Vb va l (n:=n) (by omega);rw [Wa va l c,Yt,G,Xk];unfold ZS at c;rw [show TP a b (n+1)=if XN a b (TP a b n).1 (TP a b n).2=true then ((TP a b n).1+1,(TP a b n).2) else ((TP a b n).1,(TP a b n).2+1) from rfl]
  revert c q;generalize (TP a b n).1=i;generalize (TP a b n).2=j;intro q c;cases g:XN a b i j with
  | true =>
   rw [if_pos g] at c;rw [if_pos rfl];simp only;rw [List.take_add_one,c,Option.toList_some,Yt,Xk,Option.or_assoc,Option.or_assoc]
   congr 1
   by_cases r:x.1=k
   ·rw [if_pos r]
    have:UF (b.take j) k=none:=Xj λy F=>by
     obtain ⟨m,o⟩:=List.getElem?_of_mem F;rw [List.getElem?_take] at o;split at o
     ·rename_i E;have D:=q.jb;have f:b[j-1]? = some b[j-1]:=List.getElem?_eq_getElem (by omega);have B:=q.pb (j-1) (by omega) _ x f c
      have C:Rz b[j-1].1 y.1=false:=by
       by_cases s:m=j-1
       ·subst s;rw [f] at o;cases o;exact W4 _
       ·have A:=l.asc
        have : ∀ d,m+d+1<=j-1 -> ∀ z,b[m+d+1]? = some z->Rz y.1 z.1=true:=by
         intro d
         induction d with
         | zero=>intro _ z t;exact l.lt o t
         | succ d u =>
          intro I z t;have p:b[m+d+1]? = some b[m+d+1]:=List.getElem?_eq_getElem (by omega);exact WI (u (by omega) _ p) (l.lt p t)
        exact Uu (this (j-1-m-1) (by omega) _ (by rw [show m+(j-1-m-1)+1=j-1 by omega];exact f))
      intro e;have w:Rz y.1 x.1=true:=Z9 C B;rw [e,r,W4] at w;cases w
     ·cases o
    rw [this];rfl
   ·rw [if_neg r];cases UF (b.take j) k<;>rfl
  | false =>
   rw [if_neg (show ¬ XN a b i j=true by rw [g];decide)] at c;rw [if_neg (show ¬ (false=true) by decide)];simp only;rw [List.take_add_one,c,Option.toList_some,Yt,Xk,Option.or_assoc]
theorem mL {a b:List S8} (va:VL a) (e:VL b) (c:Bool) (k:XC):UF (U9 a b c (a.length+b.length)).2.2.1 k=((UF a k).or (UF b k)).filter λx => !(c&&x.2.2.1):=by
 have f:=W3 va e c (Nat.le_refl (a.length+b.length));obtain ⟨d,hs⟩:=WA va e (Nat.le_refl (a.length+b.length));show UF (Vx (s0 c) (TX a b (a.length+b.length))) k=_;rw [bW k f,if_neg (by simp),Zw va e k (Nat.le_refl _)];rw [List.take_of_length_le (by have:=d.ia;have:=d.jb;omega),List.take_of_length_le (by have:=d.ia;have:=d.jb;omega)]
end
section
open Go Go.Proofs.YtfilfloanndddaaGreat.Sv
def Yx (f:Nat->Option S8):Nat->Nat->Option S8
 | _,0=>none
 | i,m+1=>(f i).or (Yx f (i+1) m)
theorem d6 (f:Nat->Option S8) : ∀ (m i:Nat),Yx f (i+1) m=Yx (λj=>f (j+1)) i m
 | 0,_=>rfl
 | m+1,i=>by
  show (f (i+1)).or (Yx f (i+1+1) m)=(f (i+1)).or (Yx (λj=>f (j+1)) (i+1) m);rw [d6 f m (i+1)]
theorem Xl {f g:Nat->Option S8} : ∀ (m i:Nat),(∀ j,i<=j->j<i+m->f j=g j)->Yx f i m=Yx g i m
 | 0,_,_=>rfl
 | m+1,i,h=>by
  show (f i).or (Yx f (i+1) m)=(g i).or (Yx g (i+1) m);rw [h i (by omega) (by omega),Xl m (i+1) λj a b=>h j (by omega) (by omega)]
theorem aq : ∀ (m i:Nat),Yx (λ_=>none) i m=none
 | 0,_=>rfl
 | m+1,i=>by show (none:Option S8).or _=_;rw [Option.none_or];exact aq m (i+1)
theorem Zs (f:Nat->Option S8) : ∀ (p i q:Nat),Yx f i (p+q)=(Yx f i p).or (Yx f (i+p) q)
 | 0,i,q=>by rw [Nat.zero_add];rfl
 | p+1,i,q=>by
  rw [show p+1+q=(p+q)+1 by omega];show (f i).or (Yx f (i+1) (p+q))=((f i).or (Yx f (i+1) p)).or (Yx f (i+(p+1)) q);rw [Zs f p (i+1) q,Option.or_assoc,show i+1+p=i+(p+1) by omega]
theorem ZJ (k:XC) : ∀ (ls:List (List Te)) (K:Nat),ls.length<=K->U7 (Ui ls) k=Yx (λj=>U7 (TG ls j).reverse k) 0 K
 | [],K,_=>by
  have:(λj=>U7 (TG [] j).reverse k)=λ_=>none:=by
   funext j;have:TG [] j=[]:=rfl
   rw [this];rfl
  rw [this,aq];rfl
 | rs::ls,0,h=>by simp at h
 | rs::ls,K+1,h=>by
  have e:Ui (rs::ls)=rs.reverse++Ui ls:=rfl;rw [e,bj,ZJ k ls K (by simpa using h)];show _=(U7 (TG (rs::ls) 0).reverse k).or (Yx (λj=>U7 (TG (rs::ls) j).reverse k) (0+1) K);rw [d6];rfl
theorem eX {s:TA} (v:VSt s) (C:fx s.1) {n:Nat} {j:Job} (r:JobAt s.1 n j) (E : ¬ 0<TM s.1 j) (hc:Vs s.1 j=true) (G:UQ j≠[]->s.2.2<=1000000):K7 (VV s j)=K7 s.1:=by
 have F:=dy v C r E hc G;obtain ⟨W,X,L,Y,Z⟩:=r.out v.lev (C n);have d:j.1.toNat=n:=by rw [L];simp
 obtain ⟨b,c,q,m,B,f,P,t,M,N⟩:=r;have K:=XJ.1 B
 have O:TM s.1 j=c.2.length+b.2.length-m:=by
  rw [f];unfold TM;simp only [Int.toNat_natCast,B];show c.2.length+b.2.length-((m:Int)).toNat=_;rw [Int.toNat_natCast]
 have u:m=c.2.length+b.2.length:=by omega
 subst u
 have p : ∀ k,UF (UQ j) k=((UF c.2 k).or (UF b.2 k)).filter λx => !(q&&x.2.2.1):=λk=>by
  rw [f];exact mL N M q k
 refine gL λk => ?_;have S:=F.lev.len;have U:=v.lev.len;rw [ZJ k _ 14 (by omega),ZJ k _ 14 (by omega)];rw [show 14=n+(1+(13-n)) by omega,Zs,Zs _ n 0];have w:Xu s j=n\/Xu s j=n+1:=by unfold Xu;rw [d];split<;>omega
 have l:Yx (λi=>U7 (TG (VV s j).2 i).reverse k) 0 n=Yx (λi=>U7 (TG s.1.2 i).reverse k) 0 n:=Xl _ _ λi _ hi=>by
  rw [Vm d,if_neg (by rintro ⟨_,h⟩;omega),if_neg (by omega)]
 rw [l];generalize Yx (λi=>U7 (TG s.1.2 i).reverse k) 0 n=A
 have y:Yx (λi=>U7 (TG (VV s j).2 i).reverse k) (0+n) (1+(13-n))=(UF (UQ j) k).or (Yx (λi=>U7 (TG s.1.2 i).reverse k) (n+1) (13-n)):=by
  rw [Nat.zero_add,Nat.add_comm 1];show (U7 (TG (VV s j).2 n).reverse k).or (Yx (λi=>U7 (TG (VV s j).2 i).reverse k) (n+1) (13-n))=_;by_cases a:UQ j=[]
  ·rw [Vm d,if_neg (by simp [a]),if_pos rfl,a];refine congrArg _ (Xl _ _ λi hi _ => ?_);rw [Vm d,if_neg (by simp [a]),if_neg (by omega)]
  ·rcases w with ht | ht
   ·rw [Vm d,if_pos ⟨a,ht.symm⟩,if_pos rfl]
    have e:U7 (([]:List Te)++[(s.2.2,UQ j)]).reverse k=UF (UQ j) k:=by
     show (UF (UQ j) k).or none=_;cases UF (UQ j) k<;>rfl
    rw [e];refine congrArg _ (Xl _ _ λi hi _ => ?_);rw [Vm d,if_neg (by rintro ⟨_,h⟩;omega),if_neg (by omega)]
   ·rw [Vm d,if_neg (by rintro ⟨_,h⟩;omega),if_pos rfl];have D:=F.to12 a;rw [show 13-n=(12-n)+1 by omega];show (none:Option S8).or ((U7 (TG (VV s j).2 (n+1)).reverse k).or (Yx _ (n+1+1) (12-n)))=(UF (UQ j) k).or ((U7 (TG s.1.2 (n+1)).reverse k).or (Yx _ (n+1+1) (12-n)));rw [Vm d,if_pos ⟨a,ht.symm⟩,if_neg (by omega),List.reverse_append,Option.none_or];have e:U7 ([(s.2.2,UQ j)].reverse++(TG s.1.2 (n+1)).reverse) k=(UF (UQ j) k).or (U7 (TG s.1.2 (n+1)).reverse k):=rfl;rw [e,Option.or_assoc];refine congrArg _ (congrArg _ (Xl _ _ λi hi _ => ?_));rw [Vm d,if_neg (by rintro ⟨_,h⟩;omega),if_neg (by omega)]
 have o:Yx (λi=>U7 (TG s.1.2 i).reverse k) (0+n) (1+(13-n))=((UF c.2 k).or (UF b.2 k)).or (Yx (λi=>U7 (TG s.1.2 i).reverse k) (n+1) (13-n)):=by
  rw [Nat.zero_add,Nat.add_comm 1];show (U7 (TG s.1.2 n).reverse k).or _=_;rw [K];refine congrArg (λz=>Option.or z _) ?_;show (UF c.2 k).or ((UF b.2 k).or none)=_;cases UF b.2 k<;>rfl
 rw [y,o,p k];cases q with
 | false =>
  have:((UF c.2 k).or (UF b.2 k)).filter (λx => !(false&&x.2.2.1))=(UF c.2 k).or (UF b.2 k):=by
   cases (UF c.2 k).or (UF b.2 k)<;>simp [Option.filter]
  rw [this]
 | true =>
  have I:Yx (λi=>U7 (TG s.1.2 i).reverse k) (n+1) (13-n)=none:=by
   rw [Xl (g:=λ_=>none) _ _ λi hi _ => ?_,aq];have:TG s.1.2 i=[]:=by unfold TG;rw [List.getElem?_eq_none (by have:=t rfl;omega)];rfl
   rw [this];rfl
  rw [I];cases A with
  | some x=>rfl
  | none =>
   cases (UF c.2 k).or (UF b.2 k) with
   | none=>rfl
   | some x =>
    cases J:x.2.2.1<;>simp [Option.filter,W9,J]
end
section
open Go Go.Proofs.YtfilfloanndddaaGreat.Sv
end
section
open Go Go.Proofs.YtfilfloanndddaaGreat.Sv
end
section
open Go Go.Proofs.YtfilfloanndddaaGreat.Sv
def UY (l:List Te):Nat:=(l.map λr=>r.2.length).sum
theorem Wz (r:Te) (l:List Te):UY (r::l)=r.2.length+UY l:=by simp [UY]
theorem VW (l m:List Te):UY (l++m)=UY l+UY m:=by simp [UY]
theorem dq {l:List Te} (h : ∀ r∈l,r.2.length<=5000):UY l<=l.length*5000:=by
 induction l with
 | nil=>simp [UY]
 | cons r l b =>
  rw [Wz,List.length_cons];have:=h r (by simp);have:=b λx a=>h x (by simp [a]);omega
theorem l7 {s:TA} (m:Sm s) (a:Int):YD (s,a)=some (WJ 0 (λs j=>((TM s.1 j:Int),0)) s a):=by
 unfold YD;rw [ZZ m,SL];unfold WJ ZW Vz;by_cases b:(TD s).2=0;rotate_left
 ·rw [if_pos b,Ss,if_neg b,if_pos b]
 rw [if_neg (show ¬ (TD s).2≠0 by simp [b]),if_neg (show ¬ (TD s).2≠0 by simp [b])];have v:=TJ.1 b;cases e:Yd a 0 (TH 0 s.1.2) with
 | none=>rfl
 | some i =>
  obtain ⟨j,n,c,g,f,d,h⟩:=v.at e;simp only [c];rw [Ss,if_pos rfl,S9,Sb c,(JobAt.left d).1,SL]
def Yq (s:TA) (d:Int):Nat:=match ZW s d with
 | some j=>TM s.1 j+1
 | none=>0
theorem VSt.debt {s:TA} (v:VSt s) {d:Int} (h:d∈TH 0 s.1.2) (m:Sm s):Zm (s,d)=some ((Yq s d:Int),0)/\We (s,d)=some ((Yq s d:Int),0)/\Yq s d<=10001:=by
 obtain ⟨j,n,b,g,i,c,l⟩:=v.atDue h;have f:(TD s).2=0:=TJ.2 v;have e:Yq s d=TM s.1 j+1:=by unfold Yq;rw [b]
 have k:=(JobAt.left c).2.2
 have a:WJ (0:Int) (λs j=>((TM s.1 j:Int),0)) s d=((TM s.1 j:Int),0):=by
  unfold WJ;rw [if_neg (show ¬ (TD s).2≠0 by simp [f]),b]
 unfold Zm We;rw [l7 m,Xr m,a,e,SL];simp only [SL];rw [Ss,if_pos rfl,R9 (by omega)];exact ⟨rfl,rfl,by omega⟩
end
section
open Go Go.Proofs.YtfilfloanndddaaGreat.Sv
end
section
open Go Go.Proofs.YtfilfloanndddaaGreat.Sv
end
section
open Go Go.Proofs.YtfilfloanndddaaGreat.Sv
end
section
open Go Go.Proofs.YtfilfloanndddaaGreat.Sv
end
section
open Go Go.Proofs.YtfilfloanndddaaGreat.Sv
end
section
open Go Go.Proofs.YtfilfloanndddaaGreat.Sv
def Gd (s0 s:TA):Prop:=VSt s/\K7 s.1=K7 s0.1/\UY s.1.2.flatten<=2000
theorem l9 {l:List Te} {r:Te} (h:r∈l):r.2.length<=UY l:=by
 induction l with
 | nil=>cases h
 | cons x l a =>
  rw [Wz];rcases List.mem_cons.1 h with e | h
  ·rw [e];omega
  ·have:=a h;omega
theorem Yr {L:TB} (h:UY L.2.flatten<=2000):fx L:=λi r a=>by
 have:=l9 (Zv.2 ⟨i,a⟩);omega
theorem bR {s:TA} (v:VSt s) (h:fx s.1) {n:Nat} {j:Job} (g:JobAt s.1 n j) (E : ¬ 0<TM s.1 j):UY (VV s j).2.flatten<=UY s.1.2.flatten:=by
 obtain ⟨G,I,y,J,K⟩:=g.out v.lev (h n);have w:j.1.toNat=n:=by rw [y];simp
 have a:=h n;obtain ⟨d,e,m,k,u,c,x,F,B,C⟩:=g;have i:=XJ.1 u;rw [i] at a;have D:=a d (by simp);have f:=a e (by simp)
 have l:(UQ j).length<=e.2.length+d.2.length:=by
  rw [c];exact (gY C B m x (by omega)).2
 obtain ⟨p,q,f,o⟩:=XM s.1 n []
 have e1:UY s.1.2.flatten=UY p+((d.2.length+e.2.length)+UY q):=by
  rw [f,i,VW,VW,Wz,Wz];simp [UY]
 have e2:UY (UR s.1 n []).2.flatten=UY p+UY q:=by rw [o,VW,VW];simp [UY]
 unfold VV;rw [w];by_cases b:UQ j=[]
 ·rw [if_pos b];omega
 ·rw [if_neg b];obtain ⟨z,A,r,t⟩:=XM (UR s.1 n []) (Xu s j) (TG (UR s.1 n []).2 (Xu s j)++[(s.2.2,UQ j)]);have e3:UY (UR s.1 n []).2.flatten=UY z+(UY (TG (UR s.1 n []).2 (Xu s j))+UY A):=by rw [r,VW,VW]
  rw [t,VW,VW,VW,Wz];simp only [UY,List.map_nil,List.sum_nil];simp only [UY] at e3 e2 e1;omega
theorem dt {s:TA} (v:VSt s) {d:Int} (h:d∈TH 0 s.1.2) : ∃ (i:Nat) (j:Job) (n:Nat),Yd d 0 (TH 0 s.1.2)=some i/\s.2.1[i]? = some j/\d=(n:Int)/\j.1=(n:Int)/\JobAt s.1 n j:=by
 obtain ⟨i,hi⟩:=al (k:=0) h;obtain ⟨j,n,a,b,c,d,_⟩:=v.at hi;exact ⟨i,j,n,hi,a,b,c,d⟩
theorem eU {s0 s:TA} (g:Gd s0 s) {d:Int} (h:d∈TH 0 s.1.2) : ∃ (c:Bool) (t:TA) (b:Bool) (e:Int),W5 (s,d)=some (c,0)/\TW (s,d)=some (t,(b,e))/\(s.2.2<=1000000->c=decide (e=0))/\(e=0->Gd s0 t):=by
 obtain ⟨v,z,hc⟩:=g;have r:=Yr hc;have m:=v.sm;obtain ⟨i,j,n,hi,y,C,w,q⟩:=dt v h;have A:(TD s).2=0:=TJ.2 v;have o:ZW s d=some j:=by unfold ZW;rw [hi];exact y
 have p:W5 (s,d)=some (Vs s.1 j,0):=by
  rw [mo m];unfold WJ;rw [if_neg (by simp [A]),o]
 have k:TW (s,d)=some (Xb s j):=by
  rw [ac m r];unfold Uv;rw [if_neg (by simp [A]),o]
 refine ⟨Vs s.1 j,(Xb s j).1,(Xb s j).2.1,(Xb s j).2.2,p,k,?_⟩;unfold Xb;by_cases l:Vs s.1 j=false
 ·rw [if_pos l,l];exact ⟨λ_=>by simp,λh=>by cases h⟩
 have a:Vs s.1 j=true:=by simpa using l
 rw [if_neg l];by_cases f:0<TM s.1 j
 ·rw [if_pos f];refine ⟨λ_=>by simp [a],λ_=>⟨gi v (by rw [w,<- C];exact hi) y q f,z,hc⟩⟩
 rw [if_neg f];unfold YV;rw [if_neg (λh=>h.elim f l)];by_cases u:s.2.2>1000000/\UQ j≠[]
 ·rw [if_pos u];exact ⟨λh=>by omega,λh=>by cases h⟩
 rw [if_neg u]
 have x:UQ j≠[]->s.2.2<=1000000:=λD=>by
  by_cases B:s.2.2>1000000
  ·exact absurd ⟨B,D⟩ u
  ·omega
 refine ⟨λ_=>by simp [a],λ_=>⟨gH v r q f a x,?_,?_⟩⟩
 ·exact (eX v r q f a x).trans z
 ·have:=bR v r q f;show UY (VV s j).2.flatten<=2000;omega
theorem ZY : ∀ {ls:List (List Te)} {i n:Nat},(TG ls n).length=2->((i+n:Nat):Int)∈TH i ls
 | [],i,n,h=>by simp [TG] at h
 | rs::ls,i,0,h=>by
  have h':rs.length=2:=h;rw [Xw,if_pos h'];simp
 | rs::ls,i,n+1,h=>by
  rw [Xw];refine List.mem_append_right _ ?_;have:=ZY (ls:=ls) (i:=i+1) (n:=n) h
  rwa [show i+1+n=i+(n+1) by omega] at this
end
section
open Go Go.Proofs.YtfilfloanndddaaGreat.Sv
def Wx (f:Nat->Nat):Nat->Nat
 | 0=>0
 | m+1=>Wx f m+f m
theorem aC {f g:Nat->Nat} : ∀ {m:Nat},(∀ i,i<m->g i<=f i)->Wx g m<=Wx f m
 | 0,_=>Nat.le_refl _
 | m+1,h=>Nat.add_le_add (aC λi hi=>h i (by omega)) (h m (by omega))
theorem aB {f g:Nat->Nat} {n:Nat} (a:g n+1<=f n) : ∀ {m:Nat},n<m->(∀ i,i<m->i≠n->g i<=f i)->Wx g m+1<=Wx f m
 | 0,h,_=>absurd h (by omega)
 | m+1,h,ho=>by
  unfold Wx;by_cases e:n=m
  ·subst e;have:=aC (f:=f) (g:=g) (m:=n) λi hi=>ho i (by omega) (by omega);omega
  ·have:=aB a (m:=m) (by omega) λi hi=>ho i (by omega);have:=ho m (by omega) (λh=>e h.symm);omega
theorem ab {f g:Nat->Nat} {n:Nat} (a:g n+g (n+1)+1<=f n+f (n+1)) : ∀ {m:Nat},n+1<m->(∀ i,i<m->i≠n->i≠n+1->g i<=f i)->Wx g m+1<=Wx f m
 | 0,h,_=>absurd h (by omega)
 | m+1,h,ho=>by
  unfold Wx;by_cases e:n+1=m
  ·subst e;have:=aC (f:=f) (g:=g) (m:=n) λi hi=>ho i (by omega) (by omega) (by omega);unfold Wx;omega
  ·have:=ab a (m:=m) (by omega) λi hi=>ho i (by omega);have:=ho m (by omega) (by omega) (by omega);omega
theorem YO : ∀ {js:List Job} {j:Job},(js.map (·.1)).Nodup->j∈js->UH js j.1=some j
 | [],_,_,h=>by cases h
 | i::js,j,hn,h=>by
  rw [List.map_cons,List.nodup_cons] at hn;unfold UH;rw [List.find?_cons];unfold ao;rw [VU];rcases List.mem_cons.1 h with e | h
  ·subst e;simp
  ·have a : ¬ j.1=i.1:=λe=>hn.1 (by rw [<- e];exact List.mem_map_of_mem h);rw [decide_eq_false a];exact YO hn.2 h
theorem aO : ∀ {js:List Job} {i:Nat} {j:Job} (w:XH) (d:Int),(js.map (·.1)).Nodup->js[i]? = some j->UH (js.set i (j.1,w)) d=if d=j.1 then some (j.1,w) else UH js d
 | [],i,j,w,d,_,h=>by simp at h
 | x::js,0,j,w,d,hn,h=>by
  have e:x=j:=by simpa using h
  subst e;unfold UH;rw [List.set_cons_zero,List.find?_cons,List.find?_cons];unfold ao;rw [VU];by_cases e:d=x.1<;>simp [e]
 | x::js,i+1,j,w,d,hn,h=>by
  rw [List.map_cons,List.nodup_cons] at hn;have h':js[i]? = some j:=by simpa using h
  have b:=aO w d hn.2 h';unfold UH at b ⊢;rw [List.set_cons_succ,List.find?_cons,List.find?_cons,b];have c:ao d x=decide (d=x.1):=VU _ _;rw [c];by_cases e:d=x.1
  ·have a : ¬ d=j.1:=λe2=>hn.1 (by rw [<- e,e2];exact List.mem_map_of_mem (List.mem_of_getElem? h'));rw [decide_eq_true e];simp only [a,if_false]
  ·rw [decide_eq_false e]
theorem VSt.noJob {s:TA} (v:VSt s) {i:Nat} (h:(TG s.1.2 i).length≠2):UH s.2.1 (i:Int)=none:=by
 refine X3 λa=>h ?_;rw [v.due] at a;obtain ⟨n,c,d,e,b⟩:=Zb a;have:i=n:=by omega
 rw [this,XJ.1 b];rfl
theorem VSt.hasJob {s:TA} (v:VSt s) {i:Nat} (h:(TG s.1.2 i).length=2) : ∃ j,UH s.2.1 (i:Int)=some j:=by
 have a:=ZY (i:=0) h;rw [Nat.zero_add,<- v.due] at a;obtain ⟨j,b,e⟩:=List.mem_map.1 a;exact ⟨j,by rw [<- e];exact YO v.nodup b⟩
theorem VSt.jobAt {s:TA} (v:VSt s) {i:Nat} {j:Job} (h:UH s.2.1 (i:Int)=some j):JobAt s.1 i j:=by
 obtain ⟨b,e⟩:=Zp h;obtain ⟨n,a⟩:=v.job j b
 have:n=i:=by
  obtain ⟨_,_,_,_,_,rfl,_⟩:=a;have c:(n:Int)=(i:Int):=e;omega
 rwa [this] at a
theorem f8 {s:TA} (v:VSt s) (d:Int):ZW s d=UH s.2.1 d:=by
 by_cases h:d∈TH 0 s.1.2
 ·obtain ⟨j,n,a,b,c,_⟩:=v.atDue h;rw [a,b,<- c];refine (YO v.nodup ?_).symm;unfold ZW at a;split at a
  ·exact List.mem_of_getElem? a
  ·cases a
 ·rw [X3 (by rw [v.due];exact h)];unfold ZW;split
  ·rename_i i hi;have:=(ak hi).2;exact absurd (List.mem_of_getElem? this) h
  ·rfl
def mi (j:Job):Nat:=j.2.2.2.2.toNat
theorem JobAt.rd {L:TB} {n:Nat} {j:Job} (h:JobAt L n j) : ∃ a b,TG L.2 n=[a,b]/\mi j<=b.2.length+a.2.length/\TM L j=b.2.length+a.2.length-mi j/\(0<TM L j->mi (j.1,Xc L j)=mi j+1):=by
 obtain ⟨a,b,c,k,d,rfl,f,g,i,l⟩:=h;have e:=XJ.1 d;have e1:(U9 b.2 a.2 c k).2.1.2.2=c:=Zf _ _ _ _;have e2:(U9 b.2 a.2 c k).2.2.2.toNat=k:=by show ((k:Int)).toNat=k;rw [Int.toNat_natCast]
 refine ⟨a,b,e,?_,?_,λ_ => ?_⟩
 ·show (U9 b.2 a.2 c k).2.2.2.toNat<=_;rw [e2];exact f
 ·unfold TM mi;simp only [Int.toNat_natCast,d]
 ·show (Xc L ((n:Int),U9 b.2 a.2 c k)).2.2.2.toNat=(U9 b.2 a.2 c k).2.2.2.toNat+1;unfold Xc;simp only [Int.toNat_natCast,e];rw [e1,e2];show (((k+1:Nat):Int)).toNat=_;rw [Int.toNat_natCast]
structure StepF (s:TA) (n:Nat) (j:Job) (t:TA) (b:Bool):Prop where
 job:UH s.2.1 (n:Int)=some j
 read:0<TM s.1 j->b=false/\t.1=s.1/\t.2.2=s.2.2 /\ ∀ i:Nat,UH t.2.1 (i:Int)=if i=n then some (j.1,Xc s.1 j) else UH s.2.1 (i:Int)
 inst:TM s.1 j=0->b=true/\t.1=VV s j/\t.2.2=Xf s j/\(∀ i,(TG t.1.2 i)=if UQ j≠[]/\i=Xu s j then (if i=n then [] else TG s.1.2 i)++[(s.2.2,UQ j)] else if i=n then [] else TG s.1.2 i)/\(Xu s j=n\/Xu s j=n+1/\n+1<12/\(UQ j≠[]->(TG s.1.2 (n+1)).length<2)) /\
  ∀ i:Nat,UH t.2.1 (i:Int)=if (TG t.1.2 i).length=2 then some ((if i=n then none else UH s.2.1 (i:Int)).getD (WK t.1 (i:Int))) else none
theorem cx {s0 s:TA} (g:Gd s0 s) {d:Int} (h:d∈TH 0 s.1.2) (e:(Uv s d).2.2=0) : ∃ (n:Nat) (j:Job),d=(n:Int)/\n<12/\JobAt s.1 n j/\Vs s.1 j=true/\StepF s n j (Uv s d).1 (Uv s d).2.1/\Gd s0 (Uv s d).1:=by
 obtain ⟨v,Z,hc⟩:=g;have X:=Yr hc;have m:=v.sm;obtain ⟨c,t,b,er,_,K,_,Y⟩:=eU ⟨v,Z,hc⟩ h;rw [ac m X] at K;have w:=Option.some.inj K;obtain ⟨i,j,n,hi,U,D,u,S⟩:=dt v h;have hz:(TD s).2=0:=TJ.2 v;have C:ZW s d=some j:=by unfold ZW;rw [hi];exact U
 have hn:n<12:=by
  have:=v.lev.len;obtain ⟨_,_,_,_,W,_⟩:=S;have:=(List.getElem?_eq_some_iff.1 W).1;omega
 have F:UH s.2.1 (n:Int)=some j:=by rw [<- D,<- f8 v,C]
 have hS:Uv s d=Xb s j:=by unfold Uv;rw [if_neg (by simp [hz]),C]
 have A:Gd s0 (Uv s d).1:=by rw [w];exact Y (by rw [<- e,w])
 have k:=A.1;rw [hS] at e k A ⊢;refine ⟨n,j,D,hn,S,?_,⟨F,λO => ?_,λO => ?_⟩,A⟩
 ·unfold Xb at e;by_cases a:Vs s.1 j=false
  ·rw [if_pos a] at e;cases e
  ·simpa using a
 ·unfold Xb at e ⊢;have a : ¬ Vs s.1 j=false:=λa=>by rw [if_pos a] at e;cases e
  rw [if_neg a,if_pos O];refine ⟨rfl,rfl,rfl,λo => ?_⟩;show UH (Y6 s j).2.1 _=_;unfold Y6;rw [u,<- D,hi,Option.getD_some];show UH (s.2.1.set i (d,Xc s.1 j)) _=_;have:=aO (Xc s.1 j) (o:Int) v.nodup U;rw [u,<- D] at this;rw [this,D];by_cases p:o=n
  ·rw [if_pos (by rw [p]),if_pos p]
  ·rw [if_neg (by omega),if_neg p]
 ·unfold Xb at e k ⊢;have a : ¬ Vs s.1 j=false:=λa=>by rw [if_pos a] at e;cases e
  have q:Vs s.1 j=true:=by simpa using a
  have z : ¬ 0<TM s.1 j:=by omega
  rw [if_neg a,if_neg z] at e k ⊢;unfold YV at e k ⊢;rw [if_neg (λh=>h.elim z a)] at e k ⊢;by_cases P:s.2.2>1000000/\UQ j≠[]
  ·rw [if_pos P] at e;cases e
  rw [if_neg P] at e k ⊢;have B:j.1.toNat=n:=by rw [u];simp
  have I : ∀ i,TG (VV s j).2 i=_:=λi=>Vm (s:=s) (j:=j) B i;refine ⟨rfl,rfl,rfl,I,?_,λo => ?_⟩
  ·unfold Xu;rw [B];by_cases hs:Vh s.1 j=true
   ·rw [if_pos hs];exact .inl rfl
   ·rw [if_neg hs]
    have hr:YX s.1 (n+1)=true:=by
     unfold Vs at q;rw [B] at q;simpa [hs,z] using q
    have J:=of_decide_eq_true hr;exact .inr ⟨rfl,J.1,λ_=>J.2⟩
  ·have r:VSt (YL s (VV s j) (Xf s j) j.1):=k;show UH (YL s (VV s j) (Xf s j) j.1).2.1 (o:Int)=if (TG (VV s j).2 o).length=2 then some ((if o=n then none else UH s.2.1 (o:Int)).getD (WK (VV s j) (o:Int))) else none
   have ho:(TG (YL s (VV s j) (Xf s j) j.1).1.2 o)=TG (VV s j).2 o:=rfl;by_cases L:(TG (VV s j).2 o).length=2
   ·rw [if_pos L];have N:=ZY (i:=0) L;rw [Nat.zero_add] at N;have G:WW s (VV s j) j.1 (o:Int)∈(YL s (VV s j) (Xf s j) j.1).2.1:=List.mem_map_of_mem N
    have E:(WW s (VV s j) j.1 (o:Int)).1=(o:Int):=by
     have M:(TH 0 (VV s j).2).map (λd=>(WW s (VV s j) j.1 d).1)=TH 0 (VV s j).2:=by
      have:=r.due;simpa [YL,List.map_map,Function.comp_def] using this
     have key : ∀ {l:List Int} {f:Int->Int},l.map f=l -> ∀ x∈l,f x=x:=by
      intro l f
      induction l with
      | nil=>intro _ x hx;cases hx
      | cons y l ih =>
       intro h x hx;rw [List.map_cons] at h;obtain ⟨k1,k2⟩:=List.cons.inj h;rcases List.mem_cons.1 hx with rfl | hx
       ·exact k1
       ·exact ih k2 x hx
     exact key M _ N
    have:=YO r.nodup G;rw [E] at this;rw [this];unfold WW;rw [u];by_cases p:o=n
    ·rw [if_pos (by omega),if_pos p]
    ·rw [if_neg (by omega),if_neg p]
   ·rw [if_neg L];exact r.noJob (by rw [ho];exact L)
end
section
open Go Go.Proofs.YtfilfloanndddaaGreat.Sv
def lz (s:TA) (i:Nat):Nat:=match UH s.2.1 (i:Int) with
 | some j=>mi j
 | none=>0
def cS (N:Nat) (s:TA) (i:Nat):Nat:=(TG s.1.2 i).length*(N+1)-lz s i
def aF (N:Nat) (s:TA):Nat:=Wx (cS N s) 12
theorem mA {L:TB} {n:Nat} {a b:Te} (h:TG L.2 n=[a,b]):a.2.length+b.2.length<=UY L.2.flatten:=by
 obtain ⟨p,q,c,_⟩:=XM L n [];rw [c,h,VW,VW,Wz,Wz];omega
theorem VSt.rd0 {s:TA} (v:VSt s) {i:Nat} (h:(TG s.1.2 i).length≠2):lz s i=0:=by
 unfold lz;rw [v.noJob h]
theorem gZ {N:Nat} {s t:TA} {n:Nat} {j:Job} {b:Bool} (v:VSt s) (B:UY s.1.2.flatten<=N) (r:n<12) (y:JobAt s.1 n j) (F:StepF s n j t b):aF N t+1<=aF N s:=by
 obtain ⟨E,G,l,C,D,z⟩:=y.rd;have hc:=mA l
 have hs:cS N s n=2*(N+1)-mi j:=by
  unfold cS lz;rw [F.job,l];rfl
 by_cases p:0<TM s.1 j
 ·obtain ⟨_,e1,_,e2⟩:=F.read p;refine aB (n:=n) ?_ r λi _ a => ?_
  ·have m:cS N t n=2*(N+1)-(mi j+1):=by
    unfold cS lz;rw [e2,if_pos rfl,e1,l,<- z p];rfl
   omega
  ·unfold cS lz;rw [e2,if_neg a,e1];exact Nat.le_refl _
 ·obtain ⟨_,e1,_,e2,e3,o⟩:=F.inst (by omega)
  have d : ∀ i,i≠n -> ¬ (UQ j≠[]/\i=Xu s j)->cS N t i<=cS N s i:=λi a hit=>by
   have e:TG t.1.2 i=TG s.1.2 i:=by rw [e2,if_neg hit,if_neg a]
   have c:lz t i=lz s i:=by
    by_cases c:(TG s.1.2 i).length=2
    ·obtain ⟨j',k⟩:=v.hasJob c;unfold lz;rw [o,e,if_pos c,if_neg a,k];rfl
    ·rw [v.rd0 c];unfold lz;rw [o,e,if_neg c]
   unfold cS;rw [e,c];exact Nat.le_refl _
  by_cases m:UQ j≠[]/\Xu s j≠n
  ·obtain ⟨q,u⟩:=m;rcases e3 with e3 | ⟨e3,f,c⟩
   ·exact absurd e3 u
   have c:=c q;refine ab (n:=n) ?_ f λi _ a g=>d i a (by rw [e3];exact λh=>g h.2)
   have w:cS N t n=0:=by
    unfold cS;rw [e2,if_neg (by rw [e3];omega),if_pos rfl];simp
   have x:cS N t (n+1)<=((TG s.1.2 (n+1)).length+1)*(N+1):=by
    unfold cS;rw [e2,if_pos ⟨q,e3.symm⟩,if_neg (by omega),List.length_append];exact Nat.sub_le _ _
   have A:cS N s (n+1)=(TG s.1.2 (n+1)).length*(N+1):=by
    unfold cS;rw [v.rd0 (by omega)];rfl
   rw [Nat.add_mul] at x;omega
  ·refine aB (n:=n) ?_ r λi _ a=>d i a (λh=>m ⟨h.1,by rw [<- h.2];exact a⟩)
   have w:cS N t n<=1*(N+1):=by
    refine Nat.le_trans (Nat.sub_le _ _) (Nat.mul_le_mul_right _ ?_);rw [e2,if_pos rfl];split<;>simp
   omega
theorem bG (L:List (List Te)) : ∀ m,Wx (λi=>(TG L i).length) m=(L.take m).flatten.length
 | 0=>by simp [Wx]
 | m+1=>by
  unfold Wx;rw [bG L m];by_cases h:m<L.length
  ·have:L.take (m+1)=L.take m++[TG L m]:=by
    rw [List.take_add_one,Vw h];rfl
   rw [this,List.flatten_append];simp
  ·have:TG L m=[]:=by unfold TG;rw [List.getElem?_eq_none (by omega)];rfl
   rw [this,List.take_of_length_le (by omega),List.take_of_length_le (by omega)];simp
theorem eF (f:Nat->Nat) (c:Nat) : ∀ m,Wx (λi=>f i*c) m=Wx f m*c
 | 0=>by simp [Wx]
 | m+1=>by unfold Wx;rw [eF f c m,Nat.add_mul]
theorem m7 (N:Nat) {s:TA} (v:VSt s):aF N s<=s.1.2.flatten.length*(N+1):=by
 have a:aF N s<=Wx (λi=>(TG s.1.2 i).length*(N+1)) 12:=aC λi _=>Nat.sub_le _ _;have:=v.lev.len;rw [eF,bG,List.take_of_length_le (by omega)] at a;exact a
theorem gE {L:TB} (v:VLev L):L.2.flatten.length<=24:=by
 have h:=bG L.2 12;have:=v.len;rw [List.take_of_length_le (by omega)] at h;rw [<- h];exact aC (f:=λ_=>2) λi _=>(v.own i).1
end
section
open Go Go.Proofs.YtfilfloanndddaaGreat.Sv
set_option linter.unusedVariables false
abbrev Xt:=(Int×(Int×(Int×bH)))
def ZB (a:bH) (k l:Nat):bH :=
 (Sw (neq l 0) (Rl .i64 (OO [a.1,a.2.1,a.2.2.1,a.2.2.2.1,a.2.2.2.2.1,a.2.2.2.2.2.1,a.2.2.2.2.2.2.1,a.2.2.2.2.2.2.2.1,a.2.2.2.2.2.2.2.2.1,a.2.2.2.2.2.2.2.2.2.1,a.2.2.2.2.2.2.2.2.2.2.1,a.2.2.2.2.2.2.2.2.2.2.2] k) 1) a.1,(Sw (neq l 1) (Rl .i64 (OO [a.1,a.2.1,a.2.2.1,a.2.2.2.1,a.2.2.2.2.1,a.2.2.2.2.2.1,a.2.2.2.2.2.2.1,a.2.2.2.2.2.2.2.1,a.2.2.2.2.2.2.2.2.1,a.2.2.2.2.2.2.2.2.2.1,a.2.2.2.2.2.2.2.2.2.2.1,a.2.2.2.2.2.2.2.2.2.2.2] k) 1) a.2.1,(Sw (neq l 2) (Rl .i64 (OO [a.1,a.2.1,a.2.2.1,a.2.2.2.1,a.2.2.2.2.1,a.2.2.2.2.2.1,a.2.2.2.2.2.2.1,a.2.2.2.2.2.2.2.1,a.2.2.2.2.2.2.2.2.1,a.2.2.2.2.2.2.2.2.2.1,a.2.2.2.2.2.2.2.2.2.2.1,a.2.2.2.2.2.2.2.2.2.2.2] k) 1) a.2.2.1,(Sw (neq l 3) (Rl .i64 (OO [a.1,a.2.1,a.2.2.1,a.2.2.2.1,a.2.2.2.2.1,a.2.2.2.2.2.1,a.2.2.2.2.2.2.1,a.2.2.2.2.2.2.2.1,a.2.2.2.2.2.2.2.2.1,a.2.2.2.2.2.2.2.2.2.1,a.2.2.2.2.2.2.2.2.2.2.1,a.2.2.2.2.2.2.2.2.2.2.2] k) 1) a.2.2.2.1,(Sw (neq l 4) (Rl .i64 (OO [a.1,a.2.1,a.2.2.1,a.2.2.2.1,a.2.2.2.2.1,a.2.2.2.2.2.1,a.2.2.2.2.2.2.1,a.2.2.2.2.2.2.2.1,a.2.2.2.2.2.2.2.2.1,a.2.2.2.2.2.2.2.2.2.1,a.2.2.2.2.2.2.2.2.2.2.1,a.2.2.2.2.2.2.2.2.2.2.2] k) 1) a.2.2.2.2.1,(Sw (neq l 5) (Rl .i64 (OO [a.1,a.2.1,a.2.2.1,a.2.2.2.1,a.2.2.2.2.1,a.2.2.2.2.2.1,a.2.2.2.2.2.2.1,a.2.2.2.2.2.2.2.1,a.2.2.2.2.2.2.2.2.1,a.2.2.2.2.2.2.2.2.2.1,a.2.2.2.2.2.2.2.2.2.2.1,a.2.2.2.2.2.2.2.2.2.2.2] k) 1) a.2.2.2.2.2.1,(Sw (neq l 6) (Rl .i64 (OO [a.1,a.2.1,a.2.2.1,a.2.2.2.1,a.2.2.2.2.1,a.2.2.2.2.2.1,a.2.2.2.2.2.2.1,a.2.2.2.2.2.2.2.1,a.2.2.2.2.2.2.2.2.1,a.2.2.2.2.2.2.2.2.2.1,a.2.2.2.2.2.2.2.2.2.2.1,a.2.2.2.2.2.2.2.2.2.2.2] k) 1) a.2.2.2.2.2.2.1,(Sw (neq l 7) (Rl .i64 (OO [a.1,a.2.1,a.2.2.1,a.2.2.2.1,a.2.2.2.2.1,a.2.2.2.2.2.1,a.2.2.2.2.2.2.1,a.2.2.2.2.2.2.2.1,a.2.2.2.2.2.2.2.2.1,a.2.2.2.2.2.2.2.2.2.1,a.2.2.2.2.2.2.2.2.2.2.1,a.2.2.2.2.2.2.2.2.2.2.2] k) 1) a.2.2.2.2.2.2.2.1,(Sw (neq l 8) (Rl .i64 (OO [a.1,a.2.1,a.2.2.1,a.2.2.2.1,a.2.2.2.2.1,a.2.2.2.2.2.1,a.2.2.2.2.2.2.1,a.2.2.2.2.2.2.2.1,a.2.2.2.2.2.2.2.2.1,a.2.2.2.2.2.2.2.2.2.1,a.2.2.2.2.2.2.2.2.2.2.1,a.2.2.2.2.2.2.2.2.2.2.2] k) 1) a.2.2.2.2.2.2.2.2.1,(Sw (neq l 9) (Rl .i64 (OO [a.1,a.2.1,a.2.2.1,a.2.2.2.1,a.2.2.2.2.1,a.2.2.2.2.2.1,a.2.2.2.2.2.2.1,a.2.2.2.2.2.2.2.1,a.2.2.2.2.2.2.2.2.1,a.2.2.2.2.2.2.2.2.2.1,a.2.2.2.2.2.2.2.2.2.2.1,a.2.2.2.2.2.2.2.2.2.2.2] k) 1) a.2.2.2.2.2.2.2.2.2.1,(Sw (neq l 10) (Rl .i64 (OO [a.1,a.2.1,a.2.2.1,a.2.2.2.1,a.2.2.2.2.1,a.2.2.2.2.2.1,a.2.2.2.2.2.2.1,a.2.2.2.2.2.2.2.1,a.2.2.2.2.2.2.2.2.1,a.2.2.2.2.2.2.2.2.2.1,a.2.2.2.2.2.2.2.2.2.2.1,a.2.2.2.2.2.2.2.2.2.2.2] k) 1) a.2.2.2.2.2.2.2.2.2.2.1,Sw (neq l 11) (Rl .i64 (OO [a.1,a.2.1,a.2.2.1,a.2.2.2.1,a.2.2.2.2.1,a.2.2.2.2.2.1,a.2.2.2.2.2.2.1,a.2.2.2.2.2.2.2.1,a.2.2.2.2.2.2.2.2.1,a.2.2.2.2.2.2.2.2.2.1,a.2.2.2.2.2.2.2.2.2.2.1,a.2.2.2.2.2.2.2.2.2.2.2] k) 1) a.2.2.2.2.2.2.2.2.2.2.2)))))))))))
def Vk (x:Unit):Option (TB×((List (Int×(TC×((Bool×TE)×((List S8)×Int)))))×Int)) :=
 bd (Ye ((2,[[(1,[([(97:UInt8)],([],(false,1)))]),(2,[([(98:UInt8)],([],(false,2)))])]]))) λa=>some a.1
def VY (x:(Int×Bool)):Option Unit :=
 some ()
def UN (x:((TB×((List (Int×(TC×((Bool×TE)×((List S8)×Int)))))×Int))×Int)):Option ((TB×((List (Int×(TC×((Bool×TE)×((List S8)×Int)))))×Int))×(Xt×Int)) :=
 bd (UV x.1) λi=>br (RT i.2 0) (λ_=>br (RT i.2 0) (λ_=>some ((((0,[]),([],0)),((0,(0,(0,(0,(0,(0,(0,(0,(0,(0,(0,(0,(0,(0,0)))))))))))))),i.2)))) λ_=>br (SU x.2 0) (λ_=>bd (loop (β:=(Nat×(Unit×Unit))) (λs1=>none) ()) λj=>none) λ_=>none) λ_=>br (SW x.2 0) (λ_=>some ((((0,[]),([],0)),((0,(0,(0,(0,(0,(0,(0,(0,(0,(0,(0,(0,(0,(0,0)))))))))))))),7)))) λ_=>br (SU x.2 1000000) (λ_=>some ((((0,[]),([],0)),((0,(0,(0,(0,(0,(0,(0,(0,(0,(0,(0,(0,(0,(0,0)))))))))))))),7)))) λ_=>br (SU x.2 0) (λ_=>bd (loop (λ(a:((Int×((List (List Te))×((List (Int×(TC×((Bool×TE)×((List S8)×Int)))))×(Int×Int))))×Xt))=>bd (TV (((a.1.1,a.1.2.1),(a.1.2.2.1,a.1.2.2.2.1)))) λd=>br (RR d.2 4) (λ_=>some (.dn ((0,(a,()))))) λ_=>br (RR d.2 0) (λ_=>bd (TW ((((a.1.1,a.1.2.1),(a.1.2.2.1,a.1.2.2.2.1)),d.1))) λc=>br (RT c.2.2 0) (λ_=>some (.dn ((0,(((a.1.1,(a.1.2.1,(a.1.2.2.1,(a.1.2.2.2.1,c.2.2)))),a.2),()))))) λ_=>bd (VY (d.1,c.2.1)) λk=>RX d.1 λg=>gd (KC g 12) λ_=>RX d.1 λh=>gd (KC h 12) λ_=>br c.2.1 (λ_=>br (RR (Rl .i64 a.2.1 1) x.2) (λ_=>some (.dn ((1,(((c.1.1.1,(c.1.1.2,(c.1.2.1,(c.1.2.2,c.2.2)))),(Rl .i64 a.2.1 1,(a.2.2.1,(Rl .i64 a.2.2.2.1 1,(ZB a.2.2.2.2 g h))))),()))))) λ_=>some (.nx (((c.1.1.1,(c.1.1.2,(c.1.2.1,(c.1.2.2,c.2.2)))),(Rl .i64 a.2.1 1,(a.2.2.1,(Rl .i64 a.2.2.2.1 1,(ZB a.2.2.2.2 g h)))))))) λ_=>br (RR (Rl .i64 a.2.1 1) x.2) (λ_=>some (.dn ((1,(((c.1.1.1,(c.1.1.2,(c.1.2.1,(c.1.2.2,c.2.2)))),(Rl .i64 a.2.1 1,(a.2.2.1,(a.2.2.2.1,(ZB a.2.2.2.2 g h))))),()))))) λ_=>some (.nx (((c.1.1.1,(c.1.1.2,(c.1.2.1,(c.1.2.2,c.2.2)))),(Rl .i64 a.2.1 1,(a.2.2.1,(a.2.2.2.1,(ZB a.2.2.2.2 g h)))))))) λ_=>br (RT d.2 0) (λ_=>some (.dn ((0,(((a.1.1,(a.1.2.1,(a.1.2.2.1,(a.1.2.2.2.1,d.2)))),a.2),()))))) λ_=>bd (VY (d.1,false)) λl=>RX d.1 λe=>gd (KC e 12) λ_=>RX d.1 λf=>gd (KC f 12) λ_=>br (RR (Rl .i64 a.2.1 1) x.2) (λ_=>some (.dn ((1,(((0,([],([],(0,d.2)))),(Rl .i64 a.2.1 1,(a.2.2.1,(a.2.2.2.1,(ZB a.2.2.2.2 e f))))),()))))) λ_=>some (.nx (((0,([],([],(0,d.2)))),(Rl .i64 a.2.1 1,(a.2.2.1,(a.2.2.2.1,(ZB a.2.2.2.2 e f)))))))) (((x.1.1.1,(x.1.1.2,(x.1.2.1,(x.1.2.2,0)))),(0,(0,(0,(0,(0,(0,(0,(0,(0,(0,(0,(0,(0,(0,0))))))))))))))))) λb=>br (neq b.1 0) (λ_=>br (RT b.2.1.1.2.2.2.2 0) (λ_=>some ((((0,[]),([],0)),((0,(0,(0,(0,(0,(0,(0,(0,(0,(0,(0,(0,(0,(0,0)))))))))))))),b.2.1.1.2.2.2.2)))) λ_=>some ((((b.2.1.1.1,b.2.1.1.2.1),(b.2.1.1.2.2.1,b.2.1.1.2.2.2.1)),((b.2.1.2.1,(Rp .i64 x.2 b.2.1.2.1,b.2.1.2.2.2)),0)))) λ_=>br (RT b.2.1.1.2.2.2.2 0) (λ_=>some ((((0,[]),([],0)),((0,(0,(0,(0,(0,(0,(0,(0,(0,(0,(0,(0,(0,(0,0)))))))))))))),b.2.1.1.2.2.2.2)))) λ_=>some ((((b.2.1.1.1,b.2.1.1.2.1),(b.2.1.1.2.2.1,b.2.1.1.2.2.2.1)),((b.2.1.2.1,(Rp .i64 x.2 b.2.1.2.1,b.2.1.2.2.2)),0)))) λ_=>some ((x.1,((0,(Rp .i64 x.2 0,(0,(0,(0,(0,(0,(0,(0,(0,(0,(0,(0,(0,0)))))))))))))),0)))
def Uk (x:((TB×((List (Int×(TC×((Bool×TE)×((List S8)×Int)))))×Int))×Int)):Option ((List Int)×Int) :=
 bd (UV x.1) λi=>br (RT i.2 0) (λ_=>br (RT i.2 0) (λ_=>some ([],i.2)) λ_=>br (SU x.2 0) (λ_=>bd (loop (β:=(Nat×(Unit×Unit))) (λs1=>none) ()) λj=>none) λ_=>none) λ_=>br (SW x.2 0) (λ_=>some ([],7)) λ_=>br (SU x.2 1000000) (λ_=>some ([],7)) λ_=>br (SU x.2 0) (λ_=>bd (loop (λ(a:((Int×((List (List Te))×((List (Int×(TC×((Bool×TE)×((List S8)×Int)))))×(Int×Int))))×((List Int)×Xt)))=>bd (TV (((a.1.1,a.1.2.1),(a.1.2.2.1,a.1.2.2.2.1)))) λc=>br (RR c.2 4) (λ_=>some (.dn ((0,(a,()))))) λ_=>br (RR c.2 0) (λ_=>bd (TW ((((a.1.1,a.1.2.1),(a.1.2.2.1,a.1.2.2.2.1)),c.1))) λb=>br (RT b.2.2 0) (λ_=>some (.dn ((0,(((a.1.1,(a.1.2.1,(a.1.2.2.1,(a.1.2.2.2.1,b.2.2)))),a.2),()))))) λ_=>gd (CD (BD (AS a.2.1) (AS [c.1])) 1048576) λ_=>RX c.1 λe=>gd (KC e 12) λ_=>RX c.1 λf=>gd (KC f 12) λ_=>br b.2.1 (λ_=>br (RR (Rl .i64 a.2.2.1 1) x.2) (λ_=>some (.dn ((1,(((b.1.1.1,(b.1.1.2,(b.1.2.1,(b.1.2.2,b.2.2)))),(Ik a.2.1 [c.1],(Rl .i64 a.2.2.1 1,(a.2.2.2.1,(Rl .i64 a.2.2.2.2.1 1,(ZB a.2.2.2.2.2 e f)))))),()))))) λ_=>some (.nx (((b.1.1.1,(b.1.1.2,(b.1.2.1,(b.1.2.2,b.2.2)))),(Ik a.2.1 [c.1],(Rl .i64 a.2.2.1 1,(a.2.2.2.1,(Rl .i64 a.2.2.2.2.1 1,(ZB a.2.2.2.2.2 e f))))))))) λ_=>br (RR (Rl .i64 a.2.2.1 1) x.2) (λ_=>some (.dn ((1,(((b.1.1.1,(b.1.1.2,(b.1.2.1,(b.1.2.2,b.2.2)))),(Ik a.2.1 [c.1],(Rl .i64 a.2.2.1 1,(a.2.2.2.1,(a.2.2.2.2.1,(ZB a.2.2.2.2.2 e f)))))),()))))) λ_=>some (.nx (((b.1.1.1,(b.1.1.2,(b.1.2.1,(b.1.2.2,b.2.2)))),(Ik a.2.1 [c.1],(Rl .i64 a.2.2.1 1,(a.2.2.2.1,(a.2.2.2.2.1,(ZB a.2.2.2.2.2 e f))))))))) λ_=>br (RT c.2 0) (λ_=>some (.dn ((0,(((a.1.1,(a.1.2.1,(a.1.2.2.1,(a.1.2.2.2.1,c.2)))),a.2),()))))) λ_=>gd (CD (BD (AS a.2.1) (AS [c.1])) 1048576) λ_=>RX c.1 λg=>gd (KC g 12) λ_=>RX c.1 λh=>gd (KC h 12) λ_=>br (RR (Rl .i64 a.2.2.1 1) x.2) (λ_=>some (.dn ((1,(((0,([],([],(0,c.2)))),(Ik a.2.1 [c.1],(Rl .i64 a.2.2.1 1,(a.2.2.2.1,(a.2.2.2.2.1,(ZB a.2.2.2.2.2 g h)))))),()))))) λ_=>some (.nx (((0,([],([],(0,c.2)))),(Ik a.2.1 [c.1],(Rl .i64 a.2.2.1 1,(a.2.2.2.1,(a.2.2.2.2.1,(ZB a.2.2.2.2.2 g h))))))))) (((x.1.1.1,(x.1.1.2,(x.1.2.1,(x.1.2.2,0)))),([],(0,(0,(0,(0,(0,(0,(0,(0,(0,(0,(0,(0,(0,(0,0)))))))))))))))))) λd=>br (neq d.1 0) (λ_=>br (RT d.2.1.1.2.2.2.2 0) (λ_=>some ([],d.2.1.1.2.2.2.2)) λ_=>some (d.2.1.2.1,0)) λ_=>br (RT d.2.1.1.2.2.2.2 0) (λ_=>some ([],d.2.1.1.2.2.2.2)) λ_=>some (d.2.1.2.1,0)) λ_=>some ([],0)
def VH (x:((TB×((List (Int×(TC×((Bool×TE)×((List S8)×Int)))))×Int))×Int)):Option (Int×Int) :=
 bd (UV x.1) λd=>br (RT d.2 0) (λ_=>br (RT d.2 0) (λ_=>some (0,d.2)) λ_=>br (SW x.2 0) (λ_=>some (0,7)) λ_=>br (RS x.2 12) (λ_=>some (0,7)) λ_=>bd (Uy x) λf=>br (RT f.2 0) (λ_=>some (0,f.2)) λ_=>bd (loop (β:=(Nat×(Unit×Unit))) (λs2=>none) ()) λh=>none) λ_=>br (SW x.2 0) (λ_=>some (0,7)) λ_=>br (RS x.2 12) (λ_=>some (0,7)) λ_=>bd (Uy x) λg=>br (RT g.2 0) (λ_=>some (0,g.2)) λ_=>bd (loop (λ(a:((Int×((List (List Te))×((List (Int×(TC×((Bool×TE)×((List S8)×Int)))))×(Int×Int))))×(Int×Int)))=>bd (TV (((a.1.1,a.1.2.1),(a.1.2.2.1,a.1.2.2.2.1)))) λc=>br (RR c.2 4) (λ_=>some (.dn ((0,(a,()))))) λ_=>br (RR c.2 0) (λ_=>bd (TW ((((a.1.1,a.1.2.1),(a.1.2.2.1,a.1.2.2.2.1)),c.1))) λb=>br (RT b.2.2 0) (λ_=>some (.dn ((0,(((a.1.1,(a.1.2.1,(a.1.2.2.1,(a.1.2.2.2.1,b.2.2)))),a.2),()))))) λ_=>br (NX (RR c.1 x.2) (NX (beq b.2.1 true) true)) (λ_=>some (.dn ((1,(((b.1.1.1,(b.1.1.2,(b.1.2.1,(b.1.2.2,b.2.2)))),(Rl .i64 a.2.1 1,0)),()))))) λ_=>some (.nx (((b.1.1.1,(b.1.1.2,(b.1.2.1,(b.1.2.2,b.2.2)))),(Rl .i64 a.2.1 1,a.2.2))))) λ_=>br (RT c.2 0) (λ_=>some (.dn ((0,(((a.1.1,(a.1.2.1,(a.1.2.2.1,(a.1.2.2.2.1,c.2)))),a.2),()))))) λ_=>br (NX (RR c.1 x.2) (NX (beq false true) true)) (λ_=>some (.dn ((1,(((0,([],([],(0,c.2)))),(Rl .i64 a.2.1 1,0)),()))))) λ_=>some (.nx (((0,([],([],(0,c.2)))),(Rl .i64 a.2.1 1,a.2.2))))) (((x.1.1.1,(x.1.1.2,(x.1.2.1,(x.1.2.2,0)))),(0,0)))) λe=>br (neq e.1 0) (λ_=>some (0,e.2.1.1.2.2.2.2)) λ_=>some e.2.1.2
def VI (x:Unit):Option Bool :=
 bd (Vk ()) λd=>bd (UN (d,5)) λa=>bd (Vk ()) λe=>bd (Uk (e,5)) λb=>bd (Vk ()) λf=>bd (VH (f,0)) λc=>br (RR a.2.2 0) (λ_=>br (RR b.2 0) (λ_=>br (RR c.2 0) (λ_=>br (NX (RR a.2.1.1 3) (NX (RR a.2.1.2.1 2) (NX (RR a.2.1.2.2.1 1) (NX (NX (RR a.2.1.2.2.2.1 (Sw true 3 0)) (NX (RR a.2.1.2.2.2.2.1 (Sw false 3 0)) (NX (RR a.2.1.2.2.2.2.2.1 (Sw false 3 0)) (NX (RR a.2.1.2.2.2.2.2.2.1 (Sw false 3 0)) (NX (RR a.2.1.2.2.2.2.2.2.2.1 (Sw false 3 0)) (NX (RR a.2.1.2.2.2.2.2.2.2.2.1 (Sw false 3 0)) (NX (RR a.2.1.2.2.2.2.2.2.2.2.2.1 (Sw false 3 0)) (NX (RR a.2.1.2.2.2.2.2.2.2.2.2.2.1 (Sw false 3 0)) (NX (RR a.2.1.2.2.2.2.2.2.2.2.2.2.2.1 (Sw false 3 0)) (NX (RR a.2.1.2.2.2.2.2.2.2.2.2.2.2.2.1 (Sw false 3 0)) (NX (RR a.2.1.2.2.2.2.2.2.2.2.2.2.2.2.2.1 (Sw false 3 0)) (NX (RR a.2.1.2.2.2.2.2.2.2.2.2.2.2.2.2.2 (Sw false 3 0)) true)))))))))))) true)))) (λ_=>br (RR (Kb (AS a.1.2.1)) 0) (λ_=>br (RR (Kb (AS b.1)) 3) (λ_=>some (RR c.1 3)) λ_=>some false) λ_=>some false) λ_=>some false) λ_=>some false) λ_=>some false) λ_=>some false
def Um (x:((TB×((List (Int×(TC×((Bool×TE)×((List S8)×Int)))))×Int))×Int)):Option Bool :=
 bd (Wc x.1) λj=>br j (λ_=>bd (VI ()) λk=>some k) λ_=>bd (VH ((x.1,SY .i64 (Su .i64 x.2) 12))) λc=>br (RT c.2 0) (λ_=>br (RR c.1 0) (λ_=>bd (VI ()) λl=>some l) λ_=>some false) λ_=>bd (UN (x.1,Rp .i64 c.1 1)) λa=>bd (Uk (x.1,c.1)) λg=>bd (UN (x.1,c.1)) λb=>bd (We ((x.1,SY .i64 (Su .i64 x.2) 12))) λh=>br (RT a.2.2 0) (λ_=>some false) λ_=>br (RT g.2 0) (λ_=>some false) λ_=>br (RT b.2.2 0) (λ_=>some false) λ_=>br (RT h.2 0) (λ_=>some false) λ_=>br (SW c.1 1) (λ_=>some false) λ_=>br (RT (Kb (AS g.1)) c.1) (λ_=>some false) λ_=>RX (Rp .i64 c.1 1) λi=>ix g.1 i λm=>br (RT m (SY .i64 (Su .i64 x.2) 12)) (λ_=>some false) λ_=>RX (SY .i64 (Su .i64 x.2) 12) λd=>gd (KC d 12) λ_=>br (RR (OO ([b.2.1.2.2.2.1,b.2.1.2.2.2.2.1,b.2.1.2.2.2.2.2.1,b.2.1.2.2.2.2.2.2.1,b.2.1.2.2.2.2.2.2.2.1,b.2.1.2.2.2.2.2.2.2.2.1,b.2.1.2.2.2.2.2.2.2.2.2.1,b.2.1.2.2.2.2.2.2.2.2.2.2.1,b.2.1.2.2.2.2.2.2.2.2.2.2.2.1,b.2.1.2.2.2.2.2.2.2.2.2.2.2.2.1,b.2.1.2.2.2.2.2.2.2.2.2.2.2.2.2.1,b.2.1.2.2.2.2.2.2.2.2.2.2.2.2.2.2]) d) h.1) (λ_=>RX (SY .i64 (Su .i64 x.2) 12) λe=>gd (KC e 12) λ_=>br (RR (OO ([a.2.1.2.2.2.1,a.2.1.2.2.2.2.1,a.2.1.2.2.2.2.2.1,a.2.1.2.2.2.2.2.2.1,a.2.1.2.2.2.2.2.2.2.1,a.2.1.2.2.2.2.2.2.2.2.1,a.2.1.2.2.2.2.2.2.2.2.2.1,a.2.1.2.2.2.2.2.2.2.2.2.2.1,a.2.1.2.2.2.2.2.2.2.2.2.2.2.1,a.2.1.2.2.2.2.2.2.2.2.2.2.2.2.1,a.2.1.2.2.2.2.2.2.2.2.2.2.2.2.2.1,a.2.1.2.2.2.2.2.2.2.2.2.2.2.2.2.2]) e) (Rp .i64 h.1 1)) (λ_=>br (RR b.2.1.2.2.1 (Rl .i64 a.2.1.2.2.1 1)) (λ_=>bd (VI ()) λf=>some f) λ_=>some false) λ_=>some false) λ_=>some false
end
section
open Go Go.Proofs.YtfilfloanndddaaGreat.Sv
def Ux (s:TA):Int:=if (To s).2≠0 then (To s).2 else (Uv s (To s).1).2.2
def Vc (s:TA):TA:=(Uv s (To s).1).1
def Vn (s:TA):Int×Bool:=((To s).1,(Uv s (To s).1).2.1)
def Tj:Nat->TA->TA×(List (Int×Bool)×Int)
 | 0,s=>(s,([],0))
 | n+1,s=>if Ux s=4 then (s,([],0)) else if Ux s≠0 then (s,([],Ux s)) else ((Tj n (Vc s)).1,(Vn s::(Tj n (Vc s)).2.1,(Tj n (Vc s)).2.2))
theorem Ys {s:TA} : ∀ {l:List Int} {d:Int},V0 s l=some d -> ∃ p q,l=p++d::q/\(WJ false (λs j=>(Vs s.1 j,0)) s d).1=true /\ ∀ x∈p,¬ (WJ false (λs j=>(Vs s.1 j,0)) s x).1=true
 | [],_,h=>by cases h
 | x::l,d,h=>by
  unfold V0 at h;split at h
  ·rename_i a;cases h;exact ⟨[],l,rfl,a,λ_ h=>by cases h⟩
  ·rename_i a;obtain ⟨p,q,rfl,b,c⟩:=Ys h
   exact ⟨x::p,q,rfl,b,λy hy=>by
    rcases List.mem_cons.1 hy with rfl | hy
    ·exact a
    ·exact c y hy⟩
theorem Zx {s:TA} (v:VSt s):((To s).2=4/\s.2.1=[])\/(To s).2=9\/((To s).2=0/\(To s).1∈TH 0 s.1.2):=by
 have a:(TD s).2=0:=TJ.2 v;unfold To;rw [if_neg (by simp [a])];by_cases h:TH 0 s.1.2=[]
 ·rw [if_pos h];refine .inl ⟨rfl,?_⟩;have:=v.due;rw [h] at this;simpa using this
 ·rw [if_neg h];cases hc:V0 s (TH 0 s.1.2) with
  | none=>exact .inr (.inl rfl)
  | some d =>
   obtain ⟨p,q,e,_⟩:=Ys hc;exact .inr (.inr ⟨rfl,by rw [e];simp⟩)
theorem fD (s:TA) (j:Job):(Xb s j).2.2≠4:=by
 unfold Xb;split
 ·simp
 ·split
  ·simp
  ·unfold YV;split
   ·simp
   ·split<;>simp
theorem gu {s:TA} (v:VSt s) {d:Int} (h:d∈TH 0 s.1.2):(Uv s d).2.2≠4:=by
 have b:(TD s).2=0:=TJ.2 v;obtain ⟨j,n,a,_⟩:=v.atDue h;unfold Uv;rw [if_neg (by simp [b]),a];exact fD s j
theorem WH {s0 s:TA} (g:Gd s0 s):TV s=some (To s)/\Xy s=some (To s):=⟨l8 g.1.sm,ew g.1.sm⟩
theorem XT {s0 s:TA} (g:Gd s0 s) (d:Int):TW (s,d)=some (Uv s d)/\Xz (s,d)=some (Uv s d) :=
 ⟨ac g.1.sm (Yr g.2.2) d,ez g.1.sm (Yr g.2.2) d⟩
theorem bo {s0 s:TA} (g:Gd s0 s) (e:Ux s=0):(To s).2=0/\(To s).1∈TH 0 s.1.2/\(Uv s (To s).1).2.2=0:=by
 unfold Ux at e;rcases Zx g.1 with h | h | h
 ·rw [if_pos (by rw [h.1];decide),h.1] at e;cases e
 ·rw [if_pos (by rw [h];decide),h] at e;cases e
 ·rw [if_neg (by simp [h.1])] at e;exact ⟨h.1,h.2,e⟩
theorem Vr {s0 s:TA} (g:Gd s0 s) (e:Ux s=0) : ∃ (n:Nat) (j:Job),(Vn s).1=(n:Int)/\n<12/\JobAt s.1 n j/\Vs s.1 j=true/\StepF s n j (Vc s) (Vn s).2/\Gd s0 (Vc s):=by
 obtain ⟨_,a,b⟩:=bo g e;exact cx g a b
theorem Zy {s0 s:TA} (g:Gd s0 s) (e:Ux s=4):(To s).2=4/\s.2.1=[]:=by
 unfold Ux at e;rcases Zx g.1 with h | h | h
 ·exact h
 ·rw [if_pos (by rw [h];decide),h] at e;cases e
 ·rw [if_neg (by simp [h.1])] at e;exact absurd e (gu g.1 h.2)
theorem ay {s0 s:TA} {N:Nat} (g:Gd s0 s) (a:UY s.1.2.flatten<=N) (e:Ux s=0):aF N (Vc s)+1<=aF N s/\UY (Vc s).1.2.flatten<=N:=by
 obtain ⟨n,j,_,d,c,_,F,_⟩:=Vr g e;refine ⟨gZ g.1 a d c F,?_⟩;by_cases b:0<TM s.1 j
 ·rw [(F.read b).2.1];exact a
 ·rw [(F.inst (by omega)).2.1];exact Nat.le_trans (bR g.1 (Yr g.2.2) c b) a
theorem cK {s0:TA} {N:Nat} : ∀ {n:Nat} {s:TA},Gd s0 s->UY s.1.2.flatten<=N->(Tj n s).2.1.length<=n/\(Tj n s).2.1.length+aF N (Tj n s).1<=aF N s/\Gd s0 (Tj n s).1/\UY (Tj n s).1.1.2.flatten<=N/\((Tj n s).2.2=0->(Tj n s).2.1.length<n->(Tj n s).1.2.1=[])
 | 0,s,g,hN=>⟨Nat.le_refl _,by simp [Tj],g,hN,λ_ h=>absurd h (by simp [Tj])⟩
 | n+1,s,g,hN=>by
  unfold Tj;by_cases b:Ux s=4
  ·rw [if_pos b];exact ⟨by simp,by simp,g,hN,λ_ _=>(Zy g b).2⟩
  ·rw [if_neg b];by_cases a:Ux s=0
   ·rw [if_neg (by simp [a])];obtain ⟨_,_,_,_,_,_,_,d⟩:=Vr g a;obtain ⟨m,f⟩:=ay g hN a;obtain ⟨i,o,j,k,l⟩:=cK (n:=n) d f;refine ⟨by simpa using i,?_,j,k,λc e=>l c (by simpa using e)⟩;simp only [List.length_cons];omega
   ·rw [if_pos a];exact ⟨by simp,by simp,g,hN,λc=>absurd c a⟩
theorem cJ : ∀ (n m:Nat) (s:TA),Tj (n+m) s=if (Tj n s).2.2≠0 then Tj n s else ((Tj m (Tj n s).1).1,((Tj n s).2.1++(Tj m (Tj n s).1).2.1,(Tj m (Tj n s).1).2.2))
 | 0,m,s=>by rw [Nat.zero_add];simp [Tj]
 | n+1,m,s=>by
  rw [show n+1+m=(n+m)+1 by omega];have d:=cJ n m (Vc s);simp only [Tj];by_cases a:Ux s=4
  ·simp only [a,if_true];cases m with
   | zero=>simp [Tj]
   | succ m=>simp [Tj,a]
  ·simp only [a,if_false];by_cases b:Ux s=0
   ·simp only [b,ne_eq,not_true_eq_false,if_false];rw [d];by_cases c:(Tj n (Vc s)).2.2=0
    ·simp [c]
    ·simp [c]
   ·simp [b]
def XV (u:Xt) (x:Int×Bool):Xt:=(Rl .i64 u.1 1,(u.2.1,(if x.2=true then Rl .i64 u.2.2.1 1 else u.2.2.1,ZB u.2.2.2 x.1.toNat x.1.toNat)))
def XK (u:Xt) (l:List (Int×Bool)):Xt:=l.foldl XV u
end
end Go.Proofs.YtfilfloanndddaaGreat.Pl
