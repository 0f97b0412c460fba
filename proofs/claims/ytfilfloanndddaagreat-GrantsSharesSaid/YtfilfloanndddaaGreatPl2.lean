/- Functions of the program and of the specification as plain functions, and laws about them. No condition. -/
import Derived.Test.YtfilfloanndddaaGreatPl1
import Derived.KernelRfl
set_option linter.all false
namespace Go.Proofs.YtfilfloanndddaaGreat.Pl
open Go Go.Proofs.YtfilfloanndddaaGreat.Sv
def zS:AG:=((0,[]),([],0))
def CI (j:Job):List AD:=j.2.2.2.1
def Jd (s:AG) (j:Job):Nat:=if Ea s.1 j=true then j.1.toNat else j.1.toNat+1
def D1 (s:AG) (j:Job):AJ:=if CI j=[] then CN s.1 j.1.toNat [] else CN (CN s.1 j.1.toNat []) (Jd s j) (AW (CN s.1 j.1.toNat []).2 (Jd s j)++[(s.2.2,CI j)])
def I3 (s:AG) (j:Job):Int:=if CI j=[] then s.2.2 else s.2.2+1
def Lr (s:AG) (j:Job):AG×Int :=
 if 0<BF s.1 j\/Et s.1 j=false then (zS,9) else if s.2.2>1000000/\CI j≠[] then (zS,5) else (K0 s (D1 s j) (I3 s j) j.1,0)
theorem R3 : ∀ (ls:List (List BI)) (i:Nat),(Aa i ls).Nodup /\ ∀ d∈Aa i ls,(i:Int)<=d
 | [],_=>⟨.nil,λ_ h=>by cases h⟩
 | rs::ls,i=>by
  obtain ⟨b,a⟩:=R3 ls (i+1);rw [J9];by_cases h:rs.length=2
  ·rw [if_pos h];refine ⟨List.nodup_cons.2 ⟨λc => ?_,b⟩,λd hd => ?_⟩
   ·have:=a _ c;omega
   ·rcases List.mem_cons.1 hd with e | hd
    ·omega
    ·have:=a d hd;omega
  ·rw [if_neg h];exact ⟨b,λd hd=>by have:=a d hd;omega⟩
theorem VSt.nodup {s:AG} (v:VSt s):(s.2.1.map (·.1)).Nodup:=by rw [v.due];exact (R3 _ _).1
theorem JobAt.out {L:AJ} {n:Nat} {j:Job} (m:JobAt L n j) (v:VLev L) (hs:(∀ r∈AW L.2 n,r.2.length<=2000)):VL (CI j)/\((CI j).length:Int)<=2*CU L.1 n/\j.1=(n:Int)/\n<12/\AW L.2 n≠[]:=by
 obtain ⟨a,b,d,k,e,rfl,i,_,h,l⟩:=m;have c:AW L.2 n=[a,b]:=by unfold AW;rw [e];rfl
 have u:=hs a (by rw [c];simp);have o:=hs b (by rw [c];simp);have t:=((v.own n).2 a (by rw [c];simp)).le;have s:=((v.own n).2 b (by rw [c];simp)).le;obtain ⟨g,f⟩:=d8 l h d i (by omega);have p:=(List.getElem?_eq_some_iff.1 e).1;have w:=v.len;refine ⟨g,?_,rfl,by omega,by rw [c];simp⟩
 have q:((CI ((n:Int),DY b.2 a.2 d k)).length:Int)<=(b.2.length:Int)+(a.2.length:Int):=by
  have:(CI ((n:Int),DY b.2 a.2 d k)).length<=b.2.length+a.2.length:=f;omega
 omega
def d9 (L:AJ):Prop := ∀ i,∀ r∈AW L.2 i,r.2.length<=2000
structure InstF (s:AG) (n:Nat) (j:Job):Prop where
 l1:VLev (CN s.1 n [])
 to12:CI j≠[]->Jd s j<12
 vr:CI j≠[]->VR (CU s.1.1 (Jd s j)) (s.2.2,CI j)
 id : ∀ y∈(CN s.1 n []).2.flatten,y.1≠s.2.2
 room:CI j≠[]->(AW (CN s.1 n []).2 (Jd s j)).length<2
 lev:VLev (D1 s j)
theorem Yo {s:AG} (v:VSt s) (C:d9 s.1) {n:Nat} {j:Job} (x:JobAt s.1 n j) (I : ¬ 0<BF s.1 j) (hc:Et s.1 j=true) (B:CI j≠[]->s.2.2<=1000000):InstF s n j:=by
 obtain ⟨F,D,z,o,G⟩:=x.out v.lev (C n);have a:=v.lev.leave (n:=n) o;have g:j.1.toNat=n:=by rw [z];simp
 have b:Ea s.1 j≠true->n+1<12/\(AW s.1.2 (n+1)).length<2:=λhs=>by
  unfold Et at hc;rw [show decide (0<BF s.1 j)=false by simp;omega,g] at hc;cases r:Ea s.1 j with
  | true=>exact absurd r hs
  | false =>
   rw [r] at hc;simpa [Lq,AW] using hc
 have f : ∀ y∈(CN s.1 n []).2.flatten,y.1≠s.2.2:=λy t=>by
  obtain ⟨p,q,k,i⟩:=IA s.1 n [];rw [i,List.nil_append] at t
  have A:y∈s.1.2.flatten:=by
   rw [k];rcases List.mem_append.1 t with h | h
   ·exact List.mem_append_left _ h
   ·exact List.mem_append_right _ (List.mem_append_right _ h)
  have:=NX A;have:=v.n3;omega
 have m:Jd s j<12/\(AW (CN s.1 n []).2 (Jd s j)).length<2/\((CI j).length:Int)<=CU s.1.1 (Jd s j):=by
  unfold Jd;by_cases hs:Ea s.1 j=true
  ·rw [if_pos hs,g];refine ⟨o,by rw [GQ,if_pos rfl];simp,?_⟩;have c:=hs;unfold Ea at c;rw [g] at c;exact of_decide_eq_true c
  ·rw [if_neg hs,g];obtain ⟨k,i⟩:=b hs;refine ⟨k,by rw [GQ,if_neg (by omega)];exact i,?_⟩;rw [Ru];exact D
 obtain ⟨u,w,E⟩:=m;have d:CI j≠[]->VR (CU s.1.1 (Jd s j)) (s.2.2,CI j):=λe=>⟨v.n1,B e,F,e,E⟩;refine ⟨a,λ_=>u,d,f,λ_=>w,?_⟩;unfold D1;rw [g];by_cases l:CI j=[]
 ·rw [if_pos l];exact a
 ·rw [if_neg l];exact a.arrive u w (d l) f
theorem R4 {s:AG} (v:VSt s) (t:d9 s.1) {n:Nat} {j:Job} (p:JobAt s.1 n j) (L : ¬ 0<BF s.1 j) (hc:Et s.1 j=true) (E:CI j≠[]->s.2.2<=1000000) (l:Int) :
  (bd (DQ (s.1,(n:Int))) λc=>br (A8 c.2.2 0) (λ_=>br (CD (Ab (AA j.2.2.2.1)) 0) (λ_=>bd (BU (s,(j,l))) λM=>br (Ad M) (λ_=>bd (Bb ((c.1,(AI .i64 (n:Int) 1,(s.2.2,j.2.2.2.1))))) λm=>br (Ay m.2 0) (λ_=>some ((((0,[]),([],0)),m.2))) λ_=>bd (BK ((s,(m.1,(AI .i64 s.2.2 1,(n:Int)))))) λD=>some D) λ_=>bd (Bb ((c.1,((n:Int),(s.2.2,j.2.2.2.1))))) λo=>br (Ay o.2 0) (λ_=>some ((((0,[]),([],0)),o.2))) λ_=>bd (BK ((s,(o.1,(AI .i64 s.2.2 1,(n:Int)))))) λA=>some A) λ_=>br (Ay c.2.2 0) (λ_=>some ((((0,[]),([],0)),c.2.2))) λ_=>bd (BK ((s,(c.1,(s.2.2,(n:Int)))))) λI=>some I) λ_=>br (Ay c.2.2 0) (λ_=>some ((((0,[]),([],0)),c.2.2))) λ_=>bd (BK ((s,(c.1,(s.2.2,(n:Int)))))) λk=>some k)
  = some (K0 s (D1 s j) (I3 s j) j.1,0):=by
 have F:=Yo v t p L hc E;obtain ⟨N,O,g,z,w⟩:=p.out v.lev (t n);have i:j.1.toNat=n:=by rw [g];simp
 have J:=v.n2;have y:=v.n1;have G:=v.jsmall;have a:=F.lev;rw [Ws v.lev w,AB];show (br (A8 0 0) _ _)=_;rw [A2,if_pos rfl,AX,AR,Am];by_cases b:CI j=[]
 ·rw [if_neg (show ¬ ((j.2.2.2.1.length:Int)>0) by rw [show j.2.2.2.1=[] from b];simp),AP,if_pos rfl];unfold D1 at a ⊢;rw [if_pos b,i] at a;rw [if_pos b,i,O0 v.nodup (by omega) a,AB];unfold I3;rw [if_pos b,g]
 ·rw [if_pos (show ((j.2.2.2.1.length:Int)>0) by have:=List.length_pos_iff.2 b;have h:(CI j).length=j.2.2.2.1.length:=rfl;omega),QW v.lev g z,AB,BX];have K:(CI j).length<=1048576:=by have:=N.len;omega
  have C:kR [] (CU (CN s.1 n []).1 (Jd s j)) (s.2.2,CI j)=0:=di.2 ⟨F.vr b,by simp⟩;have f:=VK F.l1 (F.to12 b) (x:=(s.2.2,CI j)) K F.id (F.room b);rw [if_neg (by simp [C])] at f
  have B:D1 s j=CN (CN s.1 n []) (Jd s j) (AW (CN s.1 n []).2 (Jd s j)++[(s.2.2,CI j)]):=by
   unfold D1;rw [if_neg b,i]
  have r:I3 s j=s.2.2+1:=by unfold I3;rw [if_neg b]
  rw [<- B] at f;have u:AI .i64 s.2.2 1=s.2.2+1:=DV (by omega);have q:=O0 v.nodup (by omega) a (s.2.2+1) (n:Int);rw [Es];have d:Jd s j=if Ea s.1 j=true then n else n+1:=by unfold Jd;rw [i]
  by_cases hs:Ea s.1 j=true
  ·rw [if_pos hs] at d ⊢;rw [d] at f;have e:Bb (CN s.1 n [],((n:Int),(s.2.2,j.2.2.2.1)))=some (D1 s j,0):=f;rw [e,AB,AP,if_pos rfl,u,q,AB,r,g]
  ·rw [if_neg hs] at d ⊢;rw [d] at f;rw [Af (by omega)];have e:Bb (CN s.1 n [],(((n+1:Nat):Int),(s.2.2,j.2.2.2.1)))=some (D1 s j,0):=f;rw [e,AB,AP,if_pos rfl,u,q,AB,r,g]
theorem Wt {s:AG} (m:Sm s) (g:d9 s.1) (a:Int):Dl (s,a)=some (G6 zS Lr s a):=by
 unfold Dl;rw [VF m,AB];unfold G6;by_cases b:(AO s).2=0;rotate_left
 ·rw [if_pos b,AP,if_neg b,if_pos b];rfl
 rw [if_neg (show ¬ (AO s).2≠0 by simp [b]),if_neg (show ¬ (AO s).2≠0 by simp [b])];have v:=Aj.1 b;unfold Ql;cases l:NV a 0 (Aa 0 s.1.2) with
 | none=>rfl
 | some i =>
  obtain ⟨j,n,o,p,e,k,q⟩:=v.at l;have:=v.lev.len;subst p;simp only [o];unfold BB Lr;rw [AP,if_pos rfl,AB,Am];by_cases f:0<BF s.1 j
  ·rw [if_pos (show ((BF s.1 j:Int))>0 by omega),if_pos (.inl f)];rfl
  rw [if_neg (show ¬ ((BF s.1 j:Int))>0 by omega),TJ v.lev e (by omega) _ rfl,AB,BX,Es];by_cases hc:Et s.1 j=true;rotate_left
  ·rw [if_neg hc,if_pos (.inr (by simpa using hc))];rfl
  rw [if_pos hc,if_neg (show ¬ (0<BF s.1 j\/Et s.1 j=false) by rw [hc];simp;omega),Am];by_cases d:s.2.2>1000000
  ·rw [if_pos d,AX,AR,Am];by_cases c:CI j=[]
   ·rw [if_neg (show ¬ ((j.2.2.2.1.length:Int)>0) by rw [show j.2.2.2.1=[] from c];simp),if_neg (by simp [c])];exact R4 v g k f hc (λh=>absurd c h) _
   ·rw [if_pos (show ((j.2.2.2.1.length:Int)>0) by have:=List.length_pos_iff.2 c;have h:(CI j).length=j.2.2.2.1.length:=rfl;omega),if_pos ⟨d,c⟩];rfl
  ·rw [if_neg d,if_neg (by simp [d])];exact R4 v g k f hc (λh=>by omega) _
end Go.Proofs.YtfilfloanndddaaGreat.Pl
namespace Go.Proofs.YtfilfloanndddaaGreat.Pl
open Go Go.Proofs.YtfilfloanndddaaGreat.Sv
def KK (L:AJ) (j:Job):H3:=match AW L.2 j.1.toNat with
 | [r0,r1]=>DY r1.2 r0.2 j.2.2.1.2.2 (j.2.2.2.2.toNat+1)
 | _=>j.2
def NZ (s:AG) (j:Job):AG:=(s.1,(lset s.2.1 ((NV j.1 0 (Aa 0 s.1.2)).getD 0) (j.1,KK s.1 j),s.2.2))
theorem eA {s:AG} (m:Sm s) (v:VSt s) {a:Int} {i:Nat} (l:NV a 0 (Aa 0 s.1.2)=some i) {j:Job} (g:s.2.1[i]? = some j) (A:0<BF s.1 j):Hm (s,(a,1))=some (NZ s j,(1,0)):=by
 obtain ⟨j',n,f,B,y,q,E⟩:=v.at l;rw [g] at f;cases f;subst B;have r:(AO s).2=0:=Aj.2 v
 have o:JW s (n:Int)=((i:Int),0):=by
  unfold JW;rw [if_neg (show ¬ (AO s).2≠0 by simp [r]),l]
 have z:=v.jsmall;have hi:=(List.getElem?_eq_some_iff.1 g).1;unfold Hm;rw [ny m,AB,AP,if_pos r,A1,if_neg (show ¬ ((1:Int)<0) by omega),Ym m,AB,o,AP,if_pos rfl,AE,AL g,(JobAt.left q).1,AB,A2,if_neg (show ¬ ((BF s.1 j:Int)=0) by omega),AE,AL g];obtain ⟨c,b,d,k,p,rfl,w,C,x,t⟩:=q;have u:AW s.1.2 n=[c,b]:=by unfold AW;rw [p];rfl
 have h:BF s.1 ((n:Int),DY b.2 c.2 d k)=b.2.length+c.2.length-k:=by
  unfold BF;simp only [Int.toNat_natCast,p];show b.2.length+c.2.length-((k:Int)).toNat=_;rw [Int.toNat_natCast]
 rw [h] at A;have e:=Rr t x d w (k:=1);rw [show min 1 (b.2.length+c.2.length-k)=1 by omega] at e;show (bd (CC (DY b.2 c.2 d k,((1:Nat):Int))) λD=>_)=_;rw [e,AB];simp only;rw [AP,if_pos rfl];unfold Be;rw [Bj (by simp only [AA];omega),AB,AE,Kq,if_pos (by simp only [AA];exact hi),AL g];unfold NZ KK;simp only [Int.toNat_natCast,u,l,Option.getD_some];have e1:(DY b.2 c.2 d k).2.1.2.2=d:=QU _ _ _ _;have e2:(DY b.2 c.2 d k).2.2.2.toNat=k:=by show ((k:Int)).toNat=k;rw [Int.toNat_natCast]
 rw [e1,e2];rfl
def Ir (s:AG) (j:Job):AG×(Bool×Int):=if Et s.1 j=false then (zS,(false,9)) else if 0<BF s.1 j then (NZ s j,(false,0)) else ((Lr s j).1,(A8 (Lr s j).2 0,(Lr s j).2))
def CY (s:AG) (a:Int):AG×(Bool×Int):=if (AO s).2≠0 then (zS,(false,(AO s).2)) else match Ql s a with
 | some j=>Ir s j
 | none=>(zS,(false,4))
theorem TP {s:AG} (m:Sm s) (g:d9 s.1) (a:Int):BV (s,a)=some (CY s a):=by
 unfold BV;rw [VF m,AB,Wt m g];unfold G6 CY;by_cases b:(AO s).2=0;rotate_left
 ·rw [if_pos b,AP,if_neg b,if_pos b];rfl
 rw [if_neg (show ¬ (AO s).2≠0 by simp [b]),if_neg (show ¬ (AO s).2≠0 by simp [b]),if_neg (show ¬ (AO s).2≠0 by simp [b])];have v:=Aj.1 b;unfold Ql;cases e:NV a 0 (Aa 0 s.1.2) with
 | none=>rfl
 | some i =>
  obtain ⟨j,n,f,k,c,l,h⟩:=v.at e;have:=v.lev.len;simp only [f];unfold Ir BB;rw [AP,if_pos rfl,TJ v.lev c (by omega) _ rfl,AB,BX,Es];cases hc:Et s.1 j with
  | false=>rw [if_neg (by simp),if_pos rfl];rfl
  | true =>
   rw [if_pos rfl,if_neg (by simp),AB,Am];by_cases d:0<BF s.1 j
   ·rw [if_pos (show ((BF s.1 j:Int))>0 by omega),if_pos d,eA m v e f d];rfl
   ·rw [if_neg (show ¬ ((BF s.1 j:Int))>0 by omega),if_neg d];rfl
end Go.Proofs.YtfilfloanndddaaGreat.Pl
namespace Go.Proofs.YtfilfloanndddaaGreat.Pl
open Go Go.Proofs.YtfilfloanndddaaGreat.Sv
theorem TQ {ls:List (List BI)} {d:Int} (h:d∈Aa 0 ls) : ∃ (n:Nat) (a b:BI),d=(n:Int)/\ls[n]? = some [a,b]:=by
 obtain ⟨k,f⟩:=List.getElem?_of_mem h;obtain ⟨n,e,a,b,c⟩:=H9 f;exact ⟨n,a,b,by rw [e,Nat.zero_add],c⟩
theorem VM {l:List (List BI)} {n:Int} (i:0<n) (h : ∀ x∈l.flatten,x.1<n):Fh l<n:=by
 have e : ∀ (rs:List BI) (m:Int),m<n->(∀ x∈rs,x.1<n)->rs.foldl (λm r=>LL m r.1) m<n:=by
  intro rs
  induction rs with
  | nil=>intro m b _;exact b
  | cons r rs f =>
   intro m b c;rw [List.foldl_cons];refine f _ ?_ λx d=>c x (by simp [d]);rw [G5];have:=c r (by simp);omega
 have two : ∀ (ls:List (List BI)) (m:Int),m<n->(∀ rs∈ls,∀ x∈rs,x.1<n)->ls.foldl (λm rs=>rs.foldl (λm r=>LL m r.1) m) m<n:=by
  intro ls
  induction ls with
  | nil=>intro m b _;exact b
  | cons rs ls f =>
   intro m b c;rw [List.foldl_cons];exact f _ (e rs m b (c rs (by simp))) λg a=>c g (by simp [a])
 exact two l 0 i λrs a x d=>h x (List.mem_flatten.2 ⟨rs,a,d⟩)
theorem lH {l:List (List BI)} (e:l.getLast? ≠ some []) {n:Nat} (a:AW l n≠[]) (d : ∀ i,n<i->AW l i=[]):l.length=n+1:=by
 have f:n<l.length:=by
  by_cases h:n<l.length
  ·exact h
  ·unfold AW at a;rw [List.getElem?_eq_none (by omega)] at a;exact absurd rfl a
 by_cases c:l.length=n+1
 ·exact c
 ·exfalso;have b:=d (l.length-1) (by omega);refine e ?_;rw [List.getLast?_eq_getElem?,E0 (by omega),b]
theorem Wu {js:List Job} {d:Int} {j:Job} (h:B8 js d=some j):j∈js/\j.1=d:=by
 unfold B8 at h;have a:=List.find?_some h;unfold TN at a;rw [Db] at a;exact ⟨List.mem_of_find?_eq_some h,(of_decide_eq_true a).symm⟩
theorem eB {L:AJ} (v:VLev L) {n:Nat} {b c:BI} (h:L.2[n]? = some [b,c]):JobAt L n (Fm L (n:Int)):=by
 have a:AW L.2 n=[b,c]:=by unfold AW;rw [h];rfl
 refine ⟨b,c,decide ((n:Int)=(L.2.length:Int)-1),0,h,?_,Nat.zero_le _,λd => ?_,VR.vl' v (n:=n) (by rw [a];simp),VR.vl' v (n:=n) (by rw [a];simp)⟩
 ·unfold Fm;rw [Int.toNat_natCast,a]
 ·have:=of_decide_eq_true d;have:=(List.getElem?_eq_some_iff.1 h).1;omega
theorem eC {s:AG} (v:VSt s) {L:AJ} (t:VLev L) {next a:Int} (z:1<=next) (y:next<=1000001) (G : ∀ x∈L.2.flatten,x.1<next)
  (E : ∀ (n:Nat) (h f:BI),s.1.2[n]? = some [h,f]->(n:Int)≠a->(∃ q o,L.2[n]? = some [q,o])->L.2[n]? = some [h,f]/\(n+1=s.1.2.length->n+1=L.2.length)):VSt (K0 s L next a):=by
 have b : ∀ d∈Aa 0 L.2,(F1 s L a d).1=d /\ ∃ n,JobAt L n (F1 s L a d):=λd c=>by
  obtain ⟨n,q,o,rfl,u⟩:=TQ c;unfold F1;cases l:(if (n:Int)=a then none else B8 s.2.1 (n:Int)) with
  | none =>
   rw [Option.getD_none];have i:=eB t u;refine ⟨?_,n,i⟩;obtain ⟨_,_,_,_,_,e,_⟩:=i;rw [e]
  | some j =>
   rw [Option.getD_some];by_cases p:(n:Int)=a
   ·rw [if_pos p] at l;cases l
   rw [if_neg p] at l;obtain ⟨r,g⟩:=Wu l;refine ⟨g,n,?_⟩;obtain ⟨m,h,f,K,k,C,rfl,A,J,F,D⟩:=v.job j r;have I:m=n:=by have:(m:Int)=(n:Int):=g;omega
   subst I;obtain ⟨w,B⟩:=E m h f C p ⟨q,o,u⟩;exact ⟨h,f,K,k,w,rfl,A,λi=>B (J i),F,D⟩
 refine ⟨t,z,y,VM (by show 0<next;omega) G,?_,λj r => ?_⟩
 ·show ((Aa 0 L.2).map (F1 s L a)).map (·.1)=Aa 0 L.2;rw [List.map_map]
  conv=>rhs;rw [<- List.map_id (Aa 0 L.2)]
  exact List.map_congr_left λd c=>(b d c).1
 ·obtain ⟨d,c,rfl⟩:=List.mem_map.1 r;exact (b d c).2
theorem Is {l:List (List BI)} {n:Nat} {b c:BI}:l[n]? = some [b,c]<->AW l n=[b,c]:=by
 unfold AW;constructor
 ·intro h;rw [h];rfl
 ·intro h;cases a:l[n]? with
  | none=>rw [a] at h;cases h
  | some rs=>rw [a] at h;exact congrArg some h
theorem Ej {s:AG} {j:Job} {n:Nat} (b:j.1.toNat=n) (i:Nat):AW (D1 s j).2 i=if CI j≠[]/\i=Jd s j then (if i=n then [] else AW s.1.2 i)++[(s.2.2,CI j)] else if i=n then [] else AW s.1.2 i:=by
 unfold D1;rw [b];by_cases a:CI j=[]
 ·rw [if_pos a,if_neg (by simp [a]),GQ]
 ·rw [if_neg a,GQ];by_cases hi:i=Jd s j
  ·rw [if_pos hi,if_pos ⟨a,hi⟩,GQ,<- hi]
  ·rw [if_neg hi,if_neg (by simp [hi]),GQ]
theorem eE {s:AG} (v:VSt s) (z:d9 s.1) {n:Nat} {j:Job} (r:JobAt s.1 n j) (K : ¬ 0<BF s.1 j) (hc:Et s.1 j=true) (w:CI j≠[]->s.2.2<=1000000):VSt (K0 s (D1 s j) (I3 s j) j.1):=by
 have F:=Yo v z r K hc w;obtain ⟨S,O,t,M,p⟩:=r.out v.lev (z n);have o:j.1.toNat=n:=by rw [t];simp
 have C:=v.n1;have E:=v.n2
 have g:s.2.2<=I3 s j/\I3 s j<=1000001/\(CI j≠[]->s.2.2<I3 s j):=by
  unfold I3;by_cases d:CI j=[]
  ·rw [if_pos d];exact ⟨by omega,by omega,λh=>absurd d h⟩
  ·rw [if_neg d];have:=w d;exact ⟨by omega,by omega,λ_=>by omega⟩
 refine eC v F.lev (by omega) g.2.1 (λx L => ?_) (λm A u D I N => ?_)
 ·obtain ⟨i,hi⟩:=QY.1 L;rw [Ej o] at hi
  have c : ∀ {y:BI},y∈(if i=n then [] else AW s.1.2 i)->y.1<I3 s j:=fun {y} l=>by
   by_cases a:i=n
   ·rw [if_pos a] at l;cases l
   ·rw [if_neg a] at l;have:=NX (QY.2 ⟨i,l⟩);have:=v.n3;omega
  split at hi
  ·rename_i hh;rcases List.mem_append.1 hi with hi | hi
   ·exact c hi
   ·rw [List.mem_singleton.1 hi];exact g.2.2 hh.1
  ·exact c hi
 ·have k:m≠n:=λe=>I (by rw [t,e]);have f:AW s.1.2 m=[A,u]:=Is.1 D
  have q : ¬ (CI j≠[]/\m=Jd s j):=λ⟨d,J⟩=>by
   have:=F.room d;rw [GQ,<- J,if_neg k,f] at this;simp at this
  have b:AW (D1 s j).2 m=[A,u]:=by rw [Ej o,if_neg q,if_neg k,f]
  refine ⟨Is.2 b,λP=>(lH F.lev.last (by rw [b];simp) λi hi => ?_).symm⟩;have a:AW s.1.2 i=[]:=by unfold AW;rw [List.getElem?_eq_none (by omega)];rfl
  have G:n<s.1.2.length:=by
   by_cases h:n<s.1.2.length
   ·exact h
   ·unfold AW at p;rw [List.getElem?_eq_none (by omega)] at p;exact absurd rfl p
  have B:Jd s j<=n+1:=by unfold Jd;rw [o];split<;>omega
  rw [Ej o,if_neg (by rintro ⟨_,h⟩;omega),a];split<;>rfl
theorem Job.steps {L:AJ} {n:Nat} {j:Job} (m:JobAt L n j) (h:0<BF L j):JobAt L n (j.1,KK L j):=by
 obtain ⟨a,b,c,k,e,rfl,o,f,i,l⟩:=m;have g:=Is.1 e
 have d:BF L ((n:Int),DY b.2 a.2 c k)=b.2.length+a.2.length-k:=by
  unfold BF;simp only [Int.toNat_natCast,e];show b.2.length+a.2.length-((k:Int)).toNat=_;rw [Int.toNat_natCast]
 rw [d] at h;refine ⟨a,b,c,k+1,e,?_,by omega,f,i,l⟩;unfold KK;simp only [Int.toNat_natCast,g];have e1:(DY b.2 a.2 c k).2.1.2.2=c:=QU _ _ _ _;have e2:(DY b.2 a.2 c k).2.2.2.toNat=k:=by show ((k:Int)).toNat=k;rw [Int.toNat_natCast]
 rw [e1,e2]
theorem eF {s:AG} (v:VSt s) {j:Job} {i n:Nat} (c:NV j.1 0 (Aa 0 s.1.2)=some i) (a:s.2.1[i]? = some j) (e:JobAt s.1 n j) (d:0<BF s.1 j):VSt (NZ s j):=by
 unfold NZ;rw [c,Option.getD_some];refine ⟨v.lev,v.n1,v.n2,v.n3,?_,λx hx => ?_⟩
 ·show (s.2.1.set i (j.1,KK s.1 j)).map (·.1)=_;rw [<- v.due,List.map_set];refine List.ext_getElem? λk => ?_;rw [List.getElem?_set];by_cases b:i=k
  ·subst b;have hi:=(List.getElem?_eq_some_iff.1 a).1;rw [if_pos rfl,List.length_map,if_pos hi,List.getElem?_map,a];rfl
  ·rw [if_neg b]
 ·rcases List.mem_or_eq_of_mem_set hx with hx | hx
  ·exact v.job x hx
  ·rw [hx];exact ⟨n,Job.steps e d⟩
end Go.Proofs.YtfilfloanndddaaGreat.Pl
namespace Go.Proofs.YtfilfloanndddaaGreat.Pl
open Go Go.Proofs.YtfilfloanndddaaGreat.Sv
theorem l8 {B:Int} {M:List (List BI)} {f:(Int×List (List BI))->Option (LR (Int×List (List BI)) (Nat×((Int×List (List BI))×Unit)))} (a:f (B,[])=some (.dn (0,((B,[]),())))) (hs : ∀ k,k<M.length->f (B,M.take (k+1))=if AW M k=[] then some (.nx (B,M.take k)) else some (.dn (0,((B,M.take (k+1)),())))) : ∀ k,k<=M.length->Di (k+1) f (B,M.take k)=some (0,((B,M.take (J7 M k)),()))
 | 0,_=>by rw [List.take_zero];exact BY a
 | k+1,hk=>by
  have h:=hs k (by omega);unfold J7;by_cases b:AW M k=[]
  ·rw [if_pos b] at h ⊢;rw [BL h];exact l8 a hs k (by omega)
  ·rw [if_neg b] at h ⊢;exact BY h
theorem eG {M:List (List BI)} {k:Nat} (h:k<M.length):M.take (k+1)=M.take k++[AW M k]:=by
 rw [List.take_add_one,E0 h];rfl
theorem VN {L:AJ} (t:L.2.length<=1000) {n:Nat} (s:n<1000) {r:List BI} (l:r.length<=1048576) (p : ∀ i,(AW L.2 i).length<=1048576):Cl (L,((n:Int),r))=some (CN L n r):=by
 have u:(GJ L.2 n r).length=max L.2.length (n+1):=by unfold GJ;rw [List.length_set,Kz]
 unfold Cl;simp only [AX,AR];refine BH (IR (r:=(0,((((max L.2.length (n+1):Nat):Int),(L.1,GJ L.2 n r)),()))) (λk=>((k:Int),(L.1,(GJ L.2 n r).take k))) (max L.2.length (n+1)) (by simp) (by omega) (λk j => ?_) ?_) ?_
 ·have d:((GJ L.2 n r).take k).length=k:=by rw [List.length_take];omega
  simp only [d];rw [eG (by omega),VH,Af (by omega),A1];by_cases h:k<L.2.length
  ·rw [if_pos (by omega),EK,if_neg (by omega),AE,AL (E0 h),A2];by_cases a:k=n
   ·rw [if_pos (by omega),if_pos a,Bj l,Bj (by simp only [Ag,List.length_cons,List.length_nil];omega)];rfl
   ·rw [if_neg (by omega),if_neg a,Bj (p k),Bj (by simp only [Ag,List.length_cons,List.length_nil];omega)];rfl
  ·rw [if_neg (by omega),Ya,if_pos (by omega),EK,if_pos (by omega),A2];by_cases a:k=n
   ·rw [if_pos (by omega),if_pos a,Bj l,Bj (by simp only [Ag,List.length_cons,List.length_nil];omega)];rfl
   ·rw [if_neg (by omega),if_neg a,Bj (by simp only [Ag,List.length_cons,List.length_nil];omega)];have:AW L.2 k=[]:=by unfold AW;rw [List.getElem?_eq_none (by omega)];rfl
    rw [this];rfl
 ·have d:(GJ L.2 n r).take (max L.2.length (n+1))=GJ L.2 n r:=List.take_of_length_le (by omega);simp only;rw [A1,if_neg (by omega),Ya,if_neg (by omega),d]
 ·have c:=l8 (B:=L.1) (M:=GJ L.2 n r) (f:=λb=>br (CD (b.2.length:Int) 0) (λ_=>AT (CA .i64 (b.2.length:Int) 1) λm=>ix b.2 m λq=>br (A8 (q.length:Int) 0) (λ_=>AT (CA .i64 (b.2.length:Int) 1) λg=>gd (BP g b.2.length) λ_=>gd (BP 0 g) λ_=>some (.nx (b.1,EI b.2 0 g))) λ_=>some (.dn ((0,(b,()))))) λ_=>some (.dn ((0,(b,()))))) rfl (λk j=>by
   have d:((GJ L.2 n r).take (k+1)).length=k+1:=by rw [List.length_take];omega
   have hi:CA .i64 ((k+1:Nat):Int) 1=(k:Int):=by rw [CR (by omega)];omega
   have o:((GJ L.2 n r).take (k+1))[k]? = some (AW (GJ L.2 n r) k):=by rw [List.getElem?_take,if_pos (by omega),E0 j]
   simp only [d,hi];rw [Am,if_pos (by omega),AE,AL o,TM];by_cases e:AW (GJ L.2 n r) k=[]
   ·rw [if_pos e,if_pos e,AE,Bj (by omega),Bj (by omega)]
    have:EI ((GJ L.2 n r).take (k+1)) 0 k=(GJ L.2 n r).take k:=by
     unfold EI;rw [List.drop_zero,Nat.sub_zero,List.take_take];congr 1;omega
    rw [this]
   ·rw [if_neg e,if_neg e]) _ (Nat.le_refl _)
  rw [List.take_of_length_le (Nat.le_refl _)] at c;exact BH (Cm (by omega) c) rfl
end Go.Proofs.YtfilfloanndddaaGreat.Pl
namespace Go.Proofs.YtfilfloanndddaaGreat.Pl
open Go Go.Proofs.YtfilfloanndddaaGreat.Sv
theorem Z9 {s:AG} (m:Sm s) (v:VSt s) {a:Int} {i:Nat} (l:NV a 0 (Aa 0 s.1.2)=some i) {j:Job} (g:s.2.1[i]? = some j) (B:0<BF s.1 j):Ff (s,(a,1))=some (NZ s j,(1,0)):=by
 obtain ⟨j',n,f,C,z,u,F⟩:=v.at l;rw [g] at f;cases f;subst C;have h:(AO s).2=0:=Aj.2 v
 have q:JW s (n:Int)=((i:Int),0):=by
  unfold JW;rw [if_neg (show ¬ (AO s).2≠0 by simp [h]),l]
 have p:G6 (0:Int) (λs j=>((BF s.1 j:Int),0)) s (n:Int)=((BF s.1 j:Int),0):=by
  unfold G6 Ql;rw [if_neg (show ¬ (AO s).2≠0 by simp [h]),l];simp only [g]
 have A:=v.jsmall;have hi:=(List.getElem?_eq_some_iff.1 g).1;unfold Ff;rw [mo m,AB,A2,if_pos h,A1,if_neg (show ¬ ((1:Int)<0) by omega),AP,if_pos h,LY m,p,AB,A2,if_pos rfl,A2,if_neg (show ¬ ((BF s.1 j:Int)=0) by omega),AP,if_pos rfl,Ky m,q,AB,AE,AL g];obtain ⟨c,b,d,k,r,rfl,x,D,y,t⟩:=u;have w:AW s.1.2 n=[c,b]:=by unfold AW;rw [r];rfl
 have o:BF s.1 ((n:Int),DY b.2 c.2 d k)=b.2.length+c.2.length-k:=by
  unfold BF;simp only [Int.toNat_natCast,r];show b.2.length+c.2.length-((k:Int)).toNat=_;rw [Int.toNat_natCast]
 rw [o] at B;have e:=QS t y d x (k:=1);rw [show min 1 (b.2.length+c.2.length-k)=1 by omega] at e;show (bd (BE (DY b.2 c.2 d k,((1:Nat):Int))) λE=>_)=_;rw [e,AB];simp only;rw [Bj (by simp only [AA];omega),AE,Kq,if_pos (by simp only [AA];exact hi),AL g];unfold NZ KK;simp only [Int.toNat_natCast,w,l,Option.getD_some];have e1:(DY b.2 c.2 d k).2.1.2.2=d:=QU _ _ _ _;have e2:(DY b.2 c.2 d k).2.2.2.toNat=k:=by show ((k:Int)).toNat=k;rw [Int.toNat_natCast]
 rw [e1,e2];rfl
theorem aA {L:AJ} (v:VLev L) {n:Nat} (h:(AW L.2 n).length=2):Bx (L,(n:Int))=some (Fm L n,0):=by
 have d:n<L.2.length:=by
  by_cases f:n<L.2.length
  ·exact f
  ·unfold AW at h;rw [List.getElem?_eq_none (by omega)] at h;cases h
 have i:=v.len;obtain ⟨e,g⟩:=v.small;unfold Bx;simp only [AX,AR];rw [TE _ e g,G4 v,AB,A2,if_pos rfl,A1,if_neg (by omega),EK,if_neg (by omega),A2,if_pos rfl,EK,if_neg (by omega),AE,AL (E0 d),A1,if_neg (by omega),AP,if_pos rfl,QT v d,AB]
 obtain ⟨b,c,a⟩ : ∃ b c,AW L.2 n=[b,c]:=by
  match hq:AW L.2 n with
  | [b,c]=>exact ⟨b,c,rfl⟩
  | []=>rw [hq] at h;cases h
  | [_]=>rw [hq] at h;cases h
  | _::_::_::_=>rw [hq] at h;simp at h
 rw [Rv _ (by rw [E0 d,a]) (VR.vl' v (n:=n) (by rw [a];simp)) (VR.vl' v (n:=n) (by rw [a];simp)),AB];unfold Fm;rw [Int.toNat_natCast,a]
theorem TS (l:List AD) (c:l.length<=9223372036854775807):D9 (l,l)=some true:=by
 unfold D9;simp only [AX,AR];refine BH (IR (r:=(1,(((l.length:Int),false),()))) (λk=>((k:Int),false)) l.length rfl (by omega) (λk b => ?_) (by simp only;rw [re];rfl)) ?_
 ·have a:l[k]? = some l[k]:=List.getElem?_eq_getElem b;simp only;rw [rl b,AU,AU,AE,AL a,AE,AL a,QN,if_pos rfl,Af (by omega)]
 ·rw [Cc,if_neg (show ¬ (1=0) by omega)];unfold A8;simp
theorem VO (r:BI) (a:r.2.length<=9223372036854775807):Eh (r,r)=some true:=by
 unfold Eh;rw [A2,if_pos rfl,TS _ a];rfl
theorem TT (l:List BI) (c:l.length<=1048576) (h : ∀ r∈l,r.2.length<=9223372036854775807):EA (l,l)=some true:=by
 unfold EA;simp only [AX,AR];rw [AP,if_pos rfl];refine BH (IR (r:=(1,(((l.length:Int),false),()))) (λk=>((k:Int),false)) l.length rfl (by omega) (λk a => ?_) (by simp only;rw [re];rfl)) rfl;have b:l[k]? = some l[k]:=List.getElem?_eq_getElem a;simp only;rw [rl a,AU,AE,AL b,AE,AL b,VO _ (h _ (List.getElem_mem a)),AB,MQ,Av,Af (by omega)]
theorem VP (L:AJ) (e:L.2.length<=1048576) (d : ∀ rs∈L.2,rs.length<=1048576 /\ ∀ r∈rs,r.2.length<=9223372036854775807):G0 (L,L)=some true:=by
 unfold G0;simp only [AX,AR];rw [AP,if_pos rfl,AP,if_pos rfl];refine BH (IR (r:=(1,(((L.2.length:Int),false),()))) (λk=>((k:Int),false)) L.2.length rfl (by omega) (λk b => ?_) (by simp only;rw [re];rfl)) rfl;have c:L.2[k]? = some L.2[k]:=List.getElem?_eq_getElem b;have a:=d _ (List.getElem_mem b);simp only;rw [rl b,AU,AE,AL c,AE,AL c,TT _ a.1 a.2,AB,MQ,Av,Af (by omega)]
theorem VQ {L:AJ} {n:Nat} {j:Job} (h:JobAt L n j):Ei (j,j)=some true:=by
 obtain ⟨l,m,f,k,_,rfl,g,_,c,i⟩:=h;obtain ⟨s1,s2,b,d,a,e⟩:=OT i c f g;unfold Ei;rw [A2,if_pos rfl,QR _ _ s1 s2 b d a e];simp [AB]
theorem Wv {t:AG} (v:VSt t):EY (t,t)=some true:=by
 have m:=v.sm;have d:=v.jsmall;unfold EY;simp only [AX,AR];rw [VP _ m.lv m.rs,AB,MQ,Av,AP,if_pos rfl,AP,if_pos rfl];refine BH (IR (r:=(1,(((t.2.1.length:Int),false),()))) (λk=>((k:Int),false)) t.2.1.length rfl (by omega) (λk a => ?_) (by simp only;rw [re];rfl)) rfl;have b:t.2.1[k]? = some t.2.1[k]:=List.getElem?_eq_getElem a;obtain ⟨n,c⟩:=v.job _ (List.getElem_mem a);simp only;rw [rl a,AU,AE,AL b,AE,AL b,VQ c,AB,MQ,Av,Af (by omega)]
theorem nz:EY (zS,zS)=some true:=by decide +kernel
end Go.Proofs.YtfilfloanndddaaGreat.Pl
namespace Go.Proofs.YtfilfloanndddaaGreat.Pl
open Go Go.Proofs.YtfilfloanndddaaGreat.Sv
abbrev eI:=(Int×((List (List AD))×((List Int)×((List AN)×((List Int)×(Int×(Bool×((List UInt8)×(Bool×((List AD)×Int))))))))))
def VS (j:Job):eI:=(j.1,(j.2.1.1,(j.2.1.2.1,(j.2.1.2.2.1,(j.2.1.2.2.2.1,(j.2.1.2.2.2.2,(j.2.2.1.1,(j.2.2.1.2.1,(j.2.2.1.2.2,(j.2.2.2.1,j.2.2.2.2))))))))))
theorem aB (p:List Job) (x:Job) (d:Int):B8 (p++[x]) d=(B8 p d).or (if x.1=d then some x else none):=by
 unfold B8;rw [List.find?_append]
 congr 1
 rw [List.find?_cons];unfold TN;rw [Db];by_cases h:x.1=d
 ·rw [if_pos h,show decide (d=x.1)=true by simp [h]]
 ·rw [if_neg h,show decide (d=x.1)=false by simp;exact λe=>h e.symm];rfl
theorem eJ {s:AG} (w:(s.2.1.map (·.1)).Nodup) (E:s.2.1.length<=1000) (L:AJ) (a:Int) {D:List Int} {i:Nat} {d:Int} (hi:D[i]? = some d):(loop (λ(c:Int×eI)=>br (Ak c.1 (s.2.1.length:Int)) (λ_=>AT c.1 λr=>ix s.2.1 r λn=>AT (i:Int) λo=>ix D o λu=>br (A8 n.1 u) (λ_=>AT (i:Int) λq=>ix D q λt=>br (Ay t a) (λ_=>AT c.1 λm=>ix s.2.1 m λb=>some (.nx ((AI .i64 c.1 1,(b.1,(b.2.1.1,(b.2.1.2.1,(b.2.1.2.2.1,(b.2.1.2.2.2.1,(b.2.1.2.2.2.2,(b.2.2.1.1,(b.2.2.1.2.1,(b.2.2.1.2.2,b.2.2.2))))))))))))) λ_=>some (.nx (AI .i64 c.1 1,c.2))) λ_=>some (.nx (AI .i64 c.1 1,c.2))) λ_=>some (.dn (((0:Nat),(c,()))))) ((0:Int),VS (Fm L d)))=some (0,(((s.2.1.length:Int),VS (F1 s L a d)),())):=by
 refine DS (l:=s.2.1) (σ:=Job) (s:=((0:Int),VS (Fm L d))) (λk j=>((k:Int),VS j)) (λls k j => ∃ p,s.2.1=p++ls/\j=(if d=a then none else B8 p d).getD (Fm L d)) (λ_ _ _=>(0,(((s.2.1.length:Int),VS (F1 s L a d)),()))) (Fm L d) rfl (by omega) ⟨[],rfl,by split<;>rfl⟩ (λj h => ?_) (λk x ls j C y z h => ?_)
 ·obtain ⟨p,f,rfl⟩:=h;rw [List.append_nil] at f;simp only;rw [re,Av,<- f];rfl
 ·obtain ⟨p,f,rfl⟩:=h
  have B:x.1 ∉ p.map (·.1):=λA=>by
   rw [f,List.map_append,List.nodup_append] at w;exact w.2.2 _ A x.1 (by simp) rfl
  refine ⟨(if d=a then none else B8 (p++[x]) d).getD (Fm L d),?_,⟨p++[x],by rw [f];simp,rfl⟩,rfl⟩
  simp only;rw [rl z,AU,AE,AL y,AE,AL hi,A2,Af (by omega),aB];by_cases e:x.1=d
  ·rw [if_pos e,AE,AL hi,AP,AE,AL y,if_pos e];by_cases g:d=a
   ·rw [if_pos g,if_pos g,if_pos g]
   ·rw [if_neg g,if_neg g,J8 (by rw [<- e];exact B)];rfl
  ·rw [if_neg e,if_neg e];have:(B8 p d).or none=B8 p d:=by cases B8 p d<;>rfl
   rw [this]
theorem QZ {s:AG} (D:(s.2.1.map (·.1)).Nodup) (E:s.2.1.length<=1000) {L:AJ} (v:VLev L) (next b:Int):loop (λ(g:(Int×(Int×((List (List BI))×((List Job)×Int)))))=>br (Ak g.1 ((Aa 0 L.2).length:Int)) (λ_=>AT g.1 λt=>ix (Aa 0 L.2) t λq=>bd (Bx (((g.2.1,g.2.2.1),q))) λc=>bd (loop (λ(f:Int×eI)=>br (Ak f.1 (s.2.1.length:Int)) (λ_=>AT f.1 λu=>ix s.2.1 u λo=>AT g.1 λp=>ix (Aa 0 L.2) p λx=>br (A8 o.1 x) (λ_=>AT g.1 λr=>ix (Aa 0 L.2) r λw=>br (Ay w b) (λ_=>AT f.1 λm=>ix s.2.1 m λe=>some (.nx ((AI .i64 f.1 1,(e.1,(e.2.1.1,(e.2.1.2.1,(e.2.1.2.2.1,(e.2.1.2.2.2.1,(e.2.1.2.2.2.2,(e.2.2.1.1,(e.2.2.1.2.1,(e.2.2.1.2.2,e.2.2.2))))))))))))) λ_=>some (.nx (AI .i64 f.1 1,f.2))) λ_=>some (.nx (AI .i64 f.1 1,f.2))) λ_=>some (.dn (((0:Nat),(f,()))))) (((0:Int),(c.1.1,(c.1.2.1.1,(c.1.2.1.2.1,(c.1.2.1.2.2.1,(c.1.2.1.2.2.2.1,(c.1.2.1.2.2.2.2,(c.1.2.2.1.1,(c.1.2.2.1.2.1,(c.1.2.2.1.2.2,c.1.2.2.2)))))))))))) λa=>gd (BP (Ag g.2.2.2.1.length [((a.2.1.2.1,((a.2.1.2.2.1,(a.2.1.2.2.2.1,(a.2.1.2.2.2.2.1,(a.2.1.2.2.2.2.2.1,a.2.1.2.2.2.2.2.2.1)))),((a.2.1.2.2.2.2.2.2.2.1,(a.2.1.2.2.2.2.2.2.2.2.1,a.2.1.2.2.2.2.2.2.2.2.2.1)),a.2.1.2.2.2.2.2.2.2.2.2.2))):Job)].length) 1048576) λ_=>some (.nx ((AI .i64 g.1 1,(g.2.1,(g.2.2.1,(Bu g.2.2.2.1 ([(a.2.1.2.1,((a.2.1.2.2.1,(a.2.1.2.2.2.1,(a.2.1.2.2.2.2.1,(a.2.1.2.2.2.2.2.1,a.2.1.2.2.2.2.2.2.1)))),((a.2.1.2.2.2.2.2.2.2.1,(a.2.1.2.2.2.2.2.2.2.2.1,a.2.1.2.2.2.2.2.2.2.2.2.1)),a.2.1.2.2.2.2.2.2.2.2.2.2)))]),g.2.2.2.2))))))) λ_=>some (.dn (((0:Nat),(g,()))))) (((0:Int),(L.1,(L.2,(([]:List Job),next)))))=some (0,((((Aa 0 L.2).length:Int),(L.1,(L.2,((Aa 0 L.2).map (F1 s L b),next)))),())):=by
 have F:=v.len;have G:=EC L.2 0;refine DS (l:=Aa 0 L.2) (σ:=List Job) (λi js=>((i:Int),(L.1,(L.2,(js,next))))) (λls i js=>js++ls.map (F1 s L b)=(Aa 0 L.2).map (F1 s L b)) (λ_ _ _=>(0,((((Aa 0 L.2).length:Int),(L.1,(L.2,((Aa 0 L.2).map (F1 s L b),next)))),()))) [] rfl (by omega) rfl (λjs h => ?_) (λi d ls js z hi A h => ?_)
 ·simp only;rw [re,Av,<- h];simp
 ·refine ⟨js++[F1 s L b d],?_,by rw [<- h];simp,rfl⟩;obtain ⟨n,K,I,j,B⟩:=TQ (List.mem_of_getElem? hi);have y:=aA v (n:=n) (by rw [Is.1 B];rfl);rw [<- j] at y
  have J:js.length<=1000:=by
   have C:=congrArg List.length h;rw [List.length_append,List.length_map,List.length_map] at C;omega
  simp only;rw [rl A,AU,AE,AL hi];have k:Bx ((L.1,L.2),d)=some (Fm L d,0):=y;rw [k,AB];refine BH (eJ D E L b hi) ?_;rw [Bj (by simp only [Ag,List.length_cons,List.length_nil];omega),Af (by omega)];rfl
end Go.Proofs.YtfilfloanndddaaGreat.Pl
namespace Go.Proofs.YtfilfloanndddaaGreat.Pl
open Go Go.Proofs.YtfilfloanndddaaGreat.Sv
theorem Na {α β σ S:Type} {l:List α} (c:Nat) (i:c<=1000) (mk:Nat->σ->S) (I:Nat->σ->Prop) (Q:β->Prop) {f:S->Option (LR S β)} {s:S} (a:σ) (o:s=mk 0 a) (hi:I 0 a)
  (j : ∀ k a,(k=l.length\/k=c)->k<=l.length->I k a -> ∃ r,f (mk k a)=some (.dn r)/\Q r)
  (hc : ∀ k x a,l[k]? = some x->k<c->I k a->(∃ b,f (mk k a)=some (.nx (mk (k+1) b))/\I (k+1) b) \/ ∃ r,f (mk k a)=some (.dn r)/\Q r) : ∃ r,loop f s=some r/\Q r:=by
 refine GH (l:=l.take c) mk (λ_ k a=>I k a/\k<=(l.take c).length) Q a o (by simp;omega) ⟨hi,by omega⟩ (λa h=>j _ a (by simp;omega) (by simp;omega) h.1) (λk x m a q e p h => ?_);have d:k<c:=by simp at p;omega
 have g:l[k]? = some x:=by rw [List.getElem?_take] at e;rw [if_pos d] at e;exact e
 rcases hc k x a g d h.1 with ⟨b,h1,n⟩ | h1
 ·exact .inl ⟨b,h1,n,by omega⟩
 ·exact .inr h1
theorem Yp {k c:Nat} (h:k<c):Ak (k:Int) (c:Int)=true:=by unfold Ak;simp;omega
theorem lI {α β:Type} {l:List α} {k c:Nat} (h:k=l.length\/k=c) (b:k<=l.length) (A B C:Option β) (e:B=C):br (Ak (k:Int) (l.length:Int)) (λ_=>br (Ak (k:Int) (c:Int)) (λ_=>A) λ_=>B) (λ_=>C)=C:=by
 rw [A1];by_cases a:(k:Int)<(l.length:Int)
 ·rw [if_pos a,A1,if_neg (by omega),e]
 ·rw [if_neg a]
end Go.Proofs.YtfilfloanndddaaGreat.Pl
namespace Go.Proofs.YtfilfloanndddaaGreat.Pl
open Go Go.Proofs.YtfilfloanndddaaGreat.Sv
end Go.Proofs.YtfilfloanndddaaGreat.Pl
namespace Go.Proofs.YtfilfloanndddaaGreat.Pl
open Go Go.Proofs.YtfilfloanndddaaGreat.Sv
theorem eK (L:AJ) (n:Nat):EX (L,(n:Int))=some (AW L.2 n):=by
 unfold EX;simp only [AX,AR];rw [EK];by_cases h:n<L.2.length
 ·rw [if_neg (by omega),AE,AL (E0 h)]
 ·rw [if_pos (by omega)];unfold AW;rw [List.getElem?_eq_none (by omega)];rfl
theorem Qa {s:AG} (v:VSt s) (hf:d9 s.1) {n:Nat} {j:Job} (ha:JobAt s.1 n j) (h0 : ¬ 0<BF s.1 j) (hc:Et s.1 j=true) (h5:CI j≠[]->s.2.2<=1000000) {to:Int} (hto:to=(Jd s j:Int)) :
  (bd (Cl ((s.1,((n:Int),[])))) λp=>br (CD (Ab (AA j.2.2.2.1)) 0) (λ_=>bd (EX (p,to)) λw=>gd (BP (AA w) 1048576) λ_=>gd (BP (Ag (AA w) (AA ([(s.2.2,j.2.2.2.1)]))) 1048576) λ_=>bd (Cl ((p,(to,Bu w ([(s.2.2,j.2.2.2.1)]))))) λz=>bd (Bq z) λt=>bd (loop (λ(c:(Int×(Int×((List (List BI))×((List (Int×(AM×((Bool×AN)×((List AD)×Int)))))×Int)))))=>br (Ak c.1 (Ab (AA t))) (λ_=>AT c.1 λI=>ix t I λK=>bd (Bx (((c.2.1,c.2.2.1),K))) λk=>bd (loop (λ(l:(Int×(Int×((List (List AD))×((List Int)×((List AN)×((List Int)×(Int×(Bool×((List UInt8)×(Bool×((List AD)×Int))))))))))))=>br (Ak l.1 (Ab (AA s.2.1))) (λ_=>AT l.1 λk49=>ix s.2.1 k49 λx50=>AT c.1 λB=>ix t B λX=>br (A8 x50.1 X) (λ_=>AT c.1 λJ=>ix t J λD=>br (Ay D (n:Int)) (λ_=>AT l.1 λW=>ix s.2.1 W λe=>some (.nx ((AI .i64 l.1 1,(e.1,(e.2.1.1,(e.2.1.2.1,(e.2.1.2.2.1,(e.2.1.2.2.2.1,(e.2.1.2.2.2.2,(e.2.2.1.1,(e.2.2.1.2.1,(e.2.2.1.2.2,e.2.2.2))))))))))))) λ_=>some (.nx (AI .i64 l.1 1,l.2))) λ_=>some (.nx (AI .i64 l.1 1,l.2))) λ_=>some (.dn ((0,(l,()))))) ((0,(k.1.1,(k.1.2.1.1,(k.1.2.1.2.1,(k.1.2.1.2.2.1,(k.1.2.1.2.2.2.1,(k.1.2.1.2.2.2.2,(k.1.2.2.1.1,(k.1.2.2.1.2.1,(k.1.2.2.1.2.2,k.1.2.2.2)))))))))))) λb=>gd (BP (Ag (AA c.2.2.2.1) (AA ([(b.2.1.2.1,((b.2.1.2.2.1,(b.2.1.2.2.2.1,(b.2.1.2.2.2.2.1,(b.2.1.2.2.2.2.2.1,b.2.1.2.2.2.2.2.2.1)))),((b.2.1.2.2.2.2.2.2.2.1,(b.2.1.2.2.2.2.2.2.2.2.1,b.2.1.2.2.2.2.2.2.2.2.2.1)),b.2.1.2.2.2.2.2.2.2.2.2.2)))]))) 1048576) λ_=>some (.nx ((AI .i64 c.1 1,(c.2.1,(c.2.2.1,(Bu c.2.2.2.1 ([(b.2.1.2.1,((b.2.1.2.2.1,(b.2.1.2.2.2.1,(b.2.1.2.2.2.2.1,(b.2.1.2.2.2.2.2.1,b.2.1.2.2.2.2.2.2.1)))),((b.2.1.2.2.2.2.2.2.2.1,(b.2.1.2.2.2.2.2.2.2.2.1,b.2.1.2.2.2.2.2.2.2.2.2.1)),b.2.1.2.2.2.2.2.2.2.2.2.2)))]),c.2.2.2.2))))))) λ_=>some (.dn ((0,(c,()))))) ((0,(z.1,(z.2,([],AI .i64 s.2.2 1)))))) λy=>some ((((y.2.1.2.1,y.2.1.2.2.1),y.2.1.2.2.2),0))) λ_=>bd (Bq p) λq=>bd (loop (λ(d:(Int×(Int×((List (List BI))×((List (Int×(AM×((Bool×AN)×((List AD)×Int)))))×Int)))))=>br (Ak d.1 (Ab (AA q))) (λ_=>AT d.1 λP=>ix q P λC=>bd (Bx (((d.2.1,d.2.2.1),C))) λg=>bd (loop (λ(m:(Int×(Int×((List (List AD))×((List Int)×((List AN)×((List Int)×(Int×(Bool×((List UInt8)×(Bool×((List AD)×Int))))))))))))=>br (Ak m.1 (Ab (AA s.2.1))) (λ_=>AT m.1 λY=>ix s.2.1 Y λE=>AT d.1 λk67=>ix q k67 λU=>br (A8 E.1 U) (λ_=>AT d.1 λS=>ix q S λx70=>br (Ay x70 (n:Int)) (λ_=>AT m.1 λG=>ix s.2.1 G λf=>some (.nx ((AI .i64 m.1 1,(f.1,(f.2.1.1,(f.2.1.2.1,(f.2.1.2.2.1,(f.2.1.2.2.2.1,(f.2.1.2.2.2.2,(f.2.2.1.1,(f.2.2.1.2.1,(f.2.2.1.2.2,f.2.2.2))))))))))))) λ_=>some (.nx (AI .i64 m.1 1,m.2))) λ_=>some (.nx (AI .i64 m.1 1,m.2))) λ_=>some (.dn ((0,(m,()))))) ((0,(g.1.1,(g.1.2.1.1,(g.1.2.1.2.1,(g.1.2.1.2.2.1,(g.1.2.1.2.2.2.1,(g.1.2.1.2.2.2.2,(g.1.2.2.1.1,(g.1.2.2.1.2.1,(g.1.2.2.1.2.2,g.1.2.2.2)))))))))))) λa=>gd (BP (Ag (AA d.2.2.2.1) (AA ([(a.2.1.2.1,((a.2.1.2.2.1,(a.2.1.2.2.2.1,(a.2.1.2.2.2.2.1,(a.2.1.2.2.2.2.2.1,a.2.1.2.2.2.2.2.2.1)))),((a.2.1.2.2.2.2.2.2.2.1,(a.2.1.2.2.2.2.2.2.2.2.1,a.2.1.2.2.2.2.2.2.2.2.2.1)),a.2.1.2.2.2.2.2.2.2.2.2.2)))]))) 1048576) λ_=>some (.nx ((AI .i64 d.1 1,(d.2.1,(d.2.2.1,(Bu d.2.2.2.1 ([(a.2.1.2.1,((a.2.1.2.2.1,(a.2.1.2.2.2.1,(a.2.1.2.2.2.2.1,(a.2.1.2.2.2.2.2.1,a.2.1.2.2.2.2.2.2.1)))),((a.2.1.2.2.2.2.2.2.2.1,(a.2.1.2.2.2.2.2.2.2.2.1,a.2.1.2.2.2.2.2.2.2.2.2.1)),a.2.1.2.2.2.2.2.2.2.2.2.2)))]),d.2.2.2.2))))))) λ_=>some (.dn ((0,(d,()))))) ((0,(p.1,(p.2,([],s.2.2)))))) λA=>some ((((A.2.1.2.1,A.2.1.2.2.1),A.2.1.2.2.2),0)):Option (AG×Int))=some (K0 s (D1 s j) (I3 s j) j.1,0):=by
 have F:=Yo v hf ha h0 hc h5;obtain ⟨o1,o2,O,o4,o5⟩:=ha.out v.lev (hf n);have hj:j.1.toNat=n:=by rw [O];simp
 have hn2:=v.n2;have hn1:=v.n1;have hjs:=v.jsmall;have o:=F.lev;have hl:=v.lev.len;have hl1:=F.l1.len;have small : ∀ {M:AJ},VLev M -> ∀ i,(AW M.2 i).length<=1048576:=λvM i=>by have:=(vM.own i).1;omega
 rw [VN (by omega) (by omega) (by simp) (small v.lev),AB];simp only [AX,AR];rw [Am];by_cases u:CI j=[]
 ·rw [if_neg (show ¬ ((j.2.2.2.1.length:Int)>0) by rw [show j.2.2.2.1=[] from u];simp)];have N:D1 s j=CN s.1 n []:=by unfold D1;rw [if_pos u,hj]
  have Z:I3 s j=s.2.2:=by unfold I3;rw [if_pos u]
  rw [<- N,PM (by have:=o.len;omega),AB];refine BH (QZ v.nodup (by omega) o s.2.2 (n:Int)) ?_;rw [Z,O];rfl
 ·rw [if_pos (show ((j.2.2.2.1.length:Int)>0) by have:=List.length_pos_iff.2 u;have h:(CI j).length=j.2.2.2.1.length:=rfl;omega),hto,eK,AB];have hro:=F.room u;have ht:=F.to12 u
  have N:D1 s j=CN (CN s.1 n []) (Jd s j) (AW (CN s.1 n []).2 (Jd s j)++[(s.2.2,CI j)]):=by
   unfold D1;rw [if_neg u,hj]
  have Z:I3 s j=s.2.2+1:=by unfold I3;rw [if_neg u]
  rw [Bj (by omega),Bj (by simp only [Ag,List.length_cons,List.length_nil];omega)];have hW:=VN (L:=CN s.1 n []) (n:=Jd s j) (r:=AW (CN s.1 n []).2 (Jd s j)++[(s.2.2,CI j)]) (by omega) (by omega) (by simp;omega) (small F.l1);rw [<- N] at hW;refine BH (x:=D1 s j) hW ?_;rw [PM (by have:=o.len;omega),AB,DV (by omega)];refine BH (QZ v.nodup (by omega) o (s.2.2+1) (n:Int)) ?_;rw [Z,O];rfl
theorem VT {s:AG} (m:Sm s) (k:d9 s.1) (a:Int):Df (s,a)=some (G6 zS Lr s a):=by
 unfold Df;rw [Wp m,AB,Ky m,TK m];unfold G6;by_cases b:(AO s).2=0;rotate_left
 ·rw [if_pos b,AP,if_neg b,if_pos b];rfl
 rw [if_neg (show ¬ (AO s).2≠0 by simp [b]),if_neg (show ¬ (AO s).2≠0 by simp [b]),if_neg (show ¬ (AO s).2≠0 by simp [b])];have v:=Aj.1 b;unfold Ql JW;rw [if_neg (show ¬ (AO s).2≠0 by simp [b])];cases p:NV a 0 (Aa 0 s.1.2) with
 | none=>rfl
 | some i =>
  obtain ⟨j,n,l,q,f,o,r⟩:=v.at p;have:=v.lev.len;subst q;simp only [l];unfold Lr NW;by_cases d:0<BF s.1 j
  ·rw [if_pos d,if_pos (.inl d)];rfl
  rw [if_neg d]
  have g:(if Ea s.1 j=true then (j.1,(0:Int)) else (j.1+1,0))=((Jd s j:Int),0):=by
   unfold Jd;split<;>rw [f]<;>simp
  rw [g,AP,if_pos rfl,AB,AE,AL l,AB,BX,Es];by_cases hc:Et s.1 j=true;rotate_left
  ·rw [if_neg hc,if_pos (.inr (by simpa using hc))];rfl
  rw [if_pos hc,if_neg (show ¬ (0<BF s.1 j\/Et s.1 j=false) by rw [hc];simp;omega),Am];by_cases e:s.2.2>1000000
  ·rw [if_pos e,Am];by_cases c:CI j=[]
   ·rw [if_neg (show ¬ (Ab (AA j.2.2.2.1)>0) by rw [show j.2.2.2.1=[] from c];simp [AX,AR]),if_neg (by simp [c])];dsimp only;exact Qa v k o d hc (λh=>absurd c h) rfl
   ·rw [if_pos (show Ab (AA j.2.2.2.1)>0 by have:=List.length_pos_iff.2 c;have h:(CI j).length=j.2.2.2.1.length:=rfl;rw [AX,AR];omega),if_pos ⟨e,c⟩];rfl
  ·rw [if_neg e,if_neg (by simp [e])];dsimp only;exact Qa v k o d hc (λh=>by omega) rfl
theorem aC {s:AG} (m:Sm s) (f:d9 s.1) (a:Int):EZ (s,a)=some (CY s a):=by
 unfold EZ;rw [TK m,AB,LY m,VT m f];unfold G6 CY;by_cases b:(AO s).2=0;rotate_left
 ·rw [if_pos b,if_pos b,A2,if_neg b];rw [AP,if_neg b,if_pos b];rfl
 rw [if_neg (show ¬ (AO s).2≠0 by simp [b]),if_neg (show ¬ (AO s).2≠0 by simp [b]),if_neg (show ¬ (AO s).2≠0 by simp [b]),if_neg (show ¬ (AO s).2≠0 by simp [b])];have v:=Aj.1 b;unfold Ql;cases d:NV a 0 (Aa 0 s.1.2) with
 | none =>
  simp only;rw [A2,if_neg (by omega),AP,if_neg (by omega)];rfl
 | some i =>
  obtain ⟨j,n,e,k,g,l,h⟩:=v.at d;simp only [e];unfold Ir;rw [A2,if_pos rfl,BX,Es];by_cases hc:Et s.1 j=true;rotate_left
  ·rw [if_neg hc,if_pos (by simpa using hc)];rfl
  rw [if_pos hc,if_neg (by simp [hc]),AP,if_pos rfl,AB,Am];by_cases c:0<BF s.1 j
  ·rw [if_pos (show ((BF s.1 j:Int))>0 by omega),if_pos c,Z9 m v d e c];rfl
  ·rw [if_neg (show ¬ ((BF s.1 j:Int))>0 by omega),if_neg c];rfl
end Go.Proofs.YtfilfloanndddaaGreat.Pl
namespace Go.Proofs.YtfilfloanndddaaGreat.Pl
open Go Go.Proofs.YtfilfloanndddaaGreat.Sv
def Br (l:List AD) (k:Hn):Option AD:=l.find? λx=>decide (x.1=k)
theorem B4 (x:AD) (l:List AD) (k:Hn):Br (x::l) k=if x.1=k then some x else Br l k:=by
 unfold Br;rw [List.find?_cons];by_cases h:x.1=k<;>simp [h]
theorem Nb (l m:List AD) (k:Hn):Br (l++m) k=(Br l k).or (Br m k):=by
 unfold Br;rw [List.find?_append]
theorem JY (x:AD) (k:Hn):Br [x] k=if x.1=k then some x else none:=by rw [B4];rfl
theorem VU {l:List AD} {k:Hn} {x:AD} (h:Br l k=some x):x.1=k/\x∈l:=by
 unfold Br at h;exact ⟨by simpa using List.find?_some h,List.mem_of_find?_eq_some h⟩
theorem JZ {l:List AD} {k:Hn} (h : ∀ x∈l,x.1≠k):Br l k=none:=by
 unfold Br;rw [List.find?_eq_none];intro x a;simpa using h x a
theorem MY : ∀ {l:List AD} {q:Hn},Asc (some q) l -> ∀ x∈l,Cy q x.1=true
 | x::l,q,⟨a,b⟩,y,hy=>by
  rcases List.mem_cons.1 hy with e | hy
  ·rw [e];exact a q rfl
  ·exact Fg (a q rfl) (MY b y hy)
theorem Yq : ∀ {l m:List AD} {p q:Option Hn},Asc p l->Asc q m->(∀ k,Br l k=Br m k)->l=m
 | [],[],_,_,_,_,_=>rfl
 | [],y::m,_,_,_,_,h=>by
  have:=h y.1;rw [B4,if_pos rfl] at this;cases this
 | x::l,[],_,_,_,_,h=>by
  have:=h x.1;rw [B4,if_pos rfl] at this;cases this
 | x::l,y::m,p,q,⟨t,d⟩,⟨s,g⟩,h=>by
  have e1:=h x.1;have e2:=h y.1;rw [B4,if_pos rfl,B4] at e1;rw [B4,B4,if_pos rfl] at e2
  have f:x.1=y.1:=by
   by_cases b:y.1=x.1
   ·exact b.symm
   ·rw [if_neg b] at e1;rw [if_neg (λe=>b e.symm)] at e2;have r:=MY g x (VU e1.symm).2;have j:=MY d y (VU e2).2;rw [C3 r] at j;cases j
  rw [if_pos f.symm] at e1;have i:x=y:=Option.some.inj e1;subst i;refine congrArg (x::·) (Yq d g λk => ?_);have b:=h k;rw [B4,B4] at b;by_cases a:x.1=k
  ·have o:Br l k=none:=JZ λz c=>by
    have:=MY d z c;rw [a] at this;exact λe=>Kr this e.symm
   have n:Br m k=none:=JZ λz c=>by
    have:=MY g z c;rw [a] at this;exact λe=>Kr this e.symm
   rw [o,n]
  ·rw [if_neg a,if_neg a] at b;exact b
theorem MZ (P:AD->Bool) : ∀ {l:List AD} {p:Option Hn},Asc p l->Asc p (l.filter P)
 | [],_,_=>trivial
 | x::l,p,⟨b,d⟩=>by
  have c:=MZ P d;rw [List.filter_cons];cases P x with
  | true=>exact ⟨b,c⟩
  | false =>
   refine c.weak λe a=>⟨x.1,rfl,?_⟩;exact C3 (b e a)
theorem K1 (P:AD->Bool) (k:Hn) : ∀ {l:List AD} {p:Option Hn},Asc p l->Br (l.filter P) k=(Br l k).filter P
 | [],_,_=>rfl
 | x::l,p,⟨h,c⟩=>by
  have d:=K1 P k c;rw [List.filter_cons,B4];by_cases a:x.1=k
  ·rw [if_pos a]
   have g:Br (l.filter P) k=none:=JZ λz f=>by
    have:=MY c z (List.mem_filter.1 f).1;rw [a] at this;exact λe=>Kr this e.symm
   cases b:P x with
   | true=>rw [if_pos rfl,B4,if_pos a];simp [Option.filter,b]
   | false=>rw [if_neg (by simp),g];simp [Option.filter,b]
  ·rw [if_neg a];cases b:P x with
   | true=>rw [if_pos rfl,B4,if_neg a];exact d
   | false=>simpa using d
def O6:List AD->AD->List AD
 | [],x=>[x]
 | y::l,x=>if Cy y.1 x.1=true then y::O6 l x else if y.1=x.1 then y::l else x::y::l
theorem VV (x:AD) : ∀ {l:List AD} {p:Option Hn},Asc p l->(∀ q,p=some q->Cy q x.1=true)->Asc p (O6 l x)
 | [],p,_,hp=>⟨hp,trivial⟩
 | y::l,p,⟨d,a⟩,hp=>by
  unfold O6;by_cases h:Cy y.1 x.1=true
  ·rw [if_pos h];exact ⟨d,VV x a λq c=>by cases c;exact h⟩
  ·rw [if_neg h];by_cases b:y.1=x.1
   ·rw [if_pos b];exact ⟨d,a⟩
   ·rw [if_neg b];exact ⟨hp,λq c=>by cases c;exact MO (by simpa using h) b,a⟩
theorem VW (x:AD) (k:Hn) : ∀ {l:List AD} {p:Option Hn},Asc p l->Br (O6 l x) k=(Br l k).or (if x.1=k then some x else none)
 | [],_,_=>by unfold O6;rw [JY];rfl
 | y::l,p,⟨f,d⟩=>by
  unfold O6;by_cases h:Cy y.1 x.1=true
  ·rw [if_pos h,B4,B4,VW x k d];split<;>rfl
  ·rw [if_neg h];by_cases b:y.1=x.1
   ·rw [if_pos b,B4,<- b];by_cases a:y.1=k
    ·rw [if_pos a];rfl
    ·rw [if_neg a,if_neg a];cases Br l k<;>rfl
   ·rw [if_neg b,B4];have c:Cy x.1 y.1=true:=MO (by simpa using h) b;by_cases a:x.1=k
    ·rw [if_pos a]
     have:Br (y::l) k=none:=JZ λz hz=>by
      rw [<- a];rcases List.mem_cons.1 hz with e | hz
      ·rw [e];exact b
      ·exact λe=>Kr (Fg c (MY d z hz)) e.symm
     rw [this,if_pos a];rfl
    ·rw [if_neg a,if_neg a];cases Br (y::l) k<;>rfl
theorem Yr (k:Hn) : ∀ (r l:List AD),Asc none l->Asc none (r.foldl O6 l)/\Br (r.foldl O6 l) k=(Br l k).or (Br r k)
 | [],l,h=>⟨h,by show Br l k=_;cases Br l k<;>rfl⟩
 | x::r,l,h=>by
  obtain ⟨b,a⟩:=Yr k r (O6 l x) (VV x h λ_ h=>by cases h);refine ⟨b,?_⟩;rw [List.foldl_cons,a,VW x k h,B4,Option.or_assoc]
  congr 1
  split<;>rfl
def aD (rs:List BI) (l:List AD):List AD:=rs.foldl (λout r=>r.2.foldl O6 out) l
def DT:List BI->Hn->Option AD
 | [],_=>none
 | r::rs,k=>(Br r.2 k).or (DT rs k)
theorem TU (k:Hn) : ∀ (rs:List BI) (l:List AD),Asc none l->Asc none (aD rs l)/\Br (aD rs l) k=(Br l k).or (DT rs k)
 | [],l,h=>⟨h,by show Br l k=_;cases Br l k<;>rfl⟩
 | r::rs,l,h=>by
  obtain ⟨d,b⟩:=Yr k r.2 l h;obtain ⟨c,a⟩:=TU k rs (r.2.foldl O6 l) d;refine ⟨c,?_⟩;show Br (aD rs (r.2.foldl O6 l)) k=_;rw [a,b,Option.or_assoc];rfl
def He (x:AD):Bool := !x.2.2.1
def KG (L:AJ):List AD:=(aD (Cn L.2) []).filter He
theorem eL {L M:AJ} (h : ∀ k,(DT (Cn L.2) k).filter He=(DT (Cn M.2) k).filter He):KG L=KG M:=by
 have b:=λk=>TU k (Cn L.2) [] trivial;have a:=λk=>TU k (Cn M.2) [] trivial;refine Yq (MZ He (b []).1) (MZ He (a []).1) λk => ?_;show Br ((aD (Cn L.2) []).filter He) k=Br ((aD (Cn M.2) []).filter He) k;rw [K1 He k (b []).1,K1 He k (a []).1,(b k).2,(a k).2];exact h k
theorem VX : ∀ (a b:List BI) (k:Hn),DT (a++b) k=(DT a k).or (DT b k)
 | [],b,k=>rfl
 | r::a,b,k=>by
  show (Br r.2 k).or (DT (a++b) k)=((Br r.2 k).or (DT a k)).or (DT b k);rw [VX a b k,Option.or_assoc]
theorem Ys : ∀ {l:List AD} {s:B0} {k:Hn},ON s l->s.1=true->Cy k s.2.1=true->Br l k=none
 | [],_,_,_,_,_=>rfl
 | x::l,s,k,⟨_,b,c⟩,d,hk=>by
  have a:Cy k x.1=true:=Uw hk (b d);rw [B4,if_neg (λe=>Kr a e.symm)];exact Ys c rfl a
theorem VY (k:Hn) : ∀ {l:List AD} {s:B0},ON s l->Br (E1 s l) k=if s.1=true/\s.2.1=k then none else (Br l k).filter λx => !(s.2.2&&x.2.2.1)
 | [],s,_=>by unfold E1;split<;>rfl
 | x::l,s,⟨_,h,f⟩=>by
  have d:=VY k f;simp only [true_and] at d;unfold E1;rw [Nb,d,B4];by_cases a:x.1=k
  ·rw [if_pos a,if_pos a];by_cases hs:s.1=true/\s.2.1=k
   ·rw [if_pos hs];have:keep s x=false:=by unfold keep;rw [hs.1,hs.2,a];simp
    rw [this];rfl
   ·rw [if_neg hs]
    have:keep s x = !(s.2.2&&x.2.2.1):=by
     unfold keep
     have:(s.1&&decide (x.1=s.2.1))=false:=by
      cases b:s.1 with
      | false=>rfl
      | true =>
       simp only [Bool.true_and,decide_eq_false_iff_not];intro e;exact hs ⟨b,by rw [<- e];exact a⟩
     rw [this];rfl
    rw [this];cases c:(!(s.2.2&&x.2.2.1)) with
    | true=>rw [if_pos rfl,JY,if_pos a];simp [Option.filter,c]
    | false=>rw [if_neg (by simp)];simp [Option.filter,c,Br]
  ·rw [if_neg a,if_neg a]
   have b:Br (if keep s x=true then [x] else []) k=none:=by
    split
    ·rw [JY,if_neg a]
    ·rfl
   rw [b,Option.none_or];by_cases hs:s.1=true/\s.2.1=k
   ·rw [if_pos hs]
    have g:Cy k x.1=true:=by
     rw [<- hs.2];refine MO (h hs.1) λe=>a ?_;rw [e];exact hs.2
    rw [Ys f rfl g];rfl
   ·rw [if_neg hs]
theorem Qb {a b:List AD} (va:VL a) (l:VL b) (k:Hn) : ∀ {n:Nat},n<=a.length+b.length->Br (A3 a b n) k=(Br (a.take (Ap a b n).1) k).or (Br (b.take (Ap a b n).2) k)
 | 0,_=>rfl
 | n+1,h=>by
  have F:=Qb va l k (n:=n) (by omega);obtain ⟨q,hs⟩:=FM va l (n:=n) (by omega);obtain ⟨x,c,_⟩:=EB va l (n:=n) (by omega);rw [GG va l c,Nb,F,JY];unfold Ox at c;rw [show Ap a b (n+1)=if H8 a b (Ap a b n).1 (Ap a b n).2=true then ((Ap a b n).1+1,(Ap a b n).2) else ((Ap a b n).1,(Ap a b n).2+1) from rfl]
  revert c q;generalize (Ap a b n).1=i;generalize (Ap a b n).2=j;intro q c;cases g:H8 a b i j with
  | true =>
   rw [if_pos g] at c;rw [if_pos rfl];simp only;rw [List.take_add_one,c,Option.toList_some,Nb,JY,Option.or_assoc,Option.or_assoc]
   congr 1
   by_cases t:x.1=k
   ·rw [if_pos t]
    have:Br (b.take j) k=none:=JZ λy G=>by
     obtain ⟨m,o⟩:=List.getElem?_of_mem G;rw [List.getElem?_take] at o;split at o
     ·rename_i B;have D:=q.jb;have f:b[j-1]? = some b[j-1]:=List.getElem?_eq_getElem (by omega);have E:=q.pb (j-1) (by omega) _ x f c
      have C:Cy b[j-1].1 y.1=false:=by
       by_cases r:m=j-1
       ·subst r;rw [f] at o;cases o;exact HL _
       ·have w:=l.asc
        have : ∀ d,m+d+1<=j-1 -> ∀ z,b[m+d+1]? = some z->Cy y.1 z.1=true:=by
         intro d
         induction d with
         | zero=>intro _ z s;exact l.lt o s
         | succ d u =>
          intro I z s;have p:b[m+d+1]? = some b[m+d+1]:=List.getElem?_eq_getElem (by omega);exact Fg (u (by omega) _ p) (l.lt p s)
        exact C3 (this (j-1-m-1) (by omega) _ (by rw [show m+(j-1-m-1)+1=j-1 by omega];exact f))
      intro e;have A:Cy y.1 x.1=true:=QE C E;rw [e,t,HL] at A;cases A
     ·cases o
    rw [this];rfl
   ·rw [if_neg t];cases Br (b.take j) k<;>rfl
  | false =>
   rw [if_neg (show ¬ H8 a b i j=true by rw [g];decide)] at c;rw [if_neg (show ¬ (false=true) by decide)];simp only;rw [List.take_add_one,c,Option.toList_some,Nb,JY,Option.or_assoc]
theorem lJ {a b:List AD} (va:VL a) (e:VL b) (c:Bool) (k:Hn):Br (DY a b c (a.length+b.length)).2.2.1 k=((Br a k).or (Br b k)).filter λx => !(c&&x.2.2.1):=by
 have f:=HP va e c (Nat.le_refl (a.length+b.length));obtain ⟨d,hs⟩:=FM va e (Nat.le_refl (a.length+b.length));show Br (E1 (s0 c) (A3 a b (a.length+b.length))) k=_;rw [VY k f,if_neg (by simp),Qb va e k (Nat.le_refl _)];rw [List.take_of_length_le (by have:=d.ia;have:=d.jb;omega),List.take_of_length_le (by have:=d.ia;have:=d.jb;omega)]
end Go.Proofs.YtfilfloanndddaaGreat.Pl
namespace Go.Proofs.YtfilfloanndddaaGreat.Pl
open Go Go.Proofs.YtfilfloanndddaaGreat.Sv
def Nc (f:Nat->Option AD):Nat->Nat->Option AD
 | _,0=>none
 | i,m+1=>(f i).or (Nc f (i+1) m)
theorem Yt (f:Nat->Option AD) : ∀ (m i:Nat),Nc f (i+1) m=Nc (λj=>f (j+1)) i m
 | 0,_=>rfl
 | m+1,i=>by
  show (f (i+1)).or (Nc f (i+1+1) m)=(f (i+1)).or (Nc (λj=>f (j+1)) (i+1) m);rw [Yt f m (i+1)]
theorem Ja {f g:Nat->Option AD} : ∀ (m i:Nat),(∀ j,i<=j->j<i+m->f j=g j)->Nc f i m=Nc g i m
 | 0,_,_=>rfl
 | m+1,i,h=>by
  show (f i).or (Nc f (i+1) m)=(g i).or (Nc g (i+1) m);rw [h i (by omega) (by omega),Ja m (i+1) λj b a=>h j (by omega) (by omega)]
theorem TV : ∀ (m i:Nat),Nc (λ_=>none) i m=none
 | 0,_=>rfl
 | m+1,i=>by show (none:Option AD).or _=_;rw [Option.none_or];exact TV m (i+1)
theorem Qc (f:Nat->Option AD) : ∀ (p i q:Nat),Nc f i (p+q)=(Nc f i p).or (Nc f (i+p) q)
 | 0,i,q=>by rw [Nat.zero_add];rfl
 | p+1,i,q=>by
  rw [show p+1+q=(p+q)+1 by omega];show (f i).or (Nc f (i+1) (p+q))=((f i).or (Nc f (i+1) p)).or (Nc f (i+(p+1)) q);rw [Qc f p (i+1) q,Option.or_assoc,show i+1+p=i+(p+1) by omega]
theorem OW (k:Hn) : ∀ (ls:List (List BI)) (K:Nat),ls.length<=K->DT (Cn ls) k=Nc (λj=>DT (AW ls j).reverse k) 0 K
 | [],K,_=>by
  have:(λj=>DT (AW [] j).reverse k)=λ_=>none:=by
   funext j;have:AW [] j=[]:=rfl
   rw [this];rfl
  rw [this,TV];rfl
 | rs::ls,0,h=>by simp at h
 | rs::ls,K+1,h=>by
  have e:Cn (rs::ls)=rs.reverse++Cn ls:=rfl;rw [e,VX,OW k ls K (by simpa using h)];show _=(DT (AW (rs::ls) 0).reverse k).or (Nc (λj=>DT (AW (rs::ls) j).reverse k) (0+1) K);rw [Yt];rfl
theorem aE {s:AG} (v:VSt s) (C:d9 s.1) {n:Nat} {j:Job} (r:JobAt s.1 n j) (N : ¬ 0<BF s.1 j) (hc:Et s.1 j=true) (K:CI j≠[]->s.2.2<=1000000):KG (D1 s j)=KG s.1:=by
 have F:=Yo v C r N hc K;obtain ⟨Z,W,J,S,P⟩:=r.out v.lev (C n);have d:j.1.toNat=n:=by rw [J];simp
 obtain ⟨b,c,y,m,B,f,U,q,L,E⟩:=r;have I:=Is.1 B
 have X:BF s.1 j=c.2.length+b.2.length-m:=by
  rw [f];unfold BF;simp only [Int.toNat_natCast,B];show c.2.length+b.2.length-((m:Int)).toNat=_;rw [Int.toNat_natCast]
 have t:m=c.2.length+b.2.length:=by omega
 subst t
 have p : ∀ k,Br (CI j) k=((Br c.2 k).or (Br b.2 k)).filter λx => !(y&&x.2.2.1):=λk=>by
  rw [f];exact lJ E L y k
 refine eL λk => ?_;have O:=F.lev.len;have Y:=v.lev.len;rw [OW k _ 14 (by omega),OW k _ 14 (by omega)];rw [show 14=n+(1+(13-n)) by omega,Qc,Qc _ n 0];have w:Jd s j=n\/Jd s j=n+1:=by unfold Jd;rw [d];split<;>omega
 have o:Nc (λi=>DT (AW (D1 s j).2 i).reverse k) 0 n=Nc (λi=>DT (AW s.1.2 i).reverse k) 0 n:=Ja _ _ λi _ hi=>by
  rw [Ej d,if_neg (by rintro ⟨_,h⟩;omega),if_neg (by omega)]
 rw [o];generalize Nc (λi=>DT (AW s.1.2 i).reverse k) 0 n=A
 have u:Nc (λi=>DT (AW (D1 s j).2 i).reverse k) (0+n) (1+(13-n))=(Br (CI j) k).or (Nc (λi=>DT (AW s.1.2 i).reverse k) (n+1) (13-n)):=by
  rw [Nat.zero_add,Nat.add_comm 1];show (DT (AW (D1 s j).2 n).reverse k).or (Nc (λi=>DT (AW (D1 s j).2 i).reverse k) (n+1) (13-n))=_;by_cases a:CI j=[]
  ·rw [Ej d,if_neg (by simp [a]),if_pos rfl,a];refine congrArg _ (Ja _ _ λi hi _ => ?_);rw [Ej d,if_neg (by simp [a]),if_neg (by omega)]
  ·rcases w with ht | ht
   ·rw [Ej d,if_pos ⟨a,ht.symm⟩,if_pos rfl]
    have e:DT (([]:List BI)++[(s.2.2,CI j)]).reverse k=Br (CI j) k:=by
     show (Br (CI j) k).or none=_;cases Br (CI j) k<;>rfl
    rw [e];refine congrArg _ (Ja _ _ λi hi _ => ?_);rw [Ej d,if_neg (by rintro ⟨_,h⟩;omega),if_neg (by omega)]
   ·rw [Ej d,if_neg (by rintro ⟨_,h⟩;omega),if_pos rfl];have D:=F.to12 a;rw [show 13-n=(12-n)+1 by omega];show (none:Option AD).or ((DT (AW (D1 s j).2 (n+1)).reverse k).or (Nc _ (n+1+1) (12-n)))=(Br (CI j) k).or ((DT (AW s.1.2 (n+1)).reverse k).or (Nc _ (n+1+1) (12-n)));rw [Ej d,if_pos ⟨a,ht.symm⟩,if_neg (by omega),List.reverse_append,Option.none_or];have e:DT ([(s.2.2,CI j)].reverse++(AW s.1.2 (n+1)).reverse) k=(Br (CI j) k).or (DT (AW s.1.2 (n+1)).reverse k):=rfl;rw [e,Option.or_assoc];refine congrArg _ (congrArg _ (Ja _ _ λi hi _ => ?_));rw [Ej d,if_neg (by rintro ⟨_,h⟩;omega),if_neg (by omega)]
 have l:Nc (λi=>DT (AW s.1.2 i).reverse k) (0+n) (1+(13-n))=((Br c.2 k).or (Br b.2 k)).or (Nc (λi=>DT (AW s.1.2 i).reverse k) (n+1) (13-n)):=by
  rw [Nat.zero_add,Nat.add_comm 1];show (DT (AW s.1.2 n).reverse k).or _=_;rw [I];refine congrArg (λz=>Option.or z _) ?_;show (Br c.2 k).or ((Br b.2 k).or none)=_;cases Br b.2 k<;>rfl
 rw [u,l,p k];cases y with
 | false =>
  have:((Br c.2 k).or (Br b.2 k)).filter (λx => !(false&&x.2.2.1))=(Br c.2 k).or (Br b.2 k):=by
   cases (Br c.2 k).or (Br b.2 k)<;>simp [Option.filter]
  rw [this]
 | true =>
  have M:Nc (λi=>DT (AW s.1.2 i).reverse k) (n+1) (13-n)=none:=by
   rw [Ja (g:=λ_=>none) _ _ λi hi _ => ?_,TV];have:AW s.1.2 i=[]:=by unfold AW;rw [List.getElem?_eq_none (by have:=q rfl;omega)];rfl
   rw [this];rfl
  rw [M];cases A with
  | some x=>rfl
  | none =>
   cases (Br c.2 k).or (Br b.2 k) with
   | none=>rfl
   | some x =>
    cases G:x.2.2.1<;>simp [Option.filter,He,G]
end Go.Proofs.YtfilfloanndddaaGreat.Pl
namespace Go.Proofs.YtfilfloanndddaaGreat.Pl
open Go Go.Proofs.YtfilfloanndddaaGreat.Sv
end Go.Proofs.YtfilfloanndddaaGreat.Pl
namespace Go.Proofs.YtfilfloanndddaaGreat.Pl
open Go Go.Proofs.YtfilfloanndddaaGreat.Sv
end Go.Proofs.YtfilfloanndddaaGreat.Pl
namespace Go.Proofs.YtfilfloanndddaaGreat.Pl
open Go Go.Proofs.YtfilfloanndddaaGreat.Sv
def CL (l:List BI):Nat:=(l.map λr=>r.2.length).sum
theorem HR (r:BI) (l:List BI):CL (r::l)=r.2.length+CL l:=by simp [CL]
theorem ED (l m:List BI):CL (l++m)=CL l+CL m:=by simp [CL]
theorem Yu {l:List BI} (h : ∀ r∈l,r.2.length<=5000):CL l<=l.length*5000:=by
 induction l with
 | nil=>simp [CL]
 | cons r l a =>
  rw [HR,List.length_cons];have:=h r (by simp);have:=a λx b=>h x (by simp [b]);omega
end Go.Proofs.YtfilfloanndddaaGreat.Pl
namespace Go.Proofs.YtfilfloanndddaaGreat.Pl
open Go Go.Proofs.YtfilfloanndddaaGreat.Sv
end Go.Proofs.YtfilfloanndddaaGreat.Pl
namespace Go.Proofs.YtfilfloanndddaaGreat.Pl
open Go Go.Proofs.YtfilfloanndddaaGreat.Sv
end Go.Proofs.YtfilfloanndddaaGreat.Pl
namespace Go.Proofs.YtfilfloanndddaaGreat.Pl
open Go Go.Proofs.YtfilfloanndddaaGreat.Sv
end Go.Proofs.YtfilfloanndddaaGreat.Pl
namespace Go.Proofs.YtfilfloanndddaaGreat.Pl
open Go Go.Proofs.YtfilfloanndddaaGreat.Sv
end Go.Proofs.YtfilfloanndddaaGreat.Pl
namespace Go.Proofs.YtfilfloanndddaaGreat.Pl
open Go Go.Proofs.YtfilfloanndddaaGreat.Sv
end Go.Proofs.YtfilfloanndddaaGreat.Pl
namespace Go.Proofs.YtfilfloanndddaaGreat.Pl
open Go Go.Proofs.YtfilfloanndddaaGreat.Sv
def Gd (s0 s:AG):Prop:=VSt s/\KG s.1=KG s0.1/\CL s.1.2.flatten<=2000
theorem lK {l:List BI} {r:BI} (h:r∈l):r.2.length<=CL l:=by
 induction l with
 | nil=>cases h
 | cons x l a =>
  rw [HR];rcases List.mem_cons.1 h with e | h
  ·rw [e];omega
  ·have:=a h;omega
theorem Nd {L:AJ} (h:CL L.2.flatten<=2000):d9 L:=λi r a=>by
 have:=lK (QY.2 ⟨i,a⟩);omega
theorem VZ {s:AG} (v:VSt s) (i:d9 s.1) {n:Nat} {j:Job} (g:JobAt s.1 n j) (J : ¬ 0<BF s.1 j):CL (D1 s j).2.flatten<=CL s.1.2.flatten:=by
 obtain ⟨K,I,t,F,D⟩:=g.out v.lev (i n);have B:j.1.toNat=n:=by rw [t];simp
 have a:=i n;obtain ⟨e,d,C,k,m,c,u,G,w,o⟩:=g;have h:=Is.1 m;rw [h] at a;have E:=a e (by simp);have f:=a d (by simp)
 have l:(CI j).length<=d.2.length+e.2.length:=by
  rw [c];exact (d8 o w C u (by omega)).2
 obtain ⟨p,q,f,r⟩:=IA s.1 n []
 have e1:CL s.1.2.flatten=CL p+((e.2.length+d.2.length)+CL q):=by
  rw [f,h,ED,ED,HR,HR];simp [CL]
 have e2:CL (CN s.1 n []).2.flatten=CL p+CL q:=by rw [r,ED,ED];simp [CL]
 unfold D1;rw [B];by_cases b:CI j=[]
 ·rw [if_pos b];omega
 ·rw [if_neg b];obtain ⟨z,x,A,y⟩:=IA (CN s.1 n []) (Jd s j) (AW (CN s.1 n []).2 (Jd s j)++[(s.2.2,CI j)]);have e3:CL (CN s.1 n []).2.flatten=CL z+(CL (AW (CN s.1 n []).2 (Jd s j))+CL x):=by rw [A,ED,ED]
  rw [y,ED,ED,ED,HR];simp only [CL,List.map_nil,List.sum_nil];simp only [CL] at e3 e2 e1;omega
theorem Yv {s:AG} (v:VSt s) {d:Int} (h:d∈Aa 0 s.1.2) : ∃ (i:Nat) (j:Job) (n:Nat),NV d 0 (Aa 0 s.1.2)=some i/\s.2.1[i]? = some j/\d=(n:Int)/\j.1=(n:Int)/\JobAt s.1 n j:=by
 obtain ⟨i,hi⟩:=TH (k:=0) h;obtain ⟨j,n,a,b,c,d,_⟩:=v.at hi;exact ⟨i,j,n,hi,a,b,c,d⟩
theorem aF {s0 s:AG} (g:Gd s0 s) {d:Int} (h:d∈Aa 0 s.1.2) : ∃ (c:Bool) (t:AG) (b:Bool) (e:Int),Hb (s,d)=some (c,0)/\BV (s,d)=some (t,(b,e))/\(s.2.2<=1000000->c=decide (e=0))/\(e=0->Gd s0 t):=by
 obtain ⟨v,A,hc⟩:=g;have q:=Nd hc;have m:=v.sm;obtain ⟨i,j,n,hi,z,B,w,r⟩:=Yv v h;have x:(AO s).2=0:=Aj.2 v;have l:Ql s d=some j:=by unfold Ql;rw [hi];exact z
 have o:Hb (s,d)=some (Et s.1 j,0):=by
  rw [mq m];unfold G6;rw [if_neg (by simp [x]),l]
 have f:BV (s,d)=some (Ir s j):=by
  rw [TP m q];unfold CY;rw [if_neg (by simp [x]),l]
 refine ⟨Et s.1 j,(Ir s j).1,(Ir s j).2.1,(Ir s j).2.2,o,f,?_⟩;unfold Ir;by_cases p:Et s.1 j=false
 ·rw [if_pos p,p];exact ⟨λ_=>by simp,λh=>by cases h⟩
 have a:Et s.1 j=true:=by simpa using p
 rw [if_neg p];by_cases k:0<BF s.1 j
 ·rw [if_pos k];refine ⟨λ_=>by simp [a],λ_=>⟨eF v (by rw [w,<- B];exact hi) z r k,A,hc⟩⟩
 rw [if_neg k];unfold Lr;rw [if_neg (λh=>h.elim k p)];by_cases u:s.2.2>1000000/\CI j≠[]
 ·rw [if_pos u];exact ⟨λh=>by omega,λh=>by cases h⟩
 rw [if_neg u]
 have y:CI j≠[]->s.2.2<=1000000:=λD=>by
  by_cases C:s.2.2>1000000
  ·exact absurd ⟨C,D⟩ u
  ·omega
 refine ⟨λ_=>by simp [a],λ_=>⟨eE v q r k a y,?_,?_⟩⟩
 ·exact (aE v q r k a y).trans A
 ·have:=VZ v q r k;show CL (D1 s j).2.flatten<=2000;omega
theorem TW : ∀ {ls:List (List BI)} {i n:Nat},(AW ls n).length=2->((i+n:Nat):Int)∈Aa i ls
 | [],i,n,h=>by simp [AW] at h
 | rs::ls,i,0,h=>by
  have h':rs.length=2:=h;rw [J9,if_pos h'];simp
 | rs::ls,i,n+1,h=>by
  rw [J9];refine List.mem_append_right _ ?_;have:=TW (ls:=ls) (i:=i+1) (n:=n) h
  rwa [show i+1+n=i+(n+1) by omega] at this
end Go.Proofs.YtfilfloanndddaaGreat.Pl
namespace Go.Proofs.YtfilfloanndddaaGreat.Pl
open Go Go.Proofs.YtfilfloanndddaaGreat.Sv
def G7 (f:Nat->Nat):Nat->Nat
 | 0=>0
 | m+1=>G7 f m+f m
theorem Qd {f g:Nat->Nat} : ∀ {m:Nat},(∀ i,i<m->g i<=f i)->G7 g m<=G7 f m
 | 0,_=>Nat.le_refl _
 | m+1,h=>Nat.add_le_add (Qd λi hi=>h i (by omega)) (h m (by omega))
theorem Qe {f g:Nat->Nat} {n:Nat} (a:g n+1<=f n) : ∀ {m:Nat},n<m->(∀ i,i<m->i≠n->g i<=f i)->G7 g m+1<=G7 f m
 | 0,h,_=>absurd h (by omega)
 | m+1,h,ho=>by
  unfold G7;by_cases e:n=m
  ·subst e;have:=Qd (f:=f) (g:=g) (m:=n) λi hi=>ho i (by omega) (by omega);omega
  ·have:=Qe a (m:=m) (by omega) λi hi=>ho i (by omega);have:=ho m (by omega) (λh=>e h.symm);omega
theorem R5 {f g:Nat->Nat} {n:Nat} (a:g n+g (n+1)+1<=f n+f (n+1)) : ∀ {m:Nat},n+1<m->(∀ i,i<m->i≠n->i≠n+1->g i<=f i)->G7 g m+1<=G7 f m
 | 0,h,_=>absurd h (by omega)
 | m+1,h,ho=>by
  unfold G7;by_cases e:n+1=m
  ·subst e;have:=Qd (f:=f) (g:=g) (m:=n) λi hi=>ho i (by omega) (by omega) (by omega);unfold G7;omega
  ·have:=R5 a (m:=m) (by omega) λi hi=>ho i (by omega);have:=ho m (by omega) (by omega) (by omega);omega
theorem LZ : ∀ {js:List Job} {j:Job},(js.map (·.1)).Nodup->j∈js->B8 js j.1=some j
 | [],_,_,h=>by cases h
 | i::js,j,hn,h=>by
  rw [List.map_cons,List.nodup_cons] at hn;unfold B8;rw [List.find?_cons];unfold TN;rw [Db];rcases List.mem_cons.1 h with e | h
  ·subst e;simp
  ·have a : ¬ j.1=i.1:=λe=>hn.1 (by rw [<- e];exact List.mem_map_of_mem h);rw [decide_eq_false a];exact LZ hn.2 h
theorem R6 : ∀ {js:List Job} {i:Nat} {j:Job} (w:H3) (d:Int),(js.map (·.1)).Nodup->js[i]? = some j->B8 (js.set i (j.1,w)) d=if d=j.1 then some (j.1,w) else B8 js d
 | [],i,j,w,d,_,h=>by simp at h
 | x::js,0,j,w,d,hn,h=>by
  have e:x=j:=by simpa using h
  subst e;unfold B8;rw [List.set_cons_zero,List.find?_cons,List.find?_cons];unfold TN;rw [Db];by_cases e:d=x.1<;>simp [e]
 | x::js,i+1,j,w,d,hn,h=>by
  rw [List.map_cons,List.nodup_cons] at hn;have h':js[i]? = some j:=by simpa using h
  have b:=R6 w d hn.2 h';unfold B8 at b ⊢;rw [List.set_cons_succ,List.find?_cons,List.find?_cons,b];have c:TN d x=decide (d=x.1):=Db _ _;rw [c];by_cases e:d=x.1
  ·have a : ¬ d=j.1:=λe2=>hn.1 (by rw [<- e,e2];exact List.mem_map_of_mem (List.mem_of_getElem? h'));rw [decide_eq_true e];simp only [a,if_false]
  ·rw [decide_eq_false e]
theorem VSt.noJob {s:AG} (v:VSt s) {i:Nat} (h:(AW s.1.2 i).length≠2):B8 s.2.1 (i:Int)=none:=by
 refine J8 λa=>h ?_;rw [v.due] at a;obtain ⟨n,c,d,e,b⟩:=TQ a;have:i=n:=by omega
 rw [this,Is.1 b];rfl
theorem VSt.hasJob {s:AG} (v:VSt s) {i:Nat} (h:(AW s.1.2 i).length=2) : ∃ j,B8 s.2.1 (i:Int)=some j:=by
 have a:=TW (i:=0) h;rw [Nat.zero_add,<- v.due] at a;obtain ⟨j,b,e⟩:=List.mem_map.1 a;exact ⟨j,by rw [<- e];exact LZ v.nodup b⟩
theorem mt {s:AG} (v:VSt s) (d:Int):Ql s d=B8 s.2.1 d:=by
 by_cases h:d∈Aa 0 s.1.2
 ·obtain ⟨j,n,a,b,c,_⟩:=v.atDue h;rw [a,b,<- c];refine (LZ v.nodup ?_).symm;unfold Ql at a;split at a
  ·exact List.mem_of_getElem? a
  ·cases a
 ·rw [J8 (by rw [v.due];exact h)];unfold Ql;split
  ·rename_i i hi;have:=(Wo hi).2;exact absurd (List.mem_of_getElem? this) h
  ·rfl
def l9 (j:Job):Nat:=j.2.2.2.2.toNat
theorem JobAt.rd {L:AJ} {n:Nat} {j:Job} (h:JobAt L n j) : ∃ a b,AW L.2 n=[a,b]/\l9 j<=b.2.length+a.2.length/\BF L j=b.2.length+a.2.length-l9 j/\(0<BF L j->l9 (j.1,KK L j)=l9 j+1):=by
 obtain ⟨a,b,c,k,e,rfl,f,g,i,l⟩:=h;have d:=Is.1 e;have e1:(DY b.2 a.2 c k).2.1.2.2=c:=QU _ _ _ _;have e2:(DY b.2 a.2 c k).2.2.2.toNat=k:=by show ((k:Int)).toNat=k;rw [Int.toNat_natCast]
 refine ⟨a,b,d,?_,?_,λ_ => ?_⟩
 ·show (DY b.2 a.2 c k).2.2.2.toNat<=_;rw [e2];exact f
 ·unfold BF l9;simp only [Int.toNat_natCast,e]
 ·show (KK L ((n:Int),DY b.2 a.2 c k)).2.2.2.toNat=(DY b.2 a.2 c k).2.2.2.toNat+1;unfold KK;simp only [Int.toNat_natCast,d];rw [e1,e2];show (((k+1:Nat):Int)).toNat=_;rw [Int.toNat_natCast]
structure StepF (s:AG) (n:Nat) (j:Job) (t:AG) (b:Bool):Prop where
 job:B8 s.2.1 (n:Int)=some j
 read:0<BF s.1 j->b=false/\t.1=s.1/\t.2.2=s.2.2 /\ ∀ i:Nat,B8 t.2.1 (i:Int)=if i=n then some (j.1,KK s.1 j) else B8 s.2.1 (i:Int)
 inst:BF s.1 j=0->b=true/\t.1=D1 s j/\t.2.2=I3 s j/\(∀ i,(AW t.1.2 i)=if CI j≠[]/\i=Jd s j then (if i=n then [] else AW s.1.2 i)++[(s.2.2,CI j)] else if i=n then [] else AW s.1.2 i)/\(Jd s j=n\/Jd s j=n+1/\n+1<12/\(CI j≠[]->(AW s.1.2 (n+1)).length<2)) /\
  ∀ i:Nat,B8 t.2.1 (i:Int)=if (AW t.1.2 i).length=2 then some ((if i=n then none else B8 s.2.1 (i:Int)).getD (Fm t.1 (i:Int))) else none
theorem Ww {s0 s:AG} (g:Gd s0 s) {d:Int} (h:d∈Aa 0 s.1.2) (e:(CY s d).2.2=0) : ∃ (n:Nat) (j:Job),d=(n:Int)/\n<12/\JobAt s.1 n j/\Et s.1 j=true/\StepF s n j (CY s d).1 (CY s d).2.1/\Gd s0 (CY s d).1:=by
 obtain ⟨v,hl,hc⟩:=g;have hf:=Nd hc;have m:=v.sm;obtain ⟨c,t,b,er,_,G,_,hg⟩:=aF ⟨v,hl,hc⟩ h;rw [TP m hf] at G;have w:=Option.some.inj G;obtain ⟨i,j,n,hi,S,D,u,O⟩:=Yv v h;have hz:(AO s).2=0:=Aj.2 v;have J:Ql s d=some j:=by unfold Ql;rw [hi];exact S
 have hn:n<12:=by
  have:=v.lev.len;obtain ⟨_,_,_,_,W,_⟩:=O;have:=(List.getElem?_eq_some_iff.1 W).1;omega
 have E:B8 s.2.1 (n:Int)=some j:=by rw [<- D,<- mt v,J]
 have hS:CY s d=Ir s j:=by unfold CY;rw [if_neg (by simp [hz]),J]
 have B:Gd s0 (CY s d).1:=by rw [w];exact hg (by rw [<- e,w])
 have o:=B.1;rw [hS] at e o B ⊢;refine ⟨n,j,D,hn,O,?_,⟨E,λU => ?_,λU => ?_⟩,B⟩
 ·unfold Ir at e;by_cases a:Et s.1 j=false
  ·rw [if_pos a] at e;cases e
  ·simpa using a
 ·unfold Ir at e ⊢;have a : ¬ Et s.1 j=false:=λa=>by rw [if_pos a] at e;cases e
  rw [if_neg a,if_pos U];refine ⟨rfl,rfl,rfl,λk => ?_⟩;show B8 (NZ s j).2.1 _=_;unfold NZ;rw [u,<- D,hi,Option.getD_some];show B8 (s.2.1.set i (d,KK s.1 j)) _=_;have:=R6 (KK s.1 j) (k:Int) v.nodup S;rw [u,<- D] at this;rw [this,D];by_cases p:k=n
  ·rw [if_pos (by rw [p]),if_pos p]
  ·rw [if_neg (by omega),if_neg p]
 ·unfold Ir at e o ⊢;have a : ¬ Et s.1 j=false:=λa=>by rw [if_pos a] at e;cases e
  have r:Et s.1 j=true:=by simpa using a
  have z : ¬ 0<BF s.1 j:=by omega
  rw [if_neg a,if_neg z] at e o ⊢;unfold Lr at e o ⊢;rw [if_neg (λh=>h.elim z a)] at e o ⊢;by_cases P:s.2.2>1000000/\CI j≠[]
  ·rw [if_pos P] at e;cases e
  rw [if_neg P] at e o ⊢;have A:j.1.toNat=n:=by rw [u];simp
  have C : ∀ i,AW (D1 s j).2 i=_:=λi=>Ej (s:=s) (j:=j) A i;refine ⟨rfl,rfl,rfl,C,?_,λk => ?_⟩
  ·unfold Jd;rw [A];by_cases hs:Ea s.1 j=true
   ·rw [if_pos hs];exact .inl rfl
   ·rw [if_neg hs]
    have Z:Lq s.1 (n+1)=true:=by
     unfold Et at r;rw [A] at r;simpa [hs,z] using r
    have K:=of_decide_eq_true Z;exact .inr ⟨rfl,K.1,λ_=>K.2⟩
  ·have q:VSt (K0 s (D1 s j) (I3 s j) j.1):=o;show B8 (K0 s (D1 s j) (I3 s j) j.1).2.1 (k:Int)=if (AW (D1 s j).2 k).length=2 then some ((if k=n then none else B8 s.2.1 (k:Int)).getD (Fm (D1 s j) (k:Int))) else none
   have ho:(AW (K0 s (D1 s j) (I3 s j) j.1).1.2 k)=AW (D1 s j).2 k:=rfl;by_cases L:(AW (D1 s j).2 k).length=2
   ·rw [if_pos L];have N:=TW (i:=0) L;rw [Nat.zero_add] at N;have I:F1 s (D1 s j) j.1 (k:Int)∈(K0 s (D1 s j) (I3 s j) j.1).2.1:=List.mem_map_of_mem N
    have F:(F1 s (D1 s j) j.1 (k:Int)).1=(k:Int):=by
     have M:(Aa 0 (D1 s j).2).map (λd=>(F1 s (D1 s j) j.1 d).1)=Aa 0 (D1 s j).2:=by
      have:=q.due;simpa [K0,List.map_map,Function.comp_def] using this
     have key : ∀ {l:List Int} {f:Int->Int},l.map f=l -> ∀ x∈l,f x=x:=by
      intro l f
      induction l with
      | nil=>intro _ x hx;cases hx
      | cons y l X =>
       intro h x hx;rw [List.map_cons] at h;obtain ⟨Y,k2⟩:=List.cons.inj h;rcases List.mem_cons.1 hx with rfl | hx
       ·exact Y
       ·exact X k2 x hx
     exact key M _ N
    have:=LZ q.nodup I;rw [F] at this;rw [this];unfold F1;rw [u];by_cases p:k=n
    ·rw [if_pos (by omega),if_pos p]
    ·rw [if_neg (by omega),if_neg p]
   ·rw [if_neg L];exact q.noJob (by rw [ho];exact L)
end Go.Proofs.YtfilfloanndddaaGreat.Pl
namespace Go.Proofs.YtfilfloanndddaaGreat.Pl
open Go Go.Proofs.YtfilfloanndddaaGreat.Sv
def ji (s:AG) (i:Nat):Nat:=match B8 s.2.1 (i:Int) with
 | some j=>l9 j
 | none=>0
def Vk (N:Nat) (s:AG) (i:Nat):Nat:=(AW s.1.2 i).length*(N+1)-ji s i
def ba (N:Nat) (s:AG):Nat:=G7 (Vk N s) 12
theorem lL {L:AJ} {n:Nat} {b a:BI} (h:AW L.2 n=[b,a]):b.2.length+a.2.length<=CL L.2.flatten:=by
 obtain ⟨p,q,c,_⟩:=IA L n [];rw [c,h,ED,ED,HR,HR];omega
theorem VSt.rd0 {s:AG} (v:VSt s) {i:Nat} (h:(AW s.1.2 i).length≠2):ji s i=0:=by
 unfold ji;rw [v.noJob h]
theorem eM {N:Nat} {s t:AG} {n:Nat} {j:Job} {b:Bool} (v:VSt s) (D:CL s.1.2.flatten<=N) (p:n<12) (u:JobAt s.1 n j) (F:StepF s n j t b):ba N t+1<=ba N s:=by
 obtain ⟨E,C,f,B,G,z⟩:=u.rd;have hc:=lL f
 have hs:Vk N s n=2*(N+1)-l9 j:=by
  unfold Vk ji;rw [F.job,f];rfl
 by_cases r:0<BF s.1 j
 ·obtain ⟨_,e1,_,e2⟩:=F.read r;refine Qe (n:=n) ?_ p λi _ a => ?_
  ·have m:Vk N t n=2*(N+1)-(l9 j+1):=by
    unfold Vk ji;rw [e2,if_pos rfl,e1,f,<- z r];rfl
   omega
  ·unfold Vk ji;rw [e2,if_neg a,e1];exact Nat.le_refl _
 ·obtain ⟨_,e1,_,e2,e3,o⟩:=F.inst (by omega)
  have d : ∀ i,i≠n -> ¬ (CI j≠[]/\i=Jd s j)->Vk N t i<=Vk N s i:=λi a hit=>by
   have e:AW t.1.2 i=AW s.1.2 i:=by rw [e2,if_neg hit,if_neg a]
   have c:ji t i=ji s i:=by
    by_cases c:(AW s.1.2 i).length=2
    ·obtain ⟨j',k⟩:=v.hasJob c;unfold ji;rw [o,e,if_pos c,if_neg a,k];rfl
    ·rw [v.rd0 c];unfold ji;rw [o,e,if_neg c]
   unfold Vk;rw [e,c];exact Nat.le_refl _
  by_cases m:CI j≠[]/\Jd s j≠n
  ·obtain ⟨q,y⟩:=m;rcases e3 with e3 | ⟨e3,g,c⟩
   ·exact absurd e3 y
   have c:=c q;refine R5 (n:=n) ?_ g λi _ a l=>d i a (by rw [e3];exact λh=>l h.2)
   have w:Vk N t n=0:=by
    unfold Vk;rw [e2,if_neg (by rw [e3];omega),if_pos rfl];simp
   have x:Vk N t (n+1)<=((AW s.1.2 (n+1)).length+1)*(N+1):=by
    unfold Vk;rw [e2,if_pos ⟨q,e3.symm⟩,if_neg (by omega),List.length_append];exact Nat.sub_le _ _
   have A:Vk N s (n+1)=(AW s.1.2 (n+1)).length*(N+1):=by
    unfold Vk;rw [v.rd0 (by omega)];rfl
   rw [Nat.add_mul] at x;omega
  ·refine Qe (n:=n) ?_ p λi _ a=>d i a (λh=>m ⟨h.1,by rw [<- h.2];exact a⟩)
   have w:Vk N t n<=1*(N+1):=by
    refine Nat.le_trans (Nat.sub_le _ _) (Nat.mul_le_mul_right _ ?_);rw [e2,if_pos rfl];split<;>simp
   omega
theorem TX (L:List (List BI)) : ∀ m,G7 (λi=>(AW L i).length) m=(L.take m).flatten.length
 | 0=>by simp [G7]
 | m+1=>by
  unfold G7;rw [TX L m];by_cases h:m<L.length
  ·have:L.take (m+1)=L.take m++[AW L m]:=by
    rw [List.take_add_one,E0 h];rfl
   rw [this,List.flatten_append];simp
  ·have:AW L m=[]:=by unfold AW;rw [List.getElem?_eq_none (by omega)];rfl
   rw [this,List.take_of_length_le (by omega),List.take_of_length_le (by omega)];simp
theorem Yw (f:Nat->Nat) (c:Nat) : ∀ m,G7 (λi=>f i*c) m=G7 f m*c
 | 0=>by simp [G7]
 | m+1=>by unfold G7;rw [Yw f c m,Nat.add_mul]
theorem mu (N:Nat) {s:AG} (v:VSt s):ba N s<=s.1.2.flatten.length*(N+1):=by
 have a:ba N s<=G7 (λi=>(AW s.1.2 i).length*(N+1)) 12:=Qd λi _=>Nat.sub_le _ _;have:=v.lev.len;rw [Yw,TX,List.take_of_length_le (by omega)] at a;exact a
theorem eN {L:AJ} (v:VLev L):L.2.flatten.length<=24:=by
 have h:=TX L.2 12;have:=v.len;rw [List.take_of_length_le (by omega)] at h;rw [<- h];exact Qd (f:=λ_=>2) λi _=>(v.own i).1
end Go.Proofs.YtfilfloanndddaaGreat.Pl
namespace Go.Proofs.YtfilfloanndddaaGreat.Pl
open Go Go.Proofs.YtfilfloanndddaaGreat.Sv
set_option linter.unusedVariables false
abbrev Je:=(Int×(Int×(Int×Rp)))
def Q6 (a:Rp) (k l:Nat):Rp :=
 (Ol (neq l 0) (AI .i64 (KX [a.1,a.2.1,a.2.2.1,a.2.2.2.1,a.2.2.2.2.1,a.2.2.2.2.2.1,a.2.2.2.2.2.2.1,a.2.2.2.2.2.2.2.1,a.2.2.2.2.2.2.2.2.1,a.2.2.2.2.2.2.2.2.2.1,a.2.2.2.2.2.2.2.2.2.2.1,a.2.2.2.2.2.2.2.2.2.2.2] k) 1) a.1,(Ol (neq l 1) (AI .i64 (KX [a.1,a.2.1,a.2.2.1,a.2.2.2.1,a.2.2.2.2.1,a.2.2.2.2.2.1,a.2.2.2.2.2.2.1,a.2.2.2.2.2.2.2.1,a.2.2.2.2.2.2.2.2.1,a.2.2.2.2.2.2.2.2.2.1,a.2.2.2.2.2.2.2.2.2.2.1,a.2.2.2.2.2.2.2.2.2.2.2] k) 1) a.2.1,(Ol (neq l 2) (AI .i64 (KX [a.1,a.2.1,a.2.2.1,a.2.2.2.1,a.2.2.2.2.1,a.2.2.2.2.2.1,a.2.2.2.2.2.2.1,a.2.2.2.2.2.2.2.1,a.2.2.2.2.2.2.2.2.1,a.2.2.2.2.2.2.2.2.2.1,a.2.2.2.2.2.2.2.2.2.2.1,a.2.2.2.2.2.2.2.2.2.2.2] k) 1) a.2.2.1,(Ol (neq l 3) (AI .i64 (KX [a.1,a.2.1,a.2.2.1,a.2.2.2.1,a.2.2.2.2.1,a.2.2.2.2.2.1,a.2.2.2.2.2.2.1,a.2.2.2.2.2.2.2.1,a.2.2.2.2.2.2.2.2.1,a.2.2.2.2.2.2.2.2.2.1,a.2.2.2.2.2.2.2.2.2.2.1,a.2.2.2.2.2.2.2.2.2.2.2] k) 1) a.2.2.2.1,(Ol (neq l 4) (AI .i64 (KX [a.1,a.2.1,a.2.2.1,a.2.2.2.1,a.2.2.2.2.1,a.2.2.2.2.2.1,a.2.2.2.2.2.2.1,a.2.2.2.2.2.2.2.1,a.2.2.2.2.2.2.2.2.1,a.2.2.2.2.2.2.2.2.2.1,a.2.2.2.2.2.2.2.2.2.2.1,a.2.2.2.2.2.2.2.2.2.2.2] k) 1) a.2.2.2.2.1,(Ol (neq l 5) (AI .i64 (KX [a.1,a.2.1,a.2.2.1,a.2.2.2.1,a.2.2.2.2.1,a.2.2.2.2.2.1,a.2.2.2.2.2.2.1,a.2.2.2.2.2.2.2.1,a.2.2.2.2.2.2.2.2.1,a.2.2.2.2.2.2.2.2.2.1,a.2.2.2.2.2.2.2.2.2.2.1,a.2.2.2.2.2.2.2.2.2.2.2] k) 1) a.2.2.2.2.2.1,(Ol (neq l 6) (AI .i64 (KX [a.1,a.2.1,a.2.2.1,a.2.2.2.1,a.2.2.2.2.1,a.2.2.2.2.2.1,a.2.2.2.2.2.2.1,a.2.2.2.2.2.2.2.1,a.2.2.2.2.2.2.2.2.1,a.2.2.2.2.2.2.2.2.2.1,a.2.2.2.2.2.2.2.2.2.2.1,a.2.2.2.2.2.2.2.2.2.2.2] k) 1) a.2.2.2.2.2.2.1,(Ol (neq l 7) (AI .i64 (KX [a.1,a.2.1,a.2.2.1,a.2.2.2.1,a.2.2.2.2.1,a.2.2.2.2.2.1,a.2.2.2.2.2.2.1,a.2.2.2.2.2.2.2.1,a.2.2.2.2.2.2.2.2.1,a.2.2.2.2.2.2.2.2.2.1,a.2.2.2.2.2.2.2.2.2.2.1,a.2.2.2.2.2.2.2.2.2.2.2] k) 1) a.2.2.2.2.2.2.2.1,(Ol (neq l 8) (AI .i64 (KX [a.1,a.2.1,a.2.2.1,a.2.2.2.1,a.2.2.2.2.1,a.2.2.2.2.2.1,a.2.2.2.2.2.2.1,a.2.2.2.2.2.2.2.1,a.2.2.2.2.2.2.2.2.1,a.2.2.2.2.2.2.2.2.2.1,a.2.2.2.2.2.2.2.2.2.2.1,a.2.2.2.2.2.2.2.2.2.2.2] k) 1) a.2.2.2.2.2.2.2.2.1,(Ol (neq l 9) (AI .i64 (KX [a.1,a.2.1,a.2.2.1,a.2.2.2.1,a.2.2.2.2.1,a.2.2.2.2.2.1,a.2.2.2.2.2.2.1,a.2.2.2.2.2.2.2.1,a.2.2.2.2.2.2.2.2.1,a.2.2.2.2.2.2.2.2.2.1,a.2.2.2.2.2.2.2.2.2.2.1,a.2.2.2.2.2.2.2.2.2.2.2] k) 1) a.2.2.2.2.2.2.2.2.2.1,(Ol (neq l 10) (AI .i64 (KX [a.1,a.2.1,a.2.2.1,a.2.2.2.1,a.2.2.2.2.1,a.2.2.2.2.2.1,a.2.2.2.2.2.2.1,a.2.2.2.2.2.2.2.1,a.2.2.2.2.2.2.2.2.1,a.2.2.2.2.2.2.2.2.2.1,a.2.2.2.2.2.2.2.2.2.2.1,a.2.2.2.2.2.2.2.2.2.2.2] k) 1) a.2.2.2.2.2.2.2.2.2.2.1,Ol (neq l 11) (AI .i64 (KX [a.1,a.2.1,a.2.2.1,a.2.2.2.1,a.2.2.2.2.1,a.2.2.2.2.2.1,a.2.2.2.2.2.2.1,a.2.2.2.2.2.2.2.1,a.2.2.2.2.2.2.2.2.1,a.2.2.2.2.2.2.2.2.2.1,a.2.2.2.2.2.2.2.2.2.2.1,a.2.2.2.2.2.2.2.2.2.2.2] k) 1) a.2.2.2.2.2.2.2.2.2.2.2)))))))))))
def pP (a b:Rp):Bool :=
 Az (A8 a.1 b.1) (Az (A8 a.2.1 b.2.1) (Az (A8 a.2.2.1 b.2.2.1) (Az (A8 a.2.2.2.1 b.2.2.2.1) (Az (A8 a.2.2.2.2.1 b.2.2.2.2.1) (Az (A8 a.2.2.2.2.2.1 b.2.2.2.2.2.1) (Az (A8 a.2.2.2.2.2.2.1 b.2.2.2.2.2.2.1) (Az (A8 a.2.2.2.2.2.2.2.1 b.2.2.2.2.2.2.2.1) (Az (A8 a.2.2.2.2.2.2.2.2.1 b.2.2.2.2.2.2.2.2.1) (Az (A8 a.2.2.2.2.2.2.2.2.2.1 b.2.2.2.2.2.2.2.2.2.1) (Az (A8 a.2.2.2.2.2.2.2.2.2.2.1 b.2.2.2.2.2.2.2.2.2.2.1) (Az (A8 a.2.2.2.2.2.2.2.2.2.2.2 b.2.2.2.2.2.2.2.2.2.2.2) (true))))))))))))
def Ek (x:Unit):Option (AJ×((List (Int×(AM×((Bool×AN)×((List AD)×Int)))))×Int)) :=
 bd (MN ((2,[[(1,[([(97:UInt8)],([],(false,1)))]),(2,[([(98:UInt8)],([],(false,2)))])]]))) λa=>some a.1
def G8 (x:(Int×Bool)):Option Unit :=
 some ()
def EE (x:((AJ×((List (Int×(AM×((Bool×AN)×((List AD)×Int)))))×Int))×Int)):Option ((AJ×((List (Int×(AM×((Bool×AN)×((List AD)×Int)))))×Int))×(Je×Int)) :=
 bd (CT x.1) λi=>br (Ay i.2 0) (λ_=>br (Ay i.2 0) (λ_=>some ((((0,[]),([],0)),((0,(0,(0,(0,(0,(0,(0,(0,(0,(0,(0,(0,(0,(0,0)))))))))))))),i.2)))) λ_=>br (CD x.2 0) (λ_=>bd (loop (β:=(Nat×(Unit×Unit))) (λs1=>none) ()) λj=>none) λ_=>none) λ_=>br (Ak x.2 0) (λ_=>some ((((0,[]),([],0)),((0,(0,(0,(0,(0,(0,(0,(0,(0,(0,(0,(0,(0,(0,0)))))))))))))),7)))) λ_=>br (CD x.2 1000000) (λ_=>some ((((0,[]),([],0)),((0,(0,(0,(0,(0,(0,(0,(0,(0,(0,(0,(0,(0,(0,0)))))))))))))),7)))) λ_=>br (CD x.2 0) (λ_=>bd (loop (λ(a:((Int×((List (List BI))×((List (Int×(AM×((Bool×AN)×((List AD)×Int)))))×(Int×Int))))×Je))=>bd (BW (((a.1.1,a.1.2.1),(a.1.2.2.1,a.1.2.2.2.1)))) λd=>br (A8 d.2 4) (λ_=>some (.dn ((0,(a,()))))) λ_=>br (A8 d.2 0) (λ_=>bd (BV ((((a.1.1,a.1.2.1),(a.1.2.2.1,a.1.2.2.2.1)),d.1))) λc=>br (Ay c.2.2 0) (λ_=>some (.dn ((0,(((a.1.1,(a.1.2.1,(a.1.2.2.1,(a.1.2.2.2.1,c.2.2)))),a.2),()))))) λ_=>bd (G8 (d.1,c.2.1)) λl=>AT d.1 λg=>gd (C7 g 12) λ_=>AT d.1 λh=>gd (C7 h 12) λ_=>br c.2.1 (λ_=>br (A8 (AI .i64 a.2.1 1) x.2) (λ_=>some (.dn ((1,(((c.1.1.1,(c.1.1.2,(c.1.2.1,(c.1.2.2,c.2.2)))),(AI .i64 a.2.1 1,(a.2.2.1,(AI .i64 a.2.2.2.1 1,(Q6 a.2.2.2.2 g h))))),()))))) λ_=>some (.nx (((c.1.1.1,(c.1.1.2,(c.1.2.1,(c.1.2.2,c.2.2)))),(AI .i64 a.2.1 1,(a.2.2.1,(AI .i64 a.2.2.2.1 1,(Q6 a.2.2.2.2 g h)))))))) λ_=>br (A8 (AI .i64 a.2.1 1) x.2) (λ_=>some (.dn ((1,(((c.1.1.1,(c.1.1.2,(c.1.2.1,(c.1.2.2,c.2.2)))),(AI .i64 a.2.1 1,(a.2.2.1,(a.2.2.2.1,(Q6 a.2.2.2.2 g h))))),()))))) λ_=>some (.nx (((c.1.1.1,(c.1.1.2,(c.1.2.1,(c.1.2.2,c.2.2)))),(AI .i64 a.2.1 1,(a.2.2.1,(a.2.2.2.1,(Q6 a.2.2.2.2 g h)))))))) λ_=>br (Ay d.2 0) (λ_=>some (.dn ((0,(((a.1.1,(a.1.2.1,(a.1.2.2.1,(a.1.2.2.2.1,d.2)))),a.2),()))))) λ_=>bd (G8 (d.1,false)) λk=>AT d.1 λf=>gd (C7 f 12) λ_=>AT d.1 λe=>gd (C7 e 12) λ_=>br (A8 (AI .i64 a.2.1 1) x.2) (λ_=>some (.dn ((1,(((0,([],([],(0,d.2)))),(AI .i64 a.2.1 1,(a.2.2.1,(a.2.2.2.1,(Q6 a.2.2.2.2 f e))))),()))))) λ_=>some (.nx (((0,([],([],(0,d.2)))),(AI .i64 a.2.1 1,(a.2.2.1,(a.2.2.2.1,(Q6 a.2.2.2.2 f e)))))))) (((x.1.1.1,(x.1.1.2,(x.1.2.1,(x.1.2.2,0)))),(0,(0,(0,(0,(0,(0,(0,(0,(0,(0,(0,(0,(0,(0,0))))))))))))))))) λb=>br (neq b.1 0) (λ_=>br (Ay b.2.1.1.2.2.2.2 0) (λ_=>some ((((0,[]),([],0)),((0,(0,(0,(0,(0,(0,(0,(0,(0,(0,(0,(0,(0,(0,0)))))))))))))),b.2.1.1.2.2.2.2)))) λ_=>some ((((b.2.1.1.1,b.2.1.1.2.1),(b.2.1.1.2.2.1,b.2.1.1.2.2.2.1)),((b.2.1.2.1,(CA .i64 x.2 b.2.1.2.1,b.2.1.2.2.2)),0)))) λ_=>br (Ay b.2.1.1.2.2.2.2 0) (λ_=>some ((((0,[]),([],0)),((0,(0,(0,(0,(0,(0,(0,(0,(0,(0,(0,(0,(0,(0,0)))))))))))))),b.2.1.1.2.2.2.2)))) λ_=>some ((((b.2.1.1.1,b.2.1.1.2.1),(b.2.1.1.2.2.1,b.2.1.1.2.2.2.1)),((b.2.1.2.1,(CA .i64 x.2 b.2.1.2.1,b.2.1.2.2.2)),0)))) λ_=>some ((x.1,((0,(CA .i64 x.2 0,(0,(0,(0,(0,(0,(0,(0,(0,(0,(0,(0,(0,0)))))))))))))),0)))
def EF (x:((AJ×((List (Int×(AM×((Bool×AN)×((List AD)×Int)))))×Int))×Int)):Option ((List Int)×Int) :=
 bd (CT x.1) λi=>br (Ay i.2 0) (λ_=>br (Ay i.2 0) (λ_=>some ([],i.2)) λ_=>br (CD x.2 0) (λ_=>bd (loop (β:=(Nat×(Unit×Unit))) (λs1=>none) ()) λj=>none) λ_=>none) λ_=>br (Ak x.2 0) (λ_=>some ([],7)) λ_=>br (CD x.2 1000000) (λ_=>some ([],7)) λ_=>br (CD x.2 0) (λ_=>bd (loop (λ(a:((Int×((List (List BI))×((List (Int×(AM×((Bool×AN)×((List AD)×Int)))))×(Int×Int))))×((List Int)×Je)))=>bd (BW (((a.1.1,a.1.2.1),(a.1.2.2.1,a.1.2.2.2.1)))) λc=>br (A8 c.2 4) (λ_=>some (.dn ((0,(a,()))))) λ_=>br (A8 c.2 0) (λ_=>bd (BV ((((a.1.1,a.1.2.1),(a.1.2.2.1,a.1.2.2.2.1)),c.1))) λb=>br (Ay b.2.2 0) (λ_=>some (.dn ((0,(((a.1.1,(a.1.2.1,(a.1.2.2.1,(a.1.2.2.2.1,b.2.2)))),a.2),()))))) λ_=>gd (BP (Ag (AA a.2.1) (AA [c.1])) 1048576) λ_=>AT c.1 λf=>gd (C7 f 12) λ_=>AT c.1 λe=>gd (C7 e 12) λ_=>br b.2.1 (λ_=>br (A8 (AI .i64 a.2.2.1 1) x.2) (λ_=>some (.dn ((1,(((b.1.1.1,(b.1.1.2,(b.1.2.1,(b.1.2.2,b.2.2)))),(Bu a.2.1 [c.1],(AI .i64 a.2.2.1 1,(a.2.2.2.1,(AI .i64 a.2.2.2.2.1 1,(Q6 a.2.2.2.2.2 f e)))))),()))))) λ_=>some (.nx (((b.1.1.1,(b.1.1.2,(b.1.2.1,(b.1.2.2,b.2.2)))),(Bu a.2.1 [c.1],(AI .i64 a.2.2.1 1,(a.2.2.2.1,(AI .i64 a.2.2.2.2.1 1,(Q6 a.2.2.2.2.2 f e))))))))) λ_=>br (A8 (AI .i64 a.2.2.1 1) x.2) (λ_=>some (.dn ((1,(((b.1.1.1,(b.1.1.2,(b.1.2.1,(b.1.2.2,b.2.2)))),(Bu a.2.1 [c.1],(AI .i64 a.2.2.1 1,(a.2.2.2.1,(a.2.2.2.2.1,(Q6 a.2.2.2.2.2 f e)))))),()))))) λ_=>some (.nx (((b.1.1.1,(b.1.1.2,(b.1.2.1,(b.1.2.2,b.2.2)))),(Bu a.2.1 [c.1],(AI .i64 a.2.2.1 1,(a.2.2.2.1,(a.2.2.2.2.1,(Q6 a.2.2.2.2.2 f e))))))))) λ_=>br (Ay c.2 0) (λ_=>some (.dn ((0,(((a.1.1,(a.1.2.1,(a.1.2.2.1,(a.1.2.2.2.1,c.2)))),a.2),()))))) λ_=>gd (BP (Ag (AA a.2.1) (AA [c.1])) 1048576) λ_=>AT c.1 λh=>gd (C7 h 12) λ_=>AT c.1 λg=>gd (C7 g 12) λ_=>br (A8 (AI .i64 a.2.2.1 1) x.2) (λ_=>some (.dn ((1,(((0,([],([],(0,c.2)))),(Bu a.2.1 [c.1],(AI .i64 a.2.2.1 1,(a.2.2.2.1,(a.2.2.2.2.1,(Q6 a.2.2.2.2.2 h g)))))),()))))) λ_=>some (.nx (((0,([],([],(0,c.2)))),(Bu a.2.1 [c.1],(AI .i64 a.2.2.1 1,(a.2.2.2.1,(a.2.2.2.2.1,(Q6 a.2.2.2.2.2 h g))))))))) (((x.1.1.1,(x.1.1.2,(x.1.2.1,(x.1.2.2,0)))),([],(0,(0,(0,(0,(0,(0,(0,(0,(0,(0,(0,(0,(0,(0,0)))))))))))))))))) λd=>br (neq d.1 0) (λ_=>br (Ay d.2.1.1.2.2.2.2 0) (λ_=>some ([],d.2.1.1.2.2.2.2)) λ_=>some (d.2.1.2.1,0)) λ_=>br (Ay d.2.1.1.2.2.2.2 0) (λ_=>some ([],d.2.1.1.2.2.2.2)) λ_=>some (d.2.1.2.1,0)) λ_=>some ([],0)
def I4 (x:((AJ×((List (Int×(AM×((Bool×AN)×((List AD)×Int)))))×Int))×Int)):Option (Int×Int) :=
 bd (CT x.1) λe=>br (Ay e.2 0) (λ_=>br (Ay e.2 0) (λ_=>some (0,e.2)) λ_=>br (Ak x.2 0) (λ_=>some (0,7)) λ_=>br (HY x.2 12) (λ_=>some (0,7)) λ_=>bd (EL x) λg=>br (Ay g.2 0) (λ_=>some (0,g.2)) λ_=>bd (loop (β:=(Nat×(Unit×Unit))) (λs2=>none) ()) λh=>none) λ_=>br (Ak x.2 0) (λ_=>some (0,7)) λ_=>br (HY x.2 12) (λ_=>some (0,7)) λ_=>bd (EL x) λf=>br (Ay f.2 0) (λ_=>some (0,f.2)) λ_=>bd (loop (λ(a:((Int×((List (List BI))×((List (Int×(AM×((Bool×AN)×((List AD)×Int)))))×(Int×Int))))×(Int×Int)))=>bd (BW (((a.1.1,a.1.2.1),(a.1.2.2.1,a.1.2.2.2.1)))) λc=>br (A8 c.2 4) (λ_=>some (.dn ((0,(a,()))))) λ_=>br (A8 c.2 0) (λ_=>bd (BV ((((a.1.1,a.1.2.1),(a.1.2.2.1,a.1.2.2.2.1)),c.1))) λb=>br (Ay b.2.2 0) (λ_=>some (.dn ((0,(((a.1.1,(a.1.2.1,(a.1.2.2.1,(a.1.2.2.2.1,b.2.2)))),a.2),()))))) λ_=>br (Az (A8 c.1 x.2) (Az (beq b.2.1 true) true)) (λ_=>some (.dn ((1,(((b.1.1.1,(b.1.1.2,(b.1.2.1,(b.1.2.2,b.2.2)))),(AI .i64 a.2.1 1,0)),()))))) λ_=>some (.nx (((b.1.1.1,(b.1.1.2,(b.1.2.1,(b.1.2.2,b.2.2)))),(AI .i64 a.2.1 1,a.2.2))))) λ_=>br (Ay c.2 0) (λ_=>some (.dn ((0,(((a.1.1,(a.1.2.1,(a.1.2.2.1,(a.1.2.2.2.1,c.2)))),a.2),()))))) λ_=>br (Az (A8 c.1 x.2) (Az (beq false true) true)) (λ_=>some (.dn ((1,(((0,([],([],(0,c.2)))),(AI .i64 a.2.1 1,0)),()))))) λ_=>some (.nx (((0,([],([],(0,c.2)))),(AI .i64 a.2.1 1,a.2.2))))) (((x.1.1.1,(x.1.1.2,(x.1.2.1,(x.1.2.2,0)))),(0,0)))) λd=>br (neq d.1 0) (λ_=>some (0,d.2.1.1.2.2.2.2)) λ_=>some d.2.1.2
def F3 (x:Unit):Option Bool :=
 bd (Ek ()) λf=>bd (EE (f,5)) λa=>bd (Ek ()) λd=>bd (EF (d,5)) λb=>bd (Ek ()) λe=>bd (I4 (e,0)) λc=>br (A8 a.2.2 0) (λ_=>br (A8 b.2 0) (λ_=>br (A8 c.2 0) (λ_=>br (Az (A8 a.2.1.1 3) (Az (A8 a.2.1.2.1 2) (Az (A8 a.2.1.2.2.1 1) (Az (Az (A8 a.2.1.2.2.2.1 (Ol true 3 0)) (Az (A8 a.2.1.2.2.2.2.1 (Ol false 3 0)) (Az (A8 a.2.1.2.2.2.2.2.1 (Ol false 3 0)) (Az (A8 a.2.1.2.2.2.2.2.2.1 (Ol false 3 0)) (Az (A8 a.2.1.2.2.2.2.2.2.2.1 (Ol false 3 0)) (Az (A8 a.2.1.2.2.2.2.2.2.2.2.1 (Ol false 3 0)) (Az (A8 a.2.1.2.2.2.2.2.2.2.2.2.1 (Ol false 3 0)) (Az (A8 a.2.1.2.2.2.2.2.2.2.2.2.2.1 (Ol false 3 0)) (Az (A8 a.2.1.2.2.2.2.2.2.2.2.2.2.2.1 (Ol false 3 0)) (Az (A8 a.2.1.2.2.2.2.2.2.2.2.2.2.2.2.1 (Ol false 3 0)) (Az (A8 a.2.1.2.2.2.2.2.2.2.2.2.2.2.2.2.1 (Ol false 3 0)) (Az (A8 a.2.1.2.2.2.2.2.2.2.2.2.2.2.2.2.2 (Ol false 3 0)) true)))))))))))) true)))) (λ_=>br (A8 (Ab (AA a.1.2.1)) 0) (λ_=>br (A8 (Ab (AA b.1)) 3) (λ_=>some (A8 c.1 3)) λ_=>some false) λ_=>some false) λ_=>some false) λ_=>some false) λ_=>some false) λ_=>some false
def Er (x:((AJ×((List (Int×(AM×((Bool×AN)×((List AD)×Int)))))×Int))×Int)):Option Int :=
 bd (DJ x.1) λa=>br (A8 a.2 0) (λ_=>br (Ak x.2 0) (λ_=>some 7) λ_=>br (CD x.2 1000000) (λ_=>some 7) λ_=>some a.2) λ_=>some a.2
def Dm (x:(AJ×((List (Int×(AM×((Bool×AN)×((List AD)×Int)))))×Int))):Option ((AJ×((List (Int×(AM×((Bool×AN)×((List AD)×Int)))))×Int))×(Int×(Bool×Int))) :=
 bd (Fe x) λa=>br (Ay a.2 0) (λ_=>some ((x,(0,(false,a.2))))) λ_=>bd (EZ (x,a.1)) λb=>some ((b.1,(a.1,b.2)))
def EG (x:((AJ×((List (Int×(AM×((Bool×AN)×((List AD)×Int)))))×Int))×Int)):Option ((AJ×((List (Int×(AM×((Bool×AN)×((List AD)×Int)))))×Int))×(Je×((List Int)×Int))) :=
 bd (loop (λ(s0:(Int×((List Int)×((List Int)×((Int×((List (List BI))×((List (Int×(AM×((Bool×AN)×((List AD)×Int)))))×Int)))×((Int×((List (List BI))×((List (Int×(AM×((Bool×AN)×((List AD)×Int)))))×Int)))×(Je×Je)))))))=>br (Ak s0.2.2.2.2.2.2.1 x.2) (λ_=>bd (Dm (((s0.2.2.2.2.1.1,s0.2.2.2.2.1.2.1),s0.2.2.2.2.1.2.2))) λa=>br (A8 a.2.2.2 4) (λ_=>some (.dn ((0,(s0,()))))) λ_=>br (Ay a.2.2.2 0) (λ_=>some (.dn ((1,((a.2.2.2,(s0.2.1,([],((0,([],([],0))),(s0.2.2.2.2.1,((0,(0,(0,(0,(0,(0,(0,(0,(0,(0,(0,(0,(0,(0,0)))))))))))))),s0.2.2.2.2.2.2)))))),()))))) λ_=>AT a.2.1 λd=>gd (C7 d 12) λ_=>AT a.2.1 λc=>gd (C7 c 12) λ_=>br a.2.2.1 (λ_=>gd (BP (Ag (AA s0.2.1) (AA [a.2.1])) 1048576) λ_=>some (.nx ((s0.1,(Bu s0.2.1 [a.2.1],(s0.2.2.1,(s0.2.2.2.1,((a.1.1.1,(a.1.1.2,a.1.2)),(s0.2.2.2.2.2.1,(AI .i64 s0.2.2.2.2.2.2.1 1,(s0.2.2.2.2.2.2.2.1,(AI .i64 s0.2.2.2.2.2.2.2.2.1 1,(Q6 s0.2.2.2.2.2.2.2.2.2 d c))))))))))))) λ_=>gd (BP (Ag (AA s0.2.1) (AA [a.2.1])) 1048576) λ_=>some (.nx ((s0.1,(Bu s0.2.1 [a.2.1],(s0.2.2.1,(s0.2.2.2.1,((a.1.1.1,(a.1.1.2,a.1.2)),(s0.2.2.2.2.2.1,(AI .i64 s0.2.2.2.2.2.2.1 1,(s0.2.2.2.2.2.2.2.1,(s0.2.2.2.2.2.2.2.2.1,(Q6 s0.2.2.2.2.2.2.2.2.2 d c))))))))))))) λ_=>some (.dn ((0,(s0,()))))) ((0,([],([],((0,([],([],0))),((x.1.1.1,(x.1.1.2,x.1.2)),((0,(0,(0,(0,(0,(0,(0,(0,(0,(0,(0,(0,(0,(0,0)))))))))))))),(0,(0,(0,(0,(0,(0,(0,(0,(0,(0,(0,(0,(0,(0,0)))))))))))))))))))))) λb=>br (neq b.1 0) (λ_=>some ((((b.2.1.2.2.2.2.1.1,b.2.1.2.2.2.2.1.2.1),b.2.1.2.2.2.2.1.2.2),((b.2.1.2.2.2.2.2.2.1,(CA .i64 x.2 b.2.1.2.2.2.2.2.2.1,b.2.1.2.2.2.2.2.2.2.2)),(b.2.1.2.1,0))))) λ_=>some ((((b.2.1.2.2.2.1.1,b.2.1.2.2.2.1.2.1),b.2.1.2.2.2.1.2.2),(b.2.1.2.2.2.2.2.1,(b.2.1.2.2.1,b.2.1.1))))
def F4 (x:((AJ×((List (Int×(AM×((Bool×AN)×((List AD)×Int)))))×Int))×Int)):Option ((AJ×((List (Int×(AM×((Bool×AN)×((List AD)×Int)))))×Int))×(Je×Int)) :=
 bd (Er x) λb=>br (Ay b 0) (λ_=>some ((((0,[]),([],0)),((0,(0,(0,(0,(0,(0,(0,(0,(0,(0,(0,(0,(0,(0,0)))))))))))))),b)))) λ_=>bd (EG x) λa=>some ((a.1,(a.2.1,a.2.2.2)))
def F5 (x:((AJ×((List (Int×(AM×((Bool×AN)×((List AD)×Int)))))×Int))×Int)):Option ((List Int)×Int) :=
 bd (Er x) λa=>br (Ay a 0) (λ_=>some ([],a)) λ_=>bd (EG x) λb=>some b.2.2
def G9 (x:((List Int)×(List Int))):Option Bool :=
 br (Ay (Ab (AA x.1)) (Ab (AA x.2))) (λ_=>some false) λ_=>bd (loop (λs0=>br (Ak s0.1 (Ab (AA x.1))) (λ_=>AT s0.1 λe=>ix x.1 e λc=>AT s0.1 λd=>ix x.2 d λb=>br (Ay c b) (λ_=>some (.dn ((0,((s0.1,false),()))))) λ_=>some (.nx (AI .i64 s0.1 1,s0.2))) λ_=>some (.dn ((1,(s0,()))))) (0,false)) λa=>br (neq a.1 0) (λ_=>some a.2.1.2) λ_=>some true
def Cw (x:((AJ×((List (Int×(AM×((Bool×AN)×((List AD)×Int)))))×Int))×Int)):Option Bool :=
 bd (GP x.1) λg=>br g (λ_=>bd (F3 ()) λh=>some h) λ_=>bd (EE x) λa=>bd (F4 x) λb=>bd (EY (a.1,b.1)) λf=>br (Ad f) (λ_=>some false) λ_=>br (Ad (Az (A8 a.2.1.1 b.2.1.1) (Az (A8 a.2.1.2.1 b.2.1.2.1) (Az (A8 a.2.1.2.2.1 b.2.1.2.2.1) (Az (pP a.2.1.2.2.2 b.2.1.2.2.2) true))))) (λ_=>some false) λ_=>br (Ay a.2.2 b.2.2) (λ_=>some false) λ_=>bd (EF x) λc=>bd (F5 x) λd=>bd (G9 (c.1,d.1)) λi=>br i (λ_=>br (A8 c.2 d.2) (λ_=>bd (F3 ()) λe=>some e) λ_=>some false) λ_=>some false
end Go.Proofs.YtfilfloanndddaaGreat.Pl
namespace Go.Proofs.YtfilfloanndddaaGreat.Pl
open Go Go.Proofs.YtfilfloanndddaaGreat.Sv
def E2 (s:AG):Int:=if (BO s).2≠0 then (BO s).2 else (CY s (BO s).1).2.2
def H4 (s:AG):AG:=(CY s (BO s).1).1
def GT (s:AG):Int×Bool:=((BO s).1,(CY s (BO s).1).2.1)
def CM:Nat->AG->AG×(List (Int×Bool)×Int)
 | 0,s=>(s,([],0))
 | n+1,s=>if E2 s=4 then (s,([],0)) else if E2 s≠0 then (s,([],E2 s)) else ((CM n (H4 s)).1,(GT s::(CM n (H4 s)).2.1,(CM n (H4 s)).2.2))
theorem Nf {s:AG} : ∀ {l:List Int} {d:Int},FO s l=some d -> ∃ p q,l=p++d::q/\(G6 false (λs j=>(Et s.1 j,0)) s d).1=true /\ ∀ x∈p,¬ (G6 false (λs j=>(Et s.1 j,0)) s x).1=true
 | [],_,h=>by cases h
 | x::l,d,h=>by
  unfold FO at h;split at h
  ·rename_i a;cases h;exact ⟨[],l,rfl,a,λ_ h=>by cases h⟩
  ·rename_i a;obtain ⟨p,q,rfl,c,b⟩:=Nf h
   exact ⟨x::p,q,rfl,c,λy hy=>by
    rcases List.mem_cons.1 hy with rfl | hy
    ·exact a
    ·exact b y hy⟩
theorem Qf {s:AG} (v:VSt s):((BO s).2=4/\s.2.1=[])\/(BO s).2=9\/((BO s).2=0/\(BO s).1∈Aa 0 s.1.2):=by
 have a:(AO s).2=0:=Aj.2 v;unfold BO;rw [if_neg (by simp [a])];by_cases h:Aa 0 s.1.2=[]
 ·rw [if_pos h];refine .inl ⟨rfl,?_⟩;have:=v.due;rw [h] at this;simpa using this
 ·rw [if_neg h];cases hc:FO s (Aa 0 s.1.2) with
  | none=>exact .inr (.inl rfl)
  | some d =>
   obtain ⟨p,q,e,_⟩:=Nf hc;exact .inr (.inr ⟨rfl,by rw [e];simp⟩)
theorem aG (s:AG) (j:Job):(Ir s j).2.2≠4:=by
 unfold Ir;split
 ·simp
 ·split
  ·simp
  ·unfold Lr;split
   ·simp
   ·split<;>simp
theorem eO {s:AG} (v:VSt s) {d:Int} (h:d∈Aa 0 s.1.2):(CY s d).2.2≠4:=by
 have a:(AO s).2=0:=Aj.2 v;obtain ⟨j,n,b,_⟩:=v.atDue h;unfold CY;rw [if_neg (by simp [a]),b];exact aG s j
theorem HS {s0 s:AG} (g:Gd s0 s):BW s=some (BO s)/\Fe s=some (BO s):=⟨lF g.1.sm,Z4 g.1.sm⟩
theorem K2 {s0 s:AG} (g:Gd s0 s) (d:Int):BV (s,d)=some (CY s d)/\EZ (s,d)=some (CY s d) :=
 ⟨TP g.1.sm (Nd g.2.2) d,aC g.1.sm (Nd g.2.2) d⟩
theorem Va {s0 s:AG} (g:Gd s0 s) (e:E2 s=0):(BO s).2=0/\(BO s).1∈Aa 0 s.1.2/\(CY s (BO s).1).2.2=0:=by
 unfold E2 at e;rcases Qf g.1 with h | h | h
 ·rw [if_pos (by rw [h.1];decide),h.1] at e;cases e
 ·rw [if_pos (by rw [h];decide),h] at e;cases e
 ·rw [if_neg (by simp [h.1])] at e;exact ⟨h.1,h.2,e⟩
theorem IB {s0 s:AG} (g:Gd s0 s) (e:E2 s=0) : ∃ (n:Nat) (j:Job),(GT s).1=(n:Int)/\n<12/\JobAt s.1 n j/\Et s.1 j=true/\StepF s n j (H4 s) (GT s).2/\Gd s0 (H4 s):=by
 obtain ⟨_,a,b⟩:=Va g e;exact Ww g a b
theorem Vb {s0 s:AG} (g:Gd s0 s) (e:E2 s=4):(BO s).2=4/\s.2.1=[]:=by
 unfold E2 at e;rcases Qf g.1 with h | h | h
 ·exact h
 ·rw [if_pos (by rw [h];decide),h] at e;cases e
 ·rw [if_neg (by simp [h.1])] at e;exact absurd e (eO g.1 h.2)
theorem Yx {s0 s:AG} {N:Nat} (g:Gd s0 s) (a:CL s.1.2.flatten<=N) (e:E2 s=0):ba N (H4 s)+1<=ba N s/\CL (H4 s).1.2.flatten<=N:=by
 obtain ⟨n,j,_,d,c,_,F,_⟩:=IB g e;refine ⟨eM g.1 a d c F,?_⟩;by_cases b:0<BF s.1 j
 ·rw [(F.read b).2.1];exact a
 ·rw [(F.inst (by omega)).2.1];exact Nat.le_trans (VZ g.1 (Nd g.2.2) c b) a
theorem Qg {s0:AG} {N:Nat} : ∀ {n:Nat} {s:AG},Gd s0 s->CL s.1.2.flatten<=N->(CM n s).2.1.length<=n/\(CM n s).2.1.length+ba N (CM n s).1<=ba N s/\Gd s0 (CM n s).1/\CL (CM n s).1.1.2.flatten<=N/\((CM n s).2.2=0->(CM n s).2.1.length<n->(CM n s).1.2.1=[])
 | 0,s,g,hN=>⟨Nat.le_refl _,by simp [CM],g,hN,λ_ h=>absurd h (by simp [CM])⟩
 | n+1,s,g,hN=>by
  unfold CM;by_cases b:E2 s=4
  ·rw [if_pos b];exact ⟨by simp,by simp,g,hN,λ_ _=>(Vb g b).2⟩
  ·rw [if_neg b];by_cases a:E2 s=0
   ·rw [if_neg (by simp [a])];obtain ⟨_,_,_,_,_,_,_,k⟩:=IB g a;obtain ⟨o,d⟩:=Yx g hN a;obtain ⟨e,m,l,j,f⟩:=Qg (n:=n) k d;refine ⟨by simpa using e,?_,l,j,λc i=>f c (by simpa using i)⟩;simp only [List.length_cons];omega
   ·rw [if_pos a];exact ⟨by simp,by simp,g,hN,λc=>absurd c a⟩
def K3 (u:Je) (x:Int×Bool):Je:=(AI .i64 u.1 1,(u.2.1,(if x.2=true then AI .i64 u.2.2.1 1 else u.2.2.1,Q6 u.2.2.2 x.1.toNat x.1.toNat)))
def Q7 (u:Je) (l:List (Int×Bool)):Je:=l.foldl K3 u
end Go.Proofs.YtfilfloanndddaaGreat.Pl
