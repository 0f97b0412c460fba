/- Functions of the program and of the specification as plain functions, and laws about them. No condition. -/
import Derived.Test.YtfilfloanndddaaGreatPl1
import Derived.KernelRfl
set_option linter.all false
namespace Go.Proofs.YtfilfloanndddaaGreat.Pl
section
open Go Go.Proofs.YtfilfloanndddaaGreat.Sv
def zS:TA:=((0,[]),([],0))
def UQ (j:Job):List S8:=j.2.2.2.1
def Xz (s:TA) (j:Job):Nat:=if Vp s.1 j=true then j.1.toNat else j.1.toNat+1
def Va (s:TA) (j:Job):TB:=if UQ j=[] then US s.1 j.1.toNat [] else US (US s.1 j.1.toNat []) (Xz s j) (TG (US s.1 j.1.toNat []).2 (Xz s j)++[(s.2.2,UQ j)])
def Xm (s:TA) (j:Job):Int:=if UQ j=[] then s.2.2 else s.2.2+1
def Yc (s:TA) (j:Job):TA×Int :=
 if 0<Tb s.1 j\/Vq s.1 j=false then (zS,9) else if s.2.2>1000000/\UQ j≠[] then (zS,5) else (YS s (Va s j) (Xm s j) j.1,0)
theorem ZK : ∀ (ls:List (List TY)) (i:Nat),(TI i ls).Nodup /\ ∀ d∈TI i ls,(i:Int)<=d
 | [],_=>⟨.nil,λ_ h=>by cases h⟩
 | rs::ls,i=>by
  obtain ⟨b,a⟩:=ZK ls (i+1);rw [XW];by_cases h:rs.length=2
  ·rw [if_pos h];refine ⟨List.nodup_cons.2 ⟨λc => ?_,b⟩,λd hd => ?_⟩
   ·have:=a _ c;omega
   ·rcases List.mem_cons.1 hd with e | hd
    ·omega
    ·have:=a d hd;omega
  ·rw [if_neg h];exact ⟨b,λd hd=>by have:=a d hd;omega⟩
theorem VSt.nodup {s:TA} (v:VSt s):(s.2.1.map (·.1)).Nodup:=by rw [v.due];exact (ZK _ _).1
theorem JobAt.out {L:TB} {n:Nat} {j:Job} (h:JobAt L n j) (v:VLev L) (hs:(∀ r∈TG L.2 n,r.2.length<=2000)):VL (UQ j)/\((UQ j).length:Int)<=2*UW L.1 n/\j.1=(n:Int)/\n<12/\TG L.2 n≠[]:=by
 obtain ⟨a,b,d,k,e,rfl,i,_,l,m⟩:=h;have c:TG L.2 n=[a,b]:=by unfold TG;rw [e];rfl
 have s:=hs a (by rw [c];simp);have t:=hs b (by rw [c];simp);have u:=((v.own n).2 a (by rw [c];simp)).le;have w:=((v.own n).2 b (by rw [c];simp)).le;obtain ⟨f,g⟩:=iK m l d i (by omega);have p:=(List.getElem?_eq_some_iff.1 e).1;have q:=v.len;refine ⟨f,?_,rfl,by omega,by rw [c];simp⟩
 have o:((UQ ((n:Int),VC b.2 a.2 d k)).length:Int)<=(b.2.length:Int)+(a.2.length:Int):=by
  have:(UQ ((n:Int),VC b.2 a.2 d k)).length<=b.2.length+a.2.length:=g;omega
 omega
def gm (L:TB):Prop := ∀ i,∀ r∈TG L.2 i,r.2.length<=2000
structure InstF (s:TA) (n:Nat) (j:Job):Prop where
 l1:VLev (US s.1 n [])
 to12:UQ j≠[]->Xz s j<12
 vr:UQ j≠[]->VR (UW s.1.1 (Xz s j)) (s.2.2,UQ j)
 id : ∀ y∈(US s.1 n []).2.flatten,y.1≠s.2.2
 room:UQ j≠[]->(TG (US s.1 n []).2 (Xz s j)).length<2
 lev:VLev (Va s j)
theorem eR {s:TA} (v:VSt s) (A:gm s.1) {n:Nat} {j:Job} (z:JobAt s.1 n j) (G : ¬ 0<Tb s.1 j) (hc:Vq s.1 j=true) (x:UQ j≠[]->s.2.2<=1000000):InstF s n j:=by
 obtain ⟨C,D,E,t,I⟩:=z.out v.lev (A n);have a:=v.lev.leave (n:=n) t;have e:j.1.toNat=n:=by rw [E];simp
 have b:Vp s.1 j≠true->n+1<12/\(TG s.1.2 (n+1)).length<2:=λhs=>by
  unfold Vq at hc;rw [show decide (0<Tb s.1 j)=false by simp;omega,e] at hc;cases o:Vp s.1 j with
  | true=>exact absurd o hs
  | false =>
   rw [o] at hc;simpa [Ye,TG] using hc
 have d : ∀ y∈(US s.1 n []).2.flatten,y.1≠s.2.2:=λy r=>by
  obtain ⟨p,q,i,k⟩:=XS s.1 n [];rw [k,List.nil_append] at r
  have B:y∈s.1.2.flatten:=by
   rw [i];rcases List.mem_append.1 r with h | h
   ·exact List.mem_append_left _ h
   ·exact List.mem_append_right _ (List.mem_append_right _ h)
  have:=Yz B;have:=v.n3;omega
 have m:Xz s j<12/\(TG (US s.1 n []).2 (Xz s j)).length<2/\((UQ j).length:Int)<=UW s.1.1 (Xz s j):=by
  unfold Xz;by_cases hs:Vp s.1 j=true
  ·rw [if_pos hs,e];refine ⟨t,by rw [Wi,if_pos rfl];simp,?_⟩;have c:=hs;unfold Vp at c;rw [e] at c;exact of_decide_eq_true c
  ·rw [if_neg hs,e];obtain ⟨i,k⟩:=b hs;refine ⟨i,by rw [Wi,if_neg (by omega)];exact k,?_⟩;rw [ac];exact D
 obtain ⟨u,w,F⟩:=m;have g:UQ j≠[]->VR (UW s.1.1 (Xz s j)) (s.2.2,UQ j):=λf=>⟨v.n1,x f,C,f,F⟩;refine ⟨a,λ_=>u,g,d,λ_=>w,?_⟩;unfold Va;rw [e];by_cases l:UQ j=[]
 ·rw [if_pos l];exact a
 ·rw [if_neg l];exact a.arrive u w (g l) d
theorem aR {s:TA} (v:VSt s) (u:gm s.1) {n:Nat} {j:Job} (t:JobAt s.1 n j) (w : ¬ 0<Tb s.1 j) (hc:Vq s.1 j=true) (y:UQ j≠[]->s.2.2<=1000000) (l:Int) :
  (bd (U8 (s.1,(n:Int))) λd=>br (RR d.2.2 0) (λ_=>br (SU (Kb (AS j.2.2.2.1)) 0) (λ_=>bd (Tj (s,(j,l))) λK=>br (Hf K) (λ_=>bd (Tv ((d.1,(Rl .i64 (n:Int) 1,(s.2.2,j.2.2.2.1))))) λm=>br (RT m.2 0) (λ_=>some ((((0,[]),([],0)),m.2))) λ_=>bd (Tc ((s,(m.1,(Rl .i64 s.2.2 1,(n:Int)))))) λL=>some L) λ_=>bd (Tv ((d.1,((n:Int),(s.2.2,j.2.2.2.1))))) λo=>br (RT o.2 0) (λ_=>some ((((0,[]),([],0)),o.2))) λ_=>bd (Tc ((s,(o.1,(Rl .i64 s.2.2 1,(n:Int)))))) λM=>some M) λ_=>br (RT d.2.2 0) (λ_=>some ((((0,[]),([],0)),d.2.2))) λ_=>bd (Tc ((s,(d.1,(s.2.2,(n:Int)))))) λN=>some N) λ_=>br (RT d.2.2 0) (λ_=>some ((((0,[]),([],0)),d.2.2))) λ_=>bd (Tc ((s,(d.1,(s.2.2,(n:Int)))))) λk=>some k)
  = some (YS s (Va s j) (Xm s j) j.1,0):=by
 have F:=eR v u t w hc y;obtain ⟨G,O,g,I,J⟩:=t.out v.lev (u n);have i:j.1.toNat=n:=by rw [g];simp
 have D:=v.n2;have C:=v.n1;have A:=v.jsmall;have a:=F.lev;rw [ck v.lev J,SL];show (br (RR 0 0) _ _)=_;rw [Sn,if_pos rfl,TH,TF,Sp];by_cases b:UQ j=[]
 ·rw [if_neg (show ¬ ((j.2.2.2.1.length:Int)>0) by rw [show j.2.2.2.1=[] from b];simp),Ss,if_pos rfl];unfold Va at a ⊢;rw [if_pos b,i] at a;rw [if_pos b,i,ZV v.nodup (by omega) a,SL];unfold Xm;rw [if_pos b,g]
 ·rw [if_pos (show ((j.2.2.2.1.length:Int)>0) by have:=List.length_pos_iff.2 b;have h:(UQ j).length=j.2.2.2.1.length:=rfl;omega),aH v.lev g I,SL,Tq];have E:(UQ j).length<=1048576:=by have:=G.len;omega
  have B:kR [] (UW (US s.1 n []).1 (Xz s j)) (s.2.2,UQ j)=0:=iA.2 ⟨F.vr b,by simp⟩;have f:=bh F.l1 (F.to12 b) (x:=(s.2.2,UQ j)) E F.id (F.room b);rw [if_neg (by simp [B])] at f
  have z:Va s j=US (US s.1 n []) (Xz s j) (TG (US s.1 n []).2 (Xz s j)++[(s.2.2,UQ j)]):=by
   unfold Va;rw [if_neg b,i]
  have q:Xm s j=s.2.2+1:=by unfold Xm;rw [if_neg b]
  rw [<- z] at f;have p:Rl .i64 s.2.2 1=s.2.2+1:=R9 (by omega);have r:=ZV v.nodup (by omega) a (s.2.2+1) (n:Int);rw [Sx];have c:Xz s j=if Vp s.1 j=true then n else n+1:=by unfold Xz;rw [i]
  by_cases hs:Vp s.1 j=true
  ·rw [if_pos hs] at c ⊢;rw [c] at f;have e:Tv (US s.1 n [],((n:Int),(s.2.2,j.2.2.2.1)))=some (Va s j,0):=f;rw [e,SL,Ss,if_pos rfl,p,r,SL,q,g]
  ·rw [if_neg hs] at c ⊢;rw [c] at f;rw [TJ (by omega)];have e:Tv (US s.1 n [],(((n+1:Nat):Int),(s.2.2,j.2.2.2.1)))=some (Va s j,0):=f;rw [e,SL,Ss,if_pos rfl,p,r,SL,q,g]
theorem cV {s:TA} (m:Sm s) (k:gm s.1) (a:Int):VG (s,a)=some (Wc zS Yc s a):=by
 unfold VG;rw [bJ m,SL];unfold Wc;by_cases b:(TE s).2=0;rotate_left
 ·rw [if_pos b,Ss,if_neg b,if_pos b];rfl
 rw [if_neg (show ¬ (TE s).2≠0 by simp [b]),if_neg (show ¬ (TE s).2≠0 by simp [b])];have v:=TL.1 b;unfold Zo;cases p:Yx a 0 (TI 0 s.1.2) with
 | none=>rfl
 | some i =>
  obtain ⟨j,n,l,o,f,g,q⟩:=v.at p;have:=v.lev.len;subst o;simp only [l];unfold TX Yc;rw [Ss,if_pos rfl,SL,Sp];by_cases e:0<Tb s.1 j
  ·rw [if_pos (show ((Tb s.1 j:Int))>0 by omega),if_pos (.inl e)];rfl
  rw [if_neg (show ¬ ((Tb s.1 j:Int))>0 by omega),ai v.lev f (by omega) _ rfl,SL,Tq,Sx];by_cases hc:Vq s.1 j=true;rotate_left
  ·rw [if_neg hc,if_pos (.inr (by simpa using hc))];rfl
  rw [if_pos hc,if_neg (show ¬ (0<Tb s.1 j\/Vq s.1 j=false) by rw [hc];simp;omega),Sp];by_cases d:s.2.2>1000000
  ·rw [if_pos d,TH,TF,Sp];by_cases c:UQ j=[]
   ·rw [if_neg (show ¬ ((j.2.2.2.1.length:Int)>0) by rw [show j.2.2.2.1=[] from c];simp),if_neg (by simp [c])];exact aR v k g e hc (λh=>absurd c h) _
   ·rw [if_pos (show ((j.2.2.2.1.length:Int)>0) by have:=List.length_pos_iff.2 c;have h:(UQ j).length=j.2.2.2.1.length:=rfl;omega),if_pos ⟨d,c⟩];rfl
  ·rw [if_neg d,if_neg (by simp [d])];exact aR v k g e hc (λh=>by omega) _
end
section
open Go Go.Proofs.YtfilfloanndddaaGreat.Sv
def YF (L:TB) (j:Job):XQ:=match TG L.2 j.1.toNat with
 | [r0,r1]=>VC r1.2 r0.2 j.2.2.1.2.2 (j.2.2.2.2.toNat+1)
 | _=>j.2
def ZB (s:TA) (j:Job):TA:=(s.1,(lset s.2.1 ((Yx j.1 0 (TI 0 s.1.2)).getD 0) (j.1,YF s.1 j),s.2.2))
theorem iQ {s:TA} (m:Sm s) (v:VSt s) {a:Int} {i:Nat} (h:Yx a 0 (TI 0 s.1.2)=some i) {j:Job} (e:s.2.1[i]? = some j) (t:0<Tb s.1 j):XN (s,(a,1))=some (ZB s j,(1,0)):=by
 obtain ⟨j',n,f,y,u,q,D⟩:=v.at h;rw [e] at f;cases f;subst y;have r:(TE s).2=0:=TL.2 v
 have l:Xp s (n:Int)=((i:Int),0):=by
  unfold Xp;rw [if_neg (show ¬ (TE s).2≠0 by simp [r]),h]
 have w:=v.jsmall;have hi:=(List.getElem?_eq_some_iff.1 e).1;unfold XN;rw [pJ m,SL,Ss,if_pos r,Sr,if_neg (show ¬ ((1:Int)<0) by omega),eK m,SL,l,Ss,if_pos rfl,S9,Sb e,(JobAt.left q).1,SL,Sn,if_neg (show ¬ ((Tb s.1 j:Int)=0) by omega),S9,Sb e];obtain ⟨b,c,d,k,p,rfl,x,C,A,B⟩:=q;have z:TG s.1.2 n=[b,c]:=by unfold TG;rw [p];rfl
 have o:Tb s.1 ((n:Int),VC c.2 b.2 d k)=c.2.length+b.2.length-k:=by
  unfold Tb;simp only [Int.toNat_natCast,p];show c.2.length+b.2.length-((k:Int)).toNat=_;rw [Int.toNat_natCast]
 rw [o] at t;have g:=ad B A d x (k:=1);rw [show min 1 (c.2.length+b.2.length-k)=1 by omega] at g;show (bd (UO (VC c.2 b.2 d k,((1:Nat):Int))) λE=>_)=_;rw [g,SL];simp only;rw [Ss,if_pos rfl];unfold Tw;rw [UB (by simp only [AS];omega),SL,S9,SR,if_pos (by simp only [AS];exact hi),Sb e];unfold ZB YF;simp only [Int.toNat_natCast,z,h,Option.getD_some];have e1:(VC c.2 b.2 d k).2.1.2.2=d:=Zk _ _ _ _;have e2:(VC c.2 b.2 d k).2.2.2.toNat=k:=by show ((k:Int)).toNat=k;rw [Int.toNat_natCast]
 rw [e1,e2];rfl
def Xi (s:TA) (j:Job):TA×(Bool×Int):=if Vq s.1 j=false then (zS,(false,9)) else if 0<Tb s.1 j then (ZB s j,(false,0)) else ((Yc s j).1,(RR (Yc s j).2 0,(Yc s j).2))
def Uw (s:TA) (a:Int):TA×(Bool×Int):=if (TE s).2≠0 then (zS,(false,(TE s).2)) else match Zo s a with
 | some j=>Xi s j
 | none=>(zS,(false,4))
theorem af {s:TA} (m:Sm s) (g:gm s.1) (a:Int):Tf (s,a)=some (Uw s a):=by
 unfold Tf;rw [bJ m,SL,cV m g];unfold Wc Uw;by_cases b:(TE s).2=0;rotate_left
 ·rw [if_pos b,Ss,if_neg b,if_pos b];rfl
 rw [if_neg (show ¬ (TE s).2≠0 by simp [b]),if_neg (show ¬ (TE s).2≠0 by simp [b]),if_neg (show ¬ (TE s).2≠0 by simp [b])];have v:=TL.1 b;unfold Zo;cases f:Yx a 0 (TI 0 s.1.2) with
 | none=>rfl
 | some i =>
  obtain ⟨j,n,e,k,d,h,l⟩:=v.at f;have:=v.lev.len;simp only [e];unfold Xi TX;rw [Ss,if_pos rfl,ai v.lev d (by omega) _ rfl,SL,Tq,Sx];cases hc:Vq s.1 j with
  | false=>rw [if_neg (by simp),if_pos rfl];rfl
  | true =>
   rw [if_pos rfl,if_neg (by simp),SL,Sp];by_cases c:0<Tb s.1 j
   ·rw [if_pos (show ((Tb s.1 j:Int))>0 by omega),if_pos c,iQ m v f e c];rfl
   ·rw [if_neg (show ¬ ((Tb s.1 j:Int))>0 by omega),if_neg c];rfl
end
section
open Go Go.Proofs.YtfilfloanndddaaGreat.Sv
theorem az {ls:List (List TY)} {d:Int} (h:d∈TI 0 ls) : ∃ (n:Nat) (a b:TY),d=(n:Int)/\ls[n]? = some [a,b]:=by
 obtain ⟨k,f⟩:=List.getElem?_of_mem h;obtain ⟨n,c,a,b,e⟩:=XR f;exact ⟨n,a,b,by rw [c,Nat.zero_add],e⟩
theorem bZ {l:List (List TY)} {n:Int} (i:0<n) (h : ∀ x∈l.flatten,x.1<n):WO l<n:=by
 have f : ∀ (rs:List TY) (m:Int),m<n->(∀ x∈rs,x.1<n)->rs.foldl (λm r=>S0 m r.1) m<n:=by
  intro rs
  induction rs with
  | nil=>intro m b _;exact b
  | cons r rs e =>
   intro m b c;rw [List.foldl_cons];refine e _ ?_ λx d=>c x (by simp [d]);rw [W1];have:=c r (by simp);omega
 have two : ∀ (ls:List (List TY)) (m:Int),m<n->(∀ rs∈ls,∀ x∈rs,x.1<n)->ls.foldl (λm rs=>rs.foldl (λm r=>S0 m r.1) m) m<n:=by
  intro ls
  induction ls with
  | nil=>intro m b _;exact b
  | cons rs ls e =>
   intro m b c;rw [List.foldl_cons];exact e _ (f rs m b (c rs (by simp))) λg a=>c g (by simp [a])
 exact two l 0 i λrs a x d=>h x (List.mem_flatten.2 ⟨rs,a,d⟩)
theorem mv {l:List (List TY)} (e:l.getLast? ≠ some []) {n:Nat} (a:TG l n≠[]) (b : ∀ i,n<i->TG l i=[]):l.length=n+1:=by
 have f:n<l.length:=by
  by_cases h:n<l.length
  ·exact h
  ·unfold TG at a;rw [List.getElem?_eq_none (by omega)] at a;exact absurd rfl a
 by_cases c:l.length=n+1
 ·exact c
 ·exfalso;have d:=b (l.length-1) (by omega);refine e ?_;rw [List.getLast?_eq_getElem?,V4 (by omega),d]
theorem Zw {js:List Job} {d:Int} {j:Job} (h:UN js d=some j):j∈js/\j.1=d:=by
 unfold UN at h;have a:=List.find?_some h;unfold ap at a;rw [VZ] at a;exact ⟨List.mem_of_find?_eq_some h,(of_decide_eq_true a).symm⟩
theorem gr {L:TB} (v:VLev L) {n:Nat} {b c:TY} (h:L.2[n]? = some [b,c]):JobAt L n (WQ L (n:Int)):=by
 have a:TG L.2 n=[b,c]:=by unfold TG;rw [h];rfl
 refine ⟨b,c,decide ((n:Int)=(L.2.length:Int)-1),0,h,?_,Nat.zero_le _,λd => ?_,VR.vl' v (n:=n) (by rw [a];simp),VR.vl' v (n:=n) (by rw [a];simp)⟩
 ·unfold WQ;rw [Int.toNat_natCast,a]
 ·have:=of_decide_eq_true d;have:=(List.getElem?_eq_some_iff.1 h).1;omega
theorem mf {s:TA} (v:VSt s) {L:TB} (u:VLev L) {next a:Int} (F:1<=next) (G:next<=1000001) (I : ∀ x∈L.2.flatten,x.1<next)
  (J : ∀ (n:Nat) (g h:TY),s.1.2[n]? = some [g,h]->(n:Int)≠a->(∃ q r,L.2[n]? = some [q,r])->L.2[n]? = some [g,h]/\(n+1=s.1.2.length->n+1=L.2.length)):VSt (YS s L next a):=by
 have b : ∀ d∈TI 0 L.2,(Wb s L a d).1=d /\ ∃ n,JobAt L n (Wb s L a d):=λd c=>by
  obtain ⟨n,q,r,rfl,t⟩:=az c;unfold Wb;cases l:(if (n:Int)=a then none else UN s.2.1 (n:Int)) with
  | none =>
   rw [Option.getD_none];have i:=gr u t;refine ⟨?_,n,i⟩;obtain ⟨_,_,_,_,_,e,_⟩:=i;rw [e]
  | some j =>
   rw [Option.getD_some];by_cases o:(n:Int)=a
   ·rw [if_pos o] at l;cases l
   rw [if_neg o] at l;obtain ⟨p,f⟩:=Zw l;refine ⟨f,n,?_⟩;obtain ⟨m,g,h,E,k,w,rfl,y,z,A,B⟩:=v.job j p;have K:m=n:=by have:(m:Int)=(n:Int):=f;omega
   subst K;obtain ⟨C,D⟩:=J m g h w o ⟨q,r,t⟩;exact ⟨g,h,E,k,C,rfl,y,λi=>D (z i),A,B⟩
 refine ⟨u,F,G,bZ (by show 0<next;omega) I,?_,λj p => ?_⟩
 ·show ((TI 0 L.2).map (Wb s L a)).map (·.1)=TI 0 L.2;rw [List.map_map]
  conv=>rhs;rw [<- List.map_id (TI 0 L.2)]
  exact List.map_congr_left λd c=>(b d c).1
 ·obtain ⟨d,c,rfl⟩:=List.mem_map.1 p;exact (b d c).2
theorem Xg {l:List (List TY)} {n:Nat} {b c:TY}:l[n]? = some [b,c]<->TG l n=[b,c]:=by
 unfold TG;constructor
 ·intro h;rw [h];rfl
 ·intro h;cases a:l[n]? with
  | none=>rw [a] at h;cases h
  | some rs=>rw [a] at h;exact congrArg some h
theorem Vy {s:TA} {j:Job} {n:Nat} (b:j.1.toNat=n) (i:Nat):TG (Va s j).2 i=if UQ j≠[]/\i=Xz s j then (if i=n then [] else TG s.1.2 i)++[(s.2.2,UQ j)] else if i=n then [] else TG s.1.2 i:=by
 unfold Va;rw [b];by_cases a:UQ j=[]
 ·rw [if_pos a,if_neg (by simp [a]),Wi]
 ·rw [if_neg a,Wi];by_cases hi:i=Xz s j
  ·rw [if_pos hi,if_pos ⟨a,hi⟩,Wi,<- hi]
  ·rw [if_neg hi,if_neg (by simp [hi]),Wi]
theorem g9 {s:TA} (v:VSt s) (u:gm s.1) {n:Nat} {j:Job} (t:JobAt s.1 n j) (B : ¬ 0<Tb s.1 j) (hc:Vq s.1 j=true) (r:UQ j≠[]->s.2.2<=1000000):VSt (YS s (Va s j) (Xm s j) j.1):=by
 have F:=eR v u t B hc r;obtain ⟨O,P,w,S,q⟩:=t.out v.lev (u n);have l:j.1.toNat=n:=by rw [w];simp
 have E:=v.n1;have G:=v.n2
 have k:s.2.2<=Xm s j/\Xm s j<=1000001/\(UQ j≠[]->s.2.2<Xm s j):=by
  unfold Xm;by_cases d:UQ j=[]
  ·rw [if_pos d];exact ⟨by omega,by omega,λh=>absurd d h⟩
  ·rw [if_neg d];have:=r d;exact ⟨by omega,by omega,λ_=>by omega⟩
 refine mf v F.lev (by omega) k.2.1 (λx L => ?_) (λm z A D C N => ?_)
 ·obtain ⟨i,hi⟩:=Z1.1 L;rw [Vy l] at hi
  have b : ∀ {y:TY},y∈(if i=n then [] else TG s.1.2 i)->y.1<Xm s j:=fun {y} o=>by
   by_cases a:i=n
   ·rw [if_pos a] at o;cases o
   ·rw [if_neg a] at o;have:=Yz (Z1.2 ⟨i,o⟩);have:=v.n3;omega
  split at hi
  ·rename_i hh;rcases List.mem_append.1 hi with hi | hi
   ·exact b hi
   ·rw [List.mem_singleton.1 hi];exact k.2.2 hh.1
  ·exact b hi
 ·have f:m≠n:=λe=>C (by rw [w,e]);have g:TG s.1.2 m=[z,A]:=Xg.1 D
  have p : ¬ (UQ j≠[]/\m=Xz s j):=λ⟨d,J⟩=>by
   have:=F.room d;rw [Wi,<- J,if_neg f,g] at this;simp at this
  have c:TG (Va s j).2 m=[z,A]:=by rw [Vy l,if_neg p,if_neg f,g]
  refine ⟨Xg.2 c,λM=>(mv F.lev.last (by rw [c];simp) λi hi => ?_).symm⟩;have a:TG s.1.2 i=[]:=by unfold TG;rw [List.getElem?_eq_none (by omega)];rfl
  have I:n<s.1.2.length:=by
   by_cases h:n<s.1.2.length
   ·exact h
   ·unfold TG at q;rw [List.getElem?_eq_none (by omega)] at q;exact absurd rfl q
  have K:Xz s j<=n+1:=by unfold Xz;rw [l];split<;>omega
  rw [Vy l,if_neg (by rintro ⟨_,h⟩;omega),a];split<;>rfl
theorem Job.steps {L:TB} {n:Nat} {j:Job} (f:JobAt L n j) (h:0<Tb L j):JobAt L n (j.1,YF L j):=by
 obtain ⟨a,b,c,k,d,rfl,o,g,l,m⟩:=f;have i:=Xg.1 d
 have e:Tb L ((n:Int),VC b.2 a.2 c k)=b.2.length+a.2.length-k:=by
  unfold Tb;simp only [Int.toNat_natCast,d];show b.2.length+a.2.length-((k:Int)).toNat=_;rw [Int.toNat_natCast]
 rw [e] at h;refine ⟨a,b,c,k+1,d,?_,by omega,g,l,m⟩;unfold YF;simp only [Int.toNat_natCast,i];have e1:(VC b.2 a.2 c k).2.1.2.2=c:=Zk _ _ _ _;have e2:(VC b.2 a.2 c k).2.2.2.toNat=k:=by show ((k:Int)).toNat=k;rw [Int.toNat_natCast]
 rw [e1,e2]
theorem iR {s:TA} (v:VSt s) {j:Job} {i n:Nat} (e:Yx j.1 0 (TI 0 s.1.2)=some i) (a:s.2.1[i]? = some j) (d:JobAt s.1 n j) (c:0<Tb s.1 j):VSt (ZB s j):=by
 unfold ZB;rw [e,Option.getD_some];refine ⟨v.lev,v.n1,v.n2,v.n3,?_,λx hx => ?_⟩
 ·show (s.2.1.set i (j.1,YF s.1 j)).map (·.1)=_;rw [<- v.due,List.map_set];refine List.ext_getElem? λk => ?_;rw [List.getElem?_set];by_cases b:i=k
  ·subst b;have hi:=(List.getElem?_eq_some_iff.1 a).1;rw [if_pos rfl,List.length_map,if_pos hi,List.getElem?_map,a];rfl
  ·rw [if_neg b]
 ·rcases List.mem_or_eq_of_mem_set hx with hx | hx
  ·exact v.job x hx
  ·rw [hx];exact ⟨n,Job.steps d c⟩
end
section
open Go Go.Proofs.YtfilfloanndddaaGreat.Sv
theorem nQ {B:Int} {M:List (List TY)} {f:(Int×List (List TY))->Option (LR (Int×List (List TY)) (Nat×((Int×List (List TY))×Unit)))} (a:f (B,[])=some (.dn (0,((B,[]),())))) (hs : ∀ k,k<M.length->f (B,M.take (k+1))=if TG M k=[] then some (.nx (B,M.take k)) else some (.dn (0,((B,M.take (k+1)),())))) : ∀ k,k<=M.length->IJ (k+1) f (B,M.take k)=some (0,((B,M.take (X3 M k)),()))
 | 0,_=>by rw [List.take_zero];exact Tp a
 | k+1,hk=>by
  have h:=hs k (by omega);unfold X3;by_cases b:TG M k=[]
  ·rw [if_pos b] at h ⊢;rw [Th h];exact nQ a hs k (by omega)
  ·rw [if_neg b] at h ⊢;exact Tp h
theorem mY {M:List (List TY)} {k:Nat} (h:k<M.length):M.take (k+1)=M.take k++[TG M k]:=by
 rw [List.take_add_one,V4 h];rfl
theorem bw {L:TB} (s:L.2.length<=1000) {n:Nat} (u:n<1000) {r:List TY} (l:r.length<=1048576) (o : ∀ i,(TG L.2 i).length<=1048576):Ug (L,((n:Int),r))=some (US L n r):=by
 have t:(Wg L.2 n r).length=max L.2.length (n+1):=by unfold Wg;rw [List.length_set,YO]
 unfold Ug;simp only [TH,TF];refine TZ (XZ (r:=(0,((((max L.2.length (n+1):Nat):Int),(L.1,Wg L.2 n r)),()))) (λk=>((k:Int),(L.1,(Wg L.2 n r).take k))) (max L.2.length (n+1)) (by simp) (by omega) (λk j => ?_) ?_) ?_
 ·have c:((Wg L.2 n r).take k).length=k:=by rw [List.length_take];omega
  simp only [c];rw [mY (by omega),bx,TJ (by omega),Sr];by_cases g:k<L.2.length
  ·rw [if_pos (by omega),So,if_neg (by omega),S9,Sb (V4 g),Sn];by_cases a:k=n
   ·rw [if_pos (by omega),if_pos a,UB l,UB (by simp only [BD,List.length_cons,List.length_nil];omega)];rfl
   ·rw [if_neg (by omega),if_neg a,UB (o k),UB (by simp only [BD,List.length_cons,List.length_nil];omega)];rfl
  ·rw [if_neg (by omega),Sq,if_pos (by omega),So,if_pos (by omega),Sn];by_cases a:k=n
   ·rw [if_pos (by omega),if_pos a,UB l,UB (by simp only [BD,List.length_cons,List.length_nil];omega)];rfl
   ·rw [if_neg (by omega),if_neg a,UB (by simp only [BD,List.length_cons,List.length_nil];omega)];have:TG L.2 k=[]:=by unfold TG;rw [List.getElem?_eq_none (by omega)];rfl
    rw [this];rfl
 ·have c:(Wg L.2 n r).take (max L.2.length (n+1))=Wg L.2 n r:=List.take_of_length_le (by omega);simp only;rw [Sr,if_neg (by omega),Sq,if_neg (by omega),c]
 ·have d:=nQ (B:=L.1) (M:=Wg L.2 n r) (f:=λb=>br (SU (b.2.length:Int) 0) (λ_=>RX (Rp .i64 (b.2.length:Int) 1) λp=>ix b.2 p λq=>br (RR (q.length:Int) 0) (λ_=>RX (Rp .i64 (b.2.length:Int) 1) λh=>gd (CD h b.2.length) λ_=>gd (CD 0 h) λ_=>some (.nx (b.1,Dy b.2 0 h))) λ_=>some (.dn ((0,(b,()))))) λ_=>some (.dn ((0,(b,()))))) rfl (λk j=>by
   have c:((Wg L.2 n r).take (k+1)).length=k+1:=by rw [List.length_take];omega
   have hi:Rp .i64 ((k+1:Nat):Int) 1=(k:Int):=by rw [SB (by omega)];omega
   have m:((Wg L.2 n r).take (k+1))[k]? = some (TG (Wg L.2 n r) k):=by rw [List.getElem?_take,if_pos (by omega),V4 j]
   simp only [c,hi];rw [Sp,if_pos (by omega),S9,Sb m,aq];by_cases e:TG (Wg L.2 n r) k=[]
   ·rw [if_pos e,if_pos e,S9,UB (by omega),UB (by omega)]
    have:Dy ((Wg L.2 n r).take (k+1)) 0 k=(Wg L.2 n r).take k:=by
     unfold Dy;rw [List.drop_zero,Nat.sub_zero,List.take_take];congr 1;omega
    rw [this]
   ·rw [if_neg e,if_neg e]) _ (Nat.le_refl _)
  rw [List.take_of_length_le (Nat.le_refl _)] at d;exact TZ (Ui (by omega) d) rfl
end
section
open Go Go.Proofs.YtfilfloanndddaaGreat.Sv
theorem fV {s:TA} (m:Sm s) (v:VSt s) {a:Int} {i:Nat} (h:Yx a 0 (TI 0 s.1.2)=some i) {j:Job} (e:s.2.1[i]? = some j) (t:0<Tb s.1 j):WN (s,(a,1))=some (ZB s j,(1,0)):=by
 obtain ⟨j',n,f,z,w,u,E⟩:=v.at h;rw [e] at f;cases f;subst z;have l:(TE s).2=0:=TL.2 v
 have o:Xp s (n:Int)=((i:Int),0):=by
  unfold Xp;rw [if_neg (show ¬ (TE s).2≠0 by simp [l]),h]
 have q:Wc (0:Int) (λs j=>((Tb s.1 j:Int),0)) s (n:Int)=((Tb s.1 j:Int),0):=by
  unfold Wc Zo;rw [if_neg (show ¬ (TE s).2≠0 by simp [l]),h];simp only [e]
 have x:=v.jsmall;have hi:=(List.getElem?_eq_some_iff.1 e).1;unfold WN;rw [pR m,SL,Sn,if_pos l,Sr,if_neg (show ¬ ((1:Int)<0) by omega),Ss,if_pos l,YY m,q,SL,Sn,if_pos rfl,Sn,if_neg (show ¬ ((Tb s.1 j:Int)=0) by omega),Ss,if_pos rfl,YP m,o,SL,S9,Sb e];obtain ⟨b,c,d,k,r,rfl,y,D,B,C⟩:=u;have A:TG s.1.2 n=[b,c]:=by unfold TG;rw [r];rfl
 have p:Tb s.1 ((n:Int),VC c.2 b.2 d k)=c.2.length+b.2.length-k:=by
  unfold Tb;simp only [Int.toNat_natCast,r];show c.2.length+b.2.length-((k:Int)).toNat=_;rw [Int.toNat_natCast]
 rw [p] at t;have g:=aB C B d y (k:=1);rw [show min 1 (c.2.length+b.2.length-k)=1 by omega] at g;show (bd (Ta (VC c.2 b.2 d k,((1:Nat):Int))) λF=>_)=_;rw [g,SL];simp only;rw [UB (by simp only [AS];omega),S9,SR,if_pos (by simp only [AS];exact hi),Sb e];unfold ZB YF;simp only [Int.toNat_natCast,A,h,Option.getD_some];have e1:(VC c.2 b.2 d k).2.1.2.2=d:=Zk _ _ _ _;have e2:(VC c.2 b.2 d k).2.2.2.toNat=k:=by show ((k:Int)).toNat=k;rw [Int.toNat_natCast]
 rw [e1,e2];rfl
theorem fT {L:TB} (v:VLev L) {n:Nat} (h:(TG L.2 n).length=2):UH (L,(n:Int))=some (WQ L n,0):=by
 have d:n<L.2.length:=by
  by_cases e:n<L.2.length
  ·exact e
  ·unfold TG at h;rw [List.getElem?_eq_none (by omega)] at h;cases h
 have i:=v.len;obtain ⟨f,g⟩:=v.small;unfold UH;simp only [TH,TF];rw [bB _ f g,W4 v,SL,Sn,if_pos rfl,Sr,if_neg (by omega),So,if_neg (by omega),Sn,if_pos rfl,So,if_neg (by omega),S9,Sb (V4 d),Sr,if_neg (by omega),Ss,if_pos rfl,aA v d,SL]
 obtain ⟨b,c,a⟩ : ∃ b c,TG L.2 n=[b,c]:=by
  match hq:TG L.2 n with
  | [b,c]=>exact ⟨b,c,rfl⟩
  | []=>rw [hq] at h;cases h
  | [_]=>rw [hq] at h;cases h
  | _::_::_::_=>rw [hq] at h;simp at h
 rw [aZ _ (by rw [V4 d,a]) (VR.vl' v (n:=n) (by rw [a];simp)) (VR.vl' v (n:=n) (by rw [a];simp)),SL];unfold WQ;rw [Int.toNat_natCast,a]
theorem bD (l:List S8) (c:l.length<=9223372036854775807):Ve (l,l)=some true:=by
 unfold Ve;simp only [TH,TF];refine TZ (XZ (r:=(1,(((l.length:Int),false),()))) (λk=>((k:Int),false)) l.length rfl (by omega) (λk a => ?_) (by simp only;rw [re];rfl)) ?_
 ·have b:l[k]? = some l[k]:=List.getElem?_eq_getElem a;simp only;rw [rl a,R5,R5,S9,Sb b,S9,Sb b,Zs,if_pos rfl,TJ (by omega)]
 ·rw [SM,if_neg (show ¬ (1=0) by omega)];unfold RR;simp
theorem cL (r:TY) (a:r.2.length<=9223372036854775807):Vv (r,r)=some true:=by
 unfold Vv;rw [Sn,if_pos rfl,bD _ a];rfl
theorem bE (l:List TY) (c:l.length<=1048576) (h : ∀ r∈l,r.2.length<=9223372036854775807):Vf (l,l)=some true:=by
 unfold Vf;simp only [TH,TF];rw [Ss,if_pos rfl];refine TZ (XZ (r:=(1,(((l.length:Int),false),()))) (λk=>((k:Int),false)) l.length rfl (by omega) (λk a => ?_) (by simp only;rw [re];rfl)) rfl;have b:l[k]? = some l[k]:=List.getElem?_eq_getElem a;simp only;rw [rl a,R5,S9,Sb b,S9,Sb b,cL _ (h _ (List.getElem_mem a)),SL,Yk,Rd,TJ (by omega)]
theorem cK (L:TB) (e:L.2.length<=1048576) (d : ∀ rs∈L.2,rs.length<=1048576 /\ ∀ r∈rs,r.2.length<=9223372036854775807):Wx (L,L)=some true:=by
 unfold Wx;simp only [TH,TF];rw [Ss,if_pos rfl,Ss,if_pos rfl];refine TZ (XZ (r:=(1,(((L.2.length:Int),false),()))) (λk=>((k:Int),false)) L.2.length rfl (by omega) (λk b => ?_) (by simp only;rw [re];rfl)) rfl;have c:L.2[k]? = some L.2[k]:=List.getElem?_eq_getElem b;have a:=d _ (List.getElem_mem b);simp only;rw [rl b,R5,S9,Sb c,S9,Sb c,bE _ a.1 a.2,SL,Yk,Rd,TJ (by omega)]
theorem cJ {L:TB} {n:Nat} {j:Job} (h:JobAt L n j):Vw (j,j)=some true:=by
 obtain ⟨l,m,a,k,_,rfl,b,_,g,i⟩:=h;obtain ⟨s1,s2,c,d,e,f⟩:=ZG i g a b;unfold Vw;rw [Sn,if_pos rfl,Z7 _ _ s1 s2 c d e f];simp [SL]
theorem aD {t:TA} (v:VSt t):VJ (t,t)=some true:=by
 have m:=v.sm;have d:=v.jsmall;unfold VJ;simp only [TH,TF];rw [cK _ m.lv m.rs,SL,Yk,Rd,Ss,if_pos rfl,Ss,if_pos rfl];refine TZ (XZ (r:=(1,(((t.2.1.length:Int),false),()))) (λk=>((k:Int),false)) t.2.1.length rfl (by omega) (λk a => ?_) (by simp only;rw [re];rfl)) rfl;have b:t.2.1[k]? = some t.2.1[k]:=List.getElem?_eq_getElem a;obtain ⟨n,c⟩:=v.job _ (List.getElem_mem a);simp only;rw [rl a,R5,S9,Sb b,S9,Sb b,cJ c,SL,Yk,Rd,TJ (by omega)]
end
section
open Go Go.Proofs.YtfilfloanndddaaGreat.Sv
abbrev gn:=(Int×((List (List S8))×((List Int)×((List TD)×((List Int)×(Int×(Bool×((List UInt8)×(Bool×((List S8)×Int))))))))))
def bW (j:Job):gn:=(j.1,(j.2.1.1,(j.2.1.2.1,(j.2.1.2.2.1,(j.2.1.2.2.2.1,(j.2.1.2.2.2.2,(j.2.2.1.1,(j.2.2.1.2.1,(j.2.2.1.2.2,(j.2.2.2.1,j.2.2.2.2))))))))))
theorem fG (p:List Job) (x:Job) (d:Int):UN (p++[x]) d=(UN p d).or (if x.1=d then some x else none):=by
 unfold UN;rw [List.find?_append]
 congr 1
 rw [List.find?_cons];unfold ap;rw [VZ];by_cases h:x.1=d
 ·rw [if_pos h,show decide (d=x.1)=true by simp [h]]
 ·rw [if_neg h,show decide (d=x.1)=false by simp;exact λe=>h e.symm];rfl
theorem gv {s:TA} (w:(s.2.1.map (·.1)).Nodup) (E:s.2.1.length<=1000) (L:TB) (a:Int) {D:List Int} {i:Nat} {d:Int} (hi:D[i]? = some d):(loop (λ(c:Int×gn)=>br (SW c.1 (s.2.1.length:Int)) (λ_=>RX c.1 λm=>ix s.2.1 m λr=>RX (i:Int) λn=>ix D n λt=>br (RR r.1 t) (λ_=>RX (i:Int) λo=>ix D o λu=>br (RT u a) (λ_=>RX c.1 λq=>ix s.2.1 q λb=>some (.nx ((Rl .i64 c.1 1,(b.1,(b.2.1.1,(b.2.1.2.1,(b.2.1.2.2.1,(b.2.1.2.2.2.1,(b.2.1.2.2.2.2,(b.2.2.1.1,(b.2.2.1.2.1,(b.2.2.1.2.2,b.2.2.2))))))))))))) λ_=>some (.nx (Rl .i64 c.1 1,c.2))) λ_=>some (.nx (Rl .i64 c.1 1,c.2))) λ_=>some (.dn (((0:Nat),(c,()))))) ((0:Int),bW (WQ L d)))=some (0,(((s.2.1.length:Int),bW (Wb s L a d)),())):=by
 refine VB (l:=s.2.1) (σ:=Job) (s:=((0:Int),bW (WQ L d))) (λk j=>((k:Int),bW j)) (λls k j => ∃ p,s.2.1=p++ls/\j=(if d=a then none else UN p d).getD (WQ L d)) (λ_ _ _=>(0,(((s.2.1.length:Int),bW (Wb s L a d)),()))) (WQ L d) rfl (by omega) ⟨[],rfl,by split<;>rfl⟩ (λj h => ?_) (λk x ls j C y z h => ?_)
 ·obtain ⟨p,e,rfl⟩:=h;rw [List.append_nil] at e;simp only;rw [re,Rd,<- e];rfl
 ·obtain ⟨p,e,rfl⟩:=h
  have B:x.1 ∉ p.map (·.1):=λA=>by
   rw [e,List.map_append,List.nodup_append] at w;exact w.2.2 _ A x.1 (by simp) rfl
  refine ⟨(if d=a then none else UN (p++[x]) d).getD (WQ L d),?_,⟨p++[x],by rw [e];simp,rfl⟩,rfl⟩
  simp only;rw [rl z,R5,S9,Sb y,S9,Sb hi,Sn,TJ (by omega),fG];by_cases f:x.1=d
  ·rw [if_pos f,S9,Sb hi,Ss,S9,Sb y,if_pos f];by_cases g:d=a
   ·rw [if_pos g,if_pos g,if_pos g]
   ·rw [if_neg g,if_neg g,X6 (by rw [<- f];exact B)];rfl
  ·rw [if_neg f,if_neg f];have:(UN p d).or none=UN p d:=by cases UN p d<;>rfl
   rw [this]
theorem Zr {s:TA} (B:(s.2.1.map (·.1)).Nodup) (D:s.2.1.length<=1000) {L:TB} (v:VLev L) (next b:Int):loop (λ(g:(Int×(Int×((List (List TY))×((List Job)×Int)))))=>br (SW g.1 ((TI 0 L.2).length:Int)) (λ_=>RX g.1 λm=>ix (TI 0 L.2) m λt=>bd (UH (((g.2.1,g.2.2.1),t))) λc=>bd (loop (λ(f:Int×gn)=>br (SW f.1 (s.2.1.length:Int)) (λ_=>RX f.1 λo=>ix s.2.1 o λu=>RX g.1 λp=>ix (TI 0 L.2) p λw=>br (RR u.1 w) (λ_=>RX g.1 λq=>ix (TI 0 L.2) q λx=>br (RT x b) (λ_=>RX f.1 λr=>ix s.2.1 r λe=>some (.nx ((Rl .i64 f.1 1,(e.1,(e.2.1.1,(e.2.1.2.1,(e.2.1.2.2.1,(e.2.1.2.2.2.1,(e.2.1.2.2.2.2,(e.2.2.1.1,(e.2.2.1.2.1,(e.2.2.1.2.2,e.2.2.2))))))))))))) λ_=>some (.nx (Rl .i64 f.1 1,f.2))) λ_=>some (.nx (Rl .i64 f.1 1,f.2))) λ_=>some (.dn (((0:Nat),(f,()))))) (((0:Int),(c.1.1,(c.1.2.1.1,(c.1.2.1.2.1,(c.1.2.1.2.2.1,(c.1.2.1.2.2.2.1,(c.1.2.1.2.2.2.2,(c.1.2.2.1.1,(c.1.2.2.1.2.1,(c.1.2.2.1.2.2,c.1.2.2.2)))))))))))) λa=>gd (CD (BD g.2.2.2.1.length [((a.2.1.2.1,((a.2.1.2.2.1,(a.2.1.2.2.2.1,(a.2.1.2.2.2.2.1,(a.2.1.2.2.2.2.2.1,a.2.1.2.2.2.2.2.2.1)))),((a.2.1.2.2.2.2.2.2.2.1,(a.2.1.2.2.2.2.2.2.2.2.1,a.2.1.2.2.2.2.2.2.2.2.2.1)),a.2.1.2.2.2.2.2.2.2.2.2.2))):Job)].length) 1048576) λ_=>some (.nx ((Rl .i64 g.1 1,(g.2.1,(g.2.2.1,(Ik g.2.2.2.1 ([(a.2.1.2.1,((a.2.1.2.2.1,(a.2.1.2.2.2.1,(a.2.1.2.2.2.2.1,(a.2.1.2.2.2.2.2.1,a.2.1.2.2.2.2.2.2.1)))),((a.2.1.2.2.2.2.2.2.2.1,(a.2.1.2.2.2.2.2.2.2.2.1,a.2.1.2.2.2.2.2.2.2.2.2.1)),a.2.1.2.2.2.2.2.2.2.2.2.2)))]),g.2.2.2.2))))))) λ_=>some (.dn (((0:Nat),(g,()))))) (((0:Int),(L.1,(L.2,(([]:List Job),next)))))=some (0,((((TI 0 L.2).length:Int),(L.1,(L.2,((TI 0 L.2).map (Wb s L b),next)))),())):=by
 have I:=v.len;have F:=Vc L.2 0;refine VB (l:=TI 0 L.2) (σ:=List Job) (λi js=>((i:Int),(L.1,(L.2,(js,next))))) (λls i js=>js++ls.map (Wb s L b)=(TI 0 L.2).map (Wb s L b)) (λ_ _ _=>(0,((((TI 0 L.2).length:Int),(L.1,(L.2,((TI 0 L.2).map (Wb s L b),next)))),()))) [] rfl (by omega) rfl (λjs h => ?_) (λi d ls js A hi C h => ?_)
 ·simp only;rw [re,Rd,<- h];simp
 ·refine ⟨js++[Wb s L b d],?_,by rw [<- h];simp,rfl⟩;obtain ⟨n,J,K,k,E⟩:=az (List.mem_of_getElem? hi);have y:=fT v (n:=n) (by rw [Xg.1 E];rfl);rw [<- k] at y
  have G:js.length<=1000:=by
   have z:=congrArg List.length h;rw [List.length_append,List.length_map,List.length_map] at z;omega
  simp only;rw [rl C,R5,S9,Sb hi];have j:UH ((L.1,L.2),d)=some (WQ L d,0):=y;rw [j,SL];refine TZ (gv B D L b hi) ?_;rw [UB (by simp only [BD,List.length_cons,List.length_nil];omega),TJ (by omega)];rfl
end
section
open Go Go.Proofs.YtfilfloanndddaaGreat.Sv
theorem Y8 {α β σ S:Type} {l:List α} (c:Nat) (n:c<=1000) (mk:Nat->σ->S) (I:Nat->σ->Prop) (Q:β->Prop) {f:S->Option (LR S β)} {s:S} (a:σ) (i:s=mk 0 a) (hi:I 0 a)
  (p : ∀ k a,(k=l.length\/k=c)->k<=l.length->I k a -> ∃ r,f (mk k a)=some (.dn r)/\Q r)
  (hc : ∀ k x a,l[k]? = some x->k<c->I k a->(∃ b,f (mk k a)=some (.nx (mk (k+1) b))/\I (k+1) b) \/ ∃ r,f (mk k a)=some (.dn r)/\Q r) : ∃ r,loop f s=some r/\Q r:=by
 refine We (l:=l.take c) mk (λ_ k a=>I k a/\k<=(l.take c).length) Q a i (by simp;omega) ⟨hi,by omega⟩ (λa h=>p _ a (by simp;omega) (by simp;omega) h.1) (λk x m a q e o h => ?_);have d:k<c:=by simp at o;omega
 have g:l[k]? = some x:=by rw [List.getElem?_take] at e;rw [if_pos d] at e;exact e
 rcases hc k x a g d h.1 with ⟨b,h1,j⟩ | h1
 ·exact .inl ⟨b,h1,j,by omega⟩
 ·exact .inr h1
theorem eQ {k c:Nat} (h:k<c):SW (k:Int) (c:Int)=true:=by unfold SW;simp;omega
theorem ml {α β:Type} {l:List α} {k c:Nat} (h:k=l.length\/k=c) (b:k<=l.length) (A B C:Option β) (e:B=C):br (SW (k:Int) (l.length:Int)) (λ_=>br (SW (k:Int) (c:Int)) (λ_=>A) λ_=>B) (λ_=>C)=C:=by
 rw [Sr];by_cases a:(k:Int)<(l.length:Int)
 ·rw [if_pos a,Sr,if_neg (by omega),e]
 ·rw [if_neg a]
end
section
open Go Go.Proofs.YtfilfloanndddaaGreat.Sv
end
section
open Go Go.Proofs.YtfilfloanndddaaGreat.Sv
theorem iX (L:TB) (n:Nat):Vn (L,(n:Int))=some (TG L.2 n):=by
 unfold Vn;simp only [TH,TF];rw [So];by_cases h:n<L.2.length
 ·rw [if_neg (by omega),S9,Sb (V4 h)]
 ·rw [if_pos (by omega)];unfold TG;rw [List.getElem?_eq_none (by omega)];rfl
theorem Z9 {s:TA} (v:VSt s) (hf:gm s.1) {n:Nat} {j:Job} (ha:JobAt s.1 n j) (h0 : ¬ 0<Tb s.1 j) (hc:Vq s.1 j=true) (h5:UQ j≠[]->s.2.2<=1000000) {X:Int} (D:X=(Xz s j:Int)) :
  (bd (Ug ((s.1,((n:Int),[])))) λp=>br (SU (Kb (AS j.2.2.2.1)) 0) (λ_=>bd (Vn (p,X)) λw=>gd (CD (AS w) 1048576) λ_=>gd (CD (BD (AS w) (AS ([(s.2.2,j.2.2.2.1)]))) 1048576) λ_=>bd (Ug ((p,(X,Ik w ([(s.2.2,j.2.2.2.1)]))))) λy=>bd (UE y) λq=>bd (loop (λ(c:(Int×(Int×((List (List TY))×((List (Int×(TC×((Bool×TD)×((List S8)×Int)))))×Int)))))=>br (SW c.1 (Kb (AS q))) (λ_=>RX c.1 λE=>ix q E λY=>bd (UH (((c.2.1,c.2.2.1),Y))) λe=>bd (loop (λ(l:(Int×(Int×((List (List S8))×((List Int)×((List TD)×((List Int)×(Int×(Bool×((List UInt8)×(Bool×((List S8)×Int))))))))))))=>br (SW l.1 (Kb (AS s.2.1))) (λ_=>RX l.1 λG=>ix s.2.1 G λZ=>RX c.1 λI=>ix q I λx52=>br (RR Z.1 x52) (λ_=>RX c.1 λJ=>ix q J λx54=>br (RT x54 (n:Int)) (λ_=>RX l.1 λK=>ix s.2.1 K λg=>some (.nx ((Rl .i64 l.1 1,(g.1,(g.2.1.1,(g.2.1.2.1,(g.2.1.2.2.1,(g.2.1.2.2.2.1,(g.2.1.2.2.2.2,(g.2.2.1.1,(g.2.2.1.2.1,(g.2.2.1.2.2,g.2.2.2))))))))))))) λ_=>some (.nx (Rl .i64 l.1 1,l.2))) λ_=>some (.nx (Rl .i64 l.1 1,l.2))) λ_=>some (.dn ((0,(l,()))))) ((0,(e.1.1,(e.1.2.1.1,(e.1.2.1.2.1,(e.1.2.1.2.2.1,(e.1.2.1.2.2.2.1,(e.1.2.1.2.2.2.2,(e.1.2.2.1.1,(e.1.2.2.1.2.1,(e.1.2.2.1.2.2,e.1.2.2.2)))))))))))) λa=>gd (CD (BD (AS c.2.2.2.1) (AS ([(a.2.1.2.1,((a.2.1.2.2.1,(a.2.1.2.2.2.1,(a.2.1.2.2.2.2.1,(a.2.1.2.2.2.2.2.1,a.2.1.2.2.2.2.2.2.1)))),((a.2.1.2.2.2.2.2.2.2.1,(a.2.1.2.2.2.2.2.2.2.2.1,a.2.1.2.2.2.2.2.2.2.2.2.1)),a.2.1.2.2.2.2.2.2.2.2.2.2)))]))) 1048576) λ_=>some (.nx ((Rl .i64 c.1 1,(c.2.1,(c.2.2.1,(Ik c.2.2.2.1 ([(a.2.1.2.1,((a.2.1.2.2.1,(a.2.1.2.2.2.1,(a.2.1.2.2.2.2.1,(a.2.1.2.2.2.2.2.1,a.2.1.2.2.2.2.2.2.1)))),((a.2.1.2.2.2.2.2.2.2.1,(a.2.1.2.2.2.2.2.2.2.2.1,a.2.1.2.2.2.2.2.2.2.2.2.1)),a.2.1.2.2.2.2.2.2.2.2.2.2)))]),c.2.2.2.2))))))) λ_=>some (.dn ((0,(c,()))))) ((0,(y.1,(y.2,([],Rl .i64 s.2.2 1)))))) λz=>some ((((z.2.1.2.1,z.2.1.2.2.1),z.2.1.2.2.2),0))) λ_=>bd (UE p) λt=>bd (loop (λ(d:(Int×(Int×((List (List TY))×((List (Int×(TC×((Bool×TD)×((List S8)×Int)))))×Int)))))=>br (SW d.1 (Kb (AS t))) (λ_=>RX d.1 λN=>ix t N λx62=>bd (UH (((d.2.1,d.2.2.1),x62))) λf=>bd (loop (λ(m:(Int×(Int×((List (List S8))×((List Int)×((List TD)×((List Int)×(Int×(Bool×((List UInt8)×(Bool×((List S8)×Int))))))))))))=>br (SW m.1 (Kb (AS s.2.1))) (λ_=>RX m.1 λO=>ix s.2.1 O λx66=>RX d.1 λP=>ix t P λx68=>br (RR x66.1 x68) (λ_=>RX d.1 λS=>ix t S λx70=>br (RT x70 (n:Int)) (λ_=>RX m.1 λU=>ix s.2.1 U λk=>some (.nx ((Rl .i64 m.1 1,(k.1,(k.2.1.1,(k.2.1.2.1,(k.2.1.2.2.1,(k.2.1.2.2.2.1,(k.2.1.2.2.2.2,(k.2.2.1.1,(k.2.2.1.2.1,(k.2.2.1.2.2,k.2.2.2))))))))))))) λ_=>some (.nx (Rl .i64 m.1 1,m.2))) λ_=>some (.nx (Rl .i64 m.1 1,m.2))) λ_=>some (.dn ((0,(m,()))))) ((0,(f.1.1,(f.1.2.1.1,(f.1.2.1.2.1,(f.1.2.1.2.2.1,(f.1.2.1.2.2.2.1,(f.1.2.1.2.2.2.2,(f.1.2.2.1.1,(f.1.2.2.1.2.1,(f.1.2.2.1.2.2,f.1.2.2.2)))))))))))) λb=>gd (CD (BD (AS d.2.2.2.1) (AS ([(b.2.1.2.1,((b.2.1.2.2.1,(b.2.1.2.2.2.1,(b.2.1.2.2.2.2.1,(b.2.1.2.2.2.2.2.1,b.2.1.2.2.2.2.2.2.1)))),((b.2.1.2.2.2.2.2.2.2.1,(b.2.1.2.2.2.2.2.2.2.2.1,b.2.1.2.2.2.2.2.2.2.2.2.1)),b.2.1.2.2.2.2.2.2.2.2.2.2)))]))) 1048576) λ_=>some (.nx ((Rl .i64 d.1 1,(d.2.1,(d.2.2.1,(Ik d.2.2.2.1 ([(b.2.1.2.1,((b.2.1.2.2.1,(b.2.1.2.2.2.1,(b.2.1.2.2.2.2.1,(b.2.1.2.2.2.2.2.1,b.2.1.2.2.2.2.2.2.1)))),((b.2.1.2.2.2.2.2.2.2.1,(b.2.1.2.2.2.2.2.2.2.2.1,b.2.1.2.2.2.2.2.2.2.2.2.1)),b.2.1.2.2.2.2.2.2.2.2.2.2)))]),d.2.2.2.2))))))) λ_=>some (.dn ((0,(d,()))))) ((0,(p.1,(p.2,([],s.2.2)))))) λA=>some ((((A.2.1.2.1,A.2.1.2.2.1),A.2.1.2.2.2),0)):Option (TA×Int))=some (YS s (Va s j) (Xm s j) j.1,0):=by
 have F:=eR v hf ha h0 hc h5;obtain ⟨o1,o2,W,o4,o5⟩:=ha.out v.lev (hf n);have hj:j.1.toNat=n:=by rw [W];simp
 have hn2:=v.n2;have hn1:=v.n1;have hjs:=v.jsmall;have o:=F.lev;have hl:=v.lev.len;have hl1:=F.l1.len;have small : ∀ {M:TB},VLev M -> ∀ i,(TG M.2 i).length<=1048576:=λvM i=>by have:=(vM.own i).1;omega
 rw [bw (by omega) (by omega) (by simp) (small v.lev),SL];simp only [TH,TF];rw [Sp];by_cases u:UQ j=[]
 ·rw [if_neg (show ¬ ((j.2.2.2.1.length:Int)>0) by rw [show j.2.2.2.1=[] from u];simp)];have B:Va s j=US s.1 n []:=by unfold Va;rw [if_pos u,hj]
  have C:Xm s j=s.2.2:=by unfold Xm;rw [if_pos u]
  rw [<- B,Zh (by have:=o.len;omega),SL];refine TZ (Zr v.nodup (by omega) o s.2.2 (n:Int)) ?_;rw [C,W];rfl
 ·rw [if_pos (show ((j.2.2.2.1.length:Int)>0) by have:=List.length_pos_iff.2 u;have h:(UQ j).length=j.2.2.2.1.length:=rfl;omega),D,iX,SL];have hro:=F.room u;have ht:=F.to12 u
  have B:Va s j=US (US s.1 n []) (Xz s j) (TG (US s.1 n []).2 (Xz s j)++[(s.2.2,UQ j)]):=by
   unfold Va;rw [if_neg u,hj]
  have C:Xm s j=s.2.2+1:=by unfold Xm;rw [if_neg u]
  rw [UB (by omega),UB (by simp only [BD,List.length_cons,List.length_nil];omega)];have hW:=bw (L:=US s.1 n []) (n:=Xz s j) (r:=TG (US s.1 n []).2 (Xz s j)++[(s.2.2,UQ j)]) (by omega) (by omega) (by simp;omega) (small F.l1);rw [<- B] at hW;refine TZ (x:=Va s j) hW ?_;rw [Zh (by have:=o.len;omega),SL,R9 (by omega)];refine TZ (Zr v.nodup (by omega) o (s.2.2+1) (n:Int)) ?_;rw [C,W];rfl
theorem bu {s:TA} (m:Sm s) (l:gm s.1) (a:Int):VF (s,a)=some (Wc zS Yc s a):=by
 unfold VF;rw [cq m,SL,YP m,Zg m];unfold Wc;by_cases b:(TE s).2=0;rotate_left
 ·rw [if_pos b,Ss,if_neg b,if_pos b];rfl
 rw [if_neg (show ¬ (TE s).2≠0 by simp [b]),if_neg (show ¬ (TE s).2≠0 by simp [b]),if_neg (show ¬ (TE s).2≠0 by simp [b])];have v:=TL.1 b;unfold Zo Xp;rw [if_neg (show ¬ (TE s).2≠0 by simp [b])];cases q:Yx a 0 (TI 0 s.1.2) with
 | none=>rfl
 | some i =>
  obtain ⟨j,n,o,p,f,k,r⟩:=v.at q;have:=v.lev.len;subst p;simp only [o];unfold Yc ZE;by_cases c:0<Tb s.1 j
  ·rw [if_pos c,if_pos (.inl c)];rfl
  rw [if_neg c]
  have g:(if Vp s.1 j=true then (j.1,(0:Int)) else (j.1+1,0))=((Xz s j:Int),0):=by
   unfold Xz;split<;>rw [f]<;>simp
  rw [g,Ss,if_pos rfl,SL,S9,Sb o,SL,Tq,Sx];by_cases hc:Vq s.1 j=true;rotate_left
  ·rw [if_neg hc,if_pos (.inr (by simpa using hc))];rfl
  rw [if_pos hc,if_neg (show ¬ (0<Tb s.1 j\/Vq s.1 j=false) by rw [hc];simp;omega),Sp];by_cases e:s.2.2>1000000
  ·rw [if_pos e,Sp];by_cases d:UQ j=[]
   ·rw [if_neg (show ¬ (Kb (AS j.2.2.2.1)>0) by rw [show j.2.2.2.1=[] from d];simp [TH,TF]),if_neg (by simp [d])];dsimp only;exact Z9 v l k c hc (λh=>absurd d h) rfl
   ·rw [if_pos (show Kb (AS j.2.2.2.1)>0 by have:=List.length_pos_iff.2 d;have h:(UQ j).length=j.2.2.2.1.length:=rfl;rw [TH,TF];omega),if_pos ⟨e,d⟩];rfl
  ·rw [if_neg e,if_neg (by simp [e])];dsimp only;exact Z9 v l k c hc (λh=>by omega) rfl
theorem fS {s:TA} (m:Sm s) (f:gm s.1) (a:Int):Uy (s,a)=some (Uw s a):=by
 unfold Uy;rw [Zg m,SL,YY m,bu m f];unfold Wc Uw;by_cases b:(TE s).2=0;rotate_left
 ·rw [if_pos b,if_pos b,Sn,if_neg b];rw [Ss,if_neg b,if_pos b];rfl
 rw [if_neg (show ¬ (TE s).2≠0 by simp [b]),if_neg (show ¬ (TE s).2≠0 by simp [b]),if_neg (show ¬ (TE s).2≠0 by simp [b]),if_neg (show ¬ (TE s).2≠0 by simp [b])];have v:=TL.1 b;unfold Zo;cases e:Yx a 0 (TI 0 s.1.2) with
 | none =>
  simp only;rw [Sn,if_neg (by omega),Ss,if_neg (by omega)];rfl
 | some i =>
  obtain ⟨j,n,d,k,g,h,l⟩:=v.at e;simp only [d];unfold Xi;rw [Sn,if_pos rfl,Tq,Sx];by_cases hc:Vq s.1 j=true;rotate_left
  ·rw [if_neg hc,if_pos (by simpa using hc)];rfl
  rw [if_pos hc,if_neg (by simp [hc]),Ss,if_pos rfl,SL,Sp];by_cases c:0<Tb s.1 j
  ·rw [if_pos (show ((Tb s.1 j:Int))>0 by omega),if_pos c,fV m v e d c];rfl
  ·rw [if_neg (show ¬ ((Tb s.1 j:Int))>0 by omega),if_neg c];rfl
end
section
open Go Go.Proofs.YtfilfloanndddaaGreat.Sv
def UF (l:List S8) (k:XL):Option S8:=l.find? λx=>decide (x.1=k)
theorem UK (x:S8) (l:List S8) (k:XL):UF (x::l) k=if x.1=k then some x else UF l k:=by
 unfold UF;rw [List.find?_cons];by_cases h:x.1=k<;>simp [h]
theorem Yy (l m:List S8) (k:XL):UF (l++m) k=(UF l k).or (UF m k):=by
 unfold UF;rw [List.find?_append]
theorem Xs (x:S8) (k:XL):UF [x] k=if x.1=k then some x else none:=by rw [UK];rfl
theorem bX {l:List S8} {k:XL} {x:S8} (h:UF l k=some x):x.1=k/\x∈l:=by
 unfold UF at h;exact ⟨by simpa using List.find?_some h,List.mem_of_find?_eq_some h⟩
theorem Xr {l:List S8} {k:XL} (h : ∀ x∈l,x.1≠k):UF l k=none:=by
 unfold UF;rw [List.find?_eq_none];intro x a;simpa using h x a
theorem Yi : ∀ {l:List S8} {q:XL},Asc (some q) l -> ∀ x∈l,Rz q x.1=true
 | x::l,q,⟨a,b⟩,y,hy=>by
  rcases List.mem_cons.1 hy with e | hy
  ·rw [e];exact a q rfl
  ·exact WP (a q rfl) (Yi b y hy)
theorem eE : ∀ {l m:List S8} {p q:Option XL},Asc p l->Asc q m->(∀ k,UF l k=UF m k)->l=m
 | [],[],_,_,_,_,_=>rfl
 | [],y::m,_,_,_,_,h=>by
  have:=h y.1;rw [UK,if_pos rfl] at this;cases this
 | x::l,[],_,_,_,_,h=>by
  have:=h x.1;rw [UK,if_pos rfl] at this;cases this
 | x::l,y::m,p,q,⟨t,f⟩,⟨s,d⟩,h=>by
  have e1:=h x.1;have e2:=h y.1;rw [UK,if_pos rfl,UK] at e1;rw [UK,UK,if_pos rfl] at e2
  have g:x.1=y.1:=by
   by_cases b:y.1=x.1
   ·exact b.symm
   ·rw [if_neg b] at e1;rw [if_neg (λe=>b e.symm)] at e2;have n:=Yi d x (bX e1.symm).2;have j:=Yi f y (bX e2).2;rw [Uv n] at j;cases j
  rw [if_pos g.symm] at e1;have c:x=y:=Option.some.inj e1;subst c;refine congrArg (x::·) (eE f d λk => ?_);have b:=h k;rw [UK,UK] at b;by_cases a:x.1=k
  ·have o:UF l k=none:=Xr λz i=>by
    have:=Yi f z i;rw [a] at this;exact λe=>YQ this e.symm
   have r:UF m k=none:=Xr λz i=>by
    have:=Yi d z i;rw [a] at this;exact λe=>YQ this e.symm
   rw [o,r]
  ·rw [if_neg a,if_neg a] at b;exact b
theorem Yh (P:S8->Bool) : ∀ {l:List S8} {p:Option XL},Asc p l->Asc p (l.filter P)
 | [],_,_=>trivial
 | x::l,p,⟨b,d⟩=>by
  have c:=Yh P d;rw [List.filter_cons];cases P x with
  | true=>exact ⟨b,c⟩
  | false =>
   refine c.weak λe a=>⟨x.1,rfl,?_⟩;exact Uv (b e a)
theorem YK (P:S8->Bool) (k:XL) : ∀ {l:List S8} {p:Option XL},Asc p l->UF (l.filter P) k=(UF l k).filter P
 | [],_,_=>rfl
 | x::l,p,⟨h,c⟩=>by
  have d:=YK P k c;rw [List.filter_cons,UK];by_cases a:x.1=k
  ·rw [if_pos a]
   have f:UF (l.filter P) k=none:=Xr λz g=>by
    have:=Yi c z (List.mem_filter.1 g).1;rw [a] at this;exact λe=>YQ this e.symm
   cases b:P x with
   | true=>rw [if_pos rfl,UK,if_pos a];simp [Option.filter,b]
   | false=>rw [if_neg (by simp),f];simp [Option.filter,b]
  ·rw [if_neg a];cases b:P x with
   | true=>rw [if_pos rfl,UK,if_neg a];exact d
   | false=>simpa using d
def Za:List S8->S8->List S8
 | [],x=>[x]
 | y::l,x=>if Rz y.1 x.1=true then y::Za l x else if y.1=x.1 then y::l else x::y::l
theorem bH (x:S8) : ∀ {l:List S8} {p:Option XL},Asc p l->(∀ q,p=some q->Rz q x.1=true)->Asc p (Za l x)
 | [],p,_,hp=>⟨hp,trivial⟩
 | y::l,p,⟨d,a⟩,hp=>by
  unfold Za;by_cases h:Rz y.1 x.1=true
  ·rw [if_pos h];exact ⟨d,bH x a λq c=>by cases c;exact h⟩
  ·rw [if_neg h];by_cases b:y.1=x.1
   ·rw [if_pos b];exact ⟨d,a⟩
   ·rw [if_neg b];exact ⟨hp,λq c=>by cases c;exact Ys (by simpa using h) b,a⟩
theorem bI (x:S8) (k:XL) : ∀ {l:List S8} {p:Option XL},Asc p l->UF (Za l x) k=(UF l k).or (if x.1=k then some x else none)
 | [],_,_=>by unfold Za;rw [Xs];rfl
 | y::l,p,⟨f,d⟩=>by
  unfold Za;by_cases h:Rz y.1 x.1=true
  ·rw [if_pos h,UK,UK,bI x k d];split<;>rfl
  ·rw [if_neg h];by_cases b:y.1=x.1
   ·rw [if_pos b,UK,<- b];by_cases a:y.1=k
    ·rw [if_pos a];rfl
    ·rw [if_neg a,if_neg a];cases UF l k<;>rfl
   ·rw [if_neg b,UK];have c:Rz x.1 y.1=true:=Ys (by simpa using h) b;by_cases a:x.1=k
    ·rw [if_pos a]
     have:UF (y::l) k=none:=Xr λz hz=>by
      rw [<- a];rcases List.mem_cons.1 hz with e | hz
      ·rw [e];exact b
      ·exact λe=>YQ (WP c (Yi d z hz)) e.symm
     rw [this,if_pos a];rfl
    ·rw [if_neg a,if_neg a];cases UF (y::l) k<;>rfl
theorem eC (k:XL) : ∀ (r l:List S8),Asc none l->Asc none (r.foldl Za l)/\UF (r.foldl Za l) k=(UF l k).or (UF r k)
 | [],l,h=>⟨h,by show UF l k=_;cases UF l k<;>rfl⟩
 | x::r,l,h=>by
  obtain ⟨a,b⟩:=eC k r (Za l x) (bH x h λ_ h=>by cases h);refine ⟨a,?_⟩;rw [List.foldl_cons,b,bI x k h,UK,Option.or_assoc]
  congr 1
  split<;>rfl
def ez (rs:List TY) (l:List S8):List S8:=rs.foldl (λout r=>r.2.foldl Za out) l
def VA:List TY->XL->Option S8
 | [],_=>none
 | r::rs,k=>(UF r.2 k).or (VA rs k)
theorem ah (k:XL) : ∀ (rs:List TY) (l:List S8),Asc none l->Asc none (ez rs l)/\UF (ez rs l) k=(UF l k).or (VA rs k)
 | [],l,h=>⟨h,by show UF l k=_;cases UF l k<;>rfl⟩
 | r::rs,l,h=>by
  obtain ⟨a,b⟩:=eC k r.2 l h;obtain ⟨c,d⟩:=ah k rs (r.2.foldl Za l) a;refine ⟨c,?_⟩;show UF (ez rs (r.2.foldl Za l)) k=_;rw [d,b,Option.or_assoc];rfl
def XJ (x:S8):Bool := !x.2.2.1
def K7 (L:TB):List S8:=(ez (Uj L.2) []).filter XJ
theorem iB {L M:TB} (h : ∀ k,(VA (Uj L.2) k).filter XJ=(VA (Uj M.2) k).filter XJ):K7 L=K7 M:=by
 have a:=λk=>ah k (Uj L.2) [] trivial;have b:=λk=>ah k (Uj M.2) [] trivial;refine eE (Yh XJ (a []).1) (Yh XJ (b []).1) λk => ?_;show UF ((ez (Uj L.2) []).filter XJ) k=UF ((ez (Uj M.2) []).filter XJ) k;rw [YK XJ k (a []).1,YK XJ k (b []).1,(a k).2,(b k).2];exact h k
theorem bf : ∀ (a b:List TY) (k:XL),VA (a++b) k=(VA a k).or (VA b k)
 | [],b,k=>rfl
 | r::a,b,k=>by
  show (UF r.2 k).or (VA (a++b) k)=((UF r.2 k).or (VA a k)).or (VA b k);rw [bf a b k,Option.or_assoc]
theorem ec : ∀ {l:List S8} {s:UI} {k:XL},ZF s l->s.1=true->Rz k s.2.1=true->UF l k=none
 | [],_,_,_,_,_=>rfl
 | x::l,s,k,⟨_,c,d⟩,b,hk=>by
  have a:Rz k x.1=true:=cQ hk (c b);rw [UK,if_neg (λe=>YQ a e.symm)];exact ec d rfl a
theorem bU (k:XL) : ∀ {l:List S8} {s:UI},ZF s l->UF (V5 s l) k=if s.1=true/\s.2.1=k then none else (UF l k).filter λx => !(s.2.2&&x.2.2.1)
 | [],s,_=>by unfold V5;split<;>rfl
 | x::l,s,⟨_,g,c⟩=>by
  have f:=bU k c;simp only [true_and] at f;unfold V5;rw [Yy,f,UK];by_cases a:x.1=k
  ·rw [if_pos a,if_pos a];by_cases hs:s.1=true/\s.2.1=k
   ·rw [if_pos hs];have:keep s x=false:=by unfold keep;rw [hs.1,hs.2,a];simp
    rw [this];rfl
   ·rw [if_neg hs]
    have:keep s x = !(s.2.2&&x.2.2.1):=by
     unfold keep
     have:(s.1&&decide (x.1=s.2.1))=false:=by
      cases b:s.1 with
      | false=>rfl
      | true =>
       simp only [Bool.true_and,decide_eq_false_iff_not];intro e;exact hs ⟨b,by rw [<- e];exact a⟩
     rw [this];rfl
    rw [this];cases d:(!(s.2.2&&x.2.2.1)) with
    | true=>rw [if_pos rfl,Xs,if_pos a];simp [Option.filter,d]
    | false=>rw [if_neg (by simp)];simp [Option.filter,d,UF]
  ·rw [if_neg a,if_neg a]
   have b:UF (if keep s x=true then [x] else []) k=none:=by
    split
    ·rw [Xs,if_neg a]
    ·rfl
   rw [b,Option.none_or];by_cases hs:s.1=true/\s.2.1=k
   ·rw [if_pos hs]
    have h:Rz k x.1=true:=by
     rw [<- hs.2];refine Ys (g hs.1) λe=>a ?_;rw [e];exact hs.2
    rw [ec c rfl h];rfl
   ·rw [if_neg hs]
theorem Z3 {a b:List S8} (va:VL a) (l:VL b) (k:XL) : ∀ {n:Nat},n<=a.length+b.length->UF (TU a b n) k=(UF (a.take (TN a b n).1) k).or (UF (b.take (TN a b n).2) k)
 | 0,_=>rfl
 | n+1,h=>by
  have G:=Z3 va l k (n:=n) (by omega);obtain ⟨q,hs⟩:=WH va l (n:=n) (by omega);obtain ⟨x,c,_⟩:=Vi va l (n:=n) (by omega);rw [Wf va l c,Yy,G,Xs];unfold ZY at c;rw [show TN a b (n+1)=if XT a b (TN a b n).1 (TN a b n).2=true then ((TN a b n).1+1,(TN a b n).2) else ((TN a b n).1,(TN a b n).2+1) from rfl]
  revert c q;generalize (TN a b n).1=i;generalize (TN a b n).2=j;intro q c;cases g:XT a b i j with
  | true =>
   rw [if_pos g] at c;rw [if_pos rfl];simp only;rw [List.take_add_one,c,Option.toList_some,Yy,Xs,Option.or_assoc,Option.or_assoc]
   congr 1
   by_cases r:x.1=k
   ·rw [if_pos r]
    have:UF (b.take j) k=none:=Xr λy F=>by
     obtain ⟨m,o⟩:=List.getElem?_of_mem F;rw [List.getElem?_take] at o;split at o
     ·rename_i E;have D:=q.jb;have f:b[j-1]? = some b[j-1]:=List.getElem?_eq_getElem (by omega);have B:=q.pb (j-1) (by omega) _ x f c
      have C:Rz b[j-1].1 y.1=false:=by
       by_cases s:m=j-1
       ·subst s;rw [f] at o;cases o;exact XE _
       ·have A:=l.asc
        have : ∀ d,m+d+1<=j-1 -> ∀ z,b[m+d+1]? = some z->Rz y.1 z.1=true:=by
         intro d
         induction d with
         | zero=>intro _ z t;exact l.lt o t
         | succ d u =>
          intro I z t;have p:b[m+d+1]? = some b[m+d+1]:=List.getElem?_eq_getElem (by omega);exact WP (u (by omega) _ p) (l.lt p t)
        exact Uv (this (j-1-m-1) (by omega) _ (by rw [show m+(j-1-m-1)+1=j-1 by omega];exact f))
      intro e;have w:Rz y.1 x.1=true:=aG C B;rw [e,r,XE] at w;cases w
     ·cases o
    rw [this];rfl
   ·rw [if_neg r];cases UF (b.take j) k<;>rfl
  | false =>
   rw [if_neg (show ¬ XT a b i j=true by rw [g];decide)] at c;rw [if_neg (show ¬ (false=true) by decide)];simp only;rw [List.take_add_one,c,Option.toList_some,Yy,Xs,Option.or_assoc]
theorem m7 {a b:List S8} (va:VL a) (e:VL b) (c:Bool) (k:XL):UF (VC a b c (a.length+b.length)).2.2.1 k=((UF a k).or (UF b k)).filter λx => !(c&&x.2.2.1):=by
 have f:=XD va e c (Nat.le_refl (a.length+b.length));obtain ⟨d,hs⟩:=WH va e (Nat.le_refl (a.length+b.length));show UF (V5 (s0 c) (TU a b (a.length+b.length))) k=_;rw [bU k f,if_neg (by simp),Z3 va e k (Nat.le_refl _)];rw [List.take_of_length_le (by have:=d.ia;have:=d.jb;omega),List.take_of_length_le (by have:=d.ia;have:=d.jb;omega)]
end
section
open Go Go.Proofs.YtfilfloanndddaaGreat.Sv
def Y7 (f:Nat->Option S8):Nat->Nat->Option S8
 | _,0=>none
 | i,m+1=>(f i).or (Y7 f (i+1) m)
theorem eU (f:Nat->Option S8) : ∀ (m i:Nat),Y7 f (i+1) m=Y7 (λj=>f (j+1)) i m
 | 0,_=>rfl
 | m+1,i=>by
  show (f (i+1)).or (Y7 f (i+1+1) m)=(f (i+1)).or (Y7 (λj=>f (j+1)) (i+1) m);rw [eU f m (i+1)]
theorem Xt {f g:Nat->Option S8} : ∀ (m i:Nat),(∀ j,i<=j->j<i+m->f j=g j)->Y7 f i m=Y7 g i m
 | 0,_,_=>rfl
 | m+1,i,h=>by
  show (f i).or (Y7 f (i+1) m)=(g i).or (Y7 g (i+1) m);rw [h i (by omega) (by omega),Xt m (i+1) λj a b=>h j (by omega) (by omega)]
theorem aw : ∀ (m i:Nat),Y7 (λ_=>none) i m=none
 | 0,_=>rfl
 | m+1,i=>by show (none:Option S8).or _=_;rw [Option.none_or];exact aw m (i+1)
theorem Zz (f:Nat->Option S8) : ∀ (p i q:Nat),Y7 f i (p+q)=(Y7 f i p).or (Y7 f (i+p) q)
 | 0,i,q=>by rw [Nat.zero_add];rfl
 | p+1,i,q=>by
  rw [show p+1+q=(p+q)+1 by omega];show (f i).or (Y7 f (i+1) (p+q))=((f i).or (Y7 f (i+1) p)).or (Y7 f (i+(p+1)) q);rw [Zz f p (i+1) q,Option.or_assoc,show i+1+p=i+(p+1) by omega]
theorem ZP (k:XL) : ∀ (ls:List (List TY)) (K:Nat),ls.length<=K->VA (Uj ls) k=Y7 (λj=>VA (TG ls j).reverse k) 0 K
 | [],K,_=>by
  have:(λj=>VA (TG [] j).reverse k)=λ_=>none:=by
   funext j;have:TG [] j=[]:=rfl
   rw [this];rfl
  rw [this,aw];rfl
 | rs::ls,0,h=>by simp at h
 | rs::ls,K+1,h=>by
  have e:Uj (rs::ls)=rs.reverse++Uj ls:=rfl;rw [e,bf,ZP k ls K (by simpa using h)];show _=(VA (TG (rs::ls) 0).reverse k).or (Y7 (λj=>VA (TG (rs::ls) j).reverse k) (0+1) K);rw [eU];rfl
theorem fH {s:TA} (v:VSt s) (C:gm s.1) {n:Nat} {j:Job} (r:JobAt s.1 n j) (E : ¬ 0<Tb s.1 j) (hc:Vq s.1 j=true) (G:UQ j≠[]->s.2.2<=1000000):K7 (Va s j)=K7 s.1:=by
 have F:=eR v C r E hc G;obtain ⟨W,X,L,Y,Z⟩:=r.out v.lev (C n);have d:j.1.toNat=n:=by rw [L];simp
 obtain ⟨b,c,q,m,B,f,P,t,M,N⟩:=r;have K:=Xg.1 B
 have O:Tb s.1 j=c.2.length+b.2.length-m:=by
  rw [f];unfold Tb;simp only [Int.toNat_natCast,B];show c.2.length+b.2.length-((m:Int)).toNat=_;rw [Int.toNat_natCast]
 have u:m=c.2.length+b.2.length:=by omega
 subst u
 have p : ∀ k,UF (UQ j) k=((UF c.2 k).or (UF b.2 k)).filter λx => !(q&&x.2.2.1):=λk=>by
  rw [f];exact m7 N M q k
 refine iB λk => ?_;have S:=F.lev.len;have U:=v.lev.len;rw [ZP k _ 14 (by omega),ZP k _ 14 (by omega)];rw [show 14=n+(1+(13-n)) by omega,Zz,Zz _ n 0];have w:Xz s j=n\/Xz s j=n+1:=by unfold Xz;rw [d];split<;>omega
 have l:Y7 (λi=>VA (TG (Va s j).2 i).reverse k) 0 n=Y7 (λi=>VA (TG s.1.2 i).reverse k) 0 n:=Xt _ _ λi _ hi=>by
  rw [Vy d,if_neg (by rintro ⟨_,h⟩;omega),if_neg (by omega)]
 rw [l];generalize Y7 (λi=>VA (TG s.1.2 i).reverse k) 0 n=A
 have y:Y7 (λi=>VA (TG (Va s j).2 i).reverse k) (0+n) (1+(13-n))=(UF (UQ j) k).or (Y7 (λi=>VA (TG s.1.2 i).reverse k) (n+1) (13-n)):=by
  rw [Nat.zero_add,Nat.add_comm 1];show (VA (TG (Va s j).2 n).reverse k).or (Y7 (λi=>VA (TG (Va s j).2 i).reverse k) (n+1) (13-n))=_;by_cases a:UQ j=[]
  ·rw [Vy d,if_neg (by simp [a]),if_pos rfl,a];refine congrArg _ (Xt _ _ λi hi _ => ?_);rw [Vy d,if_neg (by simp [a]),if_neg (by omega)]
  ·rcases w with ht | ht
   ·rw [Vy d,if_pos ⟨a,ht.symm⟩,if_pos rfl]
    have e:VA (([]:List TY)++[(s.2.2,UQ j)]).reverse k=UF (UQ j) k:=by
     show (UF (UQ j) k).or none=_;cases UF (UQ j) k<;>rfl
    rw [e];refine congrArg _ (Xt _ _ λi hi _ => ?_);rw [Vy d,if_neg (by rintro ⟨_,h⟩;omega),if_neg (by omega)]
   ·rw [Vy d,if_neg (by rintro ⟨_,h⟩;omega),if_pos rfl];have D:=F.to12 a;rw [show 13-n=(12-n)+1 by omega];show (none:Option S8).or ((VA (TG (Va s j).2 (n+1)).reverse k).or (Y7 _ (n+1+1) (12-n)))=(UF (UQ j) k).or ((VA (TG s.1.2 (n+1)).reverse k).or (Y7 _ (n+1+1) (12-n)));rw [Vy d,if_pos ⟨a,ht.symm⟩,if_neg (by omega),List.reverse_append,Option.none_or];have e:VA ([(s.2.2,UQ j)].reverse++(TG s.1.2 (n+1)).reverse) k=(UF (UQ j) k).or (VA (TG s.1.2 (n+1)).reverse k):=rfl;rw [e,Option.or_assoc];refine congrArg _ (congrArg _ (Xt _ _ λi hi _ => ?_));rw [Vy d,if_neg (by rintro ⟨_,h⟩;omega),if_neg (by omega)]
 have o:Y7 (λi=>VA (TG s.1.2 i).reverse k) (0+n) (1+(13-n))=((UF c.2 k).or (UF b.2 k)).or (Y7 (λi=>VA (TG s.1.2 i).reverse k) (n+1) (13-n)):=by
  rw [Nat.zero_add,Nat.add_comm 1];show (VA (TG s.1.2 n).reverse k).or _=_;rw [K];refine congrArg (λz=>Option.or z _) ?_;show (UF c.2 k).or ((UF b.2 k).or none)=_;cases UF b.2 k<;>rfl
 rw [y,o,p k];cases q with
 | false =>
  have:((UF c.2 k).or (UF b.2 k)).filter (λx => !(false&&x.2.2.1))=(UF c.2 k).or (UF b.2 k):=by
   cases (UF c.2 k).or (UF b.2 k)<;>simp [Option.filter]
  rw [this]
 | true =>
  have I:Y7 (λi=>VA (TG s.1.2 i).reverse k) (n+1) (13-n)=none:=by
   rw [Xt (g:=λ_=>none) _ _ λi hi _ => ?_,aw];have:TG s.1.2 i=[]:=by unfold TG;rw [List.getElem?_eq_none (by have:=t rfl;omega)];rfl
   rw [this];rfl
  rw [I];cases A with
  | some x=>rfl
  | none =>
   cases (UF c.2 k).or (UF b.2 k) with
   | none=>rfl
   | some x =>
    cases J:x.2.2.1<;>simp [Option.filter,XJ,J]
end
section
open Go Go.Proofs.YtfilfloanndddaaGreat.Sv
end
section
open Go Go.Proofs.YtfilfloanndddaaGreat.Sv
end
section
open Go Go.Proofs.YtfilfloanndddaaGreat.Sv
def UZ (l:List TY):Nat:=(l.map λr=>r.2.length).sum
theorem W7 (r:TY) (l:List TY):UZ (r::l)=r.2.length+UZ l:=by simp [UZ]
theorem Vb (l m:List TY):UZ (l++m)=UZ l+UZ m:=by simp [UZ]
theorem eI {l:List TY} (h : ∀ r∈l,r.2.length<=5000):UZ l<=l.length*5000:=by
 induction l with
 | nil=>simp [UZ]
 | cons r l b =>
  rw [W7,List.length_cons];have:=h r (by simp);have:=b λx a=>h x (by simp [a]);omega
end
section
open Go Go.Proofs.YtfilfloanndddaaGreat.Sv
end
section
open Go Go.Proofs.YtfilfloanndddaaGreat.Sv
end
section
open Go Go.Proofs.YtfilfloanndddaaGreat.Sv
end
section
open Go Go.Proofs.YtfilfloanndddaaGreat.Sv
end
section
open Go Go.Proofs.YtfilfloanndddaaGreat.Sv
end
section
open Go Go.Proofs.YtfilfloanndddaaGreat.Sv
def Gd (s0 s:TA):Prop:=VSt s/\K7 s.1=K7 s0.1/\UZ s.1.2.flatten<=2000
theorem mi {l:List TY} {r:TY} (h:r∈l):r.2.length<=UZ l:=by
 induction l with
 | nil=>cases h
 | cons x l a =>
  rw [W7];rcases List.mem_cons.1 h with e | h
  ·rw [e];omega
  ·have:=a h;omega
theorem Yw {L:TB} (h:UZ L.2.flatten<=2000):gm L:=λi r a=>by
 have:=mi (Z1.2 ⟨i,a⟩);omega
theorem bN {s:TA} (v:VSt s) (h:gm s.1) {n:Nat} {j:Job} (g:JobAt s.1 n j) (E : ¬ 0<Tb s.1 j):UZ (Va s j).2.flatten<=UZ s.1.2.flatten:=by
 obtain ⟨G,I,y,J,K⟩:=g.out v.lev (h n);have w:j.1.toNat=n:=by rw [y];simp
 have a:=h n;obtain ⟨d,e,m,k,u,c,x,F,B,C⟩:=g;have i:=Xg.1 u;rw [i] at a;have D:=a d (by simp);have f:=a e (by simp)
 have l:(UQ j).length<=e.2.length+d.2.length:=by
  rw [c];exact (iK C B m x (by omega)).2
 obtain ⟨p,q,f,o⟩:=XS s.1 n []
 have e1:UZ s.1.2.flatten=UZ p+((d.2.length+e.2.length)+UZ q):=by
  rw [f,i,Vb,Vb,W7,W7];simp [UZ]
 have e2:UZ (US s.1 n []).2.flatten=UZ p+UZ q:=by rw [o,Vb,Vb];simp [UZ]
 unfold Va;rw [w];by_cases b:UQ j=[]
 ·rw [if_pos b];omega
 ·rw [if_neg b];obtain ⟨z,A,r,t⟩:=XS (US s.1 n []) (Xz s j) (TG (US s.1 n []).2 (Xz s j)++[(s.2.2,UQ j)]);have e3:UZ (US s.1 n []).2.flatten=UZ z+(UZ (TG (US s.1 n []).2 (Xz s j))+UZ A):=by rw [r,Vb,Vb]
  rw [t,Vb,Vb,Vb,W7];simp only [UZ,List.map_nil,List.sum_nil];simp only [UZ] at e3 e2 e1;omega
theorem eL {s:TA} (v:VSt s) {d:Int} (h:d∈TI 0 s.1.2) : ∃ (i:Nat) (j:Job) (n:Nat),Yx d 0 (TI 0 s.1.2)=some i/\s.2.1[i]? = some j/\d=(n:Int)/\j.1=(n:Int)/\JobAt s.1 n j:=by
 obtain ⟨i,hi⟩:=am (k:=0) h;obtain ⟨j,n,a,b,c,d,_⟩:=v.at hi;exact ⟨i,j,n,hi,a,b,c,d⟩
theorem fF {s0 s:TA} (g:Gd s0 s) {d:Int} (h:d∈TI 0 s.1.2) : ∃ (c:Bool) (t:TA) (b:Bool) (e:Int),XF (s,d)=some (c,0)/\Tf (s,d)=some (t,(b,e))/\(s.2.2<=1000000->c=decide (e=0))/\(e=0->Gd s0 t):=by
 obtain ⟨v,z,hc⟩:=g;have r:=Yw hc;have m:=v.sm;obtain ⟨i,j,n,hi,y,C,w,q⟩:=eL v h;have A:(TE s).2=0:=TL.2 v;have o:Zo s d=some j:=by unfold Zo;rw [hi];exact y
 have p:XF (s,d)=some (Vq s.1 j,0):=by
  rw [nX m];unfold Wc;rw [if_neg (by simp [A]),o]
 have k:Tf (s,d)=some (Xi s j):=by
  rw [af m r];unfold Uw;rw [if_neg (by simp [A]),o]
 refine ⟨Vq s.1 j,(Xi s j).1,(Xi s j).2.1,(Xi s j).2.2,p,k,?_⟩;unfold Xi;by_cases l:Vq s.1 j=false
 ·rw [if_pos l,l];exact ⟨λ_=>by simp,λh=>by cases h⟩
 have a:Vq s.1 j=true:=by simpa using l
 rw [if_neg l];by_cases f:0<Tb s.1 j
 ·rw [if_pos f];refine ⟨λ_=>by simp [a],λ_=>⟨iR v (by rw [w,<- C];exact hi) y q f,z,hc⟩⟩
 rw [if_neg f];unfold Yc;rw [if_neg (λh=>h.elim f l)];by_cases u:s.2.2>1000000/\UQ j≠[]
 ·rw [if_pos u];exact ⟨λh=>by omega,λh=>by cases h⟩
 rw [if_neg u]
 have x:UQ j≠[]->s.2.2<=1000000:=λD=>by
  by_cases B:s.2.2>1000000
  ·exact absurd ⟨B,D⟩ u
  ·omega
 refine ⟨λ_=>by simp [a],λ_=>⟨g9 v r q f a x,?_,?_⟩⟩
 ·exact (fH v r q f a x).trans z
 ·have:=bN v r q f;show UZ (Va s j).2.flatten<=2000;omega
theorem bR : ∀ (ls:List (List TY)) (i:Nat),(TI i ls).Pairwise (· < ·)
 | [],_ => .nil
 | rs::ls,i=>by
  have a:=bR ls (i+1);have b:=(ZK ls (i+1)).2;rw [XW];split
  ·refine List.pairwise_cons.2 ⟨λd c => ?_,a⟩;have:=b d c;omega
  ·exact a
theorem al : ∀ {ls:List (List TY)} {i n:Nat},(TG ls n).length=2->((i+n:Nat):Int)∈TI i ls
 | [],i,n,h=>by simp [TG] at h
 | rs::ls,i,0,h=>by
  have h':rs.length=2:=h;rw [XW,if_pos h'];simp
 | rs::ls,i,n+1,h=>by
  rw [XW];refine List.mem_append_right _ ?_;have:=al (ls:=ls) (i:=i+1) (n:=n) h
  rwa [show i+1+n=i+(n+1) by omega] at this
end
section
open Go Go.Proofs.YtfilfloanndddaaGreat.Sv
def W5 (f:Nat->Nat):Nat->Nat
 | 0=>0
 | m+1=>W5 f m+f m
theorem aJ {f g:Nat->Nat} : ∀ {m:Nat},(∀ i,i<m->g i<=f i)->W5 g m<=W5 f m
 | 0,_=>Nat.le_refl _
 | m+1,h=>Nat.add_le_add (aJ λi hi=>h i (by omega)) (h m (by omega))
theorem aI {f g:Nat->Nat} {n:Nat} (a:g n+1<=f n) : ∀ {m:Nat},n<m->(∀ i,i<m->i≠n->g i<=f i)->W5 g m+1<=W5 f m
 | 0,h,_=>absurd h (by omega)
 | m+1,h,ho=>by
  unfold W5;by_cases e:n=m
  ·subst e;have:=aJ (f:=f) (g:=g) (m:=n) λi hi=>ho i (by omega) (by omega);omega
  ·have:=aI a (m:=m) (by omega) λi hi=>ho i (by omega);have:=ho m (by omega) (λh=>e h.symm);omega
theorem ae {f g:Nat->Nat} {n:Nat} (a:g n+g (n+1)+1<=f n+f (n+1)) : ∀ {m:Nat},n+1<m->(∀ i,i<m->i≠n->i≠n+1->g i<=f i)->W5 g m+1<=W5 f m
 | 0,h,_=>absurd h (by omega)
 | m+1,h,ho=>by
  unfold W5;by_cases e:n+1=m
  ·subst e;have:=aJ (f:=f) (g:=g) (m:=n) λi hi=>ho i (by omega) (by omega) (by omega);unfold W5;omega
  ·have:=ae a (m:=m) (by omega) λi hi=>ho i (by omega);have:=ho m (by omega) (by omega) (by omega);omega
theorem YU : ∀ {js:List Job} {j:Job},(js.map (·.1)).Nodup->j∈js->UN js j.1=some j
 | [],_,_,h=>by cases h
 | i::js,j,hn,h=>by
  rw [List.map_cons,List.nodup_cons] at hn;unfold UN;rw [List.find?_cons];unfold ap;rw [VZ];rcases List.mem_cons.1 h with e | h
  ·subst e;simp
  ·have a : ¬ j.1=i.1:=λe=>hn.1 (by rw [<- e];exact List.mem_map_of_mem h);rw [decide_eq_false a];exact YU hn.2 h
theorem aS : ∀ {js:List Job} {i:Nat} {j:Job} (w:XQ) (d:Int),(js.map (·.1)).Nodup->js[i]? = some j->UN (js.set i (j.1,w)) d=if d=j.1 then some (j.1,w) else UN js d
 | [],i,j,w,d,_,h=>by simp at h
 | x::js,0,j,w,d,hn,h=>by
  have e:x=j:=by simpa using h
  subst e;unfold UN;rw [List.set_cons_zero,List.find?_cons,List.find?_cons];unfold ap;rw [VZ];by_cases e:d=x.1<;>simp [e]
 | x::js,i+1,j,w,d,hn,h=>by
  rw [List.map_cons,List.nodup_cons] at hn;have h':js[i]? = some j:=by simpa using h
  have b:=aS w d hn.2 h';unfold UN at b ⊢;rw [List.set_cons_succ,List.find?_cons,List.find?_cons,b];have c:ap d x=decide (d=x.1):=VZ _ _;rw [c];by_cases e:d=x.1
  ·have a : ¬ d=j.1:=λe2=>hn.1 (by rw [<- e,e2];exact List.mem_map_of_mem (List.mem_of_getElem? h'));rw [decide_eq_true e];simp only [a,if_false]
  ·rw [decide_eq_false e]
theorem VSt.noJob {s:TA} (v:VSt s) {i:Nat} (h:(TG s.1.2 i).length≠2):UN s.2.1 (i:Int)=none:=by
 refine X6 λa=>h ?_;rw [v.due] at a;obtain ⟨n,c,d,e,b⟩:=az a;have:i=n:=by omega
 rw [this,Xg.1 b];rfl
theorem VSt.hasJob {s:TA} (v:VSt s) {i:Nat} (h:(TG s.1.2 i).length=2) : ∃ j,UN s.2.1 (i:Int)=some j:=by
 have a:=al (i:=0) h;rw [Nat.zero_add,<- v.due] at a;obtain ⟨j,b,e⟩:=List.mem_map.1 a;exact ⟨j,by rw [<- e];exact YU v.nodup b⟩
theorem gq {s:TA} (v:VSt s) (d:Int):Zo s d=UN s.2.1 d:=by
 by_cases h:d∈TI 0 s.1.2
 ·obtain ⟨j,n,a,b,c,_⟩:=v.atDue h;rw [a,b,<- c];refine (YU v.nodup ?_).symm;unfold Zo at a;split at a
  ·exact List.mem_of_getElem? a
  ·cases a
 ·rw [X6 (by rw [v.due];exact h)];unfold Zo;split
  ·rename_i i hi;have:=(ca hi).2;exact absurd (List.mem_of_getElem? this) h
  ·rfl
def nT (j:Job):Nat:=j.2.2.2.2.toNat
theorem JobAt.rd {L:TB} {n:Nat} {j:Job} (h:JobAt L n j) : ∃ a b,TG L.2 n=[a,b]/\nT j<=b.2.length+a.2.length/\Tb L j=b.2.length+a.2.length-nT j/\(0<Tb L j->nT (j.1,YF L j)=nT j+1):=by
 obtain ⟨a,b,c,k,d,rfl,f,g,i,l⟩:=h;have e:=Xg.1 d;have e1:(VC b.2 a.2 c k).2.1.2.2=c:=Zk _ _ _ _;have e2:(VC b.2 a.2 c k).2.2.2.toNat=k:=by show ((k:Int)).toNat=k;rw [Int.toNat_natCast]
 refine ⟨a,b,e,?_,?_,λ_ => ?_⟩
 ·show (VC b.2 a.2 c k).2.2.2.toNat<=_;rw [e2];exact f
 ·unfold Tb nT;simp only [Int.toNat_natCast,d]
 ·show (YF L ((n:Int),VC b.2 a.2 c k)).2.2.2.toNat=(VC b.2 a.2 c k).2.2.2.toNat+1;unfold YF;simp only [Int.toNat_natCast,e];rw [e1,e2];show (((k+1:Nat):Int)).toNat=_;rw [Int.toNat_natCast]
structure StepF (s:TA) (n:Nat) (j:Job) (t:TA) (b:Bool):Prop where
 job:UN s.2.1 (n:Int)=some j
 read:0<Tb s.1 j->b=false/\t.1=s.1/\t.2.2=s.2.2 /\ ∀ i:Nat,UN t.2.1 (i:Int)=if i=n then some (j.1,YF s.1 j) else UN s.2.1 (i:Int)
 inst:Tb s.1 j=0->b=true/\t.1=Va s j/\t.2.2=Xm s j/\(∀ i,(TG t.1.2 i)=if UQ j≠[]/\i=Xz s j then (if i=n then [] else TG s.1.2 i)++[(s.2.2,UQ j)] else if i=n then [] else TG s.1.2 i)/\(Xz s j=n\/Xz s j=n+1/\n+1<12/\(UQ j≠[]->(TG s.1.2 (n+1)).length<2)) /\
  ∀ i:Nat,UN t.2.1 (i:Int)=if (TG t.1.2 i).length=2 then some ((if i=n then none else UN s.2.1 (i:Int)).getD (WQ t.1 (i:Int))) else none
theorem cz {s0 s:TA} (g:Gd s0 s) {d:Int} (h:d∈TI 0 s.1.2) (e:(Uw s d).2.2=0) : ∃ (n:Nat) (j:Job),d=(n:Int)/\n<12/\JobAt s.1 n j/\Vq s.1 j=true/\StepF s n j (Uw s d).1 (Uw s d).2.1/\Gd s0 (Uw s d).1:=by
 obtain ⟨v,Z,hc⟩:=g;have X:=Yw hc;have m:=v.sm;obtain ⟨c,t,b,er,_,K,_,Y⟩:=fF ⟨v,Z,hc⟩ h;rw [af m X] at K;have w:=Option.some.inj K;obtain ⟨i,j,n,hi,U,D,u,S⟩:=eL v h;have hz:(TE s).2=0:=TL.2 v;have C:Zo s d=some j:=by unfold Zo;rw [hi];exact U
 have hn:n<12:=by
  have:=v.lev.len;obtain ⟨_,_,_,_,W,_⟩:=S;have:=(List.getElem?_eq_some_iff.1 W).1;omega
 have F:UN s.2.1 (n:Int)=some j:=by rw [<- D,<- gq v,C]
 have hS:Uw s d=Xi s j:=by unfold Uw;rw [if_neg (by simp [hz]),C]
 have A:Gd s0 (Uw s d).1:=by rw [w];exact Y (by rw [<- e,w])
 have k:=A.1;rw [hS] at e k A ⊢;refine ⟨n,j,D,hn,S,?_,⟨F,λO => ?_,λO => ?_⟩,A⟩
 ·unfold Xi at e;by_cases a:Vq s.1 j=false
  ·rw [if_pos a] at e;cases e
  ·simpa using a
 ·unfold Xi at e ⊢;have a : ¬ Vq s.1 j=false:=λa=>by rw [if_pos a] at e;cases e
  rw [if_neg a,if_pos O];refine ⟨rfl,rfl,rfl,λo => ?_⟩;show UN (ZB s j).2.1 _=_;unfold ZB;rw [u,<- D,hi,Option.getD_some];show UN (s.2.1.set i (d,YF s.1 j)) _=_;have:=aS (YF s.1 j) (o:Int) v.nodup U;rw [u,<- D] at this;rw [this,D];by_cases p:o=n
  ·rw [if_pos (by rw [p]),if_pos p]
  ·rw [if_neg (by omega),if_neg p]
 ·unfold Xi at e k ⊢;have a : ¬ Vq s.1 j=false:=λa=>by rw [if_pos a] at e;cases e
  have q:Vq s.1 j=true:=by simpa using a
  have z : ¬ 0<Tb s.1 j:=by omega
  rw [if_neg a,if_neg z] at e k ⊢;unfold Yc at e k ⊢;rw [if_neg (λh=>h.elim z a)] at e k ⊢;by_cases P:s.2.2>1000000/\UQ j≠[]
  ·rw [if_pos P] at e;cases e
  rw [if_neg P] at e k ⊢;have B:j.1.toNat=n:=by rw [u];simp
  have I : ∀ i,TG (Va s j).2 i=_:=λi=>Vy (s:=s) (j:=j) B i;refine ⟨rfl,rfl,rfl,I,?_,λo => ?_⟩
  ·unfold Xz;rw [B];by_cases hs:Vp s.1 j=true
   ·rw [if_pos hs];exact .inl rfl
   ·rw [if_neg hs]
    have hr:Ye s.1 (n+1)=true:=by
     unfold Vq at q;rw [B] at q;simpa [hs,z] using q
    have J:=of_decide_eq_true hr;exact .inr ⟨rfl,J.1,λ_=>J.2⟩
  ·have r:VSt (YS s (Va s j) (Xm s j) j.1):=k;show UN (YS s (Va s j) (Xm s j) j.1).2.1 (o:Int)=if (TG (Va s j).2 o).length=2 then some ((if o=n then none else UN s.2.1 (o:Int)).getD (WQ (Va s j) (o:Int))) else none
   have ho:(TG (YS s (Va s j) (Xm s j) j.1).1.2 o)=TG (Va s j).2 o:=rfl;by_cases L:(TG (Va s j).2 o).length=2
   ·rw [if_pos L];have N:=al (i:=0) L;rw [Nat.zero_add] at N;have G:Wb s (Va s j) j.1 (o:Int)∈(YS s (Va s j) (Xm s j) j.1).2.1:=List.mem_map_of_mem N
    have E:(Wb s (Va s j) j.1 (o:Int)).1=(o:Int):=by
     have M:(TI 0 (Va s j).2).map (λd=>(Wb s (Va s j) j.1 d).1)=TI 0 (Va s j).2:=by
      have:=r.due;simpa [YS,List.map_map,Function.comp_def] using this
     have key : ∀ {l:List Int} {f:Int->Int},l.map f=l -> ∀ x∈l,f x=x:=by
      intro l f
      induction l with
      | nil=>intro _ x hx;cases hx
      | cons y l ih =>
       intro h x hx;rw [List.map_cons] at h;obtain ⟨k1,k2⟩:=List.cons.inj h;rcases List.mem_cons.1 hx with rfl | hx
       ·exact k1
       ·exact ih k2 x hx
     exact key M _ N
    have:=YU r.nodup G;rw [E] at this;rw [this];unfold Wb;rw [u];by_cases p:o=n
    ·rw [if_pos (by omega),if_pos p]
    ·rw [if_neg (by omega),if_neg p]
   ·rw [if_neg L];exact r.noJob (by rw [ho];exact L)
end
section
open Go Go.Proofs.YtfilfloanndddaaGreat.Sv
def mg (s:TA) (i:Nat):Nat:=match UN s.2.1 (i:Int) with
 | some j=>nT j
 | none=>0
def cU (N:Nat) (s:TA) (i:Nat):Nat:=(TG s.1.2 i).length*(N+1)-mg s i
def gj (N:Nat) (s:TA):Nat:=W5 (cU N s) 12
theorem mj {L:TB} {n:Nat} {a b:TY} (h:TG L.2 n=[a,b]):a.2.length+b.2.length<=UZ L.2.flatten:=by
 obtain ⟨p,q,c,_⟩:=XS L n [];rw [c,h,Vb,Vb,W7,W7];omega
theorem VSt.rd0 {s:TA} (v:VSt s) {i:Nat} (h:(TG s.1.2 i).length≠2):mg s i=0:=by
 unfold mg;rw [v.noJob h]
theorem iL {N:Nat} {s t:TA} {n:Nat} {j:Job} {b:Bool} (v:VSt s) (B:UZ s.1.2.flatten<=N) (r:n<12) (y:JobAt s.1 n j) (F:StepF s n j t b):gj N t+1<=gj N s:=by
 obtain ⟨E,G,l,C,D,z⟩:=y.rd;have hc:=mj l
 have hs:cU N s n=2*(N+1)-nT j:=by
  unfold cU mg;rw [F.job,l];rfl
 by_cases p:0<Tb s.1 j
 ·obtain ⟨_,e1,_,e2⟩:=F.read p;refine aI (n:=n) ?_ r λi _ a => ?_
  ·have m:cU N t n=2*(N+1)-(nT j+1):=by
    unfold cU mg;rw [e2,if_pos rfl,e1,l,<- z p];rfl
   omega
  ·unfold cU mg;rw [e2,if_neg a,e1];exact Nat.le_refl _
 ·obtain ⟨_,e1,_,e2,e3,o⟩:=F.inst (by omega)
  have d : ∀ i,i≠n -> ¬ (UQ j≠[]/\i=Xz s j)->cU N t i<=cU N s i:=λi a hit=>by
   have e:TG t.1.2 i=TG s.1.2 i:=by rw [e2,if_neg hit,if_neg a]
   have c:mg t i=mg s i:=by
    by_cases c:(TG s.1.2 i).length=2
    ·obtain ⟨j',k⟩:=v.hasJob c;unfold mg;rw [o,e,if_pos c,if_neg a,k];rfl
    ·rw [v.rd0 c];unfold mg;rw [o,e,if_neg c]
   unfold cU;rw [e,c];exact Nat.le_refl _
  by_cases m:UQ j≠[]/\Xz s j≠n
  ·obtain ⟨q,u⟩:=m;rcases e3 with e3 | ⟨e3,f,c⟩
   ·exact absurd e3 u
   have c:=c q;refine ae (n:=n) ?_ f λi _ a g=>d i a (by rw [e3];exact λh=>g h.2)
   have w:cU N t n=0:=by
    unfold cU;rw [e2,if_neg (by rw [e3];omega),if_pos rfl];simp
   have x:cU N t (n+1)<=((TG s.1.2 (n+1)).length+1)*(N+1):=by
    unfold cU;rw [e2,if_pos ⟨q,e3.symm⟩,if_neg (by omega),List.length_append];exact Nat.sub_le _ _
   have A:cU N s (n+1)=(TG s.1.2 (n+1)).length*(N+1):=by
    unfold cU;rw [v.rd0 (by omega)];rfl
   rw [Nat.add_mul] at x;omega
  ·refine aI (n:=n) ?_ r λi _ a=>d i a (λh=>m ⟨h.1,by rw [<- h.2];exact a⟩)
   have w:cU N t n<=1*(N+1):=by
    refine Nat.le_trans (Nat.sub_le _ _) (Nat.mul_le_mul_right _ ?_);rw [e2,if_pos rfl];split<;>simp
   omega
theorem bG (L:List (List TY)) : ∀ m,W5 (λi=>(TG L i).length) m=(L.take m).flatten.length
 | 0=>by simp [W5]
 | m+1=>by
  unfold W5;rw [bG L m];by_cases h:m<L.length
  ·have:L.take (m+1)=L.take m++[TG L m]:=by
    rw [List.take_add_one,V4 h];rfl
   rw [this,List.flatten_append];simp
  ·have:TG L m=[]:=by unfold TG;rw [List.getElem?_eq_none (by omega)];rfl
   rw [this,List.take_of_length_le (by omega),List.take_of_length_le (by omega)];simp
theorem ei (f:Nat->Nat) (c:Nat) : ∀ m,W5 (λi=>f i*c) m=W5 f m*c
 | 0=>by simp [W5]
 | m+1=>by unfold W5;rw [ei f c m,Nat.add_mul]
theorem nk (N:Nat) {s:TA} (v:VSt s):gj N s<=s.1.2.flatten.length*(N+1):=by
 have a:gj N s<=W5 (λi=>(TG s.1.2 i).length*(N+1)) 12:=aJ λi _=>Nat.sub_le _ _;have:=v.lev.len;rw [ei,bG,List.take_of_length_le (by omega)] at a;exact a
theorem gy {L:TB} (v:VLev L):L.2.flatten.length<=24:=by
 have h:=bG L.2 12;have:=v.len;rw [List.take_of_length_le (by omega)] at h;rw [<- h];exact aJ (f:=λ_=>2) λi _=>(v.own i).1
end
section
open Go Go.Proofs.YtfilfloanndddaaGreat.Sv
set_option linter.unusedVariables false
abbrev Xy:=(Int×(Int×(Int×YD)))
def Yj (a:YD) (k l:Nat):YD :=
 (Sw (neq l 0) (Rl .i64 (OO [a.1,a.2.1,a.2.2.1,a.2.2.2.1,a.2.2.2.2.1,a.2.2.2.2.2.1,a.2.2.2.2.2.2.1,a.2.2.2.2.2.2.2.1,a.2.2.2.2.2.2.2.2.1,a.2.2.2.2.2.2.2.2.2.1,a.2.2.2.2.2.2.2.2.2.2.1,a.2.2.2.2.2.2.2.2.2.2.2] k) 1) a.1,(Sw (neq l 1) (Rl .i64 (OO [a.1,a.2.1,a.2.2.1,a.2.2.2.1,a.2.2.2.2.1,a.2.2.2.2.2.1,a.2.2.2.2.2.2.1,a.2.2.2.2.2.2.2.1,a.2.2.2.2.2.2.2.2.1,a.2.2.2.2.2.2.2.2.2.1,a.2.2.2.2.2.2.2.2.2.2.1,a.2.2.2.2.2.2.2.2.2.2.2] k) 1) a.2.1,(Sw (neq l 2) (Rl .i64 (OO [a.1,a.2.1,a.2.2.1,a.2.2.2.1,a.2.2.2.2.1,a.2.2.2.2.2.1,a.2.2.2.2.2.2.1,a.2.2.2.2.2.2.2.1,a.2.2.2.2.2.2.2.2.1,a.2.2.2.2.2.2.2.2.2.1,a.2.2.2.2.2.2.2.2.2.2.1,a.2.2.2.2.2.2.2.2.2.2.2] k) 1) a.2.2.1,(Sw (neq l 3) (Rl .i64 (OO [a.1,a.2.1,a.2.2.1,a.2.2.2.1,a.2.2.2.2.1,a.2.2.2.2.2.1,a.2.2.2.2.2.2.1,a.2.2.2.2.2.2.2.1,a.2.2.2.2.2.2.2.2.1,a.2.2.2.2.2.2.2.2.2.1,a.2.2.2.2.2.2.2.2.2.2.1,a.2.2.2.2.2.2.2.2.2.2.2] k) 1) a.2.2.2.1,(Sw (neq l 4) (Rl .i64 (OO [a.1,a.2.1,a.2.2.1,a.2.2.2.1,a.2.2.2.2.1,a.2.2.2.2.2.1,a.2.2.2.2.2.2.1,a.2.2.2.2.2.2.2.1,a.2.2.2.2.2.2.2.2.1,a.2.2.2.2.2.2.2.2.2.1,a.2.2.2.2.2.2.2.2.2.2.1,a.2.2.2.2.2.2.2.2.2.2.2] k) 1) a.2.2.2.2.1,(Sw (neq l 5) (Rl .i64 (OO [a.1,a.2.1,a.2.2.1,a.2.2.2.1,a.2.2.2.2.1,a.2.2.2.2.2.1,a.2.2.2.2.2.2.1,a.2.2.2.2.2.2.2.1,a.2.2.2.2.2.2.2.2.1,a.2.2.2.2.2.2.2.2.2.1,a.2.2.2.2.2.2.2.2.2.2.1,a.2.2.2.2.2.2.2.2.2.2.2] k) 1) a.2.2.2.2.2.1,(Sw (neq l 6) (Rl .i64 (OO [a.1,a.2.1,a.2.2.1,a.2.2.2.1,a.2.2.2.2.1,a.2.2.2.2.2.1,a.2.2.2.2.2.2.1,a.2.2.2.2.2.2.2.1,a.2.2.2.2.2.2.2.2.1,a.2.2.2.2.2.2.2.2.2.1,a.2.2.2.2.2.2.2.2.2.2.1,a.2.2.2.2.2.2.2.2.2.2.2] k) 1) a.2.2.2.2.2.2.1,(Sw (neq l 7) (Rl .i64 (OO [a.1,a.2.1,a.2.2.1,a.2.2.2.1,a.2.2.2.2.1,a.2.2.2.2.2.1,a.2.2.2.2.2.2.1,a.2.2.2.2.2.2.2.1,a.2.2.2.2.2.2.2.2.1,a.2.2.2.2.2.2.2.2.2.1,a.2.2.2.2.2.2.2.2.2.2.1,a.2.2.2.2.2.2.2.2.2.2.2] k) 1) a.2.2.2.2.2.2.2.1,(Sw (neq l 8) (Rl .i64 (OO [a.1,a.2.1,a.2.2.1,a.2.2.2.1,a.2.2.2.2.1,a.2.2.2.2.2.1,a.2.2.2.2.2.2.1,a.2.2.2.2.2.2.2.1,a.2.2.2.2.2.2.2.2.1,a.2.2.2.2.2.2.2.2.2.1,a.2.2.2.2.2.2.2.2.2.2.1,a.2.2.2.2.2.2.2.2.2.2.2] k) 1) a.2.2.2.2.2.2.2.2.1,(Sw (neq l 9) (Rl .i64 (OO [a.1,a.2.1,a.2.2.1,a.2.2.2.1,a.2.2.2.2.1,a.2.2.2.2.2.1,a.2.2.2.2.2.2.1,a.2.2.2.2.2.2.2.1,a.2.2.2.2.2.2.2.2.1,a.2.2.2.2.2.2.2.2.2.1,a.2.2.2.2.2.2.2.2.2.2.1,a.2.2.2.2.2.2.2.2.2.2.2] k) 1) a.2.2.2.2.2.2.2.2.2.1,(Sw (neq l 10) (Rl .i64 (OO [a.1,a.2.1,a.2.2.1,a.2.2.2.1,a.2.2.2.2.1,a.2.2.2.2.2.1,a.2.2.2.2.2.2.1,a.2.2.2.2.2.2.2.1,a.2.2.2.2.2.2.2.2.1,a.2.2.2.2.2.2.2.2.2.1,a.2.2.2.2.2.2.2.2.2.2.1,a.2.2.2.2.2.2.2.2.2.2.2] k) 1) a.2.2.2.2.2.2.2.2.2.2.1,Sw (neq l 11) (Rl .i64 (OO [a.1,a.2.1,a.2.2.1,a.2.2.2.1,a.2.2.2.2.1,a.2.2.2.2.2.1,a.2.2.2.2.2.2.1,a.2.2.2.2.2.2.2.1,a.2.2.2.2.2.2.2.2.1,a.2.2.2.2.2.2.2.2.2.1,a.2.2.2.2.2.2.2.2.2.2.1,a.2.2.2.2.2.2.2.2.2.2.2] k) 1) a.2.2.2.2.2.2.2.2.2.2.2)))))))))))
def oH (a b:YD):Bool :=
 NX (RR a.1 b.1) (NX (RR a.2.1 b.2.1) (NX (RR a.2.2.1 b.2.2.1) (NX (RR a.2.2.2.1 b.2.2.2.1) (NX (RR a.2.2.2.2.1 b.2.2.2.2.1) (NX (RR a.2.2.2.2.2.1 b.2.2.2.2.2.1) (NX (RR a.2.2.2.2.2.2.1 b.2.2.2.2.2.2.1) (NX (RR a.2.2.2.2.2.2.2.1 b.2.2.2.2.2.2.2.1) (NX (RR a.2.2.2.2.2.2.2.2.1 b.2.2.2.2.2.2.2.2.1) (NX (RR a.2.2.2.2.2.2.2.2.2.1 b.2.2.2.2.2.2.2.2.2.1) (NX (RR a.2.2.2.2.2.2.2.2.2.2.1 b.2.2.2.2.2.2.2.2.2.2.1) (NX (RR a.2.2.2.2.2.2.2.2.2.2.2 b.2.2.2.2.2.2.2.2.2.2.2) (true))))))))))))
def Vu (x:Unit):Option (TB×((List (Int×(TC×((Bool×TD)×((List S8)×Int)))))×Int)) :=
 bd (Yl ((2,[[(1,[([(97:UInt8)],([],(false,1)))]),(2,[([(98:UInt8)],([],(false,2)))])]]))) λa=>some a.1
def Vd (x:(Int×Bool)):Option Unit :=
 some ()
def U6 (x:((TB×((List (Int×(TC×((Bool×TD)×((List S8)×Int)))))×Int))×Int)):Option ((TB×((List (Int×(TC×((Bool×TD)×((List S8)×Int)))))×Int))×(Xy×Int)) :=
 bd (UV x.1) λi=>br (RT i.2 0) (λ_=>br (RT i.2 0) (λ_=>some ((((0,[]),([],0)),((0,(0,(0,(0,(0,(0,(0,(0,(0,(0,(0,(0,(0,(0,0)))))))))))))),i.2)))) λ_=>br (SU x.2 0) (λ_=>bd (loop (β:=(Nat×(Unit×Unit))) (λs1=>none) ()) λj=>none) λ_=>none) λ_=>br (SW x.2 0) (λ_=>some ((((0,[]),([],0)),((0,(0,(0,(0,(0,(0,(0,(0,(0,(0,(0,(0,(0,(0,0)))))))))))))),7)))) λ_=>br (SU x.2 1000000) (λ_=>some ((((0,[]),([],0)),((0,(0,(0,(0,(0,(0,(0,(0,(0,(0,(0,(0,(0,(0,0)))))))))))))),7)))) λ_=>br (SU x.2 0) (λ_=>bd (loop (λ(a:((Int×((List (List TY))×((List (Int×(TC×((Bool×TD)×((List S8)×Int)))))×(Int×Int))))×Xy))=>bd (Te (((a.1.1,a.1.2.1),(a.1.2.2.1,a.1.2.2.2.1)))) λd=>br (RR d.2 4) (λ_=>some (.dn ((0,(a,()))))) λ_=>br (RR d.2 0) (λ_=>bd (Tf ((((a.1.1,a.1.2.1),(a.1.2.2.1,a.1.2.2.2.1)),d.1))) λc=>br (RT c.2.2 0) (λ_=>some (.dn ((0,(((a.1.1,(a.1.2.1,(a.1.2.2.1,(a.1.2.2.2.1,c.2.2)))),a.2),()))))) λ_=>bd (Vd (d.1,c.2.1)) λk=>RX d.1 λg=>gd (KC g 12) λ_=>RX d.1 λh=>gd (KC h 12) λ_=>br c.2.1 (λ_=>br (RR (Rl .i64 a.2.1 1) x.2) (λ_=>some (.dn ((1,(((c.1.1.1,(c.1.1.2,(c.1.2.1,(c.1.2.2,c.2.2)))),(Rl .i64 a.2.1 1,(a.2.2.1,(Rl .i64 a.2.2.2.1 1,(Yj a.2.2.2.2 g h))))),()))))) λ_=>some (.nx (((c.1.1.1,(c.1.1.2,(c.1.2.1,(c.1.2.2,c.2.2)))),(Rl .i64 a.2.1 1,(a.2.2.1,(Rl .i64 a.2.2.2.1 1,(Yj a.2.2.2.2 g h)))))))) λ_=>br (RR (Rl .i64 a.2.1 1) x.2) (λ_=>some (.dn ((1,(((c.1.1.1,(c.1.1.2,(c.1.2.1,(c.1.2.2,c.2.2)))),(Rl .i64 a.2.1 1,(a.2.2.1,(a.2.2.2.1,(Yj a.2.2.2.2 g h))))),()))))) λ_=>some (.nx (((c.1.1.1,(c.1.1.2,(c.1.2.1,(c.1.2.2,c.2.2)))),(Rl .i64 a.2.1 1,(a.2.2.1,(a.2.2.2.1,(Yj a.2.2.2.2 g h)))))))) λ_=>br (RT d.2 0) (λ_=>some (.dn ((0,(((a.1.1,(a.1.2.1,(a.1.2.2.1,(a.1.2.2.2.1,d.2)))),a.2),()))))) λ_=>bd (Vd (d.1,false)) λl=>RX d.1 λe=>gd (KC e 12) λ_=>RX d.1 λf=>gd (KC f 12) λ_=>br (RR (Rl .i64 a.2.1 1) x.2) (λ_=>some (.dn ((1,(((0,([],([],(0,d.2)))),(Rl .i64 a.2.1 1,(a.2.2.1,(a.2.2.2.1,(Yj a.2.2.2.2 e f))))),()))))) λ_=>some (.nx (((0,([],([],(0,d.2)))),(Rl .i64 a.2.1 1,(a.2.2.1,(a.2.2.2.1,(Yj a.2.2.2.2 e f)))))))) (((x.1.1.1,(x.1.1.2,(x.1.2.1,(x.1.2.2,0)))),(0,(0,(0,(0,(0,(0,(0,(0,(0,(0,(0,(0,(0,(0,0))))))))))))))))) λb=>br (neq b.1 0) (λ_=>br (RT b.2.1.1.2.2.2.2 0) (λ_=>some ((((0,[]),([],0)),((0,(0,(0,(0,(0,(0,(0,(0,(0,(0,(0,(0,(0,(0,0)))))))))))))),b.2.1.1.2.2.2.2)))) λ_=>some ((((b.2.1.1.1,b.2.1.1.2.1),(b.2.1.1.2.2.1,b.2.1.1.2.2.2.1)),((b.2.1.2.1,(Rp .i64 x.2 b.2.1.2.1,b.2.1.2.2.2)),0)))) λ_=>br (RT b.2.1.1.2.2.2.2 0) (λ_=>some ((((0,[]),([],0)),((0,(0,(0,(0,(0,(0,(0,(0,(0,(0,(0,(0,(0,(0,0)))))))))))))),b.2.1.1.2.2.2.2)))) λ_=>some ((((b.2.1.1.1,b.2.1.1.2.1),(b.2.1.1.2.2.1,b.2.1.1.2.2.2.1)),((b.2.1.2.1,(Rp .i64 x.2 b.2.1.2.1,b.2.1.2.2.2)),0)))) λ_=>some ((x.1,((0,(Rp .i64 x.2 0,(0,(0,(0,(0,(0,(0,(0,(0,(0,(0,(0,(0,0)))))))))))))),0)))
def U5 (x:((TB×((List (Int×(TC×((Bool×TD)×((List S8)×Int)))))×Int))×Int)):Option ((List Int)×Int) :=
 bd (UV x.1) λi=>br (RT i.2 0) (λ_=>br (RT i.2 0) (λ_=>some ([],i.2)) λ_=>br (SU x.2 0) (λ_=>bd (loop (β:=(Nat×(Unit×Unit))) (λs1=>none) ()) λj=>none) λ_=>none) λ_=>br (SW x.2 0) (λ_=>some ([],7)) λ_=>br (SU x.2 1000000) (λ_=>some ([],7)) λ_=>br (SU x.2 0) (λ_=>bd (loop (λ(a:((Int×((List (List TY))×((List (Int×(TC×((Bool×TD)×((List S8)×Int)))))×(Int×Int))))×((List Int)×Xy)))=>bd (Te (((a.1.1,a.1.2.1),(a.1.2.2.1,a.1.2.2.2.1)))) λc=>br (RR c.2 4) (λ_=>some (.dn ((0,(a,()))))) λ_=>br (RR c.2 0) (λ_=>bd (Tf ((((a.1.1,a.1.2.1),(a.1.2.2.1,a.1.2.2.2.1)),c.1))) λb=>br (RT b.2.2 0) (λ_=>some (.dn ((0,(((a.1.1,(a.1.2.1,(a.1.2.2.1,(a.1.2.2.2.1,b.2.2)))),a.2),()))))) λ_=>gd (CD (BD (AS a.2.1) (AS [c.1])) 1048576) λ_=>RX c.1 λe=>gd (KC e 12) λ_=>RX c.1 λf=>gd (KC f 12) λ_=>br b.2.1 (λ_=>br (RR (Rl .i64 a.2.2.1 1) x.2) (λ_=>some (.dn ((1,(((b.1.1.1,(b.1.1.2,(b.1.2.1,(b.1.2.2,b.2.2)))),(Ik a.2.1 [c.1],(Rl .i64 a.2.2.1 1,(a.2.2.2.1,(Rl .i64 a.2.2.2.2.1 1,(Yj a.2.2.2.2.2 e f)))))),()))))) λ_=>some (.nx (((b.1.1.1,(b.1.1.2,(b.1.2.1,(b.1.2.2,b.2.2)))),(Ik a.2.1 [c.1],(Rl .i64 a.2.2.1 1,(a.2.2.2.1,(Rl .i64 a.2.2.2.2.1 1,(Yj a.2.2.2.2.2 e f))))))))) λ_=>br (RR (Rl .i64 a.2.2.1 1) x.2) (λ_=>some (.dn ((1,(((b.1.1.1,(b.1.1.2,(b.1.2.1,(b.1.2.2,b.2.2)))),(Ik a.2.1 [c.1],(Rl .i64 a.2.2.1 1,(a.2.2.2.1,(a.2.2.2.2.1,(Yj a.2.2.2.2.2 e f)))))),()))))) λ_=>some (.nx (((b.1.1.1,(b.1.1.2,(b.1.2.1,(b.1.2.2,b.2.2)))),(Ik a.2.1 [c.1],(Rl .i64 a.2.2.1 1,(a.2.2.2.1,(a.2.2.2.2.1,(Yj a.2.2.2.2.2 e f))))))))) λ_=>br (RT c.2 0) (λ_=>some (.dn ((0,(((a.1.1,(a.1.2.1,(a.1.2.2.1,(a.1.2.2.2.1,c.2)))),a.2),()))))) λ_=>gd (CD (BD (AS a.2.1) (AS [c.1])) 1048576) λ_=>RX c.1 λg=>gd (KC g 12) λ_=>RX c.1 λh=>gd (KC h 12) λ_=>br (RR (Rl .i64 a.2.2.1 1) x.2) (λ_=>some (.dn ((1,(((0,([],([],(0,c.2)))),(Ik a.2.1 [c.1],(Rl .i64 a.2.2.1 1,(a.2.2.2.1,(a.2.2.2.2.1,(Yj a.2.2.2.2.2 g h)))))),()))))) λ_=>some (.nx (((0,([],([],(0,c.2)))),(Ik a.2.1 [c.1],(Rl .i64 a.2.2.1 1,(a.2.2.2.1,(a.2.2.2.2.1,(Yj a.2.2.2.2.2 g h))))))))) (((x.1.1.1,(x.1.1.2,(x.1.2.1,(x.1.2.2,0)))),([],(0,(0,(0,(0,(0,(0,(0,(0,(0,(0,(0,(0,(0,(0,0)))))))))))))))))) λd=>br (neq d.1 0) (λ_=>br (RT d.2.1.1.2.2.2.2 0) (λ_=>some ([],d.2.1.1.2.2.2.2)) λ_=>some (d.2.1.2.1,0)) λ_=>br (RT d.2.1.1.2.2.2.2 0) (λ_=>some ([],d.2.1.1.2.2.2.2)) λ_=>some (d.2.1.2.1,0)) λ_=>some ([],0)
def Xl (x:((TB×((List (Int×(TC×((Bool×TD)×((List S8)×Int)))))×Int))×Int)):Option (Int×Int) :=
 bd (UV x.1) λd=>br (RT d.2 0) (λ_=>br (RT d.2 0) (λ_=>some (0,d.2)) λ_=>br (SW x.2 0) (λ_=>some (0,7)) λ_=>br (RS x.2 12) (λ_=>some (0,7)) λ_=>bd (Vj x) λf=>br (RT f.2 0) (λ_=>some (0,f.2)) λ_=>bd (loop (β:=(Nat×(Unit×Unit))) (λs2=>none) ()) λh=>none) λ_=>br (SW x.2 0) (λ_=>some (0,7)) λ_=>br (RS x.2 12) (λ_=>some (0,7)) λ_=>bd (Vj x) λg=>br (RT g.2 0) (λ_=>some (0,g.2)) λ_=>bd (loop (λ(a:((Int×((List (List TY))×((List (Int×(TC×((Bool×TD)×((List S8)×Int)))))×(Int×Int))))×(Int×Int)))=>bd (Te (((a.1.1,a.1.2.1),(a.1.2.2.1,a.1.2.2.2.1)))) λc=>br (RR c.2 4) (λ_=>some (.dn ((0,(a,()))))) λ_=>br (RR c.2 0) (λ_=>bd (Tf ((((a.1.1,a.1.2.1),(a.1.2.2.1,a.1.2.2.2.1)),c.1))) λb=>br (RT b.2.2 0) (λ_=>some (.dn ((0,(((a.1.1,(a.1.2.1,(a.1.2.2.1,(a.1.2.2.2.1,b.2.2)))),a.2),()))))) λ_=>br (NX (RR c.1 x.2) (NX (beq b.2.1 true) true)) (λ_=>some (.dn ((1,(((b.1.1.1,(b.1.1.2,(b.1.2.1,(b.1.2.2,b.2.2)))),(Rl .i64 a.2.1 1,0)),()))))) λ_=>some (.nx (((b.1.1.1,(b.1.1.2,(b.1.2.1,(b.1.2.2,b.2.2)))),(Rl .i64 a.2.1 1,a.2.2))))) λ_=>br (RT c.2 0) (λ_=>some (.dn ((0,(((a.1.1,(a.1.2.1,(a.1.2.2.1,(a.1.2.2.2.1,c.2)))),a.2),()))))) λ_=>br (NX (RR c.1 x.2) (NX (beq false true) true)) (λ_=>some (.dn ((1,(((0,([],([],(0,c.2)))),(Rl .i64 a.2.1 1,0)),()))))) λ_=>some (.nx (((0,([],([],(0,c.2)))),(Rl .i64 a.2.1 1,a.2.2))))) (((x.1.1.1,(x.1.1.2,(x.1.2.1,(x.1.2.2,0)))),(0,0)))) λe=>br (neq e.1 0) (λ_=>some (0,e.2.1.1.2.2.2.2)) λ_=>some e.2.1.2
def VN (x:Unit):Option Bool :=
 bd (Vu ()) λd=>bd (U6 (d,5)) λa=>bd (Vu ()) λe=>bd (U5 (e,5)) λb=>bd (Vu ()) λf=>bd (Xl (f,0)) λc=>br (RR a.2.2 0) (λ_=>br (RR b.2 0) (λ_=>br (RR c.2 0) (λ_=>br (NX (RR a.2.1.1 3) (NX (RR a.2.1.2.1 2) (NX (RR a.2.1.2.2.1 1) (NX (NX (RR a.2.1.2.2.2.1 (Sw true 3 0)) (NX (RR a.2.1.2.2.2.2.1 (Sw false 3 0)) (NX (RR a.2.1.2.2.2.2.2.1 (Sw false 3 0)) (NX (RR a.2.1.2.2.2.2.2.2.1 (Sw false 3 0)) (NX (RR a.2.1.2.2.2.2.2.2.2.1 (Sw false 3 0)) (NX (RR a.2.1.2.2.2.2.2.2.2.2.1 (Sw false 3 0)) (NX (RR a.2.1.2.2.2.2.2.2.2.2.2.1 (Sw false 3 0)) (NX (RR a.2.1.2.2.2.2.2.2.2.2.2.2.1 (Sw false 3 0)) (NX (RR a.2.1.2.2.2.2.2.2.2.2.2.2.2.1 (Sw false 3 0)) (NX (RR a.2.1.2.2.2.2.2.2.2.2.2.2.2.2.1 (Sw false 3 0)) (NX (RR a.2.1.2.2.2.2.2.2.2.2.2.2.2.2.2.1 (Sw false 3 0)) (NX (RR a.2.1.2.2.2.2.2.2.2.2.2.2.2.2.2.2 (Sw false 3 0)) true)))))))))))) true)))) (λ_=>br (RR (Kb (AS a.1.2.1)) 0) (λ_=>br (RR (Kb (AS b.1)) 3) (λ_=>some (RR c.1 3)) λ_=>some false) λ_=>some false) λ_=>some false) λ_=>some false) λ_=>some false) λ_=>some false
def Um (x:((TB×((List (Int×(TC×((Bool×TD)×((List S8)×Int)))))×Int))×Int)):Option Bool :=
 bd (Wh x.1) λW=>br W (λ_=>bd (VN ()) λX=>some X) λ_=>bd (U6 ((x.1,SY .i64 (Su .i64 x.2) 60))) λb=>bd (U5 ((x.1,SY .i64 (Su .i64 x.2) 60))) λi=>br (RT b.2.2 0) (λ_=>br (RR i.2 b.2.2) (λ_=>br (NX (RR b.2.1.1 0) (NX (RR b.2.1.2.1 0) (NX (RR b.2.1.2.2.1 0) (NX (NX (RR b.2.1.2.2.2.1 0) (NX (RR b.2.1.2.2.2.2.1 0) (NX (RR b.2.1.2.2.2.2.2.1 0) (NX (RR b.2.1.2.2.2.2.2.2.1 0) (NX (RR b.2.1.2.2.2.2.2.2.2.1 0) (NX (RR b.2.1.2.2.2.2.2.2.2.2.1 0) (NX (RR b.2.1.2.2.2.2.2.2.2.2.2.1 0) (NX (RR b.2.1.2.2.2.2.2.2.2.2.2.2.1 0) (NX (RR b.2.1.2.2.2.2.2.2.2.2.2.2.2.1 0) (NX (RR b.2.1.2.2.2.2.2.2.2.2.2.2.2.2.1 0) (NX (RR b.2.1.2.2.2.2.2.2.2.2.2.2.2.2.2.1 0) (NX (RR b.2.1.2.2.2.2.2.2.2.2.2.2.2.2.2.2 0) true)))))))))))) true)))) (λ_=>br (RR (Kb (AS i.1)) 0) (λ_=>bd (VN ()) λY=>some Y) λ_=>some false) λ_=>some false) λ_=>some false) λ_=>br (RT i.2 0) (λ_=>some false) λ_=>br (RT (Rl .i64 b.2.1.1 b.2.1.2.1) (SY .i64 (Su .i64 x.2) 60)) (λ_=>some false) λ_=>br (RT (Kb (AS i.1)) b.2.1.1) (λ_=>some false) λ_=>br (SU b.2.1.2.2.1 b.2.1.1) (λ_=>some false) λ_=>br (SU b.2.1.2.1 0) (λ_=>br (SU (Kb (AS b.1.2.1)) 0) (λ_=>some false) λ_=>bd (loop (λ(c:(Int×(Bool×(Int×(YD×(Int×((List (List TY))×((List (Int×(TC×((Bool×TD)×((List S8)×Int)))))×Int))))))))=>br (SW c.1 (Kb (AS i.1))) (λ_=>bd (loop (λl=>RX c.1 λU=>ix i.1 U λZ=>br (SW l.2 Z) (λ_=>bd (UR ((((c.2.2.2.2.1,c.2.2.2.2.2.1),c.2.2.2.2.2.2),l.2))) λS=>br (RR S.2 0) (λ_=>br S.1 (λ_=>some (.dn ((0,((false,l.2),()))))) λ_=>some (.nx (l.1,Rl .i64 l.2 1))) λ_=>some (.nx (l.1,Rl .i64 l.2 1))) λ_=>some (.dn ((1,(l,()))))) (c.2.1,0)) λj=>br (neq j.1 0) (λ_=>some (.dn ((1,((c.1,(j.2.1.1,c.2.2)),()))))) λ_=>RX c.1 λB=>ix i.1 B λN=>bd (Uy ((((c.2.2.2.2.1,c.2.2.2.2.2.1),c.2.2.2.2.2.2),N))) λd=>br (RT d.2.2 0) (λ_=>some (.dn ((1,((c.1,(false,c.2.2)),()))))) λ_=>br d.2.1 (λ_=>RX c.1 λC=>ix i.1 C λw=>RX w λm=>gd (KC m 12) λ_=>RX w λn=>gd (KC n 12) λ_=>some (.nx ((Rl .i64 c.1 1,(j.2.1.1,(Rl .i64 c.2.2.1 1,((Yj c.2.2.2.1 m n),(d.1.1.1,(d.1.1.2,d.1.2))))))))) λ_=>RX c.1 λD=>ix i.1 D λy=>RX y λo=>gd (KC o 12) λ_=>RX y λp=>gd (KC p 12) λ_=>some (.nx ((Rl .i64 c.1 1,(j.2.1.1,(c.2.2.1,((Yj c.2.2.2.1 o p),(d.1.1.1,(d.1.1.2,d.1.2))))))))) λ_=>some (.dn ((0,(c,()))))) ((0,(false,(0,((0,(0,(0,(0,(0,(0,(0,(0,(0,(0,(0,0))))))))))),(x.1.1.1,(x.1.1.2,x.1.2)))))))) λg=>br (neq g.1 0) (λ_=>br (oH g.2.1.2.2.2.1 b.2.1.2.2.2) (λ_=>br (RR g.2.1.2.2.1 b.2.1.2.2.1) (λ_=>bd (VJ ((((g.2.1.2.2.2.2.1,g.2.1.2.2.2.2.2.1),g.2.1.2.2.2.2.2.2),b.1))) λJ=>br J (λ_=>bd (VN ()) λK=>some K) λ_=>some false) λ_=>some false) λ_=>some false) λ_=>some g.2.1.2.1) λ_=>bd (loop (λ(a:(Int×(Bool×(Int×(YD×(Int×((List (List TY))×((List (Int×(TC×((Bool×TD)×((List S8)×Int)))))×Int))))))))=>br (SW a.1 (Kb (AS i.1))) (λ_=>bd (loop (λf=>RX a.1 λE=>ix i.1 E λO=>br (SW f.2 O) (λ_=>bd (UR ((((a.2.2.2.2.1,a.2.2.2.2.2.1),a.2.2.2.2.2.2),f.2))) λu=>br (RR u.2 0) (λ_=>br u.1 (λ_=>some (.dn ((0,((false,f.2),()))))) λ_=>some (.nx (f.1,Rl .i64 f.2 1))) λ_=>some (.nx (f.1,Rl .i64 f.2 1))) λ_=>some (.dn ((1,(f,()))))) (a.2.1,0)) λk=>br (neq k.1 0) (λ_=>some (.dn ((1,((a.1,(k.2.1.1,a.2.2)),()))))) λ_=>RX a.1 λF=>ix i.1 F λP=>bd (Uy ((((a.2.2.2.2.1,a.2.2.2.2.2.1),a.2.2.2.2.2.2),P))) λe=>br (RT e.2.2 0) (λ_=>some (.dn ((1,((a.1,(false,a.2.2)),()))))) λ_=>br e.2.1 (λ_=>RX a.1 λG=>ix i.1 G λz=>RX z λq=>gd (KC q 12) λ_=>RX z λr=>gd (KC r 12) λ_=>some (.nx ((Rl .i64 a.1 1,(k.2.1.1,(Rl .i64 a.2.2.1 1,((Yj a.2.2.2.1 q r),(e.1.1.1,(e.1.1.2,e.1.2))))))))) λ_=>RX a.1 λI=>ix i.1 I λA=>RX A λs=>gd (KC s 12) λ_=>RX A λt=>gd (KC t 12) λ_=>some (.nx ((Rl .i64 a.1 1,(k.2.1.1,(a.2.2.1,((Yj a.2.2.2.1 s t),(e.1.1.1,(e.1.1.2,e.1.2))))))))) λ_=>some (.dn ((0,(a,()))))) ((0,(false,(0,((0,(0,(0,(0,(0,(0,(0,(0,(0,(0,(0,0))))))))))),(x.1.1.1,(x.1.1.2,x.1.2)))))))) λh=>br (neq h.1 0) (λ_=>br (oH h.2.1.2.2.2.1 b.2.1.2.2.2) (λ_=>br (RR h.2.1.2.2.1 b.2.1.2.2.1) (λ_=>bd (VJ ((((h.2.1.2.2.2.2.1,h.2.1.2.2.2.2.2.1),h.2.1.2.2.2.2.2.2),b.1))) λL=>br L (λ_=>bd (VN ()) λM=>some M) λ_=>some false) λ_=>some false) λ_=>some false) λ_=>some h.2.1.2.1
end
section
open Go Go.Proofs.YtfilfloanndddaaGreat.Sv
def VK (s:TA):Int:=if (To s).2≠0 then (To s).2 else (Uw s (To s).1).2.2
def Wj (s:TA):TA:=(Uw s (To s).1).1
def Wk (s:TA):Int×Bool:=((To s).1,(Uw s (To s).1).2.1)
def Tn:Nat->TA->TA×(List (Int×Bool)×Int)
 | 0,s=>(s,([],0))
 | n+1,s=>if VK s=4 then (s,([],0)) else if VK s≠0 then (s,([],VK s)) else ((Tn n (Wj s)).1,(Wk s::(Tn n (Wj s)).2.1,(Tn n (Wj s)).2.2))
theorem X4 {s:TA} : ∀ {l:List Int} {d:Int},Vr s l=some d -> ∃ p q,l=p++d::q/\(Wc false (λs j=>(Vq s.1 j,0)) s d).1=true /\ ∀ x∈p,¬ (Wc false (λs j=>(Vq s.1 j,0)) s x).1=true
 | [],_,h=>by cases h
 | x::l,d,h=>by
  unfold Vr at h;split at h
  ·rename_i a;cases h;exact ⟨[],l,rfl,a,λ_ h=>by cases h⟩
  ·rename_i a;obtain ⟨p,q,rfl,b,c⟩:=X4 h
   exact ⟨x::p,q,rfl,b,λy hy=>by
    rcases List.mem_cons.1 hy with rfl | hy
    ·exact a
    ·exact c y hy⟩
theorem Z4 {s:TA} (v:VSt s):((To s).2=4/\s.2.1=[])\/(To s).2=9\/((To s).2=0/\(To s).1∈TI 0 s.1.2):=by
 have a:(TE s).2=0:=TL.2 v;unfold To;rw [if_neg (by simp [a])];by_cases h:TI 0 s.1.2=[]
 ·rw [if_pos h];refine .inl ⟨rfl,?_⟩;have:=v.due;rw [h] at this;simpa using this
 ·rw [if_neg h];cases hc:Vr s (TI 0 s.1.2) with
  | none=>exact .inr (.inl rfl)
  | some d =>
   obtain ⟨p,q,e,_⟩:=X4 hc;exact .inr (.inr ⟨rfl,by rw [e];simp⟩)
theorem fZ (s:TA) (j:Job):(Xi s j).2.2≠4:=by
 unfold Xi;split
 ·simp
 ·split
  ·simp
  ·unfold Yc;split
   ·simp
   ·split<;>simp
theorem iZ {s:TA} (v:VSt s) {d:Int} (h:d∈TI 0 s.1.2):(Uw s d).2.2≠4:=by
 have b:(TE s).2=0:=TL.2 v;obtain ⟨j,n,a,_⟩:=v.atDue h;unfold Uw;rw [if_neg (by simp [b]),a];exact fZ s j
theorem XV {s0 s:TA} (g:Gd s0 s):Te s=some (To s)/\X5 s=some (To s):=⟨mh g.1.sm,fR g.1.sm⟩
theorem YR {s0 s:TA} (g:Gd s0 s) (d:Int):Tf (s,d)=some (Uw s d)/\Uy (s,d)=some (Uw s d) :=
 ⟨af g.1.sm (Yw g.2.2) d,fS g.1.sm (Yw g.2.2) d⟩
theorem ZA {s0 s:TA} (g:Gd s0 s) (e:VK s=0):(To s).2=0/\(To s).1∈TI 0 s.1.2/\(Uw s (To s).1).2.2=0:=by
 unfold VK at e;rcases Z4 g.1 with h | h | h
 ·rw [if_pos (by rw [h.1];decide),h.1] at e;cases e
 ·rw [if_pos (by rw [h];decide),h] at e;cases e
 ·rw [if_neg (by simp [h.1])] at e;exact ⟨h.1,h.2,e⟩
theorem XB {s0 s:TA} (g:Gd s0 s) (e:VK s=0) : ∃ (n:Nat) (j:Job),(Wk s).1=(n:Int)/\n<12/\JobAt s.1 n j/\Vq s.1 j=true/\StepF s n j (Wj s) (Wk s).2/\Gd s0 (Wj s):=by
 obtain ⟨_,a,b⟩:=ZA g e;exact cz g a b
theorem bm {s0 s:TA} (g:Gd s0 s) (e:VK s=4):(To s).2=4/\s.2.1=[]:=by
 unfold VK at e;rcases Z4 g.1 with h | h | h
 ·exact h
 ·rw [if_pos (by rw [h];decide),h] at e;cases e
 ·rw [if_neg (by simp [h.1])] at e;exact absurd e (iZ g.1 h.2)
theorem eW {s0 s:TA} {N:Nat} (g:Gd s0 s) (a:UZ s.1.2.flatten<=N) (e:VK s=0):gj N (Wj s)+1<=gj N s/\UZ (Wj s).1.2.flatten<=N:=by
 obtain ⟨n,j,_,d,c,_,F,_⟩:=XB g e;refine ⟨iL g.1 a d c F,?_⟩;by_cases b:0<Tb s.1 j
 ·rw [(F.read b).2.1];exact a
 ·rw [(F.inst (by omega)).2.1];exact Nat.le_trans (bN g.1 (Yw g.2.2) c b) a
theorem cI {s0:TA} {N:Nat} : ∀ {n:Nat} {s:TA},Gd s0 s->UZ s.1.2.flatten<=N->(Tn n s).2.1.length<=n/\(Tn n s).2.1.length+gj N (Tn n s).1<=gj N s/\Gd s0 (Tn n s).1/\UZ (Tn n s).1.1.2.flatten<=N/\((Tn n s).2.2=0->(Tn n s).2.1.length<n->(Tn n s).1.2.1=[])
 | 0,s,g,hN=>⟨Nat.le_refl _,by simp [Tn],g,hN,λ_ h=>absurd h (by simp [Tn])⟩
 | n+1,s,g,hN=>by
  unfold Tn;by_cases b:VK s=4
  ·rw [if_pos b];exact ⟨by simp,by simp,g,hN,λ_ _=>(bm g b).2⟩
  ·rw [if_neg b];by_cases a:VK s=0
   ·rw [if_neg (by simp [a])];obtain ⟨_,_,_,_,_,_,_,d⟩:=XB g a;obtain ⟨m,f⟩:=eW g hN a;obtain ⟨i,o,j,k,l⟩:=cI (n:=n) d f;refine ⟨by simpa using i,?_,j,k,λc e=>l c (by simpa using e)⟩;simp only [List.length_cons];omega
   ·rw [if_pos a];exact ⟨by simp,by simp,g,hN,λc=>absurd c a⟩
def Xc (u:Xy) (x:Int×Bool):Xy:=(Rl .i64 u.1 1,(u.2.1,(if x.2=true then Rl .i64 u.2.2.1 1 else u.2.2.1,Yj u.2.2.2 x.1.toNat x.1.toNat)))
def U3 (u:Xy) (l:List (Int×Bool)):Xy:=l.foldl Xc u
theorem cS : ∀ (l:List (Int×Bool)) (u:Xy),0<=u.1->u.1+l.length<=2000000->(U3 u l).1=u.1+l.length/\(U3 u l).2.1=u.2.1
 | [],u,_,_=>by simp [U3]
 | x::l,u,h0,h=>by
  have a:((x::l).length:Int)=(l.length:Int)+1:=by simp
  rw [a] at h ⊢
  have e:(Xc u x).1=u.1+1:=by
   show Rl .i64 u.1 1=_;exact R9 (by omega)
  obtain ⟨b,c⟩:=cS l (Xc u x) (by omega) (by omega);exact ⟨by show (U3 (Xc u x) l).1=_;rw [b,e];omega,c⟩
end
end Go.Proofs.YtfilfloanndddaaGreat.Pl
