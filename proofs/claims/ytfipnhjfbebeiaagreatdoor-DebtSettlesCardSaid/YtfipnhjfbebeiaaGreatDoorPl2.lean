/- Functions of the program and of the specification as plain functions, and laws about them. No condition. -/
import Derived.Test.YtfipnhjfbebeiaaGreatDoorPl1
import Derived.KernelRfl
set_option linter.all false
open List renaming drop_eq_getElem_cons->sk, filter_cons->ul, find?_append->xT, find?_cons->iP, find?_some->ym, flatten_cons->kd, foldl_cons->hI, getElem?_eq_getElem->co, getElem?_eq_none->a9, getElem?_eq_some_iff->a8, getElem?_of_mem->ee, getElem?_take->pg, getElem_mem->sr, length_append->hV, length_cons->ci, length_map->s8, length_nil->cP, length_pos_iff->ed, length_take->vL, map_cons->ll, map_map->TT, mem_append->nP, mem_append_right->s6, mem_cons->ey, mem_flatten->l5, mem_map->oy, mem_map_of_mem->l6, mem_of_find?_eq_some->xk, mem_of_getElem?->bo, nil_append->oj, nodup_cons->ol, sum_cons->F2, take_add_one->gM, take_append_drop->s9, take_of_length_le->eo
open Nat renaming add_comm->aaa, add_mul->yo, le_refl->dc, le_trans->ta, mul_le_mul_right->ox, sub_le->x8, zero_add->eg
open Int renaming toNat_natCast->bl
open Option renaming filter->mR, getD_some->hM, none_or->vv, or_assoc->iz, toList_some->xw
namespace Go.Proofs.YtfipnhjfbebeiaaGreatDoor.Pl
section
open Go Sv
def zS:Th:=((0,[]),([],0))
def Uo (j:Job):List Tj:=j.2.2.2.1
def YO (s:Th) (j:Job):Nat:=if Vn s.1 j=true then j.1.toNat else j.1.toNat+1
def Vm (s:Th) (j:Job):Tl:=if Uo j=[] then Ut s.1 j.1.toNat [] else Ut (Ut s.1 j.1.toNat []) (YO s j) (Tq (Ut s.1 j.1.toNat []).2 (YO s j)++[(s.2.2,Uo j)])
def YD (s:Th) (j:Job):Int:=if Uo j=[] then s.2.2 else s.2.2+1
def ZB (s:Th) (j:Job):Th×Int :=
 if 0<UA s.1 j\/Vg s.1 j=false then (zS,9) else if s.2.2>1000000/\Uo j≠[] then (zS,5) else (ZJ s (Vm s j) (YD s j) j.1,0)
theorem Z9 : ∀ (ls:List (List UK)) (i:Nat),(To i ls).Nodup /\ ∀ d∈To i ls,(i:Int)<=d
 | [],_=>⟨.nil,λ_ h=>by cases h⟩
 | rs::ls,i=>by
  obtain ⟨b,a⟩:=Z9 ls (i+1);rw [XL];by_cases h:rs.length=2
  ·rw [if_pos h];refine ⟨ol.2 ⟨λc => ?_,b⟩,λd hd => ?_⟩
   ·have:=a _ c;omega
   ·rcases ey.1 hd with e | hd
    ·omega
    ·have:=a d hd;omega
  ·rw [if_neg h];exact ⟨b,λd hd=>by have:=a d hd;omega⟩
theorem VSt.nodup {s:Th} (v:VSt s):(s.2.1.map (·.1)).Nodup:=by rw [v.due];exact (Z9 _ _).1
theorem JobAt.out {L:Tl} {n:Nat} {j:Job} (h:JobAt L n j) (v:VLev L) (hs:(∀ r∈Tq L.2 n,r.2.length<=2000)):VL (Uo j)/\((Uo j).length:Int)<=2*Us L.1 n/\j.1=(n:Int)/\n<12/\Tq L.2 n≠[]:=by
 obtain ⟨a,b,d,k,e,rfl,i,_,l,m⟩:=h;have c:Tq L.2 n=[a,b]:=by unfold Tq;rw [e];rfl
 have s:=hs a (by rw [c];simp);have t:=hs b (by rw [c];simp);have u:=((v.own n).2 a (by rw [c];simp)).le;have w:=((v.own n).2 b (by rw [c];simp)).le;obtain ⟨f,g⟩:=eV m l d i (by omega);have p:=(a8.1 e).1;have q:=v.len;refine ⟨f,?_,rfl,by omega,by rw [c];simp⟩
 have o:((Uo ((n:Int),Va b.2 a.2 d k)).length:Int)<=(b.2.length:Int)+(a.2.length:Int):=by
  have:(Uo ((n:Int),Va b.2 a.2 d k)).length<=b.2.length+a.2.length:=g;omega
 omega
def jP (L:Tl):Prop := ∀ i,∀ r∈Tq L.2 i,r.2.length<=2000
structure InstF (s:Th) (n:Nat) (j:Job):Prop where
 l1:VLev (Ut s.1 n [])
 to12:Uo j≠[]->YO s j<12
 vr:Uo j≠[]->VR (Us s.1.1 (YO s j)) (s.2.2,Uo j)
 id : ∀ y∈(Ut s.1 n []).2.flatten,y.1≠s.2.2
 room:Uo j≠[]->(Tq (Ut s.1 n []).2 (YO s j)).length<2
 lev:VLev (Vm s j)
theorem gN {s:Th} (v:VSt s) (A:jP s.1) {n:Nat} {j:Job} (z:JobAt s.1 n j) (G : ¬ 0<UA s.1 j) (hc:Vg s.1 j=true) (x:Uo j≠[]->s.2.2<=1000000):InstF s n j:=by
 obtain ⟨C,D,E,t,I⟩:=z.out v.lev (A n);have a:=v.lev.leave (n:=n) t;have e:j.1.toNat=n:=by rw [E];simp
 have b:Vn s.1 j≠true->n+1<12/\(Tq s.1.2 (n+1)).length<2:=λhs=>by
  unfold Vg at hc;rw [show decide (0<UA s.1 j)=false by simp;omega,e] at hc;cases o:Vn s.1 j with
  | true=>exact absurd o hs
  | false =>
   rw [o] at hc;simpa [Yy,Tq] using hc
 have d : ∀ y∈(Ut s.1 n []).2.flatten,y.1≠s.2.2:=λy r=>by
  obtain ⟨p,q,i,k⟩:=Xz s.1 n [];rw [k,oj] at r
  have B:y∈s.1.2.flatten:=by
   rw [i];rcases nP.1 r with h | h
   ·exact List.mem_append_left _ h
   ·exact s6 _ (s6 _ h)
  have:=Zq B;have:=v.n3;omega
 have m:YO s j<12/\(Tq (Ut s.1 n []).2 (YO s j)).length<2/\((Uo j).length:Int)<=Us s.1.1 (YO s j):=by
  unfold YO;by_cases hs:Vn s.1 j=true
  ·rw [if_pos hs,e];refine ⟨t,by rw [Wx,if_pos rfl];simp,?_⟩;have c:=hs;unfold Vn at c;rw [e] at c;exact of_decide_eq_true c
  ·rw [if_neg hs,e];obtain ⟨i,k⟩:=b hs;refine ⟨i,by rw [Wx,if_neg (by omega)];exact k,?_⟩;rw [cA];exact D
 obtain ⟨u,w,F⟩:=m;have g:Uo j≠[]->VR (Us s.1.1 (YO s j)) (s.2.2,Uo j):=λf=>⟨v.n1,x f,C,f,F⟩;refine ⟨a,λ_=>u,g,d,λ_=>w,?_⟩;unfold Vm;rw [e];by_cases l:Uo j=[]
 ·rw [if_pos l];exact a
 ·rw [if_neg l];exact a.arrive u w (g l) d
theorem bZ {s:Th} (v:VSt s) (u:jP s.1) {n:Nat} {j:Job} (t:JobAt s.1 n j) (w : ¬ 0<UA s.1 j) (hc:Vg s.1 j=true) (y:Uo j≠[]->s.2.2<=1000000) (l:Int) :
  (bd (Vq (s.1,(n:Int))) λd=>br (Oa d.2.2 0) (λ_=>br (S6 (Ki (AS j.2.2.2.1)) 0) (λ_=>bd (UY (s,(j,l))) λK=>br (Hg K) (λ_=>bd (Ua ((d.1,(SF .i64 (n:Int) 1,(s.2.2,j.2.2.2.1))))) λm=>br (Ry m.2 0) (λ_=>some ((((0,[]),([],0)),m.2))) λ_=>bd (UO ((s,(m.1,(SF .i64 s.2.2 1,(n:Int)))))) λL=>some L) λ_=>bd (Ua ((d.1,((n:Int),(s.2.2,j.2.2.2.1))))) λo=>br (Ry o.2 0) (λ_=>some ((((0,[]),([],0)),o.2))) λ_=>bd (UO ((s,(o.1,(SF .i64 s.2.2 1,(n:Int)))))) λM=>some M) λ_=>br (Ry d.2.2 0) (λ_=>some ((((0,[]),([],0)),d.2.2))) λ_=>bd (UO ((s,(d.1,(s.2.2,(n:Int)))))) λN=>some N) λ_=>br (Ry d.2.2 0) (λ_=>some ((((0,[]),([],0)),d.2.2))) λ_=>bd (UO ((s,(d.1,(s.2.2,(n:Int)))))) λk=>some k)
  = some (ZJ s (Vm s j) (YD s j) j.1,0):=by
 have F:=gN v u t w hc y;obtain ⟨G,O,g,I,J⟩:=t.out v.lev (u n);have i:j.1.toNat=n:=by rw [g];simp
 have D:=v.n2;have C:=v.n1;have A:=v.jsmall;have a:=F.lev;rw [eQ v.lev J,Sx];show (br (Oa 0 0) _ _)=_;rw [TK,if_pos rfl,Tp,Tn,TM];by_cases b:Uo j=[]
 ·rw [if_neg (show ¬ ((j.2.2.2.1.length:Int)>0) by rw [show j.2.2.2.1=[] from b];simp),TQ,if_pos rfl];unfold Vm at a ⊢;rw [if_pos b,i] at a;rw [if_pos b,i,aO v.nodup (by omega) a,Sx];unfold YD;rw [if_pos b,g]
 ·rw [if_pos (show ((j.2.2.2.1.length:Int)>0) by have:=ed.2 b;have h:(Uo j).length=j.2.2.2.1.length:=rfl;omega),bM v.lev g I,Sx,UT];have E:(Uo j).length<=1048576:=by have:=G.len;omega
  have B:kR [] (Us (Ut s.1 n []).1 (YO s j)) (s.2.2,Uo j)=0:=jm.2 ⟨F.vr b,by simp⟩;have f:=dL F.l1 (F.to12 b) (x:=(s.2.2,Uo j)) E F.id (F.room b);rw [if_neg (by simp [B])] at f
  have z:Vm s j=Ut (Ut s.1 n []) (YO s j) (Tq (Ut s.1 n []).2 (YO s j)++[(s.2.2,Uo j)]):=by
   unfold Vm;rw [if_neg b,i]
  have q:YD s j=s.2.2+1:=by unfold YD;rw [if_neg b]
  rw [<- z] at f;have p:SF .i64 s.2.2 1=s.2.2+1:=Sh (by omega);have r:=aO v.nodup (by omega) a (s.2.2+1) (n:Int);rw [TV];have c:YO s j=if Vn s.1 j=true then n else n+1:=by unfold YO;rw [i]
  by_cases hs:Vn s.1 j=true
  ·rw [if_pos hs] at c ⊢;rw [c] at f;have e:Ua (Ut s.1 n [],((n:Int),(s.2.2,j.2.2.2.1)))=some (Vm s j,0):=f;rw [e,Sx,TQ,if_pos rfl,p,r,Sx,q,g]
  ·rw [if_neg hs] at c ⊢;rw [c] at f;rw [Ts (by omega)];have e:Ua (Ut s.1 n [],(((n+1:Nat):Int),(s.2.2,j.2.2.2.1)))=some (Vm s j,0):=f;rw [e,Sx,TQ,if_pos rfl,p,r,Sx,q,g]
theorem d6 {s:Th} (m:Sm s) (k:jP s.1) (a:Int):WC (s,a)=some (WA zS ZB s a):=by
 unfold WC;rw [cp m,Sx];unfold WA;by_cases b:(Tk s).2=0;rotate_left
 ·rw [if_pos b,TQ,if_neg b,if_pos b];rfl
 rw [if_neg (show ¬ (Tk s).2≠0 by simp [b]),if_neg (show ¬ (Tk s).2≠0 by simp [b])];have v:=Tu.1 b;unfold aL;cases p:Zl a 0 (To 0 s.1.2) with
 | none=>rfl
 | some i =>
  obtain ⟨j,n,l,o,f,g,q⟩:=v.at p;have:=v.lev.len;subst o;simp only [l];unfold UL ZB;rw [TQ,if_pos rfl,Sx,TM];by_cases e:0<UA s.1 j
  ·rw [if_pos (show ((UA s.1 j:Int))>0 by omega),if_pos (.inl e)];rfl
  rw [if_neg (show ¬ ((UA s.1 j:Int))>0 by omega),cF v.lev f (by omega) _ rfl,Sx,UT,TV];by_cases hc:Vg s.1 j=true;rotate_left
  ·rw [if_neg hc,if_pos (.inr (by simpa using hc))];rfl
  rw [if_pos hc,if_neg (show ¬ (0<UA s.1 j\/Vg s.1 j=false) by rw [hc];simp;omega),TM];by_cases d:s.2.2>1000000
  ·rw [if_pos d,Tp,Tn,TM];by_cases c:Uo j=[]
   ·rw [if_neg (show ¬ ((j.2.2.2.1.length:Int)>0) by rw [show j.2.2.2.1=[] from c];simp),if_neg (by simp [c])];exact bZ v k g e hc (λh=>absurd c h) _
   ·rw [if_pos (show ((j.2.2.2.1.length:Int)>0) by have:=ed.2 c;have h:(Uo j).length=j.2.2.2.1.length:=rfl;omega),if_pos ⟨d,c⟩];rfl
  ·rw [if_neg d,if_neg (by simp [d])];exact bZ v k g e hc (λh=>by omega) _
end
section
open Go Sv
def Yz (L:Tl) (j:Job):Xj:=match Tq L.2 j.1.toNat with
 | [r0,r1]=>Va r1.2 r0.2 j.2.2.1.2.2 (j.2.2.2.2.toNat+1)
 | _=>j.2
def Zw (s:Th) (j:Job):Th:=(s.1,(lset s.2.1 ((Zl j.1 0 (To 0 s.1.2)).getD 0) (j.1,Yz s.1 j),s.2.2))
theorem kD {s:Th} (m:Sm s) (v:VSt s) {a:Int} {i:Nat} (h:Zl a 0 (To 0 s.1.2)=some i) {j:Job} (e:s.2.1[i]? = some j) (t:0<UA s.1 j):YH (s,(a,1))=some (Zw s j,(1,0)):=by
 obtain ⟨j',n,f,y,u,q,D⟩:=v.at h;rw [e] at f;cases f;subst y;have r:(Tk s).2=0:=Tu.2 v
 have l:YF s (n:Int)=((i:Int),0):=by
  unfold YF;rw [if_neg (show ¬ (Tk s).2≠0 by simp [r]),h]
 have w:=v.jsmall;have hi:=(a8.1 e).1;unfold YH;rw [tX m,Sx,TQ,if_pos r,TP,if_neg (show ¬ ((1:Int)<0) by omega),cK m,Sx,l,TQ,if_pos rfl,Ti,TC e,(JobAt.left q).1,Sx,TK,if_neg (show ¬ ((UA s.1 j:Int)=0) by omega),Ti,TC e];obtain ⟨b,c,d,k,p,rfl,x,C,A,B⟩:=q;have z:Tq s.1.2 n=[b,c]:=by unfold Tq;rw [p];rfl
 have o:UA s.1 ((n:Int),Va c.2 b.2 d k)=c.2.length+b.2.length-k:=by
  unfold UA;simp only [bl,p];show c.2.length+b.2.length-((k:Int)).toNat=_;rw [bl]
 rw [o] at t;have g:=cB B A d x (k:=1);rw [show min 1 (c.2.length+b.2.length-k)=1 by omega] at g;show (bd (Uv (Va c.2 b.2 d k,((1:Nat):Int))) λE=>_)=_;rw [g,Sx];simp only;rw [TQ,if_pos rfl];unfold UX;rw [UP (by simp only [AS];omega),Sx,Ti,S3,if_pos (by simp only [AS];exact hi),TC e];unfold Zw Yz;simp only [bl,z,h,hM];have e1:(Va c.2 b.2 d k).2.1.2.2=d:=aZ _ _ _ _;have e2:(Va c.2 b.2 d k).2.2.2.toNat=k:=by show ((k:Int)).toNat=k;rw [bl]
 rw [e1,e2];rfl
def Xi (s:Th) (j:Job):Th×(Bool×Int):=if Vg s.1 j=false then (zS,(false,9)) else if 0<UA s.1 j then (Zw s j,(false,0)) else ((ZB s j).1,(Oa (ZB s j).2 0,(ZB s j).2))
def WO (s:Th) (a:Int):Th×(Bool×Int):=if (Tk s).2≠0 then (zS,(false,(Tk s).2)) else match aL s a with
 | some j=>Xi s j
 | none=>(zS,(false,4))
theorem cD {s:Th} (m:Sm s) (g:jP s.1) (a:Int):Uw (s,a)=some (WO s a):=by
 unfold Uw;rw [cp m,Sx,d6 m g];unfold WA WO;by_cases b:(Tk s).2=0;rotate_left
 ·rw [if_pos b,TQ,if_neg b,if_pos b];rfl
 rw [if_neg (show ¬ (Tk s).2≠0 by simp [b]),if_neg (show ¬ (Tk s).2≠0 by simp [b]),if_neg (show ¬ (Tk s).2≠0 by simp [b])];have v:=Tu.1 b;unfold aL;cases f:Zl a 0 (To 0 s.1.2) with
 | none=>rfl
 | some i =>
  obtain ⟨j,n,e,k,d,h,l⟩:=v.at f;have:=v.lev.len;simp only [e];unfold Xi UL;rw [TQ,if_pos rfl,cF v.lev d (by omega) _ rfl,Sx,UT,TV];cases hc:Vg s.1 j with
  | false=>rw [if_neg (by simp),if_pos rfl];rfl
  | true =>
   rw [if_pos rfl,if_neg (by simp),Sx,TM];by_cases c:0<UA s.1 j
   ·rw [if_pos (show ((UA s.1 j:Int))>0 by omega),if_pos c,kD m v f e c];rfl
   ·rw [if_neg (show ¬ ((UA s.1 j:Int))>0 by omega),if_neg c];rfl
end
section
open Go Sv
theorem aV {ls:List (List UK)} {d:Int} (h:d∈To 0 ls) : ∃ (n:Nat) (a b:UK),d=(n:Int)/\ls[n]? = some [a,b]:=by
 obtain ⟨k,f⟩:=ee h;obtain ⟨n,c,a,b,e⟩:=Xy f;exact ⟨n,a,b,by rw [c,eg],e⟩
theorem dF {l:List (List UK)} {n:Int} (i:0<n) (h : ∀ x∈l.flatten,x.1<n):WT l<n:=by
 have f : ∀ (rs:List UK) (m:Int),m<n->(∀ x∈rs,x.1<n)->rs.foldl (λm r=>TY m r.1) m<n:=by
  intro rs
  induction rs with
  | nil=>intro m b _;exact b
  | cons r rs e =>
   intro m b c;rw [hI];refine e _ ?_ λx d=>c x (by simp [d]);rw [XH];have:=c r (by simp);omega
 have two : ∀ (ls:List (List UK)) (m:Int),m<n->(∀ rs∈ls,∀ x∈rs,x.1<n)->ls.foldl (λm rs=>rs.foldl (λm r=>TY m r.1) m) m<n:=by
  intro ls
  induction ls with
  | nil=>intro m b _;exact b
  | cons rs ls e =>
   intro m b c;rw [hI];exact e _ (f rs m b (c rs (by simp))) λg a=>c g (by simp [a])
 exact two l 0 i λrs a x d=>h x (l5.2 ⟨rs,a,d⟩)
theorem pP {l:List (List UK)} (e:l.getLast? ≠ some []) {n:Nat} (a:Tq l n≠[]) (b : ∀ i,n<i->Tq l i=[]):l.length=n+1:=by
 have f:n<l.length:=by
  by_cases h:n<l.length
  ·exact h
  ·unfold Tq at a;rw [a9 (by omega)] at a;exact absurd rfl a
 by_cases c:l.length=n+1
 ·exact c
 ·exfalso;have d:=b (l.length-1) (by omega);refine e ?_;rw [List.getLast?_eq_getElem?,WE (by omega),d]
theorem ao {js:List Job} {d:Int} {j:Job} (h:Uk js d=some j):j∈js/\j.1=d:=by
 unfold Uk at h;have a:=ym h;unfold cQ at a;rw [Vt] at a;exact ⟨xk h,(of_decide_eq_true a).symm⟩
theorem jX {L:Tl} (v:VLev L) {n:Nat} {b c:UK} (h:L.2[n]? = some [b,c]):JobAt L n (WW L (n:Int)):=by
 have a:Tq L.2 n=[b,c]:=by unfold Tq;rw [h];rfl
 refine ⟨b,c,decide ((n:Int)=(L.2.length:Int)-1),0,h,?_,Nat.zero_le _,λhd => ?_,VR.vl' v (n:=n) (by rw [a];simp),VR.vl' v (n:=n) (by rw [a];simp)⟩
 ·unfold WW;rw [bl,a]
 ·have:=of_decide_eq_true hd;have:=(a8.1 h).1;omega
theorem o9 {s:Th} (v:VSt s) {L:Tl} (t:VLev L) {next a:Int} (E:1<=next) (F:next<=1000001) (G : ∀ x∈L.2.flatten,x.1<next)
  (I : ∀ (n:Nat) (f g:UK),s.1.2[n]? = some [f,g]->(n:Int)≠a->(∃ p q,L.2[n]? = some [p,q])->L.2[n]? = some [f,g]/\(n+1=s.1.2.length->n+1=L.2.length)):VSt (ZJ s L next a):=by
 have b : ∀ d∈To 0 L.2,(We s L a d).1=d /\ ∃ n,JobAt L n (We s L a d):=λd hd=>by
  obtain ⟨n,p,q,rfl,r⟩:=aV hd;unfold We;cases i:(if (n:Int)=a then none else Uk s.2.1 (n:Int)) with
  | none =>
   rw [Option.getD_none];have h:=jX t r;refine ⟨?_,n,h⟩;obtain ⟨_,_,_,_,_,e,_⟩:=h;rw [e]
  | some j =>
   rw [hM];by_cases l:(n:Int)=a
   ·rw [if_pos l] at i;cases i
   rw [if_neg l] at i;obtain ⟨o,c⟩:=ao i;refine ⟨c,n,?_⟩;obtain ⟨m,f,g,D,k,u,rfl,w,y,z,A⟩:=v.job j o;have J:m=n:=by have:(m:Int)=(n:Int):=c;omega
   subst J;obtain ⟨B,C⟩:=I m f g u l ⟨p,q,r⟩;exact ⟨f,g,D,k,B,rfl,w,λh=>C (y h),z,A⟩
 refine ⟨t,E,F,dF (by show 0<next;omega) G,?_,λj o => ?_⟩
 ·show ((To 0 L.2).map (We s L a)).map (·.1)=To 0 L.2;rw [TT]
  conv=>rhs;rw [<- List.map_id (To 0 L.2)]
  exact List.map_congr_left λd hd=>(b d hd).1
 ·obtain ⟨d,hd,rfl⟩:=oy.1 o;exact (b d hd).2
theorem Xx {l:List (List UK)} {n:Nat} {b c:UK}:l[n]? = some [b,c]<->Tq l n=[b,c]:=by
 unfold Tq;constructor
 ·intro h;rw [h];rfl
 ·intro h;cases a:l[n]? with
  | none=>rw [a] at h;cases h
  | some rs=>rw [a] at h;exact congrArg some h
theorem V0 {s:Th} {j:Job} {n:Nat} (b:j.1.toNat=n) (i:Nat):Tq (Vm s j).2 i=if Uo j≠[]/\i=YO s j then (if i=n then [] else Tq s.1.2 i)++[(s.2.2,Uo j)] else if i=n then [] else Tq s.1.2 i:=by
 unfold Vm;rw [b];by_cases a:Uo j=[]
 ·rw [if_pos a,if_neg (by simp [a]),Wx]
 ·rw [if_neg a,Wx];by_cases hi:i=YO s j
  ·rw [if_pos hi,if_pos ⟨a,hi⟩,Wx,<- hi]
  ·rw [if_neg hi,if_neg (by simp [hi]),Wx]
theorem jh {s:Th} (v:VSt s) (u:jP s.1) {n:Nat} {j:Job} (t:JobAt s.1 n j) (B : ¬ 0<UA s.1 j) (hc:Vg s.1 j=true) (r:Uo j≠[]->s.2.2<=1000000):VSt (ZJ s (Vm s j) (YD s j) j.1):=by
 have F:=gN v u t B hc r;obtain ⟨O,P,w,S,q⟩:=t.out v.lev (u n);have l:j.1.toNat=n:=by rw [w];simp
 have E:=v.n1;have G:=v.n2
 have k:s.2.2<=YD s j/\YD s j<=1000001/\(Uo j≠[]->s.2.2<YD s j):=by
  unfold YD;by_cases d:Uo j=[]
  ·rw [if_pos d];exact ⟨by omega,by omega,λh=>absurd d h⟩
  ·rw [if_neg d];have:=r d;exact ⟨by omega,by omega,λ_=>by omega⟩
 refine o9 v F.lev (by omega) k.2.1 (λx L => ?_) (λm z A D C N => ?_)
 ·obtain ⟨i,hi⟩:=ax.1 L;rw [V0 l] at hi
  have b : ∀ {y:UK},y∈(if i=n then [] else Tq s.1.2 i)->y.1<YD s j:=fun {y} o=>by
   by_cases a:i=n
   ·rw [if_pos a] at o;cases o
   ·rw [if_neg a] at o;have:=Zq (ax.2 ⟨i,o⟩);have:=v.n3;omega
  split at hi
  ·rename_i hh;rcases nP.1 hi with hi | hi
   ·exact b hi
   ·rw [List.mem_singleton.1 hi];exact k.2.2 hh.1
  ·exact b hi
 ·have f:m≠n:=λe=>C (by rw [w,e]);have g:Tq s.1.2 m=[z,A]:=Xx.1 D
  have p : ¬ (Uo j≠[]/\m=YO s j):=λ⟨d,J⟩=>by
   have:=F.room d;rw [Wx,<- J,if_neg f,g] at this;simp at this
  have c:Tq (Vm s j).2 m=[z,A]:=by rw [V0 l,if_neg p,if_neg f,g]
  refine ⟨Xx.2 c,λM=>(pP F.lev.last (by rw [c];simp) λi hi => ?_).symm⟩;have a:Tq s.1.2 i=[]:=by unfold Tq;rw [a9 (by omega)];rfl
  have I:n<s.1.2.length:=by
   by_cases h:n<s.1.2.length
   ·exact h
   ·unfold Tq at q;rw [a9 (by omega)] at q;exact absurd rfl q
  have K:YO s j<=n+1:=by unfold YO;rw [l];split<;>omega
  rw [V0 l,if_neg (by rintro ⟨_,h⟩;omega),a];split<;>rfl
theorem Job.steps {L:Tl} {n:Nat} {j:Job} (f:JobAt L n j) (h:0<UA L j):JobAt L n (j.1,Yz L j):=by
 obtain ⟨a,b,c,k,d,rfl,o,g,l,m⟩:=f;have i:=Xx.1 d
 have e:UA L ((n:Int),Va b.2 a.2 c k)=b.2.length+a.2.length-k:=by
  unfold UA;simp only [bl,d];show b.2.length+a.2.length-((k:Int)).toNat=_;rw [bl]
 rw [e] at h;refine ⟨a,b,c,k+1,d,?_,by omega,g,l,m⟩;unfold Yz;simp only [bl,i];have e1:(Va b.2 a.2 c k).2.1.2.2=c:=aZ _ _ _ _;have e2:(Va b.2 a.2 c k).2.2.2.toNat=k:=by show ((k:Int)).toNat=k;rw [bl]
 rw [e1,e2]
theorem kF {s:Th} (v:VSt s) {j:Job} {i n:Nat} (e:Zl j.1 0 (To 0 s.1.2)=some i) (a:s.2.1[i]? = some j) (d:JobAt s.1 n j) (c:0<UA s.1 j):VSt (Zw s j):=by
 unfold Zw;rw [e,hM];refine ⟨v.lev,v.n1,v.n2,v.n3,?_,λx hx => ?_⟩
 ·show (s.2.1.set i (j.1,Yz s.1 j)).map (·.1)=_;rw [<- v.due,List.map_set];refine List.ext_getElem? λk => ?_;rw [List.getElem?_set];by_cases b:i=k
  ·subst b;have hi:=(a8.1 a).1;rw [if_pos rfl,s8,if_pos hi,List.getElem?_map,a];rfl
  ·rw [if_neg b]
 ·rcases List.mem_or_eq_of_mem_set hx with hx | hx
  ·exact v.job x hx
  ·rw [hx];exact ⟨n,Job.steps d c⟩
end
section
open Go Sv
theorem qO {B:Int} {M:List (List UK)} {f:(Int×List (List UK))->Option (LR (Int×List (List UK)) (Nat×((Int×List (List UK))×Unit)))} (a:f (B,[])=some (.dn (0,((B,[]),())))) (hs : ∀ k,k<M.length->f (B,M.take (k+1))=if Tq M k=[] then some (.nx (B,M.take k)) else some (.dn (0,((B,M.take (k+1)),())))) : ∀ k,k<=M.length->IL (k+1) f (B,M.take k)=some (0,((B,M.take (Ye M k)),()))
 | 0,_=>by rw [List.take_zero];exact US a
 | k+1,hk=>by
  have h:=hs k (by omega);unfold Ye;by_cases b:Tq M k=[]
  ·rw [if_pos b] at h ⊢;rw [UN h];exact qO a hs k (by omega)
  ·rw [if_neg b] at h ⊢;exact US h
theorem ov {M:List (List UK)} {k:Nat} (h:k<M.length):M.take (k+1)=M.take k++[Tq M k]:=by
 rw [gM,WE h];rfl
theorem dU {L:Tl} (s:L.2.length<=1000) {n:Nat} (u:n<1000) {r:List UK} (l:r.length<=1048576) (o : ∀ i,(Tq L.2 i).length<=1048576):Vf (L,((n:Int),r))=some (Ut L n r):=by
 have t:(Wr L.2 n r).length=max L.2.length (n+1):=by unfold Wr;rw [List.length_set,ZF]
 unfold Vf;simp only [Tp,Tn];refine UB (Xf (r:=(0,((((max L.2.length (n+1):Nat):Int),(L.1,Wr L.2 n r)),()))) (λk=>((k:Int),(L.1,(Wr L.2 n r).take k))) (max L.2.length (n+1)) (by simp) (by omega) (λk j => ?_) ?_) ?_
 ·have c:((Wr L.2 n r).take k).length=k:=by rw [vL];omega
  simp only [c];rw [ov (by omega),dV,Ts (by omega),TP];by_cases g:k<L.2.length
  ·rw [if_pos (by omega),TL,if_neg (by omega),Ti,TC (WE g),TK];by_cases a:k=n
   ·rw [if_pos (by omega),if_pos a,UP l,UP (by simp only [BF,ci,cP];omega)];rfl
   ·rw [if_neg (by omega),if_neg a,UP (o k),UP (by simp only [BF,ci,cP];omega)];rfl
  ·rw [if_neg (by omega),TN,if_pos (by omega),TL,if_pos (by omega),TK];by_cases a:k=n
   ·rw [if_pos (by omega),if_pos a,UP l,UP (by simp only [BF,ci,cP];omega)];rfl
   ·rw [if_neg (by omega),if_neg a,UP (by simp only [BF,ci,cP];omega)];have:Tq L.2 k=[]:=by unfold Tq;rw [a9 (by omega)];rfl
    rw [this];rfl
 ·have c:(Wr L.2 n r).take (max L.2.length (n+1))=Wr L.2 n r:=eo (by omega);simp only;rw [TP,if_neg (by omega),TN,if_neg (by omega),c]
 ·have d:=qO (B:=L.1) (M:=Wr L.2 n r) (f:=λb=>br (S6 (b.2.length:Int) 0) (λ_=>R1 (SK .i64 (b.2.length:Int) 1) λp=>ix b.2 p λq=>br (Oa (q.length:Int) 0) (λ_=>R1 (SK .i64 (b.2.length:Int) 1) λh=>gd (CF h b.2.length) λ_=>gd (CF 0 h) λ_=>some (.nx (b.1,D0 b.2 0 h))) λ_=>some (.dn ((0,(b,()))))) λ_=>some (.dn ((0,(b,()))))) rfl (λk j=>by
   have c:((Wr L.2 n r).take (k+1)).length=k+1:=by rw [vL];omega
   have hi:SK .i64 ((k+1:Nat):Int) 1=(k:Int):=by rw [Sj (by omega)];omega
   have m:((Wr L.2 n r).take (k+1))[k]? = some (Tq (Wr L.2 n r) k):=by rw [pg,if_pos (by omega),WE j]
   simp only [c,hi];rw [TM,if_pos (by omega),Ti,TC m,cR];by_cases e:Tq (Wr L.2 n r) k=[]
   ·rw [if_pos e,if_pos e,Ti,UP (by omega),UP (by omega)]
    have:D0 ((Wr L.2 n r).take (k+1)) 0 k=(Wr L.2 n r).take k:=by
     unfold D0;rw [List.drop_zero,Nat.sub_zero,List.take_take];congr 1;omega
    rw [this]
   ·rw [if_neg e,if_neg e]) _ (dc _)
  rw [eo (dc _)] at d;exact UB (U0 (by omega) d) rfl
end
section
open Go Sv
theorem iI {s:Th} (m:Sm s) (v:VSt s) {a:Int} {i:Nat} (h:Zl a 0 (To 0 s.1.2)=some i) {j:Job} (e:s.2.1[i]? = some j) (t:0<UA s.1 j):Xv (s,(a,1))=some (Zw s j,(1,0)):=by
 obtain ⟨j',n,f,z,w,u,E⟩:=v.at h;rw [e] at f;cases f;subst z;have l:(Tk s).2=0:=Tu.2 v
 have o:YF s (n:Int)=((i:Int),0):=by
  unfold YF;rw [if_neg (show ¬ (Tk s).2≠0 by simp [l]),h]
 have q:WA (0:Int) (λs j=>((UA s.1 j:Int),0)) s (n:Int)=((UA s.1 j:Int),0):=by
  unfold WA aL;rw [if_neg (show ¬ (Tk s).2≠0 by simp [l]),h];simp only [e]
 have x:=v.jsmall;have hi:=(a8.1 e).1;unfold Xv;rw [tB m,Sx,TK,if_pos l,TP,if_neg (show ¬ ((1:Int)<0) by omega),TQ,if_pos l,Yb m,q,Sx,TK,if_pos rfl,TK,if_neg (show ¬ ((UA s.1 j:Int)=0) by omega),TQ,if_pos rfl,ZG m,o,Sx,Ti,TC e];obtain ⟨b,c,d,k,r,rfl,y,D,B,C⟩:=u;have A:Tq s.1.2 n=[b,c]:=by unfold Tq;rw [r];rfl
 have p:UA s.1 ((n:Int),Va c.2 b.2 d k)=c.2.length+b.2.length-k:=by
  unfold UA;simp only [bl,r];show c.2.length+b.2.length-((k:Int)).toNat=_;rw [bl]
 rw [p] at t;have g:=bI C B d y (k:=1);rw [show min 1 (c.2.length+b.2.length-k)=1 by omega] at g;show (bd (UJ (Va c.2 b.2 d k,((1:Nat):Int))) λF=>_)=_;rw [g,Sx];simp only;rw [UP (by simp only [AS];omega),Ti,S3,if_pos (by simp only [AS];exact hi),TC e];unfold Zw Yz;simp only [bl,A,h,hM];have e1:(Va c.2 b.2 d k).2.1.2.2=d:=aZ _ _ _ _;have e2:(Va c.2 b.2 d k).2.2.2.toNat=k:=by show ((k:Int)).toNat=k;rw [bl]
 rw [e1,e2];rfl
theorem iG {L:Tl} (v:VLev L) {n:Nat} (h:(Tq L.2 n).length=2):Uu (L,(n:Int))=some (WW L n,0):=by
 have d:n<L.2.length:=by
  by_cases e:n<L.2.length
  ·exact e
  ·unfold Tq at h;rw [a9 (by omega)] at h;cases h
 have i:=v.len;obtain ⟨f,g⟩:=v.small;unfold Uu;simp only [Tp,Tn];rw [ec _ f g,WU v,Sx,TK,if_pos rfl,TP,if_neg (by omega),TL,if_neg (by omega),TK,if_pos rfl,TL,if_neg (by omega),Ti,TC (WE d),TP,if_neg (by omega),TQ,if_pos rfl,bG v d,Sx]
 obtain ⟨b,c,a⟩ : ∃ b c,Tq L.2 n=[b,c]:=by
  match hq:Tq L.2 n with
  | [b,c]=>exact ⟨b,c,rfl⟩
  | []=>rw [hq] at h;cases h
  | [_]=>rw [hq] at h;cases h
  | _::_::_::_=>rw [hq] at h;simp at h
 rw [bu _ (by rw [WE d,a]) (VR.vl' v (n:=n) (by rw [a];simp)) (VR.vl' v (n:=n) (by rw [a];simp)),Sx];unfold WW;rw [bl,a]
theorem Zz (l:List Tj) (c:l.length<=9223372036854775807):Vs (l,l)=some true:=by
 unfold Vs;simp only [Tp,Tn];refine UB (Xf (r:=(1,(((l.length:Int),false),()))) (λk=>((k:Int),false)) l.length rfl (by omega) (λk a => ?_) (by simp only;rw [re];rfl)) ?_
 ·have b:l[k]? = some l[k]:=co a;simp only;rw [rl a,Sc,Sc,Ti,TC b,Ti,TC b,af,if_pos rfl,Ts (by omega)]
 ·rw [Sy,if_neg (show ¬ (1=0) by omega)];unfold Oa;simp
theorem dm (r:UK) (a:r.2.length<=9223372036854775807):Wi (r,r)=some true:=by
 unfold Wi;rw [TK,if_pos rfl,Zz _ a];rfl
theorem cb (l:List UK) (c:l.length<=1048576) (h : ∀ r∈l,r.2.length<=9223372036854775807):WR (l,l)=some true:=by
 unfold WR;simp only [Tp,Tn];rw [TQ,if_pos rfl];refine UB (Xf (r:=(1,(((l.length:Int),false),()))) (λk=>((k:Int),false)) l.length rfl (by omega) (λk a => ?_) (by simp only;rw [re];rfl)) rfl;have b:l[k]? = some l[k]:=co a;simp only;rw [rl a,Sc,Ti,TC b,Ti,TC b,dm _ (h _ (sr a)),Sx,Y5,R7,Ts (by omega)]
theorem dl (L:Tl) (e:L.2.length<=1048576) (d : ∀ rs∈L.2,rs.length<=1048576 /\ ∀ r∈rs,r.2.length<=9223372036854775807):Xu (L,L)=some true:=by
 unfold Xu;simp only [Tp,Tn];rw [TQ,if_pos rfl,TQ,if_pos rfl];refine UB (Xf (r:=(1,(((L.2.length:Int),false),()))) (λk=>((k:Int),false)) L.2.length rfl (by omega) (λk b => ?_) (by simp only;rw [re];rfl)) rfl;have c:L.2[k]? = some L.2[k]:=co b;have a:=d _ (sr b);simp only;rw [rl b,Sc,Ti,TC c,Ti,TC c,cb _ a.1 a.2,Sx,Y5,R7,Ts (by omega)]
theorem dk {L:Tl} {n:Nat} {j:Job} (h:JobAt L n j):Wk (j,j)=some true:=by
 obtain ⟨l,m,a,k,_,rfl,b,_,g,i⟩:=h;obtain ⟨s1,s2,c,d,e,f⟩:=Z4 i g a b;unfold Wk;rw [TK,if_pos rfl,bD _ _ s1 s2 c d e f];simp [Sx]
theorem ej {t:Th} (v:VSt t):XE (t,t)=some true:=by
 have m:=v.sm;have d:=v.jsmall;unfold XE;simp only [Tp,Tn];rw [dl _ m.lv m.rs,Sx,Y5,R7,TQ,if_pos rfl,TQ,if_pos rfl];refine UB (Xf (r:=(1,(((t.2.1.length:Int),false),()))) (λk=>((k:Int),false)) t.2.1.length rfl (by omega) (λk a => ?_) (by simp only;rw [re];rfl)) rfl;have b:t.2.1[k]? = some t.2.1[k]:=co a;obtain ⟨n,c⟩:=v.job _ (sr a);simp only;rw [rl a,Sc,Ti,TC b,Ti,TC b,dk c,Sx,Y5,R7,Ts (by omega)]
end
section
open Go Sv
abbrev jT:=(Int×qM)
def dC (j:Job):jT:=(j.1,(j.2.1.1,(j.2.1.2.1,(j.2.1.2.2.1,(j.2.1.2.2.2.1,(j.2.1.2.2.2.2,(j.2.2.1.1,(j.2.2.1.2.1,(j.2.2.1.2.2,(j.2.2.2.1,j.2.2.2.2))))))))))
theorem gw (p:List Job) (x:Job) (d:Int):Uk (p++[x]) d=(Uk p d).or (if x.1=d then some x else none):=by
 unfold Uk;rw [xT]
 congr 1
 rw [iP];unfold cQ;rw [Vt];by_cases h:x.1=d
 ·rw [if_pos h,show decide (d=x.1)=true by simp [h]]
 ·rw [if_neg h,show decide (d=x.1)=false by simp;exact λe=>h e.symm];rfl
theorem jZ {s:Th} (w:(s.2.1.map (·.1)).Nodup) (C:s.2.1.length<=1000) (L:Tl) (a:Int) {D:List Int} {i:Nat} {d:Int} (hi:D[i]? = some d):(loop (λ(c:Int×jT)=>br (S8 c.1 (s.2.1.length:Int)) (λ_=>R1 c.1 λm=>ix s.2.1 m λr=>R1 (i:Int) λn=>ix D n λt=>br (Oa r.1 t) (λ_=>R1 (i:Int) λo=>ix D o λu=>br (Ry u a) (λ_=>R1 c.1 λq=>ix s.2.1 q λb=>some (.nx ((SF .i64 c.1 1,(b.1,(b.2.1.1,(b.2.1.2.1,(b.2.1.2.2.1,(b.2.1.2.2.2.1,(b.2.1.2.2.2.2,(b.2.2.1.1,(b.2.2.1.2.1,(b.2.2.1.2.2,b.2.2.2))))))))))))) λ_=>some (.nx (SF .i64 c.1 1,c.2))) λ_=>some (.nx (SF .i64 c.1 1,c.2))) λ_=>some (.dn (((0:Nat),(c,()))))) ((0:Int),dC (WW L d)))=some (0,(((s.2.1.length:Int),dC (We s L a d)),())):=by
 refine Un (l:=s.2.1) (σ:=Job) (s:=((0:Int),dC (WW L d))) (λk j=>((k:Int),dC j)) (λls k j => ∃ p,s.2.1=p++ls/\j=(if d=a then none else Uk p d).getD (WW L d)) (λ_ _ _=>(0,(((s.2.1.length:Int),dC (We s L a d)),()))) (WW L d) rfl (by omega) ⟨[],rfl,by split<;>rfl⟩ (λj h => ?_) (λk x ls j hd y z h => ?_)
 ·obtain ⟨p,e,rfl⟩:=h;rw [List.append_nil] at e;simp only;rw [re,R7,<- e];rfl
 ·obtain ⟨p,e,rfl⟩:=h
  have B:x.1 ∉ p.map (·.1):=λA=>by
   rw [e,List.map_append,List.nodup_append] at w;exact w.2.2 _ A x.1 (by simp) rfl
  refine ⟨(if d=a then none else Uk (p++[x]) d).getD (WW L d),?_,⟨p++[x],by rw [e];simp,rfl⟩,rfl⟩
  simp only;rw [rl z,Sc,Ti,TC y,Ti,TC hi,TK,Ts (by omega),gw];by_cases f:x.1=d
  ·rw [if_pos f,Ti,TC hi,TQ,Ti,TC y,if_pos f];by_cases g:d=a
   ·rw [if_pos g,if_pos g,if_pos g]
   ·rw [if_neg g,if_neg g,Yn (by rw [<- f];exact B)];rfl
  ·rw [if_neg f,if_neg f];have:(Uk p d).or none=Uk p d:=by cases Uk p d<;>rfl
   rw [this]
theorem ae {s:Th} (B:(s.2.1.map (·.1)).Nodup) (D:s.2.1.length<=1000) {L:Tl} (v:VLev L) (next b:Int):loop (λ(g:(Int×(Int×((List (List UK))×((List Job)×Int)))))=>br (S8 g.1 ((To 0 L.2).length:Int)) (λ_=>R1 g.1 λm=>ix (To 0 L.2) m λt=>bd (Uu (((g.2.1,g.2.2.1),t))) λc=>bd (loop (λ(f:Int×jT)=>br (S8 f.1 (s.2.1.length:Int)) (λ_=>R1 f.1 λo=>ix s.2.1 o λu=>R1 g.1 λp=>ix (To 0 L.2) p λw=>br (Oa u.1 w) (λ_=>R1 g.1 λq=>ix (To 0 L.2) q λx=>br (Ry x b) (λ_=>R1 f.1 λr=>ix s.2.1 r λe=>some (.nx ((SF .i64 f.1 1,(e.1,(e.2.1.1,(e.2.1.2.1,(e.2.1.2.2.1,(e.2.1.2.2.2.1,(e.2.1.2.2.2.2,(e.2.2.1.1,(e.2.2.1.2.1,(e.2.2.1.2.2,e.2.2.2))))))))))))) λ_=>some (.nx (SF .i64 f.1 1,f.2))) λ_=>some (.nx (SF .i64 f.1 1,f.2))) λ_=>some (.dn (((0:Nat),(f,()))))) (((0:Int),(c.1.1,(c.1.2.1.1,(c.1.2.1.2.1,(c.1.2.1.2.2.1,(c.1.2.1.2.2.2.1,(c.1.2.1.2.2.2.2,(c.1.2.2.1.1,(c.1.2.2.1.2.1,(c.1.2.2.1.2.2,c.1.2.2.2)))))))))))) λa=>gd (CF (BF g.2.2.2.1.length [((a.2.1.2.1,((a.2.1.2.2.1,(a.2.1.2.2.2.1,(a.2.1.2.2.2.2.1,(a.2.1.2.2.2.2.2.1,a.2.1.2.2.2.2.2.2.1)))),((a.2.1.2.2.2.2.2.2.2.1,(a.2.1.2.2.2.2.2.2.2.2.1,a.2.1.2.2.2.2.2.2.2.2.2.1)),a.2.1.2.2.2.2.2.2.2.2.2.2))):Job)].length) 1048576) λ_=>some (.nx ((SF .i64 g.1 1,(g.2.1,(g.2.2.1,(Il g.2.2.2.1 ([(a.2.1.2.1,((a.2.1.2.2.1,(a.2.1.2.2.2.1,(a.2.1.2.2.2.2.1,(a.2.1.2.2.2.2.2.1,a.2.1.2.2.2.2.2.2.1)))),((a.2.1.2.2.2.2.2.2.2.1,(a.2.1.2.2.2.2.2.2.2.2.1,a.2.1.2.2.2.2.2.2.2.2.2.1)),a.2.1.2.2.2.2.2.2.2.2.2.2)))]),g.2.2.2.2))))))) λ_=>some (.dn (((0:Nat),(g,()))))) (((0:Int),(L.1,(L.2,(([]:List Job),next)))))=some (0,((((To 0 L.2).length:Int),(L.1,(L.2,((To 0 L.2).map (We s L b),next)))),())):=by
 have G:=v.len;have hd:=VQ L.2 0;refine Un (l:=To 0 L.2) (σ:=List Job) (λi js=>((i:Int),(L.1,(L.2,(js,next))))) (λls i js=>js++ls.map (We s L b)=(To 0 L.2).map (We s L b)) (λ_ _ _=>(0,((((To 0 L.2).length:Int),(L.1,(L.2,((To 0 L.2).map (We s L b),next)))),()))) [] rfl (by omega) rfl (λjs h => ?_) (λi d ls js A hi C h => ?_)
 ·simp only;rw [re,R7,<- h];simp
 ·refine ⟨js++[We s L b d],?_,by rw [<- h];simp,rfl⟩;obtain ⟨n,I,J,k,E⟩:=aV (bo hi);have y:=iG v (n:=n) (by rw [Xx.1 E];rfl);rw [<- k] at y
  have F:js.length<=1000:=by
   have z:=congrArg List.length h;rw [hV,s8,s8] at z;omega
  simp only;rw [rl C,Sc,Ti,TC hi];have j:Uu ((L.1,L.2),d)=some (WW L d,0):=y;rw [j,Sx];refine UB (jZ B D L b hi) ?_;rw [UP (by simp only [BF,ci,cP];omega),Ts (by omega)];rfl
end
section
open Go Sv
theorem YV {α β σ S:Type} {l:List α} (c:Nat) (n:c<=1000) (mk:Nat->σ->S) (I:Nat->σ->Prop) (Q:β->Prop) {f:S->Option (LR S β)} {s:S} (a:σ) (i:s=mk 0 a) (hi:I 0 a)
  (p : ∀ k a,(k=l.length\/k=c)->k<=l.length->I k a -> ∃ r,f (mk k a)=some (.dn r)/\Q r)
  (hc : ∀ k x a,l[k]? = some x->k<c->I k a->(∃ b,f (mk k a)=some (.nx (mk (k+1) b))/\I (k+1) b) \/ ∃ r,f (mk k a)=some (.dn r)/\Q r) : ∃ r,loop f s=some r/\Q r:=by
 refine Wp (l:=l.take c) mk (λ_ k a=>I k a/\k<=(l.take c).length) Q a i (by simp;omega) ⟨hi,by omega⟩ (λa h=>p _ a (by simp;omega) (by simp;omega) h.1) (λk x m a hd e o h => ?_);have d:k<c:=by simp at o;omega
 have g:l[k]? = some x:=by rw [pg] at e;rw [if_pos d] at e;exact e
 rcases hc k x a g d h.1 with ⟨b,h1,j⟩ | h1
 ·exact .inl ⟨b,h1,j,by omega⟩
 ·exact .inr h1
theorem bY {k c:Nat} (h:k<c):S8 (k:Int) (c:Int)=true:=by unfold S8;simp;omega
theorem gp {α β:Type} {l:List α} {k c:Nat} (h:k=l.length\/k=c) (b:k<=l.length) (A B C:Option β) (e:B=C):br (S8 (k:Int) (l.length:Int)) (λ_=>br (S8 (k:Int) (c:Int)) (λ_=>A) λ_=>B) (λ_=>C)=C:=by
 rw [TP];by_cases a:(k:Int)<(l.length:Int)
 ·rw [if_pos a,TP,if_neg (by omega),e]
 ·rw [if_neg a]
theorem gy (l:List Tj) : ∃ b,W2 l=some b/\(b=false->l.length<=30):=by
 unfold W2;simp only [Tp,Tn]
 obtain ⟨r,m,a⟩:=YV (l:=l) (σ:=Unit) (s:=((0:Int),false)) 40 (by omega) (λk _=>((k:Int),false)) (λ_ _=>True) (λ(r:Nat×((Int×Bool)×Unit))=>r.1=1\/(r.1=0/\r.2.1.2=true))
  (f:=λs0=>br (S8 s0.1 (l.length:Int)) (λ_=>br (S8 s0.1 40) (λ_=>R1 s0.1 λi=>ix l i λo=>br (S6 (Mj o.1:Int) 100) (λ_=>some (.dn ((0,((s0.1,true),()))))) λ_=>R1 s0.1 λj=>ix l j λp=>br (S6 (Mj p.2.1:Int) 100) (λ_=>some (.dn ((0,((s0.1,true),()))))) λ_=>some (.nx (SF .i64 s0.1 1,s0.2))) λ_=>some (.dn ((1,(s0,()))))) λ_=>some (.dn ((1,(s0,())))))
  () rfl trivial (λk _ h d _=>⟨_,(gp (c:=40) h d _ _ _ rfl),.inl rfl⟩) (λk x _ g d _=>by
   simp only;have e:=(a8.1 g).1;rw [rl e,Sc,show S8 (k:Int) 40=true from bY d,Sc,Ti,TC g,TM,Ti,TC g,TM,Ts (by omega)]
   repeat' split
   all_goals first | exact .inr ⟨_,rfl,.inr ⟨rfl,rfl⟩⟩ | exact .inl ⟨(),rfl,trivial⟩)
 rw [m,Sx,Sy];rcases a with a | ⟨a,n⟩
 ·rw [if_neg (show ¬ r.1=0 by omega)];exact ⟨_,rfl,λh=>by unfold S6 at h;simp at h;omega⟩
 ·rw [if_pos a,n];exact ⟨_,rfl,λh=>by cases h⟩
theorem dI (l:List UK) : ∃ b,Vp l=some b/\(b=false->l.length<=6 /\ ∀ r∈l,r.2.length<=30):=by
 unfold Vp;simp only [Tp,Tn]
 obtain ⟨r,w,d⟩:=YV (l:=l) (σ:=Unit) (s:=((0:Int),false)) 10 (by omega) (λk _=>((k:Int),false)) (λk _ => ∀ i x,i<k->l[i]? = some x->x.2.length<=30) (λ(r:Nat×((Int×Bool)×Unit))=>(r.1=1 /\ ∀ i x,i<10->l[i]? = some x->x.2.length<=30)\/(r.1=0/\r.2.1.2=true))
  (f:=λs0=>br (S8 s0.1 (l.length:Int)) (λ_=>br (S8 s0.1 10) (λ_=>R1 s0.1 λu=>ix l u λA=>bd (W2 A.2) λz=>br z (λ_=>some (.dn ((0,((s0.1,true),()))))) λ_=>some (.nx (SF .i64 s0.1 1,s0.2))) λ_=>some (.dn ((1,(s0,()))))) λ_=>some (.dn ((1,(s0,())))))
  () rfl (λi x h=>by omega) (λk _ h j g=>⟨_,(gp (c:=10) h j _ _ _ rfl),.inl ⟨rfl,λi x hi a=>g i x (by have:=(a8.1 a).1;omega) a⟩⟩) (λk x _ a j g=>by
   simp only;have m:=(a8.1 a).1;obtain ⟨b,e,p⟩:=gy x.2;rw [rl m,Sc,show S8 (k:Int) 10=true from bY j,Sc,Ti,TC a,e,Sx,Ts (by omega)];cases b with
   | true=>exact .inr ⟨_,rfl,.inr ⟨rfl,rfl⟩⟩
   | false =>
    refine .inl ⟨(),rfl,λi y hi n => ?_⟩;by_cases h:i=k
    ·subst h;rw [a] at n;cases n;exact p rfl
    ·exact g i y (by omega) n)
 rw [w,Sx,Sy];rcases d with ⟨d,o⟩ | ⟨d,o⟩
 ·rw [if_neg (show ¬ r.1=0 by omega)];refine ⟨_,rfl,λh => ?_⟩;have q:l.length<=6:=by unfold S6 at h;simp at h;omega
  exact ⟨q,λr t=>by
   obtain ⟨i,hi⟩:=ee t
   exact o i r (by have:=(a8.1 hi).1;omega) hi⟩
 ·rw [if_pos d,o];exact ⟨_,rfl,λh=>by cases h⟩
theorem gz (L:Tl) : ∃ b,Xm L=some b/\(b=false->L.2.length<=14 /\ ∀ rs∈L.2,rs.length<=6 /\ ∀ r∈rs,r.2.length<=30):=by
 unfold Xm;simp only [Tp,Tn]
 obtain ⟨r,w,d⟩:=YV (l:=L.2) (σ:=Unit) (s:=((0:Int),false)) 20 (by omega) (λk _=>((k:Int),false)) (λk _ => ∀ i x,i<k->L.2[i]? = some x->x.length<=6 /\ ∀ r∈x,r.2.length<=30) (λ(r:Nat×((Int×Bool)×Unit))=>(r.1=1 /\ ∀ i x,i<20->L.2[i]? = some x->x.length<=6 /\ ∀ r∈x,r.2.length<=30)\/(r.1=0/\r.2.1.2=true))
  (f:=λs0=>br (S8 s0.1 (L.2.length:Int)) (λ_=>br (S8 s0.1 20) (λ_=>R1 s0.1 λu=>ix L.2 u λA=>bd (Vp A) λz=>br z (λ_=>some (.dn ((0,((s0.1,true),()))))) λ_=>some (.nx (SF .i64 s0.1 1,s0.2))) λ_=>some (.dn ((1,(s0,()))))) λ_=>some (.dn ((1,(s0,())))))
  () rfl (λi x h=>by omega) (λk _ h j g=>⟨_,(gp (c:=20) h j _ _ _ rfl),.inl ⟨rfl,λi x hi a=>g i x (by have:=(a8.1 a).1;omega) a⟩⟩) (λk x _ a j g=>by
   simp only;have m:=(a8.1 a).1;obtain ⟨b,e,p⟩:=dI x;rw [rl m,Sc,show S8 (k:Int) 20=true from bY j,Sc,Ti,TC a,e,Sx,Ts (by omega)];cases b with
   | true=>exact .inr ⟨_,rfl,.inr ⟨rfl,rfl⟩⟩
   | false =>
    refine .inl ⟨(),rfl,λi y hi n => ?_⟩;by_cases h:i=k
    ·subst h;rw [a] at n;cases n;exact p rfl
    ·exact g i y (by omega) n)
 rw [w,Sx,Sy];rcases d with ⟨d,o⟩ | ⟨d,o⟩
 ·rw [if_neg (show ¬ r.1=0 by omega)];refine ⟨_,rfl,λh => ?_⟩;have q:L.2.length<=14:=by unfold S6 at h;simp at h;omega
  exact ⟨q,λr t=>by
   obtain ⟨i,hi⟩:=ee t
   exact o i r (by have:=(a8.1 hi).1;omega) hi⟩
 ·rw [if_pos d,o];exact ⟨_,rfl,λh=>by cases h⟩
theorem gb (l:List Tj) : ∃ b,Vd l=some b:=by
 unfold Vd;simp only [Tp,Tn]
 obtain ⟨r,j,o⟩:=YV (l:=l) (σ:=Unit) (s:=((0:Int),false)) 80 (by omega) (λk _=>((k:Int),false)) (λ_ _=>True) (λ(r:Nat×((Int×Bool)×Unit))=>True)
  (f:=λs0=>br (S8 s0.1 (l.length:Int)) (λ_=>br (S8 s0.1 80) (λ_=>R1 s0.1 λg=>ix l g λm=>br (S6 (Mj m.1:Int) 100) (λ_=>some (.dn ((0,((s0.1,true),()))))) λ_=>R1 s0.1 λi=>ix l i λn=>br (S6 (Mj n.2.1:Int) 100) (λ_=>some (.dn ((0,((s0.1,true),()))))) λ_=>some (.nx (SF .i64 s0.1 1,s0.2))) λ_=>some (.dn ((1,(s0,()))))) λ_=>some (.dn ((1,(s0,())))))
  () rfl trivial (λk _ h a _=>⟨_,(gp (c:=80) h a _ _ _ rfl),trivial⟩) (λk x _ e a _=>by
   simp only;have d:=(a8.1 e).1;rw [rl d,Sc,show S8 (k:Int) 80=true from bY a,Sc,Ti,TC e,TM,Ti,TC e,TM,Ts (by omega)]
   repeat' split
   all_goals first | exact .inr ⟨_,rfl,trivial⟩ | exact .inl ⟨(),rfl,trivial⟩)
 rw [j,Sx,Sy];split<;>exact ⟨_,rfl⟩
theorem g9 (s:Th) : ∃ b,Xn s=some b/\(b=false->Sm s /\ ∀ rs∈s.1.2,∀ r∈rs,r.2.length<=30):=by
 unfold Xn;simp only [Tp,Tn]
 obtain ⟨r,q,g⟩:=YV (l:=s.2.1) (σ:=Unit) (s:=((0:Int),false)) 20 (by omega) (λk _=>((k:Int),false)) (λ_ _=>True) (λ(r:Nat×((Int×Bool)×Unit))=>r.1=0\/(r.1=1/\r.2.1.2=true))
  (f:=λs0=>br (S8 s0.1 (s.2.1.length:Int)) (λ_=>br (S8 s0.1 20) (λ_=>R1 s0.1 λE=>ix s.2.1 E λi=>bd (loop (λa=>br (S8 a.1 (i.2.1.1.length:Int)) (λ_=>br (S8 a.1 10) (λ_=>R1 a.1 λp=>ix i.2.1.1 p λw=>bd (Vd w) λt=>br t (λ_=>some (.dn ((0,((a.1,true),()))))) λ_=>some (.nx (SF .i64 a.1 1,a.2))) λ_=>some (.dn ((1,(a,()))))) λ_=>some (.dn ((1,(a,()))))) (0,s0.2)) λu=>br (neq u.1 0) (λ_=>some (.dn ((1,((s0.1,u.2.1.2),()))))) λ_=>bd (Vd i.2.2.2.1) λF=>br F (λ_=>some (.dn ((1,((s0.1,true),()))))) λ_=>br (S6 (i.2.1.1.length:Int) 6) (λ_=>some (.dn ((1,((s0.1,true),()))))) λ_=>br (S6 (i.2.1.2.1.length:Int) 40) (λ_=>some (.dn ((1,((s0.1,true),()))))) λ_=>br (S6 (i.2.1.2.2.1.length:Int) 40) (λ_=>some (.dn ((1,((s0.1,true),()))))) λ_=>br (S6 (i.2.1.2.2.2.1.length:Int) 40) (λ_=>some (.dn ((1,((s0.1,true),()))))) λ_=>br (S6 (Mj i.2.2.1.2.1:Int) 200) (λ_=>some (.dn ((1,((s0.1,true),()))))) λ_=>some (.nx (SF .i64 s0.1 1,u.2.1.2))) λ_=>some (.dn ((0,(s0,()))))) λ_=>some (.dn ((0,(s0,())))))
  () rfl trivial (λk _ h j _=>⟨_,(gp (c:=20) h j _ _ _ rfl),.inl rfl⟩) (λk x _ z j _=>by
   simp only;have m:=(a8.1 z).1;rw [rl m,Sc,show S8 (k:Int) 20=true from bY j,Sc,Ti,TC z]
   obtain ⟨r,q,g⟩:=YV (l:=x.2.1.1) (σ:=Unit) (s:=((0:Int),false)) 10 (by omega) (λk _=>((k:Int),false)) (λ_ _=>True) (λ(r:Nat×((Int×Bool)×Unit))=>(r.1=1/\r.2.1.2=false)\/(r.1=0/\r.2.1.2=true))
    (f:=λa=>br (S8 a.1 (x.2.1.1.length:Int)) (λ_=>br (S8 a.1 10) (λ_=>R1 a.1 λp=>ix x.2.1.1 p λw=>bd (Vd w) λt=>br t (λ_=>some (.dn ((0,((a.1,true),()))))) λ_=>some (.nx (SF .i64 a.1 1,a.2))) λ_=>some (.dn ((1,(a,()))))) λ_=>some (.dn ((1,(a,())))))
    () rfl trivial (λk _ h j _=>⟨_,(gp (c:=10) h j _ _ _ rfl),.inl ⟨rfl,rfl⟩⟩) (λk y _ A j _=>by
     simp only;have m:=(a8.1 A).1;obtain ⟨b,e⟩:=gb y;rw [rl m,Sc,show S8 (k:Int) 10=true from bY j,Sc,Ti,TC A,e,Sx,Ts (by omega)];cases b with
     | true=>exact .inr ⟨_,rfl,.inr ⟨rfl,rfl⟩⟩
     | false=>exact .inl ⟨(),rfl,trivial⟩)
   obtain ⟨b,e⟩:=gb x.2.2.2.1;rw [q,Sx,Sy,e];rcases g with ⟨g,n⟩ | ⟨g,n⟩
   ·rw [if_neg (show ¬ r.1=0 by omega),Sx,TV,TM,TM,TM,TM,TM,n,Ts (by omega)]
    repeat' split
    all_goals first | exact .inr ⟨_,rfl,.inr ⟨rfl,rfl⟩⟩ | exact .inl ⟨(),rfl,trivial⟩
   ·rw [if_pos g,n]
    exact .inr ⟨_,rfl,.inr ⟨rfl,rfl⟩⟩)
 rw [q,Sx,Sy];rcases g with g | ⟨g,n⟩
 ·rw [if_pos g,TM];by_cases h:(s.2.1.length:Int)>14
  ·rw [if_pos h];exact ⟨_,rfl,λh=>by cases h⟩
  ·rw [if_neg h];obtain ⟨b,e,C⟩:=gz s.1;rw [e];refine ⟨b,rfl,λB => ?_⟩;obtain ⟨G,o⟩:=C B;exact ⟨⟨by omega,λrs d=>⟨by have:=(o rs d).1;omega,λr D=>by have:=(o rs d).2 r D;omega⟩,by omega⟩,λrs d=>(o rs d).2⟩
 ·rw [if_neg (show ¬ r.1=0 by omega),n];exact ⟨_,rfl,λh=>by cases h⟩
end
section
open Go Sv
end
section
open Go Sv
theorem kO (L:Tl) (n:Nat):XD (L,(n:Int))=some (Tq L.2 n):=by
 unfold XD;simp only [Tp,Tn];rw [TL];by_cases h:n<L.2.length
 ·rw [if_neg (by omega),Ti,TC (WE h)]
 ·rw [if_pos (by omega)];unfold Tq;rw [a9 (by omega)];rfl
theorem bF {s:Th} (v:VSt s) (hf:jP s.1) {n:Nat} {j:Job} (ha:JobAt s.1 n j) (h0 : ¬ 0<UA s.1 j) (hc:Vg s.1 j=true) (h5:Uo j≠[]->s.2.2<=1000000) {X:Int} (D:X=(YO s j:Int)) :
  (bd (Vf ((s.1,((n:Int),[])))) λp=>br (S6 (Ki (AS j.2.2.2.1)) 0) (λ_=>bd (XD (p,X)) λw=>gd (CF (AS w) 1048576) λ_=>gd (CF (BF (AS w) (AS ([(s.2.2,j.2.2.2.1)]))) 1048576) λ_=>bd (Vf ((p,(X,Il w ([(s.2.2,j.2.2.2.1)]))))) λy=>bd (Ui y) λq=>bd (loop (λ(c:(Int×qL))=>br (S8 c.1 (Ki (AS q))) (λ_=>R1 c.1 λE=>ix q E λY=>bd (Uu (((c.2.1,c.2.2.1),Y))) λe=>bd (loop (λ(l:(Int×(Int×qM)))=>br (S8 l.1 (Ki (AS s.2.1))) (λ_=>R1 l.1 λG=>ix s.2.1 G λZ=>R1 c.1 λI=>ix q I λx52=>br (Oa Z.1 x52) (λ_=>R1 c.1 λJ=>ix q J λx54=>br (Ry x54 (n:Int)) (λ_=>R1 l.1 λK=>ix s.2.1 K λg=>some (.nx ((SF .i64 l.1 1,(g.1,(g.2.1.1,(g.2.1.2.1,(g.2.1.2.2.1,(g.2.1.2.2.2.1,(g.2.1.2.2.2.2,(g.2.2.1.1,(g.2.2.1.2.1,(g.2.2.1.2.2,g.2.2.2))))))))))))) λ_=>some (.nx (SF .i64 l.1 1,l.2))) λ_=>some (.nx (SF .i64 l.1 1,l.2))) λ_=>some (.dn ((0,(l,()))))) ((0,(e.1.1,(e.1.2.1.1,(e.1.2.1.2.1,(e.1.2.1.2.2.1,(e.1.2.1.2.2.2.1,(e.1.2.1.2.2.2.2,(e.1.2.2.1.1,(e.1.2.2.1.2.1,(e.1.2.2.1.2.2,e.1.2.2.2)))))))))))) λa=>gd (CF (BF (AS c.2.2.2.1) (AS ([(a.2.1.2.1,((a.2.1.2.2.1,(a.2.1.2.2.2.1,(a.2.1.2.2.2.2.1,(a.2.1.2.2.2.2.2.1,a.2.1.2.2.2.2.2.2.1)))),((a.2.1.2.2.2.2.2.2.2.1,(a.2.1.2.2.2.2.2.2.2.2.1,a.2.1.2.2.2.2.2.2.2.2.2.1)),a.2.1.2.2.2.2.2.2.2.2.2.2)))]))) 1048576) λ_=>some (.nx ((SF .i64 c.1 1,(c.2.1,(c.2.2.1,(Il c.2.2.2.1 ([(a.2.1.2.1,((a.2.1.2.2.1,(a.2.1.2.2.2.1,(a.2.1.2.2.2.2.1,(a.2.1.2.2.2.2.2.1,a.2.1.2.2.2.2.2.2.1)))),((a.2.1.2.2.2.2.2.2.2.1,(a.2.1.2.2.2.2.2.2.2.2.1,a.2.1.2.2.2.2.2.2.2.2.2.1)),a.2.1.2.2.2.2.2.2.2.2.2.2)))]),c.2.2.2.2))))))) λ_=>some (.dn ((0,(c,()))))) ((0,(y.1,(y.2,([],SF .i64 s.2.2 1)))))) λz=>some ((((z.2.1.2.1,z.2.1.2.2.1),z.2.1.2.2.2),0))) λ_=>bd (Ui p) λt=>bd (loop (λ(d:(Int×qL))=>br (S8 d.1 (Ki (AS t))) (λ_=>R1 d.1 λN=>ix t N λx62=>bd (Uu (((d.2.1,d.2.2.1),x62))) λf=>bd (loop (λ(m:(Int×(Int×qM)))=>br (S8 m.1 (Ki (AS s.2.1))) (λ_=>R1 m.1 λO=>ix s.2.1 O λx66=>R1 d.1 λP=>ix t P λx68=>br (Oa x66.1 x68) (λ_=>R1 d.1 λS=>ix t S λx70=>br (Ry x70 (n:Int)) (λ_=>R1 m.1 λU=>ix s.2.1 U λk=>some (.nx ((SF .i64 m.1 1,(k.1,(k.2.1.1,(k.2.1.2.1,(k.2.1.2.2.1,(k.2.1.2.2.2.1,(k.2.1.2.2.2.2,(k.2.2.1.1,(k.2.2.1.2.1,(k.2.2.1.2.2,k.2.2.2))))))))))))) λ_=>some (.nx (SF .i64 m.1 1,m.2))) λ_=>some (.nx (SF .i64 m.1 1,m.2))) λ_=>some (.dn ((0,(m,()))))) ((0,(f.1.1,(f.1.2.1.1,(f.1.2.1.2.1,(f.1.2.1.2.2.1,(f.1.2.1.2.2.2.1,(f.1.2.1.2.2.2.2,(f.1.2.2.1.1,(f.1.2.2.1.2.1,(f.1.2.2.1.2.2,f.1.2.2.2)))))))))))) λb=>gd (CF (BF (AS d.2.2.2.1) (AS ([(b.2.1.2.1,((b.2.1.2.2.1,(b.2.1.2.2.2.1,(b.2.1.2.2.2.2.1,(b.2.1.2.2.2.2.2.1,b.2.1.2.2.2.2.2.2.1)))),((b.2.1.2.2.2.2.2.2.2.1,(b.2.1.2.2.2.2.2.2.2.2.1,b.2.1.2.2.2.2.2.2.2.2.2.1)),b.2.1.2.2.2.2.2.2.2.2.2.2)))]))) 1048576) λ_=>some (.nx ((SF .i64 d.1 1,(d.2.1,(d.2.2.1,(Il d.2.2.2.1 ([(b.2.1.2.1,((b.2.1.2.2.1,(b.2.1.2.2.2.1,(b.2.1.2.2.2.2.1,(b.2.1.2.2.2.2.2.1,b.2.1.2.2.2.2.2.2.1)))),((b.2.1.2.2.2.2.2.2.2.1,(b.2.1.2.2.2.2.2.2.2.2.1,b.2.1.2.2.2.2.2.2.2.2.2.1)),b.2.1.2.2.2.2.2.2.2.2.2.2)))]),d.2.2.2.2))))))) λ_=>some (.dn ((0,(d,()))))) ((0,(p.1,(p.2,([],s.2.2)))))) λA=>some ((((A.2.1.2.1,A.2.1.2.2.1),A.2.1.2.2.2),0)):Option (Th×Int))=some (ZJ s (Vm s j) (YD s j) j.1,0):=by
 have F:=gN v hf ha h0 hc h5;obtain ⟨o1,o2,W,o4,o5⟩:=ha.out v.lev (hf n);have hj:j.1.toNat=n:=by rw [W];simp
 have hn2:=v.n2;have hn1:=v.n1;have hjs:=v.jsmall;have o:=F.lev;have hl:=v.lev.len;have hl1:=F.l1.len;have small : ∀ {M:Tl},VLev M -> ∀ i,(Tq M.2 i).length<=1048576:=λvM i=>by have:=(vM.own i).1;omega
 rw [dU (by omega) (by omega) (by simp) (small v.lev),Sx];simp only [Tp,Tn];rw [TM];by_cases u:Uo j=[]
 ·rw [if_neg (show ¬ ((j.2.2.2.1.length:Int)>0) by rw [show j.2.2.2.1=[] from u];simp)];have B:Vm s j=Ut s.1 n []:=by unfold Vm;rw [if_pos u,hj]
  have C:YD s j=s.2.2:=by unfold YD;rw [if_pos u]
  rw [<- B,aW (by have:=o.len;omega),Sx];refine UB (ae v.nodup (by omega) o s.2.2 (n:Int)) ?_;rw [C,W];rfl
 ·rw [if_pos (show ((j.2.2.2.1.length:Int)>0) by have:=ed.2 u;have h:(Uo j).length=j.2.2.2.1.length:=rfl;omega),D,kO,Sx];have hro:=F.room u;have ht:=F.to12 u
  have B:Vm s j=Ut (Ut s.1 n []) (YO s j) (Tq (Ut s.1 n []).2 (YO s j)++[(s.2.2,Uo j)]):=by
   unfold Vm;rw [if_neg u,hj]
  have C:YD s j=s.2.2+1:=by unfold YD;rw [if_neg u]
  rw [UP (by omega),UP (by simp only [BF,ci,cP];omega)];have hW:=dU (L:=Ut s.1 n []) (n:=YO s j) (r:=Tq (Ut s.1 n []).2 (YO s j)++[(s.2.2,Uo j)]) (by omega) (by omega) (by simp;omega) (small F.l1);rw [<- B] at hW;refine UB (x:=Vm s j) hW ?_;rw [aW (by have:=o.len;omega),Sx,Sh (by omega)];refine UB (ae v.nodup (by omega) o (s.2.2+1) (n:Int)) ?_;rw [C,W];rfl
theorem dT {s:Th} (m:Sm s) (l:jP s.1) (a:Int):Wl (s,a)=some (WA zS ZB s a):=by
 unfold Wl;rw [eX m,Sx,ZG m,cY m];unfold WA;by_cases b:(Tk s).2=0;rotate_left
 ·rw [if_pos b,TQ,if_neg b,if_pos b];rfl
 rw [if_neg (show ¬ (Tk s).2≠0 by simp [b]),if_neg (show ¬ (Tk s).2≠0 by simp [b]),if_neg (show ¬ (Tk s).2≠0 by simp [b])];have v:=Tu.1 b;unfold aL YF;rw [if_neg (show ¬ (Tk s).2≠0 by simp [b])];cases q:Zl a 0 (To 0 s.1.2) with
 | none=>rfl
 | some i =>
  obtain ⟨j,n,o,p,f,k,r⟩:=v.at q;have:=v.lev.len;subst p;simp only [o];unfold ZB Z1;by_cases c:0<UA s.1 j
  ·rw [if_pos c,if_pos (.inl c)];rfl
  rw [if_neg c]
  have g:(if Vn s.1 j=true then (j.1,(0:Int)) else (j.1+1,0))=((YO s j:Int),0):=by
   unfold YO;split<;>rw [f]<;>simp
  rw [g,TQ,if_pos rfl,Sx,Ti,TC o,Sx,UT,TV];by_cases hc:Vg s.1 j=true;rotate_left
  ·rw [if_neg hc,if_pos (.inr (by simpa using hc))];rfl
  rw [if_pos hc,if_neg (show ¬ (0<UA s.1 j\/Vg s.1 j=false) by rw [hc];simp;omega),TM];by_cases e:s.2.2>1000000
  ·rw [if_pos e,TM];by_cases d:Uo j=[]
   ·rw [if_neg (show ¬ (Ki (AS j.2.2.2.1)>0) by rw [show j.2.2.2.1=[] from d];simp [Tp,Tn]),if_neg (by simp [d])];dsimp only;exact bF v l k c hc (λh=>absurd d h) rfl
   ·rw [if_pos (show Ki (AS j.2.2.2.1)>0 by have:=ed.2 d;have h:(Uo j).length=j.2.2.2.1.length:=rfl;rw [Tp,Tn];omega),if_pos ⟨e,d⟩];rfl
  ·rw [if_neg e,if_neg (by simp [e])];dsimp only;exact bF v l k c hc (λh=>by omega) rfl
theorem iF {s:Th} (m:Sm s) (f:jP s.1) (a:Int):Yl (s,a)=some (WO s a):=by
 unfold Yl;rw [cY m,Sx,Yb m,dT m f];unfold WA WO;by_cases b:(Tk s).2=0;rotate_left
 ·rw [if_pos b,if_pos b,TK,if_neg b];rw [TQ,if_neg b,if_pos b];rfl
 rw [if_neg (show ¬ (Tk s).2≠0 by simp [b]),if_neg (show ¬ (Tk s).2≠0 by simp [b]),if_neg (show ¬ (Tk s).2≠0 by simp [b]),if_neg (show ¬ (Tk s).2≠0 by simp [b])];have v:=Tu.1 b;unfold aL;cases e:Zl a 0 (To 0 s.1.2) with
 | none =>
  simp only;rw [TK,if_neg (by omega),TQ,if_neg (by omega)];rfl
 | some i =>
  obtain ⟨j,n,d,k,g,h,l⟩:=v.at e;simp only [d];unfold Xi;rw [TK,if_pos rfl,UT,TV];by_cases hc:Vg s.1 j=true;rotate_left
  ·rw [if_neg hc,if_pos (by simpa using hc)];rfl
  rw [if_pos hc,if_neg (by simp [hc]),TQ,if_pos rfl,Sx,TM];by_cases c:0<UA s.1 j
  ·rw [if_pos (show ((UA s.1 j:Int))>0 by omega),if_pos c,iI m v e d c];rfl
  ·rw [if_neg (show ¬ ((UA s.1 j:Int))>0 by omega),if_neg c];rfl
end
section
open Go Sv
def Uf (l:List Tj) (k:Xb):Option Tj:=l.find? λx=>decide (x.1=k)
theorem Um (x:Tj) (l:List Tj) (k:Xb):Uf (x::l) k=if x.1=k then some x else Uf l k:=by
 unfold Uf;rw [iP];by_cases h:x.1=k<;>simp [h]
theorem Zp (l m:List Tj) (k:Xb):Uf (l++m) k=(Uf l k).or (Uf m k):=by
 unfold Uf;rw [xT]
theorem YT (x:Tj) (k:Xb):Uf [x] k=if x.1=k then some x else none:=by rw [Um];rfl
theorem dD {l:List Tj} {k:Xb} {x:Tj} (h:Uf l k=some x):x.1=k/\x∈l:=by
 unfold Uf at h;exact ⟨by simpa using ym h,xk h⟩
theorem YS {l:List Tj} {k:Xb} (h : ∀ x∈l,x.1≠k):Uf l k=none:=by
 unfold Uf;rw [List.find?_eq_none];intro x a;simpa using h x a
theorem ZY : ∀ {l:List Tj} {q:Xb},Asc (some q) l -> ∀ x∈l,SV q x.1=true
 | x::l,q,⟨a,b⟩,y,hy=>by
  rcases ey.1 hy with e | hy
  ·rw [e];exact a q rfl
  ·exact WV (a q rfl) (ZY b y hy)
theorem gF : ∀ {l m:List Tj} {p q:Option Xb},Asc p l->Asc q m->(∀ k,Uf l k=Uf m k)->l=m
 | [],[],_,_,_,_,_=>rfl
 | [],y::m,_,_,_,_,h=>by
  have:=h y.1;rw [Um,if_pos rfl] at this;cases this
 | x::l,[],_,_,_,_,h=>by
  have:=h x.1;rw [Um,if_pos rfl] at this;cases this
 | x::l,y::m,p,q,⟨t,f⟩,⟨s,d⟩,h=>by
  have e1:=h x.1;have e2:=h y.1;rw [Um,if_pos rfl,Um] at e1;rw [Um,Um,if_pos rfl] at e2
  have g:x.1=y.1:=by
   by_cases b:y.1=x.1
   ·exact b.symm
   ·rw [if_neg b] at e1;rw [if_neg (λe=>b e.symm)] at e2;have n:=ZY d x (dD e1.symm).2;have j:=ZY f y (dD e2).2;rw [VD n] at j;cases j
  rw [if_pos g.symm] at e1;have c:x=y:=Option.some.inj e1;subst c;refine congrArg (x::·) (gF f d λk => ?_);have b:=h k;rw [Um,Um] at b;by_cases a:x.1=k
  ·have o:Uf l k=none:=YS λz i=>by
    have:=ZY f z i;rw [a] at this;exact λe=>ZI this e.symm
   have r:Uf m k=none:=YS λz i=>by
    have:=ZY d z i;rw [a] at this;exact λe=>ZI this e.symm
   rw [o,r]
  ·rw [if_neg a,if_neg a] at b;exact b
theorem ZX (P:Tj->Bool) : ∀ {l:List Tj} {p:Option Xb},Asc p l->Asc p (l.filter P)
 | [],_,_=>trivial
 | x::l,p,⟨b,d⟩=>by
  have c:=ZX P d;rw [ul];cases P x with
  | true=>exact ⟨b,c⟩
  | false =>
   refine c.weak λe a=>⟨x.1,rfl,?_⟩;exact VD (b e a)
theorem ZA (P:Tj->Bool) (k:Xb) : ∀ {l:List Tj} {p:Option Xb},Asc p l->Uf (l.filter P) k=(Uf l k).filter P
 | [],_,_=>rfl
 | x::l,p,⟨h,c⟩=>by
  have d:=ZA P k c;rw [ul,Um];by_cases a:x.1=k
  ·rw [if_pos a]
   have f:Uf (l.filter P) k=none:=YS λz g=>by
    have:=ZY c z (List.mem_filter.1 g).1;rw [a] at this;exact λe=>ZI this e.symm
   cases b:P x with
   | true=>rw [if_pos rfl,Um,if_pos a];simp [mR,b]
   | false=>rw [if_neg (by simp),f];simp [mR,b]
  ·rw [if_neg a];cases b:P x with
   | true=>rw [if_pos rfl,Um,if_neg a];exact d
   | false=>simpa using d
def WG:List Tj->Tj->List Tj
 | [],x=>[x]
 | y::l,x=>if SV y.1 x.1=true then y::WG l x else if y.1=x.1 then y::l else x::y::l
theorem cg (x:Tj) : ∀ {l:List Tj} {p:Option Xb},Asc p l->(∀ q,p=some q->SV q x.1=true)->Asc p (WG l x)
 | [],p,_,hp=>⟨hp,trivial⟩
 | y::l,p,⟨d,a⟩,hp=>by
  unfold WG;by_cases h:SV y.1 x.1=true
  ·rw [if_pos h];exact ⟨d,cg x a λq c=>by cases c;exact h⟩
  ·rw [if_neg h];by_cases b:y.1=x.1
   ·rw [if_pos b];exact ⟨d,a⟩
   ·rw [if_neg b];exact ⟨hp,λq c=>by cases c;exact Zj (by simpa using h) b,a⟩
theorem cj (x:Tj) (k:Xb) : ∀ {l:List Tj} {p:Option Xb},Asc p l->Uf (WG l x) k=(Uf l k).or (if x.1=k then some x else none)
 | [],_,_=>by unfold WG;rw [YT];rfl
 | y::l,p,⟨f,d⟩=>by
  unfold WG;by_cases h:SV y.1 x.1=true
  ·rw [if_pos h,Um,Um,cj x k d];split<;>rfl
  ·rw [if_neg h];by_cases b:y.1=x.1
   ·rw [if_pos b,Um,<- b];by_cases a:y.1=k
    ·rw [if_pos a];rfl
    ·rw [if_neg a,if_neg a];cases Uf l k<;>rfl
   ·rw [if_neg b,Um];have c:SV x.1 y.1=true:=Zj (by simpa using h) b;by_cases a:x.1=k
    ·rw [if_pos a]
     have:Uf (y::l) k=none:=YS λz hz=>by
      rw [<- a];rcases ey.1 hz with e | hz
      ·rw [e];exact b
      ·exact λe=>ZI (WV c (ZY d z hz)) e.symm
     rw [this,if_pos a];rfl
    ·rw [if_neg a,if_neg a];cases Uf (y::l) k<;>rfl
theorem gE (k:Xb) : ∀ (r l:List Tj),Asc none l->Asc none (r.foldl WG l)/\Uf (r.foldl WG l) k=(Uf l k).or (Uf r k)
 | [],l,h=>⟨h,by show Uf l k=_;cases Uf l k<;>rfl⟩
 | x::r,l,h=>by
  obtain ⟨a,b⟩:=gE k r (WG l x) (cg x h λ_ h=>by cases h);refine ⟨a,?_⟩;rw [hI,b,cj x k h,Um,iz]
  congr 1
  split<;>rfl
def aS (rs:List UK) (l:List Tj):List Tj:=rs.foldl (λout r=>r.2.foldl WG out) l
def VX:List UK->Xb->Option Tj
 | [],_=>none
 | r::rs,k=>(Uf r.2 k).or (VX rs k)
theorem cE (k:Xb) : ∀ (rs:List UK) (l:List Tj),Asc none l->Asc none (aS rs l)/\Uf (aS rs l) k=(Uf l k).or (VX rs k)
 | [],l,h=>⟨h,by show Uf l k=_;cases Uf l k<;>rfl⟩
 | r::rs,l,h=>by
  obtain ⟨a,b⟩:=gE k r.2 l h;obtain ⟨c,d⟩:=cE k rs (r.2.foldl WG l) a;refine ⟨c,?_⟩;show Uf (aS rs (r.2.foldl WG l)) k=_;rw [d,b,iz];rfl
def VN (x:Tj):Bool := !x.2.2.1
def LF (L:Tl):List Tj:=(aS (UU L.2) []).filter VN
theorem jo {L M:Tl} (h : ∀ k,(VX (UU L.2) k).filter VN=(VX (UU M.2) k).filter VN):LF L=LF M:=by
 have a:=λk=>cE k (UU L.2) [] trivial;have b:=λk=>cE k (UU M.2) [] trivial;refine gF (ZX VN (a []).1) (ZX VN (b []).1) λk => ?_;show Uf ((aS (UU L.2) []).filter VN) k=Uf ((aS (UU M.2) []).filter VN) k;rw [ZA VN k (a []).1,ZA VN k (b []).1,(a k).2,(b k).2];exact h k
theorem dJ : ∀ (a b:List UK) (k:Xb),VX (a++b) k=(VX a k).or (VX b k)
 | [],b,k=>rfl
 | r::a,b,k=>by
  show (Uf r.2 k).or (VX (a++b) k)=((Uf r.2 k).or (VX a k)).or (VX b k);rw [dJ a b k,iz]
theorem gU : ∀ {l:List Tj} {s:Ul} {k:Xb},Z3 s l->s.1=true->SV k s.2.1=true->Uf l k=none
 | [],_,_,_,_,_=>rfl
 | x::l,s,k,⟨_,c,d⟩,b,hk=>by
  have a:SV k x.1=true:=dv hk (c b);rw [Um,if_neg (λe=>ZI a e.symm)];exact gU d rfl a
theorem c0 (k:Xb) : ∀ {l:List Tj} {s:Ul},Z3 s l->Uf (WF s l) k=if s.1=true/\s.2.1=k then none else (Uf l k).filter λx => !(s.2.2&&x.2.2.1)
 | [],s,_=>by unfold WF;split<;>rfl
 | x::l,s,⟨_,g,c⟩=>by
  have f:=c0 k c;simp only [true_and] at f;unfold WF;rw [Zp,f,Um];by_cases a:x.1=k
  ·rw [if_pos a,if_pos a];by_cases hs:s.1=true/\s.2.1=k
   ·rw [if_pos hs];have:keep s x=false:=by unfold keep;rw [hs.1,hs.2,a];simp
    rw [this];rfl
   ·rw [if_neg hs]
    have:keep s x = !(s.2.2&&x.2.2.1):=by
     unfold keep
     have:(s.1&&decide (x.1=s.2.1))=false:=by
      cases b:s.1 with
      | false=>rfl
      | true =>
       simp only [Bool.true_and,decide_eq_false_iff_not];intro e;exact hs ⟨b,by rw [<- e];exact a⟩
     rw [this];rfl
    rw [this];cases d:(!(s.2.2&&x.2.2.1)) with
    | true=>rw [if_pos rfl,YT,if_pos a];simp [mR,d]
    | false=>rw [if_neg (by simp)];simp [mR,d,Uf]
  ·rw [if_neg a,if_neg a]
   have b:Uf (if keep s x=true then [x] else []) k=none:=by
    split
    ·rw [YT,if_neg a]
    ·rfl
   rw [b,vv];by_cases hs:s.1=true/\s.2.1=k
   ·rw [if_pos hs]
    have h:SV k x.1=true:=by
     rw [<- hs.2];refine Zj (g hs.1) λe=>a ?_;rw [e];exact hs.2
    rw [gU c rfl h];rfl
   ·rw [if_neg hs]
theorem bA {a b:List Tj} (va:VL a) (l:VL b) (k:Xb) : ∀ {n:Nat},n<=a.length+b.length->Uf (UC a b n) k=(Uf (a.take (pos a b n).1) k).or (Uf (b.take (pos a b n).2) k)
 | 0,_=>rfl
 | n+1,h=>by
  have G:=bA va l k (n:=n) (by omega);obtain ⟨q,hs⟩:=WN va l (n:=n) (by omega);obtain ⟨x,c,_⟩:=Vu va l (n:=n) (by omega);rw [Wq va l c,Zp,G,YT];unfold aQ at c;rw [show pos a b (n+1)=if X2 a b (pos a b n).1 (pos a b n).2=true then ((pos a b n).1+1,(pos a b n).2) else ((pos a b n).1,(pos a b n).2+1) from rfl]
  revert c q;generalize (pos a b n).1=i;generalize (pos a b n).2=j;intro q c;cases g:X2 a b i j with
  | true =>
   rw [if_pos g] at c;rw [if_pos rfl];simp only;rw [gM,c,xw,Zp,YT,iz,iz]
   congr 1
   by_cases r:x.1=k
   ·rw [if_pos r]
    have:Uf (b.take j) k=none:=YS λy F=>by
     obtain ⟨m,o⟩:=ee F;rw [pg] at o;split at o
     ·rename_i E;have D:=q.jb;have f:b[j-1]? = some b[j-1]:=co (by omega);have B:=q.pb (j-1) (by omega) _ x f c
      have C:SV b[j-1].1 y.1=false:=by
       by_cases s:m=j-1
       ·subst s;rw [f] at o;cases o;exact XQ _
       ·have A:=l.asc
        have : ∀ d,m+d+1<=j-1 -> ∀ z,b[m+d+1]? = some z->SV y.1 z.1=true:=by
         intro d
         induction d with
         | zero=>intro _ z t;exact l.lt o t
         | succ d u =>
          intro hd z t;have p:b[m+d+1]? = some b[m+d+1]:=co (by omega);exact WV (u (by omega) _ p) (l.lt p t)
        exact VD (this (j-1-m-1) (by omega) _ (by rw [show m+(j-1-m-1)+1=j-1 by omega];exact f))
      intro e;have w:SV y.1 x.1=true:=bL C B;rw [e,r,XQ] at w;cases w
     ·cases o
    rw [this];rfl
   ·rw [if_neg r];cases Uf (b.take j) k<;>rfl
  | false =>
   rw [if_neg (show ¬ X2 a b i j=true by rw [g];decide)] at c;rw [if_neg (show ¬ (false=true) by decide)];simp only;rw [gM,c,xw,Zp,YT,iz]
theorem pf {a b:List Tj} (va:VL a) (e:VL b) (c:Bool) (k:Xb):Uf (Va a b c (a.length+b.length)).2.2.1 k=((Uf a k).or (Uf b k)).filter λx => !(c&&x.2.2.1):=by
 have f:=XP va e c (dc (a.length+b.length));obtain ⟨d,hs⟩:=WN va e (dc (a.length+b.length));show Uf (WF (s0 c) (UC a b (a.length+b.length))) k=_;rw [c0 k f,if_neg (by simp),bA va e k (dc _)];rw [eo (by have:=d.ia;have:=d.jb;omega),eo (by have:=d.ia;have:=d.jb;omega)]
end
section
open Go Sv
def Zt (f:Nat->Option Tj):Nat->Nat->Option Tj
 | _,0=>none
 | i,m+1=>(f i).or (Zt f (i+1) m)
theorem gO (f:Nat->Option Tj) : ∀ (m i:Nat),Zt f (i+1) m=Zt (λj=>f (j+1)) i m
 | 0,_=>rfl
 | m+1,i=>by
  show (f (i+1)).or (Zt f (i+1+1) m)=(f (i+1)).or (Zt (λj=>f (j+1)) (i+1) m);rw [gO f m (i+1)]
theorem YU {f g:Nat->Option Tj} : ∀ (m i:Nat),(∀ j,i<=j->j<i+m->f j=g j)->Zt f i m=Zt g i m
 | 0,_,_=>rfl
 | m+1,i,h=>by
  show (f i).or (Zt f (i+1) m)=(g i).or (Zt g (i+1) m);rw [h i (by omega) (by omega),YU m (i+1) λj a b=>h j (by omega) (by omega)]
theorem cU : ∀ (m i:Nat),Zt (λ_=>none) i m=none
 | 0,_=>rfl
 | m+1,i=>by show (none:Option Tj).or _=_;rw [vv];exact cU m (i+1)
theorem au (f:Nat->Option Tj) : ∀ (p i q:Nat),Zt f i (p+q)=(Zt f i p).or (Zt f (i+p) q)
 | 0,i,q=>by rw [eg];rfl
 | p+1,i,q=>by
  rw [show p+1+q=(p+q)+1 by omega];show (f i).or (Zt f (i+1) (p+q))=((f i).or (Zt f (i+1) p)).or (Zt f (i+(p+1)) q);rw [au f p (i+1) q,iz,show i+1+p=i+(p+1) by omega]
theorem aF (k:Xb) : ∀ (ls:List (List UK)) (K:Nat),ls.length<=K->VX (UU ls) k=Zt (λj=>VX (Tq ls j).reverse k) 0 K
 | [],K,_=>by
  have:(λj=>VX (Tq [] j).reverse k)=λ_=>none:=by
   funext j;have:Tq [] j=[]:=rfl
   rw [this];rfl
  rw [this,cU];rfl
 | rs::ls,0,h=>by simp at h
 | rs::ls,K+1,h=>by
  have e:UU (rs::ls)=rs.reverse++UU ls:=rfl;rw [e,dJ,aF k ls K (by simpa using h)];show _=(VX (Tq (rs::ls) 0).reverse k).or (Zt (λj=>VX (Tq (rs::ls) j).reverse k) (0+1) K);rw [gO];rfl
theorem gx {s:Th} (v:VSt s) (C:jP s.1) {n:Nat} {j:Job} (r:JobAt s.1 n j) (E : ¬ 0<UA s.1 j) (hc:Vg s.1 j=true) (G:Uo j≠[]->s.2.2<=1000000):LF (Vm s j)=LF s.1:=by
 have F:=gN v C r E hc G;obtain ⟨U,W,K,X,Y⟩:=r.out v.lev (C n);have d:j.1.toNat=n:=by rw [K];simp
 obtain ⟨b,c,q,m,B,f,O,t,L,M⟩:=r;have J:=Xx.1 B
 have N:UA s.1 j=c.2.length+b.2.length-m:=by
  rw [f];unfold UA;simp only [bl,B];show c.2.length+b.2.length-((m:Int)).toNat=_;rw [bl]
 have u:m=c.2.length+b.2.length:=by omega
 subst u
 have p : ∀ k,Uf (Uo j) k=((Uf c.2 k).or (Uf b.2 k)).filter λx => !(q&&x.2.2.1):=λk=>by
  rw [f];exact pf M L q k
 refine jo λk => ?_;have P:=F.lev.len;have S:=v.lev.len;rw [aF k _ 14 (by omega),aF k _ 14 (by omega)];rw [show 14=n+(1+(13-n)) by omega,au,au _ n 0];have w:YO s j=n\/YO s j=n+1:=by unfold YO;rw [d];split<;>omega
 have l:Zt (λi=>VX (Tq (Vm s j).2 i).reverse k) 0 n=Zt (λi=>VX (Tq s.1.2 i).reverse k) 0 n:=YU _ _ λi _ hi=>by
  rw [V0 d,if_neg (by rintro ⟨_,h⟩;omega),if_neg (by omega)]
 rw [l];generalize Zt (λi=>VX (Tq s.1.2 i).reverse k) 0 n=A
 have y:Zt (λi=>VX (Tq (Vm s j).2 i).reverse k) (0+n) (1+(13-n))=(Uf (Uo j) k).or (Zt (λi=>VX (Tq s.1.2 i).reverse k) (n+1) (13-n)):=by
  rw [eg,aaa 1];show (VX (Tq (Vm s j).2 n).reverse k).or (Zt (λi=>VX (Tq (Vm s j).2 i).reverse k) (n+1) (13-n))=_;by_cases a:Uo j=[]
  ·rw [V0 d,if_neg (by simp [a]),if_pos rfl,a];refine congrArg _ (YU _ _ λi hi _ => ?_);rw [V0 d,if_neg (by simp [a]),if_neg (by omega)]
  ·rcases w with ht | ht
   ·rw [V0 d,if_pos ⟨a,ht.symm⟩,if_pos rfl]
    have e:VX (([]:List UK)++[(s.2.2,Uo j)]).reverse k=Uf (Uo j) k:=by
     show (Uf (Uo j) k).or none=_;cases Uf (Uo j) k<;>rfl
    rw [e];refine congrArg _ (YU _ _ λi hi _ => ?_);rw [V0 d,if_neg (by rintro ⟨_,h⟩;omega),if_neg (by omega)]
   ·rw [V0 d,if_neg (by rintro ⟨_,h⟩;omega),if_pos rfl];have D:=F.to12 a;rw [show 13-n=(12-n)+1 by omega];show (none:Option Tj).or ((VX (Tq (Vm s j).2 (n+1)).reverse k).or (Zt _ (n+1+1) (12-n)))=(Uf (Uo j) k).or ((VX (Tq s.1.2 (n+1)).reverse k).or (Zt _ (n+1+1) (12-n)));rw [V0 d,if_pos ⟨a,ht.symm⟩,if_neg (by omega),List.reverse_append,vv];have e:VX ([(s.2.2,Uo j)].reverse++(Tq s.1.2 (n+1)).reverse) k=(Uf (Uo j) k).or (VX (Tq s.1.2 (n+1)).reverse k):=rfl;rw [e,iz];refine congrArg _ (congrArg _ (YU _ _ λi hi _ => ?_));rw [V0 d,if_neg (by rintro ⟨_,h⟩;omega),if_neg (by omega)]
 have o:Zt (λi=>VX (Tq s.1.2 i).reverse k) (0+n) (1+(13-n))=((Uf c.2 k).or (Uf b.2 k)).or (Zt (λi=>VX (Tq s.1.2 i).reverse k) (n+1) (13-n)):=by
  rw [eg,aaa 1];show (VX (Tq s.1.2 n).reverse k).or _=_;rw [J];refine congrArg (λz=>Option.or z _) ?_;show (Uf c.2 k).or ((Uf b.2 k).or none)=_;cases Uf b.2 k<;>rfl
 rw [y,o,p k];cases q with
 | false =>
  have:((Uf c.2 k).or (Uf b.2 k)).filter (λx => !(false&&x.2.2.1))=(Uf c.2 k).or (Uf b.2 k):=by
   cases (Uf c.2 k).or (Uf b.2 k)<;>simp [mR]
  rw [this]
 | true =>
  have I:Zt (λi=>VX (Tq s.1.2 i).reverse k) (n+1) (13-n)=none:=by
   rw [YU (g:=λ_=>none) _ _ λi hi _ => ?_,cU];have:Tq s.1.2 i=[]:=by unfold Tq;rw [a9 (by have:=t rfl;omega)];rfl
   rw [this];rfl
  rw [I];cases A with
  | some x=>rfl
  | none =>
   cases (Uf c.2 k).or (Uf b.2 k) with
   | none=>rfl
   | some x =>
    cases hd:x.2.2.1<;>simp [mR,VN,hd]
end
section
open Go Sv
end
section
open Go Sv
end
section
open Go Sv
def UE (l:List UK):Nat:=(l.map λr=>r.2.length).sum
theorem VA (r:UK) (l:List UK):UE (r::l)=r.2.length+UE l:=by simp [UE]
theorem U1 (l m:List UK):UE (l++m)=UE l+UE m:=by simp [UE]
theorem jd (l:List UK):UE l.reverse=UE l:=by simp [UE]
theorem gI {l:List UK} (h : ∀ r∈l,r.2.length<=5000):UE l<=l.length*5000:=by
 induction l with
 | nil=>simp [UE]
 | cons r l b =>
  rw [VA,ci];have:=h r (by simp);have:=b λx a=>h x (by simp [a]);omega
theorem Zd : ∀ ls:List (List UK),UE (UU ls)=UE ls.flatten/\(UU ls).length=ls.flatten.length
 | []=>⟨rfl,rfl⟩
 | rs::ls=>by
  obtain ⟨a,b⟩:=Zd ls;have e:UU (rs::ls)=rs.reverse++UU ls:=rfl;rw [e,kd,U1,U1,jd,a];simp [b]
theorem pQ {S β:Type} {f:S->Option (LR S β)} {r:β} (mk:Int->Nat->S) (n:Nat) {s:S} (b:s=mk ((n:Int)-1) n) (g:n<1000000000) (hs : ∀ k,k<n->f (mk (k:Int) (k+1))=some (.nx (mk ((k:Int)-1) k))) (c:f (mk (-1) 0)=some (.dn r)):loop f s=some r:=by
 subst b
 have a : ∀ k,k<=n->IL (k+1) f (mk ((k:Int)-1) k)=some r:=by
  intro k
  induction k with
  | zero=>intro _;exact US c
  | succ k d =>
   intro e;have:=hs k (by omega);rw [show ((k+1:Nat):Int)-1=(k:Int) by omega,UN this];exact d (by omega)
 exact U0 (by omega) (a n (dc _))
theorem Yh {L:Tl} (v:VLev L):L.2.flatten.length<=24/\UE L.2.flatten<=24*5000:=by
 have b:L.2.flatten.length<=24:=by
  have h:=YK L.2 v.two;have:=v.len;rw [(Zd L.2).2] at h;omega
 refine ⟨b,?_⟩
 have:=gI (l:=L.2.flatten) λr a=>by
  obtain ⟨rs,c,d⟩:=l5.1 a;obtain ⟨i,hi⟩:=ee c;exact ((v.lev i rs hi).2 r d).vl.len
 exact ta this (ox _ b)
def eE (L:Tl):Int×(Int×Int):=if (VZ L).2.2≠0 then (0,(0,(VZ L).2.2)) else ((UE L.2.flatten:Int),((L.2.flatten.length:Int),0))
theorem jS (L:Tl) (g:L.2.length<=1048576) (n : ∀ rs∈L.2,rs.length<=1048576 /\ ∀ r∈rs,r.2.length<=9223372036854775807):W3 L=some (eE L):=by
 unfold W3 eE;simp only [Tp,Tn];rw [Yo _ g n,Sx,TQ];by_cases b:(VZ L).2.2=0;rotate_left
 ·rw [if_neg b,if_pos b]
 rw [if_pos b,if_neg (by simp [b])];have v:=Xg.1 b;have p:=v.len;obtain ⟨s1,s2⟩:=Yh v
 rw [Un (l:=L.2) (σ:=Nat×Nat) (s:=((0:Int),((0:Int),(0:Int)))) (λi a=>((i:Int),((a.1:Int),(a.2:Int)))) (λls i a=>a.1+UE ls.flatten=UE L.2.flatten/\a.2+ls.flatten.length=L.2.flatten.length) (λ_ _ _=>(0,(((L.2.length:Int),((UE L.2.flatten:Int),(L.2.flatten.length:Int))),()))) (0,0) rfl (by omega) ⟨by simp,by simp⟩ (λa h=>by
  obtain ⟨c,d⟩:=h;simp only;rw [re,R7,<- c,<- d]
  simp [UE]) (λi rs ls a hd hi e h=>by
   obtain ⟨c,d⟩:=h;rw [kd,U1] at c;rw [kd,hV] at d;have o:=v.two rs (bo hi);refine ⟨(a.1+UE rs,a.2+rs.length),?_,⟨by simp only;omega,by simp only;omega⟩,rfl⟩;simp only;rw [rl e,Sc,Ti,TC hi,Sj (by omega)]
   rw [pQ (λk m=>(k,(((a.1+UE (rs.drop m):Nat):Int),((a.2+(rs.length-m):Nat):Int)))) rs.length (by simp [UE]) (by omega) (λk f=>by
    have j:rs[k]? = some rs[k]:=co f;have hd:UE (rs.drop k)=rs[k].2.length+UE (rs.drop (k+1)):=by rw [sk f,VA]
    have hc:UE (rs.drop k)<=UE rs:=by
     have:=U1 (rs.take k) (rs.drop k);rw [s9] at this;omega
    simp only;rw [TL,if_pos (by omega),Ti,TC j,Sj (by omega),Sh (by omega),Sh (by omega),hd]
    congr 4
    ·omega
    ·congr 1
     omega) (r:=(0,(((-1:Int),(((a.1+UE rs:Nat):Int),((a.2+rs.length:Nat):Int))),()))) rfl,Sx]
   rw [Tv hi (by omega)]),Sx]
theorem pC {s:Th} (m:Sm s) (a:Int):YG (s,a)=some (WA 0 (λs j=>((UA s.1 j:Int),0)) s a):=by
 unfold YG;rw [cK m,Sx];unfold WA aL YF;by_cases b:(Tk s).2=0;rotate_left
 ·rw [if_pos b,TQ,if_neg b,if_pos b]
 rw [if_neg (show ¬ (Tk s).2≠0 by simp [b]),if_neg (show ¬ (Tk s).2≠0 by simp [b])];have v:=Tu.1 b;cases e:Zl a 0 (To 0 s.1.2) with
 | none=>rfl
 | some i =>
  obtain ⟨j,n,c,g,f,d,h⟩:=v.at e;simp only [c];rw [TQ,if_pos rfl,Ti,TC c,(JobAt.left d).1,Sx]
def Yv (s:Th) (d:Int):Nat:=match aL s d with
 | some j=>UA s.1 j+1
 | none=>0
def ai (s:Th):Nat:=((To 0 s.1.2).map (Yv s)).sum
theorem VSt.debt {s:Th} (v:VSt s) {d:Int} (h:d∈To 0 s.1.2) (m:Sm s):X5 (s,d)=some ((Yv s d:Int),0)/\aM (s,d)=some ((Yv s d:Int),0)/\Yv s d<=10001:=by
 obtain ⟨j,n,b,f,g,c,k⟩:=v.atDue h;have e:(Tk s).2=0:=Tu.2 v;have hd:Yv s d=UA s.1 j+1:=by unfold Yv;rw [b]
 have i:=(JobAt.left c).2.2
 have a:WA (0:Int) (λs j=>((UA s.1 j:Int),0)) s d=((UA s.1 j:Int),0):=by
  unfold WA;rw [if_neg (show ¬ (Tk s).2≠0 by simp [e]),b]
 unfold X5 aM;rw [pC m,Yb m,a,hd,Sx];simp only [Sx];rw [TQ,if_pos rfl,Sh (by omega)];exact ⟨rfl,rfl,by omega⟩
theorem pJ {s:Th} (v:VSt s) (m:Sm s):ai s<=12*10001:=by
 have a : ∀ l:List Int,(∀ d∈l,Yv s d<=10001)->(l.map (Yv s)).sum<=l.length*10001:=by
  intro l
  induction l with
  | nil=>intro _;simp
  | cons d l f =>
   intro h;have:=h d (by simp);have:=f λx e=>h x (by simp [e]);simp only [ll,F2,ci];omega
 have b:=a (To 0 s.1.2) λd hd=>(v.debt hd m).2.2;have g:=VQ s.1.2 0;have:=v.lev.len;have c:(To 0 s.1.2).length*10001<=12*10001:=ox _ (by omega);exact ta b c
theorem sS {s:Th} (m:Sm s):X4 s=some (if (Tk s).2≠0 then (0,(Tk s).2) else ((ai s:Int),0)):=by
 unfold X4;simp only [Tp,Tn];rw [gR m,Sx];by_cases a:(Tk s).2=0;rotate_left
 ·rw [if_pos a,if_pos a,TQ,if_neg a]
 rw [if_neg (show ¬ (Tk s).2≠0 by simp [a]),if_neg (show ¬ (Tk s).2≠0 by simp [a])];have v:=Tu.1 a;have hd:=pJ v m;simp only;have f:=VQ s.1.2 0;have:=v.lev.len
 rw [TQ,if_pos rfl,Un (l:=To 0 s.1.2) (σ:=Nat) (s:=((0:Int),((0:Int),((0:Int),(0:Int))))) (λi b=>((0:Int),((i:Int),((0:Int),(b:Int))))) (λls i b=>b+(ls.map (Yv s)).sum=ai s) (λ_ _ _=>(1,(((0:Int),(((To 0 s.1.2).length:Int),((0:Int),(ai s:Int)))),()))) 0 rfl (by omega) (by unfold ai;simp) (λb h=>by
  simp only
  rw [re,R7,<- h];simp) (λi d ls b e hi c h=>by
   rw [ll,F2] at h;refine ⟨b+Yv s d,?_,by omega,rfl⟩;simp only;rw [rl c,Sc,Ti,TC hi,(v.debt (bo hi) m).1,Sx];simp only;rw [TQ,if_pos rfl,Sh (by omega),Sh (by omega)]
   rfl),Sx]
 rfl
end
section
open Go Sv
theorem ab (x:Tj) : ∀ l:List Tj,(WG l x).length<=l.length+1
 | []=>by unfold WG;simp
 | y::l=>by
  unfold WG;have:=ab x l;split
  ·simp;omega
  ·split<;>simp
theorem bh {α:Type} (l:List α) (k:Nat):D0 l 0 k=l.take k:=by unfold D0;simp
theorem bg {α:Type} (l:List α) (k:Nat):D0 l k l.length=l.drop k:=by
 unfold D0;rw [eo (by simp)]
theorem sU (l:List Tj) (x:Tj) (D:l.length<=1000000):Xe (l,x)=some (WG l x):=by
 unfold Xe;simp only [Tp,Tn]
 obtain ⟨r,A,B⟩:=Wp (l:=l) (σ:=Unit) (λk _=>(k:Int)) (λm k _=>WG l x=l.take k++WG m x) (λ(r:Nat×(Int×Unit)) => ∃ k:Nat,r.2.1=(k:Int)/\k<=l.length/\WG l x=l.take k++WG (l.drop k) x /\ ∀ y,l[k]? = some y->SV y.1 x.1=false)
  (f:=λs0=>br (S8 s0 (l.length:Int)) (λ_=>R1 s0 λw=>ix l w λC=>br (SV C.1 x.1) (λ_=>some (.nx (SF .i64 s0 1))) λ_=>some (.dn ((0,(s0,()))))) λ_=>some (.dn ((0,(s0,())))))
  (s:=(0:Int)) () rfl (by omega) rfl (λ_ h=>by
   refine ⟨(0,((l.length:Int),())),by rw [re];rfl,l.length,rfl,dc _,by rw [h];simp,λy j=>by simp at j⟩) (λk y m _ hd b a h=>by
   rw [rl a,Sc,Ti,TC b,Wy];unfold WG at h;by_cases hs:SV y.1 x.1=true
   ·rw [if_pos hs,Ts (by omega)];rw [if_pos hs] at h;refine .inl ⟨(),rfl,?_⟩
    conv=>lhs;unfold WG
    rw [h,gM,b];simp
   ·rw [if_neg hs];refine .inr ⟨_,rfl,k,rfl,by omega,?_,λz t=>by rw [b] at t;cases t;simpa using hs⟩;rw [hd]
    conv=>lhs;unfold WG
    conv=>rhs;unfold WG
    exact h)
 rw [A,Sx];obtain ⟨k,e,a,q,j⟩:=B;have n : ∀ {β:Type} (c:Unit->Option β),gd (CF (l.take k).length 1048576) c=c ():=λc=>UP (by simp;omega) c;have o : ∀ {β:Type} (c:Unit->Option β),gd (CF (BF (l.take k).length [x].length) 1048576) c=c ():=λc=>UP (by simp [BF];omega) c;have p : ∀ {β:Type} (c:Unit->Option β),gd (CF (BF (Il (l.take k) [x]).length (l.drop k).length) 1048576) c=c ():=λc=>UP (by simp [BF,Il];omega) c;rw [e];by_cases h:k<l.length
 ·have b:l[k]? = some l[k]:=co h;have hs:=j _ b;have g:l.drop k=l[k]::l.drop (k+1):=sk h
  have u:WG (l.drop k) x=if l[k].1=x.1 then l.drop k else x::l.drop k:=by
   rw [g]
   conv=>lhs;unfold WG
   rw [if_neg (by rw [hs];simp)]
  rw [rl h,Sc,Ti,TC b,WB,q,u];by_cases d:l[k].1=x.1
  ·rw [if_pos d,if_pos d,s9]
  ·rw [if_neg d,if_neg d,Ti,UP a,UP (by omega),bh,n,o,Ti,UP (by omega),UP a,bg,p];unfold Il;simp
 ·have i:k=l.length:=by omega
  subst i;rw [re,R7,q,Ti,UP a,UP (by omega),bh,n,o,Ti,UP (by omega),UP a,bg,p];simp [Il,WG]
theorem aA : ∀ (m l:List Tj),(m.foldl WG l).length<=l.length+m.length
 | [],l=>by simp
 | x::m,l=>by
  have a:=aA m (WG l x);have b:=ab x l;simp only [hI,ci];omega
theorem ad : ∀ (rs:List UK) (l:List Tj),(aS rs l).length<=l.length+UE rs
 | [],l=>by simp [aS,UE]
 | r::rs,l=>by
  have a:=ad rs (r.2.foldl WG l);have b:=aA r.2 l;rw [VA];show (aS rs (r.2.foldl WG l)).length<=_;omega
theorem sV {R:List UK} {i:Nat} {r:UK} (hi:R[i]? = some r) {out:List Tj} (b:out.length+r.2.length<=500000):loop (λ(s2:UK)=>R1 (i:Int) λd=>ix R d λj=>br (S8 s2.1 (j.2.length:Int)) (λ_=>R1 (i:Int) λe=>ix R e λm=>R1 s2.1 λf=>ix m.2 f λn=>bd (Xe (s2.2,n)) λg=>some (.nx (SF .i64 s2.1 1,g))) λ_=>some (.dn (((0:Nat),(s2,()))))) ((0:Int),out)=some (0,(((r.2.length:Int),r.2.foldl WG out),())):=by
 refine Un (l:=r.2) (σ:=List Tj) (λk o=>((k:Int),o)) (λls _ o=>o.length+ls.length<=500000) (λls _ o=>(0,(((r.2.length:Int),ls.foldl WG o),()))) out rfl (by omega) b (λo h => ?_) (λk x ls o hd c a h => ?_)
 ·simp only;rw [Ti,TC hi,re];rfl
 ·have:=ab x o;simp only [ci] at h;refine ⟨WG o x,?_,by omega,rfl⟩;simp only;rw [Ti,TC hi,rl a,Sc,Ti,TC hi,Ti,TC c,sU _ _ (by omega),Sx,Ts (by omega)]
theorem jV {L:Tl} (v:VLev L):Xd L=some (LF L):=by
 obtain ⟨n,p⟩:=Yh v;obtain ⟨j,m⟩:=Zd L.2;unfold Xd;simp only [Tp,Tn];rw [bH v,Sx];refine UB (Un (l:=UU L.2) (σ:=List Tj) (s:=(([]:List Tj),(0:Int))) (λi o=>(o,(i:Int))) (λls _ o=>o.length+UE ls<=500000) (λls _ o=>(0,((aS ls o,((UU L.2).length:Int)),()))) [] rfl (by omega) (by simp;omega) (λo h => ?_) (λi r ls o hd hi c h => ?_)) ?_
 ·simp only;rw [re];rfl
 ·rw [VA] at h;have b:=aA r.2 o;refine ⟨r.2.foldl WG o,?_,by omega,rfl⟩;simp only;rw [rl c,Sc];refine UB (sV hi (by omega)) ?_;rw [Ts (by omega)]
 ·have a:=ad (UU L.2) [];simp only [cP,eg] at a;dsimp only;generalize f:aS (UU L.2) []=A at a;have g:LF L=A.filter VN:=by unfold LF;rw [f]
  rw [g];refine UB (Un (l:=A) (σ:=List Tj) (s:=((0:Int),([]:List Tj))) (λk o=>((k:Int),o)) (λls k o=>o.length<=k/\o++ls.filter VN=A.filter VN) (λ_ _ _=>(0,(((A.length:Int),A.filter VN),()))) [] rfl (by omega) ⟨by simp,rfl⟩ (λo h => ?_) (λk x ls o hd e c h => ?_)) rfl
  ·simp only;rw [re,R7,<- h.2];simp
  ·obtain ⟨q,b⟩:=h;rw [ul] at b;simp only;rw [rl c,Sc,Ti,TC e];cases d:x.2.2.1 with
   | true =>
    have:VN x=false:=by unfold VN;rw [d];rfl
    rw [this] at b;refine ⟨o,?_,⟨by omega,by simpa using b⟩,trivial⟩;rw [Y5,R7,Ts (by omega)]
   | false =>
    have:VN x=true:=by unfold VN;rw [d];rfl
    rw [this] at b;refine ⟨o++[x],?_,⟨by simp;omega,by simpa using b⟩,trivial⟩;rw [sW,Sc,Ti,TC e,UP (by simp [BF];omega),Ts (by omega)];rfl
end
section
open Go Sv
end
section
open Go Sv
end
section
open Go Sv
end
section
open Go Sv
end
section
open Go Sv
def Gd (s0 s:Th):Prop:=VSt s/\LF s.1=LF s0.1/\UE s.1.2.flatten<=2000
theorem pI {l:List UK} {r:UK} (h:r∈l):r.2.length<=UE l:=by
 induction l with
 | nil=>cases h
 | cons x l a =>
  rw [VA];rcases ey.1 h with e | h
  ·rw [e];omega
  ·have:=a h;omega
theorem Yf {L:Tl} (h:UE L.2.flatten<=2000):jP L:=λi r a=>by
 have:=pI (ax.2 ⟨i,a⟩);omega
theorem cv {s:Th} (v:VSt s) (h:jP s.1) {n:Nat} {j:Job} (g:JobAt s.1 n j) (E : ¬ 0<UA s.1 j):UE (Vm s j).2.flatten<=UE s.1.2.flatten:=by
 obtain ⟨G,I,y,J,K⟩:=g.out v.lev (h n);have w:j.1.toNat=n:=by rw [y];simp
 have a:=h n;obtain ⟨d,e,m,k,u,c,x,F,B,C⟩:=g;have i:=Xx.1 u;rw [i] at a;have D:=a d (by simp);have f:=a e (by simp)
 have l:(Uo j).length<=e.2.length+d.2.length:=by
  rw [c];exact (eV C B m x (by omega)).2
 obtain ⟨p,q,f,o⟩:=Xz s.1 n []
 have e1:UE s.1.2.flatten=UE p+((d.2.length+e.2.length)+UE q):=by
  rw [f,i,U1,U1,VA,VA];simp [UE]
 have e2:UE (Ut s.1 n []).2.flatten=UE p+UE q:=by rw [o,U1,U1];simp [UE]
 unfold Vm;rw [w];by_cases b:Uo j=[]
 ·rw [if_pos b];omega
 ·rw [if_neg b];obtain ⟨z,A,r,t⟩:=Xz (Ut s.1 n []) (YO s j) (Tq (Ut s.1 n []).2 (YO s j)++[(s.2.2,Uo j)]);have e3:UE (Ut s.1 n []).2.flatten=UE z+(UE (Tq (Ut s.1 n []).2 (YO s j))+UE A):=by rw [r,U1,U1]
  rw [t,U1,U1,U1,VA];simp only [UE,List.map_nil,List.sum_nil];simp only [UE] at e3 e2 e1;omega
theorem cL {s:Th} (v:VSt s) {d:Int} (h:d∈To 0 s.1.2) : ∃ (i:Nat) (j:Job) (n:Nat),Zl d 0 (To 0 s.1.2)=some i/\s.2.1[i]? = some j/\d=(n:Int)/\j.1=(n:Int)/\JobAt s.1 n j:=by
 obtain ⟨i,hi⟩:=cM (k:=0) h;obtain ⟨j,n,a,b,c,d,_⟩:=v.at hi;exact ⟨i,j,n,hi,a,b,c,d⟩
theorem gv {s0 s:Th} (g:Gd s0 s) {d:Int} (h:d∈To 0 s.1.2) : ∃ (c:Bool) (t:Th) (b:Bool) (e:Int),WZ (s,d)=some (c,0)/\Uw (s,d)=some (t,(b,e))/\(s.2.2<=1000000->c=decide (e=0))/\(e=0->Gd s0 t):=by
 obtain ⟨v,z,hc⟩:=g;have r:=Yf hc;have m:=v.sm;obtain ⟨i,j,n,hi,y,hd,w,q⟩:=cL v h;have A:(Tk s).2=0:=Tu.2 v;have o:aL s d=some j:=by unfold aL;rw [hi];exact y
 have p:WZ (s,d)=some (Vg s.1 j,0):=by
  rw [dz m];unfold WA;rw [if_neg (by simp [A]),o]
 have k:Uw (s,d)=some (Xi s j):=by
  rw [cD m r];unfold WO;rw [if_neg (by simp [A]),o]
 refine ⟨Vg s.1 j,(Xi s j).1,(Xi s j).2.1,(Xi s j).2.2,p,k,?_⟩;unfold Xi;by_cases l:Vg s.1 j=false
 ·rw [if_pos l,l];exact ⟨λ_=>by simp,λh=>by cases h⟩
 have a:Vg s.1 j=true:=by simpa using l
 rw [if_neg l];by_cases f:0<UA s.1 j
 ·rw [if_pos f];refine ⟨λ_=>by simp [a],λ_=>⟨kF v (by rw [w,<- hd];exact hi) y q f,z,hc⟩⟩
 rw [if_neg f];unfold ZB;rw [if_neg (λh=>h.elim f l)];by_cases u:s.2.2>1000000/\Uo j≠[]
 ·rw [if_pos u];exact ⟨λh=>by omega,λh=>by cases h⟩
 rw [if_neg u]
 have x:Uo j≠[]->s.2.2<=1000000:=λC=>by
  by_cases B:s.2.2>1000000
  ·exact absurd ⟨B,C⟩ u
  ·omega
 refine ⟨λ_=>by simp [a],λ_=>⟨jh v r q f a x,?_,?_⟩⟩
 ·exact (gx v r q f a x).trans z
 ·have:=cv v r q f;show UE (Vm s j).2.flatten<=2000;omega
theorem cx : ∀ (ls:List (List UK)) (i:Nat),(To i ls).Pairwise (· < ·)
 | [],_ => .nil
 | rs::ls,i=>by
  have a:=cx ls (i+1);have b:=(Z9 ls (i+1)).2;rw [XL];split
  ·refine List.pairwise_cons.2 ⟨λd hd => ?_,a⟩;have:=b d hd;omega
  ·exact a
theorem Zo : ∀ {ls:List (List UK)} {i n:Nat},(Tq ls n).length=2->((i+n:Nat):Int)∈To i ls
 | [],i,n,h=>by simp [Tq] at h
 | rs::ls,i,0,h=>by
  have h':rs.length=2:=h;rw [XL,if_pos h'];simp
 | rs::ls,i,n+1,h=>by
  rw [XL];refine s6 _ ?_;have:=Zo (ls:=ls) (i:=i+1) (n:=n) h
  rwa [show i+1+n=i+(n+1) by omega] at this
theorem gu {s:Th} (v:VSt s) {k:Nat} {d:Int} (r:(To 0 s.1.2)[k]? = some d) (F:k+1=(To 0 s.1.2).length) (u:d<11):WZ (s,d)=some (true,0):=by
 have m:=v.sm;have c:=bo r;obtain ⟨i,j,n,hi,x,hd,g,E⟩:=cL v c;have B:(Tk s).2=0:=Tu.2 v;have f:aL s d=some j:=by unfold aL;rw [hi];exact x
 have a:Vg s.1 j=true:=by
  have C:=(v.lev.own (n+1)).1
  have D : ¬ (Tq s.1.2 (n+1)).length=2:=λh=>by
   have y:=Zo (i:=0) h;obtain ⟨q,z⟩:=ee y;have t:=cx s.1.2 0;rw [List.pairwise_iff_getElem] at t;obtain ⟨o,e⟩:=a8.1 z;obtain ⟨l,b⟩:=a8.1 r;by_cases p:q=k
   ·subst p;rw [e] at b;omega
   ·have:=t q k o l (by omega);rw [e,b] at this;omega
  have A:Yy s.1 (j.1.toNat+1)=true:=by
   unfold Yy;rw [g,bl];have w:((s.1.2[n+1]?).getD []).length=(Tq s.1.2 (n+1)).length:=rfl;rw [w];exact decide_eq_true ⟨by omega,by omega⟩
  unfold Vg;rw [A];simp
 rw [dz m];unfold WA;rw [if_neg (by simp [B]),f];show some (Vg s.1 j,(0:Int))=_;rw [a]
end
section
open Go Sv
def Wf (f:Nat->Nat):Nat->Nat
 | 0=>0
 | m+1=>Wf f m+f m
theorem bO {f g:Nat->Nat} : ∀ {m:Nat},(∀ i,i<m->g i<=f i)->Wf g m<=Wf f m
 | 0,_=>dc _
 | m+1,h=>Nat.add_le_add (bO λi hi=>h i (by omega)) (h m (by omega))
theorem bN {f g:Nat->Nat} {n:Nat} (a:g n+1<=f n) : ∀ {m:Nat},n<m->(∀ i,i<m->i≠n->g i<=f i)->Wf g m+1<=Wf f m
 | 0,h,_=>absurd h (by omega)
 | m+1,h,ho=>by
  unfold Wf;by_cases e:n=m
  ·subst e;have:=bO (f:=f) (g:=g) (m:=n) λi hi=>ho i (by omega) (by omega);omega
  ·have:=bN a (m:=m) (by omega) λi hi=>ho i (by omega);have:=ho m (by omega) (λh=>e h.symm);omega
theorem cC {f g:Nat->Nat} {n:Nat} (a:g n+g (n+1)+1<=f n+f (n+1)) : ∀ {m:Nat},n+1<m->(∀ i,i<m->i≠n->i≠n+1->g i<=f i)->Wf g m+1<=Wf f m
 | 0,h,_=>absurd h (by omega)
 | m+1,h,ho=>by
  unfold Wf;by_cases e:n+1=m
  ·subst e;have:=bO (f:=f) (g:=g) (m:=n) λi hi=>ho i (by omega) (by omega) (by omega);unfold Wf;omega
  ·have:=cC a (m:=m) (by omega) λi hi=>ho i (by omega);have:=ho m (by omega) (by omega) (by omega);omega
theorem ZL : ∀ {js:List Job} {j:Job},(js.map (·.1)).Nodup->j∈js->Uk js j.1=some j
 | [],_,_,h=>by cases h
 | i::js,j,hn,h=>by
  rw [ll,ol] at hn;unfold Uk;rw [iP];unfold cQ;rw [Vt];rcases ey.1 h with e | h
  ·subst e;simp
  ·have a : ¬ j.1=i.1:=λe=>hn.1 (by rw [<- e];exact l6 h);rw [decide_eq_false a];exact ZL hn.2 h
theorem ba : ∀ {js:List Job} {i:Nat} {j:Job} (w:Xj) (d:Int),(js.map (·.1)).Nodup->js[i]? = some j->Uk (js.set i (j.1,w)) d=if d=j.1 then some (j.1,w) else Uk js d
 | [],i,j,w,d,_,h=>by simp at h
 | x::js,0,j,w,d,hn,h=>by
  have e:x=j:=by simpa using h
  subst e;unfold Uk;rw [List.set_cons_zero,iP,iP];unfold cQ;rw [Vt];by_cases e:d=x.1<;>simp [e]
 | x::js,i+1,j,w,d,hn,h=>by
  rw [ll,ol] at hn;have h':js[i]? = some j:=by simpa using h
  have b:=ba w d hn.2 h';unfold Uk at b ⊢;rw [List.set_cons_succ,iP,iP,b];have c:cQ d x=decide (d=x.1):=Vt _ _;rw [c];by_cases e:d=x.1
  ·have a : ¬ d=j.1:=λe2=>hn.1 (by rw [<- e,e2];exact l6 (bo h'));rw [decide_eq_true e];simp only [a,if_false]
  ·rw [decide_eq_false e]
theorem VSt.noJob {s:Th} (v:VSt s) {i:Nat} (h:(Tq s.1.2 i).length≠2):Uk s.2.1 (i:Int)=none:=by
 refine Yn λa=>h ?_;rw [v.due] at a;obtain ⟨n,c,d,e,b⟩:=aV a;have:i=n:=by omega
 rw [this,Xx.1 b];rfl
theorem VSt.hasJob {s:Th} (v:VSt s) {i:Nat} (h:(Tq s.1.2 i).length=2) : ∃ j,Uk s.2.1 (i:Int)=some j:=by
 have a:=Zo (i:=0) h;rw [eg,<- v.due] at a;obtain ⟨j,b,e⟩:=oy.1 a;exact ⟨j,by rw [<- e];exact ZL v.nodup b⟩
theorem VSt.jobAt {s:Th} (v:VSt s) {i:Nat} {j:Job} (h:Uk s.2.1 (i:Int)=some j):JobAt s.1 i j:=by
 obtain ⟨b,e⟩:=ao h;obtain ⟨n,a⟩:=v.job j b
 have:n=i:=by
  obtain ⟨_,_,_,_,_,rfl,_⟩:=a;have c:(n:Int)=(i:Int):=e;omega
 rwa [this] at a
theorem eB {s:Th} (v:VSt s) (d:Int):aL s d=Uk s.2.1 d:=by
 by_cases h:d∈To 0 s.1.2
 ·obtain ⟨j,n,a,hd,b,_⟩:=v.atDue h;rw [a,hd,<- b];refine (ZL v.nodup ?_).symm;unfold aL at a;split at a
  ·exact bo a
  ·cases a
 ·rw [Yn (by rw [v.due];exact h)];unfold aL;split
  ·rename_i i hi;have:=(eJ hi).2;exact absurd (bo this) h
  ·rfl
def pB (j:Job):Nat:=j.2.2.2.2.toNat
theorem JobAt.rd {L:Tl} {n:Nat} {j:Job} (h:JobAt L n j) : ∃ a b,Tq L.2 n=[a,b]/\pB j<=b.2.length+a.2.length/\UA L j=b.2.length+a.2.length-pB j/\(0<UA L j->pB (j.1,Yz L j)=pB j+1):=by
 obtain ⟨a,b,c,k,d,rfl,f,g,i,l⟩:=h;have e:=Xx.1 d;have e1:(Va b.2 a.2 c k).2.1.2.2=c:=aZ _ _ _ _;have e2:(Va b.2 a.2 c k).2.2.2.toNat=k:=by show ((k:Int)).toNat=k;rw [bl]
 refine ⟨a,b,e,?_,?_,λ_ => ?_⟩
 ·show (Va b.2 a.2 c k).2.2.2.toNat<=_;rw [e2];exact f
 ·unfold UA pB;simp only [bl,d]
 ·show (Yz L ((n:Int),Va b.2 a.2 c k)).2.2.2.toNat=(Va b.2 a.2 c k).2.2.2.toNat+1;unfold Yz;simp only [bl,e];rw [e1,e2];show (((k+1:Nat):Int)).toNat=_;rw [bl]
structure StepF (s:Th) (n:Nat) (j:Job) (t:Th) (b:Bool):Prop where
 job:Uk s.2.1 (n:Int)=some j
 read:0<UA s.1 j->b=false/\t.1=s.1/\t.2.2=s.2.2 /\ ∀ i:Nat,Uk t.2.1 (i:Int)=if i=n then some (j.1,Yz s.1 j) else Uk s.2.1 (i:Int)
 inst:UA s.1 j=0->b=true/\t.1=Vm s j/\t.2.2=YD s j/\(∀ i,(Tq t.1.2 i)=if Uo j≠[]/\i=YO s j then (if i=n then [] else Tq s.1.2 i)++[(s.2.2,Uo j)] else if i=n then [] else Tq s.1.2 i)/\(YO s j=n\/YO s j=n+1/\n+1<12/\(Uo j≠[]->(Tq s.1.2 (n+1)).length<2)) /\
  ∀ i:Nat,Uk t.2.1 (i:Int)=if (Tq t.1.2 i).length=2 then some ((if i=n then none else Uk s.2.1 (i:Int)).getD (WW t.1 (i:Int))) else none
theorem ew {s0 s:Th} (g:Gd s0 s) {d:Int} (h:d∈To 0 s.1.2) (e:(WO s d).2.2=0) : ∃ (n:Nat) (j:Job),d=(n:Int)/\n<12/\JobAt s.1 n j/\Vg s.1 j=true/\StepF s n j (WO s d).1 (WO s d).2.1/\Gd s0 (WO s d).1:=by
 obtain ⟨v,Y,hc⟩:=g;have W:=Yf hc;have m:=v.sm;obtain ⟨c,t,b,er,_,J,_,X⟩:=gv ⟨v,Y,hc⟩ h;rw [cD m W] at J;have w:=Option.some.inj J;obtain ⟨i,j,n,hi,S,hd,u,P⟩:=cL v h;have hz:(Tk s).2=0:=Tu.2 v;have C:aL s d=some j:=by unfold aL;rw [hi];exact S
 have Z:n<12:=by
  have:=v.lev.len;obtain ⟨_,_,_,_,U,_⟩:=P;have:=(a8.1 U).1;omega
 have E:Uk s.2.1 (n:Int)=some j:=by rw [<- hd,<- eB v,C]
 have hS:WO s d=Xi s j:=by unfold WO;rw [if_neg (by simp [hz]),C]
 have A:Gd s0 (WO s d).1:=by rw [w];exact X (by rw [<- e,w])
 have k:=A.1;rw [hS] at e k A ⊢;refine ⟨n,j,hd,Z,P,?_,⟨E,λN => ?_,λN => ?_⟩,A⟩
 ·unfold Xi at e;by_cases a:Vg s.1 j=false
  ·rw [if_pos a] at e;cases e
  ·simpa using a
 ·unfold Xi at e ⊢;have a : ¬ Vg s.1 j=false:=λa=>by rw [if_pos a] at e;cases e
  rw [if_neg a,if_pos N];refine ⟨rfl,rfl,rfl,λo => ?_⟩;show Uk (Zw s j).2.1 _=_;unfold Zw;rw [u,<- hd,hi,hM];show Uk (s.2.1.set i (d,Yz s.1 j)) _=_;have:=ba (Yz s.1 j) (o:Int) v.nodup S;rw [u,<- hd] at this;rw [this,hd];by_cases p:o=n
  ·rw [if_pos (by rw [p]),if_pos p]
  ·rw [if_neg (by omega),if_neg p]
 ·unfold Xi at e k ⊢;have a : ¬ Vg s.1 j=false:=λa=>by rw [if_pos a] at e;cases e
  have q:Vg s.1 j=true:=by simpa using a
  have z : ¬ 0<UA s.1 j:=by omega
  rw [if_neg a,if_neg z] at e k ⊢;unfold ZB at e k ⊢;rw [if_neg (λh=>h.elim z a)] at e k ⊢;by_cases O:s.2.2>1000000/\Uo j≠[]
  ·rw [if_pos O] at e;cases e
  rw [if_neg O] at e k ⊢;have B:j.1.toNat=n:=by rw [u];simp
  have G : ∀ i,Tq (Vm s j).2 i=_:=λi=>V0 (s:=s) (j:=j) B i;refine ⟨rfl,rfl,rfl,G,?_,λo => ?_⟩
  ·unfold YO;rw [B];by_cases hs:Vn s.1 j=true
   ·rw [if_pos hs];exact .inl rfl
   ·rw [if_neg hs]
    have hr:Yy s.1 (n+1)=true:=by
     unfold Vg at q;rw [B] at q;simpa [hs,z] using q
    have I:=of_decide_eq_true hr;exact .inr ⟨rfl,I.1,λ_=>I.2⟩
  ·have r:VSt (ZJ s (Vm s j) (YD s j) j.1):=k;show Uk (ZJ s (Vm s j) (YD s j) j.1).2.1 (o:Int)=if (Tq (Vm s j).2 o).length=2 then some ((if o=n then none else Uk s.2.1 (o:Int)).getD (WW (Vm s j) (o:Int))) else none
   have ho:(Tq (ZJ s (Vm s j) (YD s j) j.1).1.2 o)=Tq (Vm s j).2 o:=rfl;by_cases K:(Tq (Vm s j).2 o).length=2
   ·rw [if_pos K];have M:=Zo (i:=0) K;rw [eg] at M;have F:We s (Vm s j) j.1 (o:Int)∈(ZJ s (Vm s j) (YD s j) j.1).2.1:=l6 M
    have D:(We s (Vm s j) j.1 (o:Int)).1=(o:Int):=by
     have L:(To 0 (Vm s j).2).map (λd=>(We s (Vm s j) j.1 d).1)=To 0 (Vm s j).2:=by
      have:=r.due;simpa [ZJ,TT,Function.comp_def] using this
     have key : ∀ {l:List Int} {f:Int->Int},l.map f=l -> ∀ x∈l,f x=x:=by
      intro l f
      induction l with
      | nil=>intro _ x hx;cases hx
      | cons y l ih =>
       intro h x hx;rw [ll] at h;obtain ⟨k1,k2⟩:=List.cons.inj h;rcases ey.1 hx with rfl | hx
       ·exact k1
       ·exact ih k2 x hx
     exact key L _ M
    have:=ZL r.nodup F;rw [D] at this;rw [this];unfold We;rw [u];by_cases p:o=n
    ·rw [if_pos (by omega),if_pos p]
    ·rw [if_neg (by omega),if_neg p]
   ·rw [if_neg K];exact r.noJob (by rw [ho];exact K)
end
section
open Go Sv
def kC (s:Th) (i:Nat):Nat:=match Uk s.2.1 (i:Int) with
 | some j=>pB j
 | none=>0
def cX (N:Nat) (s:Th) (i:Nat):Nat:=(Tq s.1.2 i).length*(N+1)-kC s i
def YC (N:Nat) (s:Th):Nat:=Wf (cX N s) 12
theorem cI {L:Tl} {n:Nat} {a b:UK} (h:Tq L.2 n=[a,b]):a.2.length+b.2.length<=UE L.2.flatten:=by
 obtain ⟨p,q,c,_⟩:=Xz L n [];rw [c,h,U1,U1,VA,VA];omega
theorem VSt.rd0 {s:Th} (v:VSt s) {i:Nat} (h:(Tq s.1.2 i).length≠2):kC s i=0:=by
 unfold kC;rw [v.noJob h]
theorem j7 {N:Nat} {s t:Th} {n:Nat} {j:Job} {b:Bool} (v:VSt s) (A:UE s.1.2.flatten<=N) (q:n<12) (x:JobAt s.1 n j) (F:StepF s n j t b):YC N t+1<=YC N s:=by
 obtain ⟨D,E,l,B,C,y⟩:=x.rd;have hc:=cI l
 have hs:cX N s n=2*(N+1)-pB j:=by
  unfold cX kC;rw [F.job,l];rfl
 by_cases o:0<UA s.1 j
 ·obtain ⟨_,e1,_,e2⟩:=F.read o;refine bN (n:=n) ?_ q λi _ a => ?_
  ·have m:cX N t n=2*(N+1)-(pB j+1):=by
    unfold cX kC;rw [e2,if_pos rfl,e1,l,<- y o];rfl
   omega
  ·unfold cX kC;rw [e2,if_neg a,e1];exact dc _
 ·obtain ⟨_,e1,_,e2,e3,e4⟩:=F.inst (by omega)
  have d : ∀ i,i≠n -> ¬ (Uo j≠[]/\i=YO s j)->cX N t i<=cX N s i:=λi a hit=>by
   have e:Tq t.1.2 i=Tq s.1.2 i:=by rw [e2,if_neg hit,if_neg a]
   have c:kC t i=kC s i:=by
    by_cases c:(Tq s.1.2 i).length=2
    ·obtain ⟨j',k⟩:=v.hasJob c;unfold kC;rw [e4,e,if_pos c,if_neg a,k];rfl
    ·rw [v.rd0 c];unfold kC;rw [e4,e,if_neg c]
   unfold cX;rw [e,c];exact dc _
  by_cases m:Uo j≠[]/\YO s j≠n
  ·obtain ⟨p,r⟩:=m;rcases e3 with e3 | ⟨e3,f,c⟩
   ·exact absurd e3 r
   have c:=c p;refine cC (n:=n) ?_ f λi _ a g=>d i a (by rw [e3];exact λh=>g h.2)
   have u:cX N t n=0:=by
    unfold cX;rw [e2,if_neg (by rw [e3];omega),if_pos rfl];simp
   have w:cX N t (n+1)<=((Tq s.1.2 (n+1)).length+1)*(N+1):=by
    unfold cX;rw [e2,if_pos ⟨p,e3.symm⟩,if_neg (by omega),hV];exact x8 _ _
   have z:cX N s (n+1)=(Tq s.1.2 (n+1)).length*(N+1):=by
    unfold cX;rw [v.rd0 (by omega)];rfl
   rw [yo] at w;omega
  ·refine bN (n:=n) ?_ q λi _ a=>d i a (λh=>m ⟨h.1,by rw [<- h.2];exact a⟩)
   have u:cX N t n<=1*(N+1):=by
    refine ta (x8 _ _) (ox _ ?_);rw [e2,if_pos rfl];split<;>simp
   omega
theorem cf (L:List (List UK)) : ∀ m,Wf (λi=>(Tq L i).length) m=(L.take m).flatten.length
 | 0=>by simp [Wf]
 | m+1=>by
  unfold Wf;rw [cf L m];by_cases h:m<L.length
  ·have:L.take (m+1)=L.take m++[Tq L m]:=by
    rw [gM,WE h];rfl
   rw [this,List.flatten_append];simp
  ·have:Tq L m=[]:=by unfold Tq;rw [a9 (by omega)];rfl
   rw [this,eo (by omega),eo (by omega)];simp
theorem gZ (f:Nat->Nat) (c:Nat) : ∀ m,Wf (λi=>f i*c) m=Wf f m*c
 | 0=>by simp [Wf]
 | m+1=>by unfold Wf;rw [gZ f c m,yo]
theorem j0 (N:Nat) {s:Th} (v:VSt s):YC N s<=s.1.2.flatten.length*(N+1):=by
 have a:YC N s<=Wf (λi=>(Tq s.1.2 i).length*(N+1)) 12:=bO λi _=>x8 _ _;have:=v.lev.len;rw [gZ,cf,eo (by omega)] at a;exact a
theorem ak {L:Tl} (v:VLev L):L.2.flatten.length<=24:=by
 have h:=cf L.2 12;have:=v.len;rw [eo (by omega)] at h;rw [<- h];exact bO (f:=λ_=>2) λi _=>(v.own i).1
end
section
open Go Sv
abbrev eA:=(Int×(Int×(Int×jQ)))
def zb (a:jQ) (k l:Nat):jQ :=
 (TU (neq l 0) (SF .i64 (Oe [a.1,a.2.1,a.2.2.1,a.2.2.2.1,a.2.2.2.2.1,a.2.2.2.2.2.1,a.2.2.2.2.2.2.1,a.2.2.2.2.2.2.2.1,a.2.2.2.2.2.2.2.2.1,a.2.2.2.2.2.2.2.2.2.1,a.2.2.2.2.2.2.2.2.2.2.1,a.2.2.2.2.2.2.2.2.2.2.2] k) 1) a.1,(TU (neq l 1) (SF .i64 (Oe [a.1,a.2.1,a.2.2.1,a.2.2.2.1,a.2.2.2.2.1,a.2.2.2.2.2.1,a.2.2.2.2.2.2.1,a.2.2.2.2.2.2.2.1,a.2.2.2.2.2.2.2.2.1,a.2.2.2.2.2.2.2.2.2.1,a.2.2.2.2.2.2.2.2.2.2.1,a.2.2.2.2.2.2.2.2.2.2.2] k) 1) a.2.1,(TU (neq l 2) (SF .i64 (Oe [a.1,a.2.1,a.2.2.1,a.2.2.2.1,a.2.2.2.2.1,a.2.2.2.2.2.1,a.2.2.2.2.2.2.1,a.2.2.2.2.2.2.2.1,a.2.2.2.2.2.2.2.2.1,a.2.2.2.2.2.2.2.2.2.1,a.2.2.2.2.2.2.2.2.2.2.1,a.2.2.2.2.2.2.2.2.2.2.2] k) 1) a.2.2.1,(TU (neq l 3) (SF .i64 (Oe [a.1,a.2.1,a.2.2.1,a.2.2.2.1,a.2.2.2.2.1,a.2.2.2.2.2.1,a.2.2.2.2.2.2.1,a.2.2.2.2.2.2.2.1,a.2.2.2.2.2.2.2.2.1,a.2.2.2.2.2.2.2.2.2.1,a.2.2.2.2.2.2.2.2.2.2.1,a.2.2.2.2.2.2.2.2.2.2.2] k) 1) a.2.2.2.1,(TU (neq l 4) (SF .i64 (Oe [a.1,a.2.1,a.2.2.1,a.2.2.2.1,a.2.2.2.2.1,a.2.2.2.2.2.1,a.2.2.2.2.2.2.1,a.2.2.2.2.2.2.2.1,a.2.2.2.2.2.2.2.2.1,a.2.2.2.2.2.2.2.2.2.1,a.2.2.2.2.2.2.2.2.2.2.1,a.2.2.2.2.2.2.2.2.2.2.2] k) 1) a.2.2.2.2.1,(TU (neq l 5) (SF .i64 (Oe [a.1,a.2.1,a.2.2.1,a.2.2.2.1,a.2.2.2.2.1,a.2.2.2.2.2.1,a.2.2.2.2.2.2.1,a.2.2.2.2.2.2.2.1,a.2.2.2.2.2.2.2.2.1,a.2.2.2.2.2.2.2.2.2.1,a.2.2.2.2.2.2.2.2.2.2.1,a.2.2.2.2.2.2.2.2.2.2.2] k) 1) a.2.2.2.2.2.1,(TU (neq l 6) (SF .i64 (Oe [a.1,a.2.1,a.2.2.1,a.2.2.2.1,a.2.2.2.2.1,a.2.2.2.2.2.1,a.2.2.2.2.2.2.1,a.2.2.2.2.2.2.2.1,a.2.2.2.2.2.2.2.2.1,a.2.2.2.2.2.2.2.2.2.1,a.2.2.2.2.2.2.2.2.2.2.1,a.2.2.2.2.2.2.2.2.2.2.2] k) 1) a.2.2.2.2.2.2.1,(TU (neq l 7) (SF .i64 (Oe [a.1,a.2.1,a.2.2.1,a.2.2.2.1,a.2.2.2.2.1,a.2.2.2.2.2.1,a.2.2.2.2.2.2.1,a.2.2.2.2.2.2.2.1,a.2.2.2.2.2.2.2.2.1,a.2.2.2.2.2.2.2.2.2.1,a.2.2.2.2.2.2.2.2.2.2.1,a.2.2.2.2.2.2.2.2.2.2.2] k) 1) a.2.2.2.2.2.2.2.1,(TU (neq l 8) (SF .i64 (Oe [a.1,a.2.1,a.2.2.1,a.2.2.2.1,a.2.2.2.2.1,a.2.2.2.2.2.1,a.2.2.2.2.2.2.1,a.2.2.2.2.2.2.2.1,a.2.2.2.2.2.2.2.2.1,a.2.2.2.2.2.2.2.2.2.1,a.2.2.2.2.2.2.2.2.2.2.1,a.2.2.2.2.2.2.2.2.2.2.2] k) 1) a.2.2.2.2.2.2.2.2.1,(TU (neq l 9) (SF .i64 (Oe [a.1,a.2.1,a.2.2.1,a.2.2.2.1,a.2.2.2.2.1,a.2.2.2.2.2.1,a.2.2.2.2.2.2.1,a.2.2.2.2.2.2.2.1,a.2.2.2.2.2.2.2.2.1,a.2.2.2.2.2.2.2.2.2.1,a.2.2.2.2.2.2.2.2.2.2.1,a.2.2.2.2.2.2.2.2.2.2.2] k) 1) a.2.2.2.2.2.2.2.2.2.1,(TU (neq l 10) (SF .i64 (Oe [a.1,a.2.1,a.2.2.1,a.2.2.2.1,a.2.2.2.2.1,a.2.2.2.2.2.1,a.2.2.2.2.2.2.1,a.2.2.2.2.2.2.2.1,a.2.2.2.2.2.2.2.2.1,a.2.2.2.2.2.2.2.2.2.1,a.2.2.2.2.2.2.2.2.2.2.1,a.2.2.2.2.2.2.2.2.2.2.2] k) 1) a.2.2.2.2.2.2.2.2.2.2.1,TU (neq l 11) (SF .i64 (Oe [a.1,a.2.1,a.2.2.1,a.2.2.2.1,a.2.2.2.2.1,a.2.2.2.2.2.1,a.2.2.2.2.2.2.1,a.2.2.2.2.2.2.2.1,a.2.2.2.2.2.2.2.2.1,a.2.2.2.2.2.2.2.2.2.1,a.2.2.2.2.2.2.2.2.2.2.1,a.2.2.2.2.2.2.2.2.2.2.2] k) 1) a.2.2.2.2.2.2.2.2.2.2.2)))))))))))
end
section
open Go Sv
def VT (s:Th):Int:=if (Ur s).2≠0 then (Ur s).2 else (WO s (Ur s).1).2.2
def XK (s:Th):Th:=(WO s (Ur s).1).1
def bT (s:Th):Int×Bool:=((Ur s).1,(WO s (Ur s).1).2.1)
def Ug:Nat->Th->Th×(List (Int×Bool)×Int)
 | 0,s=>(s,([],0))
 | n+1,s=>if VT s=4 then (s,([],0)) else if VT s≠0 then (s,([],VT s)) else ((Ug n (XK s)).1,(bT s::(Ug n (XK s)).2.1,(Ug n (XK s)).2.2))
theorem Yg {s:Th} : ∀ {l:List Int} {d:Int},VH s l=some d -> ∃ p q,l=p++d::q/\(WA false (λs j=>(Vg s.1 j,0)) s d).1=true /\ ∀ x∈p,¬ (WA false (λs j=>(Vg s.1 j,0)) s x).1=true
 | [],_,h=>by cases h
 | x::l,d,h=>by
  unfold VH at h;split at h
  ·rename_i a;cases h;exact ⟨[],l,rfl,a,λ_ h=>by cases h⟩
  ·rename_i a;obtain ⟨p,q,rfl,b,c⟩:=Yg h
   exact ⟨x::p,q,rfl,b,λy hy=>by
    rcases ey.1 hy with rfl | hy
    ·exact a
    ·exact c y hy⟩
theorem Ze {s:Th} (v:VSt s):((Ur s).2=4/\s.2.1=[])\/(Ur s).2=9\/((Ur s).2=0/\(Ur s).1∈To 0 s.1.2):=by
 have a:(Tk s).2=0:=Tu.2 v;unfold Ur;rw [if_neg (by simp [a])];by_cases h:To 0 s.1.2=[]
 ·rw [if_pos h];refine .inl ⟨rfl,?_⟩;have:=v.due;rw [h] at this;simpa using this
 ·rw [if_neg h];cases hc:VH s (To 0 s.1.2) with
  | none=>exact .inr (.inl rfl)
  | some d =>
   obtain ⟨p,q,e,_⟩:=Yg hc;exact .inr (.inr ⟨rfl,by rw [e];simp⟩)
theorem iM (s:Th) (j:Job):(Xi s j).2.2≠4:=by
 unfold Xi;split
 ·simp
 ·split
  ·simp
  ·unfold ZB;split
   ·simp
   ·split<;>simp
theorem kQ {s:Th} (v:VSt s) {d:Int} (h:d∈To 0 s.1.2):(WO s d).2.2≠4:=by
 have b:(Tk s).2=0:=Tu.2 v;obtain ⟨j,n,a,_⟩:=v.atDue h;unfold WO;rw [if_neg (by simp [b]),a];exact iM s j
theorem aG {s0 s:Th} (g:Gd s0 s):U7 s=some (Ur s)/\Yk s=some (Ur s):=⟨pD g.1.sm,iE g.1.sm⟩
theorem dw {s0 s:Th} (g:Gd s0 s) (d:Int):Uw (s,d)=some (WO s d)/\Yl (s,d)=some (WO s d) :=
 ⟨cD g.1.sm (Yf g.2.2) d,iF g.1.sm (Yf g.2.2) d⟩
theorem dN {s0 s:Th} (g:Gd s0 s) (e:VT s=0):(Ur s).2=0/\(Ur s).1∈To 0 s.1.2/\(WO s (Ur s).1).2.2=0:=by
 unfold VT at e;rcases Ze g.1 with h | h | h
 ·rw [if_pos (by rw [h.1];decide),h.1] at e;cases e
 ·rw [if_pos (by rw [h];decide),h] at e;cases e
 ·rw [if_neg (by simp [h.1])] at e;exact ⟨h.1,h.2,e⟩
theorem Ww {s0 s:Th} (g:Gd s0 s) (e:VT s=0) : ∃ (n:Nat) (j:Job),(bT s).1=(n:Int)/\n<12/\JobAt s.1 n j/\Vg s.1 j=true/\StepF s n j (XK s) (bT s).2/\Gd s0 (XK s):=by
 obtain ⟨_,a,b⟩:=dN g e;exact ew g a b
theorem dO {s0 s:Th} (g:Gd s0 s) (e:VT s=4):(Ur s).2=4/\s.2.1=[]:=by
 unfold VT at e;rcases Ze g.1 with h | h | h
 ·exact h
 ·rw [if_pos (by rw [h];decide),h] at e;cases e
 ·rw [if_neg (by simp [h.1])] at e;exact absurd e (kQ g.1 h.2)
theorem Zv {s0 s:Th} {N:Nat} (g:Gd s0 s) (a:UE s.1.2.flatten<=N) (e:VT s=0):YC N (XK s)+1<=YC N s/\UE (XK s).1.2.flatten<=N:=by
 obtain ⟨n,j,_,d,c,_,F,_⟩:=Ww g e;refine ⟨j7 g.1 a d c F,?_⟩;by_cases b:0<UA s.1 j
 ·rw [(F.read b).2.1];exact a
 ·rw [(F.inst (by omega)).2.1];exact ta (cv g.1 (Yf g.2.2) c b) a
theorem ZH {s0:Th} {N:Nat} : ∀ {n:Nat} {s:Th},Gd s0 s->UE s.1.2.flatten<=N->(Ug n s).2.1.length<=n/\(Ug n s).2.1.length+YC N (Ug n s).1<=YC N s/\Gd s0 (Ug n s).1/\UE (Ug n s).1.1.2.flatten<=N/\((Ug n s).2.2=0->(Ug n s).2.1.length<n->(Ug n s).1.2.1=[])
 | 0,s,g,hN=>⟨dc _,by simp [Ug],g,hN,λ_ h=>absurd h (by simp [Ug])⟩
 | n+1,s,g,hN=>by
  unfold Ug;by_cases b:VT s=4
  ·rw [if_pos b];exact ⟨by simp,by simp,g,hN,λ_ _=>(dO g b).2⟩
  ·rw [if_neg b];by_cases a:VT s=0
   ·rw [if_neg (by simp [a])];obtain ⟨_,_,_,_,_,_,_,d⟩:=Ww g a;obtain ⟨m,f⟩:=Zv g hN a;obtain ⟨i,o,j,k,l⟩:=ZH (n:=n) d f;refine ⟨by simpa using i,?_,j,k,λc e=>l c (by simpa using e)⟩;simp only [ci];omega
   ·rw [if_pos a];exact ⟨by simp,by simp,g,hN,λc=>absurd c a⟩
theorem di : ∀ (n m:Nat) (s:Th),Ug (n+m) s=if (Ug n s).2.2≠0 then Ug n s else ((Ug m (Ug n s).1).1,((Ug n s).2.1++(Ug m (Ug n s).1).2.1,(Ug m (Ug n s).1).2.2))
 | 0,m,s=>by rw [eg];simp [Ug]
 | n+1,m,s=>by
  rw [show n+1+m=(n+m)+1 by omega];have d:=di n m (XK s);simp only [Ug];by_cases a:VT s=4
  ·simp only [a,if_true];cases m with
   | zero=>simp [Ug]
   | succ m=>simp [Ug,a]
  ·simp only [a,if_false];by_cases b:VT s=0
   ·simp only [b,ne_eq,not_true_eq_false,if_false];rw [d];by_cases c:(Ug n (XK s)).2.2=0
    ·simp [c]
    ·simp [c]
   ·simp [b]
def tV (u:eA) (x:Int×Bool):eA:=(SF .i64 u.1 1,(u.2.1,(if x.2=true then SF .i64 u.2.2.1 1 else u.2.2.1,zb u.2.2.2 x.1.toNat x.1.toNat)))
def qI (u:eA) (l:List (Int×Bool)):eA:=l.foldl tV u
end
section
open Go Sv
theorem pE {α β γ:Type} {f:α->Option (LR α β)} {K:β->Option γ} {R:Option γ} (Inv:α->Prop) (Q:β->Prop) (m:α->Nat) {s:α} (hs:Inv s) (b:m s<18446744073709551616)
  (step : ∀ s,Inv s->(∃ s',f s=some (.nx s')/\Inv s'/\m s'<m s)\/(∃ x,f s=some (.dn x)/\Q x)) (a : ∀ x,Q x->K x=R):bd (loop f s) K=R:=by
 obtain ⟨x,e,q⟩:=SM Inv Q m hs b step;rw [e];exact a x q
theorem pF {β:Type} (n:Nat) (x y:Unit->Option β):br (neq n 0) x y=if n=0 then x () else y ():=by
 rw [Sy]
def ZZ (s:Th) (g:Int):Int:=if (Tk s).2≠0 then (Tk s).2 else if g<0\/g>1000000 then 7 else 0
theorem ub {s0 s:Th} (g:Gd s0 s):VT s=4/\(Ur s).2=4\/VT s≠4/\VT s≠0/\(Ur s).2≠4/\((Ur s).2=VT s\/(Ur s).2=0/\(WO s (Ur s).1).2.2=VT s)\/VT s=0/\(Ur s).2=0/\(WO s (Ur s).1).2.2=0:=by
 by_cases a:VT s=4
 ·exact .inl ⟨a,(dO g a).1⟩
 ·by_cases b:VT s=0
  ·have:=dN g b;exact .inr (.inr ⟨b,this.1,this.2.2⟩)
  ·refine .inr (.inl ⟨a,b,?_⟩);unfold VT at a b ⊢;by_cases c:(Ur s).2≠0
   ·rw [if_pos c] at a ⊢;exact ⟨a,.inl rfl⟩
   ·have d:(Ur s).2=0:=by simpa using c
    rw [if_neg c];rw [d];exact ⟨by decide,.inr ⟨rfl,rfl⟩⟩
theorem zH {u:eA} {x:Int×Bool} (h:0<=u.1/\u.1<=1000000):(tV u x).1=u.1+1:=by
 show SF .i64 u.1 1=_;exact Sh (by omega)
def At (s0:Th) (g:Int) (T:Th×((List Int×eA)×Int)) (k:Nat) (s:Th) (l:List Int) (u:eA):Prop:=Gd s0 s/\0<=u.1/\u.1+k=g/\g<=1000000/\(l.length:Int)=u.1/\T=((Ug k s).1,((l++(Ug k s).2.1.map (·.1),qI u (Ug k s).2.1),(Ug k s).2.2))
theorem At.step {s0 s:Th} {g:Int} {T:Th×((List Int×eA)×Int)} {k:Nat} {l:List Int} {u:eA} (a:At s0 g T (k+1) s l u) (e:VT s=0):At s0 g T k (XK s) (l++[(bT s).1]) (tV u (bT s)):=by
 obtain ⟨c,h,i,d,j,f⟩:=a;obtain ⟨_,_,_,_,_,_,_,b⟩:=Ww c e;have m:=zH (x:=bT s) (show 0<=u.1/\u.1<=1000000 by omega);refine ⟨b,by omega,by omega,d,by simp;omega,?_⟩;rw [f];simp only [Ug,e,ne_eq,not_true_eq_false,if_false,ll,List.append_assoc,List.cons_append,oj];rfl
theorem At.none {s0 s:Th} {g:Int} {T:Th×((List Int×eA)×Int)} {k:Nat} {l:List Int} {u:eA} (a:At s0 g T k s l u) (e:VT s=4):T=(s,((l,u),0)):=by
 rw [a.2.2.2.2.2];cases k<;>simp [Ug,e,qI]
theorem At.fail {s0 s:Th} {g:Int} {T:Th×((List Int×eA)×Int)} {k:Nat} {l:List Int} {u:eA} (a:At s0 g T (k+1) s l u) (c:VT s≠4) (b:VT s≠0):T=(s,((l,u),VT s)):=by
 rw [a.2.2.2.2.2];simp [Ug,c,b,qI]
theorem At.last {s0 s:Th} {g:Int} {T:Th×((List Int×eA)×Int)} {l:List Int} {u:eA} (a:At s0 g T 0 s l u):T=(s,((l,u),0)):=by
 rw [a.2.2.2.2.2];simp [Ug,qI]
theorem jW {s:Th} {g:Int} (h:(Tk s).2≠0):ZZ s g=(Tk s).2:=if_pos h
theorem cr {s:Th} {g:Int} (a:(Tk s).2=0) (h:g<0\/g>1000000):ZZ s g=7:=by unfold ZZ;rw [if_neg (by simp [a]),if_pos h]
theorem cq {s:Th} {g:Int} (a:(Tk s).2=0) (h : ¬ (g<0\/g>1000000)):ZZ s g=0:=by unfold ZZ;rw [if_neg (by simp [a]),if_neg h]
end
section
open Go Sv
def wA (s:Th):Int×(List (List UK)×(List Job×Int)):=(s.1.1,(s.1.2,s.2))
end
end Go.Proofs.YtfipnhjfbebeiaaGreatDoor.Pl
