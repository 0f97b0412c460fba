/- Functions of the program and of the specification as plain functions, and laws about them. No condition. -/
import Derived.Test.YtbahicnpiefmlaaGreatDoorPl1
import Derived.KernelRfl
set_option linter.all false
open List renaming filter_cons->xo, find?_cons->kd, find?_some->x6, flatten_cons->lc, foldl_cons->gM, getElem?_eq_getElem->ee, getElem?_eq_none->a9, getElem?_eq_some_iff->a8, getElem?_of_mem->dc, getElem?_take->sw, length_append->iP, length_cons->co, length_pos_iff->ey, map_cons->hI, map_map->yo, mem_append->oj, mem_append_right->rY, mem_cons->en, mem_flatten->l5, mem_map->oy, mem_map_of_mem->l6, mem_of_find?_eq_some->tk, mem_of_getElem?->bo, nil_append->ol, nodup_cons->ox, sum_cons->tw, take_add_one->li, take_of_length_le->hM
open Nat renaming add_comm->yp, le_refl->eb, le_trans->s7, mul_le_mul_right->r7, zero_add->eg
open Int renaming toNat_natCast->bl
open Option renaming filter->mR, getD_some->ll, none_or->s8, or_assoc->gs, toList_some->xb
namespace Go.Proofs.YtbahicnpiefmlaaGreatDoor.Pl
section
open Go Sv
def zS:Th:=((0,[]),([],0))
def Uo (j:Job):List Ti:=j.2.2.2.1
def Yo (s:Th) (j:Job):Nat:=if XG s.1 j=true then j.1.toNat else j.1.toNat+1
def Vt (s:Th) (j:Job):Tk:=if Uo j=[] then U3 s.1 j.1.toNat [] else U3 (U3 s.1 j.1.toNat []) (Yo s j) (To (U3 s.1 j.1.toNat []).2 (Yo s j)++[(s.2.2,Uo j)])
def Ym (s:Th) (j:Job):Int:=if Uo j=[] then s.2.2 else s.2.2+1
def Zx (s:Th) (j:Job):Th×Int :=
 if 0<UL s.1 j\/Wo s.1 j=false then (zS,9) else if s.2.2>1000000/\Uo j≠[] then (zS,5) else (Ys s (Vt s j) (Ym s j) j.1,0)
theorem aT : ∀ (ls:List (List UK)) (i:Nat),(Tp i ls).Nodup /\ ∀ d∈Tp i ls,(i:Int)<=d
 | [],_=>⟨.nil,λ_ h=>by cases h⟩
 | rs::ls,i=>by
  obtain ⟨b,a⟩:=aT ls (i+1);rw [YC];by_cases h:rs.length=2
  ·rw [if_pos h];refine ⟨ox.2 ⟨λc => ?_,b⟩,λd hd => ?_⟩
   ·have:=a _ c;omega
   ·rcases en.1 hd with e | hd
    ·omega
    ·have:=a d hd;omega
  ·rw [if_neg h];exact ⟨b,λd hd=>by have:=a d hd;omega⟩
theorem VSt.nodup {s:Th} (v:VSt s):(s.2.1.map (·.1)).Nodup:=by rw [v.due];exact (aT _ _).1
theorem JobAt.out {L:Tk} {n:Nat} {j:Job} (h:JobAt L n j) (v:VLev L) (hs:(∀ r∈To L.2 n,r.2.length<=2000)):VL (Uo j)/\((Uo j).length:Int)<=2*Um L.1 n/\j.1=(n:Int)/\n<12/\To L.2 n≠[]:=by
 obtain ⟨a,b,d,k,e,rfl,i,_,l,m⟩:=h;have c:To L.2 n=[a,b]:=by unfold To;rw [e];rfl
 have s:=hs a (by rw [c];simp);have t:=hs b (by rw [c];simp);have u:=((v.own n).2 a (by rw [c];simp)).le;have w:=((v.own n).2 b (by rw [c];simp)).le;obtain ⟨f,g⟩:=iT m l d i (by omega);have p:=(a8.1 e).1;have q:=v.len;refine ⟨f,?_,rfl,by omega,by rw [c];simp⟩
 have o:((Uo ((n:Int),VO b.2 a.2 d k)).length:Int)<=(b.2.length:Int)+(a.2.length:Int):=by
  have:(Uo ((n:Int),VO b.2 a.2 d k)).length<=b.2.length+a.2.length:=g;omega
 omega
def nu (L:Tk):Prop := ∀ i,∀ r∈To L.2 i,r.2.length<=2000
structure InstF (s:Th) (n:Nat) (j:Job):Prop where
 l1:VLev (U3 s.1 n [])
 to12:Uo j≠[]->Yo s j<12
 vr:Uo j≠[]->VR (Um s.1.1 (Yo s j)) (s.2.2,Uo j)
 id : ∀ y∈(U3 s.1 n []).2.flatten,y.1≠s.2.2
 room:Uo j≠[]->(To (U3 s.1 n []).2 (Yo s j)).length<2
 lev:VLev (Vt s j)
theorem iC {s:Th} (v:VSt s) (A:nu s.1) {n:Nat} {j:Job} (z:JobAt s.1 n j) (G : ¬ 0<UL s.1 j) (hc:Wo s.1 j=true) (x:Uo j≠[]->s.2.2<=1000000):InstF s n j:=by
 obtain ⟨C,D,E,t,I⟩:=z.out v.lev (A n);have a:=v.lev.leave (n:=n) t;have e:j.1.toNat=n:=by rw [E];simp
 have b:XG s.1 j≠true->n+1<12/\(To s.1.2 (n+1)).length<2:=λhs=>by
  unfold Wo at hc;rw [show decide (0<UL s.1 j)=false by simp;omega,e] at hc;cases o:XG s.1 j with
  | true=>exact absurd o hs
  | false =>
   rw [o] at hc;simpa [Zi,To] using hc
 have d : ∀ y∈(U3 s.1 n []).2.flatten,y.1≠s.2.2:=λy r=>by
  obtain ⟨p,q,i,k⟩:=XY s.1 n [];rw [k,ol] at r
  have B:y∈s.1.2.flatten:=by
   rw [i];rcases oj.1 r with h | h
   ·exact List.mem_append_left _ h
   ·exact rY _ (rY _ h)
  have:=ZJ B;have:=v.n3;omega
 have m:Yo s j<12/\(To (U3 s.1 n []).2 (Yo s j)).length<2/\((Uo j).length:Int)<=Um s.1.1 (Yo s j):=by
  unfold Yo;by_cases hs:XG s.1 j=true
  ·rw [if_pos hs,e];refine ⟨t,by rw [WS,if_pos rfl];simp,?_⟩;have c:=hs;unfold XG at c;rw [e] at c;exact of_decide_eq_true c
  ·rw [if_neg hs,e];obtain ⟨i,k⟩:=b hs;refine ⟨i,by rw [WS,if_neg (by omega)];exact k,?_⟩;rw [af];exact D
 obtain ⟨u,w,F⟩:=m;have g:Uo j≠[]->VR (Um s.1.1 (Yo s j)) (s.2.2,Uo j):=λf=>⟨v.n1,x f,C,f,F⟩;refine ⟨a,λ_=>u,g,d,λ_=>w,?_⟩;unfold Vt;rw [e];by_cases l:Uo j=[]
 ·rw [if_pos l];exact a
 ·rw [if_neg l];exact a.arrive u w (g l) d
theorem aV {s:Th} (v:VSt s) (u:nu s.1) {n:Nat} {j:Job} (t:JobAt s.1 n j) (w : ¬ 0<UL s.1 j) (hc:Wo s.1 j=true) (y:Uo j≠[]->s.2.2<=1000000) (l:Int) :
  (bd (VZ (s.1,(n:Int))) λd=>br (Oa d.2.2 0) (λ_=>br (S5 (Ki (AS j.2.2.2.1)) 0) (λ_=>bd (Ua (s,(j,l))) λK=>br (Hg K) (λ_=>bd (UR ((d.1,(SE .i64 (n:Int) 1,(s.2.2,j.2.2.2.1))))) λm=>br (Rx m.2 0) (λ_=>some ((((0,[]),([],0)),m.2))) λ_=>bd (UE ((s,(m.1,(SE .i64 s.2.2 1,(n:Int)))))) λL=>some L) λ_=>bd (UR ((d.1,((n:Int),(s.2.2,j.2.2.2.1))))) λo=>br (Rx o.2 0) (λ_=>some ((((0,[]),([],0)),o.2))) λ_=>bd (UE ((s,(o.1,(SE .i64 s.2.2 1,(n:Int)))))) λM=>some M) λ_=>br (Rx d.2.2 0) (λ_=>some ((((0,[]),([],0)),d.2.2))) λ_=>bd (UE ((s,(d.1,(s.2.2,(n:Int)))))) λN=>some N) λ_=>br (Rx d.2.2 0) (λ_=>some ((((0,[]),([],0)),d.2.2))) λ_=>bd (UE ((s,(d.1,(s.2.2,(n:Int)))))) λk=>some k)
  = some (Ys s (Vt s j) (Ym s j) j.1,0):=by
 have F:=iC v u t w hc y;obtain ⟨G,O,g,I,J⟩:=t.out v.lev (u n);have i:j.1.toNat=n:=by rw [g];simp
 have D:=v.n2;have C:=v.n1;have A:=v.jsmall;have a:=F.lev;rw [cj v.lev J,Sw];show (br (Oa 0 0) _ _)=_;rw [TJ,if_pos rfl,Tn,Tl,TL];by_cases b:Uo j=[]
 ·rw [if_neg (show ¬ ((j.2.2.2.1.length:Int)>0) by rw [show j.2.2.2.1=[] from b];simp),TP,if_pos rfl];unfold Vt at a ⊢;rw [if_pos b,i] at a;rw [if_pos b,i,Zf v.nodup (by omega) a,Sw];unfold Ym;rw [if_pos b,g]
 ·rw [if_pos (show ((j.2.2.2.1.length:Int)>0) by have:=ey.2 b;have h:(Uo j).length=j.2.2.2.1.length:=rfl;omega),cI v.lev g I,Sw,UT];have E:(Uo j).length<=1048576:=by have:=G.len;omega
  have B:kR [] (Um (U3 s.1 n []).1 (Yo s j)) (s.2.2,Uo j)=0:=iJ.2 ⟨F.vr b,by simp⟩;have f:=bj F.l1 (F.to12 b) (x:=(s.2.2,Uo j)) E F.id (F.room b);rw [if_neg (by simp [B])] at f
  have z:Vt s j=U3 (U3 s.1 n []) (Yo s j) (To (U3 s.1 n []).2 (Yo s j)++[(s.2.2,Uo j)]):=by
   unfold Vt;rw [if_neg b,i]
  have q:Ym s j=s.2.2+1:=by unfold Ym;rw [if_neg b]
  rw [<- z] at f;have p:SE .i64 s.2.2 1=s.2.2+1:=Sf (by omega);have r:=Zf v.nodup (by omega) a (s.2.2+1) (n:Int);rw [TU];have c:Yo s j=if XG s.1 j=true then n else n+1:=by unfold Yo;rw [i]
  by_cases hs:XG s.1 j=true
  ·rw [if_pos hs] at c ⊢;rw [c] at f;have e:UR (U3 s.1 n [],((n:Int),(s.2.2,j.2.2.2.1)))=some (Vt s j,0):=f;rw [e,Sw,TP,if_pos rfl,p,r,Sw,q,g]
  ·rw [if_neg hs] at c ⊢;rw [c] at f;rw [Tw (by omega)];have e:UR (U3 s.1 n [],(((n+1:Nat):Int),(s.2.2,j.2.2.2.1)))=some (Vt s j,0):=f;rw [e,Sw,TP,if_pos rfl,p,r,Sw,q,g]
theorem cM {s:Th} (m:Sm s) (k:nu s.1) (a:Int):Vu (s,a)=some (Xr zS Zx s a):=by
 unfold Vu;rw [gy m,Sw];unfold Xr;by_cases b:(Tj s).2=0;rotate_left
 ·rw [if_pos b,TP,if_neg b,if_pos b];rfl
 rw [if_neg (show ¬ (Tj s).2≠0 by simp [b]),if_neg (show ¬ (Tj s).2≠0 by simp [b])];have v:=UD.1 b;unfold bH;cases p:Zm a 0 (Tp 0 s.1.2) with
 | none=>rfl
 | some i =>
  obtain ⟨j,n,l,o,f,g,q⟩:=v.at p;have:=v.lev.len;subst o;simp only [l];unfold UQ Zx;rw [TP,if_pos rfl,Sw,TL];by_cases e:0<UL s.1 j
  ·rw [if_pos (show ((UL s.1 j:Int))>0 by omega),if_pos (.inl e)];rfl
  rw [if_neg (show ¬ ((UL s.1 j:Int))>0 by omega),cV v.lev f (by omega) _ rfl,Sw,UT,TU];by_cases hc:Wo s.1 j=true;rotate_left
  ·rw [if_neg hc,if_pos (.inr (by simpa using hc))];rfl
  rw [if_pos hc,if_neg (show ¬ (0<UL s.1 j\/Wo s.1 j=false) by rw [hc];simp;omega),TL];by_cases d:s.2.2>1000000
  ·rw [if_pos d,Tn,Tl,TL];by_cases c:Uo j=[]
   ·rw [if_neg (show ¬ ((j.2.2.2.1.length:Int)>0) by rw [show j.2.2.2.1=[] from c];simp),if_neg (by simp [c])];exact aV v k g e hc (λh=>absurd c h) _
   ·rw [if_pos (show ((j.2.2.2.1.length:Int)>0) by have:=ey.2 c;have h:(Uo j).length=j.2.2.2.1.length:=rfl;omega),if_pos ⟨d,c⟩];rfl
  ·rw [if_neg d,if_neg (by simp [d])];exact aV v k g e hc (λh=>by omega) _
end
section
open Go Sv
def Ye (L:Tk) (j:Job):XH:=match To L.2 j.1.toNat with
 | [r0,r1]=>VO r1.2 r0.2 j.2.2.1.2.2 (j.2.2.2.2.toNat+1)
 | _=>j.2
def aA (s:Th) (j:Job):Th:=(s.1,(lset s.2.1 ((Zm j.1 0 (Tp 0 s.1.2)).getD 0) (j.1,Ye s.1 j),s.2.2))
theorem ib {s:Th} (m:Sm s) (v:VSt s) {a:Int} {i:Nat} (h:Zm a 0 (Tp 0 s.1.2)=some i) {j:Job} (e:s.2.1[i]? = some j) (t:0<UL s.1 j):Xh (s,(a,1))=some (aA s j,(1,0)):=by
 obtain ⟨j',n,f,y,u,q,D⟩:=v.at h;rw [e] at f;cases f;subst y;have r:(Tj s).2=0:=UD.2 v
 have l:ZG s (n:Int)=((i:Int),0):=by
  unfold ZG;rw [if_neg (show ¬ (Tj s).2≠0 by simp [r]),h]
 have w:=v.jsmall;have hi:=(a8.1 e).1;unfold Xh;rw [uS m,Sw,TP,if_pos r,TN,if_neg (show ¬ ((1:Int)<0) by omega),aq m,Sw,l,TP,if_pos rfl,Tf,TB e,(JobAt.left q).1,Sw,TJ,if_neg (show ¬ ((UL s.1 j:Int)=0) by omega),Tf,TB e];obtain ⟨b,c,d,k,p,rfl,x,C,A,B⟩:=q;have z:To s.1.2 n=[b,c]:=by unfold To;rw [p];rfl
 have o:UL s.1 ((n:Int),VO c.2 b.2 d k)=c.2.length+b.2.length-k:=by
  unfold UL;simp only [bl,p];show c.2.length+b.2.length-((k:Int)).toNat=_;rw [bl]
 rw [o] at t;have g:=ah B A d x (k:=1);rw [show min 1 (c.2.length+b.2.length-k)=1 by omega] at g;show (bd (Ui (VO c.2 b.2 d k,((1:Nat):Int))) λE=>_)=_;rw [g,Sw];simp only;rw [TP,if_pos rfl];unfold UO;rw [Un (by simp only [AS];omega),Sw,Tf,S2,if_pos (by simp only [AS];exact hi),TB e];unfold aA Ye;simp only [bl,z,h,ll];have e1:(VO c.2 b.2 d k).2.1.2.2=d:=aj _ _ _ _;have e2:(VO c.2 b.2 d k).2.2.2.toNat=k:=by show ((k:Int)).toNat=k;rw [bl]
 rw [e1,e2];rfl
def Yd (s:Th) (j:Job):Th×(Bool×Int):=if Wo s.1 j=false then (zS,(false,9)) else if 0<UL s.1 j then (aA s j,(false,0)) else ((Zx s j).1,(Oa (Zx s j).2 0,(Zx s j).2))
def Xo (s:Th) (a:Int):Th×(Bool×Int):=if (Tj s).2≠0 then (zS,(false,(Tj s).2)) else match bH s a with
 | some j=>Yd s j
 | none=>(zS,(false,4))
theorem eI {s:Th} (m:Sm s) (g:nu s.1) (a:Int):VW (s,a)=some (Xo s a):=by
 unfold VW;rw [gy m,Sw,cM m g];unfold Xr Xo;by_cases b:(Tj s).2=0;rotate_left
 ·rw [if_pos b,TP,if_neg b,if_pos b];rfl
 rw [if_neg (show ¬ (Tj s).2≠0 by simp [b]),if_neg (show ¬ (Tj s).2≠0 by simp [b]),if_neg (show ¬ (Tj s).2≠0 by simp [b])];have v:=UD.1 b;unfold bH;cases f:Zm a 0 (Tp 0 s.1.2) with
 | none=>rfl
 | some i =>
  obtain ⟨j,n,e,k,d,h,l⟩:=v.at f;have:=v.lev.len;simp only [e];unfold Yd UQ;rw [TP,if_pos rfl,cV v.lev d (by omega) _ rfl,Sw,UT,TU];cases hc:Wo s.1 j with
  | false=>rw [if_neg (by simp),if_pos rfl];rfl
  | true =>
   rw [if_pos rfl,if_neg (by simp),Sw,TL];by_cases c:0<UL s.1 j
   ·rw [if_pos (show ((UL s.1 j:Int))>0 by omega),if_pos c,ib m v f e c];rfl
   ·rw [if_neg (show ¬ ((UL s.1 j:Int))>0 by omega),if_neg c];rfl
end
section
open Go Sv
theorem eX {ls:List (List UK)} {d:Int} (h:d∈Tp 0 ls) : ∃ (n:Nat) (a b:UK),d=(n:Int)/\ls[n]? = some [a,b]:=by
 obtain ⟨k,f⟩:=dc h;obtain ⟨n,c,a,b,e⟩:=XX f;exact ⟨n,a,b,by rw [c,eg],e⟩
theorem bY {l:List (List UK)} {n:Int} (i:0<n) (h : ∀ x∈l.flatten,x.1<n):WA l<n:=by
 have f : ∀ (rs:List UK) (m:Int),m<n->(∀ x∈rs,x.1<n)->rs.foldl (λm r=>TX m r.1) m<n:=by
  intro rs
  induction rs with
  | nil=>intro m b _;exact b
  | cons r rs e =>
   intro m b c;rw [gM];refine e _ ?_ λx d=>c x (by simp [d]);rw [Wj];have:=c r (by simp);omega
 have two : ∀ (ls:List (List UK)) (m:Int),m<n->(∀ rs∈ls,∀ x∈rs,x.1<n)->ls.foldl (λm rs=>rs.foldl (λm r=>TX m r.1) m) m<n:=by
  intro ls
  induction ls with
  | nil=>intro m b _;exact b
  | cons rs ls e =>
   intro m b c;rw [gM];exact e _ (f rs m b (c rs (by simp))) λg a=>c g (by simp [a])
 exact two l 0 i λrs a x d=>h x (l5.2 ⟨rs,a,d⟩)
theorem nH {l:List (List UK)} (e:l.getLast? ≠ some []) {n:Nat} (a:To l n≠[]) (b : ∀ i,n<i->To l i=[]):l.length=n+1:=by
 have f:n<l.length:=by
  by_cases h:n<l.length
  ·exact h
  ·unfold To at a;rw [a9 (by omega)] at a;exact absurd rfl a
 by_cases c:l.length=n+1
 ·exact c
 ·exfalso;have d:=b (l.length-1) (by omega);refine e ?_;rw [List.getLast?_eq_getElem?,Xm (by omega),d]
theorem cc {js:List Job} {d:Int} {j:Job} (h:Uq js d=some j):j∈js/\j.1=d:=by
 unfold Uq at h;have a:=x6 h;unfold ba at a;rw [Vb] at a;exact ⟨tk h,(of_decide_eq_true a).symm⟩
theorem gz {L:Tk} (v:VLev L) {n:Nat} {b c:UK} (h:L.2[n]? = some [b,c]):JobAt L n (YO L (n:Int)):=by
 have a:To L.2 n=[b,c]:=by unfold To;rw [h];rfl
 refine ⟨b,c,decide ((n:Int)=(L.2.length:Int)-1),0,h,?_,Nat.zero_le _,λhd => ?_,VR.vl' v (n:=n) (by rw [a];simp),VR.vl' v (n:=n) (by rw [a];simp)⟩
 ·unfold YO;rw [bl,a]
 ·have:=of_decide_eq_true hd;have:=(a8.1 h).1;omega
theorem mz {s:Th} (v:VSt s) {L:Tk} (t:VLev L) {next a:Int} (E:1<=next) (F:next<=1000001) (G : ∀ x∈L.2.flatten,x.1<next)
  (I : ∀ (n:Nat) (f g:UK),s.1.2[n]? = some [f,g]->(n:Int)≠a->(∃ p q,L.2[n]? = some [p,q])->L.2[n]? = some [f,g]/\(n+1=s.1.2.length->n+1=L.2.length)):VSt (Ys s L next a):=by
 have b : ∀ d∈Tp 0 L.2,(Xk s L a d).1=d /\ ∃ n,JobAt L n (Xk s L a d):=λd hd=>by
  obtain ⟨n,p,q,rfl,r⟩:=eX hd;unfold Xk;cases i:(if (n:Int)=a then none else Uq s.2.1 (n:Int)) with
  | none =>
   rw [Option.getD_none];have h:=gz t r;refine ⟨?_,n,h⟩;obtain ⟨_,_,_,_,_,e,_⟩:=h;rw [e]
  | some j =>
   rw [ll];by_cases l:(n:Int)=a
   ·rw [if_pos l] at i;cases i
   rw [if_neg l] at i;obtain ⟨o,c⟩:=cc i;refine ⟨c,n,?_⟩;obtain ⟨m,f,g,D,k,u,rfl,w,y,z,A⟩:=v.job j o;have J:m=n:=by have:(m:Int)=(n:Int):=c;omega
   subst J;obtain ⟨B,C⟩:=I m f g u l ⟨p,q,r⟩;exact ⟨f,g,D,k,B,rfl,w,λh=>C (y h),z,A⟩
 refine ⟨t,E,F,bY (by show 0<next;omega) G,?_,λj o => ?_⟩
 ·show ((Tp 0 L.2).map (Xk s L a)).map (·.1)=Tp 0 L.2;rw [yo]
  conv=>rhs;rw [<- List.map_id (Tp 0 L.2)]
  exact List.map_congr_left λd hd=>(b d hd).1
 ·obtain ⟨d,hd,rfl⟩:=oy.1 o;exact (b d hd).2
theorem YF {l:List (List UK)} {n:Nat} {b c:UK}:l[n]? = some [b,c]<->To l n=[b,c]:=by
 unfold To;constructor
 ·intro h;rw [h];rfl
 ·intro h;cases a:l[n]? with
  | none=>rw [a] at h;cases h
  | some rs=>rw [a] at h;exact congrArg some h
theorem Vk {s:Th} {j:Job} {n:Nat} (b:j.1.toNat=n) (i:Nat):To (Vt s j).2 i=if Uo j≠[]/\i=Yo s j then (if i=n then [] else To s.1.2 i)++[(s.2.2,Uo j)] else if i=n then [] else To s.1.2 i:=by
 unfold Vt;rw [b];by_cases a:Uo j=[]
 ·rw [if_pos a,if_neg (by simp [a]),WS]
 ·rw [if_neg a,WS];by_cases hi:i=Yo s j
  ·rw [if_pos hi,if_pos ⟨a,hi⟩,WS,<- hi]
  ·rw [if_neg hi,if_neg (by simp [hi]),WS]
theorem iD {s:Th} (v:VSt s) (u:nu s.1) {n:Nat} {j:Job} (t:JobAt s.1 n j) (B : ¬ 0<UL s.1 j) (hc:Wo s.1 j=true) (r:Uo j≠[]->s.2.2<=1000000):VSt (Ys s (Vt s j) (Ym s j) j.1):=by
 have F:=iC v u t B hc r;obtain ⟨O,P,w,S,q⟩:=t.out v.lev (u n);have l:j.1.toNat=n:=by rw [w];simp
 have E:=v.n1;have G:=v.n2
 have k:s.2.2<=Ym s j/\Ym s j<=1000001/\(Uo j≠[]->s.2.2<Ym s j):=by
  unfold Ym;by_cases d:Uo j=[]
  ·rw [if_pos d];exact ⟨by omega,by omega,λh=>absurd d h⟩
  ·rw [if_neg d];have:=r d;exact ⟨by omega,by omega,λ_=>by omega⟩
 refine mz v F.lev (by omega) k.2.1 (λx L => ?_) (λm z A D C N => ?_)
 ·obtain ⟨i,hi⟩:=Z5.1 L;rw [Vk l] at hi
  have b : ∀ {y:UK},y∈(if i=n then [] else To s.1.2 i)->y.1<Ym s j:=fun {y} o=>by
   by_cases a:i=n
   ·rw [if_pos a] at o;cases o
   ·rw [if_neg a] at o;have:=ZJ (Z5.2 ⟨i,o⟩);have:=v.n3;omega
  split at hi
  ·rename_i hh;rcases oj.1 hi with hi | hi
   ·exact b hi
   ·rw [List.mem_singleton.1 hi];exact k.2.2 hh.1
  ·exact b hi
 ·have f:m≠n:=λe=>C (by rw [w,e]);have g:To s.1.2 m=[z,A]:=YF.1 D
  have p : ¬ (Uo j≠[]/\m=Yo s j):=λ⟨d,J⟩=>by
   have:=F.room d;rw [WS,<- J,if_neg f,g] at this;simp at this
  have c:To (Vt s j).2 m=[z,A]:=by rw [Vk l,if_neg p,if_neg f,g]
  refine ⟨YF.2 c,λM=>(nH F.lev.last (by rw [c];simp) λi hi => ?_).symm⟩;have a:To s.1.2 i=[]:=by unfold To;rw [a9 (by omega)];rfl
  have I:n<s.1.2.length:=by
   by_cases h:n<s.1.2.length
   ·exact h
   ·unfold To at q;rw [a9 (by omega)] at q;exact absurd rfl q
  have K:Yo s j<=n+1:=by unfold Yo;rw [l];split<;>omega
  rw [Vk l,if_neg (by rintro ⟨_,h⟩;omega),a];split<;>rfl
theorem Job.steps {L:Tk} {n:Nat} {j:Job} (f:JobAt L n j) (h:0<UL L j):JobAt L n (j.1,Ye L j):=by
 obtain ⟨a,b,c,k,d,rfl,o,g,l,m⟩:=f;have i:=YF.1 d
 have e:UL L ((n:Int),VO b.2 a.2 c k)=b.2.length+a.2.length-k:=by
  unfold UL;simp only [bl,d];show b.2.length+a.2.length-((k:Int)).toNat=_;rw [bl]
 rw [e] at h;refine ⟨a,b,c,k+1,d,?_,by omega,g,l,m⟩;unfold Ye;simp only [bl,i];have e1:(VO b.2 a.2 c k).2.1.2.2=c:=aj _ _ _ _;have e2:(VO b.2 a.2 c k).2.2.2.toNat=k:=by show ((k:Int)).toNat=k;rw [bl]
 rw [e1,e2]
theorem ic {s:Th} (v:VSt s) {j:Job} {i n:Nat} (e:Zm j.1 0 (Tp 0 s.1.2)=some i) (a:s.2.1[i]? = some j) (d:JobAt s.1 n j) (c:0<UL s.1 j):VSt (aA s j):=by
 unfold aA;rw [e,ll];refine ⟨v.lev,v.n1,v.n2,v.n3,?_,λx hx => ?_⟩
 ·show (s.2.1.set i (j.1,Ye s.1 j)).map (·.1)=_;rw [<- v.due,List.map_set];refine List.ext_getElem? λk => ?_;rw [List.getElem?_set];by_cases b:i=k
  ·subst b;have hi:=(a8.1 a).1;rw [if_pos rfl,List.length_map,if_pos hi,List.getElem?_map,a];rfl
  ·rw [if_neg b]
 ·rcases List.mem_or_eq_of_mem_set hx with hx | hx
  ·exact v.job x hx
  ·rw [hx];exact ⟨n,Job.steps d c⟩
end
section
open Go Sv
end
section
open Go Sv
end
section
open Go Sv
end
section
open Go Sv
theorem Xy {α β σ S:Type} {l:List α} (c:Nat) (n:c<=1000) (mk:Nat->σ->S) (I:Nat->σ->Prop) (Q:β->Prop) {f:S->Option (LR S β)} {s:S} (a:σ) (i:s=mk 0 a) (hi:I 0 a)
  (p : ∀ k a,(k=l.length\/k=c)->k<=l.length->I k a -> ∃ r,f (mk k a)=some (.dn r)/\Q r)
  (hc : ∀ k x a,l[k]? = some x->k<c->I k a->(∃ b,f (mk k a)=some (.nx (mk (k+1) b))/\I (k+1) b) \/ ∃ r,f (mk k a)=some (.dn r)/\Q r) : ∃ r,loop f s=some r/\Q r:=by
 refine XE (l:=l.take c) mk (λ_ k a=>I k a/\k<=(l.take c).length) Q a i (by simp;omega) ⟨hi,by omega⟩ (λa h=>p _ a (by simp;omega) (by simp;omega) h.1) (λk x m a hd e o h => ?_);have d:k<c:=by simp at o;omega
 have g:l[k]? = some x:=by rw [sw] at e;rw [if_pos d] at e;exact e
 rcases hc k x a g d h.1 with ⟨b,h1,j⟩ | h1
 ·exact .inl ⟨b,h1,j,by omega⟩
 ·exact .inr h1
theorem aU {k c:Nat} (h:k<c):S7 (k:Int) (c:Int)=true:=by unfold S7;simp;omega
theorem fK {α β:Type} {l:List α} {k c:Nat} (h:k=l.length\/k=c) (b:k<=l.length) (A B C:Option β) (e:B=C):br (S7 (k:Int) (l.length:Int)) (λ_=>br (S7 (k:Int) (c:Int)) (λ_=>A) λ_=>B) (λ_=>C)=C:=by
 rw [TN];by_cases a:(k:Int)<(l.length:Int)
 ·rw [if_pos a,TN,if_neg (by omega),e]
 ·rw [if_neg a]
theorem fQ (l:List Ti) : ∃ b,WX l=some b/\(b=false->l.length<=30):=by
 unfold WX;simp only [Tn,Tl]
 obtain ⟨r,m,a⟩:=Xy (l:=l) (σ:=Unit) (s:=((0:Int),false)) 40 (by omega) (λk _=>((k:Int),false)) (λ_ _=>True) (λ(r:Nat×((Int×Bool)×Unit))=>r.1=1\/(r.1=0/\r.2.1.2=true))
  (f:=λs0=>br (S7 s0.1 (l.length:Int)) (λ_=>br (S7 s0.1 40) (λ_=>R0 s0.1 λi=>ix l i λo=>br (S5 (Mj o.1:Int) 100) (λ_=>some (.dn ((0,((s0.1,true),()))))) λ_=>R0 s0.1 λj=>ix l j λp=>br (S5 (Mj p.2.1:Int) 100) (λ_=>some (.dn ((0,((s0.1,true),()))))) λ_=>some (.nx (SE .i64 s0.1 1,s0.2))) λ_=>some (.dn ((1,(s0,()))))) λ_=>some (.dn ((1,(s0,())))))
  () rfl trivial (λk _ h d _=>⟨_,(fK (c:=40) h d _ _ _ rfl),.inl rfl⟩) (λk x _ g d _=>by
   simp only;have e:=(a8.1 g).1;rw [rl e,Sb,show S7 (k:Int) 40=true from aU d,Sb,Tf,TB g,TL,Tf,TB g,TL,Tw (by omega)]
   repeat' split
   all_goals first | exact .inr ⟨_,rfl,.inr ⟨rfl,rfl⟩⟩ | exact .inl ⟨(),rfl,trivial⟩)
 rw [m,Sw,Sx];rcases a with a | ⟨a,n⟩
 ·rw [if_neg (show ¬ r.1=0 by omega)];exact ⟨_,rfl,λh=>by unfold S5 at h;simp at h;omega⟩
 ·rw [if_pos a,n];exact ⟨_,rfl,λh=>by cases h⟩
theorem bf (l:List UK) : ∃ b,VY l=some b/\(b=false->l.length<=6 /\ ∀ r∈l,r.2.length<=30):=by
 unfold VY;simp only [Tn,Tl]
 obtain ⟨r,w,d⟩:=Xy (l:=l) (σ:=Unit) (s:=((0:Int),false)) 10 (by omega) (λk _=>((k:Int),false)) (λk _ => ∀ i x,i<k->l[i]? = some x->x.2.length<=30) (λ(r:Nat×((Int×Bool)×Unit))=>(r.1=1 /\ ∀ i x,i<10->l[i]? = some x->x.2.length<=30)\/(r.1=0/\r.2.1.2=true))
  (f:=λs0=>br (S7 s0.1 (l.length:Int)) (λ_=>br (S7 s0.1 10) (λ_=>R0 s0.1 λu=>ix l u λA=>bd (WX A.2) λz=>br z (λ_=>some (.dn ((0,((s0.1,true),()))))) λ_=>some (.nx (SE .i64 s0.1 1,s0.2))) λ_=>some (.dn ((1,(s0,()))))) λ_=>some (.dn ((1,(s0,())))))
  () rfl (λi x h=>by omega) (λk _ h j g=>⟨_,(fK (c:=10) h j _ _ _ rfl),.inl ⟨rfl,λi x hi a=>g i x (by have:=(a8.1 a).1;omega) a⟩⟩) (λk x _ a j g=>by
   simp only;have m:=(a8.1 a).1;obtain ⟨b,e,p⟩:=fQ x.2;rw [rl m,Sb,show S7 (k:Int) 10=true from aU j,Sb,Tf,TB a,e,Sw,Tw (by omega)];cases b with
   | true=>exact .inr ⟨_,rfl,.inr ⟨rfl,rfl⟩⟩
   | false =>
    refine .inl ⟨(),rfl,λi y hi n => ?_⟩;by_cases h:i=k
    ·subst h;rw [a] at n;cases n;exact p rfl
    ·exact g i y (by omega) n)
 rw [w,Sw,Sx];rcases d with ⟨d,o⟩ | ⟨d,o⟩
 ·rw [if_neg (show ¬ r.1=0 by omega)];refine ⟨_,rfl,λh => ?_⟩;have q:l.length<=6:=by unfold S5 at h;simp at h;omega
  exact ⟨q,λr t=>by
   obtain ⟨i,hi⟩:=dc t
   exact o i r (by have:=(a8.1 hi).1;omega) hi⟩
 ·rw [if_pos d,o];exact ⟨_,rfl,λh=>by cases h⟩
theorem fR (L:Tk) : ∃ b,XL L=some b/\(b=false->L.2.length<=14 /\ ∀ rs∈L.2,rs.length<=6 /\ ∀ r∈rs,r.2.length<=30):=by
 unfold XL;simp only [Tn,Tl]
 obtain ⟨r,w,d⟩:=Xy (l:=L.2) (σ:=Unit) (s:=((0:Int),false)) 20 (by omega) (λk _=>((k:Int),false)) (λk _ => ∀ i x,i<k->L.2[i]? = some x->x.length<=6 /\ ∀ r∈x,r.2.length<=30) (λ(r:Nat×((Int×Bool)×Unit))=>(r.1=1 /\ ∀ i x,i<20->L.2[i]? = some x->x.length<=6 /\ ∀ r∈x,r.2.length<=30)\/(r.1=0/\r.2.1.2=true))
  (f:=λs0=>br (S7 s0.1 (L.2.length:Int)) (λ_=>br (S7 s0.1 20) (λ_=>R0 s0.1 λu=>ix L.2 u λA=>bd (VY A) λz=>br z (λ_=>some (.dn ((0,((s0.1,true),()))))) λ_=>some (.nx (SE .i64 s0.1 1,s0.2))) λ_=>some (.dn ((1,(s0,()))))) λ_=>some (.dn ((1,(s0,())))))
  () rfl (λi x h=>by omega) (λk _ h j g=>⟨_,(fK (c:=20) h j _ _ _ rfl),.inl ⟨rfl,λi x hi a=>g i x (by have:=(a8.1 a).1;omega) a⟩⟩) (λk x _ a j g=>by
   simp only;have m:=(a8.1 a).1;obtain ⟨b,e,p⟩:=bf x;rw [rl m,Sb,show S7 (k:Int) 20=true from aU j,Sb,Tf,TB a,e,Sw,Tw (by omega)];cases b with
   | true=>exact .inr ⟨_,rfl,.inr ⟨rfl,rfl⟩⟩
   | false =>
    refine .inl ⟨(),rfl,λi y hi n => ?_⟩;by_cases h:i=k
    ·subst h;rw [a] at n;cases n;exact p rfl
    ·exact g i y (by omega) n)
 rw [w,Sw,Sx];rcases d with ⟨d,o⟩ | ⟨d,o⟩
 ·rw [if_neg (show ¬ r.1=0 by omega)];refine ⟨_,rfl,λh => ?_⟩;have q:L.2.length<=14:=by unfold S5 at h;simp at h;omega
  exact ⟨q,λr t=>by
   obtain ⟨i,hi⟩:=dc t
   exact o i r (by have:=(a8.1 hi).1;omega) hi⟩
 ·rw [if_pos d,o];exact ⟨_,rfl,λh=>by cases h⟩
theorem fC (l:List Ti) : ∃ b,VK l=some b:=by
 unfold VK;simp only [Tn,Tl]
 obtain ⟨r,j,o⟩:=Xy (l:=l) (σ:=Unit) (s:=((0:Int),false)) 80 (by omega) (λk _=>((k:Int),false)) (λ_ _=>True) (λ(r:Nat×((Int×Bool)×Unit))=>True)
  (f:=λs0=>br (S7 s0.1 (l.length:Int)) (λ_=>br (S7 s0.1 80) (λ_=>R0 s0.1 λg=>ix l g λm=>br (S5 (Mj m.1:Int) 100) (λ_=>some (.dn ((0,((s0.1,true),()))))) λ_=>R0 s0.1 λi=>ix l i λn=>br (S5 (Mj n.2.1:Int) 100) (λ_=>some (.dn ((0,((s0.1,true),()))))) λ_=>some (.nx (SE .i64 s0.1 1,s0.2))) λ_=>some (.dn ((1,(s0,()))))) λ_=>some (.dn ((1,(s0,())))))
  () rfl trivial (λk _ h a _=>⟨_,(fK (c:=80) h a _ _ _ rfl),trivial⟩) (λk x _ e a _=>by
   simp only;have d:=(a8.1 e).1;rw [rl d,Sb,show S7 (k:Int) 80=true from aU a,Sb,Tf,TB e,TL,Tf,TB e,TL,Tw (by omega)]
   repeat' split
   all_goals first | exact .inr ⟨_,rfl,trivial⟩ | exact .inl ⟨(),rfl,trivial⟩)
 rw [j,Sw,Sx];split<;>exact ⟨_,rfl⟩
theorem fS (s:Th) : ∃ b,XM s=some b/\(b=false->Sm s /\ ∀ rs∈s.1.2,∀ r∈rs,r.2.length<=30):=by
 unfold XM;simp only [Tn,Tl]
 obtain ⟨r,q,g⟩:=Xy (l:=s.2.1) (σ:=Unit) (s:=((0:Int),false)) 20 (by omega) (λk _=>((k:Int),false)) (λ_ _=>True) (λ(r:Nat×((Int×Bool)×Unit))=>r.1=0\/(r.1=1/\r.2.1.2=true))
  (f:=λs0=>br (S7 s0.1 (s.2.1.length:Int)) (λ_=>br (S7 s0.1 20) (λ_=>R0 s0.1 λE=>ix s.2.1 E λi=>bd (loop (λa=>br (S7 a.1 (i.2.1.1.length:Int)) (λ_=>br (S7 a.1 10) (λ_=>R0 a.1 λp=>ix i.2.1.1 p λw=>bd (VK w) λt=>br t (λ_=>some (.dn ((0,((a.1,true),()))))) λ_=>some (.nx (SE .i64 a.1 1,a.2))) λ_=>some (.dn ((1,(a,()))))) λ_=>some (.dn ((1,(a,()))))) (0,s0.2)) λu=>br (neq u.1 0) (λ_=>some (.dn ((1,((s0.1,u.2.1.2),()))))) λ_=>bd (VK i.2.2.2.1) λF=>br F (λ_=>some (.dn ((1,((s0.1,true),()))))) λ_=>br (S5 (i.2.1.1.length:Int) 6) (λ_=>some (.dn ((1,((s0.1,true),()))))) λ_=>br (S5 (i.2.1.2.1.length:Int) 40) (λ_=>some (.dn ((1,((s0.1,true),()))))) λ_=>br (S5 (i.2.1.2.2.1.length:Int) 40) (λ_=>some (.dn ((1,((s0.1,true),()))))) λ_=>br (S5 (i.2.1.2.2.2.1.length:Int) 40) (λ_=>some (.dn ((1,((s0.1,true),()))))) λ_=>br (S5 (Mj i.2.2.1.2.1:Int) 200) (λ_=>some (.dn ((1,((s0.1,true),()))))) λ_=>some (.nx (SE .i64 s0.1 1,u.2.1.2))) λ_=>some (.dn ((0,(s0,()))))) λ_=>some (.dn ((0,(s0,())))))
  () rfl trivial (λk _ h j _=>⟨_,(fK (c:=20) h j _ _ _ rfl),.inl rfl⟩) (λk x _ z j _=>by
   simp only;have m:=(a8.1 z).1;rw [rl m,Sb,show S7 (k:Int) 20=true from aU j,Sb,Tf,TB z]
   obtain ⟨r,q,g⟩:=Xy (l:=x.2.1.1) (σ:=Unit) (s:=((0:Int),false)) 10 (by omega) (λk _=>((k:Int),false)) (λ_ _=>True) (λ(r:Nat×((Int×Bool)×Unit))=>(r.1=1/\r.2.1.2=false)\/(r.1=0/\r.2.1.2=true))
    (f:=λa=>br (S7 a.1 (x.2.1.1.length:Int)) (λ_=>br (S7 a.1 10) (λ_=>R0 a.1 λp=>ix x.2.1.1 p λw=>bd (VK w) λt=>br t (λ_=>some (.dn ((0,((a.1,true),()))))) λ_=>some (.nx (SE .i64 a.1 1,a.2))) λ_=>some (.dn ((1,(a,()))))) λ_=>some (.dn ((1,(a,())))))
    () rfl trivial (λk _ h j _=>⟨_,(fK (c:=10) h j _ _ _ rfl),.inl ⟨rfl,rfl⟩⟩) (λk y _ A j _=>by
     simp only;have m:=(a8.1 A).1;obtain ⟨b,e⟩:=fC y;rw [rl m,Sb,show S7 (k:Int) 10=true from aU j,Sb,Tf,TB A,e,Sw,Tw (by omega)];cases b with
     | true=>exact .inr ⟨_,rfl,.inr ⟨rfl,rfl⟩⟩
     | false=>exact .inl ⟨(),rfl,trivial⟩)
   obtain ⟨b,e⟩:=fC x.2.2.2.1;rw [q,Sw,Sx,e];rcases g with ⟨g,n⟩ | ⟨g,n⟩
   ·rw [if_neg (show ¬ r.1=0 by omega),Sw,TU,TL,TL,TL,TL,TL,n,Tw (by omega)]
    repeat' split
    all_goals first | exact .inr ⟨_,rfl,.inr ⟨rfl,rfl⟩⟩ | exact .inl ⟨(),rfl,trivial⟩
   ·rw [if_pos g,n]
    exact .inr ⟨_,rfl,.inr ⟨rfl,rfl⟩⟩)
 rw [q,Sw,Sx];rcases g with g | ⟨g,n⟩
 ·rw [if_pos g,TL];by_cases h:(s.2.1.length:Int)>14
  ·rw [if_pos h];exact ⟨_,rfl,λh=>by cases h⟩
  ·rw [if_neg h];obtain ⟨b,e,C⟩:=fR s.1;rw [e];refine ⟨b,rfl,λB => ?_⟩;obtain ⟨G,o⟩:=C B;exact ⟨⟨by omega,λrs d=>⟨by have:=(o rs d).1;omega,λr D=>by have:=(o rs d).2 r D;omega⟩,by omega⟩,λrs d=>(o rs d).2⟩
 ·rw [if_neg (show ¬ r.1=0 by omega),n];exact ⟨_,rfl,λh=>by cases h⟩
end
section
open Go Sv
end
section
open Go Sv
end
section
open Go Sv
def UX (l:List Ti) (k:W9):Option Ti:=l.find? λx=>decide (x.1=k)
theorem Ud (x:Ti) (l:List Ti) (k:W9):UX (x::l) k=if x.1=k then some x else UX l k:=by
 unfold UX;rw [kd];by_cases h:x.1=k<;>simp [h]
theorem ZI (l m:List Ti) (k:W9):UX (l++m) k=(UX l k).or (UX m k):=by
 unfold UX;rw [List.find?_append]
theorem Xw (x:Ti) (k:W9):UX [x] k=if x.1=k then some x else none:=by rw [Ud];rfl
theorem bW {l:List Ti} {k:W9} {x:Ti} (h:UX l k=some x):x.1=k/\x∈l:=by
 unfold UX at h;exact ⟨by simpa using x6 h,tk h⟩
theorem Xv {l:List Ti} {k:W9} (h : ∀ x∈l,x.1≠k):UX l k=none:=by
 unfold UX;rw [List.find?_eq_none];intro x a;simpa using h x a
theorem Yv : ∀ {l:List Ti} {q:W9},Asc (some q) l -> ∀ x∈l,SU q x.1=true
 | x::l,q,⟨a,b⟩,y,hy=>by
  rcases en.1 hy with e | hy
  ·rw [e];exact a q rfl
  ·exact WB (a q rfl) (Yv b y hy)
theorem eK : ∀ {l m:List Ti} {p q:Option W9},Asc p l->Asc q m->(∀ k,UX l k=UX m k)->l=m
 | [],[],_,_,_,_,_=>rfl
 | [],y::m,_,_,_,_,h=>by
  have:=h y.1;rw [Ud,if_pos rfl] at this;cases this
 | x::l,[],_,_,_,_,h=>by
  have:=h x.1;rw [Ud,if_pos rfl] at this;cases this
 | x::l,y::m,p,q,⟨t,f⟩,⟨s,d⟩,h=>by
  have e1:=h x.1;have e2:=h y.1;rw [Ud,if_pos rfl,Ud] at e1;rw [Ud,Ud,if_pos rfl] at e2
  have g:x.1=y.1:=by
   by_cases b:y.1=x.1
   ·exact b.symm
   ·rw [if_neg b] at e1;rw [if_neg (λe=>b e.symm)] at e2;have n:=Yv d x (bW e1.symm).2;have j:=Yv f y (bW e2).2;rw [U0 n] at j;cases j
  rw [if_pos g.symm] at e1;have c:x=y:=Option.some.inj e1;subst c;refine congrArg (x::·) (eK f d λk => ?_);have b:=h k;rw [Ud,Ud] at b;by_cases a:x.1=k
  ·have o:UX l k=none:=Xv λz i=>by
    have:=Yv f z i;rw [a] at this;exact λe=>Yc this e.symm
   have r:UX m k=none:=Xv λz i=>by
    have:=Yv d z i;rw [a] at this;exact λe=>Yc this e.symm
   rw [o,r]
  ·rw [if_neg a,if_neg a] at b;exact b
theorem Yu (P:Ti->Bool) : ∀ {l:List Ti} {p:Option W9},Asc p l->Asc p (l.filter P)
 | [],_,_=>trivial
 | x::l,p,⟨b,d⟩=>by
  have c:=Yu P d;rw [xo];cases P x with
  | true=>exact ⟨b,c⟩
  | false =>
   refine c.weak λe a=>⟨x.1,rfl,?_⟩;exact U0 (b e a)
theorem YV (P:Ti->Bool) (k:W9) : ∀ {l:List Ti} {p:Option W9},Asc p l->UX (l.filter P) k=(UX l k).filter P
 | [],_,_=>rfl
 | x::l,p,⟨h,c⟩=>by
  have d:=YV P k c;rw [xo,Ud];by_cases a:x.1=k
  ·rw [if_pos a]
   have f:UX (l.filter P) k=none:=Xv λz g=>by
    have:=Yv c z (List.mem_filter.1 g).1;rw [a] at this;exact λe=>Yc this e.symm
   cases b:P x with
   | true=>rw [if_pos rfl,Ud,if_pos a];simp [mR,b]
   | false=>rw [if_neg (by simp),f];simp [mR,b]
  ·rw [if_neg a];cases b:P x with
   | true=>rw [if_pos rfl,Ud,if_neg a];exact d
   | false=>simpa using d
def Zk:List Ti->Ti->List Ti
 | [],x=>[x]
 | y::l,x=>if SU y.1 x.1=true then y::Zk l x else if y.1=x.1 then y::l else x::y::l
theorem bI (x:Ti) : ∀ {l:List Ti} {p:Option W9},Asc p l->(∀ q,p=some q->SU q x.1=true)->Asc p (Zk l x)
 | [],p,_,hp=>⟨hp,trivial⟩
 | y::l,p,⟨d,a⟩,hp=>by
  unfold Zk;by_cases h:SU y.1 x.1=true
  ·rw [if_pos h];exact ⟨d,bI x a λq c=>by cases c;exact h⟩
  ·rw [if_neg h];by_cases b:y.1=x.1
   ·rw [if_pos b];exact ⟨d,a⟩
   ·rw [if_neg b];exact ⟨hp,λq c=>by cases c;exact ZB (by simpa using h) b,a⟩
theorem bJ (x:Ti) (k:W9) : ∀ {l:List Ti} {p:Option W9},Asc p l->UX (Zk l x) k=(UX l k).or (if x.1=k then some x else none)
 | [],_,_=>by unfold Zk;rw [Xw];rfl
 | y::l,p,⟨f,d⟩=>by
  unfold Zk;by_cases h:SU y.1 x.1=true
  ·rw [if_pos h,Ud,Ud,bJ x k d];split<;>rfl
  ·rw [if_neg h];by_cases b:y.1=x.1
   ·rw [if_pos b,Ud,<- b];by_cases a:y.1=k
    ·rw [if_pos a];rfl
    ·rw [if_neg a,if_neg a];cases UX l k<;>rfl
   ·rw [if_neg b,Ud];have c:SU x.1 y.1=true:=ZB (by simpa using h) b;by_cases a:x.1=k
    ·rw [if_pos a]
     have:UX (y::l) k=none:=Xv λz hz=>by
      rw [<- a];rcases en.1 hz with e | hz
      ·rw [e];exact b
      ·exact λe=>Yc (WB c (Yv d z hz)) e.symm
     rw [this,if_pos a];rfl
    ·rw [if_neg a,if_neg a];cases UX (y::l) k<;>rfl
theorem eJ (k:W9) : ∀ (r l:List Ti),Asc none l->Asc none (r.foldl Zk l)/\UX (r.foldl Zk l) k=(UX l k).or (UX r k)
 | [],l,h=>⟨h,by show UX l k=_;cases UX l k<;>rfl⟩
 | x::r,l,h=>by
  obtain ⟨a,b⟩:=eJ k r (Zk l x) (bI x h λ_ h=>by cases h);refine ⟨a,?_⟩;rw [gM,b,bJ x k h,Ud,gs]
  congr 1
  split<;>rfl
def fG (rs:List UK) (l:List Ti):List Ti:=rs.foldl (λout r=>r.2.foldl Zk out) l
def VE:List UK->W9->Option Ti
 | [],_=>none
 | r::rs,k=>(UX r.2 k).or (VE rs k)
theorem ak (k:W9) : ∀ (rs:List UK) (l:List Ti),Asc none l->Asc none (fG rs l)/\UX (fG rs l) k=(UX l k).or (VE rs k)
 | [],l,h=>⟨h,by show UX l k=_;cases UX l k<;>rfl⟩
 | r::rs,l,h=>by
  obtain ⟨a,b⟩:=eJ k r.2 l h;obtain ⟨c,d⟩:=ak k rs (r.2.foldl Zk l) a;refine ⟨c,?_⟩;show UX (fG rs (r.2.foldl Zk l)) k=_;rw [d,b,gs];rfl
def W7 (x:Ti):Bool := !x.2.2.1
def LF (L:Tk):List Ti:=(fG (Ue L.2) []).filter W7
theorem iK {L M:Tk} (h : ∀ k,(VE (Ue L.2) k).filter W7=(VE (Ue M.2) k).filter W7):LF L=LF M:=by
 have a:=λk=>ak k (Ue L.2) [] trivial;have b:=λk=>ak k (Ue M.2) [] trivial;refine eK (Yu W7 (a []).1) (Yu W7 (b []).1) λk => ?_;show UX ((fG (Ue L.2) []).filter W7) k=UX ((fG (Ue M.2) []).filter W7) k;rw [YV W7 k (a []).1,YV W7 k (b []).1,(a k).2,(b k).2];exact h k
theorem bg : ∀ (a b:List UK) (k:W9),VE (a++b) k=(VE a k).or (VE b k)
 | [],b,k=>rfl
 | r::a,b,k=>by
  show (UX r.2 k).or (VE (a++b) k)=((UX r.2 k).or (VE a k)).or (VE b k);rw [bg a b k,gs]
theorem ez : ∀ {l:List Ti} {s:Uc} {k:W9},ZR s l->s.1=true->SU k s.2.1=true->UX l k=none
 | [],_,_,_,_,_=>rfl
 | x::l,s,k,⟨_,c,d⟩,b,hk=>by
  have a:SU k x.1=true:=cG hk (c b);rw [Ud,if_neg (λe=>Yc a e.symm)];exact ez d rfl a
theorem bT (k:W9) : ∀ {l:List Ti} {s:Uc},ZR s l->UX (Vw s l) k=if s.1=true/\s.2.1=k then none else (UX l k).filter λx => !(s.2.2&&x.2.2.1)
 | [],s,_=>by unfold Vw;split<;>rfl
 | x::l,s,⟨_,g,c⟩=>by
  have f:=bT k c;simp only [true_and] at f;unfold Vw;rw [ZI,f,Ud];by_cases a:x.1=k
  ·rw [if_pos a,if_pos a];by_cases hs:s.1=true/\s.2.1=k
   ·rw [if_pos hs];have:keep s x=false:=by unfold keep;rw [hs.1,hs.2,a];simp
    rw [this];rfl
   ·rw [if_neg hs]
    have:keep s x = !(s.2.2&&x.2.2.1):=by
     unfold keep
     have:(s.1&&decide (x.1=s.2.1))=false:=by
      cases b:s.1 with
      | false=>rfl
      | true =>
       simp only [Bool.true_and,decide_eq_false_iff_not];intro e;exact hs ⟨b,by rw [<- e];exact a⟩
     rw [this];rfl
    rw [this];cases d:(!(s.2.2&&x.2.2.1)) with
    | true=>rw [if_pos rfl,Xw,if_pos a];simp [mR,d]
    | false=>rw [if_neg (by simp)];simp [mR,d,UX]
  ·rw [if_neg a,if_neg a]
   have b:UX (if keep s x=true then [x] else []) k=none:=by
    split
    ·rw [Xw,if_neg a]
    ·rfl
   rw [b,s8];by_cases hs:s.1=true/\s.2.1=k
   ·rw [if_pos hs]
    have h:SU k x.1=true:=by
     rw [<- hs.2];refine ZB (g hs.1) λe=>a ?_;rw [e];exact hs.2
    rw [ez c rfl h];rfl
   ·rw [if_neg hs]
theorem Z8 {a b:List Ti} (va:VL a) (l:VL b) (k:W9) : ∀ {n:Nat},n<=a.length+b.length->UX (Tx a b n) k=(UX (a.take (pos a b n).1) k).or (UX (b.take (pos a b n).2) k)
 | 0,_=>rfl
 | n+1,h=>by
  have G:=Z8 va l k (n:=n) (by omega);obtain ⟨q,hs⟩:=V4 va l (n:=n) (by omega);obtain ⟨x,c,_⟩:=Vc va l (n:=n) (by omega);rw [WO va l c,ZI,G,Xw];unfold Zg at c;rw [show pos a b (n+1)=if XZ a b (pos a b n).1 (pos a b n).2=true then ((pos a b n).1+1,(pos a b n).2) else ((pos a b n).1,(pos a b n).2+1) from rfl]
  revert c q;generalize (pos a b n).1=i;generalize (pos a b n).2=j;intro q c;cases g:XZ a b i j with
  | true =>
   rw [if_pos g] at c;rw [if_pos rfl];simp only;rw [li,c,xb,ZI,Xw,gs,gs]
   congr 1
   by_cases r:x.1=k
   ·rw [if_pos r]
    have:UX (b.take j) k=none:=Xv λy F=>by
     obtain ⟨m,o⟩:=dc F;rw [sw] at o;split at o
     ·rename_i E;have D:=q.jb;have f:b[j-1]? = some b[j-1]:=ee (by omega);have B:=q.pb (j-1) (by omega) _ x f c
      have C:SU b[j-1].1 y.1=false:=by
       by_cases s:m=j-1
       ·subst s;rw [f] at o;cases o;exact Wu _
       ·have A:=l.asc
        have : ∀ d,m+d+1<=j-1 -> ∀ z,b[m+d+1]? = some z->SU y.1 z.1=true:=by
         intro d
         induction d with
         | zero=>intro _ z t;exact l.lt o t
         | succ d u =>
          intro hd z t;have p:b[m+d+1]? = some b[m+d+1]:=ee (by omega);exact WB (u (by omega) _ p) (l.lt p t)
        exact U0 (this (j-1-m-1) (by omega) _ (by rw [show m+(j-1-m-1)+1=j-1 by omega];exact f))
      intro e;have w:SU y.1 x.1=true:=aI C B;rw [e,r,Wu] at w;cases w
     ·cases o
    rw [this];rfl
   ·rw [if_neg r];cases UX (b.take j) k<;>rfl
  | false =>
   rw [if_neg (show ¬ XZ a b i j=true by rw [g];decide)] at c;rw [if_neg (show ¬ (false=true) by decide)];simp only;rw [li,c,xb,ZI,Xw,gs]
theorem nO {a b:List Ti} (va:VL a) (e:VL b) (c:Bool) (k:W9):UX (VO a b c (a.length+b.length)).2.2.1 k=((UX a k).or (UX b k)).filter λx => !(c&&x.2.2.1):=by
 have f:=Wt va e c (eb (a.length+b.length));obtain ⟨d,hs⟩:=V4 va e (eb (a.length+b.length));show UX (Vw (s0 c) (Tx a b (a.length+b.length))) k=_;rw [bT k f,if_neg (by simp),Z8 va e k (eb _)];rw [hM (by have:=d.ia;have:=d.jb;omega),hM (by have:=d.ia;have:=d.jb;omega)]
end
section
open Go Sv
def ZM (f:Nat->Option Ti):Nat->Nat->Option Ti
 | _,0=>none
 | i,m+1=>(f i).or (ZM f (i+1) m)
theorem eW (f:Nat->Option Ti) : ∀ (m i:Nat),ZM f (i+1) m=ZM (λj=>f (j+1)) i m
 | 0,_=>rfl
 | m+1,i=>by
  show (f (i+1)).or (ZM f (i+1+1) m)=(f (i+1)).or (ZM (λj=>f (j+1)) (i+1) m);rw [eW f m (i+1)]
theorem Xx {f g:Nat->Option Ti} : ∀ (m i:Nat),(∀ j,i<=j->j<i+m->f j=g j)->ZM f i m=ZM g i m
 | 0,_,_=>rfl
 | m+1,i,h=>by
  show (f i).or (ZM f (i+1) m)=(g i).or (ZM g (i+1) m);rw [h i (by omega) (by omega),Xx m (i+1) λj a b=>h j (by omega) (by omega)]
theorem az : ∀ (m i:Nat),ZM (λ_=>none) i m=none
 | 0,_=>rfl
 | m+1,i=>by show (none:Option Ti).or _=_;rw [s8];exact az m (i+1)
theorem Z1 (f:Nat->Option Ti) : ∀ (p i q:Nat),ZM f i (p+q)=(ZM f i p).or (ZM f (i+p) q)
 | 0,i,q=>by rw [eg];rfl
 | p+1,i,q=>by
  rw [show p+1+q=(p+q)+1 by omega];show (f i).or (ZM f (i+1) (p+q))=((f i).or (ZM f (i+1) p)).or (ZM f (i+(p+1)) q);rw [Z1 f p (i+1) q,gs,show i+1+p=i+(p+1) by omega]
theorem ZZ (k:W9) : ∀ (ls:List (List UK)) (K:Nat),ls.length<=K->VE (Ue ls) k=ZM (λj=>VE (To ls j).reverse k) 0 K
 | [],K,_=>by
  have:(λj=>VE (To [] j).reverse k)=λ_=>none:=by
   funext j;have:To [] j=[]:=rfl
   rw [this];rfl
  rw [this,az];rfl
 | rs::ls,0,h=>by simp at h
 | rs::ls,K+1,h=>by
  have e:Ue (rs::ls)=rs.reverse++Ue ls:=rfl;rw [e,bg,ZZ k ls K (by simpa using h)];show _=(VE (To (rs::ls) 0).reverse k).or (ZM (λj=>VE (To (rs::ls) j).reverse k) (0+1) K);rw [eW];rfl
theorem fO {s:Th} (v:VSt s) (C:nu s.1) {n:Nat} {j:Job} (r:JobAt s.1 n j) (E : ¬ 0<UL s.1 j) (hc:Wo s.1 j=true) (G:Uo j≠[]->s.2.2<=1000000):LF (Vt s j)=LF s.1:=by
 have F:=iC v C r E hc G;obtain ⟨U,W,K,X,Y⟩:=r.out v.lev (C n);have d:j.1.toNat=n:=by rw [K];simp
 obtain ⟨b,c,q,m,B,f,O,t,L,M⟩:=r;have J:=YF.1 B
 have N:UL s.1 j=c.2.length+b.2.length-m:=by
  rw [f];unfold UL;simp only [bl,B];show c.2.length+b.2.length-((m:Int)).toNat=_;rw [bl]
 have u:m=c.2.length+b.2.length:=by omega
 subst u
 have p : ∀ k,UX (Uo j) k=((UX c.2 k).or (UX b.2 k)).filter λx => !(q&&x.2.2.1):=λk=>by
  rw [f];exact nO M L q k
 refine iK λk => ?_;have P:=F.lev.len;have S:=v.lev.len;rw [ZZ k _ 14 (by omega),ZZ k _ 14 (by omega)];rw [show 14=n+(1+(13-n)) by omega,Z1,Z1 _ n 0];have w:Yo s j=n\/Yo s j=n+1:=by unfold Yo;rw [d];split<;>omega
 have l:ZM (λi=>VE (To (Vt s j).2 i).reverse k) 0 n=ZM (λi=>VE (To s.1.2 i).reverse k) 0 n:=Xx _ _ λi _ hi=>by
  rw [Vk d,if_neg (by rintro ⟨_,h⟩;omega),if_neg (by omega)]
 rw [l];generalize ZM (λi=>VE (To s.1.2 i).reverse k) 0 n=A
 have y:ZM (λi=>VE (To (Vt s j).2 i).reverse k) (0+n) (1+(13-n))=(UX (Uo j) k).or (ZM (λi=>VE (To s.1.2 i).reverse k) (n+1) (13-n)):=by
  rw [eg,yp 1];show (VE (To (Vt s j).2 n).reverse k).or (ZM (λi=>VE (To (Vt s j).2 i).reverse k) (n+1) (13-n))=_;by_cases a:Uo j=[]
  ·rw [Vk d,if_neg (by simp [a]),if_pos rfl,a];refine congrArg _ (Xx _ _ λi hi _ => ?_);rw [Vk d,if_neg (by simp [a]),if_neg (by omega)]
  ·rcases w with ht | ht
   ·rw [Vk d,if_pos ⟨a,ht.symm⟩,if_pos rfl]
    have e:VE (([]:List UK)++[(s.2.2,Uo j)]).reverse k=UX (Uo j) k:=by
     show (UX (Uo j) k).or none=_;cases UX (Uo j) k<;>rfl
    rw [e];refine congrArg _ (Xx _ _ λi hi _ => ?_);rw [Vk d,if_neg (by rintro ⟨_,h⟩;omega),if_neg (by omega)]
   ·rw [Vk d,if_neg (by rintro ⟨_,h⟩;omega),if_pos rfl];have D:=F.to12 a;rw [show 13-n=(12-n)+1 by omega];show (none:Option Ti).or ((VE (To (Vt s j).2 (n+1)).reverse k).or (ZM _ (n+1+1) (12-n)))=(UX (Uo j) k).or ((VE (To s.1.2 (n+1)).reverse k).or (ZM _ (n+1+1) (12-n)));rw [Vk d,if_pos ⟨a,ht.symm⟩,if_neg (by omega),List.reverse_append,s8];have e:VE ([(s.2.2,Uo j)].reverse++(To s.1.2 (n+1)).reverse) k=(UX (Uo j) k).or (VE (To s.1.2 (n+1)).reverse k):=rfl;rw [e,gs];refine congrArg _ (congrArg _ (Xx _ _ λi hi _ => ?_));rw [Vk d,if_neg (by rintro ⟨_,h⟩;omega),if_neg (by omega)]
 have o:ZM (λi=>VE (To s.1.2 i).reverse k) (0+n) (1+(13-n))=((UX c.2 k).or (UX b.2 k)).or (ZM (λi=>VE (To s.1.2 i).reverse k) (n+1) (13-n)):=by
  rw [eg,yp 1];show (VE (To s.1.2 n).reverse k).or _=_;rw [J];refine congrArg (λz=>Option.or z _) ?_;show (UX c.2 k).or ((UX b.2 k).or none)=_;cases UX b.2 k<;>rfl
 rw [y,o,p k];cases q with
 | false =>
  have:((UX c.2 k).or (UX b.2 k)).filter (λx => !(false&&x.2.2.1))=(UX c.2 k).or (UX b.2 k):=by
   cases (UX c.2 k).or (UX b.2 k)<;>simp [mR]
  rw [this]
 | true =>
  have I:ZM (λi=>VE (To s.1.2 i).reverse k) (n+1) (13-n)=none:=by
   rw [Xx (g:=λ_=>none) _ _ λi hi _ => ?_,az];have:To s.1.2 i=[]:=by unfold To;rw [a9 (by have:=t rfl;omega)];rfl
   rw [this];rfl
  rw [I];cases A with
  | some x=>rfl
  | none =>
   cases (UX c.2 k).or (UX b.2 k) with
   | none=>rfl
   | some x =>
    cases hd:x.2.2.1<;>simp [mR,W7,hd]
end
section
open Go Sv
end
section
open Go Sv
end
section
open Go Sv
def Uf (l:List UK):Nat:=(l.map λr=>r.2.length).sum
theorem V5 (r:UK) (l:List UK):Uf (r::l)=r.2.length+Uf l:=by simp [Uf]
theorem VA (l m:List UK):Uf (l++m)=Uf l+Uf m:=by simp [Uf]
theorem iA (l:List UK):Uf l.reverse=Uf l:=by simp [Uf]
theorem m9 {l:List UK} (h : ∀ r∈l,r.2.length<=5000):Uf l<=l.length*5000:=by
 induction l with
 | nil=>simp [Uf]
 | cons r l b =>
  rw [V5,co];have:=h r (by simp);have:=b λx a=>h x (by simp [a]);omega
theorem Y6 : ∀ ls:List (List UK),Uf (Ue ls)=Uf ls.flatten/\(Ue ls).length=ls.flatten.length
 | []=>⟨rfl,rfl⟩
 | rs::ls=>by
  obtain ⟨a,b⟩:=Y6 ls;have e:Ue (rs::ls)=rs.reverse++Ue ls:=rfl;rw [e,lc,VA,VA,iA,a];simp [b]
theorem nI {S β:Type} {f:S->Option (LR S β)} {r:β} (mk:Int->Nat->S) (n:Nat) {s:S} (b:s=mk ((n:Int)-1) n) (g:n<1000000000) (hs : ∀ k,k<n->f (mk (k:Int) (k+1))=some (.nx (mk ((k:Int)-1) k))) (c:f (mk (-1) 0)=some (.dn r)):loop f s=some r:=by
 subst b
 have a : ∀ k,k<=n->IL (k+1) f (mk ((k:Int)-1) k)=some r:=by
  intro k
  induction k with
  | zero=>intro _;exact UP c
  | succ k d =>
   intro e;have:=hs k (by omega);rw [show ((k+1:Nat):Int)-1=(k:Int) by omega,UF this];exact d (by omega)
 exact Uu (by omega) (a n (eb _))
theorem Wq {L:Tk} (v:VLev L):L.2.flatten.length<=24/\Uf L.2.flatten<=24*5000:=by
 have b:L.2.flatten.length<=24:=by
  have h:=YY L.2 v.two;have:=v.len;rw [(Y6 L.2).2] at h;omega
 refine ⟨b,?_⟩
 have:=m9 (l:=L.2.flatten) λr a=>by
  obtain ⟨rs,c,d⟩:=l5.1 a;obtain ⟨i,hi⟩:=dc c;exact ((v.lev i rs hi).2 r d).vl.len
 exact s7 this (r7 _ b)
def cW (L:Tk):Int×(Int×Int):=if (VG L).2.2≠0 then (0,(0,(VG L).2.2)) else ((Uf L.2.flatten:Int),((L.2.flatten.length:Int),0))
theorem gw (L:Tk) (g:L.2.length<=1048576) (n : ∀ rs∈L.2,rs.length<=1048576 /\ ∀ r∈rs,r.2.length<=9223372036854775807):WY L=some (cW L):=by
 unfold WY cW;simp only [Tn,Tl];rw [YE _ g n,Sw,TP];by_cases b:(VG L).2.2=0;rotate_left
 ·rw [if_neg b,if_pos b]
 rw [if_pos b,if_neg (by simp [b])];have v:=XC.1 b;have p:=v.len;obtain ⟨s1,s2⟩:=Wq v
 rw [Uv (l:=L.2) (σ:=Nat×Nat) (s:=((0:Int),((0:Int),(0:Int)))) (λi a=>((i:Int),((a.1:Int),(a.2:Int)))) (λls i a=>a.1+Uf ls.flatten=Uf L.2.flatten/\a.2+ls.flatten.length=L.2.flatten.length) (λ_ _ _=>(0,(((L.2.length:Int),((Uf L.2.flatten:Int),(L.2.flatten.length:Int))),()))) (0,0) rfl (by omega) ⟨by simp,by simp⟩ (λa h=>by
  obtain ⟨c,d⟩:=h;simp only;rw [re,R6,<- c,<- d]
  simp [Uf]) (λi rs ls a hd hi e h=>by
   obtain ⟨c,d⟩:=h;rw [lc,VA] at c;rw [lc,iP] at d;have o:=v.two rs (bo hi);refine ⟨(a.1+Uf rs,a.2+rs.length),?_,⟨by simp only;omega,by simp only;omega⟩,rfl⟩;simp only;rw [rl e,Sb,Tf,TB hi,Si (by omega)]
   rw [nI (λk m=>(k,(((a.1+Uf (rs.drop m):Nat):Int),((a.2+(rs.length-m):Nat):Int)))) rs.length (by simp [Uf]) (by omega) (λk f=>by
    have j:rs[k]? = some rs[k]:=ee f;have hd:Uf (rs.drop k)=rs[k].2.length+Uf (rs.drop (k+1)):=by rw [List.drop_eq_getElem_cons f,V5]
    have hc:Uf (rs.drop k)<=Uf rs:=by
     have:=VA (rs.take k) (rs.drop k);rw [List.take_append_drop] at this;omega
    simp only;rw [TK,if_pos (by omega),Tf,TB j,Si (by omega),Sf (by omega),Sf (by omega),hd]
    congr 4
    ·omega
    ·congr 1
     omega) (r:=(0,(((-1:Int),(((a.1+Uf rs:Nat):Int),((a.2+rs.length:Nat):Int))),()))) rfl,Sw]
   rw [Tq hi (by omega)]),Sw]
theorem ae {L:Tk} (v:VLev L):WH L=some ((Uf L.2.flatten:Int),((L.2.flatten.length:Int),0)):=by
 unfold WH;simp only [Tn,Tl];rw [aD v,Sw];simp only;rw [TP,if_pos rfl];obtain ⟨s1,s2⟩:=Wq v;obtain ⟨n1,n2⟩:=Y6 L.2
 rw [Uv (l:=Ue L.2) (σ:=Nat) (s:=((0:Int),(0:Int))) (λi a=>((a:Int),(i:Int))) (λls i a=>a+Uf ls=Uf L.2.flatten) (λ_ _ _=>(0,(((Uf L.2.flatten:Int),((Ue L.2).length:Int)),()))) 0 rfl (by omega) (by rw [n1];simp) (λa h=>by
  simp only
  rw [re,R6,<- h];simp [Uf]) (λi r ls a hd hi b h=>by
   rw [V5] at h;refine ⟨a+r.2.length,?_,by omega,rfl⟩;simp only;rw [rl b,Sb,Tf,TB hi,Sf (by omega),Tq hi (by omega)]
   rfl),Sw,n2]
theorem eG {s:Th} (m:Sm s) (a:Int):Xg (s,a)=some (Xr 0 (λs j=>((UL s.1 j:Int),0)) s a):=by
 unfold Xg;rw [aq m,Sw];unfold Xr bH ZG;by_cases b:(Tj s).2=0;rotate_left
 ·rw [if_pos b,TP,if_neg b,if_pos b]
 rw [if_neg (show ¬ (Tj s).2≠0 by simp [b]),if_neg (show ¬ (Tj s).2≠0 by simp [b])];have v:=UD.1 b;cases e:Zm a 0 (Tp 0 s.1.2) with
 | none=>rfl
 | some i =>
  obtain ⟨j,n,c,g,f,d,h⟩:=v.at e;simp only [c];rw [TP,if_pos rfl,Tf,TB c,(JobAt.left d).1,Sw]
def YL (s:Th) (d:Int):Nat:=match bH s d with
 | some j=>UL s.1 j+1
 | none=>0
def ZF (s:Th):Nat:=((Tp 0 s.1.2).map (YL s)).sum
theorem VSt.debt {s:Th} (v:VSt s) {d:Int} (h:d∈Tp 0 s.1.2) (m:Sm s):WM (s,d)=some ((YL s d:Int),0)/\Ve (s,d)=some ((YL s d:Int),0)/\YL s d<=10001:=by
 obtain ⟨j,n,b,f,g,c,k⟩:=v.atDue h;have e:(Tj s).2=0:=UD.2 v;have hd:YL s d=UL s.1 j+1:=by unfold YL;rw [b]
 have i:=(JobAt.left c).2.2
 have a:Xr (0:Int) (λs j=>((UL s.1 j:Int),0)) s d=((UL s.1 j:Int),0):=by
  unfold Xr;rw [if_neg (show ¬ (Tj s).2≠0 by simp [e]),b]
 unfold WM Ve;rw [eG m,Zb m,a,hd,Sw];simp only [Sw];rw [TP,if_pos rfl,Sf (by omega)];exact ⟨rfl,rfl,by omega⟩
theorem eO {s:Th} (v:VSt s) (m:Sm s):ZF s<=12*10001:=by
 have a : ∀ l:List Int,(∀ d∈l,YL s d<=10001)->(l.map (YL s)).sum<=l.length*10001:=by
  intro l
  induction l with
  | nil=>intro _;simp
  | cons d l f =>
   intro h;have:=h d (by simp);have:=f λx e=>h x (by simp [e]);simp only [hI,tw,co];omega
 have b:=a (Tp 0 s.1.2) λd hd=>(v.debt hd m).2.2;have g:=VV s.1.2 0;have:=v.lev.len;have c:(Tp 0 s.1.2).length*10001<=12*10001:=r7 _ (by omega);exact s7 b c
theorem qZ {s:Th} (m:Sm s):Xb s=some (if (Tj s).2≠0 then (0,(Tj s).2) else ((ZF s:Int),0)):=by
 unfold Xb;simp only [Tn,Tl];rw [eh m,Sw];by_cases a:(Tj s).2=0;rotate_left
 ·rw [if_pos a,if_pos a,TP,if_neg a]
 rw [if_neg (show ¬ (Tj s).2≠0 by simp [a]),if_neg (show ¬ (Tj s).2≠0 by simp [a])];have v:=UD.1 a;have hd:=eO v m;simp only;have f:=VV s.1.2 0;have:=v.lev.len
 rw [TP,if_pos rfl,Uv (l:=Tp 0 s.1.2) (σ:=Nat) (s:=((0:Int),((0:Int),((0:Int),(0:Int))))) (λi b=>((0:Int),((i:Int),((0:Int),(b:Int))))) (λls i b=>b+(ls.map (YL s)).sum=ZF s) (λ_ _ _=>(1,(((0:Int),(((Tp 0 s.1.2).length:Int),((0:Int),(ZF s:Int)))),()))) 0 rfl (by omega) (by unfold ZF;simp) (λb h=>by
  simp only
  rw [re,R6,<- h];simp) (λi d ls b e hi c h=>by
   rw [hI,tw] at h;refine ⟨b+YL s d,?_,by omega,rfl⟩;simp only;rw [rl c,Sb,Tf,TB hi,(v.debt (bo hi) m).1,Sw];simp only;rw [TP,if_pos rfl,Sf (by omega),Sf (by omega)]
   rfl),Sw]
 rfl
theorem iW {s:Th} (m:Sm s):Xj s=some (if (Tj s).2≠0 then (0,(Tj s).2) else ((ZF s:Int),0)):=by
 unfold Xj;simp only [Tn,Tl];rw [aE m,Sw];by_cases b:(Tj s).2=0;rotate_left
 ·rw [if_pos b,if_pos b];exact UJ (Z3 (r:=(0,(((0:Int),(0:Int)),()))) (λk=>((k:Int),(0:Int))) 0 rfl (by omega) (λk f=>by omega) rfl) rfl
 rw [if_neg (show ¬ (Tj s).2≠0 by simp [b]),if_neg (show ¬ (Tj s).2≠0 by simp [b])];have v:=UD.1 b;have hd:=eO v m;simp only;have g:=VV s.1.2 0;have:=v.lev.len
 rw [Uv (l:=Tp 0 s.1.2) (σ:=Nat) (s:=((0:Int),(0:Int))) (λi a=>((i:Int),(a:Int))) (λls i a=>a+(ls.map (YL s)).sum=ZF s) (λ_ _ _=>(0,((((Tp 0 s.1.2).length:Int),(ZF s:Int)),()))) 0 rfl (by omega) (by unfold ZF;simp) (λa h=>by
  simp only
  rw [re,R6,<- h];simp) (λi d ls a e hi c h=>by
   rw [hI,tw] at h;refine ⟨a+YL s d,?_,by omega,rfl⟩;simp only;rw [rl c,Sb,Tf,TB hi,(v.debt (bo hi) m).2.1,Sw];simp only;rw [Sf (by omega),Sf (by omega)]
   rfl),Sw]
end
section
open Go Sv
end
section
open Go Sv
end
section
open Go Sv
end
section
open Go Sv
end
section
open Go Sv
end
section
open Go Sv
def Gd (s0 s:Th):Prop:=VSt s/\LF s.1=LF s0.1/\Uf s.1.2.flatten<=2000
theorem nA {l:List UK} {r:UK} (h:r∈l):r.2.length<=Uf l:=by
 induction l with
 | nil=>cases h
 | cons x l a =>
  rw [V5];rcases en.1 h with e | h
  ·rw [e];omega
  ·have:=a h;omega
theorem ap {L:Tk} (h:Uf L.2.flatten<=2000):nu L:=λi r a=>by
 have:=nA (Z5.2 ⟨i,a⟩);omega
theorem bO {s:Th} (v:VSt s) (h:nu s.1) {n:Nat} {j:Job} (g:JobAt s.1 n j) (E : ¬ 0<UL s.1 j):Uf (Vt s j).2.flatten<=Uf s.1.2.flatten:=by
 obtain ⟨G,I,y,J,K⟩:=g.out v.lev (h n);have w:j.1.toNat=n:=by rw [y];simp
 have a:=h n;obtain ⟨d,e,m,k,u,c,x,F,B,C⟩:=g;have i:=YF.1 u;rw [i] at a;have D:=a d (by simp);have f:=a e (by simp)
 have l:(Uo j).length<=e.2.length+d.2.length:=by
  rw [c];exact (iT C B m x (by omega)).2
 obtain ⟨p,q,f,o⟩:=XY s.1 n []
 have e1:Uf s.1.2.flatten=Uf p+((d.2.length+e.2.length)+Uf q):=by
  rw [f,i,VA,VA,V5,V5];simp [Uf]
 have e2:Uf (U3 s.1 n []).2.flatten=Uf p+Uf q:=by rw [o,VA,VA];simp [Uf]
 unfold Vt;rw [w];by_cases b:Uo j=[]
 ·rw [if_pos b];omega
 ·rw [if_neg b];obtain ⟨z,A,r,t⟩:=XY (U3 s.1 n []) (Yo s j) (To (U3 s.1 n []).2 (Yo s j)++[(s.2.2,Uo j)]);have e3:Uf (U3 s.1 n []).2.flatten=Uf z+(Uf (To (U3 s.1 n []).2 (Yo s j))+Uf A):=by rw [r,VA,VA]
  rw [t,VA,VA,VA,V5];simp only [Uf,List.map_nil,List.sum_nil];simp only [Uf] at e3 e2 e1;omega
theorem eP {s:Th} (v:VSt s) {d:Int} (h:d∈Tp 0 s.1.2) : ∃ (i:Nat) (j:Job) (n:Nat),Zm d 0 (Tp 0 s.1.2)=some i/\s.2.1[i]? = some j/\d=(n:Int)/\j.1=(n:Int)/\JobAt s.1 n j:=by
 obtain ⟨i,hi⟩:=au (k:=0) h;obtain ⟨j,n,a,b,c,d,_⟩:=v.at hi;exact ⟨i,j,n,hi,a,b,c,d⟩
theorem fN {s0 s:Th} (g:Gd s0 s) {d:Int} (h:d∈Tp 0 s.1.2) : ∃ (c:Bool) (t:Th) (b:Bool) (e:Int),Wv (s,d)=some (c,0)/\VW (s,d)=some (t,(b,e))/\(s.2.2<=1000000->c=decide (e=0))/\(e=0->Gd s0 t):=by
 obtain ⟨v,z,hc⟩:=g;have r:=ap hc;have m:=v.sm;obtain ⟨i,j,n,hi,y,hd,w,q⟩:=eP v h;have A:(Tj s).2=0:=UD.2 v;have o:bH s d=some j:=by unfold bH;rw [hi];exact y
 have p:Wv (s,d)=some (Wo s.1 j,0):=by
  rw [qc m];unfold Xr;rw [if_neg (by simp [A]),o]
 have k:VW (s,d)=some (Yd s j):=by
  rw [eI m r];unfold Xo;rw [if_neg (by simp [A]),o]
 refine ⟨Wo s.1 j,(Yd s j).1,(Yd s j).2.1,(Yd s j).2.2,p,k,?_⟩;unfold Yd;by_cases l:Wo s.1 j=false
 ·rw [if_pos l,l];exact ⟨λ_=>by simp,λh=>by cases h⟩
 have a:Wo s.1 j=true:=by simpa using l
 rw [if_neg l];by_cases f:0<UL s.1 j
 ·rw [if_pos f];refine ⟨λ_=>by simp [a],λ_=>⟨ic v (by rw [w,<- hd];exact hi) y q f,z,hc⟩⟩
 rw [if_neg f];unfold Zx;rw [if_neg (λh=>h.elim f l)];by_cases u:s.2.2>1000000/\Uo j≠[]
 ·rw [if_pos u];exact ⟨λh=>by omega,λh=>by cases h⟩
 rw [if_neg u]
 have x:Uo j≠[]->s.2.2<=1000000:=λC=>by
  by_cases B:s.2.2>1000000
  ·exact absurd ⟨B,C⟩ u
  ·omega
 refine ⟨λ_=>by simp [a],λ_=>⟨iD v r q f a x,?_,?_⟩⟩
 ·exact (fO v r q f a x).trans z
 ·have:=bO v r q f;show Uf (Vt s j).2.flatten<=2000;omega
theorem ao : ∀ {ls:List (List UK)} {i n:Nat},(To ls n).length=2->((i+n:Nat):Int)∈Tp i ls
 | [],i,n,h=>by simp [To] at h
 | rs::ls,i,0,h=>by
  have h':rs.length=2:=h;rw [YC,if_pos h'];simp
 | rs::ls,i,n+1,h=>by
  rw [YC];refine rY _ ?_;have:=ao (ls:=ls) (i:=i+1) (n:=n) h
  rwa [show i+1+n=i+(n+1) by omega] at this
end
section
open Go Sv
def Xp (f:Nat->Nat):Nat->Nat
 | 0=>0
 | m+1=>Xp f m+f m
theorem bG {f g:Nat->Nat} : ∀ {m:Nat},(∀ i,i<m->g i<=f i)->Xp g m<=Xp f m
 | 0,_=>eb _
 | m+1,h=>Nat.add_le_add (bG λi hi=>h i (by omega)) (h m (by omega))
theorem aJ {f g:Nat->Nat} {n:Nat} (a:g n+1<=f n) : ∀ {m:Nat},n<m->(∀ i,i<m->i≠n->g i<=f i)->Xp g m+1<=Xp f m
 | 0,h,_=>absurd h (by omega)
 | m+1,h,ho=>by
  unfold Xp;by_cases e:n=m
  ·subst e;have:=bG (f:=f) (g:=g) (m:=n) λi hi=>ho i (by omega) (by omega);omega
  ·have:=aJ a (m:=m) (by omega) λi hi=>ho i (by omega);have:=ho m (by omega) (λh=>e h.symm);omega
theorem ai {f g:Nat->Nat} {n:Nat} (a:g n+g (n+1)+1<=f n+f (n+1)) : ∀ {m:Nat},n+1<m->(∀ i,i<m->i≠n->i≠n+1->g i<=f i)->Xp g m+1<=Xp f m
 | 0,h,_=>absurd h (by omega)
 | m+1,h,ho=>by
  unfold Xp;by_cases e:n+1=m
  ·subst e;have:=bG (f:=f) (g:=g) (m:=n) λi hi=>ho i (by omega) (by omega) (by omega);unfold Xp;omega
  ·have:=ai a (m:=m) (by omega) λi hi=>ho i (by omega);have:=ho m (by omega) (by omega) (by omega);omega
theorem Yg : ∀ {js:List Job} {j:Job},(js.map (·.1)).Nodup->j∈js->Uq js j.1=some j
 | [],_,_,h=>by cases h
 | i::js,j,hn,h=>by
  rw [hI,ox] at hn;unfold Uq;rw [kd];unfold ba;rw [Vb];rcases en.1 h with e | h
  ·subst e;simp
  ·have a : ¬ j.1=i.1:=λe=>hn.1 (by rw [<- e];exact l6 h);rw [decide_eq_false a];exact Yg hn.2 h
theorem aW : ∀ {js:List Job} {i:Nat} {j:Job} (w:XH) (d:Int),(js.map (·.1)).Nodup->js[i]? = some j->Uq (js.set i (j.1,w)) d=if d=j.1 then some (j.1,w) else Uq js d
 | [],i,j,w,d,_,h=>by simp at h
 | x::js,0,j,w,d,hn,h=>by
  have e:x=j:=by simpa using h
  subst e;unfold Uq;rw [List.set_cons_zero,kd,kd];unfold ba;rw [Vb];by_cases e:d=x.1<;>simp [e]
 | x::js,i+1,j,w,d,hn,h=>by
  rw [hI,ox] at hn;have h':js[i]? = some j:=by simpa using h
  have b:=aW w d hn.2 h';unfold Uq at b ⊢;rw [List.set_cons_succ,kd,kd,b];have c:ba d x=decide (d=x.1):=Vb _ _;rw [c];by_cases e:d=x.1
  ·have a : ¬ d=j.1:=λe2=>hn.1 (by rw [<- e,e2];exact l6 (bo h'));rw [decide_eq_true e];simp only [a,if_false]
  ·rw [decide_eq_false e]
theorem VSt.noJob {s:Th} (v:VSt s) {i:Nat} (h:(To s.1.2 i).length≠2):Uq s.2.1 (i:Int)=none:=by
 refine Yz λa=>h ?_;rw [v.due] at a;obtain ⟨n,c,d,e,b⟩:=eX a;have:i=n:=by omega
 rw [this,YF.1 b];rfl
theorem VSt.hasJob {s:Th} (v:VSt s) {i:Nat} (h:(To s.1.2 i).length=2) : ∃ j,Uq s.2.1 (i:Int)=some j:=by
 have a:=ao (i:=0) h;rw [eg,<- v.due] at a;obtain ⟨j,b,e⟩:=oy.1 a;exact ⟨j,by rw [<- e];exact Yg v.nodup b⟩
theorem qd {s:Th} (v:VSt s) (d:Int):bH s d=Uq s.2.1 d:=by
 by_cases h:d∈Tp 0 s.1.2
 ·obtain ⟨j,n,a,hd,b,_⟩:=v.atDue h;rw [a,hd,<- b];refine (Yg v.nodup ?_).symm;unfold bH at a;split at a
  ·exact bo a
  ·cases a
 ·rw [Yz (by rw [v.due];exact h)];unfold bH;split
  ·rename_i i hi;have:=(cZ hi).2;exact absurd (bo this) h
  ·rfl
def oC (j:Job):Nat:=j.2.2.2.2.toNat
theorem JobAt.rd {L:Tk} {n:Nat} {j:Job} (h:JobAt L n j) : ∃ a b,To L.2 n=[a,b]/\oC j<=b.2.length+a.2.length/\UL L j=b.2.length+a.2.length-oC j/\(0<UL L j->oC (j.1,Ye L j)=oC j+1):=by
 obtain ⟨a,b,c,k,d,rfl,f,g,i,l⟩:=h;have e:=YF.1 d;have e1:(VO b.2 a.2 c k).2.1.2.2=c:=aj _ _ _ _;have e2:(VO b.2 a.2 c k).2.2.2.toNat=k:=by show ((k:Int)).toNat=k;rw [bl]
 refine ⟨a,b,e,?_,?_,λ_ => ?_⟩
 ·show (VO b.2 a.2 c k).2.2.2.toNat<=_;rw [e2];exact f
 ·unfold UL oC;simp only [bl,d]
 ·show (Ye L ((n:Int),VO b.2 a.2 c k)).2.2.2.toNat=(VO b.2 a.2 c k).2.2.2.toNat+1;unfold Ye;simp only [bl,e];rw [e1,e2];show (((k+1:Nat):Int)).toNat=_;rw [bl]
structure StepF (s:Th) (n:Nat) (j:Job) (t:Th) (b:Bool):Prop where
 job:Uq s.2.1 (n:Int)=some j
 read:0<UL s.1 j->b=false/\t.1=s.1/\t.2.2=s.2.2 /\ ∀ i:Nat,Uq t.2.1 (i:Int)=if i=n then some (j.1,Ye s.1 j) else Uq s.2.1 (i:Int)
 inst:UL s.1 j=0->b=true/\t.1=Vt s j/\t.2.2=Ym s j/\(∀ i,(To t.1.2 i)=if Uo j≠[]/\i=Yo s j then (if i=n then [] else To s.1.2 i)++[(s.2.2,Uo j)] else if i=n then [] else To s.1.2 i)/\(Yo s j=n\/Yo s j=n+1/\n+1<12/\(Uo j≠[]->(To s.1.2 (n+1)).length<2)) /\
  ∀ i:Nat,Uq t.2.1 (i:Int)=if (To t.1.2 i).length=2 then some ((if i=n then none else Uq s.2.1 (i:Int)).getD (YO t.1 (i:Int))) else none
theorem dC {s0 s:Th} (g:Gd s0 s) {d:Int} (h:d∈Tp 0 s.1.2) (e:(Xo s d).2.2=0) : ∃ (n:Nat) (j:Job),d=(n:Int)/\n<12/\JobAt s.1 n j/\Wo s.1 j=true/\StepF s n j (Xo s d).1 (Xo s d).2.1/\Gd s0 (Xo s d).1:=by
 obtain ⟨v,Y,hc⟩:=g;have W:=ap hc;have m:=v.sm;obtain ⟨c,t,b,er,_,J,_,X⟩:=fN ⟨v,Y,hc⟩ h;rw [eI m W] at J;have w:=Option.some.inj J;obtain ⟨i,j,n,hi,S,hd,u,P⟩:=eP v h;have hz:(Tj s).2=0:=UD.2 v;have C:bH s d=some j:=by unfold bH;rw [hi];exact S
 have Z:n<12:=by
  have:=v.lev.len;obtain ⟨_,_,_,_,U,_⟩:=P;have:=(a8.1 U).1;omega
 have E:Uq s.2.1 (n:Int)=some j:=by rw [<- hd,<- qd v,C]
 have hS:Xo s d=Yd s j:=by unfold Xo;rw [if_neg (by simp [hz]),C]
 have A:Gd s0 (Xo s d).1:=by rw [w];exact X (by rw [<- e,w])
 have k:=A.1;rw [hS] at e k A ⊢;refine ⟨n,j,hd,Z,P,?_,⟨E,λN => ?_,λN => ?_⟩,A⟩
 ·unfold Yd at e;by_cases a:Wo s.1 j=false
  ·rw [if_pos a] at e;cases e
  ·simpa using a
 ·unfold Yd at e ⊢;have a : ¬ Wo s.1 j=false:=λa=>by rw [if_pos a] at e;cases e
  rw [if_neg a,if_pos N];refine ⟨rfl,rfl,rfl,λo => ?_⟩;show Uq (aA s j).2.1 _=_;unfold aA;rw [u,<- hd,hi,ll];show Uq (s.2.1.set i (d,Ye s.1 j)) _=_;have:=aW (Ye s.1 j) (o:Int) v.nodup S;rw [u,<- hd] at this;rw [this,hd];by_cases p:o=n
  ·rw [if_pos (by rw [p]),if_pos p]
  ·rw [if_neg (by omega),if_neg p]
 ·unfold Yd at e k ⊢;have a : ¬ Wo s.1 j=false:=λa=>by rw [if_pos a] at e;cases e
  have q:Wo s.1 j=true:=by simpa using a
  have z : ¬ 0<UL s.1 j:=by omega
  rw [if_neg a,if_neg z] at e k ⊢;unfold Zx at e k ⊢;rw [if_neg (λh=>h.elim z a)] at e k ⊢;by_cases O:s.2.2>1000000/\Uo j≠[]
  ·rw [if_pos O] at e;cases e
  rw [if_neg O] at e k ⊢;have B:j.1.toNat=n:=by rw [u];simp
  have G : ∀ i,To (Vt s j).2 i=_:=λi=>Vk (s:=s) (j:=j) B i;refine ⟨rfl,rfl,rfl,G,?_,λo => ?_⟩
  ·unfold Yo;rw [B];by_cases hs:XG s.1 j=true
   ·rw [if_pos hs];exact .inl rfl
   ·rw [if_neg hs]
    have hr:Zi s.1 (n+1)=true:=by
     unfold Wo at q;rw [B] at q;simpa [hs,z] using q
    have I:=of_decide_eq_true hr;exact .inr ⟨rfl,I.1,λ_=>I.2⟩
  ·have r:VSt (Ys s (Vt s j) (Ym s j) j.1):=k;show Uq (Ys s (Vt s j) (Ym s j) j.1).2.1 (o:Int)=if (To (Vt s j).2 o).length=2 then some ((if o=n then none else Uq s.2.1 (o:Int)).getD (YO (Vt s j) (o:Int))) else none
   have ho:(To (Ys s (Vt s j) (Ym s j) j.1).1.2 o)=To (Vt s j).2 o:=rfl;by_cases K:(To (Vt s j).2 o).length=2
   ·rw [if_pos K];have M:=ao (i:=0) K;rw [eg] at M;have F:Xk s (Vt s j) j.1 (o:Int)∈(Ys s (Vt s j) (Ym s j) j.1).2.1:=l6 M
    have D:(Xk s (Vt s j) j.1 (o:Int)).1=(o:Int):=by
     have L:(Tp 0 (Vt s j).2).map (λd=>(Xk s (Vt s j) j.1 d).1)=Tp 0 (Vt s j).2:=by
      have:=r.due;simpa [Ys,yo,Function.comp_def] using this
     have key : ∀ {l:List Int} {f:Int->Int},l.map f=l -> ∀ x∈l,f x=x:=by
      intro l f
      induction l with
      | nil=>intro _ x hx;cases hx
      | cons y l ih =>
       intro h x hx;rw [hI] at h;obtain ⟨k1,k2⟩:=List.cons.inj h;rcases en.1 hx with rfl | hx
       ·exact k1
       ·exact ih k2 x hx
     exact key L _ M
    have:=Yg r.nodup F;rw [D] at this;rw [this];unfold Xk;rw [u];by_cases p:o=n
    ·rw [if_pos (by omega),if_pos p]
    ·rw [if_neg (by omega),if_neg p]
   ·rw [if_neg K];exact r.noJob (by rw [ho];exact K)
end
section
open Go Sv
def m7 (s:Th) (i:Nat):Nat:=match Uq s.2.1 (i:Int) with
 | some j=>oC j
 | none=>0
def cL (N:Nat) (s:Th) (i:Nat):Nat:=(To s.1.2 i).length*(N+1)-m7 s i
def oB (N:Nat) (s:Th):Nat:=Xp (cL N s) 12
theorem nB {L:Tk} {n:Nat} {a b:UK} (h:To L.2 n=[a,b]):a.2.length+b.2.length<=Uf L.2.flatten:=by
 obtain ⟨p,q,c,_⟩:=XY L n [];rw [c,h,VA,VA,V5,V5];omega
theorem VSt.rd0 {s:Th} (v:VSt s) {i:Nat} (h:(To s.1.2 i).length≠2):m7 s i=0:=by
 unfold m7;rw [v.noJob h]
theorem iV {N:Nat} {s t:Th} {n:Nat} {j:Job} {b:Bool} (v:VSt s) (B:Uf s.1.2.flatten<=N) (r:n<12) (y:JobAt s.1 n j) (F:StepF s n j t b):oB N t+1<=oB N s:=by
 obtain ⟨E,G,l,C,D,z⟩:=y.rd;have hc:=nB l
 have hs:cL N s n=2*(N+1)-oC j:=by
  unfold cL m7;rw [F.job,l];rfl
 by_cases p:0<UL s.1 j
 ·obtain ⟨_,e1,_,e2⟩:=F.read p;refine aJ (n:=n) ?_ r λi _ a => ?_
  ·have m:cL N t n=2*(N+1)-(oC j+1):=by
    unfold cL m7;rw [e2,if_pos rfl,e1,l,<- z p];rfl
   omega
  ·unfold cL m7;rw [e2,if_neg a,e1];exact eb _
 ·obtain ⟨_,e1,_,e2,e3,o⟩:=F.inst (by omega)
  have d : ∀ i,i≠n -> ¬ (Uo j≠[]/\i=Yo s j)->cL N t i<=cL N s i:=λi a hit=>by
   have e:To t.1.2 i=To s.1.2 i:=by rw [e2,if_neg hit,if_neg a]
   have c:m7 t i=m7 s i:=by
    by_cases c:(To s.1.2 i).length=2
    ·obtain ⟨j',k⟩:=v.hasJob c;unfold m7;rw [o,e,if_pos c,if_neg a,k];rfl
    ·rw [v.rd0 c];unfold m7;rw [o,e,if_neg c]
   unfold cL;rw [e,c];exact eb _
  by_cases m:Uo j≠[]/\Yo s j≠n
  ·obtain ⟨q,u⟩:=m;rcases e3 with e3 | ⟨e3,f,c⟩
   ·exact absurd e3 u
   have c:=c q;refine ai (n:=n) ?_ f λi _ a g=>d i a (by rw [e3];exact λh=>g h.2)
   have w:cL N t n=0:=by
    unfold cL;rw [e2,if_neg (by rw [e3];omega),if_pos rfl];simp
   have x:cL N t (n+1)<=((To s.1.2 (n+1)).length+1)*(N+1):=by
    unfold cL;rw [e2,if_pos ⟨q,e3.symm⟩,if_neg (by omega),iP];exact Nat.sub_le _ _
   have A:cL N s (n+1)=(To s.1.2 (n+1)).length*(N+1):=by
    unfold cL;rw [v.rd0 (by omega)];rfl
   rw [Nat.add_mul] at x;omega
  ·refine aJ (n:=n) ?_ r λi _ a=>d i a (λh=>m ⟨h.1,by rw [<- h.2];exact a⟩)
   have w:cL N t n<=1*(N+1):=by
    refine s7 (Nat.sub_le _ _) (r7 _ ?_);rw [e2,if_pos rfl];split<;>simp
   omega
theorem fB (L:List (List UK)) : ∀ m,Xp (λi=>(To L i).length) m=(L.take m).flatten.length
 | 0=>by simp [Xp]
 | m+1=>by
  unfold Xp;rw [fB L m];by_cases h:m<L.length
  ·have:L.take (m+1)=L.take m++[To L m]:=by
    rw [li,Xm h];rfl
   rw [this,List.flatten_append];simp
  ·have:To L m=[]:=by unfold To;rw [a9 (by omega)];rfl
   rw [this,hM (by omega),hM (by omega)];simp
theorem bV {L:Tk} (v:VLev L):L.2.flatten.length<=24:=by
 have h:=fB L.2 12;have:=v.len;rw [hM (by omega)] at h;rw [<- h];exact bG (f:=λ_=>2) λi _=>(v.own i).1
end
section
open Go Sv
abbrev cS:=(Int×(Int×(Int×gu)))
def xV (a:gu) (k l:Nat):gu :=
 (TS (neq l 0) (SE .i64 (Oe [a.1,a.2.1,a.2.2.1,a.2.2.2.1,a.2.2.2.2.1,a.2.2.2.2.2.1,a.2.2.2.2.2.2.1,a.2.2.2.2.2.2.2.1,a.2.2.2.2.2.2.2.2.1,a.2.2.2.2.2.2.2.2.2.1,a.2.2.2.2.2.2.2.2.2.2.1,a.2.2.2.2.2.2.2.2.2.2.2] k) 1) a.1,(TS (neq l 1) (SE .i64 (Oe [a.1,a.2.1,a.2.2.1,a.2.2.2.1,a.2.2.2.2.1,a.2.2.2.2.2.1,a.2.2.2.2.2.2.1,a.2.2.2.2.2.2.2.1,a.2.2.2.2.2.2.2.2.1,a.2.2.2.2.2.2.2.2.2.1,a.2.2.2.2.2.2.2.2.2.2.1,a.2.2.2.2.2.2.2.2.2.2.2] k) 1) a.2.1,(TS (neq l 2) (SE .i64 (Oe [a.1,a.2.1,a.2.2.1,a.2.2.2.1,a.2.2.2.2.1,a.2.2.2.2.2.1,a.2.2.2.2.2.2.1,a.2.2.2.2.2.2.2.1,a.2.2.2.2.2.2.2.2.1,a.2.2.2.2.2.2.2.2.2.1,a.2.2.2.2.2.2.2.2.2.2.1,a.2.2.2.2.2.2.2.2.2.2.2] k) 1) a.2.2.1,(TS (neq l 3) (SE .i64 (Oe [a.1,a.2.1,a.2.2.1,a.2.2.2.1,a.2.2.2.2.1,a.2.2.2.2.2.1,a.2.2.2.2.2.2.1,a.2.2.2.2.2.2.2.1,a.2.2.2.2.2.2.2.2.1,a.2.2.2.2.2.2.2.2.2.1,a.2.2.2.2.2.2.2.2.2.2.1,a.2.2.2.2.2.2.2.2.2.2.2] k) 1) a.2.2.2.1,(TS (neq l 4) (SE .i64 (Oe [a.1,a.2.1,a.2.2.1,a.2.2.2.1,a.2.2.2.2.1,a.2.2.2.2.2.1,a.2.2.2.2.2.2.1,a.2.2.2.2.2.2.2.1,a.2.2.2.2.2.2.2.2.1,a.2.2.2.2.2.2.2.2.2.1,a.2.2.2.2.2.2.2.2.2.2.1,a.2.2.2.2.2.2.2.2.2.2.2] k) 1) a.2.2.2.2.1,(TS (neq l 5) (SE .i64 (Oe [a.1,a.2.1,a.2.2.1,a.2.2.2.1,a.2.2.2.2.1,a.2.2.2.2.2.1,a.2.2.2.2.2.2.1,a.2.2.2.2.2.2.2.1,a.2.2.2.2.2.2.2.2.1,a.2.2.2.2.2.2.2.2.2.1,a.2.2.2.2.2.2.2.2.2.2.1,a.2.2.2.2.2.2.2.2.2.2.2] k) 1) a.2.2.2.2.2.1,(TS (neq l 6) (SE .i64 (Oe [a.1,a.2.1,a.2.2.1,a.2.2.2.1,a.2.2.2.2.1,a.2.2.2.2.2.1,a.2.2.2.2.2.2.1,a.2.2.2.2.2.2.2.1,a.2.2.2.2.2.2.2.2.1,a.2.2.2.2.2.2.2.2.2.1,a.2.2.2.2.2.2.2.2.2.2.1,a.2.2.2.2.2.2.2.2.2.2.2] k) 1) a.2.2.2.2.2.2.1,(TS (neq l 7) (SE .i64 (Oe [a.1,a.2.1,a.2.2.1,a.2.2.2.1,a.2.2.2.2.1,a.2.2.2.2.2.1,a.2.2.2.2.2.2.1,a.2.2.2.2.2.2.2.1,a.2.2.2.2.2.2.2.2.1,a.2.2.2.2.2.2.2.2.2.1,a.2.2.2.2.2.2.2.2.2.2.1,a.2.2.2.2.2.2.2.2.2.2.2] k) 1) a.2.2.2.2.2.2.2.1,(TS (neq l 8) (SE .i64 (Oe [a.1,a.2.1,a.2.2.1,a.2.2.2.1,a.2.2.2.2.1,a.2.2.2.2.2.1,a.2.2.2.2.2.2.1,a.2.2.2.2.2.2.2.1,a.2.2.2.2.2.2.2.2.1,a.2.2.2.2.2.2.2.2.2.1,a.2.2.2.2.2.2.2.2.2.2.1,a.2.2.2.2.2.2.2.2.2.2.2] k) 1) a.2.2.2.2.2.2.2.2.1,(TS (neq l 9) (SE .i64 (Oe [a.1,a.2.1,a.2.2.1,a.2.2.2.1,a.2.2.2.2.1,a.2.2.2.2.2.1,a.2.2.2.2.2.2.1,a.2.2.2.2.2.2.2.1,a.2.2.2.2.2.2.2.2.1,a.2.2.2.2.2.2.2.2.2.1,a.2.2.2.2.2.2.2.2.2.2.1,a.2.2.2.2.2.2.2.2.2.2.2] k) 1) a.2.2.2.2.2.2.2.2.2.1,(TS (neq l 10) (SE .i64 (Oe [a.1,a.2.1,a.2.2.1,a.2.2.2.1,a.2.2.2.2.1,a.2.2.2.2.2.1,a.2.2.2.2.2.2.1,a.2.2.2.2.2.2.2.1,a.2.2.2.2.2.2.2.2.1,a.2.2.2.2.2.2.2.2.2.1,a.2.2.2.2.2.2.2.2.2.2.1,a.2.2.2.2.2.2.2.2.2.2.2] k) 1) a.2.2.2.2.2.2.2.2.2.2.1,TS (neq l 11) (SE .i64 (Oe [a.1,a.2.1,a.2.2.1,a.2.2.2.1,a.2.2.2.2.1,a.2.2.2.2.2.1,a.2.2.2.2.2.2.1,a.2.2.2.2.2.2.2.1,a.2.2.2.2.2.2.2.2.1,a.2.2.2.2.2.2.2.2.2.1,a.2.2.2.2.2.2.2.2.2.2.1,a.2.2.2.2.2.2.2.2.2.2.2] k) 1) a.2.2.2.2.2.2.2.2.2.2.2)))))))))))
end
section
open Go Sv
def XW (s:Th):Int:=if (Xl s).2≠0 then (Xl s).2 else (Xo s (Xl s).1).2.2
def Ya (s:Th):Th:=(Xo s (Xl s).1).1
def aN (s:Th):Int×Bool:=((Xl s).1,(Xo s (Xl s).1).2.1)
def X7:Nat->Th->Th×(List (Int×Bool)×Int)
 | 0,s=>(s,([],0))
 | n+1,s=>if XW s=4 then (s,([],0)) else if XW s≠0 then (s,([],XW s)) else ((X7 n (Ya s)).1,(aN s::(X7 n (Ya s)).2.1,(X7 n (Ya s)).2.2))
theorem ZH {s:Th} : ∀ {l:List Int} {d:Int},YT s l=some d -> ∃ p q,l=p++d::q/\(Xr false (λs j=>(Wo s.1 j,0)) s d).1=true /\ ∀ x∈p,¬ (Xr false (λs j=>(Wo s.1 j,0)) s x).1=true
 | [],_,h=>by cases h
 | x::l,d,h=>by
  unfold YT at h;split at h
  ·rename_i a;cases h;exact ⟨[],l,rfl,a,λ_ h=>by cases h⟩
  ·rename_i a;obtain ⟨p,q,rfl,b,c⟩:=ZH h
   exact ⟨x::p,q,rfl,b,λy hy=>by
    rcases en.1 hy with rfl | hy
    ·exact a
    ·exact c y hy⟩
theorem cm {s:Th} (v:VSt s):((Xl s).2=4/\s.2.1=[])\/(Xl s).2=9\/((Xl s).2=0/\(Xl s).1∈Tp 0 s.1.2):=by
 have a:(Tj s).2=0:=UD.2 v;unfold Xl;rw [if_neg (by simp [a])];by_cases h:Tp 0 s.1.2=[]
 ·rw [if_pos h];refine .inl ⟨rfl,?_⟩;have:=v.due;rw [h] at this;simpa using this
 ·rw [if_neg h];cases hc:YT s (Tp 0 s.1.2) with
  | none=>exact .inr (.inl rfl)
  | some d =>
   obtain ⟨p,q,e,_⟩:=ZH hc;exact .inr (.inr ⟨rfl,by rw [e];simp⟩)
theorem iR {s0 s:Th} (g:Gd s0 s) (e:XW s=0):(Xl s).2=0/\(Xl s).1∈Tp 0 s.1.2/\(Xo s (Xl s).1).2.2=0:=by
 unfold XW at e;rcases cm g.1 with h | h | h
 ·rw [if_pos (by rw [h.1];decide),h.1] at e;cases e
 ·rw [if_pos (by rw [h];decide),h] at e;cases e
 ·rw [if_neg (by simp [h.1])] at e;exact ⟨h.1,h.2,e⟩
theorem X5 {s0 s:Th} (g:Gd s0 s) (e:XW s=0) : ∃ (n:Nat) (j:Job),(aN s).1=(n:Int)/\n<12/\JobAt s.1 n j/\Wo s.1 j=true/\StepF s n j (Ya s) (aN s).2/\Gd s0 (Ya s):=by
 obtain ⟨_,a,b⟩:=iR g e;exact dC g a b
theorem eZ {s0 s:Th} {N:Nat} (g:Gd s0 s) (a:Uf s.1.2.flatten<=N) (e:XW s=0):oB N (Ya s)+1<=oB N s/\Uf (Ya s).1.2.flatten<=N:=by
 obtain ⟨n,j,_,d,c,_,F,_⟩:=X5 g e;refine ⟨iV g.1 a d c F,?_⟩;by_cases b:0<UL s.1 j
 ·rw [(F.read b).2.1];exact a
 ·rw [(F.inst (by omega)).2.1];exact s7 (bO g.1 (ap g.2.2) c b) a
def rG (u:cS) (x:Int×Bool):cS:=(SE .i64 u.1 1,(u.2.1,(if x.2=true then SE .i64 u.2.2.1 1 else u.2.2.1,xV u.2.2.2 x.1.toNat x.1.toNat)))
def np (u:cS) (l:List (Int×Bool)):cS:=l.foldl rG u
end
section
open Go Sv
theorem xK {u:cS} {x:Int×Bool} (h:0<=u.1/\u.1<=1000000):(rG u x).1=u.1+1:=by
 show SE .i64 u.1 1=_;exact Sf (by omega)
def At (s0:Th) (g:Int) (T:Th×((List Int×cS)×Int)) (k:Nat) (s:Th) (l:List Int) (u:cS):Prop:=Gd s0 s/\0<=u.1/\u.1+k=g/\g<=1000000/\(l.length:Int)=u.1/\T=((X7 k s).1,((l++(X7 k s).2.1.map (·.1),np u (X7 k s).2.1),(X7 k s).2.2))
theorem At.step {s0 s:Th} {g:Int} {T:Th×((List Int×cS)×Int)} {k:Nat} {l:List Int} {u:cS} (a:At s0 g T (k+1) s l u) (e:XW s=0):At s0 g T k (Ya s) (l++[(aN s).1]) (rG u (aN s)):=by
 obtain ⟨c,h,i,d,j,f⟩:=a;obtain ⟨_,_,_,_,_,_,_,b⟩:=X5 c e;have m:=xK (x:=aN s) (show 0<=u.1/\u.1<=1000000 by omega);refine ⟨b,by omega,by omega,d,by simp;omega,?_⟩;rw [f];simp only [X7,e,ne_eq,not_true_eq_false,if_false,hI,List.append_assoc,List.cons_append,ol];rfl
theorem At.none {s0 s:Th} {g:Int} {T:Th×((List Int×cS)×Int)} {k:Nat} {l:List Int} {u:cS} (a:At s0 g T k s l u) (e:XW s=4):T=(s,((l,u),0)):=by
 rw [a.2.2.2.2.2];cases k<;>simp [X7,e,np]
theorem At.fail {s0 s:Th} {g:Int} {T:Th×((List Int×cS)×Int)} {k:Nat} {l:List Int} {u:cS} (a:At s0 g T (k+1) s l u) (c:XW s≠4) (b:XW s≠0):T=(s,((l,u),XW s)):=by
 rw [a.2.2.2.2.2];simp [X7,c,b,np]
theorem At.last {s0 s:Th} {g:Int} {T:Th×((List Int×cS)×Int)} {l:List Int} {u:cS} (a:At s0 g T 0 s l u):T=(s,((l,u),0)):=by
 rw [a.2.2.2.2.2];simp [X7,np]
end
section
open Go Sv
def yc (s:Th):Int×(List (List UK)×(List Job×Int)):=(s.1.1,(s.1.2,s.2))
end
end Go.Proofs.YtbahicnpiefmlaaGreatDoor.Pl
