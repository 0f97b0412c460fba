/- Functions of the program and of the specification as plain functions, and laws about them. No condition. -/
import Derived.Test.YtfipnhjfbebeiaaGreatDoorPl1
import Derived.KernelRfl
set_option linter.all false
open List renaming filter_cons->ya, find?_append->xw, find?_cons->hV, find?_some->ym, flatten_cons->kd, foldl_cons->iz, getElem?_eq_getElem->co, getElem?_eq_none->a9, getElem?_eq_some_iff->a8, getElem?_of_mem->en, getElem?_take->o3, getElem_mem->sk, length_append->hI, length_cons->ci, length_map->s6, length_nil->cP, length_pos_iff->ed, length_take->tw, map_cons->nb, map_map->Tf, mem_append->nP, mem_append_right->sr, mem_cons->ey, mem_flatten->l4, mem_map->ox, mem_map_of_mem->l5, mem_of_find?_eq_some->xa, mem_of_getElem?->bo, nil_append->oj, nodup_cons->ol, take_add_one->iP, take_of_length_le->eo
open Nat renaming add_comm->TT, add_mul->yo, le_refl->eb, le_trans->ul, mul_le_mul_right->s7, sub_le->x6, zero_add->ee
open Int renaming toNat_natCast->bl
open Option renaming filter->l6, getD_some->gM, none_or->tk, or_assoc->hM, toList_some->xr
namespace Go.Proofs.YtfipnhjfbebeiaaGreatDoor.Pl
section
open Go Sv
def zS:Th:=((0,[]),([],0))
def Ur (j:Job):List Tj:=j.2.2.2.1
def Ye (s:Th) (j:Job):Nat:=if Vx s.1 j=true then j.1.toNat else j.1.toNat+1
def Vi (s:Th) (j:Job):Tl:=if Ur j=[] then Us s.1 j.1.toNat [] else Us (Us s.1 j.1.toNat []) (Ye s j) (Tp (Us s.1 j.1.toNat []).2 (Ye s j)++[(s.2.2,Ur j)])
def YP (s:Th) (j:Job):Int:=if Ur j=[] then s.2.2 else s.2.2+1
def ZP (s:Th) (j:Job):Th×Int :=
 if 0<UA s.1 j\/WC s.1 j=false then (zS,9) else if s.2.2>1000000/\Ur j≠[] then (zS,5) else (ZF s (Vi s j) (YP s j) j.1,0)
theorem bO : ∀ (ls:List (List UO)) (i:Nat),(Tq i ls).Nodup /\ ∀ d∈Tq i ls,(i:Int)<=d
 | [],_=>⟨.nil,λ_ h=>by cases h⟩
 | rs::ls,i=>by
  obtain ⟨b,a⟩:=bO ls (i+1);rw [Yi];by_cases h:rs.length=2
  ·rw [if_pos h];refine ⟨ol.2 ⟨λc => ?_,b⟩,λd hd => ?_⟩
   ·have:=a _ c;omega
   ·rcases ey.1 hd with e | hd
    ·omega
    ·have:=a d hd;omega
  ·rw [if_neg h];exact ⟨b,λd hd=>by have:=a d hd;omega⟩
theorem VSt.nodup {s:Th} (v:VSt s):(s.2.1.map (·.1)).Nodup:=by rw [v.due];exact (bO _ _).1
theorem JobAt.out {L:Tl} {n:Nat} {j:Job} (h:JobAt L n j) (v:VLev L) (hs:(∀ r∈Tp L.2 n,r.2.length<=2000)):VL (Ur j)/\((Ur j).length:Int)<=2*Ux L.1 n/\j.1=(n:Int)/\n<12/\Tp L.2 n≠[]:=by
 obtain ⟨a,b,d,k,e,rfl,i,_,l,m⟩:=h;have c:Tp L.2 n=[a,b]:=by unfold Tp;rw [e];rfl
 have s:=hs a (by rw [c];simp);have t:=hs b (by rw [c];simp);have u:=((v.own n).2 a (by rw [c];simp)).le;have w:=((v.own n).2 b (by rw [c];simp)).le;obtain ⟨f,g⟩:=ka m l d i (by omega);have p:=(a8.1 e).1;have q:=v.len;refine ⟨f,?_,rfl,by omega,by rw [c];simp⟩
 have o:((Ur ((n:Int),VX b.2 a.2 d k)).length:Int)<=(b.2.length:Int)+(a.2.length:Int):=by
  have:(Ur ((n:Int),VX b.2 a.2 d k)).length<=b.2.length+a.2.length:=g;omega
 omega
def jz (L:Tl):Prop := ∀ i,∀ r∈Tp L.2 i,r.2.length<=2000
structure InstF (s:Th) (n:Nat) (j:Job):Prop where
 l1:VLev (Us s.1 n [])
 to12:Ur j≠[]->Ye s j<12
 vr:Ur j≠[]->VR (Ux s.1.1 (Ye s j)) (s.2.2,Ur j)
 id : ∀ y∈(Us s.1 n []).2.flatten,y.1≠s.2.2
 room:Ur j≠[]->(Tp (Us s.1 n []).2 (Ye s j)).length<2
 lev:VLev (Vi s j)
theorem gY {s:Th} (v:VSt s) (A:jz s.1) {n:Nat} {j:Job} (z:JobAt s.1 n j) (G : ¬ 0<UA s.1 j) (hc:WC s.1 j=true) (x:Ur j≠[]->s.2.2<=1000000):InstF s n j:=by
 obtain ⟨C,D,E,t,I⟩:=z.out v.lev (A n);have a:=v.lev.leave (n:=n) t;have e:j.1.toNat=n:=by rw [E];simp
 have b:Vx s.1 j≠true->n+1<12/\(Tp s.1.2 (n+1)).length<2:=λhs=>by
  unfold WC at hc;rw [show decide (0<UA s.1 j)=false by simp;omega,e] at hc;cases o:Vx s.1 j with
  | true=>exact absurd o hs
  | false =>
   rw [o] at hc;simpa [ZR,Tp] using hc
 have d : ∀ y∈(Us s.1 n []).2.flatten,y.1≠s.2.2:=λy r=>by
  obtain ⟨p,q,i,k⟩:=X4 s.1 n [];rw [k,oj] at r
  have B:y∈s.1.2.flatten:=by
   rw [i];rcases nP.1 r with h | h
   ·exact List.mem_append_left _ h
   ·exact sr _ (sr _ h)
  have:=Zp B;have:=v.n3;omega
 have m:Ye s j<12/\(Tp (Us s.1 n []).2 (Ye s j)).length<2/\((Ur j).length:Int)<=Ux s.1.1 (Ye s j):=by
  unfold Ye;by_cases hs:Vx s.1 j=true
  ·rw [if_pos hs,e];refine ⟨t,by rw [Wy,if_pos rfl];simp,?_⟩;have c:=hs;unfold Vx at c;rw [e] at c;exact of_decide_eq_true c
  ·rw [if_neg hs,e];obtain ⟨i,k⟩:=b hs;refine ⟨i,by rw [Wy,if_neg (by omega)];exact k,?_⟩;rw [bh];exact D
 obtain ⟨u,w,F⟩:=m;have g:Ur j≠[]->VR (Ux s.1.1 (Ye s j)) (s.2.2,Ur j):=λf=>⟨v.n1,x f,C,f,F⟩;refine ⟨a,λ_=>u,g,d,λ_=>w,?_⟩;unfold Vi;rw [e];by_cases l:Ur j=[]
 ·rw [if_pos l];exact a
 ·rw [if_neg l];exact a.arrive u w (g l) d
theorem bR {s:Th} (v:VSt s) (u:jz s.1) {n:Nat} {j:Job} (t:JobAt s.1 n j) (w : ¬ 0<UA s.1 j) (hc:WC s.1 j=true) (y:Ur j≠[]->s.2.2<=1000000) (l:Int) :
  (bd (Vo (s.1,(n:Int))) λd=>br (Oa d.2.2 0) (λ_=>br (S6 (Ki (AS j.2.2.2.1)) 0) (λ_=>bd (UW (s,(j,l))) λK=>br (Hg K) (λ_=>bd (UY ((d.1,(SF .i64 (n:Int) 1,(s.2.2,j.2.2.2.1))))) λm=>br (Ry m.2 0) (λ_=>some ((((0,[]),([],0)),m.2))) λ_=>bd (UN ((s,(m.1,(SF .i64 s.2.2 1,(n:Int)))))) λL=>some L) λ_=>bd (UY ((d.1,((n:Int),(s.2.2,j.2.2.2.1))))) λo=>br (Ry o.2 0) (λ_=>some ((((0,[]),([],0)),o.2))) λ_=>bd (UN ((s,(o.1,(SF .i64 s.2.2 1,(n:Int)))))) λM=>some M) λ_=>br (Ry d.2.2 0) (λ_=>some ((((0,[]),([],0)),d.2.2))) λ_=>bd (UN ((s,(d.1,(s.2.2,(n:Int)))))) λN=>some N) λ_=>br (Ry d.2.2 0) (λ_=>some ((((0,[]),([],0)),d.2.2))) λ_=>bd (UN ((s,(d.1,(s.2.2,(n:Int)))))) λk=>some k)
  = some (ZF s (Vi s j) (YP s j) j.1,0):=by
 have F:=gY v u t w hc y;obtain ⟨G,O,g,I,J⟩:=t.out v.lev (u n);have i:j.1.toNat=n:=by rw [g];simp
 have D:=v.n2;have C:=v.n1;have A:=v.jsmall;have a:=F.lev;rw [eC v.lev J,Sx];show (br (Oa 0 0) _ _)=_;rw [TK,if_pos rfl,To,Tn,TM];by_cases b:Ur j=[]
 ·rw [if_neg (show ¬ ((j.2.2.2.1.length:Int)>0) by rw [show j.2.2.2.1=[] from b];simp),TQ,if_pos rfl];unfold Vi at a ⊢;rw [if_pos b,i] at a;rw [if_pos b,i,aG v.nodup (by omega) a,Sx];unfold YP;rw [if_pos b,g]
 ·rw [if_pos (show ((j.2.2.2.1.length:Int)>0) by have:=ed.2 b;have h:(Ur j).length=j.2.2.2.1.length:=rfl;omega),bF v.lev g I,Sx,UQ];have E:(Ur j).length<=1048576:=by have:=G.len;omega
  have B:kR [] (Ux (Us s.1 n []).1 (Ye s j)) (s.2.2,Ur j)=0:=kQ.2 ⟨F.vr b,by simp⟩;have f:=dB F.l1 (F.to12 b) (x:=(s.2.2,Ur j)) E F.id (F.room b);rw [if_neg (by simp [B])] at f
  have z:Vi s j=Us (Us s.1 n []) (Ye s j) (Tp (Us s.1 n []).2 (Ye s j)++[(s.2.2,Ur j)]):=by
   unfold Vi;rw [if_neg b,i]
  have q:YP s j=s.2.2+1:=by unfold YP;rw [if_neg b]
  rw [<- z] at f;have p:SF .i64 s.2.2 1=s.2.2+1:=Sh (by omega);have r:=aG v.nodup (by omega) a (s.2.2+1) (n:Int);rw [TV];have c:Ye s j=if Vx s.1 j=true then n else n+1:=by unfold Ye;rw [i]
  by_cases hs:Vx s.1 j=true
  ·rw [if_pos hs] at c ⊢;rw [c] at f;have e:UY (Us s.1 n [],((n:Int),(s.2.2,j.2.2.2.1)))=some (Vi s j,0):=f;rw [e,Sx,TQ,if_pos rfl,p,r,Sx,q,g]
  ·rw [if_neg hs] at c ⊢;rw [c] at f;rw [Tu (by omega)];have e:UY (Us s.1 n [],(((n+1:Nat):Int),(s.2.2,j.2.2.2.1)))=some (Vi s j,0):=f;rw [e,Sx,TQ,if_pos rfl,p,r,Sx,q,g]
theorem dm {s:Th} (m:Sm s) (k:jz s.1) (a:Int):WD (s,a)=some (Wb zS ZP s a):=by
 unfold WD;rw [cb m,Sx];unfold Wb;by_cases b:(Tk s).2=0;rotate_left
 ·rw [if_pos b,TQ,if_neg b,if_pos b];rfl
 rw [if_neg (show ¬ (Tk s).2≠0 by simp [b]),if_neg (show ¬ (Tk s).2≠0 by simp [b])];have v:=Ts.1 b;unfold aM;cases p:Zh a 0 (Tq 0 s.1.2) with
 | none=>rfl
 | some i =>
  obtain ⟨j,n,l,o,f,g,q⟩:=v.at p;have:=v.lev.len;subst o;simp only [l];unfold UJ ZP;rw [TQ,if_pos rfl,Sx,TM];by_cases e:0<UA s.1 j
  ·rw [if_pos (show ((UA s.1 j:Int))>0 by omega),if_pos (.inl e)];rfl
  rw [if_neg (show ¬ ((UA s.1 j:Int))>0 by omega),bq v.lev f (by omega) _ rfl,Sx,UQ,TV];by_cases hc:WC s.1 j=true;rotate_left
  ·rw [if_neg hc,if_pos (.inr (by simpa using hc))];rfl
  rw [if_pos hc,if_neg (show ¬ (0<UA s.1 j\/WC s.1 j=false) by rw [hc];simp;omega),TM];by_cases d:s.2.2>1000000
  ·rw [if_pos d,To,Tn,TM];by_cases c:Ur j=[]
   ·rw [if_neg (show ¬ ((j.2.2.2.1.length:Int)>0) by rw [show j.2.2.2.1=[] from c];simp),if_neg (by simp [c])];exact bR v k g e hc (λh=>absurd c h) _
   ·rw [if_pos (show ((j.2.2.2.1.length:Int)>0) by have:=ed.2 c;have h:(Ur j).length=j.2.2.2.1.length:=rfl;omega),if_pos ⟨d,c⟩];rfl
  ·rw [if_neg d,if_neg (by simp [d])];exact bR v k g e hc (λh=>by omega) _
end
section
open Go Sv
def Yv (L:Tl) (j:Job):Xm:=match Tp L.2 j.1.toNat with
 | [r0,r1]=>VX r1.2 r0.2 j.2.2.1.2.2 (j.2.2.2.2.toNat+1)
 | _=>j.2
def Zu (s:Th) (j:Job):Th:=(s.1,(lset s.2.1 ((Zh j.1 0 (Tq 0 s.1.2)).getD 0) (j.1,Yv s.1 j),s.2.2))
theorem kn {s:Th} (m:Sm s) (v:VSt s) {a:Int} {i:Nat} (h:Zh a 0 (Tq 0 s.1.2)=some i) {j:Job} (e:s.2.1[i]? = some j) (t:0<UA s.1 j):YH (s,(a,1))=some (Zu s j,(1,0)):=by
 obtain ⟨j',n,f,y,u,q,D⟩:=v.at h;rw [e] at f;cases f;subst y;have r:(Tk s).2=0:=Ts.2 v
 have l:YF s (n:Int)=((i:Int),0):=by
  unfold YF;rw [if_neg (show ¬ (Tk s).2≠0 by simp [r]),h]
 have w:=v.jsmall;have hi:=(a8.1 e).1;unfold YH;rw [uK m,Sx,TQ,if_pos r,TP,if_neg (show ¬ ((1:Int)<0) by omega),bz m,Sx,l,TQ,if_pos rfl,Ti,TC e,(JobAt.left q).1,Sx,TK,if_neg (show ¬ ((UA s.1 j:Int)=0) by omega),Ti,TC e];obtain ⟨b,c,d,k,p,rfl,x,C,A,B⟩:=q;have z:Tp s.1.2 n=[b,c]:=by unfold Tp;rw [p];rfl
 have o:UA s.1 ((n:Int),VX c.2 b.2 d k)=c.2.length+b.2.length-k:=by
  unfold UA;simp only [bl,p];show c.2.length+b.2.length-((k:Int)).toNat=_;rw [bl]
 rw [o] at t;have g:=bj B A d x (k:=1);rw [show min 1 (c.2.length+b.2.length-k)=1 by omega] at g;show (bd (Ut (VX c.2 b.2 d k,((1:Nat):Int))) λE=>_)=_;rw [g,Sx];simp only;rw [TQ,if_pos rfl];unfold UV;rw [Ud (by simp only [AS];omega),Sx,Ti,S3,if_pos (by simp only [AS];exact hi),TC e];unfold Zu Yv;simp only [bl,z,h,gM];have e1:(VX c.2 b.2 d k).2.1.2.2=d:=aT _ _ _ _;have e2:(VX c.2 b.2 d k).2.2.2.toNat=k:=by show ((k:Int)).toNat=k;rw [bl]
 rw [e1,e2];rfl
def YM (s:Th) (j:Job):Th×(Bool×Int):=if WC s.1 j=false then (zS,(false,9)) else if 0<UA s.1 j then (Zu s j,(false,0)) else ((ZP s j).1,(Oa (ZP s j).2 0,(ZP s j).2))
def Wa (s:Th) (a:Int):Th×(Bool×Int):=if (Tk s).2≠0 then (zS,(false,(Tk s).2)) else match aM s a with
 | some j=>YM s j
 | none=>(zS,(false,4))
theorem bn {s:Th} (m:Sm s) (g:jz s.1) (a:Int):Uu (s,a)=some (Wa s a):=by
 unfold Uu;rw [cb m,Sx,dm m g];unfold Wb Wa;by_cases b:(Tk s).2=0;rotate_left
 ·rw [if_pos b,TQ,if_neg b,if_pos b];rfl
 rw [if_neg (show ¬ (Tk s).2≠0 by simp [b]),if_neg (show ¬ (Tk s).2≠0 by simp [b]),if_neg (show ¬ (Tk s).2≠0 by simp [b])];have v:=Ts.1 b;unfold aM;cases f:Zh a 0 (Tq 0 s.1.2) with
 | none=>rfl
 | some i =>
  obtain ⟨j,n,e,k,d,h,l⟩:=v.at f;have:=v.lev.len;simp only [e];unfold YM UJ;rw [TQ,if_pos rfl,bq v.lev d (by omega) _ rfl,Sx,UQ,TV];cases hc:WC s.1 j with
  | false=>rw [if_neg (by simp),if_pos rfl];rfl
  | true =>
   rw [if_pos rfl,if_neg (by simp),Sx,TM];by_cases c:0<UA s.1 j
   ·rw [if_pos (show ((UA s.1 j:Int))>0 by omega),if_pos c,kn m v f e c];rfl
   ·rw [if_neg (show ¬ ((UA s.1 j:Int))>0 by omega),if_neg c];rfl
end
section
open Go Sv
theorem cK {ls:List (List UO)} {d:Int} (h:d∈Tq 0 ls) : ∃ (n:Nat) (a b:UO),d=(n:Int)/\ls[n]? = some [a,b]:=by
 obtain ⟨k,f⟩:=en h;obtain ⟨n,c,a,b,e⟩:=X3 f;exact ⟨n,a,b,by rw [c,ee],e⟩
theorem cv {l:List (List UO)} {n:Int} (i:0<n) (h : ∀ x∈l.flatten,x.1<n):WX l<n:=by
 have f : ∀ (rs:List UO) (m:Int),m<n->(∀ x∈rs,x.1<n)->rs.foldl (λm r=>TY m r.1) m<n:=by
  intro rs
  induction rs with
  | nil=>intro m b _;exact b
  | cons r rs e =>
   intro m b c;rw [iz];refine e _ ?_ λx d=>c x (by simp [d]);rw [XH];have:=c r (by simp);omega
 have two : ∀ (ls:List (List UO)) (m:Int),m<n->(∀ rs∈ls,∀ x∈rs,x.1<n)->ls.foldl (λm rs=>rs.foldl (λm r=>TY m r.1) m) m<n:=by
  intro ls
  induction ls with
  | nil=>intro m b _;exact b
  | cons rs ls e =>
   intro m b c;rw [iz];exact e _ (f rs m b (c rs (by simp))) λg a=>c g (by simp [a])
 exact two l 0 i λrs a x d=>h x (l4.2 ⟨rs,a,d⟩)
theorem qD {l:List (List UO)} (e:l.getLast? ≠ some []) {n:Nat} (a:Tp l n≠[]) (b : ∀ i,n<i->Tp l i=[]):l.length=n+1:=by
 have f:n<l.length:=by
  by_cases h:n<l.length
  ·exact h
  ·unfold Tp at a;rw [a9 (by omega)] at a;exact absurd rfl a
 by_cases c:l.length=n+1
 ·exact c
 ·exfalso;have d:=b (l.length-1) (by omega);refine e ?_;rw [List.getLast?_eq_getElem?,WF (by omega),d]
theorem d8 {js:List Job} {d:Int} {j:Job} (h:Um js d=some j):j∈js/\j.1=d:=by
 unfold Um at h;have a:=ym h;unfold cD at a;rw [Vq] at a;exact ⟨xa h,(of_decide_eq_true a).symm⟩
theorem kA {L:Tl} (v:VLev L) {n:Nat} {b c:UO} (h:L.2[n]? = some [b,c]):JobAt L n (Wc L (n:Int)):=by
 have a:Tp L.2 n=[b,c]:=by unfold Tp;rw [h];rfl
 refine ⟨b,c,decide ((n:Int)=(L.2.length:Int)-1),0,h,?_,Nat.zero_le _,λhd => ?_,VR.vl' v (n:=n) (by rw [a];simp),VR.vl' v (n:=n) (by rw [a];simp)⟩
 ·unfold Wc;rw [bl,a]
 ·have:=of_decide_eq_true hd;have:=(a8.1 h).1;omega
theorem pk {s:Th} (v:VSt s) {L:Tl} (t:VLev L) {next a:Int} (E:1<=next) (F:next<=1000001) (G : ∀ x∈L.2.flatten,x.1<next)
  (I : ∀ (n:Nat) (f g:UO),s.1.2[n]? = some [f,g]->(n:Int)≠a->(∃ p q,L.2[n]? = some [p,q])->L.2[n]? = some [f,g]/\(n+1=s.1.2.length->n+1=L.2.length)):VSt (ZF s L next a):=by
 have b : ∀ d∈Tq 0 L.2,(Wi s L a d).1=d /\ ∃ n,JobAt L n (Wi s L a d):=λd hd=>by
  obtain ⟨n,p,q,rfl,r⟩:=cK hd;unfold Wi;cases i:(if (n:Int)=a then none else Um s.2.1 (n:Int)) with
  | none =>
   rw [Option.getD_none];have h:=kA t r;refine ⟨?_,n,h⟩;obtain ⟨_,_,_,_,_,e,_⟩:=h;rw [e]
  | some j =>
   rw [gM];by_cases l:(n:Int)=a
   ·rw [if_pos l] at i;cases i
   rw [if_neg l] at i;obtain ⟨o,c⟩:=d8 i;refine ⟨c,n,?_⟩;obtain ⟨m,f,g,D,k,u,rfl,w,y,z,A⟩:=v.job j o;have J:m=n:=by have:(m:Int)=(n:Int):=c;omega
   subst J;obtain ⟨B,C⟩:=I m f g u l ⟨p,q,r⟩;exact ⟨f,g,D,k,B,rfl,w,λh=>C (y h),z,A⟩
 refine ⟨t,E,F,cv (by show 0<next;omega) G,?_,λj o => ?_⟩
 ·show ((Tq 0 L.2).map (Wi s L a)).map (·.1)=Tq 0 L.2;rw [Tf]
  conv=>rhs;rw [<- List.map_id (Tq 0 L.2)]
  exact List.map_congr_left λd hd=>(b d hd).1
 ·obtain ⟨d,hd,rfl⟩:=ox.1 o;exact (b d hd).2
theorem YK {l:List (List UO)} {n:Nat} {b c:UO}:l[n]? = some [b,c]<->Tp l n=[b,c]:=by
 unfold Tp;constructor
 ·intro h;rw [h];rfl
 ·intro h;cases a:l[n]? with
  | none=>rw [a] at h;cases h
  | some rs=>rw [a] at h;exact congrArg some h
theorem V1 {s:Th} {j:Job} {n:Nat} (b:j.1.toNat=n) (i:Nat):Tp (Vi s j).2 i=if Ur j≠[]/\i=Ye s j then (if i=n then [] else Tp s.1.2 i)++[(s.2.2,Ur j)] else if i=n then [] else Tp s.1.2 i:=by
 unfold Vi;rw [b];by_cases a:Ur j=[]
 ·rw [if_pos a,if_neg (by simp [a]),Wy]
 ·rw [if_neg a,Wy];by_cases hi:i=Ye s j
  ·rw [if_pos hi,if_pos ⟨a,hi⟩,Wy,<- hi]
  ·rw [if_neg hi,if_neg (by simp [hi]),Wy]
theorem kK {s:Th} (v:VSt s) (u:jz s.1) {n:Nat} {j:Job} (t:JobAt s.1 n j) (B : ¬ 0<UA s.1 j) (hc:WC s.1 j=true) (r:Ur j≠[]->s.2.2<=1000000):VSt (ZF s (Vi s j) (YP s j) j.1):=by
 have F:=gY v u t B hc r;obtain ⟨O,P,w,S,q⟩:=t.out v.lev (u n);have l:j.1.toNat=n:=by rw [w];simp
 have E:=v.n1;have G:=v.n2
 have k:s.2.2<=YP s j/\YP s j<=1000001/\(Ur j≠[]->s.2.2<YP s j):=by
  unfold YP;by_cases d:Ur j=[]
  ·rw [if_pos d];exact ⟨by omega,by omega,λh=>absurd d h⟩
  ·rw [if_neg d];have:=r d;exact ⟨by omega,by omega,λ_=>by omega⟩
 refine pk v F.lev (by omega) k.2.1 (λx L => ?_) (λm z A D C N => ?_)
 ·obtain ⟨i,hi⟩:=ak.1 L;rw [V1 l] at hi
  have b : ∀ {y:UO},y∈(if i=n then [] else Tp s.1.2 i)->y.1<YP s j:=fun {y} o=>by
   by_cases a:i=n
   ·rw [if_pos a] at o;cases o
   ·rw [if_neg a] at o;have:=Zp (ak.2 ⟨i,o⟩);have:=v.n3;omega
  split at hi
  ·rename_i hh;rcases nP.1 hi with hi | hi
   ·exact b hi
   ·rw [List.mem_singleton.1 hi];exact k.2.2 hh.1
  ·exact b hi
 ·have f:m≠n:=λe=>C (by rw [w,e]);have g:Tp s.1.2 m=[z,A]:=YK.1 D
  have p : ¬ (Ur j≠[]/\m=Ye s j):=λ⟨d,J⟩=>by
   have:=F.room d;rw [Wy,<- J,if_neg f,g] at this;simp at this
  have c:Tp (Vi s j).2 m=[z,A]:=by rw [V1 l,if_neg p,if_neg f,g]
  refine ⟨YK.2 c,λM=>(qD F.lev.last (by rw [c];simp) λi hi => ?_).symm⟩;have a:Tp s.1.2 i=[]:=by unfold Tp;rw [a9 (by omega)];rfl
  have I:n<s.1.2.length:=by
   by_cases h:n<s.1.2.length
   ·exact h
   ·unfold Tp at q;rw [a9 (by omega)] at q;exact absurd rfl q
  have K:Ye s j<=n+1:=by unfold Ye;rw [l];split<;>omega
  rw [V1 l,if_neg (by rintro ⟨_,h⟩;omega),a];split<;>rfl
theorem Job.steps {L:Tl} {n:Nat} {j:Job} (f:JobAt L n j) (h:0<UA L j):JobAt L n (j.1,Yv L j):=by
 obtain ⟨a,b,c,k,d,rfl,o,g,l,m⟩:=f;have i:=YK.1 d
 have e:UA L ((n:Int),VX b.2 a.2 c k)=b.2.length+a.2.length-k:=by
  unfold UA;simp only [bl,d];show b.2.length+a.2.length-((k:Int)).toNat=_;rw [bl]
 rw [e] at h;refine ⟨a,b,c,k+1,d,?_,by omega,g,l,m⟩;unfold Yv;simp only [bl,i];have e1:(VX b.2 a.2 c k).2.1.2.2=c:=aT _ _ _ _;have e2:(VX b.2 a.2 c k).2.2.2.toNat=k:=by show ((k:Int)).toNat=k;rw [bl]
 rw [e1,e2]
theorem ko {s:Th} (v:VSt s) {j:Job} {i n:Nat} (e:Zh j.1 0 (Tq 0 s.1.2)=some i) (a:s.2.1[i]? = some j) (d:JobAt s.1 n j) (c:0<UA s.1 j):VSt (Zu s j):=by
 unfold Zu;rw [e,gM];refine ⟨v.lev,v.n1,v.n2,v.n3,?_,λx hx => ?_⟩
 ·show (s.2.1.set i (j.1,Yv s.1 j)).map (·.1)=_;rw [<- v.due,List.map_set];refine List.ext_getElem? λk => ?_;rw [List.getElem?_set];by_cases b:i=k
  ·subst b;have hi:=(a8.1 a).1;rw [if_pos rfl,s6,if_pos hi,List.getElem?_map,a];rfl
  ·rw [if_neg b]
 ·rcases List.mem_or_eq_of_mem_set hx with hx | hx
  ·exact v.job x hx
  ·rw [hx];exact ⟨n,Job.steps d c⟩
end
section
open Go Sv
theorem qt {B:Int} {M:List (List UO)} {f:(Int×List (List UO))->Option (LR (Int×List (List UO)) (Nat×((Int×List (List UO))×Unit)))} (a:f (B,[])=some (.dn (0,((B,[]),())))) (hs : ∀ k,k<M.length->f (B,M.take (k+1))=if Tp M k=[] then some (.nx (B,M.take k)) else some (.dn (0,((B,M.take (k+1)),())))) : ∀ k,k<=M.length->IL (k+1) f (B,M.take k)=some (0,((B,M.take (Yh M k)),()))
 | 0,_=>by rw [List.take_zero];exact US a
 | k+1,hk=>by
  have h:=hs k (by omega);unfold Yh;by_cases b:Tp M k=[]
  ·rw [if_pos b] at h ⊢;rw [UK h];exact qt a hs k (by omega)
  ·rw [if_neg b] at h ⊢;exact US h
theorem pW {M:List (List UO)} {k:Nat} (h:k<M.length):M.take (k+1)=M.take k++[Tp M k]:=by
 rw [iP,WF h];rfl
theorem dK {L:Tl} (s:L.2.length<=1000) {n:Nat} (u:n<1000) {r:List UO} (l:r.length<=1048576) (o : ∀ i,(Tp L.2 i).length<=1048576):VK (L,((n:Int),r))=some (Us L n r):=by
 have t:(Wt L.2 n r).length=max L.2.length (n+1):=by unfold Wt;rw [List.length_set,ZC]
 unfold VK;simp only [To,Tn];refine UH (X9 (r:=(0,((((max L.2.length (n+1):Nat):Int),(L.1,Wt L.2 n r)),()))) (λk=>((k:Int),(L.1,(Wt L.2 n r).take k))) (max L.2.length (n+1)) (by simp) (by omega) (λk j => ?_) ?_) ?_
 ·have c:((Wt L.2 n r).take k).length=k:=by rw [tw];omega
  simp only [c];rw [pW (by omega),dL,Tu (by omega),TP];by_cases g:k<L.2.length
  ·rw [if_pos (by omega),TL,if_neg (by omega),Ti,TC (WF g),TK];by_cases a:k=n
   ·rw [if_pos (by omega),if_pos a,Ud l,Ud (by simp only [BF,ci,cP];omega)];rfl
   ·rw [if_neg (by omega),if_neg a,Ud (o k),Ud (by simp only [BF,ci,cP];omega)];rfl
  ·rw [if_neg (by omega),TN,if_pos (by omega),TL,if_pos (by omega),TK];by_cases a:k=n
   ·rw [if_pos (by omega),if_pos a,Ud l,Ud (by simp only [BF,ci,cP];omega)];rfl
   ·rw [if_neg (by omega),if_neg a,Ud (by simp only [BF,ci,cP];omega)];have:Tp L.2 k=[]:=by unfold Tp;rw [a9 (by omega)];rfl
    rw [this];rfl
 ·have c:(Wt L.2 n r).take (max L.2.length (n+1))=Wt L.2 n r:=eo (by omega);simp only;rw [TP,if_neg (by omega),TN,if_neg (by omega),c]
 ·have d:=qt (B:=L.1) (M:=Wt L.2 n r) (f:=λb=>br (S6 (b.2.length:Int) 0) (λ_=>R1 (SK .i64 (b.2.length:Int) 1) λp=>ix b.2 p λq=>br (Oa (q.length:Int) 0) (λ_=>R1 (SK .i64 (b.2.length:Int) 1) λh=>gd (CF h b.2.length) λ_=>gd (CF 0 h) λ_=>some (.nx (b.1,D0 b.2 0 h))) λ_=>some (.dn ((0,(b,()))))) λ_=>some (.dn ((0,(b,()))))) rfl (λk j=>by
   have c:((Wt L.2 n r).take (k+1)).length=k+1:=by rw [tw];omega
   have hi:SK .i64 ((k+1:Nat):Int) 1=(k:Int):=by rw [Sj (by omega)];omega
   have m:((Wt L.2 n r).take (k+1))[k]? = some (Tp (Wt L.2 n r) k):=by rw [o3,if_pos (by omega),WF j]
   simp only [c,hi];rw [TM,if_pos (by omega),Ti,TC m,cE];by_cases e:Tp (Wt L.2 n r) k=[]
   ·rw [if_pos e,if_pos e,Ti,Ud (by omega),Ud (by omega)]
    have:D0 ((Wt L.2 n r).take (k+1)) 0 k=(Wt L.2 n r).take k:=by
     unfold D0;rw [List.drop_zero,Nat.sub_zero,List.take_take];congr 1;omega
    rw [this]
   ·rw [if_neg e,if_neg e]) _ (eb _)
  rw [eo (eb _)] at d;exact UH (Uz (by omega) d) rfl
end
section
open Go Sv
theorem iV {s:Th} (m:Sm s) (v:VSt s) {a:Int} {i:Nat} (h:Zh a 0 (Tq 0 s.1.2)=some i) {j:Job} (e:s.2.1[i]? = some j) (t:0<UA s.1 j):XD (s,(a,1))=some (Zu s j,(1,0)):=by
 obtain ⟨j',n,f,z,w,u,E⟩:=v.at h;rw [e] at f;cases f;subst z;have l:(Tk s).2=0:=Ts.2 v
 have o:YF s (n:Int)=((i:Int),0):=by
  unfold YF;rw [if_neg (show ¬ (Tk s).2≠0 by simp [l]),h]
 have q:Wb (0:Int) (λs j=>((UA s.1 j:Int),0)) s (n:Int)=((UA s.1 j:Int),0):=by
  unfold Wb aM;rw [if_neg (show ¬ (Tk s).2≠0 by simp [l]),h];simp only [e]
 have x:=v.jsmall;have hi:=(a8.1 e).1;unfold XD;rw [qR m,Sx,TK,if_pos l,TP,if_neg (show ¬ ((1:Int)<0) by omega),TQ,if_pos l,Yb m,q,Sx,TK,if_pos rfl,TK,if_neg (show ¬ ((UA s.1 j:Int)=0) by omega),TQ,if_pos rfl,ZD m,o,Sx,Ti,TC e];obtain ⟨b,c,d,k,r,rfl,y,D,B,C⟩:=u;have A:Tp s.1.2 n=[b,c]:=by unfold Tp;rw [r];rfl
 have p:UA s.1 ((n:Int),VX c.2 b.2 d k)=c.2.length+b.2.length-k:=by
  unfold UA;simp only [bl,r];show c.2.length+b.2.length-((k:Int)).toNat=_;rw [bl]
 rw [p] at t;have g:=bB C B d y (k:=1);rw [show min 1 (c.2.length+b.2.length-k)=1 by omega] at g;show (bd (UI (VX c.2 b.2 d k,((1:Nat):Int))) λF=>_)=_;rw [g,Sx];simp only;rw [Ud (by simp only [AS];omega),Ti,S3,if_pos (by simp only [AS];exact hi),TC e];unfold Zu Yv;simp only [bl,A,h,gM];have e1:(VX c.2 b.2 d k).2.1.2.2=d:=aT _ _ _ _;have e2:(VX c.2 b.2 d k).2.2.2.toNat=k:=by show ((k:Int)).toNat=k;rw [bl]
 rw [e1,e2];rfl
theorem iT {L:Tl} (v:VLev L) {n:Nat} (h:(Tp L.2 n).length=2):Un (L,(n:Int))=some (Wc L n,0):=by
 have d:n<L.2.length:=by
  by_cases e:n<L.2.length
  ·exact e
  ·unfold Tp at h;rw [a9 (by omega)] at h;cases h
 have i:=v.len;obtain ⟨f,g⟩:=v.small;unfold Un;simp only [To,Tn];rw [eM _ f g,WY v,Sx,TK,if_pos rfl,TP,if_neg (by omega),TL,if_neg (by omega),TK,if_pos rfl,TL,if_neg (by omega),Ti,TC (WF d),TP,if_neg (by omega),TQ,if_pos rfl,az v d,Sx]
 obtain ⟨b,c,a⟩ : ∃ b c,Tp L.2 n=[b,c]:=by
  match hq:Tp L.2 n with
  | [b,c]=>exact ⟨b,c,rfl⟩
  | []=>rw [hq] at h;cases h
  | [_]=>rw [hq] at h;cases h
  | _::_::_::_=>rw [hq] at h;simp at h
 rw [bc _ (by rw [WF d,a]) (VR.vl' v (n:=n) (by rw [a];simp)) (VR.vl' v (n:=n) (by rw [a];simp)),Sx];unfold Wc;rw [bl,a]
theorem cR (l:List Tj) (c:l.length<=9223372036854775807):WU (l,l)=some true:=by
 unfold WU;simp only [To,Tn];refine UH (X9 (r:=(1,(((l.length:Int),false),()))) (λk=>((k:Int),false)) l.length rfl (by omega) (λk a => ?_) (by simp only;rw [re];rfl)) ?_
 ·have b:l[k]? = some l[k]:=co a;simp only;rw [rl a,Sc,Sc,Ti,TC b,Ti,TC b,aZ,if_pos rfl,Tu (by omega)]
 ·rw [Sy,if_neg (show ¬ (1=0) by omega)];unfold Oa;simp
theorem dg (r:UO) (a:r.2.length<=9223372036854775807):Wm (r,r)=some true:=by
 unfold Wm;rw [TK,if_pos rfl,cR _ a];rfl
theorem cS (l:List UO) (c:l.length<=1048576) (h : ∀ r∈l,r.2.length<=9223372036854775807):WV (l,l)=some true:=by
 unfold WV;simp only [To,Tn];rw [TQ,if_pos rfl];refine UH (X9 (r:=(1,(((l.length:Int),false),()))) (λk=>((k:Int),false)) l.length rfl (by omega) (λk a => ?_) (by simp only;rw [re];rfl)) rfl;have b:l[k]? = some l[k]:=co a;simp only;rw [rl a,Sc,Ti,TC b,Ti,TC b,dg _ (h _ (sk a)),Sx,ZW,R7,Tu (by omega)]
theorem de (L:Tl) (e:L.2.length<=1048576) (d : ∀ rs∈L.2,rs.length<=1048576 /\ ∀ r∈rs,r.2.length<=9223372036854775807):Xx (L,L)=some true:=by
 unfold Xx;simp only [To,Tn];rw [TQ,if_pos rfl,TQ,if_pos rfl];refine UH (X9 (r:=(1,(((L.2.length:Int),false),()))) (λk=>((k:Int),false)) L.2.length rfl (by omega) (λk b => ?_) (by simp only;rw [re];rfl)) rfl;have c:L.2[k]? = some L.2[k]:=co b;have a:=d _ (sk b);simp only;rw [rl b,Sc,Ti,TC c,Ti,TC c,cS _ a.1 a.2,Sx,ZW,R7,Tu (by omega)]
theorem db {L:Tl} {n:Nat} {j:Job} (h:JobAt L n j):Wn (j,j)=some true:=by
 obtain ⟨l,m,a,k,_,rfl,b,_,g,i⟩:=h;obtain ⟨s1,s2,c,d,e,f⟩:=Z1 i g a b;unfold Wn;rw [TK,if_pos rfl,aw _ _ s1 s2 c d e f];simp [Sx]
theorem eR {t:Th} (v:VSt t):VM (t,t)=some true:=by
 have m:=v.sm;have d:=v.jsmall;unfold VM;simp only [To,Tn];rw [de _ m.lv m.rs,Sx,ZW,R7,TQ,if_pos rfl,TQ,if_pos rfl];refine UH (X9 (r:=(1,(((t.2.1.length:Int),false),()))) (λk=>((k:Int),false)) t.2.1.length rfl (by omega) (λk a => ?_) (by simp only;rw [re];rfl)) rfl;have b:t.2.1[k]? = some t.2.1[k]:=co a;obtain ⟨n,c⟩:=v.job _ (sk a);simp only;rw [rl a,Sc,Ti,TC b,Ti,TC b,db c,Sx,ZW,R7,Tu (by omega)]
theorem vH:VM (zS,zS)=some true:=by decide +kernel
end
section
open Go Sv
abbrev j0:=(Int×qM)
def cq (j:Job):j0:=(j.1,(j.2.1.1,(j.2.1.2.1,(j.2.1.2.2.1,(j.2.1.2.2.2.1,(j.2.1.2.2.2.2,(j.2.2.1.1,(j.2.2.1.2.1,(j.2.2.1.2.2,(j.2.2.2.1,j.2.2.2.2))))))))))
theorem iE (p:List Job) (x:Job) (d:Int):Um (p++[x]) d=(Um p d).or (if x.1=d then some x else none):=by
 unfold Um;rw [xw]
 congr 1
 rw [hV];unfold cD;rw [Vq];by_cases h:x.1=d
 ·rw [if_pos h,show decide (d=x.1)=true by simp [h]]
 ·rw [if_neg h,show decide (d=x.1)=false by simp;exact λe=>h e.symm];rfl
theorem kC {s:Th} (w:(s.2.1.map (·.1)).Nodup) (C:s.2.1.length<=1000) (L:Tl) (a:Int) {D:List Int} {i:Nat} {d:Int} (hi:D[i]? = some d):(loop (λ(c:Int×j0)=>br (S8 c.1 (s.2.1.length:Int)) (λ_=>R1 c.1 λm=>ix s.2.1 m λr=>R1 (i:Int) λn=>ix D n λt=>br (Oa r.1 t) (λ_=>R1 (i:Int) λo=>ix D o λu=>br (Ry u a) (λ_=>R1 c.1 λq=>ix s.2.1 q λb=>some (.nx ((SF .i64 c.1 1,(b.1,(b.2.1.1,(b.2.1.2.1,(b.2.1.2.2.1,(b.2.1.2.2.2.1,(b.2.1.2.2.2.2,(b.2.2.1.1,(b.2.2.1.2.1,(b.2.2.1.2.2,b.2.2.2))))))))))))) λ_=>some (.nx (SF .i64 c.1 1,c.2))) λ_=>some (.nx (SF .i64 c.1 1,c.2))) λ_=>some (.dn (((0:Nat),(c,()))))) ((0:Int),cq (Wc L d)))=some (0,(((s.2.1.length:Int),cq (Wi s L a d)),())):=by
 refine Uw (l:=s.2.1) (σ:=Job) (s:=((0:Int),cq (Wc L d))) (λk j=>((k:Int),cq j)) (λls k j => ∃ p,s.2.1=p++ls/\j=(if d=a then none else Um p d).getD (Wc L d)) (λ_ _ _=>(0,(((s.2.1.length:Int),cq (Wi s L a d)),()))) (Wc L d) rfl (by omega) ⟨[],rfl,by split<;>rfl⟩ (λj h => ?_) (λk x ls j hd y z h => ?_)
 ·obtain ⟨p,e,rfl⟩:=h;rw [List.append_nil] at e;simp only;rw [re,R7,<- e];rfl
 ·obtain ⟨p,e,rfl⟩:=h
  have B:x.1 ∉ p.map (·.1):=λA=>by
   rw [e,List.map_append,List.nodup_append] at w;exact w.2.2 _ A x.1 (by simp) rfl
  refine ⟨(if d=a then none else Um (p++[x]) d).getD (Wc L d),?_,⟨p++[x],by rw [e];simp,rfl⟩,rfl⟩
  simp only;rw [rl z,Sc,Ti,TC y,Ti,TC hi,TK,Tu (by omega),iE];by_cases f:x.1=d
  ·rw [if_pos f,Ti,TC hi,TQ,Ti,TC y,if_pos f];by_cases g:d=a
   ·rw [if_pos g,if_pos g,if_pos g]
   ·rw [if_neg g,if_neg g,Yl (by rw [<- f];exact B)];rfl
  ·rw [if_neg f,if_neg f];have:(Um p d).or none=Um p d:=by cases Um p d<;>rfl
   rw [this]
theorem aY {s:Th} (B:(s.2.1.map (·.1)).Nodup) (D:s.2.1.length<=1000) {L:Tl} (v:VLev L) (next b:Int):loop (λ(g:(Int×(Int×((List (List UO))×((List Job)×Int)))))=>br (S8 g.1 ((Tq 0 L.2).length:Int)) (λ_=>R1 g.1 λm=>ix (Tq 0 L.2) m λt=>bd (Un (((g.2.1,g.2.2.1),t))) λc=>bd (loop (λ(f:Int×j0)=>br (S8 f.1 (s.2.1.length:Int)) (λ_=>R1 f.1 λo=>ix s.2.1 o λu=>R1 g.1 λp=>ix (Tq 0 L.2) p λw=>br (Oa u.1 w) (λ_=>R1 g.1 λq=>ix (Tq 0 L.2) q λx=>br (Ry x b) (λ_=>R1 f.1 λr=>ix s.2.1 r λe=>some (.nx ((SF .i64 f.1 1,(e.1,(e.2.1.1,(e.2.1.2.1,(e.2.1.2.2.1,(e.2.1.2.2.2.1,(e.2.1.2.2.2.2,(e.2.2.1.1,(e.2.2.1.2.1,(e.2.2.1.2.2,e.2.2.2))))))))))))) λ_=>some (.nx (SF .i64 f.1 1,f.2))) λ_=>some (.nx (SF .i64 f.1 1,f.2))) λ_=>some (.dn (((0:Nat),(f,()))))) (((0:Int),(c.1.1,(c.1.2.1.1,(c.1.2.1.2.1,(c.1.2.1.2.2.1,(c.1.2.1.2.2.2.1,(c.1.2.1.2.2.2.2,(c.1.2.2.1.1,(c.1.2.2.1.2.1,(c.1.2.2.1.2.2,c.1.2.2.2)))))))))))) λa=>gd (CF (BF g.2.2.2.1.length [((a.2.1.2.1,((a.2.1.2.2.1,(a.2.1.2.2.2.1,(a.2.1.2.2.2.2.1,(a.2.1.2.2.2.2.2.1,a.2.1.2.2.2.2.2.2.1)))),((a.2.1.2.2.2.2.2.2.2.1,(a.2.1.2.2.2.2.2.2.2.2.1,a.2.1.2.2.2.2.2.2.2.2.2.1)),a.2.1.2.2.2.2.2.2.2.2.2.2))):Job)].length) 1048576) λ_=>some (.nx ((SF .i64 g.1 1,(g.2.1,(g.2.2.1,(Il g.2.2.2.1 ([(a.2.1.2.1,((a.2.1.2.2.1,(a.2.1.2.2.2.1,(a.2.1.2.2.2.2.1,(a.2.1.2.2.2.2.2.1,a.2.1.2.2.2.2.2.2.1)))),((a.2.1.2.2.2.2.2.2.2.1,(a.2.1.2.2.2.2.2.2.2.2.1,a.2.1.2.2.2.2.2.2.2.2.2.1)),a.2.1.2.2.2.2.2.2.2.2.2.2)))]),g.2.2.2.2))))))) λ_=>some (.dn (((0:Nat),(g,()))))) (((0:Int),(L.1,(L.2,(([]:List Job),next)))))=some (0,((((Tq 0 L.2).length:Int),(L.1,(L.2,((Tq 0 L.2).map (Wi s L b),next)))),())):=by
 have G:=v.len;have hd:=Vl L.2 0;refine Uw (l:=Tq 0 L.2) (σ:=List Job) (λi js=>((i:Int),(L.1,(L.2,(js,next))))) (λls i js=>js++ls.map (Wi s L b)=(Tq 0 L.2).map (Wi s L b)) (λ_ _ _=>(0,((((Tq 0 L.2).length:Int),(L.1,(L.2,((Tq 0 L.2).map (Wi s L b),next)))),()))) [] rfl (by omega) rfl (λjs h => ?_) (λi d ls js A hi C h => ?_)
 ·simp only;rw [re,R7,<- h];simp
 ·refine ⟨js++[Wi s L b d],?_,by rw [<- h];simp,rfl⟩;obtain ⟨n,I,J,k,E⟩:=cK (bo hi);have y:=iT v (n:=n) (by rw [YK.1 E];rfl);rw [<- k] at y
  have F:js.length<=1000:=by
   have z:=congrArg List.length h;rw [hI,s6,s6] at z;omega
  simp only;rw [rl C,Sc,Ti,TC hi];have j:Un ((L.1,L.2),d)=some (Wc L d,0):=y;rw [j,Sx];refine UH (kC B D L b hi) ?_;rw [Ud (by simp only [BF,ci,cP];omega),Tu (by omega)];rfl
end
section
open Go Sv
theorem YV {α β σ S:Type} {l:List α} (c:Nat) (n:c<=1000) (mk:Nat->σ->S) (I:Nat->σ->Prop) (Q:β->Prop) {f:S->Option (LR S β)} {s:S} (a:σ) (i:s=mk 0 a) (hi:I 0 a)
  (p : ∀ k a,(k=l.length\/k=c)->k<=l.length->I k a -> ∃ r,f (mk k a)=some (.dn r)/\Q r)
  (hc : ∀ k x a,l[k]? = some x->k<c->I k a->(∃ b,f (mk k a)=some (.nx (mk (k+1) b))/\I (k+1) b) \/ ∃ r,f (mk k a)=some (.dn r)/\Q r) : ∃ r,loop f s=some r/\Q r:=by
 refine XK (l:=l.take c) mk (λ_ k a=>I k a/\k<=(l.take c).length) Q a i (by simp;omega) ⟨hi,by omega⟩ (λa h=>p _ a (by simp;omega) (by simp;omega) h.1) (λk x m a hd e o h => ?_);have d:k<c:=by simp at o;omega
 have g:l[k]? = some x:=by rw [o3] at e;rw [if_pos d] at e;exact e
 rcases hc k x a g d h.1 with ⟨b,h1,j⟩ | h1
 ·exact .inl ⟨b,h1,j,by omega⟩
 ·exact .inr h1
theorem bQ {k c:Nat} (h:k<c):S8 (k:Int) (c:Int)=true:=by unfold S8;simp;omega
theorem iA {α β:Type} {l:List α} {k c:Nat} (h:k=l.length\/k=c) (b:k<=l.length) (A B C:Option β) (e:B=C):br (S8 (k:Int) (l.length:Int)) (λ_=>br (S8 (k:Int) (c:Int)) (λ_=>A) λ_=>B) (λ_=>C)=C:=by
 rw [TP];by_cases a:(k:Int)<(l.length:Int)
 ·rw [if_pos a,TP,if_neg (by omega),e]
 ·rw [if_neg a]
theorem iG (l:List Tj) : ∃ b,W2 l=some b/\(b=false->l.length<=30):=by
 unfold W2;simp only [To,Tn]
 obtain ⟨r,m,a⟩:=YV (l:=l) (σ:=Unit) (s:=((0:Int),false)) 40 (by omega) (λk _=>((k:Int),false)) (λ_ _=>True) (λ(r:Nat×((Int×Bool)×Unit))=>r.1=1\/(r.1=0/\r.2.1.2=true))
  (f:=λs0=>br (S8 s0.1 (l.length:Int)) (λ_=>br (S8 s0.1 40) (λ_=>R1 s0.1 λi=>ix l i λo=>br (S6 (Mj o.1:Int) 100) (λ_=>some (.dn ((0,((s0.1,true),()))))) λ_=>R1 s0.1 λj=>ix l j λp=>br (S6 (Mj p.2.1:Int) 100) (λ_=>some (.dn ((0,((s0.1,true),()))))) λ_=>some (.nx (SF .i64 s0.1 1,s0.2))) λ_=>some (.dn ((1,(s0,()))))) λ_=>some (.dn ((1,(s0,())))))
  () rfl trivial (λk _ h d _=>⟨_,(iA (c:=40) h d _ _ _ rfl),.inl rfl⟩) (λk x _ g d _=>by
   simp only;have e:=(a8.1 g).1;rw [rl e,Sc,show S8 (k:Int) 40=true from bQ d,Sc,Ti,TC g,TM,Ti,TC g,TM,Tu (by omega)]
   repeat' split
   all_goals first | exact .inr ⟨_,rfl,.inr ⟨rfl,rfl⟩⟩ | exact .inl ⟨(),rfl,trivial⟩)
 rw [m,Sx,Sy];rcases a with a | ⟨a,n⟩
 ·rw [if_neg (show ¬ r.1=0 by omega)];exact ⟨_,rfl,λh=>by unfold S6 at h;simp at h;omega⟩
 ·rw [if_pos a,n];exact ⟨_,rfl,λh=>by cases h⟩
theorem cy (l:List UO) : ∃ b,Vn l=some b/\(b=false->l.length<=6 /\ ∀ r∈l,r.2.length<=30):=by
 unfold Vn;simp only [To,Tn]
 obtain ⟨r,w,d⟩:=YV (l:=l) (σ:=Unit) (s:=((0:Int),false)) 10 (by omega) (λk _=>((k:Int),false)) (λk _ => ∀ i x,i<k->l[i]? = some x->x.2.length<=30) (λ(r:Nat×((Int×Bool)×Unit))=>(r.1=1 /\ ∀ i x,i<10->l[i]? = some x->x.2.length<=30)\/(r.1=0/\r.2.1.2=true))
  (f:=λs0=>br (S8 s0.1 (l.length:Int)) (λ_=>br (S8 s0.1 10) (λ_=>R1 s0.1 λu=>ix l u λA=>bd (W2 A.2) λz=>br z (λ_=>some (.dn ((0,((s0.1,true),()))))) λ_=>some (.nx (SF .i64 s0.1 1,s0.2))) λ_=>some (.dn ((1,(s0,()))))) λ_=>some (.dn ((1,(s0,())))))
  () rfl (λi x h=>by omega) (λk _ h j g=>⟨_,(iA (c:=10) h j _ _ _ rfl),.inl ⟨rfl,λi x hi a=>g i x (by have:=(a8.1 a).1;omega) a⟩⟩) (λk x _ a j g=>by
   simp only;have m:=(a8.1 a).1;obtain ⟨b,e,p⟩:=iG x.2;rw [rl m,Sc,show S8 (k:Int) 10=true from bQ j,Sc,Ti,TC a,e,Sx,Tu (by omega)];cases b with
   | true=>exact .inr ⟨_,rfl,.inr ⟨rfl,rfl⟩⟩
   | false =>
    refine .inl ⟨(),rfl,λi y hi n => ?_⟩;by_cases h:i=k
    ·subst h;rw [a] at n;cases n;exact p rfl
    ·exact g i y (by omega) n)
 rw [w,Sx,Sy];rcases d with ⟨d,o⟩ | ⟨d,o⟩
 ·rw [if_neg (show ¬ r.1=0 by omega)];refine ⟨_,rfl,λh => ?_⟩;have q:l.length<=6:=by unfold S6 at h;simp at h;omega
  exact ⟨q,λr t=>by
   obtain ⟨i,hi⟩:=en t
   exact o i r (by have:=(a8.1 hi).1;omega) hi⟩
 ·rw [if_pos d,o];exact ⟨_,rfl,λh=>by cases h⟩
theorem iH (L:Tl) : ∃ b,Xp L=some b/\(b=false->L.2.length<=14 /\ ∀ rs∈L.2,rs.length<=6 /\ ∀ r∈rs,r.2.length<=30):=by
 unfold Xp;simp only [To,Tn]
 obtain ⟨r,w,d⟩:=YV (l:=L.2) (σ:=Unit) (s:=((0:Int),false)) 20 (by omega) (λk _=>((k:Int),false)) (λk _ => ∀ i x,i<k->L.2[i]? = some x->x.length<=6 /\ ∀ r∈x,r.2.length<=30) (λ(r:Nat×((Int×Bool)×Unit))=>(r.1=1 /\ ∀ i x,i<20->L.2[i]? = some x->x.length<=6 /\ ∀ r∈x,r.2.length<=30)\/(r.1=0/\r.2.1.2=true))
  (f:=λs0=>br (S8 s0.1 (L.2.length:Int)) (λ_=>br (S8 s0.1 20) (λ_=>R1 s0.1 λu=>ix L.2 u λA=>bd (Vn A) λz=>br z (λ_=>some (.dn ((0,((s0.1,true),()))))) λ_=>some (.nx (SF .i64 s0.1 1,s0.2))) λ_=>some (.dn ((1,(s0,()))))) λ_=>some (.dn ((1,(s0,())))))
  () rfl (λi x h=>by omega) (λk _ h j g=>⟨_,(iA (c:=20) h j _ _ _ rfl),.inl ⟨rfl,λi x hi a=>g i x (by have:=(a8.1 a).1;omega) a⟩⟩) (λk x _ a j g=>by
   simp only;have m:=(a8.1 a).1;obtain ⟨b,e,p⟩:=cy x;rw [rl m,Sc,show S8 (k:Int) 20=true from bQ j,Sc,Ti,TC a,e,Sx,Tu (by omega)];cases b with
   | true=>exact .inr ⟨_,rfl,.inr ⟨rfl,rfl⟩⟩
   | false =>
    refine .inl ⟨(),rfl,λi y hi n => ?_⟩;by_cases h:i=k
    ·subst h;rw [a] at n;cases n;exact p rfl
    ·exact g i y (by omega) n)
 rw [w,Sx,Sy];rcases d with ⟨d,o⟩ | ⟨d,o⟩
 ·rw [if_neg (show ¬ r.1=0 by omega)];refine ⟨_,rfl,λh => ?_⟩;have q:L.2.length<=14:=by unfold S6 at h;simp at h;omega
  exact ⟨q,λr t=>by
   obtain ⟨i,hi⟩:=en t
   exact o i r (by have:=(a8.1 hi).1;omega) hi⟩
 ·rw [if_pos d,o];exact ⟨_,rfl,λh=>by cases h⟩
theorem gu (l:List Tj) : ∃ b,Va l=some b:=by
 unfold Va;simp only [To,Tn]
 obtain ⟨r,j,o⟩:=YV (l:=l) (σ:=Unit) (s:=((0:Int),false)) 80 (by omega) (λk _=>((k:Int),false)) (λ_ _=>True) (λ(r:Nat×((Int×Bool)×Unit))=>True)
  (f:=λs0=>br (S8 s0.1 (l.length:Int)) (λ_=>br (S8 s0.1 80) (λ_=>R1 s0.1 λg=>ix l g λm=>br (S6 (Mj m.1:Int) 100) (λ_=>some (.dn ((0,((s0.1,true),()))))) λ_=>R1 s0.1 λi=>ix l i λn=>br (S6 (Mj n.2.1:Int) 100) (λ_=>some (.dn ((0,((s0.1,true),()))))) λ_=>some (.nx (SF .i64 s0.1 1,s0.2))) λ_=>some (.dn ((1,(s0,()))))) λ_=>some (.dn ((1,(s0,())))))
  () rfl trivial (λk _ h a _=>⟨_,(iA (c:=80) h a _ _ _ rfl),trivial⟩) (λk x _ e a _=>by
   simp only;have d:=(a8.1 e).1;rw [rl d,Sc,show S8 (k:Int) 80=true from bQ a,Sc,Ti,TC e,TM,Ti,TC e,TM,Tu (by omega)]
   repeat' split
   all_goals first | exact .inr ⟨_,rfl,trivial⟩ | exact .inl ⟨(),rfl,trivial⟩)
 rw [j,Sx,Sy];split<;>exact ⟨_,rfl⟩
theorem iI (s:Th) : ∃ b,Xq s=some b/\(b=false->Sm s /\ ∀ rs∈s.1.2,∀ r∈rs,r.2.length<=30):=by
 unfold Xq;simp only [To,Tn]
 obtain ⟨r,q,g⟩:=YV (l:=s.2.1) (σ:=Unit) (s:=((0:Int),false)) 20 (by omega) (λk _=>((k:Int),false)) (λ_ _=>True) (λ(r:Nat×((Int×Bool)×Unit))=>r.1=0\/(r.1=1/\r.2.1.2=true))
  (f:=λs0=>br (S8 s0.1 (s.2.1.length:Int)) (λ_=>br (S8 s0.1 20) (λ_=>R1 s0.1 λE=>ix s.2.1 E λi=>bd (loop (λa=>br (S8 a.1 (i.2.1.1.length:Int)) (λ_=>br (S8 a.1 10) (λ_=>R1 a.1 λp=>ix i.2.1.1 p λw=>bd (Va w) λt=>br t (λ_=>some (.dn ((0,((a.1,true),()))))) λ_=>some (.nx (SF .i64 a.1 1,a.2))) λ_=>some (.dn ((1,(a,()))))) λ_=>some (.dn ((1,(a,()))))) (0,s0.2)) λu=>br (neq u.1 0) (λ_=>some (.dn ((1,((s0.1,u.2.1.2),()))))) λ_=>bd (Va i.2.2.2.1) λF=>br F (λ_=>some (.dn ((1,((s0.1,true),()))))) λ_=>br (S6 (i.2.1.1.length:Int) 6) (λ_=>some (.dn ((1,((s0.1,true),()))))) λ_=>br (S6 (i.2.1.2.1.length:Int) 40) (λ_=>some (.dn ((1,((s0.1,true),()))))) λ_=>br (S6 (i.2.1.2.2.1.length:Int) 40) (λ_=>some (.dn ((1,((s0.1,true),()))))) λ_=>br (S6 (i.2.1.2.2.2.1.length:Int) 40) (λ_=>some (.dn ((1,((s0.1,true),()))))) λ_=>br (S6 (Mj i.2.2.1.2.1:Int) 200) (λ_=>some (.dn ((1,((s0.1,true),()))))) λ_=>some (.nx (SF .i64 s0.1 1,u.2.1.2))) λ_=>some (.dn ((0,(s0,()))))) λ_=>some (.dn ((0,(s0,())))))
  () rfl trivial (λk _ h j _=>⟨_,(iA (c:=20) h j _ _ _ rfl),.inl rfl⟩) (λk x _ z j _=>by
   simp only;have m:=(a8.1 z).1;rw [rl m,Sc,show S8 (k:Int) 20=true from bQ j,Sc,Ti,TC z]
   obtain ⟨r,q,g⟩:=YV (l:=x.2.1.1) (σ:=Unit) (s:=((0:Int),false)) 10 (by omega) (λk _=>((k:Int),false)) (λ_ _=>True) (λ(r:Nat×((Int×Bool)×Unit))=>(r.1=1/\r.2.1.2=false)\/(r.1=0/\r.2.1.2=true))
    (f:=λa=>br (S8 a.1 (x.2.1.1.length:Int)) (λ_=>br (S8 a.1 10) (λ_=>R1 a.1 λp=>ix x.2.1.1 p λw=>bd (Va w) λt=>br t (λ_=>some (.dn ((0,((a.1,true),()))))) λ_=>some (.nx (SF .i64 a.1 1,a.2))) λ_=>some (.dn ((1,(a,()))))) λ_=>some (.dn ((1,(a,())))))
    () rfl trivial (λk _ h j _=>⟨_,(iA (c:=10) h j _ _ _ rfl),.inl ⟨rfl,rfl⟩⟩) (λk y _ A j _=>by
     simp only;have m:=(a8.1 A).1;obtain ⟨b,e⟩:=gu y;rw [rl m,Sc,show S8 (k:Int) 10=true from bQ j,Sc,Ti,TC A,e,Sx,Tu (by omega)];cases b with
     | true=>exact .inr ⟨_,rfl,.inr ⟨rfl,rfl⟩⟩
     | false=>exact .inl ⟨(),rfl,trivial⟩)
   obtain ⟨b,e⟩:=gu x.2.2.2.1;rw [q,Sx,Sy,e];rcases g with ⟨g,n⟩ | ⟨g,n⟩
   ·rw [if_neg (show ¬ r.1=0 by omega),Sx,TV,TM,TM,TM,TM,TM,n,Tu (by omega)]
    repeat' split
    all_goals first | exact .inr ⟨_,rfl,.inr ⟨rfl,rfl⟩⟩ | exact .inl ⟨(),rfl,trivial⟩
   ·rw [if_pos g,n]
    exact .inr ⟨_,rfl,.inr ⟨rfl,rfl⟩⟩)
 rw [q,Sx,Sy];rcases g with g | ⟨g,n⟩
 ·rw [if_pos g,TM];by_cases h:(s.2.1.length:Int)>14
  ·rw [if_pos h];exact ⟨_,rfl,λh=>by cases h⟩
  ·rw [if_neg h];obtain ⟨b,e,C⟩:=iH s.1;rw [e];refine ⟨b,rfl,λB => ?_⟩;obtain ⟨G,o⟩:=C B;exact ⟨⟨by omega,λrs d=>⟨by have:=(o rs d).1;omega,λr D=>by have:=(o rs d).2 r D;omega⟩,by omega⟩,λrs d=>(o rs d).2⟩
 ·rw [if_neg (show ¬ r.1=0 by omega),n];exact ⟨_,rfl,λh=>by cases h⟩
end
section
open Go Sv
end
section
open Go Sv
theorem ky (L:Tl) (n:Nat):Vv (L,(n:Int))=some (Tp L.2 n):=by
 unfold Vv;simp only [To,Tn];rw [TL];by_cases h:n<L.2.length
 ·rw [if_neg (by omega),Ti,TC (WF h)]
 ·rw [if_pos (by omega)];unfold Tp;rw [a9 (by omega)];rfl
theorem ay {s:Th} (v:VSt s) (hf:jz s.1) {n:Nat} {j:Job} (ha:JobAt s.1 n j) (h0 : ¬ 0<UA s.1 j) (hc:WC s.1 j=true) (h5:Ur j≠[]->s.2.2<=1000000) {X:Int} (D:X=(Ye s j:Int)) :
  (bd (VK ((s.1,((n:Int),[])))) λp=>br (S6 (Ki (AS j.2.2.2.1)) 0) (λ_=>bd (Vv (p,X)) λw=>gd (CF (AS w) 1048576) λ_=>gd (CF (BF (AS w) (AS ([(s.2.2,j.2.2.2.1)]))) 1048576) λ_=>bd (VK ((p,(X,Il w ([(s.2.2,j.2.2.2.1)]))))) λy=>bd (Uh y) λq=>bd (loop (λ(c:(Int×qL))=>br (S8 c.1 (Ki (AS q))) (λ_=>R1 c.1 λE=>ix q E λY=>bd (Un (((c.2.1,c.2.2.1),Y))) λe=>bd (loop (λ(l:(Int×(Int×qM)))=>br (S8 l.1 (Ki (AS s.2.1))) (λ_=>R1 l.1 λG=>ix s.2.1 G λZ=>R1 c.1 λI=>ix q I λx52=>br (Oa Z.1 x52) (λ_=>R1 c.1 λJ=>ix q J λx54=>br (Ry x54 (n:Int)) (λ_=>R1 l.1 λK=>ix s.2.1 K λg=>some (.nx ((SF .i64 l.1 1,(g.1,(g.2.1.1,(g.2.1.2.1,(g.2.1.2.2.1,(g.2.1.2.2.2.1,(g.2.1.2.2.2.2,(g.2.2.1.1,(g.2.2.1.2.1,(g.2.2.1.2.2,g.2.2.2))))))))))))) λ_=>some (.nx (SF .i64 l.1 1,l.2))) λ_=>some (.nx (SF .i64 l.1 1,l.2))) λ_=>some (.dn ((0,(l,()))))) ((0,(e.1.1,(e.1.2.1.1,(e.1.2.1.2.1,(e.1.2.1.2.2.1,(e.1.2.1.2.2.2.1,(e.1.2.1.2.2.2.2,(e.1.2.2.1.1,(e.1.2.2.1.2.1,(e.1.2.2.1.2.2,e.1.2.2.2)))))))))))) λa=>gd (CF (BF (AS c.2.2.2.1) (AS ([(a.2.1.2.1,((a.2.1.2.2.1,(a.2.1.2.2.2.1,(a.2.1.2.2.2.2.1,(a.2.1.2.2.2.2.2.1,a.2.1.2.2.2.2.2.2.1)))),((a.2.1.2.2.2.2.2.2.2.1,(a.2.1.2.2.2.2.2.2.2.2.1,a.2.1.2.2.2.2.2.2.2.2.2.1)),a.2.1.2.2.2.2.2.2.2.2.2.2)))]))) 1048576) λ_=>some (.nx ((SF .i64 c.1 1,(c.2.1,(c.2.2.1,(Il c.2.2.2.1 ([(a.2.1.2.1,((a.2.1.2.2.1,(a.2.1.2.2.2.1,(a.2.1.2.2.2.2.1,(a.2.1.2.2.2.2.2.1,a.2.1.2.2.2.2.2.2.1)))),((a.2.1.2.2.2.2.2.2.2.1,(a.2.1.2.2.2.2.2.2.2.2.1,a.2.1.2.2.2.2.2.2.2.2.2.1)),a.2.1.2.2.2.2.2.2.2.2.2.2)))]),c.2.2.2.2))))))) λ_=>some (.dn ((0,(c,()))))) ((0,(y.1,(y.2,([],SF .i64 s.2.2 1)))))) λz=>some ((((z.2.1.2.1,z.2.1.2.2.1),z.2.1.2.2.2),0))) λ_=>bd (Uh p) λt=>bd (loop (λ(d:(Int×qL))=>br (S8 d.1 (Ki (AS t))) (λ_=>R1 d.1 λN=>ix t N λx62=>bd (Un (((d.2.1,d.2.2.1),x62))) λf=>bd (loop (λ(m:(Int×(Int×qM)))=>br (S8 m.1 (Ki (AS s.2.1))) (λ_=>R1 m.1 λO=>ix s.2.1 O λx66=>R1 d.1 λP=>ix t P λx68=>br (Oa x66.1 x68) (λ_=>R1 d.1 λS=>ix t S λx70=>br (Ry x70 (n:Int)) (λ_=>R1 m.1 λU=>ix s.2.1 U λk=>some (.nx ((SF .i64 m.1 1,(k.1,(k.2.1.1,(k.2.1.2.1,(k.2.1.2.2.1,(k.2.1.2.2.2.1,(k.2.1.2.2.2.2,(k.2.2.1.1,(k.2.2.1.2.1,(k.2.2.1.2.2,k.2.2.2))))))))))))) λ_=>some (.nx (SF .i64 m.1 1,m.2))) λ_=>some (.nx (SF .i64 m.1 1,m.2))) λ_=>some (.dn ((0,(m,()))))) ((0,(f.1.1,(f.1.2.1.1,(f.1.2.1.2.1,(f.1.2.1.2.2.1,(f.1.2.1.2.2.2.1,(f.1.2.1.2.2.2.2,(f.1.2.2.1.1,(f.1.2.2.1.2.1,(f.1.2.2.1.2.2,f.1.2.2.2)))))))))))) λb=>gd (CF (BF (AS d.2.2.2.1) (AS ([(b.2.1.2.1,((b.2.1.2.2.1,(b.2.1.2.2.2.1,(b.2.1.2.2.2.2.1,(b.2.1.2.2.2.2.2.1,b.2.1.2.2.2.2.2.2.1)))),((b.2.1.2.2.2.2.2.2.2.1,(b.2.1.2.2.2.2.2.2.2.2.1,b.2.1.2.2.2.2.2.2.2.2.2.1)),b.2.1.2.2.2.2.2.2.2.2.2.2)))]))) 1048576) λ_=>some (.nx ((SF .i64 d.1 1,(d.2.1,(d.2.2.1,(Il d.2.2.2.1 ([(b.2.1.2.1,((b.2.1.2.2.1,(b.2.1.2.2.2.1,(b.2.1.2.2.2.2.1,(b.2.1.2.2.2.2.2.1,b.2.1.2.2.2.2.2.2.1)))),((b.2.1.2.2.2.2.2.2.2.1,(b.2.1.2.2.2.2.2.2.2.2.1,b.2.1.2.2.2.2.2.2.2.2.2.1)),b.2.1.2.2.2.2.2.2.2.2.2.2)))]),d.2.2.2.2))))))) λ_=>some (.dn ((0,(d,()))))) ((0,(p.1,(p.2,([],s.2.2)))))) λA=>some ((((A.2.1.2.1,A.2.1.2.2.1),A.2.1.2.2.2),0)):Option (Th×Int))=some (ZF s (Vi s j) (YP s j) j.1,0):=by
 have F:=gY v hf ha h0 hc h5;obtain ⟨o1,o2,W,o4,o5⟩:=ha.out v.lev (hf n);have hj:j.1.toNat=n:=by rw [W];simp
 have hn2:=v.n2;have hn1:=v.n1;have hjs:=v.jsmall;have o:=F.lev;have hl:=v.lev.len;have hl1:=F.l1.len;have small : ∀ {M:Tl},VLev M -> ∀ i,(Tp M.2 i).length<=1048576:=λvM i=>by have:=(vM.own i).1;omega
 rw [dK (by omega) (by omega) (by simp) (small v.lev),Sx];simp only [To,Tn];rw [TM];by_cases u:Ur j=[]
 ·rw [if_neg (show ¬ ((j.2.2.2.1.length:Int)>0) by rw [show j.2.2.2.1=[] from u];simp)];have B:Vi s j=Us s.1 n []:=by unfold Vi;rw [if_pos u,hj]
  have C:YP s j=s.2.2:=by unfold YP;rw [if_pos u]
  rw [<- B,aQ (by have:=o.len;omega),Sx];refine UH (aY v.nodup (by omega) o s.2.2 (n:Int)) ?_;rw [C,W];rfl
 ·rw [if_pos (show ((j.2.2.2.1.length:Int)>0) by have:=ed.2 u;have h:(Ur j).length=j.2.2.2.1.length:=rfl;omega),D,ky,Sx];have hro:=F.room u;have ht:=F.to12 u
  have B:Vi s j=Us (Us s.1 n []) (Ye s j) (Tp (Us s.1 n []).2 (Ye s j)++[(s.2.2,Ur j)]):=by
   unfold Vi;rw [if_neg u,hj]
  have C:YP s j=s.2.2+1:=by unfold YP;rw [if_neg u]
  rw [Ud (by omega),Ud (by simp only [BF,ci,cP];omega)];have hW:=dK (L:=Us s.1 n []) (n:=Ye s j) (r:=Tp (Us s.1 n []).2 (Ye s j)++[(s.2.2,Ur j)]) (by omega) (by omega) (by simp;omega) (small F.l1);rw [<- B] at hW;refine UH (x:=Vi s j) hW ?_;rw [aQ (by have:=o.len;omega),Sx,Sh (by omega)];refine UH (aY v.nodup (by omega) o (s.2.2+1) (n:Int)) ?_;rw [C,W];rfl
theorem dI {s:Th} (m:Sm s) (l:jz s.1) (a:Int):V0 (s,a)=some (Wb zS ZP s a):=by
 unfold V0;rw [eJ m,Sx,ZD m,cM m];unfold Wb;by_cases b:(Tk s).2=0;rotate_left
 ·rw [if_pos b,TQ,if_neg b,if_pos b];rfl
 rw [if_neg (show ¬ (Tk s).2≠0 by simp [b]),if_neg (show ¬ (Tk s).2≠0 by simp [b]),if_neg (show ¬ (Tk s).2≠0 by simp [b])];have v:=Ts.1 b;unfold aM YF;rw [if_neg (show ¬ (Tk s).2≠0 by simp [b])];cases q:Zh a 0 (Tq 0 s.1.2) with
 | none=>rfl
 | some i =>
  obtain ⟨j,n,o,p,f,k,r⟩:=v.at q;have:=v.lev.len;subst p;simp only [o];unfold ZP Zz;by_cases c:0<UA s.1 j
  ·rw [if_pos c,if_pos (.inl c)];rfl
  rw [if_neg c]
  have g:(if Vx s.1 j=true then (j.1,(0:Int)) else (j.1+1,0))=((Ye s j:Int),0):=by
   unfold Ye;split<;>rw [f]<;>simp
  rw [g,TQ,if_pos rfl,Sx,Ti,TC o,Sx,UQ,TV];by_cases hc:WC s.1 j=true;rotate_left
  ·rw [if_neg hc,if_pos (.inr (by simpa using hc))];rfl
  rw [if_pos hc,if_neg (show ¬ (0<UA s.1 j\/WC s.1 j=false) by rw [hc];simp;omega),TM];by_cases e:s.2.2>1000000
  ·rw [if_pos e,TM];by_cases d:Ur j=[]
   ·rw [if_neg (show ¬ (Ki (AS j.2.2.2.1)>0) by rw [show j.2.2.2.1=[] from d];simp [To,Tn]),if_neg (by simp [d])];dsimp only;exact ay v l k c hc (λh=>absurd d h) rfl
   ·rw [if_pos (show Ki (AS j.2.2.2.1)>0 by have:=ed.2 d;have h:(Ur j).length=j.2.2.2.1.length:=rfl;rw [To,Tn];omega),if_pos ⟨e,d⟩];rfl
  ·rw [if_neg e,if_neg (by simp [e])];dsimp only;exact ay v l k c hc (λh=>by omega) rfl
theorem iS {s:Th} (m:Sm s) (f:jz s.1) (a:Int):VN (s,a)=some (Wa s a):=by
 unfold VN;rw [cM m,Sx,Yb m,dI m f];unfold Wb Wa;by_cases b:(Tk s).2=0;rotate_left
 ·rw [if_pos b,if_pos b,TK,if_neg b];rw [TQ,if_neg b,if_pos b];rfl
 rw [if_neg (show ¬ (Tk s).2≠0 by simp [b]),if_neg (show ¬ (Tk s).2≠0 by simp [b]),if_neg (show ¬ (Tk s).2≠0 by simp [b]),if_neg (show ¬ (Tk s).2≠0 by simp [b])];have v:=Ts.1 b;unfold aM;cases e:Zh a 0 (Tq 0 s.1.2) with
 | none =>
  simp only;rw [TK,if_neg (by omega),TQ,if_neg (by omega)];rfl
 | some i =>
  obtain ⟨j,n,d,k,g,h,l⟩:=v.at e;simp only [d];unfold YM;rw [TK,if_pos rfl,UQ,TV];by_cases hc:WC s.1 j=true;rotate_left
  ·rw [if_neg hc,if_pos (by simpa using hc)];rfl
  rw [if_pos hc,if_neg (by simp [hc]),TQ,if_pos rfl,Sx,TM];by_cases c:0<UA s.1 j
  ·rw [if_pos (show ((UA s.1 j:Int))>0 by omega),if_pos c,iV m v e d c];rfl
  ·rw [if_neg (show ¬ ((UA s.1 j:Int))>0 by omega),if_neg c];rfl
end
section
open Go Sv
def Ue (l:List Tj) (k:Xh):Option Tj:=l.find? λx=>decide (x.1=k)
theorem Uk (x:Tj) (l:List Tj) (k:Xh):Ue (x::l) k=if x.1=k then some x else Ue l k:=by
 unfold Ue;rw [hV];by_cases h:x.1=k<;>simp [h]
theorem Zo (l m:List Tj) (k:Xh):Ue (l++m) k=(Ue l k).or (Ue m k):=by
 unfold Ue;rw [xw]
theorem YT (x:Tj) (k:Xh):Ue [x] k=if x.1=k then some x else none:=by rw [Uk];rfl
theorem cr {l:List Tj} {k:Xh} {x:Tj} (h:Ue l k=some x):x.1=k/\x∈l:=by
 unfold Ue at h;exact ⟨by simpa using ym h,xa h⟩
theorem YS {l:List Tj} {k:Xh} (h : ∀ x∈l,x.1≠k):Ue l k=none:=by
 unfold Ue;rw [List.find?_eq_none];intro x a;simpa using h x a
theorem ZV : ∀ {l:List Tj} {q:Xh},Asc (some q) l -> ∀ x∈l,SV q x.1=true
 | x::l,q,⟨a,b⟩,y,hy=>by
  rcases ey.1 hy with e | hy
  ·rw [e];exact a q rfl
  ·exact WZ (a q rfl) (ZV b y hy)
theorem gO : ∀ {l m:List Tj} {p q:Option Xh},Asc p l->Asc q m->(∀ k,Ue l k=Ue m k)->l=m
 | [],[],_,_,_,_,_=>rfl
 | [],y::m,_,_,_,_,h=>by
  have:=h y.1;rw [Uk,if_pos rfl] at this;cases this
 | x::l,[],_,_,_,_,h=>by
  have:=h x.1;rw [Uk,if_pos rfl] at this;cases this
 | x::l,y::m,p,q,⟨t,f⟩,⟨s,d⟩,h=>by
  have e1:=h x.1;have e2:=h y.1;rw [Uk,if_pos rfl,Uk] at e1;rw [Uk,Uk,if_pos rfl] at e2
  have g:x.1=y.1:=by
   by_cases b:y.1=x.1
   ·exact b.symm
   ·rw [if_neg b] at e1;rw [if_neg (λe=>b e.symm)] at e2;have n:=ZV d x (cr e1.symm).2;have j:=ZV f y (cr e2).2;rw [VE n] at j;cases j
  rw [if_pos g.symm] at e1;have c:x=y:=Option.some.inj e1;subst c;refine congrArg (x::·) (gO f d λk => ?_);have b:=h k;rw [Uk,Uk] at b;by_cases a:x.1=k
  ·have o:Ue l k=none:=YS λz i=>by
    have:=ZV f z i;rw [a] at this;exact λe=>ZE this e.symm
   have r:Ue m k=none:=YS λz i=>by
    have:=ZV d z i;rw [a] at this;exact λe=>ZE this e.symm
   rw [o,r]
  ·rw [if_neg a,if_neg a] at b;exact b
theorem ZU (P:Tj->Bool) : ∀ {l:List Tj} {p:Option Xh},Asc p l->Asc p (l.filter P)
 | [],_,_=>trivial
 | x::l,p,⟨b,d⟩=>by
  have c:=ZU P d;rw [ya];cases P x with
  | true=>exact ⟨b,c⟩
  | false =>
   refine c.weak λe a=>⟨x.1,rfl,?_⟩;exact VE (b e a)
theorem Y7 (P:Tj->Bool) (k:Xh) : ∀ {l:List Tj} {p:Option Xh},Asc p l->Ue (l.filter P) k=(Ue l k).filter P
 | [],_,_=>rfl
 | x::l,p,⟨h,c⟩=>by
  have d:=Y7 P k c;rw [ya,Uk];by_cases a:x.1=k
  ·rw [if_pos a]
   have f:Ue (l.filter P) k=none:=YS λz g=>by
    have:=ZV c z (List.mem_filter.1 g).1;rw [a] at this;exact λe=>ZE this e.symm
   cases b:P x with
   | true=>rw [if_pos rfl,Uk,if_pos a];simp [l6,b]
   | false=>rw [if_neg (by simp),f];simp [l6,b]
  ·rw [if_neg a];cases b:P x with
   | true=>rw [if_pos rfl,Uk,if_neg a];exact d
   | false=>simpa using d
def aK:List Tj->Tj->List Tj
 | [],x=>[x]
 | y::l,x=>if SV y.1 x.1=true then y::aK l x else if y.1=x.1 then y::l else x::y::l
theorem cX (x:Tj) : ∀ {l:List Tj} {p:Option Xh},Asc p l->(∀ q,p=some q->SV q x.1=true)->Asc p (aK l x)
 | [],p,_,hp=>⟨hp,trivial⟩
 | y::l,p,⟨d,a⟩,hp=>by
  unfold aK;by_cases h:SV y.1 x.1=true
  ·rw [if_pos h];exact ⟨d,cX x a λq c=>by cases c;exact h⟩
  ·rw [if_neg h];by_cases b:y.1=x.1
   ·rw [if_pos b];exact ⟨d,a⟩
   ·rw [if_neg b];exact ⟨hp,λq c=>by cases c;exact Zf (by simpa using h) b,a⟩
theorem cY (x:Tj) (k:Xh) : ∀ {l:List Tj} {p:Option Xh},Asc p l->Ue (aK l x) k=(Ue l k).or (if x.1=k then some x else none)
 | [],_,_=>by unfold aK;rw [YT];rfl
 | y::l,p,⟨f,d⟩=>by
  unfold aK;by_cases h:SV y.1 x.1=true
  ·rw [if_pos h,Uk,Uk,cY x k d];split<;>rfl
  ·rw [if_neg h];by_cases b:y.1=x.1
   ·rw [if_pos b,Uk,<- b];by_cases a:y.1=k
    ·rw [if_pos a];rfl
    ·rw [if_neg a,if_neg a];cases Ue l k<;>rfl
   ·rw [if_neg b,Uk];have c:SV x.1 y.1=true:=Zf (by simpa using h) b;by_cases a:x.1=k
    ·rw [if_pos a]
     have:Ue (y::l) k=none:=YS λz hz=>by
      rw [<- a];rcases ey.1 hz with e | hz
      ·rw [e];exact b
      ·exact λe=>ZE (WZ c (ZV d z hz)) e.symm
     rw [this,if_pos a];rfl
    ·rw [if_neg a,if_neg a];cases Ue (y::l) k<;>rfl
theorem gN (k:Xh) : ∀ (r l:List Tj),Asc none l->Asc none (r.foldl aK l)/\Ue (r.foldl aK l) k=(Ue l k).or (Ue r k)
 | [],l,h=>⟨h,by show Ue l k=_;cases Ue l k<;>rfl⟩
 | x::r,l,h=>by
  obtain ⟨a,b⟩:=gN k r (aK l x) (cX x h λ_ h=>by cases h);refine ⟨a,?_⟩;rw [iz,b,cY x k h,Uk,hM]
  congr 1
  split<;>rfl
def gz (rs:List UO) (l:List Tj):List Tj:=rs.foldl (λout r=>r.2.foldl aK out) l
def VU:List UO->Xh->Option Tj
 | [],_=>none
 | r::rs,k=>(Ue r.2 k).or (VU rs k)
theorem bp (k:Xh) : ∀ (rs:List UO) (l:List Tj),Asc none l->Asc none (gz rs l)/\Ue (gz rs l) k=(Ue l k).or (VU rs k)
 | [],l,h=>⟨h,by show Ue l k=_;cases Ue l k<;>rfl⟩
 | r::rs,l,h=>by
  obtain ⟨a,b⟩:=gN k r.2 l h;obtain ⟨c,d⟩:=bp k rs (r.2.foldl aK l) a;refine ⟨c,?_⟩;show Ue (gz rs (r.2.foldl aK l)) k=_;rw [d,b,hM];rfl
def Xf (x:Tj):Bool := !x.2.2.1
def LF (L:Tl):List Tj:=(gz (Ul L.2) []).filter Xf
theorem kS {L M:Tl} (h : ∀ k,(VU (Ul L.2) k).filter Xf=(VU (Ul M.2) k).filter Xf):LF L=LF M:=by
 have a:=λk=>bp k (Ul L.2) [] trivial;have b:=λk=>bp k (Ul M.2) [] trivial;refine gO (ZU Xf (a []).1) (ZU Xf (b []).1) λk => ?_;show Ue ((gz (Ul L.2) []).filter Xf) k=Ue ((gz (Ul M.2) []).filter Xf) k;rw [Y7 Xf k (a []).1,Y7 Xf k (b []).1,(a k).2,(b k).2];exact h k
theorem cz : ∀ (a b:List UO) (k:Xh),VU (a++b) k=(VU a k).or (VU b k)
 | [],b,k=>rfl
 | r::a,b,k=>by
  show (Ue r.2 k).or (VU (a++b) k)=((Ue r.2 k).or (VU a k)).or (VU b k);rw [cz a b k,hM]
theorem gj : ∀ {l:List Tj} {s:Uj} {k:Xh},Z0 s l->s.1=true->SV k s.2.1=true->Ue l k=none
 | [],_,_,_,_,_=>rfl
 | x::l,s,k,⟨_,c,d⟩,b,hk=>by
  have a:SV k x.1=true:=dj hk (c b);rw [Uk,if_neg (λe=>ZE a e.symm)];exact gj d rfl a
theorem cm (k:Xh) : ∀ {l:List Tj} {s:Uj},Z0 s l->Ue (WG s l) k=if s.1=true/\s.2.1=k then none else (Ue l k).filter λx => !(s.2.2&&x.2.2.1)
 | [],s,_=>by unfold WG;split<;>rfl
 | x::l,s,⟨_,g,c⟩=>by
  have f:=cm k c;simp only [true_and] at f;unfold WG;rw [Zo,f,Uk];by_cases a:x.1=k
  ·rw [if_pos a,if_pos a];by_cases hs:s.1=true/\s.2.1=k
   ·rw [if_pos hs];have:keep s x=false:=by unfold keep;rw [hs.1,hs.2,a];simp
    rw [this];rfl
   ·rw [if_neg hs]
    have:keep s x = !(s.2.2&&x.2.2.1):=by
     unfold keep
     have:(s.1&&decide (x.1=s.2.1))=false:=by
      cases b:s.1 with
      | false=>rfl
      | true =>
       simp only [Bool.true_and,decide_eq_false_iff_not];intro e;exact hs ⟨b,by rw [<- e];exact a⟩
     rw [this];rfl
    rw [this];cases d:(!(s.2.2&&x.2.2.1)) with
    | true=>rw [if_pos rfl,YT,if_pos a];simp [l6,d]
    | false=>rw [if_neg (by simp)];simp [l6,d,Ue]
  ·rw [if_neg a,if_neg a]
   have b:Ue (if keep s x=true then [x] else []) k=none:=by
    split
    ·rw [YT,if_neg a]
    ·rfl
   rw [b,tk];by_cases hs:s.1=true/\s.2.1=k
   ·rw [if_pos hs]
    have h:SV k x.1=true:=by
     rw [<- hs.2];refine Zf (g hs.1) λe=>a ?_;rw [e];exact hs.2
    rw [gj c rfl h];rfl
   ·rw [if_neg hs]
theorem an {a b:List Tj} (va:VL a) (l:VL b) (k:Xh) : ∀ {n:Nat},n<=a.length+b.length->Ue (UB a b n) k=(Ue (a.take (pos a b n).1) k).or (Ue (b.take (pos a b n).2) k)
 | 0,_=>rfl
 | n+1,h=>by
  have G:=an va l k (n:=n) (by omega);obtain ⟨q,hs⟩:=WQ va l (n:=n) (by omega);obtain ⟨x,c,_⟩:=Vr va l (n:=n) (by omega);rw [Ws va l c,Zo,G,YT];unfold aH at c;rw [show pos a b (n+1)=if X5 a b (pos a b n).1 (pos a b n).2=true then ((pos a b n).1+1,(pos a b n).2) else ((pos a b n).1,(pos a b n).2+1) from rfl]
  revert c q;generalize (pos a b n).1=i;generalize (pos a b n).2=j;intro q c;cases g:X5 a b i j with
  | true =>
   rw [if_pos g] at c;rw [if_pos rfl];simp only;rw [iP,c,xr,Zo,YT,hM,hM]
   congr 1
   by_cases r:x.1=k
   ·rw [if_pos r]
    have:Ue (b.take j) k=none:=YS λy F=>by
     obtain ⟨m,o⟩:=en F;rw [o3] at o;split at o
     ·rename_i E;have D:=q.jb;have f:b[j-1]? = some b[j-1]:=co (by omega);have B:=q.pb (j-1) (by omega) _ x f c
      have C:SV b[j-1].1 y.1=false:=by
       by_cases s:m=j-1
       ·subst s;rw [f] at o;cases o;exact XT _
       ·have A:=l.asc
        have : ∀ d,m+d+1<=j-1 -> ∀ z,b[m+d+1]? = some z->SV y.1 z.1=true:=by
         intro d
         induction d with
         | zero=>intro _ z t;exact l.lt o t
         | succ d u =>
          intro hd z t;have p:b[m+d+1]? = some b[m+d+1]:=co (by omega);exact WZ (u (by omega) _ p) (l.lt p t)
        exact VE (this (j-1-m-1) (by omega) _ (by rw [show m+(j-1-m-1)+1=j-1 by omega];exact f))
      intro e;have w:SV y.1 x.1=true:=bE C B;rw [e,r,XT] at w;cases w
     ·cases o
    rw [this];rfl
   ·rw [if_neg r];cases Ue (b.take j) k<;>rfl
  | false =>
   rw [if_neg (show ¬ X5 a b i j=true by rw [g];decide)] at c;rw [if_neg (show ¬ (false=true) by decide)];simp only;rw [iP,c,xr,Zo,YT,hM]
theorem qP {a b:List Tj} (va:VL a) (e:VL b) (c:Bool) (k:Xh):Ue (VX a b c (a.length+b.length)).2.2.1 k=((Ue a k).or (Ue b k)).filter λx => !(c&&x.2.2.1):=by
 have f:=XS va e c (eb (a.length+b.length));obtain ⟨d,hs⟩:=WQ va e (eb (a.length+b.length));show Ue (WG (s0 c) (UB a b (a.length+b.length))) k=_;rw [cm k f,if_neg (by simp),an va e k (eb _)];rw [eo (by have:=d.ia;have:=d.jb;omega),eo (by have:=d.ia;have:=d.jb;omega)]
end
section
open Go Sv
def Zs (f:Nat->Option Tj):Nat->Nat->Option Tj
 | _,0=>none
 | i,m+1=>(f i).or (Zs f (i+1) m)
theorem gZ (f:Nat->Option Tj) : ∀ (m i:Nat),Zs f (i+1) m=Zs (λj=>f (j+1)) i m
 | 0,_=>rfl
 | m+1,i=>by
  show (f (i+1)).or (Zs f (i+1+1) m)=(f (i+1)).or (Zs (λj=>f (j+1)) (i+1) m);rw [gZ f m (i+1)]
theorem YU {f g:Nat->Option Tj} : ∀ (m i:Nat),(∀ j,i<=j->j<i+m->f j=g j)->Zs f i m=Zs g i m
 | 0,_,_=>rfl
 | m+1,i,h=>by
  show (f i).or (Zs f (i+1) m)=(g i).or (Zs g (i+1) m);rw [h i (by omega) (by omega),YU m (i+1) λj a b=>h j (by omega) (by omega)]
theorem cG : ∀ (m i:Nat),Zs (λ_=>none) i m=none
 | 0,_=>rfl
 | m+1,i=>by show (none:Option Tj).or _=_;rw [tk];exact cG m (i+1)
theorem ai (f:Nat->Option Tj) : ∀ (p i q:Nat),Zs f i (p+q)=(Zs f i p).or (Zs f (i+p) q)
 | 0,i,q=>by rw [ee];rfl
 | p+1,i,q=>by
  rw [show p+1+q=(p+q)+1 by omega];show (f i).or (Zs f (i+1) (p+q))=((f i).or (Zs f (i+1) p)).or (Zs f (i+(p+1)) q);rw [ai f p (i+1) q,hM,show i+1+p=i+(p+1) by omega]
theorem aA (k:Xh) : ∀ (ls:List (List UO)) (K:Nat),ls.length<=K->VU (Ul ls) k=Zs (λj=>VU (Tp ls j).reverse k) 0 K
 | [],K,_=>by
  have:(λj=>VU (Tp [] j).reverse k)=λ_=>none:=by
   funext j;have:Tp [] j=[]:=rfl
   rw [this];rfl
  rw [this,cG];rfl
 | rs::ls,0,h=>by simp at h
 | rs::ls,K+1,h=>by
  have e:Ul (rs::ls)=rs.reverse++Ul ls:=rfl;rw [e,cz,aA k ls K (by simpa using h)];show _=(VU (Tp (rs::ls) 0).reverse k).or (Zs (λj=>VU (Tp (rs::ls) j).reverse k) (0+1) K);rw [gZ];rfl
theorem iF {s:Th} (v:VSt s) (C:jz s.1) {n:Nat} {j:Job} (r:JobAt s.1 n j) (E : ¬ 0<UA s.1 j) (hc:WC s.1 j=true) (G:Ur j≠[]->s.2.2<=1000000):LF (Vi s j)=LF s.1:=by
 have F:=gY v C r E hc G;obtain ⟨U,W,K,X,Y⟩:=r.out v.lev (C n);have d:j.1.toNat=n:=by rw [K];simp
 obtain ⟨b,c,q,m,B,f,O,t,L,M⟩:=r;have J:=YK.1 B
 have N:UA s.1 j=c.2.length+b.2.length-m:=by
  rw [f];unfold UA;simp only [bl,B];show c.2.length+b.2.length-((m:Int)).toNat=_;rw [bl]
 have u:m=c.2.length+b.2.length:=by omega
 subst u
 have p : ∀ k,Ue (Ur j) k=((Ue c.2 k).or (Ue b.2 k)).filter λx => !(q&&x.2.2.1):=λk=>by
  rw [f];exact qP M L q k
 refine kS λk => ?_;have P:=F.lev.len;have S:=v.lev.len;rw [aA k _ 14 (by omega),aA k _ 14 (by omega)];rw [show 14=n+(1+(13-n)) by omega,ai,ai _ n 0];have w:Ye s j=n\/Ye s j=n+1:=by unfold Ye;rw [d];split<;>omega
 have l:Zs (λi=>VU (Tp (Vi s j).2 i).reverse k) 0 n=Zs (λi=>VU (Tp s.1.2 i).reverse k) 0 n:=YU _ _ λi _ hi=>by
  rw [V1 d,if_neg (by rintro ⟨_,h⟩;omega),if_neg (by omega)]
 rw [l];generalize Zs (λi=>VU (Tp s.1.2 i).reverse k) 0 n=A
 have y:Zs (λi=>VU (Tp (Vi s j).2 i).reverse k) (0+n) (1+(13-n))=(Ue (Ur j) k).or (Zs (λi=>VU (Tp s.1.2 i).reverse k) (n+1) (13-n)):=by
  rw [ee,TT 1];show (VU (Tp (Vi s j).2 n).reverse k).or (Zs (λi=>VU (Tp (Vi s j).2 i).reverse k) (n+1) (13-n))=_;by_cases a:Ur j=[]
  ·rw [V1 d,if_neg (by simp [a]),if_pos rfl,a];refine congrArg _ (YU _ _ λi hi _ => ?_);rw [V1 d,if_neg (by simp [a]),if_neg (by omega)]
  ·rcases w with ht | ht
   ·rw [V1 d,if_pos ⟨a,ht.symm⟩,if_pos rfl]
    have e:VU (([]:List UO)++[(s.2.2,Ur j)]).reverse k=Ue (Ur j) k:=by
     show (Ue (Ur j) k).or none=_;cases Ue (Ur j) k<;>rfl
    rw [e];refine congrArg _ (YU _ _ λi hi _ => ?_);rw [V1 d,if_neg (by rintro ⟨_,h⟩;omega),if_neg (by omega)]
   ·rw [V1 d,if_neg (by rintro ⟨_,h⟩;omega),if_pos rfl];have D:=F.to12 a;rw [show 13-n=(12-n)+1 by omega];show (none:Option Tj).or ((VU (Tp (Vi s j).2 (n+1)).reverse k).or (Zs _ (n+1+1) (12-n)))=(Ue (Ur j) k).or ((VU (Tp s.1.2 (n+1)).reverse k).or (Zs _ (n+1+1) (12-n)));rw [V1 d,if_pos ⟨a,ht.symm⟩,if_neg (by omega),List.reverse_append,tk];have e:VU ([(s.2.2,Ur j)].reverse++(Tp s.1.2 (n+1)).reverse) k=(Ue (Ur j) k).or (VU (Tp s.1.2 (n+1)).reverse k):=rfl;rw [e,hM];refine congrArg _ (congrArg _ (YU _ _ λi hi _ => ?_));rw [V1 d,if_neg (by rintro ⟨_,h⟩;omega),if_neg (by omega)]
 have o:Zs (λi=>VU (Tp s.1.2 i).reverse k) (0+n) (1+(13-n))=((Ue c.2 k).or (Ue b.2 k)).or (Zs (λi=>VU (Tp s.1.2 i).reverse k) (n+1) (13-n)):=by
  rw [ee,TT 1];show (VU (Tp s.1.2 n).reverse k).or _=_;rw [J];refine congrArg (λz=>Option.or z _) ?_;show (Ue c.2 k).or ((Ue b.2 k).or none)=_;cases Ue b.2 k<;>rfl
 rw [y,o,p k];cases q with
 | false =>
  have:((Ue c.2 k).or (Ue b.2 k)).filter (λx => !(false&&x.2.2.1))=(Ue c.2 k).or (Ue b.2 k):=by
   cases (Ue c.2 k).or (Ue b.2 k)<;>simp [l6]
  rw [this]
 | true =>
  have I:Zs (λi=>VU (Tp s.1.2 i).reverse k) (n+1) (13-n)=none:=by
   rw [YU (g:=λ_=>none) _ _ λi hi _ => ?_,cG];have:Tp s.1.2 i=[]:=by unfold Tp;rw [a9 (by have:=t rfl;omega)];rfl
   rw [this];rfl
  rw [I];cases A with
  | some x=>rfl
  | none =>
   cases (Ue c.2 k).or (Ue b.2 k) with
   | none=>rfl
   | some x =>
    cases hd:x.2.2.1<;>simp [l6,Xf,hd]
end
section
open Go Sv
end
section
open Go Sv
end
section
open Go Sv
def UL (l:List UO):Nat:=(l.map λr=>r.2.length).sum
theorem Vk (r:UO) (l:List UO):UL (r::l)=r.2.length+UL l:=by simp [UL]
theorem U8 (l m:List UO):UL (l++m)=UL l+UL m:=by simp [UL]
theorem kG (l:List UO):UL l.reverse=UL l:=by simp [UL]
theorem pz {l:List UO} (h : ∀ r∈l,r.2.length<=5000):UL l<=l.length*5000:=by
 induction l with
 | nil=>simp [UL]
 | cons r l b =>
  rw [Vk,ci];have:=h r (by simp);have:=b λx a=>h x (by simp [a]);omega
theorem Za : ∀ ls:List (List UO),UL (Ul ls)=UL ls.flatten/\(Ul ls).length=ls.flatten.length
 | []=>⟨rfl,rfl⟩
 | rs::ls=>by
  obtain ⟨a,b⟩:=Za ls;have e:Ul (rs::ls)=rs.reverse++Ul ls:=rfl;rw [e,kd,U8,U8,kG,a];simp [b]
theorem qE {S β:Type} {f:S->Option (LR S β)} {r:β} (mk:Int->Nat->S) (n:Nat) {s:S} (b:s=mk ((n:Int)-1) n) (g:n<1000000000) (hs : ∀ k,k<n->f (mk (k:Int) (k+1))=some (.nx (mk ((k:Int)-1) k))) (c:f (mk (-1) 0)=some (.dn r)):loop f s=some r:=by
 subst b
 have a : ∀ k,k<=n->IL (k+1) f (mk ((k:Int)-1) k)=some r:=by
  intro k
  induction k with
  | zero=>intro _;exact US c
  | succ k d =>
   intro e;have:=hs k (by omega);rw [show ((k+1:Nat):Int)-1=(k:Int) by omega,UK this];exact d (by omega)
 exact Uz (by omega) (a n (eb _))
theorem Yj {L:Tl} (v:VLev L):L.2.flatten.length<=24/\UL L.2.flatten<=24*5000:=by
 have b:L.2.flatten.length<=24:=by
  have h:=ZA L.2 v.two;have:=v.len;rw [(Za L.2).2] at h;omega
 refine ⟨b,?_⟩
 have:=pz (l:=L.2.flatten) λr a=>by
  obtain ⟨rs,c,d⟩:=l4.1 a;obtain ⟨i,hi⟩:=en c;exact ((v.lev i rs hi).2 r d).vl.len
 exact ul this (s7 _ b)
def dv (L:Tl):Int×(Int×Int):=if (VW L).2.2≠0 then (0,(0,(VW L).2.2)) else ((UL L.2.flatten:Int),((L.2.flatten.length:Int),0))
theorem jy (L:Tl) (g:L.2.length<=1048576) (n : ∀ rs∈L.2,rs.length<=1048576 /\ ∀ r∈rs,r.2.length<=9223372036854775807):W3 L=some (dv L):=by
 unfold W3 dv;simp only [To,Tn];rw [Ym _ g n,Sx,TQ];by_cases b:(VW L).2.2=0;rotate_left
 ·rw [if_neg b,if_pos b]
 rw [if_pos b,if_neg (by simp [b])];have v:=Xj.1 b;have p:=v.len;obtain ⟨s1,s2⟩:=Yj v
 rw [Uw (l:=L.2) (σ:=Nat×Nat) (s:=((0:Int),((0:Int),(0:Int)))) (λi a=>((i:Int),((a.1:Int),(a.2:Int)))) (λls i a=>a.1+UL ls.flatten=UL L.2.flatten/\a.2+ls.flatten.length=L.2.flatten.length) (λ_ _ _=>(0,(((L.2.length:Int),((UL L.2.flatten:Int),(L.2.flatten.length:Int))),()))) (0,0) rfl (by omega) ⟨by simp,by simp⟩ (λa h=>by
  obtain ⟨c,d⟩:=h;simp only;rw [re,R7,<- c,<- d]
  simp [UL]) (λi rs ls a hd hi e h=>by
   obtain ⟨c,d⟩:=h;rw [kd,U8] at c;rw [kd,hI] at d;have o:=v.two rs (bo hi);refine ⟨(a.1+UL rs,a.2+rs.length),?_,⟨by simp only;omega,by simp only;omega⟩,rfl⟩;simp only;rw [rl e,Sc,Ti,TC hi,Sj (by omega)]
   rw [qE (λk m=>(k,(((a.1+UL (rs.drop m):Nat):Int),((a.2+(rs.length-m):Nat):Int)))) rs.length (by simp [UL]) (by omega) (λk f=>by
    have j:rs[k]? = some rs[k]:=co f;have hd:UL (rs.drop k)=rs[k].2.length+UL (rs.drop (k+1)):=by rw [List.drop_eq_getElem_cons f,Vk]
    have hc:UL (rs.drop k)<=UL rs:=by
     have:=U8 (rs.take k) (rs.drop k);rw [List.take_append_drop] at this;omega
    simp only;rw [TL,if_pos (by omega),Ti,TC j,Sj (by omega),Sh (by omega),Sh (by omega),hd]
    congr 4
    ·omega
    ·congr 1
     omega) (r:=(0,(((-1:Int),(((a.1+UL rs:Nat):Int),((a.2+rs.length:Nat):Int))),()))) rfl,Sx]
   rw [Tv hi (by omega)]),Sx]
theorem iQ {L:Tl} (v:VLev L):Xd L=some ((UL L.2.flatten:Int),((L.2.flatten.length:Int),0)):=by
 unfold Xd;simp only [To,Tn];rw [bA v,Sx];simp only;rw [TQ,if_pos rfl];obtain ⟨s1,s2⟩:=Yj v;obtain ⟨n1,n2⟩:=Za L.2
 rw [Uw (l:=Ul L.2) (σ:=Nat) (s:=((0:Int),(0:Int))) (λi a=>((a:Int),(i:Int))) (λls i a=>a+UL ls=UL L.2.flatten) (λ_ _ _=>(0,(((UL L.2.flatten:Int),((Ul L.2).length:Int)),()))) 0 rfl (by omega) (by rw [n1];simp) (λa h=>by
  simp only
  rw [re,R7,<- h];simp [UL]) (λi r ls a hd hi b h=>by
   rw [Vk] at h;refine ⟨a+r.2.length,?_,by omega,rfl⟩;simp only;rw [rl b,Sc,Ti,TC hi,Sh (by omega),Tv hi (by omega)]
   rfl),Sx,n2]
theorem pq {s:Th} (m:Sm s) (a:Int):YG (s,a)=some (Wb 0 (λs j=>((UA s.1 j:Int),0)) s a):=by
 unfold YG;rw [bz m,Sx];unfold Wb aM YF;by_cases b:(Tk s).2=0;rotate_left
 ·rw [if_pos b,TQ,if_neg b,if_pos b]
 rw [if_neg (show ¬ (Tk s).2≠0 by simp [b]),if_neg (show ¬ (Tk s).2≠0 by simp [b])];have v:=Ts.1 b;cases e:Zh a 0 (Tq 0 s.1.2) with
 | none=>rfl
 | some i =>
  obtain ⟨j,n,c,g,f,d,h⟩:=v.at e;simp only [c];rw [TQ,if_pos rfl,Ti,TC c,(JobAt.left d).1,Sx]
def cg (s:Th) (d:Int):Nat:=match aM s d with
 | some j=>UA s.1 j+1
 | none=>0
theorem VSt.debt {s:Th} (v:VSt s) {d:Int} (h:d∈Tq 0 s.1.2) (m:Sm s):X8 (s,d)=some ((cg s d:Int),0)/\aE (s,d)=some ((cg s d:Int),0)/\cg s d<=10001:=by
 obtain ⟨j,n,b,f,g,c,k⟩:=v.atDue h;have e:(Tk s).2=0:=Ts.2 v;have hd:cg s d=UA s.1 j+1:=by unfold cg;rw [b]
 have i:=(JobAt.left c).2.2
 have a:Wb (0:Int) (λs j=>((UA s.1 j:Int),0)) s d=((UA s.1 j:Int),0):=by
  unfold Wb;rw [if_neg (show ¬ (Tk s).2≠0 by simp [e]),b]
 unfold X8 aE;rw [pq m,Yb m,a,hd,Sx];simp only [Sx];rw [TQ,if_pos rfl,Sh (by omega)];exact ⟨rfl,rfl,by omega⟩
end
section
open Go Sv
end
section
open Go Sv
end
section
open Go Sv
end
section
open Go Sv
end
section
open Go Sv
end
section
open Go Sv
def Gd (s0 s:Th):Prop:=VSt s/\LF s.1=LF s0.1/\UL s.1.2.flatten<=2000
theorem p8 {l:List UO} {r:UO} (h:r∈l):r.2.length<=UL l:=by
 induction l with
 | nil=>cases h
 | cons x l a =>
  rw [Vk];rcases ey.1 h with e | h
  ·rw [e];omega
  ·have:=a h;omega
theorem Zk {L:Tl} (h:UL L.2.flatten<=2000):jz L:=λi r a=>by
 have:=p8 (ak.2 ⟨i,a⟩);omega
theorem cd {s:Th} (v:VSt s) (h:jz s.1) {n:Nat} {j:Job} (g:JobAt s.1 n j) (E : ¬ 0<UA s.1 j):UL (Vi s j).2.flatten<=UL s.1.2.flatten:=by
 obtain ⟨G,I,y,J,K⟩:=g.out v.lev (h n);have w:j.1.toNat=n:=by rw [y];simp
 have a:=h n;obtain ⟨d,e,m,k,u,c,x,F,B,C⟩:=g;have i:=YK.1 u;rw [i] at a;have D:=a d (by simp);have f:=a e (by simp)
 have l:(Ur j).length<=e.2.length+d.2.length:=by
  rw [c];exact (ka C B m x (by omega)).2
 obtain ⟨p,q,f,o⟩:=X4 s.1 n []
 have e1:UL s.1.2.flatten=UL p+((d.2.length+e.2.length)+UL q):=by
  rw [f,i,U8,U8,Vk,Vk];simp [UL]
 have e2:UL (Us s.1 n []).2.flatten=UL p+UL q:=by rw [o,U8,U8];simp [UL]
 unfold Vi;rw [w];by_cases b:Ur j=[]
 ·rw [if_pos b];omega
 ·rw [if_neg b];obtain ⟨z,A,r,t⟩:=X4 (Us s.1 n []) (Ye s j) (Tp (Us s.1 n []).2 (Ye s j)++[(s.2.2,Ur j)]);have e3:UL (Us s.1 n []).2.flatten=UL z+(UL (Tp (Us s.1 n []).2 (Ye s j))+UL A):=by rw [r,U8,U8]
  rw [t,U8,U8,U8,Vk];simp only [UL,List.map_nil,List.sum_nil];simp only [UL] at e3 e2 e1;omega
theorem gU {s:Th} (v:VSt s) {d:Int} (h:d∈Tq 0 s.1.2) : ∃ (i:Nat) (j:Job) (n:Nat),Zh d 0 (Tq 0 s.1.2)=some i/\s.2.1[i]? = some j/\d=(n:Int)/\j.1=(n:Int)/\JobAt s.1 n j:=by
 obtain ⟨i,hi⟩:=cA (k:=0) h;obtain ⟨j,n,a,b,c,d,_⟩:=v.at hi;exact ⟨i,j,n,hi,a,b,c,d⟩
theorem iD {s0 s:Th} (g:Gd s0 s) {d:Int} (h:d∈Tq 0 s.1.2) : ∃ (c:Bool) (t:Th) (b:Bool) (e:Int),XU (s,d)=some (c,0)/\Uu (s,d)=some (t,(b,e))/\(s.2.2<=1000000->c=decide (e=0))/\(e=0->Gd s0 t):=by
 obtain ⟨v,z,hc⟩:=g;have r:=Zk hc;have m:=v.sm;obtain ⟨i,j,n,hi,y,hd,w,q⟩:=gU v h;have A:(Tk s).2=0:=Ts.2 v;have o:aM s d=some j:=by unfold aM;rw [hi];exact y
 have p:XU (s,d)=some (WC s.1 j,0):=by
  rw [tX m];unfold Wb;rw [if_neg (by simp [A]),o]
 have k:Uu (s,d)=some (YM s j):=by
  rw [bn m r];unfold Wa;rw [if_neg (by simp [A]),o]
 refine ⟨WC s.1 j,(YM s j).1,(YM s j).2.1,(YM s j).2.2,p,k,?_⟩;unfold YM;by_cases l:WC s.1 j=false
 ·rw [if_pos l,l];exact ⟨λ_=>by simp,λh=>by cases h⟩
 have a:WC s.1 j=true:=by simpa using l
 rw [if_neg l];by_cases f:0<UA s.1 j
 ·rw [if_pos f];refine ⟨λ_=>by simp [a],λ_=>⟨ko v (by rw [w,<- hd];exact hi) y q f,z,hc⟩⟩
 rw [if_neg f];unfold ZP;rw [if_neg (λh=>h.elim f l)];by_cases u:s.2.2>1000000/\Ur j≠[]
 ·rw [if_pos u];exact ⟨λh=>by omega,λh=>by cases h⟩
 rw [if_neg u]
 have x:Ur j≠[]->s.2.2<=1000000:=λC=>by
  by_cases B:s.2.2>1000000
  ·exact absurd ⟨B,C⟩ u
  ·omega
 refine ⟨λ_=>by simp [a],λ_=>⟨kK v r q f a x,?_,?_⟩⟩
 ·exact (iF v r q f a x).trans z
 ·have:=cd v r q f;show UL (Vi s j).2.flatten<=2000;omega
theorem bx : ∀ {ls:List (List UO)} {i n:Nat},(Tp ls n).length=2->((i+n:Nat):Int)∈Tq i ls
 | [],i,n,h=>by simp [Tp] at h
 | rs::ls,i,0,h=>by
  have h':rs.length=2:=h;rw [Yi,if_pos h'];simp
 | rs::ls,i,n+1,h=>by
  rw [Yi];refine sr _ ?_;have:=bx (ls:=ls) (i:=i+1) (n:=n) h
  rwa [show i+1+n=i+(n+1) by omega] at this
end
section
open Go Sv
def Wj (f:Nat->Nat):Nat->Nat
 | 0=>0
 | m+1=>Wj f m+f m
theorem bH {f g:Nat->Nat} : ∀ {m:Nat},(∀ i,i<m->g i<=f i)->Wj g m<=Wj f m
 | 0,_=>eb _
 | m+1,h=>Nat.add_le_add (bH λi hi=>h i (by omega)) (h m (by omega))
theorem bG {f g:Nat->Nat} {n:Nat} (a:g n+1<=f n) : ∀ {m:Nat},n<m->(∀ i,i<m->i≠n->g i<=f i)->Wj g m+1<=Wj f m
 | 0,h,_=>absurd h (by omega)
 | m+1,h,ho=>by
  unfold Wj;by_cases e:n=m
  ·subst e;have:=bH (f:=f) (g:=g) (m:=n) λi hi=>ho i (by omega) (by omega);omega
  ·have:=bG a (m:=m) (by omega) λi hi=>ho i (by omega);have:=ho m (by omega) (λh=>e h.symm);omega
theorem bm {f g:Nat->Nat} {n:Nat} (a:g n+g (n+1)+1<=f n+f (n+1)) : ∀ {m:Nat},n+1<m->(∀ i,i<m->i≠n->i≠n+1->g i<=f i)->Wj g m+1<=Wj f m
 | 0,h,_=>absurd h (by omega)
 | m+1,h,ho=>by
  unfold Wj;by_cases e:n+1=m
  ·subst e;have:=bH (f:=f) (g:=g) (m:=n) λi hi=>ho i (by omega) (by omega) (by omega);unfold Wj;omega
  ·have:=bm a (m:=m) (by omega) λi hi=>ho i (by omega);have:=ho m (by omega) (by omega) (by omega);omega
theorem ZH : ∀ {js:List Job} {j:Job},(js.map (·.1)).Nodup->j∈js->Um js j.1=some j
 | [],_,_,h=>by cases h
 | i::js,j,hn,h=>by
  rw [nb,ol] at hn;unfold Um;rw [hV];unfold cD;rw [Vq];rcases ey.1 h with e | h
  ·subst e;simp
  ·have a : ¬ j.1=i.1:=λe=>hn.1 (by rw [<- e];exact l5 h);rw [decide_eq_false a];exact ZH hn.2 h
theorem bS : ∀ {js:List Job} {i:Nat} {j:Job} (w:Xm) (d:Int),(js.map (·.1)).Nodup->js[i]? = some j->Um (js.set i (j.1,w)) d=if d=j.1 then some (j.1,w) else Um js d
 | [],i,j,w,d,_,h=>by simp at h
 | x::js,0,j,w,d,hn,h=>by
  have e:x=j:=by simpa using h
  subst e;unfold Um;rw [List.set_cons_zero,hV,hV];unfold cD;rw [Vq];by_cases e:d=x.1<;>simp [e]
 | x::js,i+1,j,w,d,hn,h=>by
  rw [nb,ol] at hn;have h':js[i]? = some j:=by simpa using h
  have b:=bS w d hn.2 h';unfold Um at b ⊢;rw [List.set_cons_succ,hV,hV,b];have c:cD d x=decide (d=x.1):=Vq _ _;rw [c];by_cases e:d=x.1
  ·have a : ¬ d=j.1:=λe2=>hn.1 (by rw [<- e,e2];exact l5 (bo h'));rw [decide_eq_true e];simp only [a,if_false]
  ·rw [decide_eq_false e]
theorem VSt.noJob {s:Th} (v:VSt s) {i:Nat} (h:(Tp s.1.2 i).length≠2):Um s.2.1 (i:Int)=none:=by
 refine Yl λa=>h ?_;rw [v.due] at a;obtain ⟨n,c,d,e,b⟩:=cK a;have:i=n:=by omega
 rw [this,YK.1 b];rfl
theorem VSt.hasJob {s:Th} (v:VSt s) {i:Nat} (h:(Tp s.1.2 i).length=2) : ∃ j,Um s.2.1 (i:Int)=some j:=by
 have a:=bx (i:=0) h;rw [ee,<- v.due] at a;obtain ⟨j,b,e⟩:=ox.1 a;exact ⟨j,by rw [<- e];exact ZH v.nodup b⟩
theorem j8 {s:Th} (v:VSt s) (d:Int):aM s d=Um s.2.1 d:=by
 by_cases h:d∈Tq 0 s.1.2
 ·obtain ⟨j,n,a,hd,b,_⟩:=v.atDue h;rw [a,hd,<- b];refine (ZH v.nodup ?_).symm;unfold aM at a;split at a
  ·exact bo a
  ·cases a
 ·rw [Yl (by rw [v.due];exact h)];unfold aM;split
  ·rename_i i hi;have:=(dz hi).2;exact absurd (bo this) h
  ·rfl
def qz (j:Job):Nat:=j.2.2.2.2.toNat
theorem JobAt.rd {L:Tl} {n:Nat} {j:Job} (h:JobAt L n j) : ∃ a b,Tp L.2 n=[a,b]/\qz j<=b.2.length+a.2.length/\UA L j=b.2.length+a.2.length-qz j/\(0<UA L j->qz (j.1,Yv L j)=qz j+1):=by
 obtain ⟨a,b,c,k,d,rfl,f,g,i,l⟩:=h;have e:=YK.1 d;have e1:(VX b.2 a.2 c k).2.1.2.2=c:=aT _ _ _ _;have e2:(VX b.2 a.2 c k).2.2.2.toNat=k:=by show ((k:Int)).toNat=k;rw [bl]
 refine ⟨a,b,e,?_,?_,λ_ => ?_⟩
 ·show (VX b.2 a.2 c k).2.2.2.toNat<=_;rw [e2];exact f
 ·unfold UA qz;simp only [bl,d]
 ·show (Yv L ((n:Int),VX b.2 a.2 c k)).2.2.2.toNat=(VX b.2 a.2 c k).2.2.2.toNat+1;unfold Yv;simp only [bl,e];rw [e1,e2];show (((k+1:Nat):Int)).toNat=_;rw [bl]
structure StepF (s:Th) (n:Nat) (j:Job) (t:Th) (b:Bool):Prop where
 job:Um s.2.1 (n:Int)=some j
 read:0<UA s.1 j->b=false/\t.1=s.1/\t.2.2=s.2.2 /\ ∀ i:Nat,Um t.2.1 (i:Int)=if i=n then some (j.1,Yv s.1 j) else Um s.2.1 (i:Int)
 inst:UA s.1 j=0->b=true/\t.1=Vi s j/\t.2.2=YP s j/\(∀ i,(Tp t.1.2 i)=if Ur j≠[]/\i=Ye s j then (if i=n then [] else Tp s.1.2 i)++[(s.2.2,Ur j)] else if i=n then [] else Tp s.1.2 i)/\(Ye s j=n\/Ye s j=n+1/\n+1<12/\(Ur j≠[]->(Tp s.1.2 (n+1)).length<2)) /\
  ∀ i:Nat,Um t.2.1 (i:Int)=if (Tp t.1.2 i).length=2 then some ((if i=n then none else Um s.2.1 (i:Int)).getD (Wc t.1 (i:Int))) else none
theorem eV {s0 s:Th} (g:Gd s0 s) {d:Int} (h:d∈Tq 0 s.1.2) (e:(Wa s d).2.2=0) : ∃ (n:Nat) (j:Job),d=(n:Int)/\n<12/\JobAt s.1 n j/\WC s.1 j=true/\StepF s n j (Wa s d).1 (Wa s d).2.1/\Gd s0 (Wa s d).1:=by
 obtain ⟨v,Y,hc⟩:=g;have W:=Zk hc;have m:=v.sm;obtain ⟨c,t,b,er,_,J,_,X⟩:=iD ⟨v,Y,hc⟩ h;rw [bn m W] at J;have w:=Option.some.inj J;obtain ⟨i,j,n,hi,S,hd,u,P⟩:=gU v h;have hz:(Tk s).2=0:=Ts.2 v;have C:aM s d=some j:=by unfold aM;rw [hi];exact S
 have Z:n<12:=by
  have:=v.lev.len;obtain ⟨_,_,_,_,U,_⟩:=P;have:=(a8.1 U).1;omega
 have E:Um s.2.1 (n:Int)=some j:=by rw [<- hd,<- j8 v,C]
 have hS:Wa s d=YM s j:=by unfold Wa;rw [if_neg (by simp [hz]),C]
 have A:Gd s0 (Wa s d).1:=by rw [w];exact X (by rw [<- e,w])
 have k:=A.1;rw [hS] at e k A ⊢;refine ⟨n,j,hd,Z,P,?_,⟨E,λN => ?_,λN => ?_⟩,A⟩
 ·unfold YM at e;by_cases a:WC s.1 j=false
  ·rw [if_pos a] at e;cases e
  ·simpa using a
 ·unfold YM at e ⊢;have a : ¬ WC s.1 j=false:=λa=>by rw [if_pos a] at e;cases e
  rw [if_neg a,if_pos N];refine ⟨rfl,rfl,rfl,λo => ?_⟩;show Um (Zu s j).2.1 _=_;unfold Zu;rw [u,<- hd,hi,gM];show Um (s.2.1.set i (d,Yv s.1 j)) _=_;have:=bS (Yv s.1 j) (o:Int) v.nodup S;rw [u,<- hd] at this;rw [this,hd];by_cases p:o=n
  ·rw [if_pos (by rw [p]),if_pos p]
  ·rw [if_neg (by omega),if_neg p]
 ·unfold YM at e k ⊢;have a : ¬ WC s.1 j=false:=λa=>by rw [if_pos a] at e;cases e
  have q:WC s.1 j=true:=by simpa using a
  have z : ¬ 0<UA s.1 j:=by omega
  rw [if_neg a,if_neg z] at e k ⊢;unfold ZP at e k ⊢;rw [if_neg (λh=>h.elim z a)] at e k ⊢;by_cases O:s.2.2>1000000/\Ur j≠[]
  ·rw [if_pos O] at e;cases e
  rw [if_neg O] at e k ⊢;have B:j.1.toNat=n:=by rw [u];simp
  have G : ∀ i,Tp (Vi s j).2 i=_:=λi=>V1 (s:=s) (j:=j) B i;refine ⟨rfl,rfl,rfl,G,?_,λo => ?_⟩
  ·unfold Ye;rw [B];by_cases hs:Vx s.1 j=true
   ·rw [if_pos hs];exact .inl rfl
   ·rw [if_neg hs]
    have hr:ZR s.1 (n+1)=true:=by
     unfold WC at q;rw [B] at q;simpa [hs,z] using q
    have I:=of_decide_eq_true hr;exact .inr ⟨rfl,I.1,λ_=>I.2⟩
  ·have r:VSt (ZF s (Vi s j) (YP s j) j.1):=k;show Um (ZF s (Vi s j) (YP s j) j.1).2.1 (o:Int)=if (Tp (Vi s j).2 o).length=2 then some ((if o=n then none else Um s.2.1 (o:Int)).getD (Wc (Vi s j) (o:Int))) else none
   have ho:(Tp (ZF s (Vi s j) (YP s j) j.1).1.2 o)=Tp (Vi s j).2 o:=rfl;by_cases K:(Tp (Vi s j).2 o).length=2
   ·rw [if_pos K];have M:=bx (i:=0) K;rw [ee] at M;have F:Wi s (Vi s j) j.1 (o:Int)∈(ZF s (Vi s j) (YP s j) j.1).2.1:=l5 M
    have D:(Wi s (Vi s j) j.1 (o:Int)).1=(o:Int):=by
     have L:(Tq 0 (Vi s j).2).map (λd=>(Wi s (Vi s j) j.1 d).1)=Tq 0 (Vi s j).2:=by
      have:=r.due;simpa [ZF,Tf,Function.comp_def] using this
     have key : ∀ {l:List Int} {f:Int->Int},l.map f=l -> ∀ x∈l,f x=x:=by
      intro l f
      induction l with
      | nil=>intro _ x hx;cases hx
      | cons y l ih =>
       intro h x hx;rw [nb] at h;obtain ⟨k1,k2⟩:=List.cons.inj h;rcases ey.1 hx with rfl | hx
       ·exact k1
       ·exact ih k2 x hx
     exact key L _ M
    have:=ZH r.nodup F;rw [D] at this;rw [this];unfold Wi;rw [u];by_cases p:o=n
    ·rw [if_pos (by omega),if_pos p]
    ·rw [if_neg (by omega),if_neg p]
   ·rw [if_neg K];exact r.noJob (by rw [ho];exact K)
end
section
open Go Sv
def km (s:Th) (i:Nat):Nat:=match Um s.2.1 (i:Int) with
 | some j=>qz j
 | none=>0
def cL (N:Nat) (s:Th) (i:Nat):Nat:=(Tp s.1.2 i).length*(N+1)-km s i
def Yd (N:Nat) (s:Th):Nat:=Wj (cL N s) 12
theorem gT {L:Tl} {n:Nat} {a b:UO} (h:Tp L.2 n=[a,b]):a.2.length+b.2.length<=UL L.2.flatten:=by
 obtain ⟨p,q,c,_⟩:=X4 L n [];rw [c,h,U8,U8,Vk,Vk];omega
theorem VSt.rd0 {s:Th} (v:VSt s) {i:Nat} (h:(Tp s.1.2 i).length≠2):km s i=0:=by
 unfold km;rw [v.noJob h]
theorem kg {N:Nat} {s t:Th} {n:Nat} {j:Job} {b:Bool} (v:VSt s) (B:UL s.1.2.flatten<=N) (r:n<12) (y:JobAt s.1 n j) (F:StepF s n j t b):Yd N t+1<=Yd N s:=by
 obtain ⟨E,G,l,C,D,z⟩:=y.rd;have hc:=gT l
 have hs:cL N s n=2*(N+1)-qz j:=by
  unfold cL km;rw [F.job,l];rfl
 by_cases p:0<UA s.1 j
 ·obtain ⟨_,e1,_,e2⟩:=F.read p;refine bG (n:=n) ?_ r λi _ a => ?_
  ·have m:cL N t n=2*(N+1)-(qz j+1):=by
    unfold cL km;rw [e2,if_pos rfl,e1,l,<- z p];rfl
   omega
  ·unfold cL km;rw [e2,if_neg a,e1];exact eb _
 ·obtain ⟨_,e1,_,e2,e3,o⟩:=F.inst (by omega)
  have d : ∀ i,i≠n -> ¬ (Ur j≠[]/\i=Ye s j)->cL N t i<=cL N s i:=λi a hit=>by
   have e:Tp t.1.2 i=Tp s.1.2 i:=by rw [e2,if_neg hit,if_neg a]
   have c:km t i=km s i:=by
    by_cases c:(Tp s.1.2 i).length=2
    ·obtain ⟨j',k⟩:=v.hasJob c;unfold km;rw [o,e,if_pos c,if_neg a,k];rfl
    ·rw [v.rd0 c];unfold km;rw [o,e,if_neg c]
   unfold cL;rw [e,c];exact eb _
  by_cases m:Ur j≠[]/\Ye s j≠n
  ·obtain ⟨q,u⟩:=m;rcases e3 with e3 | ⟨e3,f,c⟩
   ·exact absurd e3 u
   have c:=c q;refine bm (n:=n) ?_ f λi _ a g=>d i a (by rw [e3];exact λh=>g h.2)
   have w:cL N t n=0:=by
    unfold cL;rw [e2,if_neg (by rw [e3];omega),if_pos rfl];simp
   have x:cL N t (n+1)<=((Tp s.1.2 (n+1)).length+1)*(N+1):=by
    unfold cL;rw [e2,if_pos ⟨q,e3.symm⟩,if_neg (by omega),hI];exact x6 _ _
   have A:cL N s (n+1)=(Tp s.1.2 (n+1)).length*(N+1):=by
    unfold cL;rw [v.rd0 (by omega)];rfl
   rw [yo] at x;omega
  ·refine bG (n:=n) ?_ r λi _ a=>d i a (λh=>m ⟨h.1,by rw [<- h.2];exact a⟩)
   have w:cL N t n<=1*(N+1):=by
    refine ul (x6 _ _) (s7 _ ?_);rw [e2,if_pos rfl];split<;>simp
   omega
theorem cW (L:List (List UO)) : ∀ m,Wj (λi=>(Tp L i).length) m=(L.take m).flatten.length
 | 0=>by simp [Wj]
 | m+1=>by
  unfold Wj;rw [cW L m];by_cases h:m<L.length
  ·have:L.take (m+1)=L.take m++[Tp L m]:=by
    rw [iP,WF h];rfl
   rw [this,List.flatten_append];simp
  ·have:Tp L m=[]:=by unfold Tp;rw [a9 (by omega)];rfl
   rw [this,eo (by omega),eo (by omega)];simp
theorem gq (f:Nat->Nat) (c:Nat) : ∀ m,Wj (λi=>f i*c) m=Wj f m*c
 | 0=>by simp [Wj]
 | m+1=>by unfold Wj;rw [gq f c m,yo]
theorem ke (N:Nat) {s:Th} (v:VSt s):Yd N s<=s.1.2.flatten.length*(N+1):=by
 have a:Yd N s<=Wj (λi=>(Tp s.1.2 i).length*(N+1)) 12:=bH λi _=>x6 _ _;have:=v.lev.len;rw [gq,cW,eo (by omega)] at a;exact a
theorem Zm {L:Tl} (v:VLev L):L.2.flatten.length<=24:=by
 have h:=cW L.2 12;have:=v.len;rw [eo (by omega)] at h;rw [<- h];exact bH (f:=λ_=>2) λi _=>(v.own i).1
end
section
open Go Sv
abbrev du:=(Int×(Int×(Int×jx)))
def bmp (a:jx) (k l:Nat):jx :=
 (TU (neq l 0) (SF .i64 (Oe [a.1,a.2.1,a.2.2.1,a.2.2.2.1,a.2.2.2.2.1,a.2.2.2.2.2.1,a.2.2.2.2.2.2.1,a.2.2.2.2.2.2.2.1,a.2.2.2.2.2.2.2.2.1,a.2.2.2.2.2.2.2.2.2.1,a.2.2.2.2.2.2.2.2.2.2.1,a.2.2.2.2.2.2.2.2.2.2.2] k) 1) a.1,(TU (neq l 1) (SF .i64 (Oe [a.1,a.2.1,a.2.2.1,a.2.2.2.1,a.2.2.2.2.1,a.2.2.2.2.2.1,a.2.2.2.2.2.2.1,a.2.2.2.2.2.2.2.1,a.2.2.2.2.2.2.2.2.1,a.2.2.2.2.2.2.2.2.2.1,a.2.2.2.2.2.2.2.2.2.2.1,a.2.2.2.2.2.2.2.2.2.2.2] k) 1) a.2.1,(TU (neq l 2) (SF .i64 (Oe [a.1,a.2.1,a.2.2.1,a.2.2.2.1,a.2.2.2.2.1,a.2.2.2.2.2.1,a.2.2.2.2.2.2.1,a.2.2.2.2.2.2.2.1,a.2.2.2.2.2.2.2.2.1,a.2.2.2.2.2.2.2.2.2.1,a.2.2.2.2.2.2.2.2.2.2.1,a.2.2.2.2.2.2.2.2.2.2.2] k) 1) a.2.2.1,(TU (neq l 3) (SF .i64 (Oe [a.1,a.2.1,a.2.2.1,a.2.2.2.1,a.2.2.2.2.1,a.2.2.2.2.2.1,a.2.2.2.2.2.2.1,a.2.2.2.2.2.2.2.1,a.2.2.2.2.2.2.2.2.1,a.2.2.2.2.2.2.2.2.2.1,a.2.2.2.2.2.2.2.2.2.2.1,a.2.2.2.2.2.2.2.2.2.2.2] k) 1) a.2.2.2.1,(TU (neq l 4) (SF .i64 (Oe [a.1,a.2.1,a.2.2.1,a.2.2.2.1,a.2.2.2.2.1,a.2.2.2.2.2.1,a.2.2.2.2.2.2.1,a.2.2.2.2.2.2.2.1,a.2.2.2.2.2.2.2.2.1,a.2.2.2.2.2.2.2.2.2.1,a.2.2.2.2.2.2.2.2.2.2.1,a.2.2.2.2.2.2.2.2.2.2.2] k) 1) a.2.2.2.2.1,(TU (neq l 5) (SF .i64 (Oe [a.1,a.2.1,a.2.2.1,a.2.2.2.1,a.2.2.2.2.1,a.2.2.2.2.2.1,a.2.2.2.2.2.2.1,a.2.2.2.2.2.2.2.1,a.2.2.2.2.2.2.2.2.1,a.2.2.2.2.2.2.2.2.2.1,a.2.2.2.2.2.2.2.2.2.2.1,a.2.2.2.2.2.2.2.2.2.2.2] k) 1) a.2.2.2.2.2.1,(TU (neq l 6) (SF .i64 (Oe [a.1,a.2.1,a.2.2.1,a.2.2.2.1,a.2.2.2.2.1,a.2.2.2.2.2.1,a.2.2.2.2.2.2.1,a.2.2.2.2.2.2.2.1,a.2.2.2.2.2.2.2.2.1,a.2.2.2.2.2.2.2.2.2.1,a.2.2.2.2.2.2.2.2.2.2.1,a.2.2.2.2.2.2.2.2.2.2.2] k) 1) a.2.2.2.2.2.2.1,(TU (neq l 7) (SF .i64 (Oe [a.1,a.2.1,a.2.2.1,a.2.2.2.1,a.2.2.2.2.1,a.2.2.2.2.2.1,a.2.2.2.2.2.2.1,a.2.2.2.2.2.2.2.1,a.2.2.2.2.2.2.2.2.1,a.2.2.2.2.2.2.2.2.2.1,a.2.2.2.2.2.2.2.2.2.2.1,a.2.2.2.2.2.2.2.2.2.2.2] k) 1) a.2.2.2.2.2.2.2.1,(TU (neq l 8) (SF .i64 (Oe [a.1,a.2.1,a.2.2.1,a.2.2.2.1,a.2.2.2.2.1,a.2.2.2.2.2.1,a.2.2.2.2.2.2.1,a.2.2.2.2.2.2.2.1,a.2.2.2.2.2.2.2.2.1,a.2.2.2.2.2.2.2.2.2.1,a.2.2.2.2.2.2.2.2.2.2.1,a.2.2.2.2.2.2.2.2.2.2.2] k) 1) a.2.2.2.2.2.2.2.2.1,(TU (neq l 9) (SF .i64 (Oe [a.1,a.2.1,a.2.2.1,a.2.2.2.1,a.2.2.2.2.1,a.2.2.2.2.2.1,a.2.2.2.2.2.2.1,a.2.2.2.2.2.2.2.1,a.2.2.2.2.2.2.2.2.1,a.2.2.2.2.2.2.2.2.2.1,a.2.2.2.2.2.2.2.2.2.2.1,a.2.2.2.2.2.2.2.2.2.2.2] k) 1) a.2.2.2.2.2.2.2.2.2.1,(TU (neq l 10) (SF .i64 (Oe [a.1,a.2.1,a.2.2.1,a.2.2.2.1,a.2.2.2.2.1,a.2.2.2.2.2.1,a.2.2.2.2.2.2.1,a.2.2.2.2.2.2.2.1,a.2.2.2.2.2.2.2.2.1,a.2.2.2.2.2.2.2.2.2.1,a.2.2.2.2.2.2.2.2.2.2.1,a.2.2.2.2.2.2.2.2.2.2.2] k) 1) a.2.2.2.2.2.2.2.2.2.2.1,TU (neq l 11) (SF .i64 (Oe [a.1,a.2.1,a.2.2.1,a.2.2.2.1,a.2.2.2.2.1,a.2.2.2.2.2.1,a.2.2.2.2.2.2.1,a.2.2.2.2.2.2.2.1,a.2.2.2.2.2.2.2.2.1,a.2.2.2.2.2.2.2.2.2.1,a.2.2.2.2.2.2.2.2.2.2.1,a.2.2.2.2.2.2.2.2.2.2.2] k) 1) a.2.2.2.2.2.2.2.2.2.2.2)))))))))))
end
section
open Go Sv
def Vj (s:Th):Int:=if (U1 s).2≠0 then (U1 s).2 else (Wa s (U1 s).1).2.2
def Xk (s:Th):Th:=(Wa s (U1 s).1).1
def ap (s:Th):Int×Bool:=((U1 s).1,(Wa s (U1 s).1).2.1)
def Uf:Nat->Th->Th×(List (Int×Bool)×Int)
 | 0,s=>(s,([],0))
 | n+1,s=>if Vj s=4 then (s,([],0)) else if Vj s≠0 then (s,([],Vj s)) else ((Uf n (Xk s)).1,(ap s::(Uf n (Xk s)).2.1,(Uf n (Xk s)).2.2))
theorem Zl {s:Th} : ∀ {l:List Int} {d:Int},WI s l=some d -> ∃ p q,l=p++d::q/\(Wb false (λs j=>(WC s.1 j,0)) s d).1=true /\ ∀ x∈p,¬ (Wb false (λs j=>(WC s.1 j,0)) s x).1=true
 | [],_,h=>by cases h
 | x::l,d,h=>by
  unfold WI at h;split at h
  ·rename_i a;cases h;exact ⟨[],l,rfl,a,λ_ h=>by cases h⟩
  ·rename_i a;obtain ⟨p,q,rfl,b,c⟩:=Zl h
   exact ⟨x::p,q,rfl,b,λy hy=>by
    rcases ey.1 hy with rfl | hy
    ·exact a
    ·exact c y hy⟩
theorem ao {s:Th} (v:VSt s):((U1 s).2=4/\s.2.1=[])\/(U1 s).2=9\/((U1 s).2=0/\(U1 s).1∈Tq 0 s.1.2):=by
 have a:(Tk s).2=0:=Ts.2 v;unfold U1;rw [if_neg (by simp [a])];by_cases h:Tq 0 s.1.2=[]
 ·rw [if_pos h];refine .inl ⟨rfl,?_⟩;have:=v.due;rw [h] at this;simpa using this
 ·rw [if_neg h];cases hc:WI s (Tq 0 s.1.2) with
  | none=>exact .inr (.inl rfl)
  | some d =>
   obtain ⟨p,q,e,_⟩:=Zl hc;exact .inr (.inr ⟨rfl,by rw [e];simp⟩)
theorem ic (s:Th) (j:Job):(YM s j).2.2≠4:=by
 unfold YM;split
 ·simp
 ·split
  ·simp
  ·unfold ZP;split
   ·simp
   ·split<;>simp
theorem lB {s:Th} (v:VSt s) {d:Int} (h:d∈Tq 0 s.1.2):(Wa s d).2.2≠4:=by
 have b:(Tk s).2=0:=Ts.2 v;obtain ⟨j,n,a,_⟩:=v.atDue h;unfold Wa;rw [if_neg (by simp [b]),a];exact ic s j
theorem X6 {s0 s:Th} (g:Gd s0 s):U9 s=some (U1 s)/\U6 s=some (U1 s):=⟨pw g.1.sm,iR g.1.sm⟩
theorem Zy {s0 s:Th} (g:Gd s0 s) (d:Int):Uu (s,d)=some (Wa s d)/\VN (s,d)=some (Wa s d) :=
 ⟨bn g.1.sm (Zk g.2.2) d,iS g.1.sm (Zk g.2.2) d⟩
theorem dD {s0 s:Th} (g:Gd s0 s) (e:Vj s=0):(U1 s).2=0/\(U1 s).1∈Tq 0 s.1.2/\(Wa s (U1 s).1).2.2=0:=by
 unfold Vj at e;rcases ao g.1 with h | h | h
 ·rw [if_pos (by rw [h.1];decide),h.1] at e;cases e
 ·rw [if_pos (by rw [h];decide),h] at e;cases e
 ·rw [if_neg (by simp [h.1])] at e;exact ⟨h.1,h.2,e⟩
theorem XQ {s0 s:Th} (g:Gd s0 s) (e:Vj s=0) : ∃ (n:Nat) (j:Job),(ap s).1=(n:Int)/\n<12/\JobAt s.1 n j/\WC s.1 j=true/\StepF s n j (Xk s) (ap s).2/\Gd s0 (Xk s):=by
 obtain ⟨_,a,b⟩:=dD g e;exact eV g a b
theorem dE {s0 s:Th} (g:Gd s0 s) (e:Vj s=4):(U1 s).2=4/\s.2.1=[]:=by
 unfold Vj at e;rcases ao g.1 with h | h | h
 ·exact h
 ·rw [if_pos (by rw [h];decide),h] at e;cases e
 ·rw [if_neg (by simp [h.1])] at e;exact absurd e (lB g.1 h.2)
theorem aO {s0 s:Th} {N:Nat} (g:Gd s0 s) (a:UL s.1.2.flatten<=N) (e:Vj s=0):Yd N (Xk s)+1<=Yd N s/\UL (Xk s).1.2.flatten<=N:=by
 obtain ⟨n,j,_,d,c,_,F,_⟩:=XQ g e;refine ⟨kg g.1 a d c F,?_⟩;by_cases b:0<UA s.1 j
 ·rw [(F.read b).2.1];exact a
 ·rw [(F.inst (by omega)).2.1];exact ul (cd g.1 (Zk g.2.2) c b) a
theorem Zw {s0:Th} {N:Nat} : ∀ {n:Nat} {s:Th},Gd s0 s->UL s.1.2.flatten<=N->(Uf n s).2.1.length<=n/\(Uf n s).2.1.length+Yd N (Uf n s).1<=Yd N s/\Gd s0 (Uf n s).1/\UL (Uf n s).1.1.2.flatten<=N/\((Uf n s).2.2=0->(Uf n s).2.1.length<n->(Uf n s).1.2.1=[])
 | 0,s,g,hN=>⟨eb _,by simp [Uf],g,hN,λ_ h=>absurd h (by simp [Uf])⟩
 | n+1,s,g,hN=>by
  unfold Uf;by_cases b:Vj s=4
  ·rw [if_pos b];exact ⟨by simp,by simp,g,hN,λ_ _=>(dE g b).2⟩
  ·rw [if_neg b];by_cases a:Vj s=0
   ·rw [if_neg (by simp [a])];obtain ⟨_,_,_,_,_,_,_,d⟩:=XQ g a;obtain ⟨m,f⟩:=aO g hN a;obtain ⟨i,o,j,k,l⟩:=Zw (n:=n) d f;refine ⟨by simpa using i,?_,j,k,λc e=>l c (by simpa using e)⟩;simp only [ci];omega
   ·rw [if_pos a];exact ⟨by simp,by simp,g,hN,λc=>absurd c a⟩
theorem dZ : ∀ (n m:Nat) (s:Th),Uf (n+m) s=if (Uf n s).2.2≠0 then Uf n s else ((Uf m (Uf n s).1).1,((Uf n s).2.1++(Uf m (Uf n s).1).2.1,(Uf m (Uf n s).1).2.2))
 | 0,m,s=>by rw [ee];simp [Uf]
 | n+1,m,s=>by
  rw [show n+1+m=(n+m)+1 by omega];have d:=dZ n m (Xk s);simp only [Uf];by_cases a:Vj s=4
  ·simp only [a,if_true];cases m with
   | zero=>simp [Uf]
   | succ m=>simp [Uf,a]
  ·simp only [a,if_false];by_cases b:Vj s=0
   ·simp only [b,ne_eq,not_true_eq_false,if_false];rw [d];by_cases c:(Uf n (Xk s)).2.2=0
    ·simp [c]
    ·simp [c]
   ·simp [b]
def uI (u:du) (x:Int×Bool):du:=(SF .i64 u.1 1,(u.2.1,(if x.2=true then SF .i64 u.2.2.1 1 else u.2.2.1,bmp u.2.2.2 x.1.toNat x.1.toNat)))
def qo (u:du) (l:List (Int×Bool)):du:=l.foldl uI u
end
section
open Go Sv
theorem gP {α β γ:Type} {f:α->Option (LR α β)} {K:β->Option γ} {R:Option γ} (Inv:α->Prop) (Q:β->Prop) (m:α->Nat) {s:α} (hs:Inv s) (b:m s<18446744073709551616)
  (step : ∀ s,Inv s->(∃ s',f s=some (.nx s')/\Inv s'/\m s'<m s)\/(∃ x,f s=some (.dn x)/\Q x)) (a : ∀ x,Q x->K x=R):bd (loop f s) K=R:=by
 obtain ⟨x,e,q⟩:=SM Inv Q m hs b step;rw [e];exact a x q
theorem gQ {β:Type} (n:Nat) (x y:Unit->Option β):br (neq n 0) x y=if n=0 then x () else y ():=by
 rw [Sy]
def Yg (s:Th) (g:Int):Int:=if (Tk s).2≠0 then (Tk s).2 else if g<0\/g>1000000 then 7 else 0
theorem qy {s0 s:Th} (g:Gd s0 s):Vj s=4/\(U1 s).2=4\/Vj s≠4/\Vj s≠0/\(U1 s).2≠4/\((U1 s).2=Vj s\/(U1 s).2=0/\(Wa s (U1 s).1).2.2=Vj s)\/Vj s=0/\(U1 s).2=0/\(Wa s (U1 s).1).2.2=0:=by
 by_cases a:Vj s=4
 ·exact .inl ⟨a,(dE g a).1⟩
 ·by_cases b:Vj s=0
  ·have:=dD g b;exact .inr (.inr ⟨b,this.1,this.2.2⟩)
  ·refine .inr (.inl ⟨a,b,?_⟩);unfold Vj at a b ⊢;by_cases c:(U1 s).2≠0
   ·rw [if_pos c] at a ⊢;exact ⟨a,.inl rfl⟩
   ·have d:(U1 s).2=0:=by simpa using c
    rw [if_neg c];rw [d];exact ⟨by decide,.inr ⟨rfl,rfl⟩⟩
theorem AAG {u:du} {x:Int×Bool} (h:0<=u.1/\u.1<=1000000):(uI u x).1=u.1+1:=by
 show SF .i64 u.1 1=_;exact Sh (by omega)
def At (s0:Th) (g:Int) (T:Th×((List Int×du)×Int)) (k:Nat) (s:Th) (l:List Int) (u:du):Prop:=Gd s0 s/\0<=u.1/\u.1+k=g/\g<=1000000/\(l.length:Int)=u.1/\T=((Uf k s).1,((l++(Uf k s).2.1.map (·.1),qo u (Uf k s).2.1),(Uf k s).2.2))
theorem At.step {s0 s:Th} {g:Int} {T:Th×((List Int×du)×Int)} {k:Nat} {l:List Int} {u:du} (a:At s0 g T (k+1) s l u) (e:Vj s=0):At s0 g T k (Xk s) (l++[(ap s).1]) (uI u (ap s)):=by
 obtain ⟨c,h,i,d,j,f⟩:=a;obtain ⟨_,_,_,_,_,_,_,b⟩:=XQ c e;have m:=AAG (x:=ap s) (show 0<=u.1/\u.1<=1000000 by omega);refine ⟨b,by omega,by omega,d,by simp;omega,?_⟩;rw [f];simp only [Uf,e,ne_eq,not_true_eq_false,if_false,nb,List.append_assoc,List.cons_append,oj];rfl
theorem At.none {s0 s:Th} {g:Int} {T:Th×((List Int×du)×Int)} {k:Nat} {l:List Int} {u:du} (a:At s0 g T k s l u) (e:Vj s=4):T=(s,((l,u),0)):=by
 rw [a.2.2.2.2.2];cases k<;>simp [Uf,e,qo]
theorem At.fail {s0 s:Th} {g:Int} {T:Th×((List Int×du)×Int)} {k:Nat} {l:List Int} {u:du} (a:At s0 g T (k+1) s l u) (c:Vj s≠4) (b:Vj s≠0):T=(s,((l,u),Vj s)):=by
 rw [a.2.2.2.2.2];simp [Uf,c,b,qo]
theorem At.last {s0 s:Th} {g:Int} {T:Th×((List Int×du)×Int)} {l:List Int} {u:du} (a:At s0 g T 0 s l u):T=(s,((l,u),0)):=by
 rw [a.2.2.2.2.2];simp [Uf,qo]
theorem aX {s:Th} {g:Int} (h:(Tk s).2≠0):Yg s g=(Tk s).2:=if_pos h
theorem Yw {s:Th} {g:Int} (a:(Tk s).2=0) (h:g<0\/g>1000000):Yg s g=7:=by unfold Yg;rw [if_neg (by simp [a]),if_pos h]
theorem aW {s:Th} {g:Int} (a:(Tk s).2=0) (h : ¬ (g<0\/g>1000000)):Yg s g=0:=by unfold Yg;rw [if_neg (by simp [a]),if_neg h]
end
section
open Go Sv
def po (s:Th):Int×(List (List UO)×(List Job×Int)):=(s.1.1,(s.1.2,s.2))
end
end Go.Proofs.YtfipnhjfbebeiaaGreatDoor.Pl
