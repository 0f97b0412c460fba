/- Functions of the program and of the specification as plain functions, and laws about them. No condition. -/
import Derived.Test.YtfipnhjfbebeiabGreatDoorPl1
import Derived.KernelRfl
set_option linter.all false
open List renaming filter_cons->yk, find?_append->xw, find?_cons->iz, find?_some->yr, flatten_cons->li, foldl_cons->iP, getElem?_eq_getElem->eg, getElem?_eq_none->a9, getElem?_eq_some_iff->a8, getElem?_of_mem->eo, getElem?_take->q9, length_append->hM, length_cons->ci, length_map->sw, length_nil->co, length_pos_iff->eb, length_take->tw, map_cons->kd, map_map->aab, mem_append->ol, mem_append_right->sp, mem_cons->ey, mem_flatten->l5, mem_map->o3, mem_map_of_mem->l6, mem_of_find?_eq_some->vL, mem_of_getElem?->bo, nil_append->ox, nodup_cons->oy, sum_cons->wl, take_add_one->gM, take_of_length_le->en
open Nat renaming add_comm->aae, add_mul->aah, le_refl->dc, le_trans->tg, mul_le_mul_right->s6, sub_le->x8, zero_add->ee
open Int renaming toNat_natCast->bl
open Option renaming filter->mR, getD_some->hI, none_or->tk, or_assoc->hV, toList_some->xo
namespace Go.Proofs.YtfipnhjfbebeiabGreatDoor.Pl
section
open Go Sv
def zS:Th:=((0,[]),([],0))
def Ur (j:Job):List Tj:=j.2.2.2.1
def Ya (s:Th) (j:Job):Nat:=if V2 s.1 j=true then j.1.toNat else j.1.toNat+1
def Vk (s:Th) (j:Job):Tl:=if Ur j=[] then Uu s.1 j.1.toNat [] else Uu (Uu s.1 j.1.toNat []) (Ya s j) (To (Uu s.1 j.1.toNat []).2 (Ya s j)++[(s.2.2,Ur j)])
def YL (s:Th) (j:Job):Int:=if Ur j=[] then s.2.2 else s.2.2+1
def ZS (s:Th) (j:Job):Th×Int :=
 if 0<UA s.1 j\/WE s.1 j=false then (zS,9) else if s.2.2>1000000/\Ur j≠[] then (zS,5) else (ZG s (Vk s j) (YL s j) j.1,0)
theorem bQ : ∀ (ls:List (List UN)) (i:Nat),(Tp i ls).Nodup /\ ∀ d∈Tp i ls,(i:Int)<=d
 | [],_=>⟨.nil,λ_ h=>by cases h⟩
 | rs::ls,i=>by
  obtain ⟨b,a⟩:=bQ ls (i+1);rw [XK];by_cases h:rs.length=2
  ·rw [if_pos h];refine ⟨oy.2 ⟨λc => ?_,b⟩,λd hd => ?_⟩
   ·have:=a _ c;omega
   ·rcases ey.1 hd with e | hd
    ·omega
    ·have:=a d hd;omega
  ·rw [if_neg h];exact ⟨b,λd hd=>by have:=a d hd;omega⟩
theorem VSt.nodup {s:Th} (v:VSt s):(s.2.1.map (·.1)).Nodup:=by rw [v.due];exact (bQ _ _).1
theorem JobAt.out {L:Tl} {n:Nat} {j:Job} (h:JobAt L n j) (v:VLev L) (hs:(∀ r∈To L.2 n,r.2.length<=2000)):VL (Ur j)/\((Ur j).length:Int)<=2*Uo L.1 n/\j.1=(n:Int)/\n<12/\To L.2 n≠[]:=by
 obtain ⟨a,b,d,k,e,rfl,i,_,l,m⟩:=h;have c:To L.2 n=[a,b]:=by unfold To;rw [e];rfl
 have s:=hs a (by rw [c];simp);have t:=hs b (by rw [c];simp);have u:=((v.own n).2 a (by rw [c];simp)).le;have w:=((v.own n).2 b (by rw [c];simp)).le;obtain ⟨f,g⟩:=kD m l d i (by omega);have p:=(a8.1 e).1;have q:=v.len;refine ⟨f,?_,rfl,by omega,by rw [c];simp⟩
 have o:((Ur ((n:Int),Vc b.2 a.2 d k)).length:Int)<=(b.2.length:Int)+(a.2.length:Int):=by
  have:(Ur ((n:Int),Vc b.2 a.2 d k)).length<=b.2.length+a.2.length:=g;omega
 omega
def jZ (L:Tl):Prop := ∀ i,∀ r∈To L.2 i,r.2.length<=2000
structure InstF (s:Th) (n:Nat) (j:Job):Prop where
 l1:VLev (Uu s.1 n [])
 to12:Ur j≠[]->Ya s j<12
 vr:Ur j≠[]->VR (Uo s.1.1 (Ya s j)) (s.2.2,Ur j)
 id : ∀ y∈(Uu s.1 n []).2.flatten,y.1≠s.2.2
 room:Ur j≠[]->(To (Uu s.1 n []).2 (Ya s j)).length<2
 lev:VLev (Vk s j)
theorem gR {s:Th} (v:VSt s) (A:jZ s.1) {n:Nat} {j:Job} (z:JobAt s.1 n j) (G : ¬ 0<UA s.1 j) (hc:WE s.1 j=true) (x:Ur j≠[]->s.2.2<=1000000):InstF s n j:=by
 obtain ⟨C,D,E,t,I⟩:=z.out v.lev (A n);have a:=v.lev.leave (n:=n) t;have e:j.1.toNat=n:=by rw [E];simp
 have b:V2 s.1 j≠true->n+1<12/\(To s.1.2 (n+1)).length<2:=λhs=>by
  unfold WE at hc;rw [show decide (0<UA s.1 j)=false by simp;omega,e] at hc;cases o:V2 s.1 j with
  | true=>exact absurd o hs
  | false =>
   rw [o] at hc;simpa [ZU,To] using hc
 have d : ∀ y∈(Uu s.1 n []).2.flatten,y.1≠s.2.2:=λy r=>by
  obtain ⟨p,q,i,k⟩:=Xu s.1 n [];rw [k,ox] at r
  have B:y∈s.1.2.flatten:=by
   rw [i];rcases ol.1 r with h | h
   ·exact List.mem_append_left _ h
   ·exact sp _ (sp _ h)
  have:=Zs B;have:=v.n3;omega
 have m:Ya s j<12/\(To (Uu s.1 n []).2 (Ya s j)).length<2/\((Ur j).length:Int)<=Uo s.1.1 (Ya s j):=by
  unfold Ya;by_cases hs:V2 s.1 j=true
  ·rw [if_pos hs,e];refine ⟨t,by rw [Wy,if_pos rfl];simp,?_⟩;have c:=hs;unfold V2 at c;rw [e] at c;exact of_decide_eq_true c
  ·rw [if_neg hs,e];obtain ⟨i,k⟩:=b hs;refine ⟨i,by rw [Wy,if_neg (by omega)];exact k,?_⟩;rw [bh];exact D
 obtain ⟨u,w,F⟩:=m;have g:Ur j≠[]->VR (Uo s.1.1 (Ya s j)) (s.2.2,Ur j):=λf=>⟨v.n1,x f,C,f,F⟩;refine ⟨a,λ_=>u,g,d,λ_=>w,?_⟩;unfold Vk;rw [e];by_cases l:Ur j=[]
 ·rw [if_pos l];exact a
 ·rw [if_neg l];exact a.arrive u w (g l) d
theorem bR {s:Th} (v:VSt s) (u:jZ s.1) {n:Nat} {j:Job} (t:JobAt s.1 n j) (w : ¬ 0<UA s.1 j) (hc:WE s.1 j=true) (y:Ur j≠[]->s.2.2<=1000000) (l:Int) :
  (bd (Vt (s.1,(n:Int))) λd=>br (Oa d.2.2 0) (λ_=>br (S6 (Ki (AS j.2.2.2.1)) 0) (λ_=>bd (UX (s,(j,l))) λK=>br (Hg K) (λ_=>bd (UY ((d.1,(SF .i64 (n:Int) 1,(s.2.2,j.2.2.2.1))))) λm=>br (Ry m.2 0) (λ_=>some ((((0,[]),([],0)),m.2))) λ_=>bd (UO ((s,(m.1,(SF .i64 s.2.2 1,(n:Int)))))) λL=>some L) λ_=>bd (UY ((d.1,((n:Int),(s.2.2,j.2.2.2.1))))) λo=>br (Ry o.2 0) (λ_=>some ((((0,[]),([],0)),o.2))) λ_=>bd (UO ((s,(o.1,(SF .i64 s.2.2 1,(n:Int)))))) λM=>some M) λ_=>br (Ry d.2.2 0) (λ_=>some ((((0,[]),([],0)),d.2.2))) λ_=>bd (UO ((s,(d.1,(s.2.2,(n:Int)))))) λN=>some N) λ_=>br (Ry d.2.2 0) (λ_=>some ((((0,[]),([],0)),d.2.2))) λ_=>bd (UO ((s,(d.1,(s.2.2,(n:Int)))))) λk=>some k)
  = some (ZG s (Vk s j) (YL s j) j.1,0):=by
 have F:=gR v u t w hc y;obtain ⟨G,O,g,I,J⟩:=t.out v.lev (u n);have i:j.1.toNat=n:=by rw [g];simp
 have D:=v.n2;have C:=v.n1;have A:=v.jsmall;have a:=F.lev;rw [eI v.lev J,Sx];show (br (Oa 0 0) _ _)=_;rw [TK,if_pos rfl,Tq,Tn,TM];by_cases b:Ur j=[]
 ·rw [if_neg (show ¬ ((j.2.2.2.1.length:Int)>0) by rw [show j.2.2.2.1=[] from b];simp),TQ,if_pos rfl];unfold Vk at a ⊢;rw [if_pos b,i] at a;rw [if_pos b,i,aI v.nodup (by omega) a,Sx];unfold YL;rw [if_pos b,g]
 ·rw [if_pos (show ((j.2.2.2.1.length:Int)>0) by have:=eb.2 b;have h:(Ur j).length=j.2.2.2.1.length:=rfl;omega),bE v.lev g I,Sx,US];have E:(Ur j).length<=1048576:=by have:=G.len;omega
  have B:kR [] (Uo (Uu s.1 n []).1 (Ya s j)) (s.2.2,Ur j)=0:=jy.2 ⟨F.vr b,by simp⟩;have f:=dI F.l1 (F.to12 b) (x:=(s.2.2,Ur j)) E F.id (F.room b);rw [if_neg (by simp [B])] at f
  have z:Vk s j=Uu (Uu s.1 n []) (Ya s j) (To (Uu s.1 n []).2 (Ya s j)++[(s.2.2,Ur j)]):=by
   unfold Vk;rw [if_neg b,i]
  have q:YL s j=s.2.2+1:=by unfold YL;rw [if_neg b]
  rw [<- z] at f;have p:SF .i64 s.2.2 1=s.2.2+1:=Sh (by omega);have r:=aI v.nodup (by omega) a (s.2.2+1) (n:Int);rw [TV];have c:Ya s j=if V2 s.1 j=true then n else n+1:=by unfold Ya;rw [i]
  by_cases hs:V2 s.1 j=true
  ·rw [if_pos hs] at c ⊢;rw [c] at f;have e:UY (Uu s.1 n [],((n:Int),(s.2.2,j.2.2.2.1)))=some (Vk s j,0):=f;rw [e,Sx,TQ,if_pos rfl,p,r,Sx,q,g]
  ·rw [if_neg hs] at c ⊢;rw [c] at f;rw [Tu (by omega)];have e:UY (Uu s.1 n [],(((n+1:Nat):Int),(s.2.2,j.2.2.2.1)))=some (Vk s j,0):=f;rw [e,Sx,TQ,if_pos rfl,p,r,Sx,q,g]
theorem dl {s:Th} (m:Sm s) (k:jZ s.1) (a:Int):WF (s,a)=some (We zS ZS s a):=by
 unfold WF;rw [cd m,Sx];unfold We;by_cases b:(Tk s).2=0;rotate_left
 ·rw [if_pos b,TQ,if_neg b,if_pos b];rfl
 rw [if_neg (show ¬ (Tk s).2≠0 by simp [b]),if_neg (show ¬ (Tk s).2≠0 by simp [b])];have v:=Ts.1 b;unfold aO;cases p:Zl a 0 (Tp 0 s.1.2) with
 | none=>rfl
 | some i =>
  obtain ⟨j,n,l,o,f,g,q⟩:=v.at p;have:=v.lev.len;subst o;simp only [l];unfold UK ZS;rw [TQ,if_pos rfl,Sx,TM];by_cases e:0<UA s.1 j
  ·rw [if_pos (show ((UA s.1 j:Int))>0 by omega),if_pos (.inl e)];rfl
  rw [if_neg (show ¬ ((UA s.1 j:Int))>0 by omega),bu v.lev f (by omega) _ rfl,Sx,US,TV];by_cases hc:WE s.1 j=true;rotate_left
  ·rw [if_neg hc,if_pos (.inr (by simpa using hc))];rfl
  rw [if_pos hc,if_neg (show ¬ (0<UA s.1 j\/WE s.1 j=false) by rw [hc];simp;omega),TM];by_cases d:s.2.2>1000000
  ·rw [if_pos d,Tq,Tn,TM];by_cases c:Ur j=[]
   ·rw [if_neg (show ¬ ((j.2.2.2.1.length:Int)>0) by rw [show j.2.2.2.1=[] from c];simp),if_neg (by simp [c])];exact bR v k g e hc (λh=>absurd c h) _
   ·rw [if_pos (show ((j.2.2.2.1.length:Int)>0) by have:=eb.2 c;have h:(Ur j).length=j.2.2.2.1.length:=rfl;omega),if_pos ⟨d,c⟩];rfl
  ·rw [if_neg d,if_neg (by simp [d])];exact bR v k g e hc (λh=>by omega) _
end
section
open Go Sv
def Yu (L:Tl) (j:Job):Xi:=match To L.2 j.1.toNat with
 | [r0,r1]=>Vc r1.2 r0.2 j.2.2.1.2.2 (j.2.2.2.2.toNat+1)
 | _=>j.2
def Zx (s:Th) (j:Job):Th:=(s.1,(lset s.2.1 ((Zl j.1 0 (Tp 0 s.1.2)).getD 0) (j.1,Yu s.1 j),s.2.2))
theorem kP {s:Th} (m:Sm s) (v:VSt s) {a:Int} {i:Nat} (h:Zl a 0 (Tp 0 s.1.2)=some i) {j:Job} (e:s.2.1[i]? = some j) (t:0<UA s.1 j):YA (s,(a,1))=some (Zx s j,(1,0)):=by
 obtain ⟨j',n,f,y,u,q,D⟩:=v.at h;rw [e] at f;cases f;subst y;have r:(Tk s).2=0:=Ts.2 v
 have l:X8 s (n:Int)=((i:Int),0):=by
  unfold X8;rw [if_neg (show ¬ (Tk s).2≠0 by simp [r]),h]
 have w:=v.jsmall;have hi:=(a8.1 e).1;unfold YA;rw [ua m,Sx,TQ,if_pos r,TP,if_neg (show ¬ ((1:Int)<0) by omega),cC m,Sx,l,TQ,if_pos rfl,Ti,TC e,(JobAt.left q).1,Sx,TK,if_neg (show ¬ ((UA s.1 j:Int)=0) by omega),Ti,TC e];obtain ⟨b,c,d,k,p,rfl,x,C,A,B⟩:=q;have z:To s.1.2 n=[b,c]:=by unfold To;rw [p];rfl
 have o:UA s.1 ((n:Int),Vc c.2 b.2 d k)=c.2.length+b.2.length-k:=by
  unfold UA;simp only [bl,p];show c.2.length+b.2.length-((k:Int)).toNat=_;rw [bl]
 rw [o] at t;have g:=bj B A d x (k:=1);rw [show min 1 (c.2.length+b.2.length-k)=1 by omega] at g;show (bd (Ux (Vc c.2 b.2 d k,((1:Nat):Int))) λE=>_)=_;rw [g,Sx];simp only;rw [TQ,if_pos rfl];unfold UW;rw [Ua (by simp only [AS];omega),Sx,Ti,S3,if_pos (by simp only [AS];exact hi),TC e];unfold Zx Yu;simp only [bl,z,h,hI];have e1:(Vc c.2 b.2 d k).2.1.2.2=d:=aV _ _ _ _;have e2:(Vc c.2 b.2 d k).2.2.2.toNat=k:=by show ((k:Int)).toNat=k;rw [bl]
 rw [e1,e2];rfl
def YI (s:Th) (j:Job):Th×(Bool×Int):=if WE s.1 j=false then (zS,(false,9)) else if 0<UA s.1 j then (Zx s j,(false,0)) else ((ZS s j).1,(Oa (ZS s j).2 0,(ZS s j).2))
def Wd (s:Th) (a:Int):Th×(Bool×Int):=if (Tk s).2≠0 then (zS,(false,(Tk s).2)) else match aO s a with
 | some j=>YI s j
 | none=>(zS,(false,4))
theorem bp {s:Th} (m:Sm s) (g:jZ s.1) (a:Int):Uy (s,a)=some (Wd s a):=by
 unfold Uy;rw [cd m,Sx,dl m g];unfold We Wd;by_cases b:(Tk s).2=0;rotate_left
 ·rw [if_pos b,TQ,if_neg b,if_pos b];rfl
 rw [if_neg (show ¬ (Tk s).2≠0 by simp [b]),if_neg (show ¬ (Tk s).2≠0 by simp [b]),if_neg (show ¬ (Tk s).2≠0 by simp [b])];have v:=Ts.1 b;unfold aO;cases f:Zl a 0 (Tp 0 s.1.2) with
 | none=>rfl
 | some i =>
  obtain ⟨j,n,e,k,d,h,l⟩:=v.at f;have:=v.lev.len;simp only [e];unfold YI UK;rw [TQ,if_pos rfl,bu v.lev d (by omega) _ rfl,Sx,US,TV];cases hc:WE s.1 j with
  | false=>rw [if_neg (by simp),if_pos rfl];rfl
  | true =>
   rw [if_pos rfl,if_neg (by simp),Sx,TM];by_cases c:0<UA s.1 j
   ·rw [if_pos (show ((UA s.1 j:Int))>0 by omega),if_pos c,kP m v f e c];rfl
   ·rw [if_neg (show ¬ ((UA s.1 j:Int))>0 by omega),if_neg c];rfl
end
section
open Go Sv
theorem cO {ls:List (List UN)} {d:Int} (h:d∈Tp 0 ls) : ∃ (n:Nat) (a b:UN),d=(n:Int)/\ls[n]? = some [a,b]:=by
 obtain ⟨k,f⟩:=eo h;obtain ⟨n,c,a,b,e⟩:=Xt f;exact ⟨n,a,b,by rw [c,ee],e⟩
theorem dC {l:List (List UN)} {n:Int} (i:0<n) (h : ∀ x∈l.flatten,x.1<n):WZ l<n:=by
 have f : ∀ (rs:List UN) (m:Int),m<n->(∀ x∈rs,x.1<n)->rs.foldl (λm r=>TY m r.1) m<n:=by
  intro rs
  induction rs with
  | nil=>intro m b _;exact b
  | cons r rs e =>
   intro m b c;rw [iP];refine e _ ?_ λx d=>c x (by simp [d]);rw [XG];have:=c r (by simp);omega
 have two : ∀ (ls:List (List UN)) (m:Int),m<n->(∀ rs∈ls,∀ x∈rs,x.1<n)->ls.foldl (λm rs=>rs.foldl (λm r=>TY m r.1) m) m<n:=by
  intro ls
  induction ls with
  | nil=>intro m b _;exact b
  | cons rs ls e =>
   intro m b c;rw [iP];exact e _ (f rs m b (c rs (by simp))) λg a=>c g (by simp [a])
 exact two l 0 i λrs a x d=>h x (l5.2 ⟨rs,a,d⟩)
theorem pf {l:List (List UN)} (e:l.getLast? ≠ some []) {n:Nat} (a:To l n≠[]) (b : ∀ i,n<i->To l i=[]):l.length=n+1:=by
 have f:n<l.length:=by
  by_cases h:n<l.length
  ·exact h
  ·unfold To at a;rw [a9 (by omega)] at a;exact absurd rfl a
 by_cases c:l.length=n+1
 ·exact c
 ·exfalso;have d:=b (l.length-1) (by omega);refine e ?_;rw [List.getLast?_eq_getElem?,WI (by omega),d]
theorem ae {js:List Job} {d:Int} {j:Job} (h:Uj js d=some j):j∈js/\j.1=d:=by
 unfold Uj at h;have a:=yr h;unfold cI at a;rw [Vw] at a;exact ⟨vL h,(of_decide_eq_true a).symm⟩
theorem je {L:Tl} (v:VLev L) {n:Nat} {b c:UN} (h:L.2[n]? = some [b,c]):JobAt L n (Wf L (n:Int)):=by
 have a:To L.2 n=[b,c]:=by unfold To;rw [h];rfl
 refine ⟨b,c,decide ((n:Int)=(L.2.length:Int)-1),0,h,?_,Nat.zero_le _,λhd => ?_,VR.vl' v (n:=n) (by rw [a];simp),VR.vl' v (n:=n) (by rw [a];simp)⟩
 ·unfold Wf;rw [bl,a]
 ·have:=of_decide_eq_true hd;have:=(a8.1 h).1;omega
theorem pL {s:Th} (v:VSt s) {L:Tl} (t:VLev L) {next a:Int} (E:1<=next) (F:next<=1000001) (G : ∀ x∈L.2.flatten,x.1<next)
  (I : ∀ (n:Nat) (f g:UN),s.1.2[n]? = some [f,g]->(n:Int)≠a->(∃ p q,L.2[n]? = some [p,q])->L.2[n]? = some [f,g]/\(n+1=s.1.2.length->n+1=L.2.length)):VSt (ZG s L next a):=by
 have b : ∀ d∈Tp 0 L.2,(Wm s L a d).1=d /\ ∃ n,JobAt L n (Wm s L a d):=λd hd=>by
  obtain ⟨n,p,q,rfl,r⟩:=cO hd;unfold Wm;cases i:(if (n:Int)=a then none else Uj s.2.1 (n:Int)) with
  | none =>
   rw [Option.getD_none];have h:=je t r;refine ⟨?_,n,h⟩;obtain ⟨_,_,_,_,_,e,_⟩:=h;rw [e]
  | some j =>
   rw [hI];by_cases l:(n:Int)=a
   ·rw [if_pos l] at i;cases i
   rw [if_neg l] at i;obtain ⟨o,c⟩:=ae i;refine ⟨c,n,?_⟩;obtain ⟨m,f,g,D,k,u,rfl,w,y,z,A⟩:=v.job j o;have J:m=n:=by have:(m:Int)=(n:Int):=c;omega
   subst J;obtain ⟨B,C⟩:=I m f g u l ⟨p,q,r⟩;exact ⟨f,g,D,k,B,rfl,w,λh=>C (y h),z,A⟩
 refine ⟨t,E,F,dC (by show 0<next;omega) G,?_,λj o => ?_⟩
 ·show ((Tp 0 L.2).map (Wm s L a)).map (·.1)=Tp 0 L.2;rw [aab]
  conv=>rhs;rw [<- List.map_id (Tp 0 L.2)]
  exact List.map_congr_left λd hd=>(b d hd).1
 ·obtain ⟨d,hd,rfl⟩:=o3.1 o;exact (b d hd).2
theorem YG {l:List (List UN)} {n:Nat} {b c:UN}:l[n]? = some [b,c]<->To l n=[b,c]:=by
 unfold To;constructor
 ·intro h;rw [h];rfl
 ·intro h;cases a:l[n]? with
  | none=>rw [a] at h;cases h
  | some rs=>rw [a] at h;exact congrArg some h
theorem V4 {s:Th} {j:Job} {n:Nat} (b:j.1.toNat=n) (i:Nat):To (Vk s j).2 i=if Ur j≠[]/\i=Ya s j then (if i=n then [] else To s.1.2 i)++[(s.2.2,Ur j)] else if i=n then [] else To s.1.2 i:=by
 unfold Vk;rw [b];by_cases a:Ur j=[]
 ·rw [if_pos a,if_neg (by simp [a]),Wy]
 ·rw [if_neg a,Wy];by_cases hi:i=Ya s j
  ·rw [if_pos hi,if_pos ⟨a,hi⟩,Wy,<- hi]
  ·rw [if_neg hi,if_neg (by simp [hi]),Wy]
theorem jt {s:Th} (v:VSt s) (u:jZ s.1) {n:Nat} {j:Job} (t:JobAt s.1 n j) (B : ¬ 0<UA s.1 j) (hc:WE s.1 j=true) (r:Ur j≠[]->s.2.2<=1000000):VSt (ZG s (Vk s j) (YL s j) j.1):=by
 have F:=gR v u t B hc r;obtain ⟨O,P,w,S,q⟩:=t.out v.lev (u n);have l:j.1.toNat=n:=by rw [w];simp
 have E:=v.n1;have G:=v.n2
 have k:s.2.2<=YL s j/\YL s j<=1000001/\(Ur j≠[]->s.2.2<YL s j):=by
  unfold YL;by_cases d:Ur j=[]
  ·rw [if_pos d];exact ⟨by omega,by omega,λh=>absurd d h⟩
  ·rw [if_neg d];have:=r d;exact ⟨by omega,by omega,λ_=>by omega⟩
 refine pL v F.lev (by omega) k.2.1 (λx L => ?_) (λm z A D C N => ?_)
 ·obtain ⟨i,hi⟩:=ak.1 L;rw [V4 l] at hi
  have b : ∀ {y:UN},y∈(if i=n then [] else To s.1.2 i)->y.1<YL s j:=fun {y} o=>by
   by_cases a:i=n
   ·rw [if_pos a] at o;cases o
   ·rw [if_neg a] at o;have:=Zs (ak.2 ⟨i,o⟩);have:=v.n3;omega
  split at hi
  ·rename_i hh;rcases ol.1 hi with hi | hi
   ·exact b hi
   ·rw [List.mem_singleton.1 hi];exact k.2.2 hh.1
  ·exact b hi
 ·have f:m≠n:=λe=>C (by rw [w,e]);have g:To s.1.2 m=[z,A]:=YG.1 D
  have p : ¬ (Ur j≠[]/\m=Ya s j):=λ⟨d,J⟩=>by
   have:=F.room d;rw [Wy,<- J,if_neg f,g] at this;simp at this
  have c:To (Vk s j).2 m=[z,A]:=by rw [V4 l,if_neg p,if_neg f,g]
  refine ⟨YG.2 c,λM=>(pf F.lev.last (by rw [c];simp) λi hi => ?_).symm⟩;have a:To s.1.2 i=[]:=by unfold To;rw [a9 (by omega)];rfl
  have I:n<s.1.2.length:=by
   by_cases h:n<s.1.2.length
   ·exact h
   ·unfold To at q;rw [a9 (by omega)] at q;exact absurd rfl q
  have K:Ya s j<=n+1:=by unfold Ya;rw [l];split<;>omega
  rw [V4 l,if_neg (by rintro ⟨_,h⟩;omega),a];split<;>rfl
theorem Job.steps {L:Tl} {n:Nat} {j:Job} (f:JobAt L n j) (h:0<UA L j):JobAt L n (j.1,Yu L j):=by
 obtain ⟨a,b,c,k,d,rfl,o,g,l,m⟩:=f;have i:=YG.1 d
 have e:UA L ((n:Int),Vc b.2 a.2 c k)=b.2.length+a.2.length-k:=by
  unfold UA;simp only [bl,d];show b.2.length+a.2.length-((k:Int)).toNat=_;rw [bl]
 rw [e] at h;refine ⟨a,b,c,k+1,d,?_,by omega,g,l,m⟩;unfold Yu;simp only [bl,i];have e1:(Vc b.2 a.2 c k).2.1.2.2=c:=aV _ _ _ _;have e2:(Vc b.2 a.2 c k).2.2.2.toNat=k:=by show ((k:Int)).toNat=k;rw [bl]
 rw [e1,e2]
theorem kQ {s:Th} (v:VSt s) {j:Job} {i n:Nat} (e:Zl j.1 0 (Tp 0 s.1.2)=some i) (a:s.2.1[i]? = some j) (d:JobAt s.1 n j) (c:0<UA s.1 j):VSt (Zx s j):=by
 unfold Zx;rw [e,hI];refine ⟨v.lev,v.n1,v.n2,v.n3,?_,λx hx => ?_⟩
 ·show (s.2.1.set i (j.1,Yu s.1 j)).map (·.1)=_;rw [<- v.due,List.map_set];refine List.ext_getElem? λk => ?_;rw [List.getElem?_set];by_cases b:i=k
  ·subst b;have hi:=(a8.1 a).1;rw [if_pos rfl,sw,if_pos hi,List.getElem?_map,a];rfl
  ·rw [if_neg b]
 ·rcases List.mem_or_eq_of_mem_set hx with hx | hx
  ·exact v.job x hx
  ·rw [hx];exact ⟨n,Job.steps d c⟩
end
section
open Go Sv
theorem qV {B:Int} {M:List (List UN)} {f:(Int×List (List UN))->Option (LR (Int×List (List UN)) (Nat×((Int×List (List UN))×Unit)))} (a:f (B,[])=some (.dn (0,((B,[]),())))) (hs : ∀ k,k<M.length->f (B,M.take (k+1))=if To M k=[] then some (.nx (B,M.take k)) else some (.dn (0,((B,M.take (k+1)),())))) : ∀ k,k<=M.length->IL (k+1) f (B,M.take k)=some (0,((B,M.take (Ye M k)),()))
 | 0,_=>by rw [List.take_zero];exact UR a
 | k+1,hk=>by
  have h:=hs k (by omega);unfold Ye;by_cases b:To M k=[]
  ·rw [if_pos b] at h ⊢;rw [UL h];exact qV a hs k (by omega)
  ·rw [if_neg b] at h ⊢;exact UR h
theorem pF {M:List (List UN)} {k:Nat} (h:k<M.length):M.take (k+1)=M.take k++[To M k]:=by
 rw [gM,WI h];rfl
theorem dS {L:Tl} (s:L.2.length<=1000) {n:Nat} (u:n<1000) {r:List UN} (l:r.length<=1048576) (o : ∀ i,(To L.2 i).length<=1048576):Vj (L,((n:Int),r))=some (Uu L n r):=by
 have t:(Wt L.2 n r).length=max L.2.length (n+1):=by unfold Wt;rw [List.length_set,ZB]
 unfold Vj;simp only [Tq,Tn];refine UI (Y8 (r:=(0,((((max L.2.length (n+1):Nat):Int),(L.1,Wt L.2 n r)),()))) (λk=>((k:Int),(L.1,(Wt L.2 n r).take k))) (max L.2.length (n+1)) (by simp) (by omega) (λk j => ?_) ?_) ?_
 ·have c:((Wt L.2 n r).take k).length=k:=by rw [tw];omega
  simp only [c];rw [pF (by omega),dT,Tu (by omega),TP];by_cases g:k<L.2.length
  ·rw [if_pos (by omega),TL,if_neg (by omega),Ti,TC (WI g),TK];by_cases a:k=n
   ·rw [if_pos (by omega),if_pos a,Ua l,Ua (by simp only [BF,ci,co];omega)];rfl
   ·rw [if_neg (by omega),if_neg a,Ua (o k),Ua (by simp only [BF,ci,co];omega)];rfl
  ·rw [if_neg (by omega),TN,if_pos (by omega),TL,if_pos (by omega),TK];by_cases a:k=n
   ·rw [if_pos (by omega),if_pos a,Ua l,Ua (by simp only [BF,ci,co];omega)];rfl
   ·rw [if_neg (by omega),if_neg a,Ua (by simp only [BF,ci,co];omega)];have:To L.2 k=[]:=by unfold To;rw [a9 (by omega)];rfl
    rw [this];rfl
 ·have c:(Wt L.2 n r).take (max L.2.length (n+1))=Wt L.2 n r:=en (by omega);simp only;rw [TP,if_neg (by omega),TN,if_neg (by omega),c]
 ·have d:=qV (B:=L.1) (M:=Wt L.2 n r) (f:=λb=>br (S6 (b.2.length:Int) 0) (λ_=>R1 (SK .i64 (b.2.length:Int) 1) λp=>ix b.2 p λq=>br (Oa (q.length:Int) 0) (λ_=>R1 (SK .i64 (b.2.length:Int) 1) λh=>gd (CF h b.2.length) λ_=>gd (CF 0 h) λ_=>some (.nx (b.1,D0 b.2 0 h))) λ_=>some (.dn ((0,(b,()))))) λ_=>some (.dn ((0,(b,()))))) rfl (λk j=>by
   have c:((Wt L.2 n r).take (k+1)).length=k+1:=by rw [tw];omega
   have hi:SK .i64 ((k+1:Nat):Int) 1=(k:Int):=by rw [Sj (by omega)];omega
   have m:((Wt L.2 n r).take (k+1))[k]? = some (To (Wt L.2 n r) k):=by rw [q9,if_pos (by omega),WI j]
   simp only [c,hi];rw [TM,if_pos (by omega),Ti,TC m,cJ];by_cases e:To (Wt L.2 n r) k=[]
   ·rw [if_pos e,if_pos e,Ti,Ua (by omega),Ua (by omega)]
    have:D0 ((Wt L.2 n r).take (k+1)) 0 k=(Wt L.2 n r).take k:=by
     unfold D0;rw [List.drop_zero,Nat.sub_zero,List.take_take];congr 1;omega
    rw [this]
   ·rw [if_neg e,if_neg e]) _ (dc _)
  rw [en (dc _)] at d;exact UI (U3 (by omega) d) rfl
end
section
open Go Sv
theorem iL {s:Th} (m:Sm s) (v:VSt s) {a:Int} {i:Nat} (h:Zl a 0 (Tp 0 s.1.2)=some i) {j:Job} (e:s.2.1[i]? = some j) (t:0<UA s.1 j):Xr (s,(a,1))=some (Zx s j,(1,0)):=by
 obtain ⟨j',n,f,z,w,u,E⟩:=v.at h;rw [e] at f;cases f;subst z;have l:(Tk s).2=0:=Ts.2 v
 have o:X8 s (n:Int)=((i:Int),0):=by
  unfold X8;rw [if_neg (show ¬ (Tk s).2≠0 by simp [l]),h]
 have q:We (0:Int) (λs j=>((UA s.1 j:Int),0)) s (n:Int)=((UA s.1 j:Int),0):=by
  unfold We aO;rw [if_neg (show ¬ (Tk s).2≠0 by simp [l]),h];simp only [e]
 have x:=v.jsmall;have hi:=(a8.1 e).1;unfold Xr;rw [ur m,Sx,TK,if_pos l,TP,if_neg (show ¬ ((1:Int)<0) by omega),TQ,if_pos l,YY m,q,Sx,TK,if_pos rfl,TK,if_neg (show ¬ ((UA s.1 j:Int)=0) by omega),TQ,if_pos rfl,ZC m,o,Sx,Ti,TC e];obtain ⟨b,c,d,k,r,rfl,y,D,B,C⟩:=u;have A:To s.1.2 n=[b,c]:=by unfold To;rw [r];rfl
 have p:UA s.1 ((n:Int),Vc c.2 b.2 d k)=c.2.length+b.2.length-k:=by
  unfold UA;simp only [bl,r];show c.2.length+b.2.length-((k:Int)).toNat=_;rw [bl]
 rw [p] at t;have g:=bA C B d y (k:=1);rw [show min 1 (c.2.length+b.2.length-k)=1 by omega] at g;show (bd (UJ (Vc c.2 b.2 d k,((1:Nat):Int))) λF=>_)=_;rw [g,Sx];simp only;rw [Ua (by simp only [AS];omega),Ti,S3,if_pos (by simp only [AS];exact hi),TC e];unfold Zx Yu;simp only [bl,A,h,hI];have e1:(Vc c.2 b.2 d k).2.1.2.2=d:=aV _ _ _ _;have e2:(Vc c.2 b.2 d k).2.2.2.toNat=k:=by show ((k:Int)).toNat=k;rw [bl]
 rw [e1,e2];rfl
theorem iJ {L:Tl} (v:VLev L) {n:Nat} (h:(To L.2 n).length=2):Uw (L,(n:Int))=some (Wf L n,0):=by
 have d:n<L.2.length:=by
  by_cases e:n<L.2.length
  ·exact e
  ·unfold To at h;rw [a9 (by omega)] at h;cases h
 have i:=v.len;obtain ⟨f,g⟩:=v.small;unfold Uw;simp only [Tq,Tn];rw [eR _ f g,Wa v,Sx,TK,if_pos rfl,TP,if_neg (by omega),TL,if_neg (by omega),TK,if_pos rfl,TL,if_neg (by omega),Ti,TC (WI d),TP,if_neg (by omega),TQ,if_pos rfl,ax v d,Sx]
 obtain ⟨b,c,a⟩ : ∃ b c,To L.2 n=[b,c]:=by
  match hq:To L.2 n with
  | [b,c]=>exact ⟨b,c,rfl⟩
  | []=>rw [hq] at h;cases h
  | [_]=>rw [hq] at h;cases h
  | _::_::_::_=>rw [hq] at h;simp at h
 rw [ba _ (by rw [WI d,a]) (VR.vl' v (n:=n) (by rw [a];simp)) (VR.vl' v (n:=n) (by rw [a];simp)),Sx];unfold Wf;rw [bl,a]
end
section
open Go Sv
abbrev ja:=(Int×qM)
def cy (j:Job):ja:=(j.1,(j.2.1.1,(j.2.1.2.1,(j.2.1.2.2.1,(j.2.1.2.2.2.1,(j.2.1.2.2.2.2,(j.2.2.1.1,(j.2.2.1.2.1,(j.2.2.1.2.2,(j.2.2.2.1,j.2.2.2.2))))))))))
theorem hC (p:List Job) (x:Job) (d:Int):Uj (p++[x]) d=(Uj p d).or (if x.1=d then some x else none):=by
 unfold Uj;rw [xw]
 congr 1
 rw [iz];unfold cI;rw [Vw];by_cases h:x.1=d
 ·rw [if_pos h,show decide (d=x.1)=true by simp [h]]
 ·rw [if_neg h,show decide (d=x.1)=false by simp;exact λe=>h e.symm];rfl
theorem jg {s:Th} (w:(s.2.1.map (·.1)).Nodup) (C:s.2.1.length<=1000) (L:Tl) (a:Int) {D:List Int} {i:Nat} {d:Int} (hi:D[i]? = some d):(loop (λ(c:Int×ja)=>br (S8 c.1 (s.2.1.length:Int)) (λ_=>R1 c.1 λm=>ix s.2.1 m λr=>R1 (i:Int) λn=>ix D n λt=>br (Oa r.1 t) (λ_=>R1 (i:Int) λo=>ix D o λu=>br (Ry u a) (λ_=>R1 c.1 λq=>ix s.2.1 q λb=>some (.nx ((SF .i64 c.1 1,(b.1,(b.2.1.1,(b.2.1.2.1,(b.2.1.2.2.1,(b.2.1.2.2.2.1,(b.2.1.2.2.2.2,(b.2.2.1.1,(b.2.2.1.2.1,(b.2.2.1.2.2,b.2.2.2))))))))))))) λ_=>some (.nx (SF .i64 c.1 1,c.2))) λ_=>some (.nx (SF .i64 c.1 1,c.2))) λ_=>some (.dn (((0:Nat),(c,()))))) ((0:Int),cy (Wf L d)))=some (0,(((s.2.1.length:Int),cy (Wm s L a d)),())):=by
 refine Ut (l:=s.2.1) (σ:=Job) (s:=((0:Int),cy (Wf L d))) (λk j=>((k:Int),cy j)) (λls k j => ∃ p,s.2.1=p++ls/\j=(if d=a then none else Uj p d).getD (Wf L d)) (λ_ _ _=>(0,(((s.2.1.length:Int),cy (Wm s L a d)),()))) (Wf L d) rfl (by omega) ⟨[],rfl,by split<;>rfl⟩ (λj h => ?_) (λk x ls j hd y z h => ?_)
 ·obtain ⟨p,e,rfl⟩:=h;rw [List.append_nil] at e;simp only;rw [re,R7,<- e];rfl
 ·obtain ⟨p,e,rfl⟩:=h
  have B:x.1 ∉ p.map (·.1):=λA=>by
   rw [e,List.map_append,List.nodup_append] at w;exact w.2.2 _ A x.1 (by simp) rfl
  refine ⟨(if d=a then none else Uj (p++[x]) d).getD (Wf L d),?_,⟨p++[x],by rw [e];simp,rfl⟩,rfl⟩
  simp only;rw [rl z,Sc,Ti,TC y,Ti,TC hi,TK,Tu (by omega),hC];by_cases f:x.1=d
  ·rw [if_pos f,Ti,TC hi,TQ,Ti,TC y,if_pos f];by_cases g:d=a
   ·rw [if_pos g,if_pos g,if_pos g]
   ·rw [if_neg g,if_neg g,Ym (by rw [<- f];exact B)];rfl
  ·rw [if_neg f,if_neg f];have:(Uj p d).or none=Uj p d:=by cases Uj p d<;>rfl
   rw [this]
theorem aZ {s:Th} (B:(s.2.1.map (·.1)).Nodup) (D:s.2.1.length<=1000) {L:Tl} (v:VLev L) (next b:Int):loop (λ(g:(Int×(Int×((List (List UN))×((List Job)×Int)))))=>br (S8 g.1 ((Tp 0 L.2).length:Int)) (λ_=>R1 g.1 λm=>ix (Tp 0 L.2) m λt=>bd (Uw (((g.2.1,g.2.2.1),t))) λc=>bd (loop (λ(f:Int×ja)=>br (S8 f.1 (s.2.1.length:Int)) (λ_=>R1 f.1 λo=>ix s.2.1 o λu=>R1 g.1 λp=>ix (Tp 0 L.2) p λw=>br (Oa u.1 w) (λ_=>R1 g.1 λq=>ix (Tp 0 L.2) q λx=>br (Ry x b) (λ_=>R1 f.1 λr=>ix s.2.1 r λe=>some (.nx ((SF .i64 f.1 1,(e.1,(e.2.1.1,(e.2.1.2.1,(e.2.1.2.2.1,(e.2.1.2.2.2.1,(e.2.1.2.2.2.2,(e.2.2.1.1,(e.2.2.1.2.1,(e.2.2.1.2.2,e.2.2.2))))))))))))) λ_=>some (.nx (SF .i64 f.1 1,f.2))) λ_=>some (.nx (SF .i64 f.1 1,f.2))) λ_=>some (.dn (((0:Nat),(f,()))))) (((0:Int),(c.1.1,(c.1.2.1.1,(c.1.2.1.2.1,(c.1.2.1.2.2.1,(c.1.2.1.2.2.2.1,(c.1.2.1.2.2.2.2,(c.1.2.2.1.1,(c.1.2.2.1.2.1,(c.1.2.2.1.2.2,c.1.2.2.2)))))))))))) λa=>gd (CF (BF g.2.2.2.1.length [((a.2.1.2.1,((a.2.1.2.2.1,(a.2.1.2.2.2.1,(a.2.1.2.2.2.2.1,(a.2.1.2.2.2.2.2.1,a.2.1.2.2.2.2.2.2.1)))),((a.2.1.2.2.2.2.2.2.2.1,(a.2.1.2.2.2.2.2.2.2.2.1,a.2.1.2.2.2.2.2.2.2.2.2.1)),a.2.1.2.2.2.2.2.2.2.2.2.2))):Job)].length) 1048576) λ_=>some (.nx ((SF .i64 g.1 1,(g.2.1,(g.2.2.1,(Il g.2.2.2.1 ([(a.2.1.2.1,((a.2.1.2.2.1,(a.2.1.2.2.2.1,(a.2.1.2.2.2.2.1,(a.2.1.2.2.2.2.2.1,a.2.1.2.2.2.2.2.2.1)))),((a.2.1.2.2.2.2.2.2.2.1,(a.2.1.2.2.2.2.2.2.2.2.1,a.2.1.2.2.2.2.2.2.2.2.2.1)),a.2.1.2.2.2.2.2.2.2.2.2.2)))]),g.2.2.2.2))))))) λ_=>some (.dn (((0:Nat),(g,()))))) (((0:Int),(L.1,(L.2,(([]:List Job),next)))))=some (0,((((Tp 0 L.2).length:Int),(L.1,(L.2,((Tp 0 L.2).map (Wm s L b),next)))),())):=by
 have G:=v.len;have hd:=VD L.2 0;refine Ut (l:=Tp 0 L.2) (σ:=List Job) (λi js=>((i:Int),(L.1,(L.2,(js,next))))) (λls i js=>js++ls.map (Wm s L b)=(Tp 0 L.2).map (Wm s L b)) (λ_ _ _=>(0,((((Tp 0 L.2).length:Int),(L.1,(L.2,((Tp 0 L.2).map (Wm s L b),next)))),()))) [] rfl (by omega) rfl (λjs h => ?_) (λi d ls js A hi C h => ?_)
 ·simp only;rw [re,R7,<- h];simp
 ·refine ⟨js++[Wm s L b d],?_,by rw [<- h];simp,rfl⟩;obtain ⟨n,I,J,k,E⟩:=cO (bo hi);have y:=iJ v (n:=n) (by rw [YG.1 E];rfl);rw [<- k] at y
  have F:js.length<=1000:=by
   have z:=congrArg List.length h;rw [hM,sw,sw] at z;omega
  simp only;rw [rl C,Sc,Ti,TC hi];have j:Uw ((L.1,L.2),d)=some (Wf L d,0):=y;rw [j,Sx];refine UI (jg B D L b hi) ?_;rw [Ua (by simp only [BF,ci,co];omega),Tu (by omega)];rfl
end
section
open Go Sv
theorem Y7 {α β σ S:Type} {l:List α} (c:Nat) (n:c<=1000) (mk:Nat->σ->S) (I:Nat->σ->Prop) (Q:β->Prop) {f:S->Option (LR S β)} {s:S} (a:σ) (i:s=mk 0 a) (hi:I 0 a)
  (p : ∀ k a,(k=l.length\/k=c)->k<=l.length->I k a -> ∃ r,f (mk k a)=some (.dn r)/\Q r)
  (hc : ∀ k x a,l[k]? = some x->k<c->I k a->(∃ b,f (mk k a)=some (.nx (mk (k+1) b))/\I (k+1) b) \/ ∃ r,f (mk k a)=some (.dn r)/\Q r) : ∃ r,loop f s=some r/\Q r:=by
 refine Wg (l:=l.take c) mk (λ_ k a=>I k a/\k<=(l.take c).length) Q a i (by simp;omega) ⟨hi,by omega⟩ (λa h=>p _ a (by simp;omega) (by simp;omega) h.1) (λk x m a hd e o h => ?_);have d:k<c:=by simp at o;omega
 have g:l[k]? = some x:=by rw [q9] at e;rw [if_pos d] at e;exact e
 rcases hc k x a g d h.1 with ⟨b,h1,j⟩ | h1
 ·exact .inl ⟨b,h1,j,by omega⟩
 ·exact .inr h1
theorem dE {k c:Nat} (h:k<c):S8 (k:Int) (c:Int)=true:=by unfold S8;simp;omega
theorem jk {α β:Type} {l:List α} {k c:Nat} (h:k=l.length\/k=c) (b:k<=l.length) (A B C:Option β) (e:B=C):br (S8 (k:Int) (l.length:Int)) (λ_=>br (S8 (k:Int) (c:Int)) (λ_=>A) λ_=>B) (λ_=>C)=C:=by
 rw [TP];by_cases a:(k:Int)<(l.length:Int)
 ·rw [if_pos a,TP,if_neg (by omega),e]
 ·rw [if_neg a]
end
section
open Go Sv
end
section
open Go Sv
theorem kZ (L:Tl) (n:Nat):XD (L,(n:Int))=some (To L.2 n):=by
 unfold XD;simp only [Tq,Tn];rw [TL];by_cases h:n<L.2.length
 ·rw [if_neg (by omega),Ti,TC (WI h)]
 ·rw [if_pos (by omega)];unfold To;rw [a9 (by omega)];rfl
theorem aw {s:Th} (v:VSt s) (hf:jZ s.1) {n:Nat} {j:Job} (ha:JobAt s.1 n j) (h0 : ¬ 0<UA s.1 j) (hc:WE s.1 j=true) (h5:Ur j≠[]->s.2.2<=1000000) {X:Int} (D:X=(Ya s j:Int)) :
  (bd (Vj ((s.1,((n:Int),[])))) λp=>br (S6 (Ki (AS j.2.2.2.1)) 0) (λ_=>bd (XD (p,X)) λw=>gd (CF (AS w) 1048576) λ_=>gd (CF (BF (AS w) (AS ([(s.2.2,j.2.2.2.1)]))) 1048576) λ_=>bd (Vj ((p,(X,Il w ([(s.2.2,j.2.2.2.1)]))))) λy=>bd (Uh y) λq=>bd (loop (λ(c:(Int×qL))=>br (S8 c.1 (Ki (AS q))) (λ_=>R1 c.1 λE=>ix q E λY=>bd (Uw (((c.2.1,c.2.2.1),Y))) λe=>bd (loop (λ(l:(Int×(Int×qM)))=>br (S8 l.1 (Ki (AS s.2.1))) (λ_=>R1 l.1 λG=>ix s.2.1 G λZ=>R1 c.1 λI=>ix q I λx52=>br (Oa Z.1 x52) (λ_=>R1 c.1 λJ=>ix q J λx54=>br (Ry x54 (n:Int)) (λ_=>R1 l.1 λK=>ix s.2.1 K λg=>some (.nx ((SF .i64 l.1 1,(g.1,(g.2.1.1,(g.2.1.2.1,(g.2.1.2.2.1,(g.2.1.2.2.2.1,(g.2.1.2.2.2.2,(g.2.2.1.1,(g.2.2.1.2.1,(g.2.2.1.2.2,g.2.2.2))))))))))))) λ_=>some (.nx (SF .i64 l.1 1,l.2))) λ_=>some (.nx (SF .i64 l.1 1,l.2))) λ_=>some (.dn ((0,(l,()))))) ((0,(e.1.1,(e.1.2.1.1,(e.1.2.1.2.1,(e.1.2.1.2.2.1,(e.1.2.1.2.2.2.1,(e.1.2.1.2.2.2.2,(e.1.2.2.1.1,(e.1.2.2.1.2.1,(e.1.2.2.1.2.2,e.1.2.2.2)))))))))))) λa=>gd (CF (BF (AS c.2.2.2.1) (AS ([(a.2.1.2.1,((a.2.1.2.2.1,(a.2.1.2.2.2.1,(a.2.1.2.2.2.2.1,(a.2.1.2.2.2.2.2.1,a.2.1.2.2.2.2.2.2.1)))),((a.2.1.2.2.2.2.2.2.2.1,(a.2.1.2.2.2.2.2.2.2.2.1,a.2.1.2.2.2.2.2.2.2.2.2.1)),a.2.1.2.2.2.2.2.2.2.2.2.2)))]))) 1048576) λ_=>some (.nx ((SF .i64 c.1 1,(c.2.1,(c.2.2.1,(Il c.2.2.2.1 ([(a.2.1.2.1,((a.2.1.2.2.1,(a.2.1.2.2.2.1,(a.2.1.2.2.2.2.1,(a.2.1.2.2.2.2.2.1,a.2.1.2.2.2.2.2.2.1)))),((a.2.1.2.2.2.2.2.2.2.1,(a.2.1.2.2.2.2.2.2.2.2.1,a.2.1.2.2.2.2.2.2.2.2.2.1)),a.2.1.2.2.2.2.2.2.2.2.2.2)))]),c.2.2.2.2))))))) λ_=>some (.dn ((0,(c,()))))) ((0,(y.1,(y.2,([],SF .i64 s.2.2 1)))))) λz=>some ((((z.2.1.2.1,z.2.1.2.2.1),z.2.1.2.2.2),0))) λ_=>bd (Uh p) λt=>bd (loop (λ(d:(Int×qL))=>br (S8 d.1 (Ki (AS t))) (λ_=>R1 d.1 λN=>ix t N λx62=>bd (Uw (((d.2.1,d.2.2.1),x62))) λf=>bd (loop (λ(m:(Int×(Int×qM)))=>br (S8 m.1 (Ki (AS s.2.1))) (λ_=>R1 m.1 λO=>ix s.2.1 O λx66=>R1 d.1 λP=>ix t P λx68=>br (Oa x66.1 x68) (λ_=>R1 d.1 λS=>ix t S λx70=>br (Ry x70 (n:Int)) (λ_=>R1 m.1 λU=>ix s.2.1 U λk=>some (.nx ((SF .i64 m.1 1,(k.1,(k.2.1.1,(k.2.1.2.1,(k.2.1.2.2.1,(k.2.1.2.2.2.1,(k.2.1.2.2.2.2,(k.2.2.1.1,(k.2.2.1.2.1,(k.2.2.1.2.2,k.2.2.2))))))))))))) λ_=>some (.nx (SF .i64 m.1 1,m.2))) λ_=>some (.nx (SF .i64 m.1 1,m.2))) λ_=>some (.dn ((0,(m,()))))) ((0,(f.1.1,(f.1.2.1.1,(f.1.2.1.2.1,(f.1.2.1.2.2.1,(f.1.2.1.2.2.2.1,(f.1.2.1.2.2.2.2,(f.1.2.2.1.1,(f.1.2.2.1.2.1,(f.1.2.2.1.2.2,f.1.2.2.2)))))))))))) λb=>gd (CF (BF (AS d.2.2.2.1) (AS ([(b.2.1.2.1,((b.2.1.2.2.1,(b.2.1.2.2.2.1,(b.2.1.2.2.2.2.1,(b.2.1.2.2.2.2.2.1,b.2.1.2.2.2.2.2.2.1)))),((b.2.1.2.2.2.2.2.2.2.1,(b.2.1.2.2.2.2.2.2.2.2.1,b.2.1.2.2.2.2.2.2.2.2.2.1)),b.2.1.2.2.2.2.2.2.2.2.2.2)))]))) 1048576) λ_=>some (.nx ((SF .i64 d.1 1,(d.2.1,(d.2.2.1,(Il d.2.2.2.1 ([(b.2.1.2.1,((b.2.1.2.2.1,(b.2.1.2.2.2.1,(b.2.1.2.2.2.2.1,(b.2.1.2.2.2.2.2.1,b.2.1.2.2.2.2.2.2.1)))),((b.2.1.2.2.2.2.2.2.2.1,(b.2.1.2.2.2.2.2.2.2.2.1,b.2.1.2.2.2.2.2.2.2.2.2.1)),b.2.1.2.2.2.2.2.2.2.2.2.2)))]),d.2.2.2.2))))))) λ_=>some (.dn ((0,(d,()))))) ((0,(p.1,(p.2,([],s.2.2)))))) λA=>some ((((A.2.1.2.1,A.2.1.2.2.1),A.2.1.2.2.2),0)):Option (Th×Int))=some (ZG s (Vk s j) (YL s j) j.1,0):=by
 have F:=gR v hf ha h0 hc h5;obtain ⟨o1,o2,W,o4,o5⟩:=ha.out v.lev (hf n);have hj:j.1.toNat=n:=by rw [W];simp
 have hn2:=v.n2;have hn1:=v.n1;have hjs:=v.jsmall;have o:=F.lev;have hl:=v.lev.len;have hl1:=F.l1.len;have small : ∀ {M:Tl},VLev M -> ∀ i,(To M.2 i).length<=1048576:=λvM i=>by have:=(vM.own i).1;omega
 rw [dS (by omega) (by omega) (by simp) (small v.lev),Sx];simp only [Tq,Tn];rw [TM];by_cases u:Ur j=[]
 ·rw [if_neg (show ¬ ((j.2.2.2.1.length:Int)>0) by rw [show j.2.2.2.1=[] from u];simp)];have B:Vk s j=Uu s.1 n []:=by unfold Vk;rw [if_pos u,hj]
  have C:YL s j=s.2.2:=by unfold YL;rw [if_pos u]
  rw [<- B,aS (by have:=o.len;omega),Sx];refine UI (aZ v.nodup (by omega) o s.2.2 (n:Int)) ?_;rw [C,W];rfl
 ·rw [if_pos (show ((j.2.2.2.1.length:Int)>0) by have:=eb.2 u;have h:(Ur j).length=j.2.2.2.1.length:=rfl;omega),D,kZ,Sx];have hro:=F.room u;have ht:=F.to12 u
  have B:Vk s j=Uu (Uu s.1 n []) (Ya s j) (To (Uu s.1 n []).2 (Ya s j)++[(s.2.2,Ur j)]):=by
   unfold Vk;rw [if_neg u,hj]
  have C:YL s j=s.2.2+1:=by unfold YL;rw [if_neg u]
  rw [Ua (by omega),Ua (by simp only [BF,ci,co];omega)];have hW:=dS (L:=Uu s.1 n []) (n:=Ya s j) (r:=To (Uu s.1 n []).2 (Ya s j)++[(s.2.2,Ur j)]) (by omega) (by omega) (by simp;omega) (small F.l1);rw [<- B] at hW;refine UI (x:=Vk s j) hW ?_;rw [aS (by have:=o.len;omega),Sx,Sh (by omega)];refine UI (aZ v.nodup (by omega) o (s.2.2+1) (n:Int)) ?_;rw [C,W];rfl
theorem dR {s:Th} (m:Sm s) (l:jZ s.1) (a:Int):Wp (s,a)=some (We zS ZS s a):=by
 unfold Wp;rw [eM m,Sx,ZC m,cR m];unfold We;by_cases b:(Tk s).2=0;rotate_left
 ·rw [if_pos b,TQ,if_neg b,if_pos b];rfl
 rw [if_neg (show ¬ (Tk s).2≠0 by simp [b]),if_neg (show ¬ (Tk s).2≠0 by simp [b]),if_neg (show ¬ (Tk s).2≠0 by simp [b])];have v:=Ts.1 b;unfold aO X8;rw [if_neg (show ¬ (Tk s).2≠0 by simp [b])];cases q:Zl a 0 (Tp 0 s.1.2) with
 | none=>rfl
 | some i =>
  obtain ⟨j,n,o,p,f,k,r⟩:=v.at q;have:=v.lev.len;subst p;simp only [o];unfold ZS Z0;by_cases c:0<UA s.1 j
  ·rw [if_pos c,if_pos (.inl c)];rfl
  rw [if_neg c]
  have g:(if V2 s.1 j=true then (j.1,(0:Int)) else (j.1+1,0))=((Ya s j:Int),0):=by
   unfold Ya;split<;>rw [f]<;>simp
  rw [g,TQ,if_pos rfl,Sx,Ti,TC o,Sx,US,TV];by_cases hc:WE s.1 j=true;rotate_left
  ·rw [if_neg hc,if_pos (.inr (by simpa using hc))];rfl
  rw [if_pos hc,if_neg (show ¬ (0<UA s.1 j\/WE s.1 j=false) by rw [hc];simp;omega),TM];by_cases e:s.2.2>1000000
  ·rw [if_pos e,TM];by_cases d:Ur j=[]
   ·rw [if_neg (show ¬ (Ki (AS j.2.2.2.1)>0) by rw [show j.2.2.2.1=[] from d];simp [Tq,Tn]),if_neg (by simp [d])];dsimp only;exact aw v l k c hc (λh=>absurd d h) rfl
   ·rw [if_pos (show Ki (AS j.2.2.2.1)>0 by have:=eb.2 d;have h:(Ur j).length=j.2.2.2.1.length:=rfl;rw [Tq,Tn];omega),if_pos ⟨e,d⟩];rfl
  ·rw [if_neg e,if_neg (by simp [e])];dsimp only;exact aw v l k c hc (λh=>by omega) rfl
theorem iI {s:Th} (m:Sm s) (f:jZ s.1) (a:Int):Yk (s,a)=some (Wd s a):=by
 unfold Yk;rw [cR m,Sx,YY m,dR m f];unfold We Wd;by_cases b:(Tk s).2=0;rotate_left
 ·rw [if_pos b,if_pos b,TK,if_neg b];rw [TQ,if_neg b,if_pos b];rfl
 rw [if_neg (show ¬ (Tk s).2≠0 by simp [b]),if_neg (show ¬ (Tk s).2≠0 by simp [b]),if_neg (show ¬ (Tk s).2≠0 by simp [b]),if_neg (show ¬ (Tk s).2≠0 by simp [b])];have v:=Ts.1 b;unfold aO;cases e:Zl a 0 (Tp 0 s.1.2) with
 | none =>
  simp only;rw [TK,if_neg (by omega),TQ,if_neg (by omega)];rfl
 | some i =>
  obtain ⟨j,n,d,k,g,h,l⟩:=v.at e;simp only [d];unfold YI;rw [TK,if_pos rfl,US,TV];by_cases hc:WE s.1 j=true;rotate_left
  ·rw [if_neg hc,if_pos (by simpa using hc)];rfl
  rw [if_pos hc,if_neg (by simp [hc]),TQ,if_pos rfl,Sx,TM];by_cases c:0<UA s.1 j
  ·rw [if_pos (show ((UA s.1 j:Int))>0 by omega),if_pos c,iL m v e d c];rfl
  ·rw [if_neg (show ¬ ((UA s.1 j:Int))>0 by omega),if_neg c];rfl
end
section
open Go Sv
def Ue (l:List Tj) (k:Xe):Option Tj:=l.find? λx=>decide (x.1=k)
theorem Ul (x:Tj) (l:List Tj) (k:Xe):Ue (x::l) k=if x.1=k then some x else Ue l k:=by
 unfold Ue;rw [iz];by_cases h:x.1=k<;>simp [h]
theorem Zr (l m:List Tj) (k:Xe):Ue (l++m) k=(Ue l k).or (Ue m k):=by
 unfold Ue;rw [xw]
theorem YR (x:Tj) (k:Xe):Ue [x] k=if x.1=k then some x else none:=by rw [Ul];rfl
theorem c0 {l:List Tj} {k:Xe} {x:Tj} (h:Ue l k=some x):x.1=k/\x∈l:=by
 unfold Ue at h;exact ⟨by simpa using yr h,vL h⟩
theorem YQ {l:List Tj} {k:Xe} (h : ∀ x∈l,x.1≠k):Ue l k=none:=by
 unfold Ue;rw [List.find?_eq_none];intro x a;simpa using h x a
theorem ZY : ∀ {l:List Tj} {q:Xe},Asc (some q) l -> ∀ x∈l,SV q x.1=true
 | x::l,q,⟨a,b⟩,y,hy=>by
  rcases ey.1 hy with e | hy
  ·rw [e];exact a q rfl
  ·exact Wc (a q rfl) (ZY b y hy)
theorem gC : ∀ {l m:List Tj} {p q:Option Xe},Asc p l->Asc q m->(∀ k,Ue l k=Ue m k)->l=m
 | [],[],_,_,_,_,_=>rfl
 | [],y::m,_,_,_,_,h=>by
  have:=h y.1;rw [Ul,if_pos rfl] at this;cases this
 | x::l,[],_,_,_,_,h=>by
  have:=h x.1;rw [Ul,if_pos rfl] at this;cases this
 | x::l,y::m,p,q,⟨t,f⟩,⟨s,d⟩,h=>by
  have e1:=h x.1;have e2:=h y.1;rw [Ul,if_pos rfl,Ul] at e1;rw [Ul,Ul,if_pos rfl] at e2
  have g:x.1=y.1:=by
   by_cases b:y.1=x.1
   ·exact b.symm
   ·rw [if_neg b] at e1;rw [if_neg (λe=>b e.symm)] at e2;have n:=ZY d x (c0 e1.symm).2;have j:=ZY f y (c0 e2).2;rw [VH n] at j;cases j
  rw [if_pos g.symm] at e1;have c:x=y:=Option.some.inj e1;subst c;refine congrArg (x::·) (gC f d λk => ?_);have b:=h k;rw [Ul,Ul] at b;by_cases a:x.1=k
  ·have o:Ue l k=none:=YQ λz i=>by
    have:=ZY f z i;rw [a] at this;exact λe=>ZF this e.symm
   have r:Ue m k=none:=YQ λz i=>by
    have:=ZY d z i;rw [a] at this;exact λe=>ZF this e.symm
   rw [o,r]
  ·rw [if_neg a,if_neg a] at b;exact b
theorem ZX (P:Tj->Bool) : ∀ {l:List Tj} {p:Option Xe},Asc p l->Asc p (l.filter P)
 | [],_,_=>trivial
 | x::l,p,⟨b,d⟩=>by
  have c:=ZX P d;rw [yk];cases P x with
  | true=>exact ⟨b,c⟩
  | false =>
   refine c.weak λe a=>⟨x.1,rfl,?_⟩;exact VH (b e a)
theorem Yz (P:Tj->Bool) (k:Xe) : ∀ {l:List Tj} {p:Option Xe},Asc p l->Ue (l.filter P) k=(Ue l k).filter P
 | [],_,_=>rfl
 | x::l,p,⟨h,c⟩=>by
  have d:=Yz P k c;rw [yk,Ul];by_cases a:x.1=k
  ·rw [if_pos a]
   have f:Ue (l.filter P) k=none:=YQ λz g=>by
    have:=ZY c z (List.mem_filter.1 g).1;rw [a] at this;exact λe=>ZF this e.symm
   cases b:P x with
   | true=>rw [if_pos rfl,Ul,if_pos a];simp [mR,b]
   | false=>rw [if_neg (by simp),f];simp [mR,b]
  ·rw [if_neg a];cases b:P x with
   | true=>rw [if_pos rfl,Ul,if_neg a];exact d
   | false=>simpa using d
def aM:List Tj->Tj->List Tj
 | [],x=>[x]
 | y::l,x=>if SV y.1 x.1=true then y::aM l x else if y.1=x.1 then y::l else x::y::l
theorem cZ (x:Tj) : ∀ {l:List Tj} {p:Option Xe},Asc p l->(∀ q,p=some q->SV q x.1=true)->Asc p (aM l x)
 | [],p,_,hp=>⟨hp,trivial⟩
 | y::l,p,⟨d,a⟩,hp=>by
  unfold aM;by_cases h:SV y.1 x.1=true
  ·rw [if_pos h];exact ⟨d,cZ x a λq c=>by cases c;exact h⟩
  ·rw [if_neg h];by_cases b:y.1=x.1
   ·rw [if_pos b];exact ⟨d,a⟩
   ·rw [if_neg b];exact ⟨hp,λq c=>by cases c;exact Zi (by simpa using h) b,a⟩
theorem ca (x:Tj) (k:Xe) : ∀ {l:List Tj} {p:Option Xe},Asc p l->Ue (aM l x) k=(Ue l k).or (if x.1=k then some x else none)
 | [],_,_=>by unfold aM;rw [YR];rfl
 | y::l,p,⟨f,d⟩=>by
  unfold aM;by_cases h:SV y.1 x.1=true
  ·rw [if_pos h,Ul,Ul,ca x k d];split<;>rfl
  ·rw [if_neg h];by_cases b:y.1=x.1
   ·rw [if_pos b,Ul,<- b];by_cases a:y.1=k
    ·rw [if_pos a];rfl
    ·rw [if_neg a,if_neg a];cases Ue l k<;>rfl
   ·rw [if_neg b,Ul];have c:SV x.1 y.1=true:=Zi (by simpa using h) b;by_cases a:x.1=k
    ·rw [if_pos a]
     have:Ue (y::l) k=none:=YQ λz hz=>by
      rw [<- a];rcases ey.1 hz with e | hz
      ·rw [e];exact b
      ·exact λe=>ZF (Wc c (ZY d z hz)) e.symm
     rw [this,if_pos a];rfl
    ·rw [if_neg a,if_neg a];cases Ue (y::l) k<;>rfl
theorem gB (k:Xe) : ∀ (r l:List Tj),Asc none l->Asc none (r.foldl aM l)/\Ue (r.foldl aM l) k=(Ue l k).or (Ue r k)
 | [],l,h=>⟨h,by show Ue l k=_;cases Ue l k<;>rfl⟩
 | x::r,l,h=>by
  obtain ⟨a,b⟩:=gB k r (aM l x) (cZ x h λ_ h=>by cases h);refine ⟨a,?_⟩;rw [iP,b,ca x k h,Ul,hV]
  congr 1
  split<;>rfl
def gq (rs:List UN) (l:List Tj):List Tj:=rs.foldl (λout r=>r.2.foldl aM out) l
def VZ:List UN->Xe->Option Tj
 | [],_=>none
 | r::rs,k=>(Ue r.2 k).or (VZ rs k)
theorem bq (k:Xe) : ∀ (rs:List UN) (l:List Tj),Asc none l->Asc none (gq rs l)/\Ue (gq rs l) k=(Ue l k).or (VZ rs k)
 | [],l,h=>⟨h,by show Ue l k=_;cases Ue l k<;>rfl⟩
 | r::rs,l,h=>by
  obtain ⟨a,b⟩:=gB k r.2 l h;obtain ⟨c,d⟩:=bq k rs (r.2.foldl aM l) a;refine ⟨c,?_⟩;show Ue (gq rs (r.2.foldl aM l)) k=_;rw [d,b,hV];rfl
def Xc (x:Tj):Bool := !x.2.2.1
def LF (L:Tl):List Tj:=(gq (Um L.2) []).filter Xc
theorem jz {L M:Tl} (h : ∀ k,(VZ (Um L.2) k).filter Xc=(VZ (Um M.2) k).filter Xc):LF L=LF M:=by
 have a:=λk=>bq k (Um L.2) [] trivial;have b:=λk=>bq k (Um M.2) [] trivial;refine gC (ZX Xc (a []).1) (ZX Xc (b []).1) λk => ?_;show Ue ((gq (Um L.2) []).filter Xc) k=Ue ((gq (Um M.2) []).filter Xc) k;rw [Yz Xc k (a []).1,Yz Xc k (b []).1,(a k).2,(b k).2];exact h k
theorem dG : ∀ (a b:List UN) (k:Xe),VZ (a++b) k=(VZ a k).or (VZ b k)
 | [],b,k=>rfl
 | r::a,b,k=>by
  show (Ue r.2 k).or (VZ (a++b) k)=((Ue r.2 k).or (VZ a k)).or (VZ b k);rw [dG a b k,hV]
theorem gY : ∀ {l:List Tj} {s:Uk} {k:Xe},Z1 s l->s.1=true->SV k s.2.1=true->Ue l k=none
 | [],_,_,_,_,_=>rfl
 | x::l,s,k,⟨_,c,d⟩,b,hk=>by
  have a:SV k x.1=true:=dg hk (c b);rw [Ul,if_neg (λe=>ZF a e.symm)];exact gY d rfl a
theorem cw (k:Xe) : ∀ {l:List Tj} {s:Uk},Z1 s l->Ue (WJ s l) k=if s.1=true/\s.2.1=k then none else (Ue l k).filter λx => !(s.2.2&&x.2.2.1)
 | [],s,_=>by unfold WJ;split<;>rfl
 | x::l,s,⟨_,g,c⟩=>by
  have f:=cw k c;simp only [true_and] at f;unfold WJ;rw [Zr,f,Ul];by_cases a:x.1=k
  ·rw [if_pos a,if_pos a];by_cases hs:s.1=true/\s.2.1=k
   ·rw [if_pos hs];have:keep s x=false:=by unfold keep;rw [hs.1,hs.2,a];simp
    rw [this];rfl
   ·rw [if_neg hs]
    have:keep s x = !(s.2.2&&x.2.2.1):=by
     unfold keep
     have:(s.1&&decide (x.1=s.2.1))=false:=by
      cases b:s.1 with
      | false=>rfl
      | true =>
       simp only [Bool.true_and,decide_eq_false_iff_not];intro e;exact hs ⟨b,by rw [<- e];exact a⟩
     rw [this];rfl
    rw [this];cases d:(!(s.2.2&&x.2.2.1)) with
    | true=>rw [if_pos rfl,YR,if_pos a];simp [mR,d]
    | false=>rw [if_neg (by simp)];simp [mR,d,Ue]
  ·rw [if_neg a,if_neg a]
   have b:Ue (if keep s x=true then [x] else []) k=none:=by
    split
    ·rw [YR,if_neg a]
    ·rfl
   rw [b,tk];by_cases hs:s.1=true/\s.2.1=k
   ·rw [if_pos hs]
    have h:SV k x.1=true:=by
     rw [<- hs.2];refine Zi (g hs.1) λe=>a ?_;rw [e];exact hs.2
    rw [gY c rfl h];rfl
   ·rw [if_neg hs]
theorem an {a b:List Tj} (va:VL a) (l:VL b) (k:Xe) : ∀ {n:Nat},n<=a.length+b.length->Ue (UB a b n) k=(Ue (a.take (pos a b n).1) k).or (Ue (b.take (pos a b n).2) k)
 | 0,_=>rfl
 | n+1,h=>by
  have G:=an va l k (n:=n) (by omega);obtain ⟨q,hs⟩:=WV va l (n:=n) (by omega);obtain ⟨x,c,_⟩:=Vx va l (n:=n) (by omega);rw [Ws va l c,Zr,G,YR];unfold aJ at c;rw [show pos a b (n+1)=if Xv a b (pos a b n).1 (pos a b n).2=true then ((pos a b n).1+1,(pos a b n).2) else ((pos a b n).1,(pos a b n).2+1) from rfl]
  revert c q;generalize (pos a b n).1=i;generalize (pos a b n).2=j;intro q c;cases g:Xv a b i j with
  | true =>
   rw [if_pos g] at c;rw [if_pos rfl];simp only;rw [gM,c,xo,Zr,YR,hV,hV]
   congr 1
   by_cases r:x.1=k
   ·rw [if_pos r]
    have:Ue (b.take j) k=none:=YQ λy F=>by
     obtain ⟨m,o⟩:=eo F;rw [q9] at o;split at o
     ·rename_i E;have D:=q.jb;have f:b[j-1]? = some b[j-1]:=eg (by omega);have B:=q.pb (j-1) (by omega) _ x f c
      have C:SV b[j-1].1 y.1=false:=by
       by_cases s:m=j-1
       ·subst s;rw [f] at o;cases o;exact XP _
       ·have A:=l.asc
        have : ∀ d,m+d+1<=j-1 -> ∀ z,b[m+d+1]? = some z->SV y.1 z.1=true:=by
         intro d
         induction d with
         | zero=>intro _ z t;exact l.lt o t
         | succ d u =>
          intro hd z t;have p:b[m+d+1]? = some b[m+d+1]:=eg (by omega);exact Wc (u (by omega) _ p) (l.lt p t)
        exact VH (this (j-1-m-1) (by omega) _ (by rw [show m+(j-1-m-1)+1=j-1 by omega];exact f))
      intro e;have w:SV y.1 x.1=true:=bD C B;rw [e,r,XP] at w;cases w
     ·cases o
    rw [this];rfl
   ·rw [if_neg r];cases Ue (b.take j) k<;>rfl
  | false =>
   rw [if_neg (show ¬ Xv a b i j=true by rw [g];decide)] at c;rw [if_neg (show ¬ (false=true) by decide)];simp only;rw [gM,c,xo,Zr,YR,hV]
theorem py {a b:List Tj} (va:VL a) (e:VL b) (c:Bool) (k:Xe):Ue (Vc a b c (a.length+b.length)).2.2.1 k=((Ue a k).or (Ue b k)).filter λx => !(c&&x.2.2.1):=by
 have f:=XO va e c (dc (a.length+b.length));obtain ⟨d,hs⟩:=WV va e (dc (a.length+b.length));show Ue (WJ (s0 c) (UB a b (a.length+b.length))) k=_;rw [cw k f,if_neg (by simp),an va e k (dc _)];rw [en (by have:=d.ia;have:=d.jb;omega),en (by have:=d.ia;have:=d.jb;omega)]
end
section
open Go Sv
def Zv (f:Nat->Option Tj):Nat->Nat->Option Tj
 | _,0=>none
 | i,m+1=>(f i).or (Zv f (i+1) m)
theorem gS (f:Nat->Option Tj) : ∀ (m i:Nat),Zv f (i+1) m=Zv (λj=>f (j+1)) i m
 | 0,_=>rfl
 | m+1,i=>by
  show (f (i+1)).or (Zv f (i+1+1) m)=(f (i+1)).or (Zv (λj=>f (j+1)) (i+1) m);rw [gS f m (i+1)]
theorem YS {f g:Nat->Option Tj} : ∀ (m i:Nat),(∀ j,i<=j->j<i+m->f j=g j)->Zv f i m=Zv g i m
 | 0,_,_=>rfl
 | m+1,i,h=>by
  show (f i).or (Zv f (i+1) m)=(g i).or (Zv g (i+1) m);rw [h i (by omega) (by omega),YS m (i+1) λj a b=>h j (by omega) (by omega)]
theorem cL : ∀ (m i:Nat),Zv (λ_=>none) i m=none
 | 0,_=>rfl
 | m+1,i=>by show (none:Option Tj).or _=_;rw [tk];exact cL m (i+1)
theorem ai (f:Nat->Option Tj) : ∀ (p i q:Nat),Zv f i (p+q)=(Zv f i p).or (Zv f (i+p) q)
 | 0,i,q=>by rw [ee];rfl
 | p+1,i,q=>by
  rw [show p+1+q=(p+q)+1 by omega];show (f i).or (Zv f (i+1) (p+q))=((f i).or (Zv f (i+1) p)).or (Zv f (i+(p+1)) q);rw [ai f p (i+1) q,hV,show i+1+p=i+(p+1) by omega]
theorem Z9 (k:Xe) : ∀ (ls:List (List UN)) (K:Nat),ls.length<=K->VZ (Um ls) k=Zv (λj=>VZ (To ls j).reverse k) 0 K
 | [],K,_=>by
  have:(λj=>VZ (To [] j).reverse k)=λ_=>none:=by
   funext j;have:To [] j=[]:=rfl
   rw [this];rfl
  rw [this,cL];rfl
 | rs::ls,0,h=>by simp at h
 | rs::ls,K+1,h=>by
  have e:Um (rs::ls)=rs.reverse++Um ls:=rfl;rw [e,dG,Z9 k ls K (by simpa using h)];show _=(VZ (To (rs::ls) 0).reverse k).or (Zv (λj=>VZ (To (rs::ls) j).reverse k) (0+1) K);rw [gS];rfl
theorem hG {s:Th} (v:VSt s) (C:jZ s.1) {n:Nat} {j:Job} (r:JobAt s.1 n j) (E : ¬ 0<UA s.1 j) (hc:WE s.1 j=true) (G:Ur j≠[]->s.2.2<=1000000):LF (Vk s j)=LF s.1:=by
 have F:=gR v C r E hc G;obtain ⟨U,W,K,X,Y⟩:=r.out v.lev (C n);have d:j.1.toNat=n:=by rw [K];simp
 obtain ⟨b,c,q,m,B,f,O,t,L,M⟩:=r;have J:=YG.1 B
 have N:UA s.1 j=c.2.length+b.2.length-m:=by
  rw [f];unfold UA;simp only [bl,B];show c.2.length+b.2.length-((m:Int)).toNat=_;rw [bl]
 have u:m=c.2.length+b.2.length:=by omega
 subst u
 have p : ∀ k,Ue (Ur j) k=((Ue c.2 k).or (Ue b.2 k)).filter λx => !(q&&x.2.2.1):=λk=>by
  rw [f];exact py M L q k
 refine jz λk => ?_;have P:=F.lev.len;have S:=v.lev.len;rw [Z9 k _ 14 (by omega),Z9 k _ 14 (by omega)];rw [show 14=n+(1+(13-n)) by omega,ai,ai _ n 0];have w:Ya s j=n\/Ya s j=n+1:=by unfold Ya;rw [d];split<;>omega
 have l:Zv (λi=>VZ (To (Vk s j).2 i).reverse k) 0 n=Zv (λi=>VZ (To s.1.2 i).reverse k) 0 n:=YS _ _ λi _ hi=>by
  rw [V4 d,if_neg (by rintro ⟨_,h⟩;omega),if_neg (by omega)]
 rw [l];generalize Zv (λi=>VZ (To s.1.2 i).reverse k) 0 n=A
 have y:Zv (λi=>VZ (To (Vk s j).2 i).reverse k) (0+n) (1+(13-n))=(Ue (Ur j) k).or (Zv (λi=>VZ (To s.1.2 i).reverse k) (n+1) (13-n)):=by
  rw [ee,aae 1];show (VZ (To (Vk s j).2 n).reverse k).or (Zv (λi=>VZ (To (Vk s j).2 i).reverse k) (n+1) (13-n))=_;by_cases a:Ur j=[]
  ·rw [V4 d,if_neg (by simp [a]),if_pos rfl,a];refine congrArg _ (YS _ _ λi hi _ => ?_);rw [V4 d,if_neg (by simp [a]),if_neg (by omega)]
  ·rcases w with ht | ht
   ·rw [V4 d,if_pos ⟨a,ht.symm⟩,if_pos rfl]
    have e:VZ (([]:List UN)++[(s.2.2,Ur j)]).reverse k=Ue (Ur j) k:=by
     show (Ue (Ur j) k).or none=_;cases Ue (Ur j) k<;>rfl
    rw [e];refine congrArg _ (YS _ _ λi hi _ => ?_);rw [V4 d,if_neg (by rintro ⟨_,h⟩;omega),if_neg (by omega)]
   ·rw [V4 d,if_neg (by rintro ⟨_,h⟩;omega),if_pos rfl];have D:=F.to12 a;rw [show 13-n=(12-n)+1 by omega];show (none:Option Tj).or ((VZ (To (Vk s j).2 (n+1)).reverse k).or (Zv _ (n+1+1) (12-n)))=(Ue (Ur j) k).or ((VZ (To s.1.2 (n+1)).reverse k).or (Zv _ (n+1+1) (12-n)));rw [V4 d,if_pos ⟨a,ht.symm⟩,if_neg (by omega),List.reverse_append,tk];have e:VZ ([(s.2.2,Ur j)].reverse++(To s.1.2 (n+1)).reverse) k=(Ue (Ur j) k).or (VZ (To s.1.2 (n+1)).reverse k):=rfl;rw [e,hV];refine congrArg _ (congrArg _ (YS _ _ λi hi _ => ?_));rw [V4 d,if_neg (by rintro ⟨_,h⟩;omega),if_neg (by omega)]
 have o:Zv (λi=>VZ (To s.1.2 i).reverse k) (0+n) (1+(13-n))=((Ue c.2 k).or (Ue b.2 k)).or (Zv (λi=>VZ (To s.1.2 i).reverse k) (n+1) (13-n)):=by
  rw [ee,aae 1];show (VZ (To s.1.2 n).reverse k).or _=_;rw [J];refine congrArg (λz=>Option.or z _) ?_;show (Ue c.2 k).or ((Ue b.2 k).or none)=_;cases Ue b.2 k<;>rfl
 rw [y,o,p k];cases q with
 | false =>
  have:((Ue c.2 k).or (Ue b.2 k)).filter (λx => !(false&&x.2.2.1))=(Ue c.2 k).or (Ue b.2 k):=by
   cases (Ue c.2 k).or (Ue b.2 k)<;>simp [mR]
  rw [this]
 | true =>
  have I:Zv (λi=>VZ (To s.1.2 i).reverse k) (n+1) (13-n)=none:=by
   rw [YS (g:=λ_=>none) _ _ λi hi _ => ?_,cL];have:To s.1.2 i=[]:=by unfold To;rw [a9 (by have:=t rfl;omega)];rfl
   rw [this];rfl
  rw [I];cases A with
  | some x=>rfl
  | none =>
   cases (Ue c.2 k).or (Ue b.2 k) with
   | none=>rfl
   | some x =>
    cases hd:x.2.2.1<;>simp [mR,Xc,hd]
end
section
open Go Sv
end
section
open Go Sv
end
section
open Go Sv
def UH (l:List UN):Nat:=(l.map λr=>r.2.length).sum
theorem VS (r:UN) (l:List UN):UH (r::l)=r.2.length+UH l:=by simp [UH]
theorem U4 (l m:List UN):UH (l++m)=UH l+UH m:=by simp [UH]
theorem jj (l:List UN):UH l.reverse=UH l:=by simp [UH]
theorem bx {l:List UN} (h : ∀ r∈l,r.2.length<=5000):UH l<=l.length*5000:=by
 induction l with
 | nil=>simp [UH]
 | cons r l b =>
  rw [VS,ci];have:=h r (by simp);have:=b λx a=>h x (by simp [a]);omega
theorem Zc : ∀ ls:List (List UN),UH (Um ls)=UH ls.flatten/\(Um ls).length=ls.flatten.length
 | []=>⟨rfl,rfl⟩
 | rs::ls=>by
  obtain ⟨a,b⟩:=Zc ls;have e:Um (rs::ls)=rs.reverse++Um ls:=rfl;rw [e,li,U4,U4,jj,a];simp [b]
theorem pj {S β:Type} {f:S->Option (LR S β)} {r:β} (mk:Int->Nat->S) (n:Nat) {s:S} (b:s=mk ((n:Int)-1) n) (g:n<1000000000) (hs : ∀ k,k<n->f (mk (k:Int) (k+1))=some (.nx (mk ((k:Int)-1) k))) (c:f (mk (-1) 0)=some (.dn r)):loop f s=some r:=by
 subst b
 have a : ∀ k,k<=n->IL (k+1) f (mk ((k:Int)-1) k)=some r:=by
  intro k
  induction k with
  | zero=>intro _;exact UR c
  | succ k d =>
   intro e;have:=hs k (by omega);rw [show ((k+1:Nat):Int)-1=(k:Int) by omega,UL this];exact d (by omega)
 exact U3 (by omega) (a n (dc _))
theorem Yf {L:Tl} (v:VLev L):L.2.flatten.length<=24/\UH L.2.flatten<=24*5000:=by
 have b:L.2.flatten.length<=24:=by
  have h:=Y9 L.2 v.two;have:=v.len;rw [(Zc L.2).2] at h;omega
 refine ⟨b,?_⟩
 have:=bx (l:=L.2.flatten) λr a=>by
  obtain ⟨rs,c,d⟩:=l5.1 a;obtain ⟨i,hi⟩:=eo c;exact ((v.lev i rs hi).2 r d).vl.len
 exact tg this (s6 _ b)
def bz (L:Tl):Int×(Int×Int):=if (Vb L).2.2≠0 then (0,(0,(Vb L).2.2)) else ((UH L.2.flatten:Int),((L.2.flatten.length:Int),0))
theorem cY (L:Tl) (g:L.2.length<=1048576) (n : ∀ rs∈L.2,rs.length<=1048576 /\ ∀ r∈rs,r.2.length<=9223372036854775807):WQ L=some (bz L):=by
 unfold WQ bz;simp only [Tq,Tn];rw [Yn _ g n,Sx,TQ];by_cases b:(Vb L).2.2=0;rotate_left
 ·rw [if_neg b,if_pos b]
 rw [if_pos b,if_neg (by simp [b])];have v:=Xf.1 b;have p:=v.len;obtain ⟨s1,s2⟩:=Yf v
 rw [Ut (l:=L.2) (σ:=Nat×Nat) (s:=((0:Int),((0:Int),(0:Int)))) (λi a=>((i:Int),((a.1:Int),(a.2:Int)))) (λls i a=>a.1+UH ls.flatten=UH L.2.flatten/\a.2+ls.flatten.length=L.2.flatten.length) (λ_ _ _=>(0,(((L.2.length:Int),((UH L.2.flatten:Int),(L.2.flatten.length:Int))),()))) (0,0) rfl (by omega) ⟨by simp,by simp⟩ (λa h=>by
  obtain ⟨c,d⟩:=h;simp only;rw [re,R7,<- c,<- d]
  simp [UH]) (λi rs ls a hd hi e h=>by
   obtain ⟨c,d⟩:=h;rw [li,U4] at c;rw [li,hM] at d;have o:=v.two rs (bo hi);refine ⟨(a.1+UH rs,a.2+rs.length),?_,⟨by simp only;omega,by simp only;omega⟩,rfl⟩;simp only;rw [rl e,Sc,Ti,TC hi,Sj (by omega)]
   rw [pj (λk m=>(k,(((a.1+UH (rs.drop m):Nat):Int),((a.2+(rs.length-m):Nat):Int)))) rs.length (by simp [UH]) (by omega) (λk f=>by
    have j:rs[k]? = some rs[k]:=eg f;have hd:UH (rs.drop k)=rs[k].2.length+UH (rs.drop (k+1)):=by rw [List.drop_eq_getElem_cons f,VS]
    have hc:UH (rs.drop k)<=UH rs:=by
     have:=U4 (rs.take k) (rs.drop k);rw [List.take_append_drop] at this;omega
    simp only;rw [TL,if_pos (by omega),Ti,TC j,Sj (by omega),Sh (by omega),Sh (by omega),hd]
    congr 4
    ·omega
    ·congr 1
     omega) (r:=(0,(((-1:Int),(((a.1+UH rs:Nat):Int),((a.2+rs.length:Nat):Int))),()))) rfl,Sx]
   rw [Tv hi (by omega)]),Sx]
theorem iG {L:Tl} (v:VLev L):Xa L=some ((UH L.2.flatten:Int),((L.2.flatten.length:Int),0)):=by
 unfold Xa;simp only [Tq,Tn];rw [ay v,Sx];simp only;rw [TQ,if_pos rfl];obtain ⟨s1,s2⟩:=Yf v;obtain ⟨n1,n2⟩:=Zc L.2
 rw [Ut (l:=Um L.2) (σ:=Nat) (s:=((0:Int),(0:Int))) (λi a=>((a:Int),(i:Int))) (λls i a=>a+UH ls=UH L.2.flatten) (λ_ _ _=>(0,(((UH L.2.flatten:Int),((Um L.2).length:Int)),()))) 0 rfl (by omega) (by rw [n1];simp) (λa h=>by
  simp only
  rw [re,R7,<- h];simp [UH]) (λi r ls a hd hi b h=>by
   rw [VS] at h;refine ⟨a+r.2.length,?_,by omega,rfl⟩;simp only;rw [rl b,Sc,Ti,TC hi,Sh (by omega),Tv hi (by omega)]
   rfl),Sx,n2]
theorem pO {s:Th} (m:Sm s) (a:Int):X9 (s,a)=some (We 0 (λs j=>((UA s.1 j:Int),0)) s a):=by
 unfold X9;rw [cC m,Sx];unfold We aO X8;by_cases b:(Tk s).2=0;rotate_left
 ·rw [if_pos b,TQ,if_neg b,if_pos b]
 rw [if_neg (show ¬ (Tk s).2≠0 by simp [b]),if_neg (show ¬ (Tk s).2≠0 by simp [b])];have v:=Ts.1 b;cases e:Zl a 0 (Tp 0 s.1.2) with
 | none=>rfl
 | some i =>
  obtain ⟨j,n,c,g,f,d,h⟩:=v.at e;simp only [c];rw [TQ,if_pos rfl,Ti,TC c,(JobAt.left d).1,Sx]
def X7 (s:Th) (d:Int):Nat:=match aO s d with
 | some j=>UA s.1 j+1
 | none=>0
def Vr (s:Th):Nat:=((Tp 0 s.1.2).map (X7 s)).sum
theorem VSt.debt {s:Th} (v:VSt s) {d:Int} (h:d∈Tp 0 s.1.2) (m:Sm s):Yg (s,d)=some ((X7 s d:Int),0)/\YF (s,d)=some ((X7 s d:Int),0)/\X7 s d<=10001:=by
 obtain ⟨j,n,b,f,g,c,k⟩:=v.atDue h;have e:(Tk s).2=0:=Ts.2 v;have hd:X7 s d=UA s.1 j+1:=by unfold X7;rw [b]
 have i:=(JobAt.left c).2.2
 have a:We (0:Int) (λs j=>((UA s.1 j:Int),0)) s d=((UA s.1 j:Int),0):=by
  unfold We;rw [if_neg (show ¬ (Tk s).2≠0 by simp [e]),b]
 unfold Yg YF;rw [pO m,YY m,a,hd,Sx];simp only [Sx];rw [TQ,if_pos rfl,Sh (by omega)];exact ⟨rfl,rfl,by omega⟩
theorem gI {s:Th} (v:VSt s) (m:Sm s):Vr s<=12*10001:=by
 have a : ∀ l:List Int,(∀ d∈l,X7 s d<=10001)->(l.map (X7 s)).sum<=l.length*10001:=by
  intro l
  induction l with
  | nil=>intro _;simp
  | cons d l f =>
   intro h;have:=h d (by simp);have:=f λx e=>h x (by simp [e]);simp only [kd,wl,ci];omega
 have b:=a (Tp 0 s.1.2) λd hd=>(v.debt hd m).2.2;have g:=VD s.1.2 0;have:=v.lev.len;have c:(Tp 0 s.1.2).length*10001<=12*10001:=s6 _ (by omega);exact tg b c
theorem jV {s:Th} (m:Sm s):Xx s=some (if (Tk s).2≠0 then (0,(Tk s).2) else ((Vr s:Int),0)):=by
 unfold Xx;simp only [Tq,Tn];rw [gV m,Sx];by_cases a:(Tk s).2=0;rotate_left
 ·rw [if_pos a,if_pos a,TQ,if_neg a]
 rw [if_neg (show ¬ (Tk s).2≠0 by simp [a]),if_neg (show ¬ (Tk s).2≠0 by simp [a])];have v:=Ts.1 a;have hd:=gI v m;simp only;have f:=VD s.1.2 0;have:=v.lev.len
 rw [TQ,if_pos rfl,Ut (l:=Tp 0 s.1.2) (σ:=Nat) (s:=((0:Int),((0:Int),((0:Int),(0:Int))))) (λi b=>((0:Int),((i:Int),((0:Int),(b:Int))))) (λls i b=>b+(ls.map (X7 s)).sum=Vr s) (λ_ _ _=>(1,(((0:Int),(((Tp 0 s.1.2).length:Int),((0:Int),(Vr s:Int)))),()))) 0 rfl (by omega) (by unfold Vr;simp) (λb h=>by
  simp only
  rw [re,R7,<- h];simp) (λi d ls b e hi c h=>by
   rw [kd,wl] at h;refine ⟨b+X7 s d,?_,by omega,rfl⟩;simp only;rw [rl c,Sc,Ti,TC hi,(v.debt (bo hi) m).1,Sx];simp only;rw [TQ,if_pos rfl,Sh (by omega),Sh (by omega)]
   rfl),Sx]
 rfl
theorem kJ {s:Th} (m:Sm s):YE s=some (if (Tk s).2≠0 then (0,(Tk s).2) else ((Vr s:Int),0)):=by
 unfold YE;simp only [Tq,Tn];rw [az m,Sx];by_cases b:(Tk s).2=0;rotate_left
 ·rw [if_pos b,if_pos b];exact UI (Y8 (r:=(0,(((0:Int),(0:Int)),()))) (λk=>((k:Int),(0:Int))) 0 rfl (by omega) (λk f=>by omega) rfl) rfl
 rw [if_neg (show ¬ (Tk s).2≠0 by simp [b]),if_neg (show ¬ (Tk s).2≠0 by simp [b])];have v:=Ts.1 b;have hd:=gI v m;simp only;have g:=VD s.1.2 0;have:=v.lev.len
 rw [Ut (l:=Tp 0 s.1.2) (σ:=Nat) (s:=((0:Int),(0:Int))) (λi a=>((i:Int),(a:Int))) (λls i a=>a+(ls.map (X7 s)).sum=Vr s) (λ_ _ _=>(0,((((Tp 0 s.1.2).length:Int),(Vr s:Int)),()))) 0 rfl (by omega) (by unfold Vr;simp) (λa h=>by
  simp only
  rw [re,R7,<- h];simp) (λi d ls a e hi c h=>by
   rw [kd,wl] at h;refine ⟨a+X7 s d,?_,by omega,rfl⟩;simp only;rw [rl c,Sc,Ti,TC hi,(v.debt (bo hi) m).2.1,Sx];simp only;rw [Sh (by omega),Sh (by omega)]
   rfl),Sx]
def W0 (b:UN):Int×Int:=if b.1<1\/b.1>16 then (0,7) else if (b.2.length:Int)>b.1 then (0,3) else Yv none 0 b.2
theorem dv (b:UN):W2 b=some (W0 b):=by
 unfold W2 W0;rw [TP,TM,TM];by_cases c:b.1<1
 ·rw [if_pos c,if_pos (.inl c)]
 rw [if_neg c];by_cases d:b.1>16
 ·rw [if_pos d,if_pos (.inr d)]
 rw [if_neg d,if_neg (show ¬ (b.1<1\/b.1>16) by omega),Tq,Tn];by_cases a:(b.2.length:Int)>b.1
 ·rw [if_pos a,if_pos a]
 rw [if_neg a,if_neg a];have e:=WM b.2 (by omega);unfold UT WL at e;rw [TM,Tq,Tn,if_neg (show ¬ (b.2.length:Int)>5000 by omega),if_neg (show ¬ b.2.length>5000 by omega)] at e;exact e
def Un (f:Wz):Int:=if (W0 f.1).2≠0 then (W0 f.1).2 else if (Tk f.2).2≠0 then (Tk f.2).2 else if f.1.1≠f.2.1.1 then 6 else 0
theorem ZZ {f:Wz} (m:Sm f.2):VT f=some (Un f):=by
 unfold VT Un;rw [dv,Sx,TQ];by_cases a:(W0 f.1).2=0;rotate_left
 ·rw [if_neg a,if_pos a]
 rw [if_pos a,if_neg (show ¬ (W0 f.1).2≠0 by simp [a]),ua m,Sx,TQ];by_cases b:(Tk f.2).2=0;rotate_left
 ·rw [if_neg b,if_pos b]
 rw [if_pos b,if_neg (show ¬ (Tk f.2).2≠0 by simp [b]),TQ];by_cases c:f.1.1=f.2.1.1
 ·rw [if_pos c,if_neg (show ¬ f.1.1≠f.2.1.1 by simp [c])]
 ·rw [if_neg c,if_pos c]
end
section
open Go Sv
end
section
open Go Sv
end
section
open Go Sv
end
section
open Go Sv
end
section
open Go Sv
end
section
open Go Sv
def Gd (s0 s:Th):Prop:=VSt s/\LF s.1=LF s0.1/\UH s.1.2.flatten<=2000
theorem pV {l:List UN} {r:UN} (h:r∈l):r.2.length<=UH l:=by
 induction l with
 | nil=>cases h
 | cons x l a =>
  rw [VS];rcases ey.1 h with e | h
  ·rw [e];omega
  ·have:=a h;omega
theorem Zo {L:Tl} (h:UH L.2.flatten<=2000):jZ L:=λi r a=>by
 have:=pV (ak.2 ⟨i,a⟩);omega
theorem ck {s:Th} (v:VSt s) (h:jZ s.1) {n:Nat} {j:Job} (g:JobAt s.1 n j) (E : ¬ 0<UA s.1 j):UH (Vk s j).2.flatten<=UH s.1.2.flatten:=by
 obtain ⟨G,I,y,J,K⟩:=g.out v.lev (h n);have w:j.1.toNat=n:=by rw [y];simp
 have a:=h n;obtain ⟨d,e,m,k,u,c,x,F,B,C⟩:=g;have i:=YG.1 u;rw [i] at a;have D:=a d (by simp);have f:=a e (by simp)
 have l:(Ur j).length<=e.2.length+d.2.length:=by
  rw [c];exact (kD C B m x (by omega)).2
 obtain ⟨p,q,f,o⟩:=Xu s.1 n []
 have e1:UH s.1.2.flatten=UH p+((d.2.length+e.2.length)+UH q):=by
  rw [f,i,U4,U4,VS,VS];simp [UH]
 have e2:UH (Uu s.1 n []).2.flatten=UH p+UH q:=by rw [o,U4,U4];simp [UH]
 unfold Vk;rw [w];by_cases b:Ur j=[]
 ·rw [if_pos b];omega
 ·rw [if_neg b];obtain ⟨z,A,r,t⟩:=Xu (Uu s.1 n []) (Ya s j) (To (Uu s.1 n []).2 (Ya s j)++[(s.2.2,Ur j)]);have e3:UH (Uu s.1 n []).2.flatten=UH z+(UH (To (Uu s.1 n []).2 (Ya s j))+UH A):=by rw [r,U4,U4]
  rw [t,U4,U4,U4,VS];simp only [UH,List.map_nil,List.sum_nil];simp only [UH] at e3 e2 e1;omega
theorem gL {s:Th} (v:VSt s) {d:Int} (h:d∈Tp 0 s.1.2) : ∃ (i:Nat) (j:Job) (n:Nat),Zl d 0 (Tp 0 s.1.2)=some i/\s.2.1[i]? = some j/\d=(n:Int)/\j.1=(n:Int)/\JobAt s.1 n j:=by
 obtain ⟨i,hi⟩:=cE (k:=0) h;obtain ⟨j,n,a,b,c,d,_⟩:=v.at hi;exact ⟨i,j,n,hi,a,b,c,d⟩
theorem gz {s0 s:Th} (g:Gd s0 s) {d:Int} (h:d∈Tp 0 s.1.2) : ∃ (c:Bool) (t:Th) (b:Bool) (e:Int),XR (s,d)=some (c,0)/\Uy (s,d)=some (t,(b,e))/\(s.2.2<=1000000->c=decide (e=0))/\(e=0->Gd s0 t):=by
 obtain ⟨v,z,hc⟩:=g;have r:=Zo hc;have m:=v.sm;obtain ⟨i,j,n,hi,y,hd,w,q⟩:=gL v h;have A:(Tk s).2=0:=Ts.2 v;have o:aO s d=some j:=by unfold aO;rw [hi];exact y
 have p:XR (s,d)=some (WE s.1 j,0):=by
  rw [sf m];unfold We;rw [if_neg (by simp [A]),o]
 have k:Uy (s,d)=some (YI s j):=by
  rw [bp m r];unfold Wd;rw [if_neg (by simp [A]),o]
 refine ⟨WE s.1 j,(YI s j).1,(YI s j).2.1,(YI s j).2.2,p,k,?_⟩;unfold YI;by_cases l:WE s.1 j=false
 ·rw [if_pos l,l];exact ⟨λ_=>by simp,λh=>by cases h⟩
 have a:WE s.1 j=true:=by simpa using l
 rw [if_neg l];by_cases f:0<UA s.1 j
 ·rw [if_pos f];refine ⟨λ_=>by simp [a],λ_=>⟨kQ v (by rw [w,<- hd];exact hi) y q f,z,hc⟩⟩
 rw [if_neg f];unfold ZS;rw [if_neg (λh=>h.elim f l)];by_cases u:s.2.2>1000000/\Ur j≠[]
 ·rw [if_pos u];exact ⟨λh=>by omega,λh=>by cases h⟩
 rw [if_neg u]
 have x:Ur j≠[]->s.2.2<=1000000:=λC=>by
  by_cases B:s.2.2>1000000
  ·exact absurd ⟨B,C⟩ u
  ·omega
 refine ⟨λ_=>by simp [a],λ_=>⟨jt v r q f a x,?_,?_⟩⟩
 ·exact (hG v r q f a x).trans z
 ·have:=ck v r q f;show UH (Vk s j).2.flatten<=2000;omega
theorem cB : ∀ {ls:List (List UN)} {i n:Nat},(To ls n).length=2->((i+n:Nat):Int)∈Tp i ls
 | [],i,n,h=>by simp [To] at h
 | rs::ls,i,0,h=>by
  have h':rs.length=2:=h;rw [XK,if_pos h'];simp
 | rs::ls,i,n+1,h=>by
  rw [XK];refine sp _ ?_;have:=cB (ls:=ls) (i:=i+1) (n:=n) h
  rwa [show i+1+n=i+(n+1) by omega] at this
end
section
open Go Sv
def U2 (f:Nat->Nat):Nat->Nat
 | 0=>0
 | m+1=>U2 f m+f m
theorem aG {f g:Nat->Nat} : ∀ {m:Nat},(∀ i,i<m->g i<=f i)->U2 g m<=U2 f m
 | 0,_=>dc _
 | m+1,h=>Nat.add_le_add (aG λi hi=>h i (by omega)) (h m (by omega))
theorem bF {f g:Nat->Nat} {n:Nat} (a:g n+1<=f n) : ∀ {m:Nat},n<m->(∀ i,i<m->i≠n->g i<=f i)->U2 g m+1<=U2 f m
 | 0,h,_=>absurd h (by omega)
 | m+1,h,ho=>by
  unfold U2;by_cases e:n=m
  ·subst e;have:=aG (f:=f) (g:=g) (m:=n) λi hi=>ho i (by omega) (by omega);omega
  ·have:=bF a (m:=m) (by omega) λi hi=>ho i (by omega);have:=ho m (by omega) (λh=>e h.symm);omega
theorem bm {f g:Nat->Nat} {n:Nat} (a:g n+g (n+1)+1<=f n+f (n+1)) : ∀ {m:Nat},n+1<m->(∀ i,i<m->i≠n->i≠n+1->g i<=f i)->U2 g m+1<=U2 f m
 | 0,h,_=>absurd h (by omega)
 | m+1,h,ho=>by
  unfold U2;by_cases e:n+1=m
  ·subst e;have:=aG (f:=f) (g:=g) (m:=n) λi hi=>ho i (by omega) (by omega) (by omega);unfold U2;omega
  ·have:=bm a (m:=m) (by omega) λi hi=>ho i (by omega);have:=ho m (by omega) (by omega) (by omega);omega
theorem ZJ : ∀ {js:List Job} {j:Job},(js.map (·.1)).Nodup->j∈js->Uj js j.1=some j
 | [],_,_,h=>by cases h
 | i::js,j,hn,h=>by
  rw [kd,oy] at hn;unfold Uj;rw [iz];unfold cI;rw [Vw];rcases ey.1 h with e | h
  ·subst e;simp
  ·have a : ¬ j.1=i.1:=λe=>hn.1 (by rw [<- e];exact l6 h);rw [decide_eq_false a];exact ZJ hn.2 h
theorem bS : ∀ {js:List Job} {i:Nat} {j:Job} (w:Xi) (d:Int),(js.map (·.1)).Nodup->js[i]? = some j->Uj (js.set i (j.1,w)) d=if d=j.1 then some (j.1,w) else Uj js d
 | [],i,j,w,d,_,h=>by simp at h
 | x::js,0,j,w,d,hn,h=>by
  have e:x=j:=by simpa using h
  subst e;unfold Uj;rw [List.set_cons_zero,iz,iz];unfold cI;rw [Vw];by_cases e:d=x.1<;>simp [e]
 | x::js,i+1,j,w,d,hn,h=>by
  rw [kd,oy] at hn;have h':js[i]? = some j:=by simpa using h
  have b:=bS w d hn.2 h';unfold Uj at b ⊢;rw [List.set_cons_succ,iz,iz,b];have c:cI d x=decide (d=x.1):=Vw _ _;rw [c];by_cases e:d=x.1
  ·have a : ¬ d=j.1:=λe2=>hn.1 (by rw [<- e,e2];exact l6 (bo h'));rw [decide_eq_true e];simp only [a,if_false]
  ·rw [decide_eq_false e]
theorem VSt.noJob {s:Th} (v:VSt s) {i:Nat} (h:(To s.1.2 i).length≠2):Uj s.2.1 (i:Int)=none:=by
 refine Ym λa=>h ?_;rw [v.due] at a;obtain ⟨n,c,d,e,b⟩:=cO a;have:i=n:=by omega
 rw [this,YG.1 b];rfl
theorem VSt.hasJob {s:Th} (v:VSt s) {i:Nat} (h:(To s.1.2 i).length=2) : ∃ j,Uj s.2.1 (i:Int)=some j:=by
 have a:=cB (i:=0) h;rw [ee,<- v.due] at a;obtain ⟨j,b,e⟩:=o3.1 a;exact ⟨j,by rw [<- e];exact ZJ v.nodup b⟩
theorem VSt.jobAt {s:Th} (v:VSt s) {i:Nat} {j:Job} (h:Uj s.2.1 (i:Int)=some j):JobAt s.1 i j:=by
 obtain ⟨b,e⟩:=ae h;obtain ⟨n,a⟩:=v.job j b
 have:n=i:=by
  obtain ⟨_,_,_,_,_,rfl,_⟩:=a;have c:(n:Int)=(i:Int):=e;omega
 rwa [this] at a
theorem du {s:Th} (v:VSt s) (d:Int):aO s d=Uj s.2.1 d:=by
 by_cases h:d∈Tp 0 s.1.2
 ·obtain ⟨j,n,a,hd,b,_⟩:=v.atDue h;rw [a,hd,<- b];refine (ZJ v.nodup ?_).symm;unfold aO at a;split at a
  ·exact bo a
  ·cases a
 ·rw [Ym (by rw [v.due];exact h)];unfold aO;split
  ·rename_i i hi;have:=(eA hi).2;exact absurd (bo this) h
  ·rfl
def pN (j:Job):Nat:=j.2.2.2.2.toNat
theorem JobAt.rd {L:Tl} {n:Nat} {j:Job} (h:JobAt L n j) : ∃ a b,To L.2 n=[a,b]/\pN j<=b.2.length+a.2.length/\UA L j=b.2.length+a.2.length-pN j/\(0<UA L j->pN (j.1,Yu L j)=pN j+1):=by
 obtain ⟨a,b,c,k,d,rfl,f,g,i,l⟩:=h;have e:=YG.1 d;have e1:(Vc b.2 a.2 c k).2.1.2.2=c:=aV _ _ _ _;have e2:(Vc b.2 a.2 c k).2.2.2.toNat=k:=by show ((k:Int)).toNat=k;rw [bl]
 refine ⟨a,b,e,?_,?_,λ_ => ?_⟩
 ·show (Vc b.2 a.2 c k).2.2.2.toNat<=_;rw [e2];exact f
 ·unfold UA pN;simp only [bl,d]
 ·show (Yu L ((n:Int),Vc b.2 a.2 c k)).2.2.2.toNat=(Vc b.2 a.2 c k).2.2.2.toNat+1;unfold Yu;simp only [bl,e];rw [e1,e2];show (((k+1:Nat):Int)).toNat=_;rw [bl]
structure StepF (s:Th) (n:Nat) (j:Job) (t:Th) (b:Bool):Prop where
 job:Uj s.2.1 (n:Int)=some j
 read:0<UA s.1 j->b=false/\t.1=s.1/\t.2.2=s.2.2 /\ ∀ i:Nat,Uj t.2.1 (i:Int)=if i=n then some (j.1,Yu s.1 j) else Uj s.2.1 (i:Int)
 inst:UA s.1 j=0->b=true/\t.1=Vk s j/\t.2.2=YL s j/\(∀ i,(To t.1.2 i)=if Ur j≠[]/\i=Ya s j then (if i=n then [] else To s.1.2 i)++[(s.2.2,Ur j)] else if i=n then [] else To s.1.2 i)/\(Ya s j=n\/Ya s j=n+1/\n+1<12/\(Ur j≠[]->(To s.1.2 (n+1)).length<2)) /\
  ∀ i:Nat,Uj t.2.1 (i:Int)=if (To t.1.2 i).length=2 then some ((if i=n then none else Uj s.2.1 (i:Int)).getD (Wf t.1 (i:Int))) else none
theorem eY {s0 s:Th} (g:Gd s0 s) {d:Int} (h:d∈Tp 0 s.1.2) (e:(Wd s d).2.2=0) : ∃ (n:Nat) (j:Job),d=(n:Int)/\n<12/\JobAt s.1 n j/\WE s.1 j=true/\StepF s n j (Wd s d).1 (Wd s d).2.1/\Gd s0 (Wd s d).1:=by
 obtain ⟨v,Y,hc⟩:=g;have W:=Zo hc;have m:=v.sm;obtain ⟨c,t,b,er,_,J,_,X⟩:=gz ⟨v,Y,hc⟩ h;rw [bp m W] at J;have w:=Option.some.inj J;obtain ⟨i,j,n,hi,S,hd,u,P⟩:=gL v h;have hz:(Tk s).2=0:=Ts.2 v;have C:aO s d=some j:=by unfold aO;rw [hi];exact S
 have Z:n<12:=by
  have:=v.lev.len;obtain ⟨_,_,_,_,U,_⟩:=P;have:=(a8.1 U).1;omega
 have E:Uj s.2.1 (n:Int)=some j:=by rw [<- hd,<- du v,C]
 have hS:Wd s d=YI s j:=by unfold Wd;rw [if_neg (by simp [hz]),C]
 have A:Gd s0 (Wd s d).1:=by rw [w];exact X (by rw [<- e,w])
 have k:=A.1;rw [hS] at e k A ⊢;refine ⟨n,j,hd,Z,P,?_,⟨E,λN => ?_,λN => ?_⟩,A⟩
 ·unfold YI at e;by_cases a:WE s.1 j=false
  ·rw [if_pos a] at e;cases e
  ·simpa using a
 ·unfold YI at e ⊢;have a : ¬ WE s.1 j=false:=λa=>by rw [if_pos a] at e;cases e
  rw [if_neg a,if_pos N];refine ⟨rfl,rfl,rfl,λo => ?_⟩;show Uj (Zx s j).2.1 _=_;unfold Zx;rw [u,<- hd,hi,hI];show Uj (s.2.1.set i (d,Yu s.1 j)) _=_;have:=bS (Yu s.1 j) (o:Int) v.nodup S;rw [u,<- hd] at this;rw [this,hd];by_cases p:o=n
  ·rw [if_pos (by rw [p]),if_pos p]
  ·rw [if_neg (by omega),if_neg p]
 ·unfold YI at e k ⊢;have a : ¬ WE s.1 j=false:=λa=>by rw [if_pos a] at e;cases e
  have q:WE s.1 j=true:=by simpa using a
  have z : ¬ 0<UA s.1 j:=by omega
  rw [if_neg a,if_neg z] at e k ⊢;unfold ZS at e k ⊢;rw [if_neg (λh=>h.elim z a)] at e k ⊢;by_cases O:s.2.2>1000000/\Ur j≠[]
  ·rw [if_pos O] at e;cases e
  rw [if_neg O] at e k ⊢;have B:j.1.toNat=n:=by rw [u];simp
  have G : ∀ i,To (Vk s j).2 i=_:=λi=>V4 (s:=s) (j:=j) B i;refine ⟨rfl,rfl,rfl,G,?_,λo => ?_⟩
  ·unfold Ya;rw [B];by_cases hs:V2 s.1 j=true
   ·rw [if_pos hs];exact .inl rfl
   ·rw [if_neg hs]
    have hr:ZU s.1 (n+1)=true:=by
     unfold WE at q;rw [B] at q;simpa [hs,z] using q
    have I:=of_decide_eq_true hr;exact .inr ⟨rfl,I.1,λ_=>I.2⟩
  ·have r:VSt (ZG s (Vk s j) (YL s j) j.1):=k;show Uj (ZG s (Vk s j) (YL s j) j.1).2.1 (o:Int)=if (To (Vk s j).2 o).length=2 then some ((if o=n then none else Uj s.2.1 (o:Int)).getD (Wf (Vk s j) (o:Int))) else none
   have ho:(To (ZG s (Vk s j) (YL s j) j.1).1.2 o)=To (Vk s j).2 o:=rfl;by_cases K:(To (Vk s j).2 o).length=2
   ·rw [if_pos K];have M:=cB (i:=0) K;rw [ee] at M;have F:Wm s (Vk s j) j.1 (o:Int)∈(ZG s (Vk s j) (YL s j) j.1).2.1:=l6 M
    have D:(Wm s (Vk s j) j.1 (o:Int)).1=(o:Int):=by
     have L:(Tp 0 (Vk s j).2).map (λd=>(Wm s (Vk s j) j.1 d).1)=Tp 0 (Vk s j).2:=by
      have:=r.due;simpa [ZG,aab,Function.comp_def] using this
     have key : ∀ {l:List Int} {f:Int->Int},l.map f=l -> ∀ x∈l,f x=x:=by
      intro l f
      induction l with
      | nil=>intro _ x hx;cases hx
      | cons y l ih =>
       intro h x hx;rw [kd] at h;obtain ⟨k1,k2⟩:=List.cons.inj h;rcases ey.1 hx with rfl | hx
       ·exact k1
       ·exact ih k2 x hx
     exact key L _ M
    have:=ZJ r.nodup F;rw [D] at this;rw [this];unfold Wm;rw [u];by_cases p:o=n
    ·rw [if_pos (by omega),if_pos p]
    ·rw [if_neg (by omega),if_neg p]
   ·rw [if_neg K];exact r.noJob (by rw [ho];exact K)
end
section
open Go Sv
def kO (s:Th) (i:Nat):Nat:=match Uj s.2.1 (i:Int) with
 | some j=>pN j
 | none=>0
def cQ (N:Nat) (s:Th) (i:Nat):Nat:=(To s.1.2 i).length*(N+1)-kO s i
def Yb (N:Nat) (s:Th):Nat:=U2 (cQ N s) 12
theorem gG {L:Tl} {n:Nat} {a b:UN} (h:To L.2 n=[a,b]):a.2.length+b.2.length<=UH L.2.flatten:=by
 obtain ⟨p,q,c,_⟩:=Xu L n [];rw [c,h,U4,U4,VS,VS];omega
theorem VSt.rd0 {s:Th} (v:VSt s) {i:Nat} (h:(To s.1.2 i).length≠2):kO s i=0:=by
 unfold kO;rw [v.noJob h]
theorem kH {N:Nat} {s t:Th} {n:Nat} {j:Job} {b:Bool} (v:VSt s) (A:UH s.1.2.flatten<=N) (q:n<12) (x:JobAt s.1 n j) (F:StepF s n j t b):Yb N t+1<=Yb N s:=by
 obtain ⟨D,E,l,B,C,y⟩:=x.rd;have hc:=gG l
 have hs:cQ N s n=2*(N+1)-pN j:=by
  unfold cQ kO;rw [F.job,l];rfl
 by_cases o:0<UA s.1 j
 ·obtain ⟨_,e1,_,e2⟩:=F.read o;refine bF (n:=n) ?_ q λi _ a => ?_
  ·have m:cQ N t n=2*(N+1)-(pN j+1):=by
    unfold cQ kO;rw [e2,if_pos rfl,e1,l,<- y o];rfl
   omega
  ·unfold cQ kO;rw [e2,if_neg a,e1];exact dc _
 ·obtain ⟨_,e1,_,e2,e3,e4⟩:=F.inst (by omega)
  have d : ∀ i,i≠n -> ¬ (Ur j≠[]/\i=Ya s j)->cQ N t i<=cQ N s i:=λi a hit=>by
   have e:To t.1.2 i=To s.1.2 i:=by rw [e2,if_neg hit,if_neg a]
   have c:kO t i=kO s i:=by
    by_cases c:(To s.1.2 i).length=2
    ·obtain ⟨j',k⟩:=v.hasJob c;unfold kO;rw [e4,e,if_pos c,if_neg a,k];rfl
    ·rw [v.rd0 c];unfold kO;rw [e4,e,if_neg c]
   unfold cQ;rw [e,c];exact dc _
  by_cases m:Ur j≠[]/\Ya s j≠n
  ·obtain ⟨p,r⟩:=m;rcases e3 with e3 | ⟨e3,f,c⟩
   ·exact absurd e3 r
   have c:=c p;refine bm (n:=n) ?_ f λi _ a g=>d i a (by rw [e3];exact λh=>g h.2)
   have u:cQ N t n=0:=by
    unfold cQ;rw [e2,if_neg (by rw [e3];omega),if_pos rfl];simp
   have w:cQ N t (n+1)<=((To s.1.2 (n+1)).length+1)*(N+1):=by
    unfold cQ;rw [e2,if_pos ⟨p,e3.symm⟩,if_neg (by omega),hM];exact x8 _ _
   have z:cQ N s (n+1)=(To s.1.2 (n+1)).length*(N+1):=by
    unfold cQ;rw [v.rd0 (by omega)];rfl
   rw [aah] at w;omega
  ·refine bF (n:=n) ?_ q λi _ a=>d i a (λh=>m ⟨h.1,by rw [<- h.2];exact a⟩)
   have u:cQ N t n<=1*(N+1):=by
    refine tg (x8 _ _) (s6 _ ?_);rw [e2,if_pos rfl];split<;>simp
   omega
theorem cX (L:List (List UN)) : ∀ m,U2 (λi=>(To L i).length) m=(L.take m).flatten.length
 | 0=>by simp [U2]
 | m+1=>by
  unfold U2;rw [cX L m];by_cases h:m<L.length
  ·have:L.take (m+1)=L.take m++[To L m]:=by
    rw [gM,WI h];rfl
   rw [this,List.flatten_append];simp
  ·have:To L m=[]:=by unfold To;rw [a9 (by omega)];rfl
   rw [this,en (by omega),en (by omega)];simp
theorem gf (f:Nat->Nat) (c:Nat) : ∀ m,U2 (λi=>f i*c) m=U2 f m*c
 | 0=>by simp [U2]
 | m+1=>by unfold U2;rw [gf f c m,aah]
theorem kG (N:Nat) {s:Th} (v:VSt s):Yb N s<=s.1.2.flatten.length*(N+1):=by
 have a:Yb N s<=U2 (λi=>(To s.1.2 i).length*(N+1)) 12:=aG λi _=>x8 _ _;have:=v.lev.len;rw [gf,cX,en (by omega)] at a;exact a
theorem cz {L:Tl} (v:VLev L):L.2.flatten.length<=24:=by
 have h:=cX L.2 12;have:=v.len;rw [en (by omega)] at h;rw [<- h];exact aG (f:=λ_=>2) λi _=>(v.own i).1
end
section
open Go Sv
abbrev dt:=(Int×(Int×(Int×jW)))
def zn (a:jW) (k l:Nat):jW :=
 (TU (neq l 0) (SF .i64 (Oe [a.1,a.2.1,a.2.2.1,a.2.2.2.1,a.2.2.2.2.1,a.2.2.2.2.2.1,a.2.2.2.2.2.2.1,a.2.2.2.2.2.2.2.1,a.2.2.2.2.2.2.2.2.1,a.2.2.2.2.2.2.2.2.2.1,a.2.2.2.2.2.2.2.2.2.2.1,a.2.2.2.2.2.2.2.2.2.2.2] k) 1) a.1,(TU (neq l 1) (SF .i64 (Oe [a.1,a.2.1,a.2.2.1,a.2.2.2.1,a.2.2.2.2.1,a.2.2.2.2.2.1,a.2.2.2.2.2.2.1,a.2.2.2.2.2.2.2.1,a.2.2.2.2.2.2.2.2.1,a.2.2.2.2.2.2.2.2.2.1,a.2.2.2.2.2.2.2.2.2.2.1,a.2.2.2.2.2.2.2.2.2.2.2] k) 1) a.2.1,(TU (neq l 2) (SF .i64 (Oe [a.1,a.2.1,a.2.2.1,a.2.2.2.1,a.2.2.2.2.1,a.2.2.2.2.2.1,a.2.2.2.2.2.2.1,a.2.2.2.2.2.2.2.1,a.2.2.2.2.2.2.2.2.1,a.2.2.2.2.2.2.2.2.2.1,a.2.2.2.2.2.2.2.2.2.2.1,a.2.2.2.2.2.2.2.2.2.2.2] k) 1) a.2.2.1,(TU (neq l 3) (SF .i64 (Oe [a.1,a.2.1,a.2.2.1,a.2.2.2.1,a.2.2.2.2.1,a.2.2.2.2.2.1,a.2.2.2.2.2.2.1,a.2.2.2.2.2.2.2.1,a.2.2.2.2.2.2.2.2.1,a.2.2.2.2.2.2.2.2.2.1,a.2.2.2.2.2.2.2.2.2.2.1,a.2.2.2.2.2.2.2.2.2.2.2] k) 1) a.2.2.2.1,(TU (neq l 4) (SF .i64 (Oe [a.1,a.2.1,a.2.2.1,a.2.2.2.1,a.2.2.2.2.1,a.2.2.2.2.2.1,a.2.2.2.2.2.2.1,a.2.2.2.2.2.2.2.1,a.2.2.2.2.2.2.2.2.1,a.2.2.2.2.2.2.2.2.2.1,a.2.2.2.2.2.2.2.2.2.2.1,a.2.2.2.2.2.2.2.2.2.2.2] k) 1) a.2.2.2.2.1,(TU (neq l 5) (SF .i64 (Oe [a.1,a.2.1,a.2.2.1,a.2.2.2.1,a.2.2.2.2.1,a.2.2.2.2.2.1,a.2.2.2.2.2.2.1,a.2.2.2.2.2.2.2.1,a.2.2.2.2.2.2.2.2.1,a.2.2.2.2.2.2.2.2.2.1,a.2.2.2.2.2.2.2.2.2.2.1,a.2.2.2.2.2.2.2.2.2.2.2] k) 1) a.2.2.2.2.2.1,(TU (neq l 6) (SF .i64 (Oe [a.1,a.2.1,a.2.2.1,a.2.2.2.1,a.2.2.2.2.1,a.2.2.2.2.2.1,a.2.2.2.2.2.2.1,a.2.2.2.2.2.2.2.1,a.2.2.2.2.2.2.2.2.1,a.2.2.2.2.2.2.2.2.2.1,a.2.2.2.2.2.2.2.2.2.2.1,a.2.2.2.2.2.2.2.2.2.2.2] k) 1) a.2.2.2.2.2.2.1,(TU (neq l 7) (SF .i64 (Oe [a.1,a.2.1,a.2.2.1,a.2.2.2.1,a.2.2.2.2.1,a.2.2.2.2.2.1,a.2.2.2.2.2.2.1,a.2.2.2.2.2.2.2.1,a.2.2.2.2.2.2.2.2.1,a.2.2.2.2.2.2.2.2.2.1,a.2.2.2.2.2.2.2.2.2.2.1,a.2.2.2.2.2.2.2.2.2.2.2] k) 1) a.2.2.2.2.2.2.2.1,(TU (neq l 8) (SF .i64 (Oe [a.1,a.2.1,a.2.2.1,a.2.2.2.1,a.2.2.2.2.1,a.2.2.2.2.2.1,a.2.2.2.2.2.2.1,a.2.2.2.2.2.2.2.1,a.2.2.2.2.2.2.2.2.1,a.2.2.2.2.2.2.2.2.2.1,a.2.2.2.2.2.2.2.2.2.2.1,a.2.2.2.2.2.2.2.2.2.2.2] k) 1) a.2.2.2.2.2.2.2.2.1,(TU (neq l 9) (SF .i64 (Oe [a.1,a.2.1,a.2.2.1,a.2.2.2.1,a.2.2.2.2.1,a.2.2.2.2.2.1,a.2.2.2.2.2.2.1,a.2.2.2.2.2.2.2.1,a.2.2.2.2.2.2.2.2.1,a.2.2.2.2.2.2.2.2.2.1,a.2.2.2.2.2.2.2.2.2.2.1,a.2.2.2.2.2.2.2.2.2.2.2] k) 1) a.2.2.2.2.2.2.2.2.2.1,(TU (neq l 10) (SF .i64 (Oe [a.1,a.2.1,a.2.2.1,a.2.2.2.1,a.2.2.2.2.1,a.2.2.2.2.2.1,a.2.2.2.2.2.2.1,a.2.2.2.2.2.2.2.1,a.2.2.2.2.2.2.2.2.1,a.2.2.2.2.2.2.2.2.2.1,a.2.2.2.2.2.2.2.2.2.2.1,a.2.2.2.2.2.2.2.2.2.2.2] k) 1) a.2.2.2.2.2.2.2.2.2.2.1,TU (neq l 11) (SF .i64 (Oe [a.1,a.2.1,a.2.2.1,a.2.2.2.1,a.2.2.2.2.1,a.2.2.2.2.2.1,a.2.2.2.2.2.2.1,a.2.2.2.2.2.2.2.1,a.2.2.2.2.2.2.2.2.1,a.2.2.2.2.2.2.2.2.2.1,a.2.2.2.2.2.2.2.2.2.2.1,a.2.2.2.2.2.2.2.2.2.2.2] k) 1) a.2.2.2.2.2.2.2.2.2.2.2)))))))))))
end
section
open Go Sv
def Vd (s:Th):Int:=if (VG s).2≠0 then (VG s).2 else (Wd s (VG s).1).2.2
def YM (s:Th):Th:=(Wd s (VG s).1).1
def bJ (s:Th):Int×Bool:=((VG s).1,(Wd s (VG s).1).2.1)
def U5:Nat->Th->Th×(List (Int×Bool)×Int)
 | 0,s=>(s,([],0))
 | n+1,s=>if Vd s=4 then (s,([],0)) else if Vd s≠0 then (s,([],Vd s)) else ((U5 n (YM s)).1,(bJ s::(U5 n (YM s)).2.1,(U5 n (YM s)).2.2))
theorem Zp {s:Th} : ∀ {l:List Int} {d:Int},WN s l=some d -> ∃ p q,l=p++d::q/\(We false (λs j=>(WE s.1 j,0)) s d).1=true /\ ∀ x∈p,¬ (We false (λs j=>(WE s.1 j,0)) s x).1=true
 | [],_,h=>by cases h
 | x::l,d,h=>by
  unfold WN at h;split at h
  ·rename_i a;cases h;exact ⟨[],l,rfl,a,λ_ h=>by cases h⟩
  ·rename_i a;obtain ⟨p,q,rfl,b,c⟩:=Zp h
   exact ⟨x::p,q,rfl,b,λy hy=>by
    rcases ey.1 hy with rfl | hy
    ·exact a
    ·exact c y hy⟩
theorem ao {s:Th} (v:VSt s):((VG s).2=4/\s.2.1=[])\/(VG s).2=9\/((VG s).2=0/\(VG s).1∈Tp 0 s.1.2):=by
 have a:(Tk s).2=0:=Ts.2 v;unfold VG;rw [if_neg (by simp [a])];by_cases h:Tp 0 s.1.2=[]
 ·rw [if_pos h];refine .inl ⟨rfl,?_⟩;have:=v.due;rw [h] at this;simpa using this
 ·rw [if_neg h];cases hc:WN s (Tp 0 s.1.2) with
  | none=>exact .inr (.inl rfl)
  | some d =>
   obtain ⟨p,q,e,_⟩:=Zp hc;exact .inr (.inr ⟨rfl,by rw [e];simp⟩)
theorem iR (s:Th) (j:Job):(YI s j).2.2≠4:=by
 unfold YI;split
 ·simp
 ·split
  ·simp
  ·unfold ZS;split
   ·simp
   ·split<;>simp
theorem ke {s:Th} (v:VSt s) {d:Int} (h:d∈Tp 0 s.1.2):(Wd s d).2.2≠4:=by
 have b:(Tk s).2=0:=Ts.2 v;obtain ⟨j,n,a,_⟩:=v.atDue h;unfold Wd;rw [if_neg (by simp [b]),a];exact iR s j
theorem aA {s0 s:Th} (g:Gd s0 s):VA s=some (VG s)/\Yj s=some (VG s):=⟨pP g.1.sm,iH g.1.sm⟩
theorem dh {s0 s:Th} (g:Gd s0 s) (d:Int):Uy (s,d)=some (Wd s d)/\Yk (s,d)=some (Wd s d) :=
 ⟨bp g.1.sm (Zo g.2.2) d,iI g.1.sm (Zo g.2.2) d⟩
theorem dK {s0 s:Th} (g:Gd s0 s) (e:Vd s=0):(VG s).2=0/\(VG s).1∈Tp 0 s.1.2/\(Wd s (VG s).1).2.2=0:=by
 unfold Vd at e;rcases ao g.1 with h | h | h
 ·rw [if_pos (by rw [h.1];decide),h.1] at e;cases e
 ·rw [if_pos (by rw [h];decide),h] at e;cases e
 ·rw [if_neg (by simp [h.1])] at e;exact ⟨h.1,h.2,e⟩
theorem Wb {s0 s:Th} (g:Gd s0 s) (e:Vd s=0) : ∃ (n:Nat) (j:Job),(bJ s).1=(n:Int)/\n<12/\JobAt s.1 n j/\WE s.1 j=true/\StepF s n j (YM s) (bJ s).2/\Gd s0 (YM s):=by
 obtain ⟨_,a,b⟩:=dK g e;exact eY g a b
theorem dL {s0 s:Th} (g:Gd s0 s) (e:Vd s=4):(VG s).2=4/\s.2.1=[]:=by
 unfold Vd at e;rcases ao g.1 with h | h | h
 ·exact h
 ·rw [if_pos (by rw [h];decide),h] at e;cases e
 ·rw [if_neg (by simp [h.1])] at e;exact absurd e (ke g.1 h.2)
theorem aR {s0 s:Th} {N:Nat} (g:Gd s0 s) (a:UH s.1.2.flatten<=N) (e:Vd s=0):Yb N (YM s)+1<=Yb N s/\UH (YM s).1.2.flatten<=N:=by
 obtain ⟨n,j,_,d,c,_,F,_⟩:=Wb g e;refine ⟨kH g.1 a d c F,?_⟩;by_cases b:0<UA s.1 j
 ·rw [(F.read b).2.1];exact a
 ·rw [(F.inst (by omega)).2.1];exact tg (ck g.1 (Zo g.2.2) c b) a
theorem ZE {s0:Th} {N:Nat} : ∀ {n:Nat} {s:Th},Gd s0 s->UH s.1.2.flatten<=N->(U5 n s).2.1.length<=n/\(U5 n s).2.1.length+Yb N (U5 n s).1<=Yb N s/\Gd s0 (U5 n s).1/\UH (U5 n s).1.1.2.flatten<=N/\((U5 n s).2.2=0->(U5 n s).2.1.length<n->(U5 n s).1.2.1=[])
 | 0,s,g,hN=>⟨dc _,by simp [U5],g,hN,λ_ h=>absurd h (by simp [U5])⟩
 | n+1,s,g,hN=>by
  unfold U5;by_cases b:Vd s=4
  ·rw [if_pos b];exact ⟨by simp,by simp,g,hN,λ_ _=>(dL g b).2⟩
  ·rw [if_neg b];by_cases a:Vd s=0
   ·rw [if_neg (by simp [a])];obtain ⟨_,_,_,_,_,_,_,d⟩:=Wb g a;obtain ⟨m,f⟩:=aR g hN a;obtain ⟨i,o,j,k,l⟩:=ZE (n:=n) d f;refine ⟨by simpa using i,?_,j,k,λc e=>l c (by simpa using e)⟩;simp only [ci];omega
   ·rw [if_pos a];exact ⟨by simp,by simp,g,hN,λc=>absurd c a⟩
def td (u:dt) (x:Int×Bool):dt:=(SF .i64 u.1 1,(u.2.1,(if x.2=true then SF .i64 u.2.2.1 1 else u.2.2.1,zn u.2.2.2 x.1.toNat x.1.toNat)))
def qR (u:dt) (l:List (Int×Bool)):dt:=l.foldl td u
end
section
open Go Sv
theorem pR {α β γ:Type} {f:α->Option (LR α β)} {K:β->Option γ} {R:Option γ} (Inv:α->Prop) (Q:β->Prop) (m:α->Nat) {s:α} (hs:Inv s) (b:m s<18446744073709551616)
  (step : ∀ s,Inv s->(∃ s',f s=some (.nx s')/\Inv s'/\m s'<m s)\/(∃ x,f s=some (.dn x)/\Q x)) (a : ∀ x,Q x->K x=R):bd (loop f s) K=R:=by
 obtain ⟨x,e,q⟩:=SM Inv Q m hs b step;rw [e];exact a x q
theorem pT {β:Type} (n:Nat) (x y:Unit->Option β):br (neq n 0) x y=if n=0 then x () else y ():=by
 rw [Sy]
theorem uo {s0 s:Th} (g:Gd s0 s):Vd s=4/\(VG s).2=4\/Vd s≠4/\Vd s≠0/\(VG s).2≠4/\((VG s).2=Vd s\/(VG s).2=0/\(Wd s (VG s).1).2.2=Vd s)\/Vd s=0/\(VG s).2=0/\(Wd s (VG s).1).2.2=0:=by
 by_cases a:Vd s=4
 ·exact .inl ⟨a,(dL g a).1⟩
 ·by_cases b:Vd s=0
  ·have:=dK g b;exact .inr (.inr ⟨b,this.1,this.2.2⟩)
  ·refine .inr (.inl ⟨a,b,?_⟩);unfold Vd at a b ⊢;by_cases c:(VG s).2≠0
   ·rw [if_pos c] at a ⊢;exact ⟨a,.inl rfl⟩
   ·have d:(VG s).2=0:=by simpa using c
    rw [if_neg c];rw [d];exact ⟨by decide,.inr ⟨rfl,rfl⟩⟩
theorem zW {u:dt} {x:Int×Bool} (h:0<=u.1/\u.1<=1000000):(td u x).1=u.1+1:=by
 show SF .i64 u.1 1=_;exact Sh (by omega)
def At (s0:Th) (g:Int) (T:Th×((List Int×dt)×Int)) (k:Nat) (s:Th) (l:List Int) (u:dt):Prop:=Gd s0 s/\0<=u.1/\u.1+k=g/\g<=1000000/\(l.length:Int)=u.1/\T=((U5 k s).1,((l++(U5 k s).2.1.map (·.1),qR u (U5 k s).2.1),(U5 k s).2.2))
theorem At.step {s0 s:Th} {g:Int} {T:Th×((List Int×dt)×Int)} {k:Nat} {l:List Int} {u:dt} (a:At s0 g T (k+1) s l u) (e:Vd s=0):At s0 g T k (YM s) (l++[(bJ s).1]) (td u (bJ s)):=by
 obtain ⟨c,h,i,d,j,f⟩:=a;obtain ⟨_,_,_,_,_,_,_,b⟩:=Wb c e;have m:=zW (x:=bJ s) (show 0<=u.1/\u.1<=1000000 by omega);refine ⟨b,by omega,by omega,d,by simp;omega,?_⟩;rw [f];simp only [U5,e,ne_eq,not_true_eq_false,if_false,kd,List.append_assoc,List.cons_append,ox];rfl
theorem At.none {s0 s:Th} {g:Int} {T:Th×((List Int×dt)×Int)} {k:Nat} {l:List Int} {u:dt} (a:At s0 g T k s l u) (e:Vd s=4):T=(s,((l,u),0)):=by
 rw [a.2.2.2.2.2];cases k<;>simp [U5,e,qR]
theorem At.fail {s0 s:Th} {g:Int} {T:Th×((List Int×dt)×Int)} {k:Nat} {l:List Int} {u:dt} (a:At s0 g T (k+1) s l u) (c:Vd s≠4) (b:Vd s≠0):T=(s,((l,u),Vd s)):=by
 rw [a.2.2.2.2.2];simp [U5,c,b,qR]
theorem At.last {s0 s:Th} {g:Int} {T:Th×((List Int×dt)×Int)} {l:List Int} {u:dt} (a:At s0 g T 0 s l u):T=(s,((l,u),0)):=by
 rw [a.2.2.2.2.2];simp [U5,qR]
end
section
open Go Sv
def wQ (s:Th):Int×(List (List UN)×(List Job×Int)):=(s.1.1,(s.1.2,s.2))
end
end Go.Proofs.YtfipnhjfbebeiabGreatDoor.Pl
