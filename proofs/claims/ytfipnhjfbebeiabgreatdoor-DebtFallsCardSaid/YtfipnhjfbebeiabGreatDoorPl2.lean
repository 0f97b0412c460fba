/- Functions of the program and of the specification as plain functions, and laws about them. No condition. -/
import Derived.Test.YtfipnhjfbebeiabGreatDoorPl1
import Derived.KernelRfl
set_option linter.all false
open List renaming drop_eq_getElem_cons->sa, filter_cons->tw, find?_append->xo, find?_cons->iz, find?_some->ya, flatten_cons->iP, foldl_cons->gM, getElem?_eq_getElem->co, getElem?_eq_none->a9, getElem?_eq_some_iff->a8, getElem?_of_mem->ed, getElem?_take->o3, getElem_mem->sp, length_append->hM, length_cons->ci, length_map->s6, length_nil->cP, length_pos_iff->ec, length_take->ul, map_cons->li, map_map->Te, mem_append->ns, mem_append_right->sr, mem_cons->eo, mem_flatten->l4, mem_map->ox, mem_map_of_mem->l5, mem_of_find?_eq_some->wl, mem_of_getElem?->bo, nil_append->nP, nodup_cons->oj, sum_cons->Ds, take_add_one->gs, take_append_drop->s7, take_of_length_le->en
open Nat renaming add_comm->Tf, add_mul->ym, le_refl->dc, le_trans->s8, mul_le_mul_right->ol, sub_le->xT, zero_add->ee
open Int renaming toNat_natCast->bl
open Option renaming filter->l6, getD_some->hI, none_or->tT, or_assoc->hV, toList_some->xn
namespace Go.Proofs.YtfipnhjfbebeiabGreatDoor.Pl
section
open Go Sv
def zS:Th:=((0,[]),([],0))
def Uo (j:Job):List Tj:=j.2.2.2.1
def YM (s:Th) (j:Job):Nat:=if Vo s.1 j=true then j.1.toNat else j.1.toNat+1
def Vn (s:Th) (j:Job):Tl:=if Uo j=[] then Uw s.1 j.1.toNat [] else Uw (Uw s.1 j.1.toNat []) (YM s j) (To (Uw s.1 j.1.toNat []).2 (YM s j)++[(s.2.2,Uo j)])
def YC (s:Th) (j:Job):Int:=if Uo j=[] then s.2.2 else s.2.2+1
def ZD (s:Th) (j:Job):Th×Int :=
 if 0<UA s.1 j\/Vh s.1 j=false then (zS,9) else if s.2.2>1000000/\Uo j≠[] then (zS,5) else (ZK s (Vn s j) (YC s j) j.1,0)
theorem aB : ∀ (ls:List (List UJ)) (i:Nat),(Tp i ls).Nodup /\ ∀ d∈Tp i ls,(i:Int)<=d
 | [],_=>⟨.nil,λ_ h=>by cases h⟩
 | rs::ls,i=>by
  obtain ⟨b,a⟩:=aB ls (i+1);rw [Wm];by_cases h:rs.length=2
  ·rw [if_pos h];refine ⟨oj.2 ⟨λc => ?_,b⟩,λd hd => ?_⟩
   ·have:=a _ c;omega
   ·rcases eo.1 hd with e | hd
    ·omega
    ·have:=a d hd;omega
  ·rw [if_neg h];exact ⟨b,λd hd=>by have:=a d hd;omega⟩
theorem VSt.nodup {s:Th} (v:VSt s):(s.2.1.map (·.1)).Nodup:=by rw [v.due];exact (aB _ _).1
theorem JobAt.out {L:Tl} {n:Nat} {j:Job} (h:JobAt L n j) (v:VLev L) (hs:(∀ r∈To L.2 n,r.2.length<=2000)):VL (Uo j)/\((Uo j).length:Int)<=2*Uv L.1 n/\j.1=(n:Int)/\n<12/\To L.2 n≠[]:=by
 obtain ⟨a,b,d,k,e,rfl,i,_,l,m⟩:=h;have c:To L.2 n=[a,b]:=by unfold To;rw [e];rfl
 have s:=hs a (by rw [c];simp);have t:=hs b (by rw [c];simp);have u:=((v.own n).2 a (by rw [c];simp)).le;have w:=((v.own n).2 b (by rw [c];simp)).le;obtain ⟨f,g⟩:=ei m l d i (by omega);have p:=(a8.1 e).1;have q:=v.len;refine ⟨f,?_,rfl,by omega,by rw [c];simp⟩
 have o:((Uo ((n:Int),Vb b.2 a.2 d k)).length:Int)<=(b.2.length:Int)+(a.2.length:Int):=by
  have:(Uo ((n:Int),Vb b.2 a.2 d k)).length<=b.2.length+a.2.length:=g;omega
 omega
def jV (L:Tl):Prop := ∀ i,∀ r∈To L.2 i,r.2.length<=2000
structure InstF (s:Th) (n:Nat) (j:Job):Prop where
 l1:VLev (Uw s.1 n [])
 to12:Uo j≠[]->YM s j<12
 vr:Uo j≠[]->VR (Uv s.1.1 (YM s j)) (s.2.2,Uo j)
 id : ∀ y∈(Uw s.1 n []).2.flatten,y.1≠s.2.2
 room:Uo j≠[]->(To (Uw s.1 n []).2 (YM s j)).length<2
 lev:VLev (Vn s j)
theorem gV {s:Th} (v:VSt s) (A:jV s.1) {n:Nat} {j:Job} (z:JobAt s.1 n j) (G : ¬ 0<UA s.1 j) (hc:Vh s.1 j=true) (x:Uo j≠[]->s.2.2<=1000000):InstF s n j:=by
 obtain ⟨C,D,E,t,I⟩:=z.out v.lev (A n);have a:=v.lev.leave (n:=n) t;have e:j.1.toNat=n:=by rw [E];simp
 have b:Vo s.1 j≠true->n+1<12/\(To s.1.2 (n+1)).length<2:=λhs=>by
  unfold Vh at hc;rw [show decide (0<UA s.1 j)=false by simp;omega,e] at hc;cases o:Vo s.1 j with
  | true=>exact absurd o hs
  | false =>
   rw [o] at hc;simpa [Y5,To] using hc
 have d : ∀ y∈(Uw s.1 n []).2.flatten,y.1≠s.2.2:=λy r=>by
  obtain ⟨p,q,i,k⟩:=Xy s.1 n [];rw [k,nP] at r
  have B:y∈s.1.2.flatten:=by
   rw [i];rcases ns.1 r with h | h
   ·exact List.mem_append_left _ h
   ·exact sr _ (sr _ h)
  have:=Zt B;have:=v.n3;omega
 have m:YM s j<12/\(To (Uw s.1 n []).2 (YM s j)).length<2/\((Uo j).length:Int)<=Uv s.1.1 (YM s j):=by
  unfold YM;by_cases hs:Vo s.1 j=true
  ·rw [if_pos hs,e];refine ⟨t,by rw [Wx,if_pos rfl];simp,?_⟩;have c:=hs;unfold Vo at c;rw [e] at c;exact of_decide_eq_true c
  ·rw [if_neg hs,e];obtain ⟨i,k⟩:=b hs;refine ⟨i,by rw [Wx,if_neg (by omega)];exact k,?_⟩;rw [cF];exact D
 obtain ⟨u,w,F⟩:=m;have g:Uo j≠[]->VR (Uv s.1.1 (YM s j)) (s.2.2,Uo j):=λf=>⟨v.n1,x f,C,f,F⟩;refine ⟨a,λ_=>u,g,d,λ_=>w,?_⟩;unfold Vn;rw [e];by_cases l:Uo j=[]
 ·rw [if_pos l];exact a
 ·rw [if_neg l];exact a.arrive u w (g l) d
theorem bj {s:Th} (v:VSt s) (u:jV s.1) {n:Nat} {j:Job} (t:JobAt s.1 n j) (w : ¬ 0<UA s.1 j) (hc:Vh s.1 j=true) (y:Uo j≠[]->s.2.2<=1000000) (l:Int) :
  (bd (Vr (s.1,(n:Int))) λd=>br (Oa d.2.2 0) (λ_=>br (S6 (Ki (AS j.2.2.2.1)) 0) (λ_=>bd (UZ (s,(j,l))) λK=>br (Hg K) (λ_=>bd (Ub ((d.1,(SF .i64 (n:Int) 1,(s.2.2,j.2.2.2.1))))) λm=>br (Ry m.2 0) (λ_=>some ((((0,[]),([],0)),m.2))) λ_=>bd (UO ((s,(m.1,(SF .i64 s.2.2 1,(n:Int)))))) λL=>some L) λ_=>bd (Ub ((d.1,((n:Int),(s.2.2,j.2.2.2.1))))) λo=>br (Ry o.2 0) (λ_=>some ((((0,[]),([],0)),o.2))) λ_=>bd (UO ((s,(o.1,(SF .i64 s.2.2 1,(n:Int)))))) λM=>some M) λ_=>br (Ry d.2.2 0) (λ_=>some ((((0,[]),([],0)),d.2.2))) λ_=>bd (UO ((s,(d.1,(s.2.2,(n:Int)))))) λN=>some N) λ_=>br (Ry d.2.2 0) (λ_=>some ((((0,[]),([],0)),d.2.2))) λ_=>bd (UO ((s,(d.1,(s.2.2,(n:Int)))))) λk=>some k)
  = some (ZK s (Vn s j) (YC s j) j.1,0):=by
 have F:=gV v u t w hc y;obtain ⟨G,O,g,I,J⟩:=t.out v.lev (u n);have i:j.1.toNat=n:=by rw [g];simp
 have D:=v.n2;have C:=v.n1;have A:=v.jsmall;have a:=F.lev;rw [eY v.lev J,Sx];show (br (Oa 0 0) _ _)=_;rw [TK,if_pos rfl,Tq,Tn,TM];by_cases b:Uo j=[]
 ·rw [if_neg (show ¬ ((j.2.2.2.1.length:Int)>0) by rw [show j.2.2.2.1=[] from b];simp),TQ,if_pos rfl];unfold Vn at a ⊢;rw [if_pos b,i] at a;rw [if_pos b,i,aT v.nodup (by omega) a,Sx];unfold YC;rw [if_pos b,g]
 ·rw [if_pos (show ((j.2.2.2.1.length:Int)>0) by have:=ec.2 b;have h:(Uo j).length=j.2.2.2.1.length:=rfl;omega),bT v.lev g I,Sx,UU];have E:(Uo j).length<=1048576:=by have:=G.len;omega
  have B:kR [] (Uv (Uw s.1 n []).1 (YM s j)) (s.2.2,Uo j)=0:=jw.2 ⟨F.vr b,by simp⟩;have f:=dU F.l1 (F.to12 b) (x:=(s.2.2,Uo j)) E F.id (F.room b);rw [if_neg (by simp [B])] at f
  have z:Vn s j=Uw (Uw s.1 n []) (YM s j) (To (Uw s.1 n []).2 (YM s j)++[(s.2.2,Uo j)]):=by
   unfold Vn;rw [if_neg b,i]
  have q:YC s j=s.2.2+1:=by unfold YC;rw [if_neg b]
  rw [<- z] at f;have p:SF .i64 s.2.2 1=s.2.2+1:=Sh (by omega);have r:=aT v.nodup (by omega) a (s.2.2+1) (n:Int);rw [TV];have c:YM s j=if Vo s.1 j=true then n else n+1:=by unfold YM;rw [i]
  by_cases hs:Vo s.1 j=true
  ·rw [if_pos hs] at c ⊢;rw [c] at f;have e:Ub (Uw s.1 n [],((n:Int),(s.2.2,j.2.2.2.1)))=some (Vn s j,0):=f;rw [e,Sx,TQ,if_pos rfl,p,r,Sx,q,g]
  ·rw [if_neg hs] at c ⊢;rw [c] at f;rw [Tu (by omega)];have e:Ub (Uw s.1 n [],(((n+1:Nat):Int),(s.2.2,j.2.2.2.1)))=some (Vn s j,0):=f;rw [e,Sx,TQ,if_pos rfl,p,r,Sx,q,g]
theorem eE {s:Th} (m:Sm s) (k:jV s.1) (a:Int):WC (s,a)=some (WA zS ZD s a):=by
 unfold WC;rw [cz m,Sx];unfold WA;by_cases b:(Tk s).2=0;rotate_left
 ·rw [if_pos b,TQ,if_neg b,if_pos b];rfl
 rw [if_neg (show ¬ (Tk s).2≠0 by simp [b]),if_neg (show ¬ (Tk s).2≠0 by simp [b])];have v:=Ts.1 b;unfold aO;cases p:Zo a 0 (Tp 0 s.1.2) with
 | none=>rfl
 | some i =>
  obtain ⟨j,n,l,o,f,g,q⟩:=v.at p;have:=v.lev.len;subst o;simp only [l];unfold UL ZD;rw [TQ,if_pos rfl,Sx,TM];by_cases e:0<UA s.1 j
  ·rw [if_pos (show ((UA s.1 j:Int))>0 by omega),if_pos (.inl e)];rfl
  rw [if_neg (show ¬ ((UA s.1 j:Int))>0 by omega),cN v.lev f (by omega) _ rfl,Sx,UU,TV];by_cases hc:Vh s.1 j=true;rotate_left
  ·rw [if_neg hc,if_pos (.inr (by simpa using hc))];rfl
  rw [if_pos hc,if_neg (show ¬ (0<UA s.1 j\/Vh s.1 j=false) by rw [hc];simp;omega),TM];by_cases d:s.2.2>1000000
  ·rw [if_pos d,Tq,Tn,TM];by_cases c:Uo j=[]
   ·rw [if_neg (show ¬ ((j.2.2.2.1.length:Int)>0) by rw [show j.2.2.2.1=[] from c];simp),if_neg (by simp [c])];exact bj v k g e hc (λh=>absurd c h) _
   ·rw [if_pos (show ((j.2.2.2.1.length:Int)>0) by have:=ec.2 c;have h:(Uo j).length=j.2.2.2.1.length:=rfl;omega),if_pos ⟨d,c⟩];rfl
  ·rw [if_neg d,if_neg (by simp [d])];exact bj v k g e hc (λh=>by omega) _
end
section
open Go Sv
def Y6 (L:Tl) (j:Job):Xg:=match To L.2 j.1.toNat with
 | [r0,r1]=>Vb r1.2 r0.2 j.2.2.1.2.2 (j.2.2.2.2.toNat+1)
 | _=>j.2
def Zz (s:Th) (j:Job):Th:=(s.1,(lset s.2.1 ((Zo j.1 0 (Tp 0 s.1.2)).getD 0) (j.1,Y6 s.1 j),s.2.2))
theorem kL {s:Th} (m:Sm s) (v:VSt s) {a:Int} {i:Nat} (h:Zo a 0 (Tp 0 s.1.2)=some i) {j:Job} (e:s.2.1[i]? = some j) (t:0<UA s.1 j):YG (s,(a,1))=some (Zz s j,(1,0)):=by
 obtain ⟨j',n,f,y,u,q,D⟩:=v.at h;rw [e] at f;cases f;subst y;have r:(Tk s).2=0:=Ts.2 v
 have l:YE s (n:Int)=((i:Int),0):=by
  unfold YE;rw [if_neg (show ¬ (Tk s).2≠0 by simp [r]),h]
 have w:=v.jsmall;have hi:=(a8.1 e).1;unfold YG;rw [tn m,Sx,TQ,if_pos r,TP,if_neg (show ¬ ((1:Int)<0) by omega),cU m,Sx,l,TQ,if_pos rfl,Ti,TC e,(JobAt.left q).1,Sx,TK,if_neg (show ¬ ((UA s.1 j:Int)=0) by omega),Ti,TC e];obtain ⟨b,c,d,k,p,rfl,x,C,A,B⟩:=q;have z:To s.1.2 n=[b,c]:=by unfold To;rw [p];rfl
 have o:UA s.1 ((n:Int),Vb c.2 b.2 d k)=c.2.length+b.2.length-k:=by
  unfold UA;simp only [bl,p];show c.2.length+b.2.length-((k:Int)).toNat=_;rw [bl]
 rw [o] at t;have g:=cG B A d x (k:=1);rw [show min 1 (c.2.length+b.2.length-k)=1 by omega] at g;show (bd (Uy (Vb c.2 b.2 d k,((1:Nat):Int))) λE=>_)=_;rw [g,Sx];simp only;rw [TQ,if_pos rfl];unfold UY;rw [UP (by simp only [AS];omega),Sx,Ti,S3,if_pos (by simp only [AS];exact hi),TC e];unfold Zz Y6;simp only [bl,z,h,hI];have e1:(Vb c.2 b.2 d k).2.1.2.2=d:=ad _ _ _ _;have e2:(Vb c.2 b.2 d k).2.2.2.toNat=k:=by show ((k:Int)).toNat=k;rw [bl]
 rw [e1,e2];rfl
def Xf (s:Th) (j:Job):Th×(Bool×Int):=if Vh s.1 j=false then (zS,(false,9)) else if 0<UA s.1 j then (Zz s j,(false,0)) else ((ZD s j).1,(Oa (ZD s j).2 0,(ZD s j).2))
def V1 (s:Th) (a:Int):Th×(Bool×Int):=if (Tk s).2≠0 then (zS,(false,(Tk s).2)) else match aO s a with
 | some j=>Xf s j
 | none=>(zS,(false,4))
theorem cL {s:Th} (m:Sm s) (g:jV s.1) (a:Int):Ur (s,a)=some (V1 s a):=by
 unfold Ur;rw [cz m,Sx,eE m g];unfold WA V1;by_cases b:(Tk s).2=0;rotate_left
 ·rw [if_pos b,TQ,if_neg b,if_pos b];rfl
 rw [if_neg (show ¬ (Tk s).2≠0 by simp [b]),if_neg (show ¬ (Tk s).2≠0 by simp [b]),if_neg (show ¬ (Tk s).2≠0 by simp [b])];have v:=Ts.1 b;unfold aO;cases f:Zo a 0 (Tp 0 s.1.2) with
 | none=>rfl
 | some i =>
  obtain ⟨j,n,e,k,d,h,l⟩:=v.at f;have:=v.lev.len;simp only [e];unfold Xf UL;rw [TQ,if_pos rfl,cN v.lev d (by omega) _ rfl,Sx,UU,TV];cases hc:Vh s.1 j with
  | false=>rw [if_neg (by simp),if_pos rfl];rfl
  | true =>
   rw [if_pos rfl,if_neg (by simp),Sx,TM];by_cases c:0<UA s.1 j
   ·rw [if_pos (show ((UA s.1 j:Int))>0 by omega),if_pos c,kL m v f e c];rfl
   ·rw [if_neg (show ¬ ((UA s.1 j:Int))>0 by omega),if_neg c];rfl
end
section
open Go Sv
theorem aZ {ls:List (List UJ)} {d:Int} (h:d∈Tp 0 ls) : ∃ (n:Nat) (a b:UJ),d=(n:Int)/\ls[n]? = some [a,b]:=by
 obtain ⟨k,f⟩:=ed h;obtain ⟨n,c,a,b,e⟩:=Xx f;exact ⟨n,a,b,by rw [c,ee],e⟩
theorem dM {l:List (List UJ)} {n:Int} (i:0<n) (h : ∀ x∈l.flatten,x.1<n):WS l<n:=by
 have f : ∀ (rs:List UJ) (m:Int),m<n->(∀ x∈rs,x.1<n)->rs.foldl (λm r=>TY m r.1) m<n:=by
  intro rs
  induction rs with
  | nil=>intro m b _;exact b
  | cons r rs e =>
   intro m b c;rw [gM];refine e _ ?_ λx d=>c x (by simp [d]);rw [XH];have:=c r (by simp);omega
 have two : ∀ (ls:List (List UJ)) (m:Int),m<n->(∀ rs∈ls,∀ x∈rs,x.1<n)->ls.foldl (λm rs=>rs.foldl (λm r=>TY m r.1) m) m<n:=by
  intro ls
  induction ls with
  | nil=>intro m b _;exact b
  | cons rs ls e =>
   intro m b c;rw [gM];exact e _ (f rs m b (c rs (by simp))) λg a=>c g (by simp [a])
 exact two l 0 i λrs a x d=>h x (l4.2 ⟨rs,a,d⟩)
theorem pW {l:List (List UJ)} (e:l.getLast? ≠ some []) {n:Nat} (a:To l n≠[]) (b : ∀ i,n<i->To l i=[]):l.length=n+1:=by
 have f:n<l.length:=by
  by_cases h:n<l.length
  ·exact h
  ·unfold To at a;rw [a9 (by omega)] at a;exact absurd rfl a
 by_cases c:l.length=n+1
 ·exact c
 ·exfalso;have d:=b (l.length-1) (by omega);refine e ?_;rw [List.getLast?_eq_getElem?,WE (by omega),d]
theorem aw {js:List Job} {d:Int} {j:Job} (h:Uk js d=some j):j∈js/\j.1=d:=by
 unfold Uk at h;have a:=ya h;unfold cZ at a;rw [Vt] at a;exact ⟨wl h,(of_decide_eq_true a).symm⟩
theorem jd {L:Tl} (v:VLev L) {n:Nat} {b c:UJ} (h:L.2[n]? = some [b,c]):JobAt L n (WW L (n:Int)):=by
 have a:To L.2 n=[b,c]:=by unfold To;rw [h];rfl
 refine ⟨b,c,decide ((n:Int)=(L.2.length:Int)-1),0,h,?_,Nat.zero_le _,λhd => ?_,VR.vl' v (n:=n) (by rw [a];simp),VR.vl' v (n:=n) (by rw [a];simp)⟩
 ·unfold WW;rw [bl,a]
 ·have:=of_decide_eq_true hd;have:=(a8.1 h).1;omega
theorem pF {s:Th} (v:VSt s) {L:Tl} (t:VLev L) {next a:Int} (E:1<=next) (F:next<=1000001) (G : ∀ x∈L.2.flatten,x.1<next)
  (I : ∀ (n:Nat) (f g:UJ),s.1.2[n]? = some [f,g]->(n:Int)≠a->(∃ p q,L.2[n]? = some [p,q])->L.2[n]? = some [f,g]/\(n+1=s.1.2.length->n+1=L.2.length)):VSt (ZK s L next a):=by
 have b : ∀ d∈Tp 0 L.2,(We s L a d).1=d /\ ∃ n,JobAt L n (We s L a d):=λd hd=>by
  obtain ⟨n,p,q,rfl,r⟩:=aZ hd;unfold We;cases i:(if (n:Int)=a then none else Uk s.2.1 (n:Int)) with
  | none =>
   rw [Option.getD_none];have h:=jd t r;refine ⟨?_,n,h⟩;obtain ⟨_,_,_,_,_,e,_⟩:=h;rw [e]
  | some j =>
   rw [hI];by_cases l:(n:Int)=a
   ·rw [if_pos l] at i;cases i
   rw [if_neg l] at i;obtain ⟨o,c⟩:=aw i;refine ⟨c,n,?_⟩;obtain ⟨m,f,g,D,k,u,rfl,w,y,z,A⟩:=v.job j o;have J:m=n:=by have:(m:Int)=(n:Int):=c;omega
   subst J;obtain ⟨B,C⟩:=I m f g u l ⟨p,q,r⟩;exact ⟨f,g,D,k,B,rfl,w,λh=>C (y h),z,A⟩
 refine ⟨t,E,F,dM (by show 0<next;omega) G,?_,λj o => ?_⟩
 ·show ((Tp 0 L.2).map (We s L a)).map (·.1)=Tp 0 L.2;rw [Te]
  conv=>rhs;rw [<- List.map_id (Tp 0 L.2)]
  exact List.map_congr_left λd hd=>(b d hd).1
 ·obtain ⟨d,hd,rfl⟩:=ox.1 o;exact (b d hd).2
theorem Xw {l:List (List UJ)} {n:Nat} {b c:UJ}:l[n]? = some [b,c]<->To l n=[b,c]:=by
 unfold To;constructor
 ·intro h;rw [h];rfl
 ·intro h;cases a:l[n]? with
  | none=>rw [a] at h;cases h
  | some rs=>rw [a] at h;exact congrArg some h
theorem V0 {s:Th} {j:Job} {n:Nat} (b:j.1.toNat=n) (i:Nat):To (Vn s j).2 i=if Uo j≠[]/\i=YM s j then (if i=n then [] else To s.1.2 i)++[(s.2.2,Uo j)] else if i=n then [] else To s.1.2 i:=by
 unfold Vn;rw [b];by_cases a:Uo j=[]
 ·rw [if_pos a,if_neg (by simp [a]),Wx]
 ·rw [if_neg a,Wx];by_cases hi:i=YM s j
  ·rw [if_pos hi,if_pos ⟨a,hi⟩,Wx,<- hi]
  ·rw [if_neg hi,if_neg (by simp [hi]),Wx]
theorem jq {s:Th} (v:VSt s) (u:jV s.1) {n:Nat} {j:Job} (t:JobAt s.1 n j) (B : ¬ 0<UA s.1 j) (hc:Vh s.1 j=true) (r:Uo j≠[]->s.2.2<=1000000):VSt (ZK s (Vn s j) (YC s j) j.1):=by
 have F:=gV v u t B hc r;obtain ⟨O,P,w,S,q⟩:=t.out v.lev (u n);have l:j.1.toNat=n:=by rw [w];simp
 have E:=v.n1;have G:=v.n2
 have k:s.2.2<=YC s j/\YC s j<=1000001/\(Uo j≠[]->s.2.2<YC s j):=by
  unfold YC;by_cases d:Uo j=[]
  ·rw [if_pos d];exact ⟨by omega,by omega,λh=>absurd d h⟩
  ·rw [if_neg d];have:=r d;exact ⟨by omega,by omega,λ_=>by omega⟩
 refine pF v F.lev (by omega) k.2.1 (λx L => ?_) (λm z A D C N => ?_)
 ·obtain ⟨i,hi⟩:=bB.1 L;rw [V0 l] at hi
  have b : ∀ {y:UJ},y∈(if i=n then [] else To s.1.2 i)->y.1<YC s j:=fun {y} o=>by
   by_cases a:i=n
   ·rw [if_pos a] at o;cases o
   ·rw [if_neg a] at o;have:=Zt (bB.2 ⟨i,o⟩);have:=v.n3;omega
  split at hi
  ·rename_i hh;rcases ns.1 hi with hi | hi
   ·exact b hi
   ·rw [List.mem_singleton.1 hi];exact k.2.2 hh.1
  ·exact b hi
 ·have f:m≠n:=λe=>C (by rw [w,e]);have g:To s.1.2 m=[z,A]:=Xw.1 D
  have p : ¬ (Uo j≠[]/\m=YM s j):=λ⟨d,J⟩=>by
   have:=F.room d;rw [Wx,<- J,if_neg f,g] at this;simp at this
  have c:To (Vn s j).2 m=[z,A]:=by rw [V0 l,if_neg p,if_neg f,g]
  refine ⟨Xw.2 c,λM=>(pW F.lev.last (by rw [c];simp) λi hi => ?_).symm⟩;have a:To s.1.2 i=[]:=by unfold To;rw [a9 (by omega)];rfl
  have I:n<s.1.2.length:=by
   by_cases h:n<s.1.2.length
   ·exact h
   ·unfold To at q;rw [a9 (by omega)] at q;exact absurd rfl q
  have K:YM s j<=n+1:=by unfold YM;rw [l];split<;>omega
  rw [V0 l,if_neg (by rintro ⟨_,h⟩;omega),a];split<;>rfl
theorem Job.steps {L:Tl} {n:Nat} {j:Job} (f:JobAt L n j) (h:0<UA L j):JobAt L n (j.1,Y6 L j):=by
 obtain ⟨a,b,c,k,d,rfl,o,g,l,m⟩:=f;have i:=Xw.1 d
 have e:UA L ((n:Int),Vb b.2 a.2 c k)=b.2.length+a.2.length-k:=by
  unfold UA;simp only [bl,d];show b.2.length+a.2.length-((k:Int)).toNat=_;rw [bl]
 rw [e] at h;refine ⟨a,b,c,k+1,d,?_,by omega,g,l,m⟩;unfold Y6;simp only [bl,i];have e1:(Vb b.2 a.2 c k).2.1.2.2=c:=ad _ _ _ _;have e2:(Vb b.2 a.2 c k).2.2.2.toNat=k:=by show ((k:Int)).toNat=k;rw [bl]
 rw [e1,e2]
theorem kM {s:Th} (v:VSt s) {j:Job} {i n:Nat} (e:Zo j.1 0 (Tp 0 s.1.2)=some i) (a:s.2.1[i]? = some j) (d:JobAt s.1 n j) (c:0<UA s.1 j):VSt (Zz s j):=by
 unfold Zz;rw [e,hI];refine ⟨v.lev,v.n1,v.n2,v.n3,?_,λx hx => ?_⟩
 ·show (s.2.1.set i (j.1,Y6 s.1 j)).map (·.1)=_;rw [<- v.due,List.map_set];refine List.ext_getElem? λk => ?_;rw [List.getElem?_set];by_cases b:i=k
  ·subst b;have hi:=(a8.1 a).1;rw [if_pos rfl,s6,if_pos hi,List.getElem?_map,a];rfl
  ·rw [if_neg b]
 ·rcases List.mem_or_eq_of_mem_set hx with hx | hx
  ·exact v.job x hx
  ·rw [hx];exact ⟨n,Job.steps d c⟩
end
section
open Go Sv
theorem qU {B:Int} {M:List (List UJ)} {f:(Int×List (List UJ))->Option (LR (Int×List (List UJ)) (Nat×((Int×List (List UJ))×Unit)))} (a:f (B,[])=some (.dn (0,((B,[]),())))) (hs : ∀ k,k<M.length->f (B,M.take (k+1))=if To M k=[] then some (.nx (B,M.take k)) else some (.dn (0,((B,M.take (k+1)),())))) : ∀ k,k<=M.length->IL (k+1) f (B,M.take k)=some (0,((B,M.take (Yh M k)),()))
 | 0,_=>by rw [List.take_zero];exact UT a
 | k+1,hk=>by
  have h:=hs k (by omega);unfold Yh;by_cases b:To M k=[]
  ·rw [if_pos b] at h ⊢;rw [UN h];exact qU a hs k (by omega)
  ·rw [if_neg b] at h ⊢;exact UT h
theorem o9 {M:List (List UJ)} {k:Nat} (h:k<M.length):M.take (k+1)=M.take k++[To M k]:=by
 rw [gs,WE h];rfl
theorem dg {L:Tl} (s:L.2.length<=1000) {n:Nat} (u:n<1000) {r:List UJ} (l:r.length<=1048576) (o : ∀ i,(To L.2 i).length<=1048576):Vg (L,((n:Int),r))=some (Uw L n r):=by
 have t:(Ws L.2 n r).length=max L.2.length (n+1):=by unfold Ws;rw [List.length_set,ZH]
 unfold Vg;simp only [Tq,Tn];refine UC (X6 (r:=(0,((((max L.2.length (n+1):Nat):Int),(L.1,Ws L.2 n r)),()))) (λk=>((k:Int),(L.1,(Ws L.2 n r).take k))) (max L.2.length (n+1)) (by simp) (by omega) (λk j => ?_) ?_) ?_
 ·have c:((Ws L.2 n r).take k).length=k:=by rw [ul];omega
  simp only [c];rw [o9 (by omega),dh,Tu (by omega),TP];by_cases g:k<L.2.length
  ·rw [if_pos (by omega),TL,if_neg (by omega),Ti,TC (WE g),TK];by_cases a:k=n
   ·rw [if_pos (by omega),if_pos a,UP l,UP (by simp only [BF,ci,cP];omega)];rfl
   ·rw [if_neg (by omega),if_neg a,UP (o k),UP (by simp only [BF,ci,cP];omega)];rfl
  ·rw [if_neg (by omega),TN,if_pos (by omega),TL,if_pos (by omega),TK];by_cases a:k=n
   ·rw [if_pos (by omega),if_pos a,UP l,UP (by simp only [BF,ci,cP];omega)];rfl
   ·rw [if_neg (by omega),if_neg a,UP (by simp only [BF,ci,cP];omega)];have:To L.2 k=[]:=by unfold To;rw [a9 (by omega)];rfl
    rw [this];rfl
 ·have c:(Ws L.2 n r).take (max L.2.length (n+1))=Ws L.2 n r:=en (by omega);simp only;rw [TP,if_neg (by omega),TN,if_neg (by omega),c]
 ·have d:=qU (B:=L.1) (M:=Ws L.2 n r) (f:=λb=>br (S6 (b.2.length:Int) 0) (λ_=>R1 (SK .i64 (b.2.length:Int) 1) λp=>ix b.2 p λq=>br (Oa (q.length:Int) 0) (λ_=>R1 (SK .i64 (b.2.length:Int) 1) λh=>gd (CF h b.2.length) λ_=>gd (CF 0 h) λ_=>some (.nx (b.1,D0 b.2 0 h))) λ_=>some (.dn ((0,(b,()))))) λ_=>some (.dn ((0,(b,()))))) rfl (λk j=>by
   have c:((Ws L.2 n r).take (k+1)).length=k+1:=by rw [ul];omega
   have hi:SK .i64 ((k+1:Nat):Int) 1=(k:Int):=by rw [Sj (by omega)];omega
   have m:((Ws L.2 n r).take (k+1))[k]? = some (To (Ws L.2 n r) k):=by rw [o3,if_pos (by omega),WE j]
   simp only [c,hi];rw [TM,if_pos (by omega),Ti,TC m,ca];by_cases e:To (Ws L.2 n r) k=[]
   ·rw [if_pos e,if_pos e,Ti,UP (by omega),UP (by omega)]
    have:D0 ((Ws L.2 n r).take (k+1)) 0 k=(Ws L.2 n r).take k:=by
     unfold D0;rw [List.drop_zero,Nat.sub_zero,List.take_take];congr 1;omega
    rw [this]
   ·rw [if_neg e,if_neg e]) _ (dc _)
  rw [en (dc _)] at d;exact UC (U4 (by omega) d) rfl
end
section
open Go Sv
theorem iR {s:Th} (m:Sm s) (v:VSt s) {a:Int} {i:Nat} (h:Zo a 0 (Tp 0 s.1.2)=some i) {j:Job} (e:s.2.1[i]? = some j) (t:0<UA s.1 j):Xt (s,(a,1))=some (Zz s j,(1,0)):=by
 obtain ⟨j',n,f,z,w,u,E⟩:=v.at h;rw [e] at f;cases f;subst z;have l:(Tk s).2=0:=Ts.2 v
 have o:YE s (n:Int)=((i:Int),0):=by
  unfold YE;rw [if_neg (show ¬ (Tk s).2≠0 by simp [l]),h]
 have q:WA (0:Int) (λs j=>((UA s.1 j:Int),0)) s (n:Int)=((UA s.1 j:Int),0):=by
  unfold WA aO;rw [if_neg (show ¬ (Tk s).2≠0 by simp [l]),h];simp only [e]
 have x:=v.jsmall;have hi:=(a8.1 e).1;unfold Xt;rw [ur m,Sx,TK,if_pos l,TP,if_neg (show ¬ ((1:Int)<0) by omega),TQ,if_pos l,Yb m,q,Sx,TK,if_pos rfl,TK,if_neg (show ¬ ((UA s.1 j:Int)=0) by omega),TQ,if_pos rfl,ZI m,o,Sx,Ti,TC e];obtain ⟨b,c,d,k,r,rfl,y,D,B,C⟩:=u;have A:To s.1.2 n=[b,c]:=by unfold To;rw [r];rfl
 have p:UA s.1 ((n:Int),Vb c.2 b.2 d k)=c.2.length+b.2.length-k:=by
  unfold UA;simp only [bl,r];show c.2.length+b.2.length-((k:Int)).toNat=_;rw [bl]
 rw [p] at t;have g:=bN C B d y (k:=1);rw [show min 1 (c.2.length+b.2.length-k)=1 by omega] at g;show (bd (UK (Vb c.2 b.2 d k,((1:Nat):Int))) λF=>_)=_;rw [g,Sx];simp only;rw [UP (by simp only [AS];omega),Ti,S3,if_pos (by simp only [AS];exact hi),TC e];unfold Zz Y6;simp only [bl,A,h,hI];have e1:(Vb c.2 b.2 d k).2.1.2.2=d:=ad _ _ _ _;have e2:(Vb c.2 b.2 d k).2.2.2.toNat=k:=by show ((k:Int)).toNat=k;rw [bl]
 rw [e1,e2];rfl
theorem iO {L:Tl} (v:VLev L) {n:Nat} (h:(To L.2 n).length=2):Ux (L,(n:Int))=some (WW L n,0):=by
 have d:n<L.2.length:=by
  by_cases e:n<L.2.length
  ·exact e
  ·unfold To at h;rw [a9 (by omega)] at h;cases h
 have i:=v.len;obtain ⟨f,g⟩:=v.small;unfold Ux;simp only [Tq,Tn];rw [fA _ f g,WT v,Sx,TK,if_pos rfl,TP,if_neg (by omega),TL,if_neg (by omega),TK,if_pos rfl,TL,if_neg (by omega),Ti,TC (WE d),TP,if_neg (by omega),TQ,if_pos rfl,bL v d,Sx]
 obtain ⟨b,c,a⟩ : ∃ b c,To L.2 n=[b,c]:=by
  match hq:To L.2 n with
  | [b,c]=>exact ⟨b,c,rfl⟩
  | []=>rw [hq] at h;cases h
  | [_]=>rw [hq] at h;cases h
  | _::_::_::_=>rw [hq] at h;simp at h
 rw [cC _ (by rw [WE d,a]) (VR.vl' v (n:=n) (by rw [a];simp)) (VR.vl' v (n:=n) (by rw [a];simp)),Sx];unfold WW;rw [bl,a]
theorem cp (l:List Tj) (c:l.length<=9223372036854775807):WP (l,l)=some true:=by
 unfold WP;simp only [Tq,Tn];refine UC (X6 (r:=(1,(((l.length:Int),false),()))) (λk=>((k:Int),false)) l.length rfl (by omega) (λk a => ?_) (by simp only;rw [re];rfl)) ?_
 ·have b:l[k]? = some l[k]:=co a;simp only;rw [rl a,Sc,Sc,Ti,TC b,Ti,TC b,al,if_pos rfl,Tu (by omega)]
 ·rw [Sy,if_neg (show ¬ (1=0) by omega)];unfold Oa;simp
theorem dz (r:UJ) (a:r.2.length<=9223372036854775807):Wh (r,r)=some true:=by
 unfold Wh;rw [TK,if_pos rfl,cp _ a];rfl
theorem cq (l:List UJ) (c:l.length<=1048576) (h : ∀ r∈l,r.2.length<=9223372036854775807):WQ (l,l)=some true:=by
 unfold WQ;simp only [Tq,Tn];rw [TQ,if_pos rfl];refine UC (X6 (r:=(1,(((l.length:Int),false),()))) (λk=>((k:Int),false)) l.length rfl (by omega) (λk a => ?_) (by simp only;rw [re];rfl)) rfl;have b:l[k]? = some l[k]:=co a;simp only;rw [rl a,Sc,Ti,TC b,Ti,TC b,dz _ (h _ (sp a)),Sx,Yg,R7,Tu (by omega)]
theorem dy (L:Tl) (e:L.2.length<=1048576) (d : ∀ rs∈L.2,rs.length<=1048576 /\ ∀ r∈rs,r.2.length<=9223372036854775807):Xs (L,L)=some true:=by
 unfold Xs;simp only [Tq,Tn];rw [TQ,if_pos rfl,TQ,if_pos rfl];refine UC (X6 (r:=(1,(((L.2.length:Int),false),()))) (λk=>((k:Int),false)) L.2.length rfl (by omega) (λk b => ?_) (by simp only;rw [re];rfl)) rfl;have c:L.2[k]? = some L.2[k]:=co b;have a:=d _ (sp b);simp only;rw [rl b,Sc,Ti,TC c,Ti,TC c,cq _ a.1 a.2,Sx,Yg,R7,Tu (by omega)]
theorem dx {L:Tl} {n:Nat} {j:Job} (h:JobAt L n j):Wj (j,j)=some true:=by
 obtain ⟨l,m,a,k,_,rfl,b,_,g,i⟩:=h;obtain ⟨s1,s2,c,d,e,f⟩:=Z6 i g a b;unfold Wj;rw [TK,if_pos rfl,bI _ _ s1 s2 c d e f];simp [Sx]
theorem fE {t:Th} (v:VSt t):Xu (t,t)=some true:=by
 have m:=v.sm;have d:=v.jsmall;unfold Xu;simp only [Tq,Tn];rw [dy _ m.lv m.rs,Sx,Yg,R7,TQ,if_pos rfl,TQ,if_pos rfl];refine UC (X6 (r:=(1,(((t.2.1.length:Int),false),()))) (λk=>((k:Int),false)) t.2.1.length rfl (by omega) (λk a => ?_) (by simp only;rw [re];rfl)) rfl;have b:t.2.1[k]? = some t.2.1[k]:=co a;obtain ⟨n,c⟩:=v.job _ (sp a);simp only;rw [rl a,Sc,Ti,TC b,Ti,TC b,dx c,Sx,Yg,R7,Tu (by omega)]
end
section
open Go Sv
abbrev jZ:=(Int×qM)
def dJ (j:Job):jZ:=(j.1,(j.2.1.1,(j.2.1.2.1,(j.2.1.2.2.1,(j.2.1.2.2.2.1,(j.2.1.2.2.2.2,(j.2.2.1.1,(j.2.2.1.2.1,(j.2.2.1.2.2,(j.2.2.2.1,j.2.2.2.2))))))))))
theorem iB (p:List Job) (x:Job) (d:Int):Uk (p++[x]) d=(Uk p d).or (if x.1=d then some x else none):=by
 unfold Uk;rw [xo]
 congr 1
 rw [iz];unfold cZ;rw [Vt];by_cases h:x.1=d
 ·rw [if_pos h,show decide (d=x.1)=true by simp [h]]
 ·rw [if_neg h,show decide (d=x.1)=false by simp;exact λe=>h e.symm];rfl
theorem jf {s:Th} (w:(s.2.1.map (·.1)).Nodup) (C:s.2.1.length<=1000) (L:Tl) (a:Int) {D:List Int} {i:Nat} {d:Int} (hi:D[i]? = some d):(loop (λ(c:Int×jZ)=>br (S8 c.1 (s.2.1.length:Int)) (λ_=>R1 c.1 λm=>ix s.2.1 m λr=>R1 (i:Int) λn=>ix D n λt=>br (Oa r.1 t) (λ_=>R1 (i:Int) λo=>ix D o λu=>br (Ry u a) (λ_=>R1 c.1 λq=>ix s.2.1 q λb=>some (.nx ((SF .i64 c.1 1,(b.1,(b.2.1.1,(b.2.1.2.1,(b.2.1.2.2.1,(b.2.1.2.2.2.1,(b.2.1.2.2.2.2,(b.2.2.1.1,(b.2.2.1.2.1,(b.2.2.1.2.2,b.2.2.2))))))))))))) λ_=>some (.nx (SF .i64 c.1 1,c.2))) λ_=>some (.nx (SF .i64 c.1 1,c.2))) λ_=>some (.dn (((0:Nat),(c,()))))) ((0:Int),dJ (WW L d)))=some (0,(((s.2.1.length:Int),dJ (We s L a d)),())):=by
 refine Un (l:=s.2.1) (σ:=Job) (s:=((0:Int),dJ (WW L d))) (λk j=>((k:Int),dJ j)) (λls k j => ∃ p,s.2.1=p++ls/\j=(if d=a then none else Uk p d).getD (WW L d)) (λ_ _ _=>(0,(((s.2.1.length:Int),dJ (We s L a d)),()))) (WW L d) rfl (by omega) ⟨[],rfl,by split<;>rfl⟩ (λj h => ?_) (λk x ls j hd y z h => ?_)
 ·obtain ⟨p,e,rfl⟩:=h;rw [List.append_nil] at e;simp only;rw [re,R7,<- e];rfl
 ·obtain ⟨p,e,rfl⟩:=h
  have B:x.1 ∉ p.map (·.1):=λA=>by
   rw [e,List.map_append,List.nodup_append] at w;exact w.2.2 _ A x.1 (by simp) rfl
  refine ⟨(if d=a then none else Uk (p++[x]) d).getD (WW L d),?_,⟨p++[x],by rw [e];simp,rfl⟩,rfl⟩
  simp only;rw [rl z,Sc,Ti,TC y,Ti,TC hi,TK,Tu (by omega),iB];by_cases f:x.1=d
  ·rw [if_pos f,Ti,TC hi,TQ,Ti,TC y,if_pos f];by_cases g:d=a
   ·rw [if_pos g,if_pos g,if_pos g]
   ·rw [if_neg g,if_neg g,Yq (by rw [<- f];exact B)];rfl
  ·rw [if_neg f,if_neg f];have:(Uk p d).or none=Uk p d:=by cases Uk p d<;>rfl
   rw [this]
theorem ak {s:Th} (B:(s.2.1.map (·.1)).Nodup) (D:s.2.1.length<=1000) {L:Tl} (v:VLev L) (next b:Int):loop (λ(g:(Int×(Int×((List (List UJ))×((List Job)×Int)))))=>br (S8 g.1 ((Tp 0 L.2).length:Int)) (λ_=>R1 g.1 λm=>ix (Tp 0 L.2) m λt=>bd (Ux (((g.2.1,g.2.2.1),t))) λc=>bd (loop (λ(f:Int×jZ)=>br (S8 f.1 (s.2.1.length:Int)) (λ_=>R1 f.1 λo=>ix s.2.1 o λu=>R1 g.1 λp=>ix (Tp 0 L.2) p λw=>br (Oa u.1 w) (λ_=>R1 g.1 λq=>ix (Tp 0 L.2) q λx=>br (Ry x b) (λ_=>R1 f.1 λr=>ix s.2.1 r λe=>some (.nx ((SF .i64 f.1 1,(e.1,(e.2.1.1,(e.2.1.2.1,(e.2.1.2.2.1,(e.2.1.2.2.2.1,(e.2.1.2.2.2.2,(e.2.2.1.1,(e.2.2.1.2.1,(e.2.2.1.2.2,e.2.2.2))))))))))))) λ_=>some (.nx (SF .i64 f.1 1,f.2))) λ_=>some (.nx (SF .i64 f.1 1,f.2))) λ_=>some (.dn (((0:Nat),(f,()))))) (((0:Int),(c.1.1,(c.1.2.1.1,(c.1.2.1.2.1,(c.1.2.1.2.2.1,(c.1.2.1.2.2.2.1,(c.1.2.1.2.2.2.2,(c.1.2.2.1.1,(c.1.2.2.1.2.1,(c.1.2.2.1.2.2,c.1.2.2.2)))))))))))) λa=>gd (CF (BF g.2.2.2.1.length [((a.2.1.2.1,((a.2.1.2.2.1,(a.2.1.2.2.2.1,(a.2.1.2.2.2.2.1,(a.2.1.2.2.2.2.2.1,a.2.1.2.2.2.2.2.2.1)))),((a.2.1.2.2.2.2.2.2.2.1,(a.2.1.2.2.2.2.2.2.2.2.1,a.2.1.2.2.2.2.2.2.2.2.2.1)),a.2.1.2.2.2.2.2.2.2.2.2.2))):Job)].length) 1048576) λ_=>some (.nx ((SF .i64 g.1 1,(g.2.1,(g.2.2.1,(Il g.2.2.2.1 ([(a.2.1.2.1,((a.2.1.2.2.1,(a.2.1.2.2.2.1,(a.2.1.2.2.2.2.1,(a.2.1.2.2.2.2.2.1,a.2.1.2.2.2.2.2.2.1)))),((a.2.1.2.2.2.2.2.2.2.1,(a.2.1.2.2.2.2.2.2.2.2.1,a.2.1.2.2.2.2.2.2.2.2.2.1)),a.2.1.2.2.2.2.2.2.2.2.2.2)))]),g.2.2.2.2))))))) λ_=>some (.dn (((0:Nat),(g,()))))) (((0:Int),(L.1,(L.2,(([]:List Job),next)))))=some (0,((((Tp 0 L.2).length:Int),(L.1,(L.2,((Tp 0 L.2).map (We s L b),next)))),())):=by
 have G:=v.len;have hd:=VS L.2 0;refine Un (l:=Tp 0 L.2) (σ:=List Job) (λi js=>((i:Int),(L.1,(L.2,(js,next))))) (λls i js=>js++ls.map (We s L b)=(Tp 0 L.2).map (We s L b)) (λ_ _ _=>(0,((((Tp 0 L.2).length:Int),(L.1,(L.2,((Tp 0 L.2).map (We s L b),next)))),()))) [] rfl (by omega) rfl (λjs h => ?_) (λi d ls js A hi C h => ?_)
 ·simp only;rw [re,R7,<- h];simp
 ·refine ⟨js++[We s L b d],?_,by rw [<- h];simp,rfl⟩;obtain ⟨n,I,J,k,E⟩:=aZ (bo hi);have y:=iO v (n:=n) (by rw [Xw.1 E];rfl);rw [<- k] at y
  have F:js.length<=1000:=by
   have z:=congrArg List.length h;rw [hM,s6,s6] at z;omega
  simp only;rw [rl C,Sc,Ti,TC hi];have j:Ux ((L.1,L.2),d)=some (WW L d,0):=y;rw [j,Sx];refine UC (jf B D L b hi) ?_;rw [UP (by simp only [BF,ci,cP];omega),Tu (by omega)];rfl
end
section
open Go Sv
theorem YV {α β σ S:Type} {l:List α} (c:Nat) (n:c<=1000) (mk:Nat->σ->S) (I:Nat->σ->Prop) (Q:β->Prop) {f:S->Option (LR S β)} {s:S} (a:σ) (i:s=mk 0 a) (hi:I 0 a)
  (p : ∀ k a,(k=l.length\/k=c)->k<=l.length->I k a -> ∃ r,f (mk k a)=some (.dn r)/\Q r)
  (hc : ∀ k x a,l[k]? = some x->k<c->I k a->(∃ b,f (mk k a)=some (.nx (mk (k+1) b))/\I (k+1) b) \/ ∃ r,f (mk k a)=some (.dn r)/\Q r) : ∃ r,loop f s=some r/\Q r:=by
 refine Wq (l:=l.take c) mk (λ_ k a=>I k a/\k<=(l.take c).length) Q a i (by simp;omega) ⟨hi,by omega⟩ (λa h=>p _ a (by simp;omega) (by simp;omega) h.1) (λk x m a hd e o h => ?_);have d:k<c:=by simp at o;omega
 have g:l[k]? = some x:=by rw [o3] at e;rw [if_pos d] at e;exact e
 rcases hc k x a g d h.1 with ⟨b,h1,j⟩ | h1
 ·exact .inl ⟨b,h1,j,by omega⟩
 ·exact .inr h1
theorem bh {k c:Nat} (h:k<c):S8 (k:Int) (c:Int)=true:=by unfold S8;simp;omega
theorem gy {α β:Type} {l:List α} {k c:Nat} (h:k=l.length\/k=c) (b:k<=l.length) (A B C:Option β) (e:B=C):br (S8 (k:Int) (l.length:Int)) (λ_=>br (S8 (k:Int) (c:Int)) (λ_=>A) λ_=>B) (λ_=>C)=C:=by
 rw [TP];by_cases a:(k:Int)<(l.length:Int)
 ·rw [if_pos a,TP,if_neg (by omega),e]
 ·rw [if_neg a]
theorem iD (l:List Tj) : ∃ b,W3 l=some b/\(b=false->l.length<=30):=by
 unfold W3;simp only [Tq,Tn]
 obtain ⟨r,m,a⟩:=YV (l:=l) (σ:=Unit) (s:=((0:Int),false)) 40 (by omega) (λk _=>((k:Int),false)) (λ_ _=>True) (λ(r:Nat×((Int×Bool)×Unit))=>r.1=1\/(r.1=0/\r.2.1.2=true))
  (f:=λs0=>br (S8 s0.1 (l.length:Int)) (λ_=>br (S8 s0.1 40) (λ_=>R1 s0.1 λi=>ix l i λo=>br (S6 (Mj o.1:Int) 100) (λ_=>some (.dn ((0,((s0.1,true),()))))) λ_=>R1 s0.1 λj=>ix l j λp=>br (S6 (Mj p.2.1:Int) 100) (λ_=>some (.dn ((0,((s0.1,true),()))))) λ_=>some (.nx (SF .i64 s0.1 1,s0.2))) λ_=>some (.dn ((1,(s0,()))))) λ_=>some (.dn ((1,(s0,())))))
  () rfl trivial (λk _ h d _=>⟨_,(gy (c:=40) h d _ _ _ rfl),.inl rfl⟩) (λk x _ g d _=>by
   simp only;have e:=(a8.1 g).1;rw [rl e,Sc,show S8 (k:Int) 40=true from bh d,Sc,Ti,TC g,TM,Ti,TC g,TM,Tu (by omega)]
   repeat' split
   all_goals first | exact .inr ⟨_,rfl,.inr ⟨rfl,rfl⟩⟩ | exact .inl ⟨(),rfl,trivial⟩)
 rw [m,Sx,Sy];rcases a with a | ⟨a,n⟩
 ·rw [if_neg (show ¬ r.1=0 by omega)];exact ⟨_,rfl,λh=>by unfold S6 at h;simp at h;omega⟩
 ·rw [if_pos a,n];exact ⟨_,rfl,λh=>by cases h⟩
theorem dR (l:List UJ) : ∃ b,Vq l=some b/\(b=false->l.length<=6 /\ ∀ r∈l,r.2.length<=30):=by
 unfold Vq;simp only [Tq,Tn]
 obtain ⟨r,w,d⟩:=YV (l:=l) (σ:=Unit) (s:=((0:Int),false)) 10 (by omega) (λk _=>((k:Int),false)) (λk _ => ∀ i x,i<k->l[i]? = some x->x.2.length<=30) (λ(r:Nat×((Int×Bool)×Unit))=>(r.1=1 /\ ∀ i x,i<10->l[i]? = some x->x.2.length<=30)\/(r.1=0/\r.2.1.2=true))
  (f:=λs0=>br (S8 s0.1 (l.length:Int)) (λ_=>br (S8 s0.1 10) (λ_=>R1 s0.1 λu=>ix l u λA=>bd (W3 A.2) λz=>br z (λ_=>some (.dn ((0,((s0.1,true),()))))) λ_=>some (.nx (SF .i64 s0.1 1,s0.2))) λ_=>some (.dn ((1,(s0,()))))) λ_=>some (.dn ((1,(s0,())))))
  () rfl (λi x h=>by omega) (λk _ h j g=>⟨_,(gy (c:=10) h j _ _ _ rfl),.inl ⟨rfl,λi x hi a=>g i x (by have:=(a8.1 a).1;omega) a⟩⟩) (λk x _ a j g=>by
   simp only;have m:=(a8.1 a).1;obtain ⟨b,e,p⟩:=iD x.2;rw [rl m,Sc,show S8 (k:Int) 10=true from bh j,Sc,Ti,TC a,e,Sx,Tu (by omega)];cases b with
   | true=>exact .inr ⟨_,rfl,.inr ⟨rfl,rfl⟩⟩
   | false =>
    refine .inl ⟨(),rfl,λi y hi n => ?_⟩;by_cases h:i=k
    ·subst h;rw [a] at n;cases n;exact p rfl
    ·exact g i y (by omega) n)
 rw [w,Sx,Sy];rcases d with ⟨d,o⟩ | ⟨d,o⟩
 ·rw [if_neg (show ¬ r.1=0 by omega)];refine ⟨_,rfl,λh => ?_⟩;have q:l.length<=6:=by unfold S6 at h;simp at h;omega
  exact ⟨q,λr t=>by
   obtain ⟨i,hi⟩:=ed t
   exact o i r (by have:=(a8.1 hi).1;omega) hi⟩
 ·rw [if_pos d,o];exact ⟨_,rfl,λh=>by cases h⟩
theorem iE (L:Tl) : ∃ b,Xk L=some b/\(b=false->L.2.length<=14 /\ ∀ rs∈L.2,rs.length<=6 /\ ∀ r∈rs,r.2.length<=30):=by
 unfold Xk;simp only [Tq,Tn]
 obtain ⟨r,w,d⟩:=YV (l:=L.2) (σ:=Unit) (s:=((0:Int),false)) 20 (by omega) (λk _=>((k:Int),false)) (λk _ => ∀ i x,i<k->L.2[i]? = some x->x.length<=6 /\ ∀ r∈x,r.2.length<=30) (λ(r:Nat×((Int×Bool)×Unit))=>(r.1=1 /\ ∀ i x,i<20->L.2[i]? = some x->x.length<=6 /\ ∀ r∈x,r.2.length<=30)\/(r.1=0/\r.2.1.2=true))
  (f:=λs0=>br (S8 s0.1 (L.2.length:Int)) (λ_=>br (S8 s0.1 20) (λ_=>R1 s0.1 λu=>ix L.2 u λA=>bd (Vq A) λz=>br z (λ_=>some (.dn ((0,((s0.1,true),()))))) λ_=>some (.nx (SF .i64 s0.1 1,s0.2))) λ_=>some (.dn ((1,(s0,()))))) λ_=>some (.dn ((1,(s0,())))))
  () rfl (λi x h=>by omega) (λk _ h j g=>⟨_,(gy (c:=20) h j _ _ _ rfl),.inl ⟨rfl,λi x hi a=>g i x (by have:=(a8.1 a).1;omega) a⟩⟩) (λk x _ a j g=>by
   simp only;have m:=(a8.1 a).1;obtain ⟨b,e,p⟩:=dR x;rw [rl m,Sc,show S8 (k:Int) 20=true from bh j,Sc,Ti,TC a,e,Sx,Tu (by omega)];cases b with
   | true=>exact .inr ⟨_,rfl,.inr ⟨rfl,rfl⟩⟩
   | false =>
    refine .inl ⟨(),rfl,λi y hi n => ?_⟩;by_cases h:i=k
    ·subst h;rw [a] at n;cases n;exact p rfl
    ·exact g i y (by omega) n)
 rw [w,Sx,Sy];rcases d with ⟨d,o⟩ | ⟨d,o⟩
 ·rw [if_neg (show ¬ r.1=0 by omega)];refine ⟨_,rfl,λh => ?_⟩;have q:L.2.length<=14:=by unfold S6 at h;simp at h;omega
  exact ⟨q,λr t=>by
   obtain ⟨i,hi⟩:=ed t
   exact o i r (by have:=(a8.1 hi).1;omega) hi⟩
 ·rw [if_pos d,o];exact ⟨_,rfl,λh=>by cases h⟩
theorem gp (l:List Tj) : ∃ b,Ve l=some b:=by
 unfold Ve;simp only [Tq,Tn]
 obtain ⟨r,j,o⟩:=YV (l:=l) (σ:=Unit) (s:=((0:Int),false)) 80 (by omega) (λk _=>((k:Int),false)) (λ_ _=>True) (λ(r:Nat×((Int×Bool)×Unit))=>True)
  (f:=λs0=>br (S8 s0.1 (l.length:Int)) (λ_=>br (S8 s0.1 80) (λ_=>R1 s0.1 λg=>ix l g λm=>br (S6 (Mj m.1:Int) 100) (λ_=>some (.dn ((0,((s0.1,true),()))))) λ_=>R1 s0.1 λi=>ix l i λn=>br (S6 (Mj n.2.1:Int) 100) (λ_=>some (.dn ((0,((s0.1,true),()))))) λ_=>some (.nx (SF .i64 s0.1 1,s0.2))) λ_=>some (.dn ((1,(s0,()))))) λ_=>some (.dn ((1,(s0,())))))
  () rfl trivial (λk _ h a _=>⟨_,(gy (c:=80) h a _ _ _ rfl),trivial⟩) (λk x _ e a _=>by
   simp only;have d:=(a8.1 e).1;rw [rl d,Sc,show S8 (k:Int) 80=true from bh a,Sc,Ti,TC e,TM,Ti,TC e,TM,Tu (by omega)]
   repeat' split
   all_goals first | exact .inr ⟨_,rfl,trivial⟩ | exact .inl ⟨(),rfl,trivial⟩)
 rw [j,Sx,Sy];split<;>exact ⟨_,rfl⟩
theorem iF (s:Th) : ∃ b,Xl s=some b/\(b=false->Sm s /\ ∀ rs∈s.1.2,∀ r∈rs,r.2.length<=30):=by
 unfold Xl;simp only [Tq,Tn]
 obtain ⟨r,q,g⟩:=YV (l:=s.2.1) (σ:=Unit) (s:=((0:Int),false)) 20 (by omega) (λk _=>((k:Int),false)) (λ_ _=>True) (λ(r:Nat×((Int×Bool)×Unit))=>r.1=0\/(r.1=1/\r.2.1.2=true))
  (f:=λs0=>br (S8 s0.1 (s.2.1.length:Int)) (λ_=>br (S8 s0.1 20) (λ_=>R1 s0.1 λE=>ix s.2.1 E λi=>bd (loop (λa=>br (S8 a.1 (i.2.1.1.length:Int)) (λ_=>br (S8 a.1 10) (λ_=>R1 a.1 λp=>ix i.2.1.1 p λw=>bd (Ve w) λt=>br t (λ_=>some (.dn ((0,((a.1,true),()))))) λ_=>some (.nx (SF .i64 a.1 1,a.2))) λ_=>some (.dn ((1,(a,()))))) λ_=>some (.dn ((1,(a,()))))) (0,s0.2)) λu=>br (neq u.1 0) (λ_=>some (.dn ((1,((s0.1,u.2.1.2),()))))) λ_=>bd (Ve i.2.2.2.1) λF=>br F (λ_=>some (.dn ((1,((s0.1,true),()))))) λ_=>br (S6 (i.2.1.1.length:Int) 6) (λ_=>some (.dn ((1,((s0.1,true),()))))) λ_=>br (S6 (i.2.1.2.1.length:Int) 40) (λ_=>some (.dn ((1,((s0.1,true),()))))) λ_=>br (S6 (i.2.1.2.2.1.length:Int) 40) (λ_=>some (.dn ((1,((s0.1,true),()))))) λ_=>br (S6 (i.2.1.2.2.2.1.length:Int) 40) (λ_=>some (.dn ((1,((s0.1,true),()))))) λ_=>br (S6 (Mj i.2.2.1.2.1:Int) 200) (λ_=>some (.dn ((1,((s0.1,true),()))))) λ_=>some (.nx (SF .i64 s0.1 1,u.2.1.2))) λ_=>some (.dn ((0,(s0,()))))) λ_=>some (.dn ((0,(s0,())))))
  () rfl trivial (λk _ h j _=>⟨_,(gy (c:=20) h j _ _ _ rfl),.inl rfl⟩) (λk x _ z j _=>by
   simp only;have m:=(a8.1 z).1;rw [rl m,Sc,show S8 (k:Int) 20=true from bh j,Sc,Ti,TC z]
   obtain ⟨r,q,g⟩:=YV (l:=x.2.1.1) (σ:=Unit) (s:=((0:Int),false)) 10 (by omega) (λk _=>((k:Int),false)) (λ_ _=>True) (λ(r:Nat×((Int×Bool)×Unit))=>(r.1=1/\r.2.1.2=false)\/(r.1=0/\r.2.1.2=true))
    (f:=λa=>br (S8 a.1 (x.2.1.1.length:Int)) (λ_=>br (S8 a.1 10) (λ_=>R1 a.1 λp=>ix x.2.1.1 p λw=>bd (Ve w) λt=>br t (λ_=>some (.dn ((0,((a.1,true),()))))) λ_=>some (.nx (SF .i64 a.1 1,a.2))) λ_=>some (.dn ((1,(a,()))))) λ_=>some (.dn ((1,(a,())))))
    () rfl trivial (λk _ h j _=>⟨_,(gy (c:=10) h j _ _ _ rfl),.inl ⟨rfl,rfl⟩⟩) (λk y _ A j _=>by
     simp only;have m:=(a8.1 A).1;obtain ⟨b,e⟩:=gp y;rw [rl m,Sc,show S8 (k:Int) 10=true from bh j,Sc,Ti,TC A,e,Sx,Tu (by omega)];cases b with
     | true=>exact .inr ⟨_,rfl,.inr ⟨rfl,rfl⟩⟩
     | false=>exact .inl ⟨(),rfl,trivial⟩)
   obtain ⟨b,e⟩:=gp x.2.2.2.1;rw [q,Sx,Sy,e];rcases g with ⟨g,n⟩ | ⟨g,n⟩
   ·rw [if_neg (show ¬ r.1=0 by omega),Sx,TV,TM,TM,TM,TM,TM,n,Tu (by omega)]
    repeat' split
    all_goals first | exact .inr ⟨_,rfl,.inr ⟨rfl,rfl⟩⟩ | exact .inl ⟨(),rfl,trivial⟩
   ·rw [if_pos g,n]
    exact .inr ⟨_,rfl,.inr ⟨rfl,rfl⟩⟩)
 rw [q,Sx,Sy];rcases g with g | ⟨g,n⟩
 ·rw [if_pos g,TM];by_cases h:(s.2.1.length:Int)>14
  ·rw [if_pos h];exact ⟨_,rfl,λh=>by cases h⟩
  ·rw [if_neg h];obtain ⟨b,e,C⟩:=iE s.1;rw [e];refine ⟨b,rfl,λB => ?_⟩;obtain ⟨G,o⟩:=C B;exact ⟨⟨by omega,λrs d=>⟨by have:=(o rs d).1;omega,λr D=>by have:=(o rs d).2 r D;omega⟩,by omega⟩,λrs d=>(o rs d).2⟩
 ·rw [if_neg (show ¬ r.1=0 by omega),n];exact ⟨_,rfl,λh=>by cases h⟩
end
section
open Go Sv
end
section
open Go Sv
theorem kV (L:Tl) (n:Nat):XE (L,(n:Int))=some (To L.2 n):=by
 unfold XE;simp only [Tq,Tn];rw [TL];by_cases h:n<L.2.length
 ·rw [if_neg (by omega),Ti,TC (WE h)]
 ·rw [if_pos (by omega)];unfold To;rw [a9 (by omega)];rfl
theorem bK {s:Th} (v:VSt s) (hf:jV s.1) {n:Nat} {j:Job} (ha:JobAt s.1 n j) (h0 : ¬ 0<UA s.1 j) (hc:Vh s.1 j=true) (h5:Uo j≠[]->s.2.2<=1000000) {X:Int} (D:X=(YM s j:Int)) :
  (bd (Vg ((s.1,((n:Int),[])))) λp=>br (S6 (Ki (AS j.2.2.2.1)) 0) (λ_=>bd (XE (p,X)) λw=>gd (CF (AS w) 1048576) λ_=>gd (CF (BF (AS w) (AS ([(s.2.2,j.2.2.2.1)]))) 1048576) λ_=>bd (Vg ((p,(X,Il w ([(s.2.2,j.2.2.2.1)]))))) λy=>bd (Ui y) λq=>bd (loop (λ(c:(Int×qL))=>br (S8 c.1 (Ki (AS q))) (λ_=>R1 c.1 λE=>ix q E λY=>bd (Ux (((c.2.1,c.2.2.1),Y))) λe=>bd (loop (λ(l:(Int×(Int×qM)))=>br (S8 l.1 (Ki (AS s.2.1))) (λ_=>R1 l.1 λG=>ix s.2.1 G λZ=>R1 c.1 λI=>ix q I λx52=>br (Oa Z.1 x52) (λ_=>R1 c.1 λJ=>ix q J λx54=>br (Ry x54 (n:Int)) (λ_=>R1 l.1 λK=>ix s.2.1 K λg=>some (.nx ((SF .i64 l.1 1,(g.1,(g.2.1.1,(g.2.1.2.1,(g.2.1.2.2.1,(g.2.1.2.2.2.1,(g.2.1.2.2.2.2,(g.2.2.1.1,(g.2.2.1.2.1,(g.2.2.1.2.2,g.2.2.2))))))))))))) λ_=>some (.nx (SF .i64 l.1 1,l.2))) λ_=>some (.nx (SF .i64 l.1 1,l.2))) λ_=>some (.dn ((0,(l,()))))) ((0,(e.1.1,(e.1.2.1.1,(e.1.2.1.2.1,(e.1.2.1.2.2.1,(e.1.2.1.2.2.2.1,(e.1.2.1.2.2.2.2,(e.1.2.2.1.1,(e.1.2.2.1.2.1,(e.1.2.2.1.2.2,e.1.2.2.2)))))))))))) λa=>gd (CF (BF (AS c.2.2.2.1) (AS ([(a.2.1.2.1,((a.2.1.2.2.1,(a.2.1.2.2.2.1,(a.2.1.2.2.2.2.1,(a.2.1.2.2.2.2.2.1,a.2.1.2.2.2.2.2.2.1)))),((a.2.1.2.2.2.2.2.2.2.1,(a.2.1.2.2.2.2.2.2.2.2.1,a.2.1.2.2.2.2.2.2.2.2.2.1)),a.2.1.2.2.2.2.2.2.2.2.2.2)))]))) 1048576) λ_=>some (.nx ((SF .i64 c.1 1,(c.2.1,(c.2.2.1,(Il c.2.2.2.1 ([(a.2.1.2.1,((a.2.1.2.2.1,(a.2.1.2.2.2.1,(a.2.1.2.2.2.2.1,(a.2.1.2.2.2.2.2.1,a.2.1.2.2.2.2.2.2.1)))),((a.2.1.2.2.2.2.2.2.2.1,(a.2.1.2.2.2.2.2.2.2.2.1,a.2.1.2.2.2.2.2.2.2.2.2.1)),a.2.1.2.2.2.2.2.2.2.2.2.2)))]),c.2.2.2.2))))))) λ_=>some (.dn ((0,(c,()))))) ((0,(y.1,(y.2,([],SF .i64 s.2.2 1)))))) λz=>some ((((z.2.1.2.1,z.2.1.2.2.1),z.2.1.2.2.2),0))) λ_=>bd (Ui p) λt=>bd (loop (λ(d:(Int×qL))=>br (S8 d.1 (Ki (AS t))) (λ_=>R1 d.1 λN=>ix t N λx62=>bd (Ux (((d.2.1,d.2.2.1),x62))) λf=>bd (loop (λ(m:(Int×(Int×qM)))=>br (S8 m.1 (Ki (AS s.2.1))) (λ_=>R1 m.1 λO=>ix s.2.1 O λx66=>R1 d.1 λP=>ix t P λx68=>br (Oa x66.1 x68) (λ_=>R1 d.1 λS=>ix t S λx70=>br (Ry x70 (n:Int)) (λ_=>R1 m.1 λU=>ix s.2.1 U λk=>some (.nx ((SF .i64 m.1 1,(k.1,(k.2.1.1,(k.2.1.2.1,(k.2.1.2.2.1,(k.2.1.2.2.2.1,(k.2.1.2.2.2.2,(k.2.2.1.1,(k.2.2.1.2.1,(k.2.2.1.2.2,k.2.2.2))))))))))))) λ_=>some (.nx (SF .i64 m.1 1,m.2))) λ_=>some (.nx (SF .i64 m.1 1,m.2))) λ_=>some (.dn ((0,(m,()))))) ((0,(f.1.1,(f.1.2.1.1,(f.1.2.1.2.1,(f.1.2.1.2.2.1,(f.1.2.1.2.2.2.1,(f.1.2.1.2.2.2.2,(f.1.2.2.1.1,(f.1.2.2.1.2.1,(f.1.2.2.1.2.2,f.1.2.2.2)))))))))))) λb=>gd (CF (BF (AS d.2.2.2.1) (AS ([(b.2.1.2.1,((b.2.1.2.2.1,(b.2.1.2.2.2.1,(b.2.1.2.2.2.2.1,(b.2.1.2.2.2.2.2.1,b.2.1.2.2.2.2.2.2.1)))),((b.2.1.2.2.2.2.2.2.2.1,(b.2.1.2.2.2.2.2.2.2.2.1,b.2.1.2.2.2.2.2.2.2.2.2.1)),b.2.1.2.2.2.2.2.2.2.2.2.2)))]))) 1048576) λ_=>some (.nx ((SF .i64 d.1 1,(d.2.1,(d.2.2.1,(Il d.2.2.2.1 ([(b.2.1.2.1,((b.2.1.2.2.1,(b.2.1.2.2.2.1,(b.2.1.2.2.2.2.1,(b.2.1.2.2.2.2.2.1,b.2.1.2.2.2.2.2.2.1)))),((b.2.1.2.2.2.2.2.2.2.1,(b.2.1.2.2.2.2.2.2.2.2.1,b.2.1.2.2.2.2.2.2.2.2.2.1)),b.2.1.2.2.2.2.2.2.2.2.2.2)))]),d.2.2.2.2))))))) λ_=>some (.dn ((0,(d,()))))) ((0,(p.1,(p.2,([],s.2.2)))))) λA=>some ((((A.2.1.2.1,A.2.1.2.2.1),A.2.1.2.2.2),0)):Option (Th×Int))=some (ZK s (Vn s j) (YC s j) j.1,0):=by
 have F:=gV v hf ha h0 hc h5;obtain ⟨o1,o2,W,o4,o5⟩:=ha.out v.lev (hf n);have hj:j.1.toNat=n:=by rw [W];simp
 have hn2:=v.n2;have hn1:=v.n1;have hjs:=v.jsmall;have o:=F.lev;have hl:=v.lev.len;have hl1:=F.l1.len;have small : ∀ {M:Tl},VLev M -> ∀ i,(To M.2 i).length<=1048576:=λvM i=>by have:=(vM.own i).1;omega
 rw [dg (by omega) (by omega) (by simp) (small v.lev),Sx];simp only [Tq,Tn];rw [TM];by_cases u:Uo j=[]
 ·rw [if_neg (show ¬ ((j.2.2.2.1.length:Int)>0) by rw [show j.2.2.2.1=[] from u];simp)];have B:Vn s j=Uw s.1 n []:=by unfold Vn;rw [if_pos u,hj]
  have C:YC s j=s.2.2:=by unfold YC;rw [if_pos u]
  rw [<- B,aa (by have:=o.len;omega),Sx];refine UC (ak v.nodup (by omega) o s.2.2 (n:Int)) ?_;rw [C,W];rfl
 ·rw [if_pos (show ((j.2.2.2.1.length:Int)>0) by have:=ec.2 u;have h:(Uo j).length=j.2.2.2.1.length:=rfl;omega),D,kV,Sx];have hro:=F.room u;have ht:=F.to12 u
  have B:Vn s j=Uw (Uw s.1 n []) (YM s j) (To (Uw s.1 n []).2 (YM s j)++[(s.2.2,Uo j)]):=by
   unfold Vn;rw [if_neg u,hj]
  have C:YC s j=s.2.2+1:=by unfold YC;rw [if_neg u]
  rw [UP (by omega),UP (by simp only [BF,ci,cP];omega)];have hW:=dg (L:=Uw s.1 n []) (n:=YM s j) (r:=To (Uw s.1 n []).2 (YM s j)++[(s.2.2,Uo j)]) (by omega) (by omega) (by simp;omega) (small F.l1);rw [<- B] at hW;refine UC (x:=Vn s j) hW ?_;rw [aa (by have:=o.len;omega),Sx,Sh (by omega)];refine UC (ak v.nodup (by omega) o (s.2.2+1) (n:Int)) ?_;rw [C,W];rfl
theorem de {s:Th} (m:Sm s) (l:jV s.1) (a:Int):Wk (s,a)=some (WA zS ZD s a):=by
 unfold Wk;rw [eu m,Sx,ZI m,cj m];unfold WA;by_cases b:(Tk s).2=0;rotate_left
 ·rw [if_pos b,TQ,if_neg b,if_pos b];rfl
 rw [if_neg (show ¬ (Tk s).2≠0 by simp [b]),if_neg (show ¬ (Tk s).2≠0 by simp [b]),if_neg (show ¬ (Tk s).2≠0 by simp [b])];have v:=Ts.1 b;unfold aO YE;rw [if_neg (show ¬ (Tk s).2≠0 by simp [b])];cases q:Zo a 0 (Tp 0 s.1.2) with
 | none=>rfl
 | some i =>
  obtain ⟨j,n,o,p,f,k,r⟩:=v.at q;have:=v.lev.len;subst p;simp only [o];unfold ZD Z4;by_cases c:0<UA s.1 j
  ·rw [if_pos c,if_pos (.inl c)];rfl
  rw [if_neg c]
  have g:(if Vo s.1 j=true then (j.1,(0:Int)) else (j.1+1,0))=((YM s j:Int),0):=by
   unfold YM;split<;>rw [f]<;>simp
  rw [g,TQ,if_pos rfl,Sx,Ti,TC o,Sx,UU,TV];by_cases hc:Vh s.1 j=true;rotate_left
  ·rw [if_neg hc,if_pos (.inr (by simpa using hc))];rfl
  rw [if_pos hc,if_neg (show ¬ (0<UA s.1 j\/Vh s.1 j=false) by rw [hc];simp;omega),TM];by_cases e:s.2.2>1000000
  ·rw [if_pos e,TM];by_cases d:Uo j=[]
   ·rw [if_neg (show ¬ (Ki (AS j.2.2.2.1)>0) by rw [show j.2.2.2.1=[] from d];simp [Tq,Tn]),if_neg (by simp [d])];dsimp only;exact bK v l k c hc (λh=>absurd d h) rfl
   ·rw [if_pos (show Ki (AS j.2.2.2.1)>0 by have:=ec.2 d;have h:(Uo j).length=j.2.2.2.1.length:=rfl;rw [Tq,Tn];omega),if_pos ⟨e,d⟩];rfl
  ·rw [if_neg e,if_neg (by simp [e])];dsimp only;exact bK v l k c hc (λh=>by omega) rfl
theorem iN {s:Th} (m:Sm s) (f:jV s.1) (a:Int):Yo (s,a)=some (V1 s a):=by
 unfold Yo;rw [cj m,Sx,Yb m,de m f];unfold WA V1;by_cases b:(Tk s).2=0;rotate_left
 ·rw [if_pos b,if_pos b,TK,if_neg b];rw [TQ,if_neg b,if_pos b];rfl
 rw [if_neg (show ¬ (Tk s).2≠0 by simp [b]),if_neg (show ¬ (Tk s).2≠0 by simp [b]),if_neg (show ¬ (Tk s).2≠0 by simp [b]),if_neg (show ¬ (Tk s).2≠0 by simp [b])];have v:=Ts.1 b;unfold aO;cases e:Zo a 0 (Tp 0 s.1.2) with
 | none =>
  simp only;rw [TK,if_neg (by omega),TQ,if_neg (by omega)];rfl
 | some i =>
  obtain ⟨j,n,d,k,g,h,l⟩:=v.at e;simp only [d];unfold Xf;rw [TK,if_pos rfl,UU,TV];by_cases hc:Vh s.1 j=true;rotate_left
  ·rw [if_neg hc,if_pos (by simpa using hc)];rfl
  rw [if_pos hc,if_neg (by simp [hc]),TQ,if_pos rfl,Sx,TM];by_cases c:0<UA s.1 j
  ·rw [if_pos (show ((UA s.1 j:Int))>0 by omega),if_pos c,iR m v e d c];rfl
  ·rw [if_neg (show ¬ ((UA s.1 j:Int))>0 by omega),if_neg c];rfl
end
section
open Go Sv
def Ug (l:List Tj) (k:Xb):Option Tj:=l.find? λx=>decide (x.1=k)
theorem Um (x:Tj) (l:List Tj) (k:Xb):Ug (x::l) k=if x.1=k then some x else Ug l k:=by
 unfold Ug;rw [iz];by_cases h:x.1=k<;>simp [h]
theorem Zs (l m:List Tj) (k:Xb):Ug (l++m) k=(Ug l k).or (Ug m k):=by
 unfold Ug;rw [xo]
theorem YT (x:Tj) (k:Xb):Ug [x] k=if x.1=k then some x else none:=by rw [Um];rfl
theorem dK {l:List Tj} {k:Xb} {x:Tj} (h:Ug l k=some x):x.1=k/\x∈l:=by
 unfold Ug at h;exact ⟨by simpa using ya h,wl h⟩
theorem YS {l:List Tj} {k:Xb} (h : ∀ x∈l,x.1≠k):Ug l k=none:=by
 unfold Ug;rw [List.find?_eq_none];intro x a;simpa using h x a
theorem Zb : ∀ {l:List Tj} {q:Xb},Asc (some q) l -> ∀ x∈l,SV q x.1=true
 | x::l,q,⟨a,b⟩,y,hy=>by
  rcases eo.1 hy with e | hy
  ·rw [e];exact a q rfl
  ·exact WV (a q rfl) (Zb b y hy)
theorem gO : ∀ {l m:List Tj} {p q:Option Xb},Asc p l->Asc q m->(∀ k,Ug l k=Ug m k)->l=m
 | [],[],_,_,_,_,_=>rfl
 | [],y::m,_,_,_,_,h=>by
  have:=h y.1;rw [Um,if_pos rfl] at this;cases this
 | x::l,[],_,_,_,_,h=>by
  have:=h x.1;rw [Um,if_pos rfl] at this;cases this
 | x::l,y::m,p,q,⟨t,f⟩,⟨s,d⟩,h=>by
  have e1:=h x.1;have e2:=h y.1;rw [Um,if_pos rfl,Um] at e1;rw [Um,Um,if_pos rfl] at e2
  have g:x.1=y.1:=by
   by_cases b:y.1=x.1
   ·exact b.symm
   ·rw [if_neg b] at e1;rw [if_neg (λe=>b e.symm)] at e2;have n:=Zb d x (dK e1.symm).2;have j:=Zb f y (dK e2).2;rw [VF n] at j;cases j
  rw [if_pos g.symm] at e1;have c:x=y:=Option.some.inj e1;subst c;refine congrArg (x::·) (gO f d λk => ?_);have b:=h k;rw [Um,Um] at b;by_cases a:x.1=k
  ·have o:Ug l k=none:=YS λz i=>by
    have:=Zb f z i;rw [a] at this;exact λe=>ZJ this e.symm
   have r:Ug m k=none:=YS λz i=>by
    have:=Zb d z i;rw [a] at this;exact λe=>ZJ this e.symm
   rw [o,r]
  ·rw [if_neg a,if_neg a] at b;exact b
theorem Za (P:Tj->Bool) : ∀ {l:List Tj} {p:Option Xb},Asc p l->Asc p (l.filter P)
 | [],_,_=>trivial
 | x::l,p,⟨b,d⟩=>by
  have c:=Za P d;rw [tw];cases P x with
  | true=>exact ⟨b,c⟩
  | false =>
   refine c.weak λe a=>⟨x.1,rfl,?_⟩;exact VF (b e a)
theorem ZC (P:Tj->Bool) (k:Xb) : ∀ {l:List Tj} {p:Option Xb},Asc p l->Ug (l.filter P) k=(Ug l k).filter P
 | [],_,_=>rfl
 | x::l,p,⟨h,c⟩=>by
  have d:=ZC P k c;rw [tw,Um];by_cases a:x.1=k
  ·rw [if_pos a]
   have f:Ug (l.filter P) k=none:=YS λz g=>by
    have:=Zb c z (List.mem_filter.1 g).1;rw [a] at this;exact λe=>ZJ this e.symm
   cases b:P x with
   | true=>rw [if_pos rfl,Um,if_pos a];simp [l6,b]
   | false=>rw [if_neg (by simp),f];simp [l6,b]
  ·rw [if_neg a];cases b:P x with
   | true=>rw [if_pos rfl,Um,if_neg a];exact d
   | false=>simpa using d
def WG:List Tj->Tj->List Tj
 | [],x=>[x]
 | y::l,x=>if SV y.1 x.1=true then y::WG l x else if y.1=x.1 then y::l else x::y::l
theorem cv (x:Tj) : ∀ {l:List Tj} {p:Option Xb},Asc p l->(∀ q,p=some q->SV q x.1=true)->Asc p (WG l x)
 | [],p,_,hp=>⟨hp,trivial⟩
 | y::l,p,⟨d,a⟩,hp=>by
  unfold WG;by_cases h:SV y.1 x.1=true
  ·rw [if_pos h];exact ⟨d,cv x a λq c=>by cases c;exact h⟩
  ·rw [if_neg h];by_cases b:y.1=x.1
   ·rw [if_pos b];exact ⟨d,a⟩
   ·rw [if_neg b];exact ⟨hp,λq c=>by cases c;exact Zm (by simpa using h) b,a⟩
theorem cw (x:Tj) (k:Xb) : ∀ {l:List Tj} {p:Option Xb},Asc p l->Ug (WG l x) k=(Ug l k).or (if x.1=k then some x else none)
 | [],_,_=>by unfold WG;rw [YT];rfl
 | y::l,p,⟨f,d⟩=>by
  unfold WG;by_cases h:SV y.1 x.1=true
  ·rw [if_pos h,Um,Um,cw x k d];split<;>rfl
  ·rw [if_neg h];by_cases b:y.1=x.1
   ·rw [if_pos b,Um,<- b];by_cases a:y.1=k
    ·rw [if_pos a];rfl
    ·rw [if_neg a,if_neg a];cases Ug l k<;>rfl
   ·rw [if_neg b,Um];have c:SV x.1 y.1=true:=Zm (by simpa using h) b;by_cases a:x.1=k
    ·rw [if_pos a]
     have:Ug (y::l) k=none:=YS λz hz=>by
      rw [<- a];rcases eo.1 hz with e | hz
      ·rw [e];exact b
      ·exact λe=>ZJ (WV c (Zb d z hz)) e.symm
     rw [this,if_pos a];rfl
    ·rw [if_neg a,if_neg a];cases Ug (y::l) k<;>rfl
theorem gN (k:Xb) : ∀ (r l:List Tj),Asc none l->Asc none (r.foldl WG l)/\Ug (r.foldl WG l) k=(Ug l k).or (Ug r k)
 | [],l,h=>⟨h,by show Ug l k=_;cases Ug l k<;>rfl⟩
 | x::r,l,h=>by
  obtain ⟨a,b⟩:=gN k r (WG l x) (cv x h λ_ h=>by cases h);refine ⟨a,?_⟩;rw [gM,b,cw x k h,Um,hV]
  congr 1
  split<;>rfl
def aW (rs:List UJ) (l:List Tj):List Tj:=rs.foldl (λout r=>r.2.foldl WG out) l
def VY:List UJ->Xb->Option Tj
 | [],_=>none
 | r::rs,k=>(Ug r.2 k).or (VY rs k)
theorem cM (k:Xb) : ∀ (rs:List UJ) (l:List Tj),Asc none l->Asc none (aW rs l)/\Ug (aW rs l) k=(Ug l k).or (VY rs k)
 | [],l,h=>⟨h,by show Ug l k=_;cases Ug l k<;>rfl⟩
 | r::rs,l,h=>by
  obtain ⟨a,b⟩:=gN k r.2 l h;obtain ⟨c,d⟩:=cM k rs (r.2.foldl WG l) a;refine ⟨c,?_⟩;show Ug (aW rs (r.2.foldl WG l)) k=_;rw [d,b,hV];rfl
def VO (x:Tj):Bool := !x.2.2.1
def LF (L:Tl):List Tj:=(aW (UV L.2) []).filter VO
theorem jx {L M:Tl} (h : ∀ k,(VY (UV L.2) k).filter VO=(VY (UV M.2) k).filter VO):LF L=LF M:=by
 have a:=λk=>cM k (UV L.2) [] trivial;have b:=λk=>cM k (UV M.2) [] trivial;refine gO (Za VO (a []).1) (Za VO (b []).1) λk => ?_;show Ug ((aW (UV L.2) []).filter VO) k=Ug ((aW (UV M.2) []).filter VO) k;rw [ZC VO k (a []).1,ZC VO k (b []).1,(a k).2,(b k).2];exact h k
theorem dS : ∀ (a b:List UJ) (k:Xb),VY (a++b) k=(VY a k).or (VY b k)
 | [],b,k=>rfl
 | r::a,b,k=>by
  show (Ug r.2 k).or (VY (a++b) k)=((Ug r.2 k).or (VY a k)).or (VY b k);rw [dS a b k,hV]
theorem gf : ∀ {l:List Tj} {s:Ul} {k:Xb},Z5 s l->s.1=true->SV k s.2.1=true->Ug l k=none
 | [],_,_,_,_,_=>rfl
 | x::l,s,k,⟨_,c,d⟩,b,hk=>by
  have a:SV k x.1=true:=d8 hk (c b);rw [Um,if_neg (λe=>ZJ a e.symm)];exact gf d rfl a
theorem dH (k:Xb) : ∀ {l:List Tj} {s:Ul},Z5 s l->Ug (WF s l) k=if s.1=true/\s.2.1=k then none else (Ug l k).filter λx => !(s.2.2&&x.2.2.1)
 | [],s,_=>by unfold WF;split<;>rfl
 | x::l,s,⟨_,g,c⟩=>by
  have f:=dH k c;simp only [true_and] at f;unfold WF;rw [Zs,f,Um];by_cases a:x.1=k
  ·rw [if_pos a,if_pos a];by_cases hs:s.1=true/\s.2.1=k
   ·rw [if_pos hs];have:keep s x=false:=by unfold keep;rw [hs.1,hs.2,a];simp
    rw [this];rfl
   ·rw [if_neg hs]
    have:keep s x = !(s.2.2&&x.2.2.1):=by
     unfold keep
     have:(s.1&&decide (x.1=s.2.1))=false:=by
      cases b:s.1 with
      | false=>rfl
      | true =>
       simp only [Bool.true_and,decide_eq_false_iff_not];intro e;exact hs ⟨b,by rw [<- e];exact a⟩
     rw [this];rfl
    rw [this];cases d:(!(s.2.2&&x.2.2.1)) with
    | true=>rw [if_pos rfl,YT,if_pos a];simp [l6,d]
    | false=>rw [if_neg (by simp)];simp [l6,d,Ug]
  ·rw [if_neg a,if_neg a]
   have b:Ug (if keep s x=true then [x] else []) k=none:=by
    split
    ·rw [YT,if_neg a]
    ·rfl
   rw [b,tT];by_cases hs:s.1=true/\s.2.1=k
   ·rw [if_pos hs]
    have h:SV k x.1=true:=by
     rw [<- hs.2];refine Zm (g hs.1) λe=>a ?_;rw [e];exact hs.2
    rw [gf c rfl h];rfl
   ·rw [if_neg hs]
theorem bE {a b:List Tj} (va:VL a) (l:VL b) (k:Xb) : ∀ {n:Nat},n<=a.length+b.length->Ug (UD a b n) k=(Ug (a.take (pos a b n).1) k).or (Ug (b.take (pos a b n).2) k)
 | 0,_=>rfl
 | n+1,h=>by
  have G:=bE va l k (n:=n) (by omega);obtain ⟨q,hs⟩:=WM va l (n:=n) (by omega);obtain ⟨x,c,_⟩:=Vu va l (n:=n) (by omega);rw [Wr va l c,Zs,G,YT];unfold aU at c;rw [show pos a b (n+1)=if Xz a b (pos a b n).1 (pos a b n).2=true then ((pos a b n).1+1,(pos a b n).2) else ((pos a b n).1,(pos a b n).2+1) from rfl]
  revert c q;generalize (pos a b n).1=i;generalize (pos a b n).2=j;intro q c;cases g:Xz a b i j with
  | true =>
   rw [if_pos g] at c;rw [if_pos rfl];simp only;rw [gs,c,xn,Zs,YT,hV,hV]
   congr 1
   by_cases r:x.1=k
   ·rw [if_pos r]
    have:Ug (b.take j) k=none:=YS λy F=>by
     obtain ⟨m,o⟩:=ed F;rw [o3] at o;split at o
     ·rename_i E;have D:=q.jb;have f:b[j-1]? = some b[j-1]:=co (by omega);have B:=q.pb (j-1) (by omega) _ x f c
      have C:SV b[j-1].1 y.1=false:=by
       by_cases s:m=j-1
       ·subst s;rw [f] at o;cases o;exact XP _
       ·have A:=l.asc
        have : ∀ d,m+d+1<=j-1 -> ∀ z,b[m+d+1]? = some z->SV y.1 z.1=true:=by
         intro d
         induction d with
         | zero=>intro _ z t;exact l.lt o t
         | succ d u =>
          intro hd z t;have p:b[m+d+1]? = some b[m+d+1]:=co (by omega);exact WV (u (by omega) _ p) (l.lt p t)
        exact VF (this (j-1-m-1) (by omega) _ (by rw [show m+(j-1-m-1)+1=j-1 by omega];exact f))
      intro e;have w:SV y.1 x.1=true:=bS C B;rw [e,r,XP] at w;cases w
     ·cases o
    rw [this];rfl
   ·rw [if_neg r];cases Ug (b.take j) k<;>rfl
  | false =>
   rw [if_neg (show ¬ Xz a b i j=true by rw [g];decide)] at c;rw [if_neg (show ¬ (false=true) by decide)];simp only;rw [gs,c,xn,Zs,YT,hV]
theorem pq {a b:List Tj} (va:VL a) (e:VL b) (c:Bool) (k:Xb):Ug (Vb a b c (a.length+b.length)).2.2.1 k=((Ug a k).or (Ug b k)).filter λx => !(c&&x.2.2.1):=by
 have f:=XO va e c (dc (a.length+b.length));obtain ⟨d,hs⟩:=WM va e (dc (a.length+b.length));show Ug (WF (s0 c) (UD a b (a.length+b.length))) k=_;rw [dH k f,if_neg (by simp),bE va e k (dc _)];rw [en (by have:=d.ia;have:=d.jb;omega),en (by have:=d.ia;have:=d.jb;omega)]
end
section
open Go Sv
def Zw (f:Nat->Option Tj):Nat->Nat->Option Tj
 | _,0=>none
 | i,m+1=>(f i).or (Zw f (i+1) m)
theorem gW (f:Nat->Option Tj) : ∀ (m i:Nat),Zw f (i+1) m=Zw (λj=>f (j+1)) i m
 | 0,_=>rfl
 | m+1,i=>by
  show (f (i+1)).or (Zw f (i+1+1) m)=(f (i+1)).or (Zw (λj=>f (j+1)) (i+1) m);rw [gW f m (i+1)]
theorem YU {f g:Nat->Option Tj} : ∀ (m i:Nat),(∀ j,i<=j->j<i+m->f j=g j)->Zw f i m=Zw g i m
 | 0,_,_=>rfl
 | m+1,i,h=>by
  show (f i).or (Zw f (i+1) m)=(g i).or (Zw g (i+1) m);rw [h i (by omega) (by omega),YU m (i+1) λj a b=>h j (by omega) (by omega)]
theorem cc : ∀ (m i:Nat),Zw (λ_=>none) i m=none
 | 0,_=>rfl
 | m+1,i=>by show (none:Option Tj).or _=_;rw [tT];exact cc m (i+1)
theorem az (f:Nat->Option Tj) : ∀ (p i q:Nat),Zw f i (p+q)=(Zw f i p).or (Zw f (i+p) q)
 | 0,i,q=>by rw [ee];rfl
 | p+1,i,q=>by
  rw [show p+1+q=(p+q)+1 by omega];show (f i).or (Zw f (i+1) (p+q))=((f i).or (Zw f (i+1) p)).or (Zw f (i+(p+1)) q);rw [az f p (i+1) q,hV,show i+1+p=i+(p+1) by omega]
theorem aH (k:Xb) : ∀ (ls:List (List UJ)) (K:Nat),ls.length<=K->VY (UV ls) k=Zw (λj=>VY (To ls j).reverse k) 0 K
 | [],K,_=>by
  have:(λj=>VY (To [] j).reverse k)=λ_=>none:=by
   funext j;have:To [] j=[]:=rfl
   rw [this];rfl
  rw [this,cc];rfl
 | rs::ls,0,h=>by simp at h
 | rs::ls,K+1,h=>by
  have e:UV (rs::ls)=rs.reverse++UV ls:=rfl;rw [e,dS,aH k ls K (by simpa using h)];show _=(VY (To (rs::ls) 0).reverse k).or (Zw (λj=>VY (To (rs::ls) j).reverse k) (0+1) K);rw [gW];rfl
theorem iC {s:Th} (v:VSt s) (C:jV s.1) {n:Nat} {j:Job} (r:JobAt s.1 n j) (E : ¬ 0<UA s.1 j) (hc:Vh s.1 j=true) (G:Uo j≠[]->s.2.2<=1000000):LF (Vn s j)=LF s.1:=by
 have F:=gV v C r E hc G;obtain ⟨U,W,K,X,Y⟩:=r.out v.lev (C n);have d:j.1.toNat=n:=by rw [K];simp
 obtain ⟨b,c,q,m,B,f,O,t,L,M⟩:=r;have J:=Xw.1 B
 have N:UA s.1 j=c.2.length+b.2.length-m:=by
  rw [f];unfold UA;simp only [bl,B];show c.2.length+b.2.length-((m:Int)).toNat=_;rw [bl]
 have u:m=c.2.length+b.2.length:=by omega
 subst u
 have p : ∀ k,Ug (Uo j) k=((Ug c.2 k).or (Ug b.2 k)).filter λx => !(q&&x.2.2.1):=λk=>by
  rw [f];exact pq M L q k
 refine jx λk => ?_;have P:=F.lev.len;have S:=v.lev.len;rw [aH k _ 14 (by omega),aH k _ 14 (by omega)];rw [show 14=n+(1+(13-n)) by omega,az,az _ n 0];have w:YM s j=n\/YM s j=n+1:=by unfold YM;rw [d];split<;>omega
 have l:Zw (λi=>VY (To (Vn s j).2 i).reverse k) 0 n=Zw (λi=>VY (To s.1.2 i).reverse k) 0 n:=YU _ _ λi _ hi=>by
  rw [V0 d,if_neg (by rintro ⟨_,h⟩;omega),if_neg (by omega)]
 rw [l];generalize Zw (λi=>VY (To s.1.2 i).reverse k) 0 n=A
 have y:Zw (λi=>VY (To (Vn s j).2 i).reverse k) (0+n) (1+(13-n))=(Ug (Uo j) k).or (Zw (λi=>VY (To s.1.2 i).reverse k) (n+1) (13-n)):=by
  rw [ee,Tf 1];show (VY (To (Vn s j).2 n).reverse k).or (Zw (λi=>VY (To (Vn s j).2 i).reverse k) (n+1) (13-n))=_;by_cases a:Uo j=[]
  ·rw [V0 d,if_neg (by simp [a]),if_pos rfl,a];refine congrArg _ (YU _ _ λi hi _ => ?_);rw [V0 d,if_neg (by simp [a]),if_neg (by omega)]
  ·rcases w with ht | ht
   ·rw [V0 d,if_pos ⟨a,ht.symm⟩,if_pos rfl]
    have e:VY (([]:List UJ)++[(s.2.2,Uo j)]).reverse k=Ug (Uo j) k:=by
     show (Ug (Uo j) k).or none=_;cases Ug (Uo j) k<;>rfl
    rw [e];refine congrArg _ (YU _ _ λi hi _ => ?_);rw [V0 d,if_neg (by rintro ⟨_,h⟩;omega),if_neg (by omega)]
   ·rw [V0 d,if_neg (by rintro ⟨_,h⟩;omega),if_pos rfl];have D:=F.to12 a;rw [show 13-n=(12-n)+1 by omega];show (none:Option Tj).or ((VY (To (Vn s j).2 (n+1)).reverse k).or (Zw _ (n+1+1) (12-n)))=(Ug (Uo j) k).or ((VY (To s.1.2 (n+1)).reverse k).or (Zw _ (n+1+1) (12-n)));rw [V0 d,if_pos ⟨a,ht.symm⟩,if_neg (by omega),List.reverse_append,tT];have e:VY ([(s.2.2,Uo j)].reverse++(To s.1.2 (n+1)).reverse) k=(Ug (Uo j) k).or (VY (To s.1.2 (n+1)).reverse k):=rfl;rw [e,hV];refine congrArg _ (congrArg _ (YU _ _ λi hi _ => ?_));rw [V0 d,if_neg (by rintro ⟨_,h⟩;omega),if_neg (by omega)]
 have o:Zw (λi=>VY (To s.1.2 i).reverse k) (0+n) (1+(13-n))=((Ug c.2 k).or (Ug b.2 k)).or (Zw (λi=>VY (To s.1.2 i).reverse k) (n+1) (13-n)):=by
  rw [ee,Tf 1];show (VY (To s.1.2 n).reverse k).or _=_;rw [J];refine congrArg (λz=>Option.or z _) ?_;show (Ug c.2 k).or ((Ug b.2 k).or none)=_;cases Ug b.2 k<;>rfl
 rw [y,o,p k];cases q with
 | false =>
  have:((Ug c.2 k).or (Ug b.2 k)).filter (λx => !(false&&x.2.2.1))=(Ug c.2 k).or (Ug b.2 k):=by
   cases (Ug c.2 k).or (Ug b.2 k)<;>simp [l6]
  rw [this]
 | true =>
  have I:Zw (λi=>VY (To s.1.2 i).reverse k) (n+1) (13-n)=none:=by
   rw [YU (g:=λ_=>none) _ _ λi hi _ => ?_,cc];have:To s.1.2 i=[]:=by unfold To;rw [a9 (by have:=t rfl;omega)];rfl
   rw [this];rfl
  rw [I];cases A with
  | some x=>rfl
  | none =>
   cases (Ug c.2 k).or (Ug b.2 k) with
   | none=>rfl
   | some x =>
    cases hd:x.2.2.1<;>simp [l6,VO,hd]
end
section
open Go Sv
end
section
open Go Sv
end
section
open Go Sv
def UB (l:List UJ):Nat:=(l.map λr=>r.2.length).sum
theorem U2 (r:UJ) (l:List UJ):UB (r::l)=r.2.length+UB l:=by simp [UB]
theorem U5 (l m:List UJ):UB (l++m)=UB l+UB m:=by simp [UB]
theorem jj (l:List UJ):UB l.reverse=UB l:=by simp [UB]
theorem gR {l:List UJ} (h : ∀ r∈l,r.2.length<=5000):UB l<=l.length*5000:=by
 induction l with
 | nil=>simp [UB]
 | cons r l b =>
  rw [U2,ci];have:=h r (by simp);have:=b λx a=>h x (by simp [a]);omega
theorem Zg : ∀ ls:List (List UJ),UB (UV ls)=UB ls.flatten/\(UV ls).length=ls.flatten.length
 | []=>⟨rfl,rfl⟩
 | rs::ls=>by
  obtain ⟨a,b⟩:=Zg ls;have e:UV (rs::ls)=rs.reverse++UV ls:=rfl;rw [e,iP,U5,U5,jj,a];simp [b]
theorem pX {S β:Type} {f:S->Option (LR S β)} {r:β} (mk:Int->Nat->S) (n:Nat) {s:S} (b:s=mk ((n:Int)-1) n) (g:n<1000000000) (hs : ∀ k,k<n->f (mk (k:Int) (k+1))=some (.nx (mk ((k:Int)-1) k))) (c:f (mk (-1) 0)=some (.dn r)):loop f s=some r:=by
 subst b
 have a : ∀ k,k<=n->IL (k+1) f (mk ((k:Int)-1) k)=some r:=by
  intro k
  induction k with
  | zero=>intro _;exact UT c
  | succ k d =>
   intro e;have:=hs k (by omega);rw [show ((k+1:Nat):Int)-1=(k:Int) by omega,UN this];exact d (by omega)
 exact U4 (by omega) (a n (dc _))
theorem Yk {L:Tl} (v:VLev L):L.2.flatten.length<=24/\UB L.2.flatten<=24*5000:=by
 have b:L.2.flatten.length<=24:=by
  have h:=YK L.2 v.two;have:=v.len;rw [(Zg L.2).2] at h;omega
 refine ⟨b,?_⟩
 have:=gR (l:=L.2.flatten) λr a=>by
  obtain ⟨rs,c,d⟩:=l4.1 a;obtain ⟨i,hi⟩:=ed c;exact ((v.lev i rs hi).2 r d).vl.len
 exact s8 this (ol _ b)
def eL (L:Tl):Int×(Int×Int):=if (Va L).2.2≠0 then (0,(0,(Va L).2.2)) else ((UB L.2.flatten:Int),((L.2.flatten.length:Int),0))
theorem jY (L:Tl) (g:L.2.length<=1048576) (n : ∀ rs∈L.2,rs.length<=1048576 /\ ∀ r∈rs,r.2.length<=9223372036854775807):W4 L=some (eL L):=by
 unfold W4 eL;simp only [Tq,Tn];rw [Yr _ g n,Sx,TQ];by_cases b:(Va L).2.2=0;rotate_left
 ·rw [if_neg b,if_pos b]
 rw [if_pos b,if_neg (by simp [b])];have v:=Xd.1 b;have p:=v.len;obtain ⟨s1,s2⟩:=Yk v
 rw [Un (l:=L.2) (σ:=Nat×Nat) (s:=((0:Int),((0:Int),(0:Int)))) (λi a=>((i:Int),((a.1:Int),(a.2:Int)))) (λls i a=>a.1+UB ls.flatten=UB L.2.flatten/\a.2+ls.flatten.length=L.2.flatten.length) (λ_ _ _=>(0,(((L.2.length:Int),((UB L.2.flatten:Int),(L.2.flatten.length:Int))),()))) (0,0) rfl (by omega) ⟨by simp,by simp⟩ (λa h=>by
  obtain ⟨c,d⟩:=h;simp only;rw [re,R7,<- c,<- d]
  simp [UB]) (λi rs ls a hd hi e h=>by
   obtain ⟨c,d⟩:=h;rw [iP,U5] at c;rw [iP,hM] at d;have o:=v.two rs (bo hi);refine ⟨(a.1+UB rs,a.2+rs.length),?_,⟨by simp only;omega,by simp only;omega⟩,rfl⟩;simp only;rw [rl e,Sc,Ti,TC hi,Sj (by omega)]
   rw [pX (λk m=>(k,(((a.1+UB (rs.drop m):Nat):Int),((a.2+(rs.length-m):Nat):Int)))) rs.length (by simp [UB]) (by omega) (λk f=>by
    have j:rs[k]? = some rs[k]:=co f;have hd:UB (rs.drop k)=rs[k].2.length+UB (rs.drop (k+1)):=by rw [sa f,U2]
    have hc:UB (rs.drop k)<=UB rs:=by
     have:=U5 (rs.take k) (rs.drop k);rw [s7] at this;omega
    simp only;rw [TL,if_pos (by omega),Ti,TC j,Sj (by omega),Sh (by omega),Sh (by omega),hd]
    congr 4
    ·omega
    ·congr 1
     omega) (r:=(0,(((-1:Int),(((a.1+UB rs:Nat):Int),((a.2+rs.length:Nat):Int))),()))) rfl,Sx]
   rw [Tv hi (by omega)]),Sx]
theorem pI {s:Th} (m:Sm s) (a:Int):YF (s,a)=some (WA 0 (λs j=>((UA s.1 j:Int),0)) s a):=by
 unfold YF;rw [cU m,Sx];unfold WA aO YE;by_cases b:(Tk s).2=0;rotate_left
 ·rw [if_pos b,TQ,if_neg b,if_pos b]
 rw [if_neg (show ¬ (Tk s).2≠0 by simp [b]),if_neg (show ¬ (Tk s).2≠0 by simp [b])];have v:=Ts.1 b;cases e:Zo a 0 (Tp 0 s.1.2) with
 | none=>rfl
 | some i =>
  obtain ⟨j,n,c,g,f,d,h⟩:=v.at e;simp only [c];rw [TQ,if_pos rfl,Ti,TC c,(JobAt.left d).1,Sx]
def Yx (s:Th) (d:Int):Nat:=match aO s d with
 | some j=>UA s.1 j+1
 | none=>0
def X2 (s:Th):Nat:=((Tp 0 s.1.2).map (Yx s)).sum
theorem VSt.debt {s:Th} (v:VSt s) {d:Int} (h:d∈Tp 0 s.1.2) (m:Sm s):X4 (s,d)=some ((Yx s d:Int),0)/\aR (s,d)=some ((Yx s d:Int),0)/\Yx s d<=10001:=by
 obtain ⟨j,n,b,f,g,c,k⟩:=v.atDue h;have e:(Tk s).2=0:=Ts.2 v;have hd:Yx s d=UA s.1 j+1:=by unfold Yx;rw [b]
 have i:=(JobAt.left c).2.2
 have a:WA (0:Int) (λs j=>((UA s.1 j:Int),0)) s d=((UA s.1 j:Int),0):=by
  unfold WA;rw [if_neg (show ¬ (Tk s).2≠0 by simp [e]),b]
 unfold X4 aR;rw [pI m,Yb m,a,hd,Sx];simp only [Sx];rw [TQ,if_pos rfl,Sh (by omega)];exact ⟨rfl,rfl,by omega⟩
theorem pP {s:Th} (v:VSt s) (m:Sm s):X2 s<=12*10001:=by
 have a : ∀ l:List Int,(∀ d∈l,Yx s d<=10001)->(l.map (Yx s)).sum<=l.length*10001:=by
  intro l
  induction l with
  | nil=>intro _;simp
  | cons d l f =>
   intro h;have:=h d (by simp);have:=f λx e=>h x (by simp [e]);simp only [li,Ds,ci];omega
 have b:=a (Tp 0 s.1.2) λd hd=>(v.debt hd m).2.2;have g:=VS s.1.2 0;have:=v.lev.len;have c:(Tp 0 s.1.2).length*10001<=12*10001:=ol _ (by omega);exact s8 b c
theorem jW {s:Th} (m:Sm s):XL s=some (if (Tk s).2≠0 then (0,(Tk s).2) else ((X2 s:Int),0)):=by
 unfold XL;simp only [Tq,Tn];rw [gZ m,Sx];by_cases a:(Tk s).2=0;rotate_left
 ·rw [if_pos a,if_pos a,TQ,if_neg a]
 rw [if_neg (show ¬ (Tk s).2≠0 by simp [a]),if_neg (show ¬ (Tk s).2≠0 by simp [a])];have v:=Ts.1 a;have hd:=pP v m;simp only;have f:=VS s.1.2 0;have:=v.lev.len
 rw [TQ,if_pos rfl,Un (l:=Tp 0 s.1.2) (σ:=Nat) (s:=((0:Int),((0:Int),((0:Int),(0:Int))))) (λi b=>((0:Int),((i:Int),((0:Int),(b:Int))))) (λls i b=>b+(ls.map (Yx s)).sum=X2 s) (λ_ _ _=>(1,(((0:Int),(((Tp 0 s.1.2).length:Int),((0:Int),(X2 s:Int)))),()))) 0 rfl (by omega) (by unfold X2;simp) (λb h=>by
  simp only
  rw [re,R7,<- h];simp) (λi d ls b e hi c h=>by
   rw [li,Ds] at h;refine ⟨b+Yx s d,?_,by omega,rfl⟩;simp only;rw [rl c,Sc,Ti,TC hi,(v.debt (bo hi) m).1,Sx];simp only;rw [TQ,if_pos rfl,Sh (by omega),Sh (by omega)]
   rfl),Sx]
 rfl
end
section
open Go Sv
theorem af (x:Tj) : ∀ l:List Tj,(WG l x).length<=l.length+1
 | []=>by unfold WG;simp
 | y::l=>by
  unfold WG;have:=af x l;split
  ·simp;omega
  ·split<;>simp
theorem bu {α:Type} (l:List α) (k:Nat):D0 l 0 k=l.take k:=by unfold D0;simp
theorem bq {α:Type} (l:List α) (k:Nat):D0 l k l.length=l.drop k:=by
 unfold D0;rw [en (by simp)]
theorem sc (l:List Tj) (x:Tj) (D:l.length<=1000000):YJ (l,x)=some (WG l x):=by
 unfold YJ;simp only [Tq,Tn]
 obtain ⟨r,A,B⟩:=Wq (l:=l) (σ:=Unit) (λk _=>(k:Int)) (λm k _=>WG l x=l.take k++WG m x) (λ(r:Nat×(Int×Unit)) => ∃ k:Nat,r.2.1=(k:Int)/\k<=l.length/\WG l x=l.take k++WG (l.drop k) x /\ ∀ y,l[k]? = some y->SV y.1 x.1=false)
  (f:=λs0=>br (S8 s0 (l.length:Int)) (λ_=>R1 s0 λw=>ix l w λC=>br (SV C.1 x.1) (λ_=>some (.nx (SF .i64 s0 1))) λ_=>some (.dn ((0,(s0,()))))) λ_=>some (.dn ((0,(s0,())))))
  (s:=(0:Int)) () rfl (by omega) rfl (λ_ h=>by
   refine ⟨(0,((l.length:Int),())),by rw [re];rfl,l.length,rfl,dc _,by rw [h];simp,λy j=>by simp at j⟩) (λk y m _ hd b a h=>by
   rw [rl a,Sc,Ti,TC b,Wz];unfold WG at h;by_cases hs:SV y.1 x.1=true
   ·rw [if_pos hs,Tu (by omega)];rw [if_pos hs] at h;refine .inl ⟨(),rfl,?_⟩
    conv=>lhs;unfold WG
    rw [h,gs,b];simp
   ·rw [if_neg hs];refine .inr ⟨_,rfl,k,rfl,by omega,?_,λz t=>by rw [b] at t;cases t;simpa using hs⟩;rw [hd]
    conv=>lhs;unfold WG
    conv=>rhs;unfold WG
    exact h)
 rw [A,Sx];obtain ⟨k,e,a,q,j⟩:=B;have n : ∀ {β:Type} (c:Unit->Option β),gd (CF (l.take k).length 1048576) c=c ():=λc=>UP (by simp;omega) c;have o : ∀ {β:Type} (c:Unit->Option β),gd (CF (BF (l.take k).length [x].length) 1048576) c=c ():=λc=>UP (by simp [BF];omega) c;have p : ∀ {β:Type} (c:Unit->Option β),gd (CF (BF (Il (l.take k) [x]).length (l.drop k).length) 1048576) c=c ():=λc=>UP (by simp [BF,Il];omega) c;rw [e];by_cases h:k<l.length
 ·have b:l[k]? = some l[k]:=co h;have hs:=j _ b;have g:l.drop k=l[k]::l.drop (k+1):=sa h
  have u:WG (l.drop k) x=if l[k].1=x.1 then l.drop k else x::l.drop k:=by
   rw [g]
   conv=>lhs;unfold WG
   rw [if_neg (by rw [hs];simp)]
  rw [rl h,Sc,Ti,TC b,WB,q,u];by_cases d:l[k].1=x.1
  ·rw [if_pos d,if_pos d,s7]
  ·rw [if_neg d,if_neg d,Ti,UP a,UP (by omega),bu,n,o,Ti,UP (by omega),UP a,bq,p];unfold Il;simp
 ·have i:k=l.length:=by omega
  subst i;rw [re,R7,q,Ti,UP a,UP (by omega),bu,n,o,Ti,UP (by omega),UP a,bq,p];simp [Il,WG]
theorem aC : ∀ (m l:List Tj),(m.foldl WG l).length<=l.length+m.length
 | [],l=>by simp
 | x::m,l=>by
  have a:=aC m (WG l x);have b:=af x l;simp only [gM,ci];omega
theorem ai : ∀ (rs:List UJ) (l:List Tj),(aW rs l).length<=l.length+UB rs
 | [],l=>by simp [aW,UB]
 | r::rs,l=>by
  have a:=ai rs (r.2.foldl WG l);have b:=aC r.2 l;rw [U2];show (aW rs (r.2.foldl WG l)).length<=_;omega
theorem se {R:List UJ} {i:Nat} {r:UJ} (hi:R[i]? = some r) {out:List Tj} (b:out.length+r.2.length<=500000):loop (λ(s2:UJ)=>R1 (i:Int) λd=>ix R d λj=>br (S8 s2.1 (j.2.length:Int)) (λ_=>R1 (i:Int) λe=>ix R e λm=>R1 s2.1 λf=>ix m.2 f λn=>bd (YJ (s2.2,n)) λg=>some (.nx (SF .i64 s2.1 1,g))) λ_=>some (.dn (((0:Nat),(s2,()))))) ((0:Int),out)=some (0,(((r.2.length:Int),r.2.foldl WG out),())):=by
 refine Un (l:=r.2) (σ:=List Tj) (λk o=>((k:Int),o)) (λls _ o=>o.length+ls.length<=500000) (λls _ o=>(0,(((r.2.length:Int),ls.foldl WG o),()))) out rfl (by omega) b (λo h => ?_) (λk x ls o hd c a h => ?_)
 ·simp only;rw [Ti,TC hi,re];rfl
 ·have:=af x o;simp only [ci] at h;refine ⟨WG o x,?_,by omega,rfl⟩;simp only;rw [Ti,TC hi,rl a,Sc,Ti,TC hi,Ti,TC c,sc _ _ (by omega),Sx,Tu (by omega)]
theorem wU {L:Tl} (v:VLev L):aQ L=some (LF L):=by
 obtain ⟨n,p⟩:=Yk v;obtain ⟨j,m⟩:=Zg L.2;unfold aQ;simp only [Tq,Tn];rw [bM v,Sx];refine UC (Un (l:=UV L.2) (σ:=List Tj) (s:=(([]:List Tj),(0:Int))) (λi o=>(o,(i:Int))) (λls _ o=>o.length+UB ls<=500000) (λls _ o=>(0,((aW ls o,((UV L.2).length:Int)),()))) [] rfl (by omega) (by simp;omega) (λo h => ?_) (λi r ls o hd hi c h => ?_)) ?_
 ·simp only;rw [re];rfl
 ·rw [U2] at h;have b:=aC r.2 o;refine ⟨r.2.foldl WG o,?_,by omega,rfl⟩;simp only;rw [rl c,Sc];refine UC (se hi (by omega)) ?_;rw [Tu (by omega)]
 ·have a:=ai (UV L.2) [];simp only [cP,ee] at a;dsimp only;generalize f:aW (UV L.2) []=A at a;have g:LF L=A.filter VO:=by unfold LF;rw [f]
  rw [g];refine UC (Un (l:=A) (σ:=List Tj) (s:=((0:Int),([]:List Tj))) (λk o=>((k:Int),o)) (λls k o=>o.length<=k/\o++ls.filter VO=A.filter VO) (λ_ _ _=>(0,(((A.length:Int),A.filter VO),()))) [] rfl (by omega) ⟨by simp,rfl⟩ (λo h => ?_) (λk x ls o hd e c h => ?_)) rfl
  ·simp only;rw [re,R7,<- h.2];simp
  ·obtain ⟨q,b⟩:=h;rw [tw] at b;simp only;rw [rl c,Sc,Ti,TC e];cases d:x.2.2.1 with
   | true =>
    have:VO x=false:=by unfold VO;rw [d];rfl
    rw [this] at b;refine ⟨o,?_,⟨by omega,by simpa using b⟩,trivial⟩;rw [Yg,R7,Tu (by omega)]
   | false =>
    have:VO x=true:=by unfold VO;rw [d];rfl
    rw [this] at b;refine ⟨o++[x],?_,⟨by simp;omega,by simpa using b⟩,trivial⟩;rw [sf,Sc,Ti,TC e,UP (by simp [BF];omega),Tu (by omega)];rfl
end
section
open Go Sv
end
section
open Go Sv
end
section
open Go Sv
end
section
open Go Sv
end
section
open Go Sv
def Gd (s0 s:Th):Prop:=VSt s/\LF s.1=LF s0.1/\UB s.1.2.flatten<=2000
theorem pO {l:List UJ} {r:UJ} (h:r∈l):r.2.length<=UB l:=by
 induction l with
 | nil=>cases h
 | cons x l a =>
  rw [U2];rcases eo.1 h with e | h
  ·rw [e];omega
  ·have:=a h;omega
theorem Yi {L:Tl} (h:UB L.2.flatten<=2000):jV L:=λi r a=>by
 have:=pO (bB.2 ⟨i,a⟩);omega
theorem dC {s:Th} (v:VSt s) (h:jV s.1) {n:Nat} {j:Job} (g:JobAt s.1 n j) (E : ¬ 0<UA s.1 j):UB (Vn s j).2.flatten<=UB s.1.2.flatten:=by
 obtain ⟨G,I,y,J,K⟩:=g.out v.lev (h n);have w:j.1.toNat=n:=by rw [y];simp
 have a:=h n;obtain ⟨d,e,m,k,u,c,x,F,B,C⟩:=g;have i:=Xw.1 u;rw [i] at a;have D:=a d (by simp);have f:=a e (by simp)
 have l:(Uo j).length<=e.2.length+d.2.length:=by
  rw [c];exact (ei C B m x (by omega)).2
 obtain ⟨p,q,f,o⟩:=Xy s.1 n []
 have e1:UB s.1.2.flatten=UB p+((d.2.length+e.2.length)+UB q):=by
  rw [f,i,U5,U5,U2,U2];simp [UB]
 have e2:UB (Uw s.1 n []).2.flatten=UB p+UB q:=by rw [o,U5,U5];simp [UB]
 unfold Vn;rw [w];by_cases b:Uo j=[]
 ·rw [if_pos b];omega
 ·rw [if_neg b];obtain ⟨z,A,r,t⟩:=Xy (Uw s.1 n []) (YM s j) (To (Uw s.1 n []).2 (YM s j)++[(s.2.2,Uo j)]);have e3:UB (Uw s.1 n []).2.flatten=UB z+(UB (To (Uw s.1 n []).2 (YM s j))+UB A):=by rw [r,U5,U5]
  rw [t,U5,U5,U5,U2];simp only [UB,List.map_nil,List.sum_nil];simp only [UB] at e3 e2 e1;omega
theorem cV {s:Th} (v:VSt s) {d:Int} (h:d∈Tp 0 s.1.2) : ∃ (i:Nat) (j:Job) (n:Nat),Zo d 0 (Tp 0 s.1.2)=some i/\s.2.1[i]? = some j/\d=(n:Int)/\j.1=(n:Int)/\JobAt s.1 n j:=by
 obtain ⟨i,hi⟩:=cW (k:=0) h;obtain ⟨j,n,a,b,c,d,_⟩:=v.at hi;exact ⟨i,j,n,hi,a,b,c,d⟩
theorem iA {s0 s:Th} (g:Gd s0 s) {d:Int} (h:d∈Tp 0 s.1.2) : ∃ (c:Bool) (t:Th) (b:Bool) (e:Int),WZ (s,d)=some (c,0)/\Ur (s,d)=some (t,(b,e))/\(s.2.2<=1000000->c=decide (e=0))/\(e=0->Gd s0 t):=by
 obtain ⟨v,z,hc⟩:=g;have r:=Yi hc;have m:=v.sm;obtain ⟨i,j,n,hi,y,hd,w,q⟩:=cV v h;have A:(Tk s).2=0:=Ts.2 v;have o:aO s d=some j:=by unfold aO;rw [hi];exact y
 have p:WZ (s,d)=some (Vh s.1 j,0):=by
  rw [eC m];unfold WA;rw [if_neg (by simp [A]),o]
 have k:Ur (s,d)=some (Xf s j):=by
  rw [cL m r];unfold V1;rw [if_neg (by simp [A]),o]
 refine ⟨Vh s.1 j,(Xf s j).1,(Xf s j).2.1,(Xf s j).2.2,p,k,?_⟩;unfold Xf;by_cases l:Vh s.1 j=false
 ·rw [if_pos l,l];exact ⟨λ_=>by simp,λh=>by cases h⟩
 have a:Vh s.1 j=true:=by simpa using l
 rw [if_neg l];by_cases f:0<UA s.1 j
 ·rw [if_pos f];refine ⟨λ_=>by simp [a],λ_=>⟨kM v (by rw [w,<- hd];exact hi) y q f,z,hc⟩⟩
 rw [if_neg f];unfold ZD;rw [if_neg (λh=>h.elim f l)];by_cases u:s.2.2>1000000/\Uo j≠[]
 ·rw [if_pos u];exact ⟨λh=>by omega,λh=>by cases h⟩
 rw [if_neg u]
 have x:Uo j≠[]->s.2.2<=1000000:=λC=>by
  by_cases B:s.2.2>1000000
  ·exact absurd ⟨B,C⟩ u
  ·omega
 refine ⟨λ_=>by simp [a],λ_=>⟨jq v r q f a x,?_,?_⟩⟩
 ·exact (iC v r q f a x).trans z
 ·have:=dC v r q f;show UB (Vn s j).2.flatten<=2000;omega
theorem dE : ∀ (ls:List (List UJ)) (i:Nat),(Tp i ls).Pairwise (· < ·)
 | [],_ => .nil
 | rs::ls,i=>by
  have a:=dE ls (i+1);have b:=(aB ls (i+1)).2;rw [Wm];split
  ·refine List.pairwise_cons.2 ⟨λd hd => ?_,a⟩;have:=b d hd;omega
  ·exact a
theorem Zr : ∀ {ls:List (List UJ)} {i n:Nat},(To ls n).length=2->((i+n:Nat):Int)∈Tp i ls
 | [],i,n,h=>by simp [To] at h
 | rs::ls,i,0,h=>by
  have h':rs.length=2:=h;rw [Wm,if_pos h'];simp
 | rs::ls,i,n+1,h=>by
  rw [Wm];refine sr _ ?_;have:=Zr (ls:=ls) (i:=i+1) (n:=n) h
  rwa [show i+1+n=i+(n+1) by omega] at this
theorem hG {s:Th} (v:VSt s) {k:Nat} {d:Int} (r:(Tp 0 s.1.2)[k]? = some d) (F:k+1=(Tp 0 s.1.2).length) (u:d<11):WZ (s,d)=some (true,0):=by
 have m:=v.sm;have c:=bo r;obtain ⟨i,j,n,hi,x,hd,g,E⟩:=cV v c;have B:(Tk s).2=0:=Ts.2 v;have f:aO s d=some j:=by unfold aO;rw [hi];exact x
 have a:Vh s.1 j=true:=by
  have C:=(v.lev.own (n+1)).1
  have D : ¬ (To s.1.2 (n+1)).length=2:=λh=>by
   have y:=Zr (i:=0) h;obtain ⟨q,z⟩:=ed y;have t:=dE s.1.2 0;rw [List.pairwise_iff_getElem] at t;obtain ⟨o,e⟩:=a8.1 z;obtain ⟨l,b⟩:=a8.1 r;by_cases p:q=k
   ·subst p;rw [e] at b;omega
   ·have:=t q k o l (by omega);rw [e,b] at this;omega
  have A:Y5 s.1 (j.1.toNat+1)=true:=by
   unfold Y5;rw [g,bl];have w:((s.1.2[n+1]?).getD []).length=(To s.1.2 (n+1)).length:=rfl;rw [w];exact decide_eq_true ⟨by omega,by omega⟩
  unfold Vh;rw [A];simp
 rw [eC m];unfold WA;rw [if_neg (by simp [B]),f];show some (Vh s.1 j,(0:Int))=_;rw [a]
end
section
open Go Sv
def Uq (f:Nat->Nat):Nat->Nat
 | 0=>0
 | m+1=>Uq f m+f m
theorem bX {f g:Nat->Nat} : ∀ {m:Nat},(∀ i,i<m->g i<=f i)->Uq g m<=Uq f m
 | 0,_=>dc _
 | m+1,h=>Nat.add_le_add (bX λi hi=>h i (by omega)) (h m (by omega))
theorem bV {f g:Nat->Nat} {n:Nat} (a:g n+1<=f n) : ∀ {m:Nat},n<m->(∀ i,i<m->i≠n->g i<=f i)->Uq g m+1<=Uq f m
 | 0,h,_=>absurd h (by omega)
 | m+1,h,ho=>by
  unfold Uq;by_cases e:n=m
  ·subst e;have:=bX (f:=f) (g:=g) (m:=n) λi hi=>ho i (by omega) (by omega);omega
  ·have:=bV a (m:=m) (by omega) λi hi=>ho i (by omega);have:=ho m (by omega) (λh=>e h.symm);omega
theorem cI {f g:Nat->Nat} {n:Nat} (a:g n+g (n+1)+1<=f n+f (n+1)) : ∀ {m:Nat},n+1<m->(∀ i,i<m->i≠n->i≠n+1->g i<=f i)->Uq g m+1<=Uq f m
 | 0,h,_=>absurd h (by omega)
 | m+1,h,ho=>by
  unfold Uq;by_cases e:n+1=m
  ·subst e;have:=bX (f:=f) (g:=g) (m:=n) λi hi=>ho i (by omega) (by omega) (by omega);unfold Uq;omega
  ·have:=cI a (m:=m) (by omega) λi hi=>ho i (by omega);have:=ho m (by omega) (by omega) (by omega);omega
theorem ZM : ∀ {js:List Job} {j:Job},(js.map (·.1)).Nodup->j∈js->Uk js j.1=some j
 | [],_,_,h=>by cases h
 | i::js,j,hn,h=>by
  rw [li,oj] at hn;unfold Uk;rw [iz];unfold cZ;rw [Vt];rcases eo.1 h with e | h
  ·subst e;simp
  ·have a : ¬ j.1=i.1:=λe=>hn.1 (by rw [<- e];exact l5 h);rw [decide_eq_false a];exact ZM hn.2 h
theorem bm : ∀ {js:List Job} {i:Nat} {j:Job} (w:Xg) (d:Int),(js.map (·.1)).Nodup->js[i]? = some j->Uk (js.set i (j.1,w)) d=if d=j.1 then some (j.1,w) else Uk js d
 | [],i,j,w,d,_,h=>by simp at h
 | x::js,0,j,w,d,hn,h=>by
  have e:x=j:=by simpa using h
  subst e;unfold Uk;rw [List.set_cons_zero,iz,iz];unfold cZ;rw [Vt];by_cases e:d=x.1<;>simp [e]
 | x::js,i+1,j,w,d,hn,h=>by
  rw [li,oj] at hn;have h':js[i]? = some j:=by simpa using h
  have b:=bm w d hn.2 h';unfold Uk at b ⊢;rw [List.set_cons_succ,iz,iz,b];have c:cZ d x=decide (d=x.1):=Vt _ _;rw [c];by_cases e:d=x.1
  ·have a : ¬ d=j.1:=λe2=>hn.1 (by rw [<- e,e2];exact l5 (bo h'));rw [decide_eq_true e];simp only [a,if_false]
  ·rw [decide_eq_false e]
theorem VSt.noJob {s:Th} (v:VSt s) {i:Nat} (h:(To s.1.2 i).length≠2):Uk s.2.1 (i:Int)=none:=by
 refine Yq λa=>h ?_;rw [v.due] at a;obtain ⟨n,c,d,e,b⟩:=aZ a;have:i=n:=by omega
 rw [this,Xw.1 b];rfl
theorem VSt.hasJob {s:Th} (v:VSt s) {i:Nat} (h:(To s.1.2 i).length=2) : ∃ j,Uk s.2.1 (i:Int)=some j:=by
 have a:=Zr (i:=0) h;rw [ee,<- v.due] at a;obtain ⟨j,b,e⟩:=ox.1 a;exact ⟨j,by rw [<- e];exact ZM v.nodup b⟩
theorem VSt.jobAt {s:Th} (v:VSt s) {i:Nat} {j:Job} (h:Uk s.2.1 (i:Int)=some j):JobAt s.1 i j:=by
 obtain ⟨b,e⟩:=aw h;obtain ⟨n,a⟩:=v.job j b
 have:n=i:=by
  obtain ⟨_,_,_,_,_,rfl,_⟩:=a;have c:(n:Int)=(i:Int):=e;omega
 rwa [this] at a
theorem eK {s:Th} (v:VSt s) (d:Int):aO s d=Uk s.2.1 d:=by
 by_cases h:d∈Tp 0 s.1.2
 ·obtain ⟨j,n,a,hd,b,_⟩:=v.atDue h;rw [a,hd,<- b];refine (ZM v.nodup ?_).symm;unfold aO at a;split at a
  ·exact bo a
  ·cases a
 ·rw [Yq (by rw [v.due];exact h)];unfold aO;split
  ·rename_i i hi;have:=(eQ hi).2;exact absurd (bo this) h
  ·rfl
def pH (j:Job):Nat:=j.2.2.2.2.toNat
theorem JobAt.rd {L:Tl} {n:Nat} {j:Job} (h:JobAt L n j) : ∃ a b,To L.2 n=[a,b]/\pH j<=b.2.length+a.2.length/\UA L j=b.2.length+a.2.length-pH j/\(0<UA L j->pH (j.1,Y6 L j)=pH j+1):=by
 obtain ⟨a,b,c,k,d,rfl,f,g,i,l⟩:=h;have e:=Xw.1 d;have e1:(Vb b.2 a.2 c k).2.1.2.2=c:=ad _ _ _ _;have e2:(Vb b.2 a.2 c k).2.2.2.toNat=k:=by show ((k:Int)).toNat=k;rw [bl]
 refine ⟨a,b,e,?_,?_,λ_ => ?_⟩
 ·show (Vb b.2 a.2 c k).2.2.2.toNat<=_;rw [e2];exact f
 ·unfold UA pH;simp only [bl,d]
 ·show (Y6 L ((n:Int),Vb b.2 a.2 c k)).2.2.2.toNat=(Vb b.2 a.2 c k).2.2.2.toNat+1;unfold Y6;simp only [bl,e];rw [e1,e2];show (((k+1:Nat):Int)).toNat=_;rw [bl]
structure StepF (s:Th) (n:Nat) (j:Job) (t:Th) (b:Bool):Prop where
 job:Uk s.2.1 (n:Int)=some j
 read:0<UA s.1 j->b=false/\t.1=s.1/\t.2.2=s.2.2 /\ ∀ i:Nat,Uk t.2.1 (i:Int)=if i=n then some (j.1,Y6 s.1 j) else Uk s.2.1 (i:Int)
 inst:UA s.1 j=0->b=true/\t.1=Vn s j/\t.2.2=YC s j/\(∀ i,(To t.1.2 i)=if Uo j≠[]/\i=YM s j then (if i=n then [] else To s.1.2 i)++[(s.2.2,Uo j)] else if i=n then [] else To s.1.2 i)/\(YM s j=n\/YM s j=n+1/\n+1<12/\(Uo j≠[]->(To s.1.2 (n+1)).length<2)) /\
  ∀ i:Nat,Uk t.2.1 (i:Int)=if (To t.1.2 i).length=2 then some ((if i=n then none else Uk s.2.1 (i:Int)).getD (WW t.1 (i:Int))) else none
theorem fG {s0 s:Th} (g:Gd s0 s) {d:Int} (h:d∈Tp 0 s.1.2) (e:(V1 s d).2.2=0) : ∃ (n:Nat) (j:Job),d=(n:Int)/\n<12/\JobAt s.1 n j/\Vh s.1 j=true/\StepF s n j (V1 s d).1 (V1 s d).2.1/\Gd s0 (V1 s d).1:=by
 obtain ⟨v,Y,hc⟩:=g;have W:=Yi hc;have m:=v.sm;obtain ⟨c,t,b,er,_,J,_,X⟩:=iA ⟨v,Y,hc⟩ h;rw [cL m W] at J;have w:=Option.some.inj J;obtain ⟨i,j,n,hi,S,hd,u,P⟩:=cV v h;have hz:(Tk s).2=0:=Ts.2 v;have C:aO s d=some j:=by unfold aO;rw [hi];exact S
 have Z:n<12:=by
  have:=v.lev.len;obtain ⟨_,_,_,_,U,_⟩:=P;have:=(a8.1 U).1;omega
 have E:Uk s.2.1 (n:Int)=some j:=by rw [<- hd,<- eK v,C]
 have hS:V1 s d=Xf s j:=by unfold V1;rw [if_neg (by simp [hz]),C]
 have A:Gd s0 (V1 s d).1:=by rw [w];exact X (by rw [<- e,w])
 have k:=A.1;rw [hS] at e k A ⊢;refine ⟨n,j,hd,Z,P,?_,⟨E,λN => ?_,λN => ?_⟩,A⟩
 ·unfold Xf at e;by_cases a:Vh s.1 j=false
  ·rw [if_pos a] at e;cases e
  ·simpa using a
 ·unfold Xf at e ⊢;have a : ¬ Vh s.1 j=false:=λa=>by rw [if_pos a] at e;cases e
  rw [if_neg a,if_pos N];refine ⟨rfl,rfl,rfl,λo => ?_⟩;show Uk (Zz s j).2.1 _=_;unfold Zz;rw [u,<- hd,hi,hI];show Uk (s.2.1.set i (d,Y6 s.1 j)) _=_;have:=bm (Y6 s.1 j) (o:Int) v.nodup S;rw [u,<- hd] at this;rw [this,hd];by_cases p:o=n
  ·rw [if_pos (by rw [p]),if_pos p]
  ·rw [if_neg (by omega),if_neg p]
 ·unfold Xf at e k ⊢;have a : ¬ Vh s.1 j=false:=λa=>by rw [if_pos a] at e;cases e
  have q:Vh s.1 j=true:=by simpa using a
  have z : ¬ 0<UA s.1 j:=by omega
  rw [if_neg a,if_neg z] at e k ⊢;unfold ZD at e k ⊢;rw [if_neg (λh=>h.elim z a)] at e k ⊢;by_cases O:s.2.2>1000000/\Uo j≠[]
  ·rw [if_pos O] at e;cases e
  rw [if_neg O] at e k ⊢;have B:j.1.toNat=n:=by rw [u];simp
  have G : ∀ i,To (Vn s j).2 i=_:=λi=>V0 (s:=s) (j:=j) B i;refine ⟨rfl,rfl,rfl,G,?_,λo => ?_⟩
  ·unfold YM;rw [B];by_cases hs:Vo s.1 j=true
   ·rw [if_pos hs];exact .inl rfl
   ·rw [if_neg hs]
    have hr:Y5 s.1 (n+1)=true:=by
     unfold Vh at q;rw [B] at q;simpa [hs,z] using q
    have I:=of_decide_eq_true hr;exact .inr ⟨rfl,I.1,λ_=>I.2⟩
  ·have r:VSt (ZK s (Vn s j) (YC s j) j.1):=k;show Uk (ZK s (Vn s j) (YC s j) j.1).2.1 (o:Int)=if (To (Vn s j).2 o).length=2 then some ((if o=n then none else Uk s.2.1 (o:Int)).getD (WW (Vn s j) (o:Int))) else none
   have ho:(To (ZK s (Vn s j) (YC s j) j.1).1.2 o)=To (Vn s j).2 o:=rfl;by_cases K:(To (Vn s j).2 o).length=2
   ·rw [if_pos K];have M:=Zr (i:=0) K;rw [ee] at M;have F:We s (Vn s j) j.1 (o:Int)∈(ZK s (Vn s j) (YC s j) j.1).2.1:=l5 M
    have D:(We s (Vn s j) j.1 (o:Int)).1=(o:Int):=by
     have L:(Tp 0 (Vn s j).2).map (λd=>(We s (Vn s j) j.1 d).1)=Tp 0 (Vn s j).2:=by
      have:=r.due;simpa [ZK,Te,Function.comp_def] using this
     have key : ∀ {l:List Int} {f:Int->Int},l.map f=l -> ∀ x∈l,f x=x:=by
      intro l f
      induction l with
      | nil=>intro _ x hx;cases hx
      | cons y l ih =>
       intro h x hx;rw [li] at h;obtain ⟨k1,k2⟩:=List.cons.inj h;rcases eo.1 hx with rfl | hx
       ·exact k1
       ·exact ih k2 x hx
     exact key L _ M
    have:=ZM r.nodup F;rw [D] at this;rw [this];unfold We;rw [u];by_cases p:o=n
    ·rw [if_pos (by omega),if_pos p]
    ·rw [if_neg (by omega),if_neg p]
   ·rw [if_neg K];exact r.noJob (by rw [ho];exact K)
end
section
open Go Sv
def kK (s:Th) (i:Nat):Nat:=match Uk s.2.1 (i:Int) with
 | some j=>pH j
 | none=>0
def cg (N:Nat) (s:Th) (i:Nat):Nat:=(To s.1.2 i).length*(N+1)-kK s i
def YB (N:Nat) (s:Th):Nat:=Uq (cg N s) 12
theorem cQ {L:Tl} {n:Nat} {a b:UJ} (h:To L.2 n=[a,b]):a.2.length+b.2.length<=UB L.2.flatten:=by
 obtain ⟨p,q,c,_⟩:=Xy L n [];rw [c,h,U5,U5,U2,U2];omega
theorem VSt.rd0 {s:Th} (v:VSt s) {i:Nat} (h:(To s.1.2 i).length≠2):kK s i=0:=by
 unfold kK;rw [v.noJob h]
theorem kF {N:Nat} {s t:Th} {n:Nat} {j:Job} {b:Bool} (v:VSt s) (B:UB s.1.2.flatten<=N) (r:n<12) (y:JobAt s.1 n j) (F:StepF s n j t b):YB N t+1<=YB N s:=by
 obtain ⟨E,G,l,C,D,z⟩:=y.rd;have hc:=cQ l
 have hs:cg N s n=2*(N+1)-pH j:=by
  unfold cg kK;rw [F.job,l];rfl
 by_cases p:0<UA s.1 j
 ·obtain ⟨_,e1,_,e2⟩:=F.read p;refine bV (n:=n) ?_ r λi _ a => ?_
  ·have m:cg N t n=2*(N+1)-(pH j+1):=by
    unfold cg kK;rw [e2,if_pos rfl,e1,l,<- z p];rfl
   omega
  ·unfold cg kK;rw [e2,if_neg a,e1];exact dc _
 ·obtain ⟨_,e1,_,e2,e3,o⟩:=F.inst (by omega)
  have d : ∀ i,i≠n -> ¬ (Uo j≠[]/\i=YM s j)->cg N t i<=cg N s i:=λi a hit=>by
   have e:To t.1.2 i=To s.1.2 i:=by rw [e2,if_neg hit,if_neg a]
   have c:kK t i=kK s i:=by
    by_cases c:(To s.1.2 i).length=2
    ·obtain ⟨j',k⟩:=v.hasJob c;unfold kK;rw [o,e,if_pos c,if_neg a,k];rfl
    ·rw [v.rd0 c];unfold kK;rw [o,e,if_neg c]
   unfold cg;rw [e,c];exact dc _
  by_cases m:Uo j≠[]/\YM s j≠n
  ·obtain ⟨q,u⟩:=m;rcases e3 with e3 | ⟨e3,f,c⟩
   ·exact absurd e3 u
   have c:=c q;refine cI (n:=n) ?_ f λi _ a g=>d i a (by rw [e3];exact λh=>g h.2)
   have w:cg N t n=0:=by
    unfold cg;rw [e2,if_neg (by rw [e3];omega),if_pos rfl];simp
   have x:cg N t (n+1)<=((To s.1.2 (n+1)).length+1)*(N+1):=by
    unfold cg;rw [e2,if_pos ⟨q,e3.symm⟩,if_neg (by omega),hM];exact xT _ _
   have A:cg N s (n+1)=(To s.1.2 (n+1)).length*(N+1):=by
    unfold cg;rw [v.rd0 (by omega)];rfl
   rw [ym] at x;omega
  ·refine bV (n:=n) ?_ r λi _ a=>d i a (λh=>m ⟨h.1,by rw [<- h.2];exact a⟩)
   have w:cg N t n<=1*(N+1):=by
    refine s8 (xT _ _) (ol _ ?_);rw [e2,if_pos rfl];split<;>simp
   omega
theorem cu (L:List (List UJ)) : ∀ m,Uq (λi=>(To L i).length) m=(L.take m).flatten.length
 | 0=>by simp [Uq]
 | m+1=>by
  unfold Uq;rw [cu L m];by_cases h:m<L.length
  ·have:L.take (m+1)=L.take m++[To L m]:=by
    rw [gs,WE h];rfl
   rw [this,List.flatten_append];simp
  ·have:To L m=[]:=by unfold To;rw [a9 (by omega)];rfl
   rw [this,en (by omega),en (by omega)];simp
theorem gm (f:Nat->Nat) (c:Nat) : ∀ m,Uq (λi=>f i*c) m=Uq f m*c
 | 0=>by simp [Uq]
 | m+1=>by unfold Uq;rw [gm f c m,ym]
theorem kD (N:Nat) {s:Th} (v:VSt s):YB N s<=s.1.2.flatten.length*(N+1):=by
 have a:YB N s<=Uq (λi=>(To s.1.2 i).length*(N+1)) 12:=bX λi _=>xT _ _;have:=v.lev.len;rw [gm,cu,en (by omega)] at a;exact a
theorem ao {L:Tl} (v:VLev L):L.2.flatten.length<=24:=by
 have h:=cu L.2 12;have:=v.len;rw [en (by omega)] at h;rw [<- h];exact bX (f:=λ_=>2) λi _=>(v.own i).1
end
section
open Go Sv
abbrev eJ:=(Int×(Int×(Int×jX)))
def zh (a:jX) (k l:Nat):jX :=
 (TU (neq l 0) (SF .i64 (Oe [a.1,a.2.1,a.2.2.1,a.2.2.2.1,a.2.2.2.2.1,a.2.2.2.2.2.1,a.2.2.2.2.2.2.1,a.2.2.2.2.2.2.2.1,a.2.2.2.2.2.2.2.2.1,a.2.2.2.2.2.2.2.2.2.1,a.2.2.2.2.2.2.2.2.2.2.1,a.2.2.2.2.2.2.2.2.2.2.2] k) 1) a.1,(TU (neq l 1) (SF .i64 (Oe [a.1,a.2.1,a.2.2.1,a.2.2.2.1,a.2.2.2.2.1,a.2.2.2.2.2.1,a.2.2.2.2.2.2.1,a.2.2.2.2.2.2.2.1,a.2.2.2.2.2.2.2.2.1,a.2.2.2.2.2.2.2.2.2.1,a.2.2.2.2.2.2.2.2.2.2.1,a.2.2.2.2.2.2.2.2.2.2.2] k) 1) a.2.1,(TU (neq l 2) (SF .i64 (Oe [a.1,a.2.1,a.2.2.1,a.2.2.2.1,a.2.2.2.2.1,a.2.2.2.2.2.1,a.2.2.2.2.2.2.1,a.2.2.2.2.2.2.2.1,a.2.2.2.2.2.2.2.2.1,a.2.2.2.2.2.2.2.2.2.1,a.2.2.2.2.2.2.2.2.2.2.1,a.2.2.2.2.2.2.2.2.2.2.2] k) 1) a.2.2.1,(TU (neq l 3) (SF .i64 (Oe [a.1,a.2.1,a.2.2.1,a.2.2.2.1,a.2.2.2.2.1,a.2.2.2.2.2.1,a.2.2.2.2.2.2.1,a.2.2.2.2.2.2.2.1,a.2.2.2.2.2.2.2.2.1,a.2.2.2.2.2.2.2.2.2.1,a.2.2.2.2.2.2.2.2.2.2.1,a.2.2.2.2.2.2.2.2.2.2.2] k) 1) a.2.2.2.1,(TU (neq l 4) (SF .i64 (Oe [a.1,a.2.1,a.2.2.1,a.2.2.2.1,a.2.2.2.2.1,a.2.2.2.2.2.1,a.2.2.2.2.2.2.1,a.2.2.2.2.2.2.2.1,a.2.2.2.2.2.2.2.2.1,a.2.2.2.2.2.2.2.2.2.1,a.2.2.2.2.2.2.2.2.2.2.1,a.2.2.2.2.2.2.2.2.2.2.2] k) 1) a.2.2.2.2.1,(TU (neq l 5) (SF .i64 (Oe [a.1,a.2.1,a.2.2.1,a.2.2.2.1,a.2.2.2.2.1,a.2.2.2.2.2.1,a.2.2.2.2.2.2.1,a.2.2.2.2.2.2.2.1,a.2.2.2.2.2.2.2.2.1,a.2.2.2.2.2.2.2.2.2.1,a.2.2.2.2.2.2.2.2.2.2.1,a.2.2.2.2.2.2.2.2.2.2.2] k) 1) a.2.2.2.2.2.1,(TU (neq l 6) (SF .i64 (Oe [a.1,a.2.1,a.2.2.1,a.2.2.2.1,a.2.2.2.2.1,a.2.2.2.2.2.1,a.2.2.2.2.2.2.1,a.2.2.2.2.2.2.2.1,a.2.2.2.2.2.2.2.2.1,a.2.2.2.2.2.2.2.2.2.1,a.2.2.2.2.2.2.2.2.2.2.1,a.2.2.2.2.2.2.2.2.2.2.2] k) 1) a.2.2.2.2.2.2.1,(TU (neq l 7) (SF .i64 (Oe [a.1,a.2.1,a.2.2.1,a.2.2.2.1,a.2.2.2.2.1,a.2.2.2.2.2.1,a.2.2.2.2.2.2.1,a.2.2.2.2.2.2.2.1,a.2.2.2.2.2.2.2.2.1,a.2.2.2.2.2.2.2.2.2.1,a.2.2.2.2.2.2.2.2.2.2.1,a.2.2.2.2.2.2.2.2.2.2.2] k) 1) a.2.2.2.2.2.2.2.1,(TU (neq l 8) (SF .i64 (Oe [a.1,a.2.1,a.2.2.1,a.2.2.2.1,a.2.2.2.2.1,a.2.2.2.2.2.1,a.2.2.2.2.2.2.1,a.2.2.2.2.2.2.2.1,a.2.2.2.2.2.2.2.2.1,a.2.2.2.2.2.2.2.2.2.1,a.2.2.2.2.2.2.2.2.2.2.1,a.2.2.2.2.2.2.2.2.2.2.2] k) 1) a.2.2.2.2.2.2.2.2.1,(TU (neq l 9) (SF .i64 (Oe [a.1,a.2.1,a.2.2.1,a.2.2.2.1,a.2.2.2.2.1,a.2.2.2.2.2.1,a.2.2.2.2.2.2.1,a.2.2.2.2.2.2.2.1,a.2.2.2.2.2.2.2.2.1,a.2.2.2.2.2.2.2.2.2.1,a.2.2.2.2.2.2.2.2.2.2.1,a.2.2.2.2.2.2.2.2.2.2.2] k) 1) a.2.2.2.2.2.2.2.2.2.1,(TU (neq l 10) (SF .i64 (Oe [a.1,a.2.1,a.2.2.1,a.2.2.2.1,a.2.2.2.2.1,a.2.2.2.2.2.1,a.2.2.2.2.2.2.1,a.2.2.2.2.2.2.2.1,a.2.2.2.2.2.2.2.2.1,a.2.2.2.2.2.2.2.2.2.1,a.2.2.2.2.2.2.2.2.2.2.1,a.2.2.2.2.2.2.2.2.2.2.2] k) 1) a.2.2.2.2.2.2.2.2.2.2.1,TU (neq l 11) (SF .i64 (Oe [a.1,a.2.1,a.2.2.1,a.2.2.2.1,a.2.2.2.2.1,a.2.2.2.2.2.1,a.2.2.2.2.2.2.1,a.2.2.2.2.2.2.2.1,a.2.2.2.2.2.2.2.2.1,a.2.2.2.2.2.2.2.2.2.1,a.2.2.2.2.2.2.2.2.2.2.1,a.2.2.2.2.2.2.2.2.2.2.2] k) 1) a.2.2.2.2.2.2.2.2.2.2.2)))))))))))
end
section
open Go Sv
def VU (s:Th):Int:=if (Ut s).2≠0 then (Ut s).2 else (V1 s (Ut s).1).2.2
def Wy (s:Th):Th:=(V1 s (Ut s).1).1
def bF (s:Th):Int×Bool:=((Ut s).1,(V1 s (Ut s).1).2.1)
def UR:Nat->Th->Th×(List (Int×Bool)×Int)
 | 0,s=>(s,([],0))
 | n+1,s=>if VU s=4 then (s,([],0)) else if VU s≠0 then (s,([],VU s)) else ((UR n (Wy s)).1,(bF s::(UR n (Wy s)).2.1,(UR n (Wy s)).2.2))
theorem Yj {s:Th} : ∀ {l:List Int} {d:Int},VJ s l=some d -> ∃ p q,l=p++d::q/\(WA false (λs j=>(Vh s.1 j,0)) s d).1=true /\ ∀ x∈p,¬ (WA false (λs j=>(Vh s.1 j,0)) s x).1=true
 | [],_,h=>by cases h
 | x::l,d,h=>by
  unfold VJ at h;split at h
  ·rename_i a;cases h;exact ⟨[],l,rfl,a,λ_ h=>by cases h⟩
  ·rename_i a;obtain ⟨p,q,rfl,b,c⟩:=Yj h
   exact ⟨x::p,q,rfl,b,λy hy=>by
    rcases eo.1 hy with rfl | hy
    ·exact a
    ·exact c y hy⟩
theorem Zh {s:Th} (v:VSt s):((Ut s).2=4/\s.2.1=[])\/(Ut s).2=9\/((Ut s).2=0/\(Ut s).1∈Tp 0 s.1.2):=by
 have a:(Tk s).2=0:=Ts.2 v;unfold Ut;rw [if_neg (by simp [a])];by_cases h:Tp 0 s.1.2=[]
 ·rw [if_pos h];refine .inl ⟨rfl,?_⟩;have:=v.due;rw [h] at this;simpa using this
 ·rw [if_neg h];cases hc:VJ s (Tp 0 s.1.2) with
  | none=>exact .inr (.inl rfl)
  | some d =>
   obtain ⟨p,q,e,_⟩:=Yj hc;exact .inr (.inr ⟨rfl,by rw [e];simp⟩)
theorem iW (s:Th) (j:Job):(Xf s j).2.2≠4:=by
 unfold Xf;split
 ·simp
 ·split
  ·simp
  ·unfold ZD;split
   ·simp
   ·split<;>simp
theorem kX {s:Th} (v:VSt s) {d:Int} (h:d∈Tp 0 s.1.2):(V1 s d).2.2≠4:=by
 have b:(Tk s).2=0:=Ts.2 v;obtain ⟨j,n,a,_⟩:=v.atDue h;unfold V1;rw [if_neg (by simp [b]),a];exact iW s j
theorem ZQ {s0 s:Th} (g:Gd s0 s):Uz s=some (Ut s)/\Yn s=some (Ut s):=⟨pJ g.1.sm,iM g.1.sm⟩
theorem bU {s0 s:Th} (g:Gd s0 s) (d:Int):Ur (s,d)=some (V1 s d)/\Yo (s,d)=some (V1 s d) :=
 ⟨cL g.1.sm (Yi g.2.2) d,iN g.1.sm (Yi g.2.2) d⟩
theorem dX {s0 s:Th} (g:Gd s0 s) (e:VU s=0):(Ut s).2=0/\(Ut s).1∈Tp 0 s.1.2/\(V1 s (Ut s).1).2.2=0:=by
 unfold VU at e;rcases Zh g.1 with h | h | h
 ·rw [if_pos (by rw [h.1];decide),h.1] at e;cases e
 ·rw [if_pos (by rw [h];decide),h] at e;cases e
 ·rw [if_neg (by simp [h.1])] at e;exact ⟨h.1,h.2,e⟩
theorem WU {s0 s:Th} (g:Gd s0 s) (e:VU s=0) : ∃ (n:Nat) (j:Job),(bF s).1=(n:Int)/\n<12/\JobAt s.1 n j/\Vh s.1 j=true/\StepF s n j (Wy s) (bF s).2/\Gd s0 (Wy s):=by
 obtain ⟨_,a,b⟩:=dX g e;exact fG g a b
theorem dY {s0 s:Th} (g:Gd s0 s) (e:VU s=4):(Ut s).2=4/\s.2.1=[]:=by
 unfold VU at e;rcases Zh g.1 with h | h | h
 ·exact h
 ·rw [if_pos (by rw [h];decide),h] at e;cases e
 ·rw [if_neg (by simp [h.1])] at e;exact absurd e (kX g.1 h.2)
theorem Zy {s0 s:Th} {N:Nat} (g:Gd s0 s) (a:UB s.1.2.flatten<=N) (e:VU s=0):YB N (Wy s)+1<=YB N s/\UB (Wy s).1.2.flatten<=N:=by
 obtain ⟨n,j,_,d,c,_,F,_⟩:=WU g e;refine ⟨kF g.1 a d c F,?_⟩;by_cases b:0<UA s.1 j
 ·rw [(F.read b).2.1];exact a
 ·rw [(F.inst (by omega)).2.1];exact s8 (dC g.1 (Yi g.2.2) c b) a
theorem Yc {s0:Th} {N:Nat} : ∀ {n:Nat} {s:Th},Gd s0 s->UB s.1.2.flatten<=N->(UR n s).2.1.length<=n/\(UR n s).2.1.length+YB N (UR n s).1<=YB N s/\Gd s0 (UR n s).1/\UB (UR n s).1.1.2.flatten<=N/\((UR n s).2.2=0->(UR n s).2.1.length<n->(UR n s).1.2.1=[])
 | 0,s,g,hN=>⟨dc _,by simp [UR],g,hN,λ_ h=>absurd h (by simp [UR])⟩
 | n+1,s,g,hN=>by
  unfold UR;by_cases b:VU s=4
  ·rw [if_pos b];exact ⟨by simp,by simp,g,hN,λ_ _=>(dY g b).2⟩
  ·rw [if_neg b];by_cases a:VU s=0
   ·rw [if_neg (by simp [a])];obtain ⟨_,_,_,_,_,_,_,d⟩:=WU g a;obtain ⟨m,f⟩:=Zy g hN a;obtain ⟨i,o,j,k,l⟩:=Yc (n:=n) d f;refine ⟨by simpa using i,?_,j,k,λc e=>l c (by simpa using e)⟩;simp only [ci];omega
   ·rw [if_pos a];exact ⟨by simp,by simp,g,hN,λc=>absurd c a⟩
theorem bO : ∀ (n m:Nat) (s:Th),UR (n+m) s=if (UR n s).2.2≠0 then UR n s else ((UR m (UR n s).1).1,((UR n s).2.1++(UR m (UR n s).1).2.1,(UR m (UR n s).1).2.2))
 | 0,m,s=>by rw [ee];simp [UR]
 | n+1,m,s=>by
  rw [show n+1+m=(n+m)+1 by omega];have d:=bO n m (Wy s);simp only [UR];by_cases a:VU s=4
  ·simp only [a,if_true];cases m with
   | zero=>simp [UR]
   | succ m=>simp [UR,a]
  ·simp only [a,if_false];by_cases b:VU s=0
   ·simp only [b,ne_eq,not_true_eq_false,if_false];rw [d];by_cases c:(UR n (Wy s)).2.2=0
    ·simp [c]
    ·simp [c]
   ·simp [b]
def te (u:eJ) (x:Int×Bool):eJ:=(SF .i64 u.1 1,(u.2.1,(if x.2=true then SF .i64 u.2.2.1 1 else u.2.2.1,zh u.2.2.2 x.1.toNat x.1.toNat)))
def qQ (u:eJ) (l:List (Int×Bool)):eJ:=l.foldl te u
end
section
open Go Sv
theorem pK {α β γ:Type} {f:α->Option (LR α β)} {K:β->Option γ} {R:Option γ} (Inv:α->Prop) (Q:β->Prop) (m:α->Nat) {s:α} (hs:Inv s) (b:m s<18446744073709551616)
  (step : ∀ s,Inv s->(∃ s',f s=some (.nx s')/\Inv s'/\m s'<m s)\/(∃ x,f s=some (.dn x)/\Q x)) (a : ∀ x,Q x->K x=R):bd (loop f s) K=R:=by
 obtain ⟨x,e,q⟩:=SM Inv Q m hs b step;rw [e];exact a x q
theorem pL {β:Type} (n:Nat) (x y:Unit->Option β):br (neq n 0) x y=if n=0 then x () else y ():=by
 rw [Sy]
def Zc (s:Th) (g:Int):Int:=if (Tk s).2≠0 then (Tk s).2 else if g<0\/g>1000000 then 7 else 0
theorem qd {s0 s:Th} (g:Gd s0 s):VU s=4/\(Ut s).2=4\/VU s≠4/\VU s≠0/\(Ut s).2≠4/\((Ut s).2=VU s\/(Ut s).2=0/\(V1 s (Ut s).1).2.2=VU s)\/VU s=0/\(Ut s).2=0/\(V1 s (Ut s).1).2.2=0:=by
 by_cases a:VU s=4
 ·exact .inl ⟨a,(dY g a).1⟩
 ·by_cases b:VU s=0
  ·have:=dX g b;exact .inr (.inr ⟨b,this.1,this.2.2⟩)
  ·refine .inr (.inl ⟨a,b,?_⟩);unfold VU at a b ⊢;by_cases c:(Ut s).2≠0
   ·rw [if_pos c] at a ⊢;exact ⟨a,.inl rfl⟩
   ·have d:(Ut s).2=0:=by simpa using c
    rw [if_neg c];rw [d];exact ⟨by decide,.inr ⟨rfl,rfl⟩⟩
theorem zN {u:eJ} {x:Int×Bool} (h:0<=u.1/\u.1<=1000000):(te u x).1=u.1+1:=by
 show SF .i64 u.1 1=_;exact Sh (by omega)
def At (s0:Th) (g:Int) (T:Th×((List Int×eJ)×Int)) (k:Nat) (s:Th) (l:List Int) (u:eJ):Prop:=Gd s0 s/\0<=u.1/\u.1+k=g/\g<=1000000/\(l.length:Int)=u.1/\T=((UR k s).1,((l++(UR k s).2.1.map (·.1),qQ u (UR k s).2.1),(UR k s).2.2))
theorem At.step {s0 s:Th} {g:Int} {T:Th×((List Int×eJ)×Int)} {k:Nat} {l:List Int} {u:eJ} (a:At s0 g T (k+1) s l u) (e:VU s=0):At s0 g T k (Wy s) (l++[(bF s).1]) (te u (bF s)):=by
 obtain ⟨c,h,i,d,j,f⟩:=a;obtain ⟨_,_,_,_,_,_,_,b⟩:=WU c e;have m:=zN (x:=bF s) (show 0<=u.1/\u.1<=1000000 by omega);refine ⟨b,by omega,by omega,d,by simp;omega,?_⟩;rw [f];simp only [UR,e,ne_eq,not_true_eq_false,if_false,li,List.append_assoc,List.cons_append,nP];rfl
theorem At.none {s0 s:Th} {g:Int} {T:Th×((List Int×eJ)×Int)} {k:Nat} {l:List Int} {u:eJ} (a:At s0 g T k s l u) (e:VU s=4):T=(s,((l,u),0)):=by
 rw [a.2.2.2.2.2];cases k<;>simp [UR,e,qQ]
theorem At.fail {s0 s:Th} {g:Int} {T:Th×((List Int×eJ)×Int)} {k:Nat} {l:List Int} {u:eJ} (a:At s0 g T (k+1) s l u) (c:VU s≠4) (b:VU s≠0):T=(s,((l,u),VU s)):=by
 rw [a.2.2.2.2.2];simp [UR,c,b,qQ]
theorem At.last {s0 s:Th} {g:Int} {T:Th×((List Int×eJ)×Int)} {l:List Int} {u:eJ} (a:At s0 g T 0 s l u):T=(s,((l,u),0)):=by
 rw [a.2.2.2.2.2];simp [UR,qQ]
theorem jc {s:Th} {g:Int} (h:(Tk s).2≠0):Zc s g=(Tk s).2:=if_pos h
theorem c0 {s:Th} {g:Int} (a:(Tk s).2=0) (h:g<0\/g>1000000):Zc s g=7:=by unfold Zc;rw [if_neg (by simp [a]),if_pos h]
theorem aj {s:Th} {g:Int} (a:(Tk s).2=0) (h : ¬ (g<0\/g>1000000)):Zc s g=0:=by unfold Zc;rw [if_neg (by simp [a]),if_neg h]
end
section
open Go Sv
def wO (s:Th):Int×(List (List UJ)×(List Job×Int)):=(s.1.1,(s.1.2,s.2))
end
end Go.Proofs.YtfipnhjfbebeiabGreatDoor.Pl
