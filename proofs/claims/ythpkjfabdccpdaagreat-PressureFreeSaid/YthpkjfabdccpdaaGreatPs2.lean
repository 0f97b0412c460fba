/- A part of the evaluator over typed open values for any program, and of the proof that it is sound. No condition. -/
import Derived.Test.YthpkjfabdccpdaaGreatPs1
set_option linter.all false
namespace Go.Proofs.YthpkjfabdccpdaaGreat.Sv
open Go.Proofs.YthpkjfabdccpdaaGreat.Pi (PV T Hp Blk DF UM PE Au A8 AM BO By)
section
variable {X Y:Cx} {b:Nat}
mutual
theorem VR.lowOf : ∀ {v:V} {p q:PV},VR (X.low b) v p->VR Y v q->VR (Y.low b) v q
 | .bool _,_,_,_,h | .int _ _,_,_,_,h | .str _,_,_,_,h | .nilp,_,_,_,h | .nils,_,_,_,h | .nilm,_,_,_,h | .nilf,_,_,_,h | .nili,_,_,_,h=>by
  simp only [VR] at h ⊢;exact h
 | .agg cs,_,_,k,h=>by
  simp only [VR] at h k ⊢;obtain ⟨ps,h1,h2⟩:=h;obtain ⟨qs,k1,k2⟩:=k;exact ⟨ps,h1,VRL.lowOf k2 h2⟩
 | .tup cs,_,_,k,h=>by
  simp only [VR] at h k ⊢;obtain ⟨ps,h1,h2⟩:=h;obtain ⟨qs,k1,k2⟩:=k;exact ⟨ps,h1,VRL.lowOf k2 h2⟩
 | .lf full g c l,_,_,_,h=>by
  simp only [VR] at h ⊢;exact h
 | .exl full es,_,_,_,h=>by simp only [VR] at h ⊢;exact h
 | .ow id,p,q,k,h=>by
  simp only [VR] at h k ⊢;by_cases hb:id<b
  ·rw [Cx.low_eq hb];exact h
  ·rw [Cx.low_ge hb] at k;exact k.elim
 | .own id off len,_,_,k,h=>by
  simp only [VR] at h k ⊢;obtain ⟨pid,n,h1,h2⟩:=h;obtain ⟨_,_,k1,_⟩:=k;by_cases hb:id<b
  ·exact ⟨pid,n,by rw [Cx.low_eq hb];exact h1,h2⟩
  ·rw [Cx.low_ge hb] at k1;cases k1
 | .ptr id off,_,_,k,h=>by
  simp only [VR] at h k ⊢;obtain ⟨pid,n,h1,h2⟩:=h;obtain ⟨_,_,k1,_⟩:=k;by_cases hb:id<b
  ·exact ⟨pid,n,by rw [Cx.low_eq hb];exact h1,h2⟩
  ·rw [Cx.low_ge hb] at k1;cases k1
 | .ept id i off,_,_,k,h=>by
  simp only [VR] at h k ⊢;obtain ⟨pid,n,h1,h2⟩:=h;obtain ⟨_,_,k1,_⟩:=k;by_cases hb:id<b
  ·exact ⟨pid,n,by rw [Cx.low_eq hb];exact h1,h2⟩
  ·rw [Cx.low_ge hb] at k1;cases k1
 | .view cs,_,_,k,h=>by
  simp only [VR] at h k ⊢;rcases h with h | ⟨pid,i,off,es,ex,fz,e,h1,h2,h3,h4,h5⟩
  ·exact .inl h
  ·refine .inr ⟨pid,i,off,es,ex,fz,e,h1,h2,h3,h4,?_⟩;rcases k with ⟨ps,k1,k2⟩ | ⟨_,_,_,_,_,_,_,_,_,_,_,k5⟩
   ·exact VRL.lowOf (k2.mono (Up.pure _)) h5
   ·exact VRL.lowOf k5 h5
 | .pl _ _ _,_,_,_,h=>by simp only [VR] at h ⊢;exact h
 | .pv _,_,_,_,h=>by simp only [VR] at h ⊢;exact h
 | .fn f a c,_,_,k,h=>by
  simp only [VR] at h k ⊢;obtain ⟨a',b',h1,h2,h3⟩:=h;obtain ⟨a'',b'',k1,k2,k3⟩:=k;exact ⟨a',b',h1,VRL.lowOf k2 h2,VRL.lowOf k3 h3⟩
 | .yl id,_,_,k,h=>by
  simp only [VR] at h k ⊢;obtain ⟨pid,n,h1,h2⟩:=h;obtain ⟨_,_,k1,_⟩:=k;by_cases hb:id<b
  ·exact ⟨pid,n,by rw [Cx.low_eq hb];exact h1,h2⟩
  ·rw [Cx.low_ge hb] at k1;cases k1
 | .ifc t v,_,_,k,h=>by
  simp only [VR] at h k ⊢;obtain ⟨q,h1,h2⟩:=h;obtain ⟨q',k1,k2⟩:=k;exact ⟨q,h1,VR.lowOf k2 h2⟩
 | .mp id,_,_,k,h=>by
  simp only [VR] at h k ⊢;obtain ⟨pid,n,h1,h2⟩:=h;obtain ⟨_,_,k1,_⟩:=k;by_cases hb:id<b
  ·exact ⟨pid,n,by rw [Cx.low_eq hb];exact h1,h2⟩
  ·rw [Cx.low_ge hb] at k1;cases k1
theorem VRL.lowOf : ∀ {vs:List V} {ps qs:List PV},VRL (X.low b) vs ps->VRL Y vs qs->VRL (Y.low b) vs qs
 | [],_,_,_,h=>by simp only [VRL] at h ⊢;exact h
 | v::vs,_,_,k,h=>by
  obtain ⟨p,ps,rfl,h1,h2⟩:=h.cons_inv;obtain ⟨q,qs,rfl,k1,k2⟩:=k.cons_inv;exact .cons (VR.lowOf k1 h1) (VRL.lowOf k2 h2)
end
end
structure KH (X:Cx) (h0:H) (n:Nat):Prop where
 blk : ∀ i c,h0.get i=some c->i<n/\c.live/\BR (X.low n) c (X.π i)
 inj : ∀ i i' c c' p m m',h0.get i=some c->h0.get i'=some c'->X.π i=some (.blk p m)->X.π i'=some (.blk p m')->i=i'
theorem Me {t:T V} : ∀ {l:List Nat} {k:Nat} {v:V},(∀ i∈l,i<1048575)->(Di t l).get k=some v->k∈l/\t.get k=some v
 | [],k,v,_,e=>by cases e
 | i::l,k,v,hl,e=>by
  have h20:(2:Nat) ^ 20-1=1048575:=by decide
  have hi:=hl i (by simp)
  have ih:(Di t l).get k=some v->k∈i::l/\t.get k=some v:=λe=>by
   obtain ⟨h1,h2⟩:=Me (λj hj=>hl j (by simp [hj])) e;exact ⟨by simp [h1],h2⟩
  unfold Di at e;split at e
  ·rename_i w hw;rw [T.get_put 20 _ _ _ _ (by omega)] at e;by_cases hk:k=i
   ·rw [if_pos hk] at e;cases e;subst hk;exact ⟨by simp,hw⟩
   ·rw [if_neg hk] at e;exact ih e
  ·exact ih e
theorem G9 {h:H} {f:BA->BA} : ∀ {l:List Nat} {k:Nat} {c:BA},(∀ i∈l,i<1048575)->(Dj h f l).get k=some c->k∈l /\ ∃ d,h.get k=some d/\c=f d/\d.live
 | [],k,v,_,e=>by cases e
 | i::l,k,c,hl,e=>by
  have h20:(2:Nat) ^ 20-1=1048575:=by decide
  have hi:=hl i (by simp)
  have ih:(Dj h f l).get k=some c->k∈i::l /\ ∃ d,h.get k=some d/\c=f d/\d.live:=λe=>by
   obtain ⟨h1,h2⟩:=G9 (λj hj=>hl j (by simp [hj])) e;exact ⟨by simp [h1],h2⟩
  unfold Dj at e;split at e
  ·exact ih e
  ·rename_i w hne hw;rw [T.get_put 20 _ _ _ _ (by omega)] at e;by_cases hk:k=i
   ·rw [if_pos hk] at e;cases e;subst hk;exact ⟨by simp,w,hw,rfl,by cases w<;>first | exact absurd rfl hne | trivial⟩
   ·rw [if_neg hk] at e;exact ih e
  ·exact ih e
structure Lay (X Y:Cx) (n:Nat) (h1:H) (n1:Nat):Prop where
 h:Y.h=X.h
 o:Y.O=X.O
 pi : ∀ i,i<n->Y.π i=X.π i
 none : ∀ i,n1<=i->Y.π i=none
 le:n<=n1
theorem Lay.up {X Y:Cx} {n n1:Nat} {h1:H} (l:Lay X Y n h1 n1):Up (X.low n) Y:=by
 refine ⟨λi a hi => ?_,?_⟩
 ·by_cases hb:i<n
  ·rw [Cx.low_eq hb] at hi;rw [l.pi i hb];exact hi
  ·rw [Cx.low_ge hb] at hi;cases hi
 ·show Rows X.h Y.h _ _;rw [l.h];intro pid es ex fz h k;exact ⟨⟨fz,k⟩,λhO=>h (l.o ▸ hO)⟩
end Go.Proofs.YthpkjfabdccpdaaGreat.Sv
namespace Go.Proofs.YthpkjfabdccpdaaGreat.Sv
open Go.Proofs.YthpkjfabdccpdaaGreat.Pi (PV T Hp Blk DF UM PE Au A8 AM BO By)
theorem BR.live_blk {X:Cx} {c:BA} {a:Option At} (h:BR X c a) (hl:c.live) : ∃ t,a=some t:=by
 cases c with
 | box=>obtain ⟨_,_,_,_,h,_⟩:=h;exact ⟨_,h⟩
 | row=>rcases h with ⟨_,_,_,_,h,_⟩ | ⟨h,_⟩ | ⟨_,h,_⟩<;>exact ⟨_,h⟩
 | mp=>obtain ⟨_,_,_,h,_⟩:=h;exact ⟨_,h⟩
 | lp=>obtain ⟨_,_,_,_,_,h,_⟩:=h;exact ⟨_,h⟩
 | df=>obtain ⟨_,_,_,h,_⟩:=h;exact ⟨_,h⟩
 | dead=>exact hl.elim
structure LInv (X:Cx) (h:H) (nx0:Nat) (Y:Cx) (S:List Nat) (hc:H) (nc:Nat):Prop where
 hh:Y.h=X.h
 oo:Y.O=X.O
 lo : ∀ i,i<nx0->Y.π i=X.π i
 hi : ∀ i,nc<=i->Y.π i=none
 le:nx0<=nc
 blk : ∀ i c,hc.get i=some c->BR Y c (Y.π i)/\i<nc
 inj : ∀ i i' c c' p m m',hc.get i=some c->hc.get i'=some c'->Y.π i=some (.blk p m)->Y.π i'=some (.blk p m')->i=i'
 src : ∀ i c p m,hc.get i=some c->Y.π i=some (.blk p m) -> ∃ j∈S,∃ d m',h.get j=some d/\d.live/\X.π j=some (.blk p m')
section
variable {X Y:Cx} {h hc:H} {n nx0 nc:Nat} {S:List Nat} {β:Type} {x:β}
theorem fX {Y Z:Cx} (h:Y.h=X.h) (o:Y.O=X.O) (h':Z.h=X.h) (o':Z.O=X.O) (p : ∀ i a,Y.π i=some a->Z.π i=some a):Up Y Z:=by
 refine ⟨p,?_⟩;show Rows Y.h Z.h _ _;rw [h,h'];intro pid es ex fz k1 k2;exact ⟨⟨fz,k2⟩,λhO=>k1 (by rw [o];rw [o'] at hO;exact hO)⟩
theorem LInv.row (L:LInv X h nx0 Y S hc nc) (r:RH X h n) (hnc:nc<1048575) {g:Bool} {c:Ty} {l:List c.den} {ex:Bool} {a:At}
  (ha:(a = .nil/\l=[]/\ex=false) \/ ∃ j,j ∉ S/\h.get j=some (.row g c l ex false false)/\X.π j=some a) {J:List Nat} (hJ : ∀ j,h.get j=some (.row g c l ex false false)->X.π j=some a->j ∉ S->(∃ p m,a = .blk p m)->j∈J) :
  ∃ Z:Cx,Z.π nc=some a/\Up Y Z/\LInv X h nx0 Z (J++S) (Ad hc nc (.row g c l ex false false)) (nc+1):=by
 let Z:Cx:={ π:=Sv.HX Y.π nc (some a),h:=Y.h,O:=Y.O }
 have hp : ∀ i,i≠nc->Z.π i=Y.π i:=λi hi=>if_neg hi;have Hk:Z.π nc=some a:=if_pos rfl
 have u:Up Y Z:=fX (X:=Y) rfl rfl rfl rfl λi b hi=>by
  rw [hp i (by intro hh;subst hh;rw [L.hi _ (Nat.le_refl _)] at hi;cases hi)];exact hi
 have hbr:BR Z (.row g c l ex false false) (some a):=by
  rcases ha with ⟨h1,h2,h3⟩ | ⟨j,_,h2,h3⟩
  ·subst h1;subst h2;subst h3;exact .inr (.inl ⟨rfl,rfl,rfl⟩)
  ·have:=r.blk _ _ h2;rw [h3] at this
   have u0:Rows X.h Z.h X.Q Z.Q:=by
    show Rows X.h Y.h X.Q _;rw [L.hh];intro pid es ex fz k1 k2;exact ⟨⟨fz,k2⟩,λhO=>k1 (by rw [<- L.oo];exact hO)⟩
   rcases this with ⟨pid,len,es,fz',p1,p2,p3,p4,p5,p7,p6⟩ | q | q
   ·exact .inl ⟨pid,len,es,fz',p1,by show Y.O pid;rw [L.oo];exact p2,by show Y.h.get pid=_;rw [L.hh];exact p3,p4,p5,p7,p6.mono λ_ _ k=>k.mono λ_ _ k=>DR.mono u0 k⟩
   ·exact .inr (.inl q)
   ·exact .inr (.inr q)
 have hsrc : ∀ p m,a = .blk p m -> ∃ j,j ∉ S/\j∈J /\ ∃ d m',h.get j=some d/\d.live/\X.π j=some (.blk p m'):=λp m he=>by
  rcases ha with ⟨h1,_⟩ | ⟨j,h1,h2,h3⟩
  ·rw [he] at h1;cases h1
  ·exact ⟨j,h1,hJ j h2 h3 h1 ⟨p,m,he⟩,_,m,h2,trivial,he ▸ h3⟩
 refine ⟨Z,Hk,u,L.hh,L.oo,λi hi=>by rw [hp i (by have:=L.le;omega)];exact L.lo i hi,λi hi=>by rw [hp i (by omega)];exact L.hi i (by omega),by have:=L.le;omega,λi c' hi => ?_,λi i' c1 c2 p m m' hi hi' a1 a2 => ?_,λi c' p m hi a1 => ?_⟩
 ·rw [Al hnc] at hi;by_cases hii:i=nc
  ·rw [if_pos hii] at hi;cases hi;subst hii;rw [Hk];exact ⟨hbr,by omega⟩
  ·rw [if_neg hii] at hi;obtain ⟨b1,b2⟩:=L.blk i c' hi;rw [hp i hii];exact ⟨b1.keep u λpid m _ hO=>⟨rfl,hO⟩,by omega⟩
 ·rw [Al hnc] at hi hi'
  have clash : ∀ {i:Nat} {c1:BA} {m1 m2:Nat},i≠nc->hc.get i=some c1->Y.π i=some (.blk p m1)->a = .blk p m2->False:=λhii hg hy he=>by
   obtain ⟨j,j1,_,d,m3,j2,j3,j4⟩:=hsrc p _ he;obtain ⟨j',k1,d',m4,k2,k3,k4⟩:=L.src _ _ _ _ hg hy;have:=r.inj _ _ _ _ _ _ _ j2 k2 j3 k3 j4 k4;subst this;exact j1 k1
  by_cases h1:i=nc
  ·by_cases h2:i'=nc
   ·rw [h1,h2]
   ·rw [if_neg h2] at hi';rw [h1,Hk] at a1;rw [hp i' h2] at a2;exact (clash h2 hi' a2 (Option.some.inj a1)).elim
  ·rw [if_neg h1] at hi;by_cases h2:i'=nc
   ·rw [h2,Hk] at a2;rw [hp i h1] at a1;exact (clash h1 hi a1 (Option.some.inj a2)).elim
   ·rw [if_neg h2] at hi';rw [hp i h1] at a1;rw [hp i' h2] at a2;exact L.inj _ _ _ _ _ _ _ hi hi' a1 a2
 ·rw [Al hnc] at hi;by_cases hii:i=nc
  ·rw [hii,Hk] at a1;obtain ⟨j,_,j1,d,m',j2,j3,j4⟩:=hsrc p m (Option.some.inj a1);exact ⟨j,List.mem_append_left _ j1,d,m',j2,j3,j4⟩
  ·rw [if_neg hii] at hi;rw [hp i hii] at a1;obtain ⟨j,j1,d,m',j2,j3,j4⟩:=L.src i c' p m hi a1;exact ⟨j,List.mem_append_right _ j1,d,m',j2,j3,j4⟩
theorem LInv.put (L:LInv X h nx0 Y S hc nc) (r:RH X h n) {i:Nat} (hi0:i<nx0) (hib:i<1048575) {c d:BA} (hd:h.get i=some d) (hl:d.live) (hS:i ∉ S) (hb:BR Y c (X.π i)) :
  LInv X h nx0 Y (i::S) (Ad hc i c) nc:=by
 obtain ⟨t,ht⟩:=(r.blk _ _ hd).live_blk hl;have hy:Y.π i=X.π i:=L.lo i hi0
 have clash : ∀ {k:Nat} {c1:BA} {p m1 m2:Nat},hc.get k=some c1->Y.π k=some (.blk p m1)->X.π i=some (.blk p m2)->False:=λhg hyk he=>by
  obtain ⟨j',k1,d',m4,k2,k3,k4⟩:=L.src _ _ _ _ hg hyk;have:=r.inj _ _ _ _ _ _ _ hd k2 hl k3 he k4;subst this;exact hS k1
 refine ⟨L.hh,L.oo,L.lo,L.hi,L.le,λk c' hk => ?_,λk k' c1 c2 p m m' hk hk' a1 a2 => ?_,λk c' p m hk a1 => ?_⟩
 ·rw [Al hib] at hk;by_cases hki:k=i
  ·rw [if_pos hki] at hk;cases hk;subst hki;rw [hy];exact ⟨hb,by have:=L.le;omega⟩
  ·rw [if_neg hki] at hk;exact L.blk k c' hk
 ·rw [Al hib] at hk hk';by_cases h1:k=i
  ·by_cases h2:k'=i
   ·rw [h1,h2]
   ·rw [if_neg h2] at hk';rw [h1,hy] at a1;exact (clash hk' a2 a1).elim
  ·rw [if_neg h1] at hk;by_cases h2:k'=i
   ·rw [h2,hy] at a2;exact (clash hk a1 a2).elim
   ·rw [if_neg h2] at hk';exact L.inj _ _ _ _ _ _ _ hk hk' a1 a2
 ·rw [Al hib] at hk;by_cases hki:k=i
  ·rw [hki,hy] at a1;exact ⟨i,by simp,d,m,hd,hl,a1⟩
  ·rw [if_neg hki] at hk;obtain ⟨j,j1,rest⟩:=L.src k c' p m hk a1;exact ⟨j,by simp [j1],rest⟩
theorem ON (r:RH X h n) {g:Bool} {c:Ty} {ex:Bool} {v:V} {p:PV} {K:List c.den->Option β} (hv:VR X v p) (e:SJ h g c ex v K=some x) :
  ∃ l a,K l=some x/\((a = .nil/\l=[]/\ex=false/\E8 v=[]) \/ ∃ j,E8 v=[j]/\h.get j=some (.row g c l ex false false)/\X.π j=some a) /\ ∀ (Z:Cx) (i:Nat),Z.π i=some a->VR Z (.ow i) p:=by
 unfold SJ at e;split at e
 ·replace e:=C4 e;obtain ⟨hx,e⟩:=e;subst hx;simp only [VR] at hv;subst hv;exact ⟨[],.nil,e,.inl ⟨rfl,rfl,rfl,rfl⟩,λZ i hz=>by simp only [VR,hz]⟩
 ·rename_i id;split at e
  ·rename_i g' c' l ex' hg;replace e:=A3 e;obtain ⟨hb,e⟩:=e;simp only [Bool.and_eq_true] at hb;have:=eq_of_beq hb.1;subst this;have:=eq_of_beq hb.2;subst this;replace e:=Ck e;obtain ⟨hc,e⟩:=e;subst hc;simp only [VR] at hv;cases hp:X.π id with
   | none=>rw [hp] at hv;exact hv.elim
   | some a =>
    rw [hp] at hv;refine ⟨l,a,e,.inr ⟨id,rfl,hg,hp⟩,λZ i hz => ?_⟩;simp only [VR,hz];exact hv
  ·cases e
 ·cases e
theorem ZD (r:RH X h n) {g:Bool} {c:Ty} {v:V} {p:PV} {K:List c.den×Nat->Option β} (hv:VR X v p) (e:Yu h g c v K=some x) :
  ∃ l len j pid m,K (l,len)=some x/\Yv v=[j]/\h.get j=some (.row g c l true false false)/\X.π j=some (.blk pid m)/\p = .own pid 0 len:=by
 unfold Yu at e;split at e
 ·rename_i j off len;split at e
  ·rename_i g' c' l hg;replace e:=A3 e;obtain ⟨hb,e⟩:=e;simp only [Bool.and_eq_true] at hb;have:=eq_of_beq hb.1;subst this;have:off=0:=by simpa using hb.2
   subst this;replace e:=Ck e;obtain ⟨hc,e⟩:=e;subst hc;simp only [VR] at hv;obtain ⟨pid,m,hp,rfl⟩:=hv;exact ⟨l,len,j,pid,m,e,rfl,hg,hp,rfl⟩
  ·cases e
 ·cases e
theorem LInv.dr (L:LInv X h nx0 Y S hc nc) {c:Ty} {y:c.den} {ps:List PV} (d:DR X.h X.Q c y ps):DR Y.h Y.Q c y ps:=by
 have hq:Y.Q=X.Q:=by unfold Cx.Q;rw [L.oo]
 rw [L.hh,hq];exact d
theorem Py {c:Ty} {vs:List V} {ps:List PV} {K:c.den->List V->Option β} (hv:VRL X vs ps) (e:IF .lf c vs K=some x) :
  ∃ y p q,K y (vs.drop c.wd)=some x/\ps=p++q/\DR X.h X.Q c y p/\VRL X (vs.drop c.wd) q:=by
 obtain ⟨y,r,p,q,h1,h2,h3,h4,s,h5⟩:=G4 (Q:=X.Q) (λ_ _ _ h=>(by cases h)) (λ_ _ _ _ _ h=>(by cases h)) (λ_ h=>h) hv e
 have hr:vs.drop c.wd=r:=by
  have l1:=hv.length;have l2:=h4.length;have l3:=h3.same.wd;subst h5;subst h2;simp only [List.length_append] at l1;rw [List.drop_append_of_le_length (by omega),List.drop_of_length_le (by omega),List.nil_append]
 rw [hr];exact ⟨y,p,q,h1,h2,h3.same,h4⟩
theorem LInv.perm (L:LInv X h nx0 Y S hc nc) {S':List Nat} (hs : ∀ j,j∈S<->j∈S'):LInv X h nx0 Y S' hc nc :=
 ⟨L.hh,L.oo,L.lo,L.hi,L.le,L.blk,L.inj,λi c p m h1 h2=>by obtain ⟨j,j1,r⟩:=L.src i c p m h1 h2;exact ⟨j,(hs j).1 j1,r⟩⟩
theorem GQ : ∀ (sg:List Sgm) (hc:H) (nc:Nat) (s:OC sg),nc<=(G0 hc nc sg s).2.2
 | [],hc,nc,s=>Nat.le_refl _
 | [.lf c],hc,nc,s=>Nat.le_refl _
 | [.ow g c ex],hc,nc,s=>Nat.le_succ _
 | .lf c::q::r,hc,nc,s=>GQ (q::r) hc nc s.2
 | .ow g c ex::q::r,hc,nc,s=>Nat.le_trans (Nat.le_succ _) (GQ (q::r) _ (nc+1) s.2)
 | [.kp id],hc,nc,s=>Nat.le_refl _
 | .kp id::q::r,hc,nc,s=>GQ (q::r) hc nc s.2
theorem gj {id j:Nat} {p:PV} (L:LInv X h nx0 Y S hc nc) (hv:VR X (.ow j) p) (hj:Nat.beq j id=true) (hid:Nat.blt id nx0=true):VR Y (.ow id) p:=by
 have:=Nat.eq_of_beq_eq_true hj;subst this;have hl:=L.lo j (Nat.le_of_ble_eq_true hid);simp only [VR] at hv ⊢;rw [hl];exact hv
theorem Ly (r:RH X h n) : ∀ {sg:List Sgm} {cs:List V} {ps:List PV} {K:OC sg->Option β},OE nx0 sg=true->VRL X cs ps->JA h sg cs K=some x ->
  ∃ s,K s=some x /\ ∀ {Y:Cx} {S:List Nat} {hc:H} {nc:Nat},LInv X h nx0 Y S hc nc->(C3 sg cs++S).Nodup->(G0 hc nc sg s).2.2<=1048575 ->
   ∃ Z,Up Y Z/\LInv X h nx0 Z (C3 sg cs++S) (G0 hc nc sg s).2.1 (G0 hc nc sg s).2.2/\VRL Z (G0 hc nc sg s).1 ps
 | [],cs,ps,K,hkp,hv,e=>by
  unfold JA at e;split at e
  ·exact ⟨(),e,λL _ _=>⟨_,Up.refl _,L,by rw [hv.nil_inv];exact .nil⟩⟩
  ·cases e
 | [.lf c],cs,ps,K,hkp,hv,e=>by
  unfold JA at e;obtain ⟨y,p,q,e,rfl,d,hr⟩:=Py hv e;split at e
  ·rename_i hnil;rw [hnil] at hr;refine ⟨y,e,fun {Y S hc nc} L _ _=>⟨Y,Up.refl _,L,?_⟩⟩;rw [hr.nil_inv,List.append_nil];exact HL (L.dr d)
  ·cases e
 | [.ow g c ex],cs,ps,K,hkp,hv,e=>by
  unfold JA at e;split at e
  ·rename_i v;obtain ⟨p,qs,rfl,h1,h2⟩:=hv.cons_inv;obtain ⟨l,a,e1,ha,hz⟩:=ON r h1 e;refine ⟨l,e1,fun {Y S hc nc} L hN hb => ?_⟩;have hsr:C3 [.ow g c ex] [v]=E8 v:=by simp [C3]
   rw [hsr] at hN ⊢;have hb':nc+1<=1048575:=hb
   obtain ⟨Z,z1,z2,z3⟩:=L.row r (g:=g) (c:=c) (l:=l) (ex:=ex) (a:=a) (J:=E8 v) (by omega) (by
    rcases ha with ⟨h1,h2,h3,_⟩ | ⟨j,h1,h2,h3⟩
    ·exact .inl ⟨h1,h2,h3⟩
    ·refine .inr ⟨j,?_,h2,h3⟩;rw [h1] at hN;exact (List.nodup_cons.1 hN).1) (λj h1 h2 h3 h4=>by
    rcases ha with ⟨k1,_⟩ | ⟨j',k1,k2,k3⟩
    ·obtain ⟨_,_,h4⟩:=h4;rw [h4] at k1;cases k1
    ·rw [k1];cases a with
     | blk p m =>
      have:=r.inj _ _ _ _ _ _ _ h1 k2 trivial trivial h2 k3;simp [this]
     | nil=>obtain ⟨_,_,h4⟩:=h4;cases h4
     | fz es=>obtain ⟨_,_,h4⟩:=h4;cases h4)
   exact ⟨Z,z2,z3,.cons (hz Z nc z1) (by rw [h2.nil_inv];exact .nil)⟩
  ·cases e
 | .lf c::q0::rr,cs,ps,K,hkp,hv,e=>by
  unfold JA at e;obtain ⟨y,p,q,e,rfl,d,hr⟩:=Py hv e;obtain ⟨s,e1,hs⟩:=Ly r (sg:=q0::rr) hkp hr e;refine ⟨(y,s),e1,fun {Y S hc nc} L hN hb => ?_⟩;obtain ⟨Z,z1,z2,z3⟩:=hs L hN hb;exact ⟨Z,z1,z2,(HL (z2.dr d)).append z3⟩
 | .ow g c ex::q0::rr,cs,ps,K,hkp,hv,e=>by
  unfold JA at e;split at e
  ·rename_i v cs';obtain ⟨p,qs,rfl,h1,h2⟩:=hv.cons_inv;obtain ⟨l,a,e1,ha,hz⟩:=ON r h1 e;obtain ⟨s,e2,hs⟩:=Ly r (sg:=q0::rr) hkp h2 e1;refine ⟨(l,s),e2,fun {Y S hc nc} L hN hb => ?_⟩;have hsr:C3 (.ow g c ex::q0::rr) (v::cs')=E8 v++C3 (q0::rr) cs':=by simp [C3]
   rw [hsr] at hN ⊢;have hb':(G0 (Ad hc nc (.row g c l ex false false)) (nc+1) (q0::rr) s).2.2<=1048575:=hb;have hmono:nc+1<=1048575:=Nat.le_trans (GQ (q0::rr) _ (nc+1) s) hb';rw [List.append_assoc] at hN
   obtain ⟨Z,z1,z2,z3⟩:=L.row r (g:=g) (c:=c) (l:=l) (ex:=ex) (a:=a) (J:=E8 v) (by omega) (by
    rcases ha with ⟨h1,h2,h3,_⟩ | ⟨j,h1,h2,h3⟩
    ·exact .inl ⟨h1,h2,h3⟩
    ·refine .inr ⟨j,?_,h2,h3⟩;rw [h1] at hN;exact λhj=>(List.nodup_cons.1 hN).1 (by simp [hj])) (λj h1 h2 h3 h4=>by
    rcases ha with ⟨k1,_⟩ | ⟨j',k1,k2,k3⟩
    ·obtain ⟨_,_,h4⟩:=h4;rw [h4] at k1;cases k1
    ·rw [k1];cases a with
     | blk p m =>
      have:=r.inj _ _ _ _ _ _ _ h1 k2 trivial trivial h2 k3;simp [this]
     | nil=>obtain ⟨_,_,h4⟩:=h4;cases h4
     | fz es=>obtain ⟨_,_,h4⟩:=h4;cases h4)
   have hN2:(C3 (q0::rr) cs'++(E8 v++S)).Nodup:=by
    rw [<- List.append_assoc] at hN ⊢;have hp:(E8 v++C3 (q0::rr) cs'++S).Perm (C3 (q0::rr) cs'++E8 v++S):=List.Perm.append_right S List.perm_append_comm;exact hp.nodup_iff.1 hN
   obtain ⟨Z2,w1,w2,w3⟩:=hs z3 hN2 hb';refine ⟨Z2,z2.trans w1,?_,.cons ((hz Z nc z1).mono w1) w3⟩;refine w2.perm λj => ?_;simp only [List.mem_append];constructor
   ·rintro (h | h | h)
    ·exact .inl (.inr h)
    ·exact .inl (.inl h)
    ·exact .inr h
   ·rintro ((h | h) | h)
    ·exact .inr (.inl h)
    ·exact .inl h
    ·exact .inr (.inr h)
  ·cases e
 | [.kp id],cs,ps,K,hkp,hv,e=>by
  unfold JA at e;split at e
  ·rename_i j;replace e:=A3 e;obtain ⟨hj,e⟩:=e;obtain ⟨p,qs,rfl,h1,h2⟩:=hv.cons_inv;refine ⟨(),e,fun {Y S hc nc} L _ _=>⟨Y,Up.refl _,L,.cons (gj L h1 hj ?_) (by rw [h2.nil_inv];exact .nil)⟩⟩;simpa [OE] using hkp
  ·cases e
 | .kp id::q0::rr,cs,ps,K,hkp,hv,e=>by
  unfold JA at e;split at e
  ·rename_i j cs';replace e:=A3 e;obtain ⟨hj,e⟩:=e;obtain ⟨p,qs,rfl,h1,h2⟩:=hv.cons_inv
   have hkp':Nat.blt id nx0=true/\OE nx0 (q0::rr)=true:=by
    have:(Nat.blt id nx0&&OE nx0 (q0::rr))=true:=hkp
    rwa [Bool.and_eq_true] at this
   obtain ⟨s,e1,hs⟩:=Ly r (sg:=q0::rr) hkp'.2 h2 e;refine ⟨((),s),e1,fun {Y S hc nc} L hN hb => ?_⟩;have hsr:C3 (.kp id::q0::rr) (.ow j::cs')=C3 (q0::rr) cs':=rfl;rw [hsr] at hN ⊢;obtain ⟨Z,z1,z2,z3⟩:=hs L hN hb;exact ⟨Z,z1,z2,.cons ((gj L h1 hj hkp'.1).mono z1) z3⟩
  ·cases e
variable {t:T V} {tP:T PV}
def Fu (t:T V) (h:H) (p:Pl):List Nat:=Ce t h [p]
theorem UH (p:Pl) (l:List Pl):Ce t h (p::l)=Fu t h p++Ce t h l:=by
 unfold Fu;cases p<;>simp [Ce]
theorem K6 (tc:T V) (hc:H) (nc:Nat) (p:Pl) (s:p.den):nc<=(FA tc hc nc p s).2.2:=by
 cases p with
 | slot=>exact Nat.le_refl _
 | srow=>exact Nat.le_succ _
 | swin=>exact Nat.le_succ _
 | box id sg=>exact GQ sg hc nc s
 | map=>exact Nat.le_refl _
theorem Ja : ∀ (l:List Pl) (tc:T V) (hc:H) (nc:Nat) (s:DC l),nc<=(Bs tc hc nc l s).2.2
 | [],_,_,_,_=>Nat.le_refl _
 | [p],tc,hc,nc,s=>K6 tc hc nc p s
 | p::q::r,tc,hc,nc,s=>Nat.le_trans (K6 tc hc nc p s.1) (Ja (q::r) _ _ _ s.2)
theorem lM (r:RH X h n) {g:Bool} {c:Ty} {l:List c.den} {ex:Bool} {a:At} {v:V} (ha:(a = .nil/\l=[]/\ex=false/\E8 v=[]) \/ ∃ j,E8 v=[j]/\h.get j=some (.row g c l ex false false)/\X.π j=some a) :
  ∀ j,h.get j=some (.row g c l ex false false)->X.π j=some a->j ∉ S->(∃ p m,a = .blk p m)->j∈E8 v:=λj h1 h2 _ h4=>by
 rcases ha with ⟨k1,_⟩ | ⟨j',k1,k2,k3⟩
 ·obtain ⟨_,_,h4⟩:=h4;rw [h4] at k1;cases k1
 ·rw [k1];cases a with
  | blk p m =>
   have:=r.inj _ _ _ _ _ _ _ h1 k2 trivial trivial h2 k3;simp [this]
  | nil=>obtain ⟨_,_,h4⟩:=h4;cases h4
  | fz es=>obtain ⟨_,_,h4⟩:=h4;cases h4
theorem SV (r:RH X h n) (hn:nx0<=1048575) (ht:TR X t tP) {nt:Nat} (hnt:nt<1048575) {p:Pl} (hsl:CB nt nx0 [p]=true) (hid : ∀ i∈BM [p],i<nx0) {K:p.den->Option β} (e:NO t h p K=some x) :
  ∃ s,K s=some x /\ ∀ {Y:Cx} {S:List Nat} {tc:T V} {hc:H} {nc:Nat},LInv X h nx0 Y S hc nc->TR Y tc tP->(Fu t h p++S).Nodup->(FA tc hc nc p s).2.2<=1048575 ->
   ∃ Z,Up Y Z/\LInv X h nx0 Z (Fu t h p++S) (FA tc hc nc p s).2.1 (FA tc hc nc p s).2.2/\TR Z (FA tc hc nc p s).1 tP:=by
 have put : ∀ {Y:Cx} {tc:T V} {k:Nat} {v:V} {q:PV},TR Y tc tP->k<1048575->tP.get k=some q->VR Y v q->TR Y (T.put 20 tc k v) tP:=by
  intro Y tc k v q hT hk hq hv i w hi;have h20:(2:Nat) ^ 20-1=1048575:=by decide
  rw [T.get_put 20 tc k v i (by omega)] at hi;by_cases hik:i=k
  ·rw [if_pos hik] at hi;cases hi;rw [hik];exact ⟨q,hq,hv⟩
  ·rw [if_neg hik] at hi;exact hT i w hi
 cases p with
 | slot k g c =>
  unfold NO at e;replace e:=AX e;obtain ⟨v,hv,e⟩:=e;obtain ⟨q,hq,hvr⟩:=ht _ _ hv;replace e:=JW hvr e;obtain ⟨y,e,hE⟩:=e
  have hk:k<1048575:=by
   have:k<nt:=by simpa [CB] using hsl
   omega
  refine ⟨y,e,fun {Y S tc hc nc} L hT hN hb=>⟨Y,Up.refl _,?_,?_⟩⟩
  ·exact L
  ·refine put hT hk hq (K3 (X:=Y) ?_);have hQ:Y.Q=X.Q:=by unfold Cx.Q;rw [L.oo]
   rw [L.hh,hQ];exact hE
 | srow k g c ex =>
  unfold NO at e;replace e:=AX e;obtain ⟨v,hv,e⟩:=e;obtain ⟨q,hq,hvr⟩:=ht _ _ hv;obtain ⟨l,a,e1,ha,hz⟩:=ON r hvr e
  have hk:k<1048575:=by
   have:k<nt:=by simpa [CB] using hsl
   omega
  have hsr:Fu t h (.srow k g c ex)=E8 v:=by simp [Fu,Ce,hv]
  refine ⟨l,e1,fun {Y S tc hc nc} L hT hN hb => ?_⟩;rw [hsr] at hN ⊢;have hb':nc+1<=1048575:=hb
  obtain ⟨Z,z1,z2,z3⟩:=L.row r (g:=g) (c:=c) (l:=l) (ex:=ex) (a:=a) (J:=E8 v) (by omega) (by
   rcases ha with ⟨h1,h2,h3,_⟩ | ⟨j,h1,h2,h3⟩
   ·exact .inl ⟨h1,h2,h3⟩
   ·refine .inr ⟨j,?_,h2,h3⟩;rw [h1] at hN
    exact (List.nodup_cons.1 hN).1) (lM r ha)
  exact ⟨Z,z2,z3,put (hT.mono z2) hk hq (hz Z nc z1)⟩
 | swin k g c =>
  unfold NO at e;replace e:=AX e;obtain ⟨v,hv,e⟩:=e;obtain ⟨q,hq,hvr⟩:=ht _ _ hv;obtain ⟨l,len,j,pid,m,e1,hj,hg,hp,rfl⟩:=ZD r hvr e
  have hk:k<1048575:=by
   have:k<nt:=by simpa [CB] using hsl
   omega
  have hsr:Fu t h (.swin k g c)=[j]:=by simp [Fu,Ce,hv,hj]
  refine ⟨(l,len),e1,fun {Y S tc hc nc} L hT hN hb => ?_⟩;rw [hsr] at hN ⊢;have hb':nc+1<=1048575:=hb
  obtain ⟨Z,z1,z2,z3⟩:=L.row r (g:=g) (c:=c) (l:=l) (ex:=true) (a:=.blk pid m) (J:=[j]) (by omega)
   (.inr ⟨j,(List.nodup_cons.1 hN).1,hg,hp⟩) (λj' h1 h2 _ _=>by
    have:=r.inj _ _ _ _ _ _ _ h1 hg trivial trivial h2 hp
    simp [this])
  exact ⟨Z,z2,z3,put (hT.mono z2) hk hq (by simp only [VR];exact ⟨pid,m,z1,rfl⟩)⟩
 | box id sg =>
  simp only [NO] at e;split at e
  ·rename_i cs hg;have hB:=r.blk _ _ hg;obtain ⟨pid,m,ps,fz',b1,b2,b3,b4,b5⟩:=hB;obtain ⟨s,e1,hs⟩:=Ly (nx0:=nx0) r (by simpa [CB] using hsl) b5 e;have hsr:Fu t h (.box id sg)=C3 sg cs++[id]:=by simp [Fu,Ce,hg]
   refine ⟨s,e1,fun {Y S tc hc nc} L hT hN hb => ?_⟩;rw [hsr] at hN ⊢;have hlt:id<nx0:=hid id (by simp [BM])
   have hN1:(C3 sg cs++S).Nodup:=by
    have hp:(C3 sg cs++[id]++S).Perm ([id]++(C3 sg cs++S)):=by
     rw [List.append_assoc];exact List.perm_append_comm_assoc _ _ _
    exact (List.nodup_cons.1 (hp.nodup_iff.1 hN)).2
   have hN2:id ∉ C3 sg cs++S:=by
    have hp:(C3 sg cs++[id]++S).Perm ([id]++(C3 sg cs++S)):=by
     rw [List.append_assoc];exact List.perm_append_comm_assoc _ _ _
    exact (List.nodup_cons.1 (hp.nodup_iff.1 hN)).1
   obtain ⟨Z,z1,z2,z3⟩:=hs L hN1 hb
   have L2':=z2.put r (c:=.box (G0 hc nc sg s).1 false false) hlt (by omega) hg trivial hN2 (by
    rw [b1]
    exact ⟨pid,m,ps,fz',rfl,by rw [z2.oo];exact b2,by rw [z2.hh];exact b3,b4,z3⟩)
   refine ⟨Z,z1,?_,hT.mono z1⟩;refine L2'.perm λj => ?_;simp only [List.mem_cons,List.mem_append,List.not_mem_nil,or_false];constructor
   ·rintro (h | h | h)
    ·exact .inl (.inr h)
    ·exact .inl (.inl h)
    ·exact .inr h
   ·rintro ((h | h) | h)
    ·exact .inr (.inl h)
    ·exact .inl h
    ·exact .inr (.inr h)
  ·cases e
 | map id k g c =>
  simp only [NO] at e;split at e
  ·rename_i k' g' c' l hg;replace e:=A3 e;obtain ⟨hgg,e⟩:=e;have:=eq_of_beq hgg;subst this;unfold gf at e;split at e
   ·rename_i hk;subst hk;split at e
    ·rename_i hc;subst hc;have hB:=r.blk _ _ hg;obtain ⟨pid,m,es,b1,b2,b3,b4⟩:=hB;have hsr:Fu t h (.map id k' g c')=[id]:=by simp [Fu,Ce]
     refine ⟨l,e,fun {Y S tc hc nc} L hT hN hb => ?_⟩;rw [hsr] at hN ⊢;have hlt:id<nx0:=hid id (by simp [BM])
     have L2':=L.put r (c:=.mp k' g c' l false) hlt (by omega) hg trivial ((List.nodup_cons.1 hN).1) (by
      rw [b1];have hQ:Y.Q=X.Q:=by unfold Cx.Q;rw [L.oo]
      exact ⟨pid,m,es,rfl,by rw [L.oo];exact b2,by rw [L.hh];exact b3,by
       unfold MR
       rw [L.hh,hQ];exact b4⟩)
     exact ⟨Y,Up.refl _,L2',hT⟩
    ·cases e
   ·cases e
  ·cases e
theorem RC {nt nx0:Nat} {p:Pl} {l:List Pl} (h:CB nt nx0 (p::l)=true):CB nt nx0 [p]=true/\CB nt nx0 l=true:=by
 cases p<;>simp [CB] at h ⊢ <;> exact h
theorem GR {p:Pl} {l:List Pl} {i:Nat}:(i∈BM [p]->i∈BM (p::l))/\(i∈BM l->i∈BM (p::l)):=by
 refine ⟨λh => ?_,λh => ?_⟩<;>cases p<;>simp [BM] at h ⊢ <;> simp [h]
theorem Mf (r:RH X h n) (hn:nx0<=1048575) (ht:TR X t tP) {nt:Nat} (hnt:nt<1048575) : ∀ {l:List Pl} {K:DC l->Option β},CB nt nx0 l=true->(∀ i∈BM l,i<nx0)->GO t h l K=some x ->
  ∃ s,K s=some x /\ ∀ {Y:Cx} {S:List Nat} {tc:T V} {hc:H} {nc:Nat},LInv X h nx0 Y S hc nc->TR Y tc tP->(Ce t h l++S).Nodup->(Bs tc hc nc l s).2.2<=1048575 ->
   ∃ Z,Up Y Z/\LInv X h nx0 Z (Ce t h l++S) (Bs tc hc nc l s).2.1 (Bs tc hc nc l s).2.2/\TR Z (Bs tc hc nc l s).1 tP
 | [],K,_,_,e=>⟨(),e,λL hT _ _=>⟨_,Up.refl _,L,hT⟩⟩
 | [p],K,hsl,hid,e=>by
  obtain ⟨s,e1,hs⟩:=SV r hn ht hnt hsl hid e;exact ⟨s,e1,λL hT hN hb=>hs L hT hN hb⟩
 | p::q::rr,K,hsl,hid,e=>by
  unfold GO at e;obtain ⟨s1,s2⟩:=RC hsl;obtain ⟨s,e1,hs⟩:=SV r hn ht hnt s1 (λi hi=>hid i (GR.1 hi)) e;obtain ⟨u,e2,hu⟩:=Mf r hn ht hnt (l:=q::rr) s2 (λi hi=>hid i (GR.2 hi)) e1;refine ⟨(s,u),e2,fun {Y S tc hc nc} L hT hN hb => ?_⟩;rw [UH] at hN ⊢;have hb':(Bs (FA tc hc nc p s).1 (FA tc hc nc p s).2.1 (FA tc hc nc p s).2.2 (q::rr) u).2.2<=1048575:=hb;rw [List.append_assoc] at hN;have hp:(Fu t h p++(Ce t h (q::rr)++S)).Perm (Ce t h (q::rr)++(Fu t h p++S)):=List.perm_append_comm_assoc _ _ _;have hN2:=hp.nodup_iff.1 hN;obtain ⟨Z,z1,z2,z3⟩:=hs L hT (List.nodup_append.1 hN2).2.1 (Nat.le_trans (Ja (q::rr) _ _ _ u) hb');obtain ⟨Z2,w1,w2,w3⟩:=hu z2 z3 hN2 hb';refine ⟨Z2,z1.trans w1,?_,w3⟩;refine w2.perm λj => ?_;simp only [List.mem_append];constructor
  ·rintro (h | h | h)
   ·exact .inl (.inr h)
   ·exact .inl (.inl h)
   ·exact .inr h
  ·rintro ((h | h) | h)
   ·exact .inr (.inl h)
   ·exact .inl h
   ·exact .inr (.inr h)
end
end Go.Proofs.YthpkjfabdccpdaaGreat.Sv
namespace Go.Proofs.YthpkjfabdccpdaaGreat.Sv
open Go.Proofs.YthpkjfabdccpdaaGreat.Pi (PV T Hp Blk DF UM PE Au A8 AM BO By)
def PX (P:Program) (tab:Ie) (c:Code) (fp:Pi.Fr) (h:Hp) (r:Pi.Ex×Pi.Fr×Hp):Prop :=
 ∃ N,∀ m F n,N<=m->N<=F->N<=n->Pi.exec P (Bc tab) (Pi.EQ P (Bc tab) F n) m c fp h=some r
def jL (P:Program) (tab:Ie) (b bP:Nat) (c:Code) (X:Cx) (h:H) (nx:Nat) (fp:Pi.Fr) {β:Type} (K:KA β) (x:β):Prop :=
 ∃ ex fr' h' nx' Y exP fp' hP',K ex fr' h' nx'=some x/\PX P tab c fp X.h (exP,fp',hP')/\A7 b bP X h nx Y h' nx' hP'/\FR Y fr' fp'/\TS Y ex exP
def Cx.bump (X:Cx) (k:Nat):Cx:={ X with h:={ X.h with nx:=X.h.nx+k } }
theorem SW (X:Cx) (k q:Nat):(X.bump k).h.get q=X.h.get q:=rfl
theorem Lz (X:Cx) (k:Nat):Up X (X.bump k):=⟨λ_ _ h=>h,λ_ _ _ fz h k=>⟨⟨fz,k⟩,h⟩⟩
theorem RH.bump {X:Cx} {h:H} {n:Nat} (r:RH X h n) (k:Nat):RH (X.bump k) h (n+k) :=
 ⟨λi c hi=>(r.blk i c hi).keep (Lz X k) λ_ _ _ hO=>⟨rfl,hO⟩,r.inj,λi a hi=>Nat.lt_of_lt_of_le (r.dom i a hi) (Nat.le_add_right _ _),λq hq=>r.fresh q (by have:X.h.nx+k<=q:=hq;omega),r.ob⟩
theorem L0 (X:Cx) (h:H) (k b bP:Nat):Ext b bP X h (X.bump k) h :=
 ⟨(Up.low X b).trans (Lz X k),λ_ _ h=>h,λ_ _ h=>h,Nat.le_add_right _ _,λ_ _ h _=>h,λ_ st pe _ _ _ _ _ _ h=>⟨st,pe,h⟩⟩
structure DrawnAOK (P:Program) (tab:Ie):Prop where
 go : ∀ {β:Type} {x:β} {nx:Nat} {ops:List Oper} {fr:FrA} {h:H} {K:FrA->H->Option β},Tw P tab nx ops fr h K=some x -> ∀ {X:Cx} {fp:Pi.Fr},RH X h nx->nx+ops.length<=1048575->FR X fr fp->(∀ o∈ops,∀ d,o.dst=some d->d<fr.nt) ->
  ∃ fr' h' Y fp' hP',K fr' h'=some x/\(∃ N,∀ F n,N<=F->N<=n->Pi.drawn P (Pi.EQ P (Bc tab) F n) X.h.nx ops fp (X.bump ops.length).h=some (fp',hP'))/\(∀ b bP,b<=nx->bP<=X.h.nx->A7 b bP X h nx Y h' (nx+ops.length) hP')/\FR Y fr' fp'
theorem Fv : ∀ {l:List Nat},D6 l=true->l.Nodup
 | [],_ => .nil
 | a::l,h=>by
  simp only [D6,Bool.and_eq_true,Bool.not_eq_true',List.any_eq_false] at h;refine List.nodup_cons.2 ⟨λhm => ?_,Fv h.2⟩;exact h.1 a hm (by simp)
section
variable {P:Program} {tab:Ie} {ann:Pj} {f:FuncId} {rec:OD}
structure KB (X:Cx) (h:H) (n0:Nat) (kb:List Nat) (h0:H):Prop where
 go : ∀ i c,h0.get i=some c->i∈kb/\i<n0/\(∃ d,h.get i=some d/\d.live)/\BR (X.low n0) c (X.π i)
theorem KB.linv {X:Cx} {h h0:H} {n n0:Nat} {kb:List Nat} (k:KB X h n0 kb h0) (r:RH X h n):LInv X h n0 (X.low n0) kb h0 n0:=by
 refine ⟨rfl,rfl,λi hi=>Cx.low_eq hi,λi hi=>Cx.low_ge (by omega),Nat.le_refl _,λi c hi => ?_,λi i' c c' p m m' hi hi' a1 a2 => ?_,λi c p m hi a1 => ?_⟩
 ·obtain ⟨_,h2,_,h4⟩:=k.go i c hi;rw [Cx.low_eq h2];exact ⟨h4,h2⟩
 ·obtain ⟨_,h2,⟨d,h3,h5⟩,_⟩:=k.go i c hi;obtain ⟨_,k2,⟨d',k3,k5⟩,_⟩:=k.go i' c' hi';rw [Cx.low_eq h2] at a1;rw [Cx.low_eq k2] at a2;exact r.inj _ _ _ _ _ _ _ h3 k3 h5 k5 a1 a2
 ·obtain ⟨h1,h2,⟨d,h3,h5⟩,_⟩:=k.go i c hi;rw [Cx.low_eq h2] at a1;exact ⟨i,h1,d,m,h3,h5,a1⟩
theorem BR.lock {X:Cx} {c:BA} {a:Option At} (h:BR X c a):BR X (HK c) a:=by cases c<;>exact h
theorem BR.unlock {X:Cx} {c:BA} {a:Option At} (h:BR X (HK c) a):BR X c a:=by cases c<;>exact h
theorem KB.entry {X:Cx} {h:H} {n:Nat} {kb:List Nat} {g:BA->BA} (r:RH X h n) (hn:n<=1048575) (hkb : ∀ i∈kb,i<n) (hg : ∀ c,g c=HK c\/g c=c):KB X h n kb (Dj h g kb):=by
 refine ⟨λi c hi => ?_⟩;obtain ⟨h1,d,h2,rfl,h3⟩:=G9 (λj hj=>by have:=hkb j hj;omega) hi;refine ⟨h1,hkb i h1,⟨d,h2,h3⟩,?_⟩;have hb:BR (X.low n) d (X.π i):=(r.blk _ _ h2).keep (Up.toLow r (Nat.le_refl _)) λ_ _ _ hO=>⟨rfl,hO⟩;rcases hg d with e | e
 ·rw [e];exact hb.lock
 ·rw [e];exact hb
theorem Mg {h:H} : ∀ {l:List (Nat×Nat×Option Code)},KZ h l=true -> ∀ i st pd,(i,st,pd)∈l -> ∃ nt t ps asg body d,h.get i=some (.lp st pd nt t ps asg body d)
 | [],_,_,_,_,hm=>by cases hm
 | (j,st',pd')::l,hl,i,st,pd,hm=>by
  simp only [KZ,Bool.and_eq_true] at hl;rcases List.mem_cons.1 hm with e | hm
  ·simp only [Prod.mk.injEq] at e;obtain ⟨e1,e2,e3⟩:=e;subst e1;subst e2;subst e3;have h1:=hl.1;split at h1
   ·rename_i st2 pd2 nt t ps asg body d hg;simp only [Bool.and_eq_true] at h1;have e1:=Nat.eq_of_beq_eq_true h1.1
    have e2:pd=pd2:=by
     have h2:=h1.2;split at h2
     ·rfl
     ·rfl
     ·rw [Nat.eq_of_beq_eq_true h2]
     ·rw [Nat.eq_of_beq_eq_true h2]
     ·cases h2
    subst e1;subst e2;exact ⟨nt,t,ps,asg,body,d,hg⟩
   ·cases h1
  ·exact Mg hl.2 i st pd hm
theorem IJ {h:H} {i st nt d:Nat} {pd:Option Code} {t:T V} {ps:List Nat} {asg body:Code} : ∀ {l:List Nat},i∈l->h.get i=some (.lp st pd nt t ps asg body d)->(i,st,pd)∈D7 h l
 | j::l,hm,hg=>by
  rcases List.mem_cons.1 hm with rfl | hm
  ·simp [D7,hg]
  ·have:=IJ hm hg;unfold D7;split
   ·exact List.mem_cons_of_mem _ this
   ·exact this
theorem Mh {h:H} {i:Nat} {ds:Option (List DFA)} : ∀ {l:List Nat},i∈l->h.get i=some (.df ds)->i∈Ln h l
 | j::l,hm,hg=>by
  rcases List.mem_cons.1 hm with rfl | hm
  ·simp [Ln,hg]
  ·have:=Mh hm hg;unfold Ln;split
   ·exact List.mem_cons_of_mem _ this
   ·exact this
theorem Pz {h:H} {i:Nat} {ds:Option (List DFA)} : ∀ {l:List Nat},NP h l=true->i∈l->h.get i=some (.df ds)->ds=some []
 | j::l,hl,hm,hg=>by
  simp only [NP,Bool.and_eq_true] at hl;rcases List.mem_cons.1 hm with rfl | hm
  ·have h1:=hl.1;rw [hg] at h1;cases ds with
   | none=>cases h1
   | some l=>cases l with
    | nil=>rfl
    | cons=>cases h1
  ·exact Pz hl.2 hm hg
theorem K7 {h:H} : ∀ {l:List Nat} {i:Nat},Kz h l=true->i∈l->h.get i=some (.df (some []))
 | j::l,i,hl,hm=>by
  simp only [Kz,Bool.and_eq_true] at hl;rcases List.mem_cons.1 hm with rfl | hm
  ·have h1:=hl.1;split at h1
   ·assumption
   ·cases h1
  ·exact K7 hl.2 hm
theorem BR.lowOf {X Y:Cx} {b:Nat} {c:BA} {a a':Option At} (k:BR (X.low b) c a') (h:BR Y c a):BR (Y.low b) c a:=by
 cases c with
 | box cs fz lk =>
  obtain ⟨pid,n,ps,fz',h1,h2,h3,h4,h5⟩:=h;obtain ⟨_,_,ps',_,_,_,_,_,k5⟩:=k;exact ⟨pid,n,ps,fz',h1,h2,h3,h4,VRL.lowOf k5 h5⟩
 | row g c l ex fz lk=>exact h
 | mp kk g c l lk=>exact h
 | lp st pend nt t ps asg body d =>
  obtain ⟨pid,n,tP,dP,m,h1,h2,h3,h4,h5,h6⟩:=h;obtain ⟨_,_,tP',_,_,_,_,_,k4,k5,_⟩:=k;refine ⟨pid,n,tP,dP,m,h1,h2,h3,λi v hi => ?_,?_,h6⟩
  ·obtain ⟨p,hp,hv⟩:=h4 i v hi;obtain ⟨q,_,kv⟩:=k4 i v hi;exact ⟨p,hp,VR.lowOf kv hv⟩
  ·by_cases hb:d<b
   ·rw [Cx.low_eq hb];exact h5
   ·rw [Cx.low_ge hb] at k5;cases k5
 | df ds =>
  obtain ⟨pid,n,dsP,h1,h2,h3,h4⟩:=h;obtain ⟨_,_,dsP',_,_,_,k4⟩:=k;refine ⟨pid,n,dsP,h1,h2,h3,?_⟩;cases ds with
  | none =>
   cases dsP with
   | none=>trivial
   | some=>exact h4.elim
  | some l =>
   cases dsP with
   | none=>exact h4.elim
   | some m =>
    cases dsP' with
    | none=>exact k4.elim
    | some m' =>
     simp only at h4 k4 ⊢
     have go : ∀ {l:List DFA} {m m':List DF},L2 (DFR (X.low b)) l m'->L2 (DFR Y) l m->L2 (DFR (Y.low b)) l m:=by
      intro l
      induction l with
      | nil=>intro m m' _ h;rw [L2.nil_inv h];exact .nil
      | cons x l ih =>
       intro m m' k h;obtain ⟨y,t,rfl,h1,h2⟩:=L2.cons_inv h;obtain ⟨y',t',rfl,k1,k2⟩:=L2.cons_inv k;refine .cons ?_ (ih k2 h2);cases x with
       | call f args =>
        obtain ⟨fP,ps,e1,e2,e3⟩:=h1;obtain ⟨fP',ps',_,g2,g3⟩:=k1;exact ⟨fP,ps,e1,VR.lowOf g2 e2,VRL.lowOf g3 e3⟩
       | bi bb ats ty args =>
        obtain ⟨ps,e1,e3⟩:=h1;obtain ⟨ps',_,g3⟩:=k1;exact ⟨ps,e1,VRL.lowOf g3 e3⟩
       | col id =>
        obtain ⟨pid,n,e1,e2⟩:=h1;obtain ⟨pid',n',g1,g2⟩:=k1;refine ⟨pid,n,?_,e2⟩;by_cases hb:id<b
        ·rw [Cx.low_eq hb];exact e1
        ·rw [Cx.low_ge hb] at g1;cases g1
     exact go k4 h4
 | dead=>trivial
theorem Vy {Z Y:Cx} {h1 h':H} {n0 b bP:Nat} (hb:n0<=b) (ext:Ext b bP Z h1 Y h'):Up (Z.low n0) (Y.low n0):=by
 refine ⟨λi a hi => ?_,ext.up.rows⟩;by_cases hn:i<n0
 ·rw [Cx.low_eq hn] at hi ⊢;exact ext.up.pi i a (by rw [Cx.low_eq (by omega)];exact hi)
 ·rw [Cx.low_ge hn] at hi;cases hi
def Vz (l:List (Nat×Nat×Option Code)) (i:Nat) (c c':BA):Prop:=match c with
 | .lp _ _ nt t ps asg body d => ∃ st pd,(i,st,pd)∈l/\c' = .lp st pd nt t ps asg body d
 | c=>c'=c
def fY (X:Cx) (h:H) (kb:List Nat) (n0:Nat) (l:List (Nat×Nat×Option Code)) (W:Cx):Prop :=
 ∀ i c,h.get i=some c->i∈kb->c.live->W.π i=X.π i /\ ∀ c',Vz l i c c'->BR (W.low n0) c' (W.π i)
theorem Wx {X Z Y:Cx} {h h1 h':H} {n' n0 b bP:Nat} {kb:List Nat} (hdf:NP h kb=true) (hkb : ∀ i∈kb,i<n0) (hK:fY X h kb n0 (D7 h kb) Z)
  (h1k : ∀ i c,h.get i=some c->i∈kb->c.live->h1.get i=some (HK c)) (hX : ∀ i c,h.get i=some c->c.live -> ∃ a,X.π i=some a) (ext:Ext b bP Z h1 Y h') (hb:n0<=b) (rY:RH Y h' n') (hd:Kz h' (Ln h kb)=true) {l:List (Nat×Nat×Option Code)} (hl:KZ h' l=true) (hli:l.map (·.1)=(D7 h kb).map (·.1)) :
  fY X h kb n0 l Y /\ ∀ i c,h.get i=some c->i∈kb->c.live -> ∃ d,h'.get i=some d/\d.live:=by
 have up:=Vy hb ext
 have piY : ∀ i c,h.get i=some c->i∈kb->c.live->Y.π i=X.π i:=λi c hi hk hlv=>by
  obtain ⟨a,ha⟩:=hX i c hi hlv;obtain ⟨k1,_⟩:=hK i c hi hk hlv;rw [ha] at k1 ⊢;exact ext.up.pi i a (by rw [Cx.low_eq (by have:=hkb i hk;omega)];exact k1)
 have locked : ∀ i c,h.get i=some c->i∈kb->c.live->(HK c).locked=true->Vz (D7 h kb) i c c->h'.get i=some (HK c)/\BR (Y.low n0) c (Y.π i):=λi c hi hk hlv hlk hn=>by
  have g:=ext.lk i (HK c) (h1k i c hi hk hlv) hlk;refine ⟨g,?_⟩;have hY:=(rY.blk _ _ g).unlock;exact BR.lowOf ((hK i c hi hk hlv).2 c hn) hY
 refine ⟨λi c hi hk hlv=>⟨piY i c hi hk hlv,λc' hc' => ?_⟩,λi c hi hk hlv => ?_⟩
 ·cases c with
  | box cs fz lk=>rw [show c'=_ from hc'];exact (locked i _ hi hk hlv rfl rfl).2
  | row g c x ex fz lk=>rw [show c'=_ from hc'];exact (locked i _ hi hk hlv rfl rfl).2
  | mp k g c x lk=>rw [show c'=_ from hc'];exact (locked i _ hi hk hlv rfl rfl).2
  | dead=>exact hlv.elim
  | df ds =>
   rw [show c'=_ from hc'];have:=Pz hdf hk hi;subst this;have g:=K7 hd (Mh hk hi);have hY:=rY.blk _ _ g;obtain ⟨pid,m,dsP,q1,q2,q3,q4⟩:=hY;refine ⟨pid,m,dsP,q1,q2,q3,?_⟩;cases dsP with
   | none=>exact q4
   | some mm=>rw [show mm=[] from L2.nil_inv q4];exact .nil
  | lp st0 pd0 nt t ps asg body d =>
   obtain ⟨st,pd,hm,rfl⟩:=hc';obtain ⟨nt',t',ps',asg',body',d',g⟩:=Mg hl i st pd hm;have hZ:=(hK i _ hi hk hlv).2 (.lp st0 pd0 nt t ps asg body d) ⟨st0,pd0,IJ hk hi,rfl⟩;obtain ⟨pid,m,tP,dP,m2,z1,z2,z3,z4,z5,z6⟩:=hZ;obtain ⟨st',pe',y3⟩:=ext.lps _ _ _ _ _ _ _ _ _ z3;have hY:=rY.blk _ _ g
   have hpi:Y.π i=some (.blk pid m):=by
    rw [piY i _ hi hk hlv,<- (hK i _ hi hk hlv).1];exact z1
   rw [hpi] at hY;obtain ⟨_,_,tP2,dP2,m3,w1,w2,w3,_,_,_⟩:=hY;cases w1;rw [y3] at w3;cases w3;rw [hpi];exact ⟨pid,m,tP,dP,m2,rfl,w2,y3,z4.mono up,up.pi _ _ z5,z6⟩
 ·cases c with
  | box cs fz lk=>exact ⟨_,(locked i _ hi hk hlv rfl rfl).1,trivial⟩
  | row g c x ex fz lk=>exact ⟨_,(locked i _ hi hk hlv rfl rfl).1,trivial⟩
  | mp k g c x lk=>exact ⟨_,(locked i _ hi hk hlv rfl rfl).1,trivial⟩
  | dead=>exact hlv.elim
  | df ds=>exact ⟨_,K7 hd (Mh hk hi),trivial⟩
  | lp st0 pd0 nt t ps asg body d =>
   have h0:=IJ hk hi;have:i∈(D7 h kb).map (·.1):=List.mem_map.2 ⟨_,h0,rfl⟩;rw [<- hli] at this;obtain ⟨⟨i',st,pd⟩,hm,e⟩:=List.mem_map.1 this;simp only at e;subst e;obtain ⟨nt',t',ps',asg',body',d',g⟩:=Mg hl i' st pd hm;exact ⟨_,g,trivial⟩
end
end Go.Proofs.YthpkjfabdccpdaaGreat.Sv
namespace Go.Proofs.YthpkjfabdccpdaaGreat.Sv
open Go.Proofs.YthpkjfabdccpdaaGreat.Pi (PV T Hp Blk DF UM PE Au A8 AM BO By)
section
variable {P:Program} {tab:Ie} {β:Type} {x:β}
def jd (X:Cx) (e:ExA) (exP:Pi.Ex) (pay:Ty) (y:pay.den) (k:ExK):Prop := ∀ Z:Cx,Z.h=X.h->Z.O=X.O->TS Z (Qx pay y k) exP
theorem fZ {X:Cx} {h:H} {e:ExA} {exP:Pi.Ex} {pay:Ty} {k:ExK} {K:pay.den->Option β} (hr:TS X e exP) (hk:jZ e k=true) (eq:jY h e pay k K=some x) : ∃ y,K y=some x/\jd X e exP pay y k:=by
 cases k with
 | exit i =>
  cases e with
  | exit j =>
   replace eq:=A3 eq;obtain ⟨hb,eq⟩:=eq;have:=Nat.eq_of_beq_eq_true hb;subst this;exact ⟨_,eq,λZ _ _=>hr⟩
  | _=>cases eq
 | ret =>
  cases e with
  | ret=>exact ⟨_,eq,λZ _ _=>hr⟩
  | _=>cases eq
 | pan t g c =>
  cases e with
  | panic v =>
   cases v with
   | ifc t' v =>
    replace eq:=A3 eq;obtain ⟨hb,eq⟩:=eq;have:=Nat.eq_of_beq_eq_true hb;subst this;split at eq
    ·rename_i hc;subst hc;obtain ⟨p,rfl,hv⟩:=hr;simp only [VR] at hv;obtain ⟨q,rfl,hv⟩:=hv;obtain ⟨y,e1,hE⟩:=JW hv eq;refine ⟨y,e1,λZ z1 z2 => ?_⟩;have hx:Qx c y (.pan t g c) = .panic (.ifc t (Wn g c y)):=dif_pos rfl;rw [hx];refine ⟨_,rfl,?_⟩;simp only [VR];refine ⟨q,rfl,K3 ?_⟩;have hQ:Z.Q=X.Q:=by unfold Cx.Q;rw [z2]
     rw [z1,hQ];exact hE
    ·cases eq
   | _=>cases eq
  | _=>cases eq
theorem P0 {X:Cx} {h:H} {ids:List Nat} {e:ExA} {exP:Pi.Ex} {pay:Ty} (hr:TS X e exP) : ∀ {l:List (ExK×List (Nat×Nat×Option Code))} {i:Nat} {K:Nat->pay.den->Option β},Ma h ids e pay i l K=some x ->
  ∃ j k lp y,l[j]? = some (k,lp)/\KZ h lp=true/\lp.map (·.1)=ids/\K (i+j) y=some x/\jd X e exP pay y k
 | [],i,K,eq=>by cases eq
 | (k,lp)::l,i,K,eq=>by
  unfold Ma at eq;replace eq:=E7 eq;rcases eq with ⟨hb,eq⟩ | ⟨hb,eq⟩
  ·simp only [Bool.and_eq_true] at hb;obtain ⟨y,e1,e2⟩:=fZ hr hb.1 eq;exact ⟨0,k,lp,y,rfl,hb.2.1,eq_of_beq hb.2.2,e1,e2⟩
  ·obtain ⟨j,k',lp',y,h1,h2,h3,h4,h5⟩:=P0 hr eq;exact ⟨j+1,k',lp',y,by simpa using h1,h2,h3,by rw [show i+(j+1)=i+1+j from by omega];exact h4,h5⟩
theorem OO {pay:Ty} {y:pay.den} : ∀ {l:List (ExK×List (Nat×Nat×Option Code))} {i j:Nat} {k:ExK} {lp:List (Nat×Nat×Option Code)} {K:ExA->List (Nat×Nat×Option Code)->Option β},l[j]? = some (k,lp)->SK pay y (i+j) i l K=some x->K (Qx pay y k) lp=some x
 | [],i,j,k,lp,K,hj,e=>by cases e
 | [(k',lp')],i,j,k,lp,K,hj,e=>by
  cases j with
  | zero=>simp at hj;obtain ⟨rfl,rfl⟩:=hj;exact e
  | succ j=>simp at hj
 | (k',lp')::b::l,i,j,k,lp,K,hj,e=>by
  unfold SK at e;cases j with
  | zero =>
   simp at hj;obtain ⟨rfl,rfl⟩:=hj;rcases ES e with ⟨_,e⟩ | ⟨hb,e⟩
   ·exact e
   ·simp [neq] at hb
  | succ j =>
   rcases ES e with ⟨hb,e⟩ | ⟨hb,e⟩
   ·simp [neq] at hb
   ·exact OO (i:=i+1) (j:=j) (by simpa using hj) (by rw [show i+1+j=i+(j+1) from by omega];exact e)
theorem Wy {t:T V} {l:List Nat} {W:Cx} {tP tP':T PV} (hl : ∀ i∈l,i<1048575) (h:TR W (Di t l) tP) (same : ∀ k∈l,tP'.get k=tP.get k):TR W (Di t l) tP':=λk v hk=>by
 obtain ⟨p,h1,h2⟩:=h k v hk;exact ⟨p,by rw [same k (Me hl hk).1];exact h1,h2⟩
structure It (P:Program) (X:Cx) (h:H) (nx bP:Nat) (fr:FrA) (kb keep:List Nat) (pl:List Pl) (lp:List (Nat×Nat×Option Code)) (W:Cx) (fp:Pi.Fr) (s:DC pl):Prop where
 go : ∃ hW nW src,RH W hW nW/\fY X h kb nx lp W/\(∀ i c,h.get i=some c->i∈kb->c.live -> ∃ d,hW.get i=some d/\d.live)/\(src++kb).Nodup /\
  ∀ {Y:Cx} {S:List Nat} {tc:T V} {hc:H} {nc:Nat},LInv W hW nx Y S hc nc->TR Y tc fp.t->(src++S).Nodup->(Bs tc hc nc pl s).2.2<=1048575 ->
   ∃ Z,Up Y Z/\LInv W hW nx Z (src++S) (Bs tc hc nc pl s).2.1 (Bs tc hc nc pl s).2.2/\TR Z (Bs tc hc nc pl s).1 fp.t
 t:TR (W.low nx) (Di fr.t keep) fp.t
 ds:L2 (DFR (W.low nx)) fr.ds fp.ds
 nt:fp.nt=fr.nt
 up:fp.up=none
 ro:ROR (W.low nx) fr.ro fp.ro
 ext:Ext nx bP X .lf W .lf
def UI (h:H) (kb:List Nat) (lp:List (Nat×Nat×Option Code)) (h0:H):Prop := ∀ i c,h0.get i=some c->i∈kb /\ ∃ d,h.get i=some d/\d.live/\(Vz lp i d c \/ ∃ c',Vz lp i d c'/\c=HK c')
theorem It.lay {X:Cx} {h h0:H} {nx bP:Nat} {fr:FrA} {kb keep:List Nat} {pl:List Pl} {lp:List (Nat×Nat×Option Code)} {W:Cx} {fp:Pi.Fr} {s:DC pl} (I:It P X h nx bP fr kb keep pl lp W fp s) (hbig:fr.nt<1048575) (hup:fr.up=none) (hkb : ∀ i∈kb,i<nx) (hb:UI h kb lp h0)
  (hn:(Bs (Di fr.t keep) h0 nx pl s).2.2<=1048575) :
  ∃ Z,Z.h=W.h/\RH Z (Bs (Di fr.t keep) h0 nx pl s).2.1 (Bs (Di fr.t keep) h0 nx pl s).2.2/\FR Z { fr with t:=(Bs (Di fr.t keep) h0 nx pl s).1 } fp/\Up (W.low nx) Z/\(∀ i,i<nx->Z.π i=W.π i)/\Z.O=W.O/\nx<=(Bs (Di fr.t keep) h0 nx pl s).2.2:=by
 obtain ⟨hW,nW,src,r,hK,hliv,hnd,hlay⟩:=I.go
 have kbk:KB W hW nx kb h0:=⟨λi c hi=>by
  obtain ⟨h1,d,h2,h3,h4⟩:=hb i c hi;refine ⟨h1,hkb i h1,hliv i d h2 h1 h3,?_⟩;obtain ⟨_,k2⟩:=hK i d h2 h1 h3;rcases h4 with h4 | ⟨c',h4,rfl⟩
  ·exact k2 c h4
  ·exact (k2 c' h4).lock⟩
 obtain ⟨Z,z1,z2,z3⟩:=hlay (kbk.linv r) I.t hnd hn
 have rz:RH Z (Bs (Di fr.t keep) h0 nx pl s).2.1 (Bs (Di fr.t keep) h0 nx pl s).2.2:=by
  refine ⟨λi c hi=>(z2.blk i c hi).1,λi i' c c' p m m' hi hi' _ _ a1 a2=>z2.inj _ _ _ _ _ _ _ hi hi' a1 a2,λi a hi => ?_,λq hq => ?_,λq hq => ?_⟩
  ·by_cases hlt:i<(Bs (Di fr.t keep) h0 nx pl s).2.2
   ·exact hlt
   ·rw [z2.hi i (by omega)] at hi;cases hi
  ·rw [z2.hh] at hq ⊢;exact r.fresh q hq
  ·rw [z2.hh];rw [z2.oo] at hq;exact r.ob q hq
 refine ⟨Z,z2.hh,rz,⟨z3,I.nt,hbig,I.ds.mono λ_ _ k=>k.mono z1,?_,I.ro.mono z1⟩,z1,z2.lo,z2.oo,z2.le⟩;rw [hup];exact I.up
theorem NT {i:Nat} : ∀ {pl:List Pl} {tc:T V} {hc:H} {nc:Nat} {s:DC pl},i<nc->i ∉ BM pl->(Bs tc hc nc pl s).2.2<=1048575->(∀ j∈BM pl,j<1048575)->(Bs tc hc nc pl s).2.1.get i=hc.get i:=by
 have sg : ∀ {sg:List Sgm} {hc:H} {nc:Nat} {s:OC sg},i<nc->(G0 hc nc sg s).2.2<=1048575->(G0 hc nc sg s).2.1.get i=hc.get i:=by
  intro sg
  induction sg with
  | nil=>intro hc nc s _ _;rfl
  | cons a sg ih =>
   intro hc nc s hi hb;cases sg with
   | nil =>
    cases a with
    | lf c=>rfl
    | ow g c ex =>
     show (Ad hc nc _).get i=_;have:nc+1<=1048575:=hb;rw [Al (by omega),if_neg (by omega)]
    | kp id=>rfl
   | cons q rr =>
    cases a with
    | lf c=>exact ih hi hb
    | kp id=>exact ih hi hb
    | ow g c ex =>
     have hb':(G0 (Ad hc nc (.row g c s.1 ex false false)) (nc+1) (q::rr) s.2).2.2<=1048575:=hb;have hm:=GQ (q::rr) (Ad hc nc (.row g c s.1 ex false false)) (nc+1) s.2;have:=ih (hc:=Ad hc nc (.row g c s.1 ex false false)) (nc:=nc+1) (s:=s.2) (by omega) hb';show (G0 (Ad hc nc (.row g c s.1 ex false false)) (nc+1) (q::rr) s.2).2.1.get i=_;rw [this,Al (by omega),if_neg (by omega)]
 have one : ∀ {p:Pl} {tc:T V} {hc:H} {nc:Nat} {s:p.den},i<nc->i ∉ BM [p]->(FA tc hc nc p s).2.2<=1048575->(∀ j∈BM [p],j<1048575)->(FA tc hc nc p s).2.1.get i=hc.get i:=by
  intro p tc hc nc s hi hni hb hj;cases p with
  | slot=>rfl
  | swin k g c =>
   show (Ad hc nc _).get i=_;have:nc+1<=1048575:=hb;rw [Al (by omega),if_neg (by omega)]
  | srow k g c ex =>
   show (Ad hc nc _).get i=_;have:nc+1<=1048575:=hb;rw [Al (by omega),if_neg (by omega)]
  | box id sgl =>
   show (Ad (G0 hc nc sgl s).2.1 id _).get i=_;rw [Al (hj id (by simp [BM])),if_neg (by intro hh;subst hh;exact hni (by simp [BM]))];exact sg hi hb
  | map id k g c =>
   show (Ad hc id _).get i=_;rw [Al (hj id (by simp [BM])),if_neg (by intro hh;subst hh;exact hni (by simp [BM]))]
 intro pl
 induction pl with
 | nil=>intros;rfl
 | cons p l ih =>
  intro tc hc nc s hi hni hb hj;cases l with
  | nil=>exact one hi hni hb hj
  | cons q rr =>
   have hb':(Bs (FA tc hc nc p s.1).1 (FA tc hc nc p s.1).2.1 (FA tc hc nc p s.1).2.2 (q::rr) s.2).2.2<=1048575:=hb;have hm:=Ja (q::rr) (FA tc hc nc p s.1).1 (FA tc hc nc p s.1).2.1 (FA tc hc nc p s.1).2.2 s.2;have h1:=one (p:=p) (tc:=tc) (hc:=hc) (nc:=nc) (s:=s.1) hi (λh=>hni (GR.1 h)) (by omega) (λj h=>hj j (GR.1 h));show (Bs (FA tc hc nc p s.1).1 (FA tc hc nc p s.1).2.1 (FA tc hc nc p s.1).2.2 (q::rr) s.2).2.1.get i=_;rw [ih (Nat.lt_of_lt_of_le hi (K6 tc hc nc p s.1)) (λh=>hni (GR.2 h)) hb' (λj h=>hj j (GR.2 h)),h1]
theorem IK {h:H} {f:BA->BA} : ∀ {l:List Nat} {i:Nat} {c:BA},(∀ j∈l,j<1048575)->i∈l->h.get i=some c->c.live->(Dj h f l).get i=some (f c)
 | j::l,i,c,hl,hm,hg,hv=>by
  have h20:(2:Nat) ^ 20-1=1048575:=by decide
  have hj:=hl j (by simp);unfold Dj;by_cases hij:i=j
  ·subst hij;rw [hg];cases c with
   | dead=>exact hv.elim
   | _=>simp only;rw [T.get_put 20 _ _ _ _ (by omega),if_pos rfl]
  ·have hm':i∈l:=by
    rcases List.mem_cons.1 hm with e | hm
    ·exact absurd e hij
    ·exact hm
   have ih:=IK (f:=f) (λj hj=>hl j (by simp [hj])) hm' hg hv;split
   ·exact ih
   ·rw [T.get_put 20 _ _ _ _ (by omega),if_neg hij];exact ih
   ·exact ih
theorem K8 {h:H} : ∀ {l:List (Nat×Nat×Option Code)} {i:Nat},(∀ p∈l,p.1<1048575)->(Fs h l).get i=h.get i \/ ∃ st pd nt t ps asg body d st0 pd0,(i,st,pd)∈l/\h.get i=some (.lp st0 pd0 nt t ps asg body d)/\(Fs h l).get i=some (.lp st pd nt t ps asg body d)
 | [],i,_ => .inl rfl
 | (j,st,pd)::l,i,hl=>by
  have ih:=K8 (h:=h) (l:=l) (i:=i) λp hp=>hl p (by simp [hp]);have hj:=hl (j,st,pd) (by simp);unfold Fs;split
  ·rename_i st0 pd0 nt t ps asg body d hg;rw [Al hj];by_cases hij:i=j
   ·subst hij;rw [if_pos rfl];exact .inr ⟨st,pd,nt,t,ps,asg,body,d,st0,pd0,by simp,hg,rfl⟩
   ·rw [if_neg hij];rcases ih with ih | ⟨a1,a2,a3,a4,a5,a6,a7,a8,a9,a10,h1,h2,h3⟩
    ·exact .inl ih
    ·exact .inr ⟨a1,a2,a3,a4,a5,a6,a7,a8,a9,a10,by simp [h1],h2,h3⟩
  ·rcases ih with ih | ⟨a1,a2,a3,a4,a5,a6,a7,a8,a9,a10,h1,h2,h3⟩
   ·exact .inl ih
   ·exact .inr ⟨a1,a2,a3,a4,a5,a6,a7,a8,a9,a10,by simp [h1],h2,h3⟩
end
end Go.Proofs.YthpkjfabdccpdaaGreat.Sv
namespace Go.Proofs.YthpkjfabdccpdaaGreat.Sv
open Go.Proofs.YthpkjfabdccpdaaGreat.Pi (PV T Hp Blk DF UM PE Au A8 AM BO By)
section
variable {X:Cx} {h:H} {n b bP:Nat}
theorem RH.drop (r:RH X h n) (hn:n<=1048575) {j:Nat} {g:Bool} {c:Ty} {l:List c.den} {ex fz:Bool} (hj:h.get j=some (.row g c l ex fz false)) {h':H} (hh:h'=Dj h (λb=>b) ((List.range n).filter λi => !Nat.beq i j)) :
  (∃ Y:Cx,Y.π=X.π/\Y.h=X.h/\Up X Y/\RH Y h' n/\Ext b bP X h Y h' /\ ∀ pid m,X.π j=some (.blk pid m)->Y.Q pid) /\ ∀ i c',h.get i=some c'->c'.live->i≠j->h'.get i=some c':=by
 let Y:Cx:={ π:=X.π,h:=X.h,O:=λq=>X.O q /\ ∀ m,X.π j≠some (.blk q m) }
 have u:Up X Y:=⟨λ_ _ h=>h,λ_ _ _ fz hq k=>⟨⟨fz,k⟩,λhO=>hq hO.1⟩⟩
 have hb : ∀ i∈(List.range n).filter λi => !Nat.beq i j,i<1048575:=λi hi=>by
  have:=List.mem_range.1 (List.mem_filter.1 hi).1;omega
 have hk : ∀ {i:Nat} {c:BA},h'.get i=some c->i≠j/\h.get i=some c/\c.live:=fun {i c'} hi=>by
  rw [hh] at hi;obtain ⟨k1,d,k2,rfl,k3⟩:=G9 hb hi;refine ⟨λe => ?_,k2,k3⟩;have:=(List.mem_filter.1 k1).2;rw [e] at this;simp at this
 have hs : ∀ i c',h.get i=some c'->c'.live->i≠j->h'.get i=some c':=λi c' hi hlv hij=>by
  obtain ⟨a,ha⟩:=(r.blk _ _ hi).live_blk hlv;rw [hh];refine IK (f:=λb=>b) hb (List.mem_filter.2 ⟨List.mem_range.2 (r.dom _ _ ha),?_⟩) hi hlv;cases hq:Nat.beq i j with
  | false=>rfl
  | true=>exact absurd (Nat.eq_of_beq_eq_true hq) hij
 refine ⟨⟨Y,rfl,rfl,u,⟨λi c' hi => ?_,λi i' c1 c2 p m m' hi hi' l1 l2 => ?_,r.dom,r.fresh,λq hq=>r.ob q hq.1⟩,⟨(Up.low X b).trans u,λ_ _ h=>h,λ_ _ h=>h,Nat.le_refl _,λi c' hi hl => ?_,λq st pe _ _ _ _ _ _ h=>⟨st,pe,h⟩⟩,λpid m e hO=>hO.2 m e⟩,hs⟩
 ·obtain ⟨k1,k2,k3⟩:=hk hi;exact (r.blk i c' k2).keep u λpid m e hO=>⟨rfl,hO,λm' e'=>k1 (r.inj _ _ _ _ _ _ _ k2 hj k3 trivial e e')⟩
 ·exact r.inj _ _ _ _ _ _ _ (hk hi).2.1 (hk hi').2.1 l1 l2
 ·have hlv:c'.live:=by cases c'<;>first | trivial | cases hl
  exact hs i c' hi hlv λe=>by subst e;rw [hj] at hi;cases hi;cases hl
theorem RH.reput (r:RH X h n) {id:Nat} (hid:id<1048575) {c d:BA} (hc:h.get id=some c) (lc:c.live) (hb:BR X d (X.π id)):RH X (Ad h id d) n:=by
 refine ⟨λi e hi => ?_,λi i' c1 c2 p m m' hi hi' l1 l2 => ?_,r.dom,r.fresh,r.ob⟩
 ·rw [Al hid] at hi;by_cases hii:i=id
  ·rw [if_pos hii] at hi;cases hi;subst hii;exact hb
  ·rw [if_neg hii] at hi;exact r.blk _ _ hi
 ·have go : ∀ {i:Nat} {c1:BA},(Ad h id d).get i=some c1->c1.live -> ∃ c2,h.get i=some c2/\c2.live:=fun {i c1} hi hl=>by
   rw [Al hid] at hi;by_cases hii:i=id
   ·subst hii;exact ⟨c,hc,lc⟩
   ·rw [if_neg hii] at hi;exact ⟨c1,hi,hl⟩
  obtain ⟨e1,g1,k1⟩:=go hi l1;obtain ⟨e2,g2,k2⟩:=go hi' l2;exact r.inj _ _ _ _ _ _ _ g1 g2 k1 k2
theorem V0 {β:Type} {x:β} (r:RH X h n) (hn:n<=1048575) {v:V} {p:PV} (hv:VR X v p) {K:V->H->Option β} (e:fI h n v K=some x) :
  ∃ v' h' Y,K v' h'=some x/\Y.π=X.π/\Y.h=X.h/\Up X Y/\RH Y h' n/\Ext b bP X h Y h'/\VR Y v' p /\ ∀ i cs fz,h.get i=some (.box cs fz false)->h'.get i=some (.box cs fz false):=by
 unfold fI at e;split at e
 ·rename_i id;split at e
  ·rename_i g c l ex fz hrow;obtain ⟨⟨Y,y1,y2,y3,y4,y5,y6⟩,hs⟩:=r.drop (b:=b) (bP:=bP) hn hrow rfl;refine ⟨_,_,Y,e,y1,y2,y3,y4,y5,?_,λi cs fz hi=>hs i _ hi trivial λe=>by subst e;rw [hrow] at hi;cases hi⟩;simp only [VR] at hv ⊢;cases hpi:X.π id with
   | none=>rw [hpi] at hv;exact hv.elim
   | some a =>
    rw [hpi] at hv;have hB:=r.blk _ _ hrow;rw [hpi] at hB;rcases hB with ⟨pid,len,es,fz',k1,k2,k3,k4,k5,k7,k6⟩ | ⟨k1,_,k2⟩ | ⟨es,k1,_,_,k2⟩
    ·cases k1;simp only at hv;subst hv;refine .inr (.inr ⟨pid,0,len,es,ex,fz',rfl,(λh=>by cases h),y6 _ _ hpi,by rw [y2];exact k3,by omega,CM rfl k6,?_⟩);rw [List.drop_zero,List.take_of_length_le (by omega)];exact EDR.mono y3 k6
    ·cases k1;simp only at hv;exact .inl ⟨hv,k2⟩
    ·cases k1;simp only at hv;exact .inr (.inl ⟨true,es,hv,(λh=>by cases h),k2⟩)
  ·cases e
 ·rename_i id off len;split at e
  ·rename_i g c l ex fz hrow;replace e:=Ap e;obtain ⟨hle,e⟩:=e;obtain ⟨⟨Y,y1,y2,y3,y4,y5,y6⟩,hs⟩:=r.drop (b:=b) (bP:=bP) hn hrow rfl;refine ⟨_,_,Y,e,y1,y2,y3,y4,y5,?_,λi cs fz hi=>hs i _ hi trivial λe=>by subst e;rw [hrow] at hi;cases hi⟩;simp only [VR] at hv ⊢;obtain ⟨pid,m,hpi,rfl⟩:=hv;have hB:=r.blk _ _ hrow;rw [hpi] at hB;rcases hB with ⟨pid,len',es,fz',k1,k2,k3,k4,k5,k7,k6⟩ | ⟨k1,_⟩ | ⟨es,k1,_⟩
   ·cases k1;refine .inr (.inr ⟨_,off,len,es,ex,fz',rfl,(λh=>by cases h),y6 _ _ hpi,by rw [y2];exact k3,?_,CM rfl k6,?_⟩)
    ·rw [<- k6.length];simpa [A6,AJ,AA] using hle
    ·exact Q0 (EDR.mono y3 k6) off len
   ·cases k1
   ·cases k1
  ·cases e
 ·cases e
theorem P1 : ∀ {l:List PV} {i:Nat} {p:PV},Pi.lget l i=some p->Pi.lset l i p=l
 | [],_,_,e=>by cases e
 | a::l,i,p,e=>by
  unfold Pi.lget at e;unfold Pi.lset;cases hb:Nat.beq i 0 with
  | true=>rw [hb] at e;cases e;rfl
  | false=>rw [hb] at e;simp only [cond_false] at e ⊢;rw [P1 e]
theorem V1 {β:Type} {x:β} (hn:n<=1048575) : ∀ {l:List (Nat×Nat)} {X:Cx} {h:H} {K:H->Option β},RH X h n->fJ n l h K=some x -> ∃ h' Y,K h'=some x/\Y.h=X.h/\Up X Y/\RH Y h' n/\Ext b bP X h Y h'
 | [],X,h,K,r,e=>⟨h,X,e,rfl,Up.refl X,r,Ext.refl _ _ _ _⟩
 | (d,i)::l,X,h,K,r,e=>by
  unfold fJ at e;split at e
  ·rename_i cs fz hd;replace e:=AX e;obtain ⟨v,hv,e⟩:=e;obtain ⟨pid,m,ps,fz',b1,b2,b3,b4,b5⟩:=r.blk _ _ hd;obtain ⟨p,hp,hvr⟩:=b5.lget hv;obtain ⟨v',h',Y,e,y1,y2,y3,y4,y5,y6,y7⟩:=V0 (b:=b) (bP:=bP) r hn hvr e;have hd':=y7 _ _ _ hd;have hdn:d<1048575:=by have:=r.dom _ _ b1;omega
   obtain ⟨pid2,m2,ps2,fz2,c1,c2,c3,c4,c5⟩:=y4.blk _ _ hd';rw [y1,b1] at c1;cases c1;rw [y2,b3] at c3;cases c3
   have r2:RH Y (Ad h' d (.box (Pi.lset cs i v') fz false)) n:=y4.reput hdn hd' trivial (by
    rw [y1,b1];refine ⟨_,_,_,_,rfl,c2,by rw [y2];exact b3,c4,?_⟩;have:=c5.lset i y6
    rw [P1 hp] at this;exact this)
   obtain ⟨h2,Z,e,z1,z2,z3,z4⟩:=V1 hn (l:=l) r2 e;refine ⟨h2,Z,e,by rw [z1,y2],y3.trans z2,z3,(y5.trans ?_).trans z4⟩;refine ⟨Up.low Y b,λ_ _ h=>h,λ_ _ h=>h,Nat.le_refl _,λk c' hk hl => ?_,λq st pe _ _ _ _ _ _ h=>⟨st,pe,h⟩⟩;rw [Al hdn];by_cases hkd:k=d
   ·subst hkd;rw [hd'] at hk;cases hk;cases hl
   ·rw [if_neg hkd];exact hk
  ·cases e
end
end Go.Proofs.YthpkjfabdccpdaaGreat.Sv
namespace Go.Proofs.YthpkjfabdccpdaaGreat.Sv
open Go.Proofs.YthpkjfabdccpdaaGreat.Pi (PV T Hp Blk DF UM PE Au A8 AM BO By)
theorem fa {α β γ δ:Type} {f:α->Option (LR δ γ)} {s:α} {k:δ->Option β} {k2:γ->Option β} {x:β} (e:jn f s k k2=some x):(∃ y,f s=some (.nx y)/\k y=some x) \/ ∃ y,f s=some (.dn y)/\k2 y=some x:=by
 unfold jn at e;split at e
 ·cases e
 ·rename_i y hy;exact .inl ⟨y,hy,e⟩
 ·rename_i y hy;exact .inr ⟨y,hy,e⟩
theorem UJ {α β:Type} {f:α->Option (LR α β)} {s:α} {r:β} (e:Df 0 f s=some r):False:=by cases e
section
variable {P:Program} {tab:Ie} {ann:Pj} {f:FuncId} {rec:OD}
def UK (P:Program) (tab:Ie) (ann:Pj) (f:FuncId) (rec:OD) (n:Nat) (c:Code):Prop :=
 ∀ {β:Type} {x:β} {b bP:Nat} {fr:FrA} {h:H} {nx:Nat} {K:KA β},Lp P tab ann f rec n β b c fr h nx K=some x -> ∀ {X:Cx} {fp:Pi.Fr},RH X h nx->nx<=1048575->FR X fr fp->b<=nx->bP<=X.h.nx->jL P tab b bP c X h nx fp K x
def lN (P:Program) (tab:Ie) (ann:Pj) (f:FuncId) (rec:OD) (n:Nat) (keep:List Nat) (pl0 pl1 plx:List Pl) (ex:List (ExK×List (Nat×Nat×Option Code))) (pay:Ty) (kb:List Nat) (x:Code) (fr:FrA) (h:H) (nx:Nat) (s:DC pl0):Option (LR (DC pl1) (Nat×DC plx×pay.den)) :=
 match Bs (Di fr.t keep) (Dj h HK kb) nx pl0 s with
 | (t1,h1,nx1)=>bif !Nat.ble nx1 1048575 then none else Lp P tab ann f rec n (LR (DC pl1) (Nat×DC plx×pay.den)) nx1 x { fr with t:=t1 } h1 nx1 λe fr' h' _ =>
  bif !Nat.beq fr'.ds.length fr.ds.length || !Kz h' (Ln h kb) then none else match e with
  | .normal=>bif D6 (Ce fr'.t h' pl1++kb)&&KZ h' (D7 h kb) then GO fr'.t h' pl1 λs'=>some (.nx s') else none
  | e=>bif D6 (Ce fr'.t h' plx++kb) then Ma h' ((D7 h kb).map (·.1)) e pay 0 ex λi p=>GO fr'.t h' plx λs'=>some (.dn (i,s',p)) else none
theorem RD {n:Nat} {keep:List Nat} {pl0 pl1 plx:List Pl} {ex:List (ExK×List (Nat×Nat×Option Code))} {pay:Ty} {kb:List Nat} {c:Code} {fr:FrA} {h:H} {nx bP:Nat} (B:UK P tab ann f rec n c) {X:Cx} (rX:RH X h nx) (hnx:nx<=1048575) (hbig:fr.nt<1048575) (hup:fr.up=none) (hkb : ∀ i∈kb,i<nx) (hids : ∀ i∈BM pl0,i<nx) (hids1 : ∀ i∈BM pl1,i<nx) (hidsx : ∀ i∈BM plx,i<nx) (hsl:CB fr.nt nx pl1=true) (hslx:CB fr.nt nx plx=true) (hdis : ∀ i∈kb,i ∉ BM pl0) (hwr : ∀ k∈Eu c,k ∉ keep) (hkeep : ∀ k∈keep,k<1048575) (hdf:NP h kb=true) (hbP:bP<=X.h.nx)
  {W:Cx} {fp:Pi.Fr} {s:DC pl0} (I:It P X h nx bP fr kb keep pl0 (D7 h kb) W fp s) {r:LR (DC pl1) (Nat×DC plx×pay.den)} (e:lN P tab ann f rec n keep pl0 pl1 plx ex pay kb c fr h nx s=some r) :
  ∃ Y fp' exP,PX P tab c fp W.h (exP,fp',Y.h)/\((∃ s',r = .nx s'/\exP = .normal/\It P X h nx bP fr kb keep pl1 (D7 h kb) Y fp' s') \/
   ∃ j k lp y s',r = .dn (j,s',y)/\ex[j]? = some (k,lp)/\exP ≠ .normal/\lp.map (·.1)=(D7 h kb).map (·.1)/\It P X h nx bP fr kb keep plx lp Y fp' s' /\ ∀ Z:Cx,Z.h=Y.h->Z.O=Y.O->TS Z (Qx pay y k) exP):=by
 have hkb' : ∀ j∈kb,j<1048575:=λj hj=>by have:=hkb j hj;omega
 unfold lN at e;generalize hL:Bs (Di fr.t keep) (Dj h HK kb) nx pl0 s=L at e;obtain ⟨t1,h1,nx1⟩:=L;simp only at e;replace e:=C4 e;obtain ⟨hb,e⟩:=e;have hb':nx1<=1048575:=by simpa using hb
 have hbase:UI h kb (D7 h kb) (Dj h HK kb):=λi c hi=>by
  obtain ⟨k1,d,k2,rfl,k3⟩:=G9 hkb' hi;refine ⟨k1,d,k2,k3,.inr ⟨d,?_,rfl⟩⟩;cases d with
  | lp st pd nt t ps asg body dd=>exact ⟨st,pd,IJ k1 k2,rfl⟩
  | _=>rfl
 obtain ⟨Z,z1,z2,z3,z4,z5,z6,z7⟩:=I.lay hbig hup hkb hbase (by rw [hL];exact hb');rw [hL] at z2 z3 z7;simp only at z2 z3 z7;obtain ⟨exx,fr',h',nx',Y,exP,fp',hP',q1,q2,q3,q4,q5⟩:=B e z2 hb' z3 (Nat.le_refl _) (bP:=bP) (by rw [z1];exact Nat.le_trans hbP I.ext.nx);replace q1:=C4 q1;obtain ⟨hck,q1⟩:=q1;simp only [Bool.or_eq_false_iff,Bool.not_eq_false'] at hck;obtain ⟨c1,c3⟩:=hck
 have hKZ:fY X h kb nx (D7 h kb) Z:=λi d hi hk hlv=>by
  obtain ⟨hW,nW,src,rW,hK,_⟩:=I.go;obtain ⟨k1,k2⟩:=hK i d hi hk hlv;refine ⟨by rw [z5 i (hkb i hk)];exact k1,λc' hc' => ?_⟩
  have hlow:Z.low nx=W.low nx:=by
   unfold Cx.low;rw [z1,z6]
   congr 1
   funext j
   by_cases hj:j<nx
   ·simp only [hj,if_true];exact z5 j hj
   ·simp only [hj,if_false]
  rw [hlow,z5 i (hkb i hk)];exact k2 c' hc'
 have h1k : ∀ i d,h.get i=some d->i∈kb->d.live->h1.get i=some (HK d):=λi d hi hk hlv=>by
  have:=NT (i:=i) (pl:=pl0) (tc:=Di fr.t keep) (hc:=Dj h HK kb) (nc:=nx) (s:=s) (hkb i hk) (hdis i hk) (by rw [hL];exact hb') (λj hj=>by have:=hids j hj;omega);rw [hL] at this;rw [this];exact IK hkb' hk hi hlv
 have hXs : ∀ i d,h.get i=some d->d.live -> ∃ a,X.π i=some a:=λi d hi hlv=>(rX.blk i d hi).live_blk hlv;obtain ⟨N,hN⟩:=q2;have kp:Kp (Eu c) fp fp':=FT (by rw [I.nt];exact hbig) (hN N N N (Nat.le_refl _) (Nat.le_refl _) (Nat.le_refl _))
 have hds:fp'.ds=fp.ds:=by
  obtain ⟨p,hp⟩:=kp.ds;have l1:=q4.ds.length;have l2:=I.ds.length;have l3:=Nat.eq_of_beq_eq_true c1;rw [hp] at l1 ⊢;simp only [List.length_append] at l1;have:p=[]:=List.length_eq_zero_iff.1 (by omega);rw [this];rfl
 have upWY:Up (W.low nx) (Y.low nx):=by
  have u1:Up (W.low nx) (Z.low nx):=by
   refine ⟨λi a hi => ?_,z4.rows⟩;by_cases hn:i<nx
   ·rw [Cx.low_eq hn] at hi ⊢;rw [z5 i hn];exact hi
   ·rw [Cx.low_ge hn] at hi;cases hi
  exact u1.trans (Vy z7 q3.ext)
 have extZ:Ext nx bP W .lf Z .lf:=⟨z4,λj hj k=>by rw [z5 j hj];exact k,λq _ k=>by rw [z1];exact k,by rw [z1];exact Nat.le_refl _,λ_ _ k=>(by cases k),λq st pe nt t ps asg body d k=>⟨st,pe,by rw [z1];exact k⟩⟩
 have extY:Ext nx bP Z .lf Y .lf:=by
  have:=q3.ext.le (b:=nx) (bP:=bP) z7 (Nat.le_refl _);exact ⟨this.up,this.pin,this.hpn,this.nx,λ_ _ k=>(by cases k),this.lps⟩
 have ext2:=(I.ext.trans extZ).trans extY
 have mk : ∀ {pl1:List Pl} {lp:List (Nat×Nat×Option Code)},(∀ i∈BM pl1,i<nx)->CB fr.nt nx pl1=true->D6 (Ce fr'.t h' pl1++kb)=true->KZ h' lp=true->lp.map (·.1)=(D7 h kb).map (·.1) -> ∀ {γ:Type} {y:γ} {K:DC pl1->Option γ},GO fr'.t h' pl1 K=some y -> ∃ s',K s'=some y/\It P X h nx bP fr kb keep pl1 lp Y fp' s':=by
  intro pl1 lp hids1 hsl c2 hl hli γ y K hdec;obtain ⟨hKY,hlY⟩:=Wx hdf hkb hKZ h1k hXs q3.ext z7 q3.rh c3 hl hli;obtain ⟨s',e1,hlay⟩:=Mf (nx0:=nx) q3.rh hnx q4.t q4.big (by rw [<- q4.nt,kp.nt,I.nt];exact hsl) hids1 hdec;refine ⟨s',e1,⟨⟨h',nx',Ce fr'.t h' pl1,q3.rh,hKY,hlY,Fv c2,hlay⟩,Wy hkeep (I.t.mono upWY) (λk hk=>kp.t k λhw=>hwr k hw hk),?_,by rw [kp.nt];exact I.nt,kp.up I.up,by rw [kp.ro];exact I.ro.mono upWY,ext2⟩⟩;rw [hds];exact I.ds.mono λ_ _ k=>k.mono upWY
 have hpx:PX P tab c fp W.h (exP,fp',Y.h):=by
  refine ⟨N,?_⟩;rw [q3.hp,<- z1];exact hN
 cases exx with
 | normal =>
  simp only at q1;replace q1:=A3 q1;obtain ⟨hl,q1⟩:=q1;rw [Bool.and_eq_true] at hl;obtain ⟨s',e1,I'⟩:=mk hids1 hsl hl.1 hl.2 rfl q1;cases e1;exact ⟨Y,fp',exP,hpx,.inl ⟨s',rfl,q5,I'⟩⟩
 | _ =>
  simp only at q1;replace q1:=A3 q1;obtain ⟨c2,q1⟩:=q1;obtain ⟨j,k,lp,y,f1,f2,f3,f4,f5⟩:=P0 q5 q1;obtain ⟨s',e1,I'⟩:=mk hidsx hslx c2 f2 f3 f4;cases e1;refine ⟨Y,fp',exP,hpx,.inr ⟨0+j,k,lp,y,s',rfl,by rw [Nat.zero_add];exact f1,λhh=>(by rw [hh] at q5;simp [TS] at q5),f3,I',f5⟩⟩
theorem V2 {n:Nat} {tm:Tm} {kb:List Nat} {c:Code} {fr:FrA} {h:H} {nx bP:Nat} (B:UK P tab ann f rec n c) {X:Cx} (rX:RH X h nx) (hnx:nx<=1048575) (hbig:fr.nt<1048575) (hup:fr.up=none) (hkb : ∀ i∈kb,i<nx) (hids : ∀ i∈BM tm.pl,i<nx) (hidsx : ∀ i∈BM tm.plx,i<nx) (hsl:CB fr.nt nx tm.pl=true) (hslx:CB fr.nt nx tm.plx=true) (hdis : ∀ i∈kb,i ∉ BM tm.pl) (hwr : ∀ k∈Eu c,k ∉ tm.keep) (hkeep : ∀ k∈tm.keep,k<1048575) (hdf:NP h kb=true) (hbP:bP<=X.h.nx) :
  ∀ {m:Nat} {W:Cx} {fp:Pi.Fr} {s:DC tm.pl} {r:Nat×DC tm.plx×tm.pay.den},It P X h nx bP fr kb tm.keep tm.pl (D7 h kb) W fp s->Df m (lN P tab ann f rec n tm.keep tm.pl tm.pl tm.plx tm.ex tm.pay kb c fr h nx) s=some r ->
   ∃ Y fp' exP j k lp y s',PX P tab (.loop c) fp W.h (exP,fp',Y.h)/\r=(j,s',y)/\tm.ex[j]? = some (k,lp)/\lp.map (·.1)=(D7 h kb).map (·.1)/\It P X h nx bP fr kb tm.keep tm.plx lp Y fp' s' /\ ∀ Z:Cx,Z.h=Y.h->Z.O=Y.O->TS Z (Qx tm.pay y k) exP
 | 0,W,fp,s,r,I,e=>(UJ e).elim
 | m+1,W,fp,s,r,I,e=>by
  unfold Df at e;split at e
  ·cases e
  ·rename_i s1 hr;obtain ⟨Y,fp1,exP,hpx,hc | ⟨j,k,lp,y,s',h1,_⟩⟩:=RD B rX hnx hbig hup hkb hids hids hidsx hsl hslx hdis hwr hkeep hdf hbP I hr
   ·obtain ⟨s',h1,rfl,I'⟩:=hc;cases h1;obtain ⟨Y2,fp2,exP2,j,k,lp,y,s2,k1,k2,k3,k4,k5,k6⟩:=V2 B rX hnx hbig hup hkb hids hidsx hsl hslx hdis hwr hkeep hdf hbP I' e;refine ⟨Y2,fp2,exP2,j,k,lp,y,s2,?_,k2,k3,k4,k5,k6⟩;obtain ⟨N1,a1⟩:=hpx;obtain ⟨N2,a2⟩:=k1;refine ⟨max N1 N2+1,λmm F nn hm hF hn => ?_⟩;obtain ⟨mm,rfl⟩ : ∃ m',mm=m'+1:=⟨mm-1,by omega⟩;rw [Pi.exec];simp only [a1 mm F nn (by omega) (by omega) (by omega)];exact a2 mm F nn (by omega) (by omega) (by omega)
   ·cases h1
  ·rename_i x1 hr;cases e;obtain ⟨Y,fp1,exP,hpx,⟨s',h1,_⟩ | ⟨j,k,lp,y,s',h1,h2,h3,h4,h5,h6⟩⟩:=RD B rX hnx hbig hup hkb hids hids hidsx hsl hslx hdis hwr hkeep hdf hbP I hr
   ·cases h1
   ·cases h1;refine ⟨Y,fp1,exP,j,k,lp,y,s',?_,rfl,h2,h4,h5,h6⟩;obtain ⟨N1,a1⟩:=hpx;refine ⟨N1+1,λmm F nn hm hF hn => ?_⟩;obtain ⟨mm,rfl⟩ : ∃ m',mm=m'+1:=⟨mm-1,by omega⟩;rw [Pi.exec];simp only [a1 mm F nn (by omega) (by omega) (by omega)];cases exP with
    | normal=>exact absurd rfl h3
    | _=>rfl
theorem SX {h:H} {n i:Nat} {l:List Nat} {c:BA} (hi:i<n) (hg:h.get i=some c) (hk:c.locked=true):i∈Gv h n l:=by
 unfold Gv;by_cases hm:i∈l
 ·exact List.mem_append_left _ hm
 ·refine List.mem_append_right _ (List.mem_filter.2 ⟨List.mem_range.2 hi,?_⟩);simp only [hg,hk,Bool.true_and,Bool.not_eq_true',List.any_eq_false];intro x hx hb;exact hm (by rw [Nat.eq_of_beq_eq_true hb];exact hx)
theorem ZE {h h1:Hp} {k i:Nat} {b:Blk} (e:h.new i b=some h1):({ h with nx:=h.nx+k }:Hp).new i b=some { h1 with nx:=h1.nx+k }:=by
 unfold Pi.Hp.new Pi.Hp.set at *;dsimp only at *;split at e
 ·rename_i hg;replace e:=A3 e;obtain ⟨hb,e⟩:=e;cases e;rw [hb];rfl
 ·cases e
theorem RH.setLp {X:Cx} {h:H} {n id pid m st nt d dP st':Nat} {pend pend':Option Code} {t:T V} {tP:T PV} {ps:List Nat} {asg body:Code} (r:RH X h n) (hn:n<=1048575) (e0:h.get id=some (.lp st pend nt t ps asg body d)) (hp:X.π id=some (.blk pid m)) (hb0:X.h.get pid=some (.lp st pend nt tP ps asg body dP)) {hP:Hp} (e:X.h.set pid (.lp st' pend' nt tP ps asg body dP)=some hP) (b bP:Nat) :
  ∃ Y:Cx,Y.π=X.π/\Y.h=hP/\Y.O=X.O/\Up X Y/\RH Y (Ad h id (.lp st' pend' nt t ps asg body d)) n/\Ext b bP X h Y (Ad h id (.lp st' pend' nt t ps asg body d)):=by
 have hid:id<1048575:=by have:=r.dom _ _ hp;omega
 have hl:(BA.lp st pend nt t ps asg body d).live:=trivial;obtain ⟨g1,g2⟩:=Hp.get_set e;have hO:X.O pid:=(hp ▸ r.blk _ _ e0).own hl
 let Y:Cx:={ π:=X.π,h:=hP,O:=X.O }
 have u:Up X Y:=⟨λ_ _ h=>h,λq es ex fz hq hg=>⟨⟨fz,by
  show hP.get q=_
  rw [g1,if_neg (by intro hh;subst hh;exact hq hO),hg]⟩,hq⟩⟩
 refine ⟨Y,rfl,rfl,rfl,u,⟨λi bb hi => ?_,λi i' bb bb' q m1 m2 hi hi' l1 l2 => ?_,r.dom,λq hq => ?_,λq hq=>by
  show hP.get q≠none;rw [g1];split
  ·simp
  ·exact r.ob _ hq⟩,⟨(Up.low X b).trans u,λ_ _ h=>h,λq hq hn => ?_,?_,λj bb hj hlk => ?_,λq st pe nt t ps asg body d hq => ?_⟩⟩
 ·rw [Al hid] at hi;by_cases hii:i=id
  ·rw [if_pos hii] at hi;cases hi;subst hii;have:=r.blk _ _ e0;obtain ⟨pid',n',tP',dP',m',h1,h2,h3,h4,h5,h6⟩:=this;rw [hp] at h1;cases h1;rw [hb0] at h3;cases h3;exact ⟨_,_,_,_,_,hp,h2,by show hP.get _=_;rw [g1,if_pos rfl],h4.mono u,h5,h6⟩
  ·rw [if_neg hii] at hi;by_cases hlv:bb.live
   ·refine (r.blk _ _ hi).keep u λq m' hq hO'=>⟨?_,hO'⟩;show hP.get q=_;rw [g1,if_neg];intro hh;subst hh;exact hii (r.inj _ _ _ _ _ _ _ hi e0 hlv hl hq hp)
   ·cases bb with
    | dead =>
     intro q m' hq;obtain ⟨k1,k2⟩:=r.blk _ _ hi q m' hq;refine ⟨k1,?_⟩;show hP.get q=_;rw [g1,if_neg (by intro hh;subst hh;rw [hb0] at k2;cases k2)];exact k2
    | _=>exact absurd trivial hlv
 ·rw [Al hid] at hi hi';by_cases h1:i=id
  ·by_cases h2:i'=id
   ·intro _ _;rw [h1,h2]
   ·rw [if_neg h2] at hi';subst h1;intro a1 a2;exact r.inj _ _ _ _ _ _ _ e0 hi' hl l2 a1 a2
  ·rw [if_neg h1] at hi;by_cases h2:i'=id
   ·subst h2;intro a1 a2;exact r.inj _ _ _ _ _ _ _ hi e0 l1 hl a1 a2
   ·rw [if_neg h2] at hi';exact r.inj _ _ _ _ _ _ _ hi hi' l1 l2
 ·show hP.get q=none;have hq':X.h.nx<=q:=by rw [<- g2];exact hq
  rw [g1,if_neg (by intro hh;subst hh;rw [r.fresh _ hq'] at hb0;cases hb0)];exact r.fresh _ hq'
 ·show hP.get q=none;rw [g1,if_neg (by intro hh;subst hh;rw [hn] at hb0;cases hb0)];exact hn
 ·show X.h.nx<=hP.nx;rw [g2];exact Nat.le_refl _
 ·rw [Al hid];rw [if_neg (by intro hh;subst hh;rw [e0] at hj;cases hj;cases hlk)];exact hj
 ·by_cases hh:q=pid
  ·subst hh;rw [hb0] at hq;cases hq;exact ⟨_,_,by show hP.get _=_;rw [g1,if_pos rfl]⟩
  ·exact ⟨st,pe,by show hP.get _=_;rw [g1,if_neg hh];exact hq⟩
theorem OP {h:H} {nt d st0:Nat} {pd0:Option Code} {t:T V} {ps:List Nat} {asg body:Code} {i:Nat} (hg:h.get i=some (.lp st0 pd0 nt t ps asg body d)) : ∀ {l:List (Nat×Nat×Option Code)},(∀ p∈l,p.1<1048575)->i∈l.map (·.1) -> ∃ st pd,(i,st,pd)∈l/\(Fs h l).get i=some (.lp st pd nt t ps asg body d)
 | (j,st,pd)::l,hl,hm=>by
  have hj:=hl (j,st,pd) (by simp);unfold Fs;by_cases hij:i=j
  ·subst hij;rw [hg];exact ⟨st,pd,by simp,by simp only;rw [Al hj,if_pos rfl]⟩
  ·have hm':i∈l.map (·.1):=by
    rcases List.mem_cons.1 hm with e | hm
    ·exact absurd e hij
    ·exact hm
   obtain ⟨st',pd',h1,h2⟩:=OP hg (λp hp=>hl p (by simp [hp])) hm';refine ⟨st',pd',by simp [h1],?_⟩;split
   ·rw [Al hj,if_neg hij];exact h2
   ·exact h2
theorem Il {h:H} : ∀ {l:List Nat} {i st:Nat} {pd:Option Code},(i,st,pd)∈D7 h l->i∈l /\ ∃ nt t ps asg body d,h.get i=some (.lp st pd nt t ps asg body d)
 | j::l,i,st,pd,hm=>by
  unfold D7 at hm;split at hm
  ·rename_i hg;rcases List.mem_cons.1 hm with e | hm
   ·cases e;exact ⟨by simp,_,_,_,_,_,_,hg⟩
   ·have:=Il hm;exact ⟨by simp [this.1],this.2⟩
  ·have:=Il hm;exact ⟨by simp [this.1],this.2⟩
theorem V3 {n b bP:Nat} {β:Type} {x:β} (hn:n<=1048575) : ∀ {l:List Nat} {X:Cx} {h:H} {fr:FrA} {fp:Pi.Fr} {K:FrA->H->Option β},RH X h n->FR X fr fp->fK n l fr h K=some x -> ∃ fr' h' Y,K fr' h'=some x/\Y.h=X.h/\Up X Y/\RH Y h' n/\FR Y fr' fp/\Ext b bP X h Y h'
 | [],X,h,fr,fp,K,r,F,e=>⟨fr,h,X,e,rfl,Up.refl X,r,F,Ext.refl _ _ _ _⟩
 | k::l,X,h,fr,fp,K,r,F,e=>by
  unfold fK at e;replace e:=A3 e;obtain ⟨hk,e⟩:=e;have hk':k<1048575:=by simpa using hk
  replace e:=AX e;obtain ⟨v,hv,e⟩:=e;obtain ⟨p,hp,hvr⟩:=F.t _ _ hv;obtain ⟨v',h',Y,e,y1,y2,y3,y4,y5,y6,y7⟩:=V0 (b:=b) (bP:=bP) r hn hvr e;have F':=F.mono y3
  have F2:FR Y { fr with t:=T.put 20 fr.t k v' } fp:=⟨λi w hi=>by
   have h20:(2:Nat) ^ 20-1=1048575:=by decide
   have hi':(T.put 20 fr.t k v').get i=some w:=hi;rw [T.get_put 20 fr.t k v' i (by omega)] at hi';by_cases hik:i=k
   ·rw [if_pos hik] at hi';cases hi';rw [hik];exact ⟨p,hp,y6⟩
   ·rw [if_neg hik] at hi';exact F'.t i w hi',F'.nt,F'.big,F'.ds,F'.up,F'.ro⟩
  obtain ⟨fr2,h2,Z,e,z1,z2,z3,z4,z5⟩:=V3 hn (l:=l) y4 F2 e;exact ⟨fr2,h2,Z,e,by rw [z1,y2],y3.trans z2,z3,z4,y5.trans z5⟩
theorem GS {t:T V} {h:H} : ∀ {l:List Pl} {i:Nat},i∈BM l->i∈Ce t h l
 | [],_,hm=>by cases hm
 | p::l,i,hm=>by
  cases p with
  | slot k g c=>exact GS (l:=l) (by simpa [BM] using hm)
  | srow k g c ex =>
   have:=GS (t:=t) (h:=h) (l:=l) (i:=i) (by simpa [BM] using hm);simp only [Ce];exact List.mem_append_right _ this
  | swin k g c =>
   have:=GS (t:=t) (h:=h) (l:=l) (i:=i) (by simpa [BM] using hm);simp only [Ce];exact List.mem_append_right _ this
  | box id sg =>
   simp only [BM,List.mem_cons] at hm;simp only [Ce];refine List.mem_append_right _ ?_;rcases hm with rfl | hm
   ·simp
   ·exact List.mem_cons_of_mem _ (GS hm)
  | map id k g c =>
   simp only [BM,List.mem_cons] at hm;simp only [Ce];rcases hm with rfl | hm
   ·simp
   ·exact List.mem_cons_of_mem _ (GS hm)
theorem It.entry {X:Cx} {h:H} {nx bP:Nat} {fr:FrA} {fp:Pi.Fr} {kb keep:List Nat} {pl:List Pl} (r:RH X h nx) (hnx:nx<=1048575) (F:FR X fr fp) (hup:fr.up=none) (hkb : ∀ i∈kb,i<nx) (hsl:CB fr.nt nx pl=true) (hids : ∀ i∈BM pl,i<nx) (hnd:(Ce fr.t h pl++kb).Nodup) (hkeep : ∀ k∈keep,k<1048575) {γ:Type} {y:γ} {K:DC pl->Option γ} (e:GO fr.t h pl K=some y) :
  ∃ s,K s=some y/\It P X h nx bP fr kb keep pl (D7 h kb) X fp s:=by
 have ul:=Up.toLow r (Nat.le_refl _);obtain ⟨s,e1,hlay⟩:=Mf (nx0:=nx) r hnx F.t F.big hsl hids e;refine ⟨s,e1,⟨⟨h,nx,Ce fr.t h pl,r,λi c hi hk hlv=>⟨rfl,λc' hc' => ?_⟩,λi c hi hk hlv=>⟨c,hi,hlv⟩,hnd,hlay⟩,λk v hk => ?_,F.ds.mono λ_ _ k=>k.mono ul,F.nt,by have:=F.up;rw [hup] at this;exact this,F.ro.mono ul,?_⟩⟩
 ·have:c'=c:=by
   cases c with
   | lp st pd nt t ps asg body d =>
    obtain ⟨st',pd',hm,rfl⟩:=hc';obtain ⟨_,_,_,_,_,_,_,hg⟩:=Il hm;rw [hi] at hg;cases hg;rfl
   | _=>exact hc'
  subst this;exact (r.blk _ _ hi).keep ul λ_ _ _ hO=>⟨rfl,hO⟩
 ·exact F.t.mono ul k v (Me hkeep hk).2
 ·exact ⟨Up.low X nx,λ_ _ h=>h,λ_ _ h=>h,Nat.le_refl _,λ_ _ k=>(by cases k),λq st pe nt t ps asg body d k=>⟨st,pe,k⟩⟩
theorem OQ {keep kb0:List Nat} {pl:List Pl} {fr:FrA} {h:H} {nx b bP:Nat} {X:Cx} (r:RH X h nx) (hn:nx<=1048575) (hbig:fr.nt<1048575) (hup:fr.up=none) (hkb : ∀ i∈Gv h nx kb0,i<nx) (hids : ∀ i∈BM pl,i<nx) (hdis : ∀ i∈Gv h nx kb0,i ∉ BM pl) (hb:b<=nx)
  {lp:List (Nat×Nat×Option Code)} (hlpi:lp.map (·.1)=(D7 h (Gv h nx kb0)).map (·.1)) {Y:Cx} {fp':Pi.Fr} {s':DC pl} (I':It P X h nx bP fr (Gv h nx kb0) keep pl lp Y fp' s') {β:Type} {x:β} {k:T V->H->Nat->Option β}
  (e1:(match Bs (Di fr.t keep) (Fs (Dj h (λb=>b) (Gv h nx kb0)) lp) nx pl s' with
   | (t1,h1,nx1)=>bif !Nat.ble nx1 1048575 then none else k t1 h1 nx1)=some x) :
  ∃ t1 h1 nx1 Z,k t1 h1 nx1=some x/\Z.h=Y.h/\Z.O=Y.O/\FR Z { fr with t:=t1 } fp'/\A7 b bP X h nx Z h1 nx1 Z.h:=by
 generalize hL:Bs (Di fr.t keep) (Fs (Dj h (λb=>b) (Gv h nx kb0)) lp) nx pl s'=L at e1;obtain ⟨t1,h1,nx1⟩:=L;simp only at e1;replace e1:=C4 e1;obtain ⟨hb1,e1⟩:=e1;have hb':nx1<=1048575:=by simpa using hb1
 have hkb' : ∀ j∈Gv h nx kb0,j<1048575:=λj hj=>by have:=hkb j hj;omega
 have hlpb : ∀ p∈lp,p.1∈Gv h nx kb0:=λp hp=>by
  have:p.1∈lp.map (·.1):=List.mem_map.2 ⟨p,hp,rfl⟩;rw [hlpi] at this;obtain ⟨⟨i,st,pd⟩,h1,h2⟩:=List.mem_map.1 this;simp only at h2;rw [<- h2];exact (Il h1).1
 have hbase:UI h (Gv h nx kb0) lp (Fs (Dj h (λb=>b) (Gv h nx kb0)) lp):=λi c hi=>by
  rcases K8 (h:=Dj h (λb=>b) (Gv h nx kb0)) (l:=lp) (i:=i) (λp hp=>hkb' _ (hlpb p hp)) with hg | ⟨st,pd,nt,t,ps,asg,body,d,st0,pd0,hm,hg,hs⟩
  ·rw [hg] at hi;obtain ⟨k1,d,k2,hcd,k3⟩:=G9 hkb' hi;have hcd:d=c:=hcd.symm;subst hcd;refine ⟨k1,_,k2,k3,.inl ?_⟩;cases d with
   | lp st pd nt t ps asg body d =>
    have h0:=IK (f:=λb=>b) hkb' k1 k2 k3
    have hm:i∈lp.map (·.1):=by
     rw [hlpi];exact List.mem_map.2 ⟨_,IJ k1 k2,rfl⟩
    obtain ⟨st',pd',m1,m2⟩:=OP h0 (λp hp=>hkb' _ (hlpb p hp)) hm;rw [hg,h0] at m2;cases m2;exact ⟨st,pd,m1,rfl⟩
   | _=>rfl
  ·rw [hs] at hi;cases hi;obtain ⟨k1,d',k2,k3,k4⟩:=G9 hkb' hg;subst k3;exact ⟨k1,_,k2,k4,.inl ⟨st,pd,hm,rfl⟩⟩
 obtain ⟨Z,z1,z2,z3,z4,z5,z6,z7⟩:=I'.lay hbig hup hkb hbase (by rw [hL];exact hb');rw [hL] at z2 z3 z7;simp only at z2 z3 z7;refine ⟨t1,h1,nx1,Z,e1,z1,z6,z3,⟨rfl,z2,hb',z7,?_⟩⟩;have extZ:Ext nx bP Y .lf Z .lf:=⟨z4,λj hj k=>by rw [z5 j hj];exact k,λq _ k=>by rw [z1];exact k,by rw [z1];exact Nat.le_refl _,λ_ _ k=>(by cases k),λq st pe nt t ps asg body d k=>⟨st,pe,by rw [z1];exact k⟩⟩;have ext2:=(I'.ext.trans extZ).le hb (Nat.le_refl bP);refine ⟨ext2.up,ext2.pin,ext2.hpn,ext2.nx,λi c hi hlk => ?_,ext2.lps⟩;have hlv:c.live:=by cases c<;>first | trivial | cases hlk
 obtain ⟨at',hat⟩:=(r.blk _ _ hi).live_blk hlv;have hi':=r.dom _ _ hat;have hk:=SX (l:=kb0) hi' hi hlk;have h2:=NT (i:=i) (pl:=pl) (tc:=Di fr.t keep) (hc:=Fs (Dj h (λb=>b) (Gv h nx kb0)) lp) (nc:=nx) (s:=s') hi' (hdis i hk) (by rw [hL];exact hb') (λj hj=>by have:=hids j hj;omega);rw [hL] at h2;simp only at h2;rw [h2];have h3:=IK (f:=λb=>b) hkb' hk hi hlv;rcases K8 (h:=Dj h (λb=>b) (Gv h nx kb0)) (l:=lp) (i:=i) (λp hp=>hkb' _ (hlpb p hp)) with hg | ⟨st,pd,nt,t,ps,asg,body,d,st0,pd0,hm,hg,hs⟩
 ·rw [hg];exact h3
 ·rw [h3] at hg;cases hg;cases hlk
theorem UL (R:RecAOK P tab rec) (T:TabOK P tab) (D:DrawnAOK P tab) : ∀ (n:Nat) (c:Code),UK P tab ann f rec n c:=by
 intro n
 induction n with
 | zero =>
  intro c β x b bP fr h nx K e;cases e
 | succ n ih =>
  intro c β x b bP fr h nx K e X fp r hn F hb hbP
  have fin : ∀ {ex:ExA} {exP:Pi.Ex},K ex fr h nx=some x->TS X ex exP->(∀ m FF nn,Pi.exec P (Bc tab) (Pi.EQ P (Bc tab) FF nn) (m+1) c fp X.h=some (exP,fp,X.h))->jL P tab b bP c X h nx fp K x:=λe hx hp =>
   ⟨_,fr,h,nx,X,_,fp,X.h,e,⟨1,λm FF nn hm _ _=>by obtain ⟨m,rfl⟩ : ∃ m',m=m'+1:=⟨m-1,by omega⟩;exact hp m FF nn⟩,⟨rfl,r,hn,Nat.le_refl _,Ext.refl _ _ _ _⟩,F,hx⟩
  cases c with
  | skip=>exact fin e rfl λ_ _ _=>rfl
  | label l=>exact fin e rfl λ_ _ _=>rfl
  | exit i=>exact fin e rfl λ_ _ _=>rfl
  | goto i=>exact fin e rfl λ_ _ _=>rfl
  | ret=>exact fin e rfl λ_ _ _=>rfl
  | refuse w=>cases e
  | seq a d =>
   simp only [Lp] at e;split at e
   ·rename_i tm htm;replace e:=C4 e;obtain ⟨hck,e⟩:=e;simp only [Bool.or_eq_false_iff,Bool.not_eq_false'] at hck;obtain ⟨⟨⟨⟨⟨⟨⟨⟨c1,c2⟩,c2'⟩,c3⟩,c4⟩,c5⟩,c6⟩,c7⟩,c8⟩:=hck
    have hup:fr.up=none:=by
     cases hu:fr.up with
     | none=>rfl
     | some u=>rw [hu] at c1;cases c1
    have hall : ∀ i∈Gv h nx tm.kb++(BM tm.pl0++BM tm.pl1),i<nx:=λi hi=>by
     have:=List.all_eq_true.1 c6 i hi;simpa using this
    have hkb : ∀ i∈Gv h nx tm.kb,i<nx:=λi hi=>hall i (List.mem_append_left _ hi);have hids : ∀ i∈BM tm.pl0,i<nx:=λi hi=>hall i (List.mem_append_right _ (List.mem_append_left _ hi));have hids1 : ∀ i∈BM tm.pl1,i<nx:=λi hi=>hall i (List.mem_append_right _ (List.mem_append_right _ hi));have hnd:=Fv c5;have hdis : ∀ i∈Gv h nx tm.kb,i ∉ BM tm.pl0:=λi hi hm=>(List.nodup_append.1 hnd).2.2 i (GS hm) i hi rfl
    have hdis1 : ∀ i∈Gv h nx tm.kb,i ∉ BM tm.pl1:=λi hi hm=>by
     have:=List.any_eq_false.1 c8 i hi;simp only [Bool.not_eq_true,List.any_eq_false] at this;have:=this i (List.mem_append_right _ hm);simp at this
    have hkeep : ∀ k∈tm.keep,k<1048575:=λk hk=>by
     have:=List.all_eq_true.1 c3 k hk;simpa using this
    have hwr : ∀ k∈Eu a,k ∉ tm.keep:=λk hk hm=>by
     have:=List.any_eq_false.1 c4 k hk;simp only [Bool.not_eq_true,List.any_eq_false] at this;have:=this k hm;simp at this
    obtain ⟨s0,e,I⟩:=It.entry (P:=P) (bP:=bP) r hn F hup hkb c2 hids hnd hkeep e;replace e:=fa e;rcases e with ⟨s1,hr,e⟩ | ⟨⟨j,s',y⟩,hr,e⟩
    ·obtain ⟨Y,fp',exP,hpx,hc | ⟨j,k,lp,y,s',h1,_⟩⟩:=RD (keep:=tm.keep) (pl0:=tm.pl0) (pl1:=tm.pl1) (plx:=tm.pl1) (ex:=tm.ex) (pay:=tm.pay) (ih a) r hn F.big hup hkb hids hids1 hids1 c2' c2' hdis hwr hkeep c7 hbP I hr
     ·obtain ⟨s',h1,rfl,I'⟩:=hc;cases h1;obtain ⟨t1,h1,nx1,Z,e2,z1,z6,z3,run⟩:=OQ (b:=b) (k:=λt h n'=>Lp P tab ann f rec n β b d { fr with t:=t } h n' K) r hn F.big hup hkb hids1 hdis1 hb rfl I' e
      obtain ⟨N1,hN⟩:=hpx;obtain ⟨ex2,fr2,h2,nx2,Y2,exP2,fp2,hP2,p1,⟨N2,p2⟩,p3,p4,p5⟩:=ih d e2 run.rh run.big z3 (Nat.le_trans hb run.le) (Nat.le_trans hbP run.ext.nx);refine ⟨ex2,fr2,h2,nx2,Y2,exP2,fp2,hP2,p1,⟨max N1 N2+1,λm FF nn hm hF hnn => ?_⟩,⟨p3.hp,p3.rh,p3.big,Nat.le_trans run.le p3.le,run.ext.trans p3.ext⟩,p4,p5⟩;obtain ⟨m,rfl⟩ : ∃ m',m=m'+1:=⟨m-1,by omega⟩;rw [Pi.exec];simp only [hN m FF nn (by omega) (by omega) (by omega)];rw [<- z1];exact p2 m FF nn (by omega) (by omega) (by omega)
     ·cases h1
    ·obtain ⟨Y,fp',exP,hpx,⟨s1,h1,_⟩ | ⟨j',k,lp,y',s'',h1,hex,h3,hlpi,I',hends⟩⟩:=RD (keep:=tm.keep) (pl0:=tm.pl0) (pl1:=tm.pl1) (plx:=tm.pl1) (ex:=tm.ex) (pay:=tm.pay) (ih a) r hn F.big hup hkb hids hids1 hids1 c2' c2' hdis hwr hkeep c7 hbP I hr
     ·cases h1
     ·cases h1;have e1:=OO (i:=0) (j:=j) hex (by rw [Nat.zero_add];exact e);obtain ⟨t1,h1,nx1,Z,e2,z1,z6,z3,run⟩:=OQ (b:=b) (k:=λt h n'=>K (Qx tm.pay y k) { fr with t:=t } h n') r hn F.big hup hkb hids1 hdis1 hb hlpi I' e1
      obtain ⟨N,hN⟩:=hpx;refine ⟨_,_,h1,nx1,Z,exP,fp',Z.h,e2,⟨N+1,λm FF nn hm hF hnn => ?_⟩,run,z3,hends Z z1 z6⟩;obtain ⟨m,rfl⟩ : ∃ m',m=m'+1:=⟨m-1,by omega⟩;rw [Pi.exec];simp only [hN m FF nn (by omega) (by omega) (by omega)];rw [z1];cases exP with
      | normal=>exact absurd rfl h3
      | _=>rfl
   ·obtain ⟨ex,fr1,h1,nx1,Y,exP,fp1,hP1,q1,⟨N1,q2⟩,q3,q4,q5⟩:=ih a e r hn F hb hbP;cases ex with
    | normal =>
     simp only at q1;have hexP:exP = .normal:=q5;subst hexP;have hYP:Y.h=hP1:=q3.hp;obtain ⟨ex2,fr2,h2,nx2,Y2,exP2,fp2,hP2,p1,⟨N2,p2⟩,p3,p4,p5⟩:=ih d q1 q3.rh q3.big q4 (Nat.le_trans hb q3.le) (Nat.le_trans hbP q3.ext.nx);refine ⟨ex2,fr2,h2,nx2,Y2,exP2,fp2,hP2,p1,⟨max N1 N2+1,λm FF nn hm hF hnn => ?_⟩,⟨p3.hp,p3.rh,p3.big,Nat.le_trans q3.le p3.le,q3.ext.trans p3.ext⟩,p4,p5⟩;obtain ⟨m,rfl⟩ : ∃ m',m=m'+1:=⟨m-1,by omega⟩;rw [Pi.exec];simp only [q2 m FF nn (by omega) (by omega) (by omega)];rw [<- hYP];exact p2 m FF nn (by omega) (by omega) (by omega)
    | _ =>
     simp only at q1;refine ⟨_,fr1,h1,nx1,Y,exP,fp1,hP1,q1,⟨N1+1,λm FF nn hm hF hnn => ?_⟩,q3,q4,q5⟩;obtain ⟨m,rfl⟩ : ∃ m',m=m'+1:=⟨m-1,by omega⟩;rw [Pi.exec];simp only [q2 m FF nn (by omega) (by omega) (by omega)];cases exP with
     | normal=>simp [TS] at q5
     | _=>rfl
  | cond o a d =>
   simp only [Lp] at e;replace e:=Av F.t e;obtain ⟨v,p,e,h1,h2⟩:=e;split at e
   ·simp only [VR] at h2;subst h2;replace e:=ES e;rcases e with ⟨hc,e⟩ | ⟨hc,e⟩
    ·subst hc;obtain ⟨ex2,fr2,h2,nx2,Y2,exP2,fp2,hP2,p1,⟨N2,p2⟩,p3,p4,p5⟩:=ih a e r hn F hb hbP;refine ⟨ex2,fr2,h2,nx2,Y2,exP2,fp2,hP2,p1,⟨N2+1,λm FF nn hm hF hnn => ?_⟩,p3,p4,p5⟩;obtain ⟨m,rfl⟩ : ∃ m',m=m'+1:=⟨m-1,by omega⟩;rw [Pi.exec];simp only [h1];exact p2 m FF nn (by omega) (by omega) (by omega)
    ·subst hc;obtain ⟨ex2,fr2,h2,nx2,Y2,exP2,fp2,hP2,p1,⟨N2,p2⟩,p3,p4,p5⟩:=ih d e r hn F hb hbP;refine ⟨ex2,fr2,h2,nx2,Y2,exP2,fp2,hP2,p1,⟨N2+1,λm FF nn hm hF hnn => ?_⟩,p3,p4,p5⟩;obtain ⟨m,rfl⟩ : ∃ m',m=m'+1:=⟨m-1,by omega⟩;rw [Pi.exec];simp only [h1];exact p2 m FF nn (by omega) (by omega) (by omega)
   ·cases e
  | block id a =>
   simp only [Lp] at e;obtain ⟨ex,fr1,h1,nx1,Y,exP,fp1,hP1,q1,⟨N1,q2⟩,q3,q4,q5⟩:=ih a e r hn F hb hbP
   have go : ∀ {ex':ExA} {exP':Pi.Ex},K ex' fr1 h1 nx1=some x->TS Y ex' exP'->(∀ m FF nn,N1<=m->N1<=FF->N1<=nn->Pi.exec P (Bc tab) (Pi.EQ P (Bc tab) FF nn) (m+1) (.block id a) fp X.h=some (exP',fp1,hP1))->jL P tab b bP (.block id a) X h nx fp K x:=λe1 e2 e3 =>
    ⟨_,fr1,h1,nx1,Y,_,fp1,hP1,e1,⟨N1+1,λm FF nn hm hF hnn=>by obtain ⟨m,rfl⟩ : ∃ m',m=m'+1:=⟨m-1,by omega⟩;exact e3 m FF nn (by omega) (by omega) (by omega)⟩,q3,q4,e2⟩
   cases ex with
   | exit j =>
    have hexP:exP = .exit j:=q5;subst hexP;simp only at q1;replace q1:=E7 q1;rcases q1 with ⟨hj,q1⟩ | ⟨hj,q1⟩
    ·exact go q1 (exP':=.normal) rfl λm FF nn h1 h2 h3=>by rw [Pi.exec];simp only [q2 m FF nn h1 h2 h3,hj,cond_true]
    ·exact go q1 (exP':=.exit j) rfl λm FF nn h1 h2 h3=>by rw [Pi.exec];simp only [q2 m FF nn h1 h2 h3,hj,cond_false]
   | _ =>
    simp only at q1;refine go q1 q5 λm FF nn h1 h2 h3 => ?_;rw [Pi.exec];simp only [q2 m FF nn h1 h2 h3];cases exP with
    | exit=>simp [TS] at q5
    | _=>rfl
  | scope a =>
   simp only [Lp] at e;obtain ⟨ex,fr1,h1,nx1,Y,exP,fp1,hP1,q1,⟨N1,q2⟩,q3,q4,q5⟩:=ih a e r hn F hb hbP;cases ex with
   | goto j=>cases q1
   | _ =>
    simp only at q1;refine ⟨_,fr1,h1,nx1,Y,exP,fp1,hP1,q1,⟨N1+1,λm FF nn hm hF hnn => ?_⟩,q3,q4,q5⟩;obtain ⟨m,rfl⟩ : ∃ m',m=m'+1:=⟨m-1,by omega⟩;rw [Pi.exec];simp only [q2 m FF nn (by omega) (by omega) (by omega)];cases exP with
    | goto=>simp [TS] at q5
    | _=>rfl
  | region id ops draw =>
   simp only [Lp] at e;replace e:=C4 e;obtain ⟨hck,e⟩:=e;simp only [Bool.or_eq_false_iff,Bool.not_eq_false'] at hck;have hsz:nx+ops.size<=1048575:=Nat.le_of_ble_eq_true hck.1
   have hdst : ∀ o∈ops.toList,∀ d,o.dst=some d->d<fr.nt:=λo ho d hd=>by
    have:=List.all_eq_true.1 hck.2 o ho;rw [hd] at this;simpa using this
   have hlen:ops.toList.length=ops.size:=Array.length_toList;replace e:=E7 e;rcases e with ⟨hd,e⟩ | ⟨hd,e⟩
   ·replace e:=A3 e;obtain ⟨hfo,e⟩:=e;obtain ⟨fr1,h1,Y,fp1,hP1,q1,⟨N,q2⟩,q3,q4⟩:=D.go e r (by rw [hlen];exact hsz) F hdst;rw [hlen] at q2 q3;refine ⟨.normal,fr1,h1,nx+ops.size,Y,.normal,fp1,hP1,q1,⟨N+1,λm FF nn hm hF hnn => ?_⟩,q3 b bP hb hbP,q4,rfl⟩;obtain ⟨m,rfl⟩ : ∃ m',m=m'+1:=⟨m-1,by omega⟩;rw [Pi.exec];simp only [hd,hfo,cond_true];have:=q2 FF nn (by omega) (by omega);rw [show ({ X.h with nx:=X.h.nx+ops.size }:Hp)=(X.bump ops.size).h from rfl,this]
   ·obtain ⟨ex,fr1,h1,nx1,Y,exP,fp1,hP1,q1,⟨N,q2⟩,q3,q4,q5⟩:=UG R T (base:=nx) (baseP:=X.h.nx) (b:=b) (bP:=bP) hb hbP (all:=ops.toList) (ops:=ops.toList) (i:=0) (X:=X.bump ops.size) e (r.bump _) hsz (F.mono (Lz X _)) hdst
     (λj _ _=>⟨by
      cases hp:X.π (nx+j) with
      | none=>exact hp
      | some a=>have:=r.dom _ _ hp;omega,by rw [SW];exact r.fresh _ (by omega)⟩) (by omega) (by show X.h.nx+0+_<=X.h.nx+ops.size;omega)
    refine ⟨ex,fr1,h1,nx1,Y,exP,fp1,hP1,q1,⟨N+1,λm FF nn hm hF hnn => ?_⟩,⟨q3.hp,q3.rh,q3.big,Nat.le_trans (Nat.le_add_right _ _) q3.le,(L0 X h ops.size b bP).trans q3.ext⟩,q4,q5⟩;obtain ⟨m,rfl⟩ : ∃ m',m=m'+1:=⟨m-1,by omega⟩;rw [Pi.exec];simp only [hd,cond_false];exact q2 FF nn (by omega) (by omega)
  | loop a =>
   simp only [Lp] at e;split at e
   ·rename_i tm htm;obtain ⟨hA,XA,e,hXA,uA,rA,extA⟩:=V1 (b:=b) (bP:=bP) hn r e;obtain ⟨fr,h0,X0,e,hXB,uB,r0,F0,extB⟩:=V3 (b:=b) (bP:=bP) hn rA (F.mono uA) e;have hX0:X0.h=X.h:=hXB.trans hXA;have ext0:Ext b bP X h X0 h0:=extA.trans extB
    have conv:jL P tab b bP (.loop a) X0 h0 nx fp K x->jL P tab b bP (.loop a) X h nx fp K x:=λ⟨ex,fr',h',nx',Y,exP,fp',hP',q1,q2,q3,q4,q5⟩ =>
     ⟨ex,fr',h',nx',Y,exP,fp',hP',q1,by rw [<- hX0];exact q2,⟨q3.hp,q3.rh,q3.big,q3.le,ext0.trans q3.ext⟩,q4,q5⟩
    refine conv ?_
    have hbP0:bP<=X0.h.nx:=by rw [hX0];exact hbP
    replace e:=C4 e;obtain ⟨hck,e⟩:=e;simp only [Bool.or_eq_false_iff,Bool.not_eq_false'] at hck;obtain ⟨⟨⟨⟨⟨⟨⟨⟨c1,c2⟩,c2'⟩,c3⟩,c4⟩,c5⟩,c6⟩,c7⟩,c8⟩:=hck
    have hup:fr.up=none:=by
     cases hu:fr.up with
     | none=>rfl
     | some u=>rw [hu] at c1;cases c1
    have hall : ∀ i∈Gv h0 nx tm.kb++(BM tm.pl++BM tm.plx),i<nx:=λi hi=>by
     have:=List.all_eq_true.1 c6 i hi;simpa using this
    have hkb : ∀ i∈Gv h0 nx tm.kb,i<nx:=λi hi=>hall i (List.mem_append_left _ hi);have hids : ∀ i∈BM tm.pl,i<nx:=λi hi=>hall i (List.mem_append_right _ (List.mem_append_left _ hi));have hidsx : ∀ i∈BM tm.plx,i<nx:=λi hi=>hall i (List.mem_append_right _ (List.mem_append_right _ hi));have hnd:=Fv c5;have hdis : ∀ i∈Gv h0 nx tm.kb,i ∉ BM tm.pl:=λi hi hm=>(List.nodup_append.1 hnd).2.2 i (GS hm) i hi rfl
    have hdisx : ∀ i∈Gv h0 nx tm.kb,i ∉ BM tm.plx:=λi hi hm=>by
     have:=List.any_eq_false.1 c8 i hi;simp only [Bool.not_eq_true,List.any_eq_false] at this;have:=this i hm;simp at this
    have hkeep : ∀ k∈tm.keep,k<1048575:=λk hk=>by
     have:=List.all_eq_true.1 c3 k hk;simpa using this
    have hwr : ∀ k∈Eu a,k ∉ tm.keep:=λk hk hm=>by
     have:=List.any_eq_false.1 c4 k hk;simp only [Bool.not_eq_true,List.any_eq_false] at this;have:=this k hm;simp at this
    obtain ⟨s0,e,I⟩:=It.entry (P:=P) (bP:=bP) r0 hn F0 hup hkb c2 hids hnd hkeep e;replace e:=KC e;obtain ⟨⟨j,s',y⟩,hloop,e⟩:=e;obtain ⟨Y,fp',exP,j',k,lp,y',s'',hpx,hr,hex,hlpi,I',hends⟩:=V2 (f:=f) (ann:=ann) (ih a) r0 hn F0.big hup hkb hids hidsx c2 c2' hdis hwr hkeep c7 hbP0 I (m:=18446744073709551616) hloop;cases hr;have e1:=OO (i:=0) (j:=j) hex (by rw [Nat.zero_add];exact e);obtain ⟨t1,h1,nx1,Z,e2,z1,z6,z3,run⟩:=OQ (b:=b) (k:=λt h n'=>K (Qx tm.pay y k) { fr with t:=t } h n') r0 hn F0.big hup hkb hidsx hdisx hb hlpi I' e1
    obtain ⟨N,hN⟩:=hpx;exact ⟨_,_,h1,nx1,Z,exP,fp',Z.h,e2,⟨N,by rw [z1];exact hN⟩,run,z3,hends Z z1 z6⟩
   ·obtain ⟨ex,fr1,h1,nx1,Y,exP,fp1,hP1,q1,⟨N1,q2⟩,q3,q4,q5⟩:=ih a e r hn F hb hbP;cases ex with
    | normal =>
     simp only at q1;have hexP:exP = .normal:=q5;subst hexP;have hYP:Y.h=hP1:=q3.hp;obtain ⟨ex2,fr2,h2,nx2,Y2,exP2,fp2,hP2,p1,⟨N2,p2⟩,p3,p4,p5⟩:=ih (.loop a) q1 q3.rh q3.big q4 (Nat.le_trans hb q3.le) (Nat.le_trans hbP q3.ext.nx);refine ⟨ex2,fr2,h2,nx2,Y2,exP2,fp2,hP2,p1,⟨max N1 N2+1,λm FF nn hm hF hnn => ?_⟩,⟨p3.hp,p3.rh,p3.big,Nat.le_trans q3.le p3.le,q3.ext.trans p3.ext⟩,p4,p5⟩;obtain ⟨m,rfl⟩ : ∃ m',m=m'+1:=⟨m-1,by omega⟩;rw [Pi.exec];simp only [q2 m FF nn (by omega) (by omega) (by omega)];rw [<- hYP];exact p2 m FF nn (by omega) (by omega) (by omega)
    | _ =>
     simp only at q1;refine ⟨_,fr1,h1,nx1,Y,exP,fp1,hP1,q1,⟨N1+1,λm FF nn hm hF hnn => ?_⟩,q3,q4,q5⟩;obtain ⟨m,rfl⟩ : ∃ m',m=m'+1:=⟨m-1,by omega⟩;rw [Pi.exec];simp only [q2 m FF nn (by omega) (by omega) (by omega)];cases exP with
     | normal=>simp [TS] at q5
     | _=>rfl
  | rangeFunc g ps asg body =>
   simp only [Lp] at e;replace e:=C4 e;obtain ⟨hsz,e⟩:=e;have hsz':nx+2<=1048575:=by simpa using hsz
   replace e:=Av F.t e;obtain ⟨v,p,e,h1,h2⟩:=e;split at e
   ·rename_i g' a1 b1;simp only [VR] at h2;obtain ⟨aP,bP1,rfl,va,vb⟩:=h2;split at e
    ·rename_i d mark hh hstep;have r2:RH (X.bump 2) h (nx+2):=r.bump 2;have u2:=Lz X 2
     have nxn : ∀ j,X.π (nx+j)=none:=λj=>by
      cases hp:X.π (nx+j) with
      | none=>rfl
      | some a=>have:=r.dom _ _ hp;omega
     have hA : ∃ (Y1:Cx) (hq:Hp) (dP m:Nat) (markP:List DF),RH Y1 hh (nx+2)/\Up X Y1/\Ext b bP X h Y1 hh/\Y1.h={ hq with nx:=hq.nx+2 }/\hq.nx=X.h.nx /\
       ((fp.ro=none/\X.h.new X.h.nx (.df (some []))=some hq/\dP=X.h.nx/\markP=[DF.col X.h.nx])\/(∃ p st pe nt t ps asg body,fp.ro=some p/\X.h.get p=some (.lp st pe nt t ps asg body dP)/\markP=[]/\hq=X.h))/\Y1.π d=some (.blk dP m)/\L2 (DFR Y1) mark markP/\Y1.π (nx+1)=none/\hq.get (X.h.nx+1)=none:=by
      have hro:=F.ro;split at hstep
      ·rename_i hr0;rw [hr0] at hro;simp only [Option.some.injEq,Prod.mk.injEq] at hstep;obtain ⟨rfl,rfl,rfl⟩:=hstep;obtain ⟨hq,e1⟩:=K4 X.h X.h.nx (.df (some [])) (r.fresh _ (Nat.le_refl _));have e2:=ZE (k:=2) e1;obtain ⟨g0,g1,g2⟩:=Hp.get_new e1
       obtain ⟨Y,y1,y2,y3,y4⟩:=r2.new (id:=nx) (pid:=X.h.nx) (m:=0) (b:=.df (some [])) (by omega) (by omega) (nxn 0) (by show _<X.h.nx+2;omega) e2 (λY y1 y2 y3 u =>
        ⟨X.h.nx,0,some [],rfl,(y3 _).2 (.inr rfl),by rw [y2];show hq.get _=_;rw [g1,if_pos rfl],.nil⟩)
       have hpi:Y.π nx=some (.blk X.h.nx 0):=by rw [y1];exact if_pos rfl
       refine ⟨Y,hq,X.h.nx,0,[.col X.h.nx],y3,u2.trans y4.up,(L0 X h 2 b bP).trans (y4.ext hb hbP),y2,g2,?_,hpi,.cons ⟨_,_,hpi,rfl⟩ .nil,?_,?_⟩
       ·exact .inl ⟨hro,e1,rfl,rfl⟩
       ·rw [y1];show (if _ then _ else _)=_;rw [if_neg (by omega)];exact nxn 1
       ·rw [g1,if_neg (by omega)];exact r.fresh _ (by omega)
      ·rename_i l0 hr0;rw [hr0] at hro;obtain ⟨p0,m0,Hk,hr⟩:=hro;split at hstep
       ·rename_i hg;simp only [Option.some.injEq,Prod.mk.injEq] at hstep;obtain ⟨rfl,rfl,rfl⟩:=hstep;have hb0:=r.blk _ _ hg;obtain ⟨pid,n',tP,dP,m,k1,k2,k3,k4,k5,k6⟩:=hb0;rw [Hk] at k1;cases k1;exact ⟨X.bump 2,X.h,dP,m,[],r2,u2,L0 X h 2 b bP,rfl,rfl,Or.inr ⟨_,_,_,_,_,_,_,_,hr,k3,rfl,rfl⟩,k5,.nil,nxn 1,r.fresh _ (by omega)⟩
       ·cases hstep
     obtain ⟨Y1,hq,dP,m,markP,r1,u1,x1,y1h,hqn,hPI,hd,hmark,hn1,hf1⟩:=hA;obtain ⟨hq2,e1⟩:=K4 hq (X.h.nx+1) (.lp 0 none fp.nt fp.t ps.toList asg body dP) hf1;have e2:=ZE (k:=2) e1;obtain ⟨g0,g1,g2⟩:=Hp.get_new e1
     obtain ⟨Y2,y21,y22,y23,y24⟩:=r1.new (id:=nx+1) (pid:=X.h.nx+1) (m:=0) (b:=.lp 0 none fr.nt fr.t ps.toList asg body d) (by omega) (by omega) hn1 (by rw [y1h];show _<hq.nx+2;omega) (by rw [y1h];exact e2) (λY y1 y2 y3 u =>
      ⟨X.h.nx+1,0,fp.t,dP,m,rfl,(y3 _).2 (.inr rfl),by rw [y2];show hq2.get _=_;rw [g1,if_pos rfl,F.nt],(F.t.mono u1).mono u,u.pi _ _ hd,F.big⟩)
     have hpi2:Y2.π (nx+1)=some (.blk (X.h.nx+1) 0):=by rw [y21];exact if_pos rfl
     have u12:=u1.trans y24.up;have x2:Ext b bP X h Y2 _:=x1.trans (y24.ext (b:=b) (bP:=bP) (by omega) (by omega));have hy2:Y2.h={ hq2 with nx:=X.h.nx+2 }:=by rw [y22,g2,hqn]
     obtain ⟨g2',as,qs,e3,hinv,hargs⟩:=Ij (va.mono u12) (vb.mono u12) (args:=[.yl (nx+1)]) (argsP:=[.yl (X.h.nx+1)]) (.cons (by simp only [VR];exact ⟨_,_,hpi2,rfl⟩) .nil) e;obtain ⟨o',up',h',nx',Y,oP,upP',hP',e4,⟨N,hN⟩,run,ho,hu⟩:=R.fn e3 y23 hsz' hargs (show UMR Y2 none none from rfl);split at e4
     ·obtain ⟨vP,rfl,hv⟩:=ho;have hup:=run.ext.full y23 (Nat.le_refl _);split at e4
      ·rename_i st pend nt t ps' asg' body' d' hg;replace e4:=C4 e4;obtain ⟨hst,e4⟩:=e4;have hpi3:=hup.pi _ _ hpi2;have hbr:=run.rh.blk _ _ hg;obtain ⟨pid,n',tP,dP',m',k1,k2,k3,k4,k5,k6⟩:=hbr;rw [hpi3] at k1;cases k1;obtain ⟨hP2,es⟩:=Dk Y.h (X.h.nx+1) (.lp 3 pend nt tP ps' asg' body' dP');obtain ⟨Z,z1,z2,z3,z4,z5,z6⟩:=run.rh.setLp run.big hg hpi3 k3 es b bP;have uZ:=(u12.trans hup).trans z4;have xZ:Ext b bP X h Z _:=(x2.trans (run.ext.le (by omega) (by rw [hy2];show _<=X.h.nx+2;omega))).trans z6
       have FZ:FR Z { fr with ds:=mark++fr.ds } { fp with ds:=markP++fp.ds } :=
        ⟨F.t.mono uZ,F.nt,F.big,(hmark.mono λ_ _ k=>k.mono ((y24.up.trans hup).trans z4)).append (F.ds.mono λ_ _ k=>k.mono uZ),F.up.mono uZ,F.ro.mono uZ⟩
       have fin2 : ∀ {ex:ExA} {exP:Pi.Ex},K ex { fr with ds:=mark++fr.ds } (Ad h' (nx+1) (.lp 3 pend nt t ps' asg' body' d')) nx'=some x->TS Z ex exP->(match pend with
          | none=>some (Pi.Ex.normal,({ fp with ds:=markP++fp.ds }:Pi.Fr),hP2)
          | some .ret=>some (.ret,{ fp with ds:=markP++fp.ds },hP2)
          | some (.exit id)=>some (.exit id,{ fp with ds:=markP++fp.ds },hP2)
          | some (.goto id)=>some (.goto id,{ fp with ds:=markP++fp.ds },hP2)
          | _=>none)=some (exP,{ fp with ds:=markP++fp.ds },hP2)->jL P tab b bP (.rangeFunc g ps asg body) X h nx fp K x:=λe5 hx hp =>
        ⟨_,_,_,nx',Z,_,_,hP2,e5,⟨N+1,λm FF nn hm hF hnn=>by
         obtain ⟨m,rfl⟩ : ∃ m',m=m'+1:=⟨m-1,by omega⟩;have:=hN FF nn (by omega) (by omega);rw [hy2] at this;rw [<- run.hp] at this;rw [Pi.exec];rcases hPI with ⟨q1,q2,rfl,rfl⟩ | ⟨_,_,_,_,_,_,_,_,q1,q2,rfl,rfl⟩
         ·simp only [h1,q1,q2,e1,hinv,this,k3,hst,cond_false,es];simp only [q1] at hp;exact hp
         ·simp only [h1,q1,q2,e1,hinv,this,k3,hst,cond_false,es];simp only [q1] at hp
          exact hp⟩,⟨z2,z5,run.big,by have:=run.le;omega,xZ⟩,FZ,hx⟩
       split at e4
       ·exact fin2 e4 rfl rfl
       ·exact fin2 e4 rfl rfl
       ·exact fin2 e4 rfl rfl
       ·exact fin2 e4 rfl rfl
       ·cases e4
      ·cases e4
     ·cases e4
    ·cases e
   ·cases e
end
end Go.Proofs.YthpkjfabdccpdaaGreat.Sv
