/- A part of the evaluator over typed open values for any program, and of the proof that it is sound. No condition. -/
import Derived.Test.YtfilfloanndddaaGreatPs1
set_option linter.all false
namespace Go.Proofs.YtfilfloanndddaaGreat.Sv
variable [Pi.Gl]
open Go.Proofs.YtfilfloanndddaaGreat.Pi (PV T Hp Blk DF UM PE A5 BM AS Bg CH)
section
variable {X Y:Cx} {b:Nat}
mutual
theorem VR.lowOf : ∀ {v:V} {p q:PV},VR (X.low b) v p->VR Y v q->VR (Y.low b) v q
 | .bool _,_,_,_,h | .int _ _,_,_,_,h | .str _,_,_,_,h | .nilp,_,_,_,h | .nils,_,_,_,h | .nilm,_,_,_,h | .nilf,_,_,_,h | .nili,_,_,_,h=>by
  simp only [VR] at h ⊢;exact h
 | .agg cs,_,_,k,h=>by
  simp only [VR] at h k ⊢;obtain ⟨u,o,m⟩:=h;obtain ⟨B,d,s⟩:=k;exact ⟨u,o,VRL.lowOf s m⟩
 | .tup cs,_,_,k,h=>by
  simp only [VR] at h k ⊢;obtain ⟨u,o,m⟩:=h;obtain ⟨B,d,s⟩:=k;exact ⟨u,o,VRL.lowOf s m⟩
 | .lf full g c l,_,_,_,h=>by
  simp only [VR] at h ⊢;exact h
 | .exl full es,_,_,_,h=>by simp only [VR] at h ⊢;exact h
 | .ow id,p,q,k,h=>by
  simp only [VR] at h k ⊢;by_cases r:id<b
  ·rw [Cx.low_eq r];exact h
  ·rw [Cx.low_ge r] at k;exact k.elim
 | .own id off len,_,_,k,h=>by
  simp only [VR] at h k ⊢;obtain ⟨pid,n,o,m⟩:=h;obtain ⟨_,_,d,_⟩:=k;by_cases r:id<b
  ·exact ⟨pid,n,by rw [Cx.low_eq r];exact o,m⟩
  ·rw [Cx.low_ge r] at d;cases d
 | .ptr id off,_,_,k,h=>by
  simp only [VR] at h k ⊢;obtain ⟨pid,n,o,m⟩:=h;obtain ⟨_,_,d,_⟩:=k;by_cases r:id<b
  ·exact ⟨pid,n,by rw [Cx.low_eq r];exact o,m⟩
  ·rw [Cx.low_ge r] at d;cases d
 | .aptr id off j len,_,_,k,h=>by
  simp only [VR] at h k ⊢;obtain ⟨pid,n,o,m⟩:=h;obtain ⟨_,_,d,_⟩:=k;by_cases r:id<b
  ·exact ⟨pid,n,by rw [Cx.low_eq r];exact o,m⟩
  ·rw [Cx.low_ge r] at d;cases d
 | .ept id i off,_,_,k,h=>by
  simp only [VR] at h k ⊢;obtain ⟨pid,n,o,m⟩:=h;obtain ⟨_,_,d,_⟩:=k;by_cases r:id<b
  ·exact ⟨pid,n,by rw [Cx.low_eq r];exact o,m⟩
  ·rw [Cx.low_ge r] at d;cases d
 | .view cs,_,_,k,h=>by
  simp only [VR] at h k ⊢;rcases h with h | ⟨pid,i,off,es,ex,fz,e,o,m,w,z,x⟩
  ·exact .inl h
  ·refine .inr ⟨pid,i,off,es,ex,fz,e,o,m,w,z,?_⟩;rcases k with ⟨u,d,s⟩ | ⟨_,_,_,_,_,_,_,_,_,_,_,y⟩
   ·exact VRL.lowOf (s.mono (Up.pure _)) x
   ·exact VRL.lowOf y x
 | .pl _ _ _,_,_,_,h=>by simp only [VR] at h ⊢;exact h
 | .pv _,_,_,_,h=>by simp only [VR] at h ⊢;exact h
 | .fn f a c,_,_,k,h=>by
  simp only [VR] at h k ⊢;obtain ⟨A,b',o,m,w⟩:=h;obtain ⟨a'',b'',d,s,C⟩:=k;exact ⟨A,b',o,VRL.lowOf s m,VRL.lowOf C w⟩
 | .yl id,_,_,k,h=>by
  simp only [VR] at h k ⊢;obtain ⟨pid,n,o,m⟩:=h;obtain ⟨_,_,d,_⟩:=k;by_cases r:id<b
  ·exact ⟨pid,n,by rw [Cx.low_eq r];exact o,m⟩
  ·rw [Cx.low_ge r] at d;cases d
 | .ifc t v,_,_,k,h=>by
  simp only [VR] at h k ⊢;obtain ⟨q,o,m⟩:=h;obtain ⟨D,d,s⟩:=k;exact ⟨q,o,VR.lowOf s m⟩
 | .mp id,_,_,k,h=>by
  simp only [VR] at h k ⊢;obtain ⟨pid,n,o,m⟩:=h;obtain ⟨_,_,d,_⟩:=k;by_cases r:id<b
  ·exact ⟨pid,n,by rw [Cx.low_eq r];exact o,m⟩
  ·rw [Cx.low_ge r] at d;cases d
theorem VRL.lowOf : ∀ {vs:List V} {c a:List PV},VRL (X.low b) vs c->VRL Y vs a->VRL (Y.low b) vs a
 | [],_,_,_,h=>by simp only [VRL] at h ⊢;exact h
 | v::vs,_,_,k,h=>by
  obtain ⟨p,c,rfl,f,d⟩:=h.cons_inv;obtain ⟨q,a,rfl,g,e⟩:=k.cons_inv;exact .cons (VR.lowOf g f) (VRL.lowOf e d)
end
end
structure KH (X:Cx) (h0:H) (n:Nat):Prop where
 blk : ∀ i c,h0.get i=some c->i<n/\c.live/\BR (X.low n) c (X.π i)
 inj : ∀ i i' c c' p m m',h0.get i=some c->h0.get i'=some c'->X.π i=some (.blk p m)->X.π i'=some (.blk p m')->i=i'
theorem N7 {t:T V} : ∀ {l:List Nat} {k:Nat} {v:V},(∀ i∈l,i<1048575)->(D5 t l).get k=some v->k∈l/\t.get k=some v
 | [],k,v,_,e=>by cases e
 | i::l,k,v,hl,e=>by
  have f:(2:Nat) ^ 20-1=1048575:=by decide
  have hi:=hl i (by simp)
  have b:(D5 t l).get k=some v->k∈i::l/\t.get k=some v:=λe=>by
   obtain ⟨h,d⟩:=N7 (λj c=>hl j (by simp [c])) e;exact ⟨by simp [h],d⟩
  unfold D5 at e;split at e
  ·rename_i w g;rw [T.get_put 20 _ _ _ _ (by omega)] at e;by_cases a:k=i
   ·rw [if_pos a] at e;cases e;subst a;exact ⟨by simp,g⟩
   ·rw [if_neg a] at e;exact b e
  ·exact b e
theorem H7 {h:H} {f:BA->BA} : ∀ {l:List Nat} {k:Nat} {c:BA},(∀ i∈l,i<1048575)->(D6 h f l).get k=some c->k∈l /\ ∃ d,h.get k=some d/\c=f d/\d.live
 | [],k,v,_,e=>by cases e
 | i::l,k,c,hl,e=>by
  have p:(2:Nat) ^ 20-1=1048575:=by decide
  have hi:=hl i (by simp)
  have g:(D6 h f l).get k=some c->k∈i::l /\ ∃ d,h.get k=some d/\c=f d/\d.live:=λe=>by
   obtain ⟨o,n⟩:=H7 (λj m=>hl j (by simp [m])) e;exact ⟨by simp [o],n⟩
  unfold D6 at e;split at e
  ·exact g e
  ·rename_i w a q;rw [T.get_put 20 _ _ _ _ (by omega)] at e;by_cases b:k=i
   ·rw [if_pos b] at e;cases e;subst b;exact ⟨by simp,w,q,rfl,by cases w<;>first | exact absurd rfl a | trivial⟩
   ·rw [if_neg b] at e;exact g e
  ·exact g e
structure Lay (X Y:Cx) (n:Nat) (h1:H) (n1:Nat):Prop where
 h:Y.h=X.h
 o:Y.O=X.O
 pi : ∀ i,i<n->Y.π i=X.π i
 none : ∀ i,n1<=i->Y.π i=none
 le:n<=n1
theorem Lay.up {X Y:Cx} {n n1:Nat} {d:H} (l:Lay X Y n d n1):Up (X.low n) Y:=by
 refine ⟨λi a hi => ?_,?_⟩
 ·by_cases b:i<n
  ·rw [Cx.low_eq b] at hi;rw [l.pi i b];exact hi
  ·rw [Cx.low_ge b] at hi;cases hi
 ·show Rows X.h Y.h _ _;rw [l.h];intro pid es ex fz h k;exact ⟨⟨fz,k⟩,λc=>h (l.o ▸ c)⟩
end Go.Proofs.YtfilfloanndddaaGreat.Sv
namespace Go.Proofs.YtfilfloanndddaaGreat.Sv
variable [Pi.Gl]
open Go.Proofs.YtfilfloanndddaaGreat.Pi (PV T Hp Blk DF UM PE A5 BM AS Bg CH)
theorem BR.live_blk {X:Cx} {c:BA} {a:Option At} (h:BR X c a) (b:c.live) : ∃ t,a=some t:=by
 cases c with
 | box=>obtain ⟨_,_,_,_,h,_⟩:=h;exact ⟨_,h⟩
 | row=>rcases h with ⟨_,_,_,_,h,_⟩ | ⟨h,_⟩ | ⟨_,h,_⟩<;>exact ⟨_,h⟩
 | mp=>obtain ⟨_,_,_,h,_⟩:=h;exact ⟨_,h⟩
 | lp=>obtain ⟨_,_,_,_,_,h,_⟩:=h;exact ⟨_,h⟩
 | df=>obtain ⟨_,_,_,h,_⟩:=h;exact ⟨_,h⟩
 | dead=>exact b.elim
structure LInv (X:Cx) (h:H) (nx0:Nat) (Y:Cx) (S:List Nat) (hc:H) (nc:Nat):Prop where
 hh:Y.h=X.h
 oo:Y.O=X.O
 lo : ∀ i,i<nx0->Y.π i=X.π i
 hi : ∀ i,nc<=i->Y.π i=none
 le:nx0<=nc
 blk : ∀ i c,hc.get i=some c->BR Y c (Y.π i)/\i<nc
 inj : ∀ i i' c c' p m m',hc.get i=some c->hc.get i'=some c'->Y.π i=some (.blk p m)->Y.π i'=some (.blk p m')->i=i'
 src : ∀ i c p m,hc.get i=some c->Y.π i=some (.blk p m) -> ∃ j∈S,∃ d m',h.get j=some d/\d.live/\X.π j=some (.blk p m')
section
variable {X Y:Cx} {h hc:H} {n nx0 nc:Nat} {S:List Nat} {β:Type} {x:β}
theorem kW {Y Z:Cx} (h:Y.h=X.h) (o:Y.O=X.O) (h':Z.h=X.h) (o':Z.O=X.O) (p : ∀ i a,Y.π i=some a->Z.π i=some a):Up Y Z:=by
 refine ⟨p,?_⟩;show Rows Y.h Z.h _ _;rw [h,h'];intro pid es ex fz c d;exact ⟨⟨fz,d⟩,λb=>c (by rw [o];rw [o'] at b;exact b)⟩
theorem LInv.row (L:LInv X h nx0 Y S hc nc) (r:RH X h n) (z:nc<1048575) {g:Bool} {c:Ty} {l:List c.den} {ex:Bool} {a:At}
  (ha:(a = .nil/\l=[]/\ex=false) \/ ∃ j,j ∉ S/\h.get j=some (.row g c l ex false false)/\X.π j=some a) {J:List Nat} (hJ : ∀ j,h.get j=some (.row g c l ex false false)->X.π j=some a->j ∉ S->(∃ p m,a = .blk p m)->j∈J) :
  ∃ Z:Cx,Z.π nc=some a/\Up Y Z/\LInv X h nx0 Z (J++S) (Ai hc nc (.row g c l ex false false)) (nc+1):=by
 let Z:Cx:={ π:=Sv.IX Y.π nc (some a),h:=Y.h,O:=Y.O }
 have x : ∀ i,i≠nc->Z.π i=Y.π i:=λi hi=>if_neg hi;have I1:Z.π nc=some a:=if_pos rfl
 have u:Up Y Z:=kW (X:=Y) rfl rfl rfl rfl λi b hi=>by
  rw [x i (by intro hh;subst hh;rw [L.hi _ (Nat.le_refl _)] at hi;cases hi)];exact hi
 have N:BR Z (.row g c l ex false false) (some a):=by
  rcases ha with ⟨o,f,B⟩ | ⟨j,_,f,B⟩
  ·subst o;subst f;subst B;exact .inr (.inl ⟨rfl,rfl,rfl⟩)
  ·have:=r.blk _ _ f;rw [B] at this
   have u0:Rows X.h Z.h X.Q Z.Q:=by
    show Rows X.h Y.h X.Q _;rw [L.hh];intro pid es ex fz M W;exact ⟨⟨fz,W⟩,λP=>M (by rw [<- L.oo];exact P)⟩
   rcases this with ⟨pid,len,es,fz',p1,p2,p3,p4,p5,p7,p6⟩ | q | q
   ·exact .inl ⟨pid,len,es,fz',p1,by show Y.O pid;rw [L.oo];exact p2,by show Y.h.get pid=_;rw [L.hh];exact p3,p4,p5,p7,p6.mono λ_ _ k=>k.mono λ_ _ k=>DR.mono u0 k⟩
   ·exact .inr (.inl q)
   ·exact .inr (.inr q)
 have y : ∀ p m,a = .blk p m -> ∃ j,j ∉ S/\j∈J /\ ∃ d C,h.get j=some d/\d.live/\X.π j=some (.blk p C):=λp m F=>by
  rcases ha with ⟨o,_⟩ | ⟨j,o,f,B⟩
  ·rw [F] at o;cases o
  ·exact ⟨j,o,hJ j f B o ⟨p,m,F⟩,_,m,f,trivial,F ▸ B⟩
 refine ⟨Z,I1,u,L.hh,L.oo,λi hi=>by rw [x i (by have:=L.le;omega)];exact L.lo i hi,λi hi=>by rw [x i (by omega)];exact L.hi i (by omega),by have:=L.le;omega,λi U hi => ?_,λi K c1 c2 p m C hi w t A => ?_,λi U p m hi t => ?_⟩
 ·rw [Au z] at hi;by_cases e:i=nc
  ·rw [if_pos e] at hi;cases hi;subst e;rw [I1];exact ⟨N,by omega⟩
  ·rw [if_neg e] at hi;obtain ⟨b1,b2⟩:=L.blk i U hi;rw [x i e];exact ⟨b1.keep u λpid m _ P=>⟨rfl,P⟩,by omega⟩
 ·rw [Au z] at hi w
  have s : ∀ {i:Nat} {c1:BA} {m1 m2:Nat},i≠nc->hc.get i=some c1->Y.π i=some (.blk p m1)->a = .blk p m2->False:=λe hg hy F=>by
   obtain ⟨j,G,_,d,m3,D,I,E⟩:=y p _ F;obtain ⟨j',M,d',m4,W,k3,k4⟩:=L.src _ _ _ _ hg hy;have:=r.inj _ _ _ _ _ _ _ D W I k3 E k4;subst this;exact G M
  by_cases o:i=nc
  ·by_cases f:K=nc
   ·rw [o,f]
   ·rw [if_neg f] at w;rw [o,I1] at t;rw [x K f] at A;exact (s f w A (Option.some.inj t)).elim
  ·rw [if_neg o] at hi;by_cases f:K=nc
   ·rw [f,I1] at A;rw [x i o] at t;exact (s o hi t (Option.some.inj A)).elim
   ·rw [if_neg f] at w;rw [x i o] at t;rw [x K f] at A;exact L.inj _ _ _ _ _ _ _ hi w t A
 ·rw [Au z] at hi;by_cases e:i=nc
  ·rw [e,I1] at t;obtain ⟨j,_,G,d,C,D,I,E⟩:=y p m (Option.some.inj t);exact ⟨j,List.mem_append_left _ G,d,C,D,I,E⟩
  ·rw [if_neg e] at hi;rw [x i e] at t;obtain ⟨j,G,d,C,D,I,E⟩:=L.src i U p m hi t;exact ⟨j,List.mem_append_right _ G,d,C,D,I,E⟩
theorem LInv.put (L:LInv X h nx0 Y S hc nc) (r:RH X h n) {i:Nat} (z:i<nx0) (l:i<1048575) {c d:BA} (w:h.get i=some d) (y:d.live) (hS:i ∉ S) (E:BR Y c (X.π i)) :
  LInv X h nx0 Y (i::S) (Ai hc i c) nc:=by
 obtain ⟨t,W⟩:=(r.blk _ _ w).live_blk y;have s:Y.π i=X.π i:=L.lo i z
 have e : ∀ {k:Nat} {C:BA} {p M I:Nat},hc.get k=some C->Y.π k=some (.blk p M)->X.π i=some (.blk p I)->False:=λG A J=>by
  obtain ⟨j',D,U,m4,O,K,F⟩:=L.src _ _ _ _ G A;have:=r.inj _ _ _ _ _ _ _ w O y K J F;subst this;exact hS D
 refine ⟨L.hh,L.oo,L.lo,L.hi,L.le,λk x a => ?_,λk B C Z p m P a f g q => ?_,λk x p m a g => ?_⟩
 ·rw [Au l] at a;by_cases b:k=i
  ·rw [if_pos b] at a;cases a;subst b;rw [s];exact ⟨E,by have:=L.le;omega⟩
  ·rw [if_neg b] at a;exact L.blk k x a
 ·rw [Au l] at a f;by_cases u:k=i
  ·by_cases o:B=i
   ·rw [u,o]
   ·rw [if_neg o] at f;rw [u,s] at g;exact (e f q g).elim
  ·rw [if_neg u] at a;by_cases o:B=i
   ·rw [o,s] at q;exact (e a g q).elim
   ·rw [if_neg o] at f;exact L.inj _ _ _ _ _ _ _ a f g q
 ·rw [Au l] at a;by_cases b:k=i
  ·rw [b,s] at g;exact ⟨i,by simp,d,m,w,y,g⟩
  ·rw [if_neg b] at a;obtain ⟨j,N,rest⟩:=L.src k x p m a g;exact ⟨j,by simp [N],rest⟩
theorem P1 (r:RH X h n) {g:Bool} {c:Ty} {ex:Bool} {v:V} {p:PV} {K:List c.den->Option β} (b:VR X v p) (e:UU h g c ex v K=some x) :
  ∃ l a,K l=some x/\((a = .nil/\l=[]/\ex=false/\Fk v=[]) \/ ∃ j,Fk v=[j]/\h.get j=some (.row g c l ex false false)/\X.π j=some a) /\ ∀ (Z:Cx) (i:Nat),Z.π i=some a->VR Z (.ow i) p:=by
 unfold UU at e;split at e
 ·replace e:=DL e;obtain ⟨o,e⟩:=e;subst o;simp only [VR] at b;subst b;exact ⟨[],.nil,e,.inl ⟨rfl,rfl,rfl,rfl⟩,λZ i d=>by simp only [VR,d]⟩
 ·rename_i id;split at e
  ·rename_i t s l q m;replace e:=BD e;obtain ⟨f,e⟩:=e;simp only [Bool.and_eq_true] at f;have:=eq_of_beq f.1;subst this;have:=eq_of_beq f.2;subst this;replace e:=C8 e;obtain ⟨hc,e⟩:=e;subst hc;simp only [VR] at b;cases k:X.π id with
   | none=>rw [k] at b;exact b.elim
   | some a =>
    rw [k] at b;refine ⟨l,a,e,.inr ⟨id,rfl,m,k⟩,λZ i d => ?_⟩;simp only [VR,d];exact b
  ·cases e
 ·cases e
theorem cz (r:RH X h n) {g:Bool} {c:Ty} {v:V} {p:PV} {K:List c.den×Nat->Option β} (b:VR X v p) (e:cc h g c v K=some x) :
  ∃ l len j pid m,K (l,len)=some x/\cd v=[j]/\h.get j=some (.row g c l true false false)/\X.π j=some (.blk pid m)/\p = .own pid 0 len:=by
 unfold cc at e;split at e
 ·rename_i j off len;split at e
  ·rename_i k i l d;replace e:=BD e;obtain ⟨a,e⟩:=e;simp only [Bool.and_eq_true] at a;have:=eq_of_beq a.1;subst this;have:off=0:=by simpa using a.2
   subst this;replace e:=C8 e;obtain ⟨hc,e⟩:=e;subst hc;simp only [VR] at b;obtain ⟨pid,m,f,rfl⟩:=b;exact ⟨l,len,j,pid,m,e,rfl,d,f,rfl⟩
  ·cases e
 ·cases e
theorem LInv.dr (L:LInv X h nx0 Y S hc nc) {c:Ty} {y:c.den} {a:List PV} (d:DR X.h X.Q c y a):DR Y.h Y.Q c y a:=by
 have b:Y.Q=X.Q:=by unfold Cx.Q;rw [L.oo]
 rw [L.hh,b];exact d
theorem Rc {c:Ty} {vs:List V} {a:List PV} {K:c.den->List V->Option β} (f:VRL X vs a) (e:JG .lf c vs K=some x) :
  ∃ y p q,K y (vs.drop c.wd)=some x/\a=p++q/\DR X.h X.Q c y p/\VRL X (vs.drop c.wd) q:=by
 obtain ⟨y,r,p,q,k,d,g,b,s,j⟩:=H1 (Q:=X.Q) (λ_ _ _ h=>(by cases h)) (λ_ _ _ _ _ h=>(by cases h)) (λ_ h=>h) f e
 have l:vs.drop c.wd=r:=by
  have i:=f.length;have n:=b.length;have m:=g.same.wd;subst j;subst d;simp only [List.length_append] at i;rw [List.drop_append_of_le_length (by omega),List.drop_of_length_le (by omega),List.nil_append]
 rw [l];exact ⟨y,p,q,k,d,g.same,b⟩
theorem LInv.perm (L:LInv X h nx0 Y S hc nc) {a:List Nat} (hs : ∀ j,j∈S<->j∈a):LInv X h nx0 Y a hc nc :=
 ⟨L.hh,L.oo,L.lo,L.hi,L.le,L.blk,L.inj,λi c p m d b=>by obtain ⟨j,e,r⟩:=L.src i c p m d b;exact ⟨j,(hs j).1 e,r⟩⟩
theorem GF : ∀ (sg:List Sgm) (hc:H) (nc:Nat) (s:Pk sg),nc<=(Hk hc nc sg s).2.2
 | [],hc,nc,s=>Nat.le_refl _
 | [.lf c],hc,nc,s=>Nat.le_refl _
 | [.ow g c ex],hc,nc,s=>Nat.le_succ _
 | .lf c::q::r,hc,nc,s=>GF (q::r) hc nc s.2
 | .ow g c ex::q::r,hc,nc,s=>Nat.le_trans (Nat.le_succ _) (GF (q::r) _ (nc+1) s.2)
 | [.kp id],hc,nc,s=>Nat.le_refl _
 | .kp id::q::r,hc,nc,s=>GF (q::r) hc nc s.2
 | [.cn c],hc,nc,s=>Nat.le_refl _
 | .cn c::q::r,hc,nc,s=>GF (q::r) hc nc s.2
theorem mX {c:Cv} {v:V} (e:nH c v=true):v=c.v:=by
 cases c<;>(unfold nH at e;simp only at e;split at e<;>first | rfl | cases e)
theorem c0 {c:Cv} {v:V} {p:PV} (h:nH c v=true) (a:VR X v p):VR Y c.v p:=by
 have:=mX h;subst this;cases c<;>simpa [Cv.v,VR] using a
theorem lu {id j:Nat} {p:PV} (L:LInv X h nx0 Y S hc nc) (b:VR X (.ow j) p) (c:Nat.beq j id=true) (a:Nat.blt id nx0=true):VR Y (.ow id) p:=by
 have:=Nat.eq_of_beq_eq_true c;subst this;have d:=L.lo j (Nat.le_of_ble_eq_true a);simp only [VR] at b ⊢;rw [d];exact b
theorem Kh (r:RH X h n) : ∀ {sg:List Sgm} {cs:List V} {w:List PV} {K:Pk sg->Option β},On nx0 sg=true->VRL X cs w->IJ h sg cs K=some x ->
  ∃ s,K s=some x /\ ∀ {Y:Cx} {S:List Nat} {hc:H} {nc:Nat},LInv X h nx0 Y S hc nc->(Co sg cs++S).Nodup->(Hk hc nc sg s).2.2<=1048575 ->
   ∃ Z,Up Y Z/\LInv X h nx0 Z (Co sg cs++S) (Hk hc nc sg s).2.1 (Hk hc nc sg s).2.2/\VRL Z (Hk hc nc sg s).1 w
 | [],cs,w,K,hkp,hv,e=>by
  unfold IJ at e;split at e
  ·exact ⟨(),e,λL _ _=>⟨_,Up.refl _,L,by rw [hv.nil_inv];exact .nil⟩⟩
  ·cases e
 | [.lf c],cs,w,K,hkp,hv,e=>by
  unfold IJ at e;obtain ⟨y,p,q,e,rfl,d,P⟩:=Rc hv e;split at e
  ·rename_i O;rw [O] at P;refine ⟨y,e,fun {Y S hc nc} L _ _=>⟨Y,Up.refl _,L,?_⟩⟩;rw [P.nil_inv,List.append_nil];exact IK (L.dr d)
  ·cases e
 | [.ow g c ex],cs,w,K,hkp,hv,e=>by
  unfold IJ at e;split at e
  ·rename_i v;obtain ⟨p,N,rfl,f,b⟩:=hv.cons_inv;obtain ⟨l,a,e1,M,U⟩:=P1 r f e;refine ⟨l,e1,fun {Y S hc nc} L t C => ?_⟩;have u:Co [.ow g c ex] [v]=Fk v:=by simp [Co]
   rw [u] at t ⊢;have I:nc+1<=1048575:=C
   obtain ⟨Z,A,z,E⟩:=L.row r (g:=g) (c:=c) (l:=l) (ex:=ex) (a:=a) (J:=Fk v) (by omega) (by
    rcases M with ⟨f,b,D,_⟩ | ⟨j,f,b,D⟩
    ·exact .inl ⟨f,b,D⟩
    ·refine .inr ⟨j,?_,b,D⟩;rw [f] at t;exact (List.nodup_cons.1 t).1) (λj f b D o=>by
    rcases M with ⟨B,_⟩ | ⟨j',B,k2,k3⟩
    ·obtain ⟨_,_,o⟩:=o;rw [o] at B;cases B
    ·rw [B];cases a with
     | blk p m =>
      have:=r.inj _ _ _ _ _ _ _ f k2 trivial trivial b k3;simp [this]
     | nil=>obtain ⟨_,_,o⟩:=o;cases o
     | fz es=>obtain ⟨_,_,o⟩:=o;cases o)
   exact ⟨Z,z,E,.cons (U Z nc A) (by rw [b.nil_inv];exact .nil)⟩
  ·cases e
 | .lf c::k::rr,cs,w,K,hkp,hv,e=>by
  unfold IJ at e;obtain ⟨y,p,q,e,rfl,d,P⟩:=Rc hv e;obtain ⟨s,e1,hs⟩:=Kh r (sg:=k::rr) hkp P e;refine ⟨(y,s),e1,fun {Y S hc nc} L t C => ?_⟩;obtain ⟨Z,A,z,E⟩:=hs L t C;exact ⟨Z,A,z,(IK (z.dr d)).append E⟩
 | .ow g c ex::k::rr,cs,w,K,hkp,hv,e=>by
  unfold IJ at e;split at e
  ·rename_i v i;obtain ⟨p,N,rfl,f,b⟩:=hv.cons_inv;obtain ⟨l,a,e1,M,U⟩:=P1 r f e;obtain ⟨s,e2,hs⟩:=Kh r (sg:=k::rr) hkp b e1;refine ⟨(l,s),e2,fun {Y S hc nc} L t C => ?_⟩;have u:Co (.ow g c ex::k::rr) (v::i)=Fk v++Co (k::rr) i:=by simp [Co]
   rw [u] at t ⊢;have I:(Hk (Ai hc nc (.row g c l ex false false)) (nc+1) (k::rr) s).2.2<=1048575:=C;have hmono:nc+1<=1048575:=Nat.le_trans (GF (k::rr) _ (nc+1) s) I;rw [List.append_assoc] at t
   obtain ⟨Z,A,z,E⟩:=L.row r (g:=g) (c:=c) (l:=l) (ex:=ex) (a:=a) (J:=Fk v) (by omega) (by
    rcases M with ⟨f,b,D,_⟩ | ⟨j,f,b,D⟩
    ·exact .inl ⟨f,b,D⟩
    ·refine .inr ⟨j,?_,b,D⟩;rw [f] at t;exact λF=>(List.nodup_cons.1 t).1 (by simp [F])) (λj f b D o=>by
    rcases M with ⟨B,_⟩ | ⟨j',B,k2,k3⟩
    ·obtain ⟨_,_,o⟩:=o;rw [o] at B;cases B
    ·rw [B];cases a with
     | blk p m =>
      have:=r.inj _ _ _ _ _ _ _ f k2 trivial trivial b k3;simp [this]
     | nil=>obtain ⟨_,_,o⟩:=o;cases o
     | fz es=>obtain ⟨_,_,o⟩:=o;cases o)
   have W:(Co (k::rr) i++(Fk v++S)).Nodup:=by
    rw [<- List.append_assoc] at t ⊢;have hp:(Fk v++Co (k::rr) i++S).Perm (Co (k::rr) i++Fk v++S):=List.Perm.append_right S List.perm_append_comm;exact hp.nodup_iff.1 t
   obtain ⟨Z2,w1,w2,w3⟩:=hs E W I;refine ⟨Z2,z.trans w1,?_,.cons ((U Z nc A).mono w1) w3⟩;refine w2.perm λj => ?_;simp only [List.mem_append];constructor
   ·rintro (h | h | h)
    ·exact .inl (.inr h)
    ·exact .inl (.inl h)
    ·exact .inr h
   ·rintro ((h | h) | h)
    ·exact .inr (.inl h)
    ·exact .inl h
    ·exact .inr (.inr h)
  ·cases e
 | [.kp id],cs,w,K,hkp,hv,e=>by
  unfold IJ at e;split at e
  ·rename_i j;replace e:=BD e;obtain ⟨F,e⟩:=e;obtain ⟨p,N,rfl,f,b⟩:=hv.cons_inv;refine ⟨(),e,fun {Y S hc nc} L _ _=>⟨Y,Up.refl _,L,.cons (lu L f F ?_) (by rw [b.nil_inv];exact .nil)⟩⟩;simpa [On] using hkp
  ·cases e
 | .kp id::k::rr,cs,w,K,hkp,hv,e=>by
  unfold IJ at e;split at e
  ·rename_i j i;replace e:=BD e;obtain ⟨F,e⟩:=e;obtain ⟨p,N,rfl,f,b⟩:=hv.cons_inv
   have G:Nat.blt id nx0=true/\On nx0 (k::rr)=true:=by
    have:(Nat.blt id nx0&&On nx0 (k::rr))=true:=hkp
    rwa [Bool.and_eq_true] at this
   obtain ⟨s,e1,hs⟩:=Kh r (sg:=k::rr) G.2 b e;refine ⟨((),s),e1,fun {Y S hc nc} L t C => ?_⟩;have u:Co (.kp id::k::rr) (.ow j::i)=Co (k::rr) i:=rfl;rw [u] at t ⊢;obtain ⟨Z,A,z,E⟩:=hs L t C;exact ⟨Z,A,z,.cons ((lu L f F G.1).mono A) E⟩
  ·cases e
 | [.cn c],cs,w,K,hkp,hv,e=>by
  unfold IJ at e;split at e
  ·rename_i v;replace e:=BD e;obtain ⟨F,e⟩:=e;obtain ⟨p,N,rfl,f,b⟩:=hv.cons_inv;exact ⟨(),e,fun {Y S hc nc} L _ _=>⟨Y,Up.refl _,L,.cons (c0 F f) (by rw [b.nil_inv];exact .nil)⟩⟩
  ·cases e
 | .cn c::k::rr,cs,w,K,hkp,hv,e=>by
  unfold IJ at e;split at e
  ·rename_i v i;replace e:=BD e;obtain ⟨F,e⟩:=e;obtain ⟨p,N,rfl,f,b⟩:=hv.cons_inv;obtain ⟨s,e1,hs⟩:=Kh r (sg:=k::rr) hkp b e;refine ⟨((),s),e1,fun {Y S hc nc} L t C => ?_⟩;have u:Co (.cn c::k::rr) (v::i)=Co (k::rr) i:=rfl;rw [u] at t ⊢;obtain ⟨Z,A,z,E⟩:=hs L t C;exact ⟨Z,A,z,.cons (c0 F f) E⟩
  ·cases e
variable {t:T V} {tP:T PV}
def Gi (t:T V) (h:H) (p:Pl):List Nat:=Cp t h [p]
theorem WJ (p:Pl) (l:List Pl):Cp t h (p::l)=Gi t h p++Cp t h l:=by
 unfold Gi;cases p<;>simp [Cp]
theorem ME (tc:T V) (hc:H) (nc:Nat) (p:Pl) (s:p.den):nc<=(Fo tc hc nc p s).2.2:=by
 cases p with
 | slot=>exact Nat.le_refl _
 | srow=>exact Nat.le_succ _
 | swin=>exact Nat.le_succ _
 | cn=>exact Nat.le_refl _
 | box id sg=>exact GF sg hc nc s
 | map=>exact Nat.le_refl _
theorem Ki : ∀ (l:List Pl) (tc:T V) (hc:H) (nc:Nat) (s:DW l),nc<=(CB tc hc nc l s).2.2
 | [],_,_,_,_=>Nat.le_refl _
 | [p],tc,hc,nc,s=>ME tc hc nc p s
 | p::q::r,tc,hc,nc,s=>Nat.le_trans (ME tc hc nc p s.1) (Ki (q::r) _ _ _ s.2)
theorem pn (r:RH X h n) {g:Bool} {c:Ty} {l:List c.den} {ex:Bool} {a:At} {v:V} (o:(a = .nil/\l=[]/\ex=false/\Fk v=[]) \/ ∃ j,Fk v=[j]/\h.get j=some (.row g c l ex false false)/\X.π j=some a) :
  ∀ j,h.get j=some (.row g c l ex false false)->X.π j=some a->j ∉ S->(∃ p m,a = .blk p m)->j∈Fk v:=λj i e _ b=>by
 rcases o with ⟨d,_⟩ | ⟨j',d,f,k⟩
 ·obtain ⟨_,_,b⟩:=b;rw [b] at d;cases d
 ·rw [d];cases a with
  | blk p m =>
   have:=r.inj _ _ _ _ _ _ _ i f trivial trivial e k;simp [this]
  | nil=>obtain ⟨_,_,b⟩:=b;cases b
  | fz es=>obtain ⟨_,_,b⟩:=b;cases b
theorem Ui (r:RH X h n) (hn:nx0<=1048575) (ht:TR X t tP) {nt:Nat} (hnt:nt<1048575) {p:Pl} (z:CE nt nx0 [p]=true) (U : ∀ i∈Bf [p],i<nx0) {K:p.den->Option β} (e:M5 t h p K=some x) :
  ∃ s,K s=some x /\ ∀ {Y:Cx} {S:List Nat} {tc:T V} {hc:H} {nc:Nat},LInv X h nx0 Y S hc nc->TR Y tc tP->(Gi t h p++S).Nodup->(Fo tc hc nc p s).2.2<=1048575 ->
   ∃ Z,Up Y Z/\LInv X h nx0 Z (Gi t h p++S) (Fo tc hc nc p s).2.1 (Fo tc hc nc p s).2.2/\TR Z (Fo tc hc nc p s).1 tP:=by
 have put : ∀ {Y:Cx} {tc:T V} {k:Nat} {v:V} {q:PV},TR Y tc tP->k<1048575->tP.get k=some q->VR Y v q->TR Y (T.put 20 tc k v) tP:=by
  intro Y tc k v q o A C u i w hi;have h20:(2:Nat) ^ 20-1=1048575:=by decide
  rw [T.get_put 20 tc k v i (by omega)] at hi;by_cases F:i=k
  ·rw [if_pos F] at hi;cases hi;rw [F];exact ⟨q,C,u⟩
  ·rw [if_neg F] at hi;exact o i w hi
 cases p with
 | slot k g c =>
  unfold M5 at e;replace e:=AZ e;obtain ⟨v,u,e⟩:=e;obtain ⟨q,C,b⟩:=ht _ _ u;replace e:=Kd b e;obtain ⟨y,e,hE⟩:=e
  have A:k<1048575:=by
   have:k<nt:=by simpa [CE] using z
   omega
  refine ⟨y,e,fun {Y S tc hc nc} L o f E=>⟨Y,Up.refl _,?_,?_⟩⟩
  ·exact L
  ·refine put o A C (MB (X:=Y) ?_);have hQ:Y.Q=X.Q:=by unfold Cx.Q;rw [L.oo]
   rw [L.hh,hQ];exact hE
 | cn k c =>
  unfold M5 at e;replace e:=AZ e;obtain ⟨v,u,e⟩:=e;obtain ⟨q,C,b⟩:=ht _ _ u;replace e:=BD e;obtain ⟨hj,e⟩:=e
  have A:k<1048575:=by
   have:k<nt:=by simpa [CE] using z
   omega
  exact ⟨(),e,fun {Y S tc hc nc} L o f E=>⟨Y,Up.refl _,L,put o A C (c0 hj b)⟩⟩
 | srow k g c ex =>
  unfold M5 at e;replace e:=AZ e;obtain ⟨v,u,e⟩:=e;obtain ⟨q,C,b⟩:=ht _ _ u;obtain ⟨l,a,e1,ha,hz⟩:=P1 r b e
  have A:k<1048575:=by
   have:k<nt:=by simpa [CE] using z
   omega
  have d:Gi t h (.srow k g c ex)=Fk v:=by simp [Gi,Cp,u]
  refine ⟨l,e1,fun {Y S tc hc nc} L o f E => ?_⟩;rw [d] at f ⊢;have hb':nc+1<=1048575:=E
  obtain ⟨Z,M,B,W⟩:=L.row r (g:=g) (c:=c) (l:=l) (ex:=ex) (a:=a) (J:=Fk v) (by omega) (by
   rcases ha with ⟨P,O,h3,_⟩ | ⟨j,P,O,h3⟩
   ·exact .inl ⟨P,O,h3⟩
   ·refine .inr ⟨j,?_,O,h3⟩;rw [P] at f
    exact (List.nodup_cons.1 f).1) (pn r ha)
  exact ⟨Z,B,W,put (o.mono B) A C (hz Z nc M)⟩
 | swin k g c =>
  unfold M5 at e;replace e:=AZ e;obtain ⟨v,u,e⟩:=e;obtain ⟨q,C,b⟩:=ht _ _ u;obtain ⟨l,len,j,pid,m,e1,hj,D,N,rfl⟩:=cz r b e
  have A:k<1048575:=by
   have:k<nt:=by simpa [CE] using z
   omega
  have d:Gi t h (.swin k g c)=[j]:=by simp [Gi,Cp,u,hj]
  refine ⟨(l,len),e1,fun {Y S tc hc nc} L o f E => ?_⟩;rw [d] at f ⊢;have hb':nc+1<=1048575:=E
  obtain ⟨Z,M,B,W⟩:=L.row r (g:=g) (c:=c) (l:=l) (ex:=true) (a:=.blk pid m) (J:=[j]) (by omega)
   (.inr ⟨j,(List.nodup_cons.1 f).1,D,N⟩) (λj' P O _ _=>by
    have:=r.inj _ _ _ _ _ _ _ P D trivial trivial O N
    simp [this])
  exact ⟨Z,B,W,put (o.mono B) A C (by simp only [VR];exact ⟨pid,m,M,rfl⟩)⟩
 | box id sg =>
  simp only [M5] at e;split at e
  ·rename_i cs D;have hB:=r.blk _ _ D;obtain ⟨pid,m,ps,fz',b1,b2,b3,b4,b5⟩:=hB;obtain ⟨s,e1,hs⟩:=Kh (nx0:=nx0) r (by simpa [CE] using z) b5 e;have d:Gi t h (.box id sg)=Co sg cs++[id]:=by simp [Gi,Cp,D]
   refine ⟨s,e1,fun {Y S tc hc nc} L o f E => ?_⟩;rw [d] at f ⊢;have G:id<nx0:=U id (by simp [Bf])
   have hN1:(Co sg cs++S).Nodup:=by
    have N:(Co sg cs++[id]++S).Perm ([id]++(Co sg cs++S)):=by
     rw [List.append_assoc];exact List.perm_append_comm_assoc _ _ _
    exact (List.nodup_cons.1 (N.nodup_iff.1 f)).2
   have hN2:id ∉ Co sg cs++S:=by
    have N:(Co sg cs++[id]++S).Perm ([id]++(Co sg cs++S)):=by
     rw [List.append_assoc];exact List.perm_append_comm_assoc _ _ _
    exact (List.nodup_cons.1 (N.nodup_iff.1 f)).1
   obtain ⟨Z,M,B,W⟩:=hs L hN1 E
   have I:=B.put r (c:=.box (Hk hc nc sg s).1 false false) G (by omega) D trivial hN2 (by
    rw [b1]
    exact ⟨pid,m,ps,fz',rfl,by rw [B.oo];exact b2,by rw [B.hh];exact b3,b4,W⟩)
   refine ⟨Z,M,?_,o.mono M⟩;refine I.perm λj => ?_;simp only [List.mem_cons,List.mem_append,List.not_mem_nil,or_false];constructor
   ·rintro (h | h | h)
    ·exact .inl (.inr h)
    ·exact .inl (.inl h)
    ·exact .inr h
   ·rintro ((h | h) | h)
    ·exact .inr (.inl h)
    ·exact .inl h
    ·exact .inr (.inr h)
  ·cases e
 | map id k g c =>
  simp only [M5] at e;split at e
  ·rename_i k' g' c' l D;replace e:=BD e;obtain ⟨hgg,e⟩:=e;have:=eq_of_beq hgg;subst this;unfold lm at e;split at e
   ·rename_i A;subst A;split at e
    ·rename_i hc;subst hc;have hB:=r.blk _ _ D;obtain ⟨pid,m,es,b1,b2,b3,b4⟩:=hB;have d:Gi t h (.map id k' g c')=[id]:=by simp [Gi,Cp]
     refine ⟨l,e,fun {Y S tc hc nc} L o f E => ?_⟩;rw [d] at f ⊢;have G:id<nx0:=U id (by simp [Bf])
     have I:=L.put r (c:=.mp k' g c' l false) G (by omega) D trivial ((List.nodup_cons.1 f).1) (by
      rw [b1];have hQ:Y.Q=X.Q:=by unfold Cx.Q;rw [L.oo]
      exact ⟨pid,m,es,rfl,by rw [L.oo];exact b2,by rw [L.hh];exact b3,by
       unfold MR
       rw [L.hh,hQ];exact b4⟩)
     exact ⟨Y,Up.refl _,I,o⟩
    ·cases e
   ·cases e
  ·cases e
theorem Su {nt nx0:Nat} {p:Pl} {l:List Pl} (h:CE nt nx0 (p::l)=true):CE nt nx0 [p]=true/\CE nt nx0 l=true:=by
 cases p<;>simp [CE] at h ⊢ <;> exact h
theorem HJ {p:Pl} {l:List Pl} {i:Nat}:(i∈Bf [p]->i∈Bf (p::l))/\(i∈Bf l->i∈Bf (p::l)):=by
 refine ⟨λh => ?_,λh => ?_⟩<;>cases p<;>simp [Bf] at h ⊢ <;> simp [h]
theorem N8 (r:RH X h n) (g:nx0<=1048575) (m:TR X t tP) {nt:Nat} (a:nt<1048575) : ∀ {l:List Pl} {K:DW l->Option β},CE nt nx0 l=true->(∀ i∈Bf l,i<nx0)->HH t h l K=some x ->
  ∃ s,K s=some x /\ ∀ {Y:Cx} {S:List Nat} {tc:T V} {hc:H} {nc:Nat},LInv X h nx0 Y S hc nc->TR Y tc tP->(Cp t h l++S).Nodup->(CB tc hc nc l s).2.2<=1048575 ->
   ∃ Z,Up Y Z/\LInv X h nx0 Z (Cp t h l++S) (CB tc hc nc l s).2.1 (CB tc hc nc l s).2.2/\TR Z (CB tc hc nc l s).1 tP
 | [],K,_,_,e=>⟨(),e,λL d _ _=>⟨_,Up.refl _,L,d⟩⟩
 | [p],K,hsl,hid,e=>by
  obtain ⟨s,e1,hs⟩:=Ui r g m a hsl hid e;exact ⟨s,e1,λL d b k=>hs L d b k⟩
 | p::q::rr,K,hsl,hid,e=>by
  unfold HH at e;obtain ⟨s1,s2⟩:=Su hsl;obtain ⟨s,e1,hs⟩:=Ui r g m a s1 (λi hi=>hid i (HJ.1 hi)) e;obtain ⟨u,e2,E⟩:=N8 r g m a (l:=q::rr) s2 (λi hi=>hid i (HJ.2 hi)) e1;refine ⟨(s,u),e2,fun {Y S tc hc nc} L d b k => ?_⟩;rw [WJ] at b ⊢;have f:(CB (Fo tc hc nc p s).1 (Fo tc hc nc p s).2.1 (Fo tc hc nc p s).2.2 (q::rr) u).2.2<=1048575:=k;rw [List.append_assoc] at b;have C:(Gi t h p++(Cp t h (q::rr)++S)).Perm (Cp t h (q::rr)++(Gi t h p++S)):=List.perm_append_comm_assoc _ _ _;have c:=C.nodup_iff.1 b;obtain ⟨Z,z,D,y⟩:=hs L d (List.nodup_append.1 c).2.1 (Nat.le_trans (Ki (q::rr) _ _ _ u) f);obtain ⟨B,A,w,o⟩:=E D y c f;refine ⟨B,z.trans A,?_,o⟩;refine w.perm λj => ?_;simp only [List.mem_append];constructor
  ·rintro (h | h | h)
   ·exact .inl (.inr h)
   ·exact .inl (.inl h)
   ·exact .inr h
  ·rintro ((h | h) | h)
   ·exact .inr (.inl h)
   ·exact .inl h
   ·exact .inr (.inr h)
end
end Go.Proofs.YtfilfloanndddaaGreat.Sv
namespace Go.Proofs.YtfilfloanndddaaGreat.Sv
variable [Pi.Gl]
open Go.Proofs.YtfilfloanndddaaGreat.Pi (PV T Hp Blk DF UM PE A5 BM AS Bg CH)
def PX (P:Program) (a:Jc) (c:Code) (fp:Pi.Fr) (h:Hp) (r:Pi.Ex×Pi.Fr×Hp):Prop :=
 ∃ N,∀ m F n,N<=m->N<=F->N<=n->Pi.exec P (Bt a) (Pi.GA P (Bt a) F n) m c fp h=some r
def nK (P:Program) (i:Jc) (b bP:Nat) (c:Code) (X:Cx) (h:H) (nx:Nat) (fp:Pi.Fr) {β:Type} (K:KA β) (x:β):Prop :=
 ∃ ex a h' e Y g d f,K ex a h' e=some x/\PX P i c fp X.h (g,d,f)/\BI b bP X h nx Y h' e f/\FR Y a d/\Vi Y ex g
def Cx.bump (X:Cx) (k:Nat):Cx:={ X with h:={ X.h with nx:=X.h.nx+k } }
theorem Uj (X:Cx) (k q:Nat):(X.bump k).h.get q=X.h.get q:=rfl
theorem NI (X:Cx) (k:Nat):Up X (X.bump k):=⟨λ_ _ h=>h,λ_ _ _ fz h k=>⟨⟨fz,k⟩,h⟩⟩
theorem RH.bump {X:Cx} {h:H} {n:Nat} (r:RH X h n) (k:Nat):RH (X.bump k) h (n+k) :=
 ⟨λi c hi=>(r.blk i c hi).keep (NI X k) λ_ _ _ b=>⟨rfl,b⟩,r.inj,λi a hi=>Nat.lt_of_lt_of_le (r.dom i a hi) (Nat.le_add_right _ _),λq d=>r.fresh q (by have:X.h.nx+k<=q:=d;omega),r.ob⟩
theorem NJ (X:Cx) (h:H) (k b bP:Nat):Ext b bP X h (X.bump k) h :=
 ⟨(Up.low X b).trans (NI X k),λ_ _ h=>h,λ_ _ h=>h,Nat.le_add_right _ _,λ_ _ h _=>h,λ_ a c _ _ _ _ _ _ h=>⟨a,c,h⟩⟩
structure DrawnAOK (P:Program) (tab:Jc):Prop where
 go : ∀ {β:Type} {x:β} {nx:Nat} {ops:List Oper} {fr:FrA} {h:H} {K:FrA->H->Option β},V9 P tab nx ops fr h K=some x -> ∀ {X:Cx} {fp:Pi.Fr},RH X h nx->nx+ops.length<=1048575->FR X fr fp->(∀ o∈ops,∀ d,o.dst=some d->d<fr.nt) ->
  ∃ fr' h' Y fp' hP',K fr' h'=some x/\(∃ N,∀ F n,N<=F->N<=n->Pi.drawn P (Pi.GA P (Bt tab) F n) X.h.nx ops fp (X.bump ops.length).h=some (fp',hP'))/\(∀ b bP,b<=nx->bP<=X.h.nx->BI b bP X h nx Y h' (nx+ops.length) hP')/\FR Y fr' fp'
theorem Gj : ∀ {l:List Nat},Eb l=true->l.Nodup
 | [],_ => .nil
 | a::l,h=>by
  simp only [Eb,Bool.and_eq_true,Bool.not_eq_true',List.any_eq_false] at h;refine List.nodup_cons.2 ⟨λb => ?_,Gj h.2⟩;exact h.1 a b (by simp)
section
variable {P:Program} {tab:Jc} {ann:Pm} {f:FuncId} {rec:Po}
structure KB (X:Cx) (h:H) (n0:Nat) (kb:List Nat) (h0:H):Prop where
 go : ∀ i c,h0.get i=some c->i∈kb/\i<n0/\(∃ d,h.get i=some d/\d.live)/\BR (X.low n0) c (X.π i)
theorem KB.linv {X:Cx} {h q:H} {n e:Nat} {o:List Nat} (k:KB X h e o q) (r:RH X h n):LInv X h e (X.low e) o q e:=by
 refine ⟨rfl,rfl,λi hi=>Cx.low_eq hi,λi hi=>Cx.low_ge (by omega),Nat.le_refl _,λi c hi => ?_,λi t c z p m A hi g b l => ?_,λi c p m hi b => ?_⟩
 ·obtain ⟨_,a,_,u⟩:=k.go i c hi;rw [Cx.low_eq a];exact ⟨u,a⟩
 ·obtain ⟨_,a,⟨d,j,f⟩,_⟩:=k.go i c hi;obtain ⟨_,w,⟨B,y,s⟩,_⟩:=k.go t z g;rw [Cx.low_eq a] at b;rw [Cx.low_eq w] at l;exact r.inj _ _ _ _ _ _ _ j y f s b l
 ·obtain ⟨x,a,⟨d,j,f⟩,_⟩:=k.go i c hi;rw [Cx.low_eq a] at b;exact ⟨i,x,d,m,j,f,b⟩
theorem BR.lock {X:Cx} {c:BA} {a:Option At} (h:BR X c a):BR X (II c) a:=by cases c<;>exact h
theorem BR.unlock {X:Cx} {c:BA} {a:Option At} (h:BR X (II c) a):BR X c a:=by cases c<;>exact h
theorem KB.entry {X:Cx} {h:H} {n:Nat} {b:List Nat} {g:BA->BA} (r:RH X h n) (s:n<=1048575) (a : ∀ i∈b,i<n) (m : ∀ c,g c=II c\/g c=c):KB X h n b (D6 h g b):=by
 refine ⟨λi c hi => ?_⟩;obtain ⟨l,d,k,rfl,q⟩:=H7 (λj o=>by have:=a j o;omega) hi;refine ⟨l,a i l,⟨d,k,q⟩,?_⟩;have f:BR (X.low n) d (X.π i):=(r.blk _ _ k).keep (Up.toLow r (Nat.le_refl _)) λ_ _ _ p=>⟨rfl,p⟩;rcases m d with e | e
 ·rw [e];exact f.lock
 ·rw [e];exact f
theorem N9 {h:H} : ∀ {l:List (Nat×Nat×Option Code)},Lk h l=true -> ∀ i k c,(i,k,c)∈l -> ∃ nt t m b a d,h.get i=some (.lp k c nt t m b a d)
 | [],_,_,_,_,hm=>by cases hm
 | (j,st',pd')::l,hl,i,k,c,hm=>by
  simp only [Lk,Bool.and_eq_true] at hl;rcases List.mem_cons.1 hm with e | hm
  ·simp only [Prod.mk.injEq] at e;obtain ⟨e1,e2,e3⟩:=e;subst e1;subst e2;subst e3;have f:=hl.1;split at f
   ·rename_i p n nt t m b a d o;simp only [Bool.and_eq_true] at f;have e1:=Nat.eq_of_beq_eq_true f.1
    have e2:c=n:=by
     have g:=f.2;split at g
     ·rfl
     ·rfl
     ·rw [Nat.eq_of_beq_eq_true g]
     ·rw [Nat.eq_of_beq_eq_true g]
     ·cases g
    subst e1;subst e2;exact ⟨nt,t,m,b,a,d,o⟩
   ·cases f
  ·exact N9 hl.2 i k c hm
theorem JL {h:H} {i e nt d:Nat} {c:Option Code} {t:T V} {f:List Nat} {b a:Code} : ∀ {l:List Nat},i∈l->h.get i=some (.lp e c nt t f b a d)->(i,e,c)∈Ec h l
 | j::l,hm,hg=>by
  rcases List.mem_cons.1 hm with rfl | hm
  ·simp [Ec,hg]
  ·have:=JL hm hg;unfold Ec;split
   ·exact List.mem_cons_of_mem _ this
   ·exact this
theorem OA {h:H} {i:Nat} {a:Option (List DFA)} : ∀ {l:List Nat},i∈l->h.get i=some (.df a)->i∈M6 h l
 | j::l,hm,hg=>by
  rcases List.mem_cons.1 hm with rfl | hm
  ·simp [M6,hg]
  ·have:=OA hm hg;unfold M6;split
   ·exact List.mem_cons_of_mem _ this
   ·exact this
theorem Rd {h:H} {i:Nat} {a:Option (List DFA)} : ∀ {l:List Nat},Oo h l=true->i∈l->h.get i=some (.df a)->a=some []
 | j::l,hl,hm,hg=>by
  simp only [Oo,Bool.and_eq_true] at hl;rcases List.mem_cons.1 hm with rfl | hm
  ·have b:=hl.1;rw [hg] at b;cases a with
   | none=>cases b
   | some l=>cases l with
    | nil=>rfl
    | cons=>cases b
  ·exact Rd hl.2 hm hg
theorem MF {h:H} : ∀ {l:List Nat} {i:Nat},L7 h l=true->i∈l->h.get i=some (.df (some []))
 | j::l,i,hl,hm=>by
  simp only [L7,Bool.and_eq_true] at hl;rcases List.mem_cons.1 hm with rfl | hm
  ·have a:=hl.1;split at a
   ·assumption
   ·cases a
  ·exact MF hl.2 hm
theorem BR.lowOf {X Y:Cx} {b:Nat} {c:BA} {a a':Option At} (k:BR (X.low b) c a') (h:BR Y c a):BR (Y.low b) c a:=by
 cases c with
 | box cs fz J =>
  obtain ⟨pid,n,s,I,e,o,B,j,F⟩:=h;obtain ⟨_,_,u,_,_,_,_,_,C⟩:=k;exact ⟨pid,n,s,I,e,o,B,j,VRL.lowOf C F⟩
 | row g c l ex fz J=>exact h
 | mp kk g c l J=>exact h
 | lp st K nt t s S L d =>
  obtain ⟨pid,n,tP,dP,m,e,o,B,j,F,h6⟩:=h;obtain ⟨_,_,P,_,_,_,_,_,A,C,_⟩:=k;refine ⟨pid,n,tP,dP,m,e,o,B,λi v hi => ?_,?_,h6⟩
  ·obtain ⟨p,hp,hv⟩:=j i v hi;obtain ⟨q,_,W⟩:=A i v hi;exact ⟨p,hp,VR.lowOf W hv⟩
  ·by_cases w:d<b
   ·rw [Cx.low_eq w];exact F
   ·rw [Cx.low_ge w] at C;cases C
 | df ds =>
  obtain ⟨pid,n,r,e,o,B,j⟩:=h;obtain ⟨_,_,z,_,_,_,A⟩:=k;refine ⟨pid,n,r,e,o,B,?_⟩;cases ds with
  | none =>
   cases r with
   | none=>trivial
   | some=>exact j.elim
  | some l =>
   cases r with
   | none=>exact j.elim
   | some m =>
    cases z with
    | none=>exact A.elim
    | some D =>
     simp only at j A ⊢
     have U : ∀ {l:List DFA} {m D:List DF},L2 (DFR (X.low b)) l D->L2 (DFR Y) l m->L2 (DFR (Y.low b)) l m:=by
      intro l
      induction l with
      | nil=>intro m D _ h;rw [L2.nil_inv h];exact .nil
      | cons x l Z =>
       intro m D k h;obtain ⟨y,t,rfl,e,o⟩:=L2.cons_inv h;obtain ⟨y',t',rfl,E,k2⟩:=L2.cons_inv k;refine .cons ?_ (Z k2 o);cases x with
       | call f args =>
        obtain ⟨fP,s,e1,e2,e3⟩:=e;obtain ⟨fP',u,_,M,G⟩:=E;exact ⟨fP,s,e1,VR.lowOf M e2,VRL.lowOf G e3⟩
       | bi bb ats ty args =>
        obtain ⟨s,e1,e3⟩:=e;obtain ⟨u,_,G⟩:=E;exact ⟨s,e1,VRL.lowOf G e3⟩
       | col id =>
        obtain ⟨pid,n,e1,e2⟩:=e;obtain ⟨O,n',N,M⟩:=E;refine ⟨pid,n,?_,e2⟩;by_cases w:id<b
        ·rw [Cx.low_eq w];exact e1
        ·rw [Cx.low_ge w] at N;cases N
     exact U A j
 | dead=>trivial
theorem YQ {Z Y:Cx} {e h':H} {c b bP:Nat} (f:c<=b) (ext:Ext b bP Z e Y h'):Up (Z.low c) (Y.low c):=by
 refine ⟨λi a hi => ?_,ext.up.rows⟩;by_cases d:i<c
 ·rw [Cx.low_eq d] at hi ⊢;exact ext.up.pi i a (by rw [Cx.low_eq (by omega)];exact hi)
 ·rw [Cx.low_ge d] at hi;cases hi
def YR (l:List (Nat×Nat×Option Code)) (i:Nat) (c b:BA):Prop:=match c with
 | .lp _ _ nt t ps asg body d => ∃ a e,(i,a,e)∈l/\b = .lp a e nt t ps asg body d
 | c=>b=c
def kX (X:Cx) (h:H) (d:List Nat) (b:Nat) (l:List (Nat×Nat×Option Code)) (W:Cx):Prop :=
 ∀ i c,h.get i=some c->i∈d->c.live->W.π i=X.π i /\ ∀ a,YR l i c a->BR (W.low b) a (W.π i)
theorem ZZ {X Z Y:Cx} {h h1 h':H} {n' B b bP:Nat} {n:List Nat} (J:Oo h n=true) (K : ∀ i∈n,i<B) (E:kX X h n B (Ec h n) Z)
  (L : ∀ i c,h.get i=some c->i∈n->c.live->h1.get i=some (II c)) (hX : ∀ i c,h.get i=some c->c.live -> ∃ a,X.π i=some a) (ext:Ext b bP Z h1 Y h') (hb:B<=b) (S:RH Y h' n') (hd:L7 h' (M6 h n)=true) {l:List (Nat×Nat×Option Code)} (hl:Lk h' l=true) (I:l.map (·.1)=(Ec h n).map (·.1)) :
  kX X h n B l Y /\ ∀ i c,h.get i=some c->i∈n->c.live -> ∃ d,h'.get i=some d/\d.live:=by
 have up:=YQ hb ext
 have z : ∀ i c,h.get i=some c->i∈n->c.live->Y.π i=X.π i:=λi c hi j f=>by
  obtain ⟨a,ha⟩:=hX i c hi f;obtain ⟨k1,_⟩:=E i c hi j f;rw [ha] at k1 ⊢;exact ext.up.pi i a (by rw [Cx.low_eq (by have:=K i j;omega)];exact k1)
 have locked : ∀ i c,h.get i=some c->i∈n->c.live->(II c).locked=true->YR (Ec h n) i c c->h'.get i=some (II c)/\BR (Y.low B) c (Y.π i):=λi c hi j f O hn=>by
  have g:=ext.lk i (II c) (L i c hi j f) O;refine ⟨g,?_⟩;have u:=(S.blk _ _ g).unlock;exact BR.lowOf ((E i c hi j f).2 c hn) u
 refine ⟨λi c hi j f=>⟨z i c hi j f,λF o => ?_⟩,λi c hi j f => ?_⟩
 ·cases c with
  | box cs fz A=>rw [show F=_ from o];exact (locked i _ hi j f rfl rfl).2
  | row g c x ex fz A=>rw [show F=_ from o];exact (locked i _ hi j f rfl rfl).2
  | mp k g c x A=>rw [show F=_ from o];exact (locked i _ hi j f rfl rfl).2
  | dead=>exact f.elim
  | df ds =>
   rw [show F=_ from o];have:=Rd J j hi;subst this;have g:=MF hd (OA j hi);have u:=S.blk _ _ g;obtain ⟨pid,m,D,q1,q2,q3,q4⟩:=u;refine ⟨pid,m,D,q1,q2,q3,?_⟩;cases D with
   | none=>exact q4
   | some mm=>rw [show mm=[] from L2.nil_inv q4];exact .nil
  | lp r s nt t ps w p d =>
   obtain ⟨M,P,N,rfl⟩:=o;obtain ⟨U,t',G,C,q,d',g⟩:=N9 hl i M P N;have hZ:=(E i _ hi j f).2 (.lp r s nt t ps w p d) ⟨r,s,JL j hi,rfl⟩;obtain ⟨pid,m,tP,dP,m2,z1,z2,z3,z4,z5,z6⟩:=hZ;obtain ⟨st',pe',y3⟩:=ext.lps _ _ _ _ _ _ _ _ _ z3;have u:=S.blk _ _ g
   have y:Y.π i=some (.blk pid m):=by
    rw [z i _ hi j f,<- (E i _ hi j f).1];exact z1
   rw [y] at u;obtain ⟨_,_,tP2,dP2,m3,w1,w2,W,_,_,_⟩:=u;cases w1;rw [y3] at W;cases W;rw [y];exact ⟨pid,m,tP,dP,m2,rfl,w2,y3,z4.mono up,up.pi _ _ z5,z6⟩
 ·cases c with
  | box cs fz A=>exact ⟨_,(locked i _ hi j f rfl rfl).1,trivial⟩
  | row g c x ex fz A=>exact ⟨_,(locked i _ hi j f rfl rfl).1,trivial⟩
  | mp k g c x A=>exact ⟨_,(locked i _ hi j f rfl rfl).1,trivial⟩
  | dead=>exact f.elim
  | df ds=>exact ⟨_,MF hd (OA j hi),trivial⟩
  | lp r s nt t ps w p d =>
   have h0:=JL j hi;have:i∈(Ec h n).map (·.1):=List.mem_map.2 ⟨_,h0,rfl⟩;rw [<- I] at this;obtain ⟨⟨i',M,P⟩,N,e⟩:=List.mem_map.1 this;simp only at e;subst e;obtain ⟨U,t',G,C,q,d',g⟩:=N9 hl i' M P N;exact ⟨_,g,trivial⟩
end
end Go.Proofs.YtfilfloanndddaaGreat.Sv
namespace Go.Proofs.YtfilfloanndddaaGreat.Sv
variable [Pi.Gl]
open Go.Proofs.YtfilfloanndddaaGreat.Pi (PV T Hp Blk DF UM PE A5 BM AS Bg CH)
section
variable {P:Program} {tab:Jc} {β:Type} {x:β}
def nq (X:Cx) (e:ExA) (a:Pi.Ex) (pay:Ty) (y:pay.den) (k:ExK):Prop := ∀ Z:Cx,Z.h=X.h->Z.O=X.O->Vi Z (Se pay y k) a
theorem kY {X:Cx} {h:H} {e:ExA} {b:Pi.Ex} {pay:Ty} {k:ExK} {K:pay.den->Option β} (l:Vi X e b) (u:nk e k=true) (a:nj h e pay k K=some x) : ∃ y,K y=some x/\nq X e b pay y k:=by
 cases k with
 | exit i =>
  cases e with
  | exit j =>
   replace a:=BD a;obtain ⟨f,a⟩:=a;have:=Nat.eq_of_beq_eq_true f;subst this;exact ⟨_,a,λZ _ _=>l⟩
  | _=>cases a
 | ret =>
  cases e with
  | ret=>exact ⟨_,a,λZ _ _=>l⟩
  | _=>cases a
 | pan t g c =>
  cases e with
  | panic v =>
   cases v with
   | ifc w v =>
    replace a:=BD a;obtain ⟨f,a⟩:=a;have:=Nat.eq_of_beq_eq_true f;subst this;split at a
    ·rename_i hc;subst hc;obtain ⟨p,rfl,d⟩:=l;simp only [VR] at d;obtain ⟨q,rfl,d⟩:=d;obtain ⟨y,e1,s⟩:=Kd d a;refine ⟨y,e1,λZ n r => ?_⟩;have o:Se c y (.pan t g c) = .panic (.ifc t (ZP g c y)):=dif_pos rfl;rw [o];refine ⟨_,rfl,?_⟩;simp only [VR];refine ⟨q,rfl,MB ?_⟩;have m:Z.Q=X.Q:=by unfold Cx.Q;rw [r]
     rw [n,m];exact s
    ·cases a
   | _=>cases a
  | _=>cases a
theorem Re {X:Cx} {h:H} {c:List Nat} {e:ExA} {f:Pi.Ex} {pay:Ty} (m:Vi X e f) : ∀ {l:List (ExK×List (Nat×Nat×Option Code))} {i:Nat} {K:Nat->pay.den->Option β},Nz h c e pay i l K=some x ->
  ∃ j k d y,l[j]? = some (k,d)/\Lk h d=true/\d.map (·.1)=c/\K (i+j) y=some x/\nq X e f pay y k
 | [],i,K,a=>by cases a
 | (k,d)::l,i,K,a=>by
  unfold Nz at a;replace a:=Fj a;rcases a with ⟨b,a⟩ | ⟨b,a⟩
  ·simp only [Bool.and_eq_true] at b;obtain ⟨y,e1,e2⟩:=kY m b.1 a;exact ⟨0,k,d,y,rfl,b.2.1,eq_of_beq b.2.2,e1,e2⟩
  ·obtain ⟨j,q,g,y,r,p,s,o,n⟩:=Re m a;exact ⟨j+1,q,g,y,by simpa using r,p,s,by rw [show i+(j+1)=i+1+j from by omega];exact o,n⟩
theorem P2 {pay:Ty} {y:pay.den} : ∀ {l:List (ExK×List (Nat×Nat×Option Code))} {i j:Nat} {k:ExK} {a:List (Nat×Nat×Option Code)} {K:ExA->List (Nat×Nat×Option Code)->Option β},l[j]? = some (k,a)->UV pay y (i+j) i l K=some x->K (Se pay y k) a=some x
 | [],i,j,k,a,K,hj,e=>by cases e
 | [(k',lp')],i,j,k,a,K,hj,e=>by
  cases j with
  | zero=>simp at hj;obtain ⟨rfl,rfl⟩:=hj;exact e
  | succ j=>simp at hj
 | (k',lp')::b::l,i,j,k,a,K,hj,e=>by
  unfold UV at e;cases j with
  | zero =>
   simp at hj;obtain ⟨rfl,rfl⟩:=hj;rcases Ew e with ⟨_,e⟩ | ⟨c,e⟩
   ·exact e
   ·simp [neq] at c
  | succ j =>
   rcases Ew e with ⟨c,e⟩ | ⟨c,e⟩
   ·simp [neq] at c
   ·exact P2 (i:=i+1) (j:=j) (by simpa using hj) (by rw [show i+1+j=i+(j+1) from by omega];exact e)
theorem Za {t:T V} {l:List Nat} {W:Cx} {c a:T PV} (e : ∀ i∈l,i<1048575) (h:TR W (D5 t l) c) (same : ∀ k∈l,a.get k=c.get k):TR W (D5 t l) a:=λk v b=>by
 obtain ⟨p,f,d⟩:=h k v b;exact ⟨p,by rw [same k (N7 e b).1];exact f,d⟩
structure It (P:Program) (X:Cx) (h:H) (nx bP:Nat) (fr:FrA) (kb keep:List Nat) (pl:List Pl) (lp:List (Nat×Nat×Option Code)) (W:Cx) (fp:Pi.Fr) (s:DW pl):Prop where
 go : ∃ hW nW src,RH W hW nW/\kX X h kb nx lp W/\(∀ i c,h.get i=some c->i∈kb->c.live -> ∃ d,hW.get i=some d/\d.live)/\(src++kb).Nodup /\
  ∀ {Y:Cx} {S:List Nat} {tc:T V} {hc:H} {nc:Nat},LInv W hW nx Y S hc nc->TR Y tc fp.t->(src++S).Nodup->(CB tc hc nc pl s).2.2<=1048575 ->
   ∃ Z,Up Y Z/\LInv W hW nx Z (src++S) (CB tc hc nc pl s).2.1 (CB tc hc nc pl s).2.2/\TR Z (CB tc hc nc pl s).1 fp.t
 t:TR (W.low nx) (D5 fr.t keep) fp.t
 ds:L2 (DFR (W.low nx)) fr.ds fp.ds
 nt:fp.nt=fr.nt
 up:fp.up=none
 ro:ROR (W.low nx) fr.ro fp.ro
 ext:Ext nx bP X .lf W .lf
def WK (h:H) (f:List Nat) (b:List (Nat×Nat×Option Code)) (e:H):Prop := ∀ i c,e.get i=some c->i∈f /\ ∃ d,h.get i=some d/\d.live/\(YR b i d c \/ ∃ a,YR b i d a/\c=II a)
theorem It.lay {X:Cx} {h e:H} {nx bP:Nat} {fr:FrA} {u keep:List Nat} {pl:List Pl} {G:List (Nat×Nat×Option Code)} {W:Cx} {fp:Pi.Fr} {s:DW pl} (I:It P X h nx bP fr u keep pl G W fp s) (n:fr.nt<1048575) (C:fr.up=none) (w : ∀ i∈u,i<nx) (M:WK h u G e)
  (Y:(CB (D5 fr.t keep) e nx pl s).2.2<=1048575) :
  ∃ Z,Z.h=W.h/\RH Z (CB (D5 fr.t keep) e nx pl s).2.1 (CB (D5 fr.t keep) e nx pl s).2.2/\FR Z { fr with t:=(CB (D5 fr.t keep) e nx pl s).1 } fp/\Up (W.low nx) Z/\(∀ i,i<nx->Z.π i=W.π i)/\Z.O=W.O/\nx<=(CB (D5 fr.t keep) e nx pl s).2.2:=by
 obtain ⟨U,nW,K,r,hK,g,A,j⟩:=I.go
 have x:KB W U nx u e:=⟨λi c hi=>by
  obtain ⟨o,d,D,E,l⟩:=M i c hi;refine ⟨o,w i o,g i d D o E,?_⟩;obtain ⟨_,J⟩:=hK i d D o E;rcases l with l | ⟨F,l,rfl⟩
  ·exact J c l
  ·exact (J F l).lock⟩
 obtain ⟨Z,z,b,z3⟩:=j (x.linv r) I.t A Y
 have S:RH Z (CB (D5 fr.t keep) e nx pl s).2.1 (CB (D5 fr.t keep) e nx pl s).2.2:=by
  refine ⟨λi c hi=>(b.blk i c hi).1,λi i' c F p m m' hi B _ _ N L=>b.inj _ _ _ _ _ _ _ hi B N L,λi a hi => ?_,λq f => ?_,λq f => ?_⟩
  ·by_cases y:i<(CB (D5 fr.t keep) e nx pl s).2.2
   ·exact y
   ·rw [b.hi i (by omega)] at hi;cases hi
  ·rw [b.hh] at f ⊢;exact r.fresh q f
  ·rw [b.hh];rw [b.oo] at f;exact r.ob q f
 refine ⟨Z,b.hh,S,⟨z3,I.nt,n,I.ds.mono λ_ _ k=>k.mono z,?_,I.ro.mono z⟩,z,b.lo,b.oo,b.le⟩;rw [C];exact I.up
theorem Ov {i:Nat} : ∀ {pl:List Pl} {tc:T V} {hc:H} {nc:Nat} {s:DW pl},i<nc->i ∉ Bf pl->(CB tc hc nc pl s).2.2<=1048575->(∀ j∈Bf pl,j<1048575)->(CB tc hc nc pl s).2.1.get i=hc.get i:=by
 have sg : ∀ {sg:List Sgm} {hc:H} {nc:Nat} {s:Pk sg},i<nc->(Hk hc nc sg s).2.2<=1048575->(Hk hc nc sg s).2.1.get i=hc.get i:=by
  intro sg
  induction sg with
  | nil=>intro hc nc s _ _;rfl
  | cons a sg n =>
   intro hc nc s hi d;cases sg with
   | nil =>
    cases a with
    | lf c=>rfl
    | ow g c ex =>
     show (Ai hc nc _).get i=_;have:nc+1<=1048575:=d;rw [Au (by omega),if_neg (by omega)]
    | kp id=>rfl
    | cn c=>rfl
   | cons q f =>
    cases a with
    | lf c=>exact n hi d
    | kp id=>exact n hi d
    | cn c=>exact n hi d
    | ow g c ex =>
     have e:(Hk (Ai hc nc (.row g c s.1 ex false false)) (nc+1) (q::f) s.2).2.2<=1048575:=d;have t:=GF (q::f) (Ai hc nc (.row g c s.1 ex false false)) (nc+1) s.2;have:=n (hc:=Ai hc nc (.row g c s.1 ex false false)) (nc:=nc+1) (s:=s.2) (by omega) e;show (Hk (Ai hc nc (.row g c s.1 ex false false)) (nc+1) (q::f) s.2).2.1.get i=_;rw [this,Au (by omega),if_neg (by omega)]
 have o : ∀ {p:Pl} {tc:T V} {hc:H} {nc:Nat} {s:p.den},i<nc->i ∉ Bf [p]->(Fo tc hc nc p s).2.2<=1048575->(∀ j∈Bf [p],j<1048575)->(Fo tc hc nc p s).2.1.get i=hc.get i:=by
  intro p tc hc nc s hi b d m;cases p with
  | slot=>rfl
  | cn=>rfl
  | swin k g c =>
   show (Ai hc nc _).get i=_;have:nc+1<=1048575:=d;rw [Au (by omega),if_neg (by omega)]
  | srow k g c ex =>
   show (Ai hc nc _).get i=_;have:nc+1<=1048575:=d;rw [Au (by omega),if_neg (by omega)]
  | box id r =>
   show (Ai (Hk hc nc r s).2.1 id _).get i=_;rw [Au (m id (by simp [Bf])),if_neg (by intro hh;subst hh;exact b (by simp [Bf]))];exact sg hi d
  | map id k g c =>
   show (Ai hc id _).get i=_;rw [Au (m id (by simp [Bf])),if_neg (by intro hh;subst hh;exact b (by simp [Bf]))]
 intro pl
 induction pl with
 | nil=>intros;rfl
 | cons p l n =>
  intro tc hc nc s hi b d m;cases l with
  | nil=>exact o hi b d m
  | cons q f =>
   have e:(CB (Fo tc hc nc p s.1).1 (Fo tc hc nc p s.1).2.1 (Fo tc hc nc p s.1).2.2 (q::f) s.2).2.2<=1048575:=d;have t:=Ki (q::f) (Fo tc hc nc p s.1).1 (Fo tc hc nc p s.1).2.1 (Fo tc hc nc p s.1).2.2 s.2;have u:=o (p:=p) (tc:=tc) (hc:=hc) (nc:=nc) (s:=s.1) hi (λh=>b (HJ.1 h)) (by omega) (λj h=>m j (HJ.1 h));show (CB (Fo tc hc nc p s.1).1 (Fo tc hc nc p s.1).2.1 (Fo tc hc nc p s.1).2.2 (q::f) s.2).2.1.get i=_;rw [n (Nat.lt_of_lt_of_le hi (ME tc hc nc p s.1)) (λh=>b (HJ.2 h)) e (λj h=>m j (HJ.2 h)),u]
theorem JM {h:H} {f:BA->BA} : ∀ {l:List Nat} {i:Nat} {c:BA},(∀ j∈l,j<1048575)->i∈l->h.get i=some c->c.live->(D6 h f l).get i=some (f c)
 | j::l,i,c,hl,hm,hg,hv=>by
  have k:(2:Nat) ^ 20-1=1048575:=by decide
  have g:=hl j (by simp);unfold D6;by_cases a:i=j
  ·subst a;rw [hg];cases c with
   | dead=>exact hv.elim
   | _=>simp only;rw [T.get_put 20 _ _ _ _ (by omega),if_pos rfl]
  ·have d:i∈l:=by
    rcases List.mem_cons.1 hm with e | hm
    ·exact absurd e a
    ·exact hm
   have b:=JM (f:=f) (λj g=>hl j (by simp [g])) d hg hv;split
   ·exact b
   ·rw [T.get_put 20 _ _ _ _ (by omega),if_neg a];exact b
   ·exact b
theorem MG {h:H} : ∀ {l:List (Nat×Nat×Option Code)} {i:Nat},(∀ p∈l,p.1<1048575)->(Gg h l).get i=h.get i \/ ∃ m n nt t o b a d e f,(i,m,n)∈l/\h.get i=some (.lp e f nt t o b a d)/\(Gg h l).get i=some (.lp m n nt t o b a d)
 | [],i,_ => .inl rfl
 | (j,m,n)::l,i,hl=>by
  have g:=MG (h:=h) (l:=l) (i:=i) λp G=>hl p (by simp [G]);have F:=hl (j,m,n) (by simp);unfold Gg;split
  ·rename_i e f nt t o b a d E;rw [Au F];by_cases k:i=j
   ·subst k;rw [if_pos rfl];exact .inr ⟨m,n,nt,t,o,b,a,d,e,f,by simp,E,rfl⟩
   ·rw [if_neg k];rcases g with g | ⟨x,w,u,C,z,y,B,D,r,c,s,q,A⟩
    ·exact .inl g
    ·exact .inr ⟨x,w,u,C,z,y,B,D,r,c,by simp [s],q,A⟩
  ·rcases g with g | ⟨x,w,u,C,z,y,B,D,r,c,s,q,A⟩
   ·exact .inl g
   ·exact .inr ⟨x,w,u,C,z,y,B,D,r,c,by simp [s],q,A⟩
end
end Go.Proofs.YtfilfloanndddaaGreat.Sv
namespace Go.Proofs.YtfilfloanndddaaGreat.Sv
variable [Pi.Gl]
open Go.Proofs.YtfilfloanndddaaGreat.Pi (PV T Hp Blk DF UM PE A5 BM AS Bg CH)
section
variable {X:Cx} {h:H} {n b bP:Nat}
theorem RH.drop (r:RH X h n) (U:n<=1048575) {j:Nat} {g:Bool} {c:Ty} {l:List c.den} {ex fz:Bool} (E:h.get j=some (.row g c l ex fz false)) {h':H} (hh:h'=D6 h (λb=>b) ((List.range n).filter λi => !Nat.beq i j)) :
  (∃ Y:Cx,Y.π=X.π/\Y.h=X.h/\Up X Y/\RH Y h' n/\Ext b bP X h Y h' /\ ∀ pid m,X.π j=some (.blk pid m)->Y.Q pid) /\ ∀ i o,h.get i=some o->o.live->i≠j->h'.get i=some o:=by
 let Y:Cx:={ π:=X.π,h:=X.h,O:=λq=>X.O q /\ ∀ m,X.π j≠some (.blk q m) }
 have u:Up X Y:=⟨λ_ _ h=>h,λ_ _ _ fz t k=>⟨⟨fz,k⟩,λw=>t w.1⟩⟩
 have D : ∀ i∈(List.range n).filter λi => !Nat.beq i j,i<1048575:=λi hi=>by
  have:=List.mem_range.1 (List.mem_filter.1 hi).1;omega
 have A : ∀ {i:Nat} {c:BA},h'.get i=some c->i≠j/\h.get i=some c/\c.live:=fun {i o} hi=>by
  rw [hh] at hi;obtain ⟨y,d,x,rfl,C⟩:=H7 D hi;refine ⟨λe => ?_,x,C⟩;have:=(List.mem_filter.1 y).2;rw [e] at this;simp at this
 have hs : ∀ i o,h.get i=some o->o.live->i≠j->h'.get i=some o:=λi o hi s z=>by
  obtain ⟨a,J⟩:=(r.blk _ _ hi).live_blk s;rw [hh];refine JM (f:=λb=>b) D (List.mem_filter.2 ⟨List.mem_range.2 (r.dom _ _ J),?_⟩) hi s;cases t:Nat.beq i j with
  | false=>rfl
  | true=>exact absurd (Nat.eq_of_beq_eq_true t) z
 refine ⟨⟨Y,rfl,rfl,u,⟨λi o hi => ?_,λi P S W p m L hi B G N => ?_,r.dom,r.fresh,λq t=>r.ob q t.1⟩,⟨(Up.low X b).trans u,λ_ _ h=>h,λ_ _ h=>h,Nat.le_refl _,λi o hi F => ?_,λq K I _ _ _ _ _ _ h=>⟨K,I,h⟩⟩,λpid m e w=>w.2 m e⟩,hs⟩
 ·obtain ⟨y,x,C⟩:=A hi;exact (r.blk i o x).keep u λpid m e w=>⟨rfl,w,λL M=>y (r.inj _ _ _ _ _ _ _ x E C trivial e M)⟩
 ·exact r.inj _ _ _ _ _ _ _ (A hi).2.1 (A B).2.1 G N
 ·have s:o.live:=by cases o<;>first | trivial | cases F
  exact hs i o hi s λe=>by subst e;rw [E] at hi;cases hi;cases F
theorem RH.reput (r:RH X h n) {id:Nat} (f:id<1048575) {c d:BA} (hc:h.get id=some c) (s:c.live) (o:BR X d (X.π id)):RH X (Ai h id d) n:=by
 refine ⟨λi e hi => ?_,λi z b g p m A hi j l x => ?_,r.dom,r.fresh,r.ob⟩
 ·rw [Au f] at hi;by_cases a:i=id
  ·rw [if_pos a] at hi;cases hi;subst a;exact o
  ·rw [if_neg a] at hi;exact r.blk _ _ hi
 ·have k : ∀ {i:Nat} {b:BA},(Ai h id d).get i=some b->b.live -> ∃ g,h.get i=some g/\g.live:=fun {i b} hi t=>by
   rw [Au f] at hi;by_cases a:i=id
   ·subst a;exact ⟨c,hc,s⟩
   ·rw [if_neg a] at hi;exact ⟨b,hi,t⟩
  obtain ⟨e1,q,y⟩:=k hi l;obtain ⟨e2,w,u⟩:=k j x;exact r.inj _ _ _ _ _ _ _ q w y u
theorem YS {β:Type} {x:β} (r:RH X h n) (G:n<=1048575) {v:V} {p:PV} (j:VR X v p) {K:V->H->Option β} (e:kH h n v K=some x) :
  ∃ E h' Y,K E h'=some x/\Y.π=X.π/\Y.h=X.h/\Up X Y/\RH Y h' n/\Ext b bP X h Y h'/\VR Y E p /\ ∀ i cs fz,h.get i=some (.box cs fz false)->h'.get i=some (.box cs fz false):=by
 unfold kH at e;split at e
 ·rename_i id;split at e
  ·rename_i g c l ex fz d;obtain ⟨⟨Y,z,s,t,A,C,B⟩,hs⟩:=r.drop (b:=b) (bP:=bP) G d rfl;refine ⟨_,_,Y,e,z,s,t,A,C,?_,λi cs fz hi=>hs i _ hi trivial λe=>by subst e;rw [d] at hi;cases hi⟩;simp only [VR] at j ⊢;cases f:X.π id with
   | none=>rw [f] at j;exact j.elim
   | some a =>
    rw [f] at j;have u:=r.blk _ _ d;rw [f] at u;rcases u with ⟨pid,len,es,o,k,w,D,L,J,I,q⟩ | ⟨k,_,w⟩ | ⟨es,k,_,_,w⟩
    ·cases k;simp only at j;subst j;refine .inr (.inr ⟨pid,0,len,es,ex,o,rfl,(λh=>by cases h),B _ _ f,by rw [s];exact D,by omega,Ca rfl q,?_⟩);rw [List.drop_zero,List.take_of_length_le (by omega)];exact EDR.mono t q
    ·cases k;simp only at j;exact .inl ⟨j,w⟩
    ·cases k;simp only at j;exact .inr (.inl ⟨true,es,j,(λh=>by cases h),w⟩)
  ·cases e
 ·rename_i id off len;split at e
  ·rename_i g c l ex fz d;replace e:=Ax e;obtain ⟨y,e⟩:=e;obtain ⟨⟨Y,z,s,t,A,C,B⟩,hs⟩:=r.drop (b:=b) (bP:=bP) G d rfl;refine ⟨_,_,Y,e,z,s,t,A,C,?_,λi cs fz hi=>hs i _ hi trivial λe=>by subst e;rw [d] at hi;cases hi⟩;simp only [VR] at j ⊢;obtain ⟨pid,m,f,rfl⟩:=j;have u:=r.blk _ _ d;rw [f] at u;rcases u with ⟨pid,F,es,o,k,w,D,L,J,I,q⟩ | ⟨k,_⟩ | ⟨es,k,_⟩
   ·cases k;refine .inr (.inr ⟨_,off,len,es,ex,o,rfl,(λh=>by cases h),B _ _ f,by rw [s];exact D,?_,Ca rfl q,?_⟩)
    ·rw [<- q.length];simpa [BP,Ag,AA] using y
    ·exact Si (EDR.mono t q) off len
   ·cases k
   ·cases k
  ·cases e
 ·cases e
theorem Rf : ∀ {l:List PV} {i:Nat} {p:PV},Pi.lget l i=some p->Pi.lset l i p=l
 | [],_,_,e=>by cases e
 | a::l,i,p,e=>by
  unfold Pi.lget at e;unfold Pi.lset;cases b:Nat.beq i 0 with
  | true=>rw [b] at e;cases e;rfl
  | false=>rw [b] at e;simp only [cond_false] at e ⊢;rw [Rf e]
theorem YT {β:Type} {x:β} (B:n<=1048575) : ∀ {l:List (Nat×Nat)} {X:Cx} {h:H} {K:H->Option β},RH X h n->kI n l h K=some x -> ∃ h' Y,K h'=some x/\Y.h=X.h/\Up X Y/\RH Y h' n/\Ext b bP X h Y h'
 | [],X,h,K,r,e=>⟨h,X,e,rfl,Up.refl X,r,Ext.refl _ _ _ _⟩
 | (d,i)::l,X,h,K,r,e=>by
  unfold kI at e;split at e
  ·rename_i cs fz u;replace e:=AZ e;obtain ⟨v,J,e⟩:=e;obtain ⟨pid,m,ps,fz',j,b2,C,b4,P⟩:=r.blk _ _ u;obtain ⟨p,hp,g⟩:=P.lget J;obtain ⟨E,h',Y,e,t,o,U,w,y5,W,y7⟩:=YS (b:=b) (bP:=bP) r B g e;have a:=y7 _ _ _ u;have c:d<1048575:=by have:=r.dom _ _ j;omega
   obtain ⟨y,m2,S,M,A,c2,z,G,c5⟩:=w.blk _ _ a;rw [t,j] at A;cases A;rw [o,C] at z;cases z
   have r2:RH Y (Ai h' d (.box (Pi.lset cs i E) fz false)) n:=w.reput c a trivial (by
    rw [t,j];refine ⟨_,_,_,_,rfl,c2,by rw [o];exact C,G,?_⟩;have:=c5.lset i W
    rw [Rf hp] at this;exact this)
   obtain ⟨D,Z,e,O,I,N,z4⟩:=YT B (l:=l) r2 e;refine ⟨D,Z,e,by rw [O,o],U.trans I,N,(y5.trans ?_).trans z4⟩;refine ⟨Up.low Y b,λ_ _ h=>h,λ_ _ h=>h,Nat.le_refl _,λk c' s hl => ?_,λq L F _ _ _ _ _ _ h=>⟨L,F,h⟩⟩;rw [Au c];by_cases f:k=d
   ·subst f;rw [a] at s;cases s;cases hl
   ·rw [if_neg f];exact s
  ·cases e
end
end Go.Proofs.YtfilfloanndddaaGreat.Sv
namespace Go.Proofs.YtfilfloanndddaaGreat.Sv
variable [Pi.Gl]
open Go.Proofs.YtfilfloanndddaaGreat.Pi (PV T Hp Blk DF UM PE A5 BM AS Bg CH)
theorem kZ {α β γ δ:Type} {f:α->Option (LR δ γ)} {s:α} {k:δ->Option β} {b:γ->Option β} {x:β} (e:jn f s k b=some x):(∃ y,f s=some (.nx y)/\k y=some x) \/ ∃ y,f s=some (.dn y)/\b y=some x:=by
 unfold jn at e;split at e
 ·cases e
 ·rename_i y a;exact .inl ⟨y,a,e⟩
 ·rename_i y a;exact .inr ⟨y,a,e⟩
theorem WL {α β:Type} {f:α->Option (LR α β)} {s:α} {r:β} (e:Di 0 f s=some r):False:=by cases e
section
variable {P:Program} {tab:Jc} {ann:Pm} {f:FuncId} {rec:Po}
def WM (P:Program) (a:Jc) (ann:Pm) (f:FuncId) (rec:Po) (n:Nat) (c:Code):Prop :=
 ∀ {β:Type} {x:β} {b bP:Nat} {fr:FrA} {h:H} {nx:Nat} {K:KA β},M8 P a ann f rec n β b c fr h nx K=some x -> ∀ {X:Cx} {fp:Pi.Fr},RH X h nx->nx<=1048575->FR X fr fp->b<=nx->bP<=X.h.nx->nK P a b bP c X h nx fp K x
def po (P:Program) (c:Jc) (ann:Pm) (f:FuncId) (rec:Po) (n:Nat) (keep:List Nat) (pl0 pl1 plx:List Pl) (ex:List (ExK×List (Nat×Nat×Option Code))) (pay:Ty) (b:List Nat) (x:Code) (fr:FrA) (h:H) (nx:Nat) (s:DW pl0):Option (LR (DW pl1) (Nat×DW plx×pay.den)) :=
 match CB (D5 fr.t keep) (D6 h II b) nx pl0 s with
 | (t1,h1,nx1)=>bif !Nat.ble nx1 1048575 then none else M8 P c ann f rec n (LR (DW pl1) (Nat×DW plx×pay.den)) nx1 x { fr with t:=t1 } h1 nx1 λe a h' _ =>
  bif !Nat.beq a.ds.length fr.ds.length || !L7 h' (M6 h b) then none else match e with
  | .normal=>bif Eb (Cp a.t h' pl1++b)&&Lk h' (Ec h b) then HH a.t h' pl1 λs'=>some (.nx s') else none
  | e=>bif Eb (Cp a.t h' plx++b) then Nz h' ((Ec h b).map (·.1)) e pay 0 ex λi p=>HH a.t h' plx λs'=>some (.dn (i,s',p)) else none
theorem Sw {n:Nat} {keep:List Nat} {pl0 pl1 plx:List Pl} {ex:List (ExK×List (Nat×Nat×Option Code))} {pay:Ty} {g:List Nat} {c:Code} {fr:FrA} {h:H} {nx bP:Nat} (B:WM P tab ann f rec n c) {X:Cx} (rX:RH X h nx) (hnx:nx<=1048575) (E:fr.nt<1048575) (hup:fr.up=none) (w : ∀ i∈g,i<nx) (hids : ∀ i∈Bf pl0,i<nx) (u : ∀ i∈Bf pl1,i<nx) (M : ∀ i∈Bf plx,i<nx) (U:CE fr.nt nx pl1=true) (hslx:CE fr.nt nx plx=true) (hdis : ∀ i∈g,i ∉ Bf pl0) (hwr : ∀ k∈FW c,k ∉ keep) (hkeep : ∀ k∈keep,k<1048575) (hdf:Oo h g=true) (hbP:bP<=X.h.nx)
  {W:Cx} {fp:Pi.Fr} {s:DW pl0} (I:It P X h nx bP fr g keep pl0 (Ec h g) W fp s) {r:LR (DW pl1) (Nat×DW plx×pay.den)} (e:po P tab ann f rec n keep pl0 pl1 plx ex pay g c fr h nx s=some r) :
  ∃ Y l m,PX P tab c fp W.h (m,l,Y.h)/\((∃ s',r = .nx s'/\m = .normal/\It P X h nx bP fr g keep pl1 (Ec h g) Y l s') \/
   ∃ j k lp y s',r = .dn (j,s',y)/\ex[j]? = some (k,lp)/\m ≠ .normal/\lp.map (·.1)=(Ec h g).map (·.1)/\It P X h nx bP fr g keep plx lp Y l s' /\ ∀ Z:Cx,Z.h=Y.h->Z.O=Y.O->Vi Z (Se pay y k) m):=by
 have D : ∀ j∈g,j<1048575:=λj A=>by have:=w j A;omega
 unfold po at e;generalize hL:CB (D5 fr.t keep) (D6 h II g) nx pl0 s=L at e;obtain ⟨t1,h1,nx1⟩:=L;simp only at e;replace e:=DL e;obtain ⟨hb,e⟩:=e;have J:nx1<=1048575:=by simpa using hb
 have S:WK h g (Ec h g) (D6 h II g):=λi c hi=>by
  obtain ⟨k1,d,k2,rfl,k3⟩:=H7 D hi;refine ⟨k1,d,k2,k3,.inr ⟨d,?_,rfl⟩⟩;cases d with
  | lp st pd nt t ps asg body dd=>exact ⟨st,pd,JL k1 k2,rfl⟩
  | _=>rfl
 obtain ⟨Z,z1,z2,z3,z4,z5,z6,z7⟩:=I.lay E hup w S (by rw [hL];exact J);rw [hL] at z2 z3 z7;simp only at z2 z3 z7;obtain ⟨exx,F,h',nx',Y,m,l,hP',o,q2,G,q4,q5⟩:=B e z2 J z3 (Nat.le_refl _) (bP:=bP) (by rw [z1];exact Nat.le_trans hbP I.ext.nx);replace o:=DL o;obtain ⟨hck,o⟩:=o;simp only [Bool.or_eq_false_iff,Bool.not_eq_false'] at hck;obtain ⟨c1,c3⟩:=hck
 have hKZ:kX X h g nx (Ec h g) Z:=λi d hi C x=>by
  obtain ⟨hW,nW,src,rW,hK,_⟩:=I.go;obtain ⟨k1,k2⟩:=hK i d hi C x;refine ⟨by rw [z5 i (w i C)];exact k1,λc' hc' => ?_⟩
  have hlow:Z.low nx=W.low nx:=by
   unfold Cx.low;rw [z1,z6]
   congr 1
   funext j
   by_cases A:j<nx
   ·simp only [A,if_true];exact z5 j A
   ·simp only [A,if_false]
  rw [hlow,z5 i (w i C)];exact k2 c' hc'
 have h1k : ∀ i d,h.get i=some d->i∈g->d.live->h1.get i=some (II d):=λi d hi C x=>by
  have:=Ov (i:=i) (pl:=pl0) (tc:=D5 fr.t keep) (hc:=D6 h II g) (nc:=nx) (s:=s) (w i C) (hdis i C) (by rw [hL];exact J) (λj A=>by have:=hids j A;omega);rw [hL] at this;rw [this];exact JM D C hi x
 have hXs : ∀ i d,h.get i=some d->d.live -> ∃ a,X.π i=some a:=λi d hi x=>(rX.blk i d hi).live_blk x;obtain ⟨N,hN⟩:=q2;have kp:Kp (FW c) fp l:=GC (by rw [I.nt];exact E) (hN N N N (Nat.le_refl _) (Nat.le_refl _) (Nat.le_refl _))
 have hds:l.ds=fp.ds:=by
  obtain ⟨p,hp⟩:=kp.ds;have l1:=q4.ds.length;have l2:=I.ds.length;have l3:=Nat.eq_of_beq_eq_true c1;rw [hp] at l1 ⊢;simp only [List.length_append] at l1;have:p=[]:=List.length_eq_zero_iff.1 (by omega);rw [this];rfl
 have z:Up (W.low nx) (Y.low nx):=by
  have u1:Up (W.low nx) (Z.low nx):=by
   refine ⟨λi a hi => ?_,z4.rows⟩;by_cases hn:i<nx
   ·rw [Cx.low_eq hn] at hi ⊢;rw [z5 i hn];exact hi
   ·rw [Cx.low_ge hn] at hi;cases hi
  exact u1.trans (YQ z7 G.ext)
 have extZ:Ext nx bP W .lf Z .lf:=⟨z4,λj A k=>by rw [z5 j A];exact k,λq _ k=>by rw [z1];exact k,by rw [z1];exact Nat.le_refl _,λ_ _ k=>(by cases k),λq st pe nt t ps asg body d k=>⟨st,pe,by rw [z1];exact k⟩⟩
 have extY:Ext nx bP Z .lf Y .lf:=by
  have:=G.ext.le (b:=nx) (bP:=bP) z7 (Nat.le_refl _);exact ⟨this.up,this.pin,this.hpn,this.nx,λ_ _ k=>(by cases k),this.lps⟩
 have ext2:=(I.ext.trans extZ).trans extY
 have mk : ∀ {pl1:List Pl} {lp:List (Nat×Nat×Option Code)},(∀ i∈Bf pl1,i<nx)->CE fr.nt nx pl1=true->Eb (Cp F.t h' pl1++g)=true->Lk h' lp=true->lp.map (·.1)=(Ec h g).map (·.1) -> ∀ {γ:Type} {y:γ} {K:DW pl1->Option γ},HH F.t h' pl1 K=some y -> ∃ s',K s'=some y/\It P X h nx bP fr g keep pl1 lp Y l s':=by
  intro pl1 lp u U c2 hl hli γ y K hdec;obtain ⟨hKY,hlY⟩:=ZZ hdf w hKZ h1k hXs G.ext z7 G.rh c3 hl hli;obtain ⟨s',e1,hlay⟩:=N8 (nx0:=nx) G.rh hnx q4.t q4.big (by rw [<- q4.nt,kp.nt,I.nt];exact U) u hdec;refine ⟨s',e1,⟨⟨h',nx',Cp F.t h' pl1,G.rh,hKY,hlY,Gj c2,hlay⟩,Za hkeep (I.t.mono z) (λk C=>kp.t k λhw=>hwr k hw C),?_,by rw [kp.nt];exact I.nt,kp.up I.up,by rw [kp.ro];exact I.ro.mono z,ext2⟩⟩;rw [hds];exact I.ds.mono λ_ _ k=>k.mono z
 have hpx:PX P tab c fp W.h (m,l,Y.h):=by
  refine ⟨N,?_⟩;rw [G.hp,<- z1];exact hN
 cases exx with
 | normal =>
  simp only at o;replace o:=BD o;obtain ⟨hl,o⟩:=o;rw [Bool.and_eq_true] at hl;obtain ⟨s',e1,I'⟩:=mk u U hl.1 hl.2 rfl o;cases e1;exact ⟨Y,l,m,hpx,.inl ⟨s',rfl,q5,I'⟩⟩
 | _ =>
  simp only at o;replace o:=BD o;obtain ⟨c2,o⟩:=o;obtain ⟨j,k,lp,y,f1,f2,f3,f4,f5⟩:=Re q5 o;obtain ⟨s',e1,I'⟩:=mk M hslx c2 f2 f3 f4;cases e1;refine ⟨Y,l,m,hpx,.inr ⟨0+j,k,lp,y,s',rfl,by rw [Nat.zero_add];exact f1,λhh=>(by rw [hh] at q5;simp [Vi] at q5),f3,I',f5⟩⟩
theorem YU {n:Nat} {a:Tm} {u:List Nat} {c:Code} {fr:FrA} {h:H} {nx bP:Nat} (B:WM P tab ann f rec n c) {X:Cx} (rX:RH X h nx) (G:nx<=1048575) (q:fr.nt<1048575) (J:fr.up=none) (A : ∀ i∈u,i<nx) (b : ∀ i∈Bf a.pl,i<nx) (d : ∀ i∈Bf a.plx,i<nx) (C:CE fr.nt nx a.pl=true) (p:CE fr.nt nx a.plx=true) (o : ∀ i∈u,i ∉ Bf a.pl) (K : ∀ k∈FW c,k ∉ a.keep) (g : ∀ k∈a.keep,k<1048575) (z:Oo h u=true) (E:bP<=X.h.nx) :
  ∀ {m:Nat} {W:Cx} {fp:Pi.Fr} {s:DW a.pl} {r:Nat×DW a.plx×a.pay.den},It P X h nx bP fr u a.keep a.pl (Ec h u) W fp s->Di m (po P tab ann f rec n a.keep a.pl a.pl a.plx a.ex a.pay u c fr h nx) s=some r ->
   ∃ Y M l j k w y s',PX P tab (.loop c) fp W.h (l,M,Y.h)/\r=(j,s',y)/\a.ex[j]? = some (k,w)/\w.map (·.1)=(Ec h u).map (·.1)/\It P X h nx bP fr u a.keep a.plx w Y M s' /\ ∀ Z:Cx,Z.h=Y.h->Z.O=Y.O->Vi Z (Se a.pay y k) l
 | 0,W,fp,s,r,I,e=>(WL e).elim
 | m+1,W,fp,s,r,I,e=>by
  unfold Di at e;split at e
  ·cases e
  ·rename_i s1 U;obtain ⟨Y,fp1,l,D,hc | ⟨j,k,w,y,s',x,_⟩⟩:=Sw B rX G q J A b b d C p o K g z E I U
   ·obtain ⟨s',x,rfl,I'⟩:=hc;cases x;obtain ⟨Y2,fp2,L,j,k,w,y,s2,k1,k2,k3,k4,k5,k6⟩:=YU B rX G q J A b d C p o K g z E I' e;refine ⟨Y2,fp2,L,j,k,w,y,s2,?_,k2,k3,k4,k5,k6⟩;obtain ⟨S,a1⟩:=D;obtain ⟨N2,a2⟩:=k1;refine ⟨max S N2+1,λt F N hm hF hn => ?_⟩;obtain ⟨t,rfl⟩ : ∃ m',t=m'+1:=⟨t-1,by omega⟩;rw [Pi.exec];simp only [a1 t F N (by omega) (by omega) (by omega)];exact a2 t F N (by omega) (by omega) (by omega)
   ·cases x
  ·rename_i x1 U;cases e;obtain ⟨Y,fp1,l,D,⟨s',x,_⟩ | ⟨j,k,w,y,s',x,h2,h3,h4,h5,h6⟩⟩:=Sw B rX G q J A b b d C p o K g z E I U
   ·cases x
   ·cases x;refine ⟨Y,fp1,l,j,k,w,y,s',?_,rfl,h2,h4,h5,h6⟩;obtain ⟨S,a1⟩:=D;refine ⟨S+1,λt F N hm hF hn => ?_⟩;obtain ⟨t,rfl⟩ : ∃ m',t=m'+1:=⟨t-1,by omega⟩;rw [Pi.exec];simp only [a1 t F N (by omega) (by omega) (by omega)];cases l with
    | normal=>exact absurd rfl h3
    | _=>rfl
theorem Uk {h:H} {n i:Nat} {l:List Nat} {c:BA} (hi:i<n) (d:h.get i=some c) (f:c.locked=true):i∈Hv h n l:=by
 unfold Hv;by_cases a:i∈l
 ·exact List.mem_append_left _ a
 ·refine List.mem_append_right _ (List.mem_filter.2 ⟨List.mem_range.2 hi,?_⟩);simp only [d,f,Bool.true_and,Bool.not_eq_true',List.any_eq_false];intro x e b;exact a (by rw [Nat.eq_of_beq_eq_true b];exact e)
theorem dA {h a:Hp} {k i:Nat} {b:Blk} (e:h.new i b=some a):({ h with nx:=h.nx+k }:Hp).new i b=some { a with nx:=a.nx+k }:=by
 unfold Pi.Hp.new Pi.Hp.set at *;dsimp only at *;split at e
 ·rename_i d;replace e:=BD e;obtain ⟨c,e⟩:=e;cases e;rw [c];rfl
 ·cases e
theorem RH.setLp {X:Cx} {h:H} {n id pid m E nt d dP z:Nat} {o g:Option Code} {t:T V} {tP:T PV} {x:List Nat} {c a:Code} (r:RH X h n) (M:n<=1048575) (C:h.get id=some (.lp E o nt t x c a d)) (G:X.π id=some (.blk pid m)) (k:X.h.get pid=some (.lp E o nt tP x c a dP)) {l:Hp} (e:X.h.set pid (.lp z g nt tP x c a dP)=some l) (b bP:Nat) :
  ∃ Y:Cx,Y.π=X.π/\Y.h=l/\Y.O=X.O/\Up X Y/\RH Y (Ai h id (.lp z g nt t x c a d)) n/\Ext b bP X h Y (Ai h id (.lp z g nt t x c a d)):=by
 have A:id<1048575:=by have:=r.dom _ _ G;omega
 have J:(BA.lp E o nt t x c a d).live:=trivial;obtain ⟨s,g2⟩:=Hp.get_set e;have hO:X.O pid:=(G ▸ r.blk _ _ C).own J
 let Y:Cx:={ π:=X.π,h:=l,O:=X.O }
 have u:Up X Y:=⟨λ_ _ h=>h,λq es ex fz f hg=>⟨⟨fz,by
  show l.get q=_
  rw [s,if_neg (by intro hh;subst hh;exact f hO),hg]⟩,f⟩⟩
 refine ⟨Y,rfl,rfl,rfl,u,⟨λi I hi => ?_,λi i' I bb' q m1 m2 hi p Z l2 => ?_,r.dom,λq f => ?_,λq f=>by
  show l.get q≠none;rw [s];split
  ·simp
  ·exact r.ob _ f⟩,⟨(Up.low X b).trans u,λ_ _ h=>h,λq f M => ?_,?_,λj I S N => ?_,λq E pe nt t x c a d f => ?_⟩⟩
 ·rw [Au A] at hi;by_cases w:i=id
  ·rw [if_pos w] at hi;cases hi;subst w;have:=r.blk _ _ C;obtain ⟨pid',n',tP',dP',P,B,y,h3,h4,h5,h6⟩:=this;rw [G] at B;cases B;rw [k] at h3;cases h3;exact ⟨_,_,_,_,_,G,y,by show l.get _=_;rw [s,if_pos rfl],h4.mono u,h5,h6⟩
  ·rw [if_neg w] at hi;by_cases F:I.live
   ·refine (r.blk _ _ hi).keep u λq P f W=>⟨?_,W⟩;show l.get q=_;rw [s,if_neg];intro hh;subst hh;exact w (r.inj _ _ _ _ _ _ _ hi C F J f G)
   ·cases I with
    | dead =>
     intro q P f;obtain ⟨k1,U⟩:=r.blk _ _ hi q P f;refine ⟨k1,?_⟩;show l.get q=_;rw [s,if_neg (by intro hh;subst hh;rw [k] at U;cases U)];exact U
    | _=>exact absurd trivial F
 ·rw [Au A] at hi p;by_cases B:i=id
  ·by_cases y:i'=id
   ·intro _ _;rw [B,y]
   ·rw [if_neg y] at p;subst B;intro L K;exact r.inj _ _ _ _ _ _ _ C p J l2 L K
  ·rw [if_neg B] at hi;by_cases y:i'=id
   ·subst y;intro L K;exact r.inj _ _ _ _ _ _ _ hi C Z J L K
   ·rw [if_neg y] at p;exact r.inj _ _ _ _ _ _ _ hi p Z l2
 ·show l.get q=none;have D:X.h.nx<=q:=by rw [<- g2];exact f
  rw [s,if_neg (by intro hh;subst hh;rw [r.fresh _ D] at k;cases k)];exact r.fresh _ D
 ·show l.get q=none;rw [s,if_neg (by intro hh;subst hh;rw [M] at k;cases k)];exact M
 ·show X.h.nx<=l.nx;rw [g2];exact Nat.le_refl _
 ·rw [Au A];rw [if_neg (by intro hh;subst hh;rw [C] at S;cases S;cases N)];exact S
 ·by_cases hh:q=pid
  ·subst hh;rw [k] at f;cases f;exact ⟨_,_,by show l.get _=_;rw [s,if_pos rfl]⟩
  ·exact ⟨E,pe,by show l.get _=_;rw [s,if_neg hh];exact f⟩
theorem P3 {h:H} {nt d n:Nat} {o:Option Code} {t:T V} {r:List Nat} {f a:Code} {i:Nat} (s:h.get i=some (.lp n o nt t r f a d)) : ∀ {l:List (Nat×Nat×Option Code)},(∀ p∈l,p.1<1048575)->i∈l.map (·.1) -> ∃ g c,(i,g,c)∈l/\(Gg h l).get i=some (.lp g c nt t r f a d)
 | (j,g,c)::l,hl,hm=>by
  have u:=hl (j,g,c) (by simp);unfold Gg;by_cases b:i=j
  ·subst b;rw [s];exact ⟨g,c,by simp,by simp only;rw [Au u,if_pos rfl]⟩
  ·have q:i∈l.map (·.1):=by
    rcases List.mem_cons.1 hm with e | hm
    ·exact absurd e b
    ·exact hm
   obtain ⟨m,k,y,w⟩:=P3 s (λp x=>hl p (by simp [x])) q;refine ⟨m,k,by simp [y],?_⟩;split
   ·rw [Au u,if_neg b];exact w
   ·exact w
theorem Jv {h:H} : ∀ {l:List Nat} {i f:Nat} {b:Option Code},(i,f,b)∈Ec h l->i∈l /\ ∃ nt t g c a d,h.get i=some (.lp f b nt t g c a d)
 | j::l,i,f,b,hm=>by
  unfold Ec at hm;split at hm
  ·rename_i k;rcases List.mem_cons.1 hm with e | hm
   ·cases e;exact ⟨by simp,_,_,_,_,_,_,k⟩
   ·have:=Jv hm;exact ⟨by simp [this.1],this.2⟩
  ·have:=Jv hm;exact ⟨by simp [this.1],this.2⟩
theorem YV {n b bP:Nat} {β:Type} {x:β} (o:n<=1048575) : ∀ {l:List Nat} {X:Cx} {h:H} {fr:FrA} {fp:Pi.Fr} {K:FrA->H->Option β},RH X h n->FR X fr fp->kJ n l fr h K=some x -> ∃ f h' Y,K f h'=some x/\Y.h=X.h/\Up X Y/\RH Y h' n/\FR Y f fp/\Ext b bP X h Y h'
 | [],X,h,fr,fp,K,r,F,e=>⟨fr,h,X,e,rfl,Up.refl X,r,F,Ext.refl _ _ _ _⟩
 | k::l,X,h,fr,fp,K,r,F,e=>by
  unfold kJ at e;replace e:=BD e;obtain ⟨D,e⟩:=e;have O:k<1048575:=by simpa using D
  replace e:=AZ e;obtain ⟨v,z,e⟩:=e;obtain ⟨p,M,g⟩:=F.t _ _ z;obtain ⟨j,h',Y,e,P,u,q,B,L,I,S⟩:=YS (b:=b) (bP:=bP) r o g e;have d:=F.mono q
  have C:FR Y { fr with t:=T.put 20 fr.t k j } fp:=⟨λi w hi=>by
   have J:(2:Nat) ^ 20-1=1048575:=by decide
   have a:(T.put 20 fr.t k j).get i=some w:=hi;rw [T.get_put 20 fr.t k j i (by omega)] at a;by_cases c:i=k
   ·rw [if_pos c] at a;cases a;rw [c];exact ⟨p,M,I⟩
   ·rw [if_neg c] at a;exact d.t i w a,d.nt,d.big,d.ds,d.up,d.ro⟩
  obtain ⟨m,s,Z,e,G,y,E,N,A⟩:=YV o (l:=l) B C e;exact ⟨m,s,Z,e,by rw [G,u],q.trans y,E,N,L.trans A⟩
theorem GN {t:T V} {h:H} : ∀ {l:List Pl} {i:Nat},i∈Bf l->i∈Cp t h l
 | [],_,hm=>by cases hm
 | p::l,i,hm=>by
  cases p with
  | slot k g c=>exact GN (l:=l) (by simpa [Bf] using hm)
  | cn k c=>exact GN (l:=l) (by simpa [Bf] using hm)
  | srow k g c ex =>
   have:=GN (t:=t) (h:=h) (l:=l) (i:=i) (by simpa [Bf] using hm);simp only [Cp];exact List.mem_append_right _ this
  | swin k g c =>
   have:=GN (t:=t) (h:=h) (l:=l) (i:=i) (by simpa [Bf] using hm);simp only [Cp];exact List.mem_append_right _ this
  | box id sg =>
   simp only [Bf,List.mem_cons] at hm;simp only [Cp];refine List.mem_append_right _ ?_;rcases hm with rfl | hm
   ·simp
   ·exact List.mem_cons_of_mem _ (GN hm)
  | map id k g c =>
   simp only [Bf,List.mem_cons] at hm;simp only [Cp];rcases hm with rfl | hm
   ·simp
   ·exact List.mem_cons_of_mem _ (GN hm)
theorem It.entry {X:Cx} {h:H} {nx bP:Nat} {fr:FrA} {fp:Pi.Fr} {n keep:List Nat} {pl:List Pl} (r:RH X h nx) (x:nx<=1048575) (F:FR X fr fp) (z:fr.up=none) (E : ∀ i∈n,i<nx) (p:CE fr.nt nx pl=true) (j : ∀ i∈Bf pl,i<nx) (w:(Cp fr.t h pl++n).Nodup) (a : ∀ k∈keep,k<1048575) {γ:Type} {y:γ} {K:DW pl->Option γ} (e:HH fr.t h pl K=some y) :
  ∃ s,K s=some y/\It P X h nx bP fr n keep pl (Ec h n) X fp s:=by
 have m:=Up.toLow r (Nat.le_refl _);obtain ⟨s,e1,f⟩:=N8 (nx0:=nx) r x F.t F.big p j e;refine ⟨s,e1,⟨⟨h,nx,Cp fr.t h pl,r,λi c hi u l=>⟨rfl,λM b => ?_⟩,λi c hi u l=>⟨c,hi,l⟩,w,f⟩,λk v u => ?_,F.ds.mono λ_ _ k=>k.mono m,F.nt,by have:=F.up;rw [z] at this;exact this,F.ro.mono m,?_⟩⟩
 ·have:M=c:=by
   cases c with
   | lp A N nt t C o g d =>
    obtain ⟨G,J,I,rfl⟩:=b;obtain ⟨_,_,_,_,_,_,_,B⟩:=Jv I;rw [hi] at B;cases B;rfl
   | _=>exact b
  subst this;exact (r.blk _ _ hi).keep m λ_ _ _ L=>⟨rfl,L⟩
 ·exact F.t.mono m k v (N7 a u).2
 ·exact ⟨Up.low X nx,λ_ _ h=>h,λ_ _ h=>h,Nat.le_refl _,λ_ _ k=>(by cases k),λq A D nt t C o g d k=>⟨A,D,k⟩⟩
theorem P4 {keep a:List Nat} {pl:List Pl} {fr:FrA} {h:H} {nx b bP:Nat} {X:Cx} (r:RH X h nx) (hn:nx<=1048575) (hbig:fr.nt<1048575) (hup:fr.up=none) (M : ∀ i∈Hv h nx a,i<nx) (hids : ∀ i∈Bf pl,i<nx) (W : ∀ i∈Hv h nx a,i ∉ Bf pl) (hb:b<=nx)
  {lp:List (Nat×Nat×Option Code)} (y:lp.map (·.1)=(Ec h (Hv h nx a)).map (·.1)) {Y:Cx} {N:Pi.Fr} {s':DW pl} (I':It P X h nx bP fr (Hv h nx a) keep pl lp Y N s') {β:Type} {x:β} {k:T V->H->Nat->Option β}
  (e1:(match CB (D5 fr.t keep) (Gg (D6 h (λb=>b) (Hv h nx a)) lp) nx pl s' with
   | (I,w,g)=>bif !Nat.ble g 1048575 then none else k I w g)=some x) :
  ∃ I w g Z,k I w g=some x/\Z.h=Y.h/\Z.O=Y.O/\FR Z { fr with t:=I } N/\BI b bP X h nx Z w g Z.h:=by
 generalize hL:CB (D5 fr.t keep) (Gg (D6 h (λb=>b) (Hv h nx a)) lp) nx pl s'=L at e1;obtain ⟨I,w,g⟩:=L;simp only at e1;replace e1:=DL e1;obtain ⟨hb1,e1⟩:=e1;have A:g<=1048575:=by simpa using hb1
 have e : ∀ j∈Hv h nx a,j<1048575:=λj hj=>by have:=M j hj;omega
 have n : ∀ p∈lp,p.1∈Hv h nx a:=λp E=>by
  have:p.1∈lp.map (·.1):=List.mem_map.2 ⟨p,E,rfl⟩;rw [y] at this;obtain ⟨⟨i,C,S⟩,w,G⟩:=List.mem_map.1 this;simp only at G;rw [<- G];exact (Jv w).1
 have F:WK h (Hv h nx a) lp (Gg (D6 h (λb=>b) (Hv h nx a)) lp):=λi c hi=>by
  rcases MG (h:=D6 h (λb=>b) (Hv h nx a)) (l:=lp) (i:=i) (λp E=>e _ (n p E)) with u | ⟨C,S,nt,t,ps,z,o,d,st0,pd0,hm,u,hs⟩
  ·rw [u] at hi;obtain ⟨J,d,k2,B,k3⟩:=H7 e hi;have B:d=c:=B.symm;subst B;refine ⟨J,_,k2,k3,.inl ?_⟩;cases d with
   | lp C S nt t ps z o d =>
    have h0:=JM (f:=λb=>b) e J k2 k3
    have hm:i∈lp.map (·.1):=by
     rw [y];exact List.mem_map.2 ⟨_,JL J k2,rfl⟩
    obtain ⟨st',pd',m1,m2⟩:=P3 h0 (λp E=>e _ (n p E)) hm;rw [u,h0] at m2;cases m2;exact ⟨C,S,m1,rfl⟩
   | _=>rfl
  ·rw [hs] at hi;cases hi;obtain ⟨J,d',k2,k3,k4⟩:=H7 e u;subst k3;exact ⟨J,_,k2,k4,.inl ⟨C,S,hm,rfl⟩⟩
 obtain ⟨Z,z1,z2,z3,z4,z5,z6,z7⟩:=I'.lay hbig hup M F (by rw [hL];exact A);rw [hL] at z2 z3 z7;simp only at z2 z3 z7;refine ⟨I,w,g,Z,e1,z1,z6,z3,⟨rfl,z2,A,z7,?_⟩⟩;have K:Ext nx bP Y .lf Z .lf:=⟨z4,λj hj k=>by rw [z5 j hj];exact k,λq _ k=>by rw [z1];exact k,by rw [z1];exact Nat.le_refl _,λ_ _ k=>(by cases k),λq C pe nt t ps z o d k=>⟨C,pe,by rw [z1];exact k⟩⟩;have m:=(I'.ext.trans K).le hb (Nat.le_refl bP);refine ⟨m.up,m.pin,m.hpn,m.nx,λi c hi D => ?_,m.lps⟩;have hlv:c.live:=by cases c<;>first | trivial | cases D
 obtain ⟨at',hat⟩:=(r.blk _ _ hi).live_blk hlv;have U:=r.dom _ _ hat;have hk:=Uk (l:=a) U hi D;have G:=Ov (i:=i) (pl:=pl) (tc:=D5 fr.t keep) (hc:=Gg (D6 h (λb=>b) (Hv h nx a)) lp) (nc:=nx) (s:=s') U (W i hk) (by rw [hL];exact A) (λj hj=>by have:=hids j hj;omega);rw [hL] at G;simp only at G;rw [G];have h3:=JM (f:=λb=>b) e hk hi hlv;rcases MG (h:=D6 h (λb=>b) (Hv h nx a)) (l:=lp) (i:=i) (λp E=>e _ (n p E)) with u | ⟨C,S,nt,t,ps,z,o,d,st0,pd0,hm,u,hs⟩
 ·rw [u];exact h3
 ·rw [h3] at u;cases u;cases D
theorem WN (R:RecAOK P tab rec) (T:TabOK P tab) (D:DrawnAOK P tab) : ∀ (n:Nat) (c:Code),WM P tab ann f rec n c:=by
 intro n
 induction n with
 | zero =>
  intro c β x b bP fr h nx K e;cases e
 | succ n ih =>
  intro c β x b bP fr h nx K e X fp r hn F hb S
  have fin : ∀ {ex:ExA} {q:Pi.Ex},K ex fr h nx=some x->Vi X ex q->(∀ m z A,Pi.exec P (Bt tab) (Pi.GA P (Bt tab) z A) (m+1) c fp X.h=some (q,fp,X.h))->nK P tab b bP c X h nx fp K x:=λe hx hp =>
   ⟨_,fr,h,nx,X,_,fp,X.h,e,⟨1,λm z A hm _ _=>by obtain ⟨m,rfl⟩ : ∃ m',m=m'+1:=⟨m-1,by omega⟩;exact hp m z A⟩,⟨rfl,r,hn,Nat.le_refl _,Ext.refl _ _ _ _⟩,F,hx⟩
  cases c with
  | skip=>exact fin e rfl λ_ _ _=>rfl
  | label l=>exact fin e rfl λ_ _ _=>rfl
  | exit i=>exact fin e rfl λ_ _ _=>rfl
  | goto i=>exact fin e rfl λ_ _ _=>rfl
  | ret=>exact fin e rfl λ_ _ _=>rfl
  | refuse w=>cases e
  | seq a d =>
   simp only [M8] at e;split at e
   ·rename_i B htm;replace e:=DL e;obtain ⟨hck,e⟩:=e;simp only [Bool.or_eq_false_iff,Bool.not_eq_false'] at hck;obtain ⟨⟨⟨⟨⟨⟨⟨⟨c1,c2⟩,c2'⟩,c3⟩,c4⟩,c5⟩,c6⟩,c7⟩,c8⟩:=hck
    have hup:fr.up=none:=by
     cases hu:fr.up with
     | none=>rfl
     | some u=>rw [hu] at c1;cases c1
    have hall : ∀ i∈Hv h nx B.kb++(Bf B.pl0++Bf B.pl1),i<nx:=λi hi=>by
     have:=List.all_eq_true.1 c6 i hi;simpa using this
    have hkb : ∀ i∈Hv h nx B.kb,i<nx:=λi hi=>hall i (List.mem_append_left _ hi);have hids : ∀ i∈Bf B.pl0,i<nx:=λi hi=>hall i (List.mem_append_right _ (List.mem_append_left _ hi));have hids1 : ∀ i∈Bf B.pl1,i<nx:=λi hi=>hall i (List.mem_append_right _ (List.mem_append_right _ hi));have hnd:=Gj c5;have hdis : ∀ i∈Hv h nx B.kb,i ∉ Bf B.pl0:=λi hi hm=>(List.nodup_append.1 hnd).2.2 i (GN hm) i hi rfl
    have hdis1 : ∀ i∈Hv h nx B.kb,i ∉ Bf B.pl1:=λi hi hm=>by
     have:=List.any_eq_false.1 c8 i hi;simp only [Bool.not_eq_true,List.any_eq_false] at this;have:=this i (List.mem_append_right _ hm);simp at this
    have hkeep : ∀ k∈B.keep,k<1048575:=λk hk=>by
     have:=List.all_eq_true.1 c3 k hk;simpa using this
    have hwr : ∀ k∈FW a,k ∉ B.keep:=λk hk hm=>by
     have:=List.any_eq_false.1 c4 k hk;simp only [Bool.not_eq_true,List.any_eq_false] at this;have:=this k hm;simp at this
    obtain ⟨s0,e,I⟩:=It.entry (P:=P) (bP:=bP) r hn F hup hkb c2 hids hnd hkeep e;replace e:=kZ e;rcases e with ⟨s1,hr,e⟩ | ⟨⟨j,s',y⟩,hr,e⟩
    ·obtain ⟨Y,fp',q,hpx,hc | ⟨j,k,lp,y,s',E,_⟩⟩:=Sw (keep:=B.keep) (pl0:=B.pl0) (pl1:=B.pl1) (plx:=B.pl1) (ex:=B.ex) (pay:=B.pay) (ih a) r hn F.big hup hkb hids hids1 hids1 c2' c2' hdis hwr hkeep c7 S I hr
     ·obtain ⟨s',E,rfl,I'⟩:=hc;cases E;obtain ⟨t1,E,O,Z,e2,z1,z6,z3,C⟩:=P4 (b:=b) (k:=λt h n'=>M8 P tab ann f rec n β b d { fr with t:=t } h n' K) r hn F.big hup hkb hids1 hdis1 hb rfl I' e
      obtain ⟨N1,hN⟩:=hpx;obtain ⟨ex2,fr2,h2,nx2,Y2,U,fp2,L,p1,⟨N2,p2⟩,p3,p4,p5⟩:=ih d e2 C.rh C.big z3 (Nat.le_trans hb C.le) (Nat.le_trans S C.ext.nx);refine ⟨ex2,fr2,h2,nx2,Y2,U,fp2,L,p1,⟨max N1 N2+1,λm z A hm hF hnn => ?_⟩,⟨p3.hp,p3.rh,p3.big,Nat.le_trans C.le p3.le,C.ext.trans p3.ext⟩,p4,p5⟩;obtain ⟨m,rfl⟩ : ∃ m',m=m'+1:=⟨m-1,by omega⟩;rw [Pi.exec];simp only [hN m z A (by omega) (by omega) (by omega)];rw [<- z1];exact p2 m z A (by omega) (by omega) (by omega)
     ·cases E
    ·obtain ⟨Y,fp',q,hpx,⟨s1,E,_⟩ | ⟨j',k,lp,y',s'',E,hex,h3,hlpi,I',hends⟩⟩:=Sw (keep:=B.keep) (pl0:=B.pl0) (pl1:=B.pl1) (plx:=B.pl1) (ex:=B.ex) (pay:=B.pay) (ih a) r hn F.big hup hkb hids hids1 hids1 c2' c2' hdis hwr hkeep c7 S I hr
     ·cases E
     ·cases E;have e1:=P2 (i:=0) (j:=j) hex (by rw [Nat.zero_add];exact e);obtain ⟨t1,E,O,Z,e2,z1,z6,z3,C⟩:=P4 (b:=b) (k:=λt h n'=>K (Se B.pay y k) { fr with t:=t } h n') r hn F.big hup hkb hids1 hdis1 hb hlpi I' e1
      obtain ⟨N,hN⟩:=hpx;refine ⟨_,_,E,O,Z,q,fp',Z.h,e2,⟨N+1,λm z A hm hF hnn => ?_⟩,C,z3,hends Z z1 z6⟩;obtain ⟨m,rfl⟩ : ∃ m',m=m'+1:=⟨m-1,by omega⟩;rw [Pi.exec];simp only [hN m z A (by omega) (by omega) (by omega)];rw [z1];cases q with
      | normal=>exact absurd rfl h3
      | _=>rfl
   ·obtain ⟨ex,fr1,E,O,Y,q,fp1,W,J,⟨N1,q2⟩,G,q4,q5⟩:=ih a e r hn F hb S;cases ex with
    | normal =>
     simp only at J;have hexP:q = .normal:=q5;subst hexP;have hYP:Y.h=W:=G.hp;obtain ⟨ex2,fr2,h2,nx2,Y2,U,fp2,L,p1,⟨N2,p2⟩,p3,p4,p5⟩:=ih d J G.rh G.big q4 (Nat.le_trans hb G.le) (Nat.le_trans S G.ext.nx);refine ⟨ex2,fr2,h2,nx2,Y2,U,fp2,L,p1,⟨max N1 N2+1,λm z A hm hF hnn => ?_⟩,⟨p3.hp,p3.rh,p3.big,Nat.le_trans G.le p3.le,G.ext.trans p3.ext⟩,p4,p5⟩;obtain ⟨m,rfl⟩ : ∃ m',m=m'+1:=⟨m-1,by omega⟩;rw [Pi.exec];simp only [q2 m z A (by omega) (by omega) (by omega)];rw [<- hYP];exact p2 m z A (by omega) (by omega) (by omega)
    | _ =>
     simp only at J;refine ⟨_,fr1,E,O,Y,q,fp1,W,J,⟨N1+1,λm z A hm hF hnn => ?_⟩,G,q4,q5⟩;obtain ⟨m,rfl⟩ : ∃ m',m=m'+1:=⟨m-1,by omega⟩;rw [Pi.exec];simp only [q2 m z A (by omega) (by omega) (by omega)];cases q with
     | normal=>simp [Vi] at q5
     | _=>rfl
  | cond o a d =>
   simp only [M8] at e;replace e:=A6 F.t e;obtain ⟨v,p,e,E,h2⟩:=e;split at e
   ·simp only [VR] at h2;subst h2;replace e:=Ew e;rcases e with ⟨hc,e⟩ | ⟨hc,e⟩
    ·subst hc;obtain ⟨ex2,fr2,h2,nx2,Y2,U,fp2,L,p1,⟨N2,p2⟩,p3,p4,p5⟩:=ih a e r hn F hb S;refine ⟨ex2,fr2,h2,nx2,Y2,U,fp2,L,p1,⟨N2+1,λm z A hm hF hnn => ?_⟩,p3,p4,p5⟩;obtain ⟨m,rfl⟩ : ∃ m',m=m'+1:=⟨m-1,by omega⟩;rw [Pi.exec];simp only [E];exact p2 m z A (by omega) (by omega) (by omega)
    ·subst hc;obtain ⟨ex2,fr2,h2,nx2,Y2,U,fp2,L,p1,⟨N2,p2⟩,p3,p4,p5⟩:=ih d e r hn F hb S;refine ⟨ex2,fr2,h2,nx2,Y2,U,fp2,L,p1,⟨N2+1,λm z A hm hF hnn => ?_⟩,p3,p4,p5⟩;obtain ⟨m,rfl⟩ : ∃ m',m=m'+1:=⟨m-1,by omega⟩;rw [Pi.exec];simp only [E];exact p2 m z A (by omega) (by omega) (by omega)
   ·cases e
  | block id a =>
   simp only [M8] at e;obtain ⟨ex,fr1,E,O,Y,q,fp1,W,J,⟨N1,q2⟩,G,q4,q5⟩:=ih a e r hn F hb S
   have go : ∀ {ex':ExA} {exP':Pi.Ex},K ex' fr1 E O=some x->Vi Y ex' exP'->(∀ m z A,N1<=m->N1<=z->N1<=A->Pi.exec P (Bt tab) (Pi.GA P (Bt tab) z A) (m+1) (.block id a) fp X.h=some (exP',fp1,W))->nK P tab b bP (.block id a) X h nx fp K x:=λe1 e2 e3 =>
    ⟨_,fr1,E,O,Y,_,fp1,W,e1,⟨N1+1,λm z A hm hF hnn=>by obtain ⟨m,rfl⟩ : ∃ m',m=m'+1:=⟨m-1,by omega⟩;exact e3 m z A (by omega) (by omega) (by omega)⟩,G,q4,e2⟩
   cases ex with
   | exit j =>
    have hexP:q = .exit j:=q5;subst hexP;simp only at J;replace J:=Fj J;rcases J with ⟨hj,J⟩ | ⟨hj,J⟩
    ·exact go J (exP':=.normal) rfl λm z A E h2 h3=>by rw [Pi.exec];simp only [q2 m z A E h2 h3,hj,cond_true]
    ·exact go J (exP':=.exit j) rfl λm z A E h2 h3=>by rw [Pi.exec];simp only [q2 m z A E h2 h3,hj,cond_false]
   | _ =>
    simp only at J;refine go J q5 λm z A E h2 h3 => ?_;rw [Pi.exec];simp only [q2 m z A E h2 h3];cases q with
    | exit=>simp [Vi] at q5
    | _=>rfl
  | scope a =>
   simp only [M8] at e;obtain ⟨ex,fr1,E,O,Y,q,fp1,W,J,⟨N1,q2⟩,G,q4,q5⟩:=ih a e r hn F hb S;cases ex with
   | goto j=>cases J
   | _ =>
    simp only at J;refine ⟨_,fr1,E,O,Y,q,fp1,W,J,⟨N1+1,λm z A hm hF hnn => ?_⟩,G,q4,q5⟩;obtain ⟨m,rfl⟩ : ∃ m',m=m'+1:=⟨m-1,by omega⟩;rw [Pi.exec];simp only [q2 m z A (by omega) (by omega) (by omega)];cases q with
    | goto=>simp [Vi] at q5
    | _=>rfl
  | region id ops draw =>
   simp only [M8] at e;replace e:=DL e;obtain ⟨hck,e⟩:=e;simp only [Bool.or_eq_false_iff,Bool.not_eq_false'] at hck;have hsz:nx+ops.size<=1048575:=Nat.le_of_ble_eq_true hck.1
   have hdst : ∀ o∈ops.toList,∀ d,o.dst=some d->d<fr.nt:=λo ho d hd=>by
    have:=List.all_eq_true.1 hck.2 o ho;rw [hd] at this;simpa using this
   have hlen:ops.toList.length=ops.size:=Array.length_toList;replace e:=Fj e;rcases e with ⟨hd,e⟩ | ⟨hd,e⟩
   ·replace e:=BD e;obtain ⟨hfo,e⟩:=e;obtain ⟨fr1,E,Y,fp1,W,J,⟨N,q2⟩,G,q4⟩:=D.go e r (by rw [hlen];exact hsz) F hdst;rw [hlen] at q2 G;refine ⟨.normal,fr1,E,nx+ops.size,Y,.normal,fp1,W,J,⟨N+1,λm z A hm hF hnn => ?_⟩,G b bP hb S,q4,rfl⟩;obtain ⟨m,rfl⟩ : ∃ m',m=m'+1:=⟨m-1,by omega⟩;rw [Pi.exec];simp only [hd,hfo,cond_true];have:=q2 z A (by omega) (by omega);rw [show ({ X.h with nx:=X.h.nx+ops.size }:Hp)=(X.bump ops.size).h from rfl,this]
   ·obtain ⟨ex,fr1,E,O,Y,q,fp1,W,J,⟨N,q2⟩,G,q4,q5⟩:=WI R T (base:=nx) (baseP:=X.h.nx) (b:=b) (bP:=bP) hb S (all:=ops.toList) (ops:=ops.toList) (i:=0) (X:=X.bump ops.size) e (r.bump _) hsz (F.mono (NI X _)) hdst
     (λj _ _=>⟨by
      cases hp:X.π (nx+j) with
      | none=>exact hp
      | some a=>have:=r.dom _ _ hp;omega,by rw [Uj];exact r.fresh _ (by omega)⟩) (by omega) (by show X.h.nx+0+_<=X.h.nx+ops.size;omega)
    refine ⟨ex,fr1,E,O,Y,q,fp1,W,J,⟨N+1,λm z A hm hF hnn => ?_⟩,⟨G.hp,G.rh,G.big,Nat.le_trans (Nat.le_add_right _ _) G.le,(NJ X h ops.size b bP).trans G.ext⟩,q4,q5⟩;obtain ⟨m,rfl⟩ : ∃ m',m=m'+1:=⟨m-1,by omega⟩;rw [Pi.exec];simp only [hd,cond_false];exact q2 z A (by omega) (by omega)
  | loop a =>
   simp only [M8] at e;split at e
   ·rename_i B htm;obtain ⟨hA,XA,e,hXA,uA,rA,extA⟩:=YT (b:=b) (bP:=bP) hn r e;obtain ⟨fr,h0,X0,e,hXB,uB,r0,F0,extB⟩:=YV (b:=b) (bP:=bP) hn rA (F.mono uA) e;have hX0:X0.h=X.h:=hXB.trans hXA;have ext0:Ext b bP X h X0 h0:=extA.trans extB
    have conv:nK P tab b bP (.loop a) X0 h0 nx fp K x->nK P tab b bP (.loop a) X h nx fp K x:=λ⟨ex,fr',h',nx',Y,q,fp',hP',J,q2,G,q4,q5⟩ =>
     ⟨ex,fr',h',nx',Y,q,fp',hP',J,by rw [<- hX0];exact q2,⟨G.hp,G.rh,G.big,G.le,ext0.trans G.ext⟩,q4,q5⟩
    refine conv ?_
    have hbP0:bP<=X0.h.nx:=by rw [hX0];exact S
    replace e:=DL e;obtain ⟨hck,e⟩:=e;simp only [Bool.or_eq_false_iff,Bool.not_eq_false'] at hck;obtain ⟨⟨⟨⟨⟨⟨⟨⟨c1,c2⟩,c2'⟩,c3⟩,c4⟩,c5⟩,c6⟩,c7⟩,c8⟩:=hck
    have hup:fr.up=none:=by
     cases hu:fr.up with
     | none=>rfl
     | some u=>rw [hu] at c1;cases c1
    have hall : ∀ i∈Hv h0 nx B.kb++(Bf B.pl++Bf B.plx),i<nx:=λi hi=>by
     have:=List.all_eq_true.1 c6 i hi;simpa using this
    have hkb : ∀ i∈Hv h0 nx B.kb,i<nx:=λi hi=>hall i (List.mem_append_left _ hi);have hids : ∀ i∈Bf B.pl,i<nx:=λi hi=>hall i (List.mem_append_right _ (List.mem_append_left _ hi));have hidsx : ∀ i∈Bf B.plx,i<nx:=λi hi=>hall i (List.mem_append_right _ (List.mem_append_right _ hi));have hnd:=Gj c5;have hdis : ∀ i∈Hv h0 nx B.kb,i ∉ Bf B.pl:=λi hi hm=>(List.nodup_append.1 hnd).2.2 i (GN hm) i hi rfl
    have hdisx : ∀ i∈Hv h0 nx B.kb,i ∉ Bf B.plx:=λi hi hm=>by
     have:=List.any_eq_false.1 c8 i hi;simp only [Bool.not_eq_true,List.any_eq_false] at this;have:=this i hm;simp at this
    have hkeep : ∀ k∈B.keep,k<1048575:=λk hk=>by
     have:=List.all_eq_true.1 c3 k hk;simpa using this
    have hwr : ∀ k∈FW a,k ∉ B.keep:=λk hk hm=>by
     have:=List.any_eq_false.1 c4 k hk;simp only [Bool.not_eq_true,List.any_eq_false] at this;have:=this k hm;simp at this
    obtain ⟨s0,e,I⟩:=It.entry (P:=P) (bP:=bP) r0 hn F0 hup hkb c2 hids hnd hkeep e;replace e:=LP e;obtain ⟨⟨j,s',y⟩,hloop,e⟩:=e;obtain ⟨Y,fp',q,j',k,lp,y',s'',hpx,hr,hex,hlpi,I',hends⟩:=YU (f:=f) (ann:=ann) (ih a) r0 hn F0.big hup hkb hids hidsx c2 c2' hdis hwr hkeep c7 hbP0 I (m:=18446744073709551616) hloop;cases hr;have e1:=P2 (i:=0) (j:=j) hex (by rw [Nat.zero_add];exact e);obtain ⟨t1,E,O,Z,e2,z1,z6,z3,C⟩:=P4 (b:=b) (k:=λt h n'=>K (Se B.pay y k) { fr with t:=t } h n') r0 hn F0.big hup hkb hidsx hdisx hb hlpi I' e1
    obtain ⟨N,hN⟩:=hpx;exact ⟨_,_,E,O,Z,q,fp',Z.h,e2,⟨N,by rw [z1];exact hN⟩,C,z3,hends Z z1 z6⟩
   ·obtain ⟨ex,fr1,E,O,Y,q,fp1,W,J,⟨N1,q2⟩,G,q4,q5⟩:=ih a e r hn F hb S;cases ex with
    | normal =>
     simp only at J;have hexP:q = .normal:=q5;subst hexP;have hYP:Y.h=W:=G.hp;obtain ⟨ex2,fr2,h2,nx2,Y2,U,fp2,L,p1,⟨N2,p2⟩,p3,p4,p5⟩:=ih (.loop a) J G.rh G.big q4 (Nat.le_trans hb G.le) (Nat.le_trans S G.ext.nx);refine ⟨ex2,fr2,h2,nx2,Y2,U,fp2,L,p1,⟨max N1 N2+1,λm z A hm hF hnn => ?_⟩,⟨p3.hp,p3.rh,p3.big,Nat.le_trans G.le p3.le,G.ext.trans p3.ext⟩,p4,p5⟩;obtain ⟨m,rfl⟩ : ∃ m',m=m'+1:=⟨m-1,by omega⟩;rw [Pi.exec];simp only [q2 m z A (by omega) (by omega) (by omega)];rw [<- hYP];exact p2 m z A (by omega) (by omega) (by omega)
    | _ =>
     simp only at J;refine ⟨_,fr1,E,O,Y,q,fp1,W,J,⟨N1+1,λm z A hm hF hnn => ?_⟩,G,q4,q5⟩;obtain ⟨m,rfl⟩ : ∃ m',m=m'+1:=⟨m-1,by omega⟩;rw [Pi.exec];simp only [q2 m z A (by omega) (by omega) (by omega)];cases q with
     | normal=>simp [Vi] at q5
     | _=>rfl
  | rangeFunc g ps asg body =>
   simp only [M8] at e;replace e:=DL e;obtain ⟨hsz,e⟩:=e;have hsz':nx+2<=1048575:=by simpa using hsz
   replace e:=A6 F.t e;obtain ⟨v,p,e,E,h2⟩:=e;split at e
   ·rename_i g' a1 b1;simp only [VR] at h2;obtain ⟨aP,bP1,rfl,va,vb⟩:=h2;split at e
    ·rename_i d mark hh M;have r2:RH (X.bump 2) h (nx+2):=r.bump 2;have u2:=NI X 2
     have nxn : ∀ j,X.π (nx+j)=none:=λj=>by
      cases hp:X.π (nx+j) with
      | none=>rfl
      | some a=>have:=r.dom _ _ hp;omega
     have hA : ∃ (Y1:Cx) (hq:Hp) (dP m:Nat) (s:List DF),RH Y1 hh (nx+2)/\Up X Y1/\Ext b bP X h Y1 hh/\Y1.h={ hq with nx:=hq.nx+2 }/\hq.nx=X.h.nx /\
       ((fp.ro=none/\X.h.new X.h.nx (.df (some []))=some hq/\dP=X.h.nx/\s=[DF.col X.h.nx])\/(∃ p st pe nt t ps asg body,fp.ro=some p/\X.h.get p=some (.lp st pe nt t ps asg body dP)/\s=[]/\hq=X.h))/\Y1.π d=some (.blk dP m)/\L2 (DFR Y1) mark s/\Y1.π (nx+1)=none/\hq.get (X.h.nx+1)=none:=by
      have hro:=F.ro;split at M
      ·rename_i hr0;rw [hr0] at hro;simp only [Option.some.injEq,Prod.mk.injEq] at M;obtain ⟨rfl,rfl,rfl⟩:=M;obtain ⟨hq,e1⟩:=MC X.h X.h.nx (.df (some [])) (r.fresh _ (Nat.le_refl _));have e2:=dA (k:=2) e1;obtain ⟨g0,g1,g2⟩:=Hp.get_new e1
       obtain ⟨Y,y1,y2,y3,y4⟩:=r2.new (id:=nx) (pid:=X.h.nx) (m:=0) (b:=.df (some [])) (by omega) (by omega) (nxn 0) (by show _<X.h.nx+2;omega) e2 (λY y1 y2 y3 u =>
        ⟨X.h.nx,0,some [],rfl,(y3 _).2 (.inr rfl),by rw [y2];show hq.get _=_;rw [g1,if_pos rfl],.nil⟩)
       have hpi:Y.π nx=some (.blk X.h.nx 0):=by rw [y1];exact if_pos rfl
       refine ⟨Y,hq,X.h.nx,0,[.col X.h.nx],y3,u2.trans y4.up,(NJ X h 2 b bP).trans (y4.ext hb S),y2,g2,?_,hpi,.cons ⟨_,_,hpi,rfl⟩ .nil,?_,?_⟩
       ·exact .inl ⟨hro,e1,rfl,rfl⟩
       ·rw [y1];show (if _ then _ else _)=_;rw [if_neg (by omega)];exact nxn 1
       ·rw [g1,if_neg (by omega)];exact r.fresh _ (by omega)
      ·rename_i l0 hr0;rw [hr0] at hro;obtain ⟨p0,m0,I1,hr⟩:=hro;split at M
       ·rename_i hg;simp only [Option.some.injEq,Prod.mk.injEq] at M;obtain ⟨rfl,rfl,rfl⟩:=M;have hb0:=r.blk _ _ hg;obtain ⟨pid,n',tP,dP,m,k1,k2,k3,k4,k5,k6⟩:=hb0;rw [I1] at k1;cases k1;exact ⟨X.bump 2,X.h,dP,m,[],r2,u2,NJ X h 2 b bP,rfl,rfl,Or.inr ⟨_,_,_,_,_,_,_,_,hr,k3,rfl,rfl⟩,k5,.nil,nxn 1,r.fresh _ (by omega)⟩
       ·cases M
     obtain ⟨Y1,hq,dP,m,s,r1,u1,x1,y1h,hqn,hPI,hd,hmark,hn1,hf1⟩:=hA;obtain ⟨hq2,e1⟩:=MC hq (X.h.nx+1) (.lp 0 none fp.nt fp.t ps.toList asg body dP) hf1;have e2:=dA (k:=2) e1;obtain ⟨g0,g1,g2⟩:=Hp.get_new e1
     obtain ⟨Y2,y21,y22,y23,y24⟩:=r1.new (id:=nx+1) (pid:=X.h.nx+1) (m:=0) (b:=.lp 0 none fr.nt fr.t ps.toList asg body d) (by omega) (by omega) hn1 (by rw [y1h];show _<hq.nx+2;omega) (by rw [y1h];exact e2) (λY y1 y2 y3 u =>
      ⟨X.h.nx+1,0,fp.t,dP,m,rfl,(y3 _).2 (.inr rfl),by rw [y2];show hq2.get _=_;rw [g1,if_pos rfl,F.nt],(F.t.mono u1).mono u,u.pi _ _ hd,F.big⟩)
     have hpi2:Y2.π (nx+1)=some (.blk (X.h.nx+1) 0):=by rw [y21];exact if_pos rfl
     have u12:=u1.trans y24.up;have x2:Ext b bP X h Y2 _:=x1.trans (y24.ext (b:=b) (bP:=bP) (by omega) (by omega));have hy2:Y2.h={ hq2 with nx:=X.h.nx+2 }:=by rw [y22,g2,hqn]
     obtain ⟨g2',as,qs,e3,hinv,hargs⟩:=Jt (va.mono u12) (vb.mono u12) (args:=[.yl (nx+1)]) (argsP:=[.yl (X.h.nx+1)]) (.cons (by simp only [VR];exact ⟨_,_,hpi2,rfl⟩) .nil) e;obtain ⟨o',up',h',nx',Y,oP,upP',hP',e4,⟨N,hN⟩,C,ho,hu⟩:=R.fn e3 y23 hsz' hargs (show UMR Y2 none none from rfl);split at e4
     ·obtain ⟨vP,rfl,hv⟩:=ho;have hup:=C.ext.full y23 (Nat.le_refl _);split at e4
      ·rename_i st pend nt t ps' asg' body' d' hg;replace e4:=DL e4;obtain ⟨hst,e4⟩:=e4;have hpi3:=hup.pi _ _ hpi2;have hbr:=C.rh.blk _ _ hg;obtain ⟨pid,n',tP,dP',m',k1,k2,k3,k4,k5,k6⟩:=hbr;rw [hpi3] at k1;cases k1;obtain ⟨L,es⟩:=Do Y.h (X.h.nx+1) (.lp 3 pend nt tP ps' asg' body' dP');obtain ⟨Z,z1,z2,z3,z4,z5,z6⟩:=C.rh.setLp C.big hg hpi3 k3 es b bP;have uZ:=(u12.trans hup).trans z4;have xZ:Ext b bP X h Z _:=(x2.trans (C.ext.le (by omega) (by rw [hy2];show _<=X.h.nx+2;omega))).trans z6
       have FZ:FR Z { fr with ds:=mark++fr.ds } { fp with ds:=s++fp.ds } :=
        ⟨F.t.mono uZ,F.nt,F.big,(hmark.mono λ_ _ k=>k.mono ((y24.up.trans hup).trans z4)).append (F.ds.mono λ_ _ k=>k.mono uZ),F.up.mono uZ,F.ro.mono uZ⟩
       have fin2 : ∀ {ex:ExA} {q:Pi.Ex},K ex { fr with ds:=mark++fr.ds } (Ai h' (nx+1) (.lp 3 pend nt t ps' asg' body' d')) nx'=some x->Vi Z ex q->(match pend with
          | none=>some (Pi.Ex.normal,({ fp with ds:=s++fp.ds }:Pi.Fr),L)
          | some .ret=>some (.ret,{ fp with ds:=s++fp.ds },L)
          | some (.exit id)=>some (.exit id,{ fp with ds:=s++fp.ds },L)
          | some (.goto id)=>some (.goto id,{ fp with ds:=s++fp.ds },L)
          | _=>none)=some (q,{ fp with ds:=s++fp.ds },L)->nK P tab b bP (.rangeFunc g ps asg body) X h nx fp K x:=λe5 hx hp =>
        ⟨_,_,_,nx',Z,_,_,L,e5,⟨N+1,λm z A hm hF hnn=>by
         obtain ⟨m,rfl⟩ : ∃ m',m=m'+1:=⟨m-1,by omega⟩;have:=hN z A (by omega) (by omega);rw [hy2] at this;rw [<- C.hp] at this;rw [Pi.exec];rcases hPI with ⟨J,q2,rfl,rfl⟩ | ⟨_,_,_,_,_,_,_,_,J,q2,rfl,rfl⟩
         ·simp only [E,J,q2,e1,hinv,this,k3,hst,cond_false,es];simp only [J] at hp;exact hp
         ·simp only [E,J,q2,e1,hinv,this,k3,hst,cond_false,es];simp only [J] at hp
          exact hp⟩,⟨z2,z5,C.big,by have:=C.le;omega,xZ⟩,FZ,hx⟩
       split at e4
       ·exact fin2 e4 rfl rfl
       ·exact fin2 e4 rfl rfl
       ·exact fin2 e4 rfl rfl
       ·exact fin2 e4 rfl rfl
       ·cases e4
      ·cases e4
     ·cases e4
    ·cases e
   ·cases e
end
end Go.Proofs.YtfilfloanndddaaGreat.Sv
