/- A part of the evaluator over typed open values for any program, and of the proof that it is sound. No condition. -/
import Derived.Test.YtanppfoapnaeaaaGreatPs1
set_option linter.all false
open List renaming all_eq_true->bj, any_eq_false->aH, append_assoc->bc, length_append->bm, mem_append->ao, mem_append_left->ak, mem_append_right->aj, mem_cons->ae, mem_cons_of_mem->aw, mem_filter->bO, mem_map->bo, mem_range->cp, nodup_append->cc, nodup_cons->aT, perm_append_comm_assoc->bC, range->bY
open Nat renaming beq->aa, blt->ah, eq_of_beq_eq_true->al, le_add_right->cg, le_of_ble_eq_true->aq, le_refl->ac, le_succ->cj, le_trans->ay, lt_of_lt_of_le->ci, zero_add->aQ
open Bool renaming and_eq_true->ai, not_eq_false'->az, not_eq_true->bK, not_eq_true'->bh, or_eq_false_iff->am
namespace Go.Proofs.YtanppfoapnaeaaaGreat.Sv
section
variable[Pi.Gl]
open Pi (PV T Hp Blk DF UM PE AN AT AB AX Ao)
section
variable{X Y:Cx}{b:Nat}
mutual
theorem VR.lowOf:∀ {v:V} {p q:PV},VR (X.low b) v p->VR Y v q->VR (Y.low b) v q
 |.bool _,_,_,_,h | .int _ _,_,_,_,h | .str _,_,_,_,h | .nilp,_,_,_,h | .nils,_,_,_,h | .nilm,_,_,_,h | .nilf,_,_,_,h | .nili,_,_,_,h | .gk _,_,_,_,h=>by
  simp only[VR]at h ⊢;exact h
 |.agg cs,_,_,k,h=>by
  simp only[VR]at h k ⊢;obtain⟨u,m,o⟩:=h;obtain⟨C,d,s⟩:=k;exact⟨u,m,VRL.lowOf s o⟩
 |.tup cs,_,_,k,h=>by
  simp only[VR]at h k ⊢;obtain⟨u,m,o⟩:=h;obtain⟨C,d,s⟩:=k;exact⟨u,m,VRL.lowOf s o⟩
 |.lf full g c l,_,_,_,h=>by
  simp only[VR]at h ⊢;exact h
 |.exl full es,_,_,_,h=>by simp only[VR]at h ⊢;exact h
 |.ow id,p,q,k,h=>by
  simp only[VR]at h k ⊢;by_cases r:id<b
  ·rw[Cx.low_eq r];exact h
  ·rw[Cx.low_ge r]at k;exact k.elim
 |.own id off len,_,_,k,h=>by
  simp only[VR]at h k ⊢;obtain⟨pid,n,m,o⟩:=h;obtain⟨_,_,d,_⟩:=k;by_cases r:id<b
  ·exact⟨pid,n,by rw[Cx.low_eq r];exact m,o⟩
  ·rw[Cx.low_ge r]at d;cases d
 |.ptr id off,_,_,k,h=>by
  simp only[VR]at h k ⊢;obtain⟨pid,n,m,o⟩:=h;obtain⟨_,_,d,_⟩:=k;by_cases r:id<b
  ·exact⟨pid,n,by rw[Cx.low_eq r];exact m,o⟩
  ·rw[Cx.low_ge r]at d;cases d
 |.aptr id off j len,_,_,k,h=>by
  simp only[VR]at h k ⊢;obtain⟨pid,n,m,o⟩:=h;obtain⟨_,_,d,_⟩:=k;by_cases r:id<b
  ·exact⟨pid,n,by rw[Cx.low_eq r];exact m,o⟩
  ·rw[Cx.low_ge r]at d;cases d
 |.ept id i off,_,_,k,h=>by
  simp only[VR]at h k ⊢;obtain⟨pid,n,m,o⟩:=h;obtain⟨_,_,d,_⟩:=k;by_cases r:id<b
  ·exact⟨pid,n,by rw[Cx.low_eq r];exact m,o⟩
  ·rw[Cx.low_ge r]at d;cases d
 |.view cs,_,_,k,h=>by
  simp only[VR]at h k ⊢;rcases h with h|⟨pid,i,off,es,ex,fz,e,m,o,w,z,x⟩
  ·exact .inl h
  ·refine .inr ⟨pid,i,off,es,ex,fz,e,m,o,w,z,?_⟩;rcases k with⟨u,d,s⟩|⟨_,_,_,_,_,_,_,_,_,_,_,B⟩
   ·exact VRL.lowOf (s.mono (Up.pure _)) x
   ·exact VRL.lowOf B x
 |.pl _ _ _,_,_,_,h=>by simp only[VR]at h ⊢;exact h
 |.pv _,_,_,_,h=>by simp only[VR]at h ⊢;exact h
 |.fn f a c,_,_,k,h=>by
  simp only[VR]at h k ⊢;obtain⟨y,b',m,o,w⟩:=h;obtain⟨a'',b'',d,s,A⟩:=k;exact⟨y,b',m,VRL.lowOf s o,VRL.lowOf A w⟩
 |.yl id,_,_,k,h=>by
  simp only[VR]at h k ⊢;obtain⟨pid,n,m,o⟩:=h;obtain⟨_,_,d,_⟩:=k;by_cases r:id<b
  ·exact⟨pid,n,by rw[Cx.low_eq r];exact m,o⟩
  ·rw[Cx.low_ge r]at d;cases d
 |.ifc t v,_,_,k,h=>by
  simp only[VR]at h k ⊢;obtain⟨q,m,o⟩:=h;obtain⟨D,d,s⟩:=k;exact⟨q,m,VR.lowOf s o⟩
 |.mp id,_,_,k,h=>by
  simp only[VR]at h k ⊢;obtain⟨pid,n,m,o⟩:=h;obtain⟨_,_,d,_⟩:=k;by_cases r:id<b
  ·exact⟨pid,n,by rw[Cx.low_eq r];exact m,o⟩
  ·rw[Cx.low_ge r]at d;cases d
theorem VRL.lowOf:∀ {vs:List V} {c a:List PV},VRL (X.low b) vs c->VRL Y vs a->VRL (Y.low b) vs a
 |[],_,_,_,h=>by simp only[VRL]at h ⊢;exact h
 |v::vs,_,_,k,h=>by
  obtain⟨p,c,rfl,d,e⟩:=h.cons_inv;obtain⟨q,a,rfl,f,g⟩:=k.cons_inv;exact .cons (VR.lowOf f d) (VRL.lowOf g e)
end
end
structure KH (X:Cx) (h0:H) (n:Nat):Prop where
 blk:∀ i c,h0.get i=some c->i<n/\c.live/\BR (X.low n) c (X.π i)
 inj:∀ i i' c c' p m m',h0.get i=some c->h0.get i'=some c'->X.π i=some (.blk p m)->X.π i'=some (.blk p m')->i=i'
theorem G7{t:T V}:∀ {l:List Nat} {k:Nat} {v:V},(∀ i∈l,i<1048575)->(BS t l).get k=some v->k∈l/\t.get k=some v
 |[],k,v,_,e=>by cases e
 |i::l,k,v,hl,e=>by
  have f:(2:Nat) ^ 20-1=1048575:=by decide
  have hi:=hl i (by simp)
  have b:(BS t l).get k=some v->k∈i::l/\t.get k=some v:=λe=>by
   obtain⟨c,d⟩:=G7 (λj g=>hl j (by simp[g])) e;exact⟨by simp[c],d⟩
  unfold BS at e;split at e
  ·rename_i w h;rw[T.get_put 20 _ _ _ _ (by omega)]at e;by_cases a:k=i
   ·rw[if_pos a]at e;cases e;subst a;exact⟨by simp,h⟩
   ·rw[if_neg a]at e;exact b e
  ·exact b e
theorem C8{h:H}{f:BA->BA}:∀ {l:List Nat} {k:Nat} {c:BA},(∀ i∈l,i<1048575)->(BQ h f l).get k=some c->k∈l /\ ∃ d,h.get k=some d/\c=f d/\d.live
 |[],k,v,_,e=>by cases e
 |i::l,k,c,hl,e=>by
  have o:(2:Nat) ^ 20-1=1048575:=by decide
  have hi:=hl i (by simp)
  have g:(BQ h f l).get k=some c->k∈i::l /\ ∃ d,h.get k=some d/\c=f d/\d.live:=λe=>by
   obtain⟨m,n⟩:=C8 (λj p=>hl j (by simp[p])) e;exact⟨by simp[m],n⟩
  unfold BQ at e;split at e
  ·exact g e
  ·rename_i w b q;rw[T.get_put 20 _ _ _ _ (by omega)]at e;by_cases a:k=i
   ·rw[if_pos a]at e;cases e;subst a;exact⟨by simp,w,q,rfl,by cases w<;>first|exact absurd rfl b|trivial⟩
   ·rw[if_neg a]at e;exact g e
  ·exact g e
structure Lay (X Y:Cx) (n:Nat) (h1:H) (n1:Nat):Prop where
 h:Y.h=X.h
 o:Y.O=X.O
 pi:∀ i,i<n->Y.π i=X.π i
 none:∀ i,n1<=i->Y.π i=none
 le:n<=n1
theorem Lay.up{X Y:Cx}{n e:Nat}{c:H}(l:Lay X Y n c e):Up (X.low n) Y:=by
 refine⟨λi a hi=> ?_,?_⟩
 ·by_cases b:i<n
  ·rw[Cx.low_eq b]at hi;rw[l.pi i b];exact hi
  ·rw[Cx.low_ge b]at hi;cases hi
 ·show Rows X.h Y.h _ _;rw[l.h];intro pid es ex fz h k;exact⟨⟨fz,k⟩,λd=>h (l.o ▸ d)⟩
end
section
variable[Pi.Gl]
open Pi (PV T Hp Blk DF UM PE AN AT AB AX Ao)
theorem BR.live_blk{X:Cx}{c:BA}{a:Option At}(h:BR X c a)(b:c.live):∃ t,a=some t:=by
 cases c with
 |box=>obtain⟨_,_,_,_,h,_⟩:=h;exact⟨_,h⟩
 |row=>rcases h with⟨_,_,_,_,h,_⟩|⟨h,_⟩|⟨_,h,_⟩<;>exact⟨_,h⟩
 |mp=>obtain⟨_,_,_,h,_⟩:=h;exact⟨_,h⟩
 |lp=>obtain⟨_,_,_,_,_,h,_⟩:=h;exact⟨_,h⟩
 |df=>obtain⟨_,_,_,h,_⟩:=h;exact⟨_,h⟩
 |dead=>exact b.elim
structure LInv (X:Cx) (h:H) (nx0:Nat) (Y:Cx) (S:List Nat) (hc:H) (nc:Nat):Prop where
 hh:Y.h=X.h
 oo:Y.O=X.O
 lo:∀ i,i<nx0->Y.π i=X.π i
 hi:∀ i,nc<=i->Y.π i=none
 le:nx0<=nc
 blk:∀ i c,hc.get i=some c->BR Y c (Y.π i)/\i<nc
 inj:∀ i i' c c' p m m',hc.get i=some c->hc.get i'=some c'->Y.π i=some (.blk p m)->Y.π i'=some (.blk p m')->i=i'
 src:∀ i c p m,hc.get i=some c->Y.π i=some (.blk p m) -> ∃ j∈S,∃ d m',h.get j=some d/\d.live/\X.π j=some (.blk p m')
section
variable{X Y:Cx}{h hc:H}{n nx0 nc:Nat}{S:List Nat}{β:Type}{x:β}
theorem Q0{Y Z:Cx}(h:Y.h=X.h)(o:Y.O=X.O)(h':Z.h=X.h)(o':Z.O=X.O)(p:∀ i a,Y.π i=some a->Z.π i=some a):Up Y Z:=by
 refine⟨p,?_⟩;show Rows Y.h Z.h _ _;rw[h,h'];intro pid es ex fz c d;exact⟨⟨fz,d⟩,λb=>c (by rw[o];rw[o']at b;exact b)⟩
theorem LInv.row(L:LInv X h nx0 Y S hc nc)(r:RH X h n)(z:nc<1048575){g:Bool}{c:Ty}{l:List c.den}{ex:Bool}{a:At}
  (ha:(a=.nil/\l=[]/\ex=false) \/ ∃ j,j ∉ S/\h.get j=some (.row g c l ex false false)/\X.π j=some a) {J:List Nat} (hJ:∀ j,h.get j=some (.row g c l ex false false)->X.π j=some a->j ∉ S->(∃ p m,a=.blk p m)->j∈J) :
  ∃ Z:Cx,Z.π nc=some a/\Up Y Z/\LInv X h nx0 Z (J++S) (AG hc nc (.row g c l ex false false)) (nc+1):=by
 let Z:Cx:={ π:=Sv.DO Y.π nc (some a),h:=Y.h,O:=Y.O }
 have x:∀ i,i≠nc->Z.π i=Y.π i:=λi hi=>if_neg hi;have Di:Z.π nc=some a:=if_pos rfl
 have u:Up Y Z:=Q0 (X:=Y) rfl rfl rfl rfl λi b hi=>by
  rw[x i (by intro hh;subst hh;rw[L.hi _ (ac _)]at hi;cases hi)];exact hi
 have U:BR Z (.row g c l ex false false) (some a):=by
  rcases ha with⟨o,f,B⟩|⟨j,_,f,B⟩
  ·subst o;subst f;subst B;exact .inr (.inl ⟨rfl,rfl,rfl⟩)
  ·have:=r.blk _ _ f;rw[B]at this
   have u0:Rows X.h Z.h X.Q Z.Q:=by
    show Rows X.h Y.h X.Q _;rw[L.hh];intro pid es ex fz W k2;exact⟨⟨fz,k2⟩,λP=>W (by rw[<- L.oo];exact P)⟩
   rcases this with⟨pid,len,es,N,p1,p2,p3,p4,p5,p7,p6⟩|q|q
   ·exact .inl ⟨pid,len,es,N,p1,by show Y.O pid;rw[L.oo];exact p2,by show Y.h.get pid=_;rw[L.hh];exact p3,p4,p5,p7,p6.mono λ_ _ k=>k.mono λ_ _ k=>DR.mono u0 k⟩
   ·exact .inr (.inl q)
   ·exact .inr (.inr q)
 have y:∀ p m,a=.blk p m -> ∃ j,j ∉ S/\j∈J /\ ∃ d C,h.get j=some d/\d.live/\X.π j=some (.blk p C):=λp m D=>by
  rcases ha with⟨o,_⟩|⟨j,o,f,B⟩
  ·rw[D]at o;cases o
  ·exact⟨j,o,hJ j f B o ⟨p,m,D⟩,_,m,f,trivial,D ▸ B⟩
 refine⟨Z,Di,u,L.hh,L.oo,λi hi=>by rw[x i (by have:=L.le;omega)];exact L.lo i hi,λi hi=>by rw[x i (by omega)];exact L.hi i (by omega),by have:=L.le;omega,λi M hi=> ?_,λi K c1 c2 p m C hi w s A=> ?_,λi M p m hi s=> ?_⟩
 ·rw[AI z]at hi;by_cases e:i=nc
  ·rw[if_pos e]at hi;cases hi;subst e;rw[Di];exact⟨U,by omega⟩
  ·rw[if_neg e]at hi;obtain⟨b1,b2⟩:=L.blk i M hi;rw[x i e];exact⟨b1.keep u λpid m _ P=>⟨rfl,P⟩,by omega⟩
 ·rw[AI z]at hi w
  have t:∀ {i:Nat} {c1:BA} {m1 m2:Nat},i≠nc->hc.get i=some c1->Y.π i=some (.blk p m1)->a=.blk p m2->False:=λe hg hy D=>by
   obtain⟨j,E,_,d,m3,F,G,I⟩:=y p _ D;obtain⟨j',W,d',m4,k2,k3,k4⟩:=L.src _ _ _ _ hg hy;have:=r.inj _ _ _ _ _ _ _ F k2 G k3 I k4;subst this;exact E W
  by_cases o:i=nc
  ·by_cases f:K=nc
   ·rw[o,f]
   ·rw[if_neg f]at w;rw[o,Di]at s;rw[x K f]at A;exact(t f w A (Option.some.inj s)).elim
  ·rw[if_neg o]at hi;by_cases f:K=nc
   ·rw[f,Di]at A;rw[x i o]at s;exact(t o hi s (Option.some.inj A)).elim
   ·rw[if_neg f]at w;rw[x i o]at s;rw[x K f]at A;exact L.inj _ _ _ _ _ _ _ hi w s A
 ·rw[AI z]at hi;by_cases e:i=nc
  ·rw[e,Di]at s;obtain⟨j,_,E,d,C,F,G,I⟩:=y p m (Option.some.inj s);exact⟨j,ak _ E,d,C,F,G,I⟩
  ·rw[if_neg e]at hi;rw[x i e]at s;obtain⟨j,E,d,C,F,G,I⟩:=L.src i M p m hi s;exact⟨j,aj _ E,d,C,F,G,I⟩
theorem LInv.put(L:LInv X h nx0 Y S hc nc)(r:RH X h n){i:Nat}(y:i<nx0)(l:i<1048575){c d:BA}(x:h.get i=some d)(z:d.live)(hS:i ∉ S)(D:BR Y c (X.π i)) :
  LInv X h nx0 Y (i::S) (AG hc i c) nc:=by
 obtain⟨t,W⟩:=(r.blk _ _ x).live_blk z;have s:Y.π i=X.π i:=L.lo i y
 have e:∀ {k:Nat} {B:BA} {p N O:Nat},hc.get k=some B->Y.π k=some (.blk p N)->X.π i=some (.blk p O)->False:=λF A E=>by
  obtain⟨j',I,U,m4,J,K,M⟩:=L.src _ _ _ _ F A;have:=r.inj _ _ _ _ _ _ _ x J z K E M;subst this;exact hS I
 refine⟨L.hh,L.oo,L.lo,L.hi,L.le,λk u a=> ?_,λk C B P p m Z a f g q=> ?_,λk u p m a g=> ?_⟩
 ·rw[AI l]at a;by_cases b:k=i
  ·rw[if_pos b]at a;cases a;subst b;rw[s];exact⟨D,by have:=L.le;omega⟩
  ·rw[if_neg b]at a;exact L.blk k u a
 ·rw[AI l]at a f;by_cases w:k=i
  ·by_cases o:C=i
   ·rw[w,o]
   ·rw[if_neg o]at f;rw[w,s]at g;exact(e f q g).elim
  ·rw[if_neg w]at a;by_cases o:C=i
   ·rw[o,s]at q;exact(e a g q).elim
   ·rw[if_neg o]at f;exact L.inj _ _ _ _ _ _ _ a f g q
 ·rw[AI l]at a;by_cases b:k=i
  ·rw[b,s]at g;exact⟨i,by simp,d,m,x,z,g⟩
  ·rw[if_neg b]at a;obtain⟨j,G,rest⟩:=L.src k u p m a g;exact⟨j,by simp[G],rest⟩
theorem IW(r:RH X h n){g:Bool}{c:Ty}{ex:Bool}{v:V}{p:PV}{K:List c.den->Option β}(b:VR X v p)(e:Lg h g c ex v K=some x) :
  ∃ l a,K l=some x/\((a=.nil/\l=[]/\ex=false/\B2 v=[]) \/ ∃ j,B2 v=[j]/\h.get j=some (.row g c l ex false false)/\X.π j=some a) /\ ∀ (Z:Cx) (i:Nat),Z.π i=some a->VR Z (.ow i) p:=by
 unfold Lg at e;split at e
 ·replace e:=BC e;obtain⟨q,e⟩:=e;subst q;simp only[VR]at b;subst b;exact⟨[],.nil,e,.inl ⟨rfl,rfl,rfl,rfl⟩,λZ i k=>by simp only[VR,k]⟩
 ·rename_i id;split at e
  ·rename_i t s l m o;replace e:=AK e;obtain⟨d,e⟩:=e;simp only[ai]at d;have:=eq_of_beq d.1;subst this;have:=eq_of_beq d.2;subst this;replace e:=A5 e;obtain⟨hc,e⟩:=e;subst hc;simp only[VR]at b;cases f:X.π id with
   |none=>rw[f]at b;exact b.elim
   |some a=>
    rw[f]at b;refine⟨l,a,e,.inr ⟨id,rfl,o,f⟩,λZ i k=> ?_⟩;simp only[VR,k];exact b
  ·cases e
 ·cases e
theorem QD(r:RH X h n){g:Bool}{c:Ty}{v:V}{p:PV}{K:List c.den×Nat->Option β}(b:VR X v p)(e:QC h g c v K=some x) :
  ∃ l len j pid m,K (l,len)=some x/\QB v=[j]/\h.get j=some (.row g c l true false false)/\X.π j=some (.blk pid m)/\p=.own pid 0 len:=by
 unfold QC at e;split at e
 ·rename_i j off len;split at e
  ·rename_i k i l d;replace e:=AK e;obtain⟨a,e⟩:=e;simp only[ai]at a;have:=eq_of_beq a.1;subst this;have:off=0:=by simpa using a.2
   subst this;replace e:=A5 e;obtain⟨hc,e⟩:=e;subst hc;simp only[VR]at b;obtain⟨pid,m,f,rfl⟩:=b;exact⟨l,len,j,pid,m,e,rfl,d,f,rfl⟩
  ·cases e
 ·cases e
theorem LInv.dr(L:LInv X h nx0 Y S hc nc){c:Ty}{y:c.den}{a:List PV}(d:DR X.h X.Q c y a):DR Y.h Y.Q c y a:=by
 have b:Y.Q=X.Q:=by unfold Cx.Q;rw[L.oo]
 rw[L.hh,b];exact d
theorem Ix{c:Ty}{vs:List V}{g:List PV}{K:c.den->List V->Option β}(f:VRL X vs g)(e:Dr .lf c vs K=some x) :
  ∃ y p q,K y (vs.drop c.wd)=some x/\g=p++q/\DR X.h X.Q c y p/\VRL X (vs.drop c.wd) q:=by
 obtain⟨y,r,p,q,i,a,b,d,s,j⟩:=C4 (Q:=X.Q) (λ_ _ _ h=>(by cases h)) (λ_ _ _ _ _ h=>(by cases h)) (λ_ h=>h) f e
 have k:vs.drop c.wd=r:=by
  have l:=f.length;have m:=d.length;have n:=b.same.wd;subst j;subst a;simp only[bm]at l;rw[List.drop_append_of_le_length (by omega),List.drop_of_length_le (by omega),List.nil_append]
 rw[k];exact⟨y,p,q,i,a,b.same,d⟩
theorem LInv.perm(L:LInv X h nx0 Y S hc nc){a:List Nat}(hs:∀ j,j∈S<->j∈a):LInv X h nx0 Y a hc nc:=
 ⟨L.hh,L.oo,L.lo,L.hi,L.le,L.blk,L.inj,λi c p m b d=>by obtain⟨j,e,r⟩:=L.src i c p m b d;exact⟨j,(hs j).1 e,r⟩⟩
theorem BL:∀ (sg:List Sgm) (hc:H) (nc:Nat) (s:DN sg),nc<=(Ay hc nc sg s).2.2
 |[],hc,nc,s=>ac _
 |[.lf c],hc,nc,s=>ac _
 |[.ow g c ex],hc,nc,s=>cj _
 |.lf c::q::r,hc,nc,s=>BL (q::r) hc nc s.2
 |.ow g c ex::q::r,hc,nc,s=>ay (cj _) (BL (q::r) _ (nc+1) s.2)
 |[.kp id],hc,nc,s=>ac _
 |.kp id::q::r,hc,nc,s=>BL (q::r) hc nc s.2
 |[.cn c],hc,nc,s=>ac _
 |.cn c::q::r,hc,nc,s=>BL (q::r) hc nc s.2
 |[.er ..],hc,nc,s=>ac _
 |.er .. :: q::r,hc,nc,s=>BL (q::r) hc nc s.2
 |[.ek ..],hc,nc,s=>ac _
 |.ek .. :: q::r,hc,nc,s=>BL (q::r) hc nc s.2
 |[.ef ..],hc,nc,s=>ac _
 |.ef .. :: q::r,hc,nc,s=>BL (q::r) hc nc s.2
theorem PA{c:Cv}{v:V}(e:RZ c v=true):v=c.v:=by
 cases c<;>(unfold RZ at e;simp only at e;split at e<;>first|rfl|cases e)
theorem Oj{c:Cv}{v:V}{p:PV}(h:RZ c v=true)(a:VR X v p):VR Y c.v p:=by
 have:=PA h;subst this;cases c<;>simpa[Cv.v,VR]using a
theorem J4{t n:Nat}{v:V}{p:PV}(e:PB t n v=true)(c:VR X v p):v=.ifc t (.gk n)/\VR Y (.ifc t (.gk n)) p:=by
 unfold PB at e;split at e
 ·split at e
  ·rw[ai]at e;have a:=al e.1;have b:=al e.2;subst a;subst b;exact⟨rfl,by simpa[VR]using c⟩
  ·cases e
 ·cases e
theorem Jj{a:Nat}{k:IntKind}{v:V}{p:PV}{K:Int->Option β}(e:Ou a k v K=some x)(d:VR X v p):∃ y,K y=some x /\ ∀ Y,VR Y (.ifc a (.agg [.int k y])) p:=by
 unfold Ou at e;split at e
 ·replace e:=AK e;obtain⟨h,e⟩:=e;rw[ai]at h;have b:=al h.1;have c:=eq_of_beq h.2;subst b;subst c;exact⟨_,e,λY=>by simpa[VR,VRL]using d⟩
 ·cases e
theorem M6{t n b:Nat}{k:IntKind}{v:V}{p:PV}{K:Int×Int->Option β}(e:QT t n b k v K=some x)(a:VR X v p):∃ y,K y=some x /\ ∀ Y,VR Y (QF t n b k y) p:=by
 unfold QT at e;replace e:=BU e;rcases e with⟨h,e⟩|⟨_,e⟩
 ·refine⟨_,e,λY=> ?_⟩;have:=PA h;subst this;simpa[QF,Cv.v,VR]using a
 ·replace e:=BU e;rcases e with⟨h,e⟩|⟨_,e⟩
  ·exact⟨_,e,λY=>(J4 (Y:=Y) h a).2⟩
  ·obtain⟨y,e,h⟩:=Jj e a;exact⟨_,e,h⟩
theorem Q9{id j:Nat}{p:PV}(L:LInv X h nx0 Y S hc nc)(b:VR X (.ow j) p)(c:aa j id=true)(a:ah id nx0=true):VR Y (.ow id) p:=by
 have:=al c;subst this;have d:=L.lo j (aq a);simp only[VR]at b ⊢;rw[d];exact b
theorem Cq(r:RH X h n):∀ {sg:List Sgm} {cs:List V} {A:List PV} {K:DN sg->Option β},HX nx0 sg=true->VRL X cs A->Bh h sg cs K=some x ->
  ∃ s,K s=some x /\ ∀ {Y:Cx} {S:List Nat} {hc:H} {nc:Nat},LInv X h nx0 Y S hc nc->(Aj sg cs++S).Nodup->(Ay hc nc sg s).2.2<=1048575 ->
   ∃ Z,Up Y Z/\LInv X h nx0 Z (Aj sg cs++S) (Ay hc nc sg s).2.1 (Ay hc nc sg s).2.2/\VRL Z (Ay hc nc sg s).1 A
 |[],cs,A,K,hkp,hv,e=>by
  unfold Bh at e;split at e
  ·exact⟨(),e,λL _ _=>⟨_,Up.refl _,L,by rw[hv.nil_inv];exact .nil⟩⟩
  ·cases e
 |[.lf c],cs,A,K,hkp,hv,e=>by
  unfold Bh at e;obtain⟨y,p,q,e,rfl,d,hr⟩:=Ix hv e;split at e
  ·rename_i W;rw[W]at hr;refine⟨y,e,fun {Y S hc nc} L _ _=>⟨Y,Up.refl _,L,?_⟩⟩;rw[hr.nil_inv,List.append_nil];exact DB (L.dr d)
  ·cases e
 |[.ow g c ex],cs,A,K,hkp,hv,e=>by
  unfold Bh at e;split at e
  ·rename_i v;obtain⟨p,G,rfl,f,i⟩:=hv.cons_inv;obtain⟨l,a,e1,U,hz⟩:=IW r f e;refine⟨l,e1,fun {Y S hc nc} L u D=> ?_⟩;have w:Aj [.ow g c ex] [v]=B2 v:=by simp[Aj]
   rw[w]at u ⊢;have O:nc+1<=1048575:=D
   obtain⟨Z,B,C,E⟩:=L.row r (g:=g) (c:=c) (l:=l) (ex:=ex) (a:=a) (J:=B2 v) (by omega) (by
    rcases U with⟨f,i,I,_⟩|⟨j,f,i,I⟩
    ·exact .inl ⟨f,i,I⟩
    ·refine .inr ⟨j,?_,i,I⟩;rw[f]at u;exact(aT.1 u).1) (λj f i I z=>by
    rcases U with⟨M,_⟩|⟨j',M,k2,k3⟩
    ·obtain⟨_,_,z⟩:=z;rw[z]at M;cases M
    ·rw[M];cases a with
     |blk p m=>
      have:=r.inj _ _ _ _ _ _ _ f k2 trivial trivial i k3;simp[this]
     |nil=>obtain⟨_,_,z⟩:=z;cases z
     |fz es=>obtain⟨_,_,z⟩:=z;cases z)
   exact⟨Z,C,E,.cons (hz Z nc B) (by rw[i.nil_inv];exact .nil)⟩
  ·cases e
 |.lf c::o::rr,cs,A,K,hkp,hv,e=>by
  unfold Bh at e;obtain⟨y,p,q,e,rfl,d,hr⟩:=Ix hv e;obtain⟨s,e1,hs⟩:=Cq r (sg:=o::rr) hkp hr e;refine⟨(y,s),e1,fun {Y S hc nc} L u D=> ?_⟩;obtain⟨Z,B,C,E⟩:=hs L u D;exact⟨Z,B,C,(DB (C.dr d)).append E⟩
 |.ow g c ex::o::rr,cs,A,K,hkp,hv,e=>by
  unfold Bh at e;split at e
  ·rename_i v b;obtain⟨p,G,rfl,f,i⟩:=hv.cons_inv;obtain⟨l,a,e1,U,hz⟩:=IW r f e;obtain⟨s,e2,hs⟩:=Cq r (sg:=o::rr) hkp i e1;refine⟨(l,s),e2,fun {Y S hc nc} L u D=> ?_⟩;have w:Aj (.ow g c ex::o::rr) (v::b)=B2 v++Aj (o::rr) b:=by simp[Aj]
   rw[w]at u ⊢;have O:(Ay (AG hc nc (.row g c l ex false false)) (nc+1) (o::rr) s).2.2<=1048575:=D;have hmono:nc+1<=1048575:=ay (BL (o::rr) _ (nc+1) s) O;rw[bc]at u
   obtain⟨Z,B,C,E⟩:=L.row r (g:=g) (c:=c) (l:=l) (ex:=ex) (a:=a) (J:=B2 v) (by omega) (by
    rcases U with⟨f,i,I,_⟩|⟨j,f,i,I⟩
    ·exact .inl ⟨f,i,I⟩
    ·refine .inr ⟨j,?_,i,I⟩;rw[f]at u;exact λF=>(aT.1 u).1 (by simp[F])) (λj f i I z=>by
    rcases U with⟨M,_⟩|⟨j',M,k2,k3⟩
    ·obtain⟨_,_,z⟩:=z;rw[z]at M;cases M
    ·rw[M];cases a with
     |blk p m=>
      have:=r.inj _ _ _ _ _ _ _ f k2 trivial trivial i k3;simp[this]
     |nil=>obtain⟨_,_,z⟩:=z;cases z
     |fz es=>obtain⟨_,_,z⟩:=z;cases z)
   have hN2:(Aj (o::rr) b++(B2 v++S)).Nodup:=by
    rw[<- bc]at u ⊢;have hp:(B2 v++Aj (o::rr) b++S).Perm (Aj (o::rr) b++B2 v++S):=List.Perm.append_right S List.perm_append_comm;exact hp.nodup_iff.1 u
   obtain⟨Z2,w1,w2,w3⟩:=hs E hN2 O;refine⟨Z2,C.trans w1,?_,.cons ((hz Z nc B).mono w1) w3⟩;refine w2.perm λj=> ?_;simp only[ao];constructor
   ·rintro (h|h|h)
    ·exact .inl (.inr h)
    ·exact .inl (.inl h)
    ·exact .inr h
   ·rintro ((h|h)|h)
    ·exact .inr (.inl h)
    ·exact .inl h
    ·exact .inr (.inr h)
  ·cases e
 |[.kp id],cs,A,K,hkp,hv,e=>by
  unfold Bh at e;split at e
  ·rename_i j;replace e:=AK e;obtain⟨F,e⟩:=e;obtain⟨p,G,rfl,f,i⟩:=hv.cons_inv;refine⟨(),e,fun {Y S hc nc} L _ _=>⟨Y,Up.refl _,L,.cons (Q9 L f F ?_) (by rw[i.nil_inv];exact .nil)⟩⟩;simpa[HX]using hkp
  ·cases e
 |.kp id::o::rr,cs,A,K,hkp,hv,e=>by
  unfold Bh at e;split at e
  ·rename_i j b;replace e:=AK e;obtain⟨F,e⟩:=e;obtain⟨p,G,rfl,f,i⟩:=hv.cons_inv
   have N:ah id nx0=true/\HX nx0 (o::rr)=true:=by
    have:(ah id nx0&&HX nx0 (o::rr))=true:=hkp
    rwa [ai]at this
   obtain⟨s,e1,hs⟩:=Cq r (sg:=o::rr) N.2 i e;refine⟨((),s),e1,fun {Y S hc nc} L u D=> ?_⟩;have w:Aj (.kp id::o::rr) (.ow j::b)=Aj (o::rr) b:=rfl;rw[w]at u ⊢;obtain⟨Z,B,C,E⟩:=hs L u D;exact⟨Z,B,C,.cons ((Q9 L f F N.1).mono B) E⟩
  ·cases e
 |[.cn c],cs,A,K,hkp,hv,e=>by
  unfold Bh at e;split at e
  ·rename_i v;replace e:=AK e;obtain⟨F,e⟩:=e;obtain⟨p,G,rfl,f,i⟩:=hv.cons_inv;exact⟨(),e,fun {Y S hc nc} L _ _=>⟨Y,Up.refl _,L,.cons (Oj F f) (by rw[i.nil_inv];exact .nil)⟩⟩
  ·cases e
 |.cn c::o::rr,cs,A,K,hkp,hv,e=>by
  unfold Bh at e;split at e
  ·rename_i v b;replace e:=AK e;obtain⟨F,e⟩:=e;obtain⟨p,G,rfl,f,i⟩:=hv.cons_inv;obtain⟨s,e1,hs⟩:=Cq r (sg:=o::rr) hkp i e;refine⟨((),s),e1,fun {Y S hc nc} L u D=> ?_⟩;have w:Aj (.cn c::o::rr) (v::b)=Aj (o::rr) b:=rfl;rw[w]at u ⊢;obtain⟨Z,B,C,E⟩:=hs L u D;exact⟨Z,B,C,.cons (Oj F f) E⟩
  ·cases e
 |[.er t n tF k],cs,A,K,hkp,hv,e=>by
  unfold Bh at e;split at e
  ·rename_i v;obtain⟨p,G,rfl,f,i⟩:=hv.cons_inv;obtain⟨y,e,P⟩:=M6 e f;exact⟨y,e,fun {Y S hc nc} L _ _=>⟨Y,Up.refl _,L,.cons (P _) (by rw[i.nil_inv];exact .nil)⟩⟩
  ·cases e
 |.er t n tF k::o::rr,cs,A,K,hkp,hv,e=>by
  unfold Bh at e;split at e
  ·rename_i v b;obtain⟨p,G,rfl,f,i⟩:=hv.cons_inv;obtain⟨y,e,P⟩:=M6 e f;obtain⟨s,e1,hs⟩:=Cq r (sg:=o::rr) hkp i e;refine⟨(y,s),e1,fun {Y S hc nc} L u D=> ?_⟩;have w:Aj (.er t n tF k::o::rr) (v::b)=Aj (o::rr) b:=rfl;rw[w]at u ⊢;obtain⟨Z,B,C,E⟩:=hs L u D;exact⟨Z,B,C,.cons (P _) E⟩
  ·cases e
 |[.ek t n],cs,A,K,hkp,hv,e=>by
  unfold Bh at e;split at e
  ·rename_i v;replace e:=AK e;obtain⟨F,e⟩:=e;obtain⟨p,G,rfl,f,i⟩:=hv.cons_inv;exact⟨(),e,fun {Y S hc nc} L _ _=>⟨Y,Up.refl _,L,.cons (J4 F f).2 (by rw[i.nil_inv];exact .nil)⟩⟩
  ·cases e
 |.ek t n::o::rr,cs,A,K,hkp,hv,e=>by
  unfold Bh at e;split at e
  ·rename_i v b;replace e:=AK e;obtain⟨F,e⟩:=e;obtain⟨p,G,rfl,f,i⟩:=hv.cons_inv;obtain⟨s,e1,hs⟩:=Cq r (sg:=o::rr) hkp i e;refine⟨((),s),e1,fun {Y S hc nc} L u D=> ?_⟩;have w:Aj (.ek t n::o::rr) (v::b)=Aj (o::rr) b:=rfl;rw[w]at u ⊢;obtain⟨Z,B,C,E⟩:=hs L u D;exact⟨Z,B,C,.cons (J4 F f).2 E⟩
  ·cases e
 |[.ef tF k],cs,A,K,hkp,hv,e=>by
  unfold Bh at e;split at e
  ·rename_i v;obtain⟨p,G,rfl,f,i⟩:=hv.cons_inv;obtain⟨y,e,P⟩:=Jj e f;exact⟨y,e,fun {Y S hc nc} L _ _=>⟨Y,Up.refl _,L,.cons (P _) (by rw[i.nil_inv];exact .nil)⟩⟩
  ·cases e
 |.ef tF k::o::rr,cs,A,K,hkp,hv,e=>by
  unfold Bh at e;split at e
  ·rename_i v b;obtain⟨p,G,rfl,f,i⟩:=hv.cons_inv;obtain⟨y,e,P⟩:=Jj e f;obtain⟨s,e1,hs⟩:=Cq r (sg:=o::rr) hkp i e;refine⟨(y,s),e1,fun {Y S hc nc} L u D=> ?_⟩;have w:Aj (.ef tF k::o::rr) (v::b)=Aj (o::rr) b:=rfl;rw[w]at u ⊢;obtain⟨Z,B,C,E⟩:=hs L u D;exact⟨Z,B,C,.cons (P _) E⟩
  ·cases e
variable{t:T V}{tP:T PV}
def CV(t:T V)(h:H)(p:Pl):List Nat:=A1 t h [p]
theorem MZ(p:Pl)(l:List Pl):A1 t h (p::l)=CV t h p++A1 t h l:=by
 unfold CV;cases p<;>simp[A1]
theorem Fx(tc:T V)(hc:H)(nc:Nat)(p:Pl)(s:p.den):nc<=(Bi tc hc nc p s).2.2:=by
 cases p with
 |slot=>exact ac _
 |srow=>exact cj _
 |swin=>exact cj _
 |cn=>exact ac _
 |box id sg=>exact BL sg hc nc s
 |map=>exact ac _
theorem Er:∀ (l:List Pl) (tc:T V) (hc:H) (nc:Nat) (s:Ar l),nc<=(Ab tc hc nc l s).2.2
 |[],_,_,_,_=>ac _
 |[p],tc,hc,nc,s=>Fx tc hc nc p s
 |p::q::r,tc,hc,nc,s=>ay (Fx tc hc nc p s.1) (Er (q::r) _ _ _ s.2)
theorem S9(r:RH X h n){g:Bool}{c:Ty}{l:List c.den}{ex:Bool}{a:At}{v:V}(i:(a=.nil/\l=[]/\ex=false/\B2 v=[]) \/ ∃ j,B2 v=[j]/\h.get j=some (.row g c l ex false false)/\X.π j=some a) :
  ∀ j,h.get j=some (.row g c l ex false false)->X.π j=some a->j ∉ S->(∃ p m,a=.blk p m)->j∈B2 v:=λj e f _ b=>by
 rcases i with⟨d,_⟩|⟨j',d,k,o⟩
 ·obtain⟨_,_,b⟩:=b;rw[b]at d;cases d
 ·rw[d];cases a with
  |blk p m=>
   have:=r.inj _ _ _ _ _ _ _ e k trivial trivial f o;simp[this]
  |nil=>obtain⟨_,_,b⟩:=b;cases b
  |fz es=>obtain⟨_,_,b⟩:=b;cases b
theorem LA(r:RH X h n)(hn:nx0<=1048575)(ht:TR X t tP){nt:Nat}(hnt:nt<1048575){p:Pl}(u:Am nt nx0 [p]=true)(U:∀ i∈AW [p],i<nx0){K:p.den->Option β}(e:GK t h p K=some x) :
  ∃ s,K s=some x /\ ∀ {Y:Cx} {S:List Nat} {tc:T V} {hc:H} {nc:Nat},LInv X h nx0 Y S hc nc->TR Y tc tP->(CV t h p++S).Nodup->(Bi tc hc nc p s).2.2<=1048575 ->
   ∃ Z,Up Y Z/\LInv X h nx0 Z (CV t h p++S) (Bi tc hc nc p s).2.1 (Bi tc hc nc p s).2.2/\TR Z (Bi tc hc nc p s).1 tP:=by
 have put:∀ {Y:Cx} {tc:T V} {k:Nat} {v:V} {q:PV},TR Y tc tP->k<1048575->tP.get k=some q->VR Y v q->TR Y (T.put 20 tc k v) tP:=by
  intro Y tc k v q o A C z i w hi;have h20:(2:Nat) ^ 20-1=1048575:=by decide
  rw[T.get_put 20 tc k v i (by omega)]at hi;by_cases G:i=k
  ·rw[if_pos G]at hi;cases hi;rw[G];exact⟨q,C,z⟩
  ·rw[if_neg G]at hi;exact o i w hi
 cases p with
 |slot k g c=>
  unfold GK at e;replace e:=AD e;obtain⟨v,z,e⟩:=e;obtain⟨q,C,f⟩:=ht _ _ z;replace e:=Eh f e;obtain⟨y,e,hE⟩:=e
  have A:k<1048575:=by
   have:k<nt:=by simpa[Am]using u
   omega
  refine⟨y,e,fun {Y S tc hc nc} L o b E=>⟨Y,Up.refl _,?_,?_⟩⟩
  ·exact L
  ·refine put o A C (Fq (X:=Y) ?_);have hQ:Y.Q=X.Q:=by unfold Cx.Q;rw[L.oo]
   rw[L.hh,hQ];exact hE
 |cn k c=>
  unfold GK at e;replace e:=AD e;obtain⟨v,z,e⟩:=e;obtain⟨q,C,f⟩:=ht _ _ z;replace e:=AK e;obtain⟨hj,e⟩:=e
  have A:k<1048575:=by
   have:k<nt:=by simpa[Am]using u
   omega
  exact⟨(),e,fun {Y S tc hc nc} L o b E=>⟨Y,Up.refl _,L,put o A C (Oj hj f)⟩⟩
 |srow k g c ex=>
  unfold GK at e;replace e:=AD e;obtain⟨v,z,e⟩:=e;obtain⟨q,C,f⟩:=ht _ _ z;obtain⟨l,a,e1,ha,hz⟩:=IW r f e
  have A:k<1048575:=by
   have:k<nt:=by simpa[Am]using u
   omega
  have d:CV t h (.srow k g c ex)=B2 v:=by simp[CV,A1,z]
  refine⟨l,e1,fun {Y S tc hc nc} L o b E=> ?_⟩;rw[d]at b ⊢;have hb':nc+1<=1048575:=E
  obtain⟨Z,N,D,W⟩:=L.row r (g:=g) (c:=c) (l:=l) (ex:=ex) (a:=a) (J:=B2 v) (by omega) (by
   rcases ha with⟨O,P,h3,_⟩|⟨j,O,P,h3⟩
   ·exact .inl ⟨O,P,h3⟩
   ·refine .inr ⟨j,?_,P,h3⟩;rw[O]at b
    exact(aT.1 b).1) (S9 r ha)
  exact⟨Z,D,W,put (o.mono D) A C (hz Z nc N)⟩
 |swin k g c=>
  unfold GK at e;replace e:=AD e;obtain⟨v,z,e⟩:=e;obtain⟨q,C,f⟩:=ht _ _ z;obtain⟨l,len,j,pid,m,e1,hj,B,M,rfl⟩:=QD r f e
  have A:k<1048575:=by
   have:k<nt:=by simpa[Am]using u
   omega
  have d:CV t h (.swin k g c)=[j]:=by simp[CV,A1,z,hj]
  refine⟨(l,len),e1,fun {Y S tc hc nc} L o b E=> ?_⟩;rw[d]at b ⊢;have hb':nc+1<=1048575:=E
  obtain⟨Z,N,D,W⟩:=L.row r (g:=g) (c:=c) (l:=l) (ex:=true) (a:=.blk pid m) (J:=[j]) (by omega)
   (.inr ⟨j,(aT.1 b).1,B,M⟩) (λj' O P _ _=>by
    have:=r.inj _ _ _ _ _ _ _ O B trivial trivial P M
    simp[this])
  exact⟨Z,D,W,put (o.mono D) A C (by simp only[VR];exact⟨pid,m,N,rfl⟩)⟩
 |box id sg=>
  simp only[GK]at e;split at e
  ·rename_i cs B;have hB:=r.blk _ _ B;obtain⟨pid,m,ps,fz',b1,b2,b3,b4,b5⟩:=hB;obtain⟨s,e1,hs⟩:=Cq (nx0:=nx0) r (by simpa[Am]using u) b5 e;have d:CV t h (.box id sg)=Aj sg cs++[id]:=by simp[CV,A1,B]
   refine⟨s,e1,fun {Y S tc hc nc} L o b E=> ?_⟩;rw[d]at b ⊢;have I:id<nx0:=U id (by simp[AW])
   have hN1:(Aj sg cs++S).Nodup:=by
    have M:(Aj sg cs++[id]++S).Perm ([id]++(Aj sg cs++S)):=by
     rw[bc];exact bC _ _ _
    exact(aT.1 (M.nodup_iff.1 b)).2
   have hN2:id ∉ Aj sg cs++S:=by
    have M:(Aj sg cs++[id]++S).Perm ([id]++(Aj sg cs++S)):=by
     rw[bc];exact bC _ _ _
    exact(aT.1 (M.nodup_iff.1 b)).1
   obtain⟨Z,N,D,W⟩:=hs L hN1 E
   have F:=D.put r (c:=.box (Ay hc nc sg s).1 false false) I (by omega) B trivial hN2 (by
    rw[b1]
    exact⟨pid,m,ps,fz',rfl,by rw[D.oo];exact b2,by rw[D.hh];exact b3,b4,W⟩)
   refine⟨Z,N,?_,o.mono N⟩;refine F.perm λj=> ?_;simp only[ae,ao,List.not_mem_nil,or_false];constructor
   ·rintro (h|h|h)
    ·exact .inl (.inr h)
    ·exact .inl (.inl h)
    ·exact .inr h
   ·rintro ((h|h)|h)
    ·exact .inr (.inl h)
    ·exact .inl h
    ·exact .inr (.inr h)
  ·cases e
 |map id k g c=>
  simp only[GK]at e;split at e
  ·rename_i k' g' c' l B;replace e:=AK e;obtain⟨hgg,e⟩:=e;have:=eq_of_beq hgg;subst this;unfold Q7 at e;split at e
   ·rename_i A;subst A;split at e
    ·rename_i hc;subst hc;have hB:=r.blk _ _ B;obtain⟨pid,m,es,b1,b2,b3,b4⟩:=hB;have d:CV t h (.map id k' g c')=[id]:=by simp[CV,A1]
     refine⟨l,e,fun {Y S tc hc nc} L o b E=> ?_⟩;rw[d]at b ⊢;have I:id<nx0:=U id (by simp[AW])
     have F:=L.put r (c:=.mp k' g c' l false) I (by omega) B trivial ((aT.1 b).1) (by
      rw[b1];have hQ:Y.Q=X.Q:=by unfold Cx.Q;rw[L.oo]
      exact⟨pid,m,es,rfl,by rw[L.oo];exact b2,by rw[L.hh];exact b3,by
       unfold MR
       rw[L.hh,hQ];exact b4⟩)
     exact⟨Y,Up.refl _,F,o⟩
    ·cases e
   ·cases e
  ·cases e
theorem Kc{nt nx0:Nat}{p:Pl}{l:List Pl}(h:Am nt nx0 (p::l)=true):Am nt nx0 [p]=true/\Am nt nx0 l=true:=by
 cases p<;>simp[Am]at h ⊢ <;> exact h
theorem Cf{p:Pl}{l:List Pl}{i:Nat}:(i∈AW [p]->i∈AW (p::l))/\(i∈AW l->i∈AW (p::l)):=by
 refine⟨λh=> ?_,λh=> ?_⟩<;>cases p<;>simp[AW]at h ⊢ <;> simp[h]
theorem G8(r:RH X h n)(k:nx0<=1048575)(m:TR X t tP){nt:Nat}(a:nt<1048575):∀ {l:List Pl} {K:Ar l->Option β},Am nt nx0 l=true->(∀ i∈AW l,i<nx0)->Cb t h l K=some x ->
  ∃ s,K s=some x /\ ∀ {Y:Cx} {S:List Nat} {tc:T V} {hc:H} {nc:Nat},LInv X h nx0 Y S hc nc->TR Y tc tP->(A1 t h l++S).Nodup->(Ab tc hc nc l s).2.2<=1048575 ->
   ∃ Z,Up Y Z/\LInv X h nx0 Z (A1 t h l++S) (Ab tc hc nc l s).2.1 (Ab tc hc nc l s).2.2/\TR Z (Ab tc hc nc l s).1 tP
 |[],K,_,_,e=>⟨(),e,λL d _ _=>⟨_,Up.refl _,L,d⟩⟩
 |[p],K,hsl,hid,e=>by
  obtain⟨s,e1,hs⟩:=LA r k m a hsl hid e;exact⟨s,e1,λL d b g=>hs L d b g⟩
 |p::q::rr,K,hsl,hid,e=>by
  unfold Cb at e;obtain⟨s1,s2⟩:=Kc hsl;obtain⟨s,e1,hs⟩:=LA r k m a s1 (λi hi=>hid i (Cf.1 hi)) e;obtain⟨u,e2,y⟩:=G8 r k m a (l:=q::rr) s2 (λi hi=>hid i (Cf.2 hi)) e1;refine⟨(s,u),e2,fun {Y S tc hc nc} L d b g=> ?_⟩;rw[MZ]at b ⊢;have f:(Ab (Bi tc hc nc p s).1 (Bi tc hc nc p s).2.1 (Bi tc hc nc p s).2.2 (q::rr) u).2.2<=1048575:=g;rw[bc]at b;have w:(CV t h p++(A1 t h (q::rr)++S)).Perm (A1 t h (q::rr)++(CV t h p++S)):=bC _ _ _;have c:=w.nodup_iff.1 b;obtain⟨Z,C,D,E⟩:=hs L d (cc.1 c).2.1 (ay (Er (q::rr) _ _ _ u) f);obtain⟨o,z,A,B⟩:=y D E c f;refine⟨o,C.trans z,?_,B⟩;refine A.perm λj=> ?_;simp only[ao];constructor
  ·rintro (h|h|h)
   ·exact .inl (.inr h)
   ·exact .inl (.inl h)
   ·exact .inr h
  ·rintro ((h|h)|h)
   ·exact .inr (.inl h)
   ·exact .inl h
   ·exact .inr (.inr h)
end
end
section
variable[Pi.Gl]
open Pi (PV T Hp Blk DF UM PE AN AT AB AX Ao)
def PX(P:Program)(a:D8)(c:Code)(fp:Pi.Fr)(h:Hp)(r:Pi.Ex×Pi.Fr×Hp):Prop:=
 ∃ N,∀ m F n,N<=m->N<=F->N<=n->Pi.exec P (Ad a) (Pi.B3 P (Ad a) F n) m c fp h=some r
def Ru(P:Program)(i:D8)(b bP:Nat)(c:Code)(X:Cx)(h:H)(nx:Nat)(fp:Pi.Fr){β:Type}(K:KA β)(x:β):Prop:=
 ∃ ex e h' g Y a d f,K ex e h' g=some x/\PX P i c fp X.h (a,d,f)/\Run b bP X h nx Y h' g f/\FR Y e d/\Lw Y ex a
def Cx.bump(X:Cx)(k:Nat):Cx:={ X with h:={ X.h with nx:=X.h.nx+k } }
theorem Kr(X:Cx)(k q:Nat):(X.bump k).h.get q=X.h.get q:=rfl
theorem GE(X:Cx)(k:Nat):Up X (X.bump k):=⟨λ_ _ h=>h,λ_ _ _ fz h k=>⟨⟨fz,k⟩,h⟩⟩
theorem RH.bump{X:Cx}{h:H}{n:Nat}(r:RH X h n)(k:Nat):RH (X.bump k) h (n+k):=
 ⟨λi c hi=>(r.blk i c hi).keep (GE X k) λ_ _ _ b=>⟨rfl,b⟩,r.inj,λi a hi=>ci (r.dom i a hi) (cg _ _),λq d=>r.fresh q (by have:X.h.nx+k<=q:=d;omega),r.ob⟩
theorem GD(X:Cx)(h:H)(k b bP:Nat):Ext b bP X h (X.bump k) h:=
 ⟨(Up.low X b).trans (GE X k),λ_ _ h=>h,λ_ _ h=>h,cg _ _,λ_ _ h _=>h,λ_ c a _ _ _ _ _ _ h=>⟨c,a,h⟩⟩
structure DrawnAOK (P:Program) (tab:D8):Prop where
 go:∀ {β:Type} {x:β} {nx:Nat} {ops:List Oper} {fr:FrA} {h:H} {K:FrA->H->Option β},MA P tab nx ops fr h K=some x -> ∀ {X:Cx} {fp:Pi.Fr},RH X h nx->nx+ops.length<=1048575->FR X fr fp->(∀ o∈ops,∀ d,o.dst=some d->d<fr.nt) ->
  ∃ fr' h' Y fp' hP',K fr' h'=some x/\(∃ N,∀ F n,N<=F->N<=n->Pi.drawn P (Pi.B3 P (Ad tab) F n) X.h.nx ops fp (X.bump ops.length).h=some (fp',hP'))/\(∀ b bP,b<=nx->bP<=X.h.nx->Run b bP X h nx Y h' (nx+ops.length) hP')/\FR Y fr' fp'
theorem CK:∀ {l:List Nat},Bb l=true->l.Nodup
 |[],_=>.nil
 |a::l,h=>by
  simp only[Bb,ai,bh,aH]at h;refine aT.2 ⟨λb=> ?_,CK h.2⟩;exact h.1 a b (by simp)
section
variable{P:Program}{tab:D8}{ann:Hu}{f:FuncId}{rec:Hv}
structure KB (X:Cx) (h:H) (n0:Nat) (kb:List Nat) (h0:H):Prop where
 go:∀ i c,h0.get i=some c->i∈kb/\i<n0/\(∃ d,h.get i=some d/\d.live)/\BR (X.low n0) c (X.π i)
theorem KB.linv{X:Cx}{h l:H}{n n0:Nat}{o:List Nat}(k:KB X h n0 o l)(r:RH X h n):LInv X h n0 (X.low n0) o l n0:=by
 refine⟨rfl,rfl,λi hi=>Cx.low_eq hi,λi hi=>Cx.low_ge (by omega),ac _,λi c hi=> ?_,λi u c q p m A hi g b j=> ?_,λi c p m hi b=> ?_⟩
 ·obtain⟨_,a,_,t⟩:=k.go i c hi;rw[Cx.low_eq a];exact⟨t,a⟩
 ·obtain⟨_,a,⟨d,e,f⟩,_⟩:=k.go i c hi;obtain⟨_,w,⟨z,x,y⟩,_⟩:=k.go u q g;rw[Cx.low_eq a]at b;rw[Cx.low_eq w]at j;exact r.inj _ _ _ _ _ _ _ e x f y b j
 ·obtain⟨s,a,⟨d,e,f⟩,_⟩:=k.go i c hi;rw[Cx.low_eq a]at b;exact⟨i,s,d,m,e,f,b⟩
theorem BR.lock{X:Cx}{c:BA}{a:Option At}(h:BR X c a):BR X (DL c) a:=by cases c<;>exact h
theorem BR.unlock{X:Cx}{c:BA}{a:Option At}(h:BR X (DL c) a):BR X c a:=by cases c<;>exact h
theorem KB.entry{X:Cx}{h:H}{n:Nat}{b:List Nat}{g:BA->BA}(r:RH X h n)(s:n<=1048575)(a:∀ i∈b,i<n)(p:∀ c,g c=DL c\/g c=c):KB X h n b (BQ h g b):=by
 refine⟨λi c hi=> ?_⟩;obtain⟨f,d,k,rfl,m⟩:=C8 (λj q=>by have:=a j q;omega) hi;refine⟨f,a i f,⟨d,k,m⟩,?_⟩;have l:BR (X.low n) d (X.π i):=(r.blk _ _ k).keep (Up.toLow r (ac _)) λ_ _ _ o=>⟨rfl,o⟩;rcases p d with e|e
 ·rw[e];exact l.lock
 ·rw[e];exact l
theorem HB{h:H}:∀ {l:List (Nat×Nat×Option Code)},Fa h l=true -> ∀ i k f,(i,k,f)∈l -> ∃ nt t n b a d,h.get i=some (.lp k f nt t n b a d)
 |[],_,_,_,_,hm=>by cases hm
 |(j,st',pd')::l,hl,i,k,f,hm=>by
  simp only[Fa,ai]at hl;rcases ae.1 hm with e|hm
  ·simp only[Prod.mk.injEq]at e;obtain⟨e1,e2,e3⟩:=e;subst e1;subst e2;subst e3;have c:=hl.1;split at c
   ·rename_i p m nt t n b a d o;simp only[ai]at c;have e1:=al c.1
    have e2:f=m:=by
     have g:=c.2;split at g
     ·rfl
     ·rfl
     ·rw[al g]
     ·rw[al g]
     ·cases g
    subst e1;subst e2;exact⟨nt,t,n,b,a,d,o⟩
   ·cases c
  ·exact HB hl.2 i k f hm
theorem Dz{h:H}{i e nt d:Nat}{c:Option Code}{t:T V}{f:List Nat}{b a:Code}:∀ {l:List Nat},i∈l->h.get i=some (.lp e c nt t f b a d)->(i,e,c)∈Bc h l
 |j::l,hm,hg=>by
  rcases ae.1 hm with rfl|hm
  ·simp[Bc,hg]
  ·have:=Dz hm hg;unfold Bc;split
   ·exact aw _ this
   ·exact this
theorem Gt{h:H}{i:Nat}{a:Option (List DFA)}:∀ {l:List Nat},i∈l->h.get i=some (.df a)->i∈GL h l
 |j::l,hm,hg=>by
  rcases ae.1 hm with rfl|hm
  ·simp[GL,hg]
  ·have:=Gt hm hg;unfold GL;split
   ·exact aw _ this
   ·exact this
theorem Iz{h:H}{i:Nat}{a:Option (List DFA)}:∀ {l:List Nat},HQ h l=true->i∈l->h.get i=some (.df a)->a=some []
 |j::l,hl,hm,hg=>by
  simp only[HQ,ai]at hl;rcases ae.1 hm with rfl|hm
  ·have b:=hl.1;rw[hg]at b;cases a with
   |none=>cases b
   |some l=>cases l with
    |nil=>rfl
    |cons=>cases b
  ·exact Iz hl.2 hm hg
theorem Fm{h:H}:∀ {l:List Nat} {i:Nat},Fl h l=true->i∈l->h.get i=some (.df (some []))
 |j::l,i,hl,hm=>by
  simp only[Fl,ai]at hl;rcases ae.1 hm with rfl|hm
  ·have a:=hl.1;split at a
   ·assumption
   ·cases a
  ·exact Fm hl.2 hm
theorem BR.lowOf{X Y:Cx}{b:Nat}{c:BA}{a P:Option At}(k:BR (X.low b) c P)(h:BR Y c a):BR (Y.low b) c a:=by
 cases c with
 |box cs fz M=>
  obtain⟨pid,n,s,E,e,r,w,j,G⟩:=h;obtain⟨_,_,B,_,_,_,_,_,C⟩:=k;exact⟨pid,n,s,E,e,r,w,j,VRL.lowOf C G⟩
 |row g c l ex fz M=>exact h
 |mp kk g c l M=>exact h
 |lp st N nt t s S J d=>
  obtain⟨pid,n,tP,W,m,e,r,w,j,G,h6⟩:=h;obtain⟨_,_,tP',_,_,_,_,_,A,C,_⟩:=k;refine⟨pid,n,tP,W,m,e,r,w,λi v hi=> ?_,?_,h6⟩
  ·obtain⟨p,hp,hv⟩:=j i v hi;obtain⟨q,_,kv⟩:=A i v hi;exact⟨p,hp,VR.lowOf kv hv⟩
  ·by_cases z:d<b
   ·rw[Cx.low_eq z];exact G
   ·rw[Cx.low_ge z]at C;cases C
 |df Z=>
  obtain⟨pid,n,o,e,r,w,j⟩:=h;obtain⟨_,_,u,_,_,_,A⟩:=k;refine⟨pid,n,o,e,r,w,?_⟩;cases Z with
  |none=>
   cases o with
   |none=>trivial
   |some=>exact j.elim
  |some l=>
   cases o with
   |none=>exact j.elim
   |some m=>
    cases u with
    |none=>exact A.elim
    |some D=>
     simp only at j A ⊢
     have go:∀ {l:List DFA} {m D:List DF},L2 (DFR (X.low b)) l D->L2 (DFR Y) l m->L2 (DFR (Y.low b)) l m:=by
      intro l
      induction l with
      |nil=>intro m D _ h;rw[L2.nil_inv h];exact .nil
      |cons x l ih=>
       intro m D k h;obtain⟨y,t,rfl,e,r⟩:=L2.cons_inv h;obtain⟨y',t',rfl,I,k2⟩:=L2.cons_inv k;refine .cons ?_ (ih k2 r);cases x with
       |call f args=>
        obtain⟨fP,s,e1,e2,e3⟩:=e;obtain⟨fP',B,_,L,F⟩:=I;exact⟨fP,s,e1,VR.lowOf L e2,VRL.lowOf F e3⟩
       |bi bb U ty args=>
        obtain⟨s,e1,e3⟩:=e;obtain⟨B,_,F⟩:=I;exact⟨s,e1,VRL.lowOf F e3⟩
       |col id=>
        obtain⟨pid,n,e1,e2⟩:=e;obtain⟨O,n',K,L⟩:=I;refine⟨pid,n,?_,e2⟩;by_cases z:id<b
        ·rw[Cx.low_eq z];exact e1
        ·rw[Cx.low_ge z]at K;cases K
     exact go A j
 |dead=>trivial
theorem NG{Z Y:Cx}{d h':H}{n0 b bP:Nat}(e:n0<=b)(ext:Ext b bP Z d Y h'):Up (Z.low n0) (Y.low n0):=by
 refine⟨λi a hi=> ?_,ext.up.rows⟩;by_cases c:i<n0
 ·rw[Cx.low_eq c]at hi ⊢;exact ext.up.pi i a (by rw[Cx.low_eq (by omega)];exact hi)
 ·rw[Cx.low_ge c]at hi;cases hi
def NH(l:List (Nat×Nat×Option Code))(i:Nat)(c a:BA):Prop:=match c with
 |.lp _ _ nt t ps asg body d=>∃ e b,(i,e,b)∈l/\a=.lp e b nt t ps asg body d
 |c=>a=c
def QJ(X:Cx)(h:H)(b:List Nat)(n0:Nat)(l:List (Nat×Nat×Option Code))(W:Cx):Prop:=
 ∀ i c,h.get i=some c->i∈b->c.live->W.π i=X.π i /\ ∀ a,NH l i c a->BR (W.low n0) a (W.π i)
theorem OD{X Z Y:Cx}{h U h':H}{n' n0 b bP:Nat}{n:List Nat}(G:HQ h n=true)(I:∀ i∈n,i<n0)(E:QJ X h n n0 (Bc h n) Z)
  (F:∀ i c,h.get i=some c->i∈n->c.live->U.get i=some (DL c)) (hX:∀ i c,h.get i=some c->c.live -> ∃ a,X.π i=some a) (ext:Ext b bP Z U Y h') (hb:n0<=b) (P:RH Y h' n') (W:Fl h' (GL h n)=true) {l:List (Nat×Nat×Option Code)} (hl:Fa h' l=true) (J:l.map (·.1)=(Bc h n).map (·.1)) :
  QJ X h n n0 l Y /\ ∀ i c,h.get i=some c->i∈n->c.live -> ∃ d,h'.get i=some d/\d.live:=by
 have up:=NG hb ext
 have C:∀ i c,h.get i=some c->i∈n->c.live->Y.π i=X.π i:=λi c hi j f=>by
  obtain⟨a,ha⟩:=hX i c hi f;obtain⟨k1,_⟩:=E i c hi j f;rw[ha]at k1 ⊢;exact ext.up.pi i a (by rw[Cx.low_eq (by have:=I i j;omega)];exact k1)
 have locked:∀ i c,h.get i=some c->i∈n->c.live->(DL c).locked=true->NH (Bc h n) i c c->h'.get i=some (DL c)/\BR (Y.low n0) c (Y.π i):=λi c hi j f K hn=>by
  have g:=ext.lk i (DL c) (F i c hi j f) K;refine⟨g,?_⟩;have u:=(P.blk _ _ g).unlock;exact BR.lowOf ((E i c hi j f).2 c hn) u
 refine⟨λi c hi j f=>⟨C i c hi j f,λD o=> ?_⟩,λi c hi j f=> ?_⟩
 ·cases c with
  |box cs fz B=>rw[show D=_ from o];exact(locked i _ hi j f rfl rfl).2
  |row g c x ex fz B=>rw[show D=_ from o];exact(locked i _ hi j f rfl rfl).2
  |mp k g c x B=>rw[show D=_ from o];exact(locked i _ hi j f rfl rfl).2
  |dead=>exact f.elim
  |df ds=>
   rw[show D=_ from o];have:=Iz G j hi;subst this;have g:=Fm W (Gt j hi);have u:=P.blk _ _ g;obtain⟨pid,m,z,q1,q2,q3,q4⟩:=u;refine⟨pid,m,z,q1,q2,q3,?_⟩;cases z with
   |none=>exact q4
   |some mm=>rw[show mm=[]from L2.nil_inv q4];exact .nil
  |lp s r nt t ps w p d=>
   obtain⟨S,N,L,rfl⟩:=o;obtain⟨M,t',O,y,q,d',g⟩:=HB hl i S N L;have hZ:=(E i _ hi j f).2 (.lp s r nt t ps w p d) ⟨s,r,Dz j hi,rfl⟩;obtain⟨pid,m,tP,dP,m2,z1,z2,z3,z4,z5,z6⟩:=hZ;obtain⟨st',pe',y3⟩:=ext.lps _ _ _ _ _ _ _ _ _ z3;have u:=P.blk _ _ g
   have A:Y.π i=some (.blk pid m):=by
    rw[C i _ hi j f,<- (E i _ hi j f).1];exact z1
   rw[A]at u;obtain⟨_,_,tP2,dP2,m3,w1,w2,w3,_,_,_⟩:=u;cases w1;rw[y3]at w3;cases w3;rw[A];exact⟨pid,m,tP,dP,m2,rfl,w2,y3,z4.mono up,up.pi _ _ z5,z6⟩
 ·cases c with
  |box cs fz B=>exact⟨_,(locked i _ hi j f rfl rfl).1,trivial⟩
  |row g c x ex fz B=>exact⟨_,(locked i _ hi j f rfl rfl).1,trivial⟩
  |mp k g c x B=>exact⟨_,(locked i _ hi j f rfl rfl).1,trivial⟩
  |dead=>exact f.elim
  |df ds=>exact⟨_,Fm W (Gt j hi),trivial⟩
  |lp s r nt t ps w p d=>
   have h0:=Dz j hi;have:i∈(Bc h n).map (·.1):=bo.2 ⟨_,h0,rfl⟩;rw[<- J]at this;obtain⟨⟨i',S,N⟩,L,e⟩:=bo.1 this;simp only at e;subst e;obtain⟨M,t',O,y,q,d',g⟩:=HB hl i' S N L;exact⟨_,g,trivial⟩
end
end
section
variable[Pi.Gl]
open Pi (PV T Hp Blk DF UM PE AN AT AB AX Ao)
section
variable{P:Program}{tab:D8}{β:Type}{x:β}
def R1(X:Cx)(e:ExA)(a:Pi.Ex)(pay:Ty)(y:pay.den)(k:ExK):Prop:=∀ Z:Cx,Z.h=X.h->Z.O=X.O->Lw Z (Jq pay y k) a
theorem QV{X:Cx}{h:H}{e:ExA}{b:Pi.Ex}{pay:Ty}{k:ExK}{K:pay.den->Option β}(l:Lw X e b)(u:SH e k=true)(a:SA h e pay k K=some x):∃ y,K y=some x/\R1 X e b pay y k:=by
 cases k with
 |exit i=>
  cases e with
  |exit j=>
   replace a:=AK a;obtain⟨f,a⟩:=a;have:=al f;subst this;exact⟨_,a,λZ _ _=>l⟩
  |_=>cases a
 |ret=>
  cases e with
  |ret=>exact⟨_,a,λZ _ _=>l⟩
  |_=>cases a
 |pan t g c=>
  cases e with
  |panic v=>
   cases v with
   |ifc w v=>
    replace a:=AK a;obtain⟨f,a⟩:=a;have:=al f;subst this;split at a
    ·rename_i hc;subst hc;obtain⟨p,rfl,d⟩:=l;simp only[VR]at d;obtain⟨q,rfl,d⟩:=d;obtain⟨y,e1,m⟩:=Eh d a;refine⟨y,e1,λZ r s=> ?_⟩;have o:Jq c y (.pan t g c)=.panic (.ifc t (Nr g c y)):=dif_pos rfl;rw[o];refine⟨_,rfl,?_⟩;simp only[VR];refine⟨q,rfl,Fq ?_⟩;have n:Z.Q=X.Q:=by unfold Cx.Q;rw[s]
     rw[r,n];exact m
    ·cases a
   |_=>cases a
  |_=>cases a
theorem JA{X:Cx}{h:H}{d:List Nat}{e:ExA}{b:Pi.Ex}{pay:Ty}(m:Lw X e b):∀ {l:List (ExK×List (Nat×Nat×Option Code))} {i:Nat} {K:Nat->pay.den->Option β},G0 h d e pay i l K=some x ->
  ∃ j k f y,l[j]?=some (k,f)/\Fa h f=true/\f.map (·.1)=d/\K (i+j) y=some x/\R1 X e b pay y k
 |[],i,K,a=>by cases a
 |(k,f)::l,i,K,a=>by
  unfold G0 at a;replace a:=BU a;rcases a with⟨c,a⟩|⟨c,a⟩
  ·simp only[ai]at c;obtain⟨y,e1,e2⟩:=QV m c.1 a;exact⟨0,k,f,y,rfl,c.2.1,eq_of_beq c.2.2,e1,e2⟩
  ·obtain⟨j,s,g,y,n,o,p,q,r⟩:=JA m a;exact⟨j+1,s,g,y,by simpa using n,o,p,by rw[show i+(j+1)=i+1+j from by omega];exact q,r⟩
theorem IX{pay:Ty}{y:pay.den}:∀ {l:List (ExK×List (Nat×Nat×Option Code))} {i j:Nat} {k:ExK} {a:List (Nat×Nat×Option Code)} {K:ExA->List (Nat×Nat×Option Code)->Option β},l[j]?=some (k,a)->Li pay y (i+j) i l K=some x->K (Jq pay y k) a=some x
 |[],i,j,k,a,K,hj,e=>by cases e
 |[(k',lp')],i,j,k,a,K,hj,e=>by
  cases j with
  |zero=>simp at hj;obtain⟨rfl,rfl⟩:=hj;exact e
  |succ j=>simp at hj
 |(k',lp')::b::l,i,j,k,a,K,hj,e=>by
  unfold Li at e;cases j with
  |zero=>
   simp at hj;obtain⟨rfl,rfl⟩:=hj;rcases BN e with⟨_,e⟩|⟨c,e⟩
   ·exact e
   ·simp[neq]at c
  |succ j=>
   rcases BN e with⟨c,e⟩|⟨c,e⟩
   ·simp[neq]at c
   ·exact IX (i:=i+1) (j:=j) (by simpa using hj) (by rw[show i+1+j=i+(j+1)from by omega];exact e)
theorem OC{t:T V}{l:List Nat}{W:Cx}{c a:T PV}(f:∀ i∈l,i<1048575)(h:TR W (BS t l) c)(same:∀ k∈l,a.get k=c.get k):TR W (BS t l) a:=λk v b=>by
 obtain⟨p,d,e⟩:=h k v b;exact⟨p,by rw[same k (G7 f b).1];exact d,e⟩
structure It (P:Program) (X:Cx) (h:H) (nx bP:Nat) (fr:FrA) (kb keep:List Nat) (pl:List Pl) (lp:List (Nat×Nat×Option Code)) (W:Cx) (fp:Pi.Fr) (s:Ar pl):Prop where
 go:∃ hW nW src,RH W hW nW/\QJ X h kb nx lp W/\(∀ i c,h.get i=some c->i∈kb->c.live -> ∃ d,hW.get i=some d/\d.live)/\(src++kb).Nodup /\
  ∀ {Y:Cx} {S:List Nat} {tc:T V} {hc:H} {nc:Nat},LInv W hW nx Y S hc nc->TR Y tc fp.t->(src++S).Nodup->(Ab tc hc nc pl s).2.2<=1048575 ->
   ∃ Z,Up Y Z/\LInv W hW nx Z (src++S) (Ab tc hc nc pl s).2.1 (Ab tc hc nc pl s).2.2/\TR Z (Ab tc hc nc pl s).1 fp.t
 t:TR (W.low nx) (BS fr.t keep) fp.t
 ds:L2 (DFR (W.low nx)) fr.ds fp.ds
 nt:fp.nt=fr.nt
 up:fp.up=none
 ro:ROR (W.low nx) fr.ro fp.ro
 ext:Ext nx bP X .lf W .lf
def Ly(h:H)(f:List Nat)(b:List (Nat×Nat×Option Code))(e:H):Prop:=∀ i c,e.get i=some c->i∈f /\ ∃ d,h.get i=some d/\d.live/\(NH b i d c \/ ∃ a,NH b i d a/\c=DL a)
theorem It.lay{X:Cx}{h b:H}{nx bP:Nat}{fr:FrA}{u keep:List Nat}{pl:List Pl}{J:List (Nat×Nat×Option Code)}{W:Cx}{fp:Pi.Fr}{s:Ar pl}(I:It P X h nx bP fr u keep pl J W fp s)(g:fr.nt<1048575)(A:fr.up=none)(x:∀ i∈u,i<nx)(S:Ly h u J b)
  (U:(Ab (BS fr.t keep) b nx pl s).2.2<=1048575) :
  ∃ Z,Z.h=W.h/\RH Z (Ab (BS fr.t keep) b nx pl s).2.1 (Ab (BS fr.t keep) b nx pl s).2.2/\FR Z { fr with t:=(Ab (BS fr.t keep) b nx pl s).1 } fp/\Up (W.low nx) Z/\(∀ i,i<nx->Z.π i=W.π i)/\Z.O=W.O/\nx<=(Ab (BS fr.t keep) b nx pl s).2.2:=by
 obtain⟨N,nW,src,r,M,l,z,j⟩:=I.go
 have B:KB W N nx u b:=⟨λi c hi=>by
  obtain⟨o,d,E,F,f⟩:=S i c hi;refine⟨o,x i o,l i d E o F,?_⟩;obtain⟨_,G⟩:=M i d E o F;rcases f with f|⟨D,f,rfl⟩
  ·exact G c f
  ·exact(G D f).lock⟩
 obtain⟨Z,C,e,z3⟩:=j (B.linv r) I.t z U
 have Y:RH Z (Ab (BS fr.t keep) b nx pl s).2.1 (Ab (BS fr.t keep) b nx pl s).2.2:=by
  refine⟨λi c hi=>(e.blk i c hi).1,λi i' c D p m m' hi w _ _ K L=>e.inj _ _ _ _ _ _ _ hi w K L,λi a hi=> ?_,λq n=> ?_,λq n=> ?_⟩
  ·by_cases y:i<(Ab (BS fr.t keep) b nx pl s).2.2
   ·exact y
   ·rw[e.hi i (by omega)]at hi;cases hi
  ·rw[e.hh]at n ⊢;exact r.fresh q n
  ·rw[e.hh];rw[e.oo]at n;exact r.ob q n
 refine⟨Z,e.hh,Y,⟨z3,I.nt,g,I.ds.mono λ_ _ k=>k.mono C,?_,I.ro.mono C⟩,C,e.lo,e.oo,e.le⟩;rw[A];exact I.up
theorem HY{i:Nat}:∀ {pl:List Pl} {tc:T V} {hc:H} {nc:Nat} {s:Ar pl},i<nc->i ∉ AW pl->(Ab tc hc nc pl s).2.2<=1048575->(∀ j∈AW pl,j<1048575)->(Ab tc hc nc pl s).2.1.get i=hc.get i:=by
 have sg:∀ {sg:List Sgm} {hc:H} {nc:Nat} {s:DN sg},i<nc->(Ay hc nc sg s).2.2<=1048575->(Ay hc nc sg s).2.1.get i=hc.get i:=by
  intro sg
  induction sg with
  |nil=>intro hc nc s _ _;rfl
  |cons a sg e=>
   intro hc nc s hi b;cases sg with
   |nil=>
    cases a with
    |lf c=>rfl
    |ow g c ex=>
     show(AG hc nc _).get i=_;have:nc+1<=1048575:=b;rw[AI (by omega),if_neg (by omega)]
    |kp id=>rfl
    |cn c=>rfl
    |er=>rfl
    |ek=>rfl
    |ef=>rfl
   |cons q m=>
    cases a with
    |lf c=>exact e hi b
    |kp id=>exact e hi b
    |cn c=>exact e hi b
    |er=>exact e hi b
    |ek=>exact e hi b
    |ef=>exact e hi b
    |ow g c ex=>
     have f:(Ay (AG hc nc (.row g c s.1 ex false false)) (nc+1) (q::m) s.2).2.2<=1048575:=b;have u:=BL (q::m) (AG hc nc (.row g c s.1 ex false false)) (nc+1) s.2;have:=e (hc:=AG hc nc (.row g c s.1 ex false false)) (nc:=nc+1) (s:=s.2) (by omega) f;show(Ay (AG hc nc (.row g c s.1 ex false false)) (nc+1) (q::m) s.2).2.1.get i=_;rw[this,AI (by omega),if_neg (by omega)]
 have o:∀ {p:Pl} {tc:T V} {hc:H} {nc:Nat} {s:p.den},i<nc->i ∉ AW [p]->(Bi tc hc nc p s).2.2<=1048575->(∀ j∈AW [p],j<1048575)->(Bi tc hc nc p s).2.1.get i=hc.get i:=by
  intro p tc hc nc s hi d b n;cases p with
  |slot=>rfl
  |cn=>rfl
  |swin k g c=>
   show(AG hc nc _).get i=_;have:nc+1<=1048575:=b;rw[AI (by omega),if_neg (by omega)]
  |srow k g c ex=>
   show(AG hc nc _).get i=_;have:nc+1<=1048575:=b;rw[AI (by omega),if_neg (by omega)]
  |box id r=>
   show(AG (Ay hc nc r s).2.1 id _).get i=_;rw[AI (n id (by simp[AW])),if_neg (by intro hh;subst hh;exact d (by simp[AW]))];exact sg hi b
  |map id k g c=>
   show(AG hc id _).get i=_;rw[AI (n id (by simp[AW])),if_neg (by intro hh;subst hh;exact d (by simp[AW]))]
 intro pl
 induction pl with
 |nil=>intros;rfl
 |cons p l e=>
  intro tc hc nc s hi d b n;cases l with
  |nil=>exact o hi d b n
  |cons q m=>
   have f:(Ab (Bi tc hc nc p s.1).1 (Bi tc hc nc p s.1).2.1 (Bi tc hc nc p s.1).2.2 (q::m) s.2).2.2<=1048575:=b;have u:=Er (q::m) (Bi tc hc nc p s.1).1 (Bi tc hc nc p s.1).2.1 (Bi tc hc nc p s.1).2.2 s.2;have t:=o (p:=p) (tc:=tc) (hc:=hc) (nc:=nc) (s:=s.1) hi (λh=>d (Cf.1 h)) (by omega) (λj h=>n j (Cf.1 h));show(Ab (Bi tc hc nc p s.1).1 (Bi tc hc nc p s.1).2.1 (Bi tc hc nc p s.1).2.2 (q::m) s.2).2.1.get i=_;rw[e (ci hi (Fx tc hc nc p s.1)) (λh=>d (Cf.2 h)) f (λj h=>n j (Cf.2 h)),t]
theorem Dw{h:H}{f:BA->BA}:∀ {l:List Nat} {i:Nat} {c:BA},(∀ j∈l,j<1048575)->i∈l->h.get i=some c->c.live->(BQ h f l).get i=some (f c)
 |j::l,i,c,hl,hm,hg,hv=>by
  have k:(2:Nat) ^ 20-1=1048575:=by decide
  have g:=hl j (by simp);unfold BQ;by_cases a:i=j
  ·subst a;rw[hg];cases c with
   |dead=>exact hv.elim
   |_=>simp only;rw[T.get_put 20 _ _ _ _ (by omega),if_pos rfl]
  ·have b:i∈l:=by
    rcases ae.1 hm with e|hm
    ·exact absurd e a
    ·exact hm
   have d:=Dw (f:=f) (λj g=>hl j (by simp[g])) b hg hv;split
   ·exact d
   ·rw[T.get_put 20 _ _ _ _ (by omega),if_neg a];exact d
   ·exact d
theorem Fy{h:H}:∀ {l:List (Nat×Nat×Option Code)} {i:Nat},(∀ p∈l,p.1<1048575)->(CS h l).get i=h.get i \/ ∃ n m nt t o b a d f e,(i,n,m)∈l/\h.get i=some (.lp f e nt t o b a d)/\(CS h l).get i=some (.lp n m nt t o b a d)
 |[],i,_=>.inl rfl
 |(j,n,m)::l,i,hl=>by
  have g:=Fy (h:=h) (l:=l) (i:=i) λp G=>hl p (by simp[G]);have F:=hl (j,n,m) (by simp);unfold CS;split
  ·rename_i f e nt t o b a d E;rw[AI F];by_cases k:i=j
   ·subst k;rw[if_pos rfl];exact .inr ⟨n,m,nt,t,o,b,a,d,f,e,by simp,E,rfl⟩
   ·rw[if_neg k];rcases g with g|⟨q,r,s,u,w,x,y,z,A,c,B,C,D⟩
    ·exact .inl g
    ·exact .inr ⟨q,r,s,u,w,x,y,z,A,c,by simp[B],C,D⟩
  ·rcases g with g|⟨q,r,s,u,w,x,y,z,A,c,B,C,D⟩
   ·exact .inl g
   ·exact .inr ⟨q,r,s,u,w,x,y,z,A,c,by simp[B],C,D⟩
end
end
section
variable[Pi.Gl]
open Pi (PV T Hp Blk DF UM PE AN AT AB AX Ao)
section
variable{X:Cx}{h:H}{n b bP:Nat}
theorem RH.drop(r:RH X h n)(U:n<=1048575){j:Nat}{g:Bool}{c:Ty}{l:List c.den}{ex fz:Bool}(E:h.get j=some (.row g c l ex fz false)){h':H}(hh:h'=BQ h (λb=>b) ((bY n).filter λi=> !aa i j)) :
  (∃ Y:Cx,Y.π=X.π/\Y.h=X.h/\Up X Y/\RH Y h' n/\Ext b bP X h Y h' /\ ∀ pid m,X.π j=some (.blk pid m)->Y.Q pid) /\ ∀ i o,h.get i=some o->o.live->i≠j->h'.get i=some o:=by
 let Y:Cx:={ π:=X.π,h:=X.h,O:=λq=>X.O q /\ ∀ m,X.π j≠some (.blk q m) }
 have u:Up X Y:=⟨λ_ _ h=>h,λ_ _ _ fz w k=>⟨⟨fz,k⟩,λt=>w t.1⟩⟩
 have D:∀ i∈(bY n).filter λi=> !aa i j,i<1048575:=λi hi=>by
  have:=cp.1 (bO.1 hi).1;omega
 have A:∀ {i:Nat} {c:BA},h'.get i=some c->i≠j/\h.get i=some c/\c.live:=fun {i o} hi=>by
  rw[hh]at hi;obtain⟨B,d,x,rfl,C⟩:=C8 D hi;refine⟨λe=> ?_,x,C⟩;have:=(bO.1 B).2;rw[e]at this;simp at this
 have hs:∀ i o,h.get i=some o->o.live->i≠j->h'.get i=some o:=λi o hi s z=>by
  obtain⟨a,I⟩:=(r.blk _ _ hi).live_blk s;rw[hh];refine Dw (f:=λb=>b) D (bO.2 ⟨cp.2 (r.dom _ _ I),?_⟩) hi s;cases w:aa i j with
  |false=>rfl
  |true=>exact absurd (al w) z
 refine⟨⟨Y,rfl,rfl,u,⟨λi o hi=> ?_,λi W P S p m L hi y J K=> ?_,r.dom,r.fresh,λq w=>r.ob q w.1⟩,⟨(Up.low X b).trans u,λ_ _ h=>h,λ_ _ h=>h,ac _,λi o hi F=> ?_,λq N M _ _ _ _ _ _ h=>⟨N,M,h⟩⟩,λpid m e t=>t.2 m e⟩,hs⟩
 ·obtain⟨B,x,C⟩:=A hi;exact(r.blk i o x).keep u λpid m e t=>⟨rfl,t,λL G=>B (r.inj _ _ _ _ _ _ _ x E C trivial e G)⟩
 ·exact r.inj _ _ _ _ _ _ _ (A hi).2.1 (A y).2.1 J K
 ·have s:o.live:=by cases o<;>first|trivial|cases F
  exact hs i o hi s λe=>by subst e;rw[E]at hi;cases hi;cases F
theorem RH.reput(r:RH X h n){id:Nat}(f:id<1048575){c d:BA}(hc:h.get id=some c)(y:c.live)(q:BR X d (X.π id)):RH X (AG h id d) n:=by
 refine⟨λi e hi=> ?_,λi z b g p m A hi j w x=> ?_,r.dom,r.fresh,r.ob⟩
 ·rw[AI f]at hi;by_cases a:i=id
  ·rw[if_pos a]at hi;cases hi;subst a;exact q
  ·rw[if_neg a]at hi;exact r.blk _ _ hi
 ·have k:∀ {i:Nat} {b:BA},(AG h id d).get i=some b->b.live -> ∃ g,h.get i=some g/\g.live:=fun {i b} hi s=>by
   rw[AI f]at hi;by_cases a:i=id
   ·subst a;exact⟨c,hc,y⟩
   ·rw[if_neg a]at hi;exact⟨b,hi,s⟩
  obtain⟨e1,l,t⟩:=k hi w;obtain⟨e2,o,u⟩:=k j x;exact r.inj _ _ _ _ _ _ _ l o t u
theorem NW{β:Type}{x:β}(r:RH X h n)(E:n<=1048575){v:V}{p:PV}(j:VR X v p){K:V->H->Option β}(e:Qw h n v K=some x) :
  ∃ G h' Y,K G h'=some x/\Y.π=X.π/\Y.h=X.h/\Up X Y/\RH Y h' n/\Ext b bP X h Y h'/\VR Y G p /\ ∀ i cs fz,h.get i=some (.box cs fz false)->h'.get i=some (.box cs fz false):=by
 unfold Qw at e;split at e
 ·rename_i id;split at e
  ·rename_i g c l ex fz d;obtain⟨⟨Y,A,u,w,B,C,D⟩,hs⟩:=r.drop (b:=b) (bP:=bP) E d rfl;refine⟨_,_,Y,e,A,u,w,B,C,?_,λi cs fz hi=>hs i _ hi trivial λe=>by subst e;rw[d]at hi;cases hi⟩;simp only[VR]at j ⊢;cases f:X.π id with
   |none=>rw[f]at j;exact j.elim
   |some a=>
    rw[f]at j;have s:=r.blk _ _ d;rw[f]at s;rcases s with⟨pid,len,es,o,k,t,z,I,J,L,q⟩|⟨k,_,t⟩|⟨es,k,_,_,t⟩
    ·cases k;simp only at j;subst j;refine .inr (.inr ⟨pid,0,len,es,ex,o,rfl,(λh=>by cases h),D _ _ f,by rw[u];exact z,by omega,Ax rfl q,?_⟩);rw[List.drop_zero,List.take_of_length_le (by omega)];exact EDR.mono w q
    ·cases k;simp only at j;exact .inl ⟨j,t⟩
    ·cases k;simp only at j;exact .inr (.inl ⟨true,es,j,(λh=>by cases h),t⟩)
  ·cases e
 ·rename_i id off len;split at e
  ·rename_i g c l ex fz d;replace e:=AJ e;obtain⟨y,e⟩:=e;obtain⟨⟨Y,A,u,w,B,C,D⟩,hs⟩:=r.drop (b:=b) (bP:=bP) E d rfl;refine⟨_,_,Y,e,A,u,w,B,C,?_,λi cs fz hi=>hs i _ hi trivial λe=>by subst e;rw[d]at hi;cases hi⟩;simp only[VR]at j ⊢;obtain⟨pid,m,f,rfl⟩:=j;have s:=r.blk _ _ d;rw[f]at s;rcases s with⟨pid,F,es,o,k,t,z,I,J,L,q⟩|⟨k,_⟩|⟨es,k,_⟩
   ·cases k;refine .inr (.inr ⟨_,off,len,es,ex,o,rfl,(λh=>by cases h),D _ _ f,by rw[u];exact z,?_,Ax rfl q,?_⟩)
    ·rw[<- q.length];simpa[CF,BF,AS]using y
    ·exact J8 (EDR.mono w q) off len
   ·cases k
   ·cases k
  ·cases e
 ·cases e
theorem JH:∀ {l:List PV} {i:Nat} {p:PV},Pi.lget l i=some p->Pi.lset l i p=l
 |[],_,_,e=>by cases e
 |a::l,i,p,e=>by
  unfold Pi.lget at e;unfold Pi.lset;cases b:aa i 0 with
  |true=>rw[b]at e;cases e;rfl
  |false=>rw[b]at e;simp only[cond_false]at e ⊢;rw[JH e]
theorem NU{β:Type}{x:β}(z:n<=1048575):∀ {l:List (Nat×Nat)} {X:Cx} {h:H} {K:H->Option β},RH X h n->Qu n l h K=some x -> ∃ h' Y,K h'=some x/\Y.h=X.h/\Up X Y/\RH Y h' n/\Ext b bP X h Y h'
 |[],X,h,K,r,e=>⟨h,X,e,rfl,Up.refl X,r,Ext.refl _ _ _ _⟩
 |(d,i)::l,X,h,K,r,e=>by
  unfold Qu at e;split at e
  ·rename_i cs fz y;replace e:=AD e;obtain⟨v,O,e⟩:=e;obtain⟨pid,m,ps,I,g,b2,t,b4,D⟩:=r.blk _ _ y;obtain⟨p,N,o⟩:=D.lget O;obtain⟨v',h',Y,e,B,s,y3,C,y5,y6,y7⟩:=NW (b:=b) (bP:=bP) r z o e;have a:=y7 _ _ _ y;have c:d<1048575:=by have:=r.dom _ _ g;omega
   obtain⟨A,m2,S,J,u,E,w,F,G⟩:=C.blk _ _ a;rw[B,g]at u;cases u;rw[s,t]at w;cases w
   have U:RH Y (AG h' d (.box (Pi.lset cs i v') fz false)) n:=C.reput c a trivial (by
    rw[B,g];refine⟨_,_,_,_,rfl,E,by rw[s];exact t,F,?_⟩;have:=G.lset i y6
    rw[JH N]at this;exact this)
   obtain⟨L,Z,e,z1,z2,z3,z4⟩:=NU z (l:=l) U e;refine⟨L,Z,e,by rw[z1,s],y3.trans z2,z3,(y5.trans ?_).trans z4⟩;refine⟨Up.low Y b,λ_ _ h=>h,λ_ _ h=>h,ac _,λk c' j M=> ?_,λq W P _ _ _ _ _ _ h=>⟨W,P,h⟩⟩;rw[AI c];by_cases f:k=d
   ·subst f;rw[a]at j;cases j;cases M
   ·rw[if_neg f];exact j
  ·cases e
end
end
section
variable[Pi.Gl]
open Pi (PV T Hp Blk DF UM PE AN AT AB AX Ao)
theorem Qd{α β γ δ:Type}{f:α->Option (LR δ γ)}{s:α}{k:δ->Option β}{b:γ->Option β}{x:β}(e:jn f s k b=some x):(∃ y,f s=some (.nx y)/\k y=some x) \/ ∃ y,f s=some (.dn y)/\b y=some x:=by
 unfold jn at e;split at e
 ·cases e
 ·rename_i y a;exact .inl ⟨y,a,e⟩
 ·rename_i y a;exact .inr ⟨y,a,e⟩
theorem MS{α β:Type}{f:α->Option (LR α β)}{s:α}{r:β}(e:LF 0 f s=some r):False:=by cases e
section
variable{P:Program}{tab:D8}{ann:Hu}{f:FuncId}{rec:Hv}
def Lz(P:Program)(a:D8)(ann:Hu)(f:FuncId)(rec:Hv)(n:Nat)(c:Code):Prop:=
 ∀ {β:Type} {x:β} {b bP:Nat} {fr:FrA} {h:H} {nx:Nat} {K:KA β},GR P a ann f rec n β b c fr h nx K=some x -> ∀ {X:Cx} {fp:Pi.Fr},RH X h nx->nx<=1048575->FR X fr fp->b<=nx->bP<=X.h.nx->Ru P a b bP c X h nx fp K x
def S8(P:Program)(c:D8)(ann:Hu)(f:FuncId)(rec:Hv)(n:Nat)(keep:List Nat)(pl0 pl1 plx:List Pl)(ex:List (ExK×List (Nat×Nat×Option Code)))(pay:Ty)(b:List Nat)(x:Code)(fr:FrA)(h:H)(nx:Nat)(s:Ar pl0):Option (LR (Ar pl1) (Nat×Ar plx×pay.den)):=
 match Ab (BS fr.t keep) (BQ h DL b) nx pl0 s with
 |(t1,h1,nx1)=>bif !Nat.ble nx1 1048575 then none else GR P c ann f rec n (LR (Ar pl1) (Nat×Ar plx×pay.den)) nx1 x { fr with t:=t1 } h1 nx1 λe a h' _=>
  bif !aa a.ds.length fr.ds.length || !Fl h' (GL h b)then none else match e with
  |.normal=>bif Bb (A1 a.t h' pl1++b)&&Fa h' (Bc h b)then Cb a.t h' pl1 λs'=>some (.nx s')else none
  |e=>bif Bb (A1 a.t h' plx++b)then G0 h' ((Bc h b).map (·.1)) e pay 0 ex λi p=>Cb a.t h' plx λs'=>some (.dn (i,s',p))else none
theorem KZ{n:Nat}{keep:List Nat}{pl0 pl1 plx:List Pl}{ex:List (ExK×List (Nat×Nat×Option Code))}{pay:Ty}{g:List Nat}{c:Code}{fr:FrA}{h:H}{nx bP:Nat}(B:Lz P tab ann f rec n c){X:Cx}(rX:RH X h nx)(hnx:nx<=1048575)(D:fr.nt<1048575)(hup:fr.up=none)(w:∀ i∈g,i<nx)(hids:∀ i∈AW pl0,i<nx)(u:∀ i∈AW pl1,i<nx)(M:∀ i∈AW plx,i<nx)(U:Am fr.nt nx pl1=true)(hslx:Am fr.nt nx plx=true)(hdis:∀ i∈g,i ∉ AW pl0)(hwr:∀ k∈Bz c,k ∉ keep)(S:∀ k∈keep,k<1048575)(hdf:HQ h g=true)(hbP:bP<=X.h.nx)
  {W:Cx} {fp:Pi.Fr} {s:Ar pl0} (I:It P X h nx bP fr g keep pl0 (Bc h g) W fp s) {r:LR (Ar pl1) (Nat×Ar plx×pay.den)} (e:S8 P tab ann f rec n keep pl0 pl1 plx ex pay g c fr h nx s=some r) :
  ∃ Y l m,PX P tab c fp W.h (m,l,Y.h)/\((∃ s',r=.nx s'/\m=.normal/\It P X h nx bP fr g keep pl1 (Bc h g) Y l s') \/
   ∃ j k lp y s',r=.dn (j,s',y)/\ex[j]?=some (k,lp)/\m ≠ .normal/\lp.map (·.1)=(Bc h g).map (·.1)/\It P X h nx bP fr g keep plx lp Y l s' /\ ∀ Z:Cx,Z.h=Y.h->Z.O=Y.O->Lw Z (Jq pay y k) m):=by
 have E:∀ j∈g,j<1048575:=λj A=>by have:=w j A;omega
 unfold S8 at e;generalize hL:Ab (BS fr.t keep) (BQ h DL g) nx pl0 s=L at e;obtain⟨t1,h1,nx1⟩:=L;simp only at e;replace e:=BC e;obtain⟨hb,e⟩:=e;have G:nx1<=1048575:=by simpa using hb
 have J:Ly h g (Bc h g) (BQ h DL g):=λi c hi=>by
  obtain⟨k1,d,k2,rfl,k3⟩:=C8 E hi;refine⟨k1,d,k2,k3,.inr ⟨d,?_,rfl⟩⟩;cases d with
  |lp st pd nt t ps asg body dd=>exact⟨st,pd,Dz k1 k2,rfl⟩
  |_=>rfl
 obtain⟨Z,z1,z2,z3,z4,z5,z6,z7⟩:=I.lay D hup w J (by rw[hL];exact G);rw[hL]at z2 z3 z7;simp only at z2 z3 z7;obtain⟨exx,F,h',nx',Y,m,l,hP',o,q2,q3,q4,q5⟩:=B e z2 G z3 (ac _) (bP:=bP) (by rw[z1];exact ay hbP I.ext.nx);replace o:=BC o;obtain⟨hck,o⟩:=o;simp only[am,az]at hck;obtain⟨c1,c3⟩:=hck
 have hKZ:QJ X h g nx (Bc h g) Z:=λi d hi C x=>by
  obtain⟨hW,nW,src,rW,hK,_⟩:=I.go;obtain⟨k1,k2⟩:=hK i d hi C x;refine⟨by rw[z5 i (w i C)];exact k1,λc' hc'=> ?_⟩
  have hlow:Z.low nx=W.low nx:=by
   unfold Cx.low;rw[z1,z6]
   congr 1
   funext j
   by_cases A:j<nx
   ·simp only[A,if_true];exact z5 j A
   ·simp only[A,if_false]
  rw[hlow,z5 i (w i C)];exact k2 c' hc'
 have h1k:∀ i d,h.get i=some d->i∈g->d.live->h1.get i=some (DL d):=λi d hi C x=>by
  have:=HY (i:=i) (pl:=pl0) (tc:=BS fr.t keep) (hc:=BQ h DL g) (nc:=nx) (s:=s) (w i C) (hdis i C) (by rw[hL];exact G) (λj A=>by have:=hids j A;omega);rw[hL]at this;rw[this];exact Dw E C hi x
 have hXs:∀ i d,h.get i=some d->d.live -> ∃ a,X.π i=some a:=λi d hi x=>(rX.blk i d hi).live_blk x;obtain⟨N,hN⟩:=q2;have kp:Kp (Bz c) fp l:=B6 (by rw[I.nt];exact D) (hN N N N (ac _) (ac _) (ac _))
 have hds:l.ds=fp.ds:=by
  obtain⟨p,hp⟩:=kp.ds;have l1:=q4.ds.length;have l2:=I.ds.length;have l3:=al c1;rw[hp]at l1 ⊢;simp only[bm]at l1;have:p=[]:=List.length_eq_zero_iff.1 (by omega);rw[this];rfl
 have z:Up (W.low nx) (Y.low nx):=by
  have u1:Up (W.low nx) (Z.low nx):=by
   refine⟨λi a hi=> ?_,z4.rows⟩;by_cases hn:i<nx
   ·rw[Cx.low_eq hn]at hi ⊢;rw[z5 i hn];exact hi
   ·rw[Cx.low_ge hn]at hi;cases hi
  exact u1.trans (NG z7 q3.ext)
 have extZ:Ext nx bP W .lf Z .lf:=⟨z4,λj A k=>by rw[z5 j A];exact k,λq _ k=>by rw[z1];exact k,by rw[z1];exact ac _,λ_ _ k=>(by cases k),λq st pe nt t ps asg body d k=>⟨st,pe,by rw[z1];exact k⟩⟩
 have extY:Ext nx bP Z .lf Y .lf:=by
  have:=q3.ext.le (b:=nx) (bP:=bP) z7 (ac _);exact⟨this.up,this.pin,this.hpn,this.nx,λ_ _ k=>(by cases k),this.lps⟩
 have ext2:=(I.ext.trans extZ).trans extY
 have mk:∀ {pl1:List Pl} {lp:List (Nat×Nat×Option Code)},(∀ i∈AW pl1,i<nx)->Am fr.nt nx pl1=true->Bb (A1 F.t h' pl1++g)=true->Fa h' lp=true->lp.map (·.1)=(Bc h g).map (·.1) -> ∀ {γ:Type} {y:γ} {K:Ar pl1->Option γ},Cb F.t h' pl1 K=some y -> ∃ s',K s'=some y/\It P X h nx bP fr g keep pl1 lp Y l s':=by
  intro pl1 lp u U c2 hl hli γ y K hdec;obtain⟨hKY,hlY⟩:=OD hdf w hKZ h1k hXs q3.ext z7 q3.rh c3 hl hli;obtain⟨s',e1,hlay⟩:=G8 (nx0:=nx) q3.rh hnx q4.t q4.big (by rw[<- q4.nt,kp.nt,I.nt];exact U) u hdec;refine⟨s',e1,⟨⟨h',nx',A1 F.t h' pl1,q3.rh,hKY,hlY,CK c2,hlay⟩,OC S (I.t.mono z) (λk C=>kp.t k λhw=>hwr k hw C),?_,by rw[kp.nt];exact I.nt,kp.up I.up,by rw[kp.ro];exact I.ro.mono z,ext2⟩⟩;rw[hds];exact I.ds.mono λ_ _ k=>k.mono z
 have hpx:PX P tab c fp W.h (m,l,Y.h):=by
  refine⟨N,?_⟩;rw[q3.hp,<- z1];exact hN
 cases exx with
 |normal=>
  simp only at o;replace o:=AK o;obtain⟨hl,o⟩:=o;rw[ai]at hl;obtain⟨s',e1,I'⟩:=mk u U hl.1 hl.2 rfl o;cases e1;exact⟨Y,l,m,hpx,.inl ⟨s',rfl,q5,I'⟩⟩
 |_=>
  simp only at o;replace o:=AK o;obtain⟨c2,o⟩:=o;obtain⟨j,k,lp,y,f1,f2,f3,f4,f5⟩:=JA q5 o;obtain⟨s',e1,I'⟩:=mk M hslx c2 f2 f3 f4;cases e1;refine⟨Y,l,m,hpx,.inr ⟨0+j,k,lp,y,s',rfl,by rw[aQ];exact f1,λhh=>(by rw[hh]at q5;simp[Lw]at q5),f3,I',f5⟩⟩
theorem NF{n:Nat}{a:Tm}{u:List Nat}{c:Code}{fr:FrA}{h:H}{nx bP:Nat}(B:Lz P tab ann f rec n c){X:Cx}(rX:RH X h nx)(D:nx<=1048575)(o:fr.nt<1048575)(J:fr.up=none)(C:∀ i∈u,i<nx)(b:∀ i∈AW a.pl,i<nx)(d:∀ i∈AW a.plx,i<nx)(G:Am fr.nt nx a.pl=true)(q:Am fr.nt nx a.plx=true)(p:∀ i∈u,i ∉ AW a.pl)(K:∀ k∈Bz c,k ∉ a.keep)(g:∀ k∈a.keep,k<1048575)(A:HQ h u=true)(z:bP<=X.h.nx) :
  ∀ {m:Nat} {W:Cx} {fp:Pi.Fr} {s:Ar a.pl} {r:Nat×Ar a.plx×a.pay.den},It P X h nx bP fr u a.keep a.pl (Bc h u) W fp s->LF m (S8 P tab ann f rec n a.keep a.pl a.pl a.plx a.ex a.pay u c fr h nx) s=some r ->
   ∃ Y M l j k w y s',PX P tab (.loop c) fp W.h (l,M,Y.h)/\r=(j,s',y)/\a.ex[j]?=some (k,w)/\w.map (·.1)=(Bc h u).map (·.1)/\It P X h nx bP fr u a.keep a.plx w Y M s' /\ ∀ Z:Cx,Z.h=Y.h->Z.O=Y.O->Lw Z (Jq a.pay y k) l
 |0,W,fp,s,r,I,e=>(MS e).elim
 |m+1,W,fp,s,r,I,e=>by
  unfold LF at e;split at e
  ·cases e
  ·rename_i s1 hr;obtain⟨Y,fp1,l,E,hc|⟨j,k,w,y,s',x,_⟩⟩:=KZ B rX D o J C b b d G q p K g A z I hr
   ·obtain⟨s',x,rfl,I'⟩:=hc;cases x;obtain⟨Y2,fp2,L,j,k,w,y,s2,k1,k2,k3,k4,k5,k6⟩:=NF B rX D o J C b d G q p K g A z I' e;refine⟨Y2,fp2,L,j,k,w,y,s2,?_,k2,k3,k4,k5,k6⟩;obtain⟨S,U⟩:=E;obtain⟨N2,a2⟩:=k1;refine⟨max S N2+1,λt F N hm hF hn=> ?_⟩;obtain⟨t,rfl⟩:∃ m',t=m'+1:=⟨t-1,by omega⟩;rw[Pi.exec];simp only[U t F N (by omega) (by omega) (by omega)];exact a2 t F N (by omega) (by omega) (by omega)
   ·cases x
  ·rename_i x1 hr;cases e;obtain⟨Y,fp1,l,E,⟨s',x,_⟩|⟨j,k,w,y,s',x,h2,h3,h4,h5,h6⟩⟩:=KZ B rX D o J C b b d G q p K g A z I hr
   ·cases x
   ·cases x;refine⟨Y,fp1,l,j,k,w,y,s',?_,rfl,h2,h4,h5,h6⟩;obtain⟨S,U⟩:=E;refine⟨S+1,λt F N hm hF hn=> ?_⟩;obtain⟨t,rfl⟩:∃ m',t=m'+1:=⟨t-1,by omega⟩;rw[Pi.exec];simp only[U t F N (by omega) (by omega) (by omega)];cases l with
    |normal=>exact absurd rfl h3
    |_=>rfl
theorem K9{h:H}{n i:Nat}{l:List Nat}{c:BA}(hi:i<n)(d:h.get i=some c)(e:c.locked=true):i∈C0 h n l:=by
 unfold C0;by_cases a:i∈l
 ·exact ak _ a
 ·refine aj _ (bO.2 ⟨cp.2 hi,?_⟩);simp only[d,e,Bool.true_and,bh,aH];intro x f b;exact a (by rw[al b];exact f)
theorem PT{h a:Hp}{k i:Nat}{b:Blk}(e:h.new i b=some a):({ h with nx:=h.nx+k }:Hp).new i b=some { a with nx:=a.nx+k }:=by
 unfold Pi.Hp.new Pi.Hp.set at *;dsimp only at *;split at e
 ·rename_i d;replace e:=AK e;obtain⟨c,e⟩:=e;cases e;rw[c];rfl
 ·cases e
theorem RH.setLp{X:Cx}{h:H}{n id pid m G nt d Z A:Nat}{p k:Option Code}{t:T V}{tP:T PV}{z:List Nat}{c a:Code}(r:RH X h n)(S:n<=1048575)(B:h.get id=some (.lp G p nt t z c a d))(E:X.π id=some (.blk pid m))(f:X.h.get pid=some (.lp G p nt tP z c a Z)){l:Hp}(e:X.h.set pid (.lp A k nt tP z c a Z)=some l)(b bP:Nat) :
  ∃ Y:Cx,Y.π=X.π/\Y.h=l/\Y.O=X.O/\Up X Y/\RH Y (AG h id (.lp A k nt t z c a d)) n/\Ext b bP X h Y (AG h id (.lp A k nt t z c a d)):=by
 have y:id<1048575:=by have:=r.dom _ _ E;omega
 have J:(BA.lp G p nt t z c a d).live:=trivial;obtain⟨s,g2⟩:=Hp.get_set e;have hO:X.O pid:=(E ▸ r.blk _ _ B).own J
 let Y:Cx:={ π:=X.π,h:=l,O:=X.O }
 have u:Up X Y:=⟨λ_ _ h=>h,λq es ex fz g hg=>⟨⟨fz,by
  show l.get q=_
  rw[s,if_neg (by intro hh;subst hh;exact g hO),hg]⟩,g⟩⟩
 refine⟨Y,rfl,rfl,rfl,u,⟨λi I hi=> ?_,λi i' I bb' q m1 m2 hi o l1 l2=> ?_,r.dom,λq g=> ?_,λq g=>by
  show l.get q≠none;rw[s];split
  ·simp
  ·exact r.ob _ g⟩,⟨(Up.low X b).trans u,λ_ _ h=>h,λq g S=> ?_,?_,λj I N P=> ?_,λq G pe nt t z c a d g=> ?_⟩⟩
 ·rw[AI y]at hi;by_cases w:i=id
  ·rw[if_pos w]at hi;cases hi;subst w;have:=r.blk _ _ B;obtain⟨pid',n',tP',dP',W,C,x,h3,h4,h5,h6⟩:=this;rw[E]at C;cases C;rw[f]at h3;cases h3;exact⟨_,_,_,_,_,E,x,by show l.get _=_;rw[s,if_pos rfl],h4.mono u,h5,h6⟩
  ·rw[if_neg w]at hi;by_cases D:I.live
   ·refine(r.blk _ _ hi).keep u λq W g M=>⟨?_,M⟩;show l.get q=_;rw[s,if_neg];intro hh;subst hh;exact w (r.inj _ _ _ _ _ _ _ hi B D J g E)
   ·cases I with
    |dead=>
     intro q W g;obtain⟨k1,U⟩:=r.blk _ _ hi q W g;refine⟨k1,?_⟩;show l.get q=_;rw[s,if_neg (by intro hh;subst hh;rw[f]at U;cases U)];exact U
    |_=>exact absurd trivial D
 ·rw[AI y]at hi o;by_cases C:i=id
  ·by_cases x:i'=id
   ·intro _ _;rw[C,x]
   ·rw[if_neg x]at o;subst C;intro K L;exact r.inj _ _ _ _ _ _ _ B o J l2 K L
  ·rw[if_neg C]at hi;by_cases x:i'=id
   ·subst x;intro K L;exact r.inj _ _ _ _ _ _ _ hi B l1 J K L
   ·rw[if_neg x]at o;exact r.inj _ _ _ _ _ _ _ hi o l1 l2
 ·show l.get q=none;have F:X.h.nx<=q:=by rw[<- g2];exact g
  rw[s,if_neg (by intro hh;subst hh;rw[r.fresh _ F]at f;cases f)];exact r.fresh _ F
 ·show l.get q=none;rw[s,if_neg (by intro hh;subst hh;rw[S]at f;cases f)];exact S
 ·show X.h.nx<=l.nx;rw[g2];exact ac _
 ·rw[AI y];rw[if_neg (by intro hh;subst hh;rw[B]at N;cases N;cases P)];exact N
 ·by_cases hh:q=pid
  ·subst hh;rw[f]at g;cases g;exact⟨_,_,by show l.get _=_;rw[s,if_pos rfl]⟩
  ·exact⟨G,pe,by show l.get _=_;rw[s,if_neg hh];exact g⟩
theorem IK{h:H}{nt d q:Nat}{n:Option Code}{t:T V}{w:List Nat}{c a:Code}{i:Nat}(s:h.get i=some (.lp q n nt t w c a d)):∀ {l:List (Nat×Nat×Option Code)},(∀ p∈l,p.1<1048575)->i∈l.map (·.1) -> ∃ g f,(i,g,f)∈l/\(CS h l).get i=some (.lp g f nt t w c a d)
 |(j,g,f)::l,hl,hm=>by
  have u:=hl (j,g,f) (by simp);unfold CS;by_cases b:i=j
  ·subst b;rw[s];exact⟨g,f,by simp,by simp only;rw[AI u,if_pos rfl]⟩
  ·have k:i∈l.map (·.1):=by
    rcases ae.1 hm with e|hm
    ·exact absurd e b
    ·exact hm
   obtain⟨o,m,x,r⟩:=IK s (λp y=>hl p (by simp[y])) k;refine⟨o,m,by simp[x],?_⟩;split
   ·rw[AI u,if_neg b];exact r
   ·exact r
theorem EJ{h:H}:∀ {l:List Nat} {i f:Nat} {c:Option Code},(i,f,c)∈Bc h l->i∈l /\ ∃ nt t k b a d,h.get i=some (.lp f c nt t k b a d)
 |j::l,i,f,c,hm=>by
  unfold Bc at hm;split at hm
  ·rename_i g;rcases ae.1 hm with e|hm
   ·cases e;exact⟨by simp,_,_,_,_,_,_,g⟩
   ·have:=EJ hm;exact⟨by simp[this.1],this.2⟩
  ·have:=EJ hm;exact⟨by simp[this.1],this.2⟩
theorem NV{n b bP:Nat}{β:Type}{x:β}(o:n<=1048575):∀ {l:List Nat} {X:Cx} {h:H} {fr:FrA} {fp:Pi.Fr} {K:FrA->H->Option β},RH X h n->FR X fr fp->Qv n l fr h K=some x -> ∃ f h' Y,K f h'=some x/\Y.h=X.h/\Up X Y/\RH Y h' n/\FR Y f fp/\Ext b bP X h Y h'
 |[],X,h,fr,fp,K,r,F,e=>⟨fr,h,X,e,rfl,Up.refl X,r,F,Ext.refl _ _ _ _⟩
 |k::l,X,h,fr,fp,K,r,F,e=>by
  unfold Qv at e;replace e:=AK e;obtain⟨z,e⟩:=e;have A:k<1048575:=by simpa using z
  replace e:=AD e;obtain⟨v,C,e⟩:=e;obtain⟨p,B,j⟩:=F.t _ _ C;obtain⟨m,h',Y,e,P,D,q,E,G,I,S⟩:=NW (b:=b) (bP:=bP) r o j e;have d:=F.mono q
  have s:FR Y { fr with t:=T.put 20 fr.t k m } fp:=⟨λi w hi=>by
   have y:(2:Nat) ^ 20-1=1048575:=by decide
   have a:(T.put 20 fr.t k m).get i=some w:=hi;rw[T.get_put 20 fr.t k m i (by omega)]at a;by_cases c:i=k
   ·rw[if_pos c]at a;cases a;rw[c];exact⟨p,B,I⟩
   ·rw[if_neg c]at a;exact d.t i w a,d.nt,d.big,d.ds,d.up,d.ro⟩
  obtain⟨g,u,Z,e,J,L,M,N,O⟩:=NV o (l:=l) E s e;exact⟨g,u,Z,e,by rw[J,D],q.trans L,M,N,G.trans O⟩
theorem CG{t:T V}{h:H}:∀ {l:List Pl} {i:Nat},i∈AW l->i∈A1 t h l
 |[],_,hm=>by cases hm
 |p::l,i,hm=>by
  cases p with
  |slot k g c=>exact CG (l:=l) (by simpa[AW]using hm)
  |cn k c=>exact CG (l:=l) (by simpa[AW]using hm)
  |srow k g c ex=>
   have:=CG (t:=t) (h:=h) (l:=l) (i:=i) (by simpa[AW]using hm);simp only[A1];exact aj _ this
  |swin k g c=>
   have:=CG (t:=t) (h:=h) (l:=l) (i:=i) (by simpa[AW]using hm);simp only[A1];exact aj _ this
  |box id sg=>
   simp only[AW,ae]at hm;simp only[A1];refine aj _ ?_;rcases hm with rfl|hm
   ·simp
   ·exact aw _ (CG hm)
  |map id k g c=>
   simp only[AW,ae]at hm;simp only[A1];rcases hm with rfl|hm
   ·simp
   ·exact aw _ (CG hm)
theorem It.entry{X:Cx}{h:H}{nx bP:Nat}{fr:FrA}{fp:Pi.Fr}{m keep:List Nat}{pl:List Pl}(r:RH X h nx)(w:nx<=1048575)(F:FR X fr fp)(z:fr.up=none)(E:∀ i∈m,i<nx)(x:Am fr.nt nx pl=true)(g:∀ i∈AW pl,i<nx)(u:(A1 fr.t h pl++m).Nodup)(a:∀ k∈keep,k<1048575){γ:Type}{y:γ}{K:Ar pl->Option γ}(e:Cb fr.t h pl K=some y) :
  ∃ s,K s=some y/\It P X h nx bP fr m keep pl (Bc h m) X fp s:=by
 have n:=Up.toLow r (ac _);obtain⟨s,e1,j⟩:=G8 (nx0:=nx) r w F.t F.big x g e;refine⟨s,e1,⟨⟨h,nx,A1 fr.t h pl,r,λi c hi p l=>⟨rfl,λC f=> ?_⟩,λi c hi p l=>⟨c,hi,l⟩,u,j⟩,λk v p=> ?_,F.ds.mono λ_ _ k=>k.mono n,F.nt,by have:=F.up;rw[z]at this;exact this,F.ro.mono n,?_⟩⟩
 ·have:C=c:=by
   cases c with
   |lp B N nt t L o b d=>
    obtain⟨M,I,G,rfl⟩:=f;obtain⟨_,_,_,_,_,_,_,A⟩:=EJ G;rw[hi]at A;cases A;rfl
   |_=>exact f
  subst this;exact(r.blk _ _ hi).keep n λ_ _ _ D=>⟨rfl,D⟩
 ·exact F.t.mono n k v (G7 a p).2
 ·exact⟨Up.low X nx,λ_ _ h=>h,λ_ _ h=>h,ac _,λ_ _ k=>(by cases k),λq B J nt t L o b d k=>⟨B,J,k⟩⟩
theorem LX{β:Type}{y:β}{p:Sgm}{x:p.den}{K:(d:Sgm)->d.den->Option β}(e:NP p x K=some y):∃ d f,K d f=some y/\(∀ hc nc,Ay hc nc [d] f=Ay hc nc [p] x) /\ ∀ q r s hc nc,Ay hc nc (d::q::r) (f,s)=Ay hc nc (p::q::r) (x,s):=by
 cases p with
 |er t n l k=>
  simp only[NP]at e;have g:OY x.1 0=true<->x.1=0:=by unfold OY;simp
  have j:OY x.1 1=true<->x.1=1:=by unfold OY;simp
  rcases BN e with⟨h,e⟩|⟨h,e⟩
  ·have a:=g.1 h;exact⟨.cn .i,(),e,λhc nc=>by simp[Ay,QF,Cv.v,a],λq r s hc nc=>by simp[Ay,QF,Cv.v,a]⟩
  ·have b:¬ x.1=0:=λa=>by rw[g.2 a]at h;cases h
   rcases BN e with⟨h,e⟩|⟨h,e⟩
   ·have a:=j.1 h;exact⟨.ek t n,(),e,λhc nc=>by simp[Ay,QF,a],λq r s hc nc=>by simp[Ay,QF,a]⟩
   ·have c:¬ x.1=1:=λa=>by rw[j.2 a]at h;cases h
    exact⟨.ef l k,x.2,e,λhc nc=>by simp[Ay,QF,b,c],λq r s hc nc=>by simp[Ay,QF,b,c]⟩
 |_=>exact⟨_,x,e,λ_ _=>rfl,λ_ _ _ _ _=>rfl⟩
theorem PG{p q a:Sgm}{r b:List Sgm}{x:p.den}{y:DN (a::b)}{z:DN (q::r)}(h:∀ hc nc,Ay hc nc (a::b) y=Ay hc nc (q::r) z)(hc:H)(nc:Nat):Ay hc nc (p::a::b) (x,y)=Ay hc nc (p::q::r) (x,z):=by
 cases p<;>simp only[Ay,h]
theorem JM{β:Type}{y:β}:∀ {l:List Sgm} {x:DN l} {K:(l':List Sgm)->DN l'->Option β},MY l x K=some y -> ∃ l' a,K l' a=some y/\(l'=[]<->l=[]) /\ ∀ hc nc,Ay hc nc l' a=Ay hc nc l x
 |[],x,K,e=>⟨[],x,e,Iff.rfl,λ_ _=>rfl⟩
 |[p],x,K,e=>by
  obtain⟨b,a,e1,g,_⟩:=LX e;exact⟨[b],a,e1,by simp,g⟩
 |p::q::r,x,K,e=>by
  obtain⟨b,a,e1,_,h⟩:=LX e;obtain⟨l',f,e2,i,j⟩:=JM (l:=q::r) e1;cases l' with
  |nil=>exact absurd (i.1 rfl) (by simp)
  |cons c d=>exact⟨b::c::d,(a,f),e2,by simp,λhc nc=>(h c d f hc nc).trans (PG (z:=x.2) j hc nc)⟩
theorem LY{β:Type}{y:β}{p:Pl}{x:p.den}{K:(a:Pl)->a.den->Option β}(e:Pe p x K=some y):∃ a b,K a b=some y /\ ∀ t hc nc,Bi t hc nc a b=Bi t hc nc p x:=by
 cases p with
 |box id sg=>
  obtain⟨l',b,e1,_,h⟩:=JM e;exact⟨.box id l',b,e1,λt hc nc=>by simp only[Bi,h]⟩
 |_=>exact⟨_,x,e,λ_ _ _=>rfl⟩
theorem JL{β:Type}{y:β}:∀ {l:List Pl} {x:Ar l} {K:(l':List Pl)->Ar l'->Option β},MX l x K=some y -> ∃ l' a,K l' a=some y/\(l'=[]<->l=[]) /\ ∀ t hc nc,Ab t hc nc l' a=Ab t hc nc l x
 |[],x,K,e=>⟨[],x,e,Iff.rfl,λ_ _ _=>rfl⟩
 |[p],x,K,e=>by
  obtain⟨b,a,e1,c⟩:=LY e;exact⟨[b],a,e1,by simp,c⟩
 |p::q::r,x,K,e=>by
  obtain⟨b,a,e1,d⟩:=LY e;obtain⟨l',j,e2,f,g⟩:=JL (l:=q::r) e1;cases l' with
  |nil=>exact absurd (f.1 rfl) (by simp)
  |cons h i=>exact⟨b::h::i,(a,j),e2,by simp,λt hc nc=>by simp only[Ab,d,g]⟩
theorem Pg{β:Type}{y:β}{l:List Pl}{x:Ar l}{K:(l':List Pl)->Ar l'->Option β}(e:Pf l x K=some y):∃ l' a,K l' a=some y /\ ∀ t hc nc,Ab t hc nc l' a=Ab t hc nc l x:=by
 unfold Pf at e;replace e:=BU e;rcases e with⟨_,e⟩|⟨_,e⟩
 ·obtain⟨l',a,b,_,c⟩:=JL e;exact⟨l',a,b,c⟩
 ·exact⟨l,x,e,λ_ _ _=>rfl⟩
theorem IJ{keep a:List Nat}{pl:List Pl}{fr:FrA}{h:H}{nx b bP:Nat}{X:Cx}(r:RH X h nx)(hn:nx<=1048575)(M:fr.nt<1048575)(hup:fr.up=none)(hkb:∀ i∈C0 h nx a,i<nx)(U:∀ i∈AW pl,i<nx)(N:∀ i∈C0 h nx a,i ∉ AW pl)(hb:b<=nx)
  {lp:List (Nat×Nat×Option Code)} (y:lp.map (·.1)=(Bc h (C0 h nx a)).map (·.1)) {Y:Cx} {K:Pi.Fr} {s':Ar pl} (I':It P X h nx bP fr (C0 h nx a) keep pl lp Y K s') {β:Type} {x:β} {k:T V->H->Nat->Option β}
  (e1:(match Ab (BS fr.t keep) (CS (BQ h (λb=>b) (C0 h nx a)) lp) nx pl s' with
   |(I,w,m)=>bif !Nat.ble m 1048575 then none else k I w m)=some x) :
  ∃ I w m Z,k I w m=some x/\Z.h=Y.h/\Z.O=Y.O/\FR Z { fr with t:=I } K/\Run b bP X h nx Z w m Z.h:=by
 generalize hL:Ab (BS fr.t keep) (CS (BQ h (λb=>b) (C0 h nx a)) lp) nx pl s'=L at e1;obtain⟨I,w,m⟩:=L;simp only at e1;replace e1:=BC e1;obtain⟨hb1,e1⟩:=e1;have A:m<=1048575:=by simpa using hb1
 have e:∀ j∈C0 h nx a,j<1048575:=λj W=>by have:=hkb j W;omega
 have o:∀ p∈lp,p.1∈C0 h nx a:=λp E=>by
  have:p.1∈lp.map (·.1):=bo.2 ⟨p,E,rfl⟩;rw[y]at this;obtain⟨⟨i,F,pd⟩,w,G⟩:=bo.1 this;simp only at G;rw[<- G];exact(EJ w).1
 have B:Ly h (C0 h nx a) lp (CS (BQ h (λb=>b) (C0 h nx a)) lp):=λi c hi=>by
  rcases Fy (h:=BQ h (λb=>b) (C0 h nx a)) (l:=lp) (i:=i) (λp E=>e _ (o p E))with u|⟨F,pd,nt,t,ps,z,n,d,st0,pd0,hm,u,hs⟩
  ·rw[u]at hi;obtain⟨k1,d,k2,C,k3⟩:=C8 e hi;have C:d=c:=C.symm;subst C;refine⟨k1,_,k2,k3,.inl ?_⟩;cases d with
   |lp F pd nt t ps z n d=>
    have h0:=Dw (f:=λb=>b) e k1 k2 k3
    have hm:i∈lp.map (·.1):=by
     rw[y];exact bo.2 ⟨_,Dz k1 k2,rfl⟩
    obtain⟨st',pd',m1,m2⟩:=IK h0 (λp E=>e _ (o p E)) hm;rw[u,h0]at m2;cases m2;exact⟨F,pd,m1,rfl⟩
   |_=>rfl
  ·rw[hs]at hi;cases hi;obtain⟨k1,d',k2,k3,k4⟩:=C8 e u;subst k3;exact⟨k1,_,k2,k4,.inl ⟨F,pd,hm,rfl⟩⟩
 obtain⟨Z,z1,z2,z3,z4,z5,z6,z7⟩:=I'.lay M hup hkb B (by rw[hL];exact A);rw[hL]at z2 z3 z7;simp only at z2 z3 z7;refine⟨I,w,m,Z,e1,z1,z6,z3,⟨rfl,z2,A,z7,?_⟩⟩;have J:Ext nx bP Y .lf Z .lf:=⟨z4,λj W k=>by rw[z5 j W];exact k,λq _ k=>by rw[z1];exact k,by rw[z1];exact ac _,λ_ _ k=>(by cases k),λq F pe nt t ps z n d k=>⟨F,pe,by rw[z1];exact k⟩⟩;have g:=(I'.ext.trans J).le hb (ac bP);refine⟨g.up,g.pin,g.hpn,g.nx,λi c hi D=> ?_,g.lps⟩;have hlv:c.live:=by cases c<;>first|trivial|cases D
 obtain⟨at',hat⟩:=(r.blk _ _ hi).live_blk hlv;have S:=r.dom _ _ hat;have hk:=K9 (l:=a) S hi D;have G:=HY (i:=i) (pl:=pl) (tc:=BS fr.t keep) (hc:=CS (BQ h (λb=>b) (C0 h nx a)) lp) (nc:=nx) (s:=s') S (N i hk) (by rw[hL];exact A) (λj W=>by have:=U j W;omega);rw[hL]at G;simp only at G;rw[G];have h3:=Dw (f:=λb=>b) e hk hi hlv;rcases Fy (h:=BQ h (λb=>b) (C0 h nx a)) (l:=lp) (i:=i) (λp E=>e _ (o p E))with u|⟨F,pd,nt,t,ps,z,n,d,st0,pd0,hm,u,hs⟩
 ·rw[u];exact h3
 ·rw[h3]at u;cases u;cases D
theorem MI(R:RecAOK P tab rec)(T:TabOK P tab)(D:DrawnAOK P tab):∀ (n:Nat) (c:Code),Lz P tab ann f rec n c:=by
 intro n
 induction n with
 |zero=>
  intro c β x b bP fr h nx K e;cases e
 |succ n ih=>
  intro c β x b bP fr h nx K e X fp r hn F hb M
  have fin:∀ {ex:ExA} {q:Pi.Ex},K ex fr h nx=some x->Lw X ex q->(∀ m z A,Pi.exec P (Ad tab) (Pi.B3 P (Ad tab) z A) (m+1) c fp X.h=some (q,fp,X.h))->Ru P tab b bP c X h nx fp K x:=λe hx hp=>
   ⟨_,fr,h,nx,X,_,fp,X.h,e,⟨1,λm z A hm _ _=>by obtain⟨m,rfl⟩:∃ m',m=m'+1:=⟨m-1,by omega⟩;exact hp m z A⟩,⟨rfl,r,hn,ac _,Ext.refl _ _ _ _⟩,F,hx⟩
  cases c with
  |skip=>exact fin e rfl λ_ _ _=>rfl
  |label l=>exact fin e rfl λ_ _ _=>rfl
  |exit i=>exact fin e rfl λ_ _ _=>rfl
  |goto i=>exact fin e rfl λ_ _ _=>rfl
  |ret=>exact fin e rfl λ_ _ _=>rfl
  |refuse w=>cases e
  |seq a d=>
   simp only[GR]at e;split at e
   ·rename_i C htm;replace e:=BC e;obtain⟨hck,e⟩:=e;simp only[am,az]at hck;obtain⟨⟨⟨⟨⟨⟨⟨⟨c1,c2⟩,c2'⟩,c3⟩,c4⟩,c5⟩,c6⟩,c7⟩,c8⟩:=hck
    have hup:fr.up=none:=by
     cases hu:fr.up with
     |none=>rfl
     |some u=>rw[hu]at c1;cases c1
    have hall:∀ i∈C0 h nx C.kb++(AW C.pl0++AW C.pl1),i<nx:=λi hi=>by
     have:=bj.1 c6 i hi;simpa using this
    have hkb:∀ i∈C0 h nx C.kb,i<nx:=λi hi=>hall i (ak _ hi);have hids:∀ i∈AW C.pl0,i<nx:=λi hi=>hall i (aj _ (ak _ hi));have hids1:∀ i∈AW C.pl1,i<nx:=λi hi=>hall i (aj _ (aj _ hi));have hnd:=CK c5;have hdis:∀ i∈C0 h nx C.kb,i ∉ AW C.pl0:=λi hi hm=>(cc.1 hnd).2.2 i (CG hm) i hi rfl
    have hdis1:∀ i∈C0 h nx C.kb,i ∉ AW C.pl1:=λi hi hm=>by
     have:=aH.1 c8 i hi;simp only[bK,aH]at this;have:=this i (aj _ hm);simp at this
    have hkeep:∀ k∈C.keep,k<1048575:=λk hk=>by
     have:=bj.1 c3 k hk;simpa using this
    have hwr:∀ k∈Bz a,k ∉ C.keep:=λk hk hm=>by
     have:=aH.1 c4 k hk;simp only[bK,aH]at this;have:=this k hm;simp at this
    obtain⟨s0,e,I⟩:=It.entry (P:=P) (bP:=bP) r hn F hup hkb c2 hids hnd hkeep e;replace e:=Qd e;rcases e with⟨s1,hr,e⟩|⟨⟨j,s',y⟩,hr,e⟩
    ·obtain⟨Y,fp',q,hpx,hc|⟨j,k,lp,y,s',E,_⟩⟩:=KZ (keep:=C.keep) (pl0:=C.pl0) (pl1:=C.pl1) (plx:=C.pl1) (ex:=C.ex) (pay:=C.pay) (ih a) r hn F.big hup hkb hids hids1 hids1 c2' c2' hdis hwr hkeep c7 M I hr
     ·obtain⟨s',E,rfl,I'⟩:=hc;cases E;obtain⟨t1,E,S,Z,e2,z1,z6,z3,B⟩:=IJ (b:=b) (k:=λt h n'=>GR P tab ann f rec n β b d { fr with t:=t } h n' K) r hn F.big hup hkb hids1 hdis1 hb rfl I' e
      obtain⟨N1,hN⟩:=hpx;obtain⟨ex2,fr2,h2,nx2,Y2,U,fp2,L,p1,⟨N2,p2⟩,p3,p4,p5⟩:=ih d e2 B.rh B.big z3 (ay hb B.le) (ay M B.ext.nx);refine⟨ex2,fr2,h2,nx2,Y2,U,fp2,L,p1,⟨max N1 N2+1,λm z A hm hF hnn=> ?_⟩,⟨p3.hp,p3.rh,p3.big,ay B.le p3.le,B.ext.trans p3.ext⟩,p4,p5⟩;obtain⟨m,rfl⟩:∃ m',m=m'+1:=⟨m-1,by omega⟩;rw[Pi.exec];simp only[hN m z A (by omega) (by omega) (by omega)];rw[<- z1];exact p2 m z A (by omega) (by omega) (by omega)
     ·cases E
    ·obtain⟨Y,fp',q,hpx,⟨s1,E,_⟩|⟨j',k,lp,y',s'',E,hex,h3,hlpi,I',hends⟩⟩:=KZ (keep:=C.keep) (pl0:=C.pl0) (pl1:=C.pl1) (plx:=C.pl1) (ex:=C.ex) (pay:=C.pay) (ih a) r hn F.big hup hkb hids hids1 hids1 c2' c2' hdis hwr hkeep c7 M I hr
     ·cases E
     ·cases E;have e1:=IX (i:=0) (j:=j) hex (by rw[aQ];exact e);obtain⟨t1,E,S,Z,e2,z1,z6,z3,B⟩:=IJ (b:=b) (k:=λt h n'=>K (Jq C.pay y k) { fr with t:=t } h n') r hn F.big hup hkb hids1 hdis1 hb hlpi I' e1
      obtain⟨N,hN⟩:=hpx;refine⟨_,_,E,S,Z,q,fp',Z.h,e2,⟨N+1,λm z A hm hF hnn=> ?_⟩,B,z3,hends Z z1 z6⟩;obtain⟨m,rfl⟩:∃ m',m=m'+1:=⟨m-1,by omega⟩;rw[Pi.exec];simp only[hN m z A (by omega) (by omega) (by omega)];rw[z1];cases q with
      |normal=>exact absurd rfl h3
      |_=>rfl
   ·obtain⟨ex,fr1,E,S,Y,q,fp1,W,G,⟨N1,q2⟩,J,q4,q5⟩:=ih a e r hn F hb M;cases ex with
    |normal=>
     simp only at G;have hexP:q=.normal:=q5;subst hexP;have hYP:Y.h=W:=J.hp;obtain⟨ex2,fr2,h2,nx2,Y2,U,fp2,L,p1,⟨N2,p2⟩,p3,p4,p5⟩:=ih d G J.rh J.big q4 (ay hb J.le) (ay M J.ext.nx);refine⟨ex2,fr2,h2,nx2,Y2,U,fp2,L,p1,⟨max N1 N2+1,λm z A hm hF hnn=> ?_⟩,⟨p3.hp,p3.rh,p3.big,ay J.le p3.le,J.ext.trans p3.ext⟩,p4,p5⟩;obtain⟨m,rfl⟩:∃ m',m=m'+1:=⟨m-1,by omega⟩;rw[Pi.exec];simp only[q2 m z A (by omega) (by omega) (by omega)];rw[<- hYP];exact p2 m z A (by omega) (by omega) (by omega)
    |_=>
     simp only at G;refine⟨_,fr1,E,S,Y,q,fp1,W,G,⟨N1+1,λm z A hm hF hnn=> ?_⟩,J,q4,q5⟩;obtain⟨m,rfl⟩:∃ m',m=m'+1:=⟨m-1,by omega⟩;rw[Pi.exec];simp only[q2 m z A (by omega) (by omega) (by omega)];cases q with
     |normal=>simp[Lw]at q5
     |_=>rfl
  |cond o a d=>
   simp only[GR]at e;replace e:=AM F.t e;obtain⟨v,p,e,E,h2⟩:=e;split at e
   ·simp only[VR]at h2;subst h2;replace e:=BN e;rcases e with⟨hc,e⟩|⟨hc,e⟩
    ·subst hc;obtain⟨ex2,fr2,h2,nx2,Y2,U,fp2,L,p1,⟨N2,p2⟩,p3,p4,p5⟩:=ih a e r hn F hb M;refine⟨ex2,fr2,h2,nx2,Y2,U,fp2,L,p1,⟨N2+1,λm z A hm hF hnn=> ?_⟩,p3,p4,p5⟩;obtain⟨m,rfl⟩:∃ m',m=m'+1:=⟨m-1,by omega⟩;rw[Pi.exec];simp only[E];exact p2 m z A (by omega) (by omega) (by omega)
    ·subst hc;obtain⟨ex2,fr2,h2,nx2,Y2,U,fp2,L,p1,⟨N2,p2⟩,p3,p4,p5⟩:=ih d e r hn F hb M;refine⟨ex2,fr2,h2,nx2,Y2,U,fp2,L,p1,⟨N2+1,λm z A hm hF hnn=> ?_⟩,p3,p4,p5⟩;obtain⟨m,rfl⟩:∃ m',m=m'+1:=⟨m-1,by omega⟩;rw[Pi.exec];simp only[E];exact p2 m z A (by omega) (by omega) (by omega)
   ·cases e
  |block id a=>
   simp only[GR]at e;obtain⟨ex,fr1,E,S,Y,q,fp1,W,G,⟨N1,q2⟩,J,q4,q5⟩:=ih a e r hn F hb M
   have go:∀ {ex':ExA} {exP':Pi.Ex},K ex' fr1 E S=some x->Lw Y ex' exP'->(∀ m z A,N1<=m->N1<=z->N1<=A->Pi.exec P (Ad tab) (Pi.B3 P (Ad tab) z A) (m+1) (.block id a) fp X.h=some (exP',fp1,W))->Ru P tab b bP (.block id a) X h nx fp K x:=λe1 e2 e3=>
    ⟨_,fr1,E,S,Y,_,fp1,W,e1,⟨N1+1,λm z A hm hF hnn=>by obtain⟨m,rfl⟩:∃ m',m=m'+1:=⟨m-1,by omega⟩;exact e3 m z A (by omega) (by omega) (by omega)⟩,J,q4,e2⟩
   cases ex with
   |exit j=>
    have hexP:q=.exit j:=q5;subst hexP;simp only at G;replace G:=BU G;rcases G with⟨hj,G⟩|⟨hj,G⟩
    ·exact go G (exP':=.normal) rfl λm z A E h2 h3=>by rw[Pi.exec];simp only[q2 m z A E h2 h3,hj,cond_true]
    ·exact go G (exP':=.exit j) rfl λm z A E h2 h3=>by rw[Pi.exec];simp only[q2 m z A E h2 h3,hj,cond_false]
   |_=>
    simp only at G;refine go G q5 λm z A E h2 h3=> ?_;rw[Pi.exec];simp only[q2 m z A E h2 h3];cases q with
    |exit=>simp[Lw]at q5
    |_=>rfl
  |scope a=>
   simp only[GR]at e;obtain⟨ex,fr1,E,S,Y,q,fp1,W,G,⟨N1,q2⟩,J,q4,q5⟩:=ih a e r hn F hb M;cases ex with
   |goto j=>cases G
   |_=>
    simp only at G;refine⟨_,fr1,E,S,Y,q,fp1,W,G,⟨N1+1,λm z A hm hF hnn=> ?_⟩,J,q4,q5⟩;obtain⟨m,rfl⟩:∃ m',m=m'+1:=⟨m-1,by omega⟩;rw[Pi.exec];simp only[q2 m z A (by omega) (by omega) (by omega)];cases q with
    |goto=>simp[Lw]at q5
    |_=>rfl
  |region id ops draw=>
   simp only[GR]at e;replace e:=BC e;obtain⟨hck,e⟩:=e;simp only[am,az]at hck;have hsz:nx+ops.size<=1048575:=aq hck.1
   have hdst:∀ o∈ops.toList,∀ d,o.dst=some d->d<fr.nt:=λo ho d hd=>by
    have:=bj.1 hck.2 o ho;rw[hd]at this;simpa using this
   have hlen:ops.toList.length=ops.size:=Array.length_toList;replace e:=BU e;rcases e with⟨hd,e⟩|⟨hd,e⟩
   ·replace e:=AK e;obtain⟨hfo,e⟩:=e;obtain⟨fr1,E,Y,fp1,W,G,⟨N,q2⟩,J,q4⟩:=D.go e r (by rw[hlen];exact hsz) F hdst;rw[hlen]at q2 J;refine⟨.normal,fr1,E,nx+ops.size,Y,.normal,fp1,W,G,⟨N+1,λm z A hm hF hnn=> ?_⟩,J b bP hb M,q4,rfl⟩;obtain⟨m,rfl⟩:∃ m',m=m'+1:=⟨m-1,by omega⟩;rw[Pi.exec];simp only[hd,hfo,cond_true];have:=q2 z A (by omega) (by omega);rw[show({ X.h with nx:=X.h.nx+ops.size }:Hp)=(X.bump ops.size).h from rfl,this]
   ·obtain⟨ex,fr1,E,S,Y,q,fp1,W,G,⟨N,q2⟩,J,q4,q5⟩:=Mf R T (base:=nx) (baseP:=X.h.nx) (b:=b) (bP:=bP) hb M (all:=ops.toList) (ops:=ops.toList) (i:=0) (X:=X.bump ops.size) e (r.bump _) hsz (F.mono (GE X _)) hdst
     (λj _ _=>⟨by
      cases hp:X.π (nx+j)with
      |none=>exact hp
      |some a=>have:=r.dom _ _ hp;omega,by rw[Kr];exact r.fresh _ (by omega)⟩) (by omega) (by show X.h.nx+0+_<=X.h.nx+ops.size;omega)
    refine⟨ex,fr1,E,S,Y,q,fp1,W,G,⟨N+1,λm z A hm hF hnn=> ?_⟩,⟨J.hp,J.rh,J.big,ay (cg _ _) J.le,(GD X h ops.size b bP).trans J.ext⟩,q4,q5⟩;obtain⟨m,rfl⟩:∃ m',m=m'+1:=⟨m-1,by omega⟩;rw[Pi.exec];simp only[hd,cond_false];exact q2 z A (by omega) (by omega)
  |loop a=>
   simp only[GR]at e;split at e
   ·rename_i C htm;obtain⟨hA,XA,e,hXA,uA,rA,extA⟩:=NU (b:=b) (bP:=bP) hn r e;obtain⟨fr,h0,X0,e,hXB,uB,r0,F0,extB⟩:=NV (b:=b) (bP:=bP) hn rA (F.mono uA) e;have hX0:X0.h=X.h:=hXB.trans hXA;have ext0:Ext b bP X h X0 h0:=extA.trans extB
    have conv:Ru P tab b bP (.loop a) X0 h0 nx fp K x->Ru P tab b bP (.loop a) X h nx fp K x:=λ⟨ex,fr',h',nx',Y,q,fp',hP',G,q2,J,q4,q5⟩=>
     ⟨ex,fr',h',nx',Y,q,fp',hP',G,by rw[<- hX0];exact q2,⟨J.hp,J.rh,J.big,J.le,ext0.trans J.ext⟩,q4,q5⟩
    refine conv ?_
    have hbP0:bP<=X0.h.nx:=by rw[hX0];exact M
    replace e:=BC e;obtain⟨hck,e⟩:=e;simp only[am,az]at hck;obtain⟨⟨⟨⟨⟨⟨⟨⟨c1,c2⟩,c2'⟩,c3⟩,c4⟩,c5⟩,c6⟩,c7⟩,c8⟩:=hck
    have hup:fr.up=none:=by
     cases hu:fr.up with
     |none=>rfl
     |some u=>rw[hu]at c1;cases c1
    have hall:∀ i∈C0 h0 nx C.kb++(AW C.pl++AW C.plx),i<nx:=λi hi=>by
     have:=bj.1 c6 i hi;simpa using this
    have hkb:∀ i∈C0 h0 nx C.kb,i<nx:=λi hi=>hall i (ak _ hi);have hids:∀ i∈AW C.pl,i<nx:=λi hi=>hall i (aj _ (ak _ hi));have hidsx:∀ i∈AW C.plx,i<nx:=λi hi=>hall i (aj _ (aj _ hi));have hnd:=CK c5;have hdis:∀ i∈C0 h0 nx C.kb,i ∉ AW C.pl:=λi hi hm=>(cc.1 hnd).2.2 i (CG hm) i hi rfl
    have hdisx:∀ i∈C0 h0 nx C.kb,i ∉ AW C.plx:=λi hi hm=>by
     have:=aH.1 c8 i hi;simp only[bK,aH]at this;have:=this i hm;simp at this
    have hkeep:∀ k∈C.keep,k<1048575:=λk hk=>by
     have:=bj.1 c3 k hk;simpa using this
    have hwr:∀ k∈Bz a,k ∉ C.keep:=λk hk hm=>by
     have:=aH.1 c4 k hk;simp only[bK,aH]at this;have:=this k hm;simp at this
    obtain⟨s0,e,I⟩:=It.entry (P:=P) (bP:=bP) r0 hn F0 hup hkb c2 hids hnd hkeep e;replace e:=E5 e;obtain⟨⟨j,s',y⟩,hloop,e⟩:=e;obtain⟨Y,fp',q,j',k,lp,y',s'',hpx,hr,hex,hlpi,I',hends⟩:=NF (f:=f) (ann:=ann) (ih a) r0 hn F0.big hup hkb hids hidsx c2 c2' hdis hwr hkeep c7 hbP0 I (m:=18446744073709551616) hloop;cases hr;have e1:=IX (i:=0) (j:=j) hex (by rw[aQ];exact e);obtain⟨lx,sx,e1,hlx⟩:=Pg e1;simp only[hlx]at e1;obtain⟨t1,E,S,Z,e2,z1,z6,z3,B⟩:=IJ (b:=b) (k:=λt h n'=>K (Jq C.pay y k) { fr with t:=t } h n') r0 hn F0.big hup hkb hidsx hdisx hb hlpi I' e1
    obtain⟨N,hN⟩:=hpx;exact⟨_,_,E,S,Z,q,fp',Z.h,e2,⟨N,by rw[z1];exact hN⟩,B,z3,hends Z z1 z6⟩
   ·obtain⟨ex,fr1,E,S,Y,q,fp1,W,G,⟨N1,q2⟩,J,q4,q5⟩:=ih a e r hn F hb M;cases ex with
    |normal=>
     simp only at G;have hexP:q=.normal:=q5;subst hexP;have hYP:Y.h=W:=J.hp;obtain⟨ex2,fr2,h2,nx2,Y2,U,fp2,L,p1,⟨N2,p2⟩,p3,p4,p5⟩:=ih (.loop a) G J.rh J.big q4 (ay hb J.le) (ay M J.ext.nx);refine⟨ex2,fr2,h2,nx2,Y2,U,fp2,L,p1,⟨max N1 N2+1,λm z A hm hF hnn=> ?_⟩,⟨p3.hp,p3.rh,p3.big,ay J.le p3.le,J.ext.trans p3.ext⟩,p4,p5⟩;obtain⟨m,rfl⟩:∃ m',m=m'+1:=⟨m-1,by omega⟩;rw[Pi.exec];simp only[q2 m z A (by omega) (by omega) (by omega)];rw[<- hYP];exact p2 m z A (by omega) (by omega) (by omega)
    |_=>
     simp only at G;refine⟨_,fr1,E,S,Y,q,fp1,W,G,⟨N1+1,λm z A hm hF hnn=> ?_⟩,J,q4,q5⟩;obtain⟨m,rfl⟩:∃ m',m=m'+1:=⟨m-1,by omega⟩;rw[Pi.exec];simp only[q2 m z A (by omega) (by omega) (by omega)];cases q with
     |normal=>simp[Lw]at q5
     |_=>rfl
  |rangeFunc g ps asg body=>
   simp only[GR]at e;replace e:=BC e;obtain⟨hsz,e⟩:=e;have hsz':nx+2<=1048575:=by simpa using hsz
   replace e:=AM F.t e;obtain⟨v,p,e,E,h2⟩:=e;split at e
   ·rename_i g' a1 b1;simp only[VR]at h2;obtain⟨aP,bP1,rfl,va,vb⟩:=h2;split at e
    ·rename_i d mark hh O;have r2:RH (X.bump 2) h (nx+2):=r.bump 2;have u2:=GE X 2
     have nxn:∀ j,X.π (nx+j)=none:=λj=>by
      cases hp:X.π (nx+j)with
      |none=>rfl
      |some a=>have:=r.dom _ _ hp;omega
     have hA:∃ (Y1:Cx) (hq:Hp) (dP m:Nat) (s:List DF),RH Y1 hh (nx+2)/\Up X Y1/\Ext b bP X h Y1 hh/\Y1.h={ hq with nx:=hq.nx+2 }/\hq.nx=X.h.nx /\
       ((fp.ro=none/\X.h.new X.h.nx (.df (some []))=some hq/\dP=X.h.nx/\s=[DF.col X.h.nx])\/(∃ p st pe nt t ps asg body,fp.ro=some p/\X.h.get p=some (.lp st pe nt t ps asg body dP)/\s=[]/\hq=X.h))/\Y1.π d=some (.blk dP m)/\L2 (DFR Y1) mark s/\Y1.π (nx+1)=none/\hq.get (X.h.nx+1)=none:=by
      have hro:=F.ro;split at O
      ·rename_i hr0;rw[hr0]at hro;simp only[Option.some.injEq,Prod.mk.injEq]at O;obtain⟨rfl,rfl,rfl⟩:=O;obtain⟨hq,e1⟩:=F1 X.h X.h.nx (.df (some [])) (r.fresh _ (ac _));have e2:=PT (k:=2) e1;obtain⟨g0,g1,g2⟩:=Hp.get_new e1
       obtain⟨Y,y1,y2,y3,y4⟩:=r2.new (id:=nx) (pid:=X.h.nx) (m:=0) (b:=.df (some [])) (by omega) (by omega) (nxn 0) (by show _<X.h.nx+2;omega) e2 (λY y1 y2 y3 u=>
        ⟨X.h.nx,0,some [],rfl,(y3 _).2 (.inr rfl),by rw[y2];show hq.get _=_;rw[g1,if_pos rfl],.nil⟩)
       have hpi:Y.π nx=some (.blk X.h.nx 0):=by rw[y1];exact if_pos rfl
       refine⟨Y,hq,X.h.nx,0,[.col X.h.nx],y3,u2.trans y4.up,(GD X h 2 b bP).trans (y4.ext hb M),y2,g2,?_,hpi,.cons ⟨_,_,hpi,rfl⟩ .nil,?_,?_⟩
       ·exact .inl ⟨hro,e1,rfl,rfl⟩
       ·rw[y1];show(if _ then _ else _)=_;rw[if_neg (by omega)];exact nxn 1
       ·rw[g1,if_neg (by omega)];exact r.fresh _ (by omega)
      ·rename_i l0 hr0;rw[hr0]at hro;obtain⟨p0,m0,Di,hr⟩:=hro;split at O
       ·rename_i hg;simp only[Option.some.injEq,Prod.mk.injEq]at O;obtain⟨rfl,rfl,rfl⟩:=O;have hb0:=r.blk _ _ hg;obtain⟨pid,n',tP,dP,m,k1,k2,k3,k4,k5,k6⟩:=hb0;rw[Di]at k1;cases k1;exact⟨X.bump 2,X.h,dP,m,[],r2,u2,GD X h 2 b bP,rfl,rfl,Or.inr ⟨_,_,_,_,_,_,_,_,hr,k3,rfl,rfl⟩,k5,.nil,nxn 1,r.fresh _ (by omega)⟩
       ·cases O
     obtain⟨Y1,hq,dP,m,s,r1,u1,x1,y1h,hqn,hPI,hd,hmark,hn1,hf1⟩:=hA;obtain⟨hq2,e1⟩:=F1 hq (X.h.nx+1) (.lp 0 none fp.nt fp.t ps.toList asg body dP) hf1;have e2:=PT (k:=2) e1;obtain⟨g0,g1,g2⟩:=Hp.get_new e1
     obtain⟨Y2,y21,y22,y23,y24⟩:=r1.new (id:=nx+1) (pid:=X.h.nx+1) (m:=0) (b:=.lp 0 none fr.nt fr.t ps.toList asg body d) (by omega) (by omega) hn1 (by rw[y1h];show _<hq.nx+2;omega) (by rw[y1h];exact e2) (λY y1 y2 y3 u=>
      ⟨X.h.nx+1,0,fp.t,dP,m,rfl,(y3 _).2 (.inr rfl),by rw[y2];show hq2.get _=_;rw[g1,if_pos rfl,F.nt],(F.t.mono u1).mono u,u.pi _ _ hd,F.big⟩)
     have hpi2:Y2.π (nx+1)=some (.blk (X.h.nx+1) 0):=by rw[y21];exact if_pos rfl
     have u12:=u1.trans y24.up;have x2:Ext b bP X h Y2 _:=x1.trans (y24.ext (b:=b) (bP:=bP) (by omega) (by omega));have hy2:Y2.h={ hq2 with nx:=X.h.nx+2 }:=by rw[y22,g2,hqn]
     obtain⟨g2',as,qs,e3,hinv,hargs⟩:=EF (va.mono u12) (vb.mono u12) (args:=[.yl (nx+1)]) (argsP:=[.yl (X.h.nx+1)]) (.cons (by simp only[VR];exact⟨_,_,hpi2,rfl⟩) .nil) e;obtain⟨o',up',h',nx',Y,oP,upP',hP',e4,⟨N,hN⟩,B,ho,hu⟩:=R.fn e3 y23 hsz' hargs (show UMR Y2 none none from rfl);split at e4
     ·obtain⟨vP,rfl,hv⟩:=ho;have hup:=B.ext.full y23 (ac _);split at e4
      ·rename_i st pend nt t ps' asg' body' d' hg;replace e4:=BC e4;obtain⟨hst,e4⟩:=e4;have hpi3:=hup.pi _ _ hpi2;have hbr:=B.rh.blk _ _ hg;obtain⟨pid,n',tP,dP',m',k1,k2,k3,k4,k5,k6⟩:=hbr;rw[hpi3]at k1;cases k1;obtain⟨L,es⟩:=BM Y.h (X.h.nx+1) (.lp 3 pend nt tP ps' asg' body' dP');obtain⟨Z,z1,z2,z3,z4,z5,z6⟩:=B.rh.setLp B.big hg hpi3 k3 es b bP;have uZ:=(u12.trans hup).trans z4;have xZ:Ext b bP X h Z _:=(x2.trans (B.ext.le (by omega) (by rw[hy2];show _<=X.h.nx+2;omega))).trans z6
       have FZ:FR Z { fr with ds:=mark++fr.ds } { fp with ds:=s++fp.ds }:=
        ⟨F.t.mono uZ,F.nt,F.big,(hmark.mono λ_ _ k=>k.mono ((y24.up.trans hup).trans z4)).append (F.ds.mono λ_ _ k=>k.mono uZ),F.up.mono uZ,F.ro.mono uZ⟩
       have fin2 : ∀ {ex:ExA} {q:Pi.Ex},K ex { fr with ds:=mark++fr.ds } (AG h' (nx+1) (.lp 3 pend nt t ps' asg' body' d')) nx'=some x->Lw Z ex q->(match pend with
          |none=>some (Pi.Ex.normal,({ fp with ds:=s++fp.ds }:Pi.Fr),L)
          |some .ret=>some (.ret,{ fp with ds:=s++fp.ds },L)
          |some (.exit id)=>some (.exit id,{ fp with ds:=s++fp.ds },L)
          |some (.goto id)=>some (.goto id,{ fp with ds:=s++fp.ds },L)
          |_=>none)=some (q,{ fp with ds:=s++fp.ds },L)->Ru P tab b bP (.rangeFunc g ps asg body) X h nx fp K x:=λe5 hx hp=>
        ⟨_,_,_,nx',Z,_,_,L,e5,⟨N+1,λm z A hm hF hnn=>by
         obtain⟨m,rfl⟩:∃ m',m=m'+1:=⟨m-1,by omega⟩;have:=hN z A (by omega) (by omega);rw[hy2]at this;rw[<- B.hp]at this;rw[Pi.exec];rcases hPI with⟨G,q2,rfl,rfl⟩|⟨_,_,_,_,_,_,_,_,G,q2,rfl,rfl⟩
         ·simp only[E,G,q2,e1,hinv,this,k3,hst,cond_false,es];simp only[G]at hp;exact hp
         ·simp only[E,G,q2,e1,hinv,this,k3,hst,cond_false,es];simp only[G]at hp
          exact hp⟩,⟨z2,z5,B.big,by have:=B.le;omega,xZ⟩,FZ,hx⟩
       split at e4
       ·exact fin2 e4 rfl rfl
       ·exact fin2 e4 rfl rfl
       ·exact fin2 e4 rfl rfl
       ·exact fin2 e4 rfl rfl
       ·cases e4
      ·cases e4
     ·cases e4
    ·cases e
   ·cases e
end
end
end Go.Proofs.YtanppfoapnaeaaaGreat.Sv
