/- A part of the evaluator over typed open values for any program, and of the proof that it is sound. No condition. -/
import Derived.Test.YtoefnfbpoabinaaGreatDoorPs1
set_option linter.all false
open List renaming all_eq_true->aW, any_eq_false->aN, append_assoc->a9, mem_append_left->ax, mem_append_right->am, mem_cons->aj, mem_cons_of_mem->aB, mem_filter->cN, mem_map->ba, mem_range->cQ, nodup_append->bQ, nodup_cons->bA, perm_append_comm_assoc->bX, range->bW
open Nat renaming beq->aa, blt->ae, eq_of_beq_eq_true->ai, le_add_right->bU, le_of_ble_eq_true->ap, le_refl->ab, le_succ->bN, le_trans->aw, lt_of_lt_of_le->bV, zero_add->aO
open Bool renaming and_eq_true->ac, not_eq_false'->aq, not_eq_true->cC, not_eq_true'->aU, or_eq_false_iff->af
open Option renaming some->zo, none->zn
open Bool renaming true->zt, false->zf
namespace Go.Proofs.YtoefnfbpoabinaaGreatDoor.Sv
section
variable[Pi.Gl]
open Pi (PV T Hp Blk DF UM PE AM AS AB AW Ap)
section
variable{X Y:Cx}{b:Nat}
mutual
theorem VR.lowOf:∀ {v:V} {p q:PV},VR (X.low b) v p->VR Y v q->VR (Y.low b) v q
 |.bool _,_,_,_,h | .int _ _,_,_,_,h | .str _,_,_,_,h | .nilp,_,_,_,h | .nils,_,_,_,h | .nilm,_,_,_,h | .nilf,_,_,_,h | .nili,_,_,_,h | .gk _,_,_,_,h=>by
  simp only[VR]at h ⊢;exact h
 |.agg cs,_,_,k,h=>by
  simp only[VR]at h k ⊢;obtain⟨u,m,o⟩:=h;obtain⟨C,d,s⟩:=k;exact⟨u,m,VRL.lowOf s o⟩
 |.tup cs,_,_,k,h=>by
  simp only[VR]at h k ⊢;obtain⟨u,m,o⟩:=h;obtain⟨C,d,s⟩:=k;exact⟨u,m,VRL.lowOf s o⟩
 |.lf full g c l,_,_,_,h=>by
  simp only[VR]at h ⊢;exact h
 |.exl full es,_,_,_,h | .dd,_,_,_,h=>by simp only[VR]at h ⊢;exact h
 |.ow id,p,q,k,h=>by
  simp only[VR]at h k ⊢;by_cases r:id<b
  ·rw[Cx.low_eq r];exact h
  ·rw[Cx.low_ge r]at k;exact k.elim
 |.own id off len,_,_,k,h=>by
  simp only[VR]at h k ⊢;obtain⟨pid,n,m,o⟩:=h;obtain⟨_,_,d,_⟩:=k;by_cases r:id<b
  ·exact⟨pid,n,by rw[Cx.low_eq r];exact m,o⟩
  ·rw[Cx.low_ge r]at d;cases d
 |.ptr id off,_,_,k,h=>by
  simp only[VR]at h k ⊢;obtain⟨pid,n,m,o⟩:=h;obtain⟨_,_,d,_⟩:=k;by_cases r:id<b
  ·exact⟨pid,n,by rw[Cx.low_eq r];exact m,o⟩
  ·rw[Cx.low_ge r]at d;cases d
 |.aptr id off j len,_,_,k,h=>by
  simp only[VR]at h k ⊢;obtain⟨pid,n,m,o⟩:=h;obtain⟨_,_,d,_⟩:=k;by_cases r:id<b
  ·exact⟨pid,n,by rw[Cx.low_eq r];exact m,o⟩
  ·rw[Cx.low_ge r]at d;cases d
 |.ept id i off,_,_,k,h=>by
  simp only[VR]at h k ⊢;obtain⟨pid,n,m,o⟩:=h;obtain⟨_,_,d,_⟩:=k;by_cases r:id<b
  ·exact⟨pid,n,by rw[Cx.low_eq r];exact m,o⟩
  ·rw[Cx.low_ge r]at d;cases d
 |.view cs,_,_,k,h=>by
  simp only[VR]at h k ⊢;rcases h with h|⟨pid,i,off,es,ex,fz,e,m,o,w,z,x⟩
  ·exact .inl h
  ·refine .inr ⟨pid,i,off,es,ex,fz,e,m,o,w,z,?_⟩;rcases k with⟨u,d,s⟩|⟨_,_,_,_,_,_,_,_,_,_,_,B⟩
   ·exact VRL.lowOf (s.mono (Up.pure _)) x
   ·exact VRL.lowOf B x
 |.pl _ _ _,_,_,_,h=>by simp only[VR]at h ⊢;exact h
 |.pv _,_,_,_,h=>by simp only[VR]at h ⊢;exact h
 |.fn f a c,_,_,k,h=>by
  simp only[VR]at h k ⊢;obtain⟨y,b',m,o,w⟩:=h;obtain⟨a'',b'',d,s,A⟩:=k;exact⟨y,b',m,VRL.lowOf s o,VRL.lowOf A w⟩
 |.yl id,_,_,k,h=>by
  simp only[VR]at h k ⊢;obtain⟨pid,n,m,o⟩:=h;obtain⟨_,_,d,_⟩:=k;by_cases r:id<b
  ·exact⟨pid,n,by rw[Cx.low_eq r];exact m,o⟩
  ·rw[Cx.low_ge r]at d;cases d
 |.ifc t v,_,_,k,h=>by
  simp only[VR]at h k ⊢;obtain⟨q,m,o⟩:=h;obtain⟨D,d,s⟩:=k;exact⟨q,m,VR.lowOf s o⟩
 |.mp id,_,_,k,h=>by
  simp only[VR]at h k ⊢;obtain⟨pid,n,m,o⟩:=h;obtain⟨_,_,d,_⟩:=k;by_cases r:id<b
  ·exact⟨pid,n,by rw[Cx.low_eq r];exact m,o⟩
  ·rw[Cx.low_ge r]at d;cases d
theorem VRL.lowOf:∀ {vs:List V} {c a:List PV},VRL (X.low b) vs c->VRL Y vs a->VRL (Y.low b) vs a
 |[],_,_,_,h=>by simp only[VRL]at h ⊢;exact h
 |v::vs,_,_,k,h=>by
  obtain⟨p,c,rfl,d,e⟩:=h.cons_inv;obtain⟨q,a,rfl,f,g⟩:=k.cons_inv;exact .cons (VR.lowOf f d) (VRL.lowOf g e)
end
end
structure KH (X:Cx) (h0:H) (n:Nat):Prop where
 blk:∀ i c,h0.get i=zo c->i<n/\c.live/\BR (X.low n) c (X.π i)
 inj:∀ i i' c c' p m m',h0.get i=zo c->h0.get i'=zo c'->X.π i=zo (.blk p m)->X.π i'=zo (.blk p m')->i=i'
theorem HL{t:T V}:∀ {l:List Nat} {k:Nat} {v:V},(∀ i∈l,i<1048575)->(BV t l).get k=zo v->k∈l/\t.get k=zo v
 |[],k,v,_,e=>by cases e
 |i::l,k,v,hl,e=>by
  have f:(2:Nat) ^ 20-1=1048575:=by decide
  have hi:=hl i (by simp)
  have b:(BV t l).get k=zo v->k∈i::l/\t.get k=zo v:=λe=>by
   obtain⟨c,d⟩:=HL (λj g=>hl j (by simp[g])) e;exact⟨by simp[c],d⟩
  unfold BV at e;split at e
  ·rename_i w h;rw[T.get_put 20 _ _ _ _ (by omega)]at e;by_cases a:k=i
   ·rw[zy a]at e;cases e;subst a;exact⟨by simp,h⟩
   ·rw[zx a]at e;exact b e
  ·exact b e
theorem DB{h:H}{f:BA->BA}:∀ {l:List Nat} {k:Nat} {c:BA},(∀ i∈l,i<1048575)->(BU h f l).get k=zo c->k∈l /\ ∃ d,h.get k=zo d/\c=f d/\d.live
 |[],k,v,_,e=>by cases e
 |i::l,k,c,hl,e=>by
  have o:(2:Nat) ^ 20-1=1048575:=by decide
  have hi:=hl i (by simp)
  have g:(BU h f l).get k=zo c->k∈i::l /\ ∃ d,h.get k=zo d/\c=f d/\d.live:=λe=>by
   obtain⟨m,n⟩:=DB (λj p=>hl j (by simp[p])) e;exact⟨by simp[m],n⟩
  unfold BU at e;split at e
  ·exact g e
  ·rename_i w b q;rw[T.get_put 20 _ _ _ _ (by omega)]at e;by_cases a:k=i
   ·rw[zy a]at e;cases e;subst a;exact⟨by simp,w,q,rfl,by cases w<;>first|exact absurd rfl b|trivial⟩
   ·rw[zx a]at e;exact g e
  ·exact g e
structure Lay (X Y:Cx) (n:Nat) (h1:H) (n1:Nat):Prop where
 h:Y.h=X.h
 o:Y.O=X.O
 pi:∀ i,i<n->Y.π i=X.π i
 zn:∀ i,n1<=i->Y.π i=zn
 le:n<=n1
theorem Lay.up{X Y:Cx}{n e:Nat}{c:H}(l:Lay X Y n c e):Up (X.low n) Y:=by
 refine⟨λi a hi=> ?_,?_⟩
 ·by_cases b:i<n
  ·rw[Cx.low_eq b]at hi;rw[l.pi i b];exact hi
  ·rw[Cx.low_ge b]at hi;cases hi
 ·show Rows X.h Y.h _ _;rw[l.h];intro pid es ex fz h k;exact⟨⟨fz,k⟩,λd=>h (l.o ▸ d)⟩
end
section
variable[Pi.Gl]
open Pi (PV T Hp Blk DF UM PE AM AS AB AW Ap)
theorem BR.live_blk{X:Cx}{c:BA}{a:Option At}(h:BR X c a)(b:c.live):∃ t,a=zo t:=by
 cases c with
 |box=>obtain⟨_,_,_,_,h,_⟩:=h;simp_all
 |row=>rcases h with⟨_,_,_,_,h,_⟩|⟨h,_⟩|⟨_,h,_⟩<;>exact⟨_,h⟩
 |mp=>obtain⟨_,_,_,h,_⟩:=h;simp_all
 |lp=>obtain⟨_,_,_,_,_,h,_⟩:=h;simp_all
 |df=>obtain⟨_,_,_,h,_⟩:=h;simp_all
 |dead=>exact b.elim
structure LInv (X:Cx) (h:H) (nx0:Nat) (Y:Cx) (S:List Nat) (hc:H) (nc:Nat):Prop where
 hh:Y.h=X.h
 oo:Y.O=X.O
 lo:∀ i,i<nx0->Y.π i=X.π i
 hi:∀ i,nc<=i->Y.π i=zn
 le:nx0<=nc
 blk:∀ i c,hc.get i=zo c->BR Y c (Y.π i)/\i<nc
 inj:∀ i i' c c' p m m',hc.get i=zo c->hc.get i'=zo c'->Y.π i=zo (.blk p m)->Y.π i'=zo (.blk p m')->i=i'
 src:∀ i c p m,hc.get i=zo c->Y.π i=zo (.blk p m) -> ∃ j∈S,∃ d m',h.get j=zo d/\d.live/\X.π j=zo (.blk p m')
section
variable{X Y:Cx}{h hc:H}{n nx0 nc:Nat}{S:List Nat}{β:Type}{x:β}
theorem Rk{Y Z:Cx}(h:Y.h=X.h)(o:Y.O=X.O)(h':Z.h=X.h)(o':Z.O=X.O)(p:∀ i a,Y.π i=zo a->Z.π i=zo a):Up Y Z:=by
 refine⟨p,?_⟩;show Rows Y.h Z.h _ _;rw[h,h'];intro pid es ex fz b c;exact⟨⟨fz,c⟩,λd=>b (by simp_all)⟩
theorem LInv.row(L:LInv X h nx0 Y S hc nc)(r:RH X h n)(y:nc<1048575){g:Bool}{c:Ty}{l:List c.den}{ex:Bool}{a:At}
  (K:(a=.nil/\l=[]/\ex=zf) \/ ∃ j,j ∉ S/\h.get j=zo (.row g c l ex zf zf)/\X.π j=zo a) {J:List Nat} (hJ:∀ j,h.get j=zo (.row g c l ex zf zf)->X.π j=zo a->j ∉ S->(∃ p m,a=.blk p m)->j∈J) :
  ∃ Z:Cx,Z.π nc=zo a/\Up Y Z/\LInv X h nx0 Z (J++S) (AG hc nc (.row g c l ex zf zf)) (nc+1):=by
 let Z:Cx:={ π:=Sv.DW Y.π nc (zo a),h:=Y.h,O:=Y.O }
 have s:∀ i,i≠nc->Z.π i=Y.π i:=λi hi=>zx hi;have D1:Z.π nc=zo a:=zy rfl
 have u:Up Y Z:=Rk (X:=Y) rfl rfl rfl rfl λi b hi=>by
  rw[s i (by intro hh;subst hh;rw[L.hi _ (ab _)]at hi;cases hi)];exact hi
 have hbr:BR Z (.row g c l ex zf zf) (zo a):=by
  rcases K with⟨f,o,z⟩|⟨j,_,o,z⟩
  ·subst f;subst o;subst z;exact .inr (.inl ⟨rfl,rfl,rfl⟩)
  ·have:=r.blk _ _ o;rw[z]at this
   have u0:Rows X.h Z.h X.Q Z.Q:=by
    show Rows X.h Y.h X.Q _;rw[L.hh];intro pid es ex fz W G;exact⟨⟨fz,G⟩,λF=>W (by rw[<- L.oo];exact F)⟩
   rcases this with⟨pid,len,es,E,p1,p2,p3,p4,p5,p7,p6⟩|q|q
   ·exact .inl ⟨pid,len,es,E,p1,by show Y.O pid;rw[L.oo];exact p2,by show Y.h.get pid=_;rw[L.hh];exact p3,p4,p5,p7,p6.mono λ_ _ k=>k.mono λ_ _ k=>DR.mono u0 k⟩
   ·exact .inr (.inl q)
   ·exact .inr (.inr q)
 have A:∀ p m,a=.blk p m -> ∃ j,j ∉ S/\j∈J /\ ∃ d m',h.get j=zo d/\d.live/\X.π j=zo (.blk p m'):=λp m C=>by
  rcases K with⟨f,_⟩|⟨j,f,o,z⟩
  ·simp_all
  ·exact⟨j,f,hJ j o z f ⟨p,m,C⟩,_,m,o,trivial,C ▸ z⟩
 refine⟨Z,D1,u,L.hh,L.oo,λi hi=>by rw[s i (by have:=L.le;omega)];exact L.lo i hi,λi hi=>by rw[s i (by omega)];exact L.hi i (by omega),by have:=L.le;omega,λi D hi=> ?_,λi M I c2 p m m' hi x t B=> ?_,λi D p m hi t=> ?_⟩
 ·rw[AJ y]at hi;by_cases e:i=nc
  ·simp_all
  ·rw[zx e]at hi;obtain⟨b1,b2⟩:=L.blk i D hi;rw[s i e];exact⟨b1.keep u λpid m _ F=>⟨rfl,F⟩,by omega⟩
 ·rw[AJ y]at hi x
  have w:∀ {i:Nat} {I:BA} {m1 m2:Nat},i≠nc->hc.get i=zo I->Y.π i=zo (.blk p m1)->a=.blk p m2->False:=λe hg hy C=>by
   obtain⟨j,j1,_,d,m3,N,P,U⟩:=A p _ C;obtain⟨j',W,d',m4,G,k3,k4⟩:=L.src _ _ _ _ hg hy;have:=r.inj _ _ _ _ _ _ _ N G P k3 U k4
   simp_all
  by_cases f:i=nc
  ·grind
  ·rw[zx f]at hi;by_cases o:M=nc
   ·rw[o,D1]at B;rw[s i f]at t;exact(w f hi t (Option.some.inj B)).elim
   ·rw[zx o]at x;rw[s i f]at t;rw[s M o]at B;exact L.inj _ _ _ _ _ _ _ hi x t B
 ·rw[AJ y]at hi;by_cases e:i=nc
  ·grind
  ·rw[zx e]at hi;rw[s i e]at t;obtain⟨j,j1,d,m',N,P,U⟩:=L.src i D p m hi t
   grind
theorem LInv.put(L:LInv X h nx0 Y S hc nc)(r:RH X h n){i:Nat}(q:i<nx0)(e:i<1048575){c d:BA}(w:h.get i=zo d)(x:d.live)(hS:i ∉ S)(B:BR Y c (X.π i)) :
  LInv X h nx0 Y (i::S) (AG hc i c) nc:=by
 obtain⟨t,P⟩:=(r.blk _ _ w).live_blk x;have E:Y.π i=X.π i:=L.lo i q
 have o:∀ {k:Nat} {u:BA} {p K M:Nat},hc.get k=zo u->Y.π k=zo (.blk p K)->X.π i=zo (.blk p M)->False:=λD s C=>by
  obtain⟨j',W,O,Z,G,I,J⟩:=L.src _ _ _ _ D s;have:=r.inj _ _ _ _ _ _ _ w G x I C J
  simp_all
 refine⟨L.hh,L.oo,L.lo,L.hi,L.le,λk l a=> ?_,λk F u N p m m' a f g y=> ?_,λk l p m a g=> ?_⟩
 ·rw[AJ e]at a;by_cases b:k=i
  ·rw[zy b]at a;cases a;subst b;rw[E];exact⟨B,by have:=L.le;omega⟩
  ·rw[zx b]at a;exact L.blk k l a
 ·rw[AJ e]at a f;by_cases z:k=i
  ·grind
  ·rw[zx z]at a;by_cases A:F=i
   ·grind
   ·rw[zx A]at f;exact L.inj _ _ _ _ _ _ _ a f g y
 ·rw[AJ e]at a;by_cases b:k=i
  ·simp_all
  ·rw[zx b]at a;obtain⟨j,U,rest⟩:=L.src k l p m a g
   grind
theorem Iw(r:RH X h n){g:Bool}{c:Ty}{ex:Bool}{v:V}{p:PV}{K:List c.den->Option β}(b:VR X v p)(e:L4 h g c ex v K=zo x) :
  ∃ l a,K l=zo x/\((a=.nil/\l=[]/\ex=zf/\B3 v=[]) \/ ∃ j,B3 v=[j]/\h.get j=zo (.row g c l ex zf zf)/\X.π j=zo a) /\ ∀ (Z:Cx) (i:Nat),Z.π i=zo a->VR Z (.ow i) p:=by
 unfold L4 at e;split at e
 ·replace e:=BE e;obtain⟨q,e⟩:=e;subst q;simp only[VR]at b;subst b;exact⟨[],.nil,e,.inl ⟨rfl,rfl,rfl,rfl⟩,λZ i f=>by simp only[VR,f]⟩
 ·rename_i id;split at e
  ·rename_i t s l m o;replace e:=AN e;obtain⟨d,e⟩:=e;simp only[ac]at d;have:=eq_of_beq d.1;subst this;have:=eq_of_beq d.2;subst this;replace e:=Ao e;obtain⟨hc,e⟩:=e;subst hc;simp only[VR]at b;cases k:X.π id with
   |none=>simp_all
   |some a=>
    rw[k]at b;refine⟨l,a,e,.inr ⟨id,rfl,o,k⟩,λZ i f=> ?_⟩;simp only[VR,f];exact b
  ·cases e
 ·cases e
theorem Qs(r:RH X h n){g:Bool}{c:Ty}{v:V}{p:PV}{K:List c.den×Nat->Option β}(b:VR X v p)(e:EE h g c v K=zo x) :
  ∃ l len j pid m,K (l,len)=zo x/\Qr v=[j]/\h.get j=zo (.row g c l zt zf zf)/\X.π j=zo (.blk pid m)/\p=.own pid 0 len:=by
 unfold EE at e;split at e
 ·rename_i j off len;split at e
  ·rename_i k i l d;replace e:=AN e;obtain⟨a,e⟩:=e;simp only[ac]at a;have:=eq_of_beq a.1;subst this;have:off=0:=by simp_all
   subst this;replace e:=Ao e;obtain⟨hc,e⟩:=e;subst hc;simp only[VR]at b;obtain⟨pid,m,f,rfl⟩:=b;exact⟨l,len,j,pid,m,e,rfl,d,f,rfl⟩
  ·cases e
 ·cases e
theorem LInv.dr(L:LInv X h nx0 Y S hc nc){c:Ty}{y:c.den}{a:List PV}(d:DR X.h X.Q c y a):DR Y.h Y.Q c y a:=by
 have b:Y.Q=X.Q:=by unfold Cx.Q;rw[L.oo]
 rw[L.hh,b];exact d
theorem JJ{c:Ty}{vs:List V}{f:List PV}{K:c.den->List V->Option β}(d:VRL X vs f)(e:Dx .lf c vs K=zo x) :
  ∃ y p q,K y (vs.drop c.wd)=zo x/\f=p++q/\DR X.h X.Q c y p/\VRL X (vs.drop c.wd) q:=by
 obtain⟨y,r,p,q,g,i,a,b,s,k⟩:=C8 (Q:=X.Q) (λ_ _ _ h=>(by cases h)) (λ_ _ _ _ _ h=>(by cases h)) (λ_ h=>h) d e
 have j:vs.drop c.wd=r:=by
  have l:=d.length;have m:=b.length;have n:=a.same.wd
  simp_all
 rw[j];exact⟨y,p,q,g,i,a.same,b⟩
theorem LInv.perm(L:LInv X h nx0 Y S hc nc){a:List Nat}(hs:∀ j,j∈S<->j∈a):LInv X h nx0 Y a hc nc:=
 ⟨L.hh,L.oo,L.lo,L.hi,L.le,L.blk,L.inj,λi c p m b d=>by obtain⟨j,e,r⟩:=L.src i c p m b d;grind⟩
theorem BN:∀ (sg:List Sgm) (hc:H) (nc:Nat) (s:DT sg),nc<=(A5 hc nc sg s).2.2
 |[],hc,nc,s=>ab _
 |[.lf c],hc,nc,s=>ab _
 |[.ow g c ex],hc,nc,s=>bN _
 |.lf c::q::r,hc,nc,s=>BN (q::r) hc nc s.2
 |.ow g c ex::q::r,hc,nc,s=>aw (bN _) (BN (q::r) _ (nc+1) s.2)
 |[.kp id],hc,nc,s=>ab _
 |.kp id::q::r,hc,nc,s=>BN (q::r) hc nc s.2
 |[.cn c],hc,nc,s=>ab _
 |.cn c::q::r,hc,nc,s=>BN (q::r) hc nc s.2
 |[.er ..],hc,nc,s=>ab _
 |.er .. :: q::r,hc,nc,s=>BN (q::r) hc nc s.2
 |[.ek ..],hc,nc,s=>ab _
 |.ek .. :: q::r,hc,nc,s=>BN (q::r) hc nc s.2
 |[.ef ..],hc,nc,s=>ab _
 |.ef .. :: q::r,hc,nc,s=>BN (q::r) hc nc s.2
theorem Pt{c:Cv}{v:V}(e:SL c v=zt):v=c.v:=by
 cases c<;>(unfold SL at e;simp only at e;split at e<;>first|rfl|cases e)
theorem PP{c:Cv}{v:V}{p:PV}(h:SL c v=zt)(a:VR X v p):VR Y c.v p:=by
 have:=Pt h;subst this;cases c<;>simpa[Cv.v,VR]using a
theorem KT{t n:Nat}{v:V}{p:PV}(e:Pu t n v=zt)(a:VR X v p):v=.ifc t (.gk n)/\VR Y (.ifc t (.gk n)) p:=by
 unfold Pu at e;split at e
 ·split at e
  ·simp_all[ac,VR]
  ·cases e
 ·cases e
theorem J4{a:Nat}{k:IntKind}{v:V}{p:PV}{K:Int->Option β}(e:PZ a k v K=zo x)(c:VR X v p):∃ y,K y=zo x /\ ∀ Y,VR Y (.ifc a (.agg [.int k y])) p:=by
 unfold PZ at e;split at e
 ·replace e:=AN e;obtain⟨h,e⟩:=e;rw[ac]at h;have b:=ai h.1
  grind [VR,VRL]
 ·cases e
theorem NY{t n b:Nat}{k:IntKind}{v:V}{p:PV}{K:Int×Int->Option β}(e:Q9 t n b k v K=zo x)(a:VR X v p):∃ y,K y=zo x /\ ∀ Y,VR Y (SD t n b k y) p:=by
 unfold Q9 at e;replace e:=BP e;rcases e with⟨h,e⟩|⟨_,e⟩
 ·refine⟨_,e,λY=> ?_⟩;have:=Pt h
  simp_all[SD,Cv.v,VR]
 ·replace e:=BP e;rcases e with⟨h,e⟩|⟨_,e⟩
  ·exact⟨_,e,λY=>(KT (Y:=Y) h a).2⟩
  ·obtain⟨y,e,h⟩:=J4 e a;exact⟨_,e,h⟩
theorem Rt{id j:Nat}{p:PV}(L:LInv X h nx0 Y S hc nc)(d:VR X (.ow j) p)(b:aa j id=zt)(a:ae id nx0=zt):VR Y (.ow id) p:=by
 have:=ai b;subst this;have c:=L.lo j (ap a)
 simp_all[VR]
theorem Cu(r:RH X h n):∀ {sg:List Sgm} {cs:List V} {z:List PV} {K:DT sg->Option β},Hn nx0 sg=zt->VRL X cs z->Bm h sg cs K=zo x ->
  ∃ s,K s=zo x /\ ∀ {Y:Cx} {S:List Nat} {hc:H} {nc:Nat},LInv X h nx0 Y S hc nc->(As sg cs++S).Nodup->(A5 hc nc sg s).2.2<=1048575 ->
   ∃ Z,Up Y Z/\LInv X h nx0 Z (As sg cs++S) (A5 hc nc sg s).2.1 (A5 hc nc sg s).2.2/\VRL Z (A5 hc nc sg s).1 z
 |[],cs,z,K,hkp,hv,e=>by
  unfold Bm at e;split at e
  ·exact⟨(),e,λL _ _=>⟨_,Up.refl _,L,by rw[hv.nil_inv];exact .nil⟩⟩
  ·cases e
 |[.lf c],cs,z,K,hkp,hv,e=>by
  unfold Bm at e;obtain⟨y,p,q,e,rfl,d,P⟩:=JJ hv e;split at e
  ·rename_i N;rw[N]at P;refine⟨y,e,fun {Y S hc nc} L _ _=>⟨Y,Up.refl _,L,?_⟩⟩;rw[P.nil_inv,List.append_nil];exact DD (L.dr d)
  ·cases e
 |[.ow g c ex],cs,z,K,hkp,hv,e=>by
  unfold Bm at e;split at e
  ·rename_i v;obtain⟨p,F,rfl,i,o⟩:=hv.cons_inv;obtain⟨l,a,e1,W,hz⟩:=Iw r i e;refine⟨l,e1,fun {Y S hc nc} L w C=> ?_⟩;have u:As [.ow g c ex] [v]=B3 v:=by simp[As]
   rw[u]at w ⊢;have I:nc+1<=1048575:=C
   obtain⟨Z,A,B,D⟩:=L.row r (g:=g) (c:=c) (l:=l) (ex:=ex) (a:=a) (J:=B3 v) (by omega) (by
    grind) (λj i o h3 h4=>by
    rcases W with⟨O,_⟩|⟨j',O,k2,k3⟩
    ·simp_all
    ·rw[O];cases a with
     |blk p m=>
      have:=r.inj _ _ _ _ _ _ _ i k2 trivial trivial o k3;simp[this]
     |nil=>simp_all
     |fz es=>simp_all)
   exact⟨Z,B,D,.cons (hz Z nc A) (by rw[o.nil_inv];exact .nil)⟩
  ·cases e
 |.lf c::f::rr,cs,z,K,hkp,hv,e=>by
  unfold Bm at e;obtain⟨y,p,q,e,rfl,d,P⟩:=JJ hv e;obtain⟨s,e1,hs⟩:=Cu r (sg:=f::rr) hkp P e;refine⟨(y,s),e1,fun {Y S hc nc} L w C=> ?_⟩;obtain⟨Z,A,B,D⟩:=hs L w C;exact⟨Z,A,B,(DD (B.dr d)).append D⟩
 |.ow g c ex::f::rr,cs,z,K,hkp,hv,e=>by
  unfold Bm at e;split at e
  ·rename_i v b;obtain⟨p,F,rfl,i,o⟩:=hv.cons_inv;obtain⟨l,a,e1,W,hz⟩:=Iw r i e;obtain⟨s,e2,hs⟩:=Cu r (sg:=f::rr) hkp o e1;refine⟨(l,s),e2,fun {Y S hc nc} L w C=> ?_⟩;have u:As (.ow g c ex::f::rr) (v::b)=B3 v++As (f::rr) b:=by rfl
   rw[u]at w ⊢;have I:(A5 (AG hc nc (.row g c l ex zf zf)) (nc+1) (f::rr) s).2.2<=1048575:=C;have hmono:nc+1<=1048575:=aw (BN (f::rr) _ (nc+1) s) I;rw[a9]at w
   obtain⟨Z,A,B,D⟩:=L.row r (g:=g) (c:=c) (l:=l) (ex:=ex) (a:=a) (J:=B3 v) (by omega) (by
    grind) (λj i o h3 h4=>by
    rcases W with⟨O,_⟩|⟨j',O,k2,k3⟩
    ·simp_all
    ·rw[O];cases a with
     |blk p m=>
      have:=r.inj _ _ _ _ _ _ _ i k2 trivial trivial o k3;simp[this]
     |nil=>simp_all
     |fz es=>simp_all)
   have U:(As (f::rr) b++(B3 v++S)).Nodup:=by
    rw[<- a9]at w ⊢;have hp:(B3 v++As (f::rr) b++S).Perm (As (f::rr) b++B3 v++S):=List.Perm.append_right S List.perm_append_comm
    grind
   obtain⟨Z2,w1,w2,w3⟩:=hs D U I;refine⟨Z2,B.trans w1,?_,.cons ((hz Z nc A).mono w1) w3⟩;refine w2.perm λj=> ?_<;>grind
  ·cases e
 |[.kp id],cs,z,K,hkp,hv,e=>by
  unfold Bm at e;split at e
  ·rename_i j;replace e:=AN e;obtain⟨E,e⟩:=e;obtain⟨p,F,rfl,i,o⟩:=hv.cons_inv;refine⟨(),e,fun {Y S hc nc} L _ _=>⟨Y,Up.refl _,L,.cons (Rt L i E ?_) (by rw[o.nil_inv];exact .nil)⟩⟩;simpa[Hn]using hkp
  ·cases e
 |.kp id::f::rr,cs,z,K,hkp,hv,e=>by
  unfold Bm at e;split at e
  ·rename_i j b;replace e:=AN e;obtain⟨E,e⟩:=e;obtain⟨p,F,rfl,i,o⟩:=hv.cons_inv
   have G:ae id nx0=zt/\Hn nx0 (f::rr)=zt:=by
    have:(ae id nx0&&Hn nx0 (f::rr))=zt:=hkp
    simp_all
   obtain⟨s,e1,hs⟩:=Cu r (sg:=f::rr) G.2 o e;refine⟨((),s),e1,fun {Y S hc nc} L w C=> ?_⟩;have u:As (.kp id::f::rr) (.ow j::b)=As (f::rr) b:=rfl;rw[u]at w ⊢;obtain⟨Z,A,B,D⟩:=hs L w C;exact⟨Z,A,B,.cons ((Rt L i E G.1).mono A) D⟩
  ·cases e
 |[.cn c],cs,z,K,hkp,hv,e=>by
  unfold Bm at e;split at e
  ·rename_i v;replace e:=AN e;obtain⟨E,e⟩:=e;obtain⟨p,F,rfl,i,o⟩:=hv.cons_inv;exact⟨(),e,fun {Y S hc nc} L _ _=>⟨Y,Up.refl _,L,.cons (PP E i) (by rw[o.nil_inv];exact .nil)⟩⟩
  ·cases e
 |.cn c::f::rr,cs,z,K,hkp,hv,e=>by
  unfold Bm at e;split at e
  ·rename_i v b;replace e:=AN e;obtain⟨E,e⟩:=e;obtain⟨p,F,rfl,i,o⟩:=hv.cons_inv;obtain⟨s,e1,hs⟩:=Cu r (sg:=f::rr) hkp o e;refine⟨((),s),e1,fun {Y S hc nc} L w C=> ?_⟩;have u:As (.cn c::f::rr) (v::b)=As (f::rr) b:=rfl;rw[u]at w ⊢;obtain⟨Z,A,B,D⟩:=hs L w C;exact⟨Z,A,B,.cons (PP E i) D⟩
  ·cases e
 |[.er t n tF k],cs,z,K,hkp,hv,e=>by
  unfold Bm at e;split at e
  ·rename_i v;obtain⟨p,F,rfl,i,o⟩:=hv.cons_inv;obtain⟨y,e,M⟩:=NY e i;exact⟨y,e,fun {Y S hc nc} L _ _=>⟨Y,Up.refl _,L,.cons (M _) (by rw[o.nil_inv];exact .nil)⟩⟩
  ·cases e
 |.er t n tF k::f::rr,cs,z,K,hkp,hv,e=>by
  unfold Bm at e;split at e
  ·rename_i v b;obtain⟨p,F,rfl,i,o⟩:=hv.cons_inv;obtain⟨y,e,M⟩:=NY e i;obtain⟨s,e1,hs⟩:=Cu r (sg:=f::rr) hkp o e;refine⟨(y,s),e1,fun {Y S hc nc} L w C=> ?_⟩;have u:As (.er t n tF k::f::rr) (v::b)=As (f::rr) b:=rfl;rw[u]at w ⊢;obtain⟨Z,A,B,D⟩:=hs L w C;exact⟨Z,A,B,.cons (M _) D⟩
  ·cases e
 |[.ek t n],cs,z,K,hkp,hv,e=>by
  unfold Bm at e;split at e
  ·rename_i v;replace e:=AN e;obtain⟨E,e⟩:=e;obtain⟨p,F,rfl,i,o⟩:=hv.cons_inv;exact⟨(),e,fun {Y S hc nc} L _ _=>⟨Y,Up.refl _,L,.cons (KT E i).2 (by rw[o.nil_inv];exact .nil)⟩⟩
  ·cases e
 |.ek t n::f::rr,cs,z,K,hkp,hv,e=>by
  unfold Bm at e;split at e
  ·rename_i v b;replace e:=AN e;obtain⟨E,e⟩:=e;obtain⟨p,F,rfl,i,o⟩:=hv.cons_inv;obtain⟨s,e1,hs⟩:=Cu r (sg:=f::rr) hkp o e;refine⟨((),s),e1,fun {Y S hc nc} L w C=> ?_⟩;have u:As (.ek t n::f::rr) (v::b)=As (f::rr) b:=rfl;rw[u]at w ⊢;obtain⟨Z,A,B,D⟩:=hs L w C;exact⟨Z,A,B,.cons (KT E i).2 D⟩
  ·cases e
 |[.ef tF k],cs,z,K,hkp,hv,e=>by
  unfold Bm at e;split at e
  ·rename_i v;obtain⟨p,F,rfl,i,o⟩:=hv.cons_inv;obtain⟨y,e,M⟩:=J4 e i;exact⟨y,e,fun {Y S hc nc} L _ _=>⟨Y,Up.refl _,L,.cons (M _) (by rw[o.nil_inv];exact .nil)⟩⟩
  ·cases e
 |.ef tF k::f::rr,cs,z,K,hkp,hv,e=>by
  unfold Bm at e;split at e
  ·rename_i v b;obtain⟨p,F,rfl,i,o⟩:=hv.cons_inv;obtain⟨y,e,M⟩:=J4 e i;obtain⟨s,e1,hs⟩:=Cu r (sg:=f::rr) hkp o e;refine⟨(y,s),e1,fun {Y S hc nc} L w C=> ?_⟩;have u:As (.ef tF k::f::rr) (v::b)=As (f::rr) b:=rfl;rw[u]at w ⊢;obtain⟨Z,A,B,D⟩:=hs L w C;exact⟨Z,A,B,.cons (M _) D⟩
  ·cases e
variable{t:T V}{tP:T PV}
def Cb(t:T V)(h:H)(p:Pl):List Nat:=A1 t h [p]
theorem M7(p:Pl)(l:List Pl):A1 t h (p::l)=Cb t h p++A1 t h l:=by
 unfold Cb;cases p<;>simp[A1]
theorem F6(tc:T V)(hc:H)(nc:Nat)(p:Pl)(s:p.den):nc<=(Bo tc hc nc p s).2.2:=by
 cases p with
 |slot=>exact ab _
 |srow=>exact bN _
 |swin=>exact bN _
 |cn=>exact ab _
 |box id sg=>exact BN sg hc nc s
 |map=>exact ab _
theorem Ew:∀ (l:List Pl) (tc:T V) (hc:H) (nc:Nat) (s:Au l),nc<=(Ab tc hc nc l s).2.2
 |[],_,_,_,_=>ab _
 |[p],tc,hc,nc,s=>F6 tc hc nc p s
 |p::q::r,tc,hc,nc,s=>aw (F6 tc hc nc p s.1) (Ew (q::r) _ _ _ s.2)
theorem Ue(r:RH X h n){g:Bool}{c:Ty}{l:List c.den}{ex:Bool}{a:At}{v:V}(f:(a=.nil/\l=[]/\ex=zf/\B3 v=[]) \/ ∃ j,B3 v=[j]/\h.get j=zo (.row g c l ex zf zf)/\X.π j=zo a) :
  ∀ j,h.get j=zo (.row g c l ex zf zf)->X.π j=zo a->j ∉ S->(∃ p m,a=.blk p m)->j∈B3 v:=λj d e _ o=>by
 rcases f with⟨b,_⟩|⟨j',b,i,k⟩
 ·simp_all
 ·rw[b];cases a with
  |blk p m=>
   have:=r.inj _ _ _ _ _ _ _ d i trivial trivial e k;simp[this]
  |nil=>simp_all
  |fz es=>simp_all
theorem Lc(r:RH X h n)(hn:nx0<=1048575)(P:TR X t tP){nt:Nat}(hnt:nt<1048575){p:Pl}(u:Am nt nx0 [p]=zt)(I:∀ i∈AV [p],i<nx0){K:p.den->Option β}(e:GS t h p K=zo x) :
  ∃ s,K s=zo x /\ ∀ {Y:Cx} {S:List Nat} {tc:T V} {hc:H} {nc:Nat},LInv X h nx0 Y S hc nc->TR Y tc tP->(Cb t h p++S).Nodup->(Bo tc hc nc p s).2.2<=1048575 ->
   ∃ Z,Up Y Z/\LInv X h nx0 Z (Cb t h p++S) (Bo tc hc nc p s).2.1 (Bo tc hc nc p s).2.2/\TR Z (Bo tc hc nc p s).1 tP:=by
 have put:∀ {Y:Cx} {tc:T V} {k:Nat} {v:V} {q:PV},TR Y tc tP->k<1048575->tP.get k=zo q->VR Y v q->TR Y (T.put 20 tc k v) tP:=by
  intro Y tc k v q f z E A i w hi;have h20:(2:Nat) ^ 20-1=1048575:=by decide
  rw[T.get_put 20 tc k v i (by omega)]at hi;by_cases hik:i=k
  ·simp_all
  ·rw[zx hik]at hi;exact f i w hi
 cases p with
 |slot k g c=>
  unfold GS at e;replace e:=AD e;obtain⟨v,A,e⟩:=e;obtain⟨q,E,d⟩:=P _ _ A;replace e:=Dy d e;obtain⟨y,e,hE⟩:=e
  have z:k<1048575:=by
   have:k<nt:=by simpa[Am]using u
   omega
  refine⟨y,e,fun {Y S tc hc nc} L f o D=>⟨Y,Up.refl _,?_,?_⟩⟩
  ·exact L
  ·refine put f z E (Fy (X:=Y) ?_);have hQ:Y.Q=X.Q:=by unfold Cx.Q;rw[L.oo]
   rw[L.hh,hQ];exact hE
 |cn k c=>
  unfold GS at e;replace e:=AD e;obtain⟨v,A,e⟩:=e;obtain⟨q,E,d⟩:=P _ _ A;replace e:=AN e;obtain⟨hj,e⟩:=e
  have z:k<1048575:=by
   have:k<nt:=by simpa[Am]using u
   omega
  exact⟨(),e,fun {Y S tc hc nc} L f o D=>⟨Y,Up.refl _,L,put f z E (PP hj d)⟩⟩
 |srow k g c ex=>
  unfold GS at e;replace e:=AD e;obtain⟨v,A,e⟩:=e;obtain⟨q,E,d⟩:=P _ _ A;obtain⟨l,a,e1,ha,hz⟩:=Iw r d e
  have z:k<1048575:=by
   have:k<nt:=by simpa[Am]using u
   omega
  have b:Cb t h (.srow k g c ex)=B3 v:=by simp[Cb,A1,A]
  refine⟨l,e1,fun {Y S tc hc nc} L f o D=> ?_⟩;rw[b]at o ⊢;have hb':nc+1<=1048575:=D
  obtain⟨Z,M,C,N⟩:=L.row r (g:=g) (c:=c) (l:=l) (ex:=ex) (a:=a) (J:=B3 v) (by omega) (by
   rcases ha with⟨h1,h2,h3,_⟩|⟨j,h1,h2,h3⟩<;>grind) (Ue r ha)
  exact⟨Z,C,N,put (f.mono C) z E (hz Z nc M)⟩
 |swin k g c=>
  unfold GS at e;replace e:=AD e;obtain⟨v,A,e⟩:=e;obtain⟨q,E,d⟩:=P _ _ A;obtain⟨l,len,j,pid,m,e1,hj,B,O,rfl⟩:=Qs r d e
  have z:k<1048575:=by
   have:k<nt:=by simpa[Am]using u
   omega
  have b:Cb t h (.swin k g c)=[j]:=by simp[Cb,A1,A,hj]
  refine⟨(l,len),e1,fun {Y S tc hc nc} L f o D=> ?_⟩;rw[b]at o ⊢;have hb':nc+1<=1048575:=D
  obtain⟨Z,M,C,N⟩:=L.row r (g:=g) (c:=c) (l:=l) (ex:=true) (a:=.blk pid m) (J:=[j]) (by omega)
   (.inr ⟨j,(bA.1 o).1,B,O⟩) (λj' h1 h2 _ _=>by
    have:=r.inj _ _ _ _ _ _ _ h1 B trivial trivial h2 O
    simp[this])
  exact⟨Z,C,N,put (f.mono C) z E (by simp_all[VR])⟩
 |box id sg=>
  simp only[GS]at e;split at e
  ·rename_i cs B;have hB:=r.blk _ _ B;obtain⟨pid,m,ps,fz',U,W,b3,b4,b5⟩:=hB;obtain⟨s,e1,hs⟩:=Cu (nx0:=nx0) r (by simpa[Am]using u) b5 e;have b:Cb t h (.box id sg)=As sg cs++[id]:=by simp[Cb,A1,B]
   refine⟨s,e1,fun {Y S tc hc nc} L f o D=> ?_⟩;rw[b]at o ⊢;have G:id<nx0:=I id (by simp[AV])
   have hN1:(As sg cs++S).Nodup:=by
    have O:(As sg cs++[id]++S).Perm ([id]++(As sg cs++S)):=by
     rw[a9];exact bX _ _ _
    exact(bA.1 (O.nodup_iff.1 o)).2
   have hN2:id ∉ As sg cs++S:=by
    grind
   obtain⟨Z,M,C,N⟩:=hs L hN1 D
   have F:=C.put r (c:=.box (A5 hc nc sg s).1 zf zf) G (by omega) B trivial hN2 (by
    rw[U]
    exact⟨pid,m,ps,fz',rfl,by rw[C.oo];exact W,by rw[C.hh];exact b3,b4,N⟩)
   refine⟨Z,M,?_,f.mono M⟩;refine F.perm λj=> ?_;simp only[aj,List.mem_append,List.not_mem_nil,or_false];constructor
   ·rintro (h|h|h)
    ·exact .inl (.inr h)
    ·exact .inl (.inl h)
    ·exact .inr h
   ·rintro ((h|h)|h)
    ·exact .inr (.inl h)
    ·exact .inl h
    ·exact .inr (.inr h)
  ·cases e
 |map id k g c=>
  simp only[GS]at e;split at e
  ·rename_i k' g' c' l B;replace e:=AN e;obtain⟨hgg,e⟩:=e;have:=eq_of_beq hgg;subst this;unfold Rq at e;split at e
   ·rename_i z;subst z;split at e
    ·rename_i hc;subst hc;have hB:=r.blk _ _ B;obtain⟨pid,m,es,U,W,b3,b4⟩:=hB;have b:Cb t h (.map id k' g c')=[id]:=by simp[Cb,A1]
     refine⟨l,e,fun {Y S tc hc nc} L f o D=> ?_⟩;rw[b]at o ⊢;have G:id<nx0:=I id (by simp[AV])
     have F:=L.put r (c:=.mp k' g c' l zf) G (by omega) B trivial ((bA.1 o).1) (by
      rw[U];have hQ:Y.Q=X.Q:=by unfold Cx.Q;rw[L.oo]
      exact⟨pid,m,es,rfl,by rw[L.oo];exact W,by rw[L.hh];exact b3,by
       unfold MR
       rw[L.hh,hQ];exact b4⟩)
     exact⟨Y,Up.refl _,F,f⟩
    ·cases e
   ·cases e
  ·cases e
theorem K3{nt nx0:Nat}{p:Pl}{l:List Pl}(h:Am nt nx0 (p::l)=zt):Am nt nx0 [p]=zt/\Am nt nx0 l=zt:=by
 cases p<;>simp[Am]at h ⊢ <;> exact h
theorem Ck{p:Pl}{l:List Pl}{i:Nat}:(i∈AV [p]->i∈AV (p::l))/\(i∈AV l->i∈AV (p::l)):=by
 refine⟨λh=> ?_,λh=> ?_⟩<;>cases p<;>simp[AV]at h ⊢ <;> simp[h]
theorem HM(r:RH X h n)(k:nx0<=1048575)(m:TR X t tP){nt:Nat}(a:nt<1048575):∀ {l:List Pl} {K:Au l->Option β},Am nt nx0 l=zt->(∀ i∈AV l,i<nx0)->Ch t h l K=zo x ->
  ∃ s,K s=zo x /\ ∀ {Y:Cx} {S:List Nat} {tc:T V} {hc:H} {nc:Nat},LInv X h nx0 Y S hc nc->TR Y tc tP->(A1 t h l++S).Nodup->(Ab tc hc nc l s).2.2<=1048575 ->
   ∃ Z,Up Y Z/\LInv X h nx0 Z (A1 t h l++S) (Ab tc hc nc l s).2.1 (Ab tc hc nc l s).2.2/\TR Z (Ab tc hc nc l s).1 tP
 |[],K,_,_,e=>⟨(),e,λL d _ _=>⟨_,Up.refl _,L,d⟩⟩
 |[p],K,hsl,hid,e=>by
  obtain⟨s,e1,hs⟩:=Lc r k m a hsl hid e;exact⟨s,e1,λL d b g=>hs L d b g⟩
 |p::q::rr,K,hsl,hid,e=>by
  unfold Ch at e;obtain⟨s1,s2⟩:=K3 hsl;obtain⟨s,e1,hs⟩:=Lc r k m a s1 (λi hi=>hid i (Ck.1 hi)) e;obtain⟨u,e2,y⟩:=HM r k m a (l:=q::rr) s2 (λi hi=>hid i (Ck.2 hi)) e1;refine⟨(s,u),e2,fun {Y S tc hc nc} L d b g=> ?_⟩;rw[M7]at b ⊢;have f:(Ab (Bo tc hc nc p s).1 (Bo tc hc nc p s).2.1 (Bo tc hc nc p s).2.2 (q::rr) u).2.2<=1048575:=g;rw[a9]at b;have w:(Cb t h p++(A1 t h (q::rr)++S)).Perm (A1 t h (q::rr)++(Cb t h p++S)):=bX _ _ _;have c:=w.nodup_iff.1 b;obtain⟨Z,C,D,E⟩:=hs L d (bQ.1 c).2.1 (aw (Ew (q::rr) _ _ _ u) f);obtain⟨o,z,A,B⟩:=y D E c f;refine⟨o,C.trans z,?_,B⟩;refine A.perm λj=> ?_<;>grind
end
end
section
variable[Pi.Gl]
open Pi (PV T Hp Blk DF UM PE AM AS AB AW Ap)
def PX(P:Program)(a:Dr)(c:Code)(fp:Pi.Fr)(h:Hp)(r:Pi.Ex×Pi.Fr×Hp):Prop:=
 ∃ N,∀ m F n,N<=m->N<=F->N<=n->Pi.AY P (Ae a) (Pi.B5 P (Ae a) F n) m c fp h=zo r
def Sr(P:Program)(i:Dr)(b bP:Nat)(c:Code)(X:Cx)(h:H)(nx:Nat)(fp:Pi.Fr){β:Type}(K:KA β)(x:β):Prop:=
 ∃ ex e h' g Y a d f,K ex e h' g=zo x/\PX P i c fp X.h (a,d,f)/\Run b bP X h nx Y h' g f/\FR Y e d/\MJ Y ex a
def Cx.bump(X:Cx)(k:Nat):Cx:={ X with h:={ X.h with nx:=X.h.nx+k } }
theorem LG(X:Cx)(k q:Nat):(X.bump k).h.get q=X.h.get q:=rfl
theorem GN(X:Cx)(k:Nat):Up X (X.bump k):=⟨λ_ _ h=>h,λ_ _ _ fz h k=>⟨⟨fz,k⟩,h⟩⟩
theorem RH.bump{X:Cx}{h:H}{n:Nat}(r:RH X h n)(k:Nat):RH (X.bump k) h (n+k):=
 ⟨λi c hi=>(r.blk i c hi).keep (GN X k) λ_ _ _ b=>⟨rfl,b⟩,r.inj,λi a hi=>bV (r.dom i a hi) (bU _ _),λq d=>r.fresh q (by have:X.h.nx+k<=q:=d;omega),r.ob⟩
theorem GM(X:Cx)(h:H)(k b bP:Nat):Ext b bP X h (X.bump k) h:=
 ⟨(Up.low X b).trans (GN X k),λ_ _ h=>h,λ_ _ h=>h,bU _ _,λ_ _ h _=>h,λ_ c a _ _ _ _ _ _ h=>⟨c,a,h⟩⟩
structure DrawnAOK (P:Program) (tab:Dr):Prop where
 go:∀ {β:Type} {x:β} {nx:Nat} {ops:List Oper} {fr:FrA} {h:H} {K:FrA->H->Option β},MZ P tab nx ops fr h K=zo x -> ∀ {X:Cx} {fp:Pi.Fr},RH X h nx->nx+ops.length<=1048575->FR X fr fp->(∀ o∈ops,∀ d,o.dst=zo d->d<fr.nt) ->
  ∃ fr' h' Y fp' hP',K fr' h'=zo x/\(∃ N,∀ F n,N<=F->N<=n->Pi.drawn P (Pi.B5 P (Ae tab) F n) X.h.nx ops fp (X.bump ops.length).h=zo (fp',hP'))/\(∀ b bP,b<=nx->bP<=X.h.nx->Run b bP X h nx Y h' (nx+ops.length) hP')/\FR Y fr' fp'
theorem CQ:∀ {l:List Nat},Bc l=zt->l.Nodup
 |[],_=>.nil
 |a::l,h=>by
  simp only[Bc,ac,aU,aN]at h;refine bA.2 ⟨λb=> ?_,CQ h.2⟩;exact h.1 a b (by simp)
section
variable{P:Program}{tab:Dr}{ann:H0}{f:FuncId}{rec:IC}
structure KB (X:Cx) (h:H) (n0:Nat) (kb:List Nat) (h0:H):Prop where
 go:∀ i c,h0.get i=zo c->i∈kb/\i<n0/\(∃ d,h.get i=zo d/\d.live)/\BR (X.low n0) c (X.π i)
theorem KB.linv{X:Cx}{h g:H}{n n0:Nat}{o:List Nat}(k:KB X h n0 o g)(r:RH X h n):LInv X h n0 (X.low n0) o g n0:=by
 refine⟨rfl,rfl,λi hi=>Cx.low_eq hi,λi hi=>Cx.low_ge (by omega),ab _,λi c hi=> ?_,λi s c q p m m' hi e b f=> ?_,λi c p m hi b=> ?_⟩
 ·obtain⟨_,a,_,z⟩:=k.go i c hi;rw[Cx.low_eq a];simp_all
 ·obtain⟨_,a,⟨d,j,l⟩,_⟩:=k.go i c hi;obtain⟨_,t,⟨x,u,w⟩,_⟩:=k.go s q e;rw[Cx.low_eq a]at b;rw[Cx.low_eq t]at f;exact r.inj _ _ _ _ _ _ _ j u l w b f
 ·obtain⟨y,a,⟨d,j,l⟩,_⟩:=k.go i c hi
  grind [Cx.low_eq]
theorem BR.lock{X:Cx}{c:BA}{a:Option At}(h:BR X c a):BR X (DO c) a:=by cases c<;>exact h
theorem BR.unlock{X:Cx}{c:BA}{a:Option At}(h:BR X (DO c) a):BR X c a:=by cases c<;>exact h
theorem KB.entry{X:Cx}{h:H}{n:Nat}{b:List Nat}{g:BA->BA}(r:RH X h n)(s:n<=1048575)(a:∀ i∈b,i<n)(p:∀ c,g c=DO c\/g c=c):KB X h n b (BU h g b):=by
 refine⟨λi c hi=> ?_⟩;obtain⟨f,d,k,rfl,l⟩:=DB (λj q=>by grind) hi;refine⟨f,a i f,⟨d,k,l⟩,?_⟩;have o:BR (X.low n) d (X.π i):=(r.blk _ _ k).keep (Up.toLow r (ab _)) λ_ _ _ m=>⟨rfl,m⟩;rcases p d with e|e
 ·rw[e];exact o.lock
 simp_all
theorem HP{h:H}:∀ {l:List (Nat×Nat×Option Code)},Fi h l=zt -> ∀ i f c,(i,f,c)∈l -> ∃ nt t k b a d,h.get i=zo (.lp f c nt t k b a d)
 |[],_,_,_,_,hm=>by cases hm
 |(j,st',pd')::l,hl,i,f,c,hm=>by
  simp only[Fi,ac]at hl;rcases aj.1 hm with e|hm
  ·simp only[Prod.mk.injEq]at e;obtain⟨e1,e2,e3⟩:=e;subst e1;subst e2;subst e3;have g:=hl.1;split at g
   ·rename_i n m nt t k b a d o;simp only[ac]at g
    grind [ai]
   ·cases g
  ·exact HP hl.2 i f c hm
theorem D5{h:H}{i e nt d:Nat}{c:Option Code}{t:T V}{f:List Nat}{b a:Code}:∀ {l:List Nat},i∈l->h.get i=zo (.lp e c nt t f b a d)->(i,e,c)∈Be h l
 |j::l,hm,hg=>by
  rcases aj.1 hm with rfl|hm
  ·simp[Be,hg]
  ·have:=D5 hm hg
   grind [Be]
theorem G5{h:H}{i:Nat}{a:Option (List DFA)}:∀ {l:List Nat},i∈l->h.get i=zo (.df a)->i∈GT h l
 |j::l,hm,hg=>by
  rcases aj.1 hm with rfl|hm
  ·simp[GT,hg]
  ·have:=G5 hm hg
   grind [GT]
theorem JL{h:H}{i:Nat}{a:Option (List DFA)}:∀ {l:List Nat},Hf h l=zt->i∈l->h.get i=zo (.df a)->a=zo []
 |j::l,hl,hm,hg=>by
  simp only[Hf,ac]at hl;rcases aj.1 hm with rfl|hm
  ·grind
  ·exact JL hl.2 hm hg
theorem Fw{h:H}:∀ {l:List Nat} {i:Nat},Fv h l=zt->i∈l->h.get i=zo (.df (zo []))
 |j::l,i,hl,hm=>by
  simp only[Fv,ac]at hl;rcases aj.1 hm with rfl|hm
  ·grind
  ·exact Fw hl.2 hm
theorem BR.lowOf{X Y:Cx}{b:Nat}{c:BA}{a M:Option At}(k:BR (X.low b) c M)(h:BR Y c a):BR (Y.low b) c a:=by
 cases c with
 |box cs fz J=>
  obtain⟨pid,n,o,A,e,j,u,w,G⟩:=h;obtain⟨_,_,z,_,_,_,_,_,I⟩:=k;exact⟨pid,n,o,A,e,j,u,w,VRL.lowOf I G⟩
 |row g c l ex fz J=>exact h
 |mp kk g c l J=>exact h
 |lp st K nt t o N E d=>
  obtain⟨pid,n,tP,P,m,e,j,u,w,G,Z⟩:=h;obtain⟨_,_,tP',_,_,_,_,_,D,I,_⟩:=k;refine⟨pid,n,tP,P,m,e,j,u,λi v hi=> ?_,?_,Z⟩
  ·obtain⟨p,hp,hv⟩:=w i v hi;obtain⟨q,_,kv⟩:=D i v hi;exact⟨p,hp,VR.lowOf kv hv⟩
  grind [Cx.low_eq,Cx.low_ge]
 |df S=>
  obtain⟨pid,n,r,e,j,u,w⟩:=h;obtain⟨_,_,s,_,_,_,D⟩:=k;refine⟨pid,n,r,e,j,u,?_⟩;cases S with
  |none=>
   grind
  |some l=>
   cases r with
   |none=>omega
   |some m=>
    cases s with
    |none=>grind
    |some m'=>
     simp only at w D ⊢
     have go:∀ {l:List DFA} {m m':List DF},L2 (DFR (X.low b)) l m'->L2 (DFR Y) l m->L2 (DFR (Y.low b)) l m:=by
      intro l
      induction l with
      |nil=>intro m m' _ h;rw[L2.nil_inv h];exact .nil
      |cons x l ih=>
       intro m m' k h;obtain⟨y,t,rfl,e,j⟩:=L2.cons_inv h;obtain⟨y',t',rfl,C,k2⟩:=L2.cons_inv k;refine .cons ?_ (ih k2 j);cases x with
       |call f args=>
        obtain⟨U,o,e1,e2,e3⟩:=e;obtain⟨W,z,_,F,B⟩:=C;exact⟨U,o,e1,VR.lowOf F e2,VRL.lowOf B e3⟩
       |bi bb O ty args=>
        obtain⟨o,e1,e3⟩:=e;obtain⟨z,_,B⟩:=C;exact⟨o,e1,VRL.lowOf B e3⟩
       |col id=>
        obtain⟨pid,n,e1,e2⟩:=e;obtain⟨L,n',g1,F⟩:=C;refine⟨pid,n,?_,e2⟩
        grind [Cx.low_eq,Cx.low_ge]
     grind
 |dead=>trivial
theorem Nn{Z Y:Cx}{d h':H}{n0 b bP:Nat}(e:n0<=b)(ext:Ext b bP Z d Y h'):Up (Z.low n0) (Y.low n0):=by
 refine⟨λi a hi=> ?_,ext.up.rows⟩;by_cases c:i<n0
 ·rw[Cx.low_eq c]at hi ⊢;exact ext.up.pi i a (by rw[Cx.low_eq (by omega)];exact hi)
 ·rw[Cx.low_ge c]at hi;cases hi
def Nq(l:List (Nat×Nat×Option Code))(i:Nat)(c a:BA):Prop:=match c with
 |.lp _ _ nt t ps asg body d=>∃ e b,(i,e,b)∈l/\a=.lp e b nt t ps asg body d
 |c=>a=c
def Qx(X:Cx)(h:H)(b:List Nat)(n0:Nat)(l:List (Nat×Nat×Option Code))(W:Cx):Prop:=
 ∀ i c,h.get i=zo c->i∈b->c.live->W.π i=X.π i /\ ∀ a,Nq l i c a->BR (W.low n0) a (W.π i)
theorem On{X Z Y:Cx}{h S h':H}{n' n0 b bP:Nat}{n:List Nat}(G:Hf h n=zt)(hkb:∀ i∈n,i<n0)(E:Qx X h n n0 (Be h n) Z)
  (F:∀ i c,h.get i=zo c->i∈n->c.live->S.get i=zo (DO c)) (hX:∀ i c,h.get i=zo c->c.live -> ∃ a,X.π i=zo a) (ext:Ext b bP Z S Y h') (hb:n0<=b) (O:RH Y h' n') (U:Fv h' (GT h n)=zt) {l:List (Nat×Nat×Option Code)} (W:Fi h' l=zt) (I:l.map (·.1)=(Be h n).map (·.1)) :
  Qx X h n n0 l Y /\ ∀ i c,h.get i=zo c->i∈n->c.live -> ∃ d,h'.get i=zo d/\d.live:=by
 have up:=Nn hb ext
 have C:∀ i c,h.get i=zo c->i∈n->c.live->Y.π i=X.π i:=λi c hi j f=>by
  obtain⟨a,ha⟩:=hX i c hi f;obtain⟨k1,_⟩:=E i c hi j f;rw[ha]at k1 ⊢;exact ext.up.pi i a (by grind [Cx.low_eq])
 have locked:∀ i c,h.get i=zo c->i∈n->c.live->(DO c).locked=zt->Nq (Be h n) i c c->h'.get i=zo (DO c)/\BR (Y.low n0) c (Y.π i):=λi c hi j f J hn=>by
  have g:=ext.lk i (DO c) (F i c hi j f) J;refine⟨g,?_⟩;have u:=(O.blk _ _ g).unlock;exact BR.lowOf ((E i c hi j f).2 c hn) u
 refine⟨λi c hi j f=>⟨C i c hi j f,λD o=> ?_⟩,λi c hi j f=> ?_⟩
 ·cases c with
  |box cs fz B=>rw[show D=_ from o];exact(locked i _ hi j f rfl rfl).2
  |row g c x ex fz B=>rw[show D=_ from o];exact(locked i _ hi j f rfl rfl).2
  |mp k g c x B=>rw[show D=_ from o];exact(locked i _ hi j f rfl rfl).2
  |dead=>exact f.elim
  |df ds=>
   rw[show D=_ from o];have:=JL G j hi;subst this;have g:=Fw U (G5 j hi);have u:=O.blk _ _ g;obtain⟨pid,m,z,q1,q2,q3,q4⟩:=u;refine⟨pid,m,z,q1,q2,q3,?_⟩;cases z with
   |none=>exact q4
   |some mm=>rw[show mm=[]from L2.nil_inv q4];exact .nil
  |lp s r nt t ps w p d=>
   obtain⟨P,M,K,rfl⟩:=o;obtain⟨L,t',N,y,q,d',g⟩:=HP W i P M K;have hZ:=(E i _ hi j f).2 (.lp s r nt t ps w p d) ⟨s,r,D5 j hi,rfl⟩;obtain⟨pid,m,tP,dP,m2,z1,z2,z3,z4,z5,z6⟩:=hZ;obtain⟨st',pe',y3⟩:=ext.lps _ _ _ _ _ _ _ _ _ z3;have u:=O.blk _ _ g
   have A:Y.π i=zo (.blk pid m):=by
    rw[C i _ hi j f,<- (E i _ hi j f).1];exact z1
   rw[A]at u;obtain⟨_,_,tP2,dP2,m3,w1,w2,w3,_,_,_⟩:=u;cases w1;rw[y3]at w3;cases w3;rw[A];exact⟨pid,m,tP,dP,m2,rfl,w2,y3,z4.mono up,up.pi _ _ z5,z6⟩
 ·cases c with
  |box cs fz B=>exact⟨_,(locked i _ hi j f rfl rfl).1,trivial⟩
  |row g c x ex fz B=>exact⟨_,(locked i _ hi j f rfl rfl).1,trivial⟩
  |mp k g c x B=>exact⟨_,(locked i _ hi j f rfl rfl).1,trivial⟩
  |dead=>exact f.elim
  |df ds=>exact⟨_,Fw U (G5 j hi),trivial⟩
  |lp s r nt t ps w p d=>
   have h0:=D5 j hi;have:i∈(Be h n).map (·.1):=ba.2 ⟨_,h0,rfl⟩;rw[<- I]at this;obtain⟨⟨i',P,M⟩,K,e⟩:=ba.1 this;simp only at e;subst e;obtain⟨L,t',N,y,q,d',g⟩:=HP W i' P M K;exact⟨_,g,trivial⟩
end
end
section
variable[Pi.Gl]
open Pi (PV T Hp Blk DF UM PE AM AS AB AW Ap)
section
variable{P:Program}{tab:Dr}{β:Type}{x:β}
def S2(X:Cx)(e:ExA)(a:Pi.Ex)(pay:Ty)(y:pay.den)(k:ExK):Prop:=∀ Z:Cx,Z.h=X.h->Z.O=X.O->MJ Z (KC pay y k) a
theorem RC{X:Cx}{h:H}{e:ExA}{b:Pi.Ex}{pay:Ty}{k:ExK}{K:pay.den->Option β}(l:MJ X e b)(s:TK e k=zt)(a:TE h e pay k K=zo x):∃ y,K y=zo x/\S2 X e b pay y k:=by
 cases k with
 |exit i=>
  cases e with
  |exit j=>
   replace a:=AN a;obtain⟨f,a⟩:=a;have:=ai f;subst this;exact⟨_,a,λZ _ _=>l⟩
  |_=>cases a
 |ret=>
  cases e with
  |ret=>exact⟨_,a,λZ _ _=>l⟩
  |_=>cases a
 |pan t g c=>
  cases e with
  |panic v=>
   cases v with
   |ifc u v=>
    replace a:=AN a;obtain⟨f,a⟩:=a;have:=ai f;subst this;split at a
    ·rename_i hc;subst hc;obtain⟨p,rfl,d⟩:=l;simp only[VR]at d;obtain⟨q,rfl,d⟩:=d;obtain⟨y,e1,o⟩:=Dy d a;refine⟨y,e1,λZ w n=> ?_⟩;have m:KC c y (.pan t g c)=.panic (.ifc t (OT g c y)):=dif_pos rfl;rw[m];refine⟨_,rfl,?_⟩;simp only[VR];refine⟨q,rfl,Fy ?_⟩;have r:Z.Q=X.Q:=by unfold Cx.Q;rw[n]
     simp_all
    ·cases a
   |_=>cases a
  |_=>cases a
theorem JV{X:Cx}{h:H}{d:List Nat}{e:ExA}{b:Pi.Ex}{pay:Ty}(m:MJ X e b):∀ {l:List (ExK×List (Nat×Nat×Option Code))} {i:Nat} {K:Nat->pay.den->Option β},HE h d e pay i l K=zo x ->
  ∃ j k f y,l[j]?=zo (k,f)/\Fi h f=zt/\f.map (·.1)=d/\K (i+j) y=zo x/\S2 X e b pay y k
 |[],i,K,a=>by cases a
 |(k,f)::l,i,K,a=>by
  unfold HE at a;replace a:=BP a;rcases a with⟨c,a⟩|⟨c,a⟩
  ·simp only[ac]at c;obtain⟨y,e1,e2⟩:=RC m c.1 a;exact⟨0,k,f,y,rfl,c.2.1,eq_of_beq c.2.2,e1,e2⟩
  ·obtain⟨j,q,g,y,r,n,o,s,p⟩:=JV m a;exact⟨j+1,q,g,y,by grind,n,o,by grind,p⟩
theorem Ix{pay:Ty}{y:pay.den}:∀ {l:List (ExK×List (Nat×Nat×Option Code))} {i j:Nat} {k:ExK} {a:List (Nat×Nat×Option Code)} {K:ExA->List (Nat×Nat×Option Code)->Option β},l[j]?=zo (k,a)->L6 pay y (i+j) i l K=zo x->K (KC pay y k) a=zo x
 |[],i,j,k,a,K,hj,e=>by cases e
 |[(k',lp')],i,j,k,a,K,hj,e=>by
  cases j with
  |zero=>simp at hj;obtain⟨rfl,rfl⟩:=hj;exact e
  |succ j=>simp at hj
 |(k',lp')::b::l,i,j,k,a,K,hj,e=>by
  unfold L6 at e;cases j with
  |zero=>
   simp at hj;obtain⟨rfl,rfl⟩:=hj;rcases BO e with⟨_,e⟩|⟨c,e⟩
   ·exact e
   ·simp[neq]at c
  |succ j=>
   rcases BO e with⟨c,e⟩|⟨c,e⟩
   ·simp[neq]at c
   ·exact Ix (i:=i+1) (j:=j) (by simpa using hj) (by grind)
theorem Om{t:T V}{l:List Nat}{W:Cx}{c a:T PV}(f:∀ i∈l,i<1048575)(h:TR W (BV t l) c)(same:∀ k∈l,a.get k=c.get k):TR W (BV t l) a:=λk v b=>by
 obtain⟨p,d,e⟩:=h k v b;exact⟨p,by rw[same k (HL f b).1];exact d,e⟩
structure It (P:Program) (X:Cx) (h:H) (nx bP:Nat) (fr:FrA) (kb keep:List Nat) (pl:List Pl) (lp:List (Nat×Nat×Option Code)) (W:Cx) (fp:Pi.Fr) (s:Au pl):Prop where
 go:∃ hW nW src,RH W hW nW/\Qx X h kb nx lp W/\(∀ i c,h.get i=zo c->i∈kb->c.live -> ∃ d,hW.get i=zo d/\d.live)/\(src++kb).Nodup /\
  ∀ {Y:Cx} {S:List Nat} {tc:T V} {hc:H} {nc:Nat},LInv W hW nx Y S hc nc->TR Y tc fp.t->(src++S).Nodup->(Ab tc hc nc pl s).2.2<=1048575 ->
   ∃ Z,Up Y Z/\LInv W hW nx Z (src++S) (Ab tc hc nc pl s).2.1 (Ab tc hc nc pl s).2.2/\TR Z (Ab tc hc nc pl s).1 fp.t
 t:TR (W.low nx) (BV fr.t keep) fp.t
 ds:L2 (DFR (W.low nx)) fr.ds fp.ds
 nt:fp.nt=fr.nt
 up:fp.up=zn
 ro:ROR (W.low nx) fr.ro fp.ro
 ext:Ext nx bP X .lf W .lf
def ML(h:H)(f:List Nat)(b:List (Nat×Nat×Option Code))(e:H):Prop:=∀ i c,e.get i=zo c->i∈f /\ ∃ d,h.get i=zo d/\d.live/\(Nq b i d c \/ ∃ a,Nq b i d a/\c=DO a)
theorem It.lay{X:Cx}{h b:H}{nx bP:Nat}{fr:FrA}{u keep:List Nat}{pl:List Pl}{G:List (Nat×Nat×Option Code)}{W:Cx}{fp:Pi.Fr}{s:Au pl}(I:It P X h nx bP fr u keep pl G W fp s)(f:fr.nt<1048575)(A:fr.up=zn)(x:∀ i∈u,i<nx)(N:ML h u G b)
  (S:(Ab (BV fr.t keep) b nx pl s).2.2<=1048575) :
  ∃ Z,Z.h=W.h/\RH Z (Ab (BV fr.t keep) b nx pl s).2.1 (Ab (BV fr.t keep) b nx pl s).2.2/\FR Z { fr with t:=(Ab (BV fr.t keep) b nx pl s).1 } fp/\Up (W.low nx) Z/\(∀ i,i<nx->Z.π i=W.π i)/\Z.O=W.O/\nx<=(Ab (BV fr.t keep) b nx pl s).2.2:=by
 obtain⟨M,nW,src,r,L,j,z,g⟩:=I.go
 have B:KB W M nx u b:=⟨λi c hi=>by
  obtain⟨n,d,E,F,o⟩:=N i c hi;refine⟨n,x i n,j i d E n F,?_⟩;obtain⟨_,U⟩:=L i d E n F;rcases o with o|⟨D,o,rfl⟩
  ·grind
  ·exact(U D o).lock⟩
 obtain⟨Z,C,e,z3⟩:=g (B.linv r) I.t z S
 have Y:RH Z (Ab (BV fr.t keep) b nx pl s).2.1 (Ab (BV fr.t keep) b nx pl s).2.2:=by
  refine⟨λi c hi=>(e.blk i c hi).1,λi i' c D p m m' hi w _ _ J K=>e.inj _ _ _ _ _ _ _ hi w J K,λi a hi=> ?_,λq l=> ?_,λq l=> ?_⟩
  ·by_cases y:i<(Ab (BV fr.t keep) b nx pl s).2.2
   ·exact y
   ·rw[e.hi i (by omega)]at hi;cases hi
  ·rw[e.hh]at l ⊢;exact r.fresh q l
  ·rw[e.hh];rw[e.oo]at l;exact r.ob q l
 refine⟨Z,e.hh,Y,⟨z3,I.nt,f,I.ds.mono λ_ _ k=>k.mono C,?_,I.ro.mono C⟩,C,e.lo,e.oo,e.le⟩;rw[A];exact I.up
theorem Ho{i:Nat}:∀ {pl:List Pl} {tc:T V} {hc:H} {nc:Nat} {s:Au pl},i<nc->i ∉ AV pl->(Ab tc hc nc pl s).2.2<=1048575->(∀ j∈AV pl,j<1048575)->(Ab tc hc nc pl s).2.1.get i=hc.get i:=by
 have sg:∀ {sg:List Sgm} {hc:H} {nc:Nat} {s:DT sg},i<nc->(A5 hc nc sg s).2.2<=1048575->(A5 hc nc sg s).2.1.get i=hc.get i:=by
  intro sg
  induction sg with
  |nil=>intro hc nc s _ _;rfl
  |cons a sg e=>
   intro hc nc s hi b;cases sg with
   |nil=>
    cases a with
    |lf c=>rfl
    |ow g c ex=>
     show(AG hc nc _).get i=_;have:nc+1<=1048575:=b;rw[AJ (by omega),zx (by omega)]
    |kp id=>rfl
    |cn c=>rfl
    |er=>rfl
    |ek=>rfl
    |ef=>rfl
   |cons q m=>
    cases a with
    |lf c=>exact e hi b
    |kp id=>exact e hi b
    |cn c=>exact e hi b
    |er=>exact e hi b
    |ek=>exact e hi b
    |ef=>exact e hi b
    |ow g c ex=>
     have f:(A5 (AG hc nc (.row g c s.1 ex zf zf)) (nc+1) (q::m) s.2).2.2<=1048575:=b;have u:=BN (q::m) (AG hc nc (.row g c s.1 ex zf zf)) (nc+1) s.2;have:=e (hc:=AG hc nc (.row g c s.1 ex zf zf)) (nc:=nc+1) (s:=s.2) (by omega) f;show(A5 (AG hc nc (.row g c s.1 ex zf zf)) (nc+1) (q::m) s.2).2.1.get i=_;rw[this,AJ (by omega),zx (by omega)]
 have o:∀ {p:Pl} {tc:T V} {hc:H} {nc:Nat} {s:p.den},i<nc->i ∉ AV [p]->(Bo tc hc nc p s).2.2<=1048575->(∀ j∈AV [p],j<1048575)->(Bo tc hc nc p s).2.1.get i=hc.get i:=by
  intro p tc hc nc s hi d b n;cases p with
  |slot=>rfl
  |cn=>rfl
  |swin k g c=>
   show(AG hc nc _).get i=_;have:nc+1<=1048575:=b;rw[AJ (by omega),zx (by omega)]
  |srow k g c ex=>
   show(AG hc nc _).get i=_;have:nc+1<=1048575:=b;rw[AJ (by omega),zx (by omega)]
  |box id r=>
   show(AG (A5 hc nc r s).2.1 id _).get i=_;rw[AJ (n id (by simp[AV])),zx (by simp_all[AV])];exact sg hi b
  |map id k g c=>
   show(AG hc id _).get i=_;rw[AJ (n id (by simp[AV])),zx (by intro hh;subst hh;exact d (by simp[AV]))]
 intro pl
 induction pl with
 |nil=>intros;rfl
 |cons p l e=>
  intro tc hc nc s hi d b n;cases l with
  |nil=>exact o hi d b n
  |cons q m=>
   have f:(Ab (Bo tc hc nc p s.1).1 (Bo tc hc nc p s.1).2.1 (Bo tc hc nc p s.1).2.2 (q::m) s.2).2.2<=1048575:=b;have u:=Ew (q::m) (Bo tc hc nc p s.1).1 (Bo tc hc nc p s.1).2.1 (Bo tc hc nc p s.1).2.2 s.2;have t:=o (p:=p) (tc:=tc) (hc:=hc) (nc:=nc) (s:=s.1) hi (λh=>d (Ck.1 h)) (by omega) (λj h=>n j (Ck.1 h));show(Ab (Bo tc hc nc p s.1).1 (Bo tc hc nc p s.1).2.1 (Bo tc hc nc p s.1).2.2 (q::m) s.2).2.1.get i=_;rw[e (bV hi (F6 tc hc nc p s.1)) (λh=>d (Ck.2 h)) f (λj h=>n j (Ck.2 h)),t]
theorem D2{h:H}{f:BA->BA}:∀ {l:List Nat} {i:Nat} {c:BA},(∀ j∈l,j<1048575)->i∈l->h.get i=zo c->c.live->(BU h f l).get i=zo (f c)
 |j::l,i,c,hl,hm,hg,hv=>by
  have g:(2:Nat) ^ 20-1=1048575:=by decide
  have d:=hl j (by simp);unfold BU;by_cases a:i=j
  ·subst a;rw[hg];cases c with
   |dead=>exact hv.elim
   |_=>simp only;rw[T.get_put 20 _ _ _ _ (by omega),zy rfl]
  ·have b:i∈l:=by
    simp_all
   have e:=D2 (f:=f) (λj d=>hl j (by simp[d])) b hg hv;split
   ·exact e
   ·simp_all[T.get_put,zx]
   ·exact e
theorem F7{h:H}:∀ {l:List (Nat×Nat×Option Code)} {i:Nat},(∀ p∈l,p.1<1048575)->(CZ h l).get i=h.get i \/ ∃ g f nt t k b a d e c,(i,g,f)∈l/\h.get i=zo (.lp e c nt t k b a d)/\(CZ h l).get i=zo (.lp g f nt t k b a d)
 |[],i,_=>.inl rfl
 |(j,g,f)::l,i,hl=>by
  have q:=F7 (h:=h) (l:=l) (i:=i) λp n=>hl p (by simp[n]);have m:=hl (j,g,f) (by simp);unfold CZ;split
  ·rename_i e c nt t k b a d o;rw[AJ m]
   grind
  grind
end
end
section
variable[Pi.Gl]
open Pi (PV T Hp Blk DF UM PE AM AS AB AW Ap)
section
variable{X:Cx}{h:H}{n b bP:Nat}
theorem RH.drop(r:RH X h n)(S:n<=1048575){j:Nat}{g:Bool}{c:Ty}{l:List c.den}{ex fz:Bool}(C:h.get j=zo (.row g c l ex fz zf)){h':H}(hh:h'=BU h (λb=>b) ((bW n).filter λi=> !aa i j)) :
  (∃ Y:Cx,Y.π=X.π/\Y.h=X.h/\Up X Y/\RH Y h' n/\Ext b bP X h Y h' /\ ∀ pid m,X.π j=zo (.blk pid m)->Y.Q pid) /\ ∀ i o,h.get i=zo o->o.live->i≠j->h'.get i=zo o:=by
 let Y:Cx:={ π:=X.π,h:=X.h,O:=λq=>X.O q /\ ∀ m,X.π j≠zo (.blk q m) }
 have u:Up X Y:=⟨λ_ _ h=>h,λ_ _ _ fz w k=>⟨⟨fz,k⟩,λt=>w t.1⟩⟩
 have B:∀ i∈(bW n).filter λi=> !aa i j,i<1048575:=λi hi=>by
  grind
 have z:∀ {i:Nat} {c:BA},h'.get i=zo c->i≠j/\h.get i=zo c/\c.live:=fun {i o} hi=>by
  rw[hh]at hi;obtain⟨E,d,x,rfl,A⟩:=DB B hi;refine⟨λe=> ?_,x,A⟩<;>simp_all
 have hs:∀ i o,h.get i=zo o->o.live->i≠j->h'.get i=zo o:=λi o hi s I=>by
  obtain⟨a,G⟩:=(r.blk _ _ hi).live_blk s;rw[hh];refine D2 (f:=λb=>b) B (cN.2 ⟨cQ.2 (r.dom _ _ G),?_⟩) hi s;cases w:aa i j<;>simp_all
 refine⟨⟨Y,rfl,rfl,u,⟨λi o hi=> ?_,λi U N P p m m' hi y J K=> ?_,r.dom,r.fresh,λq w=>r.ob q w.1⟩,⟨(Up.low X b).trans u,λ_ _ h=>h,λ_ _ h=>h,ab _,λi o hi D=> ?_,λq M L _ _ _ _ _ _ h=>⟨M,L,h⟩⟩,λpid m e t=>t.2 m e⟩,hs⟩
 ·obtain⟨E,x,A⟩:=z hi;exact(r.blk i o x).keep u λpid m e t=>⟨rfl,t,λm' F=>E (r.inj _ _ _ _ _ _ _ x C A trivial e F)⟩
 ·exact r.inj _ _ _ _ _ _ _ (z hi).2.1 (z y).2.1 J K
 ·have s:o.live:=by cases o<;>first|trivial|cases D
  exact hs i o hi s λe=>by subst e;rw[C]at hi;cases hi;cases D
theorem N9{β:Type}{x:β}(r:RH X h n)(D:n<=1048575){v:V}{p:PV}(o:VR X v p){K:V->H->Option β}(e:Rg h n v K=zo x) :
  ∃ F h' Y,K F h'=zo x/\Y.π=X.π/\Y.h=X.h/\Up X Y/\RH Y h' n/\Ext b bP X h Y h'/\VR Y F p /\ ∀ i cs fz,h.get i=zo (.box cs fz zf)->h'.get i=zo (.box cs fz zf):=by
 unfold Rg at e;split at e
 ·rename_i id;split at e
  ·rename_i g c l ex fz d;obtain⟨⟨Y,y,z,t,A,B,C⟩,hs⟩:=r.drop (b:=b) (bP:=bP) D d rfl;refine⟨_,_,Y,e,y,z,t,A,B,?_,λi cs fz hi=>hs i _ hi trivial λe=>by simp_all⟩;simp only[VR]at o ⊢;cases f:X.π id with
   |none=>simp_all
   |some a=>
    rw[f]at o;have s:=r.blk _ _ d;rw[f]at s;rcases s with⟨pid,len,es,j,k,w,G,I,J,L,q⟩|⟨k,_,w⟩|⟨es,k,_,_,w⟩
    ·cases k;simp only at o;subst o;refine .inr (.inr ⟨pid,0,len,es,ex,j,rfl,(λh=>by cases h),C _ _ f,by simp_all,by omega,Ar rfl q,?_⟩);rw[List.drop_zero,List.take_of_length_le (by omega)];exact EDR.mono t q
    all_goals simp_all
  ·cases e
 ·rename_i id off len;split at e
  ·rename_i g c l ex fz d;replace e:=AI e;obtain⟨u,e⟩:=e;obtain⟨⟨Y,y,z,t,A,B,C⟩,hs⟩:=r.drop (b:=b) (bP:=bP) D d rfl;refine⟨_,_,Y,e,y,z,t,A,B,?_,λi cs fz hi=>hs i _ hi trivial λe=>by simp_all⟩;simp only[VR]at o ⊢;obtain⟨pid,m,f,rfl⟩:=o;have s:=r.blk _ _ d;rw[f]at s;rcases s with⟨pid,E,es,j,k,w,G,I,J,L,q⟩|⟨k,_⟩|⟨es,k,_⟩
   ·cases k;refine .inr (.inr ⟨_,off,len,es,ex,j,rfl,(λh=>by cases h),C _ _ f,by simp_all,?_,Ar rfl q,?_⟩)
    ·rw[<- q.length];simpa[B2,A0,AQ]using u
    ·exact KY (EDR.mono t q) off len
   all_goals simp_all
  ·cases e
 ·cases e
theorem HQ:∀ {l:List PV} {i:Nat} {p:PV},Pi.lget l i=zo p->Pi.lset l i p=l
 |[],_,_,e=>by cases e
 |a::l,i,p,e=>by
  unfold Pi.lget at e;unfold Pi.lset;cases b:aa i 0 with
  |true=>simp_all
  |false=>simp_all[zj,HQ]
theorem SE{β:Type}{x:β}{v:V}{p:PV}(a:VR X v p){K:V->Option β}(e:UN v K=zo x):K .dd=zo x/\VR X .dd p:=by
 unfold UN at e;split at e
 ·rename_i id;refine⟨e,?_⟩;simp only[VR]at a ⊢
  grind
 ·refine⟨e,?_⟩;simp only[VR]at a ⊢;obtain⟨_,_,_,rfl⟩:=a;exact .inr (.inr ⟨_,_,_,rfl⟩)
 ·cases e
theorem Kz{β:Type}{x:β}(B:n<=1048575):∀ {l:List (Nat×Nat)} {X:Cx} {h:H} {K:H->Option β},RH X h n->QX n l h K=zo x -> ∃ h' Y,K h'=zo x/\Y.h=X.h/\Up X Y/\RH Y h' n/\Ext b bP X h Y h'
 |[],X,h,K,r,e=>⟨h,X,e,rfl,Up.refl X,r,Ext.refl _ _ _ _⟩
 |(d,i)::l,X,h,K,r,e=>by
  unfold QX at e;split at e
  ·rename_i cs fz o;replace e:=BP e;rcases e with⟨_,e⟩|⟨_,e⟩
   ·replace e:=AD e;obtain⟨v,D,e⟩:=e;obtain⟨pid,m,ps,w,j,O,t,P,u⟩:=r.blk _ _ o;obtain⟨p,C,g⟩:=u.lget D;obtain⟨e,z⟩:=SE g e;have a:d<1048575:=by have:=r.dom _ _ j;omega
    have F:RH X (AG h d (.box (Pi.lset cs (i-1000000) .dd) fz zf)) n:=r.reput a o trivial (by
     rw[j];refine⟨_,_,_,_,rfl,O,t,P,?_⟩;have:=u.lset (i-1000000) z
     rw[HQ C]at this;exact this)
    obtain⟨y,Z,e,J,L,M,N⟩:=Kz B (l:=l) F e;refine⟨y,Z,e,J,L,M,Ext.trans ?_ N⟩;refine⟨Up.low X b,λ_ _ h=>h,λ_ _ h=>h,ab _,λk c' s A=> ?_,λq G E _ _ _ _ _ _ h=>⟨G,E,h⟩⟩;rw[AJ a];by_cases f:k=d
    ·subst f;rw[o]at s;cases s;cases A
    simp_all
   replace e:=AD e;obtain⟨v,D,e⟩:=e;obtain⟨pid,m,ps,w,j,O,t,P,u⟩:=r.blk _ _ o;obtain⟨p,C,g⟩:=u.lget D;obtain⟨v',h',Y,e,y1,I,y3,y4,y5,y6,y7⟩:=N9 (b:=b) (bP:=bP) r B g e;have c:=y7 _ _ _ o;have a:d<1048575:=by have:=r.dom _ _ j;omega
   obtain⟨W,m2,ps2,fz2,S,c2,U,c4,c5⟩:=y4.blk _ _ c;rw[y1,j]at S;cases S;rw[I,t]at U;cases U
   have F:RH Y (AG h' d (.box (Pi.lset cs i v') fz zf)) n:=y4.reput a c trivial (by
    rw[y1,j];refine⟨_,_,_,_,rfl,c2,by rw[I];exact t,c4,?_⟩;have:=c5.lset i y6
    rw[HQ C]at this;exact this)
   obtain⟨y,Z,e,J,L,M,N⟩:=Kz B (l:=l) F e;refine⟨y,Z,e,by rw[J,I],y3.trans L,M,(y5.trans ?_).trans N⟩;refine⟨Up.low Y b,λ_ _ h=>h,λ_ _ h=>h,ab _,λk c' s A=> ?_,λq G E _ _ _ _ _ _ h=>⟨G,E,h⟩⟩;rw[AJ a];by_cases f:k=d
   ·subst f;rw[c]at s;cases s;cases A
   simp_all
  ·cases e
end
end
section
variable[Pi.Gl]
open Pi (PV T Hp Blk DF UM PE AM AS AB AW Ap)
theorem RL{α β γ δ:Type}{f:α->Option (LR δ γ)}{s:α}{k:δ->Option β}{a:γ->Option β}{x:β}(e:jn f s k a=zo x):(∃ y,f s=zo (.nx y)/\k y=zo x) \/ ∃ y,f s=zo (.dn y)/\a y=zo x:=by
 grind [jn]
theorem Mw{α β:Type}{f:α->Option (LR α β)}{s:α}{r:β}(e:Ih 0 f s=zo r):False:=by cases e
section
variable{P:Program}{tab:Dr}{ann:H0}{f:FuncId}{rec:IC}
def MM(P:Program)(a:Dr)(ann:H0)(f:FuncId)(rec:IC)(n:Nat)(c:Code):Prop:=
 ∀ {β:Type} {x:β} {b bP:Nat} {fr:FrA} {h:H} {nx:Nat} {K:KA β},Ga P a ann f rec n β b c fr h nx K=zo x -> ∀ {X:Cx} {fp:Pi.Fr},RH X h nx->nx<=1048575->FR X fr fp->b<=nx->bP<=X.h.nx->Sr P a b bP c X h nx fp K x
def Ud(P:Program)(c:Dr)(ann:H0)(f:FuncId)(rec:IC)(n:Nat)(keep:List Nat)(pl0 pl1 plx:List Pl)(ex:List (ExK×List (Nat×Nat×Option Code)))(pay:Ty)(b:List Nat)(x:Code)(fr:FrA)(h:H)(nx:Nat)(s:Au pl0):Option (LR (Au pl1) (Nat×Au plx×pay.den)):=
 match Ab (BV fr.t keep) (BU h DO b) nx pl0 s with
 |(t1,h1,nx1)=>bif !Nat.ble nx1 1048575 then zn else Ga P c ann f rec n (LR (Au pl1) (Nat×Au plx×pay.den)) nx1 x { fr with t:=t1 } h1 nx1 λe a h' _=>
  bif !aa a.ds.length fr.ds.length || !Fv h' (GT h b)then zn else match e with
  |.normal=>bif Bc (A1 a.t h' pl1++b)&&Fi h' (Be h b)then Ch a.t h' pl1 λs'=>zo (.nx s')else zn
  |e=>bif Bc (A1 a.t h' plx++b)then HE h' ((Be h b).map (·.1)) e pay 0 ex λi p=>Ch a.t h' plx λs'=>zo (.dn (i,s',p))else zn
theorem K0{n:Nat}{keep:List Nat}{pl0 pl1 plx:List Pl}{ex:List (ExK×List (Nat×Nat×Option Code))}{pay:Ty}{g:List Nat}{c:Code}{fr:FrA}{h:H}{nx bP:Nat}(B:MM P tab ann f rec n c){X:Cx}(rX:RH X h nx)(hnx:nx<=1048575)(z:fr.nt<1048575)(hup:fr.up=zn)(G:∀ i∈g,i<nx)(hids:∀ i∈AV pl0,i<nx)(u:∀ i∈AV pl1,i<nx)(E:∀ i∈AV plx,i<nx)(M:Am fr.nt nx pl1=zt)(hslx:Am fr.nt nx plx=zt)(hdis:∀ i∈g,i ∉ AV pl0)(hwr:∀ k∈B1 c,k ∉ keep)(J:∀ k∈keep,k<1048575)(hdf:Hf h g=zt)(hbP:bP<=X.h.nx)
  {W:Cx} {fp:Pi.Fr} {s:Au pl0} (I:It P X h nx bP fr g keep pl0 (Be h g) W fp s) {r:LR (Au pl1) (Nat×Au plx×pay.den)} (e:Ud P tab ann f rec n keep pl0 pl1 plx ex pay g c fr h nx s=zo r) :
  ∃ Y l m,PX P tab c fp W.h (m,l,Y.h)/\((∃ s',r=.nx s'/\m=.normal/\It P X h nx bP fr g keep pl1 (Be h g) Y l s') \/
   ∃ j k lp y s',r=.dn (j,s',y)/\ex[j]?=zo (k,lp)/\m ≠ .normal/\lp.map (·.1)=(Be h g).map (·.1)/\It P X h nx bP fr g keep plx lp Y l s' /\ ∀ Z:Cx,Z.h=Y.h->Z.O=Y.O->MJ Z (KC pay y k) m):=by
 have A:∀ j∈g,j<1048575:=λj hj=>by grind
 unfold Ud at e;generalize hL:Ab (BV fr.t keep) (BU h DO g) nx pl0 s=L at e;obtain⟨t1,h1,nx1⟩:=L;simp only at e;replace e:=BE e;obtain⟨hb,e⟩:=e;have hb':nx1<=1048575:=by simpa using hb
 have D:ML h g (Be h g) (BU h DO g):=λi c hi=>by
  obtain⟨k1,d,k2,rfl,k3⟩:=DB A hi;refine⟨k1,d,k2,k3,.inr ⟨d,?_,rfl⟩⟩;cases d with
  |lp st pd nt t ps asg body dd=>exact⟨st,pd,D5 k1 k2,rfl⟩
  |_=>rfl
 obtain⟨Z,z1,z2,z3,z4,z5,z6,z7⟩:=I.lay z hup G D (by simp_all);rw[hL]at z2 z3 z7;simp only at z2 z3 z7;obtain⟨exx,C,h',nx',Y,m,l,hP',o,q2,S,q4,q5⟩:=B e z2 hb' z3 (ab _) (bP:=bP) (by rw[z1];exact aw hbP I.ext.nx);replace o:=BE o;obtain⟨hck,o⟩:=o;simp only[af,aq]at hck;obtain⟨c1,c3⟩:=hck
 have hKZ:Qx X h g nx (Be h g) Z:=λi d hi F w=>by
  obtain⟨hW,nW,src,rW,hK,_⟩:=I.go;obtain⟨k1,k2⟩:=hK i d hi F w
  simp_all[Cx.low,if_true,if_false]
 have h1k:∀ i d,h.get i=zo d->i∈g->d.live->h1.get i=zo (DO d):=λi d hi F w=>by
  have:=Ho (i:=i) (pl:=pl0) (tc:=BV fr.t keep) (hc:=BU h DO g) (nc:=nx) (s:=s) (G i F) (hdis i F) (by simp_all) (λj hj=>by grind);rw[hL]at this;rw[this];exact D2 A F hi w
 have hXs:∀ i d,h.get i=zo d->d.live -> ∃ a,X.π i=zo a:=λi d hi w=>(rX.blk i d hi).live_blk w;obtain⟨N,hN⟩:=q2;have U:Kp (B1 c) fp l:=B8 (by rw[I.nt];exact z) (hN N N N (ab _) (ab _) (ab _))
 have hds:l.ds=fp.ds:=by
  obtain⟨p,hp⟩:=U.ds;have l1:=q4.ds.length;have l2:=I.ds.length
  simp_all
 have x:Up (W.low nx) (Y.low nx):=by
  have u1:Up (W.low nx) (Z.low nx):=by
   refine⟨λi a hi=> ?_,z4.rows⟩
   grind [Cx.low_eq,Cx.low_ge]
  exact u1.trans (Nn z7 S.ext)
 have extZ:Ext nx bP W .lf Z .lf:=⟨z4,λj hj k=>by simp_all,λq _ k=>by rw[z1];exact k,by simp_all,λ_ _ k=>(by cases k),λq st pe nt t ps asg body d k=>⟨st,pe,by rw[z1];exact k⟩⟩
 have extY:Ext nx bP Z .lf Y .lf:=by
  have:=S.ext.le (b:=nx) (bP:=bP) z7 (ab _);exact⟨this.up,this.pin,this.hpn,this.nx,λ_ _ k=>(by cases k),this.lps⟩
 have ext2:=(I.ext.trans extZ).trans extY
 have mk:∀ {pl1:List Pl} {lp:List (Nat×Nat×Option Code)},(∀ i∈AV pl1,i<nx)->Am fr.nt nx pl1=zt->Bc (A1 C.t h' pl1++g)=zt->Fi h' lp=zt->lp.map (·.1)=(Be h g).map (·.1) -> ∀ {γ:Type} {y:γ} {K:Au pl1->Option γ},Ch C.t h' pl1 K=zo y -> ∃ s',K s'=zo y/\It P X h nx bP fr g keep pl1 lp Y l s':=by
  intro pl1 lp u M c2 hl hli γ y K hdec;obtain⟨hKY,hlY⟩:=On hdf G hKZ h1k hXs S.ext z7 S.rh c3 hl hli;obtain⟨s',e1,hlay⟩:=HM (nx0:=nx) S.rh hnx q4.t q4.big (by rw[<- q4.nt,U.nt,I.nt];exact M) u hdec;refine⟨s',e1,⟨⟨h',nx',A1 C.t h' pl1,S.rh,hKY,hlY,CQ c2,hlay⟩,Om J (I.t.mono x) (λk F=>U.t k λhw=>hwr k hw F),?_,by rw[U.nt];exact I.nt,U.up I.up,by rw[U.ro];exact I.ro.mono x,ext2⟩⟩;rw[hds];exact I.ds.mono λ_ _ k=>k.mono x
 have hpx:PX P tab c fp W.h (m,l,Y.h):=by
  refine⟨N,?_⟩;rw[S.hp,<- z1];exact hN
 cases exx with
 |normal=>
  simp only at o;replace o:=AN o;obtain⟨hl,o⟩:=o;rw[ac]at hl;obtain⟨s',e1,I'⟩:=mk u M hl.1 hl.2 rfl o;cases e1;exact⟨Y,l,m,hpx,.inl ⟨s',rfl,q5,I'⟩⟩
 |_=>
  simp only at o;replace o:=AN o;obtain⟨c2,o⟩:=o;obtain⟨j,k,lp,y,f1,f2,f3,f4,f5⟩:=JV q5 o;obtain⟨s',e1,I'⟩:=mk E hslx c2 f2 f3 f4;cases e1;refine⟨Y,l,m,hpx,.inr ⟨0+j,k,lp,y,s',rfl,by rw[aO];exact f1,λhh=>(by rw[hh]at q5;simp[MJ]at q5),f3,I',f5⟩⟩
theorem Nm{n:Nat}{a:Tm}{t:List Nat}{c:Code}{fr:FrA}{h:H}{nx bP:Nat}(B:MM P tab ann f rec n c){X:Cx}(rX:RH X h nx)(C:nx<=1048575)(o:fr.nt<1048575)(G:fr.up=zn)(A:∀ i∈t,i<nx)(b:∀ i∈AV a.pl,i<nx)(d:∀ i∈AV a.plx,i<nx)(E:Am fr.nt nx a.pl=zt)(q:Am fr.nt nx a.plx=zt)(p:∀ i∈t,i ∉ AV a.pl)(J:∀ k∈B1 c,k ∉ a.keep)(g:∀ k∈a.keep,k<1048575)(z:Hf h t=zt)(x:bP<=X.h.nx) :
  ∀ {m:Nat} {W:Cx} {fp:Pi.Fr} {s:Au a.pl} {r:Nat×Au a.plx×a.pay.den},It P X h nx bP fr t a.keep a.pl (Be h t) W fp s->Ih m (Ud P tab ann f rec n a.keep a.pl a.pl a.plx a.ex a.pay t c fr h nx) s=zo r ->
   ∃ Y M l j k u y s',PX P tab (.loop c) fp W.h (l,M,Y.h)/\r=(j,s',y)/\a.ex[j]?=zo (k,u)/\u.map (·.1)=(Be h t).map (·.1)/\It P X h nx bP fr t a.keep a.plx u Y M s' /\ ∀ Z:Cx,Z.h=Y.h->Z.O=Y.O->MJ Z (KC a.pay y k) l
 |0,W,fp,s,r,I,e=>(Mw e).elim
 |m+1,W,fp,s,r,I,e=>by
  unfold Ih at e;split at e
  ·cases e
  ·rename_i s1 U;obtain⟨Y,fp1,l,D,hc|⟨j,k,u,y,s',w,_⟩⟩:=K0 B rX C o G A b b d E q p J g z x I U
   ·obtain⟨s',w,rfl,I'⟩:=hc;cases w;obtain⟨Y2,S,L,j,k,u,y,s2,k1,k2,k3,k4,k5,k6⟩:=Nm B rX C o G A b d E q p J g z x I' e;refine⟨Y2,S,L,j,k,u,y,s2,?_,k2,k3,k4,k5,k6⟩;obtain⟨N,a1⟩:=D;obtain⟨N2,a2⟩:=k1;refine⟨max N N2+1,λK F nn hm hF hn=> ?_⟩;obtain⟨K,rfl⟩:∃ m',K=m'+1:=⟨K-1,by omega⟩
    grind [Pi.AY]
   ·cases w
  ·rename_i x1 U;cases e;obtain⟨Y,fp1,l,D,⟨s',w,_⟩|⟨j,k,u,y,s',w,h2,h3,h4,h5,h6⟩⟩:=K0 B rX C o G A b b d E q p J g z x I U
   ·cases w
   ·cases w;refine⟨Y,fp1,l,j,k,u,y,s',?_,rfl,h2,h4,h5,h6⟩;obtain⟨N,a1⟩:=D;refine⟨N+1,λK F nn hm hF hn=> ?_⟩;obtain⟨K,rfl⟩:∃ m',K=m'+1:=⟨K-1,by omega⟩
    grind [Pi.AY]
theorem Lb{h:H}{n i:Nat}{l:List Nat}{c:BA}(hi:i<n)(a:h.get i=zo c)(b:c.locked=zt):i∈C4 h n l:=by
 unfold C4;by_cases d:i∈l
 ·simp_all
 ·refine am _ (cN.2 ⟨cQ.2 hi,?_⟩);simp only[a,b,Bool.true_and,aU,aN]
  grind [ai]
theorem QA{h a:Hp}{k i:Nat}{b:Blk}(e:h.new i b=zo a):({ h with nx:=h.nx+k }:Hp).new i b=zo { a with nx:=a.nx+k }:=by
 grind [Pi.Hp.new,Pi.Hp.set]
theorem RH.setLp{X:Cx}{h:H}{n id pid m I nt d S x:Nat}{k f:Option Code}{t:T V}{tP:T PV}{w:List Nat}{c a:Code}(r:RH X h n)(hn:n<=1048575)(y:h.get id=zo (.lp I k nt t w c a d))(D:X.π id=zo (.blk pid m))(p:X.h.get pid=zo (.lp I k nt tP w c a S)){A:Hp}(e:X.h.set pid (.lp x f nt tP w c a S)=zo A)(b bP:Nat) :
  ∃ Y:Cx,Y.π=X.π/\Y.h=A/\Y.O=X.O/\Up X Y/\RH Y (AG h id (.lp x f nt t w c a d)) n/\Ext b bP X h Y (AG h id (.lp x f nt t w c a d)):=by
 have s:id<1048575:=by have:=r.dom _ _ D;omega
 have G:(BA.lp I k nt t w c a d).live:=trivial;obtain⟨L,g2⟩:=Hp.get_set e;have hO:X.O pid:=(D ▸ r.blk _ _ y).own G
 let Y:Cx:={ π:=X.π,h:=A,O:=X.O }
 have u:Up X Y:=⟨λ_ _ h=>h,λq es ex fz l hg=>⟨⟨fz,by
  grind⟩,l⟩⟩
 refine⟨Y,rfl,rfl,rfl,u,⟨λi F hi=> ?_,λi W F bb' q m1 m2 hi g Z l2=> ?_,r.dom,λq l=> ?_,λq l=>by
  show A.get q≠zn;rw[L];split
  ·simp
  ·exact r.ob _ l⟩,⟨(Up.low X b).trans u,λ_ _ h=>h,λq l hn=> ?_,?_,λj F N P=> ?_,λq I pe nt t w c a d l=> ?_⟩⟩
 ·rw[AJ s]at hi;by_cases o:i=id
  ·rw[zy o]at hi;cases hi;subst o;have:=r.blk _ _ y;obtain⟨pid',n',tP',dP',m',B,z,U,h4,h5,h6⟩:=this;rw[D]at B;cases B;rw[p]at U;cases U;exact⟨_,_,_,_,_,D,z,by grind,h4.mono u,h5,h6⟩
  ·rw[zx o]at hi;by_cases C:F.live
   ·refine(r.blk _ _ hi).keep u λq m' l M=>⟨?_,M⟩;show A.get q=_;rw[L,zx];intro hh;subst hh;exact o (r.inj _ _ _ _ _ _ _ hi y C G l D)
   ·cases F with
    |dead=>
     intro q m' l;obtain⟨k1,k2⟩:=r.blk _ _ hi q m' l
     grind
    |_=>exact absurd trivial C
 ·rw[AJ s]at hi g;by_cases B:i=id
  ·by_cases z:W=id
   ·omega
   ·rw[zx z]at g;subst B;intro J K;exact r.inj _ _ _ _ _ _ _ y g G l2 J K
  ·rw[zx B]at hi;by_cases z:W=id
   ·subst z;intro J K;exact r.inj _ _ _ _ _ _ _ hi y Z G J K
   ·rw[zx z]at g;exact r.inj _ _ _ _ _ _ _ hi g Z l2
 ·show A.get q=zn;have E:X.h.nx<=q:=by grind
  rw[L,zx (by intro hh;subst hh;rw[r.fresh _ E]at p;cases p)];exact r.fresh _ E
 ·grind
 ·grind
 ·rw[AJ s];rw[zx (by intro hh;subst hh;rw[y]at N;cases N;cases P)];exact N
 grind
theorem Ii{h:H}{nt d o:Nat}{m:Option Code}{t:T V}{u:List Nat}{b a:Code}{i:Nat}(r:h.get i=zo (.lp o m nt t u b a d)):∀ {l:List (Nat×Nat×Option Code)},(∀ p∈l,p.1<1048575)->i∈l.map (·.1) -> ∃ f e,(i,f,e)∈l/\(CZ h l).get i=zo (.lp f e nt t u b a d)
 |(j,f,e)::l,hl,hm=>by
  have s:=hl (j,f,e) (by simp);unfold CZ;by_cases c:i=j
  ·subst c;rw[r];exact⟨f,e,by simp,by simp only;rw[AJ s,zy rfl]⟩
  ·have g:i∈l.map (·.1):=by
    simp_all
   obtain⟨n,k,w,q⟩:=Ii r (λp x=>hl p (by simp[x])) g;refine⟨n,k,by simp[w],?_⟩;split
   ·rw[AJ s,zx c];exact q
   ·exact q
theorem ES{h:H}:∀ {l:List Nat} {i f:Nat} {c:Option Code},(i,f,c)∈Be h l->i∈l /\ ∃ nt t g b a d,h.get i=zo (.lp f c nt t g b a d)
 |j::l,i,f,c,hm=>by
  unfold Be at hm;split at hm
  ·rename_i k;rcases aj.1 hm with e|hm
   ·simp_all
   ·have:=ES hm
    simp_all
  ·have:=ES hm
   simp_all
theorem N8{n b bP:Nat}{β:Type}{x:β}(o:n<=1048575):∀ {l:List Nat} {X:Cx} {h:H} {fr:FrA} {fp:Pi.Fr} {K:FrA->H->Option β},RH X h n->FR X fr fp->Rf n l fr h K=zo x -> ∃ d h' Y,K d h'=zo x/\Y.h=X.h/\Up X Y/\RH Y h' n/\FR Y d fp/\Ext b bP X h Y h'
 |[],X,h,fr,fp,K,r,F,e=>⟨fr,h,X,e,rfl,Up.refl X,r,F,Ext.refl _ _ _ _⟩
 |k::l,X,h,fr,fp,K,r,F,e=>by
  unfold Rf at e;replace e:=AN e;obtain⟨z,e⟩:=e;have A:k<1048575:=by simpa using z
  replace e:=AD e;obtain⟨v,B,e⟩:=e;obtain⟨p,N,j⟩:=F.t _ _ B;obtain⟨m,h',Y,e,O,C,q,D,E,P,S⟩:=N9 (b:=b) (bP:=bP) r o j e;have c:=F.mono q
  have s:FR Y { fr with t:=T.put 20 fr.t k m } fp:=⟨λi w hi=>by
   have y:(2:Nat) ^ 20-1=1048575:=by decide
   have a:(T.put 20 fr.t k m).get i=zo w:=hi;rw[T.get_put 20 fr.t k m i (by omega)]at a;by_cases g:i=k
   ·simp_all
   ·rw[zx g]at a;exact c.t i w a,c.nt,c.big,c.ds,c.up,c.ro⟩
  obtain⟨f,u,Z,e,G,I,J,L,M⟩:=N8 o (l:=l) D s e;exact⟨f,u,Z,e,by rw[G,C],q.trans I,J,L,E.trans M⟩
theorem CL{t:T V}{h:H}:∀ {l:List Pl} {i:Nat},i∈AV l->i∈A1 t h l
 |[],_,hm=>by cases hm
 |p::l,i,hm=>by
  cases p with
  |slot k g c=>exact CL (l:=l) (by simpa[AV]using hm)
  |cn k c=>exact CL (l:=l) (by simpa[AV]using hm)
  |srow k g c ex=>
   have:=CL (t:=t) (h:=h) (l:=l) (i:=i) (by simpa[AV]using hm)
   simp_all[A1]
  |swin k g c=>
   have:=CL (t:=t) (h:=h) (l:=l) (i:=i) (by simpa[AV]using hm)
   simp_all[A1]
  |box id sg=>
   simp only[AV,aj]at hm;simp only[A1];refine am _ ?_;rcases hm with rfl|hm
   ·simp
   ·exact aB _ (CL hm)
  |map id k g c=>
   simp only[AV,aj]at hm;simp only[A1];rcases hm with rfl|hm
   ·simp
   ·exact aB _ (CL hm)
theorem It.entry{X:Cx}{h:H}{nx bP:Nat}{fr:FrA}{fp:Pi.Fr}{m keep:List Nat}{pl:List Pl}(r:RH X h nx)(w:nx<=1048575)(F:FR X fr fp)(z:fr.up=zn)(D:∀ i∈m,i<nx)(x:Am fr.nt nx pl=zt)(g:∀ i∈AV pl,i<nx)(u:(A1 fr.t h pl++m).Nodup)(a:∀ k∈keep,k<1048575){γ:Type}{y:γ}{K:Au pl->Option γ}(e:Ch fr.t h pl K=zo y) :
  ∃ s,K s=zo y/\It P X h nx bP fr m keep pl (Be h m) X fp s:=by
 have n:=Up.toLow r (ab _);obtain⟨s,e1,j⟩:=HM (nx0:=nx) r w F.t F.big x g e;refine⟨s,e1,⟨⟨h,nx,A1 fr.t h pl,r,λi c hi p l=>⟨rfl,λB f=> ?_⟩,λi c hi p l=>⟨c,hi,l⟩,u,j⟩,λk v p=> ?_,F.ds.mono λ_ _ k=>k.mono n,F.nt,by have:=F.up;rw[z]at this;exact this,F.ro.mono n,?_⟩⟩
 ·have:B=c:=by
   cases c with
   |lp A N nt t J o b d=>
    obtain⟨L,G,E,rfl⟩:=f;obtain⟨_,_,_,_,_,_,_,M⟩:=ES E
    simp_all
   |_=>exact f
  subst this;exact(r.blk _ _ hi).keep n λ_ _ _ C=>⟨rfl,C⟩
 ·exact F.t.mono n k v (HL a p).2
 ·exact⟨Up.low X nx,λ_ _ h=>h,λ_ _ h=>h,ab _,λ_ _ k=>(by cases k),λq A I nt t J o b d k=>⟨A,I,k⟩⟩
theorem Lu{β:Type}{y:β}{p:Sgm}{x:p.den}{K:(a:Sgm)->a.den->Option β}(e:Ny p x K=zo y):∃ a b,K a b=zo y/\(∀ hc nc,A5 hc nc [a] b=A5 hc nc [p] x) /\ ∀ q r s hc nc,A5 hc nc (a::q::r) (b,s)=A5 hc nc (p::q::r) (x,s):=by
 cases p with
 |er t n i k=>
  simp only[Ny]at e;have d:PC x.1 0=zt<->x.1=0:=by unfold PC;simp
  have f:PC x.1 1=zt<->x.1=1:=by unfold PC;simp
  rcases BO e with⟨h,e⟩|⟨h,e⟩
  ·grind [A5,SD,Cv.v]
  ·have c:¬ x.1=0:=λg=>by simp_all
   rcases BO e with⟨h,e⟩|⟨h,e⟩
   ·grind [A5,SD]
   grind [A5,SD]
 |_=>exact⟨_,x,e,λ_ _=>rfl,λ_ _ _ _ _=>rfl⟩
theorem Pw{p q a:Sgm}{r b:List Sgm}{x:p.den}{y:DT (a::b)}{z:DT (q::r)}(h:∀ hc nc,A5 hc nc (a::b) y=A5 hc nc (q::r) z)(hc:H)(nc:Nat):A5 hc nc (p::a::b) (x,y)=A5 hc nc (p::q::r) (x,z):=by
 cases p<;>simp only[A5,h]
theorem Jg{β:Type}{y:β}:∀ {l:List Sgm} {x:DT l} {K:(l':List Sgm)->DT l'->Option β},M6 l x K=zo y -> ∃ l' a,K l' a=zo y/\(l'=[]<->l=[]) /\ ∀ hc nc,A5 hc nc l' a=A5 hc nc l x
 |[],x,K,e=>⟨[],x,e,Iff.rfl,λ_ _=>rfl⟩
 |[p],x,K,e=>by
  obtain⟨b,a,e1,g,_⟩:=Lu e;exact⟨[b],a,e1,by simp,g⟩
 |p::q::r,x,K,e=>by
  obtain⟨b,a,e1,_,h⟩:=Lu e;obtain⟨l',f,e2,j,i⟩:=Jg (l:=q::r) e1;cases l' with
  |nil=>simp_all
  |cons c d=>exact⟨b::c::d,(a,f),e2,by simp,λhc nc=>(h c d f hc nc).trans (Pw (z:=x.2) i hc nc)⟩
theorem Lv{β:Type}{y:β}{p:Pl}{x:p.den}{K:(a:Pl)->a.den->Option β}(e:QK p x K=zo y):∃ a b,K a b=zo y /\ ∀ t hc nc,Bo t hc nc a b=Bo t hc nc p x:=by
 cases p with
 |box id sg=>
  obtain⟨l',b,e1,_,h⟩:=Jg e
  grind [Bo]
 |_=>exact⟨_,x,e,λ_ _ _=>rfl⟩
theorem Jf{β:Type}{y:β}:∀ {l:List Pl} {x:Au l} {K:(l':List Pl)->Au l'->Option β},M5 l x K=zo y -> ∃ l' a,K l' a=zo y/\(l'=[]<->l=[]) /\ ∀ t hc nc,Ab t hc nc l' a=Ab t hc nc l x
 |[],x,K,e=>⟨[],x,e,Iff.rfl,λ_ _ _=>rfl⟩
 |[p],x,K,e=>by
  obtain⟨b,a,e1,c⟩:=Lv e;exact⟨[b],a,e1,by simp,c⟩
 |p::q::r,x,K,e=>by
  obtain⟨b,a,e1,d⟩:=Lv e;obtain⟨l',i,e2,j,f⟩:=Jf (l:=q::r) e1;cases l' with
  |nil=>simp_all
  |cons g h=>exact⟨b::g::h,(a,i),e2,by simp,λt hc nc=>by simp only[Ab,d,f]⟩
theorem QM{β:Type}{y:β}{l:List Pl}{x:Au l}{K:(l':List Pl)->Au l'->Option β}(e:QL l x K=zo y):∃ l' a,K l' a=zo y /\ ∀ t hc nc,Ab t hc nc l' a=Ab t hc nc l x:=by
 unfold QL at e;replace e:=BP e;rcases e with⟨_,e⟩|⟨_,e⟩
 ·obtain⟨l',a,b,_,c⟩:=Jf e
  grind
 grind
theorem Ig{keep a:List Nat}{pl:List Pl}{fr:FrA}{h:H}{nx b bP:Nat}{X:Cx}(r:RH X h nx)(hn:nx<=1048575)(K:fr.nt<1048575)(hup:fr.up=zn)(hkb:∀ i∈C4 h nx a,i<nx)(hids:∀ i∈AV pl,i<nx)(M:∀ i∈C4 h nx a,i ∉ AV pl)(hb:b<=nx)
  {lp:List (Nat×Nat×Option Code)} (y:lp.map (·.1)=(Be h (C4 h nx a)).map (·.1)) {Y:Cx} {J:Pi.Fr} {s':Au pl} (I':It P X h nx bP fr (C4 h nx a) keep pl lp Y J s') {β:Type} {x:β} {k:T V->H->Nat->Option β}
  (e1:(match Ab (BV fr.t keep) (CZ (BU h (λb=>b) (C4 h nx a)) lp) nx pl s' with
   |(G,u,m)=>bif !Nat.ble m 1048575 then zn else k G u m)=zo x) :
  ∃ G u m Z,k G u m=zo x/\Z.h=Y.h/\Z.O=Y.O/\FR Z { fr with t:=G } J/\Run b bP X h nx Z u m Z.h:=by
 generalize hL:Ab (BV fr.t keep) (CZ (BU h (λb=>b) (C4 h nx a)) lp) nx pl s'=L at e1;obtain⟨G,u,m⟩:=L;simp only at e1;replace e1:=BE e1;obtain⟨hb1,e1⟩:=e1;have hb':m<=1048575:=by simp_all
 have e:∀ j∈C4 h nx a,j<1048575:=λj hj=>by grind
 have o:∀ p∈lp,p.1∈C4 h nx a:=λp D=>by
  have:p.1∈lp.map (·.1):=ba.2 ⟨p,D,rfl⟩;rw[y]at this;obtain⟨⟨i,E,pd⟩,u,F⟩:=ba.1 this;simp only at F;rw[<- F];exact(ES u).1
 have A:ML h (C4 h nx a) lp (CZ (BU h (λb=>b) (C4 h nx a)) lp):=λi c hi=>by
  rcases F7 (h:=BU h (λb=>b) (C4 h nx a)) (l:=lp) (i:=i) (λp D=>e _ (o p D))with w|⟨E,pd,nt,t,ps,z,n,d,st0,pd0,hm,w,hs⟩
  ·rw[w]at hi;obtain⟨U,d,W,B,k3⟩:=DB e hi;have B:d=c:=B.symm;subst B;refine⟨U,_,W,k3,.inl ?_⟩;cases d with
   |lp E pd nt t ps z n d=>
    have h0:=D2 (f:=λb=>b) e U W k3
    have hm:i∈lp.map (·.1):=by
     rw[y];exact ba.2 ⟨_,D5 U W,rfl⟩
    obtain⟨st',pd',m1,m2⟩:=Ii h0 (λp D=>e _ (o p D)) hm;rw[w,h0]at m2;cases m2;exact⟨E,pd,m1,rfl⟩
   |_=>rfl
  ·rw[hs]at hi;cases hi;obtain⟨U,d',W,k3,k4⟩:=DB e w;subst k3;exact⟨U,_,W,k4,.inl ⟨E,pd,hm,rfl⟩⟩
 obtain⟨Z,z1,z2,z3,z4,z5,z6,z7⟩:=I'.lay K hup hkb A (by simp_all);rw[hL]at z2 z3 z7;simp only at z2 z3 z7;refine⟨G,u,m,Z,e1,z1,z6,z3,⟨rfl,z2,hb',z7,?_⟩⟩;have I:Ext nx bP Y .lf Z .lf:=⟨z4,λj hj k=>by simp_all,λq _ k=>by simp_all,by simp_all,λ_ _ k=>(by cases k),λq E pe nt t ps z n d k=>⟨E,pe,by simp_all⟩⟩;have g:=(I'.ext.trans I).le hb (ab bP);refine⟨g.up,g.pin,g.hpn,g.nx,λi c hi C=> ?_,g.lps⟩;have S:c.live:=by cases c<;>first|trivial|cases C
 obtain⟨at',hat⟩:=(r.blk _ _ hi).live_blk S;have N:=r.dom _ _ hat;have hk:=Lb (l:=a) N hi C;have F:=Ho (i:=i) (pl:=pl) (tc:=BV fr.t keep) (hc:=CZ (BU h (λb=>b) (C4 h nx a)) lp) (nc:=nx) (s:=s') N (M i hk) (by simp_all) (λj hj=>by grind);rw[hL]at F;simp only at F;rw[F];have h3:=D2 (f:=λb=>b) e hk hi S;rcases F7 (h:=BU h (λb=>b) (C4 h nx a)) (l:=lp) (i:=i) (λp D=>e _ (o p D))with w|⟨E,pd,nt,t,ps,z,n,d,st0,pd0,hm,w,hs⟩
 ·simp_all
 ·rw[h3]at w;cases w;cases C
theorem Mi(R:RecAOK P tab rec)(T:TabOK P tab)(D:DrawnAOK P tab):∀ (n:Nat) (c:Code),MM P tab ann f rec n c:=by
 intro n
 induction n with
 |zero=>
  intro c β x b bP fr h nx K e;cases e
 |succ n ih=>
  intro c β x b bP fr h nx K e X fp r hn F hb O
  have fin:∀ {ex:ExA} {q:Pi.Ex},K ex fr h nx=zo x->MJ X ex q->(∀ m FF nn,Pi.AY P (Ae tab) (Pi.B5 P (Ae tab) FF nn) (m+1) c fp X.h=zo (q,fp,X.h))->Sr P tab b bP c X h nx fp K x:=λe hx hp=>
   ⟨_,fr,h,nx,X,_,fp,X.h,e,⟨1,λm FF nn hm _ _=>by obtain⟨m,rfl⟩:∃ m',m=m'+1:=⟨m-1,by omega⟩;simp_all⟩,⟨rfl,r,hn,ab _,Ext.refl _ _ _ _⟩,F,hx⟩
  cases c with
  |skip=>exact fin e rfl λ_ _ _=>rfl
  |label l=>exact fin e rfl λ_ _ _=>rfl
  |exit i=>exact fin e rfl λ_ _ _=>rfl
  |goto i=>exact fin e rfl λ_ _ _=>rfl
  |ret=>exact fin e rfl λ_ _ _=>rfl
  |refuse w=>cases e
  |seq a d=>
   simp only[Ga]at e;split at e
   ·rename_i A htm;replace e:=BE e;obtain⟨hck,e⟩:=e;simp only[af,aq]at hck;obtain⟨⟨⟨⟨⟨⟨⟨⟨c1,c2⟩,c2'⟩,c3⟩,c4⟩,c5⟩,c6⟩,c7⟩,c8⟩:=hck
    have hup:fr.up=zn:=by
     simp_all
    have hall:∀ i∈C4 h nx A.kb++(AV A.pl0++AV A.pl1),i<nx:=λi hi=>by
     have:=aW.1 c6 i hi
     simp_all
    have hkb:∀ i∈C4 h nx A.kb,i<nx:=λi hi=>hall i (ax _ hi);have hids:∀ i∈AV A.pl0,i<nx:=λi hi=>hall i (am _ (ax _ hi));have S:∀ i∈AV A.pl1,i<nx:=λi hi=>hall i (am _ (am _ hi));have hnd:=CQ c5;have hdis:∀ i∈C4 h nx A.kb,i ∉ AV A.pl0:=λi hi hm=>(bQ.1 hnd).2.2 i (CL hm) i hi rfl
    have hdis1:∀ i∈C4 h nx A.kb,i ∉ AV A.pl1:=λi hi hm=>by
     simp_all
    have U:∀ k∈A.keep,k<1048575:=λk hk=>by
     simp_all
    have hwr:∀ k∈B1 a,k ∉ A.keep:=λk hk hm=>by
     simp_all
    obtain⟨s0,e,I⟩:=It.entry (P:=P) (bP:=bP) r hn F hup hkb c2 hids hnd U e;replace e:=RL e;rcases e with⟨s1,hr,e⟩|⟨⟨j,s',y⟩,hr,e⟩
    ·obtain⟨Y,fp',q,hpx,hc|⟨j,k,lp,y,s',G,_⟩⟩:=K0 (keep:=A.keep) (pl0:=A.pl0) (pl1:=A.pl1) (plx:=A.pl1) (ex:=A.ex) (pay:=A.pay) (ih a) r hn F.big hup hkb hids S S c2' c2' hdis hwr U c7 O I hr
     ·obtain⟨s',G,rfl,I'⟩:=hc;cases G;obtain⟨t1,G,J,Z,e2,z1,z6,z3,z⟩:=Ig (b:=b) (k:=λt h n'=>Ga P tab ann f rec n β b d { fr with t:=t } h n' K) r hn F.big hup hkb S hdis1 hb rfl I' e
      obtain⟨N1,hN⟩:=hpx;obtain⟨ex2,fr2,h2,nx2,Y2,L,fp2,C,p1,⟨N2,p2⟩,p3,p4,p5⟩:=ih d e2 z.rh z.big z3 (aw hb z.le) (aw O z.ext.nx);refine⟨ex2,fr2,h2,nx2,Y2,L,fp2,C,p1,⟨max N1 N2+1,λm FF nn hm hF hnn=> ?_⟩,⟨p3.hp,p3.rh,p3.big,aw z.le p3.le,z.ext.trans p3.ext⟩,p4,p5⟩;obtain⟨m,rfl⟩:∃ m',m=m'+1:=⟨m-1,by omega⟩;rw[Pi.AY];simp only[hN m FF nn (by omega) (by omega) (by omega)]
      grind
     ·cases G
    ·obtain⟨Y,fp',q,hpx,⟨s1,G,_⟩|⟨j',k,lp,y',s'',G,hex,h3,hlpi,I',hends⟩⟩:=K0 (keep:=A.keep) (pl0:=A.pl0) (pl1:=A.pl1) (plx:=A.pl1) (ex:=A.ex) (pay:=A.pay) (ih a) r hn F.big hup hkb hids S S c2' c2' hdis hwr U c7 O I hr
     ·cases G
     ·cases G;have e1:=Ix (i:=0) (j:=j) hex (by rw[aO];exact e);obtain⟨t1,G,J,Z,e2,z1,z6,z3,z⟩:=Ig (b:=b) (k:=λt h n'=>K (KC A.pay y k) { fr with t:=t } h n') r hn F.big hup hkb S hdis1 hb hlpi I' e1
      obtain⟨N,hN⟩:=hpx;refine⟨_,_,G,J,Z,q,fp',Z.h,e2,⟨N+1,λm FF nn hm hF hnn=> ?_⟩,z,z3,hends Z z1 z6⟩;obtain⟨m,rfl⟩:∃ m',m=m'+1:=⟨m-1,by omega⟩
      grind [Pi.AY]
   ·obtain⟨ex,fr1,G,J,Y,q,fp1,M,E,⟨N1,q2⟩,B,q4,q5⟩:=ih a e r hn F hb O;cases ex with
    |normal=>
     simp only at E;have hexP:q=.normal:=q5;subst hexP;have hYP:Y.h=M:=B.hp;obtain⟨ex2,fr2,h2,nx2,Y2,L,fp2,C,p1,⟨N2,p2⟩,p3,p4,p5⟩:=ih d E B.rh B.big q4 (aw hb B.le) (aw O B.ext.nx);refine⟨ex2,fr2,h2,nx2,Y2,L,fp2,C,p1,⟨max N1 N2+1,λm FF nn hm hF hnn=> ?_⟩,⟨p3.hp,p3.rh,p3.big,aw B.le p3.le,B.ext.trans p3.ext⟩,p4,p5⟩;obtain⟨m,rfl⟩:∃ m',m=m'+1:=⟨m-1,by omega⟩
     grind [Pi.AY]
    |_=>
     simp only at E;refine⟨_,fr1,G,J,Y,q,fp1,M,E,⟨N1+1,λm FF nn hm hF hnn=> ?_⟩,B,q4,q5⟩;obtain⟨m,rfl⟩:∃ m',m=m'+1:=⟨m-1,by omega⟩
     grind [Pi.AY,MJ]
  |cond o a d=>
   simp only[Ga]at e;replace e:=AL F.t e;obtain⟨v,p,e,G,h2⟩:=e;split at e
   ·simp only[VR]at h2;subst h2;replace e:=BO e;rcases e with⟨hc,e⟩|⟨hc,e⟩
    ·subst hc;obtain⟨ex2,fr2,h2,nx2,Y2,L,fp2,C,p1,⟨N2,p2⟩,p3,p4,p5⟩:=ih a e r hn F hb O;refine⟨ex2,fr2,h2,nx2,Y2,L,fp2,C,p1,⟨N2+1,λm FF nn hm hF hnn=> ?_⟩,p3,p4,p5⟩;obtain⟨m,rfl⟩:∃ m',m=m'+1:=⟨m-1,by omega⟩
     grind [Pi.AY]
    ·subst hc;obtain⟨ex2,fr2,h2,nx2,Y2,L,fp2,C,p1,⟨N2,p2⟩,p3,p4,p5⟩:=ih d e r hn F hb O;refine⟨ex2,fr2,h2,nx2,Y2,L,fp2,C,p1,⟨N2+1,λm FF nn hm hF hnn=> ?_⟩,p3,p4,p5⟩;obtain⟨m,rfl⟩:∃ m',m=m'+1:=⟨m-1,by omega⟩
     grind [Pi.AY]
   ·cases e
  |block id a=>
   simp only[Ga]at e;obtain⟨ex,fr1,G,J,Y,q,fp1,M,E,⟨N1,q2⟩,B,q4,q5⟩:=ih a e r hn F hb O
   have go:∀ {ex':ExA} {exP':Pi.Ex},K ex' fr1 G J=zo x->MJ Y ex' exP'->(∀ m FF nn,N1<=m->N1<=FF->N1<=nn->Pi.AY P (Ae tab) (Pi.B5 P (Ae tab) FF nn) (m+1) (.block id a) fp X.h=zo (exP',fp1,M))->Sr P tab b bP (.block id a) X h nx fp K x:=λe1 e2 e3=>
    ⟨_,fr1,G,J,Y,_,fp1,M,e1,⟨N1+1,λm FF nn hm hF hnn=>by obtain⟨m,rfl⟩:∃ m',m=m'+1:=⟨m-1,by omega⟩;grind⟩,B,q4,e2⟩
   cases ex with
   |exit j=>
    have hexP:q=.exit j:=q5;subst hexP;simp only at E;replace E:=BP E;rcases E with⟨hj,E⟩|⟨hj,E⟩
    ·exact go E (exP':=.normal) rfl λm FF nn G h2 h3=>by rw[Pi.AY];simp_all
    ·exact go E (exP':=.exit j) rfl λm FF nn G h2 h3=>by rw[Pi.AY];simp_all
   |_=>
    grind [Pi.AY,MJ]
  |scope a=>
   simp only[Ga]at e;obtain⟨ex,fr1,G,J,Y,q,fp1,M,E,⟨N1,q2⟩,B,q4,q5⟩:=ih a e r hn F hb O;cases ex with
   |goto j=>cases E
   |_=>
    simp only at E;refine⟨_,fr1,G,J,Y,q,fp1,M,E,⟨N1+1,λm FF nn hm hF hnn=> ?_⟩,B,q4,q5⟩;obtain⟨m,rfl⟩:∃ m',m=m'+1:=⟨m-1,by omega⟩
    grind [Pi.AY,MJ]
  |region id ops draw=>
   simp only[Ga]at e;replace e:=BE e;obtain⟨hck,e⟩:=e;simp only[af,aq]at hck;have hsz:nx+ops.size<=1048575:=ap hck.1
   have hdst:∀ o∈ops.toList,∀ d,o.dst=zo d->d<fr.nt:=λo ho d hd=>by
    have:=aW.1 hck.2 o ho
    simp_all
   have hlen:ops.toList.length=ops.size:=Array.length_toList;replace e:=BP e;rcases e with⟨hd,e⟩|⟨hd,e⟩
   ·replace e:=AN e;obtain⟨hfo,e⟩:=e;obtain⟨fr1,G,Y,fp1,M,E,⟨N,q2⟩,B,q4⟩:=D.go e r (by omega) F hdst;rw[hlen]at q2 B;refine⟨.normal,fr1,G,nx+ops.size,Y,.normal,fp1,M,E,⟨N+1,λm FF nn hm hF hnn=> ?_⟩,B b bP hb O,q4,rfl⟩;obtain⟨m,rfl⟩:∃ m',m=m'+1:=⟨m-1,by omega⟩;rw[Pi.AY];simp only[hd,hfo,zb];have:=q2 FF nn (by omega) (by omega);rw[show({ X.h with nx:=X.h.nx+ops.size }:Hp)=(X.bump ops.size).h from rfl,this]
   ·obtain⟨ex,fr1,G,J,Y,q,fp1,M,E,⟨N,q2⟩,B,q4,q5⟩:=NE R T (base:=nx) (baseP:=X.h.nx) (b:=b) (bP:=bP) hb O (all:=ops.toList) (ops:=ops.toList) (i:=0) (X:=X.bump ops.size) e (r.bump _) hsz (F.mono (GN X _)) hdst
     (λj _ _=>⟨by
      cases hp:X.π (nx+j)with
      |none=>exact hp
      |some a=>have:=r.dom _ _ hp;omega,by rw[LG];exact r.fresh _ (by omega)⟩) (by omega) (by show X.h.nx+0+_<=X.h.nx+ops.size;omega)
    refine⟨ex,fr1,G,J,Y,q,fp1,M,E,⟨N+1,λm FF nn hm hF hnn=> ?_⟩,⟨B.hp,B.rh,B.big,aw (bU _ _) B.le,(GM X h ops.size b bP).trans B.ext⟩,q4,q5⟩;obtain⟨m,rfl⟩:∃ m',m=m'+1:=⟨m-1,by omega⟩;rw[Pi.AY];simp only[hd,zj];exact q2 FF nn (by omega) (by omega)
  |loop a=>
   simp only[Ga]at e;split at e
   ·rename_i A htm;obtain⟨hA,XA,e,hXA,uA,rA,extA⟩:=Kz (b:=b) (bP:=bP) hn r e;obtain⟨fr,h0,X0,e,hXB,uB,r0,F0,extB⟩:=N8 (b:=b) (bP:=bP) hn rA (F.mono uA) e;have hX0:X0.h=X.h:=hXB.trans hXA;have ext0:Ext b bP X h X0 h0:=extA.trans extB
    have conv:Sr P tab b bP (.loop a) X0 h0 nx fp K x->Sr P tab b bP (.loop a) X h nx fp K x:=λ⟨ex,fr',h',nx',Y,q,fp',hP',E,q2,B,q4,q5⟩=>
     ⟨ex,fr',h',nx',Y,q,fp',hP',E,by simp_all,⟨B.hp,B.rh,B.big,B.le,ext0.trans B.ext⟩,q4,q5⟩
    refine conv ?_
    have hbP0:bP<=X0.h.nx:=by simp_all
    replace e:=BE e;obtain⟨hck,e⟩:=e;simp only[af,aq]at hck;obtain⟨⟨⟨⟨⟨⟨⟨⟨c1,c2⟩,c2'⟩,c3⟩,c4⟩,c5⟩,c6⟩,c7⟩,c8⟩:=hck
    have hup:fr.up=zn:=by
     simp_all
    have hall:∀ i∈C4 h0 nx A.kb++(AV A.pl++AV A.plx),i<nx:=λi hi=>by
     have:=aW.1 c6 i hi
     simp_all
    have hkb:∀ i∈C4 h0 nx A.kb,i<nx:=λi hi=>hall i (ax _ hi);have hids:∀ i∈AV A.pl,i<nx:=λi hi=>hall i (am _ (ax _ hi));have hidsx:∀ i∈AV A.plx,i<nx:=λi hi=>hall i (am _ (am _ hi));have hnd:=CQ c5;have hdis:∀ i∈C4 h0 nx A.kb,i ∉ AV A.pl:=λi hi hm=>(bQ.1 hnd).2.2 i (CL hm) i hi rfl
    have hdisx:∀ i∈C4 h0 nx A.kb,i ∉ AV A.plx:=λi hi hm=>by
     have:=aN.1 c8 i hi;simp only[cC,aN]at this;have:=this i hm;simp at this
    have U:∀ k∈A.keep,k<1048575:=λk hk=>by
     have:=aW.1 c3 k hk;simpa using this
    have hwr:∀ k∈B1 a,k ∉ A.keep:=λk hk hm=>by
     have:=aN.1 c4 k hk;simp only[cC,aN]at this;have:=this k hm;simp at this
    obtain⟨s0,e,I⟩:=It.entry (P:=P) (bP:=bP) r0 hn F0 hup hkb c2 hids hnd U e;replace e:=DZ e;obtain⟨⟨j,s',y⟩,hloop,e⟩:=e;rw[SO]at hloop;obtain⟨Y,fp',q,j',k,lp,y',s'',hpx,hr,hex,hlpi,I',hends⟩:=Nm (f:=f) (ann:=ann) (ih a) r0 hn F0.big hup hkb hids hidsx c2 c2' hdis hwr U c7 hbP0 I (m:=18446744073709551616) hloop;cases hr;have e1:=Ix (i:=0) (j:=j) hex (by rw[aO];exact e);obtain⟨lx,sx,e1,hlx⟩:=QM e1;simp only[hlx]at e1;obtain⟨t1,G,J,Z,e2,z1,z6,z3,z⟩:=Ig (b:=b) (k:=λt h n'=>K (KC A.pay y k) { fr with t:=t } h n') r0 hn F0.big hup hkb hidsx hdisx hb hlpi I' e1
    obtain⟨N,hN⟩:=hpx;exact⟨_,_,G,J,Z,q,fp',Z.h,e2,⟨N,by grind⟩,z,z3,hends Z z1 z6⟩
   ·obtain⟨ex,fr1,G,J,Y,q,fp1,M,E,⟨N1,q2⟩,B,q4,q5⟩:=ih a e r hn F hb O;cases ex with
    |normal=>
     simp only at E;have hexP:q=.normal:=q5;subst hexP;have hYP:Y.h=M:=B.hp;obtain⟨ex2,fr2,h2,nx2,Y2,L,fp2,C,p1,⟨N2,p2⟩,p3,p4,p5⟩:=ih (.loop a) E B.rh B.big q4 (aw hb B.le) (aw O B.ext.nx);refine⟨ex2,fr2,h2,nx2,Y2,L,fp2,C,p1,⟨max N1 N2+1,λm FF nn hm hF hnn=> ?_⟩,⟨p3.hp,p3.rh,p3.big,aw B.le p3.le,B.ext.trans p3.ext⟩,p4,p5⟩;obtain⟨m,rfl⟩:∃ m',m=m'+1:=⟨m-1,by omega⟩
     grind [Pi.AY]
    |_=>
     simp only at E;refine⟨_,fr1,G,J,Y,q,fp1,M,E,⟨N1+1,λm FF nn hm hF hnn=> ?_⟩,B,q4,q5⟩;obtain⟨m,rfl⟩:∃ m',m=m'+1:=⟨m-1,by omega⟩
     grind [Pi.AY,MJ]
  |rangeFunc g ps asg body=>
   simp only[Ga]at e;replace e:=BE e;obtain⟨hsz,e⟩:=e;have hsz':nx+2<=1048575:=by simp_all
   replace e:=AL F.t e;obtain⟨v,p,e,G,h2⟩:=e;split at e
   ·rename_i g' a1 b1;simp only[VR]at h2;obtain⟨aP,bP1,rfl,va,vb⟩:=h2;split at e
    ·rename_i d mark hh W;have r2:RH (X.bump 2) h (nx+2):=r.bump 2;have u2:=GN X 2
     have nxn:∀ j,X.π (nx+j)=zn:=λj=>by
      cases hp:X.π (nx+j)with
      |none=>rfl
      |some a=>have:=r.dom _ _ hp;omega
     have hA:∃ (Y1:Cx) (hq:Hp) (dP m:Nat) (s:List DF),RH Y1 hh (nx+2)/\Up X Y1/\Ext b bP X h Y1 hh/\Y1.h={ hq with nx:=hq.nx+2 }/\hq.nx=X.h.nx /\
       ((fp.ro=zn/\X.h.new X.h.nx (.df (zo []))=zo hq/\dP=X.h.nx/\s=[DF.col X.h.nx])\/(∃ p st pe nt t ps asg body,fp.ro=zo p/\X.h.get p=zo (.lp st pe nt t ps asg body dP)/\s=[]/\hq=X.h))/\Y1.π d=zo (.blk dP m)/\L2 (DFR Y1) mark s/\Y1.π (nx+1)=zn/\hq.get (X.h.nx+1)=zn:=by
      have hro:=F.ro;split at W
      ·rename_i hr0;rw[hr0]at hro;simp only[Option.some.injEq,Prod.mk.injEq]at W;obtain⟨rfl,rfl,rfl⟩:=W;obtain⟨hq,e1⟩:=F9 X.h X.h.nx (.df (zo [])) (r.fresh _ (ab _));have e2:=QA (k:=2) e1;obtain⟨g0,g1,g2⟩:=Hp.get_new e1
       obtain⟨Y,y1,y2,y3,y4⟩:=r2.new (id:=nx) (pid:=X.h.nx) (m:=0) (b:=.df (zo [])) (by omega) (by omega) (nxn 0) (by show _<X.h.nx+2;omega) e2 (λY y1 y2 y3 u=>
        ⟨X.h.nx,0,zo [],rfl,(y3 _).2 (.inr rfl),by rw[y2];show hq.get _=_;grind,.nil⟩)
       have hpi:Y.π nx=zo (.blk X.h.nx 0):=by rw[y1];exact zy rfl
       refine⟨Y,hq,X.h.nx,0,[.col X.h.nx],y3,u2.trans y4.up,(GM X h 2 b bP).trans (y4.ext hb O),y2,g2,?_,hpi,.cons ⟨_,_,hpi,rfl⟩ .nil,?_,?_⟩
       ·exact .inl ⟨hro,e1,rfl,rfl⟩
       ·rw[y1];show(if _ then _ else _)=_;rw[zx (by omega)];exact nxn 1
       ·rw[g1,zx (by omega)];exact r.fresh _ (by omega)
      ·rename_i l0 hr0;rw[hr0]at hro;obtain⟨p0,m0,D1,hr⟩:=hro;split at W
       ·rename_i hg;simp only[Option.some.injEq,Prod.mk.injEq]at W;obtain⟨rfl,rfl,rfl⟩:=W;have hb0:=r.blk _ _ hg;obtain⟨pid,n',tP,dP,m,k1,k2,k3,k4,k5,k6⟩:=hb0;rw[D1]at k1;cases k1;exact⟨X.bump 2,X.h,dP,m,[],r2,u2,GM X h 2 b bP,rfl,rfl,Or.inr ⟨_,_,_,_,_,_,_,_,hr,k3,rfl,rfl⟩,k5,.nil,nxn 1,r.fresh _ (by omega)⟩
       grind
     obtain⟨Y1,hq,dP,m,s,r1,u1,x1,y1h,hqn,hPI,hd,hmark,hn1,hf1⟩:=hA;obtain⟨hq2,e1⟩:=F9 hq (X.h.nx+1) (.lp 0 zn fp.nt fp.t ps.toList asg body dP) hf1;have e2:=QA (k:=2) e1;obtain⟨g0,g1,g2⟩:=Hp.get_new e1
     obtain⟨Y2,y21,y22,y23,y24⟩:=r1.new (id:=nx+1) (pid:=X.h.nx+1) (m:=0) (b:=.lp 0 zn fr.nt fr.t ps.toList asg body d) (by omega) (by omega) hn1 (by grind) (by rw[y1h];exact e2) (λY y1 y2 y3 u=>
      ⟨X.h.nx+1,0,fp.t,dP,m,rfl,(y3 _).2 (.inr rfl),by rw[y2];show hq2.get _=_;rw[g1,zy rfl,F.nt],(F.t.mono u1).mono u,u.pi _ _ hd,F.big⟩)
     have hpi2:Y2.π (nx+1)=zo (.blk (X.h.nx+1) 0):=by rw[y21];exact zy rfl
     have u12:=u1.trans y24.up;have x2:Ext b bP X h Y2 _:=x1.trans (y24.ext (b:=b) (bP:=bP) (by omega) (by omega));have hy2:Y2.h={ hq2 with nx:=X.h.nx+2 }:=by grind
     obtain⟨g2',as,qs,e3,hinv,hargs⟩:=EN (va.mono u12) (vb.mono u12) (args:=[.yl (nx+1)]) (argsP:=[.yl (X.h.nx+1)]) (.cons (by grind [VR]) .nil) e;obtain⟨o',up',h',nx',Y,oP,upP',hP',e4,⟨N,hN⟩,z,ho,hu⟩:=R.fn e3 y23 hsz' hargs (show UMR Y2 zn zn from rfl);split at e4
     ·obtain⟨vP,rfl,hv⟩:=ho;have hup:=z.ext.full y23 (ab _);split at e4
      ·rename_i st pend nt t ps' asg' body' d' hg;replace e4:=BE e4;obtain⟨hst,e4⟩:=e4;have hpi3:=hup.pi _ _ hpi2;have hbr:=z.rh.blk _ _ hg;obtain⟨pid,n',tP,dP',m',k1,k2,k3,k4,k5,k6⟩:=hbr;rw[hpi3]at k1;cases k1;obtain⟨C,es⟩:=BG Y.h (X.h.nx+1) (.lp 3 pend nt tP ps' asg' body' dP');obtain⟨Z,z1,z2,z3,z4,z5,z6⟩:=z.rh.setLp z.big hg hpi3 k3 es b bP;have uZ:=(u12.trans hup).trans z4;have xZ:Ext b bP X h Z _:=(x2.trans (z.ext.le (by omega) (by grind))).trans z6
       have FZ:FR Z { fr with ds:=mark++fr.ds } { fp with ds:=s++fp.ds }:=
        ⟨F.t.mono uZ,F.nt,F.big,(hmark.mono λ_ _ k=>k.mono ((y24.up.trans hup).trans z4)).append (F.ds.mono λ_ _ k=>k.mono uZ),F.up.mono uZ,F.ro.mono uZ⟩
       have fin2 : ∀ {ex:ExA} {q:Pi.Ex},K ex { fr with ds:=mark++fr.ds } (AG h' (nx+1) (.lp 3 pend nt t ps' asg' body' d')) nx'=zo x->MJ Z ex q->(match pend with
          |none=>zo (Pi.Ex.normal,({ fp with ds:=s++fp.ds }:Pi.Fr),C)
          |some .ret=>zo (.ret,{ fp with ds:=s++fp.ds },C)
          |some (.exit id)=>zo (.exit id,{ fp with ds:=s++fp.ds },C)
          |some (.goto id)=>zo (.goto id,{ fp with ds:=s++fp.ds },C)
          |_=>zn)=zo (q,{ fp with ds:=s++fp.ds },C)->Sr P tab b bP (.rangeFunc g ps asg body) X h nx fp K x:=λe5 hx hp=>
        ⟨_,_,_,nx',Z,_,_,C,e5,⟨N+1,λm FF nn hm hF hnn=>by
         obtain⟨m,rfl⟩:∃ m',m=m'+1:=⟨m-1,by omega⟩;have:=hN FF nn (by omega) (by omega);rw[hy2]at this;rw[<- z.hp]at this;rw[Pi.AY];rcases hPI with⟨E,q2,rfl,rfl⟩|⟨_,_,_,_,_,_,_,_,E,q2,rfl,rfl⟩
         ·simp only[G,E,q2,e1,hinv,this,k3,hst,zj,es]
          grind
         ·simp only[G,E,q2,e1,hinv,this,k3,hst,zj,es]
          grind⟩,⟨z2,z5,z.big,by have:=z.le;omega,xZ⟩,FZ,hx⟩
       split at e4
       ·exact fin2 e4 rfl rfl
       ·exact fin2 e4 rfl rfl
       ·exact fin2 e4 rfl rfl
       ·exact fin2 e4 rfl rfl
       ·cases e4
      ·cases e4
     ·cases e4
    ·cases e
   ·cases e
end
end
end Go.Proofs.YtoefnfbpoabinaaGreatDoor.Sv
