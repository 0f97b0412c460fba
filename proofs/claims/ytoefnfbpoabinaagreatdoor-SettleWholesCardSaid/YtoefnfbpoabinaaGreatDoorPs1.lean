/- A part of the evaluator over typed open values for any program, and of the proof that it is sound. No condition. -/
import Derived.Test.YtoefnfbpoabinaaGreatDoorPs0
set_option linter.all false
open List renaming all_cons->aY, all_nil->cf, append_nil->aK, drop_zero->bH, isEmpty_nil->cE, length_nil->aI, length_pos_iff->aF, mem_append->al, mem_append_left->ax, mem_append_right->am, mem_cons->aj, replicate->aE, take_of_length_le->bc
open Nat renaming add_zero->aZ, beq->aa, beq_eq->bq, ble->ad, ble_eq->bF, blt->ae, eq_of_beq_eq_true->ai, le_max_left->cR, le_max_right->cO, le_of_ble_eq_true->ap, le_refl->ab, le_trans->aw, lt_of_lt_of_le->bV
open Option renaming isNone_eq_false_iff->bx
open Bool renaming and_eq_true->ac, and_true->bJ, not_eq_false'->aq, not_true->ao, or_eq_false_iff->af, or_false->bj, or_self->aL, true_and->bZ
open Option renaming some->zo, none->zn
open Bool renaming true->zt, false->zf
namespace Go.Proofs.YtoefnfbpoabinaaGreatDoor.Sv
section
variable[Pi.Gl]
open Pi (PV T Hp Blk DF UM PE AM AS)
structure Nw (X:Cx) (n id idP:Nat):Prop where
 pi:X.π id=zn
 lt:id<n
 big:n<=1048575
 hp:X.h.get idP=zn
 hlt:idP<X.h.nx
section
variable{X:Cx}{h:H}{n id idP:Nat}{β:Type}{x:β}{P:Program}
theorem Nw.small(w:Nw X n id idP):id<1048575:=by have:=w.lt;have:=w.big;omega
def VOk(X:Cx)(h:H)(n id idP:Nat)(K:RA->Option β)(x:β)(o:Option Pi.R):Prop:=
 ∃ v h' p a Y,K (.val v h')=zo x/\o=zo (.val p a)/\E7 X h n id idP h' a Y/\VR Y v p
theorem VOk.same(r:RH X h n){K:RA->Option β}{o:Option Pi.R}{v:V}{p:PV}(e:K (.val v h)=zo x)(a:o=zo (.val p X.h))(b:VR X v p):VOk X h n id idP K x o:=
 ⟨v,h,p,X.h,X,e,a,⟨rfl,r,St.refl _ _ _ _⟩,b⟩
theorem L5(r:RH X h n)(w:Nw X n id idP){g:Bool}{c:Ty}{l:List c.den}{es:List PV}{ex fz a:Bool}(p:fz=zf->a=zf)(q:L2 (EP g (DR X.h X.Q c)) l es)(f:ex=zf->0<es.length) :
  ∃ d Y,X.h.new idP (.row es ex a)=zo d/\E7 X h n id idP (AG h id (.row g c l ex fz zf)) d Y/\VR Y (.ow id) (.own idP 0 es.length)/\Y.π id=zo (.blk idP es.length):=by
 obtain⟨d,e⟩:=F9 X.h idP (.row es ex a) w.hp
 obtain⟨Y,o,i,j,s⟩:=r.new (m:=es.length) (b:=.row g c l ex fz zf) w.small w.lt w.pi w.hlt e (λY o i j u=>
  .inl ⟨idP,es.length,es,a,rfl,(j _).2 (.inr rfl),by rw[i,(Hp.get_new e).2.1,zy rfl],p,rfl,f,EDR.mono u q⟩)
 have k:Y.π id=zo (.blk idP es.length):=by rw[o];exact zy rfl
 exact⟨d,Y,e,⟨i,j,s⟩,by simp only[VR,k],k⟩
theorem BY(r:RH X h n)(w:Nw X n id idP){g:Bool}{c:Ty}{l:List c.den}{es:List PV}{ex fz:Bool}(d:L2 (EP g (DR X.h X.Q c)) l es)(b:ex=zf->0<es.length) :
  ∃ a Y,X.h.new idP (.row es ex zf)=zo a/\E7 X h n id idP (AG h id (.row g c l ex fz zf)) a Y/\VR Y (.ow id) (.own idP 0 es.length)/\Y.π id=zo (.blk idP es.length):=
 L5 r w (λ_=>rfl) d b
theorem Kf(r:RH X h n)(w:Nw X n id idP){g:Bool}{c:Ty}{fz:Bool} :
  ∃ Y,E7 X h n id idP (AG h id (.row g c [] zf fz zf)) X.h Y/\VR Y (.ow id) .nils:=by
 obtain⟨Y,e,f,i,j⟩:=r.alias (a:=.nil) (b:=.row g c [] zf fz zf) w.small w.lt w.pi (by simp) (λY u=>.inr (.inl ⟨rfl,rfl,rfl⟩)) idP;have d:Y.π id=zo .nil:=by rw[e];exact zy rfl
 exact⟨Y,⟨f,i,j⟩,by simp only[VR,d]⟩
theorem SF(r:RH X h n)(w:Nw X n id idP){g:Bool}{c:Ty}{l:List c.den}{es:List PV}(d:L2 (EP g (DP c)) l es) :
  ∃ Y,E7 X h n id idP (AG h id (.row g c l zf zt zf)) X.h Y/\VR Y (.ow id) (.lst zt es):=by
 obtain⟨Y,f,i,j,k⟩:=r.alias (a:=.fz es) (b:=.row g c l zf zt zf) w.small w.lt w.pi (by simp) (λY u=>.inr (.inr ⟨es,rfl,rfl,.inl rfl,d⟩)) idP;have e:Y.π id=zo (.fz es):=by rw[f];exact zy rfl
 exact⟨Y,⟨i,j,k⟩,by simp only[VR,e]⟩
theorem KJ(r:RH X h n)(w:Nw X n id idP){g:Bool}{c:Ty}{fz:Bool} :
  ∃ Y,E7 X h n id idP (AG h id (.row g c [] zf fz zf)) X.h Y/\VR Y (.ow id) (.lst zt []):=by
 obtain⟨Y,e,f,i,j⟩:=r.alias (a:=.fz []) (b:=.row g c [] zf fz zf) w.small w.lt w.pi (by simp) (λY u=>.inr (.inr ⟨[],rfl,rfl,.inr rfl,.nil⟩)) idP;have d:Y.π id=zo (.fz []):=by rw[e];exact zy rfl
 exact⟨Y,⟨f,i,j⟩,by simp only[VR,d]⟩
theorem EPL.up{g:Bool}{c:Ty}{l:List c.den}{es:List PV}{hh:Hp}{Q:Nat->Prop}(h:L2 (EP g (DP c)) l es):L2 (EP g (DR hh Q c)) l es:=h.mono λ_ _ k=>k.upP
theorem PJ{g:Bool}{hh:Hp}{Q:Nat->Prop}{c:Ty}{l:List c.den}{es:List PV}{b:Nat}(hs:b=c.wd)(h:L2 (EP g (DR hh Q c)) l es):(es.all λv=>aa v.cells.length b)=zt:=by
 induction h with
 |nil=>rfl
 |cons a _ ih=>simp only[aY,ih,bJ,a.wd];simp[hs]
theorem RY{hh:Hp}{i:TypeId}{g:Bool}{c:Ty}{s p:PV}{new:List PV}{l:List c.den}{Q:Nat->Prop}(a:JQ P i c=zt)(u:Pi.A2 hh p=zo new)(q:L2 (EP g (DR hh Q c)) l new) :
  Pi.EA P hh idP i s p=(match s with
   |.nils=>bif new.isEmpty then zo (.val .nils hh)else bif ad new.length Pi.Ba then(hh.new idP (.row new zf zf)).map λh=>.val (.own idP 0 new.length) h else zn
   |.lst zt es=>bif new.isEmpty then zo (.val (.lst zt es) hh)else bif ad (es.length+new.length) Pi.Ba&&Pi.CT c.wd es then(hh.new idP (.row (es++new) zf zf)).map λh=>.val (.own idP 0 (es.length+new.length)) h else zn
   |.own j off len=>match hh.get j with
    |some (.row es ex fz)=>
     bif !ad (len+new.length) Pi.Ba || !ad (off+len) es.length || !Pi.CT c.wd es then zn else
     bif ex then
      bif new.isEmpty then zo (.val (.own j off len) hh)else bif ad (off+len+new.length) es.length then
       (bif fz then zn else(hh.set j (.row (Pi.BH es (off+len) new) zt zf)).map λh=>.val (.own j off (len+new.length)) h)
      else(hh.new idP (.row ((es.drop off).take len++new) zf zf)).map λh=>.val (.own idP 0 (len+new.length)) h
     else bif aa len es.length&&aa off 0&&ae 0 len then
      match hh.set j .dead with
      |some h=>(h.new idP (.row (es++new) zf fz)).map λh=>.val (.own idP 0 (len+new.length)) h
      |none=>zn
     else zn
    |_=>zn
   |_=>zn):=by
 unfold JQ at a;unfold Pi.EA;split at a
 ·rename_i e t;split at a
  ·rename_i k z b w;simp only[ac,bq]at a;obtain⟨⟨⟨f,m⟩,n⟩,o⟩:=a;have r:Pi.AU P e=zo k.size:=by unfold Pi.AU;grind
   have d:z.length.beq k.size=zt:=by simp[n]
   simp only[t,r,b,u,w];rw[PJ f q,show Pi.Ba=1048576 from rfl,m,d,o,f];rfl
  ·cases a
 ·cases a
theorem CY{α:Type}{l:List α}(h:l≠[]):l.isEmpty=zf:=by simp_all
theorem Mj{f:Bool}{v:V}{vs:List V}{p:PV}{es:List PV}{hh:Hp}(a:VR X (.exl f (v::vs)) p)(e:Pi.A2 hh p=zo es):es≠[]:=by
 simp only[VR]at a;obtain⟨c,d,rfl,_,b⟩:=a;obtain⟨q,g,rfl,_,_⟩:=b.cons_inv;cases e;simp
theorem H5{α:Type}{R:α->PV->Prop}{l new:List α}{es a:List PV}(h:L2 R l es)(k:L2 R new a)(off m:Nat):L2 R (Ey l off new m) (Pi.BH es off (a.take m)):=by
 unfold Ey Pi.BH;have:=(k.take m).length;rw[this];exact(h.take off).append ((k.take m).append (h.drop _))
theorem Gk{es x:List PV}{off:Nat}(h:off+x.length<=es.length):(Pi.BH es off x).length=es.length:=by
 unfold Pi.BH;simp;omega
theorem Ip{c:Bool}{z:List V}{b:List PV}{v:V}(h:VRL X z b)(e:Ln c z=zo v):∃ p,Pi.Ka c b=zo p/\VR X v p:=by
 unfold Ln at e;rcases BP e with⟨a,e⟩|⟨a,e⟩
 ·subst a;cases e;exact⟨.agg b,rfl,by simp only[VR];simp_all⟩
 ·subst a;split at e
  ·cases e;obtain⟨p,g,rfl,d,f⟩:=h.cons_inv;rw[f.nil_inv];exact⟨p,rfl,d⟩
  ·cases e
theorem Qz(r:RH X h n)(w:Nw X n id idP){st:TypeId}{s a:V}{sP p:PV}{K:RA->Option β}(hs:VR X s sP)(ha:VR X a p)(e:R4 P h id st s a K=zo x):VOk X h n id idP K x (Pi.EA P X.h idP st sP p):=by
 unfold R4 at e;replace e:=AD e;obtain⟨⟨g,c⟩,hel,e⟩:=e;replace e:=AN e;obtain⟨he,e⟩:=e;replace e:=G8 r ha e;obtain⟨new,b,e,hx,d⟩:=e;have E:=RY (idP:=idP) (s:=sP) he hx d;rw[E];have Z:Pi.Ba=1048576:=rfl
 have into:∀ {fz:Bool},b.length<=1048576->K (.val (.ow id) (AG h id (.row g c new zf fz zf)))=zo x->VOk X h n id idP K x (bif b.isEmpty then zo (.val .nils X.h)else bif ad b.length Pi.Ba then(X.h.new idP (.row b zf zf)).map λh=>.val (.own idP 0 b.length) h else zn):=by
  intro fz D e;by_cases i:b=[]
  ·subst i;have:=d.nil_inv';subst this;obtain⟨Y,y,o⟩:=Kf (fz:=fz) (g:=g) (c:=c) r w;exact⟨_,_,.nils,X.h,Y,e,rfl,y,o⟩
  ·have z:0<b.length:=aF.2 i;obtain⟨f,Y,y,o,G,_⟩:=BY (fz:=fz) r w d λ_=>z;refine⟨_,_,_,f,Y,e,?_,o,G⟩;rw[CY i,Z,show ad b.length 1048576=zt from by simp_all,y];rfl
 split at e
 ·simp only[VR]at hs;subst hs;replace e:=AI e;obtain⟨D,e⟩:=e;exact into (by rw[<- d.length];simpa[B2,AQ]using D) e
 ·rename_i g' S l;replace e:=AN e;obtain⟨hg,e⟩:=e;have:=eq_of_beq hg;subst this;replace e:=AI e;obtain⟨D,e⟩:=e;replace e:=Ao e;obtain⟨hc,e⟩:=e;subst hc;have q:l.length+new.length<=1048576:=by simpa[B2,AQ,A0]using D
  have J:b≠[]->K (.val (.ow id) (AG h id (.row g S (If l new) zf zf zf)))=zo x->VOk X h n id idP K x (Pi.EA P X.h idP st sP p):=λF e=>by
   rw[E];have z:0<b.length:=aF.2 F;simp only[VR]at hs;rcases hs with⟨rfl,rfl⟩|⟨f',k,rfl,W,C⟩|⟨pid,off,len,k,ex,fz,rfl,W,C,h2,M,h8,h4⟩
   ·exact into (by rw[<- d.length];omega) e
   ·have:=W trivial;subst this;obtain⟨f,Y,y,o,G,_⟩:=BY (fz:=false) r w ((EPL.up C).append d) λ_=>by simp;omega
    refine⟨_,_,_,f,Y,e,?_,o,G⟩;have I:ad (k.length+b.length) 1048576=zt:=by rw[<- C.length,<- d.length];simp_all
    dsimp only;rw[CY F,Z,I,Ar rfl (EPL.up (hh:=X.h) (Q:=X.Q) C),y];simp
   ·obtain⟨rfl,hend⟩:=W trivial;obtain⟨f,Y,y,o,G,_⟩:=BY (fz:=false) r w (h4.append d) λ_=>by simp;omega
    refine⟨_,_,_,f,Y,e,?_,o,G⟩;have hl4:=h4.length;have L:((k.drop off).take len).length=len:=by simp;omega
    have I:ad (len+b.length) 1048576=zt:=by rw[<- L,<- hl4,<- d.length];simp_all
    have U:ad (off+len) k.length=zt:=by simpa using M
    have h7:ad (off+len+b.length) k.length=zf:=by
     cases O:ad (off+len+b.length) k.length with
     |false=>rfl
     |true=>have:=ap O;omega
    grind
  have stay:b=[]->K (.val (.lf zt g S l) h)=zo x->VOk X h n id idP K x (Pi.EA P X.h idP st sP p):=λi e=>by
   rw[E];subst i;have N:=hs;simp only[VR]at hs;rcases hs with⟨rfl,rfl⟩|⟨f',k,rfl,W,C⟩|⟨pid,off,len,k,ex,fz,rfl,W,C,h2,M,h8,h4⟩
   ·exact VOk.same r e rfl N
   ·have:=W trivial;subst this;exact VOk.same r e rfl N
   ·obtain⟨rfl,hend⟩:=W trivial;have hl4:=h4.length;have L:((k.drop off).take len).length=len:=by simp;omega
    have I:ad (len+([]:List PV).length) 1048576=zt:=by
     rw[<- L,<- hl4];simp only[aI,aZ,bF];omega
    have U:ad (off+len) k.length=zt:=by simpa using M
    refine VOk.same r e ?_ N<;>grind
  rw[<- E];split at e
  ·exact J (Mj ha hx) e
  ·replace e:=BO e;rcases e with⟨i,e⟩|⟨i,e⟩
   ·refine stay ?_ e;have i:new.length=0:=ai i;rw[d.length]at i
    grind
   ·refine J ?_ e;intro hn;subst hn;have:=d.nil_inv';subst this;cases i
 ·simp only[VR]at hs;obtain⟨f',k,rfl,W,C⟩:=hs;have:=C.nil_inv;subst this;have:=W trivial;subst this;replace e:=AI e;obtain⟨D,e⟩:=e;have q:b.length<=1048576:=by rw[<- d.length];simpa[B2,AQ]using D
  by_cases i:b=[]
  ·subst i;have:=d.nil_inv';subst this;obtain⟨Y,y,o⟩:=KJ (fz:=false) (g:=g) (c:=c) r w;exact⟨_,_,_,X.h,Y,e,rfl,y,o⟩
  simp_all[CY,Pi.CT]
 ·replace e:=G8 r hs e;obtain⟨l,lP,e,hxs,hl⟩:=e;replace e:=AI e;obtain⟨D,e⟩:=e;split at e
  ·have F:=Mj ha hx;simp only[VR]at hs;obtain⟨f',k,rfl,W,C⟩:=hs;have:=W trivial;subst this;cases hxs;have q:l.length+new.length<=1048576:=by simpa[B2,AQ,A0]using D
   have z:0<b.length:=aF.2 F;obtain⟨f,Y,y,o,G,_⟩:=BY (fz:=false) r w (hl.append d) λ_=>by simp;omega
   refine⟨_,_,_,f,Y,e,?_,o,G⟩;have I:ad (lP.length+b.length) 1048576=zt:=by rw[<- hl.length,<- d.length];simpa using q
   dsimp only;rw[CY F,Z,I,Ar rfl hl,y];simp
  ·cases e
 ·rename_i j;split at e
  ·rename_i g' S l ex fz lk B;replace e:=BE e;obtain⟨hg,e⟩:=e;simp only[af,aq]at hg;obtain⟨hg,hlk⟩:=hg;subst hlk;have:=eq_of_beq hg;subst this;replace e:=Ao e;obtain⟨hc,e⟩:=e;subst hc;replace e:=AI e;obtain⟨D,e⟩:=e;have q:l.length+new.length<=1048576:=by simpa[B2,AQ,A0]using D
   simp only[VR]at hs;have O:=r.blk _ _ B;cases A:X.π j with
   |none=>simp_all
   |some t=>
    rw[A]at hs O;have hj:j<1048575:=by have:=r.dom _ _ A;have:=w.big;omega
    rcases BP e with⟨hex,e⟩|⟨hex,e⟩
    ·subst hex
     have J:b≠[]->K (.val (.ow id) (AG h id (.row g S (If l new) zf zf zf)))=zo x->VOk X h n id idP K x (Pi.EA P X.h idP st sP p):=λF e=>by
      rw[E];have z:0<b.length:=aF.2 F;rcases O with⟨pid,len,k,fz',C,h2,M,h4,I,h7,U⟩|⟨_,C,_⟩|⟨_,_,C,_⟩
      ·cases C;simp only at hs;subst hs;obtain⟨f,Y,y,o,G,_⟩:=BY (fz:=false) r w (U.append d) λ_=>by simp;omega
       refine⟨_,_,_,f,Y,e,?_,o,G⟩;have k5:ad (len+b.length) 1048576=zt:=by rw[<- I,<- U.length,<- d.length];simpa using q
       have k6:ad (0+len) k.length=zt:=by rw[I];simp
       have k7:ad (0+len+b.length) k.length=zf:=by
        cases O:ad (0+len+b.length) k.length with
        |false=>rfl
        |true=>have:=ap O;omega
       have k8:(k.drop 0).take len=k:=by rw[bH,bc (by omega)]
       simp only[M,Z,k5,k6,Ar rfl U,k7,k8,CY F,ao,bj,zj,zb,y];simp[I]
      all_goals simp_all
     have stay:b=[]->K (.val (.ow j) h)=zo x->VOk X h n id idP K x (Pi.EA P X.h idP st sP p):=λi e=>by
      rw[E];subst i;have N:VR X (.ow j) sP:=by simp only[VR];simp_all
      rcases O with⟨pid,len,k,fz',C,h2,M,h4,I,h7,U⟩|⟨_,C,_⟩|⟨_,_,C,_⟩
      ·cases C;simp only at hs;subst hs
       have k5:ad (len+([]:List PV).length) 1048576=zt:=by
        rw[<- I,<- U.length];simp only[aI,aZ,bF];omega
       have k6:ad (0+len) k.length=zt:=by rw[I];simp
       refine VOk.same r e ?_ N;simp only[M,Z,k5,k6,Ar rfl U,ao,bj,zj,zb,cE]
      ·cases C
      ·cases C
     rw[<- E];split at e
     ·exact J (Mj ha hx) e
     ·simp only[zb]at e;replace e:=BO e;rcases e with⟨i,e⟩|⟨i,e⟩
      ·refine stay ?_ e;have i:new.length=0:=ai i;rw[d.length]at i
       grind
      ·refine J ?_ e;intro hn;subst hn;have:=d.nil_inv';subst this;cases i
    ·subst hex;rcases O with⟨pid,len,k,fz',C,h2,M,h4,I,h7,U⟩|⟨C,_,h2⟩|⟨k,C,_,h2,M⟩
     ·cases C;simp only at hs;subst hs;have z:=h7 rfl;have k5:ad (len+b.length) 1048576=zt:=by rw[<- I,<- U.length,<- d.length];simpa using q
      have k6:ad (0+len) k.length=zt:=by rw[I];simp
      have k9:(aa len k.length&&aa 0 0&&ae 0 len)=zt:=by rw[I];simp[z]
      obtain⟨hD,eD⟩:=BG X.h pid .dead
      obtain⟨Y0,z1,z2,z3,z4,z5⟩:=r.set (b':=.dead) hj B trivial rfl A M (by intros;simp) eD (λY hY1 hY2 hY3 _ pid' m' e=>by
       rw[A]at e;cases e
       exact⟨by simp_all,by rw[hY2,(Hp.get_set eD).1,zy rfl]⟩) idP
      have w0:Nw Y0 n id idP:=⟨by rw[z1];exact w.pi,w.lt,w.big,by
       rw[z2,(Hp.get_set eD).1];by_cases hq:idP=pid
       ·subst hq;have:=w.hp;simp_all
       ·rw[zx hq];exact w.hp,by rw[z2,(Hp.get_set eD).2];exact w.hlt⟩
      have hmix:L2 (EP g (DR Y0.h Y0.Q S)) (l++new) (k++b):=(EDR.mono (z5 id).up U).append (EDR.mono (z5 id).up d);obtain⟨f,Y,y,o,G,_⟩:=L5 z4 w0 h4 hmix λ_=>by simp;omega
      refine⟨_,_,_,f,Y,e,?_,⟨o.1,o.2.1,(z5 id).trans o.2.2⟩,G⟩;rw[z2]at y;simp only[M,Z,k5,k6,Ar rfl U,k9,ao,bj,zj,zb,eD,y];simp[I]
     ·cases C;simp only at hs;subst hs;subst h2;obtain⟨rd,sd⟩:=r.dead hj B rfl (λ_ _ e=>by rw[A]at e;cases e) idP;by_cases i:b=[]
      ·subst i;have:=d.nil_inv';subst this;obtain⟨Y,y,o⟩:=Kf (fz:=fz) (g:=g) (c:=S) rd w;exact⟨_,_,.nils,X.h,Y,e,rfl,⟨y.1,y.2.1,(sd id).trans y.2.2⟩,o⟩
      ·have z:0<b.length:=aF.2 i;obtain⟨f,Y,y,o,G,_⟩:=BY (fz:=fz) rd w d λ_=>z;refine⟨_,_,_,f,Y,e,?_,⟨o.1,o.2.1,(sd id).trans o.2.2⟩,G⟩;rw[CY i,Z,show ad b.length 1048576=zt from by rw[<- d.length];simpa using q,y];rfl
     ·cases C;simp only at hs;subst hs;obtain⟨rd,sd⟩:=r.dead hj B rfl (λ_ _ e=>by rw[A]at e;cases e) idP;by_cases i:b=[]
      ·subst i;have:=d.nil_inv';subst this
       have hx:∃ Y,E7 X (AG h j .dead) n id idP (AG (AG h j .dead) id (.row g S l zf fz zf)) X.h Y/\VR Y (.ow id) (.lst zt k):=by
        rcases h2 with rfl|rfl
        ·exact SF (g:=g) (c:=S) (l:=l) rd w M
        ·rw[M.nil_inv];exact KJ (g:=g) (c:=S) (fz:=fz) rd w
       obtain⟨Y,y,o⟩:=hx;refine⟨_,_,_,X.h,Y,e,rfl,⟨?_,?_,?_⟩,o⟩
       ·exact y.1
       ·have:=y.2.1;rw[show If l []=l from aK l];exact this
       ·have:=y.2.2;rw[show If l []=l from aK l];exact(sd id).trans this
      ·obtain⟨f,Y,y,o,G,_⟩:=BY (fz:=fz) rd w ((EPL.up M).append d) λ_=>by simp;have:=aF.2 i;omega
       refine⟨_,_,_,f,Y,e,?_,⟨o.1,o.2.1,(sd id).trans o.2.2⟩,G⟩;have I:ad (k.length+b.length) 1048576=zt:=by rw[<- M.length,<- d.length];simpa using q
       dsimp only;rw[CY i,Z,I,Ar rfl (EPL.up (hh:=X.h) (Q:=X.Q) M),y];simp
  ·cases e
 ·rename_i j off len;split at e
  ·rename_i g' S l B;replace e:=AN e;obtain⟨hg,e⟩:=e;have:=eq_of_beq hg;subst this;replace e:=Ao e;obtain⟨hc,e⟩:=e;subst hc;replace e:=AI e;obtain⟨D,e⟩:=e;replace e:=AI e;obtain⟨hin,e⟩:=e;have q:len+new.length<=1048576:=by simpa[B2,AQ,A0]using D
   have hin':off+len<=l.length:=by simpa[B2,AQ,A0]using hin
   have N:=hs;simp only[VR]at hs;obtain⟨pid,m,A,rfl⟩:=hs;have hj:j<1048575:=by have:=r.dom _ _ A;have:=w.big;omega
   obtain⟨k,fz',p3,p4,p5,p7,p6⟩:=r.rowAt A B;have:=p4 rfl;subst this;have hl:=p6.length;have k5:ad (len+b.length) 1048576=zt:=by rw[<- d.length];simpa using q
   have k6:ad (off+len) k.length=zt:=by simp_all
   replace e:=BO e;rcases e with⟨i,e⟩|⟨i,e⟩
   ·have i:new.length=0:=ai i;rw[d.length]at i;have i:=List.eq_nil_of_length_eq_zero i;subst i;refine VOk.same r e ?_ N;simp only[p3,Z,k5,k6,Ar rfl p6,ao,bj,zj,zb,cE]
   ·have F:b≠[]:=λhn=>by
     subst hn;have:=d.nil_inv';subst this;cases i
    replace e:=BO e;rcases e with⟨O,e⟩|⟨O,e⟩
    ·have hb':off+len+b.length<=k.length:=by
      rw[<- hl,<- d.length];simpa[B2,A0,AQ]using O
     have k7:ad (off+len+b.length) k.length=zt:=by simpa using hb'
     have htk:b.take new.length=b:=by rw[d.length,List.take_length]
     obtain⟨f,eS⟩:=BG X.h pid (.row (Pi.BH k (off+len) b) zt zf)
     obtain⟨Y,y,o,G,y4,y5⟩:=r.set (b':=.row g S (Ey l (A0 off len) new (AQ new)) zt zf zf) hj B trivial rfl A p3 (by intros;simp) eS
      (λY y o G u=>by
       rw[A];refine .inl ⟨pid,m,_,zf,rfl,by rw[G];exact(A ▸ r.blk _ _ B).own trivial,by rw[o,(Hp.get_set eS).1,zy rfl],λ_=>rfl,?_,p7,EDR.mono u ?_⟩
       ·rw[Gk hb'];exact p5
       ·have:=H5 p6 d (off+len) new.length
        rw[htk]at this;exact this) idP
     refine⟨_,_,.own pid off (len+b.length),f,Y,e,?_,⟨o,y4,y5 id⟩,by simp only[VR];exact⟨pid,m,by rw[y];exact A,by simp[A0,AQ,d.length]⟩⟩;simp only[p3,Z,k5,k6,k7,Ar rfl p6,CY F,ao,bj,zj,zb,eS];rfl
    ·have k7:ad (off+len+b.length) k.length=zf:=by
      cases hq:ad (off+len+b.length) k.length with
      |false=>rfl
      |true=>
       have h7:=ap hq;rw[<- hl,<- d.length]at h7;have:B2 (A0 (A0 off len) (AQ new)) (AQ l)=zt:=by simpa[B2,A0,AQ]using h7
       rw[this]at O;cases O
     have hsub:L2 (EP g (DR X.h X.Q S)) (DV l off (A0 off len)) ((k.drop off).take len):=by
      have:=(p6.drop off).take len
      simp_all[DV,A0]
     have L:((k.drop off).take len).length=len:=by simp;omega
     have z:0<b.length:=aF.2 F;obtain⟨f,Y,y,o,G,_⟩:=BY (fz:=false) r w (hsub.append d) λ_=>by simp;omega
     refine⟨_,_,_,f,Y,e,?_,o,G⟩;simp only[p3,Z,k5,k6,k7,Ar rfl p6,CY F,ao,bj,zj,zb,y];simp[L]
  ·cases e
 ·cases e
end
end
section
variable[Pi.Gl]
open Pi (PV T Hp Blk DF UM PE AM AS)
section
variable{X:Cx}{h:H}{n id idP:Nat}{β:Type}{x:β}{P:Program}
theorem Co{k:Ty}{d:TypeDesc}{e:k.den->k.den->Bool}{a b:k.den}{p q:PV}(f:Ev k d=zt)(c:SN k=zo e)(g:DP k a [p])(h:DP k b [q]):Pi.KV d p q=zo (e a b):=by
 cases k with
 |int i=>
  cases d<;>simp[Ev]at f;cases c
  simp_all[DP,List.cons.injEq,and_true,Pi.KV,PC]
 |bool=>
  cases d<;>simp[Ev]at f;cases c
  simp_all[DP,List.cons.injEq,and_true,Pi.KV,beq]
 |str=>
  cases d<;>simp[Ev]at f;cases c
  simp_all[DP,List.cons.injEq,and_true,Pi.KV,seq]
 |unit=>cases c
 |pair=>cases c
 |sl=>cases c
theorem EO{k:Ty}{d:TypeDesc}(a:Ev k d=zt):Pi.Cp d=zt:=by
 cases k<;>cases d<;>simp[Ev]at a<;>rfl
variable{k:Ty}{g:Bool}{c:Ty}{d:TypeDesc}{e:k.den->k.den->Bool}
theorem Nt(f:Ev k d=zt)(i:SN k=zo e){a:k.den}{p:PV}(b:DP k a [p]):∀ {l:List (k.den×c.den)} {es:List (PV×PV)},L2 (MR X k g c) l es ->
  (Mx e l a=zn/\Pi.Hr d es p=zo zn) \/ ∃ y v,Mx e l a=zo y/\Pi.Hr d es p=zo (zo v)/\EP g (DR X.h X.Q c) y v
 |_,_,.nil=>.inl ⟨rfl,rfl⟩
 |(a1,y1)::l,(p1,v1)::es,.cons h t=>by
  have j:=Co f i b h.1;unfold Mx Pi.Hr;rw[j];cases m:e a a1 with
  |true=>exact .inr ⟨y1,v1,rfl,rfl,h.2⟩
  |false=>simpa using Nt f i b t
theorem Gq(i:Ev k d=zt)(j:SN k=zo e){a:k.den}{p:PV}(b:DP k a [p]){y:c.den}{v:PV}(f:EP g (DR X.h X.Q c) y v):∀ {l:List (k.den×c.den)} {es:List (PV×PV)},L2 (MR X k g c) l es ->
  ∃ es',Pi.Iq d es p v=zo es'/\L2 (MR X k g c) (Iq e l a y) es'
 |_,_,.nil=>⟨[(p,v)],rfl,.cons ⟨b,f⟩ .nil⟩
 |(a1,y1)::l,(p1,v1)::es,.cons h t=>by
  have o:=Co i j b h.1;unfold Iq Pi.Iq;rw[o];cases q:e a a1 with
  |true=>exact⟨_,rfl,.cons ⟨b,f⟩ t⟩
  |false=>
   obtain⟨es',m,n⟩:=Gq i j b f t;exact⟨(p1,v1)::es',by simp[m],.cons h n⟩
theorem Gp(f:Ev k d=zt)(i:SN k=zo e){a:k.den}{p:PV}(b:DP k a [p]):∀ {l:List (k.den×c.den)} {es:List (PV×PV)},L2 (MR X k g c) l es ->
  ∃ es',Pi.Io d es p=zo es'/\L2 (MR X k g c) (Io e l a) es'
 |_,_,.nil=>⟨[],rfl,.nil⟩
 |(a1,y1)::l,(p1,v1)::es,.cons h t=>by
  have n:=Co f i b h.1;unfold Io Pi.Io;rw[n];cases o:e a a1 with
  |true=>simp_all
  |false=>
   obtain⟨es',j,m⟩:=Gp f i b t;exact⟨(p1,v1)::es',by simp[j],.cons h m⟩
theorem DP.key{hh:Hp}{Q:Nat->Prop}(b:SN k=zo e){a:k.den}{c:List PV}(h:DR hh Q k a c):DP k a c:=by
 cases k with
 |int|bool|str=>exact h
 |unit=>cases b
 |pair=>cases b
 |sl=>cases b
end
section
variable{X:Cx}{h:H}{n id idP:Nat}{β:Type}{x:β}{P:Program}
theorem KW(r:RH X h n){ty:TypeId}{m v:V}{A p:PV}{K:(j:Nat)->(k:Ty)->(g:Bool)->(c:Ty)->List (k.den×c.den)->Bool->(k.den->k.den->Bool)->k.den->Option β}
  (z:VR X m A) (J:VR X v p) (e:Pv P ty m v h K=zo x) :
  ∃ j k g c l o f a i s d pid m' es,K j k g c l o f a=zo x/\m=.mp j/\h.get j=zo (.mp k g c l o)/\X.π j=zo (.blk pid m')/\A=.mp pid/\X.h.get pid=zo (.mp es)/\L2 (MR X k g c) l es /\
   P.underlying ty=zo (.map i s)/\P.underlying i=zo d/\Ev k d=zt/\SN k=zo f/\DP k a [p]:=by
 unfold Pv at e;split at e
 ·rename_i i s j I;split at e
  ·rename_i d k g c l o F y;replace e:=AN e;obtain⟨G,e⟩:=e;replace e:=AD e;obtain⟨f,w,e⟩:=e;replace e:=GQ (VRL.cons J .nil) e;obtain⟨a,O,N,q,e,t,B,L⟩:=e;split at e
   ·rw[L.nil_inv,aK]at t;simp only[VR]at z;obtain⟨pid,m',b,rfl⟩:=z;have u:=r.blk _ _ y;rw[b]at u;obtain⟨_,_,es,C,M,D,E⟩:=u;cases C;exact⟨j,k,g,c,l,o,f,a,i,s,d,_,m',es,e,rfl,y,b,rfl,D,E,I,F,G,w,DP.key w (t ▸ B)⟩
   ·cases e
  ·cases e
 ·cases e
theorem Mv(r:RH X h n){ty:TypeId}{m k:V}{N p:PV}{o:Bool}{K:V->Option β}(D:VR X m N)(W:VR X k p)(e:KX P h ty m k o K=zo x) :
  ∃ v q,K v=zo x/\Pi.DK P X.h ty N p o=zo (.val q X.h)/\VR X v q:=by
 unfold KX at e;split at e
 ·simp only[VR]at D;subst D;split at e
  ·rename_i kt O u;split at e
   ·rename_i d z B E;replace e:=AN e;obtain⟨Y,e⟩:=e;obtain⟨I,J,t⟩:=GG (X:=X) E;refine⟨_,bif o then .tup [I,.bool zf]else I,e,?_,?_⟩
    ·simp_all[Pi.DK,Pi.Lj,ao,zj,Pi.Hr]
    ·cases o
     ·exact t
     ·simp only[zb,VR];exact⟨_,rfl,.cons t (.cons (by simp[VR]) .nil)⟩
   ·cases e
  ·cases e
 ·rename_i Z;replace e:=KW r D W e;obtain⟨j,kk,g,c,l,lk,f,a,kt,O,d,pid,m',es,e,rfl,hg,hpi,rfl,L,S,u,B,i,U,C⟩:=e;simp only[u]at e;replace e:=AD e;obtain⟨z,E,e⟩:=e;obtain⟨I,J,t⟩:=GG (X:=X) E;replace e:=Dy t e;obtain⟨y,e,hy⟩:=e
  have s:∀ {A:c.den} {w:PV} {b:Bool},EP g (DR X.h X.Q c) A w->VR X (bif o then V.tup [OT g c A,.bool b]else OT g c A) (bif o then PV.tup [w,.bool b]else w):=by
   intro A w b M;cases o
   ·exact Fy M
   ·simp only[zb,VR];exact⟨_,rfl,.cons (Fy M) (.cons (by simp[VR]) .nil)⟩
  rcases Nt (d:=d) i U C S with⟨F,G⟩|⟨y',v',F,G,m3⟩
  ·refine⟨_,_,e,?_,by rw[F];exact s hy⟩;unfold Pi.DK;simp only[u,Pi.Lj,L,B,EO i,ao,zj,G,J];rfl
  ·refine⟨_,_,e,?_,by rw[F];exact s m3⟩;unfold Pi.DK;simp only[u,Pi.Lj,L,B,EO i,ao,zj,G];rfl
theorem RH.mapSet(r:RH X h n)(z:n<=1048575){j pid m:Nat}{k:Ty}{g:Bool}{c:Ty}{l l':List (k.den×c.den)}{es es':List (PV×PV)}(p:h.get j=zo (.mp k g c l zf))(b:X.π j=zo (.blk pid m))(s:X.h.get pid=zo (.mp es))(w:L2 (MR X k g c) l' es') :
  ∃ a Y,X.h.set pid (.mp es')=zo a /\ ∀ i d,E7 X h n i d (AG h j (.mp k g c l' zf)) a Y:=by
 obtain⟨a,e⟩:=BG X.h pid (.mp es');have t:j<1048575:=by have:=r.dom _ _ b;omega
 have key:∀ d,∃ Y:Cx,Y.π=X.π/\Y.h=a/\Y.O=X.O/\RH Y (AG h j (.mp k g c l' zf)) n /\ ∀ i,St X h i d Y (AG h j (.mp k g c l' zf)):=λd=>
  r.set (b':=.mp k g c l' zf) t p trivial rfl b s (by intros;simp) e (λY x f q u=>by
   rw[b]
   exact⟨pid,m,es',rfl,by rw[q];exact(b ▸ r.blk _ _ p).own trivial,by rw[f,(Hp.get_set e).1,zy rfl],w.mono λ_ _ m=>⟨m.1,m.2.mono λ_ _ k=>DR.mono u.rows k⟩⟩) d
 obtain⟨Y,x,f,q,y,A⟩:=key 0;refine⟨a,Y,e,λi d=>⟨f,y,?_⟩⟩;obtain⟨o,B,C,D,E,F⟩:=key d
 have:o=Y:=by
  cases Y;cases o
  simp_all
 simp_all
theorem Fj(r:RH X h n)(F:n<=1048575){ty:TypeId}{m k v:V}{w p q:PV}{K:H->Option β}(E:VR X m w)(D:VR X k p)(I:VR X v q)(id idP:Nat)(e:EW P h ty m k v K=zo x) :
  ∃ h' b Y,K h'=zo x/\Pi.CI P X.h ty w p q=zo (.skip b)/\E7 X h n id idP h' b Y:=by
 unfold EW at e;replace e:=KW r E D e;obtain⟨j,S,g,c,l,W,f,a,U,O,d,pid,m',es,e,rfl,C,t,rfl,u,z,G,A,i,B,o⟩:=e;replace e:=BE e;obtain⟨s,e⟩:=e;subst s;replace e:=Dy I e;obtain⟨y,e,J⟩:=e;obtain⟨es',L,M⟩:=Gq (d:=d) i B o J z;obtain⟨b,Y,e1,N⟩:=r.mapSet F C t u M;refine⟨_,b,Y,e,?_,N id idP⟩;unfold Pi.CI;simp only[G,A,EO i,ao,zj,u,L,e1];rfl
theorem IZ{f:Int->Int->Int}{F:Int->Int->Int}(i:∀ a b,f a b=F a b){k:IntKind}:∀ {m:Int} {vs:List V} {d:List PV} {K:Int->Option β},VRL X vs d->JW f k m vs K=zo x -> ∃ r,K r=zo x/\Pi.B9 F m d k=zo r
 |m,[],_,K,h,e=>by rw[h.nil_inv];exact⟨m,e,rfl⟩
 |m,v::vs,_,K,h,e=>by
  obtain⟨p,n,rfl,c,g⟩:=h.cons_inv;cases v with
  |int l y=>
   unfold JW at e;replace e:=AN e;obtain⟨j,e⟩:=e;simp only[VR]at c;subst c;obtain⟨r,e1,o⟩:=IZ i g e
   simp_all[Pi.B9,beq_iff_eq]
  |_=>simp[JW]at e
theorem QI{hh:Hp}{idP:Nat}{a:TypeId}{s p q:PV}(e:Pi.A2 hh p=Pi.A2 hh q):Pi.EA P hh idP a s p=Pi.EA P hh idP a s q:=by
 unfold Pi.EA;rw[e]
theorem QD{X:Cx}{v:V}{p:PV}(h:KU v=zt)(e:VR X v p):VR Cx.pure v p/\Pi.KR p=zt:=by
 cases v<;>first|(cases h;done)|skip
 all_goals
  simp only[VR]at e;subst e;exact⟨by simp[VR],rfl⟩
theorem Jd{X:Cx}:∀ {vs:List V} {a:List PV},vs.all KU=zt->VRL X vs a->VRL Cx.pure vs a/\a.all Pi.KR=zt
 |[],a,_,h=>by
  have:=h.nil_inv;subst this;exact⟨VRL.nil,rfl⟩
 |v::vs,a,hn,h=>by
  obtain⟨p,i,rfl,d,e⟩:=h.cons_inv;rw[aY,ac]at hn;obtain⟨b,f⟩:=QD hn.1 d;obtain⟨c,g⟩:=Jd hn.2 e;exact⟨VRL.cons b c,by simp_all⟩
theorem Rl{X:Cx}{h:H}{n:Nat}(r:RH X h n){a:V}{p:PV}(d:VR X a p):∃ q,VR X (Se h a) q/\Pi.A2 X.h q=Pi.A2 X.h p:=by
 unfold Se;split
 ·rename_i j off len;split
  ·rename_i cs fz l;cases hc:ad (off+len) cs.length&&((cs.drop off).take len).all KU with
   |false=>grind
   |true=>
    rw[ac]at hc;simp only[VR]at d;obtain⟨pid,m,i,rfl⟩:=d;have c:=r.blk _ _ l;rw[i]at c;obtain⟨e,m',o,g,k,u,w,x,b⟩:=c;cases k;obtain⟨s,t⟩:=Jd hc.2 ((b.drop off).take len);have f:=hc.1;rw[b.length]at f;refine⟨.lst zt ((o.drop off).take len),?_,?_⟩
    ·simp_all[zb,VR]
    ·unfold Pi.A2
     grind
  grind
 grind
theorem LD(r:RH X h n)(w:Nw X n id idP){b:Builtin}{J:Array TypeId}{args:List V}{ps:List PV}{K:RA->Option β}(N:VRL X args ps)(e:IK P h id b J args K=zo x) :
  VOk X h n id idP K x (Pi.AH P X.h idP b J ps)\/(∃ v p,K (.pan v)=zo x/\Pi.AH P X.h idP b J ps=zo (.pan p)/\VR X v p)\/(K .rcv=zo x/\Pi.AH P X.h idP b J ps=zo .rcv):=by
 unfold IK at e;split at e
 ·
  split at e
  ·rename_i a t W;obtain⟨p,I,rfl,o,B⟩:=N.cons_inv;rw[B.nil_inv];obtain⟨m,e1,e2⟩:=RN r W o e idP;exact .inl (.same r e1 e2 (by simp[VR]))
  ·cases e
 ·
  split at e
  ·rename_i a t W;obtain⟨p,I,rfl,o,B⟩:=N.cons_inv;rw[B.nil_inv];split at e
   ·rename_i et j Z;split at e
    ·rename_i g c l fz lk A;simp only[VR]at o;cases i:X.π j with
     |none=>simp_all
     |some tt=>
      rw[i]at o;have G:=r.blk _ _ A;rw[i]at G;rcases G with⟨pid,len,es,S,k1,k2,O,k4,k5,k7,E⟩|⟨_,k1,_⟩|⟨_,_,k1,_⟩
      ·cases k1;simp only at o;subst o;refine .inl (.same r e (p:=.int .i64 (es.length-0:Nat)) ?_ (by simp[VR,K7,AQ,E.length]))
       simp_all[Pi.AH]
      all_goals simp_all
    ·cases e
   ·rename_i et j off len Z;split at e
    ·rename_i g c l fz lk A;simp only[VR]at o;obtain⟨pid,m,i,rfl⟩:=o;obtain⟨es,S,h3,_,h5,_,h6⟩:=r.rowAt i A;refine .inl (.same r e (p:=.int .i64 (es.length-off:Nat)) ?_ (by simp[VR,K7,QC,AQ,h6.length]))
     simp_all[Pi.AH]
    ·cases e
   ·rename_i Z;simp only[VR]at o;subst o;refine .inl (.same r e (p:=.int .i64 0) ?_ (by simp[VR]))
    simp_all[Pi.AH]
   ·cases e
  ·cases e
 ·
  split at e
  ·rename_i s a t t' hts;replace e:=AN e;obtain⟨G,e⟩:=e;obtain⟨p,I,rfl,o,B⟩:=N.cons_inv;obtain⟨q,I,rfl,h3,h4⟩:=B.cons_inv;rw[h4.nil_inv];obtain⟨q',h3',hel⟩:=Rl r h3;have:=Qz r w o h3' e;rw[QI hel]at this
   simp_all[Pi.AH,zb]
  ·cases e
 ·
  split at e
  ·rename_i dst a t W;obtain⟨p,I,rfl,o,B⟩:=N.cons_inv;obtain⟨q,I,rfl,h3,h4⟩:=B.cons_inv;rw[h4.nil_inv];replace e:=AD e;obtain⟨⟨g,c⟩,hel,e⟩:=e;replace e:=BE e;obtain⟨C,e⟩:=e;replace e:=G8 r h3 e;obtain⟨new,newP,e,hx,M⟩:=e;have C:JQ P t c=zt:=by simp_all
   have go:∀ {j pid m off len:Nat} {l:List c.den} {ex:Bool} {es:List PV},h.get j=zo (.row g c l ex zf zf)->X.π j=zo (.blk pid m)->X.h.get pid=zo (.row es ex zf)->es.length=m->(ex=zf->0<m)->L2 (EP g (DR X.h X.Q c)) l es->off+len<=es.length ->
     K (.val (.int .i64 (K7 (RW (AQ new) len))) (AG h j (.row g c (Ey l off new len) ex zf zf)))=zo x->VOk X h n id idP K x (Pi.AH P X.h idP .copy J [.own pid off len,q]):=by
    intro j pid m off len l ex es A i O k5 k9 E U e;obtain⟨D,eS⟩:=BG X.h pid (.row (Pi.BH es off (newP.take len)) ex zf);have hj:j<1048575:=by have:=r.dom _ _ i;have:=w.big;omega
    obtain⟨Y,y1,y2,y3,y4,y5⟩:=r.set (b':=.row g c (Ey l off new len) ex zf zf) hj A trivial rfl i O (by intros;simp) eS
     (λY y1 y2 y3 u=>by
      rw[i];refine .inl ⟨pid,m,_,zf,rfl,by rw[y3];exact(i ▸ r.blk _ _ A).own trivial,by rw[y2,(Hp.get_set eS).1,zy rfl],λ_=>rfl,?_,k9,EDR.mono u (H5 E M off len)⟩
      rw[Gk (by simp;omega)];exact k5) idP
    refine⟨_,_,.int .i64 (Nat.min newP.length len:Nat),D,Y,e,?_,⟨y2,y4,y5 id⟩,by simp[VR,K7,RW,AQ,M.length]⟩;unfold JQ at C;split at C
    ·rename_i et Z;split at C
     ·rename_i ti z hti hz;simp only[ac,bq]at C;obtain⟨⟨⟨g1,g2⟩,g3⟩,g4⟩:=C;have htz:Pi.AU P et=zo ti.size:=by unfold Pi.AU;grind
      unfold Pi.AH;simp only[W,Z,O,hx,htz];rw[PJ g1 M,show ad (off+len) es.length=zt from by simp_all,g4,Ar g1 E];simp[eS]
     ·cases C
    ·cases C
   refine .inl ?_;split at e
   ·rename_i j;split at e
    ·rename_i g' c' l A;replace e:=AN e;obtain⟨L,e⟩:=e;have:=eq_of_beq L;subst this;replace e:=Ao e;obtain⟨hc,e⟩:=e;subst hc;simp only[VR]at o;cases i:X.π j with
     |none=>simp_all
     |some tt=>
      rw[i]at o;have G:=r.blk _ _ A;rw[i]at G;rcases G with⟨pid,len,es,S,k1,k2,O,k4,k5,k7,E⟩|⟨_,k1,_⟩|⟨_,_,k1,_⟩
      ·cases k1;simp only at o;subst o;have:=k4 rfl;subst this;have hl:AQ l=len:=by rw[<- k5,<- E.length];rfl
       grind
      all_goals grind
    ·cases e
   ·rename_i j off len;split at e
    ·rename_i g' c' l ex A;replace e:=AN e;obtain⟨L,e⟩:=e;have:=eq_of_beq L;subst this;replace e:=Ao e;obtain⟨hc,e⟩:=e;subst hc;replace e:=AI e;obtain⟨U,e⟩:=e;simp only[VR]at o;obtain⟨pid,m,i,rfl⟩:=o;obtain⟨es,S,O,k4,k5,k7,E⟩:=r.rowAt i A;have:=k4 rfl;subst this;exact go A i O k5 k7 E (by rw[<- E.length];simpa[B2,A0,AQ]using U) e
    ·cases e
   ·cases e
  ·cases e
 ·
  split at e
  ·rename_i j t W;obtain⟨p,I,rfl,o,B⟩:=N.cons_inv;rw[B.nil_inv];split at e
   ·rename_i kt et kk g c l Z A;simp only[VR]at o;obtain⟨pid,m,i,rfl⟩:=o;have G:=r.blk _ _ A;rw[i]at G;obtain⟨_,_,es,k2,O,k4,E⟩:=G;cases k2;obtain⟨D,Y,e1,y1⟩:=r.mapSet w.big A i k4 (l':=[]) (es':=[]) .nil;refine .inl ⟨_,_,.tup [],D,Y,e,?_,y1 id idP,by simp[VR,VRL]⟩
    simp_all[Pi.AH]
   ·cases e
  ·rename_i j off len t W;obtain⟨p,I,rfl,o,B⟩:=N.cons_inv;rw[B.nil_inv];split at e
   ·rename_i et Z;split at e
    ·rename_i sz ag z hsz hag hz;obtain⟨zP,hz1,hz2⟩:=Bj (X:=X) hz;replace e:=AD e;obtain⟨⟨g,c⟩,hct,e⟩:=e;replace e:=AN e;obtain⟨G,e⟩:=e;simp only[ac]at G;obtain⟨⟨b1,b2⟩,b3⟩:=G;rw[hz2.length]at b2;replace e:=AD e;obtain⟨z1,hz3,e⟩:=e;obtain⟨z1P,q1,q2⟩:=Ip hz2 hz3;replace e:=Dy q2 e;obtain⟨y,e,hy⟩:=e;split at e
     ·rename_i g' c' l ex A;replace e:=AN e;obtain⟨L,e⟩:=e;have:=eq_of_beq L;subst this;replace e:=Ao e;obtain⟨hc,e⟩:=e;subst hc;replace e:=AI e;obtain⟨U,e⟩:=e;simp only[VR]at o;obtain⟨pid,m,i,rfl⟩:=o;obtain⟨es,S,O,k4,k5,k9,E⟩:=r.rowAt i A;have:=k4 rfl;subst this;have hle':off+len<=es.length:=by rw[<- E.length];simpa[B2,A0,AQ]using U
      obtain⟨D,eS⟩:=BG X.h pid (.row (Pi.BH es off (aE len z1P)) ex zf);have hj:j<1048575:=by have:=r.dom _ _ i;have:=w.big;omega
      have hL:L2 (EP g (DR X.h X.Q c')) (Ey l off (Ot len y) len) (Pi.BH es off (aE len z1P)):=by
       have:=H5 E (L2.replicate hy len) off len
       rwa [show(aE len z1P).take len=aE len z1P from by simp]at this
      obtain⟨Y,y1,y2,y3,y4,y5⟩:=r.set (b':=.row g c' (Ey l off (Ot len y) len) ex zf zf) hj A trivial rfl i O (by intros;simp) eS
       (λY y1 y2 y3 u=>by
        rw[i];refine .inl ⟨pid,m,_,zf,rfl,by rw[y3];exact(i ▸ r.blk _ _ A).own trivial,by rw[y2,(Hp.get_set eS).1,zy rfl],λ_=>rfl,?_,k9,EDR.mono u hL⟩
        rw[Gk (by simp;omega)];exact k5) idP
      refine .inl ⟨_,_,.tup [],D,Y,e,?_,⟨y2,y4,y5 id⟩,by simp[VR,VRL]⟩;unfold Pi.AH;simp only[W,Z,O,hsz,hag,hz1,q1,show ad (off+len) es.length=zt from by simpa using hle',b1,b2,Ar (ai b3) E];simp[eS]
     ·cases e
    ·cases e
   ·cases e
  ·cases e
 ·
  split at e
  ·rename_i m v t W;obtain⟨p,I,rfl,o,B⟩:=N.cons_inv;obtain⟨q,I,rfl,h3,h4⟩:=B.cons_inv;rw[h4.nil_inv];replace e:=KW r o h3 e;obtain⟨j,kk,g,c,l,lk,f,a,kt,et,d,pid,m',es,e,rfl,A,i,rfl,h4,h6,Z,hd,hko,hf,hdp⟩:=e;replace e:=BE e;obtain⟨hlk,e⟩:=e;subst hlk;obtain⟨es',p1,p2⟩:=Gp (d:=d) hko hf hdp h6;obtain⟨D,Y,e1,y1⟩:=r.mapSet w.big A i h4 p2;refine .inl ⟨_,_,.tup [],D,Y,e,?_,y1 id idP,by simp[VR,VRL]⟩;unfold Pi.AH;simp only[W,Z,h4,hd,EO hko,ao,zj,p1,e1];rfl
  ·cases e
 ·
  split at e
  ·rename_i k a vs;obtain⟨p,I,rfl,o,B⟩:=N.cons_inv;simp only[VR]at o;subst o;obtain⟨rr,e1,e2⟩:=IZ (F:=λm y=>if y>m then y else m) (λa b=>rfl) B e
   refine .inl (.same r e1 (p:=.int k rr) ?_ (by simp[VR]))
   simp_all[Pi.AH]
  ·cases e
 ·
  split at e
  ·rename_i k a vs;obtain⟨p,I,rfl,o,B⟩:=N.cons_inv;simp only[VR]at o;subst o;obtain⟨rr,e1,e2⟩:=IZ (F:=λm y=>if y<m then y else m) (λa b=>rfl) B e
   refine .inl (.same r e1 (p:=.int k rr) ?_ (by simp[VR]))
   simp_all[Pi.AH]
  ·cases e
 ·
  split at e
  ·rename_i t v;obtain⟨p,I,rfl,o,B⟩:=N.cons_inv;rw[B.nil_inv];simp only[VR]at o;obtain⟨q,rfl,o⟩:=o;exact .inr (.inl ⟨_,_,e,rfl,by simp only[VR];simp_all⟩)
  ·cases e
 ·exact .inr (.inr ⟨e,rfl⟩)
 ·cases e
end
end
section
variable[Pi.Gl]
open Pi (PV T Hp Blk DF UM PE AM AS AB AW Ap)
section
variable{X:Cx}{h:H}{n id idP:Nat}{β:Type}{x:β}{P:Program}
theorem Dm{f:PV->Option (PV×List Nat)}:∀ {a b e g:List PV} {c d:List Nat},AB f a=zo (e,c)->AB f b=zo (g,d)->AB f (a++b)=zo (e++g,c++d)
 |[],b,e,g,c,d,h1,h2=>by cases h1;exact h2
 |p::a,b,e,g,c,d,h1,h2=>by
  simp only[AB]at h1;split at h1
  ·rename_i q l h m e1 e2;cases h1;have:=Dm e2 h2
   show(match f p,AB f (a++b)with
    |some (q,a),zo (h,b)=>zo (q::h,a++b)
    |_,_=>zn)=_
   simp_all
  ·cases h1
theorem BX{f:PV->Option (PV×List Nat)}{p q:PV}{l:List Nat}(h:f p=zo (q,l)):AB f [p]=zo ([q],l):=by simp[AB,h]
def Met(h:Hp)(Q:Nat->Prop)(l:List Nat):Prop:=∀ i∈l,Q i /\ ∃ es ex fz,h.get i=zo (.row es ex fz)
theorem Met.nil{h:Hp}{Q:Nat->Prop}:Met h Q []:=λ_ hi=>by cases hi
theorem Met.append{h:Hp}{Q:Nat->Prop}{a b:List Nat}(c:Met h Q a)(d:Met h Q b):Met h Q (a++b):=λi hi=>(al.1 hi).elim (c i) (d i)
theorem Met.mono{h:Hp}{Q b:Nat->Prop}{a:List Nat}(f:∀ i,Q i->b i)(c:Met h Q a):Met h b a:=λi hi=>⟨f _ (c i hi).1,(c i hi).2⟩
theorem Lx{hh:Hp}{Q:Nat->Prop}{g:Bool}{c:Ty}{d:Nat}(n:∀ {y:c.den} {o:List PV},DR hh Q c y o -> ∀ i,2*c.depth+1<=i -> ∃ f a,AB (AW hh i) o=zo (f,a)/\DP c y f/\Met hh Q a)(r:2*c.depth+2<=d)
  {y:c.den} {e:PV} (h:EP g (DR hh Q c) y e):∃ q a,AW hh d e=zo (q,a)/\EP g (DP c) y q/\Met hh Q a:=by
 cases g with
 |true=>
  obtain⟨cs,rfl,h⟩:=h;obtain⟨d,rfl⟩:∃ i,d=i+1:=⟨d-1,by omega⟩;obtain⟨f,a,b,j,k⟩:=n h d (by omega);exact⟨.agg f,a,by simp only[AW,b];rfl,⟨f,rfl,j⟩,k⟩
 |false=>
  obtain⟨f,a,b,j,k⟩:=n (show DR hh Q c y [e]from h) d (by omega);simp only[AB]at b;split at b
  ·rename_i q l p m e1 e2;cases e2;cases b;exact⟨q,l,e1,j,by grind⟩
  ·cases b
theorem Ji{α:Type}{hh:Hp}{Q:Nat->Prop}{R S:α->PV->Prop}{d:Nat}(f:∀ y e,R y e -> ∃ q c,AW hh d e=zo (q,c)/\S y q/\Met hh Q c) :
  ∀ {l:List α} {es:List PV},L2 R l es -> ∃ g c,AB (AW hh d) es=zo (g,c)/\L2 S l g/\Met hh Q c
 |_,_,.nil=>⟨[],[],rfl,.nil,.nil⟩
 |_,_,.cons h t=>by
  obtain⟨q,a,i,j,k⟩:=f _ _ h;obtain⟨g,b,m,n,o⟩:=Ji f t;exact⟨q::g,a++b,by simp[AB,i,m],.cons j n,k.append o⟩
theorem E1:∀ {hh:Hp} {Q:Nat->Prop} {c:Ty} {y:c.den} {m:List PV},DR hh Q c y m -> ∀ d,2*c.depth+1<=d -> ∃ n l,AB (AW hh d) m=zo (n,l)/\DP c y n/\Met hh Q l
 |hh,Q,.int k,y,m,e,d,hd=>by
  obtain⟨d,rfl⟩:∃ j,d=j+1:=⟨d-1,by omega⟩;subst e;exact⟨[_],[],BX rfl,rfl,.nil⟩
 |hh,Q,.bool,y,m,e,d,hd=>by
  obtain⟨d,rfl⟩:∃ j,d=j+1:=⟨d-1,by omega⟩;subst e;exact⟨[_],[],BX rfl,rfl,.nil⟩
 |hh,Q,.str,y,m,e,d,hd=>by
  obtain⟨d,rfl⟩:∃ j,d=j+1:=⟨d-1,by omega⟩;subst e;exact⟨[_],[],BX rfl,rfl,.nil⟩
 |hh,Q,.unit,y,m,e,d,hd=>by subst e;exact⟨[],[],rfl,rfl,.nil⟩
 |hh,Q,.pair a b,y,m,⟨p,q,e,B,o⟩,d,hd=>by
  subst e;have t:(Ty.pair a b).depth=Nat.max a.depth b.depth:=rfl;rw[t]at hd;have N:=cR a.depth b.depth;have O:=cO a.depth b.depth;obtain⟨z,G,x,u,w⟩:=E1 B d (by grind);obtain⟨A,I,J,K,L⟩:=E1 o d (by grind);exact⟨z++A,G++I,Dm x J,⟨z,A,rfl,u,K⟩,w.append L⟩
 |hh,Q,.sl g c,y,m,⟨p,e,h⟩,d,hd=>by
  subst e;have t:(Ty.sl g c).depth=c.depth+1:=rfl;rw[t]at hd;obtain⟨d,rfl⟩:∃ j,d=j+1:=⟨d-1,by omega⟩;rcases h with⟨rfl,rfl⟩|⟨f,es,rfl,o⟩|⟨pid,off,len,es,ex,fz,rfl,o,C,D,M,E⟩
  ·exact⟨[.nils],[],BX rfl,⟨_,rfl,.inl ⟨rfl,rfl⟩⟩,.nil⟩
  ·exact⟨[.lst f es],[],BX rfl,⟨_,rfl,.inr ⟨f,es,rfl,o⟩⟩,.nil⟩
  ·obtain⟨n,l,x,u,w⟩:=Ji (λy e F=>Lx (d:=d) (λs j r=>E1 s j r) (by omega) F) E;refine⟨[.lst zf n],pid::l,BX ?_,⟨_,rfl,.inr ⟨zf,n,rfl,u⟩⟩,λi hi=> ?_⟩
   ·simp only[AW,C];rw[show ad (off+len) es.length=zt from by simpa using D]
    simp_all
   ·rcases aj.1 hi with rfl|hi
    ·simp_all
    ·exact w i hi
theorem N4:∀ {hh:Hp} {Q l:Nat->Prop} {c:Ty} {y:c.den} {m:List PV},DX hh Q l c y m->(∀ i,l i->Q i) -> ∀ d,2*c.depth+1<=d -> ∃ n j,AB (AW hh d) m=zo (n,j)/\DP c y n/\Met hh Q j
 |hh,Q,l,.int k,y,m,e,f,d,hd=>E1 (c:=.int k) e d hd
 |hh,Q,l,.bool,y,m,e,f,d,hd=>E1 (c:=.bool) e d hd
 |hh,Q,l,.str,y,m,e,f,d,hd=>E1 (c:=.str) e d hd
 |hh,Q,l,.unit,y,m,e,f,d,hd=>E1 (c:=.unit) e d hd
 |hh,Q,l,.pair a b,y,m,⟨p,q,e,C,o⟩,f,d,hd=>by
  subst e;have u:(Ty.pair a b).depth=Nat.max a.depth b.depth:=rfl;rw[u]at hd;have O:=cR a.depth b.depth;have P:=cO a.depth b.depth;obtain⟨A,I,z,w,x⟩:=N4 C f d (by grind);obtain⟨B,J,K,L,M⟩:=N4 o f d (by grind);exact⟨A++B,I++J,Dm z K,⟨A,B,rfl,w,L⟩,x.append M⟩
 |hh,Q,l,.sl g c,y,m,⟨p,e,h⟩,f,d,hd=>by
  subst e;have u:(Ty.sl g c).depth=c.depth+1:=rfl;rw[u]at hd;obtain⟨d,rfl⟩:∃ r,d=r+1:=⟨d-1,by omega⟩;rcases h with⟨rfl,rfl⟩|⟨f,es,rfl,o⟩|⟨pid,off,len,es,ex,fz,rfl,o,D,E,N,F⟩
  ·exact⟨[.nils],[],BX rfl,⟨_,rfl,.inl ⟨rfl,rfl⟩⟩,.nil⟩
  ·exact⟨[.lst f es],[],BX rfl,⟨_,rfl,.inr ⟨f,es,rfl,o⟩⟩,.nil⟩
  ·obtain⟨n,j,z,w,x⟩:=Ji (λy e G=>Lx (d:=d) (λt r s=>E1 t r s) (by omega) G) F;refine⟨[.lst zf n],pid::j,BX ?_,⟨_,rfl,.inr ⟨zf,n,rfl,w⟩⟩,λi hi=> ?_⟩
   ·simp only[AW,D];rw[show ad (off+len) es.length=zt from by simpa using E]
    simp_all
   ·rcases aj.1 hi with rfl|hi
    ·simp_all
    ·exact(x.mono f) i hi
theorem QR{hh:Hp}{Q j:Nat->Prop}{g:Bool}{c:Ty}{y:c.den}{e:PV}(f:∀ i,j i->Q i)(h:EP g (DX hh Q j c) y e){d:Nat}(s:2*c.depth+2<=d) :
  ∃ q a,AW hh d e=zo (q,a)/\EP g (DP c) y q/\Met hh Q a:=by
 cases g with
 |true=>
  obtain⟨cs,rfl,h⟩:=h;obtain⟨d,rfl⟩:∃ p,d=p+1:=⟨d-1,by omega⟩;obtain⟨n,a,b,k,o⟩:=N4 h f d (by omega);exact⟨.agg n,a,by simp only[AW,b];rfl,⟨n,rfl,k⟩,o⟩
 |false=>
  obtain⟨n,a,b,k,o⟩:=N4 (show DX hh Q j c y [e]from h) f d (by omega);simp only[AB]at b;split at b
  ·rename_i q l r m e1 e2;cases e2;cases b;exact⟨q,l,e1,k,by grind⟩
  ·cases b
theorem Bi:∀ {l:List Nat} {hh:Hp} {Q:Nat->Prop},Met hh Q l -> ∃ h',Pi.freeze hh l=zo h'/\h'.nx=hh.nx /\ ∀ q,h'.get q=if q∈l then(match hh.get q with
  |some (.row es ex _)=>zo (.row es ex zt)
  |b=>b)else hh.get q
 |[],hh,Q,m=>⟨hh,rfl,rfl,λq=>by simp⟩
 |i::l,hh,Q,m=>by
  obtain⟨_,es,ex,fz,hi⟩:=m i (by simp);obtain⟨d,e1⟩:=BG hh i (.row es ex zt);have h:=(Hp.get_set e1).1
  have m':Met d Q l:=λj e=>by
   obtain⟨k,es',a,c,f⟩:=m j (by simp[e])
   grind
  obtain⟨h',e2,e3,g⟩:=Bi m';refine⟨h',by simp only[Pi.freeze,hi,e1];exact e2,by rw[e3];exact(Hp.get_set e1).2,λq=> ?_⟩
  grind
theorem Et:∀ {l:List Nat} {h h':H},(∀ i∈l,i<1048575)->CA h l=zo h'->(∀ i∈l,∃ g c y ex fz a,h.get i=zo (.row g c y ex fz a))/\(∀ i b',h'.get i=zo b'->h.get i=zo b' \/ ∃ g c y ex fz a,i∈l/\h.get i=zo (.row g c y ex fz a)/\b'=.row g c y ex zt zf) /\
  (∀ i∈l,∀ g c y ex fz a,h'.get i=zo (.row g c y ex fz a)->fz=zt) /\ ∀ i b,h.get i=zo b->b.locked=zt->h'.get i=zo b
 |[],h,h',hb,e=>by cases e;simp_all
 |j::l,h,h',hb,e=>by
  unfold CA at e;split at e
  ·rename_i g c y ex fz a F;replace e:=BP e;rcases e with⟨u,e⟩|⟨u,e⟩
   ·subst u;obtain⟨x,r,G,z⟩:=Et (λi hi=>hb i (by simp[hi])) e
    grind
   ·replace e:=BE e;obtain⟨q,e⟩:=e;subst q;have f:=hb j (by simp);obtain⟨x,r,G,z⟩:=Et (λi hi=>hb i (by simp[hi])) e;refine⟨λi hi=> ?_,λi b' n=> ?_,λi hi L K M B C I o=> ?_,λi b hi w=> ?_⟩
    ·rcases aj.1 hi with rfl|hi
     ·grind
     ·by_cases p:i=j
      ·grind
      ·have:=x i hi;rw[AJ f,zx p]at this;exact this
    ·rcases r i b' n with d|⟨D,A,J,k,m,s,d,t,E⟩
     ·rw[AJ f]at d
      grind
     ·rw[AJ f]at t
      grind
    ·rcases aj.1 hi with rfl|hi
     ·rcases r _ _ o with d|⟨D,A,J,k,m,s,d,t,E⟩
      ·rw[AJ f,zy rfl]at d;grind
      grind
     grind
    ·refine z i b ?_ w;rw[AJ f,zx]
     ·exact hi
     ·intro hh;subst hh;rw[F]at hi;cases hi;cases w
  ·cases e
theorem RH.frozen(r:RH X h n)(hn:n<=1048575){l lP:List Nat}{h':H}{f:Hp}(hl:∀ i∈l,∃ a,X.π i=zo a)(e:CA h l=zo h')(S:f.nx=X.h.nx)(eg:∀ q,f.get q=if q∈lP then(match X.h.get q with
  |some (.row es ex _)=>zo (.row es ex zt)
  |b=>b)else X.h.get q) (hm:∀ q∈lP,X.O q -> ∃ i∈l,∃ m,X.π i=zo (.blk q m)) (id idP:Nat) :
  ∃ Y:Cx,Y.π=X.π/\Y.O=X.O/\E7 X h n id idP h' f Y:=by
 have hb:∀ i∈l,i<1048575:=λi hi=>by obtain⟨a,ha⟩:=hl i hi;have:=r.dom _ _ ha;omega
 obtain⟨k1,k2,k3,k4⟩:=Et hb e
 let Y:Cx:={ π:=X.π,h:=f,O:=X.O }
 have p:∀ q es ex fz,X.h.get q=zo (.row es ex fz) -> ∃ s,f.get q=zo (.row es ex s)/\(q ∉ lP->s=fz):=λq es ex fz z=>by
  grind
 have D:∀ q,(∀ es ex fz,X.h.get q≠zo (.row es ex fz))->f.get q=X.h.get q:=λq z=>by
  grind
 have u:Up X Y:=⟨λ_ _ h=>h,λq es ex fz z hg=>⟨by grind,z⟩⟩
 have live:∀ {i:Nat} {b':BA},h'.get i=zo b'->b'.live -> ∃ b,h.get i=zo b/\b.live:=λhi hv=>by
  rcases k2 _ _ hi with B|⟨g1,c1,y1,M,N,U,B,G,h3⟩
  ·grind
  ·exact⟨_,G,trivial⟩
 refine⟨Y,rfl,rfl,rfl,⟨λi b' hi=> ?_,λi i' b b' q m1 m2 hi C l1 l2 a1 a2=> ?_,r.dom,λq z=> ?_,λq z=>by
  show f.get q≠zn;rw[eg];have:=r.ob _ z
  grind⟩,⟨u,S,λ_ _ h=>h,λq z hne=> ?_,k4,λq st pe nt t Z K F d z=> ?_⟩⟩
 ·
  rcases k2 _ _ hi with B|⟨g1,c1,y1,M,N,U,B,G,h3⟩
  ·have hB:=r.blk _ _ B;cases b' with
   |row g c y ex fz lk=>
    rcases hB with⟨pid,len,es,s,o,j,x,w,E,W,J⟩|hB|hB
    ·obtain⟨A,q1,q2⟩:=p _ _ _ _ x;refine .inl ⟨pid,len,es,A,o,j,q1,λhf=> ?_,E,W,EDR.mono u J⟩;by_cases P:pid∈lP
     ·obtain⟨i',C,m,I⟩:=hm _ P j;obtain⟨g2,c2,y2,ex2,fz3,lk2,h4⟩:=k1 _ C;have:=r.inj _ _ _ _ _ _ _ B h4 trivial trivial o I
      grind
     grind
    ·exact .inr (.inl hB)
    ·exact .inr (.inr hB)
   |box cs fz lk=>
    obtain⟨pid,m,Z,s,o,j,x,w,E⟩:=hB;exact⟨pid,m,Z,s,o,j,by grind,w,E.mono u⟩
   |mp k g c y lk=>
    obtain⟨pid,m,es,o,j,x,w⟩:=hB;exact⟨pid,m,es,o,j,by grind,w.mono λ_ _ m=>⟨m.1,m.2.mono λ_ _ k=>DR.mono u.rows k⟩⟩
   |lp st pend nt t Z K F d=>
    obtain⟨pid,m,tP,dP,m2,o,j,x,w,E,J⟩:=hB;exact⟨pid,m,tP,dP,m2,o,j,by grind,w.mono u,E,J⟩
   |df ds=>
    obtain⟨pid,m,L,o,j,x,w⟩:=hB;refine⟨pid,m,L,o,j,by grind,?_⟩;split at w
    ·trivial
    ·exact w.mono λ_ _ m=>m.mono u
    omega
   |dead=>
    intro pid m e;obtain⟨j,x⟩:=hB pid m e
    grind
  ·subst h3;rcases r.blk _ _ G with⟨pid,len,es,s,o,j,x,w,E,W,J⟩|hB|⟨es,o,j,x,w⟩
   ·obtain⟨A,q1,q2⟩:=p _ _ _ _ x;exact .inl ⟨pid,len,es,A,o,j,q1,λhf=>(by cases hf),E,W,EDR.mono u J⟩
   ·exact .inr (.inl hB)
   ·exact .inr (.inr ⟨es,o,j,.inl rfl,w⟩)
 ·obtain⟨b1,B,v1⟩:=live hi l1;obtain⟨b2,G,v2⟩:=live C l2;exact r.inj _ _ _ _ _ _ _ B G v1 v2 a1 a2
 ·show f.get q=zn;rw[D]
  ·exact r.fresh _ (by grind)
  ·rw[r.fresh _ (by grind)];intros;simp
 all_goals grind
end
end
section
variable[Pi.Gl]
open Pi (PV T Hp Blk DF UM PE AM AS AB AW Ap)
section
variable{X:Cx}{h:H}{n id idP:Nat}{β:Type}{x:β}{P:Program}
def MetA(X:Cx)(l lP:List Nat):Prop:=∀ i∈lP,(X.Q i \/ ∃ id∈l,∃ m,X.π id=zo (.blk i m)) /\ ∃ es ex fz,X.h.get i=zo (.row es ex fz)
theorem MetA.append{l m lP c:List Nat}(a:MetA X l lP)(b:MetA X m c):MetA X (l++m) (lP++c):=λi hi=>by
 rcases al.1 hi with hi|hi
 ·obtain⟨d,e⟩:=a i hi
  grind
 ·obtain⟨d,e⟩:=b i hi
  grind
theorem MetA.nil{l:List Nat}:MetA X l []:=λ_ hi=>by cases hi
def Kn(X:Cx)(l:List Nat):Prop:=∀ i∈l,∃ a,X.π i=zo a
theorem Kn.append{l m:List Nat}(a:Kn X l)(b:Kn X m):Kn X (l++m):=λi hi=>(al.1 hi).elim (a i) (b i)
theorem Kn.nil:Kn X []:=λ_ hi=>by cases hi
theorem Met.toA{l:List Nat}(m:Met X.h X.Q l):MetA X [] l:=λi hi=>⟨.inl (m i hi).1,(m i hi).2⟩
theorem H7{pid off len:Nat}{es:List PV}{ex fz:Bool}{g:Bool}{c:Ty}{l:List c.den}{d:Nat}(k:X.h.get pid=zo (.row es ex fz))(m:off+len<=es.length)(n:L2 (EP g (DR X.h X.Q c)) l ((es.drop off).take len))(r:2*c.depth+3<=d) :
  ∃ b a,AW X.h d (.own pid off len)=zo (.lst zf b,pid::a)/\L2 (EP g (DP c)) l b/\Met X.h X.Q a:=by
 obtain⟨d,rfl⟩:∃ f,d=f+1:=⟨d-1,by omega⟩;obtain⟨b,a,s,p,q⟩:=Ji (λy e o=>Lx (d:=d) (λj f i=>E1 j f i) (by omega) o) n;refine⟨b,a,?_,p,q⟩;simp only[AW,k];rw[show ad (off+len) es.length=zt from by simpa using m]
 simp_all
theorem EY(hh:Hp)(d:Nat)(cs:List PV):AW hh (d+1) (.agg cs)=(AB (AW hh d) cs).map λ(x,l)=>(.agg x,l):=rfl
theorem Kv(hh:Hp)(d:Nat)(cs:List PV):AW hh (d+1) (.tup cs)=(AB (AW hh d) cs).map λ(x,l)=>(.tup x,l):=rfl
theorem Ks(hh:Hp)(d:Nat)(t:TypeId)(v:PV):AW hh (d+1) (.ifc t v)=(AW hh d v).map λ(x,l)=>(.ifc t x,l):=rfl
theorem M9 (hh:Hp) (d:Nat) (f:Fn) (a b:List PV):AW hh (d+1) (.fn f a b)=(match AB (AW hh d) a,AB (AW hh d) b with
   |some (a,l),zo (b,m)=>zo (.fn f a b,l++m)
   |_,_=>zn):=rfl
mutual
theorem Kr(r:RH X h n):∀ (d:Nat) {v:V} {p:PV} {K:V->List Nat->Option β},VR X v p->purA h d v K=zo x ->
  ∃ v' l q lP,K v' l=zo x/\AW X.h (d+6) p=zo (q,lP)/\VR Cx.pure v' q/\MetA X l lP/\Kn X l
 |0,_,_,_,_,e=>by simp[purA]at e
 |d+1,v,p,K,hv,e=>by
  have k:d+1+6=(d+6)+1:=by omega
  unfold purA at e;split at e
  ·obtain⟨ps,rfl,j⟩:=hv.agg_inv;obtain⟨vs,l,o,lP,e1,w,s,t,u⟩:=E0 r d j e;refine⟨_,l,.agg o,lP,e1,?_,by simp only[VR];simp_all,t,u⟩;rw[k,EY,w];rfl
  ·simp only[VR]at hv;obtain⟨ps,rfl,j⟩:=hv;obtain⟨vs,l,o,lP,e1,w,s,t,u⟩:=E0 r d j e;refine⟨_,l,.tup o,lP,e1,?_,by simp only[VR];simp_all,t,u⟩;rw[k,Kv,w];rfl
  ·simp only[VR]at hv;obtain⟨q,rfl,j⟩:=hv;obtain⟨v',l,q',lP,e1,w,s,t,u⟩:=Kr r d j e
   grind [VR,Ks]
  ·simp only[VR]at hv;obtain⟨a',b',rfl,ha,hb⟩:=hv;obtain⟨vs,l,o,lP,e1,w,s,t,u⟩:=E0 r d ha e;obtain⟨ws,m,rs,mP,e2,A,I,B,k4⟩:=E0 r d hb e1;refine⟨_,l++m,.fn _ o rs,lP++mP,e2,?_,by simp only[VR];exact⟨o,rs,rfl,s,I⟩,t.append B,u.append k4⟩;rw[k,M9,w,A]
  ·rename_i f g c l;replace e:=AN e;obtain⟨D,e⟩:=e;have b:2*c.depth+3<=d+7:=ap D;simp only[VR]at hv;rcases hv with⟨rfl,rfl⟩|⟨C,es,rfl,hf,s⟩|⟨pid,off,len,es,ex,fz,rfl,hf,s,t,u,h8,h5⟩
   ·exact⟨_,[],.nils,[],e,by rfl,by simp[VR],.nil,.nil⟩
   ·exact⟨_,[],.lst C es,[],e,by rfl,by grind [VR],.nil,.nil⟩
   ·obtain⟨o,E,A,I,B⟩:=H7 (d:=d+7) t u h5 b;refine⟨_,[],_,_,e,A,by simp_all[VR],λi hi=> ?_,.nil⟩;rcases aj.1 hi with rfl|hi
    ·simp_all
    ·exact B.toA i hi
  ·simp only[VR]at hv;rcases hv with⟨rfl,rfl⟩|⟨C,es,rfl,s⟩
   ·exact⟨_,[],.nils,[],e,by rfl,by simp[VR],.nil,.nil⟩
   ·exact⟨_,[],.lst C es,[],e,by rfl,by grind [VR],.nil,.nil⟩
  ·rename_i id;split at e
   ·rename_i g c l ex fz lk M;replace e:=AN e;obtain⟨D,e⟩:=e;have b:2*c.depth+3<=d+7:=ap D;simp only[VR]at hv;have hB:=r.blk _ _ M;cases z:X.π id with
    |none=>simp_all
    |some a=>
     rw[z]at hv hB;have y:Kn X [id]:=λi hi=>by simp_all
     rcases hB with⟨pid,len,es,L,G,p2,p3,p4,p5,p7,J⟩|⟨G,_,p2⟩|⟨es,G,_,_,p2⟩
     ·cases G;simp only at hv;subst hv;obtain⟨o,E,A,I,B⟩:=H7 (d:=d+7) (off:=0) (len:=len) p3 (by omega) (by rw[bH,bc (by omega)];exact J) b;refine⟨_,[id],_,_,e,A,by simp_all[VR],λi hi=> ?_,y⟩;rcases aj.1 hi with rfl|hi
      ·simp_all
      ·obtain⟨q1,q2⟩:=B i hi;simp_all
     ·cases G;subst p2;simp only at hv;subst hv;exact⟨_,[id],.nils,[],e,by rfl,by simp[VR],.nil,y⟩
     ·cases G;simp only at hv;subst hv;exact⟨_,[id],.lst zt es,[],e,by rfl,by simp_all[VR],.nil,y⟩
   ·cases e
  ·rename_i id off len;split at e
   ·rename_i g c l ex fz lk M;replace e:=AN e;obtain⟨D,e⟩:=e;have b:2*c.depth+3<=d+7:=ap D;replace e:=AI e;obtain⟨N,e⟩:=e;simp only[VR]at hv;obtain⟨pid,m,z,rfl⟩:=hv;obtain⟨es,L,p3,_,p5,_,J⟩:=r.rowAt z M;obtain⟨o,E,A,I,B⟩:=H7 (d:=d+7) (off:=off) (len:=len) p3 (by rw[<- J.length];simpa[B2,A0,AQ]using N) (KY J off len) b;refine⟨_,[id],_,_,e,A,by simp_all[VR],λi hi=> ?_,λi hi=>by simp_all⟩;rcases aj.1 hi with rfl|hi
    ·simp_all
    ·obtain⟨q1,q2⟩:=B i hi;simp_all
   ·cases e
  ·cases e
  ·cases e
  ·cases e
  ·cases e
  ·cases e
  ·cases e
  ·cases e
  ·cases e
  ·cases e
  ·rename_i n1 n2 n3 n4 n5 Y n6 n7 n8 n9 Z O F P S U W;cases v with
   |agg|tup|ifc|fn|lf|pl|ow|own|ptr|view|pv|ept|aptr|yl|mp|gk|dd=>
    exfalso
    first|exact W rfl|exact U _ rfl|exact F _ _ _ _ rfl|exact n1 _ rfl|exact n2 _ rfl|exact n3 _ _ rfl|exact n4 _ _ _ rfl|exact n5 _ _ _ _ rfl|exact Y _ _ _ rfl|exact n6 _ rfl|exact n7 _ _ _ rfl|exact n8 _ _ rfl|exact n9 _ rfl|exact Z _ rfl|exact O _ _ _ rfl|exact P _ rfl|exact S _ rfl
   |exl f es=>
    simp only[VR]at hv;obtain⟨C,ps,rfl,w,s⟩:=hv;exact⟨_,[],.lst C ps,[],e,by rfl,by grind [VR],.nil,.nil⟩
   |_=>
    simp only[VR]at hv;subst hv;exact⟨_,[],_,[],e,by rw[k];rfl,by rfl,.nil,.nil⟩
theorem E0(r:RH X h n):∀ (d:Nat) {vs:List V} {f:List PV} {K:List V->List Nat->Option β},VRL X vs f->purA.purAs (purA h d) vs K=zo x ->
  ∃ a l b lP,K a l=zo x/\AB (AW X.h (d+6)) f=zo (b,lP)/\VRL Cx.pure a b/\MetA X l lP/\Kn X l
 |d,[],_,K,hv,e=>by rw[hv.nil_inv];exact⟨[],[],[],[],e,rfl,.nil,.nil,.nil⟩
 |d,v::vs,_,K,hv,e=>by
  obtain⟨p,b,rfl,g,i⟩:=hv.cons_inv;unfold purA.purAs at e;obtain⟨A,l,q,lP,e1,j,k,o,s⟩:=Kr r d g e;obtain⟨a,m,c,z,e2,t,u,w,y⟩:=E0 r d i e1;exact⟨A::a,l++m,q::c,lP++z,e2,by simp[AB,j,t],.cons k u,o.append w,s.append y⟩
end
theorem Lz(r:RH X h n):∀ {vs:List V} {d:List PV} {K:List V->List Nat->Option β},VRL X vs d->N7 h vs K=zo x ->
  ∃ a l b lP,K a l=zo x/\Ap X.h d=zo (b,lP)/\VRL Cx.pure a b/\MetA X l lP/\Kn X l
 |[],_,K,hv,e=>by rw[hv.nil_inv];exact⟨[],[],[],[],e,rfl,.nil,.nil,.nil⟩
 |v::vs,_,K,hv,e=>by
  obtain⟨p,b,rfl,f,g⟩:=hv.cons_inv;unfold N7 at e;obtain⟨z,l,q,lP,e1,i,j,k,o⟩:=Kr r 6 f e;obtain⟨a,m,c,y,e2,s,t,u,w⟩:=Lz r g e1;refine⟨z::a,l++m,q::c,lP++y,e2,?_,.cons j t,k.append u,o.append w⟩;simp only[Ap,show Pi.AT=6+6 from rfl,i,s]
theorem RH.mark(r:RH X h n)(j:n<=1048575){l lP:List Nat}{h':H}(b:MetA X l lP)(g:Kn X l)(e:CA h l=zo h')(id idP:Nat) :
  ∃ a Y,Pi.freeze X.h lP=zo a/\Y.π=X.π/\Y.O=X.O/\E7 X h n id idP h' a Y:=by
 obtain⟨a,o,c,d⟩:=Bi (Q:=λi=>X.Q i \/ ∃ id∈l,∃ m,X.π id=zo (.blk i m)) b
 obtain⟨Y,p,s,t⟩:=r.frozen j g e c d (λq k f=>by
  rcases(b q k).1 with h1|h1
  ·exact absurd f h1
  ·exact h1) id idP
 grind
def UF(X:Cx):List (Nat×Nat×List V)->List (Nat×Nat×List PV)->Prop:=L2 λa b=>a.1=b.1/\a.2.1=b.2.1/\VRL X a.2.2 b.2.2
theorem HD:∀ {pl:List (Nat×Nat×List V)} {c:List (Nat×Nat×List PV)} {cs b:List V} {d:List PV},UF X pl c->VRL X cs d->IY cs pl=zo b -> ∃ a,Pi.Ff d c=zo a/\VRL X b a
 |[],_,cs,b,d,h,hc,e=>by rw[L2.nil_inv h];cases e;exact⟨d,rfl,hc⟩
 |(off,m,vs)::pl,_,cs,b,d,h,hc,e=>by
  obtain⟨⟨j,m',p⟩,t,rfl,⟨g,i,f⟩,k⟩:=L2.cons_inv h;simp only at g i f;subst g;subst i;unfold IY at e;replace e:=AN e;obtain⟨l,e⟩:=e;obtain⟨a,n,o⟩:=HD k (hc.fput f off) e;refine⟨a,?_,o⟩;unfold Pi.Ff;rw[<- f.length,<- hc.length,l];exact n
theorem Gu{g:Array Field}:∀ {m:List (Nat×V)} {c:List (Nat×PV)} {a:List (Nat×Nat×List V)},Sq X m c->FS P g m=zo a -> ∃ b,Pi.EC P g c=zo b/\UF X a b
 |[],_,a,h,e=>by rw[L2.nil_inv h];cases e;exact⟨[],rfl,.nil⟩
 |(i,v)::l,_,a,h,e=>by
  obtain⟨⟨z,p⟩,t,rfl,⟨j,k⟩,n⟩:=L2.cons_inv h;simp only at j k;subst j;unfold FS at e;split at e
  ·rename_i f r q s;obtain⟨x,u,w⟩:=Gu n s;split at e
   ·rename_i y d;replace e:=AN e;obtain⟨o,e⟩:=e;cases e;refine⟨(f.offset,y,p.cells)::x,?_,.cons ⟨rfl,rfl,k.cells⟩ w⟩;simp only[Pi.EC,q,u,d,o,zb]
   ·cases e
  ·cases e
theorem Fl{a:Nat}:∀ {e:List (Nat×V)} {b:List (Nat×PV)},Sq X e b->UF X (GD a e) (Pi.FQ a b)
 |[],_,h=>by rw[L2.nil_inv h];exact .nil
 |(i,v)::l,_,h=>by
  obtain⟨⟨g,p⟩,t,rfl,⟨c,d⟩,f⟩:=L2.cons_inv h;simp only at c d;subst c;exact .cons ⟨rfl,rfl,d.cells⟩ (Fl f)
theorem JT{d:Nat}:∀ {k:List (Nat×V)} {f:List (Nat×PV)} {es c:List V} {b:List PV},Sq X k f->VRL X es b->KF d es k=zo c -> ∃ a,Pi.Fe d b f=zo a/\VRL X c a
 |[],_,es,c,b,h,hc,e=>by rw[L2.nil_inv h];cases e;exact⟨b,rfl,hc⟩
 |(i,v)::l,_,es,c,b,h,hc,e=>by
  obtain⟨⟨r,p⟩,t,rfl,⟨j,g⟩,m⟩:=L2.cons_inv h;simp only at j g;subst j;unfold KF at e;replace e:=AN e;obtain⟨n,e⟩:=e;obtain⟨a,o,q⟩:=JT m (hc.lset i g) e;refine⟨a,?_,q⟩;unfold Pi.Fe;rw[<- g.cells.length,<- hc.length,n];exact o
theorem ON{ty:TypeId}{k:List (Nat×V)}{d:List (Nat×PV)}{K:V->Option β}(j:Sq X k d)(e:MV P ty k K=zo x):∃ v q,K v=zo x/\Pi.By P X.h ty d=zo (.val q X.h)/\VR X v q:=by
 unfold MV at e;split at e
 ·rename_i z y g o;replace e:=AN e;obtain⟨l,e⟩:=e;obtain⟨u,i,c⟩:=Bj (X:=X) g;split at e
  ·rename_i pl f;obtain⟨t,A,p⟩:=Gu j f;replace e:=AD e;obtain⟨cs,b,e⟩:=e;obtain⟨a,r,s⟩:=HD p c b;refine⟨_,.agg a,e,?_,by simp only[VR];simp_all⟩;unfold Pi.By
   grind
  ·cases e
 ·rename_i z m w g o;obtain⟨u,i,c⟩:=Bj (X:=X) g;split at e
  ·rename_i B n;replace e:=AN e;obtain⟨l,e⟩:=e;replace e:=AD e;obtain⟨cs,b,e⟩:=e;obtain⟨a,r,s⟩:=HD (Fl j) c b;refine⟨_,.agg a,e,?_,by simp only[VR];simp_all⟩;unfold Pi.By
   grind
  ·cases e
 ·cases e
theorem IH(r:RH X h n)(o:n<=1048575){ty:TypeId}{len:Nat}{g:List (Nat×V)}{b:List (Nat×PV)}{K:RA->Option β}(p:Sq X g b)(e:Ek P h ty len g K=zo x) :
  VOk X h n id idP K x (Pi.Ah P X.h ty len b):=by
 unfold Ek at e;split at e
 ·rename_i G J;split at e
  ·rename_i S F z q j s;obtain⟨zP,t,a⟩:=Bj (X:=X) s;split at e
   ·rename_i Z f;obtain⟨E,L,u⟩:=Ip a f;replace e:=BE e;obtain⟨k,e⟩:=e;rw[a.length]at k;replace e:=AD e;obtain⟨es,d,e⟩:=e;obtain⟨i,M,w⟩:=JT p (VRL.rep u len) d;replace e:=Lz r w e;obtain⟨C,l,B,lP,e,N,O,y,A⟩:=e;replace e:=AD e;obtain⟨h',m,e⟩:=e;obtain⟨c,Y,I,U,W,D⟩:=r.mark o y A m id idP;refine⟨_,h',.lst zt B,c,Y,e,?_,D,by simp_all[VR]⟩;unfold Pi.Ah
    grind
   ·cases e
  ·cases e
 ·cases e
theorem P8(r:RH X h n)(w:Nw X n id idP){ty:TypeId}{same:Bool}{l c:V}{lP m:PV}{K:RA->Option β}(hs:same=zt->lP=m)(M:VR X l lP)(hc:VR X c m)(e:P7 P h id ty same l c K=zo x) :
  VOk X h n id idP K x (Pi.C2 P X.h idP ty lP m):=by
 unfold P7 at e;split at e
 ·rename_i et N;split at e
  ·rename_i sz ag z ti s q U t;obtain⟨zP,u,k⟩:=Bj (X:=X) U;replace e:=AD e;obtain⟨⟨g,J⟩,L,e⟩:=e;replace e:=AN e;obtain⟨E,e⟩:=e;simp only[ac]at E;obtain⟨⟨G,I⟩,C⟩:=E;rw[k.length]at C;replace e:=AD e;obtain⟨z1,A,e⟩:=e;obtain⟨z1P,W,Z⟩:=Ip k A;replace e:=Dy Z e;obtain⟨y,e,S⟩:=e;replace e:=Jb M e;obtain⟨B,e,i⟩:=e;replace e:=Jb hc e;obtain⟨b,e,a⟩:=e
   have d:ad B b=zt->ad b 1048576=zt -> ∀ {v:V},K (.val v (AG h id (.row g J (Ot b y) zt zf zf)))=zo x->(∀ Y:Cx,Y.π id=zo (.blk idP b)->VR Y v (.own idP 0 B))->VOk X h n id idP K x (Pi.C2 P X.h idP ty lP m):=by
    intro o f v e O;obtain⟨p,Y,y1,y2,y3,F⟩:=BY (g:=g) (ex:=true) (fz:=false) r w (L2.replicate S b) (λh=>by cases h);rw[List.length_replicate]at F;refine⟨_,_,.own idP 0 B,p,Y,e,?_,y2,O Y F⟩;unfold Pi.C2;simp only[N,i,a,s,q,u,t,W,o,f,G,I,C,show Pi.Ba=1048576 from rfl,Bool.and_self,zb,y1];rfl
   rcases BP e with⟨j,e⟩|⟨j,e⟩
   ·have:=hs j;subst this;rw[i]at a;cases a;replace e:=AI e;obtain⟨f,e⟩:=e;exact d (by simp) f e λY D=>by simp only[VR,D]
   ·replace e:=AI e;obtain⟨o,e⟩:=e;replace e:=AI e;obtain⟨f,e⟩:=e;exact d o f e λY D=>by simp_all[VR]
  ·cases e
 ·cases e
end
end
section
variable[Pi.Gl]
open Pi (PV T Hp Blk DF UM PE AM AS AB AW Ap)
section
variable{X:Cx}{h:H}{n id idP:Nat}{β:Type}{x:β}{P:Program}
theorem I0{α:Type}{R:α->PV->Prop}{l:List α}{es:List PV}{off len a b:Nat}(h:L2 R l ((es.drop off).take len))(c:b<=len):L2 R (DV l a b) ((es.drop (off+a)).take (b-a)):=by
 have:=(h.drop a).take (b-a)
 grind [DV,List.drop_take,List.drop_drop,min]
theorem VRO.isSome{o:Option V}{p:Option PV}(h:VRO X o p):p.isSome=o.isSome:=by
 cases o with
 |none=>cases h;rfl
 |some v=>obtain⟨q,rfl,_⟩:=h;rfl
def WOk(X:Cx)(h:H)(n id idP:Nat)(K:V->Option β)(x:β)(o:Option Pi.R):Prop:=
 ∃ v p a Y,K v=zo x/\o=zo (.val p a)/\E7 X h n id idP h a Y/\VR Y v p
theorem WOk.same(r:RH X h n){K:V->Option β}{o:Option Pi.R}{v:V}{p:PV}(e:K v=zo x)(a:o=zo (.val p X.h))(b:VR X v p):WOk X h n id idP K x o:=
 ⟨v,p,X.h,X,e,a,⟨rfl,r,St.refl _ _ _ _⟩,b⟩
theorem Kd{d:Nat}:Pi.Ca d zn=zo d:=rfl
theorem Mz{d:Nat}{p:PV}:Pi.Ca d (zo p)=Pi.Fb p:=rfl
theorem S8{a b:Nat}(h:¬ a<b):ae a b=zf:=by
 cases c:ae a b with
 |false=>rfl
 |true=>exact absurd (by simpa using c) h
theorem S9{a b:Nat}(h:ae a b=zf):¬ a<b:=λc=>by
 rw[show ae a b=zt from by simpa using c]at h;cases h
theorem O6(r:RH X h n)(hn:n<=1048575){ty:TypeId}{a:V}{p:PV}{lo hi mx:Option V}{loP U mxP:Option PV}{K:V->Option β}(w:VR X a p)(G:VRO X lo loP)(y:VRO X hi U)(A:VRO X mx mxP)
  (e:NI P h ty a lo hi mx K=zo x):WOk X h n id idP K x (Pi.Ai P X.h ty p loP U mxP):=by
 unfold NI at e;split at e
 ·rename_i s E;split at e
  ·cases A;simp only[VR]at w;subst w;replace e:=A6 y e;obtain⟨hh,e,z⟩:=e;replace e:=A6 G e;obtain⟨l,e,q⟩:=e;replace e:=AI e;obtain⟨D,e⟩:=e;replace e:=AI e;obtain⟨F,e⟩:=e;refine .same r e (p:=.str ((s.drop l).take (hh-l))) ?_ (by rfl);unfold Pi.Ai;simp only[NH]at z D;simp only[B2]at D F
   grind
  ·cases e
 ·rename_i et E;replace e:=AD e;obtain⟨sz,o,e⟩:=e;simp only[VR]at w;subst w;split at e
  ·cases A;replace e:=A6 y e;obtain⟨hh,e,z⟩:=e;replace e:=A6 G e;obtain⟨l,e,q⟩:=e;replace e:=AI e;obtain⟨D,e⟩:=e;replace e:=AI e;obtain⟨F,e⟩:=e;have:hh=0:=by simpa[neq]using D
   subst this;have:l=0:=by simpa[neq]using F
   subst this;refine .same r e (p:=.nils) ?_ (by simp[VR])
   simp_all[Pi.Ai,Kd]
  ·rename_i m;obtain⟨mP,rfl,hm⟩:=A;replace e:=BE e;obtain⟨S,e⟩:=e;have M:U.isSome=zt:=by rw[y.isSome];simp_all
   replace e:=A6 y e;obtain⟨hh,e,z⟩:=e;replace e:=A6 G e;obtain⟨l,e,q⟩:=e;replace e:=C9 hm e;obtain⟨mn,e,h3⟩:=e;replace e:=AI e;obtain⟨D,e⟩:=e;replace e:=AI e;obtain⟨F,e⟩:=e;replace e:=AI e;obtain⟨g3,e⟩:=e;have:hh=0:=by simpa[neq]using D
   subst this;have:l=0:=by simpa[neq]using F
   subst this;have:mn=0:=by simpa[neq]using g3
   subst this;refine .same r e (p:=.nils) ?_ (by simp[VR])
   simp_all[Pi.Ai,Mz]
 ·rename_i et f g c es E;replace e:=AD e;obtain⟨sz,o,e⟩:=e;replace e:=BE e;obtain⟨B,e⟩:=e;have B:sz=c.wd:=by simp_all
  subst B;replace e:=A6 G e;obtain⟨l,e,z⟩:=e;replace e:=A6 y e;obtain⟨hh,e,q⟩:=e;split at e
  ·cases A;replace e:=AI e;obtain⟨D,e⟩:=e;replace e:=AI e;obtain⟨F,e⟩:=e;have k:hh<=es.length:=by simpa[B2,AQ]using D
   have O:l<=hh:=by simpa[B2]using F
   simp only[VR]at w;unfold Pi.Ai;rcases w with⟨rfl,rfl⟩|⟨f',b,rfl,hf,C⟩|⟨pid,off,len,b,ex,fz,rfl,hf,C,k2,k3,k4,k5⟩
   ·have:hh=0:=by simp_all
    subst this;have:l=0:=by omega
    subst this;refine .same r e (p:=.nils) ?_ (by simp[VR,DV])
    simp_all[AQ,aI,Kd]
   ·rw[C.length]at k;refine .same r e (p:=.lst (f'&&aa hh b.length) ((b.drop l).take (hh-l))) ?_ (by simp only[VR];exact .inr (.inl ⟨_,_,rfl,by simp,(C.drop l).take (hh-l)⟩));simp only[AQ,C.length]at q;simp only[E,o,Ar rfl (EPL.up (hh:=X.h) (Q:=X.Q) C),ao,zj,z,q];rw[show ad hh b.length=zt from by simp_all,show ad l hh=zt from by simp_all];rfl
   ·have J:((b.drop off).take len).length=len:=by simp;omega
    rw[k5.length,J]at k;simp only[AQ,k5.length,J]at q;have N:ad l hh=zt:=by simp_all
    have b2:ad (off+hh) b.length=zt:=by simp;omega
    by_cases u:off+l<b.length
    ·refine .same r e (p:=.own pid (off+l) (hh-l)) ?_ (by simp only[VR];exact .inr (.inr ⟨pid,off+l,hh-l,b,ex,fz,rfl,by simp,C,k2,by omega,k4,I0 k5 k⟩));simp only[E,o,k2,k4,ao,zj,z,q,N,b2,aL];rw[show ae (off+l) b.length=zt from by simpa using u];rfl
    ·have hes:DV es l hh=[]:=by
      have:=(I0 (a:=l) k5 k).length
      simp_all
     refine .same r e (p:=.lst zf []) ?_ (by rw[hes];simp only[VR];exact .inr (.inl ⟨zf,[],rfl,by simp,.nil⟩));simp only[E,o,k2,k4,ao,zj,z,q,N,b2,aL]
     rw[show ae (off+l) b.length=zf from by
      cases hq:ae (off+l) b.length with
      |false=>rfl
      |true=>exact absurd (by simpa using hq) u];rfl
  ·rename_i m;obtain⟨mP,rfl,hm⟩:=A;replace e:=BE e;obtain⟨u,e⟩:=e;simp only[af,aq,bx]at u;obtain⟨S,hb2⟩:=u;have M:U.isSome=zt:=by rw[y.isSome];exact S
   replace e:=C9 hm e;obtain⟨mn,e,h3⟩:=e;replace e:=AI e;obtain⟨D,e⟩:=e;replace e:=AI e;obtain⟨g3,e⟩:=e;replace e:=AI e;obtain⟨F,e⟩:=e;have:hh=mn:=by simpa[neq]using g3
   subst this;have k:hh<=es.length:=by simpa[B2,AQ]using D
   have O:l<=hh:=by simpa[B2]using F
   have N:ad l hh=zt:=by simp_all
   simp only[VR]at w;unfold Pi.Ai;rcases w with⟨rfl,rfl⟩|⟨f',b,rfl,hf,C⟩|⟨pid,off,len,b,ex,fz,rfl,hf,C,k2,k3,k4,k5⟩
   ·have:hh=0:=by simp_all
    subst this;have:l=0:=by omega
    subst this;refine .same r e (p:=.nils) ?_ (by simp[VR,DV])
    simp_all[AQ,aI,Mz]
   ·rw[C.length]at k;refine .same r e (p:=.lst zt ((b.drop l).take (hh-l))) ?_ (by simp only[VR];exact .inr (.inl ⟨_,_,rfl,by simp,(C.drop l).take (hh-l)⟩));simp only[AQ,C.length]at q;simp only[E,o,Ar rfl (EPL.up (hh:=X.h) (Q:=X.Q) C),ao,zj,z,q,h3,M,N];have L:ad hh hh=zt:=by simp
    have I:aa hh hh=zt:=by simp
    rw[show ad hh b.length=zt from by simp_all,L,I];rfl
   ·have J:((b.drop off).take len).length=len:=by simp;omega
    rw[k5.length,J]at k;simp only[AQ,k5.length,J]at q;have b2:ad (off+hh) b.length=zt:=by simp;omega
    simp only[E,o,k2,k4,ao,zj,z,q,N,b2,aL,h3,M];cases hex:(ex&&aa (off+hh) b.length)with
    |true=>
     simp only[ac,bq]at hex;obtain⟨rfl,hend⟩:=hex;by_cases u:off+l<b.length
     ·refine .same r e (p:=.own pid (off+l) (hh-l)) ?_ (by simp only[VR];exact .inr (.inr ⟨pid,off+l,hh-l,b,zt,fz,rfl,λ_=>⟨rfl,by omega⟩,C,k2,by omega,k4,I0 k5 k⟩));have L:ad hh hh=zt:=by simp
      have I:aa (off+hh) b.length=zt:=by simp[hend]
      rw[show ae (off+l) b.length=zt from by simpa using u,L,I];rfl
     ·have hes:DV es l hh=[]:=by
       have:=(I0 (a:=l) k5 k).length
       simp_all
      refine .same r e (p:=.lst zt []) ?_ (by rw[hes];simp only[VR];exact .inr (.inl ⟨zt,[],rfl,by simp,.nil⟩))
      rw[show ae (off+l) b.length=zf from by
       cases hq:ae (off+l) b.length with
       |false=>rfl
       |true=>exact absurd (by simpa using hq) u]
      have L:ad hh hh=zt:=by simp
      have I:aa (off+hh) b.length=zt:=by simp[hend]
      grind
    |false=>
     have hd:c.depth<=4:=ap hb2;obtain⟨qs,ids,p1,p2,p3⟩:=H7 (d:=12) (off:=off+l) (len:=hh-l) k2 (by omega) (I0 k5 k) (by omega)
     have hmA:MetA X [] (pid::ids):=λi hi=>by
      rcases aj.1 hi with rfl|hi
      ·simp_all
      ·exact p3.toA i hi
     obtain⟨hP',Y,f1,y1,y2,y3⟩:=r.mark hn hmA .nil rfl id idP;refine⟨_,.lst zt qs,hP',Y,e,?_,y3,by simp_all[VR]⟩;have L:ad hh hh=zt:=by simp
     have I:aa hh hh=zt:=by simp
     have hc:(zt&&ad hh hh&&ex&&aa (off+hh) b.length)=zf:=by simp_all
     rw[hc];simp only[zj,Pi.Dc,show Pi.AT=12 from rfl,p1,f1,I];rfl
 ·rename_i et g c es E;replace e:=AD e;obtain⟨sz,o,e⟩:=e;replace e:=BE e;obtain⟨B,e⟩:=e;have B:sz=c.wd:=by simp_all
  subst B;replace e:=A6 G e;obtain⟨l,e,z⟩:=e;replace e:=A6 y e;obtain⟨hh,e,q⟩:=e;split at e
  ·cases A;replace e:=AI e;obtain⟨D,e⟩:=e;replace e:=AI e;obtain⟨F,e⟩:=e;have k:hh<=es.length:=by simpa[B2,AQ]using D
   have O:l<=hh:=by simpa[B2]using F
   simp only[VR]at w;unfold Pi.Ai;rcases w with⟨rfl,rfl⟩|⟨f',b,rfl,C⟩
   ·have:hh=0:=by simp_all
    subst this;have:l=0:=by omega
    subst this;refine .same r e (p:=.nils) ?_ (by simp[VR,DV])
    simp_all[AQ,aI,Kd]
   ·rw[C.length]at k;refine .same r e (p:=.lst (f'&&aa hh b.length) ((b.drop l).take (hh-l))) ?_ (by simp only[VR];exact .inr ⟨_,_,rfl,(C.drop l).take (hh-l)⟩);simp only[AQ,C.length]at q;simp only[E,o,Ar rfl (EPL.up (hh:=X.h) (Q:=X.Q) C),ao,zj,z,q];rw[show ad hh b.length=zt from by simp_all,show ad l hh=zt from by simp_all];rfl
  ·rename_i m;obtain⟨mP,rfl,hm⟩:=A;replace e:=BE e;obtain⟨u,e⟩:=e;simp only[af,aq,bx]at u;obtain⟨S,hb2⟩:=u;have M:U.isSome=zt:=by rw[y.isSome];exact S
   replace e:=C9 hm e;obtain⟨mn,e,h3⟩:=e;replace e:=AI e;obtain⟨D,e⟩:=e;replace e:=AI e;obtain⟨g3,e⟩:=e;replace e:=AI e;obtain⟨F,e⟩:=e;have:hh=mn:=by simpa[neq]using g3
   subst this;have k:hh<=es.length:=by simpa[B2,AQ]using D
   have O:l<=hh:=by simpa[B2]using F
   have N:ad l hh=zt:=by simp_all
   simp only[VR]at w;unfold Pi.Ai;rcases w with⟨rfl,rfl⟩|⟨f',b,rfl,C⟩
   ·have:hh=0:=by simp_all
    subst this;have:l=0:=by omega
    subst this;refine .same r e (p:=.nils) ?_ (by simp[VR,DV])
    simp_all[AQ,aI,Mz]
   ·rw[C.length]at k;refine .same r e (p:=.lst zt ((b.drop l).take (hh-l))) ?_ (by simp only[VR];exact .inr (.inl ⟨_,_,rfl,by simp,(C.drop l).take (hh-l)⟩));simp only[AQ,C.length]at q;simp only[E,o,Ar rfl (EPL.up (hh:=X.h) (Q:=X.Q) C),ao,zj,z,q,h3,M,N];have L:ad hh hh=zt:=by simp
    have I:aa hh hh=zt:=by simp
    rw[show ad hh b.length=zt from by simp_all,L,I];rfl
 ·rename_i et j E;split at e
  ·rename_i g c es ex lk hg;replace e:=AD e;obtain⟨sz,o,e⟩:=e;replace e:=BE e;obtain⟨B,e⟩:=e;have B:sz=c.wd:=by simp_all
   subst B;replace e:=A6 G e;obtain⟨l,e,z⟩:=e;replace e:=A6 y e;obtain⟨hh,e,q⟩:=e;split at e
   ·cases A;replace e:=AI e;obtain⟨D,e⟩:=e;replace e:=AI e;obtain⟨F,e⟩:=e;have k:hh<=es.length:=by simpa[B2,AQ]using D
    have O:l<=hh:=by simpa[B2]using F
    have N:ad l hh=zt:=by simp_all
    simp only[VR]at w;have hB:=r.blk _ _ hg;cases W:X.π j with
    |none=>simp_all
    |some t=>
     rw[W]at w hB;unfold Pi.Ai;rcases hB with⟨pid,len,b,fz',p1,p2,p3,p4,p5,p7,Z⟩|⟨p1,_,p2⟩|⟨qs,p1,_,p2,p3⟩
     ·cases p1;simp only at w;subst w;have hl:es.length=len:=by rw[Z.length,p5]
      simp only[AQ,hl]at q;rw[hl]at k;have b2:ad (0+hh) b.length=zt:=by simp;omega
      replace e:=BO e;rcases e with⟨u,e⟩|⟨u,e⟩
      ·have hb':l<len:=by simpa[I8,AQ,hl]using u
       refine .same r e (p:=.own pid (0+l) (hh-l)) ?_ (by simp_all[VR,QC]);simp only[E,o,p3,Ar rfl Z,ao,zj,z,q,N,b2,aL];rw[show ae (0+l) b.length=zt from by simp;omega];rfl
      ·have hb':¬ l<len:=S9 (by rw[<- hl];exact u);refine .same r e (p:=.lst zf []) ?_ (by simp only[VR];exact .inr (.inl ⟨zf,[],rfl,by simp,.nil⟩));simp only[E,o,p3,Ar rfl Z,ao,zj,z,q,N,b2,aL];rw[S8 (by omega)];rfl
     ·cases p1;subst p2;simp only at w;subst w;have:hh=0:=by simp_all
      subst this;have:l=0:=by omega
      subst this;replace e:=BO e;rcases e with⟨u,e⟩|⟨u,e⟩
      ·simp[I8,AQ]at u
      ·refine .same r e (p:=.nils) ?_ (by simp[VR])
       simp_all[AQ,aI,Kd]
     ·rcases p2 with p2|p2
      ·cases p2
      ·subst p2;cases p1;have:=p3.nil_inv;subst this;simp only at w;subst w;have:hh=0:=by simp_all
       subst this;have:l=0:=by omega
       subst this;replace e:=BO e;rcases e with⟨u,e⟩|⟨u,e⟩
       ·simp[I8,AQ]at u
       ·refine .same r e (p:=.lst zt []) ?_ (by simp_all[VR]);simp only[AQ,aI]at q;simp only[E,o,z,aI,q,show Pi.CT c.wd []=zt from rfl,ao,zj];rfl
   ·cases e
  ·cases e
 ·rename_i et j off len E;split at e
  ·rename_i g c es ex fz lk hg;replace e:=AD e;obtain⟨sz,o,e⟩:=e;replace e:=BE e;obtain⟨B,e⟩:=e;have B:sz=c.wd:=by simp_all
   subst B;replace e:=A6 G e;obtain⟨l,e,z⟩:=e;replace e:=A6 y e;obtain⟨hh,e,q⟩:=e;split at e
   ·cases A;replace e:=AI e;obtain⟨D,e⟩:=e;replace e:=AI e;obtain⟨F,e⟩:=e;have k:off+hh<=es.length:=by simpa[B2,AQ,A0]using D
    have O:l<=hh:=by simpa[B2]using F
    have N:ad l hh=zt:=by simp_all
    simp only[VR]at w;obtain⟨pid,m,W,rfl⟩:=w;obtain⟨b,fz',p3,_,p5,_,Z⟩:=r.rowAt W hg;rw[Z.length]at k;have b2:ad (off+hh) b.length=zt:=by simp_all
    unfold Pi.Ai;replace e:=BO e;rcases e with⟨u,e⟩|⟨u,e⟩
    ·have hb':off+l<b.length:=by simpa[I8,AQ,A0,Z.length]using u
     refine .same r e (p:=.own pid (off+l) (hh-l)) ?_ (by simp only[VR];exact⟨pid,m,W,rfl⟩);simp only[E,o,p3,Ar rfl Z,ao,zj,z,q,N,b2,aL];rw[show ae (off+l) b.length=zt from by simp_all];rfl
    ·have hb':¬ off+l<b.length:=S9 (by rw[<- Z.length];exact u);refine .same r e (p:=.lst zf []) ?_ (by simp only[VR];exact .inr (.inl ⟨zf,[],rfl,by simp,.nil⟩));simp only[E,o,p3,Ar rfl Z,ao,zj,z,q,N,b2,aL];rw[S8 hb'];rfl
   ·rename_i m;obtain⟨mP,rfl,hm⟩:=A;replace e:=BE e;obtain⟨u,e⟩:=e;simp only[af,aq,bx]at u;obtain⟨⟨hb0,S⟩,hb2⟩:=u;have M:U.isSome=zt:=by rw[y.isSome];exact S
    have hl0:l=0:=by
     cases lo with
     |none=>cases G;cases z;rfl
     |some v=>cases hb0
    subst hl0;subst hb2;replace e:=C9 hm e;obtain⟨mn,e,h3⟩:=e;replace e:=AI e;obtain⟨D,e⟩:=e;replace e:=AI e;obtain⟨F,e⟩:=e;replace e:=AI e;obtain⟨g3,e⟩:=e;simp only[VR]at w;obtain⟨pid,m',W,rfl⟩:=w;obtain⟨b,fz',p3,_,p5,_,Z⟩:=r.rowAt W hg;have k:hh<=mn:=by simpa[B2]using D
    have O:off+mn=b.length:=by rw[<- Z.length];simpa[neq,A0,AQ]using F
    have g3':off<b.length:=by rw[<- Z.length];simpa[I8,AQ]using g3
    have b2:ad (off+hh) b.length=zt:=by simp;omega
    have b3:ad hh mn=zt:=by simp_all
    have b4:aa (off+mn) b.length=zt:=by simp_all
    have b5:ae off b.length=zt:=by simp_all
    unfold Pi.Ai;refine .same r e (p:=.own pid off hh) ?_ (by simp_all[VR]);simp only[E,o,p3,Ar rfl Z,ao,zj,z,q,h3,M,b2,b3,b4,aZ,Nat.sub_zero,b5,aL,show ad 0 hh=zt from by simp];rfl
  ·cases e
 ·rename_i len el E;split at e
  ·cases G;cases y;cases A;unfold Th at e;split at e
   ·rename_i sz j off o;split at e
    ·rename_i cs fz hg;replace e:=AN e;obtain⟨hc,e⟩:=e;simp only[VR]at w;obtain⟨pid,m,z,rfl⟩:=w;have hB:=r.blk _ _ hg;rw[z]at hB;obtain⟨pid',m',b,fz',q,h3,h4,h5,h6⟩:=hB;cases q;refine .same r e (p:=.own pid off len) ?_ (by simp only[VR];exact⟨pid,m,z,rfl⟩);rw[h6.length]at hc;unfold Pi.Ai Pi.EE;simp only[E,o,h4,hc,zb]
    ·cases e
   ·cases e
  ·cases e
 ·cases e
theorem IW{hh:Hp}{ty:TypeId}{u:TypeDesc}{v:PV}{b:Bool}(d:P.underlying ty=zo u)(c:∀ m,u=.interface m->False):Pi.BK P hh ty v b=(match v with
  |.ifc u a=>bif aa u ty then zo (.val (Pi.Du b a) hh)else bif b then(match Pi.Bw P ty with
   |some z=>zo (.val (.tup [z,.bool zf]) hh)
   |none=>zn)else zn
  |.nili=>bif b then(match Pi.Bw P ty with
   |some z=>zo (.val (.tup [z,.bool zf]) hh)
   |none=>zn)else zn
  |_=>zn):=by
 grind [Pi.BK]
theorem Qu{t:TypeId}{u:TypeDesc}{A B C:FuncId->Option Pi.R}(d:P.underlying t=zo u)(c:∀ m,u=.pointer m->False){b:Bool}{a:Option (FuncId×Bool)}{g:FuncId}:b=zt->a=zo (g,zf) ->
  (match b,a,P.underlying t with
   |true,zo (g,zt),zo (.pointer _)=>A g
   |true,zo (g,zf),zo (.pointer _)=>C g
   |true,zo (g,zf),zo _=>B g
   |_,_,_=>zn)=B g:=by
 simp_all
theorem MQ(r:RH X h n){ty:TypeId}{a:V}{p:PV}{c:Bool}{K:V->Option β}(b:VR X a p)(e:Jy P ty a c K=zo x):∃ v q,K v=zo x/\Pi.BK P X.h ty p c=zo (.val q X.h)/\VR X v q:=by
 have d : ∀ {K:V->Option β},(bif c then CK (DA P ty) λz=>K (.tup [z,.bool zf]) else zn)=zo x -> ∃ v q,K v=zo x/\(bif c then (match Pi.Bw P ty with
    |some z=>zo (Pi.R.val (.tup [z,.bool zf]) X.h)
    |none=>zn)else zn)=zo (Pi.R.val q X.h)/\VR X v q:=by
  clear e;intro K e;replace e:=AN e;obtain⟨g,e⟩:=e;subst g;replace e:=AD e;obtain⟨z,s,e⟩:=e;obtain⟨B,w,A⟩:=GG (X:=X) s;exact⟨_,.tup [B,.bool zf],e,by simp[w],by simp only[VR];exact⟨_,rfl,.cons A (.cons (by simp[VR]) .nil)⟩⟩
 have t:∀ {v:V} {q:PV},VR X v q->VR X (FA c v) (Pi.Du c q):=by
  intro v q h;cases c
  ·exact h
  ·simp only[FA,Pi.Du,zb,VR];exact⟨_,rfl,.cons h (.cons (by simp[VR]) .nil)⟩
 have C:=@d;unfold Jy at e;split at e
 ·rename_i k j;unfold Pi.BK;simp only[j];split at e
  ·rename_i u a;have l:=b;simp only[VR]at b;obtain⟨q,rfl,b⟩:=b;split at e
   ·rename_i i hi;simp only[hi];split at e
    ·grind
    ·rename_i y o;simp only[o];exact d e
   ·cases e
  ·simp only[VR]at b;subst b;exact d e
  ·cases e
 ·rename_i u j f;clear d;rw[IW f j];split at e
  ·rename_i D a;simp only[VR]at b;obtain⟨q,rfl,b⟩:=b;replace e:=BP e;rcases e with⟨m,e⟩|⟨m,e⟩
   ·grind
   simp_all
  ·simp_all[VR]
  ·cases e
 ·cases e
theorem Ti{α:Type}{c:Bool}{a b:α}(h:c=zt):(bif c then a else b)=a:=by subst h;rfl
theorem EN{f:Fn}{first cap args:List V}{a b argsP:List PV}{K:RA->Option β}(k:VRL X first a)(s:VRL X cap b)(l:VRL X args argsP)(e:FK P f first cap args K=zo x) :
  ∃ g j o,K (.call g j)=zo x/\Pi.CC P f a b argsP=zo (.call g o)/\VRL X j o:=by
 unfold FK at e;unfold Pi.CC;split at e
 ·split at e
  ·rename_i D E;replace e:=AN e;obtain⟨n,e⟩:=e;refine⟨_,_,_,e,?_,(k.append l).append s⟩<;>grind
  ·cases e
 ·split at e
  ·rename_i t v rest h;have c:=k.append l;rw[h]at c;obtain⟨p,F,z,d,r⟩:=c.cons_inv;simp only[VR]at d;obtain⟨q,rfl,d⟩:=d;rw[z];split at e
   ·rename_i i hi;simp only[hi];split at e
    ·rename_i m w;simp only[w];split at e
     ·rename_i g A B C;replace e:=AN e;obtain⟨n,e⟩:=e;refine⟨_,_,_,e,?_,.cons d r⟩<;>grind
     ·cases e
     ·rename_i g u y A B C;replace e:=AN e;obtain⟨n,e⟩:=e;refine⟨_,_,_,e,?_,.cons d r⟩<;>grind
     ·cases e
    ·cases e
   ·cases e
  ·cases e
 ·cases e
end
end
section
variable[Pi.Gl]
open Pi (PV T Hp Blk DF UM PE AM AS AB AW Ap)
section
variable{X:Cx}{h:H}{n id idP:Nat}{β:Type}{x:β}{P:Program}
inductive EvOk (X:Cx) (h:H) (n id idP:Nat) (K:RA->Option β) (x:β):Option Pi.R->Prop where
 |val {v:V} {h':H} {p:PV} {hP':Hp} {Y:Cx} (e:K (.val v h')=zo x) (ok:E7 X h n id idP h' hP' Y) (hv:VR Y v p):EvOk X h n id idP K x (zo (.val p hP'))
 |skip {h':H} {hP':Hp} {Y:Cx} (e:K (.skip h')=zo x) (ok:E7 X h n id idP h' hP' Y):EvOk X h n id idP K x (zo (.skip hP'))
 |call {f:FuncId} {as:List V} {ps:List PV} (e:K (.call f as)=zo x) (ha:VRL X as ps):EvOk X h n id idP K x (zo (.call f ps))
 |yield {l lP m:Nat} {as:List V} {ps:List PV} (e:K (.yield l as)=zo x) (hl:X.π l=zo (.blk lP m)) (ha:VRL X as ps):EvOk X h n id idP K x (zo (.yield lP ps))
 |pan {v:V} {p:PV} (e:K (.pan v)=zo x) (hv:VR X v p):EvOk X h n id idP K x (zo (.pan p))
 |rcv (e:K .rcv=zo x):EvOk X h n id idP K x (zo .rcv)
 |dfr {d:DFA} {dP:DF} (e:K (.dfr d)=zo x) (hd:DFR X d dP):EvOk X h n id idP K x (zo (.dfr dP))
theorem EvOk.ofV(r:RH X h n){K:RA->Option β}{o:Option Pi.R}{v:V}{p:PV}(e:K (.val v h)=zo x)(a:o=zo (.val p X.h))(b:VR X v p):EvOk X h n id idP K x o:=by
 subst a;exact .val e ⟨rfl,r,St.refl _ _ _ _⟩ b
theorem VOk.ev{K:RA->Option β}{o:Option Pi.R}(k:VOk X h n id idP K x o):EvOk X h n id idP K x o:=by
 obtain⟨v,h',p,a,Y,e,rfl,b,c⟩:=k;exact .val e b c
theorem Jz(r:RH X h n)(w:Nw X n id idP){cs:List V}{a:List PV}{K:RA->Option β}(hc:VRL X cs a)(e:K (.val (.ptr id 0) (AG h id (.box cs zf zf)))=zo x) :
  EvOk X h n id idP K x ((X.h.new idP (.box a zf)).map λh=>.val (.ptr idP 0) h):=by
 obtain⟨g,e1⟩:=F9 X.h idP (.box a zf) w.hp
 obtain⟨Y,f,c,d,i⟩:=r.new (m:=0) (b:=.box cs zf zf) w.small w.lt w.pi w.hlt e1 (λY f c d u=>
  ⟨idP,0,a,zf,rfl,(d _).2 (.inr rfl),by rw[c,(Hp.get_new e1).2.1,zy rfl],λ_=>rfl,hc.mono u⟩)
 rw[e1];refine .val e ⟨c,d,i⟩ ?_;simp only[VR];exact⟨idP,0,by rw[f];exact zy rfl,rfl⟩
theorem Pe{t:T V}{tP:T PV}(r:RH X h n)(w:Nw X n id idP)(z:TR X t tP){o:Oper}{K:RA->Option β}(e:Tl P t h id o K=zo x):EvOk X h n id idP K x (Pi.AP P tP X.h idP o):=by
 unfold Tl at e;unfold Pi.AP;split at e
 ·rename_i a l;simp only[l];replace e:=AL z e;obtain⟨v,p,e,y,j⟩:=e;exact .ofV r e (A7 y) j
 ·rename_i a l;simp only[l];replace e:=AL z e;obtain⟨v,p,e,y,j⟩:=e;exact .ofV r e (A7 y) j
 ·rename_i c a b l;simp only[l,Pi.e3];replace e:=AL z e;obtain⟨vc,pc,e,c1,c2⟩:=e;replace e:=AL z e;obtain⟨va,pa,e,a1,a2⟩:=e;replace e:=AL z e;obtain⟨vb,pb,e,b1,b2⟩:=e;simp only[c1,a1,b1];split at e
  ·simp only[VR]at c2;subst c2;replace e:=BO e;rcases e with⟨hc,e⟩|⟨hc,e⟩
   ·subst hc;exact .ofV r e rfl a2
   ·subst hc;exact .ofV r e rfl b2
  ·cases e
 ·rename_i ty l;simp only[l];replace e:=AD e;obtain⟨cs,Z,e⟩:=e;obtain⟨C,J,M⟩:=Bj (X:=X) Z;unfold Pi.Cm;simp only[J];exact Jz r w M e
 ·rename_i ty a l;simp only[l,Pi.e1];replace e:=AL z e;obtain⟨v,p,e,y,j⟩:=e;simp only[y];split at e
  ·cases e
  ·rename_i hne
   have hp:Pi.Fc X.h idP p=(X.h.new idP (.box p.cells zf)).map λh=>.val (.ptr idP 0) h:=by
    cases p with
    |tup C=>
     exfalso;cases v with
     |tup=>simp_all
     |ow i=>
      grind [VR]
     |lf=>
      simp_all[VR]
     |view=>
      simp_all[VR]
     |agg=>obtain⟨_,B,_⟩:=j.agg_inv;cases B
     |exl=>simp_all[VR]
     |pl=>simp_all[VR]
     |pv=>simp_all[VR]
     |own=>simp_all[VR]
     |ptr=>simp_all[VR]
     |ept=>simp_all[VR]
     |aptr=>simp_all[VR]
     |fn=>simp_all[VR]
     |yl=>simp_all[VR]
     |mp=>simp_all[VR]
     |ifc=>simp_all[VR]
     |dd=>simp_all[VR]
     |_=>simp only[VR]at j;cases j
    |_=>rfl
   rw[hp];exact Jz r w j.cells e
 ·rename_i ty F l;simp only[l];replace e:=Ez z e;obtain⟨vs,C,e,y,j⟩:=e;simp only[y];obtain⟨v,q,e1,e2,e3⟩:=ON (X:=X) j e;exact .ofV r e1 e2 e3
 ·rename_i ty len F l;simp only[l];replace e:=Ez z e;obtain⟨vs,C,e,y,j⟩:=e;simp only[y];exact(IH r w.big j e).ev
 ·rename_i ty a l;simp only[l,Pi.e1];replace e:=AL z e;obtain⟨v,p,e,y,j⟩:=e;simp only[y];obtain⟨v,q,e1,e2,e3⟩:=P1 r j e;exact .ofV r e1 e2 e3
 ·rename_i ty a b l;simp only[l,Pi.e2];replace e:=AL z e;obtain⟨v,p,e,y,j⟩:=e;replace e:=AL z e;obtain⟨I,E,e,B,A⟩:=e;simp only[y,B];obtain⟨h',D,Y,e1,e2,e3⟩:=Js r w.big j A id idP e;rw[e2];exact .skip e1 e3
 ·rename_i a l;simp only[l,Pi.e1];replace e:=AL z e;obtain⟨v,p,e,y,j⟩:=e;simp only[y];obtain⟨v,q,e1,e2,e3⟩:=RU (h:=X.h) j e;exact .ofV r e1 e2 e3
 ·rename_i op ty a b ty2 l;simp only[l,Pi.e2];replace e:=AL z e;obtain⟨v,p,e,y,j⟩:=e;replace e:=AL z e;obtain⟨I,E,e,B,A⟩:=e;simp only[y,B];obtain⟨v,q,e1,e2,e3⟩:=Q3 (h:=X.h) j A e;exact .ofV r e1 e2 e3
 ·rename_i op ty a l;simp only[l,Pi.e1];replace e:=AL z e;obtain⟨v,p,e,y,j⟩:=e;simp only[y];obtain⟨v,q,e1,e2,e3⟩:=Sk j e;exact .ofV r e1 (A7 e2) e3
 ·rename_i s d a l;simp only[l,Pi.e1];replace e:=AL z e;obtain⟨v,p,e,y,j⟩:=e;simp only[y];obtain⟨v,q,e1,e2,e3⟩:=LK (h:=X.h) j e;exact .ofV r e1 e2 e3
 ·rename_i ty a l;simp only[l,Pi.e1];replace e:=AL z e;obtain⟨v,p,e,y,j⟩:=e;simp only[y];obtain⟨v,q,e1,e2,e3⟩:=RG (h:=X.h) j e;exact .ofV r e1 e2 e3
 ·rename_i f first cap l
  simp only[l];replace e:=GZ z e;obtain⟨vs,C,e,y,j⟩:=e;replace e:=GZ z e;obtain⟨vs',G,e,B,A⟩:=e;simp only[y,B];split at e
  ·cases e
  ·rename_i f' hne;refine .ofV r e (p:=.fn f C G) ?_ (by grind [VR])
   simp_all[Pi.BF]
 ·rename_i ty l;simp only[l];unfold Lh at e;split at e
  ·split at e
   ·rename_i k g c hk hc;obtain⟨D,e1⟩:=F9 X.h idP (.mp []) w.hp
    obtain⟨Y,y1,y2,y3,y4⟩:=r.new (m:=0) (b:=.mp k g c [] zf) w.small w.lt w.pi w.hlt e1 (λY y1 y2 y3 u=>
     ⟨idP,0,[],rfl,(y3 _).2 (.inr rfl),by rw[y2,(Hp.get_new e1).2.1,zy rfl],.nil⟩)
    rw[e1];refine .val e ⟨y2,y3,y4⟩ ?_;simp only[VR];exact⟨idP,0,by rw[y1];exact zy rfl,rfl⟩
   ·cases e
  ·cases e
 ·rename_i ty a b l;simp only[l,Pi.e2];replace e:=AL z e;obtain⟨v,p,e,y,j⟩:=e;replace e:=AL z e;obtain⟨I,E,e,B,A⟩:=e;simp only[y,B];refine(P8 r w (λhs=> ?_) j A e).ev;unfold OB at hs;split at hs<;>simp_all
 ·rename_i ty a lo hi mx l;simp only[l,Pi.e1];replace e:=J9 z e;obtain⟨vl,pl,e,l1,l2⟩:=e;replace e:=J9 z e;obtain⟨vh,ph,e,i1,i2⟩:=e;replace e:=J9 z e;obtain⟨vm,pm,e,m1,m2⟩:=e;replace e:=AL z e;obtain⟨v,p,e,y,j⟩:=e;simp only[l1,i1,m1,y];obtain⟨v,q,D,Y,e1,e2,e3,e4⟩:=O6 (id:=id) (idP:=idP) r w.big j l2 i2 m2 e;rw[e2];exact .val e1 e3 e4
 ·rename_i s a f l;simp only[l,Pi.e1];replace e:=AL z e;obtain⟨v,p,e,y,j⟩:=e;simp only[y];obtain⟨v,q,e1,e2,e3⟩:=I4 j e;exact .ofV r e1 e2 e3
 ·rename_i ty a f l;simp only[l,Pi.e1];replace e:=AL z e;obtain⟨v,p,e,y,j⟩:=e;simp only[y];obtain⟨v,q,e1,e2,e3⟩:=Od (h:=X.h) j e;exact .ofV r e1 e2 e3
 ·rename_i ty a b l;simp only[l,Pi.e2];replace e:=AL z e;obtain⟨v,p,e,y,j⟩:=e;replace e:=AL z e;obtain⟨I,E,e,B,A⟩:=e;simp only[y,B];obtain⟨v,q,e1,e2,e3⟩:=I6 r j A e;exact .ofV r e1 e2 e3
 ·rename_i ty a b l;simp only[l,Pi.e2];replace e:=AL z e;obtain⟨v,p,e,y,j⟩:=e;replace e:=AL z e;obtain⟨I,E,e,B,A⟩:=e;simp only[y,B];obtain⟨v,q,e1,e2,e3⟩:=Oj (X:=X) j A e;exact .ofV r e1 e2 e3
 ·rename_i ty a b ok l;simp only[l,Pi.e2];replace e:=AL z e;obtain⟨v,p,e,y,j⟩:=e;replace e:=AL z e;obtain⟨I,E,e,B,A⟩:=e;simp only[y,B];obtain⟨v,q,e1,e2,e3⟩:=Mv r j A e;exact .ofV r e1 e2 e3
 ·rename_i ty a k b l;simp only[l,Pi.e3];replace e:=AL z e;obtain⟨v,p,e,y,j⟩:=e;replace e:=AL z e;obtain⟨I,E,e,B,A⟩:=e;replace e:=AL z e;obtain⟨v'',p'',e,S,U⟩:=e;simp only[y,B,S];obtain⟨h',D,Y,e1,e2,e3⟩:=Fj r w.big j A U id idP e;rw[e2];exact .skip e1 e3
 ·rename_i ty a k b l;simp only[l,Pi.e3];replace e:=AL z e;obtain⟨v,p,e,y,j⟩:=e;replace e:=AL z e;obtain⟨I,E,e,B,A⟩:=e;replace e:=AL z e;obtain⟨v'',p'',e,S,U⟩:=e;simp only[y,B,S];obtain⟨h',D,Y,e1,e2,e3⟩:=Fj r w.big j A U id idP e;rw[e2];exact .skip e1 e3
 ·rename_i a ty1 ty ok l;simp only[l,Pi.e1];replace e:=AL z e;obtain⟨v,p,e,y,j⟩:=e;simp only[y];obtain⟨v,q,e1,e2,e3⟩:=MQ r j e;exact .ofV r e1 e2 e3
 ·rename_i a i l;simp only[l,Pi.e1];replace e:=AL z e;obtain⟨v,p,e,y,j⟩:=e;simp only[y];split at e
  ·replace e:=AD e;obtain⟨v,hv,e⟩:=e;simp only[VR]at j;obtain⟨C,rfl,j⟩:=j;obtain⟨q,q1,q2⟩:=j.lget hv;exact .ofV r e (A7 q1) q2
  ·cases e
 ·rename_i a l;simp only[l,Pi.e1];replace e:=AL z e;obtain⟨v,p,e,y,j⟩:=e;simp only[y];split at e
  ·have N:=j;simp only[VR]at j;obtain⟨q,rfl,j⟩:=j;exact .pan e N
  ·cases e
 ·rename_i c l;simp only[l];replace e:=GZ z e;obtain⟨vs,C,e,y,j⟩:=e;simp only[y];split at e
  ·rename_i b W;simp only[W];rcases LD r w j e with k|⟨v,p,e1,e2,e3⟩|⟨e1,e2⟩
   ·exact k.ev
   ·rw[e2];exact .pan e1 e3
   ·rw[e2];exact .rcv e1
  ·rename_i f L;simp only[L,Pi.e1];replace e:=AL z e;obtain⟨v,p,e,B,A⟩:=e;simp only[B];split at e
   ·simp only[VR]at A;obtain⟨a',b',rfl,J,M⟩:=A;obtain⟨g,as,G,e1,e2,e3⟩:=EN J M j e;show EvOk X h n id idP K x (Pi.CC P _ a' b' C);rw[e2];exact .call e1 e3
   ·simp only[VR]at A;obtain⟨pid,m,J,rfl⟩:=A;exact .yield e J j
   ·cases e
  ·rename_i recv name L;simp only[L,Pi.e1];replace e:=AL z e;obtain⟨v,p,e,B,A⟩:=e;simp only[B];obtain⟨g,as,G,e1,e2,e3⟩:=EN (.cons A .nil) .nil j e;rw[e2];exact .call e1 e3
 ·rename_i c l;simp only[l];replace e:=GZ z e;obtain⟨vs,C,e,y,j⟩:=e;simp only[y];split at e
  ·rename_i b W;simp only[W];exact .dfr e ⟨C,rfl,j⟩
  ·rename_i f L;simp only[L,Pi.e1];replace e:=AL z e;obtain⟨v,p,e,B,A⟩:=e;simp only[B];split at e
   ·have O:=A;simp only[VR]at A;obtain⟨a',b',rfl,J,M⟩:=A;exact .dfr e ⟨_,C,rfl,O,j⟩
   ·cases e
  ·cases e
 ·cases e
end
end
section
variable[Pi.Gl]
open Pi (PV T Hp Blk DF UM PE AM AS AB AW Ap)
def Uj(X:Cx)(a:PEA)(b:PE):Prop:=VR X a.v b.v/\a.recovered=b.recovered
def UMR(X:Cx):Option UMA->Option UM->Prop
 |none,u=>u=zn
 |some .ret,u=>u=zo .ret
 |some (.pan ch),u=>∃ c,u=zo (.pan c)/\L2 (Uj X) ch c
def ROR(X:Cx):Option Nat->Option Nat->Prop
 |none,r=>r=zn
 |some l,r=>∃ p m,X.π l=zo (.blk p m)/\r=zo p
structure FR (X:Cx) (fr:FrA) (fp:Pi.Fr):Prop where
 t:TR X fr.t fp.t
 nt:fp.nt=fr.nt
 big:fr.nt<1048575
 ds:L2 (DFR X) fr.ds fp.ds
 up:UMR X fr.up fp.up
 ro:ROR X fr.ro fp.ro
def MJ(X:Cx):ExA->Pi.Ex->Prop
 |.normal,e=>e=.normal
 |.exit i,e=>e=.exit i
 |.goto i,e=>e=.goto i
 |.ret,e=>e=.ret
 |.panic v,e=>∃ p,e=.panic p/\VR X v p
def MO(X:Cx):OutA->Pi.Out->Prop
 |.ret v,o=>∃ p,o=.ret p/\VR X v p
 |.pan ch,o=>∃ c,o=.pan c/\L2 (Uj X) ch c
theorem UMR.mono{X Y:Cx}(u:Up X Y){a:Option UMA}{b:Option UM}(h:UMR X a b):UMR Y a b:=by
 cases a with
 |none=>exact h
 |some a=>cases a with
  |ret=>exact h
  |pan f=>obtain⟨c,d,e⟩:=h;exact⟨c,d,e.mono λ_ _ k=>⟨k.1.mono u,k.2⟩⟩
theorem ROR.mono{X Y:Cx}(u:Up X Y){a b:Option Nat}(h:ROR X a b):ROR Y a b:=by
 cases a with
 |none=>exact h
 |some l=>obtain⟨p,m,c,d⟩:=h;exact⟨p,m,u.pi _ _ c,d⟩
theorem FR.mono{X Y:Cx}(u:Up X Y){fr:FrA}{fp:Pi.Fr}(h:FR X fr fp):FR Y fr fp:=
 ⟨h.t.mono u,h.nt,h.big,h.ds.mono λ_ _ k=>k.mono u,h.up.mono u,h.ro.mono u⟩
def Cx.low(X:Cx)(b:Nat):Cx:={ X with π:=λi=>if i<b then X.π i else zn }
theorem Cx.low_eq{X:Cx}{b i:Nat}(h:i<b):(X.low b).π i=X.π i:=zy h
theorem Cx.low_ge{X:Cx}{b i:Nat}(h:¬ i<b):(X.low b).π i=zn:=zx h
theorem Up.low(X:Cx)(b:Nat):Up (X.low b) X:=by
 refine⟨λi a h=> ?_,λ_ _ _ _ h k=>⟨⟨_,k⟩,h⟩⟩
 grind [Cx.low_eq,Cx.low_ge]
theorem Up.toLow{X:Cx}{h:H}{n b:Nat}(r:RH X h n)(c:n<=b):Up X (X.low b):=by
 refine⟨λi a h=> ?_,λ_ _ _ _ h k=>⟨⟨_,k⟩,h⟩⟩;rw[Cx.low_eq (bV (r.dom _ _ h) c)];exact h
theorem Up.lowLe{X:Cx}{b c:Nat}(d:b<=c):Up (X.low b) (X.low c):=by
 refine⟨λi a h=> ?_,λ_ _ _ _ h k=>⟨⟨_,k⟩,h⟩⟩
 grind [Cx.low_eq,Cx.low_ge]
structure Ext (b bP:Nat) (X:Cx) (h:H) (Y:Cx) (h':H):Prop where
 up:Up (X.low b) Y
 pin:∀ j,j<b->X.π j=zn->Y.π j=zn
 hpn:∀ q,q<bP->X.h.get q=zn->Y.h.get q=zn
 nx:X.h.nx<=Y.h.nx
 lk:∀ j c,h.get j=zo c->c.locked=zt->h'.get j=zo c
 lps:∀ q st pe nt t ps asg body d,X.h.get q=zo (.lp st pe nt t ps asg body d) -> ∃ st' pe',Y.h.get q=zo (.lp st' pe' nt t ps asg body d)
theorem Ext.refl(b bP:Nat)(X:Cx)(h:H):Ext b bP X h X h:=⟨Up.low X b,λ_ _ h=>h,λ_ _ h=>h,ab _,λ_ _ h _=>h,λ_ c a _ _ _ _ _ _ h=>⟨c,a,h⟩⟩
theorem Ext.trans{b bP:Nat}{X Y Z:Cx}{h h' h'':H}(a:Ext b bP X h Y h')(c:Ext b bP Y h' Z h''):Ext b bP X h Z h'' where
 up:=by
  have s:Up (X.low b) (Y.low b):=by
   refine⟨λi x hi=> ?_,a.up.rows⟩;by_cases f:i<b
   ·rw[Cx.low_eq f];exact a.up.pi _ _ hi
   ·rw[Cx.low_ge f]at hi;cases hi
  exact s.trans c.up
 pin:=λj g k=>c.pin j g (a.pin j g k)
 hpn:=λq m k=>c.hpn q m (a.hpn q m k)
 nx:=aw a.nx c.nx
 lk:=λj x k l=>c.lk j x (a.lk j x k l) l
 lps:=λq y u nt t w n e d k=>by
  obtain⟨r,p,o⟩:=a.lps _ _ _ _ _ _ _ _ _ k;exact c.lps _ _ _ _ _ _ _ _ _ o
theorem Ext.le{b c bP d:Nat}(e:b<=c)(g:bP<=d){X Y:Cx}{h h':H}(a:Ext c d X h Y h'):Ext b bP X h Y h':=
 ⟨(Up.lowLe e).trans a.up,λj f k=>a.pin j (by omega) k,λq i k=>a.hpn q (by omega) k,a.nx,a.lk,a.lps⟩
theorem St.ext{b bP id idP:Nat}{X Y:Cx}{h h':H}(s:St X h id idP Y h')(g:b<=id)(l:bP<=idP):Ext b bP X h Y h':=
 ⟨(Up.low X b).trans s.up,λj i k=>s.pin j (by omega) k,λq m k=>s.hpn q (by omega) k,Nat.le_of_eq s.nx.symm,s.lk,λq f e nt t n c a d k=>⟨f,e,s.lps _ _ _ _ _ _ _ _ _ k⟩⟩
theorem Ext.full{b bP n:Nat}{X Y:Cx}{h h':H}(a:Ext b bP X h Y h')(r:RH X h n)(c:n<=b):Up X Y:=(Up.toLow r c).trans a.up
def domX(hh:Hp)(Q b:Nat->Prop):(l:List (Bool×Ty))->AO l->List PV->Prop
 |[],_,ps=>ps=[]
 |[p],x,ps=>∃ a,ps=[a]/\EP p.1 (DX hh Q b p.2) x a
 |p::q::r,x,ps=>∃ a t,ps=a::t/\EP p.1 (DX hh Q b p.2) x.1 a/\domX hh Q b (q::r) x.2 t
def DU:(l:List (Bool×Ty))->AO l->List PV->Prop
 |[],_,ps=>ps=[]
 |[p],x,ps=>∃ a,ps=[a]/\EP p.1 (DP p.2) x a
 |p::q::r,x,ps=>∃ a t,ps=a::t/\EP p.1 (DP p.2) x.1 a/\DU (q::r) x.2 t
section
variable{X:Cx}{h:H}{n id idP:Nat}{β:Type}{x:β}{P:Program}
theorem Bu(r:RH X h n){Q:Nat->Prop}(g:∀ pid,X.Q pid->Q pid):∀ {l:List (Bool×Ty)} {vs:List V} {c:List PV} {K:AO l->Option β},(∀ id pid m,id∈DN vs->X.π id=zo (.blk pid m)->Q pid)->VRL X vs c->Bx h l vs K=zo x -> ∃ y,K y=zo x/\domX X.h Q X.Q l y c
 |[],vs,c,K,hq,hv,e=>by
  unfold Bx at e;split at e
  ·exact⟨(),e,hv.nil_inv⟩
  ·cases e
 |[p],vs,c,K,hq,hv,e=>by
  unfold Bx at e;split at e
  ·rename_i v;obtain⟨a,i,rfl,d,f⟩:=hv.cons_inv;obtain⟨y,e1,k⟩:=GR (Q:=Q) r (λid pid m hi b=>hq id pid m (by simpa[DN]using hi) b) g d e;exact⟨y,e1,a,by rw[f.nil_inv],k⟩
  ·cases e
 |p::q::rr,vs,c,K,hq,hv,e=>by
  unfold Bx at e;split at e
  ·rename_i v o;obtain⟨a,i,rfl,d,f⟩:=hv.cons_inv;obtain⟨y,e1,k⟩:=GR (Q:=Q) r (λid pid m hi b=>hq id pid m (by simp[DN,hi]) b) g d e
   obtain⟨z,e2,j⟩:=Bu r g (l:=q::rr) (λid pid m hi b=>hq id pid m (by
    simp_all[DN,List.flatMap_cons,al]) b) f e1
   exact⟨(y,z),e2,a,i,rfl,k,j⟩
  ·cases e
theorem IQ{p:Bool×Ty}{l:List (Bool×Ty)}(h:Cs (p::l)=zt):p.2.depth<=4/\(p.1=zt\/p.2.leaf=zt)/\Cs l=zt:=by
 simp_all[Cs,aY,ac,Bool.or_eq_true]
theorem ED{hh:Hp}{Q w:Nat->Prop}(f:∀ i,w i->Q i):∀ {l:List (Bool×Ty)} {y:AO l} {e:List PV},Cs l=zt->domX hh Q w l y e -> ∃ x lP,Ap hh e=zo (x,lP)/\DU l y x/\Met hh Q lP
 |[],y,e,k,h=>by rw[show e=[]from h];exact⟨[],[],rfl,rfl,.nil⟩
 |[p],y,e,k,⟨a,m,n⟩=>by
  subst m;have g:=(IQ k).1;obtain⟨q,c,o,s,u⟩:=QR (d:=Pi.AT) f n (by show _<=12;omega);exact⟨[q],c++[],by simp only[Ap,o],⟨q,rfl,s⟩,u.append .nil⟩
 |p::q::r,y,e,k,⟨a,t,m,n,A⟩=>by
  subst m;have g:=IQ k;obtain⟨b,c,o,s,u⟩:=QR (d:=Pi.AT) f n (by show _<=12;omega);obtain⟨z,j,B,C,D⟩:=ED f (l:=q::r) g.2.2 A;exact⟨b::z,c++j,by rw[Ap,o,B],⟨b,z,rfl,s,C⟩,u.append D⟩
def HW(hh:Hp):(l:List (Bool×Ty))->AO l->PV->Prop
 |[p],y,r=>EP p.1 (DX hh (λ_=>True) (λ_=>True) p.2) y r
 |l,y,r=>∃ rs,r=.tup rs/\domX hh (λ_=>True) (λ_=>True) l y rs
def Ri:(l:List (Bool×Ty))->AO l->PV->Prop
 |[p],y,r=>EP p.1 (DP p.2) y r
 |l,y,r=>∃ rs,r=.tup rs/\DU l y rs
theorem DP.flat:∀ {c:Ty} {y:c.den} {g:List PV},c.hasSl=zf->DP c y g->Pi.BS g=zt
 |.int _,_,_,_,e=>by subst e;rfl
 |.bool,_,_,_,e=>by subst e;rfl
 |.str,_,_,_,e=>by subst e;rfl
 |.unit,_,_,_,e=>by subst e;rfl
 |.pair a b,_,_,hs,⟨p,q,e,d,f⟩=>by
  subst e;simp only[Ty.hasSl,af]at hs;have i:=DP.flat hs.1 d;have h:=DP.flat hs.2 f;clear d f
  induction p with
  |nil=>exact h
  |cons a p j=>
   simp_all[Pi.BS,ac,List.cons_append,bZ]
 |.sl _ _,_,_,hs,_=>by cases hs
theorem EP.flat{g:Bool}{c:Ty}{y:c.den}{e:PV}(hs:c.hasSl=zf)(h:EP g (DP c) y e):Pi.flat e=zt:=by
 cases g with
 |true=>obtain⟨cs,rfl,h⟩:=h;exact DP.flat hs h
 |false=>
  have:=DP.flat hs (show DP c y [e]from h);simpa[Pi.BS]using this
theorem G6:∀ {l:List (Bool×Ty)} {y:AO l} {e:List PV},B4 l=zf->DU l y e->Pi.BS e=zt
 |[],_,_,_,h=>by rw[show _=[]from h];rfl
 |[p],_,_,hs,⟨a,b,c⟩=>by
  grind [B4,Pi.BS,EP.flat]
 |p::q::r,_,_,hs,⟨a,t,b,c,f⟩=>by
  subst b;have d:p.2.hasSl=zf/\B4 (q::r)=zf:=by simpa[B4]using hs
  simp only[Pi.BS,EP.flat d.1 c,bZ];exact G6 d.2 f
theorem Jk{l:List (Bool×Ty)}{y:AO l}{r:PV}(hs:B4 l=zf)(h:Ri l y r):Pi.flat r=zt:=by
 match l,y,h with
 |[],y,⟨rs,a,b⟩=>subst a;exact G6 hs b
 |[p],y,h=>exact EP.flat (by simpa[B4]using hs) h
 |p::q::rr,y,⟨rs,a,b⟩=>subst a;exact G6 hs b
theorem Dz:∀ {l:List (Bool×Ty)} {y:AO l} {d:List PV},DU l y d->VRL X (Eb l y) d
 |[],_,_,h=>by rw[show _=[]from h];exact .nil
 |[p],_,_,⟨a,b,c⟩=>by subst b;exact .cons (DJ c) .nil
 |p::q::r,_,_,⟨a,t,b,c,e⟩=>by subst b;exact .cons (DJ c) (Dz e)
theorem Gx{l:List (Bool×Ty)}{y:AO l}{r:PV}(h:Ri l y r):VR X (Qp l y) r:=by
 match l,y,h with
 |[],y,⟨rs,d,e⟩=>
  subst d;show VR X (.tup []) (.tup rs);have f:rs=[]:=e;subst f;simp only[VR];exact⟨[],rfl,.nil⟩
 |[(zt,c)],y,h=>exact DJ (g:=true) h
 |[(zf,.int k)],y,h=>exact DJ (g:=false) (c:=.int k) h
 |[(zf,.bool)],y,h=>exact DJ (g:=false) (c:=.bool) h
 |[(zf,.str)],y,h=>exact DJ (g:=false) (c:=.str) h
 |[(zf,.unit)],y,h=>exact DJ (g:=false) (c:=.unit) h
 |[(zf,.pair a b)],y,h=>exact DJ (g:=false) (c:=.pair a b) h
 |[(zf,.sl g c)],y,h=>
  show VR X (.lf zf g c y) r;obtain⟨p,j,d⟩:=(show DP (.sl g c) y [r]from h)
  grind [VR]
 |p::q::rr,y,⟨rs,d,e⟩=>
  subst d
  have i:Qp (p::q::rr) y=.tup (Eb (p::q::rr) y):=by
   obtain⟨gg,c⟩:=p;cases gg<;>cases c<;>rfl
  rw[i];simp only[VR];exact⟨rs,rfl,Dz e⟩
theorem Il:∀ {f:PV->Option (PV×List Nat)} {d:List PV} {k:Nat} {c:List PV} {l:List Nat},AB f d=zo (c,l) -> ∃ l',AB f (d.take k)=zo (c.take k,l')
 |f,[],k,c,l,e=>by simp_all[AB]
 |f,p::d,0,c,l,e=>⟨[],by rfl⟩
 |f,p::d,k+1,c,l,e=>by
  simp only[AB]at e;split at e
  ·rename_i q a g b e1 e2;cases e;obtain⟨l',h⟩:=Il (k:=k) e2
   simp_all[AB]
  ·cases e
theorem Gw{hh:Hp}:∀ {a:List PV},Ap hh a=AB (AW hh Pi.AT) a
 |[]=>rfl
 |p::a=>by
  rw[Ap,AB,Gw]
theorem RH.flag(r:RH X h n)(f:n<=1048575){a:List Nat}{h':H}(d:Kn X a)(e:CA h a=zo h'):∃ Y:Cx,Y.π=X.π/\Y.O=X.O/\Y.h=X.h/\RH Y h' n /\ ∀ id idP,St X h id idP Y h':=by
 obtain⟨Y,i,j,k,g,_⟩:=r.frozen (lP:=[]) f d e rfl (λq=>by simp) (λq b=>by cases b) 0 0
 have:Y=X:=by
  cases Y;simp_all
 subst this;refine⟨Y,rfl,rfl,rfl,g,λid idP=> ?_⟩;obtain⟨c,l,m,o,p,s⟩:=r.frozen (lP:=[]) f d e rfl (λq=>by simp) (λq b=>by cases b) id idP
 have:c=Y:=by
  cases c;simp_all
 simp_all
theorem RH.borrow(r:RH X h n){bP:Blk}{g:Hp}(z:idP<X.h.nx)(e:X.h.new idP bP=zo g)(A:∀ s o nt t p f c d,bP ≠ .lp s o nt t p f c d):∃ Y:Cx,Y.π=X.π/\Y.O=X.O/\Y.h=g/\RH Y h n /\ ∀ id,St X h id idP Y h:=by
 obtain⟨w,l,x⟩:=Hp.get_new e
 let Y:Cx:={ π:=X.π,h:=g,O:=X.O }
 have y:∀ q,X.O q->q≠idP:=λq a hh=>by subst hh;exact r.ob _ a w
 have u:Up X Y:=⟨λ_ _ h=>h,λq es ex fz a B=>⟨⟨fz,by
  grind⟩,a⟩⟩
 refine⟨Y,rfl,rfl,rfl,⟨λi b hi=>(r.blk _ _ hi).keep u λq m a j=>⟨?_,j⟩,r.inj,r.dom,λq a=> ?_,λq a=> ?_⟩,λid=>⟨u,x,λ_ _ h=>h,λq a C=> ?_,λ_ _ h _=>h,λq s o nt t p f c d a=> ?_⟩⟩
 ·grind
 ·show g.get q=zn;have k:X.h.nx<=q:=by grind
  rw[l,zx (by omega)];exact r.fresh _ k
 ·show g.get q≠zn;rw[l,zx (y _ a)];exact r.ob _ a
 all_goals grind
theorem N5{k:Hp}{l:List (Bool×Ty)}{y:AO l}{w:PV}(m:Cs l=zt)(z:HW k l y w):∃ q c,AW k Pi.AT w=zo (q,c)/\Ri l y q:=by
 have o:∀ {rs:List PV},domX k (λ_=>True) (λ_=>True) l y rs -> ∃ e c,AW k Pi.AT (.tup rs)=zo (.tup e,c)/\DU l y e:=by
  intro rs A
  have:∀ {l:List (Bool×Ty)} {y:AO l} {rs:List PV},Cs l=zt->domX k (λ_=>True) (λ_=>True) l y rs -> ∃ e c,AB (AW k 11) rs=zo (e,c)/\DU l y e:=by
   intro l
   induction l with
   |nil=>intro y rs _ h;rw[show rs=[]from h];exact⟨[],[],rfl,rfl⟩
   |cons p l B=>
    intro y rs m h;cases l with
    |nil=>
     obtain⟨a,rfl,i⟩:=h
     have j:p.2.depth<=4:=by
      simp_all[Cs,aY,cf,bJ,ac]
     obtain⟨q,c,f,g,u⟩:=QR (d:=11) (λ_ h=>h) i (by omega);exact⟨[q],c++[],by simp only[AB,f],q,rfl,g⟩
    |cons q r=>
     obtain⟨a,t,rfl,i,x⟩:=h
     have j:p.2.depth<=4/\Cs (q::r)=zt:=by
      simp only[Cs,aY,ac]at m ⊢;exact⟨ap m.1.1,m.2⟩
     obtain⟨b,c,f,g,u⟩:=QR (d:=11) (λ_ h=>h) i (by omega);obtain⟨e,n,C,D⟩:=B j.2 x;exact⟨b::e,c++n,by rw[AB,f,C],b,e,rfl,g,D⟩
  obtain⟨e,c,f,g⟩:=this m A;exact⟨e,c,by rw[show Pi.AT=11+1 from rfl,Kv,f];rfl,g⟩
 match l,y,z with
 |[],y,⟨rs,s,i⟩=>subst s;obtain⟨e,c,f,g⟩:=o i;exact⟨_,c,f,e,rfl,g⟩
 |[p],y,h=>
  have j:p.2.depth<=4:=by
   simp_all[Cs,aY,cf,bJ,ac]
  obtain⟨q,c,f,g,u⟩:=QR (d:=Pi.AT) (λ_ h=>h) h (by show _<=12;omega);exact⟨q,c,f,g⟩
 |p::q::rr,y,⟨rs,s,i⟩=>subst s;obtain⟨e,c,f,g⟩:=o i;exact⟨_,c,f,e,rfl,g⟩
theorem EU{f:PV->Option (PV×List Nat)}:∀ {a:List PV} {b:List PV} {l:List Nat},AB f a=zo (b,l)->b.length=a.length
 |[],b,l,h=>by cases h;rfl
 |p::a,b,l,h=>by
  simp only[AB]at h;split at h
  ·rename_i e2;cases h;simp[EU e2]
  ·cases h
theorem CM{hh:Hp}:∀ {d:Nat} {v q:PV} {l:List Nat},AW hh d v=zo (q,l)->q.cells.length=v.cells.length
 |0,v,q,l,e=>by cases e
 |d+1,v,q,l,e=>by
  cases v with
  |agg cs=>
   rw[EY]at e;obtain⟨⟨x,m⟩,g,c⟩:=Pi.AA e;cases c;exact EU g
  |tup cs=>
   rw[Kv]at e;obtain⟨⟨x,m⟩,g,c⟩:=Pi.AA e;cases c;rfl
  |ifc t v=>
   rw[Ks]at e;obtain⟨⟨x,m⟩,g,c⟩:=Pi.AA e;cases c;rfl
  |fn f a b=>
   rw[M9]at e;split at e
   ·cases e;rfl
   ·cases e
  |own id off len=>
   simp only[AW]at e;split at e
   ·replace e:=AN e;obtain⟨_,e⟩:=e;obtain⟨⟨x,m⟩,g,c⟩:=Pi.AA e;cases c;rfl
   ·cases e
  |ptr id off=>
   simp only[AW]at e;split at e
   ·replace e:=AN e;obtain⟨_,e⟩:=e;obtain⟨⟨x,m⟩,g,c⟩:=Pi.AA e;cases c;rfl
   ·cases e
  |ept id i off=>
   simp only[AW]at e;split at e
   ·split at e
    ·replace e:=AN e;obtain⟨_,e⟩:=e;obtain⟨⟨x,m⟩,g,c⟩:=Pi.AA e;cases c;rfl
    ·cases e
   ·cases e
  |yl|mp=>cases e
  |_=>cases e;rfl
theorem CJ(r:RH X h n)(hn:n<=1048575)(hp:X.h.get idP=zn)(W:idP<X.h.nx){l:List (Bool×Ty)}{y:AO l}{P:Hp}{rP:PV}{x lP:List Nat}{h':H}(hd:Cs l=zt)(hr:HW P l y rP)
  (hm:MetA X x lP) (hk:Kn X x) (C:(bif B4 l then CA h x else zo h)=zo h') (id:Nat) :
  ∃ q f Y,Pi.Ag idP lP X.h P rP=zo (q,f)/\E7 X h n id idP h' f Y/\VR Y (Qp l y) q/\((Ls l=zf \/ ∀ j o len,rP ≠ .own j o len)->f.get idP=zn):=by
 have same:∃ Y,E7 X h n id idP h' X.h Y:=by
  cases hc:B4 l with
  |true=>
   rw[hc]at C;obtain⟨Y,y1,L,K,y4,y5⟩:=r.flag hn hk C;exact⟨Y,K,y4,y5 _ _⟩
  |false=>
   rw[hc]at C;cases C;exact⟨X,rfl,r,St.refl _ _ _ _⟩
 have u:B4 l=zt -> ∃ f Y,Pi.freeze X.h lP=zo f/\E7 X h n id idP h' f Y:=λhc=>by
  rw[hc]at C;obtain⟨f,Y,F,y1,L,K⟩:=r.mark hn hm hk C id idP
  grind
 obtain⟨q,pids,J,z⟩:=N5 hd hr;unfold Pi.Ag;split
 ·rename_i len D ex hS;split at hS
  ·rename_i j A;split at hS
   ·rename_i es ex' hj;split at hS
    ·rename_i qs' l2 hq;replace hS:=BE hS;obtain⟨_,hS⟩:=hS;cases hS
     have E:∃ g c,l=[(zf,.sl g c)]:=by
      match l,y,hr with
      |[],y,⟨rs,w,h2⟩=>cases w
      |p::q::rr,y,⟨rs,w,h2⟩=>cases w
      |[(zt,c)],y,⟨cs,w,h2⟩=>cases w
      |[(zf,.sl g c)],y,_=>simp_all
      |[(zf,.int _)],y,h=>cases(show[PV.own j 0 len]=_ from h)
      |[(zf,.bool)],y,h=>cases(show[PV.own j 0 len]=_ from h)
      |[(zf,.str)],y,h=>cases(show[PV.own j 0 len]=_ from h)
      |[(zf,.unit)],y,h=>cases(show[PV.own j 0 len]=_ from h)
      |[(zf,.pair a b)],y,h=>simp[Cs,Ty.leaf]at hd
     obtain⟨g,c,rfl⟩:=E;have hc:B4 [(zf,Ty.sl g c)]=zt:=rfl;have hr':DX P (λ_=>True) (λ_=>True) (.sl g c) y [.own j 0 len]:=hr;obtain⟨p0,D1,hrr⟩:=hr';have I:PV.own j 0 len=p0:=by simp_all
     subst I;rcases hrr with⟨w,_⟩|⟨_,_,w,_⟩|⟨pid,off,len2,es2,ex2,fz2,w,_,h3,h4,h8,h5⟩
     ·cases w
     ·cases w
     ·cases w;rw[hj]at h3;cases h3
      have G:c.depth+1<=4:=by
       have:ad (Ty.sl g c).depth 4=zt:=by simp_all[Cs,aY,cf,bJ,ac]
       exact ap this
      obtain⟨qs2,ids2,k1,k2,k3⟩:=Ji (λy e hE=>Lx (d:=Pi.AT) (λU d' G=>E1 U d' G) (by show _<=12;omega) hE) h5;rw[Gw]at hq;obtain⟨l',k4⟩:=Il (k:=len) hq;rw[bH]at k1;rw[k1]at k4;cases k4;have hlen:D.length=es.length:=EU hq
      have hok:Pi.CT c.wd D=zt:=by
       cases es with
       |nil=>simp_all
       |cons e0 t=>
        grind [AB,Pi.CT,CM]
      have N:∀ {s:Hp} {Y:Cx},E7 X h n id idP h' s Y->(s.get idP=zn) -> ∃ q f Y,((s.new idP (.row D ex zf)).map λh=>(PV.own idP 0 len,h))=zo (q,f)/\E7 X h n id idP h' f Y/\VR Y (Qp [(zf,.sl g c)] y) q/\((Ls [(zf,.sl g c)]=zf \/ ∀ j' o A,PV.own j 0 len ≠ .own j' o A)->f.get idP=zn):=by
       intro s Y ⟨y1,L,K⟩ hnone;obtain⟨f,e1⟩:=F9 s idP (.row D ex zf) hnone;subst y1;obtain⟨Z,z1,z2,z3,z4,z5⟩:=L.borrow (by rw[K.nx];exact W) e1 (by intros;simp)
       refine⟨_,f,Z,by rw[e1];rfl,⟨z3,z4,K.trans (z5 id)⟩,?_,λhh=>by
        rcases hh with hh|hh
        ·cases hh
        simp_all⟩
       show VR Z (.lf zf g c y) (.own idP 0 len);simp only[VR];refine .inr (.inr ⟨idP,0,len,D,ex,zf,rfl,by simp,λhO=> ?_,by rw[z3,(Hp.get_new e1).2.1,zy rfl],by omega,hok,by rw[bH];exact EPL.up k2⟩);rw[z2]at hO;exact L.ob _ hO hnone
      cases S:Pi.BS D with
      |true=>
       grind
      |false=>
       obtain⟨s,Y,F,B⟩:=u hc;simp only[zj,F];refine N B ?_;rw[<- B.1];obtain⟨O,M,f3,f4⟩:=Bi (Q:=λi=>X.Q i \/ ∃ id∈x,∃ m,X.π id=zo (.blk i m)) hm;rw[F]at M;cases M;rw[B.1,f4,hp]
       grind
    ·cases hS
   ·cases hS
  ·cases hS
 ·
  simp only[J];cases S:Pi.flat q with
  |true=>
   obtain⟨Y,B⟩:=same;exact⟨q,X.h,Y,rfl,B,Gx z,λ_=>hp⟩
  |false=>
   have hc:B4 l=zt:=by
    grind [Jk]
   obtain⟨s,Y,F,B⟩:=u hc;refine⟨q,s,Y,by simp[F],B,Gx z,λ_=> ?_⟩;obtain⟨O,M,f3,f4⟩:=Bi (Q:=λi=>X.Q i \/ ∃ id∈x,∃ m,X.π id=zo (.blk i m)) hm
   simp_all
def PH(a:Hp)(g:Bool)(c:Ty)(y:List c.den)(r:PV):Prop:=
 (y=[]/\(r=.nils\/r=.lst zt [])) \/ ∃ j es,r=.own j 0 es.length/\a.get j=zo (.row es zf zf)/\0<es.length/\L2 (EP g (DR a (λq=>q≠j) c)) y es
theorem St.nw{X Y:Cx}{h h':H}{n id idP:Nat}(s:St X h id (idP+1) Y h')(w:Nw X n id idP)(a:Y.π id=zn)(b:Y.h.get idP=zn):Nw Y n id idP:=⟨a,w.lt,w.big,b,by rw[s.nx];exact w.hlt⟩
theorem KM(r:RH X h n)(w:Nw X n id idP){g:Bool}{c:Ty}{y:List c.den}{J:Hp}{rP:PV}{o lP:List Nat}{h':H}(hd:c.depth<=3)(O:PH J g c y rP)
  (hm:MetA X o lP) (W:Kn X o) (z:(bif c.hasSl then CA h o else zo h)=zo h') :
  ∃ q b Y,Pi.Ag idP lP X.h J rP=zo (q,b)/\E7 X h n id idP (AG h' id (.row g c y zf zf zf)) b Y/\VR Y (.ow id) q/\(b.get idP=zn\/Pi.AE q=[idP]):=by
 have same:∃ Y,E7 X h n id idP h' X.h Y/\Y.π=X.π:=by
  cases hc:c.hasSl with
  |true=>
   rw[hc]at z;obtain⟨Y,k,A,p,y4,y5⟩:=r.flag w.big W z;exact⟨Y,⟨p,y4,y5 _ _⟩,k⟩
  |false=>
   rw[hc]at z;cases z;exact⟨X,⟨rfl,r,St.refl _ _ _ _⟩,rfl⟩
 rcases O with⟨rfl,O⟩|⟨j,es,rfl,hj,hpos,hl⟩
 ·obtain⟨Y,⟨k,A,p⟩,x⟩:=same;have I:Nw Y n id idP:=⟨by rw[x];exact w.pi,w.lt,w.big,by rw[k];exact w.hp,by rw[k];exact w.hlt⟩;rcases O with rfl|rfl
  ·obtain⟨Z,⟨E,F,G⟩,B⟩:=Kf A I (g:=g) (c:=c) (fz:=false);exact⟨.nils,X.h,Z,rfl,⟨by rw[E,k],F,p.trans G⟩,B,.inl w.hp⟩
  ·obtain⟨Z,⟨E,F,G⟩,B⟩:=KJ A I (g:=g) (c:=c) (fz:=false);exact⟨.lst zt [],X.h,Z,rfl,⟨by rw[E,k],F,p.trans G⟩,B,.inl w.hp⟩
 ·obtain⟨u,D,P,k2,k3⟩:=Ji (λy e hE=>Lx (d:=Pi.AT) (λN d' L=>E1 N d' L) (by show _<=12;omega) hE) hl
  have s:D.any (aa j)=zf:=by
   rw[List.any_eq_false];intro i hi K;have:=ai K;subst this;exact(k3 _ hi).1 rfl
  have t:u.length=es.length:=EU P
  have M:c.hasSl=zf->Pi.BS u=zt:=λhc=>by
   clear t P k3 s hl
   induction k2 with
   |nil=>rfl
   |cons a _ ih=>simp only[Pi.BS,EP.flat hc a,bZ];exact ih
  have K:Pi.Ag idP lP X.h J (.own j 0 es.length)=(match (bif Pi.BS u then zo X.h else Pi.freeze X.h lP)with
   |some h=>(h.new idP (.row u zf zf)).map λh=>(.own idP 0 es.length,h)
   |none=>zn):=by
   unfold Pi.Ag;simp only[hj,Gw,P,s,zj];rfl
  have C:∀ {f:Hp} {Y:Cx},E7 X h n id idP h' f Y->Y.π id=zn->f.get idP=zn -> ∃ q b Y,((f.new idP (.row u zf zf)).map λh=>(PV.own idP 0 es.length,h))=zo (q,b)/\E7 X h n id idP (AG h' id (.row g c y zf zf zf)) b Y/\VR Y (.ow id) q/\(b.get idP=zn\/Pi.AE q=[idP]):=by
   intro f Y ⟨k,A,p⟩ hpi hnone;have I:Nw Y n id idP:=⟨hpi,w.lt,w.big,by simp_all,by rw[p.nx];exact w.hlt⟩;obtain⟨b,Z,e1,⟨E,F,G⟩,B,_⟩:=BY A I (g:=g) (c:=c) (l:=y) (es:=u) (ex:=false) (EPL.up k2) (λ_=>by omega);rw[k]at e1;rw[t]at B;exact⟨_,b,Z,by rw[e1];rfl,⟨E,F,p.trans G⟩,B,.inr rfl⟩
  rw[K];cases hfl:Pi.BS u with
  |true=>
   obtain⟨Y,hY,x⟩:=same;simp only[zb];exact C hY (by rw[x];exact w.pi) w.hp
  |false=>
   have hc:c.hasSl=zt:=by
    simp_all
   rw[hc]at z;obtain⟨f,Y,S,k,A,p⟩:=r.mark w.big hm W z id idP
   have hz:f.get idP=zn:=by
    obtain⟨hP3,U,f3,f4⟩:=Bi (Q:=λi=>X.Q i \/ ∃ id∈o,∃ m,X.π id=zo (.blk i m)) hm;rw[S]at U;cases U;rw[f4,w.hp]
    grind
   simp only[zj,S];refine C p ?_ hz;rw[k];exact w.pi
end
end
section
variable[Pi.Gl]
open Pi (PV T Hp Blk DF UM PE AM AS AB AW Ap)
def Ae(a:Dr)(f:FuncId):Bool:=(a f).isNone
def PD(P:Program)(a:Dr)(b:Pi.Tg)(up:Option UM)(args:List PV)(h:Hp)(r:Pi.Out×Option UM×Hp):Prop:=
 ∃ N,∀ F n,N<=F->N<=n->Pi.B5 P (Ae a) F n b up args h=zo r
def FnOK(P:Program)(a:Dr)(f:FuncId)(sg:Sg):Prop:=∀ x y,sg.fn x=zo y -> ∀ b,DU sg.dom x b -> ∃ r up c,PD P a (.fn f) zn b D1 (.ret r,up,c)/\HW c sg.cod y r
def RowOK(P:Program)(a:Dr)(f:FuncId)(dom:List (Bool×Ty))(g:Bool)(c:Ty)(e:AO dom->Option (List c.den)):Prop:=∀ x y,e x=zo y -> ∀ b,DU dom x b -> ∃ r up d,PD P a (.fn f) zn b D1 (.ret r,up,d)/\PH d g c y r
def MP:PV->PV
 |.agg cs=>.view cs
 |v=>v
def G1:List (Bool×Ty)->List PV->List PV
 |p::l,v::vs=>(bif Sy p then MP v else v)::G1 l vs
 |_,vs=>vs
def FnP(P:Program)(a:Dr)(f:FuncId)(sg:Sg):Prop:=∀ x y,sg.fn x=zo y -> ∀ b,DU sg.dom x b -> ∃ r up c,PD P a (.fn f) zn (G1 sg.dom b) D1 (.ret r,up,c)/\HW c sg.cod y r
def FnL(P:Program)(a:Dr)(f:FuncId)(sg:Sg):Prop:=∀ x y,sg.fn x=zo y -> ∀ b,DU sg.dom x b -> ∃ r up c,PD P a (.fn f) zn b D1 (.ret r,up,c)/\HW c sg.cod y r /\ ∀ j o len,r ≠ .own j o len
structure TabOK (P:Program) (tab:Dr):Prop where
 std:∀ f sg,ae f Cy=zt->tab f=zo (zo sg)->FnOK P tab (R2 f) sg
 row:∀ f dom g c fn,ae f Cw=zt->tab (f+Cy)=zo (zo ⟨dom,[(zf,.sl g c)],fn⟩)->RowOK P tab f dom g c fn
 ptr:∀ f sg,ae f Cw=zt->tab (f+Is)=zo (zo sg)->FnP P tab f sg
 dat:∀ f sg,ae f Cw=zt->tab (f+M4)=zo (zo sg)->FnL P tab f sg
theorem Dj{a b:Nat}(h:ae a b=zt):a<b:=ap h
theorem P6{a b:Nat}(h:a<b):ae a b=zt:=Nat.ble_eq_true_of_le h
theorem SH{a b:Nat}(h:b<=a):ae a b=zf:=by
 cases c:ae a b with
 |false=>rfl
 |true=>exact absurd (Dj c) (Nat.not_lt.2 h)
theorem Nu:Cy=Cw+Cw:=rfl
theorem Sn{f:Nat}(h:ae f Cw=zt):R2 f=f:=by unfold R2;rw[h];rfl
theorem RX(o f:Nat):(bif ae (f+o) o then f+o else f+o-o)=f:=by
 simp_all[SH,Nat.le_add_left]
theorem Sl(f:Nat):R2 (f+Cw)=f:=RX Cw f
theorem TabOK.get{P:Program}{a:Dr}(T:TabOK P a){f:FuncId}{sg:Sg}(b:ae f Cw=zt)(h:a f=zo (zo sg)):FnOK P a f sg:=by
 have:=T.std f sg (P6 (bV (Dj b) (by rw[Nu];omega))) h
 rwa [Sn b]at this
theorem TabOK.getD{P:Program}{a:Dr}(T:TabOK P a){f:FuncId}{sg:Sg}(h:getD a f=zo sg):FnOK P a f sg:=by
 unfold Sv.getD at h;replace h:=AN h;obtain⟨c,h⟩:=h;split at h
 ·rename_i r b;subst h;exact T.get c b
 ·split at h
  ·rename_i r b;subst h;have:=T.std _ sg (P6 (by simp_all[Nu])) b
   rwa [Sl]at this
  ·cases h
theorem TabOK.getR{P:Program}{a:Dr}(T:TabOK P a){f:FuncId}{dom:List (Bool×Ty)}{g:Bool}{c:Ty}{b:AO dom->Option (List c.den)}(h:getR a f=zo ⟨dom,[(zf,.sl g c)],b⟩):RowOK P a f dom g c b:=by
 unfold Sv.getR at h;replace h:=AN h;obtain⟨d,h⟩:=h;split at h
 ·rename_i r e;subst h;exact T.row _ _ _ _ _ d e
 ·cases h
theorem TabOK.getL{P:Program}{a:Dr}(T:TabOK P a){f:FuncId}{sg:Sg}(h:getL a f=zo sg):FnL P a f sg:=by
 unfold Sv.getL at h;replace h:=AN h;obtain⟨b,h⟩:=h;split at h
 ·rename_i r c;subst h;exact T.dat _ _ b c
 ·cases h
theorem TabOK.getP{P:Program}{a:Dr}(T:TabOK P a){f:FuncId}{sg:Sg}(h:getP a f=zo sg):FnP P a f sg:=by
 unfold Sv.getP at h;replace h:=AN h;obtain⟨b,h⟩:=h;split at h
 ·rename_i r c;subst h;exact T.ptr _ _ b c
 ·cases h
structure Run (b bP:Nat) (X:Cx) (h:H) (nx:Nat) (Y:Cx) (h':H) (nx':Nat) (hP':Hp):Prop where
 hp:Y.h=hP'
 rh:RH Y h' nx'
 big:nx'<=1048575
 le:nx<=nx'
 ext:Ext b bP X h Y h'
structure RecAOK (P:Program) (tab:Dr) (rec:IC):Prop where
 fn:∀ {β:Type} {x:β} {f up args h nx K},rec β (.fn f) up args h nx K=zo x -> ∀ {X upP ps},RH X h nx->nx<=1048575->VRL X args ps->UMR X up upP ->
  ∃ o up' h' nx' Y oP upP' hP',K o up' h' nx'=zo x/\PD P tab (.fn f) upP ps X.h (oP,upP',hP')/\Run nx X.h.nx X h nx Y h' nx' hP'/\MO Y o oP/\UMR Y up' upP'
 yl:∀ {β:Type} {x:β} {l args h nx K},rec β (.yl l) zn args h nx K=zo x -> ∀ {X lP m ps},RH X h nx->nx<=1048575->X.π l=zo (.blk lP m)->VRL X args ps ->
  ∃ o up' h' nx' Y oP upP' hP',K o up' h' nx'=zo x/\PD P tab (.yl lP) zn ps X.h (oP,upP',hP')/\Run nx X.h.nx X h nx Y h' nx' hP'/\MO Y o oP/\UMR Y up' upP'
section
variable{P:Program}{tab:Dr}{rec:IC}{β:Type}{x:β}
theorem Ie{X:Cx}{args:List V}{c:List PV}(l:VRL X args c):Kn X (DN args):=by
 intro i hi
 have:∀ {vs:List V} {c:List PV},VRL X vs c -> ∀ i∈Fa vs,∃ a,X.π i=zo a:=by
  intro vs
  induction vs with
  |nil=>intro c _ i hi;cases hi
  |cons v vs h=>
   intro c e i hi;obtain⟨p,n,rfl,k,g⟩:=e.cons_inv;cases v with
   |ow j=>
    rcases aj.1 hi with rfl|hi
    ·grind [VR]
    grind
   |own j a b=>
    rcases aj.1 hi with rfl|hi
    ·grind [VR]
    grind
   |_=>exact h g i hi
 unfold DN at hi;obtain⟨v,e,hi⟩:=List.mem_flatMap.1 hi
 have d:∀ {vs:List V} {c:List PV},VRL X vs c->v∈vs -> ∃ p,VR X v p:=by
  intro vs
  induction vs with
  |nil=>simp_all
  |cons u vs h=>
   intro c f e;obtain⟨p,n,rfl,k,g⟩:=f.cons_inv
   grind
 obtain⟨p,m⟩:=d l e;exact this m.cells i hi
theorem C7:∀ {L:List Nat} {h a:Hp},Pi.freeze h L=zo a -> ∀ x,(h.get x=zn->a.get x=zn)/\(h.get x≠zn->a.get x≠zn)
 |[],h,a,e,x=>by simp_all[Pi.freeze]
 |j::L,h,a,e,x=>by
  unfold Pi.freeze at e
  have step:∀ {b b0:Blk},h.get j=zo b0->(match h.set j b with
    |some h=>Pi.freeze h L
    |none=>zn)=zo a->(h.get x=zn->a.get x=zn)/\(h.get x≠zn->a.get x≠zn):=by
   intro b b0 f e;obtain⟨d,c⟩:=BG h j b;rw[c]at e;obtain⟨i,k⟩:=C7 e x;have g:=(Hp.get_set c).1 x
   grind
  grind
theorem KO{id:Nat}{l:List Nat}{h d a:Hp}{j q:PV}(g:h.get id=zn)(e:Pi.Ag id l h d j=zo (q,a)):a.get id=zn\/Pi.AE q=[id]:=by
 unfold Pi.Ag at e;split at e
 ·split at e
  ·obtain⟨_,_,b⟩:=Pi.AA e;cases b;exact .inr rfl
  ·cases e
 ·split at e
  ·rename_i i _ _;cases f:Pi.flat i with
   |true=>simp_all
   |false=>
    rw[f]at e;simp only[zj]at e;obtain⟨k,c,b⟩:=Pi.AA e;cases b;exact .inl ((C7 c id).1 g)
  ·cases e
theorem He{X:Cx}{h:H}{n id idP:Nat}(r:RH X h n)(w:Nw X n id idP){f:FuncId}{sg:Sg}(T:FnOK P tab f sg){args:List V}{B:List PV}{K:V->H->Option β}(u:VRL X args B)(e:Db h sg args K=zo x) :
  ∃ v h' q a Y c lP i up g,K v h'=zo x/\Ap X.h B=zo (c,lP)/\PD P tab (.fn f) zn c D1 (.ret i,up,g)/\Pi.Ag idP lP X.h g i=zo (q,a)/\(∀ y∈lP,X.h.get y≠zn)/\E7 X h n id idP h' a Y/\VR Y v q/\((Ls sg.cod=zf->a.get idP=zn)/\(a.get idP=zn\/Pi.AE q=[idP])):=by
 unfold Db at e;replace e:=BE e;obtain⟨A,e⟩:=e;simp only[af,aq]at A;obtain⟨j,k⟩:=A
 let Q:Nat->Prop:=λpid=>X.Q pid \/ ∃ id∈DN args,∃ m,X.π id=zo (.blk pid m)
 have M:=e;replace e:=Bu (Q:=Q) r (λ_ h=>.inl h) (λid pid m hi I=>.inr ⟨id,hi,m,I⟩) u e;obtain⟨y,e,o⟩:=e;replace e:=AD e;obtain⟨h',p,e⟩:=e;replace e:=DZ e;obtain⟨z,L,e⟩:=e;obtain⟨c,lP,s,l,b⟩:=ED (λ_ h=>.inl h) j o;obtain⟨i,up,g,⟨N,F⟩,d⟩:=T y z L c l;have G:Kn X (DN args):=Ie u;obtain⟨q,a,Y,t,C,D,E⟩:=CJ r w.big w.hp w.hlt k d b G p id;exact⟨_,h',q,a,Y,c,lP,i,up,g,e,s,⟨N,F⟩,t,λy J=>(by obtain⟨_,es,ex,fz,O⟩:=b y J;grind),C,D,λh=>E (.inl h),KO w.hp t⟩
theorem LH{X:Cx}{h:H}{n id idP:Nat}(r:RH X h n)(w:Nw X n id idP){f:FuncId}{sg:Sg}(T:FnL P tab f sg){args:List V}{B:List PV}{K:V->H->Option β}(u:VRL X args B)(e:Db h sg args K=zo x) :
  ∃ v h' q a Y c lP i up g,K v h'=zo x/\Ap X.h B=zo (c,lP)/\PD P tab (.fn f) zn c D1 (.ret i,up,g)/\Pi.Ag idP lP X.h g i=zo (q,a)/\(∀ y∈lP,X.h.get y≠zn)/\E7 X h n id idP h' a Y/\VR Y v q/\a.get idP=zn:=by
 unfold Db at e;replace e:=BE e;obtain⟨A,e⟩:=e;simp only[af,aq]at A;obtain⟨j,k⟩:=A
 let Q:Nat->Prop:=λpid=>X.Q pid \/ ∃ id∈DN args,∃ m,X.π id=zo (.blk pid m)
 have O:=e;replace e:=Bu (Q:=Q) r (λ_ h=>.inl h) (λid pid m hi J=>.inr ⟨id,hi,m,J⟩) u e;obtain⟨y,e,o⟩:=e;replace e:=AD e;obtain⟨h',p,e⟩:=e;replace e:=DZ e;obtain⟨z,M,e⟩:=e;obtain⟨c,lP,t,l,b⟩:=ED (λ_ h=>.inl h) j o;obtain⟨i,up,g,⟨N,G⟩,d,s⟩:=T y z M c l;have I:Kn X (DN args):=Ie u;obtain⟨q,a,Y,C,D,E,F⟩:=CJ r w.big w.hp w.hlt k d b I p id;exact⟨_,h',q,a,Y,c,lP,i,up,g,e,t,⟨N,G⟩,C,λy L=>(by obtain⟨_,es,ex,fz,S⟩:=b y L;grind),D,E,F (.inr s)⟩
theorem Hd{X:Cx}{h:H}{n id idP:Nat}(r:RH X h n)(w:Nw X n id idP){f:FuncId}{sg:Sg}(T:∀ dom g c l,sg=⟨dom,[(zf,.sl g c)],l⟩->RowOK P tab f dom g c l){args:List V}{D:List PV}{K:V->H->Option β}(B:VRL X args D)(e:LI h id sg args K=zo x) :
  ∃ v h' q a Y d lP k up j,K v h'=zo x/\Ap X.h D=zo (d,lP)/\PD P tab (.fn f) zn d D1 (.ret k,up,j)/\Pi.Ag idP lP X.h j k=zo (q,a)/\(∀ y∈lP,X.h.get y≠zn)/\E7 X h n id idP h' a Y/\VR Y v q/\(a.get idP=zn\/Pi.AE q=[idP]):=by
 unfold LI at e;split at e
 ·rename_i dom g c l;replace e:=BE e;obtain⟨C,e⟩:=e;simp only[af,aq]at C;obtain⟨o,p⟩:=C
  let Q:Nat->Prop:=λpid=>X.Q pid \/ ∃ id∈DN args,∃ m,X.π id=zo (.blk pid m)
  replace e:=Bu (Q:=Q) r (λ_ h=>.inl h) (λid pid m hi L=>.inr ⟨id,hi,m,L⟩) B e;obtain⟨y,e,t⟩:=e;replace e:=AD e;obtain⟨h',u,e⟩:=e;replace e:=DZ e;obtain⟨z,O,e⟩:=e;obtain⟨d,lP,A,s,b⟩:=ED (λ_ h=>.inl h) o t;obtain⟨k,up,j,⟨N,J⟩,i⟩:=T _ _ _ _ rfl y z O d s;obtain⟨q,a,Y,E,F,G,I⟩:=KM r w (ap p) i b (Ie B) u;exact⟨_,_,q,a,Y,d,lP,k,up,j,e,A,⟨N,J⟩,E,λy M=>(by obtain⟨_,es,ex,fz,S⟩:=b y M;grind),F,G,I⟩
 ·cases e
theorem PM{X:Cx}{h:H}{n id idP:Nat}(r:RH X h n)(w:Nw X n id idP){f:FuncId}{sg:Sg}(T:∀ dom g c i,sg=⟨dom,[(zf,.sl g c)],i⟩->RowOK P tab f dom g c i)(d:Ae tab f=zf){args:List V}{j:List PV}{K:V->H->Option β}(t:VRL X args j)(e:LI h id sg args K=zo x) :
  ∃ v h' q a Y,K v h'=zo x/\(∃ N,∀ F n,N<=F->N<=n->Pi.A9 (Ae tab) (Pi.B5 P (Ae tab) F n) idP f j X.h=zo (.ret q,a))/\E7 X h n id idP h' a Y/\VR Y v q:=by
 obtain⟨v,h',q,a,Y,y,lP,A,up,z,e1,b,⟨N,s⟩,k,_,l,o,_⟩:=Hd r w T t e;refine⟨v,h',q,a,Y,e1,⟨N,λF n p u=> ?_⟩,l,o⟩;unfold Pi.A9;simp only[d,zj,b];rw[show({ m:=.lf,nx:=0 }:Hp)=D1 from rfl,s F n p u];simp only[k];rfl
theorem PN{X:Cx}{h:H}{n id idP:Nat}(r:RH X h n)(w:Nw X n id idP){f:FuncId}{sg:Sg}(T:FnOK P tab f sg)(c:Ae tab f=zf){args:List V}{d:List PV}{K:V->H->Option β}(o:VRL X args d)(e:Db h sg args K=zo x) :
  ∃ v h' q a Y,K v h'=zo x/\(∃ N,∀ F n,N<=F->N<=n->Pi.A9 (Ae tab) (Pi.B5 P (Ae tab) F n) idP f d X.h=zo (.ret q,a))/\E7 X h n id idP h' a Y/\VR Y v q:=by
 obtain⟨v,h',q,a,Y,s,lP,u,up,t,e1,b,⟨N,l⟩,g,_,i,j,_⟩:=He r w T o e;refine⟨v,h',q,a,Y,e1,⟨N,λF n k p=> ?_⟩,i,j⟩;unfold Pi.A9;simp only[c,zj,b];rw[show({ m:=.lf,nx:=0 }:Hp)=D1 from rfl,l F n k p];simp only[g];rfl
theorem Rb{X:Cx}{fr:FrA}{fp:Pi.Fr}(f:FR X fr fp){d:Option Nat}{v:V}{p:PV}{K:FrA->Option β}(h:VR X v p)(e:HU fr d v K=zo x):∃ b a,K b=zo x/\fp.put d p=zo a/\FR X b a:=by
 unfold HU at e;unfold Pi.Fr.put;split at e
 ·grind
 ·rename_i d;replace e:=AN e;obtain⟨c,e⟩:=e;have g:d<fr.nt:=by simpa using c
  have i:=f.big;exact⟨_,{ fp with t:=T.put 20 fp.t d p },e,by simp only[f.nt,c,zb],⟨f.t.put (by omega) h,f.nt,f.big,f.ds,f.up,f.ro⟩⟩
theorem JY{X:Cx}{ops:List Oper}{t:T V}{h:T PV}(q:TR X t h){nt:Nat}(n:nt<1048575)(f:∀ o∈ops,∀ d,o.dst=zo d->d<nt){g:Option (Nat×Bool)}{i y:T V->Option β}(e:KL ops t g i y=zo x) :
  ∃ s,TR X s h/\((i s=zo x/\Pi.A8 ops h g=zt)\/(y s=zo x/\Pi.A8 ops h g=zf)):=by
 unfold KL at e;unfold Pi.A8;split at e
 ·grind
 ·rename_i j z;split at e
  ·rename_i o C;simp only[C];split at e
   ·rename_i d u;simp only[u]
    have B:d<1048575:=by
     exact Nat.lt_trans (f o (by grind [AM]) d u) n
    split at e
    ·rename_i b m;obtain⟨p,w,r⟩:=q _ _ m;simp only[VR]at r;subst r;simp only[w]
     have same:∀ c:Bool,b=c->TR X (T.put 20 t d (.bool c)) h:=by
      intro c hc;subst hc;intro k v l;have A:(2:Nat) ^ 20-1=1048575:=by decide
      rw[T.get_put 20 t d _ k (by omega)]at l;by_cases a:k=d
      ·rw[zy a]at l;grind [VR]
      ·rw[zx a]at l;exact q _ _ l
     replace e:=BO e
     grind
    ·rename_i m;obtain⟨p,w,r⟩:=q _ _ m
     grind [VR,VRL]
    ·cases e
   ·cases e
  ·cases e
def DY(X:Cx)(base baseP i k:Nat):Prop:=∀ j,i<=j->j<i+k->X.π (base+j)=zn/\X.h.get (baseP+j)=zn
theorem NE(R:RecAOK P tab rec)(T:TabOK P tab){base baseP b bP:Nat}(hb:b<=base)(hbP:bP<=baseP){all:List Oper} :
  ∀ {ops:List Oper} {i:Nat} {X:Cx} {fr:FrA} {fp:Pi.Fr} {h:H} {nx:Nat} {K:KA β},Bp P tab rec base all (Pi.Hm i ops) fr h nx K=zo x ->
   RH X h nx->nx<=1048575->FR X fr fp->(∀ o∈all,∀ d,o.dst=zo d->d<fr.nt)->DY X base baseP i ops.length->base+i+ops.length<=nx->baseP+i+ops.length<=X.h.nx ->
   ∃ ex O h' nx' Y L M U,K ex O h' nx'=zo x/\(∃ N,∀ F n,N<=F->N<=n->Pi.AZ P (Ae tab) (Pi.B5 P (Ae tab) F n) baseP all (Pi.Hm i ops) fp X.h=zo (L,M,U))/\Run b bP X h nx Y h' nx' U/\FR Y O M/\MJ Y ex L:=by
 intro ops
 induction ops with
 |nil=>
  intro i X fr fp h nx K e r y f _ _ _ _;exact⟨.normal,fr,h,nx,X,.normal,fp,X.h,e,⟨0,λ_ _ _ _=>rfl⟩,⟨rfl,r,y,ab _,Ext.refl _ _ _ _⟩,f,rfl⟩
 |cons o ops ih=>
  intro i X fr fp h nx K e r y f hall G hlen hlenP;simp only[List.length_cons]at hlen hlenP G;have hfr0:=G i (ab _) (by omega);have w:Nw X nx (base+i) (baseP+i):=⟨hfr0.1,by omega,y,hfr0.2,by omega⟩
  have go:∀ {v:V} {p:PV} {B:H} {J:Nat} {X1:Cx} {fr1:FrA} {fp1:Pi.Fr},HU fr1 o.dst v (λfr=>Bp P tab rec base all (Pi.Hm (i+1) ops) fr B J K)=zo x->RH X1 B J->J<=1048575->nx<=J->FR X1 fr1 fp1->fr1.nt=fr.nt->VR X1 v p->Ext b bP X h X1 B->DY X1 base baseP (i+1) ops.length ->
    (∀ {rr:Pi.Ex×Pi.Fr×Hp},(∃ N,∀ F n,N<=F->N<=n->(match fp1.put o.dst p with
     |some fr=>Pi.AZ P (Ae tab) (Pi.B5 P (Ae tab) F n) baseP all (Pi.Hm (i+1) ops) fr X1.h
     |none=>zn)=zo rr) -> ∃ N,∀ F n,N<=F->N<=n->Pi.AZ P (Ae tab) (Pi.B5 P (Ae tab) F n) baseP all (Pi.Hm i (o::ops)) fp X.h=zo rr) ->
    ∃ ex O h' nx' Y L M U,K ex O h' nx'=zo x/\(∃ N,∀ F n,N<=F->N<=n->Pi.AZ P (Ae tab) (Pi.B5 P (Ae tab) F n) baseP all (Pi.Hm i (o::ops)) fp X.h=zo (L,M,U))/\Run b bP X h nx Y h' nx' U/\FR Y O M/\MJ Y ex L:=by
   intro v p B J X1 fr1 fp1 e r1 hn1 hle f1 hnt hv A I hP;obtain⟨fr2,fp2,e2,AG,f2⟩:=Rb f1 hv e;have hnt2:fr2.nt=fr.nt:=by rw[<- f2.nt,<- hnt,<- f1.nt];unfold Pi.Fr.put at AG;grind
   obtain⟨ex,O,h',nx',Y,L,M,U,k1,k2,k3,k4,k5⟩:=ih e2 r1 hn1 f2 (λo ho d hd=>by grind) I (by omega) (by have:=A.nx;omega);refine⟨ex,O,h',nx',Y,L,M,U,k1,hP ?_,⟨k3.hp,k3.rh,k3.big,aw hle k3.le,A.trans k3.ext⟩,k4,k5⟩;obtain⟨N,D⟩:=k2;exact⟨N,λF n C y=>by grind⟩
  have idxc:Pi.Hm i (o::ops)=(i,o)::Pi.Hm (i+1) ops:=rfl;rw[idxc]at e;unfold Bp at e;have fg:=JY (nt:=fr.nt) f.t f.big hall e;obtain⟨t',ht',hcase⟩:=fg;have f':FR X { fr with t:=t' } fp:=⟨ht',f.nt,f.big,f.ds,f.up,f.ro⟩
  rcases hcase with⟨e,hw⟩|⟨e,hw⟩
  ·
   have ev:=Pe r w ht' e
   have hP:∀ F n,Pi.AZ P (Ae tab) (Pi.B5 P (Ae tab) F n) baseP all (Pi.Hm i (o::ops)) fp X.h=(match Pi.AP P fp.t X.h (baseP+i) o with
    |some (.val v h)=>match fp.put o.dst v with
     |some fr=>Pi.AZ P (Ae tab) (Pi.B5 P (Ae tab) F n) baseP all (Pi.Hm (i+1) ops) fr h
     |none=>zn
    |some (.skip h)=>match fp.put o.dst (.tup [])with
     |some fr=>Pi.AZ P (Ae tab) (Pi.B5 P (Ae tab) F n) baseP all (Pi.Hm (i+1) ops) fr h
     |none=>zn
    |some (.dfr d)=>match fp.ro with
     |none=>(match ({ fp with ds:=d::fp.ds }:Pi.Fr).put o.dst (.tup [])with
      |some fr=>Pi.AZ P (Ae tab) (Pi.B5 P (Ae tab) F n) baseP all (Pi.Hm (i+1) ops) fr X.h
      |none=>zn)
     |some _=>zn
    |some (.call f args)=>match Pi.A9 (Ae tab) (Pi.B5 P (Ae tab) F n) (baseP+i) f args X.h with
     |some (.ret v,h)=>(match fp.put o.dst v with
      |some fr=>Pi.AZ P (Ae tab) (Pi.B5 P (Ae tab) F n) baseP all (Pi.Hm (i+1) ops) fr h
      |none=>zn)
     |some (.pan [{ v:=e,recovered:=zf }],h)=>zo (.panic e,fp,h)
     |_=>zn
    |some (.yield l args)=>match Pi.B5 P (Ae tab) F n (.yl l) zn args X.h with
     |some (.ret v,_,h)=>(match fp.put o.dst v with
      |some fr=>Pi.AZ P (Ae tab) (Pi.B5 P (Ae tab) F n) baseP all (Pi.Hm (i+1) ops) fr h
      |none=>zn)
     |_=>zn
    |some (.pan v)=>zo (.panic v,fp,X.h)
    |some .rcv=>match fp.ro with
     |some _=>zn
     |none=>match fp.up with
      |some (.pan ({ v,recovered:=zf }::older))=>(match ({ fp with up:=zo (.pan ({ v,recovered:=zt }::older)) }:Pi.Fr).put o.dst v with
       |some fr=>Pi.AZ P (Ae tab) (Pi.B5 P (Ae tab) F n) baseP all (Pi.Hm (i+1) ops) fr X.h
       |none=>zn)
      |_=>(match fp.put o.dst .nili with
       |some fr=>Pi.AZ P (Ae tab) (Pi.B5 P (Ae tab) F n) baseP all (Pi.Hm (i+1) ops) fr X.h
       |none=>zn)
    |none=>zn):=by
    intro F n;rw[idxc,Pi.AZ,hw];rfl
   generalize Pi.AP P fp.t X.h (baseP+i) o=op at ev hP
   have z:∀ {Y:Cx} {B:H},St X h (base+i) (baseP+i) Y B->DY Y base baseP (i+1) ops.length:=λs j B h2=>by
    obtain⟨a1,a2⟩:=G j (by omega) (by omega);exact⟨s.pin _ (by omega) a1,s.hpn _ (by omega) a2⟩
   cases ev with
   |val e ok hv=>
    obtain⟨y1,y2,y3⟩:=ok;refine go e y2 y (ab _) (f'.mono y3.up) rfl hv (y3.ext (by omega) (by omega)) (z y3) ?_;rintro rr ⟨N,D⟩;refine⟨N,λF n C y=> ?_⟩;rw[hP];simp only;rw[<- y1];exact D F n C y
   |skip e ok=>
    obtain⟨y1,y2,y3⟩:=ok;refine go e y2 y (ab _) (f'.mono y3.up) rfl (p:=.tup []) (by simp only[VR];exact⟨[],rfl,.nil⟩) (y3.ext (by omega) (by omega)) (z y3) ?_;rintro rr ⟨N,D⟩;refine⟨N,λF n C y=> ?_⟩;rw[hP];simp only;rw[<- y1];exact D F n C y
   |dfr e hd=>
    dsimp only at e;split at e
    ·rename_i hro;have E:fp.ro=zn:=by have:=f.ro;rw[hro]at this;exact this
     refine go (fp1:={ fp with ds:=_::fp.ds }) e r y (ab _) ⟨ht',f.nt,f.big,.cons hd f.ds,f.up,f.ro⟩ rfl (p:=.tup []) (by simp only[VR];exact⟨[],rfl,.nil⟩) (Ext.refl _ _ _ _) (λj B h2=>G j (by omega) (by omega)) ?_
     rintro rr ⟨N,D⟩;refine⟨N,λF n C y=> ?_⟩;rw[hP];simp only[E];have:=D F n C y;simp only[E]at this;exact this
    ·cases e
   |@call g as ps e ha=>
    dsimp only at e;split at e
    ·cases e
    ·rename_i sg hsg;replace e:=BE e;obtain⟨hlt,e⟩:=e;have hlt:ae g Cw=zt:=by simpa using hlt
     have hsh:Ae tab g=zf:=by unfold Ae;rw[hsg];rfl
     split at e
     ·rename_i sg' hR;obtain⟨v,B,q,hP1,Y,e1,⟨N0,S⟩,⟨y1,y2,y3⟩,hv⟩:=PM r w (λdom g' c fn hh=>T.getR (by rw[<- hh];exact hR)) hsh ha e;refine go e1 y2 y (ab _) (f'.mono y3.up) rfl hv (y3.ext (by omega) (by omega)) (z y3) ?_;rintro rr ⟨N,D⟩;refine⟨max N0 N,λF n C y=> ?_⟩;rw[hP];simp only[S F n (by omega) (by omega)];rw[<- y1];exact D F n (by omega) (by omega)
     ·obtain⟨v,B,q,hP1,Y,e1,⟨N0,S⟩,⟨y1,y2,y3⟩,hv⟩:=PN r w (T.get hlt hsg) hsh ha e;refine go e1 y2 y (ab _) (f'.mono y3.up) rfl hv (y3.ext (by omega) (by omega)) (z y3) ?_;rintro rr ⟨N,D⟩;refine⟨max N0 N,λF n C y=> ?_⟩;rw[hP];simp only[S F n (by omega) (by omega)];rw[<- y1];exact D F n (by omega) (by omega)
    ·rename_i hsg;obtain⟨o',up',B,J,Y,oP,upP',hP1,e1,⟨N0,S⟩,k,ho,hu⟩:=R.fn e r y ha (show UMR X zn zn from rfl)
     have W:∀ F n,N0<=F->N0<=n->Pi.A9 (Ae tab) (Pi.B5 P (Ae tab) F n) (baseP+i) g ps X.h=zo (oP,hP1):=λF n C y=>by
      unfold Pi.A9;have hsh:Ae tab g=zt:=by unfold Ae;rw[hsg];rfl
      simp only[hsh,zb,S F n C y]
     have hup:=k.ext.full r (ab _);have A:Ext b bP X h Y B:=k.ext.le (by omega) (by omega)
     have I:DY Y base baseP (i+1) ops.length:=λj B h2=>by
      obtain⟨a1,a2⟩:=G j (by omega) (by omega);exact⟨k.ext.pin _ (by omega) a1,k.ext.hpn _ (by omega) a2⟩
     cases o' with
     |ret v=>
      dsimp only at e1;obtain⟨p,rfl,hv⟩:=ho;refine go e1 k.rh k.big k.le (f'.mono hup) rfl hv A I ?_;rintro rr ⟨N,D⟩;refine⟨max N0 N,λF n C y=> ?_⟩;rw[hP];simp only[W F n (by omega) (by omega)];rw[<- k.hp];exact D F n (by omega) (by omega)
     |pan ch=>
      obtain⟨c,rfl,Z⟩:=ho
      match ch,Z,e1 with
      |[{ v:=v,recovered:=zf }],Z,e1=>
       obtain⟨⟨vP,rP⟩,c',rfl,⟨h3,h4⟩,h5⟩:=L2.cons_inv Z;rw[L2.nil_inv h5]at W;simp only at h3 h4;subst h4;refine⟨_,_,B,J,Y,.panic vP,fp,hP1,e1,⟨N0,λF n C y=> ?_⟩,⟨k.hp,k.rh,k.big,k.le,A⟩,f'.mono hup,⟨vP,rfl,h3⟩⟩;rw[hP];simp only[W F n C y]
      |[],_,e1=>cases e1
      |[{ v:=v,recovered:=zt }],_,e1=>cases e1
      |⟨av,ar⟩::b::c,_,e1=>cases ar<;>cases e1
   |@yield l lP m as ps e hl ha=>
    dsimp only at e;obtain⟨o',up',B,J,Y,oP,upP',hP1,e1,⟨N0,S⟩,k,ho,hu⟩:=R.yl e r y hl ha;have hup:=k.ext.full r (ab _);have A:Ext b bP X h Y B:=k.ext.le (by omega) (by omega)
    have I:DY Y base baseP (i+1) ops.length:=λj B h2=>by
     obtain⟨a1,a2⟩:=G j (by omega) (by omega);exact⟨k.ext.pin _ (by omega) a1,k.ext.hpn _ (by omega) a2⟩
    cases o' with
    |ret v=>
     dsimp only at e1;obtain⟨p,rfl,hv⟩:=ho;refine go e1 k.rh k.big k.le (f'.mono hup) rfl hv A I ?_;rintro rr ⟨N,D⟩;refine⟨max N0 N,λF n C y=> ?_⟩;rw[hP];simp only[S F n (by omega) (by omega)];rw[<- k.hp];exact D F n (by omega) (by omega)
    |pan ch=>cases e1
   |pan e hv=>
    refine⟨_,_,h,nx,X,.panic _,fp,X.h,e,⟨0,λF n _ _=>by rw[hP]⟩,⟨rfl,r,y,ab _,Ext.refl _ _ _ _⟩,f',⟨_,rfl,hv⟩⟩
   |rcv e=>
    dsimp only at e;split at e
    ·cases e
    ·rename_i hro;have E:fp.ro=zn:=by have:=f.ro;rw[hro]at this;exact this
     split at e
     ·rename_i v older hup;have hu:=f.up;rw[hup]at hu;obtain⟨c,hc,Z⟩:=hu;obtain⟨⟨vP,rP⟩,c',rfl,⟨h3,h4⟩,h5⟩:=L2.cons_inv Z;simp only at h3 h4;subst h4;refine go (fp1:={ fp with up:=zo (.pan ({ v:=vP,recovered:=zt }::c')) }) e r y (ab _) ⟨ht',f.nt,f.big,f.ds,⟨_,rfl,.cons ⟨h3,rfl⟩ h5⟩,f.ro⟩ rfl h3 (Ext.refl _ _ _ _) (λj B h2=>G j (by omega) (by omega)) ?_
      rintro rr ⟨N,D⟩;refine⟨N,λF n C y=> ?_⟩;rw[hP];simp only[E,hc];have:=D F n C y;simp only[E]at this;exact this
     ·rename_i hne;refine go e r y (ab _) f' rfl (p:=.nili) (by simp[VR]) (Ext.refl _ _ _ _) (λj B h2=>G j (by omega) (by omega)) ?_;rintro rr ⟨N,D⟩;refine⟨N,λF n C y=> ?_⟩;rw[hP];simp only[E];have:=D F n C y;have hu:=f.up;cases hfu:fr.up with
      |none=>
       rw[hfu]at hu;rw[show fp.up=zn from hu];exact this
      |some u=>
       rw[hfu]at hu;cases u with
       |ret=>rw[show fp.up=zo .ret from hu];exact this
       |pan ch=>
        obtain⟨c,hc,Z⟩:=hu;rw[hc];cases Z with
        |nil=>exact this
        |cons a t=>
         rename_i a1 b1 l1 m1;obtain⟨bv,br⟩:=b1;cases br with
         |true=>exact this
         |false=>
          obtain⟨av,ar⟩:=a1;have:ar=zf:=a.2;subst this;exact absurd hfu (hne _ _)
  ·
   refine go e r y (ab _) f' rfl (p:=.tup []) (by simp only[VR];exact⟨[],rfl,.nil⟩) (Ext.refl _ _ _ _) (λj B h2=>G j (by omega) (by omega)) ?_;rintro rr ⟨N,D⟩;refine⟨N,λF n C y=> ?_⟩;rw[idxc,Pi.AZ,hw];exact D F n C y
end
end
section
variable[Pi.Gl]
open Pi (PV T Hp Blk DF UM PE AM AS AB AW Ap)
structure Kp (W:List Nat) (a b:Pi.Fr):Prop where
 t:∀ k,k ∉ W->b.t.get k=a.t.get k
 nt:b.nt=a.nt
 ro:b.ro=a.ro
 up:a.up=zn->b.up=zn
 ds:∃ p,b.ds=p++a.ds
theorem Kp.refl(W:List Nat)(a:Pi.Fr):Kp W a a:=⟨λ_ _=>rfl,rfl,rfl,λh=>h,[],rfl⟩
theorem Kp.trans{W:List Nat}{a b c:Pi.Fr}(h:Kp W a b)(k:Kp W b c):Kp W a c:=by
 obtain⟨p,e⟩:=h.ds;obtain⟨q,f⟩:=k.ds;exact⟨λi hi=>(k.t i hi).trans (h.t i hi),k.nt.trans h.nt,k.ro.trans h.ro,λd=>k.up (h.up d),q++p,by simp_all⟩
theorem Kp.mono{W V:List Nat}(d:∀ k∈W,k∈V){a b:Pi.Fr}(h:Kp W a b):Kp V a b:=⟨λk c=>h.t k λhh=>c (d k hh),h.nt,h.ro,h.up,h.ds⟩
theorem Kp.put{W:List Nat}{a b:Pi.Fr}(g:a.nt<1048575){d:Option Nat}(j:∀ i,d=zo i->i∈W){v:PV}(e:a.put d v=zo b):Kp W a b:=by
 unfold Pi.Fr.put at e;split at e
 ·cases e;exact Kp.refl _ _
 ·rename_i i;replace e:=AN e;obtain⟨hi,e⟩:=e;cases e;have f:i<a.nt:=by simpa using hi
  have c:(2:Nat) ^ 20-1=1048575:=by decide
  refine⟨λk l=> ?_,rfl,rfl,λh=>h,[],rfl⟩;show(T.put 20 a.t i v).get k=_;rw[T.get_put 20 a.t i v k (by omega),zx]
  grind
section
variable{P:Program}{sh:FuncId->Bool}{rec:Pi.GH}
theorem Jp{base:Nat}{all:List Oper}{W:List Nat}:∀ {l:List (Nat×Oper)} {fr d:Pi.Fr} {h h':Hp} {ex:Pi.Ex},fr.nt<1048575->(∀ p∈l,∀ i,p.2.dst=zo i->i∈W)->Pi.AZ P sh rec base all l fr h=zo (ex,d,h')->Kp W fr d
 |[],fr,d,h,h',ex,hnt,hW,e=>by cases e;exact Kp.refl _ _
 |(i,o)::l,fr,d,h,h',ex,hnt,hW,e=>by
  have k:∀ p∈l,∀ i,p.2.dst=zo i->i∈W:=λp c=>hW p (by simp[c]);have q:∀ j,o.dst=zo j->j∈W:=hW (i,o) (by simp)
  have f:∀ {a b:Pi.Fr} {v:PV} {hh:Hp},Kp W fr a->a.put o.dst v=zo b->Pi.AZ P sh rec base all l b hh=zo (ex,d,h')->Kp W fr d:=λm n e=>by
   have g:=Kp.put (W:=W) (by rw[m.nt];exact hnt) q n;exact(m.trans g).trans (Jp (by rw[g.nt,m.nt];exact hnt) k e)
  unfold Pi.AZ at e;replace e:=BP e;rcases e with⟨_,e⟩|⟨_,e⟩
  ·split at e
   ·split at e
    ·rename_i c;exact f (Kp.refl _ _) c e
    ·cases e
   ·split at e
    ·rename_i c;exact f (Kp.refl _ _) c e
    ·cases e
   ·split at e
    ·split at e
     ·rename_i c;exact f (a:={ fr with ds:=_::fr.ds }) ⟨λ_ _=>rfl,rfl,rfl,λh=>h,[_],rfl⟩ c e
     ·cases e
    ·cases e
   ·split at e
    ·split at e
     ·rename_i c;exact f (Kp.refl _ _) c e
     ·cases e
    ·cases e;exact Kp.refl _ _
    ·cases e
   ·split at e
    ·split at e
     ·rename_i c;exact f (Kp.refl _ _) c e
     ·cases e
    ·cases e
   ·cases e;exact Kp.refl _ _
   ·split at e
    ·cases e
    ·split at e
     ·rename_i r;split at e
      ·rename_i c;exact f (a:={ t:=fr.t,nt:=fr.nt,ds:=fr.ds,up:=zo _,ro:=fr.ro }) ⟨λ_ _=>rfl,rfl,rfl,λh=>(by simp_all),[],rfl⟩ c e
      ·cases e
     ·split at e
      ·rename_i c;exact f (Kp.refl _ _) c e
      ·cases e
   ·cases e
  ·split at e
   ·rename_i c;exact f (Kp.refl _ _) c e
   ·cases e
theorem DE{base nt:Nat}{all:List Oper}{W:List Nat}(c:nt<1048575):∀ {i:Nat} {ops:List Oper} {l:List Pi.Mk} {a:List (Nat×List Nat×List Nat)} {t g:T PV} {h h':Hp},(∀ o∈ops,∀ i,o.dst=zo i->i∈W)->Pi.AX P rec base nt all i ops l a t h=zo (g,h') -> ∀ k,k ∉ W->g.get k=t.get k
 |i,[],l,a,t,g,h,h',hW,e,k,hk=>by
  simp_all[Pi.AX]
 |i,o::ops,[],a,t,g,h,h',hW,e,k,hk=>by cases e
 |i,o::ops,m::l,a,t,g,h,h',hW,e,k,hk=>by
  have b:∀ o∈ops,∀ i,o.dst=zo i->i∈W:=λp r=>hW p (by simp[r]);have n:(2:Nat) ^ 20-1=1048575:=by decide
  have put:∀ {d:Nat} {v:PV},o.dst=zo d->ae d nt=zt->(T.put 20 t d v).get k=t.get k:=λj f=>by
   have q:=ap f;rw[T.get_put 20 t _ _ k (by omega),zx]
   grind
  unfold Pi.AX at e;replace e:=BP e;rcases e with⟨_,e⟩|⟨_,e⟩
  ·split at e
   ·replace e:=AN e;obtain⟨_,e⟩:=e;split at e
    ·rename_i d j;replace e:=AN e;obtain⟨f,e⟩:=e;rw[DE c b e k hk,put j f]
    ·exact DE c b e k hk
   ·cases e
  ·split at e
   ·rename_i d j;replace e:=AN e;obtain⟨f,e⟩:=e;rw[DE c b e k hk,put j f]
   ·exact DE c b e k hk
theorem Ns:∀ {l:List Oper} {i:Nat} {p:Nat×Oper},p∈Pi.Hm i l->p.2∈l
 |[],i,p,h=>by cases h
 |o::l,i,p,h=>by
  rcases aj.1 h with rfl|h
  ·simp
  ·exact List.mem_cons_of_mem _ (Ns h)
theorem B8:∀ {n:Nat} {c:Code} {fr f:Pi.Fr} {h h':Hp} {ex:Pi.Ex},fr.nt<1048575->Pi.AY P sh rec n c fr h=zo (ex,f,h')->Kp (B1 c) fr f
 |0,_,_,_,_,_,_,_,e=>by cases e
 |n+1,c,fr,f,h,h',ex,hnt,e=>by
  cases c with
  |skip=>cases e;exact Kp.refl _ _
  |label l=>cases e;exact Kp.refl _ _
  |seq a b=>
   simp only[Pi.AY]at e;split at e
   ·rename_i fr1 t e1;have q:=B8 hnt e1;have B:=B8 (by rw[q.nt];exact hnt) e;exact(q.mono λk d=>ax _ d).trans (B.mono λk d=>am _ d)
   ·exact(B8 hnt e).mono λk d=>ax _ d
  |cond c a b=>
   simp only[Pi.AY]at e;split at e
   ·exact(B8 hnt e).mono λk d=>ax _ d
   ·exact(B8 hnt e).mono λk d=>am _ d
   ·cases e
  |block id b=>
   simp only[Pi.AY]at e;split at e
   ·rename_i j fr1 t e1;have q:=B8 hnt e1;replace e:=BP e;rcases e with⟨_,e⟩|⟨_,e⟩<;>(cases e;exact q)
   ·exact B8 (c:=b) hnt e
  |loop b=>
   simp only[Pi.AY]at e;split at e
   ·rename_i fr1 t e1;have q:=B8 hnt e1;exact q.trans (B8 (c:=.loop b) (by rw[q.nt];exact hnt) e)
   ·exact B8 (c:=b) hnt e
  |scope b=>
   simp only[Pi.AY]at e;split at e
   ·cases e
   ·exact B8 (c:=b) hnt e
  |exit id=>cases e;exact Kp.refl _ _
  |goto l=>cases e;exact Kp.refl _ _
  |ret=>cases e;exact Kp.refl _ _
  |refuse w=>cases e
  |region id ops s=>
   simp only[Pi.AY]at e;have x:∀ o∈ops.toList,∀ i,o.dst=zo i->i∈B1 (.region id ops s):=λo z i hi=>List.mem_filterMap.2 ⟨o,z,hi⟩;replace e:=BP e;rcases e with⟨_,e⟩|⟨_,e⟩
   ·replace e:=AN e;obtain⟨_,e⟩:=e;split at e
    ·rename_i fr1 t e1;cases e;unfold Pi.drawn at e1;split at e1
     ·split at e1
      ·rename_i D t e2;cases e1;exact⟨DE hnt x e2,rfl,rfl,λh=>h,[],rfl⟩
      ·cases e1
     ·cases e1
    ·cases e
   ·exact Jp hnt (λp A i hi=>x p.2 (Ns A) i hi) e
  |rangeFunc g C u r=>
   simp only[Pi.AY]at e;have y:∀ {m:List DF},Kp (B1 (.rangeFunc g C u r)) fr { fr with ds:=m++fr.ds }:=fun {m}=>⟨λ_ _=>rfl,rfl,rfl,λh=>h,m,rfl⟩
   split at e
   ·split at e
    ·split at e
     ·split at e
      ·split at e<;>grind
      ·cases e
     ·cases e
    ·cases e
   ·cases e
end
end
end Go.Proofs.YtoefnfbpoabinaaGreatDoor.Sv
