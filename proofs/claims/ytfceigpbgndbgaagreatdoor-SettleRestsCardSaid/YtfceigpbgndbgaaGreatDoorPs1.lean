/- A part of the evaluator over typed open values for any program, and of the proof that it is sound. No condition. -/
import Derived.Test.YtfceigpbgndbgaaGreatDoorPs0
set_option linter.all false
open List renaming all_cons->aZ, all_eq_true->a8, all_nil->cy, append_nil->aL, drop_zero->bN, isEmpty_nil->cW, length_nil->aI, length_pos_iff->aQ, mem_append->an, mem_append_left->ao, mem_append_right->am, mem_cons->ai, mem_singleton->aw, take_of_length_le->bM
open Nat renaming add_zero->bg, beq->aa, beq_eq->bI, ble->ah, ble_eq->bQ, blt->af, eq_of_beq_eq_true->aj, le_max_left->dg, le_max_right->dc, le_of_ble_eq_true->aq, le_refl->ad, le_trans->ax, lt_of_lt_of_le->cf, max->cp
open Option renaming isNone_eq_false_iff->bA
open Bool renaming and_eq_true->ac, and_true->bU, not_eq_false'->ay, not_true->au, or_eq_false_iff->ak, or_false->bo, or_self->aJ, true_and->cr
open Option renaming some->zo, none->zn
open Bool renaming true->zt, false->zf
namespace Go.Proofs.YtfceigpbgndbgaaGreatDoor.Sv
section
variable[Pi.Gl]
open Pi (PV T Hp Blk DF UM PE AN AT)
structure Nw (X:Cx) (n id idP:Nat):Prop where
 pi:X.π id=zn
 lt:id<n
 big:n<=1048575
 hp:X.h.get idP=zn
 hlt:idP<X.h.nx
section
variable{X:Cx}{h:H}{n id idP:Nat}{β:Type}{x:β}{P:Program}
theorem Nw.small(w:Nw X n id idP):id<1048575:=by have:=w.lt;have:=w.big;omega
def VOk(X:Cx)(h:H)(n id idP:Nat)(K:RA->Option β)(x:β)(o:Option Pi.R):Prop:=
 ∃ v h' p a Y,K (.val v h')=zo x/\o=zo (.val p a)/\FW X h n id idP h' a Y/\VR Y v p
theorem VOk.same(r:RH X h n){K:RA->Option β}{o:Option Pi.R}{v:V}{p:PV}(e:K (.val v h)=zo x)(a:o=zo (.val p X.h))(b:VR X v p):VOk X h n id idP K x o:=
 ⟨v,h,p,X.h,X,e,a,⟨rfl,r,St.refl _ _ _ _⟩,b⟩
theorem L0(r:RH X h n)(w:Nw X n id idP){g:Bool}{c:Ty}{l:List c.den}{es:List PV}{ex fz a:Bool}(p:fz=zf->a=zf)(q:L2 (EP g (DR X.h X.Q c)) l es)(f:ex=zf->0<es.length) :
  ∃ d Y,X.h.new idP (.row es ex a)=zo d/\FW X h n id idP (AG h id (.row g c l ex fz zf)) d Y/\VR Y (.ow id) (.own idP 0 es.length)/\Y.π id=zo (.blk idP es.length):=by
 obtain⟨d,e⟩:=F7 X.h idP (.row es ex a) w.hp
 obtain⟨Y,o,i,j,s⟩:=r.new (m:=es.length) (b:=.row g c l ex fz zf) w.small w.lt w.pi w.hlt e (λY o i j u=>
  .inl ⟨idP,es.length,es,a,rfl,(j _).2 (.inr rfl),by rw[i,(Hp.get_new e).2.1,zy rfl],p,rfl,f,EDR.mono u q⟩)
 have k:Y.π id=zo (.blk idP es.length):=by rw[o];exact zy rfl
 exact⟨d,Y,e,⟨i,j,s⟩,by simp only[VR,k],k⟩
theorem Bi(r:RH X h n)(w:Nw X n id idP){g:Bool}{c:Ty}{l:List c.den}{es:List PV}{ex fz:Bool}(d:L2 (EP g (DR X.h X.Q c)) l es)(b:ex=zf->0<es.length) :
  ∃ a Y,X.h.new idP (.row es ex zf)=zo a/\FW X h n id idP (AG h id (.row g c l ex fz zf)) a Y/\VR Y (.ow id) (.own idP 0 es.length)/\Y.π id=zo (.blk idP es.length):=
 L0 r w (λ_=>rfl) d b
theorem KV(r:RH X h n)(w:Nw X n id idP){g:Bool}{c:Ty}{fz:Bool} :
  ∃ Y,FW X h n id idP (AG h id (.row g c [] zf fz zf)) X.h Y/\VR Y (.ow id) .nils:=by
 obtain⟨Y,e,f,i,j⟩:=r.alias (a:=.nil) (b:=.row g c [] zf fz zf) w.small w.lt w.pi (by simp) (λY u=>.inr (.inl ⟨rfl,rfl,rfl⟩)) idP;have d:Y.π id=zo .nil:=by rw[e];exact zy rfl
 exact⟨Y,⟨f,i,j⟩,by simp only[VR,d]⟩
theorem Rx(r:RH X h n)(w:Nw X n id idP){g:Bool}{c:Ty}{l:List c.den}{es:List PV}(d:L2 (EP g (DP c)) l es) :
  ∃ Y,FW X h n id idP (AG h id (.row g c l zf zt zf)) X.h Y/\VR Y (.ow id) (.lst zt es):=by
 obtain⟨Y,f,i,j,k⟩:=r.alias (a:=.fz es) (b:=.row g c l zf zt zf) w.small w.lt w.pi (by simp) (λY u=>.inr (.inr ⟨es,rfl,rfl,.inl rfl,d⟩)) idP;have e:Y.π id=zo (.fz es):=by rw[f];exact zy rfl
 exact⟨Y,⟨i,j,k⟩,by simp only[VR,e]⟩
theorem J9(r:RH X h n)(w:Nw X n id idP){g:Bool}{c:Ty}{fz:Bool} :
  ∃ Y,FW X h n id idP (AG h id (.row g c [] zf fz zf)) X.h Y/\VR Y (.ow id) (.lst zt []):=by
 obtain⟨Y,e,f,i,j⟩:=r.alias (a:=.fz []) (b:=.row g c [] zf fz zf) w.small w.lt w.pi (by simp) (λY u=>.inr (.inr ⟨[],rfl,rfl,.inr rfl,.nil⟩)) idP;have d:Y.π id=zo (.fz []):=by rw[e];exact zy rfl
 exact⟨Y,⟨f,i,j⟩,by simp only[VR,d]⟩
theorem EPL.up{g:Bool}{c:Ty}{l:List c.den}{es:List PV}{hh:Hp}{Q:Nat->Prop}(h:L2 (EP g (DP c)) l es):L2 (EP g (DR hh Q c)) l es:=h.mono λ_ _ k=>k.upP
theorem O8{g:Bool}{hh:Hp}{Q:Nat->Prop}{c:Ty}{l:List c.den}{es:List PV}{b:Nat}(hs:b=c.wd)(h:L2 (EP g (DR hh Q c)) l es):(es.all λv=>aa v.cells.length b)=zt:=by
 induction h with
 |nil=>rfl
 |cons a _ ih=>simp only[aZ,ih,bU,a.wd];simp[hs]
theorem RL{hh:Hp}{i:TypeId}{g:Bool}{c:Ty}{s p:PV}{new:List PV}{l:List c.den}{Q:Nat->Prop}(a:JG P i c=zt)(u:Pi.BX hh p=zo new)(q:L2 (EP g (DR hh Q c)) l new) :
  Pi.Ef P hh idP i s p=(match s with
   |.nils=>bif new.isEmpty then zo (.val .nils hh)else bif ah new.length Pi.Ba then(hh.new idP (.row new zf zf)).map λh=>.val (.own idP 0 new.length) h else zn
   |.lst zt es=>bif new.isEmpty then zo (.val (.lst zt es) hh)else bif ah (es.length+new.length) Pi.Ba&&Pi.Ce c.wd es then(hh.new idP (.row (es++new) zf zf)).map λh=>.val (.own idP 0 (es.length+new.length)) h else zn
   |.own j off len=>match hh.get j with
    |some (.row es ex fz)=>
     bif !ah (len+new.length) Pi.Ba || !ah (off+len) es.length || !Pi.Ce c.wd es then zn else
     bif ex then
      bif new.isEmpty then zo (.val (.own j off len) hh)else bif ah (off+len+new.length) es.length then
       (bif fz then zn else(hh.set j (.row (Pi.BU es (off+len) new) zt zf)).map λh=>.val (.own j off (len+new.length)) h)
      else(hh.new idP (.row ((es.drop off).take len++new) zf zf)).map λh=>.val (.own idP 0 (len+new.length)) h
     else bif aa len es.length&&aa off 0&&af 0 len then
      match hh.set j .dead with
      |some h=>(h.new idP (.row (es++new) zf fz)).map λh=>.val (.own idP 0 (len+new.length)) h
      |none=>zn
     else zn
    |_=>zn
   |_=>zn):=by
 unfold JG at a;unfold Pi.Ef;split at a
 ·rename_i e t;split at a
  ·rename_i k z b w;simp only[ac,bI]at a;obtain⟨⟨⟨f,m⟩,n⟩,o⟩:=a;have r:Pi.AU P e=zo k.size:=by unfold Pi.AU;grind
   have d:z.length.beq k.size=zt:=by simp[n]
   simp only[t,r,b,u,w];rw[O8 f q,show Pi.Ba=1048576 from rfl,m,d,o,f];rfl
  ·cases a
 ·cases a
theorem Cr{α:Type}{l:List α}(h:l≠[]):l.isEmpty=zf:=by simp_all
theorem PU{f:Bool}{v:V}{vs:List V}{p:PV}{es:List PV}{hh:Hp}(a:VR X (.exl f (v::vs)) p)(e:Pi.BX hh p=zo es):es≠[]:=by
 simp only[VR]at a;obtain⟨c,d,rfl,_,b⟩:=a;obtain⟨q,g,rfl,_,_⟩:=b.cons_inv;cases e;simp
theorem Nc{α:Type}{R:α->PV->Prop}{l new:List α}{es a:List PV}(h:L2 R l es)(k:L2 R new a)(off m:Nat):L2 R (LU l off new m) (Pi.BU es off (a.take m)):=by
 unfold LU Pi.BU;have:=(k.take m).length;rw[this];exact(h.take off).append ((k.take m).append (h.drop _))
theorem LX{es x:List PV}{off:Nat}(h:off+x.length<=es.length):(Pi.BU es off x).length=es.length:=by
 unfold Pi.BU;simp;omega
theorem Qn(r:RH X h n)(w:Nw X n id idP){st:TypeId}{s a:V}{sP p:PV}{K:RA->Option β}(hs:VR X s sP)(ha:VR X a p)(e:Ro P h id st s a K=zo x):VOk X h n id idP K x (Pi.Ef P X.h idP st sP p):=by
 unfold Ro at e;replace e:=AD e;obtain⟨⟨g,c⟩,hel,e⟩:=e;replace e:=AK e;obtain⟨he,e⟩:=e;replace e:=JH r ha e;obtain⟨new,b,e,hx,d⟩:=e;have E:=RL (idP:=idP) (s:=sP) he hx d;rw[E];have Z:Pi.Ba=1048576:=rfl
 have into:∀ {fz:Bool},b.length<=1048576->K (.val (.ow id) (AG h id (.row g c new zf fz zf)))=zo x->VOk X h n id idP K x (bif b.isEmpty then zo (.val .nils X.h)else bif ah b.length Pi.Ba then(X.h.new idP (.row b zf zf)).map λh=>.val (.own idP 0 b.length) h else zn):=by
  intro fz D e;by_cases f:b=[]
  ·subst f;have:=d.nil_inv';subst this;obtain⟨Y,q,o⟩:=KV (fz:=fz) (g:=g) (c:=c) r w;exact⟨_,_,.nils,X.h,Y,e,rfl,q,o⟩
  ·have A:0<b.length:=aQ.2 f;obtain⟨i,Y,q,o,G,_⟩:=Bi (fz:=fz) r w d λ_=>A;refine⟨_,_,_,i,Y,e,?_,o,G⟩;rw[Cr f,Z,show ah b.length 1048576=zt from by simp_all,q];rfl
 split at e
 ·simp only[VR]at hs;subst hs;replace e:=AJ e;obtain⟨D,e⟩:=e;exact into (by rw[<- d.length];simpa[CI,AR]using D) e
 ·rename_i g' S l;replace e:=AK e;obtain⟨hg,e⟩:=e;have:=eq_of_beq hg;subst this;replace e:=AJ e;obtain⟨D,e⟩:=e;replace e:=A7 e;obtain⟨hc,e⟩:=e;subst hc;have z:l.length+new.length<=1048576:=by simpa[CI,AR,BG]using D
  have I:b≠[]->K (.val (.ow id) (AG h id (.row g S (Iy l new) zf zf zf)))=zo x->VOk X h n id idP K x (Pi.Ef P X.h idP st sP p):=λF e=>by
   rw[E];have A:0<b.length:=aQ.2 F;simp only[VR]at hs;rcases hs with⟨rfl,rfl⟩|⟨f',k,rfl,hf,C⟩|⟨pid,off,len,k,ex,fz,rfl,hf,C,h2,M,h8,h4⟩
   ·exact into (by rw[<- d.length];omega) e
   ·have:=hf trivial;subst this;obtain⟨i,Y,q,o,G,_⟩:=Bi (fz:=false) r w ((EPL.up C).append d) λ_=>by simp;omega
    refine⟨_,_,_,i,Y,e,?_,o,G⟩;have J:ah (k.length+b.length) 1048576=zt:=by rw[<- C.length,<- d.length];simp_all
    dsimp only;rw[Cr F,Z,J,Ay rfl (EPL.up (hh:=X.h) (Q:=X.Q) C),q];simp
   ·obtain⟨rfl,hend⟩:=hf trivial;obtain⟨i,Y,q,o,G,_⟩:=Bi (fz:=false) r w (h4.append d) λ_=>by simp;omega
    refine⟨_,_,_,i,Y,e,?_,o,G⟩;have hl4:=h4.length;have L:((k.drop off).take len).length=len:=by simp;omega
    have J:ah (len+b.length) 1048576=zt:=by rw[<- L,<- hl4,<- d.length];simp_all
    have U:ah (off+len) k.length=zt:=by simpa using M
    have h7:ah (off+len+b.length) k.length=zf:=by
     cases O:ah (off+len+b.length) k.length with
     |false=>rfl
     |true=>have:=aq O;omega
    grind
  have W:b=[]->K (.val (.lf zt g S l) h)=zo x->VOk X h n id idP K x (Pi.Ef P X.h idP st sP p):=λf e=>by
   rw[E];subst f;have N:=hs;simp only[VR]at hs;rcases hs with⟨rfl,rfl⟩|⟨f',k,rfl,hf,C⟩|⟨pid,off,len,k,ex,fz,rfl,hf,C,h2,M,h8,h4⟩
   ·exact VOk.same r e rfl N
   ·have:=hf trivial;subst this;exact VOk.same r e rfl N
   ·obtain⟨rfl,hend⟩:=hf trivial;have hl4:=h4.length;have L:((k.drop off).take len).length=len:=by simp;omega
    have J:ah (len+([]:List PV).length) 1048576=zt:=by
     rw[<- L,<- hl4];simp only[aI,bg,bQ];omega
    have U:ah (off+len) k.length=zt:=by simpa using M
    refine VOk.same r e ?_ N<;>grind
  rw[<- E];split at e
  ·exact I (PU ha hx) e
  ·replace e:=BN e;rcases e with⟨f,e⟩|⟨f,e⟩
   ·refine W ?_ e;have f:new.length=0:=aj f;rw[d.length]at f
    grind
   ·refine I ?_ e;intro hn;subst hn;have:=d.nil_inv';subst this;cases f
 ·simp only[VR]at hs;obtain⟨f',k,rfl,hf,C⟩:=hs;have:=C.nil_inv;subst this;have:=hf trivial;subst this;replace e:=AJ e;obtain⟨D,e⟩:=e;have z:b.length<=1048576:=by rw[<- d.length];simpa[CI,AR]using D
  by_cases f:b=[]
  ·subst f;have:=d.nil_inv';subst this;obtain⟨Y,q,o⟩:=J9 (fz:=false) (g:=g) (c:=c) r w;exact⟨_,_,_,X.h,Y,e,rfl,q,o⟩
  simp_all[Cr,Pi.Ce]
 ·rename_i j;split at e
  ·rename_i g' S l ex fz lk B;replace e:=BE e;obtain⟨hg,e⟩:=e;simp only[ak,ay]at hg;obtain⟨hg,hlk⟩:=hg;subst hlk;have:=eq_of_beq hg;subst this;replace e:=A7 e;obtain⟨hc,e⟩:=e;subst hc;replace e:=AJ e;obtain⟨D,e⟩:=e;have z:l.length+new.length<=1048576:=by simpa[CI,AR,BG]using D
   simp only[VR]at hs;have O:=r.blk _ _ B;cases y:X.π j with
   |none=>simp_all
   |some t=>
    rw[y]at hs O;have hj:j<1048575:=by have:=r.dom _ _ y;have:=w.big;omega
    rcases BV e with⟨hex,e⟩|⟨hex,e⟩
    ·subst hex
     have I:b≠[]->K (.val (.ow id) (AG h id (.row g S (Iy l new) zf zf zf)))=zo x->VOk X h n id idP K x (Pi.Ef P X.h idP st sP p):=λF e=>by
      rw[E];have A:0<b.length:=aQ.2 F;rcases O with⟨pid,len,k,fz',C,h2,M,h4,J,h7,U⟩|⟨_,C,_⟩|⟨_,_,C,_⟩
      ·cases C;simp only at hs;subst hs;obtain⟨i,Y,q,o,G,_⟩:=Bi (fz:=false) r w (U.append d) λ_=>by simp;omega
       refine⟨_,_,_,i,Y,e,?_,o,G⟩;have k5:ah (len+b.length) 1048576=zt:=by rw[<- J,<- U.length,<- d.length];simpa using z
       have k6:ah (0+len) k.length=zt:=by rw[J];simp
       have k7:ah (0+len+b.length) k.length=zf:=by
        cases O:ah (0+len+b.length) k.length with
        |false=>rfl
        |true=>have:=aq O;omega
       have k8:(k.drop 0).take len=k:=by rw[bN,bM (by omega)]
       simp only[M,Z,k5,k6,Ay rfl U,k7,k8,Cr F,au,bo,zj,zb,q];simp[J]
      all_goals simp_all
     have W:b=[]->K (.val (.ow j) h)=zo x->VOk X h n id idP K x (Pi.Ef P X.h idP st sP p):=λf e=>by
      rw[E];subst f;have N:VR X (.ow j) sP:=by simp only[VR];simp_all
      rcases O with⟨pid,len,k,fz',C,h2,M,h4,J,h7,U⟩|⟨_,C,_⟩|⟨_,_,C,_⟩
      ·cases C;simp only at hs;subst hs
       have k5:ah (len+([]:List PV).length) 1048576=zt:=by
        rw[<- J,<- U.length];simp only[aI,bg,bQ];omega
       have k6:ah (0+len) k.length=zt:=by rw[J];simp
       refine VOk.same r e ?_ N;simp only[M,Z,k5,k6,Ay rfl U,au,bo,zj,zb,cW]
      ·cases C
      ·cases C
     rw[<- E];split at e
     ·exact I (PU ha hx) e
     ·simp only[zb]at e;replace e:=BN e;rcases e with⟨f,e⟩|⟨f,e⟩
      ·refine W ?_ e;have f:new.length=0:=aj f;rw[d.length]at f
       grind
      ·refine I ?_ e;intro hn;subst hn;have:=d.nil_inv';subst this;cases f
    ·subst hex;rcases O with⟨pid,len,k,fz',C,h2,M,h4,J,h7,U⟩|⟨C,_,h2⟩|⟨k,C,_,h2,M⟩
     ·cases C;simp only at hs;subst hs;have A:=h7 rfl;have k5:ah (len+b.length) 1048576=zt:=by rw[<- J,<- U.length,<- d.length];simpa using z
      have k6:ah (0+len) k.length=zt:=by rw[J];simp
      have k9:(aa len k.length&&aa 0 0&&af 0 len)=zt:=by rw[J];simp[A]
      obtain⟨hD,eD⟩:=BI X.h pid .dead
      obtain⟨Y0,z1,z2,z3,z4,z5⟩:=r.set (b':=.dead) hj B trivial rfl y M (by intros;simp) eD (λY hY1 hY2 hY3 _ pid' m' e=>by
       rw[y]at e;cases e
       exact⟨by simp_all,by rw[hY2,(Hp.get_set eD).1,zy rfl]⟩) idP
      have w0:Nw Y0 n id idP:=⟨by rw[z1];exact w.pi,w.lt,w.big,by
       rw[z2,(Hp.get_set eD).1];by_cases hq:idP=pid
       ·subst hq;have:=w.hp;simp_all
       ·rw[zx hq];exact w.hp,by rw[z2,(Hp.get_set eD).2];exact w.hlt⟩
      have hmix:L2 (EP g (DR Y0.h Y0.Q S)) (l++new) (k++b):=(EDR.mono (z5 id).up U).append (EDR.mono (z5 id).up d);obtain⟨i,Y,q,o,G,_⟩:=L0 z4 w0 h4 hmix λ_=>by simp;omega
      refine⟨_,_,_,i,Y,e,?_,⟨o.1,o.2.1,(z5 id).trans o.2.2⟩,G⟩;rw[z2]at q;simp only[M,Z,k5,k6,Ay rfl U,k9,au,bo,zj,zb,eD,q];simp[J]
     ·cases C;simp only at hs;subst hs;subst h2;obtain⟨rd,sd⟩:=r.dead hj B rfl (λ_ _ e=>by rw[y]at e;cases e) idP;by_cases f:b=[]
      ·subst f;have:=d.nil_inv';subst this;obtain⟨Y,q,o⟩:=KV (fz:=fz) (g:=g) (c:=S) rd w;exact⟨_,_,.nils,X.h,Y,e,rfl,⟨q.1,q.2.1,(sd id).trans q.2.2⟩,o⟩
      ·have A:0<b.length:=aQ.2 f;obtain⟨i,Y,q,o,G,_⟩:=Bi (fz:=fz) rd w d λ_=>A;refine⟨_,_,_,i,Y,e,?_,⟨o.1,o.2.1,(sd id).trans o.2.2⟩,G⟩;rw[Cr f,Z,show ah b.length 1048576=zt from by rw[<- d.length];simpa using z,q];rfl
     ·cases C;simp only at hs;subst hs;obtain⟨rd,sd⟩:=r.dead hj B rfl (λ_ _ e=>by rw[y]at e;cases e) idP;by_cases f:b=[]
      ·subst f;have:=d.nil_inv';subst this
       have hx:∃ Y,FW X (AG h j .dead) n id idP (AG (AG h j .dead) id (.row g S l zf fz zf)) X.h Y/\VR Y (.ow id) (.lst zt k):=by
        rcases h2 with rfl|rfl
        ·exact Rx (g:=g) (c:=S) (l:=l) rd w M
        ·rw[M.nil_inv];exact J9 (g:=g) (c:=S) (fz:=fz) rd w
       obtain⟨Y,q,o⟩:=hx;refine⟨_,_,_,X.h,Y,e,rfl,⟨?_,?_,?_⟩,o⟩
       ·exact q.1
       ·have:=q.2.1;rw[show Iy l []=l from aL l];exact this
       ·have:=q.2.2;rw[show Iy l []=l from aL l];exact(sd id).trans this
      ·obtain⟨i,Y,q,o,G,_⟩:=Bi (fz:=fz) rd w ((EPL.up M).append d) λ_=>by simp;have:=aQ.2 f;omega
       refine⟨_,_,_,i,Y,e,?_,⟨o.1,o.2.1,(sd id).trans o.2.2⟩,G⟩;have J:ah (k.length+b.length) 1048576=zt:=by rw[<- M.length,<- d.length];simpa using z
       dsimp only;rw[Cr f,Z,J,Ay rfl (EPL.up (hh:=X.h) (Q:=X.Q) M),q];simp
  ·cases e
 ·rename_i j off len;split at e
  ·rename_i g' S l B;replace e:=AK e;obtain⟨hg,e⟩:=e;have:=eq_of_beq hg;subst this;replace e:=A7 e;obtain⟨hc,e⟩:=e;subst hc;replace e:=AJ e;obtain⟨D,e⟩:=e;replace e:=AJ e;obtain⟨hin,e⟩:=e;have z:len+new.length<=1048576:=by simpa[CI,AR,BG]using D
   have hin':off+len<=l.length:=by simpa[CI,AR,BG]using hin
   have N:=hs;simp only[VR]at hs;obtain⟨pid,m,y,rfl⟩:=hs;have hj:j<1048575:=by have:=r.dom _ _ y;have:=w.big;omega
   obtain⟨k,fz',p3,p4,p5,p7,p6⟩:=r.rowAt y B;have:=p4 rfl;subst this;have hl:=p6.length;have k5:ah (len+b.length) 1048576=zt:=by rw[<- d.length];simpa using z
   have k6:ah (off+len) k.length=zt:=by simp_all
   replace e:=BN e;rcases e with⟨f,e⟩|⟨f,e⟩
   ·have f:new.length=0:=aj f;rw[d.length]at f;have f:=List.eq_nil_of_length_eq_zero f;subst f;refine VOk.same r e ?_ N;simp only[p3,Z,k5,k6,Ay rfl p6,au,bo,zj,zb,cW]
   ·have F:b≠[]:=λhn=>by
     subst hn;have:=d.nil_inv';subst this;cases f
    replace e:=BN e;rcases e with⟨O,e⟩|⟨O,e⟩
    ·have hb':off+len+b.length<=k.length:=by
      rw[<- hl,<- d.length];simpa[CI,BG,AR]using O
     have k7:ah (off+len+b.length) k.length=zt:=by simpa using hb'
     have htk:b.take new.length=b:=by rw[d.length,List.take_length]
     obtain⟨i,eS⟩:=BI X.h pid (.row (Pi.BU k (off+len) b) zt zf)
     obtain⟨Y,q,o,G,y4,y5⟩:=r.set (b':=.row g S (LU l (BG off len) new (AR new)) zt zf zf) hj B trivial rfl y p3 (by intros;simp) eS
      (λY q o G u=>by
       rw[y];refine .inl ⟨pid,m,_,zf,rfl,by rw[G];exact(y ▸ r.blk _ _ B).own trivial,by rw[o,(Hp.get_set eS).1,zy rfl],λ_=>rfl,?_,p7,EDR.mono u ?_⟩
       ·rw[LX hb'];exact p5
       ·have:=Nc p6 d (off+len) new.length
        rw[htk]at this;exact this) idP
     refine⟨_,_,.own pid off (len+b.length),i,Y,e,?_,⟨o,y4,y5 id⟩,by simp only[VR];exact⟨pid,m,by rw[q];exact y,by simp[BG,AR,d.length]⟩⟩;simp only[p3,Z,k5,k6,k7,Ay rfl p6,Cr F,au,bo,zj,zb,eS];rfl
    ·have k7:ah (off+len+b.length) k.length=zf:=by
      cases hq:ah (off+len+b.length) k.length with
      |false=>rfl
      |true=>
       have h7:=aq hq;rw[<- hl,<- d.length]at h7;have:CI (BG (BG off len) (AR new)) (AR l)=zt:=by simpa[CI,BG,AR]using h7
       rw[this]at O;cases O
     have hsub:L2 (EP g (DR X.h X.Q S)) (D6 l off (BG off len)) ((k.drop off).take len):=by
      have:=(p6.drop off).take len
      simp_all[D6,BG]
     have L:((k.drop off).take len).length=len:=by simp;omega
     have A:0<b.length:=aQ.2 F;obtain⟨i,Y,q,o,G,_⟩:=Bi (fz:=false) r w (hsub.append d) λ_=>by simp;omega
     refine⟨_,_,_,i,Y,e,?_,o,G⟩;simp only[p3,Z,k5,k6,k7,Ay rfl p6,Cr F,au,bo,zj,zb,q];simp[L]
  ·cases e
 ·cases e
end
end
section
variable[Pi.Gl]
open Pi (PV T Hp Blk DF UM PE AN AT)
section
variable{X:Cx}{h:H}{n id idP:Nat}{β:Type}{x:β}{P:Program}
theorem Cl{k:Ty}{d:TypeDesc}{e:k.den->k.den->Bool}{a b:k.den}{p q:PV}(h:Eu k d=zt)(g:R4 k=zo e)(c:DP k a [p])(f:DP k b [q]):Pi.KM d p q=zo (e a b):=by
 cases k with
 |int i=>
  cases d<;>simp[Eu]at h;cases g;simp only[DP,List.cons.injEq,and_true]at c f;subst c;subst f;simp[Pi.KM,O3]
 |bool=>
  cases d<;>simp[Eu]at h;cases g;simp only[DP,List.cons.injEq,and_true]at c f;subst c;subst f;simp[Pi.KM,beq]
 |str=>
  cases d<;>simp[Eu]at h;cases g;simp only[DP,List.cons.injEq,and_true]at c f;subst c;subst f;simp[Pi.KM,seq]
 |unit=>cases g
 |pair=>cases g
 |sl=>cases g
theorem EM{k:Ty}{d:TypeDesc}(a:Eu k d=zt):Pi.Cm d=zt:=by
 cases k<;>cases d<;>simp[Eu]at a<;>rfl
variable{k:Ty}{g:Bool}{c:Ty}{d:TypeDesc}{e:k.den->k.den->Bool}
theorem Nl(f:Eu k d=zt)(i:R4 k=zo e){a:k.den}{p:PV}(b:DP k a [p]):∀ {l:List (k.den×c.den)} {es:List (PV×PV)},L2 (MR X k g c) l es ->
  (Mo e l a=zn/\Pi.Hg d es p=zo zn) \/ ∃ y v,Mo e l a=zo y/\Pi.Hg d es p=zo (zo v)/\EP g (DR X.h X.Q c) y v
 |_,_,.nil=>.inl ⟨rfl,rfl⟩
 |(a1,y1)::l,(p1,v1)::es,.cons h t=>by
  have j:=Cl f i b h.1;unfold Mo Pi.Hg;rw[j];cases m:e a a1 with
  |true=>exact .inr ⟨y1,v1,rfl,rfl,h.2⟩
  |false=>simpa using Nl f i b t
theorem Gi(i:Eu k d=zt)(j:R4 k=zo e){a:k.den}{p:PV}(b:DP k a [p]){y:c.den}{v:PV}(f:EP g (DR X.h X.Q c) y v):∀ {l:List (k.den×c.den)} {es:List (PV×PV)},L2 (MR X k g c) l es ->
  ∃ es',Pi.If d es p v=zo es'/\L2 (MR X k g c) (If e l a y) es'
 |_,_,.nil=>⟨[(p,v)],rfl,.cons ⟨b,f⟩ .nil⟩
 |(a1,y1)::l,(p1,v1)::es,.cons h t=>by
  have o:=Cl i j b h.1;unfold If Pi.If;rw[o];cases q:e a a1 with
  |true=>exact⟨_,rfl,.cons ⟨b,f⟩ t⟩
  |false=>
   obtain⟨es',m,n⟩:=Gi i j b f t;exact⟨(p1,v1)::es',by simp[m],.cons h n⟩
theorem Gh(f:Eu k d=zt)(i:R4 k=zo e){a:k.den}{p:PV}(b:DP k a [p]):∀ {l:List (k.den×c.den)} {es:List (PV×PV)},L2 (MR X k g c) l es ->
  ∃ es',Pi.Ie d es p=zo es'/\L2 (MR X k g c) (Ie e l a) es'
 |_,_,.nil=>⟨[],rfl,.nil⟩
 |(a1,y1)::l,(p1,v1)::es,.cons h t=>by
  have n:=Cl f i b h.1;unfold Ie Pi.Ie;rw[n];cases o:e a a1 with
  |true=>exact⟨_,rfl,t⟩
  |false=>
   obtain⟨es',j,m⟩:=Gh f i b t;exact⟨(p1,v1)::es',by simp[j],.cons h m⟩
theorem DP.key{hh:Hp}{Q:Nat->Prop}(b:R4 k=zo e){a:k.den}{c:List PV}(h:DR hh Q k a c):DP k a c:=by
 cases k with
 |int|bool|str=>exact h
 |unit=>cases b
 |pair=>cases b
 |sl=>cases b
end
section
variable{X:Cx}{h:H}{n id idP:Nat}{β:Type}{x:β}{P:Program}
theorem KN(r:RH X h n){ty:TypeId}{m v:V}{B p:PV}{K:(j:Nat)->(k:Ty)->(g:Bool)->(c:Ty)->List (k.den×c.den)->Bool->(k.den->k.den->Bool)->k.den->Option β}
  (A:VR X m B) (L:VR X v p) (e:Pk P ty m v h K=zo x) :
  ∃ j k g c l o f a i s d pid t es,K j k g c l o f a=zo x/\m=.mp j/\h.get j=zo (.mp k g c l o)/\X.π j=zo (.blk pid t)/\B=.mp pid/\X.h.get pid=zo (.mp es)/\L2 (MR X k g c) l es /\
   P.underlying ty=zo (.map i s)/\P.underlying i=zo d/\Eu k d=zt/\R4 k=zo f/\DP k a [p]:=by
 unfold Pk at e;split at e
 ·rename_i i s j J;split at e
  ·rename_i d k g c l o G z;replace e:=AK e;obtain⟨I,e⟩:=e;replace e:=AD e;obtain⟨f,y,e⟩:=e;replace e:=GM (VRL.cons L .nil) e;obtain⟨a,S,O,q,e,u,C,M⟩:=e;split at e
   ·rw[M.nil_inv,aL]at u;simp only[VR]at A;obtain⟨pid,t,b,rfl⟩:=A;have w:=r.blk _ _ z;rw[b]at w;obtain⟨_,_,es,D,N,E,F⟩:=w;cases D;exact⟨j,k,g,c,l,o,f,a,i,s,d,_,t,es,e,rfl,z,b,rfl,E,F,J,G,I,y,DP.key y (u ▸ C)⟩
   ·cases e
  ·cases e
 ·cases e
theorem Mm(r:RH X h n){ty:TypeId}{m k:V}{O p:PV}{o:Bool}{K:V->Option β}(F:VR X m O)(Y:VR X k p)(e:KO P h ty m k o K=zo x) :
  ∃ v q,K v=zo x/\Pi.DK P X.h ty O p o=zo (.val q X.h)/\VR X v q:=by
 unfold KO at e;split at e
 ·simp only[VR]at F;subst F;split at e
  ·rename_i kt S t;split at e
   ·rename_i d z w G;replace e:=AK e;obtain⟨E,e⟩:=e;obtain⟨L,C,u⟩:=GD (X:=X) G;refine⟨_,bif o then .tup [L,.bool zf]else L,e,?_,?_⟩
    ·unfold Pi.DK;simp only[t,Pi.Lc,w,E,au,zj,Pi.Hg,C];rfl
    ·cases o
     ·exact u
     ·simp only[zb,VR];exact⟨_,rfl,.cons u (.cons (by simp[VR]) .nil)⟩
   ·cases e
  ·cases e
 ·rename_i Z;replace e:=KN r F Y e;obtain⟨j,kk,g,c,l,lk,f,a,kt,S,d,pid,m',es,e,rfl,hg,hpi,rfl,M,U,t,w,i,W,D⟩:=e;simp only[t]at e;replace e:=AD e;obtain⟨z,G,e⟩:=e;obtain⟨L,C,u⟩:=GD (X:=X) G;replace e:=Em u e;obtain⟨y,e,hy⟩:=e
  have s:∀ {B:c.den} {A:PV} {b:Bool},EP g (DR X.h X.Q c) B A->VR X (bif o then V.tup [OM g c B,.bool b]else OM g c B) (bif o then PV.tup [A,.bool b]else A):=by
   intro B A b N;cases o
   ·exact Fw N
   ·simp only[zb,VR];exact⟨_,rfl,.cons (Fw N) (.cons (by simp[VR]) .nil)⟩
  rcases Nl (d:=d) i W D U with⟨I,J⟩|⟨y',v',I,J,m3⟩
  ·refine⟨_,_,e,?_,by rw[I];exact s hy⟩;unfold Pi.DK;simp only[t,Pi.Lc,M,w,EM i,au,zj,J,C];rfl
  ·refine⟨_,_,e,?_,by rw[I];exact s m3⟩;unfold Pi.DK;simp only[t,Pi.Lc,M,w,EM i,au,zj,J];rfl
theorem RH.mapSet(r:RH X h n)(D:n<=1048575){j pid m:Nat}{k:Ty}{g:Bool}{c:Ty}{l l':List (k.den×c.den)}{es es':List (PV×PV)}(s:h.get j=zo (.mp k g c l zf))(b:X.π j=zo (.blk pid m))(y:X.h.get pid=zo (.mp es))(A:L2 (MR X k g c) l' es') :
  ∃ a Y,X.h.set pid (.mp es')=zo a /\ ∀ i d,FW X h n i d (AG h j (.mp k g c l' zf)) a Y:=by
 obtain⟨a,e⟩:=BI X.h pid (.mp es');have z:j<1048575:=by have:=r.dom _ _ b;omega
 have key:∀ d,∃ Y:Cx,Y.π=X.π/\Y.h=a/\Y.O=X.O/\RH Y (AG h j (.mp k g c l' zf)) n /\ ∀ i,St X h i d Y (AG h j (.mp k g c l' zf)):=λd=>
  r.set (b':=.mp k g c l' zf) z s trivial rfl b y (by intros;simp) e (λY p f o u=>by
   rw[b]
   exact⟨pid,m,es',rfl,by rw[o];exact(b ▸ r.blk _ _ s).own trivial,by rw[f,(Hp.get_set e).1,zy rfl],A.mono λ_ _ m=>⟨m.1,m.2.mono λ_ _ k=>DR.mono u.rows k⟩⟩) d
 obtain⟨Y,p,f,o,B,E⟩:=key 0;refine⟨a,Y,e,λi d=>⟨f,B,?_⟩⟩;obtain⟨q,t,w,x,F,C⟩:=key d
 have:q=Y:=by
  cases Y;cases q;simp only at p f o t w x;subst p;subst f;subst o;subst t;subst w;subst x;rfl
 subst this;exact C i
theorem Fh(r:RH X h n)(F:n<=1048575){ty:TypeId}{m k v:V}{w p q:PV}{K:H->Option β}(E:VR X m w)(D:VR X k p)(I:VR X v q)(id idP:Nat)(e:ET P h ty m k v K=zo x) :
  ∃ h' b Y,K h'=zo x/\Pi.CG P X.h ty w p q=zo (.skip b)/\FW X h n id idP h' b Y:=by
 unfold ET at e;replace e:=KN r E D e;obtain⟨j,S,g,c,l,W,f,a,U,O,d,pid,Z,es,e,rfl,C,t,rfl,u,z,G,A,i,B,o⟩:=e;replace e:=BE e;obtain⟨s,e⟩:=e;subst s;replace e:=Em I e;obtain⟨y,e,J⟩:=e;obtain⟨es',L,M⟩:=Gi (d:=d) i B o J z;obtain⟨b,Y,e1,N⟩:=r.mapSet F C t u M;refine⟨_,b,Y,e,?_,N id idP⟩;unfold Pi.CG;simp only[G,A,EM i,au,zj,u,L,e1];rfl
theorem IN{f:Int->Int->Int}{F:Int->Int->Int}(g:∀ a b,f a b=F a b){k:IntKind}:∀ {m:Int} {vs:List V} {j:List PV} {K:Int->Option β},VRL X vs j->JO f k m vs K=zo x -> ∃ r,K r=zo x/\Pi.B8 F m j k=zo r
 |m,[],_,K,h,e=>by rw[h.nil_inv];exact⟨m,e,rfl⟩
 |m,v::vs,_,K,h,e=>by
  obtain⟨p,q,rfl,d,l⟩:=h.cons_inv;cases v with
  |int n y=>
   unfold JO at e;replace e:=AK e;obtain⟨i,e⟩:=e;simp only[VR]at d;subst d;obtain⟨r,e1,o⟩:=IN g l e;refine⟨r,e1,?_⟩;have c:(n == k)=zt:=by rw[beq_iff_eq]at i ⊢;exact i.symm
   unfold Pi.B8;rw[c,<- g];exact o
  |_=>simp[JO]at e
theorem K4(r:RH X h n)(w:Nw X n id idP){b:Builtin}{D:Array TypeId}{args:List V}{ps:List PV}{K:RA->Option β}(S:VRL X args ps)(e:IB P h id b D args K=zo x) :
  VOk X h n id idP K x (Pi.AH P X.h idP b D ps)\/(∃ v p,K (.pan v)=zo x/\Pi.AH P X.h idP b D ps=zo (.pan p)/\VR X v p)\/(K .rcv=zo x/\Pi.AH P X.h idP b D ps=zo .rcv):=by
 unfold IB at e;split at e
 ·
  split at e
  ·rename_i a t I;obtain⟨p,N,rfl,o,B⟩:=S.cons_inv;rw[B.nil_inv];obtain⟨m,e1,e2⟩:=Q8 r I o e idP;exact .inl (.same r e1 e2 (by simp[VR]))
  ·cases e
 ·
  split at e
  ·rename_i a t I;obtain⟨p,N,rfl,o,B⟩:=S.cons_inv;rw[B.nil_inv];split at e
   ·rename_i et j J;split at e
    ·rename_i g c l fz lk C;simp only[VR]at o;cases i:X.π j with
     |none=>rw[i]at o;exact o.elim
     |some tt=>
      rw[i]at o;have O:=r.blk _ _ C;rw[i]at O;rcases O with⟨pid,len,es,fz',L,k2,U,k4,k5,k7,M⟩|⟨_,L,_⟩|⟨_,_,L,_⟩
      ·cases L;simp only at o;subst o;refine .inl (.same r e (p:=.int .i64 (es.length-0:Nat)) ?_ (by simp[VR,Kx,AR,M.length]));unfold Pi.AH;simp only[I,J,U]
      ·cases L
      ·cases L
    ·cases e
   ·rename_i et j off len J;split at e
    ·rename_i g c l fz lk C;simp only[VR]at o;obtain⟨pid,m,i,rfl⟩:=o;obtain⟨es,fz',h3,_,h5,_,h6⟩:=r.rowAt i C;refine .inl (.same r e (p:=.int .i64 (es.length-off:Nat)) ?_ (by simp[VR,Kx,P2,AR,h6.length]));unfold Pi.AH;simp only[I,J,h3]
    ·cases e
   ·rename_i J;simp only[VR]at o;subst o;refine .inl (.same r e (p:=.int .i64 0) ?_ (by simp[VR]));unfold Pi.AH;simp only[I,J]
   ·cases e
  ·cases e
 ·
  split at e
  ·rename_i s a t t' hts;replace e:=AK e;obtain⟨O,e⟩:=e;obtain⟨p,N,rfl,o,B⟩:=S.cons_inv;obtain⟨q,N,rfl,h3,W⟩:=B.cons_inv;rw[W.nil_inv];have:=Qn r w o h3 e;refine .inl ?_
   have hp:Pi.AH P X.h idP .append D [p,q]=Pi.Ef P X.h idP t p q:=by
    unfold Pi.AH;simp only[hts,O,zb]
   rw[hp];exact this
  ·cases e
 ·
  split at e
  ·rename_i dst a t I;obtain⟨p,N,rfl,o,B⟩:=S.cons_inv;obtain⟨q,N,rfl,h3,W⟩:=B.cons_inv;rw[W.nil_inv];replace e:=AD e;obtain⟨⟨g,c⟩,hel,e⟩:=e;replace e:=BE e;obtain⟨A,e⟩:=e;replace e:=JH r h3 e;obtain⟨new,Z,e,hx,G⟩:=e;have A:JG P t c=zt:=by simpa using A
   have go:∀ {j pid m off len:Nat} {l:List c.den} {ex:Bool} {es:List PV},h.get j=zo (.row g c l ex zf zf)->X.π j=zo (.blk pid m)->X.h.get pid=zo (.row es ex zf)->es.length=m->(ex=zf->0<m)->L2 (EP g (DR X.h X.Q c)) l es->off+len<=es.length ->
     K (.val (.int .i64 (Kx (RJ (AR new) len))) (AG h j (.row g c (LU l off new len) ex zf zf)))=zo x->VOk X h n id idP K x (Pi.AH P X.h idP .copy D [.own pid off len,q]):=by
    intro j pid m off len l ex es C i U k5 k9 M hle e;obtain⟨E,eS⟩:=BI X.h pid (.row (Pi.BU es off (Z.take len)) ex zf);have hj:j<1048575:=by have:=r.dom _ _ i;have:=w.big;omega
    obtain⟨Y,y1,y2,y3,y4,y5⟩:=r.set (b':=.row g c (LU l off new len) ex zf zf) hj C trivial rfl i U (by intros;simp) eS
     (λY y1 y2 y3 u=>by
      rw[i];refine .inl ⟨pid,m,_,zf,rfl,by rw[y3];exact(i ▸ r.blk _ _ C).own trivial,by rw[y2,(Hp.get_set eS).1,zy rfl],λ_=>rfl,?_,k9,EDR.mono u (Nc M G off len)⟩
      rw[LX (by simp;omega)];exact k5) idP
    refine⟨_,_,.int .i64 (Nat.min Z.length len:Nat),E,Y,e,?_,⟨y2,y4,y5 id⟩,by simp[VR,Kx,RJ,AR,G.length]⟩;unfold JG at A;split at A
    ·rename_i et J;split at A
     ·rename_i ti z hti hz;simp only[ac,bI]at A;obtain⟨⟨⟨g1,g2⟩,g3⟩,g4⟩:=A;have htz:Pi.AU P et=zo ti.size:=by unfold Pi.AU;rw[hti];rfl
      unfold Pi.AH;simp only[I,J,U,hx,htz];rw[O8 g1 G,show ah (off+len) es.length=zt from by simpa using hle,g4,Ay g1 M];simp[eS]
     ·cases A
    ·cases A
   refine .inl ?_;split at e
   ·rename_i j;split at e
    ·rename_i g' c' l C;replace e:=AK e;obtain⟨hgg,e⟩:=e;have:=eq_of_beq hgg;subst this;replace e:=A7 e;obtain⟨hc,e⟩:=e;subst hc;simp only[VR]at o;cases i:X.π j with
     |none=>rw[i]at o;exact o.elim
     |some tt=>
      rw[i]at o;have O:=r.blk _ _ C;rw[i]at O;rcases O with⟨pid,len,es,fz',L,k2,U,k4,k5,k7,M⟩|⟨_,L,_⟩|⟨_,_,L,_⟩
      ·cases L;simp only at o;subst o;have:=k4 rfl;subst this;have hl:AR l=len:=by rw[<- k5,<- M.length];rfl
       rw[hl]at e;exact go C i U k5 k7 M (by omega) e
      ·cases L
      ·cases L
    ·cases e
   ·rename_i j off len;split at e
    ·rename_i g' c' l ex C;replace e:=AK e;obtain⟨hgg,e⟩:=e;have:=eq_of_beq hgg;subst this;replace e:=A7 e;obtain⟨hc,e⟩:=e;subst hc;replace e:=AJ e;obtain⟨hle,e⟩:=e;simp only[VR]at o;obtain⟨pid,m,i,rfl⟩:=o;obtain⟨es,fz',U,k4,k5,k7,M⟩:=r.rowAt i C;have:=k4 rfl;subst this;exact go C i U k5 k7 M (by rw[<- M.length];simpa[CI,BG,AR]using hle) e
    ·cases e
   ·cases e
  ·cases e
 ·
  split at e
  ·rename_i j t I;obtain⟨p,N,rfl,o,B⟩:=S.cons_inv;rw[B.nil_inv];split at e
   ·rename_i kt et kk g c l J C;simp only[VR]at o;obtain⟨pid,m,i,rfl⟩:=o;have O:=r.blk _ _ C;rw[i]at O;obtain⟨_,_,es,k2,U,k4,M⟩:=O;cases k2;obtain⟨E,Y,e1,y1⟩:=r.mapSet w.big C i k4 (l':=[]) (es':=[]) .nil;refine .inl ⟨_,_,.tup [],E,Y,e,?_,y1 id idP,by simp[VR,VRL]⟩;unfold Pi.AH;simp only[I,J,k4,e1];rfl
   ·cases e
  ·cases e
 ·
  split at e
  ·rename_i m v t I;obtain⟨p,N,rfl,o,B⟩:=S.cons_inv;obtain⟨q,N,rfl,h3,W⟩:=B.cons_inv;rw[W.nil_inv];replace e:=KN r o h3 e;obtain⟨j,kk,g,c,l,lk,f,a,kt,et,d,pid,m',es,e,rfl,C,i,rfl,W,h6,J,hd,hko,hf,hdp⟩:=e;replace e:=BE e;obtain⟨hlk,e⟩:=e;subst hlk;obtain⟨es',p1,p2⟩:=Gh (d:=d) hko hf hdp h6;obtain⟨E,Y,e1,y1⟩:=r.mapSet w.big C i W p2;refine .inl ⟨_,_,.tup [],E,Y,e,?_,y1 id idP,by simp[VR,VRL]⟩;unfold Pi.AH;simp only[I,J,W,hd,EM hko,au,zj,p1,e1];rfl
  ·cases e
 ·
  split at e
  ·rename_i k a vs;obtain⟨p,N,rfl,o,B⟩:=S.cons_inv;simp only[VR]at o;subst o;obtain⟨rr,e1,e2⟩:=IN (F:=λm y=>if y>m then y else m) (λa b=>rfl) B e
   refine .inl (.same r e1 (p:=.int k rr) ?_ (by simp[VR]));unfold Pi.AH;simp only[e2];rfl
  ·cases e
 ·
  split at e
  ·rename_i k a vs;obtain⟨p,N,rfl,o,B⟩:=S.cons_inv;simp only[VR]at o;subst o;obtain⟨rr,e1,e2⟩:=IN (F:=λm y=>if y<m then y else m) (λa b=>rfl) B e
   refine .inl (.same r e1 (p:=.int k rr) ?_ (by simp[VR]));unfold Pi.AH;simp only[e2];rfl
  ·cases e
 ·
  split at e
  ·rename_i t v;obtain⟨p,N,rfl,o,B⟩:=S.cons_inv;rw[B.nil_inv];simp only[VR]at o;obtain⟨q,rfl,o⟩:=o;exact .inr (.inl ⟨_,_,e,rfl,by simp only[VR];exact⟨q,rfl,o⟩⟩)
  ·cases e
 ·exact .inr (.inr ⟨e,rfl⟩)
 ·cases e
end
end
section
variable[Pi.Gl]
open Pi (PV T Hp Blk DF UM PE AN AT AB AV Ao)
section
variable{X:Cx}{h:H}{n id idP:Nat}{β:Type}{x:β}{P:Program}
theorem Dm{f:PV->Option (PV×List Nat)}:∀ {a b e g:List PV} {c d:List Nat},AB f a=zo (e,c)->AB f b=zo (g,d)->AB f (a++b)=zo (e++g,c++d)
 |[],b,e,g,c,d,h1,h2=>by cases h1;exact h2
 |p::a,b,e,g,c,d,h1,h2=>by
  simp only[AB]at h1;split at h1
  ·rename_i q l h m e1 e2;cases h1;have:=Dm e2 h2
   show(match f p,AB f (a++b)with
    |some (q,a),zo (h,b)=>zo (q::h,a++b)
    |_,_=>zn)=_
   rw[e1,this];simp
  ·cases h1
theorem BY{f:PV->Option (PV×List Nat)}{p q:PV}{l:List Nat}(h:f p=zo (q,l)):AB f [p]=zo ([q],l):=by simp[AB,h]
def Met(h:Hp)(Q:Nat->Prop)(l:List Nat):Prop:=∀ i∈l,Q i /\ ∃ es ex fz,h.get i=zo (.row es ex fz)
theorem Met.nil{h:Hp}{Q:Nat->Prop}:Met h Q []:=λ_ hi=>by cases hi
theorem Met.append{h:Hp}{Q:Nat->Prop}{a b:List Nat}(c:Met h Q a)(d:Met h Q b):Met h Q (a++b):=λi hi=>(an.1 hi).elim (c i) (d i)
theorem Met.mono{h:Hp}{Q b:Nat->Prop}{a:List Nat}(f:∀ i,Q i->b i)(c:Met h Q a):Met h b a:=λi hi=>⟨f _ (c i hi).1,(c i hi).2⟩
theorem Lt{hh:Hp}{Q:Nat->Prop}{g:Bool}{c:Ty}{d:Nat}(n:∀ {y:c.den} {o:List PV},DR hh Q c y o -> ∀ i,2*c.depth+1<=i -> ∃ f a,AB (AV hh i) o=zo (f,a)/\DP c y f/\Met hh Q a)(r:2*c.depth+2<=d)
  {y:c.den} {e:PV} (h:EP g (DR hh Q c) y e):∃ q a,AV hh d e=zo (q,a)/\EP g (DP c) y q/\Met hh Q a:=by
 cases g with
 |true=>
  obtain⟨cs,rfl,h⟩:=h;obtain⟨d,rfl⟩:∃ i,d=i+1:=⟨d-1,by omega⟩;obtain⟨f,a,b,j,k⟩:=n h d (by omega);exact⟨.agg f,a,by simp only[AV,b];rfl,⟨f,rfl,j⟩,k⟩
 |false=>
  obtain⟨f,a,b,j,k⟩:=n (show DR hh Q c y [e]from h) d (by omega);simp only[AB]at b;split at b
  ·rename_i q l p m e1 e2;cases e2;cases b;exact⟨q,l,e1,j,by simpa using k⟩
  ·cases b
theorem Jb{α:Type}{hh:Hp}{Q:Nat->Prop}{R S:α->PV->Prop}{d:Nat}(f:∀ y e,R y e -> ∃ q c,AV hh d e=zo (q,c)/\S y q/\Met hh Q c) :
  ∀ {l:List α} {es:List PV},L2 R l es -> ∃ g c,AB (AV hh d) es=zo (g,c)/\L2 S l g/\Met hh Q c
 |_,_,.nil=>⟨[],[],rfl,.nil,.nil⟩
 |_,_,.cons h t=>by
  obtain⟨q,a,i,j,k⟩:=f _ _ h;obtain⟨g,b,m,n,o⟩:=Jb f t;exact⟨q::g,a++b,by simp[AB,i,m],.cons j n,k.append o⟩
theorem E0:∀ {hh:Hp} {Q:Nat->Prop} {c:Ty} {y:c.den} {m:List PV},DR hh Q c y m -> ∀ d,2*c.depth+1<=d -> ∃ o l,AB (AV hh d) m=zo (o,l)/\DP c y o/\Met hh Q l
 |hh,Q,.int k,y,m,e,d,hd=>by
  obtain⟨d,rfl⟩:∃ j,d=j+1:=⟨d-1,by omega⟩;subst e;exact⟨[_],[],BY rfl,rfl,.nil⟩
 |hh,Q,.bool,y,m,e,d,hd=>by
  obtain⟨d,rfl⟩:∃ j,d=j+1:=⟨d-1,by omega⟩;subst e;exact⟨[_],[],BY rfl,rfl,.nil⟩
 |hh,Q,.str,y,m,e,d,hd=>by
  obtain⟨d,rfl⟩:∃ j,d=j+1:=⟨d-1,by omega⟩;subst e;exact⟨[_],[],BY rfl,rfl,.nil⟩
 |hh,Q,.unit,y,m,e,d,hd=>by subst e;exact⟨[],[],rfl,rfl,.nil⟩
 |hh,Q,.pair a b,y,m,⟨p,q,e,C,n⟩,d,hd=>by
  subst e;have t:(Ty.pair a b).depth=cp a.depth b.depth:=rfl;rw[t]at hd;have G:=dg a.depth b.depth;have I:=dc a.depth b.depth;obtain⟨A,J,u,w,x⟩:=E0 C d (by have:a.depth<=cp a.depth b.depth:=G;omega);obtain⟨B,K,L,M,N⟩:=E0 n d (by have:b.depth<=cp a.depth b.depth:=I;omega);exact⟨A++B,J++K,Dm u L,⟨A,B,rfl,w,M⟩,x.append N⟩
 |hh,Q,.sl g c,y,m,⟨p,e,h⟩,d,hd=>by
  subst e;have t:(Ty.sl g c).depth=c.depth+1:=rfl;rw[t]at hd;obtain⟨d,rfl⟩:∃ j,d=j+1:=⟨d-1,by omega⟩;rcases h with⟨rfl,rfl⟩|⟨f,es,rfl,n⟩|⟨pid,off,len,es,ex,fz,rfl,n,z,D,O,E⟩
  ·exact⟨[.nils],[],BY rfl,⟨_,rfl,.inl ⟨rfl,rfl⟩⟩,.nil⟩
  ·exact⟨[.lst f es],[],BY rfl,⟨_,rfl,.inr ⟨f,es,rfl,n⟩⟩,.nil⟩
  ·obtain⟨o,l,u,w,x⟩:=Jb (λy e F=>Lt (d:=d) (λs j r=>E0 s j r) (by omega) F) E;refine⟨[.lst zf o],pid::l,BY ?_,⟨_,rfl,.inr ⟨zf,o,rfl,w⟩⟩,λi hi=> ?_⟩
   ·simp only[AV,z];rw[show ah (off+len) es.length=zt from by simpa using D];simp only[zb,u];rfl
   ·rcases ai.1 hi with rfl|hi
    ·exact⟨n,es,ex,fz,z⟩
    ·exact x i hi
theorem Ns:∀ {hh:Hp} {Q l:Nat->Prop} {c:Ty} {y:c.den} {m:List PV},DX hh Q l c y m->(∀ i,l i->Q i) -> ∀ d,2*c.depth+1<=d -> ∃ o j,AB (AV hh d) m=zo (o,j)/\DP c y o/\Met hh Q j
 |hh,Q,l,.int k,y,m,e,f,d,hd=>E0 (c:=.int k) e d hd
 |hh,Q,l,.bool,y,m,e,f,d,hd=>E0 (c:=.bool) e d hd
 |hh,Q,l,.str,y,m,e,f,d,hd=>E0 (c:=.str) e d hd
 |hh,Q,l,.unit,y,m,e,f,d,hd=>E0 (c:=.unit) e d hd
 |hh,Q,l,.pair a b,y,m,⟨p,q,e,D,n⟩,f,d,hd=>by
  subst e;have u:(Ty.pair a b).depth=cp a.depth b.depth:=rfl;rw[u]at hd;have I:=dg a.depth b.depth;have J:=dc a.depth b.depth;obtain⟨B,K,w,x,z⟩:=Ns D f d (by have:a.depth<=cp a.depth b.depth:=I;omega);obtain⟨C,L,M,N,O⟩:=Ns n f d (by have:b.depth<=cp a.depth b.depth:=J;omega);exact⟨B++C,K++L,Dm w M,⟨B,C,rfl,x,N⟩,z.append O⟩
 |hh,Q,l,.sl g c,y,m,⟨p,e,h⟩,f,d,hd=>by
  subst e;have u:(Ty.sl g c).depth=c.depth+1:=rfl;rw[u]at hd;obtain⟨d,rfl⟩:∃ r,d=r+1:=⟨d-1,by omega⟩;rcases h with⟨rfl,rfl⟩|⟨f,es,rfl,n⟩|⟨pid,off,len,es,ex,fz,rfl,n,A,E,P,F⟩
  ·exact⟨[.nils],[],BY rfl,⟨_,rfl,.inl ⟨rfl,rfl⟩⟩,.nil⟩
  ·exact⟨[.lst f es],[],BY rfl,⟨_,rfl,.inr ⟨f,es,rfl,n⟩⟩,.nil⟩
  ·obtain⟨o,j,w,x,z⟩:=Jb (λy e G=>Lt (d:=d) (λt r s=>E0 t r s) (by omega) G) F;refine⟨[.lst zf o],pid::j,BY ?_,⟨_,rfl,.inr ⟨zf,o,rfl,x⟩⟩,λi hi=> ?_⟩
   ·simp only[AV,A];rw[show ah (off+len) es.length=zt from by simpa using E];simp only[zb,w];rfl
   ·rcases ai.1 hi with rfl|hi
    ·exact⟨n,es,ex,fz,A⟩
    ·exact(z.mono f) i hi
theorem QG{hh:Hp}{Q j:Nat->Prop}{g:Bool}{c:Ty}{y:c.den}{e:PV}(f:∀ i,j i->Q i)(h:EP g (DX hh Q j c) y e){d:Nat}(s:2*c.depth+2<=d) :
  ∃ q a,AV hh d e=zo (q,a)/\EP g (DP c) y q/\Met hh Q a:=by
 cases g with
 |true=>
  obtain⟨cs,rfl,h⟩:=h;obtain⟨d,rfl⟩:∃ p,d=p+1:=⟨d-1,by omega⟩;obtain⟨o,a,b,k,n⟩:=Ns h f d (by omega);exact⟨.agg o,a,by simp only[AV,b];rfl,⟨o,rfl,k⟩,n⟩
 |false=>
  obtain⟨o,a,b,k,n⟩:=Ns (show DX hh Q j c y [e]from h) f d (by omega);simp only[AB]at b;split at b
  ·rename_i q l r m e1 e2;cases e2;cases b;exact⟨q,l,e1,k,by simpa using n⟩
  ·cases b
theorem BQ:∀ {l:List Nat} {hh:Hp} {Q:Nat->Prop},Met hh Q l -> ∃ h',Pi.freeze hh l=zo h'/\h'.nx=hh.nx /\ ∀ q,h'.get q=if q∈l then(match hh.get q with
  |some (.row es ex _)=>zo (.row es ex zt)
  |b=>b)else hh.get q
 |[],hh,Q,m=>⟨hh,rfl,rfl,λq=>by simp⟩
 |i::l,hh,Q,m=>by
  obtain⟨_,es,ex,fz,hi⟩:=m i (by simp);obtain⟨k,e1⟩:=BI hh i (.row es ex zt);have g:=(Hp.get_set e1).1
  have p:Met k Q l:=λj n=>by
   obtain⟨o,es',d,e,f⟩:=m j (by simp[n]);refine⟨o,?_⟩;rw[g];by_cases a:j=i
   ·subst a;rw[zy rfl];exact⟨es,ex,zt,rfl⟩
   ·rw[zx a];exact⟨es',d,e,f⟩
  obtain⟨h',e2,e3,h⟩:=BQ p;refine⟨h',by simp only[Pi.freeze,hi,e1];exact e2,by rw[e3];exact(Hp.get_set e1).2,λq=> ?_⟩;rw[h,g];by_cases c:q=i
  ·subst c;simp only[if_true,ai,true_or,hi];split<;>rfl
  ·simp only[c,if_false,ai,false_or]
theorem Es:∀ {l:List Nat} {h h':H},(∀ i∈l,i<1048575)->B9 h l=zo h'->(∀ i∈l,∃ g c y ex fz t,h.get i=zo (.row g c y ex fz t))/\(∀ i b',h'.get i=zo b'->h.get i=zo b' \/ ∃ g c y ex fz t,i∈l/\h.get i=zo (.row g c y ex fz t)/\b'=.row g c y ex zt zf) /\
  (∀ i∈l,∀ g c y ex fz t,h'.get i=zo (.row g c y ex fz t)->fz=zt) /\ ∀ i b,h.get i=zo b->b.locked=zt->h'.get i=zo b
 |[],h,h',s,e=>by cases e;exact⟨λi hi=>by simp at hi,λi b' s=>.inl s,λi hi=>by simp at hi,λi b hi _=>hi⟩
 |j::l,h,h',s,e=>by
  unfold B9 at e;split at e
  ·rename_i g c y ex fz t r;replace e:=BV e;rcases e with⟨J,e⟩|⟨J,e⟩
   ·subst J;obtain⟨E,z,F,G⟩:=Es (λi hi=>s i (by simp[hi])) e;refine⟨λi hi=> ?_,λi b' q=> ?_,λi hi M L N B C I m=> ?_,G⟩
    ·rcases ai.1 hi with rfl|hi
     ·exact⟨_,_,_,_,_,_,r⟩
     ·exact E i hi
    ·rcases z i b' q with a|⟨w,u,A,f,k,n,a,o,p⟩
     ·exact .inl a
     ·exact .inr ⟨w,u,A,f,k,n,by simp[a],o,p⟩
    ·rcases ai.1 hi with rfl|hi
     ·rcases z _ _ m with a|⟨w,u,A,f,k,n,a,o,p⟩
      ·rw[r]at a;cases a;rfl
      ·cases p;rfl
     ·exact F i hi _ _ _ _ _ _ m
   ·replace e:=BE e;obtain⟨D,e⟩:=e;subst D;have x:=s j (by simp);obtain⟨E,z,F,G⟩:=Es (λi hi=>s i (by simp[hi])) e;refine⟨λi hi=> ?_,λi b' q=> ?_,λi hi M L N B C I m=> ?_,λi b hi K=> ?_⟩
    ·rcases ai.1 hi with rfl|hi
     ·exact⟨_,_,_,_,_,_,r⟩
     ·by_cases d:i=j
      ·subst d;exact⟨_,_,_,_,_,_,r⟩
      ·have:=E i hi;rw[AI x,zx d]at this;exact this
    ·rcases z i b' q with a|⟨w,u,A,f,k,n,a,o,p⟩
     ·rw[AI x]at a;by_cases d:i=j
      ·subst d;rw[zy rfl]at a;cases a;exact .inr ⟨g,c,y,ex,fz,zf,by simp,r,rfl⟩
      ·rw[zx d]at a;exact .inl a
     ·rw[AI x]at o;by_cases d:i=j
      ·subst d;rw[zy rfl]at o;cases o;exact .inr ⟨g,c,y,ex,fz,zf,by simp,r,p⟩
      ·rw[zx d]at o;exact .inr ⟨w,u,A,f,k,n,by simp[a],o,p⟩
    ·rcases ai.1 hi with rfl|hi
     ·rcases z _ _ m with a|⟨w,u,A,f,k,n,a,o,p⟩
      ·rw[AI x,zy rfl]at a;cases a;rfl
      ·cases p;rfl
     ·exact F i hi _ _ _ _ _ _ m
    ·refine G i b ?_ K;rw[AI x,zx]
     ·exact hi
     ·intro hh;subst hh;rw[r]at hi;cases hi;cases K
  ·cases e
theorem RH.frozen(r:RH X h n)(hn:n<=1048575){l lP:List Nat}{h':H}{j:Hp}(hl:∀ i∈l,∃ a,X.π i=zo a)(e:B9 h l=zo h')(E:j.nx=X.h.nx)(U:∀ q,j.get q=if q∈lP then(match X.h.get q with
  |some (.row es ex _)=>zo (.row es ex zt)
  |b=>b)else X.h.get q) (hm:∀ q∈lP,X.O q -> ∃ i∈l,∃ m,X.π i=zo (.blk q m)) (id idP:Nat) :
  ∃ Y:Cx,Y.π=X.π/\Y.O=X.O/\FW X h n id idP h' j Y:=by
 have hb:∀ i∈l,i<1048575:=λi hi=>by obtain⟨a,ha⟩:=hl i hi;have:=r.dom _ _ ha;omega
 obtain⟨k1,k2,k3,k4⟩:=Es hb e
 let Y:Cx:={ π:=X.π,h:=j,O:=X.O }
 have p:∀ q es ex fz,X.h.get q=zo (.row es ex fz) -> ∃ s,j.get q=zo (.row es ex s)/\(q ∉ lP->s=fz):=λq es ex fz x=>by
  rw[U];by_cases hi:q∈lP
  ·rw[zy hi,x];exact⟨zt,rfl,λh=>absurd hi h⟩
  ·rw[zx hi];exact⟨fz,x,λ_=>rfl⟩
 have f:∀ q,(∀ es ex fz,X.h.get q≠zo (.row es ex fz))->j.get q=X.h.get q:=λq x=>by
  rw[U];split
  ·split
   ·rename_i es ex fz he;exact absurd he (x _ _ _)
   ·rfl
  ·rfl
 have u:Up X Y:=⟨λ_ _ h=>h,λq es ex fz x hg=>⟨by obtain⟨s,B,_⟩:=p _ _ _ _ hg;exact⟨s,B⟩,x⟩⟩
 have live:∀ {i:Nat} {b':BA},h'.get i=zo b'->b'.live -> ∃ b,h.get i=zo b/\b.live:=λhi hv=>by
  rcases k2 _ _ hi with B|⟨g1,c1,y1,W,Z,lk1,B,I,h3⟩
  ·exact⟨_,B,hv⟩
  ·exact⟨_,I,trivial⟩
 refine⟨Y,rfl,rfl,rfl,⟨λi b' hi=> ?_,λi i' b b' q m1 m2 hi C l1 l2 a1 a2=> ?_,r.dom,λq x=> ?_,λq x=>by
  show j.get q≠zn;rw[U];have:=r.ob _ x;split
  ·split<;>simp_all
  ·exact this⟩,⟨u,E,λ_ _ h=>h,λq x L=> ?_,k4,λq st pe nt t ps P G d x=> ?_⟩⟩
 ·
  rcases k2 _ _ hi with B|⟨g1,c1,y1,W,Z,lk1,B,I,h3⟩
  ·have hB:=r.blk _ _ B;cases b' with
   |row g c y ex fz lk=>
    rcases hB with⟨pid,len,es,s,z,w,o,A,F,p7,N⟩|hB|hB
    ·obtain⟨D,q1,q2⟩:=p _ _ _ _ o;refine .inl ⟨pid,len,es,D,z,w,q1,λJ=> ?_,F,p7,EDR.mono u N⟩;by_cases K:pid∈lP
     ·obtain⟨i',C,m,M⟩:=hm _ K w;obtain⟨g2,c2,y2,ex2,fz3,lk2,h4⟩:=k1 _ C;have:=r.inj _ _ _ _ _ _ _ B h4 trivial trivial z M;subst this;have:=k3 _ C _ _ _ _ _ _ hi;rw[this]at J;cases J
     ·rw[q2 K];exact A J
    ·exact .inr (.inl hB)
    ·exact .inr (.inr hB)
   |box cs fz lk=>
    obtain⟨pid,m,ps,s,z,w,o,A,F⟩:=hB;exact⟨pid,m,ps,s,z,w,by show j.get pid=_;rw[f _ (by rw[o];intros;simp),o],A,F.mono u⟩
   |mp k g c y lk=>
    obtain⟨pid,m,es,z,w,o,A⟩:=hB;exact⟨pid,m,es,z,w,by show j.get pid=_;rw[f _ (by rw[o];intros;simp),o],A.mono λ_ _ m=>⟨m.1,m.2.mono λ_ _ k=>DR.mono u.rows k⟩⟩
   |lp st pend nt t ps P G d=>
    obtain⟨pid,m,tP,dP,m2,z,w,o,A,F,N⟩:=hB;exact⟨pid,m,tP,dP,m2,z,w,by show j.get pid=_;rw[f _ (by rw[o];intros;simp),o],A.mono u,F,N⟩
   |df ds=>
    obtain⟨pid,m,S,z,w,o,A⟩:=hB;refine⟨pid,m,S,z,w,by show j.get pid=_;rw[f _ (by rw[o];intros;simp),o],?_⟩;split at A
    ·trivial
    ·exact A.mono λ_ _ m=>m.mono u
    ·exact A.elim
   |dead=>
    intro pid m e;obtain⟨w,o⟩:=hB pid m e;exact⟨w,by show j.get pid=_;rw[f _ (by rw[o];intros;simp),o]⟩
  ·subst h3;rcases r.blk _ _ I with⟨pid,len,es,s,z,w,o,A,F,p7,N⟩|hB|⟨es,z,w,o,A⟩
   ·obtain⟨D,q1,q2⟩:=p _ _ _ _ o;exact .inl ⟨pid,len,es,D,z,w,q1,λJ=>(by cases J),F,p7,EDR.mono u N⟩
   ·exact .inr (.inl hB)
   ·exact .inr (.inr ⟨es,z,w,.inl rfl,A⟩)
 ·obtain⟨b1,B,v1⟩:=live hi l1;obtain⟨b2,I,v2⟩:=live C l2;exact r.inj _ _ _ _ _ _ _ B I v1 v2 a1 a2
 ·show j.get q=zn;rw[f]
  ·exact r.fresh _ (by rw[<- E];exact x)
  ·rw[r.fresh _ (by rw[<- E];exact x)];intros;simp
 ·show j.get q=zn;rw[f _ (by rw[L];intros;simp),L]
 ·show j.get q=_;rw[f _ (by rw[x];intros;simp),x]
end
end
section
variable[Pi.Gl]
open Pi (PV T Hp Blk DF UM PE AN AT AB AV Ao)
section
variable{X:Cx}{h:H}{n id idP:Nat}{β:Type}{x:β}{P:Program}
def MetA(X:Cx)(l lP:List Nat):Prop:=∀ i∈lP,(X.Q i \/ ∃ id∈l,∃ m,X.π id=zo (.blk i m)) /\ ∃ es ex fz,X.h.get i=zo (.row es ex fz)
theorem MetA.append{l m lP f:List Nat}(a:MetA X l lP)(b:MetA X m f):MetA X (l++m) (lP++f):=λi hi=>by
 rcases an.1 hi with hi|hi
 ·obtain⟨c,d⟩:=a i hi;exact⟨c.imp id λ⟨j,e,k⟩=>⟨j,ao _ e,k⟩,d⟩
 ·obtain⟨c,d⟩:=b i hi;exact⟨c.imp id λ⟨j,e,k⟩=>⟨j,am _ e,k⟩,d⟩
theorem MetA.nil{l:List Nat}:MetA X l []:=λ_ hi=>by cases hi
def Kn(X:Cx)(l:List Nat):Prop:=∀ i∈l,∃ a,X.π i=zo a
theorem Kn.append{l m:List Nat}(a:Kn X l)(b:Kn X m):Kn X (l++m):=λi hi=>(an.1 hi).elim (a i) (b i)
theorem Kn.nil:Kn X []:=λ_ hi=>by cases hi
theorem Met.toA{l:List Nat}(m:Met X.h X.Q l):MetA X [] l:=λi hi=>⟨.inl (m i hi).1,(m i hi).2⟩
theorem Hy{pid off len:Nat}{es:List PV}{ex fz:Bool}{g:Bool}{c:Ty}{l:List c.den}{d:Nat}(k:X.h.get pid=zo (.row es ex fz))(m:off+len<=es.length)(n:L2 (EP g (DR X.h X.Q c)) l ((es.drop off).take len))(s:2*c.depth+3<=d) :
  ∃ b a,AV X.h d (.own pid off len)=zo (.lst zf b,pid::a)/\L2 (EP g (DP c)) l b/\Met X.h X.Q a:=by
 obtain⟨d,rfl⟩:∃ f,d=f+1:=⟨d-1,by omega⟩;obtain⟨b,a,p,q,r⟩:=Jb (λy e o=>Lt (d:=d) (λj f i=>E0 j f i) (by omega) o) n;refine⟨b,a,?_,q,r⟩;simp only[AV,k];rw[show ah (off+len) es.length=zt from by simpa using m];simp only[zb,p];rfl
theorem EV(hh:Hp)(d:Nat)(cs:List PV):AV hh (d+1) (.agg cs)=(AB (AV hh d) cs).map λ(x,l)=>(.agg x,l):=rfl
theorem Kh(hh:Hp)(d:Nat)(cs:List PV):AV hh (d+1) (.tup cs)=(AB (AV hh d) cs).map λ(x,l)=>(.tup x,l):=rfl
theorem Kg(hh:Hp)(d:Nat)(t:TypeId)(v:PV):AV hh (d+1) (.ifc t v)=(AV hh d v).map λ(x,l)=>(.ifc t x,l):=rfl
theorem My (hh:Hp) (d:Nat) (f:Fn) (a b:List PV):AV hh (d+1) (.fn f a b)=(match AB (AV hh d) a,AB (AV hh d) b with
   |some (a,l),zo (b,m)=>zo (.fn f a b,l++m)
   |_,_=>zn):=rfl
mutual
theorem Kf(r:RH X h n):∀ (d:Nat) {v:V} {p:PV} {K:V->List Nat->Option β},VR X v p->purA h d v K=zo x ->
  ∃ v' l q lP,K v' l=zo x/\AV X.h (d+6) p=zo (q,lP)/\VR Cx.pure v' q/\MetA X l lP/\Kn X l
 |0,_,_,_,_,e=>by simp[purA]at e
 |d+1,v,p,K,hv,e=>by
  have b:d+1+6=(d+6)+1:=by omega
  unfold purA at e;split at e
  ·obtain⟨O,rfl,t⟩:=hv.agg_inv;obtain⟨vs,l,o,lP,e1,w,k,u,y⟩:=Ez r d t e;refine⟨_,l,.agg o,lP,e1,?_,by simp only[VR];exact⟨o,rfl,k⟩,u,y⟩;rw[b,EV,w];rfl
  ·simp only[VR]at hv;obtain⟨O,rfl,t⟩:=hv;obtain⟨vs,l,o,lP,e1,w,k,u,y⟩:=Ez r d t e;refine⟨_,l,.tup o,lP,e1,?_,by simp only[VR];exact⟨o,rfl,k⟩,u,y⟩;rw[b,Kh,w];rfl
  ·simp only[VR]at hv;obtain⟨q,rfl,t⟩:=hv;obtain⟨v',l,q',lP,e1,w,k,u,y⟩:=Kf r d t e;refine⟨_,l,.ifc _ q',lP,e1,?_,by simp only[VR];exact⟨q',rfl,k⟩,u,y⟩;rw[b,Kg,w];rfl
  ·simp only[VR]at hv;obtain⟨a',b',rfl,ha,hb⟩:=hv;obtain⟨vs,l,o,lP,e1,w,k,u,y⟩:=Ez r d ha e;obtain⟨ws,m,rs,mP,e2,C,D,E,k4⟩:=Ez r d hb e1;refine⟨_,l++m,.fn _ o rs,lP++mP,e2,?_,by simp only[VR];exact⟨o,rs,rfl,k,D⟩,u.append E,y.append k4⟩;rw[b,My,w,C]
  ·rename_i f g c l;replace e:=AK e;obtain⟨F,e⟩:=e;have s:2*c.depth+3<=d+7:=aq F;simp only[VR]at hv;rcases hv with⟨rfl,rfl⟩|⟨z,es,rfl,hf,k⟩|⟨pid,off,len,es,ex,fz,rfl,hf,k,u,y,h8,h5⟩
   ·exact⟨_,[],.nils,[],e,by rw[b];rfl,by simp[VR],.nil,.nil⟩
   ·exact⟨_,[],.lst z es,[],e,by rw[b];rfl,by simp only[VR];exact .inr (.inl ⟨z,es,rfl,by simp,k⟩),.nil,.nil⟩
   ·obtain⟨o,G,C,D,E⟩:=Hy (d:=d+7) u y h5 s;refine⟨_,[],_,_,e,C,by simp only[VR];exact .inr (.inl ⟨zf,o,rfl,by simp,D⟩),λi hi=> ?_,.nil⟩;rcases ai.1 hi with rfl|hi
    ·exact⟨.inl k,es,ex,fz,u⟩
    ·exact E.toA i hi
  ·simp only[VR]at hv;rcases hv with⟨rfl,rfl⟩|⟨z,es,rfl,k⟩
   ·exact⟨_,[],.nils,[],e,by rw[b];rfl,by simp[VR],.nil,.nil⟩
   ·exact⟨_,[],.lst z es,[],e,by rw[b];rfl,by simp only[VR];exact .inr ⟨z,es,rfl,k⟩,.nil,.nil⟩
  ·rename_i id;split at e
   ·rename_i g c l ex fz lk P;replace e:=AK e;obtain⟨F,e⟩:=e;have s:2*c.depth+3<=d+7:=aq F;simp only[VR]at hv;have hB:=r.blk _ _ P;cases j:X.π id with
    |none=>rw[j]at hv;exact hv.elim
    |some a=>
     rw[j]at hv hB;have B:Kn X [id]:=λi hi=>by rw[aw.1 hi];exact⟨a,j⟩
     rcases hB with⟨pid,len,es,A,J,M,L,p4,p5,p7,N⟩|⟨J,_,M⟩|⟨es,J,_,_,M⟩
     ·cases J;simp only at hv;subst hv;obtain⟨o,G,C,D,E⟩:=Hy (d:=d+7) (off:=0) (len:=len) L (by omega) (by rw[bN,bM (by omega)];exact N) s;refine⟨_,[id],_,_,e,C,by simp only[VR];exact .inr (.inl ⟨zf,o,rfl,by simp,D⟩),λi hi=> ?_,B⟩;rcases ai.1 hi with rfl|hi
      ·exact⟨.inr ⟨id,by simp,len,j⟩,es,ex,A,L⟩
      ·obtain⟨q1,q2⟩:=E i hi;exact⟨.inl q1,q2⟩
     ·cases J;subst M;simp only at hv;subst hv;exact⟨_,[id],.nils,[],e,by rw[b];rfl,by simp[VR],.nil,B⟩
     ·cases J;simp only at hv;subst hv;exact⟨_,[id],.lst zt es,[],e,by rw[b];rfl,by simp only[VR];exact .inr (.inl ⟨zt,es,rfl,by simp,M⟩),.nil,B⟩
   ·cases e
  ·rename_i id off len;split at e
   ·rename_i g c l ex fz lk P;replace e:=AK e;obtain⟨F,e⟩:=e;have s:2*c.depth+3<=d+7:=aq F;replace e:=AJ e;obtain⟨S,e⟩:=e;simp only[VR]at hv;obtain⟨pid,m,j,rfl⟩:=hv;obtain⟨es,A,L,_,p5,_,N⟩:=r.rowAt j P;obtain⟨o,G,C,D,E⟩:=Hy (d:=d+7) (off:=off) (len:=len) L (by rw[<- N.length];simpa[CI,BG,AR]using S) (KP N off len) s;refine⟨_,[id],_,_,e,C,by simp only[VR];exact .inr (.inl ⟨zf,o,rfl,by simp,D⟩),λi hi=> ?_,λi hi=>by rw[aw.1 hi];exact⟨_,j⟩⟩;rcases ai.1 hi with rfl|hi
    ·exact⟨.inr ⟨id,by simp,m,j⟩,es,ex,A,L⟩
    ·obtain⟨q1,q2⟩:=E i hi;exact⟨.inl q1,q2⟩
   ·cases e
  ·cases e
  ·cases e
  ·cases e
  ·cases e
  ·cases e
  ·cases e
  ·cases e
  ·cases e
  ·rename_i n1 n2 n3 n4 n5 n5b n6 n7 n8 n9 n9b U I W Y Z;cases v with
   |agg|tup|ifc|fn|lf|pl|ow|own|ptr|view|pv|ept|aptr|yl|mp|gk=>
    exfalso
    first|exact Z _ rfl|exact I _ _ _ _ rfl|exact n1 _ rfl|exact n2 _ rfl|exact n3 _ _ rfl|exact n4 _ _ _ rfl|exact n5 _ _ _ _ rfl|exact n5b _ _ _ rfl|exact n6 _ rfl|exact n7 _ _ _ rfl|exact n8 _ _ rfl|exact n9 _ rfl|exact n9b _ rfl|exact U _ _ _ rfl|exact W _ rfl|exact Y _ rfl
   |exl f es=>
    simp only[VR]at hv;obtain⟨z,O,rfl,w,k⟩:=hv;exact⟨_,[],.lst z O,[],e,by rw[b];rfl,by simp only[VR];exact⟨z,O,rfl,w,k⟩,.nil,.nil⟩
   |_=>
    simp only[VR]at hv;subst hv;exact⟨_,[],_,[],e,by rw[b];rfl,by simp only[VR],.nil,.nil⟩
theorem Ez(r:RH X h n):∀ (d:Nat) {vs:List V} {f:List PV} {K:List V->List Nat->Option β},VRL X vs f->purA.purAs (purA h d) vs K=zo x ->
  ∃ a l b lP,K a l=zo x/\AB (AV X.h (d+6)) f=zo (b,lP)/\VRL Cx.pure a b/\MetA X l lP/\Kn X l
 |d,[],_,K,hv,e=>by rw[hv.nil_inv];exact⟨[],[],[],[],e,rfl,.nil,.nil,.nil⟩
 |d,v::vs,_,K,hv,e=>by
  obtain⟨p,b,rfl,g,i⟩:=hv.cons_inv;unfold purA.purAs at e;obtain⟨A,l,q,lP,e1,j,k,o,s⟩:=Kf r d g e;obtain⟨a,m,c,z,e2,t,u,w,y⟩:=Ez r d i e1;exact⟨A::a,l++m,q::c,lP++z,e2,by simp[AB,j,t],.cons k u,o.append w,s.append y⟩
end
theorem Lv(r:RH X h n):∀ {vs:List V} {d:List PV} {K:List V->List Nat->Option β},VRL X vs d->Nv h vs K=zo x ->
  ∃ a l b lP,K a l=zo x/\Ao X.h d=zo (b,lP)/\VRL Cx.pure a b/\MetA X l lP/\Kn X l
 |[],_,K,hv,e=>by rw[hv.nil_inv];exact⟨[],[],[],[],e,rfl,.nil,.nil,.nil⟩
 |v::vs,_,K,hv,e=>by
  obtain⟨p,b,rfl,f,g⟩:=hv.cons_inv;unfold Nv at e;obtain⟨z,l,q,lP,e1,i,j,k,o⟩:=Kf r 6 f e;obtain⟨a,m,c,y,e2,s,t,u,w⟩:=Lv r g e1;refine⟨z::a,l++m,q::c,lP++y,e2,?_,.cons j t,k.append u,o.append w⟩;simp only[Ao,show Pi.AS=6+6 from rfl,i,s]
theorem RH.mark(r:RH X h n)(k:n<=1048575){l lP:List Nat}{h':H}(b:MetA X l lP)(j:Kn X l)(e:B9 h l=zo h')(id idP:Nat) :
  ∃ a Y,Pi.freeze X.h lP=zo a/\Y.π=X.π/\Y.O=X.O/\FW X h n id idP h' a Y:=by
 obtain⟨a,c,d,f⟩:=BQ (Q:=λi=>X.Q i \/ ∃ id∈l,∃ m,X.π id=zo (.blk i m)) b
 obtain⟨Y,p,s,t⟩:=r.frozen k j e d f (λq o g=>by
  rcases(b q o).1 with h1|h1
  ·exact absurd g h1
  ·exact h1) id idP
 exact⟨a,Y,c,p,s,t⟩
def TV(X:Cx):List (Nat×Nat×List V)->List (Nat×Nat×List PV)->Prop:=L2 λa b=>a.1=b.1/\a.2.1=b.2.1/\VRL X a.2.2 b.2.2
theorem G5:∀ {pl:List (Nat×Nat×List V)} {c:List (Nat×Nat×List PV)} {cs b:List V} {d:List PV},TV X pl c->VRL X cs d->IM cs pl=zo b -> ∃ a,Pi.Fc d c=zo a/\VRL X b a
 |[],_,cs,b,d,h,hc,e=>by rw[L2.nil_inv h];cases e;exact⟨d,rfl,hc⟩
 |(off,m,vs)::pl,_,cs,b,d,h,hc,e=>by
  obtain⟨⟨j,q,p⟩,t,rfl,⟨g,i,f⟩,k⟩:=L2.cons_inv h;simp only at g i f;subst g;subst i;unfold IM at e;replace e:=AK e;obtain⟨l,e⟩:=e;obtain⟨a,n,o⟩:=G5 k (hc.fput f off) e;refine⟨a,?_,o⟩;unfold Pi.Fc;rw[<- f.length,<- hc.length,l];exact n
theorem Gn{g:Array Field}:∀ {m:List (Nat×V)} {c:List (Nat×PV)} {a:List (Nat×Nat×List V)},SP X m c->FQ P g m=zo a -> ∃ b,Pi.EC P g c=zo b/\TV X a b
 |[],_,a,h,e=>by rw[L2.nil_inv h];cases e;exact⟨[],rfl,.nil⟩
 |(i,v)::l,_,a,h,e=>by
  obtain⟨⟨z,p⟩,t,rfl,⟨j,k⟩,n⟩:=L2.cons_inv h;simp only at j k;subst j;unfold FQ at e;split at e
  ·rename_i f r q s;obtain⟨x,u,w⟩:=Gn n s;split at e
   ·rename_i y d;replace e:=AK e;obtain⟨o,e⟩:=e;cases e;refine⟨(f.offset,y,p.cells)::x,?_,.cons ⟨rfl,rfl,k.cells⟩ w⟩;simp only[Pi.EC,q,u,d,o,zb]
   ·cases e
  ·cases e
theorem Fj{a:Nat}:∀ {e:List (Nat×V)} {b:List (Nat×PV)},SP X e b->TV X (GB a e) (Pi.FP a b)
 |[],_,h=>by rw[L2.nil_inv h];exact .nil
 |(i,v)::l,_,h=>by
  obtain⟨⟨g,p⟩,t,rfl,⟨c,d⟩,f⟩:=L2.cons_inv h;simp only at c d;subst c;exact .cons ⟨rfl,rfl,d.cells⟩ (Fj f)
theorem JK{d:Nat}:∀ {k:List (Nat×V)} {f:List (Nat×PV)} {es c:List V} {b:List PV},SP X k f->VRL X es b->J6 d es k=zo c -> ∃ a,Pi.Fb d b f=zo a/\VRL X c a
 |[],_,es,c,b,h,hc,e=>by rw[L2.nil_inv h];cases e;exact⟨b,rfl,hc⟩
 |(i,v)::l,_,es,c,b,h,hc,e=>by
  obtain⟨⟨r,p⟩,t,rfl,⟨j,g⟩,m⟩:=L2.cons_inv h;simp only at j g;subst j;unfold J6 at e;replace e:=AK e;obtain⟨n,e⟩:=e;obtain⟨a,o,q⟩:=JK m (hc.lset i g) e;refine⟨a,?_,q⟩;unfold Pi.Fb;rw[<- g.cells.length,<- hc.length,n];exact o
theorem Lh{c:Bool}{z:List V}{a:List PV}{v:V}(h:VRL X z a)(e:Nm c z=zo v):∃ p,Pi.Lg c a=zo p/\VR X v p:=by
 unfold Nm at e;rcases BV e with⟨b,e⟩|⟨b,e⟩
 ·subst b;cases e;exact⟨.agg a,rfl,by simp only[VR];exact⟨a,rfl,h⟩⟩
 ·subst b;split at e
  ·cases e;obtain⟨p,g,rfl,d,f⟩:=h.cons_inv;rw[f.nil_inv];exact⟨p,rfl,d⟩
  ·cases e
theorem OH{ty:TypeId}{r:List (Nat×V)}{f:List (Nat×PV)}{K:V->Option β}(p:SP X r f)(e:MP P ty r K=zo x):∃ v q,K v=zo x/\Pi.Bv P X.h ty f=zo (.val q X.h)/\VR X v q:=by
 unfold MP at e;split at e
 ·rename_i z A l k;replace e:=AK e;obtain⟨g,e⟩:=e;obtain⟨w,c,d⟩:=B5 (X:=X) l;split at e
  ·rename_i pl i;obtain⟨u,s,t⟩:=Gn p i;replace e:=AD e;obtain⟨cs,b,e⟩:=e;obtain⟨a,n,o⟩:=G5 t d b;refine⟨_,.agg a,e,?_,by simp only[VR];exact⟨a,rfl,o⟩⟩;unfold Pi.Bv;simp only[c,k,g,zb,s,n];rfl
  ·cases e
 ·rename_i z m y l k;obtain⟨w,c,d⟩:=B5 (X:=X) l;split at e
  ·rename_i B j;replace e:=AK e;obtain⟨g,e⟩:=e;replace e:=AD e;obtain⟨cs,b,e⟩:=e;obtain⟨a,n,o⟩:=G5 (Fj p) d b;refine⟨_,.agg a,e,?_,by simp only[VR];exact⟨a,rfl,o⟩⟩;unfold Pi.Bv;simp only[c,k,j,g,zb,n];rfl
  ·cases e
 ·cases e
theorem H8(r:RH X h n)(t:n<=1048575){ty:TypeId}{len:Nat}{m:List (Nat×V)}{b:List (Nat×PV)}{K:RA->Option β}(u:SP X m b)(e:Ej P h ty len m K=zo x) :
  VOk X h n id idP K x (Pi.Ah P X.h ty len b):=by
 unfold Ej at e;split at e
 ·rename_i O w;split at e
  ·rename_i S N z g d y;obtain⟨zP,i,a⟩:=B5 (X:=X) y;split at e
   ·rename_i Z j;obtain⟨M,A,B⟩:=Lh a j;replace e:=BE e;obtain⟨k,e⟩:=e;rw[a.length]at k;replace e:=AD e;obtain⟨es,f,e⟩:=e;obtain⟨p,C,D⟩:=JK u (VRL.rep B len) f;replace e:=Lv r D e;obtain⟨J,l,o,lP,e,E,F,G,I⟩:=e;replace e:=AD e;obtain⟨h',s,e⟩:=e;obtain⟨c,Y,q,U,W,L⟩:=r.mark t G I s id idP;refine⟨_,h',.lst zt o,c,Y,e,?_,L,by simp only[VR];exact⟨zt,o,rfl,λ_=>rfl,F⟩⟩;unfold Pi.Ah;simp only[w,g,d,i,A,k,zj,C,E,q];rfl
   ·cases e
  ·cases e
 ·cases e
theorem Py(r:RH X h n)(w:Nw X n id idP){ty:TypeId}{same:Bool}{l c:V}{lP m:PV}{K:RA->Option β}(hs:same=zt->lP=m)(M:VR X l lP)(hc:VR X c m)(e:Px P h id ty same l c K=zo x) :
  VOk X h n id idP K x (Pi.C0 P X.h idP ty lP m):=by
 unfold Px at e;split at e
 ·rename_i et N;split at e
  ·rename_i sz ag z ti t s U u;obtain⟨zP,A,k⟩:=B5 (X:=X) U;replace e:=AD e;obtain⟨⟨g,J⟩,L,e⟩:=e;replace e:=AK e;obtain⟨E,e⟩:=e;simp only[ac]at E;obtain⟨⟨G,I⟩,D⟩:=E;rw[k.length]at D;replace e:=AD e;obtain⟨z1,B,e⟩:=e;obtain⟨z1P,W,Z⟩:=Lh k B;replace e:=Em Z e;obtain⟨y,e,S⟩:=e;replace e:=JU M e;obtain⟨C,e,i⟩:=e;replace e:=JU hc e;obtain⟨b,e,a⟩:=e
   have d:ah C b=zt->ah b 1048576=zt -> ∀ {v:V},K (.val v (AG h id (.row g J (R5 b y) zt zf zf)))=zo x->(∀ Y:Cx,Y.π id=zo (.blk idP b)->VR Y v (.own idP 0 C))->VOk X h n id idP K x (Pi.C0 P X.h idP ty lP m):=by
    intro o f v e O;obtain⟨p,Y,y1,y2,y3,F⟩:=Bi (g:=g) (ex:=true) (fz:=false) r w (L2.replicate S b) (λh=>by cases h);rw[List.length_replicate]at F;refine⟨_,_,.own idP 0 C,p,Y,e,?_,y2,O Y F⟩;unfold Pi.C0;simp only[N,i,a,t,s,A,u,W,o,f,G,I,D,show Pi.Ba=1048576 from rfl,Bool.and_self,zb,y1];rfl
   rcases BV e with⟨j,e⟩|⟨j,e⟩
   ·have:=hs j;subst this;rw[i]at a;cases a;replace e:=AJ e;obtain⟨f,e⟩:=e;exact d (by simp) f e λY q=>by simp only[VR,q]
   ·replace e:=AJ e;obtain⟨o,e⟩:=e;replace e:=AJ e;obtain⟨f,e⟩:=e;exact d o f e λY q=>by simp only[VR];exact⟨_,_,q,rfl⟩
  ·cases e
 ·cases e
end
end
section
variable[Pi.Gl]
open Pi (PV T Hp Blk DF UM PE AN AT AB AV Ao)
section
variable{X:Cx}{h:H}{n id idP:Nat}{β:Type}{x:β}{P:Program}
theorem Ip{α:Type}{R:α->PV->Prop}{l:List α}{es:List PV}{off len a b:Nat}(h:L2 R l ((es.drop off).take len))(c:b<=len):L2 R (D6 l a b) ((es.drop (off+a)).take (b-a)):=by
 have:=(h.drop a).take (b-a)
 grind [D6,List.drop_take,List.drop_drop,min]
theorem VRO.isSome{o:Option V}{p:Option PV}(h:VRO X o p):p.isSome=o.isSome:=by
 cases o with
 |none=>cases h;rfl
 |some v=>obtain⟨q,rfl,_⟩:=h;rfl
def WOk(X:Cx)(h:H)(n id idP:Nat)(K:V->Option β)(x:β)(o:Option Pi.R):Prop:=
 ∃ v p a Y,K v=zo x/\o=zo (.val p a)/\FW X h n id idP h a Y/\VR Y v p
theorem WOk.same(r:RH X h n){K:V->Option β}{o:Option Pi.R}{v:V}{p:PV}(e:K v=zo x)(a:o=zo (.val p X.h))(b:VR X v p):WOk X h n id idP K x o:=
 ⟨v,p,X.h,X,e,a,⟨rfl,r,St.refl _ _ _ _⟩,b⟩
theorem KT{d:Nat}:Pi.CU d zn=zo d:=rfl
theorem Mr{d:Nat}{p:PV}:Pi.CU d (zo p)=Pi.FY p:=rfl
theorem Sb{a b:Nat}(h:¬ a<b):af a b=zf:=by
 cases c:af a b with
 |false=>rfl
 |true=>exact absurd (by simpa using c) h
theorem Sc{a b:Nat}(h:af a b=zf):¬ a<b:=λc=>by
 rw[show af a b=zt from by simpa using c]at h;cases h
theorem Lk{X:Cx}{v:V}{p:PV}(h:IV v=zt)(e:VR X v p):VR Cx.pure v p/\Pi.IU p=zt /\ ∀ (H:Hp) (m:Nat),Pi.AV H (m+1) p=zo (p,[]):=by
 cases v<;>first|(cases h;done)|skip
 all_goals
  simp only[VR]at e;subst e;exact⟨by simp[VR],rfl,λ_ _=>rfl⟩
theorem JW{X:Cx}:∀ {vs:List V} {a:List PV},vs.all IV=zt->VRL X vs a->VRL Cx.pure vs a/\a.all Pi.IU=zt /\ ∀ (H:Hp) (m:Nat),Pi.AB (Pi.AV H (m+1)) a=zo (a,[])
 |[],a,_,h=>by
  have:=h.nil_inv;subst this;exact⟨VRL.nil,rfl,λ_ _=>rfl⟩
 |v::vs,a,hn,h=>by
  obtain⟨p,k,rfl,i,j⟩:=h.cons_inv;rw[aZ,ac]at hn;obtain⟨b,c,d⟩:=Lk hn.1 i;obtain⟨e,f,g⟩:=JW hn.2 j;refine⟨VRL.cons b e,by rw[aZ,c,f];rfl,λH m=> ?_⟩;unfold Pi.AB;rw[d,g];rfl
theorem Kr(r:RH X h n)(hn:n<=1048575){arr:TypeId}{a:V}{p:PV}{K:RA->Option β}(M:VR X a p)(e:HR P h arr a (λv h=>K (.val v h))=zo x):VOk X h n id idP K x (Pi.DE P X.h arr p):=by
 unfold HR at e;split at e
 ·rename_i len Z O;split at e
  ·rename_i sz j off w;split at e
   ·rename_i cs fz t;replace e:=AK e;obtain⟨hc,e⟩:=e;simp only[ac]at hc;obtain⟨F,z,i,G⟩:=hc;obtain⟨pid,m,c,J,g,rfl,k,h4,o⟩:=r.ptr M t;have LO:j<1048575:=by have:=r.dom _ _ g;omega
    obtain⟨s,b⟩:=BI X.h pid (.box c zt)
    obtain⟨Y,S,y,B,U,W⟩:=r.set (b':=.box cs zt zf) LO t trivial rfl g k (by intros;simp) b
     (λY S y B u=>by
      rw[g]
      refine⟨pid,m,_,zt,rfl,by rw[B];exact(g ▸ r.blk _ _ t).own trivial,by rw[y,(Hp.get_set b).1,zy rfl],(λh=>by cases h),o.mono u⟩) idP
    obtain⟨C,D,E⟩:=JW G (o.drop off);have A:=(o.drop off).length
    have d:af off c.length=zt:=by
     have h6:0<len:=by simpa using z
     have L:=aq i;rw[A,List.length_drop]at L;simp only[Nat.blt_eq];omega
    have f:Pi.AV X.h Pi.AS (.ptr pid off)=zo (.view (c.drop off),[pid]):=by
     show(match X.h.get pid with|some (.box cs _)=>bif af off cs.length then(Pi.AB (Pi.AV X.h 11) (cs.drop off)).map λ(x,l)=>(PV.view x,pid::l)else zn|_=>zn)=_
     rw[k];show(bif af off c.length then _ else zn)=_
     rw[d,zb,E X.h 10];rfl
    refine⟨_,_,.lst zt ((c.drop off).take len),s,Y,e,?_,⟨y,U,W id⟩,?_⟩
    ·unfold Pi.DE;rw[O];simp only[w,f];rw[A]at i;have I:((c.drop off).take len).all Pi.IU=zt:=a8.2 λq N=>a8.1 D q (List.mem_of_mem_take N);rw[F,z,i,I];show(Pi.freeze X.h [pid]).map _=_;unfold Pi.freeze;rw[k];simp only[b];rfl
    ·simp only[VR];exact⟨zt,_,rfl,λ_=>rfl,C.take len⟩
   ·cases e
  ·cases e
 ·cases e
theorem Ox(r:RH X h n)(hn:n<=1048575){ty:TypeId}{a:V}{p:PV}{lo hi mx:Option V}{loP U mxP:Option PV}{K:V->Option β}(w:VR X a p)(J:VRO X lo loP)(y:VRO X hi U)(C:VRO X mx mxP)
  (e:NB P h ty a lo hi mx K=zo x):WOk X h n id idP K x (Pi.Af P X.h ty p loP U mxP):=by
 unfold NB at e;split at e
 ·rename_i s F;split at e
  ·cases C;simp only[VR]at w;subst w;replace e:=A5 y e;obtain⟨hh,e,B⟩:=e;replace e:=A5 J e;obtain⟨l,e,u⟩:=e;replace e:=AJ e;obtain⟨D,e⟩:=e;replace e:=AJ e;obtain⟨E,e⟩:=e;refine .same r e (p:=.str ((s.drop l).take (hh-l))) ?_ (by rfl);unfold Pi.Af;simp only[NA]at B D;simp only[CI]at D E
   grind
  ·cases e
 ·rename_i et F;replace e:=AD e;obtain⟨sz,o,e⟩:=e;simp only[VR]at w;subst w;split at e
  ·cases C;replace e:=A5 y e;obtain⟨hh,e,B⟩:=e;replace e:=A5 J e;obtain⟨l,e,u⟩:=e;replace e:=AJ e;obtain⟨D,e⟩:=e;replace e:=AJ e;obtain⟨E,e⟩:=e;have:hh=0:=by simpa[neq]using D
   subst this;have:l=0:=by simpa[neq]using E
   subst this;refine .same r e (p:=.nils) ?_ (by simp[VR])
   simp_all[Pi.Af,KT]
  ·rename_i m;obtain⟨mP,rfl,hm⟩:=C;replace e:=BE e;obtain⟨S,e⟩:=e;have M:U.isSome=zt:=by rw[y.isSome];simp_all
   replace e:=A5 y e;obtain⟨hh,e,B⟩:=e;replace e:=A5 J e;obtain⟨l,e,u⟩:=e;replace e:=C8 hm e;obtain⟨mn,e,h3⟩:=e;replace e:=AJ e;obtain⟨D,e⟩:=e;replace e:=AJ e;obtain⟨E,e⟩:=e;replace e:=AJ e;obtain⟨g3,e⟩:=e;have:hh=0:=by simpa[neq]using D
   subst this;have:l=0:=by simpa[neq]using E
   subst this;have:mn=0:=by simpa[neq]using g3
   subst this;refine .same r e (p:=.nils) ?_ (by simp[VR])
   simp_all[Pi.Af,Mr]
 ·rename_i et f g c es F;replace e:=AD e;obtain⟨sz,o,e⟩:=e;replace e:=BE e;obtain⟨z,e⟩:=e;have z:sz=c.wd:=by simp_all
  subst z;replace e:=A5 J e;obtain⟨l,e,B⟩:=e;replace e:=A5 y e;obtain⟨hh,e,u⟩:=e;split at e
  ·cases C;replace e:=AJ e;obtain⟨D,e⟩:=e;replace e:=AJ e;obtain⟨E,e⟩:=e;have k:hh<=es.length:=by simpa[CI,AR]using D
   have O:l<=hh:=by simpa[CI]using E
   simp only[VR]at w;unfold Pi.Af;rcases w with⟨rfl,rfl⟩|⟨f',b,rfl,hf,A⟩|⟨pid,off,len,b,ex,fz,rfl,hf,A,k2,k3,k4,k5⟩
   ·have:hh=0:=by simp_all
    subst this;have:l=0:=by omega
    subst this;refine .same r e (p:=.nils) ?_ (by simp[VR,D6])
    simp_all[AR,aI,KT]
   ·rw[A.length]at k;refine .same r e (p:=.lst (f'&&aa hh b.length) ((b.drop l).take (hh-l))) ?_ (by simp only[VR];exact .inr (.inl ⟨_,_,rfl,by simp,(A.drop l).take (hh-l)⟩));simp only[AR,A.length]at u;simp only[F,o,Ay rfl (EPL.up (hh:=X.h) (Q:=X.Q) A),au,zj,B,u];rw[show ah hh b.length=zt from by simp_all,show ah l hh=zt from by simp_all];rfl
   ·have I:((b.drop off).take len).length=len:=by simp;omega
    rw[k5.length,I]at k;simp only[AR,k5.length,I]at u;have N:ah l hh=zt:=by simp_all
    have b2:ah (off+hh) b.length=zt:=by simp;omega
    by_cases q:off+l<b.length
    ·refine .same r e (p:=.own pid (off+l) (hh-l)) ?_ (by simp only[VR];exact .inr (.inr ⟨pid,off+l,hh-l,b,ex,fz,rfl,by simp,A,k2,by omega,k4,Ip k5 k⟩));simp only[F,o,k2,k4,au,zj,B,u,N,b2,aJ];rw[show af (off+l) b.length=zt from by simpa using q];rfl
    ·have hes:D6 es l hh=[]:=by
      have:=(Ip (a:=l) k5 k).length
      simp_all
     refine .same r e (p:=.lst zf []) ?_ (by rw[hes];simp only[VR];exact .inr (.inl ⟨zf,[],rfl,by simp,.nil⟩));simp only[F,o,k2,k4,au,zj,B,u,N,b2,aJ]
     rw[show af (off+l) b.length=zf from by
      cases hq:af (off+l) b.length with
      |false=>rfl
      |true=>exact absurd (by simpa using hq) q];rfl
  ·rename_i m;obtain⟨mP,rfl,hm⟩:=C;replace e:=BE e;obtain⟨q,e⟩:=e;simp only[ak,ay,bA]at q;obtain⟨S,hb2⟩:=q;have M:U.isSome=zt:=by rw[y.isSome];exact S
   replace e:=C8 hm e;obtain⟨mn,e,h3⟩:=e;replace e:=AJ e;obtain⟨D,e⟩:=e;replace e:=AJ e;obtain⟨g3,e⟩:=e;replace e:=AJ e;obtain⟨E,e⟩:=e;have:hh=mn:=by simpa[neq]using g3
   subst this;have k:hh<=es.length:=by simpa[CI,AR]using D
   have O:l<=hh:=by simpa[CI]using E
   have N:ah l hh=zt:=by simp_all
   simp only[VR]at w;unfold Pi.Af;rcases w with⟨rfl,rfl⟩|⟨f',b,rfl,hf,A⟩|⟨pid,off,len,b,ex,fz,rfl,hf,A,k2,k3,k4,k5⟩
   ·have:hh=0:=by simp_all
    subst this;have:l=0:=by omega
    subst this;refine .same r e (p:=.nils) ?_ (by simp[VR,D6])
    simp_all[AR,aI,Mr]
   ·rw[A.length]at k;refine .same r e (p:=.lst zt ((b.drop l).take (hh-l))) ?_ (by simp only[VR];exact .inr (.inl ⟨_,_,rfl,by simp,(A.drop l).take (hh-l)⟩));simp only[AR,A.length]at u;simp only[F,o,Ay rfl (EPL.up (hh:=X.h) (Q:=X.Q) A),au,zj,B,u,h3,M,N];have L:ah hh hh=zt:=by simp
    have G:aa hh hh=zt:=by simp
    rw[show ah hh b.length=zt from by simp_all,L,G];rfl
   ·have I:((b.drop off).take len).length=len:=by simp;omega
    rw[k5.length,I]at k;simp only[AR,k5.length,I]at u;have b2:ah (off+hh) b.length=zt:=by simp;omega
    simp only[F,o,k2,k4,au,zj,B,u,N,b2,aJ,h3,M];cases hex:(ex&&aa (off+hh) b.length)with
    |true=>
     simp only[ac,bI]at hex;obtain⟨rfl,hend⟩:=hex;by_cases q:off+l<b.length
     ·refine .same r e (p:=.own pid (off+l) (hh-l)) ?_ (by simp only[VR];exact .inr (.inr ⟨pid,off+l,hh-l,b,zt,fz,rfl,λ_=>⟨rfl,by omega⟩,A,k2,by omega,k4,Ip k5 k⟩));have L:ah hh hh=zt:=by simp
      have G:aa (off+hh) b.length=zt:=by simp[hend]
      rw[show af (off+l) b.length=zt from by simpa using q,L,G];rfl
     ·have hes:D6 es l hh=[]:=by
       have:=(Ip (a:=l) k5 k).length
       simp_all
      refine .same r e (p:=.lst zt []) ?_ (by rw[hes];simp only[VR];exact .inr (.inl ⟨zt,[],rfl,by simp,.nil⟩))
      rw[show af (off+l) b.length=zf from by
       cases hq:af (off+l) b.length with
       |false=>rfl
       |true=>exact absurd (by simpa using hq) q]
      have L:ah hh hh=zt:=by simp
      have G:aa (off+hh) b.length=zt:=by simp[hend]
      grind
    |false=>
     have hd:c.depth<=4:=aq hb2;obtain⟨qs,ids,p1,p2,p3⟩:=Hy (d:=12) (off:=off+l) (len:=hh-l) k2 (by omega) (Ip k5 k) (by omega)
     have hmA:MetA X [] (pid::ids):=λi hi=>by
      rcases ai.1 hi with rfl|hi
      ·simp_all
      ·exact p3.toA i hi
     obtain⟨hP',Y,f1,y1,y2,y3⟩:=r.mark hn hmA .nil rfl id idP;refine⟨_,.lst zt qs,hP',Y,e,?_,y3,by simp_all[VR]⟩;have L:ah hh hh=zt:=by simp
     have G:aa hh hh=zt:=by simp
     have hc:(zt&&ah hh hh&&ex&&aa (off+hh) b.length)=zf:=by simp_all
     rw[hc];simp only[zj,Pi.DZ,show Pi.AS=12 from rfl,p1,f1,G];rfl
 ·rename_i et g c es F;replace e:=AD e;obtain⟨sz,o,e⟩:=e;replace e:=BE e;obtain⟨z,e⟩:=e;have z:sz=c.wd:=by simp_all
  subst z;replace e:=A5 J e;obtain⟨l,e,B⟩:=e;replace e:=A5 y e;obtain⟨hh,e,u⟩:=e;split at e
  ·cases C;replace e:=AJ e;obtain⟨D,e⟩:=e;replace e:=AJ e;obtain⟨E,e⟩:=e;have k:hh<=es.length:=by simpa[CI,AR]using D
   have O:l<=hh:=by simpa[CI]using E
   simp only[VR]at w;unfold Pi.Af;rcases w with⟨rfl,rfl⟩|⟨f',b,rfl,A⟩
   ·have:hh=0:=by simp_all
    subst this;have:l=0:=by omega
    subst this;refine .same r e (p:=.nils) ?_ (by simp[VR,D6])
    simp_all[AR,aI,KT]
   ·rw[A.length]at k;refine .same r e (p:=.lst (f'&&aa hh b.length) ((b.drop l).take (hh-l))) ?_ (by simp only[VR];exact .inr ⟨_,_,rfl,(A.drop l).take (hh-l)⟩);simp only[AR,A.length]at u;simp only[F,o,Ay rfl (EPL.up (hh:=X.h) (Q:=X.Q) A),au,zj,B,u];rw[show ah hh b.length=zt from by simp_all,show ah l hh=zt from by simp_all];rfl
  ·rename_i m;obtain⟨mP,rfl,hm⟩:=C;replace e:=BE e;obtain⟨q,e⟩:=e;simp only[ak,ay,bA]at q;obtain⟨S,hb2⟩:=q;have M:U.isSome=zt:=by rw[y.isSome];exact S
   replace e:=C8 hm e;obtain⟨mn,e,h3⟩:=e;replace e:=AJ e;obtain⟨D,e⟩:=e;replace e:=AJ e;obtain⟨g3,e⟩:=e;replace e:=AJ e;obtain⟨E,e⟩:=e;have:hh=mn:=by simpa[neq]using g3
   subst this;have k:hh<=es.length:=by simpa[CI,AR]using D
   have O:l<=hh:=by simpa[CI]using E
   have N:ah l hh=zt:=by simp_all
   simp only[VR]at w;unfold Pi.Af;rcases w with⟨rfl,rfl⟩|⟨f',b,rfl,A⟩
   ·have:hh=0:=by simp_all
    subst this;have:l=0:=by omega
    subst this;refine .same r e (p:=.nils) ?_ (by simp[VR,D6])
    simp_all[AR,aI,Mr]
   ·rw[A.length]at k;refine .same r e (p:=.lst zt ((b.drop l).take (hh-l))) ?_ (by simp only[VR];exact .inr (.inl ⟨_,_,rfl,by simp,(A.drop l).take (hh-l)⟩));simp only[AR,A.length]at u;simp only[F,o,Ay rfl (EPL.up (hh:=X.h) (Q:=X.Q) A),au,zj,B,u,h3,M,N];have L:ah hh hh=zt:=by simp
    have G:aa hh hh=zt:=by simp
    rw[show ah hh b.length=zt from by simp_all,L,G];rfl
 ·rename_i et j F;split at e
  ·rename_i g c es ex lk hg;replace e:=AD e;obtain⟨sz,o,e⟩:=e;replace e:=BE e;obtain⟨z,e⟩:=e;have z:sz=c.wd:=by simp_all
   subst z;replace e:=A5 J e;obtain⟨l,e,B⟩:=e;replace e:=A5 y e;obtain⟨hh,e,u⟩:=e;split at e
   ·cases C;replace e:=AJ e;obtain⟨D,e⟩:=e;replace e:=AJ e;obtain⟨E,e⟩:=e;have k:hh<=es.length:=by simpa[CI,AR]using D
    have O:l<=hh:=by simpa[CI]using E
    have N:ah l hh=zt:=by simp_all
    simp only[VR]at w;have hB:=r.blk _ _ hg;cases W:X.π j with
    |none=>simp_all
    |some t=>
     rw[W]at w hB;unfold Pi.Af;rcases hB with⟨pid,len,b,fz',p1,p2,p3,p4,p5,p7,Z⟩|⟨p1,_,p2⟩|⟨qs,p1,_,p2,p3⟩
     ·cases p1;simp only at w;subst w;have hl:es.length=len:=by rw[Z.length,p5]
      simp only[AR,hl]at u;rw[hl]at k;have b2:ah (0+hh) b.length=zt:=by simp;omega
      replace e:=BN e;rcases e with⟨q,e⟩|⟨q,e⟩
      ·have hb':l<len:=by simpa[KW,AR,hl]using q
       refine .same r e (p:=.own pid (0+l) (hh-l)) ?_ (by simp_all[VR,P2]);simp only[F,o,p3,Ay rfl Z,au,zj,B,u,N,b2,aJ];rw[show af (0+l) b.length=zt from by simp;omega];rfl
      ·have hb':¬ l<len:=Sc (by rw[<- hl];exact q);refine .same r e (p:=.lst zf []) ?_ (by simp only[VR];exact .inr (.inl ⟨zf,[],rfl,by simp,.nil⟩));simp only[F,o,p3,Ay rfl Z,au,zj,B,u,N,b2,aJ];rw[Sb (by omega)];rfl
     ·cases p1;subst p2;simp only at w;subst w;have:hh=0:=by simp_all
      subst this;have:l=0:=by omega
      subst this;replace e:=BN e;rcases e with⟨q,e⟩|⟨q,e⟩
      ·simp[KW,AR]at q
      ·refine .same r e (p:=.nils) ?_ (by simp[VR])
       simp_all[AR,aI,KT]
     ·rcases p2 with p2|p2
      ·cases p2
      ·subst p2;cases p1;have:=p3.nil_inv;subst this;simp only at w;subst w;have:hh=0:=by simp_all
       subst this;have:l=0:=by omega
       subst this;replace e:=BN e;rcases e with⟨q,e⟩|⟨q,e⟩
       ·simp[KW,AR]at q
       ·refine .same r e (p:=.lst zt []) ?_ (by simp_all[VR]);simp only[AR,aI]at u;simp only[F,o,B,aI,u,show Pi.Ce c.wd []=zt from rfl,au,zj];rfl
   ·cases e
  ·cases e
 ·rename_i et j off len F;split at e
  ·rename_i g c es ex fz lk hg;replace e:=AD e;obtain⟨sz,o,e⟩:=e;replace e:=BE e;obtain⟨z,e⟩:=e;have z:sz=c.wd:=by simp_all
   subst z;replace e:=A5 J e;obtain⟨l,e,B⟩:=e;replace e:=A5 y e;obtain⟨hh,e,u⟩:=e;split at e
   ·cases C;replace e:=AJ e;obtain⟨D,e⟩:=e;replace e:=AJ e;obtain⟨E,e⟩:=e;have k:off+hh<=es.length:=by simpa[CI,AR,BG]using D
    have O:l<=hh:=by simpa[CI]using E
    have N:ah l hh=zt:=by simp_all
    simp only[VR]at w;obtain⟨pid,m,W,rfl⟩:=w;obtain⟨b,fz',p3,_,p5,_,Z⟩:=r.rowAt W hg;rw[Z.length]at k;have b2:ah (off+hh) b.length=zt:=by simp_all
    unfold Pi.Af;replace e:=BN e;rcases e with⟨q,e⟩|⟨q,e⟩
    ·have hb':off+l<b.length:=by simpa[KW,AR,BG,Z.length]using q
     refine .same r e (p:=.own pid (off+l) (hh-l)) ?_ (by simp only[VR];exact⟨pid,m,W,rfl⟩);simp only[F,o,p3,Ay rfl Z,au,zj,B,u,N,b2,aJ];rw[show af (off+l) b.length=zt from by simp_all];rfl
    ·have hb':¬ off+l<b.length:=Sc (by rw[<- Z.length];exact q);refine .same r e (p:=.lst zf []) ?_ (by simp only[VR];exact .inr (.inl ⟨zf,[],rfl,by simp,.nil⟩));simp only[F,o,p3,Ay rfl Z,au,zj,B,u,N,b2,aJ];rw[Sb hb'];rfl
   ·rename_i m;obtain⟨mP,rfl,hm⟩:=C;replace e:=BE e;obtain⟨q,e⟩:=e;simp only[ak,ay,bA]at q;obtain⟨⟨hb0,S⟩,hb2⟩:=q;have M:U.isSome=zt:=by rw[y.isSome];exact S
    have hl0:l=0:=by
     cases lo with
     |none=>cases J;cases B;rfl
     |some v=>cases hb0
    subst hl0;subst hb2;replace e:=C8 hm e;obtain⟨mn,e,h3⟩:=e;replace e:=AJ e;obtain⟨D,e⟩:=e;replace e:=AJ e;obtain⟨E,e⟩:=e;replace e:=AJ e;obtain⟨g3,e⟩:=e;simp only[VR]at w;obtain⟨pid,m',W,rfl⟩:=w;obtain⟨b,fz',p3,_,p5,_,Z⟩:=r.rowAt W hg;have k:hh<=mn:=by simpa[CI]using D
    have O:off+mn=b.length:=by rw[<- Z.length];simpa[neq,BG,AR]using E
    have g3':off<b.length:=by rw[<- Z.length];simpa[KW,AR]using g3
    have b2:ah (off+hh) b.length=zt:=by simp;omega
    have b3:ah hh mn=zt:=by simp_all
    have b4:aa (off+mn) b.length=zt:=by simp_all
    have b5:af off b.length=zt:=by simp_all
    unfold Pi.Af;refine .same r e (p:=.own pid off hh) ?_ (by simp_all[VR]);simp only[F,o,p3,Ay rfl Z,au,zj,B,u,h3,M,b2,b3,b4,bg,Nat.sub_zero,b5,aJ,show ah 0 hh=zt from by simp];rfl
  ·cases e
 ·cases e
theorem IK{hh:Hp}{ty:TypeId}{u:TypeDesc}{v:PV}{b:Bool}(d:P.underlying ty=zo u)(c:∀ m,u=.interface m->False):Pi.BK P hh ty v b=(match v with
  |.ifc u a=>bif aa u ty then zo (.val (Pi.Dr b a) hh)else bif b then(match Pi.Bt P ty with
   |some z=>zo (.val (.tup [z,.bool zf]) hh)
   |none=>zn)else zn
  |.nili=>bif b then(match Pi.Bt P ty with
   |some z=>zo (.val (.tup [z,.bool zf]) hh)
   |none=>zn)else zn
  |_=>zn):=by
 grind [Pi.BK]
theorem Qi{t:TypeId}{u:TypeDesc}{A B C:FuncId->Option Pi.R}(d:P.underlying t=zo u)(c:∀ m,u=.pointer m->False){b:Bool}{a:Option (FuncId×Bool)}{g:FuncId}:b=zt->a=zo (g,zf) ->
  (match b,a,P.underlying t with
   |true,zo (g,zt),zo (.pointer _)=>A g
   |true,zo (g,zf),zo (.pointer _)=>C g
   |true,zo (g,zf),zo _=>B g
   |_,_,_=>zn)=B g:=by
 simp_all
theorem ML(r:RH X h n){ty:TypeId}{a:V}{p:PV}{c:Bool}{K:V->Option β}(b:VR X a p)(e:Jr P ty a c K=zo x):∃ v q,K v=zo x/\Pi.BK P X.h ty p c=zo (.val q X.h)/\VR X v q:=by
 have d : ∀ {K:V->Option β},(bif c then CV (C9 P ty) λz=>K (.tup [z,.bool zf]) else zn)=zo x -> ∃ v q,K v=zo x/\(bif c then (match Pi.Bt P ty with
    |some z=>zo (Pi.R.val (.tup [z,.bool zf]) X.h)
    |none=>zn)else zn)=zo (Pi.R.val q X.h)/\VR X v q:=by
  clear e;intro K e;replace e:=AK e;obtain⟨g,e⟩:=e;subst g;replace e:=AD e;obtain⟨z,s,e⟩:=e;obtain⟨B,w,A⟩:=GD (X:=X) s;exact⟨_,.tup [B,.bool zf],e,by simp[w],by simp only[VR];exact⟨_,rfl,.cons A (.cons (by simp[VR]) .nil)⟩⟩
 have t:∀ {v:V} {q:PV},VR X v q->VR X (E9 c v) (Pi.Dr c q):=by
  intro v q h;cases c
  ·exact h
  ·simp only[E9,Pi.Dr,zb,VR];exact⟨_,rfl,.cons h (.cons (by simp[VR]) .nil)⟩
 have C:=@d;unfold Jr at e;split at e
 ·rename_i k j;unfold Pi.BK;simp only[j];split at e
  ·rename_i u a;have l:=b;simp only[VR]at b;obtain⟨q,rfl,b⟩:=b;split at e
   ·rename_i i hi;simp only[hi];split at e
    ·grind
    ·rename_i y o;simp only[o];exact d e
   ·cases e
  ·simp only[VR]at b;subst b;exact d e
  ·cases e
 ·rename_i u j f;clear d;rw[IK f j];split at e
  ·rename_i D a;simp only[VR]at b;obtain⟨q,rfl,b⟩:=b;replace e:=BV e;rcases e with⟨m,e⟩|⟨m,e⟩
   ·grind
   simp_all
  ·simp_all[VR]
  ·cases e
 ·cases e
theorem TA{α:Type}{c:Bool}{a b:α}(h:c=zt):(bif c then a else b)=a:=by subst h;rfl
theorem EL{f:Fn}{first cap args:List V}{a b argsP:List PV}{K:RA->Option β}(k:VRL X first a)(s:VRL X cap b)(l:VRL X args argsP)(e:FJ P f first cap args K=zo x) :
  ∃ g j o,K (.call g j)=zo x/\Pi.CB P f a b argsP=zo (.call g o)/\VRL X j o:=by
 unfold FJ at e;unfold Pi.CB;split at e
 ·split at e
  ·rename_i D E;replace e:=AK e;obtain⟨n,e⟩:=e;refine⟨_,_,_,e,?_,(k.append l).append s⟩<;>grind
  ·cases e
 ·split at e
  ·rename_i t v rest h;have c:=k.append l;rw[h]at c;obtain⟨p,F,z,d,r⟩:=c.cons_inv;simp only[VR]at d;obtain⟨q,rfl,d⟩:=d;rw[z];split at e
   ·rename_i i hi;simp only[hi];split at e
    ·rename_i m w;simp only[w];split at e
     ·rename_i g A B C;replace e:=AK e;obtain⟨n,e⟩:=e;refine⟨_,_,_,e,?_,.cons d r⟩<;>grind
     ·cases e
     ·rename_i g u y A B C;replace e:=AK e;obtain⟨n,e⟩:=e;refine⟨_,_,_,e,?_,.cons d r⟩<;>grind
     ·cases e
    ·cases e
   ·cases e
  ·cases e
 ·cases e
end
end
section
variable[Pi.Gl]
open Pi (PV T Hp Blk DF UM PE AN AT AB AV Ao)
section
variable{X:Cx}{h:H}{n id idP:Nat}{β:Type}{x:β}{P:Program}
inductive EvOk (X:Cx) (h:H) (n id idP:Nat) (K:RA->Option β) (x:β):Option Pi.R->Prop where
 |val {v:V} {h':H} {p:PV} {hP':Hp} {Y:Cx} (e:K (.val v h')=zo x) (ok:FW X h n id idP h' hP' Y) (hv:VR Y v p):EvOk X h n id idP K x (zo (.val p hP'))
 |skip {h':H} {hP':Hp} {Y:Cx} (e:K (.skip h')=zo x) (ok:FW X h n id idP h' hP' Y):EvOk X h n id idP K x (zo (.skip hP'))
 |call {f:FuncId} {as:List V} {ps:List PV} (e:K (.call f as)=zo x) (ha:VRL X as ps):EvOk X h n id idP K x (zo (.call f ps))
 |yield {l lP m:Nat} {as:List V} {ps:List PV} (e:K (.yield l as)=zo x) (hl:X.π l=zo (.blk lP m)) (ha:VRL X as ps):EvOk X h n id idP K x (zo (.yield lP ps))
 |pan {v:V} {p:PV} (e:K (.pan v)=zo x) (hv:VR X v p):EvOk X h n id idP K x (zo (.pan p))
 |rcv (e:K .rcv=zo x):EvOk X h n id idP K x (zo .rcv)
 |dfr {d:DFA} {dP:DF} (e:K (.dfr d)=zo x) (hd:DFR X d dP):EvOk X h n id idP K x (zo (.dfr dP))
theorem EvOk.ofV(r:RH X h n){K:RA->Option β}{o:Option Pi.R}{v:V}{p:PV}(e:K (.val v h)=zo x)(a:o=zo (.val p X.h))(b:VR X v p):EvOk X h n id idP K x o:=by
 subst a;exact .val e ⟨rfl,r,St.refl _ _ _ _⟩ b
theorem VOk.ev{K:RA->Option β}{o:Option Pi.R}(k:VOk X h n id idP K x o):EvOk X h n id idP K x o:=by
 obtain⟨v,h',p,a,Y,e,rfl,b,c⟩:=k;exact .val e b c
theorem Js(r:RH X h n)(w:Nw X n id idP){cs:List V}{a:List PV}{K:RA->Option β}(hc:VRL X cs a)(e:K (.val (.ptr id 0) (AG h id (.box cs zf zf)))=zo x) :
  EvOk X h n id idP K x ((X.h.new idP (.box a zf)).map λh=>.val (.ptr idP 0) h):=by
 obtain⟨g,e1⟩:=F7 X.h idP (.box a zf) w.hp
 obtain⟨Y,f,c,d,i⟩:=r.new (m:=0) (b:=.box cs zf zf) w.small w.lt w.pi w.hlt e1 (λY f c d u=>
  ⟨idP,0,a,zf,rfl,(d _).2 (.inr rfl),by rw[c,(Hp.get_new e1).2.1,zy rfl],λ_=>rfl,hc.mono u⟩)
 rw[e1];refine .val e ⟨c,d,i⟩ ?_;simp only[VR];exact⟨idP,0,by rw[f];exact zy rfl,rfl⟩
theorem PT{t:T V}{tP:T PV}(r:RH X h n)(w:Nw X n id idP)(z:TR X t tP){o:Oper}{K:RA->Option β}(e:TD P t h id o K=zo x):EvOk X h n id idP K x (Pi.AQ P tP X.h idP o):=by
 unfold TD at e;unfold Pi.AQ;split at e
 ·rename_i a l;simp only[l];replace e:=AM z e;obtain⟨v,p,e,y,j⟩:=e;exact .ofV r e (BC y) j
 ·rename_i a l;simp only[l];replace e:=AM z e;obtain⟨v,p,e,y,j⟩:=e;exact .ofV r e (BC y) j
 ·rename_i c a b l;simp only[l,Pi.e3];replace e:=AM z e;obtain⟨vc,pc,e,c1,c2⟩:=e;replace e:=AM z e;obtain⟨va,pa,e,a1,a2⟩:=e;replace e:=AM z e;obtain⟨vb,pb,e,b1,b2⟩:=e;simp only[c1,a1,b1];split at e
  ·simp only[VR]at c2;subst c2;replace e:=BN e;rcases e with⟨hc,e⟩|⟨hc,e⟩
   ·subst hc;exact .ofV r e rfl a2
   ·subst hc;exact .ofV r e rfl b2
  ·cases e
 ·rename_i ty l;simp only[l];replace e:=AD e;obtain⟨cs,hcs,e⟩:=e;obtain⟨C,L,N⟩:=B5 (X:=X) hcs;unfold Pi.Cj;simp only[L];exact Js r w N e
 ·rename_i ty a l;simp only[l,Pi.e1];replace e:=AM z e;obtain⟨v,p,e,y,j⟩:=e;simp only[y];split at e
  ·cases e
  ·rename_i E
   have hp:Pi.Fa X.h idP p=(X.h.new idP (.box p.cells zf)).map λh=>.val (.ptr idP 0) h:=by
    cases p with
    |tup C=>
     exfalso;cases v with
     |tup=>exact E _ rfl
     |ow i=>
      simp only[VR]at j;split at j<;>first|(cases j;done)|exact j
     |lf=>
      simp only[VR]at j;rcases j with⟨j,_⟩|⟨_,_,j,_⟩|⟨_,_,_,_,_,_,j,_⟩<;>cases j
     |view=>
      simp only[VR]at j;rcases j with⟨_,j,_⟩|⟨_,_,_,_,_,_,_,j,_⟩<;>cases j
     |agg=>obtain⟨_,B,_⟩:=j.agg_inv;cases B
     |exl=>simp only[VR]at j;obtain⟨_,_,j,_⟩:=j;cases j
     |pl=>simp only[VR]at j;rcases j with⟨j,_⟩|⟨_,_,j,_⟩<;>cases j
     |pv=>simp only[VR]at j;obtain⟨_,j,_⟩:=j;cases j
     |own=>simp only[VR]at j;obtain⟨_,_,_,j⟩:=j;cases j
     |ptr=>simp only[VR]at j;obtain⟨_,_,_,j⟩:=j;cases j
     |ept=>simp only[VR]at j;obtain⟨_,_,_,j⟩:=j;cases j
     |aptr=>simp only[VR]at j;obtain⟨_,_,_,j,_⟩:=j;cases j
     |fn=>simp only[VR]at j;obtain⟨_,_,j,_⟩:=j;cases j
     |yl=>simp only[VR]at j;obtain⟨_,_,_,j⟩:=j;cases j
     |mp=>simp only[VR]at j;obtain⟨_,_,_,j⟩:=j;cases j
     |ifc=>simp only[VR]at j;obtain⟨_,j,_⟩:=j;cases j
     |_=>simp only[VR]at j;cases j
    |_=>rfl
   rw[hp];exact Js r w j.cells e
 ·rename_i ty G l;simp only[l];replace e:=Ey z e;obtain⟨vs,C,e,y,j⟩:=e;simp only[y];obtain⟨v,q,e1,e2,e3⟩:=OH (X:=X) j e;exact .ofV r e1 e2 e3
 ·rename_i ty len G l;simp only[l];replace e:=Ey z e;obtain⟨vs,C,e,y,j⟩:=e;simp only[y];exact(H8 r w.big j e).ev
 ·rename_i ty a l;simp only[l,Pi.e1];replace e:=AM z e;obtain⟨v,p,e,y,j⟩:=e;simp only[y];obtain⟨v,q,e1,e2,e3⟩:=Pt r j e;exact .ofV r e1 e2 e3
 ·rename_i ty a b l;simp only[l,Pi.e2];replace e:=AM z e;obtain⟨v,p,e,y,j⟩:=e;replace e:=AM z e;obtain⟨J,F,e,B,A⟩:=e;simp only[y,B];obtain⟨h',D,Y,e1,e2,e3⟩:=Jk r w.big j A id idP e;rw[e2];exact .skip e1 e3
 ·rename_i a l;simp only[l,Pi.e1];replace e:=AM z e;obtain⟨v,p,e,y,j⟩:=e;simp only[y];obtain⟨v,q,e1,e2,e3⟩:=RG (h:=X.h) j e;exact .ofV r e1 e2 e3
 ·rename_i op ty a b ty2 l;simp only[l,Pi.e2];replace e:=AM z e;obtain⟨v,p,e,y,j⟩:=e;replace e:=AM z e;obtain⟨J,F,e,B,A⟩:=e;simp only[y,B];obtain⟨v,q,e1,e2,e3⟩:=Qq (h:=X.h) j A e;exact .ofV r e1 e2 e3
 ·rename_i op ty a l;simp only[l,Pi.e1];replace e:=AM z e;obtain⟨v,p,e,y,j⟩:=e;simp only[y];obtain⟨v,q,e1,e2,e3⟩:=SM j e;exact .ofV r e1 (BC e2) e3
 ·rename_i s d a l;simp only[l,Pi.e1];replace e:=AM z e;obtain⟨v,p,e,y,j⟩:=e;simp only[y];obtain⟨v,q,e1,e2,e3⟩:=LA (h:=X.h) j e;exact .ofV r e1 e2 e3
 ·rename_i ty a l;simp only[l,Pi.e1];replace e:=AM z e;obtain⟨v,p,e,y,j⟩:=e;simp only[y];obtain⟨v,q,e1,e2,e3⟩:=Q0 (h:=X.h) j e;exact .ofV r e1 e2 e3
 ·rename_i f first cap l
  simp only[l];replace e:=GW z e;obtain⟨vs,C,e,y,j⟩:=e;replace e:=GW z e;obtain⟨vs',I,e,B,A⟩:=e;simp only[y,B];split at e
  ·cases e
  ·rename_i f' E;refine .ofV r e (p:=.fn f C I) ?_ (by simp only[VR];exact⟨_,_,rfl,j,A⟩);unfold Pi.BF;split
   ·exact absurd rfl (E _)
   ·rfl
 ·rename_i ty l;simp only[l];unfold La at e;split at e
  ·split at e
   ·rename_i k g c hk hc;obtain⟨D,e1⟩:=F7 X.h idP (.mp []) w.hp
    obtain⟨Y,y1,y2,y3,y4⟩:=r.new (m:=0) (b:=.mp k g c [] zf) w.small w.lt w.pi w.hlt e1 (λY y1 y2 y3 u=>
     ⟨idP,0,[],rfl,(y3 _).2 (.inr rfl),by rw[y2,(Hp.get_new e1).2.1,zy rfl],.nil⟩)
    rw[e1];refine .val e ⟨y2,y3,y4⟩ ?_;simp only[VR];exact⟨idP,0,by rw[y1];exact zy rfl,rfl⟩
   ·cases e
  ·cases e
 ·rename_i ty a b l;simp only[l,Pi.e2];replace e:=AM z e;obtain⟨v,p,e,y,j⟩:=e;replace e:=AM z e;obtain⟨J,F,e,B,A⟩:=e;simp only[y,B];refine(Py r w (λhs=> ?_) j A e).ev;unfold N5 at hs;split at hs
  ·have:=aj hs;subst this;rw[y]at B;exact Option.some.inj B
  ·cases hs
 ·rename_i ty a lo hi mx l;simp only[l,Pi.e1];replace e:=J2 z e;obtain⟨vl,pl,e,l1,l2⟩:=e;replace e:=J2 z e;obtain⟨vh,ph,e,i1,i2⟩:=e;replace e:=J2 z e;obtain⟨vm,pm,e,m1,m2⟩:=e;replace e:=AM z e;obtain⟨v,p,e,y,j⟩:=e;simp only[l1,i1,m1,y];split at e
  ·rename_i hu;split at e
   ·cases pl with
    |some _=>exact absurd l2 (by simp[VRO])
    |none=>cases ph with
     |some _=>exact absurd i2 (by simp[VRO])
     |none=>cases pm with
      |some _=>exact absurd m2 (by simp[VRO])
      |none=>
       have:=(Kr (id:=id) (idP:=idP) r w.big j e).ev;unfold Pi.Af;rw[hu];exact this
   ·cases e
  ·obtain⟨v,q,D,Y,e1,e2,e3,e4⟩:=Ox (id:=id) (idP:=idP) r w.big j l2 i2 m2 e;rw[e2];exact .val e1 e3 e4
 ·rename_i s a f l;simp only[l,Pi.e1];replace e:=AM z e;obtain⟨v,p,e,y,j⟩:=e;simp only[y];obtain⟨v,q,e1,e2,e3⟩:=Iu j e;exact .ofV r e1 e2 e3
 ·rename_i ty a f l;simp only[l,Pi.e1];replace e:=AM z e;obtain⟨v,p,e,y,j⟩:=e;simp only[y];obtain⟨v,q,e1,e2,e3⟩:=OW (h:=X.h) j e;exact .ofV r e1 e2 e3
 ·rename_i ty a b l;simp only[l,Pi.e2];replace e:=AM z e;obtain⟨v,p,e,y,j⟩:=e;replace e:=AM z e;obtain⟨J,F,e,B,A⟩:=e;simp only[y,B];obtain⟨v,q,e1,e2,e3⟩:=Iw r j A e;exact .ofV r e1 e2 e3
 ·rename_i ty a b l;simp only[l,Pi.e2];replace e:=AM z e;obtain⟨v,p,e,y,j⟩:=e;replace e:=AM z e;obtain⟨J,F,e,B,A⟩:=e;simp only[y,B];obtain⟨v,q,e1,e2,e3⟩:=OZ (X:=X) j A e;exact .ofV r e1 e2 e3
 ·rename_i ty a b ok l;simp only[l,Pi.e2];replace e:=AM z e;obtain⟨v,p,e,y,j⟩:=e;replace e:=AM z e;obtain⟨J,F,e,B,A⟩:=e;simp only[y,B];obtain⟨v,q,e1,e2,e3⟩:=Mm r j A e;exact .ofV r e1 e2 e3
 ·rename_i ty a k b l;simp only[l,Pi.e3];replace e:=AM z e;obtain⟨v,p,e,y,j⟩:=e;replace e:=AM z e;obtain⟨J,F,e,B,A⟩:=e;replace e:=AM z e;obtain⟨v'',p'',e,U,W⟩:=e;simp only[y,B,U];obtain⟨h',D,Y,e1,e2,e3⟩:=Fh r w.big j A W id idP e;rw[e2];exact .skip e1 e3
 ·rename_i ty a k b l;simp only[l,Pi.e3];replace e:=AM z e;obtain⟨v,p,e,y,j⟩:=e;replace e:=AM z e;obtain⟨J,F,e,B,A⟩:=e;replace e:=AM z e;obtain⟨v'',p'',e,U,W⟩:=e;simp only[y,B,U];obtain⟨h',D,Y,e1,e2,e3⟩:=Fh r w.big j A W id idP e;rw[e2];exact .skip e1 e3
 ·rename_i a ty1 ty ok l;simp only[l,Pi.e1];replace e:=AM z e;obtain⟨v,p,e,y,j⟩:=e;simp only[y];obtain⟨v,q,e1,e2,e3⟩:=ML r j e;exact .ofV r e1 e2 e3
 ·rename_i a i l;simp only[l,Pi.e1];replace e:=AM z e;obtain⟨v,p,e,y,j⟩:=e;simp only[y];split at e
  ·replace e:=AD e;obtain⟨v,hv,e⟩:=e;simp only[VR]at j;obtain⟨C,rfl,j⟩:=j;obtain⟨q,q1,q2⟩:=j.lget hv;exact .ofV r e (BC q1) q2
  ·cases e
 ·rename_i a l;simp only[l,Pi.e1];replace e:=AM z e;obtain⟨v,p,e,y,j⟩:=e;simp only[y];split at e
  ·have O:=j;simp only[VR]at j;obtain⟨q,rfl,j⟩:=j;exact .pan e O
  ·cases e
 ·rename_i c l;simp only[l];replace e:=GW z e;obtain⟨vs,C,e,y,j⟩:=e;simp only[y];split at e
  ·rename_i b Z;simp only[Z];rcases K4 r w j e with k|⟨v,p,e1,e2,e3⟩|⟨e1,e2⟩
   ·exact k.ev
   ·rw[e2];exact .pan e1 e3
   ·rw[e2];exact .rcv e1
  ·rename_i f M;simp only[M,Pi.e1];replace e:=AM z e;obtain⟨v,p,e,B,A⟩:=e;simp only[B];split at e
   ·simp only[VR]at A;obtain⟨a',b',rfl,L,N⟩:=A;obtain⟨g,as,I,e1,e2,e3⟩:=EL L N j e;show EvOk X h n id idP K x (Pi.CB P _ a' b' C);rw[e2];exact .call e1 e3
   ·simp only[VR]at A;obtain⟨pid,m,L,rfl⟩:=A;exact .yield e L j
   ·cases e
  ·rename_i recv name M;simp only[M,Pi.e1];replace e:=AM z e;obtain⟨v,p,e,B,A⟩:=e;simp only[B];obtain⟨g,as,I,e1,e2,e3⟩:=EL (.cons A .nil) .nil j e;rw[e2];exact .call e1 e3
 ·rename_i c l;simp only[l];replace e:=GW z e;obtain⟨vs,C,e,y,j⟩:=e;simp only[y];split at e
  ·rename_i b Z;simp only[Z];exact .dfr e ⟨C,rfl,j⟩
  ·rename_i f M;simp only[M,Pi.e1];replace e:=AM z e;obtain⟨v,p,e,B,A⟩:=e;simp only[B];split at e
   ·have S:=A;simp only[VR]at A;obtain⟨a',b',rfl,L,N⟩:=A;exact .dfr e ⟨_,C,rfl,S,j⟩
   ·cases e
  ·cases e
 ·cases e
end
end
section
variable[Pi.Gl]
open Pi (PV T Hp Blk DF UM PE AN AT AB AV Ao)
def UC(X:Cx)(a:PEA)(b:PE):Prop:=VR X a.v b.v/\a.recovered=b.recovered
def UMR(X:Cx):Option UMA->Option UM->Prop
 |none,u=>u=zn
 |some .ret,u=>u=zo .ret
 |some (.pan ch),u=>∃ c,u=zo (.pan c)/\L2 (UC X) ch c
def ROR(X:Cx):Option Nat->Option Nat->Prop
 |none,r=>r=zn
 |some l,r=>∃ p m,X.π l=zo (.blk p m)/\r=zo p
structure FR (X:Cx) (fr:FrA) (fp:Pi.Fr):Prop where
 t:TR X fr.t fp.t
 nt:fp.nt=fr.nt
 big:fr.nt<1048575
 ds:L2 (DFR X) fr.ds fp.ds
 up:UMR X fr.up fp.up
 ro:ROR X fr.ro fp.ro
def ME(X:Cx):ExA->Pi.Ex->Prop
 |.normal,e=>e=.normal
 |.exit i,e=>e=.exit i
 |.goto i,e=>e=.goto i
 |.ret,e=>e=.ret
 |.panic v,e=>∃ p,e=.panic p/\VR X v p
def MJ(X:Cx):OutA->Pi.Out->Prop
 |.ret v,o=>∃ p,o=.ret p/\VR X v p
 |.pan ch,o=>∃ c,o=.pan c/\L2 (UC X) ch c
theorem UMR.mono{X Y:Cx}(u:Up X Y){a:Option UMA}{b:Option UM}(h:UMR X a b):UMR Y a b:=by
 cases a with
 |none=>exact h
 |some a=>cases a with
  |ret=>exact h
  |pan f=>obtain⟨c,d,e⟩:=h;exact⟨c,d,e.mono λ_ _ k=>⟨k.1.mono u,k.2⟩⟩
theorem ROR.mono{X Y:Cx}(u:Up X Y){a b:Option Nat}(h:ROR X a b):ROR Y a b:=by
 cases a with
 |none=>exact h
 |some l=>obtain⟨p,m,c,d⟩:=h;exact⟨p,m,u.pi _ _ c,d⟩
theorem FR.mono{X Y:Cx}(u:Up X Y){fr:FrA}{fp:Pi.Fr}(h:FR X fr fp):FR Y fr fp:=
 ⟨h.t.mono u,h.nt,h.big,h.ds.mono λ_ _ k=>k.mono u,h.up.mono u,h.ro.mono u⟩
def Cx.low(X:Cx)(b:Nat):Cx:={ X with π:=λi=>if i<b then X.π i else zn }
theorem Cx.low_eq{X:Cx}{b i:Nat}(h:i<b):(X.low b).π i=X.π i:=zy h
theorem Cx.low_ge{X:Cx}{b i:Nat}(h:¬ i<b):(X.low b).π i=zn:=zx h
theorem Up.low(X:Cx)(b:Nat):Up (X.low b) X:=by
 refine⟨λi a h=> ?_,λ_ _ _ _ h k=>⟨⟨_,k⟩,h⟩⟩
 grind [Cx.low_eq,Cx.low_ge]
theorem Up.toLow{X:Cx}{h:H}{n b:Nat}(r:RH X h n)(c:n<=b):Up X (X.low b):=by
 refine⟨λi a h=> ?_,λ_ _ _ _ h k=>⟨⟨_,k⟩,h⟩⟩;rw[Cx.low_eq (cf (r.dom _ _ h) c)];exact h
theorem Up.lowLe{X:Cx}{b c:Nat}(d:b<=c):Up (X.low b) (X.low c):=by
 refine⟨λi a h=> ?_,λ_ _ _ _ h k=>⟨⟨_,k⟩,h⟩⟩
 grind [Cx.low_eq,Cx.low_ge]
structure Ext (b bP:Nat) (X:Cx) (h:H) (Y:Cx) (h':H):Prop where
 up:Up (X.low b) Y
 pin:∀ j,j<b->X.π j=zn->Y.π j=zn
 hpn:∀ q,q<bP->X.h.get q=zn->Y.h.get q=zn
 nx:X.h.nx<=Y.h.nx
 lk:∀ j c,h.get j=zo c->c.locked=zt->h'.get j=zo c
 lps:∀ q st pe nt t ps asg body d,X.h.get q=zo (.lp st pe nt t ps asg body d) -> ∃ st' pe',Y.h.get q=zo (.lp st' pe' nt t ps asg body d)
theorem Ext.refl(b bP:Nat)(X:Cx)(h:H):Ext b bP X h X h:=⟨Up.low X b,λ_ _ h=>h,λ_ _ h=>h,ad _,λ_ _ h _=>h,λ_ c a _ _ _ _ _ _ h=>⟨c,a,h⟩⟩
theorem Ext.trans{b bP:Nat}{X Y Z:Cx}{h h' h'':H}(a:Ext b bP X h Y h')(c:Ext b bP Y h' Z h''):Ext b bP X h Z h'' where
 up:=by
  have s:Up (X.low b) (Y.low b):=by
   refine⟨λi x hi=> ?_,a.up.rows⟩;by_cases f:i<b
   ·rw[Cx.low_eq f];exact a.up.pi _ _ hi
   ·rw[Cx.low_ge f]at hi;cases hi
  exact s.trans c.up
 pin:=λj g k=>c.pin j g (a.pin j g k)
 hpn:=λq m k=>c.hpn q m (a.hpn q m k)
 nx:=ax a.nx c.nx
 lk:=λj x k l=>c.lk j x (a.lk j x k l) l
 lps:=λq y u nt t w n e d k=>by
  obtain⟨r,p,o⟩:=a.lps _ _ _ _ _ _ _ _ _ k;exact c.lps _ _ _ _ _ _ _ _ _ o
theorem Ext.le{b c bP d:Nat}(e:b<=c)(g:bP<=d){X Y:Cx}{h h':H}(a:Ext c d X h Y h'):Ext b bP X h Y h':=
 ⟨(Up.lowLe e).trans a.up,λj f k=>a.pin j (by omega) k,λq i k=>a.hpn q (by omega) k,a.nx,a.lk,a.lps⟩
theorem St.ext{b bP id idP:Nat}{X Y:Cx}{h h':H}(s:St X h id idP Y h')(g:b<=id)(l:bP<=idP):Ext b bP X h Y h':=
 ⟨(Up.low X b).trans s.up,λj i k=>s.pin j (by omega) k,λq m k=>s.hpn q (by omega) k,Nat.le_of_eq s.nx.symm,s.lk,λq f e nt t n c a d k=>⟨f,e,s.lps _ _ _ _ _ _ _ _ _ k⟩⟩
theorem Ext.full{b bP n:Nat}{X Y:Cx}{h h':H}(a:Ext b bP X h Y h')(r:RH X h n)(c:n<=b):Up X Y:=(Up.toLow r c).trans a.up
def domX(hh:Hp)(Q b:Nat->Prop):(l:List (Bool×Ty))->AP l->List PV->Prop
 |[],_,ps=>ps=[]
 |[p],x,ps=>∃ a,ps=[a]/\EP p.1 (DX hh Q b p.2) x a
 |p::q::r,x,ps=>∃ a t,ps=a::t/\EP p.1 (DX hh Q b p.2) x.1 a/\domX hh Q b (q::r) x.2 t
def Dj:(l:List (Bool×Ty))->AP l->List PV->Prop
 |[],_,ps=>ps=[]
 |[p],x,ps=>∃ a,ps=[a]/\EP p.1 (DP p.2) x a
 |p::q::r,x,ps=>∃ a t,ps=a::t/\EP p.1 (DP p.2) x.1 a/\Dj (q::r) x.2 t
section
variable{X:Cx}{h:H}{n id idP:Nat}{β:Type}{x:β}{P:Program}
theorem Bq(r:RH X h n){Q:Nat->Prop}(g:∀ pid,X.Q pid->Q pid):∀ {l:List (Bool×Ty)} {vs:List V} {c:List PV} {K:AP l->Option β},(∀ id pid m,id∈DN vs->X.π id=zo (.blk pid m)->Q pid)->VRL X vs c->Bu h l vs K=zo x -> ∃ y,K y=zo x/\domX X.h Q X.Q l y c
 |[],vs,c,K,hq,hv,e=>by
  unfold Bu at e;split at e
  ·exact⟨(),e,hv.nil_inv⟩
  ·cases e
 |[p],vs,c,K,hq,hv,e=>by
  unfold Bu at e;split at e
  ·rename_i v;obtain⟨a,i,rfl,d,f⟩:=hv.cons_inv;obtain⟨y,e1,k⟩:=GO (Q:=Q) r (λid pid m hi b=>hq id pid m (by simpa[DN]using hi) b) g d e;exact⟨y,e1,a,by rw[f.nil_inv],k⟩
  ·cases e
 |p::q::rr,vs,c,K,hq,hv,e=>by
  unfold Bu at e;split at e
  ·rename_i v o;obtain⟨a,i,rfl,d,f⟩:=hv.cons_inv;obtain⟨y,e1,k⟩:=GO (Q:=Q) r (λid pid m hi b=>hq id pid m (by simp[DN,hi]) b) g d e
   obtain⟨z,e2,j⟩:=Bq r g (l:=q::rr) (λid pid m hi b=>hq id pid m (by
    simp_all[DN,List.flatMap_cons,an]) b) f e1
   exact⟨(y,z),e2,a,i,rfl,k,j⟩
  ·cases e
theorem IG{p:Bool×Ty}{l:List (Bool×Ty)}(h:Co (p::l)=zt):p.2.depth<=4/\(p.1=zt\/p.2.leaf=zt)/\Co l=zt:=by
 simp_all[Co,aZ,ac,Bool.or_eq_true]
theorem ED{hh:Hp}{Q w:Nat->Prop}(f:∀ i,w i->Q i):∀ {l:List (Bool×Ty)} {y:AP l} {e:List PV},Co l=zt->domX hh Q w l y e -> ∃ x lP,Ao hh e=zo (x,lP)/\Dj l y x/\Met hh Q lP
 |[],y,e,k,h=>by rw[show e=[]from h];exact⟨[],[],rfl,rfl,.nil⟩
 |[p],y,e,k,⟨a,m,n⟩=>by
  subst m;have g:=(IG k).1;obtain⟨q,c,o,s,u⟩:=QG (d:=Pi.AS) f n (by show _<=12;omega);exact⟨[q],c++[],by simp only[Ao,o],⟨q,rfl,s⟩,u.append .nil⟩
 |p::q::r,y,e,k,⟨a,t,m,n,A⟩=>by
  subst m;have g:=IG k;obtain⟨b,c,o,s,u⟩:=QG (d:=Pi.AS) f n (by show _<=12;omega);obtain⟨z,j,B,C,D⟩:=ED f (l:=q::r) g.2.2 A;exact⟨b::z,c++j,by rw[Ao,o,B],⟨b,z,rfl,s,C⟩,u.append D⟩
def Hq(hh:Hp):(l:List (Bool×Ty))->AP l->PV->Prop
 |[p],y,r=>EP p.1 (DX hh (λ_=>True) (λ_=>True) p.2) y r
 |l,y,r=>∃ rs,r=.tup rs/\domX hh (λ_=>True) (λ_=>True) l y rs
def RV:(l:List (Bool×Ty))->AP l->PV->Prop
 |[p],y,r=>EP p.1 (DP p.2) y r
 |l,y,r=>∃ rs,r=.tup rs/\Dj l y rs
theorem DP.flat:∀ {c:Ty} {y:c.den} {g:List PV},c.hasSl=zf->DP c y g->Pi.BP g=zt
 |.int _,_,_,_,e=>by subst e;rfl
 |.bool,_,_,_,e=>by subst e;rfl
 |.str,_,_,_,e=>by subst e;rfl
 |.unit,_,_,_,e=>by subst e;rfl
 |.pair a b,_,_,hs,⟨p,q,e,d,f⟩=>by
  subst e;simp only[Ty.hasSl,ak]at hs;have i:=DP.flat hs.1 d;have h:=DP.flat hs.2 f;clear d f
  induction p with
  |nil=>exact h
  |cons a p j=>
   simp_all[Pi.BP,ac,List.cons_append,cr]
 |.sl _ _,_,_,hs,_=>by cases hs
theorem EP.flat{g:Bool}{c:Ty}{y:c.den}{e:PV}(hs:c.hasSl=zf)(h:EP g (DP c) y e):Pi.flat e=zt:=by
 cases g with
 |true=>obtain⟨cs,rfl,h⟩:=h;exact DP.flat hs h
 |false=>
  have:=DP.flat hs (show DP c y [e]from h);simpa[Pi.BP]using this
theorem G0:∀ {l:List (Bool×Ty)} {y:AP l} {e:List PV},B3 l=zf->Dj l y e->Pi.BP e=zt
 |[],_,_,_,h=>by rw[show _=[]from h];rfl
 |[p],_,_,hs,⟨a,b,c⟩=>by
  grind [B3,Pi.BP,EP.flat]
 |p::q::r,_,_,hs,⟨a,t,b,c,f⟩=>by
  subst b;have d:p.2.hasSl=zf/\B3 (q::r)=zf:=by simpa[B3]using hs
  simp only[Pi.BP,EP.flat d.1 c,cr];exact G0 d.2 f
theorem Jd{l:List (Bool×Ty)}{y:AP l}{r:PV}(hs:B3 l=zf)(h:RV l y r):Pi.flat r=zt:=by
 match l,y,h with
 |[],y,⟨rs,a,b⟩=>subst a;exact G0 hs b
 |[p],y,h=>exact EP.flat (by simpa[B3]using hs) h
 |p::q::rr,y,⟨rs,a,b⟩=>subst a;exact G0 hs b
theorem Dy:∀ {l:List (Bool×Ty)} {y:AP l} {d:List PV},Dj l y d->VRL X (EZ l y) d
 |[],_,_,h=>by rw[show _=[]from h];exact .nil
 |[p],_,_,⟨a,b,c⟩=>by subst b;exact .cons (DJ c) .nil
 |p::q::r,_,_,⟨a,t,b,c,e⟩=>by subst b;exact .cons (DJ c) (Dy e)
theorem Gr{l:List (Bool×Ty)}{y:AP l}{r:PV}(h:RV l y r):VR X (Qb l y) r:=by
 match l,y,h with
 |[],y,⟨rs,d,e⟩=>
  subst d;show VR X (.tup []) (.tup rs);have f:rs=[]:=e;subst f;simp only[VR];exact⟨[],rfl,.nil⟩
 |[(zt,c)],y,h=>exact DJ (g:=true) h
 |[(zf,.int k)],y,h=>exact DJ (g:=false) (c:=.int k) h
 |[(zf,.bool)],y,h=>exact DJ (g:=false) (c:=.bool) h
 |[(zf,.str)],y,h=>exact DJ (g:=false) (c:=.str) h
 |[(zf,.unit)],y,h=>exact DJ (g:=false) (c:=.unit) h
 |[(zf,.pair a b)],y,h=>exact DJ (g:=false) (c:=.pair a b) h
 |[(zf,.sl g c)],y,h=>
  show VR X (.lf zf g c y) r;obtain⟨p,j,d⟩:=(show DP (.sl g c) y [r]from h)
  grind [VR]
 |p::q::rr,y,⟨rs,d,e⟩=>
  subst d
  have i:Qb (p::q::rr) y=.tup (EZ (p::q::rr) y):=by
   obtain⟨gg,c⟩:=p;cases gg<;>cases c<;>rfl
  rw[i];simp only[VR];exact⟨rs,rfl,Dy e⟩
theorem Ib:∀ {f:PV->Option (PV×List Nat)} {d:List PV} {k:Nat} {c:List PV} {l:List Nat},AB f d=zo (c,l) -> ∃ l',AB f (d.take k)=zo (c.take k,l')
 |f,[],k,c,l,e=>by simp_all[AB]
 |f,p::d,0,c,l,e=>⟨[],by rfl⟩
 |f,p::d,k+1,c,l,e=>by
  simp only[AB]at e;split at e
  ·rename_i q a g b e1 e2;cases e;obtain⟨l',h⟩:=Ib (k:=k) e2
   simp_all[AB]
  ·cases e
theorem Gq{hh:Hp}:∀ {a:List PV},Ao hh a=AB (AV hh Pi.AS) a
 |[]=>rfl
 |p::a=>by
  rw[Ao,AB,Gq]
theorem RH.flag(r:RH X h n)(f:n<=1048575){a:List Nat}{h':H}(d:Kn X a)(e:B9 h a=zo h'):∃ Y:Cx,Y.π=X.π/\Y.O=X.O/\Y.h=X.h/\RH Y h' n /\ ∀ id idP,St X h id idP Y h':=by
 obtain⟨Y,i,j,k,g,_⟩:=r.frozen (lP:=[]) f d e rfl (λq=>by simp) (λq b=>by cases b) 0 0
 have:Y=X:=by
  cases Y;simp_all
 subst this;refine⟨Y,rfl,rfl,rfl,g,λid idP=> ?_⟩;obtain⟨c,l,m,o,p,s⟩:=r.frozen (lP:=[]) f d e rfl (λq=>by simp) (λq b=>by cases b) id idP
 have:c=Y:=by
  cases c;simp_all
 simp_all
theorem RH.borrow(r:RH X h n){bP:Blk}{g:Hp}(z:idP<X.h.nx)(e:X.h.new idP bP=zo g)(A:∀ s o nt t p f c d,bP ≠ .lp s o nt t p f c d):∃ Y:Cx,Y.π=X.π/\Y.O=X.O/\Y.h=g/\RH Y h n /\ ∀ id,St X h id idP Y h:=by
 obtain⟨w,l,x⟩:=Hp.get_new e
 let Y:Cx:={ π:=X.π,h:=g,O:=X.O }
 have y:∀ q,X.O q->q≠idP:=λq a hh=>by subst hh;exact r.ob _ a w
 have u:Up X Y:=⟨λ_ _ h=>h,λq es ex fz a B=>⟨⟨fz,by
  grind⟩,a⟩⟩
 refine⟨Y,rfl,rfl,rfl,⟨λi b hi=>(r.blk _ _ hi).keep u λq m a j=>⟨?_,j⟩,r.inj,r.dom,λq a=> ?_,λq a=> ?_⟩,λid=>⟨u,x,λ_ _ h=>h,λq a C=> ?_,λ_ _ h _=>h,λq s o nt t p f c d a=> ?_⟩⟩
 ·grind
 ·show g.get q=zn;have k:X.h.nx<=q:=by grind
  rw[l,zx (by omega)];exact r.fresh _ k
 ·show g.get q≠zn;rw[l,zx (y _ a)];exact r.ob _ a
 all_goals grind
theorem Nt{k:Hp}{l:List (Bool×Ty)}{y:AP l}{w:PV}(m:Co l=zt)(z:Hq k l y w):∃ q c,AV k Pi.AS w=zo (q,c)/\RV l y q:=by
 have o:∀ {rs:List PV},domX k (λ_=>True) (λ_=>True) l y rs -> ∃ e c,AV k Pi.AS (.tup rs)=zo (.tup e,c)/\Dj l y e:=by
  intro rs A
  have:∀ {l:List (Bool×Ty)} {y:AP l} {rs:List PV},Co l=zt->domX k (λ_=>True) (λ_=>True) l y rs -> ∃ e c,AB (AV k 11) rs=zo (e,c)/\Dj l y e:=by
   intro l
   induction l with
   |nil=>intro y rs _ h;rw[show rs=[]from h];exact⟨[],[],rfl,rfl⟩
   |cons p l B=>
    intro y rs m h;cases l with
    |nil=>
     obtain⟨a,rfl,i⟩:=h
     have j:p.2.depth<=4:=by
      simp_all[Co,aZ,cy,bU,ac]
     obtain⟨q,c,f,g,u⟩:=QG (d:=11) (λ_ h=>h) i (by omega);exact⟨[q],c++[],by simp only[AB,f],q,rfl,g⟩
    |cons q r=>
     obtain⟨a,t,rfl,i,x⟩:=h
     have j:p.2.depth<=4/\Co (q::r)=zt:=by
      simp only[Co,aZ,ac]at m ⊢;exact⟨aq m.1.1,m.2⟩
     obtain⟨b,c,f,g,u⟩:=QG (d:=11) (λ_ h=>h) i (by omega);obtain⟨e,n,C,D⟩:=B j.2 x;exact⟨b::e,c++n,by rw[AB,f,C],b,e,rfl,g,D⟩
  obtain⟨e,c,f,g⟩:=this m A;exact⟨e,c,by rw[show Pi.AS=11+1 from rfl,Kh,f];rfl,g⟩
 match l,y,z with
 |[],y,⟨rs,s,i⟩=>subst s;obtain⟨e,c,f,g⟩:=o i;exact⟨_,c,f,e,rfl,g⟩
 |[p],y,h=>
  have j:p.2.depth<=4:=by
   simp_all[Co,aZ,cy,bU,ac]
  obtain⟨q,c,f,g,u⟩:=QG (d:=Pi.AS) (λ_ h=>h) h (by show _<=12;omega);exact⟨q,c,f,g⟩
 |p::q::rr,y,⟨rs,s,i⟩=>subst s;obtain⟨e,c,f,g⟩:=o i;exact⟨_,c,f,e,rfl,g⟩
theorem ER{f:PV->Option (PV×List Nat)}:∀ {a:List PV} {b:List PV} {l:List Nat},AB f a=zo (b,l)->b.length=a.length
 |[],b,l,h=>by cases h;rfl
 |p::a,b,l,h=>by
  simp only[AB]at h;split at h
  ·rename_i e2;cases h;simp[ER e2]
  ·cases h
theorem CK{hh:Hp}:∀ {d:Nat} {v q:PV} {l:List Nat},AV hh d v=zo (q,l)->q.cells.length=v.cells.length
 |0,v,q,l,e=>by cases e
 |d+1,v,q,l,e=>by
  cases v with
  |agg cs=>
   rw[EV]at e;obtain⟨⟨x,m⟩,g,c⟩:=Pi.AA e;cases c;exact ER g
  |tup cs=>
   rw[Kh]at e;obtain⟨⟨x,m⟩,g,c⟩:=Pi.AA e;cases c;rfl
  |ifc t v=>
   rw[Kg]at e;obtain⟨⟨x,m⟩,g,c⟩:=Pi.AA e;cases c;rfl
  |fn f a b=>
   rw[My]at e;split at e
   ·cases e;rfl
   ·cases e
  |own id off len=>
   simp only[AV]at e;split at e
   ·replace e:=AK e;obtain⟨_,e⟩:=e;obtain⟨⟨x,m⟩,g,c⟩:=Pi.AA e;cases c;rfl
   ·cases e
  |ptr id off=>
   simp only[AV]at e;split at e
   ·replace e:=AK e;obtain⟨_,e⟩:=e;obtain⟨⟨x,m⟩,g,c⟩:=Pi.AA e;cases c;rfl
   ·cases e
  |ept id i off=>
   simp only[AV]at e;split at e
   ·split at e
    ·replace e:=AK e;obtain⟨_,e⟩:=e;obtain⟨⟨x,m⟩,g,c⟩:=Pi.AA e;cases c;rfl
    ·cases e
   ·cases e
  |yl|mp=>cases e
  |_=>cases e;rfl
theorem CH(r:RH X h n)(hn:n<=1048575)(hp:X.h.get idP=zn)(W:idP<X.h.nx){l:List (Bool×Ty)}{y:AP l}{P:Hp}{rP:PV}{x lP:List Nat}{h':H}(hd:Co l=zt)(hr:Hq P l y rP)
  (hm:MetA X x lP) (hk:Kn X x) (C:(bif B3 l then B9 h x else zo h)=zo h') (id:Nat) :
  ∃ q f Y,Pi.Ag idP lP X.h P rP=zo (q,f)/\FW X h n id idP h' f Y/\VR Y (Qb l y) q/\((Ln l=zf \/ ∀ j o len,rP ≠ .own j o len)->f.get idP=zn):=by
 have same:∃ Y,FW X h n id idP h' X.h Y:=by
  cases hc:B3 l with
  |true=>
   rw[hc]at C;obtain⟨Y,y1,L,K,y4,y5⟩:=r.flag hn hk C;exact⟨Y,K,y4,y5 _ _⟩
  |false=>
   rw[hc]at C;cases C;exact⟨X,rfl,r,St.refl _ _ _ _⟩
 have u:B3 l=zt -> ∃ f Y,Pi.freeze X.h lP=zo f/\FW X h n id idP h' f Y:=λhc=>by
  rw[hc]at C;obtain⟨f,Y,F,y1,L,K⟩:=r.mark hn hm hk C id idP
  grind
 obtain⟨q,pids,J,z⟩:=Nt hd hr;unfold Pi.Ag;split
 ·rename_i len D ex hS;split at hS
  ·rename_i j A;split at hS
   ·rename_i es ex' hj;split at hS
    ·rename_i qs' l2 hq;replace hS:=BE hS;obtain⟨_,hS⟩:=hS;cases hS
     have E:∃ g c,l=[(zf,.sl g c)]:=by
      match l,y,hr with
      |[],y,⟨rs,w,h2⟩=>cases w
      |p::q::rr,y,⟨rs,w,h2⟩=>cases w
      |[(zt,c)],y,⟨cs,w,h2⟩=>cases w
      |[(zf,.sl g c)],y,_=>simp_all
      |[(zf,.int _)],y,h=>cases(show[PV.own j 0 len]=_ from h)
      |[(zf,.bool)],y,h=>cases(show[PV.own j 0 len]=_ from h)
      |[(zf,.str)],y,h=>cases(show[PV.own j 0 len]=_ from h)
      |[(zf,.unit)],y,h=>cases(show[PV.own j 0 len]=_ from h)
      |[(zf,.pair a b)],y,h=>simp[Co,Ty.leaf]at hd
     obtain⟨g,c,rfl⟩:=E;have hc:B3 [(zf,Ty.sl g c)]=zt:=rfl;have hr':DX P (λ_=>True) (λ_=>True) (.sl g c) y [.own j 0 len]:=hr;obtain⟨p0,D1,hrr⟩:=hr';have I:PV.own j 0 len=p0:=by simp_all
     subst I;rcases hrr with⟨w,_⟩|⟨_,_,w,_⟩|⟨pid,off,len2,es2,ex2,fz2,w,_,h3,h4,h8,h5⟩
     ·cases w
     ·cases w
     ·cases w;rw[hj]at h3;cases h3
      have G:c.depth+1<=4:=by
       have:ah (Ty.sl g c).depth 4=zt:=by simp_all[Co,aZ,cy,bU,ac]
       exact aq this
      obtain⟨qs2,ids2,k1,k2,k3⟩:=Jb (λy e hE=>Lt (d:=Pi.AS) (λU d' G=>E0 U d' G) (by show _<=12;omega) hE) h5;rw[Gq]at hq;obtain⟨l',k4⟩:=Ib (k:=len) hq;rw[bN]at k1;rw[k1]at k4;cases k4;have hlen:D.length=es.length:=ER hq
      have hok:Pi.Ce c.wd D=zt:=by
       cases es with
       |nil=>simp_all
       |cons e0 t=>
        grind [AB,Pi.Ce,CK]
      have N:∀ {s:Hp} {Y:Cx},FW X h n id idP h' s Y->(s.get idP=zn) -> ∃ q f Y,((s.new idP (.row D ex zf)).map λh=>(PV.own idP 0 len,h))=zo (q,f)/\FW X h n id idP h' f Y/\VR Y (Qb [(zf,.sl g c)] y) q/\((Ln [(zf,.sl g c)]=zf \/ ∀ j' o A,PV.own j 0 len ≠ .own j' o A)->f.get idP=zn):=by
       intro s Y ⟨y1,L,K⟩ hnone;obtain⟨f,e1⟩:=F7 s idP (.row D ex zf) hnone;subst y1;obtain⟨Z,z1,z2,z3,z4,z5⟩:=L.borrow (by rw[K.nx];exact W) e1 (by intros;simp)
       refine⟨_,f,Z,by rw[e1];rfl,⟨z3,z4,K.trans (z5 id)⟩,?_,λhh=>by
        rcases hh with hh|hh
        ·cases hh
        simp_all⟩
       show VR Z (.lf zf g c y) (.own idP 0 len);simp only[VR];refine .inr (.inr ⟨idP,0,len,D,ex,zf,rfl,by simp,λhO=> ?_,by rw[z3,(Hp.get_new e1).2.1,zy rfl],by omega,hok,by rw[bN];exact EPL.up k2⟩);rw[z2]at hO;exact L.ob _ hO hnone
      cases S:Pi.BP D with
      |true=>
       grind
      |false=>
       obtain⟨s,Y,F,B⟩:=u hc;simp only[zj,F];refine N B ?_;rw[<- B.1];obtain⟨O,M,f3,f4⟩:=BQ (Q:=λi=>X.Q i \/ ∃ id∈x,∃ m,X.π id=zo (.blk i m)) hm;rw[F]at M;cases M;rw[B.1,f4,hp]
       grind
    ·cases hS
   ·cases hS
  ·cases hS
 ·
  simp only[J];cases S:Pi.flat q with
  |true=>
   obtain⟨Y,B⟩:=same;exact⟨q,X.h,Y,rfl,B,Gr z,λ_=>hp⟩
  |false=>
   have hc:B3 l=zt:=by
    grind [Jd]
   obtain⟨s,Y,F,B⟩:=u hc;refine⟨q,s,Y,by simp[F],B,Gr z,λ_=> ?_⟩;obtain⟨O,M,f3,f4⟩:=BQ (Q:=λi=>X.Q i \/ ∃ id∈x,∃ m,X.π id=zo (.blk i m)) hm
   simp_all
def O6(a:Hp)(g:Bool)(c:Ty)(y:List c.den)(r:PV):Prop:=
 (y=[]/\(r=.nils\/r=.lst zt [])) \/ ∃ j es,r=.own j 0 es.length/\a.get j=zo (.row es zf zf)/\0<es.length/\L2 (EP g (DR a (λq=>q≠j) c)) y es
theorem St.nw{X Y:Cx}{h h':H}{n id idP:Nat}(s:St X h id (idP+1) Y h')(w:Nw X n id idP)(a:Y.π id=zn)(b:Y.h.get idP=zn):Nw Y n id idP:=⟨a,w.lt,w.big,b,by rw[s.nx];exact w.hlt⟩
theorem KE(r:RH X h n)(w:Nw X n id idP){g:Bool}{c:Ty}{y:List c.den}{J:Hp}{rP:PV}{o lP:List Nat}{h':H}(hd:c.depth<=3)(O:O6 J g c y rP)
  (hm:MetA X o lP) (W:Kn X o) (z:(bif c.hasSl then B9 h o else zo h)=zo h') :
  ∃ q b Y,Pi.Ag idP lP X.h J rP=zo (q,b)/\FW X h n id idP (AG h' id (.row g c y zf zf zf)) b Y/\VR Y (.ow id) q/\(b.get idP=zn\/Pi.AE q=[idP]):=by
 have same:∃ Y,FW X h n id idP h' X.h Y/\Y.π=X.π:=by
  cases hc:c.hasSl with
  |true=>
   rw[hc]at z;obtain⟨Y,k,A,p,y4,y5⟩:=r.flag w.big W z;exact⟨Y,⟨p,y4,y5 _ _⟩,k⟩
  |false=>
   rw[hc]at z;cases z;exact⟨X,⟨rfl,r,St.refl _ _ _ _⟩,rfl⟩
 rcases O with⟨rfl,O⟩|⟨j,es,rfl,hj,hpos,hl⟩
 ·obtain⟨Y,⟨k,A,p⟩,x⟩:=same;have I:Nw Y n id idP:=⟨by rw[x];exact w.pi,w.lt,w.big,by rw[k];exact w.hp,by rw[k];exact w.hlt⟩;rcases O with rfl|rfl
  ·obtain⟨Z,⟨E,F,G⟩,B⟩:=KV A I (g:=g) (c:=c) (fz:=false);exact⟨.nils,X.h,Z,rfl,⟨by rw[E,k],F,p.trans G⟩,B,.inl w.hp⟩
  ·obtain⟨Z,⟨E,F,G⟩,B⟩:=J9 A I (g:=g) (c:=c) (fz:=false);exact⟨.lst zt [],X.h,Z,rfl,⟨by rw[E,k],F,p.trans G⟩,B,.inl w.hp⟩
 ·obtain⟨u,D,P,k2,k3⟩:=Jb (λy e hE=>Lt (d:=Pi.AS) (λN d' L=>E0 N d' L) (by show _<=12;omega) hE) hl
  have s:D.any (aa j)=zf:=by
   rw[List.any_eq_false];intro i hi K;have:=aj K;subst this;exact(k3 _ hi).1 rfl
  have t:u.length=es.length:=ER P
  have M:c.hasSl=zf->Pi.BP u=zt:=λhc=>by
   clear t P k3 s hl
   induction k2 with
   |nil=>rfl
   |cons a _ ih=>simp only[Pi.BP,EP.flat hc a,cr];exact ih
  have K:Pi.Ag idP lP X.h J (.own j 0 es.length)=(match (bif Pi.BP u then zo X.h else Pi.freeze X.h lP)with
   |some h=>(h.new idP (.row u zf zf)).map λh=>(.own idP 0 es.length,h)
   |none=>zn):=by
   unfold Pi.Ag;simp only[hj,Gq,P,s,zj];rfl
  have C:∀ {f:Hp} {Y:Cx},FW X h n id idP h' f Y->Y.π id=zn->f.get idP=zn -> ∃ q b Y,((f.new idP (.row u zf zf)).map λh=>(PV.own idP 0 es.length,h))=zo (q,b)/\FW X h n id idP (AG h' id (.row g c y zf zf zf)) b Y/\VR Y (.ow id) q/\(b.get idP=zn\/Pi.AE q=[idP]):=by
   intro f Y ⟨k,A,p⟩ hpi hnone;have I:Nw Y n id idP:=⟨hpi,w.lt,w.big,by simp_all,by rw[p.nx];exact w.hlt⟩;obtain⟨b,Z,e1,⟨E,F,G⟩,B,_⟩:=Bi A I (g:=g) (c:=c) (l:=y) (es:=u) (ex:=false) (EPL.up k2) (λ_=>by omega);rw[k]at e1;rw[t]at B;exact⟨_,b,Z,by rw[e1];rfl,⟨E,F,p.trans G⟩,B,.inr rfl⟩
  rw[K];cases hfl:Pi.BP u with
  |true=>
   obtain⟨Y,hY,x⟩:=same;simp only[zb];exact C hY (by rw[x];exact w.pi) w.hp
  |false=>
   have hc:c.hasSl=zt:=by
    simp_all
   rw[hc]at z;obtain⟨f,Y,S,k,A,p⟩:=r.mark w.big hm W z id idP
   have hz:f.get idP=zn:=by
    obtain⟨hP3,U,f3,f4⟩:=BQ (Q:=λi=>X.Q i \/ ∃ id∈o,∃ m,X.π id=zo (.blk i m)) hm;rw[S]at U;cases U;rw[f4,w.hp]
    grind
   simp only[zj,S];refine C p ?_ hz;rw[k];exact w.pi
end
end
section
variable[Pi.Gl]
open Pi (PV T Hp Blk DF UM PE AN AT AB AV Ao)
def Ad(a:EF)(f:FuncId):Bool:=(a f).isNone
def PD(P:Program)(a:EF)(b:Pi.Tg)(up:Option UM)(args:List PV)(h:Hp)(r:Pi.Out×Option UM×Hp):Prop:=
 ∃ N,∀ F n,N<=F->N<=n->Pi.B4 P (Ad a) F n b up args h=zo r
def FnOK(P:Program)(a:EF)(f:FuncId)(sg:Sg):Prop:=∀ x y,sg.fn x=zo y -> ∀ b,Dj sg.dom x b -> ∃ r up c,PD P a (.fn f) zn b D1 (.ret r,up,c)/\Hq c sg.cod y r
def RowOK(P:Program)(a:EF)(f:FuncId)(dom:List (Bool×Ty))(g:Bool)(c:Ty)(e:AP dom->Option (List c.den)):Prop:=∀ x y,e x=zo y -> ∀ b,Dj dom x b -> ∃ r up d,PD P a (.fn f) zn b D1 (.ret r,up,d)/\O6 d g c y r
def MK:PV->PV
 |.agg cs=>.view cs
 |v=>v
def Gv:List (Bool×Ty)->List PV->List PV
 |p::l,v::vs=>(bif SU p then MK v else v)::Gv l vs
 |_,vs=>vs
def FnP(P:Program)(a:EF)(f:FuncId)(sg:Sg):Prop:=∀ x y,sg.fn x=zo y -> ∀ b,Dj sg.dom x b -> ∃ r up c,PD P a (.fn f) zn (Gv sg.dom b) D1 (.ret r,up,c)/\Hq c sg.cod y r
def FnL(P:Program)(a:EF)(f:FuncId)(sg:Sg):Prop:=∀ x y,sg.fn x=zo y -> ∀ b,Dj sg.dom x b -> ∃ r up c,PD P a (.fn f) zn b D1 (.ret r,up,c)/\Hq c sg.cod y r /\ ∀ j o len,r ≠ .own j o len
structure TabOK (P:Program) (tab:EF):Prop where
 std:∀ f sg,af f Cu=zt->tab f=zo (zo sg)->FnOK P tab (Rm f) sg
 row:∀ f dom g c fn,af f Ct=zt->tab (f+Cu)=zo (zo ⟨dom,[(zf,.sl g c)],fn⟩)->RowOK P tab f dom g c fn
 ptr:∀ f sg,af f Ct=zt->tab (f+Ih)=zo (zo sg)->FnP P tab f sg
 dat:∀ f sg,af f Ct=zt->tab (f+Ms)=zo (zo sg)->FnL P tab f sg
theorem Di{a b:Nat}(h:af a b=zt):a<b:=aq h
theorem Pw{a b:Nat}(h:a<b):af a b=zt:=Nat.ble_eq_true_of_le h
theorem Rz{a b:Nat}(h:b<=a):af a b=zf:=by
 cases c:af a b with
 |false=>rfl
 |true=>exact absurd (Di c) (Nat.not_lt.2 h)
theorem Nn:Cu=Ct+Ct:=rfl
theorem SO{f:Nat}(h:af f Ct=zt):Rm f=f:=by unfold Rm;rw[h];rfl
theorem RK(o f:Nat):(bif af (f+o) o then f+o else f+o-o)=f:=by
 simp_all[Rz,Nat.le_add_left]
theorem SN(f:Nat):Rm (f+Ct)=f:=RK Ct f
theorem TabOK.get{P:Program}{a:EF}(T:TabOK P a){f:FuncId}{sg:Sg}(b:af f Ct=zt)(h:a f=zo (zo sg)):FnOK P a f sg:=by
 have:=T.std f sg (Pw (cf (Di b) (by rw[Nn];omega))) h
 rwa [SO b]at this
theorem TabOK.getD{P:Program}{a:EF}(T:TabOK P a){f:FuncId}{sg:Sg}(h:getD a f=zo sg):FnOK P a f sg:=by
 unfold Sv.getD at h;replace h:=AK h;obtain⟨c,h⟩:=h;split at h
 ·rename_i r b;subst h;exact T.get c b
 ·split at h
  ·rename_i r b;subst h;have:=T.std _ sg (Pw (by simp_all[Nn])) b
   rwa [SN]at this
  ·cases h
theorem TabOK.getR{P:Program}{a:EF}(T:TabOK P a){f:FuncId}{dom:List (Bool×Ty)}{g:Bool}{c:Ty}{b:AP dom->Option (List c.den)}(h:getR a f=zo ⟨dom,[(zf,.sl g c)],b⟩):RowOK P a f dom g c b:=by
 unfold Sv.getR at h;replace h:=AK h;obtain⟨d,h⟩:=h;split at h
 ·rename_i r e;subst h;exact T.row _ _ _ _ _ d e
 ·cases h
theorem TabOK.getL{P:Program}{a:EF}(T:TabOK P a){f:FuncId}{sg:Sg}(h:getL a f=zo sg):FnL P a f sg:=by
 unfold Sv.getL at h;replace h:=AK h;obtain⟨b,h⟩:=h;split at h
 ·rename_i r c;subst h;exact T.dat _ _ b c
 ·cases h
theorem TabOK.getP{P:Program}{a:EF}(T:TabOK P a){f:FuncId}{sg:Sg}(h:getP a f=zo sg):FnP P a f sg:=by
 unfold Sv.getP at h;replace h:=AK h;obtain⟨b,h⟩:=h;split at h
 ·rename_i r c;subst h;exact T.ptr _ _ b c
 ·cases h
structure Run (b bP:Nat) (X:Cx) (h:H) (nx:Nat) (Y:Cx) (h':H) (nx':Nat) (hP':Hp):Prop where
 hp:Y.h=hP'
 rh:RH Y h' nx'
 big:nx'<=1048575
 le:nx<=nx'
 ext:Ext b bP X h Y h'
structure RecAOK (P:Program) (tab:EF) (rec:H4):Prop where
 fn:∀ {β:Type} {x:β} {f up args h nx K},rec β (.fn f) up args h nx K=zo x -> ∀ {X upP ps},RH X h nx->nx<=1048575->VRL X args ps->UMR X up upP ->
  ∃ o up' h' nx' Y oP upP' hP',K o up' h' nx'=zo x/\PD P tab (.fn f) upP ps X.h (oP,upP',hP')/\Run nx X.h.nx X h nx Y h' nx' hP'/\MJ Y o oP/\UMR Y up' upP'
 yl:∀ {β:Type} {x:β} {l args h nx K},rec β (.yl l) zn args h nx K=zo x -> ∀ {X lP m ps},RH X h nx->nx<=1048575->X.π l=zo (.blk lP m)->VRL X args ps ->
  ∃ o up' h' nx' Y oP upP' hP',K o up' h' nx'=zo x/\PD P tab (.yl lP) zn ps X.h (oP,upP',hP')/\Run nx X.h.nx X h nx Y h' nx' hP'/\MJ Y o oP/\UMR Y up' upP'
section
variable{P:Program}{tab:EF}{rec:H4}{β:Type}{x:β}
theorem IS{X:Cx}{args:List V}{c:List PV}(l:VRL X args c):Kn X (DN args):=by
 intro i hi
 have:∀ {vs:List V} {c:List PV},VRL X vs c -> ∀ i∈FX vs,∃ a,X.π i=zo a:=by
  intro vs
  induction vs with
  |nil=>intro c _ i hi;cases hi
  |cons v vs h=>
   intro c e i hi;obtain⟨p,n,rfl,k,g⟩:=e.cons_inv;cases v with
   |ow j=>
    rcases ai.1 hi with rfl|hi
    ·grind [VR]
    grind
   |own j a b=>
    rcases ai.1 hi with rfl|hi
    ·grind [VR]
    grind
   |_=>exact h g i hi
 unfold DN at hi;obtain⟨v,e,hi⟩:=List.mem_flatMap.1 hi
 have d:∀ {vs:List V} {c:List PV},VRL X vs c->v∈vs -> ∃ p,VR X v p:=by
  intro vs
  induction vs with
  |nil=>simp_all
  |cons u vs h=>
   intro c f e;obtain⟨p,n,rfl,k,g⟩:=f.cons_inv
   grind
 obtain⟨p,m⟩:=d l e;exact this m.cells i hi
theorem C6:∀ {L:List Nat} {h a:Hp},Pi.freeze h L=zo a -> ∀ x,(h.get x=zn->a.get x=zn)/\(h.get x≠zn->a.get x≠zn)
 |[],h,a,e,x=>by simp_all[Pi.freeze]
 |j::L,h,a,e,x=>by
  unfold Pi.freeze at e
  have step:∀ {b b0:Blk},h.get j=zo b0->(match h.set j b with
    |some h=>Pi.freeze h L
    |none=>zn)=zo a->(h.get x=zn->a.get x=zn)/\(h.get x≠zn->a.get x≠zn):=by
   intro b b0 f e;obtain⟨d,c⟩:=BI h j b;rw[c]at e;obtain⟨i,k⟩:=C6 e x;have g:=(Hp.get_set c).1 x
   grind
  grind
theorem KG{id:Nat}{l:List Nat}{h d a:Hp}{j q:PV}(g:h.get id=zn)(e:Pi.Ag id l h d j=zo (q,a)):a.get id=zn\/Pi.AE q=[id]:=by
 unfold Pi.Ag at e;split at e
 ·split at e
  ·obtain⟨_,_,b⟩:=Pi.AA e;cases b;exact .inr rfl
  ·cases e
 ·split at e
  ·rename_i i _ _;cases f:Pi.flat i with
   |true=>simp_all
   |false=>
    rw[f]at e;simp only[zj]at e;obtain⟨k,c,b⟩:=Pi.AA e;cases b;exact .inl ((C6 c id).1 g)
  ·cases e
theorem HV{X:Cx}{h:H}{n id idP:Nat}(r:RH X h n)(w:Nw X n id idP){f:FuncId}{sg:Sg}(T:FnOK P tab f sg){args:List V}{B:List PV}{K:V->H->Option β}(u:VRL X args B)(e:DW h sg args K=zo x) :
  ∃ v h' q a Y c lP i up g,K v h'=zo x/\Ao X.h B=zo (c,lP)/\PD P tab (.fn f) zn c D1 (.ret i,up,g)/\Pi.Ag idP lP X.h g i=zo (q,a)/\(∀ y∈lP,X.h.get y≠zn)/\FW X h n id idP h' a Y/\VR Y v q/\((Ln sg.cod=zf->a.get idP=zn)/\(a.get idP=zn\/Pi.AE q=[idP])):=by
 unfold DW at e;replace e:=BE e;obtain⟨A,e⟩:=e;simp only[ak,ay]at A;obtain⟨j,k⟩:=A
 let Q:Nat->Prop:=λpid=>X.Q pid \/ ∃ id∈DN args,∃ m,X.π id=zo (.blk pid m)
 have M:=e;replace e:=Bq (Q:=Q) r (λ_ h=>.inl h) (λid pid m hi I=>.inr ⟨id,hi,m,I⟩) u e;obtain⟨y,e,o⟩:=e;replace e:=AD e;obtain⟨h',p,e⟩:=e;replace e:=FA e;obtain⟨z,L,e⟩:=e;obtain⟨c,lP,s,l,b⟩:=ED (λ_ h=>.inl h) j o;obtain⟨i,up,g,⟨N,F⟩,d⟩:=T y z L c l;have G:Kn X (DN args):=IS u;obtain⟨q,a,Y,t,C,D,E⟩:=CH r w.big w.hp w.hlt k d b G p id;exact⟨_,h',q,a,Y,c,lP,i,up,g,e,s,⟨N,F⟩,t,λy J=>(by obtain⟨_,es,ex,fz,O⟩:=b y J;grind),C,D,λh=>E (.inl h),KG w.hp t⟩
theorem K7{X:Cx}{h:H}{n id idP:Nat}(r:RH X h n)(w:Nw X n id idP){f:FuncId}{sg:Sg}(T:FnL P tab f sg){args:List V}{B:List PV}{K:V->H->Option β}(u:VRL X args B)(e:DW h sg args K=zo x) :
  ∃ v h' q a Y c lP i up g,K v h'=zo x/\Ao X.h B=zo (c,lP)/\PD P tab (.fn f) zn c D1 (.ret i,up,g)/\Pi.Ag idP lP X.h g i=zo (q,a)/\(∀ y∈lP,X.h.get y≠zn)/\FW X h n id idP h' a Y/\VR Y v q/\a.get idP=zn:=by
 unfold DW at e;replace e:=BE e;obtain⟨A,e⟩:=e;simp only[ak,ay]at A;obtain⟨j,k⟩:=A
 let Q:Nat->Prop:=λpid=>X.Q pid \/ ∃ id∈DN args,∃ m,X.π id=zo (.blk pid m)
 have O:=e;replace e:=Bq (Q:=Q) r (λ_ h=>.inl h) (λid pid m hi J=>.inr ⟨id,hi,m,J⟩) u e;obtain⟨y,e,o⟩:=e;replace e:=AD e;obtain⟨h',p,e⟩:=e;replace e:=FA e;obtain⟨z,M,e⟩:=e;obtain⟨c,lP,t,l,b⟩:=ED (λ_ h=>.inl h) j o;obtain⟨i,up,g,⟨N,G⟩,d,s⟩:=T y z M c l;have I:Kn X (DN args):=IS u;obtain⟨q,a,Y,C,D,E,F⟩:=CH r w.big w.hp w.hlt k d b I p id;exact⟨_,h',q,a,Y,c,lP,i,up,g,e,t,⟨N,G⟩,C,λy L=>(by obtain⟨_,es,ex,fz,S⟩:=b y L;grind),D,E,F (.inr s)⟩
theorem HU{X:Cx}{h:H}{n id idP:Nat}(r:RH X h n)(w:Nw X n id idP){f:FuncId}{sg:Sg}(T:∀ dom g c l,sg=⟨dom,[(zf,.sl g c)],l⟩->RowOK P tab f dom g c l){args:List V}{D:List PV}{K:V->H->Option β}(B:VRL X args D)(e:K8 h id sg args K=zo x) :
  ∃ v h' q a Y d lP k up j,K v h'=zo x/\Ao X.h D=zo (d,lP)/\PD P tab (.fn f) zn d D1 (.ret k,up,j)/\Pi.Ag idP lP X.h j k=zo (q,a)/\(∀ y∈lP,X.h.get y≠zn)/\FW X h n id idP h' a Y/\VR Y v q/\(a.get idP=zn\/Pi.AE q=[idP]):=by
 unfold K8 at e;split at e
 ·rename_i dom g c l;replace e:=BE e;obtain⟨C,e⟩:=e;simp only[ak,ay]at C;obtain⟨o,p⟩:=C
  let Q:Nat->Prop:=λpid=>X.Q pid \/ ∃ id∈DN args,∃ m,X.π id=zo (.blk pid m)
  replace e:=Bq (Q:=Q) r (λ_ h=>.inl h) (λid pid m hi L=>.inr ⟨id,hi,m,L⟩) B e;obtain⟨y,e,t⟩:=e;replace e:=AD e;obtain⟨h',u,e⟩:=e;replace e:=FA e;obtain⟨z,O,e⟩:=e;obtain⟨d,lP,A,s,b⟩:=ED (λ_ h=>.inl h) o t;obtain⟨k,up,j,⟨N,J⟩,i⟩:=T _ _ _ _ rfl y z O d s;obtain⟨q,a,Y,E,F,G,I⟩:=KE r w (aq p) i b (IS B) u;exact⟨_,_,q,a,Y,d,lP,k,up,j,e,A,⟨N,J⟩,E,λy M=>(by obtain⟨_,es,ex,fz,S⟩:=b y M;grind),F,G,I⟩
 ·cases e
theorem PC{X:Cx}{h:H}{n id idP:Nat}(r:RH X h n)(w:Nw X n id idP){f:FuncId}{sg:Sg}(T:∀ dom g c i,sg=⟨dom,[(zf,.sl g c)],i⟩->RowOK P tab f dom g c i)(d:Ad tab f=zf){args:List V}{j:List PV}{K:V->H->Option β}(t:VRL X args j)(e:K8 h id sg args K=zo x) :
  ∃ v h' q a Y,K v h'=zo x/\(∃ N,∀ F n,N<=F->N<=n->Pi.A8 (Ad tab) (Pi.B4 P (Ad tab) F n) idP f j X.h=zo (.ret q,a))/\FW X h n id idP h' a Y/\VR Y v q:=by
 obtain⟨v,h',q,a,Y,y,lP,A,up,z,e1,b,⟨N,s⟩,k,_,l,o,_⟩:=HU r w T t e;refine⟨v,h',q,a,Y,e1,⟨N,λF n p u=> ?_⟩,l,o⟩;unfold Pi.A8;simp only[d,zj,b];rw[show({ m:=.lf,nx:=0 }:Hp)=D1 from rfl,s F n p u];simp only[k];rfl
theorem PF{X:Cx}{h:H}{n id idP:Nat}(r:RH X h n)(w:Nw X n id idP){f:FuncId}{sg:Sg}(T:FnOK P tab f sg)(c:Ad tab f=zf){args:List V}{d:List PV}{K:V->H->Option β}(o:VRL X args d)(e:DW h sg args K=zo x) :
  ∃ v h' q a Y,K v h'=zo x/\(∃ N,∀ F n,N<=F->N<=n->Pi.A8 (Ad tab) (Pi.B4 P (Ad tab) F n) idP f d X.h=zo (.ret q,a))/\FW X h n id idP h' a Y/\VR Y v q:=by
 obtain⟨v,h',q,a,Y,s,lP,u,up,t,e1,b,⟨N,l⟩,g,_,i,j,_⟩:=HV r w T o e;refine⟨v,h',q,a,Y,e1,⟨N,λF n k p=> ?_⟩,i,j⟩;unfold Pi.A8;simp only[c,zj,b];rw[show({ m:=.lf,nx:=0 }:Hp)=D1 from rfl,l F n k p];simp only[g];rfl
theorem RN{X:Cx}{fr:FrA}{fp:Pi.Fr}(f:FR X fr fp){d:Option Nat}{v:V}{p:PV}{K:FrA->Option β}(h:VR X v p)(e:HL fr d v K=zo x):∃ b a,K b=zo x/\fp.put d p=zo a/\FR X b a:=by
 unfold HL at e;unfold Pi.Fr.put;split at e
 ·grind
 ·rename_i d;replace e:=AK e;obtain⟨c,e⟩:=e;have g:d<fr.nt:=by simpa using c
  have i:=f.big;exact⟨_,{ fp with t:=T.put 20 fp.t d p },e,by simp only[f.nt,c,zb],⟨f.t.put (by omega) h,f.nt,f.big,f.ds,f.up,f.ro⟩⟩
theorem JQ{X:Cx}{ops:List Oper}{t:T V}{h:T PV}(q:TR X t h){nt:Nat}(n:nt<1048575)(f:∀ o∈ops,∀ d,o.dst=zo d->d<nt){g:Option (Nat×Bool)}{i y:T V->Option β}(e:KD ops t g i y=zo x) :
  ∃ s,TR X s h/\((i s=zo x/\Pi.A6 ops h g=zt)\/(y s=zo x/\Pi.A6 ops h g=zf)):=by
 unfold KD at e;unfold Pi.A6;split at e
 ·grind
 ·rename_i j z;split at e
  ·rename_i o C;simp only[C];split at e
   ·rename_i d u;simp only[u]
    have B:d<1048575:=by
     exact Nat.lt_trans (f o (by grind [AN]) d u) n
    split at e
    ·rename_i b m;obtain⟨p,w,r⟩:=q _ _ m;simp only[VR]at r;subst r;simp only[w]
     have same:∀ c:Bool,b=c->TR X (T.put 20 t d (.bool c)) h:=by
      intro c hc;subst hc;intro k v l;have A:(2:Nat) ^ 20-1=1048575:=by decide
      rw[T.get_put 20 t d _ k (by omega)]at l;by_cases a:k=d
      ·rw[zy a]at l;grind [VR]
      ·rw[zx a]at l;exact q _ _ l
     replace e:=BN e
     grind
    ·rename_i m;obtain⟨p,w,r⟩:=q _ _ m
     grind [VR,VRL]
    ·cases e
   ·cases e
  ·cases e
def DV(X:Cx)(base baseP i k:Nat):Prop:=∀ j,i<=j->j<i+k->X.π (base+j)=zn/\X.h.get (baseP+j)=zn
theorem M6(R:RecAOK P tab rec)(T:TabOK P tab){base baseP b bP:Nat}(hb:b<=base)(hbP:bP<=baseP){all:List Oper} :
  ∀ {ops:List Oper} {i:Nat} {X:Cx} {fr:FrA} {fp:Pi.Fr} {h:H} {nx:Nat} {K:KA β},Bj P tab rec base all (Pi.HB i ops) fr h nx K=zo x ->
   RH X h nx->nx<=1048575->FR X fr fp->(∀ o∈all,∀ d,o.dst=zo d->d<fr.nt)->DV X base baseP i ops.length->base+i+ops.length<=nx->baseP+i+ops.length<=X.h.nx ->
   ∃ ex O h' nx' Y L M U,K ex O h' nx'=zo x/\(∃ N,∀ F n,N<=F->N<=n->Pi.AZ P (Ad tab) (Pi.B4 P (Ad tab) F n) baseP all (Pi.HB i ops) fp X.h=zo (L,M,U))/\Run b bP X h nx Y h' nx' U/\FR Y O M/\ME Y ex L:=by
 intro ops
 induction ops with
 |nil=>
  intro i X fr fp h nx K e r y f _ _ _ _;exact⟨.normal,fr,h,nx,X,.normal,fp,X.h,e,⟨0,λ_ _ _ _=>rfl⟩,⟨rfl,r,y,ad _,Ext.refl _ _ _ _⟩,f,rfl⟩
 |cons o ops ih=>
  intro i X fr fp h nx K e r y f hall G hlen hlenP;simp only[List.length_cons]at hlen hlenP G;have hfr0:=G i (ad _) (by omega);have w:Nw X nx (base+i) (baseP+i):=⟨hfr0.1,by omega,y,hfr0.2,by omega⟩
  have go:∀ {v:V} {p:PV} {B:H} {J:Nat} {X1:Cx} {fr1:FrA} {fp1:Pi.Fr},HL fr1 o.dst v (λfr=>Bj P tab rec base all (Pi.HB (i+1) ops) fr B J K)=zo x->RH X1 B J->J<=1048575->nx<=J->FR X1 fr1 fp1->fr1.nt=fr.nt->VR X1 v p->Ext b bP X h X1 B->DV X1 base baseP (i+1) ops.length ->
    (∀ {rr:Pi.Ex×Pi.Fr×Hp},(∃ N,∀ F n,N<=F->N<=n->(match fp1.put o.dst p with
     |some fr=>Pi.AZ P (Ad tab) (Pi.B4 P (Ad tab) F n) baseP all (Pi.HB (i+1) ops) fr X1.h
     |none=>zn)=zo rr) -> ∃ N,∀ F n,N<=F->N<=n->Pi.AZ P (Ad tab) (Pi.B4 P (Ad tab) F n) baseP all (Pi.HB i (o::ops)) fp X.h=zo rr) ->
    ∃ ex O h' nx' Y L M U,K ex O h' nx'=zo x/\(∃ N,∀ F n,N<=F->N<=n->Pi.AZ P (Ad tab) (Pi.B4 P (Ad tab) F n) baseP all (Pi.HB i (o::ops)) fp X.h=zo (L,M,U))/\Run b bP X h nx Y h' nx' U/\FR Y O M/\ME Y ex L:=by
   intro v p B J X1 fr1 fp1 e r1 hn1 hle f1 hnt hv A I hP;obtain⟨fr2,fp2,e2,AG,f2⟩:=RN f1 hv e;have hnt2:fr2.nt=fr.nt:=by rw[<- f2.nt,<- hnt,<- f1.nt];unfold Pi.Fr.put at AG;grind
   obtain⟨ex,O,h',nx',Y,L,M,U,k1,k2,k3,k4,k5⟩:=ih e2 r1 hn1 f2 (λo ho d hd=>by grind) I (by omega) (by have:=A.nx;omega);refine⟨ex,O,h',nx',Y,L,M,U,k1,hP ?_,⟨k3.hp,k3.rh,k3.big,ax hle k3.le,A.trans k3.ext⟩,k4,k5⟩;obtain⟨N,D⟩:=k2;exact⟨N,λF n C y=>by grind⟩
  have idxc:Pi.HB i (o::ops)=(i,o)::Pi.HB (i+1) ops:=rfl;rw[idxc]at e;unfold Bj at e;have fg:=JQ (nt:=fr.nt) f.t f.big hall e;obtain⟨t',ht',hcase⟩:=fg;have f':FR X { fr with t:=t' } fp:=⟨ht',f.nt,f.big,f.ds,f.up,f.ro⟩
  rcases hcase with⟨e,hw⟩|⟨e,hw⟩
  ·
   have ev:=PT r w ht' e
   have hP:∀ F n,Pi.AZ P (Ad tab) (Pi.B4 P (Ad tab) F n) baseP all (Pi.HB i (o::ops)) fp X.h=(match Pi.AQ P fp.t X.h (baseP+i) o with
    |some (.val v h)=>match fp.put o.dst v with
     |some fr=>Pi.AZ P (Ad tab) (Pi.B4 P (Ad tab) F n) baseP all (Pi.HB (i+1) ops) fr h
     |none=>zn
    |some (.skip h)=>match fp.put o.dst (.tup [])with
     |some fr=>Pi.AZ P (Ad tab) (Pi.B4 P (Ad tab) F n) baseP all (Pi.HB (i+1) ops) fr h
     |none=>zn
    |some (.dfr d)=>match fp.ro with
     |none=>(match ({ fp with ds:=d::fp.ds }:Pi.Fr).put o.dst (.tup [])with
      |some fr=>Pi.AZ P (Ad tab) (Pi.B4 P (Ad tab) F n) baseP all (Pi.HB (i+1) ops) fr X.h
      |none=>zn)
     |some _=>zn
    |some (.call f args)=>match Pi.A8 (Ad tab) (Pi.B4 P (Ad tab) F n) (baseP+i) f args X.h with
     |some (.ret v,h)=>(match fp.put o.dst v with
      |some fr=>Pi.AZ P (Ad tab) (Pi.B4 P (Ad tab) F n) baseP all (Pi.HB (i+1) ops) fr h
      |none=>zn)
     |some (.pan [{ v:=e,recovered:=zf }],h)=>zo (.panic e,fp,h)
     |_=>zn
    |some (.yield l args)=>match Pi.B4 P (Ad tab) F n (.yl l) zn args X.h with
     |some (.ret v,_,h)=>(match fp.put o.dst v with
      |some fr=>Pi.AZ P (Ad tab) (Pi.B4 P (Ad tab) F n) baseP all (Pi.HB (i+1) ops) fr h
      |none=>zn)
     |_=>zn
    |some (.pan v)=>zo (.panic v,fp,X.h)
    |some .rcv=>match fp.ro with
     |some _=>zn
     |none=>match fp.up with
      |some (.pan ({ v,recovered:=zf }::older))=>(match ({ fp with up:=zo (.pan ({ v,recovered:=zt }::older)) }:Pi.Fr).put o.dst v with
       |some fr=>Pi.AZ P (Ad tab) (Pi.B4 P (Ad tab) F n) baseP all (Pi.HB (i+1) ops) fr X.h
       |none=>zn)
      |_=>(match fp.put o.dst .nili with
       |some fr=>Pi.AZ P (Ad tab) (Pi.B4 P (Ad tab) F n) baseP all (Pi.HB (i+1) ops) fr X.h
       |none=>zn)
    |none=>zn):=by
    intro F n;rw[idxc,Pi.AZ,hw];rfl
   generalize Pi.AQ P fp.t X.h (baseP+i) o=op at ev hP
   have z:∀ {Y:Cx} {B:H},St X h (base+i) (baseP+i) Y B->DV Y base baseP (i+1) ops.length:=λs j B h2=>by
    obtain⟨a1,a2⟩:=G j (by omega) (by omega);exact⟨s.pin _ (by omega) a1,s.hpn _ (by omega) a2⟩
   cases ev with
   |val e ok hv=>
    obtain⟨y1,y2,y3⟩:=ok;refine go e y2 y (ad _) (f'.mono y3.up) rfl hv (y3.ext (by omega) (by omega)) (z y3) ?_;rintro rr ⟨N,D⟩;refine⟨N,λF n C y=> ?_⟩;rw[hP];simp only;rw[<- y1];exact D F n C y
   |skip e ok=>
    obtain⟨y1,y2,y3⟩:=ok;refine go e y2 y (ad _) (f'.mono y3.up) rfl (p:=.tup []) (by simp only[VR];exact⟨[],rfl,.nil⟩) (y3.ext (by omega) (by omega)) (z y3) ?_;rintro rr ⟨N,D⟩;refine⟨N,λF n C y=> ?_⟩;rw[hP];simp only;rw[<- y1];exact D F n C y
   |dfr e hd=>
    dsimp only at e;split at e
    ·rename_i hro;have E:fp.ro=zn:=by have:=f.ro;rw[hro]at this;exact this
     refine go (fp1:={ fp with ds:=_::fp.ds }) e r y (ad _) ⟨ht',f.nt,f.big,.cons hd f.ds,f.up,f.ro⟩ rfl (p:=.tup []) (by simp only[VR];exact⟨[],rfl,.nil⟩) (Ext.refl _ _ _ _) (λj B h2=>G j (by omega) (by omega)) ?_
     rintro rr ⟨N,D⟩;refine⟨N,λF n C y=> ?_⟩;rw[hP];simp only[E];have:=D F n C y;simp only[E]at this;exact this
    ·cases e
   |@call g as ps e ha=>
    dsimp only at e;split at e
    ·cases e
    ·rename_i sg hsg;replace e:=BE e;obtain⟨hlt,e⟩:=e;have hlt:af g Ct=zt:=by simpa using hlt
     have hsh:Ad tab g=zf:=by unfold Ad;rw[hsg];rfl
     split at e
     ·rename_i sg' hR;obtain⟨v,B,q,hP1,Y,e1,⟨N0,S⟩,⟨y1,y2,y3⟩,hv⟩:=PC r w (λdom g' c fn hh=>T.getR (by rw[<- hh];exact hR)) hsh ha e;refine go e1 y2 y (ad _) (f'.mono y3.up) rfl hv (y3.ext (by omega) (by omega)) (z y3) ?_;rintro rr ⟨N,D⟩;refine⟨max N0 N,λF n C y=> ?_⟩;rw[hP];simp only[S F n (by omega) (by omega)];rw[<- y1];exact D F n (by omega) (by omega)
     ·obtain⟨v,B,q,hP1,Y,e1,⟨N0,S⟩,⟨y1,y2,y3⟩,hv⟩:=PF r w (T.get hlt hsg) hsh ha e;refine go e1 y2 y (ad _) (f'.mono y3.up) rfl hv (y3.ext (by omega) (by omega)) (z y3) ?_;rintro rr ⟨N,D⟩;refine⟨max N0 N,λF n C y=> ?_⟩;rw[hP];simp only[S F n (by omega) (by omega)];rw[<- y1];exact D F n (by omega) (by omega)
    ·rename_i hsg;obtain⟨o',up',B,J,Y,oP,upP',hP1,e1,⟨N0,S⟩,k,ho,hu⟩:=R.fn e r y ha (show UMR X zn zn from rfl)
     have W:∀ F n,N0<=F->N0<=n->Pi.A8 (Ad tab) (Pi.B4 P (Ad tab) F n) (baseP+i) g ps X.h=zo (oP,hP1):=λF n C y=>by
      unfold Pi.A8;have hsh:Ad tab g=zt:=by unfold Ad;rw[hsg];rfl
      simp only[hsh,zb,S F n C y]
     have hup:=k.ext.full r (ad _);have A:Ext b bP X h Y B:=k.ext.le (by omega) (by omega)
     have I:DV Y base baseP (i+1) ops.length:=λj B h2=>by
      obtain⟨a1,a2⟩:=G j (by omega) (by omega);exact⟨k.ext.pin _ (by omega) a1,k.ext.hpn _ (by omega) a2⟩
     cases o' with
     |ret v=>
      dsimp only at e1;obtain⟨p,rfl,hv⟩:=ho;refine go e1 k.rh k.big k.le (f'.mono hup) rfl hv A I ?_;rintro rr ⟨N,D⟩;refine⟨max N0 N,λF n C y=> ?_⟩;rw[hP];simp only[W F n (by omega) (by omega)];rw[<- k.hp];exact D F n (by omega) (by omega)
     |pan ch=>
      obtain⟨c,rfl,Z⟩:=ho
      match ch,Z,e1 with
      |[{ v:=v,recovered:=zf }],Z,e1=>
       obtain⟨⟨vP,rP⟩,c',rfl,⟨h3,h4⟩,h5⟩:=L2.cons_inv Z;rw[L2.nil_inv h5]at W;simp only at h3 h4;subst h4;refine⟨_,_,B,J,Y,.panic vP,fp,hP1,e1,⟨N0,λF n C y=> ?_⟩,⟨k.hp,k.rh,k.big,k.le,A⟩,f'.mono hup,⟨vP,rfl,h3⟩⟩;rw[hP];simp only[W F n C y]
      |[],_,e1=>cases e1
      |[{ v:=v,recovered:=zt }],_,e1=>cases e1
      |⟨av,ar⟩::b::c,_,e1=>cases ar<;>cases e1
   |@yield l lP m as ps e hl ha=>
    dsimp only at e;obtain⟨o',up',B,J,Y,oP,upP',hP1,e1,⟨N0,S⟩,k,ho,hu⟩:=R.yl e r y hl ha;have hup:=k.ext.full r (ad _);have A:Ext b bP X h Y B:=k.ext.le (by omega) (by omega)
    have I:DV Y base baseP (i+1) ops.length:=λj B h2=>by
     obtain⟨a1,a2⟩:=G j (by omega) (by omega);exact⟨k.ext.pin _ (by omega) a1,k.ext.hpn _ (by omega) a2⟩
    cases o' with
    |ret v=>
     dsimp only at e1;obtain⟨p,rfl,hv⟩:=ho;refine go e1 k.rh k.big k.le (f'.mono hup) rfl hv A I ?_;rintro rr ⟨N,D⟩;refine⟨max N0 N,λF n C y=> ?_⟩;rw[hP];simp only[S F n (by omega) (by omega)];rw[<- k.hp];exact D F n (by omega) (by omega)
    |pan ch=>cases e1
   |pan e hv=>
    refine⟨_,_,h,nx,X,.panic _,fp,X.h,e,⟨0,λF n _ _=>by rw[hP]⟩,⟨rfl,r,y,ad _,Ext.refl _ _ _ _⟩,f',⟨_,rfl,hv⟩⟩
   |rcv e=>
    dsimp only at e;split at e
    ·cases e
    ·rename_i hro;have E:fp.ro=zn:=by have:=f.ro;rw[hro]at this;exact this
     split at e
     ·rename_i v older hup;have hu:=f.up;rw[hup]at hu;obtain⟨c,hc,Z⟩:=hu;obtain⟨⟨vP,rP⟩,c',rfl,⟨h3,h4⟩,h5⟩:=L2.cons_inv Z;simp only at h3 h4;subst h4;refine go (fp1:={ fp with up:=zo (.pan ({ v:=vP,recovered:=zt }::c')) }) e r y (ad _) ⟨ht',f.nt,f.big,f.ds,⟨_,rfl,.cons ⟨h3,rfl⟩ h5⟩,f.ro⟩ rfl h3 (Ext.refl _ _ _ _) (λj B h2=>G j (by omega) (by omega)) ?_
      rintro rr ⟨N,D⟩;refine⟨N,λF n C y=> ?_⟩;rw[hP];simp only[E,hc];have:=D F n C y;simp only[E]at this;exact this
     ·rename_i hne;refine go e r y (ad _) f' rfl (p:=.nili) (by simp[VR]) (Ext.refl _ _ _ _) (λj B h2=>G j (by omega) (by omega)) ?_;rintro rr ⟨N,D⟩;refine⟨N,λF n C y=> ?_⟩;rw[hP];simp only[E];have:=D F n C y;have hu:=f.up;cases hfu:fr.up with
      |none=>
       rw[hfu]at hu;rw[show fp.up=zn from hu];exact this
      |some u=>
       rw[hfu]at hu;cases u with
       |ret=>rw[show fp.up=zo .ret from hu];exact this
       |pan ch=>
        obtain⟨c,hc,Z⟩:=hu;rw[hc];cases Z with
        |nil=>exact this
        |cons a t=>
         rename_i a1 b1 l1 m1;obtain⟨bv,br⟩:=b1;cases br with
         |true=>exact this
         |false=>
          obtain⟨av,ar⟩:=a1;have:ar=zf:=a.2;subst this;exact absurd hfu (hne _ _)
  ·
   refine go e r y (ad _) f' rfl (p:=.tup []) (by simp only[VR];exact⟨[],rfl,.nil⟩) (Ext.refl _ _ _ _) (λj B h2=>G j (by omega) (by omega)) ?_;rintro rr ⟨N,D⟩;refine⟨N,λF n C y=> ?_⟩;rw[idxc,Pi.AZ,hw];exact D F n C y
end
end
section
variable[Pi.Gl]
open Pi (PV T Hp Blk DF UM PE AN AT AB AV Ao)
structure Kp (W:List Nat) (a b:Pi.Fr):Prop where
 t:∀ k,k ∉ W->b.t.get k=a.t.get k
 nt:b.nt=a.nt
 ro:b.ro=a.ro
 up:a.up=zn->b.up=zn
 ds:∃ p,b.ds=p++a.ds
theorem Kp.refl(W:List Nat)(a:Pi.Fr):Kp W a a:=⟨λ_ _=>rfl,rfl,rfl,λh=>h,[],rfl⟩
theorem Kp.trans{W:List Nat}{a b c:Pi.Fr}(h:Kp W a b)(k:Kp W b c):Kp W a c:=by
 obtain⟨p,d⟩:=h.ds;obtain⟨q,e⟩:=k.ds;exact⟨λi hi=>(k.t i hi).trans (h.t i hi),k.nt.trans h.nt,k.ro.trans h.ro,λf=>k.up (h.up f),q++p,by rw[e,d,List.append_assoc]⟩
theorem Kp.mono{W V:List Nat}(d:∀ k∈W,k∈V){a b:Pi.Fr}(h:Kp W a b):Kp V a b:=⟨λk c=>h.t k λhh=>c (d k hh),h.nt,h.ro,h.up,h.ds⟩
theorem Kp.put{W:List Nat}{a b:Pi.Fr}(l:a.nt<1048575){d:Option Nat}(f:∀ i,d=zo i->i∈W){v:PV}(e:a.put d v=zo b):Kp W a b:=by
 unfold Pi.Fr.put at e;split at e
 ·cases e;exact Kp.refl _ _
 ·rename_i i;replace e:=AK e;obtain⟨hi,e⟩:=e;cases e;have g:i<a.nt:=by simpa using hi
  have c:(2:Nat) ^ 20-1=1048575:=by decide
  refine⟨λk j=> ?_,rfl,rfl,λh=>h,[],rfl⟩;show(T.put 20 a.t i v).get k=_;rw[T.get_put 20 a.t i v k (by omega),zx];intro hh;subst hh;exact j (f k rfl)
section
variable{P:Program}{sh:FuncId->Bool}{rec:Pi.GE}
theorem Jh{base:Nat}{all:List Oper}{W:List Nat}:∀ {l:List (Nat×Oper)} {fr d:Pi.Fr} {h h':Hp} {ex:Pi.Ex},fr.nt<1048575->(∀ p∈l,∀ i,p.2.dst=zo i->i∈W)->Pi.AZ P sh rec base all l fr h=zo (ex,d,h')->Kp W fr d
 |[],fr,d,h,h',ex,hnt,hW,e=>by cases e;exact Kp.refl _ _
 |(i,o)::l,fr,d,h,h',ex,hnt,hW,e=>by
  have k:∀ p∈l,∀ i,p.2.dst=zo i->i∈W:=λp c=>hW p (by simp[c]);have q:∀ j,o.dst=zo j->j∈W:=hW (i,o) (by simp)
  have f:∀ {a b:Pi.Fr} {v:PV} {hh:Hp},Kp W fr a->a.put o.dst v=zo b->Pi.AZ P sh rec base all l b hh=zo (ex,d,h')->Kp W fr d:=λm n e=>by
   have g:=Kp.put (W:=W) (by rw[m.nt];exact hnt) q n;exact(m.trans g).trans (Jh (by rw[g.nt,m.nt];exact hnt) k e)
  unfold Pi.AZ at e;replace e:=BV e;rcases e with⟨_,e⟩|⟨_,e⟩
  ·split at e
   ·split at e
    ·rename_i c;exact f (Kp.refl _ _) c e
    ·cases e
   ·split at e
    ·rename_i c;exact f (Kp.refl _ _) c e
    ·cases e
   ·split at e
    ·split at e
     ·rename_i c;exact f (a:={ fr with ds:=_::fr.ds }) ⟨λ_ _=>rfl,rfl,rfl,λh=>h,[_],rfl⟩ c e
     ·cases e
    ·cases e
   ·split at e
    ·split at e
     ·rename_i c;exact f (Kp.refl _ _) c e
     ·cases e
    ·cases e;exact Kp.refl _ _
    ·cases e
   ·split at e
    ·split at e
     ·rename_i c;exact f (Kp.refl _ _) c e
     ·cases e
    ·cases e
   ·cases e;exact Kp.refl _ _
   ·split at e
    ·cases e
    ·split at e
     ·rename_i r;split at e
      ·rename_i c;exact f (a:={ t:=fr.t,nt:=fr.nt,ds:=fr.ds,up:=zo _,ro:=fr.ro }) ⟨λ_ _=>rfl,rfl,rfl,λh=>(by rw[r]at h;cases h),[],rfl⟩ c e
      ·cases e
     ·split at e
      ·rename_i c;exact f (Kp.refl _ _) c e
      ·cases e
   ·cases e
  ·split at e
   ·rename_i c;exact f (Kp.refl _ _) c e
   ·cases e
theorem DG{base nt:Nat}{all:List Oper}{W:List Nat}(c:nt<1048575):∀ {i:Nat} {ops:List Oper} {l:List Pi.Mk} {a:List (Nat×List Nat×List Nat)} {t f:T PV} {h h':Hp},(∀ o∈ops,∀ i,o.dst=zo i->i∈W)->Pi.AX P rec base nt all i ops l a t h=zo (f,h') -> ∀ k,k ∉ W->f.get k=t.get k
 |i,[],l,a,t,f,h,h',hW,e,k,hk=>by
  have:(t,h)=(f,h'):=by cases l<;>simpa[Pi.AX]using e
  cases this;rfl
 |i,o::ops,[],a,t,f,h,h',hW,e,k,hk=>by cases e
 |i,o::ops,m::l,a,t,f,h,h',hW,e,k,hk=>by
  have b:∀ o∈ops,∀ i,o.dst=zo i->i∈W:=λp r=>hW p (by simp[r]);have n:(2:Nat) ^ 20-1=1048575:=by decide
  have put:∀ {d:Nat} {v:PV},o.dst=zo d->af d nt=zt->(T.put 20 t d v).get k=t.get k:=λj g=>by
   have q:=aq g;rw[T.get_put 20 t _ _ k (by omega),zx];intro hh;subst hh;exact hk (hW o (by simp) _ j)
  unfold Pi.AX at e;replace e:=BV e;rcases e with⟨_,e⟩|⟨_,e⟩
  ·split at e
   ·replace e:=AK e;obtain⟨_,e⟩:=e;split at e
    ·rename_i d j;replace e:=AK e;obtain⟨g,e⟩:=e;rw[DG c b e k hk,put j g]
    ·exact DG c b e k hk
   ·cases e
  ·split at e
   ·rename_i d j;replace e:=AK e;obtain⟨g,e⟩:=e;rw[DG c b e k hk,put j g]
   ·exact DG c b e k hk
theorem Nk:∀ {l:List Oper} {i:Nat} {p:Nat×Oper},p∈Pi.HB i l->p.2∈l
 |[],i,p,h=>by cases h
 |o::l,i,p,h=>by
  rcases ai.1 h with rfl|h
  ·simp
  ·exact List.mem_cons_of_mem _ (Nk h)
theorem B7:∀ {n:Nat} {c:Code} {fr f:Pi.Fr} {h h':Hp} {ex:Pi.Ex},fr.nt<1048575->Pi.exec P sh rec n c fr h=zo (ex,f,h')->Kp (Bz c) fr f
 |0,_,_,_,_,_,_,_,e=>by cases e
 |n+1,c,fr,f,h,h',ex,hnt,e=>by
  cases c with
  |skip=>cases e;exact Kp.refl _ _
  |label l=>cases e;exact Kp.refl _ _
  |seq a b=>
   simp only[Pi.exec]at e;split at e
   ·rename_i fr1 t e1;have q:=B7 hnt e1;have B:=B7 (by rw[q.nt];exact hnt) e;exact(q.mono λk d=>ao _ d).trans (B.mono λk d=>am _ d)
   ·exact(B7 hnt e).mono λk d=>ao _ d
  |cond c a b=>
   simp only[Pi.exec]at e;split at e
   ·exact(B7 hnt e).mono λk d=>ao _ d
   ·exact(B7 hnt e).mono λk d=>am _ d
   ·cases e
  |block id b=>
   simp only[Pi.exec]at e;split at e
   ·rename_i j fr1 t e1;have q:=B7 hnt e1;replace e:=BV e;rcases e with⟨_,e⟩|⟨_,e⟩<;>(cases e;exact q)
   ·exact B7 (c:=b) hnt e
  |loop b=>
   simp only[Pi.exec]at e;split at e
   ·rename_i fr1 t e1;have q:=B7 hnt e1;exact q.trans (B7 (c:=.loop b) (by rw[q.nt];exact hnt) e)
   ·exact B7 (c:=b) hnt e
  |scope b=>
   simp only[Pi.exec]at e;split at e
   ·cases e
   ·exact B7 (c:=b) hnt e
  |exit id=>cases e;exact Kp.refl _ _
  |goto l=>cases e;exact Kp.refl _ _
  |ret=>cases e;exact Kp.refl _ _
  |refuse w=>cases e
  |region id ops s=>
   simp only[Pi.exec]at e;have y:∀ o∈ops.toList,∀ i,o.dst=zo i->i∈Bz (.region id ops s):=λo z i hi=>List.mem_filterMap.2 ⟨o,z,hi⟩;replace e:=BV e;rcases e with⟨_,e⟩|⟨_,e⟩
   ·replace e:=AK e;obtain⟨_,e⟩:=e;split at e
    ·rename_i fr1 t e1;cases e;unfold Pi.drawn at e1;split at e1
     ·split at e1
      ·rename_i D t e2;cases e1;exact⟨DG hnt y e2,rfl,rfl,λh=>h,[],rfl⟩
      ·cases e1
     ·cases e1
    ·cases e
   ·exact Jh hnt (λp A i hi=>y p.2 (Nk A) i hi) e
  |rangeFunc g C u r=>
   simp only[Pi.exec]at e;have x:∀ {m:List DF},Kp (Bz (.rangeFunc g C u r)) fr { fr with ds:=m++fr.ds }:=fun {m}=>⟨λ_ _=>rfl,rfl,rfl,λh=>h,m,rfl⟩
   split at e
   ·split at e
    ·split at e
     ·split at e
      ·split at e
       ·split at e
        ·replace e:=BE e;obtain⟨_,e⟩:=e;split at e
         ·split at e<;>first|(cases e;exact x)|cases e
         ·cases e
        ·cases e
       ·cases e
      ·cases e
     ·cases e
    ·cases e
   ·cases e
end
end
end Go.Proofs.YtfceigpbgndbgaaGreatDoor.Sv
