/- A part of the evaluator over typed open values for any program, and of the proof that it is sound. No condition. -/
import Derived.Test.YtanppfoapnaeaaaGreatPs0
set_option linter.all false
open List renaming all_cons->bu, all_nil->cz, append_nil->aO, drop_zero->bS, eq_nil_of_length_eq_zero->aS, isEmpty_nil->cf, length_eq_zero_iff->cx, length_nil->aJ, length_pos_iff->aN, mem_append->ao, mem_append_left->ak, mem_append_right->aj, mem_cons->ae, mem_singleton->ax, take_of_length_le->bR
open Nat renaming add_zero->bl, beq->aa, beq_eq->bJ, ble->af, ble_eq->bV, blt->ah, eq_of_beq_eq_true->al, le_add_left->aU, le_max_left->dk, le_max_right->di, le_of_ble_eq_true->aq, le_refl->ac, le_trans->ay, lt_of_lt_of_le->ci, max->cq
open Option renaming isNone_eq_false_iff->bD
open Bool renaming and_eq_true->ai, and_self->dq, and_true->bZ, not_eq_false'->az, not_true->au, or_eq_false_iff->am, or_false->a9, or_self->aL, true_and->cr
namespace Go.Proofs.YtanppfoapnaeaaaGreat.Sv
section
variable[Pi.Gl]
open Pi (PV T Hp Blk DF UM PE AN AT)
structure Nw (X:Cx) (n id idP:Nat):Prop where
 pi:X.π id=none
 lt:id<n
 big:n<=1048575
 hp:X.h.get idP=none
 hlt:idP<X.h.nx
section
variable{X:Cx}{h:H}{n id idP:Nat}{β:Type}{x:β}{P:Program}
theorem Nw.small(w:Nw X n id idP):id<1048575:=by have:=w.lt;have:=w.big;omega
def VOk(X:Cx)(h:H)(n id idP:Nat)(K:RA->Option β)(x:β)(o:Option Pi.R):Prop:=
 ∃ v h' p a Y,K (.val v h')=some x/\o=some (.val p a)/\FQ X h n id idP h' a Y/\VR Y v p
theorem VOk.same(r:RH X h n){K:RA->Option β}{o:Option Pi.R}{v:V}{p:PV}(e:K (.val v h)=some x)(a:o=some (.val p X.h))(b:VR X v p):VOk X h n id idP K x o:=
 ⟨v,h,p,X.h,X,e,a,⟨rfl,r,St.refl _ _ _ _⟩,b⟩
theorem Lh(r:RH X h n)(w:Nw X n id idP){g:Bool}{c:Ty}{l:List c.den}{es:List PV}{ex fz a:Bool}(p:fz=false->a=false)(q:L2 (EP g (DR X.h X.Q c)) l es)(f:ex=false->0<es.length) :
  ∃ d Y,X.h.new idP (.row es ex a)=some d/\FQ X h n id idP (AG h id (.row g c l ex fz false)) d Y/\VR Y (.ow id) (.own idP 0 es.length)/\Y.π id=some (.blk idP es.length):=by
 obtain⟨d,e⟩:=F1 X.h idP (.row es ex a) w.hp
 obtain⟨Y,o,i,j,s⟩:=r.new (m:=es.length) (b:=.row g c l ex fz false) w.small w.lt w.pi w.hlt e (λY o i j u=>
  .inl ⟨idP,es.length,es,a,rfl,(j _).2 (.inr rfl),by rw[i,(Hp.get_new e).2.1,if_pos rfl],p,rfl,f,EDR.mono u q⟩)
 have k:Y.π id=some (.blk idP es.length):=by rw[o];exact if_pos rfl
 exact⟨d,Y,e,⟨i,j,s⟩,by simp only[VR,k],k⟩
theorem BY(r:RH X h n)(w:Nw X n id idP){g:Bool}{c:Ty}{l:List c.den}{es:List PV}{ex fz:Bool}(d:L2 (EP g (DR X.h X.Q c)) l es)(b:ex=false->0<es.length) :
  ∃ a Y,X.h.new idP (.row es ex false)=some a/\FQ X h n id idP (AG h id (.row g c l ex fz false)) a Y/\VR Y (.ow id) (.own idP 0 es.length)/\Y.π id=some (.blk idP es.length):=
 Lh r w (λ_=>rfl) d b
theorem KG(r:RH X h n)(w:Nw X n id idP){g:Bool}{c:Ty}{fz:Bool} :
  ∃ Y,FQ X h n id idP (AG h id (.row g c [] false fz false)) X.h Y/\VR Y (.ow id) .nils:=by
 obtain⟨Y,e,f,i,j⟩:=r.alias (a:=.nil) (b:=.row g c [] false fz false) w.small w.lt w.pi (by simp) (λY u=>.inr (.inl ⟨rfl,rfl,rfl⟩)) idP;have d:Y.π id=some .nil:=by rw[e];exact if_pos rfl
 exact⟨Y,⟨f,i,j⟩,by simp only[VR,d]⟩
theorem RT(r:RH X h n)(w:Nw X n id idP){g:Bool}{c:Ty}{l:List c.den}{es:List PV}(d:L2 (EP g (DP c)) l es) :
  ∃ Y,FQ X h n id idP (AG h id (.row g c l false true false)) X.h Y/\VR Y (.ow id) (.lst true es):=by
 obtain⟨Y,f,i,j,k⟩:=r.alias (a:=.fz es) (b:=.row g c l false true false) w.small w.lt w.pi (by simp) (λY u=>.inr (.inr ⟨es,rfl,rfl,.inl rfl,d⟩)) idP;have e:Y.π id=some (.fz es):=by rw[f];exact if_pos rfl
 exact⟨Y,⟨i,j,k⟩,by simp only[VR,e]⟩
theorem Jw(r:RH X h n)(w:Nw X n id idP){g:Bool}{c:Ty}{fz:Bool} :
  ∃ Y,FQ X h n id idP (AG h id (.row g c [] false fz false)) X.h Y/\VR Y (.ow id) (.lst true []):=by
 obtain⟨Y,e,f,i,j⟩:=r.alias (a:=.fz []) (b:=.row g c [] false fz false) w.small w.lt w.pi (by simp) (λY u=>.inr (.inr ⟨[],rfl,rfl,.inr rfl,.nil⟩)) idP;have d:Y.π id=some (.fz []):=by rw[e];exact if_pos rfl
 exact⟨Y,⟨f,i,j⟩,by simp only[VR,d]⟩
theorem EPL.up{g:Bool}{c:Ty}{l:List c.den}{es:List PV}{hh:Hp}{Q:Nat->Prop}(h:L2 (EP g (DP c)) l es):L2 (EP g (DR hh Q c)) l es:=h.mono λ_ _ k=>k.upP
theorem Od{g:Bool}{hh:Hp}{Q:Nat->Prop}{c:Ty}{l:List c.den}{es:List PV}{b:Nat}(hs:b=c.wd)(h:L2 (EP g (DR hh Q c)) l es):(es.all λv=>aa v.cells.length b)=true:=by
 induction h with
 |nil=>rfl
 |cons a _ ih=>simp only[bu,ih,bZ,a.wd];simp[hs]
theorem Qo{hh:Hp}{i:TypeId}{g:Bool}{c:Ty}{s p:PV}{new:List PV}{l:List c.den}{Q:Nat->Prop}(a:I4 P i c=true)(u:Pi.BW hh p=some new)(q:L2 (EP g (DR hh Q c)) l new) :
  Pi.Ea P hh idP i s p=(match s with
   |.nils=>bif new.isEmpty then some (.val .nils hh)else bif af new.length Pi.Ba then(hh.new idP (.row new false false)).map λh=>.val (.own idP 0 new.length) h else none
   |.lst true es=>bif new.isEmpty then some (.val (.lst true es) hh)else bif af (es.length+new.length) Pi.Ba&&Pi.Cd c.wd es then(hh.new idP (.row (es++new) false false)).map λh=>.val (.own idP 0 (es.length+new.length)) h else none
   |.own j off len=>match hh.get j with
    |some (.row es ex fz)=>
     bif !af (len+new.length) Pi.Ba || !af (off+len) es.length || !Pi.Cd c.wd es then none else
     bif ex then
      bif new.isEmpty then some (.val (.own j off len) hh)else bif af (off+len+new.length) es.length then
       (bif fz then none else(hh.set j (.row (Pi.BT es (off+len) new) true false)).map λh=>.val (.own j off (len+new.length)) h)
      else(hh.new idP (.row ((es.drop off).take len++new) false false)).map λh=>.val (.own idP 0 (len+new.length)) h
     else bif aa len es.length&&aa off 0&&ah 0 len then
      match hh.set j .dead with
      |some h=>(h.new idP (.row (es++new) false fz)).map λh=>.val (.own idP 0 (len+new.length)) h
      |none=>none
     else none
    |_=>none
   |_=>none):=by
 unfold I4 at a;unfold Pi.Ea;split at a
 ·rename_i e t;split at a
  ·rename_i k z b w;simp only[ai,bJ]at a;obtain⟨⟨⟨f,m⟩,n⟩,o⟩:=a;have r:Pi.AV P e=some k.size:=by unfold Pi.AV;rw[b];rfl
   have d:z.length.beq k.size=true:=by simp[n]
   simp only[t,r,b,u,w];rw[Od f q,show Pi.Ba=1048576 from rfl,m,d,o,f];rfl
  ·cases a
 ·cases a
theorem CR{α:Type}{l:List α}(h:l≠[]):l.isEmpty=false:=by cases l<;>simp at h ⊢
theorem Oz{f:Bool}{v:V}{vs:List V}{p:PV}{es:List PV}{hh:Hp}(a:VR X (.exl f (v::vs)) p)(e:Pi.BW hh p=some es):es≠[]:=by
 simp only[VR]at a;obtain⟨c,d,rfl,_,b⟩:=a;obtain⟨q,g,rfl,_,_⟩:=b.cons_inv;cases e;simp
theorem NE{α:Type}{R:α->PV->Prop}{l new:List α}{es a:List PV}(h:L2 R l es)(k:L2 R new a)(off m:Nat):L2 R (LB l off new m) (Pi.BT es off (a.take m)):=by
 unfold LB Pi.BT;have:=(k.take m).length;rw[this];exact(h.take off).append ((k.take m).append (h.drop _))
theorem LG{es x:List PV}{off:Nat}(h:off+x.length<=es.length):(Pi.BT es off x).length=es.length:=by
 unfold Pi.BT;simp;omega
theorem QL(r:RH X h n)(w:Nw X n id idP){st:TypeId}{s a:V}{sP p:PV}{K:RA->Option β}(hs:VR X s sP)(ha:VR X a p)(e:RM P h id st s a K=some x):VOk X h n id idP K x (Pi.Ea P X.h idP st sP p):=by
 unfold RM at e;replace e:=AD e;obtain⟨⟨g,c⟩,hel,e⟩:=e;replace e:=AK e;obtain⟨he,e⟩:=e;replace e:=I5 r ha e;obtain⟨new,b,e,hx,d⟩:=e;have E:=Qo (idP:=idP) (s:=sP) he hx d;rw[E];have U:Pi.Ba=1048576:=rfl
 have into:∀ {fz:Bool},b.length<=1048576->K (.val (.ow id) (AG h id (.row g c new false fz false)))=some x->VOk X h n id idP K x (bif b.isEmpty then some (.val .nils X.h)else bif af b.length Pi.Ba then(X.h.new idP (.row b false false)).map λh=>.val (.own idP 0 b.length) h else none):=by
  intro fz D e;by_cases f:b=[]
  ·subst f;have:=d.nil_inv';subst this;obtain⟨Y,y,q⟩:=KG (fz:=fz) (g:=g) (c:=c) r w;exact⟨_,_,.nils,X.h,Y,e,rfl,y,q⟩
  ·have z:0<b.length:=aN.2 f;obtain⟨i,Y,y,q,J,_⟩:=BY (fz:=fz) r w d λ_=>z;refine⟨_,_,_,i,Y,e,?_,q,J⟩;rw[CR f,U,show af b.length 1048576=true from by simpa using D,y];rfl
 split at e
 ·simp only[VR]at hs;subst hs;replace e:=AJ e;obtain⟨D,e⟩:=e;exact into (by rw[<- d.length];simpa[CF,AS]using D) e
 ·rename_i g' W l;replace e:=AK e;obtain⟨hg,e⟩:=e;have:=eq_of_beq hg;subst this;replace e:=AJ e;obtain⟨D,e⟩:=e;replace e:=A5 e;obtain⟨hc,e⟩:=e;subst hc;have k:l.length+new.length<=1048576:=by simpa[CF,AS,BF]using D
  have L:b≠[]->K (.val (.ow id) (AG h id (.row g W (Ij l new) false false false)))=some x->VOk X h n id idP K x (Pi.Ea P X.h idP st sP p):=λG e=>by
   rw[E];have z:0<b.length:=aN.2 G;simp only[VR]at hs;rcases hs with⟨rfl,rfl⟩|⟨f',o,rfl,hf,B⟩|⟨pid,off,len,o,ex,fz,rfl,hf,B,Z,M,h8,h4⟩
   ·exact into (by rw[<- d.length];simpa using k) e
   ·have:=hf trivial;subst this;obtain⟨i,Y,y,q,J,_⟩:=BY (fz:=false) r w ((EPL.up B).append d) λ_=>by simp;omega
    refine⟨_,_,_,i,Y,e,?_,q,J⟩;have F:af (o.length+b.length) 1048576=true:=by rw[<- B.length,<- d.length];simpa using k
    dsimp only;rw[CR G,U,F,Ax rfl (EPL.up (hh:=X.h) (Q:=X.Q) B),y];simp
   ·obtain⟨rfl,hend⟩:=hf trivial;obtain⟨i,Y,y,q,J,_⟩:=BY (fz:=false) r w (h4.append d) λ_=>by simp;omega
    refine⟨_,_,_,i,Y,e,?_,q,J⟩;have hl4:=h4.length;have I:((o.drop off).take len).length=len:=by simp;omega
    have F:af (len+b.length) 1048576=true:=by rw[<- I,<- hl4,<- d.length];simpa using k
    have O:af (off+len) o.length=true:=by simpa using M
    have h7:af (off+len+b.length) o.length=false:=by
     cases S:af (off+len+b.length) o.length with
     |false=>rfl
     |true=>have:=aq S;omega
    simp only[Z,U,F,O,h8,h7,CR G,au,a9,cond_false,cond_true,y];simp[I]
  have stay:b=[]->K (.val (.lf true g W l) h)=some x->VOk X h n id idP K x (Pi.Ea P X.h idP st sP p):=λf e=>by
   rw[E];subst f;have N:=hs;simp only[VR]at hs;rcases hs with⟨rfl,rfl⟩|⟨f',o,rfl,hf,B⟩|⟨pid,off,len,o,ex,fz,rfl,hf,B,Z,M,h8,h4⟩
   ·exact VOk.same r e rfl N
   ·have:=hf trivial;subst this;exact VOk.same r e rfl N
   ·obtain⟨rfl,hend⟩:=hf trivial;have hl4:=h4.length;have I:((o.drop off).take len).length=len:=by simp;omega
    have F:af (len+([]:List PV).length) 1048576=true:=by
     rw[<- I,<- hl4];simp only[aJ,bl,bV];omega
    have O:af (off+len) o.length=true:=by simpa using M
    refine VOk.same r e ?_ N;simp only[Z,U,F,O,h8,au,a9,cond_false,cond_true,cf]
  rw[<- E];split at e
  ·exact L (Oz ha hx) e
  ·replace e:=BN e;rcases e with⟨f,e⟩|⟨f,e⟩
   ·refine stay ?_ e;have f:new.length=0:=al f;rw[d.length]at f;exact aS f
   ·refine L ?_ e;intro hn;subst hn;have:=d.nil_inv';subst this;cases f
 ·simp only[VR]at hs;obtain⟨f',o,rfl,hf,B⟩:=hs;have:=B.nil_inv;subst this;have:=hf trivial;subst this;replace e:=AJ e;obtain⟨D,e⟩:=e;have k:b.length<=1048576:=by rw[<- d.length];simpa[CF,AS]using D
  by_cases f:b=[]
  ·subst f;have:=d.nil_inv';subst this;obtain⟨Y,y,q⟩:=Jw (fz:=false) (g:=g) (c:=c) r w;exact⟨_,_,_,X.h,Y,e,rfl,y,q⟩
  ·have z:0<b.length:=aN.2 f;obtain⟨i,Y,y,q,J,_⟩:=BY (fz:=false) r w d λ_=>z;refine⟨_,_,_,i,Y,e,?_,q,J⟩;have F:af (([]:List PV).length+b.length) 1048576=true:=by simpa using k
   dsimp only;rw[CR f,U,F,show Pi.Cd c.wd []=true from rfl,List.nil_append,y];simp
 ·rename_i j;split at e
  ·rename_i g' W l ex fz lk C;replace e:=BC e;obtain⟨hg,e⟩:=e;simp only[am,az]at hg;obtain⟨hg,hlk⟩:=hg;subst hlk;have:=eq_of_beq hg;subst this;replace e:=A5 e;obtain⟨hc,e⟩:=e;subst hc;replace e:=AJ e;obtain⟨D,e⟩:=e;have k:l.length+new.length<=1048576:=by simpa[CF,AS,BF]using D
   simp only[VR]at hs;have S:=r.blk _ _ C;cases A:X.π j with
   |none=>rw[A]at hs;exact hs.elim
   |some t=>
    rw[A]at hs S;have hj:j<1048575:=by have:=r.dom _ _ A;have:=w.big;omega
    rcases BU e with⟨hex,e⟩|⟨hex,e⟩
    ·subst hex
     have L:b≠[]->K (.val (.ow id) (AG h id (.row g W (Ij l new) false false false)))=some x->VOk X h n id idP K x (Pi.Ea P X.h idP st sP p):=λG e=>by
      rw[E];have z:0<b.length:=aN.2 G;rcases S with⟨pid,len,o,fz',B,Z,M,h4,F,h7,O⟩|⟨_,B,_⟩|⟨_,_,B,_⟩
      ·cases B;simp only at hs;subst hs;obtain⟨i,Y,y,q,J,_⟩:=BY (fz:=false) r w (O.append d) λ_=>by simp;omega
       refine⟨_,_,_,i,Y,e,?_,q,J⟩;have k5:af (len+b.length) 1048576=true:=by rw[<- F,<- O.length,<- d.length];simpa using k
       have k6:af (0+len) o.length=true:=by rw[F];simp
       have k7:af (0+len+b.length) o.length=false:=by
        cases S:af (0+len+b.length) o.length with
        |false=>rfl
        |true=>have:=aq S;omega
       have k8:(o.drop 0).take len=o:=by rw[bS,bR (by omega)]
       simp only[M,U,k5,k6,Ax rfl O,k7,k8,CR G,au,a9,cond_false,cond_true,y];simp[F]
      ·cases B
      ·cases B
     have stay:b=[]->K (.val (.ow j) h)=some x->VOk X h n id idP K x (Pi.Ea P X.h idP st sP p):=λf e=>by
      rw[E];subst f;have N:VR X (.ow j) sP:=by simp only[VR];rw[A];exact hs
      rcases S with⟨pid,len,o,fz',B,Z,M,h4,F,h7,O⟩|⟨_,B,_⟩|⟨_,_,B,_⟩
      ·cases B;simp only at hs;subst hs
       have k5:af (len+([]:List PV).length) 1048576=true:=by
        rw[<- F,<- O.length];simp only[aJ,bl,bV];omega
       have k6:af (0+len) o.length=true:=by rw[F];simp
       refine VOk.same r e ?_ N;simp only[M,U,k5,k6,Ax rfl O,au,a9,cond_false,cond_true,cf]
      ·cases B
      ·cases B
     rw[<- E];split at e
     ·exact L (Oz ha hx) e
     ·simp only[cond_true]at e;replace e:=BN e;rcases e with⟨f,e⟩|⟨f,e⟩
      ·refine stay ?_ e;have f:new.length=0:=al f;rw[d.length]at f;exact aS f
      ·refine L ?_ e;intro hn;subst hn;have:=d.nil_inv';subst this;cases f
    ·subst hex;rcases S with⟨pid,len,o,fz',B,Z,M,h4,F,h7,O⟩|⟨B,_,Z⟩|⟨o,B,_,Z,M⟩
     ·cases B;simp only at hs;subst hs;have z:=h7 rfl;have k5:af (len+b.length) 1048576=true:=by rw[<- F,<- O.length,<- d.length];simpa using k
      have k6:af (0+len) o.length=true:=by rw[F];simp
      have k9:(aa len o.length&&aa 0 0&&ah 0 len)=true:=by rw[F];simp[z]
      obtain⟨hD,eD⟩:=BM X.h pid .dead
      obtain⟨Y0,z1,z2,z3,z4,z5⟩:=r.set (b':=.dead) hj C trivial rfl A M (by intros;simp) eD (λY hY1 hY2 hY3 _ pid' m' e=>by
       rw[A]at e;cases e
       exact⟨by rw[hY3];exact Z,by rw[hY2,(Hp.get_set eD).1,if_pos rfl]⟩) idP
      have w0:Nw Y0 n id idP:=⟨by rw[z1];exact w.pi,w.lt,w.big,by
       rw[z2,(Hp.get_set eD).1];by_cases hq:idP=pid
       ·subst hq;have:=w.hp;rw[M]at this;cases this
       ·rw[if_neg hq];exact w.hp,by rw[z2,(Hp.get_set eD).2];exact w.hlt⟩
      have hmix:L2 (EP g (DR Y0.h Y0.Q W)) (l++new) (o++b):=(EDR.mono (z5 id).up O).append (EDR.mono (z5 id).up d);obtain⟨i,Y,y,q,J,_⟩:=Lh z4 w0 h4 hmix λ_=>by simp;omega
      refine⟨_,_,_,i,Y,e,?_,⟨q.1,q.2.1,(z5 id).trans q.2.2⟩,J⟩;rw[z2]at y;simp only[M,U,k5,k6,Ax rfl O,k9,au,a9,cond_false,cond_true,eD,y];simp[F]
     ·cases B;simp only at hs;subst hs;subst Z;obtain⟨rd,sd⟩:=r.dead hj C rfl (λ_ _ e=>by rw[A]at e;cases e) idP;by_cases f:b=[]
      ·subst f;have:=d.nil_inv';subst this;obtain⟨Y,y,q⟩:=KG (fz:=fz) (g:=g) (c:=W) rd w;exact⟨_,_,.nils,X.h,Y,e,rfl,⟨y.1,y.2.1,(sd id).trans y.2.2⟩,q⟩
      ·have z:0<b.length:=aN.2 f;obtain⟨i,Y,y,q,J,_⟩:=BY (fz:=fz) rd w d λ_=>z;refine⟨_,_,_,i,Y,e,?_,⟨q.1,q.2.1,(sd id).trans q.2.2⟩,J⟩;rw[CR f,U,show af b.length 1048576=true from by rw[<- d.length];simpa using k,y];rfl
     ·cases B;simp only at hs;subst hs;obtain⟨rd,sd⟩:=r.dead hj C rfl (λ_ _ e=>by rw[A]at e;cases e) idP;by_cases f:b=[]
      ·subst f;have:=d.nil_inv';subst this
       have hx:∃ Y,FQ X (AG h j .dead) n id idP (AG (AG h j .dead) id (.row g W l false fz false)) X.h Y/\VR Y (.ow id) (.lst true o):=by
        rcases Z with rfl|rfl
        ·exact RT (g:=g) (c:=W) (l:=l) rd w M
        ·rw[M.nil_inv];exact Jw (g:=g) (c:=W) (fz:=fz) rd w
       obtain⟨Y,y,q⟩:=hx;refine⟨_,_,_,X.h,Y,e,rfl,⟨?_,?_,?_⟩,q⟩
       ·exact y.1
       ·have:=y.2.1;rw[show Ij l []=l from aO l];exact this
       ·have:=y.2.2;rw[show Ij l []=l from aO l];exact(sd id).trans this
      ·obtain⟨i,Y,y,q,J,_⟩:=BY (fz:=fz) rd w ((EPL.up M).append d) λ_=>by simp;have:=aN.2 f;omega
       refine⟨_,_,_,i,Y,e,?_,⟨q.1,q.2.1,(sd id).trans q.2.2⟩,J⟩;have F:af (o.length+b.length) 1048576=true:=by rw[<- M.length,<- d.length];simpa using k
       dsimp only;rw[CR f,U,F,Ax rfl (EPL.up (hh:=X.h) (Q:=X.Q) M),y];simp
  ·cases e
 ·rename_i j off len;split at e
  ·rename_i g' W l C;replace e:=AK e;obtain⟨hg,e⟩:=e;have:=eq_of_beq hg;subst this;replace e:=A5 e;obtain⟨hc,e⟩:=e;subst hc;replace e:=AJ e;obtain⟨D,e⟩:=e;replace e:=AJ e;obtain⟨hin,e⟩:=e;have k:len+new.length<=1048576:=by simpa[CF,AS,BF]using D
   have hin':off+len<=l.length:=by simpa[CF,AS,BF]using hin
   have N:=hs;simp only[VR]at hs;obtain⟨pid,m,A,rfl⟩:=hs;have hj:j<1048575:=by have:=r.dom _ _ A;have:=w.big;omega
   obtain⟨o,fz',p3,p4,p5,p7,p6⟩:=r.rowAt A C;have:=p4 rfl;subst this;have hl:=p6.length;have k5:af (len+b.length) 1048576=true:=by rw[<- d.length];simpa using k
   have k6:af (off+len) o.length=true:=by rw[<- hl];simpa using hin'
   replace e:=BN e;rcases e with⟨f,e⟩|⟨f,e⟩
   ·have f:new.length=0:=al f;rw[d.length]at f;have f:=aS f;subst f;refine VOk.same r e ?_ N;simp only[p3,U,k5,k6,Ax rfl p6,au,a9,cond_false,cond_true,cf]
   ·have G:b≠[]:=λhn=>by
     subst hn;have:=d.nil_inv';subst this;cases f
    replace e:=BN e;rcases e with⟨S,e⟩|⟨S,e⟩
    ·have hb':off+len+b.length<=o.length:=by
      rw[<- hl,<- d.length];simpa[CF,BF,AS]using S
     have k7:af (off+len+b.length) o.length=true:=by simpa using hb'
     have htk:b.take new.length=b:=by rw[d.length,List.take_length]
     obtain⟨i,eS⟩:=BM X.h pid (.row (Pi.BT o (off+len) b) true false)
     obtain⟨Y,y,q,J,y4,y5⟩:=r.set (b':=.row g W (LB l (BF off len) new (AS new)) true false false) hj C trivial rfl A p3 (by intros;simp) eS
      (λY y q J u=>by
       rw[A];refine .inl ⟨pid,m,_,false,rfl,by rw[J];exact(A ▸ r.blk _ _ C).own trivial,by rw[q,(Hp.get_set eS).1,if_pos rfl],λ_=>rfl,?_,p7,EDR.mono u ?_⟩
       ·rw[LG hb'];exact p5
       ·have:=NE p6 d (off+len) new.length
        rw[htk]at this;exact this) idP
     refine⟨_,_,.own pid off (len+b.length),i,Y,e,?_,⟨q,y4,y5 id⟩,by simp only[VR];exact⟨pid,m,by rw[y];exact A,by simp[BF,AS,d.length]⟩⟩;simp only[p3,U,k5,k6,k7,Ax rfl p6,CR G,au,a9,cond_false,cond_true,eS];rfl
    ·have k7:af (off+len+b.length) o.length=false:=by
      cases hq:af (off+len+b.length) o.length with
      |false=>rfl
      |true=>
       have h7:=aq hq;rw[<- hl,<- d.length]at h7;have:CF (BF (BF off len) (AS new)) (AS l)=true:=by simpa[CF,BF,AS]using h7
       rw[this]at S;cases S
     have hsub:L2 (EP g (DR X.h X.Q W)) (D0 l off (BF off len)) ((o.drop off).take len):=by
      have:=(p6.drop off).take len;unfold D0 BF;rw[show off+len-off=len by omega];exact this
     have I:((o.drop off).take len).length=len:=by simp;omega
     have z:0<b.length:=aN.2 G;obtain⟨i,Y,y,q,J,_⟩:=BY (fz:=false) r w (hsub.append d) λ_=>by simp;omega
     refine⟨_,_,_,i,Y,e,?_,q,J⟩;simp only[p3,U,k5,k6,k7,Ax rfl p6,CR G,au,a9,cond_false,cond_true,y];simp[I]
  ·cases e
 ·cases e
end
end
section
variable[Pi.Gl]
open Pi (PV T Hp Blk DF UM PE AN AT)
section
variable{X:Cx}{h:H}{n id idP:Nat}{β:Type}{x:β}{P:Program}
theorem Ck{k:Ty}{d:TypeDesc}{e:k.den->k.den->Bool}{a b:k.den}{p q:PV}(h:Ep k d=true)(g:Ra k=some e)(c:DP k a [p])(f:DP k b [q]):Pi.J5 d p q=some (e a b):=by
 cases k with
 |int i=>
  cases d<;>simp[Ep]at h;cases g;simp only[DP,List.cons.injEq,and_true]at c f;subst c;subst f;simp[Pi.J5,OY]
 |bool=>
  cases d<;>simp[Ep]at h;cases g;simp only[DP,List.cons.injEq,and_true]at c f;subst c;subst f;simp[Pi.J5,beq]
 |str=>
  cases d<;>simp[Ep]at h;cases g;simp only[DP,List.cons.injEq,and_true]at c f;subst c;subst f;simp[Pi.J5,seq]
 |unit=>cases g
 |pair=>cases g
 |sl=>cases g
theorem EG{k:Ty}{d:TypeDesc}(a:Ep k d=true):Pi.Cl d=true:=by
 cases k<;>cases d<;>simp[Ep]at a<;>rfl
variable{k:Ty}{g:Bool}{c:Ty}{d:TypeDesc}{e:k.den->k.den->Bool}
theorem NK(f:Ep k d=true)(i:Ra k=some e){a:k.den}{p:PV}(b:DP k a [p]):∀ {l:List (k.den×c.den)} {es:List (PV×PV)},L2 (MR X k g c) l es ->
  (MT e l a=none/\Pi.Hb d es p=some none) \/ ∃ y v,MT e l a=some y/\Pi.Hb d es p=some (some v)/\EP g (DR X.h X.Q c) y v
 |_,_,.nil=>.inl ⟨rfl,rfl⟩
 |(a1,y1)::l,(p1,v1)::es,.cons h t=>by
  have j:=Ck f i b h.1;unfold MT Pi.Hb;rw[j];cases m:e a a1 with
  |true=>exact .inr ⟨y1,v1,rfl,rfl,h.2⟩
  |false=>simpa using NK f i b t
theorem Gb(i:Ep k d=true)(j:Ra k=some e){a:k.den}{p:PV}(b:DP k a [p]){y:c.den}{v:PV}(f:EP g (DR X.h X.Q c) y v):∀ {l:List (k.den×c.den)} {es:List (PV×PV)},L2 (MR X k g c) l es ->
  ∃ es',Pi.IR d es p v=some es'/\L2 (MR X k g c) (IR e l a y) es'
 |_,_,.nil=>⟨[(p,v)],rfl,.cons ⟨b,f⟩ .nil⟩
 |(a1,y1)::l,(p1,v1)::es,.cons h t=>by
  have o:=Ck i j b h.1;unfold IR Pi.IR;rw[o];cases q:e a a1 with
  |true=>exact⟨_,rfl,.cons ⟨b,f⟩ t⟩
  |false=>
   obtain⟨es',m,n⟩:=Gb i j b f t;exact⟨(p1,v1)::es',by simp[m],.cons h n⟩
theorem Ga(f:Ep k d=true)(i:Ra k=some e){a:k.den}{p:PV}(b:DP k a [p]):∀ {l:List (k.den×c.den)} {es:List (PV×PV)},L2 (MR X k g c) l es ->
  ∃ es',Pi.IQ d es p=some es'/\L2 (MR X k g c) (IQ e l a) es'
 |_,_,.nil=>⟨[],rfl,.nil⟩
 |(a1,y1)::l,(p1,v1)::es,.cons h t=>by
  have n:=Ck f i b h.1;unfold IQ Pi.IQ;rw[n];cases o:e a a1 with
  |true=>exact⟨_,rfl,t⟩
  |false=>
   obtain⟨es',j,m⟩:=Ga f i b t;exact⟨(p1,v1)::es',by simp[j],.cons h m⟩
theorem DP.key{hh:Hp}{Q:Nat->Prop}(b:Ra k=some e){a:k.den}{c:List PV}(h:DR hh Q k a c):DP k a c:=by
 cases k with
 |int|bool|str=>exact h
 |unit=>cases b
 |pair=>cases b
 |sl=>cases b
end
section
variable{X:Cx}{h:H}{n id idP:Nat}{β:Type}{x:β}{P:Program}
theorem J6(r:RH X h n){ty:TypeId}{m v:V}{B p:PV}{K:(j:Nat)->(k:Ty)->(g:Bool)->(c:Ty)->List (k.den×c.den)->Bool->(k.den->k.den->Bool)->k.den->Option β}
  (A:VR X m B) (L:VR X v p) (e:PC P ty m v h K=some x) :
  ∃ j k g c l o f a i s d pid t es,K j k g c l o f a=some x/\m=.mp j/\h.get j=some (.mp k g c l o)/\X.π j=some (.blk pid t)/\B=.mp pid/\X.h.get pid=some (.mp es)/\L2 (MR X k g c) l es /\
   P.underlying ty=some (.map i s)/\P.underlying i=some d/\Ep k d=true/\Ra k=some f/\DP k a [p]:=by
 unfold PC at e;split at e
 ·rename_i i s j J;split at e
  ·rename_i d k g c l o G z;replace e:=AK e;obtain⟨I,e⟩:=e;replace e:=AD e;obtain⟨f,y,e⟩:=e;replace e:=GH (VRL.cons L .nil) e;obtain⟨a,S,O,q,e,u,C,M⟩:=e;split at e
   ·rw[M.nil_inv,aO]at u;simp only[VR]at A;obtain⟨pid,t,b,rfl⟩:=A;have w:=r.blk _ _ z;rw[b]at w;obtain⟨_,_,es,D,N,E,F⟩:=w;cases D;exact⟨j,k,g,c,l,o,f,a,i,s,d,_,t,es,e,rfl,z,b,rfl,E,F,J,G,I,y,DP.key y (u ▸ C)⟩
   ·cases e
  ·cases e
 ·cases e
theorem MQ(r:RH X h n){ty:TypeId}{m k:V}{O p:PV}{o:Bool}{K:V->Option β}(F:VR X m O)(Y:VR X k p)(e:J7 P h ty m k o K=some x) :
  ∃ v q,K v=some x/\Pi.DH P X.h ty O p o=some (.val q X.h)/\VR X v q:=by
 unfold J7 at e;split at e
 ·simp only[VR]at F;subst F;split at e
  ·rename_i kt S t;split at e
   ·rename_i d z w G;replace e:=AK e;obtain⟨E,e⟩:=e;obtain⟨L,C,u⟩:=F9 (X:=X) G;refine⟨_,bif o then .tup [L,.bool false]else L,e,?_,?_⟩
    ·unfold Pi.DH;simp only[t,Pi.LL,w,E,au,cond_false,Pi.Hb,C];rfl
    ·cases o
     ·exact u
     ·simp only[cond_true,VR];exact⟨_,rfl,.cons u (.cons (by simp[VR]) .nil)⟩
   ·cases e
  ·cases e
 ·rename_i Z;replace e:=J6 r F Y e;obtain⟨j,kk,g,c,l,lk,f,a,kt,S,d,pid,m',es,e,rfl,hg,hpi,rfl,M,U,t,w,i,W,D⟩:=e;simp only[t]at e;replace e:=AD e;obtain⟨z,G,e⟩:=e;obtain⟨L,C,u⟩:=F9 (X:=X) G;replace e:=Eh u e;obtain⟨y,e,hy⟩:=e
  have s:∀ {B:c.den} {A:PV} {b:Bool},EP g (DR X.h X.Q c) B A->VR X (bif o then V.tup [Nr g c B,.bool b]else Nr g c B) (bif o then PV.tup [A,.bool b]else A):=by
   intro B A b N;cases o
   ·exact Fq N
   ·simp only[cond_true,VR];exact⟨_,rfl,.cons (Fq N) (.cons (by simp[VR]) .nil)⟩
  rcases NK (d:=d) i W D U with⟨I,J⟩|⟨y',v',I,J,m3⟩
  ·refine⟨_,_,e,?_,by rw[I];exact s hy⟩;unfold Pi.DH;simp only[t,Pi.LL,M,w,EG i,au,cond_false,J,C];rfl
  ·refine⟨_,_,e,?_,by rw[I];exact s m3⟩;unfold Pi.DH;simp only[t,Pi.LL,M,w,EG i,au,cond_false,J];rfl
theorem RH.mapSet(r:RH X h n)(D:n<=1048575){j pid m:Nat}{k:Ty}{g:Bool}{c:Ty}{l l':List (k.den×c.den)}{es es':List (PV×PV)}(s:h.get j=some (.mp k g c l false))(b:X.π j=some (.blk pid m))(y:X.h.get pid=some (.mp es))(A:L2 (MR X k g c) l' es') :
  ∃ a Y,X.h.set pid (.mp es')=some a /\ ∀ i d,FQ X h n i d (AG h j (.mp k g c l' false)) a Y:=by
 obtain⟨a,e⟩:=BM X.h pid (.mp es');have z:j<1048575:=by have:=r.dom _ _ b;omega
 have key:∀ d,∃ Y:Cx,Y.π=X.π/\Y.h=a/\Y.O=X.O/\RH Y (AG h j (.mp k g c l' false)) n /\ ∀ i,St X h i d Y (AG h j (.mp k g c l' false)):=λd=>
  r.set (b':=.mp k g c l' false) z s trivial rfl b y (by intros;simp) e (λY p f o u=>by
   rw[b]
   exact⟨pid,m,es',rfl,by rw[o];exact(b ▸ r.blk _ _ s).own trivial,by rw[f,(Hp.get_set e).1,if_pos rfl],A.mono λ_ _ m=>⟨m.1,m.2.mono λ_ _ k=>DR.mono u.rows k⟩⟩) d
 obtain⟨Y,p,f,o,B,E⟩:=key 0;refine⟨a,Y,e,λi d=>⟨f,B,?_⟩⟩;obtain⟨q,t,w,x,F,C⟩:=key d
 have:q=Y:=by
  cases Y;cases q;simp only at p f o t w x;subst p;subst f;subst o;subst t;subst w;subst x;rfl
 subst this;exact C i
theorem Fb(r:RH X h n)(F:n<=1048575){ty:TypeId}{m k v:V}{w p q:PV}{K:H->Option β}(E:VR X m w)(D:VR X k p)(I:VR X v q)(id idP:Nat)(e:EN P h ty m k v K=some x) :
  ∃ h' b Y,K h'=some x/\Pi.CE P X.h ty w p q=some (.skip b)/\FQ X h n id idP h' b Y:=by
 unfold EN at e;replace e:=J6 r E D e;obtain⟨j,S,g,c,l,W,f,a,U,O,d,pid,Z,es,e,rfl,C,t,rfl,u,z,G,A,i,B,o⟩:=e;replace e:=BC e;obtain⟨s,e⟩:=e;subst s;replace e:=Eh I e;obtain⟨y,e,J⟩:=e;obtain⟨es',L,M⟩:=Gb (d:=d) i B o J z;obtain⟨b,Y,e1,N⟩:=r.mapSet F C t u M;refine⟨_,b,Y,e,?_,N id idP⟩;unfold Pi.CE;simp only[G,A,EG i,au,cond_false,u,L,e1];rfl
theorem ID{f:Int->Int->Int}{F:Int->Int->Int}(g:∀ a b,f a b=F a b){k:IntKind}:∀ {m:Int} {vs:List V} {j:List PV} {K:Int->Option β},VRL X vs j->JC f k m vs K=some x -> ∃ r,K r=some x/\Pi.B7 F m j k=some r
 |m,[],_,K,h,e=>by rw[h.nil_inv];exact⟨m,e,rfl⟩
 |m,v::vs,_,K,h,e=>by
  obtain⟨p,q,rfl,d,l⟩:=h.cons_inv;cases v with
  |int n y=>
   unfold JC at e;replace e:=AK e;obtain⟨i,e⟩:=e;simp only[VR]at d;subst d;obtain⟨r,e1,o⟩:=ID g l e;refine⟨r,e1,?_⟩;have c:(n == k)=true:=by rw[beq_iff_eq]at i ⊢;exact i.symm
   unfold Pi.B7;rw[c,<- g];exact o
  |_=>simp[JC]at e
theorem Ko(r:RH X h n)(w:Nw X n id idP){b:Builtin}{D:Array TypeId}{args:List V}{ps:List PV}{K:RA->Option β}(S:VRL X args ps)(e:H2 P h id b D args K=some x) :
  VOk X h n id idP K x (Pi.AH P X.h idP b D ps)\/(∃ v p,K (.pan v)=some x/\Pi.AH P X.h idP b D ps=some (.pan p)/\VR X v p)\/(K .rcv=some x/\Pi.AH P X.h idP b D ps=some .rcv):=by
 unfold H2 at e;split at e
 ·
  split at e
  ·rename_i a t I;obtain⟨p,N,rfl,o,B⟩:=S.cons_inv;rw[B.nil_inv];obtain⟨m,e1,e2⟩:=Qe r I o e idP;exact .inl (.same r e1 e2 (by simp[VR]))
  ·cases e
 ·
  split at e
  ·rename_i a t I;obtain⟨p,N,rfl,o,B⟩:=S.cons_inv;rw[B.nil_inv];split at e
   ·rename_i et j J;split at e
    ·rename_i g c l fz lk C;simp only[VR]at o;cases i:X.π j with
     |none=>rw[i]at o;exact o.elim
     |some tt=>
      rw[i]at o;have O:=r.blk _ _ C;rw[i]at O;rcases O with⟨pid,len,es,fz',L,k2,U,k4,k5,k7,M⟩|⟨_,L,_⟩|⟨_,_,L,_⟩
      ·cases L;simp only at o;subst o;refine .inl (.same r e (p:=.int .i64 (es.length-0:Nat)) ?_ (by simp[VR,Kh,AS,M.length]));unfold Pi.AH;simp only[I,J,U]
      ·cases L
      ·cases L
    ·cases e
   ·rename_i et j off len J;split at e
    ·rename_i g c l fz lk C;simp only[VR]at o;obtain⟨pid,m,i,rfl⟩:=o;obtain⟨es,fz',h3,_,h5,_,h6⟩:=r.rowAt i C;refine .inl (.same r e (p:=.int .i64 (es.length-off:Nat)) ?_ (by simp[VR,Kh,PY,AS,h6.length]));unfold Pi.AH;simp only[I,J,h3]
    ·cases e
   ·rename_i J;simp only[VR]at o;subst o;refine .inl (.same r e (p:=.int .i64 0) ?_ (by simp[VR]));unfold Pi.AH;simp only[I,J]
   ·cases e
  ·cases e
 ·
  split at e
  ·rename_i s a t t' hts;replace e:=AK e;obtain⟨O,e⟩:=e;obtain⟨p,N,rfl,o,B⟩:=S.cons_inv;obtain⟨q,N,rfl,h3,W⟩:=B.cons_inv;rw[W.nil_inv];have:=QL r w o h3 e;refine .inl ?_
   have hp:Pi.AH P X.h idP .append D [p,q]=Pi.Ea P X.h idP t p q:=by
    unfold Pi.AH;simp only[hts,O,cond_true]
   rw[hp];exact this
  ·cases e
 ·
  split at e
  ·rename_i dst a t I;obtain⟨p,N,rfl,o,B⟩:=S.cons_inv;obtain⟨q,N,rfl,h3,W⟩:=B.cons_inv;rw[W.nil_inv];replace e:=AD e;obtain⟨⟨g,c⟩,hel,e⟩:=e;replace e:=BC e;obtain⟨A,e⟩:=e;replace e:=I5 r h3 e;obtain⟨new,Z,e,hx,G⟩:=e;have A:I4 P t c=true:=by simpa using A
   have go:∀ {j pid m off len:Nat} {l:List c.den} {ex:Bool} {es:List PV},h.get j=some (.row g c l ex false false)->X.π j=some (.blk pid m)->X.h.get pid=some (.row es ex false)->es.length=m->(ex=false->0<m)->L2 (EP g (DR X.h X.Q c)) l es->off+len<=es.length ->
     K (.val (.int .i64 (Kh (Qm (AS new) len))) (AG h j (.row g c (LB l off new len) ex false false)))=some x->VOk X h n id idP K x (Pi.AH P X.h idP .copy D [.own pid off len,q]):=by
    intro j pid m off len l ex es C i U k5 k9 M hle e;obtain⟨E,eS⟩:=BM X.h pid (.row (Pi.BT es off (Z.take len)) ex false);have hj:j<1048575:=by have:=r.dom _ _ i;have:=w.big;omega
    obtain⟨Y,y1,y2,y3,y4,y5⟩:=r.set (b':=.row g c (LB l off new len) ex false false) hj C trivial rfl i U (by intros;simp) eS
     (λY y1 y2 y3 u=>by
      rw[i];refine .inl ⟨pid,m,_,false,rfl,by rw[y3];exact(i ▸ r.blk _ _ C).own trivial,by rw[y2,(Hp.get_set eS).1,if_pos rfl],λ_=>rfl,?_,k9,EDR.mono u (NE M G off len)⟩
      rw[LG (by simp;omega)];exact k5) idP
    refine⟨_,_,.int .i64 (Nat.min Z.length len:Nat),E,Y,e,?_,⟨y2,y4,y5 id⟩,by simp[VR,Kh,Qm,AS,G.length]⟩;unfold I4 at A;split at A
    ·rename_i et J;split at A
     ·rename_i ti z hti hz;simp only[ai,bJ]at A;obtain⟨⟨⟨g1,g2⟩,g3⟩,g4⟩:=A;have htz:Pi.AV P et=some ti.size:=by unfold Pi.AV;rw[hti];rfl
      unfold Pi.AH;simp only[I,J,U,hx,htz];rw[Od g1 G,show af (off+len) es.length=true from by simpa using hle,g4,Ax g1 M];simp[eS]
     ·cases A
    ·cases A
   refine .inl ?_;split at e
   ·rename_i j;split at e
    ·rename_i g' c' l C;replace e:=AK e;obtain⟨hgg,e⟩:=e;have:=eq_of_beq hgg;subst this;replace e:=A5 e;obtain⟨hc,e⟩:=e;subst hc;simp only[VR]at o;cases i:X.π j with
     |none=>rw[i]at o;exact o.elim
     |some tt=>
      rw[i]at o;have O:=r.blk _ _ C;rw[i]at O;rcases O with⟨pid,len,es,fz',L,k2,U,k4,k5,k7,M⟩|⟨_,L,_⟩|⟨_,_,L,_⟩
      ·cases L;simp only at o;subst o;have:=k4 rfl;subst this;have hl:AS l=len:=by rw[<- k5,<- M.length];rfl
       rw[hl]at e;exact go C i U k5 k7 M (by omega) e
      ·cases L
      ·cases L
    ·cases e
   ·rename_i j off len;split at e
    ·rename_i g' c' l ex C;replace e:=AK e;obtain⟨hgg,e⟩:=e;have:=eq_of_beq hgg;subst this;replace e:=A5 e;obtain⟨hc,e⟩:=e;subst hc;replace e:=AJ e;obtain⟨hle,e⟩:=e;simp only[VR]at o;obtain⟨pid,m,i,rfl⟩:=o;obtain⟨es,fz',U,k4,k5,k7,M⟩:=r.rowAt i C;have:=k4 rfl;subst this;exact go C i U k5 k7 M (by rw[<- M.length];simpa[CF,BF,AS]using hle) e
    ·cases e
   ·cases e
  ·cases e
 ·
  split at e
  ·rename_i j t I;obtain⟨p,N,rfl,o,B⟩:=S.cons_inv;rw[B.nil_inv];split at e
   ·rename_i kt et kk g c l J C;simp only[VR]at o;obtain⟨pid,m,i,rfl⟩:=o;have O:=r.blk _ _ C;rw[i]at O;obtain⟨_,_,es,k2,U,k4,M⟩:=O;cases k2;obtain⟨E,Y,e1,y1⟩:=r.mapSet w.big C i k4 (l':=[]) (es':=[]) .nil;refine .inl ⟨_,_,.tup [],E,Y,e,?_,y1 id idP,by simp[VR,VRL]⟩;unfold Pi.AH;simp only[I,J,k4,e1];rfl
   ·cases e
  ·cases e
 ·
  split at e
  ·rename_i m v t I;obtain⟨p,N,rfl,o,B⟩:=S.cons_inv;obtain⟨q,N,rfl,h3,W⟩:=B.cons_inv;rw[W.nil_inv];replace e:=J6 r o h3 e;obtain⟨j,kk,g,c,l,lk,f,a,kt,et,d,pid,m',es,e,rfl,C,i,rfl,W,h6,J,hd,hko,hf,hdp⟩:=e;replace e:=BC e;obtain⟨hlk,e⟩:=e;subst hlk;obtain⟨es',p1,p2⟩:=Ga (d:=d) hko hf hdp h6;obtain⟨E,Y,e1,y1⟩:=r.mapSet w.big C i W p2;refine .inl ⟨_,_,.tup [],E,Y,e,?_,y1 id idP,by simp[VR,VRL]⟩;unfold Pi.AH;simp only[I,J,W,hd,EG hko,au,cond_false,p1,e1];rfl
  ·cases e
 ·
  split at e
  ·rename_i k a vs;obtain⟨p,N,rfl,o,B⟩:=S.cons_inv;simp only[VR]at o;subst o;obtain⟨rr,e1,e2⟩:=ID (F:=λm y=>if y>m then y else m) (λa b=>rfl) B e
   refine .inl (.same r e1 (p:=.int k rr) ?_ (by simp[VR]));unfold Pi.AH;simp only[e2];rfl
  ·cases e
 ·
  split at e
  ·rename_i k a vs;obtain⟨p,N,rfl,o,B⟩:=S.cons_inv;simp only[VR]at o;subst o;obtain⟨rr,e1,e2⟩:=ID (F:=λm y=>if y<m then y else m) (λa b=>rfl) B e
   refine .inl (.same r e1 (p:=.int k rr) ?_ (by simp[VR]));unfold Pi.AH;simp only[e2];rfl
  ·cases e
 ·
  split at e
  ·rename_i t v;obtain⟨p,N,rfl,o,B⟩:=S.cons_inv;rw[B.nil_inv];simp only[VR]at o;obtain⟨q,rfl,o⟩:=o;exact .inr (.inl ⟨_,_,e,rfl,by simp only[VR];exact⟨q,rfl,o⟩⟩)
  ·cases e
 ·exact .inr (.inr ⟨e,rfl⟩)
 ·cases e
end
end
section
variable[Pi.Gl]
open Pi (PV T Hp Blk DF UM PE AN AT AB AX Ao)
section
variable{X:Cx}{h:H}{n id idP:Nat}{β:Type}{x:β}{P:Program}
theorem Dj{f:PV->Option (PV×List Nat)}:∀ {a b e g:List PV} {c d:List Nat},AB f a=some (e,c)->AB f b=some (g,d)->AB f (a++b)=some (e++g,c++d)
 |[],b,e,g,c,d,h1,h2=>by cases h1;exact h2
 |p::a,b,e,g,c,d,h1,h2=>by
  simp only[AB]at h1;split at h1
  ·rename_i q l h m e1 e2;cases h1;have:=Dj e2 h2
   show(match f p,AB f (a++b)with
    |some (q,a),some (h,b)=>some (q::h,a++b)
    |_,_=>none)=_
   rw[e1,this];simp
  ·cases h1
theorem BX{f:PV->Option (PV×List Nat)}{p q:PV}{l:List Nat}(h:f p=some (q,l)):AB f [p]=some ([q],l):=by simp[AB,h]
def Met(h:Hp)(Q:Nat->Prop)(l:List Nat):Prop:=∀ i∈l,Q i /\ ∃ es ex fz,h.get i=some (.row es ex fz)
theorem Met.nil{h:Hp}{Q:Nat->Prop}:Met h Q []:=λ_ hi=>by cases hi
theorem Met.append{h:Hp}{Q:Nat->Prop}{a b:List Nat}(c:Met h Q a)(d:Met h Q b):Met h Q (a++b):=λi hi=>(ao.1 hi).elim (c i) (d i)
theorem Met.mono{h:Hp}{Q b:Nat->Prop}{a:List Nat}(f:∀ i,Q i->b i)(c:Met h Q a):Met h b a:=λi hi=>⟨f _ (c i hi).1,(c i hi).2⟩
theorem La{hh:Hp}{Q:Nat->Prop}{g:Bool}{c:Ty}{d:Nat}(n:∀ {y:c.den} {o:List PV},DR hh Q c y o -> ∀ i,2*c.depth+1<=i -> ∃ f a,AB (AX hh i) o=some (f,a)/\DP c y f/\Met hh Q a)(r:2*c.depth+2<=d)
  {y:c.den} {e:PV} (h:EP g (DR hh Q c) y e):∃ q a,AX hh d e=some (q,a)/\EP g (DP c) y q/\Met hh Q a:=by
 cases g with
 |true=>
  obtain⟨cs,rfl,h⟩:=h;obtain⟨d,rfl⟩:∃ i,d=i+1:=⟨d-1,by omega⟩;obtain⟨f,a,b,j,k⟩:=n h d (by omega);exact⟨.agg f,a,by simp only[AX,b];rfl,⟨f,rfl,j⟩,k⟩
 |false=>
  obtain⟨f,a,b,j,k⟩:=n (show DR hh Q c y [e]from h) d (by omega);simp only[AB]at b;split at b
  ·rename_i q l p m e1 e2;cases e2;cases b;exact⟨q,l,e1,j,by simpa using k⟩
  ·cases b
theorem JO{α:Type}{hh:Hp}{Q:Nat->Prop}{R S:α->PV->Prop}{d:Nat}(f:∀ y e,R y e -> ∃ q c,AX hh d e=some (q,c)/\S y q/\Met hh Q c) :
  ∀ {l:List α} {es:List PV},L2 R l es -> ∃ g c,AB (AX hh d) es=some (g,c)/\L2 S l g/\Met hh Q c
 |_,_,.nil=>⟨[],[],rfl,.nil,.nil⟩
 |_,_,.cons h t=>by
  obtain⟨q,a,i,j,k⟩:=f _ _ h;obtain⟨g,b,m,n,o⟩:=JO f t;exact⟨q::g,a++b,by simp[AB,i,m],.cons j n,k.append o⟩
theorem Ev:∀ {hh:Hp} {Q:Nat->Prop} {c:Ty} {y:c.den} {m:List PV},DR hh Q c y m -> ∀ d,2*c.depth+1<=d -> ∃ o l,AB (AX hh d) m=some (o,l)/\DP c y o/\Met hh Q l
 |hh,Q,.int k,y,m,e,d,hd=>by
  obtain⟨d,rfl⟩:∃ j,d=j+1:=⟨d-1,by omega⟩;subst e;exact⟨[_],[],BX rfl,rfl,.nil⟩
 |hh,Q,.bool,y,m,e,d,hd=>by
  obtain⟨d,rfl⟩:∃ j,d=j+1:=⟨d-1,by omega⟩;subst e;exact⟨[_],[],BX rfl,rfl,.nil⟩
 |hh,Q,.str,y,m,e,d,hd=>by
  obtain⟨d,rfl⟩:∃ j,d=j+1:=⟨d-1,by omega⟩;subst e;exact⟨[_],[],BX rfl,rfl,.nil⟩
 |hh,Q,.unit,y,m,e,d,hd=>by subst e;exact⟨[],[],rfl,rfl,.nil⟩
 |hh,Q,.pair a b,y,m,⟨p,q,e,C,n⟩,d,hd=>by
  subst e;have t:(Ty.pair a b).depth=cq a.depth b.depth:=rfl;rw[t]at hd;have G:=dk a.depth b.depth;have I:=di a.depth b.depth;obtain⟨A,J,u,w,x⟩:=Ev C d (by have:a.depth<=cq a.depth b.depth:=G;omega);obtain⟨B,K,L,M,N⟩:=Ev n d (by have:b.depth<=cq a.depth b.depth:=I;omega);exact⟨A++B,J++K,Dj u L,⟨A,B,rfl,w,M⟩,x.append N⟩
 |hh,Q,.sl g c,y,m,⟨p,e,h⟩,d,hd=>by
  subst e;have t:(Ty.sl g c).depth=c.depth+1:=rfl;rw[t]at hd;obtain⟨d,rfl⟩:∃ j,d=j+1:=⟨d-1,by omega⟩;rcases h with⟨rfl,rfl⟩|⟨f,es,rfl,n⟩|⟨pid,off,len,es,ex,fz,rfl,n,z,D,O,E⟩
  ·exact⟨[.nils],[],BX rfl,⟨_,rfl,.inl ⟨rfl,rfl⟩⟩,.nil⟩
  ·exact⟨[.lst f es],[],BX rfl,⟨_,rfl,.inr ⟨f,es,rfl,n⟩⟩,.nil⟩
  ·obtain⟨o,l,u,w,x⟩:=JO (λy e F=>La (d:=d) (λs j r=>Ev s j r) (by omega) F) E;refine⟨[.lst false o],pid::l,BX ?_,⟨_,rfl,.inr ⟨false,o,rfl,w⟩⟩,λi hi=> ?_⟩
   ·simp only[AX,z];rw[show af (off+len) es.length=true from by simpa using D];simp only[cond_true,u];rfl
   ·rcases ae.1 hi with rfl|hi
    ·exact⟨n,es,ex,fz,z⟩
    ·exact x i hi
theorem NQ:∀ {hh:Hp} {Q l:Nat->Prop} {c:Ty} {y:c.den} {m:List PV},DX hh Q l c y m->(∀ i,l i->Q i) -> ∀ d,2*c.depth+1<=d -> ∃ o j,AB (AX hh d) m=some (o,j)/\DP c y o/\Met hh Q j
 |hh,Q,l,.int k,y,m,e,f,d,hd=>Ev (c:=.int k) e d hd
 |hh,Q,l,.bool,y,m,e,f,d,hd=>Ev (c:=.bool) e d hd
 |hh,Q,l,.str,y,m,e,f,d,hd=>Ev (c:=.str) e d hd
 |hh,Q,l,.unit,y,m,e,f,d,hd=>Ev (c:=.unit) e d hd
 |hh,Q,l,.pair a b,y,m,⟨p,q,e,D,n⟩,f,d,hd=>by
  subst e;have u:(Ty.pair a b).depth=cq a.depth b.depth:=rfl;rw[u]at hd;have I:=dk a.depth b.depth;have J:=di a.depth b.depth;obtain⟨B,K,w,x,z⟩:=NQ D f d (by have:a.depth<=cq a.depth b.depth:=I;omega);obtain⟨C,L,M,N,O⟩:=NQ n f d (by have:b.depth<=cq a.depth b.depth:=J;omega);exact⟨B++C,K++L,Dj w M,⟨B,C,rfl,x,N⟩,z.append O⟩
 |hh,Q,l,.sl g c,y,m,⟨p,e,h⟩,f,d,hd=>by
  subst e;have u:(Ty.sl g c).depth=c.depth+1:=rfl;rw[u]at hd;obtain⟨d,rfl⟩:∃ r,d=r+1:=⟨d-1,by omega⟩;rcases h with⟨rfl,rfl⟩|⟨f,es,rfl,n⟩|⟨pid,off,len,es,ex,fz,rfl,n,A,E,P,F⟩
  ·exact⟨[.nils],[],BX rfl,⟨_,rfl,.inl ⟨rfl,rfl⟩⟩,.nil⟩
  ·exact⟨[.lst f es],[],BX rfl,⟨_,rfl,.inr ⟨f,es,rfl,n⟩⟩,.nil⟩
  ·obtain⟨o,j,w,x,z⟩:=JO (λy e G=>La (d:=d) (λt r s=>Ev t r s) (by omega) G) F;refine⟨[.lst false o],pid::j,BX ?_,⟨_,rfl,.inr ⟨false,o,rfl,x⟩⟩,λi hi=> ?_⟩
   ·simp only[AX,A];rw[show af (off+len) es.length=true from by simpa using E];simp only[cond_true,w];rfl
   ·rcases ae.1 hi with rfl|hi
    ·exact⟨n,es,ex,fz,A⟩
    ·exact(z.mono f) i hi
theorem Pn{hh:Hp}{Q j:Nat->Prop}{g:Bool}{c:Ty}{y:c.den}{e:PV}(f:∀ i,j i->Q i)(h:EP g (DX hh Q j c) y e){d:Nat}(s:2*c.depth+2<=d) :
  ∃ q a,AX hh d e=some (q,a)/\EP g (DP c) y q/\Met hh Q a:=by
 cases g with
 |true=>
  obtain⟨cs,rfl,h⟩:=h;obtain⟨d,rfl⟩:∃ p,d=p+1:=⟨d-1,by omega⟩;obtain⟨o,a,b,k,n⟩:=NQ h f d (by omega);exact⟨.agg o,a,by simp only[AX,b];rfl,⟨o,rfl,k⟩,n⟩
 |false=>
  obtain⟨o,a,b,k,n⟩:=NQ (show DX hh Q j c y [e]from h) f d (by omega);simp only[AB]at b;split at b
  ·rename_i q l r m e1 e2;cases e2;cases b;exact⟨q,l,e1,k,by simpa using n⟩
  ·cases b
theorem Bg:∀ {l:List Nat} {hh:Hp} {Q:Nat->Prop},Met hh Q l -> ∃ h',Pi.freeze hh l=some h'/\h'.nx=hh.nx /\ ∀ q,h'.get q=if q∈l then(match hh.get q with
  |some (.row es ex _)=>some (.row es ex true)
  |b=>b)else hh.get q
 |[],hh,Q,m=>⟨hh,rfl,rfl,λq=>by simp⟩
 |i::l,hh,Q,m=>by
  obtain⟨_,es,ex,fz,hi⟩:=m i (by simp);obtain⟨k,e1⟩:=BM hh i (.row es ex true);have g:=(Hp.get_set e1).1
  have p:Met k Q l:=λj n=>by
   obtain⟨o,es',d,e,f⟩:=m j (by simp[n]);refine⟨o,?_⟩;rw[g];by_cases a:j=i
   ·subst a;rw[if_pos rfl];exact⟨es,ex,true,rfl⟩
   ·rw[if_neg a];exact⟨es',d,e,f⟩
  obtain⟨h',e2,e3,h⟩:=Bg p;refine⟨h',by simp only[Pi.freeze,hi,e1];exact e2,by rw[e3];exact(Hp.get_set e1).2,λq=> ?_⟩;rw[h,g];by_cases c:q=i
  ·subst c;simp only[if_true,ae,true_or,hi];split<;>rfl
  ·simp only[c,if_false,ae,false_or]
theorem Eo:∀ {l:List Nat} {h h':H},(∀ i∈l,i<1048575)->B8 h l=some h'->(∀ i∈l,∃ g c y ex fz t,h.get i=some (.row g c y ex fz t))/\(∀ i b',h'.get i=some b'->h.get i=some b' \/ ∃ g c y ex fz t,i∈l/\h.get i=some (.row g c y ex fz t)/\b'=.row g c y ex true false) /\
  (∀ i∈l,∀ g c y ex fz t,h'.get i=some (.row g c y ex fz t)->fz=true) /\ ∀ i b,h.get i=some b->b.locked=true->h'.get i=some b
 |[],h,h',s,e=>by cases e;exact⟨λi hi=>by simp at hi,λi b' s=>.inl s,λi hi=>by simp at hi,λi b hi _=>hi⟩
 |j::l,h,h',s,e=>by
  unfold B8 at e;split at e
  ·rename_i g c y ex fz t r;replace e:=BU e;rcases e with⟨J,e⟩|⟨J,e⟩
   ·subst J;obtain⟨E,z,F,G⟩:=Eo (λi hi=>s i (by simp[hi])) e;refine⟨λi hi=> ?_,λi b' q=> ?_,λi hi M L N B C I m=> ?_,G⟩
    ·rcases ae.1 hi with rfl|hi
     ·exact⟨_,_,_,_,_,_,r⟩
     ·exact E i hi
    ·rcases z i b' q with a|⟨w,u,A,f,k,n,a,o,p⟩
     ·exact .inl a
     ·exact .inr ⟨w,u,A,f,k,n,by simp[a],o,p⟩
    ·rcases ae.1 hi with rfl|hi
     ·rcases z _ _ m with a|⟨w,u,A,f,k,n,a,o,p⟩
      ·rw[r]at a;cases a;rfl
      ·cases p;rfl
     ·exact F i hi _ _ _ _ _ _ m
   ·replace e:=BC e;obtain⟨D,e⟩:=e;subst D;have x:=s j (by simp);obtain⟨E,z,F,G⟩:=Eo (λi hi=>s i (by simp[hi])) e;refine⟨λi hi=> ?_,λi b' q=> ?_,λi hi M L N B C I m=> ?_,λi b hi K=> ?_⟩
    ·rcases ae.1 hi with rfl|hi
     ·exact⟨_,_,_,_,_,_,r⟩
     ·by_cases d:i=j
      ·subst d;exact⟨_,_,_,_,_,_,r⟩
      ·have:=E i hi;rw[AI x,if_neg d]at this;exact this
    ·rcases z i b' q with a|⟨w,u,A,f,k,n,a,o,p⟩
     ·rw[AI x]at a;by_cases d:i=j
      ·subst d;rw[if_pos rfl]at a;cases a;exact .inr ⟨g,c,y,ex,fz,false,by simp,r,rfl⟩
      ·rw[if_neg d]at a;exact .inl a
     ·rw[AI x]at o;by_cases d:i=j
      ·subst d;rw[if_pos rfl]at o;cases o;exact .inr ⟨g,c,y,ex,fz,false,by simp,r,p⟩
      ·rw[if_neg d]at o;exact .inr ⟨w,u,A,f,k,n,by simp[a],o,p⟩
    ·rcases ae.1 hi with rfl|hi
     ·rcases z _ _ m with a|⟨w,u,A,f,k,n,a,o,p⟩
      ·rw[AI x,if_pos rfl]at a;cases a;rfl
      ·cases p;rfl
     ·exact F i hi _ _ _ _ _ _ m
    ·refine G i b ?_ K;rw[AI x,if_neg]
     ·exact hi
     ·intro hh;subst hh;rw[r]at hi;cases hi;cases K
  ·cases e
theorem RH.frozen(r:RH X h n)(hn:n<=1048575){l lP:List Nat}{h':H}{j:Hp}(hl:∀ i∈l,∃ a,X.π i=some a)(e:B8 h l=some h')(E:j.nx=X.h.nx)(U:∀ q,j.get q=if q∈lP then(match X.h.get q with
  |some (.row es ex _)=>some (.row es ex true)
  |b=>b)else X.h.get q) (hm:∀ q∈lP,X.O q -> ∃ i∈l,∃ m,X.π i=some (.blk q m)) (id idP:Nat) :
  ∃ Y:Cx,Y.π=X.π/\Y.O=X.O/\FQ X h n id idP h' j Y:=by
 have hb:∀ i∈l,i<1048575:=λi hi=>by obtain⟨a,ha⟩:=hl i hi;have:=r.dom _ _ ha;omega
 obtain⟨k1,k2,k3,k4⟩:=Eo hb e
 let Y:Cx:={ π:=X.π,h:=j,O:=X.O }
 have p:∀ q es ex fz,X.h.get q=some (.row es ex fz) -> ∃ s,j.get q=some (.row es ex s)/\(q ∉ lP->s=fz):=λq es ex fz x=>by
  rw[U];by_cases hi:q∈lP
  ·rw[if_pos hi,x];exact⟨true,rfl,λh=>absurd hi h⟩
  ·rw[if_neg hi];exact⟨fz,x,λ_=>rfl⟩
 have f:∀ q,(∀ es ex fz,X.h.get q≠some (.row es ex fz))->j.get q=X.h.get q:=λq x=>by
  rw[U];split
  ·split
   ·rename_i es ex fz he;exact absurd he (x _ _ _)
   ·rfl
  ·rfl
 have u:Up X Y:=⟨λ_ _ h=>h,λq es ex fz x hg=>⟨by obtain⟨s,B,_⟩:=p _ _ _ _ hg;exact⟨s,B⟩,x⟩⟩
 have live:∀ {i:Nat} {b':BA},h'.get i=some b'->b'.live -> ∃ b,h.get i=some b/\b.live:=λhi hv=>by
  rcases k2 _ _ hi with B|⟨g1,c1,y1,W,Z,lk1,B,I,h3⟩
  ·exact⟨_,B,hv⟩
  ·exact⟨_,I,trivial⟩
 refine⟨Y,rfl,rfl,rfl,⟨λi b' hi=> ?_,λi i' b b' q m1 m2 hi C l1 l2 a1 a2=> ?_,r.dom,λq x=> ?_,λq x=>by
  show j.get q≠none;rw[U];have:=r.ob _ x;split
  ·split<;>simp_all
  ·exact this⟩,⟨u,E,λ_ _ h=>h,λq x L=> ?_,k4,λq st pe nt t ps P G d x=> ?_⟩⟩
 ·
  rcases k2 _ _ hi with B|⟨g1,c1,y1,W,Z,lk1,B,I,h3⟩
  ·have hB:=r.blk _ _ B;cases b' with
   |row g c y ex fz lk=>
    rcases hB with⟨pid,len,es,s,z,w,o,A,F,p7,N⟩|hB|hB
    ·obtain⟨D,q1,q2⟩:=p _ _ _ _ o;refine .inl ⟨pid,len,es,D,z,w,q1,λJ=> ?_,F,p7,EDR.mono u N⟩;by_cases K:pid∈lP
     ·obtain⟨i',C,m,M⟩:=hm _ K w;obtain⟨g2,c2,y2,ex2,fz3,lk2,h4⟩:=k1 _ C;have:=r.inj _ _ _ _ _ _ _ B h4 trivial trivial z M;subst this;have:=k3 _ C _ _ _ _ _ _ hi;rw[this]at J;cases J
     ·rw[q2 K];exact A J
    ·exact .inr (.inl hB)
    ·exact .inr (.inr hB)
   |box cs fz lk=>
    obtain⟨pid,m,ps,s,z,w,o,A,F⟩:=hB;exact⟨pid,m,ps,s,z,w,by show j.get pid=_;rw[f _ (by rw[o];intros;simp),o],A,F.mono u⟩
   |mp k g c y lk=>
    obtain⟨pid,m,es,z,w,o,A⟩:=hB;exact⟨pid,m,es,z,w,by show j.get pid=_;rw[f _ (by rw[o];intros;simp),o],A.mono λ_ _ m=>⟨m.1,m.2.mono λ_ _ k=>DR.mono u.rows k⟩⟩
   |lp st pend nt t ps P G d=>
    obtain⟨pid,m,tP,dP,m2,z,w,o,A,F,N⟩:=hB;exact⟨pid,m,tP,dP,m2,z,w,by show j.get pid=_;rw[f _ (by rw[o];intros;simp),o],A.mono u,F,N⟩
   |df ds=>
    obtain⟨pid,m,S,z,w,o,A⟩:=hB;refine⟨pid,m,S,z,w,by show j.get pid=_;rw[f _ (by rw[o];intros;simp),o],?_⟩;split at A
    ·trivial
    ·exact A.mono λ_ _ m=>m.mono u
    ·exact A.elim
   |dead=>
    intro pid m e;obtain⟨w,o⟩:=hB pid m e;exact⟨w,by show j.get pid=_;rw[f _ (by rw[o];intros;simp),o]⟩
  ·subst h3;rcases r.blk _ _ I with⟨pid,len,es,s,z,w,o,A,F,p7,N⟩|hB|⟨es,z,w,o,A⟩
   ·obtain⟨D,q1,q2⟩:=p _ _ _ _ o;exact .inl ⟨pid,len,es,D,z,w,q1,λJ=>(by cases J),F,p7,EDR.mono u N⟩
   ·exact .inr (.inl hB)
   ·exact .inr (.inr ⟨es,z,w,.inl rfl,A⟩)
 ·obtain⟨b1,B,v1⟩:=live hi l1;obtain⟨b2,I,v2⟩:=live C l2;exact r.inj _ _ _ _ _ _ _ B I v1 v2 a1 a2
 ·show j.get q=none;rw[f]
  ·exact r.fresh _ (by rw[<- E];exact x)
  ·rw[r.fresh _ (by rw[<- E];exact x)];intros;simp
 ·show j.get q=none;rw[f _ (by rw[L];intros;simp),L]
 ·show j.get q=_;rw[f _ (by rw[x];intros;simp),x]
end
end
section
variable[Pi.Gl]
open Pi (PV T Hp Blk DF UM PE AN AT AB AX Ao)
section
variable{X:Cx}{h:H}{n id idP:Nat}{β:Type}{x:β}{P:Program}
def MetA(X:Cx)(l lP:List Nat):Prop:=∀ i∈lP,(X.Q i \/ ∃ id∈l,∃ m,X.π id=some (.blk i m)) /\ ∃ es ex fz,X.h.get i=some (.row es ex fz)
theorem MetA.append{l m lP f:List Nat}(a:MetA X l lP)(b:MetA X m f):MetA X (l++m) (lP++f):=λi hi=>by
 rcases ao.1 hi with hi|hi
 ·obtain⟨c,d⟩:=a i hi;exact⟨c.imp id λ⟨j,e,k⟩=>⟨j,ak _ e,k⟩,d⟩
 ·obtain⟨c,d⟩:=b i hi;exact⟨c.imp id λ⟨j,e,k⟩=>⟨j,aj _ e,k⟩,d⟩
theorem MetA.nil{l:List Nat}:MetA X l []:=λ_ hi=>by cases hi
def Kn(X:Cx)(l:List Nat):Prop:=∀ i∈l,∃ a,X.π i=some a
theorem Kn.append{l m:List Nat}(a:Kn X l)(b:Kn X m):Kn X (l++m):=λi hi=>(ao.1 hi).elim (a i) (b i)
theorem Kn.nil:Kn X []:=λ_ hi=>by cases hi
theorem Met.toA{l:List Nat}(m:Met X.h X.Q l):MetA X [] l:=λi hi=>⟨.inl (m i hi).1,(m i hi).2⟩
theorem Hq{pid off len:Nat}{es:List PV}{ex fz:Bool}{g:Bool}{c:Ty}{l:List c.den}{d:Nat}(k:X.h.get pid=some (.row es ex fz))(m:off+len<=es.length)(n:L2 (EP g (DR X.h X.Q c)) l ((es.drop off).take len))(s:2*c.depth+3<=d) :
  ∃ b a,AX X.h d (.own pid off len)=some (.lst false b,pid::a)/\L2 (EP g (DP c)) l b/\Met X.h X.Q a:=by
 obtain⟨d,rfl⟩:∃ f,d=f+1:=⟨d-1,by omega⟩;obtain⟨b,a,p,q,r⟩:=JO (λy e o=>La (d:=d) (λj f i=>Ev j f i) (by omega) o) n;refine⟨b,a,?_,q,r⟩;simp only[AX,k];rw[show af (off+len) es.length=true from by simpa using m];simp only[cond_true,p];rfl
theorem EQ(hh:Hp)(d:Nat)(cs:List PV):AX hh (d+1) (.agg cs)=(AB (AX hh d) cs).map λ(x,l)=>(.agg x,l):=rfl
theorem KV(hh:Hp)(d:Nat)(cs:List PV):AX hh (d+1) (.tup cs)=(AB (AX hh d) cs).map λ(x,l)=>(.tup x,l):=rfl
theorem KS(hh:Hp)(d:Nat)(t:TypeId)(v:PV):AX hh (d+1) (.ifc t v)=(AX hh d v).map λ(x,l)=>(.ifc t x,l):=rfl
theorem Mb (hh:Hp) (d:Nat) (f:Fn) (a b:List PV):AX hh (d+1) (.fn f a b)=(match AB (AX hh d) a,AB (AX hh d) b with
   |some (a,l),some (b,m)=>some (.fn f a b,l++m)
   |_,_=>none):=rfl
mutual
theorem KR(r:RH X h n):∀ (d:Nat) {v:V} {p:PV} {K:V->List Nat->Option β},VR X v p->purA h d v K=some x ->
  ∃ v' l q lP,K v' l=some x/\AX X.h (d+6) p=some (q,lP)/\VR Cx.pure v' q/\MetA X l lP/\Kn X l
 |0,_,_,_,_,e=>by simp[purA]at e
 |d+1,v,p,K,hv,e=>by
  have b:d+1+6=(d+6)+1:=by omega
  unfold purA at e;split at e
  ·obtain⟨O,rfl,t⟩:=hv.agg_inv;obtain⟨vs,l,o,lP,e1,w,k,u,y⟩:=Eu r d t e;refine⟨_,l,.agg o,lP,e1,?_,by simp only[VR];exact⟨o,rfl,k⟩,u,y⟩;rw[b,EQ,w];rfl
  ·simp only[VR]at hv;obtain⟨O,rfl,t⟩:=hv;obtain⟨vs,l,o,lP,e1,w,k,u,y⟩:=Eu r d t e;refine⟨_,l,.tup o,lP,e1,?_,by simp only[VR];exact⟨o,rfl,k⟩,u,y⟩;rw[b,KV,w];rfl
  ·simp only[VR]at hv;obtain⟨q,rfl,t⟩:=hv;obtain⟨v',l,q',lP,e1,w,k,u,y⟩:=KR r d t e;refine⟨_,l,.ifc _ q',lP,e1,?_,by simp only[VR];exact⟨q',rfl,k⟩,u,y⟩;rw[b,KS,w];rfl
  ·simp only[VR]at hv;obtain⟨a',b',rfl,ha,hb⟩:=hv;obtain⟨vs,l,o,lP,e1,w,k,u,y⟩:=Eu r d ha e;obtain⟨ws,m,rs,mP,e2,C,D,E,k4⟩:=Eu r d hb e1;refine⟨_,l++m,.fn _ o rs,lP++mP,e2,?_,by simp only[VR];exact⟨o,rs,rfl,k,D⟩,u.append E,y.append k4⟩;rw[b,Mb,w,C]
  ·rename_i f g c l;replace e:=AK e;obtain⟨F,e⟩:=e;have s:2*c.depth+3<=d+7:=aq F;simp only[VR]at hv;rcases hv with⟨rfl,rfl⟩|⟨z,es,rfl,hf,k⟩|⟨pid,off,len,es,ex,fz,rfl,hf,k,u,y,h8,h5⟩
   ·exact⟨_,[],.nils,[],e,by rw[b];rfl,by simp[VR],.nil,.nil⟩
   ·exact⟨_,[],.lst z es,[],e,by rw[b];rfl,by simp only[VR];exact .inr (.inl ⟨z,es,rfl,by simp,k⟩),.nil,.nil⟩
   ·obtain⟨o,G,C,D,E⟩:=Hq (d:=d+7) u y h5 s;refine⟨_,[],_,_,e,C,by simp only[VR];exact .inr (.inl ⟨false,o,rfl,by simp,D⟩),λi hi=> ?_,.nil⟩;rcases ae.1 hi with rfl|hi
    ·exact⟨.inl k,es,ex,fz,u⟩
    ·exact E.toA i hi
  ·simp only[VR]at hv;rcases hv with⟨rfl,rfl⟩|⟨z,es,rfl,k⟩
   ·exact⟨_,[],.nils,[],e,by rw[b];rfl,by simp[VR],.nil,.nil⟩
   ·exact⟨_,[],.lst z es,[],e,by rw[b];rfl,by simp only[VR];exact .inr ⟨z,es,rfl,k⟩,.nil,.nil⟩
  ·rename_i id;split at e
   ·rename_i g c l ex fz lk P;replace e:=AK e;obtain⟨F,e⟩:=e;have s:2*c.depth+3<=d+7:=aq F;simp only[VR]at hv;have hB:=r.blk _ _ P;cases j:X.π id with
    |none=>rw[j]at hv;exact hv.elim
    |some a=>
     rw[j]at hv hB;have B:Kn X [id]:=λi hi=>by rw[ax.1 hi];exact⟨a,j⟩
     rcases hB with⟨pid,len,es,A,J,M,L,p4,p5,p7,N⟩|⟨J,_,M⟩|⟨es,J,_,_,M⟩
     ·cases J;simp only at hv;subst hv;obtain⟨o,G,C,D,E⟩:=Hq (d:=d+7) (off:=0) (len:=len) L (by omega) (by rw[bS,bR (by omega)];exact N) s;refine⟨_,[id],_,_,e,C,by simp only[VR];exact .inr (.inl ⟨false,o,rfl,by simp,D⟩),λi hi=> ?_,B⟩;rcases ae.1 hi with rfl|hi
      ·exact⟨.inr ⟨id,by simp,len,j⟩,es,ex,A,L⟩
      ·obtain⟨q1,q2⟩:=E i hi;exact⟨.inl q1,q2⟩
     ·cases J;subst M;simp only at hv;subst hv;exact⟨_,[id],.nils,[],e,by rw[b];rfl,by simp[VR],.nil,B⟩
     ·cases J;simp only at hv;subst hv;exact⟨_,[id],.lst true es,[],e,by rw[b];rfl,by simp only[VR];exact .inr (.inl ⟨true,es,rfl,by simp,M⟩),.nil,B⟩
   ·cases e
  ·rename_i id off len;split at e
   ·rename_i g c l ex fz lk P;replace e:=AK e;obtain⟨F,e⟩:=e;have s:2*c.depth+3<=d+7:=aq F;replace e:=AJ e;obtain⟨S,e⟩:=e;simp only[VR]at hv;obtain⟨pid,m,j,rfl⟩:=hv;obtain⟨es,A,L,_,p5,_,N⟩:=r.rowAt j P;obtain⟨o,G,C,D,E⟩:=Hq (d:=d+7) (off:=off) (len:=len) L (by rw[<- N.length];simpa[CF,BF,AS]using S) (J8 N off len) s;refine⟨_,[id],_,_,e,C,by simp only[VR];exact .inr (.inl ⟨false,o,rfl,by simp,D⟩),λi hi=> ?_,λi hi=>by rw[ax.1 hi];exact⟨_,j⟩⟩;rcases ae.1 hi with rfl|hi
    ·exact⟨.inr ⟨id,by simp,m,j⟩,es,ex,A,L⟩
    ·obtain⟨q1,q2⟩:=E i hi;exact⟨.inl q1,q2⟩
   ·cases e
  ·cases e
  ·cases e
  ·cases e
  ·cases e
  ·cases e
  ·cases e
  ·cases e
  ·cases e
  ·rename_i n1 n2 n3 n4 n5 n5b n6 n7 n8 n9 n9b U I W Y Z;cases v with
   |agg|tup|ifc|fn|lf|pl|ow|own|ptr|view|pv|ept|aptr|yl|mp|gk=>
    exfalso
    first|exact Z _ rfl|exact I _ _ _ _ rfl|exact n1 _ rfl|exact n2 _ rfl|exact n3 _ _ rfl|exact n4 _ _ _ rfl|exact n5 _ _ _ _ rfl|exact n5b _ _ _ rfl|exact n6 _ rfl|exact n7 _ _ _ rfl|exact n8 _ _ rfl|exact n9 _ rfl|exact n9b _ rfl|exact U _ _ _ rfl|exact W _ rfl|exact Y _ rfl
   |exl f es=>
    simp only[VR]at hv;obtain⟨z,O,rfl,w,k⟩:=hv;exact⟨_,[],.lst z O,[],e,by rw[b];rfl,by simp only[VR];exact⟨z,O,rfl,w,k⟩,.nil,.nil⟩
   |_=>
    simp only[VR]at hv;subst hv;exact⟨_,[],_,[],e,by rw[b];rfl,by simp only[VR],.nil,.nil⟩
theorem Eu(r:RH X h n):∀ (d:Nat) {vs:List V} {f:List PV} {K:List V->List Nat->Option β},VRL X vs f->purA.purAs (purA h d) vs K=some x ->
  ∃ a l b lP,K a l=some x/\AB (AX X.h (d+6)) f=some (b,lP)/\VRL Cx.pure a b/\MetA X l lP/\Kn X l
 |d,[],_,K,hv,e=>by rw[hv.nil_inv];exact⟨[],[],[],[],e,rfl,.nil,.nil,.nil⟩
 |d,v::vs,_,K,hv,e=>by
  obtain⟨p,b,rfl,g,i⟩:=hv.cons_inv;unfold purA.purAs at e;obtain⟨A,l,q,lP,e1,j,k,o,s⟩:=KR r d g e;obtain⟨a,m,c,z,e2,t,u,w,y⟩:=Eu r d i e1;exact⟨A::a,l++m,q::c,lP++z,e2,by simp[AB,j,t],.cons k u,o.append w,s.append y⟩
end
theorem Lc(r:RH X h n):∀ {vs:List V} {d:List PV} {K:List V->List Nat->Option β},VRL X vs d->NT h vs K=some x ->
  ∃ a l b lP,K a l=some x/\Ao X.h d=some (b,lP)/\VRL Cx.pure a b/\MetA X l lP/\Kn X l
 |[],_,K,hv,e=>by rw[hv.nil_inv];exact⟨[],[],[],[],e,rfl,.nil,.nil,.nil⟩
 |v::vs,_,K,hv,e=>by
  obtain⟨p,b,rfl,f,g⟩:=hv.cons_inv;unfold NT at e;obtain⟨z,l,q,lP,e1,i,j,k,o⟩:=KR r 6 f e;obtain⟨a,m,c,y,e2,s,t,u,w⟩:=Lc r g e1;refine⟨z::a,l++m,q::c,lP++y,e2,?_,.cons j t,k.append u,o.append w⟩;simp only[Ao,show Pi.AU=6+6 from rfl,i,s]
theorem RH.mark(r:RH X h n)(k:n<=1048575){l lP:List Nat}{h':H}(b:MetA X l lP)(j:Kn X l)(e:B8 h l=some h')(id idP:Nat) :
  ∃ a Y,Pi.freeze X.h lP=some a/\Y.π=X.π/\Y.O=X.O/\FQ X h n id idP h' a Y:=by
 obtain⟨a,c,d,f⟩:=Bg (Q:=λi=>X.Q i \/ ∃ id∈l,∃ m,X.π id=some (.blk i m)) b
 obtain⟨Y,p,s,t⟩:=r.frozen k j e d f (λq o g=>by
  rcases(b q o).1 with h1|h1
  ·exact absurd g h1
  ·exact h1) id idP
 exact⟨a,Y,c,p,s,t⟩
def So(X:Cx):List (Nat×Nat×List V)->List (Nat×Nat×List PV)->Prop:=L2 λa b=>a.1=b.1/\a.2.1=b.2.1/\VRL X a.2.2 b.2.2
theorem Gz:∀ {pl:List (Nat×Nat×List V)} {c:List (Nat×Nat×List PV)} {cs b:List V} {d:List PV},So X pl c->VRL X cs d->IC cs pl=some b -> ∃ a,Pi.FW d c=some a/\VRL X b a
 |[],_,cs,b,d,h,hc,e=>by rw[L2.nil_inv h];cases e;exact⟨d,rfl,hc⟩
 |(off,m,vs)::pl,_,cs,b,d,h,hc,e=>by
  obtain⟨⟨j,q,p⟩,t,rfl,⟨g,i,f⟩,k⟩:=L2.cons_inv h;simp only at g i f;subst g;subst i;unfold IC at e;replace e:=AK e;obtain⟨l,e⟩:=e;obtain⟨a,n,o⟩:=Gz k (hc.fput f off) e;refine⟨a,?_,o⟩;unfold Pi.FW;rw[<- f.length,<- hc.length,l];exact n
theorem Gg{g:Array Field}:∀ {m:List (Nat×V)} {c:List (Nat×PV)} {a:List (Nat×Nat×List V)},Rt X m c->FL P g m=some a -> ∃ b,Pi.D5 P g c=some b/\So X a b
 |[],_,a,h,e=>by rw[L2.nil_inv h];cases e;exact⟨[],rfl,.nil⟩
 |(i,v)::l,_,a,h,e=>by
  obtain⟨⟨z,p⟩,t,rfl,⟨j,k⟩,n⟩:=L2.cons_inv h;simp only at j k;subst j;unfold FL at e;split at e
  ·rename_i f r q s;obtain⟨x,u,w⟩:=Gg n s;split at e
   ·rename_i y d;replace e:=AK e;obtain⟨o,e⟩:=e;cases e;refine⟨(f.offset,y,p.cells)::x,?_,.cons ⟨rfl,rfl,k.cells⟩ w⟩;simp only[Pi.D5,q,u,d,o,cond_true]
   ·cases e
  ·cases e
theorem Fe{a:Nat}:∀ {e:List (Nat×V)} {b:List (Nat×PV)},Rt X e b->So X (F6 a e) (Pi.FK a b)
 |[],_,h=>by rw[L2.nil_inv h];exact .nil
 |(i,v)::l,_,h=>by
  obtain⟨⟨g,p⟩,t,rfl,⟨c,d⟩,f⟩:=L2.cons_inv h;simp only at c d;subst c;exact .cons ⟨rfl,rfl,d.cells⟩ (Fe f)
theorem I8{d:Nat}:∀ {k:List (Nat×V)} {f:List (Nat×PV)} {es c:List V} {b:List PV},Rt X k f->VRL X es b->Jt d es k=some c -> ∃ a,Pi.FV d b f=some a/\VRL X c a
 |[],_,es,c,b,h,hc,e=>by rw[L2.nil_inv h];cases e;exact⟨b,rfl,hc⟩
 |(i,v)::l,_,es,c,b,h,hc,e=>by
  obtain⟨⟨r,p⟩,t,rfl,⟨j,g⟩,m⟩:=L2.cons_inv h;simp only at j g;subst j;unfold Jt at e;replace e:=AK e;obtain⟨n,e⟩:=e;obtain⟨a,o,q⟩:=I8 m (hc.lset i g) e;refine⟨a,?_,q⟩;unfold Pi.FV;rw[<- g.cells.length,<- hc.length,n];exact o
theorem LQ{c:Bool}{z:List V}{a:List PV}{v:V}(h:VRL X z a)(e:NL c z=some v):∃ p,Pi.LP c a=some p/\VR X v p:=by
 unfold NL at e;rcases BU e with⟨b,e⟩|⟨b,e⟩
 ·subst b;cases e;exact⟨.agg a,rfl,by simp only[VR];exact⟨a,rfl,h⟩⟩
 ·subst b;split at e
  ·cases e;obtain⟨p,g,rfl,d,f⟩:=h.cons_inv;rw[f.nil_inv];exact⟨p,rfl,d⟩
  ·cases e
theorem Nl{ty:TypeId}{r:List (Nat×V)}{f:List (Nat×PV)}{K:V->Option β}(p:Rt X r f)(e:L7 P ty r K=some x):∃ v q,K v=some x/\Pi.Bv P X.h ty f=some (.val q X.h)/\VR X v q:=by
 unfold L7 at e;split at e
 ·rename_i z A l k;replace e:=AK e;obtain⟨g,e⟩:=e;obtain⟨w,c,d⟩:=B4 (X:=X) l;split at e
  ·rename_i pl i;obtain⟨u,s,t⟩:=Gg p i;replace e:=AD e;obtain⟨cs,b,e⟩:=e;obtain⟨a,n,o⟩:=Gz t d b;refine⟨_,.agg a,e,?_,by simp only[VR];exact⟨a,rfl,o⟩⟩;unfold Pi.Bv;simp only[c,k,g,cond_true,s,n];rfl
  ·cases e
 ·rename_i z m y l k;obtain⟨w,c,d⟩:=B4 (X:=X) l;split at e
  ·rename_i B j;replace e:=AK e;obtain⟨g,e⟩:=e;replace e:=AD e;obtain⟨cs,b,e⟩:=e;obtain⟨a,n,o⟩:=Gz (Fe p) d b;refine⟨_,.agg a,e,?_,by simp only[VR];exact⟨a,rfl,o⟩⟩;unfold Pi.Bv;simp only[c,k,j,g,cond_true,n];rfl
  ·cases e
 ·cases e
theorem Hz(r:RH X h n)(t:n<=1048575){ty:TypeId}{len:Nat}{m:List (Nat×V)}{b:List (Nat×PV)}{K:RA->Option β}(u:Rt X m b)(e:Ee P h ty len m K=some x) :
  VOk X h n id idP K x (Pi.Ag P X.h ty len b):=by
 unfold Ee at e;split at e
 ·rename_i O w;split at e
  ·rename_i S N z g d y;obtain⟨zP,i,a⟩:=B4 (X:=X) y;split at e
   ·rename_i Z j;obtain⟨M,A,B⟩:=LQ a j;replace e:=BC e;obtain⟨k,e⟩:=e;rw[a.length]at k;replace e:=AD e;obtain⟨es,f,e⟩:=e;obtain⟨p,C,D⟩:=I8 u (VRL.rep B len) f;replace e:=Lc r D e;obtain⟨J,l,o,lP,e,E,F,G,I⟩:=e;replace e:=AD e;obtain⟨h',s,e⟩:=e;obtain⟨c,Y,q,U,W,L⟩:=r.mark t G I s id idP;refine⟨_,h',.lst true o,c,Y,e,?_,L,by simp only[VR];exact⟨true,o,rfl,λ_=>rfl,F⟩⟩;unfold Pi.Ag;simp only[w,g,d,i,A,k,cond_false,C,E,q];rfl
   ·cases e
  ·cases e
 ·cases e
theorem PR(r:RH X h n)(w:Nw X n id idP){ty:TypeId}{same:Bool}{l c:V}{lP m:PV}{K:RA->Option β}(hs:same=true->lP=m)(M:VR X l lP)(hc:VR X c m)(e:PQ P h id ty same l c K=some x) :
  VOk X h n id idP K x (Pi.Cy P X.h idP ty lP m):=by
 unfold PQ at e;split at e
 ·rename_i et N;split at e
  ·rename_i sz ag z ti t s U u;obtain⟨zP,A,k⟩:=B4 (X:=X) U;replace e:=AD e;obtain⟨⟨g,J⟩,L,e⟩:=e;replace e:=AK e;obtain⟨E,e⟩:=e;simp only[ai]at E;obtain⟨⟨G,I⟩,D⟩:=E;rw[k.length]at D;replace e:=AD e;obtain⟨z1,B,e⟩:=e;obtain⟨z1P,W,Z⟩:=LQ k B;replace e:=Eh Z e;obtain⟨y,e,S⟩:=e;replace e:=JI M e;obtain⟨C,e,i⟩:=e;replace e:=JI hc e;obtain⟨b,e,a⟩:=e
   have d:af C b=true->af b 1048576=true -> ∀ {v:V},K (.val v (AG h id (.row g J (Rb b y) true false false)))=some x->(∀ Y:Cx,Y.π id=some (.blk idP b)->VR Y v (.own idP 0 C))->VOk X h n id idP K x (Pi.Cy P X.h idP ty lP m):=by
    intro o f v e O;obtain⟨p,Y,y1,y2,y3,F⟩:=BY (g:=g) (ex:=true) (fz:=false) r w (L2.replicate S b) (λh=>by cases h);rw[List.length_replicate]at F;refine⟨_,_,.own idP 0 C,p,Y,e,?_,y2,O Y F⟩;unfold Pi.Cy;simp only[N,i,a,t,s,A,u,W,o,f,G,I,D,show Pi.Ba=1048576 from rfl,dq,cond_true,y1];rfl
   rcases BU e with⟨j,e⟩|⟨j,e⟩
   ·have:=hs j;subst this;rw[i]at a;cases a;replace e:=AJ e;obtain⟨f,e⟩:=e;exact d (by simp) f e λY q=>by simp only[VR,q]
   ·replace e:=AJ e;obtain⟨o,e⟩:=e;replace e:=AJ e;obtain⟨f,e⟩:=e;exact d o f e λY q=>by simp only[VR];exact⟨_,_,q,rfl⟩
  ·cases e
 ·cases e
end
end
section
variable[Pi.Gl]
open Pi (PV T Hp Blk DF UM PE AN AT AB AX Ao)
section
variable{X:Cx}{h:H}{n id idP:Nat}{β:Type}{x:β}{P:Program}
theorem Ia{α:Type}{R:α->PV->Prop}{l:List α}{es:List PV}{off len a b:Nat}(h:L2 R l ((es.drop off).take len))(c:b<=len):L2 R (D0 l a b) ((es.drop (off+a)).take (b-a)):=by
 have:=(h.drop a).take (b-a);rw[List.drop_take,List.take_take,List.drop_drop]at this;unfold D0;rw[show min (b-a) (len-a)=b-a from by omega]at this;exact this
theorem VRO.isSome{o:Option V}{p:Option PV}(h:VRO X o p):p.isSome=o.isSome:=by
 cases o with
 |none=>cases h;rfl
 |some v=>obtain⟨q,rfl,_⟩:=h;rfl
def WOk(X:Cx)(h:H)(n id idP:Nat)(K:V->Option β)(x:β)(o:Option Pi.R):Prop:=
 ∃ v p a Y,K v=some x/\o=some (.val p a)/\FQ X h n id idP h a Y/\VR Y v p
theorem WOk.same(r:RH X h n){K:V->Option β}{o:Option Pi.R}{v:V}{p:PV}(e:K v=some x)(a:o=some (.val p X.h))(b:VR X v p):WOk X h n id idP K x o:=
 ⟨v,p,X.h,X,e,a,⟨rfl,r,St.refl _ _ _ _⟩,b⟩
theorem KE{d:Nat}:Pi.CT d none=some d:=rfl
theorem MV{d:Nat}{p:PV}:Pi.CT d (some p)=Pi.FT p:=rfl
theorem R4{a b:Nat}(h:¬ a<b):ah a b=false:=by
 cases c:ah a b with
 |false=>rfl
 |true=>exact absurd (by simpa using c) h
theorem R5{a b:Nat}(h:ah a b=false):¬ a<b:=λc=>by
 rw[show ah a b=true from by simpa using c]at h;cases h
theorem OT(r:RH X h n)(hn:n<=1048575){ty:TypeId}{a:V}{p:PV}{lo hi mx:Option V}{loP W mxP:Option PV}{K:V->Option β}(A:VR X a p)(O:VRO X lo loP)(D:VRO X hi W)(G:VRO X mx mxP)
  (e:Mj P h ty a lo hi mx K=some x):WOk X h n id idP K x (Pi.Ak P X.h ty p loP W mxP):=by
 unfold Mj at e;split at e
 ·rename_i s B;split at e
  ·cases G;simp only[VR]at A;subst A;replace e:=A3 D e;obtain⟨hh,e,y⟩:=e;replace e:=A3 O e;obtain⟨l,e,q⟩:=e;replace e:=AJ e;obtain⟨E,e⟩:=e;replace e:=AJ e;obtain⟨I,e⟩:=e;refine .same r e (p:=.str ((s.drop l).take (hh-l))) ?_ (by simp[VR,SR]);unfold Pi.Ak;simp only[Mi]at y E;simp only[CF]at E I;simp only[B,y,q,E,I,dq,cond_true]
  ·cases e
 ·rename_i et B;replace e:=AD e;obtain⟨sz,k,e⟩:=e;simp only[VR]at A;subst A;split at e
  ·cases G;replace e:=A3 D e;obtain⟨hh,e,y⟩:=e;replace e:=A3 O e;obtain⟨l,e,q⟩:=e;replace e:=AJ e;obtain⟨E,e⟩:=e;replace e:=AJ e;obtain⟨I,e⟩:=e;have:hh=0:=by simpa[neq]using E
   subst this;have:l=0:=by simpa[neq]using I
   subst this;refine .same r e (p:=.nils) ?_ (by simp[VR]);unfold Pi.Ak;simp only[B,k,y,q,KE];rfl
  ·rename_i m;obtain⟨mP,rfl,hm⟩:=G;replace e:=BC e;obtain⟨S,e⟩:=e;have F:W.isSome=true:=by rw[D.isSome];simpa using S
   replace e:=A3 D e;obtain⟨hh,e,y⟩:=e;replace e:=A3 O e;obtain⟨l,e,q⟩:=e;replace e:=C5 hm e;obtain⟨mn,e,h3⟩:=e;replace e:=AJ e;obtain⟨E,e⟩:=e;replace e:=AJ e;obtain⟨I,e⟩:=e;replace e:=AJ e;obtain⟨g3,e⟩:=e;have:hh=0:=by simpa[neq]using E
   subst this;have:l=0:=by simpa[neq]using I
   subst this;have:mn=0:=by simpa[neq]using g3
   subst this;refine .same r e (p:=.nils) ?_ (by simp[VR]);unfold Pi.Ak;simp only[B,k,y,q,MV,h3,F];rfl
 ·rename_i et f g c es B;replace e:=AD e;obtain⟨sz,k,e⟩:=e;replace e:=BC e;obtain⟨u,e⟩:=e;have u:sz=c.wd:=by simpa using u
  subst u;replace e:=A3 O e;obtain⟨l,e,y⟩:=e;replace e:=A3 D e;obtain⟨hh,e,q⟩:=e;split at e
  ·cases G;replace e:=AJ e;obtain⟨E,e⟩:=e;replace e:=AJ e;obtain⟨I,e⟩:=e;have b:hh<=es.length:=by simpa[CF,AS]using E
   have w:l<=hh:=by simpa[CF]using I
   simp only[VR]at A;unfold Pi.Ak;rcases A with⟨rfl,rfl⟩|⟨f',o,rfl,hf,C⟩|⟨pid,off,len,o,ex,fz,rfl,hf,C,k2,k3,k4,k5⟩
   ·have:hh=0:=by simpa using b
    subst this;have:l=0:=by omega
    subst this;refine .same r e (p:=.nils) ?_ (by simp[VR,D0]);simp only[AS,aJ]at q;simp only[B,k,y,q,KE];rfl
   ·rw[C.length]at b;refine .same r e (p:=.lst (f'&&aa hh o.length) ((o.drop l).take (hh-l))) ?_ (by simp only[VR];exact .inr (.inl ⟨_,_,rfl,by simp,(C.drop l).take (hh-l)⟩));simp only[AS,C.length]at q;simp only[B,k,Ax rfl (EPL.up (hh:=X.h) (Q:=X.Q) C),au,cond_false,y,q];rw[show af hh o.length=true from by simpa using b,show af l hh=true from by simpa using w];rfl
   ·have N:((o.drop off).take len).length=len:=by simp;omega
    rw[k5.length,N]at b;simp only[AS,k5.length,N]at q;have U:af l hh=true:=by simpa using w
    have b2:af (off+hh) o.length=true:=by simp;omega
    by_cases z:off+l<o.length
    ·refine .same r e (p:=.own pid (off+l) (hh-l)) ?_ (by simp only[VR];exact .inr (.inr ⟨pid,off+l,hh-l,o,ex,fz,rfl,by simp,C,k2,by omega,k4,Ia k5 b⟩));simp only[B,k,k2,k4,au,cond_false,y,q,U,b2,aL];rw[show ah (off+l) o.length=true from by simpa using z];rfl
    ·have hes:D0 es l hh=[]:=by
      have:=(Ia (a:=l) k5 b).length;simp at this;exact cx.1 (by omega)
     refine .same r e (p:=.lst false []) ?_ (by rw[hes];simp only[VR];exact .inr (.inl ⟨false,[],rfl,by simp,.nil⟩));simp only[B,k,k2,k4,au,cond_false,y,q,U,b2,aL]
     rw[show ah (off+l) o.length=false from by
      cases hq:ah (off+l) o.length with
      |false=>rfl
      |true=>exact absurd (by simpa using hq) z];rfl
  ·rename_i m;obtain⟨mP,rfl,hm⟩:=G;replace e:=BC e;obtain⟨z,e⟩:=e;simp only[am,az,bD]at z;obtain⟨S,hb2⟩:=z;have F:W.isSome=true:=by rw[D.isSome];exact S
   replace e:=C5 hm e;obtain⟨mn,e,h3⟩:=e;replace e:=AJ e;obtain⟨E,e⟩:=e;replace e:=AJ e;obtain⟨g3,e⟩:=e;replace e:=AJ e;obtain⟨I,e⟩:=e;have:hh=mn:=by simpa[neq]using g3
   subst this;have b:hh<=es.length:=by simpa[CF,AS]using E
   have w:l<=hh:=by simpa[CF]using I
   have U:af l hh=true:=by simpa using w
   simp only[VR]at A;unfold Pi.Ak;rcases A with⟨rfl,rfl⟩|⟨f',o,rfl,hf,C⟩|⟨pid,off,len,o,ex,fz,rfl,hf,C,k2,k3,k4,k5⟩
   ·have:hh=0:=by simpa using b
    subst this;have:l=0:=by omega
    subst this;refine .same r e (p:=.nils) ?_ (by simp[VR,D0]);simp only[AS,aJ]at q;simp only[B,k,y,q,MV,h3,F];rfl
   ·rw[C.length]at b;refine .same r e (p:=.lst true ((o.drop l).take (hh-l))) ?_ (by simp only[VR];exact .inr (.inl ⟨_,_,rfl,by simp,(C.drop l).take (hh-l)⟩));simp only[AS,C.length]at q;simp only[B,k,Ax rfl (EPL.up (hh:=X.h) (Q:=X.Q) C),au,cond_false,y,q,h3,F,U];have J:af hh hh=true:=by simp
    have L:aa hh hh=true:=by simp
    rw[show af hh o.length=true from by simpa using b,J,L];rfl
   ·have N:((o.drop off).take len).length=len:=by simp;omega
    rw[k5.length,N]at b;simp only[AS,k5.length,N]at q;have b2:af (off+hh) o.length=true:=by simp;omega
    simp only[B,k,k2,k4,au,cond_false,y,q,U,b2,aL,h3,F];cases hex:(ex&&aa (off+hh) o.length)with
    |true=>
     simp only[ai,bJ]at hex;obtain⟨rfl,hend⟩:=hex;by_cases z:off+l<o.length
     ·refine .same r e (p:=.own pid (off+l) (hh-l)) ?_ (by simp only[VR];exact .inr (.inr ⟨pid,off+l,hh-l,o,true,fz,rfl,λ_=>⟨rfl,by omega⟩,C,k2,by omega,k4,Ia k5 b⟩));have J:af hh hh=true:=by simp
      have L:aa (off+hh) o.length=true:=by simp[hend]
      rw[show ah (off+l) o.length=true from by simpa using z,J,L];rfl
     ·have hes:D0 es l hh=[]:=by
       have:=(Ia (a:=l) k5 b).length;simp at this;exact cx.1 (by omega)
      refine .same r e (p:=.lst true []) ?_ (by rw[hes];simp only[VR];exact .inr (.inl ⟨true,[],rfl,by simp,.nil⟩))
      rw[show ah (off+l) o.length=false from by
       cases hq:ah (off+l) o.length with
       |false=>rfl
       |true=>exact absurd (by simpa using hq) z]
      have J:af hh hh=true:=by simp
      have L:aa (off+hh) o.length=true:=by simp[hend]
      rw[J,L];rfl
    |false=>
     have hd:c.depth<=4:=aq hb2;obtain⟨qs,ids,p1,p2,p3⟩:=Hq (d:=12) (off:=off+l) (len:=hh-l) k2 (by omega) (Ia k5 b) (by omega)
     have hmA:MetA X [] (pid::ids):=λi hi=>by
      rcases ae.1 hi with rfl|hi
      ·exact⟨.inl C,o,ex,fz,k2⟩
      ·exact p3.toA i hi
     obtain⟨hP',Y,f1,y1,y2,y3⟩:=r.mark hn hmA .nil rfl id idP;refine⟨_,.lst true qs,hP',Y,e,?_,y3,by simp only[VR];exact .inr (.inl ⟨true,qs,rfl,by simp,p2⟩)⟩;have J:af hh hh=true:=by simp
     have L:aa hh hh=true:=by simp
     have hc:(true&&af hh hh&&ex&&aa (off+hh) o.length)=false:=by rw[J];simpa using hex
     rw[hc];simp only[cond_false,Pi.DU,show Pi.AU=12 from rfl,p1,f1,L];rfl
 ·rename_i et g c es B;replace e:=AD e;obtain⟨sz,k,e⟩:=e;replace e:=BC e;obtain⟨u,e⟩:=e;have u:sz=c.wd:=by simpa using u
  subst u;replace e:=A3 O e;obtain⟨l,e,y⟩:=e;replace e:=A3 D e;obtain⟨hh,e,q⟩:=e;split at e
  ·cases G;replace e:=AJ e;obtain⟨E,e⟩:=e;replace e:=AJ e;obtain⟨I,e⟩:=e;have b:hh<=es.length:=by simpa[CF,AS]using E
   have w:l<=hh:=by simpa[CF]using I
   simp only[VR]at A;unfold Pi.Ak;rcases A with⟨rfl,rfl⟩|⟨f',o,rfl,C⟩
   ·have:hh=0:=by simpa using b
    subst this;have:l=0:=by omega
    subst this;refine .same r e (p:=.nils) ?_ (by simp[VR,D0]);simp only[AS,aJ]at q;simp only[B,k,y,q,KE];rfl
   ·rw[C.length]at b;refine .same r e (p:=.lst (f'&&aa hh o.length) ((o.drop l).take (hh-l))) ?_ (by simp only[VR];exact .inr ⟨_,_,rfl,(C.drop l).take (hh-l)⟩);simp only[AS,C.length]at q;simp only[B,k,Ax rfl (EPL.up (hh:=X.h) (Q:=X.Q) C),au,cond_false,y,q];rw[show af hh o.length=true from by simpa using b,show af l hh=true from by simpa using w];rfl
  ·rename_i m;obtain⟨mP,rfl,hm⟩:=G;replace e:=BC e;obtain⟨z,e⟩:=e;simp only[am,az,bD]at z;obtain⟨S,hb2⟩:=z;have F:W.isSome=true:=by rw[D.isSome];exact S
   replace e:=C5 hm e;obtain⟨mn,e,h3⟩:=e;replace e:=AJ e;obtain⟨E,e⟩:=e;replace e:=AJ e;obtain⟨g3,e⟩:=e;replace e:=AJ e;obtain⟨I,e⟩:=e;have:hh=mn:=by simpa[neq]using g3
   subst this;have b:hh<=es.length:=by simpa[CF,AS]using E
   have w:l<=hh:=by simpa[CF]using I
   have U:af l hh=true:=by simpa using w
   simp only[VR]at A;unfold Pi.Ak;rcases A with⟨rfl,rfl⟩|⟨f',o,rfl,C⟩
   ·have:hh=0:=by simpa using b
    subst this;have:l=0:=by omega
    subst this;refine .same r e (p:=.nils) ?_ (by simp[VR,D0]);simp only[AS,aJ]at q;simp only[B,k,y,q,MV,h3,F];rfl
   ·rw[C.length]at b;refine .same r e (p:=.lst true ((o.drop l).take (hh-l))) ?_ (by simp only[VR];exact .inr (.inl ⟨_,_,rfl,by simp,(C.drop l).take (hh-l)⟩));simp only[AS,C.length]at q;simp only[B,k,Ax rfl (EPL.up (hh:=X.h) (Q:=X.Q) C),au,cond_false,y,q,h3,F,U];have J:af hh hh=true:=by simp
    have L:aa hh hh=true:=by simp
    rw[show af hh o.length=true from by simpa using b,J,L];rfl
 ·rename_i et j B;split at e
  ·rename_i g c es ex lk hg;replace e:=AD e;obtain⟨sz,k,e⟩:=e;replace e:=BC e;obtain⟨u,e⟩:=e;have u:sz=c.wd:=by simpa using u
   subst u;replace e:=A3 O e;obtain⟨l,e,y⟩:=e;replace e:=A3 D e;obtain⟨hh,e,q⟩:=e;split at e
   ·cases G;replace e:=AJ e;obtain⟨E,e⟩:=e;replace e:=AJ e;obtain⟨I,e⟩:=e;have b:hh<=es.length:=by simpa[CF,AS]using E
    have w:l<=hh:=by simpa[CF]using I
    have U:af l hh=true:=by simpa using w
    simp only[VR]at A;have hB:=r.blk _ _ hg;cases M:X.π j with
    |none=>rw[M]at A;exact A.elim
    |some t=>
     rw[M]at A hB;unfold Pi.Ak;rcases hB with⟨pid,len,o,fz',p1,p2,p3,p4,p5,p7,Z⟩|⟨p1,_,p2⟩|⟨qs,p1,_,p2,p3⟩
     ·cases p1;simp only at A;subst A;have hl:es.length=len:=by rw[Z.length,p5]
      simp only[AS,hl]at q;rw[hl]at b;have b2:af (0+hh) o.length=true:=by simp;omega
      replace e:=BN e;rcases e with⟨z,e⟩|⟨z,e⟩
      ·have hb':l<len:=by simpa[KI,AS,hl]using z
       refine .same r e (p:=.own pid (0+l) (hh-l)) ?_ (by simp only[VR];exact⟨pid,len,M,by simp[PY]⟩);simp only[B,k,p3,Ax rfl Z,au,cond_false,y,q,U,b2,aL];rw[show ah (0+l) o.length=true from by simp;omega];rfl
      ·have hb':¬ l<len:=R5 (by rw[<- hl];exact z);refine .same r e (p:=.lst false []) ?_ (by simp only[VR];exact .inr (.inl ⟨false,[],rfl,by simp,.nil⟩));simp only[B,k,p3,Ax rfl Z,au,cond_false,y,q,U,b2,aL];rw[R4 (by omega)];rfl
     ·cases p1;subst p2;simp only at A;subst A;have:hh=0:=by simpa using b
      subst this;have:l=0:=by omega
      subst this;replace e:=BN e;rcases e with⟨z,e⟩|⟨z,e⟩
      ·simp[KI,AS]at z
      ·refine .same r e (p:=.nils) ?_ (by simp[VR]);simp only[AS,aJ]at q;simp only[B,k,y,q,KE];rfl
     ·rcases p2 with p2|p2
      ·cases p2
      ·subst p2;cases p1;have:=p3.nil_inv;subst this;simp only at A;subst A;have:hh=0:=by simpa using b
       subst this;have:l=0:=by omega
       subst this;replace e:=BN e;rcases e with⟨z,e⟩|⟨z,e⟩
       ·simp[KI,AS]at z
       ·refine .same r e (p:=.lst true []) ?_ (by simp only[VR];exact .inr (.inl ⟨true,[],rfl,by simp,.nil⟩));simp only[AS,aJ]at q;simp only[B,k,y,aJ,q,show Pi.Cd c.wd []=true from rfl,au,cond_false];rfl
   ·cases e
  ·cases e
 ·rename_i et j off len B;split at e
  ·rename_i g c es ex fz lk hg;replace e:=AD e;obtain⟨sz,k,e⟩:=e;replace e:=BC e;obtain⟨u,e⟩:=e;have u:sz=c.wd:=by simpa using u
   subst u;replace e:=A3 O e;obtain⟨l,e,y⟩:=e;replace e:=A3 D e;obtain⟨hh,e,q⟩:=e;split at e
   ·cases G;replace e:=AJ e;obtain⟨E,e⟩:=e;replace e:=AJ e;obtain⟨I,e⟩:=e;have b:off+hh<=es.length:=by simpa[CF,AS,BF]using E
    have w:l<=hh:=by simpa[CF]using I
    have U:af l hh=true:=by simpa using w
    simp only[VR]at A;obtain⟨pid,m,M,rfl⟩:=A;obtain⟨o,fz',p3,_,p5,_,Z⟩:=r.rowAt M hg;rw[Z.length]at b;have b2:af (off+hh) o.length=true:=by simpa using b
    unfold Pi.Ak;replace e:=BN e;rcases e with⟨z,e⟩|⟨z,e⟩
    ·have hb':off+l<o.length:=by simpa[KI,AS,BF,Z.length]using z
     refine .same r e (p:=.own pid (off+l) (hh-l)) ?_ (by simp only[VR];exact⟨pid,m,M,rfl⟩);simp only[B,k,p3,Ax rfl Z,au,cond_false,y,q,U,b2,aL];rw[show ah (off+l) o.length=true from by simpa using hb'];rfl
    ·have hb':¬ off+l<o.length:=R5 (by rw[<- Z.length];exact z);refine .same r e (p:=.lst false []) ?_ (by simp only[VR];exact .inr (.inl ⟨false,[],rfl,by simp,.nil⟩));simp only[B,k,p3,Ax rfl Z,au,cond_false,y,q,U,b2,aL];rw[R4 hb'];rfl
   ·rename_i m;obtain⟨mP,rfl,hm⟩:=G;replace e:=BC e;obtain⟨z,e⟩:=e;simp only[am,az,bD]at z;obtain⟨⟨hb0,S⟩,hb2⟩:=z;have F:W.isSome=true:=by rw[D.isSome];exact S
    have hl0:l=0:=by
     cases lo with
     |none=>cases O;cases y;rfl
     |some v=>cases hb0
    subst hl0;subst hb2;replace e:=C5 hm e;obtain⟨mn,e,h3⟩:=e;replace e:=AJ e;obtain⟨E,e⟩:=e;replace e:=AJ e;obtain⟨I,e⟩:=e;replace e:=AJ e;obtain⟨g3,e⟩:=e;simp only[VR]at A;obtain⟨pid,m',M,rfl⟩:=A;obtain⟨o,fz',p3,_,p5,_,Z⟩:=r.rowAt M hg;have b:hh<=mn:=by simpa[CF]using E
    have w:off+mn=o.length:=by rw[<- Z.length];simpa[neq,BF,AS]using I
    have g3':off<o.length:=by rw[<- Z.length];simpa[KI,AS]using g3
    have b2:af (off+hh) o.length=true:=by simp;omega
    have b3:af hh mn=true:=by simpa using b
    have b4:aa (off+mn) o.length=true:=by simpa using w
    have b5:ah off o.length=true:=by simpa using g3'
    unfold Pi.Ak;refine .same r e (p:=.own pid off hh) ?_ (by simp only[VR];exact⟨pid,m',M,rfl⟩);simp only[B,k,p3,Ax rfl Z,au,cond_false,y,q,h3,F,b2,b3,b4,bl,Nat.sub_zero,b5,aL,show af 0 hh=true from by simp];rfl
  ·cases e
 ·cases e
theorem IA{hh:Hp}{ty:TypeId}{u:TypeDesc}{v:PV}{b:Bool}(d:P.underlying ty=some u)(c:∀ m,u=.interface m->False):Pi.BI P hh ty v b=(match v with
  |.ifc u a=>bif aa u ty then some (.val (Pi.Do b a) hh)else bif b then(match Pi.Bt P ty with
   |some z=>some (.val (.tup [z,.bool false]) hh)
   |none=>none)else none
  |.nili=>bif b then(match Pi.Bt P ty with
   |some z=>some (.val (.tup [z,.bool false]) hh)
   |none=>none)else none
  |_=>none):=by
 unfold Pi.BI;rw[d];cases u<;>first|rfl|exact(c _ rfl).elim
theorem Im{t:TypeId}{u:TypeDesc}{A B C:FuncId->Option Pi.R}(f:P.underlying t=some u)(e:∀ m,u=.pointer m->False){b:Bool}{a:Option (FuncId×Bool)}{g:FuncId}:b=true->a=some (g,false) ->
  (match b,a,P.underlying t with
   |true,some (g,true),some (.pointer _)=>A g
   |true,some (g,false),some (.pointer _)=>C g
   |true,some (g,false),some _=>B g
   |_,_,_=>none)=B g:=by
 intro c d;subst c;subst d;rw[f];cases u<;>first|rfl|exact(e _ rfl).elim
theorem L3(r:RH X h n){ty:TypeId}{a:V}{p:PV}{c:Bool}{K:V->Option β}(b:VR X a p)(e:Je P ty a c K=some x):∃ v q,K v=some x/\Pi.BI P X.h ty p c=some (.val q X.h)/\VR X v q:=by
 have g : ∀ {K:V->Option β},(bif c then CU (C6 P ty) λz=>K (.tup [z,.bool false]) else none)=some x -> ∃ v q,K v=some x/\(bif c then (match Pi.Bt P ty with
    |some z=>some (Pi.R.val (.tup [z,.bool false]) X.h)
    |none=>none)else none)=some (Pi.R.val q X.h)/\VR X v q:=by
  clear e;intro K e;replace e:=AK e;obtain⟨o,e⟩:=e;subst o;replace e:=AD e;obtain⟨z,w,e⟩:=e;obtain⟨D,B,C⟩:=F9 (X:=X) w;exact⟨_,.tup [D,.bool false],e,by simp[B],by simp only[VR];exact⟨_,rfl,.cons C (.cons (by simp[VR]) .nil)⟩⟩
 have d:∀ {v:V} {q:PV},VR X v q->VR X (E4 c v) (Pi.Do c q):=by
  intro v q h;cases c
  ·exact h
  ·simp only[E4,Pi.Do,cond_true,VR];exact⟨_,rfl,.cons h (.cons (by simp[VR]) .nil)⟩
 have f:=@g;unfold Je at e;split at e
 ·rename_i t s;unfold Pi.BI;simp only[s];split at e
  ·rename_i u a;have j:=b;simp only[VR]at b;obtain⟨q,rfl,b⟩:=b;split at e
   ·rename_i i hi;simp only[hi];split at e
    ·rename_i l;exact⟨_,_,e,by simp only[l],d j⟩
    ·rename_i y l;simp only[l];exact g e
   ·cases e
  ·simp only[VR]at b;subst b;exact g e
  ·cases e
 ·rename_i u s m;clear g;rw[IA m s];split at e
  ·rename_i E a;simp only[VR]at b;obtain⟨q,rfl,b⟩:=b;replace e:=BU e;rcases e with⟨k,e⟩|⟨k,e⟩
   ·exact⟨_,_,e,by simp only[k,cond_true],d b⟩
   ·obtain⟨v,A,e1,e2,e3⟩:=f e;exact⟨v,A,e1,by simp only[k,cond_false];exact e2,e3⟩
  ·simp only[VR]at b;subst b;exact f e
  ·cases e
 ·cases e
theorem Mx{α:Type}{c:Bool}{a b:α}(h:c=true):(bif c then a else b)=a:=by subst h;rfl
theorem EF{f:Fn}{first cap args:List V}{a b argsP:List PV}{K:RA->Option β}(s:VRL X first a)(A:VRL X cap b)(w:VRL X args argsP)(e:FC P f first cap args K=some x) :
  ∃ g r y,K (.call g r)=some x/\Pi.CA P f a b argsP=some (.call g y)/\VRL X r y:=by
 unfold FC at e;unfold Pi.CA;split at e
 ·split at e
  ·rename_i E B;replace e:=AK e;obtain⟨d,e⟩:=e;refine⟨_,_,_,e,?_,(s.append w).append A⟩;simp only[B,d,cond_true]
  ·cases e
 ·split at e
  ·rename_i t v rest j;have c:=s.append w;rw[j]at c;obtain⟨p,F,D,h,z⟩:=c.cons_inv;simp only[VR]at h;obtain⟨q,rfl,h⟩:=h;rw[D];split at e
   ·rename_i i hi;simp only[hi];split at e
    ·rename_i m C;simp only[C];split at e
     ·rename_i g l n o;replace e:=AK e;obtain⟨d,e⟩:=e;refine⟨_,_,_,e,?_,.cons h z⟩;simp only[l,n,o];exact Mx d
     ·cases e
     ·rename_i g u k l n o;replace e:=AK e;obtain⟨d,e⟩:=e;refine⟨_,_,_,e,?_,.cons h z⟩;exact(Im o k l n).trans (Mx d)
     ·cases e
    ·cases e
   ·cases e
  ·cases e
 ·cases e
end
end
section
variable[Pi.Gl]
open Pi (PV T Hp Blk DF UM PE AN AT AB AX Ao)
section
variable{X:Cx}{h:H}{n id idP:Nat}{β:Type}{x:β}{P:Program}
inductive EvOk (X:Cx) (h:H) (n id idP:Nat) (K:RA->Option β) (x:β):Option Pi.R->Prop where
 |val {v:V} {h':H} {p:PV} {hP':Hp} {Y:Cx} (e:K (.val v h')=some x) (ok:FQ X h n id idP h' hP' Y) (hv:VR Y v p):EvOk X h n id idP K x (some (.val p hP'))
 |skip {h':H} {hP':Hp} {Y:Cx} (e:K (.skip h')=some x) (ok:FQ X h n id idP h' hP' Y):EvOk X h n id idP K x (some (.skip hP'))
 |call {f:FuncId} {as:List V} {ps:List PV} (e:K (.call f as)=some x) (ha:VRL X as ps):EvOk X h n id idP K x (some (.call f ps))
 |yield {l lP m:Nat} {as:List V} {ps:List PV} (e:K (.yield l as)=some x) (hl:X.π l=some (.blk lP m)) (ha:VRL X as ps):EvOk X h n id idP K x (some (.yield lP ps))
 |pan {v:V} {p:PV} (e:K (.pan v)=some x) (hv:VR X v p):EvOk X h n id idP K x (some (.pan p))
 |rcv (e:K .rcv=some x):EvOk X h n id idP K x (some .rcv)
 |dfr {d:DFA} {dP:DF} (e:K (.dfr d)=some x) (hd:DFR X d dP):EvOk X h n id idP K x (some (.dfr dP))
theorem EvOk.ofV(r:RH X h n){K:RA->Option β}{o:Option Pi.R}{v:V}{p:PV}(e:K (.val v h)=some x)(a:o=some (.val p X.h))(b:VR X v p):EvOk X h n id idP K x o:=by
 subst a;exact .val e ⟨rfl,r,St.refl _ _ _ _⟩ b
theorem VOk.ev{K:RA->Option β}{o:Option Pi.R}(k:VOk X h n id idP K x o):EvOk X h n id idP K x o:=by
 obtain⟨v,h',p,a,Y,e,rfl,b,c⟩:=k;exact .val e b c
theorem Jf(r:RH X h n)(w:Nw X n id idP){cs:List V}{a:List PV}{K:RA->Option β}(hc:VRL X cs a)(e:K (.val (.ptr id 0) (AG h id (.box cs false false)))=some x) :
  EvOk X h n id idP K x ((X.h.new idP (.box a false)).map λh=>.val (.ptr idP 0) h):=by
 obtain⟨g,e1⟩:=F1 X.h idP (.box a false) w.hp
 obtain⟨Y,f,c,d,i⟩:=r.new (m:=0) (b:=.box cs false false) w.small w.lt w.pi w.hlt e1 (λY f c d u=>
  ⟨idP,0,a,false,rfl,(d _).2 (.inr rfl),by rw[c,(Hp.get_new e1).2.1,if_pos rfl],λ_=>rfl,hc.mono u⟩)
 rw[e1];refine .val e ⟨c,d,i⟩ ?_;simp only[VR];exact⟨idP,0,by rw[f];exact if_pos rfl,rfl⟩
theorem Oy{t:T V}{tP:T PV}(r:RH X h n)(w:Nw X n id idP)(z:TR X t tP){o:Oper}{K:RA->Option β}(e:SZ P t h id o K=some x):EvOk X h n id idP K x (Pi.AQ P tP X.h idP o):=by
 unfold SZ at e;unfold Pi.AQ;split at e
 ·rename_i a l;simp only[l];replace e:=AM z e;obtain⟨v,p,e,y,j⟩:=e;exact .ofV r e (A9 y) j
 ·rename_i a l;simp only[l];replace e:=AM z e;obtain⟨v,p,e,y,j⟩:=e;exact .ofV r e (A9 y) j
 ·rename_i c a b l;simp only[l,Pi.e3];replace e:=AM z e;obtain⟨vc,pc,e,c1,c2⟩:=e;replace e:=AM z e;obtain⟨va,pa,e,a1,a2⟩:=e;replace e:=AM z e;obtain⟨vb,pb,e,b1,b2⟩:=e;simp only[c1,a1,b1];split at e
  ·simp only[VR]at c2;subst c2;replace e:=BN e;rcases e with⟨hc,e⟩|⟨hc,e⟩
   ·subst hc;exact .ofV r e rfl a2
   ·subst hc;exact .ofV r e rfl b2
  ·cases e
 ·rename_i ty l;simp only[l];replace e:=AD e;obtain⟨cs,hcs,e⟩:=e;obtain⟨C,L,N⟩:=B4 (X:=X) hcs;unfold Pi.Ci;simp only[L];exact Jf r w N e
 ·rename_i ty a l;simp only[l,Pi.e1];replace e:=AM z e;obtain⟨v,p,e,y,j⟩:=e;simp only[y];split at e
  ·cases e
  ·rename_i E
   have hp:Pi.FU X.h idP p=(X.h.new idP (.box p.cells false)).map λh=>.val (.ptr idP 0) h:=by
    cases p with
    |tup C=>
     exfalso;cases v with
     |tup=>exact E _ rfl
     |ow i=>
      simp only[VR]at j;split at j<;>first|(cases j;done)|exact j
     |lf=>
      simp only[VR]at j;rcases j with⟨j,_⟩|⟨_,_,j,_⟩|⟨_,_,_,_,_,_,j,_⟩<;>cases j
     |view=>
      simp only[VR]at j;rcases j with⟨_,j,_⟩|⟨_,_,_,_,_,_,_,j,_⟩<;>cases j
     |agg=>obtain⟨_,B,_⟩:=j.agg_inv;cases B
     |exl=>simp only[VR]at j;obtain⟨_,_,j,_⟩:=j;cases j
     |pl=>simp only[VR]at j;rcases j with⟨j,_⟩|⟨_,_,j,_⟩<;>cases j
     |pv=>simp only[VR]at j;obtain⟨_,j,_⟩:=j;cases j
     |own=>simp only[VR]at j;obtain⟨_,_,_,j⟩:=j;cases j
     |ptr=>simp only[VR]at j;obtain⟨_,_,_,j⟩:=j;cases j
     |ept=>simp only[VR]at j;obtain⟨_,_,_,j⟩:=j;cases j
     |aptr=>simp only[VR]at j;obtain⟨_,_,_,j,_⟩:=j;cases j
     |fn=>simp only[VR]at j;obtain⟨_,_,j,_⟩:=j;cases j
     |yl=>simp only[VR]at j;obtain⟨_,_,_,j⟩:=j;cases j
     |mp=>simp only[VR]at j;obtain⟨_,_,_,j⟩:=j;cases j
     |ifc=>simp only[VR]at j;obtain⟨_,j,_⟩:=j;cases j
     |_=>simp only[VR]at j;cases j
    |_=>rfl
   rw[hp];exact Jf r w j.cells e
 ·rename_i ty G l;simp only[l];replace e:=Et z e;obtain⟨vs,C,e,y,j⟩:=e;simp only[y];obtain⟨v,q,e1,e2,e3⟩:=Nl (X:=X) j e;exact .ofV r e1 e2 e3
 ·rename_i ty len G l;simp only[l];replace e:=Et z e;obtain⟨vs,C,e,y,j⟩:=e;simp only[y];exact(Hz r w.big j e).ev
 ·rename_i ty a l;simp only[l,Pi.e1];replace e:=AM z e;obtain⟨v,p,e,y,j⟩:=e;simp only[y];obtain⟨v,q,e1,e2,e3⟩:=PL r j e;exact .ofV r e1 e2 e3
 ·rename_i ty a b l;simp only[l,Pi.e2];replace e:=AM z e;obtain⟨v,p,e,y,j⟩:=e;replace e:=AM z e;obtain⟨J,F,e,B,A⟩:=e;simp only[y,B];obtain⟨h',D,Y,e1,e2,e3⟩:=JX r w.big j A id idP e;rw[e2];exact .skip e1 e3
 ·rename_i a l;simp only[l,Pi.e1];replace e:=AM z e;obtain⟨v,p,e,y,j⟩:=e;simp only[y];obtain⟨v,q,e1,e2,e3⟩:=Qk (h:=X.h) j e;exact .ofV r e1 e2 e3
 ·rename_i op ty a b ty2 l;simp only[l,Pi.e2];replace e:=AM z e;obtain⟨v,p,e,y,j⟩:=e;replace e:=AM z e;obtain⟨J,F,e,B,A⟩:=e;simp only[y,B];obtain⟨v,q,e1,e2,e3⟩:=QN (h:=X.h) j A e;exact .ofV r e1 e2 e3
 ·rename_i op ty a l;simp only[l,Pi.e1];replace e:=AM z e;obtain⟨v,p,e,y,j⟩:=e;simp only[y];obtain⟨v,q,e1,e2,e3⟩:=Rq j e;exact .ofV r e1 (A9 e2) e3
 ·rename_i s d a l;simp only[l,Pi.e1];replace e:=AM z e;obtain⟨v,p,e,y,j⟩:=e;simp only[y];obtain⟨v,q,e1,e2,e3⟩:=Kv (h:=X.h) j e;exact .ofV r e1 e2 e3
 ·rename_i ty a l;simp only[l,Pi.e1];replace e:=AM z e;obtain⟨v,p,e,y,j⟩:=e;simp only[y];obtain⟨v,q,e1,e2,e3⟩:=QZ (h:=X.h) j e;exact .ofV r e1 e2 e3
 ·rename_i f first cap l
  simp only[l];replace e:=GQ z e;obtain⟨vs,C,e,y,j⟩:=e;replace e:=GQ z e;obtain⟨vs',I,e,B,A⟩:=e;simp only[y,B];split at e
  ·cases e
  ·rename_i f' E;refine .ofV r e (p:=.fn f C I) ?_ (by simp only[VR];exact⟨_,_,rfl,j,A⟩);unfold Pi.BD;split
   ·exact absurd rfl (E _)
   ·rfl
 ·rename_i ty l;simp only[l];unfold LJ at e;split at e
  ·split at e
   ·rename_i k g c hk hc;obtain⟨D,e1⟩:=F1 X.h idP (.mp []) w.hp
    obtain⟨Y,y1,y2,y3,y4⟩:=r.new (m:=0) (b:=.mp k g c [] false) w.small w.lt w.pi w.hlt e1 (λY y1 y2 y3 u=>
     ⟨idP,0,[],rfl,(y3 _).2 (.inr rfl),by rw[y2,(Hp.get_new e1).2.1,if_pos rfl],.nil⟩)
    rw[e1];refine .val e ⟨y2,y3,y4⟩ ?_;simp only[VR];exact⟨idP,0,by rw[y1];exact if_pos rfl,rfl⟩
   ·cases e
  ·cases e
 ·rename_i ty a b l;simp only[l,Pi.e2];replace e:=AM z e;obtain⟨v,p,e,y,j⟩:=e;replace e:=AM z e;obtain⟨J,F,e,B,A⟩:=e;simp only[y,B];refine(PR r w (λhs=> ?_) j A e).ev;unfold NY at hs;split at hs
  ·have:=al hs;subst this;rw[y]at B;exact Option.some.inj B
  ·cases hs
 ·rename_i ty a lo hi mx l;simp only[l,Pi.e1];replace e:=Jp z e;obtain⟨vl,pl,e,l1,l2⟩:=e;replace e:=Jp z e;obtain⟨vh,ph,e,i1,i2⟩:=e;replace e:=Jp z e;obtain⟨vm,pm,e,m1,m2⟩:=e;replace e:=AM z e;obtain⟨v,p,e,y,j⟩:=e;simp only[l1,i1,m1,y];obtain⟨v,q,D,Y,e1,e2,e3,e4⟩:=OT (id:=id) (idP:=idP) r w.big j l2 i2 m2 e;rw[e2];exact .val e1 e3 e4
 ·rename_i s a f l;simp only[l,Pi.e1];replace e:=AM z e;obtain⟨v,p,e,y,j⟩:=e;simp only[y];obtain⟨v,q,e1,e2,e3⟩:=If j e;exact .ofV r e1 e2 e3
 ·rename_i ty a f l;simp only[l,Pi.e1];replace e:=AM z e;obtain⟨v,p,e,y,j⟩:=e;simp only[y];obtain⟨v,q,e1,e2,e3⟩:=N4 (h:=X.h) j e;exact .ofV r e1 e2 e3
 ·rename_i ty a b l;simp only[l,Pi.e2];replace e:=AM z e;obtain⟨v,p,e,y,j⟩:=e;replace e:=AM z e;obtain⟨J,F,e,B,A⟩:=e;simp only[y,B];obtain⟨v,q,e1,e2,e3⟩:=Ih r j A e;exact .ofV r e1 e2 e3
 ·rename_i ty a b l;simp only[l,Pi.e2];replace e:=AM z e;obtain⟨v,p,e,y,j⟩:=e;replace e:=AM z e;obtain⟨J,F,e,B,A⟩:=e;simp only[y,B];obtain⟨v,q,e1,e2,e3⟩:=N9 (X:=X) j A e;exact .ofV r e1 e2 e3
 ·rename_i ty a b ok l;simp only[l,Pi.e2];replace e:=AM z e;obtain⟨v,p,e,y,j⟩:=e;replace e:=AM z e;obtain⟨J,F,e,B,A⟩:=e;simp only[y,B];obtain⟨v,q,e1,e2,e3⟩:=MQ r j A e;exact .ofV r e1 e2 e3
 ·rename_i ty a k b l;simp only[l,Pi.e3];replace e:=AM z e;obtain⟨v,p,e,y,j⟩:=e;replace e:=AM z e;obtain⟨J,F,e,B,A⟩:=e;replace e:=AM z e;obtain⟨v'',p'',e,U,W⟩:=e;simp only[y,B,U];obtain⟨h',D,Y,e1,e2,e3⟩:=Fb r w.big j A W id idP e;rw[e2];exact .skip e1 e3
 ·rename_i ty a k b l;simp only[l,Pi.e3];replace e:=AM z e;obtain⟨v,p,e,y,j⟩:=e;replace e:=AM z e;obtain⟨J,F,e,B,A⟩:=e;replace e:=AM z e;obtain⟨v'',p'',e,U,W⟩:=e;simp only[y,B,U];obtain⟨h',D,Y,e1,e2,e3⟩:=Fb r w.big j A W id idP e;rw[e2];exact .skip e1 e3
 ·rename_i a ty1 ty ok l;simp only[l,Pi.e1];replace e:=AM z e;obtain⟨v,p,e,y,j⟩:=e;simp only[y];obtain⟨v,q,e1,e2,e3⟩:=L3 r j e;exact .ofV r e1 e2 e3
 ·rename_i a i l;simp only[l,Pi.e1];replace e:=AM z e;obtain⟨v,p,e,y,j⟩:=e;simp only[y];split at e
  ·replace e:=AD e;obtain⟨v,hv,e⟩:=e;simp only[VR]at j;obtain⟨C,rfl,j⟩:=j;obtain⟨q,q1,q2⟩:=j.lget hv;exact .ofV r e (A9 q1) q2
  ·cases e
 ·rename_i a l;simp only[l,Pi.e1];replace e:=AM z e;obtain⟨v,p,e,y,j⟩:=e;simp only[y];split at e
  ·have O:=j;simp only[VR]at j;obtain⟨q,rfl,j⟩:=j;exact .pan e O
  ·cases e
 ·rename_i c l;simp only[l];replace e:=GQ z e;obtain⟨vs,C,e,y,j⟩:=e;simp only[y];split at e
  ·rename_i b Z;simp only[Z];rcases Ko r w j e with k|⟨v,p,e1,e2,e3⟩|⟨e1,e2⟩
   ·exact k.ev
   ·rw[e2];exact .pan e1 e3
   ·rw[e2];exact .rcv e1
  ·rename_i f M;simp only[M,Pi.e1];replace e:=AM z e;obtain⟨v,p,e,B,A⟩:=e;simp only[B];split at e
   ·simp only[VR]at A;obtain⟨a',b',rfl,L,N⟩:=A;obtain⟨g,as,I,e1,e2,e3⟩:=EF L N j e;show EvOk X h n id idP K x (Pi.CA P _ a' b' C);rw[e2];exact .call e1 e3
   ·simp only[VR]at A;obtain⟨pid,m,L,rfl⟩:=A;exact .yield e L j
   ·cases e
  ·rename_i recv name M;simp only[M,Pi.e1];replace e:=AM z e;obtain⟨v,p,e,B,A⟩:=e;simp only[B];obtain⟨g,as,I,e1,e2,e3⟩:=EF (.cons A .nil) .nil j e;rw[e2];exact .call e1 e3
 ·rename_i c l;simp only[l];replace e:=GQ z e;obtain⟨vs,C,e,y,j⟩:=e;simp only[y];split at e
  ·rename_i b Z;simp only[Z];exact .dfr e ⟨C,rfl,j⟩
  ·rename_i f M;simp only[M,Pi.e1];replace e:=AM z e;obtain⟨v,p,e,B,A⟩:=e;simp only[B];split at e
   ·have S:=A;simp only[VR]at A;obtain⟨a',b',rfl,L,N⟩:=A;exact .dfr e ⟨_,C,rfl,S,j⟩
   ·cases e
  ·cases e
 ·cases e
end
end
section
variable[Pi.Gl]
open Pi (PV T Hp Blk DF UM PE AN AT AB AX Ao)
def TD(X:Cx)(a:PEA)(b:PE):Prop:=VR X a.v b.v/\a.recovered=b.recovered
def UMR(X:Cx):Option UMA->Option UM->Prop
 |none,u=>u=none
 |some .ret,u=>u=some .ret
 |some (.pan ch),u=>∃ c,u=some (.pan c)/\L2 (TD X) ch c
def ROR(X:Cx):Option Nat->Option Nat->Prop
 |none,r=>r=none
 |some l,r=>∃ p m,X.π l=some (.blk p m)/\r=some p
structure FR (X:Cx) (fr:FrA) (fp:Pi.Fr):Prop where
 t:TR X fr.t fp.t
 nt:fp.nt=fr.nt
 big:fr.nt<1048575
 ds:L2 (DFR X) fr.ds fp.ds
 up:UMR X fr.up fp.up
 ro:ROR X fr.ro fp.ro
def Lw(X:Cx):ExA->Pi.Ex->Prop
 |.normal,e=>e=.normal
 |.exit i,e=>e=.exit i
 |.goto i,e=>e=.goto i
 |.ret,e=>e=.ret
 |.panic v,e=>∃ p,e=.panic p/\VR X v p
def L0(X:Cx):OutA->Pi.Out->Prop
 |.ret v,o=>∃ p,o=.ret p/\VR X v p
 |.pan ch,o=>∃ c,o=.pan c/\L2 (TD X) ch c
theorem UMR.mono{X Y:Cx}(u:Up X Y){a:Option UMA}{b:Option UM}(h:UMR X a b):UMR Y a b:=by
 cases a with
 |none=>exact h
 |some a=>cases a with
  |ret=>exact h
  |pan f=>obtain⟨c,d,e⟩:=h;exact⟨c,d,e.mono λ_ _ k=>⟨k.1.mono u,k.2⟩⟩
theorem ROR.mono{X Y:Cx}(u:Up X Y){a b:Option Nat}(h:ROR X a b):ROR Y a b:=by
 cases a with
 |none=>exact h
 |some l=>obtain⟨p,m,c,d⟩:=h;exact⟨p,m,u.pi _ _ c,d⟩
theorem FR.mono{X Y:Cx}(u:Up X Y){fr:FrA}{fp:Pi.Fr}(h:FR X fr fp):FR Y fr fp:=
 ⟨h.t.mono u,h.nt,h.big,h.ds.mono λ_ _ k=>k.mono u,h.up.mono u,h.ro.mono u⟩
def Cx.low(X:Cx)(b:Nat):Cx:={ X with π:=λi=>if i<b then X.π i else none }
theorem Cx.low_eq{X:Cx}{b i:Nat}(h:i<b):(X.low b).π i=X.π i:=if_pos h
theorem Cx.low_ge{X:Cx}{b i:Nat}(h:¬ i<b):(X.low b).π i=none:=if_neg h
theorem Up.low(X:Cx)(b:Nat):Up (X.low b) X:=by
 refine⟨λi a h=> ?_,λ_ _ _ _ h k=>⟨⟨_,k⟩,h⟩⟩;by_cases c:i<b
 ·rw[Cx.low_eq c]at h;exact h
 ·rw[Cx.low_ge c]at h;cases h
theorem Up.toLow{X:Cx}{h:H}{n b:Nat}(r:RH X h n)(c:n<=b):Up X (X.low b):=by
 refine⟨λi a h=> ?_,λ_ _ _ _ h k=>⟨⟨_,k⟩,h⟩⟩;rw[Cx.low_eq (ci (r.dom _ _ h) c)];exact h
theorem Up.lowLe{X:Cx}{b c:Nat}(d:b<=c):Up (X.low b) (X.low c):=by
 refine⟨λi a h=> ?_,λ_ _ _ _ h k=>⟨⟨_,k⟩,h⟩⟩;by_cases hi:i<b
 ·rw[Cx.low_eq hi]at h;rw[Cx.low_eq (by omega)];exact h
 ·rw[Cx.low_ge hi]at h;cases h
structure Ext (b bP:Nat) (X:Cx) (h:H) (Y:Cx) (h':H):Prop where
 up:Up (X.low b) Y
 pin:∀ j,j<b->X.π j=none->Y.π j=none
 hpn:∀ q,q<bP->X.h.get q=none->Y.h.get q=none
 nx:X.h.nx<=Y.h.nx
 lk:∀ j c,h.get j=some c->c.locked=true->h'.get j=some c
 lps:∀ q st pe nt t ps asg body d,X.h.get q=some (.lp st pe nt t ps asg body d) -> ∃ st' pe',Y.h.get q=some (.lp st' pe' nt t ps asg body d)
theorem Ext.refl(b bP:Nat)(X:Cx)(h:H):Ext b bP X h X h:=⟨Up.low X b,λ_ _ h=>h,λ_ _ h=>h,ac _,λ_ _ h _=>h,λ_ c a _ _ _ _ _ _ h=>⟨c,a,h⟩⟩
theorem Ext.trans{b bP:Nat}{X Y Z:Cx}{h h' h'':H}(a:Ext b bP X h Y h')(c:Ext b bP Y h' Z h''):Ext b bP X h Z h'' where
 up:=by
  have s:Up (X.low b) (Y.low b):=by
   refine⟨λi x hi=> ?_,a.up.rows⟩;by_cases f:i<b
   ·rw[Cx.low_eq f];exact a.up.pi _ _ hi
   ·rw[Cx.low_ge f]at hi;cases hi
  exact s.trans c.up
 pin:=λj g k=>c.pin j g (a.pin j g k)
 hpn:=λq m k=>c.hpn q m (a.hpn q m k)
 nx:=ay a.nx c.nx
 lk:=λj x k l=>c.lk j x (a.lk j x k l) l
 lps:=λq y u nt t w n e d k=>by
  obtain⟨r,p,o⟩:=a.lps _ _ _ _ _ _ _ _ _ k;exact c.lps _ _ _ _ _ _ _ _ _ o
theorem Ext.le{b c bP d:Nat}(e:b<=c)(g:bP<=d){X Y:Cx}{h h':H}(a:Ext c d X h Y h'):Ext b bP X h Y h':=
 ⟨(Up.lowLe e).trans a.up,λj f k=>a.pin j (by omega) k,λq i k=>a.hpn q (by omega) k,a.nx,a.lk,a.lps⟩
theorem St.ext{b bP id idP:Nat}{X Y:Cx}{h h':H}(s:St X h id idP Y h')(g:b<=id)(l:bP<=idP):Ext b bP X h Y h':=
 ⟨(Up.low X b).trans s.up,λj i k=>s.pin j (by omega) k,λq m k=>s.hpn q (by omega) k,Nat.le_of_eq s.nx.symm,s.lk,λq f e nt t n c a d k=>⟨f,e,s.lps _ _ _ _ _ _ _ _ _ k⟩⟩
theorem Ext.full{b bP n:Nat}{X Y:Cx}{h h':H}(a:Ext b bP X h Y h')(r:RH X h n)(c:n<=b):Up X Y:=(Up.toLow r c).trans a.up
def domX(hh:Hp)(Q b:Nat->Prop):(l:List (Bool×Ty))->AP l->List PV->Prop
 |[],_,ps=>ps=[]
 |[p],x,ps=>∃ a,ps=[a]/\EP p.1 (DX hh Q b p.2) x a
 |p::q::r,x,ps=>∃ a t,ps=a::t/\EP p.1 (DX hh Q b p.2) x.1 a/\domX hh Q b (q::r) x.2 t
def Df:(l:List (Bool×Ty))->AP l->List PV->Prop
 |[],_,ps=>ps=[]
 |[p],x,ps=>∃ a,ps=[a]/\EP p.1 (DP p.2) x a
 |p::q::r,x,ps=>∃ a t,ps=a::t/\EP p.1 (DP p.2) x.1 a/\Df (q::r) x.2 t
section
variable{X:Cx}{h:H}{n id idP:Nat}{β:Type}{x:β}{P:Program}
theorem Bq(r:RH X h n){Q:Nat->Prop}(g:∀ pid,X.Q pid->Q pid):∀ {l:List (Bool×Ty)} {vs:List V} {c:List PV} {K:AP l->Option β},(∀ id pid m,id∈DK vs->X.π id=some (.blk pid m)->Q pid)->VRL X vs c->Bu h l vs K=some x -> ∃ y,K y=some x/\domX X.h Q X.Q l y c
 |[],vs,c,K,hq,hv,e=>by
  unfold Bu at e;split at e
  ·exact⟨(),e,hv.nil_inv⟩
  ·cases e
 |[p],vs,c,K,hq,hv,e=>by
  unfold Bu at e;split at e
  ·rename_i v;obtain⟨a,i,rfl,d,f⟩:=hv.cons_inv;obtain⟨y,e1,k⟩:=GJ (Q:=Q) r (λid pid m hi b=>hq id pid m (by simpa[DK]using hi) b) g d e;exact⟨y,e1,a,by rw[f.nil_inv],k⟩
  ·cases e
 |p::q::rr,vs,c,K,hq,hv,e=>by
  unfold Bu at e;split at e
  ·rename_i v o;obtain⟨a,i,rfl,d,f⟩:=hv.cons_inv;obtain⟨y,e1,k⟩:=GJ (Q:=Q) r (λid pid m hi b=>hq id pid m (by simp[DK,hi]) b) g d e
   obtain⟨z,e2,j⟩:=Bq r g (l:=q::rr) (λid pid m hi b=>hq id pid m (by
    simp only[DK,List.flatMap_cons,ao]at hi ⊢;exact .inr hi) b) f e1
   exact⟨(y,z),e2,a,i,rfl,k,j⟩
  ·cases e
theorem H7{p:Bool×Ty}{l:List (Bool×Ty)}(h:Cn (p::l)=true):p.2.depth<=4/\(p.1=true\/p.2.leaf=true)/\Cn l=true:=by
 simp only[Cn,bu,ai,Bool.or_eq_true]at h ⊢;exact⟨aq h.1.1,h.1.2,h.2⟩
theorem D6{hh:Hp}{Q w:Nat->Prop}(f:∀ i,w i->Q i):∀ {l:List (Bool×Ty)} {y:AP l} {e:List PV},Cn l=true->domX hh Q w l y e -> ∃ x lP,Ao hh e=some (x,lP)/\Df l y x/\Met hh Q lP
 |[],y,e,k,h=>by rw[show e=[]from h];exact⟨[],[],rfl,rfl,.nil⟩
 |[p],y,e,k,⟨a,m,n⟩=>by
  subst m;have g:=(H7 k).1;obtain⟨q,c,o,s,u⟩:=Pn (d:=Pi.AU) f n (by show _<=12;omega);exact⟨[q],c++[],by simp only[Ao,o],⟨q,rfl,s⟩,u.append .nil⟩
 |p::q::r,y,e,k,⟨a,t,m,n,A⟩=>by
  subst m;have g:=H7 k;obtain⟨b,c,o,s,u⟩:=Pn (d:=Pi.AU) f n (by show _<=12;omega);obtain⟨z,j,B,C,D⟩:=D6 f (l:=q::r) g.2.2 A;exact⟨b::z,c++j,by rw[Ao,o,B],⟨b,z,rfl,s,C⟩,u.append D⟩
def Hi(hh:Hp):(l:List (Bool×Ty))->AP l->PV->Prop
 |[p],y,r=>EP p.1 (DX hh (λ_=>True) (λ_=>True) p.2) y r
 |l,y,r=>∃ rs,r=.tup rs/\domX hh (λ_=>True) (λ_=>True) l y rs
def Qy:(l:List (Bool×Ty))->AP l->PV->Prop
 |[p],y,r=>EP p.1 (DP p.2) y r
 |l,y,r=>∃ rs,r=.tup rs/\Df l y rs
theorem DP.flat:∀ {c:Ty} {y:c.den} {h:List PV},c.hasSl=false->DP c y h->Pi.BJ h=true
 |.int _,_,_,_,e=>by subst e;rfl
 |.bool,_,_,_,e=>by subst e;rfl
 |.str,_,_,_,e=>by subst e;rfl
 |.unit,_,_,_,e=>by subst e;rfl
 |.pair a b,_,_,hs,⟨p,q,e,f,g⟩=>by
  subst e;simp only[Ty.hasSl,am]at hs;have d:=DP.flat hs.1 f;have i:=DP.flat hs.2 g;clear f g
  induction p with
  |nil=>exact i
  |cons a p j=>
   simp only[Pi.BJ,ai]at d;simp only[List.cons_append,Pi.BJ,d.1,cr];exact j d.2
 |.sl _ _,_,_,hs,_=>by cases hs
theorem EP.flat{g:Bool}{c:Ty}{y:c.den}{e:PV}(hs:c.hasSl=false)(h:EP g (DP c) y e):Pi.flat e=true:=by
 cases g with
 |true=>obtain⟨cs,rfl,h⟩:=h;exact DP.flat hs h
 |false=>
  have:=DP.flat hs (show DP c y [e]from h);simpa[Pi.BJ]using this
theorem Gu:∀ {l:List (Bool×Ty)} {y:AP l} {e:List PV},B1 l=false->Df l y e->Pi.BJ e=true
 |[],_,_,_,h=>by rw[show _=[]from h];rfl
 |[p],_,_,hs,⟨a,b,c⟩=>by
  subst b;have:p.2.hasSl=false:=by simpa[B1]using hs
  simp[Pi.BJ,EP.flat this c]
 |p::q::r,_,_,hs,⟨a,t,b,c,f⟩=>by
  subst b;have d:p.2.hasSl=false/\B1 (q::r)=false:=by simpa[B1]using hs
  simp only[Pi.BJ,EP.flat d.1 c,cr];exact Gu d.2 f
theorem JQ{l:List (Bool×Ty)}{y:AP l}{r:PV}(hs:B1 l=false)(h:Qy l y r):Pi.flat r=true:=by
 match l,y,h with
 |[],y,⟨rs,a,b⟩=>subst a;exact Gu hs b
 |[p],y,h=>exact EP.flat (by simpa[B1]using hs) h
 |p::q::rr,y,⟨rs,a,b⟩=>subst a;exact Gu hs b
theorem Du:∀ {l:List (Bool×Ty)} {y:AP l} {d:List PV},Df l y d->VRL X (EU l y) d
 |[],_,_,h=>by rw[show _=[]from h];exact .nil
 |[p],_,_,⟨a,b,c⟩=>by subst b;exact .cons (DG c) .nil
 |p::q::r,_,_,⟨a,t,b,c,e⟩=>by subst b;exact .cons (DG c) (Du e)
theorem Gj{l:List (Bool×Ty)}{y:AP l}{r:PV}(h:Qy l y r):VR X (P9 l y) r:=by
 match l,y,h with
 |[],y,⟨rs,d,e⟩=>
  subst d;show VR X (.tup []) (.tup rs);have i:rs=[]:=e;subst i;simp only[VR];exact⟨[],rfl,.nil⟩
 |[(true,c)],y,h=>exact DG (g:=true) h
 |[(false,.int k)],y,h=>exact DG (g:=false) (c:=.int k) h
 |[(false,.bool)],y,h=>exact DG (g:=false) (c:=.bool) h
 |[(false,.str)],y,h=>exact DG (g:=false) (c:=.str) h
 |[(false,.unit)],y,h=>exact DG (g:=false) (c:=.unit) h
 |[(false,.pair a b)],y,h=>exact DG (g:=false) (c:=.pair a b) h
 |[(false,.sl g c)],y,h=>
  show VR X (.lf false g c y) r;obtain⟨p,j,d⟩:=(show DP (.sl g c) y [r]from h);have:r=p:=by simpa using j
  subst this;simp only[VR];rcases d with d|⟨f,es,d,e⟩
  ·exact .inl d
  ·exact .inr (.inl ⟨f,es,d,(λh=>by cases h),e⟩)
 |p::q::rr,y,⟨rs,d,e⟩=>
  subst d
  have m:P9 (p::q::rr) y=.tup (EU (p::q::rr) y):=by
   obtain⟨gg,c⟩:=p;cases gg<;>cases c<;>rfl
  rw[m];simp only[VR];exact⟨rs,rfl,Du e⟩
theorem IN:∀ {f:PV->Option (PV×List Nat)} {d:List PV} {k:Nat} {c:List PV} {l:List Nat},AB f d=some (c,l) -> ∃ l',AB f (d.take k)=some (c.take k,l')
 |f,[],k,c,l,e=>by cases e;exact⟨[],by simp[AB]⟩
 |f,p::d,0,c,l,e=>⟨[],by simp[AB]⟩
 |f,p::d,k+1,c,l,e=>by
  simp only[AB]at e;split at e
  ·rename_i q a h b e1 e2;cases e;obtain⟨l',g⟩:=IN (k:=k) e2;exact⟨a++l',by simp[AB,e1,g]⟩
  ·cases e
theorem Gi{hh:Hp}:∀ {a:List PV},Ao hh a=AB (AX hh Pi.AU) a
 |[]=>rfl
 |p::a=>by
  rw[Ao,AB,Gi]
theorem RH.flag(r:RH X h n)(f:n<=1048575){a:List Nat}{h':H}(d:Kn X a)(e:B8 h a=some h'):∃ Y:Cx,Y.π=X.π/\Y.O=X.O/\Y.h=X.h/\RH Y h' n /\ ∀ id idP,St X h id idP Y h':=by
 obtain⟨Y,g,i,j,o,_⟩:=r.frozen (lP:=[]) f d e rfl (λq=>by simp) (λq b=>by cases b) 0 0
 have:Y=X:=by
  cases Y;cases X;simp only at g i j;subst g;subst i;subst j;rfl
 subst this;refine⟨Y,rfl,rfl,rfl,o,λid idP=> ?_⟩;obtain⟨c,k,l,m,s,p⟩:=r.frozen (lP:=[]) f d e rfl (λq=>by simp) (λq b=>by cases b) id idP
 have:c=Y:=by
  cases c;cases Y;simp only at k l m;subst k;subst l;subst m;rfl
 subst this;exact p
theorem RH.borrow(r:RH X h n){bP:Blk}{c:Hp}(A:idP<X.h.nx)(e:X.h.new idP bP=some c)(C:∀ z x nt t y j f d,bP ≠ .lp z x nt t y j f d):∃ Y:Cx,Y.π=X.π/\Y.O=X.O/\Y.h=c/\RH Y h n /\ ∀ id,St X h id idP Y h:=by
 obtain⟨l,g,s⟩:=Hp.get_new e
 let Y:Cx:={ π:=X.π,h:=c,O:=X.O }
 have w:∀ q,X.O q->q≠idP:=λq a hh=>by subst hh;exact r.ob _ a l
 have u:Up X Y:=⟨λ_ _ h=>h,λq es ex fz a o=>⟨⟨fz,by
  show c.get q=_
  rw[g,if_neg (by intro hh;subst hh;rw[l]at o;cases o),o]⟩,a⟩⟩
 refine⟨Y,rfl,rfl,rfl,⟨λi b hi=>(r.blk _ _ hi).keep u λq m a k=>⟨?_,k⟩,r.inj,r.dom,λq a=> ?_,λq a=> ?_⟩,λid=>⟨u,s,λ_ _ h=>h,λq a B=> ?_,λ_ _ h _=>h,λq z x nt t y j f d a=> ?_⟩⟩
 ·show c.get q=_;rw[g,if_neg (w _ k)]
 ·show c.get q=none;have p:X.h.nx<=q:=by rw[<- s];exact a
  rw[g,if_neg (by omega)];exact r.fresh _ p
 ·show c.get q≠none;rw[g,if_neg (w _ a)];exact r.ob _ a
 ·show c.get q=none;rw[g,if_neg a];exact B
 ·show c.get q=_;rw[g,if_neg (by intro hh;subst hh;rw[l]at a;cases a)];exact a
theorem NR{m:Hp}{l:List (Bool×Ty)}{y:AP l}{w:PV}(i:Cn l=true)(z:Hi m l y w):∃ q c,AX m Pi.AU w=some (q,c)/\Qy l y q:=by
 have o:∀ {rs:List PV},domX m (λ_=>True) (λ_=>True) l y rs -> ∃ e c,AX m Pi.AU (.tup rs)=some (.tup e,c)/\Df l y e:=by
  intro rs A
  have:∀ {l:List (Bool×Ty)} {y:AP l} {rs:List PV},Cn l=true->domX m (λ_=>True) (λ_=>True) l y rs -> ∃ e c,AB (AX m 11) rs=some (e,c)/\Df l y e:=by
   intro l
   induction l with
   |nil=>intro y rs _ h;rw[show rs=[]from h];exact⟨[],[],rfl,rfl⟩
   |cons p l B=>
    intro y rs i h;cases l with
    |nil=>
     obtain⟨a,rfl,j⟩:=h
     have k:p.2.depth<=4:=by
      have:af p.2.depth 4=true:=by simp only[Cn,bu,cz,bZ,ai]at i;exact i.1
      exact aq this
     obtain⟨q,c,f,g,u⟩:=Pn (d:=11) (λ_ h=>h) j (by omega);exact⟨[q],c++[],by simp only[AB,f],q,rfl,g⟩
    |cons q r=>
     obtain⟨a,t,rfl,j,x⟩:=h
     have k:p.2.depth<=4/\Cn (q::r)=true:=by
      simp only[Cn,bu,ai]at i ⊢;exact⟨aq i.1.1,i.2⟩
     obtain⟨b,c,f,g,u⟩:=Pn (d:=11) (λ_ h=>h) j (by omega);obtain⟨e,n,C,D⟩:=B k.2 x;exact⟨b::e,c++n,by rw[AB,f,C],b,e,rfl,g,D⟩
  obtain⟨e,c,f,g⟩:=this i A;exact⟨e,c,by rw[show Pi.AU=11+1 from rfl,KV,f];rfl,g⟩
 match l,y,z with
 |[],y,⟨rs,s,j⟩=>subst s;obtain⟨e,c,f,g⟩:=o j;exact⟨_,c,f,e,rfl,g⟩
 |[p],y,h=>
  have k:p.2.depth<=4:=by
   have:af p.2.depth 4=true:=by simp only[Cn,bu,cz,bZ,ai]at i;exact i.1
   exact aq this
  obtain⟨q,c,f,g,u⟩:=Pn (d:=Pi.AU) (λ_ h=>h) h (by show _<=12;omega);exact⟨q,c,f,g⟩
 |p::q::rr,y,⟨rs,s,j⟩=>subst s;obtain⟨e,c,f,g⟩:=o j;exact⟨_,c,f,e,rfl,g⟩
theorem EL{f:PV->Option (PV×List Nat)}:∀ {a:List PV} {b:List PV} {l:List Nat},AB f a=some (b,l)->b.length=a.length
 |[],b,l,h=>by cases h;rfl
 |p::a,b,l,h=>by
  simp only[AB]at h;split at h
  ·rename_i e2;cases h;simp[EL e2]
  ·cases h
theorem CH{hh:Hp}:∀ {d:Nat} {v q:PV} {l:List Nat},AX hh d v=some (q,l)->q.cells.length=v.cells.length
 |0,v,q,l,e=>by cases e
 |d+1,v,q,l,e=>by
  cases v with
  |agg cs=>
   rw[EQ]at e;obtain⟨⟨x,m⟩,g,c⟩:=Pi.AA e;cases c;exact EL g
  |tup cs=>
   rw[KV]at e;obtain⟨⟨x,m⟩,g,c⟩:=Pi.AA e;cases c;rfl
  |ifc t v=>
   rw[KS]at e;obtain⟨⟨x,m⟩,g,c⟩:=Pi.AA e;cases c;rfl
  |fn f a b=>
   rw[Mb]at e;split at e
   ·cases e;rfl
   ·cases e
  |own id off len=>
   simp only[AX]at e;split at e
   ·replace e:=AK e;obtain⟨_,e⟩:=e;obtain⟨⟨x,m⟩,g,c⟩:=Pi.AA e;cases c;rfl
   ·cases e
  |ptr id off=>
   simp only[AX]at e;split at e
   ·replace e:=AK e;obtain⟨_,e⟩:=e;obtain⟨⟨x,m⟩,g,c⟩:=Pi.AA e;cases c;rfl
   ·cases e
  |ept id i off=>
   simp only[AX]at e;split at e
   ·split at e
    ·replace e:=AK e;obtain⟨_,e⟩:=e;obtain⟨⟨x,m⟩,g,c⟩:=Pi.AA e;cases c;rfl
    ·cases e
   ·cases e
  |yl|mp=>cases e
  |_=>cases e;rfl
theorem Db(r:RH X h n)(hn:n<=1048575)(U:X.h.get idP=none)(hlt:idP<X.h.nx){l:List (Bool×Ty)}{y:AP l}{hR:Hp}{rP:PV}{z lP:List Nat}{h':H}(S:Cn l=true)(hr:Hi hR l y rP)
  (hm:MetA X z lP) (hk:Kn X z) (J:(bif B1 l then B8 h z else some h)=some h') (id:Nat) :
  ∃ q f Y,Pi.Al idP lP X.h hR rP=some (q,f)/\FQ X h n id idP h' f Y/\VR Y (P9 l y) q/\((LV l=false \/ ∀ j o len,rP ≠ .own j o len)->f.get idP=none):=by
 have same:∃ Y,FQ X h n id idP h' X.h Y:=by
  cases hc:B1 l with
  |true=>
   rw[hc]at J;obtain⟨Y,y1,W,K,y4,y5⟩:=r.flag hn hk J;exact⟨Y,K,y4,y5 _ _⟩
  |false=>
   rw[hc]at J;cases J;exact⟨X,rfl,r,St.refl _ _ _ _⟩
 have u:B1 l=true -> ∃ f Y,Pi.freeze X.h lP=some f/\FQ X h n id idP h' f Y:=λhc=>by
  rw[hc]at J;obtain⟨f,Y,A,y1,W,K⟩:=r.mark hn hm hk J id idP;exact⟨f,Y,A,K⟩
 obtain⟨q,pids,P,x⟩:=NR S hr;unfold Pi.Al;split
 ·rename_i len G ex hS;split at hS
  ·rename_i j D;split at hS
   ·rename_i es ex' hj;split at hS
    ·rename_i qs' l2 F;replace hS:=BC hS;obtain⟨_,hS⟩:=hS;cases hS
     have L:∃ g c,l=[(false,.sl g c)]:=by
      match l,y,hr with
      |[],y,⟨rs,w,h2⟩=>cases w
      |p::q::rr,y,⟨rs,w,h2⟩=>cases w
      |[(true,c)],y,⟨cs,w,h2⟩=>cases w
      |[(false,.sl g c)],y,_=>exact⟨g,c,rfl⟩
      |[(false,.int _)],y,h=>cases(show[PV.own j 0 len]=_ from h)
      |[(false,.bool)],y,h=>cases(show[PV.own j 0 len]=_ from h)
      |[(false,.str)],y,h=>cases(show[PV.own j 0 len]=_ from h)
      |[(false,.unit)],y,h=>cases(show[PV.own j 0 len]=_ from h)
      |[(false,.pair a b)],y,h=>simp[Cn,Ty.leaf]at S
     obtain⟨g,c,rfl⟩:=L;have hc:B1 [(false,Ty.sl g c)]=true:=rfl;have hr':DX hR (λ_=>True) (λ_=>True) (.sl g c) y [.own j 0 len]:=hr;obtain⟨p0,Di,hrr⟩:=hr';have O:PV.own j 0 len=p0:=by simpa using Di
     subst O;rcases hrr with⟨w,_⟩|⟨_,_,w,_⟩|⟨pid,off,len2,es2,ex2,fz2,w,_,h3,h4,h8,h5⟩
     ·cases w
     ·cases w
     ·cases w;rw[hj]at h3;cases h3
      have N:c.depth+1<=4:=by
       have:af (Ty.sl g c).depth 4=true:=by simp only[Cn,bu,cz,bZ,ai]at S;exact S.1
       exact aq this
      obtain⟨qs2,ids2,k1,k2,k3⟩:=JO (λy e hE=>La (d:=Pi.AU) (λhh' d' N=>Ev hh' d' N) (by show _<=12;omega) hE) h5;rw[Gi]at F;obtain⟨l',k4⟩:=IN (k:=len) F;rw[bS]at k1;rw[k1]at k4;cases k4;have C:G.length=es.length:=EL F
      have hok:Pi.Cd c.wd G=true:=by
       cases es with
       |nil=>cases G with
        |nil=>rfl
        |cons=>simp at C
       |cons e0 t=>
        simp only[AB]at F;split at F
        ·rename_i q0 a0 qs0 b0 A I;cases F;simp only[Pi.Cd]at h8 ⊢;rw[CH A];exact h8
        ·cases F
      have M:∀ {s:Hp} {Y:Cx},FQ X h n id idP h' s Y->(s.get idP=none) -> ∃ q f Y,((s.new idP (.row G ex false)).map λh=>(PV.own idP 0 len,h))=some (q,f)/\FQ X h n id idP h' f Y/\VR Y (P9 [(false,.sl g c)] y) q/\((LV [(false,.sl g c)]=false \/ ∀ j' o D,PV.own j 0 len ≠ .own j' o D)->f.get idP=none):=by
       intro s Y ⟨y1,W,K⟩ hnone;obtain⟨f,e1⟩:=F1 s idP (.row G ex false) hnone;subst y1;obtain⟨Z,z1,z2,z3,z4,z5⟩:=W.borrow (by rw[K.nx];exact hlt) e1 (by intros;simp)
       refine⟨_,f,Z,by rw[e1];rfl,⟨z3,z4,K.trans (z5 id)⟩,?_,λhh=>by
        rcases hh with hh|hh
        ·cases hh
        ·exact absurd rfl (hh _ _ _)⟩
       show VR Z (.lf false g c y) (.own idP 0 len);simp only[VR];refine .inr (.inr ⟨idP,0,len,G,ex,false,rfl,by simp,λhO=> ?_,by rw[z3,(Hp.get_new e1).2.1,if_pos rfl],by rw[C];exact h4,hok,by rw[bS];exact EPL.up k2⟩);rw[z2]at hO;exact W.ob _ hO hnone
      cases E:Pi.BJ G with
      |true=>
       obtain⟨Y,B⟩:=same;simp only[cond_true];exact M B U
      |false=>
       obtain⟨s,Y,A,B⟩:=u hc;simp only[cond_false,A];refine M B ?_;rw[<- B.1];obtain⟨hP3,I,f3,f4⟩:=Bg (Q:=λi=>X.Q i \/ ∃ id∈z,∃ m,X.π id=some (.blk i m)) hm;rw[A]at I;cases I;rw[B.1,f4,U];split<;>rfl
    ·cases hS
   ·cases hS
  ·cases hS
 ·
  simp only[P];cases E:Pi.flat q with
  |true=>
   obtain⟨Y,B⟩:=same;exact⟨q,X.h,Y,rfl,B,Gj x,λ_=>U⟩
  |false=>
   have hc:B1 l=true:=by
    cases hc:B1 l with
    |true=>rfl
    |false=>rw[JQ hc x]at E;cases E
   obtain⟨s,Y,A,B⟩:=u hc;refine⟨q,s,Y,by simp[A],B,Gj x,λ_=> ?_⟩;obtain⟨hP3,I,f3,f4⟩:=Bg (Q:=λi=>X.Q i \/ ∃ id∈z,∃ m,X.π id=some (.blk i m)) hm;rw[A]at I;cases I;rw[f4,U];split<;>rfl
def Ob(a:Hp)(g:Bool)(c:Ty)(y:List c.den)(r:PV):Prop:=
 (y=[]/\(r=.nils\/r=.lst true [])) \/ ∃ j es,r=.own j 0 es.length/\a.get j=some (.row es false false)/\0<es.length/\L2 (EP g (DR a (λq=>q≠j) c)) y es
theorem St.nw{X Y:Cx}{h h':H}{n id idP:Nat}(s:St X h id (idP+1) Y h')(w:Nw X n id idP)(a:Y.π id=none)(b:Y.h.get idP=none):Nw Y n id idP:=⟨a,w.lt,w.big,b,by rw[s.nx];exact w.hlt⟩
theorem Jz(r:RH X h n)(w:Nw X n id idP){g:Bool}{c:Ty}{y:List c.den}{L:Hp}{rP:PV}{o lP:List Nat}{h':H}(hd:c.depth<=3)(P:Ob L g c y rP)
  (hm:MetA X o lP) (hk:Kn X o) (A:(bif c.hasSl then B8 h o else some h)=some h') :
  ∃ q b Y,Pi.Al idP lP X.h L rP=some (q,b)/\FQ X h n id idP (AG h' id (.row g c y false false false)) b Y/\VR Y (.ow id) q/\(b.get idP=none\/Pi.AE q=[idP]):=by
 have same:∃ Y,FQ X h n id idP h' X.h Y/\Y.π=X.π:=by
  cases hc:c.hasSl with
  |true=>
   rw[hc]at A;obtain⟨Y,k,B,p,y4,y5⟩:=r.flag w.big hk A;exact⟨Y,⟨p,y4,y5 _ _⟩,k⟩
  |false=>
   rw[hc]at A;cases A;exact⟨X,⟨rfl,r,St.refl _ _ _ _⟩,rfl⟩
 rcases P with⟨rfl,P⟩|⟨j,es,rfl,hj,hpos,hl⟩
 ·obtain⟨Y,⟨k,B,p⟩,z⟩:=same;have K:Nw Y n id idP:=⟨by rw[z];exact w.pi,w.lt,w.big,by rw[k];exact w.hp,by rw[k];exact w.hlt⟩;rcases P with rfl|rfl
  ·obtain⟨Z,⟨G,I,J⟩,C⟩:=KG B K (g:=g) (c:=c) (fz:=false);exact⟨.nils,X.h,Z,rfl,⟨by rw[G,k],I,p.trans J⟩,C,.inl w.hp⟩
  ·obtain⟨Z,⟨G,I,J⟩,C⟩:=Jw B K (g:=g) (c:=c) (fz:=false);exact⟨.lst true [],X.h,Z,rfl,⟨by rw[G,k],I,p.trans J⟩,C,.inl w.hp⟩
 ·obtain⟨x,F,S,k2,k3⟩:=JO (λy e hE=>La (d:=Pi.AU) (λO d' N=>Ev O d' N) (by show _<=12;omega) hE) hl
  have s:F.any (aa j)=false:=by
   rw[List.any_eq_false];intro i hi M;have:=al M;subst this;exact(k3 _ hi).1 rfl
  have t:x.length=es.length:=EL S
  have u:c.hasSl=false->Pi.BJ x=true:=λhc=>by
   clear t S k3 s hl
   induction k2 with
   |nil=>rfl
   |cons a _ ih=>simp only[Pi.BJ,EP.flat hc a,cr];exact ih
  have M:Pi.Al idP lP X.h L (.own j 0 es.length)=(match (bif Pi.BJ x then some X.h else Pi.freeze X.h lP)with
   |some h=>(h.new idP (.row x false false)).map λh=>(.own idP 0 es.length,h)
   |none=>none):=by
   unfold Pi.Al;simp only[hj,Gi,S,s,cond_false];rfl
  have D:∀ {f:Hp} {Y:Cx},FQ X h n id idP h' f Y->Y.π id=none->f.get idP=none -> ∃ q b Y,((f.new idP (.row x false false)).map λh=>(PV.own idP 0 es.length,h))=some (q,b)/\FQ X h n id idP (AG h' id (.row g c y false false false)) b Y/\VR Y (.ow id) q/\(b.get idP=none\/Pi.AE q=[idP]):=by
   intro f Y ⟨k,B,p⟩ hpi hnone;have K:Nw Y n id idP:=⟨hpi,w.lt,w.big,by rw[k];exact hnone,by rw[p.nx];exact w.hlt⟩;obtain⟨b,Z,e1,⟨G,I,J⟩,C,_⟩:=BY B K (g:=g) (c:=c) (l:=y) (es:=x) (ex:=false) (EPL.up k2) (λ_=>by omega);rw[k]at e1;rw[t]at C;exact⟨_,b,Z,by rw[e1];rfl,⟨G,I,p.trans J⟩,C,.inr rfl⟩
  rw[M];cases E:Pi.BJ x with
  |true=>
   obtain⟨Y,hY,z⟩:=same;simp only[cond_true];exact D hY (by rw[z];exact w.pi) w.hp
  |false=>
   have hc:c.hasSl=true:=by
    cases hc:c.hasSl with
    |true=>rfl
    |false=>rw[u hc]at E;cases E
   rw[hc]at A;obtain⟨f,Y,U,k,B,p⟩:=r.mark w.big hm hk A id idP
   have hz:f.get idP=none:=by
    obtain⟨hP3,W,f3,f4⟩:=Bg (Q:=λi=>X.Q i \/ ∃ id∈o,∃ m,X.π id=some (.blk i m)) hm;rw[U]at W;cases W;rw[f4,w.hp];split<;>rfl
   simp only[cond_false,U];refine D p ?_ hz;rw[k];exact w.pi
end
end
section
variable[Pi.Gl]
open Pi (PV T Hp Blk DF UM PE AN AT AB AX Ao)
def Ad(a:D8)(f:FuncId):Bool:=(a f).isNone
def PD(P:Program)(a:D8)(b:Pi.Tg)(up:Option UM)(args:List PV)(h:Hp)(r:Pi.Out×Option UM×Hp):Prop:=
 ∃ N,∀ F n,N<=F->N<=n->Pi.B3 P (Ad a) F n b up args h=some r
def FnOK(P:Program)(a:D8)(f:FuncId)(sg:Sg):Prop:=∀ x y,sg.fn x=some y -> ∀ b,Df sg.dom x b -> ∃ r up c,PD P a (.fn f) none b Di (.ret r,up,c)/\Hi c sg.cod y r
def RowOK(P:Program)(a:D8)(f:FuncId)(dom:List (Bool×Ty))(g:Bool)(c:Ty)(e:AP dom->Option (List c.den)):Prop:=∀ x y,e x=some y -> ∀ b,Df dom x b -> ∃ r up d,PD P a (.fn f) none b Di (.ret r,up,d)/\Ob d g c y r
def L1:PV->PV
 |.agg cs=>.view cs
 |v=>v
def Gp:List (Bool×Ty)->List PV->List PV
 |p::l,v::vs=>(bif Ry p then L1 v else v)::Gp l vs
 |_,vs=>vs
def FnP(P:Program)(a:D8)(f:FuncId)(sg:Sg):Prop:=∀ x y,sg.fn x=some y -> ∀ b,Df sg.dom x b -> ∃ r up c,PD P a (.fn f) none (Gp sg.dom b) Di (.ret r,up,c)/\Hi c sg.cod y r
def FnL(P:Program)(a:D8)(f:FuncId)(sg:Sg):Prop:=∀ x y,sg.fn x=some y -> ∀ b,Df sg.dom x b -> ∃ r up c,PD P a (.fn f) none b Di (.ret r,up,c)/\Hi c sg.cod y r /\ ∀ j o len,r ≠ .own j o len
structure TabOK (P:Program) (tab:D8):Prop where
 std:∀ f sg,ah f Cs=true->tab f=some (some sg)->FnOK P tab (RK f) sg
 row:∀ f dom g c fn,ah f Cr=true->tab (f+Cs)=some (some ⟨dom,[(false,.sl g c)],fn⟩)->RowOK P tab f dom g c fn
 ptr:∀ f sg,ah f Cr=true->tab (f+IT)=some (some sg)->FnP P tab f sg
 dat:∀ f sg,ah f Cr=true->tab (f+MW)=some (some sg)->FnL P tab f sg
theorem DA{a b:Nat}(h:ah a b=true):a<b:=aq h
theorem PP{a b:Nat}(h:a<b):ah a b=true:=Nat.ble_eq_true_of_le h
theorem RV{a b:Nat}(h:b<=a):ah a b=false:=by
 cases c:ah a b with
 |false=>rfl
 |true=>exact absurd (DA c) (Nat.not_lt.2 h)
theorem NM:Cs=Cr+Cr:=rfl
theorem Rs{f:Nat}(h:ah f Cr=true):RK f=f:=by unfold RK;rw[h];rfl
theorem Qn(o f:Nat):(bif ah (f+o) o then f+o else f+o-o)=f:=by
 rw[RV (aU _ _)];exact Nat.add_sub_cancel f o
theorem Rr(f:Nat):RK (f+Cr)=f:=Qn Cr f
theorem TabOK.get{P:Program}{a:D8}(T:TabOK P a){f:FuncId}{sg:Sg}(b:ah f Cr=true)(h:a f=some (some sg)):FnOK P a f sg:=by
 have:=T.std f sg (PP (ci (DA b) (by rw[NM];exact aU _ _))) h
 rwa [Rs b]at this
theorem TabOK.getD{P:Program}{a:D8}(T:TabOK P a){f:FuncId}{sg:Sg}(h:getD a f=some sg):FnOK P a f sg:=by
 unfold Sv.getD at h;replace h:=AK h;obtain⟨c,h⟩:=h;split at h
 ·rename_i r b;subst h;exact T.get c b
 ·split at h
  ·rename_i r b;subst h;have:=T.std _ sg (PP (by rw[NM];exact Nat.add_lt_add_right (DA c) _)) b
   rwa [Rr]at this
  ·cases h
theorem TabOK.getR{P:Program}{a:D8}(T:TabOK P a){f:FuncId}{dom:List (Bool×Ty)}{g:Bool}{c:Ty}{b:AP dom->Option (List c.den)}(h:getR a f=some ⟨dom,[(false,.sl g c)],b⟩):RowOK P a f dom g c b:=by
 unfold Sv.getR at h;replace h:=AK h;obtain⟨d,h⟩:=h;split at h
 ·rename_i r e;subst h;exact T.row _ _ _ _ _ d e
 ·cases h
theorem TabOK.getL{P:Program}{a:D8}(T:TabOK P a){f:FuncId}{sg:Sg}(h:getL a f=some sg):FnL P a f sg:=by
 unfold Sv.getL at h;replace h:=AK h;obtain⟨b,h⟩:=h;split at h
 ·rename_i r c;subst h;exact T.dat _ _ b c
 ·cases h
theorem TabOK.getP{P:Program}{a:D8}(T:TabOK P a){f:FuncId}{sg:Sg}(h:getP a f=some sg):FnP P a f sg:=by
 unfold Sv.getP at h;replace h:=AK h;obtain⟨b,h⟩:=h;split at h
 ·rename_i r c;subst h;exact T.ptr _ _ b c
 ·cases h
structure Run (b bP:Nat) (X:Cx) (h:H) (nx:Nat) (Y:Cx) (h':H) (nx':Nat) (hP':Hp):Prop where
 hp:Y.h=hP'
 rh:RH Y h' nx'
 big:nx'<=1048575
 le:nx<=nx'
 ext:Ext b bP X h Y h'
structure RecAOK (P:Program) (tab:D8) (rec:Hv):Prop where
 fn:∀ {β:Type} {x:β} {f up args h nx K},rec β (.fn f) up args h nx K=some x -> ∀ {X upP ps},RH X h nx->nx<=1048575->VRL X args ps->UMR X up upP ->
  ∃ o up' h' nx' Y oP upP' hP',K o up' h' nx'=some x/\PD P tab (.fn f) upP ps X.h (oP,upP',hP')/\Run nx X.h.nx X h nx Y h' nx' hP'/\L0 Y o oP/\UMR Y up' upP'
 yl:∀ {β:Type} {x:β} {l args h nx K},rec β (.yl l) none args h nx K=some x -> ∀ {X lP m ps},RH X h nx->nx<=1048575->X.π l=some (.blk lP m)->VRL X args ps ->
  ∃ o up' h' nx' Y oP upP' hP',K o up' h' nx'=some x/\PD P tab (.yl lP) none ps X.h (oP,upP',hP')/\Run nx X.h.nx X h nx Y h' nx' hP'/\L0 Y o oP/\UMR Y up' upP'
section
variable{P:Program}{tab:D8}{rec:Hv}{β:Type}{x:β}
theorem IH{X:Cx}{args:List V}{c:List PV}(n:VRL X args c):Kn X (DK args):=by
 intro i hi
 have:∀ {vs:List V} {c:List PV},VRL X vs c -> ∀ i∈FS vs,∃ a,X.π i=some a:=by
  intro vs
  induction vs with
  |nil=>intro c _ i hi;cases hi
  |cons v vs g=>
   intro c hv i hi;obtain⟨p,o,rfl,d,e⟩:=hv.cons_inv;cases v with
   |ow j=>
    rcases ae.1 hi with rfl|hi
    ·simp only[VR]at d;cases h:X.π i with
     |none=>rw[h]at d;exact d.elim
     |some a=>exact⟨a,rfl⟩
    ·exact g e i hi
   |own j a b=>
    rcases ae.1 hi with rfl|hi
    ·simp only[VR]at d;obtain⟨pid,m,l,_⟩:=d;exact⟨_,l⟩
    ·exact g e i hi
   |_=>exact g e i hi
 unfold DK at hi;obtain⟨v,hv,hi⟩:=List.mem_flatMap.1 hi
 have f:∀ {vs:List V} {c:List PV},VRL X vs c->v∈vs -> ∃ p,VR X v p:=by
  intro vs
  induction vs with
  |nil=>intro c _ hv;cases hv
  |cons u vs g=>
   intro c k hv;obtain⟨p,o,rfl,d,e⟩:=k.cons_inv;rcases ae.1 hv with rfl|hv
   ·exact⟨p,d⟩
   ·exact g e hv
 obtain⟨p,h⟩:=f n hv;exact this h.cells i hi
theorem C3:∀ {L:List Nat} {h a:Hp},Pi.freeze h L=some a -> ∀ x,(h.get x=none->a.get x=none)/\(h.get x≠none->a.get x≠none)
 |[],h,a,e,x=>by simp[Pi.freeze]at e;subst e;exact⟨λh=>h,λh=>h⟩
 |j::L,h,a,e,x=>by
  unfold Pi.freeze at e
  have step:∀ {b b0:Blk},h.get j=some b0->(match h.set j b with
    |some h=>Pi.freeze h L
    |none=>none)=some a->(h.get x=none->a.get x=none)/\(h.get x≠none->a.get x≠none):=by
   intro b b0 l e;obtain⟨n,i⟩:=BM h j b;rw[i]at e;obtain⟨m,k⟩:=C3 e x;have g:=(Hp.get_set i).1 x;by_cases d:x=j
   ·subst d;rw[if_pos rfl]at g;exact⟨λc=>(by rw[l]at c;cases c),λ_=>k (by rw[g];simp)⟩
   ·rw[if_neg d]at g;exact⟨λc=>m (by rw[g];exact c),λc=>k (by rw[g];exact c)⟩
  split at e
  ·rename_i cs fz f;exact step f e
  ·rename_i es ex fz f;exact step f e
  ·cases e
theorem J1{id:Nat}{l:List Nat}{h g a:Hp}{j q:PV}(d:h.get id=none)(e:Pi.Al id l h g j=some (q,a)):a.get id=none\/Pi.AE q=[id]:=by
 unfold Pi.Al at e;split at e
 ·split at e
  ·obtain⟨_,_,b⟩:=Pi.AA e;cases b;exact .inr rfl
  ·cases e
 ·split at e
  ·rename_i i _ _;cases c:Pi.flat i with
   |true=>rw[c]at e;simp only[cond_true]at e;cases e;exact .inl d
   |false=>
    rw[c]at e;simp only[cond_false]at e;obtain⟨k,f,b⟩:=Pi.AA e;cases b;exact .inl ((C3 f id).1 d)
  ·cases e
theorem HP{X:Cx}{h:H}{n id idP:Nat}(r:RH X h n)(w:Nw X n id idP){f:FuncId}{sg:Sg}(T:FnOK P tab f sg){args:List V}{B:List PV}{K:V->H->Option β}(u:VRL X args B)(e:DS h sg args K=some x) :
  ∃ v h' q a Y c lP i up g,K v h'=some x/\Ao X.h B=some (c,lP)/\PD P tab (.fn f) none c Di (.ret i,up,g)/\Pi.Al idP lP X.h g i=some (q,a)/\(∀ y∈lP,X.h.get y≠none)/\FQ X h n id idP h' a Y/\VR Y v q/\((LV sg.cod=false->a.get idP=none)/\(a.get idP=none\/Pi.AE q=[idP])):=by
 unfold DS at e;replace e:=BC e;obtain⟨A,e⟩:=e;simp only[am,az]at A;obtain⟨j,k⟩:=A
 let Q:Nat->Prop:=λpid=>X.Q pid \/ ∃ id∈DK args,∃ m,X.π id=some (.blk pid m)
 have O:=e;replace e:=Bq (Q:=Q) r (λ_ h=>.inl h) (λid pid m hi J=>.inr ⟨id,hi,m,J⟩) u e;obtain⟨y,e,o⟩:=e;replace e:=AD e;obtain⟨h',p,e⟩:=e;replace e:=E5 e;obtain⟨z,M,e⟩:=e;obtain⟨c,lP,s,l,b⟩:=D6 (λ_ h=>.inl h) j o;obtain⟨i,up,g,⟨N,F⟩,d⟩:=T y z M c l;have I:Kn X (DK args):=IH u;obtain⟨q,a,Y,t,C,D,E⟩:=Db r w.big w.hp w.hlt k d b I p id;exact⟨_,h',q,a,Y,c,lP,i,up,g,e,s,⟨N,F⟩,t,λy L=>(by obtain⟨_,es,ex,fz,G⟩:=b y L;rw[G];simp),C,D,λh=>E (.inl h),J1 w.hp t⟩
theorem Ks{X:Cx}{h:H}{n id idP:Nat}(r:RH X h n)(w:Nw X n id idP){f:FuncId}{sg:Sg}(T:FnL P tab f sg){args:List V}{B:List PV}{K:V->H->Option β}(u:VRL X args B)(e:DS h sg args K=some x) :
  ∃ v h' q a Y c lP i up g,K v h'=some x/\Ao X.h B=some (c,lP)/\PD P tab (.fn f) none c Di (.ret i,up,g)/\Pi.Al idP lP X.h g i=some (q,a)/\(∀ y∈lP,X.h.get y≠none)/\FQ X h n id idP h' a Y/\VR Y v q/\a.get idP=none:=by
 unfold DS at e;replace e:=BC e;obtain⟨A,e⟩:=e;simp only[am,az]at A;obtain⟨j,k⟩:=A
 let Q:Nat->Prop:=λpid=>X.Q pid \/ ∃ id∈DK args,∃ m,X.π id=some (.blk pid m)
 have S:=e;replace e:=Bq (Q:=Q) r (λ_ h=>.inl h) (λid pid m hi L=>.inr ⟨id,hi,m,L⟩) u e;obtain⟨y,e,o⟩:=e;replace e:=AD e;obtain⟨h',p,e⟩:=e;replace e:=E5 e;obtain⟨z,O,e⟩:=e;obtain⟨c,lP,t,l,b⟩:=D6 (λ_ h=>.inl h) j o;obtain⟨i,up,g,⟨N,G⟩,d,s⟩:=T y z O c l;have J:Kn X (DK args):=IH u;obtain⟨q,a,Y,C,D,E,F⟩:=Db r w.big w.hp w.hlt k d b J p id;exact⟨_,h',q,a,Y,c,lP,i,up,g,e,t,⟨N,G⟩,C,λy M=>(by obtain⟨_,es,ex,fz,I⟩:=b y M;rw[I];simp),D,E,F (.inr s)⟩
theorem HO{X:Cx}{h:H}{n id idP:Nat}(r:RH X h n)(w:Nw X n id idP){f:FuncId}{sg:Sg}(T:∀ dom g c l,sg=⟨dom,[(false,.sl g c)],l⟩->RowOK P tab f dom g c l){args:List V}{D:List PV}{K:V->H->Option β}(B:VRL X args D)(e:Kt h id sg args K=some x) :
  ∃ v h' q a Y d lP k up j,K v h'=some x/\Ao X.h D=some (d,lP)/\PD P tab (.fn f) none d Di (.ret k,up,j)/\Pi.Al idP lP X.h j k=some (q,a)/\(∀ y∈lP,X.h.get y≠none)/\FQ X h n id idP h' a Y/\VR Y v q/\(a.get idP=none\/Pi.AE q=[idP]):=by
 unfold Kt at e;split at e
 ·rename_i dom g c l;replace e:=BC e;obtain⟨C,e⟩:=e;simp only[am,az]at C;obtain⟨o,p⟩:=C
  let Q:Nat->Prop:=λpid=>X.Q pid \/ ∃ id∈DK args,∃ m,X.π id=some (.blk pid m)
  replace e:=Bq (Q:=Q) r (λ_ h=>.inl h) (λid pid m hi M=>.inr ⟨id,hi,m,M⟩) B e;obtain⟨y,e,t⟩:=e;replace e:=AD e;obtain⟨h',u,e⟩:=e;replace e:=E5 e;obtain⟨z,S,e⟩:=e;obtain⟨d,lP,A,s,b⟩:=D6 (λ_ h=>.inl h) o t;obtain⟨k,up,j,⟨N,J⟩,i⟩:=T _ _ _ _ rfl y z S d s;obtain⟨q,a,Y,E,F,G,I⟩:=Jz r w (aq p) i b (IH B) u;exact⟨_,_,q,a,Y,d,lP,k,up,j,e,A,⟨N,J⟩,E,λy O=>(by obtain⟨_,es,ex,fz,L⟩:=b y O;rw[L];simp),F,G,I⟩
 ·cases e
theorem Oh{X:Cx}{h:H}{n id idP:Nat}(r:RH X h n)(w:Nw X n id idP){f:FuncId}{sg:Sg}(T:∀ dom g c i,sg=⟨dom,[(false,.sl g c)],i⟩->RowOK P tab f dom g c i)(d:Ad tab f=false){args:List V}{j:List PV}{K:V->H->Option β}(t:VRL X args j)(e:Kt h id sg args K=some x) :
  ∃ v h' q a Y,K v h'=some x/\(∃ N,∀ F n,N<=F->N<=n->Pi.A6 (Ad tab) (Pi.B3 P (Ad tab) F n) idP f j X.h=some (.ret q,a))/\FQ X h n id idP h' a Y/\VR Y v q:=by
 obtain⟨v,h',q,a,Y,y,lP,A,up,z,e1,b,⟨N,s⟩,k,_,l,o,_⟩:=HO r w T t e;refine⟨v,h',q,a,Y,e1,⟨N,λF n p u=> ?_⟩,l,o⟩;unfold Pi.A6;simp only[d,cond_false,b];rw[show({ m:=.lf,nx:=0 }:Hp)=Di from rfl,s F n p u];simp only[k];rfl
theorem Oi{X:Cx}{h:H}{n id idP:Nat}(r:RH X h n)(w:Nw X n id idP){f:FuncId}{sg:Sg}(T:FnOK P tab f sg)(c:Ad tab f=false){args:List V}{d:List PV}{K:V->H->Option β}(o:VRL X args d)(e:DS h sg args K=some x) :
  ∃ v h' q a Y,K v h'=some x/\(∃ N,∀ F n,N<=F->N<=n->Pi.A6 (Ad tab) (Pi.B3 P (Ad tab) F n) idP f d X.h=some (.ret q,a))/\FQ X h n id idP h' a Y/\VR Y v q:=by
 obtain⟨v,h',q,a,Y,s,lP,u,up,t,e1,b,⟨N,l⟩,g,_,i,j,_⟩:=HP r w T o e;refine⟨v,h',q,a,Y,e1,⟨N,λF n k p=> ?_⟩,i,j⟩;unfold Pi.A6;simp only[c,cond_false,b];rw[show({ m:=.lf,nx:=0 }:Hp)=Di from rfl,l F n k p];simp only[g];rfl
theorem Qq{X:Cx}{fr:FrA}{fp:Pi.Fr}(f:FR X fr fp){d:Option Nat}{v:V}{p:PV}{K:FrA->Option β}(h:VR X v p)(e:HF fr d v K=some x):∃ b a,K b=some x/\fp.put d p=some a/\FR X b a:=by
 unfold HF at e;unfold Pi.Fr.put;split at e
 ·exact⟨fr,fp,e,rfl,f⟩
 ·rename_i d;replace e:=AK e;obtain⟨c,e⟩:=e;have g:d<fr.nt:=by simpa using c
  have i:=f.big;exact⟨_,{ fp with t:=T.put 20 fp.t d p },e,by simp only[f.nt,c,cond_true],⟨f.t.put (by omega) h,f.nt,f.big,f.ds,f.up,f.ro⟩⟩
theorem JE{X:Cx}{ops:List Oper}{t:T V}{n:T PV}(l:TR X t n){nt:Nat}(u:nt<1048575)(i:∀ o∈ops,∀ d,o.dst=some d->d<nt){g:Option (Nat×Bool)}{q A:T V->Option β}(e:Jy ops t g q A=some x) :
  ∃ y,TR X y n/\((q y=some x/\Pi.A4 ops n g=true)\/(A y=some x/\Pi.A4 ops n g=false)):=by
 unfold Jy at e;unfold Pi.A4;split at e
 ·exact⟨t,l,.inl ⟨e,rfl⟩⟩
 ·rename_i j a;split at e
  ·rename_i o w;simp only[w];split at e
   ·rename_i d z;simp only[z]
    have C:d<1048575:=by
     exact Nat.lt_trans (i o (by rw[AN]at w;exact List.mem_of_getElem? w) d z) u
    split at e
    ·rename_i b s;obtain⟨p,r,m⟩:=l _ _ s;simp only[VR]at m;subst m;simp only[r]
     have same:∀ c:Bool,b=c->TR X (T.put 20 t d (.bool c)) n:=by
      intro c hc;subst hc;intro k v h;have B:(2:Nat) ^ 20-1=1048575:=by decide
      rw[T.get_put 20 t d _ k (by omega)]at h;by_cases f:k=d
      ·rw[if_pos f]at h;cases h;rw[f];exact⟨_,r,by simp[VR]⟩
      ·rw[if_neg f]at h;exact l _ _ h
     replace e:=BN e;rcases e with⟨hc,e⟩|⟨hc,e⟩
     ·subst hc;refine⟨_,same true rfl,?_⟩;cases a with
      |true=>exact .inl ⟨e,rfl⟩
      |false=>exact .inr ⟨e,rfl⟩
     ·subst hc;refine⟨_,same false rfl,?_⟩;cases a with
      |true=>exact .inr ⟨e,rfl⟩
      |false=>exact .inl ⟨e,rfl⟩
    ·rename_i s;obtain⟨p,r,m⟩:=l _ _ s;simp only[VR,VRL]at m;obtain⟨D,rfl,rfl⟩:=m;simp only[r];exact⟨t,l,.inr ⟨e,by first|rfl|trivial⟩⟩
    ·cases e
   ·cases e
  ·cases e
def DQ(X:Cx)(base baseP i k:Nat):Prop:=∀ j,i<=j->j<i+k->X.π (base+j)=none/\X.h.get (baseP+j)=none
theorem Mf (R : RecAOK P tab rec) (T : TabOK P tab) {base baseP b bP : Nat} (hb : b <= base) (hbP : bP <= baseP) {all : List Oper} :
    ∀ {ops:List Oper} {i:Nat} {X:Cx} {fr:FrA} {fp:Pi.Fr} {h:H} {nx:Nat} {K:KA β},Bj P tab rec base all (Pi.G5 i ops) fr h nx K=some x ->
      RH X h nx -> nx <= 1048575 -> FR X fr fp -> (∀ o ∈ all,∀ d,o.dst=some d -> d < fr.nt) -> DQ X base baseP i ops.length -> base + i + ops.length <= nx -> baseP + i + ops.length <= X.h.nx ->
      ∃ ex fr' h' nx' Y exP fp' hP',K ex fr' h' nx'=some x /\ (∃ N,∀ F n,N <= F -> N <= n -> Pi.AZ P (Ad tab) (Pi.B3 P (Ad tab) F n) baseP all (Pi.G5 i ops) fp X.h=some (exP,fp',hP')) /\ Run b bP X h nx Y h' nx' hP' /\ FR Y fr' fp' /\ Lw Y ex exP:=by
  intro ops
  induction ops with
  |nil=>
    intro i X fr fp h nx K e r hn f _ _ _ _;exact⟨.normal,fr,h,nx,X,.normal,fp,X.h,e,⟨0,fun _ _ _ _=>rfl⟩,⟨rfl,r,hn,ac _,Ext.refl _ _ _ _⟩,f,rfl⟩
  |cons o ops ih=>
    intro i X fr fp h nx K e r hn f hall hfr hlen hlenP;simp only[List.length_cons]at hlen hlenP hfr;have hfr0:=hfr i (ac _) (by omega);have w:Nw X nx (base + i) (baseP + i):=⟨hfr0.1,by omega,hn,hfr0.2,by omega⟩
    have go : ∀ {v : V} {p : PV} {h1 : H} {nx1 : Nat} {X1 : Cx} {fr1 : FrA} {fp1 : Pi.Fr}, HF fr1 o.dst v (fun fr => Bj P tab rec base all (Pi.G5 (i + 1) ops) fr h1 nx1 K) = some x -> RH X1 h1 nx1 -> nx1 <= 1048575 -> nx <= nx1 -> FR X1 fr1 fp1 -> fr1.nt = fr.nt -> VR X1 v p -> Ext b bP X h X1 h1 -> DQ X1 base baseP (i + 1) ops.length ->
        (∀ {rr:Pi.Ex × Pi.Fr × Hp},(∃ N,∀ F n,N <= F -> N <= n -> (match fp1.put o.dst p with
          |some fr=>Pi.AZ P (Ad tab) (Pi.B3 P (Ad tab) F n) baseP all (Pi.G5 (i + 1) ops) fr X1.h
          |none=>none)=some rr) -> ∃ N,∀ F n,N <= F -> N <= n -> Pi.AZ P (Ad tab) (Pi.B3 P (Ad tab) F n) baseP all (Pi.G5 i (o :: ops)) fp X.h=some rr) ->
        ∃ ex fr' h' nx' Y exP fp' hP',K ex fr' h' nx'=some x /\ (∃ N,∀ F n,N <= F -> N <= n -> Pi.AZ P (Ad tab) (Pi.B3 P (Ad tab) F n) baseP all (Pi.G5 i (o :: ops)) fp X.h=some (exP,fp',hP')) /\ Run b bP X h nx Y h' nx' hP' /\ FR Y fr' fp' /\ Lw Y ex exP:=by
      intro v p h1 nx1 X1 fr1 fp1 e r1 hn1 hle f1 hnt hv hext hfr1 hP;obtain⟨fr2,fp2,e2,AG,f2⟩:=Qq f1 hv e
      have hnt2 : fr2.nt = fr.nt := by rw [<- f2.nt, <- hnt, <- f1.nt]; unfold Pi.Fr.put at AG; split at AG
                                       · cases AG;rfl
                                       · have:=AK AG;cases this.2;rfl
      obtain⟨ex,fr',h',nx',Y,exP,fp',hP',k1,k2,k3,k4,k5⟩:=ih e2 r1 hn1 f2 (fun o ho d hd=>by rw[hnt2];exact hall o ho d hd) hfr1 (by omega) (by have:=hext.nx;omega);refine⟨ex,fr',h',nx',Y,exP,fp',hP',k1,hP ?_,⟨k3.hp,k3.rh,k3.big,ay hle k3.le,hext.trans k3.ext⟩,k4,k5⟩;obtain⟨N,hN⟩:=k2;exact⟨N,fun F n hF hn=>by rw[AG];exact hN F n hF hn⟩
    have idxc:Pi.G5 i (o :: ops)=(i,o) :: Pi.G5 (i + 1) ops:=rfl;rw[idxc]at e;unfold Bj at e;have fg:=JE (nt:=fr.nt) f.t f.big hall e;obtain⟨t',ht',hcase⟩:=fg;have f':FR X { fr with t:=t' } fp:=⟨ht',f.nt,f.big,f.ds,f.up,f.ro⟩
    rcases hcase with⟨e,hw⟩|⟨e,hw⟩
    ·
      have ev:=Oy r w ht' e
      have hP:∀ F n,Pi.AZ P (Ad tab) (Pi.B3 P (Ad tab) F n) baseP all (Pi.G5 i (o :: ops)) fp X.h=(match Pi.AQ P fp.t X.h (baseP + i) o with
        |some (.val v h)=>match fp.put o.dst v with
          |some fr=>Pi.AZ P (Ad tab) (Pi.B3 P (Ad tab) F n) baseP all (Pi.G5 (i + 1) ops) fr h
          |none=>none
        |some (.skip h)=>match fp.put o.dst (.tup [])with
          |some fr=>Pi.AZ P (Ad tab) (Pi.B3 P (Ad tab) F n) baseP all (Pi.G5 (i + 1) ops) fr h
          |none=>none
        |some (.dfr d)=>match fp.ro with
          |none=>(match ({ fp with ds:=d :: fp.ds }:Pi.Fr).put o.dst (.tup [])with
            |some fr=>Pi.AZ P (Ad tab) (Pi.B3 P (Ad tab) F n) baseP all (Pi.G5 (i + 1) ops) fr X.h
            |none=>none)
          |some _=>none
        |some (.call f args)=>match Pi.A6 (Ad tab) (Pi.B3 P (Ad tab) F n) (baseP + i) f args X.h with
          |some (.ret v,h)=>(match fp.put o.dst v with
            |some fr=>Pi.AZ P (Ad tab) (Pi.B3 P (Ad tab) F n) baseP all (Pi.G5 (i + 1) ops) fr h
            |none=>none)
          |some (.pan [{ v:=e,recovered:=false }],h)=>some (.panic e,fp,h)
          |_=>none
        |some (.yield l args)=>match Pi.B3 P (Ad tab) F n (.yl l) none args X.h with
          |some (.ret v,_,h)=>(match fp.put o.dst v with
            |some fr=>Pi.AZ P (Ad tab) (Pi.B3 P (Ad tab) F n) baseP all (Pi.G5 (i + 1) ops) fr h
            |none=>none)
          |_=>none
        |some (.pan v)=>some (.panic v,fp,X.h)
        |some .rcv=>match fp.ro with
          |some _=>none
          |none=>match fp.up with
            |some (.pan ({ v,recovered:=false } :: older))=>(match ({ fp with up:=some (.pan ({ v,recovered:=true } :: older)) }:Pi.Fr).put o.dst v with
              |some fr=>Pi.AZ P (Ad tab) (Pi.B3 P (Ad tab) F n) baseP all (Pi.G5 (i + 1) ops) fr X.h
              |none=>none)
            |_=>(match fp.put o.dst .nili with
              |some fr=>Pi.AZ P (Ad tab) (Pi.B3 P (Ad tab) F n) baseP all (Pi.G5 (i + 1) ops) fr X.h
              |none=>none)
        |none=>none):=by
        intro F n;rw[idxc,Pi.AZ,hw];rfl
      generalize Pi.AQ P fp.t X.h (baseP + i) o=op at ev hP
      have fresh1:∀ {Y:Cx} {h1:H},St X h (base + i) (baseP + i) Y h1 -> DQ Y base baseP (i + 1) ops.length:=fun s j h1 h2=>by
        obtain⟨a1,a2⟩:=hfr j (by omega) (by omega);exact⟨s.pin _ (by omega) a1,s.hpn _ (by omega) a2⟩
      cases ev with
      |val e ok hv=>
        obtain⟨y1,y2,y3⟩:=ok;refine go e y2 hn (ac _) (f'.mono y3.up) rfl hv (y3.ext (by omega) (by omega)) (fresh1 y3) ?_;rintro rr ⟨N,hN⟩;refine⟨N,fun F n hF hn=> ?_⟩;rw[hP];simp only;rw[<- y1];exact hN F n hF hn
      |skip e ok=>
        obtain⟨y1,y2,y3⟩:=ok;refine go e y2 hn (ac _) (f'.mono y3.up) rfl (p:=.tup []) (by simp only[VR];exact⟨[],rfl,.nil⟩) (y3.ext (by omega) (by omega)) (fresh1 y3) ?_;rintro rr ⟨N,hN⟩;refine⟨N,fun F n hF hn=> ?_⟩;rw[hP];simp only;rw[<- y1];exact hN F n hF hn
      |dfr e hd=>
        dsimp only at e;split at e
        · rename_i hro
          have hroP:fp.ro=none:=by have:=f.ro;rw[hro]at this;exact this
          refine go (fp1:={ fp with ds:=_ :: fp.ds }) e r hn (ac _) ⟨ht',f.nt,f.big,.cons hd f.ds,f.up,f.ro⟩ rfl (p:=.tup []) (by simp only[VR];exact⟨[],rfl,.nil⟩) (Ext.refl _ _ _ _) (fun j h1 h2=>hfr j (by omega) (by omega)) ?_
          rintro rr ⟨N,hN⟩;refine⟨N,fun F n hF hn=> ?_⟩;rw[hP];simp only[hroP];have:=hN F n hF hn;simp only[hroP]at this;exact this
        · cases e
      |@call g as ps e ha=>
        dsimp only at e;split at e
        · cases e
        · rename_i sg hsg
          replace e:=BC e;obtain⟨hlt,e⟩:=e;have hlt:ah g Cr=true:=by simpa using hlt
          have hsh:Ad tab g=false:=by unfold Ad;rw[hsg];rfl
          split at e
          · rename_i sg' hR
            obtain⟨v,h1,q,hP1,Y,e1,⟨N0,hN0⟩,⟨y1,y2,y3⟩,hv⟩:=Oh r w (fun dom g' c fn hh=>T.getR (by rw[<- hh];exact hR)) hsh ha e;refine go e1 y2 hn (ac _) (f'.mono y3.up) rfl hv (y3.ext (by omega) (by omega)) (fresh1 y3) ?_;rintro rr ⟨N,hN⟩;refine⟨max N0 N,fun F n hF hn=> ?_⟩;rw[hP];simp only[hN0 F n (by omega) (by omega)];rw[<- y1];exact hN F n (by omega) (by omega)
          · obtain⟨v,h1,q,hP1,Y,e1,⟨N0,hN0⟩,⟨y1,y2,y3⟩,hv⟩:=Oi r w (T.get hlt hsg) hsh ha e
            refine go e1 y2 hn (ac _) (f'.mono y3.up) rfl hv (y3.ext (by omega) (by omega)) (fresh1 y3) ?_;rintro rr ⟨N,hN⟩;refine⟨max N0 N,fun F n hF hn=> ?_⟩;rw[hP];simp only[hN0 F n (by omega) (by omega)];rw[<- y1];exact hN F n (by omega) (by omega)
        · rename_i hsg
          obtain⟨o',up',h1,nx1,Y,oP,upP',hP1,e1,⟨N0,hN0⟩,run,ho,hu⟩:=R.fn e r hn ha (show UMR X none none from rfl)
          have hcall:∀ F n,N0 <= F -> N0 <= n -> Pi.A6 (Ad tab) (Pi.B3 P (Ad tab) F n) (baseP + i) g ps X.h=some (oP,hP1):=fun F n hF hn=>by
            unfold Pi.A6;have hsh:Ad tab g=true:=by unfold Ad;rw[hsg];rfl
            simp only[hsh,cond_true,hN0 F n hF hn]
          have hup:=run.ext.full r (ac _);have hext:Ext b bP X h Y h1:=run.ext.le (by omega) (by omega)
          have hfr1:DQ Y base baseP (i + 1) ops.length:=fun j h1 h2=>by
            obtain⟨a1,a2⟩:=hfr j (by omega) (by omega);exact⟨run.ext.pin _ (by omega) a1,run.ext.hpn _ (by omega) a2⟩
          cases o' with
          |ret v=>
            dsimp only at e1;obtain⟨p,rfl,hv⟩:=ho;refine go e1 run.rh run.big run.le (f'.mono hup) rfl hv hext hfr1 ?_;rintro rr ⟨N,hN⟩;refine⟨max N0 N,fun F n hF hn=> ?_⟩;rw[hP];simp only[hcall F n (by omega) (by omega)];rw[<- run.hp];exact hN F n (by omega) (by omega)
          |pan ch=>
            obtain⟨c,rfl,hch⟩:=ho
            match ch,hch,e1 with
            |[{ v:=v,recovered:=false }],hch,e1=>
              obtain⟨⟨vP,rP⟩,c',rfl,⟨h3,h4⟩,h5⟩:=L2.cons_inv hch;rw[L2.nil_inv h5]at hcall;simp only at h3 h4;subst h4;refine⟨_,_,h1,nx1,Y,.panic vP,fp,hP1,e1,⟨N0,fun F n hF hn=> ?_⟩,⟨run.hp,run.rh,run.big,run.le,hext⟩,f'.mono hup,⟨vP,rfl,h3⟩⟩;rw[hP];simp only[hcall F n hF hn]
            |[],_,e1=>cases e1
            |[{ v:=v,recovered:=true }],_,e1=>cases e1
            |⟨av,ar⟩ :: b :: c,_,e1=>cases ar<;>cases e1
      |@yield l lP m as ps e hl ha=>
        dsimp only at e;obtain⟨o',up',h1,nx1,Y,oP,upP',hP1,e1,⟨N0,hN0⟩,run,ho,hu⟩:=R.yl e r hn hl ha;have hup:=run.ext.full r (ac _);have hext:Ext b bP X h Y h1:=run.ext.le (by omega) (by omega)
        have hfr1:DQ Y base baseP (i + 1) ops.length:=fun j h1 h2=>by
          obtain⟨a1,a2⟩:=hfr j (by omega) (by omega);exact⟨run.ext.pin _ (by omega) a1,run.ext.hpn _ (by omega) a2⟩
        cases o' with
        |ret v=>
          dsimp only at e1;obtain⟨p,rfl,hv⟩:=ho;refine go e1 run.rh run.big run.le (f'.mono hup) rfl hv hext hfr1 ?_;rintro rr ⟨N,hN⟩;refine⟨max N0 N,fun F n hF hn=> ?_⟩;rw[hP];simp only[hN0 F n (by omega) (by omega)];rw[<- run.hp];exact hN F n (by omega) (by omega)
        |pan ch=>cases e1
      |pan e hv=>
        refine⟨_,_,h,nx,X,.panic _,fp,X.h,e,⟨0,fun F n _ _=>by rw[hP]⟩,⟨rfl,r,hn,ac _,Ext.refl _ _ _ _⟩,f',⟨_,rfl,hv⟩⟩
      |rcv e=>
        dsimp only at e;split at e
        · cases e
        · rename_i hro
          have hroP:fp.ro=none:=by have:=f.ro;rw[hro]at this;exact this
          split at e
          · rename_i v older hup
            have hu:=f.up;rw[hup]at hu;obtain⟨c,hc,hch⟩:=hu;obtain⟨⟨vP,rP⟩,c',rfl,⟨h3,h4⟩,h5⟩:=L2.cons_inv hch;simp only at h3 h4;subst h4;refine go (fp1:={ fp with up:=some (.pan ({ v:=vP,recovered:=true } :: c')) }) e r hn (ac _) ⟨ht',f.nt,f.big,f.ds,⟨_,rfl,.cons ⟨h3,rfl⟩ h5⟩,f.ro⟩ rfl h3 (Ext.refl _ _ _ _) (fun j h1 h2=>hfr j (by omega) (by omega)) ?_
            rintro rr ⟨N,hN⟩;refine⟨N,fun F n hF hn=> ?_⟩;rw[hP];simp only[hroP,hc];have:=hN F n hF hn;simp only[hroP]at this;exact this
          · rename_i hne
            refine go e r hn (ac _) f' rfl (p:=.nili) (by simp[VR]) (Ext.refl _ _ _ _) (fun j h1 h2=>hfr j (by omega) (by omega)) ?_;rintro rr ⟨N,hN⟩;refine⟨N,fun F n hF hn=> ?_⟩;rw[hP];simp only[hroP];have:=hN F n hF hn;have hu:=f.up;cases hfu:fr.up with
            |none=>
              rw[hfu]at hu;rw[show fp.up=none from hu];exact this
            |some u=>
              rw[hfu]at hu;cases u with
              |ret=>rw[show fp.up=some .ret from hu];exact this
              |pan ch=>
                obtain⟨c,hc,hch⟩:=hu;rw[hc];cases hch with
                |nil=>exact this
                |cons a t=>
                  rename_i a1 b1 l1 m1;obtain⟨bv,br⟩:=b1;cases br with
                  |true=>exact this
                  |false=>
                    obtain⟨av,ar⟩:=a1;have:ar=false:=a.2;subst this;exact absurd hfu (hne _ _)
    ·
      refine go e r hn (ac _) f' rfl (p:=.tup []) (by simp only[VR];exact⟨[],rfl,.nil⟩) (Ext.refl _ _ _ _) (fun j h1 h2=>hfr j (by omega) (by omega)) ?_;rintro rr ⟨N,hN⟩;refine⟨N,fun F n hF hn=> ?_⟩;rw[idxc,Pi.AZ,hw];exact hN F n hF hn
end
end
section
variable[Pi.Gl]
open Pi (PV T Hp Blk DF UM PE AN AT AB AX Ao)
structure Kp (W:List Nat) (a b:Pi.Fr):Prop where
 t:∀ k,k ∉ W->b.t.get k=a.t.get k
 nt:b.nt=a.nt
 ro:b.ro=a.ro
 up:a.up=none->b.up=none
 ds:∃ p,b.ds=p++a.ds
theorem Kp.refl(W:List Nat)(a:Pi.Fr):Kp W a a:=⟨λ_ _=>rfl,rfl,rfl,λh=>h,[],rfl⟩
theorem Kp.trans{W:List Nat}{a b c:Pi.Fr}(h:Kp W a b)(k:Kp W b c):Kp W a c:=by
 obtain⟨p,d⟩:=h.ds;obtain⟨q,e⟩:=k.ds;exact⟨λi hi=>(k.t i hi).trans (h.t i hi),k.nt.trans h.nt,k.ro.trans h.ro,λf=>k.up (h.up f),q++p,by rw[e,d,List.append_assoc]⟩
theorem Kp.mono{W V:List Nat}(d:∀ k∈W,k∈V){a b:Pi.Fr}(h:Kp W a b):Kp V a b:=⟨λk c=>h.t k λhh=>c (d k hh),h.nt,h.ro,h.up,h.ds⟩
theorem Kp.put{W:List Nat}{a b:Pi.Fr}(l:a.nt<1048575){d:Option Nat}(f:∀ i,d=some i->i∈W){v:PV}(e:a.put d v=some b):Kp W a b:=by
 unfold Pi.Fr.put at e;split at e
 ·cases e;exact Kp.refl _ _
 ·rename_i i;replace e:=AK e;obtain⟨hi,e⟩:=e;cases e;have g:i<a.nt:=by simpa using hi
  have c:(2:Nat) ^ 20-1=1048575:=by decide
  refine⟨λk j=> ?_,rfl,rfl,λh=>h,[],rfl⟩;show(T.put 20 a.t i v).get k=_;rw[T.get_put 20 a.t i v k (by omega),if_neg];intro hh;subst hh;exact j (f k rfl)
section
variable{P:Program}{sh:FuncId->Bool}{rec:Pi.HM}
theorem JU{base:Nat}{all:List Oper}{W:List Nat}:∀ {l:List (Nat×Oper)} {fr d:Pi.Fr} {h h':Hp} {ex:Pi.Ex},fr.nt<1048575->(∀ p∈l,∀ i,p.2.dst=some i->i∈W)->Pi.AZ P sh rec base all l fr h=some (ex,d,h')->Kp W fr d
 |[],fr,d,h,h',ex,hnt,hW,e=>by cases e;exact Kp.refl _ _
 |(i,o)::l,fr,d,h,h',ex,hnt,hW,e=>by
  have k:∀ p∈l,∀ i,p.2.dst=some i->i∈W:=λp c=>hW p (by simp[c]);have q:∀ j,o.dst=some j->j∈W:=hW (i,o) (by simp)
  have f:∀ {a b:Pi.Fr} {v:PV} {hh:Hp},Kp W fr a->a.put o.dst v=some b->Pi.AZ P sh rec base all l b hh=some (ex,d,h')->Kp W fr d:=λm n e=>by
   have g:=Kp.put (W:=W) (by rw[m.nt];exact hnt) q n;exact(m.trans g).trans (JU (by rw[g.nt,m.nt];exact hnt) k e)
  unfold Pi.AZ at e;replace e:=BU e;rcases e with⟨_,e⟩|⟨_,e⟩
  ·split at e
   ·split at e
    ·rename_i c;exact f (Kp.refl _ _) c e
    ·cases e
   ·split at e
    ·rename_i c;exact f (Kp.refl _ _) c e
    ·cases e
   ·split at e
    ·split at e
     ·rename_i c;exact f (a:={ fr with ds:=_::fr.ds }) ⟨λ_ _=>rfl,rfl,rfl,λh=>h,[_],rfl⟩ c e
     ·cases e
    ·cases e
   ·split at e
    ·split at e
     ·rename_i c;exact f (Kp.refl _ _) c e
     ·cases e
    ·cases e;exact Kp.refl _ _
    ·cases e
   ·split at e
    ·split at e
     ·rename_i c;exact f (Kp.refl _ _) c e
     ·cases e
    ·cases e
   ·cases e;exact Kp.refl _ _
   ·split at e
    ·cases e
    ·split at e
     ·rename_i r;split at e
      ·rename_i c;exact f (a:={ t:=fr.t,nt:=fr.nt,ds:=fr.ds,up:=some _,ro:=fr.ro }) ⟨λ_ _=>rfl,rfl,rfl,λh=>(by rw[r]at h;cases h),[],rfl⟩ c e
      ·cases e
     ·split at e
      ·rename_i c;exact f (Kp.refl _ _) c e
      ·cases e
   ·cases e
  ·split at e
   ·rename_i c;exact f (Kp.refl _ _) c e
   ·cases e
theorem DC{base nt:Nat}{all:List Oper}{W:List Nat}(c:nt<1048575):∀ {i:Nat} {ops:List Oper} {l:List Pi.Mk} {a:List (Nat×List Nat×List Nat)} {t f:T PV} {h h':Hp},(∀ o∈ops,∀ i,o.dst=some i->i∈W)->Pi.AY P rec base nt all i ops l a t h=some (f,h') -> ∀ k,k ∉ W->f.get k=t.get k
 |i,[],l,a,t,f,h,h',hW,e,k,hk=>by
  have:(t,h)=(f,h'):=by cases l<;>simpa[Pi.AY]using e
  cases this;rfl
 |i,o::ops,[],a,t,f,h,h',hW,e,k,hk=>by cases e
 |i,o::ops,m::l,a,t,f,h,h',hW,e,k,hk=>by
  have b:∀ o∈ops,∀ i,o.dst=some i->i∈W:=λp r=>hW p (by simp[r]);have n:(2:Nat) ^ 20-1=1048575:=by decide
  have put:∀ {d:Nat} {v:PV},o.dst=some d->ah d nt=true->(T.put 20 t d v).get k=t.get k:=λj g=>by
   have q:=aq g;rw[T.get_put 20 t _ _ k (by omega),if_neg];intro hh;subst hh;exact hk (hW o (by simp) _ j)
  unfold Pi.AY at e;replace e:=BU e;rcases e with⟨_,e⟩|⟨_,e⟩
  ·split at e
   ·replace e:=AK e;obtain⟨_,e⟩:=e;split at e
    ·rename_i d j;replace e:=AK e;obtain⟨g,e⟩:=e;rw[DC c b e k hk,put j g]
    ·exact DC c b e k hk
   ·cases e
  ·split at e
   ·rename_i d j;replace e:=AK e;obtain⟨g,e⟩:=e;rw[DC c b e k hk,put j g]
   ·exact DC c b e k hk
theorem NJ:∀ {l:List Oper} {i:Nat} {p:Nat×Oper},p∈Pi.G5 i l->p.2∈l
 |[],i,p,h=>by cases h
 |o::l,i,p,h=>by
  rcases ae.1 h with rfl|h
  ·simp
  ·exact List.mem_cons_of_mem _ (NJ h)
theorem B6:∀ {n:Nat} {c:Code} {fr f:Pi.Fr} {h h':Hp} {ex:Pi.Ex},fr.nt<1048575->Pi.exec P sh rec n c fr h=some (ex,f,h')->Kp (Bz c) fr f
 |0,_,_,_,_,_,_,_,e=>by cases e
 |n+1,c,fr,f,h,h',ex,hnt,e=>by
  cases c with
  |skip=>cases e;exact Kp.refl _ _
  |label l=>cases e;exact Kp.refl _ _
  |seq a b=>
   simp only[Pi.exec]at e;split at e
   ·rename_i fr1 t e1;have q:=B6 hnt e1;have B:=B6 (by rw[q.nt];exact hnt) e;exact(q.mono λk d=>ak _ d).trans (B.mono λk d=>aj _ d)
   ·exact(B6 hnt e).mono λk d=>ak _ d
  |cond c a b=>
   simp only[Pi.exec]at e;split at e
   ·exact(B6 hnt e).mono λk d=>ak _ d
   ·exact(B6 hnt e).mono λk d=>aj _ d
   ·cases e
  |block id b=>
   simp only[Pi.exec]at e;split at e
   ·rename_i j fr1 t e1;have q:=B6 hnt e1;replace e:=BU e;rcases e with⟨_,e⟩|⟨_,e⟩<;>(cases e;exact q)
   ·exact B6 (c:=b) hnt e
  |loop b=>
   simp only[Pi.exec]at e;split at e
   ·rename_i fr1 t e1;have q:=B6 hnt e1;exact q.trans (B6 (c:=.loop b) (by rw[q.nt];exact hnt) e)
   ·exact B6 (c:=b) hnt e
  |scope b=>
   simp only[Pi.exec]at e;split at e
   ·cases e
   ·exact B6 (c:=b) hnt e
  |exit id=>cases e;exact Kp.refl _ _
  |goto l=>cases e;exact Kp.refl _ _
  |ret=>cases e;exact Kp.refl _ _
  |refuse w=>cases e
  |region id ops s=>
   simp only[Pi.exec]at e;have y:∀ o∈ops.toList,∀ i,o.dst=some i->i∈Bz (.region id ops s):=λo z i hi=>List.mem_filterMap.2 ⟨o,z,hi⟩;replace e:=BU e;rcases e with⟨_,e⟩|⟨_,e⟩
   ·replace e:=AK e;obtain⟨_,e⟩:=e;split at e
    ·rename_i fr1 t e1;cases e;unfold Pi.drawn at e1;split at e1
     ·split at e1
      ·rename_i D t e2;cases e1;exact⟨DC hnt y e2,rfl,rfl,λh=>h,[],rfl⟩
      ·cases e1
     ·cases e1
    ·cases e
   ·exact JU hnt (λp A i hi=>y p.2 (NJ A) i hi) e
  |rangeFunc g C u r=>
   simp only[Pi.exec]at e;have x:∀ {m:List DF},Kp (Bz (.rangeFunc g C u r)) fr { fr with ds:=m++fr.ds }:=fun {m}=>⟨λ_ _=>rfl,rfl,rfl,λh=>h,m,rfl⟩
   split at e
   ·split at e
    ·split at e
     ·split at e
      ·split at e
       ·split at e
        ·replace e:=BC e;obtain⟨_,e⟩:=e;split at e
         ·split at e<;>first|(cases e;exact x)|cases e
         ·cases e
        ·cases e
       ·cases e
      ·cases e
     ·cases e
    ·cases e
   ·cases e
end
end
end Go.Proofs.YtanppfoapnaeaaaGreat.Sv
