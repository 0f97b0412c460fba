/- A part of the evaluator over typed open values for any program, and of the proof that it is sound. No condition. -/
import Derived.Test.YthpkjfabdccpdaaGreatPs0
set_option linter.all false
namespace Go.Proofs.YthpkjfabdccpdaaGreat.Sv
open Go.Proofs.YthpkjfabdccpdaaGreat.Pi (PV T Hp Blk DF UM PE Au A8)
structure Nw (X:Cx) (n id idP:Nat):Prop where
 pi:X.π id=none
 lt:id<n
 big:n<=1048575
 hp:X.h.get idP=none
 hlt:idP<X.h.nx
section
variable {X:Cx} {h:H} {n id idP:Nat} {β:Type} {x:β} {P:Program}
theorem Nw.small (w:Nw X n id idP):id<1048575:=by have:=w.lt;have:=w.big;omega
def VOk (X:Cx) (h:H) (n id idP:Nat) (K:RA->Option β) (x:β) (o:Option Pi.R):Prop :=
 ∃ v h' p hP' Y,K (.val v h')=some x/\o=some (.val p hP')/\K5 X h n id idP h' hP' Y/\VR Y v p
theorem VOk.same (r:RH X h n) {K:RA->Option β} {o:Option Pi.R} {v:V} {p:PV} (e:K (.val v h)=some x) (eo:o=some (.val p X.h)) (hv:VR X v p):VOk X h n id idP K x o :=
 ⟨v,h,p,X.h,X,e,eo,⟨rfl,r,St.refl _ _ _ _⟩,hv⟩
theorem SO (r:RH X h n) (w:Nw X n id idP) {g:Bool} {c:Ty} {l:List c.den} {es:List PV} {ex fz fz':Bool} (hf:fz=false->fz'=false) (hl:L2 (EP g (DR X.h X.Q c)) l es) (hlen:ex=false->0<es.length) :
  ∃ hP' Y,X.h.new idP (.row es ex fz')=some hP'/\K5 X h n id idP (Ad h id (.row g c l ex fz false)) hP' Y/\VR Y (.ow id) (.own idP 0 es.length)/\Y.π id=some (.blk idP es.length):=by
 obtain ⟨hP',e⟩:=K4 X.h idP (.row es ex fz') w.hp
 obtain ⟨Y,y1,y2,y3,y4⟩:=r.new (m:=es.length) (b:=.row g c l ex fz false) w.small w.lt w.pi w.hlt e (λY y1 y2 y3 u =>
  .inl ⟨idP,es.length,es,fz',rfl,(y3 _).2 (.inr rfl),by rw [y2,(Hp.get_new e).2.1,if_pos rfl],hf,rfl,hlen,EDR.mono u hl⟩)
 have hy:Y.π id=some (.blk idP es.length):=by rw [y1];exact if_pos rfl
 exact ⟨hP',Y,e,⟨y2,y3,y4⟩,by simp only [VR,hy],hy⟩
theorem Dy (r:RH X h n) (w:Nw X n id idP) {g:Bool} {c:Ty} {l:List c.den} {es:List PV} {ex fz:Bool} (hl:L2 (EP g (DR X.h X.Q c)) l es) (hlen:ex=false->0<es.length) :
  ∃ hP' Y,X.h.new idP (.row es ex false)=some hP'/\K5 X h n id idP (Ad h id (.row g c l ex fz false)) hP' Y/\VR Y (.ow id) (.own idP 0 es.length)/\Y.π id=some (.blk idP es.length) :=
 SO r w (λ_=>rfl) hl hlen
theorem Q3 (r:RH X h n) (w:Nw X n id idP) {g:Bool} {c:Ty} {fz:Bool} :
  ∃ Y,K5 X h n id idP (Ad h id (.row g c [] false fz false)) X.h Y/\VR Y (.ow id) .nils:=by
 obtain ⟨Y,y1,y2,y3,y4⟩:=r.alias (a:=.nil) (b:=.row g c [] false fz false) w.small w.lt w.pi (by simp) (λY u => .inr (.inl ⟨rfl,rfl,rfl⟩)) idP;have hy:Y.π id=some .nil:=by rw [y1];exact if_pos rfl
 exact ⟨Y,⟨y2,y3,y4⟩,by simp only [VR,hy]⟩
theorem iS (r:RH X h n) (w:Nw X n id idP) {g:Bool} {c:Ty} {l:List c.den} {es:List PV} (hl:L2 (EP g (DP c)) l es) :
  ∃ Y,K5 X h n id idP (Ad h id (.row g c l false true false)) X.h Y/\VR Y (.ow id) (.lst true es):=by
 obtain ⟨Y,y1,y2,y3,y4⟩:=r.alias (a:=.fz es) (b:=.row g c l false true false) w.small w.lt w.pi (by simp) (λY u => .inr (.inr ⟨es,rfl,rfl,.inl rfl,hl⟩)) idP;have hy:Y.π id=some (.fz es):=by rw [y1];exact if_pos rfl
 exact ⟨Y,⟨y2,y3,y4⟩,by simp only [VR,hy]⟩
theorem Q4 (r:RH X h n) (w:Nw X n id idP) {g:Bool} {c:Ty} {fz:Bool} :
  ∃ Y,K5 X h n id idP (Ad h id (.row g c [] false fz false)) X.h Y/\VR Y (.ow id) (.lst true []):=by
 obtain ⟨Y,y1,y2,y3,y4⟩:=r.alias (a:=.fz []) (b:=.row g c [] false fz false) w.small w.lt w.pi (by simp) (λY u => .inr (.inr ⟨[],rfl,rfl,.inr rfl,.nil⟩)) idP;have hy:Y.π id=some (.fz []):=by rw [y1];exact if_pos rfl
 exact ⟨Y,⟨y2,y3,y4⟩,by simp only [VR,hy]⟩
theorem EPL.up {g:Bool} {c:Ty} {l:List c.den} {es:List PV} {hh:Hp} {Q:Nat->Prop} (h:L2 (EP g (DP c)) l es):L2 (EP g (DR hh Q c)) l es:=h.mono λ_ _ k=>k.upP
theorem Yz {g:Bool} {hh:Hp} {Q:Nat->Prop} {c:Ty} {l:List c.den} {es:List PV} {sz:Nat} (hs:sz=c.wd) (h:L2 (EP g (DR hh Q c)) l es):(es.all λv=>Nat.beq v.cells.length sz)=true:=by
 induction h with
 | nil=>rfl
 | cons a _ ih=>simp only [List.all_cons,ih,Bool.and_true,a.wd];simp [hs]
theorem fS {hh:Hp} {st:TypeId} {g:Bool} {c:Ty} {s p:PV} {new:List PV} {l:List c.den} {Q:Nat->Prop} (he:Pg P st c=true) (hx:Pi.Dv hh p=some new) (hn:L2 (EP g (DR hh Q c)) l new) :
  Pi.JD P hh idP st s p=(match s with
   | .nils=>bif new.isEmpty then some (.val .nils hh) else bif Nat.ble new.length Pi.Dw then (hh.new idP (.row new false false)).map λh => .val (.own idP 0 new.length) h else none
   | .lst true es=>bif new.isEmpty then some (.val (.lst true es) hh) else bif Nat.ble (es.length+new.length) Pi.Dw&&Pi.GJ c.wd es then (hh.new idP (.row (es++new) false false)).map λh => .val (.own idP 0 (es.length+new.length)) h else none
   | .own j off len=>match hh.get j with
    | some (.row es ex fz) =>
     bif !Nat.ble (len+new.length) Pi.Dw || !Nat.ble (off+len) es.length || !Pi.GJ c.wd es then none else
     bif ex then
      bif new.isEmpty then some (.val (.own j off len) hh) else bif Nat.ble (off+len+new.length) es.length then
       (bif fz then none else (hh.set j (.row (Pi.Em es (off+len) new) true false)).map λh => .val (.own j off (len+new.length)) h)
      else (hh.new idP (.row ((es.drop off).take len++new) false false)).map λh => .val (.own idP 0 (len+new.length)) h
     else bif Nat.beq len es.length&&Nat.beq off 0&&Nat.blt 0 len then
      match hh.set j .dead with
      | some h=>(h.new idP (.row (es++new) false fz)).map λh => .val (.own idP 0 (len+new.length)) h
      | none=>none
     else none
    | _=>none
   | _=>none):=by
 unfold Pg at he;unfold Pi.JD;split at he
 ·rename_i e hu;split at he
  ·rename_i ti z hti hz;simp only [Bool.and_eq_true,Nat.beq_eq] at he;obtain ⟨⟨⟨h1,h2⟩,h3⟩,h4⟩:=he;have ht:Pi.BV P e=some ti.size:=by unfold Pi.BV;rw [hti];rfl
   have hz':z.length.beq ti.size=true:=by simp [h3]
   simp only [hu,ht,hti,hx,hz];rw [Yz h1 hn,show Pi.Dw=1048576 from rfl,h2,hz',h4,h1];rfl
  ·cases he
 ·cases he
theorem Ft {α:Type} {l:List α} (h:l≠[]):l.isEmpty=false:=by cases l<;>simp at h ⊢
theorem Y5 {f:Bool} {v:V} {vs:List V} {p:PV} {es:List PV} {hh:Hp} (hv:VR X (.exl f (v::vs)) p) (e:Pi.Dv hh p=some es):es≠[]:=by
 simp only [VR] at hv;obtain ⟨f',ps,rfl,_,h1⟩:=hv;obtain ⟨q,qs,rfl,_,_⟩:=h1.cons_inv;cases e;simp
theorem Vr {α:Type} {R:α->PV->Prop} {l new:List α} {es nP:List PV} (h:L2 R l es) (k:L2 R new nP) (off m:Nat):L2 R (DB l off new m) (Pi.Em es off (nP.take m)):=by
 unfold DB Pi.Em;have:=(k.take m).length;rw [this];exact (h.take off).append ((k.take m).append (h.drop _))
theorem SP {es x:List PV} {off:Nat} (h:off+x.length<=es.length):(Pi.Em es off x).length=es.length:=by
 unfold Pi.Em;simp;omega
theorem fT (r:RH X h n) (w:Nw X n id idP) {st:TypeId} {s a:V} {sP p:PV} {K:RA->Option β} (hs:VR X s sP) (ha:VR X a p) (e:iL P h id st s a K=some x):VOk X h n id idP K x (Pi.JD P X.h idP st sP p):=by
 unfold iL at e;replace e:=AX e;obtain ⟨⟨g,c⟩,hel,e⟩:=e;replace e:=A3 e;obtain ⟨he,e⟩:=e;replace e:=Pr r ha e;obtain ⟨new,newP,e,hx,hnew⟩:=e;have E:=fS (idP:=idP) (s:=sP) he hx hnew;rw [E];have sm:Pi.Dw=1048576:=rfl
 have into : ∀ {fz:Bool},newP.length<=1048576->K (.val (.ow id) (Ad h id (.row g c new false fz false)))=some x->VOk X h n id idP K x (bif newP.isEmpty then some (.val .nils X.h) else bif Nat.ble newP.length Pi.Dw then (X.h.new idP (.row newP false false)).map λh => .val (.own idP 0 newP.length) h else none):=by
  intro fz hle e;by_cases h0:newP=[]
  ·subst h0;have:=hnew.nil_inv';subst this;obtain ⟨Y,y1,y2⟩:=Q3 (fz:=fz) (g:=g) (c:=c) r w;exact ⟨_,_,.nils,X.h,Y,e,rfl,y1,y2⟩
  ·have hpos:0<newP.length:=List.length_pos_iff.2 h0;obtain ⟨hP',Y,y1,y2,y3,_⟩:=Dy (fz:=fz) r w hnew λ_=>hpos;refine ⟨_,_,_,hP',Y,e,?_,y2,y3⟩;rw [Ft h0,sm,show Nat.ble newP.length 1048576=true from by simpa using hle,y1];rfl
 split at e
 ·simp only [VR] at hs;subst hs;replace e:=Ap e;obtain ⟨hle,e⟩:=e;exact into (by rw [<- hnew.length];simpa [A6,AA] using hle) e
 ·rename_i g' c' l;replace e:=A3 e;obtain ⟨hg,e⟩:=e;have:=eq_of_beq hg;subst this;replace e:=Ap e;obtain ⟨hle,e⟩:=e;replace e:=Ck e;obtain ⟨hc,e⟩:=e;subst hc;have hle':l.length+new.length<=1048576:=by simpa [A6,AA,AJ] using hle
  have grow:newP≠[]->K (.val (.ow id) (Ad h id (.row g c' (DK l new) false false false)))=some x->VOk X h n id idP K x (Pi.JD P X.h idP st sP p):=λhne e=>by
   rw [E];have hpos:0<newP.length:=List.length_pos_iff.2 hne;simp only [VR] at hs;rcases hs with ⟨rfl,rfl⟩ | ⟨f',ps,rfl,hf,h1⟩ | ⟨pid,off,len,ps,ex,fz,rfl,hf,h1,h2,h3,h8,h4⟩
   ·exact into (by rw [<- hnew.length];simpa using hle') e
   ·have:=hf trivial;subst this;obtain ⟨hP',Y,y1,y2,y3,_⟩:=Dy (fz:=false) r w ((EPL.up h1).append hnew) λ_=>by simp;omega
    refine ⟨_,_,_,hP',Y,e,?_,y2,y3⟩;have h5:Nat.ble (ps.length+newP.length) 1048576=true:=by rw [<- h1.length,<- hnew.length];simpa using hle'
    dsimp only;rw [Ft hne,sm,h5,CM rfl (EPL.up (hh:=X.h) (Q:=X.Q) h1),y1];simp
   ·obtain ⟨rfl,hend⟩:=hf trivial;obtain ⟨hP',Y,y1,y2,y3,_⟩:=Dy (fz:=false) r w (h4.append hnew) λ_=>by simp;omega
    refine ⟨_,_,_,hP',Y,e,?_,y2,y3⟩;have hl4:=h4.length;have hlen:((ps.drop off).take len).length=len:=by simp;omega
    have h5:Nat.ble (len+newP.length) 1048576=true:=by rw [<- hlen,<- hl4,<- hnew.length];simpa using hle'
    have h6:Nat.ble (off+len) ps.length=true:=by simpa using h3
    have h7:Nat.ble (off+len+newP.length) ps.length=false:=by
     cases hb:Nat.ble (off+len+newP.length) ps.length with
     | false=>rfl
     | true=>have:=Nat.le_of_ble_eq_true hb;omega
    simp only [h2,sm,h5,h6,h8,h7,Ft hne,Bool.not_true,Bool.or_false,cond_false,cond_true,y1];simp [hlen]
  have stay:newP=[]->K (.val (.lf true g c' l) h)=some x->VOk X h n id idP K x (Pi.JD P X.h idP st sP p):=λh0 e=>by
   rw [E];subst h0;have hs0:=hs;simp only [VR] at hs;rcases hs with ⟨rfl,rfl⟩ | ⟨f',ps,rfl,hf,h1⟩ | ⟨pid,off,len,ps,ex,fz,rfl,hf,h1,h2,h3,h8,h4⟩
   ·exact VOk.same r e rfl hs0
   ·have:=hf trivial;subst this;exact VOk.same r e rfl hs0
   ·obtain ⟨rfl,hend⟩:=hf trivial;have hl4:=h4.length;have hlen:((ps.drop off).take len).length=len:=by simp;omega
    have h5:Nat.ble (len+([]:List PV).length) 1048576=true:=by
     rw [<- hlen,<- hl4];simp only [List.length_nil,Nat.add_zero,Nat.ble_eq];omega
    have h6:Nat.ble (off+len) ps.length=true:=by simpa using h3
    refine VOk.same r e ?_ hs0;simp only [h2,sm,h5,h6,h8,Bool.not_true,Bool.or_false,cond_false,cond_true,List.isEmpty_nil]
  rw [<- E];split at e
  ·exact grow (Y5 ha hx) e
  ·replace e:=ES e;rcases e with ⟨h0,e⟩ | ⟨h0,e⟩
   ·refine stay ?_ e;have h0:new.length=0:=Nat.eq_of_beq_eq_true h0;rw [hnew.length] at h0;exact List.eq_nil_of_length_eq_zero h0
   ·refine grow ?_ e;intro hn;subst hn;have:=hnew.nil_inv';subst this;cases h0
 ·simp only [VR] at hs;obtain ⟨f',ps,rfl,hf,h1⟩:=hs;have:=h1.nil_inv;subst this;have:=hf trivial;subst this;replace e:=Ap e;obtain ⟨hle,e⟩:=e;have hle':newP.length<=1048576:=by rw [<- hnew.length];simpa [A6,AA] using hle
  by_cases h0:newP=[]
  ·subst h0;have:=hnew.nil_inv';subst this;obtain ⟨Y,y1,y2⟩:=Q4 (fz:=false) (g:=g) (c:=c) r w;exact ⟨_,_,_,X.h,Y,e,rfl,y1,y2⟩
  ·have hpos:0<newP.length:=List.length_pos_iff.2 h0;obtain ⟨hP',Y,y1,y2,y3,_⟩:=Dy (fz:=false) r w hnew λ_=>hpos;refine ⟨_,_,_,hP',Y,e,?_,y2,y3⟩;have h5:Nat.ble (([]:List PV).length+newP.length) 1048576=true:=by simpa using hle'
   dsimp only;rw [Ft h0,sm,h5,show Pi.GJ c.wd []=true from rfl,List.nil_append,y1];simp
 ·rename_i j;split at e
  ·rename_i g' c' l ex fz lk hrow;replace e:=C4 e;obtain ⟨hg,e⟩:=e;simp only [Bool.or_eq_false_iff,Bool.not_eq_false'] at hg;obtain ⟨hg,hlk⟩:=hg;subst hlk;have:=eq_of_beq hg;subst this;replace e:=Ck e;obtain ⟨hc,e⟩:=e;subst hc;replace e:=Ap e;obtain ⟨hle,e⟩:=e;have hle':l.length+new.length<=1048576:=by simpa [A6,AA,AJ] using hle
   simp only [VR] at hs;have hb:=r.blk _ _ hrow;cases hpi:X.π j with
   | none=>rw [hpi] at hs;exact hs.elim
   | some t =>
    rw [hpi] at hs hb;have hj:j<1048575:=by have:=r.dom _ _ hpi;have:=w.big;omega
    rcases E7 e with ⟨hex,e⟩ | ⟨hex,e⟩
    ·subst hex
     have grow:newP≠[]->K (.val (.ow id) (Ad h id (.row g c' (DK l new) false false false)))=some x->VOk X h n id idP K x (Pi.JD P X.h idP st sP p):=λhne e=>by
      rw [E];have hpos:0<newP.length:=List.length_pos_iff.2 hne;rcases hb with ⟨pid,len,ps,fz',h1,h2,h3,h4,h5,h7,h6⟩ | ⟨_,h1,_⟩ | ⟨_,_,h1,_⟩
      ·cases h1;simp only at hs;subst hs;obtain ⟨hP',Y,y1,y2,y3,_⟩:=Dy (fz:=false) r w (h6.append hnew) λ_=>by simp;omega
       refine ⟨_,_,_,hP',Y,e,?_,y2,y3⟩;have k5:Nat.ble (len+newP.length) 1048576=true:=by rw [<- h5,<- h6.length,<- hnew.length];simpa using hle'
       have k6:Nat.ble (0+len) ps.length=true:=by rw [h5];simp
       have k7:Nat.ble (0+len+newP.length) ps.length=false:=by
        cases hb:Nat.ble (0+len+newP.length) ps.length with
        | false=>rfl
        | true=>have:=Nat.le_of_ble_eq_true hb;omega
       have k8:(ps.drop 0).take len=ps:=by rw [List.drop_zero,List.take_of_length_le (by omega)]
       simp only [h3,sm,k5,k6,CM rfl h6,k7,k8,Ft hne,Bool.not_true,Bool.or_false,cond_false,cond_true,y1];simp [h5]
      ·cases h1
      ·cases h1
     have stay:newP=[]->K (.val (.ow j) h)=some x->VOk X h n id idP K x (Pi.JD P X.h idP st sP p):=λh0 e=>by
      rw [E];subst h0;have hs0:VR X (.ow j) sP:=by simp only [VR];rw [hpi];exact hs
      rcases hb with ⟨pid,len,ps,fz',h1,h2,h3,h4,h5,h7,h6⟩ | ⟨_,h1,_⟩ | ⟨_,_,h1,_⟩
      ·cases h1;simp only at hs;subst hs
       have k5:Nat.ble (len+([]:List PV).length) 1048576=true:=by
        rw [<- h5,<- h6.length];simp only [List.length_nil,Nat.add_zero,Nat.ble_eq];omega
       have k6:Nat.ble (0+len) ps.length=true:=by rw [h5];simp
       refine VOk.same r e ?_ hs0;simp only [h3,sm,k5,k6,CM rfl h6,Bool.not_true,Bool.or_false,cond_false,cond_true,List.isEmpty_nil]
      ·cases h1
      ·cases h1
     rw [<- E];split at e
     ·exact grow (Y5 ha hx) e
     ·simp only [cond_true] at e;replace e:=ES e;rcases e with ⟨h0,e⟩ | ⟨h0,e⟩
      ·refine stay ?_ e;have h0:new.length=0:=Nat.eq_of_beq_eq_true h0;rw [hnew.length] at h0;exact List.eq_nil_of_length_eq_zero h0
      ·refine grow ?_ e;intro hn;subst hn;have:=hnew.nil_inv';subst this;cases h0
    ·subst hex;rcases hb with ⟨pid,len,ps,fz',h1,h2,h3,h4,h5,h7,h6⟩ | ⟨h1,_,h2⟩ | ⟨ps,h1,_,h2,h3⟩
     ·cases h1;simp only at hs;subst hs;have hpos:=h7 rfl;have k5:Nat.ble (len+newP.length) 1048576=true:=by rw [<- h5,<- h6.length,<- hnew.length];simpa using hle'
      have k6:Nat.ble (0+len) ps.length=true:=by rw [h5];simp
      have k9:(Nat.beq len ps.length&&Nat.beq 0 0&&Nat.blt 0 len)=true:=by rw [h5];simp [hpos]
      obtain ⟨hD,eD⟩:=Dk X.h pid .dead
      obtain ⟨Y0,z1,z2,z3,z4,z5⟩:=r.set (b':=.dead) hj hrow trivial rfl hpi h3 (by intros;simp) eD (λY hY1 hY2 hY3 _ pid' m' e=>by
       rw [hpi] at e;cases e
       exact ⟨by rw [hY3];exact h2,by rw [hY2,(Hp.get_set eD).1,if_pos rfl]⟩) idP
      have w0:Nw Y0 n id idP:=⟨by rw [z1];exact w.pi,w.lt,w.big,by
       rw [z2,(Hp.get_set eD).1];by_cases hq:idP=pid
       ·subst hq;have:=w.hp;rw [h3] at this;cases this
       ·rw [if_neg hq];exact w.hp,by rw [z2,(Hp.get_set eD).2];exact w.hlt⟩
      have hmix:L2 (EP g (DR Y0.h Y0.Q c')) (l++new) (ps++newP):=(EDR.mono (z5 id).up h6).append (EDR.mono (z5 id).up hnew);obtain ⟨hP',Y,y1,y2,y3,_⟩:=SO z4 w0 h4 hmix λ_=>by simp;omega
      refine ⟨_,_,_,hP',Y,e,?_,⟨y2.1,y2.2.1,(z5 id).trans y2.2.2⟩,y3⟩;rw [z2] at y1;simp only [h3,sm,k5,k6,CM rfl h6,k9,Bool.not_true,Bool.or_false,cond_false,cond_true,eD,y1];simp [h5]
     ·cases h1;simp only at hs;subst hs;subst h2;obtain ⟨rd,sd⟩:=r.dead hj hrow rfl (λ_ _ e=>by rw [hpi] at e;cases e) idP;by_cases h0:newP=[]
      ·subst h0;have:=hnew.nil_inv';subst this;obtain ⟨Y,y1,y2⟩:=Q3 (fz:=fz) (g:=g) (c:=c') rd w;exact ⟨_,_,.nils,X.h,Y,e,rfl,⟨y1.1,y1.2.1,(sd id).trans y1.2.2⟩,y2⟩
      ·have hpos:0<newP.length:=List.length_pos_iff.2 h0;obtain ⟨hP',Y,y1,y2,y3,_⟩:=Dy (fz:=fz) rd w hnew λ_=>hpos;refine ⟨_,_,_,hP',Y,e,?_,⟨y2.1,y2.2.1,(sd id).trans y2.2.2⟩,y3⟩;rw [Ft h0,sm,show Nat.ble newP.length 1048576=true from by rw [<- hnew.length];simpa using hle',y1];rfl
     ·cases h1;simp only at hs;subst hs;obtain ⟨rd,sd⟩:=r.dead hj hrow rfl (λ_ _ e=>by rw [hpi] at e;cases e) idP;by_cases h0:newP=[]
      ·subst h0;have:=hnew.nil_inv';subst this
       have hx : ∃ Y,K5 X (Ad h j .dead) n id idP (Ad (Ad h j .dead) id (.row g c' l false fz false)) X.h Y/\VR Y (.ow id) (.lst true ps):=by
        rcases h2 with rfl | rfl
        ·exact iS (g:=g) (c:=c') (l:=l) rd w h3
        ·rw [h3.nil_inv];exact Q4 (g:=g) (c:=c') (fz:=fz) rd w
       obtain ⟨Y,y1,y2⟩:=hx;refine ⟨_,_,_,X.h,Y,e,rfl,⟨?_,?_,?_⟩,y2⟩
       ·exact y1.1
       ·have:=y1.2.1;rw [show DK l []=l from List.append_nil l];exact this
       ·have:=y1.2.2;rw [show DK l []=l from List.append_nil l];exact (sd id).trans this
      ·obtain ⟨hP',Y,y1,y2,y3,_⟩:=Dy (fz:=fz) rd w ((EPL.up h3).append hnew) λ_=>by simp;have:=List.length_pos_iff.2 h0;omega
       refine ⟨_,_,_,hP',Y,e,?_,⟨y2.1,y2.2.1,(sd id).trans y2.2.2⟩,y3⟩;have h5:Nat.ble (ps.length+newP.length) 1048576=true:=by rw [<- h3.length,<- hnew.length];simpa using hle'
       dsimp only;rw [Ft h0,sm,h5,CM rfl (EPL.up (hh:=X.h) (Q:=X.Q) h3),y1];simp
  ·cases e
 ·rename_i j off len;split at e
  ·rename_i g' c' l hrow;replace e:=A3 e;obtain ⟨hg,e⟩:=e;have:=eq_of_beq hg;subst this;replace e:=Ck e;obtain ⟨hc,e⟩:=e;subst hc;replace e:=Ap e;obtain ⟨hle,e⟩:=e;replace e:=Ap e;obtain ⟨hin,e⟩:=e;have hle':len+new.length<=1048576:=by simpa [A6,AA,AJ] using hle
   have hin':off+len<=l.length:=by simpa [A6,AA,AJ] using hin
   have hs0:=hs;simp only [VR] at hs;obtain ⟨pid,m,hpi,rfl⟩:=hs;have hj:j<1048575:=by have:=r.dom _ _ hpi;have:=w.big;omega
   obtain ⟨ps,fz',p3,p4,p5,p7,p6⟩:=r.rowAt hpi hrow;have:=p4 rfl;subst this;have hl:=p6.length;have k5:Nat.ble (len+newP.length) 1048576=true:=by rw [<- hnew.length];simpa using hle'
   have k6:Nat.ble (off+len) ps.length=true:=by rw [<- hl];simpa using hin'
   replace e:=ES e;rcases e with ⟨h0,e⟩ | ⟨h0,e⟩
   ·have h0:new.length=0:=Nat.eq_of_beq_eq_true h0;rw [hnew.length] at h0;have h0:=List.eq_nil_of_length_eq_zero h0;subst h0;refine VOk.same r e ?_ hs0;simp only [p3,sm,k5,k6,CM rfl p6,Bool.not_true,Bool.or_false,cond_false,cond_true,List.isEmpty_nil]
   ·have hne:newP≠[]:=λhn=>by
     subst hn;have:=hnew.nil_inv';subst this;cases h0
    replace e:=ES e;rcases e with ⟨hb,e⟩ | ⟨hb,e⟩
    ·have hb':off+len+newP.length<=ps.length:=by
      rw [<- hl,<- hnew.length];simpa [A6,AJ,AA] using hb
     have k7:Nat.ble (off+len+newP.length) ps.length=true:=by simpa using hb'
     have htk:newP.take new.length=newP:=by rw [hnew.length,List.take_length]
     obtain ⟨hP',eS⟩:=Dk X.h pid (.row (Pi.Em ps (off+len) newP) true false)
     obtain ⟨Y,y1,y2,y3,y4,y5⟩:=r.set (b':=.row g c' (DB l (AJ off len) new (AA new)) true false false) hj hrow trivial rfl hpi p3 (by intros;simp) eS
      (λY y1 y2 y3 u=>by
       rw [hpi];refine .inl ⟨pid,m,_,false,rfl,by rw [y3];exact (hpi ▸ r.blk _ _ hrow).own trivial,by rw [y2,(Hp.get_set eS).1,if_pos rfl],λ_=>rfl,?_,p7,EDR.mono u ?_⟩
       ·rw [SP hb'];exact p5
       ·have:=Vr p6 hnew (off+len) new.length
        rw [htk] at this;exact this) idP
     refine ⟨_,_,.own pid off (len+newP.length),hP',Y,e,?_,⟨y2,y4,y5 id⟩,by simp only [VR];exact ⟨pid,m,by rw [y1];exact hpi,by simp [AJ,AA,hnew.length]⟩⟩;simp only [p3,sm,k5,k6,k7,CM rfl p6,Ft hne,Bool.not_true,Bool.or_false,cond_false,cond_true,eS];rfl
    ·have k7:Nat.ble (off+len+newP.length) ps.length=false:=by
      cases hq:Nat.ble (off+len+newP.length) ps.length with
      | false=>rfl
      | true =>
       have h7:=Nat.le_of_ble_eq_true hq;rw [<- hl,<- hnew.length] at h7;have:A6 (AJ (AJ off len) (AA new)) (AA l)=true:=by simpa [A6,AJ,AA] using h7
       rw [this] at hb;cases hb
     have hsub:L2 (EP g (DR X.h X.Q c')) (B3 l off (AJ off len)) ((ps.drop off).take len):=by
      have:=(p6.drop off).take len;unfold B3 AJ;rw [show off+len-off=len by omega];exact this
     have hlen:((ps.drop off).take len).length=len:=by simp;omega
     have hpos:0<newP.length:=List.length_pos_iff.2 hne;obtain ⟨hP',Y,y1,y2,y3,_⟩:=Dy (fz:=false) r w (hsub.append hnew) λ_=>by simp;omega
     refine ⟨_,_,_,hP',Y,e,?_,y2,y3⟩;simp only [p3,sm,k5,k6,k7,CM rfl p6,Ft hne,Bool.not_true,Bool.or_false,cond_false,cond_true,y1];simp [hlen]
  ·cases e
 ·cases e
end
end Go.Proofs.YthpkjfabdccpdaaGreat.Sv
namespace Go.Proofs.YthpkjfabdccpdaaGreat.Sv
open Go.Proofs.YthpkjfabdccpdaaGreat.Pi (PV T Hp Blk DF UM PE Au A8)
section
variable {X:Cx} {h:H} {n id idP:Nat} {β:Type} {x:β} {P:Program}
theorem Gd {k:Ty} {d:TypeDesc} {e:k.den->k.den->Bool} {a b:k.den} {p q:PV} (hd:JQ k d=true) (he:iK k=some e) (ha:DP k a [p]) (hb:DP k b [q]):Pi.QT d p q=some (e a b):=by
 cases k with
 | int kk =>
  cases d<;>simp [JQ] at hd;cases he;simp only [DP,List.cons.injEq,and_true] at ha hb;subst ha;subst hb;simp [Pi.QT,Bm]
 | bool =>
  cases d<;>simp [JQ] at hd;cases he;simp only [DP,List.cons.injEq,and_true] at ha hb;subst ha;subst hb;simp [Pi.QT,beq]
 | str =>
  cases d<;>simp [JQ] at hd;cases he;simp only [DP,List.cons.injEq,and_true] at ha hb;subst ha;subst hb;simp [Pi.QT,seq]
 | unit=>cases he
 | pair=>cases he
 | sl=>cases he
theorem Ih {k:Ty} {d:TypeDesc} (hd:JQ k d=true):Pi.Ga d=true:=by
 cases k<;>cases d<;>simp [JQ] at hd<;>rfl
variable {k:Ty} {g:Bool} {c:Ty} {d:TypeDesc} {e:k.den->k.den->Bool}
theorem Vs (hd:JQ k d=true) (he:iK k=some e) {a:k.den} {p:PV} (ha:DP k a [p]) : ∀ {l:List (k.den×c.den)} {es:List (PV×PV)},L2 (MR X k g c) l es ->
  (IE e l a=none/\Pi.NB d es p=some none) \/ ∃ y v,IE e l a=some y/\Pi.NB d es p=some (some v)/\EP g (DR X.h X.Q c) y v
 | _,_,.nil => .inl ⟨rfl,rfl⟩
 | (a1,y1)::l,(p1,v1)::es,.cons h t=>by
  have hk:=Gd hd he ha h.1;unfold IE Pi.NB;rw [hk];cases hb:e a a1 with
  | true=>exact .inr ⟨y1,v1,rfl,rfl,h.2⟩
  | false=>simpa using Vs hd he ha t
theorem LW (hd:JQ k d=true) (he:iK k=some e) {a:k.den} {p:PV} (ha:DP k a [p]) {y:c.den} {v:PV} (hy:EP g (DR X.h X.Q c) y v) : ∀ {l:List (k.den×c.den)} {es:List (PV×PV)},L2 (MR X k g c) l es ->
  ∃ es',Pi.HW d es p v=some es'/\L2 (MR X k g c) (HW e l a y) es'
 | _,_,.nil=>⟨[(p,v)],rfl,.cons ⟨ha,hy⟩ .nil⟩
 | (a1,y1)::l,(p1,v1)::es,.cons h t=>by
  have hk:=Gd hd he ha h.1;unfold HW Pi.HW;rw [hk];cases hb:e a a1 with
  | true=>exact ⟨_,rfl,.cons ⟨ha,hy⟩ t⟩
  | false =>
   obtain ⟨es',h1,h2⟩:=LW hd he ha hy t;exact ⟨(p1,v1)::es',by simp [h1],.cons h h2⟩
theorem La (hd:JQ k d=true) (he:iK k=some e) {a:k.den} {p:PV} (ha:DP k a [p]) : ∀ {l:List (k.den×c.den)} {es:List (PV×PV)},L2 (MR X k g c) l es ->
  ∃ es',Pi.JG d es p=some es'/\L2 (MR X k g c) (JG e l a) es'
 | _,_,.nil=>⟨[],rfl,.nil⟩
 | (a1,y1)::l,(p1,v1)::es,.cons h t=>by
  have hk:=Gd hd he ha h.1;unfold JG Pi.JG;rw [hk];cases hb:e a a1 with
  | true=>exact ⟨_,rfl,t⟩
  | false =>
   obtain ⟨es',h1,h2⟩:=La hd he ha t;exact ⟨(p1,v1)::es',by simp [h1],.cons h h2⟩
theorem DP.key {hh:Hp} {Q:Nat->Prop} (he:iK k=some e) {a:k.den} {ps:List PV} (h:DR hh Q k a ps):DP k a ps:=by
 cases k with
 | int | bool | str=>exact h
 | unit=>cases he
 | pair=>cases he
 | sl=>cases he
end
section
variable {X:Cx} {h:H} {n id idP:Nat} {β:Type} {x:β} {P:Program}
theorem Q5 (r:RH X h n) {ty:TypeId} {m v:V} {mP p:PV} {K:(j:Nat)->(k:Ty)->(g:Bool)->(c:Ty)->List (k.den×c.den)->Bool->(k.den->k.den->Bool)->k.den->Option β}
  (hm:VR X m mP) (hv:VR X v p) (e:Yo P ty m v h K=some x) :
  ∃ j k g c l lk f a kt et d pid m' es,K j k g c l lk f a=some x/\m = .mp j/\h.get j=some (.mp k g c l lk)/\X.π j=some (.blk pid m')/\mP = .mp pid/\X.h.get pid=some (.mp es)/\L2 (MR X k g c) l es /\
   P.underlying ty=some (.map kt et)/\P.underlying kt=some d/\JQ k d=true/\iK k=some f/\DP k a [p]:=by
 unfold Yo at e;split at e
 ·rename_i kt et j hu;split at e
  ·rename_i d k g c l lk hd hg;replace e:=A3 e;obtain ⟨hk,e⟩:=e;replace e:=AX e;obtain ⟨f,hf,e⟩:=e;replace e:=Ls (VRL.cons hv .nil) e;obtain ⟨a,rr,p',q,e,h5,d1,r1⟩:=e;split at e
   ·rw [r1.nil_inv,List.append_nil] at h5;simp only [VR] at hm;obtain ⟨pid,m',hpi,rfl⟩:=hm;have hb:=r.blk _ _ hg;rw [hpi] at hb;obtain ⟨_,_,es,h2,h3,h4,h6⟩:=hb;cases h2;exact ⟨j,k,g,c,l,lk,f,a,kt,et,d,_,m',es,e,rfl,hg,hpi,rfl,h4,h6,hu,hd,hk,hf,DP.key hf (h5 ▸ d1)⟩
   ·cases e
  ·cases e
 ·cases e
theorem UA (r:RH X h n) {ty:TypeId} {m k:V} {mP p:PV} {ok:Bool} {K:V->Option β} (hm:VR X m mP) (hk:VR X k p) (e:Qs P h ty m k ok K=some x) :
  ∃ v q,K v=some x/\Pi.HD P X.h ty mP p ok=some (.val q X.h)/\VR X v q:=by
 unfold Qs at e;split at e
 ·simp only [VR] at hm;subst hm;split at e
  ·rename_i kt et hu;split at e
   ·rename_i d z hd hz;replace e:=A3 e;obtain ⟨hkd,e⟩:=e;obtain ⟨zP,h1,h2⟩:=K1 (X:=X) hz;refine ⟨_,bif ok then .tup [zP,.bool false] else zP,e,?_,?_⟩
    ·unfold Pi.HD;simp only [hu,Pi.Rf,hd,hkd,Bool.not_true,cond_false,Pi.NB,h1];rfl
    ·cases ok
     ·exact h2
     ·simp only [cond_true,VR];exact ⟨_,rfl,.cons h2 (.cons (by simp [VR]) .nil)⟩
   ·cases e
  ·cases e
 ·rename_i hne;replace e:=Q5 r hm hk e;obtain ⟨j,kk,g,c,l,lk,f,a,kt,et,d,pid,m',es,e,rfl,hg,hpi,rfl,h4,h6,hu,hd,hko,hf,hdp⟩:=e;simp only [hu] at e;replace e:=AX e;obtain ⟨z,hz,e⟩:=e;obtain ⟨zP,h1,h2⟩:=K1 (X:=X) hz;replace e:=JW h2 e;obtain ⟨y,e,hy⟩:=e
  have fin : ∀ {yv:c.den} {vP:PV} {b:Bool},EP g (DR X.h X.Q c) yv vP->VR X (bif ok then V.tup [Wn g c yv,.bool b] else Wn g c yv) (bif ok then PV.tup [vP,.bool b] else vP):=by
   intro yv vP b hE;cases ok
   ·exact K3 hE
   ·simp only [cond_true,VR];exact ⟨_,rfl,.cons (K3 hE) (.cons (by simp [VR]) .nil)⟩
  rcases Vs (d:=d) hko hf hdp h6 with ⟨m1,m2⟩ | ⟨y',v',m1,m2,m3⟩
  ·refine ⟨_,_,e,?_,by rw [m1];exact fin hy⟩;unfold Pi.HD;simp only [hu,Pi.Rf,h4,hd,Ih hko,Bool.not_true,cond_false,m2,h1];rfl
  ·refine ⟨_,_,e,?_,by rw [m1];exact fin m3⟩;unfold Pi.HD;simp only [hu,Pi.Rf,h4,hd,Ih hko,Bool.not_true,cond_false,m2];rfl
theorem RH.mapSet (r:RH X h n) (hn:n<=1048575) {j pid m:Nat} {k:Ty} {g:Bool} {c:Ty} {l l':List (k.den×c.den)} {es es':List (PV×PV)} (hg:h.get j=some (.mp k g c l false)) (hpi:X.π j=some (.blk pid m)) (h4:X.h.get pid=some (.mp es)) (hl:L2 (MR X k g c) l' es') :
  ∃ hP' Y,X.h.set pid (.mp es')=some hP' /\ ∀ i iP,K5 X h n i iP (Ad h j (.mp k g c l' false)) hP' Y:=by
 obtain ⟨hP',e⟩:=Dk X.h pid (.mp es');have hj:j<1048575:=by have:=r.dom _ _ hpi;omega
 have key : ∀ iP,∃ Y:Cx,Y.π=X.π/\Y.h=hP'/\Y.O=X.O/\RH Y (Ad h j (.mp k g c l' false)) n /\ ∀ i,St X h i iP Y (Ad h j (.mp k g c l' false)):=λiP =>
  r.set (b':=.mp k g c l' false) hj hg trivial rfl hpi h4 (by intros;simp) e (λY y1 y2 y3 u=>by
   rw [hpi]
   exact ⟨pid,m,es',rfl,by rw [y3];exact (hpi ▸ r.blk _ _ hg).own trivial,by rw [y2,(Hp.get_set e).1,if_pos rfl],hl.mono λ_ _ m=>⟨m.1,m.2.mono λ_ _ k=>DR.mono u.rows k⟩⟩) iP
 obtain ⟨Y,y1,y2,y3,y4,y5⟩:=key 0;refine ⟨hP',Y,e,λi iP=>⟨y2,y4,?_⟩⟩;obtain ⟨Y',z1,z2,z3,z4,z5⟩:=key iP
 have:Y'=Y:=by
  cases Y;cases Y';simp only at y1 y2 y3 z1 z2 z3;subst y1;subst y2;subst y3;subst z1;subst z2;subst z3;rfl
 subst this;exact z5 i
theorem Ka (r:RH X h n) (hn:n<=1048575) {ty:TypeId} {m k v:V} {mP p q:PV} {K:H->Option β} (hm:VR X m mP) (hk:VR X k p) (hv:VR X v q) (id idP:Nat) (e:Ic P h ty m k v K=some x) :
  ∃ h' hP' Y,K h'=some x/\Pi.FY P X.h ty mP p q=some (.skip hP')/\K5 X h n id idP h' hP' Y:=by
 unfold Ic at e;replace e:=Q5 r hm hk e;obtain ⟨j,kk,g,c,l,lk,f,a,kt,et,d,pid,m',es,e,rfl,hg,hpi,rfl,h4,h6,hu,hd,hko,hf,hdp⟩:=e;replace e:=C4 e;obtain ⟨hlk,e⟩:=e;subst hlk;replace e:=JW hv e;obtain ⟨y,e,hy⟩:=e;obtain ⟨es',p1,p2⟩:=LW (d:=d) hko hf hdp hy h6;obtain ⟨hP',Y,e1,y1⟩:=r.mapSet hn hg hpi h4 p2;refine ⟨_,hP',Y,e,?_,y1 id idP⟩;unfold Pi.FY;simp only [hu,hd,Ih hko,Bool.not_true,cond_false,h4,p1,e1];rfl
theorem OG {f:Int->Int->Int} {F:Int->Int->Int} (hf : ∀ a b,f a b=F a b) {k:IntKind} : ∀ {m:Int} {vs:List V} {ps:List PV} {K:Int->Option β},VRL X vs ps->Ph f k m vs K=some x -> ∃ r,K r=some x/\Pi.FO F m ps k=some r
 | m,[],_,K,h,e=>by rw [h.nil_inv];exact ⟨m,e,rfl⟩
 | m,v::vs,_,K,h,e=>by
  obtain ⟨p,qs,rfl,h1,h2⟩:=h.cons_inv;cases v with
  | int k' y =>
   unfold Ph at e;replace e:=A3 e;obtain ⟨hk,e⟩:=e;simp only [VR] at h1;subst h1;obtain ⟨r,e1,r1⟩:=OG hf h2 e;refine ⟨r,e1,?_⟩;have hk':(k' == k)=true:=by rw [beq_iff_eq] at hk ⊢;exact hk.symm
   unfold Pi.FO;rw [hk',<- hf];exact r1
  | _=>simp [Ph] at e
theorem SQ (r:RH X h n) (w:Nw X n id idP) {b:Builtin} {ats:Array TypeId} {args:List V} {ps:List PV} {K:RA->Option β} (ha:VRL X args ps) (e:OA P h id b ats args K=some x) :
  VOk X h n id idP K x (Pi.Af P X.h idP b ats ps)\/(∃ v p,K (.pan v)=some x/\Pi.Af P X.h idP b ats ps=some (.pan p)/\VR X v p)\/(K .rcv=some x/\Pi.Af P X.h idP b ats ps=some .rcv):=by
 unfold OA at e;split at e
 ·
  split at e
  ·rename_i a t ht;obtain ⟨p,qs,rfl,h1,h2⟩:=ha.cons_inv;rw [h2.nil_inv];obtain ⟨m,e1,e2⟩:=fR r ht h1 e idP;exact .inl (.same r e1 e2 (by simp [VR]))
  ·cases e
 ·
  split at e
  ·rename_i a t ht;obtain ⟨p,qs,rfl,h1,h2⟩:=ha.cons_inv;rw [h2.nil_inv];split at e
   ·rename_i et j hu;split at e
    ·rename_i g c l fz lk hg;simp only [VR] at h1;cases hpi:X.π j with
     | none=>rw [hpi] at h1;exact h1.elim
     | some tt =>
      rw [hpi] at h1;have hb:=r.blk _ _ hg;rw [hpi] at hb;rcases hb with ⟨pid,len,es,fz',k1,k2,k3,k4,k5,k7,k6⟩ | ⟨_,k1,_⟩ | ⟨_,_,k1,_⟩
      ·cases k1;simp only at h1;subst h1;refine .inl (.same r e (p:=.int .i64 (es.length-0:Nat)) ?_ (by simp [VR,AV,AA,k6.length]));unfold Pi.Af;simp only [ht,hu,k3]
      ·cases k1
      ·cases k1
    ·cases e
   ·rename_i et j off len hu;split at e
    ·rename_i g c l fz lk hg;simp only [VR] at h1;obtain ⟨pid,m,hpi,rfl⟩:=h1;obtain ⟨es,fz',h3,_,h5,_,h6⟩:=r.rowAt hpi hg;refine .inl (.same r e (p:=.int .i64 (es.length-off:Nat)) ?_ (by simp [VR,AV,CF,AA,h6.length]));unfold Pi.Af;simp only [ht,hu,h3]
    ·cases e
   ·rename_i hu;simp only [VR] at h1;subst h1;refine .inl (.same r e (p:=.int .i64 0) ?_ (by simp [VR]));unfold Pi.Af;simp only [ht,hu]
   ·cases e
  ·cases e
 ·
  split at e
  ·rename_i s a t t' hts;replace e:=A3 e;obtain ⟨hb,e⟩:=e;obtain ⟨p,qs,rfl,h1,h2⟩:=ha.cons_inv;obtain ⟨q,qs,rfl,h3,h4⟩:=h2.cons_inv;rw [h4.nil_inv];have:=fT r w h1 h3 e;refine .inl ?_
   have hp:Pi.Af P X.h idP .append ats [p,q]=Pi.JD P X.h idP t p q:=by
    unfold Pi.Af;simp only [hts,hb,cond_true]
   rw [hp];exact this
  ·cases e
 ·
  split at e
  ·rename_i dst a t ht;obtain ⟨p,qs,rfl,h1,h2⟩:=ha.cons_inv;obtain ⟨q,qs,rfl,h3,h4⟩:=h2.cons_inv;rw [h4.nil_inv];replace e:=AX e;obtain ⟨⟨g,c⟩,hel,e⟩:=e;replace e:=C4 e;obtain ⟨hek,e⟩:=e;replace e:=Pr r h3 e;obtain ⟨new,newP,e,hx,hnew⟩:=e;have hek:Pg P t c=true:=by simpa using hek
   have go : ∀ {j pid m off len:Nat} {l:List c.den} {ex:Bool} {es:List PV},h.get j=some (.row g c l ex false false)->X.π j=some (.blk pid m)->X.h.get pid=some (.row es ex false)->es.length=m->(ex=false->0<m)->L2 (EP g (DR X.h X.Q c)) l es->off+len<=es.length ->
     K (.val (.int .i64 (AV (fA (AA new) len))) (Ad h j (.row g c (DB l off new len) ex false false)))=some x->VOk X h n id idP K x (Pi.Af P X.h idP .copy ats [.own pid off len,q]):=by
    intro j pid m off len l ex es hg hpi k3 k5 k9 k6 hle e;obtain ⟨hP',eS⟩:=Dk X.h pid (.row (Pi.Em es off (newP.take len)) ex false);have hj:j<1048575:=by have:=r.dom _ _ hpi;have:=w.big;omega
    obtain ⟨Y,y1,y2,y3,y4,y5⟩:=r.set (b':=.row g c (DB l off new len) ex false false) hj hg trivial rfl hpi k3 (by intros;simp) eS
     (λY y1 y2 y3 u=>by
      rw [hpi];refine .inl ⟨pid,m,_,false,rfl,by rw [y3];exact (hpi ▸ r.blk _ _ hg).own trivial,by rw [y2,(Hp.get_set eS).1,if_pos rfl],λ_=>rfl,?_,k9,EDR.mono u (Vr k6 hnew off len)⟩
      rw [SP (by simp;omega)];exact k5) idP
    refine ⟨_,_,.int .i64 (Nat.min newP.length len:Nat),hP',Y,e,?_,⟨y2,y4,y5 id⟩,by simp [VR,AV,fA,AA,hnew.length]⟩;unfold Pg at hek;split at hek
    ·rename_i et hu;split at hek
     ·rename_i ti z hti hz;simp only [Bool.and_eq_true,Nat.beq_eq] at hek;obtain ⟨⟨⟨g1,g2⟩,g3⟩,g4⟩:=hek;have htz:Pi.BV P et=some ti.size:=by unfold Pi.BV;rw [hti];rfl
      unfold Pi.Af;simp only [ht,hu,k3,hx,htz];rw [Yz g1 hnew,show Nat.ble (off+len) es.length=true from by simpa using hle,g4,CM g1 k6];simp [eS]
     ·cases hek
    ·cases hek
   refine .inl ?_;split at e
   ·rename_i j;split at e
    ·rename_i g' c' l hg;replace e:=A3 e;obtain ⟨hgg,e⟩:=e;have:=eq_of_beq hgg;subst this;replace e:=Ck e;obtain ⟨hc,e⟩:=e;subst hc;simp only [VR] at h1;cases hpi:X.π j with
     | none=>rw [hpi] at h1;exact h1.elim
     | some tt =>
      rw [hpi] at h1;have hb:=r.blk _ _ hg;rw [hpi] at hb;rcases hb with ⟨pid,len,es,fz',k1,k2,k3,k4,k5,k7,k6⟩ | ⟨_,k1,_⟩ | ⟨_,_,k1,_⟩
      ·cases k1;simp only at h1;subst h1;have:=k4 rfl;subst this;have hl:AA l=len:=by rw [<- k5,<- k6.length];rfl
       rw [hl] at e;exact go hg hpi k3 k5 k7 k6 (by omega) e
      ·cases k1
      ·cases k1
    ·cases e
   ·rename_i j off len;split at e
    ·rename_i g' c' l ex hg;replace e:=A3 e;obtain ⟨hgg,e⟩:=e;have:=eq_of_beq hgg;subst this;replace e:=Ck e;obtain ⟨hc,e⟩:=e;subst hc;replace e:=Ap e;obtain ⟨hle,e⟩:=e;simp only [VR] at h1;obtain ⟨pid,m,hpi,rfl⟩:=h1;obtain ⟨es,fz',k3,k4,k5,k7,k6⟩:=r.rowAt hpi hg;have:=k4 rfl;subst this;exact go hg hpi k3 k5 k7 k6 (by rw [<- k6.length];simpa [A6,AJ,AA] using hle) e
    ·cases e
   ·cases e
  ·cases e
 ·
  split at e
  ·rename_i j t ht;obtain ⟨p,qs,rfl,h1,h2⟩:=ha.cons_inv;rw [h2.nil_inv];split at e
   ·rename_i kt et kk g c l hu hg;simp only [VR] at h1;obtain ⟨pid,m,hpi,rfl⟩:=h1;have hb:=r.blk _ _ hg;rw [hpi] at hb;obtain ⟨_,_,es,k2,k3,k4,k6⟩:=hb;cases k2;obtain ⟨hP',Y,e1,y1⟩:=r.mapSet w.big hg hpi k4 (l':=[]) (es':=[]) .nil;refine .inl ⟨_,_,.tup [],hP',Y,e,?_,y1 id idP,by simp [VR,VRL]⟩;unfold Pi.Af;simp only [ht,hu,k4,e1];rfl
   ·cases e
  ·cases e
 ·
  split at e
  ·rename_i m v t ht;obtain ⟨p,qs,rfl,h1,h2⟩:=ha.cons_inv;obtain ⟨q,qs,rfl,h3,h4⟩:=h2.cons_inv;rw [h4.nil_inv];replace e:=Q5 r h1 h3 e;obtain ⟨j,kk,g,c,l,lk,f,a,kt,et,d,pid,m',es,e,rfl,hg,hpi,rfl,h4,h6,hu,hd,hko,hf,hdp⟩:=e;replace e:=C4 e;obtain ⟨hlk,e⟩:=e;subst hlk;obtain ⟨es',p1,p2⟩:=La (d:=d) hko hf hdp h6;obtain ⟨hP',Y,e1,y1⟩:=r.mapSet w.big hg hpi h4 p2;refine .inl ⟨_,_,.tup [],hP',Y,e,?_,y1 id idP,by simp [VR,VRL]⟩;unfold Pi.Af;simp only [ht,hu,h4,hd,Ih hko,Bool.not_true,cond_false,p1,e1];rfl
  ·cases e
 ·
  split at e
  ·rename_i k a vs;obtain ⟨p,qs,rfl,h1,h2⟩:=ha.cons_inv;simp only [VR] at h1;subst h1;obtain ⟨rr,e1,e2⟩:=OG (F:=λm y=>if y>m then y else m) (λa b=>rfl) h2 e
   refine .inl (.same r e1 (p:=.int k rr) ?_ (by simp [VR]));unfold Pi.Af;simp only [e2];rfl
  ·cases e
 ·
  split at e
  ·rename_i k a vs;obtain ⟨p,qs,rfl,h1,h2⟩:=ha.cons_inv;simp only [VR] at h1;subst h1;obtain ⟨rr,e1,e2⟩:=OG (F:=λm y=>if y<m then y else m) (λa b=>rfl) h2 e
   refine .inl (.same r e1 (p:=.int k rr) ?_ (by simp [VR]));unfold Pi.Af;simp only [e2];rfl
  ·cases e
 ·
  split at e
  ·rename_i t v;obtain ⟨p,qs,rfl,h1,h2⟩:=ha.cons_inv;rw [h2.nil_inv];simp only [VR] at h1;obtain ⟨q,rfl,h1⟩:=h1;exact .inr (.inl ⟨_,_,e,rfl,by simp only [VR];exact ⟨q,rfl,h1⟩⟩)
  ·cases e
 ·exact .inr (.inr ⟨e,rfl⟩)
 ·cases e
end
end Go.Proofs.YthpkjfabdccpdaaGreat.Sv
namespace Go.Proofs.YthpkjfabdccpdaaGreat.Sv
open Go.Proofs.YthpkjfabdccpdaaGreat.Pi (PV T Hp Blk DF UM PE Au A8 AM BO By)
section
variable {X:Cx} {h:H} {n id idP:Nat} {β:Type} {x:β} {P:Program}
theorem H0 {f:PV->Option (PV×List Nat)} : ∀ {a b qa qb:List PV} {la lb:List Nat},AM f a=some (qa,la)->AM f b=some (qb,lb)->AM f (a++b)=some (qa++qb,la++lb)
 | [],b,qa,qb,la,lb,h1,h2=>by cases h1;exact h2
 | p::a,b,qa,qb,la,lb,h1,h2=>by
  simp only [AM] at h1;split at h1
  ·rename_i q l qs m e1 e2;cases h1;have:=H0 e2 h2
   show (match f p,AM f (a++b) with
    | some (q,a),some (qs,b)=>some (q::qs,a++b)
    | _,_=>none)=_
   rw [e1,this];simp
  ·cases h1
theorem Dz {f:PV->Option (PV×List Nat)} {p q:PV} {l:List Nat} (h:f p=some (q,l)):AM f [p]=some ([q],l):=by simp [AM,h]
def Met (h:Hp) (Q:Nat->Prop) (l:List Nat):Prop := ∀ i∈l,Q i /\ ∃ es ex fz,h.get i=some (.row es ex fz)
theorem Met.nil {h:Hp} {Q:Nat->Prop}:Met h Q []:=λ_ hi=>by cases hi
theorem Met.append {h:Hp} {Q:Nat->Prop} {a b:List Nat} (ha:Met h Q a) (hb:Met h Q b):Met h Q (a++b):=λi hi=>(List.mem_append.1 hi).elim (ha i) (hb i)
theorem Met.mono {h:Hp} {Q Q':Nat->Prop} {a:List Nat} (f : ∀ i,Q i->Q' i) (ha:Met h Q a):Met h Q' a:=λi hi=>⟨f _ (ha i hi).1,(ha i hi).2⟩
theorem SR {hh:Hp} {Q:Nat->Prop} {g:Bool} {c:Ty} {d:Nat} (ih : ∀ {y:c.den} {ps:List PV},DR hh Q c y ps -> ∀ d',2*c.depth+1<=d' -> ∃ qs ids,AM (BO hh d') ps=some (qs,ids)/\DP c y qs/\Met hh Q ids) (hd:2*c.depth+2<=d)
  {y:c.den} {e:PV} (h:EP g (DR hh Q c) y e) : ∃ q ids,BO hh d e=some (q,ids)/\EP g (DP c) y q/\Met hh Q ids:=by
 cases g with
 | true =>
  obtain ⟨cs,rfl,h⟩:=h;obtain ⟨d,rfl⟩ : ∃ d',d=d'+1:=⟨d-1,by omega⟩;obtain ⟨qs,ids,h1,h2,h3⟩:=ih h d (by omega);exact ⟨.agg qs,ids,by simp only [BO,h1];rfl,⟨qs,rfl,h2⟩,h3⟩
 | false =>
  obtain ⟨qs,ids,h1,h2,h3⟩:=ih (show DR hh Q c y [e] from h) d (by omega);simp only [AM] at h1;split at h1
  ·rename_i q l qs' m e1 e2;cases e2;cases h1;exact ⟨q,l,e1,h2,by simpa using h3⟩
  ·cases h1
theorem Ps {α:Type} {hh:Hp} {Q:Nat->Prop} {R S:α->PV->Prop} {d:Nat} (f : ∀ y e,R y e -> ∃ q ids,BO hh d e=some (q,ids)/\S y q/\Met hh Q ids) :
  ∀ {l:List α} {es:List PV},L2 R l es -> ∃ qs ids,AM (BO hh d) es=some (qs,ids)/\L2 S l qs/\Met hh Q ids
 | _,_,.nil=>⟨[],[],rfl,.nil,.nil⟩
 | _,_,.cons h t=>by
  obtain ⟨q,a,h1,h2,h3⟩:=f _ _ h;obtain ⟨qs,b,k1,k2,k3⟩:=Ps f t;exact ⟨q::qs,a++b,by simp [AM,h1,k1],.cons h2 k2,h3.append k3⟩
theorem JX : ∀ {hh:Hp} {Q:Nat->Prop} {c:Ty} {y:c.den} {ps:List PV},DR hh Q c y ps -> ∀ d,2*c.depth+1<=d -> ∃ qs ids,AM (BO hh d) ps=some (qs,ids)/\DP c y qs/\Met hh Q ids
 | hh,Q,.int k,y,ps,e,d,hd=>by
  obtain ⟨d,rfl⟩ : ∃ d',d=d'+1:=⟨d-1,by omega⟩;subst e;exact ⟨[_],[],Dz rfl,rfl,.nil⟩
 | hh,Q,.bool,y,ps,e,d,hd=>by
  obtain ⟨d,rfl⟩ : ∃ d',d=d'+1:=⟨d-1,by omega⟩;subst e;exact ⟨[_],[],Dz rfl,rfl,.nil⟩
 | hh,Q,.str,y,ps,e,d,hd=>by
  obtain ⟨d,rfl⟩ : ∃ d',d=d'+1:=⟨d-1,by omega⟩;subst e;exact ⟨[_],[],Dz rfl,rfl,.nil⟩
 | hh,Q,.unit,y,ps,e,d,hd=>by subst e;exact ⟨[],[],rfl,rfl,.nil⟩
 | hh,Q,.pair a b,y,ps,⟨p,q,e,h1,h2⟩,d,hd=>by
  subst e;have hm:(Ty.pair a b).depth=Nat.max a.depth b.depth:=rfl;rw [hm] at hd;have l1:=Nat.le_max_left a.depth b.depth;have l2:=Nat.le_max_right a.depth b.depth;obtain ⟨qa,la,k1,k2,k3⟩:=JX h1 d (by have:a.depth<=Nat.max a.depth b.depth:=l1;omega);obtain ⟨qb,lb,m1,m2,m3⟩:=JX h2 d (by have:b.depth<=Nat.max a.depth b.depth:=l2;omega);exact ⟨qa++qb,la++lb,H0 k1 m1,⟨qa,qb,rfl,k2,m2⟩,k3.append m3⟩
 | hh,Q,.sl g c,y,ps,⟨p,e,h⟩,d,hd=>by
  subst e;have hm:(Ty.sl g c).depth=c.depth+1:=rfl;rw [hm] at hd;obtain ⟨d,rfl⟩ : ∃ d',d=d'+1:=⟨d-1,by omega⟩;rcases h with ⟨rfl,rfl⟩ | ⟨f,es,rfl,h2⟩ | ⟨pid,off,len,es,ex,fz,rfl,h2,h3,h4,h8,h5⟩
  ·exact ⟨[.nils],[],Dz rfl,⟨_,rfl,.inl ⟨rfl,rfl⟩⟩,.nil⟩
  ·exact ⟨[.lst f es],[],Dz rfl,⟨_,rfl,.inr ⟨f,es,rfl,h2⟩⟩,.nil⟩
  ·obtain ⟨qs,ids,k1,k2,k3⟩:=Ps (λy e hE=>SR (d:=d) (λhh' d' hd'=>JX hh' d' hd') (by omega) hE) h5;refine ⟨[.lst false qs],pid::ids,Dz ?_,⟨_,rfl,.inr ⟨false,qs,rfl,k2⟩⟩,λi hi => ?_⟩
   ·simp only [BO,h3];rw [show Nat.ble (off+len) es.length=true from by simpa using h4];simp only [cond_true,k1];rfl
   ·rcases List.mem_cons.1 hi with rfl | hi
    ·exact ⟨h2,es,ex,fz,h3⟩
    ·exact k3 i hi
theorem Vt : ∀ {hh:Hp} {Q Q':Nat->Prop} {c:Ty} {y:c.den} {ps:List PV},DX hh Q Q' c y ps->(∀ i,Q' i->Q i) -> ∀ d,2*c.depth+1<=d -> ∃ qs ids,AM (BO hh d) ps=some (qs,ids)/\DP c y qs/\Met hh Q ids
 | hh,Q,Q',.int k,y,ps,e,f,d,hd=>JX (c:=.int k) e d hd
 | hh,Q,Q',.bool,y,ps,e,f,d,hd=>JX (c:=.bool) e d hd
 | hh,Q,Q',.str,y,ps,e,f,d,hd=>JX (c:=.str) e d hd
 | hh,Q,Q',.unit,y,ps,e,f,d,hd=>JX (c:=.unit) e d hd
 | hh,Q,Q',.pair a b,y,ps,⟨p,q,e,h1,h2⟩,f,d,hd=>by
  subst e;have hm:(Ty.pair a b).depth=Nat.max a.depth b.depth:=rfl;rw [hm] at hd;have l1:=Nat.le_max_left a.depth b.depth;have l2:=Nat.le_max_right a.depth b.depth;obtain ⟨qa,la,k1,k2,k3⟩:=Vt h1 f d (by have:a.depth<=Nat.max a.depth b.depth:=l1;omega);obtain ⟨qb,lb,m1,m2,m3⟩:=Vt h2 f d (by have:b.depth<=Nat.max a.depth b.depth:=l2;omega);exact ⟨qa++qb,la++lb,H0 k1 m1,⟨qa,qb,rfl,k2,m2⟩,k3.append m3⟩
 | hh,Q,Q',.sl g c,y,ps,⟨p,e,h⟩,f,d,hd=>by
  subst e;have hm:(Ty.sl g c).depth=c.depth+1:=rfl;rw [hm] at hd;obtain ⟨d,rfl⟩ : ∃ d',d=d'+1:=⟨d-1,by omega⟩;rcases h with ⟨rfl,rfl⟩ | ⟨f,es,rfl,h2⟩ | ⟨pid,off,len,es,ex,fz,rfl,h2,h3,h4,h8,h5⟩
  ·exact ⟨[.nils],[],Dz rfl,⟨_,rfl,.inl ⟨rfl,rfl⟩⟩,.nil⟩
  ·exact ⟨[.lst f es],[],Dz rfl,⟨_,rfl,.inr ⟨f,es,rfl,h2⟩⟩,.nil⟩
  ·obtain ⟨qs,ids,k1,k2,k3⟩:=Ps (λy e hE=>SR (d:=d) (λhh' d' hd'=>JX hh' d' hd') (by omega) hE) h5;refine ⟨[.lst false qs],pid::ids,Dz ?_,⟨_,rfl,.inr ⟨false,qs,rfl,k2⟩⟩,λi hi => ?_⟩
   ·simp only [BO,h3];rw [show Nat.ble (off+len) es.length=true from by simpa using h4];simp only [cond_true,k1];rfl
   ·rcases List.mem_cons.1 hi with rfl | hi
    ·exact ⟨h2,es,ex,fz,h3⟩
    ·exact (k3.mono f) i hi
theorem Y6 {hh:Hp} {Q Q':Nat->Prop} {g:Bool} {c:Ty} {y:c.den} {e:PV} (f : ∀ i,Q' i->Q i) (h:EP g (DX hh Q Q' c) y e) {d:Nat} (hd:2*c.depth+2<=d) :
  ∃ q ids,BO hh d e=some (q,ids)/\EP g (DP c) y q/\Met hh Q ids:=by
 cases g with
 | true =>
  obtain ⟨cs,rfl,h⟩:=h;obtain ⟨d,rfl⟩ : ∃ d',d=d'+1:=⟨d-1,by omega⟩;obtain ⟨qs,ids,h1,h2,h3⟩:=Vt h f d (by omega);exact ⟨.agg qs,ids,by simp only [BO,h1];rfl,⟨qs,rfl,h2⟩,h3⟩
 | false =>
  obtain ⟨qs,ids,h1,h2,h3⟩:=Vt (show DX hh Q Q' c y [e] from h) f d (by omega);simp only [AM] at h1;split at h1
  ·rename_i q l qs' m e1 e2;cases e2;cases h1;exact ⟨q,l,e1,h2,by simpa using h3⟩
  ·cases h1
theorem EF : ∀ {l:List Nat} {hh:Hp} {Q:Nat->Prop},Met hh Q l -> ∃ h',Pi.freeze hh l=some h'/\h'.nx=hh.nx /\ ∀ q,h'.get q=if q∈l then (match hh.get q with
  | some (.row es ex _)=>some (.row es ex true)
  | b=>b) else hh.get q
 | [],hh,Q,m=>⟨hh,rfl,rfl,λq=>by simp⟩
 | i::l,hh,Q,m=>by
  obtain ⟨_,es,ex,fz,hi⟩:=m i (by simp);obtain ⟨h1,e1⟩:=Dk hh i (.row es ex true);have g1:=(Hp.get_set e1).1
  have m':Met h1 Q l:=λj hj=>by
   obtain ⟨hq,es',ex',fz',hj'⟩:=m j (by simp [hj]);refine ⟨hq,?_⟩;rw [g1];by_cases hji:j=i
   ·subst hji;rw [if_pos rfl];exact ⟨es,ex,true,rfl⟩
   ·rw [if_neg hji];exact ⟨es',ex',fz',hj'⟩
  obtain ⟨h',e2,e3,e4⟩:=EF m';refine ⟨h',by simp only [Pi.freeze,hi,e1];exact e2,by rw [e3];exact (Hp.get_set e1).2,λq => ?_⟩;rw [e4,g1];by_cases hqi:q=i
  ·subst hqi;simp only [if_true,List.mem_cons,true_or,hi];split<;>rfl
  ·simp only [hqi,if_false,List.mem_cons,false_or]
theorem JY : ∀ {l:List Nat} {h h':H},(∀ i∈l,i<1048575)->FS h l=some h'->(∀ i∈l,∃ g c y ex fz lk,h.get i=some (.row g c y ex fz lk))/\(∀ i b',h'.get i=some b'->h.get i=some b' \/ ∃ g c y ex fz lk,i∈l/\h.get i=some (.row g c y ex fz lk)/\b' = .row g c y ex true false) /\
  (∀ i∈l,∀ g c y ex fz lk,h'.get i=some (.row g c y ex fz lk)->fz=true) /\ ∀ i b,h.get i=some b->b.locked=true->h'.get i=some b
 | [],h,h',hb,e=>by cases e;exact ⟨λi hi=>by simp at hi,λi b' hb => .inl hb,λi hi=>by simp at hi,λi b hi _=>hi⟩
 | j::l,h,h',hb,e=>by
  unfold FS at e;split at e
  ·rename_i g c y ex fz lk hg;replace e:=E7 e;rcases e with ⟨hf,e⟩ | ⟨hf,e⟩
   ·subst hf;obtain ⟨k1,k2,k3,k4⟩:=JY (λi hi=>hb i (by simp [hi])) e;refine ⟨λi hi => ?_,λi b' hb' => ?_,λi hi g' c' y' ex' fz' lk' hi' => ?_,k4⟩
    ·rcases List.mem_cons.1 hi with rfl | hi
     ·exact ⟨_,_,_,_,_,_,hg⟩
     ·exact k1 i hi
    ·rcases k2 i b' hb' with h1 | ⟨g1,c1,y1,ex1,fz1,lk1,h1,h2,h3⟩
     ·exact .inl h1
     ·exact .inr ⟨g1,c1,y1,ex1,fz1,lk1,by simp [h1],h2,h3⟩
    ·rcases List.mem_cons.1 hi with rfl | hi
     ·rcases k2 _ _ hi' with h1 | ⟨g1,c1,y1,ex1,fz1,lk1,h1,h2,h3⟩
      ·rw [hg] at h1;cases h1;rfl
      ·cases h3;rfl
     ·exact k3 i hi _ _ _ _ _ _ hi'
   ·replace e:=C4 e;obtain ⟨hlk,e⟩:=e;subst hlk;have hj:=hb j (by simp);obtain ⟨k1,k2,k3,k4⟩:=JY (λi hi=>hb i (by simp [hi])) e;refine ⟨λi hi => ?_,λi b' hb' => ?_,λi hi g' c' y' ex' fz' lk' hi' => ?_,λi b hi hl => ?_⟩
    ·rcases List.mem_cons.1 hi with rfl | hi
     ·exact ⟨_,_,_,_,_,_,hg⟩
     ·by_cases hij:i=j
      ·subst hij;exact ⟨_,_,_,_,_,_,hg⟩
      ·have:=k1 i hi;rw [Al hj,if_neg hij] at this;exact this
    ·rcases k2 i b' hb' with h1 | ⟨g1,c1,y1,ex1,fz1,lk1,h1,h2,h3⟩
     ·rw [Al hj] at h1;by_cases hij:i=j
      ·subst hij;rw [if_pos rfl] at h1;cases h1;exact .inr ⟨g,c,y,ex,fz,false,by simp,hg,rfl⟩
      ·rw [if_neg hij] at h1;exact .inl h1
     ·rw [Al hj] at h2;by_cases hij:i=j
      ·subst hij;rw [if_pos rfl] at h2;cases h2;exact .inr ⟨g,c,y,ex,fz,false,by simp,hg,h3⟩
      ·rw [if_neg hij] at h2;exact .inr ⟨g1,c1,y1,ex1,fz1,lk1,by simp [h1],h2,h3⟩
    ·rcases List.mem_cons.1 hi with rfl | hi
     ·rcases k2 _ _ hi' with h1 | ⟨g1,c1,y1,ex1,fz1,lk1,h1,h2,h3⟩
      ·rw [Al hj,if_pos rfl] at h1;cases h1;rfl
      ·cases h3;rfl
     ·exact k3 i hi _ _ _ _ _ _ hi'
    ·refine k4 i b ?_ hl;rw [Al hj,if_neg]
     ·exact hi
     ·intro hh;subst hh;rw [hg] at hi;cases hi;cases hl
  ·cases e
theorem RH.frozen (r:RH X h n) (hn:n<=1048575) {l lP:List Nat} {h':H} {hP':Hp} (hl : ∀ i∈l,∃ a,X.π i=some a) (e:FS h l=some h') (hnx:hP'.nx=X.h.nx) (eg : ∀ q,hP'.get q=if q∈lP then (match X.h.get q with
  | some (.row es ex _)=>some (.row es ex true)
  | b=>b) else X.h.get q) (hm : ∀ q∈lP,X.O q -> ∃ i∈l,∃ m,X.π i=some (.blk q m)) (id idP:Nat) :
  ∃ Y:Cx,Y.π=X.π/\Y.O=X.O/\K5 X h n id idP h' hP' Y:=by
 have hb : ∀ i∈l,i<1048575:=λi hi=>by obtain ⟨a,ha⟩:=hl i hi;have:=r.dom _ _ ha;omega
 obtain ⟨k1,k2,k3,k4⟩:=JY hb e
 let Y:Cx:={ π:=X.π,h:=hP',O:=X.O }
 have rowget : ∀ q es ex fz,X.h.get q=some (.row es ex fz) -> ∃ fz',hP'.get q=some (.row es ex fz')/\(q ∉ lP->fz'=fz):=λq es ex fz hq=>by
  rw [eg];by_cases hi:q∈lP
  ·rw [if_pos hi,hq];exact ⟨true,rfl,λh=>absurd hi h⟩
  ·rw [if_neg hi];exact ⟨fz,hq,λ_=>rfl⟩
 have other : ∀ q,(∀ es ex fz,X.h.get q≠some (.row es ex fz))->hP'.get q=X.h.get q:=λq hq=>by
  rw [eg];split
  ·split
   ·rename_i es ex fz he;exact absurd he (hq _ _ _)
   ·rfl
  ·rfl
 have u:Up X Y:=⟨λ_ _ h=>h,λq es ex fz hq hg=>⟨by obtain ⟨fz',h1,_⟩:=rowget _ _ _ _ hg;exact ⟨fz',h1⟩,hq⟩⟩
 have live : ∀ {i:Nat} {b':BA},h'.get i=some b'->b'.live -> ∃ b,h.get i=some b/\b.live:=λhi hv=>by
  rcases k2 _ _ hi with h1 | ⟨g1,c1,y1,ex1,fz1,lk1,h1,h2,h3⟩
  ·exact ⟨_,h1,hv⟩
  ·exact ⟨_,h2,trivial⟩
 refine ⟨Y,rfl,rfl,rfl,⟨λi b' hi => ?_,λi i' b b' q m1 m2 hi hi' l1 l2 a1 a2 => ?_,r.dom,λq hq => ?_,λq hq=>by
  show hP'.get q≠none;rw [eg];have:=r.ob _ hq;split
  ·split<;>simp_all
  ·exact this⟩,⟨u,hnx,λ_ _ h=>h,λq hq hne => ?_,k4,λq st pe nt t ps asg body d hq => ?_⟩⟩
 ·
  rcases k2 _ _ hi with h1 | ⟨g1,c1,y1,ex1,fz1,lk1,h1,h2,h3⟩
  ·have hB:=r.blk _ _ h1;cases b' with
   | row g c y ex fz lk =>
    rcases hB with ⟨pid,len,es,fz',p1,p2,p3,p4,p5,p7,p6⟩ | hB | hB
    ·obtain ⟨fz2,q1,q2⟩:=rowget _ _ _ _ p3;refine .inl ⟨pid,len,es,fz2,p1,p2,q1,λhf => ?_,p5,p7,EDR.mono u p6⟩;by_cases hin:pid∈lP
     ·obtain ⟨i',hi',m,hpi'⟩:=hm _ hin p2;obtain ⟨g2,c2,y2,ex2,fz3,lk2,h4⟩:=k1 _ hi';have:=r.inj _ _ _ _ _ _ _ h1 h4 trivial trivial p1 hpi';subst this;have:=k3 _ hi' _ _ _ _ _ _ hi;rw [this] at hf;cases hf
     ·rw [q2 hin];exact p4 hf
    ·exact .inr (.inl hB)
    ·exact .inr (.inr hB)
   | box cs fz lk =>
    obtain ⟨pid,m,ps,fz',p1,p2,p3,p4,p5⟩:=hB;exact ⟨pid,m,ps,fz',p1,p2,by show hP'.get pid=_;rw [other _ (by rw [p3];intros;simp),p3],p4,p5.mono u⟩
   | mp k g c y lk =>
    obtain ⟨pid,m,es,p1,p2,p3,p4⟩:=hB;exact ⟨pid,m,es,p1,p2,by show hP'.get pid=_;rw [other _ (by rw [p3];intros;simp),p3],p4.mono λ_ _ m=>⟨m.1,m.2.mono λ_ _ k=>DR.mono u.rows k⟩⟩
   | lp st pend nt t ps asg body d =>
    obtain ⟨pid,m,tP,dP,m2,p1,p2,p3,p4,p5,p6⟩:=hB;exact ⟨pid,m,tP,dP,m2,p1,p2,by show hP'.get pid=_;rw [other _ (by rw [p3];intros;simp),p3],p4.mono u,p5,p6⟩
   | df ds =>
    obtain ⟨pid,m,dsP,p1,p2,p3,p4⟩:=hB;refine ⟨pid,m,dsP,p1,p2,by show hP'.get pid=_;rw [other _ (by rw [p3];intros;simp),p3],?_⟩;split at p4
    ·trivial
    ·exact p4.mono λ_ _ m=>m.mono u
    ·exact p4.elim
   | dead =>
    intro pid m e;obtain ⟨p2,p3⟩:=hB pid m e;exact ⟨p2,by show hP'.get pid=_;rw [other _ (by rw [p3];intros;simp),p3]⟩
  ·subst h3;rcases r.blk _ _ h2 with ⟨pid,len,es,fz',p1,p2,p3,p4,p5,p7,p6⟩ | hB | ⟨es,p1,p2,p3,p4⟩
   ·obtain ⟨fz2,q1,q2⟩:=rowget _ _ _ _ p3;exact .inl ⟨pid,len,es,fz2,p1,p2,q1,λhf=>(by cases hf),p5,p7,EDR.mono u p6⟩
   ·exact .inr (.inl hB)
   ·exact .inr (.inr ⟨es,p1,p2,.inl rfl,p4⟩)
 ·obtain ⟨b1,h1,v1⟩:=live hi l1;obtain ⟨b2,h2,v2⟩:=live hi' l2;exact r.inj _ _ _ _ _ _ _ h1 h2 v1 v2 a1 a2
 ·show hP'.get q=none;rw [other]
  ·exact r.fresh _ (by rw [<- hnx];exact hq)
  ·rw [r.fresh _ (by rw [<- hnx];exact hq)];intros;simp
 ·show hP'.get q=none;rw [other _ (by rw [hne];intros;simp),hne]
 ·show hP'.get q=_;rw [other _ (by rw [hq];intros;simp),hq]
end
end Go.Proofs.YthpkjfabdccpdaaGreat.Sv
namespace Go.Proofs.YthpkjfabdccpdaaGreat.Sv
open Go.Proofs.YthpkjfabdccpdaaGreat.Pi (PV T Hp Blk DF UM PE Au A8 AM BO By)
section
variable {X:Cx} {h:H} {n id idP:Nat} {β:Type} {x:β} {P:Program}
def MetA (X:Cx) (l lP:List Nat):Prop := ∀ i∈lP,(X.Q i \/ ∃ id∈l,∃ m,X.π id=some (.blk i m)) /\ ∃ es ex fz,X.h.get i=some (.row es ex fz)
theorem MetA.append {l m lP mP:List Nat} (a:MetA X l lP) (b:MetA X m mP):MetA X (l++m) (lP++mP):=λi hi=>by
 rcases List.mem_append.1 hi with hi | hi
 ·obtain ⟨h1,h2⟩:=a i hi;exact ⟨h1.imp id λ⟨j,hj,k⟩=>⟨j,List.mem_append_left _ hj,k⟩,h2⟩
 ·obtain ⟨h1,h2⟩:=b i hi;exact ⟨h1.imp id λ⟨j,hj,k⟩=>⟨j,List.mem_append_right _ hj,k⟩,h2⟩
theorem MetA.nil {l:List Nat}:MetA X l []:=λ_ hi=>by cases hi
def Kn (X:Cx) (l:List Nat):Prop := ∀ i∈l,∃ a,X.π i=some a
theorem Kn.append {l m:List Nat} (a:Kn X l) (b:Kn X m):Kn X (l++m):=λi hi=>(List.mem_append.1 hi).elim (a i) (b i)
theorem Kn.nil:Kn X []:=λ_ hi=>by cases hi
theorem Met.toA {l:List Nat} (m:Met X.h X.Q l):MetA X [] l:=λi hi=>⟨.inl (m i hi).1,(m i hi).2⟩
theorem Nj {pid off len:Nat} {es:List PV} {ex fz:Bool} {g:Bool} {c:Ty} {l:List c.den} {d:Nat} (h3:X.h.get pid=some (.row es ex fz)) (h4:off+len<=es.length) (h5:L2 (EP g (DR X.h X.Q c)) l ((es.drop off).take len)) (hd:2*c.depth+3<=d) :
  ∃ qs ids,BO X.h d (.own pid off len)=some (.lst false qs,pid::ids)/\L2 (EP g (DP c)) l qs/\Met X.h X.Q ids:=by
 obtain ⟨d,rfl⟩ : ∃ d',d=d'+1:=⟨d-1,by omega⟩;obtain ⟨qs,ids,k1,k2,k3⟩:=Ps (λy e hE=>SR (d:=d) (λhh' d' hd'=>JX hh' d' hd') (by omega) hE) h5;refine ⟨qs,ids,?_,k2,k3⟩;simp only [BO,h3];rw [show Nat.ble (off+len) es.length=true from by simpa using h4];simp only [cond_true,k1];rfl
theorem Ii (hh:Hp) (d:Nat) (cs:List PV):BO hh (d+1) (.agg cs)=(AM (BO hh d) cs).map λ(x,l)=>(.agg x,l):=rfl
theorem Q6 (hh:Hp) (d:Nat) (cs:List PV):BO hh (d+1) (.tup cs)=(AM (BO hh d) cs).map λ(x,l)=>(.tup x,l):=rfl
theorem Q7 (hh:Hp) (d:Nat) (t:TypeId) (v:PV):BO hh (d+1) (.ifc t v)=(BO hh d v).map λ(x,l)=>(.ifc t x,l):=rfl
theorem UB (hh:Hp) (d:Nat) (f:Fn) (a b:List PV):BO hh (d+1) (.fn f a b)=(match AM (BO hh d) a,AM (BO hh d) b with
   | some (a,l),some (b,m)=>some (.fn f a b,l++m)
   | _,_=>none):=rfl
mutual
theorem Q8 (r:RH X h n) : ∀ (d:Nat) {v:V} {p:PV} {K:V->List Nat->Option β},VR X v p->purA h d v K=some x ->
  ∃ v' l q lP,K v' l=some x/\BO X.h (d+6) p=some (q,lP)/\VR Cx.pure v' q/\MetA X l lP/\Kn X l
 | 0,_,_,_,_,e=>by simp [purA] at e
 | d+1,v,p,K,hv,e=>by
  have hdd:d+1+6=(d+6)+1:=by omega
  unfold purA at e;split at e
  ·obtain ⟨ps,rfl,hv'⟩:=hv.agg_inv;obtain ⟨vs,l,qs,lP,e1,h1,h2,h3,h4⟩:=JZ r d hv' e;refine ⟨_,l,.agg qs,lP,e1,?_,by simp only [VR];exact ⟨qs,rfl,h2⟩,h3,h4⟩;rw [hdd,Ii,h1];rfl
  ·simp only [VR] at hv;obtain ⟨ps,rfl,hv'⟩:=hv;obtain ⟨vs,l,qs,lP,e1,h1,h2,h3,h4⟩:=JZ r d hv' e;refine ⟨_,l,.tup qs,lP,e1,?_,by simp only [VR];exact ⟨qs,rfl,h2⟩,h3,h4⟩;rw [hdd,Q6,h1];rfl
  ·simp only [VR] at hv;obtain ⟨q,rfl,hv'⟩:=hv;obtain ⟨v',l,q',lP,e1,h1,h2,h3,h4⟩:=Q8 r d hv' e;refine ⟨_,l,.ifc _ q',lP,e1,?_,by simp only [VR];exact ⟨q',rfl,h2⟩,h3,h4⟩;rw [hdd,Q7,h1];rfl
  ·simp only [VR] at hv;obtain ⟨a',b',rfl,ha,hb⟩:=hv;obtain ⟨vs,l,qs,lP,e1,h1,h2,h3,h4⟩:=JZ r d ha e;obtain ⟨ws,m,rs,mP,e2,k1,k2,k3,k4⟩:=JZ r d hb e1;refine ⟨_,l++m,.fn _ qs rs,lP++mP,e2,?_,by simp only [VR];exact ⟨qs,rs,rfl,h2,k2⟩,h3.append k3,h4.append k4⟩;rw [hdd,UB,h1,k1]
  ·rename_i f g c l;replace e:=A3 e;obtain ⟨hd,e⟩:=e;have hd':2*c.depth+3<=d+7:=Nat.le_of_ble_eq_true hd;simp only [VR] at hv;rcases hv with ⟨rfl,rfl⟩ | ⟨f',es,rfl,hf,h2⟩ | ⟨pid,off,len,es,ex,fz,rfl,hf,h2,h3,h4,h8,h5⟩
   ·exact ⟨_,[],.nils,[],e,by rw [hdd];rfl,by simp [VR],.nil,.nil⟩
   ·exact ⟨_,[],.lst f' es,[],e,by rw [hdd];rfl,by simp only [VR];exact .inr (.inl ⟨f',es,rfl,by simp,h2⟩),.nil,.nil⟩
   ·obtain ⟨qs,ids,k1,k2,k3⟩:=Nj (d:=d+7) h3 h4 h5 hd';refine ⟨_,[],_,_,e,k1,by simp only [VR];exact .inr (.inl ⟨false,qs,rfl,by simp,k2⟩),λi hi => ?_,.nil⟩;rcases List.mem_cons.1 hi with rfl | hi
    ·exact ⟨.inl h2,es,ex,fz,h3⟩
    ·exact k3.toA i hi
  ·simp only [VR] at hv;rcases hv with ⟨rfl,rfl⟩ | ⟨f',es,rfl,h2⟩
   ·exact ⟨_,[],.nils,[],e,by rw [hdd];rfl,by simp [VR],.nil,.nil⟩
   ·exact ⟨_,[],.lst f' es,[],e,by rw [hdd];rfl,by simp only [VR];exact .inr ⟨f',es,rfl,h2⟩,.nil,.nil⟩
  ·rename_i id;split at e
   ·rename_i g c l ex fz lk hg;replace e:=A3 e;obtain ⟨hd,e⟩:=e;have hd':2*c.depth+3<=d+7:=Nat.le_of_ble_eq_true hd;simp only [VR] at hv;have hB:=r.blk _ _ hg;cases hpi:X.π id with
    | none=>rw [hpi] at hv;exact hv.elim
    | some a =>
     rw [hpi] at hv hB;have hkn:Kn X [id]:=λi hi=>by rw [List.mem_singleton.1 hi];exact ⟨a,hpi⟩
     rcases hB with ⟨pid,len,es,fz',p1,p2,p3,p4,p5,p7,p6⟩ | ⟨p1,_,p2⟩ | ⟨es,p1,_,_,p2⟩
     ·cases p1;simp only at hv;subst hv;obtain ⟨qs,ids,k1,k2,k3⟩:=Nj (d:=d+7) (off:=0) (len:=len) p3 (by omega) (by rw [List.drop_zero,List.take_of_length_le (by omega)];exact p6) hd';refine ⟨_,[id],_,_,e,k1,by simp only [VR];exact .inr (.inl ⟨false,qs,rfl,by simp,k2⟩),λi hi => ?_,hkn⟩;rcases List.mem_cons.1 hi with rfl | hi
      ·exact ⟨.inr ⟨id,by simp,len,hpi⟩,es,ex,fz',p3⟩
      ·obtain ⟨q1,q2⟩:=k3 i hi;exact ⟨.inl q1,q2⟩
     ·cases p1;subst p2;simp only at hv;subst hv;exact ⟨_,[id],.nils,[],e,by rw [hdd];rfl,by simp [VR],.nil,hkn⟩
     ·cases p1;simp only at hv;subst hv;exact ⟨_,[id],.lst true es,[],e,by rw [hdd];rfl,by simp only [VR];exact .inr (.inl ⟨true,es,rfl,by simp,p2⟩),.nil,hkn⟩
   ·cases e
  ·rename_i id off len;split at e
   ·rename_i g c l ex fz lk hg;replace e:=A3 e;obtain ⟨hd,e⟩:=e;have hd':2*c.depth+3<=d+7:=Nat.le_of_ble_eq_true hd;replace e:=Ap e;obtain ⟨hle,e⟩:=e;simp only [VR] at hv;obtain ⟨pid,m,hpi,rfl⟩:=hv;obtain ⟨es,fz',p3,_,p5,_,p6⟩:=r.rowAt hpi hg;obtain ⟨qs,ids,k1,k2,k3⟩:=Nj (d:=d+7) (off:=off) (len:=len) p3 (by rw [<- p6.length];simpa [A6,AJ,AA] using hle) (Q0 p6 off len) hd';refine ⟨_,[id],_,_,e,k1,by simp only [VR];exact .inr (.inl ⟨false,qs,rfl,by simp,k2⟩),λi hi => ?_,λi hi=>by rw [List.mem_singleton.1 hi];exact ⟨_,hpi⟩⟩;rcases List.mem_cons.1 hi with rfl | hi
    ·exact ⟨.inr ⟨id,by simp,m,hpi⟩,es,ex,fz',p3⟩
    ·obtain ⟨q1,q2⟩:=k3 i hi;exact ⟨.inl q1,q2⟩
   ·cases e
  ·cases e
  ·cases e
  ·cases e
  ·cases e
  ·cases e
  ·cases e
  ·rename_i n1 n2 n3 n4 n5 n5b n6 n7 n8 n9 n9b n10 n11 n12;cases v with
   | agg | tup | ifc | fn | lf | pl | ow | own | ptr | view | pv | ept | yl | mp =>
    exfalso
    first | exact n1 _ rfl | exact n2 _ rfl | exact n3 _ _ rfl | exact n4 _ _ _ rfl | exact n5 _ _ _ _ rfl | exact n5b _ _ _ rfl | exact n6 _ rfl | exact n7 _ _ _ rfl | exact n8 _ _ rfl | exact n9 _ rfl | exact n9b _ rfl | exact n10 _ _ _ rfl | exact n11 _ rfl | exact n12 _ rfl
   | exl f es =>
    simp only [VR] at hv;obtain ⟨f',ps,rfl,h1,h2⟩:=hv;exact ⟨_,[],.lst f' ps,[],e,by rw [hdd];rfl,by simp only [VR];exact ⟨f',ps,rfl,h1,h2⟩,.nil,.nil⟩
   | _ =>
    simp only [VR] at hv;subst hv;exact ⟨_,[],_,[],e,by rw [hdd];rfl,by simp only [VR],.nil,.nil⟩
theorem JZ (r:RH X h n) : ∀ (d:Nat) {vs:List V} {ps:List PV} {K:List V->List Nat->Option β},VRL X vs ps->purA.purAs (purA h d) vs K=some x ->
  ∃ vs' l qs lP,K vs' l=some x/\AM (BO X.h (d+6)) ps=some (qs,lP)/\VRL Cx.pure vs' qs/\MetA X l lP/\Kn X l
 | d,[],_,K,hv,e=>by rw [hv.nil_inv];exact ⟨[],[],[],[],e,rfl,.nil,.nil,.nil⟩
 | d,v::vs,_,K,hv,e=>by
  obtain ⟨p,qs,rfl,h1,h2⟩:=hv.cons_inv;unfold purA.purAs at e;obtain ⟨v',l,q,lP,e1,k1,k2,k3,k4⟩:=Q8 r d h1 e;obtain ⟨vs',m,qs',mP,e2,m1,m2,m3,m4⟩:=JZ r d h2 e1;exact ⟨v'::vs',l++m,q::qs',lP++mP,e2,by simp [AM,k1,m1],.cons k2 m2,k3.append m3,k4.append m4⟩
end
theorem SS (r:RH X h n) : ∀ {vs:List V} {ps:List PV} {K:List V->List Nat->Option β},VRL X vs ps->Vk h vs K=some x ->
  ∃ vs' l qs lP,K vs' l=some x/\By X.h ps=some (qs,lP)/\VRL Cx.pure vs' qs/\MetA X l lP/\Kn X l
 | [],_,K,hv,e=>by rw [hv.nil_inv];exact ⟨[],[],[],[],e,rfl,.nil,.nil,.nil⟩
 | v::vs,_,K,hv,e=>by
  obtain ⟨p,qs,rfl,h1,h2⟩:=hv.cons_inv;unfold Vk at e;obtain ⟨v',l,q,lP,e1,k1,k2,k3,k4⟩:=Q8 r 6 h1 e;obtain ⟨vs',m,qs',mP,e2,m1,m2,m3,m4⟩:=SS r h2 e1;refine ⟨v'::vs',l++m,q::qs',lP++mP,e2,?_,.cons k2 m2,k3.append m3,k4.append m4⟩;simp only [By,show Pi.BI=6+6 from rfl,k1,m1]
theorem RH.mark (r:RH X h n) (hn:n<=1048575) {l lP:List Nat} {h':H} (hm:MetA X l lP) (hk:Kn X l) (e:FS h l=some h') (id idP:Nat) :
  ∃ hP' Y,Pi.freeze X.h lP=some hP'/\Y.π=X.π/\Y.O=X.O/\K5 X h n id idP h' hP' Y:=by
 obtain ⟨hP',f1,f2,f3⟩:=EF (Q:=λi=>X.Q i \/ ∃ id∈l,∃ m,X.π id=some (.blk i m)) hm
 obtain ⟨Y,y1,y2,y3⟩:=r.frozen hn hk e f2 f3 (λq hq hO=>by
  rcases (hm q hq).1 with h1 | h1
  ·exact absurd hO h1
  ·exact h1) id idP
 exact ⟨hP',Y,f1,y1,y2,y3⟩
def lL (X:Cx):List (Nat×Nat×List V)->List (Nat×Nat×List PV)->Prop:=L2 λa b=>a.1=b.1/\a.2.1=b.2.1/\VRL X a.2.2 b.2.2
theorem Mc : ∀ {pl:List (Nat×Nat×List V)} {plP:List (Nat×Nat×List PV)} {cs out:List V} {ps:List PV},lL X pl plP->VRL X cs ps->N8 cs pl=some out -> ∃ outP,Pi.KU ps plP=some outP/\VRL X out outP
 | [],_,cs,out,ps,h,hc,e=>by rw [L2.nil_inv h];cases e;exact ⟨ps,rfl,hc⟩
 | (off,m,vs)::pl,_,cs,out,ps,h,hc,e=>by
  obtain ⟨⟨off',m',vs'⟩,t,rfl,⟨h1,h2,h3⟩,h4⟩:=L2.cons_inv h;simp only at h1 h2 h3;subst h1;subst h2;unfold N8 at e;replace e:=A3 e;obtain ⟨hb,e⟩:=e;obtain ⟨outP,k1,k2⟩:=Mc h4 (hc.fput h3 off) e;refine ⟨outP,?_,k2⟩;unfold Pi.KU;rw [<- h3.length,<- hc.length,hb];exact k1
theorem Lu {fs:Array Field} : ∀ {ps:List (Nat×V)} {psP:List (Nat×PV)} {out:List (Nat×Nat×List V)},jK X ps psP->J7 P fs ps=some out -> ∃ outP,Pi.H7 P fs psP=some outP/\lL X out outP
 | [],_,out,h,e=>by rw [L2.nil_inv h];cases e;exact ⟨[],rfl,.nil⟩
 | (i,v)::l,_,out,h,e=>by
  obtain ⟨⟨i',p⟩,t,rfl,⟨h1,h2⟩,h4⟩:=L2.cons_inv h;simp only at h1 h2;subst h1;unfold J7 at e;split at e
  ·rename_i f r hf hr;obtain ⟨rP,k1,k2⟩:=Lu h4 hr;split at e
   ·rename_i sz hsz;replace e:=A3 e;obtain ⟨hb,e⟩:=e;cases e;refine ⟨(f.offset,sz,p.cells)::rP,?_,.cons ⟨rfl,rfl,h2.cells⟩ k2⟩;simp only [Pi.H7,hf,k1,hsz,hb,cond_true]
   ·cases e
  ·cases e
theorem Kb {size:Nat} : ∀ {ps:List (Nat×V)} {psP:List (Nat×PV)},jK X ps psP->lL X (Kw size ps) (Pi.Js size psP)
 | [],_,h=>by rw [L2.nil_inv h];exact .nil
 | (i,v)::l,_,h=>by
  obtain ⟨⟨i',p⟩,t,rfl,⟨h1,h2⟩,h4⟩:=L2.cons_inv h;simp only at h1 h2;subst h1;exact .cons ⟨rfl,rfl,h2.cells⟩ (Kb h4)
theorem Pu {size:Nat} : ∀ {ps:List (Nat×V)} {psP:List (Nat×PV)} {es out:List V} {esP:List PV},jK X ps psP->VRL X es esP->Qq size es ps=some out -> ∃ outP,Pi.KV size esP psP=some outP/\VRL X out outP
 | [],_,es,out,esP,h,hc,e=>by rw [L2.nil_inv h];cases e;exact ⟨esP,rfl,hc⟩
 | (i,v)::l,_,es,out,esP,h,hc,e=>by
  obtain ⟨⟨i',p⟩,t,rfl,⟨h1,h2⟩,h4⟩:=L2.cons_inv h;simp only at h1 h2;subst h1;unfold Qq at e;replace e:=A3 e;obtain ⟨hb,e⟩:=e;obtain ⟨outP,k1,k2⟩:=Pu h4 (hc.lset i h2) e;refine ⟨outP,?_,k2⟩;unfold Pi.KV;rw [<- h2.cells.length,<- hc.length,hb];exact k1
theorem ST {ag:Bool} {z:List V} {zP:List PV} {v:V} (h:VRL X z zP) (e:Vl ag z=some v) : ∃ p,Pi.Rd ag zP=some p/\VR X v p:=by
 unfold Vl at e;rcases E7 e with ⟨hb,e⟩ | ⟨hb,e⟩
 ·subst hb;cases e;exact ⟨.agg zP,rfl,by simp only [VR];exact ⟨zP,rfl,h⟩⟩
 ·subst hb;split at e
  ·cases e;obtain ⟨p,qs,rfl,h1,h2⟩:=h.cons_inv;rw [h2.nil_inv];exact ⟨p,rfl,h1⟩
  ·cases e
theorem Wv {ty:TypeId} {ps:List (Nat×V)} {psP:List (Nat×PV)} {K:V->Option β} (hp:jK X ps psP) (e:Tq P ty ps K=some x) : ∃ v q,K v=some x/\Pi.En P X.h ty psP=some (.val q X.h)/\VR X v q:=by
 unfold Tq at e;split at e
 ·rename_i z fs hz hu;replace e:=A3 e;obtain ⟨hb,e⟩:=e;obtain ⟨zP,hz1,hz2⟩:=FB (X:=X) hz;split at e
  ·rename_i pl hpl;obtain ⟨plP,k1,k2⟩:=Lu hp hpl;replace e:=AX e;obtain ⟨cs,hcs,e⟩:=e;obtain ⟨csP,m1,m2⟩:=Mc k2 hz2 hcs;refine ⟨_,.agg csP,e,?_,by simp only [VR];exact ⟨csP,rfl,m2⟩⟩;unfold Pi.En;simp only [hz1,hu,hb,cond_true,k1,m1];rfl
  ·cases e
 ·rename_i z m et hz hu;obtain ⟨zP,hz1,hz2⟩:=FB (X:=X) hz;split at e
  ·rename_i sz hsz;replace e:=A3 e;obtain ⟨hb,e⟩:=e;replace e:=AX e;obtain ⟨cs,hcs,e⟩:=e;obtain ⟨csP,m1,m2⟩:=Mc (Kb hp) hz2 hcs;refine ⟨_,.agg csP,e,?_,by simp only [VR];exact ⟨csP,rfl,m2⟩⟩;unfold Pi.En;simp only [hz1,hu,hsz,hb,cond_true,m1];rfl
  ·cases e
 ·cases e
theorem OH (r:RH X h n) (hn:n<=1048575) {ty:TypeId} {len:Nat} {ps:List (Nat×V)} {psP:List (Nat×PV)} {K:RA->Option β} (hp:jK X ps psP) (e:JR P h ty len ps K=some x) :
  VOk X h n id idP K x (Pi.Bi P X.h ty len psP):=by
 unfold JR at e;split at e
 ·rename_i et hu;split at e
  ·rename_i sz ag z hsz hag hz;obtain ⟨zP,hz1,hz2⟩:=FB (X:=X) hz;split at e
   ·rename_i z1 hz3;obtain ⟨z1P,k1,k2⟩:=ST hz2 hz3;replace e:=C4 e;obtain ⟨hb,e⟩:=e;rw [hz2.length] at hb;replace e:=AX e;obtain ⟨es,hes,e⟩:=e;obtain ⟨esP,m1,m2⟩:=Pu hp (VRL.rep k2 len) hes;replace e:=SS r m2 e;obtain ⟨vs',l,qs,lP,e,n1,n2,n3,n4⟩:=e;replace e:=AX e;obtain ⟨h',hf,e⟩:=e;obtain ⟨hP',Y,f1,y1,y2,y3⟩:=r.mark hn n3 n4 hf id idP;refine ⟨_,h',.lst true qs,hP',Y,e,?_,y3,by simp only [VR];exact ⟨true,qs,rfl,λ_=>rfl,n2⟩⟩;unfold Pi.Bi;simp only [hu,hsz,hag,hz1,k1,hb,cond_false,m1,n1,f1];rfl
   ·cases e
  ·cases e
 ·cases e
theorem Y7 (r:RH X h n) (w:Nw X n id idP) {ty:TypeId} {same:Bool} {l c:V} {lP cP:PV} {K:RA->Option β} (hs:same=true->lP=cP) (hl:VR X l lP) (hc:VR X c cP) (e:Yq P h id ty same l c K=some x) :
  VOk X h n id idP K x (Pi.Gs P X.h idP ty lP cP):=by
 unfold Yq at e;split at e
 ·rename_i et hu;split at e
  ·rename_i sz ag z ti hsz hag hz hti;obtain ⟨zP,hz1,hz2⟩:=FB (X:=X) hz;replace e:=AX e;obtain ⟨⟨g,ct⟩,hct,e⟩:=e;replace e:=A3 e;obtain ⟨hb,e⟩:=e;simp only [Bool.and_eq_true] at hb;obtain ⟨⟨b1,b2⟩,b3⟩:=hb;rw [hz2.length] at b3;replace e:=AX e;obtain ⟨z1,hz3,e⟩:=e;obtain ⟨z1P,k1,k2⟩:=ST hz2 hz3;replace e:=JW k2 e;obtain ⟨y,e,hy⟩:=e;replace e:=Pp hl e;obtain ⟨ln,e,hln⟩:=e;replace e:=Pp hc e;obtain ⟨cn,e,hcn⟩:=e
   have fin:Nat.ble ln cn=true->Nat.ble cn 1048576=true -> ∀ {v:V},K (.val v (Ad h id (.row g ct (CK cn y) true false false)))=some x->(∀ Y:Cx,Y.π id=some (.blk idP cn)->VR Y v (.own idP 0 ln))->VOk X h n id idP K x (Pi.Gs P X.h idP ty lP cP):=by
    intro g1 g2 v e hv;obtain ⟨hP',Y,y1,y2,y3,y4⟩:=Dy (g:=g) (ex:=true) (fz:=false) r w (L2.replicate hy cn) (λh=>by cases h);rw [List.length_replicate] at y4;refine ⟨_,_,.own idP 0 ln,hP',Y,e,?_,y2,hv Y y4⟩;unfold Pi.Gs;simp only [hu,hln,hcn,hsz,hag,hz1,hti,k1,g1,g2,b1,b2,b3,show Pi.Dw=1048576 from rfl,Bool.and_self,cond_true,y1];rfl
   rcases E7 e with ⟨hsm,e⟩ | ⟨hsm,e⟩
   ·have:=hs hsm;subst this;rw [hln] at hcn;cases hcn;replace e:=Ap e;obtain ⟨g2,e⟩:=e;exact fin (by simp) g2 e λY hY=>by simp only [VR,hY]
   ·replace e:=Ap e;obtain ⟨g1,e⟩:=e;replace e:=Ap e;obtain ⟨g2,e⟩:=e;exact fin g1 g2 e λY hY=>by simp only [VR];exact ⟨_,_,hY,rfl⟩
  ·cases e
 ·cases e
end
end Go.Proofs.YthpkjfabdccpdaaGreat.Sv
namespace Go.Proofs.YthpkjfabdccpdaaGreat.Sv
open Go.Proofs.YthpkjfabdccpdaaGreat.Pi (PV T Hp Blk DF UM PE Au A8 AM BO By)
section
variable {X:Cx} {h:H} {n id idP:Nat} {β:Type} {x:β} {P:Program}
theorem OI {α:Type} {R:α->PV->Prop} {l:List α} {es:List PV} {off len a b:Nat} (h:L2 R l ((es.drop off).take len)) (hb:b<=len):L2 R (B3 l a b) ((es.drop (off+a)).take (b-a)):=by
 have:=(h.drop a).take (b-a);rw [List.drop_take,List.take_take,List.drop_drop] at this;unfold B3;rw [show min (b-a) (len-a)=b-a from by omega] at this;exact this
theorem VRO.isSome {o:Option V} {p:Option PV} (h:VRO X o p):p.isSome=o.isSome:=by
 cases o with
 | none=>cases h;rfl
 | some v=>obtain ⟨q,rfl,_⟩:=h;rfl
def WOk (X:Cx) (h:H) (n id idP:Nat) (K:V->Option β) (x:β) (o:Option Pi.R):Prop :=
 ∃ v p hP' Y,K v=some x/\o=some (.val p hP')/\K5 X h n id idP h hP' Y/\VR Y v p
theorem WOk.same (r:RH X h n) {K:V->Option β} {o:Option Pi.R} {v:V} {p:PV} (e:K v=some x) (eo:o=some (.val p X.h)) (hv:VR X v p):WOk X h n id idP K x o :=
 ⟨v,p,X.h,X,e,eo,⟨rfl,r,St.refl _ _ _ _⟩,hv⟩
theorem Q9 {d:Nat}:Pi.Fg d none=some d:=rfl
theorem UC {d:Nat} {p:PV}:Pi.Fg d (some p)=Pi.KW p:=rfl
theorem ja {a b:Nat} (h : ¬ a<b):Nat.blt a b=false:=by
 cases hq:Nat.blt a b with
 | false=>rfl
 | true=>exact absurd (by simpa using hq) h
theorem jc {a b:Nat} (h:Nat.blt a b=false) : ¬ a<b:=λhl=>by
 rw [show Nat.blt a b=true from by simpa using hl] at h;cases h
theorem Ww (r:RH X h n) (hn:n<=1048575) {ty:TypeId} {a:V} {p:PV} {lo hi mx:Option V} {loP hiP mxP:Option PV} {K:V->Option β} (ha:VR X a p) (hlo:VRO X lo loP) (hhi:VRO X hi hiP) (hmx:VRO X mx mxP)
  (e:Ts P h ty a lo hi mx K=some x):WOk X h n id idP K x (Pi.Bq P X.h ty p loP hiP mxP):=by
 unfold Ts at e;split at e
 ·rename_i s hu;split at e
  ·cases hmx;simp only [VR] at ha;subst ha;replace e:=Cf hhi e;obtain ⟨hh,e,h1⟩:=e;replace e:=Cf hlo e;obtain ⟨l,e,h2⟩:=e;replace e:=Ap e;obtain ⟨g1,e⟩:=e;replace e:=Ap e;obtain ⟨g2,e⟩:=e;refine .same r e (p:=.str ((s.drop l).take (hh-l))) ?_ (by simp [VR,Tk]);unfold Pi.Bq;simp only [C2] at h1 g1;simp only [A6] at g1 g2;simp only [hu,h1,h2,g1,g2,Bool.and_self,cond_true]
  ·cases e
 ·rename_i et hu;replace e:=AX e;obtain ⟨sz,hsz,e⟩:=e;simp only [VR] at ha;subst ha;split at e
  ·cases hmx;replace e:=Cf hhi e;obtain ⟨hh,e,h1⟩:=e;replace e:=Cf hlo e;obtain ⟨l,e,h2⟩:=e;replace e:=Ap e;obtain ⟨g1,e⟩:=e;replace e:=Ap e;obtain ⟨g2,e⟩:=e;have:hh=0:=by simpa [neq] using g1
   subst this;have:l=0:=by simpa [neq] using g2
   subst this;refine .same r e (p:=.nils) ?_ (by simp [VR]);unfold Pi.Bq;simp only [hu,hsz,h1,h2,Q9];rfl
  ·rename_i m;obtain ⟨mP,rfl,hm⟩:=hmx;replace e:=C4 e;obtain ⟨hb1,e⟩:=e;have hiS:hiP.isSome=true:=by rw [hhi.isSome];simpa using hb1
   replace e:=Cf hhi e;obtain ⟨hh,e,h1⟩:=e;replace e:=Cf hlo e;obtain ⟨l,e,h2⟩:=e;replace e:=G3 hm e;obtain ⟨mn,e,h3⟩:=e;replace e:=Ap e;obtain ⟨g1,e⟩:=e;replace e:=Ap e;obtain ⟨g2,e⟩:=e;replace e:=Ap e;obtain ⟨g3,e⟩:=e;have:hh=0:=by simpa [neq] using g1
   subst this;have:l=0:=by simpa [neq] using g2
   subst this;have:mn=0:=by simpa [neq] using g3
   subst this;refine .same r e (p:=.nils) ?_ (by simp [VR]);unfold Pi.Bq;simp only [hu,hsz,h1,h2,UC,h3,hiS];rfl
 ·rename_i et f g c es hu;replace e:=AX e;obtain ⟨sz,hsz,e⟩:=e;replace e:=C4 e;obtain ⟨hwd,e⟩:=e;have hwd:sz=c.wd:=by simpa using hwd
  subst hwd;replace e:=Cf hlo e;obtain ⟨l,e,h1⟩:=e;replace e:=Cf hhi e;obtain ⟨hh,e,h2⟩:=e;split at e
  ·cases hmx;replace e:=Ap e;obtain ⟨g1,e⟩:=e;replace e:=Ap e;obtain ⟨g2,e⟩:=e;have g1':hh<=es.length:=by simpa [A6,AA] using g1
   have g2':l<=hh:=by simpa [A6] using g2
   simp only [VR] at ha;unfold Pi.Bq;rcases ha with ⟨rfl,rfl⟩ | ⟨f',ps,rfl,hf,k1⟩ | ⟨pid,off,len,ps,ex,fz,rfl,hf,k1,k2,k3,k4,k5⟩
   ·have:hh=0:=by simpa using g1'
    subst this;have:l=0:=by omega
    subst this;refine .same r e (p:=.nils) ?_ (by simp [VR,B3]);simp only [AA,List.length_nil] at h2;simp only [hu,hsz,h1,h2,Q9];rfl
   ·rw [k1.length] at g1';refine .same r e (p:=.lst (f'&&Nat.beq hh ps.length) ((ps.drop l).take (hh-l))) ?_ (by simp only [VR];exact .inr (.inl ⟨_,_,rfl,by simp,(k1.drop l).take (hh-l)⟩));simp only [AA,k1.length] at h2;simp only [hu,hsz,CM rfl (EPL.up (hh:=X.h) (Q:=X.Q) k1),Bool.not_true,cond_false,h1,h2];rw [show Nat.ble hh ps.length=true from by simpa using g1',show Nat.ble l hh=true from by simpa using g2'];rfl
   ·have hlen:((ps.drop off).take len).length=len:=by simp;omega
    rw [k5.length,hlen] at g1';simp only [AA,k5.length,hlen] at h2;have b1:Nat.ble l hh=true:=by simpa using g2'
    have b2:Nat.ble (off+hh) ps.length=true:=by simp;omega
    by_cases hb:off+l<ps.length
    ·refine .same r e (p:=.own pid (off+l) (hh-l)) ?_ (by simp only [VR];exact .inr (.inr ⟨pid,off+l,hh-l,ps,ex,fz,rfl,by simp,k1,k2,by omega,k4,OI k5 g1'⟩));simp only [hu,hsz,k2,k4,Bool.not_true,cond_false,h1,h2,b1,b2,Bool.or_self];rw [show Nat.blt (off+l) ps.length=true from by simpa using hb];rfl
    ·have hes:B3 es l hh=[]:=by
      have:=(OI (a:=l) k5 g1').length;simp at this;exact List.length_eq_zero_iff.1 (by omega)
     refine .same r e (p:=.lst false []) ?_ (by rw [hes];simp only [VR];exact .inr (.inl ⟨false,[],rfl,by simp,.nil⟩));simp only [hu,hsz,k2,k4,Bool.not_true,cond_false,h1,h2,b1,b2,Bool.or_self]
     rw [show Nat.blt (off+l) ps.length=false from by
      cases hq:Nat.blt (off+l) ps.length with
      | false=>rfl
      | true=>exact absurd (by simpa using hq) hb];rfl
  ·rename_i m;obtain ⟨mP,rfl,hm⟩:=hmx;replace e:=C4 e;obtain ⟨hb,e⟩:=e;simp only [Bool.or_eq_false_iff,Bool.not_eq_false',Option.isNone_eq_false_iff] at hb;obtain ⟨hb1,hb2⟩:=hb;have hiS:hiP.isSome=true:=by rw [hhi.isSome];exact hb1
   replace e:=G3 hm e;obtain ⟨mn,e,h3⟩:=e;replace e:=Ap e;obtain ⟨g1,e⟩:=e;replace e:=Ap e;obtain ⟨g3,e⟩:=e;replace e:=Ap e;obtain ⟨g2,e⟩:=e;have:hh=mn:=by simpa [neq] using g3
   subst this;have g1':hh<=es.length:=by simpa [A6,AA] using g1
   have g2':l<=hh:=by simpa [A6] using g2
   have b1:Nat.ble l hh=true:=by simpa using g2'
   simp only [VR] at ha;unfold Pi.Bq;rcases ha with ⟨rfl,rfl⟩ | ⟨f',ps,rfl,hf,k1⟩ | ⟨pid,off,len,ps,ex,fz,rfl,hf,k1,k2,k3,k4,k5⟩
   ·have:hh=0:=by simpa using g1'
    subst this;have:l=0:=by omega
    subst this;refine .same r e (p:=.nils) ?_ (by simp [VR,B3]);simp only [AA,List.length_nil] at h2;simp only [hu,hsz,h1,h2,UC,h3,hiS];rfl
   ·rw [k1.length] at g1';refine .same r e (p:=.lst true ((ps.drop l).take (hh-l))) ?_ (by simp only [VR];exact .inr (.inl ⟨_,_,rfl,by simp,(k1.drop l).take (hh-l)⟩));simp only [AA,k1.length] at h2;simp only [hu,hsz,CM rfl (EPL.up (hh:=X.h) (Q:=X.Q) k1),Bool.not_true,cond_false,h1,h2,h3,hiS,b1];have hbb:Nat.ble hh hh=true:=by simp
    have hbe:Nat.beq hh hh=true:=by simp
    rw [show Nat.ble hh ps.length=true from by simpa using g1',hbb,hbe];rfl
   ·have hlen:((ps.drop off).take len).length=len:=by simp;omega
    rw [k5.length,hlen] at g1';simp only [AA,k5.length,hlen] at h2;have b2:Nat.ble (off+hh) ps.length=true:=by simp;omega
    simp only [hu,hsz,k2,k4,Bool.not_true,cond_false,h1,h2,b1,b2,Bool.or_self,h3,hiS];cases hex:(ex&&Nat.beq (off+hh) ps.length) with
    | true =>
     simp only [Bool.and_eq_true,Nat.beq_eq] at hex;obtain ⟨rfl,hend⟩:=hex;by_cases hb:off+l<ps.length
     ·refine .same r e (p:=.own pid (off+l) (hh-l)) ?_ (by simp only [VR];exact .inr (.inr ⟨pid,off+l,hh-l,ps,true,fz,rfl,λ_=>⟨rfl,by omega⟩,k1,k2,by omega,k4,OI k5 g1'⟩));have hbb:Nat.ble hh hh=true:=by simp
      have hbe:Nat.beq (off+hh) ps.length=true:=by simp [hend]
      rw [show Nat.blt (off+l) ps.length=true from by simpa using hb,hbb,hbe];rfl
     ·have hes:B3 es l hh=[]:=by
       have:=(OI (a:=l) k5 g1').length;simp at this;exact List.length_eq_zero_iff.1 (by omega)
      refine .same r e (p:=.lst true []) ?_ (by rw [hes];simp only [VR];exact .inr (.inl ⟨true,[],rfl,by simp,.nil⟩))
      rw [show Nat.blt (off+l) ps.length=false from by
       cases hq:Nat.blt (off+l) ps.length with
       | false=>rfl
       | true=>exact absurd (by simpa using hq) hb]
      have hbb:Nat.ble hh hh=true:=by simp
      have hbe:Nat.beq (off+hh) ps.length=true:=by simp [hend]
      rw [hbb,hbe];rfl
    | false =>
     have hd:c.depth<=4:=Nat.le_of_ble_eq_true hb2;obtain ⟨qs,ids,p1,p2,p3⟩:=Nj (d:=12) (off:=off+l) (len:=hh-l) k2 (by omega) (OI k5 g1') (by omega)
     have hmA:MetA X [] (pid::ids):=λi hi=>by
      rcases List.mem_cons.1 hi with rfl | hi
      ·exact ⟨.inl k1,ps,ex,fz,k2⟩
      ·exact p3.toA i hi
     obtain ⟨hP',Y,f1,y1,y2,y3⟩:=r.mark hn hmA .nil rfl id idP;refine ⟨_,.lst true qs,hP',Y,e,?_,y3,by simp only [VR];exact .inr (.inl ⟨true,qs,rfl,by simp,p2⟩)⟩;have hbb:Nat.ble hh hh=true:=by simp
     have hbe:Nat.beq hh hh=true:=by simp
     have hc:(true&&Nat.ble hh hh&&ex&&Nat.beq (off+hh) ps.length)=false:=by rw [hbb];simpa using hex
     rw [hc];simp only [cond_false,Pi.Ha,show Pi.BI=12 from rfl,p1,f1,hbe];rfl
 ·rename_i et g c es hu;replace e:=AX e;obtain ⟨sz,hsz,e⟩:=e;replace e:=C4 e;obtain ⟨hwd,e⟩:=e;have hwd:sz=c.wd:=by simpa using hwd
  subst hwd;replace e:=Cf hlo e;obtain ⟨l,e,h1⟩:=e;replace e:=Cf hhi e;obtain ⟨hh,e,h2⟩:=e;split at e
  ·cases hmx;replace e:=Ap e;obtain ⟨g1,e⟩:=e;replace e:=Ap e;obtain ⟨g2,e⟩:=e;have g1':hh<=es.length:=by simpa [A6,AA] using g1
   have g2':l<=hh:=by simpa [A6] using g2
   simp only [VR] at ha;unfold Pi.Bq;rcases ha with ⟨rfl,rfl⟩ | ⟨f',ps,rfl,k1⟩
   ·have:hh=0:=by simpa using g1'
    subst this;have:l=0:=by omega
    subst this;refine .same r e (p:=.nils) ?_ (by simp [VR,B3]);simp only [AA,List.length_nil] at h2;simp only [hu,hsz,h1,h2,Q9];rfl
   ·rw [k1.length] at g1';refine .same r e (p:=.lst (f'&&Nat.beq hh ps.length) ((ps.drop l).take (hh-l))) ?_ (by simp only [VR];exact .inr ⟨_,_,rfl,(k1.drop l).take (hh-l)⟩);simp only [AA,k1.length] at h2;simp only [hu,hsz,CM rfl (EPL.up (hh:=X.h) (Q:=X.Q) k1),Bool.not_true,cond_false,h1,h2];rw [show Nat.ble hh ps.length=true from by simpa using g1',show Nat.ble l hh=true from by simpa using g2'];rfl
  ·rename_i m;obtain ⟨mP,rfl,hm⟩:=hmx;replace e:=C4 e;obtain ⟨hb,e⟩:=e;simp only [Bool.or_eq_false_iff,Bool.not_eq_false',Option.isNone_eq_false_iff] at hb;obtain ⟨hb1,hb2⟩:=hb;have hiS:hiP.isSome=true:=by rw [hhi.isSome];exact hb1
   replace e:=G3 hm e;obtain ⟨mn,e,h3⟩:=e;replace e:=Ap e;obtain ⟨g1,e⟩:=e;replace e:=Ap e;obtain ⟨g3,e⟩:=e;replace e:=Ap e;obtain ⟨g2,e⟩:=e;have:hh=mn:=by simpa [neq] using g3
   subst this;have g1':hh<=es.length:=by simpa [A6,AA] using g1
   have g2':l<=hh:=by simpa [A6] using g2
   have b1:Nat.ble l hh=true:=by simpa using g2'
   simp only [VR] at ha;unfold Pi.Bq;rcases ha with ⟨rfl,rfl⟩ | ⟨f',ps,rfl,k1⟩
   ·have:hh=0:=by simpa using g1'
    subst this;have:l=0:=by omega
    subst this;refine .same r e (p:=.nils) ?_ (by simp [VR,B3]);simp only [AA,List.length_nil] at h2;simp only [hu,hsz,h1,h2,UC,h3,hiS];rfl
   ·rw [k1.length] at g1';refine .same r e (p:=.lst true ((ps.drop l).take (hh-l))) ?_ (by simp only [VR];exact .inr (.inl ⟨_,_,rfl,by simp,(k1.drop l).take (hh-l)⟩));simp only [AA,k1.length] at h2;simp only [hu,hsz,CM rfl (EPL.up (hh:=X.h) (Q:=X.Q) k1),Bool.not_true,cond_false,h1,h2,h3,hiS,b1];have hbb:Nat.ble hh hh=true:=by simp
    have hbe:Nat.beq hh hh=true:=by simp
    rw [show Nat.ble hh ps.length=true from by simpa using g1',hbb,hbe];rfl
 ·rename_i et j hu;split at e
  ·rename_i g c es ex lk hg;replace e:=AX e;obtain ⟨sz,hsz,e⟩:=e;replace e:=C4 e;obtain ⟨hwd,e⟩:=e;have hwd:sz=c.wd:=by simpa using hwd
   subst hwd;replace e:=Cf hlo e;obtain ⟨l,e,h1⟩:=e;replace e:=Cf hhi e;obtain ⟨hh,e,h2⟩:=e;split at e
   ·cases hmx;replace e:=Ap e;obtain ⟨g1,e⟩:=e;replace e:=Ap e;obtain ⟨g2,e⟩:=e;have g1':hh<=es.length:=by simpa [A6,AA] using g1
    have g2':l<=hh:=by simpa [A6] using g2
    have b1:Nat.ble l hh=true:=by simpa using g2'
    simp only [VR] at ha;have hB:=r.blk _ _ hg;cases hpi:X.π j with
    | none=>rw [hpi] at ha;exact ha.elim
    | some t =>
     rw [hpi] at ha hB;unfold Pi.Bq;rcases hB with ⟨pid,len,ps,fz',p1,p2,p3,p4,p5,p7,p6⟩ | ⟨p1,_,p2⟩ | ⟨qs,p1,_,p2,p3⟩
     ·cases p1;simp only at ha;subst ha;have hl:es.length=len:=by rw [p6.length,p5]
      simp only [AA,hl] at h2;rw [hl] at g1';have b2:Nat.ble (0+hh) ps.length=true:=by simp;omega
      replace e:=ES e;rcases e with ⟨hb,e⟩ | ⟨hb,e⟩
      ·have hb':l<len:=by simpa [B6,AA,hl] using hb
       refine .same r e (p:=.own pid (0+l) (hh-l)) ?_ (by simp only [VR];exact ⟨pid,len,hpi,by simp [CF]⟩);simp only [hu,hsz,p3,CM rfl p6,Bool.not_true,cond_false,h1,h2,b1,b2,Bool.or_self];rw [show Nat.blt (0+l) ps.length=true from by simp;omega];rfl
      ·have hb' : ¬ l<len:=jc (by rw [<- hl];exact hb);refine .same r e (p:=.lst false []) ?_ (by simp only [VR];exact .inr (.inl ⟨false,[],rfl,by simp,.nil⟩));simp only [hu,hsz,p3,CM rfl p6,Bool.not_true,cond_false,h1,h2,b1,b2,Bool.or_self];rw [ja (by omega)];rfl
     ·cases p1;subst p2;simp only at ha;subst ha;have:hh=0:=by simpa using g1'
      subst this;have:l=0:=by omega
      subst this;replace e:=ES e;rcases e with ⟨hb,e⟩ | ⟨hb,e⟩
      ·simp [B6,AA] at hb
      ·refine .same r e (p:=.nils) ?_ (by simp [VR]);simp only [AA,List.length_nil] at h2;simp only [hu,hsz,h1,h2,Q9];rfl
     ·rcases p2 with p2 | p2
      ·cases p2
      ·subst p2;cases p1;have:=p3.nil_inv;subst this;simp only at ha;subst ha;have:hh=0:=by simpa using g1'
       subst this;have:l=0:=by omega
       subst this;replace e:=ES e;rcases e with ⟨hb,e⟩ | ⟨hb,e⟩
       ·simp [B6,AA] at hb
       ·refine .same r e (p:=.lst true []) ?_ (by simp only [VR];exact .inr (.inl ⟨true,[],rfl,by simp,.nil⟩));simp only [AA,List.length_nil] at h2;simp only [hu,hsz,h1,List.length_nil,h2,show Pi.GJ c.wd []=true from rfl,Bool.not_true,cond_false];rfl
   ·cases e
  ·cases e
 ·rename_i et j off len hu;split at e
  ·rename_i g c es ex fz lk hg;replace e:=AX e;obtain ⟨sz,hsz,e⟩:=e;replace e:=C4 e;obtain ⟨hwd,e⟩:=e;have hwd:sz=c.wd:=by simpa using hwd
   subst hwd;replace e:=Cf hlo e;obtain ⟨l,e,h1⟩:=e;replace e:=Cf hhi e;obtain ⟨hh,e,h2⟩:=e;split at e
   ·cases hmx;replace e:=Ap e;obtain ⟨g1,e⟩:=e;replace e:=Ap e;obtain ⟨g2,e⟩:=e;have g1':off+hh<=es.length:=by simpa [A6,AA,AJ] using g1
    have g2':l<=hh:=by simpa [A6] using g2
    have b1:Nat.ble l hh=true:=by simpa using g2'
    simp only [VR] at ha;obtain ⟨pid,m,hpi,rfl⟩:=ha;obtain ⟨ps,fz',p3,_,p5,_,p6⟩:=r.rowAt hpi hg;rw [p6.length] at g1';have b2:Nat.ble (off+hh) ps.length=true:=by simpa using g1'
    unfold Pi.Bq;replace e:=ES e;rcases e with ⟨hb,e⟩ | ⟨hb,e⟩
    ·have hb':off+l<ps.length:=by simpa [B6,AA,AJ,p6.length] using hb
     refine .same r e (p:=.own pid (off+l) (hh-l)) ?_ (by simp only [VR];exact ⟨pid,m,hpi,rfl⟩);simp only [hu,hsz,p3,CM rfl p6,Bool.not_true,cond_false,h1,h2,b1,b2,Bool.or_self];rw [show Nat.blt (off+l) ps.length=true from by simpa using hb'];rfl
    ·have hb' : ¬ off+l<ps.length:=jc (by rw [<- p6.length];exact hb);refine .same r e (p:=.lst false []) ?_ (by simp only [VR];exact .inr (.inl ⟨false,[],rfl,by simp,.nil⟩));simp only [hu,hsz,p3,CM rfl p6,Bool.not_true,cond_false,h1,h2,b1,b2,Bool.or_self];rw [ja hb'];rfl
   ·rename_i m;obtain ⟨mP,rfl,hm⟩:=hmx;replace e:=C4 e;obtain ⟨hb,e⟩:=e;simp only [Bool.or_eq_false_iff,Bool.not_eq_false',Option.isNone_eq_false_iff] at hb;obtain ⟨⟨hb0,hb1⟩,hb2⟩:=hb;have hiS:hiP.isSome=true:=by rw [hhi.isSome];exact hb1
    have hl0:l=0:=by
     cases lo with
     | none=>cases hlo;cases h1;rfl
     | some v=>cases hb0
    subst hl0;subst hb2;replace e:=G3 hm e;obtain ⟨mn,e,h3⟩:=e;replace e:=Ap e;obtain ⟨g1,e⟩:=e;replace e:=Ap e;obtain ⟨g2,e⟩:=e;replace e:=Ap e;obtain ⟨g3,e⟩:=e;simp only [VR] at ha;obtain ⟨pid,m',hpi,rfl⟩:=ha;obtain ⟨ps,fz',p3,_,p5,_,p6⟩:=r.rowAt hpi hg;have g1':hh<=mn:=by simpa [A6] using g1
    have g2':off+mn=ps.length:=by rw [<- p6.length];simpa [neq,AJ,AA] using g2
    have g3':off<ps.length:=by rw [<- p6.length];simpa [B6,AA] using g3
    have b2:Nat.ble (off+hh) ps.length=true:=by simp;omega
    have b3:Nat.ble hh mn=true:=by simpa using g1'
    have b4:Nat.beq (off+mn) ps.length=true:=by simpa using g2'
    have b5:Nat.blt off ps.length=true:=by simpa using g3'
    unfold Pi.Bq;refine .same r e (p:=.own pid off hh) ?_ (by simp only [VR];exact ⟨pid,m',hpi,rfl⟩);simp only [hu,hsz,p3,CM rfl p6,Bool.not_true,cond_false,h1,h2,h3,hiS,b2,b3,b4,Nat.add_zero,Nat.sub_zero,b5,Bool.or_self,show Nat.ble 0 hh=true from by simp];rfl
  ·cases e
 ·cases e
theorem OJ {hh:Hp} {ty:TypeId} {u:TypeDesc} {v:PV} {ok:Bool} (hu:P.underlying ty=some u) (hn : ∀ m,u = .interface m->False):Pi.DJ P hh ty v ok=(match v with
  | .ifc u a=>bif Nat.beq u ty then some (.val (Pi.H8 ok a) hh) else bif ok then (match Pi.EW P ty with
   | some z=>some (.val (.tup [z,.bool false]) hh)
   | none=>none) else none
  | .nili=>bif ok then (match Pi.EW P ty with
   | some z=>some (.val (.tup [z,.bool false]) hh)
   | none=>none) else none
  | _=>none):=by
 unfold Pi.DJ;rw [hu];cases u<;>first | rfl | exact (hn _ rfl).elim
theorem PJ {t:TypeId} {u:TypeDesc} {A B C:FuncId->Option Pi.R} (hu:P.underlying t=some u) (hn : ∀ m,u = .pointer m->False) {b:Bool} {fn:Option (FuncId×Bool)} {g:FuncId}:b=true->fn=some (g,false) ->
  (match b,fn,P.underlying t with
   | true,some (g,true),some (.pointer _)=>A g
   | true,some (g,false),some (.pointer _)=>C g
   | true,some (g,false),some _=>B g
   | _,_,_=>none)=B g:=by
 intro h1 h2;subst h1;subst h2;rw [hu];cases u<;>first | rfl | exact (hn _ rfl).elim
theorem UD (r:RH X h n) {ty:TypeId} {a:V} {p:PV} {ok:Bool} {K:V->Option β} (ha:VR X a p) (e:Qt P ty a ok K=some x) : ∃ v q,K v=some x/\Pi.DJ P X.h ty p ok=some (.val q X.h)/\VR X v q:=by
 have zr : ∀ {K:V->Option β},(bif ok then Gm (G1 P ty) λz=>K (.tup [z,.bool false]) else none)=some x -> ∃ v q,K v=some x/\(bif ok then (match Pi.EW P ty with
    | some z=>some (Pi.R.val (.tup [z,.bool false]) X.h)
    | none=>none) else none)=some (Pi.R.val q X.h)/\VR X v q:=by
  clear e;intro K e;replace e:=A3 e;obtain ⟨hok,e⟩:=e;subst hok;replace e:=AX e;obtain ⟨z,hz,e⟩:=e;obtain ⟨zP,z1,z2⟩:=K1 (X:=X) hz;exact ⟨_,.tup [zP,.bool false],e,by simp [z1],by simp only [VR];exact ⟨_,rfl,.cons z2 (.cons (by simp [VR]) .nil)⟩⟩
 have yes : ∀ {v:V} {q:PV},VR X v q->VR X (J9 ok v) (Pi.H8 ok q):=by
  intro v q h;cases ok
  ·exact h
  ·simp only [J9,Pi.H8,cond_true,VR];exact ⟨_,rfl,.cons h (.cons (by simp [VR]) .nil)⟩
 have zr' := @zr;unfold Qt at e;split at e
 ·rename_i want hu;unfold Pi.DJ;simp only [hu];split at e
  ·rename_i u a;have ha':=ha;simp only [VR] at ha;obtain ⟨q,rfl,ha⟩:=ha;split at e
   ·rename_i i hi;simp only [hi];split at e
    ·rename_i hm;exact ⟨_,_,e,by simp only [hm],yes ha'⟩
    ·rename_i y hm;simp only [hm];exact zr e
   ·cases e
  ·simp only [VR] at ha;subst ha;exact zr e
  ·cases e
 ·rename_i u hu hne;clear zr;rw [OJ hne hu];split at e
  ·rename_i u' a;simp only [VR] at ha;obtain ⟨q,rfl,ha⟩:=ha;replace e:=E7 e;rcases e with ⟨hb,e⟩ | ⟨hb,e⟩
   ·exact ⟨_,_,e,by simp only [hb,cond_true],yes ha⟩
   ·obtain ⟨v,q',e1,e2,e3⟩:=zr' e;exact ⟨v,q',e1,by simp only [hb,cond_false];exact e2,e3⟩
  ·simp only [VR] at ha;subst ha;exact zr' e
  ·cases e
 ·cases e
theorem Vu {α:Type} {c:Bool} {a b:α} (h:c=true):(bif c then a else b)=a:=by subst h;rfl
theorem Ij {f:Fn} {first cap args:List V} {firstP capP argsP:List PV} {K:RA->Option β} (h1:VRL X first firstP) (h2:VRL X cap capP) (h3:VRL X args argsP) (e:J8 P f first cap args K=some x) :
  ∃ g as ps,K (.call g as)=some x/\Pi.FP P f firstP capP argsP=some (.call g ps)/\VRL X as ps:=by
 unfold J8 at e;unfold Pi.FP;split at e
 ·split at e
  ·rename_i fn hf;replace e:=A3 e;obtain ⟨hb,e⟩:=e;refine ⟨_,_,_,e,?_,(h1.append h3).append h2⟩;simp only [hf,hb,cond_true]
  ·cases e
 ·split at e
  ·rename_i t v rest hfa;have hall:=h1.append h3;rw [hfa] at hall;obtain ⟨p,qs,hq,r1,r2⟩:=hall.cons_inv;simp only [VR] at r1;obtain ⟨q,rfl,r1⟩:=r1;rw [hq];split at e
   ·rename_i i hi;simp only [hi];split at e
    ·rename_i m hm;simp only [hm];split at e
     ·rename_i g k1 k2 k3;replace e:=A3 e;obtain ⟨hb,e⟩:=e;refine ⟨_,_,_,e,?_,.cons r1 r2⟩;simp only [k1,k2,k3];exact Vu hb
     ·cases e
     ·rename_i g u hne k1 k2 k3;replace e:=A3 e;obtain ⟨hb,e⟩:=e;refine ⟨_,_,_,e,?_,.cons r1 r2⟩;exact (PJ k3 hne k1 k2).trans (Vu hb)
     ·cases e
    ·cases e
   ·cases e
  ·cases e
 ·cases e
end
end Go.Proofs.YthpkjfabdccpdaaGreat.Sv
namespace Go.Proofs.YthpkjfabdccpdaaGreat.Sv
open Go.Proofs.YthpkjfabdccpdaaGreat.Pi (PV T Hp Blk DF UM PE Au A8 AM BO By)
section
variable {X:Cx} {h:H} {n id idP:Nat} {β:Type} {x:β} {P:Program}
inductive EvOk (X:Cx) (h:H) (n id idP:Nat) (K:RA->Option β) (x:β):Option Pi.R->Prop where
 | val {v:V} {h':H} {p:PV} {hP':Hp} {Y:Cx} (e:K (.val v h')=some x) (ok:K5 X h n id idP h' hP' Y) (hv:VR Y v p):EvOk X h n id idP K x (some (.val p hP'))
 | skip {h':H} {hP':Hp} {Y:Cx} (e:K (.skip h')=some x) (ok:K5 X h n id idP h' hP' Y):EvOk X h n id idP K x (some (.skip hP'))
 | call {f:FuncId} {as:List V} {ps:List PV} (e:K (.call f as)=some x) (ha:VRL X as ps):EvOk X h n id idP K x (some (.call f ps))
 | yield {l lP m:Nat} {as:List V} {ps:List PV} (e:K (.yield l as)=some x) (hl:X.π l=some (.blk lP m)) (ha:VRL X as ps):EvOk X h n id idP K x (some (.yield lP ps))
 | pan {v:V} {p:PV} (e:K (.pan v)=some x) (hv:VR X v p):EvOk X h n id idP K x (some (.pan p))
 | rcv (e:K .rcv=some x):EvOk X h n id idP K x (some .rcv)
 | dfr {d:DFA} {dP:DF} (e:K (.dfr d)=some x) (hd:DFR X d dP):EvOk X h n id idP K x (some (.dfr dP))
theorem EvOk.ofV (r:RH X h n) {K:RA->Option β} {o:Option Pi.R} {v:V} {p:PV} (e:K (.val v h)=some x) (eo:o=some (.val p X.h)) (hv:VR X v p):EvOk X h n id idP K x o:=by
 subst eo;exact .val e ⟨rfl,r,St.refl _ _ _ _⟩ hv
theorem VOk.ev {K:RA->Option β} {o:Option Pi.R} (k:VOk X h n id idP K x o):EvOk X h n id idP K x o:=by
 obtain ⟨v,h',p,hP',Y,e,rfl,k1,k2⟩:=k;exact .val e k1 k2
theorem Qh (r:RH X h n) (w:Nw X n id idP) {cs:List V} {ps:List PV} {K:RA->Option β} (hc:VRL X cs ps) (e:K (.val (.ptr id 0) (Ad h id (.box cs false false)))=some x) :
  EvOk X h n id idP K x ((X.h.new idP (.box ps false)).map λh => .val (.ptr idP 0) h):=by
 obtain ⟨hP',e1⟩:=K4 X.h idP (.box ps false) w.hp
 obtain ⟨Y,y1,y2,y3,y4⟩:=r.new (m:=0) (b:=.box cs false false) w.small w.lt w.pi w.hlt e1 (λY y1 y2 y3 u =>
  ⟨idP,0,ps,false,rfl,(y3 _).2 (.inr rfl),by rw [y2,(Hp.get_new e1).2.1,if_pos rfl],λ_=>rfl,hc.mono u⟩)
 rw [e1];refine .val e ⟨y2,y3,y4⟩ ?_;simp only [VR];exact ⟨idP,0,by rw [y1];exact if_pos rfl,rfl⟩
theorem Y8 {t:T V} {tP:T PV} (r:RH X h n) (w:Nw X n id idP) (ht:TR X t tP) {o:Oper} {K:RA->Option β} (e:lC P t h id o K=some x):EvOk X h n id idP K x (Pi.A0 P tP X.h idP o):=by
 unfold lC at e;unfold Pi.A0;split at e
 ·rename_i a ho;simp only [ho];replace e:=Av ht e;obtain ⟨v,p,e,h1,h2⟩:=e;exact .ofV r e (DA h1) h2
 ·rename_i a ho;simp only [ho];replace e:=Av ht e;obtain ⟨v,p,e,h1,h2⟩:=e;exact .ofV r e (DA h1) h2
 ·rename_i c a b ho;simp only [ho,Pi.e3];replace e:=Av ht e;obtain ⟨vc,pc,e,c1,c2⟩:=e;replace e:=Av ht e;obtain ⟨va,pa,e,a1,a2⟩:=e;replace e:=Av ht e;obtain ⟨vb,pb,e,b1,b2⟩:=e;simp only [c1,a1,b1];split at e
  ·simp only [VR] at c2;subst c2;replace e:=ES e;rcases e with ⟨hc,e⟩ | ⟨hc,e⟩
   ·subst hc;exact .ofV r e rfl a2
   ·subst hc;exact .ofV r e rfl b2
  ·cases e
 ·rename_i ty ho;simp only [ho];replace e:=AX e;obtain ⟨cs,hcs,e⟩:=e;obtain ⟨ps,k1,k2⟩:=FB (X:=X) hcs;unfold Pi.Gb;simp only [k1];exact Qh r w k2 e
 ·rename_i ty a ho;simp only [ho,Pi.e1];replace e:=Av ht e;obtain ⟨v,p,e,h1,h2⟩:=e;simp only [h1];split at e
  ·cases e
  ·rename_i hne
   have hp:Pi.KX X.h idP p=(X.h.new idP (.box p.cells false)).map λh => .val (.ptr idP 0) h:=by
    cases p with
    | tup ps =>
     exfalso;cases v with
     | tup=>exact hne _ rfl
     | ow i =>
      simp only [VR] at h2;split at h2<;>first | (cases h2;done) | exact h2
     | lf =>
      simp only [VR] at h2;rcases h2 with ⟨h2,_⟩ | ⟨_,_,h2,_⟩ | ⟨_,_,_,_,_,_,h2,_⟩<;>cases h2
     | view =>
      simp only [VR] at h2;rcases h2 with ⟨_,h2,_⟩ | ⟨_,_,_,_,_,_,_,h2,_⟩<;>cases h2
     | agg=>obtain ⟨_,h3,_⟩:=h2.agg_inv;cases h3
     | exl=>simp only [VR] at h2;obtain ⟨_,_,h2,_⟩:=h2;cases h2
     | pl=>simp only [VR] at h2;rcases h2 with ⟨h2,_⟩ | ⟨_,_,h2,_⟩<;>cases h2
     | pv=>simp only [VR] at h2;obtain ⟨_,h2,_⟩:=h2;cases h2
     | own=>simp only [VR] at h2;obtain ⟨_,_,_,h2⟩:=h2;cases h2
     | ptr=>simp only [VR] at h2;obtain ⟨_,_,_,h2⟩:=h2;cases h2
     | ept=>simp only [VR] at h2;obtain ⟨_,_,_,h2⟩:=h2;cases h2
     | fn=>simp only [VR] at h2;obtain ⟨_,_,h2,_⟩:=h2;cases h2
     | yl=>simp only [VR] at h2;obtain ⟨_,_,_,h2⟩:=h2;cases h2
     | mp=>simp only [VR] at h2;obtain ⟨_,_,_,h2⟩:=h2;cases h2
     | ifc=>simp only [VR] at h2;obtain ⟨_,h2,_⟩:=h2;cases h2
     | _=>simp only [VR] at h2;cases h2
    | _=>rfl
   rw [hp];exact Qh r w h2.cells e
 ·rename_i ty parts ho;simp only [ho];replace e:=JV ht e;obtain ⟨vs,ps,e,h1,h2⟩:=e;simp only [h1];obtain ⟨v,q,e1,e2,e3⟩:=Wv (X:=X) h2 e;exact .ofV r e1 e2 e3
 ·rename_i ty len parts ho;simp only [ho];replace e:=JV ht e;obtain ⟨vs,ps,e,h1,h2⟩:=e;simp only [h1];exact (OH r w.big h2 e).ev
 ·rename_i ty a ho;simp only [ho,Pi.e1];replace e:=Av ht e;obtain ⟨v,p,e,h1,h2⟩:=e;simp only [h1];obtain ⟨v,q,e1,e2,e3⟩:=Yx r h2 e;exact .ofV r e1 e2 e3
 ·rename_i ty a b ho;simp only [ho,Pi.e2];replace e:=Av ht e;obtain ⟨v,p,e,h1,h2⟩:=e;replace e:=Av ht e;obtain ⟨v',p',e,h3,h4⟩:=e;simp only [h1,h3];obtain ⟨h',hP',Y,e1,e2,e3⟩:=Wt r w.big h2 h4 id idP e;rw [e2];exact .skip e1 e3
 ·rename_i a ho;simp only [ho,Pi.e1];replace e:=Av ht e;obtain ⟨v,p,e,h1,h2⟩:=e;simp only [h1];obtain ⟨v,q,e1,e2,e3⟩:=fQ (h:=X.h) h2 e;exact .ofV r e1 e2 e3
 ·rename_i op ty a b ty2 ho;simp only [ho,Pi.e2];replace e:=Av ht e;obtain ⟨v,p,e,h1,h2⟩:=e;replace e:=Av ht e;obtain ⟨v',p',e,h3,h4⟩:=e;simp only [h1,h3];obtain ⟨v,q,e1,e2,e3⟩:=fN (h:=X.h) h2 h4 e;exact .ofV r e1 e2 e3
 ·rename_i op ty a ho;simp only [ho,Pi.e1];replace e:=Av ht e;obtain ⟨v,p,e,h1,h2⟩:=e;simp only [h1];obtain ⟨v,q,e1,e2,e3⟩:=iR h2 e;exact .ofV r e1 (DA e2) e3
 ·rename_i s d a ho;simp only [ho,Pi.e1];replace e:=Av ht e;obtain ⟨v,p,e,h1,h2⟩:=e;simp only [h1];obtain ⟨v,q,e1,e2,e3⟩:=SM (h:=X.h) h2 e;exact .ofV r e1 e2 e3
 ·rename_i ty a ho;simp only [ho,Pi.e1];replace e:=Av ht e;obtain ⟨v,p,e,h1,h2⟩:=e;simp only [h1];obtain ⟨v,q,e1,e2,e3⟩:=fO (h:=X.h) h2 e;exact .ofV r e1 e2 e3
 ·rename_i f first cap ho
  simp only [ho];replace e:=Lr ht e;obtain ⟨vs,ps,e,h1,h2⟩:=e;replace e:=Lr ht e;obtain ⟨vs',ps',e,h3,h4⟩:=e;simp only [h1,h3];split at e
  ·cases e
  ·rename_i f' hne;refine .ofV r e (p:=.fn f ps ps') ?_ (by simp only [VR];exact ⟨_,_,rfl,h2,h4⟩);unfold Pi.C1;split
   ·exact absurd rfl (hne _)
   ·rfl
 ·rename_i ty ho;simp only [ho];unfold SE at e;split at e
  ·split at e
   ·rename_i k g c hk hc;obtain ⟨hP',e1⟩:=K4 X.h idP (.mp []) w.hp
    obtain ⟨Y,y1,y2,y3,y4⟩:=r.new (m:=0) (b:=.mp k g c [] false) w.small w.lt w.pi w.hlt e1 (λY y1 y2 y3 u =>
     ⟨idP,0,[],rfl,(y3 _).2 (.inr rfl),by rw [y2,(Hp.get_new e1).2.1,if_pos rfl],.nil⟩)
    rw [e1];refine .val e ⟨y2,y3,y4⟩ ?_;simp only [VR];exact ⟨idP,0,by rw [y1];exact if_pos rfl,rfl⟩
   ·cases e
  ·cases e
 ·rename_i ty a b ho;simp only [ho,Pi.e2];replace e:=Av ht e;obtain ⟨v,p,e,h1,h2⟩:=e;replace e:=Av ht e;obtain ⟨v',p',e,h3,h4⟩:=e;simp only [h1,h3];refine (Y7 r w (λhs => ?_) h2 h4 e).ev;unfold Vm at hs;split at hs
  ·have:=Nat.eq_of_beq_eq_true hs;subst this;rw [h1] at h3;exact Option.some.inj h3
  ·cases hs
 ·rename_i ty a lo hi mx ho;simp only [ho,Pi.e1];replace e:=Qy ht e;obtain ⟨vl,pl,e,l1,l2⟩:=e;replace e:=Qy ht e;obtain ⟨vh,ph,e,i1,i2⟩:=e;replace e:=Qy ht e;obtain ⟨vm,pm,e,m1,m2⟩:=e;replace e:=Av ht e;obtain ⟨v,p,e,h1,h2⟩:=e;simp only [l1,i1,m1,h1];obtain ⟨v,q,hP',Y,e1,e2,e3,e4⟩:=Ww (id:=id) (idP:=idP) r w.big h2 l2 i2 m2 e;rw [e2];exact .val e1 e3 e4
 ·rename_i s a f ho;simp only [ho,Pi.e1];replace e:=Av ht e;obtain ⟨v,p,e,h1,h2⟩:=e;simp only [h1];obtain ⟨v,q,e1,e2,e3⟩:=PH h2 e;exact .ofV r e1 e2 e3
 ·rename_i ty a f ho;simp only [ho,Pi.e1];replace e:=Av ht e;obtain ⟨v,p,e,h1,h2⟩:=e;simp only [h1];obtain ⟨v,q,e1,e2,e3⟩:=Ws (h:=X.h) h2 e;exact .ofV r e1 e2 e3
 ·rename_i ty a b ho;simp only [ho,Pi.e2];replace e:=Av ht e;obtain ⟨v,p,e,h1,h2⟩:=e;replace e:=Av ht e;obtain ⟨v',p',e,h3,h4⟩:=e;simp only [h1,h3];obtain ⟨v,q,e1,e2,e3⟩:=PI r h2 h4 e;exact .ofV r e1 e2 e3
 ·rename_i ty a b ho;simp only [ho,Pi.e2];replace e:=Av ht e;obtain ⟨v,p,e,h1,h2⟩:=e;replace e:=Av ht e;obtain ⟨v',p',e,h3,h4⟩:=e;simp only [h1,h3];obtain ⟨v,q,e1,e2,e3⟩:=Wu (X:=X) h2 h4 e;exact .ofV r e1 e2 e3
 ·rename_i ty a b ok ho;simp only [ho,Pi.e2];replace e:=Av ht e;obtain ⟨v,p,e,h1,h2⟩:=e;replace e:=Av ht e;obtain ⟨v',p',e,h3,h4⟩:=e;simp only [h1,h3];obtain ⟨v,q,e1,e2,e3⟩:=UA r h2 h4 e;exact .ofV r e1 e2 e3
 ·rename_i ty a k b ho;simp only [ho,Pi.e3];replace e:=Av ht e;obtain ⟨v,p,e,h1,h2⟩:=e;replace e:=Av ht e;obtain ⟨v',p',e,h3,h4⟩:=e;replace e:=Av ht e;obtain ⟨v'',p'',e,h5,h6⟩:=e;simp only [h1,h3,h5];obtain ⟨h',hP',Y,e1,e2,e3⟩:=Ka r w.big h2 h4 h6 id idP e;rw [e2];exact .skip e1 e3
 ·rename_i ty a k b ho;simp only [ho,Pi.e3];replace e:=Av ht e;obtain ⟨v,p,e,h1,h2⟩:=e;replace e:=Av ht e;obtain ⟨v',p',e,h3,h4⟩:=e;replace e:=Av ht e;obtain ⟨v'',p'',e,h5,h6⟩:=e;simp only [h1,h3,h5];obtain ⟨h',hP',Y,e1,e2,e3⟩:=Ka r w.big h2 h4 h6 id idP e;rw [e2];exact .skip e1 e3
 ·rename_i a ty1 ty ok ho;simp only [ho,Pi.e1];replace e:=Av ht e;obtain ⟨v,p,e,h1,h2⟩:=e;simp only [h1];obtain ⟨v,q,e1,e2,e3⟩:=UD r h2 e;exact .ofV r e1 e2 e3
 ·rename_i a i ho;simp only [ho,Pi.e1];replace e:=Av ht e;obtain ⟨v,p,e,h1,h2⟩:=e;simp only [h1];split at e
  ·replace e:=AX e;obtain ⟨v,hv,e⟩:=e;simp only [VR] at h2;obtain ⟨ps,rfl,h2⟩:=h2;obtain ⟨q,q1,q2⟩:=h2.lget hv;exact .ofV r e (DA q1) q2
  ·cases e
 ·rename_i a ho;simp only [ho,Pi.e1];replace e:=Av ht e;obtain ⟨v,p,e,h1,h2⟩:=e;simp only [h1];split at e
  ·have h2':=h2;simp only [VR] at h2;obtain ⟨q,rfl,h2⟩:=h2;exact .pan e h2'
  ·cases e
 ·rename_i c ho;simp only [ho];replace e:=Lr ht e;obtain ⟨vs,ps,e,h1,h2⟩:=e;simp only [h1];split at e
  ·rename_i b hb;simp only [hb];rcases SQ r w h2 e with k | ⟨v,p,e1,e2,e3⟩ | ⟨e1,e2⟩
   ·exact k.ev
   ·rw [e2];exact .pan e1 e3
   ·rw [e2];exact .rcv e1
  ·rename_i f hf;simp only [hf,Pi.e1];replace e:=Av ht e;obtain ⟨v,p,e,h3,h4⟩:=e;simp only [h3];split at e
   ·simp only [VR] at h4;obtain ⟨a',b',rfl,k1,k2⟩:=h4;obtain ⟨g,as,ps',e1,e2,e3⟩:=Ij k1 k2 h2 e;show EvOk X h n id idP K x (Pi.FP P _ a' b' ps);rw [e2];exact .call e1 e3
   ·simp only [VR] at h4;obtain ⟨pid,m,k1,rfl⟩:=h4;exact .yield e k1 h2
   ·cases e
  ·rename_i recv name hf;simp only [hf,Pi.e1];replace e:=Av ht e;obtain ⟨v,p,e,h3,h4⟩:=e;simp only [h3];obtain ⟨g,as,ps',e1,e2,e3⟩:=Ij (.cons h4 .nil) .nil h2 e;rw [e2];exact .call e1 e3
 ·rename_i c ho;simp only [ho];replace e:=Lr ht e;obtain ⟨vs,ps,e,h1,h2⟩:=e;simp only [h1];split at e
  ·rename_i b hb;simp only [hb];exact .dfr e ⟨ps,rfl,h2⟩
  ·rename_i f hf;simp only [hf,Pi.e1];replace e:=Av ht e;obtain ⟨v,p,e,h3,h4⟩:=e;simp only [h3];split at e
   ·have h4':=h4;simp only [VR] at h4;obtain ⟨a',b',rfl,k1,k2⟩:=h4;exact .dfr e ⟨_,ps,rfl,h4',h2⟩
   ·cases e
  ·cases e
 ·cases e
end
end Go.Proofs.YthpkjfabdccpdaaGreat.Sv
namespace Go.Proofs.YthpkjfabdccpdaaGreat.Sv
open Go.Proofs.YthpkjfabdccpdaaGreat.Pi (PV T Hp Blk DF UM PE Au A8 AM BO By)
def oc (X:Cx) (a:PEA) (b:PE):Prop:=VR X a.v b.v/\a.recovered=b.recovered
def UMR (X:Cx):Option UMA->Option UM->Prop
 | none,u=>u=none
 | some .ret,u=>u=some .ret
 | some (.pan ch),u => ∃ c,u=some (.pan c)/\L2 (oc X) ch c
def ROR (X:Cx):Option Nat->Option Nat->Prop
 | none,r=>r=none
 | some l,r => ∃ p m,X.π l=some (.blk p m)/\r=some p
structure FR (X:Cx) (fr:FrA) (fp:Pi.Fr):Prop where
 t:TR X fr.t fp.t
 nt:fp.nt=fr.nt
 big:fr.nt<1048575
 ds:L2 (DFR X) fr.ds fp.ds
 up:UMR X fr.up fp.up
 ro:ROR X fr.ro fp.ro
def TS (X:Cx):ExA->Pi.Ex->Prop
 | .normal,e=>e = .normal
 | .exit i,e=>e = .exit i
 | .goto i,e=>e = .goto i
 | .ret,e=>e = .ret
 | .panic v,e => ∃ p,e = .panic p/\VR X v p
def UE (X:Cx):OutA->Pi.Out->Prop
 | .ret v,o => ∃ p,o = .ret p/\VR X v p
 | .pan ch,o => ∃ c,o = .pan c/\L2 (oc X) ch c
theorem UMR.mono {X Y:Cx} (u:Up X Y) {a:Option UMA} {b:Option UM} (h:UMR X a b):UMR Y a b:=by
 cases a with
 | none=>exact h
 | some a=>cases a with
  | ret=>exact h
  | pan ch=>obtain ⟨c,h1,h2⟩:=h;exact ⟨c,h1,h2.mono λ_ _ k=>⟨k.1.mono u,k.2⟩⟩
theorem ROR.mono {X Y:Cx} (u:Up X Y) {a b:Option Nat} (h:ROR X a b):ROR Y a b:=by
 cases a with
 | none=>exact h
 | some l=>obtain ⟨p,m,h1,h2⟩:=h;exact ⟨p,m,u.pi _ _ h1,h2⟩
theorem FR.mono {X Y:Cx} (u:Up X Y) {fr:FrA} {fp:Pi.Fr} (h:FR X fr fp):FR Y fr fp :=
 ⟨h.t.mono u,h.nt,h.big,h.ds.mono λ_ _ k=>k.mono u,h.up.mono u,h.ro.mono u⟩
def Cx.low (X:Cx) (b:Nat):Cx:={ X with π:=λi=>if i<b then X.π i else none }
theorem Cx.low_eq {X:Cx} {b i:Nat} (h:i<b):(X.low b).π i=X.π i:=if_pos h
theorem Cx.low_ge {X:Cx} {b i:Nat} (h : ¬ i<b):(X.low b).π i=none:=if_neg h
theorem Up.low (X:Cx) (b:Nat):Up (X.low b) X:=by
 refine ⟨λi a h => ?_,λ_ _ _ _ h k=>⟨⟨_,k⟩,h⟩⟩;by_cases hb:i<b
 ·rw [Cx.low_eq hb] at h;exact h
 ·rw [Cx.low_ge hb] at h;cases h
theorem Up.toLow {X:Cx} {h:H} {n b:Nat} (r:RH X h n) (hb:n<=b):Up X (X.low b):=by
 refine ⟨λi a h => ?_,λ_ _ _ _ h k=>⟨⟨_,k⟩,h⟩⟩;rw [Cx.low_eq (Nat.lt_of_lt_of_le (r.dom _ _ h) hb)];exact h
theorem Up.lowLe {X:Cx} {b c:Nat} (hb:b<=c):Up (X.low b) (X.low c):=by
 refine ⟨λi a h => ?_,λ_ _ _ _ h k=>⟨⟨_,k⟩,h⟩⟩;by_cases hi:i<b
 ·rw [Cx.low_eq hi] at h;rw [Cx.low_eq (by omega)];exact h
 ·rw [Cx.low_ge hi] at h;cases h
structure Ext (b bP:Nat) (X:Cx) (h:H) (Y:Cx) (h':H):Prop where
 up:Up (X.low b) Y
 pin : ∀ j,j<b->X.π j=none->Y.π j=none
 hpn : ∀ q,q<bP->X.h.get q=none->Y.h.get q=none
 nx:X.h.nx<=Y.h.nx
 lk : ∀ j c,h.get j=some c->c.locked=true->h'.get j=some c
 lps : ∀ q st pe nt t ps asg body d,X.h.get q=some (.lp st pe nt t ps asg body d) -> ∃ st' pe',Y.h.get q=some (.lp st' pe' nt t ps asg body d)
theorem Ext.refl (b bP:Nat) (X:Cx) (h:H):Ext b bP X h X h:=⟨Up.low X b,λ_ _ h=>h,λ_ _ h=>h,Nat.le_refl _,λ_ _ h _=>h,λ_ st pe _ _ _ _ _ _ h=>⟨st,pe,h⟩⟩
theorem Ext.trans {b bP:Nat} {X Y Z:Cx} {h h' h'':H} (a:Ext b bP X h Y h') (c:Ext b bP Y h' Z h''):Ext b bP X h Z h'' where
 up:=by
  have u1:Up (X.low b) (Y.low b):=by
   refine ⟨λi x hi => ?_,a.up.rows⟩;by_cases hb:i<b
   ·rw [Cx.low_eq hb];exact a.up.pi _ _ hi
   ·rw [Cx.low_ge hb] at hi;cases hi
  exact u1.trans c.up
 pin:=λj hj k=>c.pin j hj (a.pin j hj k)
 hpn:=λq hq k=>c.hpn q hq (a.hpn q hq k)
 nx:=Nat.le_trans a.nx c.nx
 lk:=λj x k l=>c.lk j x (a.lk j x k l) l
 lps:=λq st pe nt t ps asg body d k=>by
  obtain ⟨st',pe',k'⟩:=a.lps _ _ _ _ _ _ _ _ _ k;exact c.lps _ _ _ _ _ _ _ _ _ k'
theorem Ext.le {b c bP cP:Nat} (hb:b<=c) (hp:bP<=cP) {X Y:Cx} {h h':H} (a:Ext c cP X h Y h'):Ext b bP X h Y h' :=
 ⟨(Up.lowLe hb).trans a.up,λj hj k=>a.pin j (by omega) k,λq hq k=>a.hpn q (by omega) k,a.nx,a.lk,a.lps⟩
theorem St.ext {b bP id idP:Nat} {X Y:Cx} {h h':H} (s:St X h id idP Y h') (hb:b<=id) (hp:bP<=idP):Ext b bP X h Y h' :=
 ⟨(Up.low X b).trans s.up,λj hj k=>s.pin j (by omega) k,λq hq k=>s.hpn q (by omega) k,Nat.le_of_eq s.nx.symm,s.lk,λq st pe nt t ps asg body d k=>⟨st,pe,s.lps _ _ _ _ _ _ _ _ _ k⟩⟩
theorem Ext.full {b bP n:Nat} {X Y:Cx} {h h':H} (a:Ext b bP X h Y h') (r:RH X h n) (hb:n<=b):Up X Y:=(Up.toLow r hb).trans a.up
def domX (hh:Hp) (Q Q':Nat->Prop):(l:List (Bool×Ty))->AG l->List PV->Prop
 | [],_,ps=>ps=[]
 | [p],x,ps => ∃ a,ps=[a]/\EP p.1 (DX hh Q Q' p.2) x a
 | p::q::r,x,ps => ∃ a t,ps=a::t/\EP p.1 (DX hh Q Q' p.2) x.1 a/\domX hh Q Q' (q::r) x.2 t
def H1:(l:List (Bool×Ty))->AG l->List PV->Prop
 | [],_,ps=>ps=[]
 | [p],x,ps => ∃ a,ps=[a]/\EP p.1 (DP p.2) x a
 | p::q::r,x,ps => ∃ a t,ps=a::t/\EP p.1 (DP p.2) x.1 a/\H1 (q::r) x.2 t
section
variable {X:Cx} {h:H} {n id idP:Nat} {β:Type} {x:β} {P:Program}
theorem Ed (r:RH X h n) {Q:Nat->Prop} (hQ : ∀ pid,X.Q pid->Q pid) : ∀ {l:List (Bool×Ty)} {vs:List V} {ps:List PV} {K:AG l->Option β},(∀ id pid m,id∈HH vs->X.π id=some (.blk pid m)->Q pid)->VRL X vs ps->Et h l vs K=some x -> ∃ y,K y=some x/\domX X.h Q X.Q l y ps
 | [],vs,ps,K,hq,hv,e=>by
  unfold Et at e;split at e
  ·exact ⟨(),e,hv.nil_inv⟩
  ·cases e
 | [p],vs,ps,K,hq,hv,e=>by
  unfold Et at e;split at e
  ·rename_i v;obtain ⟨a,qs,rfl,h1,h2⟩:=hv.cons_inv;obtain ⟨y,e1,k⟩:=Ni (Q:=Q) r (λid pid m hi hp=>hq id pid m (by simpa [HH] using hi) hp) hQ h1 e;exact ⟨y,e1,a,by rw [h2.nil_inv],k⟩
  ·cases e
 | p::q::rr,vs,ps,K,hq,hv,e=>by
  unfold Et at e;split at e
  ·rename_i v vs';obtain ⟨a,qs,rfl,h1,h2⟩:=hv.cons_inv;obtain ⟨y,e1,k⟩:=Ni (Q:=Q) r (λid pid m hi hp=>hq id pid m (by simp [HH,hi]) hp) hQ h1 e
   obtain ⟨z,e2,k2⟩:=Ed r hQ (l:=q::rr) (λid pid m hi hp=>hq id pid m (by
    simp only [HH,List.flatMap_cons,List.mem_append] at hi ⊢;exact .inr hi) hp) h2 e1
   exact ⟨(y,z),e2,a,qs,rfl,k,k2⟩
  ·cases e
theorem OK {p:Bool×Ty} {l:List (Bool×Ty)} (h:Gn (p::l)=true):p.2.depth<=4/\(p.1=true\/p.2.leaf=true)/\Gn l=true:=by
 simp only [Gn,List.all_cons,Bool.and_eq_true,Bool.or_eq_true] at h ⊢;exact ⟨Nat.le_of_ble_eq_true h.1.1,h.1.2,h.2⟩
theorem II {hh:Hp} {Q Q':Nat->Prop} (f : ∀ i,Q' i->Q i) : ∀ {l:List (Bool×Ty)} {y:AG l} {ps:List PV},Gn l=true->domX hh Q Q' l y ps -> ∃ as lP,By hh ps=some (as,lP)/\H1 l y as/\Met hh Q lP
 | [],y,ps,hd,h=>by rw [show ps=[] from h];exact ⟨[],[],rfl,rfl,.nil⟩
 | [p],y,ps,hd,⟨a,h1,h2⟩=>by
  subst h1;have hd':=(OK hd).1;obtain ⟨q,ids,k1,k2,k3⟩:=Y6 (d:=Pi.BI) f h2 (by show _<=12;omega);exact ⟨[q],ids++[],by simp only [By,k1],⟨q,rfl,k2⟩,k3.append .nil⟩
 | p::q::r,y,ps,hd,⟨a,t,h1,h2,h3⟩=>by
  subst h1;have hd':=OK hd;obtain ⟨b,ids,k1,k2,k3⟩:=Y6 (d:=Pi.BI) f h2 (by show _<=12;omega);obtain ⟨bs,ids',m1,m2,m3⟩:=II f (l:=q::r) hd'.2.2 h3;exact ⟨b::bs,ids++ids',by rw [By,k1,m1],⟨b,bs,rfl,k2,m2⟩,k3.append m3⟩
def PK (hh:Hp):(l:List (Bool×Ty))->AG l->PV->Prop
 | [p],y,r=>EP p.1 (DX hh (λ_=>True) (λ_=>True) p.2) y r
 | l,y,r => ∃ rs,r = .tup rs/\domX hh (λ_=>True) (λ_=>True) l y rs
def fU:(l:List (Bool×Ty))->AG l->PV->Prop
 | [p],y,r=>EP p.1 (DP p.2) y r
 | l,y,r => ∃ rs,r = .tup rs/\H1 l y rs
theorem DP.flat : ∀ {c:Ty} {y:c.den} {ps:List PV},c.hasSl=false->DP c y ps->Pi.DI ps=true
 | .int _,_,_,_,e=>by subst e;rfl
 | .bool,_,_,_,e=>by subst e;rfl
 | .str,_,_,_,e=>by subst e;rfl
 | .unit,_,_,_,e=>by subst e;rfl
 | .pair a b,_,_,hs,⟨p,q,e,h1,h2⟩=>by
  subst e;simp only [Ty.hasSl,Bool.or_eq_false_iff] at hs;have f1:=DP.flat hs.1 h1;have f2:=DP.flat hs.2 h2;clear h1 h2
  induction p with
  | nil=>exact f2
  | cons a p ih =>
   simp only [Pi.DI,Bool.and_eq_true] at f1;simp only [List.cons_append,Pi.DI,f1.1,Bool.true_and];exact ih f1.2
 | .sl _ _,_,_,hs,_=>by cases hs
theorem EP.flat {g:Bool} {c:Ty} {y:c.den} {e:PV} (hs:c.hasSl=false) (h:EP g (DP c) y e):Pi.flat e=true:=by
 cases g with
 | true=>obtain ⟨cs,rfl,h⟩:=h;exact DP.flat hs h
 | false =>
  have:=DP.flat hs (show DP c y [e] from h);simpa [Pi.DI] using this
theorem Md : ∀ {l:List (Bool×Ty)} {y:AG l} {ps:List PV},E6 l=false->H1 l y ps->Pi.DI ps=true
 | [],_,_,_,h=>by rw [show _=[] from h];rfl
 | [p],_,_,hs,⟨a,h1,h2⟩=>by
  subst h1;have:p.2.hasSl=false:=by simpa [E6] using hs
  simp [Pi.DI,EP.flat this h2]
 | p::q::r,_,_,hs,⟨a,t,h1,h2,h3⟩=>by
  subst h1;have h4:p.2.hasSl=false/\E6 (q::r)=false:=by simpa [E6] using hs
  simp only [Pi.DI,EP.flat h4.1 h2,Bool.true_and];exact Md h4.2 h3
theorem Pv {l:List (Bool×Ty)} {y:AG l} {r:PV} (hs:E6 l=false) (h:fU l y r):Pi.flat r=true:=by
 match l,y,h with
 | [],y,⟨rs,h1,h2⟩=>subst h1;exact Md hs h2
 | [p],y,h=>exact EP.flat (by simpa [E6] using hs) h
 | p::q::rr,y,⟨rs,h1,h2⟩=>subst h1;exact Md hs h2
theorem KE : ∀ {l:List (Bool×Ty)} {y:AG l} {ps:List PV},H1 l y ps->VRL X (JS l y) ps
 | [],_,_,h=>by rw [show _=[] from h];exact .nil
 | [p],_,_,⟨a,h1,h2⟩=>by subst h1;exact .cons (HM h2) .nil
 | p::q::r,_,_,⟨a,t,h1,h2,h3⟩=>by subst h1;exact .cons (HM h2) (KE h3)
theorem Lv {l:List (Bool×Ty)} {y:AG l} {r:PV} (h:fU l y r):VR X (Yr l y) r:=by
 match l,y,h with
 | [],y,⟨rs,h1,h2⟩ =>
  subst h1;show VR X (.tup []) (.tup rs);have h2':rs=[]:=h2;subst h2';simp only [VR];exact ⟨[],rfl,.nil⟩
 | [(true,c)],y,h=>exact HM (g:=true) h
 | [(false,.int k)],y,h=>exact HM (g:=false) (c:=.int k) h
 | [(false,.bool)],y,h=>exact HM (g:=false) (c:=.bool) h
 | [(false,.str)],y,h=>exact HM (g:=false) (c:=.str) h
 | [(false,.unit)],y,h=>exact HM (g:=false) (c:=.unit) h
 | [(false,.pair a b)],y,h=>exact HM (g:=false) (c:=.pair a b) h
 | [(false,.sl g c)],y,h =>
  show VR X (.lf false g c y) r;obtain ⟨p,hp,h1⟩:=(show DP (.sl g c) y [r] from h);have:r=p:=by simpa using hp
  subst this;simp only [VR];rcases h1 with h1 | ⟨f,es,h1,h2⟩
  ·exact .inl h1
  ·exact .inr (.inl ⟨f,es,h1,(λh=>by cases h),h2⟩)
 | p::q::rr,y,⟨rs,h1,h2⟩ =>
  subst h1
  have hv:Yr (p::q::rr) y = .tup (JS (p::q::rr) y):=by
   obtain ⟨gg,c⟩:=p;cases gg<;>cases c<;>rfl
  rw [hv];simp only [VR];exact ⟨rs,rfl,KE h2⟩
theorem OL : ∀ {f:PV->Option (PV×List Nat)} {ps:List PV} {k:Nat} {qs:List PV} {l:List Nat},AM f ps=some (qs,l) -> ∃ l',AM f (ps.take k)=some (qs.take k,l')
 | f,[],k,qs,l,e=>by cases e;exact ⟨[],by simp [AM]⟩
 | f,p::ps,0,qs,l,e=>⟨[],by simp [AM]⟩
 | f,p::ps,k+1,qs,l,e=>by
  simp only [AM] at e;split at e
  ·rename_i q a qs' b e1 e2;cases e;obtain ⟨l',k1⟩:=OL (k:=k) e2;exact ⟨a++l',by simp [AM,e1,k1]⟩
  ·cases e
theorem Lw {hh:Hp} : ∀ {ps:List PV},By hh ps=AM (BO hh Pi.BI) ps
 | []=>rfl
 | p::ps=>by
  rw [By,AM,Lw]
theorem RH.flag (r:RH X h n) (hn:n<=1048575) {ids:List Nat} {h':H} (hk:Kn X ids) (e:FS h ids=some h') : ∃ Y:Cx,Y.π=X.π/\Y.O=X.O/\Y.h=X.h/\RH Y h' n /\ ∀ id idP,St X h id idP Y h':=by
 obtain ⟨Y,y1,y2,y3,y4,_⟩:=r.frozen (lP:=[]) hn hk e rfl (λq=>by simp) (λq hq=>by cases hq) 0 0
 have:Y=X:=by
  cases Y;cases X;simp only at y1 y2 y3;subst y1;subst y2;subst y3;rfl
 subst this;refine ⟨Y,rfl,rfl,rfl,y4,λid idP => ?_⟩;obtain ⟨Y2,z1,z2,z3,z4,z5⟩:=r.frozen (lP:=[]) hn hk e rfl (λq=>by simp) (λq hq=>by cases hq) id idP
 have:Y2=Y:=by
  cases Y2;cases Y;simp only at z1 z2 z3;subst z1;subst z2;subst z3;rfl
 subst this;exact z5
theorem RH.borrow (r:RH X h n) {bP:Blk} {hP:Hp} (hlt:idP<X.h.nx) (e:X.h.new idP bP=some hP) (hnl : ∀ st pe nt t ps asg body d,bP ≠ .lp st pe nt t ps asg body d) : ∃ Y:Cx,Y.π=X.π/\Y.O=X.O/\Y.h=hP/\RH Y h n /\ ∀ id,St X h id idP Y h:=by
 obtain ⟨g0,g1,g2⟩:=Hp.get_new e
 let Y:Cx:={ π:=X.π,h:=hP,O:=X.O }
 have hO : ∀ q,X.O q->q≠idP:=λq hq hh=>by subst hh;exact r.ob _ hq g0
 have u:Up X Y:=⟨λ_ _ h=>h,λq es ex fz hq hg=>⟨⟨fz,by
  show hP.get q=_
  rw [g1,if_neg (by intro hh;subst hh;rw [g0] at hg;cases hg),hg]⟩,hq⟩⟩
 refine ⟨Y,rfl,rfl,rfl,⟨λi b hi=>(r.blk _ _ hi).keep u λq m hq hO'=>⟨?_,hO'⟩,r.inj,r.dom,λq hq => ?_,λq hq => ?_⟩,λid=>⟨u,g2,λ_ _ h=>h,λq hq hn => ?_,λ_ _ h _=>h,λq st pe nt t ps asg body d hq => ?_⟩⟩
 ·show hP.get q=_;rw [g1,if_neg (hO _ hO')]
 ·show hP.get q=none;have hq':X.h.nx<=q:=by rw [<- g2];exact hq
  rw [g1,if_neg (by omega)];exact r.fresh _ hq'
 ·show hP.get q≠none;rw [g1,if_neg (hO _ hq)];exact r.ob _ hq
 ·show hP.get q=none;rw [g1,if_neg hq];exact hn
 ·show hP.get q=_;rw [g1,if_neg (by intro hh;subst hh;rw [g0] at hq;cases hq)];exact hq
theorem Vv {hR:Hp} {l:List (Bool×Ty)} {y:AG l} {rP:PV} (hd:Gn l=true) (hr:PK hR l y rP) : ∃ q ids,BO hR Pi.BI rP=some (q,ids)/\fU l y q:=by
 have tup : ∀ {rs:List PV},domX hR (λ_=>True) (λ_=>True) l y rs -> ∃ qs ids,BO hR Pi.BI (.tup rs)=some (.tup qs,ids)/\H1 l y qs:=by
  intro rs hx
  have : ∀ {l:List (Bool×Ty)} {y:AG l} {rs:List PV},Gn l=true->domX hR (λ_=>True) (λ_=>True) l y rs -> ∃ qs ids,AM (BO hR 11) rs=some (qs,ids)/\H1 l y qs:=by
   intro l
   induction l with
   | nil=>intro y rs _ h;rw [show rs=[] from h];exact ⟨[],[],rfl,rfl⟩
   | cons p l ih =>
    intro y rs hd h;cases l with
    | nil =>
     obtain ⟨a,rfl,h2⟩:=h
     have hd':p.2.depth<=4:=by
      have:Nat.ble p.2.depth 4=true:=by simp only [Gn,List.all_cons,List.all_nil,Bool.and_true,Bool.and_eq_true] at hd;exact hd.1
      exact Nat.le_of_ble_eq_true this
     obtain ⟨q,ids,k1,k2,k3⟩:=Y6 (d:=11) (λ_ h=>h) h2 (by omega);exact ⟨[q],ids++[],by simp only [AM,k1],q,rfl,k2⟩
    | cons q r =>
     obtain ⟨a,t,rfl,h2,h3⟩:=h
     have hd':p.2.depth<=4/\Gn (q::r)=true:=by
      simp only [Gn,List.all_cons,Bool.and_eq_true] at hd ⊢;exact ⟨Nat.le_of_ble_eq_true hd.1.1,hd.2⟩
     obtain ⟨b,ids,k1,k2,k3⟩:=Y6 (d:=11) (λ_ h=>h) h2 (by omega);obtain ⟨qs,ids',m1,m2⟩:=ih hd'.2 h3;exact ⟨b::qs,ids++ids',by rw [AM,k1,m1],b,qs,rfl,k2,m2⟩
  obtain ⟨qs,ids,k1,k2⟩:=this hd hx;exact ⟨qs,ids,by rw [show Pi.BI=11+1 from rfl,Q6,k1];rfl,k2⟩
 match l,y,hr with
 | [],y,⟨rs,h1,h2⟩=>subst h1;obtain ⟨qs,ids,k1,k2⟩:=tup h2;exact ⟨_,ids,k1,qs,rfl,k2⟩
 | [p],y,h =>
  have hd':p.2.depth<=4:=by
   have:Nat.ble p.2.depth 4=true:=by simp only [Gn,List.all_cons,List.all_nil,Bool.and_true,Bool.and_eq_true] at hd;exact hd.1
   exact Nat.le_of_ble_eq_true this
  obtain ⟨q,ids,k1,k2,k3⟩:=Y6 (d:=Pi.BI) (λ_ h=>h) h (by show _<=12;omega);exact ⟨q,ids,k1,k2⟩
 | p::q::rr,y,⟨rs,h1,h2⟩=>subst h1;obtain ⟨qs,ids,k1,k2⟩:=tup h2;exact ⟨_,ids,k1,qs,rfl,k2⟩
theorem Ik {f:PV->Option (PV×List Nat)} : ∀ {a:List PV} {b:List PV} {l:List Nat},AM f a=some (b,l)->b.length=a.length
 | [],b,l,h=>by cases h;rfl
 | p::a,b,l,h=>by
  simp only [AM] at h;split at h
  ·rename_i e2;cases h;simp [Ik e2]
  ·cases h
theorem Fa {hh:Hp} : ∀ {d:Nat} {v q:PV} {l:List Nat},BO hh d v=some (q,l)->q.cells.length=v.cells.length
 | 0,v,q,l,e=>by cases e
 | d+1,v,q,l,e=>by
  cases v with
  | agg cs =>
   rw [Ii] at e;obtain ⟨⟨x,m⟩,h1,h2⟩:=Pi.AL e;cases h2;exact Ik h1
  | tup cs =>
   rw [Q6] at e;obtain ⟨⟨x,m⟩,h1,h2⟩:=Pi.AL e;cases h2;rfl
  | ifc t v =>
   rw [Q7] at e;obtain ⟨⟨x,m⟩,h1,h2⟩:=Pi.AL e;cases h2;rfl
  | fn f a b =>
   rw [UB] at e;split at e
   ·cases e;rfl
   ·cases e
  | own id off len =>
   simp only [BO] at e;split at e
   ·replace e:=A3 e;obtain ⟨_,e⟩:=e;obtain ⟨⟨x,m⟩,h1,h2⟩:=Pi.AL e;cases h2;rfl
   ·cases e
  | ptr id off =>
   simp only [BO] at e;split at e
   ·replace e:=A3 e;obtain ⟨_,e⟩:=e;obtain ⟨⟨x,m⟩,h1,h2⟩:=Pi.AL e;cases h2;rfl
   ·cases e
  | ept id i off =>
   simp only [BO] at e;split at e
   ·split at e
    ·replace e:=A3 e;obtain ⟨_,e⟩:=e;obtain ⟨⟨x,m⟩,h1,h2⟩:=Pi.AL e;cases h2;rfl
    ·cases e
   ·cases e
  | yl | mp=>cases e
  | _=>cases e;rfl
theorem He (r:RH X h n) (hn:n<=1048575) (hp:X.h.get idP=none) (hlt:idP<X.h.nx) {l:List (Bool×Ty)} {y:AG l} {hR:Hp} {rP:PV} {ids lP:List Nat} {h':H} (hd:Gn l=true) (hr:PK hR l y rP)
  (hm:MetA X ids lP) (hk:Kn X ids) (hf:(bif E6 l then FS h ids else some h)=some h') (id:Nat) :
  ∃ q hP' Y,Pi.B8 idP lP X.h hR rP=some (q,hP')/\K5 X h n id idP h' hP' Y/\VR Y (Yr l y) q/\((SH l=false \/ ∀ j o len,rP ≠ .own j o len)->hP'.get idP=none):=by
 have same : ∃ Y,K5 X h n id idP h' X.h Y:=by
  cases hc:E6 l with
  | true =>
   rw [hc] at hf;obtain ⟨Y,y1,y2,y3,y4,y5⟩:=r.flag hn hk hf;exact ⟨Y,y3,y4,y5 _ _⟩
  | false =>
   rw [hc] at hf;cases hf;exact ⟨X,rfl,r,St.refl _ _ _ _⟩
 have marked:E6 l=true -> ∃ hP' Y,Pi.freeze X.h lP=some hP'/\K5 X h n id idP h' hP' Y:=λhc=>by
  rw [hc] at hf;obtain ⟨hP',Y,f1,y1,y2,y3⟩:=r.mark hn hm hk hf id idP;exact ⟨hP',Y,f1,y3⟩
 obtain ⟨q,pids,hpur,hres⟩:=Vv hd hr;unfold Pi.B8;split
 ·rename_i len qs ex hS;split at hS
  ·rename_i j len';split at hS
   ·rename_i es ex' hj;split at hS
    ·rename_i qs' l2 hq;replace hS:=C4 hS;obtain ⟨_,hS⟩:=hS;cases hS
     have code : ∃ g c,l=[(false,.sl g c)]:=by
      match l,y,hr with
      | [],y,⟨rs,h1,h2⟩=>cases h1
      | p::q::rr,y,⟨rs,h1,h2⟩=>cases h1
      | [(true,c)],y,⟨cs,h1,h2⟩=>cases h1
      | [(false,.sl g c)],y,_=>exact ⟨g,c,rfl⟩
      | [(false,.int _)],y,h=>cases (show [PV.own j 0 len]=_ from h)
      | [(false,.bool)],y,h=>cases (show [PV.own j 0 len]=_ from h)
      | [(false,.str)],y,h=>cases (show [PV.own j 0 len]=_ from h)
      | [(false,.unit)],y,h=>cases (show [PV.own j 0 len]=_ from h)
      | [(false,.pair a b)],y,h=>simp [Gn,Ty.leaf] at hd
     obtain ⟨g,c,rfl⟩:=code;have hc:E6 [(false,Ty.sl g c)]=true:=rfl;have hr':DX hR (λ_=>True) (λ_=>True) (.sl g c) y [.own j 0 len]:=hr;obtain ⟨p0,Hk,hrr⟩:=hr';have hp0':PV.own j 0 len=p0:=by simpa using Hk
     subst hp0';rcases hrr with ⟨h1,_⟩ | ⟨_,_,h1,_⟩ | ⟨pid,off,len2,es2,ex2,fz2,h1,_,h3,h4,h8,h5⟩
     ·cases h1
     ·cases h1
     ·cases h1;rw [hj] at h3;cases h3
      have hd':c.depth+1<=4:=by
       have:Nat.ble (Ty.sl g c).depth 4=true:=by simp only [Gn,List.all_cons,List.all_nil,Bool.and_true,Bool.and_eq_true] at hd;exact hd.1
       exact Nat.le_of_ble_eq_true this
      obtain ⟨qs2,ids2,k1,k2,k3⟩:=Ps (λy e hE=>SR (d:=Pi.BI) (λhh' d' hd'=>JX hh' d' hd') (by show _<=12;omega) hE) h5;rw [Lw] at hq;obtain ⟨l',k4⟩:=OL (k:=len) hq;rw [List.drop_zero] at k1;rw [k1] at k4;cases k4;have hlen:qs.length=es.length:=Ik hq
      have hok:Pi.GJ c.wd qs=true:=by
       cases es with
       | nil=>cases qs with
        | nil=>rfl
        | cons=>simp at hlen
       | cons e0 t =>
        simp only [AM] at hq;split at hq
        ·rename_i q0 a0 qs0 b0 f1 f2;cases hq;simp only [Pi.GJ] at h8 ⊢;rw [Fa f1];exact h8
        ·cases hq
      have fin : ∀ {hP2:Hp} {Y:Cx},K5 X h n id idP h' hP2 Y->(hP2.get idP=none) -> ∃ q hP' Y,((hP2.new idP (.row qs ex false)).map λh=>(PV.own idP 0 len,h))=some (q,hP')/\K5 X h n id idP h' hP' Y/\VR Y (Yr [(false,.sl g c)] y) q/\((SH [(false,.sl g c)]=false \/ ∀ j' o len',PV.own j 0 len ≠ .own j' o len')->hP'.get idP=none):=by
       intro hP2 Y ⟨y1,y2,y3⟩ hnone;obtain ⟨hP',e1⟩:=K4 hP2 idP (.row qs ex false) hnone;subst y1;obtain ⟨Z,z1,z2,z3,z4,z5⟩:=y2.borrow (by rw [y3.nx];exact hlt) e1 (by intros;simp)
       refine ⟨_,hP',Z,by rw [e1];rfl,⟨z3,z4,y3.trans (z5 id)⟩,?_,λhh=>by
        rcases hh with hh | hh
        ·cases hh
        ·exact absurd rfl (hh _ _ _)⟩
       show VR Z (.lf false g c y) (.own idP 0 len);simp only [VR];refine .inr (.inr ⟨idP,0,len,qs,ex,false,rfl,by simp,λhO => ?_,by rw [z3,(Hp.get_new e1).2.1,if_pos rfl],by rw [hlen];exact h4,hok,by rw [List.drop_zero];exact EPL.up k2⟩);rw [z2] at hO;exact y2.ob _ hO hnone
      cases hfl:Pi.DI qs with
      | true =>
       obtain ⟨Y,hY⟩:=same;simp only [cond_true];exact fin hY hp
      | false =>
       obtain ⟨hP2,Y,f1,hY⟩:=marked hc;simp only [cond_false,f1];refine fin hY ?_;rw [<- hY.1];obtain ⟨hP3,f2,f3,f4⟩:=EF (Q:=λi=>X.Q i \/ ∃ id∈ids,∃ m,X.π id=some (.blk i m)) hm;rw [f1] at f2;cases f2;rw [hY.1,f4,hp];split<;>rfl
    ·cases hS
   ·cases hS
  ·cases hS
 ·
  simp only [hpur];cases hfl:Pi.flat q with
  | true =>
   obtain ⟨Y,hY⟩:=same;exact ⟨q,X.h,Y,rfl,hY,Lv hres,λ_=>hp⟩
  | false =>
   have hc:E6 l=true:=by
    cases hc:E6 l with
    | true=>rfl
    | false=>rw [Pv hc hres] at hfl;cases hfl
   obtain ⟨hP2,Y,f1,hY⟩:=marked hc;refine ⟨q,hP2,Y,by simp [f1],hY,Lv hres,λ_ => ?_⟩;obtain ⟨hP3,f2,f3,f4⟩:=EF (Q:=λi=>X.Q i \/ ∃ id∈ids,∃ m,X.π id=some (.blk i m)) hm;rw [f1] at f2;cases f2;rw [f4,hp];split<;>rfl
def Y9 (hR:Hp) (g:Bool) (c:Ty) (y:List c.den) (r:PV):Prop :=
 (y=[]/\(r = .nils\/r = .lst true [])) \/ ∃ j es,r = .own j 0 es.length/\hR.get j=some (.row es false false)/\0<es.length/\L2 (EP g (DR hR (λq=>q≠j) c)) y es
theorem St.nw {X Y:Cx} {h h':H} {n id idP:Nat} (s:St X h id (idP+1) Y h') (w:Nw X n id idP) (hp:Y.π id=none) (hq:Y.h.get idP=none):Nw Y n id idP:=⟨hp,w.lt,w.big,hq,by rw [s.nx];exact w.hlt⟩
theorem RB (r:RH X h n) (w:Nw X n id idP) {g:Bool} {c:Ty} {y:List c.den} {hR:Hp} {rP:PV} {ids lP:List Nat} {h':H} (hd:c.depth<=3) (hr:Y9 hR g c y rP)
  (hm:MetA X ids lP) (hk:Kn X ids) (hf:(bif c.hasSl then FS h ids else some h)=some h') :
  ∃ q hP' Y,Pi.B8 idP lP X.h hR rP=some (q,hP')/\K5 X h n id idP (Ad h' id (.row g c y false false false)) hP' Y/\VR Y (.ow id) q/\(hP'.get idP=none\/Pi.AW q=[idP]):=by
 have same : ∃ Y,K5 X h n id idP h' X.h Y/\Y.π=X.π:=by
  cases hc:c.hasSl with
  | true =>
   rw [hc] at hf;obtain ⟨Y,y1,y2,y3,y4,y5⟩:=r.flag w.big hk hf;exact ⟨Y,⟨y3,y4,y5 _ _⟩,y1⟩
  | false =>
   rw [hc] at hf;cases hf;exact ⟨X,⟨rfl,r,St.refl _ _ _ _⟩,rfl⟩
 rcases hr with ⟨rfl,hr⟩ | ⟨j,es,rfl,hj,hpos,hl⟩
 ·obtain ⟨Y,⟨y1,y2,y3⟩,ypi⟩:=same;have w2:Nw Y n id idP:=⟨by rw [ypi];exact w.pi,w.lt,w.big,by rw [y1];exact w.hp,by rw [y1];exact w.hlt⟩;rcases hr with rfl | rfl
  ·obtain ⟨Z,⟨z1,z2,z3⟩,z4⟩:=Q3 y2 w2 (g:=g) (c:=c) (fz:=false);exact ⟨.nils,X.h,Z,rfl,⟨by rw [z1,y1],z2,y3.trans z3⟩,z4,.inl w.hp⟩
  ·obtain ⟨Z,⟨z1,z2,z3⟩,z4⟩:=Q4 y2 w2 (g:=g) (c:=c) (fz:=false);exact ⟨.lst true [],X.h,Z,rfl,⟨by rw [z1,y1],z2,y3.trans z3⟩,z4,.inl w.hp⟩
 ·obtain ⟨qs,ids2,k1,k2,k3⟩:=Ps (λy e hE=>SR (d:=Pi.BI) (λhh' d' hd'=>JX hh' d' hd') (by show _<=12;omega) hE) hl
  have hany:ids2.any (Nat.beq j)=false:=by
   rw [List.any_eq_false];intro i hi hb;have:=Nat.eq_of_beq_eq_true hb;subst this;exact (k3 _ hi).1 rfl
  have hlen:qs.length=es.length:=Ik k1
  have hflat:c.hasSl=false->Pi.DI qs=true:=λhc=>by
   clear hlen k1 k3 hany hl
   induction k2 with
   | nil=>rfl
   | cons a _ ih=>simp only [Pi.DI,EP.flat hc a,Bool.true_and];exact ih
  have hb:Pi.B8 idP lP X.h hR (.own j 0 es.length)=(match (bif Pi.DI qs then some X.h else Pi.freeze X.h lP) with
   | some h=>(h.new idP (.row qs false false)).map λh=>(.own idP 0 es.length,h)
   | none=>none):=by
   unfold Pi.B8;simp only [hj,Lw,k1,hany,cond_false];rfl
  have fin : ∀ {hP2:Hp} {Y:Cx},K5 X h n id idP h' hP2 Y->Y.π id=none->hP2.get idP=none -> ∃ q hP' Y,((hP2.new idP (.row qs false false)).map λh=>(PV.own idP 0 es.length,h))=some (q,hP')/\K5 X h n id idP (Ad h' id (.row g c y false false false)) hP' Y/\VR Y (.ow id) q/\(hP'.get idP=none\/Pi.AW q=[idP]):=by
   intro hP2 Y ⟨y1,y2,y3⟩ hpi hnone;have w2:Nw Y n id idP:=⟨hpi,w.lt,w.big,by rw [y1];exact hnone,by rw [y3.nx];exact w.hlt⟩;obtain ⟨hP',Z,e1,⟨z1,z2,z3⟩,z4,_⟩:=Dy y2 w2 (g:=g) (c:=c) (l:=y) (es:=qs) (ex:=false) (EPL.up k2) (λ_=>by omega);rw [y1] at e1;rw [hlen] at z4;exact ⟨_,hP',Z,by rw [e1];rfl,⟨z1,z2,y3.trans z3⟩,z4,.inr rfl⟩
  rw [hb];cases hfl:Pi.DI qs with
  | true =>
   obtain ⟨Y,hY,ypi⟩:=same;simp only [cond_true];exact fin hY (by rw [ypi];exact w.pi) w.hp
  | false =>
   have hc:c.hasSl=true:=by
    cases hc:c.hasSl with
    | true=>rfl
    | false=>rw [hflat hc] at hfl;cases hfl
   rw [hc] at hf;obtain ⟨hP2,Y,f1,y1,y2,y3⟩:=r.mark w.big hm hk hf id idP
   have hz:hP2.get idP=none:=by
    obtain ⟨hP3,f2,f3,f4⟩:=EF (Q:=λi=>X.Q i \/ ∃ id∈ids,∃ m,X.π id=some (.blk i m)) hm;rw [f1] at f2;cases f2;rw [f4,w.hp];split<;>rfl
   simp only [cond_false,f1];refine fin y3 ?_ hz;rw [y1];exact w.pi
end
end Go.Proofs.YthpkjfabdccpdaaGreat.Sv
namespace Go.Proofs.YthpkjfabdccpdaaGreat.Sv
open Go.Proofs.YthpkjfabdccpdaaGreat.Pi (PV T Hp Blk DF UM PE Au A8 AM BO By)
def Bc (tab:Ie) (f:FuncId):Bool:=(tab f).isNone
def PD (P:Program) (tab:Ie) (tg:Pi.Tg) (up:Option UM) (args:List PV) (h:Hp) (r:Pi.Out×Option UM×Hp):Prop :=
 ∃ N,∀ F n,N<=F->N<=n->Pi.EQ P (Bc tab) F n tg up args h=some r
def FnOK (P:Program) (tab:Ie) (f:FuncId) (sg:Sg):Prop := ∀ x y,sg.fn x=some y -> ∀ as,H1 sg.dom x as -> ∃ r up hR,PD P tab (.fn f) none as Hk (.ret r,up,hR)/\PK hR sg.cod y r
def RowOK (P:Program) (tab:Ie) (f:FuncId) (dom:List (Bool×Ty)) (g:Bool) (c:Ty) (fn:AG dom->Option (List c.den)):Prop := ∀ x y,fn x=some y -> ∀ as,H1 dom x as -> ∃ r up hR,PD P tab (.fn f) none as Hk (.ret r,up,hR)/\Y9 hR g c y r
def UF:PV->PV
 | .agg cs => .view cs
 | v=>v
def Lx:List (Bool×Ty)->List PV->List PV
 | p::l,v::vs=>(bif jJ p then UF v else v)::Lx l vs
 | _,vs=>vs
def FnP (P:Program) (tab:Ie) (f:FuncId) (sg:Sg):Prop := ∀ x y,sg.fn x=some y -> ∀ as,H1 sg.dom x as -> ∃ r up hR,PD P tab (.fn f) none (Lx sg.dom as) Hk (.ret r,up,hR)/\PK hR sg.cod y r
def FnL (P:Program) (tab:Ie) (f:FuncId) (sg:Sg):Prop := ∀ x y,sg.fn x=some y -> ∀ as,H1 sg.dom x as -> ∃ r up hR,PD P tab (.fn f) none as Hk (.ret r,up,hR)/\PK hR sg.cod y r /\ ∀ j o len,r ≠ .own j o len
structure TabOK (P:Program) (tab:Ie):Prop where
 std : ∀ f sg,Nat.blt f G2=true->tab f=some (some sg)->FnOK P tab (gh f) sg
 row : ∀ f dom g c fn,Nat.blt f HI=true->tab (f+G2)=some (some ⟨dom,[(false,.sl g c)],fn⟩)->RowOK P tab f dom g c fn
 ptr : ∀ f sg,Nat.blt f HI=true->tab (f+Qv)=some (some sg)->FnP P tab f sg
 dat : ∀ f sg,Nat.blt f HI=true->tab (f+fF)=some (some sg)->FnL P tab f sg
theorem H2 {a b:Nat} (h:Nat.blt a b=true):a<b:=Nat.le_of_ble_eq_true h
theorem ZA {a b:Nat} (h:a<b):Nat.blt a b=true:=Nat.ble_eq_true_of_le h
theorem iT {a b:Nat} (h:b<=a):Nat.blt a b=false:=by
 cases hb:Nat.blt a b with
 | false=>rfl
 | true=>exact absurd (H2 hb) (Nat.not_lt.2 h)
theorem Vw:G2=HI+HI:=rfl
theorem iU {f:Nat} (h:Nat.blt f HI=true):gh f=f:=by unfold gh;rw [h];rfl
theorem fV (o f:Nat):(bif Nat.blt (f+o) o then f+o else f+o-o)=f:=by
 rw [iT (Nat.le_add_left _ _)];exact Nat.add_sub_cancel f o
theorem iV (f:Nat):gh (f+HI)=f:=fV HI f
theorem TabOK.get {P:Program} {tab:Ie} (T:TabOK P tab) {f:FuncId} {sg:Sg} (hl:Nat.blt f HI=true) (h:tab f=some (some sg)):FnOK P tab f sg:=by
 have:=T.std f sg (ZA (Nat.lt_of_lt_of_le (H2 hl) (by rw [Vw];exact Nat.le_add_left _ _))) h
 rwa [iU hl] at this
theorem TabOK.getD {P:Program} {tab:Ie} (T:TabOK P tab) {f:FuncId} {sg:Sg} (h:getD tab f=some sg):FnOK P tab f sg:=by
 unfold Sv.getD at h;replace h:=A3 h;obtain ⟨hl,h⟩:=h;split at h
 ·rename_i r hr;subst h;exact T.get hl hr
 ·split at h
  ·rename_i r hr;subst h;have:=T.std _ sg (ZA (by rw [Vw];exact Nat.add_lt_add_right (H2 hl) _)) hr
   rwa [iV] at this
  ·cases h
theorem TabOK.getR {P:Program} {tab:Ie} (T:TabOK P tab) {f:FuncId} {dom:List (Bool×Ty)} {g:Bool} {c:Ty} {fn:AG dom->Option (List c.den)} (h:getR tab f=some ⟨dom,[(false,.sl g c)],fn⟩):RowOK P tab f dom g c fn:=by
 unfold Sv.getR at h;replace h:=A3 h;obtain ⟨hl,h⟩:=h;split at h
 ·rename_i r hr;subst h;exact T.row _ _ _ _ _ hl hr
 ·cases h
theorem TabOK.getL {P:Program} {tab:Ie} (T:TabOK P tab) {f:FuncId} {sg:Sg} (h:getL tab f=some sg):FnL P tab f sg:=by
 unfold Sv.getL at h;replace h:=A3 h;obtain ⟨hl,h⟩:=h;split at h
 ·rename_i r hr;subst h;exact T.dat _ _ hl hr
 ·cases h
theorem TabOK.getP {P:Program} {tab:Ie} (T:TabOK P tab) {f:FuncId} {sg:Sg} (h:getP tab f=some sg):FnP P tab f sg:=by
 unfold Sv.getP at h;replace h:=A3 h;obtain ⟨hl,h⟩:=h;split at h
 ·rename_i r hr;subst h;exact T.ptr _ _ hl hr
 ·cases h
structure A7 (b bP:Nat) (X:Cx) (h:H) (nx:Nat) (Y:Cx) (h':H) (nx':Nat) (hP':Hp):Prop where
 hp:Y.h=hP'
 rh:RH Y h' nx'
 big:nx'<=1048575
 le:nx<=nx'
 ext:Ext b bP X h Y h'
structure RecAOK (P:Program) (tab:Ie) (rec:OD):Prop where
 fn : ∀ {β:Type} {x:β} {f up args h nx K},rec β (.fn f) up args h nx K=some x -> ∀ {X upP ps},RH X h nx->nx<=1048575->VRL X args ps->UMR X up upP ->
  ∃ o up' h' nx' Y oP upP' hP',K o up' h' nx'=some x/\PD P tab (.fn f) upP ps X.h (oP,upP',hP')/\A7 nx X.h.nx X h nx Y h' nx' hP'/\UE Y o oP/\UMR Y up' upP'
 yl : ∀ {β:Type} {x:β} {l args h nx K},rec β (.yl l) none args h nx K=some x -> ∀ {X lP m ps},RH X h nx->nx<=1048575->X.π l=some (.blk lP m)->VRL X args ps ->
  ∃ o up' h' nx' Y oP upP' hP',K o up' h' nx'=some x/\PD P tab (.yl lP) none ps X.h (oP,upP',hP')/\A7 nx X.h.nx X h nx Y h' nx' hP'/\UE Y o oP/\UMR Y up' upP'
section
variable {P:Program} {tab:Ie} {rec:OD} {β:Type} {x:β}
theorem OM {X:Cx} {args:List V} {ps:List PV} (ha:VRL X args ps):Kn X (HH args):=by
 intro i hi
 have : ∀ {vs:List V} {ps:List PV},VRL X vs ps -> ∀ i∈KP vs,∃ a,X.π i=some a:=by
  intro vs
  induction vs with
  | nil=>intro ps _ i hi;cases hi
  | cons v vs ih =>
   intro ps hv i hi;obtain ⟨p,qs,rfl,h1,h2⟩:=hv.cons_inv;cases v with
   | ow j =>
    rcases List.mem_cons.1 hi with rfl | hi
    ·simp only [VR] at h1;cases hp:X.π i with
     | none=>rw [hp] at h1;exact h1.elim
     | some a=>exact ⟨a,rfl⟩
    ·exact ih h2 i hi
   | own j a b =>
    rcases List.mem_cons.1 hi with rfl | hi
    ·simp only [VR] at h1;obtain ⟨pid,m,h3,_⟩:=h1;exact ⟨_,h3⟩
    ·exact ih h2 i hi
   | _=>exact ih h2 i hi
 unfold HH at hi;obtain ⟨v,hv,hi⟩:=List.mem_flatMap.1 hi
 have hmem : ∀ {vs:List V} {ps:List PV},VRL X vs ps->v∈vs -> ∃ p,VR X v p:=by
  intro vs
  induction vs with
  | nil=>intro ps _ hv;cases hv
  | cons u vs ih =>
   intro ps hvs hv;obtain ⟨p,qs,rfl,h1,h2⟩:=hvs.cons_inv;rcases List.mem_cons.1 hv with rfl | hv
   ·exact ⟨p,h1⟩
   ·exact ih h2 hv
 obtain ⟨p,hp⟩:=hmem ha hv;exact this hp.cells i hi
theorem NR {X:Cx} {h:H} {n id idP:Nat} (r:RH X h n) (w:Nw X n id idP) {f:FuncId} {sg:Sg} (T:FnOK P tab f sg) {args:List V} {ps:List PV} {K:V->H->Option β} (ha:VRL X args ps) (e:Hi h sg args K=some x) :
  ∃ v h' q hP' Y as lP rP up hR,K v h'=some x/\By X.h ps=some (as,lP)/\PD P tab (.fn f) none as Hk (.ret rP,up,hR)/\Pi.B8 idP lP X.h hR rP=some (q,hP')/\(∀ y∈lP,X.h.get y≠none)/\K5 X h n id idP h' hP' Y/\VR Y v q/\(SH sg.cod=false->hP'.get idP=none):=by
 unfold Hi at e;replace e:=C4 e;obtain ⟨hd,e⟩:=e;simp only [Bool.or_eq_false_iff,Bool.not_eq_false'] at hd;obtain ⟨hd1,hd2⟩:=hd
 let Q:Nat->Prop:=λpid=>X.Q pid \/ ∃ id∈HH args,∃ m,X.π id=some (.blk pid m)
 have e':=e;replace e:=Ed (Q:=Q) r (λ_ h => .inl h) (λid pid m hi hp => .inr ⟨id,hi,m,hp⟩) ha e;obtain ⟨y,e,hdx⟩:=e;replace e:=AX e;obtain ⟨h',hfr,e⟩:=e;replace e:=KC e;obtain ⟨z,hz,e⟩:=e;obtain ⟨as,lP,hpl,hdp,hmet⟩:=II (λ_ h => .inl h) hd1 hdx;obtain ⟨rP,up,hR,⟨N,hN⟩,hres⟩:=T y z hz as hdp;have hk:Kn X (HH args):=OM ha;obtain ⟨q,hP',Y,h1,h2,h3,h4⟩:=He r w.big w.hp w.hlt hd2 hres hmet hk hfr id;exact ⟨_,h',q,hP',Y,as,lP,rP,up,hR,e,hpl,⟨N,hN⟩,h1,λy hy=>(by obtain ⟨_,es,ex,fz,hg⟩:=hmet y hy;rw [hg];simp),h2,h3,λh=>h4 (.inl h)⟩
theorem SU {X:Cx} {h:H} {n id idP:Nat} (r:RH X h n) (w:Nw X n id idP) {f:FuncId} {sg:Sg} (T:FnL P tab f sg) {args:List V} {ps:List PV} {K:V->H->Option β} (ha:VRL X args ps) (e:Hi h sg args K=some x) :
  ∃ v h' q hP' Y as lP rP up hR,K v h'=some x/\By X.h ps=some (as,lP)/\PD P tab (.fn f) none as Hk (.ret rP,up,hR)/\Pi.B8 idP lP X.h hR rP=some (q,hP')/\(∀ y∈lP,X.h.get y≠none)/\K5 X h n id idP h' hP' Y/\VR Y v q/\hP'.get idP=none:=by
 unfold Hi at e;replace e:=C4 e;obtain ⟨hd,e⟩:=e;simp only [Bool.or_eq_false_iff,Bool.not_eq_false'] at hd;obtain ⟨hd1,hd2⟩:=hd
 let Q:Nat->Prop:=λpid=>X.Q pid \/ ∃ id∈HH args,∃ m,X.π id=some (.blk pid m)
 have e':=e;replace e:=Ed (Q:=Q) r (λ_ h => .inl h) (λid pid m hi hp => .inr ⟨id,hi,m,hp⟩) ha e;obtain ⟨y,e,hdx⟩:=e;replace e:=AX e;obtain ⟨h',hfr,e⟩:=e;replace e:=KC e;obtain ⟨z,hz,e⟩:=e;obtain ⟨as,lP,hpl,hdp,hmet⟩:=II (λ_ h => .inl h) hd1 hdx;obtain ⟨rP,up,hR,⟨N,hN⟩,hres,hno⟩:=T y z hz as hdp;have hk:Kn X (HH args):=OM ha;obtain ⟨q,hP',Y,h1,h2,h3,h4⟩:=He r w.big w.hp w.hlt hd2 hres hmet hk hfr id;exact ⟨_,h',q,hP',Y,as,lP,rP,up,hR,e,hpl,⟨N,hN⟩,h1,λy hy=>(by obtain ⟨_,es,ex,fz,hg⟩:=hmet y hy;rw [hg];simp),h2,h3,h4 (.inr hno)⟩
theorem NS {X:Cx} {h:H} {n id idP:Nat} (r:RH X h n) (w:Nw X n id idP) {f:FuncId} {sg:Sg} (T : ∀ dom g c fn,sg=⟨dom,[(false,.sl g c)],fn⟩->RowOK P tab f dom g c fn) {args:List V} {ps:List PV} {K:V->H->Option β} (ha:VRL X args ps) (e:SF h id sg args K=some x) :
  ∃ v h' q hP' Y as lP rP up hR,K v h'=some x/\By X.h ps=some (as,lP)/\PD P tab (.fn f) none as Hk (.ret rP,up,hR)/\Pi.B8 idP lP X.h hR rP=some (q,hP')/\(∀ y∈lP,X.h.get y≠none)/\K5 X h n id idP h' hP' Y/\VR Y v q/\(hP'.get idP=none\/Pi.AW q=[idP]):=by
 unfold SF at e;split at e
 ·rename_i dom g c fn;replace e:=C4 e;obtain ⟨hd,e⟩:=e;simp only [Bool.or_eq_false_iff,Bool.not_eq_false'] at hd;obtain ⟨hd1,hd2⟩:=hd
  let Q:Nat->Prop:=λpid=>X.Q pid \/ ∃ id∈HH args,∃ m,X.π id=some (.blk pid m)
  replace e:=Ed (Q:=Q) r (λ_ h => .inl h) (λid pid m hi hp => .inr ⟨id,hi,m,hp⟩) ha e;obtain ⟨y,e,hdx⟩:=e;replace e:=AX e;obtain ⟨h',hfr,e⟩:=e;replace e:=KC e;obtain ⟨z,hz,e⟩:=e;obtain ⟨as,lP,hpl,hdp,hmet⟩:=II (λ_ h => .inl h) hd1 hdx;obtain ⟨rP,up,hR,⟨N,hN⟩,hres⟩:=T _ _ _ _ rfl y z hz as hdp;obtain ⟨q,hP',Y,h1,h2,h3,h4⟩:=RB r w (Nat.le_of_ble_eq_true hd2) hres hmet (OM ha) hfr;exact ⟨_,_,q,hP',Y,as,lP,rP,up,hR,e,hpl,⟨N,hN⟩,h1,λy hy=>(by obtain ⟨_,es,ex,fz,hg⟩:=hmet y hy;rw [hg];simp),h2,h3,h4⟩
 ·cases e
theorem ZB {X:Cx} {h:H} {n id idP:Nat} (r:RH X h n) (w:Nw X n id idP) {f:FuncId} {sg:Sg} (T : ∀ dom g c fn,sg=⟨dom,[(false,.sl g c)],fn⟩->RowOK P tab f dom g c fn) (hsh:Bc tab f=false) {args:List V} {ps:List PV} {K:V->H->Option β} (ha:VRL X args ps) (e:SF h id sg args K=some x) :
  ∃ v h' q hP' Y,K v h'=some x/\(∃ N,∀ F n,N<=F->N<=n->Pi.Cj (Bc tab) (Pi.EQ P (Bc tab) F n) idP f ps X.h=some (.ret q,hP'))/\K5 X h n id idP h' hP' Y/\VR Y v q:=by
 obtain ⟨v,h',q,hP',Y,as,lP,rP,up,hR,e1,hpl,⟨N,hN⟩,h1,_,h2,h3,_⟩:=NS r w T ha e;refine ⟨v,h',q,hP',Y,e1,⟨N,λF n hF hn => ?_⟩,h2,h3⟩;unfold Pi.Cj;simp only [hsh,cond_false,hpl];rw [show ({ m:=.lf,nx:=0 }:Hp)=Hk from rfl,hN F n hF hn];simp only [h1];rfl
theorem ZC {X:Cx} {h:H} {n id idP:Nat} (r:RH X h n) (w:Nw X n id idP) {f:FuncId} {sg:Sg} (T:FnOK P tab f sg) (hsh:Bc tab f=false) {args:List V} {ps:List PV} {K:V->H->Option β} (ha:VRL X args ps) (e:Hi h sg args K=some x) :
  ∃ v h' q hP' Y,K v h'=some x/\(∃ N,∀ F n,N<=F->N<=n->Pi.Cj (Bc tab) (Pi.EQ P (Bc tab) F n) idP f ps X.h=some (.ret q,hP'))/\K5 X h n id idP h' hP' Y/\VR Y v q:=by
 obtain ⟨v,h',q,hP',Y,as,lP,rP,up,hR,e1,hpl,⟨N,hN⟩,h1,_,h2,h3,_⟩:=NR r w T ha e;refine ⟨v,h',q,hP',Y,e1,⟨N,λF n hF hn => ?_⟩,h2,h3⟩;unfold Pi.Cj;simp only [hsh,cond_false,hpl];rw [show ({ m:=.lf,nx:=0 }:Hp)=Hk from rfl,hN F n hF hn];simp only [h1];rfl
theorem fW {X:Cx} {fr:FrA} {fp:Pi.Fr} (f:FR X fr fp) {d:Option Nat} {v:V} {p:PV} {K:FrA->Option β} (hv:VR X v p) (e:MZ fr d v K=some x) : ∃ fr' fp',K fr'=some x/\fp.put d p=some fp'/\FR X fr' fp':=by
 unfold MZ at e;unfold Pi.Fr.put;split at e
 ·exact ⟨fr,fp,e,rfl,f⟩
 ·rename_i d;replace e:=A3 e;obtain ⟨hd,e⟩:=e;have hd':d<fr.nt:=by simpa using hd
  have hb:=f.big;exact ⟨_,{ fp with t:=T.put 20 fp.t d p },e,by simp only [f.nt,hd,cond_true],⟨f.t.put (by omega) hv,f.nt,f.big,f.ds,f.up,f.ro⟩⟩
theorem Pw {X:Cx} {ops:List Oper} {t:T V} {tP:T PV} (ht:TR X t tP) {nt:Nat} (hnt:nt<1048575) (hops : ∀ o∈ops,∀ d,o.dst=some d->d<nt) {g:Option (Nat×Bool)} {yes no:T V->Option β} (e:Qw ops t g yes no=some x) :
  ∃ t',TR X t' tP/\((yes t'=some x/\Pi.Cd ops tP g=true)\/(no t'=some x/\Pi.Cd ops tP g=false)):=by
 unfold Qw at e;unfold Pi.Cd;split at e
 ·exact ⟨t,ht,.inl ⟨e,rfl⟩⟩
 ·rename_i j want;split at e
  ·rename_i o ho;simp only [ho];split at e
   ·rename_i d hd;simp only [hd]
    have hdb:d<1048575:=by
     exact Nat.lt_trans (hops o (by rw [Au] at ho;exact List.mem_of_getElem? ho) d hd) hnt
    split at e
    ·rename_i b hb;obtain ⟨p,hp,hv⟩:=ht _ _ hb;simp only [VR] at hv;subst hv;simp only [hp]
     have same : ∀ c:Bool,b=c->TR X (T.put 20 t d (.bool c)) tP:=by
      intro c hc;subst hc;intro k v hk;have h20:(2:Nat) ^ 20-1=1048575:=by decide
      rw [T.get_put 20 t d _ k (by omega)] at hk;by_cases hkd:k=d
      ·rw [if_pos hkd] at hk;cases hk;rw [hkd];exact ⟨_,hp,by simp [VR]⟩
      ·rw [if_neg hkd] at hk;exact ht _ _ hk
     replace e:=ES e;rcases e with ⟨hc,e⟩ | ⟨hc,e⟩
     ·subst hc;refine ⟨_,same true rfl,?_⟩;cases want with
      | true=>exact .inl ⟨e,rfl⟩
      | false=>exact .inr ⟨e,rfl⟩
     ·subst hc;refine ⟨_,same false rfl,?_⟩;cases want with
      | true=>exact .inr ⟨e,rfl⟩
      | false=>exact .inl ⟨e,rfl⟩
    ·rename_i hb;obtain ⟨p,hp,hv⟩:=ht _ _ hb;simp only [VR,VRL] at hv;obtain ⟨ps,rfl,rfl⟩:=hv;simp only [hp];exact ⟨t,ht,.inr ⟨e,by first | rfl | trivial⟩⟩
    ·cases e
   ·cases e
  ·cases e
def Hl (X:Cx) (base baseP i k:Nat):Prop := ∀ j,i<=j->j<i+k->X.π (base+j)=none/\X.h.get (baseP+j)=none
theorem UG (R : RecAOK P tab rec) (T : TabOK P tab) {base baseP b bP : Nat} (hb : b <= base) (hbP : bP <= baseP) {all : List Oper} :
    ∀ {ops : List Oper} {i : Nat} {X : Cx} {fr : FrA} {fp : Pi.Fr} {h : H} {nx : Nat} {K : KA β}, ER P tab rec base all (Pi.MJ i ops) fr h nx K = some x ->
      RH X h nx -> nx <= 1048575 -> FR X fr fp -> (∀ o ∈ all, ∀ d, o.dst = some d -> d < fr.nt) -> Hl X base baseP i ops.length -> base + i + ops.length <= nx -> baseP + i + ops.length <= X.h.nx ->
      ∃ ex fr' h' nx' Y exP fp' hP', K ex fr' h' nx' = some x /\ (∃ N, ∀ F n, N <= F -> N <= n -> Pi.BW P (Bc tab) (Pi.EQ P (Bc tab) F n) baseP all (Pi.MJ i ops) fp X.h = some (exP, fp', hP')) /\ A7 b bP X h nx Y h' nx' hP' /\ FR Y fr' fp' /\ TS Y ex exP := by
  intro ops
  induction ops with
  | nil =>
    intro i X fr fp h nx K e r hn f _ _ _ _;exact ⟨.normal, fr, h, nx, X, .normal, fp, X.h, e, ⟨0, fun _ _ _ _ => rfl⟩, ⟨rfl, r, hn, Nat.le_refl _, Ext.refl _ _ _ _⟩, f, rfl⟩
  | cons o ops ih =>
    intro i X fr fp h nx K e r hn f hall hfr hlen hlenP;simp only [List.length_cons] at hlen hlenP hfr;have hfr0 := hfr i (Nat.le_refl _) (by omega);have w : Nw X nx (base + i) (baseP + i) := ⟨hfr0.1, by omega, hn, hfr0.2, by omega⟩
    have go : ∀ {v : V} {p : PV} {h1 : H} {nx1 : Nat} {X1 : Cx} {fr1 : FrA} {fp1 : Pi.Fr}, MZ fr1 o.dst v (fun fr => ER P tab rec base all (Pi.MJ (i + 1) ops) fr h1 nx1 K) = some x -> RH X1 h1 nx1 -> nx1 <= 1048575 -> nx <= nx1 -> FR X1 fr1 fp1 -> fr1.nt = fr.nt -> VR X1 v p -> Ext b bP X h X1 h1 -> Hl X1 base baseP (i + 1) ops.length ->
        (∀ {rr : Pi.Ex × Pi.Fr × Hp}, (∃ N, ∀ F n, N <= F -> N <= n -> (match fp1.put o.dst p with
          | some fr => Pi.BW P (Bc tab) (Pi.EQ P (Bc tab) F n) baseP all (Pi.MJ (i + 1) ops) fr X1.h
          | none => none) = some rr) -> ∃ N, ∀ F n, N <= F -> N <= n -> Pi.BW P (Bc tab) (Pi.EQ P (Bc tab) F n) baseP all (Pi.MJ i (o :: ops)) fp X.h = some rr) ->
        ∃ ex fr' h' nx' Y exP fp' hP', K ex fr' h' nx' = some x /\ (∃ N, ∀ F n, N <= F -> N <= n -> Pi.BW P (Bc tab) (Pi.EQ P (Bc tab) F n) baseP all (Pi.MJ i (o :: ops)) fp X.h = some (exP, fp', hP')) /\ A7 b bP X h nx Y h' nx' hP' /\ FR Y fr' fp' /\ TS Y ex exP := by
      intro v p h1 nx1 X1 fr1 fp1 e r1 hn1 hle f1 hnt hv hext hfr1 hP;obtain ⟨fr2, fp2, e2, Ad, f2⟩ := fW f1 hv e
      have hnt2 : fr2.nt = fr.nt := by rw [<- f2.nt, <- hnt, <- f1.nt]; unfold Pi.Fr.put at Ad; split at Ad
                                       · cases Ad; rfl
                                       · have := A3 Ad; cases this.2; rfl
      obtain ⟨ex, fr', h', nx', Y, exP, fp', hP', k1, k2, k3, k4, k5⟩ := ih e2 r1 hn1 f2 (fun o ho d hd => by rw [hnt2]; exact hall o ho d hd) hfr1 (by omega) (by have := hext.nx; omega);refine ⟨ex, fr', h', nx', Y, exP, fp', hP', k1, hP ?_, ⟨k3.hp, k3.rh, k3.big, Nat.le_trans hle k3.le, hext.trans k3.ext⟩, k4, k5⟩;obtain ⟨N, hN⟩ := k2;exact ⟨N, fun F n hF hn => by rw [Ad]; exact hN F n hF hn⟩
    have idxc : Pi.MJ i (o :: ops) = (i, o) :: Pi.MJ (i + 1) ops := rfl;rw [idxc] at e;unfold ER at e;have fg := Pw (nt := fr.nt) f.t f.big hall e;obtain ⟨t', ht', hcase⟩ := fg;have f' : FR X { fr with t := t' } fp := ⟨ht', f.nt, f.big, f.ds, f.up, f.ro⟩
    rcases hcase with ⟨e, hw⟩ | ⟨e, hw⟩
    ·
      have ev := Y8 r w ht' e
      have hP : ∀ F n, Pi.BW P (Bc tab) (Pi.EQ P (Bc tab) F n) baseP all (Pi.MJ i (o :: ops)) fp X.h = (match Pi.A0 P fp.t X.h (baseP + i) o with
        | some (.val v h) => match fp.put o.dst v with
          | some fr => Pi.BW P (Bc tab) (Pi.EQ P (Bc tab) F n) baseP all (Pi.MJ (i + 1) ops) fr h
          | none => none
        | some (.skip h) => match fp.put o.dst (.tup []) with
          | some fr => Pi.BW P (Bc tab) (Pi.EQ P (Bc tab) F n) baseP all (Pi.MJ (i + 1) ops) fr h
          | none => none
        | some (.dfr d) => match fp.ro with
          | none => (match ({ fp with ds := d :: fp.ds } : Pi.Fr).put o.dst (.tup []) with
            | some fr => Pi.BW P (Bc tab) (Pi.EQ P (Bc tab) F n) baseP all (Pi.MJ (i + 1) ops) fr X.h
            | none => none)
          | some _ => none
        | some (.call f args) => match Pi.Cj (Bc tab) (Pi.EQ P (Bc tab) F n) (baseP + i) f args X.h with
          | some (.ret v, h) => (match fp.put o.dst v with
            | some fr => Pi.BW P (Bc tab) (Pi.EQ P (Bc tab) F n) baseP all (Pi.MJ (i + 1) ops) fr h
            | none => none)
          | some (.pan [{ v := e, recovered := false }], h) => some (.panic e, fp, h)
          | _ => none
        | some (.yield l args) => match Pi.EQ P (Bc tab) F n (.yl l) none args X.h with
          | some (.ret v, _, h) => (match fp.put o.dst v with
            | some fr => Pi.BW P (Bc tab) (Pi.EQ P (Bc tab) F n) baseP all (Pi.MJ (i + 1) ops) fr h
            | none => none)
          | _ => none
        | some (.pan v) => some (.panic v, fp, X.h)
        | some .rcv => match fp.ro with
          | some _ => none
          | none => match fp.up with
            | some (.pan ({ v, recovered := false } :: older)) => (match ({ fp with up := some (.pan ({ v, recovered := true } :: older)) } : Pi.Fr).put o.dst v with
              | some fr => Pi.BW P (Bc tab) (Pi.EQ P (Bc tab) F n) baseP all (Pi.MJ (i + 1) ops) fr X.h
              | none => none)
            | _ => (match fp.put o.dst .nili with
              | some fr => Pi.BW P (Bc tab) (Pi.EQ P (Bc tab) F n) baseP all (Pi.MJ (i + 1) ops) fr X.h
              | none => none)
        | none => none) := by
        intro F n;rw [idxc, Pi.BW, hw]; rfl
      generalize Pi.A0 P fp.t X.h (baseP + i) o = op at ev hP
      have fresh1 : ∀ {Y : Cx} {h1 : H}, St X h (base + i) (baseP + i) Y h1 -> Hl Y base baseP (i + 1) ops.length := fun s j h1 h2 => by
        obtain ⟨a1, a2⟩ := hfr j (by omega) (by omega);exact ⟨s.pin _ (by omega) a1, s.hpn _ (by omega) a2⟩
      cases ev with
      | val e ok hv =>
        obtain ⟨y1, y2, y3⟩ := ok;refine go e y2 hn (Nat.le_refl _) (f'.mono y3.up) rfl hv (y3.ext (by omega) (by omega)) (fresh1 y3) ?_;rintro rr ⟨N, hN⟩;refine ⟨N, fun F n hF hn => ?_⟩;rw [hP];simp only;rw [<- y1]; exact hN F n hF hn
      | skip e ok =>
        obtain ⟨y1, y2, y3⟩ := ok;refine go e y2 hn (Nat.le_refl _) (f'.mono y3.up) rfl (p := .tup []) (by simp only [VR]; exact ⟨[], rfl, .nil⟩) (y3.ext (by omega) (by omega)) (fresh1 y3) ?_;rintro rr ⟨N, hN⟩;refine ⟨N, fun F n hF hn => ?_⟩;rw [hP];simp only;rw [<- y1]; exact hN F n hF hn
      | dfr e hd =>
        dsimp only at e;split at e
        · rename_i hro
          have hroP : fp.ro = none := by have := f.ro; rw [hro] at this; exact this
          refine go (fp1 := { fp with ds := _ :: fp.ds }) e r hn (Nat.le_refl _) ⟨ht', f.nt, f.big, .cons hd f.ds, f.up, f.ro⟩ rfl (p := .tup []) (by simp only [VR]; exact ⟨[], rfl, .nil⟩) (Ext.refl _ _ _ _) (fun j h1 h2 => hfr j (by omega) (by omega)) ?_
          rintro rr ⟨N, hN⟩;refine ⟨N, fun F n hF hn => ?_⟩;rw [hP];simp only [hroP];have := hN F n hF hn;simp only [hroP] at this;exact this
        · cases e
      | @call g as ps e ha =>
        dsimp only at e;split at e
        · cases e
        · rename_i sg hsg
          replace e := C4 e; obtain ⟨hlt, e⟩ := e;have hlt : Nat.blt g HI = true := by simpa using hlt
          have hsh : Bc tab g = false := by unfold Bc; rw [hsg]; rfl
          split at e
          · rename_i sg' hR
            obtain ⟨v, h1, q, hP1, Y, e1, ⟨N0, hN0⟩, ⟨y1, y2, y3⟩, hv⟩ := ZB r w (fun dom g' c fn hh => T.getR (by rw [<- hh]; exact hR)) hsh ha e;refine go e1 y2 hn (Nat.le_refl _) (f'.mono y3.up) rfl hv (y3.ext (by omega) (by omega)) (fresh1 y3) ?_;rintro rr ⟨N, hN⟩;refine ⟨max N0 N, fun F n hF hn => ?_⟩;rw [hP];simp only [hN0 F n (by omega) (by omega)];rw [<- y1]; exact hN F n (by omega) (by omega)
          · obtain ⟨v, h1, q, hP1, Y, e1, ⟨N0, hN0⟩, ⟨y1, y2, y3⟩, hv⟩ := ZC r w (T.get hlt hsg) hsh ha e
            refine go e1 y2 hn (Nat.le_refl _) (f'.mono y3.up) rfl hv (y3.ext (by omega) (by omega)) (fresh1 y3) ?_;rintro rr ⟨N, hN⟩;refine ⟨max N0 N, fun F n hF hn => ?_⟩;rw [hP];simp only [hN0 F n (by omega) (by omega)];rw [<- y1]; exact hN F n (by omega) (by omega)
        · rename_i hsg
          obtain ⟨o', up', h1, nx1, Y, oP, upP', hP1, e1, ⟨N0, hN0⟩, run, ho, hu⟩ := R.fn e r hn ha (show UMR X none none from rfl)
          have hcall : ∀ F n, N0 <= F -> N0 <= n -> Pi.Cj (Bc tab) (Pi.EQ P (Bc tab) F n) (baseP + i) g ps X.h = some (oP, hP1) := fun F n hF hn => by
            unfold Pi.Cj;have hsh : Bc tab g = true := by unfold Bc; rw [hsg]; rfl
            simp only [hsh, cond_true, hN0 F n hF hn]
          have hup := run.ext.full r (Nat.le_refl _);have hext : Ext b bP X h Y h1 := run.ext.le (by omega) (by omega)
          have hfr1 : Hl Y base baseP (i + 1) ops.length := fun j h1 h2 => by
            obtain ⟨a1, a2⟩ := hfr j (by omega) (by omega);exact ⟨run.ext.pin _ (by omega) a1, run.ext.hpn _ (by omega) a2⟩
          cases o' with
          | ret v =>
            dsimp only at e1;obtain ⟨p, rfl, hv⟩ := ho;refine go e1 run.rh run.big run.le (f'.mono hup) rfl hv hext hfr1 ?_;rintro rr ⟨N, hN⟩;refine ⟨max N0 N, fun F n hF hn => ?_⟩;rw [hP];simp only [hcall F n (by omega) (by omega)];rw [<- run.hp]; exact hN F n (by omega) (by omega)
          | pan ch =>
            obtain ⟨c, rfl, hch⟩ := ho
            match ch, hch, e1 with
            | [{ v := v, recovered := false }], hch, e1 =>
              obtain ⟨⟨vP, rP⟩, c', rfl, ⟨h3, h4⟩, h5⟩ := L2.cons_inv hch;rw [L2.nil_inv h5] at hcall;simp only at h3 h4; subst h4;refine ⟨_, _, h1, nx1, Y, .panic vP, fp, hP1, e1, ⟨N0, fun F n hF hn => ?_⟩, ⟨run.hp, run.rh, run.big, run.le, hext⟩, f'.mono hup, ⟨vP, rfl, h3⟩⟩;rw [hP];simp only [hcall F n hF hn]
            | [], _, e1 => cases e1
            | [{ v := v, recovered := true }], _, e1 => cases e1
            | ⟨av, ar⟩ :: b :: c, _, e1 => cases ar <;> cases e1
      | @yield l lP m as ps e hl ha =>
        dsimp only at e;obtain ⟨o', up', h1, nx1, Y, oP, upP', hP1, e1, ⟨N0, hN0⟩, run, ho, hu⟩ := R.yl e r hn hl ha;have hup := run.ext.full r (Nat.le_refl _);have hext : Ext b bP X h Y h1 := run.ext.le (by omega) (by omega)
        have hfr1 : Hl Y base baseP (i + 1) ops.length := fun j h1 h2 => by
          obtain ⟨a1, a2⟩ := hfr j (by omega) (by omega);exact ⟨run.ext.pin _ (by omega) a1, run.ext.hpn _ (by omega) a2⟩
        cases o' with
        | ret v =>
          dsimp only at e1;obtain ⟨p, rfl, hv⟩ := ho;refine go e1 run.rh run.big run.le (f'.mono hup) rfl hv hext hfr1 ?_;rintro rr ⟨N, hN⟩;refine ⟨max N0 N, fun F n hF hn => ?_⟩;rw [hP];simp only [hN0 F n (by omega) (by omega)];rw [<- run.hp]; exact hN F n (by omega) (by omega)
        | pan ch => cases e1
      | pan e hv =>
        refine ⟨_, _, h, nx, X, .panic _, fp, X.h, e, ⟨0, fun F n _ _ => by rw [hP]⟩, ⟨rfl, r, hn, Nat.le_refl _, Ext.refl _ _ _ _⟩, f', ⟨_, rfl, hv⟩⟩
      | rcv e =>
        dsimp only at e;split at e
        · cases e
        · rename_i hro
          have hroP : fp.ro = none := by have := f.ro; rw [hro] at this; exact this
          split at e
          · rename_i v older hup
            have hu := f.up;rw [hup] at hu;obtain ⟨c, hc, hch⟩ := hu;obtain ⟨⟨vP, rP⟩, c', rfl, ⟨h3, h4⟩, h5⟩ := L2.cons_inv hch;simp only at h3 h4; subst h4;refine go (fp1 := { fp with up := some (.pan ({ v := vP, recovered := true } :: c')) }) e r hn (Nat.le_refl _) ⟨ht', f.nt, f.big, f.ds, ⟨_, rfl, .cons ⟨h3, rfl⟩ h5⟩, f.ro⟩ rfl h3 (Ext.refl _ _ _ _) (fun j h1 h2 => hfr j (by omega) (by omega)) ?_
            rintro rr ⟨N, hN⟩;refine ⟨N, fun F n hF hn => ?_⟩;rw [hP];simp only [hroP, hc];have := hN F n hF hn;simp only [hroP] at this;exact this
          · rename_i hne
            refine go e r hn (Nat.le_refl _) f' rfl (p := .nili) (by simp [VR]) (Ext.refl _ _ _ _) (fun j h1 h2 => hfr j (by omega) (by omega)) ?_;rintro rr ⟨N, hN⟩;refine ⟨N, fun F n hF hn => ?_⟩;rw [hP];simp only [hroP];have := hN F n hF hn;have hu := f.up;cases hfu : fr.up with
            | none =>
              rw [hfu] at hu;rw [show fp.up = none from hu]; exact this
            | some u =>
              rw [hfu] at hu;cases u with
              | ret => rw [show fp.up = some .ret from hu]; exact this
              | pan ch =>
                obtain ⟨c, hc, hch⟩ := hu;rw [hc];cases hch with
                | nil => exact this
                | cons a t =>
                  rename_i a1 b1 l1 m1;obtain ⟨bv, br⟩ := b1;cases br with
                  | true => exact this
                  | false =>
                    obtain ⟨av, ar⟩ := a1;have : ar = false := a.2;subst this;exact absurd hfu (hne _ _)
    ·
      refine go e r hn (Nat.le_refl _) f' rfl (p := .tup []) (by simp only [VR]; exact ⟨[], rfl, .nil⟩) (Ext.refl _ _ _ _) (fun j h1 h2 => hfr j (by omega) (by omega)) ?_;rintro rr ⟨N, hN⟩;refine ⟨N, fun F n hF hn => ?_⟩;rw [idxc, Pi.BW, hw];exact hN F n hF hn
end
end Go.Proofs.YthpkjfabdccpdaaGreat.Sv
namespace Go.Proofs.YthpkjfabdccpdaaGreat.Sv
open Go.Proofs.YthpkjfabdccpdaaGreat.Pi (PV T Hp Blk DF UM PE Au A8 AM BO By)
structure Kp (W:List Nat) (a b:Pi.Fr):Prop where
 t : ∀ k,k ∉ W->b.t.get k=a.t.get k
 nt:b.nt=a.nt
 ro:b.ro=a.ro
 up:a.up=none->b.up=none
 ds : ∃ p,b.ds=p++a.ds
theorem Kp.refl (W:List Nat) (a:Pi.Fr):Kp W a a:=⟨λ_ _=>rfl,rfl,rfl,λh=>h,[],rfl⟩
theorem Kp.trans {W:List Nat} {a b c:Pi.Fr} (h:Kp W a b) (k:Kp W b c):Kp W a c:=by
 obtain ⟨p,hp⟩:=h.ds;obtain ⟨q,hq⟩:=k.ds;exact ⟨λi hi=>(k.t i hi).trans (h.t i hi),k.nt.trans h.nt,k.ro.trans h.ro,λhu=>k.up (h.up hu),q++p,by rw [hq,hp,List.append_assoc]⟩
theorem Kp.mono {W V:List Nat} (hw : ∀ k∈W,k∈V) {a b:Pi.Fr} (h:Kp W a b):Kp V a b:=⟨λk hk=>h.t k λhh=>hk (hw k hh),h.nt,h.ro,h.up,h.ds⟩
theorem Kp.put {W:List Nat} {a b:Pi.Fr} (hnt:a.nt<1048575) {d:Option Nat} (hd : ∀ i,d=some i->i∈W) {v:PV} (e:a.put d v=some b):Kp W a b:=by
 unfold Pi.Fr.put at e;split at e
 ·cases e;exact Kp.refl _ _
 ·rename_i i;replace e:=A3 e;obtain ⟨hi,e⟩:=e;cases e;have hi':i<a.nt:=by simpa using hi
  have h20:(2:Nat) ^ 20-1=1048575:=by decide
  refine ⟨λk hk => ?_,rfl,rfl,λh=>h,[],rfl⟩;show (T.put 20 a.t i v).get k=_;rw [T.get_put 20 a.t i v k (by omega),if_neg];intro hh;subst hh;exact hk (hd k rfl)
section
variable {P:Program} {sh:FuncId->Bool} {rec:Pi.Np}
theorem Px {base:Nat} {all:List Oper} {W:List Nat} : ∀ {l:List (Nat×Oper)} {fr fr':Pi.Fr} {h h':Hp} {ex:Pi.Ex},fr.nt<1048575->(∀ p∈l,∀ i,p.2.dst=some i->i∈W)->Pi.BW P sh rec base all l fr h=some (ex,fr',h')->Kp W fr fr'
 | [],fr,fr',h,h',ex,hnt,hW,e=>by cases e;exact Kp.refl _ _
 | (i,o)::l,fr,fr',h,h',ex,hnt,hW,e=>by
  have hW' : ∀ p∈l,∀ i,p.2.dst=some i->i∈W:=λp hp=>hW p (by simp [hp]);have ho : ∀ j,o.dst=some j->j∈W:=hW (i,o) (by simp)
  have go : ∀ {a b:Pi.Fr} {v:PV} {hh:Hp},Kp W fr a->a.put o.dst v=some b->Pi.BW P sh rec base all l b hh=some (ex,fr',h')->Kp W fr fr':=λha hb e=>by
   have hb':=Kp.put (W:=W) (by rw [ha.nt];exact hnt) ho hb;exact (ha.trans hb').trans (Px (by rw [hb'.nt,ha.nt];exact hnt) hW' e)
  unfold Pi.BW at e;replace e:=E7 e;rcases e with ⟨_,e⟩ | ⟨_,e⟩
  ·split at e
   ·split at e
    ·rename_i hp;exact go (Kp.refl _ _) hp e
    ·cases e
   ·split at e
    ·rename_i hp;exact go (Kp.refl _ _) hp e
    ·cases e
   ·split at e
    ·split at e
     ·rename_i hp;exact go (a:={ fr with ds:=_::fr.ds }) ⟨λ_ _=>rfl,rfl,rfl,λh=>h,[_],rfl⟩ hp e
     ·cases e
    ·cases e
   ·split at e
    ·split at e
     ·rename_i hp;exact go (Kp.refl _ _) hp e
     ·cases e
    ·cases e;exact Kp.refl _ _
    ·cases e
   ·split at e
    ·split at e
     ·rename_i hp;exact go (Kp.refl _ _) hp e
     ·cases e
    ·cases e
   ·cases e;exact Kp.refl _ _
   ·split at e
    ·cases e
    ·split at e
     ·rename_i hu;split at e
      ·rename_i hp;exact go (a:={ t:=fr.t,nt:=fr.nt,ds:=fr.ds,up:=some _,ro:=fr.ro }) ⟨λ_ _=>rfl,rfl,rfl,λh=>(by rw [hu] at h;cases h),[],rfl⟩ hp e
      ·cases e
     ·split at e
      ·rename_i hp;exact go (Kp.refl _ _) hp e
      ·cases e
   ·cases e
  ·split at e
   ·rename_i hp;exact go (Kp.refl _ _) hp e
   ·cases e
theorem HN {base nt:Nat} {all:List Oper} {W:List Nat} (hnt:nt<1048575) : ∀ {i:Nat} {ops:List Oper} {ms:List Pi.Mk} {past:List (Nat×List Nat×List Nat)} {t t':T PV} {h h':Hp},(∀ o∈ops,∀ i,o.dst=some i->i∈W)->Pi.BP P rec base nt all i ops ms past t h=some (t',h') -> ∀ k,k ∉ W->t'.get k=t.get k
 | i,[],ms,past,t,t',h,h',hW,e,k,hk=>by
  have:(t,h)=(t',h'):=by cases ms<;>simpa [Pi.BP] using e
  cases this;rfl
 | i,o::ops,[],past,t,t',h,h',hW,e,k,hk=>by cases e
 | i,o::ops,m::ms,past,t,t',h,h',hW,e,k,hk=>by
  have hW' : ∀ o∈ops,∀ i,o.dst=some i->i∈W:=λp hp=>hW p (by simp [hp]);have h20:(2:Nat) ^ 20-1=1048575:=by decide
  have put : ∀ {d:Nat} {v:PV},o.dst=some d->Nat.blt d nt=true->(T.put 20 t d v).get k=t.get k:=λhd hb=>by
   have hb':=Nat.le_of_ble_eq_true hb;rw [T.get_put 20 t _ _ k (by omega),if_neg];intro hh;subst hh;exact hk (hW o (by simp) _ hd)
  unfold Pi.BP at e;replace e:=E7 e;rcases e with ⟨_,e⟩ | ⟨_,e⟩
  ·split at e
   ·replace e:=A3 e;obtain ⟨_,e⟩:=e;split at e
    ·rename_i d hd;replace e:=A3 e;obtain ⟨hb,e⟩:=e;rw [HN hnt hW' e k hk,put hd hb]
    ·exact HN hnt hW' e k hk
   ·cases e
  ·split at e
   ·rename_i d hd;replace e:=A3 e;obtain ⟨hb,e⟩:=e;rw [HN hnt hW' e k hk,put hd hb]
   ·exact HN hnt hW' e k hk
theorem Vx : ∀ {l:List Oper} {i:Nat} {p:Nat×Oper},p∈Pi.MJ i l->p.2∈l
 | [],i,p,h=>by cases h
 | o::l,i,p,h=>by
  rcases List.mem_cons.1 h with rfl | h
  ·simp
  ·exact List.mem_cons_of_mem _ (Vx h)
theorem FT : ∀ {n:Nat} {c:Code} {fr fr':Pi.Fr} {h h':Hp} {ex:Pi.Ex},fr.nt<1048575->Pi.exec P sh rec n c fr h=some (ex,fr',h')->Kp (Eu c) fr fr'
 | 0,_,_,_,_,_,_,_,e=>by cases e
 | n+1,c,fr,fr',h,h',ex,hnt,e=>by
  cases c with
  | skip=>cases e;exact Kp.refl _ _
  | label l=>cases e;exact Kp.refl _ _
  | seq a b =>
   simp only [Pi.exec] at e;split at e
   ·rename_i fr1 h1 e1;have k1:=FT hnt e1;have k2:=FT (by rw [k1.nt];exact hnt) e;exact (k1.mono λk hk=>List.mem_append_left _ hk).trans (k2.mono λk hk=>List.mem_append_right _ hk)
   ·exact (FT hnt e).mono λk hk=>List.mem_append_left _ hk
  | cond c a b =>
   simp only [Pi.exec] at e;split at e
   ·exact (FT hnt e).mono λk hk=>List.mem_append_left _ hk
   ·exact (FT hnt e).mono λk hk=>List.mem_append_right _ hk
   ·cases e
  | block id b =>
   simp only [Pi.exec] at e;split at e
   ·rename_i j fr1 h1 e1;have k1:=FT hnt e1;replace e:=E7 e;rcases e with ⟨_,e⟩ | ⟨_,e⟩<;>(cases e;exact k1)
   ·exact FT (c:=b) hnt e
  | loop b =>
   simp only [Pi.exec] at e;split at e
   ·rename_i fr1 h1 e1;have k1:=FT hnt e1;exact k1.trans (FT (c:=.loop b) (by rw [k1.nt];exact hnt) e)
   ·exact FT (c:=b) hnt e
  | scope b =>
   simp only [Pi.exec] at e;split at e
   ·cases e
   ·exact FT (c:=b) hnt e
  | exit id=>cases e;exact Kp.refl _ _
  | goto l=>cases e;exact Kp.refl _ _
  | ret=>cases e;exact Kp.refl _ _
  | refuse w=>cases e
  | region id ops draw =>
   simp only [Pi.exec] at e;have hW : ∀ o∈ops.toList,∀ i,o.dst=some i->i∈Eu (.region id ops draw):=λo ho i hi=>List.mem_filterMap.2 ⟨o,ho,hi⟩;replace e:=E7 e;rcases e with ⟨_,e⟩ | ⟨_,e⟩
   ·replace e:=A3 e;obtain ⟨_,e⟩:=e;split at e
    ·rename_i fr1 h1 e1;cases e;unfold Pi.drawn at e1;split at e1
     ·split at e1
      ·rename_i t1 h1 e2;cases e1;exact ⟨HN hnt hW e2,rfl,rfl,λh=>h,[],rfl⟩
      ·cases e1
     ·cases e1
    ·cases e
   ·exact Px hnt (λp hp i hi=>hW p.2 (Vx hp) i hi) e
  | rangeFunc g ps asg body =>
   simp only [Pi.exec] at e;have fin : ∀ {m:List DF},Kp (Eu (.rangeFunc g ps asg body)) fr { fr with ds:=m++fr.ds }:=fun {m}=>⟨λ_ _=>rfl,rfl,rfl,λh=>h,m,rfl⟩
   split at e
   ·split at e
    ·split at e
     ·split at e
      ·split at e
       ·split at e
        ·replace e:=C4 e;obtain ⟨_,e⟩:=e;split at e
         ·split at e<;>first | (cases e;exact fin) | cases e
         ·cases e
        ·cases e
       ·cases e
      ·cases e
     ·cases e
    ·cases e
   ·cases e
end
end Go.Proofs.YthpkjfabdccpdaaGreat.Sv
